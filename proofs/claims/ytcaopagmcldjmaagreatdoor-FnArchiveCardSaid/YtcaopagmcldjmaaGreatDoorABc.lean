/- A part of a proof: walks of functions and lemmas of our own. No conditions. -/
import Derived.Test.YtcaopagmcldjmaaGreatDoorAAl
import Derived.Test.YtcaopagmcldjmaaGreatDoorAAk
import Derived.Test.YtcaopagmcldjmaaGreatDoorAAv
import Derived.Test.YtcaopagmcldjmaaGreatDoorAAu
import Derived.Test.YtcaopagmcldjmaaGreatDoorAAx
import Derived.Test.YtcaopagmcldjmaaGreatDoorAAp
import Derived.Test.YtcaopagmcldjmaaGreatDoorABb
set_option linter.unusedSectionVars false
set_option linter.unusedVariables false
set_option linter.unusedSimpArgs false
set_option maxHeartbeats 1000000
namespace Go.Ab
open Go Go.Proofs
def y0w (a0:l00Src) (q3:l00Src) (q4:l00Src) (q6:l00Src) (s1:Int×l00Src×List Int):Except (Sum (Character×l00Src) (Int×l00Src×List Int)) (Int×l00Src×List Int):=
 (bif decide (1<s1.1)then(bnd ((za s1.2.1 3).2) fun q20=>.ok (IntKind.wrap .i64 (s1.1-1),q20,s1.2.2++([IntKind.wrap .i64 (1+((za s1.2.1 3).1))]:List Int)))else .error (.inr (s1.1,s1.2.1,s1.2.2)))
def y9w (a0:l00Src) (q3:l00Src) (q4:l00Src) (q30:l00Src) (s2:Int×l00Src×List Int):Except (Sum (Character×l00Src) (Int×l00Src×List Int)) (Int×l00Src×List Int):=
 (bif decide (1<s2.1)then(bnd ((za s2.2.1 3).2) fun q44=>.ok (IntKind.wrap .i64 (s2.1-1),q44,s2.2.2++([IntKind.wrap .i64 (1+((za s2.2.1 3).1))]:List Int)))else .error (.inr (s2.1,s2.2.1,s2.2.2)))
def y6y (a0:l00Src) (q3:l00Src) (q4:l00Src) (q54:l00Src) (s3:Int×l00Src×List Int):Except (Sum (Character×l00Src) (Int×l00Src×List Int)) (Int×l00Src×List Int):=
 (bif decide (1<s3.1)then(bnd ((za s3.2.1 3).2) fun q68=>.ok (IntKind.wrap .i64 (s3.1-1),q68,s3.2.2++([IntKind.wrap .i64 (1+((za s3.2.1 3).1))]:List Int)))else .error (.inr (s3.1,s3.2.1,s3.2.2)))
def zj (a0:l00Src):Character×l00Src:=
 (bnd ((za a0 8).2) fun q3=>(bnd ((ze q3).2) fun q4=>(bif ((IntKind.wrap .i64 (1+((za a0 8).1))) == 2)then(bnd ((za q4 4).2) fun q6=>(match yeb (y0w a0 q3 q4 q6) (((((za q4 4).1)).toNat)+1) (((za q4 4).1),q6,([]:List Int))with|.error (.inl e)=>e|.error (.inr s1)=>(bif (!(zlc s1.2.2))then(bif (zkb ({ Kind:=IntKind.wrap .i64 (1+((za a0 8).1)),Group:=([2]:List Int),Letter:=[],Colors:=((ze q3).1),Period:=0:Character }))then({ Kind:=IntKind.wrap .i64 (1+((za a0 8).1)),Group:=([2]:List Int),Letter:=[],Colors:=((ze q3).1),Period:=0:Character },s1.2.1)else(bnd ((zb s1.2.1 ([0,5,20,50,100,1,200]:List Int)).2) fun q26=>(bif ((IntKind.wrap .i64 (1+((za a0 8).1))) == 3)then({ Kind:=IntKind.wrap .i64 (1+((za a0 8).1)),Group:=([2]:List Int),Letter:=[],Colors:=((ze q3).1),Period:=IntKind.wrap .i64 ((zu 600 (IntKind.wrap .i64 ((zp ({ Kind:=IntKind.wrap .i64 (1+((za a0 8).1)),Group:=([2]:List Int),Letter:=[],Colors:=((ze q3).1),Period:=0:Character }))+((zb s1.2.1 ([0,5,20,50,100,1,200]:List Int)).1))))+((zu 600 (IntKind.wrap .i64 ((zp ({ Kind:=IntKind.wrap .i64 (1+((za a0 8).1)),Group:=([2]:List Int),Letter:=[],Colors:=((ze q3).1),Period:=0:Character }))+((zb s1.2.1 ([0,5,20,50,100,1,200]:List Int)).1)))).tmod 2)):Character },q26)else({ Kind:=IntKind.wrap .i64 (1+((za a0 8).1)),Group:=([2]:List Int),Letter:=[],Colors:=((ze q3).1),Period:=(zu 600 (IntKind.wrap .i64 ((zp ({ Kind:=IntKind.wrap .i64 (1+((za a0 8).1)),Group:=([2]:List Int),Letter:=[],Colors:=((ze q3).1),Period:=0:Character }))+((zb s1.2.1 ([0,5,20,50,100,1,200]:List Int)).1)))):Character },q26))))else(bif (zkb ({ Kind:=IntKind.wrap .i64 (1+((za a0 8).1)),Group:=s1.2.2,Letter:=[],Colors:=((ze q3).1),Period:=0:Character }))then({ Kind:=IntKind.wrap .i64 (1+((za a0 8).1)),Group:=s1.2.2,Letter:=[],Colors:=((ze q3).1),Period:=0:Character },s1.2.1)else(bnd ((zb s1.2.1 ([0,5,20,50,100,1,200]:List Int)).2) fun q28=>(bif ((IntKind.wrap .i64 (1+((za a0 8).1))) == 3)then({ Kind:=IntKind.wrap .i64 (1+((za a0 8).1)),Group:=s1.2.2,Letter:=[],Colors:=((ze q3).1),Period:=IntKind.wrap .i64 ((zu 600 (IntKind.wrap .i64 ((zp ({ Kind:=IntKind.wrap .i64 (1+((za a0 8).1)),Group:=s1.2.2,Letter:=[],Colors:=((ze q3).1),Period:=0:Character }))+((zb s1.2.1 ([0,5,20,50,100,1,200]:List Int)).1))))+((zu 600 (IntKind.wrap .i64 ((zp ({ Kind:=IntKind.wrap .i64 (1+((za a0 8).1)),Group:=s1.2.2,Letter:=[],Colors:=((ze q3).1),Period:=0:Character }))+((zb s1.2.1 ([0,5,20,50,100,1,200]:List Int)).1)))).tmod 2)):Character },q28)else({ Kind:=IntKind.wrap .i64 (1+((za a0 8).1)),Group:=s1.2.2,Letter:=[],Colors:=((ze q3).1),Period:=(zu 600 (IntKind.wrap .i64 ((zp ({ Kind:=IntKind.wrap .i64 (1+((za a0 8).1)),Group:=s1.2.2,Letter:=[],Colors:=((ze q3).1),Period:=0:Character }))+((zb s1.2.1 ([0,5,20,50,100,1,200]:List Int)).1)))):Character },q28)))))|.ok _=>default))else(bif ((IntKind.wrap .i64 (1+((za a0 8).1))) == 4)then(bnd ((za q4 4).2) fun q30=>(match yeb (y9w a0 q3 q4 q30) (((((za q4 4).1)).toNat)+1) (((za q4 4).1),q30,([]:List Int))with|.error (.inl e)=>e|.error (.inr s2)=>(bif (!(zlc s2.2.2))then(bif (zkb ({ Kind:=IntKind.wrap .i64 (1+((za a0 8).1)),Group:=([2]:List Int),Letter:=[],Colors:=((ze q3).1),Period:=0:Character }))then({ Kind:=IntKind.wrap .i64 (1+((za a0 8).1)),Group:=([2]:List Int),Letter:=[],Colors:=((ze q3).1),Period:=0:Character },s2.2.1)else(bnd ((zb s2.2.1 ([0,5,20,50,100,1,200]:List Int)).2) fun q50=>(bif ((IntKind.wrap .i64 (1+((za a0 8).1))) == 3)then({ Kind:=IntKind.wrap .i64 (1+((za a0 8).1)),Group:=([2]:List Int),Letter:=[],Colors:=((ze q3).1),Period:=IntKind.wrap .i64 ((zu 600 (IntKind.wrap .i64 ((zp ({ Kind:=IntKind.wrap .i64 (1+((za a0 8).1)),Group:=([2]:List Int),Letter:=[],Colors:=((ze q3).1),Period:=0:Character }))+((zb s2.2.1 ([0,5,20,50,100,1,200]:List Int)).1))))+((zu 600 (IntKind.wrap .i64 ((zp ({ Kind:=IntKind.wrap .i64 (1+((za a0 8).1)),Group:=([2]:List Int),Letter:=[],Colors:=((ze q3).1),Period:=0:Character }))+((zb s2.2.1 ([0,5,20,50,100,1,200]:List Int)).1)))).tmod 2)):Character },q50)else({ Kind:=IntKind.wrap .i64 (1+((za a0 8).1)),Group:=([2]:List Int),Letter:=[],Colors:=((ze q3).1),Period:=(zu 600 (IntKind.wrap .i64 ((zp ({ Kind:=IntKind.wrap .i64 (1+((za a0 8).1)),Group:=([2]:List Int),Letter:=[],Colors:=((ze q3).1),Period:=0:Character }))+((zb s2.2.1 ([0,5,20,50,100,1,200]:List Int)).1)))):Character },q50))))else(bif (zkb ({ Kind:=IntKind.wrap .i64 (1+((za a0 8).1)),Group:=s2.2.2,Letter:=[],Colors:=((ze q3).1),Period:=0:Character }))then({ Kind:=IntKind.wrap .i64 (1+((za a0 8).1)),Group:=s2.2.2,Letter:=[],Colors:=((ze q3).1),Period:=0:Character },s2.2.1)else(bnd ((zb s2.2.1 ([0,5,20,50,100,1,200]:List Int)).2) fun q52=>(bif ((IntKind.wrap .i64 (1+((za a0 8).1))) == 3)then({ Kind:=IntKind.wrap .i64 (1+((za a0 8).1)),Group:=s2.2.2,Letter:=[],Colors:=((ze q3).1),Period:=IntKind.wrap .i64 ((zu 600 (IntKind.wrap .i64 ((zp ({ Kind:=IntKind.wrap .i64 (1+((za a0 8).1)),Group:=s2.2.2,Letter:=[],Colors:=((ze q3).1),Period:=0:Character }))+((zb s2.2.1 ([0,5,20,50,100,1,200]:List Int)).1))))+((zu 600 (IntKind.wrap .i64 ((zp ({ Kind:=IntKind.wrap .i64 (1+((za a0 8).1)),Group:=s2.2.2,Letter:=[],Colors:=((ze q3).1),Period:=0:Character }))+((zb s2.2.1 ([0,5,20,50,100,1,200]:List Int)).1)))).tmod 2)):Character },q52)else({ Kind:=IntKind.wrap .i64 (1+((za a0 8).1)),Group:=s2.2.2,Letter:=[],Colors:=((ze q3).1),Period:=(zu 600 (IntKind.wrap .i64 ((zp ({ Kind:=IntKind.wrap .i64 (1+((za a0 8).1)),Group:=s2.2.2,Letter:=[],Colors:=((ze q3).1),Period:=0:Character }))+((zb s2.2.1 ([0,5,20,50,100,1,200]:List Int)).1)))):Character },q52)))))|.ok _=>default))else(bif ((IntKind.wrap .i64 (1+((za a0 8).1))) == 5)then(bnd ((za q4 4).2) fun q54=>(match yeb (y6y a0 q3 q4 q54) (((((za q4 4).1)).toNat)+1) (((za q4 4).1),q54,([]:List Int))with|.error (.inl e)=>e|.error (.inr s3)=>(bif (!(zlc s3.2.2))then(bif (zkb ({ Kind:=IntKind.wrap .i64 (1+((za a0 8).1)),Group:=([2]:List Int),Letter:=[],Colors:=((ze q3).1),Period:=0:Character }))then({ Kind:=IntKind.wrap .i64 (1+((za a0 8).1)),Group:=([2]:List Int),Letter:=[],Colors:=((ze q3).1),Period:=0:Character },s3.2.1)else(bnd ((zb s3.2.1 ([0,5,20,50,100,1,200]:List Int)).2) fun q74=>(bif ((IntKind.wrap .i64 (1+((za a0 8).1))) == 3)then({ Kind:=IntKind.wrap .i64 (1+((za a0 8).1)),Group:=([2]:List Int),Letter:=[],Colors:=((ze q3).1),Period:=IntKind.wrap .i64 ((zu 600 (IntKind.wrap .i64 ((zp ({ Kind:=IntKind.wrap .i64 (1+((za a0 8).1)),Group:=([2]:List Int),Letter:=[],Colors:=((ze q3).1),Period:=0:Character }))+((zb s3.2.1 ([0,5,20,50,100,1,200]:List Int)).1))))+((zu 600 (IntKind.wrap .i64 ((zp ({ Kind:=IntKind.wrap .i64 (1+((za a0 8).1)),Group:=([2]:List Int),Letter:=[],Colors:=((ze q3).1),Period:=0:Character }))+((zb s3.2.1 ([0,5,20,50,100,1,200]:List Int)).1)))).tmod 2)):Character },q74)else({ Kind:=IntKind.wrap .i64 (1+((za a0 8).1)),Group:=([2]:List Int),Letter:=[],Colors:=((ze q3).1),Period:=(zu 600 (IntKind.wrap .i64 ((zp ({ Kind:=IntKind.wrap .i64 (1+((za a0 8).1)),Group:=([2]:List Int),Letter:=[],Colors:=((ze q3).1),Period:=0:Character }))+((zb s3.2.1 ([0,5,20,50,100,1,200]:List Int)).1)))):Character },q74))))else(bif (zkb ({ Kind:=IntKind.wrap .i64 (1+((za a0 8).1)),Group:=s3.2.2,Letter:=[],Colors:=((ze q3).1),Period:=0:Character }))then({ Kind:=IntKind.wrap .i64 (1+((za a0 8).1)),Group:=s3.2.2,Letter:=[],Colors:=((ze q3).1),Period:=0:Character },s3.2.1)else(bnd ((zb s3.2.1 ([0,5,20,50,100,1,200]:List Int)).2) fun q76=>(bif ((IntKind.wrap .i64 (1+((za a0 8).1))) == 3)then({ Kind:=IntKind.wrap .i64 (1+((za a0 8).1)),Group:=s3.2.2,Letter:=[],Colors:=((ze q3).1),Period:=IntKind.wrap .i64 ((zu 600 (IntKind.wrap .i64 ((zp ({ Kind:=IntKind.wrap .i64 (1+((za a0 8).1)),Group:=s3.2.2,Letter:=[],Colors:=((ze q3).1),Period:=0:Character }))+((zb s3.2.1 ([0,5,20,50,100,1,200]:List Int)).1))))+((zu 600 (IntKind.wrap .i64 ((zp ({ Kind:=IntKind.wrap .i64 (1+((za a0 8).1)),Group:=s3.2.2,Letter:=[],Colors:=((ze q3).1),Period:=0:Character }))+((zb s3.2.1 ([0,5,20,50,100,1,200]:List Int)).1)))).tmod 2)):Character },q76)else({ Kind:=IntKind.wrap .i64 (1+((za a0 8).1)),Group:=s3.2.2,Letter:=[],Colors:=((ze q3).1),Period:=(zu 600 (IntKind.wrap .i64 ((zp ({ Kind:=IntKind.wrap .i64 (1+((za a0 8).1)),Group:=s3.2.2,Letter:=[],Colors:=((ze q3).1),Period:=0:Character }))+((zb s3.2.1 ([0,5,20,50,100,1,200]:List Int)).1)))):Character },q76)))))|.ok _=>default))else(bif ((IntKind.wrap .i64 (1+((za a0 8).1))) == 6)then(bnd ((zb q4 ([0,0,3,6,9]:List Int)).2) fun q78=>(bif decide (0<((zb q4 ([0,0,3,6,9]:List Int)).1))then(bif (((zb q4 ([0,0,3,6,9]:List Int)).1) == 6)then(bnd ((zh q78 2).2) fun q80=>(bif ((zh q78 2).1)then(bif (zkb ({ Kind:=IntKind.wrap .i64 (1+((za a0 8).1)),Group:=([((zb q4 ([0,0,3,6,9]:List Int)).1)]:List Int),Letter:=[76],Colors:=((ze q3).1),Period:=0:Character }))then({ Kind:=IntKind.wrap .i64 (1+((za a0 8).1)),Group:=([((zb q4 ([0,0,3,6,9]:List Int)).1)]:List Int),Letter:=[76],Colors:=((ze q3).1),Period:=0:Character },q80)else(bnd ((zb q80 ([0,5,20,50,100,1,200]:List Int)).2) fun q82=>(bif ((IntKind.wrap .i64 (1+((za a0 8).1))) == 3)then({ Kind:=IntKind.wrap .i64 (1+((za a0 8).1)),Group:=([((zb q4 ([0,0,3,6,9]:List Int)).1)]:List Int),Letter:=[76],Colors:=((ze q3).1),Period:=IntKind.wrap .i64 ((zu 600 (IntKind.wrap .i64 ((zp ({ Kind:=IntKind.wrap .i64 (1+((za a0 8).1)),Group:=([((zb q4 ([0,0,3,6,9]:List Int)).1)]:List Int),Letter:=[76],Colors:=((ze q3).1),Period:=0:Character }))+((zb q80 ([0,5,20,50,100,1,200]:List Int)).1))))+((zu 600 (IntKind.wrap .i64 ((zp ({ Kind:=IntKind.wrap .i64 (1+((za a0 8).1)),Group:=([((zb q4 ([0,0,3,6,9]:List Int)).1)]:List Int),Letter:=[76],Colors:=((ze q3).1),Period:=0:Character }))+((zb q80 ([0,5,20,50,100,1,200]:List Int)).1)))).tmod 2)):Character },q82)else({ Kind:=IntKind.wrap .i64 (1+((za a0 8).1)),Group:=([((zb q4 ([0,0,3,6,9]:List Int)).1)]:List Int),Letter:=[76],Colors:=((ze q3).1),Period:=(zu 600 (IntKind.wrap .i64 ((zp ({ Kind:=IntKind.wrap .i64 (1+((za a0 8).1)),Group:=([((zb q4 ([0,0,3,6,9]:List Int)).1)]:List Int),Letter:=[76],Colors:=((ze q3).1),Period:=0:Character }))+((zb q80 ([0,5,20,50,100,1,200]:List Int)).1)))):Character },q82))))else(bif (zkb ({ Kind:=IntKind.wrap .i64 (1+((za a0 8).1)),Group:=([((zb q4 ([0,0,3,6,9]:List Int)).1)]:List Int),Letter:=[],Colors:=((ze q3).1),Period:=0:Character }))then({ Kind:=IntKind.wrap .i64 (1+((za a0 8).1)),Group:=([((zb q4 ([0,0,3,6,9]:List Int)).1)]:List Int),Letter:=[],Colors:=((ze q3).1),Period:=0:Character },q80)else(bnd ((zb q80 ([0,5,20,50,100,1,200]:List Int)).2) fun q84=>(bif ((IntKind.wrap .i64 (1+((za a0 8).1))) == 3)then({ Kind:=IntKind.wrap .i64 (1+((za a0 8).1)),Group:=([((zb q4 ([0,0,3,6,9]:List Int)).1)]:List Int),Letter:=[],Colors:=((ze q3).1),Period:=IntKind.wrap .i64 ((zu 600 (IntKind.wrap .i64 ((zp ({ Kind:=IntKind.wrap .i64 (1+((za a0 8).1)),Group:=([((zb q4 ([0,0,3,6,9]:List Int)).1)]:List Int),Letter:=[],Colors:=((ze q3).1),Period:=0:Character }))+((zb q80 ([0,5,20,50,100,1,200]:List Int)).1))))+((zu 600 (IntKind.wrap .i64 ((zp ({ Kind:=IntKind.wrap .i64 (1+((za a0 8).1)),Group:=([((zb q4 ([0,0,3,6,9]:List Int)).1)]:List Int),Letter:=[],Colors:=((ze q3).1),Period:=0:Character }))+((zb q80 ([0,5,20,50,100,1,200]:List Int)).1)))).tmod 2)):Character },q84)else({ Kind:=IntKind.wrap .i64 (1+((za a0 8).1)),Group:=([((zb q4 ([0,0,3,6,9]:List Int)).1)]:List Int),Letter:=[],Colors:=((ze q3).1),Period:=(zu 600 (IntKind.wrap .i64 ((zp ({ Kind:=IntKind.wrap .i64 (1+((za a0 8).1)),Group:=([((zb q4 ([0,0,3,6,9]:List Int)).1)]:List Int),Letter:=[],Colors:=((ze q3).1),Period:=0:Character }))+((zb q80 ([0,5,20,50,100,1,200]:List Int)).1)))):Character },q84))))))else(bif (zkb ({ Kind:=IntKind.wrap .i64 (1+((za a0 8).1)),Group:=([((zb q4 ([0,0,3,6,9]:List Int)).1)]:List Int),Letter:=[],Colors:=((ze q3).1),Period:=0:Character }))then({ Kind:=IntKind.wrap .i64 (1+((za a0 8).1)),Group:=([((zb q4 ([0,0,3,6,9]:List Int)).1)]:List Int),Letter:=[],Colors:=((ze q3).1),Period:=0:Character },q78)else(bnd ((zb q78 ([0,5,20,50,100,1,200]:List Int)).2) fun q86=>(bif ((IntKind.wrap .i64 (1+((za a0 8).1))) == 3)then({ Kind:=IntKind.wrap .i64 (1+((za a0 8).1)),Group:=([((zb q4 ([0,0,3,6,9]:List Int)).1)]:List Int),Letter:=[],Colors:=((ze q3).1),Period:=IntKind.wrap .i64 ((zu 600 (IntKind.wrap .i64 ((zp ({ Kind:=IntKind.wrap .i64 (1+((za a0 8).1)),Group:=([((zb q4 ([0,0,3,6,9]:List Int)).1)]:List Int),Letter:=[],Colors:=((ze q3).1),Period:=0:Character }))+((zb q78 ([0,5,20,50,100,1,200]:List Int)).1))))+((zu 600 (IntKind.wrap .i64 ((zp ({ Kind:=IntKind.wrap .i64 (1+((za a0 8).1)),Group:=([((zb q4 ([0,0,3,6,9]:List Int)).1)]:List Int),Letter:=[],Colors:=((ze q3).1),Period:=0:Character }))+((zb q78 ([0,5,20,50,100,1,200]:List Int)).1)))).tmod 2)):Character },q86)else({ Kind:=IntKind.wrap .i64 (1+((za a0 8).1)),Group:=([((zb q4 ([0,0,3,6,9]:List Int)).1)]:List Int),Letter:=[],Colors:=((ze q3).1),Period:=(zu 600 (IntKind.wrap .i64 ((zp ({ Kind:=IntKind.wrap .i64 (1+((za a0 8).1)),Group:=([((zb q4 ([0,0,3,6,9]:List Int)).1)]:List Int),Letter:=[],Colors:=((ze q3).1),Period:=0:Character }))+((zb q78 ([0,5,20,50,100,1,200]:List Int)).1)))):Character },q86)))))else(bif (((zb q4 ([0,0,3,6,9]:List Int)).1) == 6)then(bnd ((zh q78 2).2) fun q88=>(bif ((zh q78 2).1)then(bif (zkb ({ Kind:=IntKind.wrap .i64 (1+((za a0 8).1)),Group:=[],Letter:=[76],Colors:=((ze q3).1),Period:=0:Character }))then({ Kind:=IntKind.wrap .i64 (1+((za a0 8).1)),Group:=[],Letter:=[76],Colors:=((ze q3).1),Period:=0:Character },q88)else(bnd ((zb q88 ([0,5,20,50,100,1,200]:List Int)).2) fun q90=>(bif ((IntKind.wrap .i64 (1+((za a0 8).1))) == 3)then({ Kind:=IntKind.wrap .i64 (1+((za a0 8).1)),Group:=[],Letter:=[76],Colors:=((ze q3).1),Period:=IntKind.wrap .i64 ((zu 600 (IntKind.wrap .i64 ((zp ({ Kind:=IntKind.wrap .i64 (1+((za a0 8).1)),Group:=[],Letter:=[76],Colors:=((ze q3).1),Period:=0:Character }))+((zb q88 ([0,5,20,50,100,1,200]:List Int)).1))))+((zu 600 (IntKind.wrap .i64 ((zp ({ Kind:=IntKind.wrap .i64 (1+((za a0 8).1)),Group:=[],Letter:=[76],Colors:=((ze q3).1),Period:=0:Character }))+((zb q88 ([0,5,20,50,100,1,200]:List Int)).1)))).tmod 2)):Character },q90)else({ Kind:=IntKind.wrap .i64 (1+((za a0 8).1)),Group:=[],Letter:=[76],Colors:=((ze q3).1),Period:=(zu 600 (IntKind.wrap .i64 ((zp ({ Kind:=IntKind.wrap .i64 (1+((za a0 8).1)),Group:=[],Letter:=[76],Colors:=((ze q3).1),Period:=0:Character }))+((zb q88 ([0,5,20,50,100,1,200]:List Int)).1)))):Character },q90))))else(bif (zkb ({ Kind:=IntKind.wrap .i64 (1+((za a0 8).1)),Group:=[],Letter:=[],Colors:=((ze q3).1),Period:=0:Character }))then({ Kind:=IntKind.wrap .i64 (1+((za a0 8).1)),Group:=[],Letter:=[],Colors:=((ze q3).1),Period:=0:Character },q88)else(bnd ((zb q88 ([0,5,20,50,100,1,200]:List Int)).2) fun q92=>(bif ((IntKind.wrap .i64 (1+((za a0 8).1))) == 3)then({ Kind:=IntKind.wrap .i64 (1+((za a0 8).1)),Group:=[],Letter:=[],Colors:=((ze q3).1),Period:=IntKind.wrap .i64 ((zu 600 (IntKind.wrap .i64 ((zp ({ Kind:=IntKind.wrap .i64 (1+((za a0 8).1)),Group:=[],Letter:=[],Colors:=((ze q3).1),Period:=0:Character }))+((zb q88 ([0,5,20,50,100,1,200]:List Int)).1))))+((zu 600 (IntKind.wrap .i64 ((zp ({ Kind:=IntKind.wrap .i64 (1+((za a0 8).1)),Group:=[],Letter:=[],Colors:=((ze q3).1),Period:=0:Character }))+((zb q88 ([0,5,20,50,100,1,200]:List Int)).1)))).tmod 2)):Character },q92)else({ Kind:=IntKind.wrap .i64 (1+((za a0 8).1)),Group:=[],Letter:=[],Colors:=((ze q3).1),Period:=(zu 600 (IntKind.wrap .i64 ((zp ({ Kind:=IntKind.wrap .i64 (1+((za a0 8).1)),Group:=[],Letter:=[],Colors:=((ze q3).1),Period:=0:Character }))+((zb q88 ([0,5,20,50,100,1,200]:List Int)).1)))):Character },q92))))))else(bif (zkb ({ Kind:=IntKind.wrap .i64 (1+((za a0 8).1)),Group:=[],Letter:=[],Colors:=((ze q3).1),Period:=0:Character }))then({ Kind:=IntKind.wrap .i64 (1+((za a0 8).1)),Group:=[],Letter:=[],Colors:=((ze q3).1),Period:=0:Character },q78)else(bnd ((zb q78 ([0,5,20,50,100,1,200]:List Int)).2) fun q94=>(bif ((IntKind.wrap .i64 (1+((za a0 8).1))) == 3)then({ Kind:=IntKind.wrap .i64 (1+((za a0 8).1)),Group:=[],Letter:=[],Colors:=((ze q3).1),Period:=IntKind.wrap .i64 ((zu 600 (IntKind.wrap .i64 ((zp ({ Kind:=IntKind.wrap .i64 (1+((za a0 8).1)),Group:=[],Letter:=[],Colors:=((ze q3).1),Period:=0:Character }))+((zb q78 ([0,5,20,50,100,1,200]:List Int)).1))))+((zu 600 (IntKind.wrap .i64 ((zp ({ Kind:=IntKind.wrap .i64 (1+((za a0 8).1)),Group:=[],Letter:=[],Colors:=((ze q3).1),Period:=0:Character }))+((zb q78 ([0,5,20,50,100,1,200]:List Int)).1)))).tmod 2)):Character },q94)else({ Kind:=IntKind.wrap .i64 (1+((za a0 8).1)),Group:=[],Letter:=[],Colors:=((ze q3).1),Period:=(zu 600 (IntKind.wrap .i64 ((zp ({ Kind:=IntKind.wrap .i64 (1+((za a0 8).1)),Group:=[],Letter:=[],Colors:=((ze q3).1),Period:=0:Character }))+((zb q78 ([0,5,20,50,100,1,200]:List Int)).1)))):Character },q94)))))))else(bif ((IntKind.wrap .i64 (1+((za a0 8).1))) == 7)then(bnd ((zb q4 ([0,0,3,6,9]:List Int)).2) fun q96=>(bif decide (0<((zb q4 ([0,0,3,6,9]:List Int)).1))then(bif (((zb q4 ([0,0,3,6,9]:List Int)).1) == 6)then(bnd ((zh q96 2).2) fun q98=>(bif ((zh q96 2).1)then(bif (zkb ({ Kind:=IntKind.wrap .i64 (1+((za a0 8).1)),Group:=([((zb q4 ([0,0,3,6,9]:List Int)).1)]:List Int),Letter:=[76],Colors:=((ze q3).1),Period:=0:Character }))then({ Kind:=IntKind.wrap .i64 (1+((za a0 8).1)),Group:=([((zb q4 ([0,0,3,6,9]:List Int)).1)]:List Int),Letter:=[76],Colors:=((ze q3).1),Period:=0:Character },q98)else(bnd ((zb q98 ([0,5,20,50,100,1,200]:List Int)).2) fun q100=>(bif ((IntKind.wrap .i64 (1+((za a0 8).1))) == 3)then({ Kind:=IntKind.wrap .i64 (1+((za a0 8).1)),Group:=([((zb q4 ([0,0,3,6,9]:List Int)).1)]:List Int),Letter:=[76],Colors:=((ze q3).1),Period:=IntKind.wrap .i64 ((zu 600 (IntKind.wrap .i64 ((zp ({ Kind:=IntKind.wrap .i64 (1+((za a0 8).1)),Group:=([((zb q4 ([0,0,3,6,9]:List Int)).1)]:List Int),Letter:=[76],Colors:=((ze q3).1),Period:=0:Character }))+((zb q98 ([0,5,20,50,100,1,200]:List Int)).1))))+((zu 600 (IntKind.wrap .i64 ((zp ({ Kind:=IntKind.wrap .i64 (1+((za a0 8).1)),Group:=([((zb q4 ([0,0,3,6,9]:List Int)).1)]:List Int),Letter:=[76],Colors:=((ze q3).1),Period:=0:Character }))+((zb q98 ([0,5,20,50,100,1,200]:List Int)).1)))).tmod 2)):Character },q100)else({ Kind:=IntKind.wrap .i64 (1+((za a0 8).1)),Group:=([((zb q4 ([0,0,3,6,9]:List Int)).1)]:List Int),Letter:=[76],Colors:=((ze q3).1),Period:=(zu 600 (IntKind.wrap .i64 ((zp ({ Kind:=IntKind.wrap .i64 (1+((za a0 8).1)),Group:=([((zb q4 ([0,0,3,6,9]:List Int)).1)]:List Int),Letter:=[76],Colors:=((ze q3).1),Period:=0:Character }))+((zb q98 ([0,5,20,50,100,1,200]:List Int)).1)))):Character },q100))))else(bif (zkb ({ Kind:=IntKind.wrap .i64 (1+((za a0 8).1)),Group:=([((zb q4 ([0,0,3,6,9]:List Int)).1)]:List Int),Letter:=[],Colors:=((ze q3).1),Period:=0:Character }))then({ Kind:=IntKind.wrap .i64 (1+((za a0 8).1)),Group:=([((zb q4 ([0,0,3,6,9]:List Int)).1)]:List Int),Letter:=[],Colors:=((ze q3).1),Period:=0:Character },q98)else(bnd ((zb q98 ([0,5,20,50,100,1,200]:List Int)).2) fun q102=>(bif ((IntKind.wrap .i64 (1+((za a0 8).1))) == 3)then({ Kind:=IntKind.wrap .i64 (1+((za a0 8).1)),Group:=([((zb q4 ([0,0,3,6,9]:List Int)).1)]:List Int),Letter:=[],Colors:=((ze q3).1),Period:=IntKind.wrap .i64 ((zu 600 (IntKind.wrap .i64 ((zp ({ Kind:=IntKind.wrap .i64 (1+((za a0 8).1)),Group:=([((zb q4 ([0,0,3,6,9]:List Int)).1)]:List Int),Letter:=[],Colors:=((ze q3).1),Period:=0:Character }))+((zb q98 ([0,5,20,50,100,1,200]:List Int)).1))))+((zu 600 (IntKind.wrap .i64 ((zp ({ Kind:=IntKind.wrap .i64 (1+((za a0 8).1)),Group:=([((zb q4 ([0,0,3,6,9]:List Int)).1)]:List Int),Letter:=[],Colors:=((ze q3).1),Period:=0:Character }))+((zb q98 ([0,5,20,50,100,1,200]:List Int)).1)))).tmod 2)):Character },q102)else({ Kind:=IntKind.wrap .i64 (1+((za a0 8).1)),Group:=([((zb q4 ([0,0,3,6,9]:List Int)).1)]:List Int),Letter:=[],Colors:=((ze q3).1),Period:=(zu 600 (IntKind.wrap .i64 ((zp ({ Kind:=IntKind.wrap .i64 (1+((za a0 8).1)),Group:=([((zb q4 ([0,0,3,6,9]:List Int)).1)]:List Int),Letter:=[],Colors:=((ze q3).1),Period:=0:Character }))+((zb q98 ([0,5,20,50,100,1,200]:List Int)).1)))):Character },q102))))))else(bif (zkb ({ Kind:=IntKind.wrap .i64 (1+((za a0 8).1)),Group:=([((zb q4 ([0,0,3,6,9]:List Int)).1)]:List Int),Letter:=[],Colors:=((ze q3).1),Period:=0:Character }))then({ Kind:=IntKind.wrap .i64 (1+((za a0 8).1)),Group:=([((zb q4 ([0,0,3,6,9]:List Int)).1)]:List Int),Letter:=[],Colors:=((ze q3).1),Period:=0:Character },q96)else(bnd ((zb q96 ([0,5,20,50,100,1,200]:List Int)).2) fun q104=>(bif ((IntKind.wrap .i64 (1+((za a0 8).1))) == 3)then({ Kind:=IntKind.wrap .i64 (1+((za a0 8).1)),Group:=([((zb q4 ([0,0,3,6,9]:List Int)).1)]:List Int),Letter:=[],Colors:=((ze q3).1),Period:=IntKind.wrap .i64 ((zu 600 (IntKind.wrap .i64 ((zp ({ Kind:=IntKind.wrap .i64 (1+((za a0 8).1)),Group:=([((zb q4 ([0,0,3,6,9]:List Int)).1)]:List Int),Letter:=[],Colors:=((ze q3).1),Period:=0:Character }))+((zb q96 ([0,5,20,50,100,1,200]:List Int)).1))))+((zu 600 (IntKind.wrap .i64 ((zp ({ Kind:=IntKind.wrap .i64 (1+((za a0 8).1)),Group:=([((zb q4 ([0,0,3,6,9]:List Int)).1)]:List Int),Letter:=[],Colors:=((ze q3).1),Period:=0:Character }))+((zb q96 ([0,5,20,50,100,1,200]:List Int)).1)))).tmod 2)):Character },q104)else({ Kind:=IntKind.wrap .i64 (1+((za a0 8).1)),Group:=([((zb q4 ([0,0,3,6,9]:List Int)).1)]:List Int),Letter:=[],Colors:=((ze q3).1),Period:=(zu 600 (IntKind.wrap .i64 ((zp ({ Kind:=IntKind.wrap .i64 (1+((za a0 8).1)),Group:=([((zb q4 ([0,0,3,6,9]:List Int)).1)]:List Int),Letter:=[],Colors:=((ze q3).1),Period:=0:Character }))+((zb q96 ([0,5,20,50,100,1,200]:List Int)).1)))):Character },q104)))))else(bif (((zb q4 ([0,0,3,6,9]:List Int)).1) == 6)then(bnd ((zh q96 2).2) fun q106=>(bif ((zh q96 2).1)then(bif (zkb ({ Kind:=IntKind.wrap .i64 (1+((za a0 8).1)),Group:=[],Letter:=[76],Colors:=((ze q3).1),Period:=0:Character }))then({ Kind:=IntKind.wrap .i64 (1+((za a0 8).1)),Group:=[],Letter:=[76],Colors:=((ze q3).1),Period:=0:Character },q106)else(bnd ((zb q106 ([0,5,20,50,100,1,200]:List Int)).2) fun q108=>(bif ((IntKind.wrap .i64 (1+((za a0 8).1))) == 3)then({ Kind:=IntKind.wrap .i64 (1+((za a0 8).1)),Group:=[],Letter:=[76],Colors:=((ze q3).1),Period:=IntKind.wrap .i64 ((zu 600 (IntKind.wrap .i64 ((zp ({ Kind:=IntKind.wrap .i64 (1+((za a0 8).1)),Group:=[],Letter:=[76],Colors:=((ze q3).1),Period:=0:Character }))+((zb q106 ([0,5,20,50,100,1,200]:List Int)).1))))+((zu 600 (IntKind.wrap .i64 ((zp ({ Kind:=IntKind.wrap .i64 (1+((za a0 8).1)),Group:=[],Letter:=[76],Colors:=((ze q3).1),Period:=0:Character }))+((zb q106 ([0,5,20,50,100,1,200]:List Int)).1)))).tmod 2)):Character },q108)else({ Kind:=IntKind.wrap .i64 (1+((za a0 8).1)),Group:=[],Letter:=[76],Colors:=((ze q3).1),Period:=(zu 600 (IntKind.wrap .i64 ((zp ({ Kind:=IntKind.wrap .i64 (1+((za a0 8).1)),Group:=[],Letter:=[76],Colors:=((ze q3).1),Period:=0:Character }))+((zb q106 ([0,5,20,50,100,1,200]:List Int)).1)))):Character },q108))))else(bif (zkb ({ Kind:=IntKind.wrap .i64 (1+((za a0 8).1)),Group:=[],Letter:=[],Colors:=((ze q3).1),Period:=0:Character }))then({ Kind:=IntKind.wrap .i64 (1+((za a0 8).1)),Group:=[],Letter:=[],Colors:=((ze q3).1),Period:=0:Character },q106)else(bnd ((zb q106 ([0,5,20,50,100,1,200]:List Int)).2) fun q110=>(bif ((IntKind.wrap .i64 (1+((za a0 8).1))) == 3)then({ Kind:=IntKind.wrap .i64 (1+((za a0 8).1)),Group:=[],Letter:=[],Colors:=((ze q3).1),Period:=IntKind.wrap .i64 ((zu 600 (IntKind.wrap .i64 ((zp ({ Kind:=IntKind.wrap .i64 (1+((za a0 8).1)),Group:=[],Letter:=[],Colors:=((ze q3).1),Period:=0:Character }))+((zb q106 ([0,5,20,50,100,1,200]:List Int)).1))))+((zu 600 (IntKind.wrap .i64 ((zp ({ Kind:=IntKind.wrap .i64 (1+((za a0 8).1)),Group:=[],Letter:=[],Colors:=((ze q3).1),Period:=0:Character }))+((zb q106 ([0,5,20,50,100,1,200]:List Int)).1)))).tmod 2)):Character },q110)else({ Kind:=IntKind.wrap .i64 (1+((za a0 8).1)),Group:=[],Letter:=[],Colors:=((ze q3).1),Period:=(zu 600 (IntKind.wrap .i64 ((zp ({ Kind:=IntKind.wrap .i64 (1+((za a0 8).1)),Group:=[],Letter:=[],Colors:=((ze q3).1),Period:=0:Character }))+((zb q106 ([0,5,20,50,100,1,200]:List Int)).1)))):Character },q110))))))else(bif (zkb ({ Kind:=IntKind.wrap .i64 (1+((za a0 8).1)),Group:=[],Letter:=[],Colors:=((ze q3).1),Period:=0:Character }))then({ Kind:=IntKind.wrap .i64 (1+((za a0 8).1)),Group:=[],Letter:=[],Colors:=((ze q3).1),Period:=0:Character },q96)else(bnd ((zb q96 ([0,5,20,50,100,1,200]:List Int)).2) fun q112=>(bif ((IntKind.wrap .i64 (1+((za a0 8).1))) == 3)then({ Kind:=IntKind.wrap .i64 (1+((za a0 8).1)),Group:=[],Letter:=[],Colors:=((ze q3).1),Period:=IntKind.wrap .i64 ((zu 600 (IntKind.wrap .i64 ((zp ({ Kind:=IntKind.wrap .i64 (1+((za a0 8).1)),Group:=[],Letter:=[],Colors:=((ze q3).1),Period:=0:Character }))+((zb q96 ([0,5,20,50,100,1,200]:List Int)).1))))+((zu 600 (IntKind.wrap .i64 ((zp ({ Kind:=IntKind.wrap .i64 (1+((za a0 8).1)),Group:=[],Letter:=[],Colors:=((ze q3).1),Period:=0:Character }))+((zb q96 ([0,5,20,50,100,1,200]:List Int)).1)))).tmod 2)):Character },q112)else({ Kind:=IntKind.wrap .i64 (1+((za a0 8).1)),Group:=[],Letter:=[],Colors:=((ze q3).1),Period:=(zu 600 (IntKind.wrap .i64 ((zp ({ Kind:=IntKind.wrap .i64 (1+((za a0 8).1)),Group:=[],Letter:=[],Colors:=((ze q3).1),Period:=0:Character }))+((zb q96 ([0,5,20,50,100,1,200]:List Int)).1)))):Character },q112)))))))else(bif ((IntKind.wrap .i64 (1+((za a0 8).1))) == 8)then(bnd ((za q4 26).2) fun q114=>(bif (zkb ({ Kind:=IntKind.wrap .i64 (1+((za a0 8).1)),Group:=[],Letter:=(([IntKind.wrap .u8 (IntKind.wrap .i64 (65+((za q4 26).1)))]:List Int).map fun z=>UInt8.ofNat z.toNat),Colors:=((ze q3).1),Period:=0:Character }))then({ Kind:=IntKind.wrap .i64 (1+((za a0 8).1)),Group:=[],Letter:=(([IntKind.wrap .u8 (IntKind.wrap .i64 (65+((za q4 26).1)))]:List Int).map fun z=>UInt8.ofNat z.toNat),Colors:=((ze q3).1),Period:=0:Character },q114)else(bnd ((zb q114 ([0,5,20,50,100,1,200]:List Int)).2) fun q116=>(bif ((IntKind.wrap .i64 (1+((za a0 8).1))) == 3)then({ Kind:=IntKind.wrap .i64 (1+((za a0 8).1)),Group:=[],Letter:=(([IntKind.wrap .u8 (IntKind.wrap .i64 (65+((za q4 26).1)))]:List Int).map fun z=>UInt8.ofNat z.toNat),Colors:=((ze q3).1),Period:=IntKind.wrap .i64 ((zu 600 (IntKind.wrap .i64 ((zp ({ Kind:=IntKind.wrap .i64 (1+((za a0 8).1)),Group:=[],Letter:=(([IntKind.wrap .u8 (IntKind.wrap .i64 (65+((za q4 26).1)))]:List Int).map fun z=>UInt8.ofNat z.toNat),Colors:=((ze q3).1),Period:=0:Character }))+((zb q114 ([0,5,20,50,100,1,200]:List Int)).1))))+((zu 600 (IntKind.wrap .i64 ((zp ({ Kind:=IntKind.wrap .i64 (1+((za a0 8).1)),Group:=[],Letter:=(([IntKind.wrap .u8 (IntKind.wrap .i64 (65+((za q4 26).1)))]:List Int).map fun z=>UInt8.ofNat z.toNat),Colors:=((ze q3).1),Period:=0:Character }))+((zb q114 ([0,5,20,50,100,1,200]:List Int)).1)))).tmod 2)):Character },q116)else({ Kind:=IntKind.wrap .i64 (1+((za a0 8).1)),Group:=[],Letter:=(([IntKind.wrap .u8 (IntKind.wrap .i64 (65+((za q4 26).1)))]:List Int).map fun z=>UInt8.ofNat z.toNat),Colors:=((ze q3).1),Period:=(zu 600 (IntKind.wrap .i64 ((zp ({ Kind:=IntKind.wrap .i64 (1+((za a0 8).1)),Group:=[],Letter:=(([IntKind.wrap .u8 (IntKind.wrap .i64 (65+((za q4 26).1)))]:List Int).map fun z=>UInt8.ofNat z.toNat),Colors:=((ze q3).1),Period:=0:Character }))+((zb q114 ([0,5,20,50,100,1,200]:List Int)).1)))):Character },q116)))))else(bif (zkb ({ Kind:=IntKind.wrap .i64 (1+((za a0 8).1)),Group:=[],Letter:=[],Colors:=((ze q3).1),Period:=0:Character }))then({ Kind:=IntKind.wrap .i64 (1+((za a0 8).1)),Group:=[],Letter:=[],Colors:=((ze q3).1),Period:=0:Character },q4)else(bnd ((zb q4 ([0,5,20,50,100,1,200]:List Int)).2) fun q118=>(bif ((IntKind.wrap .i64 (1+((za a0 8).1))) == 3)then({ Kind:=IntKind.wrap .i64 (1+((za a0 8).1)),Group:=[],Letter:=[],Colors:=((ze q3).1),Period:=IntKind.wrap .i64 ((zu 600 (IntKind.wrap .i64 ((zp ({ Kind:=IntKind.wrap .i64 (1+((za a0 8).1)),Group:=[],Letter:=[],Colors:=((ze q3).1),Period:=0:Character }))+((zb q4 ([0,5,20,50,100,1,200]:List Int)).1))))+((zu 600 (IntKind.wrap .i64 ((zp ({ Kind:=IntKind.wrap .i64 (1+((za a0 8).1)),Group:=[],Letter:=[],Colors:=((ze q3).1),Period:=0:Character }))+((zb q4 ([0,5,20,50,100,1,200]:List Int)).1)))).tmod 2)):Character },q118)else({ Kind:=IntKind.wrap .i64 (1+((za a0 8).1)),Group:=[],Letter:=[],Colors:=((ze q3).1),Period:=(zu 600 (IntKind.wrap .i64 ((zp ({ Kind:=IntKind.wrap .i64 (1+((za a0 8).1)),Group:=[],Letter:=[],Colors:=((ze q3).1),Period:=0:Character }))+((zb q4 ([0,5,20,50,100,1,200]:List Int)).1)))):Character },q118))))))))))))
namespace N123
theorem DD:DOk Tryz.prog (Go.Ab.DD [(172,dM [true] D_ze),(173,dP D_zlc),(174,dP D_zp),(175,dP D_zkb),(176,dP D_zu),(42,dM [true,false] D_za),(44,dM [true,true] D_zb),(53,dM [true,false] D_zh)]):=ya yc5.e <| ya y80.e <| ya yj6.e <| ya yit.e <| ya y65.e <| ya yuc.e <| ya y7h.e <| ya y6h.e <| yd _
theorem dn:type_of% (And.intro @D_ze.eq_1 <| And.intro @D_zlc.eq_1 <| And.intro @D_zp.eq_1 <| And.intro @D_zkb.eq_1 <| And.intro @D_zu.eq_1 <| And.intro @D_za.eq_1 <| And.intro @D_zb.eq_1 <| @D_zh.eq_1):=by and_intros<;>intros<;>rfl
theorem o1 {p:Prop} (h:p:=by(first|(refine SrcOk.mono (by repeat' first|assumption|exact SrcOk.next ‹_› | apply SrcOk.next|apply SrcOk.pick|apply SrcOk.one|apply SrcOk.among|apply SrcOk.text|apply SrcOk.colors|apply SrcOk.point|apply SrcOk.chr|apply SrcOk.sectors|apply SrcOk.aid|apply SrcOk.aids|apply SrcOk.notice|omega) (by omega))|(exact SrcOk.mono hW1.2.2.1 (by omega))|(exact SrcOk.mono hW2.2.2.1 (by omega))|(exact SrcOk.mono hW3.2.2.1 (by omega))|(have hc3:=hcl q3 _ hS_q3 (by omega);refine⟨?_,?_,?_⟩<;>(show List.length _<1099511627776)<;>(try simp only[List.length_cons,List.length_nil,List.length_map])<;>omega)|(first|exact hW1.2.2.2.2|exact hW2.2.2.2.2|exact hW3.2.2.2.2)|(intro v hv;rw[List.mem_singleton]at hv;subst hv;have h9:=hax q4 _ hS_q4 (by omega);omega)|(intro v hv;cases hv;(first|done|fail))|(intro h8;exfalso;grind)|(intro h8;have h9:=hlt q4 _ hS_q4 (by omega);simpa using h9));first|done|fail):p:=h
theorem o2 {p:Prop} (h:p:=by(first|((repeat' with_reducible apply And.intro)<;>first|(simp only[List.length_append,List.length_singleton];(first|done|fail))|(rw[IntKind.wrap_i64];omega)|(intro j hj;by_cases hji:j<s1.2.2.length;(focus(simp only[yjd hji,yeh hji,cond_true];first|(first|done|fail)|with_reducible rfl));(have e0:j-s1.2.2.length=0:=by omega);(simp only[ytd hji hj,y8g hji,cond_false,e0,elt,borrowL,borrow];first|(first|done|fail)|with_reducible rfl))|decide)|((repeat' with_reducible apply And.intro)<;>first|(simp only[List.length_append,List.length_singleton];(first|done|fail))|(rw[IntKind.wrap_i64];omega)|(intro j hj;by_cases hji:j<s2.2.2.length;(focus(simp only[yjd hji,yeh hji,cond_true];first|(first|done|fail)|with_reducible rfl));(have e0:j-s2.2.2.length=0:=by omega);(simp only[ytd hji hj,y8g hji,cond_false,e0,elt,borrowL,borrow];first|(first|done|fail)|with_reducible rfl))|decide)|((repeat' with_reducible apply And.intro)<;>first|(simp only[List.length_append,List.length_singleton];(first|done|fail))|(rw[IntKind.wrap_i64];omega)|(intro j hj;by_cases hji:j<s3.2.2.length;(focus(simp only[yjd hji,yeh hji,cond_true];first|(first|done|fail)|with_reducible rfl));(have e0:j-s3.2.2.length=0:=by omega);(simp only[ytd hji hj,y8g hji,cond_false,e0,elt,borrowL,borrow];first|(first|done|fail)|with_reducible rfl))|decide));first|done|fail):p:=h
theorem lx {p:Prop} (h:p:=by(exact lxx);first|done|fail):p:=h
set_option maxHeartbeats 8000000 in
set_option maxRecDepth 20000 in
theorem den (a0:l00Src) (hp0:SrcOk 600000 a0):DenM Tryz.prog 123 [.op (ym a0)] (.agg (ypb ((zj a0).1))) [(.op (ym ((zj a0).2)))]:=by
 generalize hR:zj a0=r;unfold zj at hR;refine dj (gb:=[true]) Tryz.func123 Tryz.ntmps123 Tryz.results123 ?_;intro c hL hc hk;obtain⟨hL0,_⟩:=hL;have hw0:bwl00Src a0:=y7 a0 hL0;clear hL0;simp only[adEL,adE,adRL,adR,ownL,encL,sv,List.nil_append,List.append_nil,List.cons_append,List.length_cons,List.length_nil,pars,Nat.zero_add,Nat.reduceAdd]at hk ⊢;have hcl:=fun(s:l00Src) (n:Int) (h:SrcOk n s) (hn:n<=2000000)=>yc6 h (by omega)
 have hax:=fun(s:l00Src) (n:Int) (h:SrcOk n s) (hn:n<=2000000)=>am9 h (by omega)
 have hlt:=fun(s:l00Src) (n:Int) (h:SrcOk n s) (hn:n<=2000000)=>let9 h (by omega)
 iterate 2 refine rS ?_
 generalize hq3:(za a0 8).2=q3 at hR ⊢;replace hR:=bn hR;have hS_q3:SrcOk (600002) q3:=by rw[<- hq3];exact SrcOk.pick hp0 (by omega)
 generalize hq4:(ze q3).2=q4 at hR ⊢;replace hR:=bn hR;have hS_q4:SrcOk (600004) q4:=by rw[<- hq4];exact SrcOk.colors hS_q3 (by omega)
 iterate 2 refine rS ?_
 refine AWP.cond rfl (fun hb => ?_) (fun hb => ?_)
 ·replace hR:=ct hR
  refine AWP.skip ?_;refine AWP.cond rfl (fun hb => ?_) (fun hb => ?_)
  ·refine rS ?_
   generalize hq6:(za q4 4).2=q6 at hR ⊢;replace hR:=bn hR;have hS_q6:SrcOk (600006) q6:=by rw[<- hq6];exact SrcOk.pick hS_q4 (by omega)
   refine AWP.block ?_;refine AWP.nilB 2 1 2 1 (fun _=>[]) rfl rfl ?_;try simp only[ea,absV,absVL,cput,gv,sv,dn,reduceCtorEq,reduceIte,Nat.reduceBEq,Nat.reduceAdd,Nat.reduceEqDiff,Nat.reduceLT,Nat.reduceLeDiff,Nat.reduceMul,Nat.reduceSub,BEq.rfl,beq_self_eq_true,Int.reduceToNat];generalize hz1:yeb (y0w a0 q3 q4 q6) (((((za q4 4).1)).toNat)+1) (((za q4 4).1),q6,([]:List Int))=z1 at hR;refine AWP.whileW (y0w a0 q3 q4 q6) (fun s1=>⟨[(0,.ptr 0 0),(2,.ptr 1 0),(3,.ptr 2 0),(4,.int .i64 s1.1)],[.box [encL 1 eIu8 s1.2.1.code,.int .i64 s1.2.1.at_,.int .u64 s1.2.1.seed],.box [.int .i64 0,.nils,.str [],.str [],.int .i64 0],.box [.int .i64 (IntKind.wrap .i64 (1+((za a0 8).1))),.ref 3 1 0 s1.2.2.length,.str [],.str ((ze q3).1),.int .i64 0],.arr 2 1 s1.2.2.length (fun j=>yv (s1.2.2.getD j default))]⟩) (fun s1=>0<=s1.1/\s1.1<=3/\SrcOk (600040+10 * (3-s1.1)) s1.2.1/\s1.2.2.length<=(3-s1.1).toNat/\∀ v∈s1.2.2,v<=9) (fun s1=>(s1.1).toNat) (((((za q4 4).1)).toNat)+1) (((za q4 4).1),q6,([]:List Int)) [0,1,2,3] hz1 m0 (by(have h2:=yg 4 hS_q4 (by omega);have h3:=h2.2 (by omega);exact⟨h2.1,by omega,SrcOk.mono (by assumption) (by omega),by simp,by simp⟩)) sm ?_;clear hz1;intro s1 k1 hW1 hm1 hz1;simp only[y0w]at hz1;refine rS ?_;refine AWP.cond rfl (fun hb => ?_) (fun hb => ?_)
   ·simp only[hb,cond_true]at hz1
    refine AWP.skip ?_;refine AWP.seq ?_;refine AWP.block ?_;refine AWP.regP mixed G_ok DD hc 6 [0,1,2] (.alt 3 [4] [0,1,4] (.alt 5 [] [0,1] .leaf .stop) .stop) (by kernel_rfl) (by kernel_rfl) (by kernel_rfl) (fun K hK => ?_);simp only[yxh,runN,runP,ycc,nthO,ea,absV,absVL,cput,gv,sv,dn,reduceCtorEq,reduceIte,Nat.reduceBEq,Nat.reduceAdd,Nat.reduceEqDiff,Nat.reduceLT,Nat.reduceLeDiff,Nat.reduceMul,Nat.reduceSub,BEq.rfl,beq_self_eq_true,Int.reduceToNat];repeat' apply And.intro
    all_goals first|refine hK _ ?_|exact ot
    all_goals clear hK K
    generalize hq20:(za s1.2.1 3).2=q20 at hz1 ⊢;rw[bndv q20]at hz1;have hS_q20:SrcOk (600040+10 * (3-s1.1)+2) q20:=by rw[<- hq20];exact SrcOk.pick hW1.2.2.1 (by omega)
    refine rS ?_;clear hR;exact⟨_,[0,1,2,5],by(have hpos:1<s1.1:=of_decide_eq_true (by assumption);have hwr:IntKind.wrap .i64 (s1.1-1)=s1.1-1:=(by rw[IntKind.wrap_i64];omega);(try dsimp only);rw[hwr];omega),by(have hpos:1<s1.1:=of_decide_eq_true (by assumption);have hwr:IntKind.wrap .i64 (s1.1-1)=s1.1-1:=(by rw[IntKind.wrap_i64];omega);(try dsimp only);rw[hwr];have hG:=hW1.2.2.2.1;have hp3:=yg 3 hW1.2.2.1 (by omega);have hp4:=hp3.2 (by omega);exact⟨by omega,by omega,SrcOk.mono (by assumption) (by omega),by simp only[List.length_append,List.length_cons,List.length_nil];omega,ytr hW1.2.2.2.2 (by rw[IntKind.wrap_i64];omega)⟩),hz1,sm⟩
   ·simp only[hb,cond_false]at hz1
    refine AWP.exit ?_;refine yb ?_;subst hz1;dsimp only at hR;refine rS ?_;refine AWP.cond rfl (fun hb => ?_) (fun hb => ?_)
    ·replace hR:=ct hR
     iterate 3 refine rS ?_
     refine AWP.cond rfl (fun hb => ?_) (fun hb => ?_)
     ·replace hR:=ct hR
      refine rS ?_;refine AWP.ret ?_;subst hR;exact es
     ·replace hR:=cf hR
      refine rS ?_;generalize hq22:(zb s1.2.1 ([0,5,20,50,100,1,200]:List Int)).2=q22 at hR ⊢;replace hR:=bn hR;have hS_q22:SrcOk (600040+10 * (3-s1.1)+2) q22:=by rw[<- hq22];exact SrcOk.among hW1.2.2.1 (by omega)
      refine rS ?_;refine AWP.cond rfl (fun hb => ?_) (fun hb => ?_)
      ·replace hR:=ct hR
       iterate 2 refine rS ?_
       refine AWP.ret ?_;subst hR;exact es
      ·replace hR:=cf hR
       refine rS ?_;refine AWP.ret ?_;subst hR;exact es
    ·replace hR:=cf hR
     iterate 2 refine rS ?_
     refine AWP.cond rfl (fun hb => ?_) (fun hb => ?_)
     ·replace hR:=ct hR
      refine rS ?_;refine AWP.ret ?_;subst hR;exact es
     ·replace hR:=cf hR
      refine rS ?_;generalize hq24:(zb s1.2.1 ([0,5,20,50,100,1,200]:List Int)).2=q24 at hR ⊢;replace hR:=bn hR;have hS_q24:SrcOk (600040+10 * (3-s1.1)+2) q24:=by rw[<- hq24];exact SrcOk.among hW1.2.2.1 (by omega)
      refine rS ?_;refine AWP.cond rfl (fun hb => ?_) (fun hb => ?_)
      ·replace hR:=ct hR
       iterate 2 refine rS ?_
       refine AWP.ret ?_;subst hR;exact es
      ·replace hR:=cf hR
       refine rS ?_;refine AWP.ret ?_;subst hR;exact es
  ·exfalso;simp_all
 ·replace hR:=cf hR
  refine rS ?_;refine AWP.cond rfl (fun hb => ?_) (fun hb => ?_)
  ·replace hR:=ct hR
   refine AWP.skip ?_;refine AWP.cond rfl (fun hb => ?_) (fun hb => ?_)
   ·refine rS ?_
    generalize hq30:(za q4 4).2=q30 at hR ⊢;replace hR:=bn hR;have hS_q30:SrcOk (600006) q30:=by rw[<- hq30];exact SrcOk.pick hS_q4 (by omega)
    refine AWP.block ?_;refine AWP.nilB 2 1 2 1 (fun _=>[]) rfl rfl ?_;try simp only[ea,absV,absVL,cput,gv,sv,dn,reduceCtorEq,reduceIte,Nat.reduceBEq,Nat.reduceAdd,Nat.reduceEqDiff,Nat.reduceLT,Nat.reduceLeDiff,Nat.reduceMul,Nat.reduceSub,BEq.rfl,beq_self_eq_true,Int.reduceToNat];generalize hz2:yeb (y9w a0 q3 q4 q30) (((((za q4 4).1)).toNat)+1) (((za q4 4).1),q30,([]:List Int))=z2 at hR;refine AWP.whileW (y9w a0 q3 q4 q30) (fun s2=>⟨[(0,.ptr 0 0),(2,.ptr 1 0),(3,.ptr 2 0),(4,.int .i64 s2.1)],[.box [encL 1 eIu8 s2.2.1.code,.int .i64 s2.2.1.at_,.int .u64 s2.2.1.seed],.box [.int .i64 0,.nils,.str [],.str [],.int .i64 0],.box [.int .i64 (IntKind.wrap .i64 (1+((za a0 8).1))),.ref 3 1 0 s2.2.2.length,.str [],.str ((ze q3).1),.int .i64 0],.arr 2 1 s2.2.2.length (fun j=>yv (s2.2.2.getD j default))]⟩) (fun s2=>0<=s2.1/\s2.1<=3/\SrcOk (600040+10 * (3-s2.1)) s2.2.1/\s2.2.2.length<=(3-s2.1).toNat/\∀ v∈s2.2.2,v<=9) (fun s2=>(s2.1).toNat) (((((za q4 4).1)).toNat)+1) (((za q4 4).1),q30,([]:List Int)) [0,1,2,3] hz2 m0 (by(have h2:=yg 4 hS_q4 (by omega);have h3:=h2.2 (by omega);exact⟨h2.1,by omega,SrcOk.mono (by assumption) (by omega),by simp,by simp⟩)) sm ?_;clear hz2;intro s2 k2 hW2 hm2 hz2;simp only[y9w]at hz2;refine rS ?_;refine AWP.cond rfl (fun hb => ?_) (fun hb => ?_)
    ·simp only[hb,cond_true]at hz2
     refine AWP.skip ?_;refine AWP.seq ?_;refine AWP.block ?_;refine AWP.regP mixed G_ok DD hc 6 [0,1,2] (.alt 3 [4] [0,1,4] (.alt 5 [] [0,1] .leaf .stop) .stop) (by kernel_rfl) (by kernel_rfl) (by kernel_rfl) (fun K hK => ?_);simp only[yxh,runN,runP,ycc,nthO,ea,absV,absVL,cput,gv,sv,dn,reduceCtorEq,reduceIte,Nat.reduceBEq,Nat.reduceAdd,Nat.reduceEqDiff,Nat.reduceLT,Nat.reduceLeDiff,Nat.reduceMul,Nat.reduceSub,BEq.rfl,beq_self_eq_true,Int.reduceToNat];repeat' apply And.intro
     all_goals first|refine hK _ ?_|exact ot
     all_goals clear hK K
     generalize hq44:(za s2.2.1 3).2=q44 at hz2 ⊢;rw[bndv q44]at hz2;have hS_q44:SrcOk (600040+10 * (3-s2.1)+2) q44:=by rw[<- hq44];exact SrcOk.pick hW2.2.2.1 (by omega)
     refine rS ?_;clear hR;exact⟨_,[0,1,2,5],by(have hpos:1<s2.1:=of_decide_eq_true (by assumption);have hwr:IntKind.wrap .i64 (s2.1-1)=s2.1-1:=(by rw[IntKind.wrap_i64];omega);(try dsimp only);rw[hwr];omega),by(have hpos:1<s2.1:=of_decide_eq_true (by assumption);have hwr:IntKind.wrap .i64 (s2.1-1)=s2.1-1:=(by rw[IntKind.wrap_i64];omega);(try dsimp only);rw[hwr];have hG:=hW2.2.2.2.1;have hp3:=yg 3 hW2.2.2.1 (by omega);have hp4:=hp3.2 (by omega);exact⟨by omega,by omega,SrcOk.mono (by assumption) (by omega),by simp only[List.length_append,List.length_cons,List.length_nil];omega,ytr hW2.2.2.2.2 (by rw[IntKind.wrap_i64];omega)⟩),hz2,sm⟩
    ·simp only[hb,cond_false]at hz2
     refine AWP.exit ?_;refine yb ?_;subst hz2;dsimp only at hR;refine rS ?_;refine AWP.cond rfl (fun hb => ?_) (fun hb => ?_)
     ·replace hR:=ct hR
      iterate 3 refine rS ?_
      refine AWP.cond rfl (fun hb => ?_) (fun hb => ?_)
      ·replace hR:=ct hR
       refine rS ?_;refine AWP.ret ?_;subst hR;exact es
      ·replace hR:=cf hR
       refine rS ?_;generalize hq46:(zb s2.2.1 ([0,5,20,50,100,1,200]:List Int)).2=q46 at hR ⊢;replace hR:=bn hR;have hS_q46:SrcOk (600040+10 * (3-s2.1)+2) q46:=by rw[<- hq46];exact SrcOk.among hW2.2.2.1 (by omega)
       refine rS ?_;refine AWP.cond rfl (fun hb => ?_) (fun hb => ?_)
       ·replace hR:=ct hR
        iterate 2 refine rS ?_
        refine AWP.ret ?_;subst hR;exact es
       ·replace hR:=cf hR
        refine rS ?_;refine AWP.ret ?_;subst hR;exact es
     ·replace hR:=cf hR
      iterate 2 refine rS ?_
      refine AWP.cond rfl (fun hb => ?_) (fun hb => ?_)
      ·replace hR:=ct hR
       refine rS ?_;refine AWP.ret ?_;subst hR;exact es
      ·replace hR:=cf hR
       refine rS ?_;generalize hq48:(zb s2.2.1 ([0,5,20,50,100,1,200]:List Int)).2=q48 at hR ⊢;replace hR:=bn hR;have hS_q48:SrcOk (600040+10 * (3-s2.1)+2) q48:=by rw[<- hq48];exact SrcOk.among hW2.2.2.1 (by omega)
       refine rS ?_;refine AWP.cond rfl (fun hb => ?_) (fun hb => ?_)
       ·replace hR:=ct hR
        iterate 2 refine rS ?_
        refine AWP.ret ?_;subst hR;exact es
       ·replace hR:=cf hR
        refine rS ?_;refine AWP.ret ?_;subst hR;exact es
   ·exfalso;simp_all
  ·replace hR:=cf hR
   refine rS ?_;refine AWP.cond rfl (fun hb => ?_) (fun hb => ?_)
   ·replace hR:=ct hR
    refine rS ?_;generalize hq54:(za q4 4).2=q54 at hR ⊢;replace hR:=bn hR;have hS_q54:SrcOk (600006) q54:=by rw[<- hq54];exact SrcOk.pick hS_q4 (by omega)
    refine AWP.block ?_;refine AWP.nilB 2 1 2 1 (fun _=>[]) rfl rfl ?_;try simp only[ea,absV,absVL,cput,gv,sv,dn,reduceCtorEq,reduceIte,Nat.reduceBEq,Nat.reduceAdd,Nat.reduceEqDiff,Nat.reduceLT,Nat.reduceLeDiff,Nat.reduceMul,Nat.reduceSub,BEq.rfl,beq_self_eq_true,Int.reduceToNat];generalize hz3:yeb (y6y a0 q3 q4 q54) (((((za q4 4).1)).toNat)+1) (((za q4 4).1),q54,([]:List Int))=z3 at hR;refine AWP.whileW (y6y a0 q3 q4 q54) (fun s3=>⟨[(0,.ptr 0 0),(2,.ptr 1 0),(3,.ptr 2 0),(4,.int .i64 s3.1)],[.box [encL 1 eIu8 s3.2.1.code,.int .i64 s3.2.1.at_,.int .u64 s3.2.1.seed],.box [.int .i64 0,.nils,.str [],.str [],.int .i64 0],.box [.int .i64 (IntKind.wrap .i64 (1+((za a0 8).1))),.ref 3 1 0 s3.2.2.length,.str [],.str ((ze q3).1),.int .i64 0],.arr 2 1 s3.2.2.length (fun j=>yv (s3.2.2.getD j default))]⟩) (fun s3=>0<=s3.1/\s3.1<=3/\SrcOk (600040+10 * (3-s3.1)) s3.2.1/\s3.2.2.length<=(3-s3.1).toNat/\∀ v∈s3.2.2,v<=9) (fun s3=>(s3.1).toNat) (((((za q4 4).1)).toNat)+1) (((za q4 4).1),q54,([]:List Int)) [0,1,2,3] hz3 m0 (by(have h2:=yg 4 hS_q4 (by omega);have h3:=h2.2 (by omega);exact⟨h2.1,by omega,SrcOk.mono (by assumption) (by omega),by simp,by simp⟩)) sm ?_;clear hz3;intro s3 k3 hW3 hm3 hz3;simp only[y6y]at hz3;refine rS ?_;refine AWP.cond rfl (fun hb => ?_) (fun hb => ?_)
    ·simp only[hb,cond_true]at hz3
     refine AWP.skip ?_;refine AWP.seq ?_;refine AWP.block ?_;refine AWP.regP mixed G_ok DD hc 6 [0,1,2] (.alt 3 [4] [0,1,4] (.alt 5 [] [0,1] .leaf .stop) .stop) (by kernel_rfl) (by kernel_rfl) (by kernel_rfl) (fun K hK => ?_);simp only[yxh,runN,runP,ycc,nthO,ea,absV,absVL,cput,gv,sv,dn,reduceCtorEq,reduceIte,Nat.reduceBEq,Nat.reduceAdd,Nat.reduceEqDiff,Nat.reduceLT,Nat.reduceLeDiff,Nat.reduceMul,Nat.reduceSub,BEq.rfl,beq_self_eq_true,Int.reduceToNat];repeat' apply And.intro
     all_goals first|refine hK _ ?_|exact ot
     all_goals clear hK K
     generalize hq68:(za s3.2.1 3).2=q68 at hz3 ⊢;rw[bndv q68]at hz3;have hS_q68:SrcOk (600040+10 * (3-s3.1)+2) q68:=by rw[<- hq68];exact SrcOk.pick hW3.2.2.1 (by omega)
     refine rS ?_;clear hR;exact⟨_,[0,1,2,5],by(have hpos:1<s3.1:=of_decide_eq_true (by assumption);have hwr:IntKind.wrap .i64 (s3.1-1)=s3.1-1:=(by rw[IntKind.wrap_i64];omega);(try dsimp only);rw[hwr];omega),by(have hpos:1<s3.1:=of_decide_eq_true (by assumption);have hwr:IntKind.wrap .i64 (s3.1-1)=s3.1-1:=(by rw[IntKind.wrap_i64];omega);(try dsimp only);rw[hwr];have hG:=hW3.2.2.2.1;have hp3:=yg 3 hW3.2.2.1 (by omega);have hp4:=hp3.2 (by omega);exact⟨by omega,by omega,SrcOk.mono (by assumption) (by omega),by simp only[List.length_append,List.length_cons,List.length_nil];omega,ytr hW3.2.2.2.2 (by rw[IntKind.wrap_i64];omega)⟩),hz3,sm⟩
    ·simp only[hb,cond_false]at hz3
     refine AWP.exit ?_;refine yb ?_;subst hz3;dsimp only at hR;refine rS ?_;refine AWP.cond rfl (fun hb => ?_) (fun hb => ?_)
     ·replace hR:=ct hR
      iterate 3 refine rS ?_
      refine AWP.cond rfl (fun hb => ?_) (fun hb => ?_)
      ·replace hR:=ct hR
       refine rS ?_;refine AWP.ret ?_;subst hR;exact es
      ·replace hR:=cf hR
       refine rS ?_;generalize hq70:(zb s3.2.1 ([0,5,20,50,100,1,200]:List Int)).2=q70 at hR ⊢;replace hR:=bn hR;have hS_q70:SrcOk (600040+10 * (3-s3.1)+2) q70:=by rw[<- hq70];exact SrcOk.among hW3.2.2.1 (by omega)
       refine rS ?_;refine AWP.cond rfl (fun hb => ?_) (fun hb => ?_)
       ·replace hR:=ct hR
        iterate 2 refine rS ?_
        refine AWP.ret ?_;subst hR;exact es
       ·replace hR:=cf hR
        refine rS ?_;refine AWP.ret ?_;subst hR;exact es
     ·replace hR:=cf hR
      iterate 2 refine rS ?_
      refine AWP.cond rfl (fun hb => ?_) (fun hb => ?_)
      ·replace hR:=ct hR
       refine rS ?_;refine AWP.ret ?_;subst hR;exact es
      ·replace hR:=cf hR
       refine rS ?_;generalize hq72:(zb s3.2.1 ([0,5,20,50,100,1,200]:List Int)).2=q72 at hR ⊢;replace hR:=bn hR;have hS_q72:SrcOk (600040+10 * (3-s3.1)+2) q72:=by rw[<- hq72];exact SrcOk.among hW3.2.2.1 (by omega)
       refine rS ?_;refine AWP.cond rfl (fun hb => ?_) (fun hb => ?_)
       ·replace hR:=ct hR
        iterate 2 refine rS ?_
        refine AWP.ret ?_;subst hR;exact es
       ·replace hR:=cf hR
        refine rS ?_;refine AWP.ret ?_;subst hR;exact es
   ·replace hR:=cf hR
    refine rS ?_;refine AWP.cond rfl (fun hb => ?_) (fun hb => ?_)
    ·replace hR:=ct hR
     refine AWP.skip ?_;refine AWP.cond rfl (fun hb => ?_) (fun hb => ?_)
     ·refine rS ?_
      generalize hq78:(zb q4 ([0,0,3,6,9]:List Int)).2=q78 at hR ⊢;replace hR:=bn hR;have hS_q78:SrcOk (600006) q78:=by rw[<- hq78];exact SrcOk.among hS_q4 (by omega)
      refine rS ?_;refine AWP.cond rfl (fun hb => ?_) (fun hb => ?_)
      ·replace hR:=ct hR
       refine rS ?_;refine AWP.seq ?_;rcases Bool.eq_false_or_eq_true (((zb q4 ([0,0,3,6,9]:List Int)).1) == 6)with hb|hb
       ·replace hR:=ct hR
        refine rK [(3,0),(4,0),(5,2)] ?_;generalize hq80:(zh q78 2).2=q80 at hR ⊢;replace hR:=bn hR;have hS_q80:SrcOk (600008) q80:=by rw[<- hq80];exact SrcOk.one hS_q78 (by omega)
        refine AWP.cond rfl (fun hb => ?_) (fun hb => ?_)
        ·replace hR:=ct hR
         iterate 3 refine rS ?_
         refine AWP.cond rfl (fun hb => ?_) (fun hb => ?_)
         ·replace hR:=ct hR
          refine rS ?_;refine AWP.ret ?_;subst hR;exact es
         ·replace hR:=cf hR
          refine rS ?_;generalize hq82:(zb q80 ([0,5,20,50,100,1,200]:List Int)).2=q82 at hR ⊢;replace hR:=bn hR;have hS_q82:SrcOk (600010) q82:=by rw[<- hq82];exact SrcOk.among hS_q80 (by omega)
          refine rS ?_;refine AWP.cond rfl (fun hb => ?_) (fun hb => ?_)
          ·replace hR:=ct hR
           iterate 2 refine rS ?_
           refine AWP.ret ?_;subst hR;exact es
          ·replace hR:=cf hR
           refine rS ?_;refine AWP.ret ?_;subst hR;exact es
        ·replace hR:=cf hR
         iterate 2 refine rS ?_
         refine AWP.cond rfl (fun hb => ?_) (fun hb => ?_)
         ·replace hR:=ct hR
          refine rS ?_;refine AWP.ret ?_;subst hR;exact es
         ·replace hR:=cf hR
          refine rS ?_;generalize hq84:(zb q80 ([0,5,20,50,100,1,200]:List Int)).2=q84 at hR ⊢;replace hR:=bn hR;have hS_q84:SrcOk (600010) q84:=by rw[<- hq84];exact SrcOk.among hS_q80 (by omega)
          refine rS ?_;refine AWP.cond rfl (fun hb => ?_) (fun hb => ?_)
          ·replace hR:=ct hR
           iterate 2 refine rS ?_
           refine AWP.ret ?_;subst hR;exact es
          ·replace hR:=cf hR
           refine rS ?_;refine AWP.ret ?_;subst hR;exact es
       ·replace hR:=cf hR
        refine rK [(3,1),(4,1),(5,3)] ?_;refine AWP.cond rfl (fun hb => ?_) (fun hb => ?_)
        ·exact absurd hb (by decide)
        ·refine rS ?_
         refine rS ?_;refine AWP.cond rfl (fun hb => ?_) (fun hb => ?_)
         ·replace hR:=ct hR
          refine rS ?_;refine AWP.ret ?_;subst hR;exact es
         ·replace hR:=cf hR
          refine rS ?_;generalize hq86:(zb q78 ([0,5,20,50,100,1,200]:List Int)).2=q86 at hR ⊢;replace hR:=bn hR;have hS_q86:SrcOk (600008) q86:=by rw[<- hq86];exact SrcOk.among hS_q78 (by omega)
          refine rS ?_;refine AWP.cond rfl (fun hb => ?_) (fun hb => ?_)
          ·replace hR:=ct hR
           iterate 2 refine rS ?_
           refine AWP.ret ?_;subst hR;exact es
          ·replace hR:=cf hR
           refine rS ?_;refine AWP.ret ?_;subst hR;exact es
      ·replace hR:=cf hR
       refine AWP.skip ?_;refine AWP.seq ?_;rcases Bool.eq_false_or_eq_true (((zb q4 ([0,0,3,6,9]:List Int)).1) == 6)with hb|hb
       ·replace hR:=ct hR
        refine rK [(3,0),(4,0),(5,2)] ?_;generalize hq88:(zh q78 2).2=q88 at hR ⊢;replace hR:=bn hR;have hS_q88:SrcOk (600008) q88:=by rw[<- hq88];exact SrcOk.one hS_q78 (by omega)
        refine AWP.cond rfl (fun hb => ?_) (fun hb => ?_)
        ·replace hR:=ct hR
         iterate 3 refine rS ?_
         refine AWP.cond rfl (fun hb => ?_) (fun hb => ?_)
         ·replace hR:=ct hR
          refine rS ?_;refine AWP.ret ?_;subst hR;exact es
         ·replace hR:=cf hR
          refine rS ?_;generalize hq90:(zb q88 ([0,5,20,50,100,1,200]:List Int)).2=q90 at hR ⊢;replace hR:=bn hR;have hS_q90:SrcOk (600010) q90:=by rw[<- hq90];exact SrcOk.among hS_q88 (by omega)
          refine rS ?_;refine AWP.cond rfl (fun hb => ?_) (fun hb => ?_)
          ·replace hR:=ct hR
           iterate 2 refine rS ?_
           refine AWP.ret ?_;subst hR;exact es
          ·replace hR:=cf hR
           refine rS ?_;refine AWP.ret ?_;subst hR;exact es
        ·replace hR:=cf hR
         iterate 2 refine rS ?_
         refine AWP.cond rfl (fun hb => ?_) (fun hb => ?_)
         ·replace hR:=ct hR
          refine rS ?_;refine AWP.ret ?_;subst hR;exact es
         ·replace hR:=cf hR
          refine rS ?_;generalize hq92:(zb q88 ([0,5,20,50,100,1,200]:List Int)).2=q92 at hR ⊢;replace hR:=bn hR;have hS_q92:SrcOk (600010) q92:=by rw[<- hq92];exact SrcOk.among hS_q88 (by omega)
          refine rS ?_;refine AWP.cond rfl (fun hb => ?_) (fun hb => ?_)
          ·replace hR:=ct hR
           iterate 2 refine rS ?_
           refine AWP.ret ?_;subst hR;exact es
          ·replace hR:=cf hR
           refine rS ?_;refine AWP.ret ?_;subst hR;exact es
       ·replace hR:=cf hR
        refine rK [(3,1),(4,1),(5,3)] ?_;refine AWP.cond rfl (fun hb => ?_) (fun hb => ?_)
        ·exact absurd hb (by decide)
        ·refine rS ?_
         refine rS ?_;refine AWP.cond rfl (fun hb => ?_) (fun hb => ?_)
         ·replace hR:=ct hR
          refine rS ?_;refine AWP.ret ?_;subst hR;exact es
         ·replace hR:=cf hR
          refine rS ?_;generalize hq94:(zb q78 ([0,5,20,50,100,1,200]:List Int)).2=q94 at hR ⊢;replace hR:=bn hR;have hS_q94:SrcOk (600008) q94:=by rw[<- hq94];exact SrcOk.among hS_q78 (by omega)
          refine rS ?_;refine AWP.cond rfl (fun hb => ?_) (fun hb => ?_)
          ·replace hR:=ct hR
           iterate 2 refine rS ?_
           refine AWP.ret ?_;subst hR;exact es
          ·replace hR:=cf hR
           refine rS ?_;refine AWP.ret ?_;subst hR;exact es
     ·exfalso;simp_all
    ·replace hR:=cf hR
     refine rS ?_;refine AWP.cond rfl (fun hb => ?_) (fun hb => ?_)
     ·replace hR:=ct hR
      refine rS ?_;generalize hq96:(zb q4 ([0,0,3,6,9]:List Int)).2=q96 at hR ⊢;replace hR:=bn hR;have hS_q96:SrcOk (600006) q96:=by rw[<- hq96];exact SrcOk.among hS_q4 (by omega)
      refine rS ?_;refine AWP.cond rfl (fun hb => ?_) (fun hb => ?_)
      ·replace hR:=ct hR
       refine rS ?_;refine AWP.seq ?_;rcases Bool.eq_false_or_eq_true (((zb q4 ([0,0,3,6,9]:List Int)).1) == 6)with hb|hb
       ·replace hR:=ct hR
        refine rK [(3,0),(4,0),(5,2)] ?_;generalize hq98:(zh q96 2).2=q98 at hR ⊢;replace hR:=bn hR;have hS_q98:SrcOk (600008) q98:=by rw[<- hq98];exact SrcOk.one hS_q96 (by omega)
        refine AWP.cond rfl (fun hb => ?_) (fun hb => ?_)
        ·replace hR:=ct hR
         iterate 3 refine rS ?_
         refine AWP.cond rfl (fun hb => ?_) (fun hb => ?_)
         ·replace hR:=ct hR
          refine rS ?_;refine AWP.ret ?_;subst hR;exact es
         ·replace hR:=cf hR
          refine rS ?_;generalize hq100:(zb q98 ([0,5,20,50,100,1,200]:List Int)).2=q100 at hR ⊢;replace hR:=bn hR;have hS_q100:SrcOk (600010) q100:=by rw[<- hq100];exact SrcOk.among hS_q98 (by omega)
          refine rS ?_;refine AWP.cond rfl (fun hb => ?_) (fun hb => ?_)
          ·replace hR:=ct hR
           iterate 2 refine rS ?_
           refine AWP.ret ?_;subst hR;exact es
          ·replace hR:=cf hR
           refine rS ?_;refine AWP.ret ?_;subst hR;exact es
        ·replace hR:=cf hR
         iterate 2 refine rS ?_
         refine AWP.cond rfl (fun hb => ?_) (fun hb => ?_)
         ·replace hR:=ct hR
          refine rS ?_;refine AWP.ret ?_;subst hR;exact es
         ·replace hR:=cf hR
          refine rS ?_;generalize hq102:(zb q98 ([0,5,20,50,100,1,200]:List Int)).2=q102 at hR ⊢;replace hR:=bn hR;have hS_q102:SrcOk (600010) q102:=by rw[<- hq102];exact SrcOk.among hS_q98 (by omega)
          refine rS ?_;refine AWP.cond rfl (fun hb => ?_) (fun hb => ?_)
          ·replace hR:=ct hR
           iterate 2 refine rS ?_
           refine AWP.ret ?_;subst hR;exact es
          ·replace hR:=cf hR
           refine rS ?_;refine AWP.ret ?_;subst hR;exact es
       ·replace hR:=cf hR
        refine rK [(3,1),(4,1),(5,3)] ?_;refine AWP.cond rfl (fun hb => ?_) (fun hb => ?_)
        ·exact absurd hb (by decide)
        ·refine rS ?_
         refine rS ?_;refine AWP.cond rfl (fun hb => ?_) (fun hb => ?_)
         ·replace hR:=ct hR
          refine rS ?_;refine AWP.ret ?_;subst hR;exact es
         ·replace hR:=cf hR
          refine rS ?_;generalize hq104:(zb q96 ([0,5,20,50,100,1,200]:List Int)).2=q104 at hR ⊢;replace hR:=bn hR;have hS_q104:SrcOk (600008) q104:=by rw[<- hq104];exact SrcOk.among hS_q96 (by omega)
          refine rS ?_;refine AWP.cond rfl (fun hb => ?_) (fun hb => ?_)
          ·replace hR:=ct hR
           iterate 2 refine rS ?_
           refine AWP.ret ?_;subst hR;exact es
          ·replace hR:=cf hR
           refine rS ?_;refine AWP.ret ?_;subst hR;exact es
      ·replace hR:=cf hR
       refine AWP.skip ?_;refine AWP.seq ?_;rcases Bool.eq_false_or_eq_true (((zb q4 ([0,0,3,6,9]:List Int)).1) == 6)with hb|hb
       ·replace hR:=ct hR
        refine rK [(3,0),(4,0),(5,2)] ?_;generalize hq106:(zh q96 2).2=q106 at hR ⊢;replace hR:=bn hR;have hS_q106:SrcOk (600008) q106:=by rw[<- hq106];exact SrcOk.one hS_q96 (by omega)
        refine AWP.cond rfl (fun hb => ?_) (fun hb => ?_)
        ·replace hR:=ct hR
         iterate 3 refine rS ?_
         refine AWP.cond rfl (fun hb => ?_) (fun hb => ?_)
         ·replace hR:=ct hR
          refine rS ?_;refine AWP.ret ?_;subst hR;exact es
         ·replace hR:=cf hR
          refine rS ?_;generalize hq108:(zb q106 ([0,5,20,50,100,1,200]:List Int)).2=q108 at hR ⊢;replace hR:=bn hR;have hS_q108:SrcOk (600010) q108:=by rw[<- hq108];exact SrcOk.among hS_q106 (by omega)
          refine rS ?_;refine AWP.cond rfl (fun hb => ?_) (fun hb => ?_)
          ·replace hR:=ct hR
           iterate 2 refine rS ?_
           refine AWP.ret ?_;subst hR;exact es
          ·replace hR:=cf hR
           refine rS ?_;refine AWP.ret ?_;subst hR;exact es
        ·replace hR:=cf hR
         iterate 2 refine rS ?_
         refine AWP.cond rfl (fun hb => ?_) (fun hb => ?_)
         ·replace hR:=ct hR
          refine rS ?_;refine AWP.ret ?_;subst hR;exact es
         ·replace hR:=cf hR
          refine rS ?_;generalize hq110:(zb q106 ([0,5,20,50,100,1,200]:List Int)).2=q110 at hR ⊢;replace hR:=bn hR;have hS_q110:SrcOk (600010) q110:=by rw[<- hq110];exact SrcOk.among hS_q106 (by omega)
          refine rS ?_;refine AWP.cond rfl (fun hb => ?_) (fun hb => ?_)
          ·replace hR:=ct hR
           iterate 2 refine rS ?_
           refine AWP.ret ?_;subst hR;exact es
          ·replace hR:=cf hR
           refine rS ?_;refine AWP.ret ?_;subst hR;exact es
       ·replace hR:=cf hR
        refine rK [(3,1),(4,1),(5,3)] ?_;refine AWP.cond rfl (fun hb => ?_) (fun hb => ?_)
        ·exact absurd hb (by decide)
        ·refine rS ?_
         refine rS ?_;refine AWP.cond rfl (fun hb => ?_) (fun hb => ?_)
         ·replace hR:=ct hR
          refine rS ?_;refine AWP.ret ?_;subst hR;exact es
         ·replace hR:=cf hR
          refine rS ?_;generalize hq112:(zb q96 ([0,5,20,50,100,1,200]:List Int)).2=q112 at hR ⊢;replace hR:=bn hR;have hS_q112:SrcOk (600008) q112:=by rw[<- hq112];exact SrcOk.among hS_q96 (by omega)
          refine rS ?_;refine AWP.cond rfl (fun hb => ?_) (fun hb => ?_)
          ·replace hR:=ct hR
           iterate 2 refine rS ?_
           refine AWP.ret ?_;subst hR;exact es
          ·replace hR:=cf hR
           refine rS ?_;refine AWP.ret ?_;subst hR;exact es
     ·replace hR:=cf hR
      refine rS ?_;refine AWP.cond rfl (fun hb => ?_) (fun hb => ?_)
      ·replace hR:=ct hR
       refine rS ?_;generalize hq114:(za q4 26).2=q114 at hR ⊢;replace hR:=bn hR;have hS_q114:SrcOk (600006) q114:=by rw[<- hq114];exact SrcOk.pick hS_q4 (by omega)
       iterate 2 refine rS ?_
       refine AWP.cond rfl (fun hb => ?_) (fun hb => ?_)
       ·replace hR:=ct hR
        refine rS ?_;refine AWP.ret ?_;subst hR;exact es
       ·replace hR:=cf hR
        refine rS ?_;generalize hq116:(zb q114 ([0,5,20,50,100,1,200]:List Int)).2=q116 at hR ⊢;replace hR:=bn hR;have hS_q116:SrcOk (600008) q116:=by rw[<- hq116];exact SrcOk.among hS_q114 (by omega)
        refine rS ?_;refine AWP.cond rfl (fun hb => ?_) (fun hb => ?_)
        ·replace hR:=ct hR
         iterate 2 refine rS ?_
         refine AWP.ret ?_;subst hR;exact es
        ·replace hR:=cf hR
         refine rS ?_;refine AWP.ret ?_;subst hR;exact es
      ·replace hR:=cf hR
       iterate 2 refine rS ?_
       refine AWP.cond rfl (fun hb => ?_) (fun hb => ?_)
       ·replace hR:=ct hR
        refine rS ?_;refine AWP.ret ?_;subst hR;exact es
       ·replace hR:=cf hR
        refine rS ?_;generalize hq118:(zb q4 ([0,5,20,50,100,1,200]:List Int)).2=q118 at hR ⊢;replace hR:=bn hR;have hS_q118:SrcOk (600006) q118:=by rw[<- hq118];exact SrcOk.among hS_q4 (by omega)
        refine rS ?_;refine AWP.cond rfl (fun hb => ?_) (fun hb => ?_)
        ·replace hR:=ct hR
         iterate 2 refine rS ?_
         refine AWP.ret ?_;subst hR;exact es
        ·replace hR:=cf hR
         refine rS ?_;refine AWP.ret ?_;subst hR;exact es
end N123
def D_zj : List AV -> Option (AV × List AV × List Prop)
 | [x0]=>some (.agg (ypb ((zj (rdQ yn x0)).1)),[(.op (ym ((zj (rdQ yn x0)).2)))],[wQ ym yn x0,SrcOk 600000 (rdQ yn x0)])
 | _=>none
theorem yg5:OkM Tryz.prog 123 D_zj:=by unfold D_zj;exact dm N123.den
end Go.Ab
