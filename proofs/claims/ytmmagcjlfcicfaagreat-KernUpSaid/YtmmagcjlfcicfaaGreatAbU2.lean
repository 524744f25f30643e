import Derived.Test.YtmmagcjlfcicfaaGreatAbU1
/- Contracts, printed by this session's own program gen.py. -/
set_option linter.unusedVariables false
set_option linter.unusedSimpArgs false
set_option maxRecDepth 100000
namespace Go.Proofs.YtmmagcjlfcicfaaGreat.Ab
open Go.RowKit
abbrev aaT:Type:=Int×Int×(List (Int×Int×Int×(List (Int×Int×Int×Int))×(List (Int×Int×Int×Int))×List (Int×Int×Int×Int)))×(List (PN Int 5))×Bool×Bool×Bool×(List (Int×Int×Int×Int×(Int×(PN Int 8)×(List (Int×Int×Int))×Bool)×(Int×(PN Int 8)×(List (Int×Int×Int))×Bool)×(List Int)×Bool))×(((List Int)×List Bool)×List (Int×(Int×Int)×(Int×Int)×((List Int)×List Int)×(Int×List (Int×Int))×Int))×(List Int)×List Bool
abbrev jy:Type:=Int×Int×Int×Int×(Int×(PN Int 8)×(List (Int×Int×Int))×Bool)×(Int×(PN Int 8)×(List (Int×Int×Int))×Bool)×(List Int)×Bool
abbrev WL:Ty:=.pair (.int .i64) (.pair (.int .i64) (.pair (.int .i64) (.pair (.int .i64) (.pair (.pair (.int .i64) (.pair (Am 8 (.int .i64)) (.pair (.sl 233 (.pair (.int .i64) (.pair (.int .i64) (.int .i64)))) .bool))) (.pair (.pair (.int .i64) (.pair (Am 8 (.int .i64)) (.pair (.sl 233 (.pair (.int .i64) (.pair (.int .i64) (.int .i64)))) .bool))) (.pair (.sl 3 (.int .i64)) .bool))))))
abbrev l6:Type:=Int×Int×Int×(List (Int×Int×Int×Int))×(List (Int×Int×Int×Int))×List (Int×Int×Int×Int)
abbrev j4:Type:=Int×(Int×Int)×(Int×Int)×((List Int)×List Int)×(Int×List (Int×Int))×Int
abbrev aaU:Ty:=.pair (.int .i64) (.pair (.int .i64) (.pair (.int .i64) (.pair (.sl 87 (.pair (.int .i64) (.pair (.int .i64) (.pair (.int .i64) (.int .i64))))) (.pair (.sl 87 (.pair (.int .i64) (.pair (.int .i64) (.pair (.int .i64) (.int .i64))))) (.sl 87 (.pair (.int .i64) (.pair (.int .i64) (.pair (.int .i64) (.int .i64)))))))))
abbrev V5:Ty:=.pair (.int .i64) (.pair (.pair (.int .i64) (.int .i64)) (.pair (.pair (.int .i64) (.int .i64)) (.pair (.pair (.sl 2 (.int .i64)) (.sl 3 (.int .i64))) (.pair (.pair (.int .u32) (.sl 297 (.pair (.int .i64) (.int .u32)))) (.int .u32)))))
abbrev EX:Type:=Int×Int×(List l6)×(List (PN Int 5))×Bool×Bool×Bool×(List jy)×(List Int)×(List Bool)×(List j4)×(List Int)×(List Bool)×Unit
abbrev LP:Type:=Int -> Int -> (List l6) -> (List (PN Int 5)) -> Bool -> Bool -> Bool -> (List jy) -> (List Int) -> (List Bool) -> (List j4) -> (List Int) -> (List Bool) -> Int -> Int -> Bool -> Bool -> Bool -> (List (PN Int 6)) -> (List Int) -> (List Int) -> (List (List Int)) -> Int -> Option ((aaT×(List (PN Int 6))×Unit)×Unit)
abbrev al1:Ty:=.pair (.int .i64) (.pair (.int .i64) (.pair (.sl 77 aaU) (.pair (.sl 96 (Am 5 (.int .i64))) (.pair .bool (.pair .bool (.pair .bool (.pair (.sl 94 WL) (.pair (.pair (.pair (.sl 3 (.int .i64)) (.sl 4 .bool)) (.sl 122 V5)) (.pair (.sl 3 (.int .i64)) (.sl 4 .bool))))))))))
abbrev NV:Type:=Int -> Int -> Int -> (List l6) -> (List (PN Int 5)) -> Bool -> Bool -> Bool -> (List jy) -> (List Int) -> (List Bool) -> (List j4) -> (List Int) -> (List Bool) -> Int -> Int -> (List l6) -> (List (PN Int 5)) -> Bool -> Bool -> Bool -> (List jy) -> (List Int) -> (List Bool) -> (List j4) -> (List Int) -> (List Bool) -> Int -> Option ((Bool×Unit)×Unit)
abbrev NW:Type:=Int -> Int -> (List l6) -> (List (PN Int 5)) -> Bool -> Bool -> Bool -> (List jy) -> (List Int) -> (List Bool) -> (List j4) -> (List Int) -> (List Bool) -> Int -> Int -> Bool -> Bool -> Bool -> (List (PN Int 6)) -> (List Int) -> (List Int) -> (List (List Int)) -> Int -> Int -> Option ((aaT×(List (PN Int 6))×Unit)×Unit)
abbrev V6:Ty:=.pair (.int .i64) (.pair (.int .i64) (.int .i64))
abbrev JJ:Type:=Int×Int×Unit×Unit×Bool×Bool×Bool×Unit×Unit×Unit×Unit×Unit×Unit×Unit
abbrev FE:Type:=Int×Int×Int×Int×(Int×(PN Int 8)×(List (Int×Int×Int))×Bool)×(Int×(PN Int 8)×(List (Int×Int×Int))×Bool)×(List Int)×Bool
abbrev o7:Type:=(aaT×(List (PN Int 6))×Unit)×Unit
abbrev adP:Type:=Int×Int×Int×Int×Int×Int×Int×Int×Int×Int×Int×Int×Int×(List (Int×Int×Int))×Bool×Int×Int×Int×Int×Int×Int×Int×Int×Int×(List (Int×Int×Int))×Bool×(List Int)×Bool×Unit
abbrev u6:Type:=Int×Int×Int×Int
abbrev jf:Ty:=.sl 3 (.int .i64)
abbrev NY:Type:=Int×Int×(List l6)×(List (PN Int 5))×Bool×Bool×Bool×(List jy)×(((List Int)×List Bool)×List j4)×(List Int)×List Bool
abbrev NZ:Type:=((((List Int)×List Bool)×List j4)×(List Int)×(List (List Int))×Unit)×Unit
abbrev ahY:Type:=Int×Int×Int×Int×Int×Int×Int×Int×Int×Int×Int×Int×Int×Unit×Bool×Int×Int×Int×Int×Int×Int×Int×Int×Int×Unit×Bool×Unit×Bool×Unit
abbrev l5:Type:=Int×Int×Int
abbrev JK:Ty:=.pair (.int .i64) (.int .i64)
abbrev adQ:Type:=Int -> Int -> (List l6) -> (List (PN Int 5)) -> Bool -> Bool -> Bool -> (List jy) -> (List Int) -> (List Bool) -> (List j4) -> (List Int) -> (List Bool) -> Int -> Int -> Bool -> Bool -> Bool -> (List (PN Int 6)) -> Int -> Option o7
abbrev LQ:Type:=(aaT×(List (PN Int 6))×(Int×(Int×Int)×Int)×Unit)×Unit
abbrev tu:Ty:=.sl 96 (Am 5 (.int .i64))
abbrev yw:Ty:=.sl 87 (.pair (.int .i64) V6)
abbrev V7:Type:=(Int×(PN Int 8)×(List l5)×Bool)×u6×Bool×Unit
abbrev lg:Ty:=.sl 4 .bool
abbrev yx:Type:=(Int×Unit)×Unit
abbrev V8:Type:=(((List Int)×List Bool)×Bool×Bool×Unit)×Unit
abbrev FH:Type:=(Int×Bool×Unit)×Unit
abbrev Zr:Type:=Int×(Int×l6×(Int×Int)×Int×Int×Int)×Int×Int
abbrev GN:Type:=List (PN Int 6)
abbrev CX:Type:=(Bool×Unit)×Unit
abbrev V9:Type:=Int×Int×Int×Int×Unit
abbrev AQ:Type:=List (Int×Int)
abbrev CY:Ty:=Am 6 (.int .i64)
abbrev adR:Type:=(List Int) -> (List Bool) -> (List j4) -> (List Int) -> (List (List Int)) -> Int -> Option NZ
abbrev adS:Ty:=.pair (.int .i64) (.pair aaU (.pair JK (.pair (.int .i64) (.pair (.int .i64) (.int .u32)))))
abbrev uf:Ty:=.sl 122 V5
abbrev y5:Type:=List (Int×Int)
abbrev Va:Type:=(jy×u6×Bool×Unit)×Unit
abbrev Zt:Type:=Int×Int×Int×(List u6)×(List u6)×List u6
abbrev Vb:Type:=(aaT×aaT×Bool×Unit)×Unit
abbrev u7:Ty:=.sl 233 V6
abbrev qm:Ty:=.sl 94 WL
abbrev ug:Ty:=.sl 77 aaU
abbrev al2:Type:=Int×Int×Int×Int×Int×(List u6)×(List u6)×(List u6)×Int×Int×Int×Int×Int×Int×Int×Unit
abbrev LU:Type:=(jy×Unit)×Unit
abbrev O1:Type:=List (List Int)
abbrev Zu:Ty:=.sl 114 JK
abbrev JL:Ty:=.pair jf lg
abbrev ahZ:Type:=((Unit)×EX×JJ×GN×(List Int)×(List Int)×O1×Int×Int×Unit) -> Option o7
abbrev al3:RT:=.val ⟨true,(.pair (.int .i64) (.pair JK (.int .i64))),true⟩
abbrev al4:RT:=.val ⟨true,(.pair (.int .i64) V6),true⟩
abbrev al5:PT:=.val ⟨true,(.pair JL uf),false⟩
abbrev al6:RT:=.val ⟨true,(.pair JL uf),false⟩
abbrev al7:PT:=.val ⟨false,(.sl 5 (.int .u8)),false⟩
abbrev aaV:RT:=.val ⟨false,(.sl 82 CY),true⟩
abbrev Vd:PT:=.val ⟨false,Zu,false⟩
abbrev af8:RT:=.val ⟨false,Zu,true⟩
abbrev aaW:PT:=.val ⟨true,al1,false⟩
abbrev WM:RT:=.val ⟨true,al1,false⟩
abbrev DU:PT:=.val ⟨true,WL,false⟩
abbrev Ve:RT:=.val ⟨true,WL,false⟩
abbrev Zv:PT:=.val ⟨true,aaU,false⟩
noncomputable section
abbrev af9:Cut:=⟨[2,3,4,6],[.box 44 [cI,cI,.cell ug,.cell tu,.cell .bool,.cell .bool,.cell .bool,.cell qm,.cell jf,.cell lg,.cell uf,.cell jf,.cell lg],.box 106 [cI,cI,cI,cI,.cell yw,.cell yw,.cell yw,cI,cI,cI,cI,.cell (.int .u32)],.box 44 [cI,cI,.nil,.nil,.cell .bool,.cell .bool,.cell .bool,.nil,.nil,.nil,.nil,.nil,.nil],.box 110 [cI,cI,cI,cI]],[],158,[]⟩
def DV (k:Nat) (a b:Int) (c:List l6) (e:List (PN Int 5)) (f h i:Bool) (l:List jy) (m:List Int) (n:List Bool) (o:List j4) (p:List Int) (s:List Bool) (t u v w:Int) (y z A:List u6) (B C D G H I J:Int) (K M N:Bool) (O P Q T:Int):Option LQ :=
 (WI k ((m,n),o) (IntKind.i64.wrap ((IntKind.i64.wrap (t - 2))+1))).bind fun q1 =>
 (bif !q1.1.2.2.1 then
  some (((a,b,c,e,f,h,i,l,((m,n),o),p,s),[],(4,(0,0),0),()),())
 else
  some (((a,b,c,e,f,h,i,l,q1.1.1,p,s),[],(0,q1.1.2.1,0),()),()))
def S75 (k:Nat) (a:NY) (b:Int×l6×(Int×Int)×Int×Int×Int):Option LQ :=
 (bif b.1==1 then
  (bif a.2.2.2.2.1 then
   some ((a,[],(7,(0,0),0),()),())
  else
   (S28 k a.2.2.1 b.2.1 a.2.1).bind fun q0 =>
   (bif q0.1.2.2.1==0 then
    some (((a.1,a.2.1,q0.1.1,q0.1.2.1,a.2.2.2.2),[],(q0.1.2.2.1,(0,0),0),()),())
   else
    some ((a,[],(q0.1.2.2.1,(0,0),0),()),())))
 else
  (bif b.1==2 then
   (bif b.1==2 then
    (bif a.2.2.2.2.1 then
     some ((a,[],(7,(0,0),0),()),())
    else
     DV k a.1 a.2.1 a.2.2.1 a.2.2.2.1 a.2.2.2.2.1 a.2.2.2.2.2.1 a.2.2.2.2.2.2.1 a.2.2.2.2.2.2.2.1 a.2.2.2.2.2.2.2.2.1.1.1 a.2.2.2.2.2.2.2.2.1.1.2 a.2.2.2.2.2.2.2.2.1.2 a.2.2.2.2.2.2.2.2.2.1 a.2.2.2.2.2.2.2.2.2.2 b.1 b.2.1.1 b.2.1.2.1 b.2.1.2.2.1 b.2.1.2.2.2.1 b.2.1.2.2.2.2.1 b.2.1.2.2.2.2.2 b.2.2.1.1 b.2.2.1.2 b.2.2.2.1 b.2.2.2.2.1 b.2.2.2.2.2 0 0 false false false 0 0 0 0)
   else
    DV k a.1 a.2.1 a.2.2.1 a.2.2.2.1 a.2.2.2.2.1 a.2.2.2.2.2.1 a.2.2.2.2.2.2.1 a.2.2.2.2.2.2.2.1 a.2.2.2.2.2.2.2.2.1.1.1 a.2.2.2.2.2.2.2.2.1.1.2 a.2.2.2.2.2.2.2.2.1.2 a.2.2.2.2.2.2.2.2.2.1 a.2.2.2.2.2.2.2.2.2.2 b.1 b.2.1.1 b.2.1.2.1 b.2.1.2.2.1 b.2.1.2.2.2.1 b.2.1.2.2.2.2.1 b.2.1.2.2.2.2.2 b.2.2.1.1 b.2.2.1.2 b.2.2.2.1 b.2.2.2.2.1 b.2.2.2.2.2 0 0 false false false 0 0 0 0)
  else
   (bif b.1==3 then
    (bif b.1==2 then
     (bif a.2.2.2.2.1 then
      some ((a,[],(7,(0,0),0),()),())
     else
      DV k a.1 a.2.1 a.2.2.1 a.2.2.2.1 a.2.2.2.2.1 a.2.2.2.2.2.1 a.2.2.2.2.2.2.1 a.2.2.2.2.2.2.2.1 a.2.2.2.2.2.2.2.2.1.1.1 a.2.2.2.2.2.2.2.2.1.1.2 a.2.2.2.2.2.2.2.2.1.2 a.2.2.2.2.2.2.2.2.2.1 a.2.2.2.2.2.2.2.2.2.2 b.1 b.2.1.1 b.2.1.2.1 b.2.1.2.2.1 b.2.1.2.2.2.1 b.2.1.2.2.2.2.1 b.2.1.2.2.2.2.2 b.2.2.1.1 b.2.2.1.2 b.2.2.2.1 b.2.2.2.2.1 b.2.2.2.2.2 0 0 false false false 0 0 0 0)
    else
     DV k a.1 a.2.1 a.2.2.1 a.2.2.2.1 a.2.2.2.2.1 a.2.2.2.2.2.1 a.2.2.2.2.2.2.1 a.2.2.2.2.2.2.2.1 a.2.2.2.2.2.2.2.2.1.1.1 a.2.2.2.2.2.2.2.2.1.1.2 a.2.2.2.2.2.2.2.2.1.2 a.2.2.2.2.2.2.2.2.2.1 a.2.2.2.2.2.2.2.2.2.2 b.1 b.2.1.1 b.2.1.2.1 b.2.1.2.2.1 b.2.1.2.2.2.1 b.2.1.2.2.2.2.1 b.2.1.2.2.2.2.2 b.2.2.1.1 b.2.2.1.2 b.2.2.2.1 b.2.2.2.2.1 b.2.2.2.2.2 0 0 false false false 0 0 0 0)
   else
    (bif b.1==4 then
     (bif b.1==2 then
      (bif a.2.2.2.2.1 then
       some ((a,[],(7,(0,0),0),()),())
      else
       DV k a.1 a.2.1 a.2.2.1 a.2.2.2.1 a.2.2.2.2.1 a.2.2.2.2.2.1 a.2.2.2.2.2.2.1 a.2.2.2.2.2.2.2.1 a.2.2.2.2.2.2.2.2.1.1.1 a.2.2.2.2.2.2.2.2.1.1.2 a.2.2.2.2.2.2.2.2.1.2 a.2.2.2.2.2.2.2.2.2.1 a.2.2.2.2.2.2.2.2.2.2 b.1 b.2.1.1 b.2.1.2.1 b.2.1.2.2.1 b.2.1.2.2.2.1 b.2.1.2.2.2.2.1 b.2.1.2.2.2.2.2 b.2.2.1.1 b.2.2.1.2 b.2.2.2.1 b.2.2.2.2.1 b.2.2.2.2.2 0 0 false false false 0 0 0 0)
     else
      DV k a.1 a.2.1 a.2.2.1 a.2.2.2.1 a.2.2.2.2.1 a.2.2.2.2.2.1 a.2.2.2.2.2.2.1 a.2.2.2.2.2.2.2.1 a.2.2.2.2.2.2.2.2.1.1.1 a.2.2.2.2.2.2.2.2.1.1.2 a.2.2.2.2.2.2.2.2.1.2 a.2.2.2.2.2.2.2.2.2.1 a.2.2.2.2.2.2.2.2.2.2 b.1 b.2.1.1 b.2.1.2.1 b.2.1.2.2.1 b.2.1.2.2.2.1 b.2.1.2.2.2.2.1 b.2.1.2.2.2.2.2 b.2.2.1.1 b.2.2.1.2 b.2.2.2.1 b.2.2.2.2.1 b.2.2.2.2.2 0 0 false false false 0 0 0 0)
    else
     (bif b.1==5 then
      (S13 k a).bind fun q2 =>
      (bif q2.1.2.1==0 then
       (S16 k (q2.1.1.2.2.1.length:Int)).bind fun q3 =>
       some (((q2.1.1.1,q2.1.1.2.1,q2.1.1.2.2.1,q2.1.1.2.2.2.1,q2.1.1.2.2.2.2.1,q2.1.1.2.2.2.2.2.1,q2.1.1.2.2.2.2.2.2.1,q2.1.1.2.2.2.2.2.2.2.1,q2.1.1.2.2.2.2.2.2.2.2.1,q3.1.1),[],(q2.1.2.1,(0,0),0),()),())
      else
       some ((q2.1.1,[],(q2.1.2.1,(0,0),0),()),()))
     else
      (bif b.1==6 then
       (S21 k a b.2.2.2.1 b.2.2.2.2.1).bind fun q4 =>
       some ((q4.1.1,q4.1.2.1,(q4.1.2.2.1,(0,0),0),()),())
      else
       (bif b.1==11 then
        (alW k a.2.2.2.2.2.2.2.2.1 b.2.2.1).bind fun q5 =>
        (bif !q5.1.2.2.1 then
         some ((a,[],(3,(0,0),0),()),())
        else
         (ajw k a.1 q5.1.2.1 0 15).bind fun q6 =>
         some (((a.1,a.2.1,a.2.2.1,a.2.2.2.1,a.2.2.2.2.1,a.2.2.2.2.2.1,a.2.2.2.2.2.2.1,a.2.2.2.2.2.2.2.1,q5.1.1,a.2.2.2.2.2.2.2.2.2),q6.1.1,(0,(0,0),0),()),()))
       else
        (bif b.1==7 then
         (ajz k a b).bind fun q7 =>
         some (q7.1,())
        else
         (bif b.1==8 then
          (ajz k a b).bind fun q8 =>
          some (q8.1,())
         else
          (bif b.1==9 then
           (ajE k a b).bind fun q9 =>
           some (q9.1,())
          else
           (bif b.1==10 then
            (ajE k a b).bind fun q10 =>
            some (q10.1,())
           else
            some ((a,[],(1,(0,0),0),()),()))))))))))))
def F75:Fn:=⟨[aaW,.val ⟨true,adS,false⟩],[WM,aaV,al3],fun k x=>S75 k x.1 x.2.1⟩
theorem ok75:O 75 F75:=okF (ah ok13 <| ah ok16 <| ah ok21 <| ah ok28 <| ah ok132 <| ah ok133 <| ah ok134 <| ah ok135 <| ah ok136 aj) [] (fun k=>(.join 14 af9 (fun (_,(a,b,c,e,f,h,i,l,m,n,o,p,s,_),(t,u,v,w,y,z,A,B,C,D,G,H,_),(I,J,_,_,K,M,N,_),(O,P,Q,T,_),_)=>DV k a b c e f h i l m n o p s t u v w y z A B C D G H I J K M N O P Q T) .nil)) Tryz.func75 rfl
abbrev Zw:Cut:=⟨[1,5,6],[cI,.own 114 JK,cI],[],29,[]⟩
def ajF (k:Nat) (g3:Int -> AQ -> Int -> Option ((AQ×Unit)×Unit)) (a:Int) (b:y5) (c:Int):Option ((AQ×Unit)×Unit) :=
 (bif decide (c<(b.length:Int)) then
  ix b c <|
  (bif (rd b c (0,0)).2==(IntKind.i64.wrap (a+1)) then
   ix b c <|
   g3 a (upd b c ((rd b c (0,0)).1,0)) (IntKind.i64.wrap (c+1))
  else
   g3 a b (IntKind.i64.wrap (c+1)))
 else
  some ((b,()),()))
def adT (k:Nat):Xx (((Unit)×Int×AQ×Int×Unit) -> Option ((AQ×Unit)×Unit)):=dh (bf (ay (ay (ay bg)))) (ajF k)
def ajG (k a:Nat) (b:Int) (c:y5) (e:Int):Option ((AQ×Unit)×Unit):=iter Zw (adT k) a ((),b,c,e,())
def ajH (k:Nat) (a:y5) (b:Int):Option ((AQ×Unit)×Unit) :=
 ap ([]:List (Int×Int)) a 16 fun r0 =>
 ajG k k b r0 0
def F107:Fn:=⟨[Vd,au],[af8],fun k x=>ajH k x.1 x.2.1⟩
theorem ok107:O 107 F107:=okF aj [] (fun k=>(.loop 3 Zw (adT k) (fun g=>.nil) .nil)) Tryz.func107 rfl
abbrev Zx:Cut:=⟨[4,7,8],[.box 42 [.nil,.nil],.box 42 [.own 3 (.int .i64),.own 4 .bool],cI],[],75,[]⟩
def ajI (k:Nat) (g9:(List Int) -> (List Bool) -> Int -> Option V8) (x:List Int) (a:List Bool) (b:Int):Option V8 :=
 (bif decide (b<(a.length:Int)) then
  ix a b <|
  (bif !(rd a b false) then
   some (((x,a),true,false,()),())
  else
   g9 x a (IntKind.i64.wrap (b+1)))
 else
  some (((x,a),true,true,()),()))
def adU (k:Nat):Xx (((Unit)×(Unit×Unit×Unit)×((List Int)×(List Bool)×Unit)×Int×Unit) -> Option V8):=dh (bf (bq (bf (bf bg)) (bq (ay (ay bg)) (ay bg)))) (ajI k)
def ajJ (k a:Nat) (x:List Int) (b:List Bool) (c:Int):Option V8:=iter Zx (adU k) a ((),((),(),()),(x,b,()),c,())
def al8 (k:Nat) (a:(List Int)×List Bool) (b:Int):Option V8 :=
 ap ([]:List Int) a.1 8 fun r0 =>
 ap ([]:List Bool) a.2 1 fun r1 =>
 (bif decide (b<0) then
  some (((r0,r1),false,false,()),())
 else
  (bif decide (b≥(r0.length:Int)) then
   some (((r0,r1),false,false,()),())
  else
   (bif decide (b≥(r1.length:Int)) then
    some (((r0,r1),false,false,()),())
   else
    ix r0 b <|
    ix r0 b <|
    ix (upd r0 b (IntKind.i64.wrap ((rd r0 b 0)+1))) b <|
    (bif (rd (upd r0 b (IntKind.i64.wrap ((rd r0 b 0)+1))) b 0) != 2 then
     some (((upd r0 b (IntKind.i64.wrap ((rd r0 b 0)+1)),r1),false,false,()),())
    else
     ix r1 b <|
     (bif rd r1 b false then
      some (((upd r0 b (IntKind.i64.wrap ((rd r0 b 0)+1)),r1),false,false,()),())
     else
      ix r1 b <|
      ajJ k k (upd r0 b (IntKind.i64.wrap ((rd r0 b 0)+1))) (upd r1 b true) 0)))))
def F108:Fn:=⟨[.val ⟨true,JL,false⟩,au],[.val ⟨true,JL,true⟩,rB,rB],fun k x=>al8 k x.1 x.2.1⟩
theorem ok108:O 108 F108:=okF aj [] (fun k=>(.loop 9 Zx (adU k) (fun g=>.nil) .nil)) Tryz.func108 rfl
abbrev aga:Cut:=⟨[1,2,4,5,9],[.box 44 [cI,cI,.cell ug,.cell tu,.cell .bool,.cell .bool,.cell .bool,.cell qm,.cell jf,.cell lg,.cell uf,.own 3 (.int .i64),.own 4 .bool],.box 44 [cI,cI,.nil,.nil,.cell .bool,.cell .bool,.cell .bool,.nil,.nil,.nil,.nil,.nil,.nil],.own 82 CY,cI,.cell .bool],[],96,[]⟩
def WO (k:Nat) (g3:adQ) (a b:Int) (c:List l6) (e:List (PN Int 5)) (f h i:Bool) (l:List jy) (m:List Int) (n:List Bool) (o:List j4) (p:List Int) (s:List Bool) (t u:Int) (v w y:Bool) (z:List (PN Int 6)) (A:Int) (B:Bool):Option o7 :=
 (bif B then
  ap z ([(a,10,0,0,0,0)]:List (PN Int 6)) 48 fun r8 =>
  g3 a b c e f true i l m n o p s t u v w y r8 A
 else
  g3 a b c e f h i l m n o p s t u v w y z A)
abbrev adV:Cut:=⟨[1,2,4,5],[.box 44 [cI,cI,.cell ug,.cell tu,.cell .bool,.cell .bool,.cell .bool,.cell qm,.cell jf,.cell lg,.cell uf,.cell jf,.cell lg],.box 44 [cI,cI,.nil,.nil,.cell .bool,.cell .bool,.cell .bool,.nil,.nil,.nil,.nil,.nil,.nil],.own 82 CY,cI],[],96,[]⟩
def al9 (k:Nat) (g3:adQ) (i t:Int) (u:List l6) (v:List (PN Int 5)) (w y z:Bool) (A:List jy) (B:List Int) (C:List Bool) (D:List j4) (G:List Int) (H:List Bool) (I J:Int) (K M N:Bool) (O:List (PN Int 6)) (P:Int):Option o7 :=
 (bif decide (P<(A.length:Int)) then
  ix A P <|
  ix u (rd A P (0,0,0,0,(0,Pv (α:=Int) 8 0,[],false),(0,Pv (α:=Int) 8 0,[],false),[],false)).1 <|
  (bif (IntKind.i64.wrap (i - (rd A P (0,0,0,0,(0,Pv (α:=Int) 8 0,[],false),(0,Pv (α:=Int) 8 0,[],false),[],false)).2.1)) != (rd u (rd A P (0,0,0,0,(0,Pv (α:=Int) 8 0,[],false),(0,Pv (α:=Int) 8 0,[],false),[],false)).1 (0,0,0,[],[],[])).2.2.1 then
   g3 i t u v w y z A B C D G H I J K M N O (IntKind.i64.wrap (P+1))
  else
   (S54 k A P).bind fun q0 =>
   (bif (rd A P (0,0,0,0,(0,Pv (α:=Int) 8 0,[],false),(0,Pv (α:=Int) 8 0,[],false),[],false)).2.2.2.1==2 then
    ap O ([(i,13,(rd A P (0,0,0,0,(0,Pv (α:=Int) 8 0,[],false),(0,Pv (α:=Int) 8 0,[],false),[],false)).1,0,0,0)]:List (PN Int 6)) 48 fun r1 =>
    g3 i t u v w y z q0.1.1 B C D G H I J K M N r1 P
   else
    ap O ([(i,5,(rd A P (0,0,0,0,(0,Pv (α:=Int) 8 0,[],false),(0,Pv (α:=Int) 8 0,[],false),[],false)).1,0,0,0)]:List (PN Int 6)) 48 fun r2 =>
    (S42 k (i,t,u,v,w,y,z,q0.1.1,((B,C),D),G,H)).bind fun q3 =>
    (ajH k q3.1.1 (rd A P (0,0,0,0,(0,Pv (α:=Int) 8 0,[],false),(0,Pv (α:=Int) 8 0,[],false),[],false)).1).bind fun q4 =>
    (S43 k (i,t,u,v,w,y,z,q0.1.1,((B,C),D),G,H) q4.1.1).bind fun (((a,b,c,e,f,h,l,m,((n,o),p),s),_),_) =>
    (al8 k s (rd A P (0,0,0,0,(0,Pv (α:=Int) 8 0,[],false),(0,Pv (α:=Int) 8 0,[],false),[],false)).1).bind fun q6 =>
    (bif q6.1.2.1 then
     ap r2 ([(a,9,(rd A P (0,0,0,0,(0,Pv (α:=Int) 8 0,[],false),(0,Pv (α:=Int) 8 0,[],false),[],false)).1,0,0,0)]:List (PN Int 6)) 48 fun r7 =>
     WO k g3 a b c e f h l m n o p q6.1.1.1 q6.1.1.2 I J K M N r7 P q6.1.2.2.1
    else
     WO k g3 a b c e f h l m n o p q6.1.1.1 q6.1.1.2 I J K M N r2 P q6.1.2.2.1)))
 else
  some (((i,t,u,v,w,y,z,A,((B,C),D),G,H),O,()),()))
def ah0 (k:Nat):Xx (((Unit)×EX×JJ×GN×Int×Unit) -> Option o7):=dh (bf (bq (ay (ay (ay (ay (ay (ay (ay (ay (ay (ay (ay (ay (ay bg))))))))))))) (bq (ay (ay (bf (bf (ay (ay (ay (bf (bf (bf (bf (bf (bf bg))))))))))))) (ay (ay bg))))) (al9 k)
def ama (k a:Nat) (b c:Int) (e:List l6) (f:List (PN Int 5)) (h i l:Bool) (m:List jy) (n:List Int) (o:List Bool) (p:List j4) (s:List Int) (t:List Bool) (u v:Int) (w y z:Bool) (A:List (PN Int 6)) (B:Int):Option o7:=iter adV (ah0 k) a ((),(b,c,e,f,h,i,l,m,n,o,p,s,t,()),(u,v,(),(),w,y,z,(),(),(),(),(),(),()),A,B,())
def S60 (k:Nat) (a:NY):Option o7 :=
 ama k k a.1 a.2.1 a.2.2.1 a.2.2.2.1 a.2.2.2.2.1 a.2.2.2.2.2.1 a.2.2.2.2.2.2.1 a.2.2.2.2.2.2.2.1 a.2.2.2.2.2.2.2.2.1.1.1 a.2.2.2.2.2.2.2.2.1.1.2 a.2.2.2.2.2.2.2.2.1.2 a.2.2.2.2.2.2.2.2.2.1 a.2.2.2.2.2.2.2.2.2.2 0 0 false false false ([]:List (PN Int 6)) 0
def F60:Fn:=⟨[aaW],[WM,aaV],fun k x=>S60 k x.1⟩
theorem ok60:O 60 F60:=okF (ah ok42 <| ah ok43 <| ah ok54 <| ah ok107 <| ah ok108 aj) [(4,2)] (fun k=>(.loop 3 adV (ah0 k) (fun g=>(fun (g3:adQ)=>(.join 16 aga (fun (_,(a,b,c,e,f,h,i,l,m,n,o,p,s,_),(t,u,_,_,v,w,y,_),z,A,B,_)=>WO k g3 a b c e f h i l m n o p s t u v w y z A B) .nil)) (fun k_1 k_2 k_3 k_4 k_5 k_6 k_7 k_8 k_9 ajK ajL ajM adW t2 abS ajN ajO ajP ev i=>g ((),(k_1,k_2,k_3,k_4,k_5,k_6,k_7,k_8,k_9,ajK,ajL,ajM,adW,()),(t2,abS,(),(),ajN,ajO,ajP,(),(),(),(),(),(),()),ev,i,()))) .nil)) Tryz.func60 rfl
def S61 (k:Nat) (a:List jy) (b:Int) (c:FE):Option (((List jy)×Unit)×Unit) :=
 ap ([]:List jy) a 272 fun r0 =>
 ix r0 b <|
 some ((upd r0 b c,()),())
def F61:Fn:=⟨[.val ⟨false,qm,false⟩,au,DU],[.val ⟨false,qm,true⟩],fun k (a,b,c,_)=>S61 k a b c⟩
theorem ok61:O 61 F61:=okF aj [] On Tryz.func61 rfl
abbrev adX:Cut:=⟨[1,2,5,6,7,9],[.box 41 [.cell jf,.cell lg,.cell uf],.box 41 [.nil,.nil,.nil],.own 3 (.int .i64),.own 27 jf,cI,.box 122 [cI,cI,cI,cI,cI,.own 2 (.int .i64),.own 3 (.int .i64),.cell (.int .u32),.own 297 (.pair (.int .i64) (.int .u32)),.cell (.int .u32)]],[],64,[]⟩
def RH (k:Nat) (g4:adR) (a:List Int) (b:List Bool) (c:List j4) (e:List Int) (f:List (List Int)) (h i l m n o:Int) (p s:List Int) (t:Int) (u:y5) (v:Int):Option NZ :=
 (WG k (i,(l,m),(n,o),(p,s),(t,u),v)).bind fun q5 =>
 (WH k ((a,b),c) h (i,(l,m),(n,o),(p,s),(t,u),q5.1.1)).bind fun q6 =>
 g4 q6.1.1.1.1 q6.1.1.1.2 q6.1.1.2 e f (IntKind.i64.wrap (h+1))
abbrev Zy:Cut:=⟨[1,2,5,6,7],[.box 41 [.cell jf,.cell lg,.cell uf],.box 41 [.nil,.nil,.nil],.own 3 (.int .i64),.own 27 jf,cI],[],64,[]⟩
def ajQ (k:Nat) (g4:adR) (a:List Int) (b:List Bool) (c:List j4) (e:List Int) (f:List (List Int)) (h:Int):Option NZ :=
 (bif decide (h<(c.length:Int)) then
  ix c h <|
  (bif (rd c h (0,(0,0),(0,0),([],[]),(0,[]),0)).1==0 then
   g4 a b c e f (IntKind.i64.wrap (h+1))
  else
   (WG k (rd c h (0,(0,0),(0,0),([],[]),(0,[]),0))).bind fun q0 =>
   (bif (rd c h (0,(0,0),(0,0),([],[]),(0,[]),0)).2.2.2.2.2==q0.1.1 then
    g4 a b c e f (IntKind.i64.wrap (h+1))
   else
    ap e ([h]:List Int) 8 fun r1 =>
    (ajt k (rd c h (0,(0,0),(0,0),([],[]),(0,[]),0))).bind fun q2 =>
    ap f ([q2.1.1]:List (List Int)) 24 fun r3 =>
    (ajk k (rd c h (0,(0,0),(0,0),([],[]),(0,[]),0)).1 (rd c h (0,(0,0),(0,0),([],[]),(0,[]),0)).2.1).bind fun q4 =>
    (bif (rd c h (0,(0,0),(0,0),([],[]),(0,[]),0)).1==1 then
     RH k g4 a b c r1 r3 h q4.1.1.1 q4.1.1.2.1.1 q4.1.1.2.1.2 (rd c h (0,(0,0),(0,0),([],[]),(0,[]),0)).2.2.1.1 q4.1.1.2.2.1.2 q4.1.1.2.2.2.1.1 q4.1.1.2.2.2.1.2 q4.1.1.2.2.2.2.1.1 q4.1.1.2.2.2.2.1.2 q4.1.1.2.2.2.2.2
    else
     RH k g4 a b c r1 r3 h q4.1.1.1 q4.1.1.2.1.1 q4.1.1.2.1.2 q4.1.1.2.2.1.1 q4.1.1.2.2.1.2 q4.1.1.2.2.2.1.1 q4.1.1.2.2.2.1.2 q4.1.1.2.2.2.2.1.1 q4.1.1.2.2.2.2.1.2 q4.1.1.2.2.2.2.2)))
 else
  some ((((a,b),c),e,f,()),()))
def adY (k:Nat):Xx (((Unit)×((List Int)×(List Bool)×(List j4)×Unit)×(Unit×Unit×Unit×Unit)×(List Int)×O1×Int×Unit) -> Option NZ):=dh (bf (bq (ay (ay (ay bg))) (bq (bf (bf (bf bg))) (ay (ay (ay bg)))))) (ajQ k)
def ajR (k a:Nat) (b:List Int) (c:List Bool) (e:List j4) (f:List Int) (h:List (List Int)) (i:Int):Option NZ:=iter (R:=((((List Int)×List Bool)×List j4)×(List Int)×O1×Unit)×Unit) Zy (adY k) a ((),(b,c,e,()),((),(),(),()),f,h,i,())
def amb (k:Nat) (a:((List Int)×List Bool)×List j4):Option NZ :=
 ajR k k a.1.1 a.1.2 a.2 ([]:List Int) ([]:List (List Int)) 0
def F109:Fn:=⟨[al5],[al6,.val ⟨false,jf,true⟩,.val ⟨false,(.sl 27 jf),true⟩],fun k x=>amb k x.1⟩
theorem ok109:O 109 F109:=okF (ah ok137 <| ah ok148 <| ah ok166 <| ah ok167 aj) [(5,2),(6,2)] (fun k=>(.loop 4 Zy (adY k) (fun g=>(fun (g4:adR)=>(.join 12 adX (fun (_,(a,b,c,_),_,e,f,h,(i,l,m,n,o,p,s,t,u,v,_),_)=>RH k g4 a b c e f h i l m n o p s t u v) .nil)) (fun t1 t2 t3 places who i=>g ((),(t1,t2,t3,()),((),(),(),()),places,who,i,()))) .nil)) Tryz.func109 rfl
abbrev Zz:Cut:=⟨[1,2,4,5,6],[cI,.box 94 [cI,cI,cI,cI,cI,cI,cI,cI,cI,cI,cI,cI,cI,.cell u7,.cell .bool,cI,cI,cI,cI,cI,cI,cI,cI,cI,.cell u7,.cell .bool,.cell jf,.cell .bool],.box 94 [cI,cI,cI,cI,cI,cI,cI,cI,cI,cI,cI,cI,cI,.nil,.cell .bool,cI,cI,cI,cI,cI,cI,cI,cI,cI,.nil,.cell .bool,.nil,.cell .bool],.box 94 [cI,cI,cI,cI,cI,cI,cI,cI,cI,cI,cI,cI,cI,.cell u7,.cell .bool,cI,cI,cI,cI,cI,cI,cI,cI,cI,.cell u7,.cell .bool,.own 3 (.int .i64),.cell .bool],cI],[],34,[]⟩
def ajS (k:Nat) (g4:Int -> Int -> Int -> Int -> Int -> Int -> Int -> Int -> Int -> Int -> Int -> Int -> Int -> Int -> (List l5) -> Bool -> Int -> Int -> Int -> Int -> Int -> Int -> Int -> Int -> Int -> (List l5) -> Bool -> (List Int) -> Bool -> Int -> Int -> Int -> Int -> Int -> Int -> Int -> Int -> Int -> Int -> Int -> Int -> Int -> Bool -> Int -> Int -> Int -> Int -> Int -> Int -> Int -> Int -> Int -> Bool -> Bool -> Int -> Int -> Int -> Int -> Int -> Int -> Int -> Int -> Int -> Int -> Int -> Int -> Int -> (List l5) -> Bool -> Int -> Int -> Int -> Int -> Int -> Int -> Int -> Int -> Int -> (List l5) -> Bool -> (List Int) -> Bool -> Int -> Option LU) (a b c e f h i l m n o p s t:Int) (u:List l5) (v:Bool) (w y z A B C D G H:Int) (I:List l5) (J:Bool) (K:List Int) (M:Bool) (N O P Q T U V W X Z a1 b1 c1:Int) (e1:Bool) (f1 h1 i1 l1 m1 n1 o1 p1 s1:Int) (t1 u1:Bool) (x v1 w1 y1 z1 a2 b2 c2 e2 f2 h2 i2 l2:Int) (m2:List l5) (n2:Bool) (o2 p2 s2 t2 u2 v2 w2 y2 z2:Int) (a3:List l5) (b3:Bool) (c3:List Int) (e3:Bool) (f3:Int):Option LU :=
 (bif decide (f3<(K.length:Int)) then
  ix K f3 <|
  (bif (rd K f3 0) != a then
   ix K f3 <|
   ap c3 ([rd K f3 0]:List Int) 8 fun r0 =>
   g4 a b c e f h i l m n o p s t u v w y z A B C D G H I J K M N O P Q T U V W X Z a1 b1 c1 e1 f1 h1 i1 l1 m1 n1 o1 p1 s1 t1 u1 x v1 w1 y1 z1 a2 b2 c2 e2 f2 h2 i2 l2 m2 n2 o2 p2 s2 t2 u2 v2 w2 y2 z2 a3 b3 r0 e3 (IntKind.i64.wrap (f3+1))
  else
   g4 a b c e f h i l m n o p s t u v w y z A B C D G H I J K M N O P Q T U V W X Z a1 b1 c1 e1 f1 h1 i1 l1 m1 n1 o1 p1 s1 t1 u1 x v1 w1 y1 z1 a2 b2 c2 e2 f2 h2 i2 l2 m2 n2 o2 p2 s2 t2 u2 v2 w2 y2 z2 a3 b3 c3 e3 (IntKind.i64.wrap (f3+1)))
 else
  some (((x,v1,w1,y1,(z1,(a2,b2,c2,e2,f2,h2,i2,l2),m2,n2),(o2,(p2,s2,t2,u2,v2,w2,y2,z2),a3,b3),c3,e3),()),()))
def adZ (k:Nat):Xx (((Unit)×Int×adP×ahY×adP×Int×Unit) -> Option LU):=dh (bf (ay (bq (ay (ay (ay (ay (ay (ay (ay (ay (ay (ay (ay (ay (ay (ay (ay (ay (ay (ay (ay (ay (ay (ay (ay (ay (ay (ay (ay (ay bg)))))))))))))))))))))))))))) (bq (ay (ay (ay (ay (ay (ay (ay (ay (ay (ay (ay (ay (ay (bf (ay (ay (ay (ay (ay (ay (ay (ay (ay (ay (bf (ay (bf (ay bg)))))))))))))))))))))))))))) (bq (ay (ay (ay (ay (ay (ay (ay (ay (ay (ay (ay (ay (ay (ay (ay (ay (ay (ay (ay (ay (ay (ay (ay (ay (ay (ay (ay (ay bg)))))))))))))))))))))))))))) (ay bg)))))) (ajS k)
def ajT (k a:Nat) (b c e f h i l m n o p s t u:Int) (v:List l5) (w:Bool) (y z A B C D G H I:Int) (J:List l5) (K:Bool) (M:List Int) (N:Bool) (O P Q T U V W X Z a1 b1 c1 e1:Int) (f1:Bool) (h1 i1 l1 m1 n1 o1 p1 s1 t1:Int) (u1 v1:Bool) (x w1 y1 z1 a2 b2 c2 e2 f2 h2 i2 l2 m2:Int) (n2:List l5) (o2:Bool) (p2 s2 t2 u2 v2 w2 y2 z2 a3:Int) (b3:List l5) (c3:Bool) (e3:List Int) (f3:Bool) (h3:Int):Option LU:=iter Zz (adZ k) a ((),b,(c,e,f,h,i,l,m,n,o,p,s,t,u,v,w,y,z,A,B,C,D,G,H,I,J,K,M,N,()),(O,P,Q,T,U,V,W,X,Z,a1,b1,c1,e1,(),f1,h1,i1,l1,m1,n1,o1,p1,s1,t1,(),u1,(),v1,()),(x,w1,y1,z1,a2,b2,c2,e2,f2,h2,i2,l2,m2,n2,o2,p2,s2,t2,u2,v2,w2,y2,z2,a3,b3,c3,e3,f3,()),h3,())
def amc (k:Nat) (a:FE) (b:Int):Option LU :=
 ajT k k b a.1 a.2.1 a.2.2.1 a.2.2.2.1 a.2.2.2.2.1.1 a.2.2.2.2.1.2.1.1 a.2.2.2.2.1.2.1.2.1 a.2.2.2.2.1.2.1.2.2.1 a.2.2.2.2.1.2.1.2.2.2.1 a.2.2.2.2.1.2.1.2.2.2.2.1 a.2.2.2.2.1.2.1.2.2.2.2.2.1 a.2.2.2.2.1.2.1.2.2.2.2.2.2.1 a.2.2.2.2.1.2.1.2.2.2.2.2.2.2 a.2.2.2.2.1.2.2.1 a.2.2.2.2.1.2.2.2 a.2.2.2.2.2.1.1 a.2.2.2.2.2.1.2.1.1 a.2.2.2.2.2.1.2.1.2.1 a.2.2.2.2.2.1.2.1.2.2.1 a.2.2.2.2.2.1.2.1.2.2.2.1 a.2.2.2.2.2.1.2.1.2.2.2.2.1 a.2.2.2.2.2.1.2.1.2.2.2.2.2.1 a.2.2.2.2.2.1.2.1.2.2.2.2.2.2.1 a.2.2.2.2.2.1.2.1.2.2.2.2.2.2.2 a.2.2.2.2.2.1.2.2.1 a.2.2.2.2.2.1.2.2.2 a.2.2.2.2.2.2.1 a.2.2.2.2.2.2.2 0 0 0 0 0 0 0 0 0 0 0 0 0 false 0 0 0 0 0 0 0 0 0 false false a.1 a.2.1 a.2.2.1 a.2.2.2.1 a.2.2.2.2.1.1 a.2.2.2.2.1.2.1.1 a.2.2.2.2.1.2.1.2.1 a.2.2.2.2.1.2.1.2.2.1 a.2.2.2.2.1.2.1.2.2.2.1 a.2.2.2.2.1.2.1.2.2.2.2.1 a.2.2.2.2.1.2.1.2.2.2.2.2.1 a.2.2.2.2.1.2.1.2.2.2.2.2.2.1 a.2.2.2.2.1.2.1.2.2.2.2.2.2.2 a.2.2.2.2.1.2.2.1 a.2.2.2.2.1.2.2.2 a.2.2.2.2.2.1.1 a.2.2.2.2.2.1.2.1.1 a.2.2.2.2.2.1.2.1.2.1 a.2.2.2.2.2.1.2.1.2.2.1 a.2.2.2.2.2.1.2.1.2.2.2.1 a.2.2.2.2.2.1.2.1.2.2.2.2.1 a.2.2.2.2.2.1.2.1.2.2.2.2.2.1 a.2.2.2.2.2.1.2.1.2.2.2.2.2.2.1 a.2.2.2.2.2.1.2.1.2.2.2.2.2.2.2 a.2.2.2.2.2.1.2.2.1 a.2.2.2.2.2.1.2.2.2 ([]:List Int) a.2.2.2.2.2.2.2 0
def F110:Fn:=⟨[DU,au],[Ve],fun k x=>amc k x.1 x.2.1⟩
theorem ok110:O 110 F110:=okF aj [(8,2)] (fun k=>(.loop 4 Zz (adZ k) (fun g=>.nil) .nil)) Tryz.func110 rfl
abbrev ZA:Cut:=⟨[1,2,4,5,7,8,9,11,12],[.box 44 [cI,cI,.cell ug,.cell tu,.cell .bool,.cell .bool,.cell .bool,.cell qm,.cell jf,.cell lg,.cell uf,.cell jf,.cell lg],.box 44 [cI,cI,.nil,.nil,.cell .bool,.cell .bool,.cell .bool,.nil,.nil,.nil,.nil,.nil,.nil],.own 82 CY,.own 3 (.int .i64),.own 3 (.int .i64),.own 27 jf,cI,cI,cI],[],101,[]⟩
def ajU (k:Nat) (g6:LP) (g14:NW) (g17:Int -> Int -> (List l6) -> (List (PN Int 5)) -> Bool -> Bool -> Bool -> (List jy) -> (List Int) -> (List Bool) -> (List j4) -> (List Int) -> (List Bool) -> Int -> Int -> Bool -> Bool -> Bool -> GN -> (List Int) -> (List Int) -> O1 -> Int -> Int -> Int -> Option o7) (a b:Int) (c:List l6) (e:List (PN Int 5)) (f h i:Bool) (l:List jy) (m:List Int) (n:List Bool) (o:List j4) (p:List Int) (s:List Bool) (t u:Int) (v w y:Bool) (z:List (PN Int 6)) (A B:List Int) (C:List (List Int)) (D G H:Int):Option o7 :=
 (bif decide (H<(l.length:Int)) then
  ix A G <|
  ix B D <|
  (bif (rd A G 0)==(rd B D 0) then
   ix l H <|
   (amc k (rd l H (0,0,0,0,(0,Pv (α:=Int) 8 0,[],false),(0,Pv (α:=Int) 8 0,[],false),[],false)) G).bind fun q4 =>
   (S61 k l H q4.1.1).bind fun q5 =>
   g17 a b c e f h i q5.1.1 m n o p s t u v w y z A B C D G (IntKind.i64.wrap (H+1))
  else
   g14 a b c e f h i l m n o p s t u v w y z A B C D (IntKind.i64.wrap (G+1)))
 else
  g14 a b c e f h i l m n o p s t u v w y z A B C D (IntKind.i64.wrap (G+1)))
def ad1 (k:Nat) (g6:LP) (g14:NW):Xx (((Unit)×EX×JJ×GN×(List Int)×(List Int)×O1×Int×Int×Int×Unit) -> Option o7):=dh (bf (bq (ay (ay (ay (ay (ay (ay (ay (ay (ay (ay (ay (ay (ay bg))))))))))))) (bq (ay (ay (bf (bf (ay (ay (ay (bf (bf (bf (bf (bf (bf bg))))))))))))) (ay (ay (ay (ay (ay (ay (ay bg)))))))))) (ajU k g6 g14)
def ajV (k:Nat) (g6:LP) (g14:NW) (a:Nat) (b c:Int) (e:List l6) (f:List (PN Int 5)) (h i l:Bool) (m:List jy) (n:List Int) (o:List Bool) (p:List j4) (s:List Int) (t:List Bool) (u v:Int) (w y z:Bool) (A:List (PN Int 6)) (B C:List Int) (D:List (List Int)) (G H I:Int):Option o7:=iter ZA (ad1 k g6 g14) a ((),(b,c,e,f,h,i,l,m,n,o,p,s,t,()),(u,v,(),(),w,y,z,(),(),(),(),(),(),()),A,B,C,D,G,H,I,())
abbrev ZB:Cut:=⟨[1,2,4,5,7,8,9,11],[.box 44 [cI,cI,.cell ug,.cell tu,.cell .bool,.cell .bool,.cell .bool,.cell qm,.cell jf,.cell lg,.cell uf,.cell jf,.cell lg],.box 44 [cI,cI,.nil,.nil,.cell .bool,.cell .bool,.cell .bool,.nil,.nil,.nil,.nil,.nil,.nil],.own 82 CY,.own 3 (.int .i64),.own 3 (.int .i64),.own 27 jf,cI,cI],[],101,[]⟩
def ajW (k:Nat) (g6:LP) (g14:NW) (a b:Int) (c:List l6) (e:List (PN Int 5)) (f h i:Bool) (l:List jy) (m:List Int) (n:List Bool) (o:List j4) (p:List Int) (s:List Bool) (t u:Int) (v w y:Bool) (z:List (PN Int 6)) (A B:List Int) (C:List (List Int)) (D G:Int):Option o7 :=
 (bif decide (G<(A.length:Int)) then
  ajV k g6 g14 k a b c e f h i l m n o p s t u v w y z A B C D G 0
 else
  g6 a b c e f h i l m n o p s t u v w y z A B C (IntKind.i64.wrap (D+1)))
def ad2 (k:Nat) (g6:LP):Xx (ahZ):=dh (bf (bq (ay (ay (ay (ay (ay (ay (ay (ay (ay (ay (ay (ay (ay bg))))))))))))) (bq (ay (ay (bf (bf (ay (ay (ay (bf (bf (bf (bf (bf (bf bg))))))))))))) (ay (ay (ay (ay (ay (ay bg))))))))) (ajW k g6)
def ajX (k:Nat) (g6:LP) (a:Nat) (b c:Int) (e:List l6) (f:List (PN Int 5)) (h i l:Bool) (m:List jy) (n:List Int) (o:List Bool) (p:List j4) (s:List Int) (t:List Bool) (u v:Int) (w y z:Bool) (A:List (PN Int 6)) (B C:List Int) (D:List (List Int)) (G H:Int):Option o7:=iter ZB (ad2 k g6) a ((),(b,c,e,f,h,i,l,m,n,o,p,s,t,()),(u,v,(),(),w,y,z,(),(),(),(),(),(),()),A,B,C,D,G,H,())
abbrev ZC:Cut:=⟨[1,2,4,5,7,8,9,10],[.box 44 [cI,cI,.cell ug,.cell tu,.cell .bool,.cell .bool,.cell .bool,.cell qm,.cell jf,.cell lg,.cell uf,.cell jf,.cell lg],.box 44 [cI,cI,.nil,.nil,.cell .bool,.cell .bool,.cell .bool,.nil,.nil,.nil,.nil,.nil,.nil],.own 82 CY,.own 3 (.int .i64),.own 3 (.int .i64),.own 27 jf,cI,cI],[],101,[]⟩
def ajY (k:Nat) (g6:LP) (g10:NW) (a b:Int) (c:List l6) (e:List (PN Int 5)) (f h i:Bool) (l:List jy) (m:List Int) (n:List Bool) (o:List j4) (p:List Int) (s:List Bool) (t u:Int) (v w y:Bool) (z:List (PN Int 6)) (A B:List Int) (C:List (List Int)) (D G:Int):Option o7 :=
 ix C D <|
 (bif decide (G<((rd C D []).length:Int)) then
  ix C D <|
  ix (rd C D []) G <|
  ap z ([(a,12,0,rd (rd C D []) G 0,0,15)]:List (PN Int 6)) 48 fun r3 =>
  g10 a b c e f h i l m n o p s t u v w y r3 A B C D (IntKind.i64.wrap (G+1))
 else
  ajX k g6 k a b c e f h i l m n o p s t u v w y z A B C D 0)
def ad3 (k:Nat) (g6:LP):Xx (ahZ):=dh (bf (bq (ay (ay (ay (ay (ay (ay (ay (ay (ay (ay (ay (ay (ay bg))))))))))))) (bq (ay (ay (bf (bf (ay (ay (ay (bf (bf (bf (bf (bf (bf bg))))))))))))) (ay (ay (ay (ay (ay (ay bg))))))))) (ajY k g6)
def ajZ (k:Nat) (g6:LP) (a:Nat) (b c:Int) (e:List l6) (f:List (PN Int 5)) (h i l:Bool) (m:List jy) (n:List Int) (o:List Bool) (p:List j4) (s:List Int) (t:List Bool) (u v:Int) (w y z:Bool) (A:List (PN Int 6)) (B C:List Int) (D:List (List Int)) (G H:Int):Option o7:=iter ZC (ad3 k g6) a ((),(b,c,e,f,h,i,l,m,n,o,p,s,t,()),(u,v,(),(),w,y,z,(),(),(),(),(),(),()),A,B,C,D,G,H,())
abbrev ad4:Cut:=⟨[1,2,4,5,7,8,9],[.box 44 [cI,cI,.cell ug,.cell tu,.cell .bool,.cell .bool,.cell .bool,.cell qm,.cell jf,.cell lg,.cell uf,.cell jf,.cell lg],.box 44 [cI,cI,.nil,.nil,.cell .bool,.cell .bool,.cell .bool,.nil,.nil,.nil,.nil,.nil,.nil],.own 82 CY,.own 3 (.int .i64),.own 3 (.int .i64),.own 27 jf,cI],[],101,[]⟩
def amd (k:Nat) (g6:LP) (a b:Int) (c:List l6) (e:List (PN Int 5)) (f h i:Bool) (l:List jy) (m:List Int) (n:List Bool) (o:List j4) (p:List Int) (s:List Bool) (t u:Int) (v w y:Bool) (z:List (PN Int 6)) (A B:List Int) (C:List (List Int)) (D:Int):Option o7 :=
 (bif decide (D<(B.length:Int)) then
  ix B D <|
  ap z ([(a,11,0,rd B D 0,0,0)]:List (PN Int 6)) 48 fun r2 =>
  ajZ k g6 k a b c e f h i l m n o p s t u v w y r2 A B C D 0
 else
  some (((a,b,c,e,f,h,i,l,((m,n),o),p,s),z,()),()))
def ah1 (k:Nat):Xx (((Unit)×EX×JJ×GN×(List Int)×(List Int)×O1×Int×Unit) -> Option o7):=dh (bf (bq (ay (ay (ay (ay (ay (ay (ay (ay (ay (ay (ay (ay (ay bg))))))))))))) (bq (ay (ay (bf (bf (ay (ay (ay (bf (bf (bf (bf (bf (bf bg))))))))))))) (ay (ay (ay (ay (ay bg)))))))) (amd k)
def ame (k a:Nat) (b c:Int) (e:List l6) (f:List (PN Int 5)) (h i l:Bool) (m:List jy) (n:List Int) (o:List Bool) (p:List j4) (s:List Int) (t:List Bool) (u v:Int) (w y z:Bool) (A:List (PN Int 6)) (B C:List Int) (D:List (List Int)) (G:Int):Option o7:=iter ad4 (ah1 k) a ((),(b,c,e,f,h,i,l,m,n,o,p,s,t,()),(u,v,(),(),w,y,z,(),(),(),(),(),(),()),A,B,C,D,G,())
def S62 (k:Nat) (a:NY):Option o7 :=
 (S40 k a.2.2.2.2.2.2.2.2.1).bind fun q0 =>
 (amb k a.2.2.2.2.2.2.2.2.1).bind fun q1 =>
 ame k k a.1 a.2.1 a.2.2.1 a.2.2.2.1 a.2.2.2.2.1 a.2.2.2.2.2.1 a.2.2.2.2.2.2.1 a.2.2.2.2.2.2.2.1 q1.1.1.1.1 q1.1.1.1.2 q1.1.1.2 a.2.2.2.2.2.2.2.2.2.1 a.2.2.2.2.2.2.2.2.2.2 0 0 false false false ([]:List (PN Int 6)) q0.1.1 q1.1.2.1 q1.1.2.2.1 0
def F62:Fn:=⟨[aaW],[WM,aaV],fun k x=>S62 k x.1⟩
theorem ok62:O 62 F62:=okF (ah ok40 <| ah ok61 <| ah ok109 <| ah ok110 aj) [(4,2)] (fun k=>(.loop 6 ad4 (ah1 k) (fun g=>(fun (g6:LP)=>(.loop 14 ZB (ad2 k g6) (fun g=>(fun (g14:NW)=>(.loop 17 ZA (ad1 k g6 g14) (fun g=>.nil) .nil)) (fun anH anI anJ anK anL anM anN anO anP anQ anR anS anT amf amg amh ami amj ev2 agb agc anU i2 s=>g ((),(anH,anI,anJ,anK,anL,anM,anN,anO,anP,anQ,anR,anS,anT,()),(amf,amg,(),(),amh,ami,amj,(),(),(),(),(),(),()),ev2,agb,agc,anU,i2,s,()))) (.loop 10 ZC (ad3 k g6) (fun g=>.nil) .nil))) (fun k_1 k_2 k_3 k_4 k_5 k_6 k_7 k_8 k_9 ajK ajL ajM adW t2 abS ajN ajO ajP ev places turned who i=>g ((),(k_1,k_2,k_3,k_4,k_5,k_6,k_7,k_8,k_9,ajK,ajL,ajM,adW,()),(t2,abS,(),(),ajN,ajO,ajP,(),(),(),(),(),(),()),ev,places,turned,who,i,()))) .nil)) Tryz.func62 rfl
abbrev ZE:Cut:=⟨[0,1,2,8,9,10],[.cell Zu,.cell jf,cI,cI,.cell .bool,cI],[],58,[]⟩
def aj0 (k:Nat) (g3:AQ -> (List Int) -> Int -> Int -> Bool -> Int -> Option FH) (a:y5) (b:List Int) (c e:Int) (f:Bool) (h:Int):Option FH :=
 (bif decide (h<(b.length:Int)) then
  ix b h <|
  (bif decide ((rd b h 0)<0) then
   g3 a b c e f (IntKind.i64.wrap (h+1))
  else
   (bif decide ((rd b h 0)≥(a.length:Int)) then
    g3 a b c e f (IntKind.i64.wrap (h+1))
   else
    ix a (rd b h 0) <|
    (bif (rd a (rd b h 0) (0,0)).2 != (IntKind.i64.wrap (c+1)) then
     g3 a b c e f (IntKind.i64.wrap (h+1))
    else
     (bif !f then
      ix a (rd b h 0) <|
      g3 a b c (rd a (rd b h 0) (0,0)).1 true (IntKind.i64.wrap (h+1))
     else
      ix a (rd b h 0) <|
      (bif decide ((rd a (rd b h 0) (0,0)).1<e) then
       ix a (rd b h 0) <|
       g3 a b c (rd a (rd b h 0) (0,0)).1 true (IntKind.i64.wrap (h+1))
      else
       g3 a b c e true (IntKind.i64.wrap (h+1)))))))
 else
  some ((e,f,()),()))
def ad5 (k:Nat):Xx (((Unit)×AQ×(List Int)×Int×Int×Bool×Int×Unit) -> Option FH):=dh (bf (ay (ay (ay (ay (ay (ay bg))))))) (aj0 k)
def aj1 (k a:Nat) (b:y5) (c:List Int) (e f:Int) (h:Bool) (i:Int):Option FH:=iter ZE (ad5 k) a ((),b,c,e,f,h,i,())
def agd (k:Nat) (a:y5) (b:List Int) (c:Int):Option FH :=
 aj1 k k a b c 0 false 0
def F217:Fn:=⟨[Vd,.val ⟨false,jf,false⟩,au],[rI,rB],fun k (a,b,c,_)=>agd k a b c⟩
theorem ok217:O 217 F217:=okF aj [] (fun k=>(.loop 3 ZE (ad5 k) (fun g=>.nil) .nil)) Tryz.func217 rfl
def agf (k:Nat) (a:FE) (b:Int):Option yx :=
 (bif a.2.2.2.1==2 then
  some ((IntKind.i64.wrap ((IntKind.i64.wrap (2 * b))+a.1),()),())
 else
  (bif a.2.2.2.2.2.2.2 then
   some ((a.1,()),())
  else
   some ((IntKind.i64.wrap (b+a.1),()),())))
def F233:Fn:=⟨[DU,au],[rI],fun k x=>agf k x.1 x.2.1⟩
theorem ok233:O 233 F233:=okF aj [] On Tryz.func233 rfl
def aj2 (k:Nat) (a:FE) (b:Int) (c:y5):Option yx :=
 (agd k c a.2.2.2.2.2.2.1 a.1).bind fun q0 =>
 (bif q0.1.2.1 then
  (agf k a b).bind fun q1 =>
  (bif decide (q0.1.1<q1.1.1) then
   some ((q0.1.1,()),())
  else
   (agf k a b).bind fun q2 =>
   some ((q2.1.1,()),()))
 else
  (agf k a b).bind fun q3 =>
  some ((q3.1.1,()),()))
def F216:Fn:=⟨[DU,au,Vd],[rI],fun k (a,b,c,_)=>aj2 k a b c⟩
theorem ok216:O 216 F216:=okF (ah ok217 <| ah ok233 aj) [] On Tryz.func216 rfl
def amk (k:Nat) (a b:FE) (c:Int) (e:y5):Option CX :=
 (aj2 k a c e).bind fun q0 =>
 (aj2 k b c e).bind fun q1 =>
 (agd k e a.2.2.2.2.2.2.1 a.1).bind fun q2 =>
 (agd k e b.2.2.2.2.2.2.1 b.1).bind fun q3 =>
 (bif q0.1.1 != q1.1.1 then
  some ((decide (q0.1.1<q1.1.1),()),())
 else
  (bif !(q2.1.2.1==q3.1.2.1) then
   some ((q2.1.2.1,()),())
  else
   some ((decide (a.1<b.1),()),())))
def F168:Fn:=⟨[DU,DU,au,Vd],[rB],fun k (a,b,c,e,_)=>amk k a b c e⟩
theorem ok168:O 168 F168:=okF (ah ok216 <| ah ok217 aj) [] On Tryz.func168 rfl
abbrev ZF:Cut:=⟨[0,1,2,8,9],[.cell qm,cI,.cell Zu,cI,cI],[],36,[]⟩
def aj3 (k:Nat) (g3:(List jy) -> Int -> AQ -> Int -> Int -> Option FH) (a:List jy) (b:Int) (c:y5) (e f:Int):Option FH :=
 (bif decide (f<(a.length:Int)) then
  (bif decide (e<0) then
   g3 a b c f (IntKind.i64.wrap (f+1))
  else
   ix a f <|
   ix a e <|
   (amk k (rd a f (0,0,0,0,(0,Pv (α:=Int) 8 0,[],false),(0,Pv (α:=Int) 8 0,[],false),[],false)) (rd a e (0,0,0,0,(0,Pv (α:=Int) 8 0,[],false),(0,Pv (α:=Int) 8 0,[],false),[],false)) b c).bind fun q0 =>
   (bif q0.1.1 then
    g3 a b c f (IntKind.i64.wrap (f+1))
   else
    g3 a b c e (IntKind.i64.wrap (f+1))))
 else
  some ((mx e 0,decide (e≥0),()),()))
def ad6 (k:Nat):Xx (((Unit)×(List jy)×Int×AQ×Int×Int×Unit) -> Option FH):=dh (bf (ay (ay (ay (ay (ay bg)))))) (aj3 k)
def aj4 (k a:Nat) (b:List jy) (c:Int) (e:y5) (f h:Int):Option FH:=iter ZF (ad6 k) a ((),b,c,e,f,h,())
def aml (k:Nat) (a:List jy) (b:Int) (c:y5):Option FH :=
 aj4 k k a b c (-1) 0
def F111:Fn:=⟨[.val ⟨false,qm,false⟩,au,Vd],[rI,rB],fun k (a,b,c,_)=>aml k a b c⟩
theorem ok111:O 111 F111:=okF (ah ok168 aj) [] (fun k=>(.loop 3 ZF (ad6 k) (fun g=>.nil) .nil)) Tryz.func111 rfl
def agh (k:Nat) (a:Zt) (b:FE):Option LU :=
 (bif b.2.2.2.1==0 then
  (bif decide ((a.2.2.2.2.1.length:Int)>0) then
   (S71 k b.2.2.1).bind fun q0 =>
   some (((b.1,b.2.1,b.2.2.1,1,q0.1.1,q0.1.1,[],b.2.2.2.2.2.2.2),()),())
  else
   some (((b.1,b.2.1,b.2.2.1,b.2.2.2.1,b.2.2.2.2.2.1,b.2.2.2.2.2.1,[],b.2.2.2.2.2.2.2),()),()))
 else
  some (((b.1,b.2.1,b.2.2.1,b.2.2.2.1,b.2.2.2.2.2.1,b.2.2.2.2.2.1,[],b.2.2.2.2.2.2.2),()),()))
def F169:Fn:=⟨[Zv,DU],[Ve],fun k x=>agh k x.1 x.2.1⟩
theorem ok169:O 169 F169:=okF (ah ok71 aj) [] On Tryz.func169 rfl
def amm (k:Nat) (a:Zt) (b:FE) (c:y5):Option ((jy×AQ×Int×Unit)×Unit) :=
 (ajH k c b.1).bind fun q0 =>
 (bif b.2.2.2.1==2 then
  some ((b,q0.1.1,13,()),())
 else
  (bif b.2.2.2.1==0 then
   (bif decide ((a.2.2.2.2.1.length:Int)>0) then
    (agh k a b).bind fun q1 =>
    some ((q1.1.1,q0.1.1,7,()),())
   else
    (agh k a b).bind fun q2 =>
    some ((q2.1.1,q0.1.1,6,()),()))
  else
   (agh k a b).bind fun q3 =>
   some ((q3.1.1,q0.1.1,6,()),())))
def F112:Fn:=⟨[Zv,DU,Vd],[Ve,af8,rI],fun k (a,b,c,_)=>amm k a b c⟩
theorem ok112:O 112 F112:=okF (ah ok107 <| ah ok169 aj) [] On Tryz.func112 rfl
def amn (k:Nat) (a:Zt) (b:FE):Option (((List u6)×Unit)×Unit) :=
 (bif b.2.2.2.1==0 then
  some ((a.2.2.2.1,()),())
 else
  (bif b.2.2.2.1==1 then
   some ((a.2.2.2.2.1,()),())
  else
   (bif b.2.2.2.1==2 then
    some ((a.2.2.2.2.2,()),())
   else
    some (([],()),()))))
def F170:Fn:=⟨[Zv,DU],[.val ⟨false,yw,false⟩],fun k x=>amn k x.1 x.2.1⟩
theorem ok170:O 170 F170:=okF aj [] On Tryz.func170 rfl
abbrev ZG:Cut:=⟨[0,1],[cI,cI],[],35,[]⟩
def aj5 (k:Nat) (g6:Int -> Int -> Option yx) (a b:Int):Option yx :=
 (bif decide (b<0) then
  (bif decide (a<0) then
   (bif (Int.tmod a 2) != 0 then
    g6 (IntKind.i64.wrap ((IntKind.i64.wrap (Int.tdiv a 2)) - 1)) (IntKind.i64.wrap (b+1))
   else
    g6 (IntKind.i64.wrap (Int.tdiv a 2)) (IntKind.i64.wrap (b+1)))
  else
   g6 (IntKind.i64.wrap (Int.tdiv a 2)) (IntKind.i64.wrap (b+1)))
 else
  some ((a,()),()))
def ad7 (k:Nat):Xx (((Unit)×Int×Int×Unit) -> Option yx):=dh (bf (ay (ay bg))) (aj5 k)
def aj6 (k a:Nat) (b c:Int):Option yx:=iter ZG (ad7 k) a ((),b,c,())
abbrev ZH:Cut:=⟨[0,1],[cI,cI],[],35,[]⟩
def aj7 (k:Nat) (g3:Int -> Int -> Option yx) (a b:Int):Option yx :=
 (bif decide (b>0) then
  g3 (IntKind.i64.wrap (a * 2)) (IntKind.i64.wrap (b - 1))
 else
  aj6 k k a b)
def ad8 (k:Nat):Xx (((Unit)×Int×Int×Unit) -> Option yx):=dh (bf (ay (ay bg))) (aj7 k)
def aj8 (k a:Nat) (b c:Int):Option yx:=iter ZH (ad8 k) a ((),b,c,())
def amo (k:Nat) (a b:Int):Option yx :=
 (bif decide (b<(-63)) then
  some ((a,()),())
 else
  (bif decide (b>63) then
   some ((a,()),())
  else
   aj8 k k a b))
def F130:Fn:=⟨[au,au],[rI],fun k x=>amo k x.1 x.2.1⟩
theorem ok130:O 130 F130:=okF aj [] (fun k=>(.loop 6 ZG (ad7 k) (fun g=>.nil) (.loop 3 ZH (ad8 k) (fun g=>.nil) .nil))) Tryz.func130 rfl
abbrev ZI:Cut:=⟨[0,3],[cI,.cell (.int .u64)],[],11,[]⟩
def aj9 (k:Nat) (g2:Int -> Int -> Option yx) (a b:Int):Option yx :=
 (bif decide (a>0) then
  g2 (IntKind.i64.wrap (a - 1)) (IntKind.u64.wrap (2 * b))
 else
  some ((b,()),()))
def ad9 (k:Nat):Xx (((Unit)×Int×Int×Unit) -> Option yx):=dh (bf (ay (ay bg))) (aj9 k)
def akb (k a:Nat) (b c:Int):Option yx:=iter ZI (ad9 k) a ((),b,c,())
def agi (k:Nat) (a:Int):Option yx :=
 akb k k a 1
def F178:Fn:=⟨[au],[.val ⟨false,(.int .u64),true⟩],fun k x=>agi k x.1⟩
theorem ok178:O 178 F178:=okF aj [] (fun k=>(.loop 2 ZI (ad9 k) (fun g=>.nil) .nil)) Tryz.func178 rfl
def amq (k:Nat) (a b:Int):Option yx :=
 (bif decide (b<1) then
  some ((a,()),())
 else
  (bif decide (b>63) then
   some ((a,()),())
  else
   (agi k b).bind fun q0 =>
   nz q0.1.1 <|
   (agi k (IntKind.i64.wrap (b - 1))).bind fun q1 =>
   (bif decide ((Int.tmod (IntKind.u64.wrap a) q0.1.1)≥q1.1.1) then
    (agi k b).bind fun q2 =>
    some ((IntKind.i64.wrap (0 - (IntKind.i64.wrap (IntKind.u64.wrap (q2.1.1 - (Int.tmod (IntKind.u64.wrap a) q0.1.1))))),()),())
   else
    some ((IntKind.i64.wrap (Int.tmod (IntKind.u64.wrap a) q0.1.1),()),()))))
def F131:Fn:=⟨[au,au],[rI],fun k x=>amq k x.1 x.2.1⟩
theorem ok131:O 131 F131:=okF (ah ok178 aj) [] On Tryz.func131 rfl
abbrev ZJ:Cut:=⟨[3,4,5,7],[.box 92 [cI,cI,cI,cI,cI,cI,cI,cI,cI,.own 233 V6,.cell .bool],.box 92 [cI,cI,cI,cI,cI,cI,cI,cI,cI,.nil,.cell .bool],.box 87 [cI,cI,cI,cI],.box 87 [cI,cI,cI,cI]],[],225,[]⟩
def akc (k:Nat) (g28:Int -> Int -> Int -> Int -> Int -> Int -> Int -> Int -> Int -> (List l5) -> Bool -> Int -> Int -> Int -> Int -> Int -> Int -> Int -> Int -> Int -> Bool -> Int -> Int -> Int -> Int -> Int -> Int -> Int -> Int -> Option (V7×Unit)) (a b c e f h i l m:Int) (n:List l5) (o:Bool) (p s t u v w y z A:Int) (B:Bool) (C D G H I J K M:Int):Option (V7×Unit) :=
 (bif decide ((n.length:Int)>0) then
  ix n (IntKind.i64.wrap ((n.length:Int) - 1)) <|
  (bif decide ((rd n (IntKind.i64.wrap ((n.length:Int) - 1)) (0,0,0)).2.1<a) then
   ix n (IntKind.i64.wrap ((n.length:Int) - 1)) <|
   sx n 0 (IntKind.i64.wrap ((n.length:Int) - 1)) <|
   (bif decide ((rd n (IntKind.i64.wrap ((n.length:Int) - 1)) (0,0,0)).2.2>0) then
    ap (n.take (IntKind.i64.wrap ((n.length:Int) - 1)).toNat) ([((rd n (IntKind.i64.wrap ((n.length:Int) - 1)) (0,0,0)).1,(rd n (IntKind.i64.wrap ((n.length:Int) - 1)) (0,0,0)).2.1,IntKind.i64.wrap ((rd n (IntKind.i64.wrap ((n.length:Int) - 1)) (0,0,0)).2.2 - 1))]:List l5) 24 fun r2 =>
    some ((((rd n (IntKind.i64.wrap ((n.length:Int) - 1)) (0,0,0)).1,(b,c,e,f,h,i,l,m),r2,o),(I,J,K,M),true,()),())
   else
    g28 a b c e f h i l m (n.take (IntKind.i64.wrap ((n.length:Int) - 1)).toNat) o p s t u v w y z A B C D G H I J K M)
  else
   some (((a,(b,c,e,f,h,i,l,m),n,o),(I,J,K,M),true,()),()))
 else
  some (((a,(b,c,e,f,h,i,l,m),n,o),(I,J,K,M),true,()),()))
def aea (k:Nat):Xx (((Unit)×(Int×Int×Int×Int×Int×Int×Int×Int×Int×(List l5)×Bool×Unit)×(Int×Int×Int×Int×Int×Int×Int×Int×Int×Unit×Bool×Unit)×V9×V9×Unit) -> Option (V7×Unit)):=dh (bf (bq (ay (ay (ay (ay (ay (ay (ay (ay (ay (ay (ay bg))))))))))) (bq (ay (ay (ay (ay (ay (ay (ay (ay (ay (bf (ay bg))))))))))) (bq (ay (ay (ay (ay bg)))) (bq (ay (ay (ay (ay bg)))) bg))))) (akc k)
def zx (k a:Nat) (b c e f h i l m n:Int) (o:List l5) (p:Bool) (s t u v w y z A B:Int) (C:Bool) (D G H I J K M N:Int):Option (V7×Unit):=iter ZJ (aea k) a ((),(b,c,e,f,h,i,l,m,n,o,p,()),(s,t,u,v,w,y,z,A,B,(),C,()),(D,G,H,I,()),(J,K,M,N,()),())
def S72 (k:Nat) (a:List u6) (b:Int×(PN Int 8)×(List l5)×Bool):Option (V7×Unit) :=
 ap ([]:List l5) b.2.2.1 24 fun r0 =>
 (bif b.2.2.2 then
  some (((b.1,b.2.1,r0,b.2.2.2),(0,0,0,0),false,()),())
 else
  (bif decide (b.1<0) then
   some (((b.1,b.2.1,r0,b.2.2.2),(0,0,0,0),false,()),())
  else
   (bif decide (b.1≥(a.length:Int)) then
    some (((b.1,b.2.1,r0,b.2.2.2),(0,0,0,0),false,()),())
   else
    ix a b.1 <|
    (abG k (rd a b.1 (0,0,0,0))).bind fun q1 =>
    (bif !q1.1.1 then
     some (((b.1,b.2.1,r0,b.2.2.2),(0,0,0,0),false,()),())
    else
     ix a b.1 <|
     (bif (rd a b.1 (0,0,0,0)).1==0 then
      zx k k b.1 b.2.1.1 b.2.1.2.1 b.2.1.2.2.1 b.2.1.2.2.2.1 b.2.1.2.2.2.2.1 b.2.1.2.2.2.2.2.1 b.2.1.2.2.2.2.2.2.1 b.2.1.2.2.2.2.2.2.2 r0 true 0 0 0 0 0 0 0 0 0 false 0 0 0 0 (rd a b.1 (0,0,0,0)).1 (rd a b.1 (0,0,0,0)).2.1 (rd a b.1 (0,0,0,0)).2.2.1 (rd a b.1 (0,0,0,0)).2.2.2
     else
      (bif (rd a b.1 (0,0,0,0)).1==1 then
       ax 8 (rd a b.1 (0,0,0,0)).2.1 <|
       zx k k (IntKind.i64.wrap (b.1+1)) (Tw (α:=Int) 8 b.2.1 (rd a b.1 (0,0,0,0)).2.1 (rd a b.1 (0,0,0,0)).2.2.2).1 (Tw (α:=Int) 8 b.2.1 (rd a b.1 (0,0,0,0)).2.1 (rd a b.1 (0,0,0,0)).2.2.2).2.1 (Tw (α:=Int) 8 b.2.1 (rd a b.1 (0,0,0,0)).2.1 (rd a b.1 (0,0,0,0)).2.2.2).2.2.1 (Tw (α:=Int) 8 b.2.1 (rd a b.1 (0,0,0,0)).2.1 (rd a b.1 (0,0,0,0)).2.2.2).2.2.2.1 (Tw (α:=Int) 8 b.2.1 (rd a b.1 (0,0,0,0)).2.1 (rd a b.1 (0,0,0,0)).2.2.2).2.2.2.2.1 (Tw (α:=Int) 8 b.2.1 (rd a b.1 (0,0,0,0)).2.1 (rd a b.1 (0,0,0,0)).2.2.2).2.2.2.2.2.1 (Tw (α:=Int) 8 b.2.1 (rd a b.1 (0,0,0,0)).2.1 (rd a b.1 (0,0,0,0)).2.2.2).2.2.2.2.2.2.1 (Tw (α:=Int) 8 b.2.1 (rd a b.1 (0,0,0,0)).2.1 (rd a b.1 (0,0,0,0)).2.2.2).2.2.2.2.2.2.2 r0 b.2.2.2 0 0 0 0 0 0 0 0 0 false 0 0 0 0 (rd a b.1 (0,0,0,0)).1 (rd a b.1 (0,0,0,0)).2.1 (rd a b.1 (0,0,0,0)).2.2.1 (rd a b.1 (0,0,0,0)).2.2.2
      else
       (bif (rd a b.1 (0,0,0,0)).1==2 then
        ax 8 (rd a b.1 (0,0,0,0)).2.1 <|
        ax 8 (rd a b.1 (0,0,0,0)).2.2.1 <|
        ax 8 (rd a b.1 (0,0,0,0)).2.1 <|
        zx k k (IntKind.i64.wrap (b.1+1)) (Tw (α:=Int) 8 b.2.1 (rd a b.1 (0,0,0,0)).2.1 (IntKind.i64.wrap ((Tv (α:=Int) 8 b.2.1 (rd a b.1 (0,0,0,0)).2.1 0)+(Tv (α:=Int) 8 b.2.1 (rd a b.1 (0,0,0,0)).2.2.1 0)))).1 (Tw (α:=Int) 8 b.2.1 (rd a b.1 (0,0,0,0)).2.1 (IntKind.i64.wrap ((Tv (α:=Int) 8 b.2.1 (rd a b.1 (0,0,0,0)).2.1 0)+(Tv (α:=Int) 8 b.2.1 (rd a b.1 (0,0,0,0)).2.2.1 0)))).2.1 (Tw (α:=Int) 8 b.2.1 (rd a b.1 (0,0,0,0)).2.1 (IntKind.i64.wrap ((Tv (α:=Int) 8 b.2.1 (rd a b.1 (0,0,0,0)).2.1 0)+(Tv (α:=Int) 8 b.2.1 (rd a b.1 (0,0,0,0)).2.2.1 0)))).2.2.1 (Tw (α:=Int) 8 b.2.1 (rd a b.1 (0,0,0,0)).2.1 (IntKind.i64.wrap ((Tv (α:=Int) 8 b.2.1 (rd a b.1 (0,0,0,0)).2.1 0)+(Tv (α:=Int) 8 b.2.1 (rd a b.1 (0,0,0,0)).2.2.1 0)))).2.2.2.1 (Tw (α:=Int) 8 b.2.1 (rd a b.1 (0,0,0,0)).2.1 (IntKind.i64.wrap ((Tv (α:=Int) 8 b.2.1 (rd a b.1 (0,0,0,0)).2.1 0)+(Tv (α:=Int) 8 b.2.1 (rd a b.1 (0,0,0,0)).2.2.1 0)))).2.2.2.2.1 (Tw (α:=Int) 8 b.2.1 (rd a b.1 (0,0,0,0)).2.1 (IntKind.i64.wrap ((Tv (α:=Int) 8 b.2.1 (rd a b.1 (0,0,0,0)).2.1 0)+(Tv (α:=Int) 8 b.2.1 (rd a b.1 (0,0,0,0)).2.2.1 0)))).2.2.2.2.2.1 (Tw (α:=Int) 8 b.2.1 (rd a b.1 (0,0,0,0)).2.1 (IntKind.i64.wrap ((Tv (α:=Int) 8 b.2.1 (rd a b.1 (0,0,0,0)).2.1 0)+(Tv (α:=Int) 8 b.2.1 (rd a b.1 (0,0,0,0)).2.2.1 0)))).2.2.2.2.2.2.1 (Tw (α:=Int) 8 b.2.1 (rd a b.1 (0,0,0,0)).2.1 (IntKind.i64.wrap ((Tv (α:=Int) 8 b.2.1 (rd a b.1 (0,0,0,0)).2.1 0)+(Tv (α:=Int) 8 b.2.1 (rd a b.1 (0,0,0,0)).2.2.1 0)))).2.2.2.2.2.2.2 r0 b.2.2.2 0 0 0 0 0 0 0 0 0 false 0 0 0 0 (rd a b.1 (0,0,0,0)).1 (rd a b.1 (0,0,0,0)).2.1 (rd a b.1 (0,0,0,0)).2.2.1 (rd a b.1 (0,0,0,0)).2.2.2
       else
        (bif (rd a b.1 (0,0,0,0)).1==3 then
         ax 8 (rd a b.1 (0,0,0,0)).2.1 <|
         ax 8 (rd a b.1 (0,0,0,0)).2.2.1 <|
         ax 8 (rd a b.1 (0,0,0,0)).2.1 <|
         zx k k (IntKind.i64.wrap (b.1+1)) (Tw (α:=Int) 8 b.2.1 (rd a b.1 (0,0,0,0)).2.1 (IntKind.i64.wrap ((Tv (α:=Int) 8 b.2.1 (rd a b.1 (0,0,0,0)).2.1 0) - (Tv (α:=Int) 8 b.2.1 (rd a b.1 (0,0,0,0)).2.2.1 0)))).1 (Tw (α:=Int) 8 b.2.1 (rd a b.1 (0,0,0,0)).2.1 (IntKind.i64.wrap ((Tv (α:=Int) 8 b.2.1 (rd a b.1 (0,0,0,0)).2.1 0) - (Tv (α:=Int) 8 b.2.1 (rd a b.1 (0,0,0,0)).2.2.1 0)))).2.1 (Tw (α:=Int) 8 b.2.1 (rd a b.1 (0,0,0,0)).2.1 (IntKind.i64.wrap ((Tv (α:=Int) 8 b.2.1 (rd a b.1 (0,0,0,0)).2.1 0) - (Tv (α:=Int) 8 b.2.1 (rd a b.1 (0,0,0,0)).2.2.1 0)))).2.2.1 (Tw (α:=Int) 8 b.2.1 (rd a b.1 (0,0,0,0)).2.1 (IntKind.i64.wrap ((Tv (α:=Int) 8 b.2.1 (rd a b.1 (0,0,0,0)).2.1 0) - (Tv (α:=Int) 8 b.2.1 (rd a b.1 (0,0,0,0)).2.2.1 0)))).2.2.2.1 (Tw (α:=Int) 8 b.2.1 (rd a b.1 (0,0,0,0)).2.1 (IntKind.i64.wrap ((Tv (α:=Int) 8 b.2.1 (rd a b.1 (0,0,0,0)).2.1 0) - (Tv (α:=Int) 8 b.2.1 (rd a b.1 (0,0,0,0)).2.2.1 0)))).2.2.2.2.1 (Tw (α:=Int) 8 b.2.1 (rd a b.1 (0,0,0,0)).2.1 (IntKind.i64.wrap ((Tv (α:=Int) 8 b.2.1 (rd a b.1 (0,0,0,0)).2.1 0) - (Tv (α:=Int) 8 b.2.1 (rd a b.1 (0,0,0,0)).2.2.1 0)))).2.2.2.2.2.1 (Tw (α:=Int) 8 b.2.1 (rd a b.1 (0,0,0,0)).2.1 (IntKind.i64.wrap ((Tv (α:=Int) 8 b.2.1 (rd a b.1 (0,0,0,0)).2.1 0) - (Tv (α:=Int) 8 b.2.1 (rd a b.1 (0,0,0,0)).2.2.1 0)))).2.2.2.2.2.2.1 (Tw (α:=Int) 8 b.2.1 (rd a b.1 (0,0,0,0)).2.1 (IntKind.i64.wrap ((Tv (α:=Int) 8 b.2.1 (rd a b.1 (0,0,0,0)).2.1 0) - (Tv (α:=Int) 8 b.2.1 (rd a b.1 (0,0,0,0)).2.2.1 0)))).2.2.2.2.2.2.2 r0 b.2.2.2 0 0 0 0 0 0 0 0 0 false 0 0 0 0 (rd a b.1 (0,0,0,0)).1 (rd a b.1 (0,0,0,0)).2.1 (rd a b.1 (0,0,0,0)).2.2.1 (rd a b.1 (0,0,0,0)).2.2.2
        else
         (bif (rd a b.1 (0,0,0,0)).1==4 then
          ax 8 (rd a b.1 (0,0,0,0)).2.1 <|
          ax 8 (rd a b.1 (0,0,0,0)).2.2.1 <|
          ax 8 (rd a b.1 (0,0,0,0)).2.1 <|
          zx k k (IntKind.i64.wrap (b.1+1)) (Tw (α:=Int) 8 b.2.1 (rd a b.1 (0,0,0,0)).2.1 (IntKind.i64.wrap ((Tv (α:=Int) 8 b.2.1 (rd a b.1 (0,0,0,0)).2.1 0) * (Tv (α:=Int) 8 b.2.1 (rd a b.1 (0,0,0,0)).2.2.1 0)))).1 (Tw (α:=Int) 8 b.2.1 (rd a b.1 (0,0,0,0)).2.1 (IntKind.i64.wrap ((Tv (α:=Int) 8 b.2.1 (rd a b.1 (0,0,0,0)).2.1 0) * (Tv (α:=Int) 8 b.2.1 (rd a b.1 (0,0,0,0)).2.2.1 0)))).2.1 (Tw (α:=Int) 8 b.2.1 (rd a b.1 (0,0,0,0)).2.1 (IntKind.i64.wrap ((Tv (α:=Int) 8 b.2.1 (rd a b.1 (0,0,0,0)).2.1 0) * (Tv (α:=Int) 8 b.2.1 (rd a b.1 (0,0,0,0)).2.2.1 0)))).2.2.1 (Tw (α:=Int) 8 b.2.1 (rd a b.1 (0,0,0,0)).2.1 (IntKind.i64.wrap ((Tv (α:=Int) 8 b.2.1 (rd a b.1 (0,0,0,0)).2.1 0) * (Tv (α:=Int) 8 b.2.1 (rd a b.1 (0,0,0,0)).2.2.1 0)))).2.2.2.1 (Tw (α:=Int) 8 b.2.1 (rd a b.1 (0,0,0,0)).2.1 (IntKind.i64.wrap ((Tv (α:=Int) 8 b.2.1 (rd a b.1 (0,0,0,0)).2.1 0) * (Tv (α:=Int) 8 b.2.1 (rd a b.1 (0,0,0,0)).2.2.1 0)))).2.2.2.2.1 (Tw (α:=Int) 8 b.2.1 (rd a b.1 (0,0,0,0)).2.1 (IntKind.i64.wrap ((Tv (α:=Int) 8 b.2.1 (rd a b.1 (0,0,0,0)).2.1 0) * (Tv (α:=Int) 8 b.2.1 (rd a b.1 (0,0,0,0)).2.2.1 0)))).2.2.2.2.2.1 (Tw (α:=Int) 8 b.2.1 (rd a b.1 (0,0,0,0)).2.1 (IntKind.i64.wrap ((Tv (α:=Int) 8 b.2.1 (rd a b.1 (0,0,0,0)).2.1 0) * (Tv (α:=Int) 8 b.2.1 (rd a b.1 (0,0,0,0)).2.2.1 0)))).2.2.2.2.2.2.1 (Tw (α:=Int) 8 b.2.1 (rd a b.1 (0,0,0,0)).2.1 (IntKind.i64.wrap ((Tv (α:=Int) 8 b.2.1 (rd a b.1 (0,0,0,0)).2.1 0) * (Tv (α:=Int) 8 b.2.1 (rd a b.1 (0,0,0,0)).2.2.1 0)))).2.2.2.2.2.2.2 r0 b.2.2.2 0 0 0 0 0 0 0 0 0 false 0 0 0 0 (rd a b.1 (0,0,0,0)).1 (rd a b.1 (0,0,0,0)).2.1 (rd a b.1 (0,0,0,0)).2.2.1 (rd a b.1 (0,0,0,0)).2.2.2
         else
          (bif (rd a b.1 (0,0,0,0)).1==5 then
           ax 8 (rd a b.1 (0,0,0,0)).2.1 <|
           (amo k (Tv (α:=Int) 8 b.2.1 (rd a b.1 (0,0,0,0)).2.1 0) (rd a b.1 (0,0,0,0)).2.2.2).bind fun q3 =>
           ax 8 (rd a b.1 (0,0,0,0)).2.1 <|
           zx k k (IntKind.i64.wrap (b.1+1)) (Tw (α:=Int) 8 b.2.1 (rd a b.1 (0,0,0,0)).2.1 q3.1.1).1 (Tw (α:=Int) 8 b.2.1 (rd a b.1 (0,0,0,0)).2.1 q3.1.1).2.1 (Tw (α:=Int) 8 b.2.1 (rd a b.1 (0,0,0,0)).2.1 q3.1.1).2.2.1 (Tw (α:=Int) 8 b.2.1 (rd a b.1 (0,0,0,0)).2.1 q3.1.1).2.2.2.1 (Tw (α:=Int) 8 b.2.1 (rd a b.1 (0,0,0,0)).2.1 q3.1.1).2.2.2.2.1 (Tw (α:=Int) 8 b.2.1 (rd a b.1 (0,0,0,0)).2.1 q3.1.1).2.2.2.2.2.1 (Tw (α:=Int) 8 b.2.1 (rd a b.1 (0,0,0,0)).2.1 q3.1.1).2.2.2.2.2.2.1 (Tw (α:=Int) 8 b.2.1 (rd a b.1 (0,0,0,0)).2.1 q3.1.1).2.2.2.2.2.2.2 r0 b.2.2.2 0 0 0 0 0 0 0 0 0 false 0 0 0 0 (rd a b.1 (0,0,0,0)).1 (rd a b.1 (0,0,0,0)).2.1 (rd a b.1 (0,0,0,0)).2.2.1 (rd a b.1 (0,0,0,0)).2.2.2
          else
           (bif (rd a b.1 (0,0,0,0)).1==6 then
            ax 8 (rd a b.1 (0,0,0,0)).2.1 <|
            (amq k (Tv (α:=Int) 8 b.2.1 (rd a b.1 (0,0,0,0)).2.1 0) (rd a b.1 (0,0,0,0)).2.2.2).bind fun q4 =>
            ax 8 (rd a b.1 (0,0,0,0)).2.1 <|
            zx k k (IntKind.i64.wrap (b.1+1)) (Tw (α:=Int) 8 b.2.1 (rd a b.1 (0,0,0,0)).2.1 q4.1.1).1 (Tw (α:=Int) 8 b.2.1 (rd a b.1 (0,0,0,0)).2.1 q4.1.1).2.1 (Tw (α:=Int) 8 b.2.1 (rd a b.1 (0,0,0,0)).2.1 q4.1.1).2.2.1 (Tw (α:=Int) 8 b.2.1 (rd a b.1 (0,0,0,0)).2.1 q4.1.1).2.2.2.1 (Tw (α:=Int) 8 b.2.1 (rd a b.1 (0,0,0,0)).2.1 q4.1.1).2.2.2.2.1 (Tw (α:=Int) 8 b.2.1 (rd a b.1 (0,0,0,0)).2.1 q4.1.1).2.2.2.2.2.1 (Tw (α:=Int) 8 b.2.1 (rd a b.1 (0,0,0,0)).2.1 q4.1.1).2.2.2.2.2.2.1 (Tw (α:=Int) 8 b.2.1 (rd a b.1 (0,0,0,0)).2.1 q4.1.1).2.2.2.2.2.2.2 r0 b.2.2.2 0 0 0 0 0 0 0 0 0 false 0 0 0 0 (rd a b.1 (0,0,0,0)).1 (rd a b.1 (0,0,0,0)).2.1 (rd a b.1 (0,0,0,0)).2.2.1 (rd a b.1 (0,0,0,0)).2.2.2
           else
            (bif (rd a b.1 (0,0,0,0)).1==7 then
             ax 8 (rd a b.1 (0,0,0,0)).2.1 <|
             (bif (Tv (α:=Int) 8 b.2.1 (rd a b.1 (0,0,0,0)).2.1 0)==0 then
              zx k k (IntKind.i64.wrap ((IntKind.i64.wrap (b.1+1))+(rd a b.1 (0,0,0,0)).2.2.2)) b.2.1.1 b.2.1.2.1 b.2.1.2.2.1 b.2.1.2.2.2.1 b.2.1.2.2.2.2.1 b.2.1.2.2.2.2.2.1 b.2.1.2.2.2.2.2.2.1 b.2.1.2.2.2.2.2.2.2 r0 b.2.2.2 0 0 0 0 0 0 0 0 0 false 0 0 0 0 (rd a b.1 (0,0,0,0)).1 (rd a b.1 (0,0,0,0)).2.1 (rd a b.1 (0,0,0,0)).2.2.1 (rd a b.1 (0,0,0,0)).2.2.2
             else
              zx k k (IntKind.i64.wrap (b.1+1)) b.2.1.1 b.2.1.2.1 b.2.1.2.2.1 b.2.1.2.2.2.1 b.2.1.2.2.2.2.1 b.2.1.2.2.2.2.2.1 b.2.1.2.2.2.2.2.2.1 b.2.1.2.2.2.2.2.2.2 r0 b.2.2.2 0 0 0 0 0 0 0 0 0 false 0 0 0 0 (rd a b.1 (0,0,0,0)).1 (rd a b.1 (0,0,0,0)).2.1 (rd a b.1 (0,0,0,0)).2.2.1 (rd a b.1 (0,0,0,0)).2.2.2)
            else
             (bif (rd a b.1 (0,0,0,0)).1==8 then
              ap r0 ([(IntKind.i64.wrap (b.1+1),IntKind.i64.wrap (b.1+(rd a b.1 (0,0,0,0)).2.2.1),IntKind.i64.wrap ((rd a b.1 (0,0,0,0)).2.2.2 - 1))]:List l5) 24 fun r5 =>
              zx k k (IntKind.i64.wrap (b.1+1)) b.2.1.1 b.2.1.2.1 b.2.1.2.2.1 b.2.1.2.2.2.1 b.2.1.2.2.2.2.1 b.2.1.2.2.2.2.2.1 b.2.1.2.2.2.2.2.2.1 b.2.1.2.2.2.2.2.2.2 r5 b.2.2.2 0 0 0 0 0 0 0 0 0 false 0 0 0 0 (rd a b.1 (0,0,0,0)).1 (rd a b.1 (0,0,0,0)).2.1 (rd a b.1 (0,0,0,0)).2.2.1 (rd a b.1 (0,0,0,0)).2.2.2
             else
              zx k k (IntKind.i64.wrap (b.1+1)) b.2.1.1 b.2.1.2.1 b.2.1.2.2.1 b.2.1.2.2.2.1 b.2.1.2.2.2.2.1 b.2.1.2.2.2.2.2.1 b.2.1.2.2.2.2.2.2.1 b.2.1.2.2.2.2.2.2.2 r0 b.2.2.2 0 0 0 0 0 0 0 0 0 false 0 0 0 0 (rd a b.1 (0,0,0,0)).1 (rd a b.1 (0,0,0,0)).2.1 (rd a b.1 (0,0,0,0)).2.2.1 (rd a b.1 (0,0,0,0)).2.2.2)))))))))))))
def F72:Fn:=⟨[.val ⟨false,yw,false⟩,.val ⟨true,(.pair (.int .i64) (.pair (Am 8 (.int .i64)) (.pair u7 .bool))),false⟩],[.val ⟨true,(.pair (.int .i64) (.pair (Am 8 (.int .i64)) (.pair u7 .bool))),true⟩,al4,rB],fun k x=>S72 k x.1 x.2.1⟩
theorem ok72:O 72 F72:=okF (ah ok129 <| ah ok130 <| ah ok131 aj) [(205,1)] (fun k=>(.loop 28 ZJ (aea k) (fun g=>.nil) .nil)) Tryz.func72 rfl
abbrev Vf:Cut:=⟨[4,5,8,10,11],[.box 94 [cI,cI,cI,cI,cI,cI,cI,cI,cI,cI,cI,cI,cI,.nil,.cell .bool,cI,cI,cI,cI,cI,cI,cI,cI,cI,.nil,.cell .bool,.nil,.cell .bool],.box 87 [cI,cI,cI,cI],.box 87 [cI,cI,cI,cI],.box 94 [cI,cI,cI,cI,cI,cI,cI,cI,cI,cI,cI,cI,cI,.own 233 V6,.cell .bool,cI,cI,cI,cI,cI,cI,cI,cI,cI,.cell u7,.cell .bool,.own 3 (.int .i64),.cell .bool],cI],[],82,[]⟩
def agj (k:Nat) (g14:Int -> Int -> Int -> Int -> Int -> Int -> Int -> Int -> Int -> Int -> Int -> Int -> Int -> Bool -> Int -> Int -> Int -> Int -> Int -> Int -> Int -> Int -> Int -> Bool -> Bool -> Int -> Int -> Int -> Int -> Int -> Int -> Int -> Int -> Int -> Int -> Int -> Int -> Int -> Int -> Int -> Int -> Int -> Int -> Int -> Int -> Int -> (List l5) -> Bool -> Int -> Int -> Int -> Int -> Int -> Int -> Int -> Int -> Int -> (List l5) -> Bool -> (List Int) -> Bool -> Int -> Option Va) (a b c e f h i l m n o p s:Int) (t:Bool) (u v w y z A B C D:Int) (G H:Bool) (I J K M N O P Q x T U V W X Z a1 b1 c1 e1 f1 h1:Int) (i1:List l5) (l1:Bool) (m1 n1 o1 p1 s1 t1 u1 v1 w1:Int) (y1:List l5) (z1:Bool) (a2:List Int) (b2:Bool) (c2:Int):Option Va :=
 (bif decide (c2≥0) then
  ix a2 c2 <|
  (bif (rd a2 c2 0)==O then
   sx a2 0 c2 <|
   ap ([]:List Int) (sub a2 0 c2) 8 fun r4 =>
   sx a2 (IntKind.i64.wrap (c2+1)) (a2.length:Int) <|
   ap r4 (sub a2 (IntKind.i64.wrap (c2+1)) (a2.length:Int)) 8 fun r5 =>
   some (((x,T,U,V,(W,(X,Z,a1,b1,c1,e1,f1,h1),i1,l1),(m1,(n1,o1,p1,s1,t1,u1,v1,w1),y1,z1),r5,b2),(N,O,P,Q),true,()),())
  else
   g14 a b c e f h i l m n o p s t u v w y z A B C D G H I J K M N O P Q x T U V W X Z a1 b1 c1 e1 f1 h1 i1 l1 m1 n1 o1 p1 s1 t1 u1 v1 w1 y1 z1 a2 b2 (IntKind.i64.wrap (c2 - 1)))
 else
  some (((x,T,U,V,(W,(X,Z,a1,b1,c1,e1,f1,h1),i1,l1),(m1,(n1,o1,p1,s1,t1,u1,v1,w1),y1,z1),a2,b2),(N,O,P,Q),true,()),()))
def ZK (k:Nat):Xx (((Unit)×ahY×V9×V9×adP×Int×Unit) -> Option Va):=dh (bf (bq (ay (ay (ay (ay (ay (ay (ay (ay (ay (ay (ay (ay (ay (bf (ay (ay (ay (ay (ay (ay (ay (ay (ay (ay (bf (ay (bf (ay bg)))))))))))))))))))))))))))) (bq (ay (ay (ay (ay bg)))) (bq (ay (ay (ay (ay bg)))) (bq (ay (ay (ay (ay (ay (ay (ay (ay (ay (ay (ay (ay (ay (ay (ay (ay (ay (ay (ay (ay (ay (ay (ay (ay (ay (ay (ay (ay bg)))))))))))))))))))))))))))) (ay bg)))))) (agj k)
def agk (k a:Nat) (b c e f h i l m n o p s t:Int) (u:Bool) (v w y z A B C D G:Int) (H I:Bool) (J K M N O P Q T x U V W X Z a1 b1 c1 e1 f1 h1 i1:Int) (l1:List l5) (m1:Bool) (n1 o1 p1 s1 t1 u1 v1 w1 y1:Int) (z1:List l5) (a2:Bool) (b2:List Int) (c2:Bool) (e2:Int):Option Va:=iter Vf (ZK k) a ((),(b,c,e,f,h,i,l,m,n,o,p,s,t,(),u,v,w,y,z,A,B,C,D,G,(),H,(),I,()),(J,K,M,N,()),(O,P,Q,T,()),(x,U,V,W,X,Z,a1,b1,c1,e1,f1,h1,i1,l1,m1,n1,o1,p1,s1,t1,u1,v1,w1,y1,z1,a2,b2,c2,()),e2,())
def amr (k:Nat) (a:Zt) (b:FE):Option Va :=
 (amn k a b).bind fun q0 =>
 (S72 k q0.1.1 b.2.2.2.2.1).bind fun q1 =>
 (bif !q1.1.2.2.1 then
  some ((b,(0,0,0,0),false,()),())
 else
  ap ([]:List Int) b.2.2.2.2.2.2.1 8 fun r2 =>
  (bif q1.1.2.1.1==11 then
   some (((b.1,b.2.1,b.2.2.1,b.2.2.2.1,q1.1.1,q1.1.1,r2,b.2.2.2.2.2.2.2),q1.1.2.1,true,()),())
  else
   (bif q1.1.2.1.1==9 then
    ap r2 ([q1.1.2.1.2.1]:List Int) 8 fun r3 =>
    some (((b.1,b.2.1,b.2.2.1,b.2.2.2.1,q1.1.1,b.2.2.2.2.2.1,r3,b.2.2.2.2.2.2.2),q1.1.2.1,true,()),())
   else
    (bif q1.1.2.1.1==10 then
     agk k k 0 0 0 0 0 0 0 0 0 0 0 0 0 false 0 0 0 0 0 0 0 0 0 false false 0 0 0 0 q1.1.2.1.1 q1.1.2.1.2.1 q1.1.2.1.2.2.1 q1.1.2.1.2.2.2 b.1 b.2.1 b.2.2.1 b.2.2.2.1 q1.1.1.1 q1.1.1.2.1.1 q1.1.1.2.1.2.1 q1.1.1.2.1.2.2.1 q1.1.1.2.1.2.2.2.1 q1.1.1.2.1.2.2.2.2.1 q1.1.1.2.1.2.2.2.2.2.1 q1.1.1.2.1.2.2.2.2.2.2.1 q1.1.1.2.1.2.2.2.2.2.2.2 q1.1.1.2.2.1 q1.1.1.2.2.2 b.2.2.2.2.2.1.1 b.2.2.2.2.2.1.2.1.1 b.2.2.2.2.2.1.2.1.2.1 b.2.2.2.2.2.1.2.1.2.2.1 b.2.2.2.2.2.1.2.1.2.2.2.1 b.2.2.2.2.2.1.2.1.2.2.2.2.1 b.2.2.2.2.2.1.2.1.2.2.2.2.2.1 b.2.2.2.2.2.1.2.1.2.2.2.2.2.2.1 b.2.2.2.2.2.1.2.1.2.2.2.2.2.2.2 b.2.2.2.2.2.1.2.2.1 b.2.2.2.2.2.1.2.2.2 r2 b.2.2.2.2.2.2.2 (IntKind.i64.wrap ((r2.length:Int) - 1))
    else
     some (((b.1,b.2.1,b.2.2.1,b.2.2.2.1,q1.1.1,b.2.2.2.2.2.1,r2,b.2.2.2.2.2.2.2),q1.1.2.1,true,()),())))))
def F113:Fn:=⟨[Zv,DU],[Ve,al4,rB],fun k x=>amr k x.1 x.2.1⟩
theorem ok113:O 113 F113:=okF (ah ok72 <| ah ok170 aj) [] (fun k=>(.loop 14 Vf (ZK k) (fun g=>.nil) .nil)) Tryz.func113 rfl
def ams (k:Nat) (a:y5) (b c:Int):Option ((AQ×Bool×Unit)×Unit) :=
 ap ([]:List (Int×Int)) a 16 fun r0 =>
 (bif decide (b<0) then
  some ((r0,false,()),())
 else
  (bif decide (b≥(a.length:Int)) then
   some ((r0,false,()),())
  else
   ix a b <|
   (bif (rd a b (0,0)).2 != 0 then
    some ((r0,false,()),())
   else
    ix r0 b <|
    some ((upd r0 b ((rd r0 b (0,0)).1,IntKind.i64.wrap (c+1)),true,()),()))))
def F114:Fn:=⟨[Vd,au,au],[af8,rB],fun k (a,b,c,_)=>ams k a b c⟩
theorem ok114:O 114 F114:=okF aj [] On Tryz.func114 rfl
def amt (k:Nat) (a:y5) (b c:Int):Option ((AQ×Bool×Unit)×Unit) :=
 ap ([]:List (Int×Int)) a 16 fun r0 =>
 (bif decide (b<0) then
  some ((r0,false,()),())
 else
  (bif decide (b≥(a.length:Int)) then
   some ((r0,false,()),())
  else
   ix a b <|
   (bif (rd a b (0,0)).2 != (IntKind.i64.wrap (c+1)) then
    some ((r0,false,()),())
   else
    ix r0 b <|
    some ((upd r0 b ((rd r0 b (0,0)).1,0),true,()),()))))
def F115:Fn:=⟨[Vd,au,au],[af8,rB],fun k (a,b,c,_)=>amt k a b c⟩
theorem ok115:O 115 F115:=okF aj [] On Tryz.func115 rfl
def amu (k:Nat) (a:(List Int)×List Bool) (b:Int):Option ((((List Int)×List Bool)×Unit)×Unit) :=
 ap ([]:List Int) a.1 8 fun r0 =>
 ap ([]:List Bool) a.2 1 fun r1 =>
 (bif decide (b≥0) then
  (bif decide (b<(r0.length:Int)) then
   ix r0 b <|
   some (((upd r0 b 0,r1),()),())
  else
   some (((r0,r1),()),()))
 else
  some (((r0,r1),()),()))
def F116:Fn:=⟨[.val ⟨true,JL,false⟩,au],[.val ⟨true,JL,true⟩],fun k x=>amu k x.1 x.2.1⟩
theorem ok116:O 116 F116:=okF aj [] On Tryz.func116 rfl
def amv (k:Nat) (a:FE):Option LU :=
 (S71 k a.2.2.2.2.1.2.1.1).bind fun q0 =>
 some (((a.1,a.2.1,a.2.2.1,2,q0.1.1,q0.1.1,[],false),()),())
def F117:Fn:=⟨[DU],[Ve],fun k x=>amv k x.1⟩
theorem ok117:O 117 F117:=okF (ah ok71 aj) [] On Tryz.func117 rfl
abbrev agl:Cut:=⟨[1,2,4,6,7,8,12],[.box 44 [cI,cI,.cell ug,.cell tu,.cell .bool,.cell .bool,.cell .bool,.own 94 WL,.cell jf,.cell lg,.cell uf,.cell jf,.cell lg],.box 44 [cI,cI,.nil,.nil,.cell .bool,.cell .bool,.cell .bool,.nil,.nil,.nil,.nil,.nil,.nil],cI,.box 94 [cI,cI,cI,cI,cI,cI,cI,cI,cI,cI,cI,cI,cI,.cell u7,.cell .bool,cI,cI,cI,cI,cI,cI,cI,cI,cI,.cell u7,.cell .bool,.cell jf,.cell .bool],.box 77 [cI,cI,cI,.cell yw,.cell yw,.cell yw],.own 82 CY,.box 94 [cI,cI,cI,cI,cI,cI,cI,cI,cI,cI,cI,cI,cI,.cell u7,.cell .bool,cI,cI,cI,cI,cI,cI,cI,cI,cI,.cell u7,.cell .bool,.cell jf,.cell .bool]],[],205,[]⟩
def RI (k:Nat) (a b:Int) (c:List l6) (e:List (PN Int 5)) (f h i:Bool) (l:List jy) (m:List Int) (n:List Bool) (o:List j4) (p:List Int) (s:List Bool) (t u:Int) (v w y:Bool) (z A B C D G H I J K M N O P:Int) (Q:List l5) (T:Bool) (U V W X Z a1 b1 c1 e1:Int) (f1:List l5) (h1:Bool) (i1:List Int) (l1:Bool) (m1 n1 o1:Int) (p1 s1 t1:List u6) (u1:List (PN Int 6)) (v1 w1 y1 z1 a2 b2 c2 e2 f2 h2 i2 l2 m2:Int) (n2:List l5) (o2:Bool) (p2 s2 t2 u2 v2 w2 y2 z2 a3:Int) (b3:List l5) (c3:Bool) (e3:List Int) (f3:Bool):Option o7 :=
 (amu k (p,s) A).bind fun q19 =>
 (bif decide ((t1.length:Int)>0) then
  (amv k (v1,w1,y1,z1,(a2,(b2,c2,e2,f2,h2,i2,l2,m2),n2,o2),(p2,(s2,t2,u2,v2,w2,y2,z2,a3),b3,c3),e3,f3)).bind fun q20 =>
  (S61 k l z q20.1.1).bind fun q21 =>
  some (((a,b,c,e,f,h,i,q21.1.1,((m,n),o),q19.1.1),u1,()),())
 else
  (S54 k l z).bind fun q22 =>
  some (((a,b,c,e,f,h,i,q22.1.1,((m,n),o),q19.1.1),u1,()),()))
abbrev agm:Cut:=⟨[1,2,4,6,7,8,12,15],[.box 44 [cI,cI,.cell ug,.cell tu,.cell .bool,.cell .bool,.cell .bool,.cell qm,.cell jf,.cell lg,.cell uf,.cell jf,.cell lg],.box 44 [cI,cI,.nil,.nil,.cell .bool,.cell .bool,.cell .bool,.nil,.nil,.nil,.nil,.nil,.nil],cI,.box 94 [cI,cI,cI,cI,cI,cI,cI,cI,cI,cI,cI,cI,cI,.cell u7,.cell .bool,cI,cI,cI,cI,cI,cI,cI,cI,cI,.cell u7,.cell .bool,.cell jf,.cell .bool],.box 77 [cI,cI,cI,.cell yw,.cell yw,.cell yw],.own 82 CY,.box 94 [cI,cI,cI,cI,cI,cI,cI,cI,cI,cI,cI,cI,cI,.cell u7,.cell .bool,cI,cI,cI,cI,cI,cI,cI,cI,cI,.cell u7,.cell .bool,.cell jf,.cell .bool],.own 114 JK],[],205,[]⟩
def WQ (k:Nat) (a b:Int) (c:List l6) (e:List (PN Int 5)) (f h i:Bool) (l:List jy) (m:List Int) (n:List Bool) (o:List j4) (p:List Int) (s:List Bool) (t u:Int) (v w y:Bool) (z A B C D G H I J K M N O P:Int) (Q:List l5) (T:Bool) (U V W X Z a1 b1 c1 e1:Int) (f1:List l5) (h1:Bool) (i1:List Int) (l1:Bool) (m1 n1 o1:Int) (p1 s1 t1:List u6) (u1:List (PN Int 6)) (v1 w1 y1 z1 a2 b2 c2 e2 f2 h2 i2 l2 m2:Int) (n2:List l5) (o2:Bool) (p2 s2 t2 u2 v2 w2 y2 z2 a3:Int) (b3:List l5) (c3:Bool) (e3:List Int) (f3:Bool) (h3:y5):Option o7 :=
 (S43 k (a,b,c,e,f,h,i,l,((m,n),o),p,s) h3).bind fun qz =>
 (S61 k qz.1.1.2.2.2.2.2.2.2.1 z (v1,w1,y1,z1,(a2,(b2,c2,e2,f2,h2,i2,l2,m2),n2,o2),(p2,(s2,t2,u2,v2,w2,y2,z2,a3),b3,c3),e3,f3)).bind fun q14 =>
 (bif !o2 then
  some (((qz.1.1.1,qz.1.1.2.1,qz.1.1.2.2.1,qz.1.1.2.2.2.1,qz.1.1.2.2.2.2.1,qz.1.1.2.2.2.2.2.1,qz.1.1.2.2.2.2.2.2.1,q14.1.1,qz.1.1.2.2.2.2.2.2.2.2),u1,()),())
 else
  (bif D==2 then
   (S54 k q14.1.1 z).bind fun q15 =>
   ap u1 ([(qz.1.1.1,4,A,0,b2,0)]:List (PN Int 6)) 48 fun r16 =>
   some (((qz.1.1.1,qz.1.1.2.1,qz.1.1.2.2.1,qz.1.1.2.2.2.1,qz.1.1.2.2.2.2.1,qz.1.1.2.2.2.2.2.1,qz.1.1.2.2.2.2.2.2.1,q15.1.1,qz.1.1.2.2.2.2.2.2.2.2),r16,()),())
  else
   ap u1 ([(qz.1.1.1,3,A,0,b2,0)]:List (PN Int 6)) 48 fun r17 =>
   (bif decide ((s1.length:Int)>0) then
    (bif D==0 then
     ap r17 ([(qz.1.1.1,8,A,0,0,0)]:List (PN Int 6)) 48 fun r18 =>
     RI k qz.1.1.1 qz.1.1.2.1 qz.1.1.2.2.1 qz.1.1.2.2.2.1 qz.1.1.2.2.2.2.1 qz.1.1.2.2.2.2.2.1 qz.1.1.2.2.2.2.2.2.1 q14.1.1 qz.1.1.2.2.2.2.2.2.2.2.1.1.1 qz.1.1.2.2.2.2.2.2.2.2.1.1.2 qz.1.1.2.2.2.2.2.2.2.2.1.2 qz.1.1.2.2.2.2.2.2.2.2.2.1 qz.1.1.2.2.2.2.2.2.2.2.2.2 t u v w y z A B C D G H I J K M N O P Q T U V W X Z a1 b1 c1 e1 f1 h1 i1 l1 m1 n1 o1 p1 s1 t1 r18 v1 w1 y1 z1 a2 b2 c2 e2 f2 h2 i2 l2 m2 n2 o2 p2 s2 t2 u2 v2 w2 y2 z2 a3 b3 c3 e3 f3
    else
     RI k qz.1.1.1 qz.1.1.2.1 qz.1.1.2.2.1 qz.1.1.2.2.2.1 qz.1.1.2.2.2.2.1 qz.1.1.2.2.2.2.2.1 qz.1.1.2.2.2.2.2.2.1 q14.1.1 qz.1.1.2.2.2.2.2.2.2.2.1.1.1 qz.1.1.2.2.2.2.2.2.2.2.1.1.2 qz.1.1.2.2.2.2.2.2.2.2.1.2 qz.1.1.2.2.2.2.2.2.2.2.2.1 qz.1.1.2.2.2.2.2.2.2.2.2.2 t u v w y z A B C D G H I J K M N O P Q T U V W X Z a1 b1 c1 e1 f1 h1 i1 l1 m1 n1 o1 p1 s1 t1 r17 v1 w1 y1 z1 a2 b2 c2 e2 f2 h2 i2 l2 m2 n2 o2 p2 s2 t2 u2 v2 w2 y2 z2 a3 b3 c3 e3 f3)
   else
    RI k qz.1.1.1 qz.1.1.2.1 qz.1.1.2.2.1 qz.1.1.2.2.2.1 qz.1.1.2.2.2.2.1 qz.1.1.2.2.2.2.2.1 qz.1.1.2.2.2.2.2.2.1 q14.1.1 qz.1.1.2.2.2.2.2.2.2.2.1.1.1 qz.1.1.2.2.2.2.2.2.2.2.1.1.2 qz.1.1.2.2.2.2.2.2.2.2.1.2 qz.1.1.2.2.2.2.2.2.2.2.2.1 qz.1.1.2.2.2.2.2.2.2.2.2.2 t u v w y z A B C D G H I J K M N O P Q T U V W X Z a1 b1 c1 e1 f1 h1 i1 l1 m1 n1 o1 p1 s1 t1 r17 v1 w1 y1 z1 a2 b2 c2 e2 f2 h2 i2 l2 m2 n2 o2 p2 s2 t2 u2 v2 w2 y2 z2 a3 b3 c3 e3 f3)))
abbrev agn:Cut:=⟨[1,2,4,6,7,8,12,13,15],[.box 44 [cI,cI,.cell ug,.cell tu,.cell .bool,.cell .bool,.cell .bool,.cell qm,.cell jf,.cell lg,.cell uf,.cell jf,.cell lg],.box 44 [cI,cI,.nil,.nil,.cell .bool,.cell .bool,.cell .bool,.nil,.nil,.nil,.nil,.nil,.nil],cI,.box 94 [cI,cI,cI,cI,cI,cI,cI,cI,cI,cI,cI,cI,cI,.cell u7,.cell .bool,cI,cI,cI,cI,cI,cI,cI,cI,cI,.cell u7,.cell .bool,.cell jf,.cell .bool],.box 77 [cI,cI,cI,.cell yw,.cell yw,.cell yw],.own 82 CY,.box 94 [cI,cI,cI,cI,cI,cI,cI,cI,cI,cI,cI,cI,cI,.cell u7,.cell .bool,cI,cI,cI,cI,cI,cI,cI,cI,cI,.cell u7,.cell .bool,.cell jf,.cell .bool],.box 87 [cI,cI,cI,cI],.own 114 JK],[],205,[]⟩
def WR (k:Nat) (a b:Int) (c:List l6) (e:List (PN Int 5)) (f h i:Bool) (l:List jy) (m:List Int) (n:List Bool) (o:List j4) (p:List Int) (s:List Bool) (t u:Int) (v w y:Bool) (z A B C D G H I J K M N O P:Int) (Q:List l5) (T:Bool) (U V W X Z a1 b1 c1 e1:Int) (f1:List l5) (h1:Bool) (i1:List Int) (l1:Bool) (m1 n1 o1:Int) (p1 s1 t1:List u6) (u1:List (PN Int 6)) (x v1 w1 y1 z1 a2 b2 c2 e2 f2 h2 i2 l2:Int) (m2:List l5) (n2:Bool) (o2 p2 s2 t2 u2 v2 w2 y2 z2:Int) (a3:List l5) (b3:Bool) (c3:List Int) (e3:Bool) (f3 h3 i3 l3:Int) (m3:y5):Option o7 :=
 (bif f3==10 then
  (amt k m3 h3 A).bind fun q12 =>
  WQ k a b c e f h i l m n o p s t u v w y z A B C D G H I J K M N O P Q T U V W X Z a1 b1 c1 e1 f1 h1 i1 l1 m1 n1 o1 p1 s1 t1 u1 x v1 w1 y1 z1 a2 b2 c2 e2 f2 h2 i2 l2 m2 n2 o2 p2 s2 t2 u2 v2 w2 y2 z2 a3 b3 c3 e3 q12.1.1
 else
  WQ k a b c e f h i l m n o p s t u v w y z A B C D G H I J K M N O P Q T U V W X Z a1 b1 c1 e1 f1 h1 i1 l1 m1 n1 o1 p1 s1 t1 u1 x v1 w1 y1 z1 a2 b2 c2 e2 f2 h2 i2 l2 m2 n2 o2 p2 s2 t2 u2 v2 w2 y2 z2 a3 b3 c3 e3 m3)
def S63 (k:Nat) (Q:NY):Option o7 :=
 (S42 k Q).bind fun q0 =>
 (aml k Q.2.2.2.2.2.2.2.1 (Q.2.2.1.length:Int) q0.1.1).bind fun q1 =>
 (bif !q1.1.2.1 then
  some ((Q,[],()),())
 else
  ix Q.2.2.2.2.2.2.2.1 q1.1.1 <|
  ix Q.2.2.1 (rd Q.2.2.2.2.2.2.2.1 q1.1.1 (0,0,0,0,(0,Pv (α:=Int) 8 0,[],false),(0,Pv (α:=Int) 8 0,[],false),[],false)).1 <|
  (bif Q.2.2.2.2.2.2.1 then
   (S42 k Q).bind fun q2 =>
   (amm k (rd Q.2.2.1 (rd Q.2.2.2.2.2.2.2.1 q1.1.1 (0,0,0,0,(0,Pv (α:=Int) 8 0,[],false),(0,Pv (α:=Int) 8 0,[],false),[],false)).1 (0,0,0,[],[],[])) (rd Q.2.2.2.2.2.2.2.1 q1.1.1 (0,0,0,0,(0,Pv (α:=Int) 8 0,[],false),(0,Pv (α:=Int) 8 0,[],false),[],false)) q2.1.1).bind fun q3 =>
   (S43 k Q q3.1.2.1).bind fun q4 =>
   (bif q3.1.2.2.1==13 then
    (S54 k q4.1.1.2.2.2.2.2.2.2.1 q1.1.1).bind fun q5 =>
    ap ([(Q.1,2,(rd Q.2.2.2.2.2.2.2.1 q1.1.1 (0,0,0,0,(0,Pv (α:=Int) 8 0,[],false),(0,Pv (α:=Int) 8 0,[],false),[],false)).1,0,0,0)]:List (PN Int 6)) ([(q4.1.1.1,q3.1.2.2.1,(rd Q.2.2.2.2.2.2.2.1 q1.1.1 (0,0,0,0,(0,Pv (α:=Int) 8 0,[],false),(0,Pv (α:=Int) 8 0,[],false),[],false)).1,0,0,0)]:List (PN Int 6)) 48 fun r6 =>
    some (((q4.1.1.1,q4.1.1.2.1,q4.1.1.2.2.1,q4.1.1.2.2.2.1,q4.1.1.2.2.2.2.1,q4.1.1.2.2.2.2.2.1,q4.1.1.2.2.2.2.2.2.1,q5.1.1,q4.1.1.2.2.2.2.2.2.2.2),r6,()),())
   else
    (S61 k q4.1.1.2.2.2.2.2.2.2.1 q1.1.1 q3.1.1).bind fun q7 =>
    ap ([(Q.1,2,(rd Q.2.2.2.2.2.2.2.1 q1.1.1 (0,0,0,0,(0,Pv (α:=Int) 8 0,[],false),(0,Pv (α:=Int) 8 0,[],false),[],false)).1,0,0,0)]:List (PN Int 6)) ([(q4.1.1.1,q3.1.2.2.1,(rd Q.2.2.2.2.2.2.2.1 q1.1.1 (0,0,0,0,(0,Pv (α:=Int) 8 0,[],false),(0,Pv (α:=Int) 8 0,[],false),[],false)).1,0,0,0)]:List (PN Int 6)) 48 fun r8 =>
    some (((q4.1.1.1,q4.1.1.2.1,q4.1.1.2.2.1,q4.1.1.2.2.2.1,q4.1.1.2.2.2.2.1,q4.1.1.2.2.2.2.2.1,q4.1.1.2.2.2.2.2.2.1,q7.1.1,q4.1.1.2.2.2.2.2.2.2.2),r8,()),()))
  else
   (amr k (rd Q.2.2.1 (rd Q.2.2.2.2.2.2.2.1 q1.1.1 (0,0,0,0,(0,Pv (α:=Int) 8 0,[],false),(0,Pv (α:=Int) 8 0,[],false),[],false)).1 (0,0,0,[],[],[])) (rd Q.2.2.2.2.2.2.2.1 q1.1.1 (0,0,0,0,(0,Pv (α:=Int) 8 0,[],false),(0,Pv (α:=Int) 8 0,[],false),[],false))).bind fun (((a,b,c,e,(f,(h,i,l,m,n,o,p,s),t,u),(v,(w,y,z,A,B,C,D,G),H,I),J,K),(M,N,O,P),_),_) =>
   (S42 k Q).bind fun q10 =>
   (bif M==9 then
    (ams k q10.1.1 N (rd Q.2.2.2.2.2.2.2.1 q1.1.1 (0,0,0,0,(0,Pv (α:=Int) 8 0,[],false),(0,Pv (α:=Int) 8 0,[],false),[],false)).1).bind fun TB =>
    WR k Q.1 Q.2.1 Q.2.2.1 Q.2.2.2.1 Q.2.2.2.2.1 Q.2.2.2.2.2.1 Q.2.2.2.2.2.2.1 Q.2.2.2.2.2.2.2.1 Q.2.2.2.2.2.2.2.2.1.1.1 Q.2.2.2.2.2.2.2.2.1.1.2 Q.2.2.2.2.2.2.2.2.1.2 Q.2.2.2.2.2.2.2.2.2.1 Q.2.2.2.2.2.2.2.2.2.2 0 0 false false false q1.1.1 (rd Q.2.2.2.2.2.2.2.1 q1.1.1 (0,0,0,0,(0,Pv (α:=Int) 8 0,[],false),(0,Pv (α:=Int) 8 0,[],false),[],false)).1 (rd Q.2.2.2.2.2.2.2.1 q1.1.1 (0,0,0,0,(0,Pv (α:=Int) 8 0,[],false),(0,Pv (α:=Int) 8 0,[],false),[],false)).2.1 (rd Q.2.2.2.2.2.2.2.1 q1.1.1 (0,0,0,0,(0,Pv (α:=Int) 8 0,[],false),(0,Pv (α:=Int) 8 0,[],false),[],false)).2.2.1 (rd Q.2.2.2.2.2.2.2.1 q1.1.1 (0,0,0,0,(0,Pv (α:=Int) 8 0,[],false),(0,Pv (α:=Int) 8 0,[],false),[],false)).2.2.2.1 (rd Q.2.2.2.2.2.2.2.1 q1.1.1 (0,0,0,0,(0,Pv (α:=Int) 8 0,[],false),(0,Pv (α:=Int) 8 0,[],false),[],false)).2.2.2.2.1.1 (rd Q.2.2.2.2.2.2.2.1 q1.1.1 (0,0,0,0,(0,Pv (α:=Int) 8 0,[],false),(0,Pv (α:=Int) 8 0,[],false),[],false)).2.2.2.2.1.2.1.1 (rd Q.2.2.2.2.2.2.2.1 q1.1.1 (0,0,0,0,(0,Pv (α:=Int) 8 0,[],false),(0,Pv (α:=Int) 8 0,[],false),[],false)).2.2.2.2.1.2.1.2.1 (rd Q.2.2.2.2.2.2.2.1 q1.1.1 (0,0,0,0,(0,Pv (α:=Int) 8 0,[],false),(0,Pv (α:=Int) 8 0,[],false),[],false)).2.2.2.2.1.2.1.2.2.1 (rd Q.2.2.2.2.2.2.2.1 q1.1.1 (0,0,0,0,(0,Pv (α:=Int) 8 0,[],false),(0,Pv (α:=Int) 8 0,[],false),[],false)).2.2.2.2.1.2.1.2.2.2.1 (rd Q.2.2.2.2.2.2.2.1 q1.1.1 (0,0,0,0,(0,Pv (α:=Int) 8 0,[],false),(0,Pv (α:=Int) 8 0,[],false),[],false)).2.2.2.2.1.2.1.2.2.2.2.1 (rd Q.2.2.2.2.2.2.2.1 q1.1.1 (0,0,0,0,(0,Pv (α:=Int) 8 0,[],false),(0,Pv (α:=Int) 8 0,[],false),[],false)).2.2.2.2.1.2.1.2.2.2.2.2.1 (rd Q.2.2.2.2.2.2.2.1 q1.1.1 (0,0,0,0,(0,Pv (α:=Int) 8 0,[],false),(0,Pv (α:=Int) 8 0,[],false),[],false)).2.2.2.2.1.2.1.2.2.2.2.2.2.1 (rd Q.2.2.2.2.2.2.2.1 q1.1.1 (0,0,0,0,(0,Pv (α:=Int) 8 0,[],false),(0,Pv (α:=Int) 8 0,[],false),[],false)).2.2.2.2.1.2.1.2.2.2.2.2.2.2 (rd Q.2.2.2.2.2.2.2.1 q1.1.1 (0,0,0,0,(0,Pv (α:=Int) 8 0,[],false),(0,Pv (α:=Int) 8 0,[],false),[],false)).2.2.2.2.1.2.2.1 (rd Q.2.2.2.2.2.2.2.1 q1.1.1 (0,0,0,0,(0,Pv (α:=Int) 8 0,[],false),(0,Pv (α:=Int) 8 0,[],false),[],false)).2.2.2.2.1.2.2.2 (rd Q.2.2.2.2.2.2.2.1 q1.1.1 (0,0,0,0,(0,Pv (α:=Int) 8 0,[],false),(0,Pv (α:=Int) 8 0,[],false),[],false)).2.2.2.2.2.1.1 (rd Q.2.2.2.2.2.2.2.1 q1.1.1 (0,0,0,0,(0,Pv (α:=Int) 8 0,[],false),(0,Pv (α:=Int) 8 0,[],false),[],false)).2.2.2.2.2.1.2.1.1 (rd Q.2.2.2.2.2.2.2.1 q1.1.1 (0,0,0,0,(0,Pv (α:=Int) 8 0,[],false),(0,Pv (α:=Int) 8 0,[],false),[],false)).2.2.2.2.2.1.2.1.2.1 (rd Q.2.2.2.2.2.2.2.1 q1.1.1 (0,0,0,0,(0,Pv (α:=Int) 8 0,[],false),(0,Pv (α:=Int) 8 0,[],false),[],false)).2.2.2.2.2.1.2.1.2.2.1 (rd Q.2.2.2.2.2.2.2.1 q1.1.1 (0,0,0,0,(0,Pv (α:=Int) 8 0,[],false),(0,Pv (α:=Int) 8 0,[],false),[],false)).2.2.2.2.2.1.2.1.2.2.2.1 (rd Q.2.2.2.2.2.2.2.1 q1.1.1 (0,0,0,0,(0,Pv (α:=Int) 8 0,[],false),(0,Pv (α:=Int) 8 0,[],false),[],false)).2.2.2.2.2.1.2.1.2.2.2.2.1 (rd Q.2.2.2.2.2.2.2.1 q1.1.1 (0,0,0,0,(0,Pv (α:=Int) 8 0,[],false),(0,Pv (α:=Int) 8 0,[],false),[],false)).2.2.2.2.2.1.2.1.2.2.2.2.2.1 (rd Q.2.2.2.2.2.2.2.1 q1.1.1 (0,0,0,0,(0,Pv (α:=Int) 8 0,[],false),(0,Pv (α:=Int) 8 0,[],false),[],false)).2.2.2.2.2.1.2.1.2.2.2.2.2.2.1 (rd Q.2.2.2.2.2.2.2.1 q1.1.1 (0,0,0,0,(0,Pv (α:=Int) 8 0,[],false),(0,Pv (α:=Int) 8 0,[],false),[],false)).2.2.2.2.2.1.2.1.2.2.2.2.2.2.2 (rd Q.2.2.2.2.2.2.2.1 q1.1.1 (0,0,0,0,(0,Pv (α:=Int) 8 0,[],false),(0,Pv (α:=Int) 8 0,[],false),[],false)).2.2.2.2.2.1.2.2.1 (rd Q.2.2.2.2.2.2.2.1 q1.1.1 (0,0,0,0,(0,Pv (α:=Int) 8 0,[],false),(0,Pv (α:=Int) 8 0,[],false),[],false)).2.2.2.2.2.1.2.2.2 (rd Q.2.2.2.2.2.2.2.1 q1.1.1 (0,0,0,0,(0,Pv (α:=Int) 8 0,[],false),(0,Pv (α:=Int) 8 0,[],false),[],false)).2.2.2.2.2.2.1 (rd Q.2.2.2.2.2.2.2.1 q1.1.1 (0,0,0,0,(0,Pv (α:=Int) 8 0,[],false),(0,Pv (α:=Int) 8 0,[],false),[],false)).2.2.2.2.2.2.2 (rd Q.2.2.1 (rd Q.2.2.2.2.2.2.2.1 q1.1.1 (0,0,0,0,(0,Pv (α:=Int) 8 0,[],false),(0,Pv (α:=Int) 8 0,[],false),[],false)).1 (0,0,0,[],[],[])).1 (rd Q.2.2.1 (rd Q.2.2.2.2.2.2.2.1 q1.1.1 (0,0,0,0,(0,Pv (α:=Int) 8 0,[],false),(0,Pv (α:=Int) 8 0,[],false),[],false)).1 (0,0,0,[],[],[])).2.1 (rd Q.2.2.1 (rd Q.2.2.2.2.2.2.2.1 q1.1.1 (0,0,0,0,(0,Pv (α:=Int) 8 0,[],false),(0,Pv (α:=Int) 8 0,[],false),[],false)).1 (0,0,0,[],[],[])).2.2.1 (rd Q.2.2.1 (rd Q.2.2.2.2.2.2.2.1 q1.1.1 (0,0,0,0,(0,Pv (α:=Int) 8 0,[],false),(0,Pv (α:=Int) 8 0,[],false),[],false)).1 (0,0,0,[],[],[])).2.2.2.1 (rd Q.2.2.1 (rd Q.2.2.2.2.2.2.2.1 q1.1.1 (0,0,0,0,(0,Pv (α:=Int) 8 0,[],false),(0,Pv (α:=Int) 8 0,[],false),[],false)).1 (0,0,0,[],[],[])).2.2.2.2.1 (rd Q.2.2.1 (rd Q.2.2.2.2.2.2.2.1 q1.1.1 (0,0,0,0,(0,Pv (α:=Int) 8 0,[],false),(0,Pv (α:=Int) 8 0,[],false),[],false)).1 (0,0,0,[],[],[])).2.2.2.2.2 ([(Q.1,2,(rd Q.2.2.2.2.2.2.2.1 q1.1.1 (0,0,0,0,(0,Pv (α:=Int) 8 0,[],false),(0,Pv (α:=Int) 8 0,[],false),[],false)).1,0,0,0)]:List (PN Int 6)) a b c e f h i l m n o p s t u v w y z A B C D G H I J K M N O P TB.1.1
   else
    WR k Q.1 Q.2.1 Q.2.2.1 Q.2.2.2.1 Q.2.2.2.2.1 Q.2.2.2.2.2.1 Q.2.2.2.2.2.2.1 Q.2.2.2.2.2.2.2.1 Q.2.2.2.2.2.2.2.2.1.1.1 Q.2.2.2.2.2.2.2.2.1.1.2 Q.2.2.2.2.2.2.2.2.1.2 Q.2.2.2.2.2.2.2.2.2.1 Q.2.2.2.2.2.2.2.2.2.2 0 0 false false false q1.1.1 (rd Q.2.2.2.2.2.2.2.1 q1.1.1 (0,0,0,0,(0,Pv (α:=Int) 8 0,[],false),(0,Pv (α:=Int) 8 0,[],false),[],false)).1 (rd Q.2.2.2.2.2.2.2.1 q1.1.1 (0,0,0,0,(0,Pv (α:=Int) 8 0,[],false),(0,Pv (α:=Int) 8 0,[],false),[],false)).2.1 (rd Q.2.2.2.2.2.2.2.1 q1.1.1 (0,0,0,0,(0,Pv (α:=Int) 8 0,[],false),(0,Pv (α:=Int) 8 0,[],false),[],false)).2.2.1 (rd Q.2.2.2.2.2.2.2.1 q1.1.1 (0,0,0,0,(0,Pv (α:=Int) 8 0,[],false),(0,Pv (α:=Int) 8 0,[],false),[],false)).2.2.2.1 (rd Q.2.2.2.2.2.2.2.1 q1.1.1 (0,0,0,0,(0,Pv (α:=Int) 8 0,[],false),(0,Pv (α:=Int) 8 0,[],false),[],false)).2.2.2.2.1.1 (rd Q.2.2.2.2.2.2.2.1 q1.1.1 (0,0,0,0,(0,Pv (α:=Int) 8 0,[],false),(0,Pv (α:=Int) 8 0,[],false),[],false)).2.2.2.2.1.2.1.1 (rd Q.2.2.2.2.2.2.2.1 q1.1.1 (0,0,0,0,(0,Pv (α:=Int) 8 0,[],false),(0,Pv (α:=Int) 8 0,[],false),[],false)).2.2.2.2.1.2.1.2.1 (rd Q.2.2.2.2.2.2.2.1 q1.1.1 (0,0,0,0,(0,Pv (α:=Int) 8 0,[],false),(0,Pv (α:=Int) 8 0,[],false),[],false)).2.2.2.2.1.2.1.2.2.1 (rd Q.2.2.2.2.2.2.2.1 q1.1.1 (0,0,0,0,(0,Pv (α:=Int) 8 0,[],false),(0,Pv (α:=Int) 8 0,[],false),[],false)).2.2.2.2.1.2.1.2.2.2.1 (rd Q.2.2.2.2.2.2.2.1 q1.1.1 (0,0,0,0,(0,Pv (α:=Int) 8 0,[],false),(0,Pv (α:=Int) 8 0,[],false),[],false)).2.2.2.2.1.2.1.2.2.2.2.1 (rd Q.2.2.2.2.2.2.2.1 q1.1.1 (0,0,0,0,(0,Pv (α:=Int) 8 0,[],false),(0,Pv (α:=Int) 8 0,[],false),[],false)).2.2.2.2.1.2.1.2.2.2.2.2.1 (rd Q.2.2.2.2.2.2.2.1 q1.1.1 (0,0,0,0,(0,Pv (α:=Int) 8 0,[],false),(0,Pv (α:=Int) 8 0,[],false),[],false)).2.2.2.2.1.2.1.2.2.2.2.2.2.1 (rd Q.2.2.2.2.2.2.2.1 q1.1.1 (0,0,0,0,(0,Pv (α:=Int) 8 0,[],false),(0,Pv (α:=Int) 8 0,[],false),[],false)).2.2.2.2.1.2.1.2.2.2.2.2.2.2 (rd Q.2.2.2.2.2.2.2.1 q1.1.1 (0,0,0,0,(0,Pv (α:=Int) 8 0,[],false),(0,Pv (α:=Int) 8 0,[],false),[],false)).2.2.2.2.1.2.2.1 (rd Q.2.2.2.2.2.2.2.1 q1.1.1 (0,0,0,0,(0,Pv (α:=Int) 8 0,[],false),(0,Pv (α:=Int) 8 0,[],false),[],false)).2.2.2.2.1.2.2.2 (rd Q.2.2.2.2.2.2.2.1 q1.1.1 (0,0,0,0,(0,Pv (α:=Int) 8 0,[],false),(0,Pv (α:=Int) 8 0,[],false),[],false)).2.2.2.2.2.1.1 (rd Q.2.2.2.2.2.2.2.1 q1.1.1 (0,0,0,0,(0,Pv (α:=Int) 8 0,[],false),(0,Pv (α:=Int) 8 0,[],false),[],false)).2.2.2.2.2.1.2.1.1 (rd Q.2.2.2.2.2.2.2.1 q1.1.1 (0,0,0,0,(0,Pv (α:=Int) 8 0,[],false),(0,Pv (α:=Int) 8 0,[],false),[],false)).2.2.2.2.2.1.2.1.2.1 (rd Q.2.2.2.2.2.2.2.1 q1.1.1 (0,0,0,0,(0,Pv (α:=Int) 8 0,[],false),(0,Pv (α:=Int) 8 0,[],false),[],false)).2.2.2.2.2.1.2.1.2.2.1 (rd Q.2.2.2.2.2.2.2.1 q1.1.1 (0,0,0,0,(0,Pv (α:=Int) 8 0,[],false),(0,Pv (α:=Int) 8 0,[],false),[],false)).2.2.2.2.2.1.2.1.2.2.2.1 (rd Q.2.2.2.2.2.2.2.1 q1.1.1 (0,0,0,0,(0,Pv (α:=Int) 8 0,[],false),(0,Pv (α:=Int) 8 0,[],false),[],false)).2.2.2.2.2.1.2.1.2.2.2.2.1 (rd Q.2.2.2.2.2.2.2.1 q1.1.1 (0,0,0,0,(0,Pv (α:=Int) 8 0,[],false),(0,Pv (α:=Int) 8 0,[],false),[],false)).2.2.2.2.2.1.2.1.2.2.2.2.2.1 (rd Q.2.2.2.2.2.2.2.1 q1.1.1 (0,0,0,0,(0,Pv (α:=Int) 8 0,[],false),(0,Pv (α:=Int) 8 0,[],false),[],false)).2.2.2.2.2.1.2.1.2.2.2.2.2.2.1 (rd Q.2.2.2.2.2.2.2.1 q1.1.1 (0,0,0,0,(0,Pv (α:=Int) 8 0,[],false),(0,Pv (α:=Int) 8 0,[],false),[],false)).2.2.2.2.2.1.2.1.2.2.2.2.2.2.2 (rd Q.2.2.2.2.2.2.2.1 q1.1.1 (0,0,0,0,(0,Pv (α:=Int) 8 0,[],false),(0,Pv (α:=Int) 8 0,[],false),[],false)).2.2.2.2.2.1.2.2.1 (rd Q.2.2.2.2.2.2.2.1 q1.1.1 (0,0,0,0,(0,Pv (α:=Int) 8 0,[],false),(0,Pv (α:=Int) 8 0,[],false),[],false)).2.2.2.2.2.1.2.2.2 (rd Q.2.2.2.2.2.2.2.1 q1.1.1 (0,0,0,0,(0,Pv (α:=Int) 8 0,[],false),(0,Pv (α:=Int) 8 0,[],false),[],false)).2.2.2.2.2.2.1 (rd Q.2.2.2.2.2.2.2.1 q1.1.1 (0,0,0,0,(0,Pv (α:=Int) 8 0,[],false),(0,Pv (α:=Int) 8 0,[],false),[],false)).2.2.2.2.2.2.2 (rd Q.2.2.1 (rd Q.2.2.2.2.2.2.2.1 q1.1.1 (0,0,0,0,(0,Pv (α:=Int) 8 0,[],false),(0,Pv (α:=Int) 8 0,[],false),[],false)).1 (0,0,0,[],[],[])).1 (rd Q.2.2.1 (rd Q.2.2.2.2.2.2.2.1 q1.1.1 (0,0,0,0,(0,Pv (α:=Int) 8 0,[],false),(0,Pv (α:=Int) 8 0,[],false),[],false)).1 (0,0,0,[],[],[])).2.1 (rd Q.2.2.1 (rd Q.2.2.2.2.2.2.2.1 q1.1.1 (0,0,0,0,(0,Pv (α:=Int) 8 0,[],false),(0,Pv (α:=Int) 8 0,[],false),[],false)).1 (0,0,0,[],[],[])).2.2.1 (rd Q.2.2.1 (rd Q.2.2.2.2.2.2.2.1 q1.1.1 (0,0,0,0,(0,Pv (α:=Int) 8 0,[],false),(0,Pv (α:=Int) 8 0,[],false),[],false)).1 (0,0,0,[],[],[])).2.2.2.1 (rd Q.2.2.1 (rd Q.2.2.2.2.2.2.2.1 q1.1.1 (0,0,0,0,(0,Pv (α:=Int) 8 0,[],false),(0,Pv (α:=Int) 8 0,[],false),[],false)).1 (0,0,0,[],[],[])).2.2.2.2.1 (rd Q.2.2.1 (rd Q.2.2.2.2.2.2.2.1 q1.1.1 (0,0,0,0,(0,Pv (α:=Int) 8 0,[],false),(0,Pv (α:=Int) 8 0,[],false),[],false)).1 (0,0,0,[],[],[])).2.2.2.2.2 ([(Q.1,2,(rd Q.2.2.2.2.2.2.2.1 q1.1.1 (0,0,0,0,(0,Pv (α:=Int) 8 0,[],false),(0,Pv (α:=Int) 8 0,[],false),[],false)).1,0,0,0)]:List (PN Int 6)) a b c e f h i l m n o p s t u v w y z A B C D G H I J K M N O P q10.1.1)))
def F63:Fn:=⟨[aaW],[WM,aaV],fun k x=>S63 k x.1⟩
theorem ok63:O 63 F63:=okF (ah ok42 <| ah ok43 <| ah ok54 <| ah ok61 <| ah ok111 <| ah ok112 <| ah ok113 <| ah ok114 <| ah ok115 <| ah ok116 <| ah ok117 aj) [] (fun k=>(.join 31 agl (fun (_,(a,b,c,e,f,h,i,l,m,n,o,p,s,_),(t,u,_,_,v,w,y,_),z,(A,B,C,D,G,H,I,J,K,M,N,O,P,Q,T,U,V,W,X,Z,a1,b1,c1,e1,f1,h1,i1,l1,_),(m1,n1,o1,p1,s1,t1,_),u1,(v1,w1,y1,z1,a2,b2,c2,e2,f2,h2,i2,l2,m2,n2,o2,p2,s2,t2,u2,v2,w2,y2,z2,a3,b3,c3,e3,f3,_),_)=>RI k a b c e f h i l m n o p s t u v w y z A B C D G H I J K M N O P Q T U V W X Z a1 b1 c1 e1 f1 h1 i1 l1 m1 n1 o1 p1 s1 t1 u1 v1 w1 y1 z1 a2 b2 c2 e2 f2 h2 i2 l2 m2 n2 o2 p2 s2 t2 u2 v2 w2 y2 z2 a3 b3 c3 e3 f3) (.join 20 agm (fun (_,(a,b,c,e,f,h,i,l,m,n,o,p,s,_),(t,u,_,_,v,w,y,_),z,(A,B,C,D,G,H,I,J,K,M,N,O,P,Q,T,U,V,W,X,Z,a1,b1,c1,e1,f1,h1,i1,l1,_),(m1,n1,o1,p1,s1,t1,_),u1,(v1,w1,y1,z1,a2,b2,c2,e2,f2,h2,i2,l2,m2,n2,o2,p2,s2,t2,u2,v2,w2,y2,z2,a3,b3,c3,e3,f3,_),h3,_)=>WQ k a b c e f h i l m n o p s t u v w y z A B C D G H I J K M N O P Q T U V W X Z a1 b1 c1 e1 f1 h1 i1 l1 m1 n1 o1 p1 s1 t1 u1 v1 w1 y1 z1 a2 b2 c2 e2 f2 h2 i2 l2 m2 n2 o2 p2 s2 t2 u2 v2 w2 y2 z2 a3 b3 c3 e3 f3 h3) (.join 18 agn (fun (_,(a,b,c,e,f,h,i,l,m,n,o,p,s,_),(t,u,_,_,v,w,y,_),z,(A,B,C,D,G,H,I,J,K,M,N,O,P,Q,T,U,V,W,X,Z,a1,b1,c1,e1,f1,h1,i1,l1,_),(m1,n1,o1,p1,s1,t1,_),u1,(v1,w1,y1,z1,a2,b2,c2,e2,f2,h2,i2,l2,m2,n2,o2,p2,s2,t2,u2,v2,w2,y2,z2,a3,b3,c3,e3,f3,_),(h3,i3,l3,m3,_),n3,_)=>WR k a b c e f h i l m n o p s t u v w y z A B C D G H I J K M N O P Q T U V W X Z a1 b1 c1 e1 f1 h1 i1 l1 m1 n1 o1 p1 s1 t1 u1 v1 w1 y1 z1 a2 b2 c2 e2 f2 h2 i2 l2 m2 n2 o2 p2 s2 t2 u2 v2 w2 y2 z2 a3 b3 c3 e3 f3 h3 i3 l3 m3 n3) .nil)))) Tryz.func63 rfl
abbrev aeb:Cut:=⟨[1,2,5,6,7],[.box 44 [cI,cI,.cell ug,.cell tu,.cell .bool,.cell .bool,.cell .bool,.cell qm,.cell jf,.cell lg,.cell uf,.cell jf,.cell lg],.box 44 [cI,cI,.nil,.nil,.cell .bool,.cell .bool,.cell .bool,.nil,.nil,.nil,.nil,.nil,.nil],.box 44 [cI,cI,.cell ug,.cell tu,.cell .bool,.cell .bool,.cell .bool,.cell qm,.cell jf,.cell lg,.cell uf,.cell jf,.cell lg],.own 82 CY,cI],[],90,[]⟩
def amw (k:Nat) (g5:Int -> Int -> (List l6) -> (List (PN Int 5)) -> Bool -> Bool -> Bool -> (List jy) -> (List Int) -> (List Bool) -> (List j4) -> (List Int) -> (List Bool) -> Int -> Int -> Bool -> Bool -> Bool -> Int -> Int -> (List l6) -> (List (PN Int 5)) -> Bool -> Bool -> Bool -> (List jy) -> (List Int) -> (List Bool) -> (List j4) -> (List Int) -> (List Bool) -> GN -> Int -> Option o7) (a b:Int) (c:List l6) (e:List (PN Int 5)) (f h i:Bool) (l:List jy) (m:List Int) (n:List Bool) (o:List j4) (p:List Int) (s:List Bool) (t u:Int) (v w y:Bool) (x z:Int) (A:List l6) (B:List (PN Int 5)) (C D G:Bool) (H:List jy) (I:List Int) (J:List Bool) (K:List j4) (M:List Int) (N:List Bool) (O:List (PN Int 6)) (P:Int):Option o7 :=
 (bif decide (P<(H.length:Int)) then
  ix H P <|
  (bif (rd H P (0,0,0,0,(0,Pv (α:=Int) 8 0,[],false),(0,Pv (α:=Int) 8 0,[],false),[],false)).2.2.2.1 != 2 then
   ix B (rd H P (0,0,0,0,(0,Pv (α:=Int) 8 0,[],false),(0,Pv (α:=Int) 8 0,[],false),[],false)).1 <|
   (bif decide ((IntKind.i64.wrap (x - (rd H P (0,0,0,0,(0,Pv (α:=Int) 8 0,[],false),(0,Pv (α:=Int) 8 0,[],false),[],false)).2.1))≥(rd B (rd H P (0,0,0,0,(0,Pv (α:=Int) 8 0,[],false),(0,Pv (α:=Int) 8 0,[],false),[],false)).1 (Pv (α:=Int) 5 0)).2.2.2.2) then
    (S61 k H P ((rd H P (0,0,0,0,(0,Pv (α:=Int) 8 0,[],false),(0,Pv (α:=Int) 8 0,[],false),[],false)).1,(rd H P (0,0,0,0,(0,Pv (α:=Int) 8 0,[],false),(0,Pv (α:=Int) 8 0,[],false),[],false)).2.1,(rd H P (0,0,0,0,(0,Pv (α:=Int) 8 0,[],false),(0,Pv (α:=Int) 8 0,[],false),[],false)).2.2.1,(rd H P (0,0,0,0,(0,Pv (α:=Int) 8 0,[],false),(0,Pv (α:=Int) 8 0,[],false),[],false)).2.2.2.1,(rd H P (0,0,0,0,(0,Pv (α:=Int) 8 0,[],false),(0,Pv (α:=Int) 8 0,[],false),[],false)).2.2.2.2.1,(rd H P (0,0,0,0,(0,Pv (α:=Int) 8 0,[],false),(0,Pv (α:=Int) 8 0,[],false),[],false)).2.2.2.2.2.1,(rd H P (0,0,0,0,(0,Pv (α:=Int) 8 0,[],false),(0,Pv (α:=Int) 8 0,[],false),[],false)).2.2.2.2.2.2.1,true)).bind fun q1 =>
    g5 a b c e f h i l m n o p s t u v w y x z A B C D G q1.1.1 I J K M N O (IntKind.i64.wrap (P+1))
   else
    g5 a b c e f h i l m n o p s t u v w y x z A B C D G H I J K M N O (IntKind.i64.wrap (P+1)))
  else
   g5 a b c e f h i l m n o p s t u v w y x z A B C D G H I J K M N O (IntKind.i64.wrap (P+1)))
 else
  (S62 k (x,z,A,B,C,D,G,H,((I,J),K),M,N)).bind fun q2 =>
  ap O q2.1.2.1 48 fun r3 =>
  (bif !q2.1.1.2.2.2.2.2.1 then
   (S63 k q2.1.1).bind fun q4 =>
   ap r3 q4.1.2.1 48 fun r5 =>
   some (((IntKind.i64.wrap (q4.1.1.1+1),q4.1.1.2.1,q4.1.1.2.2.1,q4.1.1.2.2.2.1,q4.1.1.2.2.2.2.1,q4.1.1.2.2.2.2.2.1,false,q4.1.1.2.2.2.2.2.2.2),r5,()),())
  else
   some (((IntKind.i64.wrap (q2.1.1.1+1),q2.1.1.2.1,q2.1.1.2.2.1,q2.1.1.2.2.2.1,q2.1.1.2.2.2.2.1,q2.1.1.2.2.2.2.2.1,false,q2.1.1.2.2.2.2.2.2.2),r3,()),())))
def ah2 (k:Nat):Xx (((Unit)×EX×JJ×EX×GN×Int×Unit) -> Option o7):=dh (bf (bq (ay (ay (ay (ay (ay (ay (ay (ay (ay (ay (ay (ay (ay bg))))))))))))) (bq (ay (ay (bf (bf (ay (ay (ay (bf (bf (bf (bf (bf (bf bg))))))))))))) (bq (ay (ay (ay (ay (ay (ay (ay (ay (ay (ay (ay (ay (ay bg))))))))))))) (ay (ay bg)))))) (amw k)
def amx (k a:Nat) (b c:Int) (e:List l6) (f:List (PN Int 5)) (h i l:Bool) (m:List jy) (n:List Int) (o:List Bool) (p:List j4) (s:List Int) (t:List Bool) (u v:Int) (w y z:Bool) (x A:Int) (B:List l6) (C:List (PN Int 5)) (D G H:Bool) (I:List jy) (J:List Int) (K:List Bool) (M:List j4) (N:List Int) (O:List Bool) (P:List (PN Int 6)) (Q:Int):Option o7:=iter aeb (ah2 k) a ((),(b,c,e,f,h,i,l,m,n,o,p,s,t,()),(u,v,(),(),w,y,z,(),(),(),(),(),(),()),(x,A,B,C,D,G,H,I,J,K,M,N,O,()),P,Q,())
def S24 (k:Nat) (u:NY):Option o7 :=
 (bif u.2.2.2.2.1 then
  (bif !u.2.2.2.2.2.1 then
   (S60 k u).bind fun (((a,b,c,e,f,h,i,l,((m,n),o),p,s),t,_),_) =>
   amx k k u.1 u.2.1 u.2.2.1 u.2.2.2.1 u.2.2.2.2.1 u.2.2.2.2.2.1 u.2.2.2.2.2.2.1 u.2.2.2.2.2.2.2.1 u.2.2.2.2.2.2.2.2.1.1.1 u.2.2.2.2.2.2.2.2.1.1.2 u.2.2.2.2.2.2.2.2.1.2 u.2.2.2.2.2.2.2.2.2.1 u.2.2.2.2.2.2.2.2.2.2 0 0 false false false a b c e f h i l m n o p s t 0
  else
   some (((IntKind.i64.wrap (u.1+1),u.2.1,u.2.2.1,u.2.2.2.1,u.2.2.2.2.1,u.2.2.2.2.2.1,false,u.2.2.2.2.2.2.2),([]:List (PN Int 6)),()),()))
 else
  some (((IntKind.i64.wrap (u.1+1),u.2.1,u.2.2.1,u.2.2.2.1,u.2.2.2.2.1,u.2.2.2.2.2.1,false,u.2.2.2.2.2.2.2),([]:List (PN Int 6)),()),()))
def F24:Fn:=⟨[aaW],[WM,aaV],fun k x=>S24 k x.1⟩
theorem ok24:O 24 F24:=okF (ah ok60 <| ah ok61 <| ah ok62 <| ah ok63 aj) [(4,2)] (fun k=>(.loop 5 aeb (ah2 k) (fun g=>.nil) .nil)) Tryz.func24 rfl
def S76 (k:Nat) (a:((List Int)×List Bool)×List j4) (b:Int):Option (((((List Int)×List Bool)×List j4)×Bool×Unit)×Unit) :=
 (bif decide (b<0) then
  some ((a,false,()),())
 else
  (bif decide (b≥(a.2.length:Int)) then
   some ((a,false,()),())
  else
   ix a.2 b <|
   (bif (rd a.2 b (0,(0,0),(0,0),([],[]),(0,[]),0)).1==0 then
    some ((a,false,()),())
   else
    ix a.2 b <|
    (WH k a b ((rd a.2 b (0,(0,0),(0,0),([],[]),(0,[]),0)).1,(rd a.2 b (0,(0,0),(0,0),([],[]),(0,[]),0)).2.1,(rd a.2 b (0,(0,0),(0,0),([],[]),(0,[]),0)).2.2.1,(rd a.2 b (0,(0,0),(0,0),([],[]),(0,[]),0)).2.2.2.1,(rd a.2 b (0,(0,0),(0,0),([],[]),(0,[]),0)).2.2.2.2.1,Tt .u32 (rd a.2 b (0,(0,0),(0,0),([],[]),(0,[]),0)).2.2.2.2.2)).bind fun q0 =>
    some ((q0.1.1,true,()),()))))
def F76:Fn:=⟨[al5,au],[al6,rB],fun k x=>S76 k x.1 x.2.1⟩
theorem ok76:O 76 F76:=okF (ah ok137 aj) [] On Tryz.func76 rfl
abbrev ZL:Cut:=⟨[2,3,4,6,11,12],[.box 44 [cI,cI,.cell ug,.cell tu,.cell .bool,.cell .bool,.cell .bool,.cell qm,.cell jf,.cell lg,.cell uf,.cell jf,.cell lg],.box 108 [cI,cI,cI,cI,cI,.cell yw,.cell yw,.cell yw,cI,cI,cI,cI,.cell (.int .u32),cI,cI],.box 44 [cI,cI,.nil,.nil,.cell .bool,.cell .bool,.cell .bool,.nil,.nil,.nil,.nil,.nil,.nil],.box 110 [cI,cI,cI,cI],.own 82 CY,cI],[],91,[]⟩
def akd (k:Nat) (g21:Int -> Int -> (List l6) -> (List (PN Int 5)) -> Bool -> Bool -> Bool -> (List jy) -> (List Int) -> (List Bool) -> (List j4) -> (List Int) -> (List Bool) -> Int -> Int -> Int -> Int -> Int -> (List u6) -> (List u6) -> (List u6) -> Int -> Int -> Int -> Int -> Int -> Int -> Int -> Int -> Int -> Bool -> Bool -> Bool -> Int -> Int -> Int -> Int -> GN -> Int -> Option LQ) (i v:Int) (w:List l6) (y:List (PN Int 5)) (z A B:Bool) (C:List jy) (D:List Int) (G:List Bool) (H:List j4) (I:List Int) (J:List Bool) (K M N O P:Int) (Q T U:List u6) (V W X Z a1 b1 c1 e1 f1:Int) (h1 i1 l1:Bool) (m1 n1 o1 p1:Int) (s1:List (PN Int 6)) (t1:Int):Option LQ :=
 (bif decide (t1<c1) then
  (S24 k (i,v,w,y,z,A,B,C,((D,G),H),I,J)).bind fun (((a,b,c,e,f,h,l,m,((n,o),p),s,t),u,_),_) =>
  ap s1 u 48 fun r4 =>
  g21 a b c e f h l m n o p s t K M N O P Q T U V W X Z a1 b1 c1 e1 f1 h1 i1 l1 m1 n1 o1 p1 r4 (IntKind.i64.wrap (t1+1))
 else
  some (((i,v,w,y,z,A,B,C,((D,G),H),I,J),s1,(0,(0,0),0),()),()))
def aec (k:Nat):Xx (((Unit)×EX×al2×JJ×V9×GN×Int×Unit) -> Option LQ):=dh (bf (bq (ay (ay (ay (ay (ay (ay (ay (ay (ay (ay (ay (ay (ay bg))))))))))))) (bq (ay (ay (ay (ay (ay (ay (ay (ay (ay (ay (ay (ay (ay (ay (ay bg))))))))))))))) (bq (ay (ay (bf (bf (ay (ay (ay (bf (bf (bf (bf (bf (bf bg))))))))))))) (bq (ay (ay (ay (ay bg)))) (ay (ay bg))))))) (akd k)
def ake (k a:Nat) (b c:Int) (e:List l6) (f:List (PN Int 5)) (h i l:Bool) (m:List jy) (n:List Int) (o:List Bool) (p:List j4) (s:List Int) (t:List Bool) (u v w y z:Int) (A B C:List u6) (D G H I J K M N O:Int) (P Q T:Bool) (U V W X:Int) (Z:List (PN Int 6)) (a1:Int):Option LQ:=iter ZL (aec k) a ((),(b,c,e,f,h,i,l,m,n,o,p,s,t,()),(u,v,w,y,z,A,B,C,D,G,H,I,J,K,M,()),(N,O,(),(),P,Q,T,(),(),(),(),(),(),()),(U,V,W,X,()),Z,a1,())
def S32 (k:Nat) (a:NY) (b:Int×(Int×l6×(Int×Int)×Int×Int×Int)×Int×Int):Option LQ :=
 (bif b.1==1 then
  (S75 k a b.2.1).bind fun q0 =>
  some (q0.1,())
 else
  (bif b.1==2 then
   (S24 k a).bind fun q1 =>
   some ((q1.1.1,q1.1.2.1,(0,(0,0),0),()),())
  else
   (bif b.1==3 then
    some (((a.1,a.2.1,a.2.2.1,a.2.2.2.1,a.2.2.2.2.1,a.2.2.2.2.2.1,true,a.2.2.2.2.2.2.2),[],(0,(0,0),0),()),())
   else
    (bif b.1==4 then
     (S76 k a.2.2.2.2.2.2.2.2.1 b.2.2.1).bind fun q2 =>
     (bif !q2.1.2.1 then
      some ((a,[],(3,(0,0),0),()),())
     else
      some (((a.1,a.2.1,a.2.2.1,a.2.2.2.1,a.2.2.2.2.1,a.2.2.2.2.2.1,a.2.2.2.2.2.2.1,a.2.2.2.2.2.2.2.1,q2.1.1,a.2.2.2.2.2.2.2.2.2),[],(0,(0,0),0),()),()))
    else
     (bif b.1==5 then
      (bif decide (b.2.2.2<0) then
       some ((a,[],(1,(0,0),0),()),())
      else
       (bif decide (b.2.2.2>10000) then
        some ((a,[],(1,(0,0),0),()),())
       else
        ake k k a.1 a.2.1 a.2.2.1 a.2.2.2.1 a.2.2.2.2.1 a.2.2.2.2.2.1 a.2.2.2.2.2.2.1 a.2.2.2.2.2.2.2.1 a.2.2.2.2.2.2.2.2.1.1.1 a.2.2.2.2.2.2.2.2.1.1.2 a.2.2.2.2.2.2.2.2.1.2 a.2.2.2.2.2.2.2.2.2.1 a.2.2.2.2.2.2.2.2.2.2 b.1 b.2.1.1 b.2.1.2.1.1 b.2.1.2.1.2.1 b.2.1.2.1.2.2.1 b.2.1.2.1.2.2.2.1 b.2.1.2.1.2.2.2.2.1 b.2.1.2.1.2.2.2.2.2 b.2.1.2.2.1.1 b.2.1.2.2.1.2 b.2.1.2.2.2.1 b.2.1.2.2.2.2.1 b.2.1.2.2.2.2.2 b.2.2.1 b.2.2.2 0 0 false false false 0 0 0 0 ([]:List (PN Int 6)) 0))
     else
      some ((a,[],(1,(0,0),0),()),()))))))
def F32:Fn:=⟨[aaW,.val ⟨true,(.pair (.int .i64) (.pair adS JK)),false⟩],[WM,aaV,al3],fun k x=>S32 k x.1 x.2.1⟩
theorem ok32:O 32 F32:=okF (ah ok24 <| ah ok75 <| ah ok76 aj) [(11,2)] (fun k=>(.loop 21 ZL (aec k) (fun g=>.nil) .nil)) Tryz.func32 rfl
abbrev aed:Cut:=⟨[4,5,7,9,11,12],[.box 37 [cI,cI,.nil,.nil,.cell .bool,.cell .bool,.cell .bool,.nil,.nil,.nil,.nil,.nil,.nil],.box 44 [cI,cI,.nil,.nil,.cell .bool,.cell .bool,.cell .bool,.nil,.nil,.nil,.nil,.nil,.nil],.box 37 [cI,cI,.own 77 aaU,.own 96 (Am 5 (.int .i64)),.cell .bool,.cell .bool,.cell .bool,.own 94 WL,.own 3 (.int .i64),.own 4 .bool,.own 124 V5,.own 3 (.int .i64),.own 4 .bool],.box 44 [cI,cI,.cell ug,.cell tu,.cell .bool,.cell .bool,.cell .bool,.cell qm,.cell jf,.cell lg,.cell uf,.cell jf,.cell lg],cI,.own 108 (.pair (.int .i64) (.pair adS JK))],[],69,[]⟩
def Vg (k:Nat) (g6:Int -> Int -> Bool -> Bool -> Bool -> Int -> Int -> Bool -> Bool -> Bool -> Int -> Int -> (List l6) -> (List (PN Int 5)) -> Bool -> Bool -> Bool -> (List jy) -> (List Int) -> (List Bool) -> (List j4) -> (List Int) -> (List Bool) -> Int -> Int -> (List l6) -> (List (PN Int 5)) -> Bool -> Bool -> Bool -> (List jy) -> (List Int) -> (List Bool) -> (List j4) -> (List Int) -> (List Bool) -> Int -> (List Zr) -> Option Vb) (n u:Int) (v w y:Bool) (z A:Int) (B C D:Bool) (G H:Int) (I:List l6) (J:List (PN Int 5)) (K M N:Bool) (O:List jy) (P:List Int) (Q:List Bool) (T:List j4) (U:List Int) (V:List Bool) (W X:Int) (Z:List l6) (a1:List (PN Int 5)) (b1 c1 e1:Bool) (f1:List jy) (h1:List Int) (i1:List Bool) (l1:List j4) (m1:List Int) (n1:List Bool) (o1:Int) (p1:List Zr):Option Vb :=
 (bif decide (o1<(p1.length:Int)) then
  ix p1 o1 <|
  (bif (rd p1 o1 (0,(0,(0,0,0,[],[],[]),(0,0),0,0,0),0,0)).2.1.1==5 then
   g6 n u v w y z A B C D G H I J K M N O P Q T U V W X Z a1 b1 c1 e1 f1 h1 i1 l1 m1 n1 (IntKind.i64.wrap (o1+1)) p1
  else
   ix p1 o1 <|
   (S32 k (W,X,Z,a1,b1,c1,e1,f1,((h1,i1),l1),m1,n1) (rd p1 o1 (0,(0,(0,0,0,[],[],[]),(0,0),0,0,0),0,0))).bind fun (((a,b,c,e,f,h,i,l,((m,o),p),s,t),_),_) =>
   g6 n u v w y z A B C D G H I J K M N O P Q T U V a b c e f h i l m o p s t (IntKind.i64.wrap (o1+1)) p1)
 else
  some (((G,H,Z,a1,K,M,N,O,((P,Q),T),U,V),(W,X,Z,a1,b1,c1,e1,f1,((h1,i1),l1),m1,n1),true,()),()))
def ah3 (k:Nat):Xx (((Unit)×JJ×JJ×EX×EX×Int×(List Zr)×Unit) -> Option Vb):=dh (bf (bq (ay (ay (bf (bf (ay (ay (ay (bf (bf (bf (bf (bf (bf bg))))))))))))) (bq (ay (ay (bf (bf (ay (ay (ay (bf (bf (bf (bf (bf (bf bg))))))))))))) (bq (ay (ay (ay (ay (ay (ay (ay (ay (ay (ay (ay (ay (ay bg))))))))))))) (bq (ay (ay (ay (ay (ay (ay (ay (ay (ay (ay (ay (ay (ay bg))))))))))))) (ay (ay bg))))))) (Vg k)
def ZM (k a:Nat) (b c:Int) (e f h:Bool) (i l:Int) (m n o:Bool) (p s:Int) (t:List l6) (u:List (PN Int 5)) (v w y:Bool) (z:List jy) (A:List Int) (B:List Bool) (C:List j4) (D:List Int) (G:List Bool) (H I:Int) (J:List l6) (K:List (PN Int 5)) (M N O:Bool) (P:List jy) (Q:List Int) (T:List Bool) (U:List j4) (V:List Int) (W:List Bool) (X:Int) (Z:List Zr):Option Vb:=iter aed (ah3 k) a ((),(b,c,(),(),e,f,h,(),(),(),(),(),(),()),(i,l,(),(),m,n,o,(),(),(),(),(),(),()),(p,s,t,u,v,w,y,z,A,B,C,D,G,()),(H,I,J,K,M,N,O,P,Q,T,U,V,W,()),X,Z,())
theorem RJ (k a b c e f h i l m n o p s t u v w y z A B C D G H I J K M N O P Q T U V W X Z):ZM k (a+1) b c e f h i l m n o p s t u v w y z A B C D G H I J K M N O P Q T U V W X Z=Vg k (ZM k a) b c e f h i l m n o p s t u v w y z A B C D G H I J K M N O P Q T U V W X Z:=Ba _ _ _ _
def S10 (k:Nat) (a:List Int) (b:Int):Option Vb :=
 (S25 k b).bind fun q0 =>
 (S26 k b).bind fun q1 =>
 (bif !q0.1.2.1 then
  some ((q0.1.1,q1.1.1,false,()),())
 else
  (bif !q1.1.2.1 then
   some ((q0.1.1,q1.1.1,false,()),())
  else
   (S17 k a).bind fun q2 =>
   (S31 k q2.1.1.1 q2.1.1.2.1).bind fun q3 =>
   ZM k k 0 0 false false false 0 0 false false false q0.1.1.1 q0.1.1.2.1 q0.1.1.2.2.1 q0.1.1.2.2.2.1 q0.1.1.2.2.2.2.1 q0.1.1.2.2.2.2.2.1 q0.1.1.2.2.2.2.2.2.1 q0.1.1.2.2.2.2.2.2.2.1 q0.1.1.2.2.2.2.2.2.2.2.1.1.1 q0.1.1.2.2.2.2.2.2.2.2.1.1.2 q0.1.1.2.2.2.2.2.2.2.2.1.2 q0.1.1.2.2.2.2.2.2.2.2.2.1 q0.1.1.2.2.2.2.2.2.2.2.2.2 q1.1.1.1 q1.1.1.2.1 q1.1.1.2.2.1 q1.1.1.2.2.2.1 q1.1.1.2.2.2.2.1 q1.1.1.2.2.2.2.2.1 q1.1.1.2.2.2.2.2.2.1 q1.1.1.2.2.2.2.2.2.2.1 q1.1.1.2.2.2.2.2.2.2.2.1.1.1 q1.1.1.2.2.2.2.2.2.2.2.1.1.2 q1.1.1.2.2.2.2.2.2.2.2.1.2 q1.1.1.2.2.2.2.2.2.2.2.2.1 q1.1.1.2.2.2.2.2.2.2.2.2.2 0 q3.1.1))
def F10:Fn:=⟨[al7,au],[.val ⟨true,(.pair (.int .i64) (.pair (.int .i64) (.pair ug (.pair tu (.pair .bool (.pair .bool (.pair .bool (.pair qm (.pair (.pair JL (.sl 124 V5)) JL))))))))),false⟩,WM,rB],fun k x=>S10 k x.1 x.2.1⟩
theorem ok10:O 10 F10:=okF (ah ok17 <| ah ok25 <| ah ok26 <| ah ok31 <| ah ok32 aj) [] (fun k=>(.loop 6 aed (ah3 k) (fun g=>.nil) .nil)) Tryz.func10 rfl
abbrev aee:Cut:=⟨[1,5,6,13,14,16],[.cell (.int .u8),.box 37 [cI,cI,.cell ug,.cell tu,.cell .bool,.cell .bool,.cell .bool,.cell qm,.cell jf,.cell lg,.cell (.sl 124 V5),.cell jf,.cell lg],.box 44 [cI,cI,.cell ug,.cell tu,.cell .bool,.cell .bool,.cell .bool,.cell qm,.cell jf,.cell lg,.cell uf,.cell jf,.cell lg],cI,.box 37 [cI,cI,.own 77 aaU,.own 96 (Am 5 (.int .i64)),.cell .bool,.cell .bool,.cell .bool,.own 94 WL,.own 3 (.int .i64),.own 4 .bool,.own 124 V5,.own 3 (.int .i64),.own 4 .bool],cI],[],146,[]⟩
def ZN (k:Nat) (g20:NV) (g24:Int -> Int -> Int -> (List l6) -> (List (PN Int 5)) -> Bool -> Bool -> Bool -> (List jy) -> (List Int) -> (List Bool) -> (List j4) -> (List Int) -> (List Bool) -> Int -> Int -> (List l6) -> (List (PN Int 5)) -> Bool -> Bool -> Bool -> (List jy) -> (List Int) -> (List Bool) -> (List j4) -> (List Int) -> (List Bool) -> Int -> Int -> Int -> (List l6) -> (List (PN Int 5)) -> Bool -> Bool -> Bool -> (List jy) -> (List Int) -> (List Bool) -> (List j4) -> (List Int) -> (List Bool) -> Int -> Option CX) (a b c:Int) (e:List l6) (f:List (PN Int 5)) (h i l:Bool) (m:List jy) (n:List Int) (o:List Bool) (p:List j4) (s:List Int) (t:List Bool) (u v:Int) (w:List l6) (y:List (PN Int 5)) (z A B:Bool) (C:List jy) (D:List Int) (G:List Bool) (H:List j4) (I:List Int) (J:List Bool) (K x M:Int) (N:List l6) (O:List (PN Int 5)) (P Q T:Bool) (U:List jy) (V:List Int) (W:List Bool) (X:List j4) (Z:List Int) (a1:List Bool) (b1:Int):Option CX :=
 (bif decide (b1<(U.length:Int)) then
  ix U b1 <|
  (bif decide ((rd U b1 (0,0,0,0,(0,Pv (α:=Int) 8 0,[],false),(0,Pv (α:=Int) 8 0,[],false),[],false)).1<0) then
   some ((false,()),())
  else
   (bif decide ((rd U b1 (0,0,0,0,(0,Pv (α:=Int) 8 0,[],false),(0,Pv (α:=Int) 8 0,[],false),[],false)).1≥(y.length:Int)) then
    some ((false,()),())
   else
    (bif (rd U b1 (0,0,0,0,(0,Pv (α:=Int) 8 0,[],false),(0,Pv (α:=Int) 8 0,[],false),[],false)).2.2.2.1 != 2 then
     ix y (rd U b1 (0,0,0,0,(0,Pv (α:=Int) 8 0,[],false),(0,Pv (α:=Int) 8 0,[],false),[],false)).1 <|
     (bif !((rd U b1 (0,0,0,0,(0,Pv (α:=Int) 8 0,[],false),(0,Pv (α:=Int) 8 0,[],false),[],false)).2.2.2.2.2.2.2==(decide (K≥(rd y (rd U b1 (0,0,0,0,(0,Pv (α:=Int) 8 0,[],false),(0,Pv (α:=Int) 8 0,[],false),[],false)).1 (Pv (α:=Int) 5 0)).2.2.2.2))) then
      some ((false,()),())
     else
      (bif (rd U b1 (0,0,0,0,(0,Pv (α:=Int) 8 0,[],false),(0,Pv (α:=Int) 8 0,[],false),[],false)).2.2.2.1==2 then
       (bif (rd U b1 (0,0,0,0,(0,Pv (α:=Int) 8 0,[],false),(0,Pv (α:=Int) 8 0,[],false),[],false)).2.2.2.2.2.2.2 then
        some ((false,()),())
       else
        g24 a b c e f h i l m n o p s t u v w y z A B C D G H I J K x M N O P Q T U V W X Z a1 (IntKind.i64.wrap (b1+1)))
      else
       g24 a b c e f h i l m n o p s t u v w y z A B C D G H I J K x M N O P Q T U V W X Z a1 (IntKind.i64.wrap (b1+1))))
    else
     (bif (rd U b1 (0,0,0,0,(0,Pv (α:=Int) 8 0,[],false),(0,Pv (α:=Int) 8 0,[],false),[],false)).2.2.2.1==2 then
      (bif (rd U b1 (0,0,0,0,(0,Pv (α:=Int) 8 0,[],false),(0,Pv (α:=Int) 8 0,[],false),[],false)).2.2.2.2.2.2.2 then
       some ((false,()),())
      else
       g24 a b c e f h i l m n o p s t u v w y z A B C D G H I J K x M N O P Q T U V W X Z a1 (IntKind.i64.wrap (b1+1)))
     else
      g24 a b c e f h i l m n o p s t u v w y z A B C D G H I J K x M N O P Q T U V W X Z a1 (IntKind.i64.wrap (b1+1))))))
 else
  g20 a x M N O P Q T U V W X Z a1 u v w y z A B C D G H I J (IntKind.i64.wrap (K+1)))
def ah4 (k:Nat) (g20:NV):Xx (((Unit)×Int×EX×EX×Int×EX×Int×Unit) -> Option CX):=dh (bf (ay (bq (ay (ay (ay (ay (ay (ay (ay (ay (ay (ay (ay (ay (ay bg))))))))))))) (bq (ay (ay (ay (ay (ay (ay (ay (ay (ay (ay (ay (ay (ay bg))))))))))))) (ay (bq (ay (ay (ay (ay (ay (ay (ay (ay (ay (ay (ay (ay (ay bg))))))))))))) (ay bg))))))) (ZN k g20)
def ZO (k:Nat) (g20:NV) (a:Nat) (b c e:Int) (f:List l6) (h:List (PN Int 5)) (i l m:Bool) (n:List jy) (o:List Int) (p:List Bool) (s:List j4) (t:List Int) (u:List Bool) (v w:Int) (y:List l6) (z:List (PN Int 5)) (A B C:Bool) (D:List jy) (G:List Int) (H:List Bool) (I:List j4) (J:List Int) (K:List Bool) (M x N:Int) (O:List l6) (P:List (PN Int 5)) (Q T U:Bool) (V:List jy) (W:List Int) (X:List Bool) (Z:List j4) (a1:List Int) (b1:List Bool) (c1:Int):Option CX:=iter aee (ah4 k g20) a ((),b,(c,e,f,h,i,l,m,n,o,p,s,t,u,()),(v,w,y,z,A,B,C,D,G,H,I,J,K,()),M,(x,N,O,P,Q,T,U,V,W,X,Z,a1,b1,()),c1,())
theorem ZP (k g20 a b c e f h i l m n o p s t u v w y z A B C D G H I J K M x N O P Q T U V W X Z a1 b1 c1):ZO k g20 (a+1) b c e f h i l m n o p s t u v w y z A B C D G H I J K M x N O P Q T U V W X Z a1 b1 c1=ZN k g20 (ZO k g20 a) b c e f h i l m n o p s t u v w y z A B C D G H I J K M x N O P Q T U V W X Z a1 b1 c1:=Ba _ _ _ _
abbrev aef:Cut:=⟨[1,5,6,13],[.cell (.int .u8),.box 37 [cI,cI,.cell ug,.cell tu,.cell .bool,.cell .bool,.cell .bool,.cell qm,.cell jf,.cell lg,.cell (.sl 124 V5),.own 3 (.int .i64),.own 4 .bool],.box 44 [cI,cI,.cell ug,.cell tu,.cell .bool,.cell .bool,.cell .bool,.cell qm,.cell jf,.cell lg,.cell uf,.cell jf,.cell lg],cI],[],146,[]⟩
def ZQ (k:Nat) (g20:NV) (t u v:Int) (w:List l6) (y:List (PN Int 5)) (z A B:Bool) (C:List jy) (D:List Int) (G:List Bool) (H:List j4) (I:List Int) (J:List Bool) (K M:Int) (N:List l6) (O:List (PN Int 5)) (P Q T:Bool) (U:List jy) (V:List Int) (W:List Bool) (X:List j4) (Z:List Int) (a1:List Bool) (b1:Int):Option CX :=
 (bif decide (b1<(IntKind.i64.wrap t)) then
  (S23 k (u,v,w,y,z,A,B,C,((D,G),H),I,J)).bind fun (((a,b,c,e,f,h,i,l,((m,n),o),p,s),_),_) =>
  ZO k g20 k t u v w y z A B C D G H I J K M N O P Q T U V W X Z a1 b1 a b c e f h i l m n o p s 0
 else
  some ((true,()),()))
def ah5 (k:Nat):Xx (((Unit)×Int×EX×EX×Int×Unit) -> Option CX):=dh (bf (ay (bq (ay (ay (ay (ay (ay (ay (ay (ay (ay (ay (ay (ay (ay bg))))))))))))) (bq (ay (ay (ay (ay (ay (ay (ay (ay (ay (ay (ay (ay (ay bg))))))))))))) (ay bg))))) (ZQ k)
def Vh (k a:Nat) (b c e:Int) (f:List l6) (h:List (PN Int 5)) (i l m:Bool) (n:List jy) (o:List Int) (p:List Bool) (s:List j4) (t:List Int) (u:List Bool) (v w:Int) (y:List l6) (z:List (PN Int 5)) (A B C:Bool) (D:List jy) (G:List Int) (H:List Bool) (I:List j4) (J:List Int) (K:List Bool) (M:Int):Option CX:=iter aef (ah5 k) a ((),b,(c,e,f,h,i,l,m,n,o,p,s,t,u,()),(v,w,y,z,A,B,C,D,G,H,I,J,K,()),M,())
theorem ZR (k a b c e f h i l m n o p s t u v w y z A B C D G H I J K M):Vh k (a+1) b c e f h i l m n o p s t u v w y z A B C D G H I J K M=ZQ k (Vh k a) b c e f h i l m n o p s t u v w y z A B C D G H I J K M:=Ba _ _ _ _
abbrev aeg:Cut:=⟨[1,5,6,9],[.cell (.int .u8),.box 37 [cI,cI,.cell ug,.cell tu,.cell .bool,.cell .bool,.cell .bool,.cell qm,.cell jf,.cell lg,.cell (.sl 124 V5),.own 3 (.int .i64),.own 4 .bool],.box 44 [cI,cI,.cell ug,.cell tu,.cell .bool,.cell .bool,.cell .bool,.cell qm,.cell jf,.cell lg,.cell uf,.cell jf,.cell lg],cI],[],146,[]⟩
def ZT (k:Nat) (g13:NV) (i v w:Int) (y:List l6) (z:List (PN Int 5)) (A B C:Bool) (D:List jy) (G:List Int) (H:List Bool) (I:List j4) (J:List Int) (K:List Bool) (M N:Int) (O:List l6) (P:List (PN Int 5)) (Q T U:Bool) (V:List jy) (W:List Int) (X:List Bool) (Z:List j4) (a1:List Int) (b1:List Bool) (c1:Int):Option CX :=
 (bif decide (c1<(y.length:Int)) then
  (S20 k (v,w,y,z,A,B,C,D,((G,H),I),J,K) c1 5).bind fun (((a,b,c,e,f,h,l,m,((n,o),p),s,t),_,u,_),_) =>
  (bif u != 0 then
   some ((false,()),())
  else
   g13 i a b c e f h l m n o p s t M N O P Q T U V W X Z a1 b1 (IntKind.i64.wrap (c1+1)))
 else
  Vh k k i v w y z A B C D G H I J K M N O P Q T U V W X Z a1 b1 0)
def ah6 (k:Nat):Xx (((Unit)×Int×EX×EX×Int×Unit) -> Option CX):=dh (bf (ay (bq (ay (ay (ay (ay (ay (ay (ay (ay (ay (ay (ay (ay (ay bg))))))))))))) (bq (ay (ay (ay (ay (ay (ay (ay (ay (ay (ay (ay (ay (ay bg))))))))))))) (ay bg))))) (ZT k)
def ZU (k a:Nat) (b c e:Int) (f:List l6) (h:List (PN Int 5)) (i l m:Bool) (n:List jy) (o:List Int) (p:List Bool) (s:List j4) (t:List Int) (u:List Bool) (v w:Int) (y:List l6) (z:List (PN Int 5)) (A B C:Bool) (D:List jy) (G:List Int) (H:List Bool) (I:List j4) (J:List Int) (K:List Bool) (M:Int):Option CX:=iter aeg (ah6 k) a ((),b,(c,e,f,h,i,l,m,n,o,p,s,t,u,()),(v,w,y,z,A,B,C,D,G,H,I,J,K,()),M,())
theorem ZV (k a b c e f h i l m n o p s t u v w y z A B C D G H I J K M):ZU k (a+1) b c e f h i l m n o p s t u v w y z A B C D G H I J K M=ZT k (ZU k a) b c e f h i l m n o p s t u v w y z A B C D G H I J K M:=Ba _ _ _ _
def S8 (k:Nat) (n:List Int) (M:Int):Option CX :=
 (S9 k).bind fun q0 =>
 (bif !q0.1.1 then
  some ((false,()),())
 else
  (bif decide ((n.length:Int)>200) then
   some ((true,()),())
  else
   (S10 k n 500).bind fun ((a,(b,c,e,f,h,i,l,m,((o,p),s),t,u),v,_),_) =>
   (bif !v then
    some ((false,()),())
   else
    (S12 k a).bind fun (((w,y,z,A,B,C,D,G,((H,I),J),_),K,_),_) =>
    (bif K != 0 then
     some (((e.length:Int)==(z.length:Int),()),())
    else
     (bif (e.length:Int) != (z.length:Int) then
      some (((e.length:Int)==(z.length:Int),()),())
     else
      mk (z.length:Int) (z.length:Int) 8 <|
      mk (z.length:Int) (z.length:Int) 1 <|
      ZU k k M w y z A B C D G H I J (List.replicate (z.length:Int).toNat (0:Int)) (List.replicate (z.length:Int).toNat (false:Bool)) b c e f h i l m o p s t u 0)))))
def F8:Fn:=⟨[al7,.val ⟨false,(.int .u8),false⟩],[rB],fun k x=>S8 k x.1 x.2.1⟩
theorem ok8:O 8 F8:=okF (ah ok9 <| ah ok10 <| ah ok12 <| ah ok20 <| ah ok23 aj) [] (fun k=>(.loop 20 aef (ah5 k) (fun g=>(fun (g20:NV)=>(.loop 24 aee (ah4 k g20) (fun g=>.nil) .nil)) (fun n2 adW anW anX anY anZ an0 an1 an2 an3 an4 an5 an6 an7 an8 an9 aoa aob aoc aod aoe aof aog aoh aoi aoj aok t=>g ((),n2,(adW,anW,anX,anY,anZ,an0,an1,an2,an3,an4,an5,an6,an7,()),(an8,an9,aoa,aob,aoc,aod,aoe,aof,aog,aoh,aoi,aoj,aok,()),t,()))) (.loop 13 aeg (ah6 k) (fun g=>.nil) .nil))) Tryz.func8 rfl
end
end Go.Proofs.YtmmagcjlfcicfaaGreat.Ab
