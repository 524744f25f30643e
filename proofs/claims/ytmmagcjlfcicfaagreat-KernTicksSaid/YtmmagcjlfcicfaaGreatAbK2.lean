import Derived.Test.YtmmagcjlfcicfaaGreatAbK1
/- Contracts, printed by this session's own program gen.py. -/
set_option linter.unusedVariables false
set_option linter.unusedSimpArgs false
set_option maxRecDepth 100000
namespace Go.Proofs.YtmmagcjlfcicfaaGreat.Ab
open Go.RowKit
abbrev Yf:Type:=Int×Int×(List (Int×Int×Int×(List (Int×Int×Int×Int))×(List (Int×Int×Int×Int))×List (Int×Int×Int×Int)))×(List (PN Int 5))×Bool×Bool×Bool×(List (Int×Int×Int×Int×(Int×(PN Int 8)×(List (Int×Int×Int))×Bool)×(Int×(PN Int 8)×(List (Int×Int×Int))×Bool)×(List Int)×Bool))×(((List Int)×List Bool)×List (Int×(Int×Int)×(Int×Int)×((List Int)×List Int)×(Int×List (Int×Int))×Int))×(List Int)×List Bool
abbrev acT:Ty:=.pair (.int .i64) (.pair (.int .i64) (.pair (.int .i64) (.pair (.int .i64) (.pair (.pair (.int .i64) (.pair (Am 8 (.int .i64)) (.pair (.sl 233 (.pair (.int .i64) (.pair (.int .i64) (.int .i64)))) .bool))) (.pair (.pair (.int .i64) (.pair (Am 8 (.int .i64)) (.pair (.sl 233 (.pair (.int .i64) (.pair (.int .i64) (.int .i64)))) .bool))) (.pair (.sl 3 (.int .i64)) .bool))))))
abbrev lu:Type:=Int×Int×Int×Int×(Int×(PN Int 8)×(List (Int×Int×Int))×Bool)×(Int×(PN Int 8)×(List (Int×Int×Int))×Bool)×(List Int)×Bool
abbrev acU:Ty:=.pair (.int .i64) (.pair (.int .i64) (.pair (.int .i64) (.pair (.sl 87 (.pair (.int .i64) (.pair (.int .i64) (.pair (.int .i64) (.int .i64))))) (.pair (.sl 87 (.pair (.int .i64) (.pair (.int .i64) (.pair (.int .i64) (.int .i64))))) (.sl 87 (.pair (.int .i64) (.pair (.int .i64) (.pair (.int .i64) (.int .i64)))))))))
abbrev j4:Type:=Int×(Int×Int)×(Int×Int)×((List Int)×List Int)×(Int×List (Int×Int))×Int
abbrev mq:Type:=Int×Int×Int×(List (Int×Int×Int×Int))×(List (Int×Int×Int×Int))×List (Int×Int×Int×Int)
abbrev MX:Ty:=.pair (.int .i64) (.pair (.pair (.int .i64) (.int .i64)) (.pair (.pair (.int .i64) (.int .i64)) (.pair (.pair (.sl 2 (.int .i64)) (.sl 3 (.int .i64))) (.pair (.pair (.int .u32) (.sl 297 (.pair (.int .i64) (.int .u32)))) (.int .u32)))))
abbrev aoW:Ty:=.pair (.int .i64) (.pair (.int .i64) (.pair (.sl 77 acU) (.pair (.sl 96 (Am 5 (.int .i64))) (.pair .bool (.pair .bool (.pair .bool (.pair (.sl 94 acT) (.pair (.pair (.pair (.sl 3 (.int .i64)) (.sl 4 .bool)) (.sl 122 MX)) (.pair (.sl 3 (.int .i64)) (.sl 4 .bool))))))))))
abbrev MZ:Type:=Int×Int×(List mq)×(List (PN Int 5))×Bool×Bool×Bool×(List lu)×(List Int)×(List Bool)×(List j4)×(List Int)×(List Bool)×Unit
abbrev N7:Type:=Int -> Int -> (List mq) -> (List (PN Int 5)) -> Bool -> Bool -> Bool -> (List lu) -> (List Int) -> (List Bool) -> (List j4) -> (List Int) -> (List Bool) -> Int -> Int -> Bool -> Bool -> Bool -> (List (PN Int 6)) -> (List Int) -> (List Int) -> (List (List Int)) -> Int -> Option ((Yf×(List (PN Int 6))×Unit)×Unit)
abbrev KJ:Ty:=.pair (.int .i64) (.pair (.int .i64) (.int .i64))
abbrev EH:Type:=Int×Int×Int×Int×(Int×(PN Int 8)×(List (Int×Int×Int))×Bool)×(Int×(PN Int 8)×(List (Int×Int×Int))×Bool)×(List Int)×Bool
abbrev Q6:Type:=Int -> Int -> (List mq) -> (List (PN Int 5)) -> Bool -> Bool -> Bool -> (List lu) -> (List Int) -> (List Bool) -> (List j4) -> (List Int) -> (List Bool) -> Int -> Int -> Bool -> Bool -> Bool -> (List (PN Int 6)) -> (List Int) -> (List Int) -> (List (List Int)) -> Int -> Int -> Option ((Yf×(List (PN Int 6))×Unit)×Unit)
abbrev iy:Type:=(Bool×Unit)×Unit
abbrev KL:Type:=Int×Int×Unit×Unit×Bool×Bool×Bool×Unit×Unit×Unit×Unit×Unit×Unit×Unit
abbrev qg:Type:=Int×Int×Int×Int
abbrev o9:Type:=(Yf×(List (PN Int 6))×Unit)×Unit
abbrev afT:Type:=Int×Int×Int×Int×Int×Int×Int×Int×Int×Int×Int×Int×Int×(List (Int×Int×Int))×Bool×Int×Int×Int×Int×Int×Int×Int×Int×Int×(List (Int×Int×Int))×Bool×(List Int)×Bool×Unit
abbrev jf:Ty:=.sl 3 (.int .i64)
abbrev KM:Type:=Int×Int×(List mq)×(List (PN Int 5))×Bool×Bool×Bool×(List lu)×(((List Int)×List Bool)×List j4)×(List Int)×List Bool
abbrev afU:Type:=Int -> Int -> (List mq) -> (List (PN Int 5)) -> Bool -> Bool -> Bool -> (List lu) -> (List Int) -> (List Bool) -> (List j4) -> (List Int) -> (List Bool) -> Int -> Int -> (List mq) -> (List (PN Int 5)) -> Bool -> Bool -> Bool -> (List lu) -> (List Int) -> (List Bool) -> (List j4) -> (List Int) -> (List Bool) -> (List Int) -> Int -> Option iy
abbrev j6:Type:=Int×Int×Int
abbrev Q7:Type:=((((List Int)×List Bool)×List j4)×(List Int)×(List (List Int))×Unit)×Unit
abbrev G5:Ty:=.pair (.int .i64) (.int .i64)
abbrev akT:Type:=Int×Int×Int×Int×Int×Int×Int×Int×Int×Int×Int×Int×Int×Unit×Bool×Int×Int×Int×Int×Int×Int×Int×Int×Int×Unit×Bool×Unit×Bool×Unit
abbrev wu:Ty:=.sl 87 (.pair (.int .i64) KJ)
abbrev qo:Ty:=.sl 96 (Am 5 (.int .i64))
abbrev afV:Type:=Int -> Int -> (List mq) -> (List (PN Int 5)) -> Bool -> Bool -> Bool -> (List lu) -> (List Int) -> (List Bool) -> (List j4) -> (List Int) -> (List Bool) -> Int -> Int -> Bool -> Bool -> Bool -> (List (PN Int 6)) -> Int -> Option o9
abbrev N8:Type:=(Yf×(List (PN Int 6))×(Int×(Int×Int)×Int)×Unit)×Unit
abbrev jw:Ty:=.sl 4 .bool
abbrev afW:Type:=Int×Int×Int×Int×Int×Int×Int×Int×Int×(List j6)×Bool×Unit
abbrev KN:Type:=(List Int)×List Bool
abbrev WG:Type:=(List Int)×(List Bool)×(List j4)×Unit
abbrev WH:Type:=(Int×(PN Int 8)×(List j6)×Bool)×qg×Bool×Unit
abbrev afX:Type:=(List Int)×(List Bool)×Unit
abbrev zm:Type:=(Int×Unit)×Unit
abbrev C9:Type:=List (PN Int 6)
abbrev yx:Type:=List (Int×Int)
abbrev A8:Ty:=Am 6 (.int .i64)
abbrev WI:Type:=Int×Int×Int×(List qg)×(List qg)×List qg
abbrev G6:Type:=(Int×Bool×Unit)×Unit
abbrev aa9:Type:=Int×(Int×mq×(Int×Int)×Int×Int×Int)×Int×Int
abbrev WJ:Type:=Int×Int×Int×Int×Unit
abbrev N9:Ty:=.pair (.int .i64) (.int .u32)
abbrev KO:Ty:=.pair jf jw
abbrev vg:Type:=List (Int×Int)
abbrev akU:Ty:=.pair (.int .i64) (.pair (Am 8 (.int .i64)) (.pair (.sl 233 KJ) .bool))
abbrev tq:Ty:=.sl 122 MX
abbrev afY:Type:=(List Int) -> (List Bool) -> (List j4) -> (List Int) -> (List (List Int)) -> Int -> Option Q7
abbrev abb:Type:=(List Int)×(List Int)×Unit
abbrev akV:Type:=Int×(Int×Int)×(Int×Int)×((List Int)×List Int)×(Int×List (Int×Int))×Int
abbrev qp:Ty:=.sl 94 acT
abbrev WK:Type:=(KN×Bool×Bool×Unit)×Unit
abbrev WL:Type:=(lu×qg×Bool×Unit)×Unit
abbrev WM:Type:=(Yf×Yf×Bool×Unit)×Unit
abbrev WO:Type:=((KN×List j4)×Unit)×Unit
abbrev akW:Ty:=.pair (.int .i64) (.pair (.int .i64) (.pair (.sl 77 acU) (.pair qo (.pair .bool (.pair .bool (.pair .bool (.pair qp (.pair (.pair KO (.sl 124 MX)) KO))))))))
abbrev wz:Ty:=.sl 233 KJ
abbrev afZ:Type:=(List Int) -> (List Bool) -> (List Int) -> (List Bool) -> Int -> Option iy
abbrev tu:Ty:=.sl 77 acU
abbrev af0:Ty:=.pair (.int .i64) (.pair acU (.pair G5 (.pair (.int .i64) N9)))
abbrev aoX:Type:=Int×Int×Int×Int×Int×(List qg)×(List qg)×(List qg)×Int×Int×Int×Int×Int×Int×Int×Unit
abbrev NA:Type:=(lu×Unit)×Unit
abbrev WQ:Type:=List (List Int)
abbrev G7:Type:=List (PN Int 5)
abbrev abd:Ty:=.sl 114 G5
abbrev aro:Type:=Bool×Unit
abbrev akX:Type:=((Unit)×MZ×KL×C9×(List Int)×(List Int)×WQ×Int×Int×Unit) -> Option o9
abbrev af2:Type:=((Unit)×afX×afX×Int×Unit) -> Option iy
abbrev aoY:RT:=.val ⟨true,(.pair (.int .i64) (.pair G5 (.int .i64))),true⟩
abbrev aoZ:PT:=.val ⟨true,(.pair (.int .u32) (.sl 297 N9)),false⟩
abbrev ao0:PT:=.val ⟨true,(.pair (.sl 2 (.int .i64)) jf),false⟩
abbrev ao1:RT:=.val ⟨true,(.pair (.int .i64) KJ),true⟩
abbrev ai2:PT:=.val ⟨true,(.pair KO tq),false⟩
abbrev amL:RT:=.val ⟨true,(.pair KO tq),false⟩
abbrev amM:PT:=.val ⟨false,(.sl 5 (.int .u8)),false⟩
abbrev ao2:PT:=.val ⟨false,(.sl 297 N9),false⟩
abbrev ao3:PT:=.val ⟨false,(.sl 82 A8),false⟩
abbrev acV:RT:=.val ⟨false,(.sl 82 A8),true⟩
abbrev KP:PT:=.val ⟨false,abd,false⟩
abbrev abe:PT:=.val ⟨false,qp,false⟩
abbrev af3:PT:=.val ⟨false,jf,false⟩
abbrev af4:PT:=.val ⟨false,wu,false⟩
abbrev abf:RT:=.val ⟨false,abd,true⟩
abbrev Q8:PT:=.val ⟨true,KO,false⟩
abbrev af5:PT:=.val ⟨true,akU,false⟩
abbrev KQ:PT:=.val ⟨true,aoW,false⟩
abbrev KR:RT:=.val ⟨true,aoW,false⟩
abbrev CB:PT:=.val ⟨true,acT,false⟩
abbrev WR:RT:=.val ⟨true,acT,false⟩
abbrev Q9:PT:=.val ⟨true,acU,false⟩
abbrev af6:PT:=.val ⟨true,MX,false⟩
noncomputable section
abbrev ai3:Cut:=⟨[2,3,4,6],[.box 44 [cI,cI,.cell tu,.cell qo,.cell .bool,.cell .bool,.cell .bool,.cell qp,.cell jf,.cell jw,.cell tq,.cell jf,.cell jw],.box 106 [cI,cI,cI,cI,.cell wu,.cell wu,.cell wu,cI,cI,cI,cI,.cell (.int .u32)],.box 44 [cI,cI,.nil,.nil,.cell .bool,.cell .bool,.cell .bool,.nil,.nil,.nil,.nil,.nil,.nil],.box 110 [cI,cI,cI,cI]],[],158,[]⟩
def EI (k:Nat) (a b:Int) (c:List mq) (e:List (PN Int 5)) (f h i:Bool) (l:List lu) (m:List Int) (n:List Bool) (o:List j4) (p:List Int) (s:List Bool) (t u v w:Int) (y z A:List qg) (B C D G H I J:Int) (K M N:Bool) (O P Q T:Int):Option N8 :=
 (Yc k ((m,n),o) (IntKind.i64.wrap ((IntKind.i64.wrap (t - 2))+1))).bind fun q1 =>
 (bif !q1.1.2.2.1 then
  some (((a,b,c,e,f,h,i,l,((m,n),o),p,s),[],(4,(0,0),0),()),())
 else
  some (((a,b,c,e,f,h,i,l,q1.1.1,p,s),[],(0,q1.1.2.1,0),()),()))
def S75 (k:Nat) (a:KM) (b:Int×mq×(Int×Int)×Int×Int×Int):Option N8 :=
 (bif b.1==1 then
  (bif a.2.2.2.2.1 then
   some ((a,[],(7,(0,0),0),()),())
  else
   (S28 k a.2.2.1 b.2.1 a.2.1).bind fun q0 =>
   (bif q0.1.2.2.1==0 then
    some (((a.1,a.2.1,q0.1.1,q0.1.2.1,a.2.2.2.2),[],(q0.1.2.2.1,(0,0),0),()),())
   else
    some ((a,[],(q0.1.2.2.1,(0,0),0),()),())))
 else
  (bif b.1==2 then
   (bif b.1==2 then
    (bif a.2.2.2.2.1 then
     some ((a,[],(7,(0,0),0),()),())
    else
     EI k a.1 a.2.1 a.2.2.1 a.2.2.2.1 a.2.2.2.2.1 a.2.2.2.2.2.1 a.2.2.2.2.2.2.1 a.2.2.2.2.2.2.2.1 a.2.2.2.2.2.2.2.2.1.1.1 a.2.2.2.2.2.2.2.2.1.1.2 a.2.2.2.2.2.2.2.2.1.2 a.2.2.2.2.2.2.2.2.2.1 a.2.2.2.2.2.2.2.2.2.2 b.1 b.2.1.1 b.2.1.2.1 b.2.1.2.2.1 b.2.1.2.2.2.1 b.2.1.2.2.2.2.1 b.2.1.2.2.2.2.2 b.2.2.1.1 b.2.2.1.2 b.2.2.2.1 b.2.2.2.2.1 b.2.2.2.2.2 0 0 false false false 0 0 0 0)
   else
    EI k a.1 a.2.1 a.2.2.1 a.2.2.2.1 a.2.2.2.2.1 a.2.2.2.2.2.1 a.2.2.2.2.2.2.1 a.2.2.2.2.2.2.2.1 a.2.2.2.2.2.2.2.2.1.1.1 a.2.2.2.2.2.2.2.2.1.1.2 a.2.2.2.2.2.2.2.2.1.2 a.2.2.2.2.2.2.2.2.2.1 a.2.2.2.2.2.2.2.2.2.2 b.1 b.2.1.1 b.2.1.2.1 b.2.1.2.2.1 b.2.1.2.2.2.1 b.2.1.2.2.2.2.1 b.2.1.2.2.2.2.2 b.2.2.1.1 b.2.2.1.2 b.2.2.2.1 b.2.2.2.2.1 b.2.2.2.2.2 0 0 false false false 0 0 0 0)
  else
   (bif b.1==3 then
    (bif b.1==2 then
     (bif a.2.2.2.2.1 then
      some ((a,[],(7,(0,0),0),()),())
     else
      EI k a.1 a.2.1 a.2.2.1 a.2.2.2.1 a.2.2.2.2.1 a.2.2.2.2.2.1 a.2.2.2.2.2.2.1 a.2.2.2.2.2.2.2.1 a.2.2.2.2.2.2.2.2.1.1.1 a.2.2.2.2.2.2.2.2.1.1.2 a.2.2.2.2.2.2.2.2.1.2 a.2.2.2.2.2.2.2.2.2.1 a.2.2.2.2.2.2.2.2.2.2 b.1 b.2.1.1 b.2.1.2.1 b.2.1.2.2.1 b.2.1.2.2.2.1 b.2.1.2.2.2.2.1 b.2.1.2.2.2.2.2 b.2.2.1.1 b.2.2.1.2 b.2.2.2.1 b.2.2.2.2.1 b.2.2.2.2.2 0 0 false false false 0 0 0 0)
    else
     EI k a.1 a.2.1 a.2.2.1 a.2.2.2.1 a.2.2.2.2.1 a.2.2.2.2.2.1 a.2.2.2.2.2.2.1 a.2.2.2.2.2.2.2.1 a.2.2.2.2.2.2.2.2.1.1.1 a.2.2.2.2.2.2.2.2.1.1.2 a.2.2.2.2.2.2.2.2.1.2 a.2.2.2.2.2.2.2.2.2.1 a.2.2.2.2.2.2.2.2.2.2 b.1 b.2.1.1 b.2.1.2.1 b.2.1.2.2.1 b.2.1.2.2.2.1 b.2.1.2.2.2.2.1 b.2.1.2.2.2.2.2 b.2.2.1.1 b.2.2.1.2 b.2.2.2.1 b.2.2.2.2.1 b.2.2.2.2.2 0 0 false false false 0 0 0 0)
   else
    (bif b.1==4 then
     (bif b.1==2 then
      (bif a.2.2.2.2.1 then
       some ((a,[],(7,(0,0),0),()),())
      else
       EI k a.1 a.2.1 a.2.2.1 a.2.2.2.1 a.2.2.2.2.1 a.2.2.2.2.2.1 a.2.2.2.2.2.2.1 a.2.2.2.2.2.2.2.1 a.2.2.2.2.2.2.2.2.1.1.1 a.2.2.2.2.2.2.2.2.1.1.2 a.2.2.2.2.2.2.2.2.1.2 a.2.2.2.2.2.2.2.2.2.1 a.2.2.2.2.2.2.2.2.2.2 b.1 b.2.1.1 b.2.1.2.1 b.2.1.2.2.1 b.2.1.2.2.2.1 b.2.1.2.2.2.2.1 b.2.1.2.2.2.2.2 b.2.2.1.1 b.2.2.1.2 b.2.2.2.1 b.2.2.2.2.1 b.2.2.2.2.2 0 0 false false false 0 0 0 0)
     else
      EI k a.1 a.2.1 a.2.2.1 a.2.2.2.1 a.2.2.2.2.1 a.2.2.2.2.2.1 a.2.2.2.2.2.2.1 a.2.2.2.2.2.2.2.1 a.2.2.2.2.2.2.2.2.1.1.1 a.2.2.2.2.2.2.2.2.1.1.2 a.2.2.2.2.2.2.2.2.1.2 a.2.2.2.2.2.2.2.2.2.1 a.2.2.2.2.2.2.2.2.2.2 b.1 b.2.1.1 b.2.1.2.1 b.2.1.2.2.1 b.2.1.2.2.2.1 b.2.1.2.2.2.2.1 b.2.1.2.2.2.2.2 b.2.2.1.1 b.2.2.1.2 b.2.2.2.1 b.2.2.2.2.1 b.2.2.2.2.2 0 0 false false false 0 0 0 0)
    else
     (bif b.1==5 then
      (S13 k a).bind fun q2 =>
      (bif q2.1.2.1==0 then
       (S16 k (q2.1.1.2.2.1.length:Int)).bind fun q3 =>
       some (((q2.1.1.1,q2.1.1.2.1,q2.1.1.2.2.1,q2.1.1.2.2.2.1,q2.1.1.2.2.2.2.1,q2.1.1.2.2.2.2.2.1,q2.1.1.2.2.2.2.2.2.1,q2.1.1.2.2.2.2.2.2.2.1,q2.1.1.2.2.2.2.2.2.2.2.1,q3.1.1),[],(q2.1.2.1,(0,0),0),()),())
      else
       some ((q2.1.1,[],(q2.1.2.1,(0,0),0),()),()))
     else
      (bif b.1==6 then
       (S21 k a b.2.2.2.1 b.2.2.2.2.1).bind fun q4 =>
       some ((q4.1.1,q4.1.2.1,(q4.1.2.2.1,(0,0),0),()),())
      else
       (bif b.1==11 then
        (aoR k a.2.2.2.2.2.2.2.2.1 b.2.2.1).bind fun q5 =>
        (bif !q5.1.2.2.1 then
         some ((a,[],(3,(0,0),0),()),())
        else
         (amC k a.1 q5.1.2.1 0 15).bind fun q6 =>
         some (((a.1,a.2.1,a.2.2.1,a.2.2.2.1,a.2.2.2.2.1,a.2.2.2.2.2.1,a.2.2.2.2.2.2.1,a.2.2.2.2.2.2.2.1,q5.1.1,a.2.2.2.2.2.2.2.2.2),q6.1.1,(0,(0,0),0),()),()))
       else
        (bif b.1==7 then
         (amF k a b).bind fun q7 =>
         some (q7.1,())
        else
         (bif b.1==8 then
          (amF k a b).bind fun q8 =>
          some (q8.1,())
         else
          (bif b.1==9 then
           (amK k a b).bind fun q9 =>
           some (q9.1,())
          else
           (bif b.1==10 then
            (amK k a b).bind fun Q0 =>
            some (Q0.1,())
           else
            some ((a,[],(1,(0,0),0),()),()))))))))))))
def F75:Fn:=⟨[KQ,.val ⟨true,af0,false⟩],[KR,acV,aoY],fun k x=>S75 k x.1 x.2.1⟩
theorem ok75:O 75 F75:=okF (ah ok13 <| ah ok16 <| ah ok21 <| ah ok28 <| ah ok132 <| ah ok133 <| ah ok134 <| ah ok135 <| ah ok136 aj) [] (fun k=>(.join 14 ai3 (fun (_,(a,b,c,e,f,h,i,l,m,n,o,p,s,_),(t,u,v,w,y,z,A,B,C,D,G,H,_),(I,J,_,_,K,M,N,_),(O,P,Q,T,_),_)=>EI k a b c e f h i l m n o p s t u v w y z A B C D G H I J K M N O P Q T) .nil)) Tryz.func75 rfl
abbrev abg:Cut:=⟨[1,5,6],[cI,.own 114 G5,cI],[],29,[]⟩
def Yg (k:Nat) (g3:Int -> yx -> Int -> Option ((yx×Unit)×Unit)) (a:Int) (b:vg) (c:Int):Option ((yx×Unit)×Unit) :=
 (bif decide (c<(b.length:Int)) then
  ix b c <|
  (bif (rd b c (0,0)).2==(IntKind.i64.wrap (a+1)) then
   ix b c <|
   g3 a (upd b c ((rd b c (0,0)).1,0)) (IntKind.i64.wrap (c+1))
  else
   g3 a b (IntKind.i64.wrap (c+1)))
 else
  some ((b,()),()))
def af7 (k:Nat):Xx (((Unit)×Int×yx×Int×Unit) -> Option ((yx×Unit)×Unit)):=dh (bf (ay (ay (ay bg)))) (Yg k)
def Yh (k a:Nat) (b:Int) (c:vg) (e:Int):Option ((yx×Unit)×Unit):=iter abg (af7 k) a ((),b,c,e,())
theorem af8 (k a b c e):Yh k (a+1) b c e=Yg k (Yh k a) b c e:=Ba _ _ _ _
def af9 (k:Nat) (a:vg) (b:Int):Option ((yx×Unit)×Unit) :=
 ap ([]:List (Int×Int)) a 16 fun r0 =>
 Yh k k b r0 0
def F107:Fn:=⟨[KP,au],[abf],fun k x=>af9 k x.1 x.2.1⟩
theorem ok107:O 107 F107:=okF aj [] (fun k=>(.loop 3 abg (af7 k) (fun g=>.nil) .nil)) Tryz.func107 rfl
abbrev abh:Cut:=⟨[4,7,8],[.box 42 [.nil,.nil],.box 42 [.own 3 (.int .i64),.own 4 .bool],cI],[],75,[]⟩
def U7 (k:Nat) (g9:(List Int) -> (List Bool) -> Int -> Option WK) (x:List Int) (a:List Bool) (b:Int):Option WK :=
 (bif decide (b<(a.length:Int)) then
  ix a b <|
  (bif !(rd a b false) then
   some (((x,a),true,false,()),())
  else
   g9 x a (IntKind.i64.wrap (b+1)))
 else
  some (((x,a),true,true,()),()))
def aga (k:Nat):Xx (((Unit)×(Unit×Unit×Unit)×afX×Int×Unit) -> Option WK):=dh (bf (bq (bf (bf bg)) (bq (ay (ay bg)) (ay bg)))) (U7 k)
def NC (k a:Nat) (x:List Int) (b:List Bool) (c:Int):Option WK:=iter abh (aga k) a ((),((),(),()),(x,b,()),c,())
theorem WS (k a x b c):NC k (a+1) x b c=U7 k (NC k a) x b c:=Ba _ _ _ _
def ai4 (k:Nat) (a:(List Int)×List Bool) (b:Int):Option WK :=
 ap ([]:List Int) a.1 8 fun r0 =>
 ap ([]:List Bool) a.2 1 fun r1 =>
 (bif decide (b<0) then
  some (((r0,r1),false,false,()),())
 else
  (bif decide (b≥(r0.length:Int)) then
   some (((r0,r1),false,false,()),())
  else
   (bif decide (b≥(r1.length:Int)) then
    some (((r0,r1),false,false,()),())
   else
    ix r0 b <|
    ix r0 b <|
    ix (upd r0 b (IntKind.i64.wrap ((rd r0 b 0)+1))) b <|
    (bif (rd (upd r0 b (IntKind.i64.wrap ((rd r0 b 0)+1))) b 0) != 2 then
     some (((upd r0 b (IntKind.i64.wrap ((rd r0 b 0)+1)),r1),false,false,()),())
    else
     ix r1 b <|
     (bif rd r1 b false then
      some (((upd r0 b (IntKind.i64.wrap ((rd r0 b 0)+1)),r1),false,false,()),())
     else
      ix r1 b <|
      NC k k (upd r0 b (IntKind.i64.wrap ((rd r0 b 0)+1))) (upd r1 b true) 0)))))
def F108:Fn:=⟨[Q8,au],[.val ⟨true,KO,true⟩,rB,rB],fun k x=>ai4 k x.1 x.2.1⟩
theorem ok108:O 108 F108:=okF aj [] (fun k=>(.loop 9 abh (aga k) (fun g=>.nil) .nil)) Tryz.func108 rfl
abbrev ai5:Cut:=⟨[1,2,4,5,9],[.box 44 [cI,cI,.cell tu,.cell qo,.cell .bool,.cell .bool,.cell .bool,.cell qp,.cell jf,.cell jw,.cell tq,.own 3 (.int .i64),.own 4 .bool],.box 44 [cI,cI,.nil,.nil,.cell .bool,.cell .bool,.cell .bool,.nil,.nil,.nil,.nil,.nil,.nil],.own 82 A8,cI,.cell .bool],[],96,[]⟩
def U8 (k:Nat) (g3:afV) (a b:Int) (c:List mq) (e:List (PN Int 5)) (f h i:Bool) (l:List lu) (m:List Int) (n:List Bool) (o:List j4) (p:List Int) (s:List Bool) (t u:Int) (v w y:Bool) (z:List (PN Int 6)) (A:Int) (B:Bool):Option o9 :=
 (bif B then
  ap z ([(a,10,0,0,0,0)]:List (PN Int 6)) 48 fun r8 =>
  g3 a b c e f true i l m n o p s t u v w y r8 A
 else
  g3 a b c e f h i l m n o p s t u v w y z A)
abbrev agb:Cut:=⟨[1,2,4,5],[.box 44 [cI,cI,.cell tu,.cell qo,.cell .bool,.cell .bool,.cell .bool,.cell qp,.cell jf,.cell jw,.cell tq,.cell jf,.cell jw],.box 44 [cI,cI,.nil,.nil,.cell .bool,.cell .bool,.cell .bool,.nil,.nil,.nil,.nil,.nil,.nil],.own 82 A8,cI],[],96,[]⟩
def abj (k:Nat) (g3:afV) (i t:Int) (u:List mq) (v:List (PN Int 5)) (w y z:Bool) (A:List lu) (B:List Int) (C:List Bool) (D:List j4) (G:List Int) (H:List Bool) (I J:Int) (K M N:Bool) (O:List (PN Int 6)) (P:Int):Option o9 :=
 (bif decide (P<(A.length:Int)) then
  ix A P <|
  ix u (rd A P (0,0,0,0,(0,Pv (α:=Int) 8 0,[],false),(0,Pv (α:=Int) 8 0,[],false),[],false)).1 <|
  (bif (IntKind.i64.wrap (i - (rd A P (0,0,0,0,(0,Pv (α:=Int) 8 0,[],false),(0,Pv (α:=Int) 8 0,[],false),[],false)).2.1)) != (rd u (rd A P (0,0,0,0,(0,Pv (α:=Int) 8 0,[],false),(0,Pv (α:=Int) 8 0,[],false),[],false)).1 (0,0,0,[],[],[])).2.2.1 then
   g3 i t u v w y z A B C D G H I J K M N O (IntKind.i64.wrap (P+1))
  else
   (S54 k A P).bind fun q0 =>
   (bif (rd A P (0,0,0,0,(0,Pv (α:=Int) 8 0,[],false),(0,Pv (α:=Int) 8 0,[],false),[],false)).2.2.2.1==2 then
    ap O ([(i,13,(rd A P (0,0,0,0,(0,Pv (α:=Int) 8 0,[],false),(0,Pv (α:=Int) 8 0,[],false),[],false)).1,0,0,0)]:List (PN Int 6)) 48 fun r1 =>
    g3 i t u v w y z q0.1.1 B C D G H I J K M N r1 P
   else
    ap O ([(i,5,(rd A P (0,0,0,0,(0,Pv (α:=Int) 8 0,[],false),(0,Pv (α:=Int) 8 0,[],false),[],false)).1,0,0,0)]:List (PN Int 6)) 48 fun r2 =>
    (S42 k (i,t,u,v,w,y,z,q0.1.1,((B,C),D),G,H)).bind fun q3 =>
    (af9 k q3.1.1 (rd A P (0,0,0,0,(0,Pv (α:=Int) 8 0,[],false),(0,Pv (α:=Int) 8 0,[],false),[],false)).1).bind fun q4 =>
    (S43 k (i,t,u,v,w,y,z,q0.1.1,((B,C),D),G,H) q4.1.1).bind fun (((a,b,c,e,f,h,l,m,((n,o),p),s),_),_) =>
    (ai4 k s (rd A P (0,0,0,0,(0,Pv (α:=Int) 8 0,[],false),(0,Pv (α:=Int) 8 0,[],false),[],false)).1).bind fun q6 =>
    (bif q6.1.2.1 then
     ap r2 ([(a,9,(rd A P (0,0,0,0,(0,Pv (α:=Int) 8 0,[],false),(0,Pv (α:=Int) 8 0,[],false),[],false)).1,0,0,0)]:List (PN Int 6)) 48 fun r7 =>
     U8 k g3 a b c e f h l m n o p q6.1.1.1 q6.1.1.2 I J K M N r7 P q6.1.2.2.1
    else
     U8 k g3 a b c e f h l m n o p q6.1.1.1 q6.1.1.2 I J K M N r2 P q6.1.2.2.1)))
 else
  some (((i,t,u,v,w,y,z,A,((B,C),D),G,H),O,()),()))
def akY (k:Nat):Xx (((Unit)×MZ×KL×C9×Int×Unit) -> Option o9):=dh (bf (bq (ay (ay (ay (ay (ay (ay (ay (ay (ay (ay (ay (ay (ay bg))))))))))))) (bq (ay (ay (bf (bf (ay (ay (ay (bf (bf (bf (bf (bf (bf bg))))))))))))) (ay (ay bg))))) (abj k)
def abk (k a:Nat) (b c:Int) (e:List mq) (f:List (PN Int 5)) (h i l:Bool) (m:List lu) (n:List Int) (o:List Bool) (p:List j4) (s:List Int) (t:List Bool) (u v:Int) (w y z:Bool) (A:List (PN Int 6)) (B:Int):Option o9:=iter agb (akY k) a ((),(b,c,e,f,h,i,l,m,n,o,p,s,t,()),(u,v,(),(),w,y,z,(),(),(),(),(),(),()),A,B,())
theorem abl (k a b c e f h i l m n o p s t u v w y z A B):abk k (a+1) b c e f h i l m n o p s t u v w y z A B=abj k (abk k a) b c e f h i l m n o p s t u v w y z A B:=Ba _ _ _ _
def S60 (k:Nat) (a:KM):Option o9 :=
 abk k k a.1 a.2.1 a.2.2.1 a.2.2.2.1 a.2.2.2.2.1 a.2.2.2.2.2.1 a.2.2.2.2.2.2.1 a.2.2.2.2.2.2.2.1 a.2.2.2.2.2.2.2.2.1.1.1 a.2.2.2.2.2.2.2.2.1.1.2 a.2.2.2.2.2.2.2.2.1.2 a.2.2.2.2.2.2.2.2.2.1 a.2.2.2.2.2.2.2.2.2.2 0 0 false false false ([]:List (PN Int 6)) 0
def F60:Fn:=⟨[KQ],[KR,acV],fun k x=>S60 k x.1⟩
theorem ok60:O 60 F60:=okF (ah ok42 <| ah ok43 <| ah ok54 <| ah ok107 <| ah ok108 aj) [(4,2)] (fun k=>(.loop 3 agb (akY k) (fun g=>(fun (g3:afV)=>(.join 16 ai5 (fun (_,(a,b,c,e,f,h,i,l,m,n,o,p,s,_),(t,u,_,_,v,w,y,_),z,A,B,_)=>U8 k g3 a b c e f h i l m n o p s t u v w y z A B) .nil)) (fun k_1 k_2 k_3 k_4 k_5 k_6 k_7 k_8 k_9 amN amO amP amQ t2 ad1 amR amS amT ev i=>g ((),(k_1,k_2,k_3,k_4,k_5,k_6,k_7,k_8,k_9,amN,amO,amP,amQ,()),(t2,ad1,(),(),amR,amS,amT,(),(),(),(),(),(),()),ev,i,()))) .nil)) Tryz.func60 rfl
def S61 (k:Nat) (a:List lu) (b:Int) (c:EH):Option (((List lu)×Unit)×Unit) :=
 ap ([]:List lu) a 272 fun r0 =>
 ix r0 b <|
 some ((upd r0 b c,()),())
def F61:Fn:=⟨[abe,au,CB],[.val ⟨false,qp,true⟩],fun k (a,b,c,_)=>S61 k a b c⟩
theorem ok61:O 61 F61:=okF aj [] On Tryz.func61 rfl
abbrev agc:Cut:=⟨[1,2,5,6,7,9],[.box 41 [.cell jf,.cell jw,.cell tq],.box 41 [.nil,.nil,.nil],.own 3 (.int .i64),.own 27 jf,cI,.box 122 [cI,cI,cI,cI,cI,.own 2 (.int .i64),.own 3 (.int .i64),.cell (.int .u32),.own 297 N9,.cell (.int .u32)]],[],64,[]⟩
def U9 (k:Nat) (g4:afY) (a:List Int) (b:List Bool) (c:List j4) (e:List Int) (f:List (List Int)) (h i l m n o:Int) (p s:List Int) (t:Int) (u:vg) (v:Int):Option Q7 :=
 (Ya k (i,(l,m),(n,o),(p,s),(t,u),v)).bind fun q5 =>
 (Yb k ((a,b),c) h (i,(l,m),(n,o),(p,s),(t,u),q5.1.1)).bind fun q6 =>
 g4 q6.1.1.1.1 q6.1.1.1.2 q6.1.1.2 e f (IntKind.i64.wrap (h+1))
abbrev abm:Cut:=⟨[1,2,5,6,7],[.box 41 [.cell jf,.cell jw,.cell tq],.box 41 [.nil,.nil,.nil],.own 3 (.int .i64),.own 27 jf,cI],[],64,[]⟩
def amU (k:Nat) (g4:afY) (a:List Int) (b:List Bool) (c:List j4) (e:List Int) (f:List (List Int)) (h:Int):Option Q7 :=
 (bif decide (h<(c.length:Int)) then
  ix c h <|
  (bif (rd c h (0,(0,0),(0,0),([],[]),(0,[]),0)).1==0 then
   g4 a b c e f (IntKind.i64.wrap (h+1))
  else
   (Ya k (rd c h (0,(0,0),(0,0),([],[]),(0,[]),0))).bind fun q0 =>
   (bif (rd c h (0,(0,0),(0,0),([],[]),(0,[]),0)).2.2.2.2.2==q0.1.1 then
    g4 a b c e f (IntKind.i64.wrap (h+1))
   else
    ap e ([h]:List Int) 8 fun r1 =>
    (amy k (rd c h (0,(0,0),(0,0),([],[]),(0,[]),0))).bind fun q2 =>
    ap f ([q2.1.1]:List (List Int)) 24 fun r3 =>
    (amr k (rd c h (0,(0,0),(0,0),([],[]),(0,[]),0)).1 (rd c h (0,(0,0),(0,0),([],[]),(0,[]),0)).2.1).bind fun q4 =>
    (bif (rd c h (0,(0,0),(0,0),([],[]),(0,[]),0)).1==1 then
     U9 k g4 a b c r1 r3 h q4.1.1.1 q4.1.1.2.1.1 q4.1.1.2.1.2 (rd c h (0,(0,0),(0,0),([],[]),(0,[]),0)).2.2.1.1 q4.1.1.2.2.1.2 q4.1.1.2.2.2.1.1 q4.1.1.2.2.2.1.2 q4.1.1.2.2.2.2.1.1 q4.1.1.2.2.2.2.1.2 q4.1.1.2.2.2.2.2
    else
     U9 k g4 a b c r1 r3 h q4.1.1.1 q4.1.1.2.1.1 q4.1.1.2.1.2 q4.1.1.2.2.1.1 q4.1.1.2.2.1.2 q4.1.1.2.2.2.1.1 q4.1.1.2.2.2.1.2 q4.1.1.2.2.2.2.1.1 q4.1.1.2.2.2.2.1.2 q4.1.1.2.2.2.2.2)))
 else
  some ((((a,b),c),e,f,()),()))
def agd (k:Nat):Xx (((Unit)×WG×(Unit×Unit×Unit×Unit)×(List Int)×WQ×Int×Unit) -> Option Q7):=dh (bf (bq (ay (ay (ay bg))) (bq (bf (bf (bf bg))) (ay (ay (ay bg)))))) (amU k)
def amV (k a:Nat) (b:List Int) (c:List Bool) (e:List j4) (f:List Int) (h:List (List Int)) (i:Int):Option Q7:=iter abm (agd k) a ((),(b,c,e,()),((),(),(),()),f,h,i,())
def amW (k:Nat) (a:KN×List j4):Option Q7 :=
 amV k k a.1.1 a.1.2 a.2 ([]:List Int) ([]:List (List Int)) 0
def F109:Fn:=⟨[ai2],[amL,.val ⟨false,jf,true⟩,.val ⟨false,(.sl 27 jf),true⟩],fun k x=>amW k x.1⟩
theorem ok109:O 109 F109:=okF (ah ok137 <| ah ok148 <| ah ok166 <| ah ok167 aj) [(5,2),(6,2)] (fun k=>(.loop 4 abm (agd k) (fun g=>(fun (g4:afY)=>(.join 12 agc (fun (_,(a,b,c,_),_,e,f,h,(i,l,m,n,o,p,s,t,u,v,_),_)=>U9 k g4 a b c e f h i l m n o p s t u v) .nil)) (fun t1 t2 t3 places who i=>g ((),(t1,t2,t3,()),((),(),(),()),places,who,i,()))) .nil)) Tryz.func109 rfl
abbrev abn:Cut:=⟨[1,2,4,5,6],[cI,.box 94 [cI,cI,cI,cI,cI,cI,cI,cI,cI,cI,cI,cI,cI,.cell wz,.cell .bool,cI,cI,cI,cI,cI,cI,cI,cI,cI,.cell wz,.cell .bool,.cell jf,.cell .bool],.box 94 [cI,cI,cI,cI,cI,cI,cI,cI,cI,cI,cI,cI,cI,.nil,.cell .bool,cI,cI,cI,cI,cI,cI,cI,cI,cI,.nil,.cell .bool,.nil,.cell .bool],.box 94 [cI,cI,cI,cI,cI,cI,cI,cI,cI,cI,cI,cI,cI,.cell wz,.cell .bool,cI,cI,cI,cI,cI,cI,cI,cI,cI,.cell wz,.cell .bool,.own 3 (.int .i64),.cell .bool],cI],[],34,[]⟩
def amX (k:Nat) (g4:Int -> Int -> Int -> Int -> Int -> Int -> Int -> Int -> Int -> Int -> Int -> Int -> Int -> Int -> (List j6) -> Bool -> Int -> Int -> Int -> Int -> Int -> Int -> Int -> Int -> Int -> (List j6) -> Bool -> (List Int) -> Bool -> Int -> Int -> Int -> Int -> Int -> Int -> Int -> Int -> Int -> Int -> Int -> Int -> Int -> Bool -> Int -> Int -> Int -> Int -> Int -> Int -> Int -> Int -> Int -> Bool -> Bool -> Int -> Int -> Int -> Int -> Int -> Int -> Int -> Int -> Int -> Int -> Int -> Int -> Int -> (List j6) -> Bool -> Int -> Int -> Int -> Int -> Int -> Int -> Int -> Int -> Int -> (List j6) -> Bool -> (List Int) -> Bool -> Int -> Option NA) (a b c e f h i l m n o p s t:Int) (u:List j6) (v:Bool) (w y z A B C D G H:Int) (I:List j6) (J:Bool) (K:List Int) (M:Bool) (N O P Q T U V W X Z a1 b1 c1:Int) (e1:Bool) (f1 h1 i1 l1 m1 n1 o1 p1 s1:Int) (t1 u1:Bool) (x v1 w1 y1 z1 a2 b2 c2 e2 f2 h2 i2 l2:Int) (m2:List j6) (n2:Bool) (o2 p2 s2 t2 u2 v2 w2 y2 z2:Int) (a3:List j6) (b3:Bool) (c3:List Int) (e3:Bool) (f3:Int):Option NA :=
 (bif decide (f3<(K.length:Int)) then
  ix K f3 <|
  (bif (rd K f3 0) != a then
   ix K f3 <|
   ap c3 ([rd K f3 0]:List Int) 8 fun r0 =>
   g4 a b c e f h i l m n o p s t u v w y z A B C D G H I J K M N O P Q T U V W X Z a1 b1 c1 e1 f1 h1 i1 l1 m1 n1 o1 p1 s1 t1 u1 x v1 w1 y1 z1 a2 b2 c2 e2 f2 h2 i2 l2 m2 n2 o2 p2 s2 t2 u2 v2 w2 y2 z2 a3 b3 r0 e3 (IntKind.i64.wrap (f3+1))
  else
   g4 a b c e f h i l m n o p s t u v w y z A B C D G H I J K M N O P Q T U V W X Z a1 b1 c1 e1 f1 h1 i1 l1 m1 n1 o1 p1 s1 t1 u1 x v1 w1 y1 z1 a2 b2 c2 e2 f2 h2 i2 l2 m2 n2 o2 p2 s2 t2 u2 v2 w2 y2 z2 a3 b3 c3 e3 (IntKind.i64.wrap (f3+1)))
 else
  some (((x,v1,w1,y1,(z1,(a2,b2,c2,e2,f2,h2,i2,l2),m2,n2),(o2,(p2,s2,t2,u2,v2,w2,y2,z2),a3,b3),c3,e3),()),()))
def agf (k:Nat):Xx (((Unit)×Int×afT×akT×afT×Int×Unit) -> Option NA):=dh (bf (ay (bq (ay (ay (ay (ay (ay (ay (ay (ay (ay (ay (ay (ay (ay (ay (ay (ay (ay (ay (ay (ay (ay (ay (ay (ay (ay (ay (ay (ay bg)))))))))))))))))))))))))))) (bq (ay (ay (ay (ay (ay (ay (ay (ay (ay (ay (ay (ay (ay (bf (ay (ay (ay (ay (ay (ay (ay (ay (ay (ay (bf (ay (bf (ay bg)))))))))))))))))))))))))))) (bq (ay (ay (ay (ay (ay (ay (ay (ay (ay (ay (ay (ay (ay (ay (ay (ay (ay (ay (ay (ay (ay (ay (ay (ay (ay (ay (ay (ay bg)))))))))))))))))))))))))))) (ay bg)))))) (amX k)
def amY (k a:Nat) (b c e f h i l m n o p s t u:Int) (v:List j6) (w:Bool) (y z A B C D G H I:Int) (J:List j6) (K:Bool) (M:List Int) (N:Bool) (O P Q T U V W X Z a1 b1 c1 e1:Int) (f1:Bool) (h1 i1 l1 m1 n1 o1 p1 s1 t1:Int) (u1 v1:Bool) (x w1 y1 z1 a2 b2 c2 e2 f2 h2 i2 l2 m2:Int) (n2:List j6) (o2:Bool) (p2 s2 t2 u2 v2 w2 y2 z2 a3:Int) (b3:List j6) (c3:Bool) (e3:List Int) (f3:Bool) (h3:Int):Option NA:=iter abn (agf k) a ((),b,(c,e,f,h,i,l,m,n,o,p,s,t,u,v,w,y,z,A,B,C,D,G,H,I,J,K,M,N,()),(O,P,Q,T,U,V,W,X,Z,a1,b1,c1,e1,(),f1,h1,i1,l1,m1,n1,o1,p1,s1,t1,(),u1,(),v1,()),(x,w1,y1,z1,a2,b2,c2,e2,f2,h2,i2,l2,m2,n2,o2,p2,s2,t2,u2,v2,w2,y2,z2,a3,b3,c3,e3,f3,()),h3,())
def ao4 (k:Nat) (a:EH) (b:Int):Option NA :=
 amY k k b a.1 a.2.1 a.2.2.1 a.2.2.2.1 a.2.2.2.2.1.1 a.2.2.2.2.1.2.1.1 a.2.2.2.2.1.2.1.2.1 a.2.2.2.2.1.2.1.2.2.1 a.2.2.2.2.1.2.1.2.2.2.1 a.2.2.2.2.1.2.1.2.2.2.2.1 a.2.2.2.2.1.2.1.2.2.2.2.2.1 a.2.2.2.2.1.2.1.2.2.2.2.2.2.1 a.2.2.2.2.1.2.1.2.2.2.2.2.2.2 a.2.2.2.2.1.2.2.1 a.2.2.2.2.1.2.2.2 a.2.2.2.2.2.1.1 a.2.2.2.2.2.1.2.1.1 a.2.2.2.2.2.1.2.1.2.1 a.2.2.2.2.2.1.2.1.2.2.1 a.2.2.2.2.2.1.2.1.2.2.2.1 a.2.2.2.2.2.1.2.1.2.2.2.2.1 a.2.2.2.2.2.1.2.1.2.2.2.2.2.1 a.2.2.2.2.2.1.2.1.2.2.2.2.2.2.1 a.2.2.2.2.2.1.2.1.2.2.2.2.2.2.2 a.2.2.2.2.2.1.2.2.1 a.2.2.2.2.2.1.2.2.2 a.2.2.2.2.2.2.1 a.2.2.2.2.2.2.2 0 0 0 0 0 0 0 0 0 0 0 0 0 false 0 0 0 0 0 0 0 0 0 false false a.1 a.2.1 a.2.2.1 a.2.2.2.1 a.2.2.2.2.1.1 a.2.2.2.2.1.2.1.1 a.2.2.2.2.1.2.1.2.1 a.2.2.2.2.1.2.1.2.2.1 a.2.2.2.2.1.2.1.2.2.2.1 a.2.2.2.2.1.2.1.2.2.2.2.1 a.2.2.2.2.1.2.1.2.2.2.2.2.1 a.2.2.2.2.1.2.1.2.2.2.2.2.2.1 a.2.2.2.2.1.2.1.2.2.2.2.2.2.2 a.2.2.2.2.1.2.2.1 a.2.2.2.2.1.2.2.2 a.2.2.2.2.2.1.1 a.2.2.2.2.2.1.2.1.1 a.2.2.2.2.2.1.2.1.2.1 a.2.2.2.2.2.1.2.1.2.2.1 a.2.2.2.2.2.1.2.1.2.2.2.1 a.2.2.2.2.2.1.2.1.2.2.2.2.1 a.2.2.2.2.2.1.2.1.2.2.2.2.2.1 a.2.2.2.2.2.1.2.1.2.2.2.2.2.2.1 a.2.2.2.2.2.1.2.1.2.2.2.2.2.2.2 a.2.2.2.2.2.1.2.2.1 a.2.2.2.2.2.1.2.2.2 ([]:List Int) a.2.2.2.2.2.2.2 0
def F110:Fn:=⟨[CB,au],[WR],fun k x=>ao4 k x.1 x.2.1⟩
theorem ok110:O 110 F110:=okF aj [(8,2)] (fun k=>(.loop 4 abn (agf k) (fun g=>.nil) .nil)) Tryz.func110 rfl
abbrev abo:Cut:=⟨[1,2,4,5,7,8,9,11,12],[.box 44 [cI,cI,.cell tu,.cell qo,.cell .bool,.cell .bool,.cell .bool,.cell qp,.cell jf,.cell jw,.cell tq,.cell jf,.cell jw],.box 44 [cI,cI,.nil,.nil,.cell .bool,.cell .bool,.cell .bool,.nil,.nil,.nil,.nil,.nil,.nil],.own 82 A8,.own 3 (.int .i64),.own 3 (.int .i64),.own 27 jf,cI,cI,cI],[],101,[]⟩
def amZ (k:Nat) (g6:N7) (g14:Q6) (g17:Int -> Int -> (List mq) -> G7 -> Bool -> Bool -> Bool -> (List lu) -> (List Int) -> (List Bool) -> (List j4) -> (List Int) -> (List Bool) -> Int -> Int -> Bool -> Bool -> Bool -> C9 -> (List Int) -> (List Int) -> WQ -> Int -> Int -> Int -> Option o9) (a b:Int) (c:List mq) (e:List (PN Int 5)) (f h i:Bool) (l:List lu) (m:List Int) (n:List Bool) (o:List j4) (p:List Int) (s:List Bool) (t u:Int) (v w y:Bool) (z:List (PN Int 6)) (A B:List Int) (C:List (List Int)) (D G H:Int):Option o9 :=
 (bif decide (H<(l.length:Int)) then
  ix A G <|
  ix B D <|
  (bif (rd A G 0)==(rd B D 0) then
   ix l H <|
   (ao4 k (rd l H (0,0,0,0,(0,Pv (α:=Int) 8 0,[],false),(0,Pv (α:=Int) 8 0,[],false),[],false)) G).bind fun q4 =>
   (S61 k l H q4.1.1).bind fun q5 =>
   g17 a b c e f h i q5.1.1 m n o p s t u v w y z A B C D G (IntKind.i64.wrap (H+1))
  else
   g14 a b c e f h i l m n o p s t u v w y z A B C D (IntKind.i64.wrap (G+1)))
 else
  g14 a b c e f h i l m n o p s t u v w y z A B C D (IntKind.i64.wrap (G+1)))
def agh (k:Nat) (g6:N7) (g14:Q6):Xx (((Unit)×MZ×KL×C9×(List Int)×(List Int)×WQ×Int×Int×Int×Unit) -> Option o9):=dh (bf (bq (ay (ay (ay (ay (ay (ay (ay (ay (ay (ay (ay (ay (ay bg))))))))))))) (bq (ay (ay (bf (bf (ay (ay (ay (bf (bf (bf (bf (bf (bf bg))))))))))))) (ay (ay (ay (ay (ay (ay (ay bg)))))))))) (amZ k g6 g14)
def am0 (k:Nat) (g6:N7) (g14:Q6) (a:Nat) (b c:Int) (e:List mq) (f:List (PN Int 5)) (h i l:Bool) (m:List lu) (n:List Int) (o:List Bool) (p:List j4) (s:List Int) (t:List Bool) (u v:Int) (w y z:Bool) (A:List (PN Int 6)) (B C:List Int) (D:List (List Int)) (G H I:Int):Option o9:=iter abo (agh k g6 g14) a ((),(b,c,e,f,h,i,l,m,n,o,p,s,t,()),(u,v,(),(),w,y,z,(),(),(),(),(),(),()),A,B,C,D,G,H,I,())
abbrev abp:Cut:=⟨[1,2,4,5,7,8,9,11],[.box 44 [cI,cI,.cell tu,.cell qo,.cell .bool,.cell .bool,.cell .bool,.cell qp,.cell jf,.cell jw,.cell tq,.cell jf,.cell jw],.box 44 [cI,cI,.nil,.nil,.cell .bool,.cell .bool,.cell .bool,.nil,.nil,.nil,.nil,.nil,.nil],.own 82 A8,.own 3 (.int .i64),.own 3 (.int .i64),.own 27 jf,cI,cI],[],101,[]⟩
def am1 (k:Nat) (g6:N7) (g14:Q6) (a b:Int) (c:List mq) (e:List (PN Int 5)) (f h i:Bool) (l:List lu) (m:List Int) (n:List Bool) (o:List j4) (p:List Int) (s:List Bool) (t u:Int) (v w y:Bool) (z:List (PN Int 6)) (A B:List Int) (C:List (List Int)) (D G:Int):Option o9 :=
 (bif decide (G<(A.length:Int)) then
  am0 k g6 g14 k a b c e f h i l m n o p s t u v w y z A B C D G 0
 else
  g6 a b c e f h i l m n o p s t u v w y z A B C (IntKind.i64.wrap (D+1)))
def agi (k:Nat) (g6:N7):Xx (akX):=dh (bf (bq (ay (ay (ay (ay (ay (ay (ay (ay (ay (ay (ay (ay (ay bg))))))))))))) (bq (ay (ay (bf (bf (ay (ay (ay (bf (bf (bf (bf (bf (bf bg))))))))))))) (ay (ay (ay (ay (ay (ay bg))))))))) (am1 k g6)
def am2 (k:Nat) (g6:N7) (a:Nat) (b c:Int) (e:List mq) (f:List (PN Int 5)) (h i l:Bool) (m:List lu) (n:List Int) (o:List Bool) (p:List j4) (s:List Int) (t:List Bool) (u v:Int) (w y z:Bool) (A:List (PN Int 6)) (B C:List Int) (D:List (List Int)) (G H:Int):Option o9:=iter abp (agi k g6) a ((),(b,c,e,f,h,i,l,m,n,o,p,s,t,()),(u,v,(),(),w,y,z,(),(),(),(),(),(),()),A,B,C,D,G,H,())
abbrev abq:Cut:=⟨[1,2,4,5,7,8,9,10],[.box 44 [cI,cI,.cell tu,.cell qo,.cell .bool,.cell .bool,.cell .bool,.cell qp,.cell jf,.cell jw,.cell tq,.cell jf,.cell jw],.box 44 [cI,cI,.nil,.nil,.cell .bool,.cell .bool,.cell .bool,.nil,.nil,.nil,.nil,.nil,.nil],.own 82 A8,.own 3 (.int .i64),.own 3 (.int .i64),.own 27 jf,cI,cI],[],101,[]⟩
def am3 (k:Nat) (g6:N7) (g10:Q6) (a b:Int) (c:List mq) (e:List (PN Int 5)) (f h i:Bool) (l:List lu) (m:List Int) (n:List Bool) (o:List j4) (p:List Int) (s:List Bool) (t u:Int) (v w y:Bool) (z:List (PN Int 6)) (A B:List Int) (C:List (List Int)) (D G:Int):Option o9 :=
 ix C D <|
 (bif decide (G<((rd C D []).length:Int)) then
  ix C D <|
  ix (rd C D []) G <|
  ap z ([(a,12,0,rd (rd C D []) G 0,0,15)]:List (PN Int 6)) 48 fun r3 =>
  g10 a b c e f h i l m n o p s t u v w y r3 A B C D (IntKind.i64.wrap (G+1))
 else
  am2 k g6 k a b c e f h i l m n o p s t u v w y z A B C D 0)
def agj (k:Nat) (g6:N7):Xx (akX):=dh (bf (bq (ay (ay (ay (ay (ay (ay (ay (ay (ay (ay (ay (ay (ay bg))))))))))))) (bq (ay (ay (bf (bf (ay (ay (ay (bf (bf (bf (bf (bf (bf bg))))))))))))) (ay (ay (ay (ay (ay (ay bg))))))))) (am3 k g6)
def am4 (k:Nat) (g6:N7) (a:Nat) (b c:Int) (e:List mq) (f:List (PN Int 5)) (h i l:Bool) (m:List lu) (n:List Int) (o:List Bool) (p:List j4) (s:List Int) (t:List Bool) (u v:Int) (w y z:Bool) (A:List (PN Int 6)) (B C:List Int) (D:List (List Int)) (G H:Int):Option o9:=iter abq (agj k g6) a ((),(b,c,e,f,h,i,l,m,n,o,p,s,t,()),(u,v,(),(),w,y,z,(),(),(),(),(),(),()),A,B,C,D,G,H,())
abbrev agk:Cut:=⟨[1,2,4,5,7,8,9],[.box 44 [cI,cI,.cell tu,.cell qo,.cell .bool,.cell .bool,.cell .bool,.cell qp,.cell jf,.cell jw,.cell tq,.cell jf,.cell jw],.box 44 [cI,cI,.nil,.nil,.cell .bool,.cell .bool,.cell .bool,.nil,.nil,.nil,.nil,.nil,.nil],.own 82 A8,.own 3 (.int .i64),.own 3 (.int .i64),.own 27 jf,cI],[],101,[]⟩
def agl (k:Nat) (g6:N7) (a b:Int) (c:List mq) (e:List (PN Int 5)) (f h i:Bool) (l:List lu) (m:List Int) (n:List Bool) (o:List j4) (p:List Int) (s:List Bool) (t u:Int) (v w y:Bool) (z:List (PN Int 6)) (A B:List Int) (C:List (List Int)) (D:Int):Option o9 :=
 (bif decide (D<(B.length:Int)) then
  ix B D <|
  ap z ([(a,11,0,rd B D 0,0,0)]:List (PN Int 6)) 48 fun r2 =>
  am4 k g6 k a b c e f h i l m n o p s t u v w y r2 A B C D 0
 else
  some (((a,b,c,e,f,h,i,l,((m,n),o),p,s),z,()),()))
def akZ (k:Nat):Xx (((Unit)×MZ×KL×C9×(List Int)×(List Int)×WQ×Int×Unit) -> Option o9):=dh (bf (bq (ay (ay (ay (ay (ay (ay (ay (ay (ay (ay (ay (ay (ay bg))))))))))))) (bq (ay (ay (bf (bf (ay (ay (ay (bf (bf (bf (bf (bf (bf bg))))))))))))) (ay (ay (ay (ay (ay bg)))))))) (agl k)
def agm (k a:Nat) (b c:Int) (e:List mq) (f:List (PN Int 5)) (h i l:Bool) (m:List lu) (n:List Int) (o:List Bool) (p:List j4) (s:List Int) (t:List Bool) (u v:Int) (w y z:Bool) (A:List (PN Int 6)) (B C:List Int) (D:List (List Int)) (G:Int):Option o9:=iter agk (akZ k) a ((),(b,c,e,f,h,i,l,m,n,o,p,s,t,()),(u,v,(),(),w,y,z,(),(),(),(),(),(),()),A,B,C,D,G,())
theorem ai6 (k a b c e f h i l m n o p s t u v w y z A B C D G):agm k (a+1) b c e f h i l m n o p s t u v w y z A B C D G=agl k (agm k a) b c e f h i l m n o p s t u v w y z A B C D G:=Ba _ _ _ _
def S62 (k:Nat) (a:KM):Option o9 :=
 (S40 k a.2.2.2.2.2.2.2.2.1).bind fun q0 =>
 (amW k a.2.2.2.2.2.2.2.2.1).bind fun q1 =>
 agm k k a.1 a.2.1 a.2.2.1 a.2.2.2.1 a.2.2.2.2.1 a.2.2.2.2.2.1 a.2.2.2.2.2.2.1 a.2.2.2.2.2.2.2.1 q1.1.1.1.1 q1.1.1.1.2 q1.1.1.2 a.2.2.2.2.2.2.2.2.2.1 a.2.2.2.2.2.2.2.2.2.2 0 0 false false false ([]:List (PN Int 6)) q0.1.1 q1.1.2.1 q1.1.2.2.1 0
def F62:Fn:=⟨[KQ],[KR,acV],fun k x=>S62 k x.1⟩
theorem ok62:O 62 F62:=okF (ah ok40 <| ah ok61 <| ah ok109 <| ah ok110 aj) [(4,2)] (fun k=>(.loop 6 agk (akZ k) (fun g=>(fun (g6:N7)=>(.loop 14 abp (agi k g6) (fun g=>(fun (g14:Q6)=>(.loop 17 abo (agh k g6 g14) (fun g=>.nil) .nil)) (fun aqG aqH aqI aqJ aqK aqL aqM aqN aqO aqP aqQ aqR aqS ao6 ao7 ao8 ao9 apa ev2 ai7 ai8 aqT i2 s=>g ((),(aqG,aqH,aqI,aqJ,aqK,aqL,aqM,aqN,aqO,aqP,aqQ,aqR,aqS,()),(ao6,ao7,(),(),ao8,ao9,apa,(),(),(),(),(),(),()),ev2,ai7,ai8,aqT,i2,s,()))) (.loop 10 abq (agj k g6) (fun g=>.nil) .nil))) (fun k_1 k_2 k_3 k_4 k_5 k_6 k_7 k_8 k_9 amN amO amP amQ t2 ad1 amR amS amT ev places turned who i=>g ((),(k_1,k_2,k_3,k_4,k_5,k_6,k_7,k_8,k_9,amN,amO,amP,amQ,()),(t2,ad1,(),(),amR,amS,amT,(),(),(),(),(),(),()),ev,places,turned,who,i,()))) .nil)) Tryz.func62 rfl
abbrev abr:Cut:=⟨[0,1,2,8,9,10],[.cell abd,.cell jf,cI,cI,.cell .bool,cI],[],58,[]⟩
def Yi (k:Nat) (g3:yx -> (List Int) -> Int -> Int -> Bool -> Int -> Option G6) (a:vg) (b:List Int) (c e:Int) (f:Bool) (h:Int):Option G6 :=
 (bif decide (h<(b.length:Int)) then
  ix b h <|
  (bif decide ((rd b h 0)<0) then
   g3 a b c e f (IntKind.i64.wrap (h+1))
  else
   (bif decide ((rd b h 0)≥(a.length:Int)) then
    g3 a b c e f (IntKind.i64.wrap (h+1))
   else
    ix a (rd b h 0) <|
    (bif (rd a (rd b h 0) (0,0)).2 != (IntKind.i64.wrap (c+1)) then
     g3 a b c e f (IntKind.i64.wrap (h+1))
    else
     (bif !f then
      ix a (rd b h 0) <|
      g3 a b c (rd a (rd b h 0) (0,0)).1 true (IntKind.i64.wrap (h+1))
     else
      ix a (rd b h 0) <|
      (bif decide ((rd a (rd b h 0) (0,0)).1<e) then
       ix a (rd b h 0) <|
       g3 a b c (rd a (rd b h 0) (0,0)).1 true (IntKind.i64.wrap (h+1))
      else
       g3 a b c e true (IntKind.i64.wrap (h+1)))))))
 else
  some ((e,f,()),()))
def agn (k:Nat):Xx (((Unit)×yx×(List Int)×Int×Int×Bool×Int×Unit) -> Option G6):=dh (bf (ay (ay (ay (ay (ay (ay bg))))))) (Yi k)
def Yj (k a:Nat) (b:vg) (c:List Int) (e f:Int) (h:Bool) (i:Int):Option G6:=iter abr (agn k) a ((),b,c,e,f,h,i,())
theorem agp (k a b c e f h i):Yj k (a+1) b c e f h i=Yi k (Yj k a) b c e f h i:=Ba _ _ _ _
def acW (k:Nat) (a:vg) (b:List Int) (c:Int):Option G6 :=
 Yj k k a b c 0 false 0
def F217:Fn:=⟨[KP,af3,au],[rI,rB],fun k (a,b,c,_)=>acW k a b c⟩
theorem ok217:O 217 F217:=okF aj [] (fun k=>(.loop 3 abr (agn k) (fun g=>.nil) .nil)) Tryz.func217 rfl
def acX (k:Nat) (a:EH) (b:Int):Option zm :=
 (bif a.2.2.2.1==2 then
  some ((IntKind.i64.wrap ((IntKind.i64.wrap (2 * b))+a.1),()),())
 else
  (bif a.2.2.2.2.2.2.2 then
   some ((a.1,()),())
  else
   some ((IntKind.i64.wrap (b+a.1),()),())))
def F233:Fn:=⟨[CB,au],[rI],fun k x=>acX k x.1 x.2.1⟩
theorem ok233:O 233 F233:=okF aj [] On Tryz.func233 rfl
def agq (k:Nat) (a:EH) (b:Int) (c:vg):Option zm :=
 (acW k c a.2.2.2.2.2.2.1 a.1).bind fun q0 =>
 (bif q0.1.2.1 then
  (acX k a b).bind fun q1 =>
  (bif decide (q0.1.1<q1.1.1) then
   some ((q0.1.1,()),())
  else
   (acX k a b).bind fun q2 =>
   some ((q2.1.1,()),()))
 else
  (acX k a b).bind fun q3 =>
  some ((q3.1.1,()),()))
def F216:Fn:=⟨[CB,au,KP],[rI],fun k (a,b,c,_)=>agq k a b c⟩
theorem ok216:O 216 F216:=okF (ah ok217 <| ah ok233 aj) [] On Tryz.func216 rfl
def ai9 (k:Nat) (a b:EH) (c:Int) (e:vg):Option iy :=
 (agq k a c e).bind fun q0 =>
 (agq k b c e).bind fun q1 =>
 (acW k e a.2.2.2.2.2.2.1 a.1).bind fun q2 =>
 (acW k e b.2.2.2.2.2.2.1 b.1).bind fun q3 =>
 (bif q0.1.1 != q1.1.1 then
  some ((decide (q0.1.1<q1.1.1),()),())
 else
  (bif !(q2.1.2.1==q3.1.2.1) then
   some ((q2.1.2.1,()),())
  else
   some ((decide (a.1<b.1),()),())))
def F168:Fn:=⟨[CB,CB,au,KP],[rB],fun k (a,b,c,e,_)=>ai9 k a b c e⟩
theorem ok168:O 168 F168:=okF (ah ok216 <| ah ok217 aj) [] On Tryz.func168 rfl
abbrev abt:Cut:=⟨[0,1,2,8,9],[.cell qp,cI,.cell abd,cI,cI],[],36,[]⟩
def ND (k:Nat) (g3:(List lu) -> Int -> yx -> Int -> Int -> Option G6) (a:List lu) (b:Int) (c:vg) (e f:Int):Option G6 :=
 (bif decide (f<(a.length:Int)) then
  (bif decide (e<0) then
   g3 a b c f (IntKind.i64.wrap (f+1))
  else
   ix a f <|
   ix a e <|
   (ai9 k (rd a f (0,0,0,0,(0,Pv (α:=Int) 8 0,[],false),(0,Pv (α:=Int) 8 0,[],false),[],false)) (rd a e (0,0,0,0,(0,Pv (α:=Int) 8 0,[],false),(0,Pv (α:=Int) 8 0,[],false),[],false)) b c).bind fun q0 =>
   (bif q0.1.1 then
    g3 a b c f (IntKind.i64.wrap (f+1))
   else
    g3 a b c e (IntKind.i64.wrap (f+1))))
 else
  some ((mx e 0,decide (e≥0),()),()))
def agr (k:Nat):Xx (((Unit)×(List lu)×Int×yx×Int×Int×Unit) -> Option G6):=dh (bf (ay (ay (ay (ay (ay bg)))))) (ND k)
def JH (k a:Nat) (b:List lu) (c:Int) (e:vg) (f h:Int):Option G6:=iter abt (agr k) a ((),b,c,e,f,h,())
theorem NG (k a b c e f h):JH k (a+1) b c e f h=ND k (JH k a) b c e f h:=Ba _ _ _ _
def aja (k:Nat) (a:List lu) (b:Int) (c:vg):Option G6 :=
 JH k k a b c (-1) 0
def F111:Fn:=⟨[abe,au,KP],[rI,rB],fun k (a,b,c,_)=>aja k a b c⟩
theorem ok111:O 111 F111:=okF (ah ok168 aj) [] (fun k=>(.loop 3 abt (agr k) (fun g=>.nil) .nil)) Tryz.func111 rfl
def acY (k:Nat) (a:WI) (b:EH):Option NA :=
 (bif b.2.2.2.1==0 then
  (bif decide ((a.2.2.2.2.1.length:Int)>0) then
   (S71 k b.2.2.1).bind fun q0 =>
   some (((b.1,b.2.1,b.2.2.1,1,q0.1.1,q0.1.1,[],b.2.2.2.2.2.2.2),()),())
  else
   some (((b.1,b.2.1,b.2.2.1,b.2.2.2.1,b.2.2.2.2.2.1,b.2.2.2.2.2.1,[],b.2.2.2.2.2.2.2),()),()))
 else
  some (((b.1,b.2.1,b.2.2.1,b.2.2.2.1,b.2.2.2.2.2.1,b.2.2.2.2.2.1,[],b.2.2.2.2.2.2.2),()),()))
def F169:Fn:=⟨[Q9,CB],[WR],fun k x=>acY k x.1 x.2.1⟩
theorem ok169:O 169 F169:=okF (ah ok71 aj) [] On Tryz.func169 rfl
def ajb (k:Nat) (a:WI) (b:EH) (c:vg):Option ((lu×yx×Int×Unit)×Unit) :=
 (af9 k c b.1).bind fun q0 =>
 (bif b.2.2.2.1==2 then
  some ((b,q0.1.1,13,()),())
 else
  (bif b.2.2.2.1==0 then
   (bif decide ((a.2.2.2.2.1.length:Int)>0) then
    (acY k a b).bind fun q1 =>
    some ((q1.1.1,q0.1.1,7,()),())
   else
    (acY k a b).bind fun q2 =>
    some ((q2.1.1,q0.1.1,6,()),()))
  else
   (acY k a b).bind fun q3 =>
   some ((q3.1.1,q0.1.1,6,()),())))
def F112:Fn:=⟨[Q9,CB,KP],[WR,abf,rI],fun k (a,b,c,_)=>ajb k a b c⟩
theorem ok112:O 112 F112:=okF (ah ok107 <| ah ok169 aj) [] On Tryz.func112 rfl
def ajc (k:Nat) (a:WI) (b:EH):Option (((List qg)×Unit)×Unit) :=
 (bif b.2.2.2.1==0 then
  some ((a.2.2.2.1,()),())
 else
  (bif b.2.2.2.1==1 then
   some ((a.2.2.2.2.1,()),())
  else
   (bif b.2.2.2.1==2 then
    some ((a.2.2.2.2.2,()),())
   else
    some (([],()),()))))
def F170:Fn:=⟨[Q9,CB],[.val ⟨false,wu,false⟩],fun k x=>ajc k x.1 x.2.1⟩
theorem ok170:O 170 F170:=okF aj [] On Tryz.func170 rfl
abbrev abu:Cut:=⟨[0,1],[cI,cI],[],35,[]⟩
def Ug (k:Nat) (g6:Int -> Int -> Option zm) (a b:Int):Option zm :=
 (bif decide (b<0) then
  (bif decide (a<0) then
   (bif (Int.tmod a 2) != 0 then
    g6 (IntKind.i64.wrap ((IntKind.i64.wrap (Int.tdiv a 2)) - 1)) (IntKind.i64.wrap (b+1))
   else
    g6 (IntKind.i64.wrap (Int.tdiv a 2)) (IntKind.i64.wrap (b+1)))
  else
   g6 (IntKind.i64.wrap (Int.tdiv a 2)) (IntKind.i64.wrap (b+1)))
 else
  some ((a,()),()))
def ags (k:Nat):Xx (((Unit)×Int×Int×Unit) -> Option zm):=dh (bf (ay (ay bg))) (Ug k)
def Uh (k a:Nat) (b c:Int):Option zm:=iter abu (ags k) a ((),b,c,())
theorem WT (k a b c):Uh k (a+1) b c=Ug k (Uh k a) b c:=Ba _ _ _ _
abbrev abv:Cut:=⟨[0,1],[cI,cI],[],35,[]⟩
def NH (k:Nat) (g3:Int -> Int -> Option zm) (a b:Int):Option zm :=
 (bif decide (b>0) then
  g3 (IntKind.i64.wrap (a * 2)) (IntKind.i64.wrap (b - 1))
 else
  Uh k k a b)
def agt (k:Nat):Xx (((Unit)×Int×Int×Unit) -> Option zm):=dh (bf (ay (ay bg))) (NH k)
def Ui (k a:Nat) (b c:Int):Option zm:=iter abv (agt k) a ((),b,c,())
theorem NI (k a b c):Ui k (a+1) b c=NH k (Ui k a) b c:=Ba _ _ _ _
def ajd (k:Nat) (a b:Int):Option zm :=
 (bif decide (b<(-63)) then
  some ((a,()),())
 else
  (bif decide (b>63) then
   some ((a,()),())
  else
   Ui k k a b))
def F130:Fn:=⟨[au,au],[rI],fun k x=>ajd k x.1 x.2.1⟩
theorem ok130:O 130 F130:=okF aj [] (fun k=>(.loop 6 abu (ags k) (fun g=>.nil) (.loop 3 abv (agt k) (fun g=>.nil) .nil))) Tryz.func130 rfl
abbrev abw:Cut:=⟨[0,3],[cI,.cell (.int .u64)],[],11,[]⟩
def Uj (k:Nat) (g2:Int -> Int -> Option zm) (a b:Int):Option zm :=
 (bif decide (a>0) then
  g2 (IntKind.i64.wrap (a - 1)) (IntKind.u64.wrap (2 * b))
 else
  some ((b,()),()))
def agu (k:Nat):Xx (((Unit)×Int×Int×Unit) -> Option zm):=dh (bf (ay (ay bg))) (Uj k)
def Uk (k a:Nat) (b c:Int):Option zm:=iter abw (agu k) a ((),b,c,())
theorem WU (k a b c):Uk k (a+1) b c=Uj k (Uk k a) b c:=Ba _ _ _ _
def acZ (k:Nat) (a:Int):Option zm :=
 Uk k k a 1
def F178:Fn:=⟨[au],[.val ⟨false,(.int .u64),true⟩],fun k x=>acZ k x.1⟩
theorem ok178:O 178 F178:=okF aj [] (fun k=>(.loop 2 abw (agu k) (fun g=>.nil) .nil)) Tryz.func178 rfl
def aje (k:Nat) (a b:Int):Option zm :=
 (bif decide (b<1) then
  some ((a,()),())
 else
  (bif decide (b>63) then
   some ((a,()),())
  else
   (acZ k b).bind fun q0 =>
   nz q0.1.1 <|
   (acZ k (IntKind.i64.wrap (b - 1))).bind fun q1 =>
   (bif decide ((Int.tmod (IntKind.u64.wrap a) q0.1.1)≥q1.1.1) then
    (acZ k b).bind fun q2 =>
    some ((IntKind.i64.wrap (0 - (IntKind.i64.wrap (IntKind.u64.wrap (q2.1.1 - (Int.tmod (IntKind.u64.wrap a) q0.1.1))))),()),())
   else
    some ((IntKind.i64.wrap (Int.tmod (IntKind.u64.wrap a) q0.1.1),()),()))))
def F131:Fn:=⟨[au,au],[rI],fun k x=>aje k x.1 x.2.1⟩
theorem ok131:O 131 F131:=okF (ah ok178 aj) [] On Tryz.func131 rfl
abbrev abx:Cut:=⟨[3,4,5,7],[.box 92 [cI,cI,cI,cI,cI,cI,cI,cI,cI,.own 233 KJ,.cell .bool],.box 92 [cI,cI,cI,cI,cI,cI,cI,cI,cI,.nil,.cell .bool],.box 87 [cI,cI,cI,cI],.box 87 [cI,cI,cI,cI]],[],225,[]⟩
def Ul (k:Nat) (g28:Int -> Int -> Int -> Int -> Int -> Int -> Int -> Int -> Int -> (List j6) -> Bool -> Int -> Int -> Int -> Int -> Int -> Int -> Int -> Int -> Int -> Bool -> Int -> Int -> Int -> Int -> Int -> Int -> Int -> Int -> Option (WH×Unit)) (a b c e f h i l m:Int) (n:List j6) (o:Bool) (p s t u v w y z A:Int) (B:Bool) (C D G H I J K M:Int):Option (WH×Unit) :=
 (bif decide ((n.length:Int)>0) then
  ix n (IntKind.i64.wrap ((n.length:Int) - 1)) <|
  (bif decide ((rd n (IntKind.i64.wrap ((n.length:Int) - 1)) (0,0,0)).2.1<a) then
   ix n (IntKind.i64.wrap ((n.length:Int) - 1)) <|
   sx n 0 (IntKind.i64.wrap ((n.length:Int) - 1)) <|
   (bif decide ((rd n (IntKind.i64.wrap ((n.length:Int) - 1)) (0,0,0)).2.2>0) then
    ap (n.take (IntKind.i64.wrap ((n.length:Int) - 1)).toNat) ([((rd n (IntKind.i64.wrap ((n.length:Int) - 1)) (0,0,0)).1,(rd n (IntKind.i64.wrap ((n.length:Int) - 1)) (0,0,0)).2.1,IntKind.i64.wrap ((rd n (IntKind.i64.wrap ((n.length:Int) - 1)) (0,0,0)).2.2 - 1))]:List j6) 24 fun r2 =>
    some ((((rd n (IntKind.i64.wrap ((n.length:Int) - 1)) (0,0,0)).1,(b,c,e,f,h,i,l,m),r2,o),(I,J,K,M),true,()),())
   else
    g28 a b c e f h i l m (n.take (IntKind.i64.wrap ((n.length:Int) - 1)).toNat) o p s t u v w y z A B C D G H I J K M)
  else
   some (((a,(b,c,e,f,h,i,l,m),n,o),(I,J,K,M),true,()),()))
 else
  some (((a,(b,c,e,f,h,i,l,m),n,o),(I,J,K,M),true,()),()))
def agv (k:Nat):Xx (((Unit)×afW×(Int×Int×Int×Int×Int×Int×Int×Int×Int×Unit×Bool×Unit)×WJ×WJ×Unit) -> Option (WH×Unit)):=dh (bf (bq (ay (ay (ay (ay (ay (ay (ay (ay (ay (ay (ay bg))))))))))) (bq (ay (ay (ay (ay (ay (ay (ay (ay (ay (bf (ay bg))))))))))) (bq (ay (ay (ay (ay bg)))) (bq (ay (ay (ay (ay bg)))) bg))))) (Ul k)
def uz (k a:Nat) (b c e f h i l m n:Int) (o:List j6) (p:Bool) (s t u v w y z A B:Int) (C:Bool) (D G H I J K M N:Int):Option (WH×Unit):=iter abx (agv k) a ((),(b,c,e,f,h,i,l,m,n,o,p,()),(s,t,u,v,w,y,z,A,B,(),C,()),(D,G,H,I,()),(J,K,M,N,()),())
theorem WV (k a b c e f h i l m n o p s t u v w y z A B C D G H I J K M N):uz k (a+1) b c e f h i l m n o p s t u v w y z A B C D G H I J K M N=Ul k (uz k a) b c e f h i l m n o p s t u v w y z A B C D G H I J K M N:=Ba _ _ _ _
def S72 (k:Nat) (a:List qg) (b:Int×(PN Int 8)×(List j6)×Bool):Option (WH×Unit) :=
 ap ([]:List j6) b.2.2.1 24 fun r0 =>
 (bif b.2.2.2 then
  some (((b.1,b.2.1,r0,b.2.2.2),(0,0,0,0),false,()),())
 else
  (bif decide (b.1<0) then
   some (((b.1,b.2.1,r0,b.2.2.2),(0,0,0,0),false,()),())
  else
   (bif decide (b.1≥(a.length:Int)) then
    some (((b.1,b.2.1,r0,b.2.2.2),(0,0,0,0),false,()),())
   else
    ix a b.1 <|
    (adO k (rd a b.1 (0,0,0,0))).bind fun q1 =>
    (bif !q1.1.1 then
     some (((b.1,b.2.1,r0,b.2.2.2),(0,0,0,0),false,()),())
    else
     ix a b.1 <|
     (bif (rd a b.1 (0,0,0,0)).1==0 then
      uz k k b.1 b.2.1.1 b.2.1.2.1 b.2.1.2.2.1 b.2.1.2.2.2.1 b.2.1.2.2.2.2.1 b.2.1.2.2.2.2.2.1 b.2.1.2.2.2.2.2.2.1 b.2.1.2.2.2.2.2.2.2 r0 true 0 0 0 0 0 0 0 0 0 false 0 0 0 0 (rd a b.1 (0,0,0,0)).1 (rd a b.1 (0,0,0,0)).2.1 (rd a b.1 (0,0,0,0)).2.2.1 (rd a b.1 (0,0,0,0)).2.2.2
     else
      (bif (rd a b.1 (0,0,0,0)).1==1 then
       ax 8 (rd a b.1 (0,0,0,0)).2.1 <|
       uz k k (IntKind.i64.wrap (b.1+1)) (Tw (α:=Int) 8 b.2.1 (rd a b.1 (0,0,0,0)).2.1 (rd a b.1 (0,0,0,0)).2.2.2).1 (Tw (α:=Int) 8 b.2.1 (rd a b.1 (0,0,0,0)).2.1 (rd a b.1 (0,0,0,0)).2.2.2).2.1 (Tw (α:=Int) 8 b.2.1 (rd a b.1 (0,0,0,0)).2.1 (rd a b.1 (0,0,0,0)).2.2.2).2.2.1 (Tw (α:=Int) 8 b.2.1 (rd a b.1 (0,0,0,0)).2.1 (rd a b.1 (0,0,0,0)).2.2.2).2.2.2.1 (Tw (α:=Int) 8 b.2.1 (rd a b.1 (0,0,0,0)).2.1 (rd a b.1 (0,0,0,0)).2.2.2).2.2.2.2.1 (Tw (α:=Int) 8 b.2.1 (rd a b.1 (0,0,0,0)).2.1 (rd a b.1 (0,0,0,0)).2.2.2).2.2.2.2.2.1 (Tw (α:=Int) 8 b.2.1 (rd a b.1 (0,0,0,0)).2.1 (rd a b.1 (0,0,0,0)).2.2.2).2.2.2.2.2.2.1 (Tw (α:=Int) 8 b.2.1 (rd a b.1 (0,0,0,0)).2.1 (rd a b.1 (0,0,0,0)).2.2.2).2.2.2.2.2.2.2 r0 b.2.2.2 0 0 0 0 0 0 0 0 0 false 0 0 0 0 (rd a b.1 (0,0,0,0)).1 (rd a b.1 (0,0,0,0)).2.1 (rd a b.1 (0,0,0,0)).2.2.1 (rd a b.1 (0,0,0,0)).2.2.2
      else
       (bif (rd a b.1 (0,0,0,0)).1==2 then
        ax 8 (rd a b.1 (0,0,0,0)).2.1 <|
        ax 8 (rd a b.1 (0,0,0,0)).2.2.1 <|
        ax 8 (rd a b.1 (0,0,0,0)).2.1 <|
        uz k k (IntKind.i64.wrap (b.1+1)) (Tw (α:=Int) 8 b.2.1 (rd a b.1 (0,0,0,0)).2.1 (IntKind.i64.wrap ((Tv (α:=Int) 8 b.2.1 (rd a b.1 (0,0,0,0)).2.1 0)+(Tv (α:=Int) 8 b.2.1 (rd a b.1 (0,0,0,0)).2.2.1 0)))).1 (Tw (α:=Int) 8 b.2.1 (rd a b.1 (0,0,0,0)).2.1 (IntKind.i64.wrap ((Tv (α:=Int) 8 b.2.1 (rd a b.1 (0,0,0,0)).2.1 0)+(Tv (α:=Int) 8 b.2.1 (rd a b.1 (0,0,0,0)).2.2.1 0)))).2.1 (Tw (α:=Int) 8 b.2.1 (rd a b.1 (0,0,0,0)).2.1 (IntKind.i64.wrap ((Tv (α:=Int) 8 b.2.1 (rd a b.1 (0,0,0,0)).2.1 0)+(Tv (α:=Int) 8 b.2.1 (rd a b.1 (0,0,0,0)).2.2.1 0)))).2.2.1 (Tw (α:=Int) 8 b.2.1 (rd a b.1 (0,0,0,0)).2.1 (IntKind.i64.wrap ((Tv (α:=Int) 8 b.2.1 (rd a b.1 (0,0,0,0)).2.1 0)+(Tv (α:=Int) 8 b.2.1 (rd a b.1 (0,0,0,0)).2.2.1 0)))).2.2.2.1 (Tw (α:=Int) 8 b.2.1 (rd a b.1 (0,0,0,0)).2.1 (IntKind.i64.wrap ((Tv (α:=Int) 8 b.2.1 (rd a b.1 (0,0,0,0)).2.1 0)+(Tv (α:=Int) 8 b.2.1 (rd a b.1 (0,0,0,0)).2.2.1 0)))).2.2.2.2.1 (Tw (α:=Int) 8 b.2.1 (rd a b.1 (0,0,0,0)).2.1 (IntKind.i64.wrap ((Tv (α:=Int) 8 b.2.1 (rd a b.1 (0,0,0,0)).2.1 0)+(Tv (α:=Int) 8 b.2.1 (rd a b.1 (0,0,0,0)).2.2.1 0)))).2.2.2.2.2.1 (Tw (α:=Int) 8 b.2.1 (rd a b.1 (0,0,0,0)).2.1 (IntKind.i64.wrap ((Tv (α:=Int) 8 b.2.1 (rd a b.1 (0,0,0,0)).2.1 0)+(Tv (α:=Int) 8 b.2.1 (rd a b.1 (0,0,0,0)).2.2.1 0)))).2.2.2.2.2.2.1 (Tw (α:=Int) 8 b.2.1 (rd a b.1 (0,0,0,0)).2.1 (IntKind.i64.wrap ((Tv (α:=Int) 8 b.2.1 (rd a b.1 (0,0,0,0)).2.1 0)+(Tv (α:=Int) 8 b.2.1 (rd a b.1 (0,0,0,0)).2.2.1 0)))).2.2.2.2.2.2.2 r0 b.2.2.2 0 0 0 0 0 0 0 0 0 false 0 0 0 0 (rd a b.1 (0,0,0,0)).1 (rd a b.1 (0,0,0,0)).2.1 (rd a b.1 (0,0,0,0)).2.2.1 (rd a b.1 (0,0,0,0)).2.2.2
       else
        (bif (rd a b.1 (0,0,0,0)).1==3 then
         ax 8 (rd a b.1 (0,0,0,0)).2.1 <|
         ax 8 (rd a b.1 (0,0,0,0)).2.2.1 <|
         ax 8 (rd a b.1 (0,0,0,0)).2.1 <|
         uz k k (IntKind.i64.wrap (b.1+1)) (Tw (α:=Int) 8 b.2.1 (rd a b.1 (0,0,0,0)).2.1 (IntKind.i64.wrap ((Tv (α:=Int) 8 b.2.1 (rd a b.1 (0,0,0,0)).2.1 0) - (Tv (α:=Int) 8 b.2.1 (rd a b.1 (0,0,0,0)).2.2.1 0)))).1 (Tw (α:=Int) 8 b.2.1 (rd a b.1 (0,0,0,0)).2.1 (IntKind.i64.wrap ((Tv (α:=Int) 8 b.2.1 (rd a b.1 (0,0,0,0)).2.1 0) - (Tv (α:=Int) 8 b.2.1 (rd a b.1 (0,0,0,0)).2.2.1 0)))).2.1 (Tw (α:=Int) 8 b.2.1 (rd a b.1 (0,0,0,0)).2.1 (IntKind.i64.wrap ((Tv (α:=Int) 8 b.2.1 (rd a b.1 (0,0,0,0)).2.1 0) - (Tv (α:=Int) 8 b.2.1 (rd a b.1 (0,0,0,0)).2.2.1 0)))).2.2.1 (Tw (α:=Int) 8 b.2.1 (rd a b.1 (0,0,0,0)).2.1 (IntKind.i64.wrap ((Tv (α:=Int) 8 b.2.1 (rd a b.1 (0,0,0,0)).2.1 0) - (Tv (α:=Int) 8 b.2.1 (rd a b.1 (0,0,0,0)).2.2.1 0)))).2.2.2.1 (Tw (α:=Int) 8 b.2.1 (rd a b.1 (0,0,0,0)).2.1 (IntKind.i64.wrap ((Tv (α:=Int) 8 b.2.1 (rd a b.1 (0,0,0,0)).2.1 0) - (Tv (α:=Int) 8 b.2.1 (rd a b.1 (0,0,0,0)).2.2.1 0)))).2.2.2.2.1 (Tw (α:=Int) 8 b.2.1 (rd a b.1 (0,0,0,0)).2.1 (IntKind.i64.wrap ((Tv (α:=Int) 8 b.2.1 (rd a b.1 (0,0,0,0)).2.1 0) - (Tv (α:=Int) 8 b.2.1 (rd a b.1 (0,0,0,0)).2.2.1 0)))).2.2.2.2.2.1 (Tw (α:=Int) 8 b.2.1 (rd a b.1 (0,0,0,0)).2.1 (IntKind.i64.wrap ((Tv (α:=Int) 8 b.2.1 (rd a b.1 (0,0,0,0)).2.1 0) - (Tv (α:=Int) 8 b.2.1 (rd a b.1 (0,0,0,0)).2.2.1 0)))).2.2.2.2.2.2.1 (Tw (α:=Int) 8 b.2.1 (rd a b.1 (0,0,0,0)).2.1 (IntKind.i64.wrap ((Tv (α:=Int) 8 b.2.1 (rd a b.1 (0,0,0,0)).2.1 0) - (Tv (α:=Int) 8 b.2.1 (rd a b.1 (0,0,0,0)).2.2.1 0)))).2.2.2.2.2.2.2 r0 b.2.2.2 0 0 0 0 0 0 0 0 0 false 0 0 0 0 (rd a b.1 (0,0,0,0)).1 (rd a b.1 (0,0,0,0)).2.1 (rd a b.1 (0,0,0,0)).2.2.1 (rd a b.1 (0,0,0,0)).2.2.2
        else
         (bif (rd a b.1 (0,0,0,0)).1==4 then
          ax 8 (rd a b.1 (0,0,0,0)).2.1 <|
          ax 8 (rd a b.1 (0,0,0,0)).2.2.1 <|
          ax 8 (rd a b.1 (0,0,0,0)).2.1 <|
          uz k k (IntKind.i64.wrap (b.1+1)) (Tw (α:=Int) 8 b.2.1 (rd a b.1 (0,0,0,0)).2.1 (IntKind.i64.wrap ((Tv (α:=Int) 8 b.2.1 (rd a b.1 (0,0,0,0)).2.1 0) * (Tv (α:=Int) 8 b.2.1 (rd a b.1 (0,0,0,0)).2.2.1 0)))).1 (Tw (α:=Int) 8 b.2.1 (rd a b.1 (0,0,0,0)).2.1 (IntKind.i64.wrap ((Tv (α:=Int) 8 b.2.1 (rd a b.1 (0,0,0,0)).2.1 0) * (Tv (α:=Int) 8 b.2.1 (rd a b.1 (0,0,0,0)).2.2.1 0)))).2.1 (Tw (α:=Int) 8 b.2.1 (rd a b.1 (0,0,0,0)).2.1 (IntKind.i64.wrap ((Tv (α:=Int) 8 b.2.1 (rd a b.1 (0,0,0,0)).2.1 0) * (Tv (α:=Int) 8 b.2.1 (rd a b.1 (0,0,0,0)).2.2.1 0)))).2.2.1 (Tw (α:=Int) 8 b.2.1 (rd a b.1 (0,0,0,0)).2.1 (IntKind.i64.wrap ((Tv (α:=Int) 8 b.2.1 (rd a b.1 (0,0,0,0)).2.1 0) * (Tv (α:=Int) 8 b.2.1 (rd a b.1 (0,0,0,0)).2.2.1 0)))).2.2.2.1 (Tw (α:=Int) 8 b.2.1 (rd a b.1 (0,0,0,0)).2.1 (IntKind.i64.wrap ((Tv (α:=Int) 8 b.2.1 (rd a b.1 (0,0,0,0)).2.1 0) * (Tv (α:=Int) 8 b.2.1 (rd a b.1 (0,0,0,0)).2.2.1 0)))).2.2.2.2.1 (Tw (α:=Int) 8 b.2.1 (rd a b.1 (0,0,0,0)).2.1 (IntKind.i64.wrap ((Tv (α:=Int) 8 b.2.1 (rd a b.1 (0,0,0,0)).2.1 0) * (Tv (α:=Int) 8 b.2.1 (rd a b.1 (0,0,0,0)).2.2.1 0)))).2.2.2.2.2.1 (Tw (α:=Int) 8 b.2.1 (rd a b.1 (0,0,0,0)).2.1 (IntKind.i64.wrap ((Tv (α:=Int) 8 b.2.1 (rd a b.1 (0,0,0,0)).2.1 0) * (Tv (α:=Int) 8 b.2.1 (rd a b.1 (0,0,0,0)).2.2.1 0)))).2.2.2.2.2.2.1 (Tw (α:=Int) 8 b.2.1 (rd a b.1 (0,0,0,0)).2.1 (IntKind.i64.wrap ((Tv (α:=Int) 8 b.2.1 (rd a b.1 (0,0,0,0)).2.1 0) * (Tv (α:=Int) 8 b.2.1 (rd a b.1 (0,0,0,0)).2.2.1 0)))).2.2.2.2.2.2.2 r0 b.2.2.2 0 0 0 0 0 0 0 0 0 false 0 0 0 0 (rd a b.1 (0,0,0,0)).1 (rd a b.1 (0,0,0,0)).2.1 (rd a b.1 (0,0,0,0)).2.2.1 (rd a b.1 (0,0,0,0)).2.2.2
         else
          (bif (rd a b.1 (0,0,0,0)).1==5 then
           ax 8 (rd a b.1 (0,0,0,0)).2.1 <|
           (ajd k (Tv (α:=Int) 8 b.2.1 (rd a b.1 (0,0,0,0)).2.1 0) (rd a b.1 (0,0,0,0)).2.2.2).bind fun q3 =>
           ax 8 (rd a b.1 (0,0,0,0)).2.1 <|
           uz k k (IntKind.i64.wrap (b.1+1)) (Tw (α:=Int) 8 b.2.1 (rd a b.1 (0,0,0,0)).2.1 q3.1.1).1 (Tw (α:=Int) 8 b.2.1 (rd a b.1 (0,0,0,0)).2.1 q3.1.1).2.1 (Tw (α:=Int) 8 b.2.1 (rd a b.1 (0,0,0,0)).2.1 q3.1.1).2.2.1 (Tw (α:=Int) 8 b.2.1 (rd a b.1 (0,0,0,0)).2.1 q3.1.1).2.2.2.1 (Tw (α:=Int) 8 b.2.1 (rd a b.1 (0,0,0,0)).2.1 q3.1.1).2.2.2.2.1 (Tw (α:=Int) 8 b.2.1 (rd a b.1 (0,0,0,0)).2.1 q3.1.1).2.2.2.2.2.1 (Tw (α:=Int) 8 b.2.1 (rd a b.1 (0,0,0,0)).2.1 q3.1.1).2.2.2.2.2.2.1 (Tw (α:=Int) 8 b.2.1 (rd a b.1 (0,0,0,0)).2.1 q3.1.1).2.2.2.2.2.2.2 r0 b.2.2.2 0 0 0 0 0 0 0 0 0 false 0 0 0 0 (rd a b.1 (0,0,0,0)).1 (rd a b.1 (0,0,0,0)).2.1 (rd a b.1 (0,0,0,0)).2.2.1 (rd a b.1 (0,0,0,0)).2.2.2
          else
           (bif (rd a b.1 (0,0,0,0)).1==6 then
            ax 8 (rd a b.1 (0,0,0,0)).2.1 <|
            (aje k (Tv (α:=Int) 8 b.2.1 (rd a b.1 (0,0,0,0)).2.1 0) (rd a b.1 (0,0,0,0)).2.2.2).bind fun q4 =>
            ax 8 (rd a b.1 (0,0,0,0)).2.1 <|
            uz k k (IntKind.i64.wrap (b.1+1)) (Tw (α:=Int) 8 b.2.1 (rd a b.1 (0,0,0,0)).2.1 q4.1.1).1 (Tw (α:=Int) 8 b.2.1 (rd a b.1 (0,0,0,0)).2.1 q4.1.1).2.1 (Tw (α:=Int) 8 b.2.1 (rd a b.1 (0,0,0,0)).2.1 q4.1.1).2.2.1 (Tw (α:=Int) 8 b.2.1 (rd a b.1 (0,0,0,0)).2.1 q4.1.1).2.2.2.1 (Tw (α:=Int) 8 b.2.1 (rd a b.1 (0,0,0,0)).2.1 q4.1.1).2.2.2.2.1 (Tw (α:=Int) 8 b.2.1 (rd a b.1 (0,0,0,0)).2.1 q4.1.1).2.2.2.2.2.1 (Tw (α:=Int) 8 b.2.1 (rd a b.1 (0,0,0,0)).2.1 q4.1.1).2.2.2.2.2.2.1 (Tw (α:=Int) 8 b.2.1 (rd a b.1 (0,0,0,0)).2.1 q4.1.1).2.2.2.2.2.2.2 r0 b.2.2.2 0 0 0 0 0 0 0 0 0 false 0 0 0 0 (rd a b.1 (0,0,0,0)).1 (rd a b.1 (0,0,0,0)).2.1 (rd a b.1 (0,0,0,0)).2.2.1 (rd a b.1 (0,0,0,0)).2.2.2
           else
            (bif (rd a b.1 (0,0,0,0)).1==7 then
             ax 8 (rd a b.1 (0,0,0,0)).2.1 <|
             (bif (Tv (α:=Int) 8 b.2.1 (rd a b.1 (0,0,0,0)).2.1 0)==0 then
              uz k k (IntKind.i64.wrap ((IntKind.i64.wrap (b.1+1))+(rd a b.1 (0,0,0,0)).2.2.2)) b.2.1.1 b.2.1.2.1 b.2.1.2.2.1 b.2.1.2.2.2.1 b.2.1.2.2.2.2.1 b.2.1.2.2.2.2.2.1 b.2.1.2.2.2.2.2.2.1 b.2.1.2.2.2.2.2.2.2 r0 b.2.2.2 0 0 0 0 0 0 0 0 0 false 0 0 0 0 (rd a b.1 (0,0,0,0)).1 (rd a b.1 (0,0,0,0)).2.1 (rd a b.1 (0,0,0,0)).2.2.1 (rd a b.1 (0,0,0,0)).2.2.2
             else
              uz k k (IntKind.i64.wrap (b.1+1)) b.2.1.1 b.2.1.2.1 b.2.1.2.2.1 b.2.1.2.2.2.1 b.2.1.2.2.2.2.1 b.2.1.2.2.2.2.2.1 b.2.1.2.2.2.2.2.2.1 b.2.1.2.2.2.2.2.2.2 r0 b.2.2.2 0 0 0 0 0 0 0 0 0 false 0 0 0 0 (rd a b.1 (0,0,0,0)).1 (rd a b.1 (0,0,0,0)).2.1 (rd a b.1 (0,0,0,0)).2.2.1 (rd a b.1 (0,0,0,0)).2.2.2)
            else
             (bif (rd a b.1 (0,0,0,0)).1==8 then
              ap r0 ([(IntKind.i64.wrap (b.1+1),IntKind.i64.wrap (b.1+(rd a b.1 (0,0,0,0)).2.2.1),IntKind.i64.wrap ((rd a b.1 (0,0,0,0)).2.2.2 - 1))]:List j6) 24 fun r5 =>
              uz k k (IntKind.i64.wrap (b.1+1)) b.2.1.1 b.2.1.2.1 b.2.1.2.2.1 b.2.1.2.2.2.1 b.2.1.2.2.2.2.1 b.2.1.2.2.2.2.2.1 b.2.1.2.2.2.2.2.2.1 b.2.1.2.2.2.2.2.2.2 r5 b.2.2.2 0 0 0 0 0 0 0 0 0 false 0 0 0 0 (rd a b.1 (0,0,0,0)).1 (rd a b.1 (0,0,0,0)).2.1 (rd a b.1 (0,0,0,0)).2.2.1 (rd a b.1 (0,0,0,0)).2.2.2
             else
              uz k k (IntKind.i64.wrap (b.1+1)) b.2.1.1 b.2.1.2.1 b.2.1.2.2.1 b.2.1.2.2.2.1 b.2.1.2.2.2.2.1 b.2.1.2.2.2.2.2.1 b.2.1.2.2.2.2.2.2.1 b.2.1.2.2.2.2.2.2.2 r0 b.2.2.2 0 0 0 0 0 0 0 0 0 false 0 0 0 0 (rd a b.1 (0,0,0,0)).1 (rd a b.1 (0,0,0,0)).2.1 (rd a b.1 (0,0,0,0)).2.2.1 (rd a b.1 (0,0,0,0)).2.2.2)))))))))))))
def F72:Fn:=⟨[af4,af5],[.val ⟨true,akU,true⟩,ao1,rB],fun k x=>S72 k x.1 x.2.1⟩
theorem ok72:O 72 F72:=okF (ah ok129 <| ah ok130 <| ah ok131 aj) [(205,1)] (fun k=>(.loop 28 abx (agv k) (fun g=>.nil) .nil)) Tryz.func72 rfl
abbrev WW:Cut:=⟨[4,5,8,10,11],[.box 94 [cI,cI,cI,cI,cI,cI,cI,cI,cI,cI,cI,cI,cI,.nil,.cell .bool,cI,cI,cI,cI,cI,cI,cI,cI,cI,.nil,.cell .bool,.nil,.cell .bool],.box 87 [cI,cI,cI,cI],.box 87 [cI,cI,cI,cI],.box 94 [cI,cI,cI,cI,cI,cI,cI,cI,cI,cI,cI,cI,cI,.own 233 KJ,.cell .bool,cI,cI,cI,cI,cI,cI,cI,cI,cI,.cell wz,.cell .bool,.own 3 (.int .i64),.cell .bool],cI],[],82,[]⟩
def ajf (k:Nat) (g14:Int -> Int -> Int -> Int -> Int -> Int -> Int -> Int -> Int -> Int -> Int -> Int -> Int -> Bool -> Int -> Int -> Int -> Int -> Int -> Int -> Int -> Int -> Int -> Bool -> Bool -> Int -> Int -> Int -> Int -> Int -> Int -> Int -> Int -> Int -> Int -> Int -> Int -> Int -> Int -> Int -> Int -> Int -> Int -> Int -> Int -> Int -> (List j6) -> Bool -> Int -> Int -> Int -> Int -> Int -> Int -> Int -> Int -> Int -> (List j6) -> Bool -> (List Int) -> Bool -> Int -> Option WL) (a b c e f h i l m n o p s:Int) (t:Bool) (u v w y z A B C D:Int) (G H:Bool) (I J K M N O P Q x T U V W X Z a1 b1 c1 e1 f1 h1:Int) (i1:List j6) (l1:Bool) (m1 n1 o1 p1 s1 t1 u1 v1 w1:Int) (y1:List j6) (z1:Bool) (a2:List Int) (b2:Bool) (c2:Int):Option WL :=
 (bif decide (c2≥0) then
  ix a2 c2 <|
  (bif (rd a2 c2 0)==O then
   sx a2 0 c2 <|
   ap ([]:List Int) (sub a2 0 c2) 8 fun r4 =>
   sx a2 (IntKind.i64.wrap (c2+1)) (a2.length:Int) <|
   ap r4 (sub a2 (IntKind.i64.wrap (c2+1)) (a2.length:Int)) 8 fun r5 =>
   some (((x,T,U,V,(W,(X,Z,a1,b1,c1,e1,f1,h1),i1,l1),(m1,(n1,o1,p1,s1,t1,u1,v1,w1),y1,z1),r5,b2),(N,O,P,Q),true,()),())
  else
   g14 a b c e f h i l m n o p s t u v w y z A B C D G H I J K M N O P Q x T U V W X Z a1 b1 c1 e1 f1 h1 i1 l1 m1 n1 o1 p1 s1 t1 u1 v1 w1 y1 z1 a2 b2 (IntKind.i64.wrap (c2 - 1)))
 else
  some (((x,T,U,V,(W,(X,Z,a1,b1,c1,e1,f1,h1),i1,l1),(m1,(n1,o1,p1,s1,t1,u1,v1,w1),y1,z1),a2,b2),(N,O,P,Q),true,()),()))
def aby (k:Nat):Xx (((Unit)×akT×WJ×WJ×afT×Int×Unit) -> Option WL):=dh (bf (bq (ay (ay (ay (ay (ay (ay (ay (ay (ay (ay (ay (ay (ay (bf (ay (ay (ay (ay (ay (ay (ay (ay (ay (ay (bf (ay (bf (ay bg)))))))))))))))))))))))))))) (bq (ay (ay (ay (ay bg)))) (bq (ay (ay (ay (ay bg)))) (bq (ay (ay (ay (ay (ay (ay (ay (ay (ay (ay (ay (ay (ay (ay (ay (ay (ay (ay (ay (ay (ay (ay (ay (ay (ay (ay (ay (ay bg)))))))))))))))))))))))))))) (ay bg)))))) (ajf k)
def ajg (k a:Nat) (b c e f h i l m n o p s t:Int) (u:Bool) (v w y z A B C D G:Int) (H I:Bool) (J K M N O P Q T x U V W X Z a1 b1 c1 e1 f1 h1 i1:Int) (l1:List j6) (m1:Bool) (n1 o1 p1 s1 t1 u1 v1 w1 y1:Int) (z1:List j6) (a2:Bool) (b2:List Int) (c2:Bool) (e2:Int):Option WL:=iter WW (aby k) a ((),(b,c,e,f,h,i,l,m,n,o,p,s,t,(),u,v,w,y,z,A,B,C,D,G,(),H,(),I,()),(J,K,M,N,()),(O,P,Q,T,()),(x,U,V,W,X,Z,a1,b1,c1,e1,f1,h1,i1,l1,m1,n1,o1,p1,s1,t1,u1,v1,w1,y1,z1,a2,b2,c2,()),e2,())
def ajh (k:Nat) (a:WI) (b:EH):Option WL :=
 (ajc k a b).bind fun q0 =>
 (S72 k q0.1.1 b.2.2.2.2.1).bind fun q1 =>
 (bif !q1.1.2.2.1 then
  some ((b,(0,0,0,0),false,()),())
 else
  ap ([]:List Int) b.2.2.2.2.2.2.1 8 fun r2 =>
  (bif q1.1.2.1.1==11 then
   some (((b.1,b.2.1,b.2.2.1,b.2.2.2.1,q1.1.1,q1.1.1,r2,b.2.2.2.2.2.2.2),q1.1.2.1,true,()),())
  else
   (bif q1.1.2.1.1==9 then
    ap r2 ([q1.1.2.1.2.1]:List Int) 8 fun r3 =>
    some (((b.1,b.2.1,b.2.2.1,b.2.2.2.1,q1.1.1,b.2.2.2.2.2.1,r3,b.2.2.2.2.2.2.2),q1.1.2.1,true,()),())
   else
    (bif q1.1.2.1.1==10 then
     ajg k k 0 0 0 0 0 0 0 0 0 0 0 0 0 false 0 0 0 0 0 0 0 0 0 false false 0 0 0 0 q1.1.2.1.1 q1.1.2.1.2.1 q1.1.2.1.2.2.1 q1.1.2.1.2.2.2 b.1 b.2.1 b.2.2.1 b.2.2.2.1 q1.1.1.1 q1.1.1.2.1.1 q1.1.1.2.1.2.1 q1.1.1.2.1.2.2.1 q1.1.1.2.1.2.2.2.1 q1.1.1.2.1.2.2.2.2.1 q1.1.1.2.1.2.2.2.2.2.1 q1.1.1.2.1.2.2.2.2.2.2.1 q1.1.1.2.1.2.2.2.2.2.2.2 q1.1.1.2.2.1 q1.1.1.2.2.2 b.2.2.2.2.2.1.1 b.2.2.2.2.2.1.2.1.1 b.2.2.2.2.2.1.2.1.2.1 b.2.2.2.2.2.1.2.1.2.2.1 b.2.2.2.2.2.1.2.1.2.2.2.1 b.2.2.2.2.2.1.2.1.2.2.2.2.1 b.2.2.2.2.2.1.2.1.2.2.2.2.2.1 b.2.2.2.2.2.1.2.1.2.2.2.2.2.2.1 b.2.2.2.2.2.1.2.1.2.2.2.2.2.2.2 b.2.2.2.2.2.1.2.2.1 b.2.2.2.2.2.1.2.2.2 r2 b.2.2.2.2.2.2.2 (IntKind.i64.wrap ((r2.length:Int) - 1))
    else
     some (((b.1,b.2.1,b.2.2.1,b.2.2.2.1,q1.1.1,b.2.2.2.2.2.1,r2,b.2.2.2.2.2.2.2),q1.1.2.1,true,()),())))))
def F113:Fn:=⟨[Q9,CB],[WR,ao1,rB],fun k x=>ajh k x.1 x.2.1⟩
theorem ok113:O 113 F113:=okF (ah ok72 <| ah ok170 aj) [] (fun k=>(.loop 14 WW (aby k) (fun g=>.nil) .nil)) Tryz.func113 rfl
def apc (k:Nat) (a:vg) (b c:Int):Option ((yx×Bool×Unit)×Unit) :=
 ap ([]:List (Int×Int)) a 16 fun r0 =>
 (bif decide (b<0) then
  some ((r0,false,()),())
 else
  (bif decide (b≥(a.length:Int)) then
   some ((r0,false,()),())
  else
   ix a b <|
   (bif (rd a b (0,0)).2 != 0 then
    some ((r0,false,()),())
   else
    ix r0 b <|
    some ((upd r0 b ((rd r0 b (0,0)).1,IntKind.i64.wrap (c+1)),true,()),()))))
def F114:Fn:=⟨[KP,au,au],[abf,rB],fun k (a,b,c,_)=>apc k a b c⟩
theorem ok114:O 114 F114:=okF aj [] On Tryz.func114 rfl
def apd (k:Nat) (a:vg) (b c:Int):Option ((yx×Bool×Unit)×Unit) :=
 ap ([]:List (Int×Int)) a 16 fun r0 =>
 (bif decide (b<0) then
  some ((r0,false,()),())
 else
  (bif decide (b≥(a.length:Int)) then
   some ((r0,false,()),())
  else
   ix a b <|
   (bif (rd a b (0,0)).2 != (IntKind.i64.wrap (c+1)) then
    some ((r0,false,()),())
   else
    ix r0 b <|
    some ((upd r0 b ((rd r0 b (0,0)).1,0),true,()),()))))
def F115:Fn:=⟨[KP,au,au],[abf,rB],fun k (a,b,c,_)=>apd k a b c⟩
theorem ok115:O 115 F115:=okF aj [] On Tryz.func115 rfl
def agw (k:Nat) (a:(List Int)×List Bool) (b:Int):Option ((KN×Unit)×Unit) :=
 ap ([]:List Int) a.1 8 fun r0 =>
 ap ([]:List Bool) a.2 1 fun r1 =>
 (bif decide (b≥0) then
  (bif decide (b<(r0.length:Int)) then
   ix r0 b <|
   some (((upd r0 b 0,r1),()),())
  else
   some (((r0,r1),()),()))
 else
  some (((r0,r1),()),()))
def F116:Fn:=⟨[Q8,au],[.val ⟨true,KO,true⟩],fun k x=>agw k x.1 x.2.1⟩
theorem ok116:O 116 F116:=okF aj [] On Tryz.func116 rfl
def agx (k:Nat) (a:EH):Option NA :=
 (S71 k a.2.2.2.2.1.2.1.1).bind fun q0 =>
 some (((a.1,a.2.1,a.2.2.1,2,q0.1.1,q0.1.1,[],false),()),())
def F117:Fn:=⟨[CB],[WR],fun k x=>agx k x.1⟩
theorem ok117:O 117 F117:=okF (ah ok71 aj) [] On Tryz.func117 rfl
abbrev aji:Cut:=⟨[1,2,4,6,7,8,12],[.box 44 [cI,cI,.cell tu,.cell qo,.cell .bool,.cell .bool,.cell .bool,.own 94 acT,.cell jf,.cell jw,.cell tq,.cell jf,.cell jw],.box 44 [cI,cI,.nil,.nil,.cell .bool,.cell .bool,.cell .bool,.nil,.nil,.nil,.nil,.nil,.nil],cI,.box 94 [cI,cI,cI,cI,cI,cI,cI,cI,cI,cI,cI,cI,cI,.cell wz,.cell .bool,cI,cI,cI,cI,cI,cI,cI,cI,cI,.cell wz,.cell .bool,.cell jf,.cell .bool],.box 77 [cI,cI,cI,.cell wu,.cell wu,.cell wu],.own 82 A8,.box 94 [cI,cI,cI,cI,cI,cI,cI,cI,cI,cI,cI,cI,cI,.cell wz,.cell .bool,cI,cI,cI,cI,cI,cI,cI,cI,cI,.cell wz,.cell .bool,.cell jf,.cell .bool]],[],205,[]⟩
def JI (k:Nat) (a b:Int) (c:List mq) (e:List (PN Int 5)) (f h i:Bool) (l:List lu) (m:List Int) (n:List Bool) (o:List j4) (p:List Int) (s:List Bool) (t u:Int) (v w y:Bool) (z A B C D G H I J K M N O P:Int) (Q:List j6) (T:Bool) (U V W X Z a1 b1 c1 e1:Int) (f1:List j6) (h1:Bool) (i1:List Int) (l1:Bool) (m1 n1 o1:Int) (p1 s1 t1:List qg) (u1:List (PN Int 6)) (v1 w1 y1 z1 a2 b2 c2 e2 f2 h2 i2 l2 m2:Int) (n2:List j6) (o2:Bool) (p2 s2 t2 u2 v2 w2 y2 z2 a3:Int) (b3:List j6) (c3:Bool) (e3:List Int) (f3:Bool):Option o9 :=
 (agw k (p,s) A).bind fun q19 =>
 (bif decide ((t1.length:Int)>0) then
  (agx k (v1,w1,y1,z1,(a2,(b2,c2,e2,f2,h2,i2,l2,m2),n2,o2),(p2,(s2,t2,u2,v2,w2,y2,z2,a3),b3,c3),e3,f3)).bind fun q20 =>
  (S61 k l z q20.1.1).bind fun q21 =>
  some (((a,b,c,e,f,h,i,q21.1.1,((m,n),o),q19.1.1),u1,()),())
 else
  (S54 k l z).bind fun q22 =>
  some (((a,b,c,e,f,h,i,q22.1.1,((m,n),o),q19.1.1),u1,()),()))
abbrev ajj:Cut:=⟨[1,2,4,6,7,8,12,15],[.box 44 [cI,cI,.cell tu,.cell qo,.cell .bool,.cell .bool,.cell .bool,.cell qp,.cell jf,.cell jw,.cell tq,.cell jf,.cell jw],.box 44 [cI,cI,.nil,.nil,.cell .bool,.cell .bool,.cell .bool,.nil,.nil,.nil,.nil,.nil,.nil],cI,.box 94 [cI,cI,cI,cI,cI,cI,cI,cI,cI,cI,cI,cI,cI,.cell wz,.cell .bool,cI,cI,cI,cI,cI,cI,cI,cI,cI,.cell wz,.cell .bool,.cell jf,.cell .bool],.box 77 [cI,cI,cI,.cell wu,.cell wu,.cell wu],.own 82 A8,.box 94 [cI,cI,cI,cI,cI,cI,cI,cI,cI,cI,cI,cI,cI,.cell wz,.cell .bool,cI,cI,cI,cI,cI,cI,cI,cI,cI,.cell wz,.cell .bool,.cell jf,.cell .bool],.own 114 G5],[],205,[]⟩
def Um (k:Nat) (a b:Int) (c:List mq) (e:List (PN Int 5)) (f h i:Bool) (l:List lu) (m:List Int) (n:List Bool) (o:List j4) (p:List Int) (s:List Bool) (t u:Int) (v w y:Bool) (z A B C D G H I J K M N O P:Int) (Q:List j6) (T:Bool) (U V W X Z a1 b1 c1 e1:Int) (f1:List j6) (h1:Bool) (i1:List Int) (l1:Bool) (m1 n1 o1:Int) (p1 s1 t1:List qg) (u1:List (PN Int 6)) (v1 w1 y1 z1 a2 b2 c2 e2 f2 h2 i2 l2 m2:Int) (n2:List j6) (o2:Bool) (p2 s2 t2 u2 v2 w2 y2 z2 a3:Int) (b3:List j6) (c3:Bool) (e3:List Int) (f3:Bool) (h3:vg):Option o9 :=
 (S43 k (a,b,c,e,f,h,i,l,((m,n),o),p,s) h3).bind fun ug =>
 (S61 k ug.1.1.2.2.2.2.2.2.2.1 z (v1,w1,y1,z1,(a2,(b2,c2,e2,f2,h2,i2,l2,m2),n2,o2),(p2,(s2,t2,u2,v2,w2,y2,z2,a3),b3,c3),e3,f3)).bind fun q14 =>
 (bif !o2 then
  some (((ug.1.1.1,ug.1.1.2.1,ug.1.1.2.2.1,ug.1.1.2.2.2.1,ug.1.1.2.2.2.2.1,ug.1.1.2.2.2.2.2.1,ug.1.1.2.2.2.2.2.2.1,q14.1.1,ug.1.1.2.2.2.2.2.2.2.2),u1,()),())
 else
  (bif D==2 then
   (S54 k q14.1.1 z).bind fun q15 =>
   ap u1 ([(ug.1.1.1,4,A,0,b2,0)]:List (PN Int 6)) 48 fun r16 =>
   some (((ug.1.1.1,ug.1.1.2.1,ug.1.1.2.2.1,ug.1.1.2.2.2.1,ug.1.1.2.2.2.2.1,ug.1.1.2.2.2.2.2.1,ug.1.1.2.2.2.2.2.2.1,q15.1.1,ug.1.1.2.2.2.2.2.2.2.2),r16,()),())
  else
   ap u1 ([(ug.1.1.1,3,A,0,b2,0)]:List (PN Int 6)) 48 fun r17 =>
   (bif decide ((s1.length:Int)>0) then
    (bif D==0 then
     ap r17 ([(ug.1.1.1,8,A,0,0,0)]:List (PN Int 6)) 48 fun r18 =>
     JI k ug.1.1.1 ug.1.1.2.1 ug.1.1.2.2.1 ug.1.1.2.2.2.1 ug.1.1.2.2.2.2.1 ug.1.1.2.2.2.2.2.1 ug.1.1.2.2.2.2.2.2.1 q14.1.1 ug.1.1.2.2.2.2.2.2.2.2.1.1.1 ug.1.1.2.2.2.2.2.2.2.2.1.1.2 ug.1.1.2.2.2.2.2.2.2.2.1.2 ug.1.1.2.2.2.2.2.2.2.2.2.1 ug.1.1.2.2.2.2.2.2.2.2.2.2 t u v w y z A B C D G H I J K M N O P Q T U V W X Z a1 b1 c1 e1 f1 h1 i1 l1 m1 n1 o1 p1 s1 t1 r18 v1 w1 y1 z1 a2 b2 c2 e2 f2 h2 i2 l2 m2 n2 o2 p2 s2 t2 u2 v2 w2 y2 z2 a3 b3 c3 e3 f3
    else
     JI k ug.1.1.1 ug.1.1.2.1 ug.1.1.2.2.1 ug.1.1.2.2.2.1 ug.1.1.2.2.2.2.1 ug.1.1.2.2.2.2.2.1 ug.1.1.2.2.2.2.2.2.1 q14.1.1 ug.1.1.2.2.2.2.2.2.2.2.1.1.1 ug.1.1.2.2.2.2.2.2.2.2.1.1.2 ug.1.1.2.2.2.2.2.2.2.2.1.2 ug.1.1.2.2.2.2.2.2.2.2.2.1 ug.1.1.2.2.2.2.2.2.2.2.2.2 t u v w y z A B C D G H I J K M N O P Q T U V W X Z a1 b1 c1 e1 f1 h1 i1 l1 m1 n1 o1 p1 s1 t1 r17 v1 w1 y1 z1 a2 b2 c2 e2 f2 h2 i2 l2 m2 n2 o2 p2 s2 t2 u2 v2 w2 y2 z2 a3 b3 c3 e3 f3)
   else
    JI k ug.1.1.1 ug.1.1.2.1 ug.1.1.2.2.1 ug.1.1.2.2.2.1 ug.1.1.2.2.2.2.1 ug.1.1.2.2.2.2.2.1 ug.1.1.2.2.2.2.2.2.1 q14.1.1 ug.1.1.2.2.2.2.2.2.2.2.1.1.1 ug.1.1.2.2.2.2.2.2.2.2.1.1.2 ug.1.1.2.2.2.2.2.2.2.2.1.2 ug.1.1.2.2.2.2.2.2.2.2.2.1 ug.1.1.2.2.2.2.2.2.2.2.2.2 t u v w y z A B C D G H I J K M N O P Q T U V W X Z a1 b1 c1 e1 f1 h1 i1 l1 m1 n1 o1 p1 s1 t1 r17 v1 w1 y1 z1 a2 b2 c2 e2 f2 h2 i2 l2 m2 n2 o2 p2 s2 t2 u2 v2 w2 y2 z2 a3 b3 c3 e3 f3)))
abbrev ajk:Cut:=⟨[1,2,4,6,7,8,12,13,15],[.box 44 [cI,cI,.cell tu,.cell qo,.cell .bool,.cell .bool,.cell .bool,.cell qp,.cell jf,.cell jw,.cell tq,.cell jf,.cell jw],.box 44 [cI,cI,.nil,.nil,.cell .bool,.cell .bool,.cell .bool,.nil,.nil,.nil,.nil,.nil,.nil],cI,.box 94 [cI,cI,cI,cI,cI,cI,cI,cI,cI,cI,cI,cI,cI,.cell wz,.cell .bool,cI,cI,cI,cI,cI,cI,cI,cI,cI,.cell wz,.cell .bool,.cell jf,.cell .bool],.box 77 [cI,cI,cI,.cell wu,.cell wu,.cell wu],.own 82 A8,.box 94 [cI,cI,cI,cI,cI,cI,cI,cI,cI,cI,cI,cI,cI,.cell wz,.cell .bool,cI,cI,cI,cI,cI,cI,cI,cI,cI,.cell wz,.cell .bool,.cell jf,.cell .bool],.box 87 [cI,cI,cI,cI],.own 114 G5],[],205,[]⟩
def Un (k:Nat) (a b:Int) (c:List mq) (e:List (PN Int 5)) (f h i:Bool) (l:List lu) (m:List Int) (n:List Bool) (o:List j4) (p:List Int) (s:List Bool) (t u:Int) (v w y:Bool) (z A B C D G H I J K M N O P:Int) (Q:List j6) (T:Bool) (U V W X Z a1 b1 c1 e1:Int) (f1:List j6) (h1:Bool) (i1:List Int) (l1:Bool) (m1 n1 o1:Int) (p1 s1 t1:List qg) (u1:List (PN Int 6)) (x v1 w1 y1 z1 a2 b2 c2 e2 f2 h2 i2 l2:Int) (m2:List j6) (n2:Bool) (o2 p2 s2 t2 u2 v2 w2 y2 z2:Int) (a3:List j6) (b3:Bool) (c3:List Int) (e3:Bool) (f3 h3 i3 l3:Int) (m3:vg):Option o9 :=
 (bif f3==10 then
  (apd k m3 h3 A).bind fun q12 =>
  Um k a b c e f h i l m n o p s t u v w y z A B C D G H I J K M N O P Q T U V W X Z a1 b1 c1 e1 f1 h1 i1 l1 m1 n1 o1 p1 s1 t1 u1 x v1 w1 y1 z1 a2 b2 c2 e2 f2 h2 i2 l2 m2 n2 o2 p2 s2 t2 u2 v2 w2 y2 z2 a3 b3 c3 e3 q12.1.1
 else
  Um k a b c e f h i l m n o p s t u v w y z A B C D G H I J K M N O P Q T U V W X Z a1 b1 c1 e1 f1 h1 i1 l1 m1 n1 o1 p1 s1 t1 u1 x v1 w1 y1 z1 a2 b2 c2 e2 f2 h2 i2 l2 m2 n2 o2 p2 s2 t2 u2 v2 w2 y2 z2 a3 b3 c3 e3 m3)
def S63 (k:Nat) (Q:KM):Option o9 :=
 (S42 k Q).bind fun q0 =>
 (aja k Q.2.2.2.2.2.2.2.1 (Q.2.2.1.length:Int) q0.1.1).bind fun q1 =>
 (bif !q1.1.2.1 then
  some ((Q,[],()),())
 else
  ix Q.2.2.2.2.2.2.2.1 q1.1.1 <|
  ix Q.2.2.1 (rd Q.2.2.2.2.2.2.2.1 q1.1.1 (0,0,0,0,(0,Pv (α:=Int) 8 0,[],false),(0,Pv (α:=Int) 8 0,[],false),[],false)).1 <|
  (bif Q.2.2.2.2.2.2.1 then
   (S42 k Q).bind fun q2 =>
   (ajb k (rd Q.2.2.1 (rd Q.2.2.2.2.2.2.2.1 q1.1.1 (0,0,0,0,(0,Pv (α:=Int) 8 0,[],false),(0,Pv (α:=Int) 8 0,[],false),[],false)).1 (0,0,0,[],[],[])) (rd Q.2.2.2.2.2.2.2.1 q1.1.1 (0,0,0,0,(0,Pv (α:=Int) 8 0,[],false),(0,Pv (α:=Int) 8 0,[],false),[],false)) q2.1.1).bind fun q3 =>
   (S43 k Q q3.1.2.1).bind fun q4 =>
   (bif q3.1.2.2.1==13 then
    (S54 k q4.1.1.2.2.2.2.2.2.2.1 q1.1.1).bind fun q5 =>
    ap ([(Q.1,2,(rd Q.2.2.2.2.2.2.2.1 q1.1.1 (0,0,0,0,(0,Pv (α:=Int) 8 0,[],false),(0,Pv (α:=Int) 8 0,[],false),[],false)).1,0,0,0)]:List (PN Int 6)) ([(q4.1.1.1,q3.1.2.2.1,(rd Q.2.2.2.2.2.2.2.1 q1.1.1 (0,0,0,0,(0,Pv (α:=Int) 8 0,[],false),(0,Pv (α:=Int) 8 0,[],false),[],false)).1,0,0,0)]:List (PN Int 6)) 48 fun r6 =>
    some (((q4.1.1.1,q4.1.1.2.1,q4.1.1.2.2.1,q4.1.1.2.2.2.1,q4.1.1.2.2.2.2.1,q4.1.1.2.2.2.2.2.1,q4.1.1.2.2.2.2.2.2.1,q5.1.1,q4.1.1.2.2.2.2.2.2.2.2),r6,()),())
   else
    (S61 k q4.1.1.2.2.2.2.2.2.2.1 q1.1.1 q3.1.1).bind fun q7 =>
    ap ([(Q.1,2,(rd Q.2.2.2.2.2.2.2.1 q1.1.1 (0,0,0,0,(0,Pv (α:=Int) 8 0,[],false),(0,Pv (α:=Int) 8 0,[],false),[],false)).1,0,0,0)]:List (PN Int 6)) ([(q4.1.1.1,q3.1.2.2.1,(rd Q.2.2.2.2.2.2.2.1 q1.1.1 (0,0,0,0,(0,Pv (α:=Int) 8 0,[],false),(0,Pv (α:=Int) 8 0,[],false),[],false)).1,0,0,0)]:List (PN Int 6)) 48 fun r8 =>
    some (((q4.1.1.1,q4.1.1.2.1,q4.1.1.2.2.1,q4.1.1.2.2.2.1,q4.1.1.2.2.2.2.1,q4.1.1.2.2.2.2.2.1,q4.1.1.2.2.2.2.2.2.1,q7.1.1,q4.1.1.2.2.2.2.2.2.2.2),r8,()),()))
  else
   (ajh k (rd Q.2.2.1 (rd Q.2.2.2.2.2.2.2.1 q1.1.1 (0,0,0,0,(0,Pv (α:=Int) 8 0,[],false),(0,Pv (α:=Int) 8 0,[],false),[],false)).1 (0,0,0,[],[],[])) (rd Q.2.2.2.2.2.2.2.1 q1.1.1 (0,0,0,0,(0,Pv (α:=Int) 8 0,[],false),(0,Pv (α:=Int) 8 0,[],false),[],false))).bind fun (((a,b,c,e,(f,(h,i,l,m,n,o,p,s),t,u),(v,(w,y,z,A,B,C,D,G),H,I),J,K),(M,N,O,P),_),_) =>
   (S42 k Q).bind fun Q0 =>
   (bif M==9 then
    (apc k Q0.1.1 N (rd Q.2.2.2.2.2.2.2.1 q1.1.1 (0,0,0,0,(0,Pv (α:=Int) 8 0,[],false),(0,Pv (α:=Int) 8 0,[],false),[],false)).1).bind fun MS =>
    Un k Q.1 Q.2.1 Q.2.2.1 Q.2.2.2.1 Q.2.2.2.2.1 Q.2.2.2.2.2.1 Q.2.2.2.2.2.2.1 Q.2.2.2.2.2.2.2.1 Q.2.2.2.2.2.2.2.2.1.1.1 Q.2.2.2.2.2.2.2.2.1.1.2 Q.2.2.2.2.2.2.2.2.1.2 Q.2.2.2.2.2.2.2.2.2.1 Q.2.2.2.2.2.2.2.2.2.2 0 0 false false false q1.1.1 (rd Q.2.2.2.2.2.2.2.1 q1.1.1 (0,0,0,0,(0,Pv (α:=Int) 8 0,[],false),(0,Pv (α:=Int) 8 0,[],false),[],false)).1 (rd Q.2.2.2.2.2.2.2.1 q1.1.1 (0,0,0,0,(0,Pv (α:=Int) 8 0,[],false),(0,Pv (α:=Int) 8 0,[],false),[],false)).2.1 (rd Q.2.2.2.2.2.2.2.1 q1.1.1 (0,0,0,0,(0,Pv (α:=Int) 8 0,[],false),(0,Pv (α:=Int) 8 0,[],false),[],false)).2.2.1 (rd Q.2.2.2.2.2.2.2.1 q1.1.1 (0,0,0,0,(0,Pv (α:=Int) 8 0,[],false),(0,Pv (α:=Int) 8 0,[],false),[],false)).2.2.2.1 (rd Q.2.2.2.2.2.2.2.1 q1.1.1 (0,0,0,0,(0,Pv (α:=Int) 8 0,[],false),(0,Pv (α:=Int) 8 0,[],false),[],false)).2.2.2.2.1.1 (rd Q.2.2.2.2.2.2.2.1 q1.1.1 (0,0,0,0,(0,Pv (α:=Int) 8 0,[],false),(0,Pv (α:=Int) 8 0,[],false),[],false)).2.2.2.2.1.2.1.1 (rd Q.2.2.2.2.2.2.2.1 q1.1.1 (0,0,0,0,(0,Pv (α:=Int) 8 0,[],false),(0,Pv (α:=Int) 8 0,[],false),[],false)).2.2.2.2.1.2.1.2.1 (rd Q.2.2.2.2.2.2.2.1 q1.1.1 (0,0,0,0,(0,Pv (α:=Int) 8 0,[],false),(0,Pv (α:=Int) 8 0,[],false),[],false)).2.2.2.2.1.2.1.2.2.1 (rd Q.2.2.2.2.2.2.2.1 q1.1.1 (0,0,0,0,(0,Pv (α:=Int) 8 0,[],false),(0,Pv (α:=Int) 8 0,[],false),[],false)).2.2.2.2.1.2.1.2.2.2.1 (rd Q.2.2.2.2.2.2.2.1 q1.1.1 (0,0,0,0,(0,Pv (α:=Int) 8 0,[],false),(0,Pv (α:=Int) 8 0,[],false),[],false)).2.2.2.2.1.2.1.2.2.2.2.1 (rd Q.2.2.2.2.2.2.2.1 q1.1.1 (0,0,0,0,(0,Pv (α:=Int) 8 0,[],false),(0,Pv (α:=Int) 8 0,[],false),[],false)).2.2.2.2.1.2.1.2.2.2.2.2.1 (rd Q.2.2.2.2.2.2.2.1 q1.1.1 (0,0,0,0,(0,Pv (α:=Int) 8 0,[],false),(0,Pv (α:=Int) 8 0,[],false),[],false)).2.2.2.2.1.2.1.2.2.2.2.2.2.1 (rd Q.2.2.2.2.2.2.2.1 q1.1.1 (0,0,0,0,(0,Pv (α:=Int) 8 0,[],false),(0,Pv (α:=Int) 8 0,[],false),[],false)).2.2.2.2.1.2.1.2.2.2.2.2.2.2 (rd Q.2.2.2.2.2.2.2.1 q1.1.1 (0,0,0,0,(0,Pv (α:=Int) 8 0,[],false),(0,Pv (α:=Int) 8 0,[],false),[],false)).2.2.2.2.1.2.2.1 (rd Q.2.2.2.2.2.2.2.1 q1.1.1 (0,0,0,0,(0,Pv (α:=Int) 8 0,[],false),(0,Pv (α:=Int) 8 0,[],false),[],false)).2.2.2.2.1.2.2.2 (rd Q.2.2.2.2.2.2.2.1 q1.1.1 (0,0,0,0,(0,Pv (α:=Int) 8 0,[],false),(0,Pv (α:=Int) 8 0,[],false),[],false)).2.2.2.2.2.1.1 (rd Q.2.2.2.2.2.2.2.1 q1.1.1 (0,0,0,0,(0,Pv (α:=Int) 8 0,[],false),(0,Pv (α:=Int) 8 0,[],false),[],false)).2.2.2.2.2.1.2.1.1 (rd Q.2.2.2.2.2.2.2.1 q1.1.1 (0,0,0,0,(0,Pv (α:=Int) 8 0,[],false),(0,Pv (α:=Int) 8 0,[],false),[],false)).2.2.2.2.2.1.2.1.2.1 (rd Q.2.2.2.2.2.2.2.1 q1.1.1 (0,0,0,0,(0,Pv (α:=Int) 8 0,[],false),(0,Pv (α:=Int) 8 0,[],false),[],false)).2.2.2.2.2.1.2.1.2.2.1 (rd Q.2.2.2.2.2.2.2.1 q1.1.1 (0,0,0,0,(0,Pv (α:=Int) 8 0,[],false),(0,Pv (α:=Int) 8 0,[],false),[],false)).2.2.2.2.2.1.2.1.2.2.2.1 (rd Q.2.2.2.2.2.2.2.1 q1.1.1 (0,0,0,0,(0,Pv (α:=Int) 8 0,[],false),(0,Pv (α:=Int) 8 0,[],false),[],false)).2.2.2.2.2.1.2.1.2.2.2.2.1 (rd Q.2.2.2.2.2.2.2.1 q1.1.1 (0,0,0,0,(0,Pv (α:=Int) 8 0,[],false),(0,Pv (α:=Int) 8 0,[],false),[],false)).2.2.2.2.2.1.2.1.2.2.2.2.2.1 (rd Q.2.2.2.2.2.2.2.1 q1.1.1 (0,0,0,0,(0,Pv (α:=Int) 8 0,[],false),(0,Pv (α:=Int) 8 0,[],false),[],false)).2.2.2.2.2.1.2.1.2.2.2.2.2.2.1 (rd Q.2.2.2.2.2.2.2.1 q1.1.1 (0,0,0,0,(0,Pv (α:=Int) 8 0,[],false),(0,Pv (α:=Int) 8 0,[],false),[],false)).2.2.2.2.2.1.2.1.2.2.2.2.2.2.2 (rd Q.2.2.2.2.2.2.2.1 q1.1.1 (0,0,0,0,(0,Pv (α:=Int) 8 0,[],false),(0,Pv (α:=Int) 8 0,[],false),[],false)).2.2.2.2.2.1.2.2.1 (rd Q.2.2.2.2.2.2.2.1 q1.1.1 (0,0,0,0,(0,Pv (α:=Int) 8 0,[],false),(0,Pv (α:=Int) 8 0,[],false),[],false)).2.2.2.2.2.1.2.2.2 (rd Q.2.2.2.2.2.2.2.1 q1.1.1 (0,0,0,0,(0,Pv (α:=Int) 8 0,[],false),(0,Pv (α:=Int) 8 0,[],false),[],false)).2.2.2.2.2.2.1 (rd Q.2.2.2.2.2.2.2.1 q1.1.1 (0,0,0,0,(0,Pv (α:=Int) 8 0,[],false),(0,Pv (α:=Int) 8 0,[],false),[],false)).2.2.2.2.2.2.2 (rd Q.2.2.1 (rd Q.2.2.2.2.2.2.2.1 q1.1.1 (0,0,0,0,(0,Pv (α:=Int) 8 0,[],false),(0,Pv (α:=Int) 8 0,[],false),[],false)).1 (0,0,0,[],[],[])).1 (rd Q.2.2.1 (rd Q.2.2.2.2.2.2.2.1 q1.1.1 (0,0,0,0,(0,Pv (α:=Int) 8 0,[],false),(0,Pv (α:=Int) 8 0,[],false),[],false)).1 (0,0,0,[],[],[])).2.1 (rd Q.2.2.1 (rd Q.2.2.2.2.2.2.2.1 q1.1.1 (0,0,0,0,(0,Pv (α:=Int) 8 0,[],false),(0,Pv (α:=Int) 8 0,[],false),[],false)).1 (0,0,0,[],[],[])).2.2.1 (rd Q.2.2.1 (rd Q.2.2.2.2.2.2.2.1 q1.1.1 (0,0,0,0,(0,Pv (α:=Int) 8 0,[],false),(0,Pv (α:=Int) 8 0,[],false),[],false)).1 (0,0,0,[],[],[])).2.2.2.1 (rd Q.2.2.1 (rd Q.2.2.2.2.2.2.2.1 q1.1.1 (0,0,0,0,(0,Pv (α:=Int) 8 0,[],false),(0,Pv (α:=Int) 8 0,[],false),[],false)).1 (0,0,0,[],[],[])).2.2.2.2.1 (rd Q.2.2.1 (rd Q.2.2.2.2.2.2.2.1 q1.1.1 (0,0,0,0,(0,Pv (α:=Int) 8 0,[],false),(0,Pv (α:=Int) 8 0,[],false),[],false)).1 (0,0,0,[],[],[])).2.2.2.2.2 ([(Q.1,2,(rd Q.2.2.2.2.2.2.2.1 q1.1.1 (0,0,0,0,(0,Pv (α:=Int) 8 0,[],false),(0,Pv (α:=Int) 8 0,[],false),[],false)).1,0,0,0)]:List (PN Int 6)) a b c e f h i l m n o p s t u v w y z A B C D G H I J K M N O P MS.1.1
   else
    Un k Q.1 Q.2.1 Q.2.2.1 Q.2.2.2.1 Q.2.2.2.2.1 Q.2.2.2.2.2.1 Q.2.2.2.2.2.2.1 Q.2.2.2.2.2.2.2.1 Q.2.2.2.2.2.2.2.2.1.1.1 Q.2.2.2.2.2.2.2.2.1.1.2 Q.2.2.2.2.2.2.2.2.1.2 Q.2.2.2.2.2.2.2.2.2.1 Q.2.2.2.2.2.2.2.2.2.2 0 0 false false false q1.1.1 (rd Q.2.2.2.2.2.2.2.1 q1.1.1 (0,0,0,0,(0,Pv (α:=Int) 8 0,[],false),(0,Pv (α:=Int) 8 0,[],false),[],false)).1 (rd Q.2.2.2.2.2.2.2.1 q1.1.1 (0,0,0,0,(0,Pv (α:=Int) 8 0,[],false),(0,Pv (α:=Int) 8 0,[],false),[],false)).2.1 (rd Q.2.2.2.2.2.2.2.1 q1.1.1 (0,0,0,0,(0,Pv (α:=Int) 8 0,[],false),(0,Pv (α:=Int) 8 0,[],false),[],false)).2.2.1 (rd Q.2.2.2.2.2.2.2.1 q1.1.1 (0,0,0,0,(0,Pv (α:=Int) 8 0,[],false),(0,Pv (α:=Int) 8 0,[],false),[],false)).2.2.2.1 (rd Q.2.2.2.2.2.2.2.1 q1.1.1 (0,0,0,0,(0,Pv (α:=Int) 8 0,[],false),(0,Pv (α:=Int) 8 0,[],false),[],false)).2.2.2.2.1.1 (rd Q.2.2.2.2.2.2.2.1 q1.1.1 (0,0,0,0,(0,Pv (α:=Int) 8 0,[],false),(0,Pv (α:=Int) 8 0,[],false),[],false)).2.2.2.2.1.2.1.1 (rd Q.2.2.2.2.2.2.2.1 q1.1.1 (0,0,0,0,(0,Pv (α:=Int) 8 0,[],false),(0,Pv (α:=Int) 8 0,[],false),[],false)).2.2.2.2.1.2.1.2.1 (rd Q.2.2.2.2.2.2.2.1 q1.1.1 (0,0,0,0,(0,Pv (α:=Int) 8 0,[],false),(0,Pv (α:=Int) 8 0,[],false),[],false)).2.2.2.2.1.2.1.2.2.1 (rd Q.2.2.2.2.2.2.2.1 q1.1.1 (0,0,0,0,(0,Pv (α:=Int) 8 0,[],false),(0,Pv (α:=Int) 8 0,[],false),[],false)).2.2.2.2.1.2.1.2.2.2.1 (rd Q.2.2.2.2.2.2.2.1 q1.1.1 (0,0,0,0,(0,Pv (α:=Int) 8 0,[],false),(0,Pv (α:=Int) 8 0,[],false),[],false)).2.2.2.2.1.2.1.2.2.2.2.1 (rd Q.2.2.2.2.2.2.2.1 q1.1.1 (0,0,0,0,(0,Pv (α:=Int) 8 0,[],false),(0,Pv (α:=Int) 8 0,[],false),[],false)).2.2.2.2.1.2.1.2.2.2.2.2.1 (rd Q.2.2.2.2.2.2.2.1 q1.1.1 (0,0,0,0,(0,Pv (α:=Int) 8 0,[],false),(0,Pv (α:=Int) 8 0,[],false),[],false)).2.2.2.2.1.2.1.2.2.2.2.2.2.1 (rd Q.2.2.2.2.2.2.2.1 q1.1.1 (0,0,0,0,(0,Pv (α:=Int) 8 0,[],false),(0,Pv (α:=Int) 8 0,[],false),[],false)).2.2.2.2.1.2.1.2.2.2.2.2.2.2 (rd Q.2.2.2.2.2.2.2.1 q1.1.1 (0,0,0,0,(0,Pv (α:=Int) 8 0,[],false),(0,Pv (α:=Int) 8 0,[],false),[],false)).2.2.2.2.1.2.2.1 (rd Q.2.2.2.2.2.2.2.1 q1.1.1 (0,0,0,0,(0,Pv (α:=Int) 8 0,[],false),(0,Pv (α:=Int) 8 0,[],false),[],false)).2.2.2.2.1.2.2.2 (rd Q.2.2.2.2.2.2.2.1 q1.1.1 (0,0,0,0,(0,Pv (α:=Int) 8 0,[],false),(0,Pv (α:=Int) 8 0,[],false),[],false)).2.2.2.2.2.1.1 (rd Q.2.2.2.2.2.2.2.1 q1.1.1 (0,0,0,0,(0,Pv (α:=Int) 8 0,[],false),(0,Pv (α:=Int) 8 0,[],false),[],false)).2.2.2.2.2.1.2.1.1 (rd Q.2.2.2.2.2.2.2.1 q1.1.1 (0,0,0,0,(0,Pv (α:=Int) 8 0,[],false),(0,Pv (α:=Int) 8 0,[],false),[],false)).2.2.2.2.2.1.2.1.2.1 (rd Q.2.2.2.2.2.2.2.1 q1.1.1 (0,0,0,0,(0,Pv (α:=Int) 8 0,[],false),(0,Pv (α:=Int) 8 0,[],false),[],false)).2.2.2.2.2.1.2.1.2.2.1 (rd Q.2.2.2.2.2.2.2.1 q1.1.1 (0,0,0,0,(0,Pv (α:=Int) 8 0,[],false),(0,Pv (α:=Int) 8 0,[],false),[],false)).2.2.2.2.2.1.2.1.2.2.2.1 (rd Q.2.2.2.2.2.2.2.1 q1.1.1 (0,0,0,0,(0,Pv (α:=Int) 8 0,[],false),(0,Pv (α:=Int) 8 0,[],false),[],false)).2.2.2.2.2.1.2.1.2.2.2.2.1 (rd Q.2.2.2.2.2.2.2.1 q1.1.1 (0,0,0,0,(0,Pv (α:=Int) 8 0,[],false),(0,Pv (α:=Int) 8 0,[],false),[],false)).2.2.2.2.2.1.2.1.2.2.2.2.2.1 (rd Q.2.2.2.2.2.2.2.1 q1.1.1 (0,0,0,0,(0,Pv (α:=Int) 8 0,[],false),(0,Pv (α:=Int) 8 0,[],false),[],false)).2.2.2.2.2.1.2.1.2.2.2.2.2.2.1 (rd Q.2.2.2.2.2.2.2.1 q1.1.1 (0,0,0,0,(0,Pv (α:=Int) 8 0,[],false),(0,Pv (α:=Int) 8 0,[],false),[],false)).2.2.2.2.2.1.2.1.2.2.2.2.2.2.2 (rd Q.2.2.2.2.2.2.2.1 q1.1.1 (0,0,0,0,(0,Pv (α:=Int) 8 0,[],false),(0,Pv (α:=Int) 8 0,[],false),[],false)).2.2.2.2.2.1.2.2.1 (rd Q.2.2.2.2.2.2.2.1 q1.1.1 (0,0,0,0,(0,Pv (α:=Int) 8 0,[],false),(0,Pv (α:=Int) 8 0,[],false),[],false)).2.2.2.2.2.1.2.2.2 (rd Q.2.2.2.2.2.2.2.1 q1.1.1 (0,0,0,0,(0,Pv (α:=Int) 8 0,[],false),(0,Pv (α:=Int) 8 0,[],false),[],false)).2.2.2.2.2.2.1 (rd Q.2.2.2.2.2.2.2.1 q1.1.1 (0,0,0,0,(0,Pv (α:=Int) 8 0,[],false),(0,Pv (α:=Int) 8 0,[],false),[],false)).2.2.2.2.2.2.2 (rd Q.2.2.1 (rd Q.2.2.2.2.2.2.2.1 q1.1.1 (0,0,0,0,(0,Pv (α:=Int) 8 0,[],false),(0,Pv (α:=Int) 8 0,[],false),[],false)).1 (0,0,0,[],[],[])).1 (rd Q.2.2.1 (rd Q.2.2.2.2.2.2.2.1 q1.1.1 (0,0,0,0,(0,Pv (α:=Int) 8 0,[],false),(0,Pv (α:=Int) 8 0,[],false),[],false)).1 (0,0,0,[],[],[])).2.1 (rd Q.2.2.1 (rd Q.2.2.2.2.2.2.2.1 q1.1.1 (0,0,0,0,(0,Pv (α:=Int) 8 0,[],false),(0,Pv (α:=Int) 8 0,[],false),[],false)).1 (0,0,0,[],[],[])).2.2.1 (rd Q.2.2.1 (rd Q.2.2.2.2.2.2.2.1 q1.1.1 (0,0,0,0,(0,Pv (α:=Int) 8 0,[],false),(0,Pv (α:=Int) 8 0,[],false),[],false)).1 (0,0,0,[],[],[])).2.2.2.1 (rd Q.2.2.1 (rd Q.2.2.2.2.2.2.2.1 q1.1.1 (0,0,0,0,(0,Pv (α:=Int) 8 0,[],false),(0,Pv (α:=Int) 8 0,[],false),[],false)).1 (0,0,0,[],[],[])).2.2.2.2.1 (rd Q.2.2.1 (rd Q.2.2.2.2.2.2.2.1 q1.1.1 (0,0,0,0,(0,Pv (α:=Int) 8 0,[],false),(0,Pv (α:=Int) 8 0,[],false),[],false)).1 (0,0,0,[],[],[])).2.2.2.2.2 ([(Q.1,2,(rd Q.2.2.2.2.2.2.2.1 q1.1.1 (0,0,0,0,(0,Pv (α:=Int) 8 0,[],false),(0,Pv (α:=Int) 8 0,[],false),[],false)).1,0,0,0)]:List (PN Int 6)) a b c e f h i l m n o p s t u v w y z A B C D G H I J K M N O P Q0.1.1)))
def F63:Fn:=⟨[KQ],[KR,acV],fun k x=>S63 k x.1⟩
theorem ok63:O 63 F63:=okF (ah ok42 <| ah ok43 <| ah ok54 <| ah ok61 <| ah ok111 <| ah ok112 <| ah ok113 <| ah ok114 <| ah ok115 <| ah ok116 <| ah ok117 aj) [] (fun k=>(.join 31 aji (fun (_,(a,b,c,e,f,h,i,l,m,n,o,p,s,_),(t,u,_,_,v,w,y,_),z,(A,B,C,D,G,H,I,J,K,M,N,O,P,Q,T,U,V,W,X,Z,a1,b1,c1,e1,f1,h1,i1,l1,_),(m1,n1,o1,p1,s1,t1,_),u1,(v1,w1,y1,z1,a2,b2,c2,e2,f2,h2,i2,l2,m2,n2,o2,p2,s2,t2,u2,v2,w2,y2,z2,a3,b3,c3,e3,f3,_),_)=>JI k a b c e f h i l m n o p s t u v w y z A B C D G H I J K M N O P Q T U V W X Z a1 b1 c1 e1 f1 h1 i1 l1 m1 n1 o1 p1 s1 t1 u1 v1 w1 y1 z1 a2 b2 c2 e2 f2 h2 i2 l2 m2 n2 o2 p2 s2 t2 u2 v2 w2 y2 z2 a3 b3 c3 e3 f3) (.join 20 ajj (fun (_,(a,b,c,e,f,h,i,l,m,n,o,p,s,_),(t,u,_,_,v,w,y,_),z,(A,B,C,D,G,H,I,J,K,M,N,O,P,Q,T,U,V,W,X,Z,a1,b1,c1,e1,f1,h1,i1,l1,_),(m1,n1,o1,p1,s1,t1,_),u1,(v1,w1,y1,z1,a2,b2,c2,e2,f2,h2,i2,l2,m2,n2,o2,p2,s2,t2,u2,v2,w2,y2,z2,a3,b3,c3,e3,f3,_),h3,_)=>Um k a b c e f h i l m n o p s t u v w y z A B C D G H I J K M N O P Q T U V W X Z a1 b1 c1 e1 f1 h1 i1 l1 m1 n1 o1 p1 s1 t1 u1 v1 w1 y1 z1 a2 b2 c2 e2 f2 h2 i2 l2 m2 n2 o2 p2 s2 t2 u2 v2 w2 y2 z2 a3 b3 c3 e3 f3 h3) (.join 18 ajk (fun (_,(a,b,c,e,f,h,i,l,m,n,o,p,s,_),(t,u,_,_,v,w,y,_),z,(A,B,C,D,G,H,I,J,K,M,N,O,P,Q,T,U,V,W,X,Z,a1,b1,c1,e1,f1,h1,i1,l1,_),(m1,n1,o1,p1,s1,t1,_),u1,(v1,w1,y1,z1,a2,b2,c2,e2,f2,h2,i2,l2,m2,n2,o2,p2,s2,t2,u2,v2,w2,y2,z2,a3,b3,c3,e3,f3,_),(h3,i3,l3,m3,_),n3,_)=>Un k a b c e f h i l m n o p s t u v w y z A B C D G H I J K M N O P Q T U V W X Z a1 b1 c1 e1 f1 h1 i1 l1 m1 n1 o1 p1 s1 t1 u1 v1 w1 y1 z1 a2 b2 c2 e2 f2 h2 i2 l2 m2 n2 o2 p2 s2 t2 u2 v2 w2 y2 z2 a3 b3 c3 e3 f3 h3 i3 l3 m3 n3) .nil)))) Tryz.func63 rfl
abbrev agy:Cut:=⟨[1,2,5,6,7],[.box 44 [cI,cI,.cell tu,.cell qo,.cell .bool,.cell .bool,.cell .bool,.cell qp,.cell jf,.cell jw,.cell tq,.cell jf,.cell jw],.box 44 [cI,cI,.nil,.nil,.cell .bool,.cell .bool,.cell .bool,.nil,.nil,.nil,.nil,.nil,.nil],.box 44 [cI,cI,.cell tu,.cell qo,.cell .bool,.cell .bool,.cell .bool,.cell qp,.cell jf,.cell jw,.cell tq,.cell jf,.cell jw],.own 82 A8,cI],[],90,[]⟩
def abz (k:Nat) (g5:Int -> Int -> (List mq) -> G7 -> Bool -> Bool -> Bool -> (List lu) -> (List Int) -> (List Bool) -> (List j4) -> (List Int) -> (List Bool) -> Int -> Int -> Bool -> Bool -> Bool -> Int -> Int -> (List mq) -> G7 -> Bool -> Bool -> Bool -> (List lu) -> (List Int) -> (List Bool) -> (List j4) -> (List Int) -> (List Bool) -> C9 -> Int -> Option o9) (a b:Int) (c:List mq) (e:List (PN Int 5)) (f h i:Bool) (l:List lu) (m:List Int) (n:List Bool) (o:List j4) (p:List Int) (s:List Bool) (t u:Int) (v w y:Bool) (x z:Int) (A:List mq) (B:List (PN Int 5)) (C D G:Bool) (H:List lu) (I:List Int) (J:List Bool) (K:List j4) (M:List Int) (N:List Bool) (O:List (PN Int 6)) (P:Int):Option o9 :=
 (bif decide (P<(H.length:Int)) then
  ix H P <|
  (bif (rd H P (0,0,0,0,(0,Pv (α:=Int) 8 0,[],false),(0,Pv (α:=Int) 8 0,[],false),[],false)).2.2.2.1 != 2 then
   ix B (rd H P (0,0,0,0,(0,Pv (α:=Int) 8 0,[],false),(0,Pv (α:=Int) 8 0,[],false),[],false)).1 <|
   (bif decide ((IntKind.i64.wrap (x - (rd H P (0,0,0,0,(0,Pv (α:=Int) 8 0,[],false),(0,Pv (α:=Int) 8 0,[],false),[],false)).2.1))≥(rd B (rd H P (0,0,0,0,(0,Pv (α:=Int) 8 0,[],false),(0,Pv (α:=Int) 8 0,[],false),[],false)).1 (Pv (α:=Int) 5 0)).2.2.2.2) then
    (S61 k H P ((rd H P (0,0,0,0,(0,Pv (α:=Int) 8 0,[],false),(0,Pv (α:=Int) 8 0,[],false),[],false)).1,(rd H P (0,0,0,0,(0,Pv (α:=Int) 8 0,[],false),(0,Pv (α:=Int) 8 0,[],false),[],false)).2.1,(rd H P (0,0,0,0,(0,Pv (α:=Int) 8 0,[],false),(0,Pv (α:=Int) 8 0,[],false),[],false)).2.2.1,(rd H P (0,0,0,0,(0,Pv (α:=Int) 8 0,[],false),(0,Pv (α:=Int) 8 0,[],false),[],false)).2.2.2.1,(rd H P (0,0,0,0,(0,Pv (α:=Int) 8 0,[],false),(0,Pv (α:=Int) 8 0,[],false),[],false)).2.2.2.2.1,(rd H P (0,0,0,0,(0,Pv (α:=Int) 8 0,[],false),(0,Pv (α:=Int) 8 0,[],false),[],false)).2.2.2.2.2.1,(rd H P (0,0,0,0,(0,Pv (α:=Int) 8 0,[],false),(0,Pv (α:=Int) 8 0,[],false),[],false)).2.2.2.2.2.2.1,true)).bind fun q1 =>
    g5 a b c e f h i l m n o p s t u v w y x z A B C D G q1.1.1 I J K M N O (IntKind.i64.wrap (P+1))
   else
    g5 a b c e f h i l m n o p s t u v w y x z A B C D G H I J K M N O (IntKind.i64.wrap (P+1)))
  else
   g5 a b c e f h i l m n o p s t u v w y x z A B C D G H I J K M N O (IntKind.i64.wrap (P+1)))
 else
  (S62 k (x,z,A,B,C,D,G,H,((I,J),K),M,N)).bind fun q2 =>
  ap O q2.1.2.1 48 fun r3 =>
  (bif !q2.1.1.2.2.2.2.2.1 then
   (S63 k q2.1.1).bind fun q4 =>
   ap r3 q4.1.2.1 48 fun r5 =>
   some (((IntKind.i64.wrap (q4.1.1.1+1),q4.1.1.2.1,q4.1.1.2.2.1,q4.1.1.2.2.2.1,q4.1.1.2.2.2.2.1,q4.1.1.2.2.2.2.2.1,false,q4.1.1.2.2.2.2.2.2.2),r5,()),())
  else
   some (((IntKind.i64.wrap (q2.1.1.1+1),q2.1.1.2.1,q2.1.1.2.2.1,q2.1.1.2.2.2.1,q2.1.1.2.2.2.2.1,q2.1.1.2.2.2.2.2.1,false,q2.1.1.2.2.2.2.2.2.2),r3,()),())))
def ak0 (k:Nat):Xx (((Unit)×MZ×KL×MZ×C9×Int×Unit) -> Option o9):=dh (bf (bq (ay (ay (ay (ay (ay (ay (ay (ay (ay (ay (ay (ay (ay bg))))))))))))) (bq (ay (ay (bf (bf (ay (ay (ay (bf (bf (bf (bf (bf (bf bg))))))))))))) (bq (ay (ay (ay (ay (ay (ay (ay (ay (ay (ay (ay (ay (ay bg))))))))))))) (ay (ay bg)))))) (abz k)
def abA (k a:Nat) (b c:Int) (e:List mq) (f:List (PN Int 5)) (h i l:Bool) (m:List lu) (n:List Int) (o:List Bool) (p:List j4) (s:List Int) (t:List Bool) (u v:Int) (w y z:Bool) (x A:Int) (B:List mq) (C:List (PN Int 5)) (D G H:Bool) (I:List lu) (J:List Int) (K:List Bool) (M:List j4) (N:List Int) (O:List Bool) (P:List (PN Int 6)) (Q:Int):Option o9:=iter agy (ak0 k) a ((),(b,c,e,f,h,i,l,m,n,o,p,s,t,()),(u,v,(),(),w,y,z,(),(),(),(),(),(),()),(x,A,B,C,D,G,H,I,J,K,M,N,O,()),P,Q,())
theorem abB (k a b c e f h i l m n o p s t u v w y z x A B C D G H I J K M N O P Q):abA k (a+1) b c e f h i l m n o p s t u v w y z x A B C D G H I J K M N O P Q=abz k (abA k a) b c e f h i l m n o p s t u v w y z x A B C D G H I J K M N O P Q:=Ba _ _ _ _
def S24 (k:Nat) (u:KM):Option o9 :=
 (bif u.2.2.2.2.1 then
  (bif !u.2.2.2.2.2.1 then
   (S60 k u).bind fun (((a,b,c,e,f,h,i,l,((m,n),o),p,s),t,_),_) =>
   abA k k u.1 u.2.1 u.2.2.1 u.2.2.2.1 u.2.2.2.2.1 u.2.2.2.2.2.1 u.2.2.2.2.2.2.1 u.2.2.2.2.2.2.2.1 u.2.2.2.2.2.2.2.2.1.1.1 u.2.2.2.2.2.2.2.2.1.1.2 u.2.2.2.2.2.2.2.2.1.2 u.2.2.2.2.2.2.2.2.2.1 u.2.2.2.2.2.2.2.2.2.2 0 0 false false false a b c e f h i l m n o p s t 0
  else
   some (((IntKind.i64.wrap (u.1+1),u.2.1,u.2.2.1,u.2.2.2.1,u.2.2.2.2.1,u.2.2.2.2.2.1,false,u.2.2.2.2.2.2.2),([]:List (PN Int 6)),()),()))
 else
  some (((IntKind.i64.wrap (u.1+1),u.2.1,u.2.2.1,u.2.2.2.1,u.2.2.2.2.1,u.2.2.2.2.2.1,false,u.2.2.2.2.2.2.2),([]:List (PN Int 6)),()),()))
def F24:Fn:=⟨[KQ],[KR,acV],fun k x=>S24 k x.1⟩
theorem ok24:O 24 F24:=okF (ah ok60 <| ah ok61 <| ah ok62 <| ah ok63 aj) [(4,2)] (fun k=>(.loop 5 agy (ak0 k) (fun g=>.nil) .nil)) Tryz.func24 rfl
def S76 (k:Nat) (a:KN×List j4) (b:Int):Option (((KN×List j4)×Bool×Unit)×Unit) :=
 (bif decide (b<0) then
  some ((a,false,()),())
 else
  (bif decide (b≥(a.2.length:Int)) then
   some ((a,false,()),())
  else
   ix a.2 b <|
   (bif (rd a.2 b (0,(0,0),(0,0),([],[]),(0,[]),0)).1==0 then
    some ((a,false,()),())
   else
    ix a.2 b <|
    (Yb k a b ((rd a.2 b (0,(0,0),(0,0),([],[]),(0,[]),0)).1,(rd a.2 b (0,(0,0),(0,0),([],[]),(0,[]),0)).2.1,(rd a.2 b (0,(0,0),(0,0),([],[]),(0,[]),0)).2.2.1,(rd a.2 b (0,(0,0),(0,0),([],[]),(0,[]),0)).2.2.2.1,(rd a.2 b (0,(0,0),(0,0),([],[]),(0,[]),0)).2.2.2.2.1,Tt .u32 (rd a.2 b (0,(0,0),(0,0),([],[]),(0,[]),0)).2.2.2.2.2)).bind fun q0 =>
    some ((q0.1.1,true,()),()))))
def F76:Fn:=⟨[ai2,au],[amL,rB],fun k x=>S76 k x.1 x.2.1⟩
theorem ok76:O 76 F76:=okF (ah ok137 aj) [] On Tryz.func76 rfl
abbrev abC:Cut:=⟨[2,3,4,6,11,12],[.box 44 [cI,cI,.cell tu,.cell qo,.cell .bool,.cell .bool,.cell .bool,.cell qp,.cell jf,.cell jw,.cell tq,.cell jf,.cell jw],.box 108 [cI,cI,cI,cI,cI,.cell wu,.cell wu,.cell wu,cI,cI,cI,cI,.cell (.int .u32),cI,cI],.box 44 [cI,cI,.nil,.nil,.cell .bool,.cell .bool,.cell .bool,.nil,.nil,.nil,.nil,.nil,.nil],.box 110 [cI,cI,cI,cI],.own 82 A8,cI],[],91,[]⟩
def am5 (k:Nat) (g21:Int -> Int -> (List mq) -> G7 -> Bool -> Bool -> Bool -> (List lu) -> (List Int) -> (List Bool) -> (List j4) -> (List Int) -> (List Bool) -> Int -> Int -> Int -> Int -> Int -> (List qg) -> (List qg) -> (List qg) -> Int -> Int -> Int -> Int -> Int -> Int -> Int -> Int -> Int -> Bool -> Bool -> Bool -> Int -> Int -> Int -> Int -> C9 -> Int -> Option N8) (i v:Int) (w:List mq) (y:List (PN Int 5)) (z A B:Bool) (C:List lu) (D:List Int) (G:List Bool) (H:List j4) (I:List Int) (J:List Bool) (K M N O P:Int) (Q T U:List qg) (V W X Z a1 b1 c1 e1 f1:Int) (h1 i1 l1:Bool) (m1 n1 o1 p1:Int) (s1:List (PN Int 6)) (t1:Int):Option N8 :=
 (bif decide (t1<c1) then
  (S24 k (i,v,w,y,z,A,B,C,((D,G),H),I,J)).bind fun (((a,b,c,e,f,h,l,m,((n,o),p),s,t),u,_),_) =>
  ap s1 u 48 fun r4 =>
  g21 a b c e f h l m n o p s t K M N O P Q T U V W X Z a1 b1 c1 e1 f1 h1 i1 l1 m1 n1 o1 p1 r4 (IntKind.i64.wrap (t1+1))
 else
  some (((i,v,w,y,z,A,B,C,((D,G),H),I,J),s1,(0,(0,0),0),()),()))
def agz (k:Nat):Xx (((Unit)×MZ×aoX×KL×WJ×C9×Int×Unit) -> Option N8):=dh (bf (bq (ay (ay (ay (ay (ay (ay (ay (ay (ay (ay (ay (ay (ay bg))))))))))))) (bq (ay (ay (ay (ay (ay (ay (ay (ay (ay (ay (ay (ay (ay (ay (ay bg))))))))))))))) (bq (ay (ay (bf (bf (ay (ay (ay (bf (bf (bf (bf (bf (bf bg))))))))))))) (bq (ay (ay (ay (ay bg)))) (ay (ay bg))))))) (am5 k)
def am6 (k a:Nat) (b c:Int) (e:List mq) (f:List (PN Int 5)) (h i l:Bool) (m:List lu) (n:List Int) (o:List Bool) (p:List j4) (s:List Int) (t:List Bool) (u v w y z:Int) (A B C:List qg) (D G H I J K M N O:Int) (P Q T:Bool) (U V W X:Int) (Z:List (PN Int 6)) (a1:Int):Option N8:=iter abC (agz k) a ((),(b,c,e,f,h,i,l,m,n,o,p,s,t,()),(u,v,w,y,z,A,B,C,D,G,H,I,J,K,M,()),(N,O,(),(),P,Q,T,(),(),(),(),(),(),()),(U,V,W,X,()),Z,a1,())
def S32 (k:Nat) (a:KM) (b:Int×(Int×mq×(Int×Int)×Int×Int×Int)×Int×Int):Option N8 :=
 (bif b.1==1 then
  (S75 k a b.2.1).bind fun q0 =>
  some (q0.1,())
 else
  (bif b.1==2 then
   (S24 k a).bind fun q1 =>
   some ((q1.1.1,q1.1.2.1,(0,(0,0),0),()),())
  else
   (bif b.1==3 then
    some (((a.1,a.2.1,a.2.2.1,a.2.2.2.1,a.2.2.2.2.1,a.2.2.2.2.2.1,true,a.2.2.2.2.2.2.2),[],(0,(0,0),0),()),())
   else
    (bif b.1==4 then
     (S76 k a.2.2.2.2.2.2.2.2.1 b.2.2.1).bind fun q2 =>
     (bif !q2.1.2.1 then
      some ((a,[],(3,(0,0),0),()),())
     else
      some (((a.1,a.2.1,a.2.2.1,a.2.2.2.1,a.2.2.2.2.1,a.2.2.2.2.2.1,a.2.2.2.2.2.2.1,a.2.2.2.2.2.2.2.1,q2.1.1,a.2.2.2.2.2.2.2.2.2),[],(0,(0,0),0),()),()))
    else
     (bif b.1==5 then
      (bif decide (b.2.2.2<0) then
       some ((a,[],(1,(0,0),0),()),())
      else
       (bif decide (b.2.2.2>10000) then
        some ((a,[],(1,(0,0),0),()),())
       else
        am6 k k a.1 a.2.1 a.2.2.1 a.2.2.2.1 a.2.2.2.2.1 a.2.2.2.2.2.1 a.2.2.2.2.2.2.1 a.2.2.2.2.2.2.2.1 a.2.2.2.2.2.2.2.2.1.1.1 a.2.2.2.2.2.2.2.2.1.1.2 a.2.2.2.2.2.2.2.2.1.2 a.2.2.2.2.2.2.2.2.2.1 a.2.2.2.2.2.2.2.2.2.2 b.1 b.2.1.1 b.2.1.2.1.1 b.2.1.2.1.2.1 b.2.1.2.1.2.2.1 b.2.1.2.1.2.2.2.1 b.2.1.2.1.2.2.2.2.1 b.2.1.2.1.2.2.2.2.2 b.2.1.2.2.1.1 b.2.1.2.2.1.2 b.2.1.2.2.2.1 b.2.1.2.2.2.2.1 b.2.1.2.2.2.2.2 b.2.2.1 b.2.2.2 0 0 false false false 0 0 0 0 ([]:List (PN Int 6)) 0))
     else
      some ((a,[],(1,(0,0),0),()),()))))))
def F32:Fn:=⟨[KQ,.val ⟨true,(.pair (.int .i64) (.pair af0 G5)),false⟩],[KR,acV,aoY],fun k x=>S32 k x.1 x.2.1⟩
theorem ok32:O 32 F32:=okF (ah ok24 <| ah ok75 <| ah ok76 aj) [(11,2)] (fun k=>(.loop 21 abC (agz k) (fun g=>.nil) .nil)) Tryz.func32 rfl
abbrev agA:Cut:=⟨[4,5,7,9,11,12],[.box 37 [cI,cI,.nil,.nil,.cell .bool,.cell .bool,.cell .bool,.nil,.nil,.nil,.nil,.nil,.nil],.box 44 [cI,cI,.nil,.nil,.cell .bool,.cell .bool,.cell .bool,.nil,.nil,.nil,.nil,.nil,.nil],.box 37 [cI,cI,.own 77 acU,.own 96 (Am 5 (.int .i64)),.cell .bool,.cell .bool,.cell .bool,.own 94 acT,.own 3 (.int .i64),.own 4 .bool,.own 124 MX,.own 3 (.int .i64),.own 4 .bool],.box 44 [cI,cI,.cell tu,.cell qo,.cell .bool,.cell .bool,.cell .bool,.cell qp,.cell jf,.cell jw,.cell tq,.cell jf,.cell jw],cI,.own 108 (.pair (.int .i64) (.pair af0 G5))],[],69,[]⟩
def WX (k:Nat) (g6:Int -> Int -> Bool -> Bool -> Bool -> Int -> Int -> Bool -> Bool -> Bool -> Int -> Int -> (List mq) -> G7 -> Bool -> Bool -> Bool -> (List lu) -> (List Int) -> (List Bool) -> (List j4) -> (List Int) -> (List Bool) -> Int -> Int -> (List mq) -> G7 -> Bool -> Bool -> Bool -> (List lu) -> (List Int) -> (List Bool) -> (List j4) -> (List Int) -> (List Bool) -> Int -> (List aa9) -> Option WM) (n u:Int) (v w y:Bool) (z A:Int) (B C D:Bool) (G H:Int) (I:List mq) (J:List (PN Int 5)) (K M N:Bool) (O:List lu) (P:List Int) (Q:List Bool) (T:List j4) (U:List Int) (V:List Bool) (W X:Int) (Z:List mq) (a1:List (PN Int 5)) (b1 c1 e1:Bool) (f1:List lu) (h1:List Int) (i1:List Bool) (l1:List j4) (m1:List Int) (n1:List Bool) (o1:Int) (p1:List aa9):Option WM :=
 (bif decide (o1<(p1.length:Int)) then
  ix p1 o1 <|
  (bif (rd p1 o1 (0,(0,(0,0,0,[],[],[]),(0,0),0,0,0),0,0)).2.1.1==5 then
   g6 n u v w y z A B C D G H I J K M N O P Q T U V W X Z a1 b1 c1 e1 f1 h1 i1 l1 m1 n1 (IntKind.i64.wrap (o1+1)) p1
  else
   ix p1 o1 <|
   (S32 k (W,X,Z,a1,b1,c1,e1,f1,((h1,i1),l1),m1,n1) (rd p1 o1 (0,(0,(0,0,0,[],[],[]),(0,0),0,0,0),0,0))).bind fun (((a,b,c,e,f,h,i,l,((m,o),p),s,t),_),_) =>
   g6 n u v w y z A B C D G H I J K M N O P Q T U V a b c e f h i l m o p s t (IntKind.i64.wrap (o1+1)) p1)
 else
  some (((G,H,Z,a1,K,M,N,O,((P,Q),T),U,V),(W,X,Z,a1,b1,c1,e1,f1,((h1,i1),l1),m1,n1),true,()),()))
def ak1 (k:Nat):Xx (((Unit)×KL×KL×MZ×MZ×Int×(List aa9)×Unit) -> Option WM):=dh (bf (bq (ay (ay (bf (bf (ay (ay (ay (bf (bf (bf (bf (bf (bf bg))))))))))))) (bq (ay (ay (bf (bf (ay (ay (ay (bf (bf (bf (bf (bf (bf bg))))))))))))) (bq (ay (ay (ay (ay (ay (ay (ay (ay (ay (ay (ay (ay (ay bg))))))))))))) (bq (ay (ay (ay (ay (ay (ay (ay (ay (ay (ay (ay (ay (ay bg))))))))))))) (ay (ay bg))))))) (WX k)
def abD (k a:Nat) (b c:Int) (e f h:Bool) (i l:Int) (m n o:Bool) (p s:Int) (t:List mq) (u:List (PN Int 5)) (v w y:Bool) (z:List lu) (A:List Int) (B:List Bool) (C:List j4) (D:List Int) (G:List Bool) (H I:Int) (J:List mq) (K:List (PN Int 5)) (M N O:Bool) (P:List lu) (Q:List Int) (T:List Bool) (U:List j4) (V:List Int) (W:List Bool) (X:Int) (Z:List aa9):Option WM:=iter agA (ak1 k) a ((),(b,c,(),(),e,f,h,(),(),(),(),(),(),()),(i,l,(),(),m,n,o,(),(),(),(),(),(),()),(p,s,t,u,v,w,y,z,A,B,C,D,G,()),(H,I,J,K,M,N,O,P,Q,T,U,V,W,()),X,Z,())
theorem Uo (k a b c e f h i l m n o p s t u v w y z A B C D G H I J K M N O P Q T U V W X Z):abD k (a+1) b c e f h i l m n o p s t u v w y z A B C D G H I J K M N O P Q T U V W X Z=WX k (abD k a) b c e f h i l m n o p s t u v w y z A B C D G H I J K M N O P Q T U V W X Z:=Ba _ _ _ _
def S10 (k:Nat) (a:List Int) (b:Int):Option WM :=
 (S25 k b).bind fun q0 =>
 (S26 k b).bind fun q1 =>
 (bif !q0.1.2.1 then
  some ((q0.1.1,q1.1.1,false,()),())
 else
  (bif !q1.1.2.1 then
   some ((q0.1.1,q1.1.1,false,()),())
  else
   (S17 k a).bind fun q2 =>
   (S31 k q2.1.1.1 q2.1.1.2.1).bind fun q3 =>
   abD k k 0 0 false false false 0 0 false false false q0.1.1.1 q0.1.1.2.1 q0.1.1.2.2.1 q0.1.1.2.2.2.1 q0.1.1.2.2.2.2.1 q0.1.1.2.2.2.2.2.1 q0.1.1.2.2.2.2.2.2.1 q0.1.1.2.2.2.2.2.2.2.1 q0.1.1.2.2.2.2.2.2.2.2.1.1.1 q0.1.1.2.2.2.2.2.2.2.2.1.1.2 q0.1.1.2.2.2.2.2.2.2.2.1.2 q0.1.1.2.2.2.2.2.2.2.2.2.1 q0.1.1.2.2.2.2.2.2.2.2.2.2 q1.1.1.1 q1.1.1.2.1 q1.1.1.2.2.1 q1.1.1.2.2.2.1 q1.1.1.2.2.2.2.1 q1.1.1.2.2.2.2.2.1 q1.1.1.2.2.2.2.2.2.1 q1.1.1.2.2.2.2.2.2.2.1 q1.1.1.2.2.2.2.2.2.2.2.1.1.1 q1.1.1.2.2.2.2.2.2.2.2.1.1.2 q1.1.1.2.2.2.2.2.2.2.2.1.2 q1.1.1.2.2.2.2.2.2.2.2.2.1 q1.1.1.2.2.2.2.2.2.2.2.2.2 0 q3.1.1))
def F10:Fn:=⟨[amM,au],[.val ⟨true,akW,false⟩,KR,rB],fun k x=>S10 k x.1 x.2.1⟩
theorem ok10:O 10 F10:=okF (ah ok17 <| ah ok25 <| ah ok26 <| ah ok31 <| ah ok32 aj) [] (fun k=>(.loop 6 agA (ak1 k) (fun g=>.nil) .nil)) Tryz.func10 rfl
def S33 (k:Nat) (x:akV):Option ((j4×Unit)×Unit) :=
 some ((x,()),())
def F33:Fn:=⟨[af6],[.val ⟨true,MX,false⟩],fun k x=>S33 k x.1⟩
theorem ok33:O 33 F33:=okF aj [] On Tryz.func33 rfl
abbrev agB:Cut:=⟨[1,2,3,4],[.box 33 [.cell jf,.cell jw,.cell (.sl 124 MX)],.box 41 [.nil,.nil,.nil],.box 41 [.cell jf,.cell jw,.own 122 MX],cI],[],32,[]⟩
def ape (k:Nat) (g3:(List Int) -> (List Bool) -> (List j4) -> (List Int) -> (List Bool) -> (List j4) -> Int -> Option WO) (a:List Int) (b:List Bool) (c:List j4) (x:List Int) (e:List Bool) (f:List j4) (h:Int):Option WO :=
 (bif decide (h<(c.length:Int)) then
  ix c h <|
  (S33 k (rd c h (0,(0,0),(0,0),([],[]),(0,[]),0))).bind fun q0 =>
  ap f ([q0.1.1]:List j4) 128 fun r1 =>
  g3 a b c x e r1 (IntKind.i64.wrap (h+1))
 else
  some ((((x,e),f),()),()))
def ak2 (k:Nat):Xx (((Unit)×WG×(Unit×Unit×Unit×Unit)×WG×Int×Unit) -> Option WO):=dh (bf (bq (ay (ay (ay bg))) (bq (bf (bf (bf bg))) (bq (ay (ay (ay bg))) (ay bg))))) (ape k)
def apf (k a:Nat) (b:List Int) (c:List Bool) (e:List j4) (x:List Int) (f:List Bool) (h:List j4) (i:Int):Option WO:=iter agB (ak2 k) a ((),(b,c,e,()),((),(),(),()),(x,f,h,()),i,())
def S11 (k:Nat) (a:KN×List j4):Option WO :=
 apf k k a.1.1 a.1.2 a.2 a.1.1 a.1.2 ([]:List j4) 0
def F11:Fn:=⟨[.val ⟨true,(.pair KO (.sl 124 MX)),false⟩],[amL],fun k x=>S11 k x.1⟩
theorem ok11:O 11 F11:=okF (ah ok33 aj) [(12,2)] (fun k=>(.loop 3 agB (ak2 k) (fun g=>.nil) .nil)) Tryz.func11 rfl
def S15 (k:Nat) (a:KM):Option ((Yf×Unit)×Unit) :=
 (S11 k a.2.2.2.2.2.2.2.2.1).bind fun q0 =>
 some (((a.1,a.2.1,a.2.2.1,a.2.2.2.1,a.2.2.2.2.1,a.2.2.2.2.2.1,a.2.2.2.2.2.2.1,a.2.2.2.2.2.2.2.1,q0.1.1,a.2.2.2.2.2.2.2.2.2),()),())
def F15:Fn:=⟨[.val ⟨true,akW,false⟩],[KR],fun k x=>S15 k x.1⟩
theorem ok15:O 15 F15:=okF (ah ok11 aj) [] On Tryz.func15 rfl
abbrev abE:Cut:=⟨[0,1,5],[.cell wu,.cell wu,cI],[],26,[]⟩
def Uq (k:Nat) (g4:(List qg) -> (List qg) -> Int -> Option iy) (a b:List qg) (c:Int):Option iy :=
 (bif decide (c<(a.length:Int)) then
  ix a c <|
  ix b c <|
  (bif !(fC (.pair (.int .i64) KJ) (rd a c (0,0,0,0)) (rd b c (0,0,0,0))) then
   some ((false,()),())
  else
   g4 a b (IntKind.i64.wrap (c+1)))
 else
  some ((true,()),()))
def agC (k:Nat):Xx (((Unit)×(List qg)×(List qg)×Int×Unit) -> Option iy):=dh (bf (ay (ay (ay bg)))) (Uq k)
def Ur (k a:Nat) (b c:List qg) (e:Int):Option iy:=iter abE (agC k) a ((),b,c,e,())
theorem WY (k a b c e):Ur k (a+1) b c e=Uq k (Ur k a) b c e:=Ba _ _ _ _
def ac0 (k:Nat) (a b:List qg):Option iy :=
 (bif (a.length:Int) != (b.length:Int) then
  some ((false,()),())
 else
  Ur k k a b 0)
def F149:Fn:=⟨[af4,af4],[rB],fun k x=>ac0 k x.1 x.2.1⟩
theorem ok149:O 149 F149:=okF aj [] (fun k=>(.loop 4 abE (agC k) (fun g=>.nil) .nil)) Tryz.func149 rfl
def S90 (k:Nat) (a b:WI):Option iy :=
 (bif a.1==b.1 then
  (bif a.2.1==b.2.1 then
   (bif a.2.2.1==b.2.2.1 then
    (ac0 k a.2.2.2.1 b.2.2.2.1).bind fun q0 =>
    (bif q0.1.1 then
     (ac0 k a.2.2.2.2.1 b.2.2.2.2.1).bind fun q1 =>
     (bif q1.1.1 then
      (ac0 k a.2.2.2.2.2 b.2.2.2.2.2).bind fun q2 =>
      some ((q2.1.1,()),())
     else
      some ((false,()),()))
    else
     some ((false,()),()))
   else
    some ((false,()),()))
  else
   some ((false,()),()))
 else
  some ((false,()),()))
def F90:Fn:=⟨[Q9,Q9],[rB],fun k x=>S90 k x.1 x.2.1⟩
theorem ok90:O 90 F90:=okF (ah ok149 aj) [] On Tryz.func90 rfl
abbrev agD:Cut:=⟨[0,1,5],[.cell tu,.cell tu,cI],[],27,[]⟩
def abF (k:Nat) (g4:(List mq) -> (List mq) -> Int -> Option iy) (a b:List mq) (c:Int):Option iy :=
 (bif decide (c<(a.length:Int)) then
  ix a c <|
  ix b c <|
  (S90 k (rd a c (0,0,0,[],[],[])) (rd b c (0,0,0,[],[],[]))).bind fun q0 =>
  (bif !q0.1.1 then
   some ((false,()),())
  else
   g4 a b (IntKind.i64.wrap (c+1)))
 else
  some ((true,()),()))
def ak3 (k:Nat):Xx (((Unit)×(List mq)×(List mq)×Int×Unit) -> Option iy):=dh (bf (ay (ay (ay bg)))) (abF k)
def abG (k a:Nat) (b c:List mq) (e:Int):Option iy:=iter agD (ak3 k) a ((),b,c,e,())
theorem abH (k a b c e):abG k (a+1) b c e=abF k (abG k a) b c e:=Ba _ _ _ _
def S44 (k:Nat) (a b:List mq):Option iy :=
 (bif (a.length:Int) != (b.length:Int) then
  some ((false,()),())
 else
  abG k k a b 0)
def F44:Fn:=⟨[.val ⟨false,tu,false⟩,.val ⟨false,tu,false⟩],[rB],fun k x=>S44 k x.1 x.2.1⟩
theorem ok44:O 44 F44:=okF (ah ok90 aj) [] (fun k=>(.loop 4 agD (ak3 k) (fun g=>.nil) .nil)) Tryz.func44 rfl
abbrev agE:Cut:=⟨[0,1,5],[.cell qo,.cell qo,cI],[],26,[]⟩
def abI (k:Nat) (g4:G7 -> G7 -> Int -> Option iy) (a b:List (PN Int 5)) (c:Int):Option iy :=
 (bif decide (c<(a.length:Int)) then
  ix a c <|
  ix b c <|
  (bif !(fC (Am 5 (.int .i64)) (rd a c (Pv (α:=Int) 5 0)) (rd b c (Pv (α:=Int) 5 0))) then
   some ((false,()),())
  else
   g4 a b (IntKind.i64.wrap (c+1)))
 else
  some ((true,()),()))
def ak4 (k:Nat):Xx (((Unit)×G7×G7×Int×Unit) -> Option iy):=dh (bf (ay (ay (ay bg)))) (abI k)
def abJ (k a:Nat) (b c:List (PN Int 5)) (e:Int):Option iy:=iter agE (ak4 k) a ((),b,c,e,())
theorem abK (k a b c e):abJ k (a+1) b c e=abI k (abJ k a) b c e:=Ba _ _ _ _
def S45 (k:Nat) (a b:List (PN Int 5)):Option iy :=
 (bif (a.length:Int) != (b.length:Int) then
  some ((false,()),())
 else
  abJ k k a b 0)
def F45:Fn:=⟨[.val ⟨false,qo,false⟩,.val ⟨false,qo,false⟩],[rB],fun k x=>S45 k x.1 x.2.1⟩
theorem ok45:O 45 F45:=okF aj [] (fun k=>(.loop 4 agE (ak4 k) (fun g=>.nil) .nil)) Tryz.func45 rfl
abbrev abL:Cut:=⟨[2,3,5],[.box 92 [cI,cI,cI,cI,cI,cI,cI,cI,cI,.cell wz,.cell .bool],.box 92 [cI,cI,cI,cI,cI,cI,cI,cI,cI,.cell wz,.cell .bool],cI],[],52,[]⟩
def Us (k:Nat) (g4:Int -> Int -> Int -> Int -> Int -> Int -> Int -> Int -> Int -> (List j6) -> Bool -> Int -> Int -> Int -> Int -> Int -> Int -> Int -> Int -> Int -> (List j6) -> Bool -> Int -> Option iy) (a b c e f h i l m:Int) (n:List j6) (o:Bool) (p s t u v w y z A:Int) (B:List j6) (C:Bool) (D:Int):Option iy :=
 (bif decide (D<(n.length:Int)) then
  ix n D <|
  ix B D <|
  (bif !(fC KJ (rd n D (0,0,0)) (rd B D (0,0,0))) then
   some ((false,()),())
  else
   g4 a b c e f h i l m n o p s t u v w y z A B C (IntKind.i64.wrap (D+1)))
 else
  some ((true,()),()))
def agF (k:Nat):Xx (((Unit)×afW×afW×Int×Unit) -> Option iy):=dh (bf (bq (ay (ay (ay (ay (ay (ay (ay (ay (ay (ay (ay bg))))))))))) (bq (ay (ay (ay (ay (ay (ay (ay (ay (ay (ay (ay bg))))))))))) (ay bg)))) (Us k)
def JJ (k a:Nat) (b c e f h i l m n:Int) (o:List j6) (p:Bool) (s t u v w y z A B:Int) (C:List j6) (D:Bool) (G:Int):Option iy:=iter abL (agF k) a ((),(b,c,e,f,h,i,l,m,n,o,p,()),(s,t,u,v,w,y,z,A,B,C,D,()),G,())
theorem WZ (k a b c e f h i l m n o p s t u v w y z A B C D G):JJ k (a+1) b c e f h i l m n o p s t u v w y z A B C D G=Us k (JJ k a) b c e f h i l m n o p s t u v w y z A B C D G:=Ba _ _ _ _
def agG (k:Nat) (a b:Int×(PN Int 8)×(List j6)×Bool):Option iy :=
 (bif a.1 != b.1 then
  some ((false,()),())
 else
  (bif !(fC (Am 8 (.int .i64)) a.2.1 b.2.1) then
   some ((false,()),())
  else
   (bif !(a.2.2.2==b.2.2.2) then
    some ((false,()),())
   else
    (bif (a.2.2.1.length:Int) != (b.2.2.1.length:Int) then
     some ((false,()),())
    else
     JJ k k a.1 a.2.1.1 a.2.1.2.1 a.2.1.2.2.1 a.2.1.2.2.2.1 a.2.1.2.2.2.2.1 a.2.1.2.2.2.2.2.1 a.2.1.2.2.2.2.2.2.1 a.2.1.2.2.2.2.2.2.2 a.2.2.1 a.2.2.2 b.1 b.2.1.1 b.2.1.2.1 b.2.1.2.2.1 b.2.1.2.2.2.1 b.2.1.2.2.2.2.1 b.2.1.2.2.2.2.2.1 b.2.1.2.2.2.2.2.2.1 b.2.1.2.2.2.2.2.2.2 b.2.2.1 b.2.2.2 0))))
def F150:Fn:=⟨[af5,af5],[rB],fun k x=>agG k x.1 x.2.1⟩
theorem ok150:O 150 F150:=okF aj [] (fun k=>(.loop 4 abL (agF k) (fun g=>.nil) .nil)) Tryz.func150 rfl
abbrev agH:Cut:=⟨[0,1,5],[.cell jf,.cell jf,cI],[],26,[]⟩
def abM (k:Nat) (g4:(List Int) -> (List Int) -> Int -> Option iy) (a b:List Int) (c:Int):Option iy :=
 (bif decide (c<(a.length:Int)) then
  ix a c <|
  ix b c <|
  (bif (rd a c 0) != (rd b c 0) then
   some ((false,()),())
  else
   g4 a b (IntKind.i64.wrap (c+1)))
 else
  some ((true,()),()))
def ak5 (k:Nat):Xx (((Unit)×(List Int)×(List Int)×Int×Unit) -> Option iy):=dh (bf (ay (ay (ay bg)))) (abM k)
def QA (k a:Nat) (b c:List Int) (e:Int):Option iy:=iter agH (ak5 k) a ((),b,c,e,())
theorem abN (k a b c e):QA k (a+1) b c e=abM k (QA k a) b c e:=Ba _ _ _ _
def S94 (k:Nat) (a b:List Int):Option iy :=
 (bif (a.length:Int) != (b.length:Int) then
  some ((false,()),())
 else
  QA k k a b 0)
def F94:Fn:=⟨[af3,af3],[rB],fun k x=>S94 k x.1 x.2.1⟩
theorem ok94:O 94 F94:=okF aj [] (fun k=>(.loop 4 agH (ak5 k) (fun g=>.nil) .nil)) Tryz.func94 rfl
def S91 (k:Nat) (a b:EH):Option iy :=
 (bif a.1==b.1 then
  (bif a.2.1==b.2.1 then
   (bif a.2.2.1==b.2.2.1 then
    (bif a.2.2.2.1==b.2.2.2.1 then
     (bif a.2.2.2.2.2.2.2==b.2.2.2.2.2.2.2 then
      (agG k a.2.2.2.2.1 b.2.2.2.2.1).bind fun q0 =>
      (bif q0.1.1 then
       (agG k a.2.2.2.2.2.1 b.2.2.2.2.2.1).bind fun q1 =>
       (bif q1.1.1 then
        (S94 k a.2.2.2.2.2.2.1 b.2.2.2.2.2.2.1).bind fun q2 =>
        some ((q2.1.1,()),())
       else
        some ((false,()),()))
      else
       some ((false,()),()))
     else
      some ((false,()),()))
    else
     some ((false,()),()))
   else
    some ((false,()),()))
  else
   some ((false,()),()))
 else
  some ((false,()),()))
def F91:Fn:=⟨[CB,CB],[rB],fun k x=>S91 k x.1 x.2.1⟩
theorem ok91:O 91 F91:=okF (ah ok94 <| ah ok150 aj) [] On Tryz.func91 rfl
abbrev agI:Cut:=⟨[0,1,5],[.cell qp,.cell qp,cI],[],27,[]⟩
def abO (k:Nat) (g4:(List lu) -> (List lu) -> Int -> Option iy) (a b:List lu) (c:Int):Option iy :=
 (bif decide (c<(a.length:Int)) then
  ix a c <|
  ix b c <|
  (S91 k (rd a c (0,0,0,0,(0,Pv (α:=Int) 8 0,[],false),(0,Pv (α:=Int) 8 0,[],false),[],false)) (rd b c (0,0,0,0,(0,Pv (α:=Int) 8 0,[],false),(0,Pv (α:=Int) 8 0,[],false),[],false))).bind fun q0 =>
  (bif !q0.1.1 then
   some ((false,()),())
  else
   g4 a b (IntKind.i64.wrap (c+1)))
 else
  some ((true,()),()))
def ak6 (k:Nat):Xx (((Unit)×(List lu)×(List lu)×Int×Unit) -> Option iy):=dh (bf (ay (ay (ay bg)))) (abO k)
def QB (k a:Nat) (b c:List lu) (e:Int):Option iy:=iter agI (ak6 k) a ((),b,c,e,())
theorem abP (k a b c e):QB k (a+1) b c e=abO k (QB k a) b c e:=Ba _ _ _ _
def S46 (k:Nat) (a b:List lu):Option iy :=
 (bif (a.length:Int) != (b.length:Int) then
  some ((false,()),())
 else
  QB k k a b 0)
def F46:Fn:=⟨[abe,abe],[rB],fun k x=>S46 k x.1 x.2.1⟩
theorem ok46:O 46 F46:=okF (ah ok91 aj) [] (fun k=>(.loop 4 agI (ak6 k) (fun g=>.nil) .nil)) Tryz.func46 rfl
abbrev agJ:Cut:=⟨[2,3,6],[.box 38 [.cell jf,.cell jw],.box 38 [.cell jf,.cell jw],cI],[],59,[]⟩
def apj (k:Nat) (g9:afZ) (a:List Int) (b:List Bool) (c:List Int) (e:List Bool) (f:Int):Option iy :=
 (bif decide (f<(b.length:Int)) then
  ix b f <|
  ix e f <|
  (bif !((rd b f false)==(rd e f false)) then
   some ((false,()),())
  else
   g9 a b c e (IntKind.i64.wrap (f+1)))
 else
  some ((true,()),()))
def ak7 (k:Nat):Xx (af2):=dh (bf (bq (ay (ay bg)) (bq (ay (ay bg)) (ay bg)))) (apj k)
def apk (k a:Nat) (b:List Int) (c:List Bool) (e:List Int) (f:List Bool) (h:Int):Option iy:=iter agJ (ak7 k) a ((),(b,c,()),(e,f,()),h,())
abbrev agK:Cut:=⟨[2,3,5],[.box 38 [.cell jf,.cell jw],.box 38 [.cell jf,.cell jw],cI],[],59,[]⟩
def apl (k:Nat) (g4:afZ) (a:List Int) (b:List Bool) (c:List Int) (e:List Bool) (f:Int):Option iy :=
 (bif decide (f<(a.length:Int)) then
  ix a f <|
  ix c f <|
  (bif (rd a f 0) != (rd c f 0) then
   some ((false,()),())
  else
   g4 a b c e (IntKind.i64.wrap (f+1)))
 else
  apk k k a b c e 0)
def ak8 (k:Nat):Xx (af2):=dh (bf (bq (ay (ay bg)) (bq (ay (ay bg)) (ay bg)))) (apl k)
def apm (k a:Nat) (b:List Int) (c:List Bool) (e:List Int) (f:List Bool) (h:Int):Option iy:=iter agK (ak8 k) a ((),(b,c,()),(e,f,()),h,())
def S92 (k:Nat) (a b:(List Int)×List Bool):Option iy :=
 (bif (a.1.length:Int) != (b.1.length:Int) then
  some ((false,()),())
 else
  (bif (a.2.length:Int) != (b.2.length:Int) then
   some ((false,()),())
  else
   apm k k a.1 a.2 b.1 b.2 0))
def F92:Fn:=⟨[Q8,Q8],[rB],fun k x=>S92 k x.1 x.2.1⟩
theorem ok92:O 92 F92:=okF aj [] (fun k=>(.loop 9 agJ (ak7 k) (fun g=>.nil) (.loop 4 agK (ak8 k) (fun g=>.nil) .nil))) Tryz.func92 rfl
abbrev abQ:Cut:=⟨[2,3,6],[.box 117 [.cell (.sl 2 (.int .i64)),.cell jf],.box 117 [.cell (.sl 2 (.int .i64)),.cell jf],cI],[],59,[]⟩
def am8 (k:Nat) (g9:(List Int) -> (List Int) -> (List Int) -> (List Int) -> Int -> Option iy) (a b c e:List Int) (f:Int):Option iy :=
 (bif decide (f<(b.length:Int)) then
  ix b f <|
  ix e f <|
  (bif (rd b f 0) != (rd e f 0) then
   some ((false,()),())
  else
   g9 a b c e (IntKind.i64.wrap (f+1)))
 else
  some ((true,()),()))
def agL (k:Nat):Xx (((Unit)×abb×abb×Int×Unit) -> Option iy):=dh (bf (bq (ay (ay bg)) (bq (ay (ay bg)) (ay bg)))) (am8 k)
def am9 (k a:Nat) (b c e f:List Int) (h:Int):Option iy:=iter abQ (agL k) a ((),(b,c,()),(e,f,()),h,())
abbrev abR:Cut:=⟨[2,3,5],[.box 117 [.cell (.sl 2 (.int .i64)),.cell jf],.box 117 [.cell (.sl 2 (.int .i64)),.cell jf],cI],[],59,[]⟩
def ana (k:Nat) (g4:(List Int) -> (List Int) -> (List Int) -> (List Int) -> Int -> Option iy) (a b c e:List Int) (f:Int):Option iy :=
 (bif decide (f<(a.length:Int)) then
  ix a f <|
  ix c f <|
  (bif (rd a f 0) != (rd c f 0) then
   some ((false,()),())
  else
   g4 a b c e (IntKind.i64.wrap (f+1)))
 else
  am9 k k a b c e 0)
def agM (k:Nat):Xx (((Unit)×abb×abb×Int×Unit) -> Option iy):=dh (bf (bq (ay (ay bg)) (bq (ay (ay bg)) (ay bg)))) (ana k)
def anb (k a:Nat) (b c e f:List Int) (h:Int):Option iy:=iter abR (agM k) a ((),(b,c,()),(e,f,()),h,())
def apn (k:Nat) (a b:(List Int)×List Int):Option iy :=
 (bif (a.1.length:Int) != (b.1.length:Int) then
  some ((false,()),())
 else
  (bif (a.2.length:Int) != (b.2.length:Int) then
   some ((false,()),())
  else
   anb k k a.1 a.2 b.1 b.2 0))
def F151:Fn:=⟨[ao0,ao0],[rB],fun k x=>apn k x.1 x.2.1⟩
theorem ok151:O 151 F151:=okF aj [] (fun k=>(.loop 9 abQ (agL k) (fun g=>.nil) (.loop 4 abR (agM k) (fun g=>.nil) .nil))) Tryz.func151 rfl
abbrev abS:Cut:=⟨[0,1,5],[.cell (.sl 297 N9),.cell (.sl 297 N9),cI],[],26,[]⟩
def anc (k:Nat) (g4:yx -> yx -> Int -> Option iy) (a b:vg) (c:Int):Option iy :=
 (bif decide (c<(a.length:Int)) then
  ix a c <|
  ix b c <|
  (bif !(fC N9 (rd a c (0,0)) (rd b c (0,0))) then
   some ((false,()),())
  else
   g4 a b (IntKind.i64.wrap (c+1)))
 else
  some ((true,()),()))
def agN (k:Nat):Xx (((Unit)×yx×yx×Int×Unit) -> Option iy):=dh (bf (ay (ay (ay bg)))) (anc k)
def ane (k a:Nat) (b c:vg) (e:Int):Option iy:=iter abS (agN k) a ((),b,c,e,())
def apo (k:Nat) (a b:vg):Option iy :=
 (bif (a.length:Int) != (b.length:Int) then
  some ((false,()),())
 else
  ane k k a b 0)
def F192:Fn:=⟨[ao2,ao2],[rB],fun k x=>apo k x.1 x.2.1⟩
theorem ok192:O 192 F192:=okF aj [] (fun k=>(.loop 4 abS (agN k) (fun g=>.nil) .nil)) Tryz.func192 rfl
def apq (k:Nat) (a b:Int×List (Int×Int)):Option iy :=
 (bif a.1==b.1 then
  (apo k a.2 b.2).bind fun q0 =>
  some ((q0.1.1,()),())
 else
  some ((false,()),()))
def F152:Fn:=⟨[aoZ,aoZ],[rB],fun k x=>apq k x.1 x.2.1⟩
theorem ok152:O 152 F152:=okF (ah ok192 aj) [] On Tryz.func152 rfl
def S93 (k:Nat) (a b:akV):Option iy :=
 (bif a.1==b.1 then
  (bif fC G5 a.2.1 b.2.1 then
   (bif fC G5 a.2.2.1 b.2.2.1 then
    (bif a.2.2.2.2.2==b.2.2.2.2.2 then
     (apn k a.2.2.2.1 b.2.2.2.1).bind fun q0 =>
     (bif q0.1.1 then
      (apq k a.2.2.2.2.1 b.2.2.2.2.1).bind fun q1 =>
      some ((q1.1.1,()),())
     else
      some ((false,()),()))
    else
     some ((false,()),()))
   else
    some ((false,()),()))
  else
   some ((false,()),()))
 else
  some ((false,()),()))
def F93:Fn:=⟨[af6,af6],[rB],fun k x=>S93 k x.1 x.2.1⟩
theorem ok93:O 93 F93:=okF (ah ok151 <| ah ok152 aj) [] On Tryz.func93 rfl
abbrev agO:Cut:=⟨[2,3,5],[.box 41 [.cell jf,.cell jw,.cell tq],.box 41 [.cell jf,.cell jw,.cell tq],cI],[],40,[]⟩
def apr (k:Nat) (g4:(List Int) -> (List Bool) -> (List j4) -> (List Int) -> (List Bool) -> (List j4) -> Int -> Option iy) (a:List Int) (b:List Bool) (c:List j4) (e:List Int) (f:List Bool) (h:List j4) (i:Int):Option iy :=
 (bif decide (i<(c.length:Int)) then
  ix c i <|
  ix h i <|
  (S93 k (rd c i (0,(0,0),(0,0),([],[]),(0,[]),0)) (rd h i (0,(0,0),(0,0),([],[]),(0,[]),0))).bind fun q1 =>
  (bif !q1.1.1 then
   some ((false,()),())
  else
   g4 a b c e f h (IntKind.i64.wrap (i+1)))
 else
  some ((true,()),()))
def ak9 (k:Nat):Xx (((Unit)×WG×WG×Int×Unit) -> Option iy):=dh (bf (bq (ay (ay (ay bg))) (bq (ay (ay (ay bg))) (ay bg)))) (apr k)
def aps (k a:Nat) (b:List Int) (c:List Bool) (e:List j4) (f:List Int) (h:List Bool) (i:List j4) (l:Int):Option iy:=iter agO (ak9 k) a ((),(b,c,e,()),(f,h,i,()),l,())
def S47 (k:Nat) (a b:KN×List j4):Option iy :=
 (bif (a.2.length:Int) != (b.2.length:Int) then
  some ((false,()),())
 else
  (S92 k a.1 b.1).bind fun q0 =>
  (bif !q0.1.1 then
   some ((false,()),())
  else
   aps k k a.1.1 a.1.2 a.2 b.1.1 b.1.2 b.2 0))
def F47:Fn:=⟨[ai2,ai2],[rB],fun k x=>S47 k x.1 x.2.1⟩
theorem ok47:O 47 F47:=okF (ah ok92 <| ah ok93 aj) [] (fun k=>(.loop 4 agO (ak9 k) (fun g=>.nil) .nil)) Tryz.func47 rfl
abbrev agP:Cut:=⟨[2,3,5],[.box 42 [.cell jf,.cell jw],.box 42 [.cell jf,.cell jw],cI],[],39,[]⟩
def abT (k:Nat) (g4:afZ) (a:List Int) (b:List Bool) (c:List Int) (e:List Bool) (f:Int):Option iy :=
 (bif decide (f<(b.length:Int)) then
  ix b f <|
  ix e f <|
  (bif !((rd b f false)==(rd e f false)) then
   some ((false,()),())
  else
   g4 a b c e (IntKind.i64.wrap (f+1)))
 else
  some ((true,()),()))
def ala (k:Nat):Xx (af2):=dh (bf (bq (ay (ay bg)) (bq (ay (ay bg)) (ay bg)))) (abT k)
def QC (k a:Nat) (b:List Int) (c:List Bool) (e:List Int) (f:List Bool) (h:Int):Option iy:=iter agP (ala k) a ((),(b,c,()),(e,f,()),h,())
theorem abU (k a b c e f h):QC k (a+1) b c e f h=abT k (QC k a) b c e f h:=Ba _ _ _ _
def S48 (k:Nat) (a b:(List Int)×List Bool):Option iy :=
 (bif (a.2.length:Int) != (b.2.length:Int) then
  some ((false,()),())
 else
  (S94 k a.1 b.1).bind fun q0 =>
  (bif !q0.1.1 then
   some ((false,()),())
  else
   QC k k a.1 a.2 b.1 b.2 0))
def F48:Fn:=⟨[Q8,Q8],[rB],fun k x=>S48 k x.1 x.2.1⟩
theorem ok48:O 48 F48:=okF (ah ok94 aj) [] (fun k=>(.loop 4 agP (ala k) (fun g=>.nil) .nil)) Tryz.func48 rfl
def S14 (k:Nat) (a b:KM):Option iy :=
 (bif a.1==b.1 then
  (bif a.2.1==b.2.1 then
   (bif a.2.2.2.2.1==b.2.2.2.2.1 then
    (bif a.2.2.2.2.2.1==b.2.2.2.2.2.1 then
     (bif a.2.2.2.2.2.2.1==b.2.2.2.2.2.2.1 then
      (S44 k a.2.2.1 b.2.2.1).bind fun q0 =>
      (bif q0.1.1 then
       (S45 k a.2.2.2.1 b.2.2.2.1).bind fun q1 =>
       (bif q1.1.1 then
        (S46 k a.2.2.2.2.2.2.2.1 b.2.2.2.2.2.2.2.1).bind fun q2 =>
        (bif q2.1.1 then
         (S47 k a.2.2.2.2.2.2.2.2.1 b.2.2.2.2.2.2.2.2.1).bind fun q3 =>
         (bif q3.1.1 then
          (S48 k a.2.2.2.2.2.2.2.2.2 b.2.2.2.2.2.2.2.2.2).bind fun q4 =>
          some ((q4.1.1,()),())
         else
          some ((false,()),()))
        else
         some ((false,()),()))
       else
        some ((false,()),()))
      else
       some ((false,()),()))
     else
      some ((false,()),()))
    else
     some ((false,()),()))
   else
    some ((false,()),()))
  else
   some ((false,()),()))
 else
  some ((false,()),()))
def F14:Fn:=⟨[KQ,KQ],[rB],fun k x=>S14 k x.1 x.2.1⟩
theorem ok14:O 14 F14:=okF (ah ok44 <| ah ok45 <| ah ok46 <| ah ok47 <| ah ok48 aj) [] On Tryz.func14 rfl
def S18 (k:Nat) (a:(List Int)×Int):Option iy :=
 some ((decide (a.2≥(a.1.length:Int)),()),())
def F18:Fn:=⟨[.pv (.ref (.pair (.sl 5 (.int .u8)) (.int .i64)))],[rB],fun k x=>S18 k x.1⟩
theorem ok18:O 18 F18:=okF aj [] On Tryz.func18 rfl
abbrev agQ:Cut:=⟨[0,1,5],[.cell (.sl 82 A8),.cell (.sl 82 A8),cI],[],26,[]⟩
def abV (k:Nat) (g4:C9 -> C9 -> Int -> Option iy) (a b:List (PN Int 6)) (c:Int):Option iy :=
 (bif decide (c<(a.length:Int)) then
  ix a c <|
  ix b c <|
  (bif !(fC A8 (rd a c (Pv (α:=Int) 6 0)) (rd b c (Pv (α:=Int) 6 0))) then
   some ((false,()),())
  else
   g4 a b (IntKind.i64.wrap (c+1)))
 else
  some ((true,()),()))
def alb (k:Nat):Xx (((Unit)×C9×C9×Int×Unit) -> Option iy):=dh (bf (ay (ay (ay bg)))) (abV k)
def QD (k a:Nat) (b c:List (PN Int 6)) (e:Int):Option iy:=iter agQ (alb k) a ((),b,c,e,())
theorem abW (k a b c e):QD k (a+1) b c e=abV k (QD k a) b c e:=Ba _ _ _ _
def S22 (k:Nat) (a b:List (PN Int 6)):Option iy :=
 (bif (a.length:Int) != (b.length:Int) then
  some ((false,()),())
 else
  QD k k a b 0)
def F22:Fn:=⟨[ao3,ao3],[rB],fun k x=>S22 k x.1 x.2.1⟩
theorem ok22:O 22 F22:=okF aj [] (fun k=>(.loop 4 agQ (alb k) (fun g=>.nil) .nil)) Tryz.func22 rfl
abbrev anf:Cut:=⟨[10,12,14],[.box 37 [cI,cI,.cell tu,.cell qo,.cell .bool,.cell .bool,.cell .bool,.cell qp,.cell jf,.cell jw,.cell (.sl 124 MX),.cell jf,.cell jw],.box 44 [cI,cI,.cell tu,.cell qo,.cell .bool,.cell .bool,.cell .bool,.cell qp,.cell jf,.cell jw,.cell tq,.cell jf,.cell jw],.box 140 [.cell (.sl 5 (.int .u8)),cI]],[],158,[]⟩
def KS (k:Nat) (g18:afU) (a b:Int) (c:List mq) (e:List (PN Int 5)) (f h i:Bool) (l:List lu) (m:List Int) (n:List Bool) (o:List j4) (p:List Int) (s:List Bool) (t u:Int) (v:List mq) (w:List (PN Int 5)) (y z A:Bool) (B:List lu) (C:List Int) (D:List Bool) (G:List j4) (H:List Int) (I:List Bool) (J:List Int) (K:Int):Option iy :=
 (S15 k (a,b,c,e,f,h,i,l,((m,n),o),p,s)).bind fun q24 =>
 (S14 k q24.1.1 (t,u,v,w,y,z,A,B,((C,D),G),H,I)).bind fun q25 =>
 (bif !q25.1.1 then
  some ((false,()),())
 else
  g18 a b c e f h i l m n o p s t u v w y z A B C D G H I J K)
abbrev agR:Cut:=⟨[10,12,14],[.box 37 [cI,cI,.cell tu,.cell qo,.cell .bool,.cell .bool,.cell .bool,.cell qp,.cell jf,.cell jw,.cell (.sl 124 MX),.cell jf,.cell jw],.box 44 [cI,cI,.cell tu,.cell qo,.cell .bool,.cell .bool,.cell .bool,.cell qp,.cell jf,.cell jw,.cell tq,.cell jf,.cell jw],.box 140 [.cell (.sl 5 (.int .u8)),cI]],[],158,[]⟩
def abX (k:Nat) (g18:afU) (a b:Int) (p:List mq) (a1:List (PN Int 5)) (b1 p1 a2:Bool) (b2:List lu) (a3:List Int) (b3:List Bool) (a4:List j4) (b4:List Int) (f4:List Bool) (h4 i4:Int) (l4:List mq) (m4:List (PN Int 5)) (n4 o4 p4:Bool) (s4:List lu) (t4:List Int) (u4:List Bool) (v4:List j4) (w4:List Int) (y4:List Bool) (z4:List Int) (a5:Int):Option iy :=
 (S18 k (z4,a5)).bind fun q9 =>
 (bif !q9.1.1 then
  (FT k z4 a5 8).bind fun Q0 =>
  (bif Q0.1.1==0 then
   (FT k Q0.2.1.1 Q0.2.1.2.1 6).bind fun MS =>
   (FT k MS.2.1.1 MS.2.1.2.1 9).bind fun q12 =>
   (S20 k (a,b,p,a1,b1,p1,a2,b2,((a3,b3),a4),b4,f4) (IntKind.i64.wrap (MS.1.1 - 1)) q12.1.1).bind fun (((c,e,f,h,i,l,m,n,((o,s),t),u,v),w,y,_),_) =>
   (S21 k (h4,i4,l4,m4,n4,o4,p4,s4,((t4,u4),v4),w4,y4) (IntKind.i64.wrap (MS.1.1 - 1)) q12.1.1).bind fun (((z,A,B,C,D,G,H,I,((J,K),M),N,O),P,Q,_),_) =>
   (bif y != Q then
    some ((false,()),())
   else
    (S22 k w P).bind fun q15 =>
    (bif !q15.1.1 then
     some ((false,()),())
    else
     KS k g18 c e f h i l m n o s t u v z A B C D G H I J K M N O q12.2.1.1 q12.2.1.2.1))
  else
   (bif Q0.1.1==1 then
    (FT k Q0.2.1.1 Q0.2.1.2.1 6).bind fun q16 =>
    (FT k q16.2.1.1 q16.2.1.2.1 9).bind fun q17 =>
    (S20 k (a,b,p,a1,b1,p1,a2,b2,((a3,b3),a4),b4,f4) (IntKind.i64.wrap (q16.1.1 - 1)) q17.1.1).bind fun (((T,U,V,W,X,Z,c1,e1,((f1,h1),i1),l1,m1),n1,o1,_),_) =>
    (S21 k (h4,i4,l4,m4,n4,o4,p4,s4,((t4,u4),v4),w4,y4) (IntKind.i64.wrap (q16.1.1 - 1)) q17.1.1).bind fun (((s1,t1,u1,v1,w1,y1,z1,c2,((e2,f2),h2),i2,l2),m2,n2,_),_) =>
    (bif o1 != n2 then
     some ((false,()),())
    else
     (S22 k n1 m2).bind fun q20 =>
     (bif !q20.1.1 then
      some ((false,()),())
     else
      KS k g18 T U V W X Z c1 e1 f1 h1 i1 l1 m1 s1 t1 u1 v1 w1 y1 z1 c2 e2 f2 h2 i2 l2 q17.2.1.1 q17.2.1.2.1))
   else
    (bif Q0.1.1==2 then
     KS k g18 a b p a1 b1 p1 true b2 a3 b3 a4 b4 f4 h4 i4 l4 m4 n4 o4 true s4 t4 u4 v4 w4 y4 Q0.2.1.1 Q0.2.1.2.1
    else
     (S23 k (a,b,p,a1,b1,p1,a2,b2,((a3,b3),a4),b4,f4)).bind fun (((o2,p2,s2,t2,u2,v2,w2,y2,((z2,c3),e3),f3,h3),i3,_),_) =>
     (S24 k (h4,i4,l4,m4,n4,o4,p4,s4,((t4,u4),v4),w4,y4)).bind fun (((l3,m3,n3,o3,p3,s3,t3,u3,((v3,w3),y3),z3,c4),e4,_),_) =>
     (S22 k i3 e4).bind fun q23 =>
     (bif !q23.1.1 then
      some ((false,()),())
     else
      KS k g18 o2 p2 s2 t2 u2 v2 w2 y2 z2 c3 e3 f3 h3 l3 m3 n3 o3 p3 s3 t3 u3 v3 w3 y3 z3 c4 Q0.2.1.1 Q0.2.1.2.1))))
 else
  some ((true,()),()))
def alc (k:Nat):Xx (((Unit)×MZ×MZ×((List Int)×Int×Unit)×Unit) -> Option iy):=dh (bf (bq (ay (ay (ay (ay (ay (ay (ay (ay (ay (ay (ay (ay (ay bg))))))))))))) (bq (ay (ay (ay (ay (ay (ay (ay (ay (ay (ay (ay (ay (ay bg))))))))))))) (bq (ay (ay bg)) bg)))) (abX k)
def X0 (k a:Nat) (b c:Int) (e:List mq) (f:List (PN Int 5)) (h i l:Bool) (m:List lu) (n:List Int) (o:List Bool) (p:List j4) (s:List Int) (t:List Bool) (u v:Int) (w:List mq) (y:List (PN Int 5)) (z A B:Bool) (C:List lu) (D:List Int) (G:List Bool) (H:List j4) (I:List Int) (J:List Bool) (K:List Int) (M:Int):Option iy:=iter agR (alc k) a ((),(b,c,e,f,h,i,l,m,n,o,p,s,t,()),(u,v,w,y,z,A,B,C,D,G,H,I,J,()),(K,M,()),())
theorem abY (k a b c e f h i l m n o p s t u v w y z A B C D G H I J K M):X0 k (a+1) b c e f h i l m n o p s t u v w y z A B C D G H I J K M=abX k (X0 k a) b c e f h i l m n o p s t u v w y z A B C D G H I J K M:=Ba _ _ _ _
def S3 (k:Nat) (p s:List Int) (t:Int):Option iy :=
 (S9 k).bind fun q0 =>
 (bif !q0.1.1 then
  some ((false,()),())
 else
  (bif decide ((p.length:Int)>200) then
   some ((true,()),())
  else
   (bif decide ((s.length:Int)>250) then
    some ((true,()),())
   else
    (S10 k p (IntKind.i64.wrap (1+(IntKind.i64.wrap t)))).bind fun ((a,(b,c,e,f,h,i,l,m,_,n),o,_),_) =>
    (bif !o then
     some ((false,()),())
    else
     (S11 k a.2.2.2.2.2.2.2.2.1).bind fun q2 =>
     (S12 k a).bind fun q3 =>
     (S13 k (b,c,e,f,h,i,l,m,q2.1.1,n)).bind fun q4 =>
     (bif q3.1.2.1 != q4.1.2.1 then
      some ((false,()),())
     else
      (S15 k q3.1.1).bind fun q5 =>
      (S14 k q5.1.1 q4.1.1).bind fun q6 =>
      (bif !q6.1.1 then
       some ((false,()),())
      else
       (bif q4.1.2.1 != 0 then
        some ((true,()),())
       else
        (S16 k (q4.1.1.2.2.1.length:Int)).bind fun q7 =>
        mk (q4.1.1.2.2.1.length:Int) (q4.1.1.2.2.1.length:Int) 8 <|
        mk (q4.1.1.2.2.1.length:Int) (q4.1.1.2.2.1.length:Int) 1 <|
        (S17 k s).bind fun q8 =>
        X0 k k q3.1.1.1 q3.1.1.2.1 q3.1.1.2.2.1 q3.1.1.2.2.2.1 q3.1.1.2.2.2.2.1 q3.1.1.2.2.2.2.2.1 q3.1.1.2.2.2.2.2.2.1 q3.1.1.2.2.2.2.2.2.2.1 q3.1.1.2.2.2.2.2.2.2.2.1.1.1 q3.1.1.2.2.2.2.2.2.2.2.1.1.2 q3.1.1.2.2.2.2.2.2.2.2.1.2 (List.replicate (q4.1.1.2.2.1.length:Int).toNat (0:Int)) (List.replicate (q4.1.1.2.2.1.length:Int).toNat (false:Bool)) q4.1.1.1 q4.1.1.2.1 q4.1.1.2.2.1 q4.1.1.2.2.2.1 q4.1.1.2.2.2.2.1 q4.1.1.2.2.2.2.2.1 q4.1.1.2.2.2.2.2.2.1 q4.1.1.2.2.2.2.2.2.2.1 q4.1.1.2.2.2.2.2.2.2.2.1.1.1 q4.1.1.2.2.2.2.2.2.2.2.1.1.2 q4.1.1.2.2.2.2.2.2.2.2.1.2 q7.1.1.1 q7.1.1.2 q8.1.1.1 q8.1.1.2.1)))))))
def F3:Fn:=⟨[amM,amM,.val ⟨false,(.int .u8),false⟩],[rB],fun k (a,b,c,_)=>S3 k a b c⟩
theorem ok3:O 3 F3:=okF (ah ok9 <| ah ok10 <| ah ok11 <| ah ok12 <| ah ok13 <| ah ok14 <| ah ok15 <| ah ok16 <| ah ok17 <| ah ok18 <| ah ok19 <| ah ok20 <| ah ok21 <| ah ok22 <| ah ok23 <| ah ok24 aj) [] (fun k=>(.loop 18 agR (alc k) (fun g=>(fun (g18:afU)=>(.join 35 anf (fun (_,(a,b,c,e,f,h,i,l,m,n,o,p,s,_),(t,u,v,w,y,z,A,B,C,D,G,H,I,_),(J,K,_),_)=>KS k g18 a b c e f h i l m n o p s t u v w y z A B C D G H I J K) .nil)) (fun a a1 a2 a3 a4 a5 a6 a7 a8 a9 a10 a11 a12 b b1 b2 b3 b4 b5 b6 b7 b8 b9 b10 b11 b12 p p1=>g ((),(a,a1,a2,a3,a4,a5,a6,a7,a8,a9,a10,a11,a12,()),(b,b1,b2,b3,b4,b5,b6,b7,b8,b9,b10,b11,b12,()),(p,p1,()),()))) .nil)) Tryz.func3 rfl
end
end Go.Proofs.YtmmagcjlfcicfaaGreat.Ab
