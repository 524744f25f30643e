import Derived.Test.YtjjjbcmjmkcedaaGreatAbS1
/- Contracts, printed by this session's own program gen.py. -/
set_option linter.unusedVariables false
set_option linter.unusedSimpArgs false
set_option maxRecDepth 100000
namespace Go.Proofs.YtjjjbcmjmkcedaaGreat.Ab
open Go.RowKit
abbrev akf:Type:=Int×Int×(List (Int×Int×Int×(List (Int×Int×Int×Int))×(List (Int×Int×Int×Int))×List (Int×Int×Int×Int)))×(List (PN Int 5))×Bool×Bool×Bool×(List (Int×Int×Int×Int×(Int×(PN Int 8)×(List (Int×Int×Int))×Bool)×(Int×(PN Int 8)×(List (Int×Int×Int))×Bool)×(List Int)×Bool))×(((List Int)×List Bool)×List (Int×(Int×Int)×(Int×Int)×((List Int)×List Int)×(Int×List (Int×Int))×Int))×(List Int)×List Bool
abbrev aaZ:Ty:=.pair (.int .i64) (.pair (.pair (.int .i64) (.int .i64)) (.pair (.pair (.int .i64) (.int .i64)) (.pair (.pair (.sl 2 (.int .i64)) (.sl 3 (.int .i64))) (.pair (.pair (.int .u32) (.sl 266 (.pair (.int .i64) (.int .u32)))) (.int .u32)))))
abbrev amU:Type:=Int×Int×(List (Int×Int×Int×(List (Int×Int×Int×Int))×(List (Int×Int×Int×Int))×List (Int×Int×Int×Int)))×(List (PN Int 5))×Bool×Bool×Bool×(List (Int×Int×Int×Int×(Int×(PN Int 8)×(List (Int×Int×Int))×Bool)×(Int×(PN Int 8)×(List (Int×Int×Int))×Bool)×(List Int)×Bool))×(List Int)×(List Bool)×(List (Int×(Int×Int)×(Int×Int)×((List Int)×List Int)×(Int×List (Int×Int))×Int))×(List Int)×(List Bool)×Unit
abbrev amV:Ty:=.pair (.int .i64) (.pair (.int .i64) (.pair (.int .i64) (.pair (.sl 127 (.pair (.int .i64) (.pair (.int .i64) (.pair (.int .i64) (.int .i64))))) (.pair (.sl 127 (.pair (.int .i64) (.pair (.int .i64) (.pair (.int .i64) (.int .i64))))) (.sl 127 (.pair (.int .i64) (.pair (.int .i64) (.pair (.int .i64) (.int .i64)))))))))
abbrev Y5:Type:=Int×(Int×Int)×(Int×Int)×((List Int)×List Int)×(Int×List (Int×Int))×Int
abbrev aqc:Ty:=.pair (.int .i64) (.pair (.int .i64) (.pair (.int .i64) (.pair (.int .i64) (.pair (.pair (.int .i64) (.pair (Am 8 (.int .i64)) (.pair (.sl 293 (.pair (.int .i64) (.pair (.int .i64) (.int .i64)))) .bool))) (.pair (.pair (.int .i64) (.pair (Am 8 (.int .i64)) (.pair (.sl 293 (.pair (.int .i64) (.pair (.int .i64) (.int .i64)))) .bool))) (.pair (.sl 3 (.int .i64)) .bool))))))
abbrev qd:Type:=(Bool×Unit)×Unit
abbrev akg:Type:=Int×(Int×(Int×Int×Int×(List (Int×Int×Int×Int))×(List (Int×Int×Int×Int))×List (Int×Int×Int×Int))×(Int×Int)×Int×Int×Int)×Int×Int
abbrev arx:Type:=Int×Int×(List (Int×Int×Int×(List (Int×Int×Int×Int))×(List (Int×Int×Int×Int))×List (Int×Int×Int×Int)))×(List (PN Int 5))×Bool×Bool×Bool×(List (Int×Int×Int×Int×(Int×(PN Int 8)×(List (Int×Int×Int))×Bool)×(Int×(PN Int 8)×(List (Int×Int×Int))×Bool)×(List Int)×Bool))×(((List Int)×List Bool)×List Y5)×(List Int)×List Bool
abbrev FY:Type:=Int×(Int×Int)×Int
abbrev ao6:Type:=(List Int)×(List Bool)×Unit
abbrev afw:Ty:=.pair (.sl 3 (.int .i64)) (.sl 4 .bool)
abbrev aa0:Ty:=.pair (.int .i64) (.pair (.pair (.int .i64) (.int .i64)) (.int .i64))
abbrev ao7:Ty:=.pair (.int .i64) (.pair (.int .i64) (.pair (.sl 54 amV) (.pair (.sl 168 (Am 5 (.int .i64))) (.pair .bool (.pair .bool (.pair .bool (.pair (.sl 59 aqc) (.pair (.pair afw (.sl 140 aaZ)) afw))))))))
abbrev afx:Type:=(List Int)×(List Int)×Unit
abbrev Vn:Ty:=.pair (.int .i64) (.int .u32)
abbrev DJ:Ty:=.sl 3 (.int .i64)
abbrev akh:Type:=(List Int) -> (List Bool) -> (List Int) -> (List Bool) -> Int -> Option qd
abbrev ao8:Type:=(List Int)×(List Bool)×(List Y5)×Unit
abbrev aki:Type:=((Unit)×ao6×ao6×Int×Unit) -> Option qd
abbrev arz:PT:=.val ⟨true,(.pair (.int .u32) (.sl 266 Vn)),false⟩
abbrev arA:PT:=.val ⟨true,(.pair (.sl 2 (.int .i64)) DJ),false⟩
abbrev arB:PT:=.val ⟨true,(.pair afw (.sl 140 aaZ)),false⟩
abbrev arC:PT:=.val ⟨false,(.sl 5 (.int .u8)),false⟩
abbrev arD:PT:=.val ⟨false,(.sl 266 Vn),false⟩
abbrev amW:PT:=.val ⟨true,afw,false⟩
noncomputable section
abbrev afy:Cut:=⟨[2,3,6],[.box 61 [.cell DJ,.cell (.sl 4 .bool)],.box 61 [.cell DJ,.cell (.sl 4 .bool)],cI],[],59,[]⟩
def Y6 (k:Nat) (g9:akh) (a:List Int) (b:List Bool) (c:List Int) (e:List Bool) (f:Int):Option qd :=
 (bif decide (f<(b.length:Int)) then
  ix b f <|
  ix e f <|
  (bif !((rd b f false)==(rd e f false)) then
   some ((false,()),())
  else
   g9 a b c e (IntKind.i64.wrap (f+1)))
 else
  some ((true,()),()))
def akj (k:Nat):Xx (aki):=eu (dw (d9 (dh (dh dx)) (d9 (dh (dh dx)) (dh dx)))) (Y6 k)
def MJ (k a:Nat) (b:List Int) (c:List Bool) (e:List Int) (f:List Bool) (h:Int):Option qd:=iter afy (akj k) a ((),(b,c,()),(e,f,()),h,())
theorem aa1 (k a b c e f h):MJ k (a+1) b c e f h=Y6 k (MJ k a) b c e f h:=Ba _ _ _ _
abbrev afz:Cut:=⟨[2,3,5],[.box 61 [.cell DJ,.cell (.sl 4 .bool)],.box 61 [.cell DJ,.cell (.sl 4 .bool)],cI],[],59,[]⟩
def Y7 (k:Nat) (g4:akh) (a:List Int) (b:List Bool) (c:List Int) (e:List Bool) (f:Int):Option qd :=
 (bif decide (f<(a.length:Int)) then
  ix a f <|
  ix c f <|
  (bif (rd a f 0) != (rd c f 0) then
   some ((false,()),())
  else
   g4 a b c e (IntKind.i64.wrap (f+1)))
 else
  MJ k k a b c e 0)
def akk (k:Nat):Xx (aki):=eu (dw (d9 (dh (dh dx)) (d9 (dh (dh dx)) (dh dx)))) (Y7 k)
def MK (k a:Nat) (b:List Int) (c:List Bool) (e:List Int) (f:List Bool) (h:Int):Option qd:=iter afz (akk k) a ((),(b,c,()),(e,f,()),h,())
theorem aa2 (k a b c e f h):MK k (a+1) b c e f h=Y7 k (MK k a) b c e f h:=Ba _ _ _ _
def amX (k:Nat) (a b:(List Int)×List Bool):Option qd :=
 (bif (a.1.length:Int) != (b.1.length:Int) then
  some ((false,()),())
 else
  (bif (a.2.length:Int) != (b.2.length:Int) then
   some ((false,()),())
  else
   MK k k a.1 a.2 b.1 b.2 0))
def F138:Fn:=⟨[amW,amW],[rB],fun k x=>amX k x.1 x.2.1⟩
theorem ok138:O 138 F138:=okF aj [] (fun k=>(.loop 9 afy (akj k) (fun g=>.nil) (.loop 4 afz (akk k) (fun g=>.nil) .nil))) Tryz.func138 rfl
abbrev afA:Cut:=⟨[2,3,6],[.box 135 [.cell (.sl 2 (.int .i64)),.cell DJ],.box 135 [.cell (.sl 2 (.int .i64)),.cell DJ],cI],[],59,[]⟩
def Y8 (k:Nat) (g9:(List Int) -> (List Int) -> (List Int) -> (List Int) -> Int -> Option qd) (a b c e:List Int) (f:Int):Option qd :=
 (bif decide (f<(b.length:Int)) then
  ix b f <|
  ix e f <|
  (bif (rd b f 0) != (rd e f 0) then
   some ((false,()),())
  else
   g9 a b c e (IntKind.i64.wrap (f+1)))
 else
  some ((true,()),()))
def akl (k:Nat):Xx (((Unit)×afx×afx×Int×Unit) -> Option qd):=eu (dw (d9 (dh (dh dx)) (d9 (dh (dh dx)) (dh dx)))) (Y8 k)
def ML (k a:Nat) (b c e f:List Int) (h:Int):Option qd:=iter afA (akl k) a ((),(b,c,()),(e,f,()),h,())
theorem aa3 (k a b c e f h):ML k (a+1) b c e f h=Y8 k (ML k a) b c e f h:=Ba _ _ _ _
abbrev afB:Cut:=⟨[2,3,5],[.box 135 [.cell (.sl 2 (.int .i64)),.cell DJ],.box 135 [.cell (.sl 2 (.int .i64)),.cell DJ],cI],[],59,[]⟩
def Y9 (k:Nat) (g4:(List Int) -> (List Int) -> (List Int) -> (List Int) -> Int -> Option qd) (a b c e:List Int) (f:Int):Option qd :=
 (bif decide (f<(a.length:Int)) then
  ix a f <|
  ix c f <|
  (bif (rd a f 0) != (rd c f 0) then
   some ((false,()),())
  else
   g4 a b c e (IntKind.i64.wrap (f+1)))
 else
  ML k k a b c e 0)
def akm (k:Nat):Xx (((Unit)×afx×afx×Int×Unit) -> Option qd):=eu (dw (d9 (dh (dh dx)) (d9 (dh (dh dx)) (dh dx)))) (Y9 k)
def MN (k a:Nat) (b c e f:List Int) (h:Int):Option qd:=iter afB (akm k) a ((),(b,c,()),(e,f,()),h,())
theorem aa4 (k a b c e f h):MN k (a+1) b c e f h=Y9 k (MN k a) b c e f h:=Ba _ _ _ _
def amY (k:Nat) (a b:(List Int)×List Int):Option qd :=
 (bif (a.1.length:Int) != (b.1.length:Int) then
  some ((false,()),())
 else
  (bif (a.2.length:Int) != (b.2.length:Int) then
   some ((false,()),())
  else
   MN k k a.1 a.2 b.1 b.2 0))
def F228:Fn:=⟨[arA,arA],[rB],fun k x=>amY k x.1 x.2.1⟩
theorem ok228:O 228 F228:=okF aj [] (fun k=>(.loop 9 afA (akl k) (fun g=>.nil) (.loop 4 afB (akm k) (fun g=>.nil) .nil))) Tryz.func228 rfl
abbrev afC:Cut:=⟨[0,1,5],[.cell (.sl 266 Vn),.cell (.sl 266 Vn),cI],[],26,[]⟩
def Ya (k:Nat) (g4:(List (Int×Int)) -> (List (Int×Int)) -> Int -> Option qd) (a b:List (Int×Int)) (c:Int):Option qd :=
 (bif decide (c<(a.length:Int)) then
  ix a c <|
  ix b c <|
  (bif !(fC Vn (rd a c (0,0)) (rd b c (0,0))) then
   some ((false,()),())
  else
   g4 a b (IntKind.i64.wrap (c+1)))
 else
  some ((true,()),()))
def akn (k:Nat):Xx (((Unit)×(List (Int×Int))×(List (Int×Int))×Int×Unit) -> Option qd):=eu (dw (dh (dh (dh dx)))) (Ya k)
def J9 (k a:Nat) (b c:List (Int×Int)) (e:Int):Option qd:=iter afC (akn k) a ((),b,c,e,())
theorem aa5 (k a b c e):J9 k (a+1) b c e=Ya k (J9 k a) b c e:=Ba _ _ _ _
def aqd (k:Nat) (a b:List (Int×Int)):Option qd :=
 (bif (a.length:Int) != (b.length:Int) then
  some ((false,()),())
 else
  J9 k k a b 0)
def F290:Fn:=⟨[arD,arD],[rB],fun k x=>aqd k x.1 x.2.1⟩
theorem ok290:O 290 F290:=okF aj [] (fun k=>(.loop 4 afC (akn k) (fun g=>.nil) .nil)) Tryz.func290 rfl
def amZ (k:Nat) (a b:Int×List (Int×Int)):Option qd :=
 (bif a.1==b.1 then
  (aqd k a.2 b.2).bind fun q0 =>
  some ((q0.1.1,()),())
 else
  some ((false,()),()))
def F229:Fn:=⟨[arz,arz],[rB],fun k x=>amZ k x.1 x.2.1⟩
theorem ok229:O 229 F229:=okF (ah ok290 aj) [] On Tryz.func229 rfl
def am0 (k:Nat) (a b:Int×(Int×Int)×(Int×Int)×((List Int)×List Int)×(Int×List (Int×Int))×Int):Option qd :=
 (bif a.1==b.1 then
  (bif fC (.pair (.int .i64) (.int .i64)) a.2.1 b.2.1 then
   (bif fC (.pair (.int .i64) (.int .i64)) a.2.2.1 b.2.2.1 then
    (bif a.2.2.2.2.2==b.2.2.2.2.2 then
     (amY k a.2.2.2.1 b.2.2.2.1).bind fun q0 =>
     (bif q0.1.1 then
      (amZ k a.2.2.2.2.1 b.2.2.2.2.1).bind fun q1 =>
      some ((q1.1.1,()),())
     else
      some ((false,()),()))
    else
     some ((false,()),()))
   else
    some ((false,()),()))
  else
   some ((false,()),()))
 else
  some ((false,()),()))
def F139:Fn:=⟨[.val ⟨true,aaZ,false⟩,.val ⟨true,aaZ,false⟩],[rB],fun k x=>am0 k x.1 x.2.1⟩
theorem ok139:O 139 F139:=okF (ah ok228 <| ah ok229 aj) [] On Tryz.func139 rfl
abbrev ako:Cut:=⟨[2,3,5],[.box 64 [.cell DJ,.cell (.sl 4 .bool),.cell (.sl 140 aaZ)],.box 64 [.cell DJ,.cell (.sl 4 .bool),.cell (.sl 140 aaZ)],cI],[],40,[]⟩
def afD (k:Nat) (g4:(List Int) -> (List Bool) -> (List Y5) -> (List Int) -> (List Bool) -> (List Y5) -> Int -> Option qd) (a:List Int) (b:List Bool) (c:List Y5) (e:List Int) (f:List Bool) (h:List Y5) (i:Int):Option qd :=
 (bif decide (i<(c.length:Int)) then
  ix c i <|
  ix h i <|
  (am0 k (rd c i bf) (rd h i bf)).bind fun q1 =>
  (bif !q1.1.1 then
   some ((false,()),())
  else
   g4 a b c e f h (IntKind.i64.wrap (i+1)))
 else
  some ((true,()),()))
def ao9 (k:Nat):Xx (((Unit)×ao8×ao8×Int×Unit) -> Option qd):=eu (dw (d9 (dh (dh (dh dx))) (d9 (dh (dh (dh dx))) (dh dx)))) (afD k)
def Vo (k a:Nat) (b:List Int) (c:List Bool) (e:List Y5) (f:List Int) (h:List Bool) (i:List Y5) (l:Int):Option qd:=iter ako (ao9 k) a ((),(b,c,e,()),(f,h,i,()),l,())
theorem afE (k a b c e f h i l):Vo k (a+1) b c e f h i l=afD k (Vo k a) b c e f h i l:=Ba _ _ _ _
def S69 (k:Nat) (a b:((List Int)×List Bool)×List Y5):Option qd :=
 (bif (a.2.length:Int) != (b.2.length:Int) then
  some ((false,()),())
 else
  (amX k a.1 b.1).bind fun q0 =>
  (bif !q0.1.1 then
   some ((false,()),())
  else
   Vo k k a.1.1 a.1.2 a.2 b.1.1 b.1.2 b.2 0))
def F69:Fn:=⟨[arB,arB],[rB],fun k x=>S69 k x.1 x.2.1⟩
theorem ok69:O 69 F69:=okF (ah ok138 <| ah ok139 aj) [] (fun k=>(.loop 4 ako (ao9 k) (fun g=>.nil) .nil)) Tryz.func69 rfl
abbrev akp:Cut:=⟨[2,3,5],[.box 65 [.cell DJ,.cell (.sl 4 .bool)],.box 65 [.cell DJ,.cell (.sl 4 .bool)],cI],[],39,[]⟩
def afF (k:Nat) (g4:akh) (a:List Int) (b:List Bool) (c:List Int) (e:List Bool) (f:Int):Option qd :=
 (bif decide (f<(b.length:Int)) then
  ix b f <|
  ix e f <|
  (bif !((rd b f false)==(rd e f false)) then
   some ((false,()),())
  else
   g4 a b c e (IntKind.i64.wrap (f+1)))
 else
  some ((true,()),()))
def apa (k:Nat):Xx (aki):=eu (dw (d9 (dh (dh dx)) (d9 (dh (dh dx)) (dh dx)))) (afF k)
def Vp (k a:Nat) (b:List Int) (c:List Bool) (e:List Int) (f:List Bool) (h:Int):Option qd:=iter akp (apa k) a ((),(b,c,()),(e,f,()),h,())
theorem afG (k a b c e f h):Vp k (a+1) b c e f h=afF k (Vp k a) b c e f h:=Ba _ _ _ _
def S70 (k:Nat) (a b:(List Int)×List Bool):Option qd :=
 (bif (a.2.length:Int) != (b.2.length:Int) then
  some ((false,()),())
 else
  (akd k a.1 b.1).bind fun q0 =>
  (bif !q0.1.1 then
   some ((false,()),())
  else
   Vp k k a.1 a.2 b.1 b.2 0))
def F70:Fn:=⟨[amW,amW],[rB],fun k x=>S70 k x.1 x.2.1⟩
theorem ok70:O 70 F70:=okF (ah ok140 aj) [] (fun k=>(.loop 4 akp (apa k) (fun g=>.nil) .nil)) Tryz.func70 rfl
def S25 (k:Nat) (a b:akf):Option qd :=
 (bif a.1==b.1 then
  (bif a.2.1==b.2.1 then
   (bif a.2.2.2.2.1==b.2.2.2.2.1 then
    (bif a.2.2.2.2.2.1==b.2.2.2.2.2.1 then
     (bif a.2.2.2.2.2.2.1==b.2.2.2.2.2.2.1 then
      (S66 k a.2.2.1 b.2.2.1).bind fun q0 =>
      (bif q0.1.1 then
       (S67 k a.2.2.2.1 b.2.2.2.1).bind fun q1 =>
       (bif q1.1.1 then
        (S68 k a.2.2.2.2.2.2.2.1 b.2.2.2.2.2.2.2.1).bind fun q2 =>
        (bif q2.1.1 then
         (S69 k a.2.2.2.2.2.2.2.2.1 b.2.2.2.2.2.2.2.2.1).bind fun q3 =>
         (bif q3.1.1 then
          (S70 k a.2.2.2.2.2.2.2.2.2 b.2.2.2.2.2.2.2.2.2).bind fun q4 =>
          some ((q4.1.1,()),())
         else
          some ((false,()),()))
        else
         some ((false,()),()))
       else
        some ((false,()),()))
      else
       some ((false,()),()))
     else
      some ((false,()),()))
    else
     some ((false,()),()))
   else
    some ((false,()),()))
  else
   some ((false,()),()))
 else
  some ((false,()),()))
def F25:Fn:=⟨[.val ⟨true,ao7,false⟩,.val ⟨true,ao7,false⟩],[rB],fun k x=>S25 k x.1 x.2.1⟩
theorem ok25:O 25 F25:=okF (ah ok66 <| ah ok67 <| ah ok68 <| ah ok69 <| ah ok70 aj) [] On Tryz.func25 rfl
abbrev afH:Cut:=⟨[10,15,21],[.own 105 aa0,.own 105 aa0,cI],[],126,[]⟩
def Yb (k:Nat) (g19:(List FY) -> (List FY) -> Int -> Option qd) (a b:List FY) (c:Int):Option qd :=
 (bif decide (c<(a.length:Int)) then
  ix a c <|
  ix b c <|
  (bif !(fC aa0 (rd a c (0,(0,0),0)) (rd b c (0,(0,0),0))) then
   some ((false,()),())
  else
   g19 a b (IntKind.i64.wrap (c+1)))
 else
  some ((true,()),()))
def akq (k:Nat):Xx (((Unit)×(List FY)×(List FY)×Int×Unit) -> Option qd):=eu (dw (dh (dh (dh dx)))) (Yb k)
def JA (k a:Nat) (b c:List FY) (e:Int):Option qd:=iter afH (akq k) a ((),b,c,e,())
theorem aa6 (k a b c e):JA k (a+1) b c e=Yb k (JA k a) b c e:=Ba _ _ _ _
abbrev afI:Cut:=⟨[7,8,9,10,13,14,15,17],[.cell (.sl 100 (.pair (.int .i64) (.pair (.pair (.int .i64) (.pair amV (.pair (.pair (.int .i64) (.int .i64)) (.pair (.int .i64) Vn)))) (.pair (.int .i64) (.int .i64))))),.box 42 [cI,cI,.own 54 amV,.own 168 (Am 5 (.int .i64)),.cell .bool,.cell .bool,.cell .bool,.own 59 aqc,.own 3 (.int .i64),.own 4 .bool,.own 142 aaZ,.own 3 (.int .i64),.own 4 .bool],.own 51 (Am 6 (.int .i64)),.own 105 aa0,.box 42 [cI,cI,.own 54 amV,.own 168 (Am 5 (.int .i64)),.cell .bool,.cell .bool,.cell .bool,.own 59 aqc,.own 3 (.int .i64),.own 4 .bool,.own 142 aaZ,.own 3 (.int .i64),.own 4 .bool],.own 51 (Am 6 (.int .i64)),.own 105 aa0,cI],[],126,[]⟩
def Yc (k:Nat) (g12:(List akg) -> arx -> (List (PN Int 6)) -> (List FY) -> arx -> (List (PN Int 6)) -> (List FY) -> Int -> Option qd) (a:List akg) (b:akf) (c:List (PN Int 6)) (e:List FY) (x:akf) (f:List (PN Int 6)) (h:List FY) (i:Int):Option qd :=
 (bif decide (i<(a.length:Int)) then
  ix a i <|
  (S45 k x (rd a i bq)).bind fun q8 =>
  ap f q8.1.2.1 48 fun r9 =>
  ap h ([q8.1.2.2.1]:List FY) 32 fun r10 =>
  g12 a b c e q8.1.1 r9 r10 (IntKind.i64.wrap (i+1))
 else
  (bif (e.length:Int) != (h.length:Int) then
   some ((false,()),())
  else
   (S32 k c f).bind fun OV =>
   (bif !OV.1.1 then
    some ((false,()),())
   else
    (S26 k b).bind fun q12 =>
    (S26 k x).bind fun Zj =>
    (S25 k q12.1.1 Zj.1.1).bind fun q14 =>
    (bif !q14.1.1 then
     some ((false,()),())
    else
     JA k k e h 0))))
def akr (k:Nat) (g:((Unit)×(List akg)×amU×(List (PN Int 6))×(List FY)×amU×(List (PN Int 6))×(List FY)×Int×Unit) -> Option qd) (d:(Unit)×(List akg)×amU×(List (PN Int 6))×(List FY)×amU×(List (PN Int 6))×(List FY)×Int×Unit):Option qd:=Yc k (fun a b c e x f h i=>g ((),a,OT b,c,e,OT x,f,h,i,())) d.2.1 (tvK d.2.2.1) d.2.2.2.1 d.2.2.2.2.1 (tvK d.2.2.2.2.2.1) d.2.2.2.2.2.2.1 d.2.2.2.2.2.2.2.1 d.2.2.2.2.2.2.2.2.1
def Yd (k a:Nat) (b:List akg) (c:akf) (e:List (PN Int 6)) (f:List FY) (x:akf) (h:List (PN Int 6)) (i:List FY) (l:Int):Option qd:=iter afI (akr k) a ((),b,OT c,e,f,OT x,h,i,l,())
theorem aa7 (k a b c e f x h i l):Yd k (a+1) b c e f x h i l=Yc k (Yd k a) b c e f x h i l:=Ba _ _ _ _
def S11 (k:Nat) (a b:List Int) (c:Int):Option qd :=
 (S15 k).bind fun q0 =>
 (bif !q0.1.1 then
  some ((false,()),())
 else
  (bif decide ((a.length:Int)>200) then
   some ((true,()),())
  else
   (bif decide ((b.length:Int)>250) then
    some ((true,()),())
   else
    (S16 k a).bind fun q1 =>
    (S17 k q1.1.1.1 q1.1.1.2.1).bind fun q2 =>
    (S16 k b).bind fun q3 =>
    (S18 k q3.1.1.1 q3.1.1.2.1 100).bind fun q4 =>
    ap q2.1.1 q4.1.1 168 fun r5 =>
    (S19 k 40 r5).bind fun q6 =>
    nz (IntKind.i64.wrap ((r5.length:Int)+1)) <|
    sx r5 0 (Int.tmod (IntKind.i64.wrap c) (IntKind.i64.wrap ((r5.length:Int)+1))) <|
    (S19 k 40 (sub r5 0 (Int.tmod (IntKind.i64.wrap c) (IntKind.i64.wrap ((r5.length:Int)+1))))).bind fun q7 =>
    (bif !q6.1.2.2.2.1 then
     some ((false,()),())
    else
     (bif !q7.1.2.2.2.1 then
      some ((false,()),())
     else
      Yd k k r5 q6.1.1 q6.1.2.1 q6.1.2.2.1 q7.1.1 q7.1.2.1 q7.1.2.2.1 (Int.tmod (IntKind.i64.wrap c) (IntKind.i64.wrap ((r5.length:Int)+1))))))))
def F11:Fn:=⟨[arC,arC,.val ⟨false,(.int .u8),false⟩],[rB],fun k (a,b,c,_)=>S11 k a b c⟩
theorem ok11:O 11 F11:=okF (ah ok15 <| ah ok16 <| ah ok17 <| ah ok18 <| ah ok19 <| ah ok25 <| ah ok26 <| ah ok32 <| ah ok45 aj) [] (fun k=>(.loop 19 afH (akq k) (fun g=>.nil) (.loop 12 afI (akr k) (fun g=>.nil) .nil))) Tryz.func11 rfl
end
end Go.Proofs.YtjjjbcmjmkcedaaGreat.Ab
