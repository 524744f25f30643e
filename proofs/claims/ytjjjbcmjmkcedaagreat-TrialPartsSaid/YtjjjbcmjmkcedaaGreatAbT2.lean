import Derived.Test.YtjjjbcmjmkcedaaGreatAbT1
/- Contracts, printed by this session's own program gen.py. -/
set_option linter.unusedVariables false
set_option linter.unusedSimpArgs false
set_option maxRecDepth 100000
namespace Go.Proofs.YtjjjbcmjmkcedaaGreat.Ab
open Go.RowKit
abbrev akc:Type:=Int×Int×(List (Int×Int×Int×(List (Int×Int×Int×Int))×(List (Int×Int×Int×Int))×List (Int×Int×Int×Int)))×(List (PN Int 5))×Bool×Bool×Bool×(List (Int×Int×Int×Int×(Int×(PN Int 8)×(List (Int×Int×Int))×Bool)×(Int×(PN Int 8)×(List (Int×Int×Int))×Bool)×(List Int)×Bool))×(((List Int)×List Bool)×List (Int×(Int×Int)×(Int×Int)×((List Int)×List Int)×(Int×List (Int×Int))×Int))×(List Int)×List Bool
abbrev aaY:Type:=Int×Int×(List (Int×Int×Int×(List (Int×Int×Int×Int))×(List (Int×Int×Int×Int))×List (Int×Int×Int×Int)))×(List (PN Int 5))×Bool×Bool×Bool×(List (Int×Int×Int×Int×(Int×(PN Int 8)×(List (Int×Int×Int))×Bool)×(Int×(PN Int 8)×(List (Int×Int×Int))×Bool)×(List Int)×Bool))×(List Int)×(List Bool)×(List (Int×(Int×Int)×(Int×Int)×((List Int)×List Int)×(Int×List (Int×Int))×Int))×(List Int)×(List Bool)×Unit
abbrev UH:Ty:=.pair (.int .i64) (.pair (.pair (.int .i64) (.int .i64)) (.pair (.pair (.int .i64) (.int .i64)) (.pair (.pair (.sl 2 (.int .i64)) (.sl 3 (.int .i64))) (.pair (.pair (.int .u32) (.sl 266 (.pair (.int .i64) (.int .u32)))) (.int .u32)))))
abbrev akd:Ty:=.pair (.int .i64) (.pair (.int .i64) (.pair (.int .i64) (.pair (.int .i64) (.pair (.pair (.int .i64) (.pair (Am 8 (.int .i64)) (.pair (.sl 293 (.pair (.int .i64) (.pair (.int .i64) (.int .i64)))) .bool))) (.pair (.pair (.int .i64) (.pair (Am 8 (.int .i64)) (.pair (.sl 293 (.pair (.int .i64) (.pair (.int .i64) (.int .i64)))) .bool))) (.pair (.sl 3 (.int .i64)) .bool))))))
abbrev amP:Type:=Int×Int×(List (Int×Int×Int×(List (Int×Int×Int×Int))×(List (Int×Int×Int×Int))×List (Int×Int×Int×Int)))×(List (PN Int 5))×Bool×Bool×Bool×(List (Int×Int×Int×Int×(Int×(PN Int 8)×(List (Int×Int×Int))×Bool)×(Int×(PN Int 8)×(List (Int×Int×Int))×Bool)×(List Int)×Bool))×(((List Int)×List Bool)×List (Int×(Int×Int)×(Int×Int)×((List Int)×List Int)×(Int×List (Int×Int))×Int))×(List Int)×List Bool
abbrev ake:Ty:=.pair (.int .i64) (.pair (.int .i64) (.pair (.int .i64) (.pair (.sl 127 (.pair (.int .i64) (.pair (.int .i64) (.pair (.int .i64) (.int .i64))))) (.pair (.sl 127 (.pair (.int .i64) (.pair (.int .i64) (.pair (.int .i64) (.int .i64))))) (.sl 127 (.pair (.int .i64) (.pair (.int .i64) (.pair (.int .i64) (.int .i64)))))))))
abbrev aaZ:Type:=Int×(Int×Int)×(Int×Int)×((List Int)×List Int)×(Int×List (Int×Int))×Int
abbrev qy:Type:=(Bool×Unit)×Unit
abbrev BO:Ty:=.sl 3 (.int .i64)
abbrev arx:Type:=(List Int)×(List Bool)×Unit
abbrev ao4:Ty:=.pair (.int .i64) (.pair (.int .i64) (.pair (.sl 54 ake) (.pair (.sl 168 (Am 5 (.int .i64))) (.pair .bool (.pair .bool (.pair .bool (.pair (.sl 59 akd) (.pair (.pair (.pair BO (.sl 4 .bool)) (.sl 140 UH)) (.pair BO (.sl 4 .bool))))))))))
abbrev aft:Type:=(List Int)×(List Int)×Unit
abbrev aa0:Ty:=.sl 266 (.pair (.int .i64) (.int .u32))
abbrev akf:Type:=(List Int) -> (List Bool) -> (List Int) -> (List Bool) -> Int -> Option qy
abbrev AQ:Ty:=.sl 4 .bool
abbrev ao5:Type:=(List Int)×(List Bool)×(List aaZ)×Unit
abbrev akg:Type:=((Unit)×arx×arx×Int×Unit) -> Option qy
abbrev arz:PT:=.val ⟨true,(.pair (.pair BO AQ) (.sl 140 UH)),false⟩
abbrev arA:PT:=.val ⟨true,(.pair (.sl 2 (.int .i64)) BO),false⟩
abbrev arB:PT:=.val ⟨true,(.pair (.int .u32) aa0),false⟩
abbrev arC:PT:=.val ⟨false,(.sl 5 (.int .u8)),false⟩
abbrev amQ:PT:=.val ⟨true,(.pair BO AQ),false⟩
noncomputable section
abbrev afu:Cut:=⟨[2,3,6],[.box 61 [.cell BO,.cell AQ],.box 61 [.cell BO,.cell AQ],cI],[],59,[]⟩
def Y9 (k:Nat) (g9:akf) (a:List Int) (b:List Bool) (c:List Int) (e:List Bool) (f:Int):Option qy :=
 (bif decide (f<(b.length:Int)) then
  ix b f <|
  ix e f <|
  (bif !((rd b f false)==(rd e f false)) then
   some ((false,()),())
  else
   g9 a b c e (IntKind.i64.wrap (f+1)))
 else
  some ((true,()),()))
def akh (k:Nat):Xx (akg):=eu (dw (d9 (dh (dh dx)) (d9 (dh (dh dx)) (dh dx)))) (Y9 k)
def MK (k a:Nat) (b:List Int) (c:List Bool) (e:List Int) (f:List Bool) (h:Int):Option qy:=iter afu (akh k) a ((),(b,c,()),(e,f,()),h,())
theorem aa1 (k a b c e f h):MK k (a+1) b c e f h=Y9 k (MK k a) b c e f h:=Ba _ _ _ _
abbrev afv:Cut:=⟨[2,3,5],[.box 61 [.cell BO,.cell AQ],.box 61 [.cell BO,.cell AQ],cI],[],59,[]⟩
def Ya (k:Nat) (g4:akf) (a:List Int) (b:List Bool) (c:List Int) (e:List Bool) (f:Int):Option qy :=
 (bif decide (f<(a.length:Int)) then
  ix a f <|
  ix c f <|
  (bif (rd a f 0) != (rd c f 0) then
   some ((false,()),())
  else
   g4 a b c e (IntKind.i64.wrap (f+1)))
 else
  MK k k a b c e 0)
def aki (k:Nat):Xx (akg):=eu (dw (d9 (dh (dh dx)) (d9 (dh (dh dx)) (dh dx)))) (Ya k)
def ML (k a:Nat) (b:List Int) (c:List Bool) (e:List Int) (f:List Bool) (h:Int):Option qy:=iter afv (aki k) a ((),(b,c,()),(e,f,()),h,())
theorem aa2 (k a b c e f h):ML k (a+1) b c e f h=Ya k (ML k a) b c e f h:=Ba _ _ _ _
def amR (k:Nat) (a b:(List Int)×List Bool):Option qy :=
 (bif (a.1.length:Int) != (b.1.length:Int) then
  some ((false,()),())
 else
  (bif (a.2.length:Int) != (b.2.length:Int) then
   some ((false,()),())
  else
   ML k k a.1 a.2 b.1 b.2 0))
def F138:Fn:=⟨[amQ,amQ],[rB],fun k x=>amR k x.1 x.2.1⟩
theorem ok138:O 138 F138:=okF aj [] (fun k=>(.loop 9 afu (akh k) (fun g=>.nil) (.loop 4 afv (aki k) (fun g=>.nil) .nil))) Tryz.func138 rfl
abbrev afw:Cut:=⟨[2,3,6],[.box 135 [.cell (.sl 2 (.int .i64)),.cell BO],.box 135 [.cell (.sl 2 (.int .i64)),.cell BO],cI],[],59,[]⟩
def Yb (k:Nat) (g9:(List Int) -> (List Int) -> (List Int) -> (List Int) -> Int -> Option qy) (a b c e:List Int) (f:Int):Option qy :=
 (bif decide (f<(b.length:Int)) then
  ix b f <|
  ix e f <|
  (bif (rd b f 0) != (rd e f 0) then
   some ((false,()),())
  else
   g9 a b c e (IntKind.i64.wrap (f+1)))
 else
  some ((true,()),()))
def akj (k:Nat):Xx (((Unit)×aft×aft×Int×Unit) -> Option qy):=eu (dw (d9 (dh (dh dx)) (d9 (dh (dh dx)) (dh dx)))) (Yb k)
def MN (k a:Nat) (b c e f:List Int) (h:Int):Option qy:=iter afw (akj k) a ((),(b,c,()),(e,f,()),h,())
theorem aa3 (k a b c e f h):MN k (a+1) b c e f h=Yb k (MN k a) b c e f h:=Ba _ _ _ _
abbrev afx:Cut:=⟨[2,3,5],[.box 135 [.cell (.sl 2 (.int .i64)),.cell BO],.box 135 [.cell (.sl 2 (.int .i64)),.cell BO],cI],[],59,[]⟩
def Yc (k:Nat) (g4:(List Int) -> (List Int) -> (List Int) -> (List Int) -> Int -> Option qy) (a b c e:List Int) (f:Int):Option qy :=
 (bif decide (f<(a.length:Int)) then
  ix a f <|
  ix c f <|
  (bif (rd a f 0) != (rd c f 0) then
   some ((false,()),())
  else
   g4 a b c e (IntKind.i64.wrap (f+1)))
 else
  MN k k a b c e 0)
def akk (k:Nat):Xx (((Unit)×aft×aft×Int×Unit) -> Option qy):=eu (dw (d9 (dh (dh dx)) (d9 (dh (dh dx)) (dh dx)))) (Yc k)
def MO (k a:Nat) (b c e f:List Int) (h:Int):Option qy:=iter afx (akk k) a ((),(b,c,()),(e,f,()),h,())
theorem aa4 (k a b c e f h):MO k (a+1) b c e f h=Yc k (MO k a) b c e f h:=Ba _ _ _ _
def amS (k:Nat) (a b:(List Int)×List Int):Option qy :=
 (bif (a.1.length:Int) != (b.1.length:Int) then
  some ((false,()),())
 else
  (bif (a.2.length:Int) != (b.2.length:Int) then
   some ((false,()),())
  else
   MO k k a.1 a.2 b.1 b.2 0))
def F228:Fn:=⟨[arA,arA],[rB],fun k x=>amS k x.1 x.2.1⟩
theorem ok228:O 228 F228:=okF aj [] (fun k=>(.loop 9 afw (akj k) (fun g=>.nil) (.loop 4 afx (akk k) (fun g=>.nil) .nil))) Tryz.func228 rfl
abbrev afy:Cut:=⟨[0,1,5],[.cell aa0,.cell aa0,cI],[],26,[]⟩
def Yd (k:Nat) (g4:(List (Int×Int)) -> (List (Int×Int)) -> Int -> Option qy) (a b:List (Int×Int)) (c:Int):Option qy :=
 (bif decide (c<(a.length:Int)) then
  ix a c <|
  ix b c <|
  (bif !(fC (.pair (.int .i64) (.int .u32)) (rd a c (0,0)) (rd b c (0,0))) then
   some ((false,()),())
  else
   g4 a b (IntKind.i64.wrap (c+1)))
 else
  some ((true,()),()))
def akl (k:Nat):Xx (((Unit)×(List (Int×Int))×(List (Int×Int))×Int×Unit) -> Option qy):=eu (dw (dh (dh (dh dx)))) (Yd k)
def JA (k a:Nat) (b c:List (Int×Int)) (e:Int):Option qy:=iter afy (akl k) a ((),b,c,e,())
theorem aa5 (k a b c e):JA k (a+1) b c e=Yd k (JA k a) b c e:=Ba _ _ _ _
def aqd (k:Nat) (a b:List (Int×Int)):Option qy :=
 (bif (a.length:Int) != (b.length:Int) then
  some ((false,()),())
 else
  JA k k a b 0)
def F290:Fn:=⟨[.val ⟨false,aa0,false⟩,.val ⟨false,aa0,false⟩],[rB],fun k x=>aqd k x.1 x.2.1⟩
theorem ok290:O 290 F290:=okF aj [] (fun k=>(.loop 4 afy (akl k) (fun g=>.nil) .nil)) Tryz.func290 rfl
def amT (k:Nat) (a b:Int×List (Int×Int)):Option qy :=
 (bif a.1==b.1 then
  (aqd k a.2 b.2).bind fun q0 =>
  some ((q0.1.1,()),())
 else
  some ((false,()),()))
def F229:Fn:=⟨[arB,arB],[rB],fun k x=>amT k x.1 x.2.1⟩
theorem ok229:O 229 F229:=okF (ah ok290 aj) [] On Tryz.func229 rfl
def amU (k:Nat) (a b:Int×(Int×Int)×(Int×Int)×((List Int)×List Int)×(Int×List (Int×Int))×Int):Option qy :=
 (bif a.1==b.1 then
  (bif fC (.pair (.int .i64) (.int .i64)) a.2.1 b.2.1 then
   (bif fC (.pair (.int .i64) (.int .i64)) a.2.2.1 b.2.2.1 then
    (bif a.2.2.2.2.2==b.2.2.2.2.2 then
     (amS k a.2.2.2.1 b.2.2.2.1).bind fun q0 =>
     (bif q0.1.1 then
      (amT k a.2.2.2.2.1 b.2.2.2.2.1).bind fun q1 =>
      some ((q1.1.1,()),())
     else
      some ((false,()),()))
    else
     some ((false,()),()))
   else
    some ((false,()),()))
  else
   some ((false,()),()))
 else
  some ((false,()),()))
def F139:Fn:=⟨[.val ⟨true,UH,false⟩,.val ⟨true,UH,false⟩],[rB],fun k x=>amU k x.1 x.2.1⟩
theorem ok139:O 139 F139:=okF (ah ok228 <| ah ok229 aj) [] On Tryz.func139 rfl
abbrev akm:Cut:=⟨[2,3,5],[.box 64 [.cell BO,.cell AQ,.cell (.sl 140 UH)],.box 64 [.cell BO,.cell AQ,.cell (.sl 140 UH)],cI],[],40,[]⟩
def afz (k:Nat) (g4:(List Int) -> (List Bool) -> (List aaZ) -> (List Int) -> (List Bool) -> (List aaZ) -> Int -> Option qy) (a:List Int) (b:List Bool) (c:List aaZ) (e:List Int) (f:List Bool) (h:List aaZ) (i:Int):Option qy :=
 (bif decide (i<(c.length:Int)) then
  ix c i <|
  ix h i <|
  (amU k (rd c i bf) (rd h i bf)).bind fun q1 =>
  (bif !q1.1.1 then
   some ((false,()),())
  else
   g4 a b c e f h (IntKind.i64.wrap (i+1)))
 else
  some ((true,()),()))
def ao6 (k:Nat):Xx (((Unit)×ao5×ao5×Int×Unit) -> Option qy):=eu (dw (d9 (dh (dh (dh dx))) (d9 (dh (dh (dh dx))) (dh dx)))) (afz k)
def Vt (k a:Nat) (b:List Int) (c:List Bool) (e:List aaZ) (f:List Int) (h:List Bool) (i:List aaZ) (l:Int):Option qy:=iter akm (ao6 k) a ((),(b,c,e,()),(f,h,i,()),l,())
theorem afA (k a b c e f h i l):Vt k (a+1) b c e f h i l=afz k (Vt k a) b c e f h i l:=Ba _ _ _ _
def S69 (k:Nat) (a b:((List Int)×List Bool)×List aaZ):Option qy :=
 (bif (a.2.length:Int) != (b.2.length:Int) then
  some ((false,()),())
 else
  (amR k a.1 b.1).bind fun q0 =>
  (bif !q0.1.1 then
   some ((false,()),())
  else
   Vt k k a.1.1 a.1.2 a.2 b.1.1 b.1.2 b.2 0))
def F69:Fn:=⟨[arz,arz],[rB],fun k x=>S69 k x.1 x.2.1⟩
theorem ok69:O 69 F69:=okF (ah ok138 <| ah ok139 aj) [] (fun k=>(.loop 4 akm (ao6 k) (fun g=>.nil) .nil)) Tryz.func69 rfl
abbrev akn:Cut:=⟨[2,3,5],[.box 65 [.cell BO,.cell AQ],.box 65 [.cell BO,.cell AQ],cI],[],39,[]⟩
def afB (k:Nat) (g4:akf) (a:List Int) (b:List Bool) (c:List Int) (e:List Bool) (f:Int):Option qy :=
 (bif decide (f<(b.length:Int)) then
  ix b f <|
  ix e f <|
  (bif !((rd b f false)==(rd e f false)) then
   some ((false,()),())
  else
   g4 a b c e (IntKind.i64.wrap (f+1)))
 else
  some ((true,()),()))
def ao7 (k:Nat):Xx (akg):=eu (dw (d9 (dh (dh dx)) (d9 (dh (dh dx)) (dh dx)))) (afB k)
def Vu (k a:Nat) (b:List Int) (c:List Bool) (e:List Int) (f:List Bool) (h:Int):Option qy:=iter akn (ao7 k) a ((),(b,c,()),(e,f,()),h,())
theorem afC (k a b c e f h):Vu k (a+1) b c e f h=afB k (Vu k a) b c e f h:=Ba _ _ _ _
def S70 (k:Nat) (a b:(List Int)×List Bool):Option qy :=
 (bif (a.2.length:Int) != (b.2.length:Int) then
  some ((false,()),())
 else
  (aj9 k a.1 b.1).bind fun q0 =>
  (bif !q0.1.1 then
   some ((false,()),())
  else
   Vu k k a.1 a.2 b.1 b.2 0))
def F70:Fn:=⟨[amQ,amQ],[rB],fun k x=>S70 k x.1 x.2.1⟩
theorem ok70:O 70 F70:=okF (ah ok140 aj) [] (fun k=>(.loop 4 akn (ao7 k) (fun g=>.nil) .nil)) Tryz.func70 rfl
def S25 (k:Nat) (a b:akc):Option qy :=
 (bif a.1==b.1 then
  (bif a.2.1==b.2.1 then
   (bif a.2.2.2.2.1==b.2.2.2.2.1 then
    (bif a.2.2.2.2.2.1==b.2.2.2.2.2.1 then
     (bif a.2.2.2.2.2.2.1==b.2.2.2.2.2.2.1 then
      (S66 k a.2.2.1 b.2.2.1).bind fun q0 =>
      (bif q0.1.1 then
       (S67 k a.2.2.2.1 b.2.2.2.1).bind fun q1 =>
       (bif q1.1.1 then
        (S68 k a.2.2.2.2.2.2.2.1 b.2.2.2.2.2.2.2.1).bind fun q2 =>
        (bif q2.1.1 then
         (S69 k a.2.2.2.2.2.2.2.2.1 b.2.2.2.2.2.2.2.2.1).bind fun q3 =>
         (bif q3.1.1 then
          (S70 k a.2.2.2.2.2.2.2.2.2 b.2.2.2.2.2.2.2.2.2).bind fun q4 =>
          some ((q4.1.1,()),())
         else
          some ((false,()),()))
        else
         some ((false,()),()))
       else
        some ((false,()),()))
      else
       some ((false,()),()))
     else
      some ((false,()),()))
    else
     some ((false,()),()))
   else
    some ((false,()),()))
  else
   some ((false,()),()))
 else
  some ((false,()),()))
def F25:Fn:=⟨[.val ⟨true,ao4,false⟩,.val ⟨true,ao4,false⟩],[rB],fun k x=>S25 k x.1 x.2.1⟩
theorem ok25:O 25 F25:=okF (ah ok66 <| ah ok67 <| ah ok68 <| ah ok69 <| ah ok70 aj) [] On Tryz.func25 rfl
abbrev ako:Cut:=⟨[2,7,11,12,13,14,15,16,17],[.cell (.int .u8),.box 42 [cI,cI,.cell (.sl 54 ake),.cell (.sl 168 (Am 5 (.int .i64))),.cell .bool,.cell .bool,.cell .bool,.cell (.sl 59 akd),.cell BO,.cell AQ,.cell (.sl 142 UH),.cell BO,.cell AQ],.box 67 [cI,cI,.cell (.sl 54 ake),.cell (.sl 168 (Am 5 (.int .i64))),.cell .bool,.cell .bool,.cell .bool,.cell (.sl 59 akd),.cell BO,.cell AQ,.cell (.sl 140 UH),.cell BO,.cell AQ],.box 42 [cI,cI,.own 54 ake,.own 168 (Am 5 (.int .i64)),.cell .bool,.cell .bool,.cell .bool,.own 59 akd,.own 3 (.int .i64),.own 4 .bool,.own 142 UH,.own 3 (.int .i64),.own 4 .bool],.own 51 (Am 6 (.int .i64)),.box 105 [cI,cI,cI,cI],.own 51 (Am 6 (.int .i64)),.box 42 [cI,cI,.cell (.sl 54 ake),.cell (.sl 168 (Am 5 (.int .i64))),.cell .bool,.cell .bool,.cell .bool,.cell (.sl 59 akd),.cell BO,.cell AQ,.cell (.sl 142 UH),.cell BO,.cell AQ],cI],[],126,[]⟩
def afD (k:Nat) (g13:Int -> amP -> amP -> amP -> (List (PN Int 6)) -> Int -> Int -> Int -> Int -> (List (PN Int 6)) -> amP -> Int -> Option qy) (a:Int) (b c x:akc) (e:List (PN Int 6)) (f h i l:Int) (m:List (PN Int 6)) (n:akc) (o:Int):Option qy :=
 (bif decide (o<(IntKind.i64.wrap (Int.tmod a 60))) then
  (S45 k n (2,bn,0,0)).bind fun q9 =>
  (bif q9.1.2.2.1.1 != 0 then
   some ((false,()),())
  else
   ap m q9.1.2.1 48 fun r10 =>
   g13 a b c x e f h i l r10 q9.1.1 (IntKind.i64.wrap (o+1)))
 else
  (S45 k b (5,bn,0,IntKind.i64.wrap (Int.tmod a 60))).bind fun OW =>
  (bif f==0 then
   (S32 k e m).bind fun q12 =>
   (bif q12.1.1 then
    (S32 k e OW.1.2.1).bind fun Zi =>
    (bif Zi.1.1 then
     (S26 k x).bind fun q14 =>
     (S26 k n).bind fun q15 =>
     (S25 k q14.1.1 q15.1.1).bind fun q16 =>
     (bif q16.1.1 then
      (S26 k OW.1.1).bind fun q17 =>
      (S26 k x).bind fun q18 =>
      (S25 k q17.1.1 q18.1.1).bind fun q19 =>
      (bif q19.1.1 then
       (S26 k b).bind fun q20 =>
       (S25 k q20.1.1 c).bind fun q21 =>
       some ((q21.1.1,()),())
      else
       some ((false,()),()))
     else
      some ((false,()),()))
    else
     some ((false,()),()))
   else
    some ((false,()),()))
  else
   some ((false,()),())))
def ao8 (k:Nat) (g:((Unit)×Int×aaY×aaY×aaY×(List (PN Int 6))×(Int×Int×Int×Int×Unit)×(List (PN Int 6))×aaY×Int×Unit) -> Option qy) (d:(Unit)×Int×aaY×aaY×aaY×(List (PN Int 6))×(Int×Int×Int×Int×Unit)×(List (PN Int 6))×aaY×Int×Unit):Option qy:=afD k (fun a b c x e f h i l m n o=>g ((),a,LH b,LH c,LH x,e,(f,h,i,l,()),m,LH n,o,())) d.2.1 (Zh d.2.2.1) (Zh d.2.2.2.1) (Zh d.2.2.2.2.1) d.2.2.2.2.2.1 d.2.2.2.2.2.2.1.1 d.2.2.2.2.2.2.1.2.1 d.2.2.2.2.2.2.1.2.2.1 d.2.2.2.2.2.2.1.2.2.2.1 d.2.2.2.2.2.2.2.1 (Zh d.2.2.2.2.2.2.2.2.1) d.2.2.2.2.2.2.2.2.2.1
def afE (k a:Nat) (b:Int) (c e x:akc) (f:List (PN Int 6)) (h i l m:Int) (n:List (PN Int 6)) (o:akc) (p:Int):Option qy:=iter ako (ao8 k) a ((),b,LH c,LH e,LH x,f,(h,i,l,m,()),n,LH o,p,())
theorem afF (k a b c e x f h i l m n o p):afE k (a+1) b c e x f h i l m n o p=afD k (afE k a) b c e x f h i l m n o p:=Ba _ _ _ _
def S9 (k:Nat) (a b:List Int) (c:Int):Option qy :=
 (S43 k).bind fun q0 =>
 (bif !q0.1.1 then
  some ((false,()),())
 else
  (bif decide ((a.length:Int)>200) then
   some ((true,()),())
  else
   (bif decide ((b.length:Int)>150) then
    some ((true,()),())
   else
    (S16 k a).bind fun q1 =>
    (S17 k q1.1.1.1 q1.1.1.2.1).bind fun q2 =>
    (S16 k b).bind fun q3 =>
    (S18 k q3.1.1.1 q3.1.1.2.1 30).bind fun q4 =>
    ap q2.1.1 q4.1.1 168 fun r5 =>
    (S19 k 40 r5).bind fun q6 =>
    (bif !q6.1.2.2.2.1 then
     some ((false,()),())
    else
     (S26 k q6.1.1).bind fun q7 =>
     (S45 k q6.1.1 (5,bn,0,IntKind.i64.wrap (Int.tmod c 60))).bind fun q8 =>
     afE k k c q6.1.1 q7.1.1 q8.1.1 q8.1.2.1 q8.1.2.2.1.1 q8.1.2.2.1.2.1.1 q8.1.2.2.1.2.1.2 q8.1.2.2.1.2.2 ([]:List (PN Int 6)) q6.1.1 0))))
def F9:Fn:=⟨[arC,arC,.val ⟨false,(.int .u8),false⟩],[rB],fun k (a,b,c,_)=>S9 k a b c⟩
theorem ok9:O 9 F9:=okF (ah ok16 <| ah ok17 <| ah ok18 <| ah ok19 <| ah ok25 <| ah ok26 <| ah ok32 <| ah ok43 <| ah ok45 aj) [(15,2)] (fun k=>(.loop 13 ako (ao8 k) (fun g=>.nil) .nil)) Tryz.func9 rfl
end
end Go.Proofs.YtjjjbcmjmkcedaaGreat.Ab
