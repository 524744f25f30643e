import Derived.Test.YtjjjbcmjmkcedaaGreatAbV1
/- Contracts, printed by this session's own program gen.py. -/
set_option linter.unusedVariables false
set_option linter.unusedSimpArgs false
set_option maxRecDepth 100000
namespace Go.Proofs.YtjjjbcmjmkcedaaGreat.Ab
open Go.RowKit
abbrev ajx:Type:=Int×Int×(List (Int×Int×Int×(List (Int×Int×Int×Int))×(List (Int×Int×Int×Int))×List (Int×Int×Int×Int)))×(List (PN Int 5))×Bool×Bool×Bool×(List (Int×Int×Int×Int×(Int×(PN Int 8)×(List (Int×Int×Int))×Bool)×(Int×(PN Int 8)×(List (Int×Int×Int))×Bool)×(List Int)×Bool))×(((List Int)×List Bool)×List (Int×(Int×Int)×(Int×Int)×((List Int)×List Int)×(Int×List (Int×Int))×Int))×(List Int)×List Bool
abbrev AZ:Type:=Int×(Int×(Int×Int×Int×(List (Int×Int×Int×Int))×(List (Int×Int×Int×Int))×List (Int×Int×Int×Int))×(Int×Int)×Int×Int×Int)×Int×Int
abbrev Vb:Type:=Int×Int×(List (Int×Int×Int×(List (Int×Int×Int×Int))×(List (Int×Int×Int×Int))×List (Int×Int×Int×Int)))×(List (PN Int 5))×Bool×Bool×Bool×(List (Int×Int×Int×Int×(Int×(PN Int 8)×(List (Int×Int×Int))×Bool)×(Int×(PN Int 8)×(List (Int×Int×Int))×Bool)×(List Int)×Bool))×(List Int)×(List Bool)×(List (Int×(Int×Int)×(Int×Int)×((List Int)×List Int)×(Int×List (Int×Int))×Int))×(List Int)×(List Bool)×Unit
abbrev Vd:Type:=Int×Int×(List (Int×Int×Int×(List (Int×Int×Int×Int))×(List (Int×Int×Int×Int))×List (Int×Int×Int×Int)))×(List (PN Int 5))×Bool×Bool×Bool×(List (Int×Int×Int×Int×(Int×(PN Int 8)×(List (Int×Int×Int))×Bool)×(Int×(PN Int 8)×(List (Int×Int×Int))×Bool)×(List Int)×Bool))×(((List Int)×List Bool)×List (Int×(Int×Int)×(Int×Int)×((List Int)×List Int)×(Int×List (Int×Int))×Int))×(List Int)×List Bool
abbrev agF:Ty:=.pair (.int .i64) (.pair (.int .i64) (.pair (.int .i64) (.pair (.sl 127 (.pair (.int .i64) (.pair (.int .i64) (.pair (.int .i64) (.int .i64))))) (.pair (.sl 127 (.pair (.int .i64) (.pair (.int .i64) (.pair (.int .i64) (.int .i64))))) (.sl 127 (.pair (.int .i64) (.pair (.int .i64) (.pair (.int .i64) (.int .i64)))))))))
abbrev ajy:Ty:=.pair (.int .i64) (.pair (.int .i64) (.pair (.int .i64) (.pair (.int .i64) (.pair (.pair (.int .i64) (.pair (Am 8 (.int .i64)) (.pair (.sl 293 (.pair (.int .i64) (.pair (.int .i64) (.int .i64)))) .bool))) (.pair (.pair (.int .i64) (.pair (Am 8 (.int .i64)) (.pair (.sl 293 (.pair (.int .i64) (.pair (.int .i64) (.int .i64)))) .bool))) (.pair (.sl 3 (.int .i64)) .bool))))))
abbrev ajz:Ty:=.pair (.int .i64) (.pair (.pair (.int .i64) (.int .i64)) (.pair (.pair (.int .i64) (.int .i64)) (.pair (.pair (.sl 2 (.int .i64)) (.sl 3 (.int .i64))) (.pair (.pair (.int .u32) (.sl 266 (.pair (.int .i64) (.int .u32)))) (.int .u32)))))
abbrev AJ:Type:=(Bool×Unit)×Unit
abbrev ajA:Ty:=.pair (.int .i64) (.pair (.pair (.int .i64) (.pair agF (.pair (.pair (.int .i64) (.int .i64)) (.pair (.int .i64) (.pair (.int .i64) (.int .u32)))))) (.pair (.int .i64) (.int .i64)))
abbrev KZ:Type:=(List AZ) -> ajx -> Int -> Option AJ
abbrev OT:Type:=(List AZ) -> ajx -> Int -> (List (Int×Int)) -> Int -> Option AJ
abbrev aa1:Type:=(List AZ) -> ajx -> Int -> (List (Int×Int)) -> Int -> Bool -> Int -> Option AJ
abbrev aqi:PT:=.val ⟨false,(.sl 5 (.int .u8)),false⟩
noncomputable section
abbrev ae3:Cut:=⟨[5,6,8,12,13,14,15,16],[.own 100 ajA,.box 42 [cI,cI,.own 54 agF,.own 168 (Am 5 (.int .i64)),.cell .bool,.cell .bool,.cell .bool,.own 59 ajy,.own 3 (.int .i64),.own 4 .bool,.own 142 ajz,.own 3 (.int .i64),.own 4 .bool],cI,.own 121 (.pair (.int .i64) (.int .i64)),cI,.cell .bool,cI,cI],[],167,[]⟩
def Yn (k:Nat) (g10:KZ) (g16:OT) (g21:aa1) (g24:(List AZ) -> ajx -> Int -> (List (Int×Int)) -> Int -> Bool -> Int -> Int -> Option AJ) (a:List AZ) (b:Vd) (c:Int) (e:List (Int×Int)) (f:Int) (h:Bool) (i l:Int):Option AJ :=
 ix b.2.2.2.2.2.2.2.1 i <|
 (bif decide (l<((rd b.2.2.2.2.2.2.2.1 i ay).2.2.2.2.2.2.1.length:Int)) then
  (bif h then
   g24 a b c e f true i (IntKind.i64.wrap (l+1))
  else
   ix b.2.2.2.2.2.2.2.1 i <|
   ix e f <|
   (bif (rd b.2.2.2.2.2.2.2.1 i ay).1==(IntKind.i64.wrap ((rd e f (0,0)).2 - 1)) then
    ix b.2.2.2.2.2.2.2.1 i <|
    ix (rd b.2.2.2.2.2.2.2.1 i ay).2.2.2.2.2.2.1 l <|
    g24 a b c e f ((rd (rd b.2.2.2.2.2.2.2.1 i ay).2.2.2.2.2.2.1 l 0)==f) i (IntKind.i64.wrap (l+1))
   else
    g24 a b c e f false i (IntKind.i64.wrap (l+1))))
 else
  g21 a b c e f h (IntKind.i64.wrap (i+1)))
def ajB (k:Nat) (g10:KZ) (g16:OT) (g21:aa1) (g:((Unit)×(List AZ)×Vb×Int×(List (Int×Int))×Int×Bool×Int×Int×Unit) -> Option AJ) (d:(Unit)×(List AZ)×Vb×Int×(List (Int×Int))×Int×Bool×Int×Int×Unit):Option AJ:=Yn k g10 g16 g21 (fun a b c e f h i l=>g ((),a,J4 b,c,e,f,h,i,l,())) d.2.1 (Z7 d.2.2.1) d.2.2.2.1 d.2.2.2.2.1 d.2.2.2.2.2.1 d.2.2.2.2.2.2.1 d.2.2.2.2.2.2.2.1 d.2.2.2.2.2.2.2.2.1
def Yo (k:Nat) (g10:KZ) (g16:OT) (g21:aa1) (a:Nat) (b:List AZ) (c:Vd) (e:Int) (f:List (Int×Int)) (h:Int) (i:Bool) (l m:Int):Option AJ:=iter ae3 (ajB k g10 g16 g21) a ((),b,J4 c,e,f,h,i,l,m,())
theorem aa2 (k g10 g16 g21 a b c e f h i l m):Yo k g10 g16 g21 (a+1) b c e f h i l m=Yn k g10 g16 g21 (Yo k g10 g16 g21 a) b c e f h i l m:=Ba _ _ _ _
abbrev ae4:Cut:=⟨[5,6,8,12,13,14,15],[.own 100 ajA,.box 42 [cI,cI,.own 54 agF,.own 168 (Am 5 (.int .i64)),.cell .bool,.cell .bool,.cell .bool,.own 59 ajy,.own 3 (.int .i64),.own 4 .bool,.own 142 ajz,.own 3 (.int .i64),.own 4 .bool],cI,.own 121 (.pair (.int .i64) (.int .i64)),cI,.cell .bool,cI],[],167,[]⟩
def Yp (k:Nat) (g10:KZ) (g16:OT) (g21:aa1) (a:List AZ) (b:Vd) (c:Int) (e:List (Int×Int)) (f:Int) (h:Bool) (i:Int):Option AJ :=
 (bif decide (i<(b.2.2.2.2.2.2.2.1.length:Int)) then
  Yo k g10 g16 g21 k a b c e f h i 0
 else
  (bif !h then
   some ((false,()),())
  else
   g16 a b c e (IntKind.i64.wrap (f+1))))
def ajC (k:Nat) (g10:KZ) (g16:OT) (g:((Unit)×(List AZ)×Vb×Int×(List (Int×Int))×Int×Bool×Int×Unit) -> Option AJ) (d:(Unit)×(List AZ)×Vb×Int×(List (Int×Int))×Int×Bool×Int×Unit):Option AJ:=Yp k g10 g16 (fun a b c e f h i=>g ((),a,J4 b,c,e,f,h,i,())) d.2.1 (Z7 d.2.2.1) d.2.2.2.1 d.2.2.2.2.1 d.2.2.2.2.2.1 d.2.2.2.2.2.2.1 d.2.2.2.2.2.2.2.1
def TF (k:Nat) (g10:KZ) (g16:OT) (a:Nat) (b:List AZ) (c:Vd) (e:Int) (f:List (Int×Int)) (h:Int) (i:Bool) (l:Int):Option AJ:=iter ae4 (ajC k g10 g16) a ((),b,J4 c,e,f,h,i,l,())
theorem aa3 (k g10 g16 a b c e f h i l):TF k g10 g16 (a+1) b c e f h i l=Yp k g10 g16 (TF k g10 g16 a) b c e f h i l:=Ba _ _ _ _
abbrev ae5:Cut:=⟨[5,6,8,17],[.own 100 ajA,.box 42 [cI,cI,.own 54 agF,.own 168 (Am 5 (.int .i64)),.cell .bool,.cell .bool,.cell .bool,.own 59 ajy,.own 3 (.int .i64),.own 4 .bool,.own 142 ajz,.own 3 (.int .i64),.own 4 .bool],cI,cI],[],167,[]⟩
def Yq (k:Nat) (g10:KZ) (g30:(List AZ) -> ajx -> Int -> Int -> Option AJ) (a:List AZ) (b:Vd) (c e:Int):Option AJ :=
 (bif decide (e<(b.2.2.2.2.2.2.2.1.length:Int)) then
  ix b.2.2.2.2.2.2.2.1 e <|
  (bif decide ((rd b.2.2.2.2.2.2.2.1 e ay).1<0) then
   some ((false,()),())
  else
   ix b.2.2.2.2.2.2.2.1 e <|
   (bif decide ((rd b.2.2.2.2.2.2.2.1 e ay).1≥(b.2.2.1.length:Int)) then
    some ((false,()),())
   else
    (bif decide (e>0) then
     ix b.2.2.2.2.2.2.2.1 e <|
     ix b.2.2.2.2.2.2.2.1 (IntKind.i64.wrap (e - 1)) <|
     (bif decide ((rd b.2.2.2.2.2.2.2.1 e ay).1 <= (rd b.2.2.2.2.2.2.2.1 (IntKind.i64.wrap (e - 1)) ay).1) then
      some ((false,()),())
     else
      g30 a b c (IntKind.i64.wrap (e+1)))
    else
     g30 a b c (IntKind.i64.wrap (e+1)))))
 else
  g10 a b (IntKind.i64.wrap (c+1)))
def ajD (k:Nat) (g10:KZ) (g:((Unit)×(List AZ)×Vb×Int×Int×Unit) -> Option AJ) (d:(Unit)×(List AZ)×Vb×Int×Int×Unit):Option AJ:=Yq k g10 (fun a b c e=>g ((),a,J4 b,c,e,())) d.2.1 (Z7 d.2.2.1) d.2.2.2.1 d.2.2.2.2.1
def TG (k:Nat) (g10:KZ) (a:Nat) (b:List AZ) (c:Vd) (e f:Int):Option AJ:=iter ae5 (ajD k g10) a ((),b,J4 c,e,f,())
theorem aa4 (k g10 a b c e f):TG k g10 (a+1) b c e f=Yq k g10 (TG k g10 a) b c e f:=Ba _ _ _ _
abbrev ae6:Cut:=⟨[5,6,8,12,13],[.own 100 ajA,.box 42 [cI,cI,.own 54 agF,.own 168 (Am 5 (.int .i64)),.cell .bool,.cell .bool,.cell .bool,.own 59 ajy,.own 3 (.int .i64),.own 4 .bool,.own 142 ajz,.own 3 (.int .i64),.own 4 .bool],cI,.own 121 (.pair (.int .i64) (.int .i64)),cI],[],167,[]⟩
def Yr (k:Nat) (g10:KZ) (g16:OT) (a:List AZ) (b:Vd) (c:Int) (e:List (Int×Int)) (f:Int):Option AJ :=
 (bif decide (f<(e.length:Int)) then
  ix e f <|
  (bif (rd e f (0,0)).2==0 then
   g16 a b c e (IntKind.i64.wrap (f+1))
  else
   TF k g10 g16 k a b c e f false 0)
 else
  TG k g10 k a b c 0)
def ajE (k:Nat) (g10:KZ) (g:((Unit)×(List AZ)×Vb×Int×(List (Int×Int))×Int×Unit) -> Option AJ) (d:(Unit)×(List AZ)×Vb×Int×(List (Int×Int))×Int×Unit):Option AJ:=Yr k g10 (fun a b c e f=>g ((),a,J4 b,c,e,f,())) d.2.1 (Z7 d.2.2.1) d.2.2.2.1 d.2.2.2.2.1 d.2.2.2.2.2.1
def TH (k:Nat) (g10:KZ) (a:Nat) (b:List AZ) (c:Vd) (e:Int) (f:List (Int×Int)) (h:Int):Option AJ:=iter ae6 (ajE k g10) a ((),b,J4 c,e,f,h,())
theorem aa5 (k g10 a b c e f h):TH k g10 (a+1) b c e f h=Yr k g10 (TH k g10 a) b c e f h:=Ba _ _ _ _
abbrev ae7:Cut:=⟨[5,6,8],[.own 100 ajA,.box 42 [cI,cI,.own 54 agF,.own 168 (Am 5 (.int .i64)),.cell .bool,.cell .bool,.cell .bool,.own 59 ajy,.own 3 (.int .i64),.own 4 .bool,.own 142 ajz,.own 3 (.int .i64),.own 4 .bool],cI],[],167,[]⟩
def Yt (k:Nat) (g10:KZ) (a:List AZ) (b:Vd) (c:Int):Option AJ :=
 (bif decide (c<(a.length:Int)) then
  ix a c <|
  (S45 k b (rd a c bq)).bind fun q7 =>
  (S48 k q7.1.1).bind fun q8 =>
  TH k g10 k a q7.1.1 c q8.1.1 0
 else
  some ((true,()),()))
def ajF (k:Nat) (g:((Unit)×(List AZ)×Vb×Int×Unit) -> Option AJ) (d:(Unit)×(List AZ)×Vb×Int×Unit):Option AJ:=Yt k (fun a b c=>g ((),a,J4 b,c,())) d.2.1 (Z7 d.2.2.1) d.2.2.2.1
def N8 (k a:Nat) (b:List AZ) (c:Vd) (e:Int):Option AJ:=iter ae7 (ajF k) a ((),b,J4 c,e,())
theorem aa6 (k a b c e):N8 k (a+1) b c e=Yt k (N8 k a) b c e:=Ba _ _ _ _
def S10 (k:Nat) (a b:List Int):Option AJ :=
 (S43 k).bind fun q0 =>
 (bif !q0.1.1 then
  some ((false,()),())
 else
  (bif decide ((a.length:Int)>200) then
   some ((true,()),())
  else
   (bif decide ((b.length:Int)>250) then
    some ((true,()),())
   else
    (S16 k a).bind fun q1 =>
    (S17 k q1.1.1.1 q1.1.1.2.1).bind fun q2 =>
    (S16 k b).bind fun q3 =>
    (S18 k q3.1.1.1 q3.1.1.2.1 100).bind fun q4 =>
    ap q2.1.1 q4.1.1 168 fun r5 =>
    (S36 k 30).bind fun q6 =>
    (bif !q6.1.2.1 then
     some ((false,()),())
    else
     N8 k k r5 q6.1.1 0))))
def F10:Fn:=⟨[aqi,aqi],[rB],fun k x=>S10 k x.1 x.2.1⟩
theorem ok10:O 10 F10:=okF (ah ok16 <| ah ok17 <| ah ok18 <| ah ok36 <| ah ok43 <| ah ok45 <| ah ok48 aj) [] (fun k=>(.loop 10 ae7 (ajF k) (fun g=>(fun (g10:KZ)=>(.loop 30 ae5 (ajD k g10) (fun g=>.nil) (.loop 16 ae6 (ajE k g10) (fun g=>(fun (g16:OT)=>(.loop 21 ae4 (ajC k g10 g16) (fun g=>(fun (g21:aa1)=>(.loop 24 ae3 (ajB k g10 g16 g21) (fun g=>.nil) .nil)) (fun aoW k_2 i2 l_1 s1 has m=>g ((),aoW,J4 k_2,i2,l_1,s1,has,m,()))) .nil)) (fun aoX k_1 i1 l_ s=>g ((),aoX,J4 k_1,i1,l_,s,()))) .nil))) (fun steps k_ i=>g ((),steps,J4 k_,i,()))) .nil)) Tryz.func10 rfl
end
end Go.Proofs.YtjjjbcmjmkcedaaGreat.Ab
