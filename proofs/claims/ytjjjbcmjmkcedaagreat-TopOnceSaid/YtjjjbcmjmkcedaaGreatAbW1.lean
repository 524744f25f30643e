import Derived.Test.YtjjjbcmjmkcedaaGreatAbW0
/- Contracts, printed by this session's own program gen.py. -/
set_option linter.unusedVariables false
set_option linter.unusedSimpArgs false
set_option maxRecDepth 100000
namespace Go.Proofs.YtjjjbcmjmkcedaaGreat.Ab
open Go.RowKit
abbrev aoT:Type:=Int×Int×(List (Int×Int×Int×(List (Int×Int×Int×Int))×(List (Int×Int×Int×Int))×List (Int×Int×Int×Int)))×(List (PN Int 5))×Bool×Bool×Bool×(List (Int×Int×Int×Int×(Int×(PN Int 8)×(List (Int×Int×Int))×Bool)×(Int×(PN Int 8)×(List (Int×Int×Int))×Bool)×(List Int)×Bool))×(List Int)×(List Bool)×(List (Int×(Int×Int)×(Int×Int)×((List Int)×List Int)×(Int×List (Int×Int))×Int))×(List Int)×(List Bool)×(List (PN Int 6))×Unit
abbrev ET:Type:=Int×Int×(List (Int×Int×Int×(List (Int×Int×Int×Int))×(List (Int×Int×Int×Int))×List (Int×Int×Int×Int)))×(List (PN Int 5))×Bool×Bool×Bool×(List (Int×Int×Int×Int×(Int×(PN Int 8)×(List (Int×Int×Int))×Bool)×(Int×(PN Int 8)×(List (Int×Int×Int))×Bool)×(List Int)×Bool))×(((List Int)×List Bool)×List (Int×(Int×Int)×(Int×Int)×((List Int)×List Int)×(Int×List (Int×Int))×Int))×(List Int)×List Bool
abbrev GD:Ty:=.pair (.int .i64) (.pair (.int .i64) (.pair (.int .i64) (.pair (.int .i64) (.pair (.pair (.int .i64) (.pair (Am 8 (.int .i64)) (.pair (.sl 293 (.pair (.int .i64) (.pair (.int .i64) (.int .i64)))) .bool))) (.pair (.pair (.int .i64) (.pair (Am 8 (.int .i64)) (.pair (.sl 293 (.pair (.int .i64) (.pair (.int .i64) (.int .i64)))) .bool))) (.pair (.sl 3 (.int .i64)) .bool))))))
abbrev zx:Ty:=.pair (.int .i64) (.pair (.int .i64) (.pair (.int .i64) (.pair (.sl 127 (.pair (.int .i64) (.pair (.int .i64) (.pair (.int .i64) (.int .i64))))) (.pair (.sl 127 (.pair (.int .i64) (.pair (.int .i64) (.pair (.int .i64) (.int .i64))))) (.sl 127 (.pair (.int .i64) (.pair (.int .i64) (.pair (.int .i64) (.int .i64)))))))))
abbrev aiV:Type:=Int×Int×(List (Int×Int×Int×(List (Int×Int×Int×Int))×(List (Int×Int×Int×Int))×List (Int×Int×Int×Int)))×(List (PN Int 5))×Bool×Bool×Bool×(List (Int×Int×Int×Int×(Int×(PN Int 8)×(List (Int×Int×Int))×Bool)×(Int×(PN Int 8)×(List (Int×Int×Int))×Bool)×(List Int)×Bool))×(List Int)×(List Bool)×(List (Int×(Int×Int)×(Int×Int)×((List Int)×List Int)×(Int×List (Int×Int))×Int))×(List Int)×(List Bool)×Int×Int×Int×Int×(List (Int×Int×Int×Int))×(List (Int×Int×Int×Int))×(List (Int×Int×Int×Int))×Int×Int×Int×Int×Int×(List (PN Int 6))×Int×Int×Int×Int×Unit
abbrev x9:Ty:=.pair (.int .i64) (.pair (.pair (.int .i64) (.int .i64)) (.pair (.pair (.int .i64) (.int .i64)) (.pair (.pair (.sl 2 (.int .i64)) (.sl 3 (.int .i64))) (.pair (.pair (.int .u32) (.sl 266 (.pair (.int .i64) (.int .u32)))) (.int .u32)))))
abbrev Va:Type:=Int×Int×Int×(List (Int×Int×Int×Int))×(List (Int×Int×Int×Int))×List (Int×Int×Int×Int)
abbrev BS:Type:=Int×Int×Int×Int×(Int×(PN Int 8)×(List (Int×Int×Int))×Bool)×(Int×(PN Int 8)×(List (Int×Int×Int))×Bool)×(List Int)×Bool
abbrev CZ:Type:=Int×(Int×Int)×(Int×Int)×((List Int)×List Int)×(Int×List (Int×Int))×Int
abbrev yu:Type:=Int×(Int×Va×(Int×Int)×Int×Int×Int)×Int×Int
abbrev AQ:Ty:=.pair (.int .i64) (.int .i64)
abbrev AU:Type:=Int×Int×Int×Int×(Int×(PN Int 8)×(List (Int×Int×Int))×Bool)×(Int×(PN Int 8)×(List (Int×Int×Int))×Bool)×(List Int)×Bool
abbrev D7:Type:=Int×Int×(List Va)×(List (PN Int 5))×Bool×Bool×Bool×(List BS)×(((List Int)×List Bool)×List CZ)×(List Int)×List Bool
abbrev anQ:Ty:=.pair (.int .i64) (.pair (.int .i64) (.pair (.sl 54 zx) (.pair (.sl 168 (Am 5 (.int .i64))) (.pair .bool (.pair .bool (.pair .bool (.pair (.sl 59 GD) (.pair (.pair (.pair (.sl 3 (.int .i64)) (.sl 4 .bool)) (.sl 142 x9)) (.pair (.sl 3 (.int .i64)) (.sl 4 .bool))))))))))
abbrev nk:Type:=Int×Int×Int×Int
abbrev aiW:Type:=Int×Int×Int×Int×Int×Int×Int×Int×Int×Int×Int×Int×Int×(List (Int×Int×Int))×Bool×Int×Int×Int×Int×Int×Int×Int×Int×Int×(List (Int×Int×Int))×Bool×(List Int)×Bool×Unit
abbrev P8:Ty:=.pair (.int .i64) (.pair (.int .i64) AQ)
abbrev JO:Type:=Int×Int×(List Va)×(List (PN Int 5))×Bool×Bool×Bool×(List BS)×(List Int)×(List Bool)×(List CZ)×(List Int)×(List Bool)×Unit
abbrev JQ:Ty:=.pair (.int .i64) (.pair (.pair (.int .i64) (.pair zx (.pair AQ (.pair (.int .i64) (.pair (.int .i64) (.int .u32)))))) AQ)
abbrev DZ:Type:=(List Int)×Int×Unit
abbrev l7:Type:=(Unit)×aoT×Unit
abbrev LJ:Type:=ET×(Int×Va×(Int×Int)×Int×Int×Int)×(List (PN Int 6))×Int×(Int×Int)×Int
abbrev VD:Type:=((((List Int)×List Bool)×List CZ)×(List Int)×(List (List Int))×Unit)×Unit
abbrev o7:Ty:=.sl 3 (.int .i64)
abbrev P9:Type:=(ET×List (PN Int 6)) -> (List (List Int)) -> (List Int) -> Int -> Int -> Option l7
abbrev BQ:Type:=((List yu)×Unit)×DZ×Unit
abbrev pz:Type:=List (Int×Int)
abbrev anR:Ty:=.pair (.int .i64) (.pair (Am 8 (.int .i64)) (.pair (.sl 293 (.pair (.int .i64) AQ)) .bool))
abbrev y7:Type:=(Int×Bool×Unit)×Unit
abbrev uz:Ty:=Am 6 (.int .i64)
abbrev SI:Type:=((Int×(PN Int 8)×(List (Int×Int×Int))×Bool)×Unit)×Unit
abbrev JR:Type:=((List nk)×Unit)×DZ×Unit
abbrev qz:Type:=(Bool×Unit)×Unit
abbrev JU:Type:=Int×(Int×Int)×Int
abbrev wz:Ty:=Am 5 (.int .i64)
abbrev qh:Type:=ET×List (PN Int 6)
abbrev u6:Type:=(Int×Unit)×Unit
abbrev ou:Type:=List (Int×Int)
abbrev CG:Type:=Int×Int×Int
abbrev y8:Ty:=.pair (.int .i64) AQ
abbrev aiX:Type:=ET -> (List (PN Int 6)) -> Int -> Int -> Int -> Int -> Int -> Int -> Int -> Int -> Bool -> Bool -> Bool -> Bool -> Bool -> Bool -> Bool -> Bool -> Int -> Option qz
abbrev FZ:Ty:=.pair (.int .i64) (.int .u32)
abbrev aiY:Type:=(List Int) -> (List Bool) -> (List CZ) -> (List Int) -> (List Bool) -> (List CZ) -> (List Int) -> (List (List Int)) -> (List CZ) -> Int -> Int -> Option VD
abbrev VE:Type:=ET×(List (PN Int 6))×(List JU)×Bool×Unit
abbrev G5:Type:=((List Int)×Unit)×Unit
abbrev SK:Type:=(ET×(List (PN Int 6))×JU×Unit)×Unit
abbrev aaz:Type:=((Int×List (Int×Int))×(List Int)×Unit)×Unit
abbrev y9:Ty:=.sl 127 P8
abbrev CJ:Type:=(Unit)×aiV×Unit
abbrev E5:Ty:=.sl 5 (.int .u8)
abbrev anS:Ty:=.pair (.pair o7 (.sl 4 .bool)) (.sl 142 x9)
abbrev CK:Type:=List (List Int)
abbrev aee:Type:=Bool×Bool×Bool×Bool×Bool×Bool×Bool×Bool×Unit
abbrev aef:Type:=(List Int) -> Int -> Int -> (List nk) -> Int -> Option JR
abbrev SL:Ty:=.sl 121 AQ
abbrev VF:Type:=(BS×nk×Bool×Unit)×Unit
abbrev aeg:Type:=Int×Int×Int×(List nk)×(List nk)×List nk
abbrev aeh:Type:=Int×Int×Int×Int×Int×Int×Int×Int×Unit
abbrev E8:Ty:=.sl 4 .bool
abbrev aaA:Type:=(Bool×Unit)×aoT×aiW×Unit
abbrev VG:Type:=Int×Int×Int×Int×Unit
abbrev SN:Type:=(List Int)×List Bool
abbrev anT:Type:=(List Int)×(List Bool)×(List CZ)×Unit
abbrev GY:Type:=List (PN Int 6)
abbrev aei:Ty:=.pair (.int .i64) (.pair AQ (.int .i64))
abbrev VH:Type:=(pz×Unit)×Unit
abbrev G6:Ty:=.sl 59 GD
abbrev D8:Type:=aoT×Unit
abbrev anU:Type:=Int×Int×Unit×Unit×Bool×Bool×Bool×Unit×Unit×Unit×Unit×Unit×Unit×Unit
abbrev G7:Type:=List CG
abbrev alq:PT:=.fK 175 [cI,cI,.cell (.sl 54 zx),.cell (.sl 168 wz),.cell .bool,.cell .bool,.cell .bool,.cell G6,.cell o7,.cell E8,.cell (.sl 142 x9),.cell o7,.cell E8,cI,cI,cI,cI,.cell y9,.cell y9,.cell y9,cI,cI,cI,cI,.cell (.int .u32),.own 51 uz,cI,cI,cI,cI]
abbrev XT:PT:=.fK 166 [cI,cI,.own 54 zx,.own 168 wz,.cell .bool,.cell .bool,.cell .bool,.own 59 GD,.own 3 (.int .i64),.own 4 .bool,.own 142 x9,.own 3 (.int .i64),.own 4 .bool,.own 51 uz]
abbrev aoU:PT:=.fK 166 [cI,cI,.own 54 zx,.own 168 wz,.cell .bool,.cell .bool,.cell .bool,.cell G6,.own 3 (.int .i64),.own 4 .bool,.own 142 x9,.own 3 (.int .i64),.own 4 .bool,.own 51 uz]
abbrev aqo:PT:=.fK 59 [cI,cI,cI,cI,cI,cI,cI,cI,cI,cI,cI,cI,cI,.cell (.sl 293 y8),.cell .bool,cI,cI,cI,cI,cI,cI,cI,cI,cI,.cell (.sl 293 y8),.cell .bool,.cell o7,.cell .bool]
abbrev aqp:PT:=.val ⟨true,(.pair (.int .u32) (.sl 266 FZ)),false⟩
abbrev aqr:RT:=.val ⟨true,(.pair (.int .u32) (.sl 266 FZ)),true⟩
abbrev aoV:PT:=.val ⟨true,(.pair o7 E8),false⟩
abbrev aqs:RT:=.val ⟨true,(.pair o7 E8),true⟩
abbrev aqt:PT:=.val ⟨false,(.sl 266 FZ),false⟩
abbrev aqu:RT:=.val ⟨false,(.sl 100 JQ),true⟩
abbrev aej:RT:=.val ⟨false,(.sl 51 uz),true⟩
abbrev PE:PT:=.fK 129 [.cell E5,cI]
abbrev G8:PT:=.val ⟨false,SL,false⟩
abbrev aiZ:PT:=.val ⟨false,E5,false⟩
abbrev SQ:RT:=.val ⟨false,o7,true⟩
abbrev ai0:PT:=.val ⟨true,anS,false⟩
abbrev ai1:PT:=.val ⟨true,anQ,false⟩
abbrev aek:RT:=.val ⟨false,SL,true⟩
abbrev ai2:PT:=.val ⟨true,anR,false⟩
abbrev ai3:RT:=.val ⟨false,y9,true⟩
abbrev ai4:RT:=.val ⟨true,anS,true⟩
abbrev ael:RT:=.val ⟨true,anQ,true⟩
abbrev JV:PT:=.val ⟨true,GD,false⟩
abbrev aem:RT:=.val ⟨true,anR,true⟩
abbrev aen:PT:=.val ⟨true,zx,false⟩
abbrev ai5:RT:=.val ⟨true,P8,true⟩
abbrev aaB:RT:=.val ⟨true,GD,true⟩
noncomputable section
abbrev ai6:Cut:=⟨[0,2,3,5,28,29,30],[.pin false 0,cI,.box 142 [cI,cI,cI,cI,cI,.cell (.sl 2 (.int .i64)),.cell o7,.cell (.int .u32),.cell (.sl 266 FZ),.cell (.int .u32)],.box 138 [.cell (.int .u32),.own 266 FZ],.own 266 FZ,cI,cI],[.fK 175 [cI,cI,.cell (.sl 54 zx),.cell (.sl 168 wz),.cell .bool,.cell .bool,.cell .bool,.cell G6,.cell o7,.cell E8,.cell (.sl 142 x9),.cell o7,.cell E8,cI,cI,cI,cI,.cell y9,.cell y9,.cell y9,cI,cI,cI,cI,.cell (.int .u32),.own 51 uz,cI,cI,cI,cI]],56,[]⟩
def aeo (k:Nat) (g4:(ET×(Int×Va×(Int×Int)×Int×Int×Int)×GY×Int×(Int×Int)×Int) -> Int -> Int -> Int -> Int -> Int -> Int -> (List Int) -> (List Int) -> Int -> pz -> Int -> Int -> pz -> pz -> Int -> Int -> Option CJ) (a:LJ) (b x c e f h:Int) (i l:List Int) (m:Int) (n:ou) (o p:Int) (s t:ou) (u v:Int):Option CJ :=
 (bif decide (v<u) then
  ix t v <|
  (aiQ k a (rd t v (0,0)).1 (IntKind.i64.wrap (rd t v (0,0)).2) 0).bind fun q2 =>
  g4 (qd q2.2.1) b x c e f h i l m n o p s t u (IntKind.i64.wrap (v+1))
 else
  (JG k a.1.2.2.2.2.2.2.2.2.1 b (x,(c,e),(f,h),(i,l),(p,s),o)).bind fun q3 =>
  some ((),BR ((w8 a.1 q3.1.1),a.2),()))
def anV (k:Nat) (g:((aiV×Unit)×Unit×Int×(Int×Int×Int×Int×Int×(List Int)×(List Int)×Int×pz×Int×Unit)×(Int×pz×Unit)×pz×Int×Int×Unit) -> Option CJ) (d:(aiV×Unit)×Unit×Int×(Int×Int×Int×Int×Int×(List Int)×(List Int)×Int×pz×Int×Unit)×(Int×pz×Unit)×pz×Int×Int×Unit):Option CJ:=aeo k (fun a b x c e f h i l m n o p s t u v=>g ((BR a,()),(),b,(x,c,e,f,h,i,l,m,n,o,()),(p,s,()),t,u,v,())) (qd d.1.1) d.2.2.1 d.2.2.2.1.1 d.2.2.2.1.2.1 d.2.2.2.1.2.2.1 d.2.2.2.1.2.2.2.1 d.2.2.2.1.2.2.2.2.1 d.2.2.2.1.2.2.2.2.2.1 d.2.2.2.1.2.2.2.2.2.2.1 d.2.2.2.1.2.2.2.2.2.2.2.1 d.2.2.2.1.2.2.2.2.2.2.2.2.1 d.2.2.2.1.2.2.2.2.2.2.2.2.2.1 d.2.2.2.2.1.1 d.2.2.2.2.1.2.1 d.2.2.2.2.2.1 d.2.2.2.2.2.2.1 d.2.2.2.2.2.2.2.1
def aep (k a:Nat) (b:LJ) (c x e f h i:Int) (l m:List Int) (n:Int) (o:ou) (p s:Int) (t u:ou) (v w:Int):Option CJ:=iter ai6 (anV k) a ((BR b,()),(),c,(x,e,f,h,i,l,m,n,o,p,()),(s,t,()),u,v,w,())
theorem aer (k a b c x e f h i l m n o p s t u v w):aep k (a+1) b c x e f h i l m n o p s t u v w=aeo k (aep k a) b c x e f h i l m n o p s t u v w:=Ba _ _ _ _
def S95 (k:Nat) (a:LJ):Option CJ :=
 (ab8 k a 3).bind fun ((b,(c,(e,f),(h,i),(l,m),n,o),p,_),s,_) =>
 (bif !p then
  some ((),s,())
 else
  (aiU k n (qd s).2.1.2.2.2.2.2).bind fun q1 =>
  aep k k (qd s) b c e f h i l m n.1 n.2 o q1.1.1.1 q1.1.1.2 q1.1.2.1 (q1.1.2.1.length:Int) 0)
def F95:Fn:=⟨[alq],[],fun k x=>S95 k (qd x.1)⟩
theorem ok95:O 95 F95:=okF (ah ok128 <| ah ok168 <| ah ok170 <| ah ok172 aj) [] (fun k=>(.loop 4 ai6 (anV k) (fun g=>.nil) .nil)) Tryz.func95 rfl
def aoW (k:Nat) (a:Int×Int) (b:Int):Option qz :=
 some ((a.1==b,()),())
def F258:Fn:=⟨[.val ⟨true,FZ,false⟩,.pv (.ref (.int .i64))],[rB],fun k x=>aoW k x.1 x.2.1⟩
theorem ok258:O 258 F258:=okF aj [] On Tryz.func258 rfl
abbrev aes:Cut:=⟨[0,1,7,8],[.cell (.sl 266 FZ),.lJ 258 [.ref (.int .i64)],cI,cI],[],19,[]⟩
def XU (k:Nat) (g2:pz -> Int -> Int -> Int -> Option u6) (a:ou) (b c e:Int):Option u6 :=
 (bif decide (e<c) then
  ix a e <|
  (aoW k (rd a e (0,0)) b).bind fun q0 =>
  (bif q0.1.1 then
   some ((e,()),())
  else
   g2 a b c (IntKind.i64.wrap (e+1)))
 else
  some (((-1),()),()))
def ai7 (k:Nat):Xx (((Unit)×pz×(Int×Unit)×Int×Int×Unit) -> Option u6):=eu (dw (dh (d9 (dh dx) (dh (dh dx))))) (XU k)
def NH (k a:Nat) (b:ou) (c e f:Int):Option u6:=iter aes (ai7 k) a ((),b,(c,()),e,f,())
theorem aaC (k a b c e f):NH k (a+1) b c e f=XU k (NH k a) b c e f:=Ba _ _ _ _
def alr (k:Nat) (a:ou) (b:Int):Option u6 :=
 NH k k a b (a.length:Int) 0
def F328:Fn:=⟨[aqt,.pv (.lJ 258 [.ref (.int .i64)])],[rI],fun k x=>alr k x.1 x.2.1.1⟩
theorem ok328:O 328 F328:=okF (ah ok258 aj) [] (fun k=>(.loop 2 aes (ai7 k) (fun g=>.nil) .nil)) Tryz.func328 rfl
def aoX (k:Nat) (a:ou) (b:Int):Option qz :=
 (alr k a b).bind fun q0 =>
 some ((decide (q0.1.1≥0),()),())
def F257:Fn:=⟨[aqt,.pv (.lJ 258 [.ref (.int .i64)])],[rB],fun k x=>aoX k x.1 x.2.1.1⟩
theorem ok257:O 257 F257:=okF (ah ok328 aj) [] On Tryz.func257 rfl
def ai8 (k:Nat) (a:Int×List (Int×Int)) (b c:Int):Option (((Int×List (Int×Int))×Int×Bool×Unit)×Unit) :=
 (aag k a.2).bind fun q0 =>
 (bif decide (b<1) then
  some (((a.1,q0.1.1),0,false,()),())
 else
  (bif c==0 then
   some (((a.1,q0.1.1),0,false,()),())
  else
   (bif (Um .u32 a.1 c) != 0 then
    some (((Ru .u32 a.1 (Um .u32 a.1 c),q0.1.1),Um .u32 a.1 c,true,()),())
   else
    (bif decide ((a.2.length:Int)≥4) then
     some (((a.1,q0.1.1),0,false,()),())
    else
     (aoX k a.2 b).bind fun q1 =>
     (bif q1.1.1 then
      some (((a.1,q0.1.1),0,false,()),())
     else
      ap q0.1.1 ([(b,c)]:List (Int×Int)) 16 fun r2 =>
      some (((a.1,r2),0,true,()),()))))))
def F173:Fn:=⟨[aqp,au,.val ⟨false,(.int .u32),false⟩],[aqr,.val ⟨false,(.int .u32),true⟩,rB],fun k (a,b,c,_)=>ai8 k a b c⟩
theorem ok173:O 173 F173:=okF (ah ok256 <| ah ok257 aj) [] On Tryz.func173 rfl
def S96 (k:Nat) (a:LJ):Option CJ :=
 (ab8 k a 3).bind fun q0 =>
 (bif !q0.1.2.2.1 then
  some ((),q0.2.1,())
 else
  (ai8 k q0.1.2.1.2.2.2.2.1 (qd q0.2.1).2.1.2.2.2.1 (qd q0.2.1).2.1.2.2.2.2.2).bind fun q1 =>
  (bif !q1.1.2.2.1 then
   some ((),BR (w3 (qd q0.2.1) 1),())
  else
   (bif q1.1.2.1==0 then
    (JG k (qd q0.2.1).1.2.2.2.2.2.2.2.2.1 q0.1.1 (w4 q0.1.2.1 q1.1.1)).bind fun q2 =>
    some ((),BR ((w8 (qd q0.2.1).1 q2.1.1),(qd q0.2.1).2.1,(qd q0.2.1).2.2.1,16,(qd q0.2.1).2.2.2.2.1,IntKind.i64.wrap q1.1.2.1),())
   else
    (JG k (qd q0.2.1).1.2.2.2.2.2.2.2.2.1 q0.1.1 (w4 q0.1.2.1 q1.1.1)).bind fun q3 =>
    some ((),BR (w0 (z5 (qd q0.2.1) (IntKind.i64.wrap q1.1.2.1)) (w8 (qd q0.2.1).1 q3.1.1)),()))))
def F96:Fn:=⟨[alq],[],fun k x=>S96 k (qd x.1)⟩
theorem ok96:O 96 F96:=okF (ah ok128 <| ah ok168 <| ah ok173 aj) [] On Tryz.func96 rfl
def als (k:Nat) (a:(List Int)×List Bool) (b:Int×Int):Option ((SN×Bool×Unit)×Unit) :=
 (aiC k a).bind fun q0 =>
 (aiN k q0.1.1 b).bind fun q1 =>
 (bif !q1.1.1 then
  some ((q0.1.1,false,()),())
 else
  ix q0.1.1.2 b.1 <|
  some (((q0.1.1.1,upd q0.1.1.2 b.1 false),true,()),()))
def F259:Fn:=⟨[aoV,.val ⟨true,AQ,false⟩],[aqs,rB],fun k x=>als k x.1 x.2.1⟩
theorem ok259:O 259 F259:=okF (ah ok324 <| ah ok327 aj) [] On Tryz.func259 rfl
def alu (k:Nat) (a:(List Int)×List Int):Option ((((List Int)×List Int)×(List Int)×Unit)×Unit) :=
 (GV k a.2).bind fun q0 =>
 some ((([],[]),q0.1.1,()),())
def F296:Fn:=⟨[.val ⟨true,(.pair (.sl 2 (.int .i64)) o7),false⟩],[.val ⟨true,(.pair (.sl 2 (.int .i64)) o7),true⟩,SQ],fun k x=>alu k x.1⟩
theorem ok296:O 296 F296:=okF (ah ok219 aj) [] On Tryz.func296 rfl
abbrev aeu:Cut:=⟨[2,3,7,8,9],[.box 138 [.cell (.int .u32),.nil],.own 3 (.int .i64),.cell (.sl 266 FZ),cI,cI],[],21,[]⟩
def XV (k:Nat) (g2:Int -> (List Int) -> pz -> Int -> Int -> Option aaz) (x:Int) (a:List Int) (b:ou) (c e:Int):Option aaz :=
 (bif decide (e<c) then
  ix b e <|
  ap a ([(rd b e (0,0)).1]:List Int) 8 fun r0 =>
  g2 x r0 b c (IntKind.i64.wrap (e+1))
 else
  some (((x,[]),a,()),()))
def ai9 (k:Nat):Xx (((Unit)×(Int×Unit×Unit)×(List Int)×pz×Int×Int×Unit) -> Option aaz):=eu (dw (d9 (dh (dw dx)) (dh (dh (dh (dh dx)))))) (XV k)
def NI (k a:Nat) (x:Int) (b:List Int) (c:ou) (e f:Int):Option aaz:=iter aeu (ai9 k) a ((),(x,(),()),b,c,e,f,())
theorem aaD (k a x b c e f):NI k (a+1) x b c e f=XV k (NI k a) x b c e f:=Ba _ _ _ _
def alv (k:Nat) (a:Int×List (Int×Int)):Option aaz :=
 NI k k 0 ([]:List Int) a.2 (a.2.length:Int) 0
def F297:Fn:=⟨[aqp],[aqr,SQ],fun k x=>alv k x.1⟩
theorem ok297:O 297 F297:=okF aj [(3,2)] (fun k=>(.loop 2 aeu (ai9 k) (fun g=>.nil) .nil)) Tryz.func297 rfl
def alx (k:Nat) (a:Int):Option G5 :=
 (bif decide (a<0) then
  none
 else
  (bif decide ((IntKind.i64.wrap (a - 0))>0) then
   az ([]:List Int) (IntKind.i64.wrap (a - 0)) 8 0 fun r0 =>
   sx r0 0 0 <|
   some ((r0.take 0,()),())
  else
   some (([],()),())))
def F339:Fn:=⟨[.pv (.nil),au],[SQ],fun k x=>alx k x.2.1⟩
theorem ok339:O 339 F339:=okF aj [(25,1)] On Tryz.func339 rfl
abbrev aaE:Cut:=⟨[6,25,26,27],[.own 3 (.int .i64),.cell (.sl 32 o7),cI,cI],[],36,[]⟩
def LK (k:Nat) (g11:(List Int) -> CK -> Int -> Int -> Option G5) (a:List Int) (b:List (List Int)) (c e:Int):Option G5 :=
 (bif decide (e<c) then
  ix b e <|
  ap a (rd b e []) 8 fun r1 =>
  g11 r1 b c (IntKind.i64.wrap (e+1))
 else
  some ((a,()),()))
def aev (k:Nat):Xx (((Unit)×(List Int)×CK×Int×Int×Unit) -> Option G5):=eu (dw (dh (dh (dh (dh dx))))) (LK k)
def XW (k a:Nat) (b:List Int) (c:List (List Int)) (e f:Int):Option G5:=iter aaE (aev k) a ((),b,c,e,f,())
theorem NJ (k a b c e f):XW k (a+1) b c e f=LK k (XW k a) b c e f:=Ba _ _ _ _
abbrev aew:Cut:=⟨[0,3,9,10,11],[.cell (.sl 32 o7),cI,.cell (.sl 32 o7),cI,cI],[],36,[]⟩
def SS (k:Nat) (g3:CK -> Int -> CK -> Int -> Int -> Option G5) (a:List (List Int)) (b:Int) (c:List (List Int)) (e f:Int):Option G5 :=
 (bif decide (f<e) then
  ix c f <|
  (bif decide ((IntKind.i64.wrap (b+((rd c f []).length:Int)))<0) then
   none
  else
   g3 a (IntKind.i64.wrap (b+((rd c f []).length:Int))) c e (IntKind.i64.wrap (f+1)))
 else
  (alx k b).bind fun q0 =>
  XW k k q0.1.1 a (a.length:Int) 0)
def aja (k:Nat):Xx (((Unit)×CK×Int×CK×Int×Int×Unit) -> Option G5):=eu (dw (dh (dh (dh (dh (dh dx)))))) (SS k)
def acd (k a:Nat) (b:List (List Int)) (c:Int) (e:List (List Int)) (f h:Int):Option G5:=iter aew (aja k) a ((),b,c,e,f,h,())
theorem SV (k a b c e f h):acd k (a+1) b c e f h=SS k (acd k a) b c e f h:=Ba _ _ _ _
def aly (k:Nat) (a:List (List Int)):Option G5 :=
 acd k k a 0 a (a.length:Int) 0
def F298:Fn:=⟨[.val ⟨false,(.sl 32 o7),false⟩],[SQ],fun k x=>aly k x.1⟩
theorem ok298:O 298 F298:=okF (ah ok339 aj) [] (fun k=>(.loop 11 aaE (aev k) (fun g=>.nil) (.loop 3 aew (aja k) (fun g=>.nil) .nil))) Tryz.func298 rfl
def agG (k:Nat) (x:Int×(Int×Int)×(Int×Int)×((List Int)×List Int)×(Int×List (Int×Int))×Int):Option G5 :=
 (alu k x.2.2.2.1).bind fun q0 =>
 (alv k x.2.2.2.2.1).bind fun q1 =>
 (aly k ([q0.1.2.1,q1.1.2.1]:List (List Int))).bind fun q2 =>
 some ((q2.1.1,()),())
def F234:Fn:=⟨[.val ⟨true,x9,false⟩],[SQ],fun k x=>agG k x.1⟩
theorem ok234:O 234 F234:=okF (ah ok296 <| ah ok297 <| ah ok298 aj) [] On Tryz.func234 rfl
def aaF (k:Nat) (a:SN×List CZ) (b:Int×Int):Option (((SN×List CZ)×(List Int)×Bool×Unit)×Unit) :=
 (V8 k a).bind fun q0 =>
 (agF k a b).bind fun q1 =>
 (bif !q1.1.2.1 then
  some ((q0.1.1,[],false,()),())
 else
  ix a.2 q1.1.1 <|
  (bif (rd a.2 q1.1.1 bf).1==1 then
   some ((q0.1.1,[],false,()),())
  else
   (als k q0.1.1.1 b).bind fun q2 =>
   ix q0.1.1.2 q1.1.1 <|
   ix a.2 q1.1.1 <|
   (agG k (rd a.2 q1.1.1 bf)).bind fun q3 =>
   some (((q2.1.1,upd q0.1.1.2 q1.1.1 bf),q3.1.1,true,()),())))
def F174:Fn:=⟨[ai0,.val ⟨true,AQ,false⟩],[ai4,SQ,rB],fun k x=>aaF k x.1 x.2.1⟩
theorem ok174:O 174 F174:=okF (ah ok185 <| ah ok234 <| ah ok253 <| ah ok259 aj) [] On Tryz.func174 rfl
def aex (k:Nat) (a:LJ) (b c e:Int):Option CJ :=
 ap a.2.2.1 ([(a.1.1,12,0,b,c,e)]:List (PN Int 6)) 48 fun r0 =>
 some ((),BR (a.1,a.2.1,r0,a.2.2.2),())
def F170a:Fn:=⟨[.fK 175 [cI,cI,.cell (.sl 54 zx),.cell (.sl 168 wz),.cell .bool,.cell .bool,.cell .bool,.cell G6,.own 3 (.int .i64),.own 4 .bool,.own 142 x9,.cell o7,.cell E8,cI,cI,cI,cI,.cell y9,.cell y9,.cell y9,cI,cI,cI,cI,.cell (.int .u32),.own 51 uz,cI,cI,cI,cI],au,au,au],[],fun k x=>aex k (qd x.1) x.2.1 x.2.2.1 x.2.2.2.1⟩
theorem ok170a:O 170 F170a:=okF aj [] On Tryz.func170 rfl
abbrev ajb:Cut:=⟨[0,33,34,35],[.pin false 0,.own 3 (.int .i64),cI,cI],[.fK 175 [cI,cI,.cell (.sl 54 zx),.cell (.sl 168 wz),.cell .bool,.cell .bool,.cell .bool,.cell G6,.own 3 (.int .i64),.own 4 .bool,.own 142 x9,.cell o7,.cell E8,cI,cI,cI,cI,.cell y9,.cell y9,.cell y9,cI,cI,cI,cI,.cell (.int .u32),.own 51 uz,cI,cI,cI,cI]],43,[]⟩
def aey (k:Nat) (g5:(ET×(Int×Va×(Int×Int)×Int×Int×Int)×GY×Int×(Int×Int)×Int) -> (List Int) -> Int -> Int -> Option CJ) (a:LJ) (b:List Int) (c e:Int):Option CJ :=
 (bif decide (e<c) then
  ix b e <|
  (aex k a (rd b e 0) 0 15).bind fun q1 =>
  g5 (qd q1.2.1) b c (IntKind.i64.wrap (e+1))
 else
  some ((),BR a,()))
def anW (k:Nat) (g:((aiV×Unit)×Unit×(List Int)×Int×Int×Unit) -> Option CJ) (d:(aiV×Unit)×Unit×(List Int)×Int×Int×Unit):Option CJ:=aey k (fun a b c e=>g ((BR a,()),(),b,c,e,())) (qd d.1.1) d.2.2.1 d.2.2.2.1 d.2.2.2.2.1
def aez (k a:Nat) (b:LJ) (c:List Int) (e f:Int):Option CJ:=iter ajb (anW k) a ((BR b,()),(),c,e,f,())
theorem aeA (k a b c e f):aez k (a+1) b c e f=aey k (aez k a) b c e f:=Ba _ _ _ _
def S97 (k:Nat) (a:LJ):Option CJ :=
 (aaF k a.1.2.2.2.2.2.2.2.2.1 a.2.1.2.2.1).bind fun q0 =>
 (bif !q0.1.2.2.1 then
  some ((),BR (w3 a 3),())
 else
  aez k k ((w8 a.1 q0.1.1),a.2) q0.1.2.1 (q0.1.2.1.length:Int) 0)
def F97:Fn:=⟨[alq],[],fun k x=>S97 k (qd x.1)⟩
theorem ok97:O 97 F97:=okF (ah ok170a <| ah ok174 aj) [] (fun k=>(.loop 5 ajb (anW k) (fun g=>.nil) .nil)) Tryz.func97 rfl
def S98 (k:Nat) (a:LJ):Option CJ :=
 some ((),BR (w3 a 1),())
def F98:Fn:=⟨[alq],[],fun k x=>S98 k (qd x.1)⟩
theorem ok98:O 98 F98:=okF aj [] On Tryz.func98 rfl
def S41 (k:Nat) (a:D7) (b:Int×Va×(Int×Int)×Int×Int×Int):Option SK :=
 (bif b.1==1 then
  (S89 k (a,b,([]:List (PN Int 6)),0,(0,0),0)).bind fun q0 =>
  (S99 k (qd q0.2.1).1).bind fun q1 =>
  some ((q1.1.1,(qd q0.2.1).2.2.1,(qd q0.2.1).2.2.2,()),())
 else
  (bif b.1==2 then
   (S90 k (a,b,([]:List (PN Int 6)),0,(0,0),0)).bind fun q2 =>
   (S99 k (qd q2.2.1).1).bind fun q3 =>
   some ((q3.1.1,(qd q2.2.1).2.2.1,(qd q2.2.1).2.2.2,()),())
  else
   (bif b.1==3 then
    (S90 k (a,b,([]:List (PN Int 6)),0,(0,0),0)).bind fun q4 =>
    (S99 k (qd q4.2.1).1).bind fun q5 =>
    some ((q5.1.1,(qd q4.2.1).2.2.1,(qd q4.2.1).2.2.2,()),())
   else
    (bif b.1==4 then
     (S90 k (a,b,([]:List (PN Int 6)),0,(0,0),0)).bind fun q6 =>
     (S99 k (qd q6.2.1).1).bind fun q7 =>
     some ((q7.1.1,(qd q6.2.1).2.2.1,(qd q6.2.1).2.2.2,()),())
    else
     (bif b.1==5 then
      (S91 k (a,b,([]:List (PN Int 6)),0,(0,0),0)).bind fun q8 =>
      (S99 k (qd q8.2.1).1).bind fun q9 =>
      some ((q9.1.1,(qd q8.2.1).2.2.1,(qd q8.2.1).2.2.2,()),())
     else
      (bif b.1==6 then
       (S92 k (a,b,([]:List (PN Int 6)),0,(0,0),0)).bind fun q10 =>
       (S99 k (qd q10.2.1).1).bind fun V4 =>
       some ((V4.1.1,(qd q10.2.1).2.2.1,(qd q10.2.1).2.2.2,()),())
      else
       (bif b.1==7 then
        (S93 k (a,b,([]:List (PN Int 6)),0,(0,0),0)).bind fun q12 =>
        (S99 k (qd q12.2.1).1).bind fun q13 =>
        some ((q13.1.1,(qd q12.2.1).2.2.1,(qd q12.2.1).2.2.2,()),())
       else
        (bif b.1==8 then
         (S94 k (a,b,([]:List (PN Int 6)),0,(0,0),0)).bind fun q14 =>
         (S99 k (qd q14.2.1).1).bind fun q15 =>
         some ((q15.1.1,(qd q14.2.1).2.2.1,(qd q14.2.1).2.2.2,()),())
        else
         (bif b.1==9 then
          (S95 k (a,b,([]:List (PN Int 6)),0,(0,0),0)).bind fun q16 =>
          (S99 k (qd q16.2.1).1).bind fun q17 =>
          some ((q17.1.1,(qd q16.2.1).2.2.1,(qd q16.2.1).2.2.2,()),())
         else
          (bif b.1==10 then
           (S96 k (a,b,([]:List (PN Int 6)),0,(0,0),0)).bind fun q18 =>
           (S99 k (qd q18.2.1).1).bind fun q19 =>
           some ((q19.1.1,(qd q18.2.1).2.2.1,(qd q18.2.1).2.2.2,()),())
          else
           (bif b.1==11 then
            (S97 k (a,b,([]:List (PN Int 6)),0,(0,0),0)).bind fun q20 =>
            (S99 k (qd q20.2.1).1).bind fun q21 =>
            some ((q21.1.1,(qd q20.2.1).2.2.1,(qd q20.2.1).2.2.2,()),())
           else
            (S98 k (a,b,([]:List (PN Int 6)),0,(0,0),0)).bind fun q22 =>
            (S99 k (qd q22.2.1).1).bind fun q23 =>
            some ((q23.1.1,(qd q22.2.1).2.2.1,(qd q22.2.1).2.2.2,()),()))))))))))))
def F41:Fn:=⟨[ai1,.val ⟨true,(.pair (.int .i64) (.pair zx (.pair AQ (.pair (.int .i64) FZ)))),false⟩],[ael,aej,.val ⟨true,aei,true⟩],fun k x=>S41 k x.1 x.2.1⟩
theorem ok41:O 41 F41:=okF (ah ok89 <| ah ok90 <| ah ok91 <| ah ok92 <| ah ok93 <| ah ok94 <| ah ok95 <| ah ok96 <| ah ok97 <| ah ok98 <| ah ok99 aj) [(14,2)] On Tryz.func41 rfl
def ace (k:Nat) (a:qh) (b:PN Int 6):Option l7 :=
 ap a.2 ([(a.1.1,b.2)]:List (PN Int 6)) 48 fun r0 =>
 some ((),zq (a.1,r0),())
def F146:Fn:=⟨[aoU,.val ⟨true,uz,false⟩],[],fun k x=>ace k (wh x.1) x.2.1⟩
theorem ok146:O 146 F146:=okF aj [] On Tryz.func146 rfl
def ajc (k:Nat) (a:ou):Option VH:=qQ 16 121 AQ k (a,())
def F292:Fn:=⟨dJ 121 AQ,iZ 121 AQ,qQ 16 121 AQ⟩
theorem ok292:O 292 F292:=Kz JN mix Tryz.func292 rfl (by kernel_rfl) (by kernel_rfl) (fun k=>by kernel_rfl) (fun k xs=>by kernel_rfl) (fun k xs=>by kernel_rfl)
def ajd (k:Nat) (a:ou) (b:Int):Option qz :=
 (bif decide (b≥0) then
  some ((decide (b<(a.length:Int)),()),())
 else
  some ((false,()),()))
def F309:Fn:=⟨[G8,au],[rB],fun k x=>ajd k x.1 x.2.1⟩
theorem ok309:O 309 F309:=okF aj [] On Tryz.func309 rfl
def agH (k:Nat) (a:ou) (b c:Int):Option qz :=
 (ajd k a b).bind fun q0 =>
 (bif q0.1.1 then
  (bif decide (c≥0) then
   ix a b <|
   some (((rd a b (0,0)).2==(IntKind.i64.wrap (c+1)),()),())
  else
   some ((false,()),()))
 else
  some ((false,()),()))
def F293:Fn:=⟨[G8,au,au],[rB],fun k (a,b,c,_)=>agH k a b c⟩
theorem ok293:O 293 F293:=okF (ah ok309 aj) [] On Tryz.func293 rfl
abbrev aeB:Cut:=⟨[0,1,5,10,11],[.cell SL,cI,.own 121 AQ,cI,cI],[],24,[]⟩
def XY (k:Nat) (g3:pz -> Int -> pz -> Int -> Int -> Option VH) (a:ou) (b:Int) (c:ou) (e f:Int):Option VH :=
 (bif decide (f<e) then
  (agH k a f b).bind fun q1 =>
  (bif q1.1.1 then
   ix c f <|
   g3 a b (upd c f ((rd c f (0,0)).1,0)) e (IntKind.i64.wrap (f+1))
  else
   g3 a b c e (IntKind.i64.wrap (f+1)))
 else
  some ((c,()),()))
def aje (k:Nat):Xx (((Unit)×pz×Int×pz×Int×Int×Unit) -> Option VH):=eu (dw (dh (dh (dh (dh (dh dx)))))) (XY k)
def XZ (k a:Nat) (b:ou) (c:Int) (e:ou) (f h:Int):Option VH:=iter aeB (aje k) a ((),b,c,e,f,h,())
theorem aaG (k a b c e f h):XZ k (a+1) b c e f h=XY k (XZ k a) b c e f h:=Ba _ _ _ _
def agI (k:Nat) (a:ou) (b:Int):Option VH :=
 (ajc k a).bind fun q0 =>
 XZ k k a b q0.1.1 (q0.1.1.length:Int) 0
def F231:Fn:=⟨[G8,au],[aek],fun k x=>agI k x.1 x.2.1⟩
theorem ok231:O 231 F231:=okF (ah ok292 <| ah ok293 aj) [] (fun k=>(.loop 3 aeB (aje k) (fun g=>.nil) .nil)) Tryz.func231 rfl
abbrev aeC:Cut:=⟨[0,1,11,12,13],[.pin false 0,.cell SL,.own 3 (.int .i64),cI,cI],[.fK 166 [cI,cI,.own 54 zx,.own 168 wz,.cell .bool,.cell .bool,.cell .bool,.cell G6,.own 3 (.int .i64),.own 4 .bool,.own 142 x9,.own 3 (.int .i64),.own 4 .bool,.own 51 uz]],55,[]⟩
def Y0 (k:Nat) (g1:(ET×List (PN Int 6)) -> pz -> (List Int) -> Int -> Int -> Option l7) (a:qh) (b:ou) (c:List Int) (e f:Int):Option l7 :=
 (bif decide (f<e) then
  ix c f <|
  ix a.1.2.2.2.2.2.2.2.2.1.2 (rd c f 0) <|
  (bif decide (f<(b.length:Int)) then
   ix b f <|
   (bif !(fC AQ (rd a.1.2.2.2.2.2.2.2.2.1.2 (rd c f 0) bf).2.2.1 (rd b f (0,0))) then
    ix b f <|
    (JG k a.1.2.2.2.2.2.2.2.2.1 (rd c f 0) ((rd a.1.2.2.2.2.2.2.2.2.1.2 (rd c f 0) bf).1,(rd a.1.2.2.2.2.2.2.2.2.1.2 (rd c f 0) bf).2.1,rd b f (0,0),(rd a.1.2.2.2.2.2.2.2.2.1.2 (rd c f 0) bf).2.2.2)).bind fun q1 =>
    g1 ((w8 a.1 q1.1.1),a.2) b c e (IntKind.i64.wrap (f+1))
   else
    g1 a b c e (IntKind.i64.wrap (f+1)))
  else
   g1 a b c e (IntKind.i64.wrap (f+1)))
 else
  some ((),zq a,()))
def ajf (k:Nat) (g:(D8×Unit×pz×(List Int)×Int×Int×Unit) -> Option l7) (d:D8×Unit×pz×(List Int)×Int×Int×Unit):Option l7:=Y0 k (fun a b c e f=>g ((zq a,()),(),b,c,e,f,())) (wh d.1.1) d.2.2.1 d.2.2.2.1 d.2.2.2.2.1 d.2.2.2.2.2.1
def NK (k a:Nat) (b:qh) (c:ou) (e:List Int) (f h:Int):Option l7:=iter aeC (ajf k) a ((zq b,()),(),c,e,f,h,())
theorem aaH (k a b c e f h):NK k (a+1) b c e f h=Y0 k (NK k a) b c e f h:=Ba _ _ _ _
def alz (k:Nat) (a:qh) (b:ou):Option l7 :=
 (aau k a.1.2.2.2.2.2.2.2.2.1).bind fun q0 =>
 NK k k a b q0.1.1 (q0.1.1.length:Int) 0
def F61a:Fn:=⟨[aoU,G8],[],fun k x=>alz k (wh x.1) x.2.1⟩
theorem ok61a:O 61 F61a:=okF (ah ok107 <| ah ok128 aj) [] (fun k=>(.loop 1 aeC (ajf k) (fun g=>.nil) .nil)) Tryz.func61 rfl
def aoY (k:Nat) (a:(List Int)×List Bool) (b:Int):Option qz :=
 (bif decide (b≥0) then
  some ((decide (b<(mn (a.1.length:Int) (a.2.length:Int))),()),())
 else
  some ((false,()),()))
def F294:Fn:=⟨[aoV,au],[rB],fun k x=>aoY k x.1 x.2.1⟩
theorem ok294:O 294 F294:=okF aj [] On Tryz.func294 rfl
def aoZ (k:Nat) (a:List Bool) (b:Bool):Option qz :=
 (aiF k a b).bind fun q0 =>
 some ((decide (q0.1.1≥0),()),())
def F295:Fn:=⟨[.val ⟨false,E8,false⟩,.val ⟨false,.bool,false⟩],[rB],fun k x=>aoZ k x.1 x.2.1⟩
theorem ok295:O 295 F295:=okF (ah ok325 aj) [] On Tryz.func295 rfl
def alA (k:Nat) (a:(List Int)×List Bool) (b:Int):Option ((SN×Bool×Bool×Unit)×Unit) :=
 (agD k a).bind fun q0 =>
 (aoY k a b).bind fun q1 =>
 (bif !q1.1.1 then
  some ((q0.1.1,false,false,()),())
 else
  ix q0.1.1.1 b <|
  ix q0.1.1.1 b <|
  ix (upd q0.1.1.1 b (IntKind.i64.wrap ((rd q0.1.1.1 b 0)+1))) b <|
  (bif (rd (upd q0.1.1.1 b (IntKind.i64.wrap ((rd q0.1.1.1 b 0)+1))) b 0) != 2 then
   some (((upd q0.1.1.1 b (IntKind.i64.wrap ((rd q0.1.1.1 b 0)+1)),q0.1.1.2),false,false,()),())
  else
   ix q0.1.1.2 b <|
   (bif rd q0.1.1.2 b false then
    some (((upd q0.1.1.1 b (IntKind.i64.wrap ((rd q0.1.1.1 b 0)+1)),q0.1.1.2),false,false,()),())
   else
    ix q0.1.1.2 b <|
    (aoZ k (upd q0.1.1.2 b true) false).bind fun q2 =>
    some (((upd q0.1.1.1 b (IntKind.i64.wrap ((rd q0.1.1.1 b 0)+1)),upd q0.1.1.2 b true),true,!q2.1.1,()),()))))
def F232:Fn:=⟨[aoV,au],[aqs,rB,rB],fun k x=>alA k x.1 x.2.1⟩
theorem ok232:O 232 F232:=okF (ah ok224 <| ah ok294 <| ah ok295 aj) [] On Tryz.func232 rfl
abbrev alC:Cut:=⟨[0,6],[.pin false 0,.cell .bool],[.fK 166 [cI,cI,.own 54 zx,.own 168 wz,.cell .bool,.cell .bool,.cell .bool,.cell G6,.own 3 (.int .i64),.own 4 .bool,.own 142 x9,.own 3 (.int .i64),.own 4 .bool,.own 51 uz]],55,[]⟩
def SX (k:Nat) (a:qh) (b:Bool):Option l7 :=
 (bif b then
  (ace k a (0,10,0,0,0,0)).bind fun q6 =>
  some ((),zq ((w5 (wh q6.2.1).1 true),(wh q6.2.1).2),())
 else
  some ((),zq a,()))
def alD (k:Nat) (a:qh) (b:AU):Option l7 :=
 (ace k a (0,5,b.1,0,0,0)).bind fun q0 =>
 (S48 k (wh q0.2.1).1).bind fun q1 =>
 (agI k q1.1.1 b.1).bind fun q2 =>
 (alz k (wh q0.2.1) q2.1.1).bind fun q3 =>
 (alA k (wh q3.2.1).1.2.2.2.2.2.2.2.2.2 b.1).bind fun q4 =>
 (bif q4.1.2.1 then
  (ace k ((z9 (wh q3.2.1).1 q4.1.1),(wh q3.2.1).2) (0,9,b.1,0,0,0)).bind fun q5 =>
  SX k (wh q5.2.1) q4.1.2.2.1
 else
  SX k ((z9 (wh q3.2.1).1 q4.1.1),(wh q3.2.1).2) q4.1.2.2.1)
def F147:Fn:=⟨[aoU,JV],[],fun k x=>alD k (wh x.1) x.2.1⟩
theorem ok147:O 147 F147:=okF (ah ok48 <| ah ok61a <| ah ok146 <| ah ok231 <| ah ok232 aj) [] (fun k=>(.join 7 alC (fun d=>SX k (wh d.1.1) d.2.2.1) .nil)) Tryz.func147 rfl
abbrev ajg:Cut:=⟨[0,2,9,10,11],[.pin false 0,.own 59 GD,.cell G6,cI,cI],[.fK 166 [cI,cI,.own 54 zx,.own 168 wz,.cell .bool,.cell .bool,.cell .bool,.cell G6,.own 3 (.int .i64),.own 4 .bool,.own 142 x9,.own 3 (.int .i64),.own 4 .bool,.own 51 uz]],57,[]⟩
def aeD (k:Nat) (g2:(ET×List (PN Int 6)) -> (List BS) -> (List BS) -> Int -> Int -> Option l7) (a:qh) (b c:List BS) (e f:Int):Option l7 :=
 (bif decide (f<e) then
  ix c f <|
  ix a.1.2.2.1 (rd c f ay).1 <|
  (bif (IntKind.i64.wrap (a.1.1 - (rd c f ay).2.1)) != (rd a.1.2.2.1 (rd c f ay).1 bg).2.2.1 then
   ap b ([rd c f ay]:List BS) 272 fun r0 =>
   g2 a r0 c e (IntKind.i64.wrap (f+1))
  else
   (bif (rd c f ay).2.2.2.1==2 then
    (ace k a (0,13,(rd c f ay).1,0,0,0)).bind fun q1 =>
    g2 (wh q1.2.1) b c e (IntKind.i64.wrap (f+1))
   else
    (alD k a (rd c f ay)).bind fun q2 =>
    g2 (wh q2.2.1) b c e (IntKind.i64.wrap (f+1))))
 else
  some ((),zq ((w7 a.1 b),a.2),()))
def anY (k:Nat) (g:(D8×Unit×(List BS)×(List BS)×Int×Int×Unit) -> Option l7) (d:D8×Unit×(List BS)×(List BS)×Int×Int×Unit):Option l7:=aeD k (fun a b c e f=>g ((zq a,()),(),b,c,e,f,())) (wh d.1.1) d.2.2.1 d.2.2.2.1 d.2.2.2.2.1 d.2.2.2.2.2.1
def aeE (k a:Nat) (b:qh) (c e:List BS) (f h:Int):Option l7:=iter ajg (anY k) a ((zq b,()),(),c,e,f,h,())
theorem aeF (k a b c e f h):aeE k (a+1) b c e f h=aeD k (aeE k a) b c e f h:=Ba _ _ _ _
def S78 (k:Nat) (a:qh):Option l7 :=
 aeE k k a ([]:List BS) a.1.2.2.2.2.2.2.2.1 (a.1.2.2.2.2.2.2.2.1.length:Int) 0
def F78:Fn:=⟨[XT],[],fun k x=>S78 k (wh x.1)⟩
theorem ok78:O 78 F78:=okF (ah ok146 <| ah ok147 aj) [(2,2)] (fun k=>(.loop 2 ajg (anY k) (fun g=>.nil) .nil)) Tryz.func78 rfl
abbrev ajh:Cut:=⟨[0,9,10],[.pin false 0,cI,cI],[.fK 166 [cI,cI,.own 54 zx,.own 168 wz,.cell .bool,.cell .bool,.cell .bool,.own 59 GD,.own 3 (.int .i64),.own 4 .bool,.own 142 x9,.own 3 (.int .i64),.own 4 .bool,.own 51 uz]],48,[(8,3)]⟩
def aeG (k:Nat) (g1:(ET×List (PN Int 6)) -> Int -> Int -> Option l7) (a:qh) (b c:Int):Option l7 :=
 (bif decide (c<b) then
  ix a.1.2.2.2.2.2.2.2.1 c <|
  (bif (rd a.1.2.2.2.2.2.2.2.1 c ay).2.2.2.1 != 2 then
   ix a.1.2.2.2.1 (rd a.1.2.2.2.2.2.2.2.1 c ay).1 <|
   (bif decide ((IntKind.i64.wrap (a.1.1 - (rd a.1.2.2.2.2.2.2.2.1 c ay).2.1))≥(rd a.1.2.2.2.1 (rd a.1.2.2.2.2.2.2.2.1 c ay).1 (Qn (α:=Int) 5 0)).2.2.2.2) then
    ix a.1.2.2.2.2.2.2.2.1 c <|
    let r0:List BS:=upd a.1.2.2.2.2.2.2.2.1 c (z7 (rd a.1.2.2.2.2.2.2.2.1 c ay) true)
    g1 ((w7 a.1 r0),a.2) b (IntKind.i64.wrap (c+1))
   else
    g1 a b (IntKind.i64.wrap (c+1)))
  else
   g1 a b (IntKind.i64.wrap (c+1)))
 else
  some ((),zq a,()))
def anZ (k:Nat) (g:(D8×Unit×Int×Int×Unit) -> Option l7) (d:D8×Unit×Int×Int×Unit):Option l7:=aeG k (fun a b c=>g ((zq a,()),(),b,c,())) (wh d.1.1) d.2.2.1 d.2.2.2.1
def aeH (k a:Nat) (b:qh) (c e:Int):Option l7:=iter ajh (anZ k) a ((zq b,()),(),c,e,())
theorem aeI (k a b c e):aeH k (a+1) b c e=aeG k (aeH k a) b c e:=Ba _ _ _ _
def S79 (k:Nat) (a:qh):Option l7 :=
 aeH k k a (a.1.2.2.2.2.2.2.2.1.length:Int) 0
def F79:Fn:=⟨[XT],[],fun k x=>S79 k (wh x.1)⟩
theorem ok79:O 79 F79:=okF aj [] (fun k=>(.loop 1 ajh (anZ k) (fun g=>.nil) .nil)) Tryz.func79 rfl
abbrev alE:Cut:=⟨[1,2,3,4,5,6,7,11,12,13],[.box 38 [.cell o7,.cell E8,.cell (.sl 142 x9)],.box 38 [.own 3 (.int .i64),.own 4 .bool,.own 142 x9],.own 3 (.int .i64),.own 32 o7,cI,.box 142 [cI,cI,cI,cI,cI,.cell (.sl 2 (.int .i64)),.cell o7,.cell (.int .u32),.cell (.sl 266 FZ),.cell (.int .u32)],.box 142 [cI,cI,cI,cI,cI,.own 2 (.int .i64),.own 3 (.int .i64),.cell (.int .u32),.own 266 FZ,.cell (.int .u32)],.cell (.sl 142 x9),cI,cI],[],61,[]⟩
def SY (k:Nat) (g3:aiY) (a:List Int) (b:List Bool) (c:List CZ) (e:List Int) (f:List Bool) (h:List CZ) (i:List Int) (l:List (List Int)) (m x n o p s:Int) (t u:List Int) (v:Int) (w:ou) (y z A B C D:Int) (G H:List Int) (I:Int) (J:ou) (K:Int) (M:List CZ) (N O:Int):Option VD :=
 (ab3 k (z,(A,B),(C,D),(G,H),(I,J),K)).bind fun q4 =>
 ix h m <|
 ap i ([m]:List Int) 8 fun r5 =>
 (agG k (x,(n,o),(p,s),(t,u),(v,w),y)).bind fun q6 =>
 ap l ([q6.1.1]:List (List Int)) 24 fun r7 =>
 g3 a b c e f (upd h m q4.1.1) r5 r7 M N (IntKind.i64.wrap (O+1))
abbrev aeJ:Cut:=⟨[1,2,3,4,11,12,13],[.box 38 [.cell o7,.cell E8,.cell (.sl 142 x9)],.box 38 [.own 3 (.int .i64),.own 4 .bool,.own 142 x9],.own 3 (.int .i64),.own 32 o7,.cell (.sl 142 x9),cI,cI],[],61,[]⟩
def Y1 (k:Nat) (g3:aiY) (a:List Int) (b:List Bool) (c:List CZ) (e:List Int) (f:List Bool) (h:List CZ) (i:List Int) (l:List (List Int)) (m:List CZ) (n o:Int):Option VD :=
 (bif decide (o<n) then
  ix m o <|
  (ab1 k ((a,b),c) o).bind fun q1 =>
  (bif !q1.1.1 then
   g3 a b c e f h i l m n (IntKind.i64.wrap (o+1))
  else
   (ab2 k (rd m o bf)).bind fun q2 =>
   (bif (rd m o bf).2.2.2.2.2==q2.1.1 then
    g3 a b c e f h i l m n (IntKind.i64.wrap (o+1))
   else
    (agE k (rd m o bf).1 (rd m o bf).2.1).bind fun q3 =>
    (bif (rd m o bf).1==1 then
     SY k g3 a b c e f h i l o (rd m o bf).1 (rd m o bf).2.1.1 (rd m o bf).2.1.2 (rd m o bf).2.2.1.1 (rd m o bf).2.2.1.2 (rd m o bf).2.2.2.1.1 (rd m o bf).2.2.2.1.2 (rd m o bf).2.2.2.2.1.1 (rd m o bf).2.2.2.2.1.2 (rd m o bf).2.2.2.2.2 q3.1.1.1 q3.1.1.2.1.1 q3.1.1.2.1.2 (rd m o bf).2.2.1.1 q3.1.1.2.2.1.2 q3.1.1.2.2.2.1.1 q3.1.1.2.2.2.1.2 q3.1.1.2.2.2.2.1.1 q3.1.1.2.2.2.2.1.2 q3.1.1.2.2.2.2.2 m n o
    else
     SY k g3 a b c e f h i l o (rd m o bf).1 (rd m o bf).2.1.1 (rd m o bf).2.1.2 (rd m o bf).2.2.1.1 (rd m o bf).2.2.1.2 (rd m o bf).2.2.2.1.1 (rd m o bf).2.2.2.1.2 (rd m o bf).2.2.2.2.1.1 (rd m o bf).2.2.2.2.1.2 (rd m o bf).2.2.2.2.2 q3.1.1.1 q3.1.1.2.1.1 q3.1.1.2.1.2 q3.1.1.2.2.1.1 q3.1.1.2.2.1.2 q3.1.1.2.2.2.1.1 q3.1.1.2.2.2.1.2 q3.1.1.2.2.2.2.1.1 q3.1.1.2.2.2.2.1.2 q3.1.1.2.2.2.2.2 m n o)))
 else
  some ((((e,f),h),i,l,()),()))
def aji (k:Nat):Xx (((Unit)×anT×anT×(List Int)×CK×(List CZ)×Int×Int×Unit) -> Option VD):=eu (dw (d9 (dh (dh (dh dx))) (d9 (dh (dh (dh dx))) (dh (dh (dh (dh (dh dx)))))))) (Y1 k)
def TA (k a:Nat) (b:List Int) (c:List Bool) (e:List CZ) (f:List Int) (h:List Bool) (i:List CZ) (l:List Int) (m:List (List Int)) (n:List CZ) (o p:Int):Option VD:=iter aeJ (aji k) a ((),(b,c,e,()),(f,h,i,()),l,m,n,o,p,())
theorem aaI (k a b c e f h i l m n o p):TA k (a+1) b c e f h i l m n o p=Y1 k (TA k a) b c e f h i l m n o p:=Ba _ _ _ _
def alF (k:Nat) (a:SN×List CZ):Option VD :=
 (V8 k a).bind fun q0 =>
 TA k k a.1.1 a.1.2 a.2 q0.1.1.1.1 q0.1.1.1.2 q0.1.1.2 ([]:List Int) ([]:List (List Int)) a.2 (a.2.length:Int) 0
def F148:Fn:=⟨[ai0],[ai4,SQ,.val ⟨false,(.sl 32 o7),true⟩],fun k x=>alF k x.1⟩
theorem ok148:O 148 F148:=okF (ah ok185 <| ah ok186 <| ah ok221 <| ah ok223 <| ah ok233 <| ah ok234 aj) [(3,2),(4,2)] (fun k=>(.loop 3 aeJ (aji k) (fun g=>(fun (g3:aiY)=>(.join 9 alE (fun (_,(a,b,c,_),(e,f,h,_),i,l,m,(n,o,p,s,t,u,v,w,y,z,_),(A,B,C,D,G,H,I,J,K,M,_),N,O,P,_)=>SY k g3 a b c e f h i l m n o p s t u v w y z A B C D G H I J K M N O P) .nil)) (fun t1 t2 t3 out abZ ao0 places who t11 t12 t13=>g ((),(t1,t2,t3,()),(out,abZ,ao0,()),places,who,t11,t12,t13,()))) .nil)) Tryz.func148 rfl
def JX (k:Nat) (a:qh) (b:PN Int 6):Option l7 :=
 ap a.2 ([(a.1.1,b.2)]:List (PN Int 6)) 48 fun r0 =>
 some ((),zq (a.1,r0),())
def F146a:Fn:=⟨[XT,.val ⟨true,uz,false⟩],[],fun k x=>JX k (wh x.1) x.2.1⟩
theorem ok146a:O 146 F146a:=okF aj [] On Tryz.func146 rfl
abbrev aeK:Cut:=⟨[0,4,9,27,28,29,67,68],[.pin false 0,.own 32 o7,cI,.own 3 (.int .i64),cI,cI,cI,cI],[.fK 166 [cI,cI,.own 54 zx,.own 168 wz,.cell .bool,.cell .bool,.cell .bool,.own 59 GD,.own 3 (.int .i64),.own 4 .bool,.own 142 x9,.own 3 (.int .i64),.own 4 .bool,.own 51 uz]],85,[(66,3)]⟩
def Y2 (k:Nat) (g3:P9) (g14:(ET×List (PN Int 6)) -> CK -> Int -> (List Int) -> Int -> Int -> Int -> Int -> Option l7) (a:qh) (b:List (List Int)) (c:Int) (e:List Int) (f h i l:Int):Option l7 :=
 (bif decide (l<i) then
  ix a.1.2.2.2.2.2.2.2.1 l <|
  (agC k (rd a.1.2.2.2.2.2.2.2.1 l ay) c).bind fun q5 =>
  ix a.1.2.2.2.2.2.2.2.1 l <|
  g14 ((w7 a.1 (upd a.1.2.2.2.2.2.2.2.1 l q5.1.1)),a.2) b c e f h i (IntKind.i64.wrap (l+1))
 else
  g3 a b e f (IntKind.i64.wrap (h+1)))
def ajj (k:Nat) (g3:P9) (g:(D8×Unit×CK×Int×(List Int)×Int×Int×Int×Int×Unit) -> Option l7) (d:D8×Unit×CK×Int×(List Int)×Int×Int×Int×Int×Unit):Option l7:=Y2 k g3 (fun a b c e f h i l=>g ((zq a,()),(),b,c,e,f,h,i,l,())) (wh d.1.1) d.2.2.1 d.2.2.2.1 d.2.2.2.2.1 d.2.2.2.2.2.1 d.2.2.2.2.2.2.1 d.2.2.2.2.2.2.2.1 d.2.2.2.2.2.2.2.2.1
def Y3 (k:Nat) (g3:P9) (a:Nat) (b:qh) (c:List (List Int)) (e:Int) (f:List Int) (h i l m:Int):Option l7:=iter aeK (ajj k g3) a ((zq b,()),(),c,e,f,h,i,l,m,())
theorem aaJ (k g3 a b c e f h i l m):Y3 k g3 (a+1) b c e f h i l m=Y2 k g3 (Y3 k g3 a) b c e f h i l m:=Ba _ _ _ _
abbrev ajk:Cut:=⟨[0,4,6,27,28,29,41,42,43],[.pin false 0,.own 32 o7,cI,.own 3 (.int .i64),cI,cI,.cell o7,cI,cI],[.fK 166 [cI,cI,.own 54 zx,.own 168 wz,.cell .bool,.cell .bool,.cell .bool,.own 59 GD,.own 3 (.int .i64),.own 4 .bool,.own 142 x9,.own 3 (.int .i64),.own 4 .bool,.own 51 uz]],85,[]⟩
def aeL (k:Nat) (g3:P9) (g7:(ET×List (PN Int 6)) -> CK -> Int -> (List Int) -> Int -> Int -> (List Int) -> Int -> Int -> Option l7) (a:qh) (b:List (List Int)) (c:Int) (e:List Int) (f h:Int) (i:List Int) (l m:Int):Option l7 :=
 (bif decide (m<l) then
  ix i m <|
  (JX k a (0,12,0,rd i m 0,0,15)).bind fun q2 =>
  g7 (wh q2.2.1) b c e f h i l (IntKind.i64.wrap (m+1))
 else
  (aau k a.1.2.2.2.2.2.2.2.2.1).bind fun q3 =>
  (ab9 k q3.1.1 c).bind fun q4 =>
  (bif decide (q4.1.1≥0) then
   Y3 k g3 k a b q4.1.1 e f h (a.1.2.2.2.2.2.2.2.1.length:Int) 0
  else
   g3 a b e f (IntKind.i64.wrap (h+1))))
def an0 (k:Nat) (g3:P9) (g:(D8×Unit×CK×Int×(List Int)×Int×Int×(List Int)×Int×Int×Unit) -> Option l7) (d:D8×Unit×CK×Int×(List Int)×Int×Int×(List Int)×Int×Int×Unit):Option l7:=aeL k g3 (fun a b c e f h i l m=>g ((zq a,()),(),b,c,e,f,h,i,l,m,())) (wh d.1.1) d.2.2.1 d.2.2.2.1 d.2.2.2.2.1 d.2.2.2.2.2.1 d.2.2.2.2.2.2.1 d.2.2.2.2.2.2.2.1 d.2.2.2.2.2.2.2.2.1 d.2.2.2.2.2.2.2.2.2.1
def aeM (k:Nat) (g3:P9) (a:Nat) (b:qh) (c:List (List Int)) (e:Int) (f:List Int) (h i:Int) (l:List Int) (m n:Int):Option l7:=iter ajk (an0 k g3) a ((zq b,()),(),c,e,f,h,i,l,m,n,())
theorem aeN (k g3 a b c e f h i l m n):aeM k g3 (a+1) b c e f h i l m n=aeL k g3 (aeM k g3 a) b c e f h i l m n:=Ba _ _ _ _
abbrev ajl:Cut:=⟨[0,4,27,28,29],[.pin false 0,.own 32 o7,.own 3 (.int .i64),cI,cI],[.fK 166 [cI,cI,.own 54 zx,.own 168 wz,.cell .bool,.cell .bool,.cell .bool,.own 59 GD,.own 3 (.int .i64),.own 4 .bool,.own 142 x9,.own 3 (.int .i64),.own 4 .bool,.own 51 uz]],85,[]⟩
def aeO (k:Nat) (g3:P9) (a:qh) (b:List (List Int)) (c:List Int) (e f:Int):Option l7 :=
 (bif decide (f<e) then
  ix c f <|
  (JX k a (0,11,0,rd c f 0,0,0)).bind fun q1 =>
  ix b f <|
  aeM k g3 k (wh q1.2.1) b (rd c f 0) c e f (rd b f []) ((rd b f []).length:Int) 0
 else
  some ((),zq a,()))
def an1 (k:Nat) (g:(D8×Unit×CK×(List Int)×Int×Int×Unit) -> Option l7) (d:D8×Unit×CK×(List Int)×Int×Int×Unit):Option l7:=aeO k (fun a b c e f=>g ((zq a,()),(),b,c,e,f,())) (wh d.1.1) d.2.2.1 d.2.2.2.1 d.2.2.2.2.1 d.2.2.2.2.2.1
def aaK (k a:Nat) (b:qh) (c:List (List Int)) (e:List Int) (f h:Int):Option l7:=iter ajl (an1 k) a ((zq b,()),(),c,e,f,h,())
theorem aeP (k a b c e f h):aaK k (a+1) b c e f h=aeO k (aaK k a) b c e f h:=Ba _ _ _ _
def S80 (k:Nat) (a:qh):Option l7 :=
 (alF k a.1.2.2.2.2.2.2.2.2.1).bind fun q0 =>
 aaK k k ((w8 a.1 q0.1.1),a.2) q0.1.2.2.1 q0.1.2.1 (q0.1.2.1.length:Int) 0
def F80:Fn:=⟨[XT],[],fun k x=>S80 k (wh x.1)⟩
theorem ok80:O 80 F80:=okF (ah ok107 <| ah ok127 <| ah ok146a <| ah ok148 <| ah ok149 aj) [] (fun k=>(.loop 3 ajl (an1 k) (fun g=>(fun (g3:P9)=>(.loop 14 aeK (ajj k g3) (fun g=>.nil) (.loop 7 ajk (an0 k g3) (fun g=>.nil) .nil))) (fun t1 who t27 t28 t29=>g ((zq t1,()),(),who,t27,t28,t29,()))) .nil)) Tryz.func80 rfl
abbrev aeQ:Cut:=⟨[0,2,6,7,8,12,13,14],[.cell SL,cI,cI,.cell .bool,.mp 423 true (.int .i64) false .bool,.cell o7,cI,cI],[],51,[]⟩
def Y4 (k:Nat) (g3:pz -> Int -> Int -> Bool -> (List (Int×Bool)) -> (List Int) -> Int -> Int -> Option y7) (a:ou) (b c:Int) (e:Bool) (f:List (Int×Bool)) (h:List Int) (i l:Int):Option y7 :=
 (bif decide (l<i) then
  ix h l <|
  (agH k a (rd h l 0) b).bind fun q0 =>
  (bif !q0.1.1 then
   g3 a b c e f h i (IntKind.i64.wrap (l+1))
  else
   (bif Us (.int .i64) .bool (rd h l 0) f false then
    g3 a b c e f h i (IntKind.i64.wrap (l+1))
   else
    (bif !e then
     ix a (rd h l 0) <|
     g3 a b (rd a (rd h l 0) (0,0)).1 true (vL (.int .i64) .bool (rd h l 0) true f) h i (IntKind.i64.wrap (l+1))
    else
     ix a (rd h l 0) <|
     (bif decide ((rd a (rd h l 0) (0,0)).1<c) then
      ix a (rd h l 0) <|
      g3 a b (rd a (rd h l 0) (0,0)).1 true (vL (.int .i64) .bool (rd h l 0) true f) h i (IntKind.i64.wrap (l+1))
     else
      g3 a b c e (vL (.int .i64) .bool (rd h l 0) true f) h i (IntKind.i64.wrap (l+1))))))
 else
  some ((c,e,()),()))
def ajm (k:Nat):Xx (((Unit)×pz×Int×Int×Bool×(List (Int×Bool))×(List Int)×Int×Int×Unit) -> Option y7):=eu (dw (dh (dh (dh (dh (dh (dh (dh (dh dx))))))))) (Y4 k)
def Y5 (k a:Nat) (b:ou) (c e:Int) (f:Bool) (h:List (Int×Bool)) (i:List Int) (l m:Int):Option y7:=iter aeQ (ajm k) a ((),b,c,e,f,h,i,l,m,())
theorem aaL (k a b c e f h i l m):Y5 k (a+1) b c e f h i l m=Y4 k (Y5 k a) b c e f h i l m:=Ba _ _ _ _
def ajn (k:Nat) (a:ou) (b:List Int) (c:Int):Option y7 :=
 Y5 k k a c 0 false ([]:List (Int×Bool)) b (b.length:Int) 0
def F300:Fn:=⟨[G8,.val ⟨false,o7,false⟩,au],[rI,rB],fun k (a,b,c,_)=>ajn k a b c⟩
theorem ok300:O 300 F300:=okF (ah ok293 aj) [] (fun k=>(.loop 3 aeQ (ajm k) (fun g=>.nil) .nil)) Tryz.func300 rfl
def ajo (k:Nat) (a:AU) (b:Int):Option u6 :=
 (bif a.2.2.2.1==2 then
  some ((IntKind.i64.wrap ((IntKind.i64.wrap (b+b))+a.1),()),())
 else
  (bif a.2.2.2.2.2.2.2 then
   some ((a.1,()),())
  else
   some ((IntKind.i64.wrap (b+a.1),()),())))
def F340:Fn:=⟨[JV,au],[rI],fun k x=>ajo k x.1 x.2.1⟩
theorem ok340:O 340 F340:=okF aj [] On Tryz.func340 rfl
def ao1 (k:Nat) (a:AU) (b:Int) (c:ou):Option u6 :=
 (ajn k c a.2.2.2.2.2.2.1 a.1).bind fun q0 =>
 (bif q0.1.2.1 then
  (ajo k a b).bind fun q1 =>
  some ((mn q1.1.1 q0.1.1,()),())
 else
  (ajo k a b).bind fun q2 =>
  some ((q2.1.1,()),()))
def F299:Fn:=⟨[JV,au,G8],[rI],fun k (a,b,c,_)=>ao1 k a b c⟩
theorem ok299:O 299 F299:=okF (ah ok300 <| ah ok340 aj) [] On Tryz.func299 rfl
def alG (k:Nat) (a:AU) (b:Int) (c:ou):Option ((CG×Unit)×Unit) :=
 (ao1 k a b c).bind fun q0 =>
 (ajn k c a.2.2.2.2.2.2.1 a.1).bind fun q1 =>
 (bif q1.1.2.1 then
  some (((q0.1.1,0,a.1),()),())
 else
  some (((q0.1.1,1,a.1),()),()))
def F235:Fn:=⟨[JV,au,G8],[.val ⟨true,y8,true⟩],fun k (a,b,c,_)=>alG k a b c⟩
theorem ok235:O 235 F235:=okF (ah ok299 <| ah ok300 aj) [] On Tryz.func235 rfl
def alH (k:Nat) (x:Int):Option qz :=
 some ((x != x,()),())
def F342:Fn:=⟨[au],[rB],fun k x=>alH k x.1⟩
theorem ok342:O 342 F342:=okF aj [] On Tryz.func342 rfl
def agJ (k:Nat) (x a:Int):Option u6 :=
 (alH k x).bind fun q0 =>
 (alH k a).bind fun q1 =>
 (bif q0.1.1 then
  (bif q1.1.1 then
   some ((0,()),())
  else
   some (((-1),()),()))
 else
  (bif q1.1.1 then
   some ((1,()),())
  else
   (bif decide (x<a) then
    some (((-1),()),())
   else
    (bif decide (x>a) then
     some ((1,()),())
    else
     some ((0,()),())))))
def F304:Fn:=⟨[au,au],[rI],fun k x=>agJ k x.1 x.2.1⟩
theorem ok304:O 304 F304:=okF (ah ok342 aj) [] On Tryz.func304 rfl
abbrev aeR:Cut:=⟨[3,6,7,8],[cI,.cell o7,cI,cI],[],18,[]⟩
def NM (k:Nat) (g3:Int -> (List Int) -> Int -> Int -> Option u6) (a:Int) (b:List Int) (c e:Int):Option u6 :=
 (bif decide (e<c) then
  ix b e <|
  (bif (rd b e 0) != a then
   some ((rd b e 0,()),())
  else
   g3 a b c (IntKind.i64.wrap (e+1)))
 else
  some ((a,()),()))
def ajp (k:Nat):Xx (((Unit)×Int×(List Int)×Int×Int×Unit) -> Option u6):=eu (dw (dh (dh (dh (dh dx))))) (NM k)
def acf (k a:Nat) (b:Int) (c:List Int) (e f:Int):Option u6:=iter aeR (ajp k) a ((),b,c,e,f,())
theorem LM (k a b c e f):acf k (a+1) b c e f=NM k (acf k a) b c e f:=Ba _ _ _ _
def ao2 (k:Nat) (a:List Int):Option u6 :=
 acf k k 0 a (a.length:Int) 0
def F303:Fn:=⟨[.val ⟨false,o7,false⟩],[rI],fun k x=>ao2 k x.1⟩
theorem ok303:O 303 F303:=okF aj [] (fun k=>(.loop 3 aeR (ajp k) (fun g=>.nil) .nil)) Tryz.func303 rfl
def agK (k:Nat) (a b:Int×Int×Int):Option u6 :=
 (agJ k a.1 b.1).bind fun q0 =>
 (agJ k a.2.1 b.2.1).bind fun q1 =>
 (agJ k a.2.2 b.2.2).bind fun q2 =>
 (ao2 k ([q0.1.1,q1.1.1,q2.1.1]:List Int)).bind fun q3 =>
 some ((q3.1.1,()),())
def F237:Fn:=⟨[.val ⟨true,y8,false⟩,.val ⟨true,y8,false⟩],[rI],fun k x=>agK k x.1 x.2.1⟩
theorem ok237:O 237 F237:=okF (ah ok303 <| ah ok304 aj) [] On Tryz.func237 rfl
def aqw (k:Nat) (a:Int):Option u6 :=
 (bif decide (a<0) then
  some ((0,()),())
 else
  (bif decide (a≥64) then
   some ((0,()),())
  else
   Uj a <|
   some ((Uk .u64 1 a,()),())))
def F341:Fn:=⟨[au],[.val ⟨false,(.int .u64),true⟩],fun k x=>aqw k x.1⟩
theorem ok341:O 341 F341:=okF aj [] On Tryz.func341 rfl
def ajq (k:Nat) (a b:Int):Option u6 :=
 (aqw k b).bind fun q0 =>
 some ((Uz .u64 a q0.1.1,()),())
def F301:Fn:=⟨[.val ⟨false,(.int .u64),false⟩,au],[.val ⟨false,(.int .u64),true⟩],fun k x=>ajq k x.1 x.2.1⟩
theorem ok301:O 301 F301:=okF (ah ok341 aj) [] On Tryz.func301 rfl
abbrev aeS:Cut:=⟨[0,2,4],[.cell (.int .u64),cI,cI],[],23,[]⟩
def ao3 (k:Nat) (g4:Int -> Int -> Int -> Option y7) (a b c:Int):Option y7 :=
 (bif decide (c>0) then
  Uj (IntKind.i64.wrap (64 - c)) <|
  (bif (Uk .u64 a (IntKind.i64.wrap (64 - c)))==0 then
   Uj c <|
   g4 (Ul .u64 a c) (IntKind.i64.wrap (b+c)) (IntKind.i64.wrap (Int.tdiv c 2))
  else
   g4 a b (IntKind.i64.wrap (Int.tdiv c 2)))
 else
  some ((b,true,()),()))
def ajr (k:Nat):Xx (((Unit)×Int×Int×Int×Unit) -> Option y7):=eu (dw (dh (dh (dh dx)))) (ao3 k)
def ao4 (k a:Nat) (b c e:Int):Option y7:=iter aeS (ajr k) a ((),b,c,e,())
def ao5 (k:Nat) (a:Int):Option y7 :=
 (bif a==0 then
  some ((0,false,()),())
 else
  ao4 k k a 0 32)
def F302:Fn:=⟨[.val ⟨false,(.int .u64),false⟩],[rI,rB],fun k x=>ao5 k x.1⟩
theorem ok302:O 302 F302:=okF aj [] (fun k=>(.loop 4 aeS (ajr k) (fun g=>.nil) .nil)) Tryz.func302 rfl
abbrev aeT:Cut:=⟨[3,4,13,14,15],[.box 336 [cI,cI,cI],.cell (.int .u64),.cell (.sl 336 y8),cI,cI],[],42,[]⟩
def TB (k:Nat) (g3:Int -> Int -> Int -> Int -> G7 -> Int -> Int -> Option u6) (a b c e:Int) (f:List CG) (h i:Int):Option u6 :=
 (bif decide (i<h) then
  ix f i <|
  (agK k (rd f i (0,0,0)) (a,b,c)).bind fun q0 =>
  (bif decide (q0.1.1<0) then
   (ajq k 0 i).bind fun q1 =>
   g3 (rd f i (0,0,0)).1 (rd f i (0,0,0)).2.1 (rd f i (0,0,0)).2.2 q1.1.1 f h (IntKind.i64.wrap (i+1))
  else
   (bif q0.1.1==0 then
    (ajq k e i).bind fun q2 =>
    g3 a b c q2.1.1 f h (IntKind.i64.wrap (i+1))
   else
    g3 a b c e f h (IntKind.i64.wrap (i+1))))
 else
  (ao5 k e).bind fun q3 =>
  some ((q3.1.1,()),()))
def ajs (k:Nat):Xx (((Unit)×(Int×Int×Int×Unit)×Int×G7×Int×Int×Unit) -> Option u6):=eu (dw (d9 (dh (dh (dh dx))) (dh (dh (dh (dh dx)))))) (TB k)
def NP (k a:Nat) (b c e f:Int) (h:List CG) (i l:Int):Option u6:=iter aeT (ajs k) a ((),(b,c,e,()),f,h,i,l,())
theorem TD (k a b c e f h i l):NP k (a+1) b c e f h i l=TB k (NP k a) b c e f h i l:=Ba _ _ _ _
def alI (k:Nat) (a:List CG):Option u6 :=
 ix a 0 <|
 NP k k (rd a 0 (0,0,0)).1 (rd a 0 (0,0,0)).2.1 (rd a 0 (0,0,0)).2.2 0 a (a.length:Int) 0
def F236:Fn:=⟨[.val ⟨false,(.sl 336 y8),false⟩],[rI],fun k x=>alI k x.1⟩
theorem ok236:O 236 F236:=okF (ah ok237 <| ah ok301 <| ah ok302 aj) [] (fun k=>(.loop 3 aeT (ajs k) (fun g=>.nil) .nil)) Tryz.func236 rfl
abbrev aeU:Cut:=⟨[6,7,8,11],[cI,.cell .bool,.own 336 y8,cI],[],63,[]⟩
def TF (k:Nat) (g8:Int -> Bool -> G7 -> Int -> Option y7) (a:Int) (b:Bool) (c:List CG) (e:Int):Option y7 :=
 (bif decide (e<(c.length:Int)) then
  sx c e (mn (IntKind.i64.wrap (e+64)) (c.length:Int)) <|
  (alI k (sub c e (mn (IntKind.i64.wrap (e+64)) (c.length:Int)))).bind fun q2 =>
  (bif !b then
   g8 (IntKind.i64.wrap (e+q2.1.1)) true c (IntKind.i64.wrap (e+64))
  else
   ix c (IntKind.i64.wrap (e+q2.1.1)) <|
   ix c a <|
   (agK k (rd c (IntKind.i64.wrap (e+q2.1.1)) (0,0,0)) (rd c a (0,0,0))).bind fun q3 =>
   (bif decide (q3.1.1<0) then
    g8 (IntKind.i64.wrap (e+q2.1.1)) true c (IntKind.i64.wrap (e+64))
   else
    g8 a b c (IntKind.i64.wrap (e+64))))
 else
  some ((a,b,()),()))
def ajt (k:Nat):Xx (((Unit)×Int×Bool×G7×Int×Unit) -> Option y7):=eu (dw (dh (dh (dh (dh dx))))) (TF k)
def NQ (k a:Nat) (b:Int) (c:Bool) (e:List CG) (f:Int):Option y7:=iter aeU (ajt k) a ((),b,c,e,f,())
theorem TG (k a b c e f):NQ k (a+1) b c e f=TF k (NQ k a) b c e f:=Ba _ _ _ _
abbrev aeV:Cut:=⟨[1,2,6,7,8,14,15,16],[cI,.cell SL,cI,.cell .bool,.own 336 y8,.cell G6,cI,cI],[],63,[]⟩
def Y6 (k:Nat) (g3:Int -> pz -> Int -> Bool -> G7 -> (List BS) -> Int -> Int -> Option y7) (a:Int) (b:ou) (c:Int) (e:Bool) (f:List CG) (h:List BS) (i l:Int):Option y7 :=
 (bif decide (l<i) then
  ix h l <|
  (alG k (rd h l ay) a b).bind fun q0 =>
  ap f ([q0.1.1]:List CG) 24 fun r1 =>
  g3 a b c e r1 h i (IntKind.i64.wrap (l+1))
 else
  NQ k k c e f 0)
def aju (k:Nat):Xx (((Unit)×Int×pz×Int×Bool×G7×(List BS)×Int×Int×Unit) -> Option y7):=eu (dw (dh (dh (dh (dh (dh (dh (dh (dh dx))))))))) (Y6 k)
def Y7 (k a:Nat) (b:Int) (c:ou) (e:Int) (f:Bool) (h:List CG) (i:List BS) (l m:Int):Option y7:=iter aeV (aju k) a ((),b,c,e,f,h,i,l,m,())
theorem aaM (k a b c e f h i l m):Y7 k (a+1) b c e f h i l m=Y6 k (Y7 k a) b c e f h i l m:=Ba _ _ _ _
def alJ (k:Nat) (a:List BS) (b:Int) (c:ou):Option y7 :=
 Y7 k k b c 0 false ([]:List CG) a (a.length:Int) 0
def F150:Fn:=⟨[.val ⟨false,G6,false⟩,au,G8],[rI,rB],fun k (a,b,c,_)=>alJ k a b c⟩
theorem ok150:O 150 F150:=okF (ah ok235 <| ah ok236 <| ah ok237 aj) [(8,2)] (fun k=>(.loop 8 aeU (ajt k) (fun g=>.nil) (.loop 3 aeV (aju k) (fun g=>.nil) .nil))) Tryz.func150 rfl
def aaN (k:Nat) (a:Int×(PN Int 8)×G7×Bool):Option SI :=
 (ab0 k a.2.2.1).bind fun q0 =>
 some (((a.1,a.2.1,q0.1.1,a.2.2.2),()),())
def F307:Fn:=⟨[ai2],[aem],fun k x=>aaN k x.1⟩
theorem ok307:O 307 F307:=okF (ah ok217 aj) [] On Tryz.func307 rfl
def agL (k:Nat) (a:AU):Option ((BS×Unit)×Unit) :=
 (aaN k a.2.2.2.2.1).bind fun q0 =>
 (aaN k a.2.2.2.2.2.1).bind fun q1 =>
 (GV k a.2.2.2.2.2.2.1).bind fun q2 =>
 some (((w6 (w5 (w4 a q0.1.1) q1.1.1) q2.1.1),()),())
def F305:Fn:=⟨[JV],[aaB],fun k x=>agL k x.1⟩
theorem ok305:O 305 F305:=okF (ah ok219 <| ah ok307 aj) [] On Tryz.func305 rfl
def alK (k:Nat) (a:aeg) (b:AU):Option ((BS×Unit)×Unit) :=
 (agL k b).bind fun q0 =>
 (bif b.2.2.2.1==0 then
  (bif decide ((a.2.2.2.2.1.length:Int)>0) then
   (V9 k b.2.2.1).bind fun q1 =>
   (V9 k b.2.2.1).bind fun q2 =>
   some (((q0.1.1.1,q0.1.1.2.1,q0.1.1.2.2.1,1,q1.1.1,q2.1.1,[],q0.1.1.2.2.2.2.2.2.2),()),())
  else
   (aaN k b.2.2.2.2.2.1).bind fun q3 =>
   some (((w6 (w4 q0.1.1 q3.1.1) []),()),()))
 else
  (aaN k b.2.2.2.2.2.1).bind fun q4 =>
  some (((w6 (w4 q0.1.1 q4.1.1) []),()),()))
def F311:Fn:=⟨[aen,JV],[aaB],fun k x=>alK k x.1 x.2.1⟩
theorem ok311:O 311 F311:=okF (ah ok109 <| ah ok305 <| ah ok307 aj) [] On Tryz.func311 rfl
def alL (k:Nat) (a:aeg) (b:AU) (c:ou):Option ((BS×pz×Int×Unit)×Unit) :=
 (alK k a b).bind fun q0 =>
 (agI k c b.1).bind fun q1 =>
 (bif b.2.2.2.1==2 then
  (agC k b (-1)).bind fun q2 =>
  some ((q2.1.1,q1.1.1,13,()),())
 else
  (bif q0.1.1.2.2.2.1 != b.2.2.2.1 then
   some ((q0.1.1,q1.1.1,7,()),())
  else
   some ((q0.1.1,q1.1.1,6,()),())))
def F242:Fn:=⟨[aen,JV,G8],[aaB,aek,rI],fun k (a,b,c,_)=>alL k a b c⟩
theorem ok242:O 242 F242:=okF (ah ok127 <| ah ok231 <| ah ok311 aj) [] On Tryz.func242 rfl
abbrev aeW:Cut:=⟨[0,1,11,12,13],[.pin false 0,.cell SL,.own 3 (.int .i64),cI,cI],[.fK 166 [cI,cI,.own 54 zx,.own 168 wz,.cell .bool,.cell .bool,.cell .bool,.own 59 GD,.own 3 (.int .i64),.own 4 .bool,.own 142 x9,.own 3 (.int .i64),.own 4 .bool,.own 51 uz]],55,[]⟩
def Y8 (k:Nat) (g1:(ET×List (PN Int 6)) -> pz -> (List Int) -> Int -> Int -> Option l7) (a:qh) (b:ou) (c:List Int) (e f:Int):Option l7 :=
 (bif decide (f<e) then
  ix c f <|
  ix a.1.2.2.2.2.2.2.2.2.1.2 (rd c f 0) <|
  (bif decide (f<(b.length:Int)) then
   ix b f <|
   (bif !(fC AQ (rd a.1.2.2.2.2.2.2.2.2.1.2 (rd c f 0) bf).2.2.1 (rd b f (0,0))) then
    ix b f <|
    (JG k a.1.2.2.2.2.2.2.2.2.1 (rd c f 0) ((rd a.1.2.2.2.2.2.2.2.2.1.2 (rd c f 0) bf).1,(rd a.1.2.2.2.2.2.2.2.2.1.2 (rd c f 0) bf).2.1,rd b f (0,0),(rd a.1.2.2.2.2.2.2.2.2.1.2 (rd c f 0) bf).2.2.2)).bind fun q1 =>
    g1 ((w8 a.1 q1.1.1),a.2) b c e (IntKind.i64.wrap (f+1))
   else
    g1 a b c e (IntKind.i64.wrap (f+1)))
  else
   g1 a b c e (IntKind.i64.wrap (f+1)))
 else
  some ((),zq a,()))
def ajv (k:Nat) (g:(D8×Unit×pz×(List Int)×Int×Int×Unit) -> Option l7) (d:D8×Unit×pz×(List Int)×Int×Int×Unit):Option l7:=Y8 k (fun a b c e f=>g ((zq a,()),(),b,c,e,f,())) (wh d.1.1) d.2.2.1 d.2.2.2.1 d.2.2.2.2.1 d.2.2.2.2.2.1
def NR (k a:Nat) (b:qh) (c:ou) (e:List Int) (f h:Int):Option l7:=iter aeW (ajv k) a ((zq b,()),(),c,e,f,h,())
theorem aaO (k a b c e f h):NR k (a+1) b c e f h=Y8 k (NR k a) b c e f h:=Ba _ _ _ _
def agM (k:Nat) (a:qh) (b:ou):Option l7 :=
 (aau k a.1.2.2.2.2.2.2.2.2.1).bind fun q0 =>
 NR k k a b q0.1.1 (q0.1.1.length:Int) 0
def F61b:Fn:=⟨[XT,G8],[],fun k x=>agM k (wh x.1) x.2.1⟩
theorem ok61b:O 61 F61b:=okF (ah ok107 <| ah ok128 aj) [] (fun k=>(.loop 1 aeW (ajv k) (fun g=>.nil) .nil)) Tryz.func61 rfl
def alM (k:Nat) (a:qh) (b:AU):Option aaA :=
 ix a.1.2.2.1 b.1 <|
 (S48 k a.1).bind fun q0 =>
 (alL k (rd a.1.2.2.1 b.1 bg) b q0.1.1).bind fun q1 =>
 (agM k a q1.1.2.1).bind fun q2 =>
 (JX k (wh q2.2.1) (0,q1.1.2.2.1,q1.1.1.1,0,0,0)).bind fun q3 =>
 some ((q1.1.2.2.1==13,()),q3.2.1,trJ q1.1.1,())
def F152:Fn:=⟨[XT,aqo],[rB],fun k x=>alM k (wh x.1) (tvJ x.2.1)⟩
theorem ok152:O 152 F152:=okF (ah ok48 <| ah ok61b <| ah ok146a <| ah ok242 aj) [] On Tryz.func152 rfl
def alN (k:Nat) (a:aeg) (b:AU):Option (((List nk)×Unit)×Unit) :=
 (RX k (Us (.int .i64) y9 b.2.2.2.1 (vL (.int .i64) y9 2 a.2.2.2.2.2 (vL (.int .i64) y9 1 a.2.2.2.2.1 (vL (.int .i64) y9 0 a.2.2.2.1 ([]:List (Int×List nk))))) [])).bind fun q0 =>
 some ((q0.1.1,()),())
def F306:Fn:=⟨[aen,JV],[ai3],fun k x=>alN k x.1 x.2.1⟩
theorem ok306:O 306 F306:=okF (ah ok126 aj) [] On Tryz.func306 rfl
def acg (k:Nat) (a:Int×(PN Int 8)×G7×Bool):Option SI :=
 (ab0 k a.2.2.1).bind fun q0 =>
 some (((a.1,a.2.1,q0.1.1,a.2.2.2),()),())
def F195:Fn:=⟨[ai2],[aem],fun k x=>acg k x.1⟩
theorem ok195:O 195 F195:=okF (ah ok217 aj) [] On Tryz.func195 rfl
def alO (k:Nat) (a b:Int):Option u6 :=
 (bif decide (b <= (-64)) then
  some ((a,()),())
 else
  (bif decide (b≥64) then
   some ((a,()),())
  else
   (bif decide (b<0) then
    Uj (IntKind.i64.wrap (0 - b)) <|
    some ((Ul .i64 a (IntKind.i64.wrap (0 - b)),()),())
   else
    Uj b <|
    some ((IntKind.i64.wrap (Uk .u64 (IntKind.u64.wrap a) b),()),()))))
def F196:Fn:=⟨[au,au],[rI],fun k x=>alO k x.1 x.2.1⟩
theorem ok196:O 196 F196:=okF aj [] On Tryz.func196 rfl
def alP (k:Nat) (a b:Int):Option u6 :=
 (bif decide (b<1) then
  some ((a,()),())
 else
  (bif decide (b>64) then
   some ((a,()),())
  else
   Uj (IntKind.i64.wrap (64 - b)) <|
   Uj (IntKind.i64.wrap (64 - b)) <|
   some ((Ul .i64 (Uk .i64 a (IntKind.i64.wrap (64 - b))) (IntKind.i64.wrap (64 - b)),()),())))
def F197:Fn:=⟨[au,au],[rI],fun k x=>alP k x.1 x.2.1⟩
theorem ok197:O 197 F197:=okF aj [] On Tryz.func197 rfl
abbrev aeX:Cut:=⟨[1,2,3],[.box 57 [cI,cI,cI,cI,cI,cI,cI,cI,cI,.own 293 y8,.cell .bool],.box 57 [cI,cI,cI,cI,cI,cI,cI,cI,cI,.nil,.cell .bool],cI],[],55,[]⟩
def Y9 (k:Nat) (g2:Int -> Int -> Int -> Int -> Int -> Int -> Int -> Int -> Int -> G7 -> Bool -> Int -> Int -> Int -> Int -> Int -> Int -> Int -> Int -> Int -> Bool -> Int -> Option SI) (a b c e f h i l m:Int) (n:List CG) (o:Bool) (p s t u v w y z A:Int) (B:Bool) (C:Int):Option SI :=
 (bif decide (C>0) then
  ix n (IntKind.i64.wrap (C - 1)) <|
  (bif decide ((rd n (IntKind.i64.wrap (C - 1)) (0,0,0)).2.1<a) then
   ix n (IntKind.i64.wrap (C - 1)) <|
   (bif decide ((rd n (IntKind.i64.wrap (C - 1)) (0,0,0)).2.2>0) then
    some ((((rd n (IntKind.i64.wrap (C - 1)) (0,0,0)).1,(b,c,e,f,h,i,l,m),upd n (IntKind.i64.wrap (C - 1)) ((rd n (IntKind.i64.wrap (C - 1)) (0,0,0)).1,(rd n (IntKind.i64.wrap (C - 1)) (0,0,0)).2.1,IntKind.i64.wrap ((rd n (IntKind.i64.wrap (C - 1)) (0,0,0)).2.2 - 1)),o),()),())
   else
    sx n 0 (IntKind.i64.wrap (C - 1)) <|
    g2 a b c e f h i l m (n.take (IntKind.i64.wrap (C - 1)).toNat) o p s t u v w y z A B ((n.take (IntKind.i64.wrap (C - 1)).toNat).length:Int))
  else
   some (((a,(b,c,e,f,h,i,l,m),n,o),()),()))
 else
  some (((a,(b,c,e,f,h,i,l,m),n,o),()),()))
def ajw (k:Nat):Xx (((Unit)×(Int×Int×Int×Int×Int×Int×Int×Int×Int×G7×Bool×Unit)×(Int×Int×Int×Int×Int×Int×Int×Int×Int×Unit×Bool×Unit)×Int×Unit) -> Option SI):=eu (dw (d9 (dh (dh (dh (dh (dh (dh (dh (dh (dh (dh (dh dx))))))))))) (d9 (dh (dh (dh (dh (dh (dh (dh (dh (dh (dw (dh dx))))))))))) (dh dx)))) (Y9 k)
def Ya (k a:Nat) (b c e f h i l m n:Int) (o:List CG) (p:Bool) (s t u v w y z A B:Int) (C:Bool) (D:Int):Option SI:=iter aeX (ajw k) a ((),(b,c,e,f,h,i,l,m,n,o,p,()),(s,t,u,v,w,y,z,A,B,(),C,()),D,())
theorem aaP (k a b c e f h i l m n o p s t u v w y z A B C D):Ya k (a+1) b c e f h i l m n o p s t u v w y z A B C D=Y9 k (Ya k a) b c e f h i l m n o p s t u v w y z A B C D:=Ba _ _ _ _
def LP (k:Nat) (a b c e f h i l m:Int) (n:List CG) (o:Bool):Option SI :=
 Ya k k a b c e f h i l m n o 0 0 0 0 0 0 0 0 0 false (n.length:Int)
def F198:Fn:=⟨[.gv (.agg [cI,cI,cI,cI,cI,cI,cI,cI,cI,.own 293 y8,.cell .bool])],[aem],fun k ((a,b,c,e,f,h,i,l,m,n,o,_),_)=>LP k a b c e f h i l m n o⟩
theorem ok198:O 198 F198:=okF aj [(52,1)] (fun k=>(.loop 2 aeX (ajw k) (fun g=>.nil) .nil)) Tryz.func198 rfl
def ajx (k:Nat) (a:List nk) (b:Int×(PN Int 8)×G7×Bool):Option (((Int×(PN Int 8)×G7×Bool)×nk×Bool×Unit)×Unit) :=
 (bif b.2.2.2 then
  (acg k b).bind fun q0 =>
  some ((q0.1.1,(0,0,0,0),false,()),())
 else
  (bif decide (b.1<0) then
   (acg k b).bind fun q1 =>
   some ((q1.1.1,(0,0,0,0),false,()),())
  else
   (bif decide (b.1≥(a.length:Int)) then
    (acg k b).bind fun q2 =>
    some ((q2.1.1,(0,0,0,0),false,()),())
   else
    ix a b.1 <|
    (ahH k (rd a b.1 (0,0,0,0))).bind fun q3 =>
    (bif !q3.1.1 then
     (acg k b).bind fun q4 =>
     some ((q4.1.1,(0,0,0,0),false,()),())
    else
     (acg k b).bind fun q5 =>
     ix a q5.1.1.1 <|
     ax 8 (rd a q5.1.1.1 (0,0,0,0)).2.1 <|
     ax 8 (Int.tmod (rd a q5.1.1.1 (0,0,0,0)).2.2.1 8) <|
     (bif (rd a q5.1.1.1 (0,0,0,0)).1==0 then
      (LP k q5.1.1.1 q5.1.1.2.1.1 q5.1.1.2.1.2.1 q5.1.1.2.1.2.2.1 q5.1.1.2.1.2.2.2.1 q5.1.1.2.1.2.2.2.2.1 q5.1.1.2.1.2.2.2.2.2.1 q5.1.1.2.1.2.2.2.2.2.2.1 q5.1.1.2.1.2.2.2.2.2.2.2 q5.1.1.2.2.1 true).bind fun q6 =>
      some ((q6.1.1,rd a q5.1.1.1 (0,0,0,0),true,()),())
     else
      (bif (rd a q5.1.1.1 (0,0,0,0)).1==1 then
       (LP k (IntKind.i64.wrap (q5.1.1.1+1)) (Ur (α:=Int) 8 q5.1.1.2.1 (rd a q5.1.1.1 (0,0,0,0)).2.1 (rd a q5.1.1.1 (0,0,0,0)).2.2.2).1 (Ur (α:=Int) 8 q5.1.1.2.1 (rd a q5.1.1.1 (0,0,0,0)).2.1 (rd a q5.1.1.1 (0,0,0,0)).2.2.2).2.1 (Ur (α:=Int) 8 q5.1.1.2.1 (rd a q5.1.1.1 (0,0,0,0)).2.1 (rd a q5.1.1.1 (0,0,0,0)).2.2.2).2.2.1 (Ur (α:=Int) 8 q5.1.1.2.1 (rd a q5.1.1.1 (0,0,0,0)).2.1 (rd a q5.1.1.1 (0,0,0,0)).2.2.2).2.2.2.1 (Ur (α:=Int) 8 q5.1.1.2.1 (rd a q5.1.1.1 (0,0,0,0)).2.1 (rd a q5.1.1.1 (0,0,0,0)).2.2.2).2.2.2.2.1 (Ur (α:=Int) 8 q5.1.1.2.1 (rd a q5.1.1.1 (0,0,0,0)).2.1 (rd a q5.1.1.1 (0,0,0,0)).2.2.2).2.2.2.2.2.1 (Ur (α:=Int) 8 q5.1.1.2.1 (rd a q5.1.1.1 (0,0,0,0)).2.1 (rd a q5.1.1.1 (0,0,0,0)).2.2.2).2.2.2.2.2.2.1 (Ur (α:=Int) 8 q5.1.1.2.1 (rd a q5.1.1.1 (0,0,0,0)).2.1 (rd a q5.1.1.1 (0,0,0,0)).2.2.2).2.2.2.2.2.2.2 q5.1.1.2.2.1 q5.1.1.2.2.2).bind fun q7 =>
       some ((q7.1.1,rd a q5.1.1.1 (0,0,0,0),true,()),())
      else
       (bif (rd a q5.1.1.1 (0,0,0,0)).1==2 then
        (LP k (IntKind.i64.wrap (q5.1.1.1+1)) (Ur (α:=Int) 8 q5.1.1.2.1 (rd a q5.1.1.1 (0,0,0,0)).2.1 (IntKind.i64.wrap (IntKind.u64.wrap ((IntKind.u64.wrap (Uq (α:=Int) 8 q5.1.1.2.1 (rd a q5.1.1.1 (0,0,0,0)).2.1 0))+(IntKind.u64.wrap (Uq (α:=Int) 8 q5.1.1.2.1 (Int.tmod (rd a q5.1.1.1 (0,0,0,0)).2.2.1 8) 0)))))).1 (Ur (α:=Int) 8 q5.1.1.2.1 (rd a q5.1.1.1 (0,0,0,0)).2.1 (IntKind.i64.wrap (IntKind.u64.wrap ((IntKind.u64.wrap (Uq (α:=Int) 8 q5.1.1.2.1 (rd a q5.1.1.1 (0,0,0,0)).2.1 0))+(IntKind.u64.wrap (Uq (α:=Int) 8 q5.1.1.2.1 (Int.tmod (rd a q5.1.1.1 (0,0,0,0)).2.2.1 8) 0)))))).2.1 (Ur (α:=Int) 8 q5.1.1.2.1 (rd a q5.1.1.1 (0,0,0,0)).2.1 (IntKind.i64.wrap (IntKind.u64.wrap ((IntKind.u64.wrap (Uq (α:=Int) 8 q5.1.1.2.1 (rd a q5.1.1.1 (0,0,0,0)).2.1 0))+(IntKind.u64.wrap (Uq (α:=Int) 8 q5.1.1.2.1 (Int.tmod (rd a q5.1.1.1 (0,0,0,0)).2.2.1 8) 0)))))).2.2.1 (Ur (α:=Int) 8 q5.1.1.2.1 (rd a q5.1.1.1 (0,0,0,0)).2.1 (IntKind.i64.wrap (IntKind.u64.wrap ((IntKind.u64.wrap (Uq (α:=Int) 8 q5.1.1.2.1 (rd a q5.1.1.1 (0,0,0,0)).2.1 0))+(IntKind.u64.wrap (Uq (α:=Int) 8 q5.1.1.2.1 (Int.tmod (rd a q5.1.1.1 (0,0,0,0)).2.2.1 8) 0)))))).2.2.2.1 (Ur (α:=Int) 8 q5.1.1.2.1 (rd a q5.1.1.1 (0,0,0,0)).2.1 (IntKind.i64.wrap (IntKind.u64.wrap ((IntKind.u64.wrap (Uq (α:=Int) 8 q5.1.1.2.1 (rd a q5.1.1.1 (0,0,0,0)).2.1 0))+(IntKind.u64.wrap (Uq (α:=Int) 8 q5.1.1.2.1 (Int.tmod (rd a q5.1.1.1 (0,0,0,0)).2.2.1 8) 0)))))).2.2.2.2.1 (Ur (α:=Int) 8 q5.1.1.2.1 (rd a q5.1.1.1 (0,0,0,0)).2.1 (IntKind.i64.wrap (IntKind.u64.wrap ((IntKind.u64.wrap (Uq (α:=Int) 8 q5.1.1.2.1 (rd a q5.1.1.1 (0,0,0,0)).2.1 0))+(IntKind.u64.wrap (Uq (α:=Int) 8 q5.1.1.2.1 (Int.tmod (rd a q5.1.1.1 (0,0,0,0)).2.2.1 8) 0)))))).2.2.2.2.2.1 (Ur (α:=Int) 8 q5.1.1.2.1 (rd a q5.1.1.1 (0,0,0,0)).2.1 (IntKind.i64.wrap (IntKind.u64.wrap ((IntKind.u64.wrap (Uq (α:=Int) 8 q5.1.1.2.1 (rd a q5.1.1.1 (0,0,0,0)).2.1 0))+(IntKind.u64.wrap (Uq (α:=Int) 8 q5.1.1.2.1 (Int.tmod (rd a q5.1.1.1 (0,0,0,0)).2.2.1 8) 0)))))).2.2.2.2.2.2.1 (Ur (α:=Int) 8 q5.1.1.2.1 (rd a q5.1.1.1 (0,0,0,0)).2.1 (IntKind.i64.wrap (IntKind.u64.wrap ((IntKind.u64.wrap (Uq (α:=Int) 8 q5.1.1.2.1 (rd a q5.1.1.1 (0,0,0,0)).2.1 0))+(IntKind.u64.wrap (Uq (α:=Int) 8 q5.1.1.2.1 (Int.tmod (rd a q5.1.1.1 (0,0,0,0)).2.2.1 8) 0)))))).2.2.2.2.2.2.2 q5.1.1.2.2.1 q5.1.1.2.2.2).bind fun q8 =>
        some ((q8.1.1,rd a q5.1.1.1 (0,0,0,0),true,()),())
       else
        (bif (rd a q5.1.1.1 (0,0,0,0)).1==3 then
         (LP k (IntKind.i64.wrap (q5.1.1.1+1)) (Ur (α:=Int) 8 q5.1.1.2.1 (rd a q5.1.1.1 (0,0,0,0)).2.1 (IntKind.i64.wrap (IntKind.u64.wrap ((IntKind.u64.wrap (Uq (α:=Int) 8 q5.1.1.2.1 (rd a q5.1.1.1 (0,0,0,0)).2.1 0)) - (IntKind.u64.wrap (Uq (α:=Int) 8 q5.1.1.2.1 (Int.tmod (rd a q5.1.1.1 (0,0,0,0)).2.2.1 8) 0)))))).1 (Ur (α:=Int) 8 q5.1.1.2.1 (rd a q5.1.1.1 (0,0,0,0)).2.1 (IntKind.i64.wrap (IntKind.u64.wrap ((IntKind.u64.wrap (Uq (α:=Int) 8 q5.1.1.2.1 (rd a q5.1.1.1 (0,0,0,0)).2.1 0)) - (IntKind.u64.wrap (Uq (α:=Int) 8 q5.1.1.2.1 (Int.tmod (rd a q5.1.1.1 (0,0,0,0)).2.2.1 8) 0)))))).2.1 (Ur (α:=Int) 8 q5.1.1.2.1 (rd a q5.1.1.1 (0,0,0,0)).2.1 (IntKind.i64.wrap (IntKind.u64.wrap ((IntKind.u64.wrap (Uq (α:=Int) 8 q5.1.1.2.1 (rd a q5.1.1.1 (0,0,0,0)).2.1 0)) - (IntKind.u64.wrap (Uq (α:=Int) 8 q5.1.1.2.1 (Int.tmod (rd a q5.1.1.1 (0,0,0,0)).2.2.1 8) 0)))))).2.2.1 (Ur (α:=Int) 8 q5.1.1.2.1 (rd a q5.1.1.1 (0,0,0,0)).2.1 (IntKind.i64.wrap (IntKind.u64.wrap ((IntKind.u64.wrap (Uq (α:=Int) 8 q5.1.1.2.1 (rd a q5.1.1.1 (0,0,0,0)).2.1 0)) - (IntKind.u64.wrap (Uq (α:=Int) 8 q5.1.1.2.1 (Int.tmod (rd a q5.1.1.1 (0,0,0,0)).2.2.1 8) 0)))))).2.2.2.1 (Ur (α:=Int) 8 q5.1.1.2.1 (rd a q5.1.1.1 (0,0,0,0)).2.1 (IntKind.i64.wrap (IntKind.u64.wrap ((IntKind.u64.wrap (Uq (α:=Int) 8 q5.1.1.2.1 (rd a q5.1.1.1 (0,0,0,0)).2.1 0)) - (IntKind.u64.wrap (Uq (α:=Int) 8 q5.1.1.2.1 (Int.tmod (rd a q5.1.1.1 (0,0,0,0)).2.2.1 8) 0)))))).2.2.2.2.1 (Ur (α:=Int) 8 q5.1.1.2.1 (rd a q5.1.1.1 (0,0,0,0)).2.1 (IntKind.i64.wrap (IntKind.u64.wrap ((IntKind.u64.wrap (Uq (α:=Int) 8 q5.1.1.2.1 (rd a q5.1.1.1 (0,0,0,0)).2.1 0)) - (IntKind.u64.wrap (Uq (α:=Int) 8 q5.1.1.2.1 (Int.tmod (rd a q5.1.1.1 (0,0,0,0)).2.2.1 8) 0)))))).2.2.2.2.2.1 (Ur (α:=Int) 8 q5.1.1.2.1 (rd a q5.1.1.1 (0,0,0,0)).2.1 (IntKind.i64.wrap (IntKind.u64.wrap ((IntKind.u64.wrap (Uq (α:=Int) 8 q5.1.1.2.1 (rd a q5.1.1.1 (0,0,0,0)).2.1 0)) - (IntKind.u64.wrap (Uq (α:=Int) 8 q5.1.1.2.1 (Int.tmod (rd a q5.1.1.1 (0,0,0,0)).2.2.1 8) 0)))))).2.2.2.2.2.2.1 (Ur (α:=Int) 8 q5.1.1.2.1 (rd a q5.1.1.1 (0,0,0,0)).2.1 (IntKind.i64.wrap (IntKind.u64.wrap ((IntKind.u64.wrap (Uq (α:=Int) 8 q5.1.1.2.1 (rd a q5.1.1.1 (0,0,0,0)).2.1 0)) - (IntKind.u64.wrap (Uq (α:=Int) 8 q5.1.1.2.1 (Int.tmod (rd a q5.1.1.1 (0,0,0,0)).2.2.1 8) 0)))))).2.2.2.2.2.2.2 q5.1.1.2.2.1 q5.1.1.2.2.2).bind fun q9 =>
         some ((q9.1.1,rd a q5.1.1.1 (0,0,0,0),true,()),())
        else
         (bif (rd a q5.1.1.1 (0,0,0,0)).1==4 then
          (LP k (IntKind.i64.wrap (q5.1.1.1+1)) (Ur (α:=Int) 8 q5.1.1.2.1 (rd a q5.1.1.1 (0,0,0,0)).2.1 (IntKind.i64.wrap (IntKind.u64.wrap ((IntKind.u64.wrap (Uq (α:=Int) 8 q5.1.1.2.1 (rd a q5.1.1.1 (0,0,0,0)).2.1 0)) * (IntKind.u64.wrap (Uq (α:=Int) 8 q5.1.1.2.1 (Int.tmod (rd a q5.1.1.1 (0,0,0,0)).2.2.1 8) 0)))))).1 (Ur (α:=Int) 8 q5.1.1.2.1 (rd a q5.1.1.1 (0,0,0,0)).2.1 (IntKind.i64.wrap (IntKind.u64.wrap ((IntKind.u64.wrap (Uq (α:=Int) 8 q5.1.1.2.1 (rd a q5.1.1.1 (0,0,0,0)).2.1 0)) * (IntKind.u64.wrap (Uq (α:=Int) 8 q5.1.1.2.1 (Int.tmod (rd a q5.1.1.1 (0,0,0,0)).2.2.1 8) 0)))))).2.1 (Ur (α:=Int) 8 q5.1.1.2.1 (rd a q5.1.1.1 (0,0,0,0)).2.1 (IntKind.i64.wrap (IntKind.u64.wrap ((IntKind.u64.wrap (Uq (α:=Int) 8 q5.1.1.2.1 (rd a q5.1.1.1 (0,0,0,0)).2.1 0)) * (IntKind.u64.wrap (Uq (α:=Int) 8 q5.1.1.2.1 (Int.tmod (rd a q5.1.1.1 (0,0,0,0)).2.2.1 8) 0)))))).2.2.1 (Ur (α:=Int) 8 q5.1.1.2.1 (rd a q5.1.1.1 (0,0,0,0)).2.1 (IntKind.i64.wrap (IntKind.u64.wrap ((IntKind.u64.wrap (Uq (α:=Int) 8 q5.1.1.2.1 (rd a q5.1.1.1 (0,0,0,0)).2.1 0)) * (IntKind.u64.wrap (Uq (α:=Int) 8 q5.1.1.2.1 (Int.tmod (rd a q5.1.1.1 (0,0,0,0)).2.2.1 8) 0)))))).2.2.2.1 (Ur (α:=Int) 8 q5.1.1.2.1 (rd a q5.1.1.1 (0,0,0,0)).2.1 (IntKind.i64.wrap (IntKind.u64.wrap ((IntKind.u64.wrap (Uq (α:=Int) 8 q5.1.1.2.1 (rd a q5.1.1.1 (0,0,0,0)).2.1 0)) * (IntKind.u64.wrap (Uq (α:=Int) 8 q5.1.1.2.1 (Int.tmod (rd a q5.1.1.1 (0,0,0,0)).2.2.1 8) 0)))))).2.2.2.2.1 (Ur (α:=Int) 8 q5.1.1.2.1 (rd a q5.1.1.1 (0,0,0,0)).2.1 (IntKind.i64.wrap (IntKind.u64.wrap ((IntKind.u64.wrap (Uq (α:=Int) 8 q5.1.1.2.1 (rd a q5.1.1.1 (0,0,0,0)).2.1 0)) * (IntKind.u64.wrap (Uq (α:=Int) 8 q5.1.1.2.1 (Int.tmod (rd a q5.1.1.1 (0,0,0,0)).2.2.1 8) 0)))))).2.2.2.2.2.1 (Ur (α:=Int) 8 q5.1.1.2.1 (rd a q5.1.1.1 (0,0,0,0)).2.1 (IntKind.i64.wrap (IntKind.u64.wrap ((IntKind.u64.wrap (Uq (α:=Int) 8 q5.1.1.2.1 (rd a q5.1.1.1 (0,0,0,0)).2.1 0)) * (IntKind.u64.wrap (Uq (α:=Int) 8 q5.1.1.2.1 (Int.tmod (rd a q5.1.1.1 (0,0,0,0)).2.2.1 8) 0)))))).2.2.2.2.2.2.1 (Ur (α:=Int) 8 q5.1.1.2.1 (rd a q5.1.1.1 (0,0,0,0)).2.1 (IntKind.i64.wrap (IntKind.u64.wrap ((IntKind.u64.wrap (Uq (α:=Int) 8 q5.1.1.2.1 (rd a q5.1.1.1 (0,0,0,0)).2.1 0)) * (IntKind.u64.wrap (Uq (α:=Int) 8 q5.1.1.2.1 (Int.tmod (rd a q5.1.1.1 (0,0,0,0)).2.2.1 8) 0)))))).2.2.2.2.2.2.2 q5.1.1.2.2.1 q5.1.1.2.2.2).bind fun q10 =>
          some ((q10.1.1,rd a q5.1.1.1 (0,0,0,0),true,()),())
         else
          (bif (rd a q5.1.1.1 (0,0,0,0)).1==5 then
           (alO k (Uq (α:=Int) 8 q5.1.1.2.1 (rd a q5.1.1.1 (0,0,0,0)).2.1 0) (rd a q5.1.1.1 (0,0,0,0)).2.2.2).bind fun V4 =>
           (LP k (IntKind.i64.wrap (q5.1.1.1+1)) (Ur (α:=Int) 8 q5.1.1.2.1 (rd a q5.1.1.1 (0,0,0,0)).2.1 V4.1.1).1 (Ur (α:=Int) 8 q5.1.1.2.1 (rd a q5.1.1.1 (0,0,0,0)).2.1 V4.1.1).2.1 (Ur (α:=Int) 8 q5.1.1.2.1 (rd a q5.1.1.1 (0,0,0,0)).2.1 V4.1.1).2.2.1 (Ur (α:=Int) 8 q5.1.1.2.1 (rd a q5.1.1.1 (0,0,0,0)).2.1 V4.1.1).2.2.2.1 (Ur (α:=Int) 8 q5.1.1.2.1 (rd a q5.1.1.1 (0,0,0,0)).2.1 V4.1.1).2.2.2.2.1 (Ur (α:=Int) 8 q5.1.1.2.1 (rd a q5.1.1.1 (0,0,0,0)).2.1 V4.1.1).2.2.2.2.2.1 (Ur (α:=Int) 8 q5.1.1.2.1 (rd a q5.1.1.1 (0,0,0,0)).2.1 V4.1.1).2.2.2.2.2.2.1 (Ur (α:=Int) 8 q5.1.1.2.1 (rd a q5.1.1.1 (0,0,0,0)).2.1 V4.1.1).2.2.2.2.2.2.2 q5.1.1.2.2.1 q5.1.1.2.2.2).bind fun q12 =>
           some ((q12.1.1,rd a q5.1.1.1 (0,0,0,0),true,()),())
          else
           (bif (rd a q5.1.1.1 (0,0,0,0)).1==6 then
            (alP k (Uq (α:=Int) 8 q5.1.1.2.1 (rd a q5.1.1.1 (0,0,0,0)).2.1 0) (rd a q5.1.1.1 (0,0,0,0)).2.2.2).bind fun q13 =>
            (LP k (IntKind.i64.wrap (q5.1.1.1+1)) (Ur (α:=Int) 8 q5.1.1.2.1 (rd a q5.1.1.1 (0,0,0,0)).2.1 q13.1.1).1 (Ur (α:=Int) 8 q5.1.1.2.1 (rd a q5.1.1.1 (0,0,0,0)).2.1 q13.1.1).2.1 (Ur (α:=Int) 8 q5.1.1.2.1 (rd a q5.1.1.1 (0,0,0,0)).2.1 q13.1.1).2.2.1 (Ur (α:=Int) 8 q5.1.1.2.1 (rd a q5.1.1.1 (0,0,0,0)).2.1 q13.1.1).2.2.2.1 (Ur (α:=Int) 8 q5.1.1.2.1 (rd a q5.1.1.1 (0,0,0,0)).2.1 q13.1.1).2.2.2.2.1 (Ur (α:=Int) 8 q5.1.1.2.1 (rd a q5.1.1.1 (0,0,0,0)).2.1 q13.1.1).2.2.2.2.2.1 (Ur (α:=Int) 8 q5.1.1.2.1 (rd a q5.1.1.1 (0,0,0,0)).2.1 q13.1.1).2.2.2.2.2.2.1 (Ur (α:=Int) 8 q5.1.1.2.1 (rd a q5.1.1.1 (0,0,0,0)).2.1 q13.1.1).2.2.2.2.2.2.2 q5.1.1.2.2.1 q5.1.1.2.2.2).bind fun q14 =>
            some ((q14.1.1,rd a q5.1.1.1 (0,0,0,0),true,()),())
           else
            (bif (rd a q5.1.1.1 (0,0,0,0)).1==7 then
             (bif (Uq (α:=Int) 8 q5.1.1.2.1 (rd a q5.1.1.1 (0,0,0,0)).2.1 0)==0 then
              (LP k (IntKind.i64.wrap ((IntKind.i64.wrap (q5.1.1.1+1))+(rd a q5.1.1.1 (0,0,0,0)).2.2.2)) q5.1.1.2.1.1 q5.1.1.2.1.2.1 q5.1.1.2.1.2.2.1 q5.1.1.2.1.2.2.2.1 q5.1.1.2.1.2.2.2.2.1 q5.1.1.2.1.2.2.2.2.2.1 q5.1.1.2.1.2.2.2.2.2.2.1 q5.1.1.2.1.2.2.2.2.2.2.2 q5.1.1.2.2.1 q5.1.1.2.2.2).bind fun q15 =>
              some ((q15.1.1,rd a q5.1.1.1 (0,0,0,0),true,()),())
             else
              (LP k (IntKind.i64.wrap (q5.1.1.1+1)) q5.1.1.2.1.1 q5.1.1.2.1.2.1 q5.1.1.2.1.2.2.1 q5.1.1.2.1.2.2.2.1 q5.1.1.2.1.2.2.2.2.1 q5.1.1.2.1.2.2.2.2.2.1 q5.1.1.2.1.2.2.2.2.2.2.1 q5.1.1.2.1.2.2.2.2.2.2.2 q5.1.1.2.2.1 q5.1.1.2.2.2).bind fun q16 =>
              some ((q16.1.1,rd a q5.1.1.1 (0,0,0,0),true,()),()))
            else
             (bif (rd a q5.1.1.1 (0,0,0,0)).1==8 then
              ap q5.1.1.2.2.1 ([(IntKind.i64.wrap (q5.1.1.1+1),IntKind.i64.wrap (q5.1.1.1+(rd a q5.1.1.1 (0,0,0,0)).2.2.1),IntKind.i64.wrap ((rd a q5.1.1.1 (0,0,0,0)).2.2.2 - 1))]:List CG) 24 fun r17 =>
              (LP k (IntKind.i64.wrap (q5.1.1.1+1)) q5.1.1.2.1.1 q5.1.1.2.1.2.1 q5.1.1.2.1.2.2.1 q5.1.1.2.1.2.2.2.1 q5.1.1.2.1.2.2.2.2.1 q5.1.1.2.1.2.2.2.2.2.1 q5.1.1.2.1.2.2.2.2.2.2.1 q5.1.1.2.1.2.2.2.2.2.2.2 r17 q5.1.1.2.2.2).bind fun q18 =>
              some ((q18.1.1,rd a q5.1.1.1 (0,0,0,0),true,()),())
             else
              (LP k (IntKind.i64.wrap (q5.1.1.1+1)) q5.1.1.2.1.1 q5.1.1.2.1.2.1 q5.1.1.2.1.2.2.1 q5.1.1.2.1.2.2.2.1 q5.1.1.2.1.2.2.2.2.1 q5.1.1.2.1.2.2.2.2.2.1 q5.1.1.2.1.2.2.2.2.2.2.1 q5.1.1.2.1.2.2.2.2.2.2.2 q5.1.1.2.2.1 q5.1.1.2.2.2).bind fun q19 =>
              some ((q19.1.1,rd a q5.1.1.1 (0,0,0,0),true,()),()))))))))))))))
def F110:Fn:=⟨[.val ⟨false,y9,false⟩,ai2],[aem,ai5,rB],fun k x=>ajx k x.1 x.2.1⟩
theorem ok110:O 110 F110:=okF (ah ok188 <| ah ok195 <| ah ok196 <| ah ok197 <| ah ok198 aj) [] On Tryz.func110 rfl
section
variable (w:World) {g n c i j:Nat}
theorem NS:Tryz.prog.underlying 32=some (.slice 3) /\ Tryz.prog.underlying 3=some (.int .i64) /\ Tryz.prog.underlying 4=some .bool /\ Tryz.prog.follows .mixedOrders=true /\ (∀ w,(Go.sizeOf 3).run Tryz.prog w=.ok 1 w) /\ Tryz.f308.ntmps=33:=⟨by kernel_rfl,by kernel_rfl,by kernel_rfl,by kernel_rfl,fun w=>by kernel_rfl,rfl⟩
theorem Yb {v:Value} (hv:(∃ A n c,v=.slice A n c /\ i <= n /\ n <= c /\ c <= 9223372036854775807)):Calls Tryz.prog 308 #[v,.int .i64 i,.int .i64 i] w fun e w'=>e=.returned v /\ w'=w:=by
 obtain ⟨t24,t3,t4,mixed,z36,hnt⟩:=NS
 have u24:=run_underlying t24;have u3:=run_underlying t3;have u4:=run_underlying t4
 obtain ⟨A,n,c,rfl,hi,hnc,hc63⟩:=hv
 have hi0:(i:Int) <= (n:Int):=by omega
 have hi1:(0:Int) <= (i:Int):=by omega
 cases A <;> (go_enter Tryz.func308,hnt;go_wp2 <;> (go_ret;exact ⟨rfl,rfl⟩))
theorem Yc {w' w'':World} (hlt:i<j) (hj:j <= n) (hnc:n <= c) (hc63:c <= 9223372036854775807)
  (hap:∀ ty A,(c≠j -> A=(⟨g,j * 1,none⟩:Addr)) -> (Builtin.append_ #[32,32] ty #[.slice (some ⟨g,0,none⟩) i c,.slice (some A) (n - j) (c - j)]).run Tryz.prog w.drew=.ok (.slice (some ⟨g,0,none⟩) (i+(n - j)) c) w')
  (hcl:∀ ty dc,(Builtin.clear_ #[32] ty #[.slice (some ⟨g,(i+(n - j)) * 1,none⟩) (n - (i+(n - j))) dc]).run Tryz.prog w'=.ok (.tuple #[]) w'') :
  Calls Tryz.prog 308 #[.slice (some ⟨g,0,none⟩) n c,.int .i64 i,.int .i64 j] w fun e w1=>e=.returned (.slice (some ⟨g,0,none⟩) (i+(n - j)) c) /\ w1=w'':=by
 obtain ⟨t24,t3,t4,mixed,z36,hnt⟩:=NS
 have u24:=run_underlying t24;have u3:=run_underlying t3;have u4:=run_underlying t4
 have hi0:(i:Int) <= (n:Int):=by omega
 have hj0:(j:Int) <= (n:Int):=by omega
 have hij:(i:Int) <= (j:Int):=by omega
 have hne:¬ ((i:Int)=(j:Int)):=by omega
 have hic:i <= c:=by omega
 have hjc:j <= c:=by omega
 have hln:i+(n - j) <= n:=by omega
 have hlc:i+(n - j) <= c:=by omega
 have hci:¬ (c=i+(n - j)):=by omega
 obtain ⟨A,hA,hA'⟩:∃ A:Addr,(if c=j then some (⟨g,0,none⟩:Addr) else some ⟨g,j * 1,none⟩)=some A /\ (c≠j -> A=(⟨g,j * 1,none⟩:Addr)):=by
  by_cases h:c=j
  · exact ⟨_,if_pos h,fun q=>absurd h q⟩
  · exact ⟨_,if_neg h,fun _=>rfl⟩
 try simp only [Nat.mul_one] at hA hcl
 go_enter Tryz.func308,hnt
 go_wp2_with fail
 go_region_law_o (refine Gz rfl rfl _ _ (by simp [Act.eval,Act.put]) (by simp [Act.eval,Act.put,hA]) (hap _ _ hA') ?_)
 go_wp2_with (at_builtin;refine Ji rfl rfl _ rfl (hcl _ _) ?_)
 go_ret
 exact ⟨rfl,rfl⟩
end
abbrev arB:List PT:=iG 3 (.int .i64)
abbrev arC:List RT:=qV 3 (.int .i64)
def ao6 (k:Nat) (a:List Int) (i j:Int):Option G5:=Jk 3 (.int .i64) k (a,i,j,())
def F308:Fn:=⟨arB,arC,Jk 3 (.int .i64)⟩
def arD:Env:=tab.env (fun _=>none) (fun _=>0)
theorem alQ:aH Tryz.prog arD:=Kw Rt _ _ (fun f F h=>by cases h)
theorem ok308:O 308 F308:=by
 obtain ⟨i0,z,a1,a2,a3,a4,a5⟩:=(alQ.ty 3 ((.int .i64)) (by kernel_rfl)).info
 have b2:Ty.sz ((.int .i64))=1:=rfl
 have hz:z.cells.size=1:=by rw [<- Array.length_toList,a5,gZ,b2]
 obtain ⟨t24,t3,t4,mixed,z36,hnt⟩:=NS
 refine Qu Tryz.func308 rfl (by kernel_rfl) ?_
 rw [b2]
 exact Mr (S:=32) (z:=z) t24 a1 a4 (by rw [a2,b2]) hz (fun v hv=>tT ((.int .i64)) v (by rw [<- a5];exact hv)) (by decide) (fun w i v h=>Yb w h) (fun w g n c i j w' w'' h1 h2 h3 h4 h5 h6=>Yc w h1 h2 h3 h4 h5 h6)
abbrev aaQ:Cut:=⟨[4,5,8],[.box 59 [cI,cI,cI,cI,cI,cI,cI,cI,cI,cI,cI,cI,cI,.own 293 y8,.cell .bool,cI,cI,cI,cI,cI,cI,cI,cI,cI,.own 293 y8,.cell .bool,.own 3 (.int .i64),.cell .bool],.box 127 [cI,cI,cI,cI],cI],[],70,[]⟩
def QT (k:Nat) (g13:BS -> Int -> Int -> Int -> Int -> Int -> Option VF) (x:AU) (a b c e f:Int):Option VF :=
 (bif decide (f≥0) then
  ix x.2.2.2.2.2.2.1 f <|
  (bif (rd x.2.2.2.2.2.2.1 f 0)==b then
   (ao6 k x.2.2.2.2.2.2.1 f (IntKind.i64.wrap (f+1))).bind fun q5 =>
   some (((w6 x q5.1.1),(a,b,c,e),true,()),())
  else
   g13 x a b c e (IntKind.i64.wrap (f - 1)))
 else
  some ((x,(a,b,c,e),true,()),()))
def aeY (k:Nat) (g:((Unit)×aiW×VG×Int×Unit) -> Option VF) (d:(Unit)×aiW×VG×Int×Unit):Option VF:=QT k (fun x a b c e f=>g ((),trJ x,(a,b,c,e,()),f,())) (tvJ d.2.1) d.2.2.1.1 d.2.2.1.2.1 d.2.2.1.2.2.1 d.2.2.1.2.2.2.1 d.2.2.2.1
def QV (k a:Nat) (x:AU) (b c e f h:Int):Option VF:=iter aaQ (aeY k) a ((),trJ x,(b,c,e,f,()),h,())
theorem VI (k a x b c e f h):QV k (a+1) x b c e f h=QT k (QV k a) x b c e f h:=Ba _ _ _ _
def alR (k:Nat) (a:aeg) (b:AU):Option VF :=
 (agL k b).bind fun q0 =>
 (alN k a b).bind fun q1 =>
 (ajx k q1.1.1 b.2.2.2.2.1).bind fun q2 =>
 (bif !q2.1.2.2.1 then
  some ((q0.1.1,(0,0,0,0),false,()),())
 else
  (bif q2.1.2.1.1==11 then
   (aaN k q2.1.1).bind fun q3 =>
   some (((w5 (w4 q0.1.1 q2.1.1) q3.1.1),q2.1.2.1,true,()),())
  else
   (bif q2.1.2.1.1==9 then
    ap q0.1.1.2.2.2.2.2.2.1 ([q2.1.2.1.2.1]:List Int) 8 fun r4 =>
    some (((w6 (w4 q0.1.1 q2.1.1) r4),q2.1.2.1,true,()),())
   else
    (bif q2.1.2.1.1==10 then
     QV k k (w4 q0.1.1 q2.1.1) q2.1.2.1.1 q2.1.2.1.2.1 q2.1.2.1.2.2.1 q2.1.2.1.2.2.2 (IntKind.i64.wrap ((q0.1.1.2.2.2.2.2.2.1.length:Int) - 1))
    else
     some (((w4 q0.1.1 q2.1.1),q2.1.2.1,true,()),())))))
def F238:Fn:=⟨[aen,JV],[aaB,ai5,rB],fun k x=>alR k x.1 x.2.1⟩
theorem ok238:O 238 F238:=okF (ah ok110 <| ah ok305 <| ah ok306 <| ah ok307 <| ah ok308 aj) [] (fun k=>(.loop 13 aaQ (aeY k) (fun g=>.nil) .nil)) Tryz.func238 rfl
def alS (k:Nat) (a:ou) (b c:Int):Option ((pz×Bool×Unit)×Unit) :=
 (ajc k a).bind fun q0 =>
 (ajd k a b).bind fun q1 =>
 (bif !q1.1.1 then
  some ((q0.1.1,false,()),())
 else
  ix a b <|
  (bif (rd a b (0,0)).2 != 0 then
   some ((q0.1.1,false,()),())
  else
   ix q0.1.1 b <|
   some ((upd q0.1.1 b ((rd q0.1.1 b (0,0)).1,IntKind.i64.wrap (c+1)),true,()),())))
def F239:Fn:=⟨[G8,au,au],[aek,rB],fun k (a,b,c,_)=>alS k a b c⟩
theorem ok239:O 239 F239:=okF (ah ok292 <| ah ok309 aj) [] On Tryz.func239 rfl
def alT (k:Nat) (a:ou) (b c:Int):Option ((pz×Bool×Unit)×Unit) :=
 (ajc k a).bind fun q0 =>
 (agH k a b c).bind fun q1 =>
 (bif !q1.1.1 then
  some ((q0.1.1,false,()),())
 else
  ix q0.1.1 b <|
  some ((upd q0.1.1 b ((rd q0.1.1 b (0,0)).1,0),true,()),()))
def F240:Fn:=⟨[G8,au,au],[aek,rB],fun k (a,b,c,_)=>alT k a b c⟩
theorem ok240:O 240 F240:=okF (ah ok292 <| ah ok293 aj) [] On Tryz.func240 rfl
def alU (k:Nat) (a:AU):Option ((BS×Unit)×Unit) :=
 (agL k a).bind fun q0 =>
 (V9 k a.2.2.2.2.1.2.1.1).bind fun q1 =>
 (V9 k a.2.2.2.2.1.2.1.1).bind fun q2 =>
 some (((q0.1.1.1,q0.1.1.2.1,q0.1.1.2.2.1,2,q1.1.1,q2.1.1,[],false),()),())
def F310:Fn:=⟨[JV],[aaB],fun k x=>alU k x.1⟩
theorem ok310:O 310 F310:=okF (ah ok109 <| ah ok305 aj) [] On Tryz.func310 rfl
abbrev alV:Cut:=⟨[0,1],[.pin false 0,.pin false 1],[.fK 166 [cI,cI,.own 54 zx,.own 168 wz,.cell .bool,.cell .bool,.cell .bool,.own 59 GD,.own 3 (.int .i64),.own 4 .bool,.own 142 x9,.own 3 (.int .i64),.own 4 .bool,.own 51 uz],.fK 59 [cI,cI,cI,cI,cI,cI,cI,cI,cI,cI,cI,cI,cI,.own 293 y8,.cell .bool,cI,cI,cI,cI,cI,cI,cI,cI,cI,.own 293 y8,.cell .bool,.own 3 (.int .i64),.cell .bool]],95,[]⟩
def NT (k:Nat) (a:qh) (b:AU):Option aaA :=
 (ab4 k a.1.2.2.2.2.2.2.2.2.2 b.1).bind fun q3 =>
 (alU k b).bind fun q4 =>
 ix a.1.2.2.1 q4.1.1.1 <|
 some ((((rd a.1.2.2.1 q4.1.1.1 bg).2.2.2.2.2.length:Int)==0,()),zq ((z9 a.1 q3.1.1),a.2),trJ q4.1.1,())
def alW (k:Nat) (a:qh) (b:AU):Option aaA :=
 (bif b.2.2.2.1==2 then
  (JX k a (0,4,b.1,0,b.2.2.2.2.1.2.1.1,0)).bind fun q0 =>
  some ((true,()),q0.2.1,trJ b,())
 else
  (JX k a (0,3,b.1,0,b.2.2.2.2.1.2.1.1,0)).bind fun q1 =>
  (bif b.2.2.2.1==0 then
   ix (wh q1.2.1).1.2.2.1 b.1 <|
   (bif decide (((rd (wh q1.2.1).1.2.2.1 b.1 bg).2.2.2.2.1.length:Int)>0) then
    (JX k (wh q1.2.1) (0,8,b.1,0,0,0)).bind fun q2 =>
    NT k (wh q2.2.1) b
   else
    NT k (wh q1.2.1) b)
  else
   NT k (wh q1.2.1) b))
def F241:Fn:=⟨[XT,.fK 59 [cI,cI,cI,cI,cI,cI,cI,cI,cI,cI,cI,cI,cI,.own 293 y8,.cell .bool,cI,cI,cI,cI,cI,cI,cI,cI,cI,.own 293 y8,.cell .bool,.own 3 (.int .i64),.cell .bool]],[rB],fun k x=>alW k (wh x.1) (tvJ x.2.1)⟩
theorem ok241:O 241 F241:=okF (ah ok129 <| ah ok146a <| ah ok310 aj) [] (fun k=>(.join 8 alV (fun d=>NT k (wh d.1.1) (tvJ d.1.2.1)) .nil)) Tryz.func241 rfl
abbrev ajy:Cut:=⟨[0,1],[.pin false 0,.pin false 1],[.fK 166 [cI,cI,.own 54 zx,.own 168 wz,.cell .bool,.cell .bool,.cell .bool,.own 59 GD,.own 3 (.int .i64),.own 4 .bool,.own 142 x9,.own 3 (.int .i64),.own 4 .bool,.own 51 uz],.fK 59 [cI,cI,cI,cI,cI,cI,cI,cI,cI,cI,cI,cI,cI,.own 293 y8,.cell .bool,cI,cI,cI,cI,cI,cI,cI,cI,cI,.own 293 y8,.cell .bool,.own 3 (.int .i64),.cell .bool]],92,[]⟩
def IL (k:Nat) (a:qh) (b:AU):Option aaA :=
 (bif b.2.2.2.2.1.2.2.2 then
  (alW k a b).bind fun q7 =>
  some ((q7.1.1,()),q7.2.1,q7.2.2.1,())
 else
  some ((false,()),zq a,trJ b,()))
def alX (k:Nat) (a:qh) (b:AU):Option aaA :=
 ix a.1.2.2.1 b.1 <|
 (alR k (rd a.1.2.2.1 b.1 bg) b).bind fun q0 =>
 (bif !q0.1.2.2.1 then
  some ((false,()),zq a,trJ b,())
 else
  (bif q0.1.2.1.1==9 then
   (S48 k a.1).bind fun q1 =>
   (alS k q1.1.1 q0.1.2.1.2.1 q0.1.1.1).bind fun q2 =>
   (agM k a q2.1.1).bind fun q3 =>
   IL k (wh q3.2.1) q0.1.1
  else
   (bif q0.1.2.1.1==10 then
    (S48 k a.1).bind fun q4 =>
    (alT k q4.1.1 q0.1.2.1.2.1 q0.1.1.1).bind fun q5 =>
    (agM k a q5.1.1).bind fun q6 =>
    IL k (wh q6.2.1) q0.1.1
   else
    IL k a q0.1.1)))
def F151:Fn:=⟨[XT,aqo],[rB],fun k x=>alX k (wh x.1) (tvJ x.2.1)⟩
theorem ok151:O 151 F151:=okF (ah ok48 <| ah ok61b <| ah ok238 <| ah ok239 <| ah ok240 <| ah ok241 aj) [] (fun k=>(.join 12 ajy (fun d=>IL k (wh d.1.1) (tvJ d.1.2.1)) .nil)) Tryz.func151 rfl
def S81 (k:Nat) (a:qh):Option l7 :=
 (S48 k a.1).bind fun q0 =>
 (alJ k a.1.2.2.2.2.2.2.2.1 (a.1.2.2.1.length:Int) q0.1.1).bind fun q1 =>
 (bif a.1.2.2.2.2.2.1 then
  some ((),zq a,())
 else
  (bif !q1.1.2.1 then
   some ((),zq a,())
  else
   ix a.1.2.2.2.2.2.2.2.1 q1.1.1 <|
   (JX k a (0,2,(rd a.1.2.2.2.2.2.2.2.1 q1.1.1 ay).1,0,0,0)).bind fun q2 =>
   (bif (wh q2.2.1).1.2.2.2.2.2.2.1 then
    (alM k (wh q2.2.1) (rd a.1.2.2.2.2.2.2.2.1 q1.1.1 ay)).bind fun q3 =>
    ix (wh q3.2.1).1.2.2.2.2.2.2.2.1 q1.1.1 <|
    (bif q3.1.1 then
     (S72 k (upd (wh q3.2.1).1.2.2.2.2.2.2.2.1 q1.1.1 (tvJ q3.2.2.1)) q1.1.1 (IntKind.i64.wrap (q1.1.1+1))).bind fun q4 =>
     some ((),zq ((w7 (wh q3.2.1).1 q4.1.1),(wh q3.2.1).2),())
    else
     some ((),zq ((w7 (wh q3.2.1).1 (upd (wh q3.2.1).1.2.2.2.2.2.2.2.1 q1.1.1 (tvJ q3.2.2.1))),(wh q3.2.1).2),()))
   else
    (alX k (wh q2.2.1) (rd a.1.2.2.2.2.2.2.2.1 q1.1.1 ay)).bind fun q5 =>
    ix (wh q5.2.1).1.2.2.2.2.2.2.2.1 q1.1.1 <|
    (bif q5.1.1 then
     (S72 k (upd (wh q5.2.1).1.2.2.2.2.2.2.2.1 q1.1.1 (tvJ q5.2.2.1)) q1.1.1 (IntKind.i64.wrap (q1.1.1+1))).bind fun q6 =>
     some ((),zq ((w7 (wh q5.2.1).1 q6.1.1),(wh q5.2.1).2),())
    else
     some ((),zq ((w7 (wh q5.2.1).1 (upd (wh q5.2.1).1.2.2.2.2.2.2.2.1 q1.1.1 (tvJ q5.2.2.1))),(wh q5.2.1).2),())))))
def F81:Fn:=⟨[XT],[],fun k x=>S81 k (wh x.1)⟩
theorem ok81:O 81 F81:=okF (ah ok48 <| ah ok72 <| ah ok146a <| ah ok150 <| ah ok151 <| ah ok152 aj) [] On Tryz.func81 rfl
def S33 (k:Nat) (a:D7):Option ((ET×GY×Unit)×Unit) :=
 (S56 k a).bind fun q0 =>
 (bif q0.1.1.2.2.2.2.1 then
  (bif !q0.1.1.2.2.2.2.2.1 then
   (S78 k (q0.1.1,([]:List (PN Int 6)))).bind fun q1 =>
   (S79 k (wh q1.2.1)).bind fun q2 =>
   (S80 k (wh q2.2.1)).bind fun q3 =>
   (S81 k (wh q3.2.1)).bind fun q4 =>
   some (((w6 (w0 (wh q4.2.1).1 (IntKind.i64.wrap ((wh q4.2.1).1.1+1))) false),(wh q4.2.1).2,()),())
  else
   some (((w6 (w0 q0.1.1 (IntKind.i64.wrap (q0.1.1.1+1))) false),([]:List (PN Int 6)),()),()))
 else
  some (((w6 (w0 q0.1.1 (IntKind.i64.wrap (q0.1.1.1+1))) false),([]:List (PN Int 6)),()),()))
def F33:Fn:=⟨[ai1],[ael,aej],fun k x=>S33 k x.1⟩
theorem ok33:O 33 F33:=okF (ah ok56 <| ah ok78 <| ah ok79 <| ah ok80 <| ah ok81 aj) [(8,2)] On Tryz.func33 rfl
def alY (k:Nat) (a:SN×List CZ) (b:Int):Option (((SN×List CZ)×Bool×Unit)×Unit) :=
 (V8 k a).bind fun q0 =>
 (ab1 k a b).bind fun q1 =>
 (bif !q1.1.1 then
  some ((q0.1.1,false,()),())
 else
  ix q0.1.1.2 b <|
  ix q0.1.1.2 b <|
  some (((q0.1.1.1,upd q0.1.1.2 b (z5 (rd q0.1.1.2 b bf) (Uo .u32 (rd q0.1.1.2 b bf).2.2.2.2.2))),true,()),()))
def F105:Fn:=⟨[ai0,au],[ai4,rB],fun k x=>alY k x.1 x.2.1⟩
theorem ok105:O 105 F105:=okF (ah ok185 <| ah ok186 aj) [] On Tryz.func105 rfl
abbrev aeZ:Cut:=⟨[2,4,6,7,8,65,66],[.box 42 [cI,cI,.cell (.sl 54 zx),.cell (.sl 168 wz),.cell .bool,.cell .bool,.cell .bool,.cell G6,.cell o7,.cell E8,.cell (.sl 142 x9),.cell o7,.cell E8],.box 42 [cI,cI,.nil,.nil,.cell .bool,.cell .bool,.cell .bool,.nil,.nil,.nil,.nil,.nil,.nil],.box 105 [cI,cI,cI,cI],.box 105 [cI,cI,cI,cI],.own 51 uz,cI,cI],[],87,[]⟩
def Yd (k:Nat) (g21:ET -> Int -> Int -> Bool -> Bool -> Bool -> Int -> Int -> Int -> Int -> Int -> Int -> Int -> Int -> GY -> Int -> Int -> Option SK) (a:D7) (b c:Int) (e f h:Bool) (i l m n o p s t:Int) (u:List (PN Int 6)) (v w:Int):Option SK :=
 (bif decide (w<v) then
  (S33 k a).bind fun q8 =>
  ap u q8.1.2.1 48 fun r9 =>
  g21 q8.1.1 b c e f h i l m n o p s t r9 v (IntKind.i64.wrap (w+1))
 else
  (S30 k a (-1) 0).bind fun q10 =>
  some ((q10.1.1,u,(o,(p,s),t),()),()))
def ajz (k:Nat) (g:((Unit)×JO×anU×VG×VG×GY×Int×Int×Unit) -> Option SK) (d:(Unit)×JO×anU×VG×VG×GY×Int×Int×Unit):Option SK:=Yd k (fun a b c e f h i l m n o p s t u v w=>g ((),MR a,(b,c,(),(),e,f,h,(),(),(),(),(),(),()),(i,l,m,n,()),(o,p,s,t,()),u,v,w,())) (Zl d.2.1) d.2.2.1.1 d.2.2.1.2.1 d.2.2.1.2.2.2.2.1 d.2.2.1.2.2.2.2.2.1 d.2.2.1.2.2.2.2.2.2.1 d.2.2.2.1.1 d.2.2.2.1.2.1 d.2.2.2.1.2.2.1 d.2.2.2.1.2.2.2.1 d.2.2.2.2.1.1 d.2.2.2.2.1.2.1 d.2.2.2.2.1.2.2.1 d.2.2.2.2.1.2.2.2.1 d.2.2.2.2.2.1 d.2.2.2.2.2.2.1 d.2.2.2.2.2.2.2.1
def Ye (k a:Nat) (b:D7) (c e:Int) (f h i:Bool) (l m n o p s t u:Int) (v:List (PN Int 6)) (w y:Int):Option SK:=iter aeZ (ajz k) a ((),MR b,(c,e,(),(),f,h,i,(),(),(),(),(),(),()),(l,m,n,o,()),(p,s,t,u,()),v,w,y,())
theorem aaR (k a b c e f h i l m n o p s t u v w y):Ye k (a+1) b c e f h i l m n o p s t u v w y=Yd k (Ye k a) b c e f h i l m n o p s t u v w y:=Ba _ _ _ _
def S45 (k:Nat) (a:D7) (b:Int×(Int×Va×(Int×Int)×Int×Int×Int)×Int×Int):Option SK :=
 (bif b.1==1 then
  (S41 k a b.2.1).bind fun q0 =>
  some (q0.1,())
 else
  (bif b.1==2 then
   (S33 k a).bind fun q1 =>
   some ((q1.1.1,q1.1.2.1,(0,(0,0),0),()),())
  else
   (bif b.1==3 then
    (S30 k (w6 a true) (-1) 0).bind fun q2 =>
    some ((q2.1.1,([]:List (PN Int 6)),(0,(0,0),0),()),())
   else
    (bif b.1==4 then
     (alY k a.2.2.2.2.2.2.2.2.1 b.2.2.1).bind fun q3 =>
     (bif !q3.1.2.1 then
      (S30 k a (-1) 0).bind fun q4 =>
      some ((q4.1.1,([]:List (PN Int 6)),(3,(0,0),0),()),())
     else
      (S30 k (w8 a q3.1.1) (-1) 0).bind fun q5 =>
      some ((q5.1.1,([]:List (PN Int 6)),(0,(0,0),0),()),()))
    else
     (bif b.1==5 then
      (bif decide (b.2.2.2<0) then
       (S30 k a (-1) 0).bind fun q6 =>
       some ((q6.1.1,([]:List (PN Int 6)),(1,(0,0),0),()),())
      else
       (bif decide (b.2.2.2>10000) then
        (S30 k a (-1) 0).bind fun q7 =>
        some ((q7.1.1,([]:List (PN Int 6)),(1,(0,0),0),()),())
       else
        Ye k k a 0 0 false false false 0 0 0 0 0 0 0 0 ([]:List (PN Int 6)) b.2.2.2 0))
     else
      (S30 k a (-1) 0).bind fun V4 =>
      some ((V4.1.1,([]:List (PN Int 6)),(1,(0,0),0),()),()))))))
def F45:Fn:=⟨[ai1,.val ⟨true,JQ,false⟩],[ael,aej,.val ⟨true,aei,true⟩],fun k x=>S45 k x.1 x.2.1⟩
theorem ok45:O 45 F45:=okF (ah ok30 <| ah ok33 <| ah ok41 <| ah ok105 aj) [(8,2)] (fun k=>(.loop 21 aeZ (ajz k) (fun g=>.nil) .nil)) Tryz.func45 rfl
abbrev ajA:Cut:=⟨[4,5,6,21,22,23],[.box 42 [cI,cI,.own 54 zx,.own 168 wz,.cell .bool,.cell .bool,.cell .bool,.own 59 GD,.own 3 (.int .i64),.own 4 .bool,.own 142 x9,.own 3 (.int .i64),.own 4 .bool],.own 51 uz,.own 105 aei,.cell (.sl 100 JQ),cI,cI],[],46,[]⟩
def ae0 (k:Nat) (g5:ET -> GY -> (List JU) -> (List yu) -> Int -> Int -> Option (VE×Unit)) (a:D7) (b:List (PN Int 6)) (c:List JU) (e:List yu) (f h:Int):Option (VE×Unit) :=
 (bif decide (h<f) then
  ix e h <|
  (S45 k a (rd e h bq)).bind fun q1 =>
  ap b q1.1.2.1 48 fun r2 =>
  ap c ([q1.1.2.2.1]:List JU) 32 fun r3 =>
  g5 q1.1.1 r2 r3 e f (IntKind.i64.wrap (h+1))
 else
  some ((a,b,c,true,()),()))
def an2 (k:Nat) (g:((Unit)×JO×GY×(List JU)×(List yu)×Int×Int×Unit) -> Option (VE×Unit)) (d:(Unit)×JO×GY×(List JU)×(List yu)×Int×Int×Unit):Option (VE×Unit):=ae0 k (fun a b c e f h=>g ((),MR a,b,c,e,f,h,())) (Zl d.2.1) d.2.2.1 d.2.2.2.1 d.2.2.2.2.1 d.2.2.2.2.2.1 d.2.2.2.2.2.2.1
def ae1 (k a:Nat) (b:D7) (c:List (PN Int 6)) (e:List JU) (f:List yu) (h i:Int):Option (VE×Unit):=iter ajA (an2 k) a ((),MR b,c,e,f,h,i,())
theorem ae2 (k a b c e f h i):ae1 k (a+1) b c e f h i=ae0 k (ae1 k a) b c e f h i:=Ba _ _ _ _
def S19 (k:Nat) (a:Int) (b:List yu):Option (VE×Unit) :=
 (S36 k a).bind fun q0 =>
 (bif !q0.1.2.1 then
  some (((0,0,[],[],false,false,false,[],(([],[]),[]),[],[]),([]:List (PN Int 6)),([]:List JU),false,()),())
 else
  ae1 k k q0.1.1 ([]:List (PN Int 6)) ([]:List JU) b (b.length:Int) 0)
def F19:Fn:=⟨[au,.val ⟨false,(.sl 100 JQ),false⟩],[ael,aej,.val ⟨false,(.sl 105 aei),true⟩,rB],fun k x=>S19 k x.1 x.2.1⟩
theorem ok19:O 19 F19:=okF (ah ok36 <| ah ok45 aj) [(5,2),(6,2)] (fun k=>(.loop 5 ajA (an2 k) (fun g=>.nil) .nil)) Tryz.func19 rfl
def S15 (k:Nat):Option qz :=
 (Q8 k (1,(1,20,20,([(0,0,0,0)]:List nk),[],[]),(0,0),0,0,0)).bind fun q0 =>
 (Q8 k (5,bg,(0,0),0,0,0)).bind fun q1 =>
 (Q8 k (6,bg,(0,0),0,7,0)).bind fun q2 =>
 (S19 k 30 ([q0.1.1,q1.1.1,q2.1.1,(2,bn,0,0)]:List yu)).bind fun q3 =>
 (bif q3.1.2.2.2.1 then
  (bif q3.1.1.1==1 then
   (bif (q3.1.2.1.length:Int)==3 then
    ix q3.1.2.1 2 <|
    (bif (rd q3.1.2.1 2 (Qn (α:=Int) 6 0)).2.1==3 then
     ix q3.1.2.1 2 <|
     (bif (rd q3.1.2.1 2 (Qn (α:=Int) 6 0)).2.2.2.2.1==7 then
      (bif (q3.1.2.2.1.length:Int)==4 then
       ix q3.1.2.2.1 0 <|
       some (((rd q3.1.2.2.1 0 (0,(0,0),0)).1==0,()),())
      else
       some ((false,()),()))
     else
      some ((false,()),()))
    else
     some ((false,()),()))
   else
    some ((false,()),()))
  else
   some ((false,()),()))
 else
  some ((false,()),()))
def F15:Fn:=⟨[],[rB],fun k x=>S15 k ⟩
theorem ok15:O 15 F15:=okF (ah ok19 <| ah ok40 aj) [] On Tryz.func15 rfl
def S16 (k:Nat) (a:List Int):Option ((DZ×Unit)×Unit) :=
 some (((a,0,()),()),())
def F16:Fn:=⟨[aiZ],[.pv (.box 129 [.cell E5,cI])],fun k x=>S16 k x.1⟩
theorem ok16:O 16 F16:=okF aj [] On Tryz.func16 rfl
def AX (k:Nat) (a:List Int) (b c:Int):Option ((Int×Unit)×DZ×Unit) :=
 (bif decide (b≥(a.length:Int)) then
  some ((0,()),(a,b,()),())
 else
  ix a (IntKind.i64.wrap ((IntKind.i64.wrap (b+1)) - 1)) <|
  nz c <|
  some ((Int.tmod (IntKind.i64.wrap (rd a (IntKind.i64.wrap ((IntKind.i64.wrap (b+1)) - 1)) 0)) c,()),(a,IntKind.i64.wrap (b+1),()),()))
def F29:Fn:=⟨[PE,au],[rI],fun k ((a,b,_),c,_)=>AX k a b c⟩
theorem ok29:O 29 F29:=okF aj [] On Tryz.func29 rfl
def agN (k:Nat) (a:List Int) (b:Int):Option ((nk×Unit)×DZ×Unit) :=
 (AX k a b 3).bind fun q0 =>
 (AX k q0.2.1.1 q0.2.1.2.1 3).bind fun q1 =>
 (AX k q1.2.1.1 q1.2.1.2.1 6).bind fun q2 =>
 (bif q2.1.1==0 then
  (AX k q2.2.1.1 q2.2.1.2.1 9).bind fun q3 =>
  some (((1,q0.1.1,0,IntKind.i64.wrap (q3.1.1 - 4)),()),q3.2.1,())
 else
  (bif q2.1.1==1 then
   some (((2,q0.1.1,q1.1.1,0),()),q2.2.1,())
  else
   (bif q2.1.1==2 then
    some (((3,q0.1.1,q1.1.1,0),()),q2.2.1,())
   else
    (bif q2.1.1==3 then
     some (((4,q0.1.1,q1.1.1,0),()),q2.2.1,())
    else
     (bif q2.1.1==4 then
      (AX k q2.2.1.1 q2.2.1.2.1 7).bind fun q4 =>
      some (((5,q0.1.1,0,IntKind.i64.wrap (q4.1.1 - 3)),()),q4.2.1,())
     else
      (AX k q2.2.1.1 q2.2.1.2.1 64).bind fun q5 =>
      some (((6,q0.1.1,0,IntKind.i64.wrap (1+q5.1.1)),()),q5.2.1,()))))))
def F281:Fn:=⟨[PE],[ai5],fun k x=>agN k x.1.1 x.1.2.1⟩
theorem ok281:O 281 F281:=okF (ah ok29 aj) [] On Tryz.func281 rfl
abbrev ae3:Cut:=⟨[0,2,7,8],[.pin false 0,cI,.own 127 P8,cI],[.fK 129 [.cell E5,cI]],47,[]⟩
def Yf (k:Nat) (g3:aef) (a:List Int) (b c:Int) (e:List nk) (f:Int):Option JR :=
 (bif decide (f>0) then
  (bif decide (c>0) then
   (AX k a b 4).bind fun q1 =>
   (bif q1.1.1==0 then
    (AX k q1.2.1.1 q1.2.1.2.1 c).bind fun q2 =>
    ap e ([(9,q2.1.1,0,0)]:List nk) 32 fun r3 =>
    (agN k q2.2.1.1 q2.2.1.2.1).bind fun q4 =>
    ap r3 ([q4.1.1]:List nk) 32 fun r5 =>
    ap r5 ([(10,q2.1.1,0,0)]:List nk) 32 fun r6 =>
    g3 q4.2.1.1 q4.2.1.2.1 c r6 (IntKind.i64.wrap (f - 1))
   else
    (agN k q1.2.1.1 q1.2.1.2.1).bind fun q7 =>
    ap e ([q7.1.1]:List nk) 32 fun r8 =>
    g3 q7.2.1.1 q7.2.1.2.1 c r8 (IntKind.i64.wrap (f - 1)))
  else
   (agN k a b).bind fun q9 =>
   ap e ([q9.1.1]:List nk) 32 fun r10 =>
   g3 q9.2.1.1 q9.2.1.2.1 c r10 (IntKind.i64.wrap (f - 1)))
 else
  some ((e,()),(a,b,()),()))
def ajB (k:Nat):Xx (((DZ×Unit)×Unit×Int×(List nk)×Int×Unit) -> Option JR):=eu (d9 (d9 (dh (dh dx)) dx) (dw (dh (dh (dh dx))))) (Yf k)
def Yg (k a:Nat) (b:List Int) (c e:Int) (f:List nk) (h:Int):Option JR:=iter ae3 (ajB k) a (((b,c,()),()),(),e,f,h,())
theorem aaS (k a b c e f h):Yg k (a+1) b c e f h=Yf k (Yg k a) b c e f h:=Ba _ _ _ _
def agO (k:Nat) (a:List Int) (b c e:Int):Option JR :=
 (AX k a b c).bind fun q0 =>
 Yg k k q0.2.1.1 q0.2.1.2.1 e ([]:List nk) (IntKind.i64.wrap (q0.1.1+1))
def F210:Fn:=⟨[PE,au,au],[ai3],fun k ((a,b,_),c,e,_)=>agO k a b c e⟩
theorem ok210:O 210 F210:=okF (ah ok29 <| ah ok281 aj) [(7,2)] (fun k=>(.loop 3 ae3 (ajB k) (fun g=>.nil) .nil)) Tryz.func210 rfl
abbrev ajC:Cut:=⟨[0,1,5,6,7],[.pin false 0,cI,.own 127 P8,cI,.own 127 P8],[.fK 129 [.cell E5,cI]],66,[]⟩
def EU (k:Nat) (g3:aef) (a:List Int) (b c:Int) (e:List nk) (f:Int) (x:List nk):Option JR :=
 (bif decide ((IntKind.i64.wrap ((e.length:Int)+(x.length:Int)))<23) then
  ap e x 32 fun r9 =>
  g3 a b c r9 (IntKind.i64.wrap (f - 1))
 else
  g3 a b c e (IntKind.i64.wrap (f - 1)))
abbrev ae4:Cut:=⟨[0,1,5,6],[.pin false 0,cI,.own 127 P8,cI],[.fK 129 [.cell E5,cI]],66,[]⟩
def Yh (k:Nat) (g3:aef) (a:List Int) (b c:Int) (e:List nk) (f:Int):Option JR :=
 (bif decide (f>0) then
  (AX k a b 5).bind fun q1 =>
  (bif q1.1.1==0 then
   (agO k q1.2.1.1 q1.2.1.2.1 2 c).bind fun q2 =>
   (AX k q2.2.1.1 q2.2.1.2.1 3).bind fun q3 =>
   ap ([(8,0,(q2.1.1.length:Int),IntKind.i64.wrap (1+q3.1.1))]:List nk) q2.1.1 32 fun r4 =>
   EU k g3 q3.2.1.1 q3.2.1.2.1 c e f r4
  else
   (bif q1.1.1==1 then
    (agO k q1.2.1.1 q1.2.1.2.1 2 c).bind fun q5 =>
    (AX k q5.2.1.1 q5.2.1.2.1 3).bind fun q6 =>
    ap ([(7,q6.1.1,0,(q5.1.1.length:Int))]:List nk) q5.1.1 32 fun r7 =>
    EU k g3 q6.2.1.1 q6.2.1.2.1 c e f r7
   else
    (bif q1.1.1==2 then
     EU k g3 q1.2.1.1 q1.2.1.2.1 c e f ([(11,0,0,0)]:List nk)
    else
     (agO k q1.2.1.1 q1.2.1.2.1 2 c).bind fun q8 =>
     EU k g3 q8.2.1.1 q8.2.1.2.1 c e f q8.1.1)))
 else
  ap e ([(0,0,0,0)]:List nk) 32 fun r10 =>
  some ((r10,()),(a,b,()),()))
def ajD (k:Nat):Xx (((DZ×Unit)×Unit×Int×(List nk)×Int×Unit) -> Option JR):=eu (d9 (d9 (dh (dh dx)) dx) (dw (dh (dh (dh dx))))) (Yh k)
def GZ (k a:Nat) (b:List Int) (c e:Int) (f:List nk) (h:Int):Option JR:=iter ae4 (ajD k) a (((b,c,()),()),(),e,f,h,())
theorem aaT (k a b c e f h):GZ k (a+1) b c e f h=Yh k (GZ k a) b c e f h:=Ba _ _ _ _
def ajE (k:Nat) (a:List Int) (b c:Int):Option JR :=
 (AX k a b 4).bind fun q0 =>
 GZ k k q0.2.1.1 q0.2.1.2.1 c ([]:List nk) (IntKind.i64.wrap (q0.1.1+1))
def F120:Fn:=⟨[PE,au],[ai3],fun k ((a,b,_),c,_)=>ajE k a b c⟩
theorem ok120:O 120 F120:=okF (ah ok29 <| ah ok210 aj) [(5,2)] (fun k=>(.loop 3 ae4 (ajD k) (fun g=>(fun (g3:aef)=>(.join 16 ajC (fun (((a,b,_),_),_,c,e,f,h,_)=>EU k g3 a b c e f h) .nil)) (fun p2 p3 EW l_ i=>g (((p2,p3,()),()),(),EW,l_,i,()))) .nil)) Tryz.func120 rfl
abbrev ao8:Cut:=⟨[0,6,7],[.pin false 0,.box 54 [cI,cI,cI,.nil,.nil,.nil],.box 54 [cI,cI,cI,.own 127 P8,.cell y9,.own 127 P8]],[.fK 129 [.cell E5,cI]],41,[]⟩
def aaU (k:Nat) (a:List Int) (b c e f h i l:Int) (m n o:List nk):Option ((Va×Unit)×DZ×Unit) :=
 (AX k a b 3).bind fun q5 =>
 (bif q5.1.1==0 then
  (ajE k q5.2.1.1 q5.2.1.2.1 0).bind fun q6 =>
  some (((h,i,l,m,n,q6.1.1),()),q6.2.1,())
 else
  some (((h,i,l,m,n,o),()),q5.2.1,()))
def S53 (k:Nat) (a:List Int) (b c e:Int):Option ((Va×Unit)×DZ×Unit) :=
 (ajE k a b e).bind fun q0 =>
 (AX k q0.2.1.1 q0.2.1.2.1 12).bind fun q1 =>
 (AX k q1.2.1.1 q1.2.1.2.1 10).bind fun q2 =>
 (AX k q2.2.1.1 q2.2.1.2.1 3).bind fun q3 =>
 (bif q3.1.1==0 then
  (AX k q3.2.1.1 q3.2.1.2.1 2).bind fun q4 =>
  sx ([(1,0,0,99),(0,0,0,0)]:List nk) q4.1.1 (([(1,0,0,99),(0,0,0,0)]:List nk).length:Int) <|
  aaU k q4.2.1.1 q4.2.1.2.1 0 0 0 c (IntKind.i64.wrap (20+(IntKind.i64.wrap (10 * q1.1.1)))) (IntKind.i64.wrap ((IntKind.i64.wrap (20+(IntKind.i64.wrap (10 * q1.1.1)))) - q2.1.1)) q0.1.1 (sub ([(1,0,0,99),(0,0,0,0)]:List nk) q4.1.1 (([(1,0,0,99),(0,0,0,0)]:List nk).length:Int)) ([]:List nk)
 else
  aaU k q3.2.1.1 q3.2.1.2.1 0 0 0 c (IntKind.i64.wrap (20+(IntKind.i64.wrap (10 * q1.1.1)))) (IntKind.i64.wrap ((IntKind.i64.wrap (20+(IntKind.i64.wrap (10 * q1.1.1)))) - q2.1.1)) q0.1.1 ([]:List nk) ([]:List nk))
def F53:Fn:=⟨[PE,au,au],[.val ⟨true,zx,false⟩],fun k ((a,b,_),c,e,_)=>S53 k a b c e⟩
theorem ok53:O 53 F53:=okF (ah ok29 <| ah ok120 aj) [(12,2)] (fun k=>(.join 6 ao8 (fun (((a,b,_),_),_,(c,e,f,_),(h,i,l,m,n,o,_),_)=>aaU k a b c e f h i l m n o) .nil)) Tryz.func53 rfl
abbrev alZ:Cut:=⟨[3],[.own 100 JQ],[.fK 129 [.cell E5,cI]],60,[]⟩
def Yi (k:Nat) (a:List Int) (b:Int) (c:List yu):Option BQ :=
 (Q8 k (5,bg,(0,0),0,0,0)).bind fun q14 =>
 ap c ([q14.1.1]:List yu) 168 fun r15 =>
 some ((r15,()),(a,b,()),())
abbrev al1:Cut:=⟨[0,3],[.pin false 0,.own 100 JQ],[.fK 129 [.cell E5,cI]],60,[]⟩
def TH (k:Nat) (a:List Int) (b:Int) (c:List yu):Option BQ :=
 (AX k a b 3).bind fun V4 =>
 (bif V4.1.1==0 then
  (Q8 k (4,bg,(0,0),0,0,0)).bind fun q12 =>
  ap c ([q12.1.1]:List yu) 168 fun r13 =>
  Yi k V4.2.1.1 V4.2.1.2.1 r13
 else
  Yi k V4.2.1.1 V4.2.1.2.1 c)
abbrev ajF:Cut:=⟨[0,3,4,6],[.pin false 0,.own 100 JQ,cI,cI],[.fK 129 [.cell E5,cI]],60,[]⟩
def ae5 (k:Nat) (g8:(List Int) -> Int -> (List yu) -> Int -> Int -> Option BQ) (a:List Int) (b:Int) (c:List yu) (e f:Int):Option BQ :=
 (bif decide (f>0) then
  (AX k a b 3).bind fun q4 =>
  (S53 k q4.2.1.1 q4.2.1.2.1 (IntKind.i64.wrap ((IntKind.i64.wrap (3 * f))+q4.1.1)) e).bind fun q5 =>
  (Q8 k (1,q5.1.1,(0,0),0,0,0)).bind fun q6 =>
  ap c ([q6.1.1]:List yu) 168 fun r7 =>
  g8 q5.2.1.1 q5.2.1.2.1 r7 e (IntKind.i64.wrap (f - 1))
 else
  (AX k a b 3).bind fun q8 =>
  (bif q8.1.1==0 then
   (Q8 k (3,bg,(0,0),0,0,0)).bind fun q9 =>
   ap c ([q9.1.1]:List yu) 168 fun r10 =>
   TH k q8.2.1.1 q8.2.1.2.1 r10
  else
   TH k q8.2.1.1 q8.2.1.2.1 c))
def an3 (k:Nat):Xx (((DZ×Unit)×Unit×(List yu)×Int×Int×Unit) -> Option BQ):=eu (d9 (d9 (dh (dh dx)) dx) (dw (dh (dh (dh dx))))) (ae5 k)
def aaV (k a:Nat) (b:List Int) (c:Int) (e:List yu) (f h:Int):Option BQ:=iter ajF (an3 k) a (((b,c,()),()),(),e,f,h,())
theorem ae6 (k a b c e f h):aaV k (a+1) b c e f h=ae5 k (aaV k a) b c e f h:=Ba _ _ _ _
abbrev ajG:Cut:=⟨[0,3,4,5],[.pin false 0,.own 100 JQ,cI,cI],[.fK 129 [.cell E5,cI]],60,[]⟩
def ae7 (k:Nat) (g4:(List Int) -> Int -> (List yu) -> Int -> Int -> Option BQ) (a:List Int) (b:Int) (c:List yu) (e f:Int):Option BQ :=
 (bif decide (f<e) then
  (Q8 k (2,bg,(0,0),0,0,0)).bind fun q1 =>
  ap c ([q1.1.1]:List yu) 168 fun r2 =>
  g4 a b r2 e (IntKind.i64.wrap (f+1))
 else
  (AX k a b 4).bind fun q3 =>
  aaV k k q3.2.1.1 q3.2.1.2.1 c e (IntKind.i64.wrap (q3.1.1+1)))
def an4 (k:Nat):Xx (((DZ×Unit)×Unit×(List yu)×Int×Int×Unit) -> Option BQ):=eu (d9 (d9 (dh (dh dx)) dx) (dw (dh (dh (dh dx))))) (ae7 k)
def ae8 (k a:Nat) (b:List Int) (c:Int) (e:List yu) (f h:Int):Option BQ:=iter ajG (an4 k) a (((b,c,()),()),(),e,f,h,())
theorem ae9 (k a b c e f h):ae8 k (a+1) b c e f h=ae7 k (ae8 k a) b c e f h:=Ba _ _ _ _
def S17 (k:Nat) (a:List Int) (b:Int):Option BQ :=
 (AX k a b 4).bind fun q0 =>
 ae8 k k q0.2.1.1 q0.2.1.2.1 ([]:List yu) q0.1.1 0
def F17:Fn:=⟨[PE],[aqu],fun k x=>S17 k x.1.1 x.1.2.1⟩
theorem ok17:O 17 F17:=okF (ah ok29 <| ah ok40 <| ah ok53 aj) [(3,2)] (fun k=>(.join 15 alZ (fun (((a,b,_),_),c,_)=>Yi k a b c) (.join 13 al1 (fun (((a,b,_),_),_,c,_)=>TH k a b c) (.loop 8 ajF (an3 k) (fun g=>.nil) (.loop 4 ajG (an4 k) (fun g=>.nil) .nil))))) Tryz.func17 rfl
def S28 (k:Nat) (a:(List Int)×Int):Option qz :=
 some ((decide (a.2≥(a.1.length:Int)),()),())
def F28:Fn:=⟨[.pv (.ref (.pair E5 (.int .i64)))],[rB],fun k x=>S28 k x.1⟩
theorem ok28:O 28 F28:=okF aj [] On Tryz.func28 rfl
def S38 (k:Nat) (a:List Int) (b:Int):Option ((yu×Unit)×DZ×Unit) :=
 (AX k a b 8).bind fun q0 =>
 (AX k q0.2.1.1 q0.2.1.2.1 5).bind fun q1 =>
 (AX k q1.2.1.1 q1.2.1.2.1 24).bind fun q2 =>
 (bif q2.1.1==0 then
  (AX k q2.2.1.1 q2.2.1.2.1 6).bind fun q3 =>
  (AX k q3.2.1.1 q3.2.1.2.1 9).bind fun q4 =>
  (Q8 k (6,bg,(0,0),q3.1.1,IntKind.i64.wrap (q4.1.1 - 4),0)).bind fun q5 =>
  some ((q5.1.1,()),q4.2.1,())
 else
  (bif q2.1.1==1 then
   (AX k q2.2.1.1 q2.2.1.2.1 6).bind fun q6 =>
   (AX k q6.2.1.1 q6.2.1.2.1 9).bind fun q7 =>
   (Q8 k (6,bg,(0,0),q6.1.1,IntKind.i64.wrap (q7.1.1 - 4),0)).bind fun q8 =>
   some ((q8.1.1,()),q7.2.1,())
  else
   (bif q2.1.1==2 then
    (AX k q2.2.1.1 q2.2.1.2.1 6).bind fun q9 =>
    (AX k q9.2.1.1 q9.2.1.2.1 9).bind fun q10 =>
    (Q8 k (6,bg,(0,0),q9.1.1,IntKind.i64.wrap (q10.1.1 - 4),0)).bind fun V4 =>
    some ((V4.1.1,()),q10.2.1,())
   else
    (bif q2.1.1==3 then
     (AX k q2.2.1.1 q2.2.1.2.1 6).bind fun q12 =>
     (AX k q12.2.1.1 q12.2.1.2.1 9).bind fun q13 =>
     (Q8 k (6,bg,(0,0),q12.1.1,IntKind.i64.wrap (q13.1.1 - 4),0)).bind fun q14 =>
     some ((q14.1.1,()),q13.2.1,())
    else
     (bif q2.1.1==4 then
      (AX k q2.2.1.1 q2.2.1.2.1 6).bind fun q15 =>
      (AX k q15.2.1.1 q15.2.1.2.1 9).bind fun q16 =>
      (Q8 k (6,bg,(0,0),q15.1.1,IntKind.i64.wrap (q16.1.1 - 4),0)).bind fun q17 =>
      some ((q17.1.1,()),q16.2.1,())
     else
      (bif q2.1.1==5 then
       some (((3,bn,0,0),()),q2.2.1,())
      else
       (bif q2.1.1==6 then
        (AX k q2.2.1.1 q2.2.1.2.1 9).bind fun q18 =>
        some (((4,bn,q18.1.1,0),()),q18.2.1,())
       else
        (bif q2.1.1==7 then
         (AX k q2.2.1.1 q2.2.1.2.1 99).bind fun q19 =>
         (Q8 k (7,bg,(q0.1.1,IntKind.i64.wrap (1+(IntKind.i64.wrap (Int.tdiv q1.1.1 4)))),0,q19.1.1,0)).bind fun q20 =>
         some ((q20.1.1,()),q19.2.1,())
        else
         (bif q2.1.1==8 then
          (AX k q2.2.1.1 q2.2.1.2.1 4).bind fun q21 =>
          (Q8 k (8,bg,(q0.1.1,IntKind.i64.wrap (1+(IntKind.i64.wrap (Int.tdiv q1.1.1 4)))),q21.1.1,0,0)).bind fun q22 =>
          some ((q22.1.1,()),q21.2.1,())
         else
          (bif q2.1.1==9 then
           (AX k q2.2.1.1 q2.2.1.2.1 16).bind fun q23 =>
           (Q8 k (9,bg,(q0.1.1,IntKind.i64.wrap (1+(IntKind.i64.wrap (Int.tdiv q1.1.1 4)))),0,0,IntKind.u32.wrap q23.1.1)).bind fun q24 =>
           some ((q24.1.1,()),q23.2.1,())
          else
           (bif q2.1.1==10 then
            (AX k q2.2.1.1 q2.2.1.2.1 4).bind fun q25 =>
            (AX k q25.2.1.1 q25.2.1.2.1 16).bind fun q26 =>
            (Q8 k (10,bg,(q0.1.1,IntKind.i64.wrap (1+(IntKind.i64.wrap (Int.tdiv q1.1.1 4)))),q25.1.1,0,IntKind.u32.wrap q26.1.1)).bind fun q27 =>
            some ((q27.1.1,()),q26.2.1,())
           else
            (bif q2.1.1==11 then
             (AX k q2.2.1.1 q2.2.1.2.1 12).bind fun q28 =>
             (AX k q28.2.1.1 q28.2.1.2.1 6).bind fun q29 =>
             (AX k q29.2.1.1 q29.2.1.2.1 9).bind fun q30 =>
             (S53 k q30.2.1.1 q30.2.1.2.1 q30.1.1 2).bind fun q31 =>
             (Q8 k (IntKind.i64.wrap (1+q28.1.1),q31.1.1,(q0.1.1,IntKind.i64.wrap (1+(IntKind.i64.wrap (Int.tdiv q1.1.1 4)))),q29.1.1,0,0)).bind fun q32 =>
             some ((q32.1.1,()),q31.2.1,())
            else
             (bif q2.1.1==12 then
              (AX k q2.2.1.1 q2.2.1.2.1 30).bind fun q33 =>
              some (((5,bn,0,IntKind.i64.wrap (1+q33.1.1)),()),q33.2.1,())
             else
              (bif q2.1.1==13 then
               (AX k q2.2.1.1 q2.2.1.2.1 30).bind fun q34 =>
               some (((5,bn,0,IntKind.i64.wrap (1+q34.1.1)),()),q34.2.1,())
              else
               some (((2,bn,0,0),()),q2.2.1,())))))))))))))))
def F38:Fn:=⟨[PE],[.val ⟨true,JQ,false⟩],fun k x=>S38 k x.1.1 x.1.2.1⟩
theorem ok38:O 38 F38:=okF (ah ok29 <| ah ok40 <| ah ok53 aj) [] On Tryz.func38 rfl
abbrev ajH:Cut:=⟨[0,1,5,6],[.pin false 0,cI,.own 100 JQ,cI],[.fK 129 [.cell E5,cI]],25,[]⟩
def afa (k:Nat) (g3:(List Int) -> Int -> Int -> (List yu) -> Int -> Option BQ) (a:List Int) (b c:Int) (e:List yu) (f:Int):Option BQ :=
 (bif decide (f<c) then
  (S28 k (a,b)).bind fun q1 =>
  (bif !q1.1.1 then
   (S38 k a b).bind fun q2 =>
   ap e ([q2.1.1]:List yu) 168 fun r3 =>
   g3 q2.2.1.1 q2.2.1.2.1 c r3 (IntKind.i64.wrap (f+1))
  else
   some ((e,()),(a,b,()),()))
 else
  some ((e,()),(a,b,()),()))
def an5 (k:Nat):Xx (((DZ×Unit)×Unit×Int×(List yu)×Int×Unit) -> Option BQ):=eu (d9 (d9 (dh (dh dx)) dx) (dw (dh (dh (dh dx))))) (afa k)
def afb (k a:Nat) (b:List Int) (c e:Int) (f:List yu) (h:Int):Option BQ:=iter ajH (an5 k) a (((b,c,()),()),(),e,f,h,())
theorem afc (k a b c e f h):afb k (a+1) b c e f h=afa k (afb k a) b c e f h:=Ba _ _ _ _
def S18 (k:Nat) (a:List Int) (b c:Int):Option BQ :=
 (S17 k a b).bind fun q0 =>
 afb k k q0.2.1.1 q0.2.1.2.1 c q0.1.1 0
def F18:Fn:=⟨[PE,au],[aqu],fun k ((a,b,_),c,_)=>S18 k a b c⟩
theorem ok18:O 18 F18:=okF (ah ok17 <| ah ok28 <| ah ok38 aj) [] (fun k=>(.loop 3 ajH (an5 k) (fun g=>.nil) .nil)) Tryz.func18 rfl
abbrev apa:Cut:=⟨[6,7,10,11,12,13],[.box 42 [cI,cI,.own 54 zx,.own 168 wz,.cell .bool,.cell .bool,.cell .bool,.own 59 GD,.own 3 (.int .i64),.own 4 .bool,.own 142 x9,.own 3 (.int .i64),.own 4 .bool],.own 51 uz,.box 47 [cI,cI,cI,cI,cI,cI,cI,cI],.box 48 [.cell .bool,.cell .bool,.cell .bool,.cell .bool,.cell .bool,.cell .bool,.cell .bool,.cell .bool],cI,.box 51 [cI,cI,cI,cI,cI,cI]],[],221,[]⟩
def aaW (k:Nat) (g12:aiX) (a:D7) (b:List (PN Int 6)) (c e f h i l m n:Int) (o p s t u v w y:Bool) (z A B C D G H:Int):Option qz :=
 (bif B==1 then
  ax 8 C <|
  (bif Uq (α:=Bool) 8 (o,p,s,t,u,v,w,y) C false then
   some ((false,()),())
  else
   ax 8 C <|
   ax 8 C <|
   g12 a b (Ur (α:=Int) 8 (c,e,f,h,i,l,m,n) C A).1 (Ur (α:=Int) 8 (c,e,f,h,i,l,m,n) C A).2.1 (Ur (α:=Int) 8 (c,e,f,h,i,l,m,n) C A).2.2.1 (Ur (α:=Int) 8 (c,e,f,h,i,l,m,n) C A).2.2.2.1 (Ur (α:=Int) 8 (c,e,f,h,i,l,m,n) C A).2.2.2.2.1 (Ur (α:=Int) 8 (c,e,f,h,i,l,m,n) C A).2.2.2.2.2.1 (Ur (α:=Int) 8 (c,e,f,h,i,l,m,n) C A).2.2.2.2.2.2.1 (Ur (α:=Int) 8 (c,e,f,h,i,l,m,n) C A).2.2.2.2.2.2.2 (Ur (α:=Bool) 8 (o,p,s,t,u,v,w,y) C true).1 (Ur (α:=Bool) 8 (o,p,s,t,u,v,w,y) C true).2.1 (Ur (α:=Bool) 8 (o,p,s,t,u,v,w,y) C true).2.2.1 (Ur (α:=Bool) 8 (o,p,s,t,u,v,w,y) C true).2.2.2.1 (Ur (α:=Bool) 8 (o,p,s,t,u,v,w,y) C true).2.2.2.2.1 (Ur (α:=Bool) 8 (o,p,s,t,u,v,w,y) C true).2.2.2.2.2.1 (Ur (α:=Bool) 8 (o,p,s,t,u,v,w,y) C true).2.2.2.2.2.2.1 (Ur (α:=Bool) 8 (o,p,s,t,u,v,w,y) C true).2.2.2.2.2.2.2 (IntKind.i64.wrap (z+1)))
 else
  (bif B==3 then
   ax 8 C <|
   (bif !(Uq (α:=Bool) 8 (o,p,s,t,u,v,w,y) C false) then
    some ((false,()),())
   else
    (bif decide (C≥(a.2.2.1.length:Int)) then
     some ((false,()),())
    else
     ax 8 C <|
     ix a.2.2.1 C <|
     (bif decide (A≥(IntKind.i64.wrap ((Uq (α:=Int) 8 (c,e,f,h,i,l,m,n) C 0)+(rd a.2.2.1 C bg).2.2.1))) then
      some ((false,()),())
     else
      ax 8 C <|
      g12 a b c e f h i l m n (Ur (α:=Bool) 8 (o,p,s,t,u,v,w,y) C false).1 (Ur (α:=Bool) 8 (o,p,s,t,u,v,w,y) C false).2.1 (Ur (α:=Bool) 8 (o,p,s,t,u,v,w,y) C false).2.2.1 (Ur (α:=Bool) 8 (o,p,s,t,u,v,w,y) C false).2.2.2.1 (Ur (α:=Bool) 8 (o,p,s,t,u,v,w,y) C false).2.2.2.2.1 (Ur (α:=Bool) 8 (o,p,s,t,u,v,w,y) C false).2.2.2.2.2.1 (Ur (α:=Bool) 8 (o,p,s,t,u,v,w,y) C false).2.2.2.2.2.2.1 (Ur (α:=Bool) 8 (o,p,s,t,u,v,w,y) C false).2.2.2.2.2.2.2 (IntKind.i64.wrap (z+1)))))
  else
   (bif B==5 then
    ax 8 C <|
    (bif !(Uq (α:=Bool) 8 (o,p,s,t,u,v,w,y) C false) then
     some ((false,()),())
    else
     (bif decide (C≥(a.2.2.1.length:Int)) then
      some ((false,()),())
     else
      ax 8 C <|
      ix a.2.2.1 C <|
      (bif A != (IntKind.i64.wrap ((Uq (α:=Int) 8 (c,e,f,h,i,l,m,n) C 0)+(rd a.2.2.1 C bg).2.2.1)) then
       some ((false,()),())
      else
       ax 8 C <|
       g12 a b c e f h i l m n (Ur (α:=Bool) 8 (o,p,s,t,u,v,w,y) C false).1 (Ur (α:=Bool) 8 (o,p,s,t,u,v,w,y) C false).2.1 (Ur (α:=Bool) 8 (o,p,s,t,u,v,w,y) C false).2.2.1 (Ur (α:=Bool) 8 (o,p,s,t,u,v,w,y) C false).2.2.2.1 (Ur (α:=Bool) 8 (o,p,s,t,u,v,w,y) C false).2.2.2.2.1 (Ur (α:=Bool) 8 (o,p,s,t,u,v,w,y) C false).2.2.2.2.2.1 (Ur (α:=Bool) 8 (o,p,s,t,u,v,w,y) C false).2.2.2.2.2.2.1 (Ur (α:=Bool) 8 (o,p,s,t,u,v,w,y) C false).2.2.2.2.2.2.2 (IntKind.i64.wrap (z+1)))))
   else
    g12 a b c e f h i l m n o p s t u v w y (IntKind.i64.wrap (z+1)))))
abbrev ajI:Cut:=⟨[6,14,16,17],[.box 42 [cI,cI,.own 54 zx,.own 168 wz,.cell .bool,.cell .bool,.cell .bool,.own 59 GD,.own 3 (.int .i64),.own 4 .bool,.own 142 x9,.own 3 (.int .i64),.own 4 .bool],cI,cI,cI],[],221,[]⟩
def afd (k:Nat) (g40:ET -> Int -> Int -> Int -> Option qz) (a:D7) (b c e:Int):Option qz :=
 (bif decide (e<(a.2.2.2.2.2.2.2.1.length:Int)) then
  ix a.2.2.2.2.2.2.2.1 e <|
  (bif (rd a.2.2.2.2.2.2.2.1 e ay).2.2.2.1 != 2 then
   g40 a b (IntKind.i64.wrap (c+1)) (IntKind.i64.wrap (e+1))
  else
   g40 a b c (IntKind.i64.wrap (e+1)))
 else
  some ((b==c,()),()))
def an6 (k:Nat) (g:((Unit)×JO×Int×Int×Int×Unit) -> Option qz) (d:(Unit)×JO×Int×Int×Int×Unit):Option qz:=afd k (fun a b c e=>g ((),MR a,b,c,e,())) (Zl d.2.1) d.2.2.1 d.2.2.2.1 d.2.2.2.2.1
def aaX (k a:Nat) (b:D7) (c e f:Int):Option qz:=iter ajI (an6 k) a ((),MR b,c,e,f,())
theorem afe (k a b c e f):aaX k (a+1) b c e f=afd k (aaX k a) b c e f:=Ba _ _ _ _
abbrev ajJ:Cut:=⟨[6,10,11,14,15],[.box 42 [cI,cI,.own 54 zx,.own 168 wz,.cell .bool,.cell .bool,.cell .bool,.own 59 GD,.own 3 (.int .i64),.own 4 .bool,.own 142 x9,.own 3 (.int .i64),.own 4 .bool],.box 47 [cI,cI,cI,cI,cI,cI,cI,cI],.box 48 [.cell .bool,.cell .bool,.cell .bool,.cell .bool,.cell .bool,.cell .bool,.cell .bool,.cell .bool],cI,cI],[],221,[]⟩
def aff (k:Nat) (g32:ET -> Int -> Int -> Int -> Int -> Int -> Int -> Int -> Int -> Bool -> Bool -> Bool -> Bool -> Bool -> Bool -> Bool -> Bool -> Int -> Int -> Option qz) (a:D7) (b c e f h i l m:Int) (n o p s t u v w:Bool) (y z:Int):Option qz :=
 (bif decide (z<8) then
  ax 8 z <|
  (bif Uq (α:=Bool) 8 (n,o,p,s,t,u,v,w) z false then
   (bif !a.2.2.2.2.2.1 then
    (bif decide (z≥(a.2.2.1.length:Int)) then
     some ((false,()),())
    else
     ax 8 z <|
     ix a.2.2.1 z <|
     (bif decide (a.1>(IntKind.i64.wrap ((Uq (α:=Int) 8 (b,c,e,f,h,i,l,m) z 0)+(rd a.2.2.1 z bg).2.2.1))) then
      some ((false,()),())
     else
      g32 a b c e f h i l m n o p s t u v w (IntKind.i64.wrap (y+1)) (IntKind.i64.wrap (z+1))))
   else
    g32 a b c e f h i l m n o p s t u v w (IntKind.i64.wrap (y+1)) (IntKind.i64.wrap (z+1)))
  else
   g32 a b c e f h i l m n o p s t u v w y (IntKind.i64.wrap (z+1)))
 else
  aaX k k a y 0 0)
def an7 (k:Nat) (g:((Unit)×JO×aeh×aee×Int×Int×Unit) -> Option qz) (d:(Unit)×JO×aeh×aee×Int×Int×Unit):Option qz:=aff k (fun a b c e f h i l m n o p s t u v w y z=>g ((),MR a,(b,c,e,f,h,i,l,m,()),(n,o,p,s,t,u,v,w,()),y,z,())) (Zl d.2.1) d.2.2.1.1 d.2.2.1.2.1 d.2.2.1.2.2.1 d.2.2.1.2.2.2.1 d.2.2.1.2.2.2.2.1 d.2.2.1.2.2.2.2.2.1 d.2.2.1.2.2.2.2.2.2.1 d.2.2.1.2.2.2.2.2.2.2.1 d.2.2.2.1.1 d.2.2.2.1.2.1 d.2.2.2.1.2.2.1 d.2.2.2.1.2.2.2.1 d.2.2.2.1.2.2.2.2.1 d.2.2.2.1.2.2.2.2.2.1 d.2.2.2.1.2.2.2.2.2.2.1 d.2.2.2.1.2.2.2.2.2.2.2.1 d.2.2.2.2.1 d.2.2.2.2.2.1
def VJ (k a:Nat) (b:D7) (c e f h i l m n:Int) (o p s t u v w y:Bool) (z A:Int):Option qz:=iter ajJ (an7 k) a ((),MR b,(c,e,f,h,i,l,m,n,()),(o,p,s,t,u,v,w,y,()),z,A,())
theorem afg (k a b c e f h i l m n o p s t u v w y z A):VJ k (a+1) b c e f h i l m n o p s t u v w y z A=aff k (VJ k a) b c e f h i l m n o p s t u v w y z A:=Ba _ _ _ _
abbrev ajK:Cut:=⟨[6,7,10,11,12],[.box 42 [cI,cI,.own 54 zx,.own 168 wz,.cell .bool,.cell .bool,.cell .bool,.own 59 GD,.own 3 (.int .i64),.own 4 .bool,.own 142 x9,.own 3 (.int .i64),.own 4 .bool],.own 51 uz,.box 47 [cI,cI,cI,cI,cI,cI,cI,cI],.box 48 [.cell .bool,.cell .bool,.cell .bool,.cell .bool,.cell .bool,.cell .bool,.cell .bool,.cell .bool],cI],[],221,[]⟩
def afh (k:Nat) (g12:aiX) (a:D7) (b:List (PN Int 6)) (c e f h i l m n:Int) (o p s t u v w y:Bool) (z:Int):Option qz :=
 (bif decide (z<(b.length:Int)) then
  ix b z <|
  (bif decide ((rd b z (Qn (α:=Int) 6 0)).2.2.1<0) then
   some ((false,()),())
  else
   (bif decide ((rd b z (Qn (α:=Int) 6 0)).2.2.1≥8) then
    some ((false,()),())
   else
    (bif decide ((rd b z (Qn (α:=Int) 6 0)).1<0) then
     some ((false,()),())
    else
     (bif decide (z>0) then
      ix b (IntKind.i64.wrap (z - 1)) <|
      (bif decide ((rd b z (Qn (α:=Int) 6 0)).1<(rd b (IntKind.i64.wrap (z - 1)) (Qn (α:=Int) 6 0)).1) then
       some ((false,()),())
      else
       aaW k g12 a b c e f h i l m n o p s t u v w y z (rd b z (Qn (α:=Int) 6 0)).1 (rd b z (Qn (α:=Int) 6 0)).2.1 (rd b z (Qn (α:=Int) 6 0)).2.2.1 (rd b z (Qn (α:=Int) 6 0)).2.2.2.1 (rd b z (Qn (α:=Int) 6 0)).2.2.2.2.1 (rd b z (Qn (α:=Int) 6 0)).2.2.2.2.2)
     else
      aaW k g12 a b c e f h i l m n o p s t u v w y z (rd b z (Qn (α:=Int) 6 0)).1 (rd b z (Qn (α:=Int) 6 0)).2.1 (rd b z (Qn (α:=Int) 6 0)).2.2.1 (rd b z (Qn (α:=Int) 6 0)).2.2.2.1 (rd b z (Qn (α:=Int) 6 0)).2.2.2.2.1 (rd b z (Qn (α:=Int) 6 0)).2.2.2.2.2))))
 else
  VJ k k a c e f h i l m n o p s t u v w y 0 0)
def an8 (k:Nat) (g:((Unit)×JO×GY×aeh×aee×Int×Unit) -> Option qz) (d:(Unit)×JO×GY×aeh×aee×Int×Unit):Option qz:=afh k (fun a b c e f h i l m n o p s t u v w y z=>g ((),MR a,b,(c,e,f,h,i,l,m,n,()),(o,p,s,t,u,v,w,y,()),z,())) (Zl d.2.1) d.2.2.1 d.2.2.2.1.1 d.2.2.2.1.2.1 d.2.2.2.1.2.2.1 d.2.2.2.1.2.2.2.1 d.2.2.2.1.2.2.2.2.1 d.2.2.2.1.2.2.2.2.2.1 d.2.2.2.1.2.2.2.2.2.2.1 d.2.2.2.1.2.2.2.2.2.2.2.1 d.2.2.2.2.1.1 d.2.2.2.2.1.2.1 d.2.2.2.2.1.2.2.1 d.2.2.2.2.1.2.2.2.1 d.2.2.2.2.1.2.2.2.2.1 d.2.2.2.2.1.2.2.2.2.2.1 d.2.2.2.2.1.2.2.2.2.2.2.1 d.2.2.2.2.1.2.2.2.2.2.2.2.1 d.2.2.2.2.2.1
def aaY (k a:Nat) (b:D7) (c:List (PN Int 6)) (e f h i l m n o:Int) (p s t u v w y z:Bool) (A:Int):Option qz:=iter ajK (an8 k) a ((),MR b,c,(e,f,h,i,l,m,n,o,()),(p,s,t,u,v,w,y,z,()),A,())
theorem afi (k a b c e f h i l m n o p s t u v w y z A):aaY k (a+1) b c e f h i l m n o p s t u v w y z A=afh k (aaY k a) b c e f h i l m n o p s t u v w y z A:=Ba _ _ _ _
def S3 (k:Nat) (a b:List Int):Option qz :=
 (S15 k).bind fun q0 =>
 (bif !q0.1.1 then
  some ((false,()),())
 else
  (bif decide ((a.length:Int)>200) then
   some ((true,()),())
  else
   (bif decide ((b.length:Int)>250) then
    some ((true,()),())
   else
    (S16 k a).bind fun q1 =>
    (S17 k q1.1.1.1 q1.1.1.2.1).bind fun q2 =>
    (S16 k b).bind fun q3 =>
    (S18 k q3.1.1.1 q3.1.1.2.1 120).bind fun q4 =>
    ap q2.1.1 q4.1.1 168 fun r5 =>
    (S19 k 30 r5).bind fun q6 =>
    (bif !q6.1.2.2.2.1 then
     some ((false,()),())
    else
     aaY k k q6.1.1 q6.1.2.1 0 0 0 0 0 0 0 0 false false false false false false false false 0))))
def F3:Fn:=⟨[aiZ,aiZ],[rB],fun k x=>S3 k x.1 x.2.1⟩
theorem ok3:O 3 F3:=okF (ah ok15 <| ah ok16 <| ah ok17 <| ah ok18 <| ah ok19 aj) [] (fun k=>(.loop 40 ajI (an6 k) (fun g=>.nil) (.loop 32 ajJ (an7 k) (fun g=>.nil) (.loop 12 ajK (an8 k) (fun g=>(fun (g12:aiX)=>(.join 17 apa (fun d=>aaW k g12 (Zl d.2.1) d.2.2.1 d.2.2.2.1.1 d.2.2.2.1.2.1 d.2.2.2.1.2.2.1 d.2.2.2.1.2.2.2.1 d.2.2.2.1.2.2.2.2.1 d.2.2.2.1.2.2.2.2.2.1 d.2.2.2.1.2.2.2.2.2.2.1 d.2.2.2.1.2.2.2.2.2.2.2.1 d.2.2.2.2.1.1 d.2.2.2.2.1.2.1 d.2.2.2.2.1.2.2.1 d.2.2.2.2.1.2.2.2.1 d.2.2.2.2.1.2.2.2.2.1 d.2.2.2.2.1.2.2.2.2.2.1 d.2.2.2.2.1.2.2.2.2.2.2.1 d.2.2.2.2.1.2.2.2.2.2.2.2.1 d.2.2.2.2.2.1 d.2.2.2.2.2.2.1.1 d.2.2.2.2.2.2.1.2.1 d.2.2.2.2.2.2.1.2.2.1 d.2.2.2.2.2.2.1.2.2.2.1 d.2.2.2.2.2.2.1.2.2.2.2.1 d.2.2.2.2.2.2.1.2.2.2.2.2.1) .nil)) (fun k_ ev at_ arL arM arN arO arP arQ arR on on1 on2 on3 on4 on5 on6 on7 i=>g ((),MR k_,ev,(at_,arL,arM,arN,arO,arP,arQ,arR,()),(on,on1,on2,on3,on4,on5,on6,on7,()),i,()))) .nil)))) Tryz.func3 rfl
end
end Go.Proofs.YtjjjbcmjmkcedaaGreat.Ab
