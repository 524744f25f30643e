import Derived.Test.YtjjjbcmjmkcedaaGreatAbT0
/- Contracts, printed by this session's own program gen.py. -/
set_option linter.unusedVariables false
set_option linter.unusedSimpArgs false
set_option maxRecDepth 100000
namespace Go.Proofs.YtjjjbcmjmkcedaaGreat.Ab
open Go.RowKit
abbrev apU:Type:=Int×Int×(List (Int×Int×Int×(List (Int×Int×Int×Int))×(List (Int×Int×Int×Int))×List (Int×Int×Int×Int)))×(List (PN Int 5))×Bool×Bool×Bool×(List (Int×Int×Int×Int×(Int×(PN Int 8)×(List (Int×Int×Int))×Bool)×(Int×(PN Int 8)×(List (Int×Int×Int))×Bool)×(List Int)×Bool))×(List Int)×(List Bool)×(List (Int×(Int×Int)×(Int×Int)×((List Int)×List Int)×(Int×List (Int×Int))×Int))×(List Int)×(List Bool)×(List (PN Int 6))×Unit
abbrev FX:Type:=Int×Int×(List (Int×Int×Int×(List (Int×Int×Int×Int))×(List (Int×Int×Int×Int))×List (Int×Int×Int×Int)))×(List (PN Int 5))×Bool×Bool×Bool×(List (Int×Int×Int×Int×(Int×(PN Int 8)×(List (Int×Int×Int))×Bool)×(Int×(PN Int 8)×(List (Int×Int×Int))×Bool)×(List Int)×Bool))×(((List Int)×List Bool)×List (Int×(Int×Int)×(Int×Int)×((List Int)×List Int)×(Int×List (Int×Int))×Int))×(List Int)×List Bool
abbrev KA:Ty:=.pair (.int .i64) (.pair (.int .i64) (.pair (.int .i64) (.pair (.int .i64) (.pair (.pair (.int .i64) (.pair (Am 8 (.int .i64)) (.pair (.sl 293 (.pair (.int .i64) (.pair (.int .i64) (.int .i64)))) .bool))) (.pair (.pair (.int .i64) (.pair (Am 8 (.int .i64)) (.pair (.sl 293 (.pair (.int .i64) (.pair (.int .i64) (.int .i64)))) .bool))) (.pair (.sl 3 (.int .i64)) .bool))))))
abbrev zf:Ty:=.pair (.int .i64) (.pair (.int .i64) (.pair (.int .i64) (.pair (.sl 127 (.pair (.int .i64) (.pair (.int .i64) (.pair (.int .i64) (.int .i64))))) (.pair (.sl 127 (.pair (.int .i64) (.pair (.int .i64) (.pair (.int .i64) (.int .i64))))) (.sl 127 (.pair (.int .i64) (.pair (.int .i64) (.pair (.int .i64) (.int .i64)))))))))
abbrev ajg:Type:=Int×Int×(List (Int×Int×Int×(List (Int×Int×Int×Int))×(List (Int×Int×Int×Int))×List (Int×Int×Int×Int)))×(List (PN Int 5))×Bool×Bool×Bool×(List (Int×Int×Int×Int×(Int×(PN Int 8)×(List (Int×Int×Int))×Bool)×(Int×(PN Int 8)×(List (Int×Int×Int))×Bool)×(List Int)×Bool))×(List Int)×(List Bool)×(List (Int×(Int×Int)×(Int×Int)×((List Int)×List Int)×(Int×List (Int×Int))×Int))×(List Int)×(List Bool)×Int×Int×Int×Int×(List (Int×Int×Int×Int))×(List (Int×Int×Int×Int))×(List (Int×Int×Int×Int))×Int×Int×Int×Int×Int×(List (PN Int 6))×Int×Int×Int×Int×Unit
abbrev AL:Ty:=.pair (.int .i64) (.pair (.pair (.int .i64) (.int .i64)) (.pair (.pair (.int .i64) (.int .i64)) (.pair (.pair (.sl 2 (.int .i64)) (.sl 3 (.int .i64))) (.pair (.pair (.int .u32) (.sl 266 (.pair (.int .i64) (.int .u32)))) (.int .u32)))))
abbrev FJ:Type:=Int×Int×Int×(List (Int×Int×Int×Int))×(List (Int×Int×Int×Int))×List (Int×Int×Int×Int)
abbrev wu:Type:=Int×Int×Int×Int×(Int×(PN Int 8)×(List (Int×Int×Int))×Bool)×(Int×(PN Int 8)×(List (Int×Int×Int))×Bool)×(List Int)×Bool
abbrev y8:Type:=Int×(Int×Int)×(Int×Int)×((List Int)×List Int)×(Int×List (Int×Int))×Int
abbrev wz:Type:=Int×(Int×FJ×(Int×Int)×Int×Int×Int)×Int×Int
abbrev qw:Ty:=.pair (.int .i64) (.pair (.int .i64) (.int .i64))
abbrev za:Type:=Int×Int×Int×Int×(Int×(PN Int 8)×(List (Int×Int×Int))×Bool)×(Int×(PN Int 8)×(List (Int×Int×Int))×Bool)×(List Int)×Bool
abbrev FY:Ty:=.pair (.int .i64) (.pair (.pair (.int .i64) (.pair zf (.pair (.pair (.int .i64) (.int .i64)) (.pair (.int .i64) (.pair (.int .i64) (.int .u32)))))) (.pair (.int .i64) (.int .i64)))
abbrev aoH:Ty:=.pair (.int .i64) (.pair (.int .i64) (.pair (.sl 54 zf) (.pair (.sl 168 (Am 5 (.int .i64))) (.pair .bool (.pair .bool (.pair .bool (.pair (.sl 59 KA) (.pair (.pair (.pair (.sl 3 (.int .i64)) (.sl 4 .bool)) (.sl 142 AL)) (.pair (.sl 3 (.int .i64)) (.sl 4 .bool))))))))))
abbrev lg:Type:=Int×Int×Int×Int
abbrev ajh:Type:=Int×Int×Int×Int×Int×Int×Int×Int×Int×Int×Int×Int×Int×(List (Int×Int×Int))×Bool×Int×Int×Int×Int×Int×Int×Int×Int×Int×(List (Int×Int×Int))×Bool×(List Int)×Bool×Unit
abbrev DF:Type:=(List Int)×Int×Unit
abbrev O6:Type:=Int×Int×(List FJ)×(List (PN Int 5))×Bool×Bool×Bool×(List wu)×(((List Int)×List Bool)×List y8)×(List Int)×List Bool
abbrev vk:Ty:=.sl 127 (.pair (.int .i64) qw)
abbrev kg:Type:=(Bool×Unit)×Unit
abbrev lq:Type:=(Unit)×apU×Unit
abbrev F8:Ty:=.pair (.int .i64) (.int .i64)
abbrev oh:Ty:=.sl 3 (.int .i64)
abbrev KC:Type:=FX×(Int×FJ×(Int×Int)×Int×Int×Int)×(List (PN Int 6))×Int×(Int×Int)×Int
abbrev Vj:Type:=((((List Int)×List Bool)×List y8)×(List Int)×(List (List Int))×Unit)×Unit
abbrev oz:Type:=Int×Int×Int
abbrev O7:Type:=(FX×List (PN Int 6)) -> (List (List Int)) -> (List Int) -> Int -> Int -> Option lq
abbrev AP:Type:=((List wz)×Unit)×DF×Unit
abbrev aoI:Ty:=.pair (.int .i64) (.pair (Am 8 (.int .i64)) (.pair (.sl 293 qw) .bool))
abbrev qx:Ty:=Am 6 (.int .i64)
abbrev o7:Type:=List (Int×Int)
abbrev yh:Type:=(Int×Bool×Unit)×Unit
abbrev BJ:Ty:=Am 5 (.int .i64)
abbrev IX:Type:=((List lg)×Unit)×DF×Unit
abbrev aed:Type:=Int×Int×(List FJ)×(List (PN Int 5))×Bool×Bool×Bool×(List wu)×(List Int)×(List Bool)×(List y8)×(List Int)×(List Bool)×Unit
abbrev IY:Type:=Int×(Int×Int)×Int
abbrev p8:Type:=FX×List (PN Int 6)
abbrev aji:Type:=Int×Int×Int×Int×Int×Int×Int×Int×Int×(List oz)×Bool×Unit
abbrev tu:Type:=(Int×Unit)×Unit
abbrev ng:Type:=List (Int×Int)
abbrev RF:Type:=((Int×(PN Int 8)×(List oz)×Bool)×Unit)×Unit
abbrev FB:Ty:=.pair (.int .i64) (.int .u32)
abbrev ajj:Type:=(List Int) -> (List Bool) -> (List y8) -> (List Int) -> (List Bool) -> (List y8) -> (List Int) -> (List (List Int)) -> (List y8) -> Int -> Int -> Option Vj
abbrev BK:Type:=List (PN Int 6)
abbrev FC:Type:=((List Int)×Unit)×Unit
abbrev aee:Type:=(List Int)×(List Bool)×(List y8)×Unit
abbrev RG:Type:=((List Int)×List Bool)×List y8
abbrev O8:Ty:=.pair oh (.sl 4 .bool)
abbrev aaw:Type:=Int×Int×Int×(List lg)×(List lg)×List lg
abbrev aax:Type:=((Int×List (Int×Int))×(List Int)×Unit)×Unit
abbrev Vk:Type:=(FX×BK×(List IY)×Bool×Unit)×Unit
abbrev BL:Type:=(Unit)×ajg×Unit
abbrev DI:Ty:=.sl 5 (.int .u8)
abbrev RH:Type:=(FX×BK×IY×Unit)×Unit
abbrev BM:Type:=List (List Int)
abbrev aef:Type:=(List Int) -> Int -> Int -> (List lg) -> Int -> Option IX
abbrev RI:Ty:=.sl 121 F8
abbrev Vl:Type:=(wu×lg×Bool×Unit)×Unit
abbrev O9:Ty:=.pair (.int .i64) qw
abbrev BN:Ty:=.sl 59 KA
abbrev aeg:Type:=Int×(PN Int 8)×(List oz)×Bool
abbrev aay:Type:=(Bool×Unit)×apU×ajh×Unit
abbrev Vm:Type:=Int×Int×Int×Int×Unit
abbrev IZ:Ty:=.sl 142 AL
abbrev DJ:Ty:=.sl 4 .bool
abbrev aeh:Ty:=.pair (.int .i64) (.pair F8 (.int .i64))
abbrev Vn:Type:=(o7×Unit)×Unit
abbrev J2:Ty:=.sl 168 BJ
abbrev CG:Type:=apU×Unit
abbrev aoJ:Type:=Int×Int×Unit×Unit×Bool×Bool×Bool×Unit×Unit×Unit×Unit×Unit×Unit×Unit
abbrev aei:Type:=((List Int)×List Bool)×List y8
abbrev amb:PT:=.fK 175 [cI,cI,.cell (.sl 54 zf),.cell J2,.cell .bool,.cell .bool,.cell .bool,.cell BN,.cell oh,.cell DJ,.cell IZ,.cell oh,.cell DJ,cI,cI,cI,cI,.cell vk,.cell vk,.cell vk,cI,cI,cI,cI,.cell (.int .u32),.own 51 qx,cI,cI,cI,cI]
abbrev XD:PT:=.fK 166 [cI,cI,.own 54 zf,.own 168 BJ,.cell .bool,.cell .bool,.cell .bool,.own 59 KA,.own 3 (.int .i64),.own 4 .bool,.own 142 AL,.own 3 (.int .i64),.own 4 .bool,.own 51 qx]
abbrev apV:PT:=.fK 166 [cI,cI,.own 54 zf,.own 168 BJ,.cell .bool,.cell .bool,.cell .bool,.cell BN,.own 3 (.int .i64),.own 4 .bool,.own 142 AL,.own 3 (.int .i64),.own 4 .bool,.own 51 qx]
abbrev arn:PT:=.fK 59 [cI,cI,cI,cI,cI,cI,cI,cI,cI,cI,cI,cI,cI,.cell (.sl 293 qw),.cell .bool,cI,cI,cI,cI,cI,cI,cI,cI,cI,.cell (.sl 293 qw),.cell .bool,.cell oh,.cell .bool]
abbrev aro:PT:=.val ⟨true,(.pair (.int .i64) (.pair zf (.pair F8 (.pair (.int .i64) FB)))),false⟩
abbrev arp:PT:=.val ⟨true,(.pair (.int .u32) (.sl 266 FB)),false⟩
abbrev arq:RT:=.val ⟨true,(.pair (.int .u32) (.sl 266 FB)),true⟩
abbrev amc:PT:=.val ⟨true,(.pair O8 IZ),false⟩
abbrev apW:RT:=.val ⟨true,(.pair O8 IZ),true⟩
abbrev ars:PT:=.val ⟨false,(.sl 266 FB),false⟩
abbrev aoK:RT:=.val ⟨false,(.sl 100 FY),true⟩
abbrev aoL:PT:=.val ⟨false,(.sl 51 qx),false⟩
abbrev aej:RT:=.val ⟨false,(.sl 51 qx),true⟩
abbrev aoM:PT:=.val ⟨false,(.sl 54 zf),false⟩
abbrev OA:PT:=.fK 129 [.cell DI,cI]
abbrev FD:PT:=.val ⟨false,RI,false⟩
abbrev aek:PT:=.val ⟨false,oh,false⟩
abbrev ajk:PT:=.val ⟨false,BN,false⟩
abbrev ajl:PT:=.val ⟨false,vk,false⟩
abbrev ajm:PT:=.val ⟨true,O8,false⟩
abbrev RJ:RT:=.val ⟨false,oh,true⟩
abbrev ael:PT:=.val ⟨true,aoH,false⟩
abbrev aem:RT:=.val ⟨false,RI,true⟩
abbrev aaz:PT:=.val ⟨true,aoI,false⟩
abbrev ajn:RT:=.val ⟨false,vk,true⟩
abbrev aen:RT:=.val ⟨true,aoH,true⟩
abbrev FE:PT:=.val ⟨true,KA,false⟩
abbrev aeo:RT:=.val ⟨true,aoI,true⟩
abbrev Vo:PT:=.val ⟨true,zf,false⟩
abbrev ajo:RT:=.val ⟨true,O9,true⟩
abbrev aaA:RT:=.val ⟨true,KA,true⟩
noncomputable section
abbrev ajp:Cut:=⟨[0,2,3,5,28,29,30],[.pin false 0,cI,.box 142 [cI,cI,cI,cI,cI,.cell (.sl 2 (.int .i64)),.cell oh,.cell (.int .u32),.cell (.sl 266 FB),.cell (.int .u32)],.box 138 [.cell (.int .u32),.own 266 FB],.own 266 FB,cI,cI],[.fK 175 [cI,cI,.cell (.sl 54 zf),.cell J2,.cell .bool,.cell .bool,.cell .bool,.cell BN,.cell oh,.cell DJ,.cell IZ,.cell oh,.cell DJ,cI,cI,cI,cI,.cell vk,.cell vk,.cell vk,cI,cI,cI,cI,.cell (.int .u32),.own 51 qx,cI,cI,cI,cI]],56,[]⟩
def aep (k:Nat) (g4:(FX×(Int×FJ×(Int×Int)×Int×Int×Int)×BK×Int×(Int×Int)×Int) -> Int -> Int -> Int -> Int -> Int -> Int -> (List Int) -> (List Int) -> Int -> o7 -> Int -> Int -> o7 -> o7 -> Int -> Int -> Option BL) (a:KC) (b x c e f h:Int) (i l:List Int) (m:Int) (n:ng) (o p:Int) (s t:ng) (u v:Int):Option BL :=
 (bif decide (v<u) then
  ix t v <|
  (ajb k a (rd t v (0,0)).1 (IntKind.i64.wrap (rd t v (0,0)).2) 0).bind fun q2 =>
  g4 (pz q2.2.1) b x c e f h i l m n o p s t u (IntKind.i64.wrap (v+1))
 else
  (IK k a.1.2.2.2.2.2.2.2.2.1 b (x,(c,e),(f,h),(i,l),(p,s),o)).bind fun q3 =>
  some ((),AU ((w8 a.1 q3.1.1),a.2),()))
def aoN (k:Nat) (g:((ajg×Unit)×Unit×Int×(Int×Int×Int×Int×Int×(List Int)×(List Int)×Int×o7×Int×Unit)×(Int×o7×Unit)×o7×Int×Int×Unit) -> Option BL) (d:(ajg×Unit)×Unit×Int×(Int×Int×Int×Int×Int×(List Int)×(List Int)×Int×o7×Int×Unit)×(Int×o7×Unit)×o7×Int×Int×Unit):Option BL:=aep k (fun a b x c e f h i l m n o p s t u v=>g ((AU a,()),(),b,(x,c,e,f,h,i,l,m,n,o,()),(p,s,()),t,u,v,())) (pz d.1.1) d.2.2.1 d.2.2.2.1.1 d.2.2.2.1.2.1 d.2.2.2.1.2.2.1 d.2.2.2.1.2.2.2.1 d.2.2.2.1.2.2.2.2.1 d.2.2.2.1.2.2.2.2.2.1 d.2.2.2.1.2.2.2.2.2.2.1 d.2.2.2.1.2.2.2.2.2.2.2.1 d.2.2.2.1.2.2.2.2.2.2.2.2.1 d.2.2.2.1.2.2.2.2.2.2.2.2.2.1 d.2.2.2.2.1.1 d.2.2.2.2.1.2.1 d.2.2.2.2.2.1 d.2.2.2.2.2.2.1 d.2.2.2.2.2.2.2.1
def aer (k a:Nat) (b:KC) (c x e f h i:Int) (l m:List Int) (n:Int) (o:ng) (p s:Int) (t u:ng) (v w:Int):Option BL:=iter ajp (aoN k) a ((AU b,()),(),c,(x,e,f,h,i,l,m,n,o,p,()),(s,t,()),u,v,w,())
theorem aes (k a b c x e f h i l m n o p s t u v w):aer k (a+1) b c x e f h i l m n o p s t u v w=aep k (aer k a) b c x e f h i l m n o p s t u v w:=Ba _ _ _ _
def S95 (k:Nat) (a:KC):Option BL :=
 (acd k a 3).bind fun ((b,(c,(e,f),(h,i),(l,m),n,o),p,_),s,_) =>
 (bif !p then
  some ((),s,())
 else
  (ajf k n (pz s).2.1.2.2.2.2.2).bind fun q1 =>
  aer k k (pz s) b c e f h i l m n.1 n.2 o q1.1.1.1 q1.1.1.2 q1.1.2.1 (q1.1.2.1.length:Int) 0)
def F95:Fn:=⟨[amb],[],fun k x=>S95 k (pz x.1)⟩
theorem ok95:O 95 F95:=okF (ah ok128 <| ah ok168 <| ah ok170 <| ah ok172 aj) [] (fun k=>(.loop 4 ajp (aoN k) (fun g=>.nil) .nil)) Tryz.func95 rfl
def apX (k:Nat) (a:Int×Int) (b:Int):Option kg :=
 some ((a.1==b,()),())
def F258:Fn:=⟨[.val ⟨true,FB,false⟩,.pv (.ref (.int .i64))],[rB],fun k x=>apX k x.1 x.2.1⟩
theorem ok258:O 258 F258:=okF aj [] On Tryz.func258 rfl
abbrev aeu:Cut:=⟨[0,1,7,8],[.cell (.sl 266 FB),.lJ 258 [.ref (.int .i64)],cI,cI],[],19,[]⟩
def XE (k:Nat) (g2:o7 -> Int -> Int -> Int -> Option tu) (a:ng) (b c e:Int):Option tu :=
 (bif decide (e<c) then
  ix a e <|
  (apX k (rd a e (0,0)) b).bind fun q0 =>
  (bif q0.1.1 then
   some ((e,()),())
  else
   g2 a b c (IntKind.i64.wrap (e+1)))
 else
  some (((-1),()),()))
def ajq (k:Nat):Xx (((Unit)×o7×(Int×Unit)×Int×Int×Unit) -> Option tu):=eu (dw (dh (d9 (dh dx) (dh (dh dx))))) (XE k)
def M6 (k a:Nat) (b:ng) (c e f:Int):Option tu:=iter aeu (ajq k) a ((),b,(c,()),e,f,())
theorem aaB (k a b c e f):M6 k (a+1) b c e f=XE k (M6 k a) b c e f:=Ba _ _ _ _
def amd (k:Nat) (a:ng) (b:Int):Option tu :=
 M6 k k a b (a.length:Int) 0
def F328:Fn:=⟨[ars,.pv (.lJ 258 [.ref (.int .i64)])],[rI],fun k x=>amd k x.1 x.2.1.1⟩
theorem ok328:O 328 F328:=okF (ah ok258 aj) [] (fun k=>(.loop 2 aeu (ajq k) (fun g=>.nil) .nil)) Tryz.func328 rfl
def apY (k:Nat) (a:ng) (b:Int):Option kg :=
 (amd k a b).bind fun q0 =>
 some ((decide (q0.1.1≥0),()),())
def F257:Fn:=⟨[ars,.pv (.lJ 258 [.ref (.int .i64)])],[rB],fun k x=>apY k x.1 x.2.1.1⟩
theorem ok257:O 257 F257:=okF (ah ok328 aj) [] On Tryz.func257 rfl
def ajr (k:Nat) (a:Int×List (Int×Int)) (b c:Int):Option (((Int×List (Int×Int))×Int×Bool×Unit)×Unit) :=
 (aad k a.2).bind fun q0 =>
 (bif decide (b<1) then
  some (((a.1,q0.1.1),0,false,()),())
 else
  (bif c==0 then
   some (((a.1,q0.1.1),0,false,()),())
  else
   (bif (Um .u32 a.1 c) != 0 then
    some (((Ru .u32 a.1 (Um .u32 a.1 c),q0.1.1),Um .u32 a.1 c,true,()),())
   else
    (bif decide ((a.2.length:Int)≥4) then
     some (((a.1,q0.1.1),0,false,()),())
    else
     (apY k a.2 b).bind fun q1 =>
     (bif q1.1.1 then
      some (((a.1,q0.1.1),0,false,()),())
     else
      ap q0.1.1 ([(b,c)]:List (Int×Int)) 16 fun r2 =>
      some (((a.1,r2),0,true,()),()))))))
def F173:Fn:=⟨[arp,au,.val ⟨false,(.int .u32),false⟩],[arq,.val ⟨false,(.int .u32),true⟩,rB],fun k (a,b,c,_)=>ajr k a b c⟩
theorem ok173:O 173 F173:=okF (ah ok256 <| ah ok257 aj) [] On Tryz.func173 rfl
def S96 (k:Nat) (a:KC):Option BL :=
 (acd k a 3).bind fun q0 =>
 (bif !q0.1.2.2.1 then
  some ((),q0.2.1,())
 else
  (ajr k q0.1.2.1.2.2.2.2.1 (pz q0.2.1).2.1.2.2.2.1 (pz q0.2.1).2.1.2.2.2.2.2).bind fun q1 =>
  (bif !q1.1.2.2.1 then
   some ((),AU (w3 (pz q0.2.1) 1),())
  else
   (bif q1.1.2.1==0 then
    (IK k (pz q0.2.1).1.2.2.2.2.2.2.2.2.1 q0.1.1 (w4 q0.1.2.1 q1.1.1)).bind fun q2 =>
    some ((),AU ((w8 (pz q0.2.1).1 q2.1.1),(pz q0.2.1).2.1,(pz q0.2.1).2.2.1,16,(pz q0.2.1).2.2.2.2.1,IntKind.i64.wrap q1.1.2.1),())
   else
    (IK k (pz q0.2.1).1.2.2.2.2.2.2.2.2.1 q0.1.1 (w4 q0.1.2.1 q1.1.1)).bind fun q3 =>
    some ((),AU (w0 (z5 (pz q0.2.1) (IntKind.i64.wrap q1.1.2.1)) (w8 (pz q0.2.1).1 q3.1.1)),()))))
def F96:Fn:=⟨[amb],[],fun k x=>S96 k (pz x.1)⟩
theorem ok96:O 96 F96:=okF (ah ok128 <| ah ok168 <| ah ok173 aj) [] On Tryz.func96 rfl
def ame (k:Nat) (a:(List Int)×List Bool) (b:Int×Int):Option ((((List Int)×List Bool)×Bool×Unit)×Unit) :=
 (aiX k a).bind fun q0 =>
 (ai8 k q0.1.1 b).bind fun q1 =>
 (bif !q1.1.1 then
  some ((q0.1.1,false,()),())
 else
  ix q0.1.1.2 b.1 <|
  some (((q0.1.1.1,upd q0.1.1.2 b.1 false),true,()),()))
def F259:Fn:=⟨[ajm,.val ⟨true,F8,false⟩],[.val ⟨true,O8,true⟩,rB],fun k x=>ame k x.1 x.2.1⟩
theorem ok259:O 259 F259:=okF (ah ok324 <| ah ok327 aj) [] On Tryz.func259 rfl
def amf (k:Nat) (a:(List Int)×List Int):Option ((((List Int)×List Int)×(List Int)×Unit)×Unit) :=
 (FV k a.2).bind fun q0 =>
 some ((([],[]),q0.1.1,()),())
def F296:Fn:=⟨[.val ⟨true,(.pair (.sl 2 (.int .i64)) oh),false⟩],[.val ⟨true,(.pair (.sl 2 (.int .i64)) oh),true⟩,RJ],fun k x=>amf k x.1⟩
theorem ok296:O 296 F296:=okF (ah ok219 aj) [] On Tryz.func296 rfl
abbrev aev:Cut:=⟨[2,3,7,8,9],[.box 138 [.cell (.int .u32),.nil],.own 3 (.int .i64),.cell (.sl 266 FB),cI,cI],[],21,[]⟩
def XF (k:Nat) (g2:Int -> (List Int) -> o7 -> Int -> Int -> Option aax) (x:Int) (a:List Int) (b:ng) (c e:Int):Option aax :=
 (bif decide (e<c) then
  ix b e <|
  ap a ([(rd b e (0,0)).1]:List Int) 8 fun r0 =>
  g2 x r0 b c (IntKind.i64.wrap (e+1))
 else
  some (((x,[]),a,()),()))
def ajs (k:Nat):Xx (((Unit)×(Int×Unit×Unit)×(List Int)×o7×Int×Int×Unit) -> Option aax):=eu (dw (d9 (dh (dw dx)) (dh (dh (dh (dh dx)))))) (XF k)
def M7 (k a:Nat) (x:Int) (b:List Int) (c:ng) (e f:Int):Option aax:=iter aev (ajs k) a ((),(x,(),()),b,c,e,f,())
theorem aaC (k a x b c e f):M7 k (a+1) x b c e f=XF k (M7 k a) x b c e f:=Ba _ _ _ _
def amg (k:Nat) (a:Int×List (Int×Int)):Option aax :=
 M7 k k 0 ([]:List Int) a.2 (a.2.length:Int) 0
def F297:Fn:=⟨[arp],[arq,RJ],fun k x=>amg k x.1⟩
theorem ok297:O 297 F297:=okF aj [(3,2)] (fun k=>(.loop 2 aev (ajs k) (fun g=>.nil) .nil)) Tryz.func297 rfl
def amh (k:Nat) (a:Int):Option FC :=
 (bif decide (a<0) then
  none
 else
  (bif decide ((IntKind.i64.wrap (a - 0))>0) then
   az ([]:List Int) (IntKind.i64.wrap (a - 0)) 8 0 fun r0 =>
   sx r0 0 0 <|
   some ((r0.take 0,()),())
  else
   some (([],()),())))
def F339:Fn:=⟨[.pv (.nil),au],[RJ],fun k x=>amh k x.2.1⟩
theorem ok339:O 339 F339:=okF aj [(25,1)] On Tryz.func339 rfl
abbrev aaD:Cut:=⟨[6,25,26,27],[.own 3 (.int .i64),.cell (.sl 32 oh),cI,cI],[],36,[]⟩
def KD (k:Nat) (g11:(List Int) -> BM -> Int -> Int -> Option FC) (a:List Int) (b:List (List Int)) (c e:Int):Option FC :=
 (bif decide (e<c) then
  ix b e <|
  ap a (rd b e []) 8 fun r1 =>
  g11 r1 b c (IntKind.i64.wrap (e+1))
 else
  some ((a,()),()))
def aew (k:Nat):Xx (((Unit)×(List Int)×BM×Int×Int×Unit) -> Option FC):=eu (dw (dh (dh (dh (dh dx))))) (KD k)
def XG (k a:Nat) (b:List Int) (c:List (List Int)) (e f:Int):Option FC:=iter aaD (aew k) a ((),b,c,e,f,())
theorem M8 (k a b c e f):XG k (a+1) b c e f=KD k (XG k a) b c e f:=Ba _ _ _ _
abbrev aex:Cut:=⟨[0,3,9,10,11],[.cell (.sl 32 oh),cI,.cell (.sl 32 oh),cI,cI],[],36,[]⟩
def RL (k:Nat) (g3:BM -> Int -> BM -> Int -> Int -> Option FC) (a:List (List Int)) (b:Int) (c:List (List Int)) (e f:Int):Option FC :=
 (bif decide (f<e) then
  ix c f <|
  (bif decide ((IntKind.i64.wrap (b+((rd c f []).length:Int)))<0) then
   none
  else
   g3 a (IntKind.i64.wrap (b+((rd c f []).length:Int))) c e (IntKind.i64.wrap (f+1)))
 else
  (amh k b).bind fun q0 =>
  XG k k q0.1.1 a (a.length:Int) 0)
def ajt (k:Nat):Xx (((Unit)×BM×Int×BM×Int×Int×Unit) -> Option FC):=eu (dw (dh (dh (dh (dh (dh dx)))))) (RL k)
def acf (k a:Nat) (b:List (List Int)) (c:Int) (e:List (List Int)) (f h:Int):Option FC:=iter aex (ajt k) a ((),b,c,e,f,h,())
theorem RN (k a b c e f h):acf k (a+1) b c e f h=RL k (acf k a) b c e f h:=Ba _ _ _ _
def ami (k:Nat) (a:List (List Int)):Option FC :=
 acf k k a 0 a (a.length:Int) 0
def F298:Fn:=⟨[.val ⟨false,(.sl 32 oh),false⟩],[RJ],fun k x=>ami k x.1⟩
theorem ok298:O 298 F298:=okF (ah ok339 aj) [] (fun k=>(.loop 11 aaD (aew k) (fun g=>.nil) (.loop 3 aex (ajt k) (fun g=>.nil) .nil))) Tryz.func298 rfl
def ag0 (k:Nat) (x:Int×(Int×Int)×(Int×Int)×((List Int)×List Int)×(Int×List (Int×Int))×Int):Option FC :=
 (amf k x.2.2.2.1).bind fun q0 =>
 (amg k x.2.2.2.2.1).bind fun q1 =>
 (ami k ([q0.1.2.1,q1.1.2.1]:List (List Int))).bind fun q2 =>
 some ((q2.1.1,()),())
def F234:Fn:=⟨[.val ⟨true,AL,false⟩],[RJ],fun k x=>ag0 k x.1⟩
theorem ok234:O 234 F234:=okF (ah ok296 <| ah ok297 <| ah ok298 aj) [] On Tryz.func234 rfl
def aaE (k:Nat) (a:aei) (b:Int×Int):Option ((RG×(List Int)×Bool×Unit)×Unit) :=
 (UE k a).bind fun q0 =>
 (agZ k a b).bind fun q1 =>
 (bif !q1.1.2.1 then
  some ((q0.1.1,[],false,()),())
 else
  ix a.2 q1.1.1 <|
  (bif (rd a.2 q1.1.1 bf).1==1 then
   some ((q0.1.1,[],false,()),())
  else
   (ame k q0.1.1.1 b).bind fun q2 =>
   ix q0.1.1.2 q1.1.1 <|
   ix a.2 q1.1.1 <|
   (ag0 k (rd a.2 q1.1.1 bf)).bind fun q3 =>
   some (((q2.1.1,upd q0.1.1.2 q1.1.1 bf),q3.1.1,true,()),())))
def F174:Fn:=⟨[amc,.val ⟨true,F8,false⟩],[apW,RJ,rB],fun k x=>aaE k x.1 x.2.1⟩
theorem ok174:O 174 F174:=okF (ah ok185 <| ah ok234 <| ah ok253 <| ah ok259 aj) [] On Tryz.func174 rfl
def aey (k:Nat) (a:KC) (b c e:Int):Option BL :=
 ap a.2.2.1 ([(a.1.1,12,0,b,c,e)]:List (PN Int 6)) 48 fun r0 =>
 some ((),AU (a.1,a.2.1,r0,a.2.2.2),())
def F170a:Fn:=⟨[.fK 175 [cI,cI,.cell (.sl 54 zf),.cell J2,.cell .bool,.cell .bool,.cell .bool,.cell BN,.own 3 (.int .i64),.own 4 .bool,.own 142 AL,.cell oh,.cell DJ,cI,cI,cI,cI,.cell vk,.cell vk,.cell vk,cI,cI,cI,cI,.cell (.int .u32),.own 51 qx,cI,cI,cI,cI],au,au,au],[],fun k x=>aey k (pz x.1) x.2.1 x.2.2.1 x.2.2.2.1⟩
theorem ok170a:O 170 F170a:=okF aj [] On Tryz.func170 rfl
abbrev aju:Cut:=⟨[0,33,34,35],[.pin false 0,.own 3 (.int .i64),cI,cI],[.fK 175 [cI,cI,.cell (.sl 54 zf),.cell J2,.cell .bool,.cell .bool,.cell .bool,.cell BN,.own 3 (.int .i64),.own 4 .bool,.own 142 AL,.cell oh,.cell DJ,cI,cI,cI,cI,.cell vk,.cell vk,.cell vk,cI,cI,cI,cI,.cell (.int .u32),.own 51 qx,cI,cI,cI,cI]],43,[]⟩
def aez (k:Nat) (g5:(FX×(Int×FJ×(Int×Int)×Int×Int×Int)×BK×Int×(Int×Int)×Int) -> (List Int) -> Int -> Int -> Option BL) (a:KC) (b:List Int) (c e:Int):Option BL :=
 (bif decide (e<c) then
  ix b e <|
  (aey k a (rd b e 0) 0 15).bind fun q1 =>
  g5 (pz q1.2.1) b c (IntKind.i64.wrap (e+1))
 else
  some ((),AU a,()))
def aoO (k:Nat) (g:((ajg×Unit)×Unit×(List Int)×Int×Int×Unit) -> Option BL) (d:(ajg×Unit)×Unit×(List Int)×Int×Int×Unit):Option BL:=aez k (fun a b c e=>g ((AU a,()),(),b,c,e,())) (pz d.1.1) d.2.2.1 d.2.2.2.1 d.2.2.2.2.1
def aeA (k a:Nat) (b:KC) (c:List Int) (e f:Int):Option BL:=iter aju (aoO k) a ((AU b,()),(),c,e,f,())
theorem aeB (k a b c e f):aeA k (a+1) b c e f=aez k (aeA k a) b c e f:=Ba _ _ _ _
def S97 (k:Nat) (a:KC):Option BL :=
 (aaE k a.1.2.2.2.2.2.2.2.2.1 a.2.1.2.2.1).bind fun q0 =>
 (bif !q0.1.2.2.1 then
  some ((),AU (w3 a 3),())
 else
  aeA k k ((w8 a.1 q0.1.1),a.2) q0.1.2.1 (q0.1.2.1.length:Int) 0)
def F97:Fn:=⟨[amb],[],fun k x=>S97 k (pz x.1)⟩
theorem ok97:O 97 F97:=okF (ah ok170a <| ah ok174 aj) [] (fun k=>(.loop 5 aju (aoO k) (fun g=>.nil) .nil)) Tryz.func97 rfl
def S98 (k:Nat) (a:KC):Option BL :=
 some ((),AU (w3 a 1),())
def F98:Fn:=⟨[amb],[],fun k x=>S98 k (pz x.1)⟩
theorem ok98:O 98 F98:=okF aj [] On Tryz.func98 rfl
def S41 (k:Nat) (a:O6) (b:Int×FJ×(Int×Int)×Int×Int×Int):Option RH :=
 (bif b.1==1 then
  (S89 k (a,b,([]:List (PN Int 6)),0,(0,0),0)).bind fun q0 =>
  (S99 k (pz q0.2.1).1).bind fun q1 =>
  some ((q1.1.1,(pz q0.2.1).2.2.1,(pz q0.2.1).2.2.2,()),())
 else
  (bif b.1==2 then
   (S90 k (a,b,([]:List (PN Int 6)),0,(0,0),0)).bind fun q2 =>
   (S99 k (pz q2.2.1).1).bind fun q3 =>
   some ((q3.1.1,(pz q2.2.1).2.2.1,(pz q2.2.1).2.2.2,()),())
  else
   (bif b.1==3 then
    (S90 k (a,b,([]:List (PN Int 6)),0,(0,0),0)).bind fun q4 =>
    (S99 k (pz q4.2.1).1).bind fun q5 =>
    some ((q5.1.1,(pz q4.2.1).2.2.1,(pz q4.2.1).2.2.2,()),())
   else
    (bif b.1==4 then
     (S90 k (a,b,([]:List (PN Int 6)),0,(0,0),0)).bind fun q6 =>
     (S99 k (pz q6.2.1).1).bind fun q7 =>
     some ((q7.1.1,(pz q6.2.1).2.2.1,(pz q6.2.1).2.2.2,()),())
    else
     (bif b.1==5 then
      (S91 k (a,b,([]:List (PN Int 6)),0,(0,0),0)).bind fun q8 =>
      (S99 k (pz q8.2.1).1).bind fun q9 =>
      some ((q9.1.1,(pz q8.2.1).2.2.1,(pz q8.2.1).2.2.2,()),())
     else
      (bif b.1==6 then
       (S92 k (a,b,([]:List (PN Int 6)),0,(0,0),0)).bind fun q10 =>
       (S99 k (pz q10.2.1).1).bind fun OW =>
       some ((OW.1.1,(pz q10.2.1).2.2.1,(pz q10.2.1).2.2.2,()),())
      else
       (bif b.1==7 then
        (S93 k (a,b,([]:List (PN Int 6)),0,(0,0),0)).bind fun q12 =>
        (S99 k (pz q12.2.1).1).bind fun Zi =>
        some ((Zi.1.1,(pz q12.2.1).2.2.1,(pz q12.2.1).2.2.2,()),())
       else
        (bif b.1==8 then
         (S94 k (a,b,([]:List (PN Int 6)),0,(0,0),0)).bind fun q14 =>
         (S99 k (pz q14.2.1).1).bind fun q15 =>
         some ((q15.1.1,(pz q14.2.1).2.2.1,(pz q14.2.1).2.2.2,()),())
        else
         (bif b.1==9 then
          (S95 k (a,b,([]:List (PN Int 6)),0,(0,0),0)).bind fun q16 =>
          (S99 k (pz q16.2.1).1).bind fun q17 =>
          some ((q17.1.1,(pz q16.2.1).2.2.1,(pz q16.2.1).2.2.2,()),())
         else
          (bif b.1==10 then
           (S96 k (a,b,([]:List (PN Int 6)),0,(0,0),0)).bind fun q18 =>
           (S99 k (pz q18.2.1).1).bind fun q19 =>
           some ((q19.1.1,(pz q18.2.1).2.2.1,(pz q18.2.1).2.2.2,()),())
          else
           (bif b.1==11 then
            (S97 k (a,b,([]:List (PN Int 6)),0,(0,0),0)).bind fun q20 =>
            (S99 k (pz q20.2.1).1).bind fun q21 =>
            some ((q21.1.1,(pz q20.2.1).2.2.1,(pz q20.2.1).2.2.2,()),())
           else
            (S98 k (a,b,([]:List (PN Int 6)),0,(0,0),0)).bind fun q22 =>
            (S99 k (pz q22.2.1).1).bind fun q23 =>
            some ((q23.1.1,(pz q22.2.1).2.2.1,(pz q22.2.1).2.2.2,()),()))))))))))))
def F41:Fn:=⟨[ael,aro],[aen,aej,.val ⟨true,aeh,true⟩],fun k x=>S41 k x.1 x.2.1⟩
theorem ok41:O 41 F41:=okF (ah ok89 <| ah ok90 <| ah ok91 <| ah ok92 <| ah ok93 <| ah ok94 <| ah ok95 <| ah ok96 <| ah ok97 <| ah ok98 <| ah ok99 aj) [(14,2)] On Tryz.func41 rfl
def acg (k:Nat) (a:p8) (b:PN Int 6):Option lq :=
 ap a.2 ([(a.1.1,b.2)]:List (PN Int 6)) 48 fun r0 =>
 some ((),y7 (a.1,r0),())
def F146:Fn:=⟨[apV,.val ⟨true,qx,false⟩],[],fun k x=>acg k (um x.1) x.2.1⟩
theorem ok146:O 146 F146:=okF aj [] On Tryz.func146 rfl
def ajv (k:Nat) (a:ng):Option Vn:=qQ 16 121 F8 k (a,())
def F292:Fn:=⟨dJ 121 F8,iZ 121 F8,qQ 16 121 F8⟩
theorem ok292:O 292 F292:=Kz IW mix Tryz.func292 rfl (by kernel_rfl) (by kernel_rfl) (fun k=>by kernel_rfl) (fun k xs=>by kernel_rfl) (fun k xs=>by kernel_rfl)
def ajw (k:Nat) (a:ng) (b:Int):Option kg :=
 (bif decide (b≥0) then
  some ((decide (b<(a.length:Int)),()),())
 else
  some ((false,()),()))
def F309:Fn:=⟨[FD,au],[rB],fun k x=>ajw k x.1 x.2.1⟩
theorem ok309:O 309 F309:=okF aj [] On Tryz.func309 rfl
def ag1 (k:Nat) (a:ng) (b c:Int):Option kg :=
 (ajw k a b).bind fun q0 =>
 (bif q0.1.1 then
  (bif decide (c≥0) then
   ix a b <|
   some (((rd a b (0,0)).2==(IntKind.i64.wrap (c+1)),()),())
  else
   some ((false,()),()))
 else
  some ((false,()),()))
def F293:Fn:=⟨[FD,au,au],[rB],fun k (a,b,c,_)=>ag1 k a b c⟩
theorem ok293:O 293 F293:=okF (ah ok309 aj) [] On Tryz.func293 rfl
abbrev aeC:Cut:=⟨[0,1,5,10,11],[.cell RI,cI,.own 121 F8,cI,cI],[],24,[]⟩
def XH (k:Nat) (g3:o7 -> Int -> o7 -> Int -> Int -> Option Vn) (a:ng) (b:Int) (c:ng) (e f:Int):Option Vn :=
 (bif decide (f<e) then
  (ag1 k a f b).bind fun q1 =>
  (bif q1.1.1 then
   ix c f <|
   g3 a b (upd c f ((rd c f (0,0)).1,0)) e (IntKind.i64.wrap (f+1))
  else
   g3 a b c e (IntKind.i64.wrap (f+1)))
 else
  some ((c,()),()))
def ajx (k:Nat):Xx (((Unit)×o7×Int×o7×Int×Int×Unit) -> Option Vn):=eu (dw (dh (dh (dh (dh (dh dx)))))) (XH k)
def XI (k a:Nat) (b:ng) (c:Int) (e:ng) (f h:Int):Option Vn:=iter aeC (ajx k) a ((),b,c,e,f,h,())
theorem aaF (k a b c e f h):XI k (a+1) b c e f h=XH k (XI k a) b c e f h:=Ba _ _ _ _
def ag2 (k:Nat) (a:ng) (b:Int):Option Vn :=
 (ajv k a).bind fun q0 =>
 XI k k a b q0.1.1 (q0.1.1.length:Int) 0
def F231:Fn:=⟨[FD,au],[aem],fun k x=>ag2 k x.1 x.2.1⟩
theorem ok231:O 231 F231:=okF (ah ok292 <| ah ok293 aj) [] (fun k=>(.loop 3 aeC (ajx k) (fun g=>.nil) .nil)) Tryz.func231 rfl
abbrev aeD:Cut:=⟨[0,1,11,12,13],[.pin false 0,.cell RI,.own 3 (.int .i64),cI,cI],[.fK 166 [cI,cI,.own 54 zf,.own 168 BJ,.cell .bool,.cell .bool,.cell .bool,.cell BN,.own 3 (.int .i64),.own 4 .bool,.own 142 AL,.own 3 (.int .i64),.own 4 .bool,.own 51 qx]],55,[]⟩
def XJ (k:Nat) (g1:(FX×List (PN Int 6)) -> o7 -> (List Int) -> Int -> Int -> Option lq) (a:p8) (b:ng) (c:List Int) (e f:Int):Option lq :=
 (bif decide (f<e) then
  ix c f <|
  ix a.1.2.2.2.2.2.2.2.2.1.2 (rd c f 0) <|
  (bif decide (f<(b.length:Int)) then
   ix b f <|
   (bif !(fC F8 (rd a.1.2.2.2.2.2.2.2.2.1.2 (rd c f 0) bf).2.2.1 (rd b f (0,0))) then
    ix b f <|
    (IK k a.1.2.2.2.2.2.2.2.2.1 (rd c f 0) ((rd a.1.2.2.2.2.2.2.2.2.1.2 (rd c f 0) bf).1,(rd a.1.2.2.2.2.2.2.2.2.1.2 (rd c f 0) bf).2.1,rd b f (0,0),(rd a.1.2.2.2.2.2.2.2.2.1.2 (rd c f 0) bf).2.2.2)).bind fun q1 =>
    g1 ((w8 a.1 q1.1.1),a.2) b c e (IntKind.i64.wrap (f+1))
   else
    g1 a b c e (IntKind.i64.wrap (f+1)))
  else
   g1 a b c e (IntKind.i64.wrap (f+1)))
 else
  some ((),y7 a,()))
def ajy (k:Nat) (g:(CG×Unit×o7×(List Int)×Int×Int×Unit) -> Option lq) (d:CG×Unit×o7×(List Int)×Int×Int×Unit):Option lq:=XJ k (fun a b c e f=>g ((y7 a,()),(),b,c,e,f,())) (um d.1.1) d.2.2.1 d.2.2.2.1 d.2.2.2.2.1 d.2.2.2.2.2.1
def M9 (k a:Nat) (b:p8) (c:ng) (e:List Int) (f h:Int):Option lq:=iter aeD (ajy k) a ((y7 b,()),(),c,e,f,h,())
theorem aaG (k a b c e f h):M9 k (a+1) b c e f h=XJ k (M9 k a) b c e f h:=Ba _ _ _ _
def amj (k:Nat) (a:p8) (b:ng):Option lq :=
 (aar k a.1.2.2.2.2.2.2.2.2.1).bind fun q0 =>
 M9 k k a b q0.1.1 (q0.1.1.length:Int) 0
def F61a:Fn:=⟨[apV,FD],[],fun k x=>amj k (um x.1) x.2.1⟩
theorem ok61a:O 61 F61a:=okF (ah ok107 <| ah ok128 aj) [] (fun k=>(.loop 1 aeD (ajy k) (fun g=>.nil) .nil)) Tryz.func61 rfl
def ap0 (k:Nat) (a:(List Int)×List Bool) (b:Int):Option kg :=
 (bif decide (b≥0) then
  some ((decide (b<(mn (a.1.length:Int) (a.2.length:Int))),()),())
 else
  some ((false,()),()))
def F294:Fn:=⟨[ajm,au],[rB],fun k x=>ap0 k x.1 x.2.1⟩
theorem ok294:O 294 F294:=okF aj [] On Tryz.func294 rfl
def ap1 (k:Nat) (a:List Bool) (b:Bool):Option kg :=
 (ai0 k a b).bind fun q0 =>
 some ((decide (q0.1.1≥0),()),())
def F295:Fn:=⟨[.val ⟨false,DJ,false⟩,.val ⟨false,.bool,false⟩],[rB],fun k x=>ap1 k x.1 x.2.1⟩
theorem ok295:O 295 F295:=okF (ah ok325 aj) [] On Tryz.func295 rfl
def amk (k:Nat) (a:(List Int)×List Bool) (b:Int):Option ((((List Int)×List Bool)×Bool×Bool×Unit)×Unit) :=
 (agX k a).bind fun q0 =>
 (ap0 k a b).bind fun q1 =>
 (bif !q1.1.1 then
  some ((q0.1.1,false,false,()),())
 else
  ix q0.1.1.1 b <|
  ix q0.1.1.1 b <|
  ix (upd q0.1.1.1 b (IntKind.i64.wrap ((rd q0.1.1.1 b 0)+1))) b <|
  (bif (rd (upd q0.1.1.1 b (IntKind.i64.wrap ((rd q0.1.1.1 b 0)+1))) b 0) != 2 then
   some (((upd q0.1.1.1 b (IntKind.i64.wrap ((rd q0.1.1.1 b 0)+1)),q0.1.1.2),false,false,()),())
  else
   ix q0.1.1.2 b <|
   (bif rd q0.1.1.2 b false then
    some (((upd q0.1.1.1 b (IntKind.i64.wrap ((rd q0.1.1.1 b 0)+1)),q0.1.1.2),false,false,()),())
   else
    ix q0.1.1.2 b <|
    (ap1 k (upd q0.1.1.2 b true) false).bind fun q2 =>
    some (((upd q0.1.1.1 b (IntKind.i64.wrap ((rd q0.1.1.1 b 0)+1)),upd q0.1.1.2 b true),true,!q2.1.1,()),()))))
def F232:Fn:=⟨[ajm,au],[.val ⟨true,O8,true⟩,rB,rB],fun k x=>amk k x.1 x.2.1⟩
theorem ok232:O 232 F232:=okF (ah ok224 <| ah ok294 <| ah ok295 aj) [] On Tryz.func232 rfl
abbrev aml:Cut:=⟨[0,6],[.pin false 0,.cell .bool],[.fK 166 [cI,cI,.own 54 zf,.own 168 BJ,.cell .bool,.cell .bool,.cell .bool,.cell BN,.own 3 (.int .i64),.own 4 .bool,.own 142 AL,.own 3 (.int .i64),.own 4 .bool,.own 51 qx]],55,[]⟩
def RO (k:Nat) (a:p8) (b:Bool):Option lq :=
 (bif b then
  (acg k a (0,10,0,0,0,0)).bind fun q6 =>
  some ((),y7 ((w5 (um q6.2.1).1 true),(um q6.2.1).2),())
 else
  some ((),y7 a,()))
def amm (k:Nat) (a:p8) (b:za):Option lq :=
 (acg k a (0,5,b.1,0,0,0)).bind fun q0 =>
 (S48 k (um q0.2.1).1).bind fun q1 =>
 (ag2 k q1.1.1 b.1).bind fun q2 =>
 (amj k (um q0.2.1) q2.1.1).bind fun q3 =>
 (amk k (um q3.2.1).1.2.2.2.2.2.2.2.2.2 b.1).bind fun q4 =>
 (bif q4.1.2.1 then
  (acg k ((z9 (um q3.2.1).1 q4.1.1),(um q3.2.1).2) (0,9,b.1,0,0,0)).bind fun q5 =>
  RO k (um q5.2.1) q4.1.2.2.1
 else
  RO k ((z9 (um q3.2.1).1 q4.1.1),(um q3.2.1).2) q4.1.2.2.1)
def F147:Fn:=⟨[apV,FE],[],fun k x=>amm k (um x.1) x.2.1⟩
theorem ok147:O 147 F147:=okF (ah ok48 <| ah ok61a <| ah ok146 <| ah ok231 <| ah ok232 aj) [] (fun k=>(.join 7 aml (fun d=>RO k (um d.1.1) d.2.2.1) .nil)) Tryz.func147 rfl
abbrev ajz:Cut:=⟨[0,2,9,10,11],[.pin false 0,.own 59 KA,.cell BN,cI,cI],[.fK 166 [cI,cI,.own 54 zf,.own 168 BJ,.cell .bool,.cell .bool,.cell .bool,.cell BN,.own 3 (.int .i64),.own 4 .bool,.own 142 AL,.own 3 (.int .i64),.own 4 .bool,.own 51 qx]],57,[]⟩
def aeE (k:Nat) (g2:(FX×List (PN Int 6)) -> (List wu) -> (List wu) -> Int -> Int -> Option lq) (a:p8) (b c:List wu) (e f:Int):Option lq :=
 (bif decide (f<e) then
  ix c f <|
  ix a.1.2.2.1 (rd c f ay).1 <|
  (bif (IntKind.i64.wrap (a.1.1 - (rd c f ay).2.1)) != (rd a.1.2.2.1 (rd c f ay).1 bg).2.2.1 then
   ap b ([rd c f ay]:List wu) 272 fun r0 =>
   g2 a r0 c e (IntKind.i64.wrap (f+1))
  else
   (bif (rd c f ay).2.2.2.1==2 then
    (acg k a (0,13,(rd c f ay).1,0,0,0)).bind fun q1 =>
    g2 (um q1.2.1) b c e (IntKind.i64.wrap (f+1))
   else
    (amm k a (rd c f ay)).bind fun q2 =>
    g2 (um q2.2.1) b c e (IntKind.i64.wrap (f+1))))
 else
  some ((),y7 ((w7 a.1 b),a.2),()))
def aoQ (k:Nat) (g:(CG×Unit×(List wu)×(List wu)×Int×Int×Unit) -> Option lq) (d:CG×Unit×(List wu)×(List wu)×Int×Int×Unit):Option lq:=aeE k (fun a b c e f=>g ((y7 a,()),(),b,c,e,f,())) (um d.1.1) d.2.2.1 d.2.2.2.1 d.2.2.2.2.1 d.2.2.2.2.2.1
def aeF (k a:Nat) (b:p8) (c e:List wu) (f h:Int):Option lq:=iter ajz (aoQ k) a ((y7 b,()),(),c,e,f,h,())
theorem aeG (k a b c e f h):aeF k (a+1) b c e f h=aeE k (aeF k a) b c e f h:=Ba _ _ _ _
def S78 (k:Nat) (a:p8):Option lq :=
 aeF k k a ([]:List wu) a.1.2.2.2.2.2.2.2.1 (a.1.2.2.2.2.2.2.2.1.length:Int) 0
def F78:Fn:=⟨[XD],[],fun k x=>S78 k (um x.1)⟩
theorem ok78:O 78 F78:=okF (ah ok146 <| ah ok147 aj) [(2,2)] (fun k=>(.loop 2 ajz (aoQ k) (fun g=>.nil) .nil)) Tryz.func78 rfl
abbrev ajA:Cut:=⟨[0,9,10],[.pin false 0,cI,cI],[.fK 166 [cI,cI,.own 54 zf,.own 168 BJ,.cell .bool,.cell .bool,.cell .bool,.own 59 KA,.own 3 (.int .i64),.own 4 .bool,.own 142 AL,.own 3 (.int .i64),.own 4 .bool,.own 51 qx]],48,[(8,3)]⟩
def aeH (k:Nat) (g1:(FX×List (PN Int 6)) -> Int -> Int -> Option lq) (a:p8) (b c:Int):Option lq :=
 (bif decide (c<b) then
  ix a.1.2.2.2.2.2.2.2.1 c <|
  (bif (rd a.1.2.2.2.2.2.2.2.1 c ay).2.2.2.1 != 2 then
   ix a.1.2.2.2.1 (rd a.1.2.2.2.2.2.2.2.1 c ay).1 <|
   (bif decide ((IntKind.i64.wrap (a.1.1 - (rd a.1.2.2.2.2.2.2.2.1 c ay).2.1))≥(rd a.1.2.2.2.1 (rd a.1.2.2.2.2.2.2.2.1 c ay).1 (Qn (α:=Int) 5 0)).2.2.2.2) then
    ix a.1.2.2.2.2.2.2.2.1 c <|
    let r0:List wu:=upd a.1.2.2.2.2.2.2.2.1 c (z7 (rd a.1.2.2.2.2.2.2.2.1 c ay) true)
    g1 ((w7 a.1 r0),a.2) b (IntKind.i64.wrap (c+1))
   else
    g1 a b (IntKind.i64.wrap (c+1)))
  else
   g1 a b (IntKind.i64.wrap (c+1)))
 else
  some ((),y7 a,()))
def aoR (k:Nat) (g:(CG×Unit×Int×Int×Unit) -> Option lq) (d:CG×Unit×Int×Int×Unit):Option lq:=aeH k (fun a b c=>g ((y7 a,()),(),b,c,())) (um d.1.1) d.2.2.1 d.2.2.2.1
def aeI (k a:Nat) (b:p8) (c e:Int):Option lq:=iter ajA (aoR k) a ((y7 b,()),(),c,e,())
theorem aeJ (k a b c e):aeI k (a+1) b c e=aeH k (aeI k a) b c e:=Ba _ _ _ _
def S79 (k:Nat) (a:p8):Option lq :=
 aeI k k a (a.1.2.2.2.2.2.2.2.1.length:Int) 0
def F79:Fn:=⟨[XD],[],fun k x=>S79 k (um x.1)⟩
theorem ok79:O 79 F79:=okF aj [] (fun k=>(.loop 1 ajA (aoR k) (fun g=>.nil) .nil)) Tryz.func79 rfl
abbrev amn:Cut:=⟨[1,2,3,4,5,6,7,11,12,13],[.box 38 [.cell oh,.cell DJ,.cell IZ],.box 38 [.own 3 (.int .i64),.own 4 .bool,.own 142 AL],.own 3 (.int .i64),.own 32 oh,cI,.box 142 [cI,cI,cI,cI,cI,.cell (.sl 2 (.int .i64)),.cell oh,.cell (.int .u32),.cell (.sl 266 FB),.cell (.int .u32)],.box 142 [cI,cI,cI,cI,cI,.own 2 (.int .i64),.own 3 (.int .i64),.cell (.int .u32),.own 266 FB,.cell (.int .u32)],.cell IZ,cI,cI],[],61,[]⟩
def RP (k:Nat) (g3:ajj) (a:List Int) (b:List Bool) (c:List y8) (e:List Int) (f:List Bool) (h:List y8) (i:List Int) (l:List (List Int)) (m x n o p s:Int) (t u:List Int) (v:Int) (w:ng) (y z A B C D:Int) (G H:List Int) (I:Int) (J:ng) (K:Int) (M:List y8) (N O:Int):Option Vj :=
 (ab5 k (z,(A,B),(C,D),(G,H),(I,J),K)).bind fun q4 =>
 ix h m <|
 ap i ([m]:List Int) 8 fun r5 =>
 (ag0 k (x,(n,o),(p,s),(t,u),(v,w),y)).bind fun q6 =>
 ap l ([q6.1.1]:List (List Int)) 24 fun r7 =>
 g3 a b c e f (upd h m q4.1.1) r5 r7 M N (IntKind.i64.wrap (O+1))
abbrev aeK:Cut:=⟨[1,2,3,4,11,12,13],[.box 38 [.cell oh,.cell DJ,.cell IZ],.box 38 [.own 3 (.int .i64),.own 4 .bool,.own 142 AL],.own 3 (.int .i64),.own 32 oh,.cell IZ,cI,cI],[],61,[]⟩
def XK (k:Nat) (g3:ajj) (a:List Int) (b:List Bool) (c:List y8) (e:List Int) (f:List Bool) (h:List y8) (i:List Int) (l:List (List Int)) (m:List y8) (n o:Int):Option Vj :=
 (bif decide (o<n) then
  ix m o <|
  (ab3 k ((a,b),c) o).bind fun q1 =>
  (bif !q1.1.1 then
   g3 a b c e f h i l m n (IntKind.i64.wrap (o+1))
  else
   (ab4 k (rd m o bf)).bind fun q2 =>
   (bif (rd m o bf).2.2.2.2.2==q2.1.1 then
    g3 a b c e f h i l m n (IntKind.i64.wrap (o+1))
   else
    (agY k (rd m o bf).1 (rd m o bf).2.1).bind fun q3 =>
    (bif (rd m o bf).1==1 then
     RP k g3 a b c e f h i l o (rd m o bf).1 (rd m o bf).2.1.1 (rd m o bf).2.1.2 (rd m o bf).2.2.1.1 (rd m o bf).2.2.1.2 (rd m o bf).2.2.2.1.1 (rd m o bf).2.2.2.1.2 (rd m o bf).2.2.2.2.1.1 (rd m o bf).2.2.2.2.1.2 (rd m o bf).2.2.2.2.2 q3.1.1.1 q3.1.1.2.1.1 q3.1.1.2.1.2 (rd m o bf).2.2.1.1 q3.1.1.2.2.1.2 q3.1.1.2.2.2.1.1 q3.1.1.2.2.2.1.2 q3.1.1.2.2.2.2.1.1 q3.1.1.2.2.2.2.1.2 q3.1.1.2.2.2.2.2 m n o
    else
     RP k g3 a b c e f h i l o (rd m o bf).1 (rd m o bf).2.1.1 (rd m o bf).2.1.2 (rd m o bf).2.2.1.1 (rd m o bf).2.2.1.2 (rd m o bf).2.2.2.1.1 (rd m o bf).2.2.2.1.2 (rd m o bf).2.2.2.2.1.1 (rd m o bf).2.2.2.2.1.2 (rd m o bf).2.2.2.2.2 q3.1.1.1 q3.1.1.2.1.1 q3.1.1.2.1.2 q3.1.1.2.2.1.1 q3.1.1.2.2.1.2 q3.1.1.2.2.2.1.1 q3.1.1.2.2.2.1.2 q3.1.1.2.2.2.2.1.1 q3.1.1.2.2.2.2.1.2 q3.1.1.2.2.2.2.2 m n o)))
 else
  some ((((e,f),h),i,l,()),()))
def ajB (k:Nat):Xx (((Unit)×aee×aee×(List Int)×BM×(List y8)×Int×Int×Unit) -> Option Vj):=eu (dw (d9 (dh (dh (dh dx))) (d9 (dh (dh (dh dx))) (dh (dh (dh (dh (dh dx)))))))) (XK k)
def RQ (k a:Nat) (b:List Int) (c:List Bool) (e:List y8) (f:List Int) (h:List Bool) (i:List y8) (l:List Int) (m:List (List Int)) (n:List y8) (o p:Int):Option Vj:=iter aeK (ajB k) a ((),(b,c,e,()),(f,h,i,()),l,m,n,o,p,())
theorem aaH (k a b c e f h i l m n o p):RQ k (a+1) b c e f h i l m n o p=XK k (RQ k a) b c e f h i l m n o p:=Ba _ _ _ _
def amo (k:Nat) (a:aei):Option Vj :=
 (UE k a).bind fun q0 =>
 RQ k k a.1.1 a.1.2 a.2 q0.1.1.1.1 q0.1.1.1.2 q0.1.1.2 ([]:List Int) ([]:List (List Int)) a.2 (a.2.length:Int) 0
def F148:Fn:=⟨[amc],[apW,RJ,.val ⟨false,(.sl 32 oh),true⟩],fun k x=>amo k x.1⟩
theorem ok148:O 148 F148:=okF (ah ok185 <| ah ok186 <| ah ok221 <| ah ok223 <| ah ok233 <| ah ok234 aj) [(3,2),(4,2)] (fun k=>(.loop 3 aeK (ajB k) (fun g=>(fun (g3:ajj)=>(.join 9 amn (fun (_,(a,b,c,_),(e,f,h,_),i,l,m,(n,o,p,s,t,u,v,w,y,z,_),(A,B,C,D,G,H,I,J,K,M,_),N,O,P,_)=>RP k g3 a b c e f h i l m n o p s t u v w y z A B C D G H I J K M N O P) .nil)) (fun t1 t2 t3 out ab1 ap2 places who t11 t12 t13=>g ((),(t1,t2,t3,()),(out,ab1,ap2,()),places,who,t11,t12,t13,()))) .nil)) Tryz.func148 rfl
def J3 (k:Nat) (a:p8) (b:PN Int 6):Option lq :=
 ap a.2 ([(a.1.1,b.2)]:List (PN Int 6)) 48 fun r0 =>
 some ((),y7 (a.1,r0),())
def F146a:Fn:=⟨[XD,.val ⟨true,qx,false⟩],[],fun k x=>J3 k (um x.1) x.2.1⟩
theorem ok146a:O 146 F146a:=okF aj [] On Tryz.func146 rfl
abbrev aeL:Cut:=⟨[0,4,9,27,28,29,67,68],[.pin false 0,.own 32 oh,cI,.own 3 (.int .i64),cI,cI,cI,cI],[.fK 166 [cI,cI,.own 54 zf,.own 168 BJ,.cell .bool,.cell .bool,.cell .bool,.own 59 KA,.own 3 (.int .i64),.own 4 .bool,.own 142 AL,.own 3 (.int .i64),.own 4 .bool,.own 51 qx]],85,[(66,3)]⟩
def XL (k:Nat) (g3:O7) (g14:(FX×List (PN Int 6)) -> BM -> Int -> (List Int) -> Int -> Int -> Int -> Int -> Option lq) (a:p8) (b:List (List Int)) (c:Int) (e:List Int) (f h i l:Int):Option lq :=
 (bif decide (l<i) then
  ix a.1.2.2.2.2.2.2.2.1 l <|
  (agW k (rd a.1.2.2.2.2.2.2.2.1 l ay) c).bind fun q5 =>
  ix a.1.2.2.2.2.2.2.2.1 l <|
  g14 ((w7 a.1 (upd a.1.2.2.2.2.2.2.2.1 l q5.1.1)),a.2) b c e f h i (IntKind.i64.wrap (l+1))
 else
  g3 a b e f (IntKind.i64.wrap (h+1)))
def ajC (k:Nat) (g3:O7) (g:(CG×Unit×BM×Int×(List Int)×Int×Int×Int×Int×Unit) -> Option lq) (d:CG×Unit×BM×Int×(List Int)×Int×Int×Int×Int×Unit):Option lq:=XL k g3 (fun a b c e f h i l=>g ((y7 a,()),(),b,c,e,f,h,i,l,())) (um d.1.1) d.2.2.1 d.2.2.2.1 d.2.2.2.2.1 d.2.2.2.2.2.1 d.2.2.2.2.2.2.1 d.2.2.2.2.2.2.2.1 d.2.2.2.2.2.2.2.2.1
def XM (k:Nat) (g3:O7) (a:Nat) (b:p8) (c:List (List Int)) (e:Int) (f:List Int) (h i l m:Int):Option lq:=iter aeL (ajC k g3) a ((y7 b,()),(),c,e,f,h,i,l,m,())
theorem aaI (k g3 a b c e f h i l m):XM k g3 (a+1) b c e f h i l m=XL k g3 (XM k g3 a) b c e f h i l m:=Ba _ _ _ _
abbrev ajD:Cut:=⟨[0,4,6,27,28,29,41,42,43],[.pin false 0,.own 32 oh,cI,.own 3 (.int .i64),cI,cI,.cell oh,cI,cI],[.fK 166 [cI,cI,.own 54 zf,.own 168 BJ,.cell .bool,.cell .bool,.cell .bool,.own 59 KA,.own 3 (.int .i64),.own 4 .bool,.own 142 AL,.own 3 (.int .i64),.own 4 .bool,.own 51 qx]],85,[]⟩
def aeM (k:Nat) (g3:O7) (g7:(FX×List (PN Int 6)) -> BM -> Int -> (List Int) -> Int -> Int -> (List Int) -> Int -> Int -> Option lq) (a:p8) (b:List (List Int)) (c:Int) (e:List Int) (f h:Int) (i:List Int) (l m:Int):Option lq :=
 (bif decide (m<l) then
  ix i m <|
  (J3 k a (0,12,0,rd i m 0,0,15)).bind fun q2 =>
  g7 (um q2.2.1) b c e f h i l (IntKind.i64.wrap (m+1))
 else
  (aar k a.1.2.2.2.2.2.2.2.2.1).bind fun q3 =>
  (ace k q3.1.1 c).bind fun q4 =>
  (bif decide (q4.1.1≥0) then
   XM k g3 k a b q4.1.1 e f h (a.1.2.2.2.2.2.2.2.1.length:Int) 0
  else
   g3 a b e f (IntKind.i64.wrap (h+1))))
def aoS (k:Nat) (g3:O7) (g:(CG×Unit×BM×Int×(List Int)×Int×Int×(List Int)×Int×Int×Unit) -> Option lq) (d:CG×Unit×BM×Int×(List Int)×Int×Int×(List Int)×Int×Int×Unit):Option lq:=aeM k g3 (fun a b c e f h i l m=>g ((y7 a,()),(),b,c,e,f,h,i,l,m,())) (um d.1.1) d.2.2.1 d.2.2.2.1 d.2.2.2.2.1 d.2.2.2.2.2.1 d.2.2.2.2.2.2.1 d.2.2.2.2.2.2.2.1 d.2.2.2.2.2.2.2.2.1 d.2.2.2.2.2.2.2.2.2.1
def aeN (k:Nat) (g3:O7) (a:Nat) (b:p8) (c:List (List Int)) (e:Int) (f:List Int) (h i:Int) (l:List Int) (m n:Int):Option lq:=iter ajD (aoS k g3) a ((y7 b,()),(),c,e,f,h,i,l,m,n,())
theorem aeO (k g3 a b c e f h i l m n):aeN k g3 (a+1) b c e f h i l m n=aeM k g3 (aeN k g3 a) b c e f h i l m n:=Ba _ _ _ _
abbrev ajE:Cut:=⟨[0,4,27,28,29],[.pin false 0,.own 32 oh,.own 3 (.int .i64),cI,cI],[.fK 166 [cI,cI,.own 54 zf,.own 168 BJ,.cell .bool,.cell .bool,.cell .bool,.own 59 KA,.own 3 (.int .i64),.own 4 .bool,.own 142 AL,.own 3 (.int .i64),.own 4 .bool,.own 51 qx]],85,[]⟩
def aeP (k:Nat) (g3:O7) (a:p8) (b:List (List Int)) (c:List Int) (e f:Int):Option lq :=
 (bif decide (f<e) then
  ix c f <|
  (J3 k a (0,11,0,rd c f 0,0,0)).bind fun q1 =>
  ix b f <|
  aeN k g3 k (um q1.2.1) b (rd c f 0) c e f (rd b f []) ((rd b f []).length:Int) 0
 else
  some ((),y7 a,()))
def aoT (k:Nat) (g:(CG×Unit×BM×(List Int)×Int×Int×Unit) -> Option lq) (d:CG×Unit×BM×(List Int)×Int×Int×Unit):Option lq:=aeP k (fun a b c e f=>g ((y7 a,()),(),b,c,e,f,())) (um d.1.1) d.2.2.1 d.2.2.2.1 d.2.2.2.2.1 d.2.2.2.2.2.1
def aaJ (k a:Nat) (b:p8) (c:List (List Int)) (e:List Int) (f h:Int):Option lq:=iter ajE (aoT k) a ((y7 b,()),(),c,e,f,h,())
theorem aeQ (k a b c e f h):aaJ k (a+1) b c e f h=aeP k (aaJ k a) b c e f h:=Ba _ _ _ _
def S80 (k:Nat) (a:p8):Option lq :=
 (amo k a.1.2.2.2.2.2.2.2.2.1).bind fun q0 =>
 aaJ k k ((w8 a.1 q0.1.1),a.2) q0.1.2.2.1 q0.1.2.1 (q0.1.2.1.length:Int) 0
def F80:Fn:=⟨[XD],[],fun k x=>S80 k (um x.1)⟩
theorem ok80:O 80 F80:=okF (ah ok107 <| ah ok127 <| ah ok146a <| ah ok148 <| ah ok149 aj) [] (fun k=>(.loop 3 ajE (aoT k) (fun g=>(fun (g3:O7)=>(.loop 14 aeL (ajC k g3) (fun g=>.nil) (.loop 7 ajD (aoS k g3) (fun g=>.nil) .nil))) (fun t1 who t27 t28 t29=>g ((y7 t1,()),(),who,t27,t28,t29,()))) .nil)) Tryz.func80 rfl
abbrev aeR:Cut:=⟨[0,2,6,7,8,12,13,14],[.cell RI,cI,cI,.cell .bool,.mp 423 true (.int .i64) false .bool,.cell oh,cI,cI],[],51,[]⟩
def XO (k:Nat) (g3:o7 -> Int -> Int -> Bool -> (List (Int×Bool)) -> (List Int) -> Int -> Int -> Option yh) (a:ng) (b c:Int) (e:Bool) (f:List (Int×Bool)) (h:List Int) (i l:Int):Option yh :=
 (bif decide (l<i) then
  ix h l <|
  (ag1 k a (rd h l 0) b).bind fun q0 =>
  (bif !q0.1.1 then
   g3 a b c e f h i (IntKind.i64.wrap (l+1))
  else
   (bif Us (.int .i64) .bool (rd h l 0) f false then
    g3 a b c e f h i (IntKind.i64.wrap (l+1))
   else
    (bif !e then
     ix a (rd h l 0) <|
     g3 a b (rd a (rd h l 0) (0,0)).1 true (vL (.int .i64) .bool (rd h l 0) true f) h i (IntKind.i64.wrap (l+1))
    else
     ix a (rd h l 0) <|
     (bif decide ((rd a (rd h l 0) (0,0)).1<c) then
      ix a (rd h l 0) <|
      g3 a b (rd a (rd h l 0) (0,0)).1 true (vL (.int .i64) .bool (rd h l 0) true f) h i (IntKind.i64.wrap (l+1))
     else
      g3 a b c e (vL (.int .i64) .bool (rd h l 0) true f) h i (IntKind.i64.wrap (l+1))))))
 else
  some ((c,e,()),()))
def ajF (k:Nat):Xx (((Unit)×o7×Int×Int×Bool×(List (Int×Bool))×(List Int)×Int×Int×Unit) -> Option yh):=eu (dw (dh (dh (dh (dh (dh (dh (dh (dh dx))))))))) (XO k)
def XP (k a:Nat) (b:ng) (c e:Int) (f:Bool) (h:List (Int×Bool)) (i:List Int) (l m:Int):Option yh:=iter aeR (ajF k) a ((),b,c,e,f,h,i,l,m,())
theorem aaK (k a b c e f h i l m):XP k (a+1) b c e f h i l m=XO k (XP k a) b c e f h i l m:=Ba _ _ _ _
def ajG (k:Nat) (a:ng) (b:List Int) (c:Int):Option yh :=
 XP k k a c 0 false ([]:List (Int×Bool)) b (b.length:Int) 0
def F300:Fn:=⟨[FD,aek,au],[rI,rB],fun k (a,b,c,_)=>ajG k a b c⟩
theorem ok300:O 300 F300:=okF (ah ok293 aj) [] (fun k=>(.loop 3 aeR (ajF k) (fun g=>.nil) .nil)) Tryz.func300 rfl
def ajH (k:Nat) (a:za) (b:Int):Option tu :=
 (bif a.2.2.2.1==2 then
  some ((IntKind.i64.wrap ((IntKind.i64.wrap (b+b))+a.1),()),())
 else
  (bif a.2.2.2.2.2.2.2 then
   some ((a.1,()),())
  else
   some ((IntKind.i64.wrap (b+a.1),()),())))
def F340:Fn:=⟨[FE,au],[rI],fun k x=>ajH k x.1 x.2.1⟩
theorem ok340:O 340 F340:=okF aj [] On Tryz.func340 rfl
def ap3 (k:Nat) (a:za) (b:Int) (c:ng):Option tu :=
 (ajG k c a.2.2.2.2.2.2.1 a.1).bind fun q0 =>
 (bif q0.1.2.1 then
  (ajH k a b).bind fun q1 =>
  some ((mn q1.1.1 q0.1.1,()),())
 else
  (ajH k a b).bind fun q2 =>
  some ((q2.1.1,()),()))
def F299:Fn:=⟨[FE,au,FD],[rI],fun k (a,b,c,_)=>ap3 k a b c⟩
theorem ok299:O 299 F299:=okF (ah ok300 <| ah ok340 aj) [] On Tryz.func299 rfl
def amq (k:Nat) (a:za) (b:Int) (c:ng):Option ((oz×Unit)×Unit) :=
 (ap3 k a b c).bind fun q0 =>
 (ajG k c a.2.2.2.2.2.2.1 a.1).bind fun q1 =>
 (bif q1.1.2.1 then
  some (((q0.1.1,0,a.1),()),())
 else
  some (((q0.1.1,1,a.1),()),()))
def F235:Fn:=⟨[FE,au,FD],[.val ⟨true,qw,true⟩],fun k (a,b,c,_)=>amq k a b c⟩
theorem ok235:O 235 F235:=okF (ah ok299 <| ah ok300 aj) [] On Tryz.func235 rfl
def amr (k:Nat) (x:Int):Option kg :=
 some ((x != x,()),())
def F342:Fn:=⟨[au],[rB],fun k x=>amr k x.1⟩
theorem ok342:O 342 F342:=okF aj [] On Tryz.func342 rfl
def ag3 (k:Nat) (x a:Int):Option tu :=
 (amr k x).bind fun q0 =>
 (amr k a).bind fun q1 =>
 (bif q0.1.1 then
  (bif q1.1.1 then
   some ((0,()),())
  else
   some (((-1),()),()))
 else
  (bif q1.1.1 then
   some ((1,()),())
  else
   (bif decide (x<a) then
    some (((-1),()),())
   else
    (bif decide (x>a) then
     some ((1,()),())
    else
     some ((0,()),())))))
def F304:Fn:=⟨[au,au],[rI],fun k x=>ag3 k x.1 x.2.1⟩
theorem ok304:O 304 F304:=okF (ah ok342 aj) [] On Tryz.func304 rfl
abbrev aeS:Cut:=⟨[3,6,7,8],[cI,.cell oh,cI,cI],[],18,[]⟩
def MB (k:Nat) (g3:Int -> (List Int) -> Int -> Int -> Option tu) (a:Int) (b:List Int) (c e:Int):Option tu :=
 (bif decide (e<c) then
  ix b e <|
  (bif (rd b e 0) != a then
   some ((rd b e 0,()),())
  else
   g3 a b c (IntKind.i64.wrap (e+1)))
 else
  some ((a,()),()))
def ajI (k:Nat):Xx (((Unit)×Int×(List Int)×Int×Int×Unit) -> Option tu):=eu (dw (dh (dh (dh (dh dx))))) (MB k)
def ach (k a:Nat) (b:Int) (c:List Int) (e f:Int):Option tu:=iter aeS (ajI k) a ((),b,c,e,f,())
theorem KE (k a b c e f):ach k (a+1) b c e f=MB k (ach k a) b c e f:=Ba _ _ _ _
def ap4 (k:Nat) (a:List Int):Option tu :=
 ach k k 0 a (a.length:Int) 0
def F303:Fn:=⟨[aek],[rI],fun k x=>ap4 k x.1⟩
theorem ok303:O 303 F303:=okF aj [] (fun k=>(.loop 3 aeS (ajI k) (fun g=>.nil) .nil)) Tryz.func303 rfl
def ag4 (k:Nat) (a b:Int×Int×Int):Option tu :=
 (ag3 k a.1 b.1).bind fun q0 =>
 (ag3 k a.2.1 b.2.1).bind fun q1 =>
 (ag3 k a.2.2 b.2.2).bind fun q2 =>
 (ap4 k ([q0.1.1,q1.1.1,q2.1.1]:List Int)).bind fun q3 =>
 some ((q3.1.1,()),())
def F237:Fn:=⟨[.val ⟨true,qw,false⟩,.val ⟨true,qw,false⟩],[rI],fun k x=>ag4 k x.1 x.2.1⟩
theorem ok237:O 237 F237:=okF (ah ok303 <| ah ok304 aj) [] On Tryz.func237 rfl
def aru (k:Nat) (a:Int):Option tu :=
 (bif decide (a<0) then
  some ((0,()),())
 else
  (bif decide (a≥64) then
   some ((0,()),())
  else
   Uj a <|
   some ((Uk .u64 1 a,()),())))
def F341:Fn:=⟨[au],[.val ⟨false,(.int .u64),true⟩],fun k x=>aru k x.1⟩
theorem ok341:O 341 F341:=okF aj [] On Tryz.func341 rfl
def ajJ (k:Nat) (a b:Int):Option tu :=
 (aru k b).bind fun q0 =>
 some ((Uz .u64 a q0.1.1,()),())
def F301:Fn:=⟨[.val ⟨false,(.int .u64),false⟩,au],[.val ⟨false,(.int .u64),true⟩],fun k x=>ajJ k x.1 x.2.1⟩
theorem ok301:O 301 F301:=okF (ah ok341 aj) [] On Tryz.func301 rfl
abbrev aeT:Cut:=⟨[0,2,4],[.cell (.int .u64),cI,cI],[],23,[]⟩
def ap5 (k:Nat) (g4:Int -> Int -> Int -> Option yh) (a b c:Int):Option yh :=
 (bif decide (c>0) then
  Uj (IntKind.i64.wrap (64 - c)) <|
  (bif (Uk .u64 a (IntKind.i64.wrap (64 - c)))==0 then
   Uj c <|
   g4 (Ul .u64 a c) (IntKind.i64.wrap (b+c)) (IntKind.i64.wrap (Int.tdiv c 2))
  else
   g4 a b (IntKind.i64.wrap (Int.tdiv c 2)))
 else
  some ((b,true,()),()))
def ajK (k:Nat):Xx (((Unit)×Int×Int×Int×Unit) -> Option yh):=eu (dw (dh (dh (dh dx)))) (ap5 k)
def ap6 (k a:Nat) (b c e:Int):Option yh:=iter aeT (ajK k) a ((),b,c,e,())
def ap7 (k:Nat) (a:Int):Option yh :=
 (bif a==0 then
  some ((0,false,()),())
 else
  ap6 k k a 0 32)
def F302:Fn:=⟨[.val ⟨false,(.int .u64),false⟩],[rI,rB],fun k x=>ap7 k x.1⟩
theorem ok302:O 302 F302:=okF aj [] (fun k=>(.loop 4 aeT (ajK k) (fun g=>.nil) .nil)) Tryz.func302 rfl
abbrev aeU:Cut:=⟨[3,4,13,14,15],[.box 336 [cI,cI,cI],.cell (.int .u64),.cell (.sl 336 qw),cI,cI],[],42,[]⟩
def RU (k:Nat) (g3:Int -> Int -> Int -> Int -> (List oz) -> Int -> Int -> Option tu) (a b c e:Int) (f:List oz) (h i:Int):Option tu :=
 (bif decide (i<h) then
  ix f i <|
  (ag4 k (rd f i (0,0,0)) (a,b,c)).bind fun q0 =>
  (bif decide (q0.1.1<0) then
   (ajJ k 0 i).bind fun q1 =>
   g3 (rd f i (0,0,0)).1 (rd f i (0,0,0)).2.1 (rd f i (0,0,0)).2.2 q1.1.1 f h (IntKind.i64.wrap (i+1))
  else
   (bif q0.1.1==0 then
    (ajJ k e i).bind fun q2 =>
    g3 a b c q2.1.1 f h (IntKind.i64.wrap (i+1))
   else
    g3 a b c e f h (IntKind.i64.wrap (i+1))))
 else
  (ap7 k e).bind fun q3 =>
  some ((q3.1.1,()),()))
def ajL (k:Nat):Xx (((Unit)×(Int×Int×Int×Unit)×Int×(List oz)×Int×Int×Unit) -> Option tu):=eu (dw (d9 (dh (dh (dh dx))) (dh (dh (dh (dh dx)))))) (RU k)
def MC (k a:Nat) (b c e f:Int) (h:List oz) (i l:Int):Option tu:=iter aeU (ajL k) a ((),(b,c,e,()),f,h,i,l,())
theorem RV (k a b c e f h i l):MC k (a+1) b c e f h i l=RU k (MC k a) b c e f h i l:=Ba _ _ _ _
def ams (k:Nat) (a:List oz):Option tu :=
 ix a 0 <|
 MC k k (rd a 0 (0,0,0)).1 (rd a 0 (0,0,0)).2.1 (rd a 0 (0,0,0)).2.2 0 a (a.length:Int) 0
def F236:Fn:=⟨[.val ⟨false,(.sl 336 qw),false⟩],[rI],fun k x=>ams k x.1⟩
theorem ok236:O 236 F236:=okF (ah ok237 <| ah ok301 <| ah ok302 aj) [] (fun k=>(.loop 3 aeU (ajL k) (fun g=>.nil) .nil)) Tryz.func236 rfl
abbrev aeV:Cut:=⟨[6,7,8,11],[cI,.cell .bool,.own 336 qw,cI],[],63,[]⟩
def RX (k:Nat) (g8:Int -> Bool -> (List oz) -> Int -> Option yh) (a:Int) (b:Bool) (c:List oz) (e:Int):Option yh :=
 (bif decide (e<(c.length:Int)) then
  sx c e (mn (IntKind.i64.wrap (e+64)) (c.length:Int)) <|
  (ams k (sub c e (mn (IntKind.i64.wrap (e+64)) (c.length:Int)))).bind fun q2 =>
  (bif !b then
   g8 (IntKind.i64.wrap (e+q2.1.1)) true c (IntKind.i64.wrap (e+64))
  else
   ix c (IntKind.i64.wrap (e+q2.1.1)) <|
   ix c a <|
   (ag4 k (rd c (IntKind.i64.wrap (e+q2.1.1)) (0,0,0)) (rd c a (0,0,0))).bind fun q3 =>
   (bif decide (q3.1.1<0) then
    g8 (IntKind.i64.wrap (e+q2.1.1)) true c (IntKind.i64.wrap (e+64))
   else
    g8 a b c (IntKind.i64.wrap (e+64))))
 else
  some ((a,b,()),()))
def ajM (k:Nat):Xx (((Unit)×Int×Bool×(List oz)×Int×Unit) -> Option yh):=eu (dw (dh (dh (dh (dh dx))))) (RX k)
def ME (k a:Nat) (b:Int) (c:Bool) (e:List oz) (f:Int):Option yh:=iter aeV (ajM k) a ((),b,c,e,f,())
theorem RY (k a b c e f):ME k (a+1) b c e f=RX k (ME k a) b c e f:=Ba _ _ _ _
abbrev aeW:Cut:=⟨[1,2,6,7,8,14,15,16],[cI,.cell RI,cI,.cell .bool,.own 336 qw,.cell BN,cI,cI],[],63,[]⟩
def XQ (k:Nat) (g3:Int -> o7 -> Int -> Bool -> (List oz) -> (List wu) -> Int -> Int -> Option yh) (a:Int) (b:ng) (c:Int) (e:Bool) (f:List oz) (h:List wu) (i l:Int):Option yh :=
 (bif decide (l<i) then
  ix h l <|
  (amq k (rd h l ay) a b).bind fun q0 =>
  ap f ([q0.1.1]:List oz) 24 fun r1 =>
  g3 a b c e r1 h i (IntKind.i64.wrap (l+1))
 else
  ME k k c e f 0)
def ajN (k:Nat):Xx (((Unit)×Int×o7×Int×Bool×(List oz)×(List wu)×Int×Int×Unit) -> Option yh):=eu (dw (dh (dh (dh (dh (dh (dh (dh (dh dx))))))))) (XQ k)
def XR (k a:Nat) (b:Int) (c:ng) (e:Int) (f:Bool) (h:List oz) (i:List wu) (l m:Int):Option yh:=iter aeW (ajN k) a ((),b,c,e,f,h,i,l,m,())
theorem aaL (k a b c e f h i l m):XR k (a+1) b c e f h i l m=XQ k (XR k a) b c e f h i l m:=Ba _ _ _ _
def amt (k:Nat) (a:List wu) (b:Int) (c:ng):Option yh :=
 XR k k b c 0 false ([]:List oz) a (a.length:Int) 0
def F150:Fn:=⟨[ajk,au,FD],[rI,rB],fun k (a,b,c,_)=>amt k a b c⟩
theorem ok150:O 150 F150:=okF (ah ok235 <| ah ok236 <| ah ok237 aj) [(8,2)] (fun k=>(.loop 8 aeV (ajM k) (fun g=>.nil) (.loop 3 aeW (ajN k) (fun g=>.nil) .nil))) Tryz.func150 rfl
def aaM (k:Nat) (a:aeg):Option RF :=
 (ab2 k a.2.2.1).bind fun q0 =>
 some (((a.1,a.2.1,q0.1.1,a.2.2.2),()),())
def F307:Fn:=⟨[aaz],[aeo],fun k x=>aaM k x.1⟩
theorem ok307:O 307 F307:=okF (ah ok217 aj) [] On Tryz.func307 rfl
def ag5 (k:Nat) (a:za):Option ((wu×Unit)×Unit) :=
 (aaM k a.2.2.2.2.1).bind fun q0 =>
 (aaM k a.2.2.2.2.2.1).bind fun q1 =>
 (FV k a.2.2.2.2.2.2.1).bind fun q2 =>
 some (((w6 (w5 (w4 a q0.1.1) q1.1.1) q2.1.1),()),())
def F305:Fn:=⟨[FE],[aaA],fun k x=>ag5 k x.1⟩
theorem ok305:O 305 F305:=okF (ah ok219 <| ah ok307 aj) [] On Tryz.func305 rfl
def amu (k:Nat) (a:aaw) (b:za):Option ((wu×Unit)×Unit) :=
 (ag5 k b).bind fun q0 =>
 (bif b.2.2.2.1==0 then
  (bif decide ((a.2.2.2.2.1.length:Int)>0) then
   (UF k b.2.2.1).bind fun q1 =>
   (UF k b.2.2.1).bind fun q2 =>
   some (((q0.1.1.1,q0.1.1.2.1,q0.1.1.2.2.1,1,q1.1.1,q2.1.1,[],q0.1.1.2.2.2.2.2.2.2),()),())
  else
   (aaM k b.2.2.2.2.2.1).bind fun q3 =>
   some (((w6 (w4 q0.1.1 q3.1.1) []),()),()))
 else
  (aaM k b.2.2.2.2.2.1).bind fun q4 =>
  some (((w6 (w4 q0.1.1 q4.1.1) []),()),()))
def F311:Fn:=⟨[Vo,FE],[aaA],fun k x=>amu k x.1 x.2.1⟩
theorem ok311:O 311 F311:=okF (ah ok109 <| ah ok305 <| ah ok307 aj) [] On Tryz.func311 rfl
def amv (k:Nat) (a:aaw) (b:za) (c:ng):Option ((wu×o7×Int×Unit)×Unit) :=
 (amu k a b).bind fun q0 =>
 (ag2 k c b.1).bind fun q1 =>
 (bif b.2.2.2.1==2 then
  (agW k b (-1)).bind fun q2 =>
  some ((q2.1.1,q1.1.1,13,()),())
 else
  (bif q0.1.1.2.2.2.1 != b.2.2.2.1 then
   some ((q0.1.1,q1.1.1,7,()),())
  else
   some ((q0.1.1,q1.1.1,6,()),())))
def F242:Fn:=⟨[Vo,FE,FD],[aaA,aem,rI],fun k (a,b,c,_)=>amv k a b c⟩
theorem ok242:O 242 F242:=okF (ah ok127 <| ah ok231 <| ah ok311 aj) [] On Tryz.func242 rfl
abbrev aeX:Cut:=⟨[0,1,11,12,13],[.pin false 0,.cell RI,.own 3 (.int .i64),cI,cI],[.fK 166 [cI,cI,.own 54 zf,.own 168 BJ,.cell .bool,.cell .bool,.cell .bool,.own 59 KA,.own 3 (.int .i64),.own 4 .bool,.own 142 AL,.own 3 (.int .i64),.own 4 .bool,.own 51 qx]],55,[]⟩
def XT (k:Nat) (g1:(FX×List (PN Int 6)) -> o7 -> (List Int) -> Int -> Int -> Option lq) (a:p8) (b:ng) (c:List Int) (e f:Int):Option lq :=
 (bif decide (f<e) then
  ix c f <|
  ix a.1.2.2.2.2.2.2.2.2.1.2 (rd c f 0) <|
  (bif decide (f<(b.length:Int)) then
   ix b f <|
   (bif !(fC F8 (rd a.1.2.2.2.2.2.2.2.2.1.2 (rd c f 0) bf).2.2.1 (rd b f (0,0))) then
    ix b f <|
    (IK k a.1.2.2.2.2.2.2.2.2.1 (rd c f 0) ((rd a.1.2.2.2.2.2.2.2.2.1.2 (rd c f 0) bf).1,(rd a.1.2.2.2.2.2.2.2.2.1.2 (rd c f 0) bf).2.1,rd b f (0,0),(rd a.1.2.2.2.2.2.2.2.2.1.2 (rd c f 0) bf).2.2.2)).bind fun q1 =>
    g1 ((w8 a.1 q1.1.1),a.2) b c e (IntKind.i64.wrap (f+1))
   else
    g1 a b c e (IntKind.i64.wrap (f+1)))
  else
   g1 a b c e (IntKind.i64.wrap (f+1)))
 else
  some ((),y7 a,()))
def ajO (k:Nat) (g:(CG×Unit×o7×(List Int)×Int×Int×Unit) -> Option lq) (d:CG×Unit×o7×(List Int)×Int×Int×Unit):Option lq:=XT k (fun a b c e f=>g ((y7 a,()),(),b,c,e,f,())) (um d.1.1) d.2.2.1 d.2.2.2.1 d.2.2.2.2.1 d.2.2.2.2.2.1
def MF (k a:Nat) (b:p8) (c:ng) (e:List Int) (f h:Int):Option lq:=iter aeX (ajO k) a ((y7 b,()),(),c,e,f,h,())
theorem aaN (k a b c e f h):MF k (a+1) b c e f h=XT k (MF k a) b c e f h:=Ba _ _ _ _
def ag6 (k:Nat) (a:p8) (b:ng):Option lq :=
 (aar k a.1.2.2.2.2.2.2.2.2.1).bind fun q0 =>
 MF k k a b q0.1.1 (q0.1.1.length:Int) 0
def F61b:Fn:=⟨[XD,FD],[],fun k x=>ag6 k (um x.1) x.2.1⟩
theorem ok61b:O 61 F61b:=okF (ah ok107 <| ah ok128 aj) [] (fun k=>(.loop 1 aeX (ajO k) (fun g=>.nil) .nil)) Tryz.func61 rfl
def amw (k:Nat) (a:p8) (b:za):Option aay :=
 ix a.1.2.2.1 b.1 <|
 (S48 k a.1).bind fun q0 =>
 (amv k (rd a.1.2.2.1 b.1 bg) b q0.1.1).bind fun q1 =>
 (ag6 k a q1.1.2.1).bind fun q2 =>
 (J3 k (um q2.2.1) (0,q1.1.2.2.1,q1.1.1.1,0,0,0)).bind fun q3 =>
 some ((q1.1.2.2.1==13,()),q3.2.1,trJ q1.1.1,())
def F152:Fn:=⟨[XD,arn],[rB],fun k x=>amw k (um x.1) (tvJ x.2.1)⟩
theorem ok152:O 152 F152:=okF (ah ok48 <| ah ok61b <| ah ok146a <| ah ok242 aj) [] On Tryz.func152 rfl
def amx (k:Nat) (a:aaw) (b:za):Option (((List lg)×Unit)×Unit) :=
 (QV k (Us (.int .i64) vk b.2.2.2.1 (vL (.int .i64) vk 2 a.2.2.2.2.2 (vL (.int .i64) vk 1 a.2.2.2.2.1 (vL (.int .i64) vk 0 a.2.2.2.1 ([]:List (Int×List lg))))) [])).bind fun q0 =>
 some ((q0.1.1,()),())
def F306:Fn:=⟨[Vo,FE],[ajn],fun k x=>amx k x.1 x.2.1⟩
theorem ok306:O 306 F306:=okF (ah ok126 aj) [] On Tryz.func306 rfl
def aci (k:Nat) (a:aeg):Option RF :=
 (ab2 k a.2.2.1).bind fun q0 =>
 some (((a.1,a.2.1,q0.1.1,a.2.2.2),()),())
def F195:Fn:=⟨[aaz],[aeo],fun k x=>aci k x.1⟩
theorem ok195:O 195 F195:=okF (ah ok217 aj) [] On Tryz.func195 rfl
def amy (k:Nat) (a b:Int):Option tu :=
 (bif decide (b <= (-64)) then
  some ((a,()),())
 else
  (bif decide (b≥64) then
   some ((a,()),())
  else
   (bif decide (b<0) then
    Uj (IntKind.i64.wrap (0 - b)) <|
    some ((Ul .i64 a (IntKind.i64.wrap (0 - b)),()),())
   else
    Uj b <|
    some ((IntKind.i64.wrap (Uk .u64 (IntKind.u64.wrap a) b),()),()))))
def F196:Fn:=⟨[au,au],[rI],fun k x=>amy k x.1 x.2.1⟩
theorem ok196:O 196 F196:=okF aj [] On Tryz.func196 rfl
def amA (k:Nat) (a b:Int):Option tu :=
 (bif decide (b<1) then
  some ((a,()),())
 else
  (bif decide (b>64) then
   some ((a,()),())
  else
   Uj (IntKind.i64.wrap (64 - b)) <|
   Uj (IntKind.i64.wrap (64 - b)) <|
   some ((Ul .i64 (Uk .i64 a (IntKind.i64.wrap (64 - b))) (IntKind.i64.wrap (64 - b)),()),())))
def F197:Fn:=⟨[au,au],[rI],fun k x=>amA k x.1 x.2.1⟩
theorem ok197:O 197 F197:=okF aj [] On Tryz.func197 rfl
abbrev aeY:Cut:=⟨[1,2,3],[.box 57 [cI,cI,cI,cI,cI,cI,cI,cI,cI,.own 293 qw,.cell .bool],.box 57 [cI,cI,cI,cI,cI,cI,cI,cI,cI,.nil,.cell .bool],cI],[],55,[]⟩
def XU (k:Nat) (g2:Int -> Int -> Int -> Int -> Int -> Int -> Int -> Int -> Int -> (List oz) -> Bool -> Int -> Int -> Int -> Int -> Int -> Int -> Int -> Int -> Int -> Bool -> Int -> Option RF) (a b c e f h i l m:Int) (n:List oz) (o:Bool) (p s t u v w y z A:Int) (B:Bool) (C:Int):Option RF :=
 (bif decide (C>0) then
  ix n (IntKind.i64.wrap (C - 1)) <|
  (bif decide ((rd n (IntKind.i64.wrap (C - 1)) (0,0,0)).2.1<a) then
   ix n (IntKind.i64.wrap (C - 1)) <|
   (bif decide ((rd n (IntKind.i64.wrap (C - 1)) (0,0,0)).2.2>0) then
    some ((((rd n (IntKind.i64.wrap (C - 1)) (0,0,0)).1,(b,c,e,f,h,i,l,m),upd n (IntKind.i64.wrap (C - 1)) ((rd n (IntKind.i64.wrap (C - 1)) (0,0,0)).1,(rd n (IntKind.i64.wrap (C - 1)) (0,0,0)).2.1,IntKind.i64.wrap ((rd n (IntKind.i64.wrap (C - 1)) (0,0,0)).2.2 - 1)),o),()),())
   else
    sx n 0 (IntKind.i64.wrap (C - 1)) <|
    g2 a b c e f h i l m (n.take (IntKind.i64.wrap (C - 1)).toNat) o p s t u v w y z A B ((n.take (IntKind.i64.wrap (C - 1)).toNat).length:Int))
  else
   some (((a,(b,c,e,f,h,i,l,m),n,o),()),()))
 else
  some (((a,(b,c,e,f,h,i,l,m),n,o),()),()))
def ajP (k:Nat):Xx (((Unit)×aji×(Int×Int×Int×Int×Int×Int×Int×Int×Int×Unit×Bool×Unit)×Int×Unit) -> Option RF):=eu (dw (d9 (dh (dh (dh (dh (dh (dh (dh (dh (dh (dh (dh dx))))))))))) (d9 (dh (dh (dh (dh (dh (dh (dh (dh (dh (dw (dh dx))))))))))) (dh dx)))) (XU k)
def XV (k a:Nat) (b c e f h i l m n:Int) (o:List oz) (p:Bool) (s t u v w y z A B:Int) (C:Bool) (D:Int):Option RF:=iter aeY (ajP k) a ((),(b,c,e,f,h,i,l,m,n,o,p,()),(s,t,u,v,w,y,z,A,B,(),C,()),D,())
theorem aaO (k a b c e f h i l m n o p s t u v w y z A B C D):XV k (a+1) b c e f h i l m n o p s t u v w y z A B C D=XU k (XV k a) b c e f h i l m n o p s t u v w y z A B C D:=Ba _ _ _ _
def KF (k:Nat) (a b c e f h i l m:Int) (n:List oz) (o:Bool):Option RF :=
 XV k k a b c e f h i l m n o 0 0 0 0 0 0 0 0 0 false (n.length:Int)
def F198:Fn:=⟨[.gv (.agg [cI,cI,cI,cI,cI,cI,cI,cI,cI,.own 293 qw,.cell .bool])],[aeo],fun k ((a,b,c,e,f,h,i,l,m,n,o,_),_)=>KF k a b c e f h i l m n o⟩
theorem ok198:O 198 F198:=okF aj [(52,1)] (fun k=>(.loop 2 aeY (ajP k) (fun g=>.nil) .nil)) Tryz.func198 rfl
def ajQ (k:Nat) (a:List lg) (b:aeg):Option (((Int×(PN Int 8)×(List oz)×Bool)×lg×Bool×Unit)×Unit) :=
 (bif b.2.2.2 then
  (aci k b).bind fun q0 =>
  some ((q0.1.1,(0,0,0,0),false,()),())
 else
  (bif decide (b.1<0) then
   (aci k b).bind fun q1 =>
   some ((q1.1.1,(0,0,0,0),false,()),())
  else
   (bif decide (b.1≥(a.length:Int)) then
    (aci k b).bind fun q2 =>
    some ((q2.1.1,(0,0,0,0),false,()),())
   else
    ix a b.1 <|
    (ah3 k (rd a b.1 (0,0,0,0))).bind fun q3 =>
    (bif !q3.1.1 then
     (aci k b).bind fun q4 =>
     some ((q4.1.1,(0,0,0,0),false,()),())
    else
     (aci k b).bind fun q5 =>
     ix a q5.1.1.1 <|
     ax 8 (rd a q5.1.1.1 (0,0,0,0)).2.1 <|
     ax 8 (Int.tmod (rd a q5.1.1.1 (0,0,0,0)).2.2.1 8) <|
     (bif (rd a q5.1.1.1 (0,0,0,0)).1==0 then
      (KF k q5.1.1.1 q5.1.1.2.1.1 q5.1.1.2.1.2.1 q5.1.1.2.1.2.2.1 q5.1.1.2.1.2.2.2.1 q5.1.1.2.1.2.2.2.2.1 q5.1.1.2.1.2.2.2.2.2.1 q5.1.1.2.1.2.2.2.2.2.2.1 q5.1.1.2.1.2.2.2.2.2.2.2 q5.1.1.2.2.1 true).bind fun q6 =>
      some ((q6.1.1,rd a q5.1.1.1 (0,0,0,0),true,()),())
     else
      (bif (rd a q5.1.1.1 (0,0,0,0)).1==1 then
       (KF k (IntKind.i64.wrap (q5.1.1.1+1)) (Ur (α:=Int) 8 q5.1.1.2.1 (rd a q5.1.1.1 (0,0,0,0)).2.1 (rd a q5.1.1.1 (0,0,0,0)).2.2.2).1 (Ur (α:=Int) 8 q5.1.1.2.1 (rd a q5.1.1.1 (0,0,0,0)).2.1 (rd a q5.1.1.1 (0,0,0,0)).2.2.2).2.1 (Ur (α:=Int) 8 q5.1.1.2.1 (rd a q5.1.1.1 (0,0,0,0)).2.1 (rd a q5.1.1.1 (0,0,0,0)).2.2.2).2.2.1 (Ur (α:=Int) 8 q5.1.1.2.1 (rd a q5.1.1.1 (0,0,0,0)).2.1 (rd a q5.1.1.1 (0,0,0,0)).2.2.2).2.2.2.1 (Ur (α:=Int) 8 q5.1.1.2.1 (rd a q5.1.1.1 (0,0,0,0)).2.1 (rd a q5.1.1.1 (0,0,0,0)).2.2.2).2.2.2.2.1 (Ur (α:=Int) 8 q5.1.1.2.1 (rd a q5.1.1.1 (0,0,0,0)).2.1 (rd a q5.1.1.1 (0,0,0,0)).2.2.2).2.2.2.2.2.1 (Ur (α:=Int) 8 q5.1.1.2.1 (rd a q5.1.1.1 (0,0,0,0)).2.1 (rd a q5.1.1.1 (0,0,0,0)).2.2.2).2.2.2.2.2.2.1 (Ur (α:=Int) 8 q5.1.1.2.1 (rd a q5.1.1.1 (0,0,0,0)).2.1 (rd a q5.1.1.1 (0,0,0,0)).2.2.2).2.2.2.2.2.2.2 q5.1.1.2.2.1 q5.1.1.2.2.2).bind fun q7 =>
       some ((q7.1.1,rd a q5.1.1.1 (0,0,0,0),true,()),())
      else
       (bif (rd a q5.1.1.1 (0,0,0,0)).1==2 then
        (KF k (IntKind.i64.wrap (q5.1.1.1+1)) (Ur (α:=Int) 8 q5.1.1.2.1 (rd a q5.1.1.1 (0,0,0,0)).2.1 (IntKind.i64.wrap (IntKind.u64.wrap ((IntKind.u64.wrap (Uq (α:=Int) 8 q5.1.1.2.1 (rd a q5.1.1.1 (0,0,0,0)).2.1 0))+(IntKind.u64.wrap (Uq (α:=Int) 8 q5.1.1.2.1 (Int.tmod (rd a q5.1.1.1 (0,0,0,0)).2.2.1 8) 0)))))).1 (Ur (α:=Int) 8 q5.1.1.2.1 (rd a q5.1.1.1 (0,0,0,0)).2.1 (IntKind.i64.wrap (IntKind.u64.wrap ((IntKind.u64.wrap (Uq (α:=Int) 8 q5.1.1.2.1 (rd a q5.1.1.1 (0,0,0,0)).2.1 0))+(IntKind.u64.wrap (Uq (α:=Int) 8 q5.1.1.2.1 (Int.tmod (rd a q5.1.1.1 (0,0,0,0)).2.2.1 8) 0)))))).2.1 (Ur (α:=Int) 8 q5.1.1.2.1 (rd a q5.1.1.1 (0,0,0,0)).2.1 (IntKind.i64.wrap (IntKind.u64.wrap ((IntKind.u64.wrap (Uq (α:=Int) 8 q5.1.1.2.1 (rd a q5.1.1.1 (0,0,0,0)).2.1 0))+(IntKind.u64.wrap (Uq (α:=Int) 8 q5.1.1.2.1 (Int.tmod (rd a q5.1.1.1 (0,0,0,0)).2.2.1 8) 0)))))).2.2.1 (Ur (α:=Int) 8 q5.1.1.2.1 (rd a q5.1.1.1 (0,0,0,0)).2.1 (IntKind.i64.wrap (IntKind.u64.wrap ((IntKind.u64.wrap (Uq (α:=Int) 8 q5.1.1.2.1 (rd a q5.1.1.1 (0,0,0,0)).2.1 0))+(IntKind.u64.wrap (Uq (α:=Int) 8 q5.1.1.2.1 (Int.tmod (rd a q5.1.1.1 (0,0,0,0)).2.2.1 8) 0)))))).2.2.2.1 (Ur (α:=Int) 8 q5.1.1.2.1 (rd a q5.1.1.1 (0,0,0,0)).2.1 (IntKind.i64.wrap (IntKind.u64.wrap ((IntKind.u64.wrap (Uq (α:=Int) 8 q5.1.1.2.1 (rd a q5.1.1.1 (0,0,0,0)).2.1 0))+(IntKind.u64.wrap (Uq (α:=Int) 8 q5.1.1.2.1 (Int.tmod (rd a q5.1.1.1 (0,0,0,0)).2.2.1 8) 0)))))).2.2.2.2.1 (Ur (α:=Int) 8 q5.1.1.2.1 (rd a q5.1.1.1 (0,0,0,0)).2.1 (IntKind.i64.wrap (IntKind.u64.wrap ((IntKind.u64.wrap (Uq (α:=Int) 8 q5.1.1.2.1 (rd a q5.1.1.1 (0,0,0,0)).2.1 0))+(IntKind.u64.wrap (Uq (α:=Int) 8 q5.1.1.2.1 (Int.tmod (rd a q5.1.1.1 (0,0,0,0)).2.2.1 8) 0)))))).2.2.2.2.2.1 (Ur (α:=Int) 8 q5.1.1.2.1 (rd a q5.1.1.1 (0,0,0,0)).2.1 (IntKind.i64.wrap (IntKind.u64.wrap ((IntKind.u64.wrap (Uq (α:=Int) 8 q5.1.1.2.1 (rd a q5.1.1.1 (0,0,0,0)).2.1 0))+(IntKind.u64.wrap (Uq (α:=Int) 8 q5.1.1.2.1 (Int.tmod (rd a q5.1.1.1 (0,0,0,0)).2.2.1 8) 0)))))).2.2.2.2.2.2.1 (Ur (α:=Int) 8 q5.1.1.2.1 (rd a q5.1.1.1 (0,0,0,0)).2.1 (IntKind.i64.wrap (IntKind.u64.wrap ((IntKind.u64.wrap (Uq (α:=Int) 8 q5.1.1.2.1 (rd a q5.1.1.1 (0,0,0,0)).2.1 0))+(IntKind.u64.wrap (Uq (α:=Int) 8 q5.1.1.2.1 (Int.tmod (rd a q5.1.1.1 (0,0,0,0)).2.2.1 8) 0)))))).2.2.2.2.2.2.2 q5.1.1.2.2.1 q5.1.1.2.2.2).bind fun q8 =>
        some ((q8.1.1,rd a q5.1.1.1 (0,0,0,0),true,()),())
       else
        (bif (rd a q5.1.1.1 (0,0,0,0)).1==3 then
         (KF k (IntKind.i64.wrap (q5.1.1.1+1)) (Ur (α:=Int) 8 q5.1.1.2.1 (rd a q5.1.1.1 (0,0,0,0)).2.1 (IntKind.i64.wrap (IntKind.u64.wrap ((IntKind.u64.wrap (Uq (α:=Int) 8 q5.1.1.2.1 (rd a q5.1.1.1 (0,0,0,0)).2.1 0)) - (IntKind.u64.wrap (Uq (α:=Int) 8 q5.1.1.2.1 (Int.tmod (rd a q5.1.1.1 (0,0,0,0)).2.2.1 8) 0)))))).1 (Ur (α:=Int) 8 q5.1.1.2.1 (rd a q5.1.1.1 (0,0,0,0)).2.1 (IntKind.i64.wrap (IntKind.u64.wrap ((IntKind.u64.wrap (Uq (α:=Int) 8 q5.1.1.2.1 (rd a q5.1.1.1 (0,0,0,0)).2.1 0)) - (IntKind.u64.wrap (Uq (α:=Int) 8 q5.1.1.2.1 (Int.tmod (rd a q5.1.1.1 (0,0,0,0)).2.2.1 8) 0)))))).2.1 (Ur (α:=Int) 8 q5.1.1.2.1 (rd a q5.1.1.1 (0,0,0,0)).2.1 (IntKind.i64.wrap (IntKind.u64.wrap ((IntKind.u64.wrap (Uq (α:=Int) 8 q5.1.1.2.1 (rd a q5.1.1.1 (0,0,0,0)).2.1 0)) - (IntKind.u64.wrap (Uq (α:=Int) 8 q5.1.1.2.1 (Int.tmod (rd a q5.1.1.1 (0,0,0,0)).2.2.1 8) 0)))))).2.2.1 (Ur (α:=Int) 8 q5.1.1.2.1 (rd a q5.1.1.1 (0,0,0,0)).2.1 (IntKind.i64.wrap (IntKind.u64.wrap ((IntKind.u64.wrap (Uq (α:=Int) 8 q5.1.1.2.1 (rd a q5.1.1.1 (0,0,0,0)).2.1 0)) - (IntKind.u64.wrap (Uq (α:=Int) 8 q5.1.1.2.1 (Int.tmod (rd a q5.1.1.1 (0,0,0,0)).2.2.1 8) 0)))))).2.2.2.1 (Ur (α:=Int) 8 q5.1.1.2.1 (rd a q5.1.1.1 (0,0,0,0)).2.1 (IntKind.i64.wrap (IntKind.u64.wrap ((IntKind.u64.wrap (Uq (α:=Int) 8 q5.1.1.2.1 (rd a q5.1.1.1 (0,0,0,0)).2.1 0)) - (IntKind.u64.wrap (Uq (α:=Int) 8 q5.1.1.2.1 (Int.tmod (rd a q5.1.1.1 (0,0,0,0)).2.2.1 8) 0)))))).2.2.2.2.1 (Ur (α:=Int) 8 q5.1.1.2.1 (rd a q5.1.1.1 (0,0,0,0)).2.1 (IntKind.i64.wrap (IntKind.u64.wrap ((IntKind.u64.wrap (Uq (α:=Int) 8 q5.1.1.2.1 (rd a q5.1.1.1 (0,0,0,0)).2.1 0)) - (IntKind.u64.wrap (Uq (α:=Int) 8 q5.1.1.2.1 (Int.tmod (rd a q5.1.1.1 (0,0,0,0)).2.2.1 8) 0)))))).2.2.2.2.2.1 (Ur (α:=Int) 8 q5.1.1.2.1 (rd a q5.1.1.1 (0,0,0,0)).2.1 (IntKind.i64.wrap (IntKind.u64.wrap ((IntKind.u64.wrap (Uq (α:=Int) 8 q5.1.1.2.1 (rd a q5.1.1.1 (0,0,0,0)).2.1 0)) - (IntKind.u64.wrap (Uq (α:=Int) 8 q5.1.1.2.1 (Int.tmod (rd a q5.1.1.1 (0,0,0,0)).2.2.1 8) 0)))))).2.2.2.2.2.2.1 (Ur (α:=Int) 8 q5.1.1.2.1 (rd a q5.1.1.1 (0,0,0,0)).2.1 (IntKind.i64.wrap (IntKind.u64.wrap ((IntKind.u64.wrap (Uq (α:=Int) 8 q5.1.1.2.1 (rd a q5.1.1.1 (0,0,0,0)).2.1 0)) - (IntKind.u64.wrap (Uq (α:=Int) 8 q5.1.1.2.1 (Int.tmod (rd a q5.1.1.1 (0,0,0,0)).2.2.1 8) 0)))))).2.2.2.2.2.2.2 q5.1.1.2.2.1 q5.1.1.2.2.2).bind fun q9 =>
         some ((q9.1.1,rd a q5.1.1.1 (0,0,0,0),true,()),())
        else
         (bif (rd a q5.1.1.1 (0,0,0,0)).1==4 then
          (KF k (IntKind.i64.wrap (q5.1.1.1+1)) (Ur (α:=Int) 8 q5.1.1.2.1 (rd a q5.1.1.1 (0,0,0,0)).2.1 (IntKind.i64.wrap (IntKind.u64.wrap ((IntKind.u64.wrap (Uq (α:=Int) 8 q5.1.1.2.1 (rd a q5.1.1.1 (0,0,0,0)).2.1 0)) * (IntKind.u64.wrap (Uq (α:=Int) 8 q5.1.1.2.1 (Int.tmod (rd a q5.1.1.1 (0,0,0,0)).2.2.1 8) 0)))))).1 (Ur (α:=Int) 8 q5.1.1.2.1 (rd a q5.1.1.1 (0,0,0,0)).2.1 (IntKind.i64.wrap (IntKind.u64.wrap ((IntKind.u64.wrap (Uq (α:=Int) 8 q5.1.1.2.1 (rd a q5.1.1.1 (0,0,0,0)).2.1 0)) * (IntKind.u64.wrap (Uq (α:=Int) 8 q5.1.1.2.1 (Int.tmod (rd a q5.1.1.1 (0,0,0,0)).2.2.1 8) 0)))))).2.1 (Ur (α:=Int) 8 q5.1.1.2.1 (rd a q5.1.1.1 (0,0,0,0)).2.1 (IntKind.i64.wrap (IntKind.u64.wrap ((IntKind.u64.wrap (Uq (α:=Int) 8 q5.1.1.2.1 (rd a q5.1.1.1 (0,0,0,0)).2.1 0)) * (IntKind.u64.wrap (Uq (α:=Int) 8 q5.1.1.2.1 (Int.tmod (rd a q5.1.1.1 (0,0,0,0)).2.2.1 8) 0)))))).2.2.1 (Ur (α:=Int) 8 q5.1.1.2.1 (rd a q5.1.1.1 (0,0,0,0)).2.1 (IntKind.i64.wrap (IntKind.u64.wrap ((IntKind.u64.wrap (Uq (α:=Int) 8 q5.1.1.2.1 (rd a q5.1.1.1 (0,0,0,0)).2.1 0)) * (IntKind.u64.wrap (Uq (α:=Int) 8 q5.1.1.2.1 (Int.tmod (rd a q5.1.1.1 (0,0,0,0)).2.2.1 8) 0)))))).2.2.2.1 (Ur (α:=Int) 8 q5.1.1.2.1 (rd a q5.1.1.1 (0,0,0,0)).2.1 (IntKind.i64.wrap (IntKind.u64.wrap ((IntKind.u64.wrap (Uq (α:=Int) 8 q5.1.1.2.1 (rd a q5.1.1.1 (0,0,0,0)).2.1 0)) * (IntKind.u64.wrap (Uq (α:=Int) 8 q5.1.1.2.1 (Int.tmod (rd a q5.1.1.1 (0,0,0,0)).2.2.1 8) 0)))))).2.2.2.2.1 (Ur (α:=Int) 8 q5.1.1.2.1 (rd a q5.1.1.1 (0,0,0,0)).2.1 (IntKind.i64.wrap (IntKind.u64.wrap ((IntKind.u64.wrap (Uq (α:=Int) 8 q5.1.1.2.1 (rd a q5.1.1.1 (0,0,0,0)).2.1 0)) * (IntKind.u64.wrap (Uq (α:=Int) 8 q5.1.1.2.1 (Int.tmod (rd a q5.1.1.1 (0,0,0,0)).2.2.1 8) 0)))))).2.2.2.2.2.1 (Ur (α:=Int) 8 q5.1.1.2.1 (rd a q5.1.1.1 (0,0,0,0)).2.1 (IntKind.i64.wrap (IntKind.u64.wrap ((IntKind.u64.wrap (Uq (α:=Int) 8 q5.1.1.2.1 (rd a q5.1.1.1 (0,0,0,0)).2.1 0)) * (IntKind.u64.wrap (Uq (α:=Int) 8 q5.1.1.2.1 (Int.tmod (rd a q5.1.1.1 (0,0,0,0)).2.2.1 8) 0)))))).2.2.2.2.2.2.1 (Ur (α:=Int) 8 q5.1.1.2.1 (rd a q5.1.1.1 (0,0,0,0)).2.1 (IntKind.i64.wrap (IntKind.u64.wrap ((IntKind.u64.wrap (Uq (α:=Int) 8 q5.1.1.2.1 (rd a q5.1.1.1 (0,0,0,0)).2.1 0)) * (IntKind.u64.wrap (Uq (α:=Int) 8 q5.1.1.2.1 (Int.tmod (rd a q5.1.1.1 (0,0,0,0)).2.2.1 8) 0)))))).2.2.2.2.2.2.2 q5.1.1.2.2.1 q5.1.1.2.2.2).bind fun q10 =>
          some ((q10.1.1,rd a q5.1.1.1 (0,0,0,0),true,()),())
         else
          (bif (rd a q5.1.1.1 (0,0,0,0)).1==5 then
           (amy k (Uq (α:=Int) 8 q5.1.1.2.1 (rd a q5.1.1.1 (0,0,0,0)).2.1 0) (rd a q5.1.1.1 (0,0,0,0)).2.2.2).bind fun OW =>
           (KF k (IntKind.i64.wrap (q5.1.1.1+1)) (Ur (α:=Int) 8 q5.1.1.2.1 (rd a q5.1.1.1 (0,0,0,0)).2.1 OW.1.1).1 (Ur (α:=Int) 8 q5.1.1.2.1 (rd a q5.1.1.1 (0,0,0,0)).2.1 OW.1.1).2.1 (Ur (α:=Int) 8 q5.1.1.2.1 (rd a q5.1.1.1 (0,0,0,0)).2.1 OW.1.1).2.2.1 (Ur (α:=Int) 8 q5.1.1.2.1 (rd a q5.1.1.1 (0,0,0,0)).2.1 OW.1.1).2.2.2.1 (Ur (α:=Int) 8 q5.1.1.2.1 (rd a q5.1.1.1 (0,0,0,0)).2.1 OW.1.1).2.2.2.2.1 (Ur (α:=Int) 8 q5.1.1.2.1 (rd a q5.1.1.1 (0,0,0,0)).2.1 OW.1.1).2.2.2.2.2.1 (Ur (α:=Int) 8 q5.1.1.2.1 (rd a q5.1.1.1 (0,0,0,0)).2.1 OW.1.1).2.2.2.2.2.2.1 (Ur (α:=Int) 8 q5.1.1.2.1 (rd a q5.1.1.1 (0,0,0,0)).2.1 OW.1.1).2.2.2.2.2.2.2 q5.1.1.2.2.1 q5.1.1.2.2.2).bind fun q12 =>
           some ((q12.1.1,rd a q5.1.1.1 (0,0,0,0),true,()),())
          else
           (bif (rd a q5.1.1.1 (0,0,0,0)).1==6 then
            (amA k (Uq (α:=Int) 8 q5.1.1.2.1 (rd a q5.1.1.1 (0,0,0,0)).2.1 0) (rd a q5.1.1.1 (0,0,0,0)).2.2.2).bind fun Zi =>
            (KF k (IntKind.i64.wrap (q5.1.1.1+1)) (Ur (α:=Int) 8 q5.1.1.2.1 (rd a q5.1.1.1 (0,0,0,0)).2.1 Zi.1.1).1 (Ur (α:=Int) 8 q5.1.1.2.1 (rd a q5.1.1.1 (0,0,0,0)).2.1 Zi.1.1).2.1 (Ur (α:=Int) 8 q5.1.1.2.1 (rd a q5.1.1.1 (0,0,0,0)).2.1 Zi.1.1).2.2.1 (Ur (α:=Int) 8 q5.1.1.2.1 (rd a q5.1.1.1 (0,0,0,0)).2.1 Zi.1.1).2.2.2.1 (Ur (α:=Int) 8 q5.1.1.2.1 (rd a q5.1.1.1 (0,0,0,0)).2.1 Zi.1.1).2.2.2.2.1 (Ur (α:=Int) 8 q5.1.1.2.1 (rd a q5.1.1.1 (0,0,0,0)).2.1 Zi.1.1).2.2.2.2.2.1 (Ur (α:=Int) 8 q5.1.1.2.1 (rd a q5.1.1.1 (0,0,0,0)).2.1 Zi.1.1).2.2.2.2.2.2.1 (Ur (α:=Int) 8 q5.1.1.2.1 (rd a q5.1.1.1 (0,0,0,0)).2.1 Zi.1.1).2.2.2.2.2.2.2 q5.1.1.2.2.1 q5.1.1.2.2.2).bind fun q14 =>
            some ((q14.1.1,rd a q5.1.1.1 (0,0,0,0),true,()),())
           else
            (bif (rd a q5.1.1.1 (0,0,0,0)).1==7 then
             (bif (Uq (α:=Int) 8 q5.1.1.2.1 (rd a q5.1.1.1 (0,0,0,0)).2.1 0)==0 then
              (KF k (IntKind.i64.wrap ((IntKind.i64.wrap (q5.1.1.1+1))+(rd a q5.1.1.1 (0,0,0,0)).2.2.2)) q5.1.1.2.1.1 q5.1.1.2.1.2.1 q5.1.1.2.1.2.2.1 q5.1.1.2.1.2.2.2.1 q5.1.1.2.1.2.2.2.2.1 q5.1.1.2.1.2.2.2.2.2.1 q5.1.1.2.1.2.2.2.2.2.2.1 q5.1.1.2.1.2.2.2.2.2.2.2 q5.1.1.2.2.1 q5.1.1.2.2.2).bind fun q15 =>
              some ((q15.1.1,rd a q5.1.1.1 (0,0,0,0),true,()),())
             else
              (KF k (IntKind.i64.wrap (q5.1.1.1+1)) q5.1.1.2.1.1 q5.1.1.2.1.2.1 q5.1.1.2.1.2.2.1 q5.1.1.2.1.2.2.2.1 q5.1.1.2.1.2.2.2.2.1 q5.1.1.2.1.2.2.2.2.2.1 q5.1.1.2.1.2.2.2.2.2.2.1 q5.1.1.2.1.2.2.2.2.2.2.2 q5.1.1.2.2.1 q5.1.1.2.2.2).bind fun q16 =>
              some ((q16.1.1,rd a q5.1.1.1 (0,0,0,0),true,()),()))
            else
             (bif (rd a q5.1.1.1 (0,0,0,0)).1==8 then
              ap q5.1.1.2.2.1 ([(IntKind.i64.wrap (q5.1.1.1+1),IntKind.i64.wrap (q5.1.1.1+(rd a q5.1.1.1 (0,0,0,0)).2.2.1),IntKind.i64.wrap ((rd a q5.1.1.1 (0,0,0,0)).2.2.2 - 1))]:List oz) 24 fun r17 =>
              (KF k (IntKind.i64.wrap (q5.1.1.1+1)) q5.1.1.2.1.1 q5.1.1.2.1.2.1 q5.1.1.2.1.2.2.1 q5.1.1.2.1.2.2.2.1 q5.1.1.2.1.2.2.2.2.1 q5.1.1.2.1.2.2.2.2.2.1 q5.1.1.2.1.2.2.2.2.2.2.1 q5.1.1.2.1.2.2.2.2.2.2.2 r17 q5.1.1.2.2.2).bind fun q18 =>
              some ((q18.1.1,rd a q5.1.1.1 (0,0,0,0),true,()),())
             else
              (KF k (IntKind.i64.wrap (q5.1.1.1+1)) q5.1.1.2.1.1 q5.1.1.2.1.2.1 q5.1.1.2.1.2.2.1 q5.1.1.2.1.2.2.2.1 q5.1.1.2.1.2.2.2.2.1 q5.1.1.2.1.2.2.2.2.2.1 q5.1.1.2.1.2.2.2.2.2.2.1 q5.1.1.2.1.2.2.2.2.2.2.2 q5.1.1.2.2.1 q5.1.1.2.2.2).bind fun q19 =>
              some ((q19.1.1,rd a q5.1.1.1 (0,0,0,0),true,()),()))))))))))))))
def F110:Fn:=⟨[ajl,aaz],[aeo,ajo,rB],fun k x=>ajQ k x.1 x.2.1⟩
theorem ok110:O 110 F110:=okF (ah ok188 <| ah ok195 <| ah ok196 <| ah ok197 <| ah ok198 aj) [] On Tryz.func110 rfl
section
variable (w:World) {g n c i j:Nat}
theorem MG:Tryz.prog.underlying 32=some (.slice 3) /\ Tryz.prog.underlying 3=some (.int .i64) /\ Tryz.prog.underlying 4=some .bool /\ Tryz.prog.follows .mixedOrders=true /\ (∀ w,(Go.sizeOf 3).run Tryz.prog w=.ok 1 w) /\ Tryz.f308.ntmps=33:=⟨by kernel_rfl,by kernel_rfl,by kernel_rfl,by kernel_rfl,fun w=>by kernel_rfl,rfl⟩
theorem XW {v:Value} (hv:(∃ A n c,v=.slice A n c /\ i <= n /\ n <= c /\ c <= 9223372036854775807)):Calls Tryz.prog 308 #[v,.int .i64 i,.int .i64 i] w fun e w'=>e=.returned v /\ w'=w:=by
 obtain ⟨t24,t3,t4,mixed,z36,hnt⟩:=MG
 have u24:=run_underlying t24;have u3:=run_underlying t3;have u4:=run_underlying t4
 obtain ⟨A,n,c,rfl,hi,hnc,hc63⟩:=hv
 have hi0:(i:Int) <= (n:Int):=by omega
 have hi1:(0:Int) <= (i:Int):=by omega
 cases A <;> (go_enter Tryz.func308,hnt;go_wp2 <;> (go_ret;exact ⟨rfl,rfl⟩))
theorem XY {w' w'':World} (hlt:i<j) (hj:j <= n) (hnc:n <= c) (hc63:c <= 9223372036854775807)
  (hap:∀ ty A,(c≠j -> A=(⟨g,j * 1,none⟩:Addr)) -> (Builtin.append_ #[32,32] ty #[.slice (some ⟨g,0,none⟩) i c,.slice (some A) (n - j) (c - j)]).run Tryz.prog w.drew=.ok (.slice (some ⟨g,0,none⟩) (i+(n - j)) c) w')
  (hcl:∀ ty dc,(Builtin.clear_ #[32] ty #[.slice (some ⟨g,(i+(n - j)) * 1,none⟩) (n - (i+(n - j))) dc]).run Tryz.prog w'=.ok (.tuple #[]) w'') :
  Calls Tryz.prog 308 #[.slice (some ⟨g,0,none⟩) n c,.int .i64 i,.int .i64 j] w fun e w1=>e=.returned (.slice (some ⟨g,0,none⟩) (i+(n - j)) c) /\ w1=w'':=by
 obtain ⟨t24,t3,t4,mixed,z36,hnt⟩:=MG
 have u24:=run_underlying t24;have u3:=run_underlying t3;have u4:=run_underlying t4
 have hi0:(i:Int) <= (n:Int):=by omega
 have hj0:(j:Int) <= (n:Int):=by omega
 have hij:(i:Int) <= (j:Int):=by omega
 have hne:¬ ((i:Int)=(j:Int)):=by omega
 have hic:i <= c:=by omega
 have hjc:j <= c:=by omega
 have hln:i+(n - j) <= n:=by omega
 have hlc:i+(n - j) <= c:=by omega
 have hci:¬ (c=i+(n - j)):=by omega
 obtain ⟨A,hA,hA'⟩:∃ A:Addr,(if c=j then some (⟨g,0,none⟩:Addr) else some ⟨g,j * 1,none⟩)=some A /\ (c≠j -> A=(⟨g,j * 1,none⟩:Addr)):=by
  by_cases h:c=j
  · exact ⟨_,if_pos h,fun q=>absurd h q⟩
  · exact ⟨_,if_neg h,fun _=>rfl⟩
 try simp only [Nat.mul_one] at hA hcl
 go_enter Tryz.func308,hnt
 go_wp2_with fail
 go_region_law_o (refine Gz rfl rfl _ _ (by simp [Act.eval,Act.put]) (by simp [Act.eval,Act.put,hA]) (hap _ _ hA') ?_)
 go_wp2_with (at_builtin;refine Ji rfl rfl _ rfl (hcl _ _) ?_)
 go_ret
 exact ⟨rfl,rfl⟩
end
abbrev asF:List PT:=iG 3 (.int .i64)
abbrev asG:List RT:=qV 3 (.int .i64)
def ap8 (k:Nat) (a:List Int) (i j:Int):Option FC:=Jk 3 (.int .i64) k (a,i,j,())
def F308:Fn:=⟨asF,asG,Jk 3 (.int .i64)⟩
def asH:Env:=tab.env (fun _=>none) (fun _=>0)
theorem amB:aH Tryz.prog asH:=Kw Rt _ _ (fun f F h=>by cases h)
theorem ok308:O 308 F308:=by
 obtain ⟨i0,z,a1,a2,a3,a4,a5⟩:=(amB.ty 3 ((.int .i64)) (by kernel_rfl)).info
 have b2:Ty.sz ((.int .i64))=1:=rfl
 have hz:z.cells.size=1:=by rw [<- Array.length_toList,a5,gZ,b2]
 obtain ⟨t24,t3,t4,mixed,z36,hnt⟩:=MG
 refine Qu Tryz.func308 rfl (by kernel_rfl) ?_
 rw [b2]
 exact Mr (S:=32) (z:=z) t24 a1 a4 (by rw [a2,b2]) hz (fun v hv=>tT ((.int .i64)) v (by rw [<- a5];exact hv)) (by decide) (fun w i v h=>XW w h) (fun w g n c i j w' w'' h1 h2 h3 h4 h5 h6=>XY w h1 h2 h3 h4 h5 h6)
abbrev aaP:Cut:=⟨[4,5,8],[.box 59 [cI,cI,cI,cI,cI,cI,cI,cI,cI,cI,cI,cI,cI,.own 293 qw,.cell .bool,cI,cI,cI,cI,cI,cI,cI,cI,cI,.own 293 qw,.cell .bool,.own 3 (.int .i64),.cell .bool],.box 127 [cI,cI,cI,cI],cI],[],70,[]⟩
def PZ (k:Nat) (g13:wu -> Int -> Int -> Int -> Int -> Int -> Option Vl) (x:za) (a b c e f:Int):Option Vl :=
 (bif decide (f≥0) then
  ix x.2.2.2.2.2.2.1 f <|
  (bif (rd x.2.2.2.2.2.2.1 f 0)==b then
   (ap8 k x.2.2.2.2.2.2.1 f (IntKind.i64.wrap (f+1))).bind fun q5 =>
   some (((w6 x q5.1.1),(a,b,c,e),true,()),())
  else
   g13 x a b c e (IntKind.i64.wrap (f - 1)))
 else
  some ((x,(a,b,c,e),true,()),()))
def aeZ (k:Nat) (g:((Unit)×ajh×Vm×Int×Unit) -> Option Vl) (d:(Unit)×ajh×Vm×Int×Unit):Option Vl:=PZ k (fun x a b c e f=>g ((),trJ x,(a,b,c,e,()),f,())) (tvJ d.2.1) d.2.2.1.1 d.2.2.1.2.1 d.2.2.1.2.2.1 d.2.2.1.2.2.2.1 d.2.2.2.1
def Q0 (k a:Nat) (x:za) (b c e f h:Int):Option Vl:=iter aaP (aeZ k) a ((),trJ x,(b,c,e,f,()),h,())
theorem Vp (k a x b c e f h):Q0 k (a+1) x b c e f h=PZ k (Q0 k a) x b c e f h:=Ba _ _ _ _
def amC (k:Nat) (a:aaw) (b:za):Option Vl :=
 (ag5 k b).bind fun q0 =>
 (amx k a b).bind fun q1 =>
 (ajQ k q1.1.1 b.2.2.2.2.1).bind fun q2 =>
 (bif !q2.1.2.2.1 then
  some ((q0.1.1,(0,0,0,0),false,()),())
 else
  (bif q2.1.2.1.1==11 then
   (aaM k q2.1.1).bind fun q3 =>
   some (((w5 (w4 q0.1.1 q2.1.1) q3.1.1),q2.1.2.1,true,()),())
  else
   (bif q2.1.2.1.1==9 then
    ap q0.1.1.2.2.2.2.2.2.1 ([q2.1.2.1.2.1]:List Int) 8 fun r4 =>
    some (((w6 (w4 q0.1.1 q2.1.1) r4),q2.1.2.1,true,()),())
   else
    (bif q2.1.2.1.1==10 then
     Q0 k k (w4 q0.1.1 q2.1.1) q2.1.2.1.1 q2.1.2.1.2.1 q2.1.2.1.2.2.1 q2.1.2.1.2.2.2 (IntKind.i64.wrap ((q0.1.1.2.2.2.2.2.2.1.length:Int) - 1))
    else
     some (((w4 q0.1.1 q2.1.1),q2.1.2.1,true,()),())))))
def F238:Fn:=⟨[Vo,FE],[aaA,ajo,rB],fun k x=>amC k x.1 x.2.1⟩
theorem ok238:O 238 F238:=okF (ah ok110 <| ah ok305 <| ah ok306 <| ah ok307 <| ah ok308 aj) [] (fun k=>(.loop 13 aaP (aeZ k) (fun g=>.nil) .nil)) Tryz.func238 rfl
def amD (k:Nat) (a:ng) (b c:Int):Option ((o7×Bool×Unit)×Unit) :=
 (ajv k a).bind fun q0 =>
 (ajw k a b).bind fun q1 =>
 (bif !q1.1.1 then
  some ((q0.1.1,false,()),())
 else
  ix a b <|
  (bif (rd a b (0,0)).2 != 0 then
   some ((q0.1.1,false,()),())
  else
   ix q0.1.1 b <|
   some ((upd q0.1.1 b ((rd q0.1.1 b (0,0)).1,IntKind.i64.wrap (c+1)),true,()),())))
def F239:Fn:=⟨[FD,au,au],[aem,rB],fun k (a,b,c,_)=>amD k a b c⟩
theorem ok239:O 239 F239:=okF (ah ok292 <| ah ok309 aj) [] On Tryz.func239 rfl
def amE (k:Nat) (a:ng) (b c:Int):Option ((o7×Bool×Unit)×Unit) :=
 (ajv k a).bind fun q0 =>
 (ag1 k a b c).bind fun q1 =>
 (bif !q1.1.1 then
  some ((q0.1.1,false,()),())
 else
  ix q0.1.1 b <|
  some ((upd q0.1.1 b ((rd q0.1.1 b (0,0)).1,0),true,()),()))
def F240:Fn:=⟨[FD,au,au],[aem,rB],fun k (a,b,c,_)=>amE k a b c⟩
theorem ok240:O 240 F240:=okF (ah ok292 <| ah ok293 aj) [] On Tryz.func240 rfl
def amF (k:Nat) (a:za):Option ((wu×Unit)×Unit) :=
 (ag5 k a).bind fun q0 =>
 (UF k a.2.2.2.2.1.2.1.1).bind fun q1 =>
 (UF k a.2.2.2.2.1.2.1.1).bind fun q2 =>
 some (((q0.1.1.1,q0.1.1.2.1,q0.1.1.2.2.1,2,q1.1.1,q2.1.1,[],false),()),())
def F310:Fn:=⟨[FE],[aaA],fun k x=>amF k x.1⟩
theorem ok310:O 310 F310:=okF (ah ok109 <| ah ok305 aj) [] On Tryz.func310 rfl
abbrev amG:Cut:=⟨[0,1],[.pin false 0,.pin false 1],[.fK 166 [cI,cI,.own 54 zf,.own 168 BJ,.cell .bool,.cell .bool,.cell .bool,.own 59 KA,.own 3 (.int .i64),.own 4 .bool,.own 142 AL,.own 3 (.int .i64),.own 4 .bool,.own 51 qx],.fK 59 [cI,cI,cI,cI,cI,cI,cI,cI,cI,cI,cI,cI,cI,.own 293 qw,.cell .bool,cI,cI,cI,cI,cI,cI,cI,cI,cI,.own 293 qw,.cell .bool,.own 3 (.int .i64),.cell .bool]],95,[]⟩
def MH (k:Nat) (a:p8) (b:za):Option aay :=
 (ab6 k a.1.2.2.2.2.2.2.2.2.2 b.1).bind fun q3 =>
 (amF k b).bind fun q4 =>
 ix a.1.2.2.1 q4.1.1.1 <|
 some ((((rd a.1.2.2.1 q4.1.1.1 bg).2.2.2.2.2.length:Int)==0,()),y7 ((z9 a.1 q3.1.1),a.2),trJ q4.1.1,())
def amH (k:Nat) (a:p8) (b:za):Option aay :=
 (bif b.2.2.2.1==2 then
  (J3 k a (0,4,b.1,0,b.2.2.2.2.1.2.1.1,0)).bind fun q0 =>
  some ((true,()),q0.2.1,trJ b,())
 else
  (J3 k a (0,3,b.1,0,b.2.2.2.2.1.2.1.1,0)).bind fun q1 =>
  (bif b.2.2.2.1==0 then
   ix (um q1.2.1).1.2.2.1 b.1 <|
   (bif decide (((rd (um q1.2.1).1.2.2.1 b.1 bg).2.2.2.2.1.length:Int)>0) then
    (J3 k (um q1.2.1) (0,8,b.1,0,0,0)).bind fun q2 =>
    MH k (um q2.2.1) b
   else
    MH k (um q1.2.1) b)
  else
   MH k (um q1.2.1) b))
def F241:Fn:=⟨[XD,.fK 59 [cI,cI,cI,cI,cI,cI,cI,cI,cI,cI,cI,cI,cI,.own 293 qw,.cell .bool,cI,cI,cI,cI,cI,cI,cI,cI,cI,.own 293 qw,.cell .bool,.own 3 (.int .i64),.cell .bool]],[rB],fun k x=>amH k (um x.1) (tvJ x.2.1)⟩
theorem ok241:O 241 F241:=okF (ah ok129 <| ah ok146a <| ah ok310 aj) [] (fun k=>(.join 8 amG (fun d=>MH k (um d.1.1) (tvJ d.1.2.1)) .nil)) Tryz.func241 rfl
abbrev ajR:Cut:=⟨[0,1],[.pin false 0,.pin false 1],[.fK 166 [cI,cI,.own 54 zf,.own 168 BJ,.cell .bool,.cell .bool,.cell .bool,.own 59 KA,.own 3 (.int .i64),.own 4 .bool,.own 142 AL,.own 3 (.int .i64),.own 4 .bool,.own 51 qx],.fK 59 [cI,cI,cI,cI,cI,cI,cI,cI,cI,cI,cI,cI,cI,.own 293 qw,.cell .bool,cI,cI,cI,cI,cI,cI,cI,cI,cI,.own 293 qw,.cell .bool,.own 3 (.int .i64),.cell .bool]],92,[]⟩
def GZ (k:Nat) (a:p8) (b:za):Option aay :=
 (bif b.2.2.2.2.1.2.2.2 then
  (amH k a b).bind fun q7 =>
  some ((q7.1.1,()),q7.2.1,q7.2.2.1,())
 else
  some ((false,()),y7 a,trJ b,()))
def amI (k:Nat) (a:p8) (b:za):Option aay :=
 ix a.1.2.2.1 b.1 <|
 (amC k (rd a.1.2.2.1 b.1 bg) b).bind fun q0 =>
 (bif !q0.1.2.2.1 then
  some ((false,()),y7 a,trJ b,())
 else
  (bif q0.1.2.1.1==9 then
   (S48 k a.1).bind fun q1 =>
   (amD k q1.1.1 q0.1.2.1.2.1 q0.1.1.1).bind fun q2 =>
   (ag6 k a q2.1.1).bind fun q3 =>
   GZ k (um q3.2.1) q0.1.1
  else
   (bif q0.1.2.1.1==10 then
    (S48 k a.1).bind fun q4 =>
    (amE k q4.1.1 q0.1.2.1.2.1 q0.1.1.1).bind fun q5 =>
    (ag6 k a q5.1.1).bind fun q6 =>
    GZ k (um q6.2.1) q0.1.1
   else
    GZ k a q0.1.1)))
def F151:Fn:=⟨[XD,arn],[rB],fun k x=>amI k (um x.1) (tvJ x.2.1)⟩
theorem ok151:O 151 F151:=okF (ah ok48 <| ah ok61b <| ah ok238 <| ah ok239 <| ah ok240 <| ah ok241 aj) [] (fun k=>(.join 12 ajR (fun d=>GZ k (um d.1.1) (tvJ d.1.2.1)) .nil)) Tryz.func151 rfl
def S81 (k:Nat) (a:p8):Option lq :=
 (S48 k a.1).bind fun q0 =>
 (amt k a.1.2.2.2.2.2.2.2.1 (a.1.2.2.1.length:Int) q0.1.1).bind fun q1 =>
 (bif a.1.2.2.2.2.2.1 then
  some ((),y7 a,())
 else
  (bif !q1.1.2.1 then
   some ((),y7 a,())
  else
   ix a.1.2.2.2.2.2.2.2.1 q1.1.1 <|
   (J3 k a (0,2,(rd a.1.2.2.2.2.2.2.2.1 q1.1.1 ay).1,0,0,0)).bind fun q2 =>
   (bif (um q2.2.1).1.2.2.2.2.2.2.1 then
    (amw k (um q2.2.1) (rd a.1.2.2.2.2.2.2.2.1 q1.1.1 ay)).bind fun q3 =>
    ix (um q3.2.1).1.2.2.2.2.2.2.2.1 q1.1.1 <|
    (bif q3.1.1 then
     (S72 k (upd (um q3.2.1).1.2.2.2.2.2.2.2.1 q1.1.1 (tvJ q3.2.2.1)) q1.1.1 (IntKind.i64.wrap (q1.1.1+1))).bind fun q4 =>
     some ((),y7 ((w7 (um q3.2.1).1 q4.1.1),(um q3.2.1).2),())
    else
     some ((),y7 ((w7 (um q3.2.1).1 (upd (um q3.2.1).1.2.2.2.2.2.2.2.1 q1.1.1 (tvJ q3.2.2.1))),(um q3.2.1).2),()))
   else
    (amI k (um q2.2.1) (rd a.1.2.2.2.2.2.2.2.1 q1.1.1 ay)).bind fun q5 =>
    ix (um q5.2.1).1.2.2.2.2.2.2.2.1 q1.1.1 <|
    (bif q5.1.1 then
     (S72 k (upd (um q5.2.1).1.2.2.2.2.2.2.2.1 q1.1.1 (tvJ q5.2.2.1)) q1.1.1 (IntKind.i64.wrap (q1.1.1+1))).bind fun q6 =>
     some ((),y7 ((w7 (um q5.2.1).1 q6.1.1),(um q5.2.1).2),())
    else
     some ((),y7 ((w7 (um q5.2.1).1 (upd (um q5.2.1).1.2.2.2.2.2.2.2.1 q1.1.1 (tvJ q5.2.2.1))),(um q5.2.1).2),())))))
def F81:Fn:=⟨[XD],[],fun k x=>S81 k (um x.1)⟩
theorem ok81:O 81 F81:=okF (ah ok48 <| ah ok72 <| ah ok146a <| ah ok150 <| ah ok151 <| ah ok152 aj) [] On Tryz.func81 rfl
def S33 (k:Nat) (a:O6):Option ((FX×BK×Unit)×Unit) :=
 (S56 k a).bind fun q0 =>
 (bif q0.1.1.2.2.2.2.1 then
  (bif !q0.1.1.2.2.2.2.2.1 then
   (S78 k (q0.1.1,([]:List (PN Int 6)))).bind fun q1 =>
   (S79 k (um q1.2.1)).bind fun q2 =>
   (S80 k (um q2.2.1)).bind fun q3 =>
   (S81 k (um q3.2.1)).bind fun q4 =>
   some (((w6 (w0 (um q4.2.1).1 (IntKind.i64.wrap ((um q4.2.1).1.1+1))) false),(um q4.2.1).2,()),())
  else
   some (((w6 (w0 q0.1.1 (IntKind.i64.wrap (q0.1.1.1+1))) false),([]:List (PN Int 6)),()),()))
 else
  some (((w6 (w0 q0.1.1 (IntKind.i64.wrap (q0.1.1.1+1))) false),([]:List (PN Int 6)),()),()))
def F33:Fn:=⟨[ael],[aen,aej],fun k x=>S33 k x.1⟩
theorem ok33:O 33 F33:=okF (ah ok56 <| ah ok78 <| ah ok79 <| ah ok80 <| ah ok81 aj) [(8,2)] On Tryz.func33 rfl
def amJ (k:Nat) (a:aei) (b:Int):Option ((RG×Bool×Unit)×Unit) :=
 (UE k a).bind fun q0 =>
 (ab3 k a b).bind fun q1 =>
 (bif !q1.1.1 then
  some ((q0.1.1,false,()),())
 else
  ix q0.1.1.2 b <|
  ix q0.1.1.2 b <|
  some (((q0.1.1.1,upd q0.1.1.2 b (z5 (rd q0.1.1.2 b bf) (Uo .u32 (rd q0.1.1.2 b bf).2.2.2.2.2))),true,()),()))
def F105:Fn:=⟨[amc,au],[apW,rB],fun k x=>amJ k x.1 x.2.1⟩
theorem ok105:O 105 F105:=okF (ah ok185 <| ah ok186 aj) [] On Tryz.func105 rfl
abbrev ae0:Cut:=⟨[2,4,6,7,8,65,66],[.box 42 [cI,cI,.cell (.sl 54 zf),.cell J2,.cell .bool,.cell .bool,.cell .bool,.cell BN,.cell oh,.cell DJ,.cell IZ,.cell oh,.cell DJ],.box 42 [cI,cI,.nil,.nil,.cell .bool,.cell .bool,.cell .bool,.nil,.nil,.nil,.nil,.nil,.nil],.box 105 [cI,cI,cI,cI],.box 105 [cI,cI,cI,cI],.own 51 qx,cI,cI],[],87,[]⟩
def XZ (k:Nat) (g21:FX -> Int -> Int -> Bool -> Bool -> Bool -> Int -> Int -> Int -> Int -> Int -> Int -> Int -> Int -> BK -> Int -> Int -> Option RH) (a:O6) (b c:Int) (e f h:Bool) (i l m n o p s t:Int) (u:List (PN Int 6)) (v w:Int):Option RH :=
 (bif decide (w<v) then
  (S33 k a).bind fun q8 =>
  ap u q8.1.2.1 48 fun r9 =>
  g21 q8.1.1 b c e f h i l m n o p s t r9 v (IntKind.i64.wrap (w+1))
 else
  (S30 k a (-1) 0).bind fun q10 =>
  some ((q10.1.1,u,(o,(p,s),t),()),()))
def ajS (k:Nat) (g:((Unit)×aed×aoJ×Vm×Vm×BK×Int×Int×Unit) -> Option RH) (d:(Unit)×aed×aoJ×Vm×Vm×BK×Int×Int×Unit):Option RH:=XZ k (fun a b c e f h i l m n o p s t u v w=>g ((),LH a,(b,c,(),(),e,f,h,(),(),(),(),(),(),()),(i,l,m,n,()),(o,p,s,t,()),u,v,w,())) (Zh d.2.1) d.2.2.1.1 d.2.2.1.2.1 d.2.2.1.2.2.2.2.1 d.2.2.1.2.2.2.2.2.1 d.2.2.1.2.2.2.2.2.2.1 d.2.2.2.1.1 d.2.2.2.1.2.1 d.2.2.2.1.2.2.1 d.2.2.2.1.2.2.2.1 d.2.2.2.2.1.1 d.2.2.2.2.1.2.1 d.2.2.2.2.1.2.2.1 d.2.2.2.2.1.2.2.2.1 d.2.2.2.2.2.1 d.2.2.2.2.2.2.1 d.2.2.2.2.2.2.2.1
def Y0 (k a:Nat) (b:O6) (c e:Int) (f h i:Bool) (l m n o p s t u:Int) (v:List (PN Int 6)) (w y:Int):Option RH:=iter ae0 (ajS k) a ((),LH b,(c,e,(),(),f,h,i,(),(),(),(),(),(),()),(l,m,n,o,()),(p,s,t,u,()),v,w,y,())
theorem aaQ (k a b c e f h i l m n o p s t u v w y):Y0 k (a+1) b c e f h i l m n o p s t u v w y=XZ k (Y0 k a) b c e f h i l m n o p s t u v w y:=Ba _ _ _ _
def S45 (k:Nat) (a:O6) (b:Int×(Int×FJ×(Int×Int)×Int×Int×Int)×Int×Int):Option RH :=
 (bif b.1==1 then
  (S41 k a b.2.1).bind fun q0 =>
  some (q0.1,())
 else
  (bif b.1==2 then
   (S33 k a).bind fun q1 =>
   some ((q1.1.1,q1.1.2.1,(0,(0,0),0),()),())
  else
   (bif b.1==3 then
    (S30 k (w6 a true) (-1) 0).bind fun q2 =>
    some ((q2.1.1,([]:List (PN Int 6)),(0,(0,0),0),()),())
   else
    (bif b.1==4 then
     (amJ k a.2.2.2.2.2.2.2.2.1 b.2.2.1).bind fun q3 =>
     (bif !q3.1.2.1 then
      (S30 k a (-1) 0).bind fun q4 =>
      some ((q4.1.1,([]:List (PN Int 6)),(3,(0,0),0),()),())
     else
      (S30 k (w8 a q3.1.1) (-1) 0).bind fun q5 =>
      some ((q5.1.1,([]:List (PN Int 6)),(0,(0,0),0),()),()))
    else
     (bif b.1==5 then
      (bif decide (b.2.2.2<0) then
       (S30 k a (-1) 0).bind fun q6 =>
       some ((q6.1.1,([]:List (PN Int 6)),(1,(0,0),0),()),())
      else
       (bif decide (b.2.2.2>10000) then
        (S30 k a (-1) 0).bind fun q7 =>
        some ((q7.1.1,([]:List (PN Int 6)),(1,(0,0),0),()),())
       else
        Y0 k k a 0 0 false false false 0 0 0 0 0 0 0 0 ([]:List (PN Int 6)) b.2.2.2 0))
     else
      (S30 k a (-1) 0).bind fun OW =>
      some ((OW.1.1,([]:List (PN Int 6)),(1,(0,0),0),()),()))))))
def F45:Fn:=⟨[ael,.val ⟨true,FY,false⟩],[aen,aej,.val ⟨true,aeh,true⟩],fun k x=>S45 k x.1 x.2.1⟩
theorem ok45:O 45 F45:=okF (ah ok30 <| ah ok33 <| ah ok41 <| ah ok105 aj) [(8,2)] (fun k=>(.loop 21 ae0 (ajS k) (fun g=>.nil) .nil)) Tryz.func45 rfl
abbrev ajT:Cut:=⟨[4,5,6,21,22,23],[.box 42 [cI,cI,.own 54 zf,.own 168 BJ,.cell .bool,.cell .bool,.cell .bool,.own 59 KA,.own 3 (.int .i64),.own 4 .bool,.own 142 AL,.own 3 (.int .i64),.own 4 .bool],.own 51 qx,.own 105 aeh,.cell (.sl 100 FY),cI,cI],[],46,[]⟩
def ae1 (k:Nat) (g5:FX -> BK -> (List IY) -> (List wz) -> Int -> Int -> Option Vk) (a:O6) (b:List (PN Int 6)) (c:List IY) (e:List wz) (f h:Int):Option Vk :=
 (bif decide (h<f) then
  ix e h <|
  (S45 k a (rd e h bq)).bind fun q1 =>
  ap b q1.1.2.1 48 fun r2 =>
  ap c ([q1.1.2.2.1]:List IY) 32 fun r3 =>
  g5 q1.1.1 r2 r3 e f (IntKind.i64.wrap (h+1))
 else
  some ((a,b,c,true,()),()))
def aoV (k:Nat) (g:((Unit)×aed×BK×(List IY)×(List wz)×Int×Int×Unit) -> Option Vk) (d:(Unit)×aed×BK×(List IY)×(List wz)×Int×Int×Unit):Option Vk:=ae1 k (fun a b c e f h=>g ((),LH a,b,c,e,f,h,())) (Zh d.2.1) d.2.2.1 d.2.2.2.1 d.2.2.2.2.1 d.2.2.2.2.2.1 d.2.2.2.2.2.2.1
def ae2 (k a:Nat) (b:O6) (c:List (PN Int 6)) (e:List IY) (f:List wz) (h i:Int):Option Vk:=iter ajT (aoV k) a ((),LH b,c,e,f,h,i,())
theorem ae3 (k a b c e f h i):ae2 k (a+1) b c e f h i=ae1 k (ae2 k a) b c e f h i:=Ba _ _ _ _
def S19 (k:Nat) (a:Int) (b:List wz):Option Vk :=
 (S36 k a).bind fun q0 =>
 (bif !q0.1.2.1 then
  some (((0,0,[],[],false,false,false,[],(([],[]),[]),[],[]),([]:List (PN Int 6)),([]:List IY),false,()),())
 else
  ae2 k k q0.1.1 ([]:List (PN Int 6)) ([]:List IY) b (b.length:Int) 0)
def F19:Fn:=⟨[au,.val ⟨false,(.sl 100 FY),false⟩],[aen,aej,.val ⟨false,(.sl 105 aeh),true⟩,rB],fun k x=>S19 k x.1 x.2.1⟩
theorem ok19:O 19 F19:=okF (ah ok36 <| ah ok45 aj) [(5,2),(6,2)] (fun k=>(.loop 5 ajT (aoV k) (fun g=>.nil) .nil)) Tryz.func19 rfl
def S43 (k:Nat):Option kg :=
 (S19 k 10 ([(2,bn,0,0),(5,bn,0,3),(9,bn,0,0)]:List wz)).bind fun q0 =>
 (S19 k 0 []).bind fun q1 =>
 (S45 k q0.1.1 (3,bn,0,0)).bind fun q2 =>
 (bif q0.1.2.2.2.1 then
  (bif q0.1.1.1==4 then
   (bif (q0.1.2.1.length:Int)==0 then
    (bif (q0.1.2.2.1.length:Int)==3 then
     ix q0.1.2.2.1 2 <|
     (bif (rd q0.1.2.2.1 2 (0,(0,0),0)).1==1 then
      (bif !q1.1.2.2.2.1 then
       (bif q2.1.1.2.2.2.2.2.2.1 then
        some ((q2.1.2.2.1.1==0,()),())
       else
        some ((false,()),()))
      else
       some ((false,()),()))
     else
      some ((false,()),()))
    else
     some ((false,()),()))
   else
    some ((false,()),()))
  else
   some ((false,()),()))
 else
  some ((false,()),()))
def F43:Fn:=⟨[],[rB],fun k x=>S43 k ⟩
theorem ok43:O 43 F43:=okF (ah ok19 <| ah ok45 aj) [] On Tryz.func43 rfl
def S16 (k:Nat) (a:List Int):Option ((DF×Unit)×Unit) :=
 some (((a,0,()),()),())
def F16:Fn:=⟨[.val ⟨false,DI,false⟩],[.pv (.box 129 [.cell DI,cI])],fun k x=>S16 k x.1⟩
theorem ok16:O 16 F16:=okF aj [] On Tryz.func16 rfl
def zu (k:Nat) (a:List Int) (b c:Int):Option ((Int×Unit)×DF×Unit) :=
 (bif decide (b≥(a.length:Int)) then
  some ((0,()),(a,b,()),())
 else
  ix a (IntKind.i64.wrap ((IntKind.i64.wrap (b+1)) - 1)) <|
  nz c <|
  some ((Int.tmod (IntKind.i64.wrap (rd a (IntKind.i64.wrap ((IntKind.i64.wrap (b+1)) - 1)) 0)) c,()),(a,IntKind.i64.wrap (b+1),()),()))
def F29:Fn:=⟨[OA,au],[rI],fun k ((a,b,_),c,_)=>zu k a b c⟩
theorem ok29:O 29 F29:=okF aj [] On Tryz.func29 rfl
def UG (k:Nat) (a:Int×FJ×(Int×Int)×Int×Int×Int):Option ((wz×Unit)×Unit) :=
 some (((1,a,0,0),()),())
def F40:Fn:=⟨[aro],[.val ⟨true,FY,false⟩],fun k x=>UG k x.1⟩
theorem ok40:O 40 F40:=okF aj [] On Tryz.func40 rfl
def ag7 (k:Nat) (a:List Int) (b:Int):Option ((lg×Unit)×DF×Unit) :=
 (zu k a b 3).bind fun q0 =>
 (zu k q0.2.1.1 q0.2.1.2.1 3).bind fun q1 =>
 (zu k q1.2.1.1 q1.2.1.2.1 6).bind fun q2 =>
 (bif q2.1.1==0 then
  (zu k q2.2.1.1 q2.2.1.2.1 9).bind fun q3 =>
  some (((1,q0.1.1,0,IntKind.i64.wrap (q3.1.1 - 4)),()),q3.2.1,())
 else
  (bif q2.1.1==1 then
   some (((2,q0.1.1,q1.1.1,0),()),q2.2.1,())
  else
   (bif q2.1.1==2 then
    some (((3,q0.1.1,q1.1.1,0),()),q2.2.1,())
   else
    (bif q2.1.1==3 then
     some (((4,q0.1.1,q1.1.1,0),()),q2.2.1,())
    else
     (bif q2.1.1==4 then
      (zu k q2.2.1.1 q2.2.1.2.1 7).bind fun q4 =>
      some (((5,q0.1.1,0,IntKind.i64.wrap (q4.1.1 - 3)),()),q4.2.1,())
     else
      (zu k q2.2.1.1 q2.2.1.2.1 64).bind fun q5 =>
      some (((6,q0.1.1,0,IntKind.i64.wrap (1+q5.1.1)),()),q5.2.1,()))))))
def F281:Fn:=⟨[OA],[ajo],fun k x=>ag7 k x.1.1 x.1.2.1⟩
theorem ok281:O 281 F281:=okF (ah ok29 aj) [] On Tryz.func281 rfl
abbrev ae4:Cut:=⟨[0,2,7,8],[.pin false 0,cI,.own 127 O9,cI],[.fK 129 [.cell DI,cI]],47,[]⟩
def Y1 (k:Nat) (g3:aef) (a:List Int) (b c:Int) (e:List lg) (f:Int):Option IX :=
 (bif decide (f>0) then
  (bif decide (c>0) then
   (zu k a b 4).bind fun q1 =>
   (bif q1.1.1==0 then
    (zu k q1.2.1.1 q1.2.1.2.1 c).bind fun q2 =>
    ap e ([(9,q2.1.1,0,0)]:List lg) 32 fun r3 =>
    (ag7 k q2.2.1.1 q2.2.1.2.1).bind fun q4 =>
    ap r3 ([q4.1.1]:List lg) 32 fun r5 =>
    ap r5 ([(10,q2.1.1,0,0)]:List lg) 32 fun r6 =>
    g3 q4.2.1.1 q4.2.1.2.1 c r6 (IntKind.i64.wrap (f - 1))
   else
    (ag7 k q1.2.1.1 q1.2.1.2.1).bind fun q7 =>
    ap e ([q7.1.1]:List lg) 32 fun r8 =>
    g3 q7.2.1.1 q7.2.1.2.1 c r8 (IntKind.i64.wrap (f - 1)))
  else
   (ag7 k a b).bind fun q9 =>
   ap e ([q9.1.1]:List lg) 32 fun r10 =>
   g3 q9.2.1.1 q9.2.1.2.1 c r10 (IntKind.i64.wrap (f - 1)))
 else
  some ((e,()),(a,b,()),()))
def ajU (k:Nat):Xx (((DF×Unit)×Unit×Int×(List lg)×Int×Unit) -> Option IX):=eu (d9 (d9 (dh (dh dx)) dx) (dw (dh (dh (dh dx))))) (Y1 k)
def Y2 (k a:Nat) (b:List Int) (c e:Int) (f:List lg) (h:Int):Option IX:=iter ae4 (ajU k) a (((b,c,()),()),(),e,f,h,())
theorem aaR (k a b c e f h):Y2 k (a+1) b c e f h=Y1 k (Y2 k a) b c e f h:=Ba _ _ _ _
def ag8 (k:Nat) (a:List Int) (b c e:Int):Option IX :=
 (zu k a b c).bind fun q0 =>
 Y2 k k q0.2.1.1 q0.2.1.2.1 e ([]:List lg) (IntKind.i64.wrap (q0.1.1+1))
def F210:Fn:=⟨[OA,au,au],[ajn],fun k ((a,b,_),c,e,_)=>ag8 k a b c e⟩
theorem ok210:O 210 F210:=okF (ah ok29 <| ah ok281 aj) [(7,2)] (fun k=>(.loop 3 ae4 (ajU k) (fun g=>.nil) .nil)) Tryz.func210 rfl
abbrev ajV:Cut:=⟨[0,1,5,6,7],[.pin false 0,cI,.own 127 O9,cI,.own 127 O9],[.fK 129 [.cell DI,cI]],66,[]⟩
def EA (k:Nat) (g3:aef) (a:List Int) (b c:Int) (e:List lg) (f:Int) (x:List lg):Option IX :=
 (bif decide ((IntKind.i64.wrap ((e.length:Int)+(x.length:Int)))<23) then
  ap e x 32 fun r9 =>
  g3 a b c r9 (IntKind.i64.wrap (f - 1))
 else
  g3 a b c e (IntKind.i64.wrap (f - 1)))
abbrev ae5:Cut:=⟨[0,1,5,6],[.pin false 0,cI,.own 127 O9,cI],[.fK 129 [.cell DI,cI]],66,[]⟩
def Y3 (k:Nat) (g3:aef) (a:List Int) (b c:Int) (e:List lg) (f:Int):Option IX :=
 (bif decide (f>0) then
  (zu k a b 5).bind fun q1 =>
  (bif q1.1.1==0 then
   (ag8 k q1.2.1.1 q1.2.1.2.1 2 c).bind fun q2 =>
   (zu k q2.2.1.1 q2.2.1.2.1 3).bind fun q3 =>
   ap ([(8,0,(q2.1.1.length:Int),IntKind.i64.wrap (1+q3.1.1))]:List lg) q2.1.1 32 fun r4 =>
   EA k g3 q3.2.1.1 q3.2.1.2.1 c e f r4
  else
   (bif q1.1.1==1 then
    (ag8 k q1.2.1.1 q1.2.1.2.1 2 c).bind fun q5 =>
    (zu k q5.2.1.1 q5.2.1.2.1 3).bind fun q6 =>
    ap ([(7,q6.1.1,0,(q5.1.1.length:Int))]:List lg) q5.1.1 32 fun r7 =>
    EA k g3 q6.2.1.1 q6.2.1.2.1 c e f r7
   else
    (bif q1.1.1==2 then
     EA k g3 q1.2.1.1 q1.2.1.2.1 c e f ([(11,0,0,0)]:List lg)
    else
     (ag8 k q1.2.1.1 q1.2.1.2.1 2 c).bind fun q8 =>
     EA k g3 q8.2.1.1 q8.2.1.2.1 c e f q8.1.1)))
 else
  ap e ([(0,0,0,0)]:List lg) 32 fun r10 =>
  some ((r10,()),(a,b,()),()))
def ajW (k:Nat):Xx (((DF×Unit)×Unit×Int×(List lg)×Int×Unit) -> Option IX):=eu (d9 (d9 (dh (dh dx)) dx) (dw (dh (dh (dh dx))))) (Y3 k)
def FZ (k a:Nat) (b:List Int) (c e:Int) (f:List lg) (h:Int):Option IX:=iter ae5 (ajW k) a (((b,c,()),()),(),e,f,h,())
theorem aaS (k a b c e f h):FZ k (a+1) b c e f h=Y3 k (FZ k a) b c e f h:=Ba _ _ _ _
def ajX (k:Nat) (a:List Int) (b c:Int):Option IX :=
 (zu k a b 4).bind fun q0 =>
 FZ k k q0.2.1.1 q0.2.1.2.1 c ([]:List lg) (IntKind.i64.wrap (q0.1.1+1))
def F120:Fn:=⟨[OA,au],[ajn],fun k ((a,b,_),c,_)=>ajX k a b c⟩
theorem ok120:O 120 F120:=okF (ah ok29 <| ah ok210 aj) [(5,2)] (fun k=>(.loop 3 ae5 (ajW k) (fun g=>(fun (g3:aef)=>(.join 16 ajV (fun (((a,b,_),_),_,c,e,f,h,_)=>EA k g3 a b c e f h) .nil)) (fun p2 p3 EB l_ i=>g (((p2,p3,()),()),(),EB,l_,i,()))) .nil)) Tryz.func120 rfl
abbrev aqb:Cut:=⟨[0,6,7],[.pin false 0,.box 54 [cI,cI,cI,.nil,.nil,.nil],.box 54 [cI,cI,cI,.own 127 O9,.cell vk,.own 127 O9]],[.fK 129 [.cell DI,cI]],41,[]⟩
def aaT (k:Nat) (a:List Int) (b c e f h i l:Int) (m n o:List lg):Option ((FJ×Unit)×DF×Unit) :=
 (zu k a b 3).bind fun q5 =>
 (bif q5.1.1==0 then
  (ajX k q5.2.1.1 q5.2.1.2.1 0).bind fun q6 =>
  some (((h,i,l,m,n,q6.1.1),()),q6.2.1,())
 else
  some (((h,i,l,m,n,o),()),q5.2.1,()))
def S53 (k:Nat) (a:List Int) (b c e:Int):Option ((FJ×Unit)×DF×Unit) :=
 (ajX k a b e).bind fun q0 =>
 (zu k q0.2.1.1 q0.2.1.2.1 12).bind fun q1 =>
 (zu k q1.2.1.1 q1.2.1.2.1 10).bind fun q2 =>
 (zu k q2.2.1.1 q2.2.1.2.1 3).bind fun q3 =>
 (bif q3.1.1==0 then
  (zu k q3.2.1.1 q3.2.1.2.1 2).bind fun q4 =>
  sx ([(1,0,0,99),(0,0,0,0)]:List lg) q4.1.1 (([(1,0,0,99),(0,0,0,0)]:List lg).length:Int) <|
  aaT k q4.2.1.1 q4.2.1.2.1 0 0 0 c (IntKind.i64.wrap (20+(IntKind.i64.wrap (10 * q1.1.1)))) (IntKind.i64.wrap ((IntKind.i64.wrap (20+(IntKind.i64.wrap (10 * q1.1.1)))) - q2.1.1)) q0.1.1 (sub ([(1,0,0,99),(0,0,0,0)]:List lg) q4.1.1 (([(1,0,0,99),(0,0,0,0)]:List lg).length:Int)) ([]:List lg)
 else
  aaT k q3.2.1.1 q3.2.1.2.1 0 0 0 c (IntKind.i64.wrap (20+(IntKind.i64.wrap (10 * q1.1.1)))) (IntKind.i64.wrap ((IntKind.i64.wrap (20+(IntKind.i64.wrap (10 * q1.1.1)))) - q2.1.1)) q0.1.1 ([]:List lg) ([]:List lg))
def F53:Fn:=⟨[OA,au,au],[.val ⟨true,zf,false⟩],fun k ((a,b,_),c,e,_)=>S53 k a b c e⟩
theorem ok53:O 53 F53:=okF (ah ok29 <| ah ok120 aj) [(12,2)] (fun k=>(.join 6 aqb (fun (((a,b,_),_),_,(c,e,f,_),(h,i,l,m,n,o,_),_)=>aaT k a b c e f h i l m n o) .nil)) Tryz.func53 rfl
abbrev amK:Cut:=⟨[3],[.own 100 FY],[.fK 129 [.cell DI,cI]],60,[]⟩
def Y4 (k:Nat) (a:List Int) (b:Int) (c:List wz):Option AP :=
 (UG k (5,bg,(0,0),0,0,0)).bind fun q14 =>
 ap c ([q14.1.1]:List wz) 168 fun r15 =>
 some ((r15,()),(a,b,()),())
abbrev amL:Cut:=⟨[0,3],[.pin false 0,.own 100 FY],[.fK 129 [.cell DI,cI]],60,[]⟩
def RZ (k:Nat) (a:List Int) (b:Int) (c:List wz):Option AP :=
 (zu k a b 3).bind fun OW =>
 (bif OW.1.1==0 then
  (UG k (4,bg,(0,0),0,0,0)).bind fun q12 =>
  ap c ([q12.1.1]:List wz) 168 fun r13 =>
  Y4 k OW.2.1.1 OW.2.1.2.1 r13
 else
  Y4 k OW.2.1.1 OW.2.1.2.1 c)
abbrev ajY:Cut:=⟨[0,3,4,6],[.pin false 0,.own 100 FY,cI,cI],[.fK 129 [.cell DI,cI]],60,[]⟩
def ae6 (k:Nat) (g8:(List Int) -> Int -> (List wz) -> Int -> Int -> Option AP) (a:List Int) (b:Int) (c:List wz) (e f:Int):Option AP :=
 (bif decide (f>0) then
  (zu k a b 3).bind fun q4 =>
  (S53 k q4.2.1.1 q4.2.1.2.1 (IntKind.i64.wrap ((IntKind.i64.wrap (3 * f))+q4.1.1)) e).bind fun q5 =>
  (UG k (1,q5.1.1,(0,0),0,0,0)).bind fun q6 =>
  ap c ([q6.1.1]:List wz) 168 fun r7 =>
  g8 q5.2.1.1 q5.2.1.2.1 r7 e (IntKind.i64.wrap (f - 1))
 else
  (zu k a b 3).bind fun q8 =>
  (bif q8.1.1==0 then
   (UG k (3,bg,(0,0),0,0,0)).bind fun q9 =>
   ap c ([q9.1.1]:List wz) 168 fun r10 =>
   RZ k q8.2.1.1 q8.2.1.2.1 r10
  else
   RZ k q8.2.1.1 q8.2.1.2.1 c))
def aoW (k:Nat):Xx (((DF×Unit)×Unit×(List wz)×Int×Int×Unit) -> Option AP):=eu (d9 (d9 (dh (dh dx)) dx) (dw (dh (dh (dh dx))))) (ae6 k)
def aaU (k a:Nat) (b:List Int) (c:Int) (e:List wz) (f h:Int):Option AP:=iter ajY (aoW k) a (((b,c,()),()),(),e,f,h,())
theorem ae7 (k a b c e f h):aaU k (a+1) b c e f h=ae6 k (aaU k a) b c e f h:=Ba _ _ _ _
abbrev ajZ:Cut:=⟨[0,3,4,5],[.pin false 0,.own 100 FY,cI,cI],[.fK 129 [.cell DI,cI]],60,[]⟩
def ae8 (k:Nat) (g4:(List Int) -> Int -> (List wz) -> Int -> Int -> Option AP) (a:List Int) (b:Int) (c:List wz) (e f:Int):Option AP :=
 (bif decide (f<e) then
  (UG k (2,bg,(0,0),0,0,0)).bind fun q1 =>
  ap c ([q1.1.1]:List wz) 168 fun r2 =>
  g4 a b r2 e (IntKind.i64.wrap (f+1))
 else
  (zu k a b 4).bind fun q3 =>
  aaU k k q3.2.1.1 q3.2.1.2.1 c e (IntKind.i64.wrap (q3.1.1+1)))
def aoX (k:Nat):Xx (((DF×Unit)×Unit×(List wz)×Int×Int×Unit) -> Option AP):=eu (d9 (d9 (dh (dh dx)) dx) (dw (dh (dh (dh dx))))) (ae8 k)
def ae9 (k a:Nat) (b:List Int) (c:Int) (e:List wz) (f h:Int):Option AP:=iter ajZ (aoX k) a (((b,c,()),()),(),e,f,h,())
theorem afa (k a b c e f h):ae9 k (a+1) b c e f h=ae8 k (ae9 k a) b c e f h:=Ba _ _ _ _
def S17 (k:Nat) (a:List Int) (b:Int):Option AP :=
 (zu k a b 4).bind fun q0 =>
 ae9 k k q0.2.1.1 q0.2.1.2.1 ([]:List wz) q0.1.1 0
def F17:Fn:=⟨[OA],[aoK],fun k x=>S17 k x.1.1 x.1.2.1⟩
theorem ok17:O 17 F17:=okF (ah ok29 <| ah ok40 <| ah ok53 aj) [(3,2)] (fun k=>(.join 15 amK (fun (((a,b,_),_),c,_)=>Y4 k a b c) (.join 13 amL (fun (((a,b,_),_),_,c,_)=>RZ k a b c) (.loop 8 ajY (aoW k) (fun g=>.nil) (.loop 4 ajZ (aoX k) (fun g=>.nil) .nil))))) Tryz.func17 rfl
def S28 (k:Nat) (a:(List Int)×Int):Option kg :=
 some ((decide (a.2≥(a.1.length:Int)),()),())
def F28:Fn:=⟨[.pv (.ref (.pair DI (.int .i64)))],[rB],fun k x=>S28 k x.1⟩
theorem ok28:O 28 F28:=okF aj [] On Tryz.func28 rfl
def S38 (k:Nat) (a:List Int) (b:Int):Option ((wz×Unit)×DF×Unit) :=
 (zu k a b 8).bind fun q0 =>
 (zu k q0.2.1.1 q0.2.1.2.1 5).bind fun q1 =>
 (zu k q1.2.1.1 q1.2.1.2.1 24).bind fun q2 =>
 (bif q2.1.1==0 then
  (zu k q2.2.1.1 q2.2.1.2.1 6).bind fun q3 =>
  (zu k q3.2.1.1 q3.2.1.2.1 9).bind fun q4 =>
  (UG k (6,bg,(0,0),q3.1.1,IntKind.i64.wrap (q4.1.1 - 4),0)).bind fun q5 =>
  some ((q5.1.1,()),q4.2.1,())
 else
  (bif q2.1.1==1 then
   (zu k q2.2.1.1 q2.2.1.2.1 6).bind fun q6 =>
   (zu k q6.2.1.1 q6.2.1.2.1 9).bind fun q7 =>
   (UG k (6,bg,(0,0),q6.1.1,IntKind.i64.wrap (q7.1.1 - 4),0)).bind fun q8 =>
   some ((q8.1.1,()),q7.2.1,())
  else
   (bif q2.1.1==2 then
    (zu k q2.2.1.1 q2.2.1.2.1 6).bind fun q9 =>
    (zu k q9.2.1.1 q9.2.1.2.1 9).bind fun q10 =>
    (UG k (6,bg,(0,0),q9.1.1,IntKind.i64.wrap (q10.1.1 - 4),0)).bind fun OW =>
    some ((OW.1.1,()),q10.2.1,())
   else
    (bif q2.1.1==3 then
     (zu k q2.2.1.1 q2.2.1.2.1 6).bind fun q12 =>
     (zu k q12.2.1.1 q12.2.1.2.1 9).bind fun Zi =>
     (UG k (6,bg,(0,0),q12.1.1,IntKind.i64.wrap (Zi.1.1 - 4),0)).bind fun q14 =>
     some ((q14.1.1,()),Zi.2.1,())
    else
     (bif q2.1.1==4 then
      (zu k q2.2.1.1 q2.2.1.2.1 6).bind fun q15 =>
      (zu k q15.2.1.1 q15.2.1.2.1 9).bind fun q16 =>
      (UG k (6,bg,(0,0),q15.1.1,IntKind.i64.wrap (q16.1.1 - 4),0)).bind fun q17 =>
      some ((q17.1.1,()),q16.2.1,())
     else
      (bif q2.1.1==5 then
       some (((3,bn,0,0),()),q2.2.1,())
      else
       (bif q2.1.1==6 then
        (zu k q2.2.1.1 q2.2.1.2.1 9).bind fun q18 =>
        some (((4,bn,q18.1.1,0),()),q18.2.1,())
       else
        (bif q2.1.1==7 then
         (zu k q2.2.1.1 q2.2.1.2.1 99).bind fun q19 =>
         (UG k (7,bg,(q0.1.1,IntKind.i64.wrap (1+(IntKind.i64.wrap (Int.tdiv q1.1.1 4)))),0,q19.1.1,0)).bind fun q20 =>
         some ((q20.1.1,()),q19.2.1,())
        else
         (bif q2.1.1==8 then
          (zu k q2.2.1.1 q2.2.1.2.1 4).bind fun q21 =>
          (UG k (8,bg,(q0.1.1,IntKind.i64.wrap (1+(IntKind.i64.wrap (Int.tdiv q1.1.1 4)))),q21.1.1,0,0)).bind fun q22 =>
          some ((q22.1.1,()),q21.2.1,())
         else
          (bif q2.1.1==9 then
           (zu k q2.2.1.1 q2.2.1.2.1 16).bind fun q23 =>
           (UG k (9,bg,(q0.1.1,IntKind.i64.wrap (1+(IntKind.i64.wrap (Int.tdiv q1.1.1 4)))),0,0,IntKind.u32.wrap q23.1.1)).bind fun q24 =>
           some ((q24.1.1,()),q23.2.1,())
          else
           (bif q2.1.1==10 then
            (zu k q2.2.1.1 q2.2.1.2.1 4).bind fun q25 =>
            (zu k q25.2.1.1 q25.2.1.2.1 16).bind fun q26 =>
            (UG k (10,bg,(q0.1.1,IntKind.i64.wrap (1+(IntKind.i64.wrap (Int.tdiv q1.1.1 4)))),q25.1.1,0,IntKind.u32.wrap q26.1.1)).bind fun q27 =>
            some ((q27.1.1,()),q26.2.1,())
           else
            (bif q2.1.1==11 then
             (zu k q2.2.1.1 q2.2.1.2.1 12).bind fun q28 =>
             (zu k q28.2.1.1 q28.2.1.2.1 6).bind fun q29 =>
             (zu k q29.2.1.1 q29.2.1.2.1 9).bind fun q30 =>
             (S53 k q30.2.1.1 q30.2.1.2.1 q30.1.1 2).bind fun q31 =>
             (UG k (IntKind.i64.wrap (1+q28.1.1),q31.1.1,(q0.1.1,IntKind.i64.wrap (1+(IntKind.i64.wrap (Int.tdiv q1.1.1 4)))),q29.1.1,0,0)).bind fun q32 =>
             some ((q32.1.1,()),q31.2.1,())
            else
             (bif q2.1.1==12 then
              (zu k q2.2.1.1 q2.2.1.2.1 30).bind fun q33 =>
              some (((5,bn,0,IntKind.i64.wrap (1+q33.1.1)),()),q33.2.1,())
             else
              (bif q2.1.1==13 then
               (zu k q2.2.1.1 q2.2.1.2.1 30).bind fun q34 =>
               some (((5,bn,0,IntKind.i64.wrap (1+q34.1.1)),()),q34.2.1,())
              else
               some (((2,bn,0,0),()),q2.2.1,())))))))))))))))
def F38:Fn:=⟨[OA],[.val ⟨true,FY,false⟩],fun k x=>S38 k x.1.1 x.1.2.1⟩
theorem ok38:O 38 F38:=okF (ah ok29 <| ah ok40 <| ah ok53 aj) [] On Tryz.func38 rfl
abbrev aj0:Cut:=⟨[0,1,5,6],[.pin false 0,cI,.own 100 FY,cI],[.fK 129 [.cell DI,cI]],25,[]⟩
def afb (k:Nat) (g3:(List Int) -> Int -> Int -> (List wz) -> Int -> Option AP) (a:List Int) (b c:Int) (e:List wz) (f:Int):Option AP :=
 (bif decide (f<c) then
  (S28 k (a,b)).bind fun q1 =>
  (bif !q1.1.1 then
   (S38 k a b).bind fun q2 =>
   ap e ([q2.1.1]:List wz) 168 fun r3 =>
   g3 q2.2.1.1 q2.2.1.2.1 c r3 (IntKind.i64.wrap (f+1))
  else
   some ((e,()),(a,b,()),()))
 else
  some ((e,()),(a,b,()),()))
def aoY (k:Nat):Xx (((DF×Unit)×Unit×Int×(List wz)×Int×Unit) -> Option AP):=eu (d9 (d9 (dh (dh dx)) dx) (dw (dh (dh (dh dx))))) (afb k)
def afc (k a:Nat) (b:List Int) (c e:Int) (f:List wz) (h:Int):Option AP:=iter aj0 (aoY k) a (((b,c,()),()),(),e,f,h,())
theorem afd (k a b c e f h):afc k (a+1) b c e f h=afb k (afc k a) b c e f h:=Ba _ _ _ _
def S18 (k:Nat) (a:List Int) (b c:Int):Option AP :=
 (S17 k a b).bind fun q0 =>
 afc k k q0.2.1.1 q0.2.1.2.1 c q0.1.1 0
def F18:Fn:=⟨[OA,au],[aoK],fun k ((a,b,_),c,_)=>S18 k a b c⟩
theorem ok18:O 18 F18:=okF (ah ok17 <| ah ok28 <| ah ok38 aj) [] (fun k=>(.loop 3 aj0 (aoY k) (fun g=>.nil) .nil)) Tryz.func18 rfl
def S55 (k:Nat) (x:Int×(Int×Int)×(Int×Int)×((List Int)×List Int)×(Int×List (Int×Int))×Int):Option ((y8×Unit)×Unit) :=
 some ((x,()),())
def F55:Fn:=⟨[.val ⟨true,AL,false⟩],[.val ⟨true,AL,false⟩],fun k x=>S55 k x.1⟩
theorem ok55:O 55 F55:=okF aj [] On Tryz.func55 rfl
abbrev aj1:Cut:=⟨[1,2,3,4],[.box 38 [.cell oh,.cell DJ,.cell IZ],.box 64 [.nil,.nil,.nil],.box 64 [.cell oh,.cell DJ,.own 140 AL],cI],[],32,[]⟩
def afe (k:Nat) (g3:(List Int) -> (List Bool) -> (List y8) -> (List Int) -> (List Bool) -> (List y8) -> Int -> Option ((RG×Unit)×Unit)) (a:List Int) (b:List Bool) (c:List y8) (x:List Int) (e:List Bool) (f:List y8) (h:Int):Option ((RG×Unit)×Unit) :=
 (bif decide (h<(c.length:Int)) then
  ix c h <|
  (S55 k (rd c h bf)).bind fun q0 =>
  ap f ([q0.1.1]:List y8) 128 fun r1 =>
  g3 a b c x e r1 (IntKind.i64.wrap (h+1))
 else
  some ((((x,e),f),()),()))
def aoZ (k:Nat):Xx (((Unit)×aee×(Unit×Unit×Unit×Unit)×aee×Int×Unit) -> Option ((RG×Unit)×Unit)):=eu (dw (d9 (dh (dh (dh dx))) (d9 (dw (dw (dw dx))) (d9 (dh (dh (dh dx))) (dh dx))))) (afe k)
def Vq (k a:Nat) (b:List Int) (c:List Bool) (e:List y8) (x:List Int) (f:List Bool) (h:List y8) (i:Int):Option ((RG×Unit)×Unit):=iter aj1 (aoZ k) a ((),(b,c,e,()),((),(),(),()),(x,f,h,()),i,())
theorem aff (k a b c e x f h i):Vq k (a+1) b c e x f h i=afe k (Vq k a) b c e x f h i:=Ba _ _ _ _
def S22 (k:Nat) (a:aei):Option ((RG×Unit)×Unit) :=
 Vq k k a.1.1 a.1.2 a.2 a.1.1 a.1.2 ([]:List y8) 0
def F22:Fn:=⟨[amc],[.val ⟨true,(.pair O8 (.sl 140 AL)),false⟩],fun k x=>S22 k x.1⟩
theorem ok22:O 22 F22:=okF (ah ok55 aj) [(12,2)] (fun k=>(.loop 3 aj1 (aoZ k) (fun g=>.nil) .nil)) Tryz.func22 rfl
def S26 (k:Nat) (a:O6):Option ((FX×Unit)×Unit) :=
 (S22 k a.2.2.2.2.2.2.2.2.1).bind fun q0 =>
 some (((w8 a q0.1.1),()),())
def F26:Fn:=⟨[ael],[.val ⟨true,(.pair (.int .i64) (.pair (.int .i64) (.pair (.sl 54 zf) (.pair J2 (.pair .bool (.pair .bool (.pair .bool (.pair BN (.pair (.pair O8 (.sl 140 AL)) O8))))))))),false⟩],fun k x=>S26 k x.1⟩
theorem ok26:O 26 F26:=okF (ah ok22 aj) [] On Tryz.func26 rfl
abbrev aj2:Cut:=⟨[0,1,5],[.cell (.sl 51 qx),.cell (.sl 51 qx),cI],[],26,[]⟩
def afg (k:Nat) (g4:BK -> BK -> Int -> Option kg) (a b:List (PN Int 6)) (c:Int):Option kg :=
 (bif decide (c<(a.length:Int)) then
  ix a c <|
  ix b c <|
  (bif !(fC qx (rd a c (Qn (α:=Int) 6 0)) (rd b c (Qn (α:=Int) 6 0))) then
   some ((false,()),())
  else
   g4 a b (IntKind.i64.wrap (c+1)))
 else
  some ((true,()),()))
def ao0 (k:Nat):Xx (((Unit)×BK×BK×Int×Unit) -> Option kg):=eu (dw (dh (dh (dh dx)))) (afg k)
def Vr (k a:Nat) (b c:List (PN Int 6)) (e:Int):Option kg:=iter aj2 (ao0 k) a ((),b,c,e,())
theorem afh (k a b c e):Vr k (a+1) b c e=afg k (Vr k a) b c e:=Ba _ _ _ _
def S32 (k:Nat) (a b:List (PN Int 6)):Option kg :=
 (bif (a.length:Int) != (b.length:Int) then
  some ((false,()),())
 else
  Vr k k a b 0)
def F32:Fn:=⟨[aoL,aoL],[rB],fun k x=>S32 k x.1 x.2.1⟩
theorem ok32:O 32 F32:=okF aj [] (fun k=>(.loop 4 aj2 (ao0 k) (fun g=>.nil) .nil)) Tryz.func32 rfl
abbrev afi:Cut:=⟨[0,1,5],[.cell vk,.cell vk,cI],[],26,[]⟩
def Y5 (k:Nat) (g4:(List lg) -> (List lg) -> Int -> Option kg) (a b:List lg) (c:Int):Option kg :=
 (bif decide (c<(a.length:Int)) then
  ix a c <|
  ix b c <|
  (bif !(fC O9 (rd a c (0,0,0,0)) (rd b c (0,0,0,0))) then
   some ((false,()),())
  else
   g4 a b (IntKind.i64.wrap (c+1)))
 else
  some ((true,()),()))
def aj3 (k:Nat):Xx (((Unit)×(List lg)×(List lg)×Int×Unit) -> Option kg):=eu (dw (dh (dh (dh dx)))) (Y5 k)
def Y6 (k a:Nat) (b c:List lg) (e:Int):Option kg:=iter afi (aj3 k) a ((),b,c,e,())
theorem aaV (k a b c e):Y6 k (a+1) b c e=Y5 k (Y6 k a) b c e:=Ba _ _ _ _
def ag9 (k:Nat) (a b:List lg):Option kg :=
 (bif (a.length:Int) != (b.length:Int) then
  some ((false,()),())
 else
  Y6 k k a b 0)
def F226:Fn:=⟨[ajl,ajl],[rB],fun k x=>ag9 k x.1 x.2.1⟩
theorem ok226:O 226 F226:=okF aj [] (fun k=>(.loop 4 afi (aj3 k) (fun g=>.nil) .nil)) Tryz.func226 rfl
def amN (k:Nat) (a b:aaw):Option kg :=
 (bif a.1==b.1 then
  (bif a.2.1==b.2.1 then
   (bif a.2.2.1==b.2.2.1 then
    (ag9 k a.2.2.2.1 b.2.2.2.1).bind fun q0 =>
    (bif q0.1.1 then
     (ag9 k a.2.2.2.2.1 b.2.2.2.2.1).bind fun q1 =>
     (bif q1.1.1 then
      (ag9 k a.2.2.2.2.2 b.2.2.2.2.2).bind fun q2 =>
      some ((q2.1.1,()),())
     else
      some ((false,()),()))
    else
     some ((false,()),()))
   else
    some ((false,()),()))
  else
   some ((false,()),()))
 else
  some ((false,()),()))
def F136:Fn:=⟨[Vo,Vo],[rB],fun k x=>amN k x.1 x.2.1⟩
theorem ok136:O 136 F136:=okF (ah ok226 aj) [] On Tryz.func136 rfl
abbrev aj4:Cut:=⟨[0,1,5],[.cell (.sl 54 zf),.cell (.sl 54 zf),cI],[],27,[]⟩
def afj (k:Nat) (g4:(List FJ) -> (List FJ) -> Int -> Option kg) (a b:List FJ) (c:Int):Option kg :=
 (bif decide (c<(a.length:Int)) then
  ix a c <|
  ix b c <|
  (amN k (rd a c bg) (rd b c bg)).bind fun q0 =>
  (bif !q0.1.1 then
   some ((false,()),())
  else
   g4 a b (IntKind.i64.wrap (c+1)))
 else
  some ((true,()),()))
def ao1 (k:Nat):Xx (((Unit)×(List FJ)×(List FJ)×Int×Unit) -> Option kg):=eu (dw (dh (dh (dh dx)))) (afj k)
def afk (k a:Nat) (b c:List FJ) (e:Int):Option kg:=iter aj4 (ao1 k) a ((),b,c,e,())
theorem afl (k a b c e):afk k (a+1) b c e=afj k (afk k a) b c e:=Ba _ _ _ _
def S66 (k:Nat) (a b:List FJ):Option kg :=
 (bif (a.length:Int) != (b.length:Int) then
  some ((false,()),())
 else
  afk k k a b 0)
def F66:Fn:=⟨[aoM,aoM],[rB],fun k x=>S66 k x.1 x.2.1⟩
theorem ok66:O 66 F66:=okF (ah ok136 aj) [] (fun k=>(.loop 4 aj4 (ao1 k) (fun g=>.nil) .nil)) Tryz.func66 rfl
abbrev aj5:Cut:=⟨[0,1,5],[.cell J2,.cell J2,cI],[],26,[]⟩
def afm (k:Nat) (g4:(List (PN Int 5)) -> (List (PN Int 5)) -> Int -> Option kg) (a b:List (PN Int 5)) (c:Int):Option kg :=
 (bif decide (c<(a.length:Int)) then
  ix a c <|
  ix b c <|
  (bif !(fC BJ (rd a c (Qn (α:=Int) 5 0)) (rd b c (Qn (α:=Int) 5 0))) then
   some ((false,()),())
  else
   g4 a b (IntKind.i64.wrap (c+1)))
 else
  some ((true,()),()))
def ao2 (k:Nat):Xx (((Unit)×(List (PN Int 5))×(List (PN Int 5))×Int×Unit) -> Option kg):=eu (dw (dh (dh (dh dx)))) (afm k)
def afn (k a:Nat) (b c:List (PN Int 5)) (e:Int):Option kg:=iter aj5 (ao2 k) a ((),b,c,e,())
theorem afo (k a b c e):afn k (a+1) b c e=afm k (afn k a) b c e:=Ba _ _ _ _
def S67 (k:Nat) (a b:List (PN Int 5)):Option kg :=
 (bif (a.length:Int) != (b.length:Int) then
  some ((false,()),())
 else
  afn k k a b 0)
def F67:Fn:=⟨[.val ⟨false,J2,false⟩,.val ⟨false,J2,false⟩],[rB],fun k x=>S67 k x.1 x.2.1⟩
theorem ok67:O 67 F67:=okF aj [] (fun k=>(.loop 4 aj5 (ao2 k) (fun g=>.nil) .nil)) Tryz.func67 rfl
abbrev afp:Cut:=⟨[2,3,5],[.box 57 [cI,cI,cI,cI,cI,cI,cI,cI,cI,.cell (.sl 293 qw),.cell .bool],.box 57 [cI,cI,cI,cI,cI,cI,cI,cI,cI,.cell (.sl 293 qw),.cell .bool],cI],[],52,[]⟩
def Y7 (k:Nat) (g4:Int -> Int -> Int -> Int -> Int -> Int -> Int -> Int -> Int -> (List oz) -> Bool -> Int -> Int -> Int -> Int -> Int -> Int -> Int -> Int -> Int -> (List oz) -> Bool -> Int -> Option kg) (a b c e f h i l m:Int) (n:List oz) (o:Bool) (p s t u v w y z A:Int) (B:List oz) (C:Bool) (D:Int):Option kg :=
 (bif decide (D<(n.length:Int)) then
  ix n D <|
  ix B D <|
  (bif !(fC qw (rd n D (0,0,0)) (rd B D (0,0,0))) then
   some ((false,()),())
  else
   g4 a b c e f h i l m n o p s t u v w y z A B C (IntKind.i64.wrap (D+1)))
 else
  some ((true,()),()))
def aj6 (k:Nat):Xx (((Unit)×aji×aji×Int×Unit) -> Option kg):=eu (dw (d9 (dh (dh (dh (dh (dh (dh (dh (dh (dh (dh (dh dx))))))))))) (d9 (dh (dh (dh (dh (dh (dh (dh (dh (dh (dh (dh dx))))))))))) (dh dx)))) (Y7 k)
def MI (k a:Nat) (b c e f h i l m n:Int) (o:List oz) (p:Bool) (s t u v w y z A B:Int) (C:List oz) (D:Bool) (G:Int):Option kg:=iter afp (aj6 k) a ((),(b,c,e,f,h,i,l,m,n,o,p,()),(s,t,u,v,w,y,z,A,B,C,D,()),G,())
theorem aaW (k a b c e f h i l m n o p s t u v w y z A B C D G):MI k (a+1) b c e f h i l m n o p s t u v w y z A B C D G=Y7 k (MI k a) b c e f h i l m n o p s t u v w y z A B C D G:=Ba _ _ _ _
def aj7 (k:Nat) (a b:aeg):Option kg :=
 (bif a.1 != b.1 then
  some ((false,()),())
 else
  (bif !(fC (Am 8 (.int .i64)) a.2.1 b.2.1) then
   some ((false,()),())
  else
   (bif !(a.2.2.2==b.2.2.2) then
    some ((false,()),())
   else
    (bif (a.2.2.1.length:Int) != (b.2.2.1.length:Int) then
     some ((false,()),())
    else
     MI k k a.1 a.2.1.1 a.2.1.2.1 a.2.1.2.2.1 a.2.1.2.2.2.1 a.2.1.2.2.2.2.1 a.2.1.2.2.2.2.2.1 a.2.1.2.2.2.2.2.2.1 a.2.1.2.2.2.2.2.2.2 a.2.2.1 a.2.2.2 b.1 b.2.1.1 b.2.1.2.1 b.2.1.2.2.1 b.2.1.2.2.2.1 b.2.1.2.2.2.2.1 b.2.1.2.2.2.2.2.1 b.2.1.2.2.2.2.2.2.1 b.2.1.2.2.2.2.2.2.2 b.2.2.1 b.2.2.2 0))))
def F227:Fn:=⟨[aaz,aaz],[rB],fun k x=>aj7 k x.1 x.2.1⟩
theorem ok227:O 227 F227:=okF aj [] (fun k=>(.loop 4 afp (aj6 k) (fun g=>.nil) .nil)) Tryz.func227 rfl
abbrev afq:Cut:=⟨[0,1,5],[.cell oh,.cell oh,cI],[],26,[]⟩
def Y8 (k:Nat) (g4:(List Int) -> (List Int) -> Int -> Option kg) (a b:List Int) (c:Int):Option kg :=
 (bif decide (c<(a.length:Int)) then
  ix a c <|
  ix b c <|
  (bif (rd a c 0) != (rd b c 0) then
   some ((false,()),())
  else
   g4 a b (IntKind.i64.wrap (c+1)))
 else
  some ((true,()),()))
def aj8 (k:Nat):Xx (((Unit)×(List Int)×(List Int)×Int×Unit) -> Option kg):=eu (dw (dh (dh (dh dx)))) (Y8 k)
def MJ (k a:Nat) (b c:List Int) (e:Int):Option kg:=iter afq (aj8 k) a ((),b,c,e,())
theorem aaX (k a b c e):MJ k (a+1) b c e=Y8 k (MJ k a) b c e:=Ba _ _ _ _
def aj9 (k:Nat) (a b:List Int):Option kg :=
 (bif (a.length:Int) != (b.length:Int) then
  some ((false,()),())
 else
  MJ k k a b 0)
def F140:Fn:=⟨[aek,aek],[rB],fun k x=>aj9 k x.1 x.2.1⟩
theorem ok140:O 140 F140:=okF aj [] (fun k=>(.loop 4 afq (aj8 k) (fun g=>.nil) .nil)) Tryz.func140 rfl
def amO (k:Nat) (a b:za):Option kg :=
 (bif a.1==b.1 then
  (bif a.2.1==b.2.1 then
   (bif a.2.2.1==b.2.2.1 then
    (bif a.2.2.2.1==b.2.2.2.1 then
     (bif a.2.2.2.2.2.2.2==b.2.2.2.2.2.2.2 then
      (aj7 k a.2.2.2.2.1 b.2.2.2.2.1).bind fun q0 =>
      (bif q0.1.1 then
       (aj7 k a.2.2.2.2.2.1 b.2.2.2.2.2.1).bind fun q1 =>
       (bif q1.1.1 then
        (aj9 k a.2.2.2.2.2.2.1 b.2.2.2.2.2.2.1).bind fun q2 =>
        some ((q2.1.1,()),())
       else
        some ((false,()),()))
      else
       some ((false,()),()))
     else
      some ((false,()),()))
    else
     some ((false,()),()))
   else
    some ((false,()),()))
  else
   some ((false,()),()))
 else
  some ((false,()),()))
def F137:Fn:=⟨[FE,FE],[rB],fun k x=>amO k x.1 x.2.1⟩
theorem ok137:O 137 F137:=okF (ah ok140 <| ah ok227 aj) [] On Tryz.func137 rfl
abbrev akb:Cut:=⟨[0,1,5],[.cell BN,.cell BN,cI],[],27,[]⟩
def afr (k:Nat) (g4:(List wu) -> (List wu) -> Int -> Option kg) (a b:List wu) (c:Int):Option kg :=
 (bif decide (c<(a.length:Int)) then
  ix a c <|
  ix b c <|
  (amO k (rd a c ay) (rd b c ay)).bind fun q0 =>
  (bif !q0.1.1 then
   some ((false,()),())
  else
   g4 a b (IntKind.i64.wrap (c+1)))
 else
  some ((true,()),()))
def ao3 (k:Nat):Xx (((Unit)×(List wu)×(List wu)×Int×Unit) -> Option kg):=eu (dw (dh (dh (dh dx)))) (afr k)
def Vs (k a:Nat) (b c:List wu) (e:Int):Option kg:=iter akb (ao3 k) a ((),b,c,e,())
theorem afs (k a b c e):Vs k (a+1) b c e=afr k (Vs k a) b c e:=Ba _ _ _ _
def S68 (k:Nat) (a b:List wu):Option kg :=
 (bif (a.length:Int) != (b.length:Int) then
  some ((false,()),())
 else
  Vs k k a b 0)
def F68:Fn:=⟨[ajk,ajk],[rB],fun k x=>S68 k x.1 x.2.1⟩
theorem ok68:O 68 F68:=okF (ah ok137 aj) [] (fun k=>(.loop 4 akb (ao3 k) (fun g=>.nil) .nil)) Tryz.func68 rfl
end
end Go.Proofs.YtjjjbcmjmkcedaaGreat.Ab
