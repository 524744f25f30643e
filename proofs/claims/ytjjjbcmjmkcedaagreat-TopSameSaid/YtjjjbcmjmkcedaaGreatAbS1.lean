import Derived.Test.YtjjjbcmjmkcedaaGreatAbS0
/- Contracts, printed by this session's own program gen.py. -/
set_option linter.unusedVariables false
set_option linter.unusedSimpArgs false
set_option maxRecDepth 100000
namespace Go.Proofs.YtjjjbcmjmkcedaaGreat.Ab
open Go.RowKit
abbrev apU:Type:=Int×Int×(List (Int×Int×Int×(List (Int×Int×Int×Int))×(List (Int×Int×Int×Int))×List (Int×Int×Int×Int)))×(List (PN Int 5))×Bool×Bool×Bool×(List (Int×Int×Int×Int×(Int×(PN Int 8)×(List (Int×Int×Int))×Bool)×(Int×(PN Int 8)×(List (Int×Int×Int))×Bool)×(List Int)×Bool))×(List Int)×(List Bool)×(List (Int×(Int×Int)×(Int×Int)×((List Int)×List Int)×(Int×List (Int×Int))×Int))×(List Int)×(List Bool)×(List (PN Int 6))×Unit
abbrev FV:Type:=Int×Int×(List (Int×Int×Int×(List (Int×Int×Int×Int))×(List (Int×Int×Int×Int))×List (Int×Int×Int×Int)))×(List (PN Int 5))×Bool×Bool×Bool×(List (Int×Int×Int×Int×(Int×(PN Int 8)×(List (Int×Int×Int))×Bool)×(Int×(PN Int 8)×(List (Int×Int×Int))×Bool)×(List Int)×Bool))×(((List Int)×List Bool)×List (Int×(Int×Int)×(Int×Int)×((List Int)×List Int)×(Int×List (Int×Int))×Int))×(List Int)×List Bool
abbrev KA:Ty:=.pair (.int .i64) (.pair (.int .i64) (.pair (.int .i64) (.pair (.int .i64) (.pair (.pair (.int .i64) (.pair (Am 8 (.int .i64)) (.pair (.sl 293 (.pair (.int .i64) (.pair (.int .i64) (.int .i64)))) .bool))) (.pair (.pair (.int .i64) (.pair (Am 8 (.int .i64)) (.pair (.sl 293 (.pair (.int .i64) (.pair (.int .i64) (.int .i64)))) .bool))) (.pair (.sl 3 (.int .i64)) .bool))))))
abbrev zf:Ty:=.pair (.int .i64) (.pair (.int .i64) (.pair (.int .i64) (.pair (.sl 127 (.pair (.int .i64) (.pair (.int .i64) (.pair (.int .i64) (.int .i64))))) (.pair (.sl 127 (.pair (.int .i64) (.pair (.int .i64) (.pair (.int .i64) (.int .i64))))) (.sl 127 (.pair (.int .i64) (.pair (.int .i64) (.pair (.int .i64) (.int .i64)))))))))
abbrev ajj:Type:=Int×Int×(List (Int×Int×Int×(List (Int×Int×Int×Int))×(List (Int×Int×Int×Int))×List (Int×Int×Int×Int)))×(List (PN Int 5))×Bool×Bool×Bool×(List (Int×Int×Int×Int×(Int×(PN Int 8)×(List (Int×Int×Int))×Bool)×(Int×(PN Int 8)×(List (Int×Int×Int))×Bool)×(List Int)×Bool))×(List Int)×(List Bool)×(List (Int×(Int×Int)×(Int×Int)×((List Int)×List Int)×(Int×List (Int×Int))×Int))×(List Int)×(List Bool)×Int×Int×Int×Int×(List (Int×Int×Int×Int))×(List (Int×Int×Int×Int))×(List (Int×Int×Int×Int))×Int×Int×Int×Int×Int×(List (PN Int 6))×Int×Int×Int×Int×Unit
abbrev AO:Ty:=.pair (.int .i64) (.pair (.pair (.int .i64) (.int .i64)) (.pair (.pair (.int .i64) (.int .i64)) (.pair (.pair (.sl 2 (.int .i64)) (.sl 3 (.int .i64))) (.pair (.pair (.int .u32) (.sl 266 (.pair (.int .i64) (.int .u32)))) (.int .u32)))))
abbrev FW:Type:=Int×Int×Int×(List (Int×Int×Int×Int))×(List (Int×Int×Int×Int))×List (Int×Int×Int×Int)
abbrev wz:Type:=Int×Int×Int×Int×(Int×(PN Int 8)×(List (Int×Int×Int))×Bool)×(Int×(PN Int 8)×(List (Int×Int×Int))×Bool)×(List Int)×Bool
abbrev y8:Type:=Int×(Int×Int)×(Int×Int)×((List Int)×List Int)×(Int×List (Int×Int))×Int
abbrev yc:Type:=Int×(Int×FW×(Int×Int)×Int×Int×Int)×Int×Int
abbrev qx:Ty:=.pair (.int .i64) (.pair (.int .i64) (.int .i64))
abbrev za:Type:=Int×Int×Int×Int×(Int×(PN Int 8)×(List (Int×Int×Int))×Bool)×(Int×(PN Int 8)×(List (Int×Int×Int))×Bool)×(List Int)×Bool
abbrev aoL:Ty:=.pair (.int .i64) (.pair (.int .i64) (.pair (.sl 54 zf) (.pair (.sl 168 (Am 5 (.int .i64))) (.pair .bool (.pair .bool (.pair .bool (.pair (.sl 59 KA) (.pair (.pair (.pair (.sl 3 (.int .i64)) (.sl 4 .bool)) (.sl 142 AO)) (.pair (.sl 3 (.int .i64)) (.sl 4 .bool))))))))))
abbrev kg:Type:=Int×Int×Int×Int
abbrev IV:Ty:=.pair (.int .i64) (.pair (.pair (.int .i64) (.pair zf (.pair (.pair (.int .i64) (.int .i64)) (.pair (.int .i64) (.pair (.int .i64) (.int .u32)))))) (.pair (.int .i64) (.int .i64)))
abbrev ajk:Type:=Int×Int×Int×Int×Int×Int×Int×Int×Int×Int×Int×Int×Int×(List (Int×Int×Int))×Bool×Int×Int×Int×Int×Int×Int×Int×Int×Int×(List (Int×Int×Int))×Bool×(List Int)×Bool×Unit
abbrev DC:Type:=(List Int)×Int×Unit
abbrev O4:Type:=Int×Int×(List FW)×(List (PN Int 5))×Bool×Bool×Bool×(List wz)×(((List Int)×List Bool)×List y8)×(List Int)×List Bool
abbrev vo:Ty:=.sl 127 (.pair (.int .i64) qx)
abbrev ko:Type:=(Bool×Unit)×Unit
abbrev lq:Type:=(Unit)×apU×Unit
abbrev F8:Ty:=.pair (.int .i64) (.int .i64)
abbrev oo:Ty:=.sl 3 (.int .i64)
abbrev KC:Type:=FV×(Int×FW×(Int×Int)×Int×Int×Int)×(List (PN Int 6))×Int×(Int×Int)×Int
abbrev Vd:Type:=((((List Int)×List Bool)×List y8)×(List Int)×(List (List Int))×Unit)×Unit
abbrev oz:Type:=Int×Int×Int
abbrev O5:Type:=(FV×List (PN Int 6)) -> (List (List Int)) -> (List Int) -> Int -> Int -> Option lq
abbrev AQ:Type:=((List yc)×Unit)×DC×Unit
abbrev aoM:Ty:=.pair (.int .i64) (.pair (Am 8 (.int .i64)) (.pair (.sl 293 qx) .bool))
abbrev qy:Ty:=Am 6 (.int .i64)
abbrev o7:Type:=List (Int×Int)
abbrev yj:Type:=(Int×Bool×Unit)×Unit
abbrev BH:Ty:=Am 5 (.int .i64)
abbrev IW:Type:=((List kg)×Unit)×DC×Unit
abbrev aeg:Type:=Int×Int×(List FW)×(List (PN Int 5))×Bool×Bool×Bool×(List wz)×(List Int)×(List Bool)×(List y8)×(List Int)×(List Bool)×Unit
abbrev IX:Type:=Int×(Int×Int)×Int
abbrev p8:Type:=FV×List (PN Int 6)
abbrev ajl:Type:=Int×Int×Int×Int×Int×Int×Int×Int×Int×(List oz)×Bool×Unit
abbrev uf:Type:=(Int×Unit)×Unit
abbrev ni:Type:=List (Int×Int)
abbrev R9:Type:=((Int×(PN Int 8)×(List oz)×Bool)×Unit)×Unit
abbrev F9:Ty:=.pair (.int .i64) (.int .u32)
abbrev ajm:Type:=(List Int) -> (List Bool) -> (List y8) -> (List Int) -> (List Bool) -> (List y8) -> (List Int) -> (List (List Int)) -> (List y8) -> Int -> Int -> Option Vd
abbrev BI:Type:=List (PN Int 6)
abbrev FB:Type:=((List Int)×Unit)×Unit
abbrev aeh:Type:=(List Int)×(List Bool)×(List y8)×Unit
abbrev RA:Type:=((List Int)×List Bool)×List y8
abbrev O6:Ty:=.pair oo (.sl 4 .bool)
abbrev aax:Type:=Int×Int×Int×(List kg)×(List kg)×List kg
abbrev aay:Type:=((Int×List (Int×Int))×(List Int)×Unit)×Unit
abbrev Ve:Type:=(FV×BI×(List IX)×Bool×Unit)×Unit
abbrev BJ:Type:=(Unit)×ajj×Unit
abbrev DF:Ty:=.sl 5 (.int .u8)
abbrev RB:Type:=(FV×BI×IX×Unit)×Unit
abbrev BK:Type:=List (List Int)
abbrev aei:Type:=(List Int) -> Int -> Int -> (List kg) -> Int -> Option IW
abbrev RF:Ty:=.sl 121 F8
abbrev Vf:Type:=(wz×kg×Bool×Unit)×Unit
abbrev O7:Ty:=.pair (.int .i64) qx
abbrev BL:Ty:=.sl 59 KA
abbrev aej:Type:=Int×(PN Int 8)×(List oz)×Bool
abbrev aaz:Type:=(Bool×Unit)×apU×ajk×Unit
abbrev Vg:Type:=Int×Int×Int×Int×Unit
abbrev IY:Ty:=.sl 142 AO
abbrev DI:Ty:=.sl 4 .bool
abbrev aek:Ty:=.pair (.int .i64) (.pair F8 (.int .i64))
abbrev Vh:Type:=(o7×Unit)×Unit
abbrev IZ:Ty:=.sl 168 BH
abbrev CB:Type:=apU×Unit
abbrev aoN:Type:=Int×Int×Unit×Unit×Bool×Bool×Bool×Unit×Unit×Unit×Unit×Unit×Unit×Unit
abbrev ael:Type:=((List Int)×List Bool)×List y8
abbrev amh:PT:=.fK 175 [cI,cI,.cell (.sl 54 zf),.cell IZ,.cell .bool,.cell .bool,.cell .bool,.cell BL,.cell oo,.cell DI,.cell IY,.cell oo,.cell DI,cI,cI,cI,cI,.cell vo,.cell vo,.cell vo,cI,cI,cI,cI,.cell (.int .u32),.own 51 qy,cI,cI,cI,cI]
abbrev Xz:PT:=.fK 166 [cI,cI,.own 54 zf,.own 168 BH,.cell .bool,.cell .bool,.cell .bool,.own 59 KA,.own 3 (.int .i64),.own 4 .bool,.own 142 AO,.own 3 (.int .i64),.own 4 .bool,.own 51 qy]
abbrev apV:PT:=.fK 166 [cI,cI,.own 54 zf,.own 168 BH,.cell .bool,.cell .bool,.cell .bool,.cell BL,.own 3 (.int .i64),.own 4 .bool,.own 142 AO,.own 3 (.int .i64),.own 4 .bool,.own 51 qy]
abbrev ark:PT:=.fK 59 [cI,cI,cI,cI,cI,cI,cI,cI,cI,cI,cI,cI,cI,.cell (.sl 293 qx),.cell .bool,cI,cI,cI,cI,cI,cI,cI,cI,cI,.cell (.sl 293 qx),.cell .bool,.cell oo,.cell .bool]
abbrev arl:PT:=.val ⟨true,(.pair (.int .u32) (.sl 266 F9)),false⟩
abbrev arn:RT:=.val ⟨true,(.pair (.int .u32) (.sl 266 F9)),true⟩
abbrev ami:PT:=.val ⟨true,(.pair O6 IY),false⟩
abbrev apW:RT:=.val ⟨true,(.pair O6 IY),true⟩
abbrev aro:PT:=.val ⟨false,(.sl 266 F9),false⟩
abbrev arp:RT:=.val ⟨false,(.sl 100 IV),true⟩
abbrev aoO:PT:=.val ⟨false,(.sl 51 qy),false⟩
abbrev aem:RT:=.val ⟨false,(.sl 51 qy),true⟩
abbrev aoP:PT:=.val ⟨false,(.sl 54 zf),false⟩
abbrev O8:PT:=.fK 129 [.cell DF,cI]
abbrev FC:PT:=.val ⟨false,RF,false⟩
abbrev aen:PT:=.val ⟨false,oo,false⟩
abbrev ajn:PT:=.val ⟨false,BL,false⟩
abbrev ajo:PT:=.val ⟨false,vo,false⟩
abbrev ajp:PT:=.val ⟨true,O6,false⟩
abbrev RG:RT:=.val ⟨false,oo,true⟩
abbrev aeo:PT:=.val ⟨true,aoL,false⟩
abbrev aep:RT:=.val ⟨false,RF,true⟩
abbrev aaA:PT:=.val ⟨true,aoM,false⟩
abbrev ajq:RT:=.val ⟨false,vo,true⟩
abbrev aer:RT:=.val ⟨true,aoL,true⟩
abbrev FD:PT:=.val ⟨true,KA,false⟩
abbrev aes:RT:=.val ⟨true,aoM,true⟩
abbrev Vi:PT:=.val ⟨true,zf,false⟩
abbrev ajr:RT:=.val ⟨true,O7,true⟩
abbrev aaB:RT:=.val ⟨true,KA,true⟩
noncomputable section
abbrev ajs:Cut:=⟨[0,2,3,5,28,29,30],[.pin false 0,cI,.box 142 [cI,cI,cI,cI,cI,.cell (.sl 2 (.int .i64)),.cell oo,.cell (.int .u32),.cell (.sl 266 F9),.cell (.int .u32)],.box 138 [.cell (.int .u32),.own 266 F9],.own 266 F9,cI,cI],[.fK 175 [cI,cI,.cell (.sl 54 zf),.cell IZ,.cell .bool,.cell .bool,.cell .bool,.cell BL,.cell oo,.cell DI,.cell IY,.cell oo,.cell DI,cI,cI,cI,cI,.cell vo,.cell vo,.cell vo,cI,cI,cI,cI,.cell (.int .u32),.own 51 qy,cI,cI,cI,cI]],56,[]⟩
def aeu (k:Nat) (g4:(FV×(Int×FW×(Int×Int)×Int×Int×Int)×BI×Int×(Int×Int)×Int) -> Int -> Int -> Int -> Int -> Int -> Int -> (List Int) -> (List Int) -> Int -> o7 -> Int -> Int -> o7 -> o7 -> Int -> Int -> Option BJ) (a:KC) (b x c e f h:Int) (i l:List Int) (m:Int) (n:ni) (o p:Int) (s t:ni) (u v:Int):Option BJ :=
 (bif decide (v<u) then
  ix t v <|
  (aje k a (rd t v (0,0)).1 (IntKind.i64.wrap (rd t v (0,0)).2) 0).bind fun q2 =>
  g4 (pz q2.2.1) b x c e f h i l m n o p s t u (IntKind.i64.wrap (v+1))
 else
  (II k a.1.2.2.2.2.2.2.2.2.1 b (x,(c,e),(f,h),(i,l),(p,s),o)).bind fun q3 =>
  some ((),AU ((w8 a.1 q3.1.1),a.2),()))
def aoQ (k:Nat) (g:((ajj×Unit)×Unit×Int×(Int×Int×Int×Int×Int×(List Int)×(List Int)×Int×o7×Int×Unit)×(Int×o7×Unit)×o7×Int×Int×Unit) -> Option BJ) (d:(ajj×Unit)×Unit×Int×(Int×Int×Int×Int×Int×(List Int)×(List Int)×Int×o7×Int×Unit)×(Int×o7×Unit)×o7×Int×Int×Unit):Option BJ:=aeu k (fun a b x c e f h i l m n o p s t u v=>g ((AU a,()),(),b,(x,c,e,f,h,i,l,m,n,o,()),(p,s,()),t,u,v,())) (pz d.1.1) d.2.2.1 d.2.2.2.1.1 d.2.2.2.1.2.1 d.2.2.2.1.2.2.1 d.2.2.2.1.2.2.2.1 d.2.2.2.1.2.2.2.2.1 d.2.2.2.1.2.2.2.2.2.1 d.2.2.2.1.2.2.2.2.2.2.1 d.2.2.2.1.2.2.2.2.2.2.2.1 d.2.2.2.1.2.2.2.2.2.2.2.2.1 d.2.2.2.1.2.2.2.2.2.2.2.2.2.1 d.2.2.2.2.1.1 d.2.2.2.2.1.2.1 d.2.2.2.2.2.1 d.2.2.2.2.2.2.1 d.2.2.2.2.2.2.2.1
def aev (k a:Nat) (b:KC) (c x e f h i:Int) (l m:List Int) (n:Int) (o:ni) (p s:Int) (t u:ni) (v w:Int):Option BJ:=iter ajs (aoQ k) a ((AU b,()),(),c,(x,e,f,h,i,l,m,n,o,p,()),(s,t,()),u,v,w,())
theorem aew (k a b c x e f h i l m n o p s t u v w):aev k (a+1) b c x e f h i l m n o p s t u v w=aeu k (aev k a) b c x e f h i l m n o p s t u v w:=Ba _ _ _ _
def S95 (k:Nat) (a:KC):Option BJ :=
 (ach k a 3).bind fun ((b,(c,(e,f),(h,i),(l,m),n,o),p,_),s,_) =>
 (bif !p then
  some ((),s,())
 else
  (aji k n (pz s).2.1.2.2.2.2.2).bind fun q1 =>
  aev k k (pz s) b c e f h i l m n.1 n.2 o q1.1.1.1 q1.1.1.2 q1.1.2.1 (q1.1.2.1.length:Int) 0)
def F95:Fn:=⟨[amh],[],fun k x=>S95 k (pz x.1)⟩
theorem ok95:O 95 F95:=okF (ah ok128 <| ah ok168 <| ah ok170 <| ah ok172 aj) [] (fun k=>(.loop 4 ajs (aoQ k) (fun g=>.nil) .nil)) Tryz.func95 rfl
def apX (k:Nat) (a:Int×Int) (b:Int):Option ko :=
 some ((a.1==b,()),())
def F258:Fn:=⟨[.val ⟨true,F9,false⟩,.pv (.ref (.int .i64))],[rB],fun k x=>apX k x.1 x.2.1⟩
theorem ok258:O 258 F258:=okF aj [] On Tryz.func258 rfl
abbrev aex:Cut:=⟨[0,1,7,8],[.cell (.sl 266 F9),.lJ 258 [.ref (.int .i64)],cI,cI],[],19,[]⟩
def XA (k:Nat) (g2:o7 -> Int -> Int -> Int -> Option uf) (a:ni) (b c e:Int):Option uf :=
 (bif decide (e<c) then
  ix a e <|
  (apX k (rd a e (0,0)) b).bind fun q0 =>
  (bif q0.1.1 then
   some ((e,()),())
  else
   g2 a b c (IntKind.i64.wrap (e+1)))
 else
  some (((-1),()),()))
def ajt (k:Nat):Xx (((Unit)×o7×(Int×Unit)×Int×Int×Unit) -> Option uf):=eu (dw (dh (d9 (dh dx) (dh (dh dx))))) (XA k)
def M5 (k a:Nat) (b:ni) (c e f:Int):Option uf:=iter aex (ajt k) a ((),b,(c,()),e,f,())
theorem aaC (k a b c e f):M5 k (a+1) b c e f=XA k (M5 k a) b c e f:=Ba _ _ _ _
def amj (k:Nat) (a:ni) (b:Int):Option uf :=
 M5 k k a b (a.length:Int) 0
def F328:Fn:=⟨[aro,.pv (.lJ 258 [.ref (.int .i64)])],[rI],fun k x=>amj k x.1 x.2.1.1⟩
theorem ok328:O 328 F328:=okF (ah ok258 aj) [] (fun k=>(.loop 2 aex (ajt k) (fun g=>.nil) .nil)) Tryz.func328 rfl
def apY (k:Nat) (a:ni) (b:Int):Option ko :=
 (amj k a b).bind fun q0 =>
 some ((decide (q0.1.1≥0),()),())
def F257:Fn:=⟨[aro,.pv (.lJ 258 [.ref (.int .i64)])],[rB],fun k x=>apY k x.1 x.2.1.1⟩
theorem ok257:O 257 F257:=okF (ah ok328 aj) [] On Tryz.func257 rfl
def aju (k:Nat) (a:Int×List (Int×Int)) (b c:Int):Option (((Int×List (Int×Int))×Int×Bool×Unit)×Unit) :=
 (aae k a.2).bind fun q0 =>
 (bif decide (b<1) then
  some (((a.1,q0.1.1),0,false,()),())
 else
  (bif c==0 then
   some (((a.1,q0.1.1),0,false,()),())
  else
   (bif (Um .u32 a.1 c) != 0 then
    some (((Ru .u32 a.1 (Um .u32 a.1 c),q0.1.1),Um .u32 a.1 c,true,()),())
   else
    (bif decide ((a.2.length:Int)≥4) then
     some (((a.1,q0.1.1),0,false,()),())
    else
     (apY k a.2 b).bind fun q1 =>
     (bif q1.1.1 then
      some (((a.1,q0.1.1),0,false,()),())
     else
      ap q0.1.1 ([(b,c)]:List (Int×Int)) 16 fun r2 =>
      some (((a.1,r2),0,true,()),()))))))
def F173:Fn:=⟨[arl,au,.val ⟨false,(.int .u32),false⟩],[arn,.val ⟨false,(.int .u32),true⟩,rB],fun k (a,b,c,_)=>aju k a b c⟩
theorem ok173:O 173 F173:=okF (ah ok256 <| ah ok257 aj) [] On Tryz.func173 rfl
def S96 (k:Nat) (a:KC):Option BJ :=
 (ach k a 3).bind fun q0 =>
 (bif !q0.1.2.2.1 then
  some ((),q0.2.1,())
 else
  (aju k q0.1.2.1.2.2.2.2.1 (pz q0.2.1).2.1.2.2.2.1 (pz q0.2.1).2.1.2.2.2.2.2).bind fun q1 =>
  (bif !q1.1.2.2.1 then
   some ((),AU (w3 (pz q0.2.1) 1),())
  else
   (bif q1.1.2.1==0 then
    (II k (pz q0.2.1).1.2.2.2.2.2.2.2.2.1 q0.1.1 (w4 q0.1.2.1 q1.1.1)).bind fun q2 =>
    some ((),AU ((w8 (pz q0.2.1).1 q2.1.1),(pz q0.2.1).2.1,(pz q0.2.1).2.2.1,16,(pz q0.2.1).2.2.2.2.1,IntKind.i64.wrap q1.1.2.1),())
   else
    (II k (pz q0.2.1).1.2.2.2.2.2.2.2.2.1 q0.1.1 (w4 q0.1.2.1 q1.1.1)).bind fun q3 =>
    some ((),AU (w0 (z5 (pz q0.2.1) (IntKind.i64.wrap q1.1.2.1)) (w8 (pz q0.2.1).1 q3.1.1)),()))))
def F96:Fn:=⟨[amh],[],fun k x=>S96 k (pz x.1)⟩
theorem ok96:O 96 F96:=okF (ah ok128 <| ah ok168 <| ah ok173 aj) [] On Tryz.func96 rfl
def amk (k:Nat) (a:(List Int)×List Bool) (b:Int×Int):Option ((((List Int)×List Bool)×Bool×Unit)×Unit) :=
 (ai0 k a).bind fun q0 =>
 (ajb k q0.1.1 b).bind fun q1 =>
 (bif !q1.1.1 then
  some ((q0.1.1,false,()),())
 else
  ix q0.1.1.2 b.1 <|
  some (((q0.1.1.1,upd q0.1.1.2 b.1 false),true,()),()))
def F259:Fn:=⟨[ajp,.val ⟨true,F8,false⟩],[.val ⟨true,O6,true⟩,rB],fun k x=>amk k x.1 x.2.1⟩
theorem ok259:O 259 F259:=okF (ah ok324 <| ah ok327 aj) [] On Tryz.func259 rfl
def aml (k:Nat) (a:(List Int)×List Int):Option ((((List Int)×List Int)×(List Int)×Unit)×Unit) :=
 (FT k a.2).bind fun q0 =>
 some ((([],[]),q0.1.1,()),())
def F296:Fn:=⟨[.val ⟨true,(.pair (.sl 2 (.int .i64)) oo),false⟩],[.val ⟨true,(.pair (.sl 2 (.int .i64)) oo),true⟩,RG],fun k x=>aml k x.1⟩
theorem ok296:O 296 F296:=okF (ah ok219 aj) [] On Tryz.func296 rfl
abbrev aey:Cut:=⟨[2,3,7,8,9],[.box 138 [.cell (.int .u32),.nil],.own 3 (.int .i64),.cell (.sl 266 F9),cI,cI],[],21,[]⟩
def XB (k:Nat) (g2:Int -> (List Int) -> o7 -> Int -> Int -> Option aay) (x:Int) (a:List Int) (b:ni) (c e:Int):Option aay :=
 (bif decide (e<c) then
  ix b e <|
  ap a ([(rd b e (0,0)).1]:List Int) 8 fun r0 =>
  g2 x r0 b c (IntKind.i64.wrap (e+1))
 else
  some (((x,[]),a,()),()))
def ajv (k:Nat):Xx (((Unit)×(Int×Unit×Unit)×(List Int)×o7×Int×Int×Unit) -> Option aay):=eu (dw (d9 (dh (dw dx)) (dh (dh (dh (dh dx)))))) (XB k)
def M6 (k a:Nat) (x:Int) (b:List Int) (c:ni) (e f:Int):Option aay:=iter aey (ajv k) a ((),(x,(),()),b,c,e,f,())
theorem aaD (k a x b c e f):M6 k (a+1) x b c e f=XB k (M6 k a) x b c e f:=Ba _ _ _ _
def amm (k:Nat) (a:Int×List (Int×Int)):Option aay :=
 M6 k k 0 ([]:List Int) a.2 (a.2.length:Int) 0
def F297:Fn:=⟨[arl],[arn,RG],fun k x=>amm k x.1⟩
theorem ok297:O 297 F297:=okF aj [(3,2)] (fun k=>(.loop 2 aey (ajv k) (fun g=>.nil) .nil)) Tryz.func297 rfl
def amn (k:Nat) (a:Int):Option FB :=
 (bif decide (a<0) then
  none
 else
  (bif decide ((IntKind.i64.wrap (a - 0))>0) then
   az ([]:List Int) (IntKind.i64.wrap (a - 0)) 8 0 fun r0 =>
   sx r0 0 0 <|
   some ((r0.take 0,()),())
  else
   some (([],()),())))
def F339:Fn:=⟨[.pv (.nil),au],[RG],fun k x=>amn k x.2.1⟩
theorem ok339:O 339 F339:=okF aj [(25,1)] On Tryz.func339 rfl
abbrev aaE:Cut:=⟨[6,25,26,27],[.own 3 (.int .i64),.cell (.sl 32 oo),cI,cI],[],36,[]⟩
def KD (k:Nat) (g11:(List Int) -> BK -> Int -> Int -> Option FB) (a:List Int) (b:List (List Int)) (c e:Int):Option FB :=
 (bif decide (e<c) then
  ix b e <|
  ap a (rd b e []) 8 fun r1 =>
  g11 r1 b c (IntKind.i64.wrap (e+1))
 else
  some ((a,()),()))
def aez (k:Nat):Xx (((Unit)×(List Int)×BK×Int×Int×Unit) -> Option FB):=eu (dw (dh (dh (dh (dh dx))))) (KD k)
def XC (k a:Nat) (b:List Int) (c:List (List Int)) (e f:Int):Option FB:=iter aaE (aez k) a ((),b,c,e,f,())
theorem M7 (k a b c e f):XC k (a+1) b c e f=KD k (XC k a) b c e f:=Ba _ _ _ _
abbrev aeA:Cut:=⟨[0,3,9,10,11],[.cell (.sl 32 oo),cI,.cell (.sl 32 oo),cI,cI],[],36,[]⟩
def RH (k:Nat) (g3:BK -> Int -> BK -> Int -> Int -> Option FB) (a:List (List Int)) (b:Int) (c:List (List Int)) (e f:Int):Option FB :=
 (bif decide (f<e) then
  ix c f <|
  (bif decide ((IntKind.i64.wrap (b+((rd c f []).length:Int)))<0) then
   none
  else
   g3 a (IntKind.i64.wrap (b+((rd c f []).length:Int))) c e (IntKind.i64.wrap (f+1)))
 else
  (amn k b).bind fun q0 =>
  XC k k q0.1.1 a (a.length:Int) 0)
def ajw (k:Nat):Xx (((Unit)×BK×Int×BK×Int×Int×Unit) -> Option FB):=eu (dw (dh (dh (dh (dh (dh dx)))))) (RH k)
def acj (k a:Nat) (b:List (List Int)) (c:Int) (e:List (List Int)) (f h:Int):Option FB:=iter aeA (ajw k) a ((),b,c,e,f,h,())
theorem RI (k a b c e f h):acj k (a+1) b c e f h=RH k (acj k a) b c e f h:=Ba _ _ _ _
def amo (k:Nat) (a:List (List Int)):Option FB :=
 acj k k a 0 a (a.length:Int) 0
def F298:Fn:=⟨[.val ⟨false,(.sl 32 oo),false⟩],[RG],fun k x=>amo k x.1⟩
theorem ok298:O 298 F298:=okF (ah ok339 aj) [] (fun k=>(.loop 11 aaE (aez k) (fun g=>.nil) (.loop 3 aeA (ajw k) (fun g=>.nil) .nil))) Tryz.func298 rfl
def ag3 (k:Nat) (x:Int×(Int×Int)×(Int×Int)×((List Int)×List Int)×(Int×List (Int×Int))×Int):Option FB :=
 (aml k x.2.2.2.1).bind fun q0 =>
 (amm k x.2.2.2.2.1).bind fun q1 =>
 (amo k ([q0.1.2.1,q1.1.2.1]:List (List Int))).bind fun q2 =>
 some ((q2.1.1,()),())
def F234:Fn:=⟨[.val ⟨true,AO,false⟩],[RG],fun k x=>ag3 k x.1⟩
theorem ok234:O 234 F234:=okF (ah ok296 <| ah ok297 <| ah ok298 aj) [] On Tryz.func234 rfl
def aaF (k:Nat) (a:ael) (b:Int×Int):Option ((RA×(List Int)×Bool×Unit)×Unit) :=
 (U9 k a).bind fun q0 =>
 (ag2 k a b).bind fun q1 =>
 (bif !q1.1.2.1 then
  some ((q0.1.1,[],false,()),())
 else
  ix a.2 q1.1.1 <|
  (bif (rd a.2 q1.1.1 bf).1==1 then
   some ((q0.1.1,[],false,()),())
  else
   (amk k q0.1.1.1 b).bind fun q2 =>
   ix q0.1.1.2 q1.1.1 <|
   ix a.2 q1.1.1 <|
   (ag3 k (rd a.2 q1.1.1 bf)).bind fun q3 =>
   some (((q2.1.1,upd q0.1.1.2 q1.1.1 bf),q3.1.1,true,()),())))
def F174:Fn:=⟨[ami,.val ⟨true,F8,false⟩],[apW,RG,rB],fun k x=>aaF k x.1 x.2.1⟩
theorem ok174:O 174 F174:=okF (ah ok185 <| ah ok234 <| ah ok253 <| ah ok259 aj) [] On Tryz.func174 rfl
def aeB (k:Nat) (a:KC) (b c e:Int):Option BJ :=
 ap a.2.2.1 ([(a.1.1,12,0,b,c,e)]:List (PN Int 6)) 48 fun r0 =>
 some ((),AU (a.1,a.2.1,r0,a.2.2.2),())
def F170a:Fn:=⟨[.fK 175 [cI,cI,.cell (.sl 54 zf),.cell IZ,.cell .bool,.cell .bool,.cell .bool,.cell BL,.own 3 (.int .i64),.own 4 .bool,.own 142 AO,.cell oo,.cell DI,cI,cI,cI,cI,.cell vo,.cell vo,.cell vo,cI,cI,cI,cI,.cell (.int .u32),.own 51 qy,cI,cI,cI,cI],au,au,au],[],fun k x=>aeB k (pz x.1) x.2.1 x.2.2.1 x.2.2.2.1⟩
theorem ok170a:O 170 F170a:=okF aj [] On Tryz.func170 rfl
abbrev ajx:Cut:=⟨[0,33,34,35],[.pin false 0,.own 3 (.int .i64),cI,cI],[.fK 175 [cI,cI,.cell (.sl 54 zf),.cell IZ,.cell .bool,.cell .bool,.cell .bool,.cell BL,.own 3 (.int .i64),.own 4 .bool,.own 142 AO,.cell oo,.cell DI,cI,cI,cI,cI,.cell vo,.cell vo,.cell vo,cI,cI,cI,cI,.cell (.int .u32),.own 51 qy,cI,cI,cI,cI]],43,[]⟩
def aeC (k:Nat) (g5:(FV×(Int×FW×(Int×Int)×Int×Int×Int)×BI×Int×(Int×Int)×Int) -> (List Int) -> Int -> Int -> Option BJ) (a:KC) (b:List Int) (c e:Int):Option BJ :=
 (bif decide (e<c) then
  ix b e <|
  (aeB k a (rd b e 0) 0 15).bind fun q1 =>
  g5 (pz q1.2.1) b c (IntKind.i64.wrap (e+1))
 else
  some ((),AU a,()))
def aoR (k:Nat) (g:((ajj×Unit)×Unit×(List Int)×Int×Int×Unit) -> Option BJ) (d:(ajj×Unit)×Unit×(List Int)×Int×Int×Unit):Option BJ:=aeC k (fun a b c e=>g ((AU a,()),(),b,c,e,())) (pz d.1.1) d.2.2.1 d.2.2.2.1 d.2.2.2.2.1
def aeD (k a:Nat) (b:KC) (c:List Int) (e f:Int):Option BJ:=iter ajx (aoR k) a ((AU b,()),(),c,e,f,())
theorem aeE (k a b c e f):aeD k (a+1) b c e f=aeC k (aeD k a) b c e f:=Ba _ _ _ _
def S97 (k:Nat) (a:KC):Option BJ :=
 (aaF k a.1.2.2.2.2.2.2.2.2.1 a.2.1.2.2.1).bind fun q0 =>
 (bif !q0.1.2.2.1 then
  some ((),AU (w3 a 3),())
 else
  aeD k k ((w8 a.1 q0.1.1),a.2) q0.1.2.1 (q0.1.2.1.length:Int) 0)
def F97:Fn:=⟨[amh],[],fun k x=>S97 k (pz x.1)⟩
theorem ok97:O 97 F97:=okF (ah ok170a <| ah ok174 aj) [] (fun k=>(.loop 5 ajx (aoR k) (fun g=>.nil) .nil)) Tryz.func97 rfl
def S98 (k:Nat) (a:KC):Option BJ :=
 some ((),AU (w3 a 1),())
def F98:Fn:=⟨[amh],[],fun k x=>S98 k (pz x.1)⟩
theorem ok98:O 98 F98:=okF aj [] On Tryz.func98 rfl
def S41 (k:Nat) (a:O4) (b:Int×FW×(Int×Int)×Int×Int×Int):Option RB :=
 (bif b.1==1 then
  (S89 k (a,b,([]:List (PN Int 6)),0,(0,0),0)).bind fun q0 =>
  (S99 k (pz q0.2.1).1).bind fun q1 =>
  some ((q1.1.1,(pz q0.2.1).2.2.1,(pz q0.2.1).2.2.2,()),())
 else
  (bif b.1==2 then
   (S90 k (a,b,([]:List (PN Int 6)),0,(0,0),0)).bind fun q2 =>
   (S99 k (pz q2.2.1).1).bind fun q3 =>
   some ((q3.1.1,(pz q2.2.1).2.2.1,(pz q2.2.1).2.2.2,()),())
  else
   (bif b.1==3 then
    (S90 k (a,b,([]:List (PN Int 6)),0,(0,0),0)).bind fun q4 =>
    (S99 k (pz q4.2.1).1).bind fun q5 =>
    some ((q5.1.1,(pz q4.2.1).2.2.1,(pz q4.2.1).2.2.2,()),())
   else
    (bif b.1==4 then
     (S90 k (a,b,([]:List (PN Int 6)),0,(0,0),0)).bind fun q6 =>
     (S99 k (pz q6.2.1).1).bind fun q7 =>
     some ((q7.1.1,(pz q6.2.1).2.2.1,(pz q6.2.1).2.2.2,()),())
    else
     (bif b.1==5 then
      (S91 k (a,b,([]:List (PN Int 6)),0,(0,0),0)).bind fun q8 =>
      (S99 k (pz q8.2.1).1).bind fun q9 =>
      some ((q9.1.1,(pz q8.2.1).2.2.1,(pz q8.2.1).2.2.2,()),())
     else
      (bif b.1==6 then
       (S92 k (a,b,([]:List (PN Int 6)),0,(0,0),0)).bind fun q10 =>
       (S99 k (pz q10.2.1).1).bind fun OV =>
       some ((OV.1.1,(pz q10.2.1).2.2.1,(pz q10.2.1).2.2.2,()),())
      else
       (bif b.1==7 then
        (S93 k (a,b,([]:List (PN Int 6)),0,(0,0),0)).bind fun q12 =>
        (S99 k (pz q12.2.1).1).bind fun Zj =>
        some ((Zj.1.1,(pz q12.2.1).2.2.1,(pz q12.2.1).2.2.2,()),())
       else
        (bif b.1==8 then
         (S94 k (a,b,([]:List (PN Int 6)),0,(0,0),0)).bind fun q14 =>
         (S99 k (pz q14.2.1).1).bind fun q15 =>
         some ((q15.1.1,(pz q14.2.1).2.2.1,(pz q14.2.1).2.2.2,()),())
        else
         (bif b.1==9 then
          (S95 k (a,b,([]:List (PN Int 6)),0,(0,0),0)).bind fun q16 =>
          (S99 k (pz q16.2.1).1).bind fun q17 =>
          some ((q17.1.1,(pz q16.2.1).2.2.1,(pz q16.2.1).2.2.2,()),())
         else
          (bif b.1==10 then
           (S96 k (a,b,([]:List (PN Int 6)),0,(0,0),0)).bind fun q18 =>
           (S99 k (pz q18.2.1).1).bind fun q19 =>
           some ((q19.1.1,(pz q18.2.1).2.2.1,(pz q18.2.1).2.2.2,()),())
          else
           (bif b.1==11 then
            (S97 k (a,b,([]:List (PN Int 6)),0,(0,0),0)).bind fun q20 =>
            (S99 k (pz q20.2.1).1).bind fun q21 =>
            some ((q21.1.1,(pz q20.2.1).2.2.1,(pz q20.2.1).2.2.2,()),())
           else
            (S98 k (a,b,([]:List (PN Int 6)),0,(0,0),0)).bind fun q22 =>
            (S99 k (pz q22.2.1).1).bind fun q23 =>
            some ((q23.1.1,(pz q22.2.1).2.2.1,(pz q22.2.1).2.2.2,()),()))))))))))))
def F41:Fn:=⟨[aeo,.val ⟨true,(.pair (.int .i64) (.pair zf (.pair F8 (.pair (.int .i64) F9)))),false⟩],[aer,aem,.val ⟨true,aek,true⟩],fun k x=>S41 k x.1 x.2.1⟩
theorem ok41:O 41 F41:=okF (ah ok89 <| ah ok90 <| ah ok91 <| ah ok92 <| ah ok93 <| ah ok94 <| ah ok95 <| ah ok96 <| ah ok97 <| ah ok98 <| ah ok99 aj) [(14,2)] On Tryz.func41 rfl
def acn (k:Nat) (a:p8) (b:PN Int 6):Option lq :=
 ap a.2 ([(a.1.1,b.2)]:List (PN Int 6)) 48 fun r0 =>
 some ((),y7 (a.1,r0),())
def F146:Fn:=⟨[apV,.val ⟨true,qy,false⟩],[],fun k x=>acn k (uo x.1) x.2.1⟩
theorem ok146:O 146 F146:=okF aj [] On Tryz.func146 rfl
def ajy (k:Nat) (a:ni):Option Vh:=qQ 16 121 F8 k (a,())
def F292:Fn:=⟨dJ 121 F8,iZ 121 F8,qQ 16 121 F8⟩
theorem ok292:O 292 F292:=Kz IU mix Tryz.func292 rfl (by kernel_rfl) (by kernel_rfl) (fun k=>by kernel_rfl) (fun k xs=>by kernel_rfl) (fun k xs=>by kernel_rfl)
def ajz (k:Nat) (a:ni) (b:Int):Option ko :=
 (bif decide (b≥0) then
  some ((decide (b<(a.length:Int)),()),())
 else
  some ((false,()),()))
def F309:Fn:=⟨[FC,au],[rB],fun k x=>ajz k x.1 x.2.1⟩
theorem ok309:O 309 F309:=okF aj [] On Tryz.func309 rfl
def ag4 (k:Nat) (a:ni) (b c:Int):Option ko :=
 (ajz k a b).bind fun q0 =>
 (bif q0.1.1 then
  (bif decide (c≥0) then
   ix a b <|
   some (((rd a b (0,0)).2==(IntKind.i64.wrap (c+1)),()),())
  else
   some ((false,()),()))
 else
  some ((false,()),()))
def F293:Fn:=⟨[FC,au,au],[rB],fun k (a,b,c,_)=>ag4 k a b c⟩
theorem ok293:O 293 F293:=okF (ah ok309 aj) [] On Tryz.func293 rfl
abbrev aeF:Cut:=⟨[0,1,5,10,11],[.cell RF,cI,.own 121 F8,cI,cI],[],24,[]⟩
def XD (k:Nat) (g3:o7 -> Int -> o7 -> Int -> Int -> Option Vh) (a:ni) (b:Int) (c:ni) (e f:Int):Option Vh :=
 (bif decide (f<e) then
  (ag4 k a f b).bind fun q1 =>
  (bif q1.1.1 then
   ix c f <|
   g3 a b (upd c f ((rd c f (0,0)).1,0)) e (IntKind.i64.wrap (f+1))
  else
   g3 a b c e (IntKind.i64.wrap (f+1)))
 else
  some ((c,()),()))
def ajA (k:Nat):Xx (((Unit)×o7×Int×o7×Int×Int×Unit) -> Option Vh):=eu (dw (dh (dh (dh (dh (dh dx)))))) (XD k)
def XE (k a:Nat) (b:ni) (c:Int) (e:ni) (f h:Int):Option Vh:=iter aeF (ajA k) a ((),b,c,e,f,h,())
theorem aaG (k a b c e f h):XE k (a+1) b c e f h=XD k (XE k a) b c e f h:=Ba _ _ _ _
def ag5 (k:Nat) (a:ni) (b:Int):Option Vh :=
 (ajy k a).bind fun q0 =>
 XE k k a b q0.1.1 (q0.1.1.length:Int) 0
def F231:Fn:=⟨[FC,au],[aep],fun k x=>ag5 k x.1 x.2.1⟩
theorem ok231:O 231 F231:=okF (ah ok292 <| ah ok293 aj) [] (fun k=>(.loop 3 aeF (ajA k) (fun g=>.nil) .nil)) Tryz.func231 rfl
abbrev aeG:Cut:=⟨[0,1,11,12,13],[.pin false 0,.cell RF,.own 3 (.int .i64),cI,cI],[.fK 166 [cI,cI,.own 54 zf,.own 168 BH,.cell .bool,.cell .bool,.cell .bool,.cell BL,.own 3 (.int .i64),.own 4 .bool,.own 142 AO,.own 3 (.int .i64),.own 4 .bool,.own 51 qy]],55,[]⟩
def XF (k:Nat) (g1:(FV×List (PN Int 6)) -> o7 -> (List Int) -> Int -> Int -> Option lq) (a:p8) (b:ni) (c:List Int) (e f:Int):Option lq :=
 (bif decide (f<e) then
  ix c f <|
  ix a.1.2.2.2.2.2.2.2.2.1.2 (rd c f 0) <|
  (bif decide (f<(b.length:Int)) then
   ix b f <|
   (bif !(fC F8 (rd a.1.2.2.2.2.2.2.2.2.1.2 (rd c f 0) bf).2.2.1 (rd b f (0,0))) then
    ix b f <|
    (II k a.1.2.2.2.2.2.2.2.2.1 (rd c f 0) ((rd a.1.2.2.2.2.2.2.2.2.1.2 (rd c f 0) bf).1,(rd a.1.2.2.2.2.2.2.2.2.1.2 (rd c f 0) bf).2.1,rd b f (0,0),(rd a.1.2.2.2.2.2.2.2.2.1.2 (rd c f 0) bf).2.2.2)).bind fun q1 =>
    g1 ((w8 a.1 q1.1.1),a.2) b c e (IntKind.i64.wrap (f+1))
   else
    g1 a b c e (IntKind.i64.wrap (f+1)))
  else
   g1 a b c e (IntKind.i64.wrap (f+1)))
 else
  some ((),y7 a,()))
def ajB (k:Nat) (g:(CB×Unit×o7×(List Int)×Int×Int×Unit) -> Option lq) (d:CB×Unit×o7×(List Int)×Int×Int×Unit):Option lq:=XF k (fun a b c e f=>g ((y7 a,()),(),b,c,e,f,())) (uo d.1.1) d.2.2.1 d.2.2.2.1 d.2.2.2.2.1 d.2.2.2.2.2.1
def M8 (k a:Nat) (b:p8) (c:ni) (e:List Int) (f h:Int):Option lq:=iter aeG (ajB k) a ((y7 b,()),(),c,e,f,h,())
theorem aaH (k a b c e f h):M8 k (a+1) b c e f h=XF k (M8 k a) b c e f h:=Ba _ _ _ _
def amq (k:Nat) (a:p8) (b:ni):Option lq :=
 (aas k a.1.2.2.2.2.2.2.2.2.1).bind fun q0 =>
 M8 k k a b q0.1.1 (q0.1.1.length:Int) 0
def F61a:Fn:=⟨[apV,FC],[],fun k x=>amq k (uo x.1) x.2.1⟩
theorem ok61a:O 61 F61a:=okF (ah ok107 <| ah ok128 aj) [] (fun k=>(.loop 1 aeG (ajB k) (fun g=>.nil) .nil)) Tryz.func61 rfl
def apZ (k:Nat) (a:(List Int)×List Bool) (b:Int):Option ko :=
 (bif decide (b≥0) then
  some ((decide (b<(mn (a.1.length:Int) (a.2.length:Int))),()),())
 else
  some ((false,()),()))
def F294:Fn:=⟨[ajp,au],[rB],fun k x=>apZ k x.1 x.2.1⟩
theorem ok294:O 294 F294:=okF aj [] On Tryz.func294 rfl
def ap0 (k:Nat) (a:List Bool) (b:Bool):Option ko :=
 (ai3 k a b).bind fun q0 =>
 some ((decide (q0.1.1≥0),()),())
def F295:Fn:=⟨[.val ⟨false,DI,false⟩,.val ⟨false,.bool,false⟩],[rB],fun k x=>ap0 k x.1 x.2.1⟩
theorem ok295:O 295 F295:=okF (ah ok325 aj) [] On Tryz.func295 rfl
def amr (k:Nat) (a:(List Int)×List Bool) (b:Int):Option ((((List Int)×List Bool)×Bool×Bool×Unit)×Unit) :=
 (ag0 k a).bind fun q0 =>
 (apZ k a b).bind fun q1 =>
 (bif !q1.1.1 then
  some ((q0.1.1,false,false,()),())
 else
  ix q0.1.1.1 b <|
  ix q0.1.1.1 b <|
  ix (upd q0.1.1.1 b (IntKind.i64.wrap ((rd q0.1.1.1 b 0)+1))) b <|
  (bif (rd (upd q0.1.1.1 b (IntKind.i64.wrap ((rd q0.1.1.1 b 0)+1))) b 0) != 2 then
   some (((upd q0.1.1.1 b (IntKind.i64.wrap ((rd q0.1.1.1 b 0)+1)),q0.1.1.2),false,false,()),())
  else
   ix q0.1.1.2 b <|
   (bif rd q0.1.1.2 b false then
    some (((upd q0.1.1.1 b (IntKind.i64.wrap ((rd q0.1.1.1 b 0)+1)),q0.1.1.2),false,false,()),())
   else
    ix q0.1.1.2 b <|
    (ap0 k (upd q0.1.1.2 b true) false).bind fun q2 =>
    some (((upd q0.1.1.1 b (IntKind.i64.wrap ((rd q0.1.1.1 b 0)+1)),upd q0.1.1.2 b true),true,!q2.1.1,()),()))))
def F232:Fn:=⟨[ajp,au],[.val ⟨true,O6,true⟩,rB,rB],fun k x=>amr k x.1 x.2.1⟩
theorem ok232:O 232 F232:=okF (ah ok224 <| ah ok294 <| ah ok295 aj) [] On Tryz.func232 rfl
abbrev ams:Cut:=⟨[0,6],[.pin false 0,.cell .bool],[.fK 166 [cI,cI,.own 54 zf,.own 168 BH,.cell .bool,.cell .bool,.cell .bool,.cell BL,.own 3 (.int .i64),.own 4 .bool,.own 142 AO,.own 3 (.int .i64),.own 4 .bool,.own 51 qy]],55,[]⟩
def RJ (k:Nat) (a:p8) (b:Bool):Option lq :=
 (bif b then
  (acn k a (0,10,0,0,0,0)).bind fun q6 =>
  some ((),y7 ((w5 (uo q6.2.1).1 true),(uo q6.2.1).2),())
 else
  some ((),y7 a,()))
def amt (k:Nat) (a:p8) (b:za):Option lq :=
 (acn k a (0,5,b.1,0,0,0)).bind fun q0 =>
 (S48 k (uo q0.2.1).1).bind fun q1 =>
 (ag5 k q1.1.1 b.1).bind fun q2 =>
 (amq k (uo q0.2.1) q2.1.1).bind fun q3 =>
 (amr k (uo q3.2.1).1.2.2.2.2.2.2.2.2.2 b.1).bind fun q4 =>
 (bif q4.1.2.1 then
  (acn k ((z9 (uo q3.2.1).1 q4.1.1),(uo q3.2.1).2) (0,9,b.1,0,0,0)).bind fun q5 =>
  RJ k (uo q5.2.1) q4.1.2.2.1
 else
  RJ k ((z9 (uo q3.2.1).1 q4.1.1),(uo q3.2.1).2) q4.1.2.2.1)
def F147:Fn:=⟨[apV,FD],[],fun k x=>amt k (uo x.1) x.2.1⟩
theorem ok147:O 147 F147:=okF (ah ok48 <| ah ok61a <| ah ok146 <| ah ok231 <| ah ok232 aj) [] (fun k=>(.join 7 ams (fun d=>RJ k (uo d.1.1) d.2.2.1) .nil)) Tryz.func147 rfl
abbrev ajC:Cut:=⟨[0,2,9,10,11],[.pin false 0,.own 59 KA,.cell BL,cI,cI],[.fK 166 [cI,cI,.own 54 zf,.own 168 BH,.cell .bool,.cell .bool,.cell .bool,.cell BL,.own 3 (.int .i64),.own 4 .bool,.own 142 AO,.own 3 (.int .i64),.own 4 .bool,.own 51 qy]],57,[]⟩
def aeH (k:Nat) (g2:(FV×List (PN Int 6)) -> (List wz) -> (List wz) -> Int -> Int -> Option lq) (a:p8) (b c:List wz) (e f:Int):Option lq :=
 (bif decide (f<e) then
  ix c f <|
  ix a.1.2.2.1 (rd c f ay).1 <|
  (bif (IntKind.i64.wrap (a.1.1 - (rd c f ay).2.1)) != (rd a.1.2.2.1 (rd c f ay).1 bg).2.2.1 then
   ap b ([rd c f ay]:List wz) 272 fun r0 =>
   g2 a r0 c e (IntKind.i64.wrap (f+1))
  else
   (bif (rd c f ay).2.2.2.1==2 then
    (acn k a (0,13,(rd c f ay).1,0,0,0)).bind fun q1 =>
    g2 (uo q1.2.1) b c e (IntKind.i64.wrap (f+1))
   else
    (amt k a (rd c f ay)).bind fun q2 =>
    g2 (uo q2.2.1) b c e (IntKind.i64.wrap (f+1))))
 else
  some ((),y7 ((w7 a.1 b),a.2),()))
def aoT (k:Nat) (g:(CB×Unit×(List wz)×(List wz)×Int×Int×Unit) -> Option lq) (d:CB×Unit×(List wz)×(List wz)×Int×Int×Unit):Option lq:=aeH k (fun a b c e f=>g ((y7 a,()),(),b,c,e,f,())) (uo d.1.1) d.2.2.1 d.2.2.2.1 d.2.2.2.2.1 d.2.2.2.2.2.1
def aeI (k a:Nat) (b:p8) (c e:List wz) (f h:Int):Option lq:=iter ajC (aoT k) a ((y7 b,()),(),c,e,f,h,())
theorem aeJ (k a b c e f h):aeI k (a+1) b c e f h=aeH k (aeI k a) b c e f h:=Ba _ _ _ _
def S78 (k:Nat) (a:p8):Option lq :=
 aeI k k a ([]:List wz) a.1.2.2.2.2.2.2.2.1 (a.1.2.2.2.2.2.2.2.1.length:Int) 0
def F78:Fn:=⟨[Xz],[],fun k x=>S78 k (uo x.1)⟩
theorem ok78:O 78 F78:=okF (ah ok146 <| ah ok147 aj) [(2,2)] (fun k=>(.loop 2 ajC (aoT k) (fun g=>.nil) .nil)) Tryz.func78 rfl
abbrev ajD:Cut:=⟨[0,9,10],[.pin false 0,cI,cI],[.fK 166 [cI,cI,.own 54 zf,.own 168 BH,.cell .bool,.cell .bool,.cell .bool,.own 59 KA,.own 3 (.int .i64),.own 4 .bool,.own 142 AO,.own 3 (.int .i64),.own 4 .bool,.own 51 qy]],48,[(8,3)]⟩
def aeK (k:Nat) (g1:(FV×List (PN Int 6)) -> Int -> Int -> Option lq) (a:p8) (b c:Int):Option lq :=
 (bif decide (c<b) then
  ix a.1.2.2.2.2.2.2.2.1 c <|
  (bif (rd a.1.2.2.2.2.2.2.2.1 c ay).2.2.2.1 != 2 then
   ix a.1.2.2.2.1 (rd a.1.2.2.2.2.2.2.2.1 c ay).1 <|
   (bif decide ((IntKind.i64.wrap (a.1.1 - (rd a.1.2.2.2.2.2.2.2.1 c ay).2.1))≥(rd a.1.2.2.2.1 (rd a.1.2.2.2.2.2.2.2.1 c ay).1 (Qn (α:=Int) 5 0)).2.2.2.2) then
    ix a.1.2.2.2.2.2.2.2.1 c <|
    let r0:List wz:=upd a.1.2.2.2.2.2.2.2.1 c (z7 (rd a.1.2.2.2.2.2.2.2.1 c ay) true)
    g1 ((w7 a.1 r0),a.2) b (IntKind.i64.wrap (c+1))
   else
    g1 a b (IntKind.i64.wrap (c+1)))
  else
   g1 a b (IntKind.i64.wrap (c+1)))
 else
  some ((),y7 a,()))
def aoU (k:Nat) (g:(CB×Unit×Int×Int×Unit) -> Option lq) (d:CB×Unit×Int×Int×Unit):Option lq:=aeK k (fun a b c=>g ((y7 a,()),(),b,c,())) (uo d.1.1) d.2.2.1 d.2.2.2.1
def aeL (k a:Nat) (b:p8) (c e:Int):Option lq:=iter ajD (aoU k) a ((y7 b,()),(),c,e,())
theorem aeM (k a b c e):aeL k (a+1) b c e=aeK k (aeL k a) b c e:=Ba _ _ _ _
def S79 (k:Nat) (a:p8):Option lq :=
 aeL k k a (a.1.2.2.2.2.2.2.2.1.length:Int) 0
def F79:Fn:=⟨[Xz],[],fun k x=>S79 k (uo x.1)⟩
theorem ok79:O 79 F79:=okF aj [] (fun k=>(.loop 1 ajD (aoU k) (fun g=>.nil) .nil)) Tryz.func79 rfl
abbrev amu:Cut:=⟨[1,2,3,4,5,6,7,11,12,13],[.box 38 [.cell oo,.cell DI,.cell IY],.box 38 [.own 3 (.int .i64),.own 4 .bool,.own 142 AO],.own 3 (.int .i64),.own 32 oo,cI,.box 142 [cI,cI,cI,cI,cI,.cell (.sl 2 (.int .i64)),.cell oo,.cell (.int .u32),.cell (.sl 266 F9),.cell (.int .u32)],.box 142 [cI,cI,cI,cI,cI,.own 2 (.int .i64),.own 3 (.int .i64),.cell (.int .u32),.own 266 F9,.cell (.int .u32)],.cell IY,cI,cI],[],61,[]⟩
def RL (k:Nat) (g3:ajm) (a:List Int) (b:List Bool) (c:List y8) (e:List Int) (f:List Bool) (h:List y8) (i:List Int) (l:List (List Int)) (m x n o p s:Int) (t u:List Int) (v:Int) (w:ni) (y z A B C D:Int) (G H:List Int) (I:Int) (J:ni) (K:Int) (M:List y8) (N O:Int):Option Vd :=
 (ab9 k (z,(A,B),(C,D),(G,H),(I,J),K)).bind fun q4 =>
 ix h m <|
 ap i ([m]:List Int) 8 fun r5 =>
 (ag3 k (x,(n,o),(p,s),(t,u),(v,w),y)).bind fun q6 =>
 ap l ([q6.1.1]:List (List Int)) 24 fun r7 =>
 g3 a b c e f (upd h m q4.1.1) r5 r7 M N (IntKind.i64.wrap (O+1))
abbrev aeN:Cut:=⟨[1,2,3,4,11,12,13],[.box 38 [.cell oo,.cell DI,.cell IY],.box 38 [.own 3 (.int .i64),.own 4 .bool,.own 142 AO],.own 3 (.int .i64),.own 32 oo,.cell IY,cI,cI],[],61,[]⟩
def XG (k:Nat) (g3:ajm) (a:List Int) (b:List Bool) (c:List y8) (e:List Int) (f:List Bool) (h:List y8) (i:List Int) (l:List (List Int)) (m:List y8) (n o:Int):Option Vd :=
 (bif decide (o<n) then
  ix m o <|
  (ab7 k ((a,b),c) o).bind fun q1 =>
  (bif !q1.1.1 then
   g3 a b c e f h i l m n (IntKind.i64.wrap (o+1))
  else
   (ab8 k (rd m o bf)).bind fun q2 =>
   (bif (rd m o bf).2.2.2.2.2==q2.1.1 then
    g3 a b c e f h i l m n (IntKind.i64.wrap (o+1))
   else
    (ag1 k (rd m o bf).1 (rd m o bf).2.1).bind fun q3 =>
    (bif (rd m o bf).1==1 then
     RL k g3 a b c e f h i l o (rd m o bf).1 (rd m o bf).2.1.1 (rd m o bf).2.1.2 (rd m o bf).2.2.1.1 (rd m o bf).2.2.1.2 (rd m o bf).2.2.2.1.1 (rd m o bf).2.2.2.1.2 (rd m o bf).2.2.2.2.1.1 (rd m o bf).2.2.2.2.1.2 (rd m o bf).2.2.2.2.2 q3.1.1.1 q3.1.1.2.1.1 q3.1.1.2.1.2 (rd m o bf).2.2.1.1 q3.1.1.2.2.1.2 q3.1.1.2.2.2.1.1 q3.1.1.2.2.2.1.2 q3.1.1.2.2.2.2.1.1 q3.1.1.2.2.2.2.1.2 q3.1.1.2.2.2.2.2 m n o
    else
     RL k g3 a b c e f h i l o (rd m o bf).1 (rd m o bf).2.1.1 (rd m o bf).2.1.2 (rd m o bf).2.2.1.1 (rd m o bf).2.2.1.2 (rd m o bf).2.2.2.1.1 (rd m o bf).2.2.2.1.2 (rd m o bf).2.2.2.2.1.1 (rd m o bf).2.2.2.2.1.2 (rd m o bf).2.2.2.2.2 q3.1.1.1 q3.1.1.2.1.1 q3.1.1.2.1.2 q3.1.1.2.2.1.1 q3.1.1.2.2.1.2 q3.1.1.2.2.2.1.1 q3.1.1.2.2.2.1.2 q3.1.1.2.2.2.2.1.1 q3.1.1.2.2.2.2.1.2 q3.1.1.2.2.2.2.2 m n o)))
 else
  some ((((e,f),h),i,l,()),()))
def ajE (k:Nat):Xx (((Unit)×aeh×aeh×(List Int)×BK×(List y8)×Int×Int×Unit) -> Option Vd):=eu (dw (d9 (dh (dh (dh dx))) (d9 (dh (dh (dh dx))) (dh (dh (dh (dh (dh dx)))))))) (XG k)
def RN (k a:Nat) (b:List Int) (c:List Bool) (e:List y8) (f:List Int) (h:List Bool) (i:List y8) (l:List Int) (m:List (List Int)) (n:List y8) (o p:Int):Option Vd:=iter aeN (ajE k) a ((),(b,c,e,()),(f,h,i,()),l,m,n,o,p,())
theorem aaI (k a b c e f h i l m n o p):RN k (a+1) b c e f h i l m n o p=XG k (RN k a) b c e f h i l m n o p:=Ba _ _ _ _
def amv (k:Nat) (a:ael):Option Vd :=
 (U9 k a).bind fun q0 =>
 RN k k a.1.1 a.1.2 a.2 q0.1.1.1.1 q0.1.1.1.2 q0.1.1.2 ([]:List Int) ([]:List (List Int)) a.2 (a.2.length:Int) 0
def F148:Fn:=⟨[ami],[apW,RG,.val ⟨false,(.sl 32 oo),true⟩],fun k x=>amv k x.1⟩
theorem ok148:O 148 F148:=okF (ah ok185 <| ah ok186 <| ah ok221 <| ah ok223 <| ah ok233 <| ah ok234 aj) [(3,2),(4,2)] (fun k=>(.loop 3 aeN (ajE k) (fun g=>(fun (g3:ajm)=>(.join 9 amu (fun (_,(a,b,c,_),(e,f,h,_),i,l,m,(n,o,p,s,t,u,v,w,y,z,_),(A,B,C,D,G,H,I,J,K,M,_),N,O,P,_)=>RL k g3 a b c e f h i l m n o p s t u v w y z A B C D G H I J K M N O P) .nil)) (fun t1 t2 t3 out ab5 ap1 places who t11 t12 t13=>g ((),(t1,t2,t3,()),(out,ab5,ap1,()),places,who,t11,t12,t13,()))) .nil)) Tryz.func148 rfl
def J2 (k:Nat) (a:p8) (b:PN Int 6):Option lq :=
 ap a.2 ([(a.1.1,b.2)]:List (PN Int 6)) 48 fun r0 =>
 some ((),y7 (a.1,r0),())
def F146a:Fn:=⟨[Xz,.val ⟨true,qy,false⟩],[],fun k x=>J2 k (uo x.1) x.2.1⟩
theorem ok146a:O 146 F146a:=okF aj [] On Tryz.func146 rfl
abbrev aeO:Cut:=⟨[0,4,9,27,28,29,67,68],[.pin false 0,.own 32 oo,cI,.own 3 (.int .i64),cI,cI,cI,cI],[.fK 166 [cI,cI,.own 54 zf,.own 168 BH,.cell .bool,.cell .bool,.cell .bool,.own 59 KA,.own 3 (.int .i64),.own 4 .bool,.own 142 AO,.own 3 (.int .i64),.own 4 .bool,.own 51 qy]],85,[(66,3)]⟩
def XH (k:Nat) (g3:O5) (g14:(FV×List (PN Int 6)) -> BK -> Int -> (List Int) -> Int -> Int -> Int -> Int -> Option lq) (a:p8) (b:List (List Int)) (c:Int) (e:List Int) (f h i l:Int):Option lq :=
 (bif decide (l<i) then
  ix a.1.2.2.2.2.2.2.2.1 l <|
  (agZ k (rd a.1.2.2.2.2.2.2.2.1 l ay) c).bind fun q5 =>
  ix a.1.2.2.2.2.2.2.2.1 l <|
  g14 ((w7 a.1 (upd a.1.2.2.2.2.2.2.2.1 l q5.1.1)),a.2) b c e f h i (IntKind.i64.wrap (l+1))
 else
  g3 a b e f (IntKind.i64.wrap (h+1)))
def ajF (k:Nat) (g3:O5) (g:(CB×Unit×BK×Int×(List Int)×Int×Int×Int×Int×Unit) -> Option lq) (d:CB×Unit×BK×Int×(List Int)×Int×Int×Int×Int×Unit):Option lq:=XH k g3 (fun a b c e f h i l=>g ((y7 a,()),(),b,c,e,f,h,i,l,())) (uo d.1.1) d.2.2.1 d.2.2.2.1 d.2.2.2.2.1 d.2.2.2.2.2.1 d.2.2.2.2.2.2.1 d.2.2.2.2.2.2.2.1 d.2.2.2.2.2.2.2.2.1
def XI (k:Nat) (g3:O5) (a:Nat) (b:p8) (c:List (List Int)) (e:Int) (f:List Int) (h i l m:Int):Option lq:=iter aeO (ajF k g3) a ((y7 b,()),(),c,e,f,h,i,l,m,())
theorem aaJ (k g3 a b c e f h i l m):XI k g3 (a+1) b c e f h i l m=XH k g3 (XI k g3 a) b c e f h i l m:=Ba _ _ _ _
abbrev ajG:Cut:=⟨[0,4,6,27,28,29,41,42,43],[.pin false 0,.own 32 oo,cI,.own 3 (.int .i64),cI,cI,.cell oo,cI,cI],[.fK 166 [cI,cI,.own 54 zf,.own 168 BH,.cell .bool,.cell .bool,.cell .bool,.own 59 KA,.own 3 (.int .i64),.own 4 .bool,.own 142 AO,.own 3 (.int .i64),.own 4 .bool,.own 51 qy]],85,[]⟩
def aeP (k:Nat) (g3:O5) (g7:(FV×List (PN Int 6)) -> BK -> Int -> (List Int) -> Int -> Int -> (List Int) -> Int -> Int -> Option lq) (a:p8) (b:List (List Int)) (c:Int) (e:List Int) (f h:Int) (i:List Int) (l m:Int):Option lq :=
 (bif decide (m<l) then
  ix i m <|
  (J2 k a (0,12,0,rd i m 0,0,15)).bind fun q2 =>
  g7 (uo q2.2.1) b c e f h i l (IntKind.i64.wrap (m+1))
 else
  (aas k a.1.2.2.2.2.2.2.2.2.1).bind fun q3 =>
  (aci k q3.1.1 c).bind fun q4 =>
  (bif decide (q4.1.1≥0) then
   XI k g3 k a b q4.1.1 e f h (a.1.2.2.2.2.2.2.2.1.length:Int) 0
  else
   g3 a b e f (IntKind.i64.wrap (h+1))))
def aoV (k:Nat) (g3:O5) (g:(CB×Unit×BK×Int×(List Int)×Int×Int×(List Int)×Int×Int×Unit) -> Option lq) (d:CB×Unit×BK×Int×(List Int)×Int×Int×(List Int)×Int×Int×Unit):Option lq:=aeP k g3 (fun a b c e f h i l m=>g ((y7 a,()),(),b,c,e,f,h,i,l,m,())) (uo d.1.1) d.2.2.1 d.2.2.2.1 d.2.2.2.2.1 d.2.2.2.2.2.1 d.2.2.2.2.2.2.1 d.2.2.2.2.2.2.2.1 d.2.2.2.2.2.2.2.2.1 d.2.2.2.2.2.2.2.2.2.1
def aeQ (k:Nat) (g3:O5) (a:Nat) (b:p8) (c:List (List Int)) (e:Int) (f:List Int) (h i:Int) (l:List Int) (m n:Int):Option lq:=iter ajG (aoV k g3) a ((y7 b,()),(),c,e,f,h,i,l,m,n,())
theorem aeR (k g3 a b c e f h i l m n):aeQ k g3 (a+1) b c e f h i l m n=aeP k g3 (aeQ k g3 a) b c e f h i l m n:=Ba _ _ _ _
abbrev ajH:Cut:=⟨[0,4,27,28,29],[.pin false 0,.own 32 oo,.own 3 (.int .i64),cI,cI],[.fK 166 [cI,cI,.own 54 zf,.own 168 BH,.cell .bool,.cell .bool,.cell .bool,.own 59 KA,.own 3 (.int .i64),.own 4 .bool,.own 142 AO,.own 3 (.int .i64),.own 4 .bool,.own 51 qy]],85,[]⟩
def aeS (k:Nat) (g3:O5) (a:p8) (b:List (List Int)) (c:List Int) (e f:Int):Option lq :=
 (bif decide (f<e) then
  ix c f <|
  (J2 k a (0,11,0,rd c f 0,0,0)).bind fun q1 =>
  ix b f <|
  aeQ k g3 k (uo q1.2.1) b (rd c f 0) c e f (rd b f []) ((rd b f []).length:Int) 0
 else
  some ((),y7 a,()))
def aoW (k:Nat) (g:(CB×Unit×BK×(List Int)×Int×Int×Unit) -> Option lq) (d:CB×Unit×BK×(List Int)×Int×Int×Unit):Option lq:=aeS k (fun a b c e f=>g ((y7 a,()),(),b,c,e,f,())) (uo d.1.1) d.2.2.1 d.2.2.2.1 d.2.2.2.2.1 d.2.2.2.2.2.1
def aaK (k a:Nat) (b:p8) (c:List (List Int)) (e:List Int) (f h:Int):Option lq:=iter ajH (aoW k) a ((y7 b,()),(),c,e,f,h,())
theorem aeT (k a b c e f h):aaK k (a+1) b c e f h=aeS k (aaK k a) b c e f h:=Ba _ _ _ _
def S80 (k:Nat) (a:p8):Option lq :=
 (amv k a.1.2.2.2.2.2.2.2.2.1).bind fun q0 =>
 aaK k k ((w8 a.1 q0.1.1),a.2) q0.1.2.2.1 q0.1.2.1 (q0.1.2.1.length:Int) 0
def F80:Fn:=⟨[Xz],[],fun k x=>S80 k (uo x.1)⟩
theorem ok80:O 80 F80:=okF (ah ok107 <| ah ok127 <| ah ok146a <| ah ok148 <| ah ok149 aj) [] (fun k=>(.loop 3 ajH (aoW k) (fun g=>(fun (g3:O5)=>(.loop 14 aeO (ajF k g3) (fun g=>.nil) (.loop 7 ajG (aoV k g3) (fun g=>.nil) .nil))) (fun t1 who t27 t28 t29=>g ((y7 t1,()),(),who,t27,t28,t29,()))) .nil)) Tryz.func80 rfl
abbrev aeU:Cut:=⟨[0,2,6,7,8,12,13,14],[.cell RF,cI,cI,.cell .bool,.mp 423 true (.int .i64) false .bool,.cell oo,cI,cI],[],51,[]⟩
def XJ (k:Nat) (g3:o7 -> Int -> Int -> Bool -> (List (Int×Bool)) -> (List Int) -> Int -> Int -> Option yj) (a:ni) (b c:Int) (e:Bool) (f:List (Int×Bool)) (h:List Int) (i l:Int):Option yj :=
 (bif decide (l<i) then
  ix h l <|
  (ag4 k a (rd h l 0) b).bind fun q0 =>
  (bif !q0.1.1 then
   g3 a b c e f h i (IntKind.i64.wrap (l+1))
  else
   (bif Us (.int .i64) .bool (rd h l 0) f false then
    g3 a b c e f h i (IntKind.i64.wrap (l+1))
   else
    (bif !e then
     ix a (rd h l 0) <|
     g3 a b (rd a (rd h l 0) (0,0)).1 true (vL (.int .i64) .bool (rd h l 0) true f) h i (IntKind.i64.wrap (l+1))
    else
     ix a (rd h l 0) <|
     (bif decide ((rd a (rd h l 0) (0,0)).1<c) then
      ix a (rd h l 0) <|
      g3 a b (rd a (rd h l 0) (0,0)).1 true (vL (.int .i64) .bool (rd h l 0) true f) h i (IntKind.i64.wrap (l+1))
     else
      g3 a b c e (vL (.int .i64) .bool (rd h l 0) true f) h i (IntKind.i64.wrap (l+1))))))
 else
  some ((c,e,()),()))
def ajI (k:Nat):Xx (((Unit)×o7×Int×Int×Bool×(List (Int×Bool))×(List Int)×Int×Int×Unit) -> Option yj):=eu (dw (dh (dh (dh (dh (dh (dh (dh (dh dx))))))))) (XJ k)
def XK (k a:Nat) (b:ni) (c e:Int) (f:Bool) (h:List (Int×Bool)) (i:List Int) (l m:Int):Option yj:=iter aeU (ajI k) a ((),b,c,e,f,h,i,l,m,())
theorem aaL (k a b c e f h i l m):XK k (a+1) b c e f h i l m=XJ k (XK k a) b c e f h i l m:=Ba _ _ _ _
def ajJ (k:Nat) (a:ni) (b:List Int) (c:Int):Option yj :=
 XK k k a c 0 false ([]:List (Int×Bool)) b (b.length:Int) 0
def F300:Fn:=⟨[FC,aen,au],[rI,rB],fun k (a,b,c,_)=>ajJ k a b c⟩
theorem ok300:O 300 F300:=okF (ah ok293 aj) [] (fun k=>(.loop 3 aeU (ajI k) (fun g=>.nil) .nil)) Tryz.func300 rfl
def ajK (k:Nat) (a:za) (b:Int):Option uf :=
 (bif a.2.2.2.1==2 then
  some ((IntKind.i64.wrap ((IntKind.i64.wrap (b+b))+a.1),()),())
 else
  (bif a.2.2.2.2.2.2.2 then
   some ((a.1,()),())
  else
   some ((IntKind.i64.wrap (b+a.1),()),())))
def F340:Fn:=⟨[FD,au],[rI],fun k x=>ajK k x.1 x.2.1⟩
theorem ok340:O 340 F340:=okF aj [] On Tryz.func340 rfl
def ap2 (k:Nat) (a:za) (b:Int) (c:ni):Option uf :=
 (ajJ k c a.2.2.2.2.2.2.1 a.1).bind fun q0 =>
 (bif q0.1.2.1 then
  (ajK k a b).bind fun q1 =>
  some ((mn q1.1.1 q0.1.1,()),())
 else
  (ajK k a b).bind fun q2 =>
  some ((q2.1.1,()),()))
def F299:Fn:=⟨[FD,au,FC],[rI],fun k (a,b,c,_)=>ap2 k a b c⟩
theorem ok299:O 299 F299:=okF (ah ok300 <| ah ok340 aj) [] On Tryz.func299 rfl
def amw (k:Nat) (a:za) (b:Int) (c:ni):Option ((oz×Unit)×Unit) :=
 (ap2 k a b c).bind fun q0 =>
 (ajJ k c a.2.2.2.2.2.2.1 a.1).bind fun q1 =>
 (bif q1.1.2.1 then
  some (((q0.1.1,0,a.1),()),())
 else
  some (((q0.1.1,1,a.1),()),()))
def F235:Fn:=⟨[FD,au,FC],[.val ⟨true,qx,true⟩],fun k (a,b,c,_)=>amw k a b c⟩
theorem ok235:O 235 F235:=okF (ah ok299 <| ah ok300 aj) [] On Tryz.func235 rfl
def amx (k:Nat) (x:Int):Option ko :=
 some ((x != x,()),())
def F342:Fn:=⟨[au],[rB],fun k x=>amx k x.1⟩
theorem ok342:O 342 F342:=okF aj [] On Tryz.func342 rfl
def ag6 (k:Nat) (x a:Int):Option uf :=
 (amx k x).bind fun q0 =>
 (amx k a).bind fun q1 =>
 (bif q0.1.1 then
  (bif q1.1.1 then
   some ((0,()),())
  else
   some (((-1),()),()))
 else
  (bif q1.1.1 then
   some ((1,()),())
  else
   (bif decide (x<a) then
    some (((-1),()),())
   else
    (bif decide (x>a) then
     some ((1,()),())
    else
     some ((0,()),())))))
def F304:Fn:=⟨[au,au],[rI],fun k x=>ag6 k x.1 x.2.1⟩
theorem ok304:O 304 F304:=okF (ah ok342 aj) [] On Tryz.func304 rfl
abbrev aeV:Cut:=⟨[3,6,7,8],[cI,.cell oo,cI,cI],[],18,[]⟩
def M9 (k:Nat) (g3:Int -> (List Int) -> Int -> Int -> Option uf) (a:Int) (b:List Int) (c e:Int):Option uf :=
 (bif decide (e<c) then
  ix b e <|
  (bif (rd b e 0) != a then
   some ((rd b e 0,()),())
  else
   g3 a b c (IntKind.i64.wrap (e+1)))
 else
  some ((a,()),()))
def ajL (k:Nat):Xx (((Unit)×Int×(List Int)×Int×Int×Unit) -> Option uf):=eu (dw (dh (dh (dh (dh dx))))) (M9 k)
def aco (k a:Nat) (b:Int) (c:List Int) (e f:Int):Option uf:=iter aeV (ajL k) a ((),b,c,e,f,())
theorem KE (k a b c e f):aco k (a+1) b c e f=M9 k (aco k a) b c e f:=Ba _ _ _ _
def ap3 (k:Nat) (a:List Int):Option uf :=
 aco k k 0 a (a.length:Int) 0
def F303:Fn:=⟨[aen],[rI],fun k x=>ap3 k x.1⟩
theorem ok303:O 303 F303:=okF aj [] (fun k=>(.loop 3 aeV (ajL k) (fun g=>.nil) .nil)) Tryz.func303 rfl
def ag7 (k:Nat) (a b:Int×Int×Int):Option uf :=
 (ag6 k a.1 b.1).bind fun q0 =>
 (ag6 k a.2.1 b.2.1).bind fun q1 =>
 (ag6 k a.2.2 b.2.2).bind fun q2 =>
 (ap3 k ([q0.1.1,q1.1.1,q2.1.1]:List Int)).bind fun q3 =>
 some ((q3.1.1,()),())
def F237:Fn:=⟨[.val ⟨true,qx,false⟩,.val ⟨true,qx,false⟩],[rI],fun k x=>ag7 k x.1 x.2.1⟩
theorem ok237:O 237 F237:=okF (ah ok303 <| ah ok304 aj) [] On Tryz.func237 rfl
def ars (k:Nat) (a:Int):Option uf :=
 (bif decide (a<0) then
  some ((0,()),())
 else
  (bif decide (a≥64) then
   some ((0,()),())
  else
   Uj a <|
   some ((Uk .u64 1 a,()),())))
def F341:Fn:=⟨[au],[.val ⟨false,(.int .u64),true⟩],fun k x=>ars k x.1⟩
theorem ok341:O 341 F341:=okF aj [] On Tryz.func341 rfl
def ajM (k:Nat) (a b:Int):Option uf :=
 (ars k b).bind fun q0 =>
 some ((Uz .u64 a q0.1.1,()),())
def F301:Fn:=⟨[.val ⟨false,(.int .u64),false⟩,au],[.val ⟨false,(.int .u64),true⟩],fun k x=>ajM k x.1 x.2.1⟩
theorem ok301:O 301 F301:=okF (ah ok341 aj) [] On Tryz.func301 rfl
abbrev aeW:Cut:=⟨[0,2,4],[.cell (.int .u64),cI,cI],[],23,[]⟩
def ap4 (k:Nat) (g4:Int -> Int -> Int -> Option yj) (a b c:Int):Option yj :=
 (bif decide (c>0) then
  Uj (IntKind.i64.wrap (64 - c)) <|
  (bif (Uk .u64 a (IntKind.i64.wrap (64 - c)))==0 then
   Uj c <|
   g4 (Ul .u64 a c) (IntKind.i64.wrap (b+c)) (IntKind.i64.wrap (Int.tdiv c 2))
  else
   g4 a b (IntKind.i64.wrap (Int.tdiv c 2)))
 else
  some ((b,true,()),()))
def ajN (k:Nat):Xx (((Unit)×Int×Int×Int×Unit) -> Option yj):=eu (dw (dh (dh (dh dx)))) (ap4 k)
def ap5 (k a:Nat) (b c e:Int):Option yj:=iter aeW (ajN k) a ((),b,c,e,())
def ap6 (k:Nat) (a:Int):Option yj :=
 (bif a==0 then
  some ((0,false,()),())
 else
  ap5 k k a 0 32)
def F302:Fn:=⟨[.val ⟨false,(.int .u64),false⟩],[rI,rB],fun k x=>ap6 k x.1⟩
theorem ok302:O 302 F302:=okF aj [] (fun k=>(.loop 4 aeW (ajN k) (fun g=>.nil) .nil)) Tryz.func302 rfl
abbrev aeX:Cut:=⟨[3,4,13,14,15],[.box 336 [cI,cI,cI],.cell (.int .u64),.cell (.sl 336 qx),cI,cI],[],42,[]⟩
def RO (k:Nat) (g3:Int -> Int -> Int -> Int -> (List oz) -> Int -> Int -> Option uf) (a b c e:Int) (f:List oz) (h i:Int):Option uf :=
 (bif decide (i<h) then
  ix f i <|
  (ag7 k (rd f i (0,0,0)) (a,b,c)).bind fun q0 =>
  (bif decide (q0.1.1<0) then
   (ajM k 0 i).bind fun q1 =>
   g3 (rd f i (0,0,0)).1 (rd f i (0,0,0)).2.1 (rd f i (0,0,0)).2.2 q1.1.1 f h (IntKind.i64.wrap (i+1))
  else
   (bif q0.1.1==0 then
    (ajM k e i).bind fun q2 =>
    g3 a b c q2.1.1 f h (IntKind.i64.wrap (i+1))
   else
    g3 a b c e f h (IntKind.i64.wrap (i+1))))
 else
  (ap6 k e).bind fun q3 =>
  some ((q3.1.1,()),()))
def ajO (k:Nat):Xx (((Unit)×(Int×Int×Int×Unit)×Int×(List oz)×Int×Int×Unit) -> Option uf):=eu (dw (d9 (dh (dh (dh dx))) (dh (dh (dh (dh dx)))))) (RO k)
def MB (k a:Nat) (b c e f:Int) (h:List oz) (i l:Int):Option uf:=iter aeX (ajO k) a ((),(b,c,e,()),f,h,i,l,())
theorem RP (k a b c e f h i l):MB k (a+1) b c e f h i l=RO k (MB k a) b c e f h i l:=Ba _ _ _ _
def amy (k:Nat) (a:List oz):Option uf :=
 ix a 0 <|
 MB k k (rd a 0 (0,0,0)).1 (rd a 0 (0,0,0)).2.1 (rd a 0 (0,0,0)).2.2 0 a (a.length:Int) 0
def F236:Fn:=⟨[.val ⟨false,(.sl 336 qx),false⟩],[rI],fun k x=>amy k x.1⟩
theorem ok236:O 236 F236:=okF (ah ok237 <| ah ok301 <| ah ok302 aj) [] (fun k=>(.loop 3 aeX (ajO k) (fun g=>.nil) .nil)) Tryz.func236 rfl
abbrev aeY:Cut:=⟨[6,7,8,11],[cI,.cell .bool,.own 336 qx,cI],[],63,[]⟩
def RQ (k:Nat) (g8:Int -> Bool -> (List oz) -> Int -> Option yj) (a:Int) (b:Bool) (c:List oz) (e:Int):Option yj :=
 (bif decide (e<(c.length:Int)) then
  sx c e (mn (IntKind.i64.wrap (e+64)) (c.length:Int)) <|
  (amy k (sub c e (mn (IntKind.i64.wrap (e+64)) (c.length:Int)))).bind fun q2 =>
  (bif !b then
   g8 (IntKind.i64.wrap (e+q2.1.1)) true c (IntKind.i64.wrap (e+64))
  else
   ix c (IntKind.i64.wrap (e+q2.1.1)) <|
   ix c a <|
   (ag7 k (rd c (IntKind.i64.wrap (e+q2.1.1)) (0,0,0)) (rd c a (0,0,0))).bind fun q3 =>
   (bif decide (q3.1.1<0) then
    g8 (IntKind.i64.wrap (e+q2.1.1)) true c (IntKind.i64.wrap (e+64))
   else
    g8 a b c (IntKind.i64.wrap (e+64))))
 else
  some ((a,b,()),()))
def ajP (k:Nat):Xx (((Unit)×Int×Bool×(List oz)×Int×Unit) -> Option yj):=eu (dw (dh (dh (dh (dh dx))))) (RQ k)
def MC (k a:Nat) (b:Int) (c:Bool) (e:List oz) (f:Int):Option yj:=iter aeY (ajP k) a ((),b,c,e,f,())
theorem RU (k a b c e f):MC k (a+1) b c e f=RQ k (MC k a) b c e f:=Ba _ _ _ _
abbrev aeZ:Cut:=⟨[1,2,6,7,8,14,15,16],[cI,.cell RF,cI,.cell .bool,.own 336 qx,.cell BL,cI,cI],[],63,[]⟩
def XL (k:Nat) (g3:Int -> o7 -> Int -> Bool -> (List oz) -> (List wz) -> Int -> Int -> Option yj) (a:Int) (b:ni) (c:Int) (e:Bool) (f:List oz) (h:List wz) (i l:Int):Option yj :=
 (bif decide (l<i) then
  ix h l <|
  (amw k (rd h l ay) a b).bind fun q0 =>
  ap f ([q0.1.1]:List oz) 24 fun r1 =>
  g3 a b c e r1 h i (IntKind.i64.wrap (l+1))
 else
  MC k k c e f 0)
def ajQ (k:Nat):Xx (((Unit)×Int×o7×Int×Bool×(List oz)×(List wz)×Int×Int×Unit) -> Option yj):=eu (dw (dh (dh (dh (dh (dh (dh (dh (dh dx))))))))) (XL k)
def XM (k a:Nat) (b:Int) (c:ni) (e:Int) (f:Bool) (h:List oz) (i:List wz) (l m:Int):Option yj:=iter aeZ (ajQ k) a ((),b,c,e,f,h,i,l,m,())
theorem aaM (k a b c e f h i l m):XM k (a+1) b c e f h i l m=XL k (XM k a) b c e f h i l m:=Ba _ _ _ _
def amA (k:Nat) (a:List wz) (b:Int) (c:ni):Option yj :=
 XM k k b c 0 false ([]:List oz) a (a.length:Int) 0
def F150:Fn:=⟨[ajn,au,FC],[rI,rB],fun k (a,b,c,_)=>amA k a b c⟩
theorem ok150:O 150 F150:=okF (ah ok235 <| ah ok236 <| ah ok237 aj) [(8,2)] (fun k=>(.loop 8 aeY (ajP k) (fun g=>.nil) (.loop 3 aeZ (ajQ k) (fun g=>.nil) .nil))) Tryz.func150 rfl
def aaN (k:Nat) (a:aej):Option R9 :=
 (ab6 k a.2.2.1).bind fun q0 =>
 some (((a.1,a.2.1,q0.1.1,a.2.2.2),()),())
def F307:Fn:=⟨[aaA],[aes],fun k x=>aaN k x.1⟩
theorem ok307:O 307 F307:=okF (ah ok217 aj) [] On Tryz.func307 rfl
def ag8 (k:Nat) (a:za):Option ((wz×Unit)×Unit) :=
 (aaN k a.2.2.2.2.1).bind fun q0 =>
 (aaN k a.2.2.2.2.2.1).bind fun q1 =>
 (FT k a.2.2.2.2.2.2.1).bind fun q2 =>
 some (((w6 (w5 (w4 a q0.1.1) q1.1.1) q2.1.1),()),())
def F305:Fn:=⟨[FD],[aaB],fun k x=>ag8 k x.1⟩
theorem ok305:O 305 F305:=okF (ah ok219 <| ah ok307 aj) [] On Tryz.func305 rfl
def amB (k:Nat) (a:aax) (b:za):Option ((wz×Unit)×Unit) :=
 (ag8 k b).bind fun q0 =>
 (bif b.2.2.2.1==0 then
  (bif decide ((a.2.2.2.2.1.length:Int)>0) then
   (UA k b.2.2.1).bind fun q1 =>
   (UA k b.2.2.1).bind fun q2 =>
   some (((q0.1.1.1,q0.1.1.2.1,q0.1.1.2.2.1,1,q1.1.1,q2.1.1,[],q0.1.1.2.2.2.2.2.2.2),()),())
  else
   (aaN k b.2.2.2.2.2.1).bind fun q3 =>
   some (((w6 (w4 q0.1.1 q3.1.1) []),()),()))
 else
  (aaN k b.2.2.2.2.2.1).bind fun q4 =>
  some (((w6 (w4 q0.1.1 q4.1.1) []),()),()))
def F311:Fn:=⟨[Vi,FD],[aaB],fun k x=>amB k x.1 x.2.1⟩
theorem ok311:O 311 F311:=okF (ah ok109 <| ah ok305 <| ah ok307 aj) [] On Tryz.func311 rfl
def amC (k:Nat) (a:aax) (b:za) (c:ni):Option ((wz×o7×Int×Unit)×Unit) :=
 (amB k a b).bind fun q0 =>
 (ag5 k c b.1).bind fun q1 =>
 (bif b.2.2.2.1==2 then
  (agZ k b (-1)).bind fun q2 =>
  some ((q2.1.1,q1.1.1,13,()),())
 else
  (bif q0.1.1.2.2.2.1 != b.2.2.2.1 then
   some ((q0.1.1,q1.1.1,7,()),())
  else
   some ((q0.1.1,q1.1.1,6,()),())))
def F242:Fn:=⟨[Vi,FD,FC],[aaB,aep,rI],fun k (a,b,c,_)=>amC k a b c⟩
theorem ok242:O 242 F242:=okF (ah ok127 <| ah ok231 <| ah ok311 aj) [] On Tryz.func242 rfl
abbrev ae0:Cut:=⟨[0,1,11,12,13],[.pin false 0,.cell RF,.own 3 (.int .i64),cI,cI],[.fK 166 [cI,cI,.own 54 zf,.own 168 BH,.cell .bool,.cell .bool,.cell .bool,.own 59 KA,.own 3 (.int .i64),.own 4 .bool,.own 142 AO,.own 3 (.int .i64),.own 4 .bool,.own 51 qy]],55,[]⟩
def XO (k:Nat) (g1:(FV×List (PN Int 6)) -> o7 -> (List Int) -> Int -> Int -> Option lq) (a:p8) (b:ni) (c:List Int) (e f:Int):Option lq :=
 (bif decide (f<e) then
  ix c f <|
  ix a.1.2.2.2.2.2.2.2.2.1.2 (rd c f 0) <|
  (bif decide (f<(b.length:Int)) then
   ix b f <|
   (bif !(fC F8 (rd a.1.2.2.2.2.2.2.2.2.1.2 (rd c f 0) bf).2.2.1 (rd b f (0,0))) then
    ix b f <|
    (II k a.1.2.2.2.2.2.2.2.2.1 (rd c f 0) ((rd a.1.2.2.2.2.2.2.2.2.1.2 (rd c f 0) bf).1,(rd a.1.2.2.2.2.2.2.2.2.1.2 (rd c f 0) bf).2.1,rd b f (0,0),(rd a.1.2.2.2.2.2.2.2.2.1.2 (rd c f 0) bf).2.2.2)).bind fun q1 =>
    g1 ((w8 a.1 q1.1.1),a.2) b c e (IntKind.i64.wrap (f+1))
   else
    g1 a b c e (IntKind.i64.wrap (f+1)))
  else
   g1 a b c e (IntKind.i64.wrap (f+1)))
 else
  some ((),y7 a,()))
def ajR (k:Nat) (g:(CB×Unit×o7×(List Int)×Int×Int×Unit) -> Option lq) (d:CB×Unit×o7×(List Int)×Int×Int×Unit):Option lq:=XO k (fun a b c e f=>g ((y7 a,()),(),b,c,e,f,())) (uo d.1.1) d.2.2.1 d.2.2.2.1 d.2.2.2.2.1 d.2.2.2.2.2.1
def ME (k a:Nat) (b:p8) (c:ni) (e:List Int) (f h:Int):Option lq:=iter ae0 (ajR k) a ((y7 b,()),(),c,e,f,h,())
theorem aaO (k a b c e f h):ME k (a+1) b c e f h=XO k (ME k a) b c e f h:=Ba _ _ _ _
def ag9 (k:Nat) (a:p8) (b:ni):Option lq :=
 (aas k a.1.2.2.2.2.2.2.2.2.1).bind fun q0 =>
 ME k k a b q0.1.1 (q0.1.1.length:Int) 0
def F61b:Fn:=⟨[Xz,FC],[],fun k x=>ag9 k (uo x.1) x.2.1⟩
theorem ok61b:O 61 F61b:=okF (ah ok107 <| ah ok128 aj) [] (fun k=>(.loop 1 ae0 (ajR k) (fun g=>.nil) .nil)) Tryz.func61 rfl
def amD (k:Nat) (a:p8) (b:za):Option aaz :=
 ix a.1.2.2.1 b.1 <|
 (S48 k a.1).bind fun q0 =>
 (amC k (rd a.1.2.2.1 b.1 bg) b q0.1.1).bind fun q1 =>
 (ag9 k a q1.1.2.1).bind fun q2 =>
 (J2 k (uo q2.2.1) (0,q1.1.2.2.1,q1.1.1.1,0,0,0)).bind fun q3 =>
 some ((q1.1.2.2.1==13,()),q3.2.1,trJ q1.1.1,())
def F152:Fn:=⟨[Xz,ark],[rB],fun k x=>amD k (uo x.1) (tvJ x.2.1)⟩
theorem ok152:O 152 F152:=okF (ah ok48 <| ah ok61b <| ah ok146a <| ah ok242 aj) [] On Tryz.func152 rfl
def amE (k:Nat) (a:aax) (b:za):Option (((List kg)×Unit)×Unit) :=
 (QS k (Us (.int .i64) vo b.2.2.2.1 (vL (.int .i64) vo 2 a.2.2.2.2.2 (vL (.int .i64) vo 1 a.2.2.2.2.1 (vL (.int .i64) vo 0 a.2.2.2.1 ([]:List (Int×List kg))))) [])).bind fun q0 =>
 some ((q0.1.1,()),())
def F306:Fn:=⟨[Vi,FD],[ajq],fun k x=>amE k x.1 x.2.1⟩
theorem ok306:O 306 F306:=okF (ah ok126 aj) [] On Tryz.func306 rfl
def acp (k:Nat) (a:aej):Option R9 :=
 (ab6 k a.2.2.1).bind fun q0 =>
 some (((a.1,a.2.1,q0.1.1,a.2.2.2),()),())
def F195:Fn:=⟨[aaA],[aes],fun k x=>acp k x.1⟩
theorem ok195:O 195 F195:=okF (ah ok217 aj) [] On Tryz.func195 rfl
def amF (k:Nat) (a b:Int):Option uf :=
 (bif decide (b <= (-64)) then
  some ((a,()),())
 else
  (bif decide (b≥64) then
   some ((a,()),())
  else
   (bif decide (b<0) then
    Uj (IntKind.i64.wrap (0 - b)) <|
    some ((Ul .i64 a (IntKind.i64.wrap (0 - b)),()),())
   else
    Uj b <|
    some ((IntKind.i64.wrap (Uk .u64 (IntKind.u64.wrap a) b),()),()))))
def F196:Fn:=⟨[au,au],[rI],fun k x=>amF k x.1 x.2.1⟩
theorem ok196:O 196 F196:=okF aj [] On Tryz.func196 rfl
def amG (k:Nat) (a b:Int):Option uf :=
 (bif decide (b<1) then
  some ((a,()),())
 else
  (bif decide (b>64) then
   some ((a,()),())
  else
   Uj (IntKind.i64.wrap (64 - b)) <|
   Uj (IntKind.i64.wrap (64 - b)) <|
   some ((Ul .i64 (Uk .i64 a (IntKind.i64.wrap (64 - b))) (IntKind.i64.wrap (64 - b)),()),())))
def F197:Fn:=⟨[au,au],[rI],fun k x=>amG k x.1 x.2.1⟩
theorem ok197:O 197 F197:=okF aj [] On Tryz.func197 rfl
abbrev ae1:Cut:=⟨[1,2,3],[.box 57 [cI,cI,cI,cI,cI,cI,cI,cI,cI,.own 293 qx,.cell .bool],.box 57 [cI,cI,cI,cI,cI,cI,cI,cI,cI,.nil,.cell .bool],cI],[],55,[]⟩
def XP (k:Nat) (g2:Int -> Int -> Int -> Int -> Int -> Int -> Int -> Int -> Int -> (List oz) -> Bool -> Int -> Int -> Int -> Int -> Int -> Int -> Int -> Int -> Int -> Bool -> Int -> Option R9) (a b c e f h i l m:Int) (n:List oz) (o:Bool) (p s t u v w y z A:Int) (B:Bool) (C:Int):Option R9 :=
 (bif decide (C>0) then
  ix n (IntKind.i64.wrap (C - 1)) <|
  (bif decide ((rd n (IntKind.i64.wrap (C - 1)) (0,0,0)).2.1<a) then
   ix n (IntKind.i64.wrap (C - 1)) <|
   (bif decide ((rd n (IntKind.i64.wrap (C - 1)) (0,0,0)).2.2>0) then
    some ((((rd n (IntKind.i64.wrap (C - 1)) (0,0,0)).1,(b,c,e,f,h,i,l,m),upd n (IntKind.i64.wrap (C - 1)) ((rd n (IntKind.i64.wrap (C - 1)) (0,0,0)).1,(rd n (IntKind.i64.wrap (C - 1)) (0,0,0)).2.1,IntKind.i64.wrap ((rd n (IntKind.i64.wrap (C - 1)) (0,0,0)).2.2 - 1)),o),()),())
   else
    sx n 0 (IntKind.i64.wrap (C - 1)) <|
    g2 a b c e f h i l m (n.take (IntKind.i64.wrap (C - 1)).toNat) o p s t u v w y z A B ((n.take (IntKind.i64.wrap (C - 1)).toNat).length:Int))
  else
   some (((a,(b,c,e,f,h,i,l,m),n,o),()),()))
 else
  some (((a,(b,c,e,f,h,i,l,m),n,o),()),()))
def ajS (k:Nat):Xx (((Unit)×ajl×(Int×Int×Int×Int×Int×Int×Int×Int×Int×Unit×Bool×Unit)×Int×Unit) -> Option R9):=eu (dw (d9 (dh (dh (dh (dh (dh (dh (dh (dh (dh (dh (dh dx))))))))))) (d9 (dh (dh (dh (dh (dh (dh (dh (dh (dh (dw (dh dx))))))))))) (dh dx)))) (XP k)
def XQ (k a:Nat) (b c e f h i l m n:Int) (o:List oz) (p:Bool) (s t u v w y z A B:Int) (C:Bool) (D:Int):Option R9:=iter ae1 (ajS k) a ((),(b,c,e,f,h,i,l,m,n,o,p,()),(s,t,u,v,w,y,z,A,B,(),C,()),D,())
theorem aaP (k a b c e f h i l m n o p s t u v w y z A B C D):XQ k (a+1) b c e f h i l m n o p s t u v w y z A B C D=XP k (XQ k a) b c e f h i l m n o p s t u v w y z A B C D:=Ba _ _ _ _
def KF (k:Nat) (a b c e f h i l m:Int) (n:List oz) (o:Bool):Option R9 :=
 XQ k k a b c e f h i l m n o 0 0 0 0 0 0 0 0 0 false (n.length:Int)
def F198:Fn:=⟨[.gv (.agg [cI,cI,cI,cI,cI,cI,cI,cI,cI,.own 293 qx,.cell .bool])],[aes],fun k ((a,b,c,e,f,h,i,l,m,n,o,_),_)=>KF k a b c e f h i l m n o⟩
theorem ok198:O 198 F198:=okF aj [(52,1)] (fun k=>(.loop 2 ae1 (ajS k) (fun g=>.nil) .nil)) Tryz.func198 rfl
def ajT (k:Nat) (a:List kg) (b:aej):Option (((Int×(PN Int 8)×(List oz)×Bool)×kg×Bool×Unit)×Unit) :=
 (bif b.2.2.2 then
  (acp k b).bind fun q0 =>
  some ((q0.1.1,(0,0,0,0),false,()),())
 else
  (bif decide (b.1<0) then
   (acp k b).bind fun q1 =>
   some ((q1.1.1,(0,0,0,0),false,()),())
  else
   (bif decide (b.1≥(a.length:Int)) then
    (acp k b).bind fun q2 =>
    some ((q2.1.1,(0,0,0,0),false,()),())
   else
    ix a b.1 <|
    (ah7 k (rd a b.1 (0,0,0,0))).bind fun q3 =>
    (bif !q3.1.1 then
     (acp k b).bind fun q4 =>
     some ((q4.1.1,(0,0,0,0),false,()),())
    else
     (acp k b).bind fun q5 =>
     ix a q5.1.1.1 <|
     ax 8 (rd a q5.1.1.1 (0,0,0,0)).2.1 <|
     ax 8 (Int.tmod (rd a q5.1.1.1 (0,0,0,0)).2.2.1 8) <|
     (bif (rd a q5.1.1.1 (0,0,0,0)).1==0 then
      (KF k q5.1.1.1 q5.1.1.2.1.1 q5.1.1.2.1.2.1 q5.1.1.2.1.2.2.1 q5.1.1.2.1.2.2.2.1 q5.1.1.2.1.2.2.2.2.1 q5.1.1.2.1.2.2.2.2.2.1 q5.1.1.2.1.2.2.2.2.2.2.1 q5.1.1.2.1.2.2.2.2.2.2.2 q5.1.1.2.2.1 true).bind fun q6 =>
      some ((q6.1.1,rd a q5.1.1.1 (0,0,0,0),true,()),())
     else
      (bif (rd a q5.1.1.1 (0,0,0,0)).1==1 then
       (KF k (IntKind.i64.wrap (q5.1.1.1+1)) (Ur (α:=Int) 8 q5.1.1.2.1 (rd a q5.1.1.1 (0,0,0,0)).2.1 (rd a q5.1.1.1 (0,0,0,0)).2.2.2).1 (Ur (α:=Int) 8 q5.1.1.2.1 (rd a q5.1.1.1 (0,0,0,0)).2.1 (rd a q5.1.1.1 (0,0,0,0)).2.2.2).2.1 (Ur (α:=Int) 8 q5.1.1.2.1 (rd a q5.1.1.1 (0,0,0,0)).2.1 (rd a q5.1.1.1 (0,0,0,0)).2.2.2).2.2.1 (Ur (α:=Int) 8 q5.1.1.2.1 (rd a q5.1.1.1 (0,0,0,0)).2.1 (rd a q5.1.1.1 (0,0,0,0)).2.2.2).2.2.2.1 (Ur (α:=Int) 8 q5.1.1.2.1 (rd a q5.1.1.1 (0,0,0,0)).2.1 (rd a q5.1.1.1 (0,0,0,0)).2.2.2).2.2.2.2.1 (Ur (α:=Int) 8 q5.1.1.2.1 (rd a q5.1.1.1 (0,0,0,0)).2.1 (rd a q5.1.1.1 (0,0,0,0)).2.2.2).2.2.2.2.2.1 (Ur (α:=Int) 8 q5.1.1.2.1 (rd a q5.1.1.1 (0,0,0,0)).2.1 (rd a q5.1.1.1 (0,0,0,0)).2.2.2).2.2.2.2.2.2.1 (Ur (α:=Int) 8 q5.1.1.2.1 (rd a q5.1.1.1 (0,0,0,0)).2.1 (rd a q5.1.1.1 (0,0,0,0)).2.2.2).2.2.2.2.2.2.2 q5.1.1.2.2.1 q5.1.1.2.2.2).bind fun q7 =>
       some ((q7.1.1,rd a q5.1.1.1 (0,0,0,0),true,()),())
      else
       (bif (rd a q5.1.1.1 (0,0,0,0)).1==2 then
        (KF k (IntKind.i64.wrap (q5.1.1.1+1)) (Ur (α:=Int) 8 q5.1.1.2.1 (rd a q5.1.1.1 (0,0,0,0)).2.1 (IntKind.i64.wrap (IntKind.u64.wrap ((IntKind.u64.wrap (Uq (α:=Int) 8 q5.1.1.2.1 (rd a q5.1.1.1 (0,0,0,0)).2.1 0))+(IntKind.u64.wrap (Uq (α:=Int) 8 q5.1.1.2.1 (Int.tmod (rd a q5.1.1.1 (0,0,0,0)).2.2.1 8) 0)))))).1 (Ur (α:=Int) 8 q5.1.1.2.1 (rd a q5.1.1.1 (0,0,0,0)).2.1 (IntKind.i64.wrap (IntKind.u64.wrap ((IntKind.u64.wrap (Uq (α:=Int) 8 q5.1.1.2.1 (rd a q5.1.1.1 (0,0,0,0)).2.1 0))+(IntKind.u64.wrap (Uq (α:=Int) 8 q5.1.1.2.1 (Int.tmod (rd a q5.1.1.1 (0,0,0,0)).2.2.1 8) 0)))))).2.1 (Ur (α:=Int) 8 q5.1.1.2.1 (rd a q5.1.1.1 (0,0,0,0)).2.1 (IntKind.i64.wrap (IntKind.u64.wrap ((IntKind.u64.wrap (Uq (α:=Int) 8 q5.1.1.2.1 (rd a q5.1.1.1 (0,0,0,0)).2.1 0))+(IntKind.u64.wrap (Uq (α:=Int) 8 q5.1.1.2.1 (Int.tmod (rd a q5.1.1.1 (0,0,0,0)).2.2.1 8) 0)))))).2.2.1 (Ur (α:=Int) 8 q5.1.1.2.1 (rd a q5.1.1.1 (0,0,0,0)).2.1 (IntKind.i64.wrap (IntKind.u64.wrap ((IntKind.u64.wrap (Uq (α:=Int) 8 q5.1.1.2.1 (rd a q5.1.1.1 (0,0,0,0)).2.1 0))+(IntKind.u64.wrap (Uq (α:=Int) 8 q5.1.1.2.1 (Int.tmod (rd a q5.1.1.1 (0,0,0,0)).2.2.1 8) 0)))))).2.2.2.1 (Ur (α:=Int) 8 q5.1.1.2.1 (rd a q5.1.1.1 (0,0,0,0)).2.1 (IntKind.i64.wrap (IntKind.u64.wrap ((IntKind.u64.wrap (Uq (α:=Int) 8 q5.1.1.2.1 (rd a q5.1.1.1 (0,0,0,0)).2.1 0))+(IntKind.u64.wrap (Uq (α:=Int) 8 q5.1.1.2.1 (Int.tmod (rd a q5.1.1.1 (0,0,0,0)).2.2.1 8) 0)))))).2.2.2.2.1 (Ur (α:=Int) 8 q5.1.1.2.1 (rd a q5.1.1.1 (0,0,0,0)).2.1 (IntKind.i64.wrap (IntKind.u64.wrap ((IntKind.u64.wrap (Uq (α:=Int) 8 q5.1.1.2.1 (rd a q5.1.1.1 (0,0,0,0)).2.1 0))+(IntKind.u64.wrap (Uq (α:=Int) 8 q5.1.1.2.1 (Int.tmod (rd a q5.1.1.1 (0,0,0,0)).2.2.1 8) 0)))))).2.2.2.2.2.1 (Ur (α:=Int) 8 q5.1.1.2.1 (rd a q5.1.1.1 (0,0,0,0)).2.1 (IntKind.i64.wrap (IntKind.u64.wrap ((IntKind.u64.wrap (Uq (α:=Int) 8 q5.1.1.2.1 (rd a q5.1.1.1 (0,0,0,0)).2.1 0))+(IntKind.u64.wrap (Uq (α:=Int) 8 q5.1.1.2.1 (Int.tmod (rd a q5.1.1.1 (0,0,0,0)).2.2.1 8) 0)))))).2.2.2.2.2.2.1 (Ur (α:=Int) 8 q5.1.1.2.1 (rd a q5.1.1.1 (0,0,0,0)).2.1 (IntKind.i64.wrap (IntKind.u64.wrap ((IntKind.u64.wrap (Uq (α:=Int) 8 q5.1.1.2.1 (rd a q5.1.1.1 (0,0,0,0)).2.1 0))+(IntKind.u64.wrap (Uq (α:=Int) 8 q5.1.1.2.1 (Int.tmod (rd a q5.1.1.1 (0,0,0,0)).2.2.1 8) 0)))))).2.2.2.2.2.2.2 q5.1.1.2.2.1 q5.1.1.2.2.2).bind fun q8 =>
        some ((q8.1.1,rd a q5.1.1.1 (0,0,0,0),true,()),())
       else
        (bif (rd a q5.1.1.1 (0,0,0,0)).1==3 then
         (KF k (IntKind.i64.wrap (q5.1.1.1+1)) (Ur (α:=Int) 8 q5.1.1.2.1 (rd a q5.1.1.1 (0,0,0,0)).2.1 (IntKind.i64.wrap (IntKind.u64.wrap ((IntKind.u64.wrap (Uq (α:=Int) 8 q5.1.1.2.1 (rd a q5.1.1.1 (0,0,0,0)).2.1 0)) - (IntKind.u64.wrap (Uq (α:=Int) 8 q5.1.1.2.1 (Int.tmod (rd a q5.1.1.1 (0,0,0,0)).2.2.1 8) 0)))))).1 (Ur (α:=Int) 8 q5.1.1.2.1 (rd a q5.1.1.1 (0,0,0,0)).2.1 (IntKind.i64.wrap (IntKind.u64.wrap ((IntKind.u64.wrap (Uq (α:=Int) 8 q5.1.1.2.1 (rd a q5.1.1.1 (0,0,0,0)).2.1 0)) - (IntKind.u64.wrap (Uq (α:=Int) 8 q5.1.1.2.1 (Int.tmod (rd a q5.1.1.1 (0,0,0,0)).2.2.1 8) 0)))))).2.1 (Ur (α:=Int) 8 q5.1.1.2.1 (rd a q5.1.1.1 (0,0,0,0)).2.1 (IntKind.i64.wrap (IntKind.u64.wrap ((IntKind.u64.wrap (Uq (α:=Int) 8 q5.1.1.2.1 (rd a q5.1.1.1 (0,0,0,0)).2.1 0)) - (IntKind.u64.wrap (Uq (α:=Int) 8 q5.1.1.2.1 (Int.tmod (rd a q5.1.1.1 (0,0,0,0)).2.2.1 8) 0)))))).2.2.1 (Ur (α:=Int) 8 q5.1.1.2.1 (rd a q5.1.1.1 (0,0,0,0)).2.1 (IntKind.i64.wrap (IntKind.u64.wrap ((IntKind.u64.wrap (Uq (α:=Int) 8 q5.1.1.2.1 (rd a q5.1.1.1 (0,0,0,0)).2.1 0)) - (IntKind.u64.wrap (Uq (α:=Int) 8 q5.1.1.2.1 (Int.tmod (rd a q5.1.1.1 (0,0,0,0)).2.2.1 8) 0)))))).2.2.2.1 (Ur (α:=Int) 8 q5.1.1.2.1 (rd a q5.1.1.1 (0,0,0,0)).2.1 (IntKind.i64.wrap (IntKind.u64.wrap ((IntKind.u64.wrap (Uq (α:=Int) 8 q5.1.1.2.1 (rd a q5.1.1.1 (0,0,0,0)).2.1 0)) - (IntKind.u64.wrap (Uq (α:=Int) 8 q5.1.1.2.1 (Int.tmod (rd a q5.1.1.1 (0,0,0,0)).2.2.1 8) 0)))))).2.2.2.2.1 (Ur (α:=Int) 8 q5.1.1.2.1 (rd a q5.1.1.1 (0,0,0,0)).2.1 (IntKind.i64.wrap (IntKind.u64.wrap ((IntKind.u64.wrap (Uq (α:=Int) 8 q5.1.1.2.1 (rd a q5.1.1.1 (0,0,0,0)).2.1 0)) - (IntKind.u64.wrap (Uq (α:=Int) 8 q5.1.1.2.1 (Int.tmod (rd a q5.1.1.1 (0,0,0,0)).2.2.1 8) 0)))))).2.2.2.2.2.1 (Ur (α:=Int) 8 q5.1.1.2.1 (rd a q5.1.1.1 (0,0,0,0)).2.1 (IntKind.i64.wrap (IntKind.u64.wrap ((IntKind.u64.wrap (Uq (α:=Int) 8 q5.1.1.2.1 (rd a q5.1.1.1 (0,0,0,0)).2.1 0)) - (IntKind.u64.wrap (Uq (α:=Int) 8 q5.1.1.2.1 (Int.tmod (rd a q5.1.1.1 (0,0,0,0)).2.2.1 8) 0)))))).2.2.2.2.2.2.1 (Ur (α:=Int) 8 q5.1.1.2.1 (rd a q5.1.1.1 (0,0,0,0)).2.1 (IntKind.i64.wrap (IntKind.u64.wrap ((IntKind.u64.wrap (Uq (α:=Int) 8 q5.1.1.2.1 (rd a q5.1.1.1 (0,0,0,0)).2.1 0)) - (IntKind.u64.wrap (Uq (α:=Int) 8 q5.1.1.2.1 (Int.tmod (rd a q5.1.1.1 (0,0,0,0)).2.2.1 8) 0)))))).2.2.2.2.2.2.2 q5.1.1.2.2.1 q5.1.1.2.2.2).bind fun q9 =>
         some ((q9.1.1,rd a q5.1.1.1 (0,0,0,0),true,()),())
        else
         (bif (rd a q5.1.1.1 (0,0,0,0)).1==4 then
          (KF k (IntKind.i64.wrap (q5.1.1.1+1)) (Ur (α:=Int) 8 q5.1.1.2.1 (rd a q5.1.1.1 (0,0,0,0)).2.1 (IntKind.i64.wrap (IntKind.u64.wrap ((IntKind.u64.wrap (Uq (α:=Int) 8 q5.1.1.2.1 (rd a q5.1.1.1 (0,0,0,0)).2.1 0)) * (IntKind.u64.wrap (Uq (α:=Int) 8 q5.1.1.2.1 (Int.tmod (rd a q5.1.1.1 (0,0,0,0)).2.2.1 8) 0)))))).1 (Ur (α:=Int) 8 q5.1.1.2.1 (rd a q5.1.1.1 (0,0,0,0)).2.1 (IntKind.i64.wrap (IntKind.u64.wrap ((IntKind.u64.wrap (Uq (α:=Int) 8 q5.1.1.2.1 (rd a q5.1.1.1 (0,0,0,0)).2.1 0)) * (IntKind.u64.wrap (Uq (α:=Int) 8 q5.1.1.2.1 (Int.tmod (rd a q5.1.1.1 (0,0,0,0)).2.2.1 8) 0)))))).2.1 (Ur (α:=Int) 8 q5.1.1.2.1 (rd a q5.1.1.1 (0,0,0,0)).2.1 (IntKind.i64.wrap (IntKind.u64.wrap ((IntKind.u64.wrap (Uq (α:=Int) 8 q5.1.1.2.1 (rd a q5.1.1.1 (0,0,0,0)).2.1 0)) * (IntKind.u64.wrap (Uq (α:=Int) 8 q5.1.1.2.1 (Int.tmod (rd a q5.1.1.1 (0,0,0,0)).2.2.1 8) 0)))))).2.2.1 (Ur (α:=Int) 8 q5.1.1.2.1 (rd a q5.1.1.1 (0,0,0,0)).2.1 (IntKind.i64.wrap (IntKind.u64.wrap ((IntKind.u64.wrap (Uq (α:=Int) 8 q5.1.1.2.1 (rd a q5.1.1.1 (0,0,0,0)).2.1 0)) * (IntKind.u64.wrap (Uq (α:=Int) 8 q5.1.1.2.1 (Int.tmod (rd a q5.1.1.1 (0,0,0,0)).2.2.1 8) 0)))))).2.2.2.1 (Ur (α:=Int) 8 q5.1.1.2.1 (rd a q5.1.1.1 (0,0,0,0)).2.1 (IntKind.i64.wrap (IntKind.u64.wrap ((IntKind.u64.wrap (Uq (α:=Int) 8 q5.1.1.2.1 (rd a q5.1.1.1 (0,0,0,0)).2.1 0)) * (IntKind.u64.wrap (Uq (α:=Int) 8 q5.1.1.2.1 (Int.tmod (rd a q5.1.1.1 (0,0,0,0)).2.2.1 8) 0)))))).2.2.2.2.1 (Ur (α:=Int) 8 q5.1.1.2.1 (rd a q5.1.1.1 (0,0,0,0)).2.1 (IntKind.i64.wrap (IntKind.u64.wrap ((IntKind.u64.wrap (Uq (α:=Int) 8 q5.1.1.2.1 (rd a q5.1.1.1 (0,0,0,0)).2.1 0)) * (IntKind.u64.wrap (Uq (α:=Int) 8 q5.1.1.2.1 (Int.tmod (rd a q5.1.1.1 (0,0,0,0)).2.2.1 8) 0)))))).2.2.2.2.2.1 (Ur (α:=Int) 8 q5.1.1.2.1 (rd a q5.1.1.1 (0,0,0,0)).2.1 (IntKind.i64.wrap (IntKind.u64.wrap ((IntKind.u64.wrap (Uq (α:=Int) 8 q5.1.1.2.1 (rd a q5.1.1.1 (0,0,0,0)).2.1 0)) * (IntKind.u64.wrap (Uq (α:=Int) 8 q5.1.1.2.1 (Int.tmod (rd a q5.1.1.1 (0,0,0,0)).2.2.1 8) 0)))))).2.2.2.2.2.2.1 (Ur (α:=Int) 8 q5.1.1.2.1 (rd a q5.1.1.1 (0,0,0,0)).2.1 (IntKind.i64.wrap (IntKind.u64.wrap ((IntKind.u64.wrap (Uq (α:=Int) 8 q5.1.1.2.1 (rd a q5.1.1.1 (0,0,0,0)).2.1 0)) * (IntKind.u64.wrap (Uq (α:=Int) 8 q5.1.1.2.1 (Int.tmod (rd a q5.1.1.1 (0,0,0,0)).2.2.1 8) 0)))))).2.2.2.2.2.2.2 q5.1.1.2.2.1 q5.1.1.2.2.2).bind fun q10 =>
          some ((q10.1.1,rd a q5.1.1.1 (0,0,0,0),true,()),())
         else
          (bif (rd a q5.1.1.1 (0,0,0,0)).1==5 then
           (amF k (Uq (α:=Int) 8 q5.1.1.2.1 (rd a q5.1.1.1 (0,0,0,0)).2.1 0) (rd a q5.1.1.1 (0,0,0,0)).2.2.2).bind fun OV =>
           (KF k (IntKind.i64.wrap (q5.1.1.1+1)) (Ur (α:=Int) 8 q5.1.1.2.1 (rd a q5.1.1.1 (0,0,0,0)).2.1 OV.1.1).1 (Ur (α:=Int) 8 q5.1.1.2.1 (rd a q5.1.1.1 (0,0,0,0)).2.1 OV.1.1).2.1 (Ur (α:=Int) 8 q5.1.1.2.1 (rd a q5.1.1.1 (0,0,0,0)).2.1 OV.1.1).2.2.1 (Ur (α:=Int) 8 q5.1.1.2.1 (rd a q5.1.1.1 (0,0,0,0)).2.1 OV.1.1).2.2.2.1 (Ur (α:=Int) 8 q5.1.1.2.1 (rd a q5.1.1.1 (0,0,0,0)).2.1 OV.1.1).2.2.2.2.1 (Ur (α:=Int) 8 q5.1.1.2.1 (rd a q5.1.1.1 (0,0,0,0)).2.1 OV.1.1).2.2.2.2.2.1 (Ur (α:=Int) 8 q5.1.1.2.1 (rd a q5.1.1.1 (0,0,0,0)).2.1 OV.1.1).2.2.2.2.2.2.1 (Ur (α:=Int) 8 q5.1.1.2.1 (rd a q5.1.1.1 (0,0,0,0)).2.1 OV.1.1).2.2.2.2.2.2.2 q5.1.1.2.2.1 q5.1.1.2.2.2).bind fun q12 =>
           some ((q12.1.1,rd a q5.1.1.1 (0,0,0,0),true,()),())
          else
           (bif (rd a q5.1.1.1 (0,0,0,0)).1==6 then
            (amG k (Uq (α:=Int) 8 q5.1.1.2.1 (rd a q5.1.1.1 (0,0,0,0)).2.1 0) (rd a q5.1.1.1 (0,0,0,0)).2.2.2).bind fun Zj =>
            (KF k (IntKind.i64.wrap (q5.1.1.1+1)) (Ur (α:=Int) 8 q5.1.1.2.1 (rd a q5.1.1.1 (0,0,0,0)).2.1 Zj.1.1).1 (Ur (α:=Int) 8 q5.1.1.2.1 (rd a q5.1.1.1 (0,0,0,0)).2.1 Zj.1.1).2.1 (Ur (α:=Int) 8 q5.1.1.2.1 (rd a q5.1.1.1 (0,0,0,0)).2.1 Zj.1.1).2.2.1 (Ur (α:=Int) 8 q5.1.1.2.1 (rd a q5.1.1.1 (0,0,0,0)).2.1 Zj.1.1).2.2.2.1 (Ur (α:=Int) 8 q5.1.1.2.1 (rd a q5.1.1.1 (0,0,0,0)).2.1 Zj.1.1).2.2.2.2.1 (Ur (α:=Int) 8 q5.1.1.2.1 (rd a q5.1.1.1 (0,0,0,0)).2.1 Zj.1.1).2.2.2.2.2.1 (Ur (α:=Int) 8 q5.1.1.2.1 (rd a q5.1.1.1 (0,0,0,0)).2.1 Zj.1.1).2.2.2.2.2.2.1 (Ur (α:=Int) 8 q5.1.1.2.1 (rd a q5.1.1.1 (0,0,0,0)).2.1 Zj.1.1).2.2.2.2.2.2.2 q5.1.1.2.2.1 q5.1.1.2.2.2).bind fun q14 =>
            some ((q14.1.1,rd a q5.1.1.1 (0,0,0,0),true,()),())
           else
            (bif (rd a q5.1.1.1 (0,0,0,0)).1==7 then
             (bif (Uq (α:=Int) 8 q5.1.1.2.1 (rd a q5.1.1.1 (0,0,0,0)).2.1 0)==0 then
              (KF k (IntKind.i64.wrap ((IntKind.i64.wrap (q5.1.1.1+1))+(rd a q5.1.1.1 (0,0,0,0)).2.2.2)) q5.1.1.2.1.1 q5.1.1.2.1.2.1 q5.1.1.2.1.2.2.1 q5.1.1.2.1.2.2.2.1 q5.1.1.2.1.2.2.2.2.1 q5.1.1.2.1.2.2.2.2.2.1 q5.1.1.2.1.2.2.2.2.2.2.1 q5.1.1.2.1.2.2.2.2.2.2.2 q5.1.1.2.2.1 q5.1.1.2.2.2).bind fun q15 =>
              some ((q15.1.1,rd a q5.1.1.1 (0,0,0,0),true,()),())
             else
              (KF k (IntKind.i64.wrap (q5.1.1.1+1)) q5.1.1.2.1.1 q5.1.1.2.1.2.1 q5.1.1.2.1.2.2.1 q5.1.1.2.1.2.2.2.1 q5.1.1.2.1.2.2.2.2.1 q5.1.1.2.1.2.2.2.2.2.1 q5.1.1.2.1.2.2.2.2.2.2.1 q5.1.1.2.1.2.2.2.2.2.2.2 q5.1.1.2.2.1 q5.1.1.2.2.2).bind fun q16 =>
              some ((q16.1.1,rd a q5.1.1.1 (0,0,0,0),true,()),()))
            else
             (bif (rd a q5.1.1.1 (0,0,0,0)).1==8 then
              ap q5.1.1.2.2.1 ([(IntKind.i64.wrap (q5.1.1.1+1),IntKind.i64.wrap (q5.1.1.1+(rd a q5.1.1.1 (0,0,0,0)).2.2.1),IntKind.i64.wrap ((rd a q5.1.1.1 (0,0,0,0)).2.2.2 - 1))]:List oz) 24 fun r17 =>
              (KF k (IntKind.i64.wrap (q5.1.1.1+1)) q5.1.1.2.1.1 q5.1.1.2.1.2.1 q5.1.1.2.1.2.2.1 q5.1.1.2.1.2.2.2.1 q5.1.1.2.1.2.2.2.2.1 q5.1.1.2.1.2.2.2.2.2.1 q5.1.1.2.1.2.2.2.2.2.2.1 q5.1.1.2.1.2.2.2.2.2.2.2 r17 q5.1.1.2.2.2).bind fun q18 =>
              some ((q18.1.1,rd a q5.1.1.1 (0,0,0,0),true,()),())
             else
              (KF k (IntKind.i64.wrap (q5.1.1.1+1)) q5.1.1.2.1.1 q5.1.1.2.1.2.1 q5.1.1.2.1.2.2.1 q5.1.1.2.1.2.2.2.1 q5.1.1.2.1.2.2.2.2.1 q5.1.1.2.1.2.2.2.2.2.1 q5.1.1.2.1.2.2.2.2.2.2.1 q5.1.1.2.1.2.2.2.2.2.2.2 q5.1.1.2.2.1 q5.1.1.2.2.2).bind fun q19 =>
              some ((q19.1.1,rd a q5.1.1.1 (0,0,0,0),true,()),()))))))))))))))
def F110:Fn:=⟨[ajo,aaA],[aes,ajr,rB],fun k x=>ajT k x.1 x.2.1⟩
theorem ok110:O 110 F110:=okF (ah ok188 <| ah ok195 <| ah ok196 <| ah ok197 <| ah ok198 aj) [] On Tryz.func110 rfl
section
variable (w:World) {g n c i j:Nat}
theorem MF:Tryz.prog.underlying 32=some (.slice 3) /\ Tryz.prog.underlying 3=some (.int .i64) /\ Tryz.prog.underlying 4=some .bool /\ Tryz.prog.follows .mixedOrders=true /\ (∀ w,(Go.sizeOf 3).run Tryz.prog w=.ok 1 w) /\ Tryz.f308.ntmps=33:=⟨by kernel_rfl,by kernel_rfl,by kernel_rfl,by kernel_rfl,fun w=>by kernel_rfl,rfl⟩
theorem XR {v:Value} (hv:(∃ A n c,v=.slice A n c /\ i <= n /\ n <= c /\ c <= 9223372036854775807)):Calls Tryz.prog 308 #[v,.int .i64 i,.int .i64 i] w fun e w'=>e=.returned v /\ w'=w:=by
 obtain ⟨t24,t3,t4,mixed,z36,hnt⟩:=MF
 have u24:=run_underlying t24;have u3:=run_underlying t3;have u4:=run_underlying t4
 obtain ⟨A,n,c,rfl,hi,hnc,hc63⟩:=hv
 have hi0:(i:Int) <= (n:Int):=by omega
 have hi1:(0:Int) <= (i:Int):=by omega
 cases A <;> (go_enter Tryz.func308,hnt;go_wp2 <;> (go_ret;exact ⟨rfl,rfl⟩))
theorem XT {w' w'':World} (hlt:i<j) (hj:j <= n) (hnc:n <= c) (hc63:c <= 9223372036854775807)
  (hap:∀ ty A,(c≠j -> A=(⟨g,j * 1,none⟩:Addr)) -> (Builtin.append_ #[32,32] ty #[.slice (some ⟨g,0,none⟩) i c,.slice (some A) (n - j) (c - j)]).run Tryz.prog w.drew=.ok (.slice (some ⟨g,0,none⟩) (i+(n - j)) c) w')
  (hcl:∀ ty dc,(Builtin.clear_ #[32] ty #[.slice (some ⟨g,(i+(n - j)) * 1,none⟩) (n - (i+(n - j))) dc]).run Tryz.prog w'=.ok (.tuple #[]) w'') :
  Calls Tryz.prog 308 #[.slice (some ⟨g,0,none⟩) n c,.int .i64 i,.int .i64 j] w fun e w1=>e=.returned (.slice (some ⟨g,0,none⟩) (i+(n - j)) c) /\ w1=w'':=by
 obtain ⟨t24,t3,t4,mixed,z36,hnt⟩:=MF
 have u24:=run_underlying t24;have u3:=run_underlying t3;have u4:=run_underlying t4
 have hi0:(i:Int) <= (n:Int):=by omega
 have hj0:(j:Int) <= (n:Int):=by omega
 have hij:(i:Int) <= (j:Int):=by omega
 have hne:¬ ((i:Int)=(j:Int)):=by omega
 have hic:i <= c:=by omega
 have hjc:j <= c:=by omega
 have hln:i+(n - j) <= n:=by omega
 have hlc:i+(n - j) <= c:=by omega
 have hci:¬ (c=i+(n - j)):=by omega
 obtain ⟨A,hA,hA'⟩:∃ A:Addr,(if c=j then some (⟨g,0,none⟩:Addr) else some ⟨g,j * 1,none⟩)=some A /\ (c≠j -> A=(⟨g,j * 1,none⟩:Addr)):=by
  by_cases h:c=j
  · exact ⟨_,if_pos h,fun q=>absurd h q⟩
  · exact ⟨_,if_neg h,fun _=>rfl⟩
 try simp only [Nat.mul_one] at hA hcl
 go_enter Tryz.func308,hnt
 go_wp2_with fail
 go_region_law_o (refine Gz rfl rfl _ _ (by simp [Act.eval,Act.put]) (by simp [Act.eval,Act.put,hA]) (hap _ _ hA') ?_)
 go_wp2_with (at_builtin;refine Ji rfl rfl _ rfl (hcl _ _) ?_)
 go_ret
 exact ⟨rfl,rfl⟩
end
abbrev asK:List PT:=iG 3 (.int .i64)
abbrev asL:List RT:=qV 3 (.int .i64)
def ap7 (k:Nat) (a:List Int) (i j:Int):Option FB:=Jk 3 (.int .i64) k (a,i,j,())
def F308:Fn:=⟨asK,asL,Jk 3 (.int .i64)⟩
def asM:Env:=tab.env (fun _=>none) (fun _=>0)
theorem amH:aH Tryz.prog asM:=Kw Rt _ _ (fun f F h=>by cases h)
theorem ok308:O 308 F308:=by
 obtain ⟨i0,z,a1,a2,a3,a4,a5⟩:=(amH.ty 3 ((.int .i64)) (by kernel_rfl)).info
 have b2:Ty.sz ((.int .i64))=1:=rfl
 have hz:z.cells.size=1:=by rw [<- Array.length_toList,a5,gZ,b2]
 obtain ⟨t24,t3,t4,mixed,z36,hnt⟩:=MF
 refine Qu Tryz.func308 rfl (by kernel_rfl) ?_
 rw [b2]
 exact Mr (S:=32) (z:=z) t24 a1 a4 (by rw [a2,b2]) hz (fun v hv=>tT ((.int .i64)) v (by rw [<- a5];exact hv)) (by decide) (fun w i v h=>XR w h) (fun w g n c i j w' w'' h1 h2 h3 h4 h5 h6=>XT w h1 h2 h3 h4 h5 h6)
abbrev aaQ:Cut:=⟨[4,5,8],[.box 59 [cI,cI,cI,cI,cI,cI,cI,cI,cI,cI,cI,cI,cI,.own 293 qx,.cell .bool,cI,cI,cI,cI,cI,cI,cI,cI,cI,.own 293 qx,.cell .bool,.own 3 (.int .i64),.cell .bool],.box 127 [cI,cI,cI,cI],cI],[],70,[]⟩
def PY (k:Nat) (g13:wz -> Int -> Int -> Int -> Int -> Int -> Option Vf) (x:za) (a b c e f:Int):Option Vf :=
 (bif decide (f≥0) then
  ix x.2.2.2.2.2.2.1 f <|
  (bif (rd x.2.2.2.2.2.2.1 f 0)==b then
   (ap7 k x.2.2.2.2.2.2.1 f (IntKind.i64.wrap (f+1))).bind fun q5 =>
   some (((w6 x q5.1.1),(a,b,c,e),true,()),())
  else
   g13 x a b c e (IntKind.i64.wrap (f - 1)))
 else
  some ((x,(a,b,c,e),true,()),()))
def ae2 (k:Nat) (g:((Unit)×ajk×Vg×Int×Unit) -> Option Vf) (d:(Unit)×ajk×Vg×Int×Unit):Option Vf:=PY k (fun x a b c e f=>g ((),trJ x,(a,b,c,e,()),f,())) (tvJ d.2.1) d.2.2.1.1 d.2.2.1.2.1 d.2.2.1.2.2.1 d.2.2.1.2.2.2.1 d.2.2.2.1
def PZ (k a:Nat) (x:za) (b c e f h:Int):Option Vf:=iter aaQ (ae2 k) a ((),trJ x,(b,c,e,f,()),h,())
theorem Vj (k a x b c e f h):PZ k (a+1) x b c e f h=PY k (PZ k a) x b c e f h:=Ba _ _ _ _
def amI (k:Nat) (a:aax) (b:za):Option Vf :=
 (ag8 k b).bind fun q0 =>
 (amE k a b).bind fun q1 =>
 (ajT k q1.1.1 b.2.2.2.2.1).bind fun q2 =>
 (bif !q2.1.2.2.1 then
  some ((q0.1.1,(0,0,0,0),false,()),())
 else
  (bif q2.1.2.1.1==11 then
   (aaN k q2.1.1).bind fun q3 =>
   some (((w5 (w4 q0.1.1 q2.1.1) q3.1.1),q2.1.2.1,true,()),())
  else
   (bif q2.1.2.1.1==9 then
    ap q0.1.1.2.2.2.2.2.2.1 ([q2.1.2.1.2.1]:List Int) 8 fun r4 =>
    some (((w6 (w4 q0.1.1 q2.1.1) r4),q2.1.2.1,true,()),())
   else
    (bif q2.1.2.1.1==10 then
     PZ k k (w4 q0.1.1 q2.1.1) q2.1.2.1.1 q2.1.2.1.2.1 q2.1.2.1.2.2.1 q2.1.2.1.2.2.2 (IntKind.i64.wrap ((q0.1.1.2.2.2.2.2.2.1.length:Int) - 1))
    else
     some (((w4 q0.1.1 q2.1.1),q2.1.2.1,true,()),())))))
def F238:Fn:=⟨[Vi,FD],[aaB,ajr,rB],fun k x=>amI k x.1 x.2.1⟩
theorem ok238:O 238 F238:=okF (ah ok110 <| ah ok305 <| ah ok306 <| ah ok307 <| ah ok308 aj) [] (fun k=>(.loop 13 aaQ (ae2 k) (fun g=>.nil) .nil)) Tryz.func238 rfl
def amJ (k:Nat) (a:ni) (b c:Int):Option ((o7×Bool×Unit)×Unit) :=
 (ajy k a).bind fun q0 =>
 (ajz k a b).bind fun q1 =>
 (bif !q1.1.1 then
  some ((q0.1.1,false,()),())
 else
  ix a b <|
  (bif (rd a b (0,0)).2 != 0 then
   some ((q0.1.1,false,()),())
  else
   ix q0.1.1 b <|
   some ((upd q0.1.1 b ((rd q0.1.1 b (0,0)).1,IntKind.i64.wrap (c+1)),true,()),())))
def F239:Fn:=⟨[FC,au,au],[aep,rB],fun k (a,b,c,_)=>amJ k a b c⟩
theorem ok239:O 239 F239:=okF (ah ok292 <| ah ok309 aj) [] On Tryz.func239 rfl
def amK (k:Nat) (a:ni) (b c:Int):Option ((o7×Bool×Unit)×Unit) :=
 (ajy k a).bind fun q0 =>
 (ag4 k a b c).bind fun q1 =>
 (bif !q1.1.1 then
  some ((q0.1.1,false,()),())
 else
  ix q0.1.1 b <|
  some ((upd q0.1.1 b ((rd q0.1.1 b (0,0)).1,0),true,()),()))
def F240:Fn:=⟨[FC,au,au],[aep,rB],fun k (a,b,c,_)=>amK k a b c⟩
theorem ok240:O 240 F240:=okF (ah ok292 <| ah ok293 aj) [] On Tryz.func240 rfl
def amL (k:Nat) (a:za):Option ((wz×Unit)×Unit) :=
 (ag8 k a).bind fun q0 =>
 (UA k a.2.2.2.2.1.2.1.1).bind fun q1 =>
 (UA k a.2.2.2.2.1.2.1.1).bind fun q2 =>
 some (((q0.1.1.1,q0.1.1.2.1,q0.1.1.2.2.1,2,q1.1.1,q2.1.1,[],false),()),())
def F310:Fn:=⟨[FD],[aaB],fun k x=>amL k x.1⟩
theorem ok310:O 310 F310:=okF (ah ok109 <| ah ok305 aj) [] On Tryz.func310 rfl
abbrev amM:Cut:=⟨[0,1],[.pin false 0,.pin false 1],[.fK 166 [cI,cI,.own 54 zf,.own 168 BH,.cell .bool,.cell .bool,.cell .bool,.own 59 KA,.own 3 (.int .i64),.own 4 .bool,.own 142 AO,.own 3 (.int .i64),.own 4 .bool,.own 51 qy],.fK 59 [cI,cI,cI,cI,cI,cI,cI,cI,cI,cI,cI,cI,cI,.own 293 qx,.cell .bool,cI,cI,cI,cI,cI,cI,cI,cI,cI,.own 293 qx,.cell .bool,.own 3 (.int .i64),.cell .bool]],95,[]⟩
def MG (k:Nat) (a:p8) (b:za):Option aaz :=
 (acd k a.1.2.2.2.2.2.2.2.2.2 b.1).bind fun q3 =>
 (amL k b).bind fun q4 =>
 ix a.1.2.2.1 q4.1.1.1 <|
 some ((((rd a.1.2.2.1 q4.1.1.1 bg).2.2.2.2.2.length:Int)==0,()),y7 ((z9 a.1 q3.1.1),a.2),trJ q4.1.1,())
def amN (k:Nat) (a:p8) (b:za):Option aaz :=
 (bif b.2.2.2.1==2 then
  (J2 k a (0,4,b.1,0,b.2.2.2.2.1.2.1.1,0)).bind fun q0 =>
  some ((true,()),q0.2.1,trJ b,())
 else
  (J2 k a (0,3,b.1,0,b.2.2.2.2.1.2.1.1,0)).bind fun q1 =>
  (bif b.2.2.2.1==0 then
   ix (uo q1.2.1).1.2.2.1 b.1 <|
   (bif decide (((rd (uo q1.2.1).1.2.2.1 b.1 bg).2.2.2.2.1.length:Int)>0) then
    (J2 k (uo q1.2.1) (0,8,b.1,0,0,0)).bind fun q2 =>
    MG k (uo q2.2.1) b
   else
    MG k (uo q1.2.1) b)
  else
   MG k (uo q1.2.1) b))
def F241:Fn:=⟨[Xz,.fK 59 [cI,cI,cI,cI,cI,cI,cI,cI,cI,cI,cI,cI,cI,.own 293 qx,.cell .bool,cI,cI,cI,cI,cI,cI,cI,cI,cI,.own 293 qx,.cell .bool,.own 3 (.int .i64),.cell .bool]],[rB],fun k x=>amN k (uo x.1) (tvJ x.2.1)⟩
theorem ok241:O 241 F241:=okF (ah ok129 <| ah ok146a <| ah ok310 aj) [] (fun k=>(.join 8 amM (fun d=>MG k (uo d.1.1) (tvJ d.1.2.1)) .nil)) Tryz.func241 rfl
abbrev ajU:Cut:=⟨[0,1],[.pin false 0,.pin false 1],[.fK 166 [cI,cI,.own 54 zf,.own 168 BH,.cell .bool,.cell .bool,.cell .bool,.own 59 KA,.own 3 (.int .i64),.own 4 .bool,.own 142 AO,.own 3 (.int .i64),.own 4 .bool,.own 51 qy],.fK 59 [cI,cI,cI,cI,cI,cI,cI,cI,cI,cI,cI,cI,cI,.own 293 qx,.cell .bool,cI,cI,cI,cI,cI,cI,cI,cI,cI,.own 293 qx,.cell .bool,.own 3 (.int .i64),.cell .bool]],92,[]⟩
def GX (k:Nat) (a:p8) (b:za):Option aaz :=
 (bif b.2.2.2.2.1.2.2.2 then
  (amN k a b).bind fun q7 =>
  some ((q7.1.1,()),q7.2.1,q7.2.2.1,())
 else
  some ((false,()),y7 a,trJ b,()))
def amO (k:Nat) (a:p8) (b:za):Option aaz :=
 ix a.1.2.2.1 b.1 <|
 (amI k (rd a.1.2.2.1 b.1 bg) b).bind fun q0 =>
 (bif !q0.1.2.2.1 then
  some ((false,()),y7 a,trJ b,())
 else
  (bif q0.1.2.1.1==9 then
   (S48 k a.1).bind fun q1 =>
   (amJ k q1.1.1 q0.1.2.1.2.1 q0.1.1.1).bind fun q2 =>
   (ag9 k a q2.1.1).bind fun q3 =>
   GX k (uo q3.2.1) q0.1.1
  else
   (bif q0.1.2.1.1==10 then
    (S48 k a.1).bind fun q4 =>
    (amK k q4.1.1 q0.1.2.1.2.1 q0.1.1.1).bind fun q5 =>
    (ag9 k a q5.1.1).bind fun q6 =>
    GX k (uo q6.2.1) q0.1.1
   else
    GX k a q0.1.1)))
def F151:Fn:=⟨[Xz,ark],[rB],fun k x=>amO k (uo x.1) (tvJ x.2.1)⟩
theorem ok151:O 151 F151:=okF (ah ok48 <| ah ok61b <| ah ok238 <| ah ok239 <| ah ok240 <| ah ok241 aj) [] (fun k=>(.join 12 ajU (fun d=>GX k (uo d.1.1) (tvJ d.1.2.1)) .nil)) Tryz.func151 rfl
def S81 (k:Nat) (a:p8):Option lq :=
 (S48 k a.1).bind fun q0 =>
 (amA k a.1.2.2.2.2.2.2.2.1 (a.1.2.2.1.length:Int) q0.1.1).bind fun q1 =>
 (bif a.1.2.2.2.2.2.1 then
  some ((),y7 a,())
 else
  (bif !q1.1.2.1 then
   some ((),y7 a,())
  else
   ix a.1.2.2.2.2.2.2.2.1 q1.1.1 <|
   (J2 k a (0,2,(rd a.1.2.2.2.2.2.2.2.1 q1.1.1 ay).1,0,0,0)).bind fun q2 =>
   (bif (uo q2.2.1).1.2.2.2.2.2.2.1 then
    (amD k (uo q2.2.1) (rd a.1.2.2.2.2.2.2.2.1 q1.1.1 ay)).bind fun q3 =>
    ix (uo q3.2.1).1.2.2.2.2.2.2.2.1 q1.1.1 <|
    (bif q3.1.1 then
     (S72 k (upd (uo q3.2.1).1.2.2.2.2.2.2.2.1 q1.1.1 (tvJ q3.2.2.1)) q1.1.1 (IntKind.i64.wrap (q1.1.1+1))).bind fun q4 =>
     some ((),y7 ((w7 (uo q3.2.1).1 q4.1.1),(uo q3.2.1).2),())
    else
     some ((),y7 ((w7 (uo q3.2.1).1 (upd (uo q3.2.1).1.2.2.2.2.2.2.2.1 q1.1.1 (tvJ q3.2.2.1))),(uo q3.2.1).2),()))
   else
    (amO k (uo q2.2.1) (rd a.1.2.2.2.2.2.2.2.1 q1.1.1 ay)).bind fun q5 =>
    ix (uo q5.2.1).1.2.2.2.2.2.2.2.1 q1.1.1 <|
    (bif q5.1.1 then
     (S72 k (upd (uo q5.2.1).1.2.2.2.2.2.2.2.1 q1.1.1 (tvJ q5.2.2.1)) q1.1.1 (IntKind.i64.wrap (q1.1.1+1))).bind fun q6 =>
     some ((),y7 ((w7 (uo q5.2.1).1 q6.1.1),(uo q5.2.1).2),())
    else
     some ((),y7 ((w7 (uo q5.2.1).1 (upd (uo q5.2.1).1.2.2.2.2.2.2.2.1 q1.1.1 (tvJ q5.2.2.1))),(uo q5.2.1).2),())))))
def F81:Fn:=⟨[Xz],[],fun k x=>S81 k (uo x.1)⟩
theorem ok81:O 81 F81:=okF (ah ok48 <| ah ok72 <| ah ok146a <| ah ok150 <| ah ok151 <| ah ok152 aj) [] On Tryz.func81 rfl
def S33 (k:Nat) (a:O4):Option ((FV×BI×Unit)×Unit) :=
 (S56 k a).bind fun q0 =>
 (bif q0.1.1.2.2.2.2.1 then
  (bif !q0.1.1.2.2.2.2.2.1 then
   (S78 k (q0.1.1,([]:List (PN Int 6)))).bind fun q1 =>
   (S79 k (uo q1.2.1)).bind fun q2 =>
   (S80 k (uo q2.2.1)).bind fun q3 =>
   (S81 k (uo q3.2.1)).bind fun q4 =>
   some (((w6 (w0 (uo q4.2.1).1 (IntKind.i64.wrap ((uo q4.2.1).1.1+1))) false),(uo q4.2.1).2,()),())
  else
   some (((w6 (w0 q0.1.1 (IntKind.i64.wrap (q0.1.1.1+1))) false),([]:List (PN Int 6)),()),()))
 else
  some (((w6 (w0 q0.1.1 (IntKind.i64.wrap (q0.1.1.1+1))) false),([]:List (PN Int 6)),()),()))
def F33:Fn:=⟨[aeo],[aer,aem],fun k x=>S33 k x.1⟩
theorem ok33:O 33 F33:=okF (ah ok56 <| ah ok78 <| ah ok79 <| ah ok80 <| ah ok81 aj) [(8,2)] On Tryz.func33 rfl
def amP (k:Nat) (a:ael) (b:Int):Option ((RA×Bool×Unit)×Unit) :=
 (U9 k a).bind fun q0 =>
 (ab7 k a b).bind fun q1 =>
 (bif !q1.1.1 then
  some ((q0.1.1,false,()),())
 else
  ix q0.1.1.2 b <|
  ix q0.1.1.2 b <|
  some (((q0.1.1.1,upd q0.1.1.2 b (z5 (rd q0.1.1.2 b bf) (Uo .u32 (rd q0.1.1.2 b bf).2.2.2.2.2))),true,()),()))
def F105:Fn:=⟨[ami,au],[apW,rB],fun k x=>amP k x.1 x.2.1⟩
theorem ok105:O 105 F105:=okF (ah ok185 <| ah ok186 aj) [] On Tryz.func105 rfl
abbrev ae3:Cut:=⟨[2,4,6,7,8,65,66],[.box 42 [cI,cI,.cell (.sl 54 zf),.cell IZ,.cell .bool,.cell .bool,.cell .bool,.cell BL,.cell oo,.cell DI,.cell IY,.cell oo,.cell DI],.box 42 [cI,cI,.nil,.nil,.cell .bool,.cell .bool,.cell .bool,.nil,.nil,.nil,.nil,.nil,.nil],.box 105 [cI,cI,cI,cI],.box 105 [cI,cI,cI,cI],.own 51 qy,cI,cI],[],87,[]⟩
def XU (k:Nat) (g21:FV -> Int -> Int -> Bool -> Bool -> Bool -> Int -> Int -> Int -> Int -> Int -> Int -> Int -> Int -> BI -> Int -> Int -> Option RB) (a:O4) (b c:Int) (e f h:Bool) (i l m n o p s t:Int) (u:List (PN Int 6)) (v w:Int):Option RB :=
 (bif decide (w<v) then
  (S33 k a).bind fun q8 =>
  ap u q8.1.2.1 48 fun r9 =>
  g21 q8.1.1 b c e f h i l m n o p s t r9 v (IntKind.i64.wrap (w+1))
 else
  (S30 k a (-1) 0).bind fun q10 =>
  some ((q10.1.1,u,(o,(p,s),t),()),()))
def ajV (k:Nat) (g:((Unit)×aeg×aoN×Vg×Vg×BI×Int×Int×Unit) -> Option RB) (d:(Unit)×aeg×aoN×Vg×Vg×BI×Int×Int×Unit):Option RB:=XU k (fun a b c e f h i l m n o p s t u v w=>g ((),OT a,(b,c,(),(),e,f,h,(),(),(),(),(),(),()),(i,l,m,n,()),(o,p,s,t,()),u,v,w,())) (tvK d.2.1) d.2.2.1.1 d.2.2.1.2.1 d.2.2.1.2.2.2.2.1 d.2.2.1.2.2.2.2.2.1 d.2.2.1.2.2.2.2.2.2.1 d.2.2.2.1.1 d.2.2.2.1.2.1 d.2.2.2.1.2.2.1 d.2.2.2.1.2.2.2.1 d.2.2.2.2.1.1 d.2.2.2.2.1.2.1 d.2.2.2.2.1.2.2.1 d.2.2.2.2.1.2.2.2.1 d.2.2.2.2.2.1 d.2.2.2.2.2.2.1 d.2.2.2.2.2.2.2.1
def XV (k a:Nat) (b:O4) (c e:Int) (f h i:Bool) (l m n o p s t u:Int) (v:List (PN Int 6)) (w y:Int):Option RB:=iter ae3 (ajV k) a ((),OT b,(c,e,(),(),f,h,i,(),(),(),(),(),(),()),(l,m,n,o,()),(p,s,t,u,()),v,w,y,())
theorem aaR (k a b c e f h i l m n o p s t u v w y):XV k (a+1) b c e f h i l m n o p s t u v w y=XU k (XV k a) b c e f h i l m n o p s t u v w y:=Ba _ _ _ _
def S45 (k:Nat) (a:O4) (b:Int×(Int×FW×(Int×Int)×Int×Int×Int)×Int×Int):Option RB :=
 (bif b.1==1 then
  (S41 k a b.2.1).bind fun q0 =>
  some (q0.1,())
 else
  (bif b.1==2 then
   (S33 k a).bind fun q1 =>
   some ((q1.1.1,q1.1.2.1,(0,(0,0),0),()),())
  else
   (bif b.1==3 then
    (S30 k (w6 a true) (-1) 0).bind fun q2 =>
    some ((q2.1.1,([]:List (PN Int 6)),(0,(0,0),0),()),())
   else
    (bif b.1==4 then
     (amP k a.2.2.2.2.2.2.2.2.1 b.2.2.1).bind fun q3 =>
     (bif !q3.1.2.1 then
      (S30 k a (-1) 0).bind fun q4 =>
      some ((q4.1.1,([]:List (PN Int 6)),(3,(0,0),0),()),())
     else
      (S30 k (w8 a q3.1.1) (-1) 0).bind fun q5 =>
      some ((q5.1.1,([]:List (PN Int 6)),(0,(0,0),0),()),()))
    else
     (bif b.1==5 then
      (bif decide (b.2.2.2<0) then
       (S30 k a (-1) 0).bind fun q6 =>
       some ((q6.1.1,([]:List (PN Int 6)),(1,(0,0),0),()),())
      else
       (bif decide (b.2.2.2>10000) then
        (S30 k a (-1) 0).bind fun q7 =>
        some ((q7.1.1,([]:List (PN Int 6)),(1,(0,0),0),()),())
       else
        XV k k a 0 0 false false false 0 0 0 0 0 0 0 0 ([]:List (PN Int 6)) b.2.2.2 0))
     else
      (S30 k a (-1) 0).bind fun OV =>
      some ((OV.1.1,([]:List (PN Int 6)),(1,(0,0),0),()),()))))))
def F45:Fn:=⟨[aeo,.val ⟨true,IV,false⟩],[aer,aem,.val ⟨true,aek,true⟩],fun k x=>S45 k x.1 x.2.1⟩
theorem ok45:O 45 F45:=okF (ah ok30 <| ah ok33 <| ah ok41 <| ah ok105 aj) [(8,2)] (fun k=>(.loop 21 ae3 (ajV k) (fun g=>.nil) .nil)) Tryz.func45 rfl
abbrev ajW:Cut:=⟨[4,5,6,21,22,23],[.box 42 [cI,cI,.own 54 zf,.own 168 BH,.cell .bool,.cell .bool,.cell .bool,.own 59 KA,.own 3 (.int .i64),.own 4 .bool,.own 142 AO,.own 3 (.int .i64),.own 4 .bool],.own 51 qy,.own 105 aek,.cell (.sl 100 IV),cI,cI],[],46,[]⟩
def ae4 (k:Nat) (g5:FV -> BI -> (List IX) -> (List yc) -> Int -> Int -> Option Ve) (a:O4) (b:List (PN Int 6)) (c:List IX) (e:List yc) (f h:Int):Option Ve :=
 (bif decide (h<f) then
  ix e h <|
  (S45 k a (rd e h bq)).bind fun q1 =>
  ap b q1.1.2.1 48 fun r2 =>
  ap c ([q1.1.2.2.1]:List IX) 32 fun r3 =>
  g5 q1.1.1 r2 r3 e f (IntKind.i64.wrap (h+1))
 else
  some ((a,b,c,true,()),()))
def aoX (k:Nat) (g:((Unit)×aeg×BI×(List IX)×(List yc)×Int×Int×Unit) -> Option Ve) (d:(Unit)×aeg×BI×(List IX)×(List yc)×Int×Int×Unit):Option Ve:=ae4 k (fun a b c e f h=>g ((),OT a,b,c,e,f,h,())) (tvK d.2.1) d.2.2.1 d.2.2.2.1 d.2.2.2.2.1 d.2.2.2.2.2.1 d.2.2.2.2.2.2.1
def ae5 (k a:Nat) (b:O4) (c:List (PN Int 6)) (e:List IX) (f:List yc) (h i:Int):Option Ve:=iter ajW (aoX k) a ((),OT b,c,e,f,h,i,())
theorem ae6 (k a b c e f h i):ae5 k (a+1) b c e f h i=ae4 k (ae5 k a) b c e f h i:=Ba _ _ _ _
def S19 (k:Nat) (a:Int) (b:List yc):Option Ve :=
 (S36 k a).bind fun q0 =>
 (bif !q0.1.2.1 then
  some (((0,0,[],[],false,false,false,[],(([],[]),[]),[],[]),([]:List (PN Int 6)),([]:List IX),false,()),())
 else
  ae5 k k q0.1.1 ([]:List (PN Int 6)) ([]:List IX) b (b.length:Int) 0)
def F19:Fn:=⟨[au,.val ⟨false,(.sl 100 IV),false⟩],[aer,aem,.val ⟨false,(.sl 105 aek),true⟩,rB],fun k x=>S19 k x.1 x.2.1⟩
theorem ok19:O 19 F19:=okF (ah ok36 <| ah ok45 aj) [(5,2),(6,2)] (fun k=>(.loop 5 ajW (aoX k) (fun g=>.nil) .nil)) Tryz.func19 rfl
def S15 (k:Nat):Option ko :=
 (OU k (1,(1,20,20,([(0,0,0,0)]:List kg),[],[]),(0,0),0,0,0)).bind fun q0 =>
 (OU k (5,bg,(0,0),0,0,0)).bind fun q1 =>
 (OU k (6,bg,(0,0),0,7,0)).bind fun q2 =>
 (S19 k 30 ([q0.1.1,q1.1.1,q2.1.1,(2,bn,0,0)]:List yc)).bind fun q3 =>
 (bif q3.1.2.2.2.1 then
  (bif q3.1.1.1==1 then
   (bif (q3.1.2.1.length:Int)==3 then
    ix q3.1.2.1 2 <|
    (bif (rd q3.1.2.1 2 (Qn (α:=Int) 6 0)).2.1==3 then
     ix q3.1.2.1 2 <|
     (bif (rd q3.1.2.1 2 (Qn (α:=Int) 6 0)).2.2.2.2.1==7 then
      (bif (q3.1.2.2.1.length:Int)==4 then
       ix q3.1.2.2.1 0 <|
       some (((rd q3.1.2.2.1 0 (0,(0,0),0)).1==0,()),())
      else
       some ((false,()),()))
     else
      some ((false,()),()))
    else
     some ((false,()),()))
   else
    some ((false,()),()))
  else
   some ((false,()),()))
 else
  some ((false,()),()))
def F15:Fn:=⟨[],[rB],fun k x=>S15 k ⟩
theorem ok15:O 15 F15:=okF (ah ok19 <| ah ok40 aj) [] On Tryz.func15 rfl
def S16 (k:Nat) (a:List Int):Option ((DC×Unit)×Unit) :=
 some (((a,0,()),()),())
def F16:Fn:=⟨[.val ⟨false,DF,false⟩],[.pv (.box 129 [.cell DF,cI])],fun k x=>S16 k x.1⟩
theorem ok16:O 16 F16:=okF aj [] On Tryz.func16 rfl
def zu (k:Nat) (a:List Int) (b c:Int):Option ((Int×Unit)×DC×Unit) :=
 (bif decide (b≥(a.length:Int)) then
  some ((0,()),(a,b,()),())
 else
  ix a (IntKind.i64.wrap ((IntKind.i64.wrap (b+1)) - 1)) <|
  nz c <|
  some ((Int.tmod (IntKind.i64.wrap (rd a (IntKind.i64.wrap ((IntKind.i64.wrap (b+1)) - 1)) 0)) c,()),(a,IntKind.i64.wrap (b+1),()),()))
def F29:Fn:=⟨[O8,au],[rI],fun k ((a,b,_),c,_)=>zu k a b c⟩
theorem ok29:O 29 F29:=okF aj [] On Tryz.func29 rfl
def aha (k:Nat) (a:List Int) (b:Int):Option ((kg×Unit)×DC×Unit) :=
 (zu k a b 3).bind fun q0 =>
 (zu k q0.2.1.1 q0.2.1.2.1 3).bind fun q1 =>
 (zu k q1.2.1.1 q1.2.1.2.1 6).bind fun q2 =>
 (bif q2.1.1==0 then
  (zu k q2.2.1.1 q2.2.1.2.1 9).bind fun q3 =>
  some (((1,q0.1.1,0,IntKind.i64.wrap (q3.1.1 - 4)),()),q3.2.1,())
 else
  (bif q2.1.1==1 then
   some (((2,q0.1.1,q1.1.1,0),()),q2.2.1,())
  else
   (bif q2.1.1==2 then
    some (((3,q0.1.1,q1.1.1,0),()),q2.2.1,())
   else
    (bif q2.1.1==3 then
     some (((4,q0.1.1,q1.1.1,0),()),q2.2.1,())
    else
     (bif q2.1.1==4 then
      (zu k q2.2.1.1 q2.2.1.2.1 7).bind fun q4 =>
      some (((5,q0.1.1,0,IntKind.i64.wrap (q4.1.1 - 3)),()),q4.2.1,())
     else
      (zu k q2.2.1.1 q2.2.1.2.1 64).bind fun q5 =>
      some (((6,q0.1.1,0,IntKind.i64.wrap (1+q5.1.1)),()),q5.2.1,()))))))
def F281:Fn:=⟨[O8],[ajr],fun k x=>aha k x.1.1 x.1.2.1⟩
theorem ok281:O 281 F281:=okF (ah ok29 aj) [] On Tryz.func281 rfl
abbrev ae7:Cut:=⟨[0,2,7,8],[.pin false 0,cI,.own 127 O7,cI],[.fK 129 [.cell DF,cI]],47,[]⟩
def XW (k:Nat) (g3:aei) (a:List Int) (b c:Int) (e:List kg) (f:Int):Option IW :=
 (bif decide (f>0) then
  (bif decide (c>0) then
   (zu k a b 4).bind fun q1 =>
   (bif q1.1.1==0 then
    (zu k q1.2.1.1 q1.2.1.2.1 c).bind fun q2 =>
    ap e ([(9,q2.1.1,0,0)]:List kg) 32 fun r3 =>
    (aha k q2.2.1.1 q2.2.1.2.1).bind fun q4 =>
    ap r3 ([q4.1.1]:List kg) 32 fun r5 =>
    ap r5 ([(10,q2.1.1,0,0)]:List kg) 32 fun r6 =>
    g3 q4.2.1.1 q4.2.1.2.1 c r6 (IntKind.i64.wrap (f - 1))
   else
    (aha k q1.2.1.1 q1.2.1.2.1).bind fun q7 =>
    ap e ([q7.1.1]:List kg) 32 fun r8 =>
    g3 q7.2.1.1 q7.2.1.2.1 c r8 (IntKind.i64.wrap (f - 1)))
  else
   (aha k a b).bind fun q9 =>
   ap e ([q9.1.1]:List kg) 32 fun r10 =>
   g3 q9.2.1.1 q9.2.1.2.1 c r10 (IntKind.i64.wrap (f - 1)))
 else
  some ((e,()),(a,b,()),()))
def ajX (k:Nat):Xx (((DC×Unit)×Unit×Int×(List kg)×Int×Unit) -> Option IW):=eu (d9 (d9 (dh (dh dx)) dx) (dw (dh (dh (dh dx))))) (XW k)
def XY (k a:Nat) (b:List Int) (c e:Int) (f:List kg) (h:Int):Option IW:=iter ae7 (ajX k) a (((b,c,()),()),(),e,f,h,())
theorem aaS (k a b c e f h):XY k (a+1) b c e f h=XW k (XY k a) b c e f h:=Ba _ _ _ _
def ahb (k:Nat) (a:List Int) (b c e:Int):Option IW :=
 (zu k a b c).bind fun q0 =>
 XY k k q0.2.1.1 q0.2.1.2.1 e ([]:List kg) (IntKind.i64.wrap (q0.1.1+1))
def F210:Fn:=⟨[O8,au,au],[ajq],fun k ((a,b,_),c,e,_)=>ahb k a b c e⟩
theorem ok210:O 210 F210:=okF (ah ok29 <| ah ok281 aj) [(7,2)] (fun k=>(.loop 3 ae7 (ajX k) (fun g=>.nil) .nil)) Tryz.func210 rfl
abbrev ajY:Cut:=⟨[0,1,5,6,7],[.pin false 0,cI,.own 127 O7,cI,.own 127 O7],[.fK 129 [.cell DF,cI]],66,[]⟩
def EA (k:Nat) (g3:aei) (a:List Int) (b c:Int) (e:List kg) (f:Int) (x:List kg):Option IW :=
 (bif decide ((IntKind.i64.wrap ((e.length:Int)+(x.length:Int)))<23) then
  ap e x 32 fun r9 =>
  g3 a b c r9 (IntKind.i64.wrap (f - 1))
 else
  g3 a b c e (IntKind.i64.wrap (f - 1)))
abbrev ae8:Cut:=⟨[0,1,5,6],[.pin false 0,cI,.own 127 O7,cI],[.fK 129 [.cell DF,cI]],66,[]⟩
def XZ (k:Nat) (g3:aei) (a:List Int) (b c:Int) (e:List kg) (f:Int):Option IW :=
 (bif decide (f>0) then
  (zu k a b 5).bind fun q1 =>
  (bif q1.1.1==0 then
   (ahb k q1.2.1.1 q1.2.1.2.1 2 c).bind fun q2 =>
   (zu k q2.2.1.1 q2.2.1.2.1 3).bind fun q3 =>
   ap ([(8,0,(q2.1.1.length:Int),IntKind.i64.wrap (1+q3.1.1))]:List kg) q2.1.1 32 fun r4 =>
   EA k g3 q3.2.1.1 q3.2.1.2.1 c e f r4
  else
   (bif q1.1.1==1 then
    (ahb k q1.2.1.1 q1.2.1.2.1 2 c).bind fun q5 =>
    (zu k q5.2.1.1 q5.2.1.2.1 3).bind fun q6 =>
    ap ([(7,q6.1.1,0,(q5.1.1.length:Int))]:List kg) q5.1.1 32 fun r7 =>
    EA k g3 q6.2.1.1 q6.2.1.2.1 c e f r7
   else
    (bif q1.1.1==2 then
     EA k g3 q1.2.1.1 q1.2.1.2.1 c e f ([(11,0,0,0)]:List kg)
    else
     (ahb k q1.2.1.1 q1.2.1.2.1 2 c).bind fun q8 =>
     EA k g3 q8.2.1.1 q8.2.1.2.1 c e f q8.1.1)))
 else
  ap e ([(0,0,0,0)]:List kg) 32 fun r10 =>
  some ((r10,()),(a,b,()),()))
def ajZ (k:Nat):Xx (((DC×Unit)×Unit×Int×(List kg)×Int×Unit) -> Option IW):=eu (d9 (d9 (dh (dh dx)) dx) (dw (dh (dh (dh dx))))) (XZ k)
def FX (k a:Nat) (b:List Int) (c e:Int) (f:List kg) (h:Int):Option IW:=iter ae8 (ajZ k) a (((b,c,()),()),(),e,f,h,())
theorem aaT (k a b c e f h):FX k (a+1) b c e f h=XZ k (FX k a) b c e f h:=Ba _ _ _ _
def aj0 (k:Nat) (a:List Int) (b c:Int):Option IW :=
 (zu k a b 4).bind fun q0 =>
 FX k k q0.2.1.1 q0.2.1.2.1 c ([]:List kg) (IntKind.i64.wrap (q0.1.1+1))
def F120:Fn:=⟨[O8,au],[ajq],fun k ((a,b,_),c,_)=>aj0 k a b c⟩
theorem ok120:O 120 F120:=okF (ah ok29 <| ah ok210 aj) [(5,2)] (fun k=>(.loop 3 ae8 (ajZ k) (fun g=>(fun (g3:aei)=>(.join 16 ajY (fun (((a,b,_),_),_,c,e,f,h,_)=>EA k g3 a b c e f h) .nil)) (fun p2 p3 EB l_ i=>g (((p2,p3,()),()),(),EB,l_,i,()))) .nil)) Tryz.func120 rfl
abbrev aqa:Cut:=⟨[0,6,7],[.pin false 0,.box 54 [cI,cI,cI,.nil,.nil,.nil],.box 54 [cI,cI,cI,.own 127 O7,.cell vo,.own 127 O7]],[.fK 129 [.cell DF,cI]],41,[]⟩
def aaU (k:Nat) (a:List Int) (b c e f h i l:Int) (m n o:List kg):Option ((FW×Unit)×DC×Unit) :=
 (zu k a b 3).bind fun q5 =>
 (bif q5.1.1==0 then
  (aj0 k q5.2.1.1 q5.2.1.2.1 0).bind fun q6 =>
  some (((h,i,l,m,n,q6.1.1),()),q6.2.1,())
 else
  some (((h,i,l,m,n,o),()),q5.2.1,()))
def S53 (k:Nat) (a:List Int) (b c e:Int):Option ((FW×Unit)×DC×Unit) :=
 (aj0 k a b e).bind fun q0 =>
 (zu k q0.2.1.1 q0.2.1.2.1 12).bind fun q1 =>
 (zu k q1.2.1.1 q1.2.1.2.1 10).bind fun q2 =>
 (zu k q2.2.1.1 q2.2.1.2.1 3).bind fun q3 =>
 (bif q3.1.1==0 then
  (zu k q3.2.1.1 q3.2.1.2.1 2).bind fun q4 =>
  sx ([(1,0,0,99),(0,0,0,0)]:List kg) q4.1.1 (([(1,0,0,99),(0,0,0,0)]:List kg).length:Int) <|
  aaU k q4.2.1.1 q4.2.1.2.1 0 0 0 c (IntKind.i64.wrap (20+(IntKind.i64.wrap (10 * q1.1.1)))) (IntKind.i64.wrap ((IntKind.i64.wrap (20+(IntKind.i64.wrap (10 * q1.1.1)))) - q2.1.1)) q0.1.1 (sub ([(1,0,0,99),(0,0,0,0)]:List kg) q4.1.1 (([(1,0,0,99),(0,0,0,0)]:List kg).length:Int)) ([]:List kg)
 else
  aaU k q3.2.1.1 q3.2.1.2.1 0 0 0 c (IntKind.i64.wrap (20+(IntKind.i64.wrap (10 * q1.1.1)))) (IntKind.i64.wrap ((IntKind.i64.wrap (20+(IntKind.i64.wrap (10 * q1.1.1)))) - q2.1.1)) q0.1.1 ([]:List kg) ([]:List kg))
def F53:Fn:=⟨[O8,au,au],[.val ⟨true,zf,false⟩],fun k ((a,b,_),c,e,_)=>S53 k a b c e⟩
theorem ok53:O 53 F53:=okF (ah ok29 <| ah ok120 aj) [(12,2)] (fun k=>(.join 6 aqa (fun (((a,b,_),_),_,(c,e,f,_),(h,i,l,m,n,o,_),_)=>aaU k a b c e f h i l m n o) .nil)) Tryz.func53 rfl
abbrev amQ:Cut:=⟨[3],[.own 100 IV],[.fK 129 [.cell DF,cI]],60,[]⟩
def Y0 (k:Nat) (a:List Int) (b:Int) (c:List yc):Option AQ :=
 (OU k (5,bg,(0,0),0,0,0)).bind fun q14 =>
 ap c ([q14.1.1]:List yc) 168 fun r15 =>
 some ((r15,()),(a,b,()),())
abbrev amR:Cut:=⟨[0,3],[.pin false 0,.own 100 IV],[.fK 129 [.cell DF,cI]],60,[]⟩
def RV (k:Nat) (a:List Int) (b:Int) (c:List yc):Option AQ :=
 (zu k a b 3).bind fun OV =>
 (bif OV.1.1==0 then
  (OU k (4,bg,(0,0),0,0,0)).bind fun q12 =>
  ap c ([q12.1.1]:List yc) 168 fun r13 =>
  Y0 k OV.2.1.1 OV.2.1.2.1 r13
 else
  Y0 k OV.2.1.1 OV.2.1.2.1 c)
abbrev aj1:Cut:=⟨[0,3,4,6],[.pin false 0,.own 100 IV,cI,cI],[.fK 129 [.cell DF,cI]],60,[]⟩
def ae9 (k:Nat) (g8:(List Int) -> Int -> (List yc) -> Int -> Int -> Option AQ) (a:List Int) (b:Int) (c:List yc) (e f:Int):Option AQ :=
 (bif decide (f>0) then
  (zu k a b 3).bind fun q4 =>
  (S53 k q4.2.1.1 q4.2.1.2.1 (IntKind.i64.wrap ((IntKind.i64.wrap (3 * f))+q4.1.1)) e).bind fun q5 =>
  (OU k (1,q5.1.1,(0,0),0,0,0)).bind fun q6 =>
  ap c ([q6.1.1]:List yc) 168 fun r7 =>
  g8 q5.2.1.1 q5.2.1.2.1 r7 e (IntKind.i64.wrap (f - 1))
 else
  (zu k a b 3).bind fun q8 =>
  (bif q8.1.1==0 then
   (OU k (3,bg,(0,0),0,0,0)).bind fun q9 =>
   ap c ([q9.1.1]:List yc) 168 fun r10 =>
   RV k q8.2.1.1 q8.2.1.2.1 r10
  else
   RV k q8.2.1.1 q8.2.1.2.1 c))
def aoY (k:Nat):Xx (((DC×Unit)×Unit×(List yc)×Int×Int×Unit) -> Option AQ):=eu (d9 (d9 (dh (dh dx)) dx) (dw (dh (dh (dh dx))))) (ae9 k)
def aaV (k a:Nat) (b:List Int) (c:Int) (e:List yc) (f h:Int):Option AQ:=iter aj1 (aoY k) a (((b,c,()),()),(),e,f,h,())
theorem afa (k a b c e f h):aaV k (a+1) b c e f h=ae9 k (aaV k a) b c e f h:=Ba _ _ _ _
abbrev aj2:Cut:=⟨[0,3,4,5],[.pin false 0,.own 100 IV,cI,cI],[.fK 129 [.cell DF,cI]],60,[]⟩
def afb (k:Nat) (g4:(List Int) -> Int -> (List yc) -> Int -> Int -> Option AQ) (a:List Int) (b:Int) (c:List yc) (e f:Int):Option AQ :=
 (bif decide (f<e) then
  (OU k (2,bg,(0,0),0,0,0)).bind fun q1 =>
  ap c ([q1.1.1]:List yc) 168 fun r2 =>
  g4 a b r2 e (IntKind.i64.wrap (f+1))
 else
  (zu k a b 4).bind fun q3 =>
  aaV k k q3.2.1.1 q3.2.1.2.1 c e (IntKind.i64.wrap (q3.1.1+1)))
def aoZ (k:Nat):Xx (((DC×Unit)×Unit×(List yc)×Int×Int×Unit) -> Option AQ):=eu (d9 (d9 (dh (dh dx)) dx) (dw (dh (dh (dh dx))))) (afb k)
def afc (k a:Nat) (b:List Int) (c:Int) (e:List yc) (f h:Int):Option AQ:=iter aj2 (aoZ k) a (((b,c,()),()),(),e,f,h,())
theorem afd (k a b c e f h):afc k (a+1) b c e f h=afb k (afc k a) b c e f h:=Ba _ _ _ _
def S17 (k:Nat) (a:List Int) (b:Int):Option AQ :=
 (zu k a b 4).bind fun q0 =>
 afc k k q0.2.1.1 q0.2.1.2.1 ([]:List yc) q0.1.1 0
def F17:Fn:=⟨[O8],[arp],fun k x=>S17 k x.1.1 x.1.2.1⟩
theorem ok17:O 17 F17:=okF (ah ok29 <| ah ok40 <| ah ok53 aj) [(3,2)] (fun k=>(.join 15 amQ (fun (((a,b,_),_),c,_)=>Y0 k a b c) (.join 13 amR (fun (((a,b,_),_),_,c,_)=>RV k a b c) (.loop 8 aj1 (aoY k) (fun g=>.nil) (.loop 4 aj2 (aoZ k) (fun g=>.nil) .nil))))) Tryz.func17 rfl
def S28 (k:Nat) (a:(List Int)×Int):Option ko :=
 some ((decide (a.2≥(a.1.length:Int)),()),())
def F28:Fn:=⟨[.pv (.ref (.pair DF (.int .i64)))],[rB],fun k x=>S28 k x.1⟩
theorem ok28:O 28 F28:=okF aj [] On Tryz.func28 rfl
def S38 (k:Nat) (a:List Int) (b:Int):Option ((yc×Unit)×DC×Unit) :=
 (zu k a b 8).bind fun q0 =>
 (zu k q0.2.1.1 q0.2.1.2.1 5).bind fun q1 =>
 (zu k q1.2.1.1 q1.2.1.2.1 24).bind fun q2 =>
 (bif q2.1.1==0 then
  (zu k q2.2.1.1 q2.2.1.2.1 6).bind fun q3 =>
  (zu k q3.2.1.1 q3.2.1.2.1 9).bind fun q4 =>
  (OU k (6,bg,(0,0),q3.1.1,IntKind.i64.wrap (q4.1.1 - 4),0)).bind fun q5 =>
  some ((q5.1.1,()),q4.2.1,())
 else
  (bif q2.1.1==1 then
   (zu k q2.2.1.1 q2.2.1.2.1 6).bind fun q6 =>
   (zu k q6.2.1.1 q6.2.1.2.1 9).bind fun q7 =>
   (OU k (6,bg,(0,0),q6.1.1,IntKind.i64.wrap (q7.1.1 - 4),0)).bind fun q8 =>
   some ((q8.1.1,()),q7.2.1,())
  else
   (bif q2.1.1==2 then
    (zu k q2.2.1.1 q2.2.1.2.1 6).bind fun q9 =>
    (zu k q9.2.1.1 q9.2.1.2.1 9).bind fun q10 =>
    (OU k (6,bg,(0,0),q9.1.1,IntKind.i64.wrap (q10.1.1 - 4),0)).bind fun OV =>
    some ((OV.1.1,()),q10.2.1,())
   else
    (bif q2.1.1==3 then
     (zu k q2.2.1.1 q2.2.1.2.1 6).bind fun q12 =>
     (zu k q12.2.1.1 q12.2.1.2.1 9).bind fun Zj =>
     (OU k (6,bg,(0,0),q12.1.1,IntKind.i64.wrap (Zj.1.1 - 4),0)).bind fun q14 =>
     some ((q14.1.1,()),Zj.2.1,())
    else
     (bif q2.1.1==4 then
      (zu k q2.2.1.1 q2.2.1.2.1 6).bind fun q15 =>
      (zu k q15.2.1.1 q15.2.1.2.1 9).bind fun q16 =>
      (OU k (6,bg,(0,0),q15.1.1,IntKind.i64.wrap (q16.1.1 - 4),0)).bind fun q17 =>
      some ((q17.1.1,()),q16.2.1,())
     else
      (bif q2.1.1==5 then
       some (((3,bn,0,0),()),q2.2.1,())
      else
       (bif q2.1.1==6 then
        (zu k q2.2.1.1 q2.2.1.2.1 9).bind fun q18 =>
        some (((4,bn,q18.1.1,0),()),q18.2.1,())
       else
        (bif q2.1.1==7 then
         (zu k q2.2.1.1 q2.2.1.2.1 99).bind fun q19 =>
         (OU k (7,bg,(q0.1.1,IntKind.i64.wrap (1+(IntKind.i64.wrap (Int.tdiv q1.1.1 4)))),0,q19.1.1,0)).bind fun q20 =>
         some ((q20.1.1,()),q19.2.1,())
        else
         (bif q2.1.1==8 then
          (zu k q2.2.1.1 q2.2.1.2.1 4).bind fun q21 =>
          (OU k (8,bg,(q0.1.1,IntKind.i64.wrap (1+(IntKind.i64.wrap (Int.tdiv q1.1.1 4)))),q21.1.1,0,0)).bind fun q22 =>
          some ((q22.1.1,()),q21.2.1,())
         else
          (bif q2.1.1==9 then
           (zu k q2.2.1.1 q2.2.1.2.1 16).bind fun q23 =>
           (OU k (9,bg,(q0.1.1,IntKind.i64.wrap (1+(IntKind.i64.wrap (Int.tdiv q1.1.1 4)))),0,0,IntKind.u32.wrap q23.1.1)).bind fun q24 =>
           some ((q24.1.1,()),q23.2.1,())
          else
           (bif q2.1.1==10 then
            (zu k q2.2.1.1 q2.2.1.2.1 4).bind fun q25 =>
            (zu k q25.2.1.1 q25.2.1.2.1 16).bind fun q26 =>
            (OU k (10,bg,(q0.1.1,IntKind.i64.wrap (1+(IntKind.i64.wrap (Int.tdiv q1.1.1 4)))),q25.1.1,0,IntKind.u32.wrap q26.1.1)).bind fun q27 =>
            some ((q27.1.1,()),q26.2.1,())
           else
            (bif q2.1.1==11 then
             (zu k q2.2.1.1 q2.2.1.2.1 12).bind fun q28 =>
             (zu k q28.2.1.1 q28.2.1.2.1 6).bind fun q29 =>
             (zu k q29.2.1.1 q29.2.1.2.1 9).bind fun q30 =>
             (S53 k q30.2.1.1 q30.2.1.2.1 q30.1.1 2).bind fun q31 =>
             (OU k (IntKind.i64.wrap (1+q28.1.1),q31.1.1,(q0.1.1,IntKind.i64.wrap (1+(IntKind.i64.wrap (Int.tdiv q1.1.1 4)))),q29.1.1,0,0)).bind fun q32 =>
             some ((q32.1.1,()),q31.2.1,())
            else
             (bif q2.1.1==12 then
              (zu k q2.2.1.1 q2.2.1.2.1 30).bind fun q33 =>
              some (((5,bn,0,IntKind.i64.wrap (1+q33.1.1)),()),q33.2.1,())
             else
              (bif q2.1.1==13 then
               (zu k q2.2.1.1 q2.2.1.2.1 30).bind fun q34 =>
               some (((5,bn,0,IntKind.i64.wrap (1+q34.1.1)),()),q34.2.1,())
              else
               some (((2,bn,0,0),()),q2.2.1,())))))))))))))))
def F38:Fn:=⟨[O8],[.val ⟨true,IV,false⟩],fun k x=>S38 k x.1.1 x.1.2.1⟩
theorem ok38:O 38 F38:=okF (ah ok29 <| ah ok40 <| ah ok53 aj) [] On Tryz.func38 rfl
abbrev aj3:Cut:=⟨[0,1,5,6],[.pin false 0,cI,.own 100 IV,cI],[.fK 129 [.cell DF,cI]],25,[]⟩
def afe (k:Nat) (g3:(List Int) -> Int -> Int -> (List yc) -> Int -> Option AQ) (a:List Int) (b c:Int) (e:List yc) (f:Int):Option AQ :=
 (bif decide (f<c) then
  (S28 k (a,b)).bind fun q1 =>
  (bif !q1.1.1 then
   (S38 k a b).bind fun q2 =>
   ap e ([q2.1.1]:List yc) 168 fun r3 =>
   g3 q2.2.1.1 q2.2.1.2.1 c r3 (IntKind.i64.wrap (f+1))
  else
   some ((e,()),(a,b,()),()))
 else
  some ((e,()),(a,b,()),()))
def ao0 (k:Nat):Xx (((DC×Unit)×Unit×Int×(List yc)×Int×Unit) -> Option AQ):=eu (d9 (d9 (dh (dh dx)) dx) (dw (dh (dh (dh dx))))) (afe k)
def aff (k a:Nat) (b:List Int) (c e:Int) (f:List yc) (h:Int):Option AQ:=iter aj3 (ao0 k) a (((b,c,()),()),(),e,f,h,())
theorem afg (k a b c e f h):aff k (a+1) b c e f h=afe k (aff k a) b c e f h:=Ba _ _ _ _
def S18 (k:Nat) (a:List Int) (b c:Int):Option AQ :=
 (S17 k a b).bind fun q0 =>
 aff k k q0.2.1.1 q0.2.1.2.1 c q0.1.1 0
def F18:Fn:=⟨[O8,au],[arp],fun k ((a,b,_),c,_)=>S18 k a b c⟩
theorem ok18:O 18 F18:=okF (ah ok17 <| ah ok28 <| ah ok38 aj) [] (fun k=>(.loop 3 aj3 (ao0 k) (fun g=>.nil) .nil)) Tryz.func18 rfl
abbrev aj4:Cut:=⟨[0,1,5],[.cell (.sl 51 qy),.cell (.sl 51 qy),cI],[],26,[]⟩
def afh (k:Nat) (g4:BI -> BI -> Int -> Option ko) (a b:List (PN Int 6)) (c:Int):Option ko :=
 (bif decide (c<(a.length:Int)) then
  ix a c <|
  ix b c <|
  (bif !(fC qy (rd a c (Qn (α:=Int) 6 0)) (rd b c (Qn (α:=Int) 6 0))) then
   some ((false,()),())
  else
   g4 a b (IntKind.i64.wrap (c+1)))
 else
  some ((true,()),()))
def ao1 (k:Nat):Xx (((Unit)×BI×BI×Int×Unit) -> Option ko):=eu (dw (dh (dh (dh dx)))) (afh k)
def Vk (k a:Nat) (b c:List (PN Int 6)) (e:Int):Option ko:=iter aj4 (ao1 k) a ((),b,c,e,())
theorem afi (k a b c e):Vk k (a+1) b c e=afh k (Vk k a) b c e:=Ba _ _ _ _
def S32 (k:Nat) (a b:List (PN Int 6)):Option ko :=
 (bif (a.length:Int) != (b.length:Int) then
  some ((false,()),())
 else
  Vk k k a b 0)
def F32:Fn:=⟨[aoO,aoO],[rB],fun k x=>S32 k x.1 x.2.1⟩
theorem ok32:O 32 F32:=okF aj [] (fun k=>(.loop 4 aj4 (ao1 k) (fun g=>.nil) .nil)) Tryz.func32 rfl
def S55 (k:Nat) (x:Int×(Int×Int)×(Int×Int)×((List Int)×List Int)×(Int×List (Int×Int))×Int):Option ((y8×Unit)×Unit) :=
 some ((x,()),())
def F55:Fn:=⟨[.val ⟨true,AO,false⟩],[.val ⟨true,AO,false⟩],fun k x=>S55 k x.1⟩
theorem ok55:O 55 F55:=okF aj [] On Tryz.func55 rfl
abbrev aj5:Cut:=⟨[1,2,3,4],[.box 38 [.cell oo,.cell DI,.cell IY],.box 64 [.nil,.nil,.nil],.box 64 [.cell oo,.cell DI,.own 140 AO],cI],[],32,[]⟩
def afj (k:Nat) (g3:(List Int) -> (List Bool) -> (List y8) -> (List Int) -> (List Bool) -> (List y8) -> Int -> Option ((RA×Unit)×Unit)) (a:List Int) (b:List Bool) (c:List y8) (x:List Int) (e:List Bool) (f:List y8) (h:Int):Option ((RA×Unit)×Unit) :=
 (bif decide (h<(c.length:Int)) then
  ix c h <|
  (S55 k (rd c h bf)).bind fun q0 =>
  ap f ([q0.1.1]:List y8) 128 fun r1 =>
  g3 a b c x e r1 (IntKind.i64.wrap (h+1))
 else
  some ((((x,e),f),()),()))
def ao2 (k:Nat):Xx (((Unit)×aeh×(Unit×Unit×Unit×Unit)×aeh×Int×Unit) -> Option ((RA×Unit)×Unit)):=eu (dw (d9 (dh (dh (dh dx))) (d9 (dw (dw (dw dx))) (d9 (dh (dh (dh dx))) (dh dx))))) (afj k)
def Vl (k a:Nat) (b:List Int) (c:List Bool) (e:List y8) (x:List Int) (f:List Bool) (h:List y8) (i:Int):Option ((RA×Unit)×Unit):=iter aj5 (ao2 k) a ((),(b,c,e,()),((),(),(),()),(x,f,h,()),i,())
theorem afk (k a b c e x f h i):Vl k (a+1) b c e x f h i=afj k (Vl k a) b c e x f h i:=Ba _ _ _ _
def S22 (k:Nat) (a:ael):Option ((RA×Unit)×Unit) :=
 Vl k k a.1.1 a.1.2 a.2 a.1.1 a.1.2 ([]:List y8) 0
def F22:Fn:=⟨[ami],[.val ⟨true,(.pair O6 (.sl 140 AO)),false⟩],fun k x=>S22 k x.1⟩
theorem ok22:O 22 F22:=okF (ah ok55 aj) [(12,2)] (fun k=>(.loop 3 aj5 (ao2 k) (fun g=>.nil) .nil)) Tryz.func22 rfl
def S26 (k:Nat) (a:O4):Option ((FV×Unit)×Unit) :=
 (S22 k a.2.2.2.2.2.2.2.2.1).bind fun q0 =>
 some (((w8 a q0.1.1),()),())
def F26:Fn:=⟨[aeo],[.val ⟨true,(.pair (.int .i64) (.pair (.int .i64) (.pair (.sl 54 zf) (.pair IZ (.pair .bool (.pair .bool (.pair .bool (.pair BL (.pair (.pair O6 (.sl 140 AO)) O6))))))))),false⟩],fun k x=>S26 k x.1⟩
theorem ok26:O 26 F26:=okF (ah ok22 aj) [] On Tryz.func26 rfl
abbrev afl:Cut:=⟨[0,1,5],[.cell vo,.cell vo,cI],[],26,[]⟩
def Y1 (k:Nat) (g4:(List kg) -> (List kg) -> Int -> Option ko) (a b:List kg) (c:Int):Option ko :=
 (bif decide (c<(a.length:Int)) then
  ix a c <|
  ix b c <|
  (bif !(fC O7 (rd a c (0,0,0,0)) (rd b c (0,0,0,0))) then
   some ((false,()),())
  else
   g4 a b (IntKind.i64.wrap (c+1)))
 else
  some ((true,()),()))
def aj6 (k:Nat):Xx (((Unit)×(List kg)×(List kg)×Int×Unit) -> Option ko):=eu (dw (dh (dh (dh dx)))) (Y1 k)
def Y2 (k a:Nat) (b c:List kg) (e:Int):Option ko:=iter afl (aj6 k) a ((),b,c,e,())
theorem aaW (k a b c e):Y2 k (a+1) b c e=Y1 k (Y2 k a) b c e:=Ba _ _ _ _
def ahc (k:Nat) (a b:List kg):Option ko :=
 (bif (a.length:Int) != (b.length:Int) then
  some ((false,()),())
 else
  Y2 k k a b 0)
def F226:Fn:=⟨[ajo,ajo],[rB],fun k x=>ahc k x.1 x.2.1⟩
theorem ok226:O 226 F226:=okF aj [] (fun k=>(.loop 4 afl (aj6 k) (fun g=>.nil) .nil)) Tryz.func226 rfl
def amS (k:Nat) (a b:aax):Option ko :=
 (bif a.1==b.1 then
  (bif a.2.1==b.2.1 then
   (bif a.2.2.1==b.2.2.1 then
    (ahc k a.2.2.2.1 b.2.2.2.1).bind fun q0 =>
    (bif q0.1.1 then
     (ahc k a.2.2.2.2.1 b.2.2.2.2.1).bind fun q1 =>
     (bif q1.1.1 then
      (ahc k a.2.2.2.2.2 b.2.2.2.2.2).bind fun q2 =>
      some ((q2.1.1,()),())
     else
      some ((false,()),()))
    else
     some ((false,()),()))
   else
    some ((false,()),()))
  else
   some ((false,()),()))
 else
  some ((false,()),()))
def F136:Fn:=⟨[Vi,Vi],[rB],fun k x=>amS k x.1 x.2.1⟩
theorem ok136:O 136 F136:=okF (ah ok226 aj) [] On Tryz.func136 rfl
abbrev aj7:Cut:=⟨[0,1,5],[.cell (.sl 54 zf),.cell (.sl 54 zf),cI],[],27,[]⟩
def afm (k:Nat) (g4:(List FW) -> (List FW) -> Int -> Option ko) (a b:List FW) (c:Int):Option ko :=
 (bif decide (c<(a.length:Int)) then
  ix a c <|
  ix b c <|
  (amS k (rd a c bg) (rd b c bg)).bind fun q0 =>
  (bif !q0.1.1 then
   some ((false,()),())
  else
   g4 a b (IntKind.i64.wrap (c+1)))
 else
  some ((true,()),()))
def ao3 (k:Nat):Xx (((Unit)×(List FW)×(List FW)×Int×Unit) -> Option ko):=eu (dw (dh (dh (dh dx)))) (afm k)
def afn (k a:Nat) (b c:List FW) (e:Int):Option ko:=iter aj7 (ao3 k) a ((),b,c,e,())
theorem afo (k a b c e):afn k (a+1) b c e=afm k (afn k a) b c e:=Ba _ _ _ _
def S66 (k:Nat) (a b:List FW):Option ko :=
 (bif (a.length:Int) != (b.length:Int) then
  some ((false,()),())
 else
  afn k k a b 0)
def F66:Fn:=⟨[aoP,aoP],[rB],fun k x=>S66 k x.1 x.2.1⟩
theorem ok66:O 66 F66:=okF (ah ok136 aj) [] (fun k=>(.loop 4 aj7 (ao3 k) (fun g=>.nil) .nil)) Tryz.func66 rfl
abbrev aj8:Cut:=⟨[0,1,5],[.cell IZ,.cell IZ,cI],[],26,[]⟩
def afp (k:Nat) (g4:(List (PN Int 5)) -> (List (PN Int 5)) -> Int -> Option ko) (a b:List (PN Int 5)) (c:Int):Option ko :=
 (bif decide (c<(a.length:Int)) then
  ix a c <|
  ix b c <|
  (bif !(fC BH (rd a c (Qn (α:=Int) 5 0)) (rd b c (Qn (α:=Int) 5 0))) then
   some ((false,()),())
  else
   g4 a b (IntKind.i64.wrap (c+1)))
 else
  some ((true,()),()))
def ao4 (k:Nat):Xx (((Unit)×(List (PN Int 5))×(List (PN Int 5))×Int×Unit) -> Option ko):=eu (dw (dh (dh (dh dx)))) (afp k)
def afq (k a:Nat) (b c:List (PN Int 5)) (e:Int):Option ko:=iter aj8 (ao4 k) a ((),b,c,e,())
theorem afr (k a b c e):afq k (a+1) b c e=afp k (afq k a) b c e:=Ba _ _ _ _
def S67 (k:Nat) (a b:List (PN Int 5)):Option ko :=
 (bif (a.length:Int) != (b.length:Int) then
  some ((false,()),())
 else
  afq k k a b 0)
def F67:Fn:=⟨[.val ⟨false,IZ,false⟩,.val ⟨false,IZ,false⟩],[rB],fun k x=>S67 k x.1 x.2.1⟩
theorem ok67:O 67 F67:=okF aj [] (fun k=>(.loop 4 aj8 (ao4 k) (fun g=>.nil) .nil)) Tryz.func67 rfl
abbrev afs:Cut:=⟨[2,3,5],[.box 57 [cI,cI,cI,cI,cI,cI,cI,cI,cI,.cell (.sl 293 qx),.cell .bool],.box 57 [cI,cI,cI,cI,cI,cI,cI,cI,cI,.cell (.sl 293 qx),.cell .bool],cI],[],52,[]⟩
def Y3 (k:Nat) (g4:Int -> Int -> Int -> Int -> Int -> Int -> Int -> Int -> Int -> (List oz) -> Bool -> Int -> Int -> Int -> Int -> Int -> Int -> Int -> Int -> Int -> (List oz) -> Bool -> Int -> Option ko) (a b c e f h i l m:Int) (n:List oz) (o:Bool) (p s t u v w y z A:Int) (B:List oz) (C:Bool) (D:Int):Option ko :=
 (bif decide (D<(n.length:Int)) then
  ix n D <|
  ix B D <|
  (bif !(fC qx (rd n D (0,0,0)) (rd B D (0,0,0))) then
   some ((false,()),())
  else
   g4 a b c e f h i l m n o p s t u v w y z A B C (IntKind.i64.wrap (D+1)))
 else
  some ((true,()),()))
def aj9 (k:Nat):Xx (((Unit)×ajl×ajl×Int×Unit) -> Option ko):=eu (dw (d9 (dh (dh (dh (dh (dh (dh (dh (dh (dh (dh (dh dx))))))))))) (d9 (dh (dh (dh (dh (dh (dh (dh (dh (dh (dh (dh dx))))))))))) (dh dx)))) (Y3 k)
def MH (k a:Nat) (b c e f h i l m n:Int) (o:List oz) (p:Bool) (s t u v w y z A B:Int) (C:List oz) (D:Bool) (G:Int):Option ko:=iter afs (aj9 k) a ((),(b,c,e,f,h,i,l,m,n,o,p,()),(s,t,u,v,w,y,z,A,B,C,D,()),G,())
theorem aaX (k a b c e f h i l m n o p s t u v w y z A B C D G):MH k (a+1) b c e f h i l m n o p s t u v w y z A B C D G=Y3 k (MH k a) b c e f h i l m n o p s t u v w y z A B C D G:=Ba _ _ _ _
def akb (k:Nat) (a b:aej):Option ko :=
 (bif a.1 != b.1 then
  some ((false,()),())
 else
  (bif !(fC (Am 8 (.int .i64)) a.2.1 b.2.1) then
   some ((false,()),())
  else
   (bif !(a.2.2.2==b.2.2.2) then
    some ((false,()),())
   else
    (bif (a.2.2.1.length:Int) != (b.2.2.1.length:Int) then
     some ((false,()),())
    else
     MH k k a.1 a.2.1.1 a.2.1.2.1 a.2.1.2.2.1 a.2.1.2.2.2.1 a.2.1.2.2.2.2.1 a.2.1.2.2.2.2.2.1 a.2.1.2.2.2.2.2.2.1 a.2.1.2.2.2.2.2.2.2 a.2.2.1 a.2.2.2 b.1 b.2.1.1 b.2.1.2.1 b.2.1.2.2.1 b.2.1.2.2.2.1 b.2.1.2.2.2.2.1 b.2.1.2.2.2.2.2.1 b.2.1.2.2.2.2.2.2.1 b.2.1.2.2.2.2.2.2.2 b.2.2.1 b.2.2.2 0))))
def F227:Fn:=⟨[aaA,aaA],[rB],fun k x=>akb k x.1 x.2.1⟩
theorem ok227:O 227 F227:=okF aj [] (fun k=>(.loop 4 afs (aj9 k) (fun g=>.nil) .nil)) Tryz.func227 rfl
abbrev aft:Cut:=⟨[0,1,5],[.cell oo,.cell oo,cI],[],26,[]⟩
def Y4 (k:Nat) (g4:(List Int) -> (List Int) -> Int -> Option ko) (a b:List Int) (c:Int):Option ko :=
 (bif decide (c<(a.length:Int)) then
  ix a c <|
  ix b c <|
  (bif (rd a c 0) != (rd b c 0) then
   some ((false,()),())
  else
   g4 a b (IntKind.i64.wrap (c+1)))
 else
  some ((true,()),()))
def akc (k:Nat):Xx (((Unit)×(List Int)×(List Int)×Int×Unit) -> Option ko):=eu (dw (dh (dh (dh dx)))) (Y4 k)
def MI (k a:Nat) (b c:List Int) (e:Int):Option ko:=iter aft (akc k) a ((),b,c,e,())
theorem aaY (k a b c e):MI k (a+1) b c e=Y4 k (MI k a) b c e:=Ba _ _ _ _
def akd (k:Nat) (a b:List Int):Option ko :=
 (bif (a.length:Int) != (b.length:Int) then
  some ((false,()),())
 else
  MI k k a b 0)
def F140:Fn:=⟨[aen,aen],[rB],fun k x=>akd k x.1 x.2.1⟩
theorem ok140:O 140 F140:=okF aj [] (fun k=>(.loop 4 aft (akc k) (fun g=>.nil) .nil)) Tryz.func140 rfl
def amT (k:Nat) (a b:za):Option ko :=
 (bif a.1==b.1 then
  (bif a.2.1==b.2.1 then
   (bif a.2.2.1==b.2.2.1 then
    (bif a.2.2.2.1==b.2.2.2.1 then
     (bif a.2.2.2.2.2.2.2==b.2.2.2.2.2.2.2 then
      (akb k a.2.2.2.2.1 b.2.2.2.2.1).bind fun q0 =>
      (bif q0.1.1 then
       (akb k a.2.2.2.2.2.1 b.2.2.2.2.2.1).bind fun q1 =>
       (bif q1.1.1 then
        (akd k a.2.2.2.2.2.2.1 b.2.2.2.2.2.2.1).bind fun q2 =>
        some ((q2.1.1,()),())
       else
        some ((false,()),()))
      else
       some ((false,()),()))
     else
      some ((false,()),()))
    else
     some ((false,()),()))
   else
    some ((false,()),()))
  else
   some ((false,()),()))
 else
  some ((false,()),()))
def F137:Fn:=⟨[FD,FD],[rB],fun k x=>amT k x.1 x.2.1⟩
theorem ok137:O 137 F137:=okF (ah ok140 <| ah ok227 aj) [] On Tryz.func137 rfl
abbrev ake:Cut:=⟨[0,1,5],[.cell BL,.cell BL,cI],[],27,[]⟩
def afu (k:Nat) (g4:(List wz) -> (List wz) -> Int -> Option ko) (a b:List wz) (c:Int):Option ko :=
 (bif decide (c<(a.length:Int)) then
  ix a c <|
  ix b c <|
  (amT k (rd a c ay) (rd b c ay)).bind fun q0 =>
  (bif !q0.1.1 then
   some ((false,()),())
  else
   g4 a b (IntKind.i64.wrap (c+1)))
 else
  some ((true,()),()))
def ao5 (k:Nat):Xx (((Unit)×(List wz)×(List wz)×Int×Unit) -> Option ko):=eu (dw (dh (dh (dh dx)))) (afu k)
def Vm (k a:Nat) (b c:List wz) (e:Int):Option ko:=iter ake (ao5 k) a ((),b,c,e,())
theorem afv (k a b c e):Vm k (a+1) b c e=afu k (Vm k a) b c e:=Ba _ _ _ _
def S68 (k:Nat) (a b:List wz):Option ko :=
 (bif (a.length:Int) != (b.length:Int) then
  some ((false,()),())
 else
  Vm k k a b 0)
def F68:Fn:=⟨[ajn,ajn],[rB],fun k x=>S68 k x.1 x.2.1⟩
theorem ok68:O 68 F68:=okF (ah ok137 aj) [] (fun k=>(.loop 4 ake (ao5 k) (fun g=>.nil) .nil)) Tryz.func68 rfl
end
end Go.Proofs.YtjjjbcmjmkcedaaGreat.Ab
