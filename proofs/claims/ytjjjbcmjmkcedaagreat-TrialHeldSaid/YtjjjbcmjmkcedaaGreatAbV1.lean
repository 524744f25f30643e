import Derived.Test.YtjjjbcmjmkcedaaGreatAbV0
/- Contracts, printed by this session's own program gen.py. -/
set_option linter.unusedVariables false
set_option linter.unusedSimpArgs false
set_option maxRecDepth 100000
namespace Go.Proofs.YtjjjbcmjmkcedaaGreat.Ab
open Go.RowKit
abbrev aoF:Type:=Int×Int×(List (Int×Int×Int×(List (Int×Int×Int×Int))×(List (Int×Int×Int×Int))×List (Int×Int×Int×Int)))×(List (PN Int 5))×Bool×Bool×Bool×(List (Int×Int×Int×Int×(Int×(PN Int 8)×(List (Int×Int×Int))×Bool)×(Int×(PN Int 8)×(List (Int×Int×Int))×Bool)×(List Int)×Bool))×(List Int)×(List Bool)×(List (Int×(Int×Int)×(Int×Int)×((List Int)×List Int)×(Int×List (Int×Int))×Int))×(List Int)×(List Bool)×(List (PN Int 6))×Unit
abbrev J6:Type:=Int×Int×(List (Int×Int×Int×(List (Int×Int×Int×Int))×(List (Int×Int×Int×Int))×List (Int×Int×Int×Int)))×(List (PN Int 5))×Bool×Bool×Bool×(List (Int×Int×Int×Int×(Int×(PN Int 8)×(List (Int×Int×Int))×Bool)×(Int×(PN Int 8)×(List (Int×Int×Int))×Bool)×(List Int)×Bool))×(((List Int)×List Bool)×List (Int×(Int×Int)×(Int×Int)×((List Int)×List Int)×(Int×List (Int×Int))×Int))×(List Int)×List Bool
abbrev KQ:Ty:=.pair (.int .i64) (.pair (.int .i64) (.pair (.int .i64) (.pair (.int .i64) (.pair (.pair (.int .i64) (.pair (Am 8 (.int .i64)) (.pair (.sl 293 (.pair (.int .i64) (.pair (.int .i64) (.int .i64)))) .bool))) (.pair (.pair (.int .i64) (.pair (Am 8 (.int .i64)) (.pair (.sl 293 (.pair (.int .i64) (.pair (.int .i64) (.int .i64)))) .bool))) (.pair (.sl 3 (.int .i64)) .bool))))))
abbrev BU:Ty:=.pair (.int .i64) (.pair (.int .i64) (.pair (.int .i64) (.pair (.sl 127 (.pair (.int .i64) (.pair (.int .i64) (.pair (.int .i64) (.int .i64))))) (.pair (.sl 127 (.pair (.int .i64) (.pair (.int .i64) (.pair (.int .i64) (.int .i64))))) (.sl 127 (.pair (.int .i64) (.pair (.int .i64) (.pair (.int .i64) (.int .i64)))))))))
abbrev aiM:Type:=Int×Int×(List (Int×Int×Int×(List (Int×Int×Int×Int))×(List (Int×Int×Int×Int))×List (Int×Int×Int×Int)))×(List (PN Int 5))×Bool×Bool×Bool×(List (Int×Int×Int×Int×(Int×(PN Int 8)×(List (Int×Int×Int))×Bool)×(Int×(PN Int 8)×(List (Int×Int×Int))×Bool)×(List Int)×Bool))×(List Int)×(List Bool)×(List (Int×(Int×Int)×(Int×Int)×((List Int)×List Int)×(Int×List (Int×Int))×Int))×(List Int)×(List Bool)×Int×Int×Int×Int×(List (Int×Int×Int×Int))×(List (Int×Int×Int×Int))×(List (Int×Int×Int×Int))×Int×Int×Int×Int×Int×(List (PN Int 6))×Int×Int×Int×Int×Unit
abbrev zn:Ty:=.pair (.int .i64) (.pair (.pair (.int .i64) (.int .i64)) (.pair (.pair (.int .i64) (.int .i64)) (.pair (.pair (.sl 2 (.int .i64)) (.sl 3 (.int .i64))) (.pair (.pair (.int .u32) (.sl 266 (.pair (.int .i64) (.int .u32)))) (.int .u32)))))
abbrev agv:Type:=Int×(Int×Int×Int×(List (Int×Int×Int×Int))×(List (Int×Int×Int×Int))×List (Int×Int×Int×Int))×(Int×Int)×Int×Int×Int
abbrev BJ:Type:=Int×Int×Int×Int×(Int×(PN Int 8)×(List (Int×Int×Int))×Bool)×(Int×(PN Int 8)×(List (Int×Int×Int))×Bool)×(List Int)×Bool
abbrev CX:Type:=Int×(Int×Int)×(Int×Int)×((List Int)×List Int)×(Int×List (Int×Int))×Int
abbrev GD:Ty:=.pair (.int .i64) (.int .i64)
abbrev AA:Type:=Int×Int×Int×Int×(Int×(PN Int 8)×(List (Int×Int×Int))×Bool)×(Int×(PN Int 8)×(List (Int×Int×Int))×Bool)×(List Int)×Bool
abbrev kr:Type:=Int×Int×Int×Int
abbrev anK:Ty:=.pair (.int .i64) (.pair (.int .i64) (.pair (.sl 54 BU) (.pair (.sl 168 (Am 5 (.int .i64))) (.pair .bool (.pair .bool (.pair .bool (.pair (.sl 59 KQ) (.pair (.pair (.pair (.sl 3 (.int .i64)) (.sl 4 .bool)) (.sl 142 zn)) (.pair (.sl 3 (.int .i64)) (.sl 4 .bool))))))))))
abbrev aiN:Type:=Int×Int×Int×Int×Int×Int×Int×Int×Int×Int×Int×Int×Int×(List (Int×Int×Int))×Bool×Int×Int×Int×Int×Int×Int×Int×Int×Int×(List (Int×Int×Int))×Bool×(List Int)×Bool×Unit
abbrev OM:Ty:=.pair (.int .i64) (.pair (.int .i64) GD)
abbrev BD:Type:=((List (Int×agv×Int×Int))×Unit)×((List Int)×Int×Unit)×Unit
abbrev GH:Ty:=.pair (.int .i64) (.pair (.pair (.int .i64) (.pair BU (.pair GD (.pair (.int .i64) (.pair (.int .i64) (.int .u32)))))) GD)
abbrev SE:Type:=Int×Int×(List (Int×Int×Int×(List kr)×(List kr)×List kr))×(List (PN Int 5))×Bool×Bool×Bool×(List BJ)×(((List Int)×List Bool)×List CX)×(List Int)×List Bool
abbrev l6:Type:=(Unit)×aoF×Unit
abbrev JC:Type:=((List kr)×Unit)×((List Int)×Int×Unit)×Unit
abbrev qc:Type:=Int×agv×Int×Int
abbrev VE:Type:=((((List Int)×List Bool)×List CX)×(List Int)×(List (List Int))×Unit)×Unit
abbrev oz:Ty:=.sl 3 (.int .i64)
abbrev ad7:Type:=Int×Int×(List (Int×Int×Int×(List kr)×(List kr)×List kr))×(List (PN Int 5))×Bool×Bool×Bool×(List BJ)×(List Int)×(List Bool)×(List CX)×(List Int)×(List Bool)×Unit
abbrev OO:Type:=(J6×List (PN Int 6)) -> (List (List Int)) -> (List Int) -> Int -> Int -> Option l6
abbrev pz:Type:=List (Int×Int)
abbrev yu:Type:=(Int×Bool×Unit)×Unit
abbrev anL:Ty:=.pair (.int .i64) (.pair (Am 8 (.int .i64)) (.pair (.sl 293 (.pair (.int .i64) GD)) .bool))
abbrev w9:Ty:=Am 6 (.int .i64)
abbrev SF:Type:=((Int×(PN Int 8)×(List (Int×Int×Int))×Bool)×Unit)×Unit
abbrev JD:Type:=Int×(Int×Int)×Int
abbrev qh:Type:=J6×List (PN Int 6)
abbrev KR:Type:=J6×agv×(List (PN Int 6))×Int×(Int×Int)×Int
abbrev uq:Type:=(Int×Unit)×Unit
abbrev zk:Ty:=Am 5 (.int .i64)
abbrev GI:Type:=(List Int)×Int×Unit
abbrev ny:Type:=List (Int×Int)
abbrev BX:Type:=Int×Int×Int
abbrev FJ:Ty:=.pair (.int .i64) (.int .u32)
abbrev yw:Ty:=.pair (.int .i64) GD
abbrev aiO:Type:=(List Int) -> (List Bool) -> (List CX) -> (List Int) -> (List Bool) -> (List CX) -> (List Int) -> (List (List Int)) -> (List CX) -> Int -> Int -> Option VE
abbrev VF:Type:=J6×(List (PN Int 6))×(List JD)×Bool×Unit
abbrev FL:Type:=((List Int)×Unit)×Unit
abbrev SG:Type:=(J6×(List (PN Int 6))×JD×Unit)×Unit
abbrev aaE:Type:=((Int×List (Int×Int))×(List Int)×Unit)×Unit
abbrev yx:Ty:=.sl 127 OM
abbrev BZ:Type:=(Unit)×aiM×Unit
abbrev DN:Ty:=.sl 5 (.int .u8)
abbrev anM:Ty:=.pair (.pair oz (.sl 4 .bool)) (.sl 142 zn)
abbrev C8:Type:=List (List Int)
abbrev ad8:Type:=(List Int) -> Int -> Int -> (List kr) -> Int -> Option JC
abbrev ad9:Type:=Int×Int×Int×(List kr)×(List kr)×List kr
abbrev VG:Type:=(BJ×kr×Bool×Unit)×Unit
abbrev aea:Type:=Int×Int×Int×(List kr)×(List kr)×List kr
abbrev SH:Ty:=.sl 121 GD
abbrev DR:Ty:=.sl 4 .bool
abbrev KT:Type:=(Bool×Unit)×Unit
abbrev aaF:Type:=(Bool×Unit)×aoF×aiN×Unit
abbrev VH:Type:=Int×Int×Int×Int×Unit
abbrev SI:Type:=(List Int)×List Bool
abbrev anN:Type:=(List Int)×(List Bool)×(List CX)×Unit
abbrev aeb:Ty:=.pair (.int .i64) (.pair GD (.int .i64))
abbrev VI:Type:=(pz×Unit)×Unit
abbrev FM:Ty:=.sl 59 KQ
abbrev CZ:Type:=aoF×Unit
abbrev anO:Type:=Int×Int×Unit×Unit×Bool×Bool×Bool×Unit×Unit×Unit×Unit×Unit×Unit×Unit
abbrev KU:Type:=List (PN Int 6)
abbrev FN:Type:=List BX
abbrev ali:PT:=.fK 175 [cI,cI,.cell (.sl 54 BU),.cell (.sl 168 zk),.cell .bool,.cell .bool,.cell .bool,.cell FM,.cell oz,.cell DR,.cell (.sl 142 zn),.cell oz,.cell DR,cI,cI,cI,cI,.cell yx,.cell yx,.cell yx,cI,cI,cI,cI,.cell (.int .u32),.own 51 w9,cI,cI,cI,cI]
abbrev XY:PT:=.fK 166 [cI,cI,.own 54 BU,.own 168 zk,.cell .bool,.cell .bool,.cell .bool,.own 59 KQ,.own 3 (.int .i64),.own 4 .bool,.own 142 zn,.own 3 (.int .i64),.own 4 .bool,.own 51 w9]
abbrev aoG:PT:=.fK 166 [cI,cI,.own 54 BU,.own 168 zk,.cell .bool,.cell .bool,.cell .bool,.cell FM,.own 3 (.int .i64),.own 4 .bool,.own 142 zn,.own 3 (.int .i64),.own 4 .bool,.own 51 w9]
abbrev ap6:PT:=.fK 59 [cI,cI,cI,cI,cI,cI,cI,cI,cI,cI,cI,cI,cI,.cell (.sl 293 yw),.cell .bool,cI,cI,cI,cI,cI,cI,cI,cI,cI,.cell (.sl 293 yw),.cell .bool,.cell oz,.cell .bool]
abbrev ap7:PT:=.val ⟨true,(.pair (.int .i64) (.pair BU (.pair GD (.pair (.int .i64) FJ)))),false⟩
abbrev ap8:PT:=.val ⟨true,(.pair (.int .u32) (.sl 266 FJ)),false⟩
abbrev ap9:RT:=.val ⟨true,(.pair (.int .u32) (.sl 266 FJ)),true⟩
abbrev aoH:PT:=.val ⟨true,(.pair oz DR),false⟩
abbrev aqa:RT:=.val ⟨true,(.pair oz DR),true⟩
abbrev aqb:PT:=.val ⟨false,(.sl 266 FJ),false⟩
abbrev anP:RT:=.val ⟨false,(.sl 100 GH),true⟩
abbrev aec:RT:=.val ⟨false,(.sl 51 w9),true⟩
abbrev OQ:PT:=.fK 129 [.cell DN,cI]
abbrev FP:PT:=.val ⟨false,SH,false⟩
abbrev SK:RT:=.val ⟨false,oz,true⟩
abbrev aiP:PT:=.val ⟨true,anM,false⟩
abbrev aiQ:PT:=.val ⟨true,anK,false⟩
abbrev aed:RT:=.val ⟨false,SH,true⟩
abbrev aiR:PT:=.val ⟨true,anL,false⟩
abbrev aiS:RT:=.val ⟨false,yx,true⟩
abbrev aiT:RT:=.val ⟨true,anM,true⟩
abbrev aee:RT:=.val ⟨true,anK,true⟩
abbrev JE:PT:=.val ⟨true,KQ,false⟩
abbrev aef:RT:=.val ⟨true,anL,true⟩
abbrev aeg:PT:=.val ⟨true,BU,false⟩
abbrev aiU:RT:=.val ⟨true,OM,true⟩
abbrev aaG:RT:=.val ⟨true,KQ,true⟩
noncomputable section
abbrev aiV:Cut:=⟨[0,2,3,5,28,29,30],[.pin false 0,cI,.box 142 [cI,cI,cI,cI,cI,.cell (.sl 2 (.int .i64)),.cell oz,.cell (.int .u32),.cell (.sl 266 FJ),.cell (.int .u32)],.box 138 [.cell (.int .u32),.own 266 FJ],.own 266 FJ,cI,cI],[.fK 175 [cI,cI,.cell (.sl 54 BU),.cell (.sl 168 zk),.cell .bool,.cell .bool,.cell .bool,.cell FM,.cell oz,.cell DR,.cell (.sl 142 zn),.cell oz,.cell DR,cI,cI,cI,cI,.cell yx,.cell yx,.cell yx,cI,cI,cI,cI,.cell (.int .u32),.own 51 w9,cI,cI,cI,cI]],56,[]⟩
def aeh (k:Nat) (g4:(J6×agv×KU×Int×(Int×Int)×Int) -> Int -> Int -> Int -> Int -> Int -> Int -> (List Int) -> (List Int) -> Int -> pz -> Int -> Int -> pz -> pz -> Int -> Int -> Option BZ) (a:KR) (b x c e f h:Int) (i l:List Int) (m:Int) (n:ny) (o p:Int) (s t:ny) (u v:Int):Option BZ :=
 (bif decide (v<u) then
  ix t v <|
  (aiH k a (rd t v (0,0)).1 (IntKind.i64.wrap (rd t v (0,0)).2) 0).bind fun q2 =>
  g4 (qd q2.2.1) b x c e f h i l m n o p s t u (IntKind.i64.wrap (v+1))
 else
  (J5 k a.1.2.2.2.2.2.2.2.2.1 b (x,(c,e),(f,h),(i,l),(p,s),o)).bind fun q3 =>
  some ((),BI ((w8 a.1 q3.1.1),a.2),()))
def anQ (k:Nat) (g:((aiM×Unit)×Unit×Int×(Int×Int×Int×Int×Int×(List Int)×(List Int)×Int×pz×Int×Unit)×(Int×pz×Unit)×pz×Int×Int×Unit) -> Option BZ) (d:(aiM×Unit)×Unit×Int×(Int×Int×Int×Int×Int×(List Int)×(List Int)×Int×pz×Int×Unit)×(Int×pz×Unit)×pz×Int×Int×Unit):Option BZ:=aeh k (fun a b x c e f h i l m n o p s t u v=>g ((BI a,()),(),b,(x,c,e,f,h,i,l,m,n,o,()),(p,s,()),t,u,v,())) (qd d.1.1) d.2.2.1 d.2.2.2.1.1 d.2.2.2.1.2.1 d.2.2.2.1.2.2.1 d.2.2.2.1.2.2.2.1 d.2.2.2.1.2.2.2.2.1 d.2.2.2.1.2.2.2.2.2.1 d.2.2.2.1.2.2.2.2.2.2.1 d.2.2.2.1.2.2.2.2.2.2.2.1 d.2.2.2.1.2.2.2.2.2.2.2.2.1 d.2.2.2.1.2.2.2.2.2.2.2.2.2.1 d.2.2.2.2.1.1 d.2.2.2.2.1.2.1 d.2.2.2.2.2.1 d.2.2.2.2.2.2.1 d.2.2.2.2.2.2.2.1
def aei (k a:Nat) (b:KR) (c x e f h i:Int) (l m:List Int) (n:Int) (o:ny) (p s:Int) (t u:ny) (v w:Int):Option BZ:=iter aiV (anQ k) a ((BI b,()),(),c,(x,e,f,h,i,l,m,n,o,p,()),(s,t,()),u,v,w,())
theorem aej (k a b c x e f h i l m n o p s t u v w):aei k (a+1) b c x e f h i l m n o p s t u v w=aeh k (aei k a) b c x e f h i l m n o p s t u v w:=Ba _ _ _ _
def S95 (k:Nat) (a:KR):Option BZ :=
 (ab8 k a 3).bind fun ((b,(c,(e,f),(h,i),(l,m),n,o),p,_),s,_) =>
 (bif !p then
  some ((),s,())
 else
  (aiL k n (qd s).2.1.2.2.2.2.2).bind fun q1 =>
  aei k k (qd s) b c e f h i l m n.1 n.2 o q1.1.1.1 q1.1.1.2 q1.1.2.1 (q1.1.2.1.length:Int) 0)
def F95:Fn:=⟨[ali],[],fun k x=>S95 k (qd x.1)⟩
theorem ok95:O 95 F95:=okF (ah ok128 <| ah ok168 <| ah ok170 <| ah ok172 aj) [] (fun k=>(.loop 4 aiV (anQ k) (fun g=>.nil) .nil)) Tryz.func95 rfl
def aoI (k:Nat) (a:Int×Int) (b:Int):Option KT :=
 some ((a.1==b,()),())
def F258:Fn:=⟨[.val ⟨true,FJ,false⟩,.pv (.ref (.int .i64))],[rB],fun k x=>aoI k x.1 x.2.1⟩
theorem ok258:O 258 F258:=okF aj [] On Tryz.func258 rfl
abbrev aek:Cut:=⟨[0,1,7,8],[.cell (.sl 266 FJ),.lJ 258 [.ref (.int .i64)],cI,cI],[],19,[]⟩
def XZ (k:Nat) (g2:pz -> Int -> Int -> Int -> Option uq) (a:ny) (b c e:Int):Option uq :=
 (bif decide (e<c) then
  ix a e <|
  (aoI k (rd a e (0,0)) b).bind fun q0 =>
  (bif q0.1.1 then
   some ((e,()),())
  else
   g2 a b c (IntKind.i64.wrap (e+1)))
 else
  some (((-1),()),()))
def aiW (k:Nat):Xx (((Unit)×pz×(Int×Unit)×Int×Int×Unit) -> Option uq):=eu (dw (dh (d9 (dh dx) (dh (dh dx))))) (XZ k)
def MP (k a:Nat) (b:ny) (c e f:Int):Option uq:=iter aek (aiW k) a ((),b,(c,()),e,f,())
theorem aaH (k a b c e f):MP k (a+1) b c e f=XZ k (MP k a) b c e f:=Ba _ _ _ _
def alj (k:Nat) (a:ny) (b:Int):Option uq :=
 MP k k a b (a.length:Int) 0
def F328:Fn:=⟨[aqb,.pv (.lJ 258 [.ref (.int .i64)])],[rI],fun k x=>alj k x.1 x.2.1.1⟩
theorem ok328:O 328 F328:=okF (ah ok258 aj) [] (fun k=>(.loop 2 aek (aiW k) (fun g=>.nil) .nil)) Tryz.func328 rfl
def aoJ (k:Nat) (a:ny) (b:Int):Option KT :=
 (alj k a b).bind fun q0 =>
 some ((decide (q0.1.1≥0),()),())
def F257:Fn:=⟨[aqb,.pv (.lJ 258 [.ref (.int .i64)])],[rB],fun k x=>aoJ k x.1 x.2.1.1⟩
theorem ok257:O 257 F257:=okF (ah ok328 aj) [] On Tryz.func257 rfl
def aiX (k:Nat) (a:Int×List (Int×Int)) (b c:Int):Option (((Int×List (Int×Int))×Int×Bool×Unit)×Unit) :=
 (aal k a.2).bind fun q0 =>
 (bif decide (b<1) then
  some (((a.1,q0.1.1),0,false,()),())
 else
  (bif c==0 then
   some (((a.1,q0.1.1),0,false,()),())
  else
   (bif (Um .u32 a.1 c) != 0 then
    some (((Ru .u32 a.1 (Um .u32 a.1 c),q0.1.1),Um .u32 a.1 c,true,()),())
   else
    (bif decide ((a.2.length:Int)≥4) then
     some (((a.1,q0.1.1),0,false,()),())
    else
     (aoJ k a.2 b).bind fun q1 =>
     (bif q1.1.1 then
      some (((a.1,q0.1.1),0,false,()),())
     else
      ap q0.1.1 ([(b,c)]:List (Int×Int)) 16 fun r2 =>
      some (((a.1,r2),0,true,()),()))))))
def F173:Fn:=⟨[ap8,au,.val ⟨false,(.int .u32),false⟩],[ap9,.val ⟨false,(.int .u32),true⟩,rB],fun k (a,b,c,_)=>aiX k a b c⟩
theorem ok173:O 173 F173:=okF (ah ok256 <| ah ok257 aj) [] On Tryz.func173 rfl
def S96 (k:Nat) (a:KR):Option BZ :=
 (ab8 k a 3).bind fun q0 =>
 (bif !q0.1.2.2.1 then
  some ((),q0.2.1,())
 else
  (aiX k q0.1.2.1.2.2.2.2.1 (qd q0.2.1).2.1.2.2.2.1 (qd q0.2.1).2.1.2.2.2.2.2).bind fun q1 =>
  (bif !q1.1.2.2.1 then
   some ((),BI (w3 (qd q0.2.1) 1),())
  else
   (bif q1.1.2.1==0 then
    (J5 k (qd q0.2.1).1.2.2.2.2.2.2.2.2.1 q0.1.1 (w4 q0.1.2.1 q1.1.1)).bind fun q2 =>
    some ((),BI ((w8 (qd q0.2.1).1 q2.1.1),(qd q0.2.1).2.1,(qd q0.2.1).2.2.1,16,(qd q0.2.1).2.2.2.2.1,IntKind.i64.wrap q1.1.2.1),())
   else
    (J5 k (qd q0.2.1).1.2.2.2.2.2.2.2.2.1 q0.1.1 (w4 q0.1.2.1 q1.1.1)).bind fun q3 =>
    some ((),BI (w0 (z5 (qd q0.2.1) (IntKind.i64.wrap q1.1.2.1)) (w8 (qd q0.2.1).1 q3.1.1)),()))))
def F96:Fn:=⟨[ali],[],fun k x=>S96 k (qd x.1)⟩
theorem ok96:O 96 F96:=okF (ah ok128 <| ah ok168 <| ah ok173 aj) [] On Tryz.func96 rfl
def alk (k:Nat) (a:(List Int)×List Bool) (b:Int×Int):Option ((SI×Bool×Unit)×Unit) :=
 (ais k a).bind fun q0 =>
 (aiE k q0.1.1 b).bind fun q1 =>
 (bif !q1.1.1 then
  some ((q0.1.1,false,()),())
 else
  ix q0.1.1.2 b.1 <|
  some (((q0.1.1.1,upd q0.1.1.2 b.1 false),true,()),()))
def F259:Fn:=⟨[aoH,.val ⟨true,GD,false⟩],[aqa,rB],fun k x=>alk k x.1 x.2.1⟩
theorem ok259:O 259 F259:=okF (ah ok324 <| ah ok327 aj) [] On Tryz.func259 rfl
def alm (k:Nat) (a:(List Int)×List Int):Option ((((List Int)×List Int)×(List Int)×Unit)×Unit) :=
 (G9 k a.2).bind fun q0 =>
 some ((([],[]),q0.1.1,()),())
def F296:Fn:=⟨[.val ⟨true,(.pair (.sl 2 (.int .i64)) oz),false⟩],[.val ⟨true,(.pair (.sl 2 (.int .i64)) oz),true⟩,SK],fun k x=>alm k x.1⟩
theorem ok296:O 296 F296:=okF (ah ok219 aj) [] On Tryz.func296 rfl
abbrev ael:Cut:=⟨[2,3,7,8,9],[.box 138 [.cell (.int .u32),.nil],.own 3 (.int .i64),.cell (.sl 266 FJ),cI,cI],[],21,[]⟩
def Y0 (k:Nat) (g2:Int -> (List Int) -> pz -> Int -> Int -> Option aaE) (x:Int) (a:List Int) (b:ny) (c e:Int):Option aaE :=
 (bif decide (e<c) then
  ix b e <|
  ap a ([(rd b e (0,0)).1]:List Int) 8 fun r0 =>
  g2 x r0 b c (IntKind.i64.wrap (e+1))
 else
  some (((x,[]),a,()),()))
def aiY (k:Nat):Xx (((Unit)×(Int×Unit×Unit)×(List Int)×pz×Int×Int×Unit) -> Option aaE):=eu (dw (d9 (dh (dw dx)) (dh (dh (dh (dh dx)))))) (Y0 k)
def MQ (k a:Nat) (x:Int) (b:List Int) (c:ny) (e f:Int):Option aaE:=iter ael (aiY k) a ((),(x,(),()),b,c,e,f,())
theorem aaI (k a x b c e f):MQ k (a+1) x b c e f=Y0 k (MQ k a) x b c e f:=Ba _ _ _ _
def aln (k:Nat) (a:Int×List (Int×Int)):Option aaE :=
 MQ k k 0 ([]:List Int) a.2 (a.2.length:Int) 0
def F297:Fn:=⟨[ap8],[ap9,SK],fun k x=>aln k x.1⟩
theorem ok297:O 297 F297:=okF aj [(3,2)] (fun k=>(.loop 2 ael (aiY k) (fun g=>.nil) .nil)) Tryz.func297 rfl
def alo (k:Nat) (a:Int):Option FL :=
 (bif decide (a<0) then
  none
 else
  (bif decide ((IntKind.i64.wrap (a - 0))>0) then
   az ([]:List Int) (IntKind.i64.wrap (a - 0)) 8 0 fun r0 =>
   sx r0 0 0 <|
   some ((r0.take 0,()),())
  else
   some (([],()),())))
def F339:Fn:=⟨[.pv (.nil),au],[SK],fun k x=>alo k x.2.1⟩
theorem ok339:O 339 F339:=okF aj [(25,1)] On Tryz.func339 rfl
abbrev aaJ:Cut:=⟨[6,25,26,27],[.own 3 (.int .i64),.cell (.sl 32 oz),cI,cI],[],36,[]⟩
def KV (k:Nat) (g11:(List Int) -> C8 -> Int -> Int -> Option FL) (a:List Int) (b:List (List Int)) (c e:Int):Option FL :=
 (bif decide (e<c) then
  ix b e <|
  ap a (rd b e []) 8 fun r1 =>
  g11 r1 b c (IntKind.i64.wrap (e+1))
 else
  some ((a,()),()))
def aem (k:Nat):Xx (((Unit)×(List Int)×C8×Int×Int×Unit) -> Option FL):=eu (dw (dh (dh (dh (dh dx))))) (KV k)
def Y1 (k a:Nat) (b:List Int) (c:List (List Int)) (e f:Int):Option FL:=iter aaJ (aem k) a ((),b,c,e,f,())
theorem MR (k a b c e f):Y1 k (a+1) b c e f=KV k (Y1 k a) b c e f:=Ba _ _ _ _
abbrev aen:Cut:=⟨[0,3,9,10,11],[.cell (.sl 32 oz),cI,.cell (.sl 32 oz),cI,cI],[],36,[]⟩
def SL (k:Nat) (g3:C8 -> Int -> C8 -> Int -> Int -> Option FL) (a:List (List Int)) (b:Int) (c:List (List Int)) (e f:Int):Option FL :=
 (bif decide (f<e) then
  ix c f <|
  (bif decide ((IntKind.i64.wrap (b+((rd c f []).length:Int)))<0) then
   none
  else
   g3 a (IntKind.i64.wrap (b+((rd c f []).length:Int))) c e (IntKind.i64.wrap (f+1)))
 else
  (alo k b).bind fun q0 =>
  Y1 k k q0.1.1 a (a.length:Int) 0)
def aiZ (k:Nat):Xx (((Unit)×C8×Int×C8×Int×Int×Unit) -> Option FL):=eu (dw (dh (dh (dh (dh (dh dx)))))) (SL k)
def acd (k a:Nat) (b:List (List Int)) (c:Int) (e:List (List Int)) (f h:Int):Option FL:=iter aen (aiZ k) a ((),b,c,e,f,h,())
theorem SN (k a b c e f h):acd k (a+1) b c e f h=SL k (acd k a) b c e f h:=Ba _ _ _ _
def alp (k:Nat) (a:List (List Int)):Option FL :=
 acd k k a 0 a (a.length:Int) 0
def F298:Fn:=⟨[.val ⟨false,(.sl 32 oz),false⟩],[SK],fun k x=>alp k x.1⟩
theorem ok298:O 298 F298:=okF (ah ok339 aj) [] (fun k=>(.loop 11 aaJ (aem k) (fun g=>.nil) (.loop 3 aen (aiZ k) (fun g=>.nil) .nil))) Tryz.func298 rfl
def agw (k:Nat) (x:Int×(Int×Int)×(Int×Int)×((List Int)×List Int)×(Int×List (Int×Int))×Int):Option FL :=
 (alm k x.2.2.2.1).bind fun q0 =>
 (aln k x.2.2.2.2.1).bind fun q1 =>
 (alp k ([q0.1.2.1,q1.1.2.1]:List (List Int))).bind fun q2 =>
 some ((q2.1.1,()),())
def F234:Fn:=⟨[.val ⟨true,zn,false⟩],[SK],fun k x=>agw k x.1⟩
theorem ok234:O 234 F234:=okF (ah ok296 <| ah ok297 <| ah ok298 aj) [] On Tryz.func234 rfl
def aaK (k:Nat) (a:SI×List CX) (b:Int×Int):Option (((SI×List CX)×(List Int)×Bool×Unit)×Unit) :=
 (V8 k a).bind fun q0 =>
 (agu k a b).bind fun q1 =>
 (bif !q1.1.2.1 then
  some ((q0.1.1,[],false,()),())
 else
  ix a.2 q1.1.1 <|
  (bif (rd a.2 q1.1.1 bf).1==1 then
   some ((q0.1.1,[],false,()),())
  else
   (alk k q0.1.1.1 b).bind fun q2 =>
   ix q0.1.1.2 q1.1.1 <|
   ix a.2 q1.1.1 <|
   (agw k (rd a.2 q1.1.1 bf)).bind fun q3 =>
   some (((q2.1.1,upd q0.1.1.2 q1.1.1 bf),q3.1.1,true,()),())))
def F174:Fn:=⟨[aiP,.val ⟨true,GD,false⟩],[aiT,SK,rB],fun k x=>aaK k x.1 x.2.1⟩
theorem ok174:O 174 F174:=okF (ah ok185 <| ah ok234 <| ah ok253 <| ah ok259 aj) [] On Tryz.func174 rfl
def aeo (k:Nat) (a:KR) (b c e:Int):Option BZ :=
 ap a.2.2.1 ([(a.1.1,12,0,b,c,e)]:List (PN Int 6)) 48 fun r0 =>
 some ((),BI (a.1,a.2.1,r0,a.2.2.2),())
def F170a:Fn:=⟨[.fK 175 [cI,cI,.cell (.sl 54 BU),.cell (.sl 168 zk),.cell .bool,.cell .bool,.cell .bool,.cell FM,.own 3 (.int .i64),.own 4 .bool,.own 142 zn,.cell oz,.cell DR,cI,cI,cI,cI,.cell yx,.cell yx,.cell yx,cI,cI,cI,cI,.cell (.int .u32),.own 51 w9,cI,cI,cI,cI],au,au,au],[],fun k x=>aeo k (qd x.1) x.2.1 x.2.2.1 x.2.2.2.1⟩
theorem ok170a:O 170 F170a:=okF aj [] On Tryz.func170 rfl
abbrev ai0:Cut:=⟨[0,33,34,35],[.pin false 0,.own 3 (.int .i64),cI,cI],[.fK 175 [cI,cI,.cell (.sl 54 BU),.cell (.sl 168 zk),.cell .bool,.cell .bool,.cell .bool,.cell FM,.own 3 (.int .i64),.own 4 .bool,.own 142 zn,.cell oz,.cell DR,cI,cI,cI,cI,.cell yx,.cell yx,.cell yx,cI,cI,cI,cI,.cell (.int .u32),.own 51 w9,cI,cI,cI,cI]],43,[]⟩
def aep (k:Nat) (g5:(J6×agv×KU×Int×(Int×Int)×Int) -> (List Int) -> Int -> Int -> Option BZ) (a:KR) (b:List Int) (c e:Int):Option BZ :=
 (bif decide (e<c) then
  ix b e <|
  (aeo k a (rd b e 0) 0 15).bind fun q1 =>
  g5 (qd q1.2.1) b c (IntKind.i64.wrap (e+1))
 else
  some ((),BI a,()))
def anR (k:Nat) (g:((aiM×Unit)×Unit×(List Int)×Int×Int×Unit) -> Option BZ) (d:(aiM×Unit)×Unit×(List Int)×Int×Int×Unit):Option BZ:=aep k (fun a b c e=>g ((BI a,()),(),b,c,e,())) (qd d.1.1) d.2.2.1 d.2.2.2.1 d.2.2.2.2.1
def aer (k a:Nat) (b:KR) (c:List Int) (e f:Int):Option BZ:=iter ai0 (anR k) a ((BI b,()),(),c,e,f,())
theorem aes (k a b c e f):aer k (a+1) b c e f=aep k (aer k a) b c e f:=Ba _ _ _ _
def S97 (k:Nat) (a:KR):Option BZ :=
 (aaK k a.1.2.2.2.2.2.2.2.2.1 a.2.1.2.2.1).bind fun q0 =>
 (bif !q0.1.2.2.1 then
  some ((),BI (w3 a 3),())
 else
  aer k k ((w8 a.1 q0.1.1),a.2) q0.1.2.1 (q0.1.2.1.length:Int) 0)
def F97:Fn:=⟨[ali],[],fun k x=>S97 k (qd x.1)⟩
theorem ok97:O 97 F97:=okF (ah ok170a <| ah ok174 aj) [] (fun k=>(.loop 5 ai0 (anR k) (fun g=>.nil) .nil)) Tryz.func97 rfl
def S98 (k:Nat) (a:KR):Option BZ :=
 some ((),BI (w3 a 1),())
def F98:Fn:=⟨[ali],[],fun k x=>S98 k (qd x.1)⟩
theorem ok98:O 98 F98:=okF aj [] On Tryz.func98 rfl
def S41 (k:Nat) (a:SE) (b:Int×ad9×(Int×Int)×Int×Int×Int):Option SG :=
 (bif b.1==1 then
  (S89 k (a,b,([]:List (PN Int 6)),0,(0,0),0)).bind fun q0 =>
  (S99 k (qd q0.2.1).1).bind fun q1 =>
  some ((q1.1.1,(qd q0.2.1).2.2.1,(qd q0.2.1).2.2.2,()),())
 else
  (bif b.1==2 then
   (S90 k (a,b,([]:List (PN Int 6)),0,(0,0),0)).bind fun q2 =>
   (S99 k (qd q2.2.1).1).bind fun q3 =>
   some ((q3.1.1,(qd q2.2.1).2.2.1,(qd q2.2.1).2.2.2,()),())
  else
   (bif b.1==3 then
    (S90 k (a,b,([]:List (PN Int 6)),0,(0,0),0)).bind fun q4 =>
    (S99 k (qd q4.2.1).1).bind fun q5 =>
    some ((q5.1.1,(qd q4.2.1).2.2.1,(qd q4.2.1).2.2.2,()),())
   else
    (bif b.1==4 then
     (S90 k (a,b,([]:List (PN Int 6)),0,(0,0),0)).bind fun q6 =>
     (S99 k (qd q6.2.1).1).bind fun q7 =>
     some ((q7.1.1,(qd q6.2.1).2.2.1,(qd q6.2.1).2.2.2,()),())
    else
     (bif b.1==5 then
      (S91 k (a,b,([]:List (PN Int 6)),0,(0,0),0)).bind fun q8 =>
      (S99 k (qd q8.2.1).1).bind fun q9 =>
      some ((q9.1.1,(qd q8.2.1).2.2.1,(qd q8.2.1).2.2.2,()),())
     else
      (bif b.1==6 then
       (S92 k (a,b,([]:List (PN Int 6)),0,(0,0),0)).bind fun q10 =>
       (S99 k (qd q10.2.1).1).bind fun V4 =>
       some ((V4.1.1,(qd q10.2.1).2.2.1,(qd q10.2.1).2.2.2,()),())
      else
       (bif b.1==7 then
        (S93 k (a,b,([]:List (PN Int 6)),0,(0,0),0)).bind fun q12 =>
        (S99 k (qd q12.2.1).1).bind fun q13 =>
        some ((q13.1.1,(qd q12.2.1).2.2.1,(qd q12.2.1).2.2.2,()),())
       else
        (bif b.1==8 then
         (S94 k (a,b,([]:List (PN Int 6)),0,(0,0),0)).bind fun q14 =>
         (S99 k (qd q14.2.1).1).bind fun q15 =>
         some ((q15.1.1,(qd q14.2.1).2.2.1,(qd q14.2.1).2.2.2,()),())
        else
         (bif b.1==9 then
          (S95 k (a,b,([]:List (PN Int 6)),0,(0,0),0)).bind fun q16 =>
          (S99 k (qd q16.2.1).1).bind fun q17 =>
          some ((q17.1.1,(qd q16.2.1).2.2.1,(qd q16.2.1).2.2.2,()),())
         else
          (bif b.1==10 then
           (S96 k (a,b,([]:List (PN Int 6)),0,(0,0),0)).bind fun q18 =>
           (S99 k (qd q18.2.1).1).bind fun q19 =>
           some ((q19.1.1,(qd q18.2.1).2.2.1,(qd q18.2.1).2.2.2,()),())
          else
           (bif b.1==11 then
            (S97 k (a,b,([]:List (PN Int 6)),0,(0,0),0)).bind fun q20 =>
            (S99 k (qd q20.2.1).1).bind fun q21 =>
            some ((q21.1.1,(qd q20.2.1).2.2.1,(qd q20.2.1).2.2.2,()),())
           else
            (S98 k (a,b,([]:List (PN Int 6)),0,(0,0),0)).bind fun q22 =>
            (S99 k (qd q22.2.1).1).bind fun q23 =>
            some ((q23.1.1,(qd q22.2.1).2.2.1,(qd q22.2.1).2.2.2,()),()))))))))))))
def F41:Fn:=⟨[aiQ,ap7],[aee,aec,.val ⟨true,aeb,true⟩],fun k x=>S41 k x.1 x.2.1⟩
theorem ok41:O 41 F41:=okF (ah ok89 <| ah ok90 <| ah ok91 <| ah ok92 <| ah ok93 <| ah ok94 <| ah ok95 <| ah ok96 <| ah ok97 <| ah ok98 <| ah ok99 aj) [(14,2)] On Tryz.func41 rfl
def ace (k:Nat) (a:qh) (b:PN Int 6):Option l6 :=
 ap a.2 ([(a.1.1,b.2)]:List (PN Int 6)) 48 fun r0 =>
 some ((),zh (a.1,r0),())
def F146:Fn:=⟨[aoG,.val ⟨true,w9,false⟩],[],fun k x=>ace k (vg x.1) x.2.1⟩
theorem ok146:O 146 F146:=okF aj [] On Tryz.func146 rfl
def ai1 (k:Nat) (a:ny):Option VI:=qQ 16 121 GD k (a,())
def F292:Fn:=⟨dJ 121 GD,iZ 121 GD,qQ 16 121 GD⟩
theorem ok292:O 292 F292:=Kz JB mix Tryz.func292 rfl (by kernel_rfl) (by kernel_rfl) (fun k=>by kernel_rfl) (fun k xs=>by kernel_rfl) (fun k xs=>by kernel_rfl)
def ai2 (k:Nat) (a:ny) (b:Int):Option KT :=
 (bif decide (b≥0) then
  some ((decide (b<(a.length:Int)),()),())
 else
  some ((false,()),()))
def F309:Fn:=⟨[FP,au],[rB],fun k x=>ai2 k x.1 x.2.1⟩
theorem ok309:O 309 F309:=okF aj [] On Tryz.func309 rfl
def agx (k:Nat) (a:ny) (b c:Int):Option KT :=
 (ai2 k a b).bind fun q0 =>
 (bif q0.1.1 then
  (bif decide (c≥0) then
   ix a b <|
   some (((rd a b (0,0)).2==(IntKind.i64.wrap (c+1)),()),())
  else
   some ((false,()),()))
 else
  some ((false,()),()))
def F293:Fn:=⟨[FP,au,au],[rB],fun k (a,b,c,_)=>agx k a b c⟩
theorem ok293:O 293 F293:=okF (ah ok309 aj) [] On Tryz.func293 rfl
abbrev aeu:Cut:=⟨[0,1,5,10,11],[.cell SH,cI,.own 121 GD,cI,cI],[],24,[]⟩
def Y2 (k:Nat) (g3:pz -> Int -> pz -> Int -> Int -> Option VI) (a:ny) (b:Int) (c:ny) (e f:Int):Option VI :=
 (bif decide (f<e) then
  (agx k a f b).bind fun q1 =>
  (bif q1.1.1 then
   ix c f <|
   g3 a b (upd c f ((rd c f (0,0)).1,0)) e (IntKind.i64.wrap (f+1))
  else
   g3 a b c e (IntKind.i64.wrap (f+1)))
 else
  some ((c,()),()))
def ai3 (k:Nat):Xx (((Unit)×pz×Int×pz×Int×Int×Unit) -> Option VI):=eu (dw (dh (dh (dh (dh (dh dx)))))) (Y2 k)
def Y3 (k a:Nat) (b:ny) (c:Int) (e:ny) (f h:Int):Option VI:=iter aeu (ai3 k) a ((),b,c,e,f,h,())
theorem aaL (k a b c e f h):Y3 k (a+1) b c e f h=Y2 k (Y3 k a) b c e f h:=Ba _ _ _ _
def agy (k:Nat) (a:ny) (b:Int):Option VI :=
 (ai1 k a).bind fun q0 =>
 Y3 k k a b q0.1.1 (q0.1.1.length:Int) 0
def F231:Fn:=⟨[FP,au],[aed],fun k x=>agy k x.1 x.2.1⟩
theorem ok231:O 231 F231:=okF (ah ok292 <| ah ok293 aj) [] (fun k=>(.loop 3 aeu (ai3 k) (fun g=>.nil) .nil)) Tryz.func231 rfl
abbrev aev:Cut:=⟨[0,1,11,12,13],[.pin false 0,.cell SH,.own 3 (.int .i64),cI,cI],[.fK 166 [cI,cI,.own 54 BU,.own 168 zk,.cell .bool,.cell .bool,.cell .bool,.cell FM,.own 3 (.int .i64),.own 4 .bool,.own 142 zn,.own 3 (.int .i64),.own 4 .bool,.own 51 w9]],55,[]⟩
def Y4 (k:Nat) (g1:(J6×List (PN Int 6)) -> pz -> (List Int) -> Int -> Int -> Option l6) (a:qh) (b:ny) (c:List Int) (e f:Int):Option l6 :=
 (bif decide (f<e) then
  ix c f <|
  ix a.1.2.2.2.2.2.2.2.2.1.2 (rd c f 0) <|
  (bif decide (f<(b.length:Int)) then
   ix b f <|
   (bif !(fC GD (rd a.1.2.2.2.2.2.2.2.2.1.2 (rd c f 0) bf).2.2.1 (rd b f (0,0))) then
    ix b f <|
    (J5 k a.1.2.2.2.2.2.2.2.2.1 (rd c f 0) ((rd a.1.2.2.2.2.2.2.2.2.1.2 (rd c f 0) bf).1,(rd a.1.2.2.2.2.2.2.2.2.1.2 (rd c f 0) bf).2.1,rd b f (0,0),(rd a.1.2.2.2.2.2.2.2.2.1.2 (rd c f 0) bf).2.2.2)).bind fun q1 =>
    g1 ((w8 a.1 q1.1.1),a.2) b c e (IntKind.i64.wrap (f+1))
   else
    g1 a b c e (IntKind.i64.wrap (f+1)))
  else
   g1 a b c e (IntKind.i64.wrap (f+1)))
 else
  some ((),zh a,()))
def ai4 (k:Nat) (g:(CZ×Unit×pz×(List Int)×Int×Int×Unit) -> Option l6) (d:CZ×Unit×pz×(List Int)×Int×Int×Unit):Option l6:=Y4 k (fun a b c e f=>g ((zh a,()),(),b,c,e,f,())) (vg d.1.1) d.2.2.1 d.2.2.2.1 d.2.2.2.2.1 d.2.2.2.2.2.1
def MS (k a:Nat) (b:qh) (c:ny) (e:List Int) (f h:Int):Option l6:=iter aev (ai4 k) a ((zh b,()),(),c,e,f,h,())
theorem aaM (k a b c e f h):MS k (a+1) b c e f h=Y4 k (MS k a) b c e f h:=Ba _ _ _ _
def alq (k:Nat) (a:qh) (b:ny):Option l6 :=
 (aaz k a.1.2.2.2.2.2.2.2.2.1).bind fun q0 =>
 MS k k a b q0.1.1 (q0.1.1.length:Int) 0
def F61a:Fn:=⟨[aoG,FP],[],fun k x=>alq k (vg x.1) x.2.1⟩
theorem ok61a:O 61 F61a:=okF (ah ok107 <| ah ok128 aj) [] (fun k=>(.loop 1 aev (ai4 k) (fun g=>.nil) .nil)) Tryz.func61 rfl
def aoK (k:Nat) (a:(List Int)×List Bool) (b:Int):Option KT :=
 (bif decide (b≥0) then
  some ((decide (b<(mn (a.1.length:Int) (a.2.length:Int))),()),())
 else
  some ((false,()),()))
def F294:Fn:=⟨[aoH,au],[rB],fun k x=>aoK k x.1 x.2.1⟩
theorem ok294:O 294 F294:=okF aj [] On Tryz.func294 rfl
def aoL (k:Nat) (a:List Bool) (b:Bool):Option KT :=
 (aiv k a b).bind fun q0 =>
 some ((decide (q0.1.1≥0),()),())
def F295:Fn:=⟨[.val ⟨false,DR,false⟩,.val ⟨false,.bool,false⟩],[rB],fun k x=>aoL k x.1 x.2.1⟩
theorem ok295:O 295 F295:=okF (ah ok325 aj) [] On Tryz.func295 rfl
def alr (k:Nat) (a:(List Int)×List Bool) (b:Int):Option ((SI×Bool×Bool×Unit)×Unit) :=
 (ags k a).bind fun q0 =>
 (aoK k a b).bind fun q1 =>
 (bif !q1.1.1 then
  some ((q0.1.1,false,false,()),())
 else
  ix q0.1.1.1 b <|
  ix q0.1.1.1 b <|
  ix (upd q0.1.1.1 b (IntKind.i64.wrap ((rd q0.1.1.1 b 0)+1))) b <|
  (bif (rd (upd q0.1.1.1 b (IntKind.i64.wrap ((rd q0.1.1.1 b 0)+1))) b 0) != 2 then
   some (((upd q0.1.1.1 b (IntKind.i64.wrap ((rd q0.1.1.1 b 0)+1)),q0.1.1.2),false,false,()),())
  else
   ix q0.1.1.2 b <|
   (bif rd q0.1.1.2 b false then
    some (((upd q0.1.1.1 b (IntKind.i64.wrap ((rd q0.1.1.1 b 0)+1)),q0.1.1.2),false,false,()),())
   else
    ix q0.1.1.2 b <|
    (aoL k (upd q0.1.1.2 b true) false).bind fun q2 =>
    some (((upd q0.1.1.1 b (IntKind.i64.wrap ((rd q0.1.1.1 b 0)+1)),upd q0.1.1.2 b true),true,!q2.1.1,()),()))))
def F232:Fn:=⟨[aoH,au],[aqa,rB,rB],fun k x=>alr k x.1 x.2.1⟩
theorem ok232:O 232 F232:=okF (ah ok224 <| ah ok294 <| ah ok295 aj) [] On Tryz.func232 rfl
abbrev als:Cut:=⟨[0,6],[.pin false 0,.cell .bool],[.fK 166 [cI,cI,.own 54 BU,.own 168 zk,.cell .bool,.cell .bool,.cell .bool,.cell FM,.own 3 (.int .i64),.own 4 .bool,.own 142 zn,.own 3 (.int .i64),.own 4 .bool,.own 51 w9]],55,[]⟩
def SQ (k:Nat) (a:qh) (b:Bool):Option l6 :=
 (bif b then
  (ace k a (0,10,0,0,0,0)).bind fun q6 =>
  some ((),zh ((w5 (vg q6.2.1).1 true),(vg q6.2.1).2),())
 else
  some ((),zh a,()))
def alu (k:Nat) (a:qh) (b:AA):Option l6 :=
 (ace k a (0,5,b.1,0,0,0)).bind fun q0 =>
 (S48 k (vg q0.2.1).1).bind fun q1 =>
 (agy k q1.1.1 b.1).bind fun q2 =>
 (alq k (vg q0.2.1) q2.1.1).bind fun q3 =>
 (alr k (vg q3.2.1).1.2.2.2.2.2.2.2.2.2 b.1).bind fun q4 =>
 (bif q4.1.2.1 then
  (ace k ((z9 (vg q3.2.1).1 q4.1.1),(vg q3.2.1).2) (0,9,b.1,0,0,0)).bind fun q5 =>
  SQ k (vg q5.2.1) q4.1.2.2.1
 else
  SQ k ((z9 (vg q3.2.1).1 q4.1.1),(vg q3.2.1).2) q4.1.2.2.1)
def F147:Fn:=⟨[aoG,JE],[],fun k x=>alu k (vg x.1) x.2.1⟩
theorem ok147:O 147 F147:=okF (ah ok48 <| ah ok61a <| ah ok146 <| ah ok231 <| ah ok232 aj) [] (fun k=>(.join 7 als (fun d=>SQ k (vg d.1.1) d.2.2.1) .nil)) Tryz.func147 rfl
abbrev ai5:Cut:=⟨[0,2,9,10,11],[.pin false 0,.own 59 KQ,.cell FM,cI,cI],[.fK 166 [cI,cI,.own 54 BU,.own 168 zk,.cell .bool,.cell .bool,.cell .bool,.cell FM,.own 3 (.int .i64),.own 4 .bool,.own 142 zn,.own 3 (.int .i64),.own 4 .bool,.own 51 w9]],57,[]⟩
def aew (k:Nat) (g2:(J6×List (PN Int 6)) -> (List BJ) -> (List BJ) -> Int -> Int -> Option l6) (a:qh) (b c:List BJ) (e f:Int):Option l6 :=
 (bif decide (f<e) then
  ix c f <|
  ix a.1.2.2.1 (rd c f ay).1 <|
  (bif (IntKind.i64.wrap (a.1.1 - (rd c f ay).2.1)) != (rd a.1.2.2.1 (rd c f ay).1 bg).2.2.1 then
   ap b ([rd c f ay]:List BJ) 272 fun r0 =>
   g2 a r0 c e (IntKind.i64.wrap (f+1))
  else
   (bif (rd c f ay).2.2.2.1==2 then
    (ace k a (0,13,(rd c f ay).1,0,0,0)).bind fun q1 =>
    g2 (vg q1.2.1) b c e (IntKind.i64.wrap (f+1))
   else
    (alu k a (rd c f ay)).bind fun q2 =>
    g2 (vg q2.2.1) b c e (IntKind.i64.wrap (f+1))))
 else
  some ((),zh ((w7 a.1 b),a.2),()))
def anT (k:Nat) (g:(CZ×Unit×(List BJ)×(List BJ)×Int×Int×Unit) -> Option l6) (d:CZ×Unit×(List BJ)×(List BJ)×Int×Int×Unit):Option l6:=aew k (fun a b c e f=>g ((zh a,()),(),b,c,e,f,())) (vg d.1.1) d.2.2.1 d.2.2.2.1 d.2.2.2.2.1 d.2.2.2.2.2.1
def aex (k a:Nat) (b:qh) (c e:List BJ) (f h:Int):Option l6:=iter ai5 (anT k) a ((zh b,()),(),c,e,f,h,())
theorem aey (k a b c e f h):aex k (a+1) b c e f h=aew k (aex k a) b c e f h:=Ba _ _ _ _
def S78 (k:Nat) (a:qh):Option l6 :=
 aex k k a ([]:List BJ) a.1.2.2.2.2.2.2.2.1 (a.1.2.2.2.2.2.2.2.1.length:Int) 0
def F78:Fn:=⟨[XY],[],fun k x=>S78 k (vg x.1)⟩
theorem ok78:O 78 F78:=okF (ah ok146 <| ah ok147 aj) [(2,2)] (fun k=>(.loop 2 ai5 (anT k) (fun g=>.nil) .nil)) Tryz.func78 rfl
abbrev ai6:Cut:=⟨[0,9,10],[.pin false 0,cI,cI],[.fK 166 [cI,cI,.own 54 BU,.own 168 zk,.cell .bool,.cell .bool,.cell .bool,.own 59 KQ,.own 3 (.int .i64),.own 4 .bool,.own 142 zn,.own 3 (.int .i64),.own 4 .bool,.own 51 w9]],48,[(8,3)]⟩
def aez (k:Nat) (g1:(J6×List (PN Int 6)) -> Int -> Int -> Option l6) (a:qh) (b c:Int):Option l6 :=
 (bif decide (c<b) then
  ix a.1.2.2.2.2.2.2.2.1 c <|
  (bif (rd a.1.2.2.2.2.2.2.2.1 c ay).2.2.2.1 != 2 then
   ix a.1.2.2.2.1 (rd a.1.2.2.2.2.2.2.2.1 c ay).1 <|
   (bif decide ((IntKind.i64.wrap (a.1.1 - (rd a.1.2.2.2.2.2.2.2.1 c ay).2.1))≥(rd a.1.2.2.2.1 (rd a.1.2.2.2.2.2.2.2.1 c ay).1 (Qn (α:=Int) 5 0)).2.2.2.2) then
    ix a.1.2.2.2.2.2.2.2.1 c <|
    let r0:List BJ:=upd a.1.2.2.2.2.2.2.2.1 c (z7 (rd a.1.2.2.2.2.2.2.2.1 c ay) true)
    g1 ((w7 a.1 r0),a.2) b (IntKind.i64.wrap (c+1))
   else
    g1 a b (IntKind.i64.wrap (c+1)))
  else
   g1 a b (IntKind.i64.wrap (c+1)))
 else
  some ((),zh a,()))
def anU (k:Nat) (g:(CZ×Unit×Int×Int×Unit) -> Option l6) (d:CZ×Unit×Int×Int×Unit):Option l6:=aez k (fun a b c=>g ((zh a,()),(),b,c,())) (vg d.1.1) d.2.2.1 d.2.2.2.1
def aeA (k a:Nat) (b:qh) (c e:Int):Option l6:=iter ai6 (anU k) a ((zh b,()),(),c,e,())
theorem aeB (k a b c e):aeA k (a+1) b c e=aez k (aeA k a) b c e:=Ba _ _ _ _
def S79 (k:Nat) (a:qh):Option l6 :=
 aeA k k a (a.1.2.2.2.2.2.2.2.1.length:Int) 0
def F79:Fn:=⟨[XY],[],fun k x=>S79 k (vg x.1)⟩
theorem ok79:O 79 F79:=okF aj [] (fun k=>(.loop 1 ai6 (anU k) (fun g=>.nil) .nil)) Tryz.func79 rfl
abbrev alv:Cut:=⟨[1,2,3,4,5,6,7,11,12,13],[.box 38 [.cell oz,.cell DR,.cell (.sl 142 zn)],.box 38 [.own 3 (.int .i64),.own 4 .bool,.own 142 zn],.own 3 (.int .i64),.own 32 oz,cI,.box 142 [cI,cI,cI,cI,cI,.cell (.sl 2 (.int .i64)),.cell oz,.cell (.int .u32),.cell (.sl 266 FJ),.cell (.int .u32)],.box 142 [cI,cI,cI,cI,cI,.own 2 (.int .i64),.own 3 (.int .i64),.cell (.int .u32),.own 266 FJ,.cell (.int .u32)],.cell (.sl 142 zn),cI,cI],[],61,[]⟩
def SS (k:Nat) (g3:aiO) (a:List Int) (b:List Bool) (c:List CX) (e:List Int) (f:List Bool) (h:List CX) (i:List Int) (l:List (List Int)) (m x n o p s:Int) (t u:List Int) (v:Int) (w:ny) (y z A B C D:Int) (G H:List Int) (I:Int) (J:ny) (K:Int) (M:List CX) (N O:Int):Option VE :=
 (ab3 k (z,(A,B),(C,D),(G,H),(I,J),K)).bind fun q4 =>
 ix h m <|
 ap i ([m]:List Int) 8 fun r5 =>
 (agw k (x,(n,o),(p,s),(t,u),(v,w),y)).bind fun q6 =>
 ap l ([q6.1.1]:List (List Int)) 24 fun r7 =>
 g3 a b c e f (upd h m q4.1.1) r5 r7 M N (IntKind.i64.wrap (O+1))
abbrev aeC:Cut:=⟨[1,2,3,4,11,12,13],[.box 38 [.cell oz,.cell DR,.cell (.sl 142 zn)],.box 38 [.own 3 (.int .i64),.own 4 .bool,.own 142 zn],.own 3 (.int .i64),.own 32 oz,.cell (.sl 142 zn),cI,cI],[],61,[]⟩
def Y5 (k:Nat) (g3:aiO) (a:List Int) (b:List Bool) (c:List CX) (e:List Int) (f:List Bool) (h:List CX) (i:List Int) (l:List (List Int)) (m:List CX) (n o:Int):Option VE :=
 (bif decide (o<n) then
  ix m o <|
  (ab1 k ((a,b),c) o).bind fun q1 =>
  (bif !q1.1.1 then
   g3 a b c e f h i l m n (IntKind.i64.wrap (o+1))
  else
   (ab2 k (rd m o bf)).bind fun q2 =>
   (bif (rd m o bf).2.2.2.2.2==q2.1.1 then
    g3 a b c e f h i l m n (IntKind.i64.wrap (o+1))
   else
    (agt k (rd m o bf).1 (rd m o bf).2.1).bind fun q3 =>
    (bif (rd m o bf).1==1 then
     SS k g3 a b c e f h i l o (rd m o bf).1 (rd m o bf).2.1.1 (rd m o bf).2.1.2 (rd m o bf).2.2.1.1 (rd m o bf).2.2.1.2 (rd m o bf).2.2.2.1.1 (rd m o bf).2.2.2.1.2 (rd m o bf).2.2.2.2.1.1 (rd m o bf).2.2.2.2.1.2 (rd m o bf).2.2.2.2.2 q3.1.1.1 q3.1.1.2.1.1 q3.1.1.2.1.2 (rd m o bf).2.2.1.1 q3.1.1.2.2.1.2 q3.1.1.2.2.2.1.1 q3.1.1.2.2.2.1.2 q3.1.1.2.2.2.2.1.1 q3.1.1.2.2.2.2.1.2 q3.1.1.2.2.2.2.2 m n o
    else
     SS k g3 a b c e f h i l o (rd m o bf).1 (rd m o bf).2.1.1 (rd m o bf).2.1.2 (rd m o bf).2.2.1.1 (rd m o bf).2.2.1.2 (rd m o bf).2.2.2.1.1 (rd m o bf).2.2.2.1.2 (rd m o bf).2.2.2.2.1.1 (rd m o bf).2.2.2.2.1.2 (rd m o bf).2.2.2.2.2 q3.1.1.1 q3.1.1.2.1.1 q3.1.1.2.1.2 q3.1.1.2.2.1.1 q3.1.1.2.2.1.2 q3.1.1.2.2.2.1.1 q3.1.1.2.2.2.1.2 q3.1.1.2.2.2.2.1.1 q3.1.1.2.2.2.2.1.2 q3.1.1.2.2.2.2.2 m n o)))
 else
  some ((((e,f),h),i,l,()),()))
def ai7 (k:Nat):Xx (((Unit)×anN×anN×(List Int)×C8×(List CX)×Int×Int×Unit) -> Option VE):=eu (dw (d9 (dh (dh (dh dx))) (d9 (dh (dh (dh dx))) (dh (dh (dh (dh (dh dx)))))))) (Y5 k)
def SV (k a:Nat) (b:List Int) (c:List Bool) (e:List CX) (f:List Int) (h:List Bool) (i:List CX) (l:List Int) (m:List (List Int)) (n:List CX) (o p:Int):Option VE:=iter aeC (ai7 k) a ((),(b,c,e,()),(f,h,i,()),l,m,n,o,p,())
theorem aaN (k a b c e f h i l m n o p):SV k (a+1) b c e f h i l m n o p=Y5 k (SV k a) b c e f h i l m n o p:=Ba _ _ _ _
def alx (k:Nat) (a:SI×List CX):Option VE :=
 (V8 k a).bind fun q0 =>
 SV k k a.1.1 a.1.2 a.2 q0.1.1.1.1 q0.1.1.1.2 q0.1.1.2 ([]:List Int) ([]:List (List Int)) a.2 (a.2.length:Int) 0
def F148:Fn:=⟨[aiP],[aiT,SK,.val ⟨false,(.sl 32 oz),true⟩],fun k x=>alx k x.1⟩
theorem ok148:O 148 F148:=okF (ah ok185 <| ah ok186 <| ah ok221 <| ah ok223 <| ah ok233 <| ah ok234 aj) [(3,2),(4,2)] (fun k=>(.loop 3 aeC (ai7 k) (fun g=>(fun (g3:aiO)=>(.join 9 alv (fun (_,(a,b,c,_),(e,f,h,_),i,l,m,(n,o,p,s,t,u,v,w,y,z,_),(A,B,C,D,G,H,I,J,K,M,_),N,O,P,_)=>SS k g3 a b c e f h i l m n o p s t u v w y z A B C D G H I J K M N O P) .nil)) (fun t1 t2 t3 out abZ aoM places who t11 t12 t13=>g ((),(t1,t2,t3,()),(out,abZ,aoM,()),places,who,t11,t12,t13,()))) .nil)) Tryz.func148 rfl
def JF (k:Nat) (a:qh) (b:PN Int 6):Option l6 :=
 ap a.2 ([(a.1.1,b.2)]:List (PN Int 6)) 48 fun r0 =>
 some ((),zh (a.1,r0),())
def F146a:Fn:=⟨[XY,.val ⟨true,w9,false⟩],[],fun k x=>JF k (vg x.1) x.2.1⟩
theorem ok146a:O 146 F146a:=okF aj [] On Tryz.func146 rfl
abbrev aeD:Cut:=⟨[0,4,9,27,28,29,67,68],[.pin false 0,.own 32 oz,cI,.own 3 (.int .i64),cI,cI,cI,cI],[.fK 166 [cI,cI,.own 54 BU,.own 168 zk,.cell .bool,.cell .bool,.cell .bool,.own 59 KQ,.own 3 (.int .i64),.own 4 .bool,.own 142 zn,.own 3 (.int .i64),.own 4 .bool,.own 51 w9]],85,[(66,3)]⟩
def Y6 (k:Nat) (g3:OO) (g14:(J6×List (PN Int 6)) -> C8 -> Int -> (List Int) -> Int -> Int -> Int -> Int -> Option l6) (a:qh) (b:List (List Int)) (c:Int) (e:List Int) (f h i l:Int):Option l6 :=
 (bif decide (l<i) then
  ix a.1.2.2.2.2.2.2.2.1 l <|
  (agr k (rd a.1.2.2.2.2.2.2.2.1 l ay) c).bind fun q5 =>
  ix a.1.2.2.2.2.2.2.2.1 l <|
  g14 ((w7 a.1 (upd a.1.2.2.2.2.2.2.2.1 l q5.1.1)),a.2) b c e f h i (IntKind.i64.wrap (l+1))
 else
  g3 a b e f (IntKind.i64.wrap (h+1)))
def ai8 (k:Nat) (g3:OO) (g:(CZ×Unit×C8×Int×(List Int)×Int×Int×Int×Int×Unit) -> Option l6) (d:CZ×Unit×C8×Int×(List Int)×Int×Int×Int×Int×Unit):Option l6:=Y6 k g3 (fun a b c e f h i l=>g ((zh a,()),(),b,c,e,f,h,i,l,())) (vg d.1.1) d.2.2.1 d.2.2.2.1 d.2.2.2.2.1 d.2.2.2.2.2.1 d.2.2.2.2.2.2.1 d.2.2.2.2.2.2.2.1 d.2.2.2.2.2.2.2.2.1
def Y7 (k:Nat) (g3:OO) (a:Nat) (b:qh) (c:List (List Int)) (e:Int) (f:List Int) (h i l m:Int):Option l6:=iter aeD (ai8 k g3) a ((zh b,()),(),c,e,f,h,i,l,m,())
theorem aaO (k g3 a b c e f h i l m):Y7 k g3 (a+1) b c e f h i l m=Y6 k g3 (Y7 k g3 a) b c e f h i l m:=Ba _ _ _ _
abbrev ai9:Cut:=⟨[0,4,6,27,28,29,41,42,43],[.pin false 0,.own 32 oz,cI,.own 3 (.int .i64),cI,cI,.cell oz,cI,cI],[.fK 166 [cI,cI,.own 54 BU,.own 168 zk,.cell .bool,.cell .bool,.cell .bool,.own 59 KQ,.own 3 (.int .i64),.own 4 .bool,.own 142 zn,.own 3 (.int .i64),.own 4 .bool,.own 51 w9]],85,[]⟩
def aeE (k:Nat) (g3:OO) (g7:(J6×List (PN Int 6)) -> C8 -> Int -> (List Int) -> Int -> Int -> (List Int) -> Int -> Int -> Option l6) (a:qh) (b:List (List Int)) (c:Int) (e:List Int) (f h:Int) (i:List Int) (l m:Int):Option l6 :=
 (bif decide (m<l) then
  ix i m <|
  (JF k a (0,12,0,rd i m 0,0,15)).bind fun q2 =>
  g7 (vg q2.2.1) b c e f h i l (IntKind.i64.wrap (m+1))
 else
  (aaz k a.1.2.2.2.2.2.2.2.2.1).bind fun q3 =>
  (ab9 k q3.1.1 c).bind fun q4 =>
  (bif decide (q4.1.1≥0) then
   Y7 k g3 k a b q4.1.1 e f h (a.1.2.2.2.2.2.2.2.1.length:Int) 0
  else
   g3 a b e f (IntKind.i64.wrap (h+1))))
def anV (k:Nat) (g3:OO) (g:(CZ×Unit×C8×Int×(List Int)×Int×Int×(List Int)×Int×Int×Unit) -> Option l6) (d:CZ×Unit×C8×Int×(List Int)×Int×Int×(List Int)×Int×Int×Unit):Option l6:=aeE k g3 (fun a b c e f h i l m=>g ((zh a,()),(),b,c,e,f,h,i,l,m,())) (vg d.1.1) d.2.2.1 d.2.2.2.1 d.2.2.2.2.1 d.2.2.2.2.2.1 d.2.2.2.2.2.2.1 d.2.2.2.2.2.2.2.1 d.2.2.2.2.2.2.2.2.1 d.2.2.2.2.2.2.2.2.2.1
def aeF (k:Nat) (g3:OO) (a:Nat) (b:qh) (c:List (List Int)) (e:Int) (f:List Int) (h i:Int) (l:List Int) (m n:Int):Option l6:=iter ai9 (anV k g3) a ((zh b,()),(),c,e,f,h,i,l,m,n,())
theorem aeG (k g3 a b c e f h i l m n):aeF k g3 (a+1) b c e f h i l m n=aeE k g3 (aeF k g3 a) b c e f h i l m n:=Ba _ _ _ _
abbrev aja:Cut:=⟨[0,4,27,28,29],[.pin false 0,.own 32 oz,.own 3 (.int .i64),cI,cI],[.fK 166 [cI,cI,.own 54 BU,.own 168 zk,.cell .bool,.cell .bool,.cell .bool,.own 59 KQ,.own 3 (.int .i64),.own 4 .bool,.own 142 zn,.own 3 (.int .i64),.own 4 .bool,.own 51 w9]],85,[]⟩
def aeH (k:Nat) (g3:OO) (a:qh) (b:List (List Int)) (c:List Int) (e f:Int):Option l6 :=
 (bif decide (f<e) then
  ix c f <|
  (JF k a (0,11,0,rd c f 0,0,0)).bind fun q1 =>
  ix b f <|
  aeF k g3 k (vg q1.2.1) b (rd c f 0) c e f (rd b f []) ((rd b f []).length:Int) 0
 else
  some ((),zh a,()))
def anW (k:Nat) (g:(CZ×Unit×C8×(List Int)×Int×Int×Unit) -> Option l6) (d:CZ×Unit×C8×(List Int)×Int×Int×Unit):Option l6:=aeH k (fun a b c e f=>g ((zh a,()),(),b,c,e,f,())) (vg d.1.1) d.2.2.1 d.2.2.2.1 d.2.2.2.2.1 d.2.2.2.2.2.1
def aaP (k a:Nat) (b:qh) (c:List (List Int)) (e:List Int) (f h:Int):Option l6:=iter aja (anW k) a ((zh b,()),(),c,e,f,h,())
theorem aeI (k a b c e f h):aaP k (a+1) b c e f h=aeH k (aaP k a) b c e f h:=Ba _ _ _ _
def S80 (k:Nat) (a:qh):Option l6 :=
 (alx k a.1.2.2.2.2.2.2.2.2.1).bind fun q0 =>
 aaP k k ((w8 a.1 q0.1.1),a.2) q0.1.2.2.1 q0.1.2.1 (q0.1.2.1.length:Int) 0
def F80:Fn:=⟨[XY],[],fun k x=>S80 k (vg x.1)⟩
theorem ok80:O 80 F80:=okF (ah ok107 <| ah ok127 <| ah ok146a <| ah ok148 <| ah ok149 aj) [] (fun k=>(.loop 3 aja (anW k) (fun g=>(fun (g3:OO)=>(.loop 14 aeD (ai8 k g3) (fun g=>.nil) (.loop 7 ai9 (anV k g3) (fun g=>.nil) .nil))) (fun t1 who t27 t28 t29=>g ((zh t1,()),(),who,t27,t28,t29,()))) .nil)) Tryz.func80 rfl
abbrev aeJ:Cut:=⟨[0,2,6,7,8,12,13,14],[.cell SH,cI,cI,.cell .bool,.mp 423 true (.int .i64) false .bool,.cell oz,cI,cI],[],51,[]⟩
def Y8 (k:Nat) (g3:pz -> Int -> Int -> Bool -> (List (Int×Bool)) -> (List Int) -> Int -> Int -> Option yu) (a:ny) (b c:Int) (e:Bool) (f:List (Int×Bool)) (h:List Int) (i l:Int):Option yu :=
 (bif decide (l<i) then
  ix h l <|
  (agx k a (rd h l 0) b).bind fun q0 =>
  (bif !q0.1.1 then
   g3 a b c e f h i (IntKind.i64.wrap (l+1))
  else
   (bif Us (.int .i64) .bool (rd h l 0) f false then
    g3 a b c e f h i (IntKind.i64.wrap (l+1))
   else
    (bif !e then
     ix a (rd h l 0) <|
     g3 a b (rd a (rd h l 0) (0,0)).1 true (vL (.int .i64) .bool (rd h l 0) true f) h i (IntKind.i64.wrap (l+1))
    else
     ix a (rd h l 0) <|
     (bif decide ((rd a (rd h l 0) (0,0)).1<c) then
      ix a (rd h l 0) <|
      g3 a b (rd a (rd h l 0) (0,0)).1 true (vL (.int .i64) .bool (rd h l 0) true f) h i (IntKind.i64.wrap (l+1))
     else
      g3 a b c e (vL (.int .i64) .bool (rd h l 0) true f) h i (IntKind.i64.wrap (l+1))))))
 else
  some ((c,e,()),()))
def ajb (k:Nat):Xx (((Unit)×pz×Int×Int×Bool×(List (Int×Bool))×(List Int)×Int×Int×Unit) -> Option yu):=eu (dw (dh (dh (dh (dh (dh (dh (dh (dh dx))))))))) (Y8 k)
def Y9 (k a:Nat) (b:ny) (c e:Int) (f:Bool) (h:List (Int×Bool)) (i:List Int) (l m:Int):Option yu:=iter aeJ (ajb k) a ((),b,c,e,f,h,i,l,m,())
theorem aaQ (k a b c e f h i l m):Y9 k (a+1) b c e f h i l m=Y8 k (Y9 k a) b c e f h i l m:=Ba _ _ _ _
def ajc (k:Nat) (a:ny) (b:List Int) (c:Int):Option yu :=
 Y9 k k a c 0 false ([]:List (Int×Bool)) b (b.length:Int) 0
def F300:Fn:=⟨[FP,.val ⟨false,oz,false⟩,au],[rI,rB],fun k (a,b,c,_)=>ajc k a b c⟩
theorem ok300:O 300 F300:=okF (ah ok293 aj) [] (fun k=>(.loop 3 aeJ (ajb k) (fun g=>.nil) .nil)) Tryz.func300 rfl
def ajd (k:Nat) (a:AA) (b:Int):Option uq :=
 (bif a.2.2.2.1==2 then
  some ((IntKind.i64.wrap ((IntKind.i64.wrap (b+b))+a.1),()),())
 else
  (bif a.2.2.2.2.2.2.2 then
   some ((a.1,()),())
  else
   some ((IntKind.i64.wrap (b+a.1),()),())))
def F340:Fn:=⟨[JE,au],[rI],fun k x=>ajd k x.1 x.2.1⟩
theorem ok340:O 340 F340:=okF aj [] On Tryz.func340 rfl
def aoN (k:Nat) (a:AA) (b:Int) (c:ny):Option uq :=
 (ajc k c a.2.2.2.2.2.2.1 a.1).bind fun q0 =>
 (bif q0.1.2.1 then
  (ajd k a b).bind fun q1 =>
  some ((mn q1.1.1 q0.1.1,()),())
 else
  (ajd k a b).bind fun q2 =>
  some ((q2.1.1,()),()))
def F299:Fn:=⟨[JE,au,FP],[rI],fun k (a,b,c,_)=>aoN k a b c⟩
theorem ok299:O 299 F299:=okF (ah ok300 <| ah ok340 aj) [] On Tryz.func299 rfl
def aly (k:Nat) (a:AA) (b:Int) (c:ny):Option ((BX×Unit)×Unit) :=
 (aoN k a b c).bind fun q0 =>
 (ajc k c a.2.2.2.2.2.2.1 a.1).bind fun q1 =>
 (bif q1.1.2.1 then
  some (((q0.1.1,0,a.1),()),())
 else
  some (((q0.1.1,1,a.1),()),()))
def F235:Fn:=⟨[JE,au,FP],[.val ⟨true,yw,true⟩],fun k (a,b,c,_)=>aly k a b c⟩
theorem ok235:O 235 F235:=okF (ah ok299 <| ah ok300 aj) [] On Tryz.func235 rfl
def alz (k:Nat) (x:Int):Option KT :=
 some ((x != x,()),())
def F342:Fn:=⟨[au],[rB],fun k x=>alz k x.1⟩
theorem ok342:O 342 F342:=okF aj [] On Tryz.func342 rfl
def agz (k:Nat) (x a:Int):Option uq :=
 (alz k x).bind fun q0 =>
 (alz k a).bind fun q1 =>
 (bif q0.1.1 then
  (bif q1.1.1 then
   some ((0,()),())
  else
   some (((-1),()),()))
 else
  (bif q1.1.1 then
   some ((1,()),())
  else
   (bif decide (x<a) then
    some (((-1),()),())
   else
    (bif decide (x>a) then
     some ((1,()),())
    else
     some ((0,()),())))))
def F304:Fn:=⟨[au,au],[rI],fun k x=>agz k x.1 x.2.1⟩
theorem ok304:O 304 F304:=okF (ah ok342 aj) [] On Tryz.func304 rfl
abbrev aeK:Cut:=⟨[3,6,7,8],[cI,.cell oz,cI,cI],[],18,[]⟩
def MU (k:Nat) (g3:Int -> (List Int) -> Int -> Int -> Option uq) (a:Int) (b:List Int) (c e:Int):Option uq :=
 (bif decide (e<c) then
  ix b e <|
  (bif (rd b e 0) != a then
   some ((rd b e 0,()),())
  else
   g3 a b c (IntKind.i64.wrap (e+1)))
 else
  some ((a,()),()))
def aje (k:Nat):Xx (((Unit)×Int×(List Int)×Int×Int×Unit) -> Option uq):=eu (dw (dh (dh (dh (dh dx))))) (MU k)
def acf (k a:Nat) (b:Int) (c:List Int) (e f:Int):Option uq:=iter aeK (aje k) a ((),b,c,e,f,())
theorem KX (k a b c e f):acf k (a+1) b c e f=MU k (acf k a) b c e f:=Ba _ _ _ _
def aoO (k:Nat) (a:List Int):Option uq :=
 acf k k 0 a (a.length:Int) 0
def F303:Fn:=⟨[.val ⟨false,oz,false⟩],[rI],fun k x=>aoO k x.1⟩
theorem ok303:O 303 F303:=okF aj [] (fun k=>(.loop 3 aeK (aje k) (fun g=>.nil) .nil)) Tryz.func303 rfl
def agA (k:Nat) (a b:Int×Int×Int):Option uq :=
 (agz k a.1 b.1).bind fun q0 =>
 (agz k a.2.1 b.2.1).bind fun q1 =>
 (agz k a.2.2 b.2.2).bind fun q2 =>
 (aoO k ([q0.1.1,q1.1.1,q2.1.1]:List Int)).bind fun q3 =>
 some ((q3.1.1,()),())
def F237:Fn:=⟨[.val ⟨true,yw,false⟩,.val ⟨true,yw,false⟩],[rI],fun k x=>agA k x.1 x.2.1⟩
theorem ok237:O 237 F237:=okF (ah ok303 <| ah ok304 aj) [] On Tryz.func237 rfl
def aqd (k:Nat) (a:Int):Option uq :=
 (bif decide (a<0) then
  some ((0,()),())
 else
  (bif decide (a≥64) then
   some ((0,()),())
  else
   Uj a <|
   some ((Uk .u64 1 a,()),())))
def F341:Fn:=⟨[au],[.val ⟨false,(.int .u64),true⟩],fun k x=>aqd k x.1⟩
theorem ok341:O 341 F341:=okF aj [] On Tryz.func341 rfl
def ajf (k:Nat) (a b:Int):Option uq :=
 (aqd k b).bind fun q0 =>
 some ((Uz .u64 a q0.1.1,()),())
def F301:Fn:=⟨[.val ⟨false,(.int .u64),false⟩,au],[.val ⟨false,(.int .u64),true⟩],fun k x=>ajf k x.1 x.2.1⟩
theorem ok301:O 301 F301:=okF (ah ok341 aj) [] On Tryz.func301 rfl
abbrev aeL:Cut:=⟨[0,2,4],[.cell (.int .u64),cI,cI],[],23,[]⟩
def aoP (k:Nat) (g4:Int -> Int -> Int -> Option yu) (a b c:Int):Option yu :=
 (bif decide (c>0) then
  Uj (IntKind.i64.wrap (64 - c)) <|
  (bif (Uk .u64 a (IntKind.i64.wrap (64 - c)))==0 then
   Uj c <|
   g4 (Ul .u64 a c) (IntKind.i64.wrap (b+c)) (IntKind.i64.wrap (Int.tdiv c 2))
  else
   g4 a b (IntKind.i64.wrap (Int.tdiv c 2)))
 else
  some ((b,true,()),()))
def ajg (k:Nat):Xx (((Unit)×Int×Int×Int×Unit) -> Option yu):=eu (dw (dh (dh (dh dx)))) (aoP k)
def aoQ (k a:Nat) (b c e:Int):Option yu:=iter aeL (ajg k) a ((),b,c,e,())
def aoR (k:Nat) (a:Int):Option yu :=
 (bif a==0 then
  some ((0,false,()),())
 else
  aoQ k k a 0 32)
def F302:Fn:=⟨[.val ⟨false,(.int .u64),false⟩],[rI,rB],fun k x=>aoR k x.1⟩
theorem ok302:O 302 F302:=okF aj [] (fun k=>(.loop 4 aeL (ajg k) (fun g=>.nil) .nil)) Tryz.func302 rfl
abbrev aeM:Cut:=⟨[3,4,13,14,15],[.box 336 [cI,cI,cI],.cell (.int .u64),.cell (.sl 336 yw),cI,cI],[],42,[]⟩
def SX (k:Nat) (g3:Int -> Int -> Int -> Int -> FN -> Int -> Int -> Option uq) (a b c e:Int) (f:List BX) (h i:Int):Option uq :=
 (bif decide (i<h) then
  ix f i <|
  (agA k (rd f i (0,0,0)) (a,b,c)).bind fun q0 =>
  (bif decide (q0.1.1<0) then
   (ajf k 0 i).bind fun q1 =>
   g3 (rd f i (0,0,0)).1 (rd f i (0,0,0)).2.1 (rd f i (0,0,0)).2.2 q1.1.1 f h (IntKind.i64.wrap (i+1))
  else
   (bif q0.1.1==0 then
    (ajf k e i).bind fun q2 =>
    g3 a b c q2.1.1 f h (IntKind.i64.wrap (i+1))
   else
    g3 a b c e f h (IntKind.i64.wrap (i+1))))
 else
  (aoR k e).bind fun q3 =>
  some ((q3.1.1,()),()))
def ajh (k:Nat):Xx (((Unit)×(Int×Int×Int×Unit)×Int×FN×Int×Int×Unit) -> Option uq):=eu (dw (d9 (dh (dh (dh dx))) (dh (dh (dh (dh dx)))))) (SX k)
def MV (k a:Nat) (b c e f:Int) (h:List BX) (i l:Int):Option uq:=iter aeM (ajh k) a ((),(b,c,e,()),f,h,i,l,())
theorem SY (k a b c e f h i l):MV k (a+1) b c e f h i l=SX k (MV k a) b c e f h i l:=Ba _ _ _ _
def alA (k:Nat) (a:List BX):Option uq :=
 ix a 0 <|
 MV k k (rd a 0 (0,0,0)).1 (rd a 0 (0,0,0)).2.1 (rd a 0 (0,0,0)).2.2 0 a (a.length:Int) 0
def F236:Fn:=⟨[.val ⟨false,(.sl 336 yw),false⟩],[rI],fun k x=>alA k x.1⟩
theorem ok236:O 236 F236:=okF (ah ok237 <| ah ok301 <| ah ok302 aj) [] (fun k=>(.loop 3 aeM (ajh k) (fun g=>.nil) .nil)) Tryz.func236 rfl
abbrev aeN:Cut:=⟨[6,7,8,11],[cI,.cell .bool,.own 336 yw,cI],[],63,[]⟩
def TA (k:Nat) (g8:Int -> Bool -> FN -> Int -> Option yu) (a:Int) (b:Bool) (c:List BX) (e:Int):Option yu :=
 (bif decide (e<(c.length:Int)) then
  sx c e (mn (IntKind.i64.wrap (e+64)) (c.length:Int)) <|
  (alA k (sub c e (mn (IntKind.i64.wrap (e+64)) (c.length:Int)))).bind fun q2 =>
  (bif !b then
   g8 (IntKind.i64.wrap (e+q2.1.1)) true c (IntKind.i64.wrap (e+64))
  else
   ix c (IntKind.i64.wrap (e+q2.1.1)) <|
   ix c a <|
   (agA k (rd c (IntKind.i64.wrap (e+q2.1.1)) (0,0,0)) (rd c a (0,0,0))).bind fun q3 =>
   (bif decide (q3.1.1<0) then
    g8 (IntKind.i64.wrap (e+q2.1.1)) true c (IntKind.i64.wrap (e+64))
   else
    g8 a b c (IntKind.i64.wrap (e+64))))
 else
  some ((a,b,()),()))
def aji (k:Nat):Xx (((Unit)×Int×Bool×FN×Int×Unit) -> Option yu):=eu (dw (dh (dh (dh (dh dx))))) (TA k)
def MW (k a:Nat) (b:Int) (c:Bool) (e:List BX) (f:Int):Option yu:=iter aeN (aji k) a ((),b,c,e,f,())
theorem TB (k a b c e f):MW k (a+1) b c e f=TA k (MW k a) b c e f:=Ba _ _ _ _
abbrev aeO:Cut:=⟨[1,2,6,7,8,14,15,16],[cI,.cell SH,cI,.cell .bool,.own 336 yw,.cell FM,cI,cI],[],63,[]⟩
def Ya (k:Nat) (g3:Int -> pz -> Int -> Bool -> FN -> (List BJ) -> Int -> Int -> Option yu) (a:Int) (b:ny) (c:Int) (e:Bool) (f:List BX) (h:List BJ) (i l:Int):Option yu :=
 (bif decide (l<i) then
  ix h l <|
  (aly k (rd h l ay) a b).bind fun q0 =>
  ap f ([q0.1.1]:List BX) 24 fun r1 =>
  g3 a b c e r1 h i (IntKind.i64.wrap (l+1))
 else
  MW k k c e f 0)
def ajj (k:Nat):Xx (((Unit)×Int×pz×Int×Bool×FN×(List BJ)×Int×Int×Unit) -> Option yu):=eu (dw (dh (dh (dh (dh (dh (dh (dh (dh dx))))))))) (Ya k)
def Yb (k a:Nat) (b:Int) (c:ny) (e:Int) (f:Bool) (h:List BX) (i:List BJ) (l m:Int):Option yu:=iter aeO (ajj k) a ((),b,c,e,f,h,i,l,m,())
theorem aaR (k a b c e f h i l m):Yb k (a+1) b c e f h i l m=Ya k (Yb k a) b c e f h i l m:=Ba _ _ _ _
def alC (k:Nat) (a:List BJ) (b:Int) (c:ny):Option yu :=
 Yb k k b c 0 false ([]:List BX) a (a.length:Int) 0
def F150:Fn:=⟨[.val ⟨false,FM,false⟩,au,FP],[rI,rB],fun k (a,b,c,_)=>alC k a b c⟩
theorem ok150:O 150 F150:=okF (ah ok235 <| ah ok236 <| ah ok237 aj) [(8,2)] (fun k=>(.loop 8 aeN (aji k) (fun g=>.nil) (.loop 3 aeO (ajj k) (fun g=>.nil) .nil))) Tryz.func150 rfl
def aaS (k:Nat) (a:Int×(PN Int 8)×FN×Bool):Option SF :=
 (ab0 k a.2.2.1).bind fun q0 =>
 some (((a.1,a.2.1,q0.1.1,a.2.2.2),()),())
def F307:Fn:=⟨[aiR],[aef],fun k x=>aaS k x.1⟩
theorem ok307:O 307 F307:=okF (ah ok217 aj) [] On Tryz.func307 rfl
def agB (k:Nat) (a:AA):Option ((BJ×Unit)×Unit) :=
 (aaS k a.2.2.2.2.1).bind fun q0 =>
 (aaS k a.2.2.2.2.2.1).bind fun q1 =>
 (G9 k a.2.2.2.2.2.2.1).bind fun q2 =>
 some (((w6 (w5 (w4 a q0.1.1) q1.1.1) q2.1.1),()),())
def F305:Fn:=⟨[JE],[aaG],fun k x=>agB k x.1⟩
theorem ok305:O 305 F305:=okF (ah ok219 <| ah ok307 aj) [] On Tryz.func305 rfl
def alD (k:Nat) (a:aea) (b:AA):Option ((BJ×Unit)×Unit) :=
 (agB k b).bind fun q0 =>
 (bif b.2.2.2.1==0 then
  (bif decide ((a.2.2.2.2.1.length:Int)>0) then
   (V9 k b.2.2.1).bind fun q1 =>
   (V9 k b.2.2.1).bind fun q2 =>
   some (((q0.1.1.1,q0.1.1.2.1,q0.1.1.2.2.1,1,q1.1.1,q2.1.1,[],q0.1.1.2.2.2.2.2.2.2),()),())
  else
   (aaS k b.2.2.2.2.2.1).bind fun q3 =>
   some (((w6 (w4 q0.1.1 q3.1.1) []),()),()))
 else
  (aaS k b.2.2.2.2.2.1).bind fun q4 =>
  some (((w6 (w4 q0.1.1 q4.1.1) []),()),()))
def F311:Fn:=⟨[aeg,JE],[aaG],fun k x=>alD k x.1 x.2.1⟩
theorem ok311:O 311 F311:=okF (ah ok109 <| ah ok305 <| ah ok307 aj) [] On Tryz.func311 rfl
def alE (k:Nat) (a:aea) (b:AA) (c:ny):Option ((BJ×pz×Int×Unit)×Unit) :=
 (alD k a b).bind fun q0 =>
 (agy k c b.1).bind fun q1 =>
 (bif b.2.2.2.1==2 then
  (agr k b (-1)).bind fun q2 =>
  some ((q2.1.1,q1.1.1,13,()),())
 else
  (bif q0.1.1.2.2.2.1 != b.2.2.2.1 then
   some ((q0.1.1,q1.1.1,7,()),())
  else
   some ((q0.1.1,q1.1.1,6,()),())))
def F242:Fn:=⟨[aeg,JE,FP],[aaG,aed,rI],fun k (a,b,c,_)=>alE k a b c⟩
theorem ok242:O 242 F242:=okF (ah ok127 <| ah ok231 <| ah ok311 aj) [] On Tryz.func242 rfl
abbrev aeP:Cut:=⟨[0,1,11,12,13],[.pin false 0,.cell SH,.own 3 (.int .i64),cI,cI],[.fK 166 [cI,cI,.own 54 BU,.own 168 zk,.cell .bool,.cell .bool,.cell .bool,.own 59 KQ,.own 3 (.int .i64),.own 4 .bool,.own 142 zn,.own 3 (.int .i64),.own 4 .bool,.own 51 w9]],55,[]⟩
def Yc (k:Nat) (g1:(J6×List (PN Int 6)) -> pz -> (List Int) -> Int -> Int -> Option l6) (a:qh) (b:ny) (c:List Int) (e f:Int):Option l6 :=
 (bif decide (f<e) then
  ix c f <|
  ix a.1.2.2.2.2.2.2.2.2.1.2 (rd c f 0) <|
  (bif decide (f<(b.length:Int)) then
   ix b f <|
   (bif !(fC GD (rd a.1.2.2.2.2.2.2.2.2.1.2 (rd c f 0) bf).2.2.1 (rd b f (0,0))) then
    ix b f <|
    (J5 k a.1.2.2.2.2.2.2.2.2.1 (rd c f 0) ((rd a.1.2.2.2.2.2.2.2.2.1.2 (rd c f 0) bf).1,(rd a.1.2.2.2.2.2.2.2.2.1.2 (rd c f 0) bf).2.1,rd b f (0,0),(rd a.1.2.2.2.2.2.2.2.2.1.2 (rd c f 0) bf).2.2.2)).bind fun q1 =>
    g1 ((w8 a.1 q1.1.1),a.2) b c e (IntKind.i64.wrap (f+1))
   else
    g1 a b c e (IntKind.i64.wrap (f+1)))
  else
   g1 a b c e (IntKind.i64.wrap (f+1)))
 else
  some ((),zh a,()))
def ajk (k:Nat) (g:(CZ×Unit×pz×(List Int)×Int×Int×Unit) -> Option l6) (d:CZ×Unit×pz×(List Int)×Int×Int×Unit):Option l6:=Yc k (fun a b c e f=>g ((zh a,()),(),b,c,e,f,())) (vg d.1.1) d.2.2.1 d.2.2.2.1 d.2.2.2.2.1 d.2.2.2.2.2.1
def MX (k a:Nat) (b:qh) (c:ny) (e:List Int) (f h:Int):Option l6:=iter aeP (ajk k) a ((zh b,()),(),c,e,f,h,())
theorem aaT (k a b c e f h):MX k (a+1) b c e f h=Yc k (MX k a) b c e f h:=Ba _ _ _ _
def agC (k:Nat) (a:qh) (b:ny):Option l6 :=
 (aaz k a.1.2.2.2.2.2.2.2.2.1).bind fun q0 =>
 MX k k a b q0.1.1 (q0.1.1.length:Int) 0
def F61b:Fn:=⟨[XY,FP],[],fun k x=>agC k (vg x.1) x.2.1⟩
theorem ok61b:O 61 F61b:=okF (ah ok107 <| ah ok128 aj) [] (fun k=>(.loop 1 aeP (ajk k) (fun g=>.nil) .nil)) Tryz.func61 rfl
def alF (k:Nat) (a:qh) (b:AA):Option aaF :=
 ix a.1.2.2.1 b.1 <|
 (S48 k a.1).bind fun q0 =>
 (alE k (rd a.1.2.2.1 b.1 bg) b q0.1.1).bind fun q1 =>
 (agC k a q1.1.2.1).bind fun q2 =>
 (JF k (vg q2.2.1) (0,q1.1.2.2.1,q1.1.1.1,0,0,0)).bind fun q3 =>
 some ((q1.1.2.2.1==13,()),q3.2.1,trJ q1.1.1,())
def F152:Fn:=⟨[XY,ap6],[rB],fun k x=>alF k (vg x.1) (tvJ x.2.1)⟩
theorem ok152:O 152 F152:=okF (ah ok48 <| ah ok61b <| ah ok146a <| ah ok242 aj) [] On Tryz.func152 rfl
def alG (k:Nat) (a:aea) (b:AA):Option (((List kr)×Unit)×Unit) :=
 (RP k (Us (.int .i64) yx b.2.2.2.1 (vL (.int .i64) yx 2 a.2.2.2.2.2 (vL (.int .i64) yx 1 a.2.2.2.2.1 (vL (.int .i64) yx 0 a.2.2.2.1 ([]:List (Int×List kr))))) [])).bind fun q0 =>
 some ((q0.1.1,()),())
def F306:Fn:=⟨[aeg,JE],[aiS],fun k x=>alG k x.1 x.2.1⟩
theorem ok306:O 306 F306:=okF (ah ok126 aj) [] On Tryz.func306 rfl
def acg (k:Nat) (a:Int×(PN Int 8)×FN×Bool):Option SF :=
 (ab0 k a.2.2.1).bind fun q0 =>
 some (((a.1,a.2.1,q0.1.1,a.2.2.2),()),())
def F195:Fn:=⟨[aiR],[aef],fun k x=>acg k x.1⟩
theorem ok195:O 195 F195:=okF (ah ok217 aj) [] On Tryz.func195 rfl
def alH (k:Nat) (a b:Int):Option uq :=
 (bif decide (b <= (-64)) then
  some ((a,()),())
 else
  (bif decide (b≥64) then
   some ((a,()),())
  else
   (bif decide (b<0) then
    Uj (IntKind.i64.wrap (0 - b)) <|
    some ((Ul .i64 a (IntKind.i64.wrap (0 - b)),()),())
   else
    Uj b <|
    some ((IntKind.i64.wrap (Uk .u64 (IntKind.u64.wrap a) b),()),()))))
def F196:Fn:=⟨[au,au],[rI],fun k x=>alH k x.1 x.2.1⟩
theorem ok196:O 196 F196:=okF aj [] On Tryz.func196 rfl
def alI (k:Nat) (a b:Int):Option uq :=
 (bif decide (b<1) then
  some ((a,()),())
 else
  (bif decide (b>64) then
   some ((a,()),())
  else
   Uj (IntKind.i64.wrap (64 - b)) <|
   Uj (IntKind.i64.wrap (64 - b)) <|
   some ((Ul .i64 (Uk .i64 a (IntKind.i64.wrap (64 - b))) (IntKind.i64.wrap (64 - b)),()),())))
def F197:Fn:=⟨[au,au],[rI],fun k x=>alI k x.1 x.2.1⟩
theorem ok197:O 197 F197:=okF aj [] On Tryz.func197 rfl
abbrev aeQ:Cut:=⟨[1,2,3],[.box 57 [cI,cI,cI,cI,cI,cI,cI,cI,cI,.own 293 yw,.cell .bool],.box 57 [cI,cI,cI,cI,cI,cI,cI,cI,cI,.nil,.cell .bool],cI],[],55,[]⟩
def Yd (k:Nat) (g2:Int -> Int -> Int -> Int -> Int -> Int -> Int -> Int -> Int -> FN -> Bool -> Int -> Int -> Int -> Int -> Int -> Int -> Int -> Int -> Int -> Bool -> Int -> Option SF) (a b c e f h i l m:Int) (n:List BX) (o:Bool) (p s t u v w y z A:Int) (B:Bool) (C:Int):Option SF :=
 (bif decide (C>0) then
  ix n (IntKind.i64.wrap (C - 1)) <|
  (bif decide ((rd n (IntKind.i64.wrap (C - 1)) (0,0,0)).2.1<a) then
   ix n (IntKind.i64.wrap (C - 1)) <|
   (bif decide ((rd n (IntKind.i64.wrap (C - 1)) (0,0,0)).2.2>0) then
    some ((((rd n (IntKind.i64.wrap (C - 1)) (0,0,0)).1,(b,c,e,f,h,i,l,m),upd n (IntKind.i64.wrap (C - 1)) ((rd n (IntKind.i64.wrap (C - 1)) (0,0,0)).1,(rd n (IntKind.i64.wrap (C - 1)) (0,0,0)).2.1,IntKind.i64.wrap ((rd n (IntKind.i64.wrap (C - 1)) (0,0,0)).2.2 - 1)),o),()),())
   else
    sx n 0 (IntKind.i64.wrap (C - 1)) <|
    g2 a b c e f h i l m (n.take (IntKind.i64.wrap (C - 1)).toNat) o p s t u v w y z A B ((n.take (IntKind.i64.wrap (C - 1)).toNat).length:Int))
  else
   some (((a,(b,c,e,f,h,i,l,m),n,o),()),()))
 else
  some (((a,(b,c,e,f,h,i,l,m),n,o),()),()))
def ajl (k:Nat):Xx (((Unit)×(Int×Int×Int×Int×Int×Int×Int×Int×Int×FN×Bool×Unit)×(Int×Int×Int×Int×Int×Int×Int×Int×Int×Unit×Bool×Unit)×Int×Unit) -> Option SF):=eu (dw (d9 (dh (dh (dh (dh (dh (dh (dh (dh (dh (dh (dh dx))))))))))) (d9 (dh (dh (dh (dh (dh (dh (dh (dh (dh (dw (dh dx))))))))))) (dh dx)))) (Yd k)
def Ye (k a:Nat) (b c e f h i l m n:Int) (o:List BX) (p:Bool) (s t u v w y z A B:Int) (C:Bool) (D:Int):Option SF:=iter aeQ (ajl k) a ((),(b,c,e,f,h,i,l,m,n,o,p,()),(s,t,u,v,w,y,z,A,B,(),C,()),D,())
theorem aaU (k a b c e f h i l m n o p s t u v w y z A B C D):Ye k (a+1) b c e f h i l m n o p s t u v w y z A B C D=Yd k (Ye k a) b c e f h i l m n o p s t u v w y z A B C D:=Ba _ _ _ _
def KY (k:Nat) (a b c e f h i l m:Int) (n:List BX) (o:Bool):Option SF :=
 Ye k k a b c e f h i l m n o 0 0 0 0 0 0 0 0 0 false (n.length:Int)
def F198:Fn:=⟨[.gv (.agg [cI,cI,cI,cI,cI,cI,cI,cI,cI,.own 293 yw,.cell .bool])],[aef],fun k ((a,b,c,e,f,h,i,l,m,n,o,_),_)=>KY k a b c e f h i l m n o⟩
theorem ok198:O 198 F198:=okF aj [(52,1)] (fun k=>(.loop 2 aeQ (ajl k) (fun g=>.nil) .nil)) Tryz.func198 rfl
def ajm (k:Nat) (a:List kr) (b:Int×(PN Int 8)×FN×Bool):Option (((Int×(PN Int 8)×FN×Bool)×kr×Bool×Unit)×Unit) :=
 (bif b.2.2.2 then
  (acg k b).bind fun q0 =>
  some ((q0.1.1,(0,0,0,0),false,()),())
 else
  (bif decide (b.1<0) then
   (acg k b).bind fun q1 =>
   some ((q1.1.1,(0,0,0,0),false,()),())
  else
   (bif decide (b.1≥(a.length:Int)) then
    (acg k b).bind fun q2 =>
    some ((q2.1.1,(0,0,0,0),false,()),())
   else
    ix a b.1 <|
    (ahx k (rd a b.1 (0,0,0,0))).bind fun q3 =>
    (bif !q3.1.1 then
     (acg k b).bind fun q4 =>
     some ((q4.1.1,(0,0,0,0),false,()),())
    else
     (acg k b).bind fun q5 =>
     ix a q5.1.1.1 <|
     ax 8 (rd a q5.1.1.1 (0,0,0,0)).2.1 <|
     ax 8 (Int.tmod (rd a q5.1.1.1 (0,0,0,0)).2.2.1 8) <|
     (bif (rd a q5.1.1.1 (0,0,0,0)).1==0 then
      (KY k q5.1.1.1 q5.1.1.2.1.1 q5.1.1.2.1.2.1 q5.1.1.2.1.2.2.1 q5.1.1.2.1.2.2.2.1 q5.1.1.2.1.2.2.2.2.1 q5.1.1.2.1.2.2.2.2.2.1 q5.1.1.2.1.2.2.2.2.2.2.1 q5.1.1.2.1.2.2.2.2.2.2.2 q5.1.1.2.2.1 true).bind fun q6 =>
      some ((q6.1.1,rd a q5.1.1.1 (0,0,0,0),true,()),())
     else
      (bif (rd a q5.1.1.1 (0,0,0,0)).1==1 then
       (KY k (IntKind.i64.wrap (q5.1.1.1+1)) (Ur (α:=Int) 8 q5.1.1.2.1 (rd a q5.1.1.1 (0,0,0,0)).2.1 (rd a q5.1.1.1 (0,0,0,0)).2.2.2).1 (Ur (α:=Int) 8 q5.1.1.2.1 (rd a q5.1.1.1 (0,0,0,0)).2.1 (rd a q5.1.1.1 (0,0,0,0)).2.2.2).2.1 (Ur (α:=Int) 8 q5.1.1.2.1 (rd a q5.1.1.1 (0,0,0,0)).2.1 (rd a q5.1.1.1 (0,0,0,0)).2.2.2).2.2.1 (Ur (α:=Int) 8 q5.1.1.2.1 (rd a q5.1.1.1 (0,0,0,0)).2.1 (rd a q5.1.1.1 (0,0,0,0)).2.2.2).2.2.2.1 (Ur (α:=Int) 8 q5.1.1.2.1 (rd a q5.1.1.1 (0,0,0,0)).2.1 (rd a q5.1.1.1 (0,0,0,0)).2.2.2).2.2.2.2.1 (Ur (α:=Int) 8 q5.1.1.2.1 (rd a q5.1.1.1 (0,0,0,0)).2.1 (rd a q5.1.1.1 (0,0,0,0)).2.2.2).2.2.2.2.2.1 (Ur (α:=Int) 8 q5.1.1.2.1 (rd a q5.1.1.1 (0,0,0,0)).2.1 (rd a q5.1.1.1 (0,0,0,0)).2.2.2).2.2.2.2.2.2.1 (Ur (α:=Int) 8 q5.1.1.2.1 (rd a q5.1.1.1 (0,0,0,0)).2.1 (rd a q5.1.1.1 (0,0,0,0)).2.2.2).2.2.2.2.2.2.2 q5.1.1.2.2.1 q5.1.1.2.2.2).bind fun q7 =>
       some ((q7.1.1,rd a q5.1.1.1 (0,0,0,0),true,()),())
      else
       (bif (rd a q5.1.1.1 (0,0,0,0)).1==2 then
        (KY k (IntKind.i64.wrap (q5.1.1.1+1)) (Ur (α:=Int) 8 q5.1.1.2.1 (rd a q5.1.1.1 (0,0,0,0)).2.1 (IntKind.i64.wrap (IntKind.u64.wrap ((IntKind.u64.wrap (Uq (α:=Int) 8 q5.1.1.2.1 (rd a q5.1.1.1 (0,0,0,0)).2.1 0))+(IntKind.u64.wrap (Uq (α:=Int) 8 q5.1.1.2.1 (Int.tmod (rd a q5.1.1.1 (0,0,0,0)).2.2.1 8) 0)))))).1 (Ur (α:=Int) 8 q5.1.1.2.1 (rd a q5.1.1.1 (0,0,0,0)).2.1 (IntKind.i64.wrap (IntKind.u64.wrap ((IntKind.u64.wrap (Uq (α:=Int) 8 q5.1.1.2.1 (rd a q5.1.1.1 (0,0,0,0)).2.1 0))+(IntKind.u64.wrap (Uq (α:=Int) 8 q5.1.1.2.1 (Int.tmod (rd a q5.1.1.1 (0,0,0,0)).2.2.1 8) 0)))))).2.1 (Ur (α:=Int) 8 q5.1.1.2.1 (rd a q5.1.1.1 (0,0,0,0)).2.1 (IntKind.i64.wrap (IntKind.u64.wrap ((IntKind.u64.wrap (Uq (α:=Int) 8 q5.1.1.2.1 (rd a q5.1.1.1 (0,0,0,0)).2.1 0))+(IntKind.u64.wrap (Uq (α:=Int) 8 q5.1.1.2.1 (Int.tmod (rd a q5.1.1.1 (0,0,0,0)).2.2.1 8) 0)))))).2.2.1 (Ur (α:=Int) 8 q5.1.1.2.1 (rd a q5.1.1.1 (0,0,0,0)).2.1 (IntKind.i64.wrap (IntKind.u64.wrap ((IntKind.u64.wrap (Uq (α:=Int) 8 q5.1.1.2.1 (rd a q5.1.1.1 (0,0,0,0)).2.1 0))+(IntKind.u64.wrap (Uq (α:=Int) 8 q5.1.1.2.1 (Int.tmod (rd a q5.1.1.1 (0,0,0,0)).2.2.1 8) 0)))))).2.2.2.1 (Ur (α:=Int) 8 q5.1.1.2.1 (rd a q5.1.1.1 (0,0,0,0)).2.1 (IntKind.i64.wrap (IntKind.u64.wrap ((IntKind.u64.wrap (Uq (α:=Int) 8 q5.1.1.2.1 (rd a q5.1.1.1 (0,0,0,0)).2.1 0))+(IntKind.u64.wrap (Uq (α:=Int) 8 q5.1.1.2.1 (Int.tmod (rd a q5.1.1.1 (0,0,0,0)).2.2.1 8) 0)))))).2.2.2.2.1 (Ur (α:=Int) 8 q5.1.1.2.1 (rd a q5.1.1.1 (0,0,0,0)).2.1 (IntKind.i64.wrap (IntKind.u64.wrap ((IntKind.u64.wrap (Uq (α:=Int) 8 q5.1.1.2.1 (rd a q5.1.1.1 (0,0,0,0)).2.1 0))+(IntKind.u64.wrap (Uq (α:=Int) 8 q5.1.1.2.1 (Int.tmod (rd a q5.1.1.1 (0,0,0,0)).2.2.1 8) 0)))))).2.2.2.2.2.1 (Ur (α:=Int) 8 q5.1.1.2.1 (rd a q5.1.1.1 (0,0,0,0)).2.1 (IntKind.i64.wrap (IntKind.u64.wrap ((IntKind.u64.wrap (Uq (α:=Int) 8 q5.1.1.2.1 (rd a q5.1.1.1 (0,0,0,0)).2.1 0))+(IntKind.u64.wrap (Uq (α:=Int) 8 q5.1.1.2.1 (Int.tmod (rd a q5.1.1.1 (0,0,0,0)).2.2.1 8) 0)))))).2.2.2.2.2.2.1 (Ur (α:=Int) 8 q5.1.1.2.1 (rd a q5.1.1.1 (0,0,0,0)).2.1 (IntKind.i64.wrap (IntKind.u64.wrap ((IntKind.u64.wrap (Uq (α:=Int) 8 q5.1.1.2.1 (rd a q5.1.1.1 (0,0,0,0)).2.1 0))+(IntKind.u64.wrap (Uq (α:=Int) 8 q5.1.1.2.1 (Int.tmod (rd a q5.1.1.1 (0,0,0,0)).2.2.1 8) 0)))))).2.2.2.2.2.2.2 q5.1.1.2.2.1 q5.1.1.2.2.2).bind fun q8 =>
        some ((q8.1.1,rd a q5.1.1.1 (0,0,0,0),true,()),())
       else
        (bif (rd a q5.1.1.1 (0,0,0,0)).1==3 then
         (KY k (IntKind.i64.wrap (q5.1.1.1+1)) (Ur (α:=Int) 8 q5.1.1.2.1 (rd a q5.1.1.1 (0,0,0,0)).2.1 (IntKind.i64.wrap (IntKind.u64.wrap ((IntKind.u64.wrap (Uq (α:=Int) 8 q5.1.1.2.1 (rd a q5.1.1.1 (0,0,0,0)).2.1 0)) - (IntKind.u64.wrap (Uq (α:=Int) 8 q5.1.1.2.1 (Int.tmod (rd a q5.1.1.1 (0,0,0,0)).2.2.1 8) 0)))))).1 (Ur (α:=Int) 8 q5.1.1.2.1 (rd a q5.1.1.1 (0,0,0,0)).2.1 (IntKind.i64.wrap (IntKind.u64.wrap ((IntKind.u64.wrap (Uq (α:=Int) 8 q5.1.1.2.1 (rd a q5.1.1.1 (0,0,0,0)).2.1 0)) - (IntKind.u64.wrap (Uq (α:=Int) 8 q5.1.1.2.1 (Int.tmod (rd a q5.1.1.1 (0,0,0,0)).2.2.1 8) 0)))))).2.1 (Ur (α:=Int) 8 q5.1.1.2.1 (rd a q5.1.1.1 (0,0,0,0)).2.1 (IntKind.i64.wrap (IntKind.u64.wrap ((IntKind.u64.wrap (Uq (α:=Int) 8 q5.1.1.2.1 (rd a q5.1.1.1 (0,0,0,0)).2.1 0)) - (IntKind.u64.wrap (Uq (α:=Int) 8 q5.1.1.2.1 (Int.tmod (rd a q5.1.1.1 (0,0,0,0)).2.2.1 8) 0)))))).2.2.1 (Ur (α:=Int) 8 q5.1.1.2.1 (rd a q5.1.1.1 (0,0,0,0)).2.1 (IntKind.i64.wrap (IntKind.u64.wrap ((IntKind.u64.wrap (Uq (α:=Int) 8 q5.1.1.2.1 (rd a q5.1.1.1 (0,0,0,0)).2.1 0)) - (IntKind.u64.wrap (Uq (α:=Int) 8 q5.1.1.2.1 (Int.tmod (rd a q5.1.1.1 (0,0,0,0)).2.2.1 8) 0)))))).2.2.2.1 (Ur (α:=Int) 8 q5.1.1.2.1 (rd a q5.1.1.1 (0,0,0,0)).2.1 (IntKind.i64.wrap (IntKind.u64.wrap ((IntKind.u64.wrap (Uq (α:=Int) 8 q5.1.1.2.1 (rd a q5.1.1.1 (0,0,0,0)).2.1 0)) - (IntKind.u64.wrap (Uq (α:=Int) 8 q5.1.1.2.1 (Int.tmod (rd a q5.1.1.1 (0,0,0,0)).2.2.1 8) 0)))))).2.2.2.2.1 (Ur (α:=Int) 8 q5.1.1.2.1 (rd a q5.1.1.1 (0,0,0,0)).2.1 (IntKind.i64.wrap (IntKind.u64.wrap ((IntKind.u64.wrap (Uq (α:=Int) 8 q5.1.1.2.1 (rd a q5.1.1.1 (0,0,0,0)).2.1 0)) - (IntKind.u64.wrap (Uq (α:=Int) 8 q5.1.1.2.1 (Int.tmod (rd a q5.1.1.1 (0,0,0,0)).2.2.1 8) 0)))))).2.2.2.2.2.1 (Ur (α:=Int) 8 q5.1.1.2.1 (rd a q5.1.1.1 (0,0,0,0)).2.1 (IntKind.i64.wrap (IntKind.u64.wrap ((IntKind.u64.wrap (Uq (α:=Int) 8 q5.1.1.2.1 (rd a q5.1.1.1 (0,0,0,0)).2.1 0)) - (IntKind.u64.wrap (Uq (α:=Int) 8 q5.1.1.2.1 (Int.tmod (rd a q5.1.1.1 (0,0,0,0)).2.2.1 8) 0)))))).2.2.2.2.2.2.1 (Ur (α:=Int) 8 q5.1.1.2.1 (rd a q5.1.1.1 (0,0,0,0)).2.1 (IntKind.i64.wrap (IntKind.u64.wrap ((IntKind.u64.wrap (Uq (α:=Int) 8 q5.1.1.2.1 (rd a q5.1.1.1 (0,0,0,0)).2.1 0)) - (IntKind.u64.wrap (Uq (α:=Int) 8 q5.1.1.2.1 (Int.tmod (rd a q5.1.1.1 (0,0,0,0)).2.2.1 8) 0)))))).2.2.2.2.2.2.2 q5.1.1.2.2.1 q5.1.1.2.2.2).bind fun q9 =>
         some ((q9.1.1,rd a q5.1.1.1 (0,0,0,0),true,()),())
        else
         (bif (rd a q5.1.1.1 (0,0,0,0)).1==4 then
          (KY k (IntKind.i64.wrap (q5.1.1.1+1)) (Ur (α:=Int) 8 q5.1.1.2.1 (rd a q5.1.1.1 (0,0,0,0)).2.1 (IntKind.i64.wrap (IntKind.u64.wrap ((IntKind.u64.wrap (Uq (α:=Int) 8 q5.1.1.2.1 (rd a q5.1.1.1 (0,0,0,0)).2.1 0)) * (IntKind.u64.wrap (Uq (α:=Int) 8 q5.1.1.2.1 (Int.tmod (rd a q5.1.1.1 (0,0,0,0)).2.2.1 8) 0)))))).1 (Ur (α:=Int) 8 q5.1.1.2.1 (rd a q5.1.1.1 (0,0,0,0)).2.1 (IntKind.i64.wrap (IntKind.u64.wrap ((IntKind.u64.wrap (Uq (α:=Int) 8 q5.1.1.2.1 (rd a q5.1.1.1 (0,0,0,0)).2.1 0)) * (IntKind.u64.wrap (Uq (α:=Int) 8 q5.1.1.2.1 (Int.tmod (rd a q5.1.1.1 (0,0,0,0)).2.2.1 8) 0)))))).2.1 (Ur (α:=Int) 8 q5.1.1.2.1 (rd a q5.1.1.1 (0,0,0,0)).2.1 (IntKind.i64.wrap (IntKind.u64.wrap ((IntKind.u64.wrap (Uq (α:=Int) 8 q5.1.1.2.1 (rd a q5.1.1.1 (0,0,0,0)).2.1 0)) * (IntKind.u64.wrap (Uq (α:=Int) 8 q5.1.1.2.1 (Int.tmod (rd a q5.1.1.1 (0,0,0,0)).2.2.1 8) 0)))))).2.2.1 (Ur (α:=Int) 8 q5.1.1.2.1 (rd a q5.1.1.1 (0,0,0,0)).2.1 (IntKind.i64.wrap (IntKind.u64.wrap ((IntKind.u64.wrap (Uq (α:=Int) 8 q5.1.1.2.1 (rd a q5.1.1.1 (0,0,0,0)).2.1 0)) * (IntKind.u64.wrap (Uq (α:=Int) 8 q5.1.1.2.1 (Int.tmod (rd a q5.1.1.1 (0,0,0,0)).2.2.1 8) 0)))))).2.2.2.1 (Ur (α:=Int) 8 q5.1.1.2.1 (rd a q5.1.1.1 (0,0,0,0)).2.1 (IntKind.i64.wrap (IntKind.u64.wrap ((IntKind.u64.wrap (Uq (α:=Int) 8 q5.1.1.2.1 (rd a q5.1.1.1 (0,0,0,0)).2.1 0)) * (IntKind.u64.wrap (Uq (α:=Int) 8 q5.1.1.2.1 (Int.tmod (rd a q5.1.1.1 (0,0,0,0)).2.2.1 8) 0)))))).2.2.2.2.1 (Ur (α:=Int) 8 q5.1.1.2.1 (rd a q5.1.1.1 (0,0,0,0)).2.1 (IntKind.i64.wrap (IntKind.u64.wrap ((IntKind.u64.wrap (Uq (α:=Int) 8 q5.1.1.2.1 (rd a q5.1.1.1 (0,0,0,0)).2.1 0)) * (IntKind.u64.wrap (Uq (α:=Int) 8 q5.1.1.2.1 (Int.tmod (rd a q5.1.1.1 (0,0,0,0)).2.2.1 8) 0)))))).2.2.2.2.2.1 (Ur (α:=Int) 8 q5.1.1.2.1 (rd a q5.1.1.1 (0,0,0,0)).2.1 (IntKind.i64.wrap (IntKind.u64.wrap ((IntKind.u64.wrap (Uq (α:=Int) 8 q5.1.1.2.1 (rd a q5.1.1.1 (0,0,0,0)).2.1 0)) * (IntKind.u64.wrap (Uq (α:=Int) 8 q5.1.1.2.1 (Int.tmod (rd a q5.1.1.1 (0,0,0,0)).2.2.1 8) 0)))))).2.2.2.2.2.2.1 (Ur (α:=Int) 8 q5.1.1.2.1 (rd a q5.1.1.1 (0,0,0,0)).2.1 (IntKind.i64.wrap (IntKind.u64.wrap ((IntKind.u64.wrap (Uq (α:=Int) 8 q5.1.1.2.1 (rd a q5.1.1.1 (0,0,0,0)).2.1 0)) * (IntKind.u64.wrap (Uq (α:=Int) 8 q5.1.1.2.1 (Int.tmod (rd a q5.1.1.1 (0,0,0,0)).2.2.1 8) 0)))))).2.2.2.2.2.2.2 q5.1.1.2.2.1 q5.1.1.2.2.2).bind fun q10 =>
          some ((q10.1.1,rd a q5.1.1.1 (0,0,0,0),true,()),())
         else
          (bif (rd a q5.1.1.1 (0,0,0,0)).1==5 then
           (alH k (Uq (α:=Int) 8 q5.1.1.2.1 (rd a q5.1.1.1 (0,0,0,0)).2.1 0) (rd a q5.1.1.1 (0,0,0,0)).2.2.2).bind fun V4 =>
           (KY k (IntKind.i64.wrap (q5.1.1.1+1)) (Ur (α:=Int) 8 q5.1.1.2.1 (rd a q5.1.1.1 (0,0,0,0)).2.1 V4.1.1).1 (Ur (α:=Int) 8 q5.1.1.2.1 (rd a q5.1.1.1 (0,0,0,0)).2.1 V4.1.1).2.1 (Ur (α:=Int) 8 q5.1.1.2.1 (rd a q5.1.1.1 (0,0,0,0)).2.1 V4.1.1).2.2.1 (Ur (α:=Int) 8 q5.1.1.2.1 (rd a q5.1.1.1 (0,0,0,0)).2.1 V4.1.1).2.2.2.1 (Ur (α:=Int) 8 q5.1.1.2.1 (rd a q5.1.1.1 (0,0,0,0)).2.1 V4.1.1).2.2.2.2.1 (Ur (α:=Int) 8 q5.1.1.2.1 (rd a q5.1.1.1 (0,0,0,0)).2.1 V4.1.1).2.2.2.2.2.1 (Ur (α:=Int) 8 q5.1.1.2.1 (rd a q5.1.1.1 (0,0,0,0)).2.1 V4.1.1).2.2.2.2.2.2.1 (Ur (α:=Int) 8 q5.1.1.2.1 (rd a q5.1.1.1 (0,0,0,0)).2.1 V4.1.1).2.2.2.2.2.2.2 q5.1.1.2.2.1 q5.1.1.2.2.2).bind fun q12 =>
           some ((q12.1.1,rd a q5.1.1.1 (0,0,0,0),true,()),())
          else
           (bif (rd a q5.1.1.1 (0,0,0,0)).1==6 then
            (alI k (Uq (α:=Int) 8 q5.1.1.2.1 (rd a q5.1.1.1 (0,0,0,0)).2.1 0) (rd a q5.1.1.1 (0,0,0,0)).2.2.2).bind fun q13 =>
            (KY k (IntKind.i64.wrap (q5.1.1.1+1)) (Ur (α:=Int) 8 q5.1.1.2.1 (rd a q5.1.1.1 (0,0,0,0)).2.1 q13.1.1).1 (Ur (α:=Int) 8 q5.1.1.2.1 (rd a q5.1.1.1 (0,0,0,0)).2.1 q13.1.1).2.1 (Ur (α:=Int) 8 q5.1.1.2.1 (rd a q5.1.1.1 (0,0,0,0)).2.1 q13.1.1).2.2.1 (Ur (α:=Int) 8 q5.1.1.2.1 (rd a q5.1.1.1 (0,0,0,0)).2.1 q13.1.1).2.2.2.1 (Ur (α:=Int) 8 q5.1.1.2.1 (rd a q5.1.1.1 (0,0,0,0)).2.1 q13.1.1).2.2.2.2.1 (Ur (α:=Int) 8 q5.1.1.2.1 (rd a q5.1.1.1 (0,0,0,0)).2.1 q13.1.1).2.2.2.2.2.1 (Ur (α:=Int) 8 q5.1.1.2.1 (rd a q5.1.1.1 (0,0,0,0)).2.1 q13.1.1).2.2.2.2.2.2.1 (Ur (α:=Int) 8 q5.1.1.2.1 (rd a q5.1.1.1 (0,0,0,0)).2.1 q13.1.1).2.2.2.2.2.2.2 q5.1.1.2.2.1 q5.1.1.2.2.2).bind fun q14 =>
            some ((q14.1.1,rd a q5.1.1.1 (0,0,0,0),true,()),())
           else
            (bif (rd a q5.1.1.1 (0,0,0,0)).1==7 then
             (bif (Uq (α:=Int) 8 q5.1.1.2.1 (rd a q5.1.1.1 (0,0,0,0)).2.1 0)==0 then
              (KY k (IntKind.i64.wrap ((IntKind.i64.wrap (q5.1.1.1+1))+(rd a q5.1.1.1 (0,0,0,0)).2.2.2)) q5.1.1.2.1.1 q5.1.1.2.1.2.1 q5.1.1.2.1.2.2.1 q5.1.1.2.1.2.2.2.1 q5.1.1.2.1.2.2.2.2.1 q5.1.1.2.1.2.2.2.2.2.1 q5.1.1.2.1.2.2.2.2.2.2.1 q5.1.1.2.1.2.2.2.2.2.2.2 q5.1.1.2.2.1 q5.1.1.2.2.2).bind fun q15 =>
              some ((q15.1.1,rd a q5.1.1.1 (0,0,0,0),true,()),())
             else
              (KY k (IntKind.i64.wrap (q5.1.1.1+1)) q5.1.1.2.1.1 q5.1.1.2.1.2.1 q5.1.1.2.1.2.2.1 q5.1.1.2.1.2.2.2.1 q5.1.1.2.1.2.2.2.2.1 q5.1.1.2.1.2.2.2.2.2.1 q5.1.1.2.1.2.2.2.2.2.2.1 q5.1.1.2.1.2.2.2.2.2.2.2 q5.1.1.2.2.1 q5.1.1.2.2.2).bind fun q16 =>
              some ((q16.1.1,rd a q5.1.1.1 (0,0,0,0),true,()),()))
            else
             (bif (rd a q5.1.1.1 (0,0,0,0)).1==8 then
              ap q5.1.1.2.2.1 ([(IntKind.i64.wrap (q5.1.1.1+1),IntKind.i64.wrap (q5.1.1.1+(rd a q5.1.1.1 (0,0,0,0)).2.2.1),IntKind.i64.wrap ((rd a q5.1.1.1 (0,0,0,0)).2.2.2 - 1))]:List BX) 24 fun r17 =>
              (KY k (IntKind.i64.wrap (q5.1.1.1+1)) q5.1.1.2.1.1 q5.1.1.2.1.2.1 q5.1.1.2.1.2.2.1 q5.1.1.2.1.2.2.2.1 q5.1.1.2.1.2.2.2.2.1 q5.1.1.2.1.2.2.2.2.2.1 q5.1.1.2.1.2.2.2.2.2.2.1 q5.1.1.2.1.2.2.2.2.2.2.2 r17 q5.1.1.2.2.2).bind fun q18 =>
              some ((q18.1.1,rd a q5.1.1.1 (0,0,0,0),true,()),())
             else
              (KY k (IntKind.i64.wrap (q5.1.1.1+1)) q5.1.1.2.1.1 q5.1.1.2.1.2.1 q5.1.1.2.1.2.2.1 q5.1.1.2.1.2.2.2.1 q5.1.1.2.1.2.2.2.2.1 q5.1.1.2.1.2.2.2.2.2.1 q5.1.1.2.1.2.2.2.2.2.2.1 q5.1.1.2.1.2.2.2.2.2.2.2 q5.1.1.2.2.1 q5.1.1.2.2.2).bind fun q19 =>
              some ((q19.1.1,rd a q5.1.1.1 (0,0,0,0),true,()),()))))))))))))))
def F110:Fn:=⟨[.val ⟨false,yx,false⟩,aiR],[aef,aiU,rB],fun k x=>ajm k x.1 x.2.1⟩
theorem ok110:O 110 F110:=okF (ah ok188 <| ah ok195 <| ah ok196 <| ah ok197 <| ah ok198 aj) [] On Tryz.func110 rfl
section
variable (w:World) {g n c i j:Nat}
theorem MZ:Tryz.prog.underlying 32=some (.slice 3) /\ Tryz.prog.underlying 3=some (.int .i64) /\ Tryz.prog.underlying 4=some .bool /\ Tryz.prog.follows .mixedOrders=true /\ (∀ w,(Go.sizeOf 3).run Tryz.prog w=.ok 1 w) /\ Tryz.f308.ntmps=33:=⟨by kernel_rfl,by kernel_rfl,by kernel_rfl,by kernel_rfl,fun w=>by kernel_rfl,rfl⟩
theorem Yf {v:Value} (hv:(∃ A n c,v=.slice A n c /\ i <= n /\ n <= c /\ c <= 9223372036854775807)):Calls Tryz.prog 308 #[v,.int .i64 i,.int .i64 i] w fun e w'=>e=.returned v /\ w'=w:=by
 obtain ⟨t24,t3,t4,mixed,z36,hnt⟩:=MZ
 have u24:=run_underlying t24;have u3:=run_underlying t3;have u4:=run_underlying t4
 obtain ⟨A,n,c,rfl,hi,hnc,hc63⟩:=hv
 have hi0:(i:Int) <= (n:Int):=by omega
 have hi1:(0:Int) <= (i:Int):=by omega
 cases A <;> (go_enter Tryz.func308,hnt;go_wp2 <;> (go_ret;exact ⟨rfl,rfl⟩))
theorem Yg {w' w'':World} (hlt:i<j) (hj:j <= n) (hnc:n <= c) (hc63:c <= 9223372036854775807)
  (hap:∀ ty A,(c≠j -> A=(⟨g,j * 1,none⟩:Addr)) -> (Builtin.append_ #[32,32] ty #[.slice (some ⟨g,0,none⟩) i c,.slice (some A) (n - j) (c - j)]).run Tryz.prog w.drew=.ok (.slice (some ⟨g,0,none⟩) (i+(n - j)) c) w')
  (hcl:∀ ty dc,(Builtin.clear_ #[32] ty #[.slice (some ⟨g,(i+(n - j)) * 1,none⟩) (n - (i+(n - j))) dc]).run Tryz.prog w'=.ok (.tuple #[]) w'') :
  Calls Tryz.prog 308 #[.slice (some ⟨g,0,none⟩) n c,.int .i64 i,.int .i64 j] w fun e w1=>e=.returned (.slice (some ⟨g,0,none⟩) (i+(n - j)) c) /\ w1=w'':=by
 obtain ⟨t24,t3,t4,mixed,z36,hnt⟩:=MZ
 have u24:=run_underlying t24;have u3:=run_underlying t3;have u4:=run_underlying t4
 have hi0:(i:Int) <= (n:Int):=by omega
 have hj0:(j:Int) <= (n:Int):=by omega
 have hij:(i:Int) <= (j:Int):=by omega
 have hne:¬ ((i:Int)=(j:Int)):=by omega
 have hic:i <= c:=by omega
 have hjc:j <= c:=by omega
 have hln:i+(n - j) <= n:=by omega
 have hlc:i+(n - j) <= c:=by omega
 have hci:¬ (c=i+(n - j)):=by omega
 obtain ⟨A,hA,hA'⟩:∃ A:Addr,(if c=j then some (⟨g,0,none⟩:Addr) else some ⟨g,j * 1,none⟩)=some A /\ (c≠j -> A=(⟨g,j * 1,none⟩:Addr)):=by
  by_cases h:c=j
  · exact ⟨_,if_pos h,fun q=>absurd h q⟩
  · exact ⟨_,if_neg h,fun _=>rfl⟩
 try simp only [Nat.mul_one] at hA hcl
 go_enter Tryz.func308,hnt
 go_wp2_with fail
 go_region_law_o (refine Gz rfl rfl _ _ (by simp [Act.eval,Act.put]) (by simp [Act.eval,Act.put,hA]) (hap _ _ hA') ?_)
 go_wp2_with (at_builtin;refine Ji rfl rfl _ rfl (hcl _ _) ?_)
 go_ret
 exact ⟨rfl,rfl⟩
end
abbrev arh:List PT:=iG 3 (.int .i64)
abbrev ari:List RT:=qV 3 (.int .i64)
def aoS (k:Nat) (a:List Int) (i j:Int):Option FL:=Jk 3 (.int .i64) k (a,i,j,())
def F308:Fn:=⟨arh,ari,Jk 3 (.int .i64)⟩
def arj:Env:=tab.env (fun _=>none) (fun _=>0)
theorem alJ:aH Tryz.prog arj:=Kw Rt _ _ (fun f F h=>by cases h)
theorem ok308:O 308 F308:=by
 obtain ⟨i0,z,a1,a2,a3,a4,a5⟩:=(alJ.ty 3 ((.int .i64)) (by kernel_rfl)).info
 have b2:Ty.sz ((.int .i64))=1:=rfl
 have hz:z.cells.size=1:=by rw [<- Array.length_toList,a5,gZ,b2]
 obtain ⟨t24,t3,t4,mixed,z36,hnt⟩:=MZ
 refine Qu Tryz.func308 rfl (by kernel_rfl) ?_
 rw [b2]
 exact Mr (S:=32) (z:=z) t24 a1 a4 (by rw [a2,b2]) hz (fun v hv=>tT ((.int .i64)) v (by rw [<- a5];exact hv)) (by decide) (fun w i v h=>Yf w h) (fun w g n c i j w' w'' h1 h2 h3 h4 h5 h6=>Yg w h1 h2 h3 h4 h5 h6)
abbrev aaV:Cut:=⟨[4,5,8],[.box 59 [cI,cI,cI,cI,cI,cI,cI,cI,cI,cI,cI,cI,cI,.own 293 yw,.cell .bool,cI,cI,cI,cI,cI,cI,cI,cI,cI,.own 293 yw,.cell .bool,.own 3 (.int .i64),.cell .bool],.box 127 [cI,cI,cI,cI],cI],[],70,[]⟩
def QG (k:Nat) (g13:BJ -> Int -> Int -> Int -> Int -> Int -> Option VG) (x:AA) (a b c e f:Int):Option VG :=
 (bif decide (f≥0) then
  ix x.2.2.2.2.2.2.1 f <|
  (bif (rd x.2.2.2.2.2.2.1 f 0)==b then
   (aoS k x.2.2.2.2.2.2.1 f (IntKind.i64.wrap (f+1))).bind fun q5 =>
   some (((w6 x q5.1.1),(a,b,c,e),true,()),())
  else
   g13 x a b c e (IntKind.i64.wrap (f - 1)))
 else
  some ((x,(a,b,c,e),true,()),()))
def aeR (k:Nat) (g:((Unit)×aiN×VH×Int×Unit) -> Option VG) (d:(Unit)×aiN×VH×Int×Unit):Option VG:=QG k (fun x a b c e f=>g ((),trJ x,(a,b,c,e,()),f,())) (tvJ d.2.1) d.2.2.1.1 d.2.2.1.2.1 d.2.2.1.2.2.1 d.2.2.1.2.2.2.1 d.2.2.2.1
def QH (k a:Nat) (x:AA) (b c e f h:Int):Option VG:=iter aaV (aeR k) a ((),trJ x,(b,c,e,f,()),h,())
theorem VJ (k a x b c e f h):QH k (a+1) x b c e f h=QG k (QH k a) x b c e f h:=Ba _ _ _ _
def alK (k:Nat) (a:aea) (b:AA):Option VG :=
 (agB k b).bind fun q0 =>
 (alG k a b).bind fun q1 =>
 (ajm k q1.1.1 b.2.2.2.2.1).bind fun q2 =>
 (bif !q2.1.2.2.1 then
  some ((q0.1.1,(0,0,0,0),false,()),())
 else
  (bif q2.1.2.1.1==11 then
   (aaS k q2.1.1).bind fun q3 =>
   some (((w5 (w4 q0.1.1 q2.1.1) q3.1.1),q2.1.2.1,true,()),())
  else
   (bif q2.1.2.1.1==9 then
    ap q0.1.1.2.2.2.2.2.2.1 ([q2.1.2.1.2.1]:List Int) 8 fun r4 =>
    some (((w6 (w4 q0.1.1 q2.1.1) r4),q2.1.2.1,true,()),())
   else
    (bif q2.1.2.1.1==10 then
     QH k k (w4 q0.1.1 q2.1.1) q2.1.2.1.1 q2.1.2.1.2.1 q2.1.2.1.2.2.1 q2.1.2.1.2.2.2 (IntKind.i64.wrap ((q0.1.1.2.2.2.2.2.2.1.length:Int) - 1))
    else
     some (((w4 q0.1.1 q2.1.1),q2.1.2.1,true,()),())))))
def F238:Fn:=⟨[aeg,JE],[aaG,aiU,rB],fun k x=>alK k x.1 x.2.1⟩
theorem ok238:O 238 F238:=okF (ah ok110 <| ah ok305 <| ah ok306 <| ah ok307 <| ah ok308 aj) [] (fun k=>(.loop 13 aaV (aeR k) (fun g=>.nil) .nil)) Tryz.func238 rfl
def alL (k:Nat) (a:ny) (b c:Int):Option ((pz×Bool×Unit)×Unit) :=
 (ai1 k a).bind fun q0 =>
 (ai2 k a b).bind fun q1 =>
 (bif !q1.1.1 then
  some ((q0.1.1,false,()),())
 else
  ix a b <|
  (bif (rd a b (0,0)).2 != 0 then
   some ((q0.1.1,false,()),())
  else
   ix q0.1.1 b <|
   some ((upd q0.1.1 b ((rd q0.1.1 b (0,0)).1,IntKind.i64.wrap (c+1)),true,()),())))
def F239:Fn:=⟨[FP,au,au],[aed,rB],fun k (a,b,c,_)=>alL k a b c⟩
theorem ok239:O 239 F239:=okF (ah ok292 <| ah ok309 aj) [] On Tryz.func239 rfl
def alM (k:Nat) (a:ny) (b c:Int):Option ((pz×Bool×Unit)×Unit) :=
 (ai1 k a).bind fun q0 =>
 (agx k a b c).bind fun q1 =>
 (bif !q1.1.1 then
  some ((q0.1.1,false,()),())
 else
  ix q0.1.1 b <|
  some ((upd q0.1.1 b ((rd q0.1.1 b (0,0)).1,0),true,()),()))
def F240:Fn:=⟨[FP,au,au],[aed,rB],fun k (a,b,c,_)=>alM k a b c⟩
theorem ok240:O 240 F240:=okF (ah ok292 <| ah ok293 aj) [] On Tryz.func240 rfl
def alN (k:Nat) (a:AA):Option ((BJ×Unit)×Unit) :=
 (agB k a).bind fun q0 =>
 (V9 k a.2.2.2.2.1.2.1.1).bind fun q1 =>
 (V9 k a.2.2.2.2.1.2.1.1).bind fun q2 =>
 some (((q0.1.1.1,q0.1.1.2.1,q0.1.1.2.2.1,2,q1.1.1,q2.1.1,[],false),()),())
def F310:Fn:=⟨[JE],[aaG],fun k x=>alN k x.1⟩
theorem ok310:O 310 F310:=okF (ah ok109 <| ah ok305 aj) [] On Tryz.func310 rfl
abbrev alO:Cut:=⟨[0,1],[.pin false 0,.pin false 1],[.fK 166 [cI,cI,.own 54 BU,.own 168 zk,.cell .bool,.cell .bool,.cell .bool,.own 59 KQ,.own 3 (.int .i64),.own 4 .bool,.own 142 zn,.own 3 (.int .i64),.own 4 .bool,.own 51 w9],.fK 59 [cI,cI,cI,cI,cI,cI,cI,cI,cI,cI,cI,cI,cI,.own 293 yw,.cell .bool,cI,cI,cI,cI,cI,cI,cI,cI,cI,.own 293 yw,.cell .bool,.own 3 (.int .i64),.cell .bool]],95,[]⟩
def N7 (k:Nat) (a:qh) (b:AA):Option aaF :=
 (ab4 k a.1.2.2.2.2.2.2.2.2.2 b.1).bind fun q3 =>
 (alN k b).bind fun q4 =>
 ix a.1.2.2.1 q4.1.1.1 <|
 some ((((rd a.1.2.2.1 q4.1.1.1 bg).2.2.2.2.2.length:Int)==0,()),zh ((z9 a.1 q3.1.1),a.2),trJ q4.1.1,())
def alP (k:Nat) (a:qh) (b:AA):Option aaF :=
 (bif b.2.2.2.1==2 then
  (JF k a (0,4,b.1,0,b.2.2.2.2.1.2.1.1,0)).bind fun q0 =>
  some ((true,()),q0.2.1,trJ b,())
 else
  (JF k a (0,3,b.1,0,b.2.2.2.2.1.2.1.1,0)).bind fun q1 =>
  (bif b.2.2.2.1==0 then
   ix (vg q1.2.1).1.2.2.1 b.1 <|
   (bif decide (((rd (vg q1.2.1).1.2.2.1 b.1 bg).2.2.2.2.1.length:Int)>0) then
    (JF k (vg q1.2.1) (0,8,b.1,0,0,0)).bind fun q2 =>
    N7 k (vg q2.2.1) b
   else
    N7 k (vg q1.2.1) b)
  else
   N7 k (vg q1.2.1) b))
def F241:Fn:=⟨[XY,.fK 59 [cI,cI,cI,cI,cI,cI,cI,cI,cI,cI,cI,cI,cI,.own 293 yw,.cell .bool,cI,cI,cI,cI,cI,cI,cI,cI,cI,.own 293 yw,.cell .bool,.own 3 (.int .i64),.cell .bool]],[rB],fun k x=>alP k (vg x.1) (tvJ x.2.1)⟩
theorem ok241:O 241 F241:=okF (ah ok129 <| ah ok146a <| ah ok310 aj) [] (fun k=>(.join 8 alO (fun d=>N7 k (vg d.1.1) (tvJ d.1.2.1)) .nil)) Tryz.func241 rfl
abbrev ajn:Cut:=⟨[0,1],[.pin false 0,.pin false 1],[.fK 166 [cI,cI,.own 54 BU,.own 168 zk,.cell .bool,.cell .bool,.cell .bool,.own 59 KQ,.own 3 (.int .i64),.own 4 .bool,.own 142 zn,.own 3 (.int .i64),.own 4 .bool,.own 51 w9],.fK 59 [cI,cI,cI,cI,cI,cI,cI,cI,cI,cI,cI,cI,cI,.own 293 yw,.cell .bool,cI,cI,cI,cI,cI,cI,cI,cI,cI,.own 293 yw,.cell .bool,.own 3 (.int .i64),.cell .bool]],92,[]⟩
def I8 (k:Nat) (a:qh) (b:AA):Option aaF :=
 (bif b.2.2.2.2.1.2.2.2 then
  (alP k a b).bind fun q7 =>
  some ((q7.1.1,()),q7.2.1,q7.2.2.1,())
 else
  some ((false,()),zh a,trJ b,()))
def alQ (k:Nat) (a:qh) (b:AA):Option aaF :=
 ix a.1.2.2.1 b.1 <|
 (alK k (rd a.1.2.2.1 b.1 bg) b).bind fun q0 =>
 (bif !q0.1.2.2.1 then
  some ((false,()),zh a,trJ b,())
 else
  (bif q0.1.2.1.1==9 then
   (S48 k a.1).bind fun q1 =>
   (alL k q1.1.1 q0.1.2.1.2.1 q0.1.1.1).bind fun q2 =>
   (agC k a q2.1.1).bind fun q3 =>
   I8 k (vg q3.2.1) q0.1.1
  else
   (bif q0.1.2.1.1==10 then
    (S48 k a.1).bind fun q4 =>
    (alM k q4.1.1 q0.1.2.1.2.1 q0.1.1.1).bind fun q5 =>
    (agC k a q5.1.1).bind fun q6 =>
    I8 k (vg q6.2.1) q0.1.1
   else
    I8 k a q0.1.1)))
def F151:Fn:=⟨[XY,ap6],[rB],fun k x=>alQ k (vg x.1) (tvJ x.2.1)⟩
theorem ok151:O 151 F151:=okF (ah ok48 <| ah ok61b <| ah ok238 <| ah ok239 <| ah ok240 <| ah ok241 aj) [] (fun k=>(.join 12 ajn (fun d=>I8 k (vg d.1.1) (tvJ d.1.2.1)) .nil)) Tryz.func151 rfl
def S81 (k:Nat) (a:qh):Option l6 :=
 (S48 k a.1).bind fun q0 =>
 (alC k a.1.2.2.2.2.2.2.2.1 (a.1.2.2.1.length:Int) q0.1.1).bind fun q1 =>
 (bif a.1.2.2.2.2.2.1 then
  some ((),zh a,())
 else
  (bif !q1.1.2.1 then
   some ((),zh a,())
  else
   ix a.1.2.2.2.2.2.2.2.1 q1.1.1 <|
   (JF k a (0,2,(rd a.1.2.2.2.2.2.2.2.1 q1.1.1 ay).1,0,0,0)).bind fun q2 =>
   (bif (vg q2.2.1).1.2.2.2.2.2.2.1 then
    (alF k (vg q2.2.1) (rd a.1.2.2.2.2.2.2.2.1 q1.1.1 ay)).bind fun q3 =>
    ix (vg q3.2.1).1.2.2.2.2.2.2.2.1 q1.1.1 <|
    (bif q3.1.1 then
     (S72 k (upd (vg q3.2.1).1.2.2.2.2.2.2.2.1 q1.1.1 (tvJ q3.2.2.1)) q1.1.1 (IntKind.i64.wrap (q1.1.1+1))).bind fun q4 =>
     some ((),zh ((w7 (vg q3.2.1).1 q4.1.1),(vg q3.2.1).2),())
    else
     some ((),zh ((w7 (vg q3.2.1).1 (upd (vg q3.2.1).1.2.2.2.2.2.2.2.1 q1.1.1 (tvJ q3.2.2.1))),(vg q3.2.1).2),()))
   else
    (alQ k (vg q2.2.1) (rd a.1.2.2.2.2.2.2.2.1 q1.1.1 ay)).bind fun q5 =>
    ix (vg q5.2.1).1.2.2.2.2.2.2.2.1 q1.1.1 <|
    (bif q5.1.1 then
     (S72 k (upd (vg q5.2.1).1.2.2.2.2.2.2.2.1 q1.1.1 (tvJ q5.2.2.1)) q1.1.1 (IntKind.i64.wrap (q1.1.1+1))).bind fun q6 =>
     some ((),zh ((w7 (vg q5.2.1).1 q6.1.1),(vg q5.2.1).2),())
    else
     some ((),zh ((w7 (vg q5.2.1).1 (upd (vg q5.2.1).1.2.2.2.2.2.2.2.1 q1.1.1 (tvJ q5.2.2.1))),(vg q5.2.1).2),())))))
def F81:Fn:=⟨[XY],[],fun k x=>S81 k (vg x.1)⟩
theorem ok81:O 81 F81:=okF (ah ok48 <| ah ok72 <| ah ok146a <| ah ok150 <| ah ok151 <| ah ok152 aj) [] On Tryz.func81 rfl
def S33 (k:Nat) (a:SE):Option ((J6×KU×Unit)×Unit) :=
 (S56 k a).bind fun q0 =>
 (bif q0.1.1.2.2.2.2.1 then
  (bif !q0.1.1.2.2.2.2.2.1 then
   (S78 k (q0.1.1,([]:List (PN Int 6)))).bind fun q1 =>
   (S79 k (vg q1.2.1)).bind fun q2 =>
   (S80 k (vg q2.2.1)).bind fun q3 =>
   (S81 k (vg q3.2.1)).bind fun q4 =>
   some (((w6 (w0 (vg q4.2.1).1 (IntKind.i64.wrap ((vg q4.2.1).1.1+1))) false),(vg q4.2.1).2,()),())
  else
   some (((w6 (w0 q0.1.1 (IntKind.i64.wrap (q0.1.1.1+1))) false),([]:List (PN Int 6)),()),()))
 else
  some (((w6 (w0 q0.1.1 (IntKind.i64.wrap (q0.1.1.1+1))) false),([]:List (PN Int 6)),()),()))
def F33:Fn:=⟨[aiQ],[aee,aec],fun k x=>S33 k x.1⟩
theorem ok33:O 33 F33:=okF (ah ok56 <| ah ok78 <| ah ok79 <| ah ok80 <| ah ok81 aj) [(8,2)] On Tryz.func33 rfl
def alR (k:Nat) (a:SI×List CX) (b:Int):Option (((SI×List CX)×Bool×Unit)×Unit) :=
 (V8 k a).bind fun q0 =>
 (ab1 k a b).bind fun q1 =>
 (bif !q1.1.1 then
  some ((q0.1.1,false,()),())
 else
  ix q0.1.1.2 b <|
  ix q0.1.1.2 b <|
  some (((q0.1.1.1,upd q0.1.1.2 b (z5 (rd q0.1.1.2 b bf) (Uo .u32 (rd q0.1.1.2 b bf).2.2.2.2.2))),true,()),()))
def F105:Fn:=⟨[aiP,au],[aiT,rB],fun k x=>alR k x.1 x.2.1⟩
theorem ok105:O 105 F105:=okF (ah ok185 <| ah ok186 aj) [] On Tryz.func105 rfl
abbrev aeS:Cut:=⟨[2,4,6,7,8,65,66],[.box 42 [cI,cI,.cell (.sl 54 BU),.cell (.sl 168 zk),.cell .bool,.cell .bool,.cell .bool,.cell FM,.cell oz,.cell DR,.cell (.sl 142 zn),.cell oz,.cell DR],.box 42 [cI,cI,.nil,.nil,.cell .bool,.cell .bool,.cell .bool,.nil,.nil,.nil,.nil,.nil,.nil],.box 105 [cI,cI,cI,cI],.box 105 [cI,cI,cI,cI],.own 51 w9,cI,cI],[],87,[]⟩
def Yh (k:Nat) (g21:J6 -> Int -> Int -> Bool -> Bool -> Bool -> Int -> Int -> Int -> Int -> Int -> Int -> Int -> Int -> KU -> Int -> Int -> Option SG) (a:SE) (b c:Int) (e f h:Bool) (i l m n o p s t:Int) (u:List (PN Int 6)) (v w:Int):Option SG :=
 (bif decide (w<v) then
  (S33 k a).bind fun q8 =>
  ap u q8.1.2.1 48 fun r9 =>
  g21 q8.1.1 b c e f h i l m n o p s t r9 v (IntKind.i64.wrap (w+1))
 else
  (S30 k a (-1) 0).bind fun q10 =>
  some ((q10.1.1,u,(o,(p,s),t),()),()))
def ajo (k:Nat) (g:((Unit)×ad7×anO×VH×VH×KU×Int×Int×Unit) -> Option SG) (d:(Unit)×ad7×anO×VH×VH×KU×Int×Int×Unit):Option SG:=Yh k (fun a b c e f h i l m n o p s t u v w=>g ((),J4 a,(b,c,(),(),e,f,h,(),(),(),(),(),(),()),(i,l,m,n,()),(o,p,s,t,()),u,v,w,())) (Z7 d.2.1) d.2.2.1.1 d.2.2.1.2.1 d.2.2.1.2.2.2.2.1 d.2.2.1.2.2.2.2.2.1 d.2.2.1.2.2.2.2.2.2.1 d.2.2.2.1.1 d.2.2.2.1.2.1 d.2.2.2.1.2.2.1 d.2.2.2.1.2.2.2.1 d.2.2.2.2.1.1 d.2.2.2.2.1.2.1 d.2.2.2.2.1.2.2.1 d.2.2.2.2.1.2.2.2.1 d.2.2.2.2.2.1 d.2.2.2.2.2.2.1 d.2.2.2.2.2.2.2.1
def Yi (k a:Nat) (b:SE) (c e:Int) (f h i:Bool) (l m n o p s t u:Int) (v:List (PN Int 6)) (w y:Int):Option SG:=iter aeS (ajo k) a ((),J4 b,(c,e,(),(),f,h,i,(),(),(),(),(),(),()),(l,m,n,o,()),(p,s,t,u,()),v,w,y,())
theorem aaW (k a b c e f h i l m n o p s t u v w y):Yi k (a+1) b c e f h i l m n o p s t u v w y=Yh k (Yi k a) b c e f h i l m n o p s t u v w y:=Ba _ _ _ _
def S45 (k:Nat) (a:SE) (b:Int×agv×Int×Int):Option SG :=
 (bif b.1==1 then
  (S41 k a b.2.1).bind fun q0 =>
  some (q0.1,())
 else
  (bif b.1==2 then
   (S33 k a).bind fun q1 =>
   some ((q1.1.1,q1.1.2.1,(0,(0,0),0),()),())
  else
   (bif b.1==3 then
    (S30 k (w6 a true) (-1) 0).bind fun q2 =>
    some ((q2.1.1,([]:List (PN Int 6)),(0,(0,0),0),()),())
   else
    (bif b.1==4 then
     (alR k a.2.2.2.2.2.2.2.2.1 b.2.2.1).bind fun q3 =>
     (bif !q3.1.2.1 then
      (S30 k a (-1) 0).bind fun q4 =>
      some ((q4.1.1,([]:List (PN Int 6)),(3,(0,0),0),()),())
     else
      (S30 k (w8 a q3.1.1) (-1) 0).bind fun q5 =>
      some ((q5.1.1,([]:List (PN Int 6)),(0,(0,0),0),()),()))
    else
     (bif b.1==5 then
      (bif decide (b.2.2.2<0) then
       (S30 k a (-1) 0).bind fun q6 =>
       some ((q6.1.1,([]:List (PN Int 6)),(1,(0,0),0),()),())
      else
       (bif decide (b.2.2.2>10000) then
        (S30 k a (-1) 0).bind fun q7 =>
        some ((q7.1.1,([]:List (PN Int 6)),(1,(0,0),0),()),())
       else
        Yi k k a 0 0 false false false 0 0 0 0 0 0 0 0 ([]:List (PN Int 6)) b.2.2.2 0))
     else
      (S30 k a (-1) 0).bind fun V4 =>
      some ((V4.1.1,([]:List (PN Int 6)),(1,(0,0),0),()),()))))))
def F45:Fn:=⟨[aiQ,.val ⟨true,GH,false⟩],[aee,aec,.val ⟨true,aeb,true⟩],fun k x=>S45 k x.1 x.2.1⟩
theorem ok45:O 45 F45:=okF (ah ok30 <| ah ok33 <| ah ok41 <| ah ok105 aj) [(8,2)] (fun k=>(.loop 21 aeS (ajo k) (fun g=>.nil) .nil)) Tryz.func45 rfl
abbrev ajp:Cut:=⟨[4,5,6,21,22,23],[.box 42 [cI,cI,.own 54 BU,.own 168 zk,.cell .bool,.cell .bool,.cell .bool,.own 59 KQ,.own 3 (.int .i64),.own 4 .bool,.own 142 zn,.own 3 (.int .i64),.own 4 .bool],.own 51 w9,.own 105 aeb,.cell (.sl 100 GH),cI,cI],[],46,[]⟩
def aqe (k:Nat) (g5:J6 -> KU -> (List JD) -> (List qc) -> Int -> Int -> Option (VF×Unit)) (a:SE) (b:List (PN Int 6)) (c:List JD) (e:List qc) (f h:Int):Option (VF×Unit) :=
 (bif decide (h<f) then
  ix e h <|
  (S45 k a (rd e h bq)).bind fun q1 =>
  ap b q1.1.2.1 48 fun r2 =>
  ap c ([q1.1.2.2.1]:List JD) 32 fun r3 =>
  g5 q1.1.1 r2 r3 e f (IntKind.i64.wrap (h+1))
 else
  some ((a,b,c,true,()),()))
def anX (k:Nat) (g:((Unit)×ad7×KU×(List JD)×(List qc)×Int×Int×Unit) -> Option (VF×Unit)) (d:(Unit)×ad7×KU×(List JD)×(List qc)×Int×Int×Unit):Option (VF×Unit):=aqe k (fun a b c e f h=>g ((),J4 a,b,c,e,f,h,())) (Z7 d.2.1) d.2.2.1 d.2.2.2.1 d.2.2.2.2.1 d.2.2.2.2.2.1 d.2.2.2.2.2.2.1
def aqf (k a:Nat) (b:SE) (c:List (PN Int 6)) (e:List JD) (f:List qc) (h i:Int):Option (VF×Unit):=iter ajp (anX k) a ((),J4 b,c,e,f,h,i,())
def S19 (k:Nat) (a:Int) (b:List qc):Option (VF×Unit) :=
 (S36 k a).bind fun q0 =>
 (bif !q0.1.2.1 then
  some (((0,0,[],[],false,false,false,[],(([],[]),[]),[],[]),([]:List (PN Int 6)),([]:List JD),false,()),())
 else
  aqf k k q0.1.1 ([]:List (PN Int 6)) ([]:List JD) b (b.length:Int) 0)
def F19:Fn:=⟨[au,.val ⟨false,(.sl 100 GH),false⟩],[aee,aec,.val ⟨false,(.sl 105 aeb),true⟩,rB],fun k x=>S19 k x.1 x.2.1⟩
theorem ok19:O 19 F19:=okF (ah ok36 <| ah ok45 aj) [(5,2),(6,2)] (fun k=>(.loop 5 ajp (anX k) (fun g=>.nil) .nil)) Tryz.func19 rfl
def S43 (k:Nat):Option KT :=
 (S19 k 10 ([(2,bn,0,0),(5,bn,0,3),(9,bn,0,0)]:List qc)).bind fun q0 =>
 (S19 k 0 []).bind fun q1 =>
 (S45 k q0.1.1 (3,bn,0,0)).bind fun q2 =>
 (bif q0.1.2.2.2.1 then
  (bif q0.1.1.1==4 then
   (bif (q0.1.2.1.length:Int)==0 then
    (bif (q0.1.2.2.1.length:Int)==3 then
     ix q0.1.2.2.1 2 <|
     (bif (rd q0.1.2.2.1 2 (0,(0,0),0)).1==1 then
      (bif !q1.1.2.2.2.1 then
       (bif q2.1.1.2.2.2.2.2.2.1 then
        some ((q2.1.2.2.1.1==0,()),())
       else
        some ((false,()),()))
      else
       some ((false,()),()))
     else
      some ((false,()),()))
    else
     some ((false,()),()))
   else
    some ((false,()),()))
  else
   some ((false,()),()))
 else
  some ((false,()),()))
def F43:Fn:=⟨[],[rB],fun k x=>S43 k ⟩
theorem ok43:O 43 F43:=okF (ah ok19 <| ah ok45 aj) [] On Tryz.func43 rfl
def S16 (k:Nat) (a:List Int):Option ((GI×Unit)×Unit) :=
 some (((a,0,()),()),())
def F16:Fn:=⟨[.val ⟨false,DN,false⟩],[.pv (.box 129 [.cell DN,cI])],fun k x=>S16 k x.1⟩
theorem ok16:O 16 F16:=okF aj [] On Tryz.func16 rfl
def AB (k:Nat) (a:List Int) (b c:Int):Option ((Int×Unit)×GI×Unit) :=
 (bif decide (b≥(a.length:Int)) then
  some ((0,()),(a,b,()),())
 else
  ix a (IntKind.i64.wrap ((IntKind.i64.wrap (b+1)) - 1)) <|
  nz c <|
  some ((Int.tmod (IntKind.i64.wrap (rd a (IntKind.i64.wrap ((IntKind.i64.wrap (b+1)) - 1)) 0)) c,()),(a,IntKind.i64.wrap (b+1),()),()))
def F29:Fn:=⟨[OQ,au],[rI],fun k ((a,b,_),c,_)=>AB k a b c⟩
theorem ok29:O 29 F29:=okF aj [] On Tryz.func29 rfl
def Va (k:Nat) (a:Int×ad9×(Int×Int)×Int×Int×Int):Option ((qc×Unit)×Unit) :=
 some (((1,a,0,0),()),())
def F40:Fn:=⟨[ap7],[.val ⟨true,GH,false⟩],fun k x=>Va k x.1⟩
theorem ok40:O 40 F40:=okF aj [] On Tryz.func40 rfl
def agD (k:Nat) (a:List Int) (b:Int):Option ((kr×Unit)×GI×Unit) :=
 (AB k a b 3).bind fun q0 =>
 (AB k q0.2.1.1 q0.2.1.2.1 3).bind fun q1 =>
 (AB k q1.2.1.1 q1.2.1.2.1 6).bind fun q2 =>
 (bif q2.1.1==0 then
  (AB k q2.2.1.1 q2.2.1.2.1 9).bind fun q3 =>
  some (((1,q0.1.1,0,IntKind.i64.wrap (q3.1.1 - 4)),()),q3.2.1,())
 else
  (bif q2.1.1==1 then
   some (((2,q0.1.1,q1.1.1,0),()),q2.2.1,())
  else
   (bif q2.1.1==2 then
    some (((3,q0.1.1,q1.1.1,0),()),q2.2.1,())
   else
    (bif q2.1.1==3 then
     some (((4,q0.1.1,q1.1.1,0),()),q2.2.1,())
    else
     (bif q2.1.1==4 then
      (AB k q2.2.1.1 q2.2.1.2.1 7).bind fun q4 =>
      some (((5,q0.1.1,0,IntKind.i64.wrap (q4.1.1 - 3)),()),q4.2.1,())
     else
      (AB k q2.2.1.1 q2.2.1.2.1 64).bind fun q5 =>
      some (((6,q0.1.1,0,IntKind.i64.wrap (1+q5.1.1)),()),q5.2.1,()))))))
def F281:Fn:=⟨[OQ],[aiU],fun k x=>agD k x.1.1 x.1.2.1⟩
theorem ok281:O 281 F281:=okF (ah ok29 aj) [] On Tryz.func281 rfl
abbrev aeT:Cut:=⟨[0,2,7,8],[.pin false 0,cI,.own 127 OM,cI],[.fK 129 [.cell DN,cI]],47,[]⟩
def Yj (k:Nat) (g3:ad8) (a:List Int) (b c:Int) (e:List kr) (f:Int):Option JC :=
 (bif decide (f>0) then
  (bif decide (c>0) then
   (AB k a b 4).bind fun q1 =>
   (bif q1.1.1==0 then
    (AB k q1.2.1.1 q1.2.1.2.1 c).bind fun q2 =>
    ap e ([(9,q2.1.1,0,0)]:List kr) 32 fun r3 =>
    (agD k q2.2.1.1 q2.2.1.2.1).bind fun q4 =>
    ap r3 ([q4.1.1]:List kr) 32 fun r5 =>
    ap r5 ([(10,q2.1.1,0,0)]:List kr) 32 fun r6 =>
    g3 q4.2.1.1 q4.2.1.2.1 c r6 (IntKind.i64.wrap (f - 1))
   else
    (agD k q1.2.1.1 q1.2.1.2.1).bind fun q7 =>
    ap e ([q7.1.1]:List kr) 32 fun r8 =>
    g3 q7.2.1.1 q7.2.1.2.1 c r8 (IntKind.i64.wrap (f - 1)))
  else
   (agD k a b).bind fun q9 =>
   ap e ([q9.1.1]:List kr) 32 fun r10 =>
   g3 q9.2.1.1 q9.2.1.2.1 c r10 (IntKind.i64.wrap (f - 1)))
 else
  some ((e,()),(a,b,()),()))
def ajq (k:Nat):Xx (((GI×Unit)×Unit×Int×(List kr)×Int×Unit) -> Option JC):=eu (d9 (d9 (dh (dh dx)) dx) (dw (dh (dh (dh dx))))) (Yj k)
def Yk (k a:Nat) (b:List Int) (c e:Int) (f:List kr) (h:Int):Option JC:=iter aeT (ajq k) a (((b,c,()),()),(),e,f,h,())
theorem aaX (k a b c e f h):Yk k (a+1) b c e f h=Yj k (Yk k a) b c e f h:=Ba _ _ _ _
def agE (k:Nat) (a:List Int) (b c e:Int):Option JC :=
 (AB k a b c).bind fun q0 =>
 Yk k k q0.2.1.1 q0.2.1.2.1 e ([]:List kr) (IntKind.i64.wrap (q0.1.1+1))
def F210:Fn:=⟨[OQ,au,au],[aiS],fun k ((a,b,_),c,e,_)=>agE k a b c e⟩
theorem ok210:O 210 F210:=okF (ah ok29 <| ah ok281 aj) [(7,2)] (fun k=>(.loop 3 aeT (ajq k) (fun g=>.nil) .nil)) Tryz.func210 rfl
abbrev ajr:Cut:=⟨[0,1,5,6,7],[.pin false 0,cI,.own 127 OM,cI,.own 127 OM],[.fK 129 [.cell DN,cI]],66,[]⟩
def EJ (k:Nat) (g3:ad8) (a:List Int) (b c:Int) (e:List kr) (f:Int) (x:List kr):Option JC :=
 (bif decide ((IntKind.i64.wrap ((e.length:Int)+(x.length:Int)))<23) then
  ap e x 32 fun r9 =>
  g3 a b c r9 (IntKind.i64.wrap (f - 1))
 else
  g3 a b c e (IntKind.i64.wrap (f - 1)))
abbrev aeU:Cut:=⟨[0,1,5,6],[.pin false 0,cI,.own 127 OM,cI],[.fK 129 [.cell DN,cI]],66,[]⟩
def Yl (k:Nat) (g3:ad8) (a:List Int) (b c:Int) (e:List kr) (f:Int):Option JC :=
 (bif decide (f>0) then
  (AB k a b 5).bind fun q1 =>
  (bif q1.1.1==0 then
   (agE k q1.2.1.1 q1.2.1.2.1 2 c).bind fun q2 =>
   (AB k q2.2.1.1 q2.2.1.2.1 3).bind fun q3 =>
   ap ([(8,0,(q2.1.1.length:Int),IntKind.i64.wrap (1+q3.1.1))]:List kr) q2.1.1 32 fun r4 =>
   EJ k g3 q3.2.1.1 q3.2.1.2.1 c e f r4
  else
   (bif q1.1.1==1 then
    (agE k q1.2.1.1 q1.2.1.2.1 2 c).bind fun q5 =>
    (AB k q5.2.1.1 q5.2.1.2.1 3).bind fun q6 =>
    ap ([(7,q6.1.1,0,(q5.1.1.length:Int))]:List kr) q5.1.1 32 fun r7 =>
    EJ k g3 q6.2.1.1 q6.2.1.2.1 c e f r7
   else
    (bif q1.1.1==2 then
     EJ k g3 q1.2.1.1 q1.2.1.2.1 c e f ([(11,0,0,0)]:List kr)
    else
     (agE k q1.2.1.1 q1.2.1.2.1 2 c).bind fun q8 =>
     EJ k g3 q8.2.1.1 q8.2.1.2.1 c e f q8.1.1)))
 else
  ap e ([(0,0,0,0)]:List kr) 32 fun r10 =>
  some ((r10,()),(a,b,()),()))
def ajs (k:Nat):Xx (((GI×Unit)×Unit×Int×(List kr)×Int×Unit) -> Option JC):=eu (d9 (d9 (dh (dh dx)) dx) (dw (dh (dh (dh dx))))) (Yl k)
def GJ (k a:Nat) (b:List Int) (c e:Int) (f:List kr) (h:Int):Option JC:=iter aeU (ajs k) a (((b,c,()),()),(),e,f,h,())
theorem aaY (k a b c e f h):GJ k (a+1) b c e f h=Yl k (GJ k a) b c e f h:=Ba _ _ _ _
def ajt (k:Nat) (a:List Int) (b c:Int):Option JC :=
 (AB k a b 4).bind fun q0 =>
 GJ k k q0.2.1.1 q0.2.1.2.1 c ([]:List kr) (IntKind.i64.wrap (q0.1.1+1))
def F120:Fn:=⟨[OQ,au],[aiS],fun k ((a,b,_),c,_)=>ajt k a b c⟩
theorem ok120:O 120 F120:=okF (ah ok29 <| ah ok210 aj) [(5,2)] (fun k=>(.loop 3 aeU (ajs k) (fun g=>(fun (g3:ad8)=>(.join 16 ajr (fun (((a,b,_),_),_,c,e,f,h,_)=>EJ k g3 a b c e f h) .nil)) (fun p2 p3 EK l_ i=>g (((p2,p3,()),()),(),EK,l_,i,()))) .nil)) Tryz.func120 rfl
abbrev aoU:Cut:=⟨[0,6,7],[.pin false 0,.box 54 [cI,cI,cI,.nil,.nil,.nil],.box 54 [cI,cI,cI,.own 127 OM,.cell yx,.own 127 OM]],[.fK 129 [.cell DN,cI]],41,[]⟩
def aaZ (k:Nat) (a:List Int) (b c e f h i l:Int) (m n o:List kr):Option ((ad9×Unit)×GI×Unit) :=
 (AB k a b 3).bind fun q5 =>
 (bif q5.1.1==0 then
  (ajt k q5.2.1.1 q5.2.1.2.1 0).bind fun q6 =>
  some (((h,i,l,m,n,q6.1.1),()),q6.2.1,())
 else
  some (((h,i,l,m,n,o),()),q5.2.1,()))
def S53 (k:Nat) (a:List Int) (b c e:Int):Option ((ad9×Unit)×GI×Unit) :=
 (ajt k a b e).bind fun q0 =>
 (AB k q0.2.1.1 q0.2.1.2.1 12).bind fun q1 =>
 (AB k q1.2.1.1 q1.2.1.2.1 10).bind fun q2 =>
 (AB k q2.2.1.1 q2.2.1.2.1 3).bind fun q3 =>
 (bif q3.1.1==0 then
  (AB k q3.2.1.1 q3.2.1.2.1 2).bind fun q4 =>
  sx ([(1,0,0,99),(0,0,0,0)]:List kr) q4.1.1 (([(1,0,0,99),(0,0,0,0)]:List kr).length:Int) <|
  aaZ k q4.2.1.1 q4.2.1.2.1 0 0 0 c (IntKind.i64.wrap (20+(IntKind.i64.wrap (10 * q1.1.1)))) (IntKind.i64.wrap ((IntKind.i64.wrap (20+(IntKind.i64.wrap (10 * q1.1.1)))) - q2.1.1)) q0.1.1 (sub ([(1,0,0,99),(0,0,0,0)]:List kr) q4.1.1 (([(1,0,0,99),(0,0,0,0)]:List kr).length:Int)) ([]:List kr)
 else
  aaZ k q3.2.1.1 q3.2.1.2.1 0 0 0 c (IntKind.i64.wrap (20+(IntKind.i64.wrap (10 * q1.1.1)))) (IntKind.i64.wrap ((IntKind.i64.wrap (20+(IntKind.i64.wrap (10 * q1.1.1)))) - q2.1.1)) q0.1.1 ([]:List kr) ([]:List kr))
def F53:Fn:=⟨[OQ,au,au],[.val ⟨true,BU,false⟩],fun k ((a,b,_),c,e,_)=>S53 k a b c e⟩
theorem ok53:O 53 F53:=okF (ah ok29 <| ah ok120 aj) [(12,2)] (fun k=>(.join 6 aoU (fun (((a,b,_),_),_,(c,e,f,_),(h,i,l,m,n,o,_),_)=>aaZ k a b c e f h i l m n o) .nil)) Tryz.func53 rfl
abbrev alS:Cut:=⟨[3],[.own 100 GH],[.fK 129 [.cell DN,cI]],60,[]⟩
def Ym (k:Nat) (a:List Int) (b:Int) (c:List qc):Option BD :=
 (Va k (5,bg,(0,0),0,0,0)).bind fun q14 =>
 ap c ([q14.1.1]:List qc) 168 fun r15 =>
 some ((r15,()),(a,b,()),())
abbrev alT:Cut:=⟨[0,3],[.pin false 0,.own 100 GH],[.fK 129 [.cell DN,cI]],60,[]⟩
def TD (k:Nat) (a:List Int) (b:Int) (c:List qc):Option BD :=
 (AB k a b 3).bind fun V4 =>
 (bif V4.1.1==0 then
  (Va k (4,bg,(0,0),0,0,0)).bind fun q12 =>
  ap c ([q12.1.1]:List qc) 168 fun r13 =>
  Ym k V4.2.1.1 V4.2.1.2.1 r13
 else
  Ym k V4.2.1.1 V4.2.1.2.1 c)
abbrev aju:Cut:=⟨[0,3,4,6],[.pin false 0,.own 100 GH,cI,cI],[.fK 129 [.cell DN,cI]],60,[]⟩
def aeV (k:Nat) (g8:(List Int) -> Int -> (List qc) -> Int -> Int -> Option BD) (a:List Int) (b:Int) (c:List qc) (e f:Int):Option BD :=
 (bif decide (f>0) then
  (AB k a b 3).bind fun q4 =>
  (S53 k q4.2.1.1 q4.2.1.2.1 (IntKind.i64.wrap ((IntKind.i64.wrap (3 * f))+q4.1.1)) e).bind fun q5 =>
  (Va k (1,q5.1.1,(0,0),0,0,0)).bind fun q6 =>
  ap c ([q6.1.1]:List qc) 168 fun r7 =>
  g8 q5.2.1.1 q5.2.1.2.1 r7 e (IntKind.i64.wrap (f - 1))
 else
  (AB k a b 3).bind fun q8 =>
  (bif q8.1.1==0 then
   (Va k (3,bg,(0,0),0,0,0)).bind fun q9 =>
   ap c ([q9.1.1]:List qc) 168 fun r10 =>
   TD k q8.2.1.1 q8.2.1.2.1 r10
  else
   TD k q8.2.1.1 q8.2.1.2.1 c))
def anY (k:Nat):Xx (((GI×Unit)×Unit×(List qc)×Int×Int×Unit) -> Option BD):=eu (d9 (d9 (dh (dh dx)) dx) (dw (dh (dh (dh dx))))) (aeV k)
def aa0 (k a:Nat) (b:List Int) (c:Int) (e:List qc) (f h:Int):Option BD:=iter aju (anY k) a (((b,c,()),()),(),e,f,h,())
theorem aeW (k a b c e f h):aa0 k (a+1) b c e f h=aeV k (aa0 k a) b c e f h:=Ba _ _ _ _
abbrev ajv:Cut:=⟨[0,3,4,5],[.pin false 0,.own 100 GH,cI,cI],[.fK 129 [.cell DN,cI]],60,[]⟩
def aeX (k:Nat) (g4:(List Int) -> Int -> (List qc) -> Int -> Int -> Option BD) (a:List Int) (b:Int) (c:List qc) (e f:Int):Option BD :=
 (bif decide (f<e) then
  (Va k (2,bg,(0,0),0,0,0)).bind fun q1 =>
  ap c ([q1.1.1]:List qc) 168 fun r2 =>
  g4 a b r2 e (IntKind.i64.wrap (f+1))
 else
  (AB k a b 4).bind fun q3 =>
  aa0 k k q3.2.1.1 q3.2.1.2.1 c e (IntKind.i64.wrap (q3.1.1+1)))
def anZ (k:Nat):Xx (((GI×Unit)×Unit×(List qc)×Int×Int×Unit) -> Option BD):=eu (d9 (d9 (dh (dh dx)) dx) (dw (dh (dh (dh dx))))) (aeX k)
def aeY (k a:Nat) (b:List Int) (c:Int) (e:List qc) (f h:Int):Option BD:=iter ajv (anZ k) a (((b,c,()),()),(),e,f,h,())
theorem aeZ (k a b c e f h):aeY k (a+1) b c e f h=aeX k (aeY k a) b c e f h:=Ba _ _ _ _
def S17 (k:Nat) (a:List Int) (b:Int):Option BD :=
 (AB k a b 4).bind fun q0 =>
 aeY k k q0.2.1.1 q0.2.1.2.1 ([]:List qc) q0.1.1 0
def F17:Fn:=⟨[OQ],[anP],fun k x=>S17 k x.1.1 x.1.2.1⟩
theorem ok17:O 17 F17:=okF (ah ok29 <| ah ok40 <| ah ok53 aj) [(3,2)] (fun k=>(.join 15 alS (fun (((a,b,_),_),c,_)=>Ym k a b c) (.join 13 alT (fun (((a,b,_),_),_,c,_)=>TD k a b c) (.loop 8 aju (anY k) (fun g=>.nil) (.loop 4 ajv (anZ k) (fun g=>.nil) .nil))))) Tryz.func17 rfl
def S28 (k:Nat) (a:(List Int)×Int):Option KT :=
 some ((decide (a.2≥(a.1.length:Int)),()),())
def F28:Fn:=⟨[.pv (.ref (.pair DN (.int .i64)))],[rB],fun k x=>S28 k x.1⟩
theorem ok28:O 28 F28:=okF aj [] On Tryz.func28 rfl
def S38 (k:Nat) (a:List Int) (b:Int):Option ((qc×Unit)×GI×Unit) :=
 (AB k a b 8).bind fun q0 =>
 (AB k q0.2.1.1 q0.2.1.2.1 5).bind fun q1 =>
 (AB k q1.2.1.1 q1.2.1.2.1 24).bind fun q2 =>
 (bif q2.1.1==0 then
  (AB k q2.2.1.1 q2.2.1.2.1 6).bind fun q3 =>
  (AB k q3.2.1.1 q3.2.1.2.1 9).bind fun q4 =>
  (Va k (6,bg,(0,0),q3.1.1,IntKind.i64.wrap (q4.1.1 - 4),0)).bind fun q5 =>
  some ((q5.1.1,()),q4.2.1,())
 else
  (bif q2.1.1==1 then
   (AB k q2.2.1.1 q2.2.1.2.1 6).bind fun q6 =>
   (AB k q6.2.1.1 q6.2.1.2.1 9).bind fun q7 =>
   (Va k (6,bg,(0,0),q6.1.1,IntKind.i64.wrap (q7.1.1 - 4),0)).bind fun q8 =>
   some ((q8.1.1,()),q7.2.1,())
  else
   (bif q2.1.1==2 then
    (AB k q2.2.1.1 q2.2.1.2.1 6).bind fun q9 =>
    (AB k q9.2.1.1 q9.2.1.2.1 9).bind fun q10 =>
    (Va k (6,bg,(0,0),q9.1.1,IntKind.i64.wrap (q10.1.1 - 4),0)).bind fun V4 =>
    some ((V4.1.1,()),q10.2.1,())
   else
    (bif q2.1.1==3 then
     (AB k q2.2.1.1 q2.2.1.2.1 6).bind fun q12 =>
     (AB k q12.2.1.1 q12.2.1.2.1 9).bind fun q13 =>
     (Va k (6,bg,(0,0),q12.1.1,IntKind.i64.wrap (q13.1.1 - 4),0)).bind fun q14 =>
     some ((q14.1.1,()),q13.2.1,())
    else
     (bif q2.1.1==4 then
      (AB k q2.2.1.1 q2.2.1.2.1 6).bind fun q15 =>
      (AB k q15.2.1.1 q15.2.1.2.1 9).bind fun q16 =>
      (Va k (6,bg,(0,0),q15.1.1,IntKind.i64.wrap (q16.1.1 - 4),0)).bind fun q17 =>
      some ((q17.1.1,()),q16.2.1,())
     else
      (bif q2.1.1==5 then
       some (((3,bn,0,0),()),q2.2.1,())
      else
       (bif q2.1.1==6 then
        (AB k q2.2.1.1 q2.2.1.2.1 9).bind fun q18 =>
        some (((4,bn,q18.1.1,0),()),q18.2.1,())
       else
        (bif q2.1.1==7 then
         (AB k q2.2.1.1 q2.2.1.2.1 99).bind fun q19 =>
         (Va k (7,bg,(q0.1.1,IntKind.i64.wrap (1+(IntKind.i64.wrap (Int.tdiv q1.1.1 4)))),0,q19.1.1,0)).bind fun q20 =>
         some ((q20.1.1,()),q19.2.1,())
        else
         (bif q2.1.1==8 then
          (AB k q2.2.1.1 q2.2.1.2.1 4).bind fun q21 =>
          (Va k (8,bg,(q0.1.1,IntKind.i64.wrap (1+(IntKind.i64.wrap (Int.tdiv q1.1.1 4)))),q21.1.1,0,0)).bind fun q22 =>
          some ((q22.1.1,()),q21.2.1,())
         else
          (bif q2.1.1==9 then
           (AB k q2.2.1.1 q2.2.1.2.1 16).bind fun q23 =>
           (Va k (9,bg,(q0.1.1,IntKind.i64.wrap (1+(IntKind.i64.wrap (Int.tdiv q1.1.1 4)))),0,0,IntKind.u32.wrap q23.1.1)).bind fun q24 =>
           some ((q24.1.1,()),q23.2.1,())
          else
           (bif q2.1.1==10 then
            (AB k q2.2.1.1 q2.2.1.2.1 4).bind fun q25 =>
            (AB k q25.2.1.1 q25.2.1.2.1 16).bind fun q26 =>
            (Va k (10,bg,(q0.1.1,IntKind.i64.wrap (1+(IntKind.i64.wrap (Int.tdiv q1.1.1 4)))),q25.1.1,0,IntKind.u32.wrap q26.1.1)).bind fun q27 =>
            some ((q27.1.1,()),q26.2.1,())
           else
            (bif q2.1.1==11 then
             (AB k q2.2.1.1 q2.2.1.2.1 12).bind fun q28 =>
             (AB k q28.2.1.1 q28.2.1.2.1 6).bind fun q29 =>
             (AB k q29.2.1.1 q29.2.1.2.1 9).bind fun q30 =>
             (S53 k q30.2.1.1 q30.2.1.2.1 q30.1.1 2).bind fun q31 =>
             (Va k (IntKind.i64.wrap (1+q28.1.1),q31.1.1,(q0.1.1,IntKind.i64.wrap (1+(IntKind.i64.wrap (Int.tdiv q1.1.1 4)))),q29.1.1,0,0)).bind fun q32 =>
             some ((q32.1.1,()),q31.2.1,())
            else
             (bif q2.1.1==12 then
              (AB k q2.2.1.1 q2.2.1.2.1 30).bind fun q33 =>
              some (((5,bn,0,IntKind.i64.wrap (1+q33.1.1)),()),q33.2.1,())
             else
              (bif q2.1.1==13 then
               (AB k q2.2.1.1 q2.2.1.2.1 30).bind fun q34 =>
               some (((5,bn,0,IntKind.i64.wrap (1+q34.1.1)),()),q34.2.1,())
              else
               some (((2,bn,0,0),()),q2.2.1,())))))))))))))))
def F38:Fn:=⟨[OQ],[.val ⟨true,GH,false⟩],fun k x=>S38 k x.1.1 x.1.2.1⟩
theorem ok38:O 38 F38:=okF (ah ok29 <| ah ok40 <| ah ok53 aj) [] On Tryz.func38 rfl
abbrev ajw:Cut:=⟨[0,1,5,6],[.pin false 0,cI,.own 100 GH,cI],[.fK 129 [.cell DN,cI]],25,[]⟩
def ae0 (k:Nat) (g3:(List Int) -> Int -> Int -> (List qc) -> Int -> Option BD) (a:List Int) (b c:Int) (e:List qc) (f:Int):Option BD :=
 (bif decide (f<c) then
  (S28 k (a,b)).bind fun q1 =>
  (bif !q1.1.1 then
   (S38 k a b).bind fun q2 =>
   ap e ([q2.1.1]:List qc) 168 fun r3 =>
   g3 q2.2.1.1 q2.2.1.2.1 c r3 (IntKind.i64.wrap (f+1))
  else
   some ((e,()),(a,b,()),()))
 else
  some ((e,()),(a,b,()),()))
def an0 (k:Nat):Xx (((GI×Unit)×Unit×Int×(List qc)×Int×Unit) -> Option BD):=eu (d9 (d9 (dh (dh dx)) dx) (dw (dh (dh (dh dx))))) (ae0 k)
def ae1 (k a:Nat) (b:List Int) (c e:Int) (f:List qc) (h:Int):Option BD:=iter ajw (an0 k) a (((b,c,()),()),(),e,f,h,())
theorem ae2 (k a b c e f h):ae1 k (a+1) b c e f h=ae0 k (ae1 k a) b c e f h:=Ba _ _ _ _
def S18 (k:Nat) (a:List Int) (b c:Int):Option BD :=
 (S17 k a b).bind fun q0 =>
 ae1 k k q0.2.1.1 q0.2.1.2.1 c q0.1.1 0
def F18:Fn:=⟨[OQ,au],[anP],fun k ((a,b,_),c,_)=>S18 k a b c⟩
theorem ok18:O 18 F18:=okF (ah ok17 <| ah ok28 <| ah ok38 aj) [] (fun k=>(.loop 3 ajw (an0 k) (fun g=>.nil) .nil)) Tryz.func18 rfl
end
end Go.Proofs.YtjjjbcmjmkcedaaGreat.Ab
