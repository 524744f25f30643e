import Derived.Test.YtjjjbcmjmkcedaaGreatAbX0
/- Contracts, printed by this session's own program gen.py. -/
set_option linter.unusedVariables false
set_option linter.unusedSimpArgs false
set_option maxRecDepth 100000
namespace Go.Proofs.YtjjjbcmjmkcedaaGreat.Ab
open Go.RowKit
abbrev ape:Type:=Int×Int×(List (Int×Int×Int×(List (Int×Int×Int×Int))×(List (Int×Int×Int×Int))×List (Int×Int×Int×Int)))×(List (PN Int 5))×Bool×Bool×Bool×(List (Int×Int×Int×Int×(Int×(PN Int 8)×(List (Int×Int×Int))×Bool)×(Int×(PN Int 8)×(List (Int×Int×Int))×Bool)×(List Int)×Bool))×(List Int)×(List Bool)×(List (Int×(Int×Int)×(Int×Int)×((List Int)×List Int)×(Int×List (Int×Int))×Int))×(List Int)×(List Bool)×(List (PN Int 6))×Unit
abbrev JD:Type:=Int×Int×(List (Int×Int×Int×(List (Int×Int×Int×Int))×(List (Int×Int×Int×Int))×List (Int×Int×Int×Int)))×(List (PN Int 5))×Bool×Bool×Bool×(List (Int×Int×Int×Int×(Int×(PN Int 8)×(List (Int×Int×Int))×Bool)×(Int×(PN Int 8)×(List (Int×Int×Int))×Bool)×(List Int)×Bool))×(((List Int)×List Bool)×List (Int×(Int×Int)×(Int×Int)×((List Int)×List Int)×(Int×List (Int×Int))×Int))×(List Int)×List Bool
abbrev LA:Ty:=.pair (.int .i64) (.pair (.int .i64) (.pair (.int .i64) (.pair (.int .i64) (.pair (.pair (.int .i64) (.pair (Am 8 (.int .i64)) (.pair (.sl 293 (.pair (.int .i64) (.pair (.int .i64) (.int .i64)))) .bool))) (.pair (.pair (.int .i64) (.pair (Am 8 (.int .i64)) (.pair (.sl 293 (.pair (.int .i64) (.pair (.int .i64) (.int .i64)))) .bool))) (.pair (.sl 3 (.int .i64)) .bool))))))
abbrev CG:Ty:=.pair (.int .i64) (.pair (.int .i64) (.pair (.int .i64) (.pair (.sl 127 (.pair (.int .i64) (.pair (.int .i64) (.pair (.int .i64) (.int .i64))))) (.pair (.sl 127 (.pair (.int .i64) (.pair (.int .i64) (.pair (.int .i64) (.int .i64))))) (.sl 127 (.pair (.int .i64) (.pair (.int .i64) (.pair (.int .i64) (.int .i64)))))))))
abbrev ai5:Type:=Int×Int×(List (Int×Int×Int×(List (Int×Int×Int×Int))×(List (Int×Int×Int×Int))×List (Int×Int×Int×Int)))×(List (PN Int 5))×Bool×Bool×Bool×(List (Int×Int×Int×Int×(Int×(PN Int 8)×(List (Int×Int×Int))×Bool)×(Int×(PN Int 8)×(List (Int×Int×Int))×Bool)×(List Int)×Bool))×(List Int)×(List Bool)×(List (Int×(Int×Int)×(Int×Int)×((List Int)×List Int)×(Int×List (Int×Int))×Int))×(List Int)×(List Bool)×Int×Int×Int×Int×(List (Int×Int×Int×Int))×(List (Int×Int×Int×Int))×(List (Int×Int×Int×Int))×Int×Int×Int×Int×Int×(List (PN Int 6))×Int×Int×Int×Int×Unit
abbrev A9:Ty:=.pair (.int .i64) (.pair (.pair (.int .i64) (.int .i64)) (.pair (.pair (.int .i64) (.int .i64)) (.pair (.pair (.sl 2 (.int .i64)) (.sl 3 (.int .i64))) (.pair (.pair (.int .u32) (.sl 266 (.pair (.int .i64) (.int .u32)))) (.int .u32)))))
abbrev agO:Type:=Int×(Int×Int×Int×(List (Int×Int×Int×Int))×(List (Int×Int×Int×Int))×List (Int×Int×Int×Int))×(Int×Int)×Int×Int×Int
abbrev BS:Type:=Int×Int×Int×Int×(Int×(PN Int 8)×(List (Int×Int×Int))×Bool)×(Int×(PN Int 8)×(List (Int×Int×Int))×Bool)×(List Int)×Bool
abbrev D5:Type:=Int×(Int×Int)×(Int×Int)×((List Int)×List Int)×(Int×List (Int×Int))×Int
abbrev GL:Ty:=.pair (.int .i64) (.int .i64)
abbrev AY:Type:=Int×Int×Int×Int×(Int×(PN Int 8)×(List (Int×Int×Int))×Bool)×(Int×(PN Int 8)×(List (Int×Int×Int))×Bool)×(List Int)×Bool
abbrev kr:Type:=Int×Int×Int×Int
abbrev aob:Ty:=.pair (.int .i64) (.pair (.int .i64) (.pair (.sl 54 CG) (.pair (.sl 168 (Am 5 (.int .i64))) (.pair .bool (.pair .bool (.pair .bool (.pair (.sl 59 LA) (.pair (.pair (.pair (.sl 3 (.int .i64)) (.sl 4 .bool)) (.sl 142 A9)) (.pair (.sl 3 (.int .i64)) (.sl 4 .bool))))))))))
abbrev OY:Ty:=.pair (.int .i64) (.pair (.int .i64) GL)
abbrev ai6:Type:=Int×Int×Int×Int×Int×Int×Int×Int×Int×Int×Int×Int×Int×(List (Int×Int×Int))×Bool×Int×Int×Int×Int×Int×Int×Int×Int×Int×(List (Int×Int×Int))×Bool×(List Int)×Bool×Unit
abbrev BQ:Type:=((List (Int×agO×Int×Int))×Unit)×((List Int)×Int×Unit)×Unit
abbrev SL:Type:=Int×Int×(List (Int×Int×Int×(List kr)×(List kr)×List kr))×(List (PN Int 5))×Bool×Bool×Bool×(List BS)×(((List Int)×List Bool)×List D5)×(List Int)×List Bool
abbrev JK:Ty:=.pair (.int .i64) (.pair (.pair (.int .i64) (.pair CG (.pair GL (.pair (.int .i64) (.pair (.int .i64) (.int .u32)))))) GL)
abbrev l9:Type:=(Unit)×ape×Unit
abbrev JL:Type:=((List kr)×Unit)×((List Int)×Int×Unit)×Unit
abbrev ql:Type:=Int×agO×Int×Int
abbrev VG:Type:=((((List Int)×List Bool)×List D5)×(List Int)×(List (List Int))×Unit)×Unit
abbrev o8:Ty:=.sl 3 (.int .i64)
abbrev aem:Type:=Int×Int×(List (Int×Int×Int×(List kr)×(List kr)×List kr))×(List (PN Int 5))×Bool×Bool×Bool×(List BS)×(List Int)×(List Bool)×(List D5)×(List Int)×(List Bool)×Unit
abbrev OZ:Type:=(JD×List (PN Int 6)) -> (List (List Int)) -> (List Int) -> Int -> Int -> Option l9
abbrev p8:Type:=List (Int×Int)
abbrev qg:Type:=Int×Int×Int
abbrev y9:Type:=(Int×Bool×Unit)×Unit
abbrev aoc:Ty:=.pair (.int .i64) (.pair (Am 8 (.int .i64)) (.pair (.sl 293 (.pair (.int .i64) GL)) .bool))
abbrev x9:Ty:=Am 6 (.int .i64)
abbrev JM:Type:=Int×(Int×Int)×Int
abbrev qm:Type:=JD×List (PN Int 6)
abbrev LB:Type:=JD×agO×(List (PN Int 6))×Int×(Int×Int)×Int
abbrev u7:Type:=(Int×Unit)×Unit
abbrev zx:Ty:=Am 5 (.int .i64)
abbrev GN:Type:=(List Int)×Int×Unit
abbrev ow:Type:=List (Int×Int)
abbrev SN:Type:=((Int×(PN Int 8)×(List qg)×Bool)×Unit)×Unit
abbrev yw:Ty:=.pair (.int .i64) GL
abbrev FU:Ty:=.pair (.int .i64) (.int .u32)
abbrev ai7:Type:=(List Int) -> (List Bool) -> (List D5) -> (List Int) -> (List Bool) -> (List D5) -> (List Int) -> (List (List Int)) -> (List D5) -> Int -> Int -> Option VG
abbrev VH:Type:=JD×(List (PN Int 6))×(List JM)×Bool×Unit
abbrev FV:Type:=((List Int)×Unit)×Unit
abbrev SQ:Type:=(JD×(List (PN Int 6))×JM×Unit)×Unit
abbrev yc:Ty:=.sl 127 OY
abbrev aaG:Type:=((Int×List (Int×Int))×(List Int)×Unit)×Unit
abbrev aod:Type:=Int×Int×Int×Int×Int×Int×Int×Int×Int×(List qg)×Bool×Unit
abbrev CJ:Type:=(Unit)×ai5×Unit
abbrev DY:Ty:=.sl 5 (.int .u8)
abbrev aoe:Ty:=.pair (.pair o8 (.sl 4 .bool)) (.sl 142 A9)
abbrev CK:Type:=List (List Int)
abbrev aen:Type:=(List Int) -> Int -> Int -> (List kr) -> Int -> Option JL
abbrev VI:Type:=(BS×kr×Bool×Unit)×Unit
abbrev aeo:Type:=Int×Int×Int×(List kr)×(List kr)×List kr
abbrev SS:Ty:=.sl 121 GL
abbrev aaH:Type:=(Int×Int×Bool×Unit)×Unit
abbrev DZ:Ty:=.sl 4 .bool
abbrev LC:Type:=(Bool×Unit)×Unit
abbrev aaI:Type:=(Bool×Unit)×ape×ai6×Unit
abbrev VJ:Type:=Int×Int×Int×Int×Unit
abbrev SV:Type:=(List Int)×List Bool
abbrev aof:Type:=(List Int)×(List Bool)×(List D5)×Unit
abbrev ai8:Type:=Int×Int×Int×(List kr)×(List kr)×List kr
abbrev aep:Ty:=.pair (.int .i64) (.pair GL (.int .i64))
abbrev VK:Type:=(p8×Unit)×Unit
abbrev FW:Ty:=.sl 59 LA
abbrev D8:Type:=ape×Unit
abbrev aog:Type:=Int×Int×Unit×Unit×Bool×Bool×Bool×Unit×Unit×Unit×Unit×Unit×Unit×Unit
abbrev LD:Type:=List (PN Int 6)
abbrev alD:PT:=.fK 175 [cI,cI,.cell (.sl 54 CG),.cell (.sl 168 zx),.cell .bool,.cell .bool,.cell .bool,.cell FW,.cell o8,.cell DZ,.cell (.sl 142 A9),.cell o8,.cell DZ,cI,cI,cI,cI,.cell yc,.cell yc,.cell yc,cI,cI,cI,cI,.cell (.int .u32),.own 51 x9,cI,cI,cI,cI]
abbrev XW:PT:=.fK 166 [cI,cI,.own 54 CG,.own 168 zx,.cell .bool,.cell .bool,.cell .bool,.own 59 LA,.own 3 (.int .i64),.own 4 .bool,.own 142 A9,.own 3 (.int .i64),.own 4 .bool,.own 51 x9]
abbrev apf:PT:=.fK 166 [cI,cI,.own 54 CG,.own 168 zx,.cell .bool,.cell .bool,.cell .bool,.cell FW,.own 3 (.int .i64),.own 4 .bool,.own 142 A9,.own 3 (.int .i64),.own 4 .bool,.own 51 x9]
abbrev aqJ:PT:=.fK 59 [cI,cI,cI,cI,cI,cI,cI,cI,cI,cI,cI,cI,cI,.cell (.sl 293 yw),.cell .bool,cI,cI,cI,cI,cI,cI,cI,cI,cI,.cell (.sl 293 yw),.cell .bool,.cell o8,.cell .bool]
abbrev aqK:PT:=.val ⟨true,(.pair (.int .u32) (.sl 266 FU)),false⟩
abbrev aqL:RT:=.val ⟨true,(.pair (.int .u32) (.sl 266 FU)),true⟩
abbrev apg:PT:=.val ⟨true,(.pair o8 DZ),false⟩
abbrev aqM:RT:=.val ⟨true,(.pair o8 DZ),true⟩
abbrev aqN:PT:=.val ⟨false,(.sl 266 FU),false⟩
abbrev aqO:RT:=.val ⟨false,(.sl 100 JK),true⟩
abbrev aer:RT:=.val ⟨false,(.sl 51 x9),true⟩
abbrev P7:PT:=.fK 129 [.cell DY,cI]
abbrev FX:PT:=.val ⟨false,SS,false⟩
abbrev SX:RT:=.val ⟨false,o8,true⟩
abbrev ai9:PT:=.val ⟨true,aoe,false⟩
abbrev aja:PT:=.val ⟨true,aob,false⟩
abbrev aes:RT:=.val ⟨false,SS,true⟩
abbrev ajb:PT:=.val ⟨true,aoc,false⟩
abbrev ajc:RT:=.val ⟨false,yc,true⟩
abbrev ajd:RT:=.val ⟨true,aoe,true⟩
abbrev aeu:RT:=.val ⟨true,aob,true⟩
abbrev JN:PT:=.val ⟨true,LA,false⟩
abbrev aev:RT:=.val ⟨true,aoc,true⟩
abbrev aew:PT:=.val ⟨true,CG,false⟩
abbrev aje:RT:=.val ⟨true,OY,true⟩
abbrev aaJ:RT:=.val ⟨true,LA,true⟩
noncomputable section
abbrev ajf:Cut:=⟨[0,2,3,5,28,29,30],[.pin false 0,cI,.box 142 [cI,cI,cI,cI,cI,.cell (.sl 2 (.int .i64)),.cell o8,.cell (.int .u32),.cell (.sl 266 FU),.cell (.int .u32)],.box 138 [.cell (.int .u32),.own 266 FU],.own 266 FU,cI,cI],[.fK 175 [cI,cI,.cell (.sl 54 CG),.cell (.sl 168 zx),.cell .bool,.cell .bool,.cell .bool,.cell FW,.cell o8,.cell DZ,.cell (.sl 142 A9),.cell o8,.cell DZ,cI,cI,cI,cI,.cell yc,.cell yc,.cell yc,cI,cI,cI,cI,.cell (.int .u32),.own 51 x9,cI,cI,cI,cI]],56,[]⟩
def aex (k:Nat) (g4:(JD×agO×LD×Int×(Int×Int)×Int) -> Int -> Int -> Int -> Int -> Int -> Int -> (List Int) -> (List Int) -> Int -> p8 -> Int -> Int -> p8 -> p8 -> Int -> Int -> Option CJ) (a:LB) (b x c e f h:Int) (i l:List Int) (m:Int) (n:ow) (o p:Int) (s t:ow) (u v:Int):Option CJ :=
 (bif decide (v<u) then
  ix t v <|
  (ai0 k a (rd t v (0,0)).1 (IntKind.i64.wrap (rd t v (0,0)).2) 0).bind fun q2 =>
  g4 (qh q2.2.1) b x c e f h i l m n o p s t u (IntKind.i64.wrap (v+1))
 else
  (JC k a.1.2.2.2.2.2.2.2.2.1 b (x,(c,e),(f,h),(i,l),(p,s),o)).bind fun q3 =>
  some ((),BR ((w8 a.1 q3.1.1),a.2),()))
def aoh (k:Nat) (g:((ai5×Unit)×Unit×Int×(Int×Int×Int×Int×Int×(List Int)×(List Int)×Int×p8×Int×Unit)×(Int×p8×Unit)×p8×Int×Int×Unit) -> Option CJ) (d:(ai5×Unit)×Unit×Int×(Int×Int×Int×Int×Int×(List Int)×(List Int)×Int×p8×Int×Unit)×(Int×p8×Unit)×p8×Int×Int×Unit):Option CJ:=aex k (fun a b x c e f h i l m n o p s t u v=>g ((BR a,()),(),b,(x,c,e,f,h,i,l,m,n,o,()),(p,s,()),t,u,v,())) (qh d.1.1) d.2.2.1 d.2.2.2.1.1 d.2.2.2.1.2.1 d.2.2.2.1.2.2.1 d.2.2.2.1.2.2.2.1 d.2.2.2.1.2.2.2.2.1 d.2.2.2.1.2.2.2.2.2.1 d.2.2.2.1.2.2.2.2.2.2.1 d.2.2.2.1.2.2.2.2.2.2.2.1 d.2.2.2.1.2.2.2.2.2.2.2.2.1 d.2.2.2.1.2.2.2.2.2.2.2.2.2.1 d.2.2.2.2.1.1 d.2.2.2.2.1.2.1 d.2.2.2.2.2.1 d.2.2.2.2.2.2.1 d.2.2.2.2.2.2.2.1
def aey (k a:Nat) (b:LB) (c x e f h i:Int) (l m:List Int) (n:Int) (o:ow) (p s:Int) (t u:ow) (v w:Int):Option CJ:=iter ajf (aoh k) a ((BR b,()),(),c,(x,e,f,h,i,l,m,n,o,p,()),(s,t,()),u,v,w,())
theorem aez (k a b c x e f h i l m n o p s t u v w):aey k (a+1) b c x e f h i l m n o p s t u v w=aex k (aey k a) b c x e f h i l m n o p s t u v w:=Ba _ _ _ _
def S95 (k:Nat) (a:LB):Option CJ :=
 (acj k a 3).bind fun ((b,(c,(e,f),(h,i),(l,m),n,o),p,_),s,_) =>
 (bif !p then
  some ((),s,())
 else
  (ai4 k n (qh s).2.1.2.2.2.2.2).bind fun q1 =>
  aey k k (qh s) b c e f h i l m n.1 n.2 o q1.1.1.1 q1.1.1.2 q1.1.2.1 (q1.1.2.1.length:Int) 0)
def F95:Fn:=⟨[alD],[],fun k x=>S95 k (qh x.1)⟩
theorem ok95:O 95 F95:=okF (ah ok128 <| ah ok168 <| ah ok170 <| ah ok172 aj) [] (fun k=>(.loop 4 ajf (aoh k) (fun g=>.nil) .nil)) Tryz.func95 rfl
def aph (k:Nat) (a:Int×Int) (b:Int):Option LC :=
 some ((a.1==b,()),())
def F258:Fn:=⟨[.val ⟨true,FU,false⟩,.pv (.ref (.int .i64))],[rB],fun k x=>aph k x.1 x.2.1⟩
theorem ok258:O 258 F258:=okF aj [] On Tryz.func258 rfl
abbrev aeA:Cut:=⟨[0,1,7,8],[.cell (.sl 266 FU),.lJ 258 [.ref (.int .i64)],cI,cI],[],19,[]⟩
def XY (k:Nat) (g2:p8 -> Int -> Int -> Int -> Option u7) (a:ow) (b c e:Int):Option u7 :=
 (bif decide (e<c) then
  ix a e <|
  (aph k (rd a e (0,0)) b).bind fun q0 =>
  (bif q0.1.1 then
   some ((e,()),())
  else
   g2 a b c (IntKind.i64.wrap (e+1)))
 else
  some (((-1),()),()))
def ajg (k:Nat):Xx (((Unit)×p8×(Int×Unit)×Int×Int×Unit) -> Option u7):=eu (dw (dh (d9 (dh dx) (dh (dh dx))))) (XY k)
def N9 (k a:Nat) (b:ow) (c e f:Int):Option u7:=iter aeA (ajg k) a ((),b,(c,()),e,f,())
theorem aaK (k a b c e f):N9 k (a+1) b c e f=XY k (N9 k a) b c e f:=Ba _ _ _ _
def alE (k:Nat) (a:ow) (b:Int):Option u7 :=
 N9 k k a b (a.length:Int) 0
def F328:Fn:=⟨[aqN,.pv (.lJ 258 [.ref (.int .i64)])],[rI],fun k x=>alE k x.1 x.2.1.1⟩
theorem ok328:O 328 F328:=okF (ah ok258 aj) [] (fun k=>(.loop 2 aeA (ajg k) (fun g=>.nil) .nil)) Tryz.func328 rfl
def apj (k:Nat) (a:ow) (b:Int):Option LC :=
 (alE k a b).bind fun q0 =>
 some ((decide (q0.1.1≥0),()),())
def F257:Fn:=⟨[aqN,.pv (.lJ 258 [.ref (.int .i64)])],[rB],fun k x=>apj k x.1 x.2.1.1⟩
theorem ok257:O 257 F257:=okF (ah ok328 aj) [] On Tryz.func257 rfl
def ajh (k:Nat) (a:Int×List (Int×Int)) (b c:Int):Option (((Int×List (Int×Int))×Int×Bool×Unit)×Unit) :=
 (aan k a.2).bind fun q0 =>
 (bif decide (b<1) then
  some (((a.1,q0.1.1),0,false,()),())
 else
  (bif c==0 then
   some (((a.1,q0.1.1),0,false,()),())
  else
   (bif (Um .u32 a.1 c) != 0 then
    some (((Ru .u32 a.1 (Um .u32 a.1 c),q0.1.1),Um .u32 a.1 c,true,()),())
   else
    (bif decide ((a.2.length:Int)≥4) then
     some (((a.1,q0.1.1),0,false,()),())
    else
     (apj k a.2 b).bind fun q1 =>
     (bif q1.1.1 then
      some (((a.1,q0.1.1),0,false,()),())
     else
      ap q0.1.1 ([(b,c)]:List (Int×Int)) 16 fun r2 =>
      some (((a.1,r2),0,true,()),()))))))
def F173:Fn:=⟨[aqK,au,.val ⟨false,(.int .u32),false⟩],[aqL,.val ⟨false,(.int .u32),true⟩,rB],fun k (a,b,c,_)=>ajh k a b c⟩
theorem ok173:O 173 F173:=okF (ah ok256 <| ah ok257 aj) [] On Tryz.func173 rfl
def S96 (k:Nat) (a:LB):Option CJ :=
 (acj k a 3).bind fun q0 =>
 (bif !q0.1.2.2.1 then
  some ((),q0.2.1,())
 else
  (ajh k q0.1.2.1.2.2.2.2.1 (qh q0.2.1).2.1.2.2.2.1 (qh q0.2.1).2.1.2.2.2.2.2).bind fun q1 =>
  (bif !q1.1.2.2.1 then
   some ((),BR (w3 (qh q0.2.1) 1),())
  else
   (bif q1.1.2.1==0 then
    (JC k (qh q0.2.1).1.2.2.2.2.2.2.2.2.1 q0.1.1 (w4 q0.1.2.1 q1.1.1)).bind fun q2 =>
    some ((),BR ((w8 (qh q0.2.1).1 q2.1.1),(qh q0.2.1).2.1,(qh q0.2.1).2.2.1,16,(qh q0.2.1).2.2.2.2.1,IntKind.i64.wrap q1.1.2.1),())
   else
    (JC k (qh q0.2.1).1.2.2.2.2.2.2.2.2.1 q0.1.1 (w4 q0.1.2.1 q1.1.1)).bind fun q3 =>
    some ((),BR (w0 (z5 (qh q0.2.1) (IntKind.i64.wrap q1.1.2.1)) (w8 (qh q0.2.1).1 q3.1.1)),()))))
def F96:Fn:=⟨[alD],[],fun k x=>S96 k (qh x.1)⟩
theorem ok96:O 96 F96:=okF (ah ok128 <| ah ok168 <| ah ok173 aj) [] On Tryz.func96 rfl
def alF (k:Nat) (a:(List Int)×List Bool) (b:Int×Int):Option ((SV×Bool×Unit)×Unit) :=
 (aiM k a).bind fun q0 =>
 (aiX k q0.1.1 b).bind fun q1 =>
 (bif !q1.1.1 then
  some ((q0.1.1,false,()),())
 else
  ix q0.1.1.2 b.1 <|
  some (((q0.1.1.1,upd q0.1.1.2 b.1 false),true,()),()))
def F259:Fn:=⟨[apg,.val ⟨true,GL,false⟩],[aqM,rB],fun k x=>alF k x.1 x.2.1⟩
theorem ok259:O 259 F259:=okF (ah ok324 <| ah ok327 aj) [] On Tryz.func259 rfl
def alG (k:Nat) (a:(List Int)×List Int):Option ((((List Int)×List Int)×(List Int)×Unit)×Unit) :=
 (GJ k a.2).bind fun q0 =>
 some ((([],[]),q0.1.1,()),())
def F296:Fn:=⟨[.val ⟨true,(.pair (.sl 2 (.int .i64)) o8),false⟩],[.val ⟨true,(.pair (.sl 2 (.int .i64)) o8),true⟩,SX],fun k x=>alG k x.1⟩
theorem ok296:O 296 F296:=okF (ah ok219 aj) [] On Tryz.func296 rfl
abbrev aeB:Cut:=⟨[2,3,7,8,9],[.box 138 [.cell (.int .u32),.nil],.own 3 (.int .i64),.cell (.sl 266 FU),cI,cI],[],21,[]⟩
def XZ (k:Nat) (g2:Int -> (List Int) -> p8 -> Int -> Int -> Option aaG) (x:Int) (a:List Int) (b:ow) (c e:Int):Option aaG :=
 (bif decide (e<c) then
  ix b e <|
  ap a ([(rd b e (0,0)).1]:List Int) 8 fun r0 =>
  g2 x r0 b c (IntKind.i64.wrap (e+1))
 else
  some (((x,[]),a,()),()))
def aji (k:Nat):Xx (((Unit)×(Int×Unit×Unit)×(List Int)×p8×Int×Int×Unit) -> Option aaG):=eu (dw (d9 (dh (dw dx)) (dh (dh (dh (dh dx)))))) (XZ k)
def NA (k a:Nat) (x:Int) (b:List Int) (c:ow) (e f:Int):Option aaG:=iter aeB (aji k) a ((),(x,(),()),b,c,e,f,())
theorem aaL (k a x b c e f):NA k (a+1) x b c e f=XZ k (NA k a) x b c e f:=Ba _ _ _ _
def alH (k:Nat) (a:Int×List (Int×Int)):Option aaG :=
 NA k k 0 ([]:List Int) a.2 (a.2.length:Int) 0
def F297:Fn:=⟨[aqK],[aqL,SX],fun k x=>alH k x.1⟩
theorem ok297:O 297 F297:=okF aj [(3,2)] (fun k=>(.loop 2 aeB (aji k) (fun g=>.nil) .nil)) Tryz.func297 rfl
def alI (k:Nat) (a:Int):Option FV :=
 (bif decide (a<0) then
  none
 else
  (bif decide ((IntKind.i64.wrap (a - 0))>0) then
   az ([]:List Int) (IntKind.i64.wrap (a - 0)) 8 0 fun r0 =>
   sx r0 0 0 <|
   some ((r0.take 0,()),())
  else
   some (([],()),())))
def F339:Fn:=⟨[.pv (.nil),au],[SX],fun k x=>alI k x.2.1⟩
theorem ok339:O 339 F339:=okF aj [(25,1)] On Tryz.func339 rfl
abbrev aaM:Cut:=⟨[6,25,26,27],[.own 3 (.int .i64),.cell (.sl 32 o8),cI,cI],[],36,[]⟩
def LH (k:Nat) (g11:(List Int) -> CK -> Int -> Int -> Option FV) (a:List Int) (b:List (List Int)) (c e:Int):Option FV :=
 (bif decide (e<c) then
  ix b e <|
  ap a (rd b e []) 8 fun r1 =>
  g11 r1 b c (IntKind.i64.wrap (e+1))
 else
  some ((a,()),()))
def aeC (k:Nat):Xx (((Unit)×(List Int)×CK×Int×Int×Unit) -> Option FV):=eu (dw (dh (dh (dh (dh dx))))) (LH k)
def Y0 (k a:Nat) (b:List Int) (c:List (List Int)) (e f:Int):Option FV:=iter aaM (aeC k) a ((),b,c,e,f,())
theorem NC (k a b c e f):Y0 k (a+1) b c e f=LH k (Y0 k a) b c e f:=Ba _ _ _ _
abbrev aeD:Cut:=⟨[0,3,9,10,11],[.cell (.sl 32 o8),cI,.cell (.sl 32 o8),cI,cI],[],36,[]⟩
def SY (k:Nat) (g3:CK -> Int -> CK -> Int -> Int -> Option FV) (a:List (List Int)) (b:Int) (c:List (List Int)) (e f:Int):Option FV :=
 (bif decide (f<e) then
  ix c f <|
  (bif decide ((IntKind.i64.wrap (b+((rd c f []).length:Int)))<0) then
   none
  else
   g3 a (IntKind.i64.wrap (b+((rd c f []).length:Int))) c e (IntKind.i64.wrap (f+1)))
 else
  (alI k b).bind fun q0 =>
  Y0 k k q0.1.1 a (a.length:Int) 0)
def ajj (k:Nat):Xx (((Unit)×CK×Int×CK×Int×Int×Unit) -> Option FV):=eu (dw (dh (dh (dh (dh (dh dx)))))) (SY k)
def aco (k a:Nat) (b:List (List Int)) (c:Int) (e:List (List Int)) (f h:Int):Option FV:=iter aeD (ajj k) a ((),b,c,e,f,h,())
theorem TA (k a b c e f h):aco k (a+1) b c e f h=SY k (aco k a) b c e f h:=Ba _ _ _ _
def alJ (k:Nat) (a:List (List Int)):Option FV :=
 aco k k a 0 a (a.length:Int) 0
def F298:Fn:=⟨[.val ⟨false,(.sl 32 o8),false⟩],[SX],fun k x=>alJ k x.1⟩
theorem ok298:O 298 F298:=okF (ah ok339 aj) [] (fun k=>(.loop 11 aaM (aeC k) (fun g=>.nil) (.loop 3 aeD (ajj k) (fun g=>.nil) .nil))) Tryz.func298 rfl
def agP (k:Nat) (x:Int×(Int×Int)×(Int×Int)×((List Int)×List Int)×(Int×List (Int×Int))×Int):Option FV :=
 (alG k x.2.2.2.1).bind fun q0 =>
 (alH k x.2.2.2.2.1).bind fun q1 =>
 (alJ k ([q0.1.2.1,q1.1.2.1]:List (List Int))).bind fun q2 =>
 some ((q2.1.1,()),())
def F234:Fn:=⟨[.val ⟨true,A9,false⟩],[SX],fun k x=>agP k x.1⟩
theorem ok234:O 234 F234:=okF (ah ok296 <| ah ok297 <| ah ok298 aj) [] On Tryz.func234 rfl
def aaN (k:Nat) (a:SV×List D5) (b:Int×Int):Option (((SV×List D5)×(List Int)×Bool×Unit)×Unit) :=
 (Vd k a).bind fun q0 =>
 (agN k a b).bind fun q1 =>
 (bif !q1.1.2.1 then
  some ((q0.1.1,[],false,()),())
 else
  ix a.2 q1.1.1 <|
  (bif (rd a.2 q1.1.1 bf).1==1 then
   some ((q0.1.1,[],false,()),())
  else
   (alF k q0.1.1.1 b).bind fun q2 =>
   ix q0.1.1.2 q1.1.1 <|
   ix a.2 q1.1.1 <|
   (agP k (rd a.2 q1.1.1 bf)).bind fun q3 =>
   some (((q2.1.1,upd q0.1.1.2 q1.1.1 bf),q3.1.1,true,()),())))
def F174:Fn:=⟨[ai9,.val ⟨true,GL,false⟩],[ajd,SX,rB],fun k x=>aaN k x.1 x.2.1⟩
theorem ok174:O 174 F174:=okF (ah ok185 <| ah ok234 <| ah ok253 <| ah ok259 aj) [] On Tryz.func174 rfl
def aeE (k:Nat) (a:LB) (b c e:Int):Option CJ :=
 ap a.2.2.1 ([(a.1.1,12,0,b,c,e)]:List (PN Int 6)) 48 fun r0 =>
 some ((),BR (a.1,a.2.1,r0,a.2.2.2),())
def F170a:Fn:=⟨[.fK 175 [cI,cI,.cell (.sl 54 CG),.cell (.sl 168 zx),.cell .bool,.cell .bool,.cell .bool,.cell FW,.own 3 (.int .i64),.own 4 .bool,.own 142 A9,.cell o8,.cell DZ,cI,cI,cI,cI,.cell yc,.cell yc,.cell yc,cI,cI,cI,cI,.cell (.int .u32),.own 51 x9,cI,cI,cI,cI],au,au,au],[],fun k x=>aeE k (qh x.1) x.2.1 x.2.2.1 x.2.2.2.1⟩
theorem ok170a:O 170 F170a:=okF aj [] On Tryz.func170 rfl
abbrev ajk:Cut:=⟨[0,33,34,35],[.pin false 0,.own 3 (.int .i64),cI,cI],[.fK 175 [cI,cI,.cell (.sl 54 CG),.cell (.sl 168 zx),.cell .bool,.cell .bool,.cell .bool,.cell FW,.own 3 (.int .i64),.own 4 .bool,.own 142 A9,.cell o8,.cell DZ,cI,cI,cI,cI,.cell yc,.cell yc,.cell yc,cI,cI,cI,cI,.cell (.int .u32),.own 51 x9,cI,cI,cI,cI]],43,[]⟩
def aeF (k:Nat) (g5:(JD×agO×LD×Int×(Int×Int)×Int) -> (List Int) -> Int -> Int -> Option CJ) (a:LB) (b:List Int) (c e:Int):Option CJ :=
 (bif decide (e<c) then
  ix b e <|
  (aeE k a (rd b e 0) 0 15).bind fun q1 =>
  g5 (qh q1.2.1) b c (IntKind.i64.wrap (e+1))
 else
  some ((),BR a,()))
def aoi (k:Nat) (g:((ai5×Unit)×Unit×(List Int)×Int×Int×Unit) -> Option CJ) (d:(ai5×Unit)×Unit×(List Int)×Int×Int×Unit):Option CJ:=aeF k (fun a b c e=>g ((BR a,()),(),b,c,e,())) (qh d.1.1) d.2.2.1 d.2.2.2.1 d.2.2.2.2.1
def aeG (k a:Nat) (b:LB) (c:List Int) (e f:Int):Option CJ:=iter ajk (aoi k) a ((BR b,()),(),c,e,f,())
theorem aeH (k a b c e f):aeG k (a+1) b c e f=aeF k (aeG k a) b c e f:=Ba _ _ _ _
def S97 (k:Nat) (a:LB):Option CJ :=
 (aaN k a.1.2.2.2.2.2.2.2.2.1 a.2.1.2.2.1).bind fun q0 =>
 (bif !q0.1.2.2.1 then
  some ((),BR (w3 a 3),())
 else
  aeG k k ((w8 a.1 q0.1.1),a.2) q0.1.2.1 (q0.1.2.1.length:Int) 0)
def F97:Fn:=⟨[alD],[],fun k x=>S97 k (qh x.1)⟩
theorem ok97:O 97 F97:=okF (ah ok170a <| ah ok174 aj) [] (fun k=>(.loop 5 ajk (aoi k) (fun g=>.nil) .nil)) Tryz.func97 rfl
def S98 (k:Nat) (a:LB):Option CJ :=
 some ((),BR (w3 a 1),())
def F98:Fn:=⟨[alD],[],fun k x=>S98 k (qh x.1)⟩
theorem ok98:O 98 F98:=okF aj [] On Tryz.func98 rfl
def S41 (k:Nat) (a:SL) (b:Int×ai8×(Int×Int)×Int×Int×Int):Option SQ :=
 (bif b.1==1 then
  (S89 k (a,b,([]:List (PN Int 6)),0,(0,0),0)).bind fun q0 =>
  (S99 k (qh q0.2.1).1).bind fun q1 =>
  some ((q1.1.1,(qh q0.2.1).2.2.1,(qh q0.2.1).2.2.2,()),())
 else
  (bif b.1==2 then
   (S90 k (a,b,([]:List (PN Int 6)),0,(0,0),0)).bind fun q2 =>
   (S99 k (qh q2.2.1).1).bind fun q3 =>
   some ((q3.1.1,(qh q2.2.1).2.2.1,(qh q2.2.1).2.2.2,()),())
  else
   (bif b.1==3 then
    (S90 k (a,b,([]:List (PN Int 6)),0,(0,0),0)).bind fun q4 =>
    (S99 k (qh q4.2.1).1).bind fun q5 =>
    some ((q5.1.1,(qh q4.2.1).2.2.1,(qh q4.2.1).2.2.2,()),())
   else
    (bif b.1==4 then
     (S90 k (a,b,([]:List (PN Int 6)),0,(0,0),0)).bind fun q6 =>
     (S99 k (qh q6.2.1).1).bind fun q7 =>
     some ((q7.1.1,(qh q6.2.1).2.2.1,(qh q6.2.1).2.2.2,()),())
    else
     (bif b.1==5 then
      (S91 k (a,b,([]:List (PN Int 6)),0,(0,0),0)).bind fun q8 =>
      (S99 k (qh q8.2.1).1).bind fun q9 =>
      some ((q9.1.1,(qh q8.2.1).2.2.1,(qh q8.2.1).2.2.2,()),())
     else
      (bif b.1==6 then
       (S92 k (a,b,([]:List (PN Int 6)),0,(0,0),0)).bind fun q10 =>
       (S99 k (qh q10.2.1).1).bind fun V9 =>
       some ((V9.1.1,(qh q10.2.1).2.2.1,(qh q10.2.1).2.2.2,()),())
      else
       (bif b.1==7 then
        (S93 k (a,b,([]:List (PN Int 6)),0,(0,0),0)).bind fun q12 =>
        (S99 k (qh q12.2.1).1).bind fun q13 =>
        some ((q13.1.1,(qh q12.2.1).2.2.1,(qh q12.2.1).2.2.2,()),())
       else
        (bif b.1==8 then
         (S94 k (a,b,([]:List (PN Int 6)),0,(0,0),0)).bind fun q14 =>
         (S99 k (qh q14.2.1).1).bind fun q15 =>
         some ((q15.1.1,(qh q14.2.1).2.2.1,(qh q14.2.1).2.2.2,()),())
        else
         (bif b.1==9 then
          (S95 k (a,b,([]:List (PN Int 6)),0,(0,0),0)).bind fun q16 =>
          (S99 k (qh q16.2.1).1).bind fun q17 =>
          some ((q17.1.1,(qh q16.2.1).2.2.1,(qh q16.2.1).2.2.2,()),())
         else
          (bif b.1==10 then
           (S96 k (a,b,([]:List (PN Int 6)),0,(0,0),0)).bind fun q18 =>
           (S99 k (qh q18.2.1).1).bind fun q19 =>
           some ((q19.1.1,(qh q18.2.1).2.2.1,(qh q18.2.1).2.2.2,()),())
          else
           (bif b.1==11 then
            (S97 k (a,b,([]:List (PN Int 6)),0,(0,0),0)).bind fun q20 =>
            (S99 k (qh q20.2.1).1).bind fun q21 =>
            some ((q21.1.1,(qh q20.2.1).2.2.1,(qh q20.2.1).2.2.2,()),())
           else
            (S98 k (a,b,([]:List (PN Int 6)),0,(0,0),0)).bind fun q22 =>
            (S99 k (qh q22.2.1).1).bind fun q23 =>
            some ((q23.1.1,(qh q22.2.1).2.2.1,(qh q22.2.1).2.2.2,()),()))))))))))))
def F41:Fn:=⟨[aja,.val ⟨true,(.pair (.int .i64) (.pair CG (.pair GL (.pair (.int .i64) FU)))),false⟩],[aeu,aer,.val ⟨true,aep,true⟩],fun k x=>S41 k x.1 x.2.1⟩
theorem ok41:O 41 F41:=okF (ah ok89 <| ah ok90 <| ah ok91 <| ah ok92 <| ah ok93 <| ah ok94 <| ah ok95 <| ah ok96 <| ah ok97 <| ah ok98 <| ah ok99 aj) [(14,2)] On Tryz.func41 rfl
def acp (k:Nat) (a:qm) (b:PN Int 6):Option l9 :=
 ap a.2 ([(a.1.1,b.2)]:List (PN Int 6)) 48 fun r0 =>
 some ((),zu (a.1,r0),())
def F146:Fn:=⟨[apf,.val ⟨true,x9,false⟩],[],fun k x=>acp k (wo x.1) x.2.1⟩
theorem ok146:O 146 F146:=okF aj [] On Tryz.func146 rfl
def ajl (k:Nat) (a:ow):Option VK:=qQ 16 121 GL k (a,())
def F292:Fn:=⟨dJ 121 GL,iZ 121 GL,qQ 16 121 GL⟩
theorem ok292:O 292 F292:=Kz JJ mix Tryz.func292 rfl (by kernel_rfl) (by kernel_rfl) (fun k=>by kernel_rfl) (fun k xs=>by kernel_rfl) (fun k xs=>by kernel_rfl)
def ajm (k:Nat) (a:ow) (b:Int):Option LC :=
 (bif decide (b≥0) then
  some ((decide (b<(a.length:Int)),()),())
 else
  some ((false,()),()))
def F309:Fn:=⟨[FX,au],[rB],fun k x=>ajm k x.1 x.2.1⟩
theorem ok309:O 309 F309:=okF aj [] On Tryz.func309 rfl
def agQ (k:Nat) (a:ow) (b c:Int):Option LC :=
 (ajm k a b).bind fun q0 =>
 (bif q0.1.1 then
  (bif decide (c≥0) then
   ix a b <|
   some (((rd a b (0,0)).2==(IntKind.i64.wrap (c+1)),()),())
  else
   some ((false,()),()))
 else
  some ((false,()),()))
def F293:Fn:=⟨[FX,au,au],[rB],fun k (a,b,c,_)=>agQ k a b c⟩
theorem ok293:O 293 F293:=okF (ah ok309 aj) [] On Tryz.func293 rfl
abbrev aeI:Cut:=⟨[0,1,5,10,11],[.cell SS,cI,.own 121 GL,cI,cI],[],24,[]⟩
def Y1 (k:Nat) (g3:p8 -> Int -> p8 -> Int -> Int -> Option VK) (a:ow) (b:Int) (c:ow) (e f:Int):Option VK :=
 (bif decide (f<e) then
  (agQ k a f b).bind fun q1 =>
  (bif q1.1.1 then
   ix c f <|
   g3 a b (upd c f ((rd c f (0,0)).1,0)) e (IntKind.i64.wrap (f+1))
  else
   g3 a b c e (IntKind.i64.wrap (f+1)))
 else
  some ((c,()),()))
def ajn (k:Nat):Xx (((Unit)×p8×Int×p8×Int×Int×Unit) -> Option VK):=eu (dw (dh (dh (dh (dh (dh dx)))))) (Y1 k)
def Y2 (k a:Nat) (b:ow) (c:Int) (e:ow) (f h:Int):Option VK:=iter aeI (ajn k) a ((),b,c,e,f,h,())
theorem aaO (k a b c e f h):Y2 k (a+1) b c e f h=Y1 k (Y2 k a) b c e f h:=Ba _ _ _ _
def agR (k:Nat) (a:ow) (b:Int):Option VK :=
 (ajl k a).bind fun q0 =>
 Y2 k k a b q0.1.1 (q0.1.1.length:Int) 0
def F231:Fn:=⟨[FX,au],[aes],fun k x=>agR k x.1 x.2.1⟩
theorem ok231:O 231 F231:=okF (ah ok292 <| ah ok293 aj) [] (fun k=>(.loop 3 aeI (ajn k) (fun g=>.nil) .nil)) Tryz.func231 rfl
abbrev aeJ:Cut:=⟨[0,1,11,12,13],[.pin false 0,.cell SS,.own 3 (.int .i64),cI,cI],[.fK 166 [cI,cI,.own 54 CG,.own 168 zx,.cell .bool,.cell .bool,.cell .bool,.cell FW,.own 3 (.int .i64),.own 4 .bool,.own 142 A9,.own 3 (.int .i64),.own 4 .bool,.own 51 x9]],55,[]⟩
def Y3 (k:Nat) (g1:(JD×List (PN Int 6)) -> p8 -> (List Int) -> Int -> Int -> Option l9) (a:qm) (b:ow) (c:List Int) (e f:Int):Option l9 :=
 (bif decide (f<e) then
  ix c f <|
  ix a.1.2.2.2.2.2.2.2.2.1.2 (rd c f 0) <|
  (bif decide (f<(b.length:Int)) then
   ix b f <|
   (bif !(fC GL (rd a.1.2.2.2.2.2.2.2.2.1.2 (rd c f 0) bf).2.2.1 (rd b f (0,0))) then
    ix b f <|
    (JC k a.1.2.2.2.2.2.2.2.2.1 (rd c f 0) ((rd a.1.2.2.2.2.2.2.2.2.1.2 (rd c f 0) bf).1,(rd a.1.2.2.2.2.2.2.2.2.1.2 (rd c f 0) bf).2.1,rd b f (0,0),(rd a.1.2.2.2.2.2.2.2.2.1.2 (rd c f 0) bf).2.2.2)).bind fun q1 =>
    g1 ((w8 a.1 q1.1.1),a.2) b c e (IntKind.i64.wrap (f+1))
   else
    g1 a b c e (IntKind.i64.wrap (f+1)))
  else
   g1 a b c e (IntKind.i64.wrap (f+1)))
 else
  some ((),zu a,()))
def ajo (k:Nat) (g:(D8×Unit×p8×(List Int)×Int×Int×Unit) -> Option l9) (d:D8×Unit×p8×(List Int)×Int×Int×Unit):Option l9:=Y3 k (fun a b c e f=>g ((zu a,()),(),b,c,e,f,())) (wo d.1.1) d.2.2.1 d.2.2.2.1 d.2.2.2.2.1 d.2.2.2.2.2.1
def ND (k a:Nat) (b:qm) (c:ow) (e:List Int) (f h:Int):Option l9:=iter aeJ (ajo k) a ((zu b,()),(),c,e,f,h,())
theorem aaP (k a b c e f h):ND k (a+1) b c e f h=Y3 k (ND k a) b c e f h:=Ba _ _ _ _
def alK (k:Nat) (a:qm) (b:ow):Option l9 :=
 (aaB k a.1.2.2.2.2.2.2.2.2.1).bind fun q0 =>
 ND k k a b q0.1.1 (q0.1.1.length:Int) 0
def F61a:Fn:=⟨[apf,FX],[],fun k x=>alK k (wo x.1) x.2.1⟩
theorem ok61a:O 61 F61a:=okF (ah ok107 <| ah ok128 aj) [] (fun k=>(.loop 1 aeJ (ajo k) (fun g=>.nil) .nil)) Tryz.func61 rfl
def apk (k:Nat) (a:(List Int)×List Bool) (b:Int):Option LC :=
 (bif decide (b≥0) then
  some ((decide (b<(mn (a.1.length:Int) (a.2.length:Int))),()),())
 else
  some ((false,()),()))
def F294:Fn:=⟨[apg,au],[rB],fun k x=>apk k x.1 x.2.1⟩
theorem ok294:O 294 F294:=okF aj [] On Tryz.func294 rfl
def apl (k:Nat) (a:List Bool) (b:Bool):Option LC :=
 (aiP k a b).bind fun q0 =>
 some ((decide (q0.1.1≥0),()),())
def F295:Fn:=⟨[.val ⟨false,DZ,false⟩,.val ⟨false,.bool,false⟩],[rB],fun k x=>apl k x.1 x.2.1⟩
theorem ok295:O 295 F295:=okF (ah ok325 aj) [] On Tryz.func295 rfl
def alL (k:Nat) (a:(List Int)×List Bool) (b:Int):Option ((SV×Bool×Bool×Unit)×Unit) :=
 (agL k a).bind fun q0 =>
 (apk k a b).bind fun q1 =>
 (bif !q1.1.1 then
  some ((q0.1.1,false,false,()),())
 else
  ix q0.1.1.1 b <|
  ix q0.1.1.1 b <|
  ix (upd q0.1.1.1 b (IntKind.i64.wrap ((rd q0.1.1.1 b 0)+1))) b <|
  (bif (rd (upd q0.1.1.1 b (IntKind.i64.wrap ((rd q0.1.1.1 b 0)+1))) b 0) != 2 then
   some (((upd q0.1.1.1 b (IntKind.i64.wrap ((rd q0.1.1.1 b 0)+1)),q0.1.1.2),false,false,()),())
  else
   ix q0.1.1.2 b <|
   (bif rd q0.1.1.2 b false then
    some (((upd q0.1.1.1 b (IntKind.i64.wrap ((rd q0.1.1.1 b 0)+1)),q0.1.1.2),false,false,()),())
   else
    ix q0.1.1.2 b <|
    (apl k (upd q0.1.1.2 b true) false).bind fun q2 =>
    some (((upd q0.1.1.1 b (IntKind.i64.wrap ((rd q0.1.1.1 b 0)+1)),upd q0.1.1.2 b true),true,!q2.1.1,()),()))))
def F232:Fn:=⟨[apg,au],[aqM,rB,rB],fun k x=>alL k x.1 x.2.1⟩
theorem ok232:O 232 F232:=okF (ah ok224 <| ah ok294 <| ah ok295 aj) [] On Tryz.func232 rfl
abbrev alM:Cut:=⟨[0,6],[.pin false 0,.cell .bool],[.fK 166 [cI,cI,.own 54 CG,.own 168 zx,.cell .bool,.cell .bool,.cell .bool,.cell FW,.own 3 (.int .i64),.own 4 .bool,.own 142 A9,.own 3 (.int .i64),.own 4 .bool,.own 51 x9]],55,[]⟩
def TB (k:Nat) (a:qm) (b:Bool):Option l9 :=
 (bif b then
  (acp k a (0,10,0,0,0,0)).bind fun q6 =>
  some ((),zu ((w5 (wo q6.2.1).1 true),(wo q6.2.1).2),())
 else
  some ((),zu a,()))
def alN (k:Nat) (a:qm) (b:AY):Option l9 :=
 (acp k a (0,5,b.1,0,0,0)).bind fun q0 =>
 (S48 k (wo q0.2.1).1).bind fun q1 =>
 (agR k q1.1.1 b.1).bind fun q2 =>
 (alK k (wo q0.2.1) q2.1.1).bind fun q3 =>
 (alL k (wo q3.2.1).1.2.2.2.2.2.2.2.2.2 b.1).bind fun q4 =>
 (bif q4.1.2.1 then
  (acp k ((z9 (wo q3.2.1).1 q4.1.1),(wo q3.2.1).2) (0,9,b.1,0,0,0)).bind fun q5 =>
  TB k (wo q5.2.1) q4.1.2.2.1
 else
  TB k ((z9 (wo q3.2.1).1 q4.1.1),(wo q3.2.1).2) q4.1.2.2.1)
def F147:Fn:=⟨[apf,JN],[],fun k x=>alN k (wo x.1) x.2.1⟩
theorem ok147:O 147 F147:=okF (ah ok48 <| ah ok61a <| ah ok146 <| ah ok231 <| ah ok232 aj) [] (fun k=>(.join 7 alM (fun d=>TB k (wo d.1.1) d.2.2.1) .nil)) Tryz.func147 rfl
abbrev ajp:Cut:=⟨[0,2,9,10,11],[.pin false 0,.own 59 LA,.cell FW,cI,cI],[.fK 166 [cI,cI,.own 54 CG,.own 168 zx,.cell .bool,.cell .bool,.cell .bool,.cell FW,.own 3 (.int .i64),.own 4 .bool,.own 142 A9,.own 3 (.int .i64),.own 4 .bool,.own 51 x9]],57,[]⟩
def aeK (k:Nat) (g2:(JD×List (PN Int 6)) -> (List BS) -> (List BS) -> Int -> Int -> Option l9) (a:qm) (b c:List BS) (e f:Int):Option l9 :=
 (bif decide (f<e) then
  ix c f <|
  ix a.1.2.2.1 (rd c f ay).1 <|
  (bif (IntKind.i64.wrap (a.1.1 - (rd c f ay).2.1)) != (rd a.1.2.2.1 (rd c f ay).1 bg).2.2.1 then
   ap b ([rd c f ay]:List BS) 272 fun r0 =>
   g2 a r0 c e (IntKind.i64.wrap (f+1))
  else
   (bif (rd c f ay).2.2.2.1==2 then
    (acp k a (0,13,(rd c f ay).1,0,0,0)).bind fun q1 =>
    g2 (wo q1.2.1) b c e (IntKind.i64.wrap (f+1))
   else
    (alN k a (rd c f ay)).bind fun q2 =>
    g2 (wo q2.2.1) b c e (IntKind.i64.wrap (f+1))))
 else
  some ((),zu ((w7 a.1 b),a.2),()))
def aok (k:Nat) (g:(D8×Unit×(List BS)×(List BS)×Int×Int×Unit) -> Option l9) (d:D8×Unit×(List BS)×(List BS)×Int×Int×Unit):Option l9:=aeK k (fun a b c e f=>g ((zu a,()),(),b,c,e,f,())) (wo d.1.1) d.2.2.1 d.2.2.2.1 d.2.2.2.2.1 d.2.2.2.2.2.1
def aeL (k a:Nat) (b:qm) (c e:List BS) (f h:Int):Option l9:=iter ajp (aok k) a ((zu b,()),(),c,e,f,h,())
theorem aeM (k a b c e f h):aeL k (a+1) b c e f h=aeK k (aeL k a) b c e f h:=Ba _ _ _ _
def S78 (k:Nat) (a:qm):Option l9 :=
 aeL k k a ([]:List BS) a.1.2.2.2.2.2.2.2.1 (a.1.2.2.2.2.2.2.2.1.length:Int) 0
def F78:Fn:=⟨[XW],[],fun k x=>S78 k (wo x.1)⟩
theorem ok78:O 78 F78:=okF (ah ok146 <| ah ok147 aj) [(2,2)] (fun k=>(.loop 2 ajp (aok k) (fun g=>.nil) .nil)) Tryz.func78 rfl
abbrev ajq:Cut:=⟨[0,9,10],[.pin false 0,cI,cI],[.fK 166 [cI,cI,.own 54 CG,.own 168 zx,.cell .bool,.cell .bool,.cell .bool,.own 59 LA,.own 3 (.int .i64),.own 4 .bool,.own 142 A9,.own 3 (.int .i64),.own 4 .bool,.own 51 x9]],48,[(8,3)]⟩
def aeN (k:Nat) (g1:(JD×List (PN Int 6)) -> Int -> Int -> Option l9) (a:qm) (b c:Int):Option l9 :=
 (bif decide (c<b) then
  ix a.1.2.2.2.2.2.2.2.1 c <|
  (bif (rd a.1.2.2.2.2.2.2.2.1 c ay).2.2.2.1 != 2 then
   ix a.1.2.2.2.1 (rd a.1.2.2.2.2.2.2.2.1 c ay).1 <|
   (bif decide ((IntKind.i64.wrap (a.1.1 - (rd a.1.2.2.2.2.2.2.2.1 c ay).2.1))≥(rd a.1.2.2.2.1 (rd a.1.2.2.2.2.2.2.2.1 c ay).1 (Qn (α:=Int) 5 0)).2.2.2.2) then
    ix a.1.2.2.2.2.2.2.2.1 c <|
    let r0:List BS:=upd a.1.2.2.2.2.2.2.2.1 c (z7 (rd a.1.2.2.2.2.2.2.2.1 c ay) true)
    g1 ((w7 a.1 r0),a.2) b (IntKind.i64.wrap (c+1))
   else
    g1 a b (IntKind.i64.wrap (c+1)))
  else
   g1 a b (IntKind.i64.wrap (c+1)))
 else
  some ((),zu a,()))
def aol (k:Nat) (g:(D8×Unit×Int×Int×Unit) -> Option l9) (d:D8×Unit×Int×Int×Unit):Option l9:=aeN k (fun a b c=>g ((zu a,()),(),b,c,())) (wo d.1.1) d.2.2.1 d.2.2.2.1
def aeO (k a:Nat) (b:qm) (c e:Int):Option l9:=iter ajq (aol k) a ((zu b,()),(),c,e,())
theorem aeP (k a b c e):aeO k (a+1) b c e=aeN k (aeO k a) b c e:=Ba _ _ _ _
def S79 (k:Nat) (a:qm):Option l9 :=
 aeO k k a (a.1.2.2.2.2.2.2.2.1.length:Int) 0
def F79:Fn:=⟨[XW],[],fun k x=>S79 k (wo x.1)⟩
theorem ok79:O 79 F79:=okF aj [] (fun k=>(.loop 1 ajq (aol k) (fun g=>.nil) .nil)) Tryz.func79 rfl
abbrev alO:Cut:=⟨[1,2,3,4,5,6,7,11,12,13],[.box 38 [.cell o8,.cell DZ,.cell (.sl 142 A9)],.box 38 [.own 3 (.int .i64),.own 4 .bool,.own 142 A9],.own 3 (.int .i64),.own 32 o8,cI,.box 142 [cI,cI,cI,cI,cI,.cell (.sl 2 (.int .i64)),.cell o8,.cell (.int .u32),.cell (.sl 266 FU),.cell (.int .u32)],.box 142 [cI,cI,cI,cI,cI,.own 2 (.int .i64),.own 3 (.int .i64),.cell (.int .u32),.own 266 FU,.cell (.int .u32)],.cell (.sl 142 A9),cI,cI],[],61,[]⟩
def TD (k:Nat) (g3:ai7) (a:List Int) (b:List Bool) (c:List D5) (e:List Int) (f:List Bool) (h:List D5) (i:List Int) (l:List (List Int)) (m x n o p s:Int) (t u:List Int) (v:Int) (w:ow) (y z A B C D:Int) (G H:List Int) (I:Int) (J:ow) (K:Int) (M:List D5) (N O:Int):Option VG :=
 (ace k (z,(A,B),(C,D),(G,H),(I,J),K)).bind fun q4 =>
 ix h m <|
 ap i ([m]:List Int) 8 fun r5 =>
 (agP k (x,(n,o),(p,s),(t,u),(v,w),y)).bind fun q6 =>
 ap l ([q6.1.1]:List (List Int)) 24 fun r7 =>
 g3 a b c e f (upd h m q4.1.1) r5 r7 M N (IntKind.i64.wrap (O+1))
abbrev aeQ:Cut:=⟨[1,2,3,4,11,12,13],[.box 38 [.cell o8,.cell DZ,.cell (.sl 142 A9)],.box 38 [.own 3 (.int .i64),.own 4 .bool,.own 142 A9],.own 3 (.int .i64),.own 32 o8,.cell (.sl 142 A9),cI,cI],[],61,[]⟩
def Y4 (k:Nat) (g3:ai7) (a:List Int) (b:List Bool) (c:List D5) (e:List Int) (f:List Bool) (h:List D5) (i:List Int) (l:List (List Int)) (m:List D5) (n o:Int):Option VG :=
 (bif decide (o<n) then
  ix m o <|
  (ab9 k ((a,b),c) o).bind fun q1 =>
  (bif !q1.1.1 then
   g3 a b c e f h i l m n (IntKind.i64.wrap (o+1))
  else
   (acd k (rd m o bf)).bind fun q2 =>
   (bif (rd m o bf).2.2.2.2.2==q2.1.1 then
    g3 a b c e f h i l m n (IntKind.i64.wrap (o+1))
   else
    (agM k (rd m o bf).1 (rd m o bf).2.1).bind fun q3 =>
    (bif (rd m o bf).1==1 then
     TD k g3 a b c e f h i l o (rd m o bf).1 (rd m o bf).2.1.1 (rd m o bf).2.1.2 (rd m o bf).2.2.1.1 (rd m o bf).2.2.1.2 (rd m o bf).2.2.2.1.1 (rd m o bf).2.2.2.1.2 (rd m o bf).2.2.2.2.1.1 (rd m o bf).2.2.2.2.1.2 (rd m o bf).2.2.2.2.2 q3.1.1.1 q3.1.1.2.1.1 q3.1.1.2.1.2 (rd m o bf).2.2.1.1 q3.1.1.2.2.1.2 q3.1.1.2.2.2.1.1 q3.1.1.2.2.2.1.2 q3.1.1.2.2.2.2.1.1 q3.1.1.2.2.2.2.1.2 q3.1.1.2.2.2.2.2 m n o
    else
     TD k g3 a b c e f h i l o (rd m o bf).1 (rd m o bf).2.1.1 (rd m o bf).2.1.2 (rd m o bf).2.2.1.1 (rd m o bf).2.2.1.2 (rd m o bf).2.2.2.1.1 (rd m o bf).2.2.2.1.2 (rd m o bf).2.2.2.2.1.1 (rd m o bf).2.2.2.2.1.2 (rd m o bf).2.2.2.2.2 q3.1.1.1 q3.1.1.2.1.1 q3.1.1.2.1.2 q3.1.1.2.2.1.1 q3.1.1.2.2.1.2 q3.1.1.2.2.2.1.1 q3.1.1.2.2.2.1.2 q3.1.1.2.2.2.2.1.1 q3.1.1.2.2.2.2.1.2 q3.1.1.2.2.2.2.2 m n o)))
 else
  some ((((e,f),h),i,l,()),()))
def ajr (k:Nat):Xx (((Unit)×aof×aof×(List Int)×CK×(List D5)×Int×Int×Unit) -> Option VG):=eu (dw (d9 (dh (dh (dh dx))) (d9 (dh (dh (dh dx))) (dh (dh (dh (dh (dh dx)))))))) (Y4 k)
def TF (k a:Nat) (b:List Int) (c:List Bool) (e:List D5) (f:List Int) (h:List Bool) (i:List D5) (l:List Int) (m:List (List Int)) (n:List D5) (o p:Int):Option VG:=iter aeQ (ajr k) a ((),(b,c,e,()),(f,h,i,()),l,m,n,o,p,())
theorem aaQ (k a b c e f h i l m n o p):TF k (a+1) b c e f h i l m n o p=Y4 k (TF k a) b c e f h i l m n o p:=Ba _ _ _ _
def alP (k:Nat) (a:SV×List D5):Option VG :=
 (Vd k a).bind fun q0 =>
 TF k k a.1.1 a.1.2 a.2 q0.1.1.1.1 q0.1.1.1.2 q0.1.1.2 ([]:List Int) ([]:List (List Int)) a.2 (a.2.length:Int) 0
def F148:Fn:=⟨[ai9],[ajd,SX,.val ⟨false,(.sl 32 o8),true⟩],fun k x=>alP k x.1⟩
theorem ok148:O 148 F148:=okF (ah ok185 <| ah ok186 <| ah ok221 <| ah ok223 <| ah ok233 <| ah ok234 aj) [(3,2),(4,2)] (fun k=>(.loop 3 aeQ (ajr k) (fun g=>(fun (g3:ai7)=>(.join 9 alO (fun (_,(a,b,c,_),(e,f,h,_),i,l,m,(n,o,p,s,t,u,v,w,y,z,_),(A,B,C,D,G,H,I,J,K,M,_),N,O,P,_)=>TD k g3 a b c e f h i l m n o p s t u v w y z A B C D G H I J K M N O P) .nil)) (fun t1 t2 t3 out Xd ajs places who t11 t12 t13=>g ((),(t1,t2,t3,()),(out,Xd,ajs,()),places,who,t11,t12,t13,()))) .nil)) Tryz.func148 rfl
def JO (k:Nat) (a:qm) (b:PN Int 6):Option l9 :=
 ap a.2 ([(a.1.1,b.2)]:List (PN Int 6)) 48 fun r0 =>
 some ((),zu (a.1,r0),())
def F146a:Fn:=⟨[XW,.val ⟨true,x9,false⟩],[],fun k x=>JO k (wo x.1) x.2.1⟩
theorem ok146a:O 146 F146a:=okF aj [] On Tryz.func146 rfl
abbrev aeR:Cut:=⟨[0,4,9,27,28,29,67,68],[.pin false 0,.own 32 o8,cI,.own 3 (.int .i64),cI,cI,cI,cI],[.fK 166 [cI,cI,.own 54 CG,.own 168 zx,.cell .bool,.cell .bool,.cell .bool,.own 59 LA,.own 3 (.int .i64),.own 4 .bool,.own 142 A9,.own 3 (.int .i64),.own 4 .bool,.own 51 x9]],85,[(66,3)]⟩
def Y5 (k:Nat) (g3:OZ) (g14:(JD×List (PN Int 6)) -> CK -> Int -> (List Int) -> Int -> Int -> Int -> Int -> Option l9) (a:qm) (b:List (List Int)) (c:Int) (e:List Int) (f h i l:Int):Option l9 :=
 (bif decide (l<i) then
  ix a.1.2.2.2.2.2.2.2.1 l <|
  (agK k (rd a.1.2.2.2.2.2.2.2.1 l ay) c).bind fun q5 =>
  ix a.1.2.2.2.2.2.2.2.1 l <|
  g14 ((w7 a.1 (upd a.1.2.2.2.2.2.2.2.1 l q5.1.1)),a.2) b c e f h i (IntKind.i64.wrap (l+1))
 else
  g3 a b e f (IntKind.i64.wrap (h+1)))
def ajt (k:Nat) (g3:OZ) (g:(D8×Unit×CK×Int×(List Int)×Int×Int×Int×Int×Unit) -> Option l9) (d:D8×Unit×CK×Int×(List Int)×Int×Int×Int×Int×Unit):Option l9:=Y5 k g3 (fun a b c e f h i l=>g ((zu a,()),(),b,c,e,f,h,i,l,())) (wo d.1.1) d.2.2.1 d.2.2.2.1 d.2.2.2.2.1 d.2.2.2.2.2.1 d.2.2.2.2.2.2.1 d.2.2.2.2.2.2.2.1 d.2.2.2.2.2.2.2.2.1
def Y6 (k:Nat) (g3:OZ) (a:Nat) (b:qm) (c:List (List Int)) (e:Int) (f:List Int) (h i l m:Int):Option l9:=iter aeR (ajt k g3) a ((zu b,()),(),c,e,f,h,i,l,m,())
theorem aaR (k g3 a b c e f h i l m):Y6 k g3 (a+1) b c e f h i l m=Y5 k g3 (Y6 k g3 a) b c e f h i l m:=Ba _ _ _ _
abbrev aju:Cut:=⟨[0,4,6,27,28,29,41,42,43],[.pin false 0,.own 32 o8,cI,.own 3 (.int .i64),cI,cI,.cell o8,cI,cI],[.fK 166 [cI,cI,.own 54 CG,.own 168 zx,.cell .bool,.cell .bool,.cell .bool,.own 59 LA,.own 3 (.int .i64),.own 4 .bool,.own 142 A9,.own 3 (.int .i64),.own 4 .bool,.own 51 x9]],85,[]⟩
def aeS (k:Nat) (g3:OZ) (g7:(JD×List (PN Int 6)) -> CK -> Int -> (List Int) -> Int -> Int -> (List Int) -> Int -> Int -> Option l9) (a:qm) (b:List (List Int)) (c:Int) (e:List Int) (f h:Int) (i:List Int) (l m:Int):Option l9 :=
 (bif decide (m<l) then
  ix i m <|
  (JO k a (0,12,0,rd i m 0,0,15)).bind fun q2 =>
  g7 (wo q2.2.1) b c e f h i l (IntKind.i64.wrap (m+1))
 else
  (aaB k a.1.2.2.2.2.2.2.2.2.1).bind fun q3 =>
  (acn k q3.1.1 c).bind fun q4 =>
  (bif decide (q4.1.1≥0) then
   Y6 k g3 k a b q4.1.1 e f h (a.1.2.2.2.2.2.2.2.1.length:Int) 0
  else
   g3 a b e f (IntKind.i64.wrap (h+1))))
def aom (k:Nat) (g3:OZ) (g:(D8×Unit×CK×Int×(List Int)×Int×Int×(List Int)×Int×Int×Unit) -> Option l9) (d:D8×Unit×CK×Int×(List Int)×Int×Int×(List Int)×Int×Int×Unit):Option l9:=aeS k g3 (fun a b c e f h i l m=>g ((zu a,()),(),b,c,e,f,h,i,l,m,())) (wo d.1.1) d.2.2.1 d.2.2.2.1 d.2.2.2.2.1 d.2.2.2.2.2.1 d.2.2.2.2.2.2.1 d.2.2.2.2.2.2.2.1 d.2.2.2.2.2.2.2.2.1 d.2.2.2.2.2.2.2.2.2.1
def aeT (k:Nat) (g3:OZ) (a:Nat) (b:qm) (c:List (List Int)) (e:Int) (f:List Int) (h i:Int) (l:List Int) (m n:Int):Option l9:=iter aju (aom k g3) a ((zu b,()),(),c,e,f,h,i,l,m,n,())
theorem aeU (k g3 a b c e f h i l m n):aeT k g3 (a+1) b c e f h i l m n=aeS k g3 (aeT k g3 a) b c e f h i l m n:=Ba _ _ _ _
abbrev ajv:Cut:=⟨[0,4,27,28,29],[.pin false 0,.own 32 o8,.own 3 (.int .i64),cI,cI],[.fK 166 [cI,cI,.own 54 CG,.own 168 zx,.cell .bool,.cell .bool,.cell .bool,.own 59 LA,.own 3 (.int .i64),.own 4 .bool,.own 142 A9,.own 3 (.int .i64),.own 4 .bool,.own 51 x9]],85,[]⟩
def aeV (k:Nat) (g3:OZ) (a:qm) (b:List (List Int)) (c:List Int) (e f:Int):Option l9 :=
 (bif decide (f<e) then
  ix c f <|
  (JO k a (0,11,0,rd c f 0,0,0)).bind fun q1 =>
  ix b f <|
  aeT k g3 k (wo q1.2.1) b (rd c f 0) c e f (rd b f []) ((rd b f []).length:Int) 0
 else
  some ((),zu a,()))
def aon (k:Nat) (g:(D8×Unit×CK×(List Int)×Int×Int×Unit) -> Option l9) (d:D8×Unit×CK×(List Int)×Int×Int×Unit):Option l9:=aeV k (fun a b c e f=>g ((zu a,()),(),b,c,e,f,())) (wo d.1.1) d.2.2.1 d.2.2.2.1 d.2.2.2.2.1 d.2.2.2.2.2.1
def aaS (k a:Nat) (b:qm) (c:List (List Int)) (e:List Int) (f h:Int):Option l9:=iter ajv (aon k) a ((zu b,()),(),c,e,f,h,())
theorem aeW (k a b c e f h):aaS k (a+1) b c e f h=aeV k (aaS k a) b c e f h:=Ba _ _ _ _
def S80 (k:Nat) (a:qm):Option l9 :=
 (alP k a.1.2.2.2.2.2.2.2.2.1).bind fun q0 =>
 aaS k k ((w8 a.1 q0.1.1),a.2) q0.1.2.2.1 q0.1.2.1 (q0.1.2.1.length:Int) 0
def F80:Fn:=⟨[XW],[],fun k x=>S80 k (wo x.1)⟩
theorem ok80:O 80 F80:=okF (ah ok107 <| ah ok127 <| ah ok146a <| ah ok148 <| ah ok149 aj) [] (fun k=>(.loop 3 ajv (aon k) (fun g=>(fun (g3:OZ)=>(.loop 14 aeR (ajt k g3) (fun g=>.nil) (.loop 7 aju (aom k g3) (fun g=>.nil) .nil))) (fun t1 who t27 t28 t29=>g ((zu t1,()),(),who,t27,t28,t29,()))) .nil)) Tryz.func80 rfl
abbrev aeX:Cut:=⟨[0,2,6,7,8,12,13,14],[.cell SS,cI,cI,.cell .bool,.mp 423 true (.int .i64) false .bool,.cell o8,cI,cI],[],51,[]⟩
def Y7 (k:Nat) (g3:p8 -> Int -> Int -> Bool -> (List (Int×Bool)) -> (List Int) -> Int -> Int -> Option y9) (a:ow) (b c:Int) (e:Bool) (f:List (Int×Bool)) (h:List Int) (i l:Int):Option y9 :=
 (bif decide (l<i) then
  ix h l <|
  (agQ k a (rd h l 0) b).bind fun q0 =>
  (bif !q0.1.1 then
   g3 a b c e f h i (IntKind.i64.wrap (l+1))
  else
   (bif Us (.int .i64) .bool (rd h l 0) f false then
    g3 a b c e f h i (IntKind.i64.wrap (l+1))
   else
    (bif !e then
     ix a (rd h l 0) <|
     g3 a b (rd a (rd h l 0) (0,0)).1 true (vL (.int .i64) .bool (rd h l 0) true f) h i (IntKind.i64.wrap (l+1))
    else
     ix a (rd h l 0) <|
     (bif decide ((rd a (rd h l 0) (0,0)).1<c) then
      ix a (rd h l 0) <|
      g3 a b (rd a (rd h l 0) (0,0)).1 true (vL (.int .i64) .bool (rd h l 0) true f) h i (IntKind.i64.wrap (l+1))
     else
      g3 a b c e (vL (.int .i64) .bool (rd h l 0) true f) h i (IntKind.i64.wrap (l+1))))))
 else
  some ((c,e,()),()))
def ajw (k:Nat):Xx (((Unit)×p8×Int×Int×Bool×(List (Int×Bool))×(List Int)×Int×Int×Unit) -> Option y9):=eu (dw (dh (dh (dh (dh (dh (dh (dh (dh dx))))))))) (Y7 k)
def Y8 (k a:Nat) (b:ow) (c e:Int) (f:Bool) (h:List (Int×Bool)) (i:List Int) (l m:Int):Option y9:=iter aeX (ajw k) a ((),b,c,e,f,h,i,l,m,())
theorem aaT (k a b c e f h i l m):Y8 k (a+1) b c e f h i l m=Y7 k (Y8 k a) b c e f h i l m:=Ba _ _ _ _
def ajx (k:Nat) (a:ow) (b:List Int) (c:Int):Option y9 :=
 Y8 k k a c 0 false ([]:List (Int×Bool)) b (b.length:Int) 0
def F300:Fn:=⟨[FX,.val ⟨false,o8,false⟩,au],[rI,rB],fun k (a,b,c,_)=>ajx k a b c⟩
theorem ok300:O 300 F300:=okF (ah ok293 aj) [] (fun k=>(.loop 3 aeX (ajw k) (fun g=>.nil) .nil)) Tryz.func300 rfl
def ajy (k:Nat) (a:AY) (b:Int):Option u7 :=
 (bif a.2.2.2.1==2 then
  some ((IntKind.i64.wrap ((IntKind.i64.wrap (b+b))+a.1),()),())
 else
  (bif a.2.2.2.2.2.2.2 then
   some ((a.1,()),())
  else
   some ((IntKind.i64.wrap (b+a.1),()),())))
def F340:Fn:=⟨[JN,au],[rI],fun k x=>ajy k x.1 x.2.1⟩
theorem ok340:O 340 F340:=okF aj [] On Tryz.func340 rfl
def apm (k:Nat) (a:AY) (b:Int) (c:ow):Option u7 :=
 (ajx k c a.2.2.2.2.2.2.1 a.1).bind fun q0 =>
 (bif q0.1.2.1 then
  (ajy k a b).bind fun q1 =>
  some ((mn q1.1.1 q0.1.1,()),())
 else
  (ajy k a b).bind fun q2 =>
  some ((q2.1.1,()),()))
def F299:Fn:=⟨[JN,au,FX],[rI],fun k (a,b,c,_)=>apm k a b c⟩
theorem ok299:O 299 F299:=okF (ah ok300 <| ah ok340 aj) [] On Tryz.func299 rfl
def alQ (k:Nat) (a:AY) (b:Int) (c:ow):Option ((qg×Unit)×Unit) :=
 (apm k a b c).bind fun q0 =>
 (ajx k c a.2.2.2.2.2.2.1 a.1).bind fun q1 =>
 (bif q1.1.2.1 then
  some (((q0.1.1,0,a.1),()),())
 else
  some (((q0.1.1,1,a.1),()),()))
def F235:Fn:=⟨[JN,au,FX],[.val ⟨true,yw,true⟩],fun k (a,b,c,_)=>alQ k a b c⟩
theorem ok235:O 235 F235:=okF (ah ok299 <| ah ok300 aj) [] On Tryz.func235 rfl
def alR (k:Nat) (x:Int):Option LC :=
 some ((x != x,()),())
def F342:Fn:=⟨[au],[rB],fun k x=>alR k x.1⟩
theorem ok342:O 342 F342:=okF aj [] On Tryz.func342 rfl
def agS (k:Nat) (x a:Int):Option u7 :=
 (alR k x).bind fun q0 =>
 (alR k a).bind fun q1 =>
 (bif q0.1.1 then
  (bif q1.1.1 then
   some ((0,()),())
  else
   some (((-1),()),()))
 else
  (bif q1.1.1 then
   some ((1,()),())
  else
   (bif decide (x<a) then
    some (((-1),()),())
   else
    (bif decide (x>a) then
     some ((1,()),())
    else
     some ((0,()),())))))
def F304:Fn:=⟨[au,au],[rI],fun k x=>agS k x.1 x.2.1⟩
theorem ok304:O 304 F304:=okF (ah ok342 aj) [] On Tryz.func304 rfl
abbrev aeY:Cut:=⟨[3,6,7,8],[cI,.cell o8,cI,cI],[],18,[]⟩
def NG (k:Nat) (g3:Int -> (List Int) -> Int -> Int -> Option u7) (a:Int) (b:List Int) (c e:Int):Option u7 :=
 (bif decide (e<c) then
  ix b e <|
  (bif (rd b e 0) != a then
   some ((rd b e 0,()),())
  else
   g3 a b c (IntKind.i64.wrap (e+1)))
 else
  some ((a,()),()))
def ajz (k:Nat):Xx (((Unit)×Int×(List Int)×Int×Int×Unit) -> Option u7):=eu (dw (dh (dh (dh (dh dx))))) (NG k)
def acr (k a:Nat) (b:Int) (c:List Int) (e f:Int):Option u7:=iter aeY (ajz k) a ((),b,c,e,f,())
theorem LJ (k a b c e f):acr k (a+1) b c e f=NG k (acr k a) b c e f:=Ba _ _ _ _
def apn (k:Nat) (a:List Int):Option u7 :=
 acr k k 0 a (a.length:Int) 0
def F303:Fn:=⟨[.val ⟨false,o8,false⟩],[rI],fun k x=>apn k x.1⟩
theorem ok303:O 303 F303:=okF aj [] (fun k=>(.loop 3 aeY (ajz k) (fun g=>.nil) .nil)) Tryz.func303 rfl
def agT (k:Nat) (a b:Int×Int×Int):Option u7 :=
 (agS k a.1 b.1).bind fun q0 =>
 (agS k a.2.1 b.2.1).bind fun q1 =>
 (agS k a.2.2 b.2.2).bind fun q2 =>
 (apn k ([q0.1.1,q1.1.1,q2.1.1]:List Int)).bind fun q3 =>
 some ((q3.1.1,()),())
def F237:Fn:=⟨[.val ⟨true,yw,false⟩,.val ⟨true,yw,false⟩],[rI],fun k x=>agT k x.1 x.2.1⟩
theorem ok237:O 237 F237:=okF (ah ok303 <| ah ok304 aj) [] On Tryz.func237 rfl
def aqQ (k:Nat) (a:Int):Option u7 :=
 (bif decide (a<0) then
  some ((0,()),())
 else
  (bif decide (a≥64) then
   some ((0,()),())
  else
   Uj a <|
   some ((Uk .u64 1 a,()),())))
def F341:Fn:=⟨[au],[.val ⟨false,(.int .u64),true⟩],fun k x=>aqQ k x.1⟩
theorem ok341:O 341 F341:=okF aj [] On Tryz.func341 rfl
def ajA (k:Nat) (a b:Int):Option u7 :=
 (aqQ k b).bind fun q0 =>
 some ((Uz .u64 a q0.1.1,()),())
def F301:Fn:=⟨[.val ⟨false,(.int .u64),false⟩,au],[.val ⟨false,(.int .u64),true⟩],fun k x=>ajA k x.1 x.2.1⟩
theorem ok301:O 301 F301:=okF (ah ok341 aj) [] On Tryz.func301 rfl
abbrev aeZ:Cut:=⟨[0,2,4],[.cell (.int .u64),cI,cI],[],23,[]⟩
def apo (k:Nat) (g4:Int -> Int -> Int -> Option y9) (a b c:Int):Option y9 :=
 (bif decide (c>0) then
  Uj (IntKind.i64.wrap (64 - c)) <|
  (bif (Uk .u64 a (IntKind.i64.wrap (64 - c)))==0 then
   Uj c <|
   g4 (Ul .u64 a c) (IntKind.i64.wrap (b+c)) (IntKind.i64.wrap (Int.tdiv c 2))
  else
   g4 a b (IntKind.i64.wrap (Int.tdiv c 2)))
 else
  some ((b,true,()),()))
def ajB (k:Nat):Xx (((Unit)×Int×Int×Int×Unit) -> Option y9):=eu (dw (dh (dh (dh dx)))) (apo k)
def apq (k a:Nat) (b c e:Int):Option y9:=iter aeZ (ajB k) a ((),b,c,e,())
def apr (k:Nat) (a:Int):Option y9 :=
 (bif a==0 then
  some ((0,false,()),())
 else
  apq k k a 0 32)
def F302:Fn:=⟨[.val ⟨false,(.int .u64),false⟩],[rI,rB],fun k x=>apr k x.1⟩
theorem ok302:O 302 F302:=okF aj [] (fun k=>(.loop 4 aeZ (ajB k) (fun g=>.nil) .nil)) Tryz.func302 rfl
abbrev ae0:Cut:=⟨[3,4,13,14,15],[.box 336 [cI,cI,cI],.cell (.int .u64),.cell (.sl 336 yw),cI,cI],[],42,[]⟩
def TG (k:Nat) (g3:Int -> Int -> Int -> Int -> (List qg) -> Int -> Int -> Option u7) (a b c e:Int) (f:List qg) (h i:Int):Option u7 :=
 (bif decide (i<h) then
  ix f i <|
  (agT k (rd f i (0,0,0)) (a,b,c)).bind fun q0 =>
  (bif decide (q0.1.1<0) then
   (ajA k 0 i).bind fun q1 =>
   g3 (rd f i (0,0,0)).1 (rd f i (0,0,0)).2.1 (rd f i (0,0,0)).2.2 q1.1.1 f h (IntKind.i64.wrap (i+1))
  else
   (bif q0.1.1==0 then
    (ajA k e i).bind fun q2 =>
    g3 a b c q2.1.1 f h (IntKind.i64.wrap (i+1))
   else
    g3 a b c e f h (IntKind.i64.wrap (i+1))))
 else
  (apr k e).bind fun q3 =>
  some ((q3.1.1,()),()))
def ajC (k:Nat):Xx (((Unit)×(Int×Int×Int×Unit)×Int×(List qg)×Int×Int×Unit) -> Option u7):=eu (dw (d9 (dh (dh (dh dx))) (dh (dh (dh (dh dx)))))) (TG k)
def NH (k a:Nat) (b c e f:Int) (h:List qg) (i l:Int):Option u7:=iter ae0 (ajC k) a ((),(b,c,e,()),f,h,i,l,())
theorem TH (k a b c e f h i l):NH k (a+1) b c e f h i l=TG k (NH k a) b c e f h i l:=Ba _ _ _ _
def alS (k:Nat) (a:List qg):Option u7 :=
 ix a 0 <|
 NH k k (rd a 0 (0,0,0)).1 (rd a 0 (0,0,0)).2.1 (rd a 0 (0,0,0)).2.2 0 a (a.length:Int) 0
def F236:Fn:=⟨[.val ⟨false,(.sl 336 yw),false⟩],[rI],fun k x=>alS k x.1⟩
theorem ok236:O 236 F236:=okF (ah ok237 <| ah ok301 <| ah ok302 aj) [] (fun k=>(.loop 3 ae0 (ajC k) (fun g=>.nil) .nil)) Tryz.func236 rfl
abbrev ae1:Cut:=⟨[6,7,8,11],[cI,.cell .bool,.own 336 yw,cI],[],63,[]⟩
def TJ (k:Nat) (g8:Int -> Bool -> (List qg) -> Int -> Option y9) (a:Int) (b:Bool) (c:List qg) (e:Int):Option y9 :=
 (bif decide (e<(c.length:Int)) then
  sx c e (mn (IntKind.i64.wrap (e+64)) (c.length:Int)) <|
  (alS k (sub c e (mn (IntKind.i64.wrap (e+64)) (c.length:Int)))).bind fun q2 =>
  (bif !b then
   g8 (IntKind.i64.wrap (e+q2.1.1)) true c (IntKind.i64.wrap (e+64))
  else
   ix c (IntKind.i64.wrap (e+q2.1.1)) <|
   ix c a <|
   (agT k (rd c (IntKind.i64.wrap (e+q2.1.1)) (0,0,0)) (rd c a (0,0,0))).bind fun q3 =>
   (bif decide (q3.1.1<0) then
    g8 (IntKind.i64.wrap (e+q2.1.1)) true c (IntKind.i64.wrap (e+64))
   else
    g8 a b c (IntKind.i64.wrap (e+64))))
 else
  some ((a,b,()),()))
def ajD (k:Nat):Xx (((Unit)×Int×Bool×(List qg)×Int×Unit) -> Option y9):=eu (dw (dh (dh (dh (dh dx))))) (TJ k)
def NI (k a:Nat) (b:Int) (c:Bool) (e:List qg) (f:Int):Option y9:=iter ae1 (ajD k) a ((),b,c,e,f,())
theorem TK (k a b c e f):NI k (a+1) b c e f=TJ k (NI k a) b c e f:=Ba _ _ _ _
abbrev ae2:Cut:=⟨[1,2,6,7,8,14,15,16],[cI,.cell SS,cI,.cell .bool,.own 336 yw,.cell FW,cI,cI],[],63,[]⟩
def Y9 (k:Nat) (g3:Int -> p8 -> Int -> Bool -> (List qg) -> (List BS) -> Int -> Int -> Option y9) (a:Int) (b:ow) (c:Int) (e:Bool) (f:List qg) (h:List BS) (i l:Int):Option y9 :=
 (bif decide (l<i) then
  ix h l <|
  (alQ k (rd h l ay) a b).bind fun q0 =>
  ap f ([q0.1.1]:List qg) 24 fun r1 =>
  g3 a b c e r1 h i (IntKind.i64.wrap (l+1))
 else
  NI k k c e f 0)
def ajE (k:Nat):Xx (((Unit)×Int×p8×Int×Bool×(List qg)×(List BS)×Int×Int×Unit) -> Option y9):=eu (dw (dh (dh (dh (dh (dh (dh (dh (dh dx))))))))) (Y9 k)
def Ya (k a:Nat) (b:Int) (c:ow) (e:Int) (f:Bool) (h:List qg) (i:List BS) (l m:Int):Option y9:=iter ae2 (ajE k) a ((),b,c,e,f,h,i,l,m,())
theorem aaU (k a b c e f h i l m):Ya k (a+1) b c e f h i l m=Y9 k (Ya k a) b c e f h i l m:=Ba _ _ _ _
def alT (k:Nat) (a:List BS) (b:Int) (c:ow):Option y9 :=
 Ya k k b c 0 false ([]:List qg) a (a.length:Int) 0
def F150:Fn:=⟨[.val ⟨false,FW,false⟩,au,FX],[rI,rB],fun k (a,b,c,_)=>alT k a b c⟩
theorem ok150:O 150 F150:=okF (ah ok235 <| ah ok236 <| ah ok237 aj) [(8,2)] (fun k=>(.loop 8 ae1 (ajD k) (fun g=>.nil) (.loop 3 ae2 (ajE k) (fun g=>.nil) .nil))) Tryz.func150 rfl
def aaV (k:Nat) (a:Int×(PN Int 8)×(List qg)×Bool):Option SN :=
 (ab8 k a.2.2.1).bind fun q0 =>
 some (((a.1,a.2.1,q0.1.1,a.2.2.2),()),())
def F307:Fn:=⟨[ajb],[aev],fun k x=>aaV k x.1⟩
theorem ok307:O 307 F307:=okF (ah ok217 aj) [] On Tryz.func307 rfl
def agU (k:Nat) (a:AY):Option ((BS×Unit)×Unit) :=
 (aaV k a.2.2.2.2.1).bind fun q0 =>
 (aaV k a.2.2.2.2.2.1).bind fun q1 =>
 (GJ k a.2.2.2.2.2.2.1).bind fun q2 =>
 some (((w6 (w5 (w4 a q0.1.1) q1.1.1) q2.1.1),()),())
def F305:Fn:=⟨[JN],[aaJ],fun k x=>agU k x.1⟩
theorem ok305:O 305 F305:=okF (ah ok219 <| ah ok307 aj) [] On Tryz.func305 rfl
def alU (k:Nat) (a:aeo) (b:AY):Option ((BS×Unit)×Unit) :=
 (agU k b).bind fun q0 =>
 (bif b.2.2.2.1==0 then
  (bif decide ((a.2.2.2.2.1.length:Int)>0) then
   (Q5 k b.2.2.1).bind fun q1 =>
   (Q5 k b.2.2.1).bind fun q2 =>
   some (((q0.1.1.1,q0.1.1.2.1,q0.1.1.2.2.1,1,q1.1.1,q2.1.1,[],q0.1.1.2.2.2.2.2.2.2),()),())
  else
   (aaV k b.2.2.2.2.2.1).bind fun q3 =>
   some (((w6 (w4 q0.1.1 q3.1.1) []),()),()))
 else
  (aaV k b.2.2.2.2.2.1).bind fun q4 =>
  some (((w6 (w4 q0.1.1 q4.1.1) []),()),()))
def F311:Fn:=⟨[aew,JN],[aaJ],fun k x=>alU k x.1 x.2.1⟩
theorem ok311:O 311 F311:=okF (ah ok109 <| ah ok305 <| ah ok307 aj) [] On Tryz.func311 rfl
def alV (k:Nat) (a:aeo) (b:AY) (c:ow):Option ((BS×p8×Int×Unit)×Unit) :=
 (alU k a b).bind fun q0 =>
 (agR k c b.1).bind fun q1 =>
 (bif b.2.2.2.1==2 then
  (agK k b (-1)).bind fun q2 =>
  some ((q2.1.1,q1.1.1,13,()),())
 else
  (bif q0.1.1.2.2.2.1 != b.2.2.2.1 then
   some ((q0.1.1,q1.1.1,7,()),())
  else
   some ((q0.1.1,q1.1.1,6,()),())))
def F242:Fn:=⟨[aew,JN,FX],[aaJ,aes,rI],fun k (a,b,c,_)=>alV k a b c⟩
theorem ok242:O 242 F242:=okF (ah ok127 <| ah ok231 <| ah ok311 aj) [] On Tryz.func242 rfl
abbrev ae3:Cut:=⟨[0,1,11,12,13],[.pin false 0,.cell SS,.own 3 (.int .i64),cI,cI],[.fK 166 [cI,cI,.own 54 CG,.own 168 zx,.cell .bool,.cell .bool,.cell .bool,.own 59 LA,.own 3 (.int .i64),.own 4 .bool,.own 142 A9,.own 3 (.int .i64),.own 4 .bool,.own 51 x9]],55,[]⟩
def Yb (k:Nat) (g1:(JD×List (PN Int 6)) -> p8 -> (List Int) -> Int -> Int -> Option l9) (a:qm) (b:ow) (c:List Int) (e f:Int):Option l9 :=
 (bif decide (f<e) then
  ix c f <|
  ix a.1.2.2.2.2.2.2.2.2.1.2 (rd c f 0) <|
  (bif decide (f<(b.length:Int)) then
   ix b f <|
   (bif !(fC GL (rd a.1.2.2.2.2.2.2.2.2.1.2 (rd c f 0) bf).2.2.1 (rd b f (0,0))) then
    ix b f <|
    (JC k a.1.2.2.2.2.2.2.2.2.1 (rd c f 0) ((rd a.1.2.2.2.2.2.2.2.2.1.2 (rd c f 0) bf).1,(rd a.1.2.2.2.2.2.2.2.2.1.2 (rd c f 0) bf).2.1,rd b f (0,0),(rd a.1.2.2.2.2.2.2.2.2.1.2 (rd c f 0) bf).2.2.2)).bind fun q1 =>
    g1 ((w8 a.1 q1.1.1),a.2) b c e (IntKind.i64.wrap (f+1))
   else
    g1 a b c e (IntKind.i64.wrap (f+1)))
  else
   g1 a b c e (IntKind.i64.wrap (f+1)))
 else
  some ((),zu a,()))
def ajF (k:Nat) (g:(D8×Unit×p8×(List Int)×Int×Int×Unit) -> Option l9) (d:D8×Unit×p8×(List Int)×Int×Int×Unit):Option l9:=Yb k (fun a b c e f=>g ((zu a,()),(),b,c,e,f,())) (wo d.1.1) d.2.2.1 d.2.2.2.1 d.2.2.2.2.1 d.2.2.2.2.2.1
def NJ (k a:Nat) (b:qm) (c:ow) (e:List Int) (f h:Int):Option l9:=iter ae3 (ajF k) a ((zu b,()),(),c,e,f,h,())
theorem aaW (k a b c e f h):NJ k (a+1) b c e f h=Yb k (NJ k a) b c e f h:=Ba _ _ _ _
def agV (k:Nat) (a:qm) (b:ow):Option l9 :=
 (aaB k a.1.2.2.2.2.2.2.2.2.1).bind fun q0 =>
 NJ k k a b q0.1.1 (q0.1.1.length:Int) 0
def F61b:Fn:=⟨[XW,FX],[],fun k x=>agV k (wo x.1) x.2.1⟩
theorem ok61b:O 61 F61b:=okF (ah ok107 <| ah ok128 aj) [] (fun k=>(.loop 1 ae3 (ajF k) (fun g=>.nil) .nil)) Tryz.func61 rfl
def alW (k:Nat) (a:qm) (b:AY):Option aaI :=
 ix a.1.2.2.1 b.1 <|
 (S48 k a.1).bind fun q0 =>
 (alV k (rd a.1.2.2.1 b.1 bg) b q0.1.1).bind fun q1 =>
 (agV k a q1.1.2.1).bind fun q2 =>
 (JO k (wo q2.2.1) (0,q1.1.2.2.1,q1.1.1.1,0,0,0)).bind fun q3 =>
 some ((q1.1.2.2.1==13,()),q3.2.1,trJ q1.1.1,())
def F152:Fn:=⟨[XW,aqJ],[rB],fun k x=>alW k (wo x.1) (tvJ x.2.1)⟩
theorem ok152:O 152 F152:=okF (ah ok48 <| ah ok61b <| ah ok146a <| ah ok242 aj) [] On Tryz.func152 rfl
def alX (k:Nat) (a:aeo) (b:AY):Option (((List kr)×Unit)×Unit) :=
 (RZ k (Us (.int .i64) yc b.2.2.2.1 (vL (.int .i64) yc 2 a.2.2.2.2.2 (vL (.int .i64) yc 1 a.2.2.2.2.1 (vL (.int .i64) yc 0 a.2.2.2.1 ([]:List (Int×List kr))))) [])).bind fun q0 =>
 some ((q0.1.1,()),())
def F306:Fn:=⟨[aew,JN],[ajc],fun k x=>alX k x.1 x.2.1⟩
theorem ok306:O 306 F306:=okF (ah ok126 aj) [] On Tryz.func306 rfl
def acs (k:Nat) (a:Int×(PN Int 8)×(List qg)×Bool):Option SN :=
 (ab8 k a.2.2.1).bind fun q0 =>
 some (((a.1,a.2.1,q0.1.1,a.2.2.2),()),())
def F195:Fn:=⟨[ajb],[aev],fun k x=>acs k x.1⟩
theorem ok195:O 195 F195:=okF (ah ok217 aj) [] On Tryz.func195 rfl
def alY (k:Nat) (a b:Int):Option u7 :=
 (bif decide (b <= (-64)) then
  some ((a,()),())
 else
  (bif decide (b≥64) then
   some ((a,()),())
  else
   (bif decide (b<0) then
    Uj (IntKind.i64.wrap (0 - b)) <|
    some ((Ul .i64 a (IntKind.i64.wrap (0 - b)),()),())
   else
    Uj b <|
    some ((IntKind.i64.wrap (Uk .u64 (IntKind.u64.wrap a) b),()),()))))
def F196:Fn:=⟨[au,au],[rI],fun k x=>alY k x.1 x.2.1⟩
theorem ok196:O 196 F196:=okF aj [] On Tryz.func196 rfl
def alZ (k:Nat) (a b:Int):Option u7 :=
 (bif decide (b<1) then
  some ((a,()),())
 else
  (bif decide (b>64) then
   some ((a,()),())
  else
   Uj (IntKind.i64.wrap (64 - b)) <|
   Uj (IntKind.i64.wrap (64 - b)) <|
   some ((Ul .i64 (Uk .i64 a (IntKind.i64.wrap (64 - b))) (IntKind.i64.wrap (64 - b)),()),())))
def F197:Fn:=⟨[au,au],[rI],fun k x=>alZ k x.1 x.2.1⟩
theorem ok197:O 197 F197:=okF aj [] On Tryz.func197 rfl
abbrev ae4:Cut:=⟨[1,2,3],[.box 57 [cI,cI,cI,cI,cI,cI,cI,cI,cI,.own 293 yw,.cell .bool],.box 57 [cI,cI,cI,cI,cI,cI,cI,cI,cI,.nil,.cell .bool],cI],[],55,[]⟩
def Yc (k:Nat) (g2:Int -> Int -> Int -> Int -> Int -> Int -> Int -> Int -> Int -> (List qg) -> Bool -> Int -> Int -> Int -> Int -> Int -> Int -> Int -> Int -> Int -> Bool -> Int -> Option SN) (a b c e f h i l m:Int) (n:List qg) (o:Bool) (p s t u v w y z A:Int) (B:Bool) (C:Int):Option SN :=
 (bif decide (C>0) then
  ix n (IntKind.i64.wrap (C - 1)) <|
  (bif decide ((rd n (IntKind.i64.wrap (C - 1)) (0,0,0)).2.1<a) then
   ix n (IntKind.i64.wrap (C - 1)) <|
   (bif decide ((rd n (IntKind.i64.wrap (C - 1)) (0,0,0)).2.2>0) then
    some ((((rd n (IntKind.i64.wrap (C - 1)) (0,0,0)).1,(b,c,e,f,h,i,l,m),upd n (IntKind.i64.wrap (C - 1)) ((rd n (IntKind.i64.wrap (C - 1)) (0,0,0)).1,(rd n (IntKind.i64.wrap (C - 1)) (0,0,0)).2.1,IntKind.i64.wrap ((rd n (IntKind.i64.wrap (C - 1)) (0,0,0)).2.2 - 1)),o),()),())
   else
    sx n 0 (IntKind.i64.wrap (C - 1)) <|
    g2 a b c e f h i l m (n.take (IntKind.i64.wrap (C - 1)).toNat) o p s t u v w y z A B ((n.take (IntKind.i64.wrap (C - 1)).toNat).length:Int))
  else
   some (((a,(b,c,e,f,h,i,l,m),n,o),()),()))
 else
  some (((a,(b,c,e,f,h,i,l,m),n,o),()),()))
def ajG (k:Nat):Xx (((Unit)×aod×(Int×Int×Int×Int×Int×Int×Int×Int×Int×Unit×Bool×Unit)×Int×Unit) -> Option SN):=eu (dw (d9 (dh (dh (dh (dh (dh (dh (dh (dh (dh (dh (dh dx))))))))))) (d9 (dh (dh (dh (dh (dh (dh (dh (dh (dh (dw (dh dx))))))))))) (dh dx)))) (Yc k)
def Yd (k a:Nat) (b c e f h i l m n:Int) (o:List qg) (p:Bool) (s t u v w y z A B:Int) (C:Bool) (D:Int):Option SN:=iter ae4 (ajG k) a ((),(b,c,e,f,h,i,l,m,n,o,p,()),(s,t,u,v,w,y,z,A,B,(),C,()),D,())
theorem aaX (k a b c e f h i l m n o p s t u v w y z A B C D):Yd k (a+1) b c e f h i l m n o p s t u v w y z A B C D=Yc k (Yd k a) b c e f h i l m n o p s t u v w y z A B C D:=Ba _ _ _ _
def LK (k:Nat) (a b c e f h i l m:Int) (n:List qg) (o:Bool):Option SN :=
 Yd k k a b c e f h i l m n o 0 0 0 0 0 0 0 0 0 false (n.length:Int)
def F198:Fn:=⟨[.gv (.agg [cI,cI,cI,cI,cI,cI,cI,cI,cI,.own 293 yw,.cell .bool])],[aev],fun k ((a,b,c,e,f,h,i,l,m,n,o,_),_)=>LK k a b c e f h i l m n o⟩
theorem ok198:O 198 F198:=okF aj [(52,1)] (fun k=>(.loop 2 ae4 (ajG k) (fun g=>.nil) .nil)) Tryz.func198 rfl
def acu (k:Nat) (a:List kr) (b:Int×(PN Int 8)×(List qg)×Bool):Option (((Int×(PN Int 8)×(List qg)×Bool)×kr×Bool×Unit)×Unit) :=
 (bif b.2.2.2 then
  (acs k b).bind fun q0 =>
  some ((q0.1.1,(0,0,0,0),false,()),())
 else
  (bif decide (b.1<0) then
   (acs k b).bind fun q1 =>
   some ((q1.1.1,(0,0,0,0),false,()),())
  else
   (bif decide (b.1≥(a.length:Int)) then
    (acs k b).bind fun q2 =>
    some ((q2.1.1,(0,0,0,0),false,()),())
   else
    ix a b.1 <|
    (ahR k (rd a b.1 (0,0,0,0))).bind fun q3 =>
    (bif !q3.1.1 then
     (acs k b).bind fun q4 =>
     some ((q4.1.1,(0,0,0,0),false,()),())
    else
     (acs k b).bind fun q5 =>
     ix a q5.1.1.1 <|
     ax 8 (rd a q5.1.1.1 (0,0,0,0)).2.1 <|
     ax 8 (Int.tmod (rd a q5.1.1.1 (0,0,0,0)).2.2.1 8) <|
     (bif (rd a q5.1.1.1 (0,0,0,0)).1==0 then
      (LK k q5.1.1.1 q5.1.1.2.1.1 q5.1.1.2.1.2.1 q5.1.1.2.1.2.2.1 q5.1.1.2.1.2.2.2.1 q5.1.1.2.1.2.2.2.2.1 q5.1.1.2.1.2.2.2.2.2.1 q5.1.1.2.1.2.2.2.2.2.2.1 q5.1.1.2.1.2.2.2.2.2.2.2 q5.1.1.2.2.1 true).bind fun q6 =>
      some ((q6.1.1,rd a q5.1.1.1 (0,0,0,0),true,()),())
     else
      (bif (rd a q5.1.1.1 (0,0,0,0)).1==1 then
       (LK k (IntKind.i64.wrap (q5.1.1.1+1)) (Ur (α:=Int) 8 q5.1.1.2.1 (rd a q5.1.1.1 (0,0,0,0)).2.1 (rd a q5.1.1.1 (0,0,0,0)).2.2.2).1 (Ur (α:=Int) 8 q5.1.1.2.1 (rd a q5.1.1.1 (0,0,0,0)).2.1 (rd a q5.1.1.1 (0,0,0,0)).2.2.2).2.1 (Ur (α:=Int) 8 q5.1.1.2.1 (rd a q5.1.1.1 (0,0,0,0)).2.1 (rd a q5.1.1.1 (0,0,0,0)).2.2.2).2.2.1 (Ur (α:=Int) 8 q5.1.1.2.1 (rd a q5.1.1.1 (0,0,0,0)).2.1 (rd a q5.1.1.1 (0,0,0,0)).2.2.2).2.2.2.1 (Ur (α:=Int) 8 q5.1.1.2.1 (rd a q5.1.1.1 (0,0,0,0)).2.1 (rd a q5.1.1.1 (0,0,0,0)).2.2.2).2.2.2.2.1 (Ur (α:=Int) 8 q5.1.1.2.1 (rd a q5.1.1.1 (0,0,0,0)).2.1 (rd a q5.1.1.1 (0,0,0,0)).2.2.2).2.2.2.2.2.1 (Ur (α:=Int) 8 q5.1.1.2.1 (rd a q5.1.1.1 (0,0,0,0)).2.1 (rd a q5.1.1.1 (0,0,0,0)).2.2.2).2.2.2.2.2.2.1 (Ur (α:=Int) 8 q5.1.1.2.1 (rd a q5.1.1.1 (0,0,0,0)).2.1 (rd a q5.1.1.1 (0,0,0,0)).2.2.2).2.2.2.2.2.2.2 q5.1.1.2.2.1 q5.1.1.2.2.2).bind fun q7 =>
       some ((q7.1.1,rd a q5.1.1.1 (0,0,0,0),true,()),())
      else
       (bif (rd a q5.1.1.1 (0,0,0,0)).1==2 then
        (LK k (IntKind.i64.wrap (q5.1.1.1+1)) (Ur (α:=Int) 8 q5.1.1.2.1 (rd a q5.1.1.1 (0,0,0,0)).2.1 (IntKind.i64.wrap (IntKind.u64.wrap ((IntKind.u64.wrap (Uq (α:=Int) 8 q5.1.1.2.1 (rd a q5.1.1.1 (0,0,0,0)).2.1 0))+(IntKind.u64.wrap (Uq (α:=Int) 8 q5.1.1.2.1 (Int.tmod (rd a q5.1.1.1 (0,0,0,0)).2.2.1 8) 0)))))).1 (Ur (α:=Int) 8 q5.1.1.2.1 (rd a q5.1.1.1 (0,0,0,0)).2.1 (IntKind.i64.wrap (IntKind.u64.wrap ((IntKind.u64.wrap (Uq (α:=Int) 8 q5.1.1.2.1 (rd a q5.1.1.1 (0,0,0,0)).2.1 0))+(IntKind.u64.wrap (Uq (α:=Int) 8 q5.1.1.2.1 (Int.tmod (rd a q5.1.1.1 (0,0,0,0)).2.2.1 8) 0)))))).2.1 (Ur (α:=Int) 8 q5.1.1.2.1 (rd a q5.1.1.1 (0,0,0,0)).2.1 (IntKind.i64.wrap (IntKind.u64.wrap ((IntKind.u64.wrap (Uq (α:=Int) 8 q5.1.1.2.1 (rd a q5.1.1.1 (0,0,0,0)).2.1 0))+(IntKind.u64.wrap (Uq (α:=Int) 8 q5.1.1.2.1 (Int.tmod (rd a q5.1.1.1 (0,0,0,0)).2.2.1 8) 0)))))).2.2.1 (Ur (α:=Int) 8 q5.1.1.2.1 (rd a q5.1.1.1 (0,0,0,0)).2.1 (IntKind.i64.wrap (IntKind.u64.wrap ((IntKind.u64.wrap (Uq (α:=Int) 8 q5.1.1.2.1 (rd a q5.1.1.1 (0,0,0,0)).2.1 0))+(IntKind.u64.wrap (Uq (α:=Int) 8 q5.1.1.2.1 (Int.tmod (rd a q5.1.1.1 (0,0,0,0)).2.2.1 8) 0)))))).2.2.2.1 (Ur (α:=Int) 8 q5.1.1.2.1 (rd a q5.1.1.1 (0,0,0,0)).2.1 (IntKind.i64.wrap (IntKind.u64.wrap ((IntKind.u64.wrap (Uq (α:=Int) 8 q5.1.1.2.1 (rd a q5.1.1.1 (0,0,0,0)).2.1 0))+(IntKind.u64.wrap (Uq (α:=Int) 8 q5.1.1.2.1 (Int.tmod (rd a q5.1.1.1 (0,0,0,0)).2.2.1 8) 0)))))).2.2.2.2.1 (Ur (α:=Int) 8 q5.1.1.2.1 (rd a q5.1.1.1 (0,0,0,0)).2.1 (IntKind.i64.wrap (IntKind.u64.wrap ((IntKind.u64.wrap (Uq (α:=Int) 8 q5.1.1.2.1 (rd a q5.1.1.1 (0,0,0,0)).2.1 0))+(IntKind.u64.wrap (Uq (α:=Int) 8 q5.1.1.2.1 (Int.tmod (rd a q5.1.1.1 (0,0,0,0)).2.2.1 8) 0)))))).2.2.2.2.2.1 (Ur (α:=Int) 8 q5.1.1.2.1 (rd a q5.1.1.1 (0,0,0,0)).2.1 (IntKind.i64.wrap (IntKind.u64.wrap ((IntKind.u64.wrap (Uq (α:=Int) 8 q5.1.1.2.1 (rd a q5.1.1.1 (0,0,0,0)).2.1 0))+(IntKind.u64.wrap (Uq (α:=Int) 8 q5.1.1.2.1 (Int.tmod (rd a q5.1.1.1 (0,0,0,0)).2.2.1 8) 0)))))).2.2.2.2.2.2.1 (Ur (α:=Int) 8 q5.1.1.2.1 (rd a q5.1.1.1 (0,0,0,0)).2.1 (IntKind.i64.wrap (IntKind.u64.wrap ((IntKind.u64.wrap (Uq (α:=Int) 8 q5.1.1.2.1 (rd a q5.1.1.1 (0,0,0,0)).2.1 0))+(IntKind.u64.wrap (Uq (α:=Int) 8 q5.1.1.2.1 (Int.tmod (rd a q5.1.1.1 (0,0,0,0)).2.2.1 8) 0)))))).2.2.2.2.2.2.2 q5.1.1.2.2.1 q5.1.1.2.2.2).bind fun q8 =>
        some ((q8.1.1,rd a q5.1.1.1 (0,0,0,0),true,()),())
       else
        (bif (rd a q5.1.1.1 (0,0,0,0)).1==3 then
         (LK k (IntKind.i64.wrap (q5.1.1.1+1)) (Ur (α:=Int) 8 q5.1.1.2.1 (rd a q5.1.1.1 (0,0,0,0)).2.1 (IntKind.i64.wrap (IntKind.u64.wrap ((IntKind.u64.wrap (Uq (α:=Int) 8 q5.1.1.2.1 (rd a q5.1.1.1 (0,0,0,0)).2.1 0)) - (IntKind.u64.wrap (Uq (α:=Int) 8 q5.1.1.2.1 (Int.tmod (rd a q5.1.1.1 (0,0,0,0)).2.2.1 8) 0)))))).1 (Ur (α:=Int) 8 q5.1.1.2.1 (rd a q5.1.1.1 (0,0,0,0)).2.1 (IntKind.i64.wrap (IntKind.u64.wrap ((IntKind.u64.wrap (Uq (α:=Int) 8 q5.1.1.2.1 (rd a q5.1.1.1 (0,0,0,0)).2.1 0)) - (IntKind.u64.wrap (Uq (α:=Int) 8 q5.1.1.2.1 (Int.tmod (rd a q5.1.1.1 (0,0,0,0)).2.2.1 8) 0)))))).2.1 (Ur (α:=Int) 8 q5.1.1.2.1 (rd a q5.1.1.1 (0,0,0,0)).2.1 (IntKind.i64.wrap (IntKind.u64.wrap ((IntKind.u64.wrap (Uq (α:=Int) 8 q5.1.1.2.1 (rd a q5.1.1.1 (0,0,0,0)).2.1 0)) - (IntKind.u64.wrap (Uq (α:=Int) 8 q5.1.1.2.1 (Int.tmod (rd a q5.1.1.1 (0,0,0,0)).2.2.1 8) 0)))))).2.2.1 (Ur (α:=Int) 8 q5.1.1.2.1 (rd a q5.1.1.1 (0,0,0,0)).2.1 (IntKind.i64.wrap (IntKind.u64.wrap ((IntKind.u64.wrap (Uq (α:=Int) 8 q5.1.1.2.1 (rd a q5.1.1.1 (0,0,0,0)).2.1 0)) - (IntKind.u64.wrap (Uq (α:=Int) 8 q5.1.1.2.1 (Int.tmod (rd a q5.1.1.1 (0,0,0,0)).2.2.1 8) 0)))))).2.2.2.1 (Ur (α:=Int) 8 q5.1.1.2.1 (rd a q5.1.1.1 (0,0,0,0)).2.1 (IntKind.i64.wrap (IntKind.u64.wrap ((IntKind.u64.wrap (Uq (α:=Int) 8 q5.1.1.2.1 (rd a q5.1.1.1 (0,0,0,0)).2.1 0)) - (IntKind.u64.wrap (Uq (α:=Int) 8 q5.1.1.2.1 (Int.tmod (rd a q5.1.1.1 (0,0,0,0)).2.2.1 8) 0)))))).2.2.2.2.1 (Ur (α:=Int) 8 q5.1.1.2.1 (rd a q5.1.1.1 (0,0,0,0)).2.1 (IntKind.i64.wrap (IntKind.u64.wrap ((IntKind.u64.wrap (Uq (α:=Int) 8 q5.1.1.2.1 (rd a q5.1.1.1 (0,0,0,0)).2.1 0)) - (IntKind.u64.wrap (Uq (α:=Int) 8 q5.1.1.2.1 (Int.tmod (rd a q5.1.1.1 (0,0,0,0)).2.2.1 8) 0)))))).2.2.2.2.2.1 (Ur (α:=Int) 8 q5.1.1.2.1 (rd a q5.1.1.1 (0,0,0,0)).2.1 (IntKind.i64.wrap (IntKind.u64.wrap ((IntKind.u64.wrap (Uq (α:=Int) 8 q5.1.1.2.1 (rd a q5.1.1.1 (0,0,0,0)).2.1 0)) - (IntKind.u64.wrap (Uq (α:=Int) 8 q5.1.1.2.1 (Int.tmod (rd a q5.1.1.1 (0,0,0,0)).2.2.1 8) 0)))))).2.2.2.2.2.2.1 (Ur (α:=Int) 8 q5.1.1.2.1 (rd a q5.1.1.1 (0,0,0,0)).2.1 (IntKind.i64.wrap (IntKind.u64.wrap ((IntKind.u64.wrap (Uq (α:=Int) 8 q5.1.1.2.1 (rd a q5.1.1.1 (0,0,0,0)).2.1 0)) - (IntKind.u64.wrap (Uq (α:=Int) 8 q5.1.1.2.1 (Int.tmod (rd a q5.1.1.1 (0,0,0,0)).2.2.1 8) 0)))))).2.2.2.2.2.2.2 q5.1.1.2.2.1 q5.1.1.2.2.2).bind fun q9 =>
         some ((q9.1.1,rd a q5.1.1.1 (0,0,0,0),true,()),())
        else
         (bif (rd a q5.1.1.1 (0,0,0,0)).1==4 then
          (LK k (IntKind.i64.wrap (q5.1.1.1+1)) (Ur (α:=Int) 8 q5.1.1.2.1 (rd a q5.1.1.1 (0,0,0,0)).2.1 (IntKind.i64.wrap (IntKind.u64.wrap ((IntKind.u64.wrap (Uq (α:=Int) 8 q5.1.1.2.1 (rd a q5.1.1.1 (0,0,0,0)).2.1 0)) * (IntKind.u64.wrap (Uq (α:=Int) 8 q5.1.1.2.1 (Int.tmod (rd a q5.1.1.1 (0,0,0,0)).2.2.1 8) 0)))))).1 (Ur (α:=Int) 8 q5.1.1.2.1 (rd a q5.1.1.1 (0,0,0,0)).2.1 (IntKind.i64.wrap (IntKind.u64.wrap ((IntKind.u64.wrap (Uq (α:=Int) 8 q5.1.1.2.1 (rd a q5.1.1.1 (0,0,0,0)).2.1 0)) * (IntKind.u64.wrap (Uq (α:=Int) 8 q5.1.1.2.1 (Int.tmod (rd a q5.1.1.1 (0,0,0,0)).2.2.1 8) 0)))))).2.1 (Ur (α:=Int) 8 q5.1.1.2.1 (rd a q5.1.1.1 (0,0,0,0)).2.1 (IntKind.i64.wrap (IntKind.u64.wrap ((IntKind.u64.wrap (Uq (α:=Int) 8 q5.1.1.2.1 (rd a q5.1.1.1 (0,0,0,0)).2.1 0)) * (IntKind.u64.wrap (Uq (α:=Int) 8 q5.1.1.2.1 (Int.tmod (rd a q5.1.1.1 (0,0,0,0)).2.2.1 8) 0)))))).2.2.1 (Ur (α:=Int) 8 q5.1.1.2.1 (rd a q5.1.1.1 (0,0,0,0)).2.1 (IntKind.i64.wrap (IntKind.u64.wrap ((IntKind.u64.wrap (Uq (α:=Int) 8 q5.1.1.2.1 (rd a q5.1.1.1 (0,0,0,0)).2.1 0)) * (IntKind.u64.wrap (Uq (α:=Int) 8 q5.1.1.2.1 (Int.tmod (rd a q5.1.1.1 (0,0,0,0)).2.2.1 8) 0)))))).2.2.2.1 (Ur (α:=Int) 8 q5.1.1.2.1 (rd a q5.1.1.1 (0,0,0,0)).2.1 (IntKind.i64.wrap (IntKind.u64.wrap ((IntKind.u64.wrap (Uq (α:=Int) 8 q5.1.1.2.1 (rd a q5.1.1.1 (0,0,0,0)).2.1 0)) * (IntKind.u64.wrap (Uq (α:=Int) 8 q5.1.1.2.1 (Int.tmod (rd a q5.1.1.1 (0,0,0,0)).2.2.1 8) 0)))))).2.2.2.2.1 (Ur (α:=Int) 8 q5.1.1.2.1 (rd a q5.1.1.1 (0,0,0,0)).2.1 (IntKind.i64.wrap (IntKind.u64.wrap ((IntKind.u64.wrap (Uq (α:=Int) 8 q5.1.1.2.1 (rd a q5.1.1.1 (0,0,0,0)).2.1 0)) * (IntKind.u64.wrap (Uq (α:=Int) 8 q5.1.1.2.1 (Int.tmod (rd a q5.1.1.1 (0,0,0,0)).2.2.1 8) 0)))))).2.2.2.2.2.1 (Ur (α:=Int) 8 q5.1.1.2.1 (rd a q5.1.1.1 (0,0,0,0)).2.1 (IntKind.i64.wrap (IntKind.u64.wrap ((IntKind.u64.wrap (Uq (α:=Int) 8 q5.1.1.2.1 (rd a q5.1.1.1 (0,0,0,0)).2.1 0)) * (IntKind.u64.wrap (Uq (α:=Int) 8 q5.1.1.2.1 (Int.tmod (rd a q5.1.1.1 (0,0,0,0)).2.2.1 8) 0)))))).2.2.2.2.2.2.1 (Ur (α:=Int) 8 q5.1.1.2.1 (rd a q5.1.1.1 (0,0,0,0)).2.1 (IntKind.i64.wrap (IntKind.u64.wrap ((IntKind.u64.wrap (Uq (α:=Int) 8 q5.1.1.2.1 (rd a q5.1.1.1 (0,0,0,0)).2.1 0)) * (IntKind.u64.wrap (Uq (α:=Int) 8 q5.1.1.2.1 (Int.tmod (rd a q5.1.1.1 (0,0,0,0)).2.2.1 8) 0)))))).2.2.2.2.2.2.2 q5.1.1.2.2.1 q5.1.1.2.2.2).bind fun q10 =>
          some ((q10.1.1,rd a q5.1.1.1 (0,0,0,0),true,()),())
         else
          (bif (rd a q5.1.1.1 (0,0,0,0)).1==5 then
           (alY k (Uq (α:=Int) 8 q5.1.1.2.1 (rd a q5.1.1.1 (0,0,0,0)).2.1 0) (rd a q5.1.1.1 (0,0,0,0)).2.2.2).bind fun V9 =>
           (LK k (IntKind.i64.wrap (q5.1.1.1+1)) (Ur (α:=Int) 8 q5.1.1.2.1 (rd a q5.1.1.1 (0,0,0,0)).2.1 V9.1.1).1 (Ur (α:=Int) 8 q5.1.1.2.1 (rd a q5.1.1.1 (0,0,0,0)).2.1 V9.1.1).2.1 (Ur (α:=Int) 8 q5.1.1.2.1 (rd a q5.1.1.1 (0,0,0,0)).2.1 V9.1.1).2.2.1 (Ur (α:=Int) 8 q5.1.1.2.1 (rd a q5.1.1.1 (0,0,0,0)).2.1 V9.1.1).2.2.2.1 (Ur (α:=Int) 8 q5.1.1.2.1 (rd a q5.1.1.1 (0,0,0,0)).2.1 V9.1.1).2.2.2.2.1 (Ur (α:=Int) 8 q5.1.1.2.1 (rd a q5.1.1.1 (0,0,0,0)).2.1 V9.1.1).2.2.2.2.2.1 (Ur (α:=Int) 8 q5.1.1.2.1 (rd a q5.1.1.1 (0,0,0,0)).2.1 V9.1.1).2.2.2.2.2.2.1 (Ur (α:=Int) 8 q5.1.1.2.1 (rd a q5.1.1.1 (0,0,0,0)).2.1 V9.1.1).2.2.2.2.2.2.2 q5.1.1.2.2.1 q5.1.1.2.2.2).bind fun q12 =>
           some ((q12.1.1,rd a q5.1.1.1 (0,0,0,0),true,()),())
          else
           (bif (rd a q5.1.1.1 (0,0,0,0)).1==6 then
            (alZ k (Uq (α:=Int) 8 q5.1.1.2.1 (rd a q5.1.1.1 (0,0,0,0)).2.1 0) (rd a q5.1.1.1 (0,0,0,0)).2.2.2).bind fun q13 =>
            (LK k (IntKind.i64.wrap (q5.1.1.1+1)) (Ur (α:=Int) 8 q5.1.1.2.1 (rd a q5.1.1.1 (0,0,0,0)).2.1 q13.1.1).1 (Ur (α:=Int) 8 q5.1.1.2.1 (rd a q5.1.1.1 (0,0,0,0)).2.1 q13.1.1).2.1 (Ur (α:=Int) 8 q5.1.1.2.1 (rd a q5.1.1.1 (0,0,0,0)).2.1 q13.1.1).2.2.1 (Ur (α:=Int) 8 q5.1.1.2.1 (rd a q5.1.1.1 (0,0,0,0)).2.1 q13.1.1).2.2.2.1 (Ur (α:=Int) 8 q5.1.1.2.1 (rd a q5.1.1.1 (0,0,0,0)).2.1 q13.1.1).2.2.2.2.1 (Ur (α:=Int) 8 q5.1.1.2.1 (rd a q5.1.1.1 (0,0,0,0)).2.1 q13.1.1).2.2.2.2.2.1 (Ur (α:=Int) 8 q5.1.1.2.1 (rd a q5.1.1.1 (0,0,0,0)).2.1 q13.1.1).2.2.2.2.2.2.1 (Ur (α:=Int) 8 q5.1.1.2.1 (rd a q5.1.1.1 (0,0,0,0)).2.1 q13.1.1).2.2.2.2.2.2.2 q5.1.1.2.2.1 q5.1.1.2.2.2).bind fun q14 =>
            some ((q14.1.1,rd a q5.1.1.1 (0,0,0,0),true,()),())
           else
            (bif (rd a q5.1.1.1 (0,0,0,0)).1==7 then
             (bif (Uq (α:=Int) 8 q5.1.1.2.1 (rd a q5.1.1.1 (0,0,0,0)).2.1 0)==0 then
              (LK k (IntKind.i64.wrap ((IntKind.i64.wrap (q5.1.1.1+1))+(rd a q5.1.1.1 (0,0,0,0)).2.2.2)) q5.1.1.2.1.1 q5.1.1.2.1.2.1 q5.1.1.2.1.2.2.1 q5.1.1.2.1.2.2.2.1 q5.1.1.2.1.2.2.2.2.1 q5.1.1.2.1.2.2.2.2.2.1 q5.1.1.2.1.2.2.2.2.2.2.1 q5.1.1.2.1.2.2.2.2.2.2.2 q5.1.1.2.2.1 q5.1.1.2.2.2).bind fun q15 =>
              some ((q15.1.1,rd a q5.1.1.1 (0,0,0,0),true,()),())
             else
              (LK k (IntKind.i64.wrap (q5.1.1.1+1)) q5.1.1.2.1.1 q5.1.1.2.1.2.1 q5.1.1.2.1.2.2.1 q5.1.1.2.1.2.2.2.1 q5.1.1.2.1.2.2.2.2.1 q5.1.1.2.1.2.2.2.2.2.1 q5.1.1.2.1.2.2.2.2.2.2.1 q5.1.1.2.1.2.2.2.2.2.2.2 q5.1.1.2.2.1 q5.1.1.2.2.2).bind fun q16 =>
              some ((q16.1.1,rd a q5.1.1.1 (0,0,0,0),true,()),()))
            else
             (bif (rd a q5.1.1.1 (0,0,0,0)).1==8 then
              ap q5.1.1.2.2.1 ([(IntKind.i64.wrap (q5.1.1.1+1),IntKind.i64.wrap (q5.1.1.1+(rd a q5.1.1.1 (0,0,0,0)).2.2.1),IntKind.i64.wrap ((rd a q5.1.1.1 (0,0,0,0)).2.2.2 - 1))]:List qg) 24 fun r17 =>
              (LK k (IntKind.i64.wrap (q5.1.1.1+1)) q5.1.1.2.1.1 q5.1.1.2.1.2.1 q5.1.1.2.1.2.2.1 q5.1.1.2.1.2.2.2.1 q5.1.1.2.1.2.2.2.2.1 q5.1.1.2.1.2.2.2.2.2.1 q5.1.1.2.1.2.2.2.2.2.2.1 q5.1.1.2.1.2.2.2.2.2.2.2 r17 q5.1.1.2.2.2).bind fun q18 =>
              some ((q18.1.1,rd a q5.1.1.1 (0,0,0,0),true,()),())
             else
              (LK k (IntKind.i64.wrap (q5.1.1.1+1)) q5.1.1.2.1.1 q5.1.1.2.1.2.1 q5.1.1.2.1.2.2.1 q5.1.1.2.1.2.2.2.1 q5.1.1.2.1.2.2.2.2.1 q5.1.1.2.1.2.2.2.2.2.1 q5.1.1.2.1.2.2.2.2.2.2.1 q5.1.1.2.1.2.2.2.2.2.2.2 q5.1.1.2.2.1 q5.1.1.2.2.2).bind fun q19 =>
              some ((q19.1.1,rd a q5.1.1.1 (0,0,0,0),true,()),()))))))))))))))
def F110:Fn:=⟨[.val ⟨false,yc,false⟩,ajb],[aev,aje,rB],fun k x=>acu k x.1 x.2.1⟩
theorem ok110:O 110 F110:=okF (ah ok188 <| ah ok195 <| ah ok196 <| ah ok197 <| ah ok198 aj) [] On Tryz.func110 rfl
section
variable (w:World) {g n c i j:Nat}
theorem NK:Tryz.prog.underlying 32=some (.slice 3) /\ Tryz.prog.underlying 3=some (.int .i64) /\ Tryz.prog.underlying 4=some .bool /\ Tryz.prog.follows .mixedOrders=true /\ (∀ w,(Go.sizeOf 3).run Tryz.prog w=.ok 1 w) /\ Tryz.f308.ntmps=33:=⟨by kernel_rfl,by kernel_rfl,by kernel_rfl,by kernel_rfl,fun w=>by kernel_rfl,rfl⟩
theorem Ye {v:Value} (hv:(∃ A n c,v=.slice A n c /\ i <= n /\ n <= c /\ c <= 9223372036854775807)):Calls Tryz.prog 308 #[v,.int .i64 i,.int .i64 i] w fun e w'=>e=.returned v /\ w'=w:=by
 obtain ⟨t24,t3,t4,mixed,z36,hnt⟩:=NK
 have u24:=run_underlying t24;have u3:=run_underlying t3;have u4:=run_underlying t4
 obtain ⟨A,n,c,rfl,hi,hnc,hc63⟩:=hv
 have hi0:(i:Int) <= (n:Int):=by omega
 have hi1:(0:Int) <= (i:Int):=by omega
 cases A <;> (go_enter Tryz.func308,hnt;go_wp2 <;> (go_ret;exact ⟨rfl,rfl⟩))
theorem Yf {w' w'':World} (hlt:i<j) (hj:j <= n) (hnc:n <= c) (hc63:c <= 9223372036854775807)
  (hap:∀ ty A,(c≠j -> A=(⟨g,j * 1,none⟩:Addr)) -> (Builtin.append_ #[32,32] ty #[.slice (some ⟨g,0,none⟩) i c,.slice (some A) (n - j) (c - j)]).run Tryz.prog w.drew=.ok (.slice (some ⟨g,0,none⟩) (i+(n - j)) c) w')
  (hcl:∀ ty dc,(Builtin.clear_ #[32] ty #[.slice (some ⟨g,(i+(n - j)) * 1,none⟩) (n - (i+(n - j))) dc]).run Tryz.prog w'=.ok (.tuple #[]) w'') :
  Calls Tryz.prog 308 #[.slice (some ⟨g,0,none⟩) n c,.int .i64 i,.int .i64 j] w fun e w1=>e=.returned (.slice (some ⟨g,0,none⟩) (i+(n - j)) c) /\ w1=w'':=by
 obtain ⟨t24,t3,t4,mixed,z36,hnt⟩:=NK
 have u24:=run_underlying t24;have u3:=run_underlying t3;have u4:=run_underlying t4
 have hi0:(i:Int) <= (n:Int):=by omega
 have hj0:(j:Int) <= (n:Int):=by omega
 have hij:(i:Int) <= (j:Int):=by omega
 have hne:¬ ((i:Int)=(j:Int)):=by omega
 have hic:i <= c:=by omega
 have hjc:j <= c:=by omega
 have hln:i+(n - j) <= n:=by omega
 have hlc:i+(n - j) <= c:=by omega
 have hci:¬ (c=i+(n - j)):=by omega
 obtain ⟨A,hA,hA'⟩:∃ A:Addr,(if c=j then some (⟨g,0,none⟩:Addr) else some ⟨g,j * 1,none⟩)=some A /\ (c≠j -> A=(⟨g,j * 1,none⟩:Addr)):=by
  by_cases h:c=j
  · exact ⟨_,if_pos h,fun q=>absurd h q⟩
  · exact ⟨_,if_neg h,fun _=>rfl⟩
 try simp only [Nat.mul_one] at hA hcl
 go_enter Tryz.func308,hnt
 go_wp2_with fail
 go_region_law_o (refine Gz rfl rfl _ _ (by simp [Act.eval,Act.put]) (by simp [Act.eval,Act.put,hA]) (hap _ _ hA') ?_)
 go_wp2_with (at_builtin;refine Ji rfl rfl _ rfl (hcl _ _) ?_)
 go_ret
 exact ⟨rfl,rfl⟩
end
abbrev ar0:List PT:=iG 3 (.int .i64)
abbrev ar1:List RT:=qV 3 (.int .i64)
def aps (k:Nat) (a:List Int) (i j:Int):Option FV:=Jk 3 (.int .i64) k (a,i,j,())
def F308:Fn:=⟨ar0,ar1,Jk 3 (.int .i64)⟩
def ar2:Env:=tab.env (fun _=>none) (fun _=>0)
theorem al1:aH Tryz.prog ar2:=Kw Rt _ _ (fun f F h=>by cases h)
theorem ok308:O 308 F308:=by
 obtain ⟨i0,z,a1,a2,a3,a4,a5⟩:=(al1.ty 3 ((.int .i64)) (by kernel_rfl)).info
 have b2:Ty.sz ((.int .i64))=1:=rfl
 have hz:z.cells.size=1:=by rw [<- Array.length_toList,a5,gZ,b2]
 obtain ⟨t24,t3,t4,mixed,z36,hnt⟩:=NK
 refine Qu Tryz.func308 rfl (by kernel_rfl) ?_
 rw [b2]
 exact Mr (S:=32) (z:=z) t24 a1 a4 (by rw [a2,b2]) hz (fun v hv=>tT ((.int .i64)) v (by rw [<- a5];exact hv)) (by decide) (fun w i v h=>Ye w h) (fun w g n c i j w' w'' h1 h2 h3 h4 h5 h6=>Yf w h1 h2 h3 h4 h5 h6)
abbrev aaY:Cut:=⟨[4,5,8],[.box 59 [cI,cI,cI,cI,cI,cI,cI,cI,cI,cI,cI,cI,cI,.own 293 yw,.cell .bool,cI,cI,cI,cI,cI,cI,cI,cI,cI,.own 293 yw,.cell .bool,.own 3 (.int .i64),.cell .bool],.box 127 [cI,cI,cI,cI],cI],[],70,[]⟩
def QS (k:Nat) (g13:BS -> Int -> Int -> Int -> Int -> Int -> Option VI) (x:AY) (a b c e f:Int):Option VI :=
 (bif decide (f≥0) then
  ix x.2.2.2.2.2.2.1 f <|
  (bif (rd x.2.2.2.2.2.2.1 f 0)==b then
   (aps k x.2.2.2.2.2.2.1 f (IntKind.i64.wrap (f+1))).bind fun q5 =>
   some (((w6 x q5.1.1),(a,b,c,e),true,()),())
  else
   g13 x a b c e (IntKind.i64.wrap (f - 1)))
 else
  some ((x,(a,b,c,e),true,()),()))
def ae5 (k:Nat) (g:((Unit)×ai6×VJ×Int×Unit) -> Option VI) (d:(Unit)×ai6×VJ×Int×Unit):Option VI:=QS k (fun x a b c e f=>g ((),trJ x,(a,b,c,e,()),f,())) (tvJ d.2.1) d.2.2.1.1 d.2.2.1.2.1 d.2.2.1.2.2.1 d.2.2.1.2.2.2.1 d.2.2.2.1
def QT (k a:Nat) (x:AY) (b c e f h:Int):Option VI:=iter aaY (ae5 k) a ((),trJ x,(b,c,e,f,()),h,())
theorem VL (k a x b c e f h):QT k (a+1) x b c e f h=QS k (QT k a) x b c e f h:=Ba _ _ _ _
def al2 (k:Nat) (a:aeo) (b:AY):Option VI :=
 (agU k b).bind fun q0 =>
 (alX k a b).bind fun q1 =>
 (acu k q1.1.1 b.2.2.2.2.1).bind fun q2 =>
 (bif !q2.1.2.2.1 then
  some ((q0.1.1,(0,0,0,0),false,()),())
 else
  (bif q2.1.2.1.1==11 then
   (aaV k q2.1.1).bind fun q3 =>
   some (((w5 (w4 q0.1.1 q2.1.1) q3.1.1),q2.1.2.1,true,()),())
  else
   (bif q2.1.2.1.1==9 then
    ap q0.1.1.2.2.2.2.2.2.1 ([q2.1.2.1.2.1]:List Int) 8 fun r4 =>
    some (((w6 (w4 q0.1.1 q2.1.1) r4),q2.1.2.1,true,()),())
   else
    (bif q2.1.2.1.1==10 then
     QT k k (w4 q0.1.1 q2.1.1) q2.1.2.1.1 q2.1.2.1.2.1 q2.1.2.1.2.2.1 q2.1.2.1.2.2.2 (IntKind.i64.wrap ((q0.1.1.2.2.2.2.2.2.1.length:Int) - 1))
    else
     some (((w4 q0.1.1 q2.1.1),q2.1.2.1,true,()),())))))
def F238:Fn:=⟨[aew,JN],[aaJ,aje,rB],fun k x=>al2 k x.1 x.2.1⟩
theorem ok238:O 238 F238:=okF (ah ok110 <| ah ok305 <| ah ok306 <| ah ok307 <| ah ok308 aj) [] (fun k=>(.loop 13 aaY (ae5 k) (fun g=>.nil) .nil)) Tryz.func238 rfl
def al3 (k:Nat) (a:ow) (b c:Int):Option ((p8×Bool×Unit)×Unit) :=
 (ajl k a).bind fun q0 =>
 (ajm k a b).bind fun q1 =>
 (bif !q1.1.1 then
  some ((q0.1.1,false,()),())
 else
  ix a b <|
  (bif (rd a b (0,0)).2 != 0 then
   some ((q0.1.1,false,()),())
  else
   ix q0.1.1 b <|
   some ((upd q0.1.1 b ((rd q0.1.1 b (0,0)).1,IntKind.i64.wrap (c+1)),true,()),())))
def F239:Fn:=⟨[FX,au,au],[aes,rB],fun k (a,b,c,_)=>al3 k a b c⟩
theorem ok239:O 239 F239:=okF (ah ok292 <| ah ok309 aj) [] On Tryz.func239 rfl
def al4 (k:Nat) (a:ow) (b c:Int):Option ((p8×Bool×Unit)×Unit) :=
 (ajl k a).bind fun q0 =>
 (agQ k a b c).bind fun q1 =>
 (bif !q1.1.1 then
  some ((q0.1.1,false,()),())
 else
  ix q0.1.1 b <|
  some ((upd q0.1.1 b ((rd q0.1.1 b (0,0)).1,0),true,()),()))
def F240:Fn:=⟨[FX,au,au],[aes,rB],fun k (a,b,c,_)=>al4 k a b c⟩
theorem ok240:O 240 F240:=okF (ah ok292 <| ah ok293 aj) [] On Tryz.func240 rfl
def al5 (k:Nat) (a:AY):Option ((BS×Unit)×Unit) :=
 (agU k a).bind fun q0 =>
 (Q5 k a.2.2.2.2.1.2.1.1).bind fun q1 =>
 (Q5 k a.2.2.2.2.1.2.1.1).bind fun q2 =>
 some (((q0.1.1.1,q0.1.1.2.1,q0.1.1.2.2.1,2,q1.1.1,q2.1.1,[],false),()),())
def F310:Fn:=⟨[JN],[aaJ],fun k x=>al5 k x.1⟩
theorem ok310:O 310 F310:=okF (ah ok109 <| ah ok305 aj) [] On Tryz.func310 rfl
abbrev al6:Cut:=⟨[0,1],[.pin false 0,.pin false 1],[.fK 166 [cI,cI,.own 54 CG,.own 168 zx,.cell .bool,.cell .bool,.cell .bool,.own 59 LA,.own 3 (.int .i64),.own 4 .bool,.own 142 A9,.own 3 (.int .i64),.own 4 .bool,.own 51 x9],.fK 59 [cI,cI,cI,cI,cI,cI,cI,cI,cI,cI,cI,cI,cI,.own 293 yw,.cell .bool,cI,cI,cI,cI,cI,cI,cI,cI,cI,.own 293 yw,.cell .bool,.own 3 (.int .i64),.cell .bool]],95,[]⟩
def NM (k:Nat) (a:qm) (b:AY):Option aaI :=
 (acf k a.1.2.2.2.2.2.2.2.2.2 b.1).bind fun q3 =>
 (al5 k b).bind fun q4 =>
 ix a.1.2.2.1 q4.1.1.1 <|
 some ((((rd a.1.2.2.1 q4.1.1.1 bg).2.2.2.2.2.length:Int)==0,()),zu ((z9 a.1 q3.1.1),a.2),trJ q4.1.1,())
def al7 (k:Nat) (a:qm) (b:AY):Option aaI :=
 (bif b.2.2.2.1==2 then
  (JO k a (0,4,b.1,0,b.2.2.2.2.1.2.1.1,0)).bind fun q0 =>
  some ((true,()),q0.2.1,trJ b,())
 else
  (JO k a (0,3,b.1,0,b.2.2.2.2.1.2.1.1,0)).bind fun q1 =>
  (bif b.2.2.2.1==0 then
   ix (wo q1.2.1).1.2.2.1 b.1 <|
   (bif decide (((rd (wo q1.2.1).1.2.2.1 b.1 bg).2.2.2.2.1.length:Int)>0) then
    (JO k (wo q1.2.1) (0,8,b.1,0,0,0)).bind fun q2 =>
    NM k (wo q2.2.1) b
   else
    NM k (wo q1.2.1) b)
  else
   NM k (wo q1.2.1) b))
def F241:Fn:=⟨[XW,.fK 59 [cI,cI,cI,cI,cI,cI,cI,cI,cI,cI,cI,cI,cI,.own 293 yw,.cell .bool,cI,cI,cI,cI,cI,cI,cI,cI,cI,.own 293 yw,.cell .bool,.own 3 (.int .i64),.cell .bool]],[rB],fun k x=>al7 k (wo x.1) (tvJ x.2.1)⟩
theorem ok241:O 241 F241:=okF (ah ok129 <| ah ok146a <| ah ok310 aj) [] (fun k=>(.join 8 al6 (fun d=>NM k (wo d.1.1) (tvJ d.1.2.1)) .nil)) Tryz.func241 rfl
abbrev ajH:Cut:=⟨[0,1],[.pin false 0,.pin false 1],[.fK 166 [cI,cI,.own 54 CG,.own 168 zx,.cell .bool,.cell .bool,.cell .bool,.own 59 LA,.own 3 (.int .i64),.own 4 .bool,.own 142 A9,.own 3 (.int .i64),.own 4 .bool,.own 51 x9],.fK 59 [cI,cI,cI,cI,cI,cI,cI,cI,cI,cI,cI,cI,cI,.own 293 yw,.cell .bool,cI,cI,cI,cI,cI,cI,cI,cI,cI,.own 293 yw,.cell .bool,.own 3 (.int .i64),.cell .bool]],92,[]⟩
def IG (k:Nat) (a:qm) (b:AY):Option aaI :=
 (bif b.2.2.2.2.1.2.2.2 then
  (al7 k a b).bind fun q7 =>
  some ((q7.1.1,()),q7.2.1,q7.2.2.1,())
 else
  some ((false,()),zu a,trJ b,()))
def al8 (k:Nat) (a:qm) (b:AY):Option aaI :=
 ix a.1.2.2.1 b.1 <|
 (al2 k (rd a.1.2.2.1 b.1 bg) b).bind fun q0 =>
 (bif !q0.1.2.2.1 then
  some ((false,()),zu a,trJ b,())
 else
  (bif q0.1.2.1.1==9 then
   (S48 k a.1).bind fun q1 =>
   (al3 k q1.1.1 q0.1.2.1.2.1 q0.1.1.1).bind fun q2 =>
   (agV k a q2.1.1).bind fun q3 =>
   IG k (wo q3.2.1) q0.1.1
  else
   (bif q0.1.2.1.1==10 then
    (S48 k a.1).bind fun q4 =>
    (al4 k q4.1.1 q0.1.2.1.2.1 q0.1.1.1).bind fun q5 =>
    (agV k a q5.1.1).bind fun q6 =>
    IG k (wo q6.2.1) q0.1.1
   else
    IG k a q0.1.1)))
def F151:Fn:=⟨[XW,aqJ],[rB],fun k x=>al8 k (wo x.1) (tvJ x.2.1)⟩
theorem ok151:O 151 F151:=okF (ah ok48 <| ah ok61b <| ah ok238 <| ah ok239 <| ah ok240 <| ah ok241 aj) [] (fun k=>(.join 12 ajH (fun d=>IG k (wo d.1.1) (tvJ d.1.2.1)) .nil)) Tryz.func151 rfl
def S81 (k:Nat) (a:qm):Option l9 :=
 (S48 k a.1).bind fun q0 =>
 (alT k a.1.2.2.2.2.2.2.2.1 (a.1.2.2.1.length:Int) q0.1.1).bind fun q1 =>
 (bif a.1.2.2.2.2.2.1 then
  some ((),zu a,())
 else
  (bif !q1.1.2.1 then
   some ((),zu a,())
  else
   ix a.1.2.2.2.2.2.2.2.1 q1.1.1 <|
   (JO k a (0,2,(rd a.1.2.2.2.2.2.2.2.1 q1.1.1 ay).1,0,0,0)).bind fun q2 =>
   (bif (wo q2.2.1).1.2.2.2.2.2.2.1 then
    (alW k (wo q2.2.1) (rd a.1.2.2.2.2.2.2.2.1 q1.1.1 ay)).bind fun q3 =>
    ix (wo q3.2.1).1.2.2.2.2.2.2.2.1 q1.1.1 <|
    (bif q3.1.1 then
     (S72 k (upd (wo q3.2.1).1.2.2.2.2.2.2.2.1 q1.1.1 (tvJ q3.2.2.1)) q1.1.1 (IntKind.i64.wrap (q1.1.1+1))).bind fun q4 =>
     some ((),zu ((w7 (wo q3.2.1).1 q4.1.1),(wo q3.2.1).2),())
    else
     some ((),zu ((w7 (wo q3.2.1).1 (upd (wo q3.2.1).1.2.2.2.2.2.2.2.1 q1.1.1 (tvJ q3.2.2.1))),(wo q3.2.1).2),()))
   else
    (al8 k (wo q2.2.1) (rd a.1.2.2.2.2.2.2.2.1 q1.1.1 ay)).bind fun q5 =>
    ix (wo q5.2.1).1.2.2.2.2.2.2.2.1 q1.1.1 <|
    (bif q5.1.1 then
     (S72 k (upd (wo q5.2.1).1.2.2.2.2.2.2.2.1 q1.1.1 (tvJ q5.2.2.1)) q1.1.1 (IntKind.i64.wrap (q1.1.1+1))).bind fun q6 =>
     some ((),zu ((w7 (wo q5.2.1).1 q6.1.1),(wo q5.2.1).2),())
    else
     some ((),zu ((w7 (wo q5.2.1).1 (upd (wo q5.2.1).1.2.2.2.2.2.2.2.1 q1.1.1 (tvJ q5.2.2.1))),(wo q5.2.1).2),())))))
def F81:Fn:=⟨[XW],[],fun k x=>S81 k (wo x.1)⟩
theorem ok81:O 81 F81:=okF (ah ok48 <| ah ok72 <| ah ok146a <| ah ok150 <| ah ok151 <| ah ok152 aj) [] On Tryz.func81 rfl
def S33 (k:Nat) (a:SL):Option ((JD×LD×Unit)×Unit) :=
 (S56 k a).bind fun q0 =>
 (bif q0.1.1.2.2.2.2.1 then
  (bif !q0.1.1.2.2.2.2.2.1 then
   (S78 k (q0.1.1,([]:List (PN Int 6)))).bind fun q1 =>
   (S79 k (wo q1.2.1)).bind fun q2 =>
   (S80 k (wo q2.2.1)).bind fun q3 =>
   (S81 k (wo q3.2.1)).bind fun q4 =>
   some (((w6 (w0 (wo q4.2.1).1 (IntKind.i64.wrap ((wo q4.2.1).1.1+1))) false),(wo q4.2.1).2,()),())
  else
   some (((w6 (w0 q0.1.1 (IntKind.i64.wrap (q0.1.1.1+1))) false),([]:List (PN Int 6)),()),()))
 else
  some (((w6 (w0 q0.1.1 (IntKind.i64.wrap (q0.1.1.1+1))) false),([]:List (PN Int 6)),()),()))
def F33:Fn:=⟨[aja],[aeu,aer],fun k x=>S33 k x.1⟩
theorem ok33:O 33 F33:=okF (ah ok56 <| ah ok78 <| ah ok79 <| ah ok80 <| ah ok81 aj) [(8,2)] On Tryz.func33 rfl
def al9 (k:Nat) (a:SV×List D5) (b:Int):Option (((SV×List D5)×Bool×Unit)×Unit) :=
 (Vd k a).bind fun q0 =>
 (ab9 k a b).bind fun q1 =>
 (bif !q1.1.1 then
  some ((q0.1.1,false,()),())
 else
  ix q0.1.1.2 b <|
  ix q0.1.1.2 b <|
  some (((q0.1.1.1,upd q0.1.1.2 b (z5 (rd q0.1.1.2 b bf) (Uo .u32 (rd q0.1.1.2 b bf).2.2.2.2.2))),true,()),()))
def F105:Fn:=⟨[ai9,au],[ajd,rB],fun k x=>al9 k x.1 x.2.1⟩
theorem ok105:O 105 F105:=okF (ah ok185 <| ah ok186 aj) [] On Tryz.func105 rfl
abbrev ae6:Cut:=⟨[2,4,6,7,8,65,66],[.box 42 [cI,cI,.cell (.sl 54 CG),.cell (.sl 168 zx),.cell .bool,.cell .bool,.cell .bool,.cell FW,.cell o8,.cell DZ,.cell (.sl 142 A9),.cell o8,.cell DZ],.box 42 [cI,cI,.nil,.nil,.cell .bool,.cell .bool,.cell .bool,.nil,.nil,.nil,.nil,.nil,.nil],.box 105 [cI,cI,cI,cI],.box 105 [cI,cI,cI,cI],.own 51 x9,cI,cI],[],87,[]⟩
def Yg (k:Nat) (g21:JD -> Int -> Int -> Bool -> Bool -> Bool -> Int -> Int -> Int -> Int -> Int -> Int -> Int -> Int -> LD -> Int -> Int -> Option SQ) (a:SL) (b c:Int) (e f h:Bool) (i l m n o p s t:Int) (u:List (PN Int 6)) (v w:Int):Option SQ :=
 (bif decide (w<v) then
  (S33 k a).bind fun q8 =>
  ap u q8.1.2.1 48 fun r9 =>
  g21 q8.1.1 b c e f h i l m n o p s t r9 v (IntKind.i64.wrap (w+1))
 else
  (S30 k a (-1) 0).bind fun q10 =>
  some ((q10.1.1,u,(o,(p,s),t),()),()))
def ajI (k:Nat) (g:((Unit)×aem×aog×VJ×VJ×LD×Int×Int×Unit) -> Option SQ) (d:(Unit)×aem×aog×VJ×VJ×LD×Int×Int×Unit):Option SQ:=Yg k (fun a b c e f h i l m n o p s t u v w=>g ((),RP a,(b,c,(),(),e,f,h,(),(),(),(),(),(),()),(i,l,m,n,()),(o,p,s,t,()),u,v,w,())) (Zt d.2.1) d.2.2.1.1 d.2.2.1.2.1 d.2.2.1.2.2.2.2.1 d.2.2.1.2.2.2.2.2.1 d.2.2.1.2.2.2.2.2.2.1 d.2.2.2.1.1 d.2.2.2.1.2.1 d.2.2.2.1.2.2.1 d.2.2.2.1.2.2.2.1 d.2.2.2.2.1.1 d.2.2.2.2.1.2.1 d.2.2.2.2.1.2.2.1 d.2.2.2.2.1.2.2.2.1 d.2.2.2.2.2.1 d.2.2.2.2.2.2.1 d.2.2.2.2.2.2.2.1
def Yh (k a:Nat) (b:SL) (c e:Int) (f h i:Bool) (l m n o p s t u:Int) (v:List (PN Int 6)) (w y:Int):Option SQ:=iter ae6 (ajI k) a ((),RP b,(c,e,(),(),f,h,i,(),(),(),(),(),(),()),(l,m,n,o,()),(p,s,t,u,()),v,w,y,())
theorem aaZ (k a b c e f h i l m n o p s t u v w y):Yh k (a+1) b c e f h i l m n o p s t u v w y=Yg k (Yh k a) b c e f h i l m n o p s t u v w y:=Ba _ _ _ _
def S45 (k:Nat) (a:SL) (b:Int×agO×Int×Int):Option SQ :=
 (bif b.1==1 then
  (S41 k a b.2.1).bind fun q0 =>
  some (q0.1,())
 else
  (bif b.1==2 then
   (S33 k a).bind fun q1 =>
   some ((q1.1.1,q1.1.2.1,(0,(0,0),0),()),())
  else
   (bif b.1==3 then
    (S30 k (w6 a true) (-1) 0).bind fun q2 =>
    some ((q2.1.1,([]:List (PN Int 6)),(0,(0,0),0),()),())
   else
    (bif b.1==4 then
     (al9 k a.2.2.2.2.2.2.2.2.1 b.2.2.1).bind fun q3 =>
     (bif !q3.1.2.1 then
      (S30 k a (-1) 0).bind fun q4 =>
      some ((q4.1.1,([]:List (PN Int 6)),(3,(0,0),0),()),())
     else
      (S30 k (w8 a q3.1.1) (-1) 0).bind fun q5 =>
      some ((q5.1.1,([]:List (PN Int 6)),(0,(0,0),0),()),()))
    else
     (bif b.1==5 then
      (bif decide (b.2.2.2<0) then
       (S30 k a (-1) 0).bind fun q6 =>
       some ((q6.1.1,([]:List (PN Int 6)),(1,(0,0),0),()),())
      else
       (bif decide (b.2.2.2>10000) then
        (S30 k a (-1) 0).bind fun q7 =>
        some ((q7.1.1,([]:List (PN Int 6)),(1,(0,0),0),()),())
       else
        Yh k k a 0 0 false false false 0 0 0 0 0 0 0 0 ([]:List (PN Int 6)) b.2.2.2 0))
     else
      (S30 k a (-1) 0).bind fun V9 =>
      some ((V9.1.1,([]:List (PN Int 6)),(1,(0,0),0),()),()))))))
def F45:Fn:=⟨[aja,.val ⟨true,JK,false⟩],[aeu,aer,.val ⟨true,aep,true⟩],fun k x=>S45 k x.1 x.2.1⟩
theorem ok45:O 45 F45:=okF (ah ok30 <| ah ok33 <| ah ok41 <| ah ok105 aj) [(8,2)] (fun k=>(.loop 21 ae6 (ajI k) (fun g=>.nil) .nil)) Tryz.func45 rfl
abbrev ajJ:Cut:=⟨[4,5,6,21,22,23],[.box 42 [cI,cI,.own 54 CG,.own 168 zx,.cell .bool,.cell .bool,.cell .bool,.own 59 LA,.own 3 (.int .i64),.own 4 .bool,.own 142 A9,.own 3 (.int .i64),.own 4 .bool],.own 51 x9,.own 105 aep,.cell (.sl 100 JK),cI,cI],[],46,[]⟩
def ae7 (k:Nat) (g5:JD -> LD -> (List JM) -> (List ql) -> Int -> Int -> Option (VH×Unit)) (a:SL) (b:List (PN Int 6)) (c:List JM) (e:List ql) (f h:Int):Option (VH×Unit) :=
 (bif decide (h<f) then
  ix e h <|
  (S45 k a (rd e h bq)).bind fun q1 =>
  ap b q1.1.2.1 48 fun r2 =>
  ap c ([q1.1.2.2.1]:List JM) 32 fun r3 =>
  g5 q1.1.1 r2 r3 e f (IntKind.i64.wrap (h+1))
 else
  some ((a,b,c,true,()),()))
def aoo (k:Nat) (g:((Unit)×aem×LD×(List JM)×(List ql)×Int×Int×Unit) -> Option (VH×Unit)) (d:(Unit)×aem×LD×(List JM)×(List ql)×Int×Int×Unit):Option (VH×Unit):=ae7 k (fun a b c e f h=>g ((),RP a,b,c,e,f,h,())) (Zt d.2.1) d.2.2.1 d.2.2.2.1 d.2.2.2.2.1 d.2.2.2.2.2.1 d.2.2.2.2.2.2.1
def ae8 (k a:Nat) (b:SL) (c:List (PN Int 6)) (e:List JM) (f:List ql) (h i:Int):Option (VH×Unit):=iter ajJ (aoo k) a ((),RP b,c,e,f,h,i,())
theorem ae9 (k a b c e f h i):ae8 k (a+1) b c e f h i=ae7 k (ae8 k a) b c e f h i:=Ba _ _ _ _
def S19 (k:Nat) (a:Int) (b:List ql):Option (VH×Unit) :=
 (S36 k a).bind fun q0 =>
 (bif !q0.1.2.1 then
  some (((0,0,[],[],false,false,false,[],(([],[]),[]),[],[]),([]:List (PN Int 6)),([]:List JM),false,()),())
 else
  ae8 k k q0.1.1 ([]:List (PN Int 6)) ([]:List JM) b (b.length:Int) 0)
def F19:Fn:=⟨[au,.val ⟨false,(.sl 100 JK),false⟩],[aeu,aer,.val ⟨false,(.sl 105 aep),true⟩,rB],fun k x=>S19 k x.1 x.2.1⟩
theorem ok19:O 19 F19:=okF (ah ok36 <| ah ok45 aj) [(5,2),(6,2)] (fun k=>(.loop 5 ajJ (aoo k) (fun g=>.nil) .nil)) Tryz.func19 rfl
def S15 (k:Nat):Option LC :=
 (Q7 k (1,(1,20,20,([(0,0,0,0)]:List kr),[],[]),(0,0),0,0,0)).bind fun q0 =>
 (Q7 k (5,bg,(0,0),0,0,0)).bind fun q1 =>
 (Q7 k (6,bg,(0,0),0,7,0)).bind fun q2 =>
 (S19 k 30 ([q0.1.1,q1.1.1,q2.1.1,(2,bn,0,0)]:List ql)).bind fun q3 =>
 (bif q3.1.2.2.2.1 then
  (bif q3.1.1.1==1 then
   (bif (q3.1.2.1.length:Int)==3 then
    ix q3.1.2.1 2 <|
    (bif (rd q3.1.2.1 2 (Qn (α:=Int) 6 0)).2.1==3 then
     ix q3.1.2.1 2 <|
     (bif (rd q3.1.2.1 2 (Qn (α:=Int) 6 0)).2.2.2.2.1==7 then
      (bif (q3.1.2.2.1.length:Int)==4 then
       ix q3.1.2.2.1 0 <|
       some (((rd q3.1.2.2.1 0 (0,(0,0),0)).1==0,()),())
      else
       some ((false,()),()))
     else
      some ((false,()),()))
    else
     some ((false,()),()))
   else
    some ((false,()),()))
  else
   some ((false,()),()))
 else
  some ((false,()),()))
def F15:Fn:=⟨[],[rB],fun k x=>S15 k ⟩
theorem ok15:O 15 F15:=okF (ah ok19 <| ah ok40 aj) [] On Tryz.func15 rfl
def S16 (k:Nat) (a:List Int):Option ((GN×Unit)×Unit) :=
 some (((a,0,()),()),())
def F16:Fn:=⟨[.val ⟨false,DY,false⟩],[.pv (.box 129 [.cell DY,cI])],fun k x=>S16 k x.1⟩
theorem ok16:O 16 F16:=okF aj [] On Tryz.func16 rfl
def AZ (k:Nat) (a:List Int) (b c:Int):Option ((Int×Unit)×GN×Unit) :=
 (bif decide (b≥(a.length:Int)) then
  some ((0,()),(a,b,()),())
 else
  ix a (IntKind.i64.wrap ((IntKind.i64.wrap (b+1)) - 1)) <|
  nz c <|
  some ((Int.tmod (IntKind.i64.wrap (rd a (IntKind.i64.wrap ((IntKind.i64.wrap (b+1)) - 1)) 0)) c,()),(a,IntKind.i64.wrap (b+1),()),()))
def F29:Fn:=⟨[P7,au],[rI],fun k ((a,b,_),c,_)=>AZ k a b c⟩
theorem ok29:O 29 F29:=okF aj [] On Tryz.func29 rfl
def agW (k:Nat) (a:List Int) (b:Int):Option ((kr×Unit)×GN×Unit) :=
 (AZ k a b 3).bind fun q0 =>
 (AZ k q0.2.1.1 q0.2.1.2.1 3).bind fun q1 =>
 (AZ k q1.2.1.1 q1.2.1.2.1 6).bind fun q2 =>
 (bif q2.1.1==0 then
  (AZ k q2.2.1.1 q2.2.1.2.1 9).bind fun q3 =>
  some (((1,q0.1.1,0,IntKind.i64.wrap (q3.1.1 - 4)),()),q3.2.1,())
 else
  (bif q2.1.1==1 then
   some (((2,q0.1.1,q1.1.1,0),()),q2.2.1,())
  else
   (bif q2.1.1==2 then
    some (((3,q0.1.1,q1.1.1,0),()),q2.2.1,())
   else
    (bif q2.1.1==3 then
     some (((4,q0.1.1,q1.1.1,0),()),q2.2.1,())
    else
     (bif q2.1.1==4 then
      (AZ k q2.2.1.1 q2.2.1.2.1 7).bind fun q4 =>
      some (((5,q0.1.1,0,IntKind.i64.wrap (q4.1.1 - 3)),()),q4.2.1,())
     else
      (AZ k q2.2.1.1 q2.2.1.2.1 64).bind fun q5 =>
      some (((6,q0.1.1,0,IntKind.i64.wrap (1+q5.1.1)),()),q5.2.1,()))))))
def F281:Fn:=⟨[P7],[aje],fun k x=>agW k x.1.1 x.1.2.1⟩
theorem ok281:O 281 F281:=okF (ah ok29 aj) [] On Tryz.func281 rfl
abbrev afa:Cut:=⟨[0,2,7,8],[.pin false 0,cI,.own 127 OY,cI],[.fK 129 [.cell DY,cI]],47,[]⟩
def Yi (k:Nat) (g3:aen) (a:List Int) (b c:Int) (e:List kr) (f:Int):Option JL :=
 (bif decide (f>0) then
  (bif decide (c>0) then
   (AZ k a b 4).bind fun q1 =>
   (bif q1.1.1==0 then
    (AZ k q1.2.1.1 q1.2.1.2.1 c).bind fun q2 =>
    ap e ([(9,q2.1.1,0,0)]:List kr) 32 fun r3 =>
    (agW k q2.2.1.1 q2.2.1.2.1).bind fun q4 =>
    ap r3 ([q4.1.1]:List kr) 32 fun r5 =>
    ap r5 ([(10,q2.1.1,0,0)]:List kr) 32 fun r6 =>
    g3 q4.2.1.1 q4.2.1.2.1 c r6 (IntKind.i64.wrap (f - 1))
   else
    (agW k q1.2.1.1 q1.2.1.2.1).bind fun q7 =>
    ap e ([q7.1.1]:List kr) 32 fun r8 =>
    g3 q7.2.1.1 q7.2.1.2.1 c r8 (IntKind.i64.wrap (f - 1)))
  else
   (agW k a b).bind fun q9 =>
   ap e ([q9.1.1]:List kr) 32 fun r10 =>
   g3 q9.2.1.1 q9.2.1.2.1 c r10 (IntKind.i64.wrap (f - 1)))
 else
  some ((e,()),(a,b,()),()))
def ajK (k:Nat):Xx (((GN×Unit)×Unit×Int×(List kr)×Int×Unit) -> Option JL):=eu (d9 (d9 (dh (dh dx)) dx) (dw (dh (dh (dh dx))))) (Yi k)
def Yj (k a:Nat) (b:List Int) (c e:Int) (f:List kr) (h:Int):Option JL:=iter afa (ajK k) a (((b,c,()),()),(),e,f,h,())
theorem aa0 (k a b c e f h):Yj k (a+1) b c e f h=Yi k (Yj k a) b c e f h:=Ba _ _ _ _
def agX (k:Nat) (a:List Int) (b c e:Int):Option JL :=
 (AZ k a b c).bind fun q0 =>
 Yj k k q0.2.1.1 q0.2.1.2.1 e ([]:List kr) (IntKind.i64.wrap (q0.1.1+1))
def F210:Fn:=⟨[P7,au,au],[ajc],fun k ((a,b,_),c,e,_)=>agX k a b c e⟩
theorem ok210:O 210 F210:=okF (ah ok29 <| ah ok281 aj) [(7,2)] (fun k=>(.loop 3 afa (ajK k) (fun g=>.nil) .nil)) Tryz.func210 rfl
abbrev ajL:Cut:=⟨[0,1,5,6,7],[.pin false 0,cI,.own 127 OY,cI,.own 127 OY],[.fK 129 [.cell DY,cI]],66,[]⟩
def EN (k:Nat) (g3:aen) (a:List Int) (b c:Int) (e:List kr) (f:Int) (x:List kr):Option JL :=
 (bif decide ((IntKind.i64.wrap ((e.length:Int)+(x.length:Int)))<23) then
  ap e x 32 fun r9 =>
  g3 a b c r9 (IntKind.i64.wrap (f - 1))
 else
  g3 a b c e (IntKind.i64.wrap (f - 1)))
abbrev afb:Cut:=⟨[0,1,5,6],[.pin false 0,cI,.own 127 OY,cI],[.fK 129 [.cell DY,cI]],66,[]⟩
def Yk (k:Nat) (g3:aen) (a:List Int) (b c:Int) (e:List kr) (f:Int):Option JL :=
 (bif decide (f>0) then
  (AZ k a b 5).bind fun q1 =>
  (bif q1.1.1==0 then
   (agX k q1.2.1.1 q1.2.1.2.1 2 c).bind fun q2 =>
   (AZ k q2.2.1.1 q2.2.1.2.1 3).bind fun q3 =>
   ap ([(8,0,(q2.1.1.length:Int),IntKind.i64.wrap (1+q3.1.1))]:List kr) q2.1.1 32 fun r4 =>
   EN k g3 q3.2.1.1 q3.2.1.2.1 c e f r4
  else
   (bif q1.1.1==1 then
    (agX k q1.2.1.1 q1.2.1.2.1 2 c).bind fun q5 =>
    (AZ k q5.2.1.1 q5.2.1.2.1 3).bind fun q6 =>
    ap ([(7,q6.1.1,0,(q5.1.1.length:Int))]:List kr) q5.1.1 32 fun r7 =>
    EN k g3 q6.2.1.1 q6.2.1.2.1 c e f r7
   else
    (bif q1.1.1==2 then
     EN k g3 q1.2.1.1 q1.2.1.2.1 c e f ([(11,0,0,0)]:List kr)
    else
     (agX k q1.2.1.1 q1.2.1.2.1 2 c).bind fun q8 =>
     EN k g3 q8.2.1.1 q8.2.1.2.1 c e f q8.1.1)))
 else
  ap e ([(0,0,0,0)]:List kr) 32 fun r10 =>
  some ((r10,()),(a,b,()),()))
def ajM (k:Nat):Xx (((GN×Unit)×Unit×Int×(List kr)×Int×Unit) -> Option JL):=eu (d9 (d9 (dh (dh dx)) dx) (dw (dh (dh (dh dx))))) (Yk k)
def GQ (k a:Nat) (b:List Int) (c e:Int) (f:List kr) (h:Int):Option JL:=iter afb (ajM k) a (((b,c,()),()),(),e,f,h,())
theorem aa1 (k a b c e f h):GQ k (a+1) b c e f h=Yk k (GQ k a) b c e f h:=Ba _ _ _ _
def ajN (k:Nat) (a:List Int) (b c:Int):Option JL :=
 (AZ k a b 4).bind fun q0 =>
 GQ k k q0.2.1.1 q0.2.1.2.1 c ([]:List kr) (IntKind.i64.wrap (q0.1.1+1))
def F120:Fn:=⟨[P7,au],[ajc],fun k ((a,b,_),c,_)=>ajN k a b c⟩
theorem ok120:O 120 F120:=okF (ah ok29 <| ah ok210 aj) [(5,2)] (fun k=>(.loop 3 afb (ajM k) (fun g=>(fun (g3:aen)=>(.join 16 ajL (fun (((a,b,_),_),_,c,e,f,h,_)=>EN k g3 a b c e f h) .nil)) (fun p2 p3 EO l_ i=>g (((p2,p3,()),()),(),EO,l_,i,()))) .nil)) Tryz.func120 rfl
abbrev apu:Cut:=⟨[0,6,7],[.pin false 0,.box 54 [cI,cI,cI,.nil,.nil,.nil],.box 54 [cI,cI,cI,.own 127 OY,.cell yc,.own 127 OY]],[.fK 129 [.cell DY,cI]],41,[]⟩
def aa2 (k:Nat) (a:List Int) (b c e f h i l:Int) (m n o:List kr):Option ((ai8×Unit)×GN×Unit) :=
 (AZ k a b 3).bind fun q5 =>
 (bif q5.1.1==0 then
  (ajN k q5.2.1.1 q5.2.1.2.1 0).bind fun q6 =>
  some (((h,i,l,m,n,q6.1.1),()),q6.2.1,())
 else
  some (((h,i,l,m,n,o),()),q5.2.1,()))
def S53 (k:Nat) (a:List Int) (b c e:Int):Option ((ai8×Unit)×GN×Unit) :=
 (ajN k a b e).bind fun q0 =>
 (AZ k q0.2.1.1 q0.2.1.2.1 12).bind fun q1 =>
 (AZ k q1.2.1.1 q1.2.1.2.1 10).bind fun q2 =>
 (AZ k q2.2.1.1 q2.2.1.2.1 3).bind fun q3 =>
 (bif q3.1.1==0 then
  (AZ k q3.2.1.1 q3.2.1.2.1 2).bind fun q4 =>
  sx ([(1,0,0,99),(0,0,0,0)]:List kr) q4.1.1 (([(1,0,0,99),(0,0,0,0)]:List kr).length:Int) <|
  aa2 k q4.2.1.1 q4.2.1.2.1 0 0 0 c (IntKind.i64.wrap (20+(IntKind.i64.wrap (10 * q1.1.1)))) (IntKind.i64.wrap ((IntKind.i64.wrap (20+(IntKind.i64.wrap (10 * q1.1.1)))) - q2.1.1)) q0.1.1 (sub ([(1,0,0,99),(0,0,0,0)]:List kr) q4.1.1 (([(1,0,0,99),(0,0,0,0)]:List kr).length:Int)) ([]:List kr)
 else
  aa2 k q3.2.1.1 q3.2.1.2.1 0 0 0 c (IntKind.i64.wrap (20+(IntKind.i64.wrap (10 * q1.1.1)))) (IntKind.i64.wrap ((IntKind.i64.wrap (20+(IntKind.i64.wrap (10 * q1.1.1)))) - q2.1.1)) q0.1.1 ([]:List kr) ([]:List kr))
def F53:Fn:=⟨[P7,au,au],[.val ⟨true,CG,false⟩],fun k ((a,b,_),c,e,_)=>S53 k a b c e⟩
theorem ok53:O 53 F53:=okF (ah ok29 <| ah ok120 aj) [(12,2)] (fun k=>(.join 6 apu (fun (((a,b,_),_),_,(c,e,f,_),(h,i,l,m,n,o,_),_)=>aa2 k a b c e f h i l m n o) .nil)) Tryz.func53 rfl
abbrev ama:Cut:=⟨[3],[.own 100 JK],[.fK 129 [.cell DY,cI]],60,[]⟩
def Yl (k:Nat) (a:List Int) (b:Int) (c:List ql):Option BQ :=
 (Q7 k (5,bg,(0,0),0,0,0)).bind fun q14 =>
 ap c ([q14.1.1]:List ql) 168 fun r15 =>
 some ((r15,()),(a,b,()),())
abbrev amb:Cut:=⟨[0,3],[.pin false 0,.own 100 JK],[.fK 129 [.cell DY,cI]],60,[]⟩
def TL (k:Nat) (a:List Int) (b:Int) (c:List ql):Option BQ :=
 (AZ k a b 3).bind fun V9 =>
 (bif V9.1.1==0 then
  (Q7 k (4,bg,(0,0),0,0,0)).bind fun q12 =>
  ap c ([q12.1.1]:List ql) 168 fun r13 =>
  Yl k V9.2.1.1 V9.2.1.2.1 r13
 else
  Yl k V9.2.1.1 V9.2.1.2.1 c)
abbrev ajO:Cut:=⟨[0,3,4,6],[.pin false 0,.own 100 JK,cI,cI],[.fK 129 [.cell DY,cI]],60,[]⟩
def afc (k:Nat) (g8:(List Int) -> Int -> (List ql) -> Int -> Int -> Option BQ) (a:List Int) (b:Int) (c:List ql) (e f:Int):Option BQ :=
 (bif decide (f>0) then
  (AZ k a b 3).bind fun q4 =>
  (S53 k q4.2.1.1 q4.2.1.2.1 (IntKind.i64.wrap ((IntKind.i64.wrap (3 * f))+q4.1.1)) e).bind fun q5 =>
  (Q7 k (1,q5.1.1,(0,0),0,0,0)).bind fun q6 =>
  ap c ([q6.1.1]:List ql) 168 fun r7 =>
  g8 q5.2.1.1 q5.2.1.2.1 r7 e (IntKind.i64.wrap (f - 1))
 else
  (AZ k a b 3).bind fun q8 =>
  (bif q8.1.1==0 then
   (Q7 k (3,bg,(0,0),0,0,0)).bind fun q9 =>
   ap c ([q9.1.1]:List ql) 168 fun r10 =>
   TL k q8.2.1.1 q8.2.1.2.1 r10
  else
   TL k q8.2.1.1 q8.2.1.2.1 c))
def aop (k:Nat):Xx (((GN×Unit)×Unit×(List ql)×Int×Int×Unit) -> Option BQ):=eu (d9 (d9 (dh (dh dx)) dx) (dw (dh (dh (dh dx))))) (afc k)
def aa3 (k a:Nat) (b:List Int) (c:Int) (e:List ql) (f h:Int):Option BQ:=iter ajO (aop k) a (((b,c,()),()),(),e,f,h,())
theorem afd (k a b c e f h):aa3 k (a+1) b c e f h=afc k (aa3 k a) b c e f h:=Ba _ _ _ _
abbrev ajP:Cut:=⟨[0,3,4,5],[.pin false 0,.own 100 JK,cI,cI],[.fK 129 [.cell DY,cI]],60,[]⟩
def afe (k:Nat) (g4:(List Int) -> Int -> (List ql) -> Int -> Int -> Option BQ) (a:List Int) (b:Int) (c:List ql) (e f:Int):Option BQ :=
 (bif decide (f<e) then
  (Q7 k (2,bg,(0,0),0,0,0)).bind fun q1 =>
  ap c ([q1.1.1]:List ql) 168 fun r2 =>
  g4 a b r2 e (IntKind.i64.wrap (f+1))
 else
  (AZ k a b 4).bind fun q3 =>
  aa3 k k q3.2.1.1 q3.2.1.2.1 c e (IntKind.i64.wrap (q3.1.1+1)))
def aoq (k:Nat):Xx (((GN×Unit)×Unit×(List ql)×Int×Int×Unit) -> Option BQ):=eu (d9 (d9 (dh (dh dx)) dx) (dw (dh (dh (dh dx))))) (afe k)
def aff (k a:Nat) (b:List Int) (c:Int) (e:List ql) (f h:Int):Option BQ:=iter ajP (aoq k) a (((b,c,()),()),(),e,f,h,())
theorem afg (k a b c e f h):aff k (a+1) b c e f h=afe k (aff k a) b c e f h:=Ba _ _ _ _
def S17 (k:Nat) (a:List Int) (b:Int):Option BQ :=
 (AZ k a b 4).bind fun q0 =>
 aff k k q0.2.1.1 q0.2.1.2.1 ([]:List ql) q0.1.1 0
def F17:Fn:=⟨[P7],[aqO],fun k x=>S17 k x.1.1 x.1.2.1⟩
theorem ok17:O 17 F17:=okF (ah ok29 <| ah ok40 <| ah ok53 aj) [(3,2)] (fun k=>(.join 15 ama (fun (((a,b,_),_),c,_)=>Yl k a b c) (.join 13 amb (fun (((a,b,_),_),_,c,_)=>TL k a b c) (.loop 8 ajO (aop k) (fun g=>.nil) (.loop 4 ajP (aoq k) (fun g=>.nil) .nil))))) Tryz.func17 rfl
def S28 (k:Nat) (a:(List Int)×Int):Option LC :=
 some ((decide (a.2≥(a.1.length:Int)),()),())
def F28:Fn:=⟨[.pv (.ref (.pair DY (.int .i64)))],[rB],fun k x=>S28 k x.1⟩
theorem ok28:O 28 F28:=okF aj [] On Tryz.func28 rfl
def S38 (k:Nat) (a:List Int) (b:Int):Option ((ql×Unit)×GN×Unit) :=
 (AZ k a b 8).bind fun q0 =>
 (AZ k q0.2.1.1 q0.2.1.2.1 5).bind fun q1 =>
 (AZ k q1.2.1.1 q1.2.1.2.1 24).bind fun q2 =>
 (bif q2.1.1==0 then
  (AZ k q2.2.1.1 q2.2.1.2.1 6).bind fun q3 =>
  (AZ k q3.2.1.1 q3.2.1.2.1 9).bind fun q4 =>
  (Q7 k (6,bg,(0,0),q3.1.1,IntKind.i64.wrap (q4.1.1 - 4),0)).bind fun q5 =>
  some ((q5.1.1,()),q4.2.1,())
 else
  (bif q2.1.1==1 then
   (AZ k q2.2.1.1 q2.2.1.2.1 6).bind fun q6 =>
   (AZ k q6.2.1.1 q6.2.1.2.1 9).bind fun q7 =>
   (Q7 k (6,bg,(0,0),q6.1.1,IntKind.i64.wrap (q7.1.1 - 4),0)).bind fun q8 =>
   some ((q8.1.1,()),q7.2.1,())
  else
   (bif q2.1.1==2 then
    (AZ k q2.2.1.1 q2.2.1.2.1 6).bind fun q9 =>
    (AZ k q9.2.1.1 q9.2.1.2.1 9).bind fun q10 =>
    (Q7 k (6,bg,(0,0),q9.1.1,IntKind.i64.wrap (q10.1.1 - 4),0)).bind fun V9 =>
    some ((V9.1.1,()),q10.2.1,())
   else
    (bif q2.1.1==3 then
     (AZ k q2.2.1.1 q2.2.1.2.1 6).bind fun q12 =>
     (AZ k q12.2.1.1 q12.2.1.2.1 9).bind fun q13 =>
     (Q7 k (6,bg,(0,0),q12.1.1,IntKind.i64.wrap (q13.1.1 - 4),0)).bind fun q14 =>
     some ((q14.1.1,()),q13.2.1,())
    else
     (bif q2.1.1==4 then
      (AZ k q2.2.1.1 q2.2.1.2.1 6).bind fun q15 =>
      (AZ k q15.2.1.1 q15.2.1.2.1 9).bind fun q16 =>
      (Q7 k (6,bg,(0,0),q15.1.1,IntKind.i64.wrap (q16.1.1 - 4),0)).bind fun q17 =>
      some ((q17.1.1,()),q16.2.1,())
     else
      (bif q2.1.1==5 then
       some (((3,bn,0,0),()),q2.2.1,())
      else
       (bif q2.1.1==6 then
        (AZ k q2.2.1.1 q2.2.1.2.1 9).bind fun q18 =>
        some (((4,bn,q18.1.1,0),()),q18.2.1,())
       else
        (bif q2.1.1==7 then
         (AZ k q2.2.1.1 q2.2.1.2.1 99).bind fun q19 =>
         (Q7 k (7,bg,(q0.1.1,IntKind.i64.wrap (1+(IntKind.i64.wrap (Int.tdiv q1.1.1 4)))),0,q19.1.1,0)).bind fun q20 =>
         some ((q20.1.1,()),q19.2.1,())
        else
         (bif q2.1.1==8 then
          (AZ k q2.2.1.1 q2.2.1.2.1 4).bind fun q21 =>
          (Q7 k (8,bg,(q0.1.1,IntKind.i64.wrap (1+(IntKind.i64.wrap (Int.tdiv q1.1.1 4)))),q21.1.1,0,0)).bind fun q22 =>
          some ((q22.1.1,()),q21.2.1,())
         else
          (bif q2.1.1==9 then
           (AZ k q2.2.1.1 q2.2.1.2.1 16).bind fun q23 =>
           (Q7 k (9,bg,(q0.1.1,IntKind.i64.wrap (1+(IntKind.i64.wrap (Int.tdiv q1.1.1 4)))),0,0,IntKind.u32.wrap q23.1.1)).bind fun q24 =>
           some ((q24.1.1,()),q23.2.1,())
          else
           (bif q2.1.1==10 then
            (AZ k q2.2.1.1 q2.2.1.2.1 4).bind fun q25 =>
            (AZ k q25.2.1.1 q25.2.1.2.1 16).bind fun q26 =>
            (Q7 k (10,bg,(q0.1.1,IntKind.i64.wrap (1+(IntKind.i64.wrap (Int.tdiv q1.1.1 4)))),q25.1.1,0,IntKind.u32.wrap q26.1.1)).bind fun q27 =>
            some ((q27.1.1,()),q26.2.1,())
           else
            (bif q2.1.1==11 then
             (AZ k q2.2.1.1 q2.2.1.2.1 12).bind fun q28 =>
             (AZ k q28.2.1.1 q28.2.1.2.1 6).bind fun q29 =>
             (AZ k q29.2.1.1 q29.2.1.2.1 9).bind fun q30 =>
             (S53 k q30.2.1.1 q30.2.1.2.1 q30.1.1 2).bind fun q31 =>
             (Q7 k (IntKind.i64.wrap (1+q28.1.1),q31.1.1,(q0.1.1,IntKind.i64.wrap (1+(IntKind.i64.wrap (Int.tdiv q1.1.1 4)))),q29.1.1,0,0)).bind fun q32 =>
             some ((q32.1.1,()),q31.2.1,())
            else
             (bif q2.1.1==12 then
              (AZ k q2.2.1.1 q2.2.1.2.1 30).bind fun q33 =>
              some (((5,bn,0,IntKind.i64.wrap (1+q33.1.1)),()),q33.2.1,())
             else
              (bif q2.1.1==13 then
               (AZ k q2.2.1.1 q2.2.1.2.1 30).bind fun q34 =>
               some (((5,bn,0,IntKind.i64.wrap (1+q34.1.1)),()),q34.2.1,())
              else
               some (((2,bn,0,0),()),q2.2.1,())))))))))))))))
def F38:Fn:=⟨[P7],[.val ⟨true,JK,false⟩],fun k x=>S38 k x.1.1 x.1.2.1⟩
theorem ok38:O 38 F38:=okF (ah ok29 <| ah ok40 <| ah ok53 aj) [] On Tryz.func38 rfl
abbrev ajQ:Cut:=⟨[0,1,5,6],[.pin false 0,cI,.own 100 JK,cI],[.fK 129 [.cell DY,cI]],25,[]⟩
def afh (k:Nat) (g3:(List Int) -> Int -> Int -> (List ql) -> Int -> Option BQ) (a:List Int) (b c:Int) (e:List ql) (f:Int):Option BQ :=
 (bif decide (f<c) then
  (S28 k (a,b)).bind fun q1 =>
  (bif !q1.1.1 then
   (S38 k a b).bind fun q2 =>
   ap e ([q2.1.1]:List ql) 168 fun r3 =>
   g3 q2.2.1.1 q2.2.1.2.1 c r3 (IntKind.i64.wrap (f+1))
  else
   some ((e,()),(a,b,()),()))
 else
  some ((e,()),(a,b,()),()))
def aor (k:Nat):Xx (((GN×Unit)×Unit×Int×(List ql)×Int×Unit) -> Option BQ):=eu (d9 (d9 (dh (dh dx)) dx) (dw (dh (dh (dh dx))))) (afh k)
def afi (k a:Nat) (b:List Int) (c e:Int) (f:List ql) (h:Int):Option BQ:=iter ajQ (aor k) a (((b,c,()),()),(),e,f,h,())
theorem afj (k a b c e f h):afi k (a+1) b c e f h=afh k (afi k a) b c e f h:=Ba _ _ _ _
def S18 (k:Nat) (a:List Int) (b c:Int):Option BQ :=
 (S17 k a b).bind fun q0 =>
 afi k k q0.2.1.1 q0.2.1.2.1 c q0.1.1 0
def F18:Fn:=⟨[P7,au],[aqO],fun k ((a,b,_),c,_)=>S18 k a b c⟩
theorem ok18:O 18 F18:=okF (ah ok17 <| ah ok28 <| ah ok38 aj) [] (fun k=>(.loop 3 ajQ (aor k) (fun g=>.nil) .nil)) Tryz.func18 rfl
abbrev ajR:Cut:=⟨[0,5,6,7],[.cell yc,cI,.cell .bool,.box 57 [cI,cI,cI,cI,cI,cI,cI,cI,cI,.own 293 yw,.cell .bool]],[],33,[]⟩
def afk (k:Nat) (g5:(List kr) -> Int -> Bool -> Int -> Int -> Int -> Int -> Int -> Int -> Int -> Int -> Int -> (List qg) -> Bool -> Option aaH) (m:List kr) (t:Int) (u:Bool) (v w y z A B C D G:Int) (H:List qg) (I:Bool):Option aaH :=
 (bif u then
  (bif !I then
   (acu k m (v,(w,y,z,A,B,C,D,G),H,I)).bind fun (((a,(b,c,e,f,h,i,l,n),o,p),_,s,_),_) =>
   g5 m (IntKind.i64.wrap (t+1)) s a b c e f h i l n o p
  else
   some ((w,t,u,()),()))
 else
  some ((w,t,u,()),()))
def aos (k:Nat):Xx (((Unit)×(List kr)×Int×Bool×aod×Unit) -> Option aaH):=eu (dw (dh (dh (dh (d9 (dh (dh (dh (dh (dh (dh (dh (dh (dh (dh (dh dx))))))))))) dx))))) (afk k)
def afl (k a:Nat) (b:List kr) (c:Int) (e:Bool) (f h i l m n o p s:Int) (t:List qg) (u:Bool):Option aaH:=iter ajR (aos k) a ((),b,c,e,(f,h,i,l,m,n,o,p,s,t,u,()),())
theorem afm (k a b c e f h i l m n o p s t u):afl k (a+1) b c e f h i l m n o p s t u=afk k (afl k a) b c e f h i l m n o p s t u:=Ba _ _ _ _
def S49 (k:Nat) (p:List kr) (s:Int):Option aaH :=
 (ab7 k p).bind fun q0 =>
 (bif !q0.1.1 then
  some ((0,0,false,()),())
 else
  (Q5 k s).bind fun (((a,(b,c,e,f,h,i,l,m),n,o),_),_) =>
  afl k k p 0 true a b c e f h i l m n o)
def F49:Fn:=⟨[.val ⟨false,yc,false⟩,au],[rI,rI,rB],fun k x=>S49 k x.1 x.2.1⟩
theorem ok49:O 49 F49:=okF (ah ok108 <| ah ok109 <| ah ok110 aj) [] (fun k=>(.loop 5 ajR (aos k) (fun g=>.nil) .nil)) Tryz.func49 rfl
end
end Go.Proofs.YtjjjbcmjmkcedaaGreat.Ab
