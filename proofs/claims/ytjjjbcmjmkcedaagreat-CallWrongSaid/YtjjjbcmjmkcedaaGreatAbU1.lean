import Derived.Test.YtjjjbcmjmkcedaaGreatAbU0
/- Contracts, printed by this session's own program gen.py. -/
set_option linter.unusedVariables false
set_option linter.unusedSimpArgs false
set_option maxRecDepth 100000
namespace Go.Proofs.YtjjjbcmjmkcedaaGreat.Ab
open Go.RowKit
abbrev apj:Type:=Int×Int×(List (Int×Int×Int×(List (Int×Int×Int×Int))×(List (Int×Int×Int×Int))×List (Int×Int×Int×Int)))×(List (PN Int 5))×Bool×Bool×Bool×(List (Int×Int×Int×Int×(Int×(PN Int 8)×(List (Int×Int×Int))×Bool)×(Int×(PN Int 8)×(List (Int×Int×Int))×Bool)×(List Int)×Bool))×(List Int)×(List Bool)×(List (Int×(Int×Int)×(Int×Int)×((List Int)×List Int)×(Int×List (Int×Int))×Int))×(List Int)×(List Bool)×(List (PN Int 6))×Unit
abbrev LK:Type:=Int×Int×(List (Int×Int×Int×(List (Int×Int×Int×Int))×(List (Int×Int×Int×Int))×List (Int×Int×Int×Int)))×(List (PN Int 5))×Bool×Bool×Bool×(List (Int×Int×Int×Int×(Int×(PN Int 8)×(List (Int×Int×Int))×Bool)×(Int×(PN Int 8)×(List (Int×Int×Int))×Bool)×(List Int)×Bool))×(((List Int)×List Bool)×List (Int×(Int×Int)×(Int×Int)×((List Int)×List Int)×(Int×List (Int×Int))×Int))×(List Int)×List Bool
abbrev JQ:Ty:=.pair (.int .i64) (.pair (.int .i64) (.pair (.int .i64) (.pair (.int .i64) (.pair (.pair (.int .i64) (.pair (Am 8 (.int .i64)) (.pair (.sl 293 (.pair (.int .i64) (.pair (.int .i64) (.int .i64)))) .bool))) (.pair (.pair (.int .i64) (.pair (Am 8 (.int .i64)) (.pair (.sl 293 (.pair (.int .i64) (.pair (.int .i64) (.int .i64)))) .bool))) (.pair (.sl 3 (.int .i64)) .bool))))))
abbrev AP:Ty:=.pair (.int .i64) (.pair (.int .i64) (.pair (.int .i64) (.pair (.sl 127 (.pair (.int .i64) (.pair (.int .i64) (.pair (.int .i64) (.int .i64))))) (.pair (.sl 127 (.pair (.int .i64) (.pair (.int .i64) (.pair (.int .i64) (.int .i64))))) (.sl 127 (.pair (.int .i64) (.pair (.int .i64) (.pair (.int .i64) (.int .i64)))))))))
abbrev aiT:Type:=Int×Int×(List (Int×Int×Int×(List (Int×Int×Int×Int))×(List (Int×Int×Int×Int))×List (Int×Int×Int×Int)))×(List (PN Int 5))×Bool×Bool×Bool×(List (Int×Int×Int×Int×(Int×(PN Int 8)×(List (Int×Int×Int))×Bool)×(Int×(PN Int 8)×(List (Int×Int×Int))×Bool)×(List Int)×Bool))×(List Int)×(List Bool)×(List (Int×(Int×Int)×(Int×Int)×((List Int)×List Int)×(Int×List (Int×Int))×Int))×(List Int)×(List Bool)×Int×Int×Int×Int×(List (Int×Int×Int×Int))×(List (Int×Int×Int×Int))×(List (Int×Int×Int×Int))×Int×Int×Int×Int×Int×(List (PN Int 6))×Int×Int×Int×Int×Unit
abbrev zm:Ty:=.pair (.int .i64) (.pair (.pair (.int .i64) (.int .i64)) (.pair (.pair (.int .i64) (.int .i64)) (.pair (.pair (.sl 2 (.int .i64)) (.sl 3 (.int .i64))) (.pair (.pair (.int .u32) (.sl 266 (.pair (.int .i64) (.int .u32)))) (.int .u32)))))
abbrev I7:Type:=Int×Int×Int×(List (Int×Int×Int×Int))×(List (Int×Int×Int×Int))×List (Int×Int×Int×Int)
abbrev w9:Type:=Int×Int×Int×Int×(Int×(PN Int 8)×(List (Int×Int×Int))×Bool)×(Int×(PN Int 8)×(List (Int×Int×Int))×Bool)×(List Int)×Bool
abbrev vo:Type:=Int×(Int×Int)×(Int×Int)×((List Int)×List Int)×(Int×List (Int×Int))×Int
abbrev AA:Ty:=.pair (.int .i64) (.pair (.int .i64) (.int .i64))
abbrev y7:Type:=Int×Int×Int×Int×(Int×(PN Int 8)×(List (Int×Int×Int))×Bool)×(Int×(PN Int 8)×(List (Int×Int×Int))×Bool)×(List Int)×Bool
abbrev xu:Type:=Int×(Int×I7×(Int×Int)×Int×Int×Int)×Int×Int
abbrev ko:Type:=Int×Int×Int×Int
abbrev jv:Type:=(Bool×Unit)×Unit
abbrev aiU:Type:=Int×Int×Int×Int×Int×Int×Int×Int×Int×Int×Int×Int×Int×(List (Int×Int×Int))×Bool×Int×Int×Int×Int×Int×Int×Int×Int×Int×(List (Int×Int×Int))×Bool×(List Int)×Bool×Unit
abbrev BG:Ty:=.pair (.int .i64) (.int .i64)
abbrev j5:Ty:=.sl 3 (.int .i64)
abbrev aiV:Ty:=.pair (.int .i64) (.pair (.int .i64) (.pair (.sl 54 AP) (.pair (.sl 168 (Am 5 (.int .i64))) (.pair .bool (.pair .bool (.pair .bool (.pair (.sl 59 JQ) (.pair (.pair (.pair j5 (.sl 4 .bool)) (.sl 142 zm)) (.pair j5 (.sl 4 .bool))))))))))
abbrev ER:Type:=(List Int)×Int×Unit
abbrev uz:Ty:=.sl 127 (.pair (.int .i64) AA)
abbrev lq:Type:=(Unit)×apj×Unit
abbrev aod:Ty:=.pair (.int .i64) (.pair AP (.pair BG (.pair (.int .i64) (.pair (.int .i64) (.int .u32)))))
abbrev JR:Type:=LK×(Int×I7×(Int×Int)×Int×Int×Int)×(List (PN Int 6))×Int×(Int×Int)×Int
abbrev JU:Type:=((List Int)×List Bool)×List vo
abbrev o7:Type:=Int×Int×Int
abbrev oo:Type:=List (Int×Int)
abbrev NP:Type:=(LK×List (PN Int 6)) -> (List (List Int)) -> (List Int) -> Int -> Int -> Option lq
abbrev aoe:Ty:=.pair (.int .i64) (.pair (Am 8 (.int .i64)) (.pair (.sl 293 AA) .bool))
abbrev xw:Type:=(Int×Bool×Unit)×Unit
abbrev JV:Ty:=.sl 266 (.pair (.int .i64) (.int .u32))
abbrev u6:Ty:=Am 5 (.int .i64)
abbrev IE:Type:=((List ko)×Unit)×ER×Unit
abbrev l8:Type:=List (Int×Int)
abbrev UZ:Type:=(List Int)×(List Bool)×(List vo)×Unit
abbrev p8:Type:=LK×List (PN Int 6)
abbrev JX:Ty:=.pair j5 (.sl 4 .bool)
abbrev adR:Type:=Int×Int×(List I7)×(List (PN Int 5))×Bool×Bool×Bool×(List w9)×JU×(List Int)×List Bool
abbrev x9:Ty:=Am 6 (.int .i64)
abbrev aiW:Type:=(List Int) -> (List Bool) -> (List vo) -> (List Int) -> (List Bool) -> (List vo) -> (List Int) -> (List (List Int)) -> (List vo) -> Int -> Int -> Option ((JU×(List Int)×(List (List Int))×Unit)×Unit)
abbrev aiX:Type:=Int×Int×Int×Int×Int×Int×Int×Int×Int×(List o7)×Bool×Unit
abbrev sw:Type:=(Int×Unit)×Unit
abbrev FJ:Type:=((List xu)×Unit)×ER×Unit
abbrev QN:Type:=((Int×(PN Int 8)×(List o7)×Bool)×Unit)×Unit
abbrev aiY:Ty:=.pair (.int .i64) (.pair (.int .i64) (.pair (.sl 54 AP) (.pair (.sl 168 u6) (.pair .bool (.pair .bool (.pair .bool (.pair (.sl 59 JQ) (.pair (.pair JX (.sl 140 zm)) JX))))))))
abbrev aof:Type:=(List Int)×(List Bool)×Unit
abbrev ES:Type:=((List Int)×Unit)×Unit
abbrev aag:Type:=Int×Int×Int×(List ko)×(List ko)×List ko
abbrev aiZ:Type:=Int×(Int×Int)×(Int×Int)×((List Int)×List Int)×(Int×List (Int×Int))×Int
abbrev AJ:Type:=List (List Int)
abbrev aah:Type:=((Int×List (Int×Int))×(List Int)×Unit)×Unit
abbrev BH:Type:=(Unit)×aiT×Unit
abbrev aai:Type:=(JU×(List Int)×AJ×Unit)×Unit
abbrev ET:Ty:=.sl 5 (.int .u8)
abbrev QO:Ty:=.pair (.int .i64) (.pair aod BG)
abbrev adS:Type:=(List Int)×(List Int)×Unit
abbrev adT:Type:=(List Int) -> Int -> Int -> (List ko) -> Int -> Option IE
abbrev QS:Ty:=.sl 121 BG
abbrev V3:Type:=(w9×ko×Bool×Unit)×Unit
abbrev yc:Ty:=.sl 4 .bool
abbrev NQ:Ty:=.pair (.int .i64) AA
abbrev ai0:Type:=(List Int) -> (List Bool) -> (List Int) -> (List Bool) -> Int -> Option jv
abbrev adU:Type:=Int×(PN Int 8)×(List o7)×Bool
abbrev aaj:Type:=(Bool×Unit)×apj×aiU×Unit
abbrev CX:Ty:=.sl 59 JQ
abbrev adV:Type:=((List Int)×List Bool)×List vo
abbrev NR:Ty:=.sl 2 (.int .i64)
abbrev V4:Type:=(oo×Unit)×Unit
abbrev JY:Ty:=.sl 142 zm
abbrev aog:Type:=LK×(Int×I7×(Int×Int)×Int×Int×Int)×(List (PN Int 6))×Int×(Int×Int)×Int
abbrev BX:Type:=apj×Unit
abbrev ai1:Type:=((Unit)×aof×aof×Int×Unit) -> Option jv
abbrev aak:Type:=(List Int)×List Bool
abbrev aal:Ty:=.pair (.int .i64) (.int .u32)
abbrev asz:Type:=Bool×Unit
abbrev alJ:PT:=.fK 175 [cI,cI,.cell (.sl 54 AP),.cell (.sl 168 u6),.cell .bool,.cell .bool,.cell .bool,.cell CX,.cell j5,.cell yc,.cell JY,.cell j5,.cell yc,cI,cI,cI,cI,.cell uz,.cell uz,.cell uz,cI,cI,cI,cI,.cell (.int .u32),.own 51 x9,cI,cI,cI,cI]
abbrev Xn:PT:=.fK 166 [cI,cI,.own 54 AP,.own 168 u6,.cell .bool,.cell .bool,.cell .bool,.own 59 JQ,.own 3 (.int .i64),.own 4 .bool,.own 142 zm,.own 3 (.int .i64),.own 4 .bool,.own 51 x9]
abbrev apk:PT:=.fK 166 [cI,cI,.own 54 AP,.own 168 u6,.cell .bool,.cell .bool,.cell .bool,.cell CX,.own 3 (.int .i64),.own 4 .bool,.own 142 zm,.own 3 (.int .i64),.own 4 .bool,.own 51 x9]
abbrev aqO:PT:=.fK 59 [cI,cI,cI,cI,cI,cI,cI,cI,cI,cI,cI,cI,cI,.cell (.sl 293 AA),.cell .bool,cI,cI,cI,cI,cI,cI,cI,cI,cI,.cell (.sl 293 AA),.cell .bool,.cell j5,.cell .bool]
abbrev aqP:PT:=.val ⟨true,(.pair JX (.sl 140 zm)),false⟩
abbrev alK:PT:=.val ⟨true,(.pair (.int .u32) JV),false⟩
abbrev aqQ:RT:=.val ⟨true,(.pair (.int .u32) JV),true⟩
abbrev apl:PT:=.val ⟨true,(.pair NR j5),false⟩
abbrev apm:PT:=.val ⟨true,(.pair JX JY),false⟩
abbrev aqR:RT:=.val ⟨true,(.pair JX JY),true⟩
abbrev aoh:PT:=.val ⟨false,(.sl 168 u6),false⟩
abbrev aoi:RT:=.val ⟨false,(.sl 51 x9),true⟩
abbrev aoj:PT:=.val ⟨false,(.sl 54 AP),false⟩
abbrev QT:PT:=.fK 129 [.cell ET,cI]
abbrev adW:PT:=.val ⟨false,JV,false⟩
abbrev EU:PT:=.val ⟨false,QS,false⟩
abbrev adX:PT:=.val ⟨false,j5,false⟩
abbrev ai2:PT:=.val ⟨false,CX,false⟩
abbrev ai3:PT:=.val ⟨false,uz,false⟩
abbrev QU:PT:=.val ⟨true,JX,false⟩
abbrev QV:RT:=.val ⟨false,j5,true⟩
abbrev ai4:PT:=.val ⟨true,aiV,false⟩
abbrev ai5:PT:=.val ⟨true,aod,false⟩
abbrev ai6:RT:=.val ⟨false,uz,true⟩
abbrev adY:RT:=.val ⟨false,QS,true⟩
abbrev aam:PT:=.val ⟨true,aoe,false⟩
abbrev adZ:PT:=.val ⟨true,zm,false⟩
abbrev ai7:RT:=.val ⟨true,NQ,true⟩
abbrev EW:PT:=.val ⟨true,JQ,false⟩
abbrev ad1:RT:=.val ⟨true,aoe,true⟩
abbrev V5:PT:=.val ⟨true,AP,false⟩
abbrev aan:RT:=.val ⟨true,JQ,true⟩
noncomputable section
abbrev ai8:Cut:=⟨[0,2,3,5,28,29,30],[.pin false 0,cI,.box 142 [cI,cI,cI,cI,cI,.cell NR,.cell j5,.cell (.int .u32),.cell JV,.cell (.int .u32)],.box 138 [.cell (.int .u32),.own 266 aal],.own 266 aal,cI,cI],[.fK 175 [cI,cI,.cell (.sl 54 AP),.cell (.sl 168 u6),.cell .bool,.cell .bool,.cell .bool,.cell CX,.cell j5,.cell yc,.cell JY,.cell j5,.cell yc,cI,cI,cI,cI,.cell uz,.cell uz,.cell uz,cI,cI,cI,cI,.cell (.int .u32),.own 51 x9,cI,cI,cI,cI]],56,[]⟩
def ad2 (k:Nat) (g4:aog -> Int -> Int -> Int -> Int -> Int -> Int -> (List Int) -> (List Int) -> Int -> oo -> Int -> Int -> oo -> oo -> Int -> Int -> Option BH) (a:JR) (b x c e f h:Int) (i l:List Int) (m:Int) (n:l8) (o p:Int) (s t:l8) (u v:Int):Option BH :=
 (bif decide (v<u) then
  ix t v <|
  (aiO k a (rd t v (0,0)).1 (IntKind.i64.wrap (rd t v (0,0)).2) 0).bind fun q2 =>
  g4 (pz q2.2.1) b x c e f h i l m n o p s t u (IntKind.i64.wrap (v+1))
 else
  (I6 k a.1.2.2.2.2.2.2.2.2.1 b (x,(c,e),(f,h),(i,l),(p,s),o)).bind fun q3 =>
  some ((),AO ((w8 a.1 q3.1.1),a.2),()))
def aok (k:Nat) (g:((aiT×Unit)×Unit×Int×(Int×Int×Int×Int×Int×(List Int)×(List Int)×Int×oo×Int×Unit)×(Int×oo×Unit)×oo×Int×Int×Unit) -> Option BH) (d:(aiT×Unit)×Unit×Int×(Int×Int×Int×Int×Int×(List Int)×(List Int)×Int×oo×Int×Unit)×(Int×oo×Unit)×oo×Int×Int×Unit):Option BH:=ad2 k (fun a b x c e f h i l m n o p s t u v=>g ((AO a,()),(),b,(x,c,e,f,h,i,l,m,n,o,()),(p,s,()),t,u,v,())) (pz d.1.1) d.2.2.1 d.2.2.2.1.1 d.2.2.2.1.2.1 d.2.2.2.1.2.2.1 d.2.2.2.1.2.2.2.1 d.2.2.2.1.2.2.2.2.1 d.2.2.2.1.2.2.2.2.2.1 d.2.2.2.1.2.2.2.2.2.2.1 d.2.2.2.1.2.2.2.2.2.2.2.1 d.2.2.2.1.2.2.2.2.2.2.2.2.1 d.2.2.2.1.2.2.2.2.2.2.2.2.2.1 d.2.2.2.2.1.1 d.2.2.2.2.1.2.1 d.2.2.2.2.2.1 d.2.2.2.2.2.2.1 d.2.2.2.2.2.2.2.1
def ad3 (k a:Nat) (b:JR) (c x e f h i:Int) (l m:List Int) (n:Int) (o:l8) (p s:Int) (t u:l8) (v w:Int):Option BH:=iter ai8 (aok k) a ((AO b,()),(),c,(x,e,f,h,i,l,m,n,o,p,()),(s,t,()),u,v,w,())
theorem ad4 (k a b c x e f h i l m n o p s t u v w):ad3 k (a+1) b c x e f h i l m n o p s t u v w=ad2 k (ad3 k a) b c x e f h i l m n o p s t u v w:=Ba _ _ _ _
def S95 (k:Nat) (a:JR):Option BH :=
 (abP k a 3).bind fun ((b,(c,(e,f),(h,i),(l,m),n,o),p,_),s,_) =>
 (bif !p then
  some ((),s,())
 else
  (aiS k n (pz s).2.1.2.2.2.2.2).bind fun q1 =>
  ad3 k k (pz s) b c e f h i l m n.1 n.2 o q1.1.1.1 q1.1.1.2 q1.1.2.1 (q1.1.2.1.length:Int) 0)
def F95:Fn:=⟨[alJ],[],fun k x=>S95 k (pz x.1)⟩
theorem ok95:O 95 F95:=okF (ah ok128 <| ah ok168 <| ah ok170 <| ah ok172 aj) [] (fun k=>(.loop 4 ai8 (aok k) (fun g=>.nil) .nil)) Tryz.func95 rfl
def apn (k:Nat) (a:Int×Int) (b:Int):Option jv :=
 some ((a.1==b,()),())
def F258:Fn:=⟨[.val ⟨true,aal,false⟩,.pv (.ref (.int .i64))],[rB],fun k x=>apn k x.1 x.2.1⟩
theorem ok258:O 258 F258:=okF aj [] On Tryz.func258 rfl
abbrev ad5:Cut:=⟨[0,1,7,8],[.cell JV,.lJ 258 [.ref (.int .i64)],cI,cI],[],19,[]⟩
def Xo (k:Nat) (g2:oo -> Int -> Int -> Int -> Option sw) (a:l8) (b c e:Int):Option sw :=
 (bif decide (e<c) then
  ix a e <|
  (apn k (rd a e (0,0)) b).bind fun q0 =>
  (bif q0.1.1 then
   some ((e,()),())
  else
   g2 a b c (IntKind.i64.wrap (e+1)))
 else
  some (((-1),()),()))
def ai9 (k:Nat):Xx (((Unit)×oo×(Int×Unit)×Int×Int×Unit) -> Option sw):=eu (dw (dh (d9 (dh dx) (dh (dh dx))))) (Xo k)
def LM (k a:Nat) (b:l8) (c e f:Int):Option sw:=iter ad5 (ai9 k) a ((),b,(c,()),e,f,())
theorem aao (k a b c e f):LM k (a+1) b c e f=Xo k (LM k a) b c e f:=Ba _ _ _ _
def alL (k:Nat) (a:l8) (b:Int):Option sw :=
 LM k k a b (a.length:Int) 0
def F328:Fn:=⟨[adW,.pv (.lJ 258 [.ref (.int .i64)])],[rI],fun k x=>alL k x.1 x.2.1.1⟩
theorem ok328:O 328 F328:=okF (ah ok258 aj) [] (fun k=>(.loop 2 ad5 (ai9 k) (fun g=>.nil) .nil)) Tryz.func328 rfl
def apo (k:Nat) (a:l8) (b:Int):Option jv :=
 (alL k a b).bind fun q0 =>
 some ((decide (q0.1.1≥0),()),())
def F257:Fn:=⟨[adW,.pv (.lJ 258 [.ref (.int .i64)])],[rB],fun k x=>apo k x.1 x.2.1.1⟩
theorem ok257:O 257 F257:=okF (ah ok328 aj) [] On Tryz.func257 rfl
def aja (k:Nat) (a:Int×List (Int×Int)) (b c:Int):Option (((Int×List (Int×Int))×Int×Bool×Unit)×Unit) :=
 (ZJ k a.2).bind fun q0 =>
 (bif decide (b<1) then
  some (((a.1,q0.1.1),0,false,()),())
 else
  (bif c==0 then
   some (((a.1,q0.1.1),0,false,()),())
  else
   (bif (Um .u32 a.1 c) != 0 then
    some (((Ru .u32 a.1 (Um .u32 a.1 c),q0.1.1),Um .u32 a.1 c,true,()),())
   else
    (bif decide ((a.2.length:Int)≥4) then
     some (((a.1,q0.1.1),0,false,()),())
    else
     (apo k a.2 b).bind fun q1 =>
     (bif q1.1.1 then
      some (((a.1,q0.1.1),0,false,()),())
     else
      ap q0.1.1 ([(b,c)]:List (Int×Int)) 16 fun r2 =>
      some (((a.1,r2),0,true,()),()))))))
def F173:Fn:=⟨[alK,au,.val ⟨false,(.int .u32),false⟩],[aqQ,.val ⟨false,(.int .u32),true⟩,rB],fun k (a,b,c,_)=>aja k a b c⟩
theorem ok173:O 173 F173:=okF (ah ok256 <| ah ok257 aj) [] On Tryz.func173 rfl
def S96 (k:Nat) (a:JR):Option BH :=
 (abP k a 3).bind fun q0 =>
 (bif !q0.1.2.2.1 then
  some ((),q0.2.1,())
 else
  (aja k q0.1.2.1.2.2.2.2.1 (pz q0.2.1).2.1.2.2.2.1 (pz q0.2.1).2.1.2.2.2.2.2).bind fun q1 =>
  (bif !q1.1.2.2.1 then
   some ((),AO (w3 (pz q0.2.1) 1),())
  else
   (bif q1.1.2.1==0 then
    (I6 k (pz q0.2.1).1.2.2.2.2.2.2.2.2.1 q0.1.1 (w4 q0.1.2.1 q1.1.1)).bind fun q2 =>
    some ((),AO ((w8 (pz q0.2.1).1 q2.1.1),(pz q0.2.1).2.1,(pz q0.2.1).2.2.1,16,(pz q0.2.1).2.2.2.2.1,IntKind.i64.wrap q1.1.2.1),())
   else
    (I6 k (pz q0.2.1).1.2.2.2.2.2.2.2.2.1 q0.1.1 (w4 q0.1.2.1 q1.1.1)).bind fun q3 =>
    some ((),AO (w0 (z5 (pz q0.2.1) (IntKind.i64.wrap q1.1.2.1)) (w8 (pz q0.2.1).1 q3.1.1)),()))))
def F96:Fn:=⟨[alJ],[],fun k x=>S96 k (pz x.1)⟩
theorem ok96:O 96 F96:=okF (ah ok128 <| ah ok168 <| ah ok173 aj) [] On Tryz.func96 rfl
def alM (k:Nat) (a:aak) (b:Int×Int):Option ((((List Int)×List Bool)×Bool×Unit)×Unit) :=
 (aiA k a).bind fun q0 =>
 (aiL k q0.1.1 b).bind fun q1 =>
 (bif !q1.1.1 then
  some ((q0.1.1,false,()),())
 else
  ix q0.1.1.2 b.1 <|
  some (((q0.1.1.1,upd q0.1.1.2 b.1 false),true,()),()))
def F259:Fn:=⟨[QU,.val ⟨true,BG,false⟩],[.val ⟨true,JX,true⟩,rB],fun k x=>alM k x.1 x.2.1⟩
theorem ok259:O 259 F259:=okF (ah ok324 <| ah ok327 aj) [] On Tryz.func259 rfl
def alN (k:Nat) (a:(List Int)×List Int):Option ((((List Int)×List Int)×(List Int)×Unit)×Unit) :=
 (FH k a.2).bind fun q0 =>
 some ((([],[]),q0.1.1,()),())
def F296:Fn:=⟨[apl],[.val ⟨true,(.pair NR j5),true⟩,QV],fun k x=>alN k x.1⟩
theorem ok296:O 296 F296:=okF (ah ok219 aj) [] On Tryz.func296 rfl
abbrev ad6:Cut:=⟨[2,3,7,8,9],[.box 138 [.cell (.int .u32),.nil],.own 3 (.int .i64),.cell JV,cI,cI],[],21,[]⟩
def Xp (k:Nat) (g2:Int -> (List Int) -> oo -> Int -> Int -> Option aah) (x:Int) (a:List Int) (b:l8) (c e:Int):Option aah :=
 (bif decide (e<c) then
  ix b e <|
  ap a ([(rd b e (0,0)).1]:List Int) 8 fun r0 =>
  g2 x r0 b c (IntKind.i64.wrap (e+1))
 else
  some (((x,[]),a,()),()))
def ajb (k:Nat):Xx (((Unit)×(Int×Unit×Unit)×(List Int)×oo×Int×Int×Unit) -> Option aah):=eu (dw (d9 (dh (dw dx)) (dh (dh (dh (dh dx)))))) (Xp k)
def LP (k a:Nat) (x:Int) (b:List Int) (c:l8) (e f:Int):Option aah:=iter ad6 (ajb k) a ((),(x,(),()),b,c,e,f,())
theorem aap (k a x b c e f):LP k (a+1) x b c e f=Xp k (LP k a) x b c e f:=Ba _ _ _ _
def alO (k:Nat) (a:Int×List (Int×Int)):Option aah :=
 LP k k 0 ([]:List Int) a.2 (a.2.length:Int) 0
def F297:Fn:=⟨[alK],[aqQ,QV],fun k x=>alO k x.1⟩
theorem ok297:O 297 F297:=okF aj [(3,2)] (fun k=>(.loop 2 ad6 (ajb k) (fun g=>.nil) .nil)) Tryz.func297 rfl
def alP (k:Nat) (a:Int):Option ES :=
 (bif decide (a<0) then
  none
 else
  (bif decide ((IntKind.i64.wrap (a - 0))>0) then
   az ([]:List Int) (IntKind.i64.wrap (a - 0)) 8 0 fun r0 =>
   sx r0 0 0 <|
   some ((r0.take 0,()),())
  else
   some (([],()),())))
def F339:Fn:=⟨[.pv (.nil),au],[QV],fun k x=>alP k x.2.1⟩
theorem ok339:O 339 F339:=okF aj [(25,1)] On Tryz.func339 rfl
abbrev aaq:Cut:=⟨[6,25,26,27],[.own 3 (.int .i64),.cell (.sl 32 j5),cI,cI],[],36,[]⟩
def JZ (k:Nat) (g11:(List Int) -> AJ -> Int -> Int -> Option ES) (a:List Int) (b:List (List Int)) (c e:Int):Option ES :=
 (bif decide (e<c) then
  ix b e <|
  ap a (rd b e []) 8 fun r1 =>
  g11 r1 b c (IntKind.i64.wrap (e+1))
 else
  some ((a,()),()))
def ad7 (k:Nat):Xx (((Unit)×(List Int)×AJ×Int×Int×Unit) -> Option ES):=eu (dw (dh (dh (dh (dh dx))))) (JZ k)
def Xq (k a:Nat) (b:List Int) (c:List (List Int)) (e f:Int):Option ES:=iter aaq (ad7 k) a ((),b,c,e,f,())
theorem LQ (k a b c e f):Xq k (a+1) b c e f=JZ k (Xq k a) b c e f:=Ba _ _ _ _
abbrev ad8:Cut:=⟨[0,3,9,10,11],[.cell (.sl 32 j5),cI,.cell (.sl 32 j5),cI,cI],[],36,[]⟩
def QW (k:Nat) (g3:AJ -> Int -> AJ -> Int -> Int -> Option ES) (a:List (List Int)) (b:Int) (c:List (List Int)) (e f:Int):Option ES :=
 (bif decide (f<e) then
  ix c f <|
  (bif decide ((IntKind.i64.wrap (b+((rd c f []).length:Int)))<0) then
   none
  else
   g3 a (IntKind.i64.wrap (b+((rd c f []).length:Int))) c e (IntKind.i64.wrap (f+1)))
 else
  (alP k b).bind fun q0 =>
  Xq k k q0.1.1 a (a.length:Int) 0)
def ajc (k:Nat):Xx (((Unit)×AJ×Int×AJ×Int×Int×Unit) -> Option ES):=eu (dw (dh (dh (dh (dh (dh dx)))))) (QW k)
def abR (k a:Nat) (b:List (List Int)) (c:Int) (e:List (List Int)) (f h:Int):Option ES:=iter ad8 (ajc k) a ((),b,c,e,f,h,())
theorem QX (k a b c e f h):abR k (a+1) b c e f h=QW k (abR k a) b c e f h:=Ba _ _ _ _
def alQ (k:Nat) (a:List (List Int)):Option ES :=
 abR k k a 0 a (a.length:Int) 0
def F298:Fn:=⟨[.val ⟨false,(.sl 32 j5),false⟩],[QV],fun k x=>alQ k x.1⟩
theorem ok298:O 298 F298:=okF (ah ok339 aj) [] (fun k=>(.loop 11 aaq (ad7 k) (fun g=>.nil) (.loop 3 ad8 (ajc k) (fun g=>.nil) .nil))) Tryz.func298 rfl
def agy (k:Nat) (x:aiZ):Option ES :=
 (alN k x.2.2.2.1).bind fun q0 =>
 (alO k x.2.2.2.2.1).bind fun q1 =>
 (alQ k ([q0.1.2.1,q1.1.2.1]:List (List Int))).bind fun q2 =>
 some ((q2.1.1,()),())
def F234:Fn:=⟨[adZ],[QV],fun k x=>agy k x.1⟩
theorem ok234:O 234 F234:=okF (ah ok296 <| ah ok297 <| ah ok298 aj) [] On Tryz.func234 rfl
def aar (k:Nat) (a:adV) (b:Int×Int):Option ((JU×(List Int)×Bool×Unit)×Unit) :=
 (X3 k a).bind fun q0 =>
 (agx k a b).bind fun q1 =>
 (bif !q1.1.2.1 then
  some ((q0.1.1,[],false,()),())
 else
  ix a.2 q1.1.1 <|
  (bif (rd a.2 q1.1.1 bf).1==1 then
   some ((q0.1.1,[],false,()),())
  else
   (alM k q0.1.1.1 b).bind fun q2 =>
   ix q0.1.1.2 q1.1.1 <|
   ix a.2 q1.1.1 <|
   (agy k (rd a.2 q1.1.1 bf)).bind fun q3 =>
   some (((q2.1.1,upd q0.1.1.2 q1.1.1 bf),q3.1.1,true,()),())))
def F174:Fn:=⟨[apm,.val ⟨true,BG,false⟩],[aqR,QV,rB],fun k x=>aar k x.1 x.2.1⟩
theorem ok174:O 174 F174:=okF (ah ok185 <| ah ok234 <| ah ok253 <| ah ok259 aj) [] On Tryz.func174 rfl
def ad9 (k:Nat) (a:JR) (b c e:Int):Option BH :=
 ap a.2.2.1 ([(a.1.1,12,0,b,c,e)]:List (PN Int 6)) 48 fun r0 =>
 some ((),AO (a.1,a.2.1,r0,a.2.2.2),())
def F170a:Fn:=⟨[.fK 175 [cI,cI,.cell (.sl 54 AP),.cell (.sl 168 u6),.cell .bool,.cell .bool,.cell .bool,.cell CX,.own 3 (.int .i64),.own 4 .bool,.own 142 zm,.cell j5,.cell yc,cI,cI,cI,cI,.cell uz,.cell uz,.cell uz,cI,cI,cI,cI,.cell (.int .u32),.own 51 x9,cI,cI,cI,cI],au,au,au],[],fun k x=>ad9 k (pz x.1) x.2.1 x.2.2.1 x.2.2.2.1⟩
theorem ok170a:O 170 F170a:=okF aj [] On Tryz.func170 rfl
abbrev ajd:Cut:=⟨[0,33,34,35],[.pin false 0,.own 3 (.int .i64),cI,cI],[.fK 175 [cI,cI,.cell (.sl 54 AP),.cell (.sl 168 u6),.cell .bool,.cell .bool,.cell .bool,.cell CX,.own 3 (.int .i64),.own 4 .bool,.own 142 zm,.cell j5,.cell yc,cI,cI,cI,cI,.cell uz,.cell uz,.cell uz,cI,cI,cI,cI,.cell (.int .u32),.own 51 x9,cI,cI,cI,cI]],43,[]⟩
def aea (k:Nat) (g5:aog -> (List Int) -> Int -> Int -> Option BH) (a:JR) (b:List Int) (c e:Int):Option BH :=
 (bif decide (e<c) then
  ix b e <|
  (ad9 k a (rd b e 0) 0 15).bind fun q1 =>
  g5 (pz q1.2.1) b c (IntKind.i64.wrap (e+1))
 else
  some ((),AO a,()))
def aol (k:Nat) (g:((aiT×Unit)×Unit×(List Int)×Int×Int×Unit) -> Option BH) (d:(aiT×Unit)×Unit×(List Int)×Int×Int×Unit):Option BH:=aea k (fun a b c e=>g ((AO a,()),(),b,c,e,())) (pz d.1.1) d.2.2.1 d.2.2.2.1 d.2.2.2.2.1
def aeb (k a:Nat) (b:JR) (c:List Int) (e f:Int):Option BH:=iter ajd (aol k) a ((AO b,()),(),c,e,f,())
theorem aec (k a b c e f):aeb k (a+1) b c e f=aea k (aeb k a) b c e f:=Ba _ _ _ _
def S97 (k:Nat) (a:JR):Option BH :=
 (aar k a.1.2.2.2.2.2.2.2.2.1 a.2.1.2.2.1).bind fun q0 =>
 (bif !q0.1.2.2.1 then
  some ((),AO (w3 a 3),())
 else
  aeb k k ((w8 a.1 q0.1.1),a.2) q0.1.2.1 (q0.1.2.1.length:Int) 0)
def F97:Fn:=⟨[alJ],[],fun k x=>S97 k (pz x.1)⟩
theorem ok97:O 97 F97:=okF (ah ok170a <| ah ok174 aj) [] (fun k=>(.loop 5 ajd (aol k) (fun g=>.nil) .nil)) Tryz.func97 rfl
def S98 (k:Nat) (a:JR):Option BH :=
 some ((),AO (w3 a 1),())
def F98:Fn:=⟨[alJ],[],fun k x=>S98 k (pz x.1)⟩
theorem ok98:O 98 F98:=okF aj [] On Tryz.func98 rfl
def S41 (k:Nat) (a:adR) (b:Int×I7×(Int×Int)×Int×Int×Int):Option ((LK×(List (PN Int 6))×(Int×(Int×Int)×Int)×Unit)×Unit) :=
 (bif b.1==1 then
  (S89 k (a,b,([]:List (PN Int 6)),0,(0,0),0)).bind fun q0 =>
  (S99 k (pz q0.2.1).1).bind fun q1 =>
  some ((q1.1.1,(pz q0.2.1).2.2.1,(pz q0.2.1).2.2.2,()),())
 else
  (bif b.1==2 then
   (S90 k (a,b,([]:List (PN Int 6)),0,(0,0),0)).bind fun q2 =>
   (S99 k (pz q2.2.1).1).bind fun q3 =>
   some ((q3.1.1,(pz q2.2.1).2.2.1,(pz q2.2.1).2.2.2,()),())
  else
   (bif b.1==3 then
    (S90 k (a,b,([]:List (PN Int 6)),0,(0,0),0)).bind fun q4 =>
    (S99 k (pz q4.2.1).1).bind fun q5 =>
    some ((q5.1.1,(pz q4.2.1).2.2.1,(pz q4.2.1).2.2.2,()),())
   else
    (bif b.1==4 then
     (S90 k (a,b,([]:List (PN Int 6)),0,(0,0),0)).bind fun q6 =>
     (S99 k (pz q6.2.1).1).bind fun q7 =>
     some ((q7.1.1,(pz q6.2.1).2.2.1,(pz q6.2.1).2.2.2,()),())
    else
     (bif b.1==5 then
      (S91 k (a,b,([]:List (PN Int 6)),0,(0,0),0)).bind fun q8 =>
      (S99 k (pz q8.2.1).1).bind fun q9 =>
      some ((q9.1.1,(pz q8.2.1).2.2.1,(pz q8.2.1).2.2.2,()),())
     else
      (bif b.1==6 then
       (S92 k (a,b,([]:List (PN Int 6)),0,(0,0),0)).bind fun q10 =>
       (S99 k (pz q10.2.1).1).bind fun TU =>
       some ((TU.1.1,(pz q10.2.1).2.2.1,(pz q10.2.1).2.2.2,()),())
      else
       (bif b.1==7 then
        (S93 k (a,b,([]:List (PN Int 6)),0,(0,0),0)).bind fun FE =>
        (S99 k (pz FE.2.1).1).bind fun YZ =>
        some ((YZ.1.1,(pz FE.2.1).2.2.1,(pz FE.2.1).2.2.2,()),())
       else
        (bif b.1==8 then
         (S94 k (a,b,([]:List (PN Int 6)),0,(0,0),0)).bind fun q14 =>
         (S99 k (pz q14.2.1).1).bind fun q15 =>
         some ((q15.1.1,(pz q14.2.1).2.2.1,(pz q14.2.1).2.2.2,()),())
        else
         (bif b.1==9 then
          (S95 k (a,b,([]:List (PN Int 6)),0,(0,0),0)).bind fun q16 =>
          (S99 k (pz q16.2.1).1).bind fun q17 =>
          some ((q17.1.1,(pz q16.2.1).2.2.1,(pz q16.2.1).2.2.2,()),())
         else
          (bif b.1==10 then
           (S96 k (a,b,([]:List (PN Int 6)),0,(0,0),0)).bind fun q18 =>
           (S99 k (pz q18.2.1).1).bind fun q19 =>
           some ((q19.1.1,(pz q18.2.1).2.2.1,(pz q18.2.1).2.2.2,()),())
          else
           (bif b.1==11 then
            (S97 k (a,b,([]:List (PN Int 6)),0,(0,0),0)).bind fun q20 =>
            (S99 k (pz q20.2.1).1).bind fun q21 =>
            some ((q21.1.1,(pz q20.2.1).2.2.1,(pz q20.2.1).2.2.2,()),())
           else
            (S98 k (a,b,([]:List (PN Int 6)),0,(0,0),0)).bind fun q22 =>
            (S99 k (pz q22.2.1).1).bind fun q23 =>
            some ((q23.1.1,(pz q22.2.1).2.2.1,(pz q22.2.1).2.2.2,()),()))))))))))))
def F41:Fn:=⟨[ai4,ai5],[.val ⟨true,aiV,true⟩,aoi,.val ⟨true,(.pair (.int .i64) (.pair BG (.int .i64))),true⟩],fun k x=>S41 k x.1 x.2.1⟩
theorem ok41:O 41 F41:=okF (ah ok89 <| ah ok90 <| ah ok91 <| ah ok92 <| ah ok93 <| ah ok94 <| ah ok95 <| ah ok96 <| ah ok97 <| ah ok98 <| ah ok99 aj) [(14,2)] On Tryz.func41 rfl
def S35 (k:Nat):Option jv :=
 (S36 k 50).bind fun q0 =>
 (S41 k q0.1.1 (1,(1,20,20,([(0,0,0,0)]:List ko),[],[]),(0,0),0,0,0)).bind fun q1 =>
 (S41 k q1.1.1 (3,bg,(0,0),0,0,0)).bind fun q2 =>
 (S41 k q2.1.1 (5,bg,(0,0),0,0,0)).bind fun q3 =>
 (S41 k q3.1.1 (7,bg,q2.1.2.2.1.2.1,0,7,0)).bind fun q4 =>
 (S41 k q4.1.1 (8,bg,q2.1.2.2.1.2.1,1,0,0)).bind fun q5 =>
 (S41 k q5.1.1 (99,bg,(0,0),0,0,0)).bind fun q6 =>
 (bif q0.1.2.1 then
  (bif q1.1.2.2.1.1==0 then
   (bif q2.1.2.2.1.1==0 then
    (bif q3.1.2.2.1.1==0 then
     (bif q4.1.2.2.1.1==0 then
      (bif q5.1.2.2.1.1==0 then
       (bif q5.1.2.2.1.2.2==7 then
        (bif q6.1.2.2.1.1==1 then
         some ((q6.1.1.2.2.2.2.1,()),())
        else
         some ((false,()),()))
       else
        some ((false,()),()))
      else
       some ((false,()),()))
     else
      some ((false,()),()))
    else
     some ((false,()),()))
   else
    some ((false,()),()))
  else
   some ((false,()),()))
 else
  some ((false,()),()))
def F35:Fn:=⟨[],[rB],fun k x=>S35 k ⟩
theorem ok35:O 35 F35:=okF (ah ok36 <| ah ok41 aj) [] On Tryz.func35 rfl
def S16 (k:Nat) (a:List Int):Option ((ER×Unit)×Unit) :=
 some (((a,0,()),()),())
def F16:Fn:=⟨[.val ⟨false,ET,false⟩],[.pv (.box 129 [.cell ET,cI])],fun k x=>S16 k x.1⟩
theorem ok16:O 16 F16:=okF aj [] On Tryz.func16 rfl
def zn (k:Nat) (a:List Int) (b c:Int):Option ((Int×Unit)×ER×Unit) :=
 (bif decide (b≥(a.length:Int)) then
  some ((0,()),(a,b,()),())
 else
  ix a (IntKind.i64.wrap ((IntKind.i64.wrap (b+1)) - 1)) <|
  nz c <|
  some ((Int.tmod (IntKind.i64.wrap (rd a (IntKind.i64.wrap ((IntKind.i64.wrap (b+1)) - 1)) 0)) c,()),(a,IntKind.i64.wrap (b+1),()),()))
def F29:Fn:=⟨[QT,au],[rI],fun k ((a,b,_),c,_)=>zn k a b c⟩
theorem ok29:O 29 F29:=okF aj [] On Tryz.func29 rfl
def QY (k:Nat) (a:Int×I7×(Int×Int)×Int×Int×Int):Option ((xu×Unit)×Unit) :=
 some (((1,a,0,0),()),())
def F40:Fn:=⟨[ai5],[.val ⟨true,QO,false⟩],fun k x=>QY k x.1⟩
theorem ok40:O 40 F40:=okF aj [] On Tryz.func40 rfl
def agz (k:Nat) (a:List Int) (b:Int):Option ((ko×Unit)×ER×Unit) :=
 (zn k a b 3).bind fun q0 =>
 (zn k q0.2.1.1 q0.2.1.2.1 3).bind fun q1 =>
 (zn k q1.2.1.1 q1.2.1.2.1 6).bind fun q2 =>
 (bif q2.1.1==0 then
  (zn k q2.2.1.1 q2.2.1.2.1 9).bind fun q3 =>
  some (((1,q0.1.1,0,IntKind.i64.wrap (q3.1.1 - 4)),()),q3.2.1,())
 else
  (bif q2.1.1==1 then
   some (((2,q0.1.1,q1.1.1,0),()),q2.2.1,())
  else
   (bif q2.1.1==2 then
    some (((3,q0.1.1,q1.1.1,0),()),q2.2.1,())
   else
    (bif q2.1.1==3 then
     some (((4,q0.1.1,q1.1.1,0),()),q2.2.1,())
    else
     (bif q2.1.1==4 then
      (zn k q2.2.1.1 q2.2.1.2.1 7).bind fun q4 =>
      some (((5,q0.1.1,0,IntKind.i64.wrap (q4.1.1 - 3)),()),q4.2.1,())
     else
      (zn k q2.2.1.1 q2.2.1.2.1 64).bind fun q5 =>
      some (((6,q0.1.1,0,IntKind.i64.wrap (1+q5.1.1)),()),q5.2.1,()))))))
def F281:Fn:=⟨[QT],[ai7],fun k x=>agz k x.1.1 x.1.2.1⟩
theorem ok281:O 281 F281:=okF (ah ok29 aj) [] On Tryz.func281 rfl
abbrev aed:Cut:=⟨[0,2,7,8],[.pin false 0,cI,.own 127 NQ,cI],[.fK 129 [.cell ET,cI]],47,[]⟩
def Xr (k:Nat) (g3:adT) (a:List Int) (b c:Int) (e:List ko) (f:Int):Option IE :=
 (bif decide (f>0) then
  (bif decide (c>0) then
   (zn k a b 4).bind fun q1 =>
   (bif q1.1.1==0 then
    (zn k q1.2.1.1 q1.2.1.2.1 c).bind fun q2 =>
    ap e ([(9,q2.1.1,0,0)]:List ko) 32 fun r3 =>
    (agz k q2.2.1.1 q2.2.1.2.1).bind fun q4 =>
    ap r3 ([q4.1.1]:List ko) 32 fun r5 =>
    ap r5 ([(10,q2.1.1,0,0)]:List ko) 32 fun r6 =>
    g3 q4.2.1.1 q4.2.1.2.1 c r6 (IntKind.i64.wrap (f - 1))
   else
    (agz k q1.2.1.1 q1.2.1.2.1).bind fun q7 =>
    ap e ([q7.1.1]:List ko) 32 fun r8 =>
    g3 q7.2.1.1 q7.2.1.2.1 c r8 (IntKind.i64.wrap (f - 1)))
  else
   (agz k a b).bind fun q9 =>
   ap e ([q9.1.1]:List ko) 32 fun r10 =>
   g3 q9.2.1.1 q9.2.1.2.1 c r10 (IntKind.i64.wrap (f - 1)))
 else
  some ((e,()),(a,b,()),()))
def aje (k:Nat):Xx (((ER×Unit)×Unit×Int×(List ko)×Int×Unit) -> Option IE):=eu (d9 (d9 (dh (dh dx)) dx) (dw (dh (dh (dh dx))))) (Xr k)
def Xt (k a:Nat) (b:List Int) (c e:Int) (f:List ko) (h:Int):Option IE:=iter aed (aje k) a (((b,c,()),()),(),e,f,h,())
theorem aas (k a b c e f h):Xt k (a+1) b c e f h=Xr k (Xt k a) b c e f h:=Ba _ _ _ _
def agA (k:Nat) (a:List Int) (b c e:Int):Option IE :=
 (zn k a b c).bind fun q0 =>
 Xt k k q0.2.1.1 q0.2.1.2.1 e ([]:List ko) (IntKind.i64.wrap (q0.1.1+1))
def F210:Fn:=⟨[QT,au,au],[ai6],fun k ((a,b,_),c,e,_)=>agA k a b c e⟩
theorem ok210:O 210 F210:=okF (ah ok29 <| ah ok281 aj) [(7,2)] (fun k=>(.loop 3 aed (aje k) (fun g=>.nil) .nil)) Tryz.func210 rfl
abbrev ajf:Cut:=⟨[0,1,5,6,7],[.pin false 0,cI,.own 127 NQ,cI,.own 127 NQ],[.fK 129 [.cell ET,cI]],66,[]⟩
def DW (k:Nat) (g3:adT) (a:List Int) (b c:Int) (e:List ko) (f:Int) (x:List ko):Option IE :=
 (bif decide ((IntKind.i64.wrap ((e.length:Int)+(x.length:Int)))<23) then
  ap e x 32 fun r9 =>
  g3 a b c r9 (IntKind.i64.wrap (f - 1))
 else
  g3 a b c e (IntKind.i64.wrap (f - 1)))
abbrev aee:Cut:=⟨[0,1,5,6],[.pin false 0,cI,.own 127 NQ,cI],[.fK 129 [.cell ET,cI]],66,[]⟩
def Xu (k:Nat) (g3:adT) (a:List Int) (b c:Int) (e:List ko) (f:Int):Option IE :=
 (bif decide (f>0) then
  (zn k a b 5).bind fun q1 =>
  (bif q1.1.1==0 then
   (agA k q1.2.1.1 q1.2.1.2.1 2 c).bind fun q2 =>
   (zn k q2.2.1.1 q2.2.1.2.1 3).bind fun q3 =>
   ap ([(8,0,(q2.1.1.length:Int),IntKind.i64.wrap (1+q3.1.1))]:List ko) q2.1.1 32 fun r4 =>
   DW k g3 q3.2.1.1 q3.2.1.2.1 c e f r4
  else
   (bif q1.1.1==1 then
    (agA k q1.2.1.1 q1.2.1.2.1 2 c).bind fun q5 =>
    (zn k q5.2.1.1 q5.2.1.2.1 3).bind fun q6 =>
    ap ([(7,q6.1.1,0,(q5.1.1.length:Int))]:List ko) q5.1.1 32 fun r7 =>
    DW k g3 q6.2.1.1 q6.2.1.2.1 c e f r7
   else
    (bif q1.1.1==2 then
     DW k g3 q1.2.1.1 q1.2.1.2.1 c e f ([(11,0,0,0)]:List ko)
    else
     (agA k q1.2.1.1 q1.2.1.2.1 2 c).bind fun q8 =>
     DW k g3 q8.2.1.1 q8.2.1.2.1 c e f q8.1.1)))
 else
  ap e ([(0,0,0,0)]:List ko) 32 fun r10 =>
  some ((r10,()),(a,b,()),()))
def ajg (k:Nat):Xx (((ER×Unit)×Unit×Int×(List ko)×Int×Unit) -> Option IE):=eu (d9 (d9 (dh (dh dx)) dx) (dw (dh (dh (dh dx))))) (Xu k)
def FL (k a:Nat) (b:List Int) (c e:Int) (f:List ko) (h:Int):Option IE:=iter aee (ajg k) a (((b,c,()),()),(),e,f,h,())
theorem aat (k a b c e f h):FL k (a+1) b c e f h=Xu k (FL k a) b c e f h:=Ba _ _ _ _
def ajh (k:Nat) (a:List Int) (b c:Int):Option IE :=
 (zn k a b 4).bind fun q0 =>
 FL k k q0.2.1.1 q0.2.1.2.1 c ([]:List ko) (IntKind.i64.wrap (q0.1.1+1))
def F120:Fn:=⟨[QT,au],[ai6],fun k ((a,b,_),c,_)=>ajh k a b c⟩
theorem ok120:O 120 F120:=okF (ah ok29 <| ah ok210 aj) [(5,2)] (fun k=>(.loop 3 aee (ajg k) (fun g=>(fun (g3:adT)=>(.join 16 ajf (fun (((a,b,_),_),_,c,e,f,h,_)=>DW k g3 a b c e f h) .nil)) (fun p2 p3 DX l_ i=>g (((p2,p3,()),()),(),DX,l_,i,()))) .nil)) Tryz.func120 rfl
abbrev apr:Cut:=⟨[0,6,7],[.pin false 0,.box 54 [cI,cI,cI,.nil,.nil,.nil],.box 54 [cI,cI,cI,.own 127 NQ,.cell uz,.own 127 NQ]],[.fK 129 [.cell ET,cI]],41,[]⟩
def aau (k:Nat) (a:List Int) (b c e f h i l:Int) (m n o:List ko):Option ((I7×Unit)×ER×Unit) :=
 (zn k a b 3).bind fun q5 =>
 (bif q5.1.1==0 then
  (ajh k q5.2.1.1 q5.2.1.2.1 0).bind fun q6 =>
  some (((h,i,l,m,n,q6.1.1),()),q6.2.1,())
 else
  some (((h,i,l,m,n,o),()),q5.2.1,()))
def S53 (k:Nat) (a:List Int) (b c e:Int):Option ((I7×Unit)×ER×Unit) :=
 (ajh k a b e).bind fun q0 =>
 (zn k q0.2.1.1 q0.2.1.2.1 12).bind fun q1 =>
 (zn k q1.2.1.1 q1.2.1.2.1 10).bind fun q2 =>
 (zn k q2.2.1.1 q2.2.1.2.1 3).bind fun q3 =>
 (bif q3.1.1==0 then
  (zn k q3.2.1.1 q3.2.1.2.1 2).bind fun q4 =>
  sx ([(1,0,0,99),(0,0,0,0)]:List ko) q4.1.1 (([(1,0,0,99),(0,0,0,0)]:List ko).length:Int) <|
  aau k q4.2.1.1 q4.2.1.2.1 0 0 0 c (IntKind.i64.wrap (20+(IntKind.i64.wrap (10 * q1.1.1)))) (IntKind.i64.wrap ((IntKind.i64.wrap (20+(IntKind.i64.wrap (10 * q1.1.1)))) - q2.1.1)) q0.1.1 (sub ([(1,0,0,99),(0,0,0,0)]:List ko) q4.1.1 (([(1,0,0,99),(0,0,0,0)]:List ko).length:Int)) ([]:List ko)
 else
  aau k q3.2.1.1 q3.2.1.2.1 0 0 0 c (IntKind.i64.wrap (20+(IntKind.i64.wrap (10 * q1.1.1)))) (IntKind.i64.wrap ((IntKind.i64.wrap (20+(IntKind.i64.wrap (10 * q1.1.1)))) - q2.1.1)) q0.1.1 ([]:List ko) ([]:List ko))
def F53:Fn:=⟨[QT,au,au],[.val ⟨true,AP,false⟩],fun k ((a,b,_),c,e,_)=>S53 k a b c e⟩
theorem ok53:O 53 F53:=okF (ah ok29 <| ah ok120 aj) [(12,2)] (fun k=>(.join 6 apr (fun (((a,b,_),_),_,(c,e,f,_),(h,i,l,m,n,o,_),_)=>aau k a b c e f h i l m n o) .nil)) Tryz.func53 rfl
abbrev alR:Cut:=⟨[3],[.own 100 QO],[.fK 129 [.cell ET,cI]],60,[]⟩
def Xv (k:Nat) (a:List Int) (b:Int) (c:List xu):Option FJ :=
 (QY k (5,bg,(0,0),0,0,0)).bind fun q14 =>
 ap c ([q14.1.1]:List xu) 168 fun r15 =>
 some ((r15,()),(a,b,()),())
abbrev alS:Cut:=⟨[0,3],[.pin false 0,.own 100 QO],[.fK 129 [.cell ET,cI]],60,[]⟩
def QZ (k:Nat) (a:List Int) (b:Int) (c:List xu):Option FJ :=
 (zn k a b 3).bind fun TU =>
 (bif TU.1.1==0 then
  (QY k (4,bg,(0,0),0,0,0)).bind fun FE =>
  ap c ([FE.1.1]:List xu) 168 fun r13 =>
  Xv k TU.2.1.1 TU.2.1.2.1 r13
 else
  Xv k TU.2.1.1 TU.2.1.2.1 c)
abbrev aji:Cut:=⟨[0,3,4,6],[.pin false 0,.own 100 QO,cI,cI],[.fK 129 [.cell ET,cI]],60,[]⟩
def aef (k:Nat) (g8:(List Int) -> Int -> (List xu) -> Int -> Int -> Option FJ) (a:List Int) (b:Int) (c:List xu) (e f:Int):Option FJ :=
 (bif decide (f>0) then
  (zn k a b 3).bind fun q4 =>
  (S53 k q4.2.1.1 q4.2.1.2.1 (IntKind.i64.wrap ((IntKind.i64.wrap (3 * f))+q4.1.1)) e).bind fun q5 =>
  (QY k (1,q5.1.1,(0,0),0,0,0)).bind fun q6 =>
  ap c ([q6.1.1]:List xu) 168 fun r7 =>
  g8 q5.2.1.1 q5.2.1.2.1 r7 e (IntKind.i64.wrap (f - 1))
 else
  (zn k a b 3).bind fun q8 =>
  (bif q8.1.1==0 then
   (QY k (3,bg,(0,0),0,0,0)).bind fun q9 =>
   ap c ([q9.1.1]:List xu) 168 fun r10 =>
   QZ k q8.2.1.1 q8.2.1.2.1 r10
  else
   QZ k q8.2.1.1 q8.2.1.2.1 c))
def aon (k:Nat):Xx (((ER×Unit)×Unit×(List xu)×Int×Int×Unit) -> Option FJ):=eu (d9 (d9 (dh (dh dx)) dx) (dw (dh (dh (dh dx))))) (aef k)
def aav (k a:Nat) (b:List Int) (c:Int) (e:List xu) (f h:Int):Option FJ:=iter aji (aon k) a (((b,c,()),()),(),e,f,h,())
theorem aeg (k a b c e f h):aav k (a+1) b c e f h=aef k (aav k a) b c e f h:=Ba _ _ _ _
abbrev ajj:Cut:=⟨[0,3,4,5],[.pin false 0,.own 100 QO,cI,cI],[.fK 129 [.cell ET,cI]],60,[]⟩
def aeh (k:Nat) (g4:(List Int) -> Int -> (List xu) -> Int -> Int -> Option FJ) (a:List Int) (b:Int) (c:List xu) (e f:Int):Option FJ :=
 (bif decide (f<e) then
  (QY k (2,bg,(0,0),0,0,0)).bind fun q1 =>
  ap c ([q1.1.1]:List xu) 168 fun r2 =>
  g4 a b r2 e (IntKind.i64.wrap (f+1))
 else
  (zn k a b 4).bind fun q3 =>
  aav k k q3.2.1.1 q3.2.1.2.1 c e (IntKind.i64.wrap (q3.1.1+1)))
def aoo (k:Nat):Xx (((ER×Unit)×Unit×(List xu)×Int×Int×Unit) -> Option FJ):=eu (d9 (d9 (dh (dh dx)) dx) (dw (dh (dh (dh dx))))) (aeh k)
def aei (k a:Nat) (b:List Int) (c:Int) (e:List xu) (f h:Int):Option FJ:=iter ajj (aoo k) a (((b,c,()),()),(),e,f,h,())
theorem aej (k a b c e f h):aei k (a+1) b c e f h=aeh k (aei k a) b c e f h:=Ba _ _ _ _
def S17 (k:Nat) (a:List Int) (b:Int):Option FJ :=
 (zn k a b 4).bind fun q0 =>
 aei k k q0.2.1.1 q0.2.1.2.1 ([]:List xu) q0.1.1 0
def F17:Fn:=⟨[QT],[.val ⟨false,(.sl 100 QO),true⟩],fun k x=>S17 k x.1.1 x.1.2.1⟩
theorem ok17:O 17 F17:=okF (ah ok29 <| ah ok40 <| ah ok53 aj) [(3,2)] (fun k=>(.join 15 alR (fun (((a,b,_),_),c,_)=>Xv k a b c) (.join 13 alS (fun (((a,b,_),_),_,c,_)=>QZ k a b c) (.loop 8 aji (aon k) (fun g=>.nil) (.loop 4 ajj (aoo k) (fun g=>.nil) .nil))))) Tryz.func17 rfl
def S28 (k:Nat) (a:(List Int)×Int):Option jv :=
 some ((decide (a.2≥(a.1.length:Int)),()),())
def F28:Fn:=⟨[.pv (.ref (.pair ET (.int .i64)))],[rB],fun k x=>S28 k x.1⟩
theorem ok28:O 28 F28:=okF aj [] On Tryz.func28 rfl
def S38 (k:Nat) (a:List Int) (b:Int):Option ((xu×Unit)×ER×Unit) :=
 (zn k a b 8).bind fun q0 =>
 (zn k q0.2.1.1 q0.2.1.2.1 5).bind fun q1 =>
 (zn k q1.2.1.1 q1.2.1.2.1 24).bind fun q2 =>
 (bif q2.1.1==0 then
  (zn k q2.2.1.1 q2.2.1.2.1 6).bind fun q3 =>
  (zn k q3.2.1.1 q3.2.1.2.1 9).bind fun q4 =>
  (QY k (6,bg,(0,0),q3.1.1,IntKind.i64.wrap (q4.1.1 - 4),0)).bind fun q5 =>
  some ((q5.1.1,()),q4.2.1,())
 else
  (bif q2.1.1==1 then
   (zn k q2.2.1.1 q2.2.1.2.1 6).bind fun q6 =>
   (zn k q6.2.1.1 q6.2.1.2.1 9).bind fun q7 =>
   (QY k (6,bg,(0,0),q6.1.1,IntKind.i64.wrap (q7.1.1 - 4),0)).bind fun q8 =>
   some ((q8.1.1,()),q7.2.1,())
  else
   (bif q2.1.1==2 then
    (zn k q2.2.1.1 q2.2.1.2.1 6).bind fun q9 =>
    (zn k q9.2.1.1 q9.2.1.2.1 9).bind fun q10 =>
    (QY k (6,bg,(0,0),q9.1.1,IntKind.i64.wrap (q10.1.1 - 4),0)).bind fun TU =>
    some ((TU.1.1,()),q10.2.1,())
   else
    (bif q2.1.1==3 then
     (zn k q2.2.1.1 q2.2.1.2.1 6).bind fun FE =>
     (zn k FE.2.1.1 FE.2.1.2.1 9).bind fun YZ =>
     (QY k (6,bg,(0,0),FE.1.1,IntKind.i64.wrap (YZ.1.1 - 4),0)).bind fun q14 =>
     some ((q14.1.1,()),YZ.2.1,())
    else
     (bif q2.1.1==4 then
      (zn k q2.2.1.1 q2.2.1.2.1 6).bind fun q15 =>
      (zn k q15.2.1.1 q15.2.1.2.1 9).bind fun q16 =>
      (QY k (6,bg,(0,0),q15.1.1,IntKind.i64.wrap (q16.1.1 - 4),0)).bind fun q17 =>
      some ((q17.1.1,()),q16.2.1,())
     else
      (bif q2.1.1==5 then
       some (((3,bn,0,0),()),q2.2.1,())
      else
       (bif q2.1.1==6 then
        (zn k q2.2.1.1 q2.2.1.2.1 9).bind fun q18 =>
        some (((4,bn,q18.1.1,0),()),q18.2.1,())
       else
        (bif q2.1.1==7 then
         (zn k q2.2.1.1 q2.2.1.2.1 99).bind fun q19 =>
         (QY k (7,bg,(q0.1.1,IntKind.i64.wrap (1+(IntKind.i64.wrap (Int.tdiv q1.1.1 4)))),0,q19.1.1,0)).bind fun q20 =>
         some ((q20.1.1,()),q19.2.1,())
        else
         (bif q2.1.1==8 then
          (zn k q2.2.1.1 q2.2.1.2.1 4).bind fun q21 =>
          (QY k (8,bg,(q0.1.1,IntKind.i64.wrap (1+(IntKind.i64.wrap (Int.tdiv q1.1.1 4)))),q21.1.1,0,0)).bind fun q22 =>
          some ((q22.1.1,()),q21.2.1,())
         else
          (bif q2.1.1==9 then
           (zn k q2.2.1.1 q2.2.1.2.1 16).bind fun q23 =>
           (QY k (9,bg,(q0.1.1,IntKind.i64.wrap (1+(IntKind.i64.wrap (Int.tdiv q1.1.1 4)))),0,0,IntKind.u32.wrap q23.1.1)).bind fun q24 =>
           some ((q24.1.1,()),q23.2.1,())
          else
           (bif q2.1.1==10 then
            (zn k q2.2.1.1 q2.2.1.2.1 4).bind fun q25 =>
            (zn k q25.2.1.1 q25.2.1.2.1 16).bind fun q26 =>
            (QY k (10,bg,(q0.1.1,IntKind.i64.wrap (1+(IntKind.i64.wrap (Int.tdiv q1.1.1 4)))),q25.1.1,0,IntKind.u32.wrap q26.1.1)).bind fun q27 =>
            some ((q27.1.1,()),q26.2.1,())
           else
            (bif q2.1.1==11 then
             (zn k q2.2.1.1 q2.2.1.2.1 12).bind fun q28 =>
             (zn k q28.2.1.1 q28.2.1.2.1 6).bind fun q29 =>
             (zn k q29.2.1.1 q29.2.1.2.1 9).bind fun q30 =>
             (S53 k q30.2.1.1 q30.2.1.2.1 q30.1.1 2).bind fun q31 =>
             (QY k (IntKind.i64.wrap (1+q28.1.1),q31.1.1,(q0.1.1,IntKind.i64.wrap (1+(IntKind.i64.wrap (Int.tdiv q1.1.1 4)))),q29.1.1,0,0)).bind fun q32 =>
             some ((q32.1.1,()),q31.2.1,())
            else
             (bif q2.1.1==12 then
              (zn k q2.2.1.1 q2.2.1.2.1 30).bind fun q33 =>
              some (((5,bn,0,IntKind.i64.wrap (1+q33.1.1)),()),q33.2.1,())
             else
              (bif q2.1.1==13 then
               (zn k q2.2.1.1 q2.2.1.2.1 30).bind fun q34 =>
               some (((5,bn,0,IntKind.i64.wrap (1+q34.1.1)),()),q34.2.1,())
              else
               some (((2,bn,0,0),()),q2.2.1,())))))))))))))))
def F38:Fn:=⟨[QT],[.val ⟨true,QO,false⟩],fun k x=>S38 k x.1.1 x.1.2.1⟩
theorem ok38:O 38 F38:=okF (ah ok29 <| ah ok40 <| ah ok53 aj) [] On Tryz.func38 rfl
def S39 (k:Nat) (a:Int×I7×(Int×Int)×Int×Int×Int):Option jv :=
 (bif decide ((a.2.1.2.2.2.1.length:Int) <= 30) then
  (bif decide ((a.2.1.2.2.2.2.1.length:Int) <= 30) then
   some ((decide ((a.2.1.2.2.2.2.2.length:Int) <= 30),()),())
  else
   some ((false,()),()))
 else
  some ((false,()),()))
def F39:Fn:=⟨[ai5],[rB],fun k x=>S39 k x.1⟩
theorem ok39:O 39 F39:=okF aj [] On Tryz.func39 rfl
def abS (k:Nat) (a:p8) (b:PN Int 6):Option lq :=
 ap a.2 ([(a.1.1,b.2)]:List (PN Int 6)) 48 fun r0 =>
 some ((),yx (a.1,r0),())
def F146:Fn:=⟨[apk,.val ⟨true,x9,false⟩],[],fun k x=>abS k (uf x.1) x.2.1⟩
theorem ok146:O 146 F146:=okF aj [] On Tryz.func146 rfl
def ajk (k:Nat) (a:l8):Option V4:=qQ 16 121 BG k (a,())
def F292:Fn:=⟨dJ 121 BG,iZ 121 BG,qQ 16 121 BG⟩
theorem ok292:O 292 F292:=Kz IC mix Tryz.func292 rfl (by kernel_rfl) (by kernel_rfl) (fun k=>by kernel_rfl) (fun k xs=>by kernel_rfl) (fun k xs=>by kernel_rfl)
def ajl (k:Nat) (a:l8) (b:Int):Option jv :=
 (bif decide (b≥0) then
  some ((decide (b<(a.length:Int)),()),())
 else
  some ((false,()),()))
def F309:Fn:=⟨[EU,au],[rB],fun k x=>ajl k x.1 x.2.1⟩
theorem ok309:O 309 F309:=okF aj [] On Tryz.func309 rfl
def agB (k:Nat) (a:l8) (b c:Int):Option jv :=
 (ajl k a b).bind fun q0 =>
 (bif q0.1.1 then
  (bif decide (c≥0) then
   ix a b <|
   some (((rd a b (0,0)).2==(IntKind.i64.wrap (c+1)),()),())
  else
   some ((false,()),()))
 else
  some ((false,()),()))
def F293:Fn:=⟨[EU,au,au],[rB],fun k (a,b,c,_)=>agB k a b c⟩
theorem ok293:O 293 F293:=okF (ah ok309 aj) [] On Tryz.func293 rfl
abbrev aek:Cut:=⟨[0,1,5,10,11],[.cell QS,cI,.own 121 BG,cI,cI],[],24,[]⟩
def Xw (k:Nat) (g3:oo -> Int -> oo -> Int -> Int -> Option V4) (a:l8) (b:Int) (c:l8) (e f:Int):Option V4 :=
 (bif decide (f<e) then
  (agB k a f b).bind fun q1 =>
  (bif q1.1.1 then
   ix c f <|
   g3 a b (upd c f ((rd c f (0,0)).1,0)) e (IntKind.i64.wrap (f+1))
  else
   g3 a b c e (IntKind.i64.wrap (f+1)))
 else
  some ((c,()),()))
def ajm (k:Nat):Xx (((Unit)×oo×Int×oo×Int×Int×Unit) -> Option V4):=eu (dw (dh (dh (dh (dh (dh dx)))))) (Xw k)
def Xy (k a:Nat) (b:l8) (c:Int) (e:l8) (f h:Int):Option V4:=iter aek (ajm k) a ((),b,c,e,f,h,())
theorem aaw (k a b c e f h):Xy k (a+1) b c e f h=Xw k (Xy k a) b c e f h:=Ba _ _ _ _
def agC (k:Nat) (a:l8) (b:Int):Option V4 :=
 (ajk k a).bind fun q0 =>
 Xy k k a b q0.1.1 (q0.1.1.length:Int) 0
def F231:Fn:=⟨[EU,au],[adY],fun k x=>agC k x.1 x.2.1⟩
theorem ok231:O 231 F231:=okF (ah ok292 <| ah ok293 aj) [] (fun k=>(.loop 3 aek (ajm k) (fun g=>.nil) .nil)) Tryz.func231 rfl
abbrev ael:Cut:=⟨[0,1,11,12,13],[.pin false 0,.cell QS,.own 3 (.int .i64),cI,cI],[.fK 166 [cI,cI,.own 54 AP,.own 168 u6,.cell .bool,.cell .bool,.cell .bool,.cell CX,.own 3 (.int .i64),.own 4 .bool,.own 142 zm,.own 3 (.int .i64),.own 4 .bool,.own 51 x9]],55,[]⟩
def Xz (k:Nat) (g1:(LK×List (PN Int 6)) -> oo -> (List Int) -> Int -> Int -> Option lq) (a:p8) (b:l8) (c:List Int) (e f:Int):Option lq :=
 (bif decide (f<e) then
  ix c f <|
  ix a.1.2.2.2.2.2.2.2.2.1.2 (rd c f 0) <|
  (bif decide (f<(b.length:Int)) then
   ix b f <|
   (bif !(fC BG (rd a.1.2.2.2.2.2.2.2.2.1.2 (rd c f 0) bf).2.2.1 (rd b f (0,0))) then
    ix b f <|
    (I6 k a.1.2.2.2.2.2.2.2.2.1 (rd c f 0) ((rd a.1.2.2.2.2.2.2.2.2.1.2 (rd c f 0) bf).1,(rd a.1.2.2.2.2.2.2.2.2.1.2 (rd c f 0) bf).2.1,rd b f (0,0),(rd a.1.2.2.2.2.2.2.2.2.1.2 (rd c f 0) bf).2.2.2)).bind fun q1 =>
    g1 ((w8 a.1 q1.1.1),a.2) b c e (IntKind.i64.wrap (f+1))
   else
    g1 a b c e (IntKind.i64.wrap (f+1)))
  else
   g1 a b c e (IntKind.i64.wrap (f+1)))
 else
  some ((),yx a,()))
def ajn (k:Nat) (g:(BX×Unit×oo×(List Int)×Int×Int×Unit) -> Option lq) (d:BX×Unit×oo×(List Int)×Int×Int×Unit):Option lq:=Xz k (fun a b c e f=>g ((yx a,()),(),b,c,e,f,())) (uf d.1.1) d.2.2.1 d.2.2.2.1 d.2.2.2.2.1 d.2.2.2.2.2.1
def LU (k a:Nat) (b:p8) (c:l8) (e:List Int) (f h:Int):Option lq:=iter ael (ajn k) a ((yx b,()),(),c,e,f,h,())
theorem aax (k a b c e f h):LU k (a+1) b c e f h=Xz k (LU k a) b c e f h:=Ba _ _ _ _
def alT (k:Nat) (a:p8) (b:l8):Option lq :=
 (ZY k a.1.2.2.2.2.2.2.2.2.1).bind fun q0 =>
 LU k k a b q0.1.1 (q0.1.1.length:Int) 0
def F61a:Fn:=⟨[apk,EU],[],fun k x=>alT k (uf x.1) x.2.1⟩
theorem ok61a:O 61 F61a:=okF (ah ok107 <| ah ok128 aj) [] (fun k=>(.loop 1 ael (ajn k) (fun g=>.nil) .nil)) Tryz.func61 rfl
def aps (k:Nat) (a:aak) (b:Int):Option jv :=
 (bif decide (b≥0) then
  some ((decide (b<(mn (a.1.length:Int) (a.2.length:Int))),()),())
 else
  some ((false,()),()))
def F294:Fn:=⟨[QU,au],[rB],fun k x=>aps k x.1 x.2.1⟩
theorem ok294:O 294 F294:=okF aj [] On Tryz.func294 rfl
def apt (k:Nat) (a:List Bool) (b:Bool):Option jv :=
 (aiD k a b).bind fun q0 =>
 some ((decide (q0.1.1≥0),()),())
def F295:Fn:=⟨[.val ⟨false,yc,false⟩,.val ⟨false,.bool,false⟩],[rB],fun k x=>apt k x.1 x.2.1⟩
theorem ok295:O 295 F295:=okF (ah ok325 aj) [] On Tryz.func295 rfl
def alU (k:Nat) (a:aak) (b:Int):Option ((((List Int)×List Bool)×Bool×Bool×Unit)×Unit) :=
 (agv k a).bind fun q0 =>
 (aps k a b).bind fun q1 =>
 (bif !q1.1.1 then
  some ((q0.1.1,false,false,()),())
 else
  ix q0.1.1.1 b <|
  ix q0.1.1.1 b <|
  ix (upd q0.1.1.1 b (IntKind.i64.wrap ((rd q0.1.1.1 b 0)+1))) b <|
  (bif (rd (upd q0.1.1.1 b (IntKind.i64.wrap ((rd q0.1.1.1 b 0)+1))) b 0) != 2 then
   some (((upd q0.1.1.1 b (IntKind.i64.wrap ((rd q0.1.1.1 b 0)+1)),q0.1.1.2),false,false,()),())
  else
   ix q0.1.1.2 b <|
   (bif rd q0.1.1.2 b false then
    some (((upd q0.1.1.1 b (IntKind.i64.wrap ((rd q0.1.1.1 b 0)+1)),q0.1.1.2),false,false,()),())
   else
    ix q0.1.1.2 b <|
    (apt k (upd q0.1.1.2 b true) false).bind fun q2 =>
    some (((upd q0.1.1.1 b (IntKind.i64.wrap ((rd q0.1.1.1 b 0)+1)),upd q0.1.1.2 b true),true,!q2.1.1,()),()))))
def F232:Fn:=⟨[QU,au],[.val ⟨true,JX,true⟩,rB,rB],fun k x=>alU k x.1 x.2.1⟩
theorem ok232:O 232 F232:=okF (ah ok224 <| ah ok294 <| ah ok295 aj) [] On Tryz.func232 rfl
abbrev alV:Cut:=⟨[0,6],[.pin false 0,.cell .bool],[.fK 166 [cI,cI,.own 54 AP,.own 168 u6,.cell .bool,.cell .bool,.cell .bool,.cell CX,.own 3 (.int .i64),.own 4 .bool,.own 142 zm,.own 3 (.int .i64),.own 4 .bool,.own 51 x9]],55,[]⟩
def R6 (k:Nat) (a:p8) (b:Bool):Option lq :=
 (bif b then
  (abS k a (0,10,0,0,0,0)).bind fun q6 =>
  some ((),yx ((w5 (uf q6.2.1).1 true),(uf q6.2.1).2),())
 else
  some ((),yx a,()))
def alW (k:Nat) (a:p8) (b:y7):Option lq :=
 (abS k a (0,5,b.1,0,0,0)).bind fun q0 =>
 (S48 k (uf q0.2.1).1).bind fun q1 =>
 (agC k q1.1.1 b.1).bind fun q2 =>
 (alT k (uf q0.2.1) q2.1.1).bind fun q3 =>
 (alU k (uf q3.2.1).1.2.2.2.2.2.2.2.2.2 b.1).bind fun q4 =>
 (bif q4.1.2.1 then
  (abS k ((z9 (uf q3.2.1).1 q4.1.1),(uf q3.2.1).2) (0,9,b.1,0,0,0)).bind fun q5 =>
  R6 k (uf q5.2.1) q4.1.2.2.1
 else
  R6 k ((z9 (uf q3.2.1).1 q4.1.1),(uf q3.2.1).2) q4.1.2.2.1)
def F147:Fn:=⟨[apk,EW],[],fun k x=>alW k (uf x.1) x.2.1⟩
theorem ok147:O 147 F147:=okF (ah ok48 <| ah ok61a <| ah ok146 <| ah ok231 <| ah ok232 aj) [] (fun k=>(.join 7 alV (fun d=>R6 k (uf d.1.1) d.2.2.1) .nil)) Tryz.func147 rfl
abbrev ajo:Cut:=⟨[0,2,9,10,11],[.pin false 0,.own 59 JQ,.cell CX,cI,cI],[.fK 166 [cI,cI,.own 54 AP,.own 168 u6,.cell .bool,.cell .bool,.cell .bool,.cell CX,.own 3 (.int .i64),.own 4 .bool,.own 142 zm,.own 3 (.int .i64),.own 4 .bool,.own 51 x9]],57,[]⟩
def aem (k:Nat) (g2:(LK×List (PN Int 6)) -> (List w9) -> (List w9) -> Int -> Int -> Option lq) (a:p8) (b c:List w9) (e f:Int):Option lq :=
 (bif decide (f<e) then
  ix c f <|
  ix a.1.2.2.1 (rd c f ay).1 <|
  (bif (IntKind.i64.wrap (a.1.1 - (rd c f ay).2.1)) != (rd a.1.2.2.1 (rd c f ay).1 bg).2.2.1 then
   ap b ([rd c f ay]:List w9) 272 fun r0 =>
   g2 a r0 c e (IntKind.i64.wrap (f+1))
  else
   (bif (rd c f ay).2.2.2.1==2 then
    (abS k a (0,13,(rd c f ay).1,0,0,0)).bind fun q1 =>
    g2 (uf q1.2.1) b c e (IntKind.i64.wrap (f+1))
   else
    (alW k a (rd c f ay)).bind fun q2 =>
    g2 (uf q2.2.1) b c e (IntKind.i64.wrap (f+1))))
 else
  some ((),yx ((w7 a.1 b),a.2),()))
def aop (k:Nat) (g:(BX×Unit×(List w9)×(List w9)×Int×Int×Unit) -> Option lq) (d:BX×Unit×(List w9)×(List w9)×Int×Int×Unit):Option lq:=aem k (fun a b c e f=>g ((yx a,()),(),b,c,e,f,())) (uf d.1.1) d.2.2.1 d.2.2.2.1 d.2.2.2.2.1 d.2.2.2.2.2.1
def aen (k a:Nat) (b:p8) (c e:List w9) (f h:Int):Option lq:=iter ajo (aop k) a ((yx b,()),(),c,e,f,h,())
theorem aeo (k a b c e f h):aen k (a+1) b c e f h=aem k (aen k a) b c e f h:=Ba _ _ _ _
def S78 (k:Nat) (a:p8):Option lq :=
 aen k k a ([]:List w9) a.1.2.2.2.2.2.2.2.1 (a.1.2.2.2.2.2.2.2.1.length:Int) 0
def F78:Fn:=⟨[Xn],[],fun k x=>S78 k (uf x.1)⟩
theorem ok78:O 78 F78:=okF (ah ok146 <| ah ok147 aj) [(2,2)] (fun k=>(.loop 2 ajo (aop k) (fun g=>.nil) .nil)) Tryz.func78 rfl
abbrev ajp:Cut:=⟨[0,9,10],[.pin false 0,cI,cI],[.fK 166 [cI,cI,.own 54 AP,.own 168 u6,.cell .bool,.cell .bool,.cell .bool,.own 59 JQ,.own 3 (.int .i64),.own 4 .bool,.own 142 zm,.own 3 (.int .i64),.own 4 .bool,.own 51 x9]],48,[(8,3)]⟩
def aep (k:Nat) (g1:(LK×List (PN Int 6)) -> Int -> Int -> Option lq) (a:p8) (b c:Int):Option lq :=
 (bif decide (c<b) then
  ix a.1.2.2.2.2.2.2.2.1 c <|
  (bif (rd a.1.2.2.2.2.2.2.2.1 c ay).2.2.2.1 != 2 then
   ix a.1.2.2.2.1 (rd a.1.2.2.2.2.2.2.2.1 c ay).1 <|
   (bif decide ((IntKind.i64.wrap (a.1.1 - (rd a.1.2.2.2.2.2.2.2.1 c ay).2.1))≥(rd a.1.2.2.2.1 (rd a.1.2.2.2.2.2.2.2.1 c ay).1 (Qn (α:=Int) 5 0)).2.2.2.2) then
    ix a.1.2.2.2.2.2.2.2.1 c <|
    let r0:List w9:=upd a.1.2.2.2.2.2.2.2.1 c (z7 (rd a.1.2.2.2.2.2.2.2.1 c ay) true)
    g1 ((w7 a.1 r0),a.2) b (IntKind.i64.wrap (c+1))
   else
    g1 a b (IntKind.i64.wrap (c+1)))
  else
   g1 a b (IntKind.i64.wrap (c+1)))
 else
  some ((),yx a,()))
def aoq (k:Nat) (g:(BX×Unit×Int×Int×Unit) -> Option lq) (d:BX×Unit×Int×Int×Unit):Option lq:=aep k (fun a b c=>g ((yx a,()),(),b,c,())) (uf d.1.1) d.2.2.1 d.2.2.2.1
def aer (k a:Nat) (b:p8) (c e:Int):Option lq:=iter ajp (aoq k) a ((yx b,()),(),c,e,())
theorem aes (k a b c e):aer k (a+1) b c e=aep k (aer k a) b c e:=Ba _ _ _ _
def S79 (k:Nat) (a:p8):Option lq :=
 aer k k a (a.1.2.2.2.2.2.2.2.1.length:Int) 0
def F79:Fn:=⟨[Xn],[],fun k x=>S79 k (uf x.1)⟩
theorem ok79:O 79 F79:=okF aj [] (fun k=>(.loop 1 ajp (aoq k) (fun g=>.nil) .nil)) Tryz.func79 rfl
abbrev alX:Cut:=⟨[1,2,3,4,5,6,7,11,12,13],[.box 38 [.cell j5,.cell yc,.cell JY],.box 38 [.own 3 (.int .i64),.own 4 .bool,.own 142 zm],.own 3 (.int .i64),.own 32 j5,cI,.box 142 [cI,cI,cI,cI,cI,.cell NR,.cell j5,.cell (.int .u32),.cell JV,.cell (.int .u32)],.box 142 [cI,cI,cI,cI,cI,.own 2 (.int .i64),.own 3 (.int .i64),.cell (.int .u32),.own 266 aal,.cell (.int .u32)],.cell JY,cI,cI],[],61,[]⟩
def R7 (k:Nat) (g3:aiW) (a:List Int) (b:List Bool) (c:List vo) (e:List Int) (f:List Bool) (h:List vo) (i:List Int) (l:List (List Int)) (m x n o p s:Int) (t u:List Int) (v:Int) (w:l8) (y z A B C D:Int) (G H:List Int) (I:Int) (J:l8) (K:Int) (M:List vo) (N O:Int):Option aai :=
 (abL k (z,(A,B),(C,D),(G,H),(I,J),K)).bind fun q4 =>
 ix h m <|
 ap i ([m]:List Int) 8 fun r5 =>
 (agy k (x,(n,o),(p,s),(t,u),(v,w),y)).bind fun q6 =>
 ap l ([q6.1.1]:List (List Int)) 24 fun r7 =>
 g3 a b c e f (upd h m q4.1.1) r5 r7 M N (IntKind.i64.wrap (O+1))
abbrev aeu:Cut:=⟨[1,2,3,4,11,12,13],[.box 38 [.cell j5,.cell yc,.cell JY],.box 38 [.own 3 (.int .i64),.own 4 .bool,.own 142 zm],.own 3 (.int .i64),.own 32 j5,.cell JY,cI,cI],[],61,[]⟩
def XA (k:Nat) (g3:aiW) (a:List Int) (b:List Bool) (c:List vo) (e:List Int) (f:List Bool) (h:List vo) (i:List Int) (l:List (List Int)) (m:List vo) (n o:Int):Option aai :=
 (bif decide (o<n) then
  ix m o <|
  (agu k ((a,b),c) o).bind fun q1 =>
  (bif !q1.1.1 then
   g3 a b c e f h i l m n (IntKind.i64.wrap (o+1))
  else
   (abK k (rd m o bf)).bind fun q2 =>
   (bif (rd m o bf).2.2.2.2.2==q2.1.1 then
    g3 a b c e f h i l m n (IntKind.i64.wrap (o+1))
   else
    (agw k (rd m o bf).1 (rd m o bf).2.1).bind fun q3 =>
    (bif (rd m o bf).1==1 then
     R7 k g3 a b c e f h i l o (rd m o bf).1 (rd m o bf).2.1.1 (rd m o bf).2.1.2 (rd m o bf).2.2.1.1 (rd m o bf).2.2.1.2 (rd m o bf).2.2.2.1.1 (rd m o bf).2.2.2.1.2 (rd m o bf).2.2.2.2.1.1 (rd m o bf).2.2.2.2.1.2 (rd m o bf).2.2.2.2.2 q3.1.1.1 q3.1.1.2.1.1 q3.1.1.2.1.2 (rd m o bf).2.2.1.1 q3.1.1.2.2.1.2 q3.1.1.2.2.2.1.1 q3.1.1.2.2.2.1.2 q3.1.1.2.2.2.2.1.1 q3.1.1.2.2.2.2.1.2 q3.1.1.2.2.2.2.2 m n o
    else
     R7 k g3 a b c e f h i l o (rd m o bf).1 (rd m o bf).2.1.1 (rd m o bf).2.1.2 (rd m o bf).2.2.1.1 (rd m o bf).2.2.1.2 (rd m o bf).2.2.2.1.1 (rd m o bf).2.2.2.1.2 (rd m o bf).2.2.2.2.1.1 (rd m o bf).2.2.2.2.1.2 (rd m o bf).2.2.2.2.2 q3.1.1.1 q3.1.1.2.1.1 q3.1.1.2.1.2 q3.1.1.2.2.1.1 q3.1.1.2.2.1.2 q3.1.1.2.2.2.1.1 q3.1.1.2.2.2.1.2 q3.1.1.2.2.2.2.1.1 q3.1.1.2.2.2.2.1.2 q3.1.1.2.2.2.2.2 m n o)))
 else
  some ((((e,f),h),i,l,()),()))
def ajq (k:Nat):Xx (((Unit)×UZ×UZ×(List Int)×AJ×(List vo)×Int×Int×Unit) -> Option aai):=eu (dw (d9 (dh (dh (dh dx))) (d9 (dh (dh (dh dx))) (dh (dh (dh (dh (dh dx)))))))) (XA k)
def R8 (k a:Nat) (b:List Int) (c:List Bool) (e:List vo) (f:List Int) (h:List Bool) (i:List vo) (l:List Int) (m:List (List Int)) (n:List vo) (o p:Int):Option aai:=iter aeu (ajq k) a ((),(b,c,e,()),(f,h,i,()),l,m,n,o,p,())
theorem aay (k a b c e f h i l m n o p):R8 k (a+1) b c e f h i l m n o p=XA k (R8 k a) b c e f h i l m n o p:=Ba _ _ _ _
def alY (k:Nat) (a:adV):Option aai :=
 (X3 k a).bind fun q0 =>
 R8 k k a.1.1 a.1.2 a.2 q0.1.1.1.1 q0.1.1.1.2 q0.1.1.2 ([]:List Int) ([]:List (List Int)) a.2 (a.2.length:Int) 0
def F148:Fn:=⟨[apm],[aqR,QV,.val ⟨false,(.sl 32 j5),true⟩],fun k x=>alY k x.1⟩
theorem ok148:O 148 F148:=okF (ah ok185 <| ah ok186 <| ah ok221 <| ah ok223 <| ah ok233 <| ah ok234 aj) [(3,2),(4,2)] (fun k=>(.loop 3 aeu (ajq k) (fun g=>(fun (g3:aiW)=>(.join 9 alX (fun (_,(a,b,c,_),(e,f,h,_),i,l,m,(n,o,p,s,t,u,v,w,y,z,_),(A,B,C,D,G,H,I,J,K,M,_),N,O,P,_)=>R7 k g3 a b c e f h i l m n o p s t u v w y z A B C D G H I J K M N O P) .nil)) (fun t1 t2 t3 out abI apu places who t11 t12 t13=>g ((),(t1,t2,t3,()),(out,abI,apu,()),places,who,t11,t12,t13,()))) .nil)) Tryz.func148 rfl
def IG (k:Nat) (a:p8) (b:PN Int 6):Option lq :=
 ap a.2 ([(a.1.1,b.2)]:List (PN Int 6)) 48 fun r0 =>
 some ((),yx (a.1,r0),())
def F146a:Fn:=⟨[Xn,.val ⟨true,x9,false⟩],[],fun k x=>IG k (uf x.1) x.2.1⟩
theorem ok146a:O 146 F146a:=okF aj [] On Tryz.func146 rfl
abbrev aev:Cut:=⟨[0,4,9,27,28,29,67,68],[.pin false 0,.own 32 j5,cI,.own 3 (.int .i64),cI,cI,cI,cI],[.fK 166 [cI,cI,.own 54 AP,.own 168 u6,.cell .bool,.cell .bool,.cell .bool,.own 59 JQ,.own 3 (.int .i64),.own 4 .bool,.own 142 zm,.own 3 (.int .i64),.own 4 .bool,.own 51 x9]],85,[(66,3)]⟩
def XB (k:Nat) (g3:NP) (g14:(LK×List (PN Int 6)) -> AJ -> Int -> (List Int) -> Int -> Int -> Int -> Int -> Option lq) (a:p8) (b:List (List Int)) (c:Int) (e:List Int) (f h i l:Int):Option lq :=
 (bif decide (l<i) then
  ix a.1.2.2.2.2.2.2.2.1 l <|
  (agt k (rd a.1.2.2.2.2.2.2.2.1 l ay) c).bind fun q5 =>
  ix a.1.2.2.2.2.2.2.2.1 l <|
  g14 ((w7 a.1 (upd a.1.2.2.2.2.2.2.2.1 l q5.1.1)),a.2) b c e f h i (IntKind.i64.wrap (l+1))
 else
  g3 a b e f (IntKind.i64.wrap (h+1)))
def ajr (k:Nat) (g3:NP) (g:(BX×Unit×AJ×Int×(List Int)×Int×Int×Int×Int×Unit) -> Option lq) (d:BX×Unit×AJ×Int×(List Int)×Int×Int×Int×Int×Unit):Option lq:=XB k g3 (fun a b c e f h i l=>g ((yx a,()),(),b,c,e,f,h,i,l,())) (uf d.1.1) d.2.2.1 d.2.2.2.1 d.2.2.2.2.1 d.2.2.2.2.2.1 d.2.2.2.2.2.2.1 d.2.2.2.2.2.2.2.1 d.2.2.2.2.2.2.2.2.1
def XC (k:Nat) (g3:NP) (a:Nat) (b:p8) (c:List (List Int)) (e:Int) (f:List Int) (h i l m:Int):Option lq:=iter aev (ajr k g3) a ((yx b,()),(),c,e,f,h,i,l,m,())
theorem aaz (k g3 a b c e f h i l m):XC k g3 (a+1) b c e f h i l m=XB k g3 (XC k g3 a) b c e f h i l m:=Ba _ _ _ _
abbrev ajs:Cut:=⟨[0,4,6,27,28,29,41,42,43],[.pin false 0,.own 32 j5,cI,.own 3 (.int .i64),cI,cI,.cell j5,cI,cI],[.fK 166 [cI,cI,.own 54 AP,.own 168 u6,.cell .bool,.cell .bool,.cell .bool,.own 59 JQ,.own 3 (.int .i64),.own 4 .bool,.own 142 zm,.own 3 (.int .i64),.own 4 .bool,.own 51 x9]],85,[]⟩
def aew (k:Nat) (g3:NP) (g7:(LK×List (PN Int 6)) -> AJ -> Int -> (List Int) -> Int -> Int -> (List Int) -> Int -> Int -> Option lq) (a:p8) (b:List (List Int)) (c:Int) (e:List Int) (f h:Int) (i:List Int) (l m:Int):Option lq :=
 (bif decide (m<l) then
  ix i m <|
  (IG k a (0,12,0,rd i m 0,0,15)).bind fun q2 =>
  g7 (uf q2.2.1) b c e f h i l (IntKind.i64.wrap (m+1))
 else
  (ZY k a.1.2.2.2.2.2.2.2.2.1).bind fun q3 =>
  (abQ k q3.1.1 c).bind fun q4 =>
  (bif decide (q4.1.1≥0) then
   XC k g3 k a b q4.1.1 e f h (a.1.2.2.2.2.2.2.2.1.length:Int) 0
  else
   g3 a b e f (IntKind.i64.wrap (h+1))))
def aor (k:Nat) (g3:NP) (g:(BX×Unit×AJ×Int×(List Int)×Int×Int×(List Int)×Int×Int×Unit) -> Option lq) (d:BX×Unit×AJ×Int×(List Int)×Int×Int×(List Int)×Int×Int×Unit):Option lq:=aew k g3 (fun a b c e f h i l m=>g ((yx a,()),(),b,c,e,f,h,i,l,m,())) (uf d.1.1) d.2.2.1 d.2.2.2.1 d.2.2.2.2.1 d.2.2.2.2.2.1 d.2.2.2.2.2.2.1 d.2.2.2.2.2.2.2.1 d.2.2.2.2.2.2.2.2.1 d.2.2.2.2.2.2.2.2.2.1
def aex (k:Nat) (g3:NP) (a:Nat) (b:p8) (c:List (List Int)) (e:Int) (f:List Int) (h i:Int) (l:List Int) (m n:Int):Option lq:=iter ajs (aor k g3) a ((yx b,()),(),c,e,f,h,i,l,m,n,())
theorem aey (k g3 a b c e f h i l m n):aex k g3 (a+1) b c e f h i l m n=aew k g3 (aex k g3 a) b c e f h i l m n:=Ba _ _ _ _
abbrev ajt:Cut:=⟨[0,4,27,28,29],[.pin false 0,.own 32 j5,.own 3 (.int .i64),cI,cI],[.fK 166 [cI,cI,.own 54 AP,.own 168 u6,.cell .bool,.cell .bool,.cell .bool,.own 59 JQ,.own 3 (.int .i64),.own 4 .bool,.own 142 zm,.own 3 (.int .i64),.own 4 .bool,.own 51 x9]],85,[]⟩
def aez (k:Nat) (g3:NP) (a:p8) (b:List (List Int)) (c:List Int) (e f:Int):Option lq :=
 (bif decide (f<e) then
  ix c f <|
  (IG k a (0,11,0,rd c f 0,0,0)).bind fun q1 =>
  ix b f <|
  aex k g3 k (uf q1.2.1) b (rd c f 0) c e f (rd b f []) ((rd b f []).length:Int) 0
 else
  some ((),yx a,()))
def aos (k:Nat) (g:(BX×Unit×AJ×(List Int)×Int×Int×Unit) -> Option lq) (d:BX×Unit×AJ×(List Int)×Int×Int×Unit):Option lq:=aez k (fun a b c e f=>g ((yx a,()),(),b,c,e,f,())) (uf d.1.1) d.2.2.1 d.2.2.2.1 d.2.2.2.2.1 d.2.2.2.2.2.1
def aaA (k a:Nat) (b:p8) (c:List (List Int)) (e:List Int) (f h:Int):Option lq:=iter ajt (aos k) a ((yx b,()),(),c,e,f,h,())
theorem aeA (k a b c e f h):aaA k (a+1) b c e f h=aez k (aaA k a) b c e f h:=Ba _ _ _ _
def S80 (k:Nat) (a:p8):Option lq :=
 (alY k a.1.2.2.2.2.2.2.2.2.1).bind fun q0 =>
 aaA k k ((w8 a.1 q0.1.1),a.2) q0.1.2.2.1 q0.1.2.1 (q0.1.2.1.length:Int) 0
def F80:Fn:=⟨[Xn],[],fun k x=>S80 k (uf x.1)⟩
theorem ok80:O 80 F80:=okF (ah ok107 <| ah ok127 <| ah ok146a <| ah ok148 <| ah ok149 aj) [] (fun k=>(.loop 3 ajt (aos k) (fun g=>(fun (g3:NP)=>(.loop 14 aev (ajr k g3) (fun g=>.nil) (.loop 7 ajs (aor k g3) (fun g=>.nil) .nil))) (fun t1 who t27 t28 t29=>g ((yx t1,()),(),who,t27,t28,t29,()))) .nil)) Tryz.func80 rfl
abbrev aeB:Cut:=⟨[0,2,6,7,8,12,13,14],[.cell QS,cI,cI,.cell .bool,.mp 423 true (.int .i64) false .bool,.cell j5,cI,cI],[],51,[]⟩
def XD (k:Nat) (g3:oo -> Int -> Int -> Bool -> (List (Int×Bool)) -> (List Int) -> Int -> Int -> Option xw) (a:l8) (b c:Int) (e:Bool) (f:List (Int×Bool)) (h:List Int) (i l:Int):Option xw :=
 (bif decide (l<i) then
  ix h l <|
  (agB k a (rd h l 0) b).bind fun q0 =>
  (bif !q0.1.1 then
   g3 a b c e f h i (IntKind.i64.wrap (l+1))
  else
   (bif Us (.int .i64) .bool (rd h l 0) f false then
    g3 a b c e f h i (IntKind.i64.wrap (l+1))
   else
    (bif !e then
     ix a (rd h l 0) <|
     g3 a b (rd a (rd h l 0) (0,0)).1 true (vL (.int .i64) .bool (rd h l 0) true f) h i (IntKind.i64.wrap (l+1))
    else
     ix a (rd h l 0) <|
     (bif decide ((rd a (rd h l 0) (0,0)).1<c) then
      ix a (rd h l 0) <|
      g3 a b (rd a (rd h l 0) (0,0)).1 true (vL (.int .i64) .bool (rd h l 0) true f) h i (IntKind.i64.wrap (l+1))
     else
      g3 a b c e (vL (.int .i64) .bool (rd h l 0) true f) h i (IntKind.i64.wrap (l+1))))))
 else
  some ((c,e,()),()))
def aju (k:Nat):Xx (((Unit)×oo×Int×Int×Bool×(List (Int×Bool))×(List Int)×Int×Int×Unit) -> Option xw):=eu (dw (dh (dh (dh (dh (dh (dh (dh (dh dx))))))))) (XD k)
def XE (k a:Nat) (b:l8) (c e:Int) (f:Bool) (h:List (Int×Bool)) (i:List Int) (l m:Int):Option xw:=iter aeB (aju k) a ((),b,c,e,f,h,i,l,m,())
theorem aaB (k a b c e f h i l m):XE k (a+1) b c e f h i l m=XD k (XE k a) b c e f h i l m:=Ba _ _ _ _
def ajv (k:Nat) (a:l8) (b:List Int) (c:Int):Option xw :=
 XE k k a c 0 false ([]:List (Int×Bool)) b (b.length:Int) 0
def F300:Fn:=⟨[EU,adX,au],[rI,rB],fun k (a,b,c,_)=>ajv k a b c⟩
theorem ok300:O 300 F300:=okF (ah ok293 aj) [] (fun k=>(.loop 3 aeB (aju k) (fun g=>.nil) .nil)) Tryz.func300 rfl
def ajw (k:Nat) (a:y7) (b:Int):Option sw :=
 (bif a.2.2.2.1==2 then
  some ((IntKind.i64.wrap ((IntKind.i64.wrap (b+b))+a.1),()),())
 else
  (bif a.2.2.2.2.2.2.2 then
   some ((a.1,()),())
  else
   some ((IntKind.i64.wrap (b+a.1),()),())))
def F340:Fn:=⟨[EW,au],[rI],fun k x=>ajw k x.1 x.2.1⟩
theorem ok340:O 340 F340:=okF aj [] On Tryz.func340 rfl
def apv (k:Nat) (a:y7) (b:Int) (c:l8):Option sw :=
 (ajv k c a.2.2.2.2.2.2.1 a.1).bind fun q0 =>
 (bif q0.1.2.1 then
  (ajw k a b).bind fun q1 =>
  some ((mn q1.1.1 q0.1.1,()),())
 else
  (ajw k a b).bind fun q2 =>
  some ((q2.1.1,()),()))
def F299:Fn:=⟨[EW,au,EU],[rI],fun k (a,b,c,_)=>apv k a b c⟩
theorem ok299:O 299 F299:=okF (ah ok300 <| ah ok340 aj) [] On Tryz.func299 rfl
def alZ (k:Nat) (a:y7) (b:Int) (c:l8):Option ((o7×Unit)×Unit) :=
 (apv k a b c).bind fun q0 =>
 (ajv k c a.2.2.2.2.2.2.1 a.1).bind fun q1 =>
 (bif q1.1.2.1 then
  some (((q0.1.1,0,a.1),()),())
 else
  some (((q0.1.1,1,a.1),()),()))
def F235:Fn:=⟨[EW,au,EU],[.val ⟨true,AA,true⟩],fun k (a,b,c,_)=>alZ k a b c⟩
theorem ok235:O 235 F235:=okF (ah ok299 <| ah ok300 aj) [] On Tryz.func235 rfl
def al1 (k:Nat) (x:Int):Option jv :=
 some ((x != x,()),())
def F342:Fn:=⟨[au],[rB],fun k x=>al1 k x.1⟩
theorem ok342:O 342 F342:=okF aj [] On Tryz.func342 rfl
def agD (k:Nat) (x a:Int):Option sw :=
 (al1 k x).bind fun q0 =>
 (al1 k a).bind fun q1 =>
 (bif q0.1.1 then
  (bif q1.1.1 then
   some ((0,()),())
  else
   some (((-1),()),()))
 else
  (bif q1.1.1 then
   some ((1,()),())
  else
   (bif decide (x<a) then
    some (((-1),()),())
   else
    (bif decide (x>a) then
     some ((1,()),())
    else
     some ((0,()),())))))
def F304:Fn:=⟨[au,au],[rI],fun k x=>agD k x.1 x.2.1⟩
theorem ok304:O 304 F304:=okF (ah ok342 aj) [] On Tryz.func304 rfl
abbrev aeC:Cut:=⟨[3,6,7,8],[cI,.cell j5,cI,cI],[],18,[]⟩
def LW (k:Nat) (g3:Int -> (List Int) -> Int -> Int -> Option sw) (a:Int) (b:List Int) (c e:Int):Option sw :=
 (bif decide (e<c) then
  ix b e <|
  (bif (rd b e 0) != a then
   some ((rd b e 0,()),())
  else
   g3 a b c (IntKind.i64.wrap (e+1)))
 else
  some ((a,()),()))
def ajx (k:Nat):Xx (((Unit)×Int×(List Int)×Int×Int×Unit) -> Option sw):=eu (dw (dh (dh (dh (dh dx))))) (LW k)
def abT (k a:Nat) (b:Int) (c:List Int) (e f:Int):Option sw:=iter aeC (ajx k) a ((),b,c,e,f,())
theorem K3 (k a b c e f):abT k (a+1) b c e f=LW k (abT k a) b c e f:=Ba _ _ _ _
def apw (k:Nat) (a:List Int):Option sw :=
 abT k k 0 a (a.length:Int) 0
def F303:Fn:=⟨[adX],[rI],fun k x=>apw k x.1⟩
theorem ok303:O 303 F303:=okF aj [] (fun k=>(.loop 3 aeC (ajx k) (fun g=>.nil) .nil)) Tryz.func303 rfl
def agE (k:Nat) (a b:Int×Int×Int):Option sw :=
 (agD k a.1 b.1).bind fun q0 =>
 (agD k a.2.1 b.2.1).bind fun q1 =>
 (agD k a.2.2 b.2.2).bind fun q2 =>
 (apw k ([q0.1.1,q1.1.1,q2.1.1]:List Int)).bind fun q3 =>
 some ((q3.1.1,()),())
def F237:Fn:=⟨[.val ⟨true,AA,false⟩,.val ⟨true,AA,false⟩],[rI],fun k x=>agE k x.1 x.2.1⟩
theorem ok237:O 237 F237:=okF (ah ok303 <| ah ok304 aj) [] On Tryz.func237 rfl
def aqU (k:Nat) (a:Int):Option sw :=
 (bif decide (a<0) then
  some ((0,()),())
 else
  (bif decide (a≥64) then
   some ((0,()),())
  else
   Uj a <|
   some ((Uk .u64 1 a,()),())))
def F341:Fn:=⟨[au],[.val ⟨false,(.int .u64),true⟩],fun k x=>aqU k x.1⟩
theorem ok341:O 341 F341:=okF aj [] On Tryz.func341 rfl
def ajy (k:Nat) (a b:Int):Option sw :=
 (aqU k b).bind fun q0 =>
 some ((Uz .u64 a q0.1.1,()),())
def F301:Fn:=⟨[.val ⟨false,(.int .u64),false⟩,au],[.val ⟨false,(.int .u64),true⟩],fun k x=>ajy k x.1 x.2.1⟩
theorem ok301:O 301 F301:=okF (ah ok341 aj) [] On Tryz.func301 rfl
abbrev aeD:Cut:=⟨[0,2,4],[.cell (.int .u64),cI,cI],[],23,[]⟩
def apx (k:Nat) (g4:Int -> Int -> Int -> Option xw) (a b c:Int):Option xw :=
 (bif decide (c>0) then
  Uj (IntKind.i64.wrap (64 - c)) <|
  (bif (Uk .u64 a (IntKind.i64.wrap (64 - c)))==0 then
   Uj c <|
   g4 (Ul .u64 a c) (IntKind.i64.wrap (b+c)) (IntKind.i64.wrap (Int.tdiv c 2))
  else
   g4 a b (IntKind.i64.wrap (Int.tdiv c 2)))
 else
  some ((b,true,()),()))
def ajz (k:Nat):Xx (((Unit)×Int×Int×Int×Unit) -> Option xw):=eu (dw (dh (dh (dh dx)))) (apx k)
def apy (k a:Nat) (b c e:Int):Option xw:=iter aeD (ajz k) a ((),b,c,e,())
def apz (k:Nat) (a:Int):Option xw :=
 (bif a==0 then
  some ((0,false,()),())
 else
  apy k k a 0 32)
def F302:Fn:=⟨[.val ⟨false,(.int .u64),false⟩],[rI,rB],fun k x=>apz k x.1⟩
theorem ok302:O 302 F302:=okF aj [] (fun k=>(.loop 4 aeD (ajz k) (fun g=>.nil) .nil)) Tryz.func302 rfl
abbrev aeE:Cut:=⟨[3,4,13,14,15],[.box 336 [cI,cI,cI],.cell (.int .u64),.cell (.sl 336 AA),cI,cI],[],42,[]⟩
def R9 (k:Nat) (g3:Int -> Int -> Int -> Int -> (List o7) -> Int -> Int -> Option sw) (a b c e:Int) (f:List o7) (h i:Int):Option sw :=
 (bif decide (i<h) then
  ix f i <|
  (agE k (rd f i (0,0,0)) (a,b,c)).bind fun q0 =>
  (bif decide (q0.1.1<0) then
   (ajy k 0 i).bind fun q1 =>
   g3 (rd f i (0,0,0)).1 (rd f i (0,0,0)).2.1 (rd f i (0,0,0)).2.2 q1.1.1 f h (IntKind.i64.wrap (i+1))
  else
   (bif q0.1.1==0 then
    (ajy k e i).bind fun q2 =>
    g3 a b c q2.1.1 f h (IntKind.i64.wrap (i+1))
   else
    g3 a b c e f h (IntKind.i64.wrap (i+1))))
 else
  (apz k e).bind fun q3 =>
  some ((q3.1.1,()),()))
def ajA (k:Nat):Xx (((Unit)×(Int×Int×Int×Unit)×Int×(List o7)×Int×Int×Unit) -> Option sw):=eu (dw (d9 (dh (dh (dh dx))) (dh (dh (dh (dh dx)))))) (R9 k)
def LX (k a:Nat) (b c e f:Int) (h:List o7) (i l:Int):Option sw:=iter aeE (ajA k) a ((),(b,c,e,()),f,h,i,l,())
theorem RA (k a b c e f h i l):LX k (a+1) b c e f h i l=R9 k (LX k a) b c e f h i l:=Ba _ _ _ _
def al2 (k:Nat) (a:List o7):Option sw :=
 ix a 0 <|
 LX k k (rd a 0 (0,0,0)).1 (rd a 0 (0,0,0)).2.1 (rd a 0 (0,0,0)).2.2 0 a (a.length:Int) 0
def F236:Fn:=⟨[.val ⟨false,(.sl 336 AA),false⟩],[rI],fun k x=>al2 k x.1⟩
theorem ok236:O 236 F236:=okF (ah ok237 <| ah ok301 <| ah ok302 aj) [] (fun k=>(.loop 3 aeE (ajA k) (fun g=>.nil) .nil)) Tryz.func236 rfl
abbrev aeF:Cut:=⟨[6,7,8,11],[cI,.cell .bool,.own 336 AA,cI],[],63,[]⟩
def RB (k:Nat) (g8:Int -> Bool -> (List o7) -> Int -> Option xw) (a:Int) (b:Bool) (c:List o7) (e:Int):Option xw :=
 (bif decide (e<(c.length:Int)) then
  sx c e (mn (IntKind.i64.wrap (e+64)) (c.length:Int)) <|
  (al2 k (sub c e (mn (IntKind.i64.wrap (e+64)) (c.length:Int)))).bind fun q2 =>
  (bif !b then
   g8 (IntKind.i64.wrap (e+q2.1.1)) true c (IntKind.i64.wrap (e+64))
  else
   ix c (IntKind.i64.wrap (e+q2.1.1)) <|
   ix c a <|
   (agE k (rd c (IntKind.i64.wrap (e+q2.1.1)) (0,0,0)) (rd c a (0,0,0))).bind fun q3 =>
   (bif decide (q3.1.1<0) then
    g8 (IntKind.i64.wrap (e+q2.1.1)) true c (IntKind.i64.wrap (e+64))
   else
    g8 a b c (IntKind.i64.wrap (e+64))))
 else
  some ((a,b,()),()))
def ajB (k:Nat):Xx (((Unit)×Int×Bool×(List o7)×Int×Unit) -> Option xw):=eu (dw (dh (dh (dh (dh dx))))) (RB k)
def LY (k a:Nat) (b:Int) (c:Bool) (e:List o7) (f:Int):Option xw:=iter aeF (ajB k) a ((),b,c,e,f,())
theorem RF (k a b c e f):LY k (a+1) b c e f=RB k (LY k a) b c e f:=Ba _ _ _ _
abbrev aeG:Cut:=⟨[1,2,6,7,8,14,15,16],[cI,.cell QS,cI,.cell .bool,.own 336 AA,.cell CX,cI,cI],[],63,[]⟩
def XF (k:Nat) (g3:Int -> oo -> Int -> Bool -> (List o7) -> (List w9) -> Int -> Int -> Option xw) (a:Int) (b:l8) (c:Int) (e:Bool) (f:List o7) (h:List w9) (i l:Int):Option xw :=
 (bif decide (l<i) then
  ix h l <|
  (alZ k (rd h l ay) a b).bind fun q0 =>
  ap f ([q0.1.1]:List o7) 24 fun r1 =>
  g3 a b c e r1 h i (IntKind.i64.wrap (l+1))
 else
  LY k k c e f 0)
def ajC (k:Nat):Xx (((Unit)×Int×oo×Int×Bool×(List o7)×(List w9)×Int×Int×Unit) -> Option xw):=eu (dw (dh (dh (dh (dh (dh (dh (dh (dh dx))))))))) (XF k)
def XG (k a:Nat) (b:Int) (c:l8) (e:Int) (f:Bool) (h:List o7) (i:List w9) (l m:Int):Option xw:=iter aeG (ajC k) a ((),b,c,e,f,h,i,l,m,())
theorem aaC (k a b c e f h i l m):XG k (a+1) b c e f h i l m=XF k (XG k a) b c e f h i l m:=Ba _ _ _ _
def al3 (k:Nat) (a:List w9) (b:Int) (c:l8):Option xw :=
 XG k k b c 0 false ([]:List o7) a (a.length:Int) 0
def F150:Fn:=⟨[ai2,au,EU],[rI,rB],fun k (a,b,c,_)=>al3 k a b c⟩
theorem ok150:O 150 F150:=okF (ah ok235 <| ah ok236 <| ah ok237 aj) [(8,2)] (fun k=>(.loop 8 aeF (ajB k) (fun g=>.nil) (.loop 3 aeG (ajC k) (fun g=>.nil) .nil))) Tryz.func150 rfl
def aaD (k:Nat) (a:adU):Option QN :=
 (abJ k a.2.2.1).bind fun q0 =>
 some (((a.1,a.2.1,q0.1.1,a.2.2.2),()),())
def F307:Fn:=⟨[aam],[ad1],fun k x=>aaD k x.1⟩
theorem ok307:O 307 F307:=okF (ah ok217 aj) [] On Tryz.func307 rfl
def agF (k:Nat) (a:y7):Option ((w9×Unit)×Unit) :=
 (aaD k a.2.2.2.2.1).bind fun q0 =>
 (aaD k a.2.2.2.2.2.1).bind fun q1 =>
 (FH k a.2.2.2.2.2.2.1).bind fun q2 =>
 some (((w6 (w5 (w4 a q0.1.1) q1.1.1) q2.1.1),()),())
def F305:Fn:=⟨[EW],[aan],fun k x=>agF k x.1⟩
theorem ok305:O 305 F305:=okF (ah ok219 <| ah ok307 aj) [] On Tryz.func305 rfl
def al4 (k:Nat) (a:aag) (b:y7):Option ((w9×Unit)×Unit) :=
 (agF k b).bind fun q0 =>
 (bif b.2.2.2.1==0 then
  (bif decide ((a.2.2.2.2.1.length:Int)>0) then
   (U1 k b.2.2.1).bind fun q1 =>
   (U1 k b.2.2.1).bind fun q2 =>
   some (((q0.1.1.1,q0.1.1.2.1,q0.1.1.2.2.1,1,q1.1.1,q2.1.1,[],q0.1.1.2.2.2.2.2.2.2),()),())
  else
   (aaD k b.2.2.2.2.2.1).bind fun q3 =>
   some (((w6 (w4 q0.1.1 q3.1.1) []),()),()))
 else
  (aaD k b.2.2.2.2.2.1).bind fun q4 =>
  some (((w6 (w4 q0.1.1 q4.1.1) []),()),()))
def F311:Fn:=⟨[V5,EW],[aan],fun k x=>al4 k x.1 x.2.1⟩
theorem ok311:O 311 F311:=okF (ah ok109 <| ah ok305 <| ah ok307 aj) [] On Tryz.func311 rfl
def al5 (k:Nat) (a:aag) (b:y7) (c:l8):Option ((w9×oo×Int×Unit)×Unit) :=
 (al4 k a b).bind fun q0 =>
 (agC k c b.1).bind fun q1 =>
 (bif b.2.2.2.1==2 then
  (agt k b (-1)).bind fun q2 =>
  some ((q2.1.1,q1.1.1,13,()),())
 else
  (bif q0.1.1.2.2.2.1 != b.2.2.2.1 then
   some ((q0.1.1,q1.1.1,7,()),())
  else
   some ((q0.1.1,q1.1.1,6,()),())))
def F242:Fn:=⟨[V5,EW,EU],[aan,adY,rI],fun k (a,b,c,_)=>al5 k a b c⟩
theorem ok242:O 242 F242:=okF (ah ok127 <| ah ok231 <| ah ok311 aj) [] On Tryz.func242 rfl
abbrev aeH:Cut:=⟨[0,1,11,12,13],[.pin false 0,.cell QS,.own 3 (.int .i64),cI,cI],[.fK 166 [cI,cI,.own 54 AP,.own 168 u6,.cell .bool,.cell .bool,.cell .bool,.own 59 JQ,.own 3 (.int .i64),.own 4 .bool,.own 142 zm,.own 3 (.int .i64),.own 4 .bool,.own 51 x9]],55,[]⟩
def XH (k:Nat) (g1:(LK×List (PN Int 6)) -> oo -> (List Int) -> Int -> Int -> Option lq) (a:p8) (b:l8) (c:List Int) (e f:Int):Option lq :=
 (bif decide (f<e) then
  ix c f <|
  ix a.1.2.2.2.2.2.2.2.2.1.2 (rd c f 0) <|
  (bif decide (f<(b.length:Int)) then
   ix b f <|
   (bif !(fC BG (rd a.1.2.2.2.2.2.2.2.2.1.2 (rd c f 0) bf).2.2.1 (rd b f (0,0))) then
    ix b f <|
    (I6 k a.1.2.2.2.2.2.2.2.2.1 (rd c f 0) ((rd a.1.2.2.2.2.2.2.2.2.1.2 (rd c f 0) bf).1,(rd a.1.2.2.2.2.2.2.2.2.1.2 (rd c f 0) bf).2.1,rd b f (0,0),(rd a.1.2.2.2.2.2.2.2.2.1.2 (rd c f 0) bf).2.2.2)).bind fun q1 =>
    g1 ((w8 a.1 q1.1.1),a.2) b c e (IntKind.i64.wrap (f+1))
   else
    g1 a b c e (IntKind.i64.wrap (f+1)))
  else
   g1 a b c e (IntKind.i64.wrap (f+1)))
 else
  some ((),yx a,()))
def ajD (k:Nat) (g:(BX×Unit×oo×(List Int)×Int×Int×Unit) -> Option lq) (d:BX×Unit×oo×(List Int)×Int×Int×Unit):Option lq:=XH k (fun a b c e f=>g ((yx a,()),(),b,c,e,f,())) (uf d.1.1) d.2.2.1 d.2.2.2.1 d.2.2.2.2.1 d.2.2.2.2.2.1
def LZ (k a:Nat) (b:p8) (c:l8) (e:List Int) (f h:Int):Option lq:=iter aeH (ajD k) a ((yx b,()),(),c,e,f,h,())
theorem aaE (k a b c e f h):LZ k (a+1) b c e f h=XH k (LZ k a) b c e f h:=Ba _ _ _ _
def agG (k:Nat) (a:p8) (b:l8):Option lq :=
 (ZY k a.1.2.2.2.2.2.2.2.2.1).bind fun q0 =>
 LZ k k a b q0.1.1 (q0.1.1.length:Int) 0
def F61b:Fn:=⟨[Xn,EU],[],fun k x=>agG k (uf x.1) x.2.1⟩
theorem ok61b:O 61 F61b:=okF (ah ok107 <| ah ok128 aj) [] (fun k=>(.loop 1 aeH (ajD k) (fun g=>.nil) .nil)) Tryz.func61 rfl
def al6 (k:Nat) (a:p8) (b:y7):Option aaj :=
 ix a.1.2.2.1 b.1 <|
 (S48 k a.1).bind fun q0 =>
 (al5 k (rd a.1.2.2.1 b.1 bg) b q0.1.1).bind fun q1 =>
 (agG k a q1.1.2.1).bind fun q2 =>
 (IG k (uf q2.2.1) (0,q1.1.2.2.1,q1.1.1.1,0,0,0)).bind fun q3 =>
 some ((q1.1.2.2.1==13,()),q3.2.1,trJ q1.1.1,())
def F152:Fn:=⟨[Xn,aqO],[rB],fun k x=>al6 k (uf x.1) (tvJ x.2.1)⟩
theorem ok152:O 152 F152:=okF (ah ok48 <| ah ok61b <| ah ok146a <| ah ok242 aj) [] On Tryz.func152 rfl
def al7 (k:Nat) (a:aag) (b:y7):Option (((List ko)×Unit)×Unit) :=
 (QC k (Us (.int .i64) uz b.2.2.2.1 (vL (.int .i64) uz 2 a.2.2.2.2.2 (vL (.int .i64) uz 1 a.2.2.2.2.1 (vL (.int .i64) uz 0 a.2.2.2.1 ([]:List (Int×List ko))))) [])).bind fun q0 =>
 some ((q0.1.1,()),())
def F306:Fn:=⟨[V5,EW],[ai6],fun k x=>al7 k x.1 x.2.1⟩
theorem ok306:O 306 F306:=okF (ah ok126 aj) [] On Tryz.func306 rfl
def abU (k:Nat) (a:adU):Option QN :=
 (abJ k a.2.2.1).bind fun q0 =>
 some (((a.1,a.2.1,q0.1.1,a.2.2.2),()),())
def F195:Fn:=⟨[aam],[ad1],fun k x=>abU k x.1⟩
theorem ok195:O 195 F195:=okF (ah ok217 aj) [] On Tryz.func195 rfl
def al8 (k:Nat) (a b:Int):Option sw :=
 (bif decide (b <= (-64)) then
  some ((a,()),())
 else
  (bif decide (b≥64) then
   some ((a,()),())
  else
   (bif decide (b<0) then
    Uj (IntKind.i64.wrap (0 - b)) <|
    some ((Ul .i64 a (IntKind.i64.wrap (0 - b)),()),())
   else
    Uj b <|
    some ((IntKind.i64.wrap (Uk .u64 (IntKind.u64.wrap a) b),()),()))))
def F196:Fn:=⟨[au,au],[rI],fun k x=>al8 k x.1 x.2.1⟩
theorem ok196:O 196 F196:=okF aj [] On Tryz.func196 rfl
def al9 (k:Nat) (a b:Int):Option sw :=
 (bif decide (b<1) then
  some ((a,()),())
 else
  (bif decide (b>64) then
   some ((a,()),())
  else
   Uj (IntKind.i64.wrap (64 - b)) <|
   Uj (IntKind.i64.wrap (64 - b)) <|
   some ((Ul .i64 (Uk .i64 a (IntKind.i64.wrap (64 - b))) (IntKind.i64.wrap (64 - b)),()),())))
def F197:Fn:=⟨[au,au],[rI],fun k x=>al9 k x.1 x.2.1⟩
theorem ok197:O 197 F197:=okF aj [] On Tryz.func197 rfl
abbrev aeI:Cut:=⟨[1,2,3],[.box 57 [cI,cI,cI,cI,cI,cI,cI,cI,cI,.own 293 AA,.cell .bool],.box 57 [cI,cI,cI,cI,cI,cI,cI,cI,cI,.nil,.cell .bool],cI],[],55,[]⟩
def XI (k:Nat) (g2:Int -> Int -> Int -> Int -> Int -> Int -> Int -> Int -> Int -> (List o7) -> Bool -> Int -> Int -> Int -> Int -> Int -> Int -> Int -> Int -> Int -> Bool -> Int -> Option QN) (a b c e f h i l m:Int) (n:List o7) (o:Bool) (p s t u v w y z A:Int) (B:Bool) (C:Int):Option QN :=
 (bif decide (C>0) then
  ix n (IntKind.i64.wrap (C - 1)) <|
  (bif decide ((rd n (IntKind.i64.wrap (C - 1)) (0,0,0)).2.1<a) then
   ix n (IntKind.i64.wrap (C - 1)) <|
   (bif decide ((rd n (IntKind.i64.wrap (C - 1)) (0,0,0)).2.2>0) then
    some ((((rd n (IntKind.i64.wrap (C - 1)) (0,0,0)).1,(b,c,e,f,h,i,l,m),upd n (IntKind.i64.wrap (C - 1)) ((rd n (IntKind.i64.wrap (C - 1)) (0,0,0)).1,(rd n (IntKind.i64.wrap (C - 1)) (0,0,0)).2.1,IntKind.i64.wrap ((rd n (IntKind.i64.wrap (C - 1)) (0,0,0)).2.2 - 1)),o),()),())
   else
    sx n 0 (IntKind.i64.wrap (C - 1)) <|
    g2 a b c e f h i l m (n.take (IntKind.i64.wrap (C - 1)).toNat) o p s t u v w y z A B ((n.take (IntKind.i64.wrap (C - 1)).toNat).length:Int))
  else
   some (((a,(b,c,e,f,h,i,l,m),n,o),()),()))
 else
  some (((a,(b,c,e,f,h,i,l,m),n,o),()),()))
def ajE (k:Nat):Xx (((Unit)×aiX×(Int×Int×Int×Int×Int×Int×Int×Int×Int×Unit×Bool×Unit)×Int×Unit) -> Option QN):=eu (dw (d9 (dh (dh (dh (dh (dh (dh (dh (dh (dh (dh (dh dx))))))))))) (d9 (dh (dh (dh (dh (dh (dh (dh (dh (dh (dw (dh dx))))))))))) (dh dx)))) (XI k)
def XJ (k a:Nat) (b c e f h i l m n:Int) (o:List o7) (p:Bool) (s t u v w y z A B:Int) (C:Bool) (D:Int):Option QN:=iter aeI (ajE k) a ((),(b,c,e,f,h,i,l,m,n,o,p,()),(s,t,u,v,w,y,z,A,B,(),C,()),D,())
theorem aaF (k a b c e f h i l m n o p s t u v w y z A B C D):XJ k (a+1) b c e f h i l m n o p s t u v w y z A B C D=XI k (XJ k a) b c e f h i l m n o p s t u v w y z A B C D:=Ba _ _ _ _
def K4 (k:Nat) (a b c e f h i l m:Int) (n:List o7) (o:Bool):Option QN :=
 XJ k k a b c e f h i l m n o 0 0 0 0 0 0 0 0 0 false (n.length:Int)
def F198:Fn:=⟨[.gv (.agg [cI,cI,cI,cI,cI,cI,cI,cI,cI,.own 293 AA,.cell .bool])],[ad1],fun k ((a,b,c,e,f,h,i,l,m,n,o,_),_)=>K4 k a b c e f h i l m n o⟩
theorem ok198:O 198 F198:=okF aj [(52,1)] (fun k=>(.loop 2 aeI (ajE k) (fun g=>.nil) .nil)) Tryz.func198 rfl
def ajF (k:Nat) (a:List ko) (b:adU):Option (((Int×(PN Int 8)×(List o7)×Bool)×ko×Bool×Unit)×Unit) :=
 (bif b.2.2.2 then
  (abU k b).bind fun q0 =>
  some ((q0.1.1,(0,0,0,0),false,()),())
 else
  (bif decide (b.1<0) then
   (abU k b).bind fun q1 =>
   some ((q1.1.1,(0,0,0,0),false,()),())
  else
   (bif decide (b.1≥(a.length:Int)) then
    (abU k b).bind fun q2 =>
    some ((q2.1.1,(0,0,0,0),false,()),())
   else
    ix a b.1 <|
    (ahF k (rd a b.1 (0,0,0,0))).bind fun q3 =>
    (bif !q3.1.1 then
     (abU k b).bind fun q4 =>
     some ((q4.1.1,(0,0,0,0),false,()),())
    else
     (abU k b).bind fun q5 =>
     ix a q5.1.1.1 <|
     ax 8 (rd a q5.1.1.1 (0,0,0,0)).2.1 <|
     ax 8 (Int.tmod (rd a q5.1.1.1 (0,0,0,0)).2.2.1 8) <|
     (bif (rd a q5.1.1.1 (0,0,0,0)).1==0 then
      (K4 k q5.1.1.1 q5.1.1.2.1.1 q5.1.1.2.1.2.1 q5.1.1.2.1.2.2.1 q5.1.1.2.1.2.2.2.1 q5.1.1.2.1.2.2.2.2.1 q5.1.1.2.1.2.2.2.2.2.1 q5.1.1.2.1.2.2.2.2.2.2.1 q5.1.1.2.1.2.2.2.2.2.2.2 q5.1.1.2.2.1 true).bind fun q6 =>
      some ((q6.1.1,rd a q5.1.1.1 (0,0,0,0),true,()),())
     else
      (bif (rd a q5.1.1.1 (0,0,0,0)).1==1 then
       (K4 k (IntKind.i64.wrap (q5.1.1.1+1)) (Ur (α:=Int) 8 q5.1.1.2.1 (rd a q5.1.1.1 (0,0,0,0)).2.1 (rd a q5.1.1.1 (0,0,0,0)).2.2.2).1 (Ur (α:=Int) 8 q5.1.1.2.1 (rd a q5.1.1.1 (0,0,0,0)).2.1 (rd a q5.1.1.1 (0,0,0,0)).2.2.2).2.1 (Ur (α:=Int) 8 q5.1.1.2.1 (rd a q5.1.1.1 (0,0,0,0)).2.1 (rd a q5.1.1.1 (0,0,0,0)).2.2.2).2.2.1 (Ur (α:=Int) 8 q5.1.1.2.1 (rd a q5.1.1.1 (0,0,0,0)).2.1 (rd a q5.1.1.1 (0,0,0,0)).2.2.2).2.2.2.1 (Ur (α:=Int) 8 q5.1.1.2.1 (rd a q5.1.1.1 (0,0,0,0)).2.1 (rd a q5.1.1.1 (0,0,0,0)).2.2.2).2.2.2.2.1 (Ur (α:=Int) 8 q5.1.1.2.1 (rd a q5.1.1.1 (0,0,0,0)).2.1 (rd a q5.1.1.1 (0,0,0,0)).2.2.2).2.2.2.2.2.1 (Ur (α:=Int) 8 q5.1.1.2.1 (rd a q5.1.1.1 (0,0,0,0)).2.1 (rd a q5.1.1.1 (0,0,0,0)).2.2.2).2.2.2.2.2.2.1 (Ur (α:=Int) 8 q5.1.1.2.1 (rd a q5.1.1.1 (0,0,0,0)).2.1 (rd a q5.1.1.1 (0,0,0,0)).2.2.2).2.2.2.2.2.2.2 q5.1.1.2.2.1 q5.1.1.2.2.2).bind fun q7 =>
       some ((q7.1.1,rd a q5.1.1.1 (0,0,0,0),true,()),())
      else
       (bif (rd a q5.1.1.1 (0,0,0,0)).1==2 then
        (K4 k (IntKind.i64.wrap (q5.1.1.1+1)) (Ur (α:=Int) 8 q5.1.1.2.1 (rd a q5.1.1.1 (0,0,0,0)).2.1 (IntKind.i64.wrap (IntKind.u64.wrap ((IntKind.u64.wrap (Uq (α:=Int) 8 q5.1.1.2.1 (rd a q5.1.1.1 (0,0,0,0)).2.1 0))+(IntKind.u64.wrap (Uq (α:=Int) 8 q5.1.1.2.1 (Int.tmod (rd a q5.1.1.1 (0,0,0,0)).2.2.1 8) 0)))))).1 (Ur (α:=Int) 8 q5.1.1.2.1 (rd a q5.1.1.1 (0,0,0,0)).2.1 (IntKind.i64.wrap (IntKind.u64.wrap ((IntKind.u64.wrap (Uq (α:=Int) 8 q5.1.1.2.1 (rd a q5.1.1.1 (0,0,0,0)).2.1 0))+(IntKind.u64.wrap (Uq (α:=Int) 8 q5.1.1.2.1 (Int.tmod (rd a q5.1.1.1 (0,0,0,0)).2.2.1 8) 0)))))).2.1 (Ur (α:=Int) 8 q5.1.1.2.1 (rd a q5.1.1.1 (0,0,0,0)).2.1 (IntKind.i64.wrap (IntKind.u64.wrap ((IntKind.u64.wrap (Uq (α:=Int) 8 q5.1.1.2.1 (rd a q5.1.1.1 (0,0,0,0)).2.1 0))+(IntKind.u64.wrap (Uq (α:=Int) 8 q5.1.1.2.1 (Int.tmod (rd a q5.1.1.1 (0,0,0,0)).2.2.1 8) 0)))))).2.2.1 (Ur (α:=Int) 8 q5.1.1.2.1 (rd a q5.1.1.1 (0,0,0,0)).2.1 (IntKind.i64.wrap (IntKind.u64.wrap ((IntKind.u64.wrap (Uq (α:=Int) 8 q5.1.1.2.1 (rd a q5.1.1.1 (0,0,0,0)).2.1 0))+(IntKind.u64.wrap (Uq (α:=Int) 8 q5.1.1.2.1 (Int.tmod (rd a q5.1.1.1 (0,0,0,0)).2.2.1 8) 0)))))).2.2.2.1 (Ur (α:=Int) 8 q5.1.1.2.1 (rd a q5.1.1.1 (0,0,0,0)).2.1 (IntKind.i64.wrap (IntKind.u64.wrap ((IntKind.u64.wrap (Uq (α:=Int) 8 q5.1.1.2.1 (rd a q5.1.1.1 (0,0,0,0)).2.1 0))+(IntKind.u64.wrap (Uq (α:=Int) 8 q5.1.1.2.1 (Int.tmod (rd a q5.1.1.1 (0,0,0,0)).2.2.1 8) 0)))))).2.2.2.2.1 (Ur (α:=Int) 8 q5.1.1.2.1 (rd a q5.1.1.1 (0,0,0,0)).2.1 (IntKind.i64.wrap (IntKind.u64.wrap ((IntKind.u64.wrap (Uq (α:=Int) 8 q5.1.1.2.1 (rd a q5.1.1.1 (0,0,0,0)).2.1 0))+(IntKind.u64.wrap (Uq (α:=Int) 8 q5.1.1.2.1 (Int.tmod (rd a q5.1.1.1 (0,0,0,0)).2.2.1 8) 0)))))).2.2.2.2.2.1 (Ur (α:=Int) 8 q5.1.1.2.1 (rd a q5.1.1.1 (0,0,0,0)).2.1 (IntKind.i64.wrap (IntKind.u64.wrap ((IntKind.u64.wrap (Uq (α:=Int) 8 q5.1.1.2.1 (rd a q5.1.1.1 (0,0,0,0)).2.1 0))+(IntKind.u64.wrap (Uq (α:=Int) 8 q5.1.1.2.1 (Int.tmod (rd a q5.1.1.1 (0,0,0,0)).2.2.1 8) 0)))))).2.2.2.2.2.2.1 (Ur (α:=Int) 8 q5.1.1.2.1 (rd a q5.1.1.1 (0,0,0,0)).2.1 (IntKind.i64.wrap (IntKind.u64.wrap ((IntKind.u64.wrap (Uq (α:=Int) 8 q5.1.1.2.1 (rd a q5.1.1.1 (0,0,0,0)).2.1 0))+(IntKind.u64.wrap (Uq (α:=Int) 8 q5.1.1.2.1 (Int.tmod (rd a q5.1.1.1 (0,0,0,0)).2.2.1 8) 0)))))).2.2.2.2.2.2.2 q5.1.1.2.2.1 q5.1.1.2.2.2).bind fun q8 =>
        some ((q8.1.1,rd a q5.1.1.1 (0,0,0,0),true,()),())
       else
        (bif (rd a q5.1.1.1 (0,0,0,0)).1==3 then
         (K4 k (IntKind.i64.wrap (q5.1.1.1+1)) (Ur (α:=Int) 8 q5.1.1.2.1 (rd a q5.1.1.1 (0,0,0,0)).2.1 (IntKind.i64.wrap (IntKind.u64.wrap ((IntKind.u64.wrap (Uq (α:=Int) 8 q5.1.1.2.1 (rd a q5.1.1.1 (0,0,0,0)).2.1 0)) - (IntKind.u64.wrap (Uq (α:=Int) 8 q5.1.1.2.1 (Int.tmod (rd a q5.1.1.1 (0,0,0,0)).2.2.1 8) 0)))))).1 (Ur (α:=Int) 8 q5.1.1.2.1 (rd a q5.1.1.1 (0,0,0,0)).2.1 (IntKind.i64.wrap (IntKind.u64.wrap ((IntKind.u64.wrap (Uq (α:=Int) 8 q5.1.1.2.1 (rd a q5.1.1.1 (0,0,0,0)).2.1 0)) - (IntKind.u64.wrap (Uq (α:=Int) 8 q5.1.1.2.1 (Int.tmod (rd a q5.1.1.1 (0,0,0,0)).2.2.1 8) 0)))))).2.1 (Ur (α:=Int) 8 q5.1.1.2.1 (rd a q5.1.1.1 (0,0,0,0)).2.1 (IntKind.i64.wrap (IntKind.u64.wrap ((IntKind.u64.wrap (Uq (α:=Int) 8 q5.1.1.2.1 (rd a q5.1.1.1 (0,0,0,0)).2.1 0)) - (IntKind.u64.wrap (Uq (α:=Int) 8 q5.1.1.2.1 (Int.tmod (rd a q5.1.1.1 (0,0,0,0)).2.2.1 8) 0)))))).2.2.1 (Ur (α:=Int) 8 q5.1.1.2.1 (rd a q5.1.1.1 (0,0,0,0)).2.1 (IntKind.i64.wrap (IntKind.u64.wrap ((IntKind.u64.wrap (Uq (α:=Int) 8 q5.1.1.2.1 (rd a q5.1.1.1 (0,0,0,0)).2.1 0)) - (IntKind.u64.wrap (Uq (α:=Int) 8 q5.1.1.2.1 (Int.tmod (rd a q5.1.1.1 (0,0,0,0)).2.2.1 8) 0)))))).2.2.2.1 (Ur (α:=Int) 8 q5.1.1.2.1 (rd a q5.1.1.1 (0,0,0,0)).2.1 (IntKind.i64.wrap (IntKind.u64.wrap ((IntKind.u64.wrap (Uq (α:=Int) 8 q5.1.1.2.1 (rd a q5.1.1.1 (0,0,0,0)).2.1 0)) - (IntKind.u64.wrap (Uq (α:=Int) 8 q5.1.1.2.1 (Int.tmod (rd a q5.1.1.1 (0,0,0,0)).2.2.1 8) 0)))))).2.2.2.2.1 (Ur (α:=Int) 8 q5.1.1.2.1 (rd a q5.1.1.1 (0,0,0,0)).2.1 (IntKind.i64.wrap (IntKind.u64.wrap ((IntKind.u64.wrap (Uq (α:=Int) 8 q5.1.1.2.1 (rd a q5.1.1.1 (0,0,0,0)).2.1 0)) - (IntKind.u64.wrap (Uq (α:=Int) 8 q5.1.1.2.1 (Int.tmod (rd a q5.1.1.1 (0,0,0,0)).2.2.1 8) 0)))))).2.2.2.2.2.1 (Ur (α:=Int) 8 q5.1.1.2.1 (rd a q5.1.1.1 (0,0,0,0)).2.1 (IntKind.i64.wrap (IntKind.u64.wrap ((IntKind.u64.wrap (Uq (α:=Int) 8 q5.1.1.2.1 (rd a q5.1.1.1 (0,0,0,0)).2.1 0)) - (IntKind.u64.wrap (Uq (α:=Int) 8 q5.1.1.2.1 (Int.tmod (rd a q5.1.1.1 (0,0,0,0)).2.2.1 8) 0)))))).2.2.2.2.2.2.1 (Ur (α:=Int) 8 q5.1.1.2.1 (rd a q5.1.1.1 (0,0,0,0)).2.1 (IntKind.i64.wrap (IntKind.u64.wrap ((IntKind.u64.wrap (Uq (α:=Int) 8 q5.1.1.2.1 (rd a q5.1.1.1 (0,0,0,0)).2.1 0)) - (IntKind.u64.wrap (Uq (α:=Int) 8 q5.1.1.2.1 (Int.tmod (rd a q5.1.1.1 (0,0,0,0)).2.2.1 8) 0)))))).2.2.2.2.2.2.2 q5.1.1.2.2.1 q5.1.1.2.2.2).bind fun q9 =>
         some ((q9.1.1,rd a q5.1.1.1 (0,0,0,0),true,()),())
        else
         (bif (rd a q5.1.1.1 (0,0,0,0)).1==4 then
          (K4 k (IntKind.i64.wrap (q5.1.1.1+1)) (Ur (α:=Int) 8 q5.1.1.2.1 (rd a q5.1.1.1 (0,0,0,0)).2.1 (IntKind.i64.wrap (IntKind.u64.wrap ((IntKind.u64.wrap (Uq (α:=Int) 8 q5.1.1.2.1 (rd a q5.1.1.1 (0,0,0,0)).2.1 0)) * (IntKind.u64.wrap (Uq (α:=Int) 8 q5.1.1.2.1 (Int.tmod (rd a q5.1.1.1 (0,0,0,0)).2.2.1 8) 0)))))).1 (Ur (α:=Int) 8 q5.1.1.2.1 (rd a q5.1.1.1 (0,0,0,0)).2.1 (IntKind.i64.wrap (IntKind.u64.wrap ((IntKind.u64.wrap (Uq (α:=Int) 8 q5.1.1.2.1 (rd a q5.1.1.1 (0,0,0,0)).2.1 0)) * (IntKind.u64.wrap (Uq (α:=Int) 8 q5.1.1.2.1 (Int.tmod (rd a q5.1.1.1 (0,0,0,0)).2.2.1 8) 0)))))).2.1 (Ur (α:=Int) 8 q5.1.1.2.1 (rd a q5.1.1.1 (0,0,0,0)).2.1 (IntKind.i64.wrap (IntKind.u64.wrap ((IntKind.u64.wrap (Uq (α:=Int) 8 q5.1.1.2.1 (rd a q5.1.1.1 (0,0,0,0)).2.1 0)) * (IntKind.u64.wrap (Uq (α:=Int) 8 q5.1.1.2.1 (Int.tmod (rd a q5.1.1.1 (0,0,0,0)).2.2.1 8) 0)))))).2.2.1 (Ur (α:=Int) 8 q5.1.1.2.1 (rd a q5.1.1.1 (0,0,0,0)).2.1 (IntKind.i64.wrap (IntKind.u64.wrap ((IntKind.u64.wrap (Uq (α:=Int) 8 q5.1.1.2.1 (rd a q5.1.1.1 (0,0,0,0)).2.1 0)) * (IntKind.u64.wrap (Uq (α:=Int) 8 q5.1.1.2.1 (Int.tmod (rd a q5.1.1.1 (0,0,0,0)).2.2.1 8) 0)))))).2.2.2.1 (Ur (α:=Int) 8 q5.1.1.2.1 (rd a q5.1.1.1 (0,0,0,0)).2.1 (IntKind.i64.wrap (IntKind.u64.wrap ((IntKind.u64.wrap (Uq (α:=Int) 8 q5.1.1.2.1 (rd a q5.1.1.1 (0,0,0,0)).2.1 0)) * (IntKind.u64.wrap (Uq (α:=Int) 8 q5.1.1.2.1 (Int.tmod (rd a q5.1.1.1 (0,0,0,0)).2.2.1 8) 0)))))).2.2.2.2.1 (Ur (α:=Int) 8 q5.1.1.2.1 (rd a q5.1.1.1 (0,0,0,0)).2.1 (IntKind.i64.wrap (IntKind.u64.wrap ((IntKind.u64.wrap (Uq (α:=Int) 8 q5.1.1.2.1 (rd a q5.1.1.1 (0,0,0,0)).2.1 0)) * (IntKind.u64.wrap (Uq (α:=Int) 8 q5.1.1.2.1 (Int.tmod (rd a q5.1.1.1 (0,0,0,0)).2.2.1 8) 0)))))).2.2.2.2.2.1 (Ur (α:=Int) 8 q5.1.1.2.1 (rd a q5.1.1.1 (0,0,0,0)).2.1 (IntKind.i64.wrap (IntKind.u64.wrap ((IntKind.u64.wrap (Uq (α:=Int) 8 q5.1.1.2.1 (rd a q5.1.1.1 (0,0,0,0)).2.1 0)) * (IntKind.u64.wrap (Uq (α:=Int) 8 q5.1.1.2.1 (Int.tmod (rd a q5.1.1.1 (0,0,0,0)).2.2.1 8) 0)))))).2.2.2.2.2.2.1 (Ur (α:=Int) 8 q5.1.1.2.1 (rd a q5.1.1.1 (0,0,0,0)).2.1 (IntKind.i64.wrap (IntKind.u64.wrap ((IntKind.u64.wrap (Uq (α:=Int) 8 q5.1.1.2.1 (rd a q5.1.1.1 (0,0,0,0)).2.1 0)) * (IntKind.u64.wrap (Uq (α:=Int) 8 q5.1.1.2.1 (Int.tmod (rd a q5.1.1.1 (0,0,0,0)).2.2.1 8) 0)))))).2.2.2.2.2.2.2 q5.1.1.2.2.1 q5.1.1.2.2.2).bind fun q10 =>
          some ((q10.1.1,rd a q5.1.1.1 (0,0,0,0),true,()),())
         else
          (bif (rd a q5.1.1.1 (0,0,0,0)).1==5 then
           (al8 k (Uq (α:=Int) 8 q5.1.1.2.1 (rd a q5.1.1.1 (0,0,0,0)).2.1 0) (rd a q5.1.1.1 (0,0,0,0)).2.2.2).bind fun TU =>
           (K4 k (IntKind.i64.wrap (q5.1.1.1+1)) (Ur (α:=Int) 8 q5.1.1.2.1 (rd a q5.1.1.1 (0,0,0,0)).2.1 TU.1.1).1 (Ur (α:=Int) 8 q5.1.1.2.1 (rd a q5.1.1.1 (0,0,0,0)).2.1 TU.1.1).2.1 (Ur (α:=Int) 8 q5.1.1.2.1 (rd a q5.1.1.1 (0,0,0,0)).2.1 TU.1.1).2.2.1 (Ur (α:=Int) 8 q5.1.1.2.1 (rd a q5.1.1.1 (0,0,0,0)).2.1 TU.1.1).2.2.2.1 (Ur (α:=Int) 8 q5.1.1.2.1 (rd a q5.1.1.1 (0,0,0,0)).2.1 TU.1.1).2.2.2.2.1 (Ur (α:=Int) 8 q5.1.1.2.1 (rd a q5.1.1.1 (0,0,0,0)).2.1 TU.1.1).2.2.2.2.2.1 (Ur (α:=Int) 8 q5.1.1.2.1 (rd a q5.1.1.1 (0,0,0,0)).2.1 TU.1.1).2.2.2.2.2.2.1 (Ur (α:=Int) 8 q5.1.1.2.1 (rd a q5.1.1.1 (0,0,0,0)).2.1 TU.1.1).2.2.2.2.2.2.2 q5.1.1.2.2.1 q5.1.1.2.2.2).bind fun FE =>
           some ((FE.1.1,rd a q5.1.1.1 (0,0,0,0),true,()),())
          else
           (bif (rd a q5.1.1.1 (0,0,0,0)).1==6 then
            (al9 k (Uq (α:=Int) 8 q5.1.1.2.1 (rd a q5.1.1.1 (0,0,0,0)).2.1 0) (rd a q5.1.1.1 (0,0,0,0)).2.2.2).bind fun YZ =>
            (K4 k (IntKind.i64.wrap (q5.1.1.1+1)) (Ur (α:=Int) 8 q5.1.1.2.1 (rd a q5.1.1.1 (0,0,0,0)).2.1 YZ.1.1).1 (Ur (α:=Int) 8 q5.1.1.2.1 (rd a q5.1.1.1 (0,0,0,0)).2.1 YZ.1.1).2.1 (Ur (α:=Int) 8 q5.1.1.2.1 (rd a q5.1.1.1 (0,0,0,0)).2.1 YZ.1.1).2.2.1 (Ur (α:=Int) 8 q5.1.1.2.1 (rd a q5.1.1.1 (0,0,0,0)).2.1 YZ.1.1).2.2.2.1 (Ur (α:=Int) 8 q5.1.1.2.1 (rd a q5.1.1.1 (0,0,0,0)).2.1 YZ.1.1).2.2.2.2.1 (Ur (α:=Int) 8 q5.1.1.2.1 (rd a q5.1.1.1 (0,0,0,0)).2.1 YZ.1.1).2.2.2.2.2.1 (Ur (α:=Int) 8 q5.1.1.2.1 (rd a q5.1.1.1 (0,0,0,0)).2.1 YZ.1.1).2.2.2.2.2.2.1 (Ur (α:=Int) 8 q5.1.1.2.1 (rd a q5.1.1.1 (0,0,0,0)).2.1 YZ.1.1).2.2.2.2.2.2.2 q5.1.1.2.2.1 q5.1.1.2.2.2).bind fun q14 =>
            some ((q14.1.1,rd a q5.1.1.1 (0,0,0,0),true,()),())
           else
            (bif (rd a q5.1.1.1 (0,0,0,0)).1==7 then
             (bif (Uq (α:=Int) 8 q5.1.1.2.1 (rd a q5.1.1.1 (0,0,0,0)).2.1 0)==0 then
              (K4 k (IntKind.i64.wrap ((IntKind.i64.wrap (q5.1.1.1+1))+(rd a q5.1.1.1 (0,0,0,0)).2.2.2)) q5.1.1.2.1.1 q5.1.1.2.1.2.1 q5.1.1.2.1.2.2.1 q5.1.1.2.1.2.2.2.1 q5.1.1.2.1.2.2.2.2.1 q5.1.1.2.1.2.2.2.2.2.1 q5.1.1.2.1.2.2.2.2.2.2.1 q5.1.1.2.1.2.2.2.2.2.2.2 q5.1.1.2.2.1 q5.1.1.2.2.2).bind fun q15 =>
              some ((q15.1.1,rd a q5.1.1.1 (0,0,0,0),true,()),())
             else
              (K4 k (IntKind.i64.wrap (q5.1.1.1+1)) q5.1.1.2.1.1 q5.1.1.2.1.2.1 q5.1.1.2.1.2.2.1 q5.1.1.2.1.2.2.2.1 q5.1.1.2.1.2.2.2.2.1 q5.1.1.2.1.2.2.2.2.2.1 q5.1.1.2.1.2.2.2.2.2.2.1 q5.1.1.2.1.2.2.2.2.2.2.2 q5.1.1.2.2.1 q5.1.1.2.2.2).bind fun q16 =>
              some ((q16.1.1,rd a q5.1.1.1 (0,0,0,0),true,()),()))
            else
             (bif (rd a q5.1.1.1 (0,0,0,0)).1==8 then
              ap q5.1.1.2.2.1 ([(IntKind.i64.wrap (q5.1.1.1+1),IntKind.i64.wrap (q5.1.1.1+(rd a q5.1.1.1 (0,0,0,0)).2.2.1),IntKind.i64.wrap ((rd a q5.1.1.1 (0,0,0,0)).2.2.2 - 1))]:List o7) 24 fun r17 =>
              (K4 k (IntKind.i64.wrap (q5.1.1.1+1)) q5.1.1.2.1.1 q5.1.1.2.1.2.1 q5.1.1.2.1.2.2.1 q5.1.1.2.1.2.2.2.1 q5.1.1.2.1.2.2.2.2.1 q5.1.1.2.1.2.2.2.2.2.1 q5.1.1.2.1.2.2.2.2.2.2.1 q5.1.1.2.1.2.2.2.2.2.2.2 r17 q5.1.1.2.2.2).bind fun q18 =>
              some ((q18.1.1,rd a q5.1.1.1 (0,0,0,0),true,()),())
             else
              (K4 k (IntKind.i64.wrap (q5.1.1.1+1)) q5.1.1.2.1.1 q5.1.1.2.1.2.1 q5.1.1.2.1.2.2.1 q5.1.1.2.1.2.2.2.1 q5.1.1.2.1.2.2.2.2.1 q5.1.1.2.1.2.2.2.2.2.1 q5.1.1.2.1.2.2.2.2.2.2.1 q5.1.1.2.1.2.2.2.2.2.2.2 q5.1.1.2.2.1 q5.1.1.2.2.2).bind fun q19 =>
              some ((q19.1.1,rd a q5.1.1.1 (0,0,0,0),true,()),()))))))))))))))
def F110:Fn:=⟨[ai3,aam],[ad1,ai7,rB],fun k x=>ajF k x.1 x.2.1⟩
theorem ok110:O 110 F110:=okF (ah ok188 <| ah ok195 <| ah ok196 <| ah ok197 <| ah ok198 aj) [] On Tryz.func110 rfl
section
variable (w:World) {g n c i j:Nat}
theorem M0:Tryz.prog.underlying 32=some (.slice 3) /\ Tryz.prog.underlying 3=some (.int .i64) /\ Tryz.prog.underlying 4=some .bool /\ Tryz.prog.follows .mixedOrders=true /\ (∀ w,(Go.sizeOf 3).run Tryz.prog w=.ok 1 w) /\ Tryz.f308.ntmps=33:=⟨by kernel_rfl,by kernel_rfl,by kernel_rfl,by kernel_rfl,fun w=>by kernel_rfl,rfl⟩
theorem XK {v:Value} (hv:(∃ A n c,v=.slice A n c /\ i <= n /\ n <= c /\ c <= 9223372036854775807)):Calls Tryz.prog 308 #[v,.int .i64 i,.int .i64 i] w fun e w'=>e=.returned v /\ w'=w:=by
 obtain ⟨t24,t3,t4,mixed,z36,hnt⟩:=M0
 have u24:=run_underlying t24;have u3:=run_underlying t3;have u4:=run_underlying t4
 obtain ⟨A,n,c,rfl,hi,hnc,hc63⟩:=hv
 have hi0:(i:Int) <= (n:Int):=by omega
 have hi1:(0:Int) <= (i:Int):=by omega
 cases A <;> (go_enter Tryz.func308,hnt;go_wp2 <;> (go_ret;exact ⟨rfl,rfl⟩))
theorem XL {w' w'':World} (hlt:i<j) (hj:j <= n) (hnc:n <= c) (hc63:c <= 9223372036854775807)
  (hap:∀ ty A,(c≠j -> A=(⟨g,j * 1,none⟩:Addr)) -> (Builtin.append_ #[32,32] ty #[.slice (some ⟨g,0,none⟩) i c,.slice (some A) (n - j) (c - j)]).run Tryz.prog w.drew=.ok (.slice (some ⟨g,0,none⟩) (i+(n - j)) c) w')
  (hcl:∀ ty dc,(Builtin.clear_ #[32] ty #[.slice (some ⟨g,(i+(n - j)) * 1,none⟩) (n - (i+(n - j))) dc]).run Tryz.prog w'=.ok (.tuple #[]) w'') :
  Calls Tryz.prog 308 #[.slice (some ⟨g,0,none⟩) n c,.int .i64 i,.int .i64 j] w fun e w1=>e=.returned (.slice (some ⟨g,0,none⟩) (i+(n - j)) c) /\ w1=w'':=by
 obtain ⟨t24,t3,t4,mixed,z36,hnt⟩:=M0
 have u24:=run_underlying t24;have u3:=run_underlying t3;have u4:=run_underlying t4
 have hi0:(i:Int) <= (n:Int):=by omega
 have hj0:(j:Int) <= (n:Int):=by omega
 have hij:(i:Int) <= (j:Int):=by omega
 have hne:¬ ((i:Int)=(j:Int)):=by omega
 have hic:i <= c:=by omega
 have hjc:j <= c:=by omega
 have hln:i+(n - j) <= n:=by omega
 have hlc:i+(n - j) <= c:=by omega
 have hci:¬ (c=i+(n - j)):=by omega
 obtain ⟨A,hA,hA'⟩:∃ A:Addr,(if c=j then some (⟨g,0,none⟩:Addr) else some ⟨g,j * 1,none⟩)=some A /\ (c≠j -> A=(⟨g,j * 1,none⟩:Addr)):=by
  by_cases h:c=j
  · exact ⟨_,if_pos h,fun q=>absurd h q⟩
  · exact ⟨_,if_neg h,fun _=>rfl⟩
 try simp only [Nat.mul_one] at hA hcl
 go_enter Tryz.func308,hnt
 go_wp2_with fail
 go_region_law_o (refine Gz rfl rfl _ _ (by simp [Act.eval,Act.put]) (by simp [Act.eval,Act.put,hA]) (hap _ _ hA') ?_)
 go_wp2_with (at_builtin;refine Ji rfl rfl _ rfl (hcl _ _) ?_)
 go_ret
 exact ⟨rfl,rfl⟩
end
abbrev ar6:List PT:=iG 3 (.int .i64)
abbrev ar7:List RT:=qV 3 (.int .i64)
def apB (k:Nat) (a:List Int) (i j:Int):Option ES:=Jk 3 (.int .i64) k (a,i,j,())
def F308:Fn:=⟨ar6,ar7,Jk 3 (.int .i64)⟩
def ar8:Env:=tab.env (fun _=>none) (fun _=>0)
theorem ama:aH Tryz.prog ar8:=Kw Rt _ _ (fun f F h=>by cases h)
theorem ok308:O 308 F308:=by
 obtain ⟨i0,z,a1,a2,a3,a4,a5⟩:=(ama.ty 3 ((.int .i64)) (by kernel_rfl)).info
 have b2:Ty.sz ((.int .i64))=1:=rfl
 have hz:z.cells.size=1:=by rw [<- Array.length_toList,a5,gZ,b2]
 obtain ⟨t24,t3,t4,mixed,z36,hnt⟩:=M0
 refine Qu Tryz.func308 rfl (by kernel_rfl) ?_
 rw [b2]
 exact Mr (S:=32) (z:=z) t24 a1 a4 (by rw [a2,b2]) hz (fun v hv=>tT ((.int .i64)) v (by rw [<- a5];exact hv)) (by decide) (fun w i v h=>XK w h) (fun w g n c i j w' w'' h1 h2 h3 h4 h5 h6=>XL w h1 h2 h3 h4 h5 h6)
abbrev aaG:Cut:=⟨[4,5,8],[.box 59 [cI,cI,cI,cI,cI,cI,cI,cI,cI,cI,cI,cI,cI,.own 293 AA,.cell .bool,cI,cI,cI,cI,cI,cI,cI,cI,cI,.own 293 AA,.cell .bool,.own 3 (.int .i64),.cell .bool],.box 127 [cI,cI,cI,cI],cI],[],70,[]⟩
def P7 (k:Nat) (g13:w9 -> Int -> Int -> Int -> Int -> Int -> Option V3) (x:y7) (a b c e f:Int):Option V3 :=
 (bif decide (f≥0) then
  ix x.2.2.2.2.2.2.1 f <|
  (bif (rd x.2.2.2.2.2.2.1 f 0)==b then
   (apB k x.2.2.2.2.2.2.1 f (IntKind.i64.wrap (f+1))).bind fun q5 =>
   some (((w6 x q5.1.1),(a,b,c,e),true,()),())
  else
   g13 x a b c e (IntKind.i64.wrap (f - 1)))
 else
  some ((x,(a,b,c,e),true,()),()))
def aeJ (k:Nat) (g:((Unit)×aiU×(Int×Int×Int×Int×Unit)×Int×Unit) -> Option V3) (d:(Unit)×aiU×(Int×Int×Int×Int×Unit)×Int×Unit):Option V3:=P7 k (fun x a b c e f=>g ((),trJ x,(a,b,c,e,()),f,())) (tvJ d.2.1) d.2.2.1.1 d.2.2.1.2.1 d.2.2.1.2.2.1 d.2.2.1.2.2.2.1 d.2.2.2.1
def P8 (k a:Nat) (x:y7) (b c e f h:Int):Option V3:=iter aaG (aeJ k) a ((),trJ x,(b,c,e,f,()),h,())
theorem V6 (k a x b c e f h):P8 k (a+1) x b c e f h=P7 k (P8 k a) x b c e f h:=Ba _ _ _ _
def amb (k:Nat) (a:aag) (b:y7):Option V3 :=
 (agF k b).bind fun q0 =>
 (al7 k a b).bind fun q1 =>
 (ajF k q1.1.1 b.2.2.2.2.1).bind fun q2 =>
 (bif !q2.1.2.2.1 then
  some ((q0.1.1,(0,0,0,0),false,()),())
 else
  (bif q2.1.2.1.1==11 then
   (aaD k q2.1.1).bind fun q3 =>
   some (((w5 (w4 q0.1.1 q2.1.1) q3.1.1),q2.1.2.1,true,()),())
  else
   (bif q2.1.2.1.1==9 then
    ap q0.1.1.2.2.2.2.2.2.1 ([q2.1.2.1.2.1]:List Int) 8 fun r4 =>
    some (((w6 (w4 q0.1.1 q2.1.1) r4),q2.1.2.1,true,()),())
   else
    (bif q2.1.2.1.1==10 then
     P8 k k (w4 q0.1.1 q2.1.1) q2.1.2.1.1 q2.1.2.1.2.1 q2.1.2.1.2.2.1 q2.1.2.1.2.2.2 (IntKind.i64.wrap ((q0.1.1.2.2.2.2.2.2.1.length:Int) - 1))
    else
     some (((w4 q0.1.1 q2.1.1),q2.1.2.1,true,()),())))))
def F238:Fn:=⟨[V5,EW],[aan,ai7,rB],fun k x=>amb k x.1 x.2.1⟩
theorem ok238:O 238 F238:=okF (ah ok110 <| ah ok305 <| ah ok306 <| ah ok307 <| ah ok308 aj) [] (fun k=>(.loop 13 aaG (aeJ k) (fun g=>.nil) .nil)) Tryz.func238 rfl
def amc (k:Nat) (a:l8) (b c:Int):Option ((oo×Bool×Unit)×Unit) :=
 (ajk k a).bind fun q0 =>
 (ajl k a b).bind fun q1 =>
 (bif !q1.1.1 then
  some ((q0.1.1,false,()),())
 else
  ix a b <|
  (bif (rd a b (0,0)).2 != 0 then
   some ((q0.1.1,false,()),())
  else
   ix q0.1.1 b <|
   some ((upd q0.1.1 b ((rd q0.1.1 b (0,0)).1,IntKind.i64.wrap (c+1)),true,()),())))
def F239:Fn:=⟨[EU,au,au],[adY,rB],fun k (a,b,c,_)=>amc k a b c⟩
theorem ok239:O 239 F239:=okF (ah ok292 <| ah ok309 aj) [] On Tryz.func239 rfl
def amd (k:Nat) (a:l8) (b c:Int):Option ((oo×Bool×Unit)×Unit) :=
 (ajk k a).bind fun q0 =>
 (agB k a b c).bind fun q1 =>
 (bif !q1.1.1 then
  some ((q0.1.1,false,()),())
 else
  ix q0.1.1 b <|
  some ((upd q0.1.1 b ((rd q0.1.1 b (0,0)).1,0),true,()),()))
def F240:Fn:=⟨[EU,au,au],[adY,rB],fun k (a,b,c,_)=>amd k a b c⟩
theorem ok240:O 240 F240:=okF (ah ok292 <| ah ok293 aj) [] On Tryz.func240 rfl
def ame (k:Nat) (a:y7):Option ((w9×Unit)×Unit) :=
 (agF k a).bind fun q0 =>
 (U1 k a.2.2.2.2.1.2.1.1).bind fun q1 =>
 (U1 k a.2.2.2.2.1.2.1.1).bind fun q2 =>
 some (((q0.1.1.1,q0.1.1.2.1,q0.1.1.2.2.1,2,q1.1.1,q2.1.1,[],false),()),())
def F310:Fn:=⟨[EW],[aan],fun k x=>ame k x.1⟩
theorem ok310:O 310 F310:=okF (ah ok109 <| ah ok305 aj) [] On Tryz.func310 rfl
abbrev amf:Cut:=⟨[0,1],[.pin false 0,.pin false 1],[.fK 166 [cI,cI,.own 54 AP,.own 168 u6,.cell .bool,.cell .bool,.cell .bool,.own 59 JQ,.own 3 (.int .i64),.own 4 .bool,.own 142 zm,.own 3 (.int .i64),.own 4 .bool,.own 51 x9],.fK 59 [cI,cI,cI,cI,cI,cI,cI,cI,cI,cI,cI,cI,cI,.own 293 AA,.cell .bool,cI,cI,cI,cI,cI,cI,cI,cI,cI,.own 293 AA,.cell .bool,.own 3 (.int .i64),.cell .bool]],95,[]⟩
def M4 (k:Nat) (a:p8) (b:y7):Option aaj :=
 (abM k a.1.2.2.2.2.2.2.2.2.2 b.1).bind fun q3 =>
 (ame k b).bind fun q4 =>
 ix a.1.2.2.1 q4.1.1.1 <|
 some ((((rd a.1.2.2.1 q4.1.1.1 bg).2.2.2.2.2.length:Int)==0,()),yx ((z9 a.1 q3.1.1),a.2),trJ q4.1.1,())
def amg (k:Nat) (a:p8) (b:y7):Option aaj :=
 (bif b.2.2.2.1==2 then
  (IG k a (0,4,b.1,0,b.2.2.2.2.1.2.1.1,0)).bind fun q0 =>
  some ((true,()),q0.2.1,trJ b,())
 else
  (IG k a (0,3,b.1,0,b.2.2.2.2.1.2.1.1,0)).bind fun q1 =>
  (bif b.2.2.2.1==0 then
   ix (uf q1.2.1).1.2.2.1 b.1 <|
   (bif decide (((rd (uf q1.2.1).1.2.2.1 b.1 bg).2.2.2.2.1.length:Int)>0) then
    (IG k (uf q1.2.1) (0,8,b.1,0,0,0)).bind fun q2 =>
    M4 k (uf q2.2.1) b
   else
    M4 k (uf q1.2.1) b)
  else
   M4 k (uf q1.2.1) b))
def F241:Fn:=⟨[Xn,.fK 59 [cI,cI,cI,cI,cI,cI,cI,cI,cI,cI,cI,cI,cI,.own 293 AA,.cell .bool,cI,cI,cI,cI,cI,cI,cI,cI,cI,.own 293 AA,.cell .bool,.own 3 (.int .i64),.cell .bool]],[rB],fun k x=>amg k (uf x.1) (tvJ x.2.1)⟩
theorem ok241:O 241 F241:=okF (ah ok129 <| ah ok146a <| ah ok310 aj) [] (fun k=>(.join 8 amf (fun d=>M4 k (uf d.1.1) (tvJ d.1.2.1)) .nil)) Tryz.func241 rfl
abbrev ajG:Cut:=⟨[0,1],[.pin false 0,.pin false 1],[.fK 166 [cI,cI,.own 54 AP,.own 168 u6,.cell .bool,.cell .bool,.cell .bool,.own 59 JQ,.own 3 (.int .i64),.own 4 .bool,.own 142 zm,.own 3 (.int .i64),.own 4 .bool,.own 51 x9],.fK 59 [cI,cI,cI,cI,cI,cI,cI,cI,cI,cI,cI,cI,cI,.own 293 AA,.cell .bool,cI,cI,cI,cI,cI,cI,cI,cI,cI,.own 293 AA,.cell .bool,.own 3 (.int .i64),.cell .bool]],92,[]⟩
def GI (k:Nat) (a:p8) (b:y7):Option aaj :=
 (bif b.2.2.2.2.1.2.2.2 then
  (amg k a b).bind fun q7 =>
  some ((q7.1.1,()),q7.2.1,q7.2.2.1,())
 else
  some ((false,()),yx a,trJ b,()))
def amh (k:Nat) (a:p8) (b:y7):Option aaj :=
 ix a.1.2.2.1 b.1 <|
 (amb k (rd a.1.2.2.1 b.1 bg) b).bind fun q0 =>
 (bif !q0.1.2.2.1 then
  some ((false,()),yx a,trJ b,())
 else
  (bif q0.1.2.1.1==9 then
   (S48 k a.1).bind fun q1 =>
   (amc k q1.1.1 q0.1.2.1.2.1 q0.1.1.1).bind fun q2 =>
   (agG k a q2.1.1).bind fun q3 =>
   GI k (uf q3.2.1) q0.1.1
  else
   (bif q0.1.2.1.1==10 then
    (S48 k a.1).bind fun q4 =>
    (amd k q4.1.1 q0.1.2.1.2.1 q0.1.1.1).bind fun q5 =>
    (agG k a q5.1.1).bind fun q6 =>
    GI k (uf q6.2.1) q0.1.1
   else
    GI k a q0.1.1)))
def F151:Fn:=⟨[Xn,aqO],[rB],fun k x=>amh k (uf x.1) (tvJ x.2.1)⟩
theorem ok151:O 151 F151:=okF (ah ok48 <| ah ok61b <| ah ok238 <| ah ok239 <| ah ok240 <| ah ok241 aj) [] (fun k=>(.join 12 ajG (fun d=>GI k (uf d.1.1) (tvJ d.1.2.1)) .nil)) Tryz.func151 rfl
def S81 (k:Nat) (a:p8):Option lq :=
 (S48 k a.1).bind fun q0 =>
 (al3 k a.1.2.2.2.2.2.2.2.1 (a.1.2.2.1.length:Int) q0.1.1).bind fun q1 =>
 (bif a.1.2.2.2.2.2.1 then
  some ((),yx a,())
 else
  (bif !q1.1.2.1 then
   some ((),yx a,())
  else
   ix a.1.2.2.2.2.2.2.2.1 q1.1.1 <|
   (IG k a (0,2,(rd a.1.2.2.2.2.2.2.2.1 q1.1.1 ay).1,0,0,0)).bind fun q2 =>
   (bif (uf q2.2.1).1.2.2.2.2.2.2.1 then
    (al6 k (uf q2.2.1) (rd a.1.2.2.2.2.2.2.2.1 q1.1.1 ay)).bind fun q3 =>
    ix (uf q3.2.1).1.2.2.2.2.2.2.2.1 q1.1.1 <|
    (bif q3.1.1 then
     (S72 k (upd (uf q3.2.1).1.2.2.2.2.2.2.2.1 q1.1.1 (tvJ q3.2.2.1)) q1.1.1 (IntKind.i64.wrap (q1.1.1+1))).bind fun q4 =>
     some ((),yx ((w7 (uf q3.2.1).1 q4.1.1),(uf q3.2.1).2),())
    else
     some ((),yx ((w7 (uf q3.2.1).1 (upd (uf q3.2.1).1.2.2.2.2.2.2.2.1 q1.1.1 (tvJ q3.2.2.1))),(uf q3.2.1).2),()))
   else
    (amh k (uf q2.2.1) (rd a.1.2.2.2.2.2.2.2.1 q1.1.1 ay)).bind fun q5 =>
    ix (uf q5.2.1).1.2.2.2.2.2.2.2.1 q1.1.1 <|
    (bif q5.1.1 then
     (S72 k (upd (uf q5.2.1).1.2.2.2.2.2.2.2.1 q1.1.1 (tvJ q5.2.2.1)) q1.1.1 (IntKind.i64.wrap (q1.1.1+1))).bind fun q6 =>
     some ((),yx ((w7 (uf q5.2.1).1 q6.1.1),(uf q5.2.1).2),())
    else
     some ((),yx ((w7 (uf q5.2.1).1 (upd (uf q5.2.1).1.2.2.2.2.2.2.2.1 q1.1.1 (tvJ q5.2.2.1))),(uf q5.2.1).2),())))))
def F81:Fn:=⟨[Xn],[],fun k x=>S81 k (uf x.1)⟩
theorem ok81:O 81 F81:=okF (ah ok48 <| ah ok72 <| ah ok146a <| ah ok150 <| ah ok151 <| ah ok152 aj) [] On Tryz.func81 rfl
def S33 (k:Nat) (a:adR):Option ((LK×(List (PN Int 6))×Unit)×Unit) :=
 (S56 k a).bind fun q0 =>
 (bif q0.1.1.2.2.2.2.1 then
  (bif !q0.1.1.2.2.2.2.2.1 then
   (S78 k (q0.1.1,([]:List (PN Int 6)))).bind fun q1 =>
   (S79 k (uf q1.2.1)).bind fun q2 =>
   (S80 k (uf q2.2.1)).bind fun q3 =>
   (S81 k (uf q3.2.1)).bind fun q4 =>
   some (((w6 (w0 (uf q4.2.1).1 (IntKind.i64.wrap ((uf q4.2.1).1.1+1))) false),(uf q4.2.1).2,()),())
  else
   some (((w6 (w0 q0.1.1 (IntKind.i64.wrap (q0.1.1.1+1))) false),([]:List (PN Int 6)),()),()))
 else
  some (((w6 (w0 q0.1.1 (IntKind.i64.wrap (q0.1.1.1+1))) false),([]:List (PN Int 6)),()),()))
def F33:Fn:=⟨[ai4],[.val ⟨true,aiV,true⟩,aoi],fun k x=>S33 k x.1⟩
theorem ok33:O 33 F33:=okF (ah ok56 <| ah ok78 <| ah ok79 <| ah ok80 <| ah ok81 aj) [(8,2)] On Tryz.func33 rfl
def S55 (k:Nat) (x:aiZ):Option ((vo×Unit)×Unit) :=
 some ((x,()),())
def F55:Fn:=⟨[adZ],[.val ⟨true,zm,false⟩],fun k x=>S55 k x.1⟩
theorem ok55:O 55 F55:=okF aj [] On Tryz.func55 rfl
abbrev ajH:Cut:=⟨[1,2,3,4],[.box 38 [.cell j5,.cell yc,.cell JY],.box 64 [.nil,.nil,.nil],.box 64 [.cell j5,.cell yc,.own 140 zm],cI],[],32,[]⟩
def aeK (k:Nat) (g3:(List Int) -> (List Bool) -> (List vo) -> (List Int) -> (List Bool) -> (List vo) -> Int -> Option ((JU×Unit)×Unit)) (a:List Int) (b:List Bool) (c:List vo) (x:List Int) (e:List Bool) (f:List vo) (h:Int):Option ((JU×Unit)×Unit) :=
 (bif decide (h<(c.length:Int)) then
  ix c h <|
  (S55 k (rd c h bf)).bind fun q0 =>
  ap f ([q0.1.1]:List vo) 128 fun r1 =>
  g3 a b c x e r1 (IntKind.i64.wrap (h+1))
 else
  some ((((x,e),f),()),()))
def aot (k:Nat):Xx (((Unit)×UZ×(Unit×Unit×Unit×Unit)×UZ×Int×Unit) -> Option ((JU×Unit)×Unit)):=eu (dw (d9 (dh (dh (dh dx))) (d9 (dw (dw (dw dx))) (d9 (dh (dh (dh dx))) (dh dx))))) (aeK k)
def V7 (k a:Nat) (b:List Int) (c:List Bool) (e:List vo) (x:List Int) (f:List Bool) (h:List vo) (i:Int):Option ((JU×Unit)×Unit):=iter ajH (aot k) a ((),(b,c,e,()),((),(),(),()),(x,f,h,()),i,())
theorem aeL (k a b c e x f h i):V7 k (a+1) b c e x f h i=aeK k (V7 k a) b c e x f h i:=Ba _ _ _ _
def S22 (k:Nat) (a:adV):Option ((JU×Unit)×Unit) :=
 V7 k k a.1.1 a.1.2 a.2 a.1.1 a.1.2 ([]:List vo) 0
def F22:Fn:=⟨[apm],[.val ⟨true,(.pair JX (.sl 140 zm)),false⟩],fun k x=>S22 k x.1⟩
theorem ok22:O 22 F22:=okF (ah ok55 aj) [(12,2)] (fun k=>(.loop 3 ajH (aot k) (fun g=>.nil) .nil)) Tryz.func22 rfl
def S26 (k:Nat) (a:adR):Option ((LK×Unit)×Unit) :=
 (S22 k a.2.2.2.2.2.2.2.2.1).bind fun q0 =>
 some (((w8 a q0.1.1),()),())
def F26:Fn:=⟨[ai4],[.val ⟨true,aiY,false⟩],fun k x=>S26 k x.1⟩
theorem ok26:O 26 F26:=okF (ah ok22 aj) [] On Tryz.func26 rfl
abbrev aeM:Cut:=⟨[0,1,5],[.cell uz,.cell uz,cI],[],26,[]⟩
def XM (k:Nat) (g4:(List ko) -> (List ko) -> Int -> Option jv) (a b:List ko) (c:Int):Option jv :=
 (bif decide (c<(a.length:Int)) then
  ix a c <|
  ix b c <|
  (bif !(fC NQ (rd a c (0,0,0,0)) (rd b c (0,0,0,0))) then
   some ((false,()),())
  else
   g4 a b (IntKind.i64.wrap (c+1)))
 else
  some ((true,()),()))
def ajI (k:Nat):Xx (((Unit)×(List ko)×(List ko)×Int×Unit) -> Option jv):=eu (dw (dh (dh (dh dx)))) (XM k)
def XO (k a:Nat) (b c:List ko) (e:Int):Option jv:=iter aeM (ajI k) a ((),b,c,e,())
theorem aaH (k a b c e):XO k (a+1) b c e=XM k (XO k a) b c e:=Ba _ _ _ _
def agH (k:Nat) (a b:List ko):Option jv :=
 (bif (a.length:Int) != (b.length:Int) then
  some ((false,()),())
 else
  XO k k a b 0)
def F226:Fn:=⟨[ai3,ai3],[rB],fun k x=>agH k x.1 x.2.1⟩
theorem ok226:O 226 F226:=okF aj [] (fun k=>(.loop 4 aeM (ajI k) (fun g=>.nil) .nil)) Tryz.func226 rfl
def ami (k:Nat) (a b:aag):Option jv :=
 (bif a.1==b.1 then
  (bif a.2.1==b.2.1 then
   (bif a.2.2.1==b.2.2.1 then
    (agH k a.2.2.2.1 b.2.2.2.1).bind fun q0 =>
    (bif q0.1.1 then
     (agH k a.2.2.2.2.1 b.2.2.2.2.1).bind fun q1 =>
     (bif q1.1.1 then
      (agH k a.2.2.2.2.2 b.2.2.2.2.2).bind fun q2 =>
      some ((q2.1.1,()),())
     else
      some ((false,()),()))
    else
     some ((false,()),()))
   else
    some ((false,()),()))
  else
   some ((false,()),()))
 else
  some ((false,()),()))
def F136:Fn:=⟨[V5,V5],[rB],fun k x=>ami k x.1 x.2.1⟩
theorem ok136:O 136 F136:=okF (ah ok226 aj) [] On Tryz.func136 rfl
abbrev ajJ:Cut:=⟨[0,1,5],[.cell (.sl 54 AP),.cell (.sl 54 AP),cI],[],27,[]⟩
def aeN (k:Nat) (g4:(List I7) -> (List I7) -> Int -> Option jv) (a b:List I7) (c:Int):Option jv :=
 (bif decide (c<(a.length:Int)) then
  ix a c <|
  ix b c <|
  (ami k (rd a c bg) (rd b c bg)).bind fun q0 =>
  (bif !q0.1.1 then
   some ((false,()),())
  else
   g4 a b (IntKind.i64.wrap (c+1)))
 else
  some ((true,()),()))
def aou (k:Nat):Xx (((Unit)×(List I7)×(List I7)×Int×Unit) -> Option jv):=eu (dw (dh (dh (dh dx)))) (aeN k)
def aeO (k a:Nat) (b c:List I7) (e:Int):Option jv:=iter ajJ (aou k) a ((),b,c,e,())
theorem aeP (k a b c e):aeO k (a+1) b c e=aeN k (aeO k a) b c e:=Ba _ _ _ _
def S66 (k:Nat) (a b:List I7):Option jv :=
 (bif (a.length:Int) != (b.length:Int) then
  some ((false,()),())
 else
  aeO k k a b 0)
def F66:Fn:=⟨[aoj,aoj],[rB],fun k x=>S66 k x.1 x.2.1⟩
theorem ok66:O 66 F66:=okF (ah ok136 aj) [] (fun k=>(.loop 4 ajJ (aou k) (fun g=>.nil) .nil)) Tryz.func66 rfl
abbrev ajK:Cut:=⟨[0,1,5],[.cell (.sl 168 u6),.cell (.sl 168 u6),cI],[],26,[]⟩
def aeQ (k:Nat) (g4:(List (PN Int 5)) -> (List (PN Int 5)) -> Int -> Option jv) (a b:List (PN Int 5)) (c:Int):Option jv :=
 (bif decide (c<(a.length:Int)) then
  ix a c <|
  ix b c <|
  (bif !(fC u6 (rd a c (Qn (α:=Int) 5 0)) (rd b c (Qn (α:=Int) 5 0))) then
   some ((false,()),())
  else
   g4 a b (IntKind.i64.wrap (c+1)))
 else
  some ((true,()),()))
def aov (k:Nat):Xx (((Unit)×(List (PN Int 5))×(List (PN Int 5))×Int×Unit) -> Option jv):=eu (dw (dh (dh (dh dx)))) (aeQ k)
def aeR (k a:Nat) (b c:List (PN Int 5)) (e:Int):Option jv:=iter ajK (aov k) a ((),b,c,e,())
theorem aeS (k a b c e):aeR k (a+1) b c e=aeQ k (aeR k a) b c e:=Ba _ _ _ _
def S67 (k:Nat) (a b:List (PN Int 5)):Option jv :=
 (bif (a.length:Int) != (b.length:Int) then
  some ((false,()),())
 else
  aeR k k a b 0)
def F67:Fn:=⟨[aoh,aoh],[rB],fun k x=>S67 k x.1 x.2.1⟩
theorem ok67:O 67 F67:=okF aj [] (fun k=>(.loop 4 ajK (aov k) (fun g=>.nil) .nil)) Tryz.func67 rfl
abbrev aeT:Cut:=⟨[2,3,5],[.box 57 [cI,cI,cI,cI,cI,cI,cI,cI,cI,.cell (.sl 293 AA),.cell .bool],.box 57 [cI,cI,cI,cI,cI,cI,cI,cI,cI,.cell (.sl 293 AA),.cell .bool],cI],[],52,[]⟩
def XP (k:Nat) (g4:Int -> Int -> Int -> Int -> Int -> Int -> Int -> Int -> Int -> (List o7) -> Bool -> Int -> Int -> Int -> Int -> Int -> Int -> Int -> Int -> Int -> (List o7) -> Bool -> Int -> Option jv) (a b c e f h i l m:Int) (n:List o7) (o:Bool) (p s t u v w y z A:Int) (B:List o7) (C:Bool) (D:Int):Option jv :=
 (bif decide (D<(n.length:Int)) then
  ix n D <|
  ix B D <|
  (bif !(fC AA (rd n D (0,0,0)) (rd B D (0,0,0))) then
   some ((false,()),())
  else
   g4 a b c e f h i l m n o p s t u v w y z A B C (IntKind.i64.wrap (D+1)))
 else
  some ((true,()),()))
def ajL (k:Nat):Xx (((Unit)×aiX×aiX×Int×Unit) -> Option jv):=eu (dw (d9 (dh (dh (dh (dh (dh (dh (dh (dh (dh (dh (dh dx))))))))))) (d9 (dh (dh (dh (dh (dh (dh (dh (dh (dh (dh (dh dx))))))))))) (dh dx)))) (XP k)
def M5 (k a:Nat) (b c e f h i l m n:Int) (o:List o7) (p:Bool) (s t u v w y z A B:Int) (C:List o7) (D:Bool) (G:Int):Option jv:=iter aeT (ajL k) a ((),(b,c,e,f,h,i,l,m,n,o,p,()),(s,t,u,v,w,y,z,A,B,C,D,()),G,())
theorem aaI (k a b c e f h i l m n o p s t u v w y z A B C D G):M5 k (a+1) b c e f h i l m n o p s t u v w y z A B C D G=XP k (M5 k a) b c e f h i l m n o p s t u v w y z A B C D G:=Ba _ _ _ _
def ajM (k:Nat) (a b:adU):Option jv :=
 (bif a.1 != b.1 then
  some ((false,()),())
 else
  (bif !(fC (Am 8 (.int .i64)) a.2.1 b.2.1) then
   some ((false,()),())
  else
   (bif !(a.2.2.2==b.2.2.2) then
    some ((false,()),())
   else
    (bif (a.2.2.1.length:Int) != (b.2.2.1.length:Int) then
     some ((false,()),())
    else
     M5 k k a.1 a.2.1.1 a.2.1.2.1 a.2.1.2.2.1 a.2.1.2.2.2.1 a.2.1.2.2.2.2.1 a.2.1.2.2.2.2.2.1 a.2.1.2.2.2.2.2.2.1 a.2.1.2.2.2.2.2.2.2 a.2.2.1 a.2.2.2 b.1 b.2.1.1 b.2.1.2.1 b.2.1.2.2.1 b.2.1.2.2.2.1 b.2.1.2.2.2.2.1 b.2.1.2.2.2.2.2.1 b.2.1.2.2.2.2.2.2.1 b.2.1.2.2.2.2.2.2.2 b.2.2.1 b.2.2.2 0))))
def F227:Fn:=⟨[aam,aam],[rB],fun k x=>ajM k x.1 x.2.1⟩
theorem ok227:O 227 F227:=okF aj [] (fun k=>(.loop 4 aeT (ajL k) (fun g=>.nil) .nil)) Tryz.func227 rfl
abbrev aeU:Cut:=⟨[0,1,5],[.cell j5,.cell j5,cI],[],26,[]⟩
def XQ (k:Nat) (g4:(List Int) -> (List Int) -> Int -> Option jv) (a b:List Int) (c:Int):Option jv :=
 (bif decide (c<(a.length:Int)) then
  ix a c <|
  ix b c <|
  (bif (rd a c 0) != (rd b c 0) then
   some ((false,()),())
  else
   g4 a b (IntKind.i64.wrap (c+1)))
 else
  some ((true,()),()))
def ajN (k:Nat):Xx (((Unit)×(List Int)×(List Int)×Int×Unit) -> Option jv):=eu (dw (dh (dh (dh dx)))) (XQ k)
def M6 (k a:Nat) (b c:List Int) (e:Int):Option jv:=iter aeU (ajN k) a ((),b,c,e,())
theorem aaJ (k a b c e):M6 k (a+1) b c e=XQ k (M6 k a) b c e:=Ba _ _ _ _
def ajO (k:Nat) (a b:List Int):Option jv :=
 (bif (a.length:Int) != (b.length:Int) then
  some ((false,()),())
 else
  M6 k k a b 0)
def F140:Fn:=⟨[adX,adX],[rB],fun k x=>ajO k x.1 x.2.1⟩
theorem ok140:O 140 F140:=okF aj [] (fun k=>(.loop 4 aeU (ajN k) (fun g=>.nil) .nil)) Tryz.func140 rfl
def amj (k:Nat) (a b:y7):Option jv :=
 (bif a.1==b.1 then
  (bif a.2.1==b.2.1 then
   (bif a.2.2.1==b.2.2.1 then
    (bif a.2.2.2.1==b.2.2.2.1 then
     (bif a.2.2.2.2.2.2.2==b.2.2.2.2.2.2.2 then
      (ajM k a.2.2.2.2.1 b.2.2.2.2.1).bind fun q0 =>
      (bif q0.1.1 then
       (ajM k a.2.2.2.2.2.1 b.2.2.2.2.2.1).bind fun q1 =>
       (bif q1.1.1 then
        (ajO k a.2.2.2.2.2.2.1 b.2.2.2.2.2.2.1).bind fun q2 =>
        some ((q2.1.1,()),())
       else
        some ((false,()),()))
      else
       some ((false,()),()))
     else
      some ((false,()),()))
    else
     some ((false,()),()))
   else
    some ((false,()),()))
  else
   some ((false,()),()))
 else
  some ((false,()),()))
def F137:Fn:=⟨[EW,EW],[rB],fun k x=>amj k x.1 x.2.1⟩
theorem ok137:O 137 F137:=okF (ah ok140 <| ah ok227 aj) [] On Tryz.func137 rfl
abbrev ajP:Cut:=⟨[0,1,5],[.cell CX,.cell CX,cI],[],27,[]⟩
def aeV (k:Nat) (g4:(List w9) -> (List w9) -> Int -> Option jv) (a b:List w9) (c:Int):Option jv :=
 (bif decide (c<(a.length:Int)) then
  ix a c <|
  ix b c <|
  (amj k (rd a c ay) (rd b c ay)).bind fun q0 =>
  (bif !q0.1.1 then
   some ((false,()),())
  else
   g4 a b (IntKind.i64.wrap (c+1)))
 else
  some ((true,()),()))
def aow (k:Nat):Xx (((Unit)×(List w9)×(List w9)×Int×Unit) -> Option jv):=eu (dw (dh (dh (dh dx)))) (aeV k)
def V8 (k a:Nat) (b c:List w9) (e:Int):Option jv:=iter ajP (aow k) a ((),b,c,e,())
theorem aeW (k a b c e):V8 k (a+1) b c e=aeV k (V8 k a) b c e:=Ba _ _ _ _
def S68 (k:Nat) (a b:List w9):Option jv :=
 (bif (a.length:Int) != (b.length:Int) then
  some ((false,()),())
 else
  V8 k k a b 0)
def F68:Fn:=⟨[ai2,ai2],[rB],fun k x=>S68 k x.1 x.2.1⟩
theorem ok68:O 68 F68:=okF (ah ok137 aj) [] (fun k=>(.loop 4 ajP (aow k) (fun g=>.nil) .nil)) Tryz.func68 rfl
abbrev aeX:Cut:=⟨[2,3,6],[.box 61 [.cell j5,.cell yc],.box 61 [.cell j5,.cell yc],cI],[],59,[]⟩
def XR (k:Nat) (g9:ai0) (a:List Int) (b:List Bool) (c:List Int) (e:List Bool) (f:Int):Option jv :=
 (bif decide (f<(b.length:Int)) then
  ix b f <|
  ix e f <|
  (bif !((rd b f false)==(rd e f false)) then
   some ((false,()),())
  else
   g9 a b c e (IntKind.i64.wrap (f+1)))
 else
  some ((true,()),()))
def ajQ (k:Nat):Xx (ai1):=eu (dw (d9 (dh (dh dx)) (d9 (dh (dh dx)) (dh dx)))) (XR k)
def M7 (k a:Nat) (b:List Int) (c:List Bool) (e:List Int) (f:List Bool) (h:Int):Option jv:=iter aeX (ajQ k) a ((),(b,c,()),(e,f,()),h,())
theorem aaK (k a b c e f h):M7 k (a+1) b c e f h=XR k (M7 k a) b c e f h:=Ba _ _ _ _
abbrev aeY:Cut:=⟨[2,3,5],[.box 61 [.cell j5,.cell yc],.box 61 [.cell j5,.cell yc],cI],[],59,[]⟩
def XT (k:Nat) (g4:ai0) (a:List Int) (b:List Bool) (c:List Int) (e:List Bool) (f:Int):Option jv :=
 (bif decide (f<(a.length:Int)) then
  ix a f <|
  ix c f <|
  (bif (rd a f 0) != (rd c f 0) then
   some ((false,()),())
  else
   g4 a b c e (IntKind.i64.wrap (f+1)))
 else
  M7 k k a b c e 0)
def ajR (k:Nat):Xx (ai1):=eu (dw (d9 (dh (dh dx)) (d9 (dh (dh dx)) (dh dx)))) (XT k)
def M8 (k a:Nat) (b:List Int) (c:List Bool) (e:List Int) (f:List Bool) (h:Int):Option jv:=iter aeY (ajR k) a ((),(b,c,()),(e,f,()),h,())
theorem aaL (k a b c e f h):M8 k (a+1) b c e f h=XT k (M8 k a) b c e f h:=Ba _ _ _ _
def amk (k:Nat) (a b:aak):Option jv :=
 (bif (a.1.length:Int) != (b.1.length:Int) then
  some ((false,()),())
 else
  (bif (a.2.length:Int) != (b.2.length:Int) then
   some ((false,()),())
  else
   M8 k k a.1 a.2 b.1 b.2 0))
def F138:Fn:=⟨[QU,QU],[rB],fun k x=>amk k x.1 x.2.1⟩
theorem ok138:O 138 F138:=okF aj [] (fun k=>(.loop 9 aeX (ajQ k) (fun g=>.nil) (.loop 4 aeY (ajR k) (fun g=>.nil) .nil))) Tryz.func138 rfl
abbrev aeZ:Cut:=⟨[2,3,6],[.box 135 [.cell NR,.cell j5],.box 135 [.cell NR,.cell j5],cI],[],59,[]⟩
def XU (k:Nat) (g9:(List Int) -> (List Int) -> (List Int) -> (List Int) -> Int -> Option jv) (a b c e:List Int) (f:Int):Option jv :=
 (bif decide (f<(b.length:Int)) then
  ix b f <|
  ix e f <|
  (bif (rd b f 0) != (rd e f 0) then
   some ((false,()),())
  else
   g9 a b c e (IntKind.i64.wrap (f+1)))
 else
  some ((true,()),()))
def ajS (k:Nat):Xx (((Unit)×adS×adS×Int×Unit) -> Option jv):=eu (dw (d9 (dh (dh dx)) (d9 (dh (dh dx)) (dh dx)))) (XU k)
def M9 (k a:Nat) (b c e f:List Int) (h:Int):Option jv:=iter aeZ (ajS k) a ((),(b,c,()),(e,f,()),h,())
theorem aaM (k a b c e f h):M9 k (a+1) b c e f h=XU k (M9 k a) b c e f h:=Ba _ _ _ _
abbrev ae0:Cut:=⟨[2,3,5],[.box 135 [.cell NR,.cell j5],.box 135 [.cell NR,.cell j5],cI],[],59,[]⟩
def XV (k:Nat) (g4:(List Int) -> (List Int) -> (List Int) -> (List Int) -> Int -> Option jv) (a b c e:List Int) (f:Int):Option jv :=
 (bif decide (f<(a.length:Int)) then
  ix a f <|
  ix c f <|
  (bif (rd a f 0) != (rd c f 0) then
   some ((false,()),())
  else
   g4 a b c e (IntKind.i64.wrap (f+1)))
 else
  M9 k k a b c e 0)
def ajT (k:Nat):Xx (((Unit)×adS×adS×Int×Unit) -> Option jv):=eu (dw (d9 (dh (dh dx)) (d9 (dh (dh dx)) (dh dx)))) (XV k)
def MB (k a:Nat) (b c e f:List Int) (h:Int):Option jv:=iter ae0 (ajT k) a ((),(b,c,()),(e,f,()),h,())
theorem aaN (k a b c e f h):MB k (a+1) b c e f h=XV k (MB k a) b c e f h:=Ba _ _ _ _
def aml (k:Nat) (a b:(List Int)×List Int):Option jv :=
 (bif (a.1.length:Int) != (b.1.length:Int) then
  some ((false,()),())
 else
  (bif (a.2.length:Int) != (b.2.length:Int) then
   some ((false,()),())
  else
   MB k k a.1 a.2 b.1 b.2 0))
def F228:Fn:=⟨[apl,apl],[rB],fun k x=>aml k x.1 x.2.1⟩
theorem ok228:O 228 F228:=okF aj [] (fun k=>(.loop 9 aeZ (ajS k) (fun g=>.nil) (.loop 4 ae0 (ajT k) (fun g=>.nil) .nil))) Tryz.func228 rfl
abbrev ae1:Cut:=⟨[0,1,5],[.cell JV,.cell JV,cI],[],26,[]⟩
def XW (k:Nat) (g4:oo -> oo -> Int -> Option jv) (a b:l8) (c:Int):Option jv :=
 (bif decide (c<(a.length:Int)) then
  ix a c <|
  ix b c <|
  (bif !(fC aal (rd a c (0,0)) (rd b c (0,0))) then
   some ((false,()),())
  else
   g4 a b (IntKind.i64.wrap (c+1)))
 else
  some ((true,()),()))
def ajU (k:Nat):Xx (((Unit)×oo×oo×Int×Unit) -> Option jv):=eu (dw (dh (dh (dh dx)))) (XW k)
def IV (k a:Nat) (b c:l8) (e:Int):Option jv:=iter ae1 (ajU k) a ((),b,c,e,())
theorem aaO (k a b c e):IV k (a+1) b c e=XW k (IV k a) b c e:=Ba _ _ _ _
def apC (k:Nat) (a b:l8):Option jv :=
 (bif (a.length:Int) != (b.length:Int) then
  some ((false,()),())
 else
  IV k k a b 0)
def F290:Fn:=⟨[adW,adW],[rB],fun k x=>apC k x.1 x.2.1⟩
theorem ok290:O 290 F290:=okF aj [] (fun k=>(.loop 4 ae1 (ajU k) (fun g=>.nil) .nil)) Tryz.func290 rfl
def amm (k:Nat) (a b:Int×List (Int×Int)):Option jv :=
 (bif a.1==b.1 then
  (apC k a.2 b.2).bind fun q0 =>
  some ((q0.1.1,()),())
 else
  some ((false,()),()))
def F229:Fn:=⟨[alK,alK],[rB],fun k x=>amm k x.1 x.2.1⟩
theorem ok229:O 229 F229:=okF (ah ok290 aj) [] On Tryz.func229 rfl
def amn (k:Nat) (a b:aiZ):Option jv :=
 (bif a.1==b.1 then
  (bif fC BG a.2.1 b.2.1 then
   (bif fC BG a.2.2.1 b.2.2.1 then
    (bif a.2.2.2.2.2==b.2.2.2.2.2 then
     (aml k a.2.2.2.1 b.2.2.2.1).bind fun q0 =>
     (bif q0.1.1 then
      (amm k a.2.2.2.2.1 b.2.2.2.2.1).bind fun q1 =>
      some ((q1.1.1,()),())
     else
      some ((false,()),()))
    else
     some ((false,()),()))
   else
    some ((false,()),()))
  else
   some ((false,()),()))
 else
  some ((false,()),()))
def F139:Fn:=⟨[adZ,adZ],[rB],fun k x=>amn k x.1 x.2.1⟩
theorem ok139:O 139 F139:=okF (ah ok228 <| ah ok229 aj) [] On Tryz.func139 rfl
abbrev ajV:Cut:=⟨[2,3,5],[.box 64 [.cell j5,.cell yc,.cell (.sl 140 zm)],.box 64 [.cell j5,.cell yc,.cell (.sl 140 zm)],cI],[],40,[]⟩
def ae2 (k:Nat) (g4:(List Int) -> (List Bool) -> (List vo) -> (List Int) -> (List Bool) -> (List vo) -> Int -> Option jv) (a:List Int) (b:List Bool) (c:List vo) (e:List Int) (f:List Bool) (h:List vo) (i:Int):Option jv :=
 (bif decide (i<(c.length:Int)) then
  ix c i <|
  ix h i <|
  (amn k (rd c i bf) (rd h i bf)).bind fun q1 =>
  (bif !q1.1.1 then
   some ((false,()),())
  else
   g4 a b c e f h (IntKind.i64.wrap (i+1)))
 else
  some ((true,()),()))
def aox (k:Nat):Xx (((Unit)×UZ×UZ×Int×Unit) -> Option jv):=eu (dw (d9 (dh (dh (dh dx))) (d9 (dh (dh (dh dx))) (dh dx)))) (ae2 k)
def V9 (k a:Nat) (b:List Int) (c:List Bool) (e:List vo) (f:List Int) (h:List Bool) (i:List vo) (l:Int):Option jv:=iter ajV (aox k) a ((),(b,c,e,()),(f,h,i,()),l,())
theorem ae3 (k a b c e f h i l):V9 k (a+1) b c e f h i l=ae2 k (V9 k a) b c e f h i l:=Ba _ _ _ _
def S69 (k:Nat) (a b:adV):Option jv :=
 (bif (a.2.length:Int) != (b.2.length:Int) then
  some ((false,()),())
 else
  (amk k a.1 b.1).bind fun q0 =>
  (bif !q0.1.1 then
   some ((false,()),())
  else
   V9 k k a.1.1 a.1.2 a.2 b.1.1 b.1.2 b.2 0))
def F69:Fn:=⟨[aqP,aqP],[rB],fun k x=>S69 k x.1 x.2.1⟩
theorem ok69:O 69 F69:=okF (ah ok138 <| ah ok139 aj) [] (fun k=>(.loop 4 ajV (aox k) (fun g=>.nil) .nil)) Tryz.func69 rfl
abbrev ajW:Cut:=⟨[2,3,5],[.box 65 [.cell j5,.cell yc],.box 65 [.cell j5,.cell yc],cI],[],39,[]⟩
def ae4 (k:Nat) (g4:ai0) (a:List Int) (b:List Bool) (c:List Int) (e:List Bool) (f:Int):Option jv :=
 (bif decide (f<(b.length:Int)) then
  ix b f <|
  ix e f <|
  (bif !((rd b f false)==(rd e f false)) then
   some ((false,()),())
  else
   g4 a b c e (IntKind.i64.wrap (f+1)))
 else
  some ((true,()),()))
def aoy (k:Nat):Xx (ai1):=eu (dw (d9 (dh (dh dx)) (d9 (dh (dh dx)) (dh dx)))) (ae4 k)
def Va (k a:Nat) (b:List Int) (c:List Bool) (e:List Int) (f:List Bool) (h:Int):Option jv:=iter ajW (aoy k) a ((),(b,c,()),(e,f,()),h,())
theorem ae5 (k a b c e f h):Va k (a+1) b c e f h=ae4 k (Va k a) b c e f h:=Ba _ _ _ _
def S70 (k:Nat) (a b:aak):Option jv :=
 (bif (a.2.length:Int) != (b.2.length:Int) then
  some ((false,()),())
 else
  (ajO k a.1 b.1).bind fun q0 =>
  (bif !q0.1.1 then
   some ((false,()),())
  else
   Va k k a.1 a.2 b.1 b.2 0))
def F70:Fn:=⟨[QU,QU],[rB],fun k x=>S70 k x.1 x.2.1⟩
theorem ok70:O 70 F70:=okF (ah ok140 aj) [] (fun k=>(.loop 4 ajW (aoy k) (fun g=>.nil) .nil)) Tryz.func70 rfl
def S25 (k:Nat) (a b:adR):Option jv :=
 (bif a.1==b.1 then
  (bif a.2.1==b.2.1 then
   (bif a.2.2.2.2.1==b.2.2.2.2.1 then
    (bif a.2.2.2.2.2.1==b.2.2.2.2.2.1 then
     (bif a.2.2.2.2.2.2.1==b.2.2.2.2.2.2.1 then
      (S66 k a.2.2.1 b.2.2.1).bind fun q0 =>
      (bif q0.1.1 then
       (S67 k a.2.2.2.1 b.2.2.2.1).bind fun q1 =>
       (bif q1.1.1 then
        (S68 k a.2.2.2.2.2.2.2.1 b.2.2.2.2.2.2.2.1).bind fun q2 =>
        (bif q2.1.1 then
         (S69 k a.2.2.2.2.2.2.2.2.1 b.2.2.2.2.2.2.2.2.1).bind fun q3 =>
         (bif q3.1.1 then
          (S70 k a.2.2.2.2.2.2.2.2.2 b.2.2.2.2.2.2.2.2.2).bind fun q4 =>
          some ((q4.1.1,()),())
         else
          some ((false,()),()))
        else
         some ((false,()),()))
       else
        some ((false,()),()))
      else
       some ((false,()),()))
     else
      some ((false,()),()))
    else
     some ((false,()),()))
   else
    some ((false,()),()))
  else
   some ((false,()),()))
 else
  some ((false,()),()))
def F25:Fn:=⟨[.val ⟨true,aiY,false⟩,.val ⟨true,aiY,false⟩],[rB],fun k x=>S25 k x.1 x.2.1⟩
theorem ok25:O 25 F25:=okF (ah ok66 <| ah ok67 <| ah ok68 <| ah ok69 <| ah ok70 aj) [] On Tryz.func25 rfl
end
end Go.Proofs.YtjjjbcmjmkcedaaGreat.Ab
