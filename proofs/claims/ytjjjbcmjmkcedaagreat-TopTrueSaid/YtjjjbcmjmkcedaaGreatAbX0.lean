import Derived.Test.YtjjjbcmjmkcedaaGreatPbI
import Derived.Lib.Overlaps
import Derived.Shelf.RegionOpenPlain
import Derived.Test.YtjjjbcmjmkcedaaGreatPbC
/- Contracts, printed by this session's own program gen.py. -/
set_option linter.unusedVariables false
set_option linter.unusedSimpArgs false
set_option maxRecDepth 100000
namespace Go.Proofs.YtjjjbcmjmkcedaaGreat.Ab
open Go.RowKit
abbrev cI:PV:=.cell (.int .i64)
abbrev j4:Type:=Int×Int×Int×(List (Int×Int×Int×Int))×(List (Int×Int×Int×Int))×List (Int×Int×Int×Int)
abbrev BL:Ty:=.pair (.int .i64) (.pair (.int .i64) (.pair (.int .i64) (.pair (.sl 127 (.pair (.int .i64) (.pair (.int .i64) (.pair (.int .i64) (.int .i64))))) (.pair (.sl 127 (.pair (.int .i64) (.pair (.int .i64) (.pair (.int .i64) (.int .i64))))) (.sl 127 (.pair (.int .i64) (.pair (.int .i64) (.pair (.int .i64) (.int .i64)))))))))
abbrev G9:Type:=Int×Int×(List j4)×(List (PN Int 5))×Bool×Bool×Bool×(List (Int×Int×Int×Int×(Int×(PN Int 8)×(List (Int×Int×Int))×Bool)×(Int×(PN Int 8)×(List (Int×Int×Int))×Bool)×(List Int)×Bool))×(((List Int)×List Bool)×List (Int×(Int×Int)×(Int×Int)×((List Int)×List Int)×(Int×List (Int×Int))×Int))×(List Int)×List Bool
abbrev u6:Ty:=.pair (.int .i64) (.pair (.int .i64) (.pair (.int .i64) (.pair (.int .i64) (.pair (.pair (.int .i64) (.pair (Am 8 (.int .i64)) (.pair (.sl 293 (.pair (.int .i64) (.pair (.int .i64) (.int .i64)))) .bool))) (.pair (.pair (.int .i64) (.pair (Am 8 (.int .i64)) (.pair (.sl 293 (.pair (.int .i64) (.pair (.int .i64) (.int .i64)))) .bool))) (.pair (.sl 3 (.int .i64)) .bool))))))
abbrev BM:Type:=Int×Int×Int×Int×(Int×(PN Int 8)×(List (Int×Int×Int))×Bool)×(Int×(PN Int 8)×(List (Int×Int×Int))×Bool)×(List Int)×Bool
abbrev JB:Ty:=.pair (.int .i64) (.pair (.pair (.int .i64) (.int .i64)) (.pair (.pair (.int .i64) (.int .i64)) (.pair (.pair (.sl 2 (.int .i64)) (.sl 3 (.int .i64))) (.pair (.pair (.int .u32) (.sl 266 (.pair (.int .i64) (.int .u32)))) (.int .u32)))))
abbrev tq:Type:=Int×(Int×Int)×(Int×Int)×((List Int)×List Int)×(Int×List (Int×Int))×Int
abbrev qp:Ty:=.sl 127 (.pair (.int .i64) (.pair (.int .i64) (.pair (.int .i64) (.int .i64))))
abbrev jr:Type:=Int×Int×Int×Int
abbrev C9:Type:=Int×Int×(List j4)×(List (PN Int 5))×Bool×Bool×Bool×(List BM)×(((List Int)×List Bool)×List tq)×(List Int)×List Bool
abbrev zw:Type:=Int×Int×(List j4)×(List (PN Int 5))×Bool×Bool×Bool×(List BM)×(List Int)×(List Bool)×(List tq)×(List Int)×(List Bool)×Unit
abbrev ac0:Ty:=.pair (.int .i64) (.pair (.int .i64) (.pair (.sl 54 BL) (.pair (.sl 168 (Am 5 (.int .i64))) (.pair .bool (.pair .bool (.pair .bool (.pair (.sl 59 u6) (.pair (.pair (.pair (.sl 3 (.int .i64)) (.sl 4 .bool)) (.sl 142 JB)) (.pair (.sl 3 (.int .i64)) (.sl 4 .bool))))))))))
abbrev an0:Type:=Int×Int×(List j4)×(List (PN Int 5))×Bool×Bool×Bool×(List BM)×(List Int)×(List Bool)×(List tq)×(List Int)×(List Bool)×Int×Int×Int×Int×(List jr)×(List jr)×(List jr)×Int×Int×Int×Int×Int×(List (PN Int 6))×Int×Int×Int×Int×Unit
abbrev jq:Type:=(Int×Unit)×Unit
abbrev qy:Type:=Int×Int×Int×Bool
abbrev ko:Type:=List (Int×Int)
abbrev ou:Ty:=.pair (.int .i64) (.int .i64)
abbrev lq:Type:=(Bool×Unit)×Unit
abbrev GA:Type:=G9×(Int×j4×(Int×Int)×Int×Int×Int)×(List (PN Int 6))×Int×(Int×Int)×Int
abbrev uw:Ty:=.sl 3 (.int .i64)
abbrev FN:Ty:=.pair (.int .i64) (.pair (.int .i64) (.pair (.int .i64) .bool))
abbrev uj:Type:=((List Int)×Unit)×Unit
abbrev OT:Type:=Int×Int×Unit×Unit×Bool×Bool×Bool×Unit×Unit×Unit×Unit×Unit×Unit×Unit
abbrev OU:Type:=(List jr) -> (List qy) -> (List Int) -> (List qy) -> Int -> Int -> Option lq
abbrev DU:Type:=(Int×Int×Int×Unit)×Unit
abbrev JG:Type:=((List j4)×(List (PN Int 5))×Int×Unit)×Unit
abbrev ahH:Type:=((List Int)×List Bool)×List tq
abbrev Z9:Type:=Int×(PN Int 8)×(List (Int×Int×Int))×Bool
abbrev FP:Type:=List (PN Bool 24)
abbrev KU:Type:=Int×Int×Int×(List jr)×(List jr)×List jr
abbrev ahI:Ty:=.pair uw (.sl 4 .bool)
abbrev o7:Type:=List (Int×Int)
abbrev Vk:Type:=(List j4) -> Int -> Int -> ko -> (List j4) -> Int -> Int -> Option jq
abbrev Vl:Ty:=.pair (.int .i64) (.pair (.int .i64) ou)
abbrev Za:Type:=Int×(Int×Int)×(Int×Int)×((List Int)×List Int)×(Int×List (Int×Int))×Int
abbrev AX:Type:=(ko×Unit)×Unit
abbrev Zb:Type:=(List jr) -> FP -> (List qy) -> Int -> Int -> Option ((FP×Unit)×Unit)
abbrev D6:Ty:=Am 5 (.int .i64)
abbrev D7:Ty:=.pair (.int .i64) (.int .u32)
abbrev DV:Type:=(Int×Bool×Unit)×Unit
abbrev Zc:Type:=(List j4) -> Int -> Int -> Int -> Int -> Int -> Int -> Bool -> Option DU
abbrev ahJ:Type:=(List jr) -> (List Int) -> (List Int) -> (List ((PN Bool 24)×Int)) -> FP -> FP -> Int -> Int -> Option (((List Int)×Bool×Unit)×Unit)
abbrev qd:Ty:=.sl 54 BL
abbrev GD:Type:=((List jr)×Unit)×Unit
abbrev Zd:Type:=((Int×Int×List (Int×Int))×Bool×Unit)×Unit
abbrev GH:Type:=(G9×Int×Unit)×Unit
abbrev Ze:Type:=((Int×List (Int×Int))×ko×Unit)×Unit
abbrev Vm:Type:=Int -> (List Int) -> Int -> Int -> Option jq
abbrev Zf:Type:=(ahH×(Int×Int)×Bool×Unit)×Unit
abbrev Zg:Type:=((List ((Int×Int)×Bool))×Unit)×Unit
abbrev Zh:Type:=(List Int) -> (List jr) -> Int -> Int -> Option uj
abbrev ahK:Type:=(List j4) -> Int -> Int -> ko -> (List j4) -> Int -> Int -> ko -> Int -> Int -> Option jq
abbrev GI:Type:=List (PN Int 5)
abbrev FQ:Type:=(List Int)×List Bool
abbrev Zi:Type:=Int×Unit
abbrev an1:Ty:=.pair ahI (.sl 142 JB)
abbrev w9:Type:=List qy
abbrev an2:Type:=Int×Int×Int×(List jr)×(List jr)×(List jr)×Unit
abbrev FT:Type:=(G9×Unit)×Unit
abbrev DW:Ty:=.sl 4 .bool
abbrev Zj:Type:=Int×j4×(Int×Int)×Int×Int×Int
abbrev ac1:Type:=Int×Int×Int×Int×Z9×Z9×(List Int)×Bool
abbrev OV:Type:=(FP×Unit)×Unit
abbrev Zk:Type:=((List Int)×Bool×Unit)×Unit
abbrev JH:Ty:=.sl 2 (.int .i64)
abbrev ahL:Type:=Int×Int×Int×Bool×Unit
abbrev ac2:Ty:=Am 6 (.int .i64)
abbrev RL:Type:=(ahH×Unit)×Unit
abbrev OW:Type:=(Unit)×an0×Unit
abbrev an3:Type:=(List Int)×(List Bool)×(List tq)×Unit
abbrev Zl:Type:=(GI×Int×Unit)×Unit
abbrev ahM:Type:=((Unit)×(List jr)×Unit×Int×Int×Unit) -> Option jq
abbrev CB:Ty:=Am 24 .bool
abbrev OX:Ty:=.sl 142 JB
abbrev ac3:Type:=Int×Bool×Unit
abbrev CF:Type:=PN Bool 24
abbrev RN:Type:=(List Int)×List Bool
abbrev Zm:Ty:=.sl 168 D6
abbrev Vn:Type:=List (List jr)
abbrev Zn:Type:=(Int×Int)×Bool
abbrev Zo:PT:=.fK 175 [cI,cI,.cell qd,.cell Zm,.cell .bool,.cell .bool,.cell .bool,.cell (.sl 59 u6),.cell uw,.cell DW,.cell OX,.cell uw,.cell DW,cI,cI,cI,cI,.cell qp,.cell qp,.cell qp,cI,cI,cI,cI,.cell (.int .u32),.own 51 ac2,cI,cI,cI,cI]
abbrev aqv:PT:=.pv (.lJ 271 [.ref qp,.ref (.int .i64)])
abbrev aoJ:PT:=.val ⟨true,(.pair JH uw),false⟩
abbrev aqw:RT:=.val ⟨true,(.pair JH uw),false⟩
abbrev aoK:RT:=.val ⟨false,(.sl 378 ou),true⟩
abbrev WX:PT:=.val ⟨false,uw,false⟩
abbrev Zp:PT:=.val ⟨false,qd,false⟩
abbrev agz:PT:=.val ⟨true,Vl,false⟩
abbrev EH:PT:=.val ⟨false,qp,false⟩
abbrev ahN:PT:=.val ⟨true,FN,false⟩
abbrev ahO:RT:=.val ⟨false,uw,true⟩
abbrev Vo:PT:=.val ⟨true,an1,false⟩
abbrev RO:PT:=.val ⟨true,ahI,false⟩
abbrev Zq:PT:=.val ⟨true,ac0,false⟩
abbrev ahP:PT:=.val ⟨true,ou,false⟩
abbrev Vp:RT:=.val ⟨true,ahI,true⟩
abbrev ac4:RT:=.val ⟨true,an1,true⟩
abbrev ac5:RT:=.val ⟨true,ac0,true⟩
abbrev Vq:PT:=.val ⟨true,BL,false⟩
abbrev ac6:PT:=.val ⟨true,JB,false⟩
abbrev Zr:PT:=.pv (.ref (.int .i64))
noncomputable section
def E0:Env:=tab.env (fun _=>none) (fun _=>0)
theorem JJ:aH Tryz.prog E0:=Kw Rt _ _ (fun f F h=>by cases h)
theorem okF {f:FuncId} {fn:Func} {F:Fn} {C:Code} {l:List (Nat×Fn)} (hl:Gu Tryz.prog l) (h:List (Nat×Nat)) (T:Nat -> rV (RD F.rs×MD F.ps)) (hf:Tryz.prog.funcs[f]? = some fn) (hb:fn.body=some C)
(h1:(fn.name == "runtime.NumGoroutine")=false:=by kernel_rfl) (h2:Nat.ble F.ps.length fn.ntmps=true:=by kernel_rfl)
(h3:∀ k,Bw (tab.env (lk l) (Rv h)) fn F.ps F.rs k true (T k)=Bw (tab.env (lk l) (Rv h)) fn F.ps F.rs k false (T k):=by intro k;kernel_rfl) (h4:∀ k x,F.sem k x=Gr (tab.env (lk l) (Rv h)) fn F.ps F.rs k (T k) x:=by intro k x;kernel_rfl):uO Tryz.prog f F :=
Kt (Kw Rt _ _ (Dm hl)) mix hf hb h1 h2 h3 h4
def Xx (A:Type):Type:=A -> A
abbrev O (f:Nat) (F:Fn):Prop:=uO Tryz.prog f F
theorem ah {f:Nat} {F:Fn} {l:List (Nat×Fn)} (h:O f F) (t:Gu Tryz.prog l):Gu Tryz.prog ((f,F)::l):=⟨h,t⟩
theorem aj:Gu Tryz.prog []:=trivial
abbrev On {A:Type}:Nat -> rV A:=fun _=>.nil
abbrev au:PT:=.val ⟨false,.int .i64,false⟩
abbrev rI:RT:=.val ⟨false,.int .i64,true⟩
abbrev rB:RT:=.val ⟨false,.bool,true⟩
abbrev ay:Int×Int×Int×Int×(Int×(PN Int 8)×(List (Int×Int×Int))×Bool)×(Int×(PN Int 8)×(List (Int×Int×Int))×Bool)×(List Int)×Bool:=(0,0,0,0,(0,Qn (α:=Int) 8 0,[],false),(0,Qn (α:=Int) 8 0,[],false),[],false)
abbrev bf:Int×(Int×Int)×(Int×Int)×((List Int)×List Int)×(Int×List (Int×Int))×Int:=(0,(0,0),(0,0),([],[]),(0,[]),0)
abbrev bg:Int×Int×Int×(List (Int×Int×Int×Int))×(List (Int×Int×Int×Int))×List (Int×Int×Int×Int):=(0,0,0,[],[],[])
abbrev bn:Int×(Int×Int×Int×(List (Int×Int×Int×Int))×(List (Int×Int×Int×Int))×List (Int×Int×Int×Int))×(Int×Int)×Int×Int×Int:=(0,(0,0,0,[],[],[]),(0,0),0,0,0)
abbrev bq:Int×(Int×(Int×Int×Int×(List (Int×Int×Int×Int))×(List (Int×Int×Int×Int))×List (Int×Int×Int×Int))×(Int×Int)×Int×Int×Int)×Int×Int:=(0,(0,(0,0,0,[],[],[]),(0,0),0,0,0),0,0)
def w0 { X Y Z:Type} (a:X×Z) (x:Y):Y×Z:=(x,a.2)
def w2 {A0 A1 X Y Z:Type} (a:A0×A1×X×Z) (x:Y):A0×A1×Y×Z:=(a.1,a.2.1,x,a.2.2.2)
def w3 {A0 A1 A2 X Y Z:Type} (a:A0×A1×A2×X×Z) (x:Y):A0×A1×A2×Y×Z:=(a.1,a.2.1,a.2.2.1,x,a.2.2.2.2)
def w4 {A0 A1 A2 A3 X Y Z:Type} (a:A0×A1×A2×A3×X×Z) (x:Y):A0×A1×A2×A3×Y×Z:=(a.1,a.2.1,a.2.2.1,a.2.2.2.1,x,a.2.2.2.2.2)
def w5 {A0 A1 A2 A3 A4 X Y Z:Type} (a:A0×A1×A2×A3×A4×X×Z) (x:Y):A0×A1×A2×A3×A4×Y×Z:=(a.1,a.2.1,a.2.2.1,a.2.2.2.1,a.2.2.2.2.1,x,a.2.2.2.2.2.2)
def w6 {A0 A1 A2 A3 A4 A5 X Y Z:Type} (a:A0×A1×A2×A3×A4×A5×X×Z) (x:Y):A0×A1×A2×A3×A4×A5×Y×Z:=(a.1,a.2.1,a.2.2.1,a.2.2.2.1,a.2.2.2.2.1,a.2.2.2.2.2.1,x,a.2.2.2.2.2.2.2)
def w7 {A0 A1 A2 A3 A4 A5 A6 X Y Z:Type} (a:A0×A1×A2×A3×A4×A5×A6×X×Z) (x:Y):A0×A1×A2×A3×A4×A5×A6×Y×Z:=(a.1,a.2.1,a.2.2.1,a.2.2.2.1,a.2.2.2.2.1,a.2.2.2.2.2.1,a.2.2.2.2.2.2.1,x,a.2.2.2.2.2.2.2.2)
def w8 {A0 A1 A2 A3 A4 A5 A6 A7 X Y Z:Type} (a:A0×A1×A2×A3×A4×A5×A6×A7×X×Z) (x:Y):A0×A1×A2×A3×A4×A5×A6×A7×Y×Z:=(a.1,a.2.1,a.2.2.1,a.2.2.2.1,a.2.2.2.2.1,a.2.2.2.2.2.1,a.2.2.2.2.2.2.1,a.2.2.2.2.2.2.2.1,x,a.2.2.2.2.2.2.2.2.2)
def z5 {A0 A1 A2 A3 A4 Y Z:Type} (a:A0×A1×A2×A3×A4×Z) (x:Y):A0×A1×A2×A3×A4×Y:=(a.1,a.2.1,a.2.2.1,a.2.2.2.1,a.2.2.2.2.1,x)
def z7 {A0 A1 A2 A3 A4 A5 A6 Y Z:Type} (a:A0×A1×A2×A3×A4×A5×A6×Z) (x:Y):A0×A1×A2×A3×A4×A5×A6×Y:=(a.1,a.2.1,a.2.2.1,a.2.2.2.1,a.2.2.2.2.1,a.2.2.2.2.2.1,a.2.2.2.2.2.2.1,x)
def z9 {A0 A1 A2 A3 A4 A5 A6 A7 A8 Y Z:Type} (a:A0×A1×A2×A3×A4×A5×A6×A7×A8×Z) (x:Y):A0×A1×A2×A3×A4×A5×A6×A7×A8×Y:=(a.1,a.2.1,a.2.2.1,a.2.2.2.1,a.2.2.2.2.1,a.2.2.2.2.2.1,a.2.2.2.2.2.2.1,a.2.2.2.2.2.2.2.1,a.2.2.2.2.2.2.2.2.1,x)
structure Iso (T R F:Type) where
 un:F -> T -> R
 cu:(T -> R) -> F
def dh {A T R F:Type} (s:Iso T R F):Iso (A×T) R (A -> F):=⟨fun f x=>s.un (f x.1) x.2,fun g a=>s.cu fun t=>g (a,t)⟩
def dw {T R F:Type} (s:Iso T R F):Iso (Unit×T) R F:=⟨fun f x=>s.un f x.2,fun g=>s.cu fun t=>g ((),t)⟩
def dx {R:Type}:Iso Unit R R:=⟨fun f _=>f,fun g=>g ()⟩
def dz {A R:Type}:Iso A R (A -> R):=⟨fun f=>f,fun g=>g⟩
def d9 {S T R F G:Type} (a:Iso S F G) (b:Iso T R F):Iso (S×T) R G:=⟨fun f x=>b.un (a.un f x.1) x.2,fun g=>a.cu fun x=>b.cu fun t=>g (x,t)⟩
def eu {T R F:Type} (s:Iso T R F) (f:F -> F) (g:T -> R):T -> R:=s.un (f (s.cu g))
def qh (d:Int×Int×(List j4)×GI×Bool×Bool×Bool×(List BM)×(List Int)×(List Bool)×(List tq)×(List Int)×(List Bool)×Int×Int×Int×Int×(List jr)×(List jr)×(List jr)×Int×Int×Int×Int×Int×(List (PN Int 6))×Int×Int×Int×Int×Unit):G9×Zj×(List (PN Int 6))×Int×(Int×Int)×Int:=((d.1,d.2.1,d.2.2.1,d.2.2.2.1,d.2.2.2.2.1,d.2.2.2.2.2.1,d.2.2.2.2.2.2.1,d.2.2.2.2.2.2.2.1,((d.2.2.2.2.2.2.2.2.1,d.2.2.2.2.2.2.2.2.2.1),d.2.2.2.2.2.2.2.2.2.2.1),d.2.2.2.2.2.2.2.2.2.2.2.1,d.2.2.2.2.2.2.2.2.2.2.2.2.1),(d.2.2.2.2.2.2.2.2.2.2.2.2.2.1,(d.2.2.2.2.2.2.2.2.2.2.2.2.2.2.1,d.2.2.2.2.2.2.2.2.2.2.2.2.2.2.2.1,d.2.2.2.2.2.2.2.2.2.2.2.2.2.2.2.2.1,d.2.2.2.2.2.2.2.2.2.2.2.2.2.2.2.2.2.1,d.2.2.2.2.2.2.2.2.2.2.2.2.2.2.2.2.2.2.1,d.2.2.2.2.2.2.2.2.2.2.2.2.2.2.2.2.2.2.2.1),(d.2.2.2.2.2.2.2.2.2.2.2.2.2.2.2.2.2.2.2.2.1,d.2.2.2.2.2.2.2.2.2.2.2.2.2.2.2.2.2.2.2.2.2.1),d.2.2.2.2.2.2.2.2.2.2.2.2.2.2.2.2.2.2.2.2.2.2.1,d.2.2.2.2.2.2.2.2.2.2.2.2.2.2.2.2.2.2.2.2.2.2.2.1,d.2.2.2.2.2.2.2.2.2.2.2.2.2.2.2.2.2.2.2.2.2.2.2.2.1),d.2.2.2.2.2.2.2.2.2.2.2.2.2.2.2.2.2.2.2.2.2.2.2.2.2.1,d.2.2.2.2.2.2.2.2.2.2.2.2.2.2.2.2.2.2.2.2.2.2.2.2.2.2.1,(d.2.2.2.2.2.2.2.2.2.2.2.2.2.2.2.2.2.2.2.2.2.2.2.2.2.2.2.1,d.2.2.2.2.2.2.2.2.2.2.2.2.2.2.2.2.2.2.2.2.2.2.2.2.2.2.2.2.1),d.2.2.2.2.2.2.2.2.2.2.2.2.2.2.2.2.2.2.2.2.2.2.2.2.2.2.2.2.2.1)
def BR (x:GA):Int×Int×(List j4)×GI×Bool×Bool×Bool×(List BM)×(List Int)×(List Bool)×(List tq)×(List Int)×(List Bool)×Int×Int×Int×Int×(List jr)×(List jr)×(List jr)×Int×Int×Int×Int×Int×(List (PN Int 6))×Int×Int×Int×Int×Unit:=(x.1.1,x.1.2.1,x.1.2.2.1,x.1.2.2.2.1,x.1.2.2.2.2.1,x.1.2.2.2.2.2.1,x.1.2.2.2.2.2.2.1,x.1.2.2.2.2.2.2.2.1,x.1.2.2.2.2.2.2.2.2.1.1.1,x.1.2.2.2.2.2.2.2.2.1.1.2,x.1.2.2.2.2.2.2.2.2.1.2,x.1.2.2.2.2.2.2.2.2.2.1,x.1.2.2.2.2.2.2.2.2.2.2,x.2.1.1,x.2.1.2.1.1,x.2.1.2.1.2.1,x.2.1.2.1.2.2.1,x.2.1.2.1.2.2.2.1,x.2.1.2.1.2.2.2.2.1,x.2.1.2.1.2.2.2.2.2,x.2.1.2.2.1.1,x.2.1.2.2.1.2,x.2.1.2.2.2.1,x.2.1.2.2.2.2.1,x.2.1.2.2.2.2.2,x.2.2.1,x.2.2.2.1,x.2.2.2.2.1.1,x.2.2.2.2.1.2,x.2.2.2.2.2,())
theorem vrA (x:GA):qh (BR x)=x:=rfl
def tvJ (d:Int×Int×Int×Int×Int×Int×Int×Int×Int×Int×Int×Int×Int×(List (Int×Int×Int))×Bool×Int×Int×Int×Int×Int×Int×Int×Int×Int×(List (Int×Int×Int))×Bool×(List Int)×Bool×Unit):Int×Int×Int×Int×Z9×Z9×(List Int)×Bool:=(d.1,d.2.1,d.2.2.1,d.2.2.2.1,(d.2.2.2.2.1,(d.2.2.2.2.2.1,d.2.2.2.2.2.2.1,d.2.2.2.2.2.2.2.1,d.2.2.2.2.2.2.2.2.1,d.2.2.2.2.2.2.2.2.2.1,d.2.2.2.2.2.2.2.2.2.2.1,d.2.2.2.2.2.2.2.2.2.2.2.1,d.2.2.2.2.2.2.2.2.2.2.2.2.1),d.2.2.2.2.2.2.2.2.2.2.2.2.2.1,d.2.2.2.2.2.2.2.2.2.2.2.2.2.2.1),(d.2.2.2.2.2.2.2.2.2.2.2.2.2.2.2.1,(d.2.2.2.2.2.2.2.2.2.2.2.2.2.2.2.2.1,d.2.2.2.2.2.2.2.2.2.2.2.2.2.2.2.2.2.1,d.2.2.2.2.2.2.2.2.2.2.2.2.2.2.2.2.2.2.1,d.2.2.2.2.2.2.2.2.2.2.2.2.2.2.2.2.2.2.2.1,d.2.2.2.2.2.2.2.2.2.2.2.2.2.2.2.2.2.2.2.2.1,d.2.2.2.2.2.2.2.2.2.2.2.2.2.2.2.2.2.2.2.2.2.1,d.2.2.2.2.2.2.2.2.2.2.2.2.2.2.2.2.2.2.2.2.2.2.1,d.2.2.2.2.2.2.2.2.2.2.2.2.2.2.2.2.2.2.2.2.2.2.2.1),d.2.2.2.2.2.2.2.2.2.2.2.2.2.2.2.2.2.2.2.2.2.2.2.2.1,d.2.2.2.2.2.2.2.2.2.2.2.2.2.2.2.2.2.2.2.2.2.2.2.2.2.1),d.2.2.2.2.2.2.2.2.2.2.2.2.2.2.2.2.2.2.2.2.2.2.2.2.2.2.1,d.2.2.2.2.2.2.2.2.2.2.2.2.2.2.2.2.2.2.2.2.2.2.2.2.2.2.2.1)
def trJ (x:ac1):Int×Int×Int×Int×Int×Int×Int×Int×Int×Int×Int×Int×Int×(List (Int×Int×Int))×Bool×Int×Int×Int×Int×Int×Int×Int×Int×Int×(List (Int×Int×Int))×Bool×(List Int)×Bool×Unit:=(x.1,x.2.1,x.2.2.1,x.2.2.2.1,x.2.2.2.2.1.1,x.2.2.2.2.1.2.1.1,x.2.2.2.2.1.2.1.2.1,x.2.2.2.2.1.2.1.2.2.1,x.2.2.2.2.1.2.1.2.2.2.1,x.2.2.2.2.1.2.1.2.2.2.2.1,x.2.2.2.2.1.2.1.2.2.2.2.2.1,x.2.2.2.2.1.2.1.2.2.2.2.2.2.1,x.2.2.2.2.1.2.1.2.2.2.2.2.2.2,x.2.2.2.2.1.2.2.1,x.2.2.2.2.1.2.2.2,x.2.2.2.2.2.1.1,x.2.2.2.2.2.1.2.1.1,x.2.2.2.2.2.1.2.1.2.1,x.2.2.2.2.2.1.2.1.2.2.1,x.2.2.2.2.2.1.2.1.2.2.2.1,x.2.2.2.2.2.1.2.1.2.2.2.2.1,x.2.2.2.2.2.1.2.1.2.2.2.2.2.1,x.2.2.2.2.2.1.2.1.2.2.2.2.2.2.1,x.2.2.2.2.2.1.2.1.2.2.2.2.2.2.2,x.2.2.2.2.2.1.2.2.1,x.2.2.2.2.2.1.2.2.2,x.2.2.2.2.2.2.1,x.2.2.2.2.2.2.2,())
theorem vrJ (x:ac1):tvJ (trJ x)=x:=rfl
def Zt (d:Int×Int×(List j4)×GI×Bool×Bool×Bool×(List BM)×(List Int)×(List Bool)×(List tq)×(List Int)×(List Bool)×Unit):Int×Int×(List j4)×GI×Bool×Bool×Bool×(List BM)×ahH×(List Int)×List Bool:=(d.1,d.2.1,d.2.2.1,d.2.2.2.1,d.2.2.2.2.1,d.2.2.2.2.2.1,d.2.2.2.2.2.2.1,d.2.2.2.2.2.2.2.1,((d.2.2.2.2.2.2.2.2.1,d.2.2.2.2.2.2.2.2.2.1),d.2.2.2.2.2.2.2.2.2.2.1),d.2.2.2.2.2.2.2.2.2.2.2.1,d.2.2.2.2.2.2.2.2.2.2.2.2.1)
def RP (x:C9):Int×Int×(List j4)×GI×Bool×Bool×Bool×(List BM)×(List Int)×(List Bool)×(List tq)×(List Int)×(List Bool)×Unit:=(x.1,x.2.1,x.2.2.1,x.2.2.2.1,x.2.2.2.2.1,x.2.2.2.2.2.1,x.2.2.2.2.2.2.1,x.2.2.2.2.2.2.2.1,x.2.2.2.2.2.2.2.2.1.1.1,x.2.2.2.2.2.2.2.2.1.1.2,x.2.2.2.2.2.2.2.2.1.2,x.2.2.2.2.2.2.2.2.2.1,x.2.2.2.2.2.2.2.2.2.2,())
theorem vrK (x:C9):Zt (RP x)=x:=rfl
def tvP (d:Int×Int×Int×Int×Int×(List jr)×(List jr)×(List jr)×Int×Int×Int×Int×Int×Int×Int×Unit):Int×Zj×Int×Int:=(d.1,(d.2.1,(d.2.2.1,d.2.2.2.1,d.2.2.2.2.1,d.2.2.2.2.2.1,d.2.2.2.2.2.2.1,d.2.2.2.2.2.2.2.1),(d.2.2.2.2.2.2.2.2.1,d.2.2.2.2.2.2.2.2.2.1),d.2.2.2.2.2.2.2.2.2.2.1,d.2.2.2.2.2.2.2.2.2.2.2.1,d.2.2.2.2.2.2.2.2.2.2.2.2.1),d.2.2.2.2.2.2.2.2.2.2.2.2.2.1,d.2.2.2.2.2.2.2.2.2.2.2.2.2.2.1)
def trP (x:Int×Zj×Int×Int):Int×Int×Int×Int×Int×(List jr)×(List jr)×(List jr)×Int×Int×Int×Int×Int×Int×Int×Unit:=(x.1,x.2.1.1,x.2.1.2.1.1,x.2.1.2.1.2.1,x.2.1.2.1.2.2.1,x.2.1.2.1.2.2.2.1,x.2.1.2.1.2.2.2.2.1,x.2.1.2.1.2.2.2.2.2,x.2.1.2.2.1.1,x.2.1.2.2.1.2,x.2.1.2.2.2.1,x.2.1.2.2.2.2.1,x.2.1.2.2.2.2.2,x.2.2.1,x.2.2.2,())
theorem vrP (x:Int×Zj×Int×Int):tvP (trP x)=x:=rfl
def wo (d:Int×Int×(List j4)×GI×Bool×Bool×Bool×(List BM)×(List Int)×(List Bool)×(List tq)×(List Int)×(List Bool)×(List (PN Int 6))×Unit):G9×List (PN Int 6):=((d.1,d.2.1,d.2.2.1,d.2.2.2.1,d.2.2.2.2.1,d.2.2.2.2.2.1,d.2.2.2.2.2.2.1,d.2.2.2.2.2.2.2.1,((d.2.2.2.2.2.2.2.2.1,d.2.2.2.2.2.2.2.2.2.1),d.2.2.2.2.2.2.2.2.2.2.1),d.2.2.2.2.2.2.2.2.2.2.2.1,d.2.2.2.2.2.2.2.2.2.2.2.2.1),d.2.2.2.2.2.2.2.2.2.2.2.2.2.1)
def zu (x:G9×List (PN Int 6)):Int×Int×(List j4)×GI×Bool×Bool×Bool×(List BM)×(List Int)×(List Bool)×(List tq)×(List Int)×(List Bool)×(List (PN Int 6))×Unit:=(x.1.1,x.1.2.1,x.1.2.2.1,x.1.2.2.2.1,x.1.2.2.2.2.1,x.1.2.2.2.2.2.1,x.1.2.2.2.2.2.2.1,x.1.2.2.2.2.2.2.2.1,x.1.2.2.2.2.2.2.2.2.1.1.1,x.1.2.2.2.2.2.2.2.2.1.1.2,x.1.2.2.2.2.2.2.2.2.1.2,x.1.2.2.2.2.2.2.2.2.2.1,x.1.2.2.2.2.2.2.2.2.2.2,x.2,())
theorem Z7 (x:G9×List (PN Int 6)):wo (zu x)=x:=rfl
def Q7 (k:Nat) (a:Int×j4×(Int×Int)×Int×Int×Int):Option (((Int×Zj×Int×Int)×Unit)×Unit) :=
 some (((1,a,0,0),()),())
def F40:Fn:=⟨[.val ⟨true,(.pair (.int .i64) (.pair BL (.pair ou (.pair (.int .i64) D7)))),false⟩],[.val ⟨true,(.pair (.int .i64) (.pair (.pair (.int .i64) (.pair BL (.pair ou (.pair (.int .i64) D7)))) ou)),false⟩],fun k x=>Q7 k x.1⟩
theorem ok40:O 40 F40:=okF aj [] On Tryz.func40 rfl
def aqx (k:Nat) (a:Int):Option ((FQ×Unit)×Unit) :=
 mk (mn (mx a 0) 64) (mn (mx a 0) 64) 8 <|
 mk (mn (mx a 0) 64) (mn (mx a 0) 64) 1 <|
 some (((List.replicate (mn (mx a 0) 64).toNat (0:Int),List.replicate (mn (mx a 0) 64).toNat (false:Bool)),()),())
def F164:Fn:=⟨[au],[Vp],fun k x=>aqx k x.1⟩
theorem ok164:O 164 F164:=okF aj [] On Tryz.func164 rfl
def S86 (k:Nat):Option RL :=
 (aqx k 12).bind fun q0 =>
 mk 12 12 128 <|
 some (((q0.1.1,List.replicate 12 (bf:Za)),()),())
def F86:Fn:=⟨[],[ac4],fun k x=>S86 k ⟩
theorem ok86:O 86 F86:=okF (ah ok164 aj) [] On Tryz.func86 rfl
def S87 (k:Nat) (a:Int):Option ((FQ×Unit)×Unit) :=
 mk (mn (mx a 0) 65536) (mn (mx a 0) 65536) 8 <|
 mk (mn (mx a 0) 65536) (mn (mx a 0) 65536) 1 <|
 some (((List.replicate (mn (mx a 0) 65536).toNat (0:Int),List.replicate (mn (mx a 0) 65536).toNat (false:Bool)),()),())
def F87:Fn:=⟨[au],[Vp],fun k x=>S87 k x.1⟩
theorem ok87:O 87 F87:=okF aj [] On Tryz.func87 rfl
def S36 (k:Nat) (a:Int):Option ((G9×Bool×Unit)×Unit) :=
 (bif decide (a<1) then
  some (((0,0,[],[],false,false,false,[],(([],[]),[]),[],[]),false,()),())
 else
  (bif decide (a>4611686018427387904) then
   some (((0,0,[],[],false,false,false,[],(([],[]),[]),[],[]),false,()),())
  else
   (S86 k).bind fun q0 =>
   (S87 k 0).bind fun q1 =>
   some (((0,a,[],[],false,false,false,[],q0.1.1,q1.1.1),true,()),())))
def F36:Fn:=⟨[au],[ac5,rB],fun k x=>S36 k x.1⟩
theorem ok36:O 36 F36:=okF (ah ok86 <| ah ok87 aj) [] On Tryz.func36 rfl
def MN (k:Nat) (a:Int):Option lq :=
 (bif decide (a≥0) then
  some ((decide (a<8),()),())
 else
  some ((false,()),()))
def F264:Fn:=⟨[au],[rB],fun k x=>MN k x.1⟩
theorem ok264:O 264 F264:=okF aj [] On Tryz.func264 rfl
def RQ (k:Nat) (a b c:Int):Option lq :=
 (bif decide (a≥b) then
  some ((decide (a <= c),()),())
 else
  some ((false,()),()))
def F265:Fn:=⟨[au,au,au],[rB],fun k (a,b,c,_)=>RQ k a b c⟩
theorem ok265:O 265 F265:=okF aj [] On Tryz.func265 rfl
def ahR (k:Nat) (a:Int×Int×Int×Int):Option lq :=
 (bif a.1==0 then
  (bif a.2.1==0 then
   (bif a.2.2.1==0 then
    some ((a.2.2.2==0,()),())
   else
    some ((false,()),()))
  else
   some ((false,()),()))
 else
  (bif a.1==11 then
   (bif a.2.1==0 then
    (bif a.2.2.1==0 then
     some ((a.2.2.2==0,()),())
    else
     some ((false,()),()))
   else
    some ((false,()),()))
  else
   (bif a.1==1 then
    (MN k a.2.1).bind fun q0 =>
    (bif q0.1.1 then
     (bif a.2.2.1==0 then
      (RQ k a.2.2.2 (-2147483648) 2147483647).bind fun q1 =>
      some ((q1.1.1,()),())
     else
      some ((false,()),()))
    else
     some ((false,()),()))
   else
    (bif a.1==2 then
     (MN k a.2.1).bind fun q2 =>
     (bif q2.1.1 then
      (MN k a.2.2.1).bind fun q3 =>
      (bif q3.1.1 then
       some ((a.2.2.2==0,()),())
      else
       some ((false,()),()))
     else
      some ((false,()),()))
    else
     (bif a.1==3 then
      (MN k a.2.1).bind fun q4 =>
      (bif q4.1.1 then
       (MN k a.2.2.1).bind fun q5 =>
       (bif q5.1.1 then
        some ((a.2.2.2==0,()),())
       else
        some ((false,()),()))
      else
       some ((false,()),()))
     else
      (bif a.1==4 then
       (MN k a.2.1).bind fun q6 =>
       (bif q6.1.1 then
        (MN k a.2.2.1).bind fun q7 =>
        (bif q7.1.1 then
         some ((a.2.2.2==0,()),())
        else
         some ((false,()),()))
       else
        some ((false,()),()))
      else
       (bif a.1==5 then
        (MN k a.2.1).bind fun q8 =>
        (bif q8.1.1 then
         (bif a.2.2.1==0 then
          (RQ k a.2.2.2 (-63) 63).bind fun q9 =>
          some ((q9.1.1,()),())
         else
          some ((false,()),()))
        else
         some ((false,()),()))
       else
        (bif a.1==6 then
         (MN k a.2.1).bind fun q10 =>
         (bif q10.1.1 then
          (bif a.2.2.1==0 then
           (RQ k a.2.2.2 1 64).bind fun V9 =>
           some ((V9.1.1,()),())
          else
           some ((false,()),()))
         else
          some ((false,()),()))
        else
         (bif a.1==7 then
          (MN k a.2.1).bind fun q12 =>
          (bif q12.1.1 then
           (bif a.2.2.1==0 then
            (RQ k a.2.2.2 1 24).bind fun q13 =>
            some ((q13.1.1,()),())
           else
            some ((false,()),()))
          else
           some ((false,()),()))
         else
          (bif a.1==8 then
           (bif a.2.1==0 then
            (RQ k a.2.2.1 1 24).bind fun q14 =>
            (bif q14.1.1 then
             (RQ k a.2.2.2 1 20).bind fun q15 =>
             some ((q15.1.1,()),())
            else
             some ((false,()),()))
           else
            some ((false,()),()))
          else
           (bif a.1==9 then
            (RQ k a.2.1 0 3).bind fun q16 =>
            (bif q16.1.1 then
             (bif a.2.2.1==0 then
              some ((a.2.2.2==0,()),())
             else
              some ((false,()),()))
            else
             some ((false,()),()))
           else
            (bif a.1==10 then
             (RQ k a.2.1 0 3).bind fun q17 =>
             (bif q17.1.1 then
              (bif a.2.2.1==0 then
               some ((a.2.2.2==0,()),())
              else
               some ((false,()),()))
             else
              some ((false,()),()))
            else
             some ((false,()),())))))))))))))
def F188:Fn:=⟨[agz],[rB],fun k x=>ahR k x.1⟩
theorem ok188:O 188 F188:=okF (ah ok264 <| ah ok265 aj) [] On Tryz.func188 rfl
def aoL (k:Nat) (a:Int×Int×Int×Int):Option lq :=
 (ahR k a).bind fun q0 =>
 some ((!q0.1.1,()),())
def F187:Fn:=⟨[agz],[rB],fun k x=>aoL k x.1⟩
theorem ok187:O 187 F187:=okF (ah ok188 aj) [] On Tryz.func187 rfl
abbrev ac7:Cut:=⟨[0,1,7,8],[.cell qp,.lJ 187 [],cI,cI],[],19,[]⟩
def WY (k:Nat) (g2:(List jr) -> Int -> Int -> Option jq) (a:List jr) (b c:Int):Option jq :=
 (bif decide (c<b) then
  ix a c <|
  (aoL k (rd a c (0,0,0,0))).bind fun q0 =>
  (bif q0.1.1 then
   some ((c,()),())
  else
   g2 a b (IntKind.i64.wrap (c+1)))
 else
  some (((-1),()),()))
def ahT (k:Nat):Xx (ahM):=eu (dw (dh (dw (dh (dh dx))))) (WY k)
def MO (k a:Nat) (b:List jr) (c e:Int):Option jq:=iter ac7 (ahT k) a ((),b,(),c,e,())
theorem Zu (k a b c e):MO k (a+1) b c e=WY k (MO k a) b c e:=Ba _ _ _ _
def ald (k:Nat) (a:List jr):Option jq :=
 MO k k a (a.length:Int) 0
def F130:Fn:=⟨[EH,.pv (.lJ 187 [])],[rI],fun k x=>ald k x.1⟩
theorem ok130:O 130 F130:=okF (ah ok187 aj) [] (fun k=>(.loop 2 ac7 (ahT k) (fun g=>.nil) .nil)) Tryz.func130 rfl
def S57 (k:Nat) (a:List jr):Option lq :=
 (ald k a).bind fun q0 =>
 some ((decide (q0.1.1≥0),()),())
def F57:Fn:=⟨[EH,.pv (.lJ 187 [])],[rB],fun k x=>S57 k x.1⟩
theorem ok57:O 57 F57:=okF (ah ok130 aj) [] On Tryz.func57 rfl
def aoM (k:Nat) (a:Int×Int×Int×Int):Option lq :=
 some ((a.1==0,()),())
def F189:Fn:=⟨[agz],[rB],fun k x=>aoM k x.1⟩
theorem ok189:O 189 F189:=okF aj [] On Tryz.func189 rfl
abbrev Zv:Cut:=⟨[0,1,7,8],[.cell qp,.lJ 189 [],cI,cI],[],19,[]⟩
def Q8 (k:Nat) (g2:(List jr) -> Int -> Int -> Option jq) (a:List jr) (b c:Int):Option jq :=
 (bif decide (c<b) then
  ix a c <|
  (aoM k (rd a c (0,0,0,0))).bind fun q0 =>
  (bif q0.1.1 then
   some ((c,()),())
  else
   g2 a b (IntKind.i64.wrap (c+1)))
 else
  some (((-1),()),()))
def ac8 (k:Nat):Xx (ahM):=eu (dw (dh (dw (dh (dh dx))))) (Q8 k)
def I7 (k a:Nat) (b:List jr) (c e:Int):Option jq:=iter Zv (ac8 k) a ((),b,(),c,e,())
theorem Vr (k a b c e):I7 k (a+1) b c e=Q8 k (I7 k a) b c e:=Ba _ _ _ _
def ac9 (k:Nat) (a:List jr):Option jq :=
 I7 k k a (a.length:Int) 0
def F130a:Fn:=⟨[EH,.pv (.lJ 189 [])],[rI],fun k x=>ac9 k x.1⟩
theorem ok130a:O 130 F130a:=okF (ah ok189 aj) [] (fun k=>(.loop 2 Zv (ac8 k) (fun g=>.nil) .nil)) Tryz.func130 rfl
abbrev ada:Cut:=⟨[2,5,6,7],[.own 365 FN,.cell qp,cI,cI],[],42,[]⟩
def WZ (k:Nat) (g2:w9 -> (List jr) -> Int -> Int -> Option ((w9×Unit)×Unit)) (a:List qy) (b:List jr) (c e:Int):Option ((w9×Unit)×Unit) :=
 (bif decide (e<c) then
  ix b e <|
  (bif (rd b e (0,0,0,0)).1==8 then
   ap a ([(IntKind.i64.wrap (e+1),IntKind.i64.wrap (e+(rd b e (0,0,0,0)).2.2.1),e,true)]:List qy) 32 fun r0 =>
   g2 r0 b c (IntKind.i64.wrap (e+1))
  else
   (bif (rd b e (0,0,0,0)).1==7 then
    ap a ([(IntKind.i64.wrap (e+1),IntKind.i64.wrap (e+(rd b e (0,0,0,0)).2.2.2),e,false)]:List qy) 32 fun r1 =>
    g2 r1 b c (IntKind.i64.wrap (e+1))
   else
    g2 a b c (IntKind.i64.wrap (e+1))))
 else
  some ((a,()),()))
def ahU (k:Nat):Xx (((Unit)×w9×(List jr)×Int×Int×Unit) -> Option ((w9×Unit)×Unit)):=eu (dw (dh (dh (dh (dh dx))))) (WZ k)
def MP (k a:Nat) (b:List qy) (c:List jr) (e f:Int):Option ((w9×Unit)×Unit):=iter ada (ahU k) a ((),b,c,e,f,())
theorem Zw (k a b c e f):MP k (a+1) b c e f=WZ k (MP k a) b c e f:=Ba _ _ _ _
def ahV (k:Nat) (a:List jr):Option ((w9×Unit)×Unit) :=
 MP k k ([]:List qy) a (a.length:Int) 0
def F266:Fn:=⟨[EH],[.val ⟨false,(.sl 365 FN),true⟩],fun k x=>ahV k x.1⟩
theorem ok266:O 266 F266:=okF aj [(2,2)] (fun k=>(.loop 2 ada (ahU k) (fun g=>.nil) .nil)) Tryz.func266 rfl
def ab6 (k:Nat) (a:Int×Int×Int×Bool) (b:Int):Option lq :=
 (bif decide (b≥a.1) then
  some ((decide (b <= a.2.1),()),())
 else
  some ((false,()),()))
def F267:Fn:=⟨[ahN,au],[rB],fun k x=>ab6 k x.1 x.2.1⟩
theorem ok267:O 267 F267:=okF aj [] On Tryz.func267 rfl
def Zx (k:Nat) (a b:Int×Int×Int×Bool):Option lq :=
 (ab6 k b a.1).bind fun q0 =>
 (bif q0.1.1 then
  (ab6 k b a.2.1).bind fun q1 =>
  some ((q1.1.1,()),())
 else
  some ((false,()),()))
def F268:Fn:=⟨[ahN,ahN],[rB],fun k x=>Zx k x.1 x.2.1⟩
theorem ok268:O 268 F268:=okF (ah ok267 aj) [] On Tryz.func268 rfl
def ahW (k:Nat) (a b:Int×Int×Int×Bool):Option lq :=
 (bif decide (a.2.1<b.1) then
  some ((true,()),())
 else
  some ((decide (b.2.1<a.1),()),()))
def F269:Fn:=⟨[ahN,ahN],[rB],fun k x=>ahW k x.1 x.2.1⟩
theorem ok269:O 269 F269:=okF aj [] On Tryz.func269 rfl
def aoN (k:Nat) (a:Int):Option lq :=
 some ((decide (a>2),()),())
def F270:Fn:=⟨[au],[rB],fun k x=>aoN k x.1⟩
theorem ok270:O 270 F270:=okF aj [] On Tryz.func270 rfl
abbrev adb:Cut:=⟨[0,1,7,8],[.cell uw,.lJ 270 [],cI,cI],[],19,[]⟩
def X0 (k:Nat) (g2:(List Int) -> Int -> Int -> Option jq) (a:List Int) (b c:Int):Option jq :=
 (bif decide (c<b) then
  ix a c <|
  (aoN k (rd a c 0)).bind fun q0 =>
  (bif q0.1.1 then
   some ((c,()),())
  else
   g2 a b (IntKind.i64.wrap (c+1)))
 else
  some (((-1),()),()))
def ahX (k:Nat):Xx (((Unit)×(List Int)×Unit×Int×Int×Unit) -> Option jq):=eu (dw (dh (dw (dh (dh dx))))) (X0 k)
def MQ (k a:Nat) (b:List Int) (c e:Int):Option jq:=iter adb (ahX k) a ((),b,(),c,e,())
theorem Zy (k a b c e):MQ k (a+1) b c e=X0 k (MQ k a) b c e:=Ba _ _ _ _
def ale (k:Nat) (a:List Int):Option jq :=
 MQ k k a (a.length:Int) 0
def F272:Fn:=⟨[WX,.pv (.lJ 270 [])],[rI],fun k x=>ale k x.1⟩
theorem ok272:O 272 F272:=okF (ah ok270 aj) [] (fun k=>(.loop 2 adb (ahX k) (fun g=>.nil) .nil)) Tryz.func272 rfl
def alf (k:Nat) (a:List Int):Option lq :=
 (ale k a).bind fun q0 =>
 some ((decide (q0.1.1≥0),()),())
def F193:Fn:=⟨[WX,.pv (.lJ 270 [])],[rB],fun k x=>alf k x.1⟩
theorem ok193:O 193 F193:=okF (ah ok272 aj) [] On Tryz.func193 rfl
abbrev Zz:Cut:=⟨[0,3,4,6,9,15,16,17],[.cell qp,.cell (.sl 365 FN),.own 3 (.int .i64),.box 365 [cI,cI,cI,.cell .bool],cI,.cell (.sl 365 FN),cI,cI],[],84,[]⟩
def KV (k:Nat) (g4:OU) (g15:(List jr) -> w9 -> (List Int) -> Int -> Int -> Int -> Bool -> Int -> w9 -> Int -> Int -> Option lq) (a:List jr) (b:List qy) (c:List Int) (e f h:Int) (i:Bool) (l:Int) (m:List qy) (n o:Int):Option lq :=
 (bif i then
  (bif decide (l <= f) then
   ix c l <|
   ix c l <|
   g15 a b (upd c l (IntKind.i64.wrap ((rd c l 0)+1))) e f h i (IntKind.i64.wrap (l+1)) m n o
  else
   g4 a b c m n (IntKind.i64.wrap (o+1)))
 else
  g4 a b c m n (IntKind.i64.wrap (o+1)))
def ade (k:Nat) (g4:OU):Xx (((Unit)×(List jr)×w9×(List Int)×ahL×Int×w9×Int×Int×Unit) -> Option lq):=eu (dw (dh (dh (dh (d9 (dh (dh (dh (dh dx)))) (dh (dh (dh (dh dx))))))))) (KV k g4)
def I8 (k:Nat) (g4:OU) (a:Nat) (b:List jr) (c:List qy) (e:List Int) (f h i:Int) (l:Bool) (m:Int) (n:List qy) (o p:Int):Option lq:=iter Zz (ade k g4) a ((),b,c,e,(f,h,i,l,()),m,n,o,p,())
theorem MR (k g4 a b c e f h i l m n o p):I8 k g4 (a+1) b c e f h i l m n o p=KV k g4 (I8 k g4 a) b c e f h i l m n o p:=Ba _ _ _ _
abbrev adf:Cut:=⟨[0,3,4,6,15,16,17,27,28,29],[.cell qp,.cell (.sl 365 FN),.own 3 (.int .i64),.box 365 [cI,cI,cI,.cell .bool],.cell (.sl 365 FN),cI,cI,.cell (.sl 365 FN),cI,cI],[],84,[]⟩
def X3 (k:Nat) (g4:OU) (g9:(List jr) -> w9 -> (List Int) -> Int -> Int -> Int -> Bool -> w9 -> Int -> Int -> w9 -> Int -> Int -> Option lq) (a:List jr) (b:List qy) (c:List Int) (e f h:Int) (i:Bool) (l:List qy) (m n:Int) (o:List qy) (p s:Int):Option lq :=
 (bif decide (s<p) then
  ix o s <|
  (ab6 k (rd o s (0,0,0,false)) h).bind fun q1 =>
  (bif q1.1.1 then
   (Zx k (e,f,h,i) (rd o s (0,0,0,false))).bind fun q2 =>
   (bif !q2.1.1 then
    some ((false,()),())
   else
    (ahW k (e,f,h,i) (rd o s (0,0,0,false))).bind fun q3 =>
    (bif !q3.1.1 then
     (Zx k (e,f,h,i) (rd o s (0,0,0,false))).bind fun q4 =>
     (bif !q4.1.1 then
      (Zx k (rd o s (0,0,0,false)) (e,f,h,i)).bind fun q5 =>
      (bif !q5.1.1 then
       some ((false,()),())
      else
       g9 a b c e f h i l m n o p (IntKind.i64.wrap (s+1)))
     else
      g9 a b c e f h i l m n o p (IntKind.i64.wrap (s+1)))
    else
     g9 a b c e f h i l m n o p (IntKind.i64.wrap (s+1))))
  else
   (ahW k (e,f,h,i) (rd o s (0,0,0,false))).bind fun q6 =>
   (bif !q6.1.1 then
    (Zx k (e,f,h,i) (rd o s (0,0,0,false))).bind fun q7 =>
    (bif !q7.1.1 then
     (Zx k (rd o s (0,0,0,false)) (e,f,h,i)).bind fun q8 =>
     (bif !q8.1.1 then
      some ((false,()),())
     else
      g9 a b c e f h i l m n o p (IntKind.i64.wrap (s+1)))
    else
     g9 a b c e f h i l m n o p (IntKind.i64.wrap (s+1)))
   else
    g9 a b c e f h i l m n o p (IntKind.i64.wrap (s+1))))
 else
  I8 k g4 k a b c e f h i e l m n)
def ahY (k:Nat) (g4:OU):Xx (((Unit)×(List jr)×w9×(List Int)×ahL×w9×Int×Int×w9×Int×Int×Unit) -> Option lq):=eu (dw (dh (dh (dh (d9 (dh (dh (dh (dh dx)))) (dh (dh (dh (dh (dh (dh dx))))))))))) (X3 k g4)
def X4 (k:Nat) (g4:OU) (a:Nat) (b:List jr) (c:List qy) (e:List Int) (f h i:Int) (l:Bool) (m:List qy) (n o:Int) (p:List qy) (s t:Int):Option lq:=iter adf (ahY k g4) a ((),b,c,e,(f,h,i,l,()),m,n,o,p,s,t,())
theorem ZA (k g4 a b c e f h i l m n o p s t):X4 k g4 (a+1) b c e f h i l m n o p s t=X3 k g4 (X4 k g4 a) b c e f h i l m n o p s t:=Ba _ _ _ _
abbrev adg:Cut:=⟨[0,3,4,15,16,17],[.cell qp,.cell (.sl 365 FN),.own 3 (.int .i64),.cell (.sl 365 FN),cI,cI],[],84,[]⟩
def X5 (k:Nat) (g4:OU) (a:List jr) (b:List qy) (c:List Int) (e:List qy) (f h:Int):Option lq :=
 (bif decide (h<f) then
  ix e h <|
  (bif decide ((rd e h (0,0,0,false)).2.1≥(IntKind.i64.wrap ((a.length:Int) - 1))) then
   some ((false,()),())
  else
   X4 k g4 k a b c (rd e h (0,0,0,false)).1 (rd e h (0,0,0,false)).2.1 (rd e h (0,0,0,false)).2.2.1 (rd e h (0,0,0,false)).2.2.2 e f h b (b.length:Int) 0)
 else
  (alf k c).bind fun q9 =>
  some ((!q9.1.1,()),()))
def ahZ (k:Nat):Xx (((Unit)×(List jr)×w9×(List Int)×w9×Int×Int×Unit) -> Option lq):=eu (dw (dh (dh (dh (dh (dh (dh dx))))))) (X5 k)
def RU (k a:Nat) (b:List jr) (c:List qy) (e:List Int) (f:List qy) (h i:Int):Option lq:=iter adg (ahZ k) a ((),b,c,e,f,h,i,())
theorem ZB (k a b c e f h i):RU k (a+1) b c e f h i=X5 k (RU k a) b c e f h i:=Ba _ _ _ _
def alg (k:Nat) (a:List jr):Option lq :=
 (ahV k a).bind fun q0 =>
 mk (a.length:Int) (a.length:Int) 8 <|
 RU k k a q0.1.1 (List.replicate (a.length:Int).toNat (0:Int)) q0.1.1 (q0.1.1.length:Int) 0
def F190:Fn:=⟨[EH],[rB],fun k x=>alg k x.1⟩
theorem ok190:O 190 F190:=okF (ah ok193 <| ah ok266 <| ah ok267 <| ah ok268 <| ah ok269 aj) [] (fun k=>(.loop 4 adg (ahZ k) (fun g=>(fun (g4:OU)=>(.loop 15 Zz (ade k g4) (fun g=>.nil) (.loop 9 adf (ahY k g4) (fun g=>.nil) .nil))) (fun l_1 all around t15 t16 t17=>g ((),l_1,all,around,t15,t16,t17,()))) .nil)) Tryz.func190 rfl
abbrev adh:Cut:=⟨[0,3,4,5,11,12,13,19,20],[.cell qp,.own 286 CB,cI,.box 365 [cI,cI,cI,.cell .bool],.own 365 FN,cI,cI,cI,cI],[],38,[]⟩
def X6 (k:Nat) (g3:Zb) (g6:(List jr) -> FP -> Int -> Int -> Int -> Int -> Bool -> w9 -> Int -> Int -> Int -> Int -> Option OV) (a:List jr) (b:List CF) (c e f h:Int) (i:Bool) (l:List qy) (m n o p:Int):Option OV :=
 (bif decide (p<o) then
  (bif decide (c<24) then
   (ab6 k (e,f,h,i) p).bind fun q1 =>
   (bif q1.1.1 then
    ix b p <|
    ax 24 c <|
    g6 a (upd b p (Ur (α:=Bool) 24 (rd b p (Qn (α:=Bool) 24 false)) c true)) c e f h i l m n o (IntKind.i64.wrap (p+1))
   else
    g6 a b c e f h i l m n o (IntKind.i64.wrap (p+1)))
  else
   g6 a b c e f h i l m n o (IntKind.i64.wrap (p+1)))
 else
  g3 a b l m (IntKind.i64.wrap (n+1)))
def ah2 (k:Nat) (g3:Zb):Xx (((Unit)×(List jr)×FP×Int×ahL×w9×Int×Int×Int×Int×Unit) -> Option OV):=eu (dw (dh (dh (dh (d9 (dh (dh (dh (dh dx)))) (dh (dh (dh (dh (dh dx)))))))))) (X6 k g3)
def X7 (k:Nat) (g3:Zb) (a:Nat) (b:List jr) (c:List CF) (e f h i:Int) (l:Bool) (m:List qy) (n o p s:Int):Option OV:=iter adh (ah2 k g3) a ((),b,c,e,(f,h,i,l,()),m,n,o,p,s,())
theorem ZC (k g3 a b c e f h i l m n o p s):X7 k g3 (a+1) b c e f h i l m n o p s=X6 k g3 (X7 k g3 a) b c e f h i l m n o p s:=Ba _ _ _ _
abbrev adi:Cut:=⟨[0,3,11,12,13],[.cell qp,.own 286 CB,.own 365 FN,cI,cI],[],38,[]⟩
def X8 (k:Nat) (g3:Zb) (a:List jr) (b:List CF) (c:List qy) (e f:Int):Option OV :=
 (bif decide (f<e) then
  ix c f <|
  X7 k g3 k a b f (rd c f (0,0,0,false)).1 (rd c f (0,0,0,false)).2.1 (rd c f (0,0,0,false)).2.2.1 (rd c f (0,0,0,false)).2.2.2 c e f (a.length:Int) 0
 else
  some ((b,()),()))
def ah3 (k:Nat):Xx (((Unit)×(List jr)×FP×w9×Int×Int×Unit) -> Option OV):=eu (dw (dh (dh (dh (dh (dh dx)))))) (X8 k)
def RV (k a:Nat) (b:List jr) (c:List CF) (e:List qy) (f h:Int):Option OV:=iter adi (ah3 k) a ((),b,c,e,f,h,())
theorem ZE (k a b c e f h):RV k (a+1) b c e f h=X8 k (RV k a) b c e f h:=Ba _ _ _ _
def ah4 (k:Nat) (a:List jr):Option OV :=
 mk (a.length:Int) (a.length:Int) 24 <|
 (ahV k a).bind fun q0 =>
 RV k k a (List.replicate (a.length:Int).toNat (Qn (α:=Bool) 24 false:PN Bool 24)) q0.1.1 (q0.1.1.length:Int) 0
def F192:Fn:=⟨[EH],[.val ⟨false,(.sl 286 CB),true⟩],fun k x=>ah4 k x.1⟩
theorem ok192:O 192 F192:=okF (ah ok266 <| ah ok267 aj) [] (fun k=>(.loop 3 adi (ah3 k) (fun g=>(fun (g3:Zb)=>(.loop 6 adh (ah2 k g3) (fun g=>.nil) .nil)) (fun l_1 out t11 t12 t13=>g ((),l_1,out,t11,t12,t13,()))) .nil)) Tryz.func192 rfl
def aoO (k:Nat) (a:Int) (b:List jr) (c:Int):Option lq :=
 ix b a <|
 ix b c <|
 some (((rd b a (0,0,0,0)).2.1==(rd b c (0,0,0,0)).2.1,()),())
def F271:Fn:=⟨[au,.pv (.ref qp),Zr],[rB],fun k (a,b,c,_)=>aoO k a b c⟩
theorem ok271:O 271 F271:=okF aj [] On Tryz.func271 rfl
abbrev ZF:Cut:=⟨[0,1,7,8],[.cell uw,.lJ 271 [.ref qp,.ref (.int .i64)],cI,cI],[],19,[]⟩
def Q9 (k:Nat) (g2:(List Int) -> (List jr) -> Int -> Int -> Int -> Option jq) (a:List Int) (b:List jr) (c e f:Int):Option jq :=
 (bif decide (f<e) then
  ix a f <|
  (aoO k (rd a f 0) b c).bind fun q0 =>
  (bif q0.1.1 then
   some ((f,()),())
  else
   g2 a b c e (IntKind.i64.wrap (f+1)))
 else
  some (((-1),()),()))
def adj (k:Nat):Xx (((Unit)×(List Int)×((List jr)×Int×Unit)×Int×Int×Unit) -> Option jq):=eu (dw (dh (d9 (dh (dh dx)) (dh (dh dx))))) (Q9 k)
def EI (k a:Nat) (b:List Int) (c:List jr) (e f h:Int):Option jq:=iter ZF (adj k) a ((),b,(c,e,()),f,h,())
theorem Vs (k a b c e f h):EI k (a+1) b c e f h=Q9 k (EI k a) b c e f h:=Ba _ _ _ _
def ah5 (k:Nat) (a:List Int) (b:List jr) (c:Int):Option jq :=
 EI k k a b c (a.length:Int) 0
def F272a:Fn:=⟨[WX,aqv],[rI],fun k (a,(b,c,_),_)=>ah5 k a b c⟩
theorem ok272a:O 272 F272a:=okF (ah ok271 aj) [] (fun k=>(.loop 2 ZF (adj k) (fun g=>.nil) .nil)) Tryz.func272 rfl
def adk (k:Nat) (a:List Int) (b:List jr) (c:Int):Option lq :=
 (ah5 k a b c).bind fun q0 =>
 some ((decide (q0.1.1≥0),()),())
def F193a:Fn:=⟨[WX,aqv],[rB],fun k (a,(b,c,_),_)=>adk k a b c⟩
theorem ok193a:O 193 F193a:=okF (ah ok272a aj) [] On Tryz.func193 rfl
abbrev ali:Cut:=⟨[1,4,5,6,7,8,9,20,21,22],[.box 52 [.cell qp],.own 3 (.int .i64),.own 3 (.int .i64),.mp 367 true CB false (.int .i64),.cell (.sl 286 CB),.box 3 [cI],.box 286 [.cell .bool,.cell .bool,.cell .bool,.cell .bool,.cell .bool,.cell .bool,.cell .bool,.cell .bool,.cell .bool,.cell .bool,.cell .bool,.cell .bool,.cell .bool,.cell .bool,.cell .bool,.cell .bool,.cell .bool,.cell .bool,.cell .bool,.cell .bool,.cell .bool,.cell .bool,.cell .bool,.cell .bool],.cell (.sl 286 CB),cI,cI],[],110,[]⟩
def RX (k:Nat) (g3:ahJ) (a:List jr) (b c:List Int) (e:List (CF×Int)) (f:List CF) (h:Int) (x i l m n o p s t u v w y z A B C D G H I J K M:Bool) (N:List CF) (O P:Int):Option Zk :=
 ix a h <|
 (bif (rd a h (0,0,0,0)).1==9 then
  (bif decide ((c.length:Int)≥2) then
   some (([],false,()),())
  else
   (adk k c a h).bind fun q1 =>
   (bif q1.1.1 then
    some (([],false,()),())
   else
    ap c ([h]:List Int) 8 fun r2 =>
    g3 a b r2 e f N O (IntKind.i64.wrap (P+1))))
 else
  (bif (rd a h (0,0,0,0)).1==10 then
   (bif decide ((IntKind.i64.wrap ((c.length:Int) - 1))<0) then
    some (([],false,()),())
   else
    ix c (IntKind.i64.wrap ((c.length:Int) - 1)) <|
    ix a (rd c (IntKind.i64.wrap ((c.length:Int) - 1)) 0) <|
    ix a h <|
    (bif (rd a (rd c (IntKind.i64.wrap ((c.length:Int) - 1)) 0) (0,0,0,0)).2.1 != (rd a h (0,0,0,0)).2.1 then
     some (([],false,()),())
    else
     ix c (IntKind.i64.wrap ((c.length:Int) - 1)) <|
     ix f (rd c (IntKind.i64.wrap ((c.length:Int) - 1)) 0) <|
     (bif (Us CB (.int .i64) (rd f (rd c (IntKind.i64.wrap ((c.length:Int) - 1)) 0) (Qn (α:=Bool) 24 false)) e 0) != (Us CB (.int .i64) (x,i,l,m,n,o,p,s,t,u,v,w,y,z,A,B,C,D,G,H,I,J,K,M) e 0) then
      some (([],false,()),())
     else
      ix c (IntKind.i64.wrap ((c.length:Int) - 1)) <|
      ix b (rd c (IntKind.i64.wrap ((c.length:Int) - 1)) 0) <|
      sx c 0 (IntKind.i64.wrap ((c.length:Int) - 1)) <|
      g3 a (upd b (rd c (IntKind.i64.wrap ((c.length:Int) - 1)) 0) h) (c.take (IntKind.i64.wrap ((c.length:Int) - 1)).toNat) e f N O (IntKind.i64.wrap (P+1)))))
  else
   g3 a b c e f N O (IntKind.i64.wrap (P+1))))
abbrev adl:Cut:=⟨[1,4,5,6,7,20,21,22],[.box 52 [.cell qp],.own 3 (.int .i64),.own 3 (.int .i64),.mp 367 true CB false (.int .i64),.cell (.sl 286 CB),.cell (.sl 286 CB),cI,cI],[],110,[]⟩
def X9 (k:Nat) (g3:ahJ) (a:List jr) (b c:List Int) (e:List (CF×Int)) (f h:List CF) (i l:Int):Option Zk :=
 (bif decide (l<i) then
  ix h l <|
  (bif !(Ut CB (.int .i64) (rd h l (Qn (α:=Bool) 24 false)) e) then
   RX k g3 a b c (vL CB (.int .i64) (rd h l (Qn (α:=Bool) 24 false)) l e) f l (rd h l (Qn (α:=Bool) 24 false)).1 (rd h l (Qn (α:=Bool) 24 false)).2.1 (rd h l (Qn (α:=Bool) 24 false)).2.2.1 (rd h l (Qn (α:=Bool) 24 false)).2.2.2.1 (rd h l (Qn (α:=Bool) 24 false)).2.2.2.2.1 (rd h l (Qn (α:=Bool) 24 false)).2.2.2.2.2.1 (rd h l (Qn (α:=Bool) 24 false)).2.2.2.2.2.2.1 (rd h l (Qn (α:=Bool) 24 false)).2.2.2.2.2.2.2.1 (rd h l (Qn (α:=Bool) 24 false)).2.2.2.2.2.2.2.2.1 (rd h l (Qn (α:=Bool) 24 false)).2.2.2.2.2.2.2.2.2.1 (rd h l (Qn (α:=Bool) 24 false)).2.2.2.2.2.2.2.2.2.2.1 (rd h l (Qn (α:=Bool) 24 false)).2.2.2.2.2.2.2.2.2.2.2.1 (rd h l (Qn (α:=Bool) 24 false)).2.2.2.2.2.2.2.2.2.2.2.2.1 (rd h l (Qn (α:=Bool) 24 false)).2.2.2.2.2.2.2.2.2.2.2.2.2.1 (rd h l (Qn (α:=Bool) 24 false)).2.2.2.2.2.2.2.2.2.2.2.2.2.2.1 (rd h l (Qn (α:=Bool) 24 false)).2.2.2.2.2.2.2.2.2.2.2.2.2.2.2.1 (rd h l (Qn (α:=Bool) 24 false)).2.2.2.2.2.2.2.2.2.2.2.2.2.2.2.2.1 (rd h l (Qn (α:=Bool) 24 false)).2.2.2.2.2.2.2.2.2.2.2.2.2.2.2.2.2.1 (rd h l (Qn (α:=Bool) 24 false)).2.2.2.2.2.2.2.2.2.2.2.2.2.2.2.2.2.2.1 (rd h l (Qn (α:=Bool) 24 false)).2.2.2.2.2.2.2.2.2.2.2.2.2.2.2.2.2.2.2.1 (rd h l (Qn (α:=Bool) 24 false)).2.2.2.2.2.2.2.2.2.2.2.2.2.2.2.2.2.2.2.2.1 (rd h l (Qn (α:=Bool) 24 false)).2.2.2.2.2.2.2.2.2.2.2.2.2.2.2.2.2.2.2.2.2.1 (rd h l (Qn (α:=Bool) 24 false)).2.2.2.2.2.2.2.2.2.2.2.2.2.2.2.2.2.2.2.2.2.2.1 (rd h l (Qn (α:=Bool) 24 false)).2.2.2.2.2.2.2.2.2.2.2.2.2.2.2.2.2.2.2.2.2.2.2 h i l
  else
   RX k g3 a b c e f l (rd h l (Qn (α:=Bool) 24 false)).1 (rd h l (Qn (α:=Bool) 24 false)).2.1 (rd h l (Qn (α:=Bool) 24 false)).2.2.1 (rd h l (Qn (α:=Bool) 24 false)).2.2.2.1 (rd h l (Qn (α:=Bool) 24 false)).2.2.2.2.1 (rd h l (Qn (α:=Bool) 24 false)).2.2.2.2.2.1 (rd h l (Qn (α:=Bool) 24 false)).2.2.2.2.2.2.1 (rd h l (Qn (α:=Bool) 24 false)).2.2.2.2.2.2.2.1 (rd h l (Qn (α:=Bool) 24 false)).2.2.2.2.2.2.2.2.1 (rd h l (Qn (α:=Bool) 24 false)).2.2.2.2.2.2.2.2.2.1 (rd h l (Qn (α:=Bool) 24 false)).2.2.2.2.2.2.2.2.2.2.1 (rd h l (Qn (α:=Bool) 24 false)).2.2.2.2.2.2.2.2.2.2.2.1 (rd h l (Qn (α:=Bool) 24 false)).2.2.2.2.2.2.2.2.2.2.2.2.1 (rd h l (Qn (α:=Bool) 24 false)).2.2.2.2.2.2.2.2.2.2.2.2.2.1 (rd h l (Qn (α:=Bool) 24 false)).2.2.2.2.2.2.2.2.2.2.2.2.2.2.1 (rd h l (Qn (α:=Bool) 24 false)).2.2.2.2.2.2.2.2.2.2.2.2.2.2.2.1 (rd h l (Qn (α:=Bool) 24 false)).2.2.2.2.2.2.2.2.2.2.2.2.2.2.2.2.1 (rd h l (Qn (α:=Bool) 24 false)).2.2.2.2.2.2.2.2.2.2.2.2.2.2.2.2.2.1 (rd h l (Qn (α:=Bool) 24 false)).2.2.2.2.2.2.2.2.2.2.2.2.2.2.2.2.2.2.1 (rd h l (Qn (α:=Bool) 24 false)).2.2.2.2.2.2.2.2.2.2.2.2.2.2.2.2.2.2.2.1 (rd h l (Qn (α:=Bool) 24 false)).2.2.2.2.2.2.2.2.2.2.2.2.2.2.2.2.2.2.2.2.1 (rd h l (Qn (α:=Bool) 24 false)).2.2.2.2.2.2.2.2.2.2.2.2.2.2.2.2.2.2.2.2.2.1 (rd h l (Qn (α:=Bool) 24 false)).2.2.2.2.2.2.2.2.2.2.2.2.2.2.2.2.2.2.2.2.2.2.1 (rd h l (Qn (α:=Bool) 24 false)).2.2.2.2.2.2.2.2.2.2.2.2.2.2.2.2.2.2.2.2.2.2.2 h i l)
 else
  (bif decide ((c.length:Int)>0) then
   some (([],false,()),())
  else
   some ((b,true,()),())))
def ah6 (k:Nat):Xx (((Unit)×((List jr)×Unit)×(List Int)×(List Int)×(List (CF×Int))×FP×FP×Int×Int×Unit) -> Option Zk):=eu (dw (d9 (dh dx) (dh (dh (dh (dh (dh (dh (dh dx))))))))) (X9 k)
def MS (k a:Nat) (b:List jr) (c e:List Int) (f:List (CF×Int)) (h i:List CF) (l m:Int):Option Zk:=iter adl (ah6 k) a ((),(b,()),c,e,f,h,i,l,m,())
theorem ZG (k a b c e f h i l m):MS k (a+1) b c e f h i l m=X9 k (MS k a) b c e f h i l m:=Ba _ _ _ _
def ah7 (k:Nat) (a:List jr):Option Zk :=
 mk (a.length:Int) (a.length:Int) 8 <|
 (ah4 k a).bind fun q0 =>
 MS k k a (List.replicate (a.length:Int).toNat (0:Int)) ([]:List Int) ([]:List (CF×Int)) q0.1.1 q0.1.1 (q0.1.1.length:Int) 0
def F191:Fn:=⟨[EH],[ahO,rB],fun k x=>ah7 k x.1⟩
theorem ok191:O 191 F191:=okF (ah ok192 <| ah ok193a aj) [(104,1)] (fun k=>(.loop 3 adl (ah6 k) (fun g=>(fun (g3:ahJ)=>(.join 8 ali (fun (_,(a,_),b,c,e,f,(h,_),(i,l,m,n,o,p,s,t,u,v,w,y,z,A,B,C,D,G,H,I,J,K,M,N,_),O,P,Q,_)=>RX k g3 a b c e f h i l m n o p s t u v w y z A B C D G H I J K M N O P Q) .nil)) (fun l_1 out open_ same all t20 t21 t22=>g ((),(l_1,()),out,open_,same,all,t20,t21,t22,()))) .nil)) Tryz.func191 rfl
def aoP (k:Nat) (a b:Int):Option lq :=
 some ((decide (a>b),()),())
def F194:Fn:=⟨[au,Zr],[rB],fun k x=>aoP k x.1 x.2.1⟩
theorem ok194:O 194 F194:=okF aj [] On Tryz.func194 rfl
abbrev ZH:Cut:=⟨[0,1,7,8],[.cell uw,.lJ 194 [.ref (.int .i64)],cI,cI],[],19,[]⟩
def QA (k:Nat) (g2:(List Int) -> Int -> Int -> Int -> Option jq) (a:List Int) (b c e:Int):Option jq :=
 (bif decide (e<c) then
  ix a e <|
  (aoP k (rd a e 0) b).bind fun q0 =>
  (bif q0.1.1 then
   some ((e,()),())
  else
   g2 a b c (IntKind.i64.wrap (e+1)))
 else
  some (((-1),()),()))
def adn (k:Nat):Xx (((Unit)×(List Int)×Zi×Int×Int×Unit) -> Option jq):=eu (dw (dh (d9 (dh dx) (dh (dh dx))))) (QA k)
def EJ (k a:Nat) (b:List Int) (c e f:Int):Option jq:=iter ZH (adn k) a ((),b,(c,()),e,f,())
theorem Vt (k a b c e f):EJ k (a+1) b c e f=QA k (EJ k a) b c e f:=Ba _ _ _ _
def ah8 (k:Nat) (a:List Int) (b:Int):Option jq :=
 EJ k k a b (a.length:Int) 0
def F272b:Fn:=⟨[WX,.pv (.lJ 194 [.ref (.int .i64)])],[rI],fun k x=>ah8 k x.1 x.2.1.1⟩
theorem ok272b:O 272 F272b:=okF (ah ok194 aj) [] (fun k=>(.loop 2 ZH (adn k) (fun g=>.nil) .nil)) Tryz.func272 rfl
def ado (k:Nat) (a:List Int) (b:Int):Option lq :=
 (ah8 k a b).bind fun q0 =>
 some ((decide (q0.1.1≥0),()),())
def F193b:Fn:=⟨[WX,.pv (.lJ 194 [.ref (.int .i64)])],[rB],fun k x=>ado k x.1 x.2.1.1⟩
theorem ok193b:O 193 F193b:=okF (ah ok272b aj) [] On Tryz.func193 rfl
abbrev ZI:Cut:=⟨[4,6,42,43,44],[.own 3 (.int .i64),.own 286 CB,.cell qp,cI,cI],[],66,[]⟩
def QB (k:Nat) (g11:(List Int) -> FP -> (List jr) -> Int -> Int -> Option lq) (a:List Int) (b:List CF) (c:List jr) (e f:Int):Option lq :=
 (bif decide (f<e) then
  ix c f <|
  (bif (rd c f (0,0,0,0)).1 != 11 then
   g11 a b c e (IntKind.i64.wrap (f+1))
  else
   ix b f <|
   (bif !(fC CB (rd b f (Qn (α:=Bool) 24 false)) (false,false,false,false,false,false,false,false,false,false,false,false,false,false,false,false,false,false,false,false,false,false,false,false)) then
    some ((false,()),())
   else
    sx a 0 f <|
    (ado k (sub a 0 f) f).bind fun q5 =>
    (bif q5.1.1 then
     some ((false,()),())
    else
     g11 a b c e (IntKind.i64.wrap (f+1)))))
 else
  some ((true,()),()))
def adp (k:Nat):Xx (((Unit)×(List Int)×FP×(List jr)×Int×Int×Unit) -> Option lq):=eu (dw (dh (dh (dh (dh (dh dx)))))) (QB k)
def EK (k a:Nat) (b:List Int) (c:List CF) (e:List jr) (f h:Int):Option lq:=iter ZI (adp k) a ((),b,c,e,f,h,())
theorem Vu (k a b c e f h):EK k (a+1) b c e f h=QB k (EK k a) b c e f h:=Ba _ _ _ _
def ab7 (k:Nat) (a:List jr):Option lq :=
 (bif decide ((a.length:Int)<1) then
  some ((false,()),())
 else
  (bif decide ((a.length:Int)>24) then
   some ((false,()),())
  else
   (S57 k a).bind fun q0 =>
   (bif q0.1.1 then
    some ((false,()),())
   else
    (ac9 k a).bind fun q1 =>
    (bif q1.1.1 != (IntKind.i64.wrap ((a.length:Int) - 1)) then
     some ((false,()),())
    else
     (alg k a).bind fun q2 =>
     (bif !q2.1.1 then
      some ((false,()),())
     else
      (ah7 k a).bind fun q3 =>
      (bif !q3.1.2.1 then
       some ((false,()),())
      else
       (ah4 k a).bind fun q4 =>
       EK k k q3.1.1 q4.1.1 a (a.length:Int) 0))))))
def F108:Fn:=⟨[EH],[rB],fun k x=>ab7 k x.1⟩
theorem ok108:O 108 F108:=okF (ah ok57 <| ah ok130a <| ah ok190 <| ah ok191 <| ah ok192 <| ah ok193b aj) [] (fun k=>(.loop 11 ZI (adp k) (fun g=>.nil) .nil)) Tryz.func108 rfl
def ah9 (k:Nat) (a:List jr):Option lq :=
 (bif (a.length:Int)==0 then
  some ((true,()),())
 else
  (ab7 k a).bind fun q0 =>
  some ((q0.1.1,()),()))
def F316:Fn:=⟨[EH],[rB],fun k x=>ah9 k x.1⟩
theorem ok316:O 316 F316:=okF (ah ok108 aj) [] On Tryz.func316 rfl
def aoQ (k:Nat) (a:Int×Int×Int×Int):Option lq :=
 some ((a.1==9,()),())
def F345:Fn:=⟨[agz],[rB],fun k x=>aoQ k x.1⟩
theorem ok345:O 345 F345:=okF aj [] On Tryz.func345 rfl
abbrev ZJ:Cut:=⟨[0,1,7,8],[.cell qp,.lJ 345 [],cI,cI],[],19,[]⟩
def QC (k:Nat) (g2:(List jr) -> Int -> Int -> Option jq) (a:List jr) (b c:Int):Option jq :=
 (bif decide (c<b) then
  ix a c <|
  (aoQ k (rd a c (0,0,0,0))).bind fun q0 =>
  (bif q0.1.1 then
   some ((c,()),())
  else
   g2 a b (IntKind.i64.wrap (c+1)))
 else
  some (((-1),()),()))
def adq (k:Nat):Xx (ahM):=eu (dw (dh (dw (dh (dh dx))))) (QC k)
def I9 (k a:Nat) (b:List jr) (c e:Int):Option jq:=iter ZJ (adq k) a ((),b,(),c,e,())
theorem Vv (k a b c e):I9 k (a+1) b c e=QC k (I9 k a) b c e:=Ba _ _ _ _
def adr (k:Nat) (a:List jr):Option jq :=
 I9 k k a (a.length:Int) 0
def F130b:Fn:=⟨[EH,.pv (.lJ 345 [])],[rI],fun k x=>adr k x.1⟩
theorem ok130b:O 130 F130b:=okF (ah ok345 aj) [] (fun k=>(.loop 2 ZJ (adq k) (fun g=>.nil) .nil)) Tryz.func130 rfl
def aoR (k:Nat) (a:List jr):Option lq :=
 (adr k a).bind fun q0 =>
 some ((decide (q0.1.1≥0),()),())
def F57a:Fn:=⟨[EH,.pv (.lJ 345 [])],[rB],fun k x=>aoR k x.1⟩
theorem ok57a:O 57 F57a:=okF (ah ok130b aj) [] On Tryz.func57 rfl
def alj (k:Nat) (a:List jr):Option lq :=
 (aoR k a).bind fun q0 =>
 some ((q0.1.1,()),())
def F317:Fn:=⟨[EH],[rB],fun k x=>alj k x.1⟩
theorem ok317:O 317 F317:=okF (ah ok57a aj) [] On Tryz.func317 rfl
def aia (k:Nat) (a:Int):Option jq :=
 (bif decide (a<0) then
  some ((IntKind.u64.wrap (0 - (IntKind.u64.wrap a)),()),())
 else
  some ((IntKind.u64.wrap a,()),()))
def F361:Fn:=⟨[au],[.val ⟨false,(.int .u64),true⟩],fun k x=>aia k x.1⟩
theorem ok361:O 361 F361:=okF aj [] On Tryz.func361 rfl
def alk (k:Nat) (a b:Int):Option DV :=
 (bif decide ((Ul .u64 a 32)>0) then
  (bif decide ((Ul .u64 b 32)>0) then
   some ((0,false,()),())
  else
   (bif decide ((Ul .u64 (Uz .u64 (IntKind.u64.wrap ((Ul .u64 a 32) * (IntKind.u64.wrap (IntKind.u32.wrap b)))) (IntKind.u64.wrap ((IntKind.u64.wrap (IntKind.u32.wrap a)) * (Ul .u64 b 32)))) 32)>0) then
    some ((0,false,()),())
   else
    some ((IntKind.u64.wrap ((IntKind.u64.wrap ((IntKind.u64.wrap (IntKind.u32.wrap a)) * (IntKind.u64.wrap (IntKind.u32.wrap b))))+(Uk .u64 (Uz .u64 (IntKind.u64.wrap ((Ul .u64 a 32) * (IntKind.u64.wrap (IntKind.u32.wrap b)))) (IntKind.u64.wrap ((IntKind.u64.wrap (IntKind.u32.wrap a)) * (Ul .u64 b 32)))) 32)),decide ((IntKind.u64.wrap ((IntKind.u64.wrap ((IntKind.u64.wrap (IntKind.u32.wrap a)) * (IntKind.u64.wrap (IntKind.u32.wrap b))))+(Uk .u64 (Uz .u64 (IntKind.u64.wrap ((Ul .u64 a 32) * (IntKind.u64.wrap (IntKind.u32.wrap b)))) (IntKind.u64.wrap ((IntKind.u64.wrap (IntKind.u32.wrap a)) * (Ul .u64 b 32)))) 32)))≥(IntKind.u64.wrap ((IntKind.u64.wrap (IntKind.u32.wrap a)) * (IntKind.u64.wrap (IntKind.u32.wrap b))))),()),())))
 else
  (bif decide ((Ul .u64 (Uz .u64 (IntKind.u64.wrap ((Ul .u64 a 32) * (IntKind.u64.wrap (IntKind.u32.wrap b)))) (IntKind.u64.wrap ((IntKind.u64.wrap (IntKind.u32.wrap a)) * (Ul .u64 b 32)))) 32)>0) then
   some ((0,false,()),())
  else
   some ((IntKind.u64.wrap ((IntKind.u64.wrap ((IntKind.u64.wrap (IntKind.u32.wrap a)) * (IntKind.u64.wrap (IntKind.u32.wrap b))))+(Uk .u64 (Uz .u64 (IntKind.u64.wrap ((Ul .u64 a 32) * (IntKind.u64.wrap (IntKind.u32.wrap b)))) (IntKind.u64.wrap ((IntKind.u64.wrap (IntKind.u32.wrap a)) * (Ul .u64 b 32)))) 32)),decide ((IntKind.u64.wrap ((IntKind.u64.wrap ((IntKind.u64.wrap (IntKind.u32.wrap a)) * (IntKind.u64.wrap (IntKind.u32.wrap b))))+(Uk .u64 (Uz .u64 (IntKind.u64.wrap ((Ul .u64 a 32) * (IntKind.u64.wrap (IntKind.u32.wrap b)))) (IntKind.u64.wrap ((IntKind.u64.wrap (IntKind.u32.wrap a)) * (Ul .u64 b 32)))) 32)))≥(IntKind.u64.wrap ((IntKind.u64.wrap (IntKind.u32.wrap a)) * (IntKind.u64.wrap (IntKind.u32.wrap b))))),()),())))
def F360:Fn:=⟨[.val ⟨false,(.int .u64),false⟩,.val ⟨false,(.int .u64),false⟩],[.val ⟨false,(.int .u64),true⟩,rB],fun k x=>alk k x.1 x.2.1⟩
theorem ok360:O 360 F360:=okF aj [] On Tryz.func360 rfl
def agC (k:Nat) (a:Bool):Option DV :=
 (bif a then
  some (((-9223372036854775808),false,()),())
 else
  some ((9223372036854775807,false,()),()))
def F362:Fn:=⟨[.val ⟨false,.bool,false⟩],[rI,rB],fun k x=>agC k x.1⟩
theorem ok362:O 362 F362:=okF aj [] On Tryz.func362 rfl
abbrev alm:Cut:=⟨[0,1,6,7],[cI,cI,.cell .bool,.cell (.int .u64)],[],45,[]⟩
def Xa (k:Nat) (a b:Int) (c:Bool) (e:Int):Option DV :=
 (aia k a).bind fun q0 =>
 (aia k b).bind fun q1 =>
 (alk k q0.1.1 q1.1.1).bind fun q2 =>
 (bif !q2.1.2.1 then
  (agC k c).bind fun q3 =>
  some (q3.1,())
 else
  (bif decide (q2.1.1>e) then
   (agC k c).bind fun q4 =>
   some (q4.1,())
  else
   (bif c then
    some ((IntKind.i64.wrap (IntKind.u64.wrap (0 - q2.1.1)),true,()),())
   else
    some ((IntKind.i64.wrap q2.1.1,true,()),()))))
def agD (k:Nat) (a b:Int):Option DV :=
 (bif !((decide (a<0))==(decide (b<0))) then
  Xa k a b (!((decide (a<0))==(decide (b<0)))) 9223372036854775808
 else
  Xa k a b (!((decide (a<0))==(decide (b<0)))) 9223372036854775807)
def F356:Fn:=⟨[au,au],[rI,rB],fun k x=>agD k x.1 x.2.1⟩
theorem ok356:O 356 F356:=okF (ah ok360 <| ah ok361 <| ah ok362 aj) [] (fun k=>(.join 5 alm (fun (_,a,b,c,e,_)=>Xa k a b c e) .nil)) Tryz.func356 rfl
abbrev ZK:Cut:=⟨[3,5,6,7,20,21,22],[.own 2 (.int .i64),cI,.box 127 [cI,cI,cI,cI],cI,.cell qp,cI,cI],[],55,[]⟩
def QD (k:Nat) (g8:Zh) (g12:(List Int) -> Int -> Int -> Int -> Int -> Int -> Int -> (List jr) -> Int -> Int -> Option uj) (a:List Int) (b x c e f h:Int) (i:List jr) (l m:Int):Option uj :=
 (bif decide (h <= (IntKind.i64.wrap (b+e))) then
  ix a h <|
  (agD k (rd a h 0) f).bind fun q0 =>
  ix a h <|
  g12 (upd a h q0.1.1) b x c e f (IntKind.i64.wrap (h+1)) i l m
 else
  g8 a i l (IntKind.i64.wrap (m+1)))
def ads (k:Nat) (g8:Zh):Xx (((Unit)×(List Int)×Int×(Int×Int×Int×Int×Unit)×Int×(List jr)×Int×Int×Unit) -> Option uj):=eu (dw (dh (dh (d9 (dh (dh (dh (dh dx)))) (dh (dh (dh (dh dx)))))))) (QD k g8)
def QE (k:Nat) (g8:Zh) (a:Nat) (b:List Int) (c x e f h i:Int) (l:List jr) (m n:Int):Option uj:=iter ZK (ads k g8) a ((),b,c,(x,e,f,h,()),i,l,m,n,())
theorem Vw (k g8 a b c x e f h i l m n):QE k g8 (a+1) b c x e f h i l m n=QD k g8 (QE k g8 a) b c x e f h i l m n:=Ba _ _ _ _
abbrev adt:Cut:=⟨[3,20,21,22],[.own 2 (.int .i64),.cell qp,cI,cI],[],55,[]⟩
def Xb (k:Nat) (g8:Zh) (a:List Int) (b:List jr) (c e:Int):Option uj :=
 (bif decide (e<c) then
  ix b e <|
  (bif (rd b e (0,0,0,0)).1 != 8 then
   g8 a b c (IntKind.i64.wrap (e+1))
  else
   QE k g8 k a e (rd b e (0,0,0,0)).1 (rd b e (0,0,0,0)).2.1 (rd b e (0,0,0,0)).2.2.1 (rd b e (0,0,0,0)).2.2.2 (IntKind.i64.wrap (e+1)) b c e)
 else
  some ((a,()),()))
def aib (k:Nat):Xx (((Unit)×(List Int)×(List jr)×Int×Int×Unit) -> Option uj):=eu (dw (dh (dh (dh (dh dx))))) (Xb k)
def JZ (k a:Nat) (b:List Int) (c:List jr) (e f:Int):Option uj:=iter adt (aib k) a ((),b,c,e,f,())
theorem ZL (k a b c e f):JZ k (a+1) b c e f=Xb k (JZ k a) b c e f:=Ba _ _ _ _
abbrev adu:Cut:=⟨[0,3,12,13],[.cell qp,.own 2 (.int .i64),cI,cI],[],55,[]⟩
def Xc (k:Nat) (g3:(List jr) -> (List Int) -> Int -> Int -> Option uj) (a:List jr) (b:List Int) (c e:Int):Option uj :=
 (bif decide (e<c) then
  ix b e <|
  g3 a (upd b e 1) c (IntKind.i64.wrap (e+1))
 else
  JZ k k b a (a.length:Int) 0)
def aic (k:Nat):Xx (((Unit)×(List jr)×(List Int)×Int×Int×Unit) -> Option uj):=eu (dw (dh (dh (dh (dh dx))))) (Xc k)
def MU (k a:Nat) (b:List jr) (c:List Int) (e f:Int):Option uj:=iter adu (aic k) a ((),b,c,e,f,())
theorem ZM (k a b c e f):MU k (a+1) b c e f=Xc k (MU k a) b c e f:=Ba _ _ _ _
def aln (k:Nat) (a:List jr):Option uj :=
 mk (a.length:Int) (a.length:Int) 8 <|
 MU k k a (List.replicate (a.length:Int).toNat (0:Int)) ((List.replicate (a.length:Int).toNat (0:Int)).length:Int) 0
def F353:Fn:=⟨[EH],[.val ⟨false,JH,true⟩],fun k x=>aln k x.1⟩
theorem ok353:O 353 F353:=okF (ah ok356 aj) [] (fun k=>(.loop 8 adt (aib k) (fun g=>(fun (g8:Zh)=>(.loop 12 ZK (ads k g8) (fun g=>.nil) .nil)) (fun Xd t20 t21 t22=>g ((),Xd,t20,t21,t22,()))) (.loop 3 adu (aic k) (fun g=>.nil) .nil))) Tryz.func353 rfl
def agE (k:Nat) (a b:Int):Option DV :=
 (bif decide ((Um .i64 (Un .i64 a (IntKind.i64.wrap (IntKind.u64.wrap ((IntKind.u64.wrap a)+(IntKind.u64.wrap b))))) (Un .i64 b (IntKind.i64.wrap (IntKind.u64.wrap ((IntKind.u64.wrap a)+(IntKind.u64.wrap b))))))<0) then
  (agC k (decide (a<0))).bind fun q0 =>
  some (q0.1,())
 else
  some ((IntKind.i64.wrap (IntKind.u64.wrap ((IntKind.u64.wrap a)+(IntKind.u64.wrap b))),true,()),()))
def F357:Fn:=⟨[au,au],[rI,rB],fun k x=>agE k x.1 x.2.1⟩
theorem ok357:O 357 F357:=okF (ah ok362 aj) [] On Tryz.func357 rfl
abbrev adw:Cut:=⟨[2,5,6,7],[cI,.cell JH,cI,cI],[],19,[]⟩
def Xe (k:Nat) (g2:Vm) (a:Int) (b:List Int) (c e:Int):Option jq :=
 (bif decide (e<c) then
  ix b e <|
  (agE k a (rd b e 0)).bind fun q0 =>
  g2 q0.1.1 b c (IntKind.i64.wrap (e+1))
 else
  some ((a,()),()))
def aie (k:Nat):Xx (((Unit)×Int×(List Int)×Int×Int×Unit) -> Option jq):=eu (dw (dh (dh (dh (dh dx))))) (Xe k)
def Xf (k a:Nat) (b:Int) (c:List Int) (e f:Int):Option jq:=iter adw (aie k) a ((),b,c,e,f,())
theorem ZN (k a b c e f):Xf k (a+1) b c e f=Xe k (Xf k a) b c e f:=Ba _ _ _ _
def ZO (k:Nat) (a:List Int):Option jq :=
 Xf k k 0 a (a.length:Int) 0
def F354:Fn:=⟨[.val ⟨false,JH,false⟩],[rI],fun k x=>ZO k x.1⟩
theorem ok354:O 354 F354:=okF (ah ok357 aj) [] (fun k=>(.loop 2 adw (aie k) (fun g=>.nil) .nil)) Tryz.func354 rfl
abbrev adx:Cut:=⟨[2,4,5,6,24,25,26],[.box 310 [cI,cI,.own 378 ou],.own 2 (.int .i64),cI,.own 3 (.int .i64),.cell qp,cI,cI],[],75,[]⟩
def Xg (k:Nat) (g7:Int -> Int -> ko -> (List Int) -> Int -> (List Int) -> (List jr) -> Int -> Int -> Option Zd) (a b:Int) (c:o7) (e:List Int) (f:Int) (h:List Int) (i:List jr) (l m:Int):Option Zd :=
 (bif decide (m<l) then
  ix i m <|
  (bif (rd i m (0,0,0,0)).1==11 then
   sx e f (IntKind.i64.wrap (m+1)) <|
   (ZO k (sub e f (IntKind.i64.wrap (m+1)))).bind fun q4 =>
   g7 a (mx b q4.1.1) c e (IntKind.i64.wrap (m+1)) h i l (IntKind.i64.wrap (m+1))
  else
   (bif (rd i m (0,0,0,0)).1==0 then
    sx e f (IntKind.i64.wrap (m+1)) <|
    (ZO k (sub e f (IntKind.i64.wrap (m+1)))).bind fun q5 =>
    g7 a (mx b q5.1.1) c e (IntKind.i64.wrap (m+1)) h i l (IntKind.i64.wrap (m+1))
   else
    (bif (rd i m (0,0,0,0)).1==9 then
     ix h m <|
     sx e (IntKind.i64.wrap (m+1)) (IntKind.i64.wrap ((rd h m 0)+1)) <|
     (ZO k (sub e (IntKind.i64.wrap (m+1)) (IntKind.i64.wrap ((rd h m 0)+1)))).bind fun q6 =>
     ix e m <|
     nz (rd e m 0) <|
     ap c ([((rd i m (0,0,0,0)).2.1,IntKind.i64.wrap (Int.tdiv q6.1.1 (rd e m 0)))]:List (Int×Int)) 16 fun r7 =>
     g7 a b r7 e f h i l (IntKind.i64.wrap (m+1))
    else
     g7 a b c e f h i l (IntKind.i64.wrap (m+1)))))
 else
  some (((a,b,c),true,()),()))
def aif (k:Nat):Xx (((Unit)×(Int×Int×ko×Unit)×(List Int)×Int×(List Int)×(List jr)×Int×Int×Unit) -> Option Zd):=eu (dw (d9 (dh (dh (dh dx))) (dh (dh (dh (dh (dh (dh dx)))))))) (Xg k)
def RY (k a:Nat) (b c:Int) (e:o7) (f:List Int) (h:Int) (i:List Int) (l:List jr) (m n:Int):Option Zd:=iter adx (aif k) a ((),(b,c,e,()),f,h,i,l,m,n,())
theorem ZP (k a b c e f h i l m n):RY k (a+1) b c e f h i l m n=Xg k (RY k a) b c e f h i l m n:=Ba _ _ _ _
def agF (k:Nat) (a:List jr):Option Zd :=
 (ab7 k a).bind fun q0 =>
 (bif !q0.1.1 then
  some (((0,0,[]),false,()),())
 else
  (aln k a).bind fun q1 =>
  (ah7 k a).bind fun q2 =>
  (ZO k q1.1.1).bind fun q3 =>
  RY k k q3.1.1 0 ([]:List (Int×Int)) q1.1.1 0 q2.1.1 a (a.length:Int) 0)
def F346:Fn:=⟨[EH],[.val ⟨true,(.pair (.int .i64) (.pair (.int .i64) (.sl 378 ou))),true⟩,rB],fun k x=>agF k x.1⟩
theorem ok346:O 346 F346:=okF (ah ok108 <| ah ok191 <| ah ok353 <| ah ok354 aj) [(2,2)] (fun k=>(.loop 7 adx (aif k) (fun g=>.nil) .nil)) Tryz.func346 rfl
def agG (k:Nat) (a:List jr):Option jq :=
 (agF k a).bind fun q0 =>
 some ((q0.1.1.1,()),())
def F318:Fn:=⟨[EH],[rI],fun k x=>agG k x.1⟩
theorem ok318:O 318 F318:=okF (ah ok346 aj) [] On Tryz.func318 rfl
def agH (k:Nat) (a:KU):Option jq :=
 (bif decide (a.1<0) then
  some ((1,()),())
 else
  (bif decide (a.1>63) then
   some ((1,()),())
  else
   (bif decide (a.2.1<1) then
    some ((9,()),())
   else
    (bif decide (a.2.1>16384) then
     some ((9,()),())
    else
     (bif decide (a.2.2.1<1) then
      some ((9,()),())
     else
      (bif decide (a.2.2.1>a.2.1) then
       some ((9,()),())
      else
       (ab7 k a.2.2.2.1).bind fun q0 =>
       (bif !q0.1.1 then
        some ((2,()),())
       else
        (ah9 k a.2.2.2.2.1).bind fun q1 =>
        (bif !q1.1.1 then
         some ((2,()),())
        else
         (ah9 k a.2.2.2.2.2).bind fun q2 =>
         (bif !q2.1.1 then
          some ((2,()),())
         else
          (alj k a.2.2.2.2.2).bind fun q3 =>
          (bif q3.1.1 then
           some ((2,()),())
          else
           (agG k a.2.2.2.1).bind fun q4 =>
           (bif decide (q4.1.1>a.2.2.1) then
            some ((10,()),())
           else
            (agG k a.2.2.2.2.1).bind fun q5 =>
            (agG k a.2.2.2.1).bind fun q6 =>
            (bif decide (q5.1.1>q6.1.1) then
             some ((12,()),())
            else
             some ((0,()),())))))))))))))
def F247:Fn:=⟨[Vq],[rI],fun k x=>agH k x.1⟩
theorem ok247:O 247 F247:=okF (ah ok108 <| ah ok316 <| ah ok317 <| ah ok318 aj) [] On Tryz.func247 rfl
def RZ (k:Nat) (a:List jr):Option GD:=qQ 32 127 Vl k (a,())
def F126:Fn:=⟨dJ 127 Vl,iZ 127 Vl,qQ 32 127 Vl⟩
theorem ok126:O 126 F126:=Kz JJ mix Tryz.func126 rfl (by kernel_rfl) (by kernel_rfl) (fun k=>by kernel_rfl) (fun k xs=>by kernel_rfl) (fun k xs=>by kernel_rfl)
def aii (k:Nat) (a:KU):Option ((j4×Unit)×Unit) :=
 (RZ k a.2.2.2.1).bind fun q0 =>
 (RZ k a.2.2.2.2.1).bind fun q1 =>
 (RZ k a.2.2.2.2.2).bind fun q2 =>
 some (((a.1,a.2.1,a.2.2.1,q0.1.1,q1.1.1,q2.1.1),()),())
def F248:Fn:=⟨[Vq],[.val ⟨true,BL,true⟩],fun k x=>aii k x.1⟩
theorem ok248:O 248 F248:=okF (ah ok126 aj) [] On Tryz.func248 rfl
def aoS (k:Nat) (x a:KU):Option lq :=
 some ((decide (x.1>a.1),()),())
def F249:Fn:=⟨[Vq,.pv (.ref BL)],[rB],fun k x=>aoS k x.1 x.2.1⟩
theorem ok249:O 249 F249:=okF aj [] On Tryz.func249 rfl
abbrev ady:Cut:=⟨[0,1,7,8],[.cell qd,.lJ 249 [.ref BL],cI,cI],[],19,[]⟩
def Xh (k:Nat) (g2:(List j4) -> j4 -> Int -> Int -> Option jq) (a:List j4) (b:KU) (c e:Int):Option jq :=
 (bif decide (e<c) then
  ix a e <|
  (aoS k (rd a e bg) b).bind fun q0 =>
  (bif q0.1.1 then
   some ((e,()),())
  else
   g2 a b c (IntKind.i64.wrap (e+1)))
 else
  some (((-1),()),()))
def aij (k:Nat):Xx (((Unit)×(List j4)×(j4×Unit)×Int×Int×Unit) -> Option jq):=eu (dw (dh (d9 (dh dx) (dh (dh dx))))) (Xh k)
def K3 (k a:Nat) (b:List j4) (c:KU) (e f:Int):Option jq:=iter ady (aij k) a ((),b,(c,()),e,f,())
theorem ZQ (k a b c e f):K3 k (a+1) b c e f=Xh k (K3 k a) b c e f:=Ba _ _ _ _
def aoT (k:Nat) (a:List j4) (b:KU):Option jq :=
 K3 k k a b (a.length:Int) 0
def F132:Fn:=⟨[Zp,.pv (.lJ 249 [.ref BL])],[rI],fun k x=>aoT k x.1 x.2.1.1⟩
theorem ok132:O 132 F132:=okF (ah ok249 aj) [] (fun k=>(.loop 2 ady (aij k) (fun g=>.nil) .nil)) Tryz.func132 rfl
section
variable (w:World) {g n c i g2 m c2:Nat}
theorem DX:Tryz.prog.underlying 29=some (.slice 54) /\ Tryz.prog.underlying 3=some (.int .i64) /\ Tryz.prog.underlying 4=some .bool /\ Tryz.prog.follows .mixedOrders=true /\ (∀ w,(Go.sizeOf 54).run Tryz.prog w=.ok 6 w) /\ Tryz.f250.ntmps=95:=⟨by kernel_rfl,by kernel_rfl,by kernel_rfl,by kernel_rfl,fun w=>by kernel_rfl,rfl⟩
theorem Xi {v u:Value} (hv:(∃ A n c,v=.slice A n c /\ i <= n)) (hu:∃ A c,u=.slice A m c) (hm:m=0):Calls Tryz.prog 250 #[v,.int .i64 i,u] w fun e w'=>e=.returned v /\ w'=w:=by
 obtain ⟨t24,t3,t4,mixed,z36,hnt⟩:=DX
 have u24:=run_underlying t24;have u3:=run_underlying t3;have u4:=run_underlying t4
 obtain ⟨A,n,c,rfl,hi⟩:=hv
 obtain ⟨A2,c2,rfl⟩:=hu
 have hi0:(i:Int) <= (n:Int):=by omega
 have hz1:(m:Int)=0:=by omega
 cases A <;> (go_enter Tryz.func250,hnt;go_wp2 <;> (go_ret;exact ⟨rfl,rfl⟩))
theorem ZR {v:Value} {w':World} {v':Value} (hv:(∃ A c,v=.slice A n c)) (hm:0<m)
  (hr:∀ ty,(Builtin.append_ #[29,29] ty #[v,.slice (some ⟨g2,0,none⟩) m c2]).run Tryz.prog w=.ok v' w'):Calls Tryz.prog 250 #[v,.int .i64 n,.slice (some ⟨g2,0,none⟩) m c2] w fun e w1=>e=.returned v' /\ w1=w':=by
 obtain ⟨t24,t3,t4,mixed,z36,hnt⟩:=DX
 have u24:=run_underlying t24;have u3:=run_underlying t3;have u4:=run_underlying t4
 have hz1:¬ ((m:Int)=0):=by omega
 obtain ⟨A,c,rfl⟩:=hv
 go_enter Tryz.func250,hnt
 go_wp2_with (at_builtin;refine Gx rfl rfl _ _ rfl rfl (hr _) ?_)
 all_goals (go_ret;exact ⟨rfl,rfl⟩)
theorem Va {v' v'':Value} {w' w'':World} (hi:i<n) (hm:0<m) (hroom:n+m <= c) (hc63:c <= 9223372036854775807)
  (hov:∀ lb cb,(callFunc 319 #[.slice (some ⟨g2,0,none⟩) m c2,.slice (some ⟨g,(i+m) * 6,none⟩) lb cb]).run Tryz.prog w=.ok (.value (.bool false)) w)
  (hcp1:∀ ty dc sc,(Builtin.copy_ #[29,29] ty #[.slice (some ⟨g,(i+m) * 6,none⟩) (n+m - (i+m)) dc,.slice (some ⟨g,i * 6,none⟩) (n+m - i) sc]).run Tryz.prog w.drew=.ok v' w')
  (hcp2:∀ ty dc,(Builtin.copy_ #[29,29] ty #[.slice (some ⟨g,i * 6,none⟩) (n+m - i) dc,.slice (some ⟨g2,0,none⟩) m c2]).run Tryz.prog w'=.ok v'' w'') :
  Calls Tryz.prog 250 #[.slice (some ⟨g,0,none⟩) n c,.int .i64 i,.slice (some ⟨g2,0,none⟩) m c2] w fun e w1=>e=.returned (.slice (some ⟨g,0,none⟩) (n+m) c) /\ w1=w'':=by
 obtain ⟨t24,t3,t4,mixed,z36,hnt⟩:=DX
 have u24:=run_underlying t24;have u3:=run_underlying t3;have u4:=run_underlying t4
 have hz1:¬ ((m:Int)=0):=by omega
 have hz2:¬ ((i:Int)=(n:Int)):=by omega
 have hw1:IntKind.i64.wrap ((i:Int)+(m:Int))=(i:Int)+(m:Int):=by rw [IntKind.wrap_i64];omega
 have hb1:(0:Int) <= (i:Int)+(m:Int):=by omega
 have hin:i <= n:=by omega
 have htn:((i:Int)+(m:Int)).toNat=i+m:=by omega
 have hb2:¬ (c=i+m):=by omega
 have hb3:(i:Int) <= (n:Int)+(m:Int):=by omega
 have hb4:¬ (c=i):=by omega
 go_enter Tryz.func250,hnt
 go_wp2_with (simp only [hov])
 go_region_law_o (refine Jp rfl rfl _ _ (by simp [Act.eval,Act.put]) (by simp [Act.eval,Act.put]) (hcp1 _ _ _) ?_)
 go_wp2_with (at_builtin;refine Jo rfl rfl _ _ rfl rfl (hcp2 _ _) ?_)
 go_ret
 exact ⟨rfl,rfl⟩
theorem Xj {h G:Nat} {v' v'':Value} {w0 w' w'':World} (hi:i<n) (hm:0<m) (hnc:n <= c) (hroom:c<n+m) (hc63:n+m <= 140737488355328) (hG:n+m <= G) (hG63:G <= 9223372036854775807)
  (hrz:∀ ty,(Builtin.append_ #[29,3] ty #[.slice (some ⟨g,0,none⟩) i c,.int .i64 ((n:Int)+(m:Int) - (i:Int))]).run Tryz.prog w=.ok (.slice (some ⟨h,0,none⟩) (n+m) G) w0)
  (hcp1:∀ ty dc,(Builtin.copy_ #[29,29] ty #[.slice (some ⟨h,i * 6,none⟩) (n+m - i) dc,.slice (some ⟨g2,0,none⟩) m c2]).run Tryz.prog w0=.ok v' w')
  (hcp2:∀ ty dc sc,(Builtin.copy_ #[29,29] ty #[.slice (some ⟨h,(i+m) * 6,none⟩) (n+m - (i+m)) dc,.slice (some ⟨g,i * 6,none⟩) (n - i) sc]).run Tryz.prog w'.drew=.ok v'' w'') :
  Calls Tryz.prog 250 #[.slice (some ⟨g,0,none⟩) n c,.int .i64 i,.slice (some ⟨g2,0,none⟩) m c2] w fun e w1=>e=.returned (.slice (some ⟨h,0,none⟩) (n+m) G) /\ w1=w'':=by
 obtain ⟨t24,t3,t4,mixed,z36,hnt⟩:=DX
 have u24:=run_underlying t24;have u3:=run_underlying t3;have u4:=run_underlying t4
 have hz1:¬ ((m:Int)=0):=by omega
 have hz2:¬ ((i:Int)=(n:Int)):=by omega
 have hz3:(c:Int)<(n:Int)+(m:Int):=by omega
 have hw1:IntKind.i64.wrap ((i:Int)+(m:Int))=(i:Int)+(m:Int):=by rw [IntKind.wrap_i64];omega
 have hb1:(0:Int) <= (i:Int)+(m:Int):=by omega
 have hin:i <= n:=by omega
 have htn:((i:Int)+(m:Int)).toNat=i+m:=by omega
 have hGi:¬ (G=i):=by omega
 have hGim:¬ (G=i+m):=by omega
 have hci:¬ (c=i):=by omega
 have hb3:(i:Int) <= (n:Int):=by omega
 go_enter Tryz.func250,hnt
 go_wp2_with (first
  | (at_builtin;refine Gx rfl rfl _ _ rfl rfl (hrz _) ?_)
  | (at_builtin;refine Jo rfl rfl _ _ rfl rfl (hcp1 _ _) ?_))
 go_region_law_o (refine Jp rfl rfl _ _ (by simp [Act.eval,Act.put]) (by simp [Act.eval,Act.put]) (hcp2 _ _ _) ?_)
 go_wp2
 go_ret
 exact ⟨rfl,rfl⟩
end
abbrev arR:List PT:=eG 54 BL
abbrev arS:List RT:=qU 54 BL
def aoU (k:Nat) (a:List j4) (b:Int) (c:List j4):Option (((List j4)×Unit)×Unit):=Jg 96 54 BL k (a,b,c,())
def F250:Fn:=⟨arR,arS,Jg 96 54 BL⟩
def aqz:Env:=tab.env (fun _=>none) (fun _=>0)
theorem alo:aH Tryz.prog aqz:=Kw Rt _ _ (fun f F h=>by cases h)
theorem ok250:O 250 F250:=by
 obtain ⟨i0,z,a1,a2,a3,a4,a5⟩:=(alo.ty 54 (BL) (by kernel_rfl)).info
 have b1:aqz.lK 54=96:=by kernel_rfl
 have b2:Ty.sz (BL)=6:=rfl
 rw [b1] at a3
 have hz:z.cells.size=6:=by rw [<- Array.length_toList,a5,gZ,b2]
 obtain ⟨t24,t3,t4,mixed,z36,hnt⟩:=DX
 refine Qq Tryz.func250 rfl (by kernel_rfl) ?_
 rw [b2,<- a3]
 refine Mq (S:=29) (z:=z) t24 t3 a1 a4 (by rw [a2,b2]) hz (by decide) (by rw [a3];decide) (fun w i m v u h1 h2 h3=>Xi w h1 h2 h3) (fun w n g2 m c2 v v' w' h1 h2 h3=>ZR w h1 h2 h3) (fun w g n c i g2 m c2 v' v'' w' w'' h1 h2 h3 h4 h5 h6 hne hg hg2=>Va w h1 h2 h3 h4 (fun lb cb=>?_) h5 h6) (fun w g n c i g2 m c2 h G v' v'' w0 w' w'' h1 h2 h3 h4 h5 h6 h7 h8 h9 h10=>Xj w h1 h2 h3 h4 h5 h6 h7 h8 h9 h10)
 obtain ⟨cur,q1,q2⟩:=hg
 obtain ⟨xE,q3⟩:=hg2
 rw [run_callFunc_extern Tryz.func319 (by kernel_rfl) (by kernel_rfl) (by kernel_rfl) (e:=Extern.SlicesOverlaps.overlaps #[29,29] #[4]) (by kernel_rfl),Lib.run_overlaps_apart w 29 4 54 t24 6 z36 ⟨g2,0,none⟩ ⟨g,(i+m) * 6,none⟩ m c2 lb cb hne 54 54 xE.size cur.size (by simp [World.shape?,q3]) (by simp [World.shape?,q1]) q2 (Kd.fQ q3 _) (Kd.fQ q3 _)]
 rfl
abbrev adz:Cut:=⟨[0,5,6,7],[.cell qd,.cell qd,cI,cI],[],31,[]⟩
def Xk (k:Nat) (g2:(List j4) -> (List j4) -> Int -> Int -> Option lq) (a b:List j4) (c e:Int):Option lq :=
 (bif decide (e<c) then
  ix b e <|
  (agH k (rd b e bg)).bind fun q0 =>
  (bif q0.1.1 != 0 then
   some ((false,()),())
  else
   (bif decide (e>0) then
    ix a (IntKind.i64.wrap (e - 1)) <|
    (bif decide ((rd a (IntKind.i64.wrap (e - 1)) bg).1≥(rd b e bg).1) then
     some ((false,()),())
    else
     g2 a b c (IntKind.i64.wrap (e+1)))
   else
    g2 a b c (IntKind.i64.wrap (e+1))))
 else
  some ((true,()),()))
def aik (k:Nat):Xx (((Unit)×(List j4)×(List j4)×Int×Int×Unit) -> Option lq):=eu (dw (dh (dh (dh (dh dx))))) (Xk k)
def MV (k a:Nat) (b c:List j4) (e f:Int):Option lq:=iter adz (aik k) a ((),b,c,e,f,())
theorem ZT (k a b c e f):MV k (a+1) b c e f=Xk k (MV k a) b c e f:=Ba _ _ _ _
def alp (k:Nat) (a:List j4):Option lq :=
 MV k k a a (a.length:Int) 0
def F348:Fn:=⟨[Zp],[rB],fun k x=>alp k x.1⟩
theorem ok348:O 348 F348:=okF (ah ok247 aj) [] (fun k=>(.loop 2 adz (aik k) (fun g=>.nil) .nil)) Tryz.func348 rfl
def aoV (k:Nat) (a:Int):Option AX :=
 (bif decide (a<0) then
  none
 else
  (bif decide ((IntKind.i64.wrap (a - 0))>0) then
   az ([]:List (Int×Int)) (IntKind.i64.wrap (a - 0)) 16 (0,0) fun r0 =>
   sx r0 0 0 <|
   some ((r0.take 0,()),())
  else
   some (([],()),())))
def F359:Fn:=⟨[.pv (.nil),au],[aoK],fun k x=>aoV k x.2.1⟩
theorem ok359:O 359 F359:=okF aj [(25,1)] On Tryz.func359 rfl
abbrev ZU:Cut:=⟨[6,25,26,27],[.own 378 ou,.cell (.sl 308 (.sl 378 ou)),cI,cI],[],36,[]⟩
def KX (k:Nat) (g11:ko -> (List ko) -> Int -> Int -> Option AX) (a:o7) (b:List ko) (c e:Int):Option AX :=
 (bif decide (e<c) then
  ix b e <|
  ap a (rd b e []) 16 fun r1 =>
  g11 r1 b c (IntKind.i64.wrap (e+1))
 else
  some ((a,()),()))
def adA (k:Nat):Xx (((Unit)×ko×(List ko)×Int×Int×Unit) -> Option AX):=eu (dw (dh (dh (dh (dh dx))))) (KX k)
def KY (k a:Nat) (b:o7) (c:List ko) (e f:Int):Option AX:=iter ZU (adA k) a ((),b,c,e,f,())
theorem MW (k a b c e f):KY k (a+1) b c e f=KX k (KY k a) b c e f:=Ba _ _ _ _
abbrev adB:Cut:=⟨[0,3,9,10,11],[.cell (.sl 308 (.sl 378 ou)),cI,.cell (.sl 308 (.sl 378 ou)),cI,cI],[],36,[]⟩
def S9 (k:Nat) (g3:(List ko) -> Int -> (List ko) -> Int -> Int -> Option AX) (a:List ko) (b:Int) (c:List ko) (e f:Int):Option AX :=
 (bif decide (f<e) then
  ix c f <|
  (bif decide ((IntKind.i64.wrap (b+((rd c f []).length:Int)))<0) then
   none
  else
   g3 a (IntKind.i64.wrap (b+((rd c f []).length:Int))) c e (IntKind.i64.wrap (f+1)))
 else
  (aoV k b).bind fun q0 =>
  KY k k q0.1.1 a (a.length:Int) 0)
def ail (k:Nat):Xx (((Unit)×(List ko)×Int×(List ko)×Int×Int×Unit) -> Option AX):=eu (dw (dh (dh (dh (dh (dh dx)))))) (S9 k)
def Xl (k a:Nat) (b:List ko) (c:Int) (e:List ko) (f h:Int):Option AX:=iter adB (ail k) a ((),b,c,e,f,h,())
theorem SA (k a b c e f h):Xl k (a+1) b c e f h=S9 k (Xl k a) b c e f h:=Ba _ _ _ _
def ain (k:Nat) (a:List ko):Option AX :=
 Xl k k a 0 a (a.length:Int) 0
def F351:Fn:=⟨[.val ⟨false,(.sl 308 (.sl 378 ou)),false⟩],[aoK],fun k x=>ain k x.1⟩
theorem ok351:O 351 F351:=okF (ah ok359 aj) [] (fun k=>(.loop 11 ZU (adA k) (fun g=>.nil) (.loop 3 adB (ail k) (fun g=>.nil) .nil))) Tryz.func351 rfl
def ZV (k:Nat) (a:KU):Option ((Int×Int×ko×Unit)×Unit) :=
 (agH k a).bind fun q0 =>
 (bif q0.1.1 != 0 then
  some ((0,0,[],()),())
 else
  (agF k a.2.2.2.1).bind fun q1 =>
  (agF k a.2.2.2.2.1).bind fun q2 =>
  (bif q2.1.2.1 then
   (ain k ([q1.1.1.2.2,q2.1.1.2.2]:List ko)).bind fun q3 =>
   some ((q1.1.1.1,q2.1.1.1,q3.1.1,()),())
  else
   (ain k ([q1.1.1.2.2,q2.1.1.2.2]:List ko)).bind fun q4 =>
   some ((q1.1.1.1,q1.1.1.2.1,q4.1.1,()),())))
def F322:Fn:=⟨[Vq],[rI,rI,aoK],fun k x=>ZV k x.1⟩
theorem ok322:O 322 F322:=okF (ah ok247 <| ah ok346 <| ah ok351 aj) [] On Tryz.func322 rfl
def aoW (k:Nat) (a:Int):Option GD :=
 (bif decide (a<0) then
  none
 else
  (bif decide ((IntKind.i64.wrap (a - 0))>0) then
   az ([]:List jr) (IntKind.i64.wrap (a - 0)) 32 (0,0,0,0) fun r0 =>
   sx r0 0 0 <|
   some ((r0.take 0,()),())
  else
   some (([],()),())))
def F131:Fn:=⟨[.pv (.nil),au],[.val ⟨false,qp,true⟩],fun k x=>aoW k x.2.1⟩
theorem ok131:O 131 F131:=okF aj [(25,1)] On Tryz.func131 rfl
abbrev adC:Cut:=⟨[6,25,26,27],[.own 127 Vl,.cell (.sl 52 qp),cI,cI],[],36,[]⟩
def SB (k:Nat) (g11:(List jr) -> Vn -> Int -> Int -> Option GD) (a:List jr) (b:List (List jr)) (c e:Int):Option GD :=
 (bif decide (e<c) then
  ix b e <|
  ap a (rd b e []) 32 fun r1 =>
  g11 r1 b c (IntKind.i64.wrap (e+1))
 else
  some ((a,()),()))
def aio (k:Nat):Xx (((Unit)×(List jr)×Vn×Int×Int×Unit) -> Option GD):=eu (dw (dh (dh (dh (dh dx))))) (SB k)
def SC (k a:Nat) (b:List jr) (c:List (List jr)) (e f:Int):Option GD:=iter adC (aio k) a ((),b,c,e,f,())
theorem SE (k a b c e f):SC k (a+1) b c e f=SB k (SC k a) b c e f:=Ba _ _ _ _
abbrev aip:Cut:=⟨[0,3,9,10,11],[.cell (.sl 52 qp),cI,.cell (.sl 52 qp),cI,cI],[],36,[]⟩
def ZW (k:Nat) (g3:Vn -> Int -> Vn -> Int -> Int -> Option GD) (a:List (List jr)) (b:Int) (c:List (List jr)) (e f:Int):Option GD :=
 (bif decide (f<e) then
  ix c f <|
  (bif decide ((IntKind.i64.wrap (b+((rd c f []).length:Int)))<0) then
   none
  else
   g3 a (IntKind.i64.wrap (b+((rd c f []).length:Int))) c e (IntKind.i64.wrap (f+1)))
 else
  (aoW k b).bind fun q0 =>
  SC k k q0.1.1 a (a.length:Int) 0)
def an5 (k:Nat):Xx (((Unit)×Vn×Int×Vn×Int×Int×Unit) -> Option GD):=eu (dw (dh (dh (dh (dh (dh dx)))))) (ZW k)
def adD (k a:Nat) (b:List (List jr)) (c:Int) (e:List (List jr)) (f h:Int):Option GD:=iter aip (an5 k) a ((),b,c,e,f,h,())
theorem Xm (k a b c e f h):adD k (a+1) b c e f h=ZW k (adD k a) b c e f h:=Ba _ _ _ _
def S58 (k:Nat) (a:List (List jr)):Option GD :=
 adD k k a 0 a (a.length:Int) 0
def F58:Fn:=⟨[.val ⟨false,(.sl 52 qp),false⟩],[.val ⟨false,qp,true⟩],fun k x=>S58 k x.1⟩
theorem ok58:O 58 F58:=okF (ah ok131 aj) [] (fun k=>(.loop 11 adC (aio k) (fun g=>.nil) (.loop 3 aip (an5 k) (fun g=>.nil) .nil))) Tryz.func58 rfl
def aoX (k:Nat) (a:Int×Int×Int×Int) (b:Int):Option lq :=
 (bif a.1==9 then
  some ((a.2.1==b,()),())
 else
  some ((false,()),()))
def F134:Fn:=⟨[agz,Zr],[rB],fun k x=>aoX k x.1 x.2.1⟩
theorem ok134:O 134 F134:=okF aj [] On Tryz.func134 rfl
abbrev ZX:Cut:=⟨[0,1,7,8],[.cell qp,.lJ 134 [.ref (.int .i64)],cI,cI],[],19,[]⟩
def QF (k:Nat) (g2:(List jr) -> Int -> Int -> Int -> Option jq) (a:List jr) (b c e:Int):Option jq :=
 (bif decide (e<c) then
  ix a e <|
  (aoX k (rd a e (0,0,0,0)) b).bind fun q0 =>
  (bif q0.1.1 then
   some ((e,()),())
  else
   g2 a b c (IntKind.i64.wrap (e+1)))
 else
  some (((-1),()),()))
def adE (k:Nat):Xx (((Unit)×(List jr)×Zi×Int×Int×Unit) -> Option jq):=eu (dw (dh (d9 (dh dx) (dh (dh dx))))) (QF k)
def IB (k a:Nat) (b:List jr) (c e f:Int):Option jq:=iter ZX (adE k) a ((),b,(c,()),e,f,())
theorem Vx (k a b c e f):IB k (a+1) b c e f=QF k (IB k a) b c e f:=Ba _ _ _ _
def adF (k:Nat) (a:List jr) (b:Int):Option jq :=
 IB k k a b (a.length:Int) 0
def F130c:Fn:=⟨[EH,.pv (.lJ 134 [.ref (.int .i64)])],[rI],fun k x=>adF k x.1 x.2.1.1⟩
theorem ok130c:O 130 F130c:=okF (ah ok134 aj) [] (fun k=>(.loop 2 ZX (adE k) (fun g=>.nil) .nil)) Tryz.func130 rfl
def aoY (k:Nat) (a:List jr) (b:Int):Option lq :=
 (adF k a b).bind fun q0 =>
 some ((decide (q0.1.1≥0),()),())
def F57b:Fn:=⟨[EH,.pv (.lJ 134 [.ref (.int .i64)])],[rB],fun k x=>aoY k x.1 x.2.1.1⟩
theorem ok57b:O 57 F57b:=okF (ah ok130c aj) [] On Tryz.func57 rfl
def alq (k:Nat) (a:KU) (b:Int):Option lq :=
 (S58 k ([a.2.2.2.1,a.2.2.2.2.1]:List (List jr))).bind fun q0 =>
 (aoY k q0.1.1 b).bind fun q1 =>
 some ((q1.1.1,()),())
def F133:Fn:=⟨[Vq,Zr],[rB],fun k x=>alq k x.1 x.2.1⟩
theorem ok133:O 133 F133:=okF (ah ok57b <| ah ok58 aj) [] On Tryz.func133 rfl
abbrev ZY:Cut:=⟨[0,1,7,8],[.cell qd,.lJ 133 [.ref (.int .i64)],cI,cI],[],19,[]⟩
def QG (k:Nat) (g2:(List j4) -> Int -> Int -> Int -> Option jq) (a:List j4) (b c e:Int):Option jq :=
 (bif decide (e<c) then
  ix a e <|
  (alq k (rd a e bg) b).bind fun q0 =>
  (bif q0.1.1 then
   some ((e,()),())
  else
   g2 a b c (IntKind.i64.wrap (e+1)))
 else
  some (((-1),()),()))
def adG (k:Nat):Xx (((Unit)×(List j4)×Zi×Int×Int×Unit) -> Option jq):=eu (dw (dh (d9 (dh dx) (dh (dh dx))))) (QG k)
def EL (k a:Nat) (b:List j4) (c e f:Int):Option jq:=iter ZY (adG k) a ((),b,(c,()),e,f,())
theorem Vy (k a b c e f):EL k (a+1) b c e f=QG k (EL k a) b c e f:=Ba _ _ _ _
def aiq (k:Nat) (a:List j4) (b:Int):Option jq :=
 EL k k a b (a.length:Int) 0
def F132a:Fn:=⟨[Zp,.pv (.lJ 133 [.ref (.int .i64)])],[rI],fun k x=>aiq k x.1 x.2.1.1⟩
theorem ok132a:O 132 F132a:=okF (ah ok133 aj) [] (fun k=>(.loop 2 ZY (adG k) (fun g=>.nil) .nil)) Tryz.func132 rfl
def S60 (k:Nat) (a:List j4) (b:Int):Option jq :=
 (aiq k a b).bind fun q0 =>
 (bif decide (q0.1.1<0) then
  some ((8,()),())
 else
  some ((q0.1.1,()),()))
def F60:Fn:=⟨[Zp,au],[rI],fun k x=>S60 k x.1 x.2.1⟩
theorem ok60:O 60 F60:=okF (ah ok132a aj) [] On Tryz.func60 rfl
abbrev air:Cut:=⟨[0,1,4,5,12,16,17,18,32,33,34],[.cell qd,cI,cI,.mp 431 true (.int .i64) false (.int .i64),.box 378 [cI,cI],.cell qd,cI,cI,.own 378 ou,cI,cI],[],70,[]⟩
def KZ (k:Nat) (g3:Vk) (g8:ahK) (a:List j4) (b c:Int) (e:o7) (x f:Int) (h:List j4) (i l:Int) (m:o7) (n o:Int):Option jq :=
 (bif decide ((Us (.int .i64) (.int .i64) x e 0) <= b) then
  g8 a b (mx c f) e h i l m n (IntKind.i64.wrap (o+1))
 else
  g8 a b c e h i l m n (IntKind.i64.wrap (o+1)))
abbrev adH:Cut:=⟨[0,1,4,5,16,17,18,32,33,34],[.cell qd,cI,cI,.mp 431 true (.int .i64) false (.int .i64),.cell qd,cI,cI,.own 378 ou,cI,cI],[],70,[]⟩
def Xn (k:Nat) (g3:Vk) (g8:ahK) (a:List j4) (b c:Int) (e:o7) (f:List j4) (h i:Int) (l:o7) (m n:Int):Option jq :=
 (bif decide (n<m) then
  ix l n <|
  (bif !(Ut (.int .i64) (.int .i64) (rd l n (0,0)).1 e) then
   (S60 k a (rd l n (0,0)).1).bind fun q1 =>
   KZ k g3 g8 a b c (vL (.int .i64) (.int .i64) (rd l n (0,0)).1 q1.1.1 e) (rd l n (0,0)).1 (rd l n (0,0)).2 f h i l m n
  else
   KZ k g3 g8 a b c e (rd l n (0,0)).1 (rd l n (0,0)).2 f h i l m n)
 else
  g3 a b c e f h (IntKind.i64.wrap (i+1)))
def ais (k:Nat) (g3:Vk):Xx (((Unit)×(List j4)×Int×Int×ko×(List j4)×Int×Int×ko×Int×Int×Unit) -> Option jq):=eu (dw (dh (dh (dh (dh (dh (dh (dh (dh (dh (dh dx))))))))))) (Xn k g3)
def SF (k:Nat) (g3:Vk) (a:Nat) (b:List j4) (c e:Int) (f:o7) (h:List j4) (i l:Int) (m:o7) (n o:Int):Option jq:=iter adH (ais k g3) a ((),b,c,e,f,h,i,l,m,n,o,())
theorem aac (k g3 a b c e f h i l m n o):SF k g3 (a+1) b c e f h i l m n o=Xn k g3 (SF k g3 a) b c e f h i l m n o:=Ba _ _ _ _
abbrev adI:Cut:=⟨[0,1,4,5,16,17,18],[.cell qd,cI,cI,.mp 431 true (.int .i64) false (.int .i64),.cell qd,cI,cI],[],70,[]⟩
def Xo (k:Nat) (g3:Vk) (a:List j4) (b c:Int) (e:o7) (f:List j4) (h i:Int):Option jq :=
 (bif decide (i<h) then
  ix f i <|
  (bif i==b then
   g3 a b c e f h (IntKind.i64.wrap (i+1))
  else
   (ZV k (rd f i bg)).bind fun q0 =>
   SF k g3 k a b c e f h i q0.1.2.2.1 (q0.1.2.2.1.length:Int) 0)
 else
  some ((c,()),()))
def ait (k:Nat):Xx (((Unit)×(List j4)×Int×Int×ko×(List j4)×Int×Int×Unit) -> Option jq):=eu (dw (dh (dh (dh (dh (dh (dh (dh dx)))))))) (Xo k)
def SG (k a:Nat) (b:List j4) (c e:Int) (f:o7) (h:List j4) (i l:Int):Option jq:=iter adI (ait k) a ((),b,c,e,f,h,i,l,())
theorem aad (k a b c e f h i l):SG k (a+1) b c e f h i l=Xo k (SG k a) b c e f h i l:=Ba _ _ _ _
def alr (k:Nat) (a:List j4) (b:Int):Option jq :=
 SG k k a b 0 ([]:List (Int×Int)) a (a.length:Int) 0
def F323:Fn:=⟨[Zp,au],[rI],fun k x=>alr k x.1 x.2.1⟩
theorem ok323:O 323 F323:=okF (ah ok60 <| ah ok322 aj) [] (fun k=>(.loop 3 adI (ait k) (fun g=>(fun (g3:Vk)=>(.loop 8 adH (ais k g3) (fun g=>(fun (g8:ahK)=>(.join 13 air (fun (_,a,b,c,e,(f,h,_),i,l,m,n,o,p,_)=>KZ k g3 g8 a b c e f h i l m n o p) .nil)) (fun l_2 i2 aqC aoZ aqD aqE aqF t32 t33 t34=>g ((),l_2,i2,aqC,aoZ,aqD,aqE,aqF,t32,t33,t34,()))) .nil)) (fun l_1 i1 most aqG t16 t17 t18=>g ((),l_1,i1,most,aqG,t16,t17,t18,()))) .nil)) Tryz.func323 rfl
def agI (k:Nat) (a:Int) (b:Bool) (c e:Int):Option ((Unit)×ac3×Unit) :=
 (agD k c e).bind fun q0 =>
 (agE k a q0.1.1).bind fun q1 =>
 (bif b then
  some ((),(q1.1.1,true,()),())
 else
  (bif !q0.1.2.1 then
   some ((),(q1.1.1,true,()),())
  else
   some ((),(q1.1.1,!q1.1.2.1,()),())))
def F349:Fn:=⟨[.fK 427 [cI,.cell .bool],au,au],[],fun k ((a,b,_),c,e,_)=>agI k a b c e⟩
theorem ok349:O 349 F349:=okF (ah ok356 <| ah ok357 aj) [] On Tryz.func349 rfl
def als (k:Nat) (a b:Int):Option DV :=
 (bif decide (b<1) then
  some ((0,false,()),())
 else
  (bif decide (a<0) then
   some ((0,false,()),())
  else
   nz b <|
   nz b <|
   (bif decide ((Int.tmod a b)>0) then
    some ((IntKind.i64.wrap ((IntKind.i64.wrap (Int.tdiv a b))+1),true,()),())
   else
    some ((IntKind.i64.wrap (Int.tdiv a b),true,()),()))))
def F358:Fn:=⟨[au,au],[rI,rB],fun k x=>als k x.1 x.2.1⟩
theorem ok358:O 358 F358:=okF aj [] On Tryz.func358 rfl
def aiu (k:Nat) (a b:Int):Option jq :=
 (als k a b).bind fun q0 =>
 some ((q0.1.1,()),())
def F350:Fn:=⟨[au,au],[rI],fun k x=>aiu k x.1 x.2.1⟩
theorem ok350:O 350 F350:=okF (ah ok358 aj) [] On Tryz.func350 rfl
abbrev aae:Cut:=⟨[0,1,2,6,7,12,18,19,88,89,90],[.cell qd,cI,cI,cI,cI,cI,.box 427 [cI,.cell .bool],.box 427 [cI,.cell .bool],.cell qd,cI,cI],[],128,[]⟩
def QH (k:Nat) (g14:Zc) (g18:(List j4) -> Int -> Int -> Int -> Int -> Int -> Int -> Bool -> Int -> Bool -> (List j4) -> Int -> Int -> Option DU) (a:List j4) (b c e f h i:Int) (l:Bool) (m:Int) (n:Bool) (o:List j4) (p s:Int):Option DU :=
 (bif decide (s<p) then
  ix o s <|
  (ZV k (rd o s bg)).bind fun q7 =>
  (aiu k e (rd o s bg).2.1).bind fun q8 =>
  (agI k m n q8.1.1 q7.1.1).bind fun q9 =>
  g18 a b c e f h i l q9.2.1.1 q9.2.1.2.1 o p (IntKind.i64.wrap (s+1))
 else
  (bif n then
   some ((0,0,13,()),())
  else
   ix a b <|
   (bif decide (m>(rd a b bg).2.2.1) then
    some ((0,0,14,()),())
   else
    (bif m==e then
     some ((e,f,0,()),())
    else
     g14 a b c m f h i l))))
def adJ (k:Nat) (g14:Zc):Xx (((Unit)×(List j4)×Int×Int×Int×Int×Int×ac3×ac3×(List j4)×Int×Int×Unit) -> Option DU):=eu (dw (dh (dh (dh (dh (dh (dh (d9 (dh (dh dx)) (d9 (dh (dh dx)) (dh (dh (dh dx)))))))))))) (QH k g14)
def QI (k:Nat) (g14:Zc) (a:Nat) (b:List j4) (c e f h i l:Int) (m:Bool) (n:Int) (o:Bool) (p:List j4) (s t:Int):Option DU:=iter aae (adJ k g14) a ((),b,c,e,f,h,i,(l,m,()),(n,o,()),p,s,t,())
theorem Vz (k g14 a b c e f h i l m n o p s t):QI k g14 (a+1) b c e f h i l m n o p s t=QH k g14 (QI k g14 a) b c e f h i l m n o p s t:=Ba _ _ _ _
abbrev aaf:Cut:=⟨[0,1,2,6,7,12,18],[.cell qd,cI,cI,cI,cI,cI,.box 427 [cI,.cell .bool]],[],128,[]⟩
def Xp (k:Nat) (g14:Zc) (a:List j4) (b c e f h i:Int) (l:Bool):Option DU :=
 (aiu k e c).bind fun q5 =>
 (agI k i l q5.1.1 h).bind fun q6 =>
 sx a 0 b <|
 QI k g14 k a b c e (IntKind.i64.wrap (f+1)) h i l q6.2.1.1 q6.2.1.2.1 (sub a 0 b) ((sub a 0 b).length:Int) 0
def adK (k:Nat):Xx (((Unit)×(List j4)×Int×Int×Int×Int×Int×ac3×Unit) -> Option DU):=eu (dw (dh (dh (dh (dh (dh (dh (d9 (dh (dh dx)) dx)))))))) (Xp k)
def L6 (k a:Nat) (b:List j4) (c e f h i l:Int) (m:Bool):Option DU:=iter aaf (adK k) a ((),b,c,e,f,h,i,(l,m,()),())
theorem agJ (k a b c e f h i l m):L6 k (a+1) b c e f h i l m=Xp k (L6 k a) b c e f h i l m:=Ba _ _ _ _
abbrev adL:Cut:=⟨[0,1,2,7,9,12,54,55,56],[.cell qd,cI,cI,cI,cI,cI,.cell qd,cI,cI],[],128,[]⟩
def Xq (k:Nat) (g6:(List j4) -> Int -> Int -> Int -> Int -> Int -> (List j4) -> Int -> Int -> Option DU) (a:List j4) (b c e f h:Int) (i:List j4) (l m:Int):Option DU :=
 (bif decide (m<l) then
  ix i m <|
  (ZV k (rd i m bg)).bind fun q2 =>
  g6 a b c e f (mx h q2.1.2.1) i l (IntKind.i64.wrap (m+1))
 else
  (alr k a b).bind fun q3 =>
  (agI k f false 1 q3.1.1).bind fun q4 =>
  L6 k k a b c q4.2.1.1 e h q4.2.1.1 q4.2.1.2.1)
def aiv (k:Nat):Xx (((Unit)×(List j4)×Int×Int×Int×Int×Int×(List j4)×Int×Int×Unit) -> Option DU):=eu (dw (dh (dh (dh (dh (dh (dh (dh (dh (dh dx)))))))))) (Xq k)
def Xr (k a:Nat) (b:List j4) (c e f h i:Int) (l:List j4) (m n:Int):Option DU:=iter adL (aiv k) a ((),b,c,e,f,h,i,l,m,n,())
theorem aag (k a b c e f h i l m n):Xr k (a+1) b c e f h i l m n=Xq k (Xr k a) b c e f h i l m n:=Ba _ _ _ _
def alu (k:Nat) (a:List j4) (b c:Int):Option DU :=
 (alp k a).bind fun q0 =>
 (bif !q0.1.1 then
  some ((0,0,1,()),())
 else
  (bif decide (b<0) then
   some ((0,0,1,()),())
  else
   (bif decide (b≥(a.length:Int)) then
    some ((0,0,1,()),())
   else
    (bif decide (c<1) then
     some ((0,0,1,()),())
    else
     ix a b <|
     (ZV k (rd a b bg)).bind fun q1 =>
     sx a 0 (IntKind.i64.wrap (b+1)) <|
     Xr k k a b c 0 q1.1.1 0 (sub a 0 (IntKind.i64.wrap (b+1))) ((sub a 0 (IntKind.i64.wrap (b+1))).length:Int) 0))))
def F321:Fn:=⟨[Zp,au,au],[rI,rI,rI],fun k (a,b,c,_)=>alu k a b c⟩
theorem ok321:O 321 F321:=okF (ah ok322 <| ah ok323 <| ah ok348 <| ah ok349 <| ah ok350 aj) [] (fun k=>(.loop 14 aaf (adK k) (fun g=>(fun (g14:Zc)=>(.loop 18 aae (adJ k g14) (fun g=>.nil) .nil)) (fun l_2 i2 ao0 r_ alv aqH first ao1=>g ((),l_2,i2,ao0,r_,alv,aqH,(first,ao1,()),()))) (.loop 6 adL (aiv k) (fun g=>.nil) .nil))) Tryz.func321 rfl
abbrev adM:Cut:=⟨[0,1,4,16,17,18],[.cell qd,cI,.own 168 D6,.cell qd,cI,cI],[],56,[]⟩
def Xt (k:Nat) (g4:(List j4) -> Int -> GI -> (List j4) -> Int -> Int -> Option Zl) (a:List j4) (b:Int) (c:List (PN Int 5)) (e:List j4) (f h:Int):Option Zl :=
 (bif decide (h<f) then
  ix e h <|
  (alu k a h b).bind fun q0 =>
  (bif q0.1.2.2.1 != 0 then
   some ((([]:List (PN Int 5)),q0.1.2.2.1,()),())
  else
   (ZV k (rd e h bg)).bind fun q1 =>
   (alr k a h).bind fun q2 =>
   ap c ([(q1.1.1,q1.1.2.1,q2.1.1,q0.1.1,IntKind.i64.wrap ((rd e h bg).2.2.1 - q0.1.1))]:List (PN Int 5)) 40 fun r3 =>
   g4 a b r3 e f (IntKind.i64.wrap (h+1)))
 else
  some ((c,0,()),()))
def aiw (k:Nat):Xx (((Unit)×(List j4)×Int×GI×(List j4)×Int×Int×Unit) -> Option Zl):=eu (dw (dh (dh (dh (dh (dh (dh dx))))))) (Xt k)
def Xu (k a:Nat) (b:List j4) (c:Int) (e:List (PN Int 5)) (f:List j4) (h i:Int):Option Zl:=iter adM (aiw k) a ((),b,c,e,f,h,i,())
theorem aah (k a b c e f h i):Xu k (a+1) b c e f h i=Xt k (Xu k a) b c e f h i:=Ba _ _ _ _
def aix (k:Nat) (a:List j4) (b:Int):Option Zl :=
 (bif decide (b<1) then
  some ((([]:List (PN Int 5)),1,()),())
 else
  Xu k k a b ([]:List (PN Int 5)) a (a.length:Int) 0)
def F251:Fn:=⟨[Zp,au],[.val ⟨false,Zm,true⟩,rI],fun k x=>aix k x.1 x.2.1⟩
theorem ok251:O 251 F251:=okF (ah ok321 <| ah ok322 <| ah ok323 aj) [(4,2)] (fun k=>(.loop 4 adM (aiw k) (fun g=>.nil) .nil)) Tryz.func251 rfl
abbrev aiy:Cut:=⟨[2,4,13,16],[cI,.box 54 [cI,cI,cI,.cell qp,.cell qp,.cell qp],.own 54 BL,cI],[],82,[]⟩
def L8 (k:Nat) (a b c e:Int) (f h i:List jr) (l:List j4) (m:Int):Option JG :=
 (aii k (b,c,e,f,h,i)).bind fun q4 =>
 (aoU k l m ([q4.1.1]:List j4)).bind fun q5 =>
 (aix k q5.1.1 a).bind fun q6 =>
 (bif q6.1.2.1 != 0 then
  some (([],[],q6.1.2.1,()),())
 else
  some ((q5.1.1,q6.1.1,0,()),()))
abbrev aai:Cut:=⟨[2,4,13,46,47,48],[cI,.box 54 [cI,cI,cI,.cell qp,.cell qp,.cell qp],.own 54 BL,.cell qd,cI,cI],[],82,[]⟩
def QJ (k:Nat) (g16:Int -> Int -> Int -> Int -> (List jr) -> (List jr) -> (List jr) -> (List j4) -> (List j4) -> Int -> Int -> Option JG) (a b c e:Int) (f h i:List jr) (l m:List j4) (n o:Int):Option JG :=
 (bif decide (o<n) then
  ix m o <|
  (aii k (rd m o bg)).bind fun q1 =>
  ap l ([q1.1.1]:List j4) 96 fun r2 =>
  g16 a b c e f h i r2 m n (IntKind.i64.wrap (o+1))
 else
  (aoT k l (b,c,e,f,h,i)).bind fun q3 =>
  (bif decide (q3.1.1<0) then
   L8 k a b c e f h i l (l.length:Int)
  else
   L8 k a b c e f h i l q3.1.1))
def adN (k:Nat):Xx (((Unit)×Int×an2×(List j4)×(List j4)×Int×Int×Unit) -> Option JG):=eu (dw (dh (d9 (dh (dh (dh (dh (dh (dh dx)))))) (dh (dh (dh (dh dx))))))) (QJ k)
def QK (k a:Nat) (b c e f:Int) (h i l:List jr) (m n:List j4) (o p:Int):Option JG:=iter aai (adN k) a ((),b,(c,e,f,h,i,l,()),m,n,o,p,())
theorem VA (k a b c e f h i l m n o p):QK k (a+1) b c e f h i l m n o p=QJ k (QK k a) b c e f h i l m n o p:=Ba _ _ _ _
abbrev adO:Cut:=⟨[0,2,4,9,20,21,22],[.cell qd,cI,.box 54 [cI,cI,cI,.cell qp,.cell qp,.cell qp],.mp 343 true (.int .i64) false .bool,.cell qd,cI,cI],[],82,[]⟩
def Xv (k:Nat) (g3:(List j4) -> Int -> Int -> Int -> Int -> (List jr) -> (List jr) -> (List jr) -> (List (Int×Bool)) -> (List j4) -> Int -> Int -> Option JG) (a:List j4) (b c e f:Int) (h i l:List jr) (m:List (Int×Bool)) (n:List j4) (o p:Int):Option JG :=
 (bif decide (p<o) then
  ix n p <|
  g3 a b c e f h i l (vL (.int .i64) .bool (rd n p bg).1 true m) n o (IntKind.i64.wrap (p+1))
 else
  (agH k (c,e,f,h,i,l)).bind fun q0 =>
  (bif q0.1.1 != 0 then
   some (([],[],q0.1.1,()),())
  else
   (bif Us (.int .i64) .bool c m false then
    some (([],[],11,()),())
   else
    (bif decide ((a.length:Int)≥8) then
     some (([],[],4,()),())
    else
     QK k k b c e f h i l ([]:List j4) a (a.length:Int) 0))))
def aiz (k:Nat):Xx (((Unit)×(List j4)×Int×an2×(List (Int×Bool))×(List j4)×Int×Int×Unit) -> Option JG):=eu (dw (dh (dh (d9 (dh (dh (dh (dh (dh (dh dx)))))) (dh (dh (dh (dh dx)))))))) (Xv k)
def Xw (k a:Nat) (b:List j4) (c e f h:Int) (i l m:List jr) (n:List (Int×Bool)) (o:List j4) (p s:Int):Option JG:=iter adO (aiz k) a ((),b,c,(e,f,h,i,l,m,()),n,o,p,s,())
theorem aaj (k a b c e f h i l m n o p s):Xw k (a+1) b c e f h i l m n o p s=Xv k (Xw k a) b c e f h i l m n o p s:=Ba _ _ _ _
def ao2 (k:Nat) (a:List j4) (b:KU) (c:Int):Option JG :=
 Xw k k a c b.1 b.2.1 b.2.2.1 b.2.2.2.1 b.2.2.2.2.1 b.2.2.2.2.2 ([]:List (Int×Bool)) a (a.length:Int) 0
def F166:Fn:=⟨[Zp,Vq,au],[.val ⟨false,qd,true⟩,.val ⟨false,Zm,true⟩,rI],fun k (a,b,c,_)=>ao2 k a b c⟩
theorem ok166:O 166 F166:=okF (ah ok132 <| ah ok247 <| ah ok248 <| ah ok250 <| ah ok251 aj) [(13,2)] (fun k=>(.join 23 aiy (fun (_,a,(b,c,e,f,h,i,_),l,m,_)=>L8 k a b c e f h i l m) (.loop 16 aai (adN k) (fun g=>.nil) (.loop 3 adO (aiz k) (fun g=>.nil) .nil)))) Tryz.func166 rfl
def S89 (k:Nat) (a:GA):Option OW :=
 (bif a.1.2.2.2.2.1 then
  some ((),BR (w3 a 7),())
 else
  (ao2 k a.1.2.2.1 a.2.1.2.1 a.1.2.1).bind fun q0 =>
  (bif q0.1.2.2.1==0 then
   some ((),BR ((a.1.1,a.1.2.1,q0.1.1,q0.1.2.1,a.1.2.2.2.2),a.2.1,a.2.2.1,q0.1.2.2.1,a.2.2.2.2),())
  else
   some ((),BR (w3 a q0.1.2.2.1),())))
def F89:Fn:=⟨[Zo],[],fun k x=>S89 k (qh x.1)⟩
theorem ok89:O 89 F89:=okF (ah ok166 aj) [] On Tryz.func89 rfl
def ao3 (k:Nat) (a:List j4):Option (((List j4)×Unit)×Unit):=qQ 96 54 BL k (a,())
def F123:Fn:=⟨dJ 54 BL,iZ 54 BL,qQ 96 54 BL⟩
theorem ok123:O 123 F123:=Kz JJ mix Tryz.func123 rfl (by kernel_rfl) (by kernel_rfl) (fun k=>by kernel_rfl) (fun k xs=>by kernel_rfl) (fun k xs=>by kernel_rfl)
def ao4 (k:Nat) (a:List (PN Int 5)):Option ((GI×Unit)×Unit):=qQ 40 168 D6 k (a,())
def F124:Fn:=⟨dJ 168 D6,iZ 168 D6,qQ 40 168 D6⟩
theorem ok124:O 124 F124:=Kz JJ mix Tryz.func124 rfl (by kernel_rfl) (by kernel_rfl) (fun k=>by kernel_rfl) (fun k xs=>by kernel_rfl) (fun k xs=>by kernel_rfl)
def ao5 (k:Nat) (a:List BM):Option (((List BM)×Unit)×Unit):=qQ 272 59 u6 k (a,())
def F125:Fn:=⟨dJ 59 u6,iZ 59 u6,qQ 272 59 u6⟩
theorem ok125:O 125 F125:=Kz JJ mix Tryz.func125 rfl (by kernel_rfl) (by kernel_rfl) (fun k=>by kernel_rfl) (fun k xs=>by kernel_rfl) (fun k xs=>by kernel_rfl)
def ab8 (k:Nat) (a:List (Int×Int×Int)):Option (((List (Int×Int×Int))×Unit)×Unit):=qQ 24 293 (.pair (.int .i64) ou) k (a,())
def F217:Fn:=⟨dJ 293 (.pair (.int .i64) ou),iZ 293 (.pair (.int .i64) ou),qQ 24 293 (.pair (.int .i64) ou)⟩
theorem ok217:O 217 F217:=Kz JJ mix Tryz.func217 rfl (by kernel_rfl) (by kernel_rfl) (fun k=>by kernel_rfl) (fun k xs=>by kernel_rfl) (fun k xs=>by kernel_rfl)
def GJ (k:Nat) (a:List Int):Option uj:=qQ 8 3 (.int .i64) k (a,())
def F219:Fn:=⟨dJ 3 (.int .i64),iZ 3 (.int .i64),qQ 8 3 (.int .i64)⟩
theorem ok219:O 219 F219:=Kz JJ mix Tryz.func219 rfl (by kernel_rfl) (by kernel_rfl) (fun k=>by kernel_rfl) (fun k xs=>by kernel_rfl) (fun k xs=>by kernel_rfl)
def aiA (k:Nat) (a b:Int):Option lq :=
 some ((a==b,()),())
def F220:Fn:=⟨[au,Zr],[rB],fun k x=>aiA k x.1 x.2.1⟩
theorem ok220:O 220 F220:=okF aj [] On Tryz.func220 rfl
abbrev aak:Cut:=⟨[0,1,7,8],[.cell uw,.lJ 220 [.ref (.int .i64)],cI,cI],[],19,[]⟩
def QL (k:Nat) (g2:(List Int) -> Int -> Int -> Int -> Option jq) (a:List Int) (b c e:Int):Option jq :=
 (bif decide (e<c) then
  ix a e <|
  (aiA k (rd a e 0) b).bind fun q0 =>
  (bif q0.1.1 then
   some ((e,()),())
  else
   g2 a b c (IntKind.i64.wrap (e+1)))
 else
  some (((-1),()),()))
def adP (k:Nat):Xx (((Unit)×(List Int)×Zi×Int×Int×Unit) -> Option jq):=eu (dw (dh (d9 (dh dx) (dh (dh dx))))) (QL k)
def IC (k a:Nat) (b:List Int) (c e f:Int):Option jq:=iter aak (adP k) a ((),b,(c,()),e,f,())
theorem VB (k a b c e f):IC k (a+1) b c e f=QL k (IC k a) b c e f:=Ba _ _ _ _
def adQ (k:Nat) (a:List Int) (b:Int):Option jq :=
 IC k k a b (a.length:Int) 0
def F272c:Fn:=⟨[WX,.pv (.lJ 220 [.ref (.int .i64)])],[rI],fun k x=>adQ k x.1 x.2.1.1⟩
theorem ok272c:O 272 F272c:=okF (ah ok220 aj) [] (fun k=>(.loop 2 aak (adP k) (fun g=>.nil) .nil)) Tryz.func272 rfl
abbrev adR:Cut:=⟨[0,1,5,6],[.pin true 0,.lJ 220 [.ref (.int .i64)],cI,cI],[.fT 3 (.int .i64)],42,[]⟩
def Xy (k:Nat) (g5:(List Int) -> Int -> Int -> Int -> Option uj) (a:List Int) (b c e:Int):Option uj :=
 (bif decide (e<(a.length:Int)) then
  ix a e <|
  (aiA k (rd a e 0) b).bind fun q1 =>
  (bif !q1.1.1 then
   ix a c <|
   g5 (upd a c (rd a e 0)) b (IntKind.i64.wrap (c+1)) (IntKind.i64.wrap (e+1))
  else
   g5 a b c (IntKind.i64.wrap (e+1)))
 else
  sx a c (a.length:Int) <|
  sx (Uy a c (a.length:Int) 0) 0 c <|
  some (((Uy a c (a.length:Int) 0).take c.toNat,()),()))
def aiB (k:Nat):Xx ((((List Int)×Unit)×Unit×Zi×Int×Int×Unit) -> Option uj):=eu (d9 (dh dx) (dw (d9 (dh dx) (dh (dh dx))))) (Xy k)
def Xz (k a:Nat) (b:List Int) (c e f:Int):Option uj:=iter adR (aiB k) a ((b,()),(),(c,()),e,f,())
theorem aal (k a b c e f):Xz k (a+1) b c e f=Xy k (Xz k a) b c e f:=Ba _ _ _ _
def alx (k:Nat) (a:List Int) (b:Int):Option uj :=
 (adQ k a b).bind fun q0 =>
 (bif q0.1.1==(-1) then
  some ((a,()),())
 else
  Xz k k a b q0.1.1 (IntKind.i64.wrap (q0.1.1+1)))
def F218:Fn:=⟨[.give 3 (.int .i64),.pv (.lJ 220 [.ref (.int .i64)])],[ahO],fun k x=>alx k x.1 x.2.1.1⟩
theorem ok218:O 218 F218:=okF (ah ok220 <| ah ok272c aj) [(41,1)] (fun k=>(.loop 5 adR (aiB k) (fun g=>.nil) .nil)) Tryz.func218 rfl
def agK (k:Nat) (a:ac1) (b:Int):Option ((BM×Unit)×Unit) :=
 (ab8 k a.2.2.2.2.1.2.2.1).bind fun q0 =>
 (ab8 k a.2.2.2.2.2.1.2.2.1).bind fun q1 =>
 (GJ k a.2.2.2.2.2.2.1).bind fun q2 =>
 (alx k q2.1.1 b).bind fun q3 =>
 some (((w6 (w5 (w4 a (a.2.2.2.2.1.1,a.2.2.2.2.1.2.1,q0.1.1,a.2.2.2.2.1.2.2.2)) (a.2.2.2.2.2.1.1,a.2.2.2.2.2.1.2.1,q1.1.1,a.2.2.2.2.2.1.2.2.2)) q3.1.1),()),())
def F127:Fn:=⟨[.val ⟨true,u6,false⟩,au],[.val ⟨true,u6,true⟩],fun k x=>agK k x.1 x.2.1⟩
theorem ok127:O 127 F127:=okF (ah ok217 <| ah ok218 <| ah ok219 aj) [] On Tryz.func127 rfl
def Vb (k:Nat) (a:List Bool):Option (((List Bool)×Unit)×Unit):=qQ 1 4 .bool k (a,())
def F263:Fn:=⟨dJ 4 .bool,iZ 4 .bool,qQ 1 4 .bool⟩
theorem ok263:O 263 F263:=Kz JJ mix Tryz.func263 rfl (by kernel_rfl) (by kernel_rfl) (fun k=>by kernel_rfl) (fun k xs=>by kernel_rfl) (fun k xs=>by kernel_rfl)
def aam (k:Nat) (a:List Int):Option uj:=qQ 8 2 (.int .i64) k (a,())
def F287:Fn:=⟨dJ 2 (.int .i64),iZ 2 (.int .i64),qQ 8 2 (.int .i64)⟩
theorem ok287:O 287 F287:=Kz JJ mix Tryz.func287 rfl (by kernel_rfl) (by kernel_rfl) (fun k=>by kernel_rfl) (fun k xs=>by kernel_rfl) (fun k xs=>by kernel_rfl)
def aan (k:Nat) (a:o7):Option AX:=qQ 16 266 D7 k (a,())
def F256:Fn:=⟨dJ 266 D7,iZ 266 D7,qQ 16 266 D7⟩
theorem ok256:O 256 F256:=Kz JJ mix Tryz.func256 rfl (by kernel_rfl) (by kernel_rfl) (fun k=>by kernel_rfl) (fun k xs=>by kernel_rfl) (fun k xs=>by kernel_rfl)
def aiC (k:Nat) (x:Za):Option ((tq×Unit)×Unit) :=
 (aam k x.2.2.2.1.1).bind fun q0 =>
 (GJ k x.2.2.2.1.2).bind fun q1 =>
 (aan k x.2.2.2.2.1.2).bind fun q2 =>
 some (((w4 (w3 x (q0.1.1,q1.1.1)) (x.2.2.2.2.1.1,q2.1.1)),()),())
def F222:Fn:=⟨[ac6],[.val ⟨true,JB,true⟩],fun k x=>aiC k x.1⟩
theorem ok222:O 222 F222:=okF (ah ok219 <| ah ok256 <| ah ok287 aj) [] On Tryz.func222 rfl
abbrev adS:Cut:=⟨[2,3,17,18,19],[.box 38 [.nil,.nil,.nil],.box 38 [.own 3 (.int .i64),.own 4 .bool,.own 142 JB],.cell OX,cI,cI],[],32,[]⟩
def XA (k:Nat) (g3:(List Int) -> (List Bool) -> (List tq) -> (List tq) -> Int -> Int -> Option RL) (a:List Int) (b:List Bool) (c e:List tq) (f h:Int):Option RL :=
 (bif decide (h<f) then
  ix e h <|
  (aiC k (rd e h bf)).bind fun q2 =>
  ap c ([q2.1.1]:List tq) 128 fun r3 =>
  g3 a b r3 e f (IntKind.i64.wrap (h+1))
 else
  some ((((a,b),c),()),()))
def aiD (k:Nat):Xx (((Unit)×(Unit×Unit×Unit×Unit)×an3×(List tq)×Int×Int×Unit) -> Option RL):=eu (dw (d9 (dw (dw (dw dx))) (d9 (dh (dh (dh dx))) (dh (dh (dh dx)))))) (XA k)
def MX (k a:Nat) (b:List Int) (c:List Bool) (e f:List tq) (h i:Int):Option RL:=iter adS (aiD k) a ((),((),(),(),()),(b,c,e,()),f,h,i,())
theorem aao (k a b c e f h i):MX k (a+1) b c e f h i=XA k (MX k a) b c e f h i:=Ba _ _ _ _
def Vd (k:Nat) (a:FQ×List tq):Option RL :=
 (GJ k a.1.1).bind fun q0 =>
 (Vb k a.1.2).bind fun q1 =>
 MX k k q0.1.1 q1.1.1 ([]:List tq) a.2 (a.2.length:Int) 0
def F185:Fn:=⟨[Vo],[ac4],fun k x=>Vd k x.1⟩
theorem ok185:O 185 F185:=okF (ah ok219 <| ah ok222 <| ah ok263 aj) [(15,2)] (fun k=>(.loop 3 adS (aiD k) (fun g=>.nil) .nil)) Tryz.func185 rfl
def ab9 (k:Nat) (a:FQ×List tq) (b:Int):Option lq :=
 (bif decide (b≥0) then
  (bif decide (b<(a.2.length:Int)) then
   ix a.2 b <|
   some (((rd a.2 b bf).1 != 0,()),())
  else
   some ((false,()),()))
 else
  some ((false,()),()))
def F186:Fn:=⟨[Vo,au],[rB],fun k x=>ab9 k x.1 x.2.1⟩
theorem ok186:O 186 F186:=okF aj [] On Tryz.func186 rfl
abbrev adT:Cut:=⟨[3,6,7,8,9,10],[.cell (.int .u32),.cell (.int .u64),cI,.cell JH,cI,cI],[],34,[]⟩
def XB (k:Nat) (g3:Vm) (g6:Int -> Int -> Int -> (List Int) -> Int -> Int -> Option jq) (a b c:Int) (e:List Int) (f h:Int):Option jq :=
 (bif decide (c<8) then
  g6 (Un .u32 (Uz .u32 (Uk .u32 a 5) (Ul .u32 a 27)) (IntKind.u32.wrap (IntKind.u8.wrap b))) (Ul .u64 b 8) (IntKind.i64.wrap (c+1)) e f h
 else
  g3 a e f (IntKind.i64.wrap (h+1)))
def aiE (k:Nat) (g3:Vm):Xx (((Unit)×Int×Int×Int×(List Int)×Int×Int×Unit) -> Option jq):=eu (dw (dh (dh (dh (dh (dh (dh dx))))))) (XB k g3)
def XC (k:Nat) (g3:Vm) (a:Nat) (b c e:Int) (f:List Int) (h i:Int):Option jq:=iter adT (aiE k g3) a ((),b,c,e,f,h,i,())
theorem aap (k g3 a b c e f h i):XC k g3 (a+1) b c e f h i=XB k g3 (XC k g3 a) b c e f h i:=Ba _ _ _ _
abbrev adU:Cut:=⟨[3,8,9,10],[.cell (.int .u32),.cell JH,cI,cI],[],34,[]⟩
def XD (k:Nat) (g3:Vm) (a:Int) (b:List Int) (c e:Int):Option jq :=
 (bif decide (e<c) then
  ix b e <|
  XC k g3 k a (IntKind.u64.wrap (rd b e 0)) 0 b c e
 else
  some ((a,()),()))
def aiF (k:Nat):Xx (((Unit)×Int×(List Int)×Int×Int×Unit) -> Option jq):=eu (dw (dh (dh (dh (dh dx))))) (XD k)
def MZ (k a:Nat) (b:Int) (c:List Int) (e f:Int):Option jq:=iter adU (aiF k) a ((),b,c,e,f,())
theorem aaq (k a b c e f):MZ k (a+1) b c e f=XD k (MZ k a) b c e f:=Ba _ _ _ _
def XE (k:Nat) (a:List Int):Option jq :=
 MZ k k 2166136261 a (a.length:Int) 0
def F288:Fn:=⟨[.val ⟨false,JH,false⟩],[.val ⟨false,(.int .u32),true⟩],fun k x=>XE k x.1⟩
theorem ok288:O 288 F288:=okF aj [] (fun k=>(.loop 3 adU (aiF k) (fun g=>(fun (g3:Vm)=>(.loop 6 adT (aiE k g3) (fun g=>.nil) .nil)) (fun h t8 t9 t10=>g ((),h,t8,t9,t10,()))) .nil)) Tryz.func288 rfl
abbrev aar:Cut:=⟨[3,61,62,63],[.own 2 (.int .i64),.cell (.sl 266 D7),cI,cI],[],78,[]⟩
def QM (k:Nat) (g11:(List Int) -> ko -> Int -> Int -> Option jq) (a:List Int) (b:o7) (c e:Int):Option jq :=
 (bif decide (e<c) then
  ix b e <|
  ap a ([(rd b e (0,0)).1,IntKind.i64.wrap (rd b e (0,0)).2]:List Int) 8 fun r4 =>
  g11 r4 b c (IntKind.i64.wrap (e+1))
 else
  (XE k a).bind fun q5 =>
  some ((q5.1.1,()),()))
def adV (k:Nat):Xx (((Unit)×(List Int)×ko×Int×Int×Unit) -> Option jq):=eu (dw (dh (dh (dh (dh dx))))) (QM k)
def QN (k a:Nat) (b:List Int) (c:o7) (e f:Int):Option jq:=iter aar (adV k) a ((),b,c,e,f,())
theorem VD (k a b c e f):QN k (a+1) b c e f=QM k (QN k a) b c e f:=Ba _ _ _ _
abbrev adW:Cut:=⟨[1,3,41,42,43],[.box 142 [cI,cI,cI,cI,cI,.cell JH,.cell uw,.cell (.int .u32),.cell (.sl 266 D7),.cell (.int .u32)],.own 2 (.int .i64),.cell uw,cI,cI],[],78,[]⟩
def XF (k:Nat) (g5:Int -> Int -> Int -> Int -> Int -> (List Int) -> (List Int) -> Int -> ko -> Int -> (List Int) -> (List Int) -> Int -> Int -> Option jq) (a b c e f:Int) (h i:List Int) (l:Int) (m:o7) (n:Int) (o p:List Int) (s t:Int):Option jq :=
 (bif decide (t<s) then
  ix p t <|
  ap o ([rd p t 0]:List Int) 8 fun r2 =>
  g5 a b c e f h i l m n r2 p s (IntKind.i64.wrap (t+1))
 else
  ap o ([IntKind.i64.wrap l]:List Int) 8 fun r3 =>
  QN k k r3 m (m.length:Int) 0)
def aiG (k:Nat):Xx (((Unit)×(Int×Int×Int×Int×Int×(List Int)×(List Int)×Int×ko×Int×Unit)×(List Int)×(List Int)×Int×Int×Unit) -> Option jq):=eu (dw (d9 (dh (dh (dh (dh (dh (dh (dh (dh (dh (dh dx)))))))))) (dh (dh (dh (dh dx)))))) (XF k)
def XG (k a:Nat) (b c e f h:Int) (i l:List Int) (m:Int) (n:o7) (o:Int) (p s:List Int) (t u:Int):Option jq:=iter adW (aiG k) a ((),(b,c,e,f,h,i,l,m,n,o,()),p,s,t,u,())
theorem aas (k a b c e f h i l m n o p s t u):XG k (a+1) b c e f h i l m n o p s t u=XF k (XG k a) b c e f h i l m n o p s t u:=Ba _ _ _ _
def acd (k:Nat) (x:Za):Option jq :=
 ap ([x.1,x.2.1.1,x.2.1.2,x.2.2.1.1,x.2.2.1.2,(x.2.2.2.1.1.length:Int)]:List Int) x.2.2.2.1.1 8 fun r0 =>
 ap r0 ([(x.2.2.2.1.2.length:Int)]:List Int) 8 fun r1 =>
 XG k k x.1 x.2.1.1 x.2.1.2 x.2.2.1.1 x.2.2.1.2 x.2.2.2.1.1 x.2.2.2.1.2 x.2.2.2.2.1.1 x.2.2.2.2.1.2 x.2.2.2.2.2 r1 x.2.2.2.1.2 (x.2.2.2.1.2.length:Int) 0
def F223:Fn:=⟨[ac6],[.val ⟨false,(.int .u32),true⟩],fun k x=>acd k x.1⟩
theorem ok223:O 223 F223:=okF (ah ok288 aj) [] (fun k=>(.loop 11 aar (adV k) (fun g=>.nil) (.loop 5 adW (aiG k) (fun g=>.nil) .nil))) Tryz.func223 rfl
def ace (k:Nat) (x:Za):Option ((tq×Unit)×Unit) :=
 (acd k x).bind fun q0 =>
 some (((z5 x q0.1.1),()),())
def F221:Fn:=⟨[ac6],[.val ⟨true,JB,false⟩],fun k x=>ace k x.1⟩
theorem ok221:O 221 F221:=okF (ah ok223 aj) [] On Tryz.func221 rfl
def JC (k:Nat) (a:FQ×List tq) (b:Int) (x:Za):Option RL :=
 (Vd k a).bind fun q0 =>
 (ab9 k a b).bind fun q1 =>
 (bif !q1.1.1 then
  some ((q0.1.1,()),())
 else
  ix a.2 b <|
  (aiC k ((rd a.2 b bf).1,(rd a.2 b bf).2.1,x.2.2)).bind fun q2 =>
  (ace k q2.1.1).bind fun q3 =>
  (acd k (rd a.2 b bf)).bind fun q4 =>
  (bif (rd a.2 b bf).2.2.2.2.2 != q4.1.1 then
   ix q0.1.1.2 b <|
   some (((q0.1.1.1,upd q0.1.1.2 b (z5 q3.1.1 (Uo .u32 q3.1.1.2.2.2.2.2))),()),())
  else
   ix q0.1.1.2 b <|
   some (((q0.1.1.1,upd q0.1.1.2 b q3.1.1),()),())))
def F128:Fn:=⟨[Vo,au,ac6],[ac4],fun k (a,b,c,_)=>JC k a b c⟩
theorem ok128:O 128 F128:=okF (ah ok185 <| ah ok186 <| ah ok221 <| ah ok222 <| ah ok223 aj) [] On Tryz.func128 rfl
def agL (k:Nat) (a:RN):Option ((FQ×Unit)×Unit) :=
 (GJ k a.1).bind fun q0 =>
 (Vb k a.2).bind fun q1 =>
 some (((q0.1.1,q1.1.1),()),())
def F224:Fn:=⟨[RO],[Vp],fun k x=>agL k x.1⟩
theorem ok224:O 224 F224:=okF (ah ok219 <| ah ok263 aj) [] On Tryz.func224 rfl
def acf (k:Nat) (a:RN) (b:Int):Option ((FQ×Unit)×Unit) :=
 (agL k a).bind fun q0 =>
 (bif decide (b≥0) then
  (bif decide (b<(q0.1.1.1.length:Int)) then
   ix q0.1.1.1 b <|
   some (((upd q0.1.1.1 b 0,q0.1.1.2),()),())
  else
   some ((q0.1.1,()),()))
 else
  some ((q0.1.1,()),()))
def F129:Fn:=⟨[RO,au],[Vp],fun k x=>acf k x.1 x.2.1⟩
theorem ok129:O 129 F129:=okF (ah ok224 aj) [] On Tryz.func129 rfl
abbrev aiH:Cut:=⟨[1,2,54,55],[.box 42 [cI,cI,.own 54 BL,.own 168 D6,.cell .bool,.cell .bool,.cell .bool,.own 59 u6,.cell uw,.cell DW,.cell OX,.cell uw,.cell DW],.box 42 [cI,cI,.nil,.nil,.cell .bool,.cell .bool,.cell .bool,.nil,.nil,.nil,.nil,.nil,.nil],cI,cI],[],77,[(53,3)]⟩
def adX (k:Nat) (g8:G9 -> Int -> Int -> Bool -> Bool -> Bool -> Int -> Int -> Option FT) (a:C9) (b c:Int) (e f h:Bool) (i l:Int):Option FT :=
 (bif decide (l<i) then
  ix a.2.2.2.2.2.2.2.1 l <|
  (agK k (rd a.2.2.2.2.2.2.2.1 l ay) (-1)).bind fun q7 =>
  ix a.2.2.2.2.2.2.2.1 l <|
  g8 (w7 a (upd a.2.2.2.2.2.2.2.1 l q7.1.1)) b c e f h i (IntKind.i64.wrap (l+1))
 else
  (JC k a.2.2.2.2.2.2.2.2.1 (-1) bf).bind fun q8 =>
  (acf k a.2.2.2.2.2.2.2.2.2 (-1)).bind fun q9 =>
  some (((w8 (z9 a q9.1.1) q8.1.1),()),()))
def an6 (k:Nat) (g:((Unit)×zw×OT×Int×Int×Unit) -> Option FT) (d:(Unit)×zw×OT×Int×Int×Unit):Option FT:=adX k (fun a b c e f h i l=>g ((),RP a,(b,c,(),(),e,f,h,(),(),(),(),(),(),()),i,l,())) (Zt d.2.1) d.2.2.1.1 d.2.2.1.2.1 d.2.2.1.2.2.2.2.1 d.2.2.1.2.2.2.2.2.1 d.2.2.1.2.2.2.2.2.2.1 d.2.2.2.1 d.2.2.2.2.1
def adY (k a:Nat) (b:C9) (c e:Int) (f h i:Bool) (l m:Int):Option FT:=iter aiH (an6 k) a ((),RP b,(c,e,(),(),f,h,i,(),(),(),(),(),(),()),l,m,())
theorem adZ (k a b c e f h i l m):adY k (a+1) b c e f h i l m=adX k (adY k a) b c e f h i l m:=Ba _ _ _ _
abbrev aiI:Cut:=⟨[1,2,21,22],[.box 42 [cI,cI,.own 54 BL,.own 168 D6,.cell .bool,.cell .bool,.cell .bool,.own 59 u6,.cell uw,.cell DW,.cell OX,.cell uw,.cell DW],.box 42 [cI,cI,.nil,.nil,.cell .bool,.cell .bool,.cell .bool,.nil,.nil,.nil,.nil,.nil,.nil],cI,cI],[],77,[(20,1)]⟩
def ad1 (k:Nat) (g3:G9 -> Int -> Int -> Bool -> Bool -> Bool -> Int -> Int -> Option FT) (a:C9) (b c:Int) (e f h:Bool) (i l:Int):Option FT :=
 (bif decide (l<i) then
  ix a.2.2.1 l <|
  (RZ k (rd a.2.2.1 l bg).2.2.2.1).bind fun q3 =>
  (RZ k (rd a.2.2.1 l bg).2.2.2.2.1).bind fun q4 =>
  (RZ k (rd a.2.2.1 l bg).2.2.2.2.2).bind fun q5 =>
  ix a.2.2.1 l <|
  ix (upd a.2.2.1 l (w3 (rd a.2.2.1 l bg) q3.1.1)) l <|
  let r6:List j4:=upd (upd a.2.2.1 l (w3 (rd a.2.2.1 l bg) q3.1.1)) l (w4 (rd (upd a.2.2.1 l (w3 (rd a.2.2.1 l bg) q3.1.1)) l bg) q4.1.1)
  ix r6 l <|
  g3 (a.1,a.2.1,upd r6 l (z5 (rd r6 l bg) q5.1.1),a.2.2.2) b c e f h i (IntKind.i64.wrap (l+1))
 else
  adY k k a b c e f h (a.2.2.2.2.2.2.2.1.length:Int) 0)
def an7 (k:Nat) (g:((Unit)×zw×OT×Int×Int×Unit) -> Option FT) (d:(Unit)×zw×OT×Int×Int×Unit):Option FT:=ad1 k (fun a b c e f h i l=>g ((),RP a,(b,c,(),(),e,f,h,(),(),(),(),(),(),()),i,l,())) (Zt d.2.1) d.2.2.1.1 d.2.2.1.2.1 d.2.2.1.2.2.2.2.1 d.2.2.1.2.2.2.2.2.1 d.2.2.1.2.2.2.2.2.2.1 d.2.2.2.1 d.2.2.2.2.1
def ad2 (k a:Nat) (b:C9) (c e:Int) (f h i:Bool) (l m:Int):Option FT:=iter aiI (an7 k) a ((),RP b,(c,e,(),(),f,h,i,(),(),(),(),(),(),()),l,m,())
theorem ad3 (k a b c e f h i l m):ad2 k (a+1) b c e f h i l m=ad1 k (ad2 k a) b c e f h i l m:=Ba _ _ _ _
def S56 (k:Nat) (a:C9):Option FT :=
 (ao3 k a.2.2.1).bind fun q0 =>
 (ao4 k a.2.2.2.1).bind fun q1 =>
 (ao5 k a.2.2.2.2.2.2.2.1).bind fun q2 =>
 ad2 k k (w7 (w3 (w2 a q0.1.1) q1.1.1) q2.1.1) 0 0 false false false (q0.1.1.length:Int) 0
def F56:Fn:=⟨[Zq],[ac5],fun k x=>S56 k x.1⟩
theorem ok56:O 56 F56:=okF (ah ok123 <| ah ok124 <| ah ok125 <| ah ok126 <| ah ok127 <| ah ok128 <| ah ok129 aj) [] (fun k=>(.loop 8 aiH (an6 k) (fun g=>.nil) (.loop 3 aiI (an7 k) (fun g=>.nil) .nil))) Tryz.func56 rfl
def aiJ (k:Nat) (a:ac1) (b:Int):Option jq :=
 some ((IntKind.i64.wrap (a.1 - b),()),())
def F142:Fn:=⟨[.val ⟨true,u6,false⟩,au],[rI],fun k x=>aiJ k x.1 x.2.1⟩
theorem ok142:O 142 F142:=okF aj [] On Tryz.func142 rfl
abbrev ad4:Cut:=⟨[0,1,2,8,9,10],[.cell (.sl 59 u6),cI,.lJ 142 [],cI,cI,cI],[],49,[]⟩
def acg (k:Nat) (g3:(List BM) -> Int -> Int -> Int -> Int -> Option DV) (a:List BM) (b c e f:Int):Option DV :=
 (bif decide (e<f) then
  ix a (IntKind.i64.wrap (Ul .u64 (IntKind.u64.wrap (IntKind.i64.wrap (e+f))) 1)) <|
  (aiJ k (rd a (IntKind.i64.wrap (Ul .u64 (IntKind.u64.wrap (IntKind.i64.wrap (e+f))) 1)) ay) b).bind fun q0 =>
  (bif decide (q0.1.1<0) then
   g3 a b c (IntKind.i64.wrap ((IntKind.i64.wrap (Ul .u64 (IntKind.u64.wrap (IntKind.i64.wrap (e+f))) 1))+1)) f
  else
   g3 a b c e (IntKind.i64.wrap (Ul .u64 (IntKind.u64.wrap (IntKind.i64.wrap (e+f))) 1)))
 else
  (bif decide (e<c) then
   ix a e <|
   (aiJ k (rd a e ay) b).bind fun q1 =>
   some ((e,q1.1.1==0,()),())
  else
   some ((e,false,()),())))
def aiK (k:Nat):Xx (((Unit)×(List BM)×Int×Unit×Int×Int×Int×Unit) -> Option DV):=eu (dw (dh (dh (dw (dh (dh (dh dx))))))) (acg k)
def SH (k a:Nat) (b:List BM) (c e f h:Int):Option DV:=iter ad4 (aiK k) a ((),b,c,(),e,f,h,())
theorem aiL (k a b c e f h):SH k (a+1) b c e f h=acg k (SH k a) b c e f h:=Ba _ _ _ _
def ao6 (k:Nat) (x:List BM) (a:Int):Option DV :=
 SH k k x a (x.length:Int) 0 (x.length:Int)
def F141:Fn:=⟨[.val ⟨false,(.sl 59 u6),false⟩,au,.pv (.lJ 142 [])],[rI,rB],fun k x=>ao6 k x.1 x.2.1⟩
theorem ok141:O 141 F141:=okF (ah ok142 aj) [] (fun k=>(.loop 3 ad4 (aiK k) (fun g=>.nil) .nil)) Tryz.func141 rfl
def S71 (k:Nat) (a:C9) (b:Int):Option DV :=
 (ao6 k a.2.2.2.2.2.2.2.1 b).bind fun q0 =>
 some (q0.1,())
def F71:Fn:=⟨[.pv (.ref ac0),au],[rI,rB],fun k x=>S71 k x.1 x.2.1⟩
theorem ok71:O 71 F71:=okF (ah ok141 aj) [] On Tryz.func71 rfl
section
variable (w:World) {g n c i j:Nat}
theorem SI:Tryz.prog.underlying 31=some (.slice 59) /\ Tryz.prog.underlying 3=some (.int .i64) /\ Tryz.prog.underlying 4=some .bool /\ Tryz.prog.follows .mixedOrders=true /\ (∀ w,(Go.sizeOf 59).run Tryz.prog w=.ok 28 w) /\ Tryz.f72.ntmps=33:=⟨by kernel_rfl,by kernel_rfl,by kernel_rfl,by kernel_rfl,fun w=>by kernel_rfl,rfl⟩
theorem aat {v:Value} (hv:(∃ A n c,v=.slice A n c /\ i <= n /\ n <= c /\ c <= 9223372036854775807)):Calls Tryz.prog 72 #[v,.int .i64 i,.int .i64 i] w fun e w'=>e=.returned v /\ w'=w:=by
 obtain ⟨t24,t3,t4,mixed,z36,hnt⟩:=SI
 have u24:=run_underlying t24;have u3:=run_underlying t3;have u4:=run_underlying t4
 obtain ⟨A,n,c,rfl,hi,hnc,hc63⟩:=hv
 have hi0:(i:Int) <= (n:Int):=by omega
 have hi1:(0:Int) <= (i:Int):=by omega
 cases A <;> (go_enter Tryz.func72,hnt;go_wp2 <;> (go_ret;exact ⟨rfl,rfl⟩))
theorem aau {w' w'':World} (hlt:i<j) (hj:j <= n) (hnc:n <= c) (hc63:c <= 9223372036854775807)
  (hap:∀ ty A,(c≠j -> A=(⟨g,j * 28,none⟩:Addr)) -> (Builtin.append_ #[31,31] ty #[.slice (some ⟨g,0,none⟩) i c,.slice (some A) (n - j) (c - j)]).run Tryz.prog w.drew=.ok (.slice (some ⟨g,0,none⟩) (i+(n - j)) c) w')
  (hcl:∀ ty dc,(Builtin.clear_ #[31] ty #[.slice (some ⟨g,(i+(n - j)) * 28,none⟩) (n - (i+(n - j))) dc]).run Tryz.prog w'=.ok (.tuple #[]) w'') :
  Calls Tryz.prog 72 #[.slice (some ⟨g,0,none⟩) n c,.int .i64 i,.int .i64 j] w fun e w1=>e=.returned (.slice (some ⟨g,0,none⟩) (i+(n - j)) c) /\ w1=w'':=by
 obtain ⟨t24,t3,t4,mixed,z36,hnt⟩:=SI
 have u24:=run_underlying t24;have u3:=run_underlying t3;have u4:=run_underlying t4
 have hi0:(i:Int) <= (n:Int):=by omega
 have hj0:(j:Int) <= (n:Int):=by omega
 have hij:(i:Int) <= (j:Int):=by omega
 have hne:¬ ((i:Int)=(j:Int)):=by omega
 have hic:i <= c:=by omega
 have hjc:j <= c:=by omega
 have hln:i+(n - j) <= n:=by omega
 have hlc:i+(n - j) <= c:=by omega
 have hci:¬ (c=i+(n - j)):=by omega
 obtain ⟨A,hA,hA'⟩:∃ A:Addr,(if c=j then some (⟨g,0,none⟩:Addr) else some ⟨g,j * 28,none⟩)=some A /\ (c≠j -> A=(⟨g,j * 28,none⟩:Addr)):=by
  by_cases h:c=j
  · exact ⟨_,if_pos h,fun q=>absurd h q⟩
  · exact ⟨_,if_neg h,fun _=>rfl⟩
 try simp only [Nat.mul_one] at hA hcl
 go_enter Tryz.func72,hnt
 go_wp2_with fail
 go_region_law_o (refine Gz rfl rfl _ _ (by simp [Act.eval,Act.put]) (by simp [Act.eval,Act.put,hA]) (hap _ _ hA') ?_)
 go_wp2_with (at_builtin;refine Ji rfl rfl _ rfl (hcl _ _) ?_)
 go_ret
 exact ⟨rfl,rfl⟩
end
abbrev P72:List PT:=iG 59 u6
abbrev R72:List RT:=qV 59 u6
def S72 (k:Nat) (a:List BM) (i j:Int):Option (((List BM)×Unit)×Unit):=Jk 59 u6 k (a,i,j,())
def F72:Fn:=⟨P72,R72,Jk 59 u6⟩
def E72:Env:=tab.env (fun _=>none) (fun _=>0)
theorem ao8:aH Tryz.prog E72:=Kw Rt _ _ (fun f F h=>by cases h)
theorem ok72:O 72 F72:=by
 obtain ⟨i0,z,a1,a2,a3,a4,a5⟩:=(ao8.ty 59 (u6) (by kernel_rfl)).info
 have b2:Ty.sz (u6)=28:=rfl
 have hz:z.cells.size=28:=by rw [<- Array.length_toList,a5,gZ,b2]
 obtain ⟨t24,t3,t4,mixed,z36,hnt⟩:=SI
 refine Qu Tryz.func72 rfl (by kernel_rfl) ?_
 rw [b2]
 exact Mr (S:=31) (z:=z) t24 a1 a4 (by rw [a2,b2]) hz (fun v hv=>tT (u6) v (by rw [<- a5];exact hv)) (by decide) (fun w i v h=>aat w h) (fun w g n c i j w' w'' h1 h2 h3 h4 h5 h6=>aau w h1 h2 h3 h4 h5 h6)
def Q5 (k:Nat) (a:Int):Option ((Z9×Unit)×Unit) :=
 some (((0,(a,0,0,0,0,0,0,0),[],false),()),())
def F109:Fn:=⟨[au],[.val ⟨true,(.pair (.int .i64) (.pair (Am 8 (.int .i64)) (.pair (.sl 293 (.pair (.int .i64) ou)) .bool))),true⟩],fun k x=>Q5 k x.1⟩
theorem ok109:O 109 F109:=okF aj [] On Tryz.func109 rfl
def S74 (k:Nat) (a b c:Int):Option ((BM×Unit)×Unit) :=
 (Q5 k c).bind fun q0 =>
 (Q5 k c).bind fun q1 =>
 some (((a,b,c,0,q0.1.1,q1.1.1,[],false),()),())
def F74:Fn:=⟨[au,au,au],[.val ⟨true,u6,true⟩],fun k (a,b,c,_)=>S74 k a b c⟩
theorem ok74:O 74 F74:=okF (ah ok109 aj) [] On Tryz.func74 rfl
section
variable (w:World) {g n c i g2 m c2:Nat}
theorem GK:Tryz.prog.underlying 31=some (.slice 59) /\ Tryz.prog.underlying 3=some (.int .i64) /\ Tryz.prog.underlying 4=some .bool /\ Tryz.prog.follows .mixedOrders=true /\ (∀ w,(Go.sizeOf 59).run Tryz.prog w=.ok 28 w) /\ Tryz.f73.ntmps=95:=⟨by kernel_rfl,by kernel_rfl,by kernel_rfl,by kernel_rfl,fun w=>by kernel_rfl,rfl⟩
theorem aav {v u:Value} (hv:(∃ A n c,v=.slice A n c /\ i <= n)) (hu:∃ A c,u=.slice A m c) (hm:m=0):Calls Tryz.prog 73 #[v,.int .i64 i,u] w fun e w'=>e=.returned v /\ w'=w:=by
 obtain ⟨t24,t3,t4,mixed,z36,hnt⟩:=GK
 have u24:=run_underlying t24;have u3:=run_underlying t3;have u4:=run_underlying t4
 obtain ⟨A,n,c,rfl,hi⟩:=hv
 obtain ⟨A2,c2,rfl⟩:=hu
 have hi0:(i:Int) <= (n:Int):=by omega
 have hz1:(m:Int)=0:=by omega
 cases A <;> (go_enter Tryz.func73,hnt;go_wp2 <;> (go_ret;exact ⟨rfl,rfl⟩))
theorem ach {v:Value} {w':World} {v':Value} (hv:(∃ A c,v=.slice A n c)) (hm:0<m)
  (hr:∀ ty,(Builtin.append_ #[31,31] ty #[v,.slice (some ⟨g2,0,none⟩) m c2]).run Tryz.prog w=.ok v' w'):Calls Tryz.prog 73 #[v,.int .i64 n,.slice (some ⟨g2,0,none⟩) m c2] w fun e w1=>e=.returned v' /\ w1=w':=by
 obtain ⟨t24,t3,t4,mixed,z36,hnt⟩:=GK
 have u24:=run_underlying t24;have u3:=run_underlying t3;have u4:=run_underlying t4
 have hz1:¬ ((m:Int)=0):=by omega
 obtain ⟨A,c,rfl⟩:=hv
 go_enter Tryz.func73,hnt
 go_wp2_with (at_builtin;refine Gx rfl rfl _ _ rfl rfl (hr _) ?_)
 all_goals (go_ret;exact ⟨rfl,rfl⟩)
theorem XH {v' v'':Value} {w' w'':World} (hi:i<n) (hm:0<m) (hroom:n+m <= c) (hc63:c <= 9223372036854775807)
  (hov:∀ lb cb,(callFunc 143 #[.slice (some ⟨g2,0,none⟩) m c2,.slice (some ⟨g,(i+m) * 28,none⟩) lb cb]).run Tryz.prog w=.ok (.value (.bool false)) w)
  (hcp1:∀ ty dc sc,(Builtin.copy_ #[31,31] ty #[.slice (some ⟨g,(i+m) * 28,none⟩) (n+m - (i+m)) dc,.slice (some ⟨g,i * 28,none⟩) (n+m - i) sc]).run Tryz.prog w.drew=.ok v' w')
  (hcp2:∀ ty dc,(Builtin.copy_ #[31,31] ty #[.slice (some ⟨g,i * 28,none⟩) (n+m - i) dc,.slice (some ⟨g2,0,none⟩) m c2]).run Tryz.prog w'=.ok v'' w'') :
  Calls Tryz.prog 73 #[.slice (some ⟨g,0,none⟩) n c,.int .i64 i,.slice (some ⟨g2,0,none⟩) m c2] w fun e w1=>e=.returned (.slice (some ⟨g,0,none⟩) (n+m) c) /\ w1=w'':=by
 obtain ⟨t24,t3,t4,mixed,z36,hnt⟩:=GK
 have u24:=run_underlying t24;have u3:=run_underlying t3;have u4:=run_underlying t4
 have hz1:¬ ((m:Int)=0):=by omega
 have hz2:¬ ((i:Int)=(n:Int)):=by omega
 have hw1:IntKind.i64.wrap ((i:Int)+(m:Int))=(i:Int)+(m:Int):=by rw [IntKind.wrap_i64];omega
 have hb1:(0:Int) <= (i:Int)+(m:Int):=by omega
 have hin:i <= n:=by omega
 have htn:((i:Int)+(m:Int)).toNat=i+m:=by omega
 have hb2:¬ (c=i+m):=by omega
 have hb3:(i:Int) <= (n:Int)+(m:Int):=by omega
 have hb4:¬ (c=i):=by omega
 go_enter Tryz.func73,hnt
 go_wp2_with (simp only [hov])
 go_region_law_o (refine Jp rfl rfl _ _ (by simp [Act.eval,Act.put]) (by simp [Act.eval,Act.put]) (hcp1 _ _ _) ?_)
 go_wp2_with (at_builtin;refine Jo rfl rfl _ _ rfl rfl (hcp2 _ _) ?_)
 go_ret
 exact ⟨rfl,rfl⟩
theorem aaw {h G:Nat} {v' v'':Value} {w0 w' w'':World} (hi:i<n) (hm:0<m) (hnc:n <= c) (hroom:c<n+m) (hc63:n+m <= 140737488355328) (hG:n+m <= G) (hG63:G <= 9223372036854775807)
  (hrz:∀ ty,(Builtin.append_ #[31,3] ty #[.slice (some ⟨g,0,none⟩) i c,.int .i64 ((n:Int)+(m:Int) - (i:Int))]).run Tryz.prog w=.ok (.slice (some ⟨h,0,none⟩) (n+m) G) w0)
  (hcp1:∀ ty dc,(Builtin.copy_ #[31,31] ty #[.slice (some ⟨h,i * 28,none⟩) (n+m - i) dc,.slice (some ⟨g2,0,none⟩) m c2]).run Tryz.prog w0=.ok v' w')
  (hcp2:∀ ty dc sc,(Builtin.copy_ #[31,31] ty #[.slice (some ⟨h,(i+m) * 28,none⟩) (n+m - (i+m)) dc,.slice (some ⟨g,i * 28,none⟩) (n - i) sc]).run Tryz.prog w'.drew=.ok v'' w'') :
  Calls Tryz.prog 73 #[.slice (some ⟨g,0,none⟩) n c,.int .i64 i,.slice (some ⟨g2,0,none⟩) m c2] w fun e w1=>e=.returned (.slice (some ⟨h,0,none⟩) (n+m) G) /\ w1=w'':=by
 obtain ⟨t24,t3,t4,mixed,z36,hnt⟩:=GK
 have u24:=run_underlying t24;have u3:=run_underlying t3;have u4:=run_underlying t4
 have hz1:¬ ((m:Int)=0):=by omega
 have hz2:¬ ((i:Int)=(n:Int)):=by omega
 have hz3:(c:Int)<(n:Int)+(m:Int):=by omega
 have hw1:IntKind.i64.wrap ((i:Int)+(m:Int))=(i:Int)+(m:Int):=by rw [IntKind.wrap_i64];omega
 have hb1:(0:Int) <= (i:Int)+(m:Int):=by omega
 have hin:i <= n:=by omega
 have htn:((i:Int)+(m:Int)).toNat=i+m:=by omega
 have hGi:¬ (G=i):=by omega
 have hGim:¬ (G=i+m):=by omega
 have hci:¬ (c=i):=by omega
 have hb3:(i:Int) <= (n:Int):=by omega
 go_enter Tryz.func73,hnt
 go_wp2_with (first
  | (at_builtin;refine Gx rfl rfl _ _ rfl rfl (hrz _) ?_)
  | (at_builtin;refine Jo rfl rfl _ _ rfl rfl (hcp1 _ _) ?_))
 go_region_law_o (refine Jp rfl rfl _ _ (by simp [Act.eval,Act.put]) (by simp [Act.eval,Act.put]) (hcp2 _ _ _) ?_)
 go_wp2
 go_ret
 exact ⟨rfl,rfl⟩
end
abbrev P73:List PT:=eG 59 u6
abbrev R73:List RT:=qU 59 u6
def S73 (k:Nat) (a:List BM) (b:Int) (c:List BM):Option (((List BM)×Unit)×Unit):=Jg 272 59 u6 k (a,b,c,())
def F73:Fn:=⟨P73,R73,Jg 272 59 u6⟩
def E73:Env:=tab.env (fun _=>none) (fun _=>0)
theorem ao9:aH Tryz.prog E73:=Kw Rt _ _ (fun f F h=>by cases h)
theorem ok73:O 73 F73:=by
 obtain ⟨i0,z,a1,a2,a3,a4,a5⟩:=(ao9.ty 59 (u6) (by kernel_rfl)).info
 have b1:E73.lK 59=272:=by kernel_rfl
 have b2:Ty.sz (u6)=28:=rfl
 rw [b1] at a3
 have hz:z.cells.size=28:=by rw [<- Array.length_toList,a5,gZ,b2]
 obtain ⟨t24,t3,t4,mixed,z36,hnt⟩:=GK
 refine Qq Tryz.func73 rfl (by kernel_rfl) ?_
 rw [b2,<- a3]
 refine Mq (S:=31) (z:=z) t24 t3 a1 a4 (by rw [a2,b2]) hz (by decide) (by rw [a3];decide) (fun w i m v u h1 h2 h3=>aav w h1 h2 h3) (fun w n g2 m c2 v v' w' h1 h2 h3=>ach w h1 h2 h3) (fun w g n c i g2 m c2 v' v'' w' w'' h1 h2 h3 h4 h5 h6 hne hg hg2=>XH w h1 h2 h3 h4 (fun lb cb=>?_) h5 h6) (fun w g n c i g2 m c2 h G v' v'' w0 w' w'' h1 h2 h3 h4 h5 h6 h7 h8 h9 h10=>aaw w h1 h2 h3 h4 h5 h6 h7 h8 h9 h10)
 obtain ⟨cur,q1,q2⟩:=hg
 obtain ⟨xE,q3⟩:=hg2
 rw [run_callFunc_extern Tryz.func143 (by kernel_rfl) (by kernel_rfl) (by kernel_rfl) (e:=Extern.SlicesOverlaps.overlaps #[31,31] #[4]) (by kernel_rfl),Lib.run_overlaps_apart w 31 4 59 t24 28 z36 ⟨g2,0,none⟩ ⟨g,(i+m) * 28,none⟩ m c2 lb cb hne 59 59 xE.size cur.size (by simp [World.shape?,q3]) (by simp [World.shape?,q1]) q2 (Kd.fQ q3 _) (Kd.fQ q3 _)]
 rfl
abbrev aly:Cut:=⟨[1,2,3,6,9,10],[cI,cI,.box 42 [cI,cI,.own 54 BL,.own 168 D6,.cell .bool,.cell .bool,.cell .bool,.own 59 u6,.own 3 (.int .i64),.own 4 .bool,.own 142 JB,.own 3 (.int .i64),.own 4 .bool],.box 42 [cI,cI,.nil,.nil,.cell .bool,.cell .bool,.cell .bool,.nil,.nil,.nil,.nil,.nil,.nil],.own 51 ac2,cI],[],98,[]⟩
def SK (k:Nat) (a b:Int) (c:C9) (e f:Int) (h i l:Bool) (m:List (PN Int 6)) (n:Int):Option ((G9×(List (PN Int 6))×Int×Unit)×Unit) :=
 (S74 k a c.1 b).bind fun q4 =>
 (S73 k c.2.2.2.2.2.2.2.1 n ([q4.1.1]:List BM)).bind fun q5 =>
 ap m ([(c.1,1,a,0,b,0)]:List (PN Int 6)) 48 fun r6 =>
 some (((w7 c q5.1.1),r6,0,()),())
abbrev alz:Cut:=⟨[1,2,3,6],[cI,cI,.box 42 [cI,cI,.own 54 BL,.own 168 D6,.cell .bool,.cell .bool,.cell .bool,.own 59 u6,.own 3 (.int .i64),.own 4 .bool,.own 142 JB,.own 3 (.int .i64),.own 4 .bool],.box 42 [cI,cI,.nil,.nil,.cell .bool,.cell .bool,.cell .bool,.nil,.nil,.nil,.nil,.nil,.nil]],[],98,[]⟩
def XI (k:Nat) (a b:Int) (c:C9) (e f:Int) (h i l:Bool):Option ((G9×(List (PN Int 6))×Int×Unit)×Unit) :=
 (S71 k c a).bind fun q1 =>
 (bif q1.1.2.1 then
  ix c.2.2.2.2.2.2.2.1 q1.1.1 <|
  (bif (rd c.2.2.2.2.2.2.2.1 q1.1.1 ay).2.2.2.1 != 2 then
   some ((c,[],5,()),())
  else
   ap ([]:List (PN Int 6)) ([(c.1,13,a,0,0,0)]:List (PN Int 6)) 48 fun r2 =>
   (S72 k c.2.2.2.2.2.2.2.1 q1.1.1 (IntKind.i64.wrap (q1.1.1+1))).bind fun q3 =>
   SK k a b (w7 c q3.1.1) e f h i l r2 q1.1.1)
 else
  SK k a b c e f h i l ([]:List (PN Int 6)) q1.1.1)
def S30 (k:Nat) (a:C9) (b c:Int):Option ((G9×(List (PN Int 6))×Int×Unit)×Unit) :=
 (S56 k a).bind fun q0 =>
 (bif !q0.1.1.2.2.2.2.1 then
  some ((q0.1.1,[],8,()),())
 else
  (bif q0.1.1.2.2.2.2.2.1 then
   some ((q0.1.1,[],17,()),())
  else
   (bif decide (b<0) then
    some ((q0.1.1,[],3,()),())
   else
    (bif decide (b≥(q0.1.1.2.2.1.length:Int)) then
     some ((q0.1.1,[],3,()),())
    else
     (bif decide (b<(q0.1.1.2.2.2.2.2.2.2.2.2.2.length:Int)) then
      ix q0.1.1.2.2.2.2.2.2.2.2.2.2 b <|
      (bif rd q0.1.1.2.2.2.2.2.2.2.2.2.2 b false then
       some ((q0.1.1,[],6,()),())
      else
       XI k b c q0.1.1 0 0 false false false)
     else
      XI k b c q0.1.1 0 0 false false false)))))
def F30:Fn:=⟨[Zq,au,au],[ac5,.val ⟨false,(.sl 51 ac2),true⟩,rI],fun k (a,b,c,_)=>S30 k a b c⟩
theorem ok30:O 30 F30:=okF (ah ok56 <| ah ok71 <| ah ok72 <| ah ok73 <| ah ok74 aj) [(9,2)] (fun k=>(.join 17 aly (fun d=>SK k d.2.1 d.2.2.1 (Zt d.2.2.2.1) d.2.2.2.2.1.1 d.2.2.2.2.1.2.1 d.2.2.2.2.1.2.2.2.2.1 d.2.2.2.2.1.2.2.2.2.2.1 d.2.2.2.2.1.2.2.2.2.2.2.1 d.2.2.2.2.2.1 d.2.2.2.2.2.2.1) (.join 10 alz (fun d=>XI k d.2.1 d.2.2.1 (Zt d.2.2.2.1) d.2.2.2.2.1.1 d.2.2.2.2.1.2.1 d.2.2.2.2.1.2.2.2.2.1 d.2.2.2.2.1.2.2.2.2.2.1 d.2.2.2.2.1.2.2.2.2.2.2.1) .nil))) Tryz.func30 rfl
def S99 (k:Nat) (a:C9):Option FT :=
 (S30 k a (-1) 0).bind fun q0 =>
 some ((q0.1.1,()),())
def F99:Fn:=⟨[Zq],[ac5],fun k x=>S99 k x.1⟩
theorem ok99:O 99 F99:=okF (ah ok30 aj) [] On Tryz.func99 rfl
def aiM (k:Nat) (a:RN):Option ((FQ×Unit)×Unit) :=
 (GJ k a.1).bind fun q0 =>
 (Vb k a.2).bind fun q1 =>
 some (((q0.1.1,q1.1.1),()),())
def F324:Fn:=⟨[RO],[Vp],fun k x=>aiM k x.1⟩
theorem ok324:O 324 F324:=okF (ah ok219 <| ah ok263 aj) [] On Tryz.func324 rfl
def aiN (k:Nat) (a:RN):Option jq :=
 some ((mn (a.1.length:Int) (a.2.length:Int),()),())
def F326:Fn:=⟨[RO],[rI],fun k x=>aiN k x.1⟩
theorem ok326:O 326 F326:=okF aj [] On Tryz.func326 rfl
abbrev ad5:Cut:=⟨[0,1,7,8],[.cell DW,.cell .bool,cI,cI],[],19,[]⟩
def XJ (k:Nat) (g2:(List Bool) -> Bool -> Int -> Int -> Option jq) (a:List Bool) (b:Bool) (c e:Int):Option jq :=
 (bif decide (e<c) then
  ix a e <|
  (bif b==(rd a e false) then
   some ((e,()),())
  else
   g2 a b c (IntKind.i64.wrap (e+1)))
 else
  some (((-1),()),()))
def aiO (k:Nat):Xx (((Unit)×(List Bool)×Bool×Int×Int×Unit) -> Option jq):=eu (dw (dh (dh (dh (dh dx))))) (XJ k)
def N7 (k a:Nat) (b:List Bool) (c:Bool) (e f:Int):Option jq:=iter ad5 (aiO k) a ((),b,c,e,f,())
theorem aax (k a b c e f):N7 k (a+1) b c e f=XJ k (N7 k a) b c e f:=Ba _ _ _ _
def aiP (k:Nat) (a:List Bool) (b:Bool):Option jq :=
 N7 k k a b (a.length:Int) 0
def F325:Fn:=⟨[.val ⟨false,DW,false⟩,.val ⟨false,.bool,false⟩],[rI],fun k x=>aiP k x.1 x.2.1⟩
theorem ok325:O 325 F325:=okF aj [] (fun k=>(.loop 2 ad5 (aiO k) (fun g=>.nil) .nil)) Tryz.func325 rfl
def alA (k:Nat) (a:RN):Option ((FQ×(Int×Int)×Bool×Unit)×Unit) :=
 (aiM k a).bind fun q0 =>
 (aiN k q0.1.1).bind fun q1 =>
 sx q0.1.1.2 0 q1.1.1 <|
 (aiP k (sub q0.1.1.2 0 q1.1.1) false).bind fun q2 =>
 (bif decide (q2.1.1<0) then
  some ((q0.1.1,(0,0),false,()),())
 else
  ix q0.1.1.1 q2.1.1 <|
  ix q0.1.1.1 q2.1.1 <|
  ix q0.1.1.2 q2.1.1 <|
  ix (upd q0.1.1.1 q2.1.1 (IntKind.i64.wrap ((rd q0.1.1.1 q2.1.1 0)+1))) q2.1.1 <|
  some (((upd q0.1.1.1 q2.1.1 (IntKind.i64.wrap ((rd q0.1.1.1 q2.1.1 0)+1)),upd q0.1.1.2 q2.1.1 true),(q2.1.1,rd (upd q0.1.1.1 q2.1.1 (IntKind.i64.wrap ((rd q0.1.1.1 q2.1.1 0)+1))) q2.1.1 0),true,()),()))
def F252:Fn:=⟨[RO],[Vp,.val ⟨true,ou,true⟩,rB],fun k x=>alA k x.1⟩
theorem ok252:O 252 F252:=okF (ah ok324 <| ah ok325 <| ah ok326 aj) [] On Tryz.func252 rfl
def agM (k:Nat) (a:Int) (b:Int×Int):Option ((tq×Unit)×Unit) :=
 (bif a==1 then
  some (((a,b,(8,0),([],[]),(0,[]),0),()),())
 else
  some (((a,b,(0,0),([],[]),(0,[]),0),()),()))
def F233:Fn:=⟨[au,ahP],[.val ⟨true,JB,true⟩],fun k x=>agM k x.1 x.2.1⟩
theorem ok233:O 233 F233:=okF aj [] On Tryz.func233 rfl
abbrev ad6:Cut:=⟨[1,4,5,7,8,9,20,21,22],[cI,.box 38 [.nil,.nil,.nil],.box 95 [cI,cI],.mp 253 false (.int .i64) false (.int .i64),.box 38 [.own 3 (.int .i64),.own 4 .bool,.own 142 JB],cI,.cell OX,cI,cI],[],72,[]⟩
def XK (k:Nat) (g4:Int -> Int -> Int -> ko -> (List Int) -> (List Bool) -> (List tq) -> Int -> (List tq) -> Int -> Int -> Option Zf) (a b c:Int) (e:o7) (f:List Int) (h:List Bool) (i:List tq) (l:Int) (m:List tq) (n o:Int):Option Zf :=
 (bif decide (o<n) then
  ix m o <|
  (bif (rd m o bf).1==a then
   g4 a b c e f h i (IntKind.i64.wrap (l+1)) m n (IntKind.i64.wrap (o+1))
  else
   g4 a b c e f h i l m n (IntKind.i64.wrap (o+1)))
 else
  (alA k (f,h)).bind fun q1 =>
  (bif decide (l≥(Us (.int .i64) (.int .i64) a e 0)) then
   some ((((f,h),i),(0,0),false,()),())
  else
   (bif !q1.1.2.2.1 then
    some ((((f,h),i),(0,0),false,()),())
   else
    (bif decide (q1.1.2.1.1≥(i.length:Int)) then
     some ((((f,h),i),(0,0),false,()),())
    else
     (agM k a q1.1.2.1).bind fun q2 =>
     (ace k q2.1.1).bind fun q3 =>
     ix i q1.1.2.1.1 <|
     some (((q1.1.1,upd i q1.1.2.1.1 q3.1.1),q1.1.2.1,true,()),())))))
def aiQ (k:Nat):Xx (((Unit)×Int×(Unit×Unit×Unit×Unit)×(Int×Int×Unit)×ko×an3×Int×(List tq)×Int×Int×Unit) -> Option Zf):=eu (dw (dh (d9 (dw (dw (dw dx))) (d9 (dh (dh dx)) (dh (d9 (dh (dh (dh dx))) (dh (dh (dh (dh dx)))))))))) (XK k)
def XL (k a:Nat) (b c e:Int) (f:o7) (h:List Int) (i:List Bool) (l:List tq) (m:Int) (n:List tq) (o p:Int):Option Zf:=iter ad6 (aiQ k) a ((),b,((),(),(),()),(c,e,()),f,(h,i,l,()),m,n,o,p,())
theorem aay (k a b c e f h i l m n o p):XL k (a+1) b c e f h i l m n o p=XK k (XL k a) b c e f h i l m n o p:=Ba _ _ _ _
def alC (k:Nat) (a:FQ×List tq) (b:Int):Option Zf :=
 (Vd k a).bind fun q0 =>
 XL k k b 0 0 (vL (.int .i64) (.int .i64) 3 4 (vL (.int .i64) (.int .i64) 2 4 (vL (.int .i64) (.int .i64) 1 4 ([]:List (Int×Int))))) q0.1.1.1.1 q0.1.1.1.2 q0.1.1.2 0 a.2 (a.2.length:Int) 0
def F167:Fn:=⟨[Vo,au],[ac4,.val ⟨true,ou,true⟩,rB],fun k x=>alC k x.1 x.2.1⟩
theorem ok167:O 167 F167:=okF (ah ok185 <| ah ok221 <| ah ok233 <| ah ok252 aj) [] (fun k=>(.loop 4 ad6 (aiQ k) (fun g=>.nil) .nil)) Tryz.func167 rfl
abbrev apa:Cut:=⟨[0,2],[.pin false 0,.mp 253 false (.int .i64) false (.int .i64)],[.fK 175 [cI,cI,.cell qd,.cell Zm,.cell .bool,.cell .bool,.cell .bool,.cell (.sl 59 u6),.cell uw,.cell DW,.cell OX,.cell uw,.cell DW,cI,cI,cI,cI,.cell qp,.cell qp,.cell qp,cI,cI,cI,cI,.cell (.int .u32),.own 51 ac2,cI,cI,cI,cI]],58,[]⟩
def aaz (k:Nat) (a:GA) (b:o7):Option OW :=
 (alC k a.1.2.2.2.2.2.2.2.2.1 (Us (.int .i64) (.int .i64) a.2.1.1 b 0)).bind fun q0 =>
 (bif !q0.1.2.2.1 then
  some ((),BR (w3 a 4),())
 else
  some ((),BR (w4 (w0 a (w8 a.1 q0.1.1)) q0.1.2.1),()))
def S90 (k:Nat) (a:GA):Option OW :=
 (bif a.2.1.1==2 then
  (bif a.1.2.2.2.2.1 then
   some ((),BR (w3 a 7),())
  else
   aaz k a (vL (.int .i64) (.int .i64) 4 3 (vL (.int .i64) (.int .i64) 3 2 (vL (.int .i64) (.int .i64) 2 1 ([]:List (Int×Int))))))
 else
  aaz k a (vL (.int .i64) (.int .i64) 4 3 (vL (.int .i64) (.int .i64) 3 2 (vL (.int .i64) (.int .i64) 2 1 ([]:List (Int×Int))))))
def F90:Fn:=⟨[Zo],[],fun k x=>S90 k (qh x.1)⟩
theorem ok90:O 90 F90:=okF (ah ok167 aj) [] (fun k=>(.join 3 apa (fun d=>aaz k (qh d.1.1) d.2.2.1) .nil)) Tryz.func90 rfl
abbrev ad7:Cut:=⟨[2,6,7,8],[.own 3 (.int .i64),.cell OX,cI,cI],[],22,[]⟩
def XM (k:Nat) (g2:(List Int) -> (List tq) -> Int -> Int -> Option uj) (a:List Int) (b:List tq) (c e:Int):Option uj :=
 (bif decide (e<c) then
  ix b e <|
  (bif (rd b e bf).1==1 then
   ap a ([e]:List Int) 8 fun r0 =>
   g2 r0 b c (IntKind.i64.wrap (e+1))
  else
   g2 a b c (IntKind.i64.wrap (e+1)))
 else
  some ((a,()),()))
def aiR (k:Nat):Xx (((Unit)×(List Int)×(List tq)×Int×Int×Unit) -> Option uj):=eu (dw (dh (dh (dh (dh dx))))) (XM k)
def XO (k a:Nat) (b:List Int) (c:List tq) (e f:Int):Option uj:=iter ad7 (aiR k) a ((),b,c,e,f,())
theorem aaA (k a b c e f):XO k (a+1) b c e f=XM k (XO k a) b c e f:=Ba _ _ _ _
def aaB (k:Nat) (a:FQ×List tq):Option uj :=
 XO k k ([]:List Int) a.2 (a.2.length:Int) 0
def F107:Fn:=⟨[Vo],[ahO],fun k x=>aaB k x.1⟩
theorem ok107:O 107 F107:=okF aj [(2,2)] (fun k=>(.loop 2 ad7 (aiR k) (fun g=>.nil) .nil)) Tryz.func107 rfl
abbrev aiS:Cut:=⟨[1,2,7,8,9],[.box 42 [cI,cI,.cell qd,.cell Zm,.cell .bool,.cell .bool,.cell .bool,.cell (.sl 59 u6),.cell uw,.cell DW,.cell OX,.cell uw,.cell DW],.own 121 ou,.own 3 (.int .i64),cI,cI],[],25,[]⟩
def ad8 (k:Nat) (g2:G9 -> ko -> (List Int) -> Int -> Int -> Option AX) (a:C9) (b:o7) (c:List Int) (e f:Int):Option AX :=
 (bif decide (f<e) then
  ix c f <|
  ix a.2.2.2.2.2.2.2.2.1.2 (rd c f 0) <|
  ap b ([(rd a.2.2.2.2.2.2.2.2.1.2 (rd c f 0) bf).2.2.1]:List (Int×Int)) 16 fun r1 =>
  g2 a r1 c e (IntKind.i64.wrap (f+1))
 else
  some ((b,()),()))
def an8 (k:Nat) (g:((Unit)×zw×ko×(List Int)×Int×Int×Unit) -> Option AX) (d:(Unit)×zw×ko×(List Int)×Int×Int×Unit):Option AX:=ad8 k (fun a b c e f=>g ((),RP a,b,c,e,f,())) (Zt d.2.1) d.2.2.1 d.2.2.2.1 d.2.2.2.2.1 d.2.2.2.2.2.1
def ad9 (k a:Nat) (b:C9) (c:o7) (e:List Int) (f h:Int):Option AX:=iter aiS (an8 k) a ((),RP b,c,e,f,h,())
theorem aea (k a b c e f h):ad9 k (a+1) b c e f h=ad8 k (ad9 k a) b c e f h:=Ba _ _ _ _
def S48 (k:Nat) (a:C9):Option AX :=
 (aaB k a.2.2.2.2.2.2.2.2.1).bind fun q0 =>
 ad9 k k a ([]:List (Int×Int)) q0.1.1 (q0.1.1.length:Int) 0
def F48:Fn:=⟨[Zq],[.val ⟨false,(.sl 121 ou),true⟩],fun k x=>S48 k x.1⟩
theorem ok48:O 48 F48:=okF (ah ok107 aj) [(2,2)] (fun k=>(.loop 2 aiS (an8 k) (fun g=>.nil) .nil)) Tryz.func48 rfl
def S59 (k:Nat) (a:Int×Int×Int×Int) (b:o7):Option lq :=
 (bif a.1==9 then
  some ((decide (a.2.1≥(b.length:Int)),()),())
 else
  some ((false,()),()))
def F59:Fn:=⟨[agz,.pv (.ref (.sl 121 ou))],[rB],fun k x=>S59 k x.1 x.2.1⟩
theorem ok59:O 59 F59:=okF aj [] On Tryz.func59 rfl
abbrev aaC:Cut:=⟨[0,1,7,8],[.cell qp,.lJ 59 [.ref (.sl 121 ou)],cI,cI],[],19,[]⟩
def QO (k:Nat) (g2:(List jr) -> ko -> Int -> Int -> Option jq) (a:List jr) (b:o7) (c e:Int):Option jq :=
 (bif decide (e<c) then
  ix a e <|
  (S59 k (rd a e (0,0,0,0)) b).bind fun q0 =>
  (bif q0.1.1 then
   some ((e,()),())
  else
   g2 a b c (IntKind.i64.wrap (e+1)))
 else
  some (((-1),()),()))
def aeb (k:Nat):Xx (((Unit)×(List jr)×(ko×Unit)×Int×Int×Unit) -> Option jq):=eu (dw (dh (d9 (dh dx) (dh (dh dx))))) (QO k)
def IE (k a:Nat) (b:List jr) (c:o7) (e f:Int):Option jq:=iter aaC (aeb k) a ((),b,(c,()),e,f,())
theorem VE (k a b c e f):IE k (a+1) b c e f=QO k (IE k a) b c e f:=Ba _ _ _ _
def aec (k:Nat) (a:List jr) (b:o7):Option jq :=
 IE k k a b (a.length:Int) 0
def F130d:Fn:=⟨[EH,.pv (.lJ 59 [.ref (.sl 121 ou)])],[rI],fun k x=>aec k x.1 x.2.1.1⟩
theorem ok130d:O 130 F130d:=okF (ah ok59 aj) [] (fun k=>(.loop 2 aaC (aeb k) (fun g=>.nil) .nil)) Tryz.func130 rfl
def apb (k:Nat) (a:List jr) (b:o7):Option lq :=
 (aec k a b).bind fun q0 =>
 some ((decide (q0.1.1≥0),()),())
def F57c:Fn:=⟨[EH,.pv (.lJ 59 [.ref (.sl 121 ou)])],[rB],fun k x=>apb k x.1 x.2.1.1⟩
theorem ok57c:O 57 F57c:=okF (ah ok130d aj) [] On Tryz.func57 rfl
abbrev aiT:Cut:=⟨[0,1,11,12,13],[.pin false 0,.cell (.sl 121 ou),.own 3 (.int .i64),cI,cI],[.fK 42 [cI,cI,.cell qd,.own 168 D6,.cell .bool,.cell .bool,.cell .bool,.own 59 u6,.own 3 (.int .i64),.own 4 .bool,.own 142 JB,.own 3 (.int .i64),.own 4 .bool]],55,[]⟩
def aed (k:Nat) (g1:G9 -> ko -> (List Int) -> Int -> Int -> Option ((Unit)×zw×Unit)) (a:C9) (b:o7) (c:List Int) (e f:Int):Option ((Unit)×zw×Unit) :=
 (bif decide (f<e) then
  ix c f <|
  ix a.2.2.2.2.2.2.2.2.1.2 (rd c f 0) <|
  (bif decide (f<(b.length:Int)) then
   ix b f <|
   (bif !(fC ou (rd a.2.2.2.2.2.2.2.2.1.2 (rd c f 0) bf).2.2.1 (rd b f (0,0))) then
    ix b f <|
    (JC k a.2.2.2.2.2.2.2.2.1 (rd c f 0) ((rd a.2.2.2.2.2.2.2.2.1.2 (rd c f 0) bf).1,(rd a.2.2.2.2.2.2.2.2.1.2 (rd c f 0) bf).2.1,rd b f (0,0),(rd a.2.2.2.2.2.2.2.2.1.2 (rd c f 0) bf).2.2.2)).bind fun q1 =>
    g1 (w8 a q1.1.1) b c e (IntKind.i64.wrap (f+1))
   else
    g1 a b c e (IntKind.i64.wrap (f+1)))
  else
   g1 a b c e (IntKind.i64.wrap (f+1)))
 else
  some ((),RP a,()))
def an9 (k:Nat) (g:((zw×Unit)×Unit×ko×(List Int)×Int×Int×Unit) -> Option ((Unit)×zw×Unit)) (d:(zw×Unit)×Unit×ko×(List Int)×Int×Int×Unit):Option ((Unit)×zw×Unit):=aed k (fun a b c e f=>g ((RP a,()),(),b,c,e,f,())) (Zt d.1.1) d.2.2.1 d.2.2.2.1 d.2.2.2.2.1 d.2.2.2.2.2.1
def VF (k a:Nat) (b:C9) (c:o7) (e:List Int) (f h:Int):Option ((Unit)×zw×Unit):=iter aiT (an9 k) a ((RP b,()),(),c,e,f,h,())
theorem aee (k a b c e f h):VF k (a+1) b c e f h=aed k (VF k a) b c e f h:=Ba _ _ _ _
def S61 (k:Nat) (a:C9) (b:o7):Option ((Unit)×zw×Unit) :=
 (aaB k a.2.2.2.2.2.2.2.2.1).bind fun q0 =>
 VF k k a b q0.1.1 (q0.1.1.length:Int) 0
def F61:Fn:=⟨[.fK 42 [cI,cI,.cell qd,.own 168 D6,.cell .bool,.cell .bool,.cell .bool,.own 59 u6,.own 3 (.int .i64),.own 4 .bool,.own 142 JB,.own 3 (.int .i64),.own 4 .bool],.val ⟨false,(.sl 121 ou),false⟩],[],fun k x=>S61 k (Zt x.1) x.2.1⟩
theorem ok61:O 61 F61:=okF (ah ok107 <| ah ok128 aj) [] (fun k=>(.loop 1 aiT (an9 k) (fun g=>.nil) .nil)) Tryz.func61 rfl
abbrev aef:Cut:=⟨[1,2,4,33,34],[.box 42 [cI,cI,.cell qd,.own 168 D6,.cell .bool,.cell .bool,.cell .bool,.own 59 u6,.own 3 (.int .i64),.own 4 .bool,.own 142 JB,.own 3 (.int .i64),.own 4 .bool],.box 42 [cI,cI,.nil,.nil,.cell .bool,.cell .bool,.cell .bool,.nil,.nil,.nil,.nil,.nil,.nil],.box 118 [.own 121 ou],cI,cI],[],50,[]⟩
def XP (k:Nat) (g12:G9 -> Int -> Int -> Bool -> Bool -> Bool -> ko -> Int -> Int -> Option GH) (a:C9) (b c:Int) (e f h:Bool) (i:o7) (l m:Int):Option GH :=
 (bif decide (m<l) then
  (S60 k a.2.2.1 m).bind fun q4 =>
  ix i m <|
  g12 a b c e f h (upd i m (q4.1.1,(rd i m (0,0)).2)) l (IntKind.i64.wrap (m+1))
 else
  (S61 k a i).bind fun q5 =>
  some (((w4 (Zt q5.2.1) true),0,()),()))
def aiU (k:Nat) (g:((Unit)×zw×OT×(ko×Unit)×Int×Int×Unit) -> Option GH) (d:(Unit)×zw×OT×(ko×Unit)×Int×Int×Unit):Option GH:=XP k (fun a b c e f h i l m=>g ((),RP a,(b,c,(),(),e,f,h,(),(),(),(),(),(),()),(i,()),l,m,())) (Zt d.2.1) d.2.2.1.1 d.2.2.1.2.1 d.2.2.1.2.2.2.2.1 d.2.2.1.2.2.2.2.2.1 d.2.2.1.2.2.2.2.2.2.1 d.2.2.2.1.1 d.2.2.2.2.1 d.2.2.2.2.2.1
def XQ (k a:Nat) (b:C9) (c e:Int) (f h i:Bool) (l:o7) (m n:Int):Option GH:=iter aef (aiU k) a ((),RP b,(c,e,(),(),f,h,i,(),(),(),(),(),(),()),(l,()),m,n,())
theorem aaD (k a b c e f h i l m n):XQ k (a+1) b c e f h i l m n=XP k (XQ k a) b c e f h i l m n:=Ba _ _ _ _
abbrev aiV:Cut:=⟨[1,2,4,16,17,18],[.box 42 [cI,cI,.cell qd,.own 168 D6,.cell .bool,.cell .bool,.cell .bool,.own 59 u6,.own 3 (.int .i64),.own 4 .bool,.own 142 JB,.own 3 (.int .i64),.own 4 .bool],.box 42 [cI,cI,.nil,.nil,.cell .bool,.cell .bool,.cell .bool,.nil,.nil,.nil,.nil,.nil,.nil],.box 118 [.own 121 ou],.cell qd,cI,cI],[],50,[]⟩
def aeg (k:Nat) (g6:G9 -> Int -> Int -> Bool -> Bool -> Bool -> ko -> (List j4) -> Int -> Int -> Option GH) (a:C9) (b c:Int) (e f h:Bool) (i:o7) (l:List j4) (m n:Int):Option GH :=
 (bif decide (n<m) then
  ix l n <|
  (S58 k ([(rd l n bg).2.2.2.1,(rd l n bg).2.2.2.2.1]:List (List jr))).bind fun q2 =>
  (apb k q2.1.1 i).bind fun q3 =>
  (bif q3.1.1 then
   some ((a,4,()),())
  else
   g6 a b c e f h i l m (IntKind.i64.wrap (n+1)))
 else
  XQ k k a b c e f h i (i.length:Int) 0)
def aoa (k:Nat) (g:((Unit)×zw×OT×(ko×Unit)×(List j4)×Int×Int×Unit) -> Option GH) (d:(Unit)×zw×OT×(ko×Unit)×(List j4)×Int×Int×Unit):Option GH:=aeg k (fun a b c e f h i l m n=>g ((),RP a,(b,c,(),(),e,f,h,(),(),(),(),(),(),()),(i,()),l,m,n,())) (Zt d.2.1) d.2.2.1.1 d.2.2.1.2.1 d.2.2.1.2.2.2.2.1 d.2.2.1.2.2.2.2.2.1 d.2.2.1.2.2.2.2.2.2.1 d.2.2.2.1.1 d.2.2.2.2.1 d.2.2.2.2.2.1 d.2.2.2.2.2.2.1
def aeh (k a:Nat) (b:C9) (c e:Int) (f h i:Bool) (l:o7) (m:List j4) (n o:Int):Option GH:=iter aiV (aoa k) a ((),RP b,(c,e,(),(),f,h,i,(),(),(),(),(),(),()),(l,()),m,n,o,())
theorem aei (k a b c e f h i l m n o):aeh k (a+1) b c e f h i l m n o=aeg k (aeh k a) b c e f h i l m n o:=Ba _ _ _ _
def S23 (k:Nat) (a:C9):Option GH :=
 (S56 k a).bind fun q0 =>
 (bif q0.1.1.2.2.2.2.1 then
  some ((q0.1.1,7,()),())
 else
  (S48 k q0.1.1).bind fun q1 =>
  aeh k k q0.1.1 0 0 false false false q1.1.1 q0.1.1.2.2.1 (q0.1.1.2.2.1.length:Int) 0)
def F23:Fn:=⟨[Zq],[.val ⟨true,ac0,false⟩,rI],fun k x=>S23 k x.1⟩
theorem ok23:O 23 F23:=okF (ah ok48 <| ah ok56 <| ah ok57c <| ah ok58 <| ah ok60 <| ah ok61 aj) [] (fun k=>(.loop 12 aef (aiU k) (fun g=>.nil) (.loop 6 aiV (aoa k) (fun g=>.nil) .nil))) Tryz.func23 rfl
def S91 (k:Nat) (a:GA):Option OW :=
 (S23 k a.1).bind fun q0 =>
 (bif q0.1.2.1==0 then
  (S87 k (q0.1.1.2.2.1.length:Int)).bind fun q1 =>
  some ((),BR ((z9 q0.1.1 q1.1.1),a.2.1,a.2.2.1,q0.1.2.1,a.2.2.2.2),())
 else
  some ((),BR (w3 a q0.1.2.1),()))
def F91:Fn:=⟨[Zo],[],fun k x=>S91 k (qh x.1)⟩
theorem ok91:O 91 F91:=okF (ah ok23 <| ah ok87 aj) [] On Tryz.func91 rfl
def S92 (k:Nat) (a:GA):Option OW :=
 (S30 k a.1 a.2.1.2.2.2.1 a.2.1.2.2.2.2.1).bind fun q0 =>
 some ((),BR (q0.1.1,a.2.1,q0.1.2.1,q0.1.2.2.1,a.2.2.2.2),())
def F92:Fn:=⟨[Zo],[],fun k x=>S92 k (qh x.1)⟩
theorem ok92:O 92 F92:=okF (ah ok30 aj) [] On Tryz.func92 rfl
abbrev aej:Cut:=⟨[1,3,7,8],[.box 35 [.cell uw,.cell DW],.mp 432 true ou false .bool,cI,cI],[],26,[]⟩
def XR (k:Nat) (g3:(List Int) -> (List Bool) -> (List Zn) -> Int -> Int -> Option Zg) (a:List Int) (b:List Bool) (c:List Zn) (e f:Int):Option Zg :=
 (bif decide (f<e) then
  ix b f <|
  (bif rd b f false then
   ix a f <|
   g3 a b (vL ou .bool (f,rd a f 0) true c) e (IntKind.i64.wrap (f+1))
  else
   g3 a b c e (IntKind.i64.wrap (f+1)))
 else
  some ((c,()),()))
def aiW (k:Nat):Xx (((Unit)×((List Int)×(List Bool)×Unit)×(List Zn)×Int×Int×Unit) -> Option Zg):=eu (dw (d9 (dh (dh dx)) (dh (dh (dh dx))))) (XR k)
def XT (k a:Nat) (b:List Int) (c:List Bool) (e:List Zn) (f h:Int):Option Zg:=iter aej (aiW k) a ((),(b,c,()),e,f,h,())
theorem aaE (k a b c e f h):XT k (a+1) b c e f h=XR k (XT k a) b c e f h:=Ba _ _ _ _
def apc (k:Nat) (a:RN):Option Zg :=
 (aiN k a).bind fun q0 =>
 XT k k a.1 a.2 ([]:List Zn) q0.1.1 0
def F352:Fn:=⟨[RO],[.pv (.mp 432 true ou false .bool)],fun k x=>apc k x.1⟩
theorem ok352:O 352 F352:=okF (ah ok326 aj) [] (fun k=>(.loop 3 aej (aiW k) (fun g=>.nil) .nil)) Tryz.func352 rfl
def aiX (k:Nat) (a:RN) (b:Int×Int):Option lq :=
 (apc k a).bind fun q0 =>
 some ((Us ou .bool b q0.1.1 false,()),())
def F327:Fn:=⟨[RO,ahP],[rB],fun k x=>aiX k x.1 x.2.1⟩
theorem ok327:O 327 F327:=okF (ah ok352 aj) [] On Tryz.func327 rfl
def agN (k:Nat) (a:FQ×List tq) (b:Int×Int):Option DV :=
 (aiX k a.1 b).bind fun q0 =>
 (bif !q0.1.1 then
  some ((0,false,()),())
 else
  (ab9 k a b.1).bind fun q1 =>
  (bif !q1.1.1 then
   some ((0,false,()),())
  else
   some ((b.1,true,()),())))
def F253:Fn:=⟨[Vo,ahP],[rI,rB],fun k x=>agN k x.1 x.2.1⟩
theorem ok253:O 253 F253:=okF (ah ok186 <| ah ok327 aj) [] On Tryz.func253 rfl
def acj (k:Nat) (a:GA) (b:Int):Option ((Int×tq×Bool×Unit)×an0×Unit) :=
 (agN k a.1.2.2.2.2.2.2.2.2.1 a.2.1.2.2.1).bind fun q0 =>
 (bif !q0.1.2.1 then
  some ((0,bf,false,()),BR (w3 a 3),())
 else
  ix a.1.2.2.2.2.2.2.2.2.1.2 q0.1.1 <|
  (bif (rd a.1.2.2.2.2.2.2.2.2.1.2 q0.1.1 bf).1 != b then
   some ((0,bf,false,()),BR (w3 a 3),())
  else
   ix a.1.2.2.2.2.2.2.2.2.1.2 q0.1.1 <|
   some ((q0.1.1,rd a.1.2.2.2.2.2.2.2.2.1.2 q0.1.1 bf,true,()),BR a,())))
def F168:Fn:=⟨[Zo,au],[rI,.val ⟨true,JB,false⟩,rB],fun k x=>acj k (qh x.1) x.2.1⟩
theorem ok168:O 168 F168:=okF (ah ok253 aj) [] On Tryz.func168 rfl
def aiY (k:Nat) (a:(List Int)×List Int):Option ((((List Int)×List Int)×Unit)×Unit) :=
 (aam k a.1).bind fun q0 =>
 (GJ k a.2).bind fun q1 =>
 some (((q0.1.1,q1.1.1),()),())
def F254:Fn:=⟨[aoJ],[.val ⟨true,(.pair JH uw),true⟩],fun k x=>aiY k x.1⟩
theorem ok254:O 254 F254:=okF (ah ok219 <| ah ok287 aj) [] On Tryz.func254 rfl
def aiZ (k:Nat) (a:(List Int)×List Int) (b:Int):Option ((((List Int)×List Int)×Int×Bool×Unit)×Unit) :=
 (aiY k a).bind fun q0 =>
 (bif decide ((q0.1.1.2.length:Int)>0) then
  ix q0.1.1.2 0 <|
  sx q0.1.1.2 1 (q0.1.1.2.length:Int) <|
  some (((q0.1.1.1,sub q0.1.1.2 1 (q0.1.1.2.length:Int)),rd q0.1.1.2 0 0,true,()),())
 else
  (bif decide ((q0.1.1.1.length:Int)≥4) then
   some ((q0.1.1,0,false,()),())
  else
   ap q0.1.1.1 ([b]:List Int) 8 fun r1 =>
   some (((r1,q0.1.1.2),0,true,()),())))
def F169:Fn:=⟨[aoJ,au],[aqw,rI,rB],fun k x=>aiZ k x.1 x.2.1⟩
theorem ok169:O 169 F169:=okF (ah ok254 aj) [] On Tryz.func169 rfl
def ai0 (k:Nat) (a:GA) (b c e:Int):Option OW :=
 ap a.2.2.1 ([(a.1.1,12,0,b,c,e)]:List (PN Int 6)) 48 fun r0 =>
 some ((),BR (a.1,a.2.1,r0,a.2.2.2),())
def F170:Fn:=⟨[Zo,au,au,au],[],fun k x=>ai0 k (qh x.1) x.2.1 x.2.2.1 x.2.2.2.1⟩
theorem ok170:O 170 F170:=okF aj [] On Tryz.func170 rfl
def S93 (k:Nat) (a:GA):Option OW :=
 (acj k a 2).bind fun q0 =>
 (bif !q0.1.2.2.1 then
  some ((),q0.2.1,())
 else
  (aiZ k q0.1.2.1.2.2.2.1 (qh q0.2.1).2.1.2.2.2.2.1).bind fun q1 =>
  (bif !q1.1.2.2.1 then
   some ((),BR (w3 (qh q0.2.1) 4),())
  else
   (bif decide (q1.1.2.1>0) then
    (ai0 k (qh q0.2.1) q1.1.2.1 (qh q0.2.1).2.1.2.2.2.2.1 0).bind fun q2 =>
    (JC k (qh q2.2.1).1.2.2.2.2.2.2.2.2.1 q0.1.1 (w3 q0.1.2.1 q1.1.1)).bind fun q3 =>
    some ((),BR ((w8 (qh q2.2.1).1 q3.1.1),(qh q2.2.1).2),())
   else
    (JC k (qh q0.2.1).1.2.2.2.2.2.2.2.2.1 q0.1.1 (w3 q0.1.2.1 q1.1.1)).bind fun q4 =>
    some ((),BR ((w8 (qh q0.2.1).1 q4.1.1),(qh q0.2.1).2),()))))
def F93:Fn:=⟨[Zo],[],fun k x=>S93 k (qh x.1)⟩
theorem ok93:O 93 F93:=okF (ah ok128 <| ah ok168 <| ah ok169 <| ah ok170 aj) [] On Tryz.func93 rfl
abbrev aek:Cut:=⟨[0,1,7,8],[.cell uw,cI,cI,cI],[],19,[]⟩
def N8 (k:Nat) (g2:(List Int) -> Int -> Int -> Int -> Option jq) (a:List Int) (b c e:Int):Option jq :=
 (bif decide (e<c) then
  ix a e <|
  (bif b==(rd a e 0) then
   some ((e,()),())
  else
   g2 a b c (IntKind.i64.wrap (e+1)))
 else
  some (((-1),()),()))
def ai1 (k:Nat):Xx (((Unit)×(List Int)×Int×Int×Int×Unit) -> Option jq):=eu (dw (dh (dh (dh (dh dx))))) (N8 k)
def EM (k a:Nat) (b:List Int) (c e f:Int):Option jq:=iter aek (ai1 k) a ((),b,c,e,f,())
theorem L9 (k a b c e f):EM k (a+1) b c e f=N8 k (EM k a) b c e f:=Ba _ _ _ _
def acn (k:Nat) (a:List Int) (b:Int):Option jq :=
 EM k k a b (a.length:Int) 0
def F149:Fn:=⟨[WX,au],[rI],fun k x=>acn k x.1 x.2.1⟩
theorem ok149:O 149 F149:=okF aj [] (fun k=>(.loop 2 aek (ai1 k) (fun g=>.nil) .nil)) Tryz.func149 rfl
def apd (k:Nat) (a:List Int) (b:Int):Option lq :=
 (acn k a b).bind fun q0 =>
 some ((decide (q0.1.1≥0),()),())
def F255:Fn:=⟨[WX,au],[rB],fun k x=>apd k x.1 x.2.1⟩
theorem ok255:O 255 F255:=okF (ah ok149 aj) [] On Tryz.func255 rfl
def ai2 (k:Nat) (a:(List Int)×List Int) (b:Int):Option ((((List Int)×List Int)×Int×Bool×Bool×Unit)×Unit) :=
 (aiY k a).bind fun q0 =>
 (bif decide (b<1) then
  some ((q0.1.1,0,false,false,()),())
 else
  (bif decide ((q0.1.1.1.length:Int)>0) then
   ix q0.1.1.1 0 <|
   sx q0.1.1.1 1 (q0.1.1.1.length:Int) <|
   some (((sub q0.1.1.1 1 (q0.1.1.1.length:Int),q0.1.1.2),rd q0.1.1.1 0 0,true,true,()),())
  else
   (apd k q0.1.1.2 b).bind fun q1 =>
   (bif q1.1.1 then
    some ((q0.1.1,0,false,false,()),())
   else
    (bif decide ((q0.1.1.2.length:Int)≥4) then
     some ((q0.1.1,0,false,false,()),())
    else
     ap q0.1.1.2 ([b]:List Int) 8 fun r2 =>
     some (((q0.1.1.1,r2),0,false,true,()),())))))
def F171:Fn:=⟨[aoJ,au],[aqw,rI,rB,rB],fun k x=>ai2 k x.1 x.2.1⟩
theorem ok171:O 171 F171:=okF (ah ok254 <| ah ok255 aj) [] On Tryz.func171 rfl
def S94 (k:Nat) (a:GA):Option OW :=
 (acj k a 2).bind fun q0 =>
 (bif !q0.1.2.2.1 then
  some ((),q0.2.1,())
 else
  (ai2 k q0.1.2.1.2.2.2.1 (qh q0.2.1).2.1.2.2.2.1).bind fun q1 =>
  (bif !q1.1.2.2.2.1 then
   some ((),BR (w3 (qh q0.2.1) 1),())
  else
   (bif q1.1.2.2.1 then
    (JC k (qh q0.2.1).1.2.2.2.2.2.2.2.2.1 q0.1.1 (w3 q0.1.2.1 q1.1.1)).bind fun q2 =>
    some ((),BR (w0 (z5 (qh q0.2.1) q1.1.2.1) (w8 (qh q0.2.1).1 q2.1.1)),())
   else
    (JC k (qh q0.2.1).1.2.2.2.2.2.2.2.2.1 q0.1.1 (w3 q0.1.2.1 q1.1.1)).bind fun q3 =>
    some ((),BR ((w8 (qh q0.2.1).1 q3.1.1),(qh q0.2.1).2.1,(qh q0.2.1).2.2.1,16,(qh q0.2.1).2.2.2.2),()))))
def F94:Fn:=⟨[Zo],[],fun k x=>S94 k (qh x.1)⟩
theorem ok94:O 94 F94:=okF (ah ok128 <| ah ok168 <| ah ok171 aj) [] On Tryz.func94 rfl
abbrev ael:Cut:=⟨[4,5,15,16,17],[.box 138 [.cell (.int .u32),.own 266 D7],.own 266 D7,.cell (.sl 266 D7),cI,cI],[],49,[]⟩
def XU (k:Nat) (g3:Int -> ko -> ko -> ko -> Int -> Int -> Option Ze) (x:Int) (a b c:o7) (e f:Int):Option Ze :=
 (bif decide (f<e) then
  ix c f <|
  (bif (Um .u32 x (rd c f (0,0)).2)==0 then
   ap a ([rd c f (0,0)]:List (Int×Int)) 16 fun r0 =>
   g3 x r0 b c e (IntKind.i64.wrap (f+1))
  else
   ap b ([((rd c f (0,0)).1,Um .u32 x (rd c f (0,0)).2)]:List (Int×Int)) 16 fun r1 =>
   g3 (Ru .u32 x (Um .u32 x (rd c f (0,0)).2)) a r1 c e (IntKind.i64.wrap (f+1)))
 else
  some (((x,a),b,()),()))
def ai3 (k:Nat):Xx (((Unit)×(Int×ko×Unit)×ko×ko×Int×Int×Unit) -> Option Ze):=eu (dw (d9 (dh (dh dx)) (dh (dh (dh (dh dx)))))) (XU k)
def XV (k a:Nat) (x:Int) (b c e:o7) (f h:Int):Option Ze:=iter ael (ai3 k) a ((),(x,b,()),c,e,f,h,())
theorem aaF (k a x b c e f h):XV k (a+1) x b c e f h=XU k (XV k a) x b c e f h:=Ba _ _ _ _
def ai4 (k:Nat) (a:Int×List (Int×Int)) (b:Int):Option Ze :=
 XV k k (Uz .u32 a.1 b) ([]:List (Int×Int)) ([]:List (Int×Int)) a.2 (a.2.length:Int) 0
def F172:Fn:=⟨[.val ⟨true,(.pair (.int .u32) (.sl 266 D7)),false⟩,.val ⟨false,(.int .u32),false⟩],[.val ⟨true,(.pair (.int .u32) (.sl 266 D7)),true⟩,.val ⟨false,(.sl 266 D7),true⟩],fun k x=>ai4 k x.1 x.2.1⟩
theorem ok172:O 172 F172:=okF aj [(4,2),(5,2)] (fun k=>(.loop 3 ael (ai3 k) (fun g=>.nil) .nil)) Tryz.func172 rfl
end
end Go.Proofs.YtjjjbcmjmkcedaaGreat.Ab
