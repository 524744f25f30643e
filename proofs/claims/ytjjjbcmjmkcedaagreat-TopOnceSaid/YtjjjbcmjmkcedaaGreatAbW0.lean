import Derived.Test.YtjjjbcmjmkcedaaGreatPbI
import Derived.Lib.Overlaps
import Derived.Shelf.RegionOpenPlain
import Derived.Test.YtjjjbcmjmkcedaaGreatPbC
/- Contracts, printed by this session's own program gen.py. -/
set_option linter.unusedVariables false
set_option linter.unusedSimpArgs false
set_option maxRecDepth 100000
namespace Go.Proofs.YtjjjbcmjmkcedaaGreat.Ab
open Go.RowKit
abbrev cI:PV:=.cell (.int .i64)
abbrev j3:Type:=Int×Int×Int×(List (Int×Int×Int×Int))×(List (Int×Int×Int×Int))×List (Int×Int×Int×Int)
abbrev BL:Ty:=.pair (.int .i64) (.pair (.int .i64) (.pair (.int .i64) (.pair (.sl 127 (.pair (.int .i64) (.pair (.int .i64) (.pair (.int .i64) (.int .i64))))) (.pair (.sl 127 (.pair (.int .i64) (.pair (.int .i64) (.pair (.int .i64) (.int .i64))))) (.sl 127 (.pair (.int .i64) (.pair (.int .i64) (.pair (.int .i64) (.int .i64)))))))))
abbrev GL:Type:=Int×Int×(List j3)×(List (PN Int 5))×Bool×Bool×Bool×(List (Int×Int×Int×Int×(Int×(PN Int 8)×(List (Int×Int×Int))×Bool)×(Int×(PN Int 8)×(List (Int×Int×Int))×Bool)×(List Int)×Bool))×(((List Int)×List Bool)×List (Int×(Int×Int)×(Int×Int)×((List Int)×List Int)×(Int×List (Int×Int))×Int))×(List Int)×List Bool
abbrev uy:Ty:=.pair (.int .i64) (.pair (.int .i64) (.pair (.int .i64) (.pair (.int .i64) (.pair (.pair (.int .i64) (.pair (Am 8 (.int .i64)) (.pair (.sl 293 (.pair (.int .i64) (.pair (.int .i64) (.int .i64)))) .bool))) (.pair (.pair (.int .i64) (.pair (Am 8 (.int .i64)) (.pair (.sl 293 (.pair (.int .i64) (.pair (.int .i64) (.int .i64)))) .bool))) (.pair (.sl 3 (.int .i64)) .bool))))))
abbrev BM:Type:=Int×Int×Int×Int×(Int×(PN Int 8)×(List (Int×Int×Int))×Bool)×(Int×(PN Int 8)×(List (Int×Int×Int))×Bool)×(List Int)×Bool
abbrev JF:Ty:=.pair (.int .i64) (.pair (.pair (.int .i64) (.int .i64)) (.pair (.pair (.int .i64) (.int .i64)) (.pair (.pair (.sl 2 (.int .i64)) (.sl 3 (.int .i64))) (.pair (.pair (.int .u32) (.sl 266 (.pair (.int .i64) (.int .u32)))) (.int .u32)))))
abbrev su:Type:=Int×(Int×Int)×(Int×Int)×((List Int)×List Int)×(Int×List (Int×Int))×Int
abbrev ql:Ty:=.sl 127 (.pair (.int .i64) (.pair (.int .i64) (.pair (.int .i64) (.int .i64))))
abbrev jq:Type:=Int×Int×Int×Int
abbrev C9:Type:=Int×Int×(List j3)×(List (PN Int 5))×Bool×Bool×Bool×(List BM)×(((List Int)×List Bool)×List su)×(List Int)×List Bool
abbrev zu:Type:=Int×Int×(List j3)×(List (PN Int 5))×Bool×Bool×Bool×(List BM)×(List Int)×(List Bool)×(List su)×(List Int)×(List Bool)×Unit
abbrev acT:Ty:=.pair (.int .i64) (.pair (.int .i64) (.pair (.sl 54 BL) (.pair (.sl 168 (Am 5 (.int .i64))) (.pair .bool (.pair .bool (.pair .bool (.pair (.sl 59 uy) (.pair (.pair (.pair (.sl 3 (.int .i64)) (.sl 4 .bool)) (.sl 142 JF)) (.pair (.sl 3 (.int .i64)) (.sl 4 .bool))))))))))
abbrev anF:Type:=Int×Int×(List j3)×(List (PN Int 5))×Bool×Bool×Bool×(List BM)×(List Int)×(List Bool)×(List su)×(List Int)×(List Bool)×Int×Int×Int×Int×(List jq)×(List jq)×(List jq)×Int×Int×Int×Int×Int×(List (PN Int 6))×Int×Int×Int×Int×Unit
abbrev jo:Type:=(Int×Unit)×Unit
abbrev qp:Type:=Int×Int×Int×Bool
abbrev kg:Type:=List (Int×Int)
abbrev oq:Ty:=.pair (.int .i64) (.int .i64)
abbrev ko:Type:=(Bool×Unit)×Unit
abbrev GN:Type:=GL×(Int×j3×(Int×Int)×Int×Int×Int)×(List (PN Int 6))×Int×(Int×Int)×Int
abbrev uo:Ty:=.sl 3 (.int .i64)
abbrev FV:Ty:=.pair (.int .i64) (.pair (.int .i64) (.pair (.int .i64) .bool))
abbrev ug:Type:=((List Int)×Unit)×Unit
abbrev OW:Type:=Int×Int×Unit×Unit×Bool×Bool×Bool×Unit×Unit×Unit×Unit×Unit×Unit×Unit
abbrev OX:Type:=(List jq) -> (List qp) -> (List Int) -> (List qp) -> Int -> Int -> Option ko
abbrev DV:Type:=(Int×Int×Int×Unit)×Unit
abbrev JL:Type:=((List j3)×(List (PN Int 5))×Int×Unit)×Unit
abbrev ahx:Type:=((List Int)×List Bool)×List su
abbrev YZ:Type:=Int×(PN Int 8)×(List (Int×Int×Int))×Bool
abbrev FW:Type:=List (PN Bool 24)
abbrev L6:Type:=Int×Int×Int×(List jq)×(List jq)×List jq
abbrev ahy:Ty:=.pair uo (.sl 4 .bool)
abbrev oz:Type:=List (Int×Int)
abbrev Vh:Type:=(List j3) -> Int -> Int -> kg -> (List j3) -> Int -> Int -> Option jo
abbrev Vi:Ty:=.pair (.int .i64) (.pair (.int .i64) oq)
abbrev Z0:Type:=Int×(Int×Int)×(Int×Int)×((List Int)×List Int)×(Int×List (Int×Int))×Int
abbrev AP:Type:=(kg×Unit)×Unit
abbrev Z4:Type:=(List jq) -> FW -> (List qp) -> Int -> Int -> Option ((FW×Unit)×Unit)
abbrev D5:Ty:=Am 5 (.int .i64)
abbrev D6:Ty:=.pair (.int .i64) (.int .u32)
abbrev DW:Type:=(Int×Bool×Unit)×Unit
abbrev Z5:Type:=(List j3) -> Int -> Int -> Int -> Int -> Int -> Int -> Bool -> Option DV
abbrev ahz:Type:=(List jq) -> (List Int) -> (List Int) -> (List ((PN Bool 24)×Int)) -> FW -> FW -> Int -> Int -> Option (((List Int)×Bool×Unit)×Unit)
abbrev qc:Ty:=.sl 54 BL
abbrev GQ:Type:=((List jq)×Unit)×Unit
abbrev Z6:Type:=((Int×Int×List (Int×Int))×Bool×Unit)×Unit
abbrev GR:Type:=(GL×Int×Unit)×Unit
abbrev Z7:Type:=((Int×List (Int×Int))×kg×Unit)×Unit
abbrev Vj:Type:=Int -> (List Int) -> Int -> Int -> Option jo
abbrev Z8:Type:=(ahx×(Int×Int)×Bool×Unit)×Unit
abbrev Z9:Type:=((List ((Int×Int)×Bool))×Unit)×Unit
abbrev Za:Type:=(List Int) -> (List jq) -> Int -> Int -> Option ug
abbrev ahA:Type:=(List j3) -> Int -> Int -> kg -> (List j3) -> Int -> Int -> kg -> Int -> Int -> Option jo
abbrev GU:Type:=List (PN Int 5)
abbrev FX:Type:=(List Int)×List Bool
abbrev Zb:Type:=Int×Unit
abbrev anG:Ty:=.pair ahy (.sl 142 JF)
abbrev wu:Type:=List qp
abbrev anH:Type:=Int×Int×Int×(List jq)×(List jq)×(List jq)×Unit
abbrev FY:Type:=(GL×Unit)×Unit
abbrev DX:Ty:=.sl 4 .bool
abbrev Zc:Type:=Int×j3×(Int×Int)×Int×Int×Int
abbrev acU:Type:=Int×Int×Int×Int×YZ×YZ×(List Int)×Bool
abbrev OY:Type:=(FW×Unit)×Unit
abbrev Zd:Type:=((List Int)×Bool×Unit)×Unit
abbrev JM:Ty:=.sl 2 (.int .i64)
abbrev ahB:Type:=Int×Int×Int×Bool×Unit
abbrev acV:Ty:=Am 6 (.int .i64)
abbrev RJ:Type:=(ahx×Unit)×Unit
abbrev OZ:Type:=(Unit)×anF×Unit
abbrev anI:Type:=(List Int)×(List Bool)×(List su)×Unit
abbrev Ze:Type:=(GU×Int×Unit)×Unit
abbrev ahC:Type:=((Unit)×(List jq)×Unit×Int×Int×Unit) -> Option jo
abbrev CB:Ty:=Am 24 .bool
abbrev P7:Ty:=.sl 142 JF
abbrev acW:Type:=Int×Bool×Unit
abbrev CF:Type:=PN Bool 24
abbrev RL:Type:=(List Int)×List Bool
abbrev Zf:Ty:=.sl 168 D5
abbrev Vk:Type:=List (List jq)
abbrev Zg:Type:=(Int×Int)×Bool
abbrev Zh:PT:=.fK 175 [cI,cI,.cell qc,.cell Zf,.cell .bool,.cell .bool,.cell .bool,.cell (.sl 59 uy),.cell uo,.cell DX,.cell P7,.cell uo,.cell DX,cI,cI,cI,cI,.cell ql,.cell ql,.cell ql,cI,cI,cI,cI,.cell (.int .u32),.own 51 acV,cI,cI,cI,cI]
abbrev aqa:PT:=.pv (.lJ 271 [.ref ql,.ref (.int .i64)])
abbrev aoo:PT:=.val ⟨true,(.pair JM uo),false⟩
abbrev aqb:RT:=.val ⟨true,(.pair JM uo),false⟩
abbrev aop:RT:=.val ⟨false,(.sl 378 oq),true⟩
abbrev WV:PT:=.val ⟨false,uo,false⟩
abbrev Zi:PT:=.val ⟨false,qc,false⟩
abbrev agq:PT:=.val ⟨true,Vi,false⟩
abbrev EM:PT:=.val ⟨false,ql,false⟩
abbrev ahD:PT:=.val ⟨true,FV,false⟩
abbrev ahE:RT:=.val ⟨false,uo,true⟩
abbrev Vl:PT:=.val ⟨true,anG,false⟩
abbrev RN:PT:=.val ⟨true,ahy,false⟩
abbrev Zj:PT:=.val ⟨true,acT,false⟩
abbrev ahF:PT:=.val ⟨true,oq,false⟩
abbrev Vm:RT:=.val ⟨true,ahy,true⟩
abbrev acX:RT:=.val ⟨true,anG,true⟩
abbrev acY:RT:=.val ⟨true,acT,true⟩
abbrev Vn:PT:=.val ⟨true,BL,false⟩
abbrev acZ:PT:=.val ⟨true,JF,false⟩
abbrev Zk:PT:=.pv (.ref (.int .i64))
noncomputable section
def E0:Env:=tab.env (fun _=>none) (fun _=>0)
theorem JN:aH Tryz.prog E0:=Kw Rt _ _ (fun f F h=>by cases h)
theorem okF {f:FuncId} {fn:Func} {F:Fn} {C:Code} {l:List (Nat×Fn)} (hl:Gu Tryz.prog l) (h:List (Nat×Nat)) (T:Nat -> rV (RD F.rs×MD F.ps)) (hf:Tryz.prog.funcs[f]? = some fn) (hb:fn.body=some C)
(h1:(fn.name == "runtime.NumGoroutine")=false:=by kernel_rfl) (h2:Nat.ble F.ps.length fn.ntmps=true:=by kernel_rfl)
(h3:∀ k,Bw (tab.env (lk l) (Rv h)) fn F.ps F.rs k true (T k)=Bw (tab.env (lk l) (Rv h)) fn F.ps F.rs k false (T k):=by intro k;kernel_rfl) (h4:∀ k x,F.sem k x=Gr (tab.env (lk l) (Rv h)) fn F.ps F.rs k (T k) x:=by intro k x;kernel_rfl):uO Tryz.prog f F :=
Kt (Kw Rt _ _ (Dm hl)) mix hf hb h1 h2 h3 h4
def Xx (A:Type):Type:=A -> A
abbrev O (f:Nat) (F:Fn):Prop:=uO Tryz.prog f F
theorem ah {f:Nat} {F:Fn} {l:List (Nat×Fn)} (h:O f F) (t:Gu Tryz.prog l):Gu Tryz.prog ((f,F)::l):=⟨h,t⟩
theorem aj:Gu Tryz.prog []:=trivial
abbrev On {A:Type}:Nat -> rV A:=fun _=>.nil
abbrev au:PT:=.val ⟨false,.int .i64,false⟩
abbrev rI:RT:=.val ⟨false,.int .i64,true⟩
abbrev rB:RT:=.val ⟨false,.bool,true⟩
abbrev ay:Int×Int×Int×Int×(Int×(PN Int 8)×(List (Int×Int×Int))×Bool)×(Int×(PN Int 8)×(List (Int×Int×Int))×Bool)×(List Int)×Bool:=(0,0,0,0,(0,Qn (α:=Int) 8 0,[],false),(0,Qn (α:=Int) 8 0,[],false),[],false)
abbrev bf:Int×(Int×Int)×(Int×Int)×((List Int)×List Int)×(Int×List (Int×Int))×Int:=(0,(0,0),(0,0),([],[]),(0,[]),0)
abbrev bg:Int×Int×Int×(List (Int×Int×Int×Int))×(List (Int×Int×Int×Int))×List (Int×Int×Int×Int):=(0,0,0,[],[],[])
abbrev bn:Int×(Int×Int×Int×(List (Int×Int×Int×Int))×(List (Int×Int×Int×Int))×List (Int×Int×Int×Int))×(Int×Int)×Int×Int×Int:=(0,(0,0,0,[],[],[]),(0,0),0,0,0)
abbrev bq:Int×(Int×(Int×Int×Int×(List (Int×Int×Int×Int))×(List (Int×Int×Int×Int))×List (Int×Int×Int×Int))×(Int×Int)×Int×Int×Int)×Int×Int:=(0,(0,(0,0,0,[],[],[]),(0,0),0,0,0),0,0)
def w0 { X Y Z:Type} (a:X×Z) (x:Y):Y×Z:=(x,a.2)
def w2 {A0 A1 X Y Z:Type} (a:A0×A1×X×Z) (x:Y):A0×A1×Y×Z:=(a.1,a.2.1,x,a.2.2.2)
def w3 {A0 A1 A2 X Y Z:Type} (a:A0×A1×A2×X×Z) (x:Y):A0×A1×A2×Y×Z:=(a.1,a.2.1,a.2.2.1,x,a.2.2.2.2)
def w4 {A0 A1 A2 A3 X Y Z:Type} (a:A0×A1×A2×A3×X×Z) (x:Y):A0×A1×A2×A3×Y×Z:=(a.1,a.2.1,a.2.2.1,a.2.2.2.1,x,a.2.2.2.2.2)
def w5 {A0 A1 A2 A3 A4 X Y Z:Type} (a:A0×A1×A2×A3×A4×X×Z) (x:Y):A0×A1×A2×A3×A4×Y×Z:=(a.1,a.2.1,a.2.2.1,a.2.2.2.1,a.2.2.2.2.1,x,a.2.2.2.2.2.2)
def w6 {A0 A1 A2 A3 A4 A5 X Y Z:Type} (a:A0×A1×A2×A3×A4×A5×X×Z) (x:Y):A0×A1×A2×A3×A4×A5×Y×Z:=(a.1,a.2.1,a.2.2.1,a.2.2.2.1,a.2.2.2.2.1,a.2.2.2.2.2.1,x,a.2.2.2.2.2.2.2)
def w7 {A0 A1 A2 A3 A4 A5 A6 X Y Z:Type} (a:A0×A1×A2×A3×A4×A5×A6×X×Z) (x:Y):A0×A1×A2×A3×A4×A5×A6×Y×Z:=(a.1,a.2.1,a.2.2.1,a.2.2.2.1,a.2.2.2.2.1,a.2.2.2.2.2.1,a.2.2.2.2.2.2.1,x,a.2.2.2.2.2.2.2.2)
def w8 {A0 A1 A2 A3 A4 A5 A6 A7 X Y Z:Type} (a:A0×A1×A2×A3×A4×A5×A6×A7×X×Z) (x:Y):A0×A1×A2×A3×A4×A5×A6×A7×Y×Z:=(a.1,a.2.1,a.2.2.1,a.2.2.2.1,a.2.2.2.2.1,a.2.2.2.2.2.1,a.2.2.2.2.2.2.1,a.2.2.2.2.2.2.2.1,x,a.2.2.2.2.2.2.2.2.2)
def z5 {A0 A1 A2 A3 A4 Y Z:Type} (a:A0×A1×A2×A3×A4×Z) (x:Y):A0×A1×A2×A3×A4×Y:=(a.1,a.2.1,a.2.2.1,a.2.2.2.1,a.2.2.2.2.1,x)
def z7 {A0 A1 A2 A3 A4 A5 A6 Y Z:Type} (a:A0×A1×A2×A3×A4×A5×A6×Z) (x:Y):A0×A1×A2×A3×A4×A5×A6×Y:=(a.1,a.2.1,a.2.2.1,a.2.2.2.1,a.2.2.2.2.1,a.2.2.2.2.2.1,a.2.2.2.2.2.2.1,x)
def z9 {A0 A1 A2 A3 A4 A5 A6 A7 A8 Y Z:Type} (a:A0×A1×A2×A3×A4×A5×A6×A7×A8×Z) (x:Y):A0×A1×A2×A3×A4×A5×A6×A7×A8×Y:=(a.1,a.2.1,a.2.2.1,a.2.2.2.1,a.2.2.2.2.1,a.2.2.2.2.2.1,a.2.2.2.2.2.2.1,a.2.2.2.2.2.2.2.1,a.2.2.2.2.2.2.2.2.1,x)
structure Iso (T R F:Type) where
 un:F -> T -> R
 cu:(T -> R) -> F
def dh {A T R F:Type} (s:Iso T R F):Iso (A×T) R (A -> F):=⟨fun f x=>s.un (f x.1) x.2,fun g a=>s.cu fun t=>g (a,t)⟩
def dw {T R F:Type} (s:Iso T R F):Iso (Unit×T) R F:=⟨fun f x=>s.un f x.2,fun g=>s.cu fun t=>g ((),t)⟩
def dx {R:Type}:Iso Unit R R:=⟨fun f _=>f,fun g=>g ()⟩
def dz {A R:Type}:Iso A R (A -> R):=⟨fun f=>f,fun g=>g⟩
def d9 {S T R F G:Type} (a:Iso S F G) (b:Iso T R F):Iso (S×T) R G:=⟨fun f x=>b.un (a.un f x.1) x.2,fun g=>a.cu fun x=>b.cu fun t=>g (x,t)⟩
def eu {T R F:Type} (s:Iso T R F) (f:F -> F) (g:T -> R):T -> R:=s.un (f (s.cu g))
def qd (d:Int×Int×(List j3)×GU×Bool×Bool×Bool×(List BM)×(List Int)×(List Bool)×(List su)×(List Int)×(List Bool)×Int×Int×Int×Int×(List jq)×(List jq)×(List jq)×Int×Int×Int×Int×Int×(List (PN Int 6))×Int×Int×Int×Int×Unit):GL×Zc×(List (PN Int 6))×Int×(Int×Int)×Int:=((d.1,d.2.1,d.2.2.1,d.2.2.2.1,d.2.2.2.2.1,d.2.2.2.2.2.1,d.2.2.2.2.2.2.1,d.2.2.2.2.2.2.2.1,((d.2.2.2.2.2.2.2.2.1,d.2.2.2.2.2.2.2.2.2.1),d.2.2.2.2.2.2.2.2.2.2.1),d.2.2.2.2.2.2.2.2.2.2.2.1,d.2.2.2.2.2.2.2.2.2.2.2.2.1),(d.2.2.2.2.2.2.2.2.2.2.2.2.2.1,(d.2.2.2.2.2.2.2.2.2.2.2.2.2.2.1,d.2.2.2.2.2.2.2.2.2.2.2.2.2.2.2.1,d.2.2.2.2.2.2.2.2.2.2.2.2.2.2.2.2.1,d.2.2.2.2.2.2.2.2.2.2.2.2.2.2.2.2.2.1,d.2.2.2.2.2.2.2.2.2.2.2.2.2.2.2.2.2.2.1,d.2.2.2.2.2.2.2.2.2.2.2.2.2.2.2.2.2.2.2.1),(d.2.2.2.2.2.2.2.2.2.2.2.2.2.2.2.2.2.2.2.2.1,d.2.2.2.2.2.2.2.2.2.2.2.2.2.2.2.2.2.2.2.2.2.1),d.2.2.2.2.2.2.2.2.2.2.2.2.2.2.2.2.2.2.2.2.2.2.1,d.2.2.2.2.2.2.2.2.2.2.2.2.2.2.2.2.2.2.2.2.2.2.2.1,d.2.2.2.2.2.2.2.2.2.2.2.2.2.2.2.2.2.2.2.2.2.2.2.2.1),d.2.2.2.2.2.2.2.2.2.2.2.2.2.2.2.2.2.2.2.2.2.2.2.2.2.1,d.2.2.2.2.2.2.2.2.2.2.2.2.2.2.2.2.2.2.2.2.2.2.2.2.2.2.1,(d.2.2.2.2.2.2.2.2.2.2.2.2.2.2.2.2.2.2.2.2.2.2.2.2.2.2.2.1,d.2.2.2.2.2.2.2.2.2.2.2.2.2.2.2.2.2.2.2.2.2.2.2.2.2.2.2.2.1),d.2.2.2.2.2.2.2.2.2.2.2.2.2.2.2.2.2.2.2.2.2.2.2.2.2.2.2.2.2.1)
def BR (x:GN):Int×Int×(List j3)×GU×Bool×Bool×Bool×(List BM)×(List Int)×(List Bool)×(List su)×(List Int)×(List Bool)×Int×Int×Int×Int×(List jq)×(List jq)×(List jq)×Int×Int×Int×Int×Int×(List (PN Int 6))×Int×Int×Int×Int×Unit:=(x.1.1,x.1.2.1,x.1.2.2.1,x.1.2.2.2.1,x.1.2.2.2.2.1,x.1.2.2.2.2.2.1,x.1.2.2.2.2.2.2.1,x.1.2.2.2.2.2.2.2.1,x.1.2.2.2.2.2.2.2.2.1.1.1,x.1.2.2.2.2.2.2.2.2.1.1.2,x.1.2.2.2.2.2.2.2.2.1.2,x.1.2.2.2.2.2.2.2.2.2.1,x.1.2.2.2.2.2.2.2.2.2.2,x.2.1.1,x.2.1.2.1.1,x.2.1.2.1.2.1,x.2.1.2.1.2.2.1,x.2.1.2.1.2.2.2.1,x.2.1.2.1.2.2.2.2.1,x.2.1.2.1.2.2.2.2.2,x.2.1.2.2.1.1,x.2.1.2.2.1.2,x.2.1.2.2.2.1,x.2.1.2.2.2.2.1,x.2.1.2.2.2.2.2,x.2.2.1,x.2.2.2.1,x.2.2.2.2.1.1,x.2.2.2.2.1.2,x.2.2.2.2.2,())
theorem vrA (x:GN):qd (BR x)=x:=rfl
def tvJ (d:Int×Int×Int×Int×Int×Int×Int×Int×Int×Int×Int×Int×Int×(List (Int×Int×Int))×Bool×Int×Int×Int×Int×Int×Int×Int×Int×Int×(List (Int×Int×Int))×Bool×(List Int)×Bool×Unit):Int×Int×Int×Int×YZ×YZ×(List Int)×Bool:=(d.1,d.2.1,d.2.2.1,d.2.2.2.1,(d.2.2.2.2.1,(d.2.2.2.2.2.1,d.2.2.2.2.2.2.1,d.2.2.2.2.2.2.2.1,d.2.2.2.2.2.2.2.2.1,d.2.2.2.2.2.2.2.2.2.1,d.2.2.2.2.2.2.2.2.2.2.1,d.2.2.2.2.2.2.2.2.2.2.2.1,d.2.2.2.2.2.2.2.2.2.2.2.2.1),d.2.2.2.2.2.2.2.2.2.2.2.2.2.1,d.2.2.2.2.2.2.2.2.2.2.2.2.2.2.1),(d.2.2.2.2.2.2.2.2.2.2.2.2.2.2.2.1,(d.2.2.2.2.2.2.2.2.2.2.2.2.2.2.2.2.1,d.2.2.2.2.2.2.2.2.2.2.2.2.2.2.2.2.2.1,d.2.2.2.2.2.2.2.2.2.2.2.2.2.2.2.2.2.2.1,d.2.2.2.2.2.2.2.2.2.2.2.2.2.2.2.2.2.2.2.1,d.2.2.2.2.2.2.2.2.2.2.2.2.2.2.2.2.2.2.2.2.1,d.2.2.2.2.2.2.2.2.2.2.2.2.2.2.2.2.2.2.2.2.2.1,d.2.2.2.2.2.2.2.2.2.2.2.2.2.2.2.2.2.2.2.2.2.2.1,d.2.2.2.2.2.2.2.2.2.2.2.2.2.2.2.2.2.2.2.2.2.2.2.1),d.2.2.2.2.2.2.2.2.2.2.2.2.2.2.2.2.2.2.2.2.2.2.2.2.1,d.2.2.2.2.2.2.2.2.2.2.2.2.2.2.2.2.2.2.2.2.2.2.2.2.2.1),d.2.2.2.2.2.2.2.2.2.2.2.2.2.2.2.2.2.2.2.2.2.2.2.2.2.2.1,d.2.2.2.2.2.2.2.2.2.2.2.2.2.2.2.2.2.2.2.2.2.2.2.2.2.2.2.1)
def trJ (x:acU):Int×Int×Int×Int×Int×Int×Int×Int×Int×Int×Int×Int×Int×(List (Int×Int×Int))×Bool×Int×Int×Int×Int×Int×Int×Int×Int×Int×(List (Int×Int×Int))×Bool×(List Int)×Bool×Unit:=(x.1,x.2.1,x.2.2.1,x.2.2.2.1,x.2.2.2.2.1.1,x.2.2.2.2.1.2.1.1,x.2.2.2.2.1.2.1.2.1,x.2.2.2.2.1.2.1.2.2.1,x.2.2.2.2.1.2.1.2.2.2.1,x.2.2.2.2.1.2.1.2.2.2.2.1,x.2.2.2.2.1.2.1.2.2.2.2.2.1,x.2.2.2.2.1.2.1.2.2.2.2.2.2.1,x.2.2.2.2.1.2.1.2.2.2.2.2.2.2,x.2.2.2.2.1.2.2.1,x.2.2.2.2.1.2.2.2,x.2.2.2.2.2.1.1,x.2.2.2.2.2.1.2.1.1,x.2.2.2.2.2.1.2.1.2.1,x.2.2.2.2.2.1.2.1.2.2.1,x.2.2.2.2.2.1.2.1.2.2.2.1,x.2.2.2.2.2.1.2.1.2.2.2.2.1,x.2.2.2.2.2.1.2.1.2.2.2.2.2.1,x.2.2.2.2.2.1.2.1.2.2.2.2.2.2.1,x.2.2.2.2.2.1.2.1.2.2.2.2.2.2.2,x.2.2.2.2.2.1.2.2.1,x.2.2.2.2.2.1.2.2.2,x.2.2.2.2.2.2.1,x.2.2.2.2.2.2.2,())
theorem vrJ (x:acU):tvJ (trJ x)=x:=rfl
def Zl (d:Int×Int×(List j3)×GU×Bool×Bool×Bool×(List BM)×(List Int)×(List Bool)×(List su)×(List Int)×(List Bool)×Unit):Int×Int×(List j3)×GU×Bool×Bool×Bool×(List BM)×ahx×(List Int)×List Bool:=(d.1,d.2.1,d.2.2.1,d.2.2.2.1,d.2.2.2.2.1,d.2.2.2.2.2.1,d.2.2.2.2.2.2.1,d.2.2.2.2.2.2.2.1,((d.2.2.2.2.2.2.2.2.1,d.2.2.2.2.2.2.2.2.2.1),d.2.2.2.2.2.2.2.2.2.2.1),d.2.2.2.2.2.2.2.2.2.2.2.1,d.2.2.2.2.2.2.2.2.2.2.2.2.1)
def MR (x:C9):Int×Int×(List j3)×GU×Bool×Bool×Bool×(List BM)×(List Int)×(List Bool)×(List su)×(List Int)×(List Bool)×Unit:=(x.1,x.2.1,x.2.2.1,x.2.2.2.1,x.2.2.2.2.1,x.2.2.2.2.2.1,x.2.2.2.2.2.2.1,x.2.2.2.2.2.2.2.1,x.2.2.2.2.2.2.2.2.1.1.1,x.2.2.2.2.2.2.2.2.1.1.2,x.2.2.2.2.2.2.2.2.1.2,x.2.2.2.2.2.2.2.2.2.1,x.2.2.2.2.2.2.2.2.2.2,())
theorem vrK (x:C9):Zl (MR x)=x:=rfl
def tvP (d:Int×Int×Int×Int×Int×(List jq)×(List jq)×(List jq)×Int×Int×Int×Int×Int×Int×Int×Unit):Int×Zc×Int×Int:=(d.1,(d.2.1,(d.2.2.1,d.2.2.2.1,d.2.2.2.2.1,d.2.2.2.2.2.1,d.2.2.2.2.2.2.1,d.2.2.2.2.2.2.2.1),(d.2.2.2.2.2.2.2.2.1,d.2.2.2.2.2.2.2.2.2.1),d.2.2.2.2.2.2.2.2.2.2.1,d.2.2.2.2.2.2.2.2.2.2.2.1,d.2.2.2.2.2.2.2.2.2.2.2.2.1),d.2.2.2.2.2.2.2.2.2.2.2.2.2.1,d.2.2.2.2.2.2.2.2.2.2.2.2.2.2.1)
def trP (x:Int×Zc×Int×Int):Int×Int×Int×Int×Int×(List jq)×(List jq)×(List jq)×Int×Int×Int×Int×Int×Int×Int×Unit:=(x.1,x.2.1.1,x.2.1.2.1.1,x.2.1.2.1.2.1,x.2.1.2.1.2.2.1,x.2.1.2.1.2.2.2.1,x.2.1.2.1.2.2.2.2.1,x.2.1.2.1.2.2.2.2.2,x.2.1.2.2.1.1,x.2.1.2.2.1.2,x.2.1.2.2.2.1,x.2.1.2.2.2.2.1,x.2.1.2.2.2.2.2,x.2.2.1,x.2.2.2,())
theorem vrP (x:Int×Zc×Int×Int):tvP (trP x)=x:=rfl
def wh (d:Int×Int×(List j3)×GU×Bool×Bool×Bool×(List BM)×(List Int)×(List Bool)×(List su)×(List Int)×(List Bool)×(List (PN Int 6))×Unit):GL×List (PN Int 6):=((d.1,d.2.1,d.2.2.1,d.2.2.2.1,d.2.2.2.2.1,d.2.2.2.2.2.1,d.2.2.2.2.2.2.1,d.2.2.2.2.2.2.2.1,((d.2.2.2.2.2.2.2.2.1,d.2.2.2.2.2.2.2.2.2.1),d.2.2.2.2.2.2.2.2.2.2.1),d.2.2.2.2.2.2.2.2.2.2.2.1,d.2.2.2.2.2.2.2.2.2.2.2.2.1),d.2.2.2.2.2.2.2.2.2.2.2.2.2.1)
def zq (x:GL×List (PN Int 6)):Int×Int×(List j3)×GU×Bool×Bool×Bool×(List BM)×(List Int)×(List Bool)×(List su)×(List Int)×(List Bool)×(List (PN Int 6))×Unit:=(x.1.1,x.1.2.1,x.1.2.2.1,x.1.2.2.2.1,x.1.2.2.2.2.1,x.1.2.2.2.2.2.1,x.1.2.2.2.2.2.2.1,x.1.2.2.2.2.2.2.2.1,x.1.2.2.2.2.2.2.2.2.1.1.1,x.1.2.2.2.2.2.2.2.2.1.1.2,x.1.2.2.2.2.2.2.2.2.1.2,x.1.2.2.2.2.2.2.2.2.2.1,x.1.2.2.2.2.2.2.2.2.2.2,x.2,())
theorem YW (x:GL×List (PN Int 6)):wh (zq x)=x:=rfl
def Q8 (k:Nat) (a:Int×j3×(Int×Int)×Int×Int×Int):Option (((Int×Zc×Int×Int)×Unit)×Unit) :=
 some (((1,a,0,0),()),())
def F40:Fn:=⟨[.val ⟨true,(.pair (.int .i64) (.pair BL (.pair oq (.pair (.int .i64) D6)))),false⟩],[.val ⟨true,(.pair (.int .i64) (.pair (.pair (.int .i64) (.pair BL (.pair oq (.pair (.int .i64) D6)))) oq)),false⟩],fun k x=>Q8 k x.1⟩
theorem ok40:O 40 F40:=okF aj [] On Tryz.func40 rfl
def aqc (k:Nat) (a:Int):Option ((FX×Unit)×Unit) :=
 mk (mn (mx a 0) 64) (mn (mx a 0) 64) 8 <|
 mk (mn (mx a 0) 64) (mn (mx a 0) 64) 1 <|
 some (((List.replicate (mn (mx a 0) 64).toNat (0:Int),List.replicate (mn (mx a 0) 64).toNat (false:Bool)),()),())
def F164:Fn:=⟨[au],[Vm],fun k x=>aqc k x.1⟩
theorem ok164:O 164 F164:=okF aj [] On Tryz.func164 rfl
def S86 (k:Nat):Option RJ :=
 (aqc k 12).bind fun q0 =>
 mk 12 12 128 <|
 some (((q0.1.1,List.replicate 12 (bf:Z0)),()),())
def F86:Fn:=⟨[],[acX],fun k x=>S86 k ⟩
theorem ok86:O 86 F86:=okF (ah ok164 aj) [] On Tryz.func86 rfl
def S87 (k:Nat) (a:Int):Option ((FX×Unit)×Unit) :=
 mk (mn (mx a 0) 65536) (mn (mx a 0) 65536) 8 <|
 mk (mn (mx a 0) 65536) (mn (mx a 0) 65536) 1 <|
 some (((List.replicate (mn (mx a 0) 65536).toNat (0:Int),List.replicate (mn (mx a 0) 65536).toNat (false:Bool)),()),())
def F87:Fn:=⟨[au],[Vm],fun k x=>S87 k x.1⟩
theorem ok87:O 87 F87:=okF aj [] On Tryz.func87 rfl
def S36 (k:Nat) (a:Int):Option ((GL×Bool×Unit)×Unit) :=
 (bif decide (a<1) then
  some (((0,0,[],[],false,false,false,[],(([],[]),[]),[],[]),false,()),())
 else
  (bif decide (a>4611686018427387904) then
   some (((0,0,[],[],false,false,false,[],(([],[]),[]),[],[]),false,()),())
  else
   (S86 k).bind fun q0 =>
   (S87 k 0).bind fun q1 =>
   some (((0,a,[],[],false,false,false,[],q0.1.1,q1.1.1),true,()),())))
def F36:Fn:=⟨[au],[acY,rB],fun k x=>S36 k x.1⟩
theorem ok36:O 36 F36:=okF (ah ok86 <| ah ok87 aj) [] On Tryz.func36 rfl
def MS (k:Nat) (a:Int):Option ko :=
 (bif decide (a≥0) then
  some ((decide (a<8),()),())
 else
  some ((false,()),()))
def F264:Fn:=⟨[au],[rB],fun k x=>MS k x.1⟩
theorem ok264:O 264 F264:=okF aj [] On Tryz.func264 rfl
def RO (k:Nat) (a b c:Int):Option ko :=
 (bif decide (a≥b) then
  some ((decide (a <= c),()),())
 else
  some ((false,()),()))
def F265:Fn:=⟨[au,au,au],[rB],fun k (a,b,c,_)=>RO k a b c⟩
theorem ok265:O 265 F265:=okF aj [] On Tryz.func265 rfl
def ahH (k:Nat) (a:Int×Int×Int×Int):Option ko :=
 (bif a.1==0 then
  (bif a.2.1==0 then
   (bif a.2.2.1==0 then
    some ((a.2.2.2==0,()),())
   else
    some ((false,()),()))
  else
   some ((false,()),()))
 else
  (bif a.1==11 then
   (bif a.2.1==0 then
    (bif a.2.2.1==0 then
     some ((a.2.2.2==0,()),())
    else
     some ((false,()),()))
   else
    some ((false,()),()))
  else
   (bif a.1==1 then
    (MS k a.2.1).bind fun q0 =>
    (bif q0.1.1 then
     (bif a.2.2.1==0 then
      (RO k a.2.2.2 (-2147483648) 2147483647).bind fun q1 =>
      some ((q1.1.1,()),())
     else
      some ((false,()),()))
    else
     some ((false,()),()))
   else
    (bif a.1==2 then
     (MS k a.2.1).bind fun q2 =>
     (bif q2.1.1 then
      (MS k a.2.2.1).bind fun q3 =>
      (bif q3.1.1 then
       some ((a.2.2.2==0,()),())
      else
       some ((false,()),()))
     else
      some ((false,()),()))
    else
     (bif a.1==3 then
      (MS k a.2.1).bind fun q4 =>
      (bif q4.1.1 then
       (MS k a.2.2.1).bind fun q5 =>
       (bif q5.1.1 then
        some ((a.2.2.2==0,()),())
       else
        some ((false,()),()))
      else
       some ((false,()),()))
     else
      (bif a.1==4 then
       (MS k a.2.1).bind fun q6 =>
       (bif q6.1.1 then
        (MS k a.2.2.1).bind fun q7 =>
        (bif q7.1.1 then
         some ((a.2.2.2==0,()),())
        else
         some ((false,()),()))
       else
        some ((false,()),()))
      else
       (bif a.1==5 then
        (MS k a.2.1).bind fun q8 =>
        (bif q8.1.1 then
         (bif a.2.2.1==0 then
          (RO k a.2.2.2 (-63) 63).bind fun q9 =>
          some ((q9.1.1,()),())
         else
          some ((false,()),()))
        else
         some ((false,()),()))
       else
        (bif a.1==6 then
         (MS k a.2.1).bind fun q10 =>
         (bif q10.1.1 then
          (bif a.2.2.1==0 then
           (RO k a.2.2.2 1 64).bind fun V4 =>
           some ((V4.1.1,()),())
          else
           some ((false,()),()))
         else
          some ((false,()),()))
        else
         (bif a.1==7 then
          (MS k a.2.1).bind fun q12 =>
          (bif q12.1.1 then
           (bif a.2.2.1==0 then
            (RO k a.2.2.2 1 24).bind fun q13 =>
            some ((q13.1.1,()),())
           else
            some ((false,()),()))
          else
           some ((false,()),()))
         else
          (bif a.1==8 then
           (bif a.2.1==0 then
            (RO k a.2.2.1 1 24).bind fun q14 =>
            (bif q14.1.1 then
             (RO k a.2.2.2 1 20).bind fun q15 =>
             some ((q15.1.1,()),())
            else
             some ((false,()),()))
           else
            some ((false,()),()))
          else
           (bif a.1==9 then
            (RO k a.2.1 0 3).bind fun q16 =>
            (bif q16.1.1 then
             (bif a.2.2.1==0 then
              some ((a.2.2.2==0,()),())
             else
              some ((false,()),()))
            else
             some ((false,()),()))
           else
            (bif a.1==10 then
             (RO k a.2.1 0 3).bind fun q17 =>
             (bif q17.1.1 then
              (bif a.2.2.1==0 then
               some ((a.2.2.2==0,()),())
              else
               some ((false,()),()))
             else
              some ((false,()),()))
            else
             some ((false,()),())))))))))))))
def F188:Fn:=⟨[agq],[rB],fun k x=>ahH k x.1⟩
theorem ok188:O 188 F188:=okF (ah ok264 <| ah ok265 aj) [] On Tryz.func188 rfl
def aoq (k:Nat) (a:Int×Int×Int×Int):Option ko :=
 (ahH k a).bind fun q0 =>
 some ((!q0.1.1,()),())
def F187:Fn:=⟨[agq],[rB],fun k x=>aoq k x.1⟩
theorem ok187:O 187 F187:=okF (ah ok188 aj) [] On Tryz.func187 rfl
abbrev ac0:Cut:=⟨[0,1,7,8],[.cell ql,.lJ 187 [],cI,cI],[],19,[]⟩
def WW (k:Nat) (g2:(List jq) -> Int -> Int -> Option jo) (a:List jq) (b c:Int):Option jo :=
 (bif decide (c<b) then
  ix a c <|
  (aoq k (rd a c (0,0,0,0))).bind fun q0 =>
  (bif q0.1.1 then
   some ((c,()),())
  else
   g2 a b (IntKind.i64.wrap (c+1)))
 else
  some (((-1),()),()))
def ahJ (k:Nat):Xx (ahC):=eu (dw (dh (dw (dh (dh dx))))) (WW k)
def MU (k a:Nat) (b:List jq) (c e:Int):Option jo:=iter ac0 (ahJ k) a ((),b,(),c,e,())
theorem Zm (k a b c e):MU k (a+1) b c e=WW k (MU k a) b c e:=Ba _ _ _ _
def ak3 (k:Nat) (a:List jq):Option jo :=
 MU k k a (a.length:Int) 0
def F130:Fn:=⟨[EM,.pv (.lJ 187 [])],[rI],fun k x=>ak3 k x.1⟩
theorem ok130:O 130 F130:=okF (ah ok187 aj) [] (fun k=>(.loop 2 ac0 (ahJ k) (fun g=>.nil) .nil)) Tryz.func130 rfl
def S57 (k:Nat) (a:List jq):Option ko :=
 (ak3 k a).bind fun q0 =>
 some ((decide (q0.1.1≥0),()),())
def F57:Fn:=⟨[EM,.pv (.lJ 187 [])],[rB],fun k x=>S57 k x.1⟩
theorem ok57:O 57 F57:=okF (ah ok130 aj) [] On Tryz.func57 rfl
def aor (k:Nat) (a:Int×Int×Int×Int):Option ko :=
 some ((a.1==0,()),())
def F189:Fn:=⟨[agq],[rB],fun k x=>aor k x.1⟩
theorem ok189:O 189 F189:=okF aj [] On Tryz.func189 rfl
abbrev Zn:Cut:=⟨[0,1,7,8],[.cell ql,.lJ 189 [],cI,cI],[],19,[]⟩
def Q9 (k:Nat) (g2:(List jq) -> Int -> Int -> Option jo) (a:List jq) (b c:Int):Option jo :=
 (bif decide (c<b) then
  ix a c <|
  (aor k (rd a c (0,0,0,0))).bind fun q0 =>
  (bif q0.1.1 then
   some ((c,()),())
  else
   g2 a b (IntKind.i64.wrap (c+1)))
 else
  some (((-1),()),()))
def ac1 (k:Nat):Xx (ahC):=eu (dw (dh (dw (dh (dh dx))))) (Q9 k)
def IC (k a:Nat) (b:List jq) (c e:Int):Option jo:=iter Zn (ac1 k) a ((),b,(),c,e,())
theorem Vo (k a b c e):IC k (a+1) b c e=Q9 k (IC k a) b c e:=Ba _ _ _ _
def ac2 (k:Nat) (a:List jq):Option jo :=
 IC k k a (a.length:Int) 0
def F130a:Fn:=⟨[EM,.pv (.lJ 189 [])],[rI],fun k x=>ac2 k x.1⟩
theorem ok130a:O 130 F130a:=okF (ah ok189 aj) [] (fun k=>(.loop 2 Zn (ac1 k) (fun g=>.nil) .nil)) Tryz.func130 rfl
abbrev ac3:Cut:=⟨[2,5,6,7],[.own 365 FV,.cell ql,cI,cI],[],42,[]⟩
def WX (k:Nat) (g2:wu -> (List jq) -> Int -> Int -> Option ((wu×Unit)×Unit)) (a:List qp) (b:List jq) (c e:Int):Option ((wu×Unit)×Unit) :=
 (bif decide (e<c) then
  ix b e <|
  (bif (rd b e (0,0,0,0)).1==8 then
   ap a ([(IntKind.i64.wrap (e+1),IntKind.i64.wrap (e+(rd b e (0,0,0,0)).2.2.1),e,true)]:List qp) 32 fun r0 =>
   g2 r0 b c (IntKind.i64.wrap (e+1))
  else
   (bif (rd b e (0,0,0,0)).1==7 then
    ap a ([(IntKind.i64.wrap (e+1),IntKind.i64.wrap (e+(rd b e (0,0,0,0)).2.2.2),e,false)]:List qp) 32 fun r1 =>
    g2 r1 b c (IntKind.i64.wrap (e+1))
   else
    g2 a b c (IntKind.i64.wrap (e+1))))
 else
  some ((a,()),()))
def ahK (k:Nat):Xx (((Unit)×wu×(List jq)×Int×Int×Unit) -> Option ((wu×Unit)×Unit)):=eu (dw (dh (dh (dh (dh dx))))) (WX k)
def MV (k a:Nat) (b:List qp) (c:List jq) (e f:Int):Option ((wu×Unit)×Unit):=iter ac3 (ahK k) a ((),b,c,e,f,())
theorem Zo (k a b c e f):MV k (a+1) b c e f=WX k (MV k a) b c e f:=Ba _ _ _ _
def ahL (k:Nat) (a:List jq):Option ((wu×Unit)×Unit) :=
 MV k k ([]:List qp) a (a.length:Int) 0
def F266:Fn:=⟨[EM],[.val ⟨false,(.sl 365 FV),true⟩],fun k x=>ahL k x.1⟩
theorem ok266:O 266 F266:=okF aj [(2,2)] (fun k=>(.loop 2 ac3 (ahK k) (fun g=>.nil) .nil)) Tryz.func266 rfl
def abY (k:Nat) (a:Int×Int×Int×Bool) (b:Int):Option ko :=
 (bif decide (b≥a.1) then
  some ((decide (b <= a.2.1),()),())
 else
  some ((false,()),()))
def F267:Fn:=⟨[ahD,au],[rB],fun k x=>abY k x.1 x.2.1⟩
theorem ok267:O 267 F267:=okF aj [] On Tryz.func267 rfl
def Zp (k:Nat) (a b:Int×Int×Int×Bool):Option ko :=
 (abY k b a.1).bind fun q0 =>
 (bif q0.1.1 then
  (abY k b a.2.1).bind fun q1 =>
  some ((q1.1.1,()),())
 else
  some ((false,()),()))
def F268:Fn:=⟨[ahD,ahD],[rB],fun k x=>Zp k x.1 x.2.1⟩
theorem ok268:O 268 F268:=okF (ah ok267 aj) [] On Tryz.func268 rfl
def ahM (k:Nat) (a b:Int×Int×Int×Bool):Option ko :=
 (bif decide (a.2.1<b.1) then
  some ((true,()),())
 else
  some ((decide (b.2.1<a.1),()),()))
def F269:Fn:=⟨[ahD,ahD],[rB],fun k x=>ahM k x.1 x.2.1⟩
theorem ok269:O 269 F269:=okF aj [] On Tryz.func269 rfl
def aos (k:Nat) (a:Int):Option ko :=
 some ((decide (a>2),()),())
def F270:Fn:=⟨[au],[rB],fun k x=>aos k x.1⟩
theorem ok270:O 270 F270:=okF aj [] On Tryz.func270 rfl
abbrev ac4:Cut:=⟨[0,1,7,8],[.cell uo,.lJ 270 [],cI,cI],[],19,[]⟩
def WY (k:Nat) (g2:(List Int) -> Int -> Int -> Option jo) (a:List Int) (b c:Int):Option jo :=
 (bif decide (c<b) then
  ix a c <|
  (aos k (rd a c 0)).bind fun q0 =>
  (bif q0.1.1 then
   some ((c,()),())
  else
   g2 a b (IntKind.i64.wrap (c+1)))
 else
  some (((-1),()),()))
def ahN (k:Nat):Xx (((Unit)×(List Int)×Unit×Int×Int×Unit) -> Option jo):=eu (dw (dh (dw (dh (dh dx))))) (WY k)
def MW (k a:Nat) (b:List Int) (c e:Int):Option jo:=iter ac4 (ahN k) a ((),b,(),c,e,())
theorem Zq (k a b c e):MW k (a+1) b c e=WY k (MW k a) b c e:=Ba _ _ _ _
def ak4 (k:Nat) (a:List Int):Option jo :=
 MW k k a (a.length:Int) 0
def F272:Fn:=⟨[WV,.pv (.lJ 270 [])],[rI],fun k x=>ak4 k x.1⟩
theorem ok272:O 272 F272:=okF (ah ok270 aj) [] (fun k=>(.loop 2 ac4 (ahN k) (fun g=>.nil) .nil)) Tryz.func272 rfl
def ak5 (k:Nat) (a:List Int):Option ko :=
 (ak4 k a).bind fun q0 =>
 some ((decide (q0.1.1≥0),()),())
def F193:Fn:=⟨[WV,.pv (.lJ 270 [])],[rB],fun k x=>ak5 k x.1⟩
theorem ok193:O 193 F193:=okF (ah ok272 aj) [] On Tryz.func193 rfl
abbrev Zr:Cut:=⟨[0,3,4,6,9,15,16,17],[.cell ql,.cell (.sl 365 FV),.own 3 (.int .i64),.box 365 [cI,cI,cI,.cell .bool],cI,.cell (.sl 365 FV),cI,cI],[],84,[]⟩
def L8 (k:Nat) (g4:OX) (g15:(List jq) -> wu -> (List Int) -> Int -> Int -> Int -> Bool -> Int -> wu -> Int -> Int -> Option ko) (a:List jq) (b:List qp) (c:List Int) (e f h:Int) (i:Bool) (l:Int) (m:List qp) (n o:Int):Option ko :=
 (bif i then
  (bif decide (l <= f) then
   ix c l <|
   ix c l <|
   g15 a b (upd c l (IntKind.i64.wrap ((rd c l 0)+1))) e f h i (IntKind.i64.wrap (l+1)) m n o
  else
   g4 a b c m n (IntKind.i64.wrap (o+1)))
 else
  g4 a b c m n (IntKind.i64.wrap (o+1)))
def ac5 (k:Nat) (g4:OX):Xx (((Unit)×(List jq)×wu×(List Int)×ahB×Int×wu×Int×Int×Unit) -> Option ko):=eu (dw (dh (dh (dh (d9 (dh (dh (dh (dh dx)))) (dh (dh (dh (dh dx))))))))) (L8 k g4)
def IE (k:Nat) (g4:OX) (a:Nat) (b:List jq) (c:List qp) (e:List Int) (f h i:Int) (l:Bool) (m:Int) (n:List qp) (o p:Int):Option ko:=iter Zr (ac5 k g4) a ((),b,c,e,(f,h,i,l,()),m,n,o,p,())
theorem MX (k g4 a b c e f h i l m n o p):IE k g4 (a+1) b c e f h i l m n o p=L8 k g4 (IE k g4 a) b c e f h i l m n o p:=Ba _ _ _ _
abbrev ac6:Cut:=⟨[0,3,4,6,15,16,17,27,28,29],[.cell ql,.cell (.sl 365 FV),.own 3 (.int .i64),.box 365 [cI,cI,cI,.cell .bool],.cell (.sl 365 FV),cI,cI,.cell (.sl 365 FV),cI,cI],[],84,[]⟩
def WZ (k:Nat) (g4:OX) (g9:(List jq) -> wu -> (List Int) -> Int -> Int -> Int -> Bool -> wu -> Int -> Int -> wu -> Int -> Int -> Option ko) (a:List jq) (b:List qp) (c:List Int) (e f h:Int) (i:Bool) (l:List qp) (m n:Int) (o:List qp) (p s:Int):Option ko :=
 (bif decide (s<p) then
  ix o s <|
  (abY k (rd o s (0,0,0,false)) h).bind fun q1 =>
  (bif q1.1.1 then
   (Zp k (e,f,h,i) (rd o s (0,0,0,false))).bind fun q2 =>
   (bif !q2.1.1 then
    some ((false,()),())
   else
    (ahM k (e,f,h,i) (rd o s (0,0,0,false))).bind fun q3 =>
    (bif !q3.1.1 then
     (Zp k (e,f,h,i) (rd o s (0,0,0,false))).bind fun q4 =>
     (bif !q4.1.1 then
      (Zp k (rd o s (0,0,0,false)) (e,f,h,i)).bind fun q5 =>
      (bif !q5.1.1 then
       some ((false,()),())
      else
       g9 a b c e f h i l m n o p (IntKind.i64.wrap (s+1)))
     else
      g9 a b c e f h i l m n o p (IntKind.i64.wrap (s+1)))
    else
     g9 a b c e f h i l m n o p (IntKind.i64.wrap (s+1))))
  else
   (ahM k (e,f,h,i) (rd o s (0,0,0,false))).bind fun q6 =>
   (bif !q6.1.1 then
    (Zp k (e,f,h,i) (rd o s (0,0,0,false))).bind fun q7 =>
    (bif !q7.1.1 then
     (Zp k (rd o s (0,0,0,false)) (e,f,h,i)).bind fun q8 =>
     (bif !q8.1.1 then
      some ((false,()),())
     else
      g9 a b c e f h i l m n o p (IntKind.i64.wrap (s+1)))
    else
     g9 a b c e f h i l m n o p (IntKind.i64.wrap (s+1)))
   else
    g9 a b c e f h i l m n o p (IntKind.i64.wrap (s+1))))
 else
  IE k g4 k a b c e f h i e l m n)
def ahO (k:Nat) (g4:OX):Xx (((Unit)×(List jq)×wu×(List Int)×ahB×wu×Int×Int×wu×Int×Int×Unit) -> Option ko):=eu (dw (dh (dh (dh (d9 (dh (dh (dh (dh dx)))) (dh (dh (dh (dh (dh (dh dx))))))))))) (WZ k g4)
def X0 (k:Nat) (g4:OX) (a:Nat) (b:List jq) (c:List qp) (e:List Int) (f h i:Int) (l:Bool) (m:List qp) (n o:Int) (p:List qp) (s t:Int):Option ko:=iter ac6 (ahO k g4) a ((),b,c,e,(f,h,i,l,()),m,n,o,p,s,t,())
theorem Zt (k g4 a b c e f h i l m n o p s t):X0 k g4 (a+1) b c e f h i l m n o p s t=WZ k g4 (X0 k g4 a) b c e f h i l m n o p s t:=Ba _ _ _ _
abbrev ac7:Cut:=⟨[0,3,4,15,16,17],[.cell ql,.cell (.sl 365 FV),.own 3 (.int .i64),.cell (.sl 365 FV),cI,cI],[],84,[]⟩
def X3 (k:Nat) (g4:OX) (a:List jq) (b:List qp) (c:List Int) (e:List qp) (f h:Int):Option ko :=
 (bif decide (h<f) then
  ix e h <|
  (bif decide ((rd e h (0,0,0,false)).2.1≥(IntKind.i64.wrap ((a.length:Int) - 1))) then
   some ((false,()),())
  else
   X0 k g4 k a b c (rd e h (0,0,0,false)).1 (rd e h (0,0,0,false)).2.1 (rd e h (0,0,0,false)).2.2.1 (rd e h (0,0,0,false)).2.2.2 e f h b (b.length:Int) 0)
 else
  (ak5 k c).bind fun q9 =>
  some ((!q9.1.1,()),()))
def ahP (k:Nat):Xx (((Unit)×(List jq)×wu×(List Int)×wu×Int×Int×Unit) -> Option ko):=eu (dw (dh (dh (dh (dh (dh (dh dx))))))) (X3 k)
def RP (k a:Nat) (b:List jq) (c:List qp) (e:List Int) (f:List qp) (h i:Int):Option ko:=iter ac7 (ahP k) a ((),b,c,e,f,h,i,())
theorem Zu (k a b c e f h i):RP k (a+1) b c e f h i=X3 k (RP k a) b c e f h i:=Ba _ _ _ _
def ak6 (k:Nat) (a:List jq):Option ko :=
 (ahL k a).bind fun q0 =>
 mk (a.length:Int) (a.length:Int) 8 <|
 RP k k a q0.1.1 (List.replicate (a.length:Int).toNat (0:Int)) q0.1.1 (q0.1.1.length:Int) 0
def F190:Fn:=⟨[EM],[rB],fun k x=>ak6 k x.1⟩
theorem ok190:O 190 F190:=okF (ah ok193 <| ah ok266 <| ah ok267 <| ah ok268 <| ah ok269 aj) [] (fun k=>(.loop 4 ac7 (ahP k) (fun g=>(fun (g4:OX)=>(.loop 15 Zr (ac5 k g4) (fun g=>.nil) (.loop 9 ac6 (ahO k g4) (fun g=>.nil) .nil))) (fun l_1 all around t15 t16 t17=>g ((),l_1,all,around,t15,t16,t17,()))) .nil)) Tryz.func190 rfl
abbrev ac8:Cut:=⟨[0,3,4,5,11,12,13,19,20],[.cell ql,.own 286 CB,cI,.box 365 [cI,cI,cI,.cell .bool],.own 365 FV,cI,cI,cI,cI],[],38,[]⟩
def X4 (k:Nat) (g3:Z4) (g6:(List jq) -> FW -> Int -> Int -> Int -> Int -> Bool -> wu -> Int -> Int -> Int -> Int -> Option OY) (a:List jq) (b:List CF) (c e f h:Int) (i:Bool) (l:List qp) (m n o p:Int):Option OY :=
 (bif decide (p<o) then
  (bif decide (c<24) then
   (abY k (e,f,h,i) p).bind fun q1 =>
   (bif q1.1.1 then
    ix b p <|
    ax 24 c <|
    g6 a (upd b p (Ur (α:=Bool) 24 (rd b p (Qn (α:=Bool) 24 false)) c true)) c e f h i l m n o (IntKind.i64.wrap (p+1))
   else
    g6 a b c e f h i l m n o (IntKind.i64.wrap (p+1)))
  else
   g6 a b c e f h i l m n o (IntKind.i64.wrap (p+1)))
 else
  g3 a b l m (IntKind.i64.wrap (n+1)))
def ahR (k:Nat) (g3:Z4):Xx (((Unit)×(List jq)×FW×Int×ahB×wu×Int×Int×Int×Int×Unit) -> Option OY):=eu (dw (dh (dh (dh (d9 (dh (dh (dh (dh dx)))) (dh (dh (dh (dh (dh dx)))))))))) (X4 k g3)
def X5 (k:Nat) (g3:Z4) (a:Nat) (b:List jq) (c:List CF) (e f h i:Int) (l:Bool) (m:List qp) (n o p s:Int):Option OY:=iter ac8 (ahR k g3) a ((),b,c,e,(f,h,i,l,()),m,n,o,p,s,())
theorem Zv (k g3 a b c e f h i l m n o p s):X5 k g3 (a+1) b c e f h i l m n o p s=X4 k g3 (X5 k g3 a) b c e f h i l m n o p s:=Ba _ _ _ _
abbrev ac9:Cut:=⟨[0,3,11,12,13],[.cell ql,.own 286 CB,.own 365 FV,cI,cI],[],38,[]⟩
def X6 (k:Nat) (g3:Z4) (a:List jq) (b:List CF) (c:List qp) (e f:Int):Option OY :=
 (bif decide (f<e) then
  ix c f <|
  X5 k g3 k a b f (rd c f (0,0,0,false)).1 (rd c f (0,0,0,false)).2.1 (rd c f (0,0,0,false)).2.2.1 (rd c f (0,0,0,false)).2.2.2 c e f (a.length:Int) 0
 else
  some ((b,()),()))
def ahS (k:Nat):Xx (((Unit)×(List jq)×FW×wu×Int×Int×Unit) -> Option OY):=eu (dw (dh (dh (dh (dh (dh dx)))))) (X6 k)
def RQ (k a:Nat) (b:List jq) (c:List CF) (e:List qp) (f h:Int):Option OY:=iter ac9 (ahS k) a ((),b,c,e,f,h,())
theorem Zw (k a b c e f h):RQ k (a+1) b c e f h=X6 k (RQ k a) b c e f h:=Ba _ _ _ _
def ahT (k:Nat) (a:List jq):Option OY :=
 mk (a.length:Int) (a.length:Int) 24 <|
 (ahL k a).bind fun q0 =>
 RQ k k a (List.replicate (a.length:Int).toNat (Qn (α:=Bool) 24 false:PN Bool 24)) q0.1.1 (q0.1.1.length:Int) 0
def F192:Fn:=⟨[EM],[.val ⟨false,(.sl 286 CB),true⟩],fun k x=>ahT k x.1⟩
theorem ok192:O 192 F192:=okF (ah ok266 <| ah ok267 aj) [] (fun k=>(.loop 3 ac9 (ahS k) (fun g=>(fun (g3:Z4)=>(.loop 6 ac8 (ahR k g3) (fun g=>.nil) .nil)) (fun l_1 out t11 t12 t13=>g ((),l_1,out,t11,t12,t13,()))) .nil)) Tryz.func192 rfl
def aot (k:Nat) (a:Int) (b:List jq) (c:Int):Option ko :=
 ix b a <|
 ix b c <|
 some (((rd b a (0,0,0,0)).2.1==(rd b c (0,0,0,0)).2.1,()),())
def F271:Fn:=⟨[au,.pv (.ref ql),Zk],[rB],fun k (a,b,c,_)=>aot k a b c⟩
theorem ok271:O 271 F271:=okF aj [] On Tryz.func271 rfl
abbrev Zx:Cut:=⟨[0,1,7,8],[.cell uo,.lJ 271 [.ref ql,.ref (.int .i64)],cI,cI],[],19,[]⟩
def QA (k:Nat) (g2:(List Int) -> (List jq) -> Int -> Int -> Int -> Option jo) (a:List Int) (b:List jq) (c e f:Int):Option jo :=
 (bif decide (f<e) then
  ix a f <|
  (aot k (rd a f 0) b c).bind fun q0 =>
  (bif q0.1.1 then
   some ((f,()),())
  else
   g2 a b c e (IntKind.i64.wrap (f+1)))
 else
  some (((-1),()),()))
def ada (k:Nat):Xx (((Unit)×(List Int)×((List jq)×Int×Unit)×Int×Int×Unit) -> Option jo):=eu (dw (dh (d9 (dh (dh dx)) (dh (dh dx))))) (QA k)
def EN (k a:Nat) (b:List Int) (c:List jq) (e f h:Int):Option jo:=iter Zx (ada k) a ((),b,(c,e,()),f,h,())
theorem Vp (k a b c e f h):EN k (a+1) b c e f h=QA k (EN k a) b c e f h:=Ba _ _ _ _
def ahU (k:Nat) (a:List Int) (b:List jq) (c:Int):Option jo :=
 EN k k a b c (a.length:Int) 0
def F272a:Fn:=⟨[WV,aqa],[rI],fun k (a,(b,c,_),_)=>ahU k a b c⟩
theorem ok272a:O 272 F272a:=okF (ah ok271 aj) [] (fun k=>(.loop 2 Zx (ada k) (fun g=>.nil) .nil)) Tryz.func272 rfl
def adb (k:Nat) (a:List Int) (b:List jq) (c:Int):Option ko :=
 (ahU k a b c).bind fun q0 =>
 some ((decide (q0.1.1≥0),()),())
def F193a:Fn:=⟨[WV,aqa],[rB],fun k (a,(b,c,_),_)=>adb k a b c⟩
theorem ok193a:O 193 F193a:=okF (ah ok272a aj) [] On Tryz.func193 rfl
abbrev ak8:Cut:=⟨[1,4,5,6,7,8,9,20,21,22],[.box 52 [.cell ql],.own 3 (.int .i64),.own 3 (.int .i64),.mp 367 true CB false (.int .i64),.cell (.sl 286 CB),.box 3 [cI],.box 286 [.cell .bool,.cell .bool,.cell .bool,.cell .bool,.cell .bool,.cell .bool,.cell .bool,.cell .bool,.cell .bool,.cell .bool,.cell .bool,.cell .bool,.cell .bool,.cell .bool,.cell .bool,.cell .bool,.cell .bool,.cell .bool,.cell .bool,.cell .bool,.cell .bool,.cell .bool,.cell .bool,.cell .bool],.cell (.sl 286 CB),cI,cI],[],110,[]⟩
def RU (k:Nat) (g3:ahz) (a:List jq) (b c:List Int) (e:List (CF×Int)) (f:List CF) (h:Int) (x i l m n o p s t u v w y z A B C D G H I J K M:Bool) (N:List CF) (O P:Int):Option Zd :=
 ix a h <|
 (bif (rd a h (0,0,0,0)).1==9 then
  (bif decide ((c.length:Int)≥2) then
   some (([],false,()),())
  else
   (adb k c a h).bind fun q1 =>
   (bif q1.1.1 then
    some (([],false,()),())
   else
    ap c ([h]:List Int) 8 fun r2 =>
    g3 a b r2 e f N O (IntKind.i64.wrap (P+1))))
 else
  (bif (rd a h (0,0,0,0)).1==10 then
   (bif decide ((IntKind.i64.wrap ((c.length:Int) - 1))<0) then
    some (([],false,()),())
   else
    ix c (IntKind.i64.wrap ((c.length:Int) - 1)) <|
    ix a (rd c (IntKind.i64.wrap ((c.length:Int) - 1)) 0) <|
    ix a h <|
    (bif (rd a (rd c (IntKind.i64.wrap ((c.length:Int) - 1)) 0) (0,0,0,0)).2.1 != (rd a h (0,0,0,0)).2.1 then
     some (([],false,()),())
    else
     ix c (IntKind.i64.wrap ((c.length:Int) - 1)) <|
     ix f (rd c (IntKind.i64.wrap ((c.length:Int) - 1)) 0) <|
     (bif (Us CB (.int .i64) (rd f (rd c (IntKind.i64.wrap ((c.length:Int) - 1)) 0) (Qn (α:=Bool) 24 false)) e 0) != (Us CB (.int .i64) (x,i,l,m,n,o,p,s,t,u,v,w,y,z,A,B,C,D,G,H,I,J,K,M) e 0) then
      some (([],false,()),())
     else
      ix c (IntKind.i64.wrap ((c.length:Int) - 1)) <|
      ix b (rd c (IntKind.i64.wrap ((c.length:Int) - 1)) 0) <|
      sx c 0 (IntKind.i64.wrap ((c.length:Int) - 1)) <|
      g3 a (upd b (rd c (IntKind.i64.wrap ((c.length:Int) - 1)) 0) h) (c.take (IntKind.i64.wrap ((c.length:Int) - 1)).toNat) e f N O (IntKind.i64.wrap (P+1)))))
  else
   g3 a b c e f N O (IntKind.i64.wrap (P+1))))
abbrev ade:Cut:=⟨[1,4,5,6,7,20,21,22],[.box 52 [.cell ql],.own 3 (.int .i64),.own 3 (.int .i64),.mp 367 true CB false (.int .i64),.cell (.sl 286 CB),.cell (.sl 286 CB),cI,cI],[],110,[]⟩
def X7 (k:Nat) (g3:ahz) (a:List jq) (b c:List Int) (e:List (CF×Int)) (f h:List CF) (i l:Int):Option Zd :=
 (bif decide (l<i) then
  ix h l <|
  (bif !(Ut CB (.int .i64) (rd h l (Qn (α:=Bool) 24 false)) e) then
   RU k g3 a b c (vL CB (.int .i64) (rd h l (Qn (α:=Bool) 24 false)) l e) f l (rd h l (Qn (α:=Bool) 24 false)).1 (rd h l (Qn (α:=Bool) 24 false)).2.1 (rd h l (Qn (α:=Bool) 24 false)).2.2.1 (rd h l (Qn (α:=Bool) 24 false)).2.2.2.1 (rd h l (Qn (α:=Bool) 24 false)).2.2.2.2.1 (rd h l (Qn (α:=Bool) 24 false)).2.2.2.2.2.1 (rd h l (Qn (α:=Bool) 24 false)).2.2.2.2.2.2.1 (rd h l (Qn (α:=Bool) 24 false)).2.2.2.2.2.2.2.1 (rd h l (Qn (α:=Bool) 24 false)).2.2.2.2.2.2.2.2.1 (rd h l (Qn (α:=Bool) 24 false)).2.2.2.2.2.2.2.2.2.1 (rd h l (Qn (α:=Bool) 24 false)).2.2.2.2.2.2.2.2.2.2.1 (rd h l (Qn (α:=Bool) 24 false)).2.2.2.2.2.2.2.2.2.2.2.1 (rd h l (Qn (α:=Bool) 24 false)).2.2.2.2.2.2.2.2.2.2.2.2.1 (rd h l (Qn (α:=Bool) 24 false)).2.2.2.2.2.2.2.2.2.2.2.2.2.1 (rd h l (Qn (α:=Bool) 24 false)).2.2.2.2.2.2.2.2.2.2.2.2.2.2.1 (rd h l (Qn (α:=Bool) 24 false)).2.2.2.2.2.2.2.2.2.2.2.2.2.2.2.1 (rd h l (Qn (α:=Bool) 24 false)).2.2.2.2.2.2.2.2.2.2.2.2.2.2.2.2.1 (rd h l (Qn (α:=Bool) 24 false)).2.2.2.2.2.2.2.2.2.2.2.2.2.2.2.2.2.1 (rd h l (Qn (α:=Bool) 24 false)).2.2.2.2.2.2.2.2.2.2.2.2.2.2.2.2.2.2.1 (rd h l (Qn (α:=Bool) 24 false)).2.2.2.2.2.2.2.2.2.2.2.2.2.2.2.2.2.2.2.1 (rd h l (Qn (α:=Bool) 24 false)).2.2.2.2.2.2.2.2.2.2.2.2.2.2.2.2.2.2.2.2.1 (rd h l (Qn (α:=Bool) 24 false)).2.2.2.2.2.2.2.2.2.2.2.2.2.2.2.2.2.2.2.2.2.1 (rd h l (Qn (α:=Bool) 24 false)).2.2.2.2.2.2.2.2.2.2.2.2.2.2.2.2.2.2.2.2.2.2.1 (rd h l (Qn (α:=Bool) 24 false)).2.2.2.2.2.2.2.2.2.2.2.2.2.2.2.2.2.2.2.2.2.2.2 h i l
  else
   RU k g3 a b c e f l (rd h l (Qn (α:=Bool) 24 false)).1 (rd h l (Qn (α:=Bool) 24 false)).2.1 (rd h l (Qn (α:=Bool) 24 false)).2.2.1 (rd h l (Qn (α:=Bool) 24 false)).2.2.2.1 (rd h l (Qn (α:=Bool) 24 false)).2.2.2.2.1 (rd h l (Qn (α:=Bool) 24 false)).2.2.2.2.2.1 (rd h l (Qn (α:=Bool) 24 false)).2.2.2.2.2.2.1 (rd h l (Qn (α:=Bool) 24 false)).2.2.2.2.2.2.2.1 (rd h l (Qn (α:=Bool) 24 false)).2.2.2.2.2.2.2.2.1 (rd h l (Qn (α:=Bool) 24 false)).2.2.2.2.2.2.2.2.2.1 (rd h l (Qn (α:=Bool) 24 false)).2.2.2.2.2.2.2.2.2.2.1 (rd h l (Qn (α:=Bool) 24 false)).2.2.2.2.2.2.2.2.2.2.2.1 (rd h l (Qn (α:=Bool) 24 false)).2.2.2.2.2.2.2.2.2.2.2.2.1 (rd h l (Qn (α:=Bool) 24 false)).2.2.2.2.2.2.2.2.2.2.2.2.2.1 (rd h l (Qn (α:=Bool) 24 false)).2.2.2.2.2.2.2.2.2.2.2.2.2.2.1 (rd h l (Qn (α:=Bool) 24 false)).2.2.2.2.2.2.2.2.2.2.2.2.2.2.2.1 (rd h l (Qn (α:=Bool) 24 false)).2.2.2.2.2.2.2.2.2.2.2.2.2.2.2.2.1 (rd h l (Qn (α:=Bool) 24 false)).2.2.2.2.2.2.2.2.2.2.2.2.2.2.2.2.2.1 (rd h l (Qn (α:=Bool) 24 false)).2.2.2.2.2.2.2.2.2.2.2.2.2.2.2.2.2.2.1 (rd h l (Qn (α:=Bool) 24 false)).2.2.2.2.2.2.2.2.2.2.2.2.2.2.2.2.2.2.2.1 (rd h l (Qn (α:=Bool) 24 false)).2.2.2.2.2.2.2.2.2.2.2.2.2.2.2.2.2.2.2.2.1 (rd h l (Qn (α:=Bool) 24 false)).2.2.2.2.2.2.2.2.2.2.2.2.2.2.2.2.2.2.2.2.2.1 (rd h l (Qn (α:=Bool) 24 false)).2.2.2.2.2.2.2.2.2.2.2.2.2.2.2.2.2.2.2.2.2.2.1 (rd h l (Qn (α:=Bool) 24 false)).2.2.2.2.2.2.2.2.2.2.2.2.2.2.2.2.2.2.2.2.2.2.2 h i l)
 else
  (bif decide ((c.length:Int)>0) then
   some (([],false,()),())
  else
   some ((b,true,()),())))
def ahV (k:Nat):Xx (((Unit)×((List jq)×Unit)×(List Int)×(List Int)×(List (CF×Int))×FW×FW×Int×Int×Unit) -> Option Zd):=eu (dw (d9 (dh dx) (dh (dh (dh (dh (dh (dh (dh dx))))))))) (X7 k)
def MZ (k a:Nat) (b:List jq) (c e:List Int) (f:List (CF×Int)) (h i:List CF) (l m:Int):Option Zd:=iter ade (ahV k) a ((),(b,()),c,e,f,h,i,l,m,())
theorem Zy (k a b c e f h i l m):MZ k (a+1) b c e f h i l m=X7 k (MZ k a) b c e f h i l m:=Ba _ _ _ _
def ahW (k:Nat) (a:List jq):Option Zd :=
 mk (a.length:Int) (a.length:Int) 8 <|
 (ahT k a).bind fun q0 =>
 MZ k k a (List.replicate (a.length:Int).toNat (0:Int)) ([]:List Int) ([]:List (CF×Int)) q0.1.1 q0.1.1 (q0.1.1.length:Int) 0
def F191:Fn:=⟨[EM],[ahE,rB],fun k x=>ahW k x.1⟩
theorem ok191:O 191 F191:=okF (ah ok192 <| ah ok193a aj) [(104,1)] (fun k=>(.loop 3 ade (ahV k) (fun g=>(fun (g3:ahz)=>(.join 8 ak8 (fun (_,(a,_),b,c,e,f,(h,_),(i,l,m,n,o,p,s,t,u,v,w,y,z,A,B,C,D,G,H,I,J,K,M,N,_),O,P,Q,_)=>RU k g3 a b c e f h i l m n o p s t u v w y z A B C D G H I J K M N O P Q) .nil)) (fun l_1 out open_ same all t20 t21 t22=>g ((),(l_1,()),out,open_,same,all,t20,t21,t22,()))) .nil)) Tryz.func191 rfl
def aou (k:Nat) (a b:Int):Option ko :=
 some ((decide (a>b),()),())
def F194:Fn:=⟨[au,Zk],[rB],fun k x=>aou k x.1 x.2.1⟩
theorem ok194:O 194 F194:=okF aj [] On Tryz.func194 rfl
abbrev Zz:Cut:=⟨[0,1,7,8],[.cell uo,.lJ 194 [.ref (.int .i64)],cI,cI],[],19,[]⟩
def QB (k:Nat) (g2:(List Int) -> Int -> Int -> Int -> Option jo) (a:List Int) (b c e:Int):Option jo :=
 (bif decide (e<c) then
  ix a e <|
  (aou k (rd a e 0) b).bind fun q0 =>
  (bif q0.1.1 then
   some ((e,()),())
  else
   g2 a b c (IntKind.i64.wrap (e+1)))
 else
  some (((-1),()),()))
def adf (k:Nat):Xx (((Unit)×(List Int)×Zb×Int×Int×Unit) -> Option jo):=eu (dw (dh (d9 (dh dx) (dh (dh dx))))) (QB k)
def EO (k a:Nat) (b:List Int) (c e f:Int):Option jo:=iter Zz (adf k) a ((),b,(c,()),e,f,())
theorem Vq (k a b c e f):EO k (a+1) b c e f=QB k (EO k a) b c e f:=Ba _ _ _ _
def ahX (k:Nat) (a:List Int) (b:Int):Option jo :=
 EO k k a b (a.length:Int) 0
def F272b:Fn:=⟨[WV,.pv (.lJ 194 [.ref (.int .i64)])],[rI],fun k x=>ahX k x.1 x.2.1.1⟩
theorem ok272b:O 272 F272b:=okF (ah ok194 aj) [] (fun k=>(.loop 2 Zz (adf k) (fun g=>.nil) .nil)) Tryz.func272 rfl
def adg (k:Nat) (a:List Int) (b:Int):Option ko :=
 (ahX k a b).bind fun q0 =>
 some ((decide (q0.1.1≥0),()),())
def F193b:Fn:=⟨[WV,.pv (.lJ 194 [.ref (.int .i64)])],[rB],fun k x=>adg k x.1 x.2.1.1⟩
theorem ok193b:O 193 F193b:=okF (ah ok272b aj) [] On Tryz.func193 rfl
abbrev ZA:Cut:=⟨[4,6,42,43,44],[.own 3 (.int .i64),.own 286 CB,.cell ql,cI,cI],[],66,[]⟩
def QC (k:Nat) (g11:(List Int) -> FW -> (List jq) -> Int -> Int -> Option ko) (a:List Int) (b:List CF) (c:List jq) (e f:Int):Option ko :=
 (bif decide (f<e) then
  ix c f <|
  (bif (rd c f (0,0,0,0)).1 != 11 then
   g11 a b c e (IntKind.i64.wrap (f+1))
  else
   ix b f <|
   (bif !(fC CB (rd b f (Qn (α:=Bool) 24 false)) (false,false,false,false,false,false,false,false,false,false,false,false,false,false,false,false,false,false,false,false,false,false,false,false)) then
    some ((false,()),())
   else
    sx a 0 f <|
    (adg k (sub a 0 f) f).bind fun q5 =>
    (bif q5.1.1 then
     some ((false,()),())
    else
     g11 a b c e (IntKind.i64.wrap (f+1)))))
 else
  some ((true,()),()))
def adh (k:Nat):Xx (((Unit)×(List Int)×FW×(List jq)×Int×Int×Unit) -> Option ko):=eu (dw (dh (dh (dh (dh (dh dx)))))) (QC k)
def EP (k a:Nat) (b:List Int) (c:List CF) (e:List jq) (f h:Int):Option ko:=iter ZA (adh k) a ((),b,c,e,f,h,())
theorem Vr (k a b c e f h):EP k (a+1) b c e f h=QC k (EP k a) b c e f h:=Ba _ _ _ _
def agt (k:Nat) (a:List jq):Option ko :=
 (bif decide ((a.length:Int)<1) then
  some ((false,()),())
 else
  (bif decide ((a.length:Int)>24) then
   some ((false,()),())
  else
   (S57 k a).bind fun q0 =>
   (bif q0.1.1 then
    some ((false,()),())
   else
    (ac2 k a).bind fun q1 =>
    (bif q1.1.1 != (IntKind.i64.wrap ((a.length:Int) - 1)) then
     some ((false,()),())
    else
     (ak6 k a).bind fun q2 =>
     (bif !q2.1.1 then
      some ((false,()),())
     else
      (ahW k a).bind fun q3 =>
      (bif !q3.1.2.1 then
       some ((false,()),())
      else
       (ahT k a).bind fun q4 =>
       EP k k q3.1.1 q4.1.1 a (a.length:Int) 0))))))
def F108:Fn:=⟨[EM],[rB],fun k x=>agt k x.1⟩
theorem ok108:O 108 F108:=okF (ah ok57 <| ah ok130a <| ah ok190 <| ah ok191 <| ah ok192 <| ah ok193b aj) [] (fun k=>(.loop 11 ZA (adh k) (fun g=>.nil) .nil)) Tryz.func108 rfl
def ahY (k:Nat) (a:List jq):Option ko :=
 (bif (a.length:Int)==0 then
  some ((true,()),())
 else
  (agt k a).bind fun q0 =>
  some ((q0.1.1,()),()))
def F316:Fn:=⟨[EM],[rB],fun k x=>ahY k x.1⟩
theorem ok316:O 316 F316:=okF (ah ok108 aj) [] On Tryz.func316 rfl
def aov (k:Nat) (a:Int×Int×Int×Int):Option ko :=
 some ((a.1==9,()),())
def F345:Fn:=⟨[agq],[rB],fun k x=>aov k x.1⟩
theorem ok345:O 345 F345:=okF aj [] On Tryz.func345 rfl
abbrev ZB:Cut:=⟨[0,1,7,8],[.cell ql,.lJ 345 [],cI,cI],[],19,[]⟩
def QD (k:Nat) (g2:(List jq) -> Int -> Int -> Option jo) (a:List jq) (b c:Int):Option jo :=
 (bif decide (c<b) then
  ix a c <|
  (aov k (rd a c (0,0,0,0))).bind fun q0 =>
  (bif q0.1.1 then
   some ((c,()),())
  else
   g2 a b (IntKind.i64.wrap (c+1)))
 else
  some (((-1),()),()))
def adi (k:Nat):Xx (ahC):=eu (dw (dh (dw (dh (dh dx))))) (QD k)
def IG (k a:Nat) (b:List jq) (c e:Int):Option jo:=iter ZB (adi k) a ((),b,(),c,e,())
theorem Vs (k a b c e):IG k (a+1) b c e=QD k (IG k a) b c e:=Ba _ _ _ _
def adj (k:Nat) (a:List jq):Option jo :=
 IG k k a (a.length:Int) 0
def F130b:Fn:=⟨[EM,.pv (.lJ 345 [])],[rI],fun k x=>adj k x.1⟩
theorem ok130b:O 130 F130b:=okF (ah ok345 aj) [] (fun k=>(.loop 2 ZB (adi k) (fun g=>.nil) .nil)) Tryz.func130 rfl
def aow (k:Nat) (a:List jq):Option ko :=
 (adj k a).bind fun q0 =>
 some ((decide (q0.1.1≥0),()),())
def F57a:Fn:=⟨[EM,.pv (.lJ 345 [])],[rB],fun k x=>aow k x.1⟩
theorem ok57a:O 57 F57a:=okF (ah ok130b aj) [] On Tryz.func57 rfl
def ak9 (k:Nat) (a:List jq):Option ko :=
 (aow k a).bind fun q0 =>
 some ((q0.1.1,()),())
def F317:Fn:=⟨[EM],[rB],fun k x=>ak9 k x.1⟩
theorem ok317:O 317 F317:=okF (ah ok57a aj) [] On Tryz.func317 rfl
def ahZ (k:Nat) (a:Int):Option jo :=
 (bif decide (a<0) then
  some ((IntKind.u64.wrap (0 - (IntKind.u64.wrap a)),()),())
 else
  some ((IntKind.u64.wrap a,()),()))
def F361:Fn:=⟨[au],[.val ⟨false,(.int .u64),true⟩],fun k x=>ahZ k x.1⟩
theorem ok361:O 361 F361:=okF aj [] On Tryz.func361 rfl
def ala (k:Nat) (a b:Int):Option DW :=
 (bif decide ((Ul .u64 a 32)>0) then
  (bif decide ((Ul .u64 b 32)>0) then
   some ((0,false,()),())
  else
   (bif decide ((Ul .u64 (Uz .u64 (IntKind.u64.wrap ((Ul .u64 a 32) * (IntKind.u64.wrap (IntKind.u32.wrap b)))) (IntKind.u64.wrap ((IntKind.u64.wrap (IntKind.u32.wrap a)) * (Ul .u64 b 32)))) 32)>0) then
    some ((0,false,()),())
   else
    some ((IntKind.u64.wrap ((IntKind.u64.wrap ((IntKind.u64.wrap (IntKind.u32.wrap a)) * (IntKind.u64.wrap (IntKind.u32.wrap b))))+(Uk .u64 (Uz .u64 (IntKind.u64.wrap ((Ul .u64 a 32) * (IntKind.u64.wrap (IntKind.u32.wrap b)))) (IntKind.u64.wrap ((IntKind.u64.wrap (IntKind.u32.wrap a)) * (Ul .u64 b 32)))) 32)),decide ((IntKind.u64.wrap ((IntKind.u64.wrap ((IntKind.u64.wrap (IntKind.u32.wrap a)) * (IntKind.u64.wrap (IntKind.u32.wrap b))))+(Uk .u64 (Uz .u64 (IntKind.u64.wrap ((Ul .u64 a 32) * (IntKind.u64.wrap (IntKind.u32.wrap b)))) (IntKind.u64.wrap ((IntKind.u64.wrap (IntKind.u32.wrap a)) * (Ul .u64 b 32)))) 32)))≥(IntKind.u64.wrap ((IntKind.u64.wrap (IntKind.u32.wrap a)) * (IntKind.u64.wrap (IntKind.u32.wrap b))))),()),())))
 else
  (bif decide ((Ul .u64 (Uz .u64 (IntKind.u64.wrap ((Ul .u64 a 32) * (IntKind.u64.wrap (IntKind.u32.wrap b)))) (IntKind.u64.wrap ((IntKind.u64.wrap (IntKind.u32.wrap a)) * (Ul .u64 b 32)))) 32)>0) then
   some ((0,false,()),())
  else
   some ((IntKind.u64.wrap ((IntKind.u64.wrap ((IntKind.u64.wrap (IntKind.u32.wrap a)) * (IntKind.u64.wrap (IntKind.u32.wrap b))))+(Uk .u64 (Uz .u64 (IntKind.u64.wrap ((Ul .u64 a 32) * (IntKind.u64.wrap (IntKind.u32.wrap b)))) (IntKind.u64.wrap ((IntKind.u64.wrap (IntKind.u32.wrap a)) * (Ul .u64 b 32)))) 32)),decide ((IntKind.u64.wrap ((IntKind.u64.wrap ((IntKind.u64.wrap (IntKind.u32.wrap a)) * (IntKind.u64.wrap (IntKind.u32.wrap b))))+(Uk .u64 (Uz .u64 (IntKind.u64.wrap ((Ul .u64 a 32) * (IntKind.u64.wrap (IntKind.u32.wrap b)))) (IntKind.u64.wrap ((IntKind.u64.wrap (IntKind.u32.wrap a)) * (Ul .u64 b 32)))) 32)))≥(IntKind.u64.wrap ((IntKind.u64.wrap (IntKind.u32.wrap a)) * (IntKind.u64.wrap (IntKind.u32.wrap b))))),()),())))
def F360:Fn:=⟨[.val ⟨false,(.int .u64),false⟩,.val ⟨false,(.int .u64),false⟩],[.val ⟨false,(.int .u64),true⟩,rB],fun k x=>ala k x.1 x.2.1⟩
theorem ok360:O 360 F360:=okF aj [] On Tryz.func360 rfl
def agu (k:Nat) (a:Bool):Option DW :=
 (bif a then
  some (((-9223372036854775808),false,()),())
 else
  some ((9223372036854775807,false,()),()))
def F362:Fn:=⟨[.val ⟨false,.bool,false⟩],[rI,rB],fun k x=>agu k x.1⟩
theorem ok362:O 362 F362:=okF aj [] On Tryz.func362 rfl
abbrev alb:Cut:=⟨[0,1,6,7],[cI,cI,.cell .bool,.cell (.int .u64)],[],45,[]⟩
def X8 (k:Nat) (a b:Int) (c:Bool) (e:Int):Option DW :=
 (ahZ k a).bind fun q0 =>
 (ahZ k b).bind fun q1 =>
 (ala k q0.1.1 q1.1.1).bind fun q2 =>
 (bif !q2.1.2.1 then
  (agu k c).bind fun q3 =>
  some (q3.1,())
 else
  (bif decide (q2.1.1>e) then
   (agu k c).bind fun q4 =>
   some (q4.1,())
  else
   (bif c then
    some ((IntKind.i64.wrap (IntKind.u64.wrap (0 - q2.1.1)),true,()),())
   else
    some ((IntKind.i64.wrap q2.1.1,true,()),()))))
def agv (k:Nat) (a b:Int):Option DW :=
 (bif !((decide (a<0))==(decide (b<0))) then
  X8 k a b (!((decide (a<0))==(decide (b<0)))) 9223372036854775808
 else
  X8 k a b (!((decide (a<0))==(decide (b<0)))) 9223372036854775807)
def F356:Fn:=⟨[au,au],[rI,rB],fun k x=>agv k x.1 x.2.1⟩
theorem ok356:O 356 F356:=okF (ah ok360 <| ah ok361 <| ah ok362 aj) [] (fun k=>(.join 5 alb (fun (_,a,b,c,e,_)=>X8 k a b c e) .nil)) Tryz.func356 rfl
abbrev ZC:Cut:=⟨[3,5,6,7,20,21,22],[.own 2 (.int .i64),cI,.box 127 [cI,cI,cI,cI],cI,.cell ql,cI,cI],[],55,[]⟩
def QE (k:Nat) (g8:Za) (g12:(List Int) -> Int -> Int -> Int -> Int -> Int -> Int -> (List jq) -> Int -> Int -> Option ug) (a:List Int) (b x c e f h:Int) (i:List jq) (l m:Int):Option ug :=
 (bif decide (h <= (IntKind.i64.wrap (b+e))) then
  ix a h <|
  (agv k (rd a h 0) f).bind fun q0 =>
  ix a h <|
  g12 (upd a h q0.1.1) b x c e f (IntKind.i64.wrap (h+1)) i l m
 else
  g8 a i l (IntKind.i64.wrap (m+1)))
def adk (k:Nat) (g8:Za):Xx (((Unit)×(List Int)×Int×(Int×Int×Int×Int×Unit)×Int×(List jq)×Int×Int×Unit) -> Option ug):=eu (dw (dh (dh (d9 (dh (dh (dh (dh dx)))) (dh (dh (dh (dh dx)))))))) (QE k g8)
def QF (k:Nat) (g8:Za) (a:Nat) (b:List Int) (c x e f h i:Int) (l:List jq) (m n:Int):Option ug:=iter ZC (adk k g8) a ((),b,c,(x,e,f,h,()),i,l,m,n,())
theorem Vt (k g8 a b c x e f h i l m n):QF k g8 (a+1) b c x e f h i l m n=QE k g8 (QF k g8 a) b c x e f h i l m n:=Ba _ _ _ _
abbrev adl:Cut:=⟨[3,20,21,22],[.own 2 (.int .i64),.cell ql,cI,cI],[],55,[]⟩
def X9 (k:Nat) (g8:Za) (a:List Int) (b:List jq) (c e:Int):Option ug :=
 (bif decide (e<c) then
  ix b e <|
  (bif (rd b e (0,0,0,0)).1 != 8 then
   g8 a b c (IntKind.i64.wrap (e+1))
  else
   QF k g8 k a e (rd b e (0,0,0,0)).1 (rd b e (0,0,0,0)).2.1 (rd b e (0,0,0,0)).2.2.1 (rd b e (0,0,0,0)).2.2.2 (IntKind.i64.wrap (e+1)) b c e)
 else
  some ((a,()),()))
def ah1 (k:Nat):Xx (((Unit)×(List Int)×(List jq)×Int×Int×Unit) -> Option ug):=eu (dw (dh (dh (dh (dh dx))))) (X9 k)
def K7 (k a:Nat) (b:List Int) (c:List jq) (e f:Int):Option ug:=iter adl (ah1 k) a ((),b,c,e,f,())
theorem ZE (k a b c e f):K7 k (a+1) b c e f=X9 k (K7 k a) b c e f:=Ba _ _ _ _
abbrev adn:Cut:=⟨[0,3,12,13],[.cell ql,.own 2 (.int .i64),cI,cI],[],55,[]⟩
def Xa (k:Nat) (g3:(List jq) -> (List Int) -> Int -> Int -> Option ug) (a:List jq) (b:List Int) (c e:Int):Option ug :=
 (bif decide (e<c) then
  ix b e <|
  g3 a (upd b e 1) c (IntKind.i64.wrap (e+1))
 else
  K7 k k b a (a.length:Int) 0)
def ah2 (k:Nat):Xx (((Unit)×(List jq)×(List Int)×Int×Int×Unit) -> Option ug):=eu (dw (dh (dh (dh (dh dx))))) (Xa k)
def N7 (k a:Nat) (b:List jq) (c:List Int) (e f:Int):Option ug:=iter adn (ah2 k) a ((),b,c,e,f,())
theorem ZF (k a b c e f):N7 k (a+1) b c e f=Xa k (N7 k a) b c e f:=Ba _ _ _ _
def alc (k:Nat) (a:List jq):Option ug :=
 mk (a.length:Int) (a.length:Int) 8 <|
 N7 k k a (List.replicate (a.length:Int).toNat (0:Int)) ((List.replicate (a.length:Int).toNat (0:Int)).length:Int) 0
def F353:Fn:=⟨[EM],[.val ⟨false,JM,true⟩],fun k x=>alc k x.1⟩
theorem ok353:O 353 F353:=okF (ah ok356 aj) [] (fun k=>(.loop 8 adl (ah1 k) (fun g=>(fun (g8:Za)=>(.loop 12 ZC (adk k g8) (fun g=>.nil) .nil)) (fun abZ t20 t21 t22=>g ((),abZ,t20,t21,t22,()))) (.loop 3 adn (ah2 k) (fun g=>.nil) .nil))) Tryz.func353 rfl
def agw (k:Nat) (a b:Int):Option DW :=
 (bif decide ((Um .i64 (Un .i64 a (IntKind.i64.wrap (IntKind.u64.wrap ((IntKind.u64.wrap a)+(IntKind.u64.wrap b))))) (Un .i64 b (IntKind.i64.wrap (IntKind.u64.wrap ((IntKind.u64.wrap a)+(IntKind.u64.wrap b))))))<0) then
  (agu k (decide (a<0))).bind fun q0 =>
  some (q0.1,())
 else
  some ((IntKind.i64.wrap (IntKind.u64.wrap ((IntKind.u64.wrap a)+(IntKind.u64.wrap b))),true,()),()))
def F357:Fn:=⟨[au,au],[rI,rB],fun k x=>agw k x.1 x.2.1⟩
theorem ok357:O 357 F357:=okF (ah ok362 aj) [] On Tryz.func357 rfl
abbrev ado:Cut:=⟨[2,5,6,7],[cI,.cell JM,cI,cI],[],19,[]⟩
def Xb (k:Nat) (g2:Vj) (a:Int) (b:List Int) (c e:Int):Option jo :=
 (bif decide (e<c) then
  ix b e <|
  (agw k a (rd b e 0)).bind fun q0 =>
  g2 q0.1.1 b c (IntKind.i64.wrap (e+1))
 else
  some ((a,()),()))
def ah3 (k:Nat):Xx (((Unit)×Int×(List Int)×Int×Int×Unit) -> Option jo):=eu (dw (dh (dh (dh (dh dx))))) (Xb k)
def Xc (k a:Nat) (b:Int) (c:List Int) (e f:Int):Option jo:=iter ado (ah3 k) a ((),b,c,e,f,())
theorem ZG (k a b c e f):Xc k (a+1) b c e f=Xb k (Xc k a) b c e f:=Ba _ _ _ _
def ZH (k:Nat) (a:List Int):Option jo :=
 Xc k k 0 a (a.length:Int) 0
def F354:Fn:=⟨[.val ⟨false,JM,false⟩],[rI],fun k x=>ZH k x.1⟩
theorem ok354:O 354 F354:=okF (ah ok357 aj) [] (fun k=>(.loop 2 ado (ah3 k) (fun g=>.nil) .nil)) Tryz.func354 rfl
abbrev adp:Cut:=⟨[2,4,5,6,24,25,26],[.box 310 [cI,cI,.own 378 oq],.own 2 (.int .i64),cI,.own 3 (.int .i64),.cell ql,cI,cI],[],75,[]⟩
def Xd (k:Nat) (g7:Int -> Int -> kg -> (List Int) -> Int -> (List Int) -> (List jq) -> Int -> Int -> Option Z6) (a b:Int) (c:oz) (e:List Int) (f:Int) (h:List Int) (i:List jq) (l m:Int):Option Z6 :=
 (bif decide (m<l) then
  ix i m <|
  (bif (rd i m (0,0,0,0)).1==11 then
   sx e f (IntKind.i64.wrap (m+1)) <|
   (ZH k (sub e f (IntKind.i64.wrap (m+1)))).bind fun q4 =>
   g7 a (mx b q4.1.1) c e (IntKind.i64.wrap (m+1)) h i l (IntKind.i64.wrap (m+1))
  else
   (bif (rd i m (0,0,0,0)).1==0 then
    sx e f (IntKind.i64.wrap (m+1)) <|
    (ZH k (sub e f (IntKind.i64.wrap (m+1)))).bind fun q5 =>
    g7 a (mx b q5.1.1) c e (IntKind.i64.wrap (m+1)) h i l (IntKind.i64.wrap (m+1))
   else
    (bif (rd i m (0,0,0,0)).1==9 then
     ix h m <|
     sx e (IntKind.i64.wrap (m+1)) (IntKind.i64.wrap ((rd h m 0)+1)) <|
     (ZH k (sub e (IntKind.i64.wrap (m+1)) (IntKind.i64.wrap ((rd h m 0)+1)))).bind fun q6 =>
     ix e m <|
     nz (rd e m 0) <|
     ap c ([((rd i m (0,0,0,0)).2.1,IntKind.i64.wrap (Int.tdiv q6.1.1 (rd e m 0)))]:List (Int×Int)) 16 fun r7 =>
     g7 a b r7 e f h i l (IntKind.i64.wrap (m+1))
    else
     g7 a b c e f h i l (IntKind.i64.wrap (m+1)))))
 else
  some (((a,b,c),true,()),()))
def ah4 (k:Nat):Xx (((Unit)×(Int×Int×kg×Unit)×(List Int)×Int×(List Int)×(List jq)×Int×Int×Unit) -> Option Z6):=eu (dw (d9 (dh (dh (dh dx))) (dh (dh (dh (dh (dh (dh dx)))))))) (Xd k)
def RV (k a:Nat) (b c:Int) (e:oz) (f:List Int) (h:Int) (i:List Int) (l:List jq) (m n:Int):Option Z6:=iter adp (ah4 k) a ((),(b,c,e,()),f,h,i,l,m,n,())
theorem ZI (k a b c e f h i l m n):RV k (a+1) b c e f h i l m n=Xd k (RV k a) b c e f h i l m n:=Ba _ _ _ _
def agx (k:Nat) (a:List jq):Option Z6 :=
 (agt k a).bind fun q0 =>
 (bif !q0.1.1 then
  some (((0,0,[]),false,()),())
 else
  (alc k a).bind fun q1 =>
  (ahW k a).bind fun q2 =>
  (ZH k q1.1.1).bind fun q3 =>
  RV k k q3.1.1 0 ([]:List (Int×Int)) q1.1.1 0 q2.1.1 a (a.length:Int) 0)
def F346:Fn:=⟨[EM],[.val ⟨true,(.pair (.int .i64) (.pair (.int .i64) (.sl 378 oq))),true⟩,rB],fun k x=>agx k x.1⟩
theorem ok346:O 346 F346:=okF (ah ok108 <| ah ok191 <| ah ok353 <| ah ok354 aj) [(2,2)] (fun k=>(.loop 7 adp (ah4 k) (fun g=>.nil) .nil)) Tryz.func346 rfl
def agy (k:Nat) (a:List jq):Option jo :=
 (agx k a).bind fun q0 =>
 some ((q0.1.1.1,()),())
def F318:Fn:=⟨[EM],[rI],fun k x=>agy k x.1⟩
theorem ok318:O 318 F318:=okF (ah ok346 aj) [] On Tryz.func318 rfl
def agz (k:Nat) (a:L6):Option jo :=
 (bif decide (a.1<0) then
  some ((1,()),())
 else
  (bif decide (a.1>63) then
   some ((1,()),())
  else
   (bif decide (a.2.1<1) then
    some ((9,()),())
   else
    (bif decide (a.2.1>16384) then
     some ((9,()),())
    else
     (bif decide (a.2.2.1<1) then
      some ((9,()),())
     else
      (bif decide (a.2.2.1>a.2.1) then
       some ((9,()),())
      else
       (agt k a.2.2.2.1).bind fun q0 =>
       (bif !q0.1.1 then
        some ((2,()),())
       else
        (ahY k a.2.2.2.2.1).bind fun q1 =>
        (bif !q1.1.1 then
         some ((2,()),())
        else
         (ahY k a.2.2.2.2.2).bind fun q2 =>
         (bif !q2.1.1 then
          some ((2,()),())
         else
          (ak9 k a.2.2.2.2.2).bind fun q3 =>
          (bif q3.1.1 then
           some ((2,()),())
          else
           (agy k a.2.2.2.1).bind fun q4 =>
           (bif decide (q4.1.1>a.2.2.1) then
            some ((10,()),())
           else
            (agy k a.2.2.2.2.1).bind fun q5 =>
            (agy k a.2.2.2.1).bind fun q6 =>
            (bif decide (q5.1.1>q6.1.1) then
             some ((12,()),())
            else
             some ((0,()),())))))))))))))
def F247:Fn:=⟨[Vn],[rI],fun k x=>agz k x.1⟩
theorem ok247:O 247 F247:=okF (ah ok108 <| ah ok316 <| ah ok317 <| ah ok318 aj) [] On Tryz.func247 rfl
def RX (k:Nat) (a:List jq):Option GQ:=qQ 32 127 Vi k (a,())
def F126:Fn:=⟨dJ 127 Vi,iZ 127 Vi,qQ 32 127 Vi⟩
theorem ok126:O 126 F126:=Kz JN mix Tryz.func126 rfl (by kernel_rfl) (by kernel_rfl) (fun k=>by kernel_rfl) (fun k xs=>by kernel_rfl) (fun k xs=>by kernel_rfl)
def ah5 (k:Nat) (a:L6):Option ((j3×Unit)×Unit) :=
 (RX k a.2.2.2.1).bind fun q0 =>
 (RX k a.2.2.2.2.1).bind fun q1 =>
 (RX k a.2.2.2.2.2).bind fun q2 =>
 some (((a.1,a.2.1,a.2.2.1,q0.1.1,q1.1.1,q2.1.1),()),())
def F248:Fn:=⟨[Vn],[.val ⟨true,BL,true⟩],fun k x=>ah5 k x.1⟩
theorem ok248:O 248 F248:=okF (ah ok126 aj) [] On Tryz.func248 rfl
def aox (k:Nat) (x a:L6):Option ko :=
 some ((decide (x.1>a.1),()),())
def F249:Fn:=⟨[Vn,.pv (.ref BL)],[rB],fun k x=>aox k x.1 x.2.1⟩
theorem ok249:O 249 F249:=okF aj [] On Tryz.func249 rfl
abbrev adq:Cut:=⟨[0,1,7,8],[.cell qc,.lJ 249 [.ref BL],cI,cI],[],19,[]⟩
def Xe (k:Nat) (g2:(List j3) -> j3 -> Int -> Int -> Option jo) (a:List j3) (b:L6) (c e:Int):Option jo :=
 (bif decide (e<c) then
  ix a e <|
  (aox k (rd a e bg) b).bind fun q0 =>
  (bif q0.1.1 then
   some ((e,()),())
  else
   g2 a b c (IntKind.i64.wrap (e+1)))
 else
  some (((-1),()),()))
def ah6 (k:Nat):Xx (((Unit)×(List j3)×(j3×Unit)×Int×Int×Unit) -> Option jo):=eu (dw (dh (d9 (dh dx) (dh (dh dx))))) (Xe k)
def K8 (k a:Nat) (b:List j3) (c:L6) (e f:Int):Option jo:=iter adq (ah6 k) a ((),b,(c,()),e,f,())
theorem ZJ (k a b c e f):K8 k (a+1) b c e f=Xe k (K8 k a) b c e f:=Ba _ _ _ _
def aoy (k:Nat) (a:List j3) (b:L6):Option jo :=
 K8 k k a b (a.length:Int) 0
def F132:Fn:=⟨[Zi,.pv (.lJ 249 [.ref BL])],[rI],fun k x=>aoy k x.1 x.2.1.1⟩
theorem ok132:O 132 F132:=okF (ah ok249 aj) [] (fun k=>(.loop 2 adq (ah6 k) (fun g=>.nil) .nil)) Tryz.func132 rfl
section
variable (w:World) {g n c i g2 m c2:Nat}
theorem DY:Tryz.prog.underlying 29=some (.slice 54) /\ Tryz.prog.underlying 3=some (.int .i64) /\ Tryz.prog.underlying 4=some .bool /\ Tryz.prog.follows .mixedOrders=true /\ (∀ w,(Go.sizeOf 54).run Tryz.prog w=.ok 6 w) /\ Tryz.f250.ntmps=95:=⟨by kernel_rfl,by kernel_rfl,by kernel_rfl,by kernel_rfl,fun w=>by kernel_rfl,rfl⟩
theorem Xf {v u:Value} (hv:(∃ A n c,v=.slice A n c /\ i <= n)) (hu:∃ A c,u=.slice A m c) (hm:m=0):Calls Tryz.prog 250 #[v,.int .i64 i,u] w fun e w'=>e=.returned v /\ w'=w:=by
 obtain ⟨t24,t3,t4,mixed,z36,hnt⟩:=DY
 have u24:=run_underlying t24;have u3:=run_underlying t3;have u4:=run_underlying t4
 obtain ⟨A,n,c,rfl,hi⟩:=hv
 obtain ⟨A2,c2,rfl⟩:=hu
 have hi0:(i:Int) <= (n:Int):=by omega
 have hz1:(m:Int)=0:=by omega
 cases A <;> (go_enter Tryz.func250,hnt;go_wp2 <;> (go_ret;exact ⟨rfl,rfl⟩))
theorem ZK {v:Value} {w':World} {v':Value} (hv:(∃ A c,v=.slice A n c)) (hm:0<m)
  (hr:∀ ty,(Builtin.append_ #[29,29] ty #[v,.slice (some ⟨g2,0,none⟩) m c2]).run Tryz.prog w=.ok v' w'):Calls Tryz.prog 250 #[v,.int .i64 n,.slice (some ⟨g2,0,none⟩) m c2] w fun e w1=>e=.returned v' /\ w1=w':=by
 obtain ⟨t24,t3,t4,mixed,z36,hnt⟩:=DY
 have u24:=run_underlying t24;have u3:=run_underlying t3;have u4:=run_underlying t4
 have hz1:¬ ((m:Int)=0):=by omega
 obtain ⟨A,c,rfl⟩:=hv
 go_enter Tryz.func250,hnt
 go_wp2_with (at_builtin;refine Gx rfl rfl _ _ rfl rfl (hr _) ?_)
 all_goals (go_ret;exact ⟨rfl,rfl⟩)
theorem V6 {v' v'':Value} {w' w'':World} (hi:i<n) (hm:0<m) (hroom:n+m <= c) (hc63:c <= 9223372036854775807)
  (hov:∀ lb cb,(callFunc 319 #[.slice (some ⟨g2,0,none⟩) m c2,.slice (some ⟨g,(i+m) * 6,none⟩) lb cb]).run Tryz.prog w=.ok (.value (.bool false)) w)
  (hcp1:∀ ty dc sc,(Builtin.copy_ #[29,29] ty #[.slice (some ⟨g,(i+m) * 6,none⟩) (n+m - (i+m)) dc,.slice (some ⟨g,i * 6,none⟩) (n+m - i) sc]).run Tryz.prog w.drew=.ok v' w')
  (hcp2:∀ ty dc,(Builtin.copy_ #[29,29] ty #[.slice (some ⟨g,i * 6,none⟩) (n+m - i) dc,.slice (some ⟨g2,0,none⟩) m c2]).run Tryz.prog w'=.ok v'' w'') :
  Calls Tryz.prog 250 #[.slice (some ⟨g,0,none⟩) n c,.int .i64 i,.slice (some ⟨g2,0,none⟩) m c2] w fun e w1=>e=.returned (.slice (some ⟨g,0,none⟩) (n+m) c) /\ w1=w'':=by
 obtain ⟨t24,t3,t4,mixed,z36,hnt⟩:=DY
 have u24:=run_underlying t24;have u3:=run_underlying t3;have u4:=run_underlying t4
 have hz1:¬ ((m:Int)=0):=by omega
 have hz2:¬ ((i:Int)=(n:Int)):=by omega
 have hw1:IntKind.i64.wrap ((i:Int)+(m:Int))=(i:Int)+(m:Int):=by rw [IntKind.wrap_i64];omega
 have hb1:(0:Int) <= (i:Int)+(m:Int):=by omega
 have hin:i <= n:=by omega
 have htn:((i:Int)+(m:Int)).toNat=i+m:=by omega
 have hb2:¬ (c=i+m):=by omega
 have hb3:(i:Int) <= (n:Int)+(m:Int):=by omega
 have hb4:¬ (c=i):=by omega
 go_enter Tryz.func250,hnt
 go_wp2_with (simp only [hov])
 go_region_law_o (refine Jp rfl rfl _ _ (by simp [Act.eval,Act.put]) (by simp [Act.eval,Act.put]) (hcp1 _ _ _) ?_)
 go_wp2_with (at_builtin;refine Jo rfl rfl _ _ rfl rfl (hcp2 _ _) ?_)
 go_ret
 exact ⟨rfl,rfl⟩
theorem Xg {h G:Nat} {v' v'':Value} {w0 w' w'':World} (hi:i<n) (hm:0<m) (hnc:n <= c) (hroom:c<n+m) (hc63:n+m <= 140737488355328) (hG:n+m <= G) (hG63:G <= 9223372036854775807)
  (hrz:∀ ty,(Builtin.append_ #[29,3] ty #[.slice (some ⟨g,0,none⟩) i c,.int .i64 ((n:Int)+(m:Int) - (i:Int))]).run Tryz.prog w=.ok (.slice (some ⟨h,0,none⟩) (n+m) G) w0)
  (hcp1:∀ ty dc,(Builtin.copy_ #[29,29] ty #[.slice (some ⟨h,i * 6,none⟩) (n+m - i) dc,.slice (some ⟨g2,0,none⟩) m c2]).run Tryz.prog w0=.ok v' w')
  (hcp2:∀ ty dc sc,(Builtin.copy_ #[29,29] ty #[.slice (some ⟨h,(i+m) * 6,none⟩) (n+m - (i+m)) dc,.slice (some ⟨g,i * 6,none⟩) (n - i) sc]).run Tryz.prog w'.drew=.ok v'' w'') :
  Calls Tryz.prog 250 #[.slice (some ⟨g,0,none⟩) n c,.int .i64 i,.slice (some ⟨g2,0,none⟩) m c2] w fun e w1=>e=.returned (.slice (some ⟨h,0,none⟩) (n+m) G) /\ w1=w'':=by
 obtain ⟨t24,t3,t4,mixed,z36,hnt⟩:=DY
 have u24:=run_underlying t24;have u3:=run_underlying t3;have u4:=run_underlying t4
 have hz1:¬ ((m:Int)=0):=by omega
 have hz2:¬ ((i:Int)=(n:Int)):=by omega
 have hz3:(c:Int)<(n:Int)+(m:Int):=by omega
 have hw1:IntKind.i64.wrap ((i:Int)+(m:Int))=(i:Int)+(m:Int):=by rw [IntKind.wrap_i64];omega
 have hb1:(0:Int) <= (i:Int)+(m:Int):=by omega
 have hin:i <= n:=by omega
 have htn:((i:Int)+(m:Int)).toNat=i+m:=by omega
 have hGi:¬ (G=i):=by omega
 have hGim:¬ (G=i+m):=by omega
 have hci:¬ (c=i):=by omega
 have hb3:(i:Int) <= (n:Int):=by omega
 go_enter Tryz.func250,hnt
 go_wp2_with (first
  | (at_builtin;refine Gx rfl rfl _ _ rfl rfl (hrz _) ?_)
  | (at_builtin;refine Jo rfl rfl _ _ rfl rfl (hcp1 _ _) ?_))
 go_region_law_o (refine Jp rfl rfl _ _ (by simp [Act.eval,Act.put]) (by simp [Act.eval,Act.put]) (hcp2 _ _ _) ?_)
 go_wp2
 go_ret
 exact ⟨rfl,rfl⟩
end
abbrev arp:List PT:=eG 54 BL
abbrev arq:List RT:=qU 54 BL
def aoz (k:Nat) (a:List j3) (b:Int) (c:List j3):Option (((List j3)×Unit)×Unit):=Jg 96 54 BL k (a,b,c,())
def F250:Fn:=⟨arp,arq,Jg 96 54 BL⟩
def aqe:Env:=tab.env (fun _=>none) (fun _=>0)
theorem ald:aH Tryz.prog aqe:=Kw Rt _ _ (fun f F h=>by cases h)
theorem ok250:O 250 F250:=by
 obtain ⟨i0,z,a1,a2,a3,a4,a5⟩:=(ald.ty 54 (BL) (by kernel_rfl)).info
 have b1:aqe.lK 54=96:=by kernel_rfl
 have b2:Ty.sz (BL)=6:=rfl
 rw [b1] at a3
 have hz:z.cells.size=6:=by rw [<- Array.length_toList,a5,gZ,b2]
 obtain ⟨t24,t3,t4,mixed,z36,hnt⟩:=DY
 refine Qq Tryz.func250 rfl (by kernel_rfl) ?_
 rw [b2,<- a3]
 refine Mq (S:=29) (z:=z) t24 t3 a1 a4 (by rw [a2,b2]) hz (by decide) (by rw [a3];decide) (fun w i m v u h1 h2 h3=>Xf w h1 h2 h3) (fun w n g2 m c2 v v' w' h1 h2 h3=>ZK w h1 h2 h3) (fun w g n c i g2 m c2 v' v'' w' w'' h1 h2 h3 h4 h5 h6 hne hg hg2=>V6 w h1 h2 h3 h4 (fun lb cb=>?_) h5 h6) (fun w g n c i g2 m c2 h G v' v'' w0 w' w'' h1 h2 h3 h4 h5 h6 h7 h8 h9 h10=>Xg w h1 h2 h3 h4 h5 h6 h7 h8 h9 h10)
 obtain ⟨cur,q1,q2⟩:=hg
 obtain ⟨xE,q3⟩:=hg2
 rw [run_callFunc_extern Tryz.func319 (by kernel_rfl) (by kernel_rfl) (by kernel_rfl) (e:=Extern.SlicesOverlaps.overlaps #[29,29] #[4]) (by kernel_rfl),Lib.run_overlaps_apart w 29 4 54 t24 6 z36 ⟨g2,0,none⟩ ⟨g,(i+m) * 6,none⟩ m c2 lb cb hne 54 54 xE.size cur.size (by simp [World.shape?,q3]) (by simp [World.shape?,q1]) q2 (Kd.fQ q3 _) (Kd.fQ q3 _)]
 rfl
abbrev adr:Cut:=⟨[0,5,6,7],[.cell qc,.cell qc,cI,cI],[],31,[]⟩
def Xh (k:Nat) (g2:(List j3) -> (List j3) -> Int -> Int -> Option ko) (a b:List j3) (c e:Int):Option ko :=
 (bif decide (e<c) then
  ix b e <|
  (agz k (rd b e bg)).bind fun q0 =>
  (bif q0.1.1 != 0 then
   some ((false,()),())
  else
   (bif decide (e>0) then
    ix a (IntKind.i64.wrap (e - 1)) <|
    (bif decide ((rd a (IntKind.i64.wrap (e - 1)) bg).1≥(rd b e bg).1) then
     some ((false,()),())
    else
     g2 a b c (IntKind.i64.wrap (e+1)))
   else
    g2 a b c (IntKind.i64.wrap (e+1))))
 else
  some ((true,()),()))
def ah7 (k:Nat):Xx (((Unit)×(List j3)×(List j3)×Int×Int×Unit) -> Option ko):=eu (dw (dh (dh (dh (dh dx))))) (Xh k)
def N8 (k a:Nat) (b c:List j3) (e f:Int):Option ko:=iter adr (ah7 k) a ((),b,c,e,f,())
theorem ZL (k a b c e f):N8 k (a+1) b c e f=Xh k (N8 k a) b c e f:=Ba _ _ _ _
def ale (k:Nat) (a:List j3):Option ko :=
 N8 k k a a (a.length:Int) 0
def F348:Fn:=⟨[Zi],[rB],fun k x=>ale k x.1⟩
theorem ok348:O 348 F348:=okF (ah ok247 aj) [] (fun k=>(.loop 2 adr (ah7 k) (fun g=>.nil) .nil)) Tryz.func348 rfl
def aoA (k:Nat) (a:Int):Option AP :=
 (bif decide (a<0) then
  none
 else
  (bif decide ((IntKind.i64.wrap (a - 0))>0) then
   az ([]:List (Int×Int)) (IntKind.i64.wrap (a - 0)) 16 (0,0) fun r0 =>
   sx r0 0 0 <|
   some ((r0.take 0,()),())
  else
   some (([],()),())))
def F359:Fn:=⟨[.pv (.nil),au],[aop],fun k x=>aoA k x.2.1⟩
theorem ok359:O 359 F359:=okF aj [(25,1)] On Tryz.func359 rfl
abbrev ZM:Cut:=⟨[6,25,26,27],[.own 378 oq,.cell (.sl 308 (.sl 378 oq)),cI,cI],[],36,[]⟩
def L9 (k:Nat) (g11:kg -> (List kg) -> Int -> Int -> Option AP) (a:oz) (b:List kg) (c e:Int):Option AP :=
 (bif decide (e<c) then
  ix b e <|
  ap a (rd b e []) 16 fun r1 =>
  g11 r1 b c (IntKind.i64.wrap (e+1))
 else
  some ((a,()),()))
def ads (k:Nat):Xx (((Unit)×kg×(List kg)×Int×Int×Unit) -> Option AP):=eu (dw (dh (dh (dh (dh dx))))) (L9 k)
def LA (k a:Nat) (b:oz) (c:List kg) (e f:Int):Option AP:=iter ZM (ads k) a ((),b,c,e,f,())
theorem N9 (k a b c e f):LA k (a+1) b c e f=L9 k (LA k a) b c e f:=Ba _ _ _ _
abbrev adt:Cut:=⟨[0,3,9,10,11],[.cell (.sl 308 (.sl 378 oq)),cI,.cell (.sl 308 (.sl 378 oq)),cI,cI],[],36,[]⟩
def RY (k:Nat) (g3:(List kg) -> Int -> (List kg) -> Int -> Int -> Option AP) (a:List kg) (b:Int) (c:List kg) (e f:Int):Option AP :=
 (bif decide (f<e) then
  ix c f <|
  (bif decide ((IntKind.i64.wrap (b+((rd c f []).length:Int)))<0) then
   none
  else
   g3 a (IntKind.i64.wrap (b+((rd c f []).length:Int))) c e (IntKind.i64.wrap (f+1)))
 else
  (aoA k b).bind fun q0 =>
  LA k k q0.1.1 a (a.length:Int) 0)
def ah8 (k:Nat):Xx (((Unit)×(List kg)×Int×(List kg)×Int×Int×Unit) -> Option AP):=eu (dw (dh (dh (dh (dh (dh dx)))))) (RY k)
def Xi (k a:Nat) (b:List kg) (c:Int) (e:List kg) (f h:Int):Option AP:=iter adt (ah8 k) a ((),b,c,e,f,h,())
theorem RZ (k a b c e f h):Xi k (a+1) b c e f h=RY k (Xi k a) b c e f h:=Ba _ _ _ _
def ah9 (k:Nat) (a:List kg):Option AP :=
 Xi k k a 0 a (a.length:Int) 0
def F351:Fn:=⟨[.val ⟨false,(.sl 308 (.sl 378 oq)),false⟩],[aop],fun k x=>ah9 k x.1⟩
theorem ok351:O 351 F351:=okF (ah ok359 aj) [] (fun k=>(.loop 11 ZM (ads k) (fun g=>.nil) (.loop 3 adt (ah8 k) (fun g=>.nil) .nil))) Tryz.func351 rfl
def ZN (k:Nat) (a:L6):Option ((Int×Int×kg×Unit)×Unit) :=
 (agz k a).bind fun q0 =>
 (bif q0.1.1 != 0 then
  some ((0,0,[],()),())
 else
  (agx k a.2.2.2.1).bind fun q1 =>
  (agx k a.2.2.2.2.1).bind fun q2 =>
  (bif q2.1.2.1 then
   (ah9 k ([q1.1.1.2.2,q2.1.1.2.2]:List kg)).bind fun q3 =>
   some ((q1.1.1.1,q2.1.1.1,q3.1.1,()),())
  else
   (ah9 k ([q1.1.1.2.2,q2.1.1.2.2]:List kg)).bind fun q4 =>
   some ((q1.1.1.1,q1.1.1.2.1,q4.1.1,()),())))
def F322:Fn:=⟨[Vn],[rI,rI,aop],fun k x=>ZN k x.1⟩
theorem ok322:O 322 F322:=okF (ah ok247 <| ah ok346 <| ah ok351 aj) [] On Tryz.func322 rfl
def aoB (k:Nat) (a:Int):Option GQ :=
 (bif decide (a<0) then
  none
 else
  (bif decide ((IntKind.i64.wrap (a - 0))>0) then
   az ([]:List jq) (IntKind.i64.wrap (a - 0)) 32 (0,0,0,0) fun r0 =>
   sx r0 0 0 <|
   some ((r0.take 0,()),())
  else
   some (([],()),())))
def F131:Fn:=⟨[.pv (.nil),au],[.val ⟨false,ql,true⟩],fun k x=>aoB k x.2.1⟩
theorem ok131:O 131 F131:=okF aj [(25,1)] On Tryz.func131 rfl
abbrev adu:Cut:=⟨[6,25,26,27],[.own 127 Vi,.cell (.sl 52 ql),cI,cI],[],36,[]⟩
def S9 (k:Nat) (g11:(List jq) -> Vk -> Int -> Int -> Option GQ) (a:List jq) (b:List (List jq)) (c e:Int):Option GQ :=
 (bif decide (e<c) then
  ix b e <|
  ap a (rd b e []) 32 fun r1 =>
  g11 r1 b c (IntKind.i64.wrap (e+1))
 else
  some ((a,()),()))
def aia (k:Nat):Xx (((Unit)×(List jq)×Vk×Int×Int×Unit) -> Option GQ):=eu (dw (dh (dh (dh (dh dx))))) (S9 k)
def SA (k a:Nat) (b:List jq) (c:List (List jq)) (e f:Int):Option GQ:=iter adu (aia k) a ((),b,c,e,f,())
theorem SB (k a b c e f):SA k (a+1) b c e f=S9 k (SA k a) b c e f:=Ba _ _ _ _
abbrev aib:Cut:=⟨[0,3,9,10,11],[.cell (.sl 52 ql),cI,.cell (.sl 52 ql),cI,cI],[],36,[]⟩
def ZO (k:Nat) (g3:Vk -> Int -> Vk -> Int -> Int -> Option GQ) (a:List (List jq)) (b:Int) (c:List (List jq)) (e f:Int):Option GQ :=
 (bif decide (f<e) then
  ix c f <|
  (bif decide ((IntKind.i64.wrap (b+((rd c f []).length:Int)))<0) then
   none
  else
   g3 a (IntKind.i64.wrap (b+((rd c f []).length:Int))) c e (IntKind.i64.wrap (f+1)))
 else
  (aoB k b).bind fun q0 =>
  SA k k q0.1.1 a (a.length:Int) 0)
def anK (k:Nat):Xx (((Unit)×Vk×Int×Vk×Int×Int×Unit) -> Option GQ):=eu (dw (dh (dh (dh (dh (dh dx)))))) (ZO k)
def adv (k a:Nat) (b:List (List jq)) (c:Int) (e:List (List jq)) (f h:Int):Option GQ:=iter aib (anK k) a ((),b,c,e,f,h,())
theorem Xj (k a b c e f h):adv k (a+1) b c e f h=ZO k (adv k a) b c e f h:=Ba _ _ _ _
def S58 (k:Nat) (a:List (List jq)):Option GQ :=
 adv k k a 0 a (a.length:Int) 0
def F58:Fn:=⟨[.val ⟨false,(.sl 52 ql),false⟩],[.val ⟨false,ql,true⟩],fun k x=>S58 k x.1⟩
theorem ok58:O 58 F58:=okF (ah ok131 aj) [] (fun k=>(.loop 11 adu (aia k) (fun g=>.nil) (.loop 3 aib (anK k) (fun g=>.nil) .nil))) Tryz.func58 rfl
def aoC (k:Nat) (a:Int×Int×Int×Int) (b:Int):Option ko :=
 (bif a.1==9 then
  some ((a.2.1==b,()),())
 else
  some ((false,()),()))
def F134:Fn:=⟨[agq,Zk],[rB],fun k x=>aoC k x.1 x.2.1⟩
theorem ok134:O 134 F134:=okF aj [] On Tryz.func134 rfl
abbrev ZP:Cut:=⟨[0,1,7,8],[.cell ql,.lJ 134 [.ref (.int .i64)],cI,cI],[],19,[]⟩
def QG (k:Nat) (g2:(List jq) -> Int -> Int -> Int -> Option jo) (a:List jq) (b c e:Int):Option jo :=
 (bif decide (e<c) then
  ix a e <|
  (aoC k (rd a e (0,0,0,0)) b).bind fun q0 =>
  (bif q0.1.1 then
   some ((e,()),())
  else
   g2 a b c (IntKind.i64.wrap (e+1)))
 else
  some (((-1),()),()))
def adw (k:Nat):Xx (((Unit)×(List jq)×Zb×Int×Int×Unit) -> Option jo):=eu (dw (dh (d9 (dh dx) (dh (dh dx))))) (QG k)
def II (k a:Nat) (b:List jq) (c e f:Int):Option jo:=iter ZP (adw k) a ((),b,(c,()),e,f,())
theorem Vu (k a b c e f):II k (a+1) b c e f=QG k (II k a) b c e f:=Ba _ _ _ _
def adx (k:Nat) (a:List jq) (b:Int):Option jo :=
 II k k a b (a.length:Int) 0
def F130c:Fn:=⟨[EM,.pv (.lJ 134 [.ref (.int .i64)])],[rI],fun k x=>adx k x.1 x.2.1.1⟩
theorem ok130c:O 130 F130c:=okF (ah ok134 aj) [] (fun k=>(.loop 2 ZP (adw k) (fun g=>.nil) .nil)) Tryz.func130 rfl
def aoD (k:Nat) (a:List jq) (b:Int):Option ko :=
 (adx k a b).bind fun q0 =>
 some ((decide (q0.1.1≥0),()),())
def F57b:Fn:=⟨[EM,.pv (.lJ 134 [.ref (.int .i64)])],[rB],fun k x=>aoD k x.1 x.2.1.1⟩
theorem ok57b:O 57 F57b:=okF (ah ok130c aj) [] On Tryz.func57 rfl
def alf (k:Nat) (a:L6) (b:Int):Option ko :=
 (S58 k ([a.2.2.2.1,a.2.2.2.2.1]:List (List jq))).bind fun q0 =>
 (aoD k q0.1.1 b).bind fun q1 =>
 some ((q1.1.1,()),())
def F133:Fn:=⟨[Vn,Zk],[rB],fun k x=>alf k x.1 x.2.1⟩
theorem ok133:O 133 F133:=okF (ah ok57b <| ah ok58 aj) [] On Tryz.func133 rfl
abbrev ZQ:Cut:=⟨[0,1,7,8],[.cell qc,.lJ 133 [.ref (.int .i64)],cI,cI],[],19,[]⟩
def QH (k:Nat) (g2:(List j3) -> Int -> Int -> Int -> Option jo) (a:List j3) (b c e:Int):Option jo :=
 (bif decide (e<c) then
  ix a e <|
  (alf k (rd a e bg) b).bind fun q0 =>
  (bif q0.1.1 then
   some ((e,()),())
  else
   g2 a b c (IntKind.i64.wrap (e+1)))
 else
  some (((-1),()),()))
def ady (k:Nat):Xx (((Unit)×(List j3)×Zb×Int×Int×Unit) -> Option jo):=eu (dw (dh (d9 (dh dx) (dh (dh dx))))) (QH k)
def ER (k a:Nat) (b:List j3) (c e f:Int):Option jo:=iter ZQ (ady k) a ((),b,(c,()),e,f,())
theorem Vv (k a b c e f):ER k (a+1) b c e f=QH k (ER k a) b c e f:=Ba _ _ _ _
def aic (k:Nat) (a:List j3) (b:Int):Option jo :=
 ER k k a b (a.length:Int) 0
def F132a:Fn:=⟨[Zi,.pv (.lJ 133 [.ref (.int .i64)])],[rI],fun k x=>aic k x.1 x.2.1.1⟩
theorem ok132a:O 132 F132a:=okF (ah ok133 aj) [] (fun k=>(.loop 2 ZQ (ady k) (fun g=>.nil) .nil)) Tryz.func132 rfl
def S60 (k:Nat) (a:List j3) (b:Int):Option jo :=
 (aic k a b).bind fun q0 =>
 (bif decide (q0.1.1<0) then
  some ((8,()),())
 else
  some ((q0.1.1,()),()))
def F60:Fn:=⟨[Zi,au],[rI],fun k x=>S60 k x.1 x.2.1⟩
theorem ok60:O 60 F60:=okF (ah ok132a aj) [] On Tryz.func60 rfl
abbrev aie:Cut:=⟨[0,1,4,5,12,16,17,18,32,33,34],[.cell qc,cI,cI,.mp 431 true (.int .i64) false (.int .i64),.box 378 [cI,cI],.cell qc,cI,cI,.own 378 oq,cI,cI],[],70,[]⟩
def LB (k:Nat) (g3:Vh) (g8:ahA) (a:List j3) (b c:Int) (e:oz) (x f:Int) (h:List j3) (i l:Int) (m:oz) (n o:Int):Option jo :=
 (bif decide ((Us (.int .i64) (.int .i64) x e 0) <= b) then
  g8 a b (mx c f) e h i l m n (IntKind.i64.wrap (o+1))
 else
  g8 a b c e h i l m n (IntKind.i64.wrap (o+1)))
abbrev adz:Cut:=⟨[0,1,4,5,16,17,18,32,33,34],[.cell qc,cI,cI,.mp 431 true (.int .i64) false (.int .i64),.cell qc,cI,cI,.own 378 oq,cI,cI],[],70,[]⟩
def Xk (k:Nat) (g3:Vh) (g8:ahA) (a:List j3) (b c:Int) (e:oz) (f:List j3) (h i:Int) (l:oz) (m n:Int):Option jo :=
 (bif decide (n<m) then
  ix l n <|
  (bif !(Ut (.int .i64) (.int .i64) (rd l n (0,0)).1 e) then
   (S60 k a (rd l n (0,0)).1).bind fun q1 =>
   LB k g3 g8 a b c (vL (.int .i64) (.int .i64) (rd l n (0,0)).1 q1.1.1 e) (rd l n (0,0)).1 (rd l n (0,0)).2 f h i l m n
  else
   LB k g3 g8 a b c e (rd l n (0,0)).1 (rd l n (0,0)).2 f h i l m n)
 else
  g3 a b c e f h (IntKind.i64.wrap (i+1)))
def aif (k:Nat) (g3:Vh):Xx (((Unit)×(List j3)×Int×Int×kg×(List j3)×Int×Int×kg×Int×Int×Unit) -> Option jo):=eu (dw (dh (dh (dh (dh (dh (dh (dh (dh (dh (dh dx))))))))))) (Xk k g3)
def SC (k:Nat) (g3:Vh) (a:Nat) (b:List j3) (c e:Int) (f:oz) (h:List j3) (i l:Int) (m:oz) (n o:Int):Option jo:=iter adz (aif k g3) a ((),b,c,e,f,h,i,l,m,n,o,())
theorem ZR (k g3 a b c e f h i l m n o):SC k g3 (a+1) b c e f h i l m n o=Xk k g3 (SC k g3 a) b c e f h i l m n o:=Ba _ _ _ _
abbrev adA:Cut:=⟨[0,1,4,5,16,17,18],[.cell qc,cI,cI,.mp 431 true (.int .i64) false (.int .i64),.cell qc,cI,cI],[],70,[]⟩
def Xl (k:Nat) (g3:Vh) (a:List j3) (b c:Int) (e:oz) (f:List j3) (h i:Int):Option jo :=
 (bif decide (i<h) then
  ix f i <|
  (bif i==b then
   g3 a b c e f h (IntKind.i64.wrap (i+1))
  else
   (ZN k (rd f i bg)).bind fun q0 =>
   SC k g3 k a b c e f h i q0.1.2.2.1 (q0.1.2.2.1.length:Int) 0)
 else
  some ((c,()),()))
def aii (k:Nat):Xx (((Unit)×(List j3)×Int×Int×kg×(List j3)×Int×Int×Unit) -> Option jo):=eu (dw (dh (dh (dh (dh (dh (dh (dh dx)))))))) (Xl k)
def SE (k a:Nat) (b:List j3) (c e:Int) (f:oz) (h:List j3) (i l:Int):Option jo:=iter adA (aii k) a ((),b,c,e,f,h,i,l,())
theorem ZT (k a b c e f h i l):SE k (a+1) b c e f h i l=Xl k (SE k a) b c e f h i l:=Ba _ _ _ _
def alg (k:Nat) (a:List j3) (b:Int):Option jo :=
 SE k k a b 0 ([]:List (Int×Int)) a (a.length:Int) 0
def F323:Fn:=⟨[Zi,au],[rI],fun k x=>alg k x.1 x.2.1⟩
theorem ok323:O 323 F323:=okF (ah ok60 <| ah ok322 aj) [] (fun k=>(.loop 3 adA (aii k) (fun g=>(fun (g3:Vh)=>(.loop 8 adz (aif k g3) (fun g=>(fun (g8:ahA)=>(.join 13 aie (fun (_,a,b,c,e,(f,h,_),i,l,m,n,o,p,_)=>LB k g3 g8 a b c e f h i l m n o p) .nil)) (fun l_2 i2 aqh aoE aqi aqj aqk t32 t33 t34=>g ((),l_2,i2,aqh,aoE,aqi,aqj,aqk,t32,t33,t34,()))) .nil)) (fun l_1 i1 most aql t16 t17 t18=>g ((),l_1,i1,most,aql,t16,t17,t18,()))) .nil)) Tryz.func323 rfl
def agA (k:Nat) (a:Int) (b:Bool) (c e:Int):Option ((Unit)×acW×Unit) :=
 (agv k c e).bind fun q0 =>
 (agw k a q0.1.1).bind fun q1 =>
 (bif b then
  some ((),(q1.1.1,true,()),())
 else
  (bif !q0.1.2.1 then
   some ((),(q1.1.1,true,()),())
  else
   some ((),(q1.1.1,!q1.1.2.1,()),())))
def F349:Fn:=⟨[.fK 427 [cI,.cell .bool],au,au],[],fun k ((a,b,_),c,e,_)=>agA k a b c e⟩
theorem ok349:O 349 F349:=okF (ah ok356 <| ah ok357 aj) [] On Tryz.func349 rfl
def alh (k:Nat) (a b:Int):Option DW :=
 (bif decide (b<1) then
  some ((0,false,()),())
 else
  (bif decide (a<0) then
   some ((0,false,()),())
  else
   nz b <|
   nz b <|
   (bif decide ((Int.tmod a b)>0) then
    some ((IntKind.i64.wrap ((IntKind.i64.wrap (Int.tdiv a b))+1),true,()),())
   else
    some ((IntKind.i64.wrap (Int.tdiv a b),true,()),()))))
def F358:Fn:=⟨[au,au],[rI,rB],fun k x=>alh k x.1 x.2.1⟩
theorem ok358:O 358 F358:=okF aj [] On Tryz.func358 rfl
def aij (k:Nat) (a b:Int):Option jo :=
 (alh k a b).bind fun q0 =>
 some ((q0.1.1,()),())
def F350:Fn:=⟨[au,au],[rI],fun k x=>aij k x.1 x.2.1⟩
theorem ok350:O 350 F350:=okF (ah ok358 aj) [] On Tryz.func350 rfl
abbrev ZU:Cut:=⟨[0,1,2,6,7,12,18,19,88,89,90],[.cell qc,cI,cI,cI,cI,cI,.box 427 [cI,.cell .bool],.box 427 [cI,.cell .bool],.cell qc,cI,cI],[],128,[]⟩
def QI (k:Nat) (g14:Z5) (g18:(List j3) -> Int -> Int -> Int -> Int -> Int -> Int -> Bool -> Int -> Bool -> (List j3) -> Int -> Int -> Option DV) (a:List j3) (b c e f h i:Int) (l:Bool) (m:Int) (n:Bool) (o:List j3) (p s:Int):Option DV :=
 (bif decide (s<p) then
  ix o s <|
  (ZN k (rd o s bg)).bind fun q7 =>
  (aij k e (rd o s bg).2.1).bind fun q8 =>
  (agA k m n q8.1.1 q7.1.1).bind fun q9 =>
  g18 a b c e f h i l q9.2.1.1 q9.2.1.2.1 o p (IntKind.i64.wrap (s+1))
 else
  (bif n then
   some ((0,0,13,()),())
  else
   ix a b <|
   (bif decide (m>(rd a b bg).2.2.1) then
    some ((0,0,14,()),())
   else
    (bif m==e then
     some ((e,f,0,()),())
    else
     g14 a b c m f h i l))))
def adB (k:Nat) (g14:Z5):Xx (((Unit)×(List j3)×Int×Int×Int×Int×Int×acW×acW×(List j3)×Int×Int×Unit) -> Option DV):=eu (dw (dh (dh (dh (dh (dh (dh (d9 (dh (dh dx)) (d9 (dh (dh dx)) (dh (dh (dh dx)))))))))))) (QI k g14)
def QJ (k:Nat) (g14:Z5) (a:Nat) (b:List j3) (c e f h i l:Int) (m:Bool) (n:Int) (o:Bool) (p:List j3) (s t:Int):Option DV:=iter ZU (adB k g14) a ((),b,c,e,f,h,i,(l,m,()),(n,o,()),p,s,t,())
theorem Vw (k g14 a b c e f h i l m n o p s t):QJ k g14 (a+1) b c e f h i l m n o p s t=QI k g14 (QJ k g14 a) b c e f h i l m n o p s t:=Ba _ _ _ _
abbrev ZV:Cut:=⟨[0,1,2,6,7,12,18],[.cell qc,cI,cI,cI,cI,cI,.box 427 [cI,.cell .bool]],[],128,[]⟩
def Xm (k:Nat) (g14:Z5) (a:List j3) (b c e f h i:Int) (l:Bool):Option DV :=
 (aij k e c).bind fun q5 =>
 (agA k i l q5.1.1 h).bind fun q6 =>
 sx a 0 b <|
 QJ k g14 k a b c e (IntKind.i64.wrap (f+1)) h i l q6.2.1.1 q6.2.1.2.1 (sub a 0 b) ((sub a 0 b).length:Int) 0
def adC (k:Nat):Xx (((Unit)×(List j3)×Int×Int×Int×Int×Int×acW×Unit) -> Option DV):=eu (dw (dh (dh (dh (dh (dh (dh (d9 (dh (dh dx)) dx)))))))) (Xm k)
def LC (k a:Nat) (b:List j3) (c e f h i l:Int) (m:Bool):Option DV:=iter ZV (adC k) a ((),b,c,e,f,h,i,(l,m,()),())
theorem agB (k a b c e f h i l m):LC k (a+1) b c e f h i l m=Xm k (LC k a) b c e f h i l m:=Ba _ _ _ _
abbrev adD:Cut:=⟨[0,1,2,7,9,12,54,55,56],[.cell qc,cI,cI,cI,cI,cI,.cell qc,cI,cI],[],128,[]⟩
def Xn (k:Nat) (g6:(List j3) -> Int -> Int -> Int -> Int -> Int -> (List j3) -> Int -> Int -> Option DV) (a:List j3) (b c e f h:Int) (i:List j3) (l m:Int):Option DV :=
 (bif decide (m<l) then
  ix i m <|
  (ZN k (rd i m bg)).bind fun q2 =>
  g6 a b c e f (mx h q2.1.2.1) i l (IntKind.i64.wrap (m+1))
 else
  (alg k a b).bind fun q3 =>
  (agA k f false 1 q3.1.1).bind fun q4 =>
  LC k k a b c q4.2.1.1 e h q4.2.1.1 q4.2.1.2.1)
def aik (k:Nat):Xx (((Unit)×(List j3)×Int×Int×Int×Int×Int×(List j3)×Int×Int×Unit) -> Option DV):=eu (dw (dh (dh (dh (dh (dh (dh (dh (dh (dh dx)))))))))) (Xn k)
def Xo (k a:Nat) (b:List j3) (c e f h i:Int) (l:List j3) (m n:Int):Option DV:=iter adD (aik k) a ((),b,c,e,f,h,i,l,m,n,())
theorem ZW (k a b c e f h i l m n):Xo k (a+1) b c e f h i l m n=Xn k (Xo k a) b c e f h i l m n:=Ba _ _ _ _
def ali (k:Nat) (a:List j3) (b c:Int):Option DV :=
 (ale k a).bind fun q0 =>
 (bif !q0.1.1 then
  some ((0,0,1,()),())
 else
  (bif decide (b<0) then
   some ((0,0,1,()),())
  else
   (bif decide (b≥(a.length:Int)) then
    some ((0,0,1,()),())
   else
    (bif decide (c<1) then
     some ((0,0,1,()),())
    else
     ix a b <|
     (ZN k (rd a b bg)).bind fun q1 =>
     sx a 0 (IntKind.i64.wrap (b+1)) <|
     Xo k k a b c 0 q1.1.1 0 (sub a 0 (IntKind.i64.wrap (b+1))) ((sub a 0 (IntKind.i64.wrap (b+1))).length:Int) 0))))
def F321:Fn:=⟨[Zi,au,au],[rI,rI,rI],fun k (a,b,c,_)=>ali k a b c⟩
theorem ok321:O 321 F321:=okF (ah ok322 <| ah ok323 <| ah ok348 <| ah ok349 <| ah ok350 aj) [] (fun k=>(.loop 14 ZV (adC k) (fun g=>(fun (g14:Z5)=>(.loop 18 ZU (adB k g14) (fun g=>.nil) .nil)) (fun l_2 i2 aoF r_ alj aqm first aoG=>g ((),l_2,i2,aoF,r_,alj,aqm,(first,aoG,()),()))) (.loop 6 adD (aik k) (fun g=>.nil) .nil))) Tryz.func321 rfl
abbrev adE:Cut:=⟨[0,1,4,16,17,18],[.cell qc,cI,.own 168 D5,.cell qc,cI,cI],[],56,[]⟩
def Xp (k:Nat) (g4:(List j3) -> Int -> GU -> (List j3) -> Int -> Int -> Option Ze) (a:List j3) (b:Int) (c:List (PN Int 5)) (e:List j3) (f h:Int):Option Ze :=
 (bif decide (h<f) then
  ix e h <|
  (ali k a h b).bind fun q0 =>
  (bif q0.1.2.2.1 != 0 then
   some ((([]:List (PN Int 5)),q0.1.2.2.1,()),())
  else
   (ZN k (rd e h bg)).bind fun q1 =>
   (alg k a h).bind fun q2 =>
   ap c ([(q1.1.1,q1.1.2.1,q2.1.1,q0.1.1,IntKind.i64.wrap ((rd e h bg).2.2.1 - q0.1.1))]:List (PN Int 5)) 40 fun r3 =>
   g4 a b r3 e f (IntKind.i64.wrap (h+1)))
 else
  some ((c,0,()),()))
def ail (k:Nat):Xx (((Unit)×(List j3)×Int×GU×(List j3)×Int×Int×Unit) -> Option Ze):=eu (dw (dh (dh (dh (dh (dh (dh dx))))))) (Xp k)
def Xq (k a:Nat) (b:List j3) (c:Int) (e:List (PN Int 5)) (f:List j3) (h i:Int):Option Ze:=iter adE (ail k) a ((),b,c,e,f,h,i,())
theorem ZX (k a b c e f h i):Xq k (a+1) b c e f h i=Xp k (Xq k a) b c e f h i:=Ba _ _ _ _
def ain (k:Nat) (a:List j3) (b:Int):Option Ze :=
 (bif decide (b<1) then
  some ((([]:List (PN Int 5)),1,()),())
 else
  Xq k k a b ([]:List (PN Int 5)) a (a.length:Int) 0)
def F251:Fn:=⟨[Zi,au],[.val ⟨false,Zf,true⟩,rI],fun k x=>ain k x.1 x.2.1⟩
theorem ok251:O 251 F251:=okF (ah ok321 <| ah ok322 <| ah ok323 aj) [(4,2)] (fun k=>(.loop 4 adE (ail k) (fun g=>.nil) .nil)) Tryz.func251 rfl
abbrev aio:Cut:=⟨[2,4,13,16],[cI,.box 54 [cI,cI,cI,.cell ql,.cell ql,.cell ql],.own 54 BL,cI],[],82,[]⟩
def LD (k:Nat) (a b c e:Int) (f h i:List jq) (l:List j3) (m:Int):Option JL :=
 (ah5 k (b,c,e,f,h,i)).bind fun q4 =>
 (aoz k l m ([q4.1.1]:List j3)).bind fun q5 =>
 (ain k q5.1.1 a).bind fun q6 =>
 (bif q6.1.2.1 != 0 then
  some (([],[],q6.1.2.1,()),())
 else
  some ((q5.1.1,q6.1.1,0,()),()))
abbrev ZY:Cut:=⟨[2,4,13,46,47,48],[cI,.box 54 [cI,cI,cI,.cell ql,.cell ql,.cell ql],.own 54 BL,.cell qc,cI,cI],[],82,[]⟩
def QK (k:Nat) (g16:Int -> Int -> Int -> Int -> (List jq) -> (List jq) -> (List jq) -> (List j3) -> (List j3) -> Int -> Int -> Option JL) (a b c e:Int) (f h i:List jq) (l m:List j3) (n o:Int):Option JL :=
 (bif decide (o<n) then
  ix m o <|
  (ah5 k (rd m o bg)).bind fun q1 =>
  ap l ([q1.1.1]:List j3) 96 fun r2 =>
  g16 a b c e f h i r2 m n (IntKind.i64.wrap (o+1))
 else
  (aoy k l (b,c,e,f,h,i)).bind fun q3 =>
  (bif decide (q3.1.1<0) then
   LD k a b c e f h i l (l.length:Int)
  else
   LD k a b c e f h i l q3.1.1))
def adF (k:Nat):Xx (((Unit)×Int×anH×(List j3)×(List j3)×Int×Int×Unit) -> Option JL):=eu (dw (dh (d9 (dh (dh (dh (dh (dh (dh dx)))))) (dh (dh (dh (dh dx))))))) (QK k)
def QL (k a:Nat) (b c e f:Int) (h i l:List jq) (m n:List j3) (o p:Int):Option JL:=iter ZY (adF k) a ((),b,(c,e,f,h,i,l,()),m,n,o,p,())
theorem Vx (k a b c e f h i l m n o p):QL k (a+1) b c e f h i l m n o p=QK k (QL k a) b c e f h i l m n o p:=Ba _ _ _ _
abbrev adG:Cut:=⟨[0,2,4,9,20,21,22],[.cell qc,cI,.box 54 [cI,cI,cI,.cell ql,.cell ql,.cell ql],.mp 343 true (.int .i64) false .bool,.cell qc,cI,cI],[],82,[]⟩
def Xr (k:Nat) (g3:(List j3) -> Int -> Int -> Int -> Int -> (List jq) -> (List jq) -> (List jq) -> (List (Int×Bool)) -> (List j3) -> Int -> Int -> Option JL) (a:List j3) (b c e f:Int) (h i l:List jq) (m:List (Int×Bool)) (n:List j3) (o p:Int):Option JL :=
 (bif decide (p<o) then
  ix n p <|
  g3 a b c e f h i l (vL (.int .i64) .bool (rd n p bg).1 true m) n o (IntKind.i64.wrap (p+1))
 else
  (agz k (c,e,f,h,i,l)).bind fun q0 =>
  (bif q0.1.1 != 0 then
   some (([],[],q0.1.1,()),())
  else
   (bif Us (.int .i64) .bool c m false then
    some (([],[],11,()),())
   else
    (bif decide ((a.length:Int)≥8) then
     some (([],[],4,()),())
    else
     QL k k b c e f h i l ([]:List j3) a (a.length:Int) 0))))
def aip (k:Nat):Xx (((Unit)×(List j3)×Int×anH×(List (Int×Bool))×(List j3)×Int×Int×Unit) -> Option JL):=eu (dw (dh (dh (d9 (dh (dh (dh (dh (dh (dh dx)))))) (dh (dh (dh (dh dx)))))))) (Xr k)
def Xt (k a:Nat) (b:List j3) (c e f h:Int) (i l m:List jq) (n:List (Int×Bool)) (o:List j3) (p s:Int):Option JL:=iter adG (aip k) a ((),b,c,(e,f,h,i,l,m,()),n,o,p,s,())
theorem aac (k a b c e f h i l m n o p s):Xt k (a+1) b c e f h i l m n o p s=Xr k (Xt k a) b c e f h i l m n o p s:=Ba _ _ _ _
def aoH (k:Nat) (a:List j3) (b:L6) (c:Int):Option JL :=
 Xt k k a c b.1 b.2.1 b.2.2.1 b.2.2.2.1 b.2.2.2.2.1 b.2.2.2.2.2 ([]:List (Int×Bool)) a (a.length:Int) 0
def F166:Fn:=⟨[Zi,Vn,au],[.val ⟨false,qc,true⟩,.val ⟨false,Zf,true⟩,rI],fun k (a,b,c,_)=>aoH k a b c⟩
theorem ok166:O 166 F166:=okF (ah ok132 <| ah ok247 <| ah ok248 <| ah ok250 <| ah ok251 aj) [(13,2)] (fun k=>(.join 23 aio (fun (_,a,(b,c,e,f,h,i,_),l,m,_)=>LD k a b c e f h i l m) (.loop 16 ZY (adF k) (fun g=>.nil) (.loop 3 adG (aip k) (fun g=>.nil) .nil)))) Tryz.func166 rfl
def S89 (k:Nat) (a:GN):Option OZ :=
 (bif a.1.2.2.2.2.1 then
  some ((),BR (w3 a 7),())
 else
  (aoH k a.1.2.2.1 a.2.1.2.1 a.1.2.1).bind fun q0 =>
  (bif q0.1.2.2.1==0 then
   some ((),BR ((a.1.1,a.1.2.1,q0.1.1,q0.1.2.1,a.1.2.2.2.2),a.2.1,a.2.2.1,q0.1.2.2.1,a.2.2.2.2),())
  else
   some ((),BR (w3 a q0.1.2.2.1),())))
def F89:Fn:=⟨[Zh],[],fun k x=>S89 k (qd x.1)⟩
theorem ok89:O 89 F89:=okF (ah ok166 aj) [] On Tryz.func89 rfl
def aoI (k:Nat) (a:List j3):Option (((List j3)×Unit)×Unit):=qQ 96 54 BL k (a,())
def F123:Fn:=⟨dJ 54 BL,iZ 54 BL,qQ 96 54 BL⟩
theorem ok123:O 123 F123:=Kz JN mix Tryz.func123 rfl (by kernel_rfl) (by kernel_rfl) (fun k=>by kernel_rfl) (fun k xs=>by kernel_rfl) (fun k xs=>by kernel_rfl)
def aoJ (k:Nat) (a:List (PN Int 5)):Option ((GU×Unit)×Unit):=qQ 40 168 D5 k (a,())
def F124:Fn:=⟨dJ 168 D5,iZ 168 D5,qQ 40 168 D5⟩
theorem ok124:O 124 F124:=Kz JN mix Tryz.func124 rfl (by kernel_rfl) (by kernel_rfl) (fun k=>by kernel_rfl) (fun k xs=>by kernel_rfl) (fun k xs=>by kernel_rfl)
def aoK (k:Nat) (a:List BM):Option (((List BM)×Unit)×Unit):=qQ 272 59 uy k (a,())
def F125:Fn:=⟨dJ 59 uy,iZ 59 uy,qQ 272 59 uy⟩
theorem ok125:O 125 F125:=Kz JN mix Tryz.func125 rfl (by kernel_rfl) (by kernel_rfl) (fun k=>by kernel_rfl) (fun k xs=>by kernel_rfl) (fun k xs=>by kernel_rfl)
def ab0 (k:Nat) (a:List (Int×Int×Int)):Option (((List (Int×Int×Int))×Unit)×Unit):=qQ 24 293 (.pair (.int .i64) oq) k (a,())
def F217:Fn:=⟨dJ 293 (.pair (.int .i64) oq),iZ 293 (.pair (.int .i64) oq),qQ 24 293 (.pair (.int .i64) oq)⟩
theorem ok217:O 217 F217:=Kz JN mix Tryz.func217 rfl (by kernel_rfl) (by kernel_rfl) (fun k=>by kernel_rfl) (fun k xs=>by kernel_rfl) (fun k xs=>by kernel_rfl)
def GV (k:Nat) (a:List Int):Option ug:=qQ 8 3 (.int .i64) k (a,())
def F219:Fn:=⟨dJ 3 (.int .i64),iZ 3 (.int .i64),qQ 8 3 (.int .i64)⟩
theorem ok219:O 219 F219:=Kz JN mix Tryz.func219 rfl (by kernel_rfl) (by kernel_rfl) (fun k=>by kernel_rfl) (fun k xs=>by kernel_rfl) (fun k xs=>by kernel_rfl)
def aiq (k:Nat) (a b:Int):Option ko :=
 some ((a==b,()),())
def F220:Fn:=⟨[au,Zk],[rB],fun k x=>aiq k x.1 x.2.1⟩
theorem ok220:O 220 F220:=okF aj [] On Tryz.func220 rfl
abbrev aad:Cut:=⟨[0,1,7,8],[.cell uo,.lJ 220 [.ref (.int .i64)],cI,cI],[],19,[]⟩
def QM (k:Nat) (g2:(List Int) -> Int -> Int -> Int -> Option jo) (a:List Int) (b c e:Int):Option jo :=
 (bif decide (e<c) then
  ix a e <|
  (aiq k (rd a e 0) b).bind fun q0 =>
  (bif q0.1.1 then
   some ((e,()),())
  else
   g2 a b c (IntKind.i64.wrap (e+1)))
 else
  some (((-1),()),()))
def adH (k:Nat):Xx (((Unit)×(List Int)×Zb×Int×Int×Unit) -> Option jo):=eu (dw (dh (d9 (dh dx) (dh (dh dx))))) (QM k)
def IJ (k a:Nat) (b:List Int) (c e f:Int):Option jo:=iter aad (adH k) a ((),b,(c,()),e,f,())
theorem Vy (k a b c e f):IJ k (a+1) b c e f=QM k (IJ k a) b c e f:=Ba _ _ _ _
def adI (k:Nat) (a:List Int) (b:Int):Option jo :=
 IJ k k a b (a.length:Int) 0
def F272c:Fn:=⟨[WV,.pv (.lJ 220 [.ref (.int .i64)])],[rI],fun k x=>adI k x.1 x.2.1.1⟩
theorem ok272c:O 272 F272c:=okF (ah ok220 aj) [] (fun k=>(.loop 2 aad (adH k) (fun g=>.nil) .nil)) Tryz.func272 rfl
abbrev adJ:Cut:=⟨[0,1,5,6],[.pin true 0,.lJ 220 [.ref (.int .i64)],cI,cI],[.fT 3 (.int .i64)],42,[]⟩
def Xu (k:Nat) (g5:(List Int) -> Int -> Int -> Int -> Option ug) (a:List Int) (b c e:Int):Option ug :=
 (bif decide (e<(a.length:Int)) then
  ix a e <|
  (aiq k (rd a e 0) b).bind fun q1 =>
  (bif !q1.1.1 then
   ix a c <|
   g5 (upd a c (rd a e 0)) b (IntKind.i64.wrap (c+1)) (IntKind.i64.wrap (e+1))
  else
   g5 a b c (IntKind.i64.wrap (e+1)))
 else
  sx a c (a.length:Int) <|
  sx (Uy a c (a.length:Int) 0) 0 c <|
  some (((Uy a c (a.length:Int) 0).take c.toNat,()),()))
def air (k:Nat):Xx ((((List Int)×Unit)×Unit×Zb×Int×Int×Unit) -> Option ug):=eu (d9 (dh dx) (dw (d9 (dh dx) (dh (dh dx))))) (Xu k)
def Xv (k a:Nat) (b:List Int) (c e f:Int):Option ug:=iter adJ (air k) a ((b,()),(),(c,()),e,f,())
theorem aae (k a b c e f):Xv k (a+1) b c e f=Xu k (Xv k a) b c e f:=Ba _ _ _ _
def alk (k:Nat) (a:List Int) (b:Int):Option ug :=
 (adI k a b).bind fun q0 =>
 (bif q0.1.1==(-1) then
  some ((a,()),())
 else
  Xv k k a b q0.1.1 (IntKind.i64.wrap (q0.1.1+1)))
def F218:Fn:=⟨[.give 3 (.int .i64),.pv (.lJ 220 [.ref (.int .i64)])],[ahE],fun k x=>alk k x.1 x.2.1.1⟩
theorem ok218:O 218 F218:=okF (ah ok220 <| ah ok272c aj) [(41,1)] (fun k=>(.loop 5 adJ (air k) (fun g=>.nil) .nil)) Tryz.func218 rfl
def agC (k:Nat) (a:acU) (b:Int):Option ((BM×Unit)×Unit) :=
 (ab0 k a.2.2.2.2.1.2.2.1).bind fun q0 =>
 (ab0 k a.2.2.2.2.2.1.2.2.1).bind fun q1 =>
 (GV k a.2.2.2.2.2.2.1).bind fun q2 =>
 (alk k q2.1.1 b).bind fun q3 =>
 some (((w6 (w5 (w4 a (a.2.2.2.2.1.1,a.2.2.2.2.1.2.1,q0.1.1,a.2.2.2.2.1.2.2.2)) (a.2.2.2.2.2.1.1,a.2.2.2.2.2.1.2.1,q1.1.1,a.2.2.2.2.2.1.2.2.2)) q3.1.1),()),())
def F127:Fn:=⟨[.val ⟨true,uy,false⟩,au],[.val ⟨true,uy,true⟩],fun k x=>agC k x.1 x.2.1⟩
theorem ok127:O 127 F127:=okF (ah ok217 <| ah ok218 <| ah ok219 aj) [] On Tryz.func127 rfl
def V7 (k:Nat) (a:List Bool):Option (((List Bool)×Unit)×Unit):=qQ 1 4 .bool k (a,())
def F263:Fn:=⟨dJ 4 .bool,iZ 4 .bool,qQ 1 4 .bool⟩
theorem ok263:O 263 F263:=Kz JN mix Tryz.func263 rfl (by kernel_rfl) (by kernel_rfl) (fun k=>by kernel_rfl) (fun k xs=>by kernel_rfl) (fun k xs=>by kernel_rfl)
def aaf (k:Nat) (a:List Int):Option ug:=qQ 8 2 (.int .i64) k (a,())
def F287:Fn:=⟨dJ 2 (.int .i64),iZ 2 (.int .i64),qQ 8 2 (.int .i64)⟩
theorem ok287:O 287 F287:=Kz JN mix Tryz.func287 rfl (by kernel_rfl) (by kernel_rfl) (fun k=>by kernel_rfl) (fun k xs=>by kernel_rfl) (fun k xs=>by kernel_rfl)
def aag (k:Nat) (a:oz):Option AP:=qQ 16 266 D6 k (a,())
def F256:Fn:=⟨dJ 266 D6,iZ 266 D6,qQ 16 266 D6⟩
theorem ok256:O 256 F256:=Kz JN mix Tryz.func256 rfl (by kernel_rfl) (by kernel_rfl) (fun k=>by kernel_rfl) (fun k xs=>by kernel_rfl) (fun k xs=>by kernel_rfl)
def ais (k:Nat) (x:Z0):Option ((su×Unit)×Unit) :=
 (aaf k x.2.2.2.1.1).bind fun q0 =>
 (GV k x.2.2.2.1.2).bind fun q1 =>
 (aag k x.2.2.2.2.1.2).bind fun q2 =>
 some (((w4 (w3 x (q0.1.1,q1.1.1)) (x.2.2.2.2.1.1,q2.1.1)),()),())
def F222:Fn:=⟨[acZ],[.val ⟨true,JF,true⟩],fun k x=>ais k x.1⟩
theorem ok222:O 222 F222:=okF (ah ok219 <| ah ok256 <| ah ok287 aj) [] On Tryz.func222 rfl
abbrev adK:Cut:=⟨[2,3,17,18,19],[.box 38 [.nil,.nil,.nil],.box 38 [.own 3 (.int .i64),.own 4 .bool,.own 142 JF],.cell P7,cI,cI],[],32,[]⟩
def Xw (k:Nat) (g3:(List Int) -> (List Bool) -> (List su) -> (List su) -> Int -> Int -> Option RJ) (a:List Int) (b:List Bool) (c e:List su) (f h:Int):Option RJ :=
 (bif decide (h<f) then
  ix e h <|
  (ais k (rd e h bf)).bind fun q2 =>
  ap c ([q2.1.1]:List su) 128 fun r3 =>
  g3 a b r3 e f (IntKind.i64.wrap (h+1))
 else
  some ((((a,b),c),()),()))
def ait (k:Nat):Xx (((Unit)×(Unit×Unit×Unit×Unit)×anI×(List su)×Int×Int×Unit) -> Option RJ):=eu (dw (d9 (dw (dw (dw dx))) (d9 (dh (dh (dh dx))) (dh (dh (dh dx)))))) (Xw k)
def NA (k a:Nat) (b:List Int) (c:List Bool) (e f:List su) (h i:Int):Option RJ:=iter adK (ait k) a ((),((),(),(),()),(b,c,e,()),f,h,i,())
theorem aah (k a b c e f h i):NA k (a+1) b c e f h i=Xw k (NA k a) b c e f h i:=Ba _ _ _ _
def V8 (k:Nat) (a:FX×List su):Option RJ :=
 (GV k a.1.1).bind fun q0 =>
 (V7 k a.1.2).bind fun q1 =>
 NA k k q0.1.1 q1.1.1 ([]:List su) a.2 (a.2.length:Int) 0
def F185:Fn:=⟨[Vl],[acX],fun k x=>V8 k x.1⟩
theorem ok185:O 185 F185:=okF (ah ok219 <| ah ok222 <| ah ok263 aj) [(15,2)] (fun k=>(.loop 3 adK (ait k) (fun g=>.nil) .nil)) Tryz.func185 rfl
def ab1 (k:Nat) (a:FX×List su) (b:Int):Option ko :=
 (bif decide (b≥0) then
  (bif decide (b<(a.2.length:Int)) then
   ix a.2 b <|
   some (((rd a.2 b bf).1 != 0,()),())
  else
   some ((false,()),()))
 else
  some ((false,()),()))
def F186:Fn:=⟨[Vl,au],[rB],fun k x=>ab1 k x.1 x.2.1⟩
theorem ok186:O 186 F186:=okF aj [] On Tryz.func186 rfl
abbrev adL:Cut:=⟨[3,6,7,8,9,10],[.cell (.int .u32),.cell (.int .u64),cI,.cell JM,cI,cI],[],34,[]⟩
def Xy (k:Nat) (g3:Vj) (g6:Int -> Int -> Int -> (List Int) -> Int -> Int -> Option jo) (a b c:Int) (e:List Int) (f h:Int):Option jo :=
 (bif decide (c<8) then
  g6 (Un .u32 (Uz .u32 (Uk .u32 a 5) (Ul .u32 a 27)) (IntKind.u32.wrap (IntKind.u8.wrap b))) (Ul .u64 b 8) (IntKind.i64.wrap (c+1)) e f h
 else
  g3 a e f (IntKind.i64.wrap (h+1)))
def aiu (k:Nat) (g3:Vj):Xx (((Unit)×Int×Int×Int×(List Int)×Int×Int×Unit) -> Option jo):=eu (dw (dh (dh (dh (dh (dh (dh dx))))))) (Xy k g3)
def Xz (k:Nat) (g3:Vj) (a:Nat) (b c e:Int) (f:List Int) (h i:Int):Option jo:=iter adL (aiu k g3) a ((),b,c,e,f,h,i,())
theorem aai (k g3 a b c e f h i):Xz k g3 (a+1) b c e f h i=Xy k g3 (Xz k g3 a) b c e f h i:=Ba _ _ _ _
abbrev adM:Cut:=⟨[3,8,9,10],[.cell (.int .u32),.cell JM,cI,cI],[],34,[]⟩
def XA (k:Nat) (g3:Vj) (a:Int) (b:List Int) (c e:Int):Option jo :=
 (bif decide (e<c) then
  ix b e <|
  Xz k g3 k a (IntKind.u64.wrap (rd b e 0)) 0 b c e
 else
  some ((a,()),()))
def aiv (k:Nat):Xx (((Unit)×Int×(List Int)×Int×Int×Unit) -> Option jo):=eu (dw (dh (dh (dh (dh dx))))) (XA k)
def NC (k a:Nat) (b:Int) (c:List Int) (e f:Int):Option jo:=iter adM (aiv k) a ((),b,c,e,f,())
theorem aaj (k a b c e f):NC k (a+1) b c e f=XA k (NC k a) b c e f:=Ba _ _ _ _
def XB (k:Nat) (a:List Int):Option jo :=
 NC k k 2166136261 a (a.length:Int) 0
def F288:Fn:=⟨[.val ⟨false,JM,false⟩],[.val ⟨false,(.int .u32),true⟩],fun k x=>XB k x.1⟩
theorem ok288:O 288 F288:=okF aj [] (fun k=>(.loop 3 adM (aiv k) (fun g=>(fun (g3:Vj)=>(.loop 6 adL (aiu k g3) (fun g=>.nil) .nil)) (fun h t8 t9 t10=>g ((),h,t8,t9,t10,()))) .nil)) Tryz.func288 rfl
abbrev aak:Cut:=⟨[3,61,62,63],[.own 2 (.int .i64),.cell (.sl 266 D6),cI,cI],[],78,[]⟩
def QN (k:Nat) (g11:(List Int) -> kg -> Int -> Int -> Option jo) (a:List Int) (b:oz) (c e:Int):Option jo :=
 (bif decide (e<c) then
  ix b e <|
  ap a ([(rd b e (0,0)).1,IntKind.i64.wrap (rd b e (0,0)).2]:List Int) 8 fun r4 =>
  g11 r4 b c (IntKind.i64.wrap (e+1))
 else
  (XB k a).bind fun q5 =>
  some ((q5.1.1,()),()))
def adN (k:Nat):Xx (((Unit)×(List Int)×kg×Int×Int×Unit) -> Option jo):=eu (dw (dh (dh (dh (dh dx))))) (QN k)
def QO (k a:Nat) (b:List Int) (c:oz) (e f:Int):Option jo:=iter aak (adN k) a ((),b,c,e,f,())
theorem Vz (k a b c e f):QO k (a+1) b c e f=QN k (QO k a) b c e f:=Ba _ _ _ _
abbrev adO:Cut:=⟨[1,3,41,42,43],[.box 142 [cI,cI,cI,cI,cI,.cell JM,.cell uo,.cell (.int .u32),.cell (.sl 266 D6),.cell (.int .u32)],.own 2 (.int .i64),.cell uo,cI,cI],[],78,[]⟩
def XC (k:Nat) (g5:Int -> Int -> Int -> Int -> Int -> (List Int) -> (List Int) -> Int -> kg -> Int -> (List Int) -> (List Int) -> Int -> Int -> Option jo) (a b c e f:Int) (h i:List Int) (l:Int) (m:oz) (n:Int) (o p:List Int) (s t:Int):Option jo :=
 (bif decide (t<s) then
  ix p t <|
  ap o ([rd p t 0]:List Int) 8 fun r2 =>
  g5 a b c e f h i l m n r2 p s (IntKind.i64.wrap (t+1))
 else
  ap o ([IntKind.i64.wrap l]:List Int) 8 fun r3 =>
  QO k k r3 m (m.length:Int) 0)
def aiw (k:Nat):Xx (((Unit)×(Int×Int×Int×Int×Int×(List Int)×(List Int)×Int×kg×Int×Unit)×(List Int)×(List Int)×Int×Int×Unit) -> Option jo):=eu (dw (d9 (dh (dh (dh (dh (dh (dh (dh (dh (dh (dh dx)))))))))) (dh (dh (dh (dh dx)))))) (XC k)
def XD (k a:Nat) (b c e f h:Int) (i l:List Int) (m:Int) (n:oz) (o:Int) (p s:List Int) (t u:Int):Option jo:=iter adO (aiw k) a ((),(b,c,e,f,h,i,l,m,n,o,()),p,s,t,u,())
theorem aal (k a b c e f h i l m n o p s t u):XD k (a+1) b c e f h i l m n o p s t u=XC k (XD k a) b c e f h i l m n o p s t u:=Ba _ _ _ _
def ab2 (k:Nat) (x:Z0):Option jo :=
 ap ([x.1,x.2.1.1,x.2.1.2,x.2.2.1.1,x.2.2.1.2,(x.2.2.2.1.1.length:Int)]:List Int) x.2.2.2.1.1 8 fun r0 =>
 ap r0 ([(x.2.2.2.1.2.length:Int)]:List Int) 8 fun r1 =>
 XD k k x.1 x.2.1.1 x.2.1.2 x.2.2.1.1 x.2.2.1.2 x.2.2.2.1.1 x.2.2.2.1.2 x.2.2.2.2.1.1 x.2.2.2.2.1.2 x.2.2.2.2.2 r1 x.2.2.2.1.2 (x.2.2.2.1.2.length:Int) 0
def F223:Fn:=⟨[acZ],[.val ⟨false,(.int .u32),true⟩],fun k x=>ab2 k x.1⟩
theorem ok223:O 223 F223:=okF (ah ok288 aj) [] (fun k=>(.loop 11 aak (adN k) (fun g=>.nil) (.loop 5 adO (aiw k) (fun g=>.nil) .nil))) Tryz.func223 rfl
def ab3 (k:Nat) (x:Z0):Option ((su×Unit)×Unit) :=
 (ab2 k x).bind fun q0 =>
 some (((z5 x q0.1.1),()),())
def F221:Fn:=⟨[acZ],[.val ⟨true,JF,false⟩],fun k x=>ab3 k x.1⟩
theorem ok221:O 221 F221:=okF (ah ok223 aj) [] On Tryz.func221 rfl
def JG (k:Nat) (a:FX×List su) (b:Int) (x:Z0):Option RJ :=
 (V8 k a).bind fun q0 =>
 (ab1 k a b).bind fun q1 =>
 (bif !q1.1.1 then
  some ((q0.1.1,()),())
 else
  ix a.2 b <|
  (ais k ((rd a.2 b bf).1,(rd a.2 b bf).2.1,x.2.2)).bind fun q2 =>
  (ab3 k q2.1.1).bind fun q3 =>
  (ab2 k (rd a.2 b bf)).bind fun q4 =>
  (bif (rd a.2 b bf).2.2.2.2.2 != q4.1.1 then
   ix q0.1.1.2 b <|
   some (((q0.1.1.1,upd q0.1.1.2 b (z5 q3.1.1 (Uo .u32 q3.1.1.2.2.2.2.2))),()),())
  else
   ix q0.1.1.2 b <|
   some (((q0.1.1.1,upd q0.1.1.2 b q3.1.1),()),())))
def F128:Fn:=⟨[Vl,au,acZ],[acX],fun k (a,b,c,_)=>JG k a b c⟩
theorem ok128:O 128 F128:=okF (ah ok185 <| ah ok186 <| ah ok221 <| ah ok222 <| ah ok223 aj) [] On Tryz.func128 rfl
def agD (k:Nat) (a:RL):Option ((FX×Unit)×Unit) :=
 (GV k a.1).bind fun q0 =>
 (V7 k a.2).bind fun q1 =>
 some (((q0.1.1,q1.1.1),()),())
def F224:Fn:=⟨[RN],[Vm],fun k x=>agD k x.1⟩
theorem ok224:O 224 F224:=okF (ah ok219 <| ah ok263 aj) [] On Tryz.func224 rfl
def ab4 (k:Nat) (a:RL) (b:Int):Option ((FX×Unit)×Unit) :=
 (agD k a).bind fun q0 =>
 (bif decide (b≥0) then
  (bif decide (b<(q0.1.1.1.length:Int)) then
   ix q0.1.1.1 b <|
   some (((upd q0.1.1.1 b 0,q0.1.1.2),()),())
  else
   some ((q0.1.1,()),()))
 else
  some ((q0.1.1,()),()))
def F129:Fn:=⟨[RN,au],[Vm],fun k x=>ab4 k x.1 x.2.1⟩
theorem ok129:O 129 F129:=okF (ah ok224 aj) [] On Tryz.func129 rfl
abbrev aix:Cut:=⟨[1,2,54,55],[.box 42 [cI,cI,.own 54 BL,.own 168 D5,.cell .bool,.cell .bool,.cell .bool,.own 59 uy,.cell uo,.cell DX,.cell P7,.cell uo,.cell DX],.box 42 [cI,cI,.nil,.nil,.cell .bool,.cell .bool,.cell .bool,.nil,.nil,.nil,.nil,.nil,.nil],cI,cI],[],77,[(53,3)]⟩
def adP (k:Nat) (g8:GL -> Int -> Int -> Bool -> Bool -> Bool -> Int -> Int -> Option FY) (a:C9) (b c:Int) (e f h:Bool) (i l:Int):Option FY :=
 (bif decide (l<i) then
  ix a.2.2.2.2.2.2.2.1 l <|
  (agC k (rd a.2.2.2.2.2.2.2.1 l ay) (-1)).bind fun q7 =>
  ix a.2.2.2.2.2.2.2.1 l <|
  g8 (w7 a (upd a.2.2.2.2.2.2.2.1 l q7.1.1)) b c e f h i (IntKind.i64.wrap (l+1))
 else
  (JG k a.2.2.2.2.2.2.2.2.1 (-1) bf).bind fun q8 =>
  (ab4 k a.2.2.2.2.2.2.2.2.2 (-1)).bind fun q9 =>
  some (((w8 (z9 a q9.1.1) q8.1.1),()),()))
def anL (k:Nat) (g:((Unit)×zu×OW×Int×Int×Unit) -> Option FY) (d:(Unit)×zu×OW×Int×Int×Unit):Option FY:=adP k (fun a b c e f h i l=>g ((),MR a,(b,c,(),(),e,f,h,(),(),(),(),(),(),()),i,l,())) (Zl d.2.1) d.2.2.1.1 d.2.2.1.2.1 d.2.2.1.2.2.2.2.1 d.2.2.1.2.2.2.2.2.1 d.2.2.1.2.2.2.2.2.2.1 d.2.2.2.1 d.2.2.2.2.1
def adQ (k a:Nat) (b:C9) (c e:Int) (f h i:Bool) (l m:Int):Option FY:=iter aix (anL k) a ((),MR b,(c,e,(),(),f,h,i,(),(),(),(),(),(),()),l,m,())
theorem adR (k a b c e f h i l m):adQ k (a+1) b c e f h i l m=adP k (adQ k a) b c e f h i l m:=Ba _ _ _ _
abbrev aiy:Cut:=⟨[1,2,21,22],[.box 42 [cI,cI,.own 54 BL,.own 168 D5,.cell .bool,.cell .bool,.cell .bool,.own 59 uy,.cell uo,.cell DX,.cell P7,.cell uo,.cell DX],.box 42 [cI,cI,.nil,.nil,.cell .bool,.cell .bool,.cell .bool,.nil,.nil,.nil,.nil,.nil,.nil],cI,cI],[],77,[(20,1)]⟩
def adS (k:Nat) (g3:GL -> Int -> Int -> Bool -> Bool -> Bool -> Int -> Int -> Option FY) (a:C9) (b c:Int) (e f h:Bool) (i l:Int):Option FY :=
 (bif decide (l<i) then
  ix a.2.2.1 l <|
  (RX k (rd a.2.2.1 l bg).2.2.2.1).bind fun q3 =>
  (RX k (rd a.2.2.1 l bg).2.2.2.2.1).bind fun q4 =>
  (RX k (rd a.2.2.1 l bg).2.2.2.2.2).bind fun q5 =>
  ix a.2.2.1 l <|
  ix (upd a.2.2.1 l (w3 (rd a.2.2.1 l bg) q3.1.1)) l <|
  let r6:List j3:=upd (upd a.2.2.1 l (w3 (rd a.2.2.1 l bg) q3.1.1)) l (w4 (rd (upd a.2.2.1 l (w3 (rd a.2.2.1 l bg) q3.1.1)) l bg) q4.1.1)
  ix r6 l <|
  g3 (a.1,a.2.1,upd r6 l (z5 (rd r6 l bg) q5.1.1),a.2.2.2) b c e f h i (IntKind.i64.wrap (l+1))
 else
  adQ k k a b c e f h (a.2.2.2.2.2.2.2.1.length:Int) 0)
def anM (k:Nat) (g:((Unit)×zu×OW×Int×Int×Unit) -> Option FY) (d:(Unit)×zu×OW×Int×Int×Unit):Option FY:=adS k (fun a b c e f h i l=>g ((),MR a,(b,c,(),(),e,f,h,(),(),(),(),(),(),()),i,l,())) (Zl d.2.1) d.2.2.1.1 d.2.2.1.2.1 d.2.2.1.2.2.2.2.1 d.2.2.1.2.2.2.2.2.1 d.2.2.1.2.2.2.2.2.2.1 d.2.2.2.1 d.2.2.2.2.1
def adT (k a:Nat) (b:C9) (c e:Int) (f h i:Bool) (l m:Int):Option FY:=iter aiy (anM k) a ((),MR b,(c,e,(),(),f,h,i,(),(),(),(),(),(),()),l,m,())
theorem adU (k a b c e f h i l m):adT k (a+1) b c e f h i l m=adS k (adT k a) b c e f h i l m:=Ba _ _ _ _
def S56 (k:Nat) (a:C9):Option FY :=
 (aoI k a.2.2.1).bind fun q0 =>
 (aoJ k a.2.2.2.1).bind fun q1 =>
 (aoK k a.2.2.2.2.2.2.2.1).bind fun q2 =>
 adT k k (w7 (w3 (w2 a q0.1.1) q1.1.1) q2.1.1) 0 0 false false false (q0.1.1.length:Int) 0
def F56:Fn:=⟨[Zj],[acY],fun k x=>S56 k x.1⟩
theorem ok56:O 56 F56:=okF (ah ok123 <| ah ok124 <| ah ok125 <| ah ok126 <| ah ok127 <| ah ok128 <| ah ok129 aj) [] (fun k=>(.loop 8 aix (anL k) (fun g=>.nil) (.loop 3 aiy (anM k) (fun g=>.nil) .nil))) Tryz.func56 rfl
def aiz (k:Nat) (a:acU) (b:Int):Option jo :=
 some ((IntKind.i64.wrap (a.1 - b),()),())
def F142:Fn:=⟨[.val ⟨true,uy,false⟩,au],[rI],fun k x=>aiz k x.1 x.2.1⟩
theorem ok142:O 142 F142:=okF aj [] On Tryz.func142 rfl
abbrev adV:Cut:=⟨[0,1,2,8,9,10],[.cell (.sl 59 uy),cI,.lJ 142 [],cI,cI,cI],[],49,[]⟩
def ab5 (k:Nat) (g3:(List BM) -> Int -> Int -> Int -> Int -> Option DW) (a:List BM) (b c e f:Int):Option DW :=
 (bif decide (e<f) then
  ix a (IntKind.i64.wrap (Ul .u64 (IntKind.u64.wrap (IntKind.i64.wrap (e+f))) 1)) <|
  (aiz k (rd a (IntKind.i64.wrap (Ul .u64 (IntKind.u64.wrap (IntKind.i64.wrap (e+f))) 1)) ay) b).bind fun q0 =>
  (bif decide (q0.1.1<0) then
   g3 a b c (IntKind.i64.wrap ((IntKind.i64.wrap (Ul .u64 (IntKind.u64.wrap (IntKind.i64.wrap (e+f))) 1))+1)) f
  else
   g3 a b c e (IntKind.i64.wrap (Ul .u64 (IntKind.u64.wrap (IntKind.i64.wrap (e+f))) 1)))
 else
  (bif decide (e<c) then
   ix a e <|
   (aiz k (rd a e ay) b).bind fun q1 =>
   some ((e,q1.1.1==0,()),())
  else
   some ((e,false,()),())))
def aiA (k:Nat):Xx (((Unit)×(List BM)×Int×Unit×Int×Int×Int×Unit) -> Option DW):=eu (dw (dh (dh (dw (dh (dh (dh dx))))))) (ab5 k)
def SF (k a:Nat) (b:List BM) (c e f h:Int):Option DW:=iter adV (aiA k) a ((),b,c,(),e,f,h,())
theorem aiB (k a b c e f h):SF k (a+1) b c e f h=ab5 k (SF k a) b c e f h:=Ba _ _ _ _
def aoL (k:Nat) (x:List BM) (a:Int):Option DW :=
 SF k k x a (x.length:Int) 0 (x.length:Int)
def F141:Fn:=⟨[.val ⟨false,(.sl 59 uy),false⟩,au,.pv (.lJ 142 [])],[rI,rB],fun k x=>aoL k x.1 x.2.1⟩
theorem ok141:O 141 F141:=okF (ah ok142 aj) [] (fun k=>(.loop 3 adV (aiA k) (fun g=>.nil) .nil)) Tryz.func141 rfl
def S71 (k:Nat) (a:C9) (b:Int):Option DW :=
 (aoL k a.2.2.2.2.2.2.2.1 b).bind fun q0 =>
 some (q0.1,())
def F71:Fn:=⟨[.pv (.ref acT),au],[rI,rB],fun k x=>S71 k x.1 x.2.1⟩
theorem ok71:O 71 F71:=okF (ah ok141 aj) [] On Tryz.func71 rfl
section
variable (w:World) {g n c i j:Nat}
theorem SG:Tryz.prog.underlying 31=some (.slice 59) /\ Tryz.prog.underlying 3=some (.int .i64) /\ Tryz.prog.underlying 4=some .bool /\ Tryz.prog.follows .mixedOrders=true /\ (∀ w,(Go.sizeOf 59).run Tryz.prog w=.ok 28 w) /\ Tryz.f72.ntmps=33:=⟨by kernel_rfl,by kernel_rfl,by kernel_rfl,by kernel_rfl,fun w=>by kernel_rfl,rfl⟩
theorem aam {v:Value} (hv:(∃ A n c,v=.slice A n c /\ i <= n /\ n <= c /\ c <= 9223372036854775807)):Calls Tryz.prog 72 #[v,.int .i64 i,.int .i64 i] w fun e w'=>e=.returned v /\ w'=w:=by
 obtain ⟨t24,t3,t4,mixed,z36,hnt⟩:=SG
 have u24:=run_underlying t24;have u3:=run_underlying t3;have u4:=run_underlying t4
 obtain ⟨A,n,c,rfl,hi,hnc,hc63⟩:=hv
 have hi0:(i:Int) <= (n:Int):=by omega
 have hi1:(0:Int) <= (i:Int):=by omega
 cases A <;> (go_enter Tryz.func72,hnt;go_wp2 <;> (go_ret;exact ⟨rfl,rfl⟩))
theorem aan {w' w'':World} (hlt:i<j) (hj:j <= n) (hnc:n <= c) (hc63:c <= 9223372036854775807)
  (hap:∀ ty A,(c≠j -> A=(⟨g,j * 28,none⟩:Addr)) -> (Builtin.append_ #[31,31] ty #[.slice (some ⟨g,0,none⟩) i c,.slice (some A) (n - j) (c - j)]).run Tryz.prog w.drew=.ok (.slice (some ⟨g,0,none⟩) (i+(n - j)) c) w')
  (hcl:∀ ty dc,(Builtin.clear_ #[31] ty #[.slice (some ⟨g,(i+(n - j)) * 28,none⟩) (n - (i+(n - j))) dc]).run Tryz.prog w'=.ok (.tuple #[]) w'') :
  Calls Tryz.prog 72 #[.slice (some ⟨g,0,none⟩) n c,.int .i64 i,.int .i64 j] w fun e w1=>e=.returned (.slice (some ⟨g,0,none⟩) (i+(n - j)) c) /\ w1=w'':=by
 obtain ⟨t24,t3,t4,mixed,z36,hnt⟩:=SG
 have u24:=run_underlying t24;have u3:=run_underlying t3;have u4:=run_underlying t4
 have hi0:(i:Int) <= (n:Int):=by omega
 have hj0:(j:Int) <= (n:Int):=by omega
 have hij:(i:Int) <= (j:Int):=by omega
 have hne:¬ ((i:Int)=(j:Int)):=by omega
 have hic:i <= c:=by omega
 have hjc:j <= c:=by omega
 have hln:i+(n - j) <= n:=by omega
 have hlc:i+(n - j) <= c:=by omega
 have hci:¬ (c=i+(n - j)):=by omega
 obtain ⟨A,hA,hA'⟩:∃ A:Addr,(if c=j then some (⟨g,0,none⟩:Addr) else some ⟨g,j * 28,none⟩)=some A /\ (c≠j -> A=(⟨g,j * 28,none⟩:Addr)):=by
  by_cases h:c=j
  · exact ⟨_,if_pos h,fun q=>absurd h q⟩
  · exact ⟨_,if_neg h,fun _=>rfl⟩
 try simp only [Nat.mul_one] at hA hcl
 go_enter Tryz.func72,hnt
 go_wp2_with fail
 go_region_law_o (refine Gz rfl rfl _ _ (by simp [Act.eval,Act.put]) (by simp [Act.eval,Act.put,hA]) (hap _ _ hA') ?_)
 go_wp2_with (at_builtin;refine Ji rfl rfl _ rfl (hcl _ _) ?_)
 go_ret
 exact ⟨rfl,rfl⟩
end
abbrev P72:List PT:=iG 59 uy
abbrev R72:List RT:=qV 59 uy
def S72 (k:Nat) (a:List BM) (i j:Int):Option (((List BM)×Unit)×Unit):=Jk 59 uy k (a,i,j,())
def F72:Fn:=⟨P72,R72,Jk 59 uy⟩
def E72:Env:=tab.env (fun _=>none) (fun _=>0)
theorem aoN:aH Tryz.prog E72:=Kw Rt _ _ (fun f F h=>by cases h)
theorem ok72:O 72 F72:=by
 obtain ⟨i0,z,a1,a2,a3,a4,a5⟩:=(aoN.ty 59 (uy) (by kernel_rfl)).info
 have b2:Ty.sz (uy)=28:=rfl
 have hz:z.cells.size=28:=by rw [<- Array.length_toList,a5,gZ,b2]
 obtain ⟨t24,t3,t4,mixed,z36,hnt⟩:=SG
 refine Qu Tryz.func72 rfl (by kernel_rfl) ?_
 rw [b2]
 exact Mr (S:=31) (z:=z) t24 a1 a4 (by rw [a2,b2]) hz (fun v hv=>tT (uy) v (by rw [<- a5];exact hv)) (by decide) (fun w i v h=>aam w h) (fun w g n c i j w' w'' h1 h2 h3 h4 h5 h6=>aan w h1 h2 h3 h4 h5 h6)
def V9 (k:Nat) (a:Int):Option ((YZ×Unit)×Unit) :=
 some (((0,(a,0,0,0,0,0,0,0),[],false),()),())
def F109:Fn:=⟨[au],[.val ⟨true,(.pair (.int .i64) (.pair (Am 8 (.int .i64)) (.pair (.sl 293 (.pair (.int .i64) oq)) .bool))),true⟩],fun k x=>V9 k x.1⟩
theorem ok109:O 109 F109:=okF aj [] On Tryz.func109 rfl
def S74 (k:Nat) (a b c:Int):Option ((BM×Unit)×Unit) :=
 (V9 k c).bind fun q0 =>
 (V9 k c).bind fun q1 =>
 some (((a,b,c,0,q0.1.1,q1.1.1,[],false),()),())
def F74:Fn:=⟨[au,au,au],[.val ⟨true,uy,true⟩],fun k (a,b,c,_)=>S74 k a b c⟩
theorem ok74:O 74 F74:=okF (ah ok109 aj) [] On Tryz.func74 rfl
section
variable (w:World) {g n c i g2 m c2:Nat}
theorem GX:Tryz.prog.underlying 31=some (.slice 59) /\ Tryz.prog.underlying 3=some (.int .i64) /\ Tryz.prog.underlying 4=some .bool /\ Tryz.prog.follows .mixedOrders=true /\ (∀ w,(Go.sizeOf 59).run Tryz.prog w=.ok 28 w) /\ Tryz.f73.ntmps=95:=⟨by kernel_rfl,by kernel_rfl,by kernel_rfl,by kernel_rfl,fun w=>by kernel_rfl,rfl⟩
theorem aao {v u:Value} (hv:(∃ A n c,v=.slice A n c /\ i <= n)) (hu:∃ A c,u=.slice A m c) (hm:m=0):Calls Tryz.prog 73 #[v,.int .i64 i,u] w fun e w'=>e=.returned v /\ w'=w:=by
 obtain ⟨t24,t3,t4,mixed,z36,hnt⟩:=GX
 have u24:=run_underlying t24;have u3:=run_underlying t3;have u4:=run_underlying t4
 obtain ⟨A,n,c,rfl,hi⟩:=hv
 obtain ⟨A2,c2,rfl⟩:=hu
 have hi0:(i:Int) <= (n:Int):=by omega
 have hz1:(m:Int)=0:=by omega
 cases A <;> (go_enter Tryz.func73,hnt;go_wp2 <;> (go_ret;exact ⟨rfl,rfl⟩))
theorem ab6 {v:Value} {w':World} {v':Value} (hv:(∃ A c,v=.slice A n c)) (hm:0<m)
  (hr:∀ ty,(Builtin.append_ #[31,31] ty #[v,.slice (some ⟨g2,0,none⟩) m c2]).run Tryz.prog w=.ok v' w'):Calls Tryz.prog 73 #[v,.int .i64 n,.slice (some ⟨g2,0,none⟩) m c2] w fun e w1=>e=.returned v' /\ w1=w':=by
 obtain ⟨t24,t3,t4,mixed,z36,hnt⟩:=GX
 have u24:=run_underlying t24;have u3:=run_underlying t3;have u4:=run_underlying t4
 have hz1:¬ ((m:Int)=0):=by omega
 obtain ⟨A,c,rfl⟩:=hv
 go_enter Tryz.func73,hnt
 go_wp2_with (at_builtin;refine Gx rfl rfl _ _ rfl rfl (hr _) ?_)
 all_goals (go_ret;exact ⟨rfl,rfl⟩)
theorem XE {v' v'':Value} {w' w'':World} (hi:i<n) (hm:0<m) (hroom:n+m <= c) (hc63:c <= 9223372036854775807)
  (hov:∀ lb cb,(callFunc 143 #[.slice (some ⟨g2,0,none⟩) m c2,.slice (some ⟨g,(i+m) * 28,none⟩) lb cb]).run Tryz.prog w=.ok (.value (.bool false)) w)
  (hcp1:∀ ty dc sc,(Builtin.copy_ #[31,31] ty #[.slice (some ⟨g,(i+m) * 28,none⟩) (n+m - (i+m)) dc,.slice (some ⟨g,i * 28,none⟩) (n+m - i) sc]).run Tryz.prog w.drew=.ok v' w')
  (hcp2:∀ ty dc,(Builtin.copy_ #[31,31] ty #[.slice (some ⟨g,i * 28,none⟩) (n+m - i) dc,.slice (some ⟨g2,0,none⟩) m c2]).run Tryz.prog w'=.ok v'' w'') :
  Calls Tryz.prog 73 #[.slice (some ⟨g,0,none⟩) n c,.int .i64 i,.slice (some ⟨g2,0,none⟩) m c2] w fun e w1=>e=.returned (.slice (some ⟨g,0,none⟩) (n+m) c) /\ w1=w'':=by
 obtain ⟨t24,t3,t4,mixed,z36,hnt⟩:=GX
 have u24:=run_underlying t24;have u3:=run_underlying t3;have u4:=run_underlying t4
 have hz1:¬ ((m:Int)=0):=by omega
 have hz2:¬ ((i:Int)=(n:Int)):=by omega
 have hw1:IntKind.i64.wrap ((i:Int)+(m:Int))=(i:Int)+(m:Int):=by rw [IntKind.wrap_i64];omega
 have hb1:(0:Int) <= (i:Int)+(m:Int):=by omega
 have hin:i <= n:=by omega
 have htn:((i:Int)+(m:Int)).toNat=i+m:=by omega
 have hb2:¬ (c=i+m):=by omega
 have hb3:(i:Int) <= (n:Int)+(m:Int):=by omega
 have hb4:¬ (c=i):=by omega
 go_enter Tryz.func73,hnt
 go_wp2_with (simp only [hov])
 go_region_law_o (refine Jp rfl rfl _ _ (by simp [Act.eval,Act.put]) (by simp [Act.eval,Act.put]) (hcp1 _ _ _) ?_)
 go_wp2_with (at_builtin;refine Jo rfl rfl _ _ rfl rfl (hcp2 _ _) ?_)
 go_ret
 exact ⟨rfl,rfl⟩
theorem aap {h G:Nat} {v' v'':Value} {w0 w' w'':World} (hi:i<n) (hm:0<m) (hnc:n <= c) (hroom:c<n+m) (hc63:n+m <= 140737488355328) (hG:n+m <= G) (hG63:G <= 9223372036854775807)
  (hrz:∀ ty,(Builtin.append_ #[31,3] ty #[.slice (some ⟨g,0,none⟩) i c,.int .i64 ((n:Int)+(m:Int) - (i:Int))]).run Tryz.prog w=.ok (.slice (some ⟨h,0,none⟩) (n+m) G) w0)
  (hcp1:∀ ty dc,(Builtin.copy_ #[31,31] ty #[.slice (some ⟨h,i * 28,none⟩) (n+m - i) dc,.slice (some ⟨g2,0,none⟩) m c2]).run Tryz.prog w0=.ok v' w')
  (hcp2:∀ ty dc sc,(Builtin.copy_ #[31,31] ty #[.slice (some ⟨h,(i+m) * 28,none⟩) (n+m - (i+m)) dc,.slice (some ⟨g,i * 28,none⟩) (n - i) sc]).run Tryz.prog w'.drew=.ok v'' w'') :
  Calls Tryz.prog 73 #[.slice (some ⟨g,0,none⟩) n c,.int .i64 i,.slice (some ⟨g2,0,none⟩) m c2] w fun e w1=>e=.returned (.slice (some ⟨h,0,none⟩) (n+m) G) /\ w1=w'':=by
 obtain ⟨t24,t3,t4,mixed,z36,hnt⟩:=GX
 have u24:=run_underlying t24;have u3:=run_underlying t3;have u4:=run_underlying t4
 have hz1:¬ ((m:Int)=0):=by omega
 have hz2:¬ ((i:Int)=(n:Int)):=by omega
 have hz3:(c:Int)<(n:Int)+(m:Int):=by omega
 have hw1:IntKind.i64.wrap ((i:Int)+(m:Int))=(i:Int)+(m:Int):=by rw [IntKind.wrap_i64];omega
 have hb1:(0:Int) <= (i:Int)+(m:Int):=by omega
 have hin:i <= n:=by omega
 have htn:((i:Int)+(m:Int)).toNat=i+m:=by omega
 have hGi:¬ (G=i):=by omega
 have hGim:¬ (G=i+m):=by omega
 have hci:¬ (c=i):=by omega
 have hb3:(i:Int) <= (n:Int):=by omega
 go_enter Tryz.func73,hnt
 go_wp2_with (first
  | (at_builtin;refine Gx rfl rfl _ _ rfl rfl (hrz _) ?_)
  | (at_builtin;refine Jo rfl rfl _ _ rfl rfl (hcp1 _ _) ?_))
 go_region_law_o (refine Jp rfl rfl _ _ (by simp [Act.eval,Act.put]) (by simp [Act.eval,Act.put]) (hcp2 _ _ _) ?_)
 go_wp2
 go_ret
 exact ⟨rfl,rfl⟩
end
abbrev P73:List PT:=eG 59 uy
abbrev R73:List RT:=qU 59 uy
def S73 (k:Nat) (a:List BM) (b:Int) (c:List BM):Option (((List BM)×Unit)×Unit):=Jg 272 59 uy k (a,b,c,())
def F73:Fn:=⟨P73,R73,Jg 272 59 uy⟩
def E73:Env:=tab.env (fun _=>none) (fun _=>0)
theorem aoO:aH Tryz.prog E73:=Kw Rt _ _ (fun f F h=>by cases h)
theorem ok73:O 73 F73:=by
 obtain ⟨i0,z,a1,a2,a3,a4,a5⟩:=(aoO.ty 59 (uy) (by kernel_rfl)).info
 have b1:E73.lK 59=272:=by kernel_rfl
 have b2:Ty.sz (uy)=28:=rfl
 rw [b1] at a3
 have hz:z.cells.size=28:=by rw [<- Array.length_toList,a5,gZ,b2]
 obtain ⟨t24,t3,t4,mixed,z36,hnt⟩:=GX
 refine Qq Tryz.func73 rfl (by kernel_rfl) ?_
 rw [b2,<- a3]
 refine Mq (S:=31) (z:=z) t24 t3 a1 a4 (by rw [a2,b2]) hz (by decide) (by rw [a3];decide) (fun w i m v u h1 h2 h3=>aao w h1 h2 h3) (fun w n g2 m c2 v v' w' h1 h2 h3=>ab6 w h1 h2 h3) (fun w g n c i g2 m c2 v' v'' w' w'' h1 h2 h3 h4 h5 h6 hne hg hg2=>XE w h1 h2 h3 h4 (fun lb cb=>?_) h5 h6) (fun w g n c i g2 m c2 h G v' v'' w0 w' w'' h1 h2 h3 h4 h5 h6 h7 h8 h9 h10=>aap w h1 h2 h3 h4 h5 h6 h7 h8 h9 h10)
 obtain ⟨cur,q1,q2⟩:=hg
 obtain ⟨xE,q3⟩:=hg2
 rw [run_callFunc_extern Tryz.func143 (by kernel_rfl) (by kernel_rfl) (by kernel_rfl) (e:=Extern.SlicesOverlaps.overlaps #[31,31] #[4]) (by kernel_rfl),Lib.run_overlaps_apart w 31 4 59 t24 28 z36 ⟨g2,0,none⟩ ⟨g,(i+m) * 28,none⟩ m c2 lb cb hne 59 59 xE.size cur.size (by simp [World.shape?,q3]) (by simp [World.shape?,q1]) q2 (Kd.fQ q3 _) (Kd.fQ q3 _)]
 rfl
abbrev alm:Cut:=⟨[1,2,3,6,9,10],[cI,cI,.box 42 [cI,cI,.own 54 BL,.own 168 D5,.cell .bool,.cell .bool,.cell .bool,.own 59 uy,.own 3 (.int .i64),.own 4 .bool,.own 142 JF,.own 3 (.int .i64),.own 4 .bool],.box 42 [cI,cI,.nil,.nil,.cell .bool,.cell .bool,.cell .bool,.nil,.nil,.nil,.nil,.nil,.nil],.own 51 acV,cI],[],98,[]⟩
def SH (k:Nat) (a b:Int) (c:C9) (e f:Int) (h i l:Bool) (m:List (PN Int 6)) (n:Int):Option ((GL×(List (PN Int 6))×Int×Unit)×Unit) :=
 (S74 k a c.1 b).bind fun q4 =>
 (S73 k c.2.2.2.2.2.2.2.1 n ([q4.1.1]:List BM)).bind fun q5 =>
 ap m ([(c.1,1,a,0,b,0)]:List (PN Int 6)) 48 fun r6 =>
 some (((w7 c q5.1.1),r6,0,()),())
abbrev aln:Cut:=⟨[1,2,3,6],[cI,cI,.box 42 [cI,cI,.own 54 BL,.own 168 D5,.cell .bool,.cell .bool,.cell .bool,.own 59 uy,.own 3 (.int .i64),.own 4 .bool,.own 142 JF,.own 3 (.int .i64),.own 4 .bool],.box 42 [cI,cI,.nil,.nil,.cell .bool,.cell .bool,.cell .bool,.nil,.nil,.nil,.nil,.nil,.nil]],[],98,[]⟩
def XF (k:Nat) (a b:Int) (c:C9) (e f:Int) (h i l:Bool):Option ((GL×(List (PN Int 6))×Int×Unit)×Unit) :=
 (S71 k c a).bind fun q1 =>
 (bif q1.1.2.1 then
  ix c.2.2.2.2.2.2.2.1 q1.1.1 <|
  (bif (rd c.2.2.2.2.2.2.2.1 q1.1.1 ay).2.2.2.1 != 2 then
   some ((c,[],5,()),())
  else
   ap ([]:List (PN Int 6)) ([(c.1,13,a,0,0,0)]:List (PN Int 6)) 48 fun r2 =>
   (S72 k c.2.2.2.2.2.2.2.1 q1.1.1 (IntKind.i64.wrap (q1.1.1+1))).bind fun q3 =>
   SH k a b (w7 c q3.1.1) e f h i l r2 q1.1.1)
 else
  SH k a b c e f h i l ([]:List (PN Int 6)) q1.1.1)
def S30 (k:Nat) (a:C9) (b c:Int):Option ((GL×(List (PN Int 6))×Int×Unit)×Unit) :=
 (S56 k a).bind fun q0 =>
 (bif !q0.1.1.2.2.2.2.1 then
  some ((q0.1.1,[],8,()),())
 else
  (bif q0.1.1.2.2.2.2.2.1 then
   some ((q0.1.1,[],17,()),())
  else
   (bif decide (b<0) then
    some ((q0.1.1,[],3,()),())
   else
    (bif decide (b≥(q0.1.1.2.2.1.length:Int)) then
     some ((q0.1.1,[],3,()),())
    else
     (bif decide (b<(q0.1.1.2.2.2.2.2.2.2.2.2.2.length:Int)) then
      ix q0.1.1.2.2.2.2.2.2.2.2.2.2 b <|
      (bif rd q0.1.1.2.2.2.2.2.2.2.2.2.2 b false then
       some ((q0.1.1,[],6,()),())
      else
       XF k b c q0.1.1 0 0 false false false)
     else
      XF k b c q0.1.1 0 0 false false false)))))
def F30:Fn:=⟨[Zj,au,au],[acY,.val ⟨false,(.sl 51 acV),true⟩,rI],fun k (a,b,c,_)=>S30 k a b c⟩
theorem ok30:O 30 F30:=okF (ah ok56 <| ah ok71 <| ah ok72 <| ah ok73 <| ah ok74 aj) [(9,2)] (fun k=>(.join 17 alm (fun d=>SH k d.2.1 d.2.2.1 (Zl d.2.2.2.1) d.2.2.2.2.1.1 d.2.2.2.2.1.2.1 d.2.2.2.2.1.2.2.2.2.1 d.2.2.2.2.1.2.2.2.2.2.1 d.2.2.2.2.1.2.2.2.2.2.2.1 d.2.2.2.2.2.1 d.2.2.2.2.2.2.1) (.join 10 aln (fun d=>XF k d.2.1 d.2.2.1 (Zl d.2.2.2.1) d.2.2.2.2.1.1 d.2.2.2.2.1.2.1 d.2.2.2.2.1.2.2.2.2.1 d.2.2.2.2.1.2.2.2.2.2.1 d.2.2.2.2.1.2.2.2.2.2.2.1) .nil))) Tryz.func30 rfl
def S99 (k:Nat) (a:C9):Option FY :=
 (S30 k a (-1) 0).bind fun q0 =>
 some ((q0.1.1,()),())
def F99:Fn:=⟨[Zj],[acY],fun k x=>S99 k x.1⟩
theorem ok99:O 99 F99:=okF (ah ok30 aj) [] On Tryz.func99 rfl
def aiC (k:Nat) (a:RL):Option ((FX×Unit)×Unit) :=
 (GV k a.1).bind fun q0 =>
 (V7 k a.2).bind fun q1 =>
 some (((q0.1.1,q1.1.1),()),())
def F324:Fn:=⟨[RN],[Vm],fun k x=>aiC k x.1⟩
theorem ok324:O 324 F324:=okF (ah ok219 <| ah ok263 aj) [] On Tryz.func324 rfl
def aiD (k:Nat) (a:RL):Option jo :=
 some ((mn (a.1.length:Int) (a.2.length:Int),()),())
def F326:Fn:=⟨[RN],[rI],fun k x=>aiD k x.1⟩
theorem ok326:O 326 F326:=okF aj [] On Tryz.func326 rfl
abbrev adW:Cut:=⟨[0,1,7,8],[.cell DX,.cell .bool,cI,cI],[],19,[]⟩
def XG (k:Nat) (g2:(List Bool) -> Bool -> Int -> Int -> Option jo) (a:List Bool) (b:Bool) (c e:Int):Option jo :=
 (bif decide (e<c) then
  ix a e <|
  (bif b==(rd a e false) then
   some ((e,()),())
  else
   g2 a b c (IntKind.i64.wrap (e+1)))
 else
  some (((-1),()),()))
def aiE (k:Nat):Xx (((Unit)×(List Bool)×Bool×Int×Int×Unit) -> Option jo):=eu (dw (dh (dh (dh (dh dx))))) (XG k)
def ND (k a:Nat) (b:List Bool) (c:Bool) (e f:Int):Option jo:=iter adW (aiE k) a ((),b,c,e,f,())
theorem aaq (k a b c e f):ND k (a+1) b c e f=XG k (ND k a) b c e f:=Ba _ _ _ _
def aiF (k:Nat) (a:List Bool) (b:Bool):Option jo :=
 ND k k a b (a.length:Int) 0
def F325:Fn:=⟨[.val ⟨false,DX,false⟩,.val ⟨false,.bool,false⟩],[rI],fun k x=>aiF k x.1 x.2.1⟩
theorem ok325:O 325 F325:=okF aj [] (fun k=>(.loop 2 adW (aiE k) (fun g=>.nil) .nil)) Tryz.func325 rfl
def alo (k:Nat) (a:RL):Option ((FX×(Int×Int)×Bool×Unit)×Unit) :=
 (aiC k a).bind fun q0 =>
 (aiD k q0.1.1).bind fun q1 =>
 sx q0.1.1.2 0 q1.1.1 <|
 (aiF k (sub q0.1.1.2 0 q1.1.1) false).bind fun q2 =>
 (bif decide (q2.1.1<0) then
  some ((q0.1.1,(0,0),false,()),())
 else
  ix q0.1.1.1 q2.1.1 <|
  ix q0.1.1.1 q2.1.1 <|
  ix q0.1.1.2 q2.1.1 <|
  ix (upd q0.1.1.1 q2.1.1 (IntKind.i64.wrap ((rd q0.1.1.1 q2.1.1 0)+1))) q2.1.1 <|
  some (((upd q0.1.1.1 q2.1.1 (IntKind.i64.wrap ((rd q0.1.1.1 q2.1.1 0)+1)),upd q0.1.1.2 q2.1.1 true),(q2.1.1,rd (upd q0.1.1.1 q2.1.1 (IntKind.i64.wrap ((rd q0.1.1.1 q2.1.1 0)+1))) q2.1.1 0),true,()),()))
def F252:Fn:=⟨[RN],[Vm,.val ⟨true,oq,true⟩,rB],fun k x=>alo k x.1⟩
theorem ok252:O 252 F252:=okF (ah ok324 <| ah ok325 <| ah ok326 aj) [] On Tryz.func252 rfl
def agE (k:Nat) (a:Int) (b:Int×Int):Option ((su×Unit)×Unit) :=
 (bif a==1 then
  some (((a,b,(8,0),([],[]),(0,[]),0),()),())
 else
  some (((a,b,(0,0),([],[]),(0,[]),0),()),()))
def F233:Fn:=⟨[au,ahF],[.val ⟨true,JF,true⟩],fun k x=>agE k x.1 x.2.1⟩
theorem ok233:O 233 F233:=okF aj [] On Tryz.func233 rfl
abbrev adX:Cut:=⟨[1,4,5,7,8,9,20,21,22],[cI,.box 38 [.nil,.nil,.nil],.box 95 [cI,cI],.mp 253 false (.int .i64) false (.int .i64),.box 38 [.own 3 (.int .i64),.own 4 .bool,.own 142 JF],cI,.cell P7,cI,cI],[],72,[]⟩
def XH (k:Nat) (g4:Int -> Int -> Int -> kg -> (List Int) -> (List Bool) -> (List su) -> Int -> (List su) -> Int -> Int -> Option Z8) (a b c:Int) (e:oz) (f:List Int) (h:List Bool) (i:List su) (l:Int) (m:List su) (n o:Int):Option Z8 :=
 (bif decide (o<n) then
  ix m o <|
  (bif (rd m o bf).1==a then
   g4 a b c e f h i (IntKind.i64.wrap (l+1)) m n (IntKind.i64.wrap (o+1))
  else
   g4 a b c e f h i l m n (IntKind.i64.wrap (o+1)))
 else
  (alo k (f,h)).bind fun q1 =>
  (bif decide (l≥(Us (.int .i64) (.int .i64) a e 0)) then
   some ((((f,h),i),(0,0),false,()),())
  else
   (bif !q1.1.2.2.1 then
    some ((((f,h),i),(0,0),false,()),())
   else
    (bif decide (q1.1.2.1.1≥(i.length:Int)) then
     some ((((f,h),i),(0,0),false,()),())
    else
     (agE k a q1.1.2.1).bind fun q2 =>
     (ab3 k q2.1.1).bind fun q3 =>
     ix i q1.1.2.1.1 <|
     some (((q1.1.1,upd i q1.1.2.1.1 q3.1.1),q1.1.2.1,true,()),())))))
def aiG (k:Nat):Xx (((Unit)×Int×(Unit×Unit×Unit×Unit)×(Int×Int×Unit)×kg×anI×Int×(List su)×Int×Int×Unit) -> Option Z8):=eu (dw (dh (d9 (dw (dw (dw dx))) (d9 (dh (dh dx)) (dh (d9 (dh (dh (dh dx))) (dh (dh (dh (dh dx)))))))))) (XH k)
def XI (k a:Nat) (b c e:Int) (f:oz) (h:List Int) (i:List Bool) (l:List su) (m:Int) (n:List su) (o p:Int):Option Z8:=iter adX (aiG k) a ((),b,((),(),(),()),(c,e,()),f,(h,i,l,()),m,n,o,p,())
theorem aar (k a b c e f h i l m n o p):XI k (a+1) b c e f h i l m n o p=XH k (XI k a) b c e f h i l m n o p:=Ba _ _ _ _
def alp (k:Nat) (a:FX×List su) (b:Int):Option Z8 :=
 (V8 k a).bind fun q0 =>
 XI k k b 0 0 (vL (.int .i64) (.int .i64) 3 4 (vL (.int .i64) (.int .i64) 2 4 (vL (.int .i64) (.int .i64) 1 4 ([]:List (Int×Int))))) q0.1.1.1.1 q0.1.1.1.2 q0.1.1.2 0 a.2 (a.2.length:Int) 0
def F167:Fn:=⟨[Vl,au],[acX,.val ⟨true,oq,true⟩,rB],fun k x=>alp k x.1 x.2.1⟩
theorem ok167:O 167 F167:=okF (ah ok185 <| ah ok221 <| ah ok233 <| ah ok252 aj) [] (fun k=>(.loop 4 adX (aiG k) (fun g=>.nil) .nil)) Tryz.func167 rfl
abbrev aoP:Cut:=⟨[0,2],[.pin false 0,.mp 253 false (.int .i64) false (.int .i64)],[.fK 175 [cI,cI,.cell qc,.cell Zf,.cell .bool,.cell .bool,.cell .bool,.cell (.sl 59 uy),.cell uo,.cell DX,.cell P7,.cell uo,.cell DX,cI,cI,cI,cI,.cell ql,.cell ql,.cell ql,cI,cI,cI,cI,.cell (.int .u32),.own 51 acV,cI,cI,cI,cI]],58,[]⟩
def aas (k:Nat) (a:GN) (b:oz):Option OZ :=
 (alp k a.1.2.2.2.2.2.2.2.2.1 (Us (.int .i64) (.int .i64) a.2.1.1 b 0)).bind fun q0 =>
 (bif !q0.1.2.2.1 then
  some ((),BR (w3 a 4),())
 else
  some ((),BR (w4 (w0 a (w8 a.1 q0.1.1)) q0.1.2.1),()))
def S90 (k:Nat) (a:GN):Option OZ :=
 (bif a.2.1.1==2 then
  (bif a.1.2.2.2.2.1 then
   some ((),BR (w3 a 7),())
  else
   aas k a (vL (.int .i64) (.int .i64) 4 3 (vL (.int .i64) (.int .i64) 3 2 (vL (.int .i64) (.int .i64) 2 1 ([]:List (Int×Int))))))
 else
  aas k a (vL (.int .i64) (.int .i64) 4 3 (vL (.int .i64) (.int .i64) 3 2 (vL (.int .i64) (.int .i64) 2 1 ([]:List (Int×Int))))))
def F90:Fn:=⟨[Zh],[],fun k x=>S90 k (qd x.1)⟩
theorem ok90:O 90 F90:=okF (ah ok167 aj) [] (fun k=>(.join 3 aoP (fun d=>aas k (qd d.1.1) d.2.2.1) .nil)) Tryz.func90 rfl
abbrev adY:Cut:=⟨[2,6,7,8],[.own 3 (.int .i64),.cell P7,cI,cI],[],22,[]⟩
def XJ (k:Nat) (g2:(List Int) -> (List su) -> Int -> Int -> Option ug) (a:List Int) (b:List su) (c e:Int):Option ug :=
 (bif decide (e<c) then
  ix b e <|
  (bif (rd b e bf).1==1 then
   ap a ([e]:List Int) 8 fun r0 =>
   g2 r0 b c (IntKind.i64.wrap (e+1))
  else
   g2 a b c (IntKind.i64.wrap (e+1)))
 else
  some ((a,()),()))
def aiH (k:Nat):Xx (((Unit)×(List Int)×(List su)×Int×Int×Unit) -> Option ug):=eu (dw (dh (dh (dh (dh dx))))) (XJ k)
def XK (k a:Nat) (b:List Int) (c:List su) (e f:Int):Option ug:=iter adY (aiH k) a ((),b,c,e,f,())
theorem aat (k a b c e f):XK k (a+1) b c e f=XJ k (XK k a) b c e f:=Ba _ _ _ _
def aau (k:Nat) (a:FX×List su):Option ug :=
 XK k k ([]:List Int) a.2 (a.2.length:Int) 0
def F107:Fn:=⟨[Vl],[ahE],fun k x=>aau k x.1⟩
theorem ok107:O 107 F107:=okF aj [(2,2)] (fun k=>(.loop 2 adY (aiH k) (fun g=>.nil) .nil)) Tryz.func107 rfl
abbrev aiI:Cut:=⟨[1,2,7,8,9],[.box 42 [cI,cI,.cell qc,.cell Zf,.cell .bool,.cell .bool,.cell .bool,.cell (.sl 59 uy),.cell uo,.cell DX,.cell P7,.cell uo,.cell DX],.own 121 oq,.own 3 (.int .i64),cI,cI],[],25,[]⟩
def adZ (k:Nat) (g2:GL -> kg -> (List Int) -> Int -> Int -> Option AP) (a:C9) (b:oz) (c:List Int) (e f:Int):Option AP :=
 (bif decide (f<e) then
  ix c f <|
  ix a.2.2.2.2.2.2.2.2.1.2 (rd c f 0) <|
  ap b ([(rd a.2.2.2.2.2.2.2.2.1.2 (rd c f 0) bf).2.2.1]:List (Int×Int)) 16 fun r1 =>
  g2 a r1 c e (IntKind.i64.wrap (f+1))
 else
  some ((b,()),()))
def anN (k:Nat) (g:((Unit)×zu×kg×(List Int)×Int×Int×Unit) -> Option AP) (d:(Unit)×zu×kg×(List Int)×Int×Int×Unit):Option AP:=adZ k (fun a b c e f=>g ((),MR a,b,c,e,f,())) (Zl d.2.1) d.2.2.1 d.2.2.2.1 d.2.2.2.2.1 d.2.2.2.2.2.1
def ad1 (k a:Nat) (b:C9) (c:oz) (e:List Int) (f h:Int):Option AP:=iter aiI (anN k) a ((),MR b,c,e,f,h,())
theorem ad2 (k a b c e f h):ad1 k (a+1) b c e f h=adZ k (ad1 k a) b c e f h:=Ba _ _ _ _
def S48 (k:Nat) (a:C9):Option AP :=
 (aau k a.2.2.2.2.2.2.2.2.1).bind fun q0 =>
 ad1 k k a ([]:List (Int×Int)) q0.1.1 (q0.1.1.length:Int) 0
def F48:Fn:=⟨[Zj],[.val ⟨false,(.sl 121 oq),true⟩],fun k x=>S48 k x.1⟩
theorem ok48:O 48 F48:=okF (ah ok107 aj) [(2,2)] (fun k=>(.loop 2 aiI (anN k) (fun g=>.nil) .nil)) Tryz.func48 rfl
def S59 (k:Nat) (a:Int×Int×Int×Int) (b:oz):Option ko :=
 (bif a.1==9 then
  some ((decide (a.2.1≥(b.length:Int)),()),())
 else
  some ((false,()),()))
def F59:Fn:=⟨[agq,.pv (.ref (.sl 121 oq))],[rB],fun k x=>S59 k x.1 x.2.1⟩
theorem ok59:O 59 F59:=okF aj [] On Tryz.func59 rfl
abbrev aav:Cut:=⟨[0,1,7,8],[.cell ql,.lJ 59 [.ref (.sl 121 oq)],cI,cI],[],19,[]⟩
def QS (k:Nat) (g2:(List jq) -> kg -> Int -> Int -> Option jo) (a:List jq) (b:oz) (c e:Int):Option jo :=
 (bif decide (e<c) then
  ix a e <|
  (S59 k (rd a e (0,0,0,0)) b).bind fun q0 =>
  (bif q0.1.1 then
   some ((e,()),())
  else
   g2 a b c (IntKind.i64.wrap (e+1)))
 else
  some (((-1),()),()))
def ad3 (k:Nat):Xx (((Unit)×(List jq)×(kg×Unit)×Int×Int×Unit) -> Option jo):=eu (dw (dh (d9 (dh dx) (dh (dh dx))))) (QS k)
def IK (k a:Nat) (b:List jq) (c:oz) (e f:Int):Option jo:=iter aav (ad3 k) a ((),b,(c,()),e,f,())
theorem VA (k a b c e f):IK k (a+1) b c e f=QS k (IK k a) b c e f:=Ba _ _ _ _
def ad4 (k:Nat) (a:List jq) (b:oz):Option jo :=
 IK k k a b (a.length:Int) 0
def F130d:Fn:=⟨[EM,.pv (.lJ 59 [.ref (.sl 121 oq)])],[rI],fun k x=>ad4 k x.1 x.2.1.1⟩
theorem ok130d:O 130 F130d:=okF (ah ok59 aj) [] (fun k=>(.loop 2 aav (ad3 k) (fun g=>.nil) .nil)) Tryz.func130 rfl
def aoQ (k:Nat) (a:List jq) (b:oz):Option ko :=
 (ad4 k a b).bind fun q0 =>
 some ((decide (q0.1.1≥0),()),())
def F57c:Fn:=⟨[EM,.pv (.lJ 59 [.ref (.sl 121 oq)])],[rB],fun k x=>aoQ k x.1 x.2.1.1⟩
theorem ok57c:O 57 F57c:=okF (ah ok130d aj) [] On Tryz.func57 rfl
abbrev aiJ:Cut:=⟨[0,1,11,12,13],[.pin false 0,.cell (.sl 121 oq),.own 3 (.int .i64),cI,cI],[.fK 42 [cI,cI,.cell qc,.own 168 D5,.cell .bool,.cell .bool,.cell .bool,.own 59 uy,.own 3 (.int .i64),.own 4 .bool,.own 142 JF,.own 3 (.int .i64),.own 4 .bool]],55,[]⟩
def ad5 (k:Nat) (g1:GL -> kg -> (List Int) -> Int -> Int -> Option ((Unit)×zu×Unit)) (a:C9) (b:oz) (c:List Int) (e f:Int):Option ((Unit)×zu×Unit) :=
 (bif decide (f<e) then
  ix c f <|
  ix a.2.2.2.2.2.2.2.2.1.2 (rd c f 0) <|
  (bif decide (f<(b.length:Int)) then
   ix b f <|
   (bif !(fC oq (rd a.2.2.2.2.2.2.2.2.1.2 (rd c f 0) bf).2.2.1 (rd b f (0,0))) then
    ix b f <|
    (JG k a.2.2.2.2.2.2.2.2.1 (rd c f 0) ((rd a.2.2.2.2.2.2.2.2.1.2 (rd c f 0) bf).1,(rd a.2.2.2.2.2.2.2.2.1.2 (rd c f 0) bf).2.1,rd b f (0,0),(rd a.2.2.2.2.2.2.2.2.1.2 (rd c f 0) bf).2.2.2)).bind fun q1 =>
    g1 (w8 a q1.1.1) b c e (IntKind.i64.wrap (f+1))
   else
    g1 a b c e (IntKind.i64.wrap (f+1)))
  else
   g1 a b c e (IntKind.i64.wrap (f+1)))
 else
  some ((),MR a,()))
def anO (k:Nat) (g:((zu×Unit)×Unit×kg×(List Int)×Int×Int×Unit) -> Option ((Unit)×zu×Unit)) (d:(zu×Unit)×Unit×kg×(List Int)×Int×Int×Unit):Option ((Unit)×zu×Unit):=ad5 k (fun a b c e f=>g ((MR a,()),(),b,c,e,f,())) (Zl d.1.1) d.2.2.1 d.2.2.2.1 d.2.2.2.2.1 d.2.2.2.2.2.1
def VB (k a:Nat) (b:C9) (c:oz) (e:List Int) (f h:Int):Option ((Unit)×zu×Unit):=iter aiJ (anO k) a ((MR b,()),(),c,e,f,h,())
theorem ad6 (k a b c e f h):VB k (a+1) b c e f h=ad5 k (VB k a) b c e f h:=Ba _ _ _ _
def S61 (k:Nat) (a:C9) (b:oz):Option ((Unit)×zu×Unit) :=
 (aau k a.2.2.2.2.2.2.2.2.1).bind fun q0 =>
 VB k k a b q0.1.1 (q0.1.1.length:Int) 0
def F61:Fn:=⟨[.fK 42 [cI,cI,.cell qc,.own 168 D5,.cell .bool,.cell .bool,.cell .bool,.own 59 uy,.own 3 (.int .i64),.own 4 .bool,.own 142 JF,.own 3 (.int .i64),.own 4 .bool],.val ⟨false,(.sl 121 oq),false⟩],[],fun k x=>S61 k (Zl x.1) x.2.1⟩
theorem ok61:O 61 F61:=okF (ah ok107 <| ah ok128 aj) [] (fun k=>(.loop 1 aiJ (anO k) (fun g=>.nil) .nil)) Tryz.func61 rfl
abbrev ad7:Cut:=⟨[1,2,4,33,34],[.box 42 [cI,cI,.cell qc,.own 168 D5,.cell .bool,.cell .bool,.cell .bool,.own 59 uy,.own 3 (.int .i64),.own 4 .bool,.own 142 JF,.own 3 (.int .i64),.own 4 .bool],.box 42 [cI,cI,.nil,.nil,.cell .bool,.cell .bool,.cell .bool,.nil,.nil,.nil,.nil,.nil,.nil],.box 118 [.own 121 oq],cI,cI],[],50,[]⟩
def XL (k:Nat) (g12:GL -> Int -> Int -> Bool -> Bool -> Bool -> kg -> Int -> Int -> Option GR) (a:C9) (b c:Int) (e f h:Bool) (i:oz) (l m:Int):Option GR :=
 (bif decide (m<l) then
  (S60 k a.2.2.1 m).bind fun q4 =>
  ix i m <|
  g12 a b c e f h (upd i m (q4.1.1,(rd i m (0,0)).2)) l (IntKind.i64.wrap (m+1))
 else
  (S61 k a i).bind fun q5 =>
  some (((w4 (Zl q5.2.1) true),0,()),()))
def aiK (k:Nat) (g:((Unit)×zu×OW×(kg×Unit)×Int×Int×Unit) -> Option GR) (d:(Unit)×zu×OW×(kg×Unit)×Int×Int×Unit):Option GR:=XL k (fun a b c e f h i l m=>g ((),MR a,(b,c,(),(),e,f,h,(),(),(),(),(),(),()),(i,()),l,m,())) (Zl d.2.1) d.2.2.1.1 d.2.2.1.2.1 d.2.2.1.2.2.2.2.1 d.2.2.1.2.2.2.2.2.1 d.2.2.1.2.2.2.2.2.2.1 d.2.2.2.1.1 d.2.2.2.2.1 d.2.2.2.2.2.1
def XM (k a:Nat) (b:C9) (c e:Int) (f h i:Bool) (l:oz) (m n:Int):Option GR:=iter ad7 (aiK k) a ((),MR b,(c,e,(),(),f,h,i,(),(),(),(),(),(),()),(l,()),m,n,())
theorem aaw (k a b c e f h i l m n):XM k (a+1) b c e f h i l m n=XL k (XM k a) b c e f h i l m n:=Ba _ _ _ _
abbrev aiL:Cut:=⟨[1,2,4,16,17,18],[.box 42 [cI,cI,.cell qc,.own 168 D5,.cell .bool,.cell .bool,.cell .bool,.own 59 uy,.own 3 (.int .i64),.own 4 .bool,.own 142 JF,.own 3 (.int .i64),.own 4 .bool],.box 42 [cI,cI,.nil,.nil,.cell .bool,.cell .bool,.cell .bool,.nil,.nil,.nil,.nil,.nil,.nil],.box 118 [.own 121 oq],.cell qc,cI,cI],[],50,[]⟩
def ad8 (k:Nat) (g6:GL -> Int -> Int -> Bool -> Bool -> Bool -> kg -> (List j3) -> Int -> Int -> Option GR) (a:C9) (b c:Int) (e f h:Bool) (i:oz) (l:List j3) (m n:Int):Option GR :=
 (bif decide (n<m) then
  ix l n <|
  (S58 k ([(rd l n bg).2.2.2.1,(rd l n bg).2.2.2.2.1]:List (List jq))).bind fun q2 =>
  (aoQ k q2.1.1 i).bind fun q3 =>
  (bif q3.1.1 then
   some ((a,4,()),())
  else
   g6 a b c e f h i l m (IntKind.i64.wrap (n+1)))
 else
  XM k k a b c e f h i (i.length:Int) 0)
def anP (k:Nat) (g:((Unit)×zu×OW×(kg×Unit)×(List j3)×Int×Int×Unit) -> Option GR) (d:(Unit)×zu×OW×(kg×Unit)×(List j3)×Int×Int×Unit):Option GR:=ad8 k (fun a b c e f h i l m n=>g ((),MR a,(b,c,(),(),e,f,h,(),(),(),(),(),(),()),(i,()),l,m,n,())) (Zl d.2.1) d.2.2.1.1 d.2.2.1.2.1 d.2.2.1.2.2.2.2.1 d.2.2.1.2.2.2.2.2.1 d.2.2.1.2.2.2.2.2.2.1 d.2.2.2.1.1 d.2.2.2.2.1 d.2.2.2.2.2.1 d.2.2.2.2.2.2.1
def ad9 (k a:Nat) (b:C9) (c e:Int) (f h i:Bool) (l:oz) (m:List j3) (n o:Int):Option GR:=iter aiL (anP k) a ((),MR b,(c,e,(),(),f,h,i,(),(),(),(),(),(),()),(l,()),m,n,o,())
theorem aea (k a b c e f h i l m n o):ad9 k (a+1) b c e f h i l m n o=ad8 k (ad9 k a) b c e f h i l m n o:=Ba _ _ _ _
def S23 (k:Nat) (a:C9):Option GR :=
 (S56 k a).bind fun q0 =>
 (bif q0.1.1.2.2.2.2.1 then
  some ((q0.1.1,7,()),())
 else
  (S48 k q0.1.1).bind fun q1 =>
  ad9 k k q0.1.1 0 0 false false false q1.1.1 q0.1.1.2.2.1 (q0.1.1.2.2.1.length:Int) 0)
def F23:Fn:=⟨[Zj],[.val ⟨true,acT,false⟩,rI],fun k x=>S23 k x.1⟩
theorem ok23:O 23 F23:=okF (ah ok48 <| ah ok56 <| ah ok57c <| ah ok58 <| ah ok60 <| ah ok61 aj) [] (fun k=>(.loop 12 ad7 (aiK k) (fun g=>.nil) (.loop 6 aiL (anP k) (fun g=>.nil) .nil))) Tryz.func23 rfl
def S91 (k:Nat) (a:GN):Option OZ :=
 (S23 k a.1).bind fun q0 =>
 (bif q0.1.2.1==0 then
  (S87 k (q0.1.1.2.2.1.length:Int)).bind fun q1 =>
  some ((),BR ((z9 q0.1.1 q1.1.1),a.2.1,a.2.2.1,q0.1.2.1,a.2.2.2.2),())
 else
  some ((),BR (w3 a q0.1.2.1),()))
def F91:Fn:=⟨[Zh],[],fun k x=>S91 k (qd x.1)⟩
theorem ok91:O 91 F91:=okF (ah ok23 <| ah ok87 aj) [] On Tryz.func91 rfl
def S92 (k:Nat) (a:GN):Option OZ :=
 (S30 k a.1 a.2.1.2.2.2.1 a.2.1.2.2.2.2.1).bind fun q0 =>
 some ((),BR (q0.1.1,a.2.1,q0.1.2.1,q0.1.2.2.1,a.2.2.2.2),())
def F92:Fn:=⟨[Zh],[],fun k x=>S92 k (qd x.1)⟩
theorem ok92:O 92 F92:=okF (ah ok30 aj) [] On Tryz.func92 rfl
abbrev aeb:Cut:=⟨[1,3,7,8],[.box 35 [.cell uo,.cell DX],.mp 432 true oq false .bool,cI,cI],[],26,[]⟩
def XO (k:Nat) (g3:(List Int) -> (List Bool) -> (List Zg) -> Int -> Int -> Option Z9) (a:List Int) (b:List Bool) (c:List Zg) (e f:Int):Option Z9 :=
 (bif decide (f<e) then
  ix b f <|
  (bif rd b f false then
   ix a f <|
   g3 a b (vL oq .bool (f,rd a f 0) true c) e (IntKind.i64.wrap (f+1))
  else
   g3 a b c e (IntKind.i64.wrap (f+1)))
 else
  some ((c,()),()))
def aiM (k:Nat):Xx (((Unit)×((List Int)×(List Bool)×Unit)×(List Zg)×Int×Int×Unit) -> Option Z9):=eu (dw (d9 (dh (dh dx)) (dh (dh (dh dx))))) (XO k)
def XP (k a:Nat) (b:List Int) (c:List Bool) (e:List Zg) (f h:Int):Option Z9:=iter aeb (aiM k) a ((),(b,c,()),e,f,h,())
theorem aax (k a b c e f h):XP k (a+1) b c e f h=XO k (XP k a) b c e f h:=Ba _ _ _ _
def aoR (k:Nat) (a:RL):Option Z9 :=
 (aiD k a).bind fun q0 =>
 XP k k a.1 a.2 ([]:List Zg) q0.1.1 0
def F352:Fn:=⟨[RN],[.pv (.mp 432 true oq false .bool)],fun k x=>aoR k x.1⟩
theorem ok352:O 352 F352:=okF (ah ok326 aj) [] (fun k=>(.loop 3 aeb (aiM k) (fun g=>.nil) .nil)) Tryz.func352 rfl
def aiN (k:Nat) (a:RL) (b:Int×Int):Option ko :=
 (aoR k a).bind fun q0 =>
 some ((Us oq .bool b q0.1.1 false,()),())
def F327:Fn:=⟨[RN,ahF],[rB],fun k x=>aiN k x.1 x.2.1⟩
theorem ok327:O 327 F327:=okF (ah ok352 aj) [] On Tryz.func327 rfl
def agF (k:Nat) (a:FX×List su) (b:Int×Int):Option DW :=
 (aiN k a.1 b).bind fun q0 =>
 (bif !q0.1.1 then
  some ((0,false,()),())
 else
  (ab1 k a b.1).bind fun q1 =>
  (bif !q1.1.1 then
   some ((0,false,()),())
  else
   some ((b.1,true,()),())))
def F253:Fn:=⟨[Vl,ahF],[rI,rB],fun k x=>agF k x.1 x.2.1⟩
theorem ok253:O 253 F253:=okF (ah ok186 <| ah ok327 aj) [] On Tryz.func253 rfl
def ab8 (k:Nat) (a:GN) (b:Int):Option ((Int×su×Bool×Unit)×anF×Unit) :=
 (agF k a.1.2.2.2.2.2.2.2.2.1 a.2.1.2.2.1).bind fun q0 =>
 (bif !q0.1.2.1 then
  some ((0,bf,false,()),BR (w3 a 3),())
 else
  ix a.1.2.2.2.2.2.2.2.2.1.2 q0.1.1 <|
  (bif (rd a.1.2.2.2.2.2.2.2.2.1.2 q0.1.1 bf).1 != b then
   some ((0,bf,false,()),BR (w3 a 3),())
  else
   ix a.1.2.2.2.2.2.2.2.2.1.2 q0.1.1 <|
   some ((q0.1.1,rd a.1.2.2.2.2.2.2.2.2.1.2 q0.1.1 bf,true,()),BR a,())))
def F168:Fn:=⟨[Zh,au],[rI,.val ⟨true,JF,false⟩,rB],fun k x=>ab8 k (qd x.1) x.2.1⟩
theorem ok168:O 168 F168:=okF (ah ok253 aj) [] On Tryz.func168 rfl
def aiO (k:Nat) (a:(List Int)×List Int):Option ((((List Int)×List Int)×Unit)×Unit) :=
 (aaf k a.1).bind fun q0 =>
 (GV k a.2).bind fun q1 =>
 some (((q0.1.1,q1.1.1),()),())
def F254:Fn:=⟨[aoo],[.val ⟨true,(.pair JM uo),true⟩],fun k x=>aiO k x.1⟩
theorem ok254:O 254 F254:=okF (ah ok219 <| ah ok287 aj) [] On Tryz.func254 rfl
def aiP (k:Nat) (a:(List Int)×List Int) (b:Int):Option ((((List Int)×List Int)×Int×Bool×Unit)×Unit) :=
 (aiO k a).bind fun q0 =>
 (bif decide ((q0.1.1.2.length:Int)>0) then
  ix q0.1.1.2 0 <|
  sx q0.1.1.2 1 (q0.1.1.2.length:Int) <|
  some (((q0.1.1.1,sub q0.1.1.2 1 (q0.1.1.2.length:Int)),rd q0.1.1.2 0 0,true,()),())
 else
  (bif decide ((q0.1.1.1.length:Int)≥4) then
   some ((q0.1.1,0,false,()),())
  else
   ap q0.1.1.1 ([b]:List Int) 8 fun r1 =>
   some (((r1,q0.1.1.2),0,true,()),())))
def F169:Fn:=⟨[aoo,au],[aqb,rI,rB],fun k x=>aiP k x.1 x.2.1⟩
theorem ok169:O 169 F169:=okF (ah ok254 aj) [] On Tryz.func169 rfl
def aiQ (k:Nat) (a:GN) (b c e:Int):Option OZ :=
 ap a.2.2.1 ([(a.1.1,12,0,b,c,e)]:List (PN Int 6)) 48 fun r0 =>
 some ((),BR (a.1,a.2.1,r0,a.2.2.2),())
def F170:Fn:=⟨[Zh,au,au,au],[],fun k x=>aiQ k (qd x.1) x.2.1 x.2.2.1 x.2.2.2.1⟩
theorem ok170:O 170 F170:=okF aj [] On Tryz.func170 rfl
def S93 (k:Nat) (a:GN):Option OZ :=
 (ab8 k a 2).bind fun q0 =>
 (bif !q0.1.2.2.1 then
  some ((),q0.2.1,())
 else
  (aiP k q0.1.2.1.2.2.2.1 (qd q0.2.1).2.1.2.2.2.2.1).bind fun q1 =>
  (bif !q1.1.2.2.1 then
   some ((),BR (w3 (qd q0.2.1) 4),())
  else
   (bif decide (q1.1.2.1>0) then
    (aiQ k (qd q0.2.1) q1.1.2.1 (qd q0.2.1).2.1.2.2.2.2.1 0).bind fun q2 =>
    (JG k (qd q2.2.1).1.2.2.2.2.2.2.2.2.1 q0.1.1 (w3 q0.1.2.1 q1.1.1)).bind fun q3 =>
    some ((),BR ((w8 (qd q2.2.1).1 q3.1.1),(qd q2.2.1).2),())
   else
    (JG k (qd q0.2.1).1.2.2.2.2.2.2.2.2.1 q0.1.1 (w3 q0.1.2.1 q1.1.1)).bind fun q4 =>
    some ((),BR ((w8 (qd q0.2.1).1 q4.1.1),(qd q0.2.1).2),()))))
def F93:Fn:=⟨[Zh],[],fun k x=>S93 k (qd x.1)⟩
theorem ok93:O 93 F93:=okF (ah ok128 <| ah ok168 <| ah ok169 <| ah ok170 aj) [] On Tryz.func93 rfl
abbrev aec:Cut:=⟨[0,1,7,8],[.cell uo,cI,cI,cI],[],19,[]⟩
def NG (k:Nat) (g2:(List Int) -> Int -> Int -> Int -> Option jo) (a:List Int) (b c e:Int):Option jo :=
 (bif decide (e<c) then
  ix a e <|
  (bif b==(rd a e 0) then
   some ((e,()),())
  else
   g2 a b c (IntKind.i64.wrap (e+1)))
 else
  some (((-1),()),()))
def aiR (k:Nat):Xx (((Unit)×(List Int)×Int×Int×Int×Unit) -> Option jo):=eu (dw (dh (dh (dh (dh dx))))) (NG k)
def ES (k a:Nat) (b:List Int) (c e f:Int):Option jo:=iter aec (aiR k) a ((),b,c,e,f,())
theorem LH (k a b c e f):ES k (a+1) b c e f=NG k (ES k a) b c e f:=Ba _ _ _ _
def ab9 (k:Nat) (a:List Int) (b:Int):Option jo :=
 ES k k a b (a.length:Int) 0
def F149:Fn:=⟨[WV,au],[rI],fun k x=>ab9 k x.1 x.2.1⟩
theorem ok149:O 149 F149:=okF aj [] (fun k=>(.loop 2 aec (aiR k) (fun g=>.nil) .nil)) Tryz.func149 rfl
def aoS (k:Nat) (a:List Int) (b:Int):Option ko :=
 (ab9 k a b).bind fun q0 =>
 some ((decide (q0.1.1≥0),()),())
def F255:Fn:=⟨[WV,au],[rB],fun k x=>aoS k x.1 x.2.1⟩
theorem ok255:O 255 F255:=okF (ah ok149 aj) [] On Tryz.func255 rfl
def aiS (k:Nat) (a:(List Int)×List Int) (b:Int):Option ((((List Int)×List Int)×Int×Bool×Bool×Unit)×Unit) :=
 (aiO k a).bind fun q0 =>
 (bif decide (b<1) then
  some ((q0.1.1,0,false,false,()),())
 else
  (bif decide ((q0.1.1.1.length:Int)>0) then
   ix q0.1.1.1 0 <|
   sx q0.1.1.1 1 (q0.1.1.1.length:Int) <|
   some (((sub q0.1.1.1 1 (q0.1.1.1.length:Int),q0.1.1.2),rd q0.1.1.1 0 0,true,true,()),())
  else
   (aoS k q0.1.1.2 b).bind fun q1 =>
   (bif q1.1.1 then
    some ((q0.1.1,0,false,false,()),())
   else
    (bif decide ((q0.1.1.2.length:Int)≥4) then
     some ((q0.1.1,0,false,false,()),())
    else
     ap q0.1.1.2 ([b]:List Int) 8 fun r2 =>
     some (((q0.1.1.1,r2),0,false,true,()),())))))
def F171:Fn:=⟨[aoo,au],[aqb,rI,rB,rB],fun k x=>aiS k x.1 x.2.1⟩
theorem ok171:O 171 F171:=okF (ah ok254 <| ah ok255 aj) [] On Tryz.func171 rfl
def S94 (k:Nat) (a:GN):Option OZ :=
 (ab8 k a 2).bind fun q0 =>
 (bif !q0.1.2.2.1 then
  some ((),q0.2.1,())
 else
  (aiS k q0.1.2.1.2.2.2.1 (qd q0.2.1).2.1.2.2.2.1).bind fun q1 =>
  (bif !q1.1.2.2.2.1 then
   some ((),BR (w3 (qd q0.2.1) 1),())
  else
   (bif q1.1.2.2.1 then
    (JG k (qd q0.2.1).1.2.2.2.2.2.2.2.2.1 q0.1.1 (w3 q0.1.2.1 q1.1.1)).bind fun q2 =>
    some ((),BR (w0 (z5 (qd q0.2.1) q1.1.2.1) (w8 (qd q0.2.1).1 q2.1.1)),())
   else
    (JG k (qd q0.2.1).1.2.2.2.2.2.2.2.2.1 q0.1.1 (w3 q0.1.2.1 q1.1.1)).bind fun q3 =>
    some ((),BR ((w8 (qd q0.2.1).1 q3.1.1),(qd q0.2.1).2.1,(qd q0.2.1).2.2.1,16,(qd q0.2.1).2.2.2.2),()))))
def F94:Fn:=⟨[Zh],[],fun k x=>S94 k (qd x.1)⟩
theorem ok94:O 94 F94:=okF (ah ok128 <| ah ok168 <| ah ok171 aj) [] On Tryz.func94 rfl
abbrev aed:Cut:=⟨[4,5,15,16,17],[.box 138 [.cell (.int .u32),.own 266 D6],.own 266 D6,.cell (.sl 266 D6),cI,cI],[],49,[]⟩
def XQ (k:Nat) (g3:Int -> kg -> kg -> kg -> Int -> Int -> Option Z7) (x:Int) (a b c:oz) (e f:Int):Option Z7 :=
 (bif decide (f<e) then
  ix c f <|
  (bif (Um .u32 x (rd c f (0,0)).2)==0 then
   ap a ([rd c f (0,0)]:List (Int×Int)) 16 fun r0 =>
   g3 x r0 b c e (IntKind.i64.wrap (f+1))
  else
   ap b ([((rd c f (0,0)).1,Um .u32 x (rd c f (0,0)).2)]:List (Int×Int)) 16 fun r1 =>
   g3 (Ru .u32 x (Um .u32 x (rd c f (0,0)).2)) a r1 c e (IntKind.i64.wrap (f+1)))
 else
  some (((x,a),b,()),()))
def aiT (k:Nat):Xx (((Unit)×(Int×kg×Unit)×kg×kg×Int×Int×Unit) -> Option Z7):=eu (dw (d9 (dh (dh dx)) (dh (dh (dh (dh dx)))))) (XQ k)
def XR (k a:Nat) (x:Int) (b c e:oz) (f h:Int):Option Z7:=iter aed (aiT k) a ((),(x,b,()),c,e,f,h,())
theorem aay (k a x b c e f h):XR k (a+1) x b c e f h=XQ k (XR k a) x b c e f h:=Ba _ _ _ _
def aiU (k:Nat) (a:Int×List (Int×Int)) (b:Int):Option Z7 :=
 XR k k (Uz .u32 a.1 b) ([]:List (Int×Int)) ([]:List (Int×Int)) a.2 (a.2.length:Int) 0
def F172:Fn:=⟨[.val ⟨true,(.pair (.int .u32) (.sl 266 D6)),false⟩,.val ⟨false,(.int .u32),false⟩],[.val ⟨true,(.pair (.int .u32) (.sl 266 D6)),true⟩,.val ⟨false,(.sl 266 D6),true⟩],fun k x=>aiU k x.1 x.2.1⟩
theorem ok172:O 172 F172:=okF aj [(4,2),(5,2)] (fun k=>(.loop 3 aed (aiT k) (fun g=>.nil) .nil)) Tryz.func172 rfl
end
end Go.Proofs.YtjjjbcmjmkcedaaGreat.Ab
