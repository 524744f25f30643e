import Derived.Test.YtjjjbcmjmkcedaaGreatPbI
import Derived.Lib.Overlaps
import Derived.Shelf.RegionOpenPlain
import Derived.Test.YtjjjbcmjmkcedaaGreatPbC
/- Contracts, printed by this session's own program gen.py. -/
set_option linter.unusedVariables false
set_option linter.unusedSimpArgs false
set_option maxRecDepth 100000
namespace Go.Proofs.YtjjjbcmjmkcedaaGreat.Ab
open Go.RowKit
abbrev cI:PV:=.cell (.int .i64)
abbrev jy:Type:=Int×Int×Int×(List (Int×Int×Int×Int))×(List (Int×Int×Int×Int))×List (Int×Int×Int×Int)
abbrev BP:Ty:=.pair (.int .i64) (.pair (.int .i64) (.pair (.int .i64) (.pair (.sl 127 (.pair (.int .i64) (.pair (.int .i64) (.pair (.int .i64) (.int .i64))))) (.pair (.sl 127 (.pair (.int .i64) (.pair (.int .i64) (.pair (.int .i64) (.int .i64))))) (.sl 127 (.pair (.int .i64) (.pair (.int .i64) (.pair (.int .i64) (.int .i64)))))))))
abbrev FZ:Type:=Int×Int×(List jy)×(List (PN Int 5))×Bool×Bool×Bool×(List (Int×Int×Int×Int×(Int×(PN Int 8)×(List (Int×Int×Int))×Bool)×(Int×(PN Int 8)×(List (Int×Int×Int))×Bool)×(List Int)×Bool))×(((List Int)×List Bool)×List (Int×(Int×Int)×(Int×Int)×((List Int)×List Int)×(Int×List (Int×Int))×Int))×(List Int)×List Bool
abbrev uo:Ty:=.pair (.int .i64) (.pair (.int .i64) (.pair (.int .i64) (.pair (.int .i64) (.pair (.pair (.int .i64) (.pair (Am 8 (.int .i64)) (.pair (.sl 293 (.pair (.int .i64) (.pair (.int .i64) (.int .i64)))) .bool))) (.pair (.pair (.int .i64) (.pair (Am 8 (.int .i64)) (.pair (.sl 293 (.pair (.int .i64) (.pair (.int .i64) (.int .i64)))) .bool))) (.pair (.sl 3 (.int .i64)) .bool))))))
abbrev AY:Type:=Int×Int×Int×Int×(Int×(PN Int 8)×(List (Int×Int×Int))×Bool)×(Int×(PN Int 8)×(List (Int×Int×Int))×Bool)×(List Int)×Bool
abbrev J3:Ty:=.pair (.int .i64) (.pair (.pair (.int .i64) (.int .i64)) (.pair (.pair (.int .i64) (.int .i64)) (.pair (.pair (.sl 2 (.int .i64)) (.sl 3 (.int .i64))) (.pair (.pair (.int .u32) (.sl 266 (.pair (.int .i64) (.int .u32)))) (.int .u32)))))
abbrev sw:Type:=Int×(Int×Int)×(Int×Int)×((List Int)×List Int)×(Int×List (Int×Int))×Int
abbrev ql:Ty:=.sl 127 (.pair (.int .i64) (.pair (.int .i64) (.pair (.int .i64) (.int .i64))))
abbrev jq:Type:=Int×Int×Int×Int
abbrev BQ:Type:=Int×Int×(List jy)×(List (PN Int 5))×Bool×Bool×Bool×(List AY)×(((List Int)×List Bool)×List sw)×(List Int)×List Bool
abbrev zi:Type:=Int×Int×(List jy)×(List (PN Int 5))×Bool×Bool×Bool×(List AY)×(List Int)×(List Bool)×(List sw)×(List Int)×(List Bool)×Unit
abbrev acL:Ty:=.pair (.int .i64) (.pair (.int .i64) (.pair (.sl 54 BP) (.pair (.sl 168 (Am 5 (.int .i64))) (.pair .bool (.pair .bool (.pair .bool (.pair (.sl 59 uo) (.pair (.pair (.pair (.sl 3 (.int .i64)) (.sl 4 .bool)) (.sl 142 J3)) (.pair (.sl 3 (.int .i64)) (.sl 4 .bool))))))))))
abbrev anz:Type:=Int×Int×(List jy)×(List (PN Int 5))×Bool×Bool×Bool×(List AY)×(List Int)×(List Bool)×(List sw)×(List Int)×(List Bool)×Int×Int×Int×Int×(List jq)×(List jq)×(List jq)×Int×Int×Int×Int×Int×(List (PN Int 6))×Int×Int×Int×Int×Unit
abbrev jo:Type:=(Int×Unit)×Unit
abbrev qx:Type:=Int×Int×Int×Bool
abbrev j5:Type:=List (Int×Int)
abbrev ow:Ty:=.pair (.int .i64) (.int .i64)
abbrev j6:Type:=(Bool×Unit)×Unit
abbrev G5:Type:=FZ×(Int×jy×(Int×Int)×Int×Int×Int)×(List (PN Int 6))×Int×(Int×Int)×Int
abbrev um:Ty:=.sl 3 (.int .i64)
abbrev FC:Ty:=.pair (.int .i64) (.pair (.int .i64) (.pair (.int .i64) .bool))
abbrev tu:Type:=((List Int)×Unit)×Unit
abbrev OG:Type:=Int×Int×Unit×Unit×Bool×Bool×Bool×Unit×Unit×Unit×Unit×Unit×Unit×Unit
abbrev OH:Type:=(List jq) -> (List qx) -> (List Int) -> (List qx) -> Int -> Int -> Option j6
abbrev DI:Type:=(Int×Int×Int×Unit)×Unit
abbrev J9:Type:=((List jy)×(List (PN Int 5))×Int×Unit)×Unit
abbrev ahn:Type:=((List Int)×List Bool)×List sw
abbrev Z9:Type:=Int×(PN Int 8)×(List (Int×Int×Int))×Bool
abbrev FD:Type:=List (PN Bool 24)
abbrev KG:Type:=Int×Int×Int×(List jq)×(List jq)×List jq
abbrev aho:Ty:=.pair um (.sl 4 .bool)
abbrev oq:Type:=List (Int×Int)
abbrev Vi:Type:=(List jy) -> Int -> Int -> j5 -> (List jy) -> Int -> Int -> Option jo
abbrev Vj:Ty:=.pair (.int .i64) (.pair (.int .i64) ow)
abbrev Za:Type:=Int×(Int×Int)×(Int×Int)×((List Int)×List Int)×(Int×List (Int×Int))×Int
abbrev A9:Type:=(j5×Unit)×Unit
abbrev Zb:Type:=(List jq) -> FD -> (List qx) -> Int -> Int -> Option ((FD×Unit)×Unit)
abbrev CY:Ty:=Am 5 (.int .i64)
abbrev DJ:Type:=(Int×Bool×Unit)×Unit
abbrev Zc:Type:=(List jy) -> Int -> Int -> Int -> Int -> Int -> Int -> Bool -> Option DI
abbrev ahp:Type:=(List jq) -> (List Int) -> (List Int) -> (List ((PN Bool 24)×Int)) -> FD -> FD -> Int -> Int -> Option (((List Int)×Bool×Unit)×Unit)
abbrev p9:Ty:=.sl 54 BP
abbrev G6:Type:=((List jq)×Unit)×Unit
abbrev Zd:Type:=((Int×Int×List (Int×Int))×Bool×Unit)×Unit
abbrev FE:Ty:=.pair (.int .i64) (.int .u32)
abbrev G7:Type:=(FZ×Int×Unit)×Unit
abbrev Ze:Type:=((Int×List (Int×Int))×j5×Unit)×Unit
abbrev Vk:Type:=Int -> (List Int) -> Int -> Int -> Option jo
abbrev Zf:Type:=(ahn×(Int×Int)×Bool×Unit)×Unit
abbrev Zg:Type:=((List ((Int×Int)×Bool))×Unit)×Unit
abbrev Zh:Type:=(List Int) -> (List jq) -> Int -> Int -> Option tu
abbrev ahq:Type:=(List jy) -> Int -> Int -> j5 -> (List jy) -> Int -> Int -> j5 -> Int -> Int -> Option jo
abbrev G8:Type:=List (PN Int 5)
abbrev FH:Type:=(List Int)×List Bool
abbrev Zi:Type:=Int×Unit
abbrev anA:Ty:=.pair aho (.sl 142 J3)
abbrev vv:Type:=List qx
abbrev anB:Type:=Int×Int×Int×(List jq)×(List jq)×(List jq)×Unit
abbrev FI:Type:=(FZ×Unit)×Unit
abbrev DK:Ty:=.sl 4 .bool
abbrev acM:Type:=Int×Int×Int×Int×Z9×Z9×(List Int)×Bool
abbrev OI:Type:=(FD×Unit)×Unit
abbrev Zj:Type:=((List Int)×Bool×Unit)×Unit
abbrev JA:Ty:=.sl 2 (.int .i64)
abbrev ahr:Type:=Int×Int×Int×Bool×Unit
abbrev acN:Ty:=Am 6 (.int .i64)
abbrev RF:Type:=(ahn×Unit)×Unit
abbrev OJ:Type:=(Unit)×anz×Unit
abbrev acO:Type:=Int×jy×(Int×Int)×Int×Int×Int
abbrev anC:Type:=(List Int)×(List Bool)×(List sw)×Unit
abbrev Zk:Type:=(G8×Int×Unit)×Unit
abbrev ahs:Type:=((Unit)×(List jq)×Unit×Int×Int×Unit) -> Option jo
abbrev BR:Ty:=Am 24 .bool
abbrev OL:Ty:=.sl 142 J3
abbrev acP:Type:=Int×Bool×Unit
abbrev BS:Type:=PN Bool 24
abbrev RG:Type:=(List Int)×List Bool
abbrev Zl:Ty:=.sl 168 CY
abbrev Vl:Type:=List (List jq)
abbrev Zm:Type:=(Int×Int)×Bool
abbrev Zn:PT:=.fK 175 [cI,cI,.cell p9,.cell Zl,.cell .bool,.cell .bool,.cell .bool,.cell (.sl 59 uo),.cell um,.cell DK,.cell OL,.cell um,.cell DK,cI,cI,cI,cI,.cell ql,.cell ql,.cell ql,cI,cI,cI,cI,.cell (.int .u32),.own 51 acN,cI,cI,cI,cI]
abbrev apR:PT:=.pv (.lJ 271 [.ref ql,.ref (.int .i64)])
abbrev aoa:PT:=.val ⟨true,(.pair JA um),false⟩
abbrev apS:RT:=.val ⟨true,(.pair JA um),false⟩
abbrev aob:RT:=.val ⟨false,(.sl 378 ow),true⟩
abbrev WZ:PT:=.val ⟨false,um,false⟩
abbrev Zo:PT:=.val ⟨false,p9,false⟩
abbrev agc:PT:=.val ⟨true,Vj,false⟩
abbrev EC:PT:=.val ⟨false,ql,false⟩
abbrev aht:PT:=.val ⟨true,FC,false⟩
abbrev ahu:RT:=.val ⟨false,um,true⟩
abbrev Vm:PT:=.val ⟨true,anA,false⟩
abbrev RH:PT:=.val ⟨true,aho,false⟩
abbrev Zp:PT:=.val ⟨true,acL,false⟩
abbrev ahv:PT:=.val ⟨true,ow,false⟩
abbrev Vn:RT:=.val ⟨true,aho,true⟩
abbrev acQ:RT:=.val ⟨true,anA,true⟩
abbrev acR:RT:=.val ⟨true,acL,true⟩
abbrev Vo:PT:=.val ⟨true,BP,false⟩
abbrev acS:PT:=.val ⟨true,J3,false⟩
abbrev Zq:PT:=.pv (.ref (.int .i64))
noncomputable section
def E0:Env:=tab.env (fun _=>none) (fun _=>0)
theorem JB:aH Tryz.prog E0:=Kw Rt _ _ (fun f F h=>by cases h)
theorem okF {f:FuncId} {fn:Func} {F:Fn} {C:Code} {l:List (Nat×Fn)} (hl:Gu Tryz.prog l) (h:List (Nat×Nat)) (T:Nat -> rV (RD F.rs×MD F.ps)) (hf:Tryz.prog.funcs[f]? = some fn) (hb:fn.body=some C)
(h1:(fn.name == "runtime.NumGoroutine")=false:=by kernel_rfl) (h2:Nat.ble F.ps.length fn.ntmps=true:=by kernel_rfl)
(h3:∀ k,Bw (tab.env (lk l) (Rv h)) fn F.ps F.rs k true (T k)=Bw (tab.env (lk l) (Rv h)) fn F.ps F.rs k false (T k):=by intro k;kernel_rfl) (h4:∀ k x,F.sem k x=Gr (tab.env (lk l) (Rv h)) fn F.ps F.rs k (T k) x:=by intro k x;kernel_rfl):uO Tryz.prog f F :=
Kt (Kw Rt _ _ (Dm hl)) mix hf hb h1 h2 h3 h4
def Xx (A:Type):Type:=A -> A
abbrev O (f:Nat) (F:Fn):Prop:=uO Tryz.prog f F
theorem ah {f:Nat} {F:Fn} {l:List (Nat×Fn)} (h:O f F) (t:Gu Tryz.prog l):Gu Tryz.prog ((f,F)::l):=⟨h,t⟩
theorem aj:Gu Tryz.prog []:=trivial
abbrev On {A:Type}:Nat -> rV A:=fun _=>.nil
abbrev au:PT:=.val ⟨false,.int .i64,false⟩
abbrev rI:RT:=.val ⟨false,.int .i64,true⟩
abbrev rB:RT:=.val ⟨false,.bool,true⟩
abbrev ay:Int×Int×Int×Int×(Int×(PN Int 8)×(List (Int×Int×Int))×Bool)×(Int×(PN Int 8)×(List (Int×Int×Int))×Bool)×(List Int)×Bool:=(0,0,0,0,(0,Qn (α:=Int) 8 0,[],false),(0,Qn (α:=Int) 8 0,[],false),[],false)
abbrev bf:Int×(Int×Int)×(Int×Int)×((List Int)×List Int)×(Int×List (Int×Int))×Int:=(0,(0,0),(0,0),([],[]),(0,[]),0)
abbrev bg:Int×Int×Int×(List (Int×Int×Int×Int))×(List (Int×Int×Int×Int))×List (Int×Int×Int×Int):=(0,0,0,[],[],[])
abbrev bn:Int×(Int×Int×Int×(List (Int×Int×Int×Int))×(List (Int×Int×Int×Int))×List (Int×Int×Int×Int))×(Int×Int)×Int×Int×Int:=(0,(0,0,0,[],[],[]),(0,0),0,0,0)
abbrev bq:Int×(Int×(Int×Int×Int×(List (Int×Int×Int×Int))×(List (Int×Int×Int×Int))×List (Int×Int×Int×Int))×(Int×Int)×Int×Int×Int)×Int×Int:=(0,(0,(0,0,0,[],[],[]),(0,0),0,0,0),0,0)
def w0 { X Y Z:Type} (a:X×Z) (x:Y):Y×Z:=(x,a.2)
def w2 {A0 A1 X Y Z:Type} (a:A0×A1×X×Z) (x:Y):A0×A1×Y×Z:=(a.1,a.2.1,x,a.2.2.2)
def w3 {A0 A1 A2 X Y Z:Type} (a:A0×A1×A2×X×Z) (x:Y):A0×A1×A2×Y×Z:=(a.1,a.2.1,a.2.2.1,x,a.2.2.2.2)
def w4 {A0 A1 A2 A3 X Y Z:Type} (a:A0×A1×A2×A3×X×Z) (x:Y):A0×A1×A2×A3×Y×Z:=(a.1,a.2.1,a.2.2.1,a.2.2.2.1,x,a.2.2.2.2.2)
def w5 {A0 A1 A2 A3 A4 X Y Z:Type} (a:A0×A1×A2×A3×A4×X×Z) (x:Y):A0×A1×A2×A3×A4×Y×Z:=(a.1,a.2.1,a.2.2.1,a.2.2.2.1,a.2.2.2.2.1,x,a.2.2.2.2.2.2)
def w6 {A0 A1 A2 A3 A4 A5 X Y Z:Type} (a:A0×A1×A2×A3×A4×A5×X×Z) (x:Y):A0×A1×A2×A3×A4×A5×Y×Z:=(a.1,a.2.1,a.2.2.1,a.2.2.2.1,a.2.2.2.2.1,a.2.2.2.2.2.1,x,a.2.2.2.2.2.2.2)
def w7 {A0 A1 A2 A3 A4 A5 A6 X Y Z:Type} (a:A0×A1×A2×A3×A4×A5×A6×X×Z) (x:Y):A0×A1×A2×A3×A4×A5×A6×Y×Z:=(a.1,a.2.1,a.2.2.1,a.2.2.2.1,a.2.2.2.2.1,a.2.2.2.2.2.1,a.2.2.2.2.2.2.1,x,a.2.2.2.2.2.2.2.2)
def w8 {A0 A1 A2 A3 A4 A5 A6 A7 X Y Z:Type} (a:A0×A1×A2×A3×A4×A5×A6×A7×X×Z) (x:Y):A0×A1×A2×A3×A4×A5×A6×A7×Y×Z:=(a.1,a.2.1,a.2.2.1,a.2.2.2.1,a.2.2.2.2.1,a.2.2.2.2.2.1,a.2.2.2.2.2.2.1,a.2.2.2.2.2.2.2.1,x,a.2.2.2.2.2.2.2.2.2)
def z5 {A0 A1 A2 A3 A4 Y Z:Type} (a:A0×A1×A2×A3×A4×Z) (x:Y):A0×A1×A2×A3×A4×Y:=(a.1,a.2.1,a.2.2.1,a.2.2.2.1,a.2.2.2.2.1,x)
def z7 {A0 A1 A2 A3 A4 A5 A6 Y Z:Type} (a:A0×A1×A2×A3×A4×A5×A6×Z) (x:Y):A0×A1×A2×A3×A4×A5×A6×Y:=(a.1,a.2.1,a.2.2.1,a.2.2.2.1,a.2.2.2.2.1,a.2.2.2.2.2.1,a.2.2.2.2.2.2.1,x)
def z9 {A0 A1 A2 A3 A4 A5 A6 A7 A8 Y Z:Type} (a:A0×A1×A2×A3×A4×A5×A6×A7×A8×Z) (x:Y):A0×A1×A2×A3×A4×A5×A6×A7×A8×Y:=(a.1,a.2.1,a.2.2.1,a.2.2.2.1,a.2.2.2.2.1,a.2.2.2.2.2.1,a.2.2.2.2.2.2.1,a.2.2.2.2.2.2.2.1,a.2.2.2.2.2.2.2.2.1,x)
structure Iso (T R F:Type) where
 un:F -> T -> R
 cu:(T -> R) -> F
def dh {A T R F:Type} (s:Iso T R F):Iso (A×T) R (A -> F):=⟨fun f x=>s.un (f x.1) x.2,fun g a=>s.cu fun t=>g (a,t)⟩
def dw {T R F:Type} (s:Iso T R F):Iso (Unit×T) R F:=⟨fun f x=>s.un f x.2,fun g=>s.cu fun t=>g ((),t)⟩
def dx {R:Type}:Iso Unit R R:=⟨fun f _=>f,fun g=>g ()⟩
def dz {A R:Type}:Iso A R (A -> R):=⟨fun f=>f,fun g=>g⟩
def d9 {S T R F G:Type} (a:Iso S F G) (b:Iso T R F):Iso (S×T) R G:=⟨fun f x=>b.un (a.un f x.1) x.2,fun g=>a.cu fun x=>b.cu fun t=>g (x,t)⟩
def eu {T R F:Type} (s:Iso T R F) (f:F -> F) (g:T -> R):T -> R:=s.un (f (s.cu g))
def qd (d:Int×Int×(List jy)×G8×Bool×Bool×Bool×(List AY)×(List Int)×(List Bool)×(List sw)×(List Int)×(List Bool)×Int×Int×Int×Int×(List jq)×(List jq)×(List jq)×Int×Int×Int×Int×Int×(List (PN Int 6))×Int×Int×Int×Int×Unit):FZ×acO×(List (PN Int 6))×Int×(Int×Int)×Int:=((d.1,d.2.1,d.2.2.1,d.2.2.2.1,d.2.2.2.2.1,d.2.2.2.2.2.1,d.2.2.2.2.2.2.1,d.2.2.2.2.2.2.2.1,((d.2.2.2.2.2.2.2.2.1,d.2.2.2.2.2.2.2.2.2.1),d.2.2.2.2.2.2.2.2.2.2.1),d.2.2.2.2.2.2.2.2.2.2.2.1,d.2.2.2.2.2.2.2.2.2.2.2.2.1),(d.2.2.2.2.2.2.2.2.2.2.2.2.2.1,(d.2.2.2.2.2.2.2.2.2.2.2.2.2.2.1,d.2.2.2.2.2.2.2.2.2.2.2.2.2.2.2.1,d.2.2.2.2.2.2.2.2.2.2.2.2.2.2.2.2.1,d.2.2.2.2.2.2.2.2.2.2.2.2.2.2.2.2.2.1,d.2.2.2.2.2.2.2.2.2.2.2.2.2.2.2.2.2.2.1,d.2.2.2.2.2.2.2.2.2.2.2.2.2.2.2.2.2.2.2.1),(d.2.2.2.2.2.2.2.2.2.2.2.2.2.2.2.2.2.2.2.2.1,d.2.2.2.2.2.2.2.2.2.2.2.2.2.2.2.2.2.2.2.2.2.1),d.2.2.2.2.2.2.2.2.2.2.2.2.2.2.2.2.2.2.2.2.2.2.1,d.2.2.2.2.2.2.2.2.2.2.2.2.2.2.2.2.2.2.2.2.2.2.2.1,d.2.2.2.2.2.2.2.2.2.2.2.2.2.2.2.2.2.2.2.2.2.2.2.2.1),d.2.2.2.2.2.2.2.2.2.2.2.2.2.2.2.2.2.2.2.2.2.2.2.2.2.1,d.2.2.2.2.2.2.2.2.2.2.2.2.2.2.2.2.2.2.2.2.2.2.2.2.2.2.1,(d.2.2.2.2.2.2.2.2.2.2.2.2.2.2.2.2.2.2.2.2.2.2.2.2.2.2.2.1,d.2.2.2.2.2.2.2.2.2.2.2.2.2.2.2.2.2.2.2.2.2.2.2.2.2.2.2.2.1),d.2.2.2.2.2.2.2.2.2.2.2.2.2.2.2.2.2.2.2.2.2.2.2.2.2.2.2.2.2.1)
def BI (x:G5):Int×Int×(List jy)×G8×Bool×Bool×Bool×(List AY)×(List Int)×(List Bool)×(List sw)×(List Int)×(List Bool)×Int×Int×Int×Int×(List jq)×(List jq)×(List jq)×Int×Int×Int×Int×Int×(List (PN Int 6))×Int×Int×Int×Int×Unit:=(x.1.1,x.1.2.1,x.1.2.2.1,x.1.2.2.2.1,x.1.2.2.2.2.1,x.1.2.2.2.2.2.1,x.1.2.2.2.2.2.2.1,x.1.2.2.2.2.2.2.2.1,x.1.2.2.2.2.2.2.2.2.1.1.1,x.1.2.2.2.2.2.2.2.2.1.1.2,x.1.2.2.2.2.2.2.2.2.1.2,x.1.2.2.2.2.2.2.2.2.2.1,x.1.2.2.2.2.2.2.2.2.2.2,x.2.1.1,x.2.1.2.1.1,x.2.1.2.1.2.1,x.2.1.2.1.2.2.1,x.2.1.2.1.2.2.2.1,x.2.1.2.1.2.2.2.2.1,x.2.1.2.1.2.2.2.2.2,x.2.1.2.2.1.1,x.2.1.2.2.1.2,x.2.1.2.2.2.1,x.2.1.2.2.2.2.1,x.2.1.2.2.2.2.2,x.2.2.1,x.2.2.2.1,x.2.2.2.2.1.1,x.2.2.2.2.1.2,x.2.2.2.2.2,())
theorem vrA (x:G5):qd (BI x)=x:=rfl
def tvJ (d:Int×Int×Int×Int×Int×Int×Int×Int×Int×Int×Int×Int×Int×(List (Int×Int×Int))×Bool×Int×Int×Int×Int×Int×Int×Int×Int×Int×(List (Int×Int×Int))×Bool×(List Int)×Bool×Unit):Int×Int×Int×Int×Z9×Z9×(List Int)×Bool:=(d.1,d.2.1,d.2.2.1,d.2.2.2.1,(d.2.2.2.2.1,(d.2.2.2.2.2.1,d.2.2.2.2.2.2.1,d.2.2.2.2.2.2.2.1,d.2.2.2.2.2.2.2.2.1,d.2.2.2.2.2.2.2.2.2.1,d.2.2.2.2.2.2.2.2.2.2.1,d.2.2.2.2.2.2.2.2.2.2.2.1,d.2.2.2.2.2.2.2.2.2.2.2.2.1),d.2.2.2.2.2.2.2.2.2.2.2.2.2.1,d.2.2.2.2.2.2.2.2.2.2.2.2.2.2.1),(d.2.2.2.2.2.2.2.2.2.2.2.2.2.2.2.1,(d.2.2.2.2.2.2.2.2.2.2.2.2.2.2.2.2.1,d.2.2.2.2.2.2.2.2.2.2.2.2.2.2.2.2.2.1,d.2.2.2.2.2.2.2.2.2.2.2.2.2.2.2.2.2.2.1,d.2.2.2.2.2.2.2.2.2.2.2.2.2.2.2.2.2.2.2.1,d.2.2.2.2.2.2.2.2.2.2.2.2.2.2.2.2.2.2.2.2.1,d.2.2.2.2.2.2.2.2.2.2.2.2.2.2.2.2.2.2.2.2.2.1,d.2.2.2.2.2.2.2.2.2.2.2.2.2.2.2.2.2.2.2.2.2.2.1,d.2.2.2.2.2.2.2.2.2.2.2.2.2.2.2.2.2.2.2.2.2.2.2.1),d.2.2.2.2.2.2.2.2.2.2.2.2.2.2.2.2.2.2.2.2.2.2.2.2.1,d.2.2.2.2.2.2.2.2.2.2.2.2.2.2.2.2.2.2.2.2.2.2.2.2.2.1),d.2.2.2.2.2.2.2.2.2.2.2.2.2.2.2.2.2.2.2.2.2.2.2.2.2.2.1,d.2.2.2.2.2.2.2.2.2.2.2.2.2.2.2.2.2.2.2.2.2.2.2.2.2.2.2.1)
def trJ (x:acM):Int×Int×Int×Int×Int×Int×Int×Int×Int×Int×Int×Int×Int×(List (Int×Int×Int))×Bool×Int×Int×Int×Int×Int×Int×Int×Int×Int×(List (Int×Int×Int))×Bool×(List Int)×Bool×Unit:=(x.1,x.2.1,x.2.2.1,x.2.2.2.1,x.2.2.2.2.1.1,x.2.2.2.2.1.2.1.1,x.2.2.2.2.1.2.1.2.1,x.2.2.2.2.1.2.1.2.2.1,x.2.2.2.2.1.2.1.2.2.2.1,x.2.2.2.2.1.2.1.2.2.2.2.1,x.2.2.2.2.1.2.1.2.2.2.2.2.1,x.2.2.2.2.1.2.1.2.2.2.2.2.2.1,x.2.2.2.2.1.2.1.2.2.2.2.2.2.2,x.2.2.2.2.1.2.2.1,x.2.2.2.2.1.2.2.2,x.2.2.2.2.2.1.1,x.2.2.2.2.2.1.2.1.1,x.2.2.2.2.2.1.2.1.2.1,x.2.2.2.2.2.1.2.1.2.2.1,x.2.2.2.2.2.1.2.1.2.2.2.1,x.2.2.2.2.2.1.2.1.2.2.2.2.1,x.2.2.2.2.2.1.2.1.2.2.2.2.2.1,x.2.2.2.2.2.1.2.1.2.2.2.2.2.2.1,x.2.2.2.2.2.1.2.1.2.2.2.2.2.2.2,x.2.2.2.2.2.1.2.2.1,x.2.2.2.2.2.1.2.2.2,x.2.2.2.2.2.2.1,x.2.2.2.2.2.2.2,())
theorem vrJ (x:acM):tvJ (trJ x)=x:=rfl
def Z7 (d:Int×Int×(List jy)×G8×Bool×Bool×Bool×(List AY)×(List Int)×(List Bool)×(List sw)×(List Int)×(List Bool)×Unit):Int×Int×(List jy)×G8×Bool×Bool×Bool×(List AY)×ahn×(List Int)×List Bool:=(d.1,d.2.1,d.2.2.1,d.2.2.2.1,d.2.2.2.2.1,d.2.2.2.2.2.1,d.2.2.2.2.2.2.1,d.2.2.2.2.2.2.2.1,((d.2.2.2.2.2.2.2.2.1,d.2.2.2.2.2.2.2.2.2.1),d.2.2.2.2.2.2.2.2.2.2.1),d.2.2.2.2.2.2.2.2.2.2.2.1,d.2.2.2.2.2.2.2.2.2.2.2.2.1)
def J4 (x:BQ):Int×Int×(List jy)×G8×Bool×Bool×Bool×(List AY)×(List Int)×(List Bool)×(List sw)×(List Int)×(List Bool)×Unit:=(x.1,x.2.1,x.2.2.1,x.2.2.2.1,x.2.2.2.2.1,x.2.2.2.2.2.1,x.2.2.2.2.2.2.1,x.2.2.2.2.2.2.2.1,x.2.2.2.2.2.2.2.2.1.1.1,x.2.2.2.2.2.2.2.2.1.1.2,x.2.2.2.2.2.2.2.2.1.2,x.2.2.2.2.2.2.2.2.2.1,x.2.2.2.2.2.2.2.2.2.2,())
theorem vrK (x:BQ):Z7 (J4 x)=x:=rfl
def tvP (d:Int×Int×Int×Int×Int×(List jq)×(List jq)×(List jq)×Int×Int×Int×Int×Int×Int×Int×Unit):Int×acO×Int×Int:=(d.1,(d.2.1,(d.2.2.1,d.2.2.2.1,d.2.2.2.2.1,d.2.2.2.2.2.1,d.2.2.2.2.2.2.1,d.2.2.2.2.2.2.2.1),(d.2.2.2.2.2.2.2.2.1,d.2.2.2.2.2.2.2.2.2.1),d.2.2.2.2.2.2.2.2.2.2.1,d.2.2.2.2.2.2.2.2.2.2.2.1,d.2.2.2.2.2.2.2.2.2.2.2.2.1),d.2.2.2.2.2.2.2.2.2.2.2.2.2.1,d.2.2.2.2.2.2.2.2.2.2.2.2.2.2.1)
def trP (x:Int×acO×Int×Int):Int×Int×Int×Int×Int×(List jq)×(List jq)×(List jq)×Int×Int×Int×Int×Int×Int×Int×Unit:=(x.1,x.2.1.1,x.2.1.2.1.1,x.2.1.2.1.2.1,x.2.1.2.1.2.2.1,x.2.1.2.1.2.2.2.1,x.2.1.2.1.2.2.2.2.1,x.2.1.2.1.2.2.2.2.2,x.2.1.2.2.1.1,x.2.1.2.2.1.2,x.2.1.2.2.2.1,x.2.1.2.2.2.2.1,x.2.1.2.2.2.2.2,x.2.2.1,x.2.2.2,())
theorem vrP (x:Int×acO×Int×Int):tvP (trP x)=x:=rfl
def vg (d:Int×Int×(List jy)×G8×Bool×Bool×Bool×(List AY)×(List Int)×(List Bool)×(List sw)×(List Int)×(List Bool)×(List (PN Int 6))×Unit):FZ×List (PN Int 6):=((d.1,d.2.1,d.2.2.1,d.2.2.2.1,d.2.2.2.2.1,d.2.2.2.2.2.1,d.2.2.2.2.2.2.1,d.2.2.2.2.2.2.2.1,((d.2.2.2.2.2.2.2.2.1,d.2.2.2.2.2.2.2.2.2.1),d.2.2.2.2.2.2.2.2.2.2.1),d.2.2.2.2.2.2.2.2.2.2.2.1,d.2.2.2.2.2.2.2.2.2.2.2.2.1),d.2.2.2.2.2.2.2.2.2.2.2.2.2.1)
def zh (x:FZ×List (PN Int 6)):Int×Int×(List jy)×G8×Bool×Bool×Bool×(List AY)×(List Int)×(List Bool)×(List sw)×(List Int)×(List Bool)×(List (PN Int 6))×Unit:=(x.1.1,x.1.2.1,x.1.2.2.1,x.1.2.2.2.1,x.1.2.2.2.2.1,x.1.2.2.2.2.2.1,x.1.2.2.2.2.2.2.1,x.1.2.2.2.2.2.2.2.1,x.1.2.2.2.2.2.2.2.2.1.1.1,x.1.2.2.2.2.2.2.2.2.1.1.2,x.1.2.2.2.2.2.2.2.2.1.2,x.1.2.2.2.2.2.2.2.2.2.1,x.1.2.2.2.2.2.2.2.2.2.2,x.2,())
theorem Z8 (x:FZ×List (PN Int 6)):vg (zh x)=x:=rfl
def apT (k:Nat) (a:Int):Option ((FH×Unit)×Unit) :=
 mk (mn (mx a 0) 64) (mn (mx a 0) 64) 8 <|
 mk (mn (mx a 0) 64) (mn (mx a 0) 64) 1 <|
 some (((List.replicate (mn (mx a 0) 64).toNat (0:Int),List.replicate (mn (mx a 0) 64).toNat (false:Bool)),()),())
def F164:Fn:=⟨[au],[Vn],fun k x=>apT k x.1⟩
theorem ok164:O 164 F164:=okF aj [] On Tryz.func164 rfl
def S86 (k:Nat):Option RF :=
 (apT k 12).bind fun q0 =>
 mk 12 12 128 <|
 some (((q0.1.1,List.replicate 12 (bf:Za)),()),())
def F86:Fn:=⟨[],[acQ],fun k x=>S86 k ⟩
theorem ok86:O 86 F86:=okF (ah ok164 aj) [] On Tryz.func86 rfl
def S87 (k:Nat) (a:Int):Option ((FH×Unit)×Unit) :=
 mk (mn (mx a 0) 65536) (mn (mx a 0) 65536) 8 <|
 mk (mn (mx a 0) 65536) (mn (mx a 0) 65536) 1 <|
 some (((List.replicate (mn (mx a 0) 65536).toNat (0:Int),List.replicate (mn (mx a 0) 65536).toNat (false:Bool)),()),())
def F87:Fn:=⟨[au],[Vn],fun k x=>S87 k x.1⟩
theorem ok87:O 87 F87:=okF aj [] On Tryz.func87 rfl
def S36 (k:Nat) (a:Int):Option ((FZ×Bool×Unit)×Unit) :=
 (bif decide (a<1) then
  some (((0,0,[],[],false,false,false,[],(([],[]),[]),[],[]),false,()),())
 else
  (bif decide (a>4611686018427387904) then
   some (((0,0,[],[],false,false,false,[],(([],[]),[]),[],[]),false,()),())
  else
   (S86 k).bind fun q0 =>
   (S87 k 0).bind fun q1 =>
   some (((0,a,[],[],false,false,false,[],q0.1.1,q1.1.1),true,()),())))
def F36:Fn:=⟨[au],[acR,rB],fun k x=>S36 k x.1⟩
theorem ok36:O 36 F36:=okF (ah ok86 <| ah ok87 aj) [] On Tryz.func36 rfl
def M9 (k:Nat) (a:Int):Option j6 :=
 (bif decide (a≥0) then
  some ((decide (a<8),()),())
 else
  some ((false,()),()))
def F264:Fn:=⟨[au],[rB],fun k x=>M9 k x.1⟩
theorem ok264:O 264 F264:=okF aj [] On Tryz.func264 rfl
def RI (k:Nat) (a b c:Int):Option j6 :=
 (bif decide (a≥b) then
  some ((decide (a <= c),()),())
 else
  some ((false,()),()))
def F265:Fn:=⟨[au,au,au],[rB],fun k (a,b,c,_)=>RI k a b c⟩
theorem ok265:O 265 F265:=okF aj [] On Tryz.func265 rfl
def ahx (k:Nat) (a:Int×Int×Int×Int):Option j6 :=
 (bif a.1==0 then
  (bif a.2.1==0 then
   (bif a.2.2.1==0 then
    some ((a.2.2.2==0,()),())
   else
    some ((false,()),()))
  else
   some ((false,()),()))
 else
  (bif a.1==11 then
   (bif a.2.1==0 then
    (bif a.2.2.1==0 then
     some ((a.2.2.2==0,()),())
    else
     some ((false,()),()))
   else
    some ((false,()),()))
  else
   (bif a.1==1 then
    (M9 k a.2.1).bind fun q0 =>
    (bif q0.1.1 then
     (bif a.2.2.1==0 then
      (RI k a.2.2.2 (-2147483648) 2147483647).bind fun q1 =>
      some ((q1.1.1,()),())
     else
      some ((false,()),()))
    else
     some ((false,()),()))
   else
    (bif a.1==2 then
     (M9 k a.2.1).bind fun q2 =>
     (bif q2.1.1 then
      (M9 k a.2.2.1).bind fun q3 =>
      (bif q3.1.1 then
       some ((a.2.2.2==0,()),())
      else
       some ((false,()),()))
     else
      some ((false,()),()))
    else
     (bif a.1==3 then
      (M9 k a.2.1).bind fun q4 =>
      (bif q4.1.1 then
       (M9 k a.2.2.1).bind fun q5 =>
       (bif q5.1.1 then
        some ((a.2.2.2==0,()),())
       else
        some ((false,()),()))
      else
       some ((false,()),()))
     else
      (bif a.1==4 then
       (M9 k a.2.1).bind fun q6 =>
       (bif q6.1.1 then
        (M9 k a.2.2.1).bind fun q7 =>
        (bif q7.1.1 then
         some ((a.2.2.2==0,()),())
        else
         some ((false,()),()))
       else
        some ((false,()),()))
      else
       (bif a.1==5 then
        (M9 k a.2.1).bind fun q8 =>
        (bif q8.1.1 then
         (bif a.2.2.1==0 then
          (RI k a.2.2.2 (-63) 63).bind fun q9 =>
          some ((q9.1.1,()),())
         else
          some ((false,()),()))
        else
         some ((false,()),()))
       else
        (bif a.1==6 then
         (M9 k a.2.1).bind fun q10 =>
         (bif q10.1.1 then
          (bif a.2.2.1==0 then
           (RI k a.2.2.2 1 64).bind fun V4 =>
           some ((V4.1.1,()),())
          else
           some ((false,()),()))
         else
          some ((false,()),()))
        else
         (bif a.1==7 then
          (M9 k a.2.1).bind fun q12 =>
          (bif q12.1.1 then
           (bif a.2.2.1==0 then
            (RI k a.2.2.2 1 24).bind fun q13 =>
            some ((q13.1.1,()),())
           else
            some ((false,()),()))
          else
           some ((false,()),()))
         else
          (bif a.1==8 then
           (bif a.2.1==0 then
            (RI k a.2.2.1 1 24).bind fun q14 =>
            (bif q14.1.1 then
             (RI k a.2.2.2 1 20).bind fun q15 =>
             some ((q15.1.1,()),())
            else
             some ((false,()),()))
           else
            some ((false,()),()))
          else
           (bif a.1==9 then
            (RI k a.2.1 0 3).bind fun q16 =>
            (bif q16.1.1 then
             (bif a.2.2.1==0 then
              some ((a.2.2.2==0,()),())
             else
              some ((false,()),()))
            else
             some ((false,()),()))
           else
            (bif a.1==10 then
             (RI k a.2.1 0 3).bind fun q17 =>
             (bif q17.1.1 then
              (bif a.2.2.1==0 then
               some ((a.2.2.2==0,()),())
              else
               some ((false,()),()))
             else
              some ((false,()),()))
            else
             some ((false,()),())))))))))))))
def F188:Fn:=⟨[agc],[rB],fun k x=>ahx k x.1⟩
theorem ok188:O 188 F188:=okF (ah ok264 <| ah ok265 aj) [] On Tryz.func188 rfl
def aoc (k:Nat) (a:Int×Int×Int×Int):Option j6 :=
 (ahx k a).bind fun q0 =>
 some ((!q0.1.1,()),())
def F187:Fn:=⟨[agc],[rB],fun k x=>aoc k x.1⟩
theorem ok187:O 187 F187:=okF (ah ok188 aj) [] On Tryz.func187 rfl
abbrev acT:Cut:=⟨[0,1,7,8],[.cell ql,.lJ 187 [],cI,cI],[],19,[]⟩
def X0 (k:Nat) (g2:(List jq) -> Int -> Int -> Option jo) (a:List jq) (b c:Int):Option jo :=
 (bif decide (c<b) then
  ix a c <|
  (aoc k (rd a c (0,0,0,0))).bind fun q0 =>
  (bif q0.1.1 then
   some ((c,()),())
  else
   g2 a b (IntKind.i64.wrap (c+1)))
 else
  some (((-1),()),()))
def ahz (k:Nat):Xx (ahs):=eu (dw (dh (dw (dh (dh dx))))) (X0 k)
def MB (k a:Nat) (b:List jq) (c e:Int):Option jo:=iter acT (ahz k) a ((),b,(),c,e,())
theorem Zr (k a b c e):MB k (a+1) b c e=X0 k (MB k a) b c e:=Ba _ _ _ _
def akW (k:Nat) (a:List jq):Option jo :=
 MB k k a (a.length:Int) 0
def F130:Fn:=⟨[EC,.pv (.lJ 187 [])],[rI],fun k x=>akW k x.1⟩
theorem ok130:O 130 F130:=okF (ah ok187 aj) [] (fun k=>(.loop 2 acT (ahz k) (fun g=>.nil) .nil)) Tryz.func130 rfl
def S57 (k:Nat) (a:List jq):Option j6 :=
 (akW k a).bind fun q0 =>
 some ((decide (q0.1.1≥0),()),())
def F57:Fn:=⟨[EC,.pv (.lJ 187 [])],[rB],fun k x=>S57 k x.1⟩
theorem ok57:O 57 F57:=okF (ah ok130 aj) [] On Tryz.func57 rfl
def aod (k:Nat) (a:Int×Int×Int×Int):Option j6 :=
 some ((a.1==0,()),())
def F189:Fn:=⟨[agc],[rB],fun k x=>aod k x.1⟩
theorem ok189:O 189 F189:=okF aj [] On Tryz.func189 rfl
abbrev Zt:Cut:=⟨[0,1,7,8],[.cell ql,.lJ 189 [],cI,cI],[],19,[]⟩
def PU (k:Nat) (g2:(List jq) -> Int -> Int -> Option jo) (a:List jq) (b c:Int):Option jo :=
 (bif decide (c<b) then
  ix a c <|
  (aod k (rd a c (0,0,0,0))).bind fun q0 =>
  (bif q0.1.1 then
   some ((c,()),())
  else
   g2 a b (IntKind.i64.wrap (c+1)))
 else
  some (((-1),()),()))
def acU (k:Nat):Xx (ahs):=eu (dw (dh (dw (dh (dh dx))))) (PU k)
def HV (k a:Nat) (b:List jq) (c e:Int):Option jo:=iter Zt (acU k) a ((),b,(),c,e,())
theorem Vp (k a b c e):HV k (a+1) b c e=PU k (HV k a) b c e:=Ba _ _ _ _
def acV (k:Nat) (a:List jq):Option jo :=
 HV k k a (a.length:Int) 0
def F130a:Fn:=⟨[EC,.pv (.lJ 189 [])],[rI],fun k x=>acV k x.1⟩
theorem ok130a:O 130 F130a:=okF (ah ok189 aj) [] (fun k=>(.loop 2 Zt (acU k) (fun g=>.nil) .nil)) Tryz.func130 rfl
abbrev acW:Cut:=⟨[2,5,6,7],[.own 365 FC,.cell ql,cI,cI],[],42,[]⟩
def X3 (k:Nat) (g2:vv -> (List jq) -> Int -> Int -> Option ((vv×Unit)×Unit)) (a:List qx) (b:List jq) (c e:Int):Option ((vv×Unit)×Unit) :=
 (bif decide (e<c) then
  ix b e <|
  (bif (rd b e (0,0,0,0)).1==8 then
   ap a ([(IntKind.i64.wrap (e+1),IntKind.i64.wrap (e+(rd b e (0,0,0,0)).2.2.1),e,true)]:List qx) 32 fun r0 =>
   g2 r0 b c (IntKind.i64.wrap (e+1))
  else
   (bif (rd b e (0,0,0,0)).1==7 then
    ap a ([(IntKind.i64.wrap (e+1),IntKind.i64.wrap (e+(rd b e (0,0,0,0)).2.2.2),e,false)]:List qx) 32 fun r1 =>
    g2 r1 b c (IntKind.i64.wrap (e+1))
   else
    g2 a b c (IntKind.i64.wrap (e+1))))
 else
  some ((a,()),()))
def ahA (k:Nat):Xx (((Unit)×vv×(List jq)×Int×Int×Unit) -> Option ((vv×Unit)×Unit)):=eu (dw (dh (dh (dh (dh dx))))) (X3 k)
def MC (k a:Nat) (b:List qx) (c:List jq) (e f:Int):Option ((vv×Unit)×Unit):=iter acW (ahA k) a ((),b,c,e,f,())
theorem Zu (k a b c e f):MC k (a+1) b c e f=X3 k (MC k a) b c e f:=Ba _ _ _ _
def ahB (k:Nat) (a:List jq):Option ((vv×Unit)×Unit) :=
 MC k k ([]:List qx) a (a.length:Int) 0
def F266:Fn:=⟨[EC],[.val ⟨false,(.sl 365 FC),true⟩],fun k x=>ahB k x.1⟩
theorem ok266:O 266 F266:=okF aj [(2,2)] (fun k=>(.loop 2 acW (ahA k) (fun g=>.nil) .nil)) Tryz.func266 rfl
def abY (k:Nat) (a:Int×Int×Int×Bool) (b:Int):Option j6 :=
 (bif decide (b≥a.1) then
  some ((decide (b <= a.2.1),()),())
 else
  some ((false,()),()))
def F267:Fn:=⟨[aht,au],[rB],fun k x=>abY k x.1 x.2.1⟩
theorem ok267:O 267 F267:=okF aj [] On Tryz.func267 rfl
def Zv (k:Nat) (a b:Int×Int×Int×Bool):Option j6 :=
 (abY k b a.1).bind fun q0 =>
 (bif q0.1.1 then
  (abY k b a.2.1).bind fun q1 =>
  some ((q1.1.1,()),())
 else
  some ((false,()),()))
def F268:Fn:=⟨[aht,aht],[rB],fun k x=>Zv k x.1 x.2.1⟩
theorem ok268:O 268 F268:=okF (ah ok267 aj) [] On Tryz.func268 rfl
def ahC (k:Nat) (a b:Int×Int×Int×Bool):Option j6 :=
 (bif decide (a.2.1<b.1) then
  some ((true,()),())
 else
  some ((decide (b.2.1<a.1),()),()))
def F269:Fn:=⟨[aht,aht],[rB],fun k x=>ahC k x.1 x.2.1⟩
theorem ok269:O 269 F269:=okF aj [] On Tryz.func269 rfl
def aoe (k:Nat) (a:Int):Option j6 :=
 some ((decide (a>2),()),())
def F270:Fn:=⟨[au],[rB],fun k x=>aoe k x.1⟩
theorem ok270:O 270 F270:=okF aj [] On Tryz.func270 rfl
abbrev acX:Cut:=⟨[0,1,7,8],[.cell um,.lJ 270 [],cI,cI],[],19,[]⟩
def X4 (k:Nat) (g2:(List Int) -> Int -> Int -> Option jo) (a:List Int) (b c:Int):Option jo :=
 (bif decide (c<b) then
  ix a c <|
  (aoe k (rd a c 0)).bind fun q0 =>
  (bif q0.1.1 then
   some ((c,()),())
  else
   g2 a b (IntKind.i64.wrap (c+1)))
 else
  some (((-1),()),()))
def ahD (k:Nat):Xx (((Unit)×(List Int)×Unit×Int×Int×Unit) -> Option jo):=eu (dw (dh (dw (dh (dh dx))))) (X4 k)
def ME (k a:Nat) (b:List Int) (c e:Int):Option jo:=iter acX (ahD k) a ((),b,(),c,e,())
theorem Zw (k a b c e):ME k (a+1) b c e=X4 k (ME k a) b c e:=Ba _ _ _ _
def akX (k:Nat) (a:List Int):Option jo :=
 ME k k a (a.length:Int) 0
def F272:Fn:=⟨[WZ,.pv (.lJ 270 [])],[rI],fun k x=>akX k x.1⟩
theorem ok272:O 272 F272:=okF (ah ok270 aj) [] (fun k=>(.loop 2 acX (ahD k) (fun g=>.nil) .nil)) Tryz.func272 rfl
def akY (k:Nat) (a:List Int):Option j6 :=
 (akX k a).bind fun q0 =>
 some ((decide (q0.1.1≥0),()),())
def F193:Fn:=⟨[WZ,.pv (.lJ 270 [])],[rB],fun k x=>akY k x.1⟩
theorem ok193:O 193 F193:=okF (ah ok272 aj) [] On Tryz.func193 rfl
abbrev Zx:Cut:=⟨[0,3,4,6,9,15,16,17],[.cell ql,.cell (.sl 365 FC),.own 3 (.int .i64),.box 365 [cI,cI,cI,.cell .bool],cI,.cell (.sl 365 FC),cI,cI],[],84,[]⟩
def KH (k:Nat) (g4:OH) (g15:(List jq) -> vv -> (List Int) -> Int -> Int -> Int -> Bool -> Int -> vv -> Int -> Int -> Option j6) (a:List jq) (b:List qx) (c:List Int) (e f h:Int) (i:Bool) (l:Int) (m:List qx) (n o:Int):Option j6 :=
 (bif i then
  (bif decide (l <= f) then
   ix c l <|
   ix c l <|
   g15 a b (upd c l (IntKind.i64.wrap ((rd c l 0)+1))) e f h i (IntKind.i64.wrap (l+1)) m n o
  else
   g4 a b c m n (IntKind.i64.wrap (o+1)))
 else
  g4 a b c m n (IntKind.i64.wrap (o+1)))
def acY (k:Nat) (g4:OH):Xx (((Unit)×(List jq)×vv×(List Int)×ahr×Int×vv×Int×Int×Unit) -> Option j6):=eu (dw (dh (dh (dh (d9 (dh (dh (dh (dh dx)))) (dh (dh (dh (dh dx))))))))) (KH k g4)
def HY (k:Nat) (g4:OH) (a:Nat) (b:List jq) (c:List qx) (e:List Int) (f h i:Int) (l:Bool) (m:Int) (n:List qx) (o p:Int):Option j6:=iter Zx (acY k g4) a ((),b,c,e,(f,h,i,l,()),m,n,o,p,())
theorem MF (k g4 a b c e f h i l m n o p):HY k g4 (a+1) b c e f h i l m n o p=KH k g4 (HY k g4 a) b c e f h i l m n o p:=Ba _ _ _ _
abbrev acZ:Cut:=⟨[0,3,4,6,15,16,17,27,28,29],[.cell ql,.cell (.sl 365 FC),.own 3 (.int .i64),.box 365 [cI,cI,cI,.cell .bool],.cell (.sl 365 FC),cI,cI,.cell (.sl 365 FC),cI,cI],[],84,[]⟩
def X5 (k:Nat) (g4:OH) (g9:(List jq) -> vv -> (List Int) -> Int -> Int -> Int -> Bool -> vv -> Int -> Int -> vv -> Int -> Int -> Option j6) (a:List jq) (b:List qx) (c:List Int) (e f h:Int) (i:Bool) (l:List qx) (m n:Int) (o:List qx) (p s:Int):Option j6 :=
 (bif decide (s<p) then
  ix o s <|
  (abY k (rd o s (0,0,0,false)) h).bind fun q1 =>
  (bif q1.1.1 then
   (Zv k (e,f,h,i) (rd o s (0,0,0,false))).bind fun q2 =>
   (bif !q2.1.1 then
    some ((false,()),())
   else
    (ahC k (e,f,h,i) (rd o s (0,0,0,false))).bind fun q3 =>
    (bif !q3.1.1 then
     (Zv k (e,f,h,i) (rd o s (0,0,0,false))).bind fun q4 =>
     (bif !q4.1.1 then
      (Zv k (rd o s (0,0,0,false)) (e,f,h,i)).bind fun q5 =>
      (bif !q5.1.1 then
       some ((false,()),())
      else
       g9 a b c e f h i l m n o p (IntKind.i64.wrap (s+1)))
     else
      g9 a b c e f h i l m n o p (IntKind.i64.wrap (s+1)))
    else
     g9 a b c e f h i l m n o p (IntKind.i64.wrap (s+1))))
  else
   (ahC k (e,f,h,i) (rd o s (0,0,0,false))).bind fun q6 =>
   (bif !q6.1.1 then
    (Zv k (e,f,h,i) (rd o s (0,0,0,false))).bind fun q7 =>
    (bif !q7.1.1 then
     (Zv k (rd o s (0,0,0,false)) (e,f,h,i)).bind fun q8 =>
     (bif !q8.1.1 then
      some ((false,()),())
     else
      g9 a b c e f h i l m n o p (IntKind.i64.wrap (s+1)))
    else
     g9 a b c e f h i l m n o p (IntKind.i64.wrap (s+1)))
   else
    g9 a b c e f h i l m n o p (IntKind.i64.wrap (s+1))))
 else
  HY k g4 k a b c e f h i e l m n)
def ahE (k:Nat) (g4:OH):Xx (((Unit)×(List jq)×vv×(List Int)×ahr×vv×Int×Int×vv×Int×Int×Unit) -> Option j6):=eu (dw (dh (dh (dh (d9 (dh (dh (dh (dh dx)))) (dh (dh (dh (dh (dh (dh dx))))))))))) (X5 k g4)
def X6 (k:Nat) (g4:OH) (a:Nat) (b:List jq) (c:List qx) (e:List Int) (f h i:Int) (l:Bool) (m:List qx) (n o:Int) (p:List qx) (s t:Int):Option j6:=iter acZ (ahE k g4) a ((),b,c,e,(f,h,i,l,()),m,n,o,p,s,t,())
theorem Zy (k g4 a b c e f h i l m n o p s t):X6 k g4 (a+1) b c e f h i l m n o p s t=X5 k g4 (X6 k g4 a) b c e f h i l m n o p s t:=Ba _ _ _ _
abbrev ac0:Cut:=⟨[0,3,4,15,16,17],[.cell ql,.cell (.sl 365 FC),.own 3 (.int .i64),.cell (.sl 365 FC),cI,cI],[],84,[]⟩
def X7 (k:Nat) (g4:OH) (a:List jq) (b:List qx) (c:List Int) (e:List qx) (f h:Int):Option j6 :=
 (bif decide (h<f) then
  ix e h <|
  (bif decide ((rd e h (0,0,0,false)).2.1≥(IntKind.i64.wrap ((a.length:Int) - 1))) then
   some ((false,()),())
  else
   X6 k g4 k a b c (rd e h (0,0,0,false)).1 (rd e h (0,0,0,false)).2.1 (rd e h (0,0,0,false)).2.2.1 (rd e h (0,0,0,false)).2.2.2 e f h b (b.length:Int) 0)
 else
  (akY k c).bind fun q9 =>
  some ((!q9.1.1,()),()))
def ahF (k:Nat):Xx (((Unit)×(List jq)×vv×(List Int)×vv×Int×Int×Unit) -> Option j6):=eu (dw (dh (dh (dh (dh (dh (dh dx))))))) (X7 k)
def RJ (k a:Nat) (b:List jq) (c:List qx) (e:List Int) (f:List qx) (h i:Int):Option j6:=iter ac0 (ahF k) a ((),b,c,e,f,h,i,())
theorem Zz (k a b c e f h i):RJ k (a+1) b c e f h i=X7 k (RJ k a) b c e f h i:=Ba _ _ _ _
def akZ (k:Nat) (a:List jq):Option j6 :=
 (ahB k a).bind fun q0 =>
 mk (a.length:Int) (a.length:Int) 8 <|
 RJ k k a q0.1.1 (List.replicate (a.length:Int).toNat (0:Int)) q0.1.1 (q0.1.1.length:Int) 0
def F190:Fn:=⟨[EC],[rB],fun k x=>akZ k x.1⟩
theorem ok190:O 190 F190:=okF (ah ok193 <| ah ok266 <| ah ok267 <| ah ok268 <| ah ok269 aj) [] (fun k=>(.loop 4 ac0 (ahF k) (fun g=>(fun (g4:OH)=>(.loop 15 Zx (acY k g4) (fun g=>.nil) (.loop 9 acZ (ahE k g4) (fun g=>.nil) .nil))) (fun l_1 all around t15 t16 t17=>g ((),l_1,all,around,t15,t16,t17,()))) .nil)) Tryz.func190 rfl
abbrev ac1:Cut:=⟨[0,3,4,5,11,12,13,19,20],[.cell ql,.own 286 BR,cI,.box 365 [cI,cI,cI,.cell .bool],.own 365 FC,cI,cI,cI,cI],[],38,[]⟩
def X8 (k:Nat) (g3:Zb) (g6:(List jq) -> FD -> Int -> Int -> Int -> Int -> Bool -> vv -> Int -> Int -> Int -> Int -> Option OI) (a:List jq) (b:List BS) (c e f h:Int) (i:Bool) (l:List qx) (m n o p:Int):Option OI :=
 (bif decide (p<o) then
  (bif decide (c<24) then
   (abY k (e,f,h,i) p).bind fun q1 =>
   (bif q1.1.1 then
    ix b p <|
    ax 24 c <|
    g6 a (upd b p (Ur (α:=Bool) 24 (rd b p (Qn (α:=Bool) 24 false)) c true)) c e f h i l m n o (IntKind.i64.wrap (p+1))
   else
    g6 a b c e f h i l m n o (IntKind.i64.wrap (p+1)))
  else
   g6 a b c e f h i l m n o (IntKind.i64.wrap (p+1)))
 else
  g3 a b l m (IntKind.i64.wrap (n+1)))
def ahH (k:Nat) (g3:Zb):Xx (((Unit)×(List jq)×FD×Int×ahr×vv×Int×Int×Int×Int×Unit) -> Option OI):=eu (dw (dh (dh (dh (d9 (dh (dh (dh (dh dx)))) (dh (dh (dh (dh (dh dx)))))))))) (X8 k g3)
def X9 (k:Nat) (g3:Zb) (a:Nat) (b:List jq) (c:List BS) (e f h i:Int) (l:Bool) (m:List qx) (n o p s:Int):Option OI:=iter ac1 (ahH k g3) a ((),b,c,e,(f,h,i,l,()),m,n,o,p,s,())
theorem ZA (k g3 a b c e f h i l m n o p s):X9 k g3 (a+1) b c e f h i l m n o p s=X8 k g3 (X9 k g3 a) b c e f h i l m n o p s:=Ba _ _ _ _
abbrev ac2:Cut:=⟨[0,3,11,12,13],[.cell ql,.own 286 BR,.own 365 FC,cI,cI],[],38,[]⟩
def Xa (k:Nat) (g3:Zb) (a:List jq) (b:List BS) (c:List qx) (e f:Int):Option OI :=
 (bif decide (f<e) then
  ix c f <|
  X9 k g3 k a b f (rd c f (0,0,0,false)).1 (rd c f (0,0,0,false)).2.1 (rd c f (0,0,0,false)).2.2.1 (rd c f (0,0,0,false)).2.2.2 c e f (a.length:Int) 0
 else
  some ((b,()),()))
def ahI (k:Nat):Xx (((Unit)×(List jq)×FD×vv×Int×Int×Unit) -> Option OI):=eu (dw (dh (dh (dh (dh (dh dx)))))) (Xa k)
def RL (k a:Nat) (b:List jq) (c:List BS) (e:List qx) (f h:Int):Option OI:=iter ac2 (ahI k) a ((),b,c,e,f,h,())
theorem ZB (k a b c e f h):RL k (a+1) b c e f h=Xa k (RL k a) b c e f h:=Ba _ _ _ _
def ahJ (k:Nat) (a:List jq):Option OI :=
 mk (a.length:Int) (a.length:Int) 24 <|
 (ahB k a).bind fun q0 =>
 RL k k a (List.replicate (a.length:Int).toNat (Qn (α:=Bool) 24 false:PN Bool 24)) q0.1.1 (q0.1.1.length:Int) 0
def F192:Fn:=⟨[EC],[.val ⟨false,(.sl 286 BR),true⟩],fun k x=>ahJ k x.1⟩
theorem ok192:O 192 F192:=okF (ah ok266 <| ah ok267 aj) [] (fun k=>(.loop 3 ac2 (ahI k) (fun g=>(fun (g3:Zb)=>(.loop 6 ac1 (ahH k g3) (fun g=>.nil) .nil)) (fun l_1 out t11 t12 t13=>g ((),l_1,out,t11,t12,t13,()))) .nil)) Tryz.func192 rfl
def aof (k:Nat) (a:Int) (b:List jq) (c:Int):Option j6 :=
 ix b a <|
 ix b c <|
 some (((rd b a (0,0,0,0)).2.1==(rd b c (0,0,0,0)).2.1,()),())
def F271:Fn:=⟨[au,.pv (.ref ql),Zq],[rB],fun k (a,b,c,_)=>aof k a b c⟩
theorem ok271:O 271 F271:=okF aj [] On Tryz.func271 rfl
abbrev ZC:Cut:=⟨[0,1,7,8],[.cell um,.lJ 271 [.ref ql,.ref (.int .i64)],cI,cI],[],19,[]⟩
def PW (k:Nat) (g2:(List Int) -> (List jq) -> Int -> Int -> Int -> Option jo) (a:List Int) (b:List jq) (c e f:Int):Option jo :=
 (bif decide (f<e) then
  ix a f <|
  (aof k (rd a f 0) b c).bind fun q0 =>
  (bif q0.1.1 then
   some ((f,()),())
  else
   g2 a b c e (IntKind.i64.wrap (f+1)))
 else
  some (((-1),()),()))
def ac3 (k:Nat):Xx (((Unit)×(List Int)×((List jq)×Int×Unit)×Int×Int×Unit) -> Option jo):=eu (dw (dh (d9 (dh (dh dx)) (dh (dh dx))))) (PW k)
def ED (k a:Nat) (b:List Int) (c:List jq) (e f h:Int):Option jo:=iter ZC (ac3 k) a ((),b,(c,e,()),f,h,())
theorem Vq (k a b c e f h):ED k (a+1) b c e f h=PW k (ED k a) b c e f h:=Ba _ _ _ _
def ahK (k:Nat) (a:List Int) (b:List jq) (c:Int):Option jo :=
 ED k k a b c (a.length:Int) 0
def F272a:Fn:=⟨[WZ,apR],[rI],fun k (a,(b,c,_),_)=>ahK k a b c⟩
theorem ok272a:O 272 F272a:=okF (ah ok271 aj) [] (fun k=>(.loop 2 ZC (ac3 k) (fun g=>.nil) .nil)) Tryz.func272 rfl
def ac4 (k:Nat) (a:List Int) (b:List jq) (c:Int):Option j6 :=
 (ahK k a b c).bind fun q0 =>
 some ((decide (q0.1.1≥0),()),())
def F193a:Fn:=⟨[WZ,apR],[rB],fun k (a,(b,c,_),_)=>ac4 k a b c⟩
theorem ok193a:O 193 F193a:=okF (ah ok272a aj) [] On Tryz.func193 rfl
abbrev ak1:Cut:=⟨[1,4,5,6,7,8,9,20,21,22],[.box 52 [.cell ql],.own 3 (.int .i64),.own 3 (.int .i64),.mp 367 true BR false (.int .i64),.cell (.sl 286 BR),.box 3 [cI],.box 286 [.cell .bool,.cell .bool,.cell .bool,.cell .bool,.cell .bool,.cell .bool,.cell .bool,.cell .bool,.cell .bool,.cell .bool,.cell .bool,.cell .bool,.cell .bool,.cell .bool,.cell .bool,.cell .bool,.cell .bool,.cell .bool,.cell .bool,.cell .bool,.cell .bool,.cell .bool,.cell .bool,.cell .bool],.cell (.sl 286 BR),cI,cI],[],110,[]⟩
def RN (k:Nat) (g3:ahp) (a:List jq) (b c:List Int) (e:List (BS×Int)) (f:List BS) (h:Int) (x i l m n o p s t u v w y z A B C D G H I J K M:Bool) (N:List BS) (O P:Int):Option Zj :=
 ix a h <|
 (bif (rd a h (0,0,0,0)).1==9 then
  (bif decide ((c.length:Int)≥2) then
   some (([],false,()),())
  else
   (ac4 k c a h).bind fun q1 =>
   (bif q1.1.1 then
    some (([],false,()),())
   else
    ap c ([h]:List Int) 8 fun r2 =>
    g3 a b r2 e f N O (IntKind.i64.wrap (P+1))))
 else
  (bif (rd a h (0,0,0,0)).1==10 then
   (bif decide ((IntKind.i64.wrap ((c.length:Int) - 1))<0) then
    some (([],false,()),())
   else
    ix c (IntKind.i64.wrap ((c.length:Int) - 1)) <|
    ix a (rd c (IntKind.i64.wrap ((c.length:Int) - 1)) 0) <|
    ix a h <|
    (bif (rd a (rd c (IntKind.i64.wrap ((c.length:Int) - 1)) 0) (0,0,0,0)).2.1 != (rd a h (0,0,0,0)).2.1 then
     some (([],false,()),())
    else
     ix c (IntKind.i64.wrap ((c.length:Int) - 1)) <|
     ix f (rd c (IntKind.i64.wrap ((c.length:Int) - 1)) 0) <|
     (bif (Us BR (.int .i64) (rd f (rd c (IntKind.i64.wrap ((c.length:Int) - 1)) 0) (Qn (α:=Bool) 24 false)) e 0) != (Us BR (.int .i64) (x,i,l,m,n,o,p,s,t,u,v,w,y,z,A,B,C,D,G,H,I,J,K,M) e 0) then
      some (([],false,()),())
     else
      ix c (IntKind.i64.wrap ((c.length:Int) - 1)) <|
      ix b (rd c (IntKind.i64.wrap ((c.length:Int) - 1)) 0) <|
      sx c 0 (IntKind.i64.wrap ((c.length:Int) - 1)) <|
      g3 a (upd b (rd c (IntKind.i64.wrap ((c.length:Int) - 1)) 0) h) (c.take (IntKind.i64.wrap ((c.length:Int) - 1)).toNat) e f N O (IntKind.i64.wrap (P+1)))))
  else
   g3 a b c e f N O (IntKind.i64.wrap (P+1))))
abbrev ac5:Cut:=⟨[1,4,5,6,7,20,21,22],[.box 52 [.cell ql],.own 3 (.int .i64),.own 3 (.int .i64),.mp 367 true BR false (.int .i64),.cell (.sl 286 BR),.cell (.sl 286 BR),cI,cI],[],110,[]⟩
def Xb (k:Nat) (g3:ahp) (a:List jq) (b c:List Int) (e:List (BS×Int)) (f h:List BS) (i l:Int):Option Zj :=
 (bif decide (l<i) then
  ix h l <|
  (bif !(Ut BR (.int .i64) (rd h l (Qn (α:=Bool) 24 false)) e) then
   RN k g3 a b c (vL BR (.int .i64) (rd h l (Qn (α:=Bool) 24 false)) l e) f l (rd h l (Qn (α:=Bool) 24 false)).1 (rd h l (Qn (α:=Bool) 24 false)).2.1 (rd h l (Qn (α:=Bool) 24 false)).2.2.1 (rd h l (Qn (α:=Bool) 24 false)).2.2.2.1 (rd h l (Qn (α:=Bool) 24 false)).2.2.2.2.1 (rd h l (Qn (α:=Bool) 24 false)).2.2.2.2.2.1 (rd h l (Qn (α:=Bool) 24 false)).2.2.2.2.2.2.1 (rd h l (Qn (α:=Bool) 24 false)).2.2.2.2.2.2.2.1 (rd h l (Qn (α:=Bool) 24 false)).2.2.2.2.2.2.2.2.1 (rd h l (Qn (α:=Bool) 24 false)).2.2.2.2.2.2.2.2.2.1 (rd h l (Qn (α:=Bool) 24 false)).2.2.2.2.2.2.2.2.2.2.1 (rd h l (Qn (α:=Bool) 24 false)).2.2.2.2.2.2.2.2.2.2.2.1 (rd h l (Qn (α:=Bool) 24 false)).2.2.2.2.2.2.2.2.2.2.2.2.1 (rd h l (Qn (α:=Bool) 24 false)).2.2.2.2.2.2.2.2.2.2.2.2.2.1 (rd h l (Qn (α:=Bool) 24 false)).2.2.2.2.2.2.2.2.2.2.2.2.2.2.1 (rd h l (Qn (α:=Bool) 24 false)).2.2.2.2.2.2.2.2.2.2.2.2.2.2.2.1 (rd h l (Qn (α:=Bool) 24 false)).2.2.2.2.2.2.2.2.2.2.2.2.2.2.2.2.1 (rd h l (Qn (α:=Bool) 24 false)).2.2.2.2.2.2.2.2.2.2.2.2.2.2.2.2.2.1 (rd h l (Qn (α:=Bool) 24 false)).2.2.2.2.2.2.2.2.2.2.2.2.2.2.2.2.2.2.1 (rd h l (Qn (α:=Bool) 24 false)).2.2.2.2.2.2.2.2.2.2.2.2.2.2.2.2.2.2.2.1 (rd h l (Qn (α:=Bool) 24 false)).2.2.2.2.2.2.2.2.2.2.2.2.2.2.2.2.2.2.2.2.1 (rd h l (Qn (α:=Bool) 24 false)).2.2.2.2.2.2.2.2.2.2.2.2.2.2.2.2.2.2.2.2.2.1 (rd h l (Qn (α:=Bool) 24 false)).2.2.2.2.2.2.2.2.2.2.2.2.2.2.2.2.2.2.2.2.2.2.1 (rd h l (Qn (α:=Bool) 24 false)).2.2.2.2.2.2.2.2.2.2.2.2.2.2.2.2.2.2.2.2.2.2.2 h i l
  else
   RN k g3 a b c e f l (rd h l (Qn (α:=Bool) 24 false)).1 (rd h l (Qn (α:=Bool) 24 false)).2.1 (rd h l (Qn (α:=Bool) 24 false)).2.2.1 (rd h l (Qn (α:=Bool) 24 false)).2.2.2.1 (rd h l (Qn (α:=Bool) 24 false)).2.2.2.2.1 (rd h l (Qn (α:=Bool) 24 false)).2.2.2.2.2.1 (rd h l (Qn (α:=Bool) 24 false)).2.2.2.2.2.2.1 (rd h l (Qn (α:=Bool) 24 false)).2.2.2.2.2.2.2.1 (rd h l (Qn (α:=Bool) 24 false)).2.2.2.2.2.2.2.2.1 (rd h l (Qn (α:=Bool) 24 false)).2.2.2.2.2.2.2.2.2.1 (rd h l (Qn (α:=Bool) 24 false)).2.2.2.2.2.2.2.2.2.2.1 (rd h l (Qn (α:=Bool) 24 false)).2.2.2.2.2.2.2.2.2.2.2.1 (rd h l (Qn (α:=Bool) 24 false)).2.2.2.2.2.2.2.2.2.2.2.2.1 (rd h l (Qn (α:=Bool) 24 false)).2.2.2.2.2.2.2.2.2.2.2.2.2.1 (rd h l (Qn (α:=Bool) 24 false)).2.2.2.2.2.2.2.2.2.2.2.2.2.2.1 (rd h l (Qn (α:=Bool) 24 false)).2.2.2.2.2.2.2.2.2.2.2.2.2.2.2.1 (rd h l (Qn (α:=Bool) 24 false)).2.2.2.2.2.2.2.2.2.2.2.2.2.2.2.2.1 (rd h l (Qn (α:=Bool) 24 false)).2.2.2.2.2.2.2.2.2.2.2.2.2.2.2.2.2.1 (rd h l (Qn (α:=Bool) 24 false)).2.2.2.2.2.2.2.2.2.2.2.2.2.2.2.2.2.2.1 (rd h l (Qn (α:=Bool) 24 false)).2.2.2.2.2.2.2.2.2.2.2.2.2.2.2.2.2.2.2.1 (rd h l (Qn (α:=Bool) 24 false)).2.2.2.2.2.2.2.2.2.2.2.2.2.2.2.2.2.2.2.2.1 (rd h l (Qn (α:=Bool) 24 false)).2.2.2.2.2.2.2.2.2.2.2.2.2.2.2.2.2.2.2.2.2.1 (rd h l (Qn (α:=Bool) 24 false)).2.2.2.2.2.2.2.2.2.2.2.2.2.2.2.2.2.2.2.2.2.2.1 (rd h l (Qn (α:=Bool) 24 false)).2.2.2.2.2.2.2.2.2.2.2.2.2.2.2.2.2.2.2.2.2.2.2 h i l)
 else
  (bif decide ((c.length:Int)>0) then
   some (([],false,()),())
  else
   some ((b,true,()),())))
def ahL (k:Nat):Xx (((Unit)×((List jq)×Unit)×(List Int)×(List Int)×(List (BS×Int))×FD×FD×Int×Int×Unit) -> Option Zj):=eu (dw (d9 (dh dx) (dh (dh (dh (dh (dh (dh (dh dx))))))))) (Xb k)
def MG (k a:Nat) (b:List jq) (c e:List Int) (f:List (BS×Int)) (h i:List BS) (l m:Int):Option Zj:=iter ac5 (ahL k) a ((),(b,()),c,e,f,h,i,l,m,())
theorem ZE (k a b c e f h i l m):MG k (a+1) b c e f h i l m=Xb k (MG k a) b c e f h i l m:=Ba _ _ _ _
def ahM (k:Nat) (a:List jq):Option Zj :=
 mk (a.length:Int) (a.length:Int) 8 <|
 (ahJ k a).bind fun q0 =>
 MG k k a (List.replicate (a.length:Int).toNat (0:Int)) ([]:List Int) ([]:List (BS×Int)) q0.1.1 q0.1.1 (q0.1.1.length:Int) 0
def F191:Fn:=⟨[EC],[ahu,rB],fun k x=>ahM k x.1⟩
theorem ok191:O 191 F191:=okF (ah ok192 <| ah ok193a aj) [(104,1)] (fun k=>(.loop 3 ac5 (ahL k) (fun g=>(fun (g3:ahp)=>(.join 8 ak1 (fun (_,(a,_),b,c,e,f,(h,_),(i,l,m,n,o,p,s,t,u,v,w,y,z,A,B,C,D,G,H,I,J,K,M,N,_),O,P,Q,_)=>RN k g3 a b c e f h i l m n o p s t u v w y z A B C D G H I J K M N O P Q) .nil)) (fun l_1 out open_ same all t20 t21 t22=>g ((),(l_1,()),out,open_,same,all,t20,t21,t22,()))) .nil)) Tryz.func191 rfl
def aog (k:Nat) (a b:Int):Option j6 :=
 some ((decide (a>b),()),())
def F194:Fn:=⟨[au,Zq],[rB],fun k x=>aog k x.1 x.2.1⟩
theorem ok194:O 194 F194:=okF aj [] On Tryz.func194 rfl
abbrev ZF:Cut:=⟨[0,1,7,8],[.cell um,.lJ 194 [.ref (.int .i64)],cI,cI],[],19,[]⟩
def PX (k:Nat) (g2:(List Int) -> Int -> Int -> Int -> Option jo) (a:List Int) (b c e:Int):Option jo :=
 (bif decide (e<c) then
  ix a e <|
  (aog k (rd a e 0) b).bind fun q0 =>
  (bif q0.1.1 then
   some ((e,()),())
  else
   g2 a b c (IntKind.i64.wrap (e+1)))
 else
  some (((-1),()),()))
def ac6 (k:Nat):Xx (((Unit)×(List Int)×Zi×Int×Int×Unit) -> Option jo):=eu (dw (dh (d9 (dh dx) (dh (dh dx))))) (PX k)
def EF (k a:Nat) (b:List Int) (c e f:Int):Option jo:=iter ZF (ac6 k) a ((),b,(c,()),e,f,())
theorem Vr (k a b c e f):EF k (a+1) b c e f=PX k (EF k a) b c e f:=Ba _ _ _ _
def ahN (k:Nat) (a:List Int) (b:Int):Option jo :=
 EF k k a b (a.length:Int) 0
def F272b:Fn:=⟨[WZ,.pv (.lJ 194 [.ref (.int .i64)])],[rI],fun k x=>ahN k x.1 x.2.1.1⟩
theorem ok272b:O 272 F272b:=okF (ah ok194 aj) [] (fun k=>(.loop 2 ZF (ac6 k) (fun g=>.nil) .nil)) Tryz.func272 rfl
def ac7 (k:Nat) (a:List Int) (b:Int):Option j6 :=
 (ahN k a b).bind fun q0 =>
 some ((decide (q0.1.1≥0),()),())
def F193b:Fn:=⟨[WZ,.pv (.lJ 194 [.ref (.int .i64)])],[rB],fun k x=>ac7 k x.1 x.2.1.1⟩
theorem ok193b:O 193 F193b:=okF (ah ok272b aj) [] On Tryz.func193 rfl
abbrev ZG:Cut:=⟨[4,6,42,43,44],[.own 3 (.int .i64),.own 286 BR,.cell ql,cI,cI],[],66,[]⟩
def PY (k:Nat) (g11:(List Int) -> FD -> (List jq) -> Int -> Int -> Option j6) (a:List Int) (b:List BS) (c:List jq) (e f:Int):Option j6 :=
 (bif decide (f<e) then
  ix c f <|
  (bif (rd c f (0,0,0,0)).1 != 11 then
   g11 a b c e (IntKind.i64.wrap (f+1))
  else
   ix b f <|
   (bif !(fC BR (rd b f (Qn (α:=Bool) 24 false)) (false,false,false,false,false,false,false,false,false,false,false,false,false,false,false,false,false,false,false,false,false,false,false,false)) then
    some ((false,()),())
   else
    sx a 0 f <|
    (ac7 k (sub a 0 f) f).bind fun q5 =>
    (bif q5.1.1 then
     some ((false,()),())
    else
     g11 a b c e (IntKind.i64.wrap (f+1)))))
 else
  some ((true,()),()))
def ac8 (k:Nat):Xx (((Unit)×(List Int)×FD×(List jq)×Int×Int×Unit) -> Option j6):=eu (dw (dh (dh (dh (dh (dh dx)))))) (PY k)
def EG (k a:Nat) (b:List Int) (c:List BS) (e:List jq) (f h:Int):Option j6:=iter ZG (ac8 k) a ((),b,c,e,f,h,())
theorem Vs (k a b c e f h):EG k (a+1) b c e f h=PY k (EG k a) b c e f h:=Ba _ _ _ _
def agh (k:Nat) (a:List jq):Option j6 :=
 (bif decide ((a.length:Int)<1) then
  some ((false,()),())
 else
  (bif decide ((a.length:Int)>24) then
   some ((false,()),())
  else
   (S57 k a).bind fun q0 =>
   (bif q0.1.1 then
    some ((false,()),())
   else
    (acV k a).bind fun q1 =>
    (bif q1.1.1 != (IntKind.i64.wrap ((a.length:Int) - 1)) then
     some ((false,()),())
    else
     (akZ k a).bind fun q2 =>
     (bif !q2.1.1 then
      some ((false,()),())
     else
      (ahM k a).bind fun q3 =>
      (bif !q3.1.2.1 then
       some ((false,()),())
      else
       (ahJ k a).bind fun q4 =>
       EG k k q3.1.1 q4.1.1 a (a.length:Int) 0))))))
def F108:Fn:=⟨[EC],[rB],fun k x=>agh k x.1⟩
theorem ok108:O 108 F108:=okF (ah ok57 <| ah ok130a <| ah ok190 <| ah ok191 <| ah ok192 <| ah ok193b aj) [] (fun k=>(.loop 11 ZG (ac8 k) (fun g=>.nil) .nil)) Tryz.func108 rfl
def ahO (k:Nat) (a:List jq):Option j6 :=
 (bif (a.length:Int)==0 then
  some ((true,()),())
 else
  (agh k a).bind fun q0 =>
  some ((q0.1.1,()),()))
def F316:Fn:=⟨[EC],[rB],fun k x=>ahO k x.1⟩
theorem ok316:O 316 F316:=okF (ah ok108 aj) [] On Tryz.func316 rfl
def aoh (k:Nat) (a:Int×Int×Int×Int):Option j6 :=
 some ((a.1==9,()),())
def F345:Fn:=⟨[agc],[rB],fun k x=>aoh k x.1⟩
theorem ok345:O 345 F345:=okF aj [] On Tryz.func345 rfl
abbrev ZH:Cut:=⟨[0,1,7,8],[.cell ql,.lJ 345 [],cI,cI],[],19,[]⟩
def PZ (k:Nat) (g2:(List jq) -> Int -> Int -> Option jo) (a:List jq) (b c:Int):Option jo :=
 (bif decide (c<b) then
  ix a c <|
  (aoh k (rd a c (0,0,0,0))).bind fun q0 =>
  (bif q0.1.1 then
   some ((c,()),())
  else
   g2 a b (IntKind.i64.wrap (c+1)))
 else
  some (((-1),()),()))
def ac9 (k:Nat):Xx (ahs):=eu (dw (dh (dw (dh (dh dx))))) (PZ k)
def HZ (k a:Nat) (b:List jq) (c e:Int):Option jo:=iter ZH (ac9 k) a ((),b,(),c,e,())
theorem Vt (k a b c e):HZ k (a+1) b c e=PZ k (HZ k a) b c e:=Ba _ _ _ _
def ada (k:Nat) (a:List jq):Option jo :=
 HZ k k a (a.length:Int) 0
def F130b:Fn:=⟨[EC,.pv (.lJ 345 [])],[rI],fun k x=>ada k x.1⟩
theorem ok130b:O 130 F130b:=okF (ah ok345 aj) [] (fun k=>(.loop 2 ZH (ac9 k) (fun g=>.nil) .nil)) Tryz.func130 rfl
def aoi (k:Nat) (a:List jq):Option j6 :=
 (ada k a).bind fun q0 =>
 some ((decide (q0.1.1≥0),()),())
def F57a:Fn:=⟨[EC,.pv (.lJ 345 [])],[rB],fun k x=>aoi k x.1⟩
theorem ok57a:O 57 F57a:=okF (ah ok130b aj) [] On Tryz.func57 rfl
def ak2 (k:Nat) (a:List jq):Option j6 :=
 (aoi k a).bind fun q0 =>
 some ((q0.1.1,()),())
def F317:Fn:=⟨[EC],[rB],fun k x=>ak2 k x.1⟩
theorem ok317:O 317 F317:=okF (ah ok57a aj) [] On Tryz.func317 rfl
def ahP (k:Nat) (a:Int):Option jo :=
 (bif decide (a<0) then
  some ((IntKind.u64.wrap (0 - (IntKind.u64.wrap a)),()),())
 else
  some ((IntKind.u64.wrap a,()),()))
def F361:Fn:=⟨[au],[.val ⟨false,(.int .u64),true⟩],fun k x=>ahP k x.1⟩
theorem ok361:O 361 F361:=okF aj [] On Tryz.func361 rfl
def ak3 (k:Nat) (a b:Int):Option DJ :=
 (bif decide ((Ul .u64 a 32)>0) then
  (bif decide ((Ul .u64 b 32)>0) then
   some ((0,false,()),())
  else
   (bif decide ((Ul .u64 (Uz .u64 (IntKind.u64.wrap ((Ul .u64 a 32) * (IntKind.u64.wrap (IntKind.u32.wrap b)))) (IntKind.u64.wrap ((IntKind.u64.wrap (IntKind.u32.wrap a)) * (Ul .u64 b 32)))) 32)>0) then
    some ((0,false,()),())
   else
    some ((IntKind.u64.wrap ((IntKind.u64.wrap ((IntKind.u64.wrap (IntKind.u32.wrap a)) * (IntKind.u64.wrap (IntKind.u32.wrap b))))+(Uk .u64 (Uz .u64 (IntKind.u64.wrap ((Ul .u64 a 32) * (IntKind.u64.wrap (IntKind.u32.wrap b)))) (IntKind.u64.wrap ((IntKind.u64.wrap (IntKind.u32.wrap a)) * (Ul .u64 b 32)))) 32)),decide ((IntKind.u64.wrap ((IntKind.u64.wrap ((IntKind.u64.wrap (IntKind.u32.wrap a)) * (IntKind.u64.wrap (IntKind.u32.wrap b))))+(Uk .u64 (Uz .u64 (IntKind.u64.wrap ((Ul .u64 a 32) * (IntKind.u64.wrap (IntKind.u32.wrap b)))) (IntKind.u64.wrap ((IntKind.u64.wrap (IntKind.u32.wrap a)) * (Ul .u64 b 32)))) 32)))≥(IntKind.u64.wrap ((IntKind.u64.wrap (IntKind.u32.wrap a)) * (IntKind.u64.wrap (IntKind.u32.wrap b))))),()),())))
 else
  (bif decide ((Ul .u64 (Uz .u64 (IntKind.u64.wrap ((Ul .u64 a 32) * (IntKind.u64.wrap (IntKind.u32.wrap b)))) (IntKind.u64.wrap ((IntKind.u64.wrap (IntKind.u32.wrap a)) * (Ul .u64 b 32)))) 32)>0) then
   some ((0,false,()),())
  else
   some ((IntKind.u64.wrap ((IntKind.u64.wrap ((IntKind.u64.wrap (IntKind.u32.wrap a)) * (IntKind.u64.wrap (IntKind.u32.wrap b))))+(Uk .u64 (Uz .u64 (IntKind.u64.wrap ((Ul .u64 a 32) * (IntKind.u64.wrap (IntKind.u32.wrap b)))) (IntKind.u64.wrap ((IntKind.u64.wrap (IntKind.u32.wrap a)) * (Ul .u64 b 32)))) 32)),decide ((IntKind.u64.wrap ((IntKind.u64.wrap ((IntKind.u64.wrap (IntKind.u32.wrap a)) * (IntKind.u64.wrap (IntKind.u32.wrap b))))+(Uk .u64 (Uz .u64 (IntKind.u64.wrap ((Ul .u64 a 32) * (IntKind.u64.wrap (IntKind.u32.wrap b)))) (IntKind.u64.wrap ((IntKind.u64.wrap (IntKind.u32.wrap a)) * (Ul .u64 b 32)))) 32)))≥(IntKind.u64.wrap ((IntKind.u64.wrap (IntKind.u32.wrap a)) * (IntKind.u64.wrap (IntKind.u32.wrap b))))),()),())))
def F360:Fn:=⟨[.val ⟨false,(.int .u64),false⟩,.val ⟨false,(.int .u64),false⟩],[.val ⟨false,(.int .u64),true⟩,rB],fun k x=>ak3 k x.1 x.2.1⟩
theorem ok360:O 360 F360:=okF aj [] On Tryz.func360 rfl
def agi (k:Nat) (a:Bool):Option DJ :=
 (bif a then
  some (((-9223372036854775808),false,()),())
 else
  some ((9223372036854775807,false,()),()))
def F362:Fn:=⟨[.val ⟨false,.bool,false⟩],[rI,rB],fun k x=>agi k x.1⟩
theorem ok362:O 362 F362:=okF aj [] On Tryz.func362 rfl
abbrev ak4:Cut:=⟨[0,1,6,7],[cI,cI,.cell .bool,.cell (.int .u64)],[],45,[]⟩
def Xc (k:Nat) (a b:Int) (c:Bool) (e:Int):Option DJ :=
 (ahP k a).bind fun q0 =>
 (ahP k b).bind fun q1 =>
 (ak3 k q0.1.1 q1.1.1).bind fun q2 =>
 (bif !q2.1.2.1 then
  (agi k c).bind fun q3 =>
  some (q3.1,())
 else
  (bif decide (q2.1.1>e) then
   (agi k c).bind fun q4 =>
   some (q4.1,())
  else
   (bif c then
    some ((IntKind.i64.wrap (IntKind.u64.wrap (0 - q2.1.1)),true,()),())
   else
    some ((IntKind.i64.wrap q2.1.1,true,()),()))))
def agj (k:Nat) (a b:Int):Option DJ :=
 (bif !((decide (a<0))==(decide (b<0))) then
  Xc k a b (!((decide (a<0))==(decide (b<0)))) 9223372036854775808
 else
  Xc k a b (!((decide (a<0))==(decide (b<0)))) 9223372036854775807)
def F356:Fn:=⟨[au,au],[rI,rB],fun k x=>agj k x.1 x.2.1⟩
theorem ok356:O 356 F356:=okF (ah ok360 <| ah ok361 <| ah ok362 aj) [] (fun k=>(.join 5 ak4 (fun (_,a,b,c,e,_)=>Xc k a b c e) .nil)) Tryz.func356 rfl
abbrev ZI:Cut:=⟨[3,5,6,7,20,21,22],[.own 2 (.int .i64),cI,.box 127 [cI,cI,cI,cI],cI,.cell ql,cI,cI],[],55,[]⟩
def Q0 (k:Nat) (g8:Zh) (g12:(List Int) -> Int -> Int -> Int -> Int -> Int -> Int -> (List jq) -> Int -> Int -> Option tu) (a:List Int) (b x c e f h:Int) (i:List jq) (l m:Int):Option tu :=
 (bif decide (h <= (IntKind.i64.wrap (b+e))) then
  ix a h <|
  (agj k (rd a h 0) f).bind fun q0 =>
  ix a h <|
  g12 (upd a h q0.1.1) b x c e f (IntKind.i64.wrap (h+1)) i l m
 else
  g8 a i l (IntKind.i64.wrap (m+1)))
def adb (k:Nat) (g8:Zh):Xx (((Unit)×(List Int)×Int×(Int×Int×Int×Int×Unit)×Int×(List jq)×Int×Int×Unit) -> Option tu):=eu (dw (dh (dh (d9 (dh (dh (dh (dh dx)))) (dh (dh (dh (dh dx)))))))) (Q0 k g8)
def Q5 (k:Nat) (g8:Zh) (a:Nat) (b:List Int) (c x e f h i:Int) (l:List jq) (m n:Int):Option tu:=iter ZI (adb k g8) a ((),b,c,(x,e,f,h,()),i,l,m,n,())
theorem Vu (k g8 a b c x e f h i l m n):Q5 k g8 (a+1) b c x e f h i l m n=Q0 k g8 (Q5 k g8 a) b c x e f h i l m n:=Ba _ _ _ _
abbrev ade:Cut:=⟨[3,20,21,22],[.own 2 (.int .i64),.cell ql,cI,cI],[],55,[]⟩
def Xd (k:Nat) (g8:Zh) (a:List Int) (b:List jq) (c e:Int):Option tu :=
 (bif decide (e<c) then
  ix b e <|
  (bif (rd b e (0,0,0,0)).1 != 8 then
   g8 a b c (IntKind.i64.wrap (e+1))
  else
   Q5 k g8 k a e (rd b e (0,0,0,0)).1 (rd b e (0,0,0,0)).2.1 (rd b e (0,0,0,0)).2.2.1 (rd b e (0,0,0,0)).2.2.2 (IntKind.i64.wrap (e+1)) b c e)
 else
  some ((a,()),()))
def ahQ (k:Nat):Xx (((Unit)×(List Int)×(List jq)×Int×Int×Unit) -> Option tu):=eu (dw (dh (dh (dh (dh dx))))) (Xd k)
def JM (k a:Nat) (b:List Int) (c:List jq) (e f:Int):Option tu:=iter ade (ahQ k) a ((),b,c,e,f,())
theorem ZJ (k a b c e f):JM k (a+1) b c e f=Xd k (JM k a) b c e f:=Ba _ _ _ _
abbrev adf:Cut:=⟨[0,3,12,13],[.cell ql,.own 2 (.int .i64),cI,cI],[],55,[]⟩
def Xe (k:Nat) (g3:(List jq) -> (List Int) -> Int -> Int -> Option tu) (a:List jq) (b:List Int) (c e:Int):Option tu :=
 (bif decide (e<c) then
  ix b e <|
  g3 a (upd b e 1) c (IntKind.i64.wrap (e+1))
 else
  JM k k b a (a.length:Int) 0)
def ahR (k:Nat):Xx (((Unit)×(List jq)×(List Int)×Int×Int×Unit) -> Option tu):=eu (dw (dh (dh (dh (dh dx))))) (Xe k)
def MH (k a:Nat) (b:List jq) (c:List Int) (e f:Int):Option tu:=iter adf (ahR k) a ((),b,c,e,f,())
theorem ZK (k a b c e f):MH k (a+1) b c e f=Xe k (MH k a) b c e f:=Ba _ _ _ _
def ak5 (k:Nat) (a:List jq):Option tu :=
 mk (a.length:Int) (a.length:Int) 8 <|
 MH k k a (List.replicate (a.length:Int).toNat (0:Int)) ((List.replicate (a.length:Int).toNat (0:Int)).length:Int) 0
def F353:Fn:=⟨[EC],[.val ⟨false,JA,true⟩],fun k x=>ak5 k x.1⟩
theorem ok353:O 353 F353:=okF (ah ok356 aj) [] (fun k=>(.loop 8 ade (ahQ k) (fun g=>(fun (g8:Zh)=>(.loop 12 ZI (adb k g8) (fun g=>.nil) .nil)) (fun abZ t20 t21 t22=>g ((),abZ,t20,t21,t22,()))) (.loop 3 adf (ahR k) (fun g=>.nil) .nil))) Tryz.func353 rfl
def agk (k:Nat) (a b:Int):Option DJ :=
 (bif decide ((Um .i64 (Un .i64 a (IntKind.i64.wrap (IntKind.u64.wrap ((IntKind.u64.wrap a)+(IntKind.u64.wrap b))))) (Un .i64 b (IntKind.i64.wrap (IntKind.u64.wrap ((IntKind.u64.wrap a)+(IntKind.u64.wrap b))))))<0) then
  (agi k (decide (a<0))).bind fun q0 =>
  some (q0.1,())
 else
  some ((IntKind.i64.wrap (IntKind.u64.wrap ((IntKind.u64.wrap a)+(IntKind.u64.wrap b))),true,()),()))
def F357:Fn:=⟨[au,au],[rI,rB],fun k x=>agk k x.1 x.2.1⟩
theorem ok357:O 357 F357:=okF (ah ok362 aj) [] On Tryz.func357 rfl
abbrev adg:Cut:=⟨[2,5,6,7],[cI,.cell JA,cI,cI],[],19,[]⟩
def Xf (k:Nat) (g2:Vk) (a:Int) (b:List Int) (c e:Int):Option jo :=
 (bif decide (e<c) then
  ix b e <|
  (agk k a (rd b e 0)).bind fun q0 =>
  g2 q0.1.1 b c (IntKind.i64.wrap (e+1))
 else
  some ((a,()),()))
def ahS (k:Nat):Xx (((Unit)×Int×(List Int)×Int×Int×Unit) -> Option jo):=eu (dw (dh (dh (dh (dh dx))))) (Xf k)
def Xg (k a:Nat) (b:Int) (c:List Int) (e f:Int):Option jo:=iter adg (ahS k) a ((),b,c,e,f,())
theorem ZL (k a b c e f):Xg k (a+1) b c e f=Xf k (Xg k a) b c e f:=Ba _ _ _ _
def ZM (k:Nat) (a:List Int):Option jo :=
 Xg k k 0 a (a.length:Int) 0
def F354:Fn:=⟨[.val ⟨false,JA,false⟩],[rI],fun k x=>ZM k x.1⟩
theorem ok354:O 354 F354:=okF (ah ok357 aj) [] (fun k=>(.loop 2 adg (ahS k) (fun g=>.nil) .nil)) Tryz.func354 rfl
abbrev adh:Cut:=⟨[2,4,5,6,24,25,26],[.box 310 [cI,cI,.own 378 ow],.own 2 (.int .i64),cI,.own 3 (.int .i64),.cell ql,cI,cI],[],75,[]⟩
def Xh (k:Nat) (g7:Int -> Int -> j5 -> (List Int) -> Int -> (List Int) -> (List jq) -> Int -> Int -> Option Zd) (a b:Int) (c:oq) (e:List Int) (f:Int) (h:List Int) (i:List jq) (l m:Int):Option Zd :=
 (bif decide (m<l) then
  ix i m <|
  (bif (rd i m (0,0,0,0)).1==11 then
   sx e f (IntKind.i64.wrap (m+1)) <|
   (ZM k (sub e f (IntKind.i64.wrap (m+1)))).bind fun q4 =>
   g7 a (mx b q4.1.1) c e (IntKind.i64.wrap (m+1)) h i l (IntKind.i64.wrap (m+1))
  else
   (bif (rd i m (0,0,0,0)).1==0 then
    sx e f (IntKind.i64.wrap (m+1)) <|
    (ZM k (sub e f (IntKind.i64.wrap (m+1)))).bind fun q5 =>
    g7 a (mx b q5.1.1) c e (IntKind.i64.wrap (m+1)) h i l (IntKind.i64.wrap (m+1))
   else
    (bif (rd i m (0,0,0,0)).1==9 then
     ix h m <|
     sx e (IntKind.i64.wrap (m+1)) (IntKind.i64.wrap ((rd h m 0)+1)) <|
     (ZM k (sub e (IntKind.i64.wrap (m+1)) (IntKind.i64.wrap ((rd h m 0)+1)))).bind fun q6 =>
     ix e m <|
     nz (rd e m 0) <|
     ap c ([((rd i m (0,0,0,0)).2.1,IntKind.i64.wrap (Int.tdiv q6.1.1 (rd e m 0)))]:List (Int×Int)) 16 fun r7 =>
     g7 a b r7 e f h i l (IntKind.i64.wrap (m+1))
    else
     g7 a b c e f h i l (IntKind.i64.wrap (m+1)))))
 else
  some (((a,b,c),true,()),()))
def ahT (k:Nat):Xx (((Unit)×(Int×Int×j5×Unit)×(List Int)×Int×(List Int)×(List jq)×Int×Int×Unit) -> Option Zd):=eu (dw (d9 (dh (dh (dh dx))) (dh (dh (dh (dh (dh (dh dx)))))))) (Xh k)
def RO (k a:Nat) (b c:Int) (e:oq) (f:List Int) (h:Int) (i:List Int) (l:List jq) (m n:Int):Option Zd:=iter adh (ahT k) a ((),(b,c,e,()),f,h,i,l,m,n,())
theorem ZN (k a b c e f h i l m n):RO k (a+1) b c e f h i l m n=Xh k (RO k a) b c e f h i l m n:=Ba _ _ _ _
def agl (k:Nat) (a:List jq):Option Zd :=
 (agh k a).bind fun q0 =>
 (bif !q0.1.1 then
  some (((0,0,[]),false,()),())
 else
  (ak5 k a).bind fun q1 =>
  (ahM k a).bind fun q2 =>
  (ZM k q1.1.1).bind fun q3 =>
  RO k k q3.1.1 0 ([]:List (Int×Int)) q1.1.1 0 q2.1.1 a (a.length:Int) 0)
def F346:Fn:=⟨[EC],[.val ⟨true,(.pair (.int .i64) (.pair (.int .i64) (.sl 378 ow))),true⟩,rB],fun k x=>agl k x.1⟩
theorem ok346:O 346 F346:=okF (ah ok108 <| ah ok191 <| ah ok353 <| ah ok354 aj) [(2,2)] (fun k=>(.loop 7 adh (ahT k) (fun g=>.nil) .nil)) Tryz.func346 rfl
def agm (k:Nat) (a:List jq):Option jo :=
 (agl k a).bind fun q0 =>
 some ((q0.1.1.1,()),())
def F318:Fn:=⟨[EC],[rI],fun k x=>agm k x.1⟩
theorem ok318:O 318 F318:=okF (ah ok346 aj) [] On Tryz.func318 rfl
def agn (k:Nat) (a:KG):Option jo :=
 (bif decide (a.1<0) then
  some ((1,()),())
 else
  (bif decide (a.1>63) then
   some ((1,()),())
  else
   (bif decide (a.2.1<1) then
    some ((9,()),())
   else
    (bif decide (a.2.1>16384) then
     some ((9,()),())
    else
     (bif decide (a.2.2.1<1) then
      some ((9,()),())
     else
      (bif decide (a.2.2.1>a.2.1) then
       some ((9,()),())
      else
       (agh k a.2.2.2.1).bind fun q0 =>
       (bif !q0.1.1 then
        some ((2,()),())
       else
        (ahO k a.2.2.2.2.1).bind fun q1 =>
        (bif !q1.1.1 then
         some ((2,()),())
        else
         (ahO k a.2.2.2.2.2).bind fun q2 =>
         (bif !q2.1.1 then
          some ((2,()),())
         else
          (ak2 k a.2.2.2.2.2).bind fun q3 =>
          (bif q3.1.1 then
           some ((2,()),())
          else
           (agm k a.2.2.2.1).bind fun q4 =>
           (bif decide (q4.1.1>a.2.2.1) then
            some ((10,()),())
           else
            (agm k a.2.2.2.2.1).bind fun q5 =>
            (agm k a.2.2.2.1).bind fun q6 =>
            (bif decide (q5.1.1>q6.1.1) then
             some ((12,()),())
            else
             some ((0,()),())))))))))))))
def F247:Fn:=⟨[Vo],[rI],fun k x=>agn k x.1⟩
theorem ok247:O 247 F247:=okF (ah ok108 <| ah ok316 <| ah ok317 <| ah ok318 aj) [] On Tryz.func247 rfl
def RP (k:Nat) (a:List jq):Option G6:=qQ 32 127 Vj k (a,())
def F126:Fn:=⟨dJ 127 Vj,iZ 127 Vj,qQ 32 127 Vj⟩
theorem ok126:O 126 F126:=Kz JB mix Tryz.func126 rfl (by kernel_rfl) (by kernel_rfl) (fun k=>by kernel_rfl) (fun k xs=>by kernel_rfl) (fun k xs=>by kernel_rfl)
def ahU (k:Nat) (a:KG):Option ((jy×Unit)×Unit) :=
 (RP k a.2.2.2.1).bind fun q0 =>
 (RP k a.2.2.2.2.1).bind fun q1 =>
 (RP k a.2.2.2.2.2).bind fun q2 =>
 some (((a.1,a.2.1,a.2.2.1,q0.1.1,q1.1.1,q2.1.1),()),())
def F248:Fn:=⟨[Vo],[.val ⟨true,BP,true⟩],fun k x=>ahU k x.1⟩
theorem ok248:O 248 F248:=okF (ah ok126 aj) [] On Tryz.func248 rfl
def aoj (k:Nat) (x a:KG):Option j6 :=
 some ((decide (x.1>a.1),()),())
def F249:Fn:=⟨[Vo,.pv (.ref BP)],[rB],fun k x=>aoj k x.1 x.2.1⟩
theorem ok249:O 249 F249:=okF aj [] On Tryz.func249 rfl
abbrev adi:Cut:=⟨[0,1,7,8],[.cell p9,.lJ 249 [.ref BP],cI,cI],[],19,[]⟩
def Xi (k:Nat) (g2:(List jy) -> jy -> Int -> Int -> Option jo) (a:List jy) (b:KG) (c e:Int):Option jo :=
 (bif decide (e<c) then
  ix a e <|
  (aoj k (rd a e bg) b).bind fun q0 =>
  (bif q0.1.1 then
   some ((e,()),())
  else
   g2 a b c (IntKind.i64.wrap (e+1)))
 else
  some (((-1),()),()))
def ahV (k:Nat):Xx (((Unit)×(List jy)×(jy×Unit)×Int×Int×Unit) -> Option jo):=eu (dw (dh (d9 (dh dx) (dh (dh dx))))) (Xi k)
def JN (k a:Nat) (b:List jy) (c:KG) (e f:Int):Option jo:=iter adi (ahV k) a ((),b,(c,()),e,f,())
theorem ZO (k a b c e f):JN k (a+1) b c e f=Xi k (JN k a) b c e f:=Ba _ _ _ _
def aok (k:Nat) (a:List jy) (b:KG):Option jo :=
 JN k k a b (a.length:Int) 0
def F132:Fn:=⟨[Zo,.pv (.lJ 249 [.ref BP])],[rI],fun k x=>aok k x.1 x.2.1.1⟩
theorem ok132:O 132 F132:=okF (ah ok249 aj) [] (fun k=>(.loop 2 adi (ahV k) (fun g=>.nil) .nil)) Tryz.func132 rfl
section
variable (w:World) {g n c i g2 m c2:Nat}
theorem DL:Tryz.prog.underlying 29=some (.slice 54) /\ Tryz.prog.underlying 3=some (.int .i64) /\ Tryz.prog.underlying 4=some .bool /\ Tryz.prog.follows .mixedOrders=true /\ (∀ w,(Go.sizeOf 54).run Tryz.prog w=.ok 6 w) /\ Tryz.f250.ntmps=95:=⟨by kernel_rfl,by kernel_rfl,by kernel_rfl,by kernel_rfl,fun w=>by kernel_rfl,rfl⟩
theorem Xj {v u:Value} (hv:(∃ A n c,v=.slice A n c /\ i <= n)) (hu:∃ A c,u=.slice A m c) (hm:m=0):Calls Tryz.prog 250 #[v,.int .i64 i,u] w fun e w'=>e=.returned v /\ w'=w:=by
 obtain ⟨t24,t3,t4,mixed,z36,hnt⟩:=DL
 have u24:=run_underlying t24;have u3:=run_underlying t3;have u4:=run_underlying t4
 obtain ⟨A,n,c,rfl,hi⟩:=hv
 obtain ⟨A2,c2,rfl⟩:=hu
 have hi0:(i:Int) <= (n:Int):=by omega
 have hz1:(m:Int)=0:=by omega
 cases A <;> (go_enter Tryz.func250,hnt;go_wp2 <;> (go_ret;exact ⟨rfl,rfl⟩))
theorem ZP {v:Value} {w':World} {v':Value} (hv:(∃ A c,v=.slice A n c)) (hm:0<m)
  (hr:∀ ty,(Builtin.append_ #[29,29] ty #[v,.slice (some ⟨g2,0,none⟩) m c2]).run Tryz.prog w=.ok v' w'):Calls Tryz.prog 250 #[v,.int .i64 n,.slice (some ⟨g2,0,none⟩) m c2] w fun e w1=>e=.returned v' /\ w1=w':=by
 obtain ⟨t24,t3,t4,mixed,z36,hnt⟩:=DL
 have u24:=run_underlying t24;have u3:=run_underlying t3;have u4:=run_underlying t4
 have hz1:¬ ((m:Int)=0):=by omega
 obtain ⟨A,c,rfl⟩:=hv
 go_enter Tryz.func250,hnt
 go_wp2_with (at_builtin;refine Gx rfl rfl _ _ rfl rfl (hr _) ?_)
 all_goals (go_ret;exact ⟨rfl,rfl⟩)
theorem V6 {v' v'':Value} {w' w'':World} (hi:i<n) (hm:0<m) (hroom:n+m <= c) (hc63:c <= 9223372036854775807)
  (hov:∀ lb cb,(callFunc 319 #[.slice (some ⟨g2,0,none⟩) m c2,.slice (some ⟨g,(i+m) * 6,none⟩) lb cb]).run Tryz.prog w=.ok (.value (.bool false)) w)
  (hcp1:∀ ty dc sc,(Builtin.copy_ #[29,29] ty #[.slice (some ⟨g,(i+m) * 6,none⟩) (n+m - (i+m)) dc,.slice (some ⟨g,i * 6,none⟩) (n+m - i) sc]).run Tryz.prog w.drew=.ok v' w')
  (hcp2:∀ ty dc,(Builtin.copy_ #[29,29] ty #[.slice (some ⟨g,i * 6,none⟩) (n+m - i) dc,.slice (some ⟨g2,0,none⟩) m c2]).run Tryz.prog w'=.ok v'' w'') :
  Calls Tryz.prog 250 #[.slice (some ⟨g,0,none⟩) n c,.int .i64 i,.slice (some ⟨g2,0,none⟩) m c2] w fun e w1=>e=.returned (.slice (some ⟨g,0,none⟩) (n+m) c) /\ w1=w'':=by
 obtain ⟨t24,t3,t4,mixed,z36,hnt⟩:=DL
 have u24:=run_underlying t24;have u3:=run_underlying t3;have u4:=run_underlying t4
 have hz1:¬ ((m:Int)=0):=by omega
 have hz2:¬ ((i:Int)=(n:Int)):=by omega
 have hw1:IntKind.i64.wrap ((i:Int)+(m:Int))=(i:Int)+(m:Int):=by rw [IntKind.wrap_i64];omega
 have hb1:(0:Int) <= (i:Int)+(m:Int):=by omega
 have hin:i <= n:=by omega
 have htn:((i:Int)+(m:Int)).toNat=i+m:=by omega
 have hb2:¬ (c=i+m):=by omega
 have hb3:(i:Int) <= (n:Int)+(m:Int):=by omega
 have hb4:¬ (c=i):=by omega
 go_enter Tryz.func250,hnt
 go_wp2_with (simp only [hov])
 go_region_law_o (refine Jp rfl rfl _ _ (by simp [Act.eval,Act.put]) (by simp [Act.eval,Act.put]) (hcp1 _ _ _) ?_)
 go_wp2_with (at_builtin;refine Jo rfl rfl _ _ rfl rfl (hcp2 _ _) ?_)
 go_ret
 exact ⟨rfl,rfl⟩
theorem Xk {h G:Nat} {v' v'':Value} {w0 w' w'':World} (hi:i<n) (hm:0<m) (hnc:n <= c) (hroom:c<n+m) (hc63:n+m <= 140737488355328) (hG:n+m <= G) (hG63:G <= 9223372036854775807)
  (hrz:∀ ty,(Builtin.append_ #[29,3] ty #[.slice (some ⟨g,0,none⟩) i c,.int .i64 ((n:Int)+(m:Int) - (i:Int))]).run Tryz.prog w=.ok (.slice (some ⟨h,0,none⟩) (n+m) G) w0)
  (hcp1:∀ ty dc,(Builtin.copy_ #[29,29] ty #[.slice (some ⟨h,i * 6,none⟩) (n+m - i) dc,.slice (some ⟨g2,0,none⟩) m c2]).run Tryz.prog w0=.ok v' w')
  (hcp2:∀ ty dc sc,(Builtin.copy_ #[29,29] ty #[.slice (some ⟨h,(i+m) * 6,none⟩) (n+m - (i+m)) dc,.slice (some ⟨g,i * 6,none⟩) (n - i) sc]).run Tryz.prog w'.drew=.ok v'' w'') :
  Calls Tryz.prog 250 #[.slice (some ⟨g,0,none⟩) n c,.int .i64 i,.slice (some ⟨g2,0,none⟩) m c2] w fun e w1=>e=.returned (.slice (some ⟨h,0,none⟩) (n+m) G) /\ w1=w'':=by
 obtain ⟨t24,t3,t4,mixed,z36,hnt⟩:=DL
 have u24:=run_underlying t24;have u3:=run_underlying t3;have u4:=run_underlying t4
 have hz1:¬ ((m:Int)=0):=by omega
 have hz2:¬ ((i:Int)=(n:Int)):=by omega
 have hz3:(c:Int)<(n:Int)+(m:Int):=by omega
 have hw1:IntKind.i64.wrap ((i:Int)+(m:Int))=(i:Int)+(m:Int):=by rw [IntKind.wrap_i64];omega
 have hb1:(0:Int) <= (i:Int)+(m:Int):=by omega
 have hin:i <= n:=by omega
 have htn:((i:Int)+(m:Int)).toNat=i+m:=by omega
 have hGi:¬ (G=i):=by omega
 have hGim:¬ (G=i+m):=by omega
 have hci:¬ (c=i):=by omega
 have hb3:(i:Int) <= (n:Int):=by omega
 go_enter Tryz.func250,hnt
 go_wp2_with (first
  | (at_builtin;refine Gx rfl rfl _ _ rfl rfl (hrz _) ?_)
  | (at_builtin;refine Jo rfl rfl _ _ rfl rfl (hcp1 _ _) ?_))
 go_region_law_o (refine Jp rfl rfl _ _ (by simp [Act.eval,Act.put]) (by simp [Act.eval,Act.put]) (hcp2 _ _ _) ?_)
 go_wp2
 go_ret
 exact ⟨rfl,rfl⟩
end
abbrev aq5:List PT:=eG 54 BP
abbrev aq6:List RT:=qU 54 BP
def aol (k:Nat) (a:List jy) (b:Int) (c:List jy):Option (((List jy)×Unit)×Unit):=Jg 96 54 BP k (a,b,c,())
def F250:Fn:=⟨aq5,aq6,Jg 96 54 BP⟩
def apW:Env:=tab.env (fun _=>none) (fun _=>0)
theorem ak6:aH Tryz.prog apW:=Kw Rt _ _ (fun f F h=>by cases h)
theorem ok250:O 250 F250:=by
 obtain ⟨i0,z,a1,a2,a3,a4,a5⟩:=(ak6.ty 54 (BP) (by kernel_rfl)).info
 have b1:apW.lK 54=96:=by kernel_rfl
 have b2:Ty.sz (BP)=6:=rfl
 rw [b1] at a3
 have hz:z.cells.size=6:=by rw [<- Array.length_toList,a5,gZ,b2]
 obtain ⟨t24,t3,t4,mixed,z36,hnt⟩:=DL
 refine Qq Tryz.func250 rfl (by kernel_rfl) ?_
 rw [b2,<- a3]
 refine Mq (S:=29) (z:=z) t24 t3 a1 a4 (by rw [a2,b2]) hz (by decide) (by rw [a3];decide) (fun w i m v u h1 h2 h3=>Xj w h1 h2 h3) (fun w n g2 m c2 v v' w' h1 h2 h3=>ZP w h1 h2 h3) (fun w g n c i g2 m c2 v' v'' w' w'' h1 h2 h3 h4 h5 h6 hne hg hg2=>V6 w h1 h2 h3 h4 (fun lb cb=>?_) h5 h6) (fun w g n c i g2 m c2 h G v' v'' w0 w' w'' h1 h2 h3 h4 h5 h6 h7 h8 h9 h10=>Xk w h1 h2 h3 h4 h5 h6 h7 h8 h9 h10)
 obtain ⟨cur,q1,q2⟩:=hg
 obtain ⟨xE,q3⟩:=hg2
 rw [run_callFunc_extern Tryz.func319 (by kernel_rfl) (by kernel_rfl) (by kernel_rfl) (e:=Extern.SlicesOverlaps.overlaps #[29,29] #[4]) (by kernel_rfl),Lib.run_overlaps_apart w 29 4 54 t24 6 z36 ⟨g2,0,none⟩ ⟨g,(i+m) * 6,none⟩ m c2 lb cb hne 54 54 xE.size cur.size (by simp [World.shape?,q3]) (by simp [World.shape?,q1]) q2 (Kd.fQ q3 _) (Kd.fQ q3 _)]
 rfl
abbrev adj:Cut:=⟨[0,5,6,7],[.cell p9,.cell p9,cI,cI],[],31,[]⟩
def Xl (k:Nat) (g2:(List jy) -> (List jy) -> Int -> Int -> Option j6) (a b:List jy) (c e:Int):Option j6 :=
 (bif decide (e<c) then
  ix b e <|
  (agn k (rd b e bg)).bind fun q0 =>
  (bif q0.1.1 != 0 then
   some ((false,()),())
  else
   (bif decide (e>0) then
    ix a (IntKind.i64.wrap (e - 1)) <|
    (bif decide ((rd a (IntKind.i64.wrap (e - 1)) bg).1≥(rd b e bg).1) then
     some ((false,()),())
    else
     g2 a b c (IntKind.i64.wrap (e+1)))
   else
    g2 a b c (IntKind.i64.wrap (e+1))))
 else
  some ((true,()),()))
def ahW (k:Nat):Xx (((Unit)×(List jy)×(List jy)×Int×Int×Unit) -> Option j6):=eu (dw (dh (dh (dh (dh dx))))) (Xl k)
def MI (k a:Nat) (b c:List jy) (e f:Int):Option j6:=iter adj (ahW k) a ((),b,c,e,f,())
theorem ZQ (k a b c e f):MI k (a+1) b c e f=Xl k (MI k a) b c e f:=Ba _ _ _ _
def ak7 (k:Nat) (a:List jy):Option j6 :=
 MI k k a a (a.length:Int) 0
def F348:Fn:=⟨[Zo],[rB],fun k x=>ak7 k x.1⟩
theorem ok348:O 348 F348:=okF (ah ok247 aj) [] (fun k=>(.loop 2 adj (ahW k) (fun g=>.nil) .nil)) Tryz.func348 rfl
def aom (k:Nat) (a:Int):Option A9 :=
 (bif decide (a<0) then
  none
 else
  (bif decide ((IntKind.i64.wrap (a - 0))>0) then
   az ([]:List (Int×Int)) (IntKind.i64.wrap (a - 0)) 16 (0,0) fun r0 =>
   sx r0 0 0 <|
   some ((r0.take 0,()),())
  else
   some (([],()),())))
def F359:Fn:=⟨[.pv (.nil),au],[aob],fun k x=>aom k x.2.1⟩
theorem ok359:O 359 F359:=okF aj [(25,1)] On Tryz.func359 rfl
abbrev ZR:Cut:=⟨[6,25,26,27],[.own 378 ow,.cell (.sl 308 (.sl 378 ow)),cI,cI],[],36,[]⟩
def KI (k:Nat) (g11:j5 -> (List j5) -> Int -> Int -> Option A9) (a:oq) (b:List j5) (c e:Int):Option A9 :=
 (bif decide (e<c) then
  ix b e <|
  ap a (rd b e []) 16 fun r1 =>
  g11 r1 b c (IntKind.i64.wrap (e+1))
 else
  some ((a,()),()))
def adk (k:Nat):Xx (((Unit)×j5×(List j5)×Int×Int×Unit) -> Option A9):=eu (dw (dh (dh (dh (dh dx))))) (KI k)
def KL (k a:Nat) (b:oq) (c:List j5) (e f:Int):Option A9:=iter ZR (adk k) a ((),b,c,e,f,())
theorem MJ (k a b c e f):KL k (a+1) b c e f=KI k (KL k a) b c e f:=Ba _ _ _ _
abbrev adl:Cut:=⟨[0,3,9,10,11],[.cell (.sl 308 (.sl 378 ow)),cI,.cell (.sl 308 (.sl 378 ow)),cI,cI],[],36,[]⟩
def RQ (k:Nat) (g3:(List j5) -> Int -> (List j5) -> Int -> Int -> Option A9) (a:List j5) (b:Int) (c:List j5) (e f:Int):Option A9 :=
 (bif decide (f<e) then
  ix c f <|
  (bif decide ((IntKind.i64.wrap (b+((rd c f []).length:Int)))<0) then
   none
  else
   g3 a (IntKind.i64.wrap (b+((rd c f []).length:Int))) c e (IntKind.i64.wrap (f+1)))
 else
  (aom k b).bind fun q0 =>
  KL k k q0.1.1 a (a.length:Int) 0)
def ahX (k:Nat):Xx (((Unit)×(List j5)×Int×(List j5)×Int×Int×Unit) -> Option A9):=eu (dw (dh (dh (dh (dh (dh dx)))))) (RQ k)
def Xm (k a:Nat) (b:List j5) (c:Int) (e:List j5) (f h:Int):Option A9:=iter adl (ahX k) a ((),b,c,e,f,h,())
theorem RU (k a b c e f h):Xm k (a+1) b c e f h=RQ k (Xm k a) b c e f h:=Ba _ _ _ _
def ahY (k:Nat) (a:List j5):Option A9 :=
 Xm k k a 0 a (a.length:Int) 0
def F351:Fn:=⟨[.val ⟨false,(.sl 308 (.sl 378 ow)),false⟩],[aob],fun k x=>ahY k x.1⟩
theorem ok351:O 351 F351:=okF (ah ok359 aj) [] (fun k=>(.loop 11 ZR (adk k) (fun g=>.nil) (.loop 3 adl (ahX k) (fun g=>.nil) .nil))) Tryz.func351 rfl
def ZT (k:Nat) (a:KG):Option ((Int×Int×j5×Unit)×Unit) :=
 (agn k a).bind fun q0 =>
 (bif q0.1.1 != 0 then
  some ((0,0,[],()),())
 else
  (agl k a.2.2.2.1).bind fun q1 =>
  (agl k a.2.2.2.2.1).bind fun q2 =>
  (bif q2.1.2.1 then
   (ahY k ([q1.1.1.2.2,q2.1.1.2.2]:List j5)).bind fun q3 =>
   some ((q1.1.1.1,q2.1.1.1,q3.1.1,()),())
  else
   (ahY k ([q1.1.1.2.2,q2.1.1.2.2]:List j5)).bind fun q4 =>
   some ((q1.1.1.1,q1.1.1.2.1,q4.1.1,()),())))
def F322:Fn:=⟨[Vo],[rI,rI,aob],fun k x=>ZT k x.1⟩
theorem ok322:O 322 F322:=okF (ah ok247 <| ah ok346 <| ah ok351 aj) [] On Tryz.func322 rfl
def aon (k:Nat) (a:Int):Option G6 :=
 (bif decide (a<0) then
  none
 else
  (bif decide ((IntKind.i64.wrap (a - 0))>0) then
   az ([]:List jq) (IntKind.i64.wrap (a - 0)) 32 (0,0,0,0) fun r0 =>
   sx r0 0 0 <|
   some ((r0.take 0,()),())
  else
   some (([],()),())))
def F131:Fn:=⟨[.pv (.nil),au],[.val ⟨false,ql,true⟩],fun k x=>aon k x.2.1⟩
theorem ok131:O 131 F131:=okF aj [(25,1)] On Tryz.func131 rfl
abbrev adn:Cut:=⟨[6,25,26,27],[.own 127 Vj,.cell (.sl 52 ql),cI,cI],[],36,[]⟩
def RV (k:Nat) (g11:(List jq) -> Vl -> Int -> Int -> Option G6) (a:List jq) (b:List (List jq)) (c e:Int):Option G6 :=
 (bif decide (e<c) then
  ix b e <|
  ap a (rd b e []) 32 fun r1 =>
  g11 r1 b c (IntKind.i64.wrap (e+1))
 else
  some ((a,()),()))
def ahZ (k:Nat):Xx (((Unit)×(List jq)×Vl×Int×Int×Unit) -> Option G6):=eu (dw (dh (dh (dh (dh dx))))) (RV k)
def RX (k a:Nat) (b:List jq) (c:List (List jq)) (e f:Int):Option G6:=iter adn (ahZ k) a ((),b,c,e,f,())
theorem RY (k a b c e f):RX k (a+1) b c e f=RV k (RX k a) b c e f:=Ba _ _ _ _
abbrev ah1:Cut:=⟨[0,3,9,10,11],[.cell (.sl 52 ql),cI,.cell (.sl 52 ql),cI,cI],[],36,[]⟩
def ZU (k:Nat) (g3:Vl -> Int -> Vl -> Int -> Int -> Option G6) (a:List (List jq)) (b:Int) (c:List (List jq)) (e f:Int):Option G6 :=
 (bif decide (f<e) then
  ix c f <|
  (bif decide ((IntKind.i64.wrap (b+((rd c f []).length:Int)))<0) then
   none
  else
   g3 a (IntKind.i64.wrap (b+((rd c f []).length:Int))) c e (IntKind.i64.wrap (f+1)))
 else
  (aon k b).bind fun q0 =>
  RX k k q0.1.1 a (a.length:Int) 0)
def anE (k:Nat):Xx (((Unit)×Vl×Int×Vl×Int×Int×Unit) -> Option G6):=eu (dw (dh (dh (dh (dh (dh dx)))))) (ZU k)
def ado (k a:Nat) (b:List (List jq)) (c:Int) (e:List (List jq)) (f h:Int):Option G6:=iter ah1 (anE k) a ((),b,c,e,f,h,())
theorem Xn (k a b c e f h):ado k (a+1) b c e f h=ZU k (ado k a) b c e f h:=Ba _ _ _ _
def S58 (k:Nat) (a:List (List jq)):Option G6 :=
 ado k k a 0 a (a.length:Int) 0
def F58:Fn:=⟨[.val ⟨false,(.sl 52 ql),false⟩],[.val ⟨false,ql,true⟩],fun k x=>S58 k x.1⟩
theorem ok58:O 58 F58:=okF (ah ok131 aj) [] (fun k=>(.loop 11 adn (ahZ k) (fun g=>.nil) (.loop 3 ah1 (anE k) (fun g=>.nil) .nil))) Tryz.func58 rfl
def aoo (k:Nat) (a:Int×Int×Int×Int) (b:Int):Option j6 :=
 (bif a.1==9 then
  some ((a.2.1==b,()),())
 else
  some ((false,()),()))
def F134:Fn:=⟨[agc,Zq],[rB],fun k x=>aoo k x.1 x.2.1⟩
theorem ok134:O 134 F134:=okF aj [] On Tryz.func134 rfl
abbrev ZV:Cut:=⟨[0,1,7,8],[.cell ql,.lJ 134 [.ref (.int .i64)],cI,cI],[],19,[]⟩
def Q6 (k:Nat) (g2:(List jq) -> Int -> Int -> Int -> Option jo) (a:List jq) (b c e:Int):Option jo :=
 (bif decide (e<c) then
  ix a e <|
  (aoo k (rd a e (0,0,0,0)) b).bind fun q0 =>
  (bif q0.1.1 then
   some ((e,()),())
  else
   g2 a b c (IntKind.i64.wrap (e+1)))
 else
  some (((-1),()),()))
def adp (k:Nat):Xx (((Unit)×(List jq)×Zi×Int×Int×Unit) -> Option jo):=eu (dw (dh (d9 (dh dx) (dh (dh dx))))) (Q6 k)
def I5 (k a:Nat) (b:List jq) (c e f:Int):Option jo:=iter ZV (adp k) a ((),b,(c,()),e,f,())
theorem Vv (k a b c e f):I5 k (a+1) b c e f=Q6 k (I5 k a) b c e f:=Ba _ _ _ _
def adq (k:Nat) (a:List jq) (b:Int):Option jo :=
 I5 k k a b (a.length:Int) 0
def F130c:Fn:=⟨[EC,.pv (.lJ 134 [.ref (.int .i64)])],[rI],fun k x=>adq k x.1 x.2.1.1⟩
theorem ok130c:O 130 F130c:=okF (ah ok134 aj) [] (fun k=>(.loop 2 ZV (adp k) (fun g=>.nil) .nil)) Tryz.func130 rfl
def aop (k:Nat) (a:List jq) (b:Int):Option j6 :=
 (adq k a b).bind fun q0 =>
 some ((decide (q0.1.1≥0),()),())
def F57b:Fn:=⟨[EC,.pv (.lJ 134 [.ref (.int .i64)])],[rB],fun k x=>aop k x.1 x.2.1.1⟩
theorem ok57b:O 57 F57b:=okF (ah ok130c aj) [] On Tryz.func57 rfl
def ak8 (k:Nat) (a:KG) (b:Int):Option j6 :=
 (S58 k ([a.2.2.2.1,a.2.2.2.2.1]:List (List jq))).bind fun q0 =>
 (aop k q0.1.1 b).bind fun q1 =>
 some ((q1.1.1,()),())
def F133:Fn:=⟨[Vo,Zq],[rB],fun k x=>ak8 k x.1 x.2.1⟩
theorem ok133:O 133 F133:=okF (ah ok57b <| ah ok58 aj) [] On Tryz.func133 rfl
abbrev ZW:Cut:=⟨[0,1,7,8],[.cell p9,.lJ 133 [.ref (.int .i64)],cI,cI],[],19,[]⟩
def Q7 (k:Nat) (g2:(List jy) -> Int -> Int -> Int -> Option jo) (a:List jy) (b c e:Int):Option jo :=
 (bif decide (e<c) then
  ix a e <|
  (ak8 k (rd a e bg) b).bind fun q0 =>
  (bif q0.1.1 then
   some ((e,()),())
  else
   g2 a b c (IntKind.i64.wrap (e+1)))
 else
  some (((-1),()),()))
def adr (k:Nat):Xx (((Unit)×(List jy)×Zi×Int×Int×Unit) -> Option jo):=eu (dw (dh (d9 (dh dx) (dh (dh dx))))) (Q7 k)
def EH (k a:Nat) (b:List jy) (c e f:Int):Option jo:=iter ZW (adr k) a ((),b,(c,()),e,f,())
theorem Vw (k a b c e f):EH k (a+1) b c e f=Q7 k (EH k a) b c e f:=Ba _ _ _ _
def ah2 (k:Nat) (a:List jy) (b:Int):Option jo :=
 EH k k a b (a.length:Int) 0
def F132a:Fn:=⟨[Zo,.pv (.lJ 133 [.ref (.int .i64)])],[rI],fun k x=>ah2 k x.1 x.2.1.1⟩
theorem ok132a:O 132 F132a:=okF (ah ok133 aj) [] (fun k=>(.loop 2 ZW (adr k) (fun g=>.nil) .nil)) Tryz.func132 rfl
def S60 (k:Nat) (a:List jy) (b:Int):Option jo :=
 (ah2 k a b).bind fun q0 =>
 (bif decide (q0.1.1<0) then
  some ((8,()),())
 else
  some ((q0.1.1,()),()))
def F60:Fn:=⟨[Zo,au],[rI],fun k x=>S60 k x.1 x.2.1⟩
theorem ok60:O 60 F60:=okF (ah ok132a aj) [] On Tryz.func60 rfl
abbrev ah3:Cut:=⟨[0,1,4,5,12,16,17,18,32,33,34],[.cell p9,cI,cI,.mp 431 true (.int .i64) false (.int .i64),.box 378 [cI,cI],.cell p9,cI,cI,.own 378 ow,cI,cI],[],70,[]⟩
def KM (k:Nat) (g3:Vi) (g8:ahq) (a:List jy) (b c:Int) (e:oq) (x f:Int) (h:List jy) (i l:Int) (m:oq) (n o:Int):Option jo :=
 (bif decide ((Us (.int .i64) (.int .i64) x e 0) <= b) then
  g8 a b (mx c f) e h i l m n (IntKind.i64.wrap (o+1))
 else
  g8 a b c e h i l m n (IntKind.i64.wrap (o+1)))
abbrev ads:Cut:=⟨[0,1,4,5,16,17,18,32,33,34],[.cell p9,cI,cI,.mp 431 true (.int .i64) false (.int .i64),.cell p9,cI,cI,.own 378 ow,cI,cI],[],70,[]⟩
def Xo (k:Nat) (g3:Vi) (g8:ahq) (a:List jy) (b c:Int) (e:oq) (f:List jy) (h i:Int) (l:oq) (m n:Int):Option jo :=
 (bif decide (n<m) then
  ix l n <|
  (bif !(Ut (.int .i64) (.int .i64) (rd l n (0,0)).1 e) then
   (S60 k a (rd l n (0,0)).1).bind fun q1 =>
   KM k g3 g8 a b c (vL (.int .i64) (.int .i64) (rd l n (0,0)).1 q1.1.1 e) (rd l n (0,0)).1 (rd l n (0,0)).2 f h i l m n
  else
   KM k g3 g8 a b c e (rd l n (0,0)).1 (rd l n (0,0)).2 f h i l m n)
 else
  g3 a b c e f h (IntKind.i64.wrap (i+1)))
def ah4 (k:Nat) (g3:Vi):Xx (((Unit)×(List jy)×Int×Int×j5×(List jy)×Int×Int×j5×Int×Int×Unit) -> Option jo):=eu (dw (dh (dh (dh (dh (dh (dh (dh (dh (dh (dh dx))))))))))) (Xo k g3)
def RZ (k:Nat) (g3:Vi) (a:Nat) (b:List jy) (c e:Int) (f:oq) (h:List jy) (i l:Int) (m:oq) (n o:Int):Option jo:=iter ads (ah4 k g3) a ((),b,c,e,f,h,i,l,m,n,o,())
theorem ZX (k g3 a b c e f h i l m n o):RZ k g3 (a+1) b c e f h i l m n o=Xo k g3 (RZ k g3 a) b c e f h i l m n o:=Ba _ _ _ _
abbrev adt:Cut:=⟨[0,1,4,5,16,17,18],[.cell p9,cI,cI,.mp 431 true (.int .i64) false (.int .i64),.cell p9,cI,cI],[],70,[]⟩
def Xp (k:Nat) (g3:Vi) (a:List jy) (b c:Int) (e:oq) (f:List jy) (h i:Int):Option jo :=
 (bif decide (i<h) then
  ix f i <|
  (bif i==b then
   g3 a b c e f h (IntKind.i64.wrap (i+1))
  else
   (ZT k (rd f i bg)).bind fun q0 =>
   RZ k g3 k a b c e f h i q0.1.2.2.1 (q0.1.2.2.1.length:Int) 0)
 else
  some ((c,()),()))
def ah5 (k:Nat):Xx (((Unit)×(List jy)×Int×Int×j5×(List jy)×Int×Int×Unit) -> Option jo):=eu (dw (dh (dh (dh (dh (dh (dh (dh dx)))))))) (Xp k)
def S9 (k a:Nat) (b:List jy) (c e:Int) (f:oq) (h:List jy) (i l:Int):Option jo:=iter adt (ah5 k) a ((),b,c,e,f,h,i,l,())
theorem ZY (k a b c e f h i l):S9 k (a+1) b c e f h i l=Xp k (S9 k a) b c e f h i l:=Ba _ _ _ _
def ak9 (k:Nat) (a:List jy) (b:Int):Option jo :=
 S9 k k a b 0 ([]:List (Int×Int)) a (a.length:Int) 0
def F323:Fn:=⟨[Zo,au],[rI],fun k x=>ak9 k x.1 x.2.1⟩
theorem ok323:O 323 F323:=okF (ah ok60 <| ah ok322 aj) [] (fun k=>(.loop 3 adt (ah5 k) (fun g=>(fun (g3:Vi)=>(.loop 8 ads (ah4 k g3) (fun g=>(fun (g8:ahq)=>(.join 13 ah3 (fun (_,a,b,c,e,(f,h,_),i,l,m,n,o,p,_)=>KM k g3 g8 a b c e f h i l m n o p) .nil)) (fun l_2 i2 apZ aoq ap0 ap1 ap2 t32 t33 t34=>g ((),l_2,i2,apZ,aoq,ap0,ap1,ap2,t32,t33,t34,()))) .nil)) (fun l_1 i1 most ap3 t16 t17 t18=>g ((),l_1,i1,most,ap3,t16,t17,t18,()))) .nil)) Tryz.func323 rfl
def agp (k:Nat) (a:Int) (b:Bool) (c e:Int):Option ((Unit)×acP×Unit) :=
 (agj k c e).bind fun q0 =>
 (agk k a q0.1.1).bind fun q1 =>
 (bif b then
  some ((),(q1.1.1,true,()),())
 else
  (bif !q0.1.2.1 then
   some ((),(q1.1.1,true,()),())
  else
   some ((),(q1.1.1,!q1.1.2.1,()),())))
def F349:Fn:=⟨[.fK 427 [cI,.cell .bool],au,au],[],fun k ((a,b,_),c,e,_)=>agp k a b c e⟩
theorem ok349:O 349 F349:=okF (ah ok356 <| ah ok357 aj) [] On Tryz.func349 rfl
def ala (k:Nat) (a b:Int):Option DJ :=
 (bif decide (b<1) then
  some ((0,false,()),())
 else
  (bif decide (a<0) then
   some ((0,false,()),())
  else
   nz b <|
   nz b <|
   (bif decide ((Int.tmod a b)>0) then
    some ((IntKind.i64.wrap ((IntKind.i64.wrap (Int.tdiv a b))+1),true,()),())
   else
    some ((IntKind.i64.wrap (Int.tdiv a b),true,()),()))))
def F358:Fn:=⟨[au,au],[rI,rB],fun k x=>ala k x.1 x.2.1⟩
theorem ok358:O 358 F358:=okF aj [] On Tryz.func358 rfl
def ah6 (k:Nat) (a b:Int):Option jo :=
 (ala k a b).bind fun q0 =>
 some ((q0.1.1,()),())
def F350:Fn:=⟨[au,au],[rI],fun k x=>ah6 k x.1 x.2.1⟩
theorem ok350:O 350 F350:=okF (ah ok358 aj) [] On Tryz.func350 rfl
abbrev aac:Cut:=⟨[0,1,2,6,7,12,18,19,88,89,90],[.cell p9,cI,cI,cI,cI,cI,.box 427 [cI,.cell .bool],.box 427 [cI,.cell .bool],.cell p9,cI,cI],[],128,[]⟩
def Q8 (k:Nat) (g14:Zc) (g18:(List jy) -> Int -> Int -> Int -> Int -> Int -> Int -> Bool -> Int -> Bool -> (List jy) -> Int -> Int -> Option DI) (a:List jy) (b c e f h i:Int) (l:Bool) (m:Int) (n:Bool) (o:List jy) (p s:Int):Option DI :=
 (bif decide (s<p) then
  ix o s <|
  (ZT k (rd o s bg)).bind fun q7 =>
  (ah6 k e (rd o s bg).2.1).bind fun q8 =>
  (agp k m n q8.1.1 q7.1.1).bind fun q9 =>
  g18 a b c e f h i l q9.2.1.1 q9.2.1.2.1 o p (IntKind.i64.wrap (s+1))
 else
  (bif n then
   some ((0,0,13,()),())
  else
   ix a b <|
   (bif decide (m>(rd a b bg).2.2.1) then
    some ((0,0,14,()),())
   else
    (bif m==e then
     some ((e,f,0,()),())
    else
     g14 a b c m f h i l))))
def adu (k:Nat) (g14:Zc):Xx (((Unit)×(List jy)×Int×Int×Int×Int×Int×acP×acP×(List jy)×Int×Int×Unit) -> Option DI):=eu (dw (dh (dh (dh (dh (dh (dh (d9 (dh (dh dx)) (d9 (dh (dh dx)) (dh (dh (dh dx)))))))))))) (Q8 k g14)
def Q9 (k:Nat) (g14:Zc) (a:Nat) (b:List jy) (c e f h i l:Int) (m:Bool) (n:Int) (o:Bool) (p:List jy) (s t:Int):Option DI:=iter aac (adu k g14) a ((),b,c,e,f,h,i,(l,m,()),(n,o,()),p,s,t,())
theorem Vx (k g14 a b c e f h i l m n o p s t):Q9 k g14 (a+1) b c e f h i l m n o p s t=Q8 k g14 (Q9 k g14 a) b c e f h i l m n o p s t:=Ba _ _ _ _
abbrev aad:Cut:=⟨[0,1,2,6,7,12,18],[.cell p9,cI,cI,cI,cI,cI,.box 427 [cI,.cell .bool]],[],128,[]⟩
def Xq (k:Nat) (g14:Zc) (a:List jy) (b c e f h i:Int) (l:Bool):Option DI :=
 (ah6 k e c).bind fun q5 =>
 (agp k i l q5.1.1 h).bind fun q6 =>
 sx a 0 b <|
 Q9 k g14 k a b c e (IntKind.i64.wrap (f+1)) h i l q6.2.1.1 q6.2.1.2.1 (sub a 0 b) ((sub a 0 b).length:Int) 0
def adv (k:Nat):Xx (((Unit)×(List jy)×Int×Int×Int×Int×Int×acP×Unit) -> Option DI):=eu (dw (dh (dh (dh (dh (dh (dh (d9 (dh (dh dx)) dx)))))))) (Xq k)
def KN (k a:Nat) (b:List jy) (c e f h i l:Int) (m:Bool):Option DI:=iter aad (adv k) a ((),b,c,e,f,h,i,(l,m,()),())
theorem agq (k a b c e f h i l m):KN k (a+1) b c e f h i l m=Xq k (KN k a) b c e f h i l m:=Ba _ _ _ _
abbrev adw:Cut:=⟨[0,1,2,7,9,12,54,55,56],[.cell p9,cI,cI,cI,cI,cI,.cell p9,cI,cI],[],128,[]⟩
def Xr (k:Nat) (g6:(List jy) -> Int -> Int -> Int -> Int -> Int -> (List jy) -> Int -> Int -> Option DI) (a:List jy) (b c e f h:Int) (i:List jy) (l m:Int):Option DI :=
 (bif decide (m<l) then
  ix i m <|
  (ZT k (rd i m bg)).bind fun q2 =>
  g6 a b c e f (mx h q2.1.2.1) i l (IntKind.i64.wrap (m+1))
 else
  (ak9 k a b).bind fun q3 =>
  (agp k f false 1 q3.1.1).bind fun q4 =>
  KN k k a b c q4.2.1.1 e h q4.2.1.1 q4.2.1.2.1)
def ah7 (k:Nat):Xx (((Unit)×(List jy)×Int×Int×Int×Int×Int×(List jy)×Int×Int×Unit) -> Option DI):=eu (dw (dh (dh (dh (dh (dh (dh (dh (dh (dh dx)))))))))) (Xr k)
def Xt (k a:Nat) (b:List jy) (c e f h i:Int) (l:List jy) (m n:Int):Option DI:=iter adw (ah7 k) a ((),b,c,e,f,h,i,l,m,n,())
theorem aae (k a b c e f h i l m n):Xt k (a+1) b c e f h i l m n=Xr k (Xt k a) b c e f h i l m n:=Ba _ _ _ _
def alb (k:Nat) (a:List jy) (b c:Int):Option DI :=
 (ak7 k a).bind fun q0 =>
 (bif !q0.1.1 then
  some ((0,0,1,()),())
 else
  (bif decide (b<0) then
   some ((0,0,1,()),())
  else
   (bif decide (b≥(a.length:Int)) then
    some ((0,0,1,()),())
   else
    (bif decide (c<1) then
     some ((0,0,1,()),())
    else
     ix a b <|
     (ZT k (rd a b bg)).bind fun q1 =>
     sx a 0 (IntKind.i64.wrap (b+1)) <|
     Xt k k a b c 0 q1.1.1 0 (sub a 0 (IntKind.i64.wrap (b+1))) ((sub a 0 (IntKind.i64.wrap (b+1))).length:Int) 0))))
def F321:Fn:=⟨[Zo,au,au],[rI,rI,rI],fun k (a,b,c,_)=>alb k a b c⟩
theorem ok321:O 321 F321:=okF (ah ok322 <| ah ok323 <| ah ok348 <| ah ok349 <| ah ok350 aj) [] (fun k=>(.loop 14 aad (adv k) (fun g=>(fun (g14:Zc)=>(.loop 18 aac (adu k g14) (fun g=>.nil) .nil)) (fun l_2 i2 aor r_ alc ap4 first aos=>g ((),l_2,i2,aor,r_,alc,ap4,(first,aos,()),()))) (.loop 6 adw (ah7 k) (fun g=>.nil) .nil))) Tryz.func321 rfl
abbrev adx:Cut:=⟨[0,1,4,16,17,18],[.cell p9,cI,.own 168 CY,.cell p9,cI,cI],[],56,[]⟩
def Xu (k:Nat) (g4:(List jy) -> Int -> G8 -> (List jy) -> Int -> Int -> Option Zk) (a:List jy) (b:Int) (c:List (PN Int 5)) (e:List jy) (f h:Int):Option Zk :=
 (bif decide (h<f) then
  ix e h <|
  (alb k a h b).bind fun q0 =>
  (bif q0.1.2.2.1 != 0 then
   some ((([]:List (PN Int 5)),q0.1.2.2.1,()),())
  else
   (ZT k (rd e h bg)).bind fun q1 =>
   (ak9 k a h).bind fun q2 =>
   ap c ([(q1.1.1,q1.1.2.1,q2.1.1,q0.1.1,IntKind.i64.wrap ((rd e h bg).2.2.1 - q0.1.1))]:List (PN Int 5)) 40 fun r3 =>
   g4 a b r3 e f (IntKind.i64.wrap (h+1)))
 else
  some ((c,0,()),()))
def ah8 (k:Nat):Xx (((Unit)×(List jy)×Int×G8×(List jy)×Int×Int×Unit) -> Option Zk):=eu (dw (dh (dh (dh (dh (dh (dh dx))))))) (Xu k)
def Xv (k a:Nat) (b:List jy) (c:Int) (e:List (PN Int 5)) (f:List jy) (h i:Int):Option Zk:=iter adx (ah8 k) a ((),b,c,e,f,h,i,())
theorem aaf (k a b c e f h i):Xv k (a+1) b c e f h i=Xu k (Xv k a) b c e f h i:=Ba _ _ _ _
def ah9 (k:Nat) (a:List jy) (b:Int):Option Zk :=
 (bif decide (b<1) then
  some ((([]:List (PN Int 5)),1,()),())
 else
  Xv k k a b ([]:List (PN Int 5)) a (a.length:Int) 0)
def F251:Fn:=⟨[Zo,au],[.val ⟨false,Zl,true⟩,rI],fun k x=>ah9 k x.1 x.2.1⟩
theorem ok251:O 251 F251:=okF (ah ok321 <| ah ok322 <| ah ok323 aj) [(4,2)] (fun k=>(.loop 4 adx (ah8 k) (fun g=>.nil) .nil)) Tryz.func251 rfl
abbrev aia:Cut:=⟨[2,4,13,16],[cI,.box 54 [cI,cI,cI,.cell ql,.cell ql,.cell ql],.own 54 BP,cI],[],82,[]⟩
def KO (k:Nat) (a b c e:Int) (f h i:List jq) (l:List jy) (m:Int):Option J9 :=
 (ahU k (b,c,e,f,h,i)).bind fun q4 =>
 (aol k l m ([q4.1.1]:List jy)).bind fun q5 =>
 (ah9 k q5.1.1 a).bind fun q6 =>
 (bif q6.1.2.1 != 0 then
  some (([],[],q6.1.2.1,()),())
 else
  some ((q5.1.1,q6.1.1,0,()),()))
abbrev aag:Cut:=⟨[2,4,13,46,47,48],[cI,.box 54 [cI,cI,cI,.cell ql,.cell ql,.cell ql],.own 54 BP,.cell p9,cI,cI],[],82,[]⟩
def QA (k:Nat) (g16:Int -> Int -> Int -> Int -> (List jq) -> (List jq) -> (List jq) -> (List jy) -> (List jy) -> Int -> Int -> Option J9) (a b c e:Int) (f h i:List jq) (l m:List jy) (n o:Int):Option J9 :=
 (bif decide (o<n) then
  ix m o <|
  (ahU k (rd m o bg)).bind fun q1 =>
  ap l ([q1.1.1]:List jy) 96 fun r2 =>
  g16 a b c e f h i r2 m n (IntKind.i64.wrap (o+1))
 else
  (aok k l (b,c,e,f,h,i)).bind fun q3 =>
  (bif decide (q3.1.1<0) then
   KO k a b c e f h i l (l.length:Int)
  else
   KO k a b c e f h i l q3.1.1))
def ady (k:Nat):Xx (((Unit)×Int×anB×(List jy)×(List jy)×Int×Int×Unit) -> Option J9):=eu (dw (dh (d9 (dh (dh (dh (dh (dh (dh dx)))))) (dh (dh (dh (dh dx))))))) (QA k)
def QB (k a:Nat) (b c e f:Int) (h i l:List jq) (m n:List jy) (o p:Int):Option J9:=iter aag (ady k) a ((),b,(c,e,f,h,i,l,()),m,n,o,p,())
theorem Vy (k a b c e f h i l m n o p):QB k (a+1) b c e f h i l m n o p=QA k (QB k a) b c e f h i l m n o p:=Ba _ _ _ _
abbrev adz:Cut:=⟨[0,2,4,9,20,21,22],[.cell p9,cI,.box 54 [cI,cI,cI,.cell ql,.cell ql,.cell ql],.mp 343 true (.int .i64) false .bool,.cell p9,cI,cI],[],82,[]⟩
def Xw (k:Nat) (g3:(List jy) -> Int -> Int -> Int -> Int -> (List jq) -> (List jq) -> (List jq) -> (List (Int×Bool)) -> (List jy) -> Int -> Int -> Option J9) (a:List jy) (b c e f:Int) (h i l:List jq) (m:List (Int×Bool)) (n:List jy) (o p:Int):Option J9 :=
 (bif decide (p<o) then
  ix n p <|
  g3 a b c e f h i l (vL (.int .i64) .bool (rd n p bg).1 true m) n o (IntKind.i64.wrap (p+1))
 else
  (agn k (c,e,f,h,i,l)).bind fun q0 =>
  (bif q0.1.1 != 0 then
   some (([],[],q0.1.1,()),())
  else
   (bif Us (.int .i64) .bool c m false then
    some (([],[],11,()),())
   else
    (bif decide ((a.length:Int)≥8) then
     some (([],[],4,()),())
    else
     QB k k b c e f h i l ([]:List jy) a (a.length:Int) 0))))
def aib (k:Nat):Xx (((Unit)×(List jy)×Int×anB×(List (Int×Bool))×(List jy)×Int×Int×Unit) -> Option J9):=eu (dw (dh (dh (d9 (dh (dh (dh (dh (dh (dh dx)))))) (dh (dh (dh (dh dx)))))))) (Xw k)
def Xy (k a:Nat) (b:List jy) (c e f h:Int) (i l m:List jq) (n:List (Int×Bool)) (o:List jy) (p s:Int):Option J9:=iter adz (aib k) a ((),b,c,(e,f,h,i,l,m,()),n,o,p,s,())
theorem aah (k a b c e f h i l m n o p s):Xy k (a+1) b c e f h i l m n o p s=Xw k (Xy k a) b c e f h i l m n o p s:=Ba _ _ _ _
def aot (k:Nat) (a:List jy) (b:KG) (c:Int):Option J9 :=
 Xy k k a c b.1 b.2.1 b.2.2.1 b.2.2.2.1 b.2.2.2.2.1 b.2.2.2.2.2 ([]:List (Int×Bool)) a (a.length:Int) 0
def F166:Fn:=⟨[Zo,Vo,au],[.val ⟨false,p9,true⟩,.val ⟨false,Zl,true⟩,rI],fun k (a,b,c,_)=>aot k a b c⟩
theorem ok166:O 166 F166:=okF (ah ok132 <| ah ok247 <| ah ok248 <| ah ok250 <| ah ok251 aj) [(13,2)] (fun k=>(.join 23 aia (fun (_,a,(b,c,e,f,h,i,_),l,m,_)=>KO k a b c e f h i l m) (.loop 16 aag (ady k) (fun g=>.nil) (.loop 3 adz (aib k) (fun g=>.nil) .nil)))) Tryz.func166 rfl
def S89 (k:Nat) (a:G5):Option OJ :=
 (bif a.1.2.2.2.2.1 then
  some ((),BI (w3 a 7),())
 else
  (aot k a.1.2.2.1 a.2.1.2.1 a.1.2.1).bind fun q0 =>
  (bif q0.1.2.2.1==0 then
   some ((),BI ((a.1.1,a.1.2.1,q0.1.1,q0.1.2.1,a.1.2.2.2.2),a.2.1,a.2.2.1,q0.1.2.2.1,a.2.2.2.2),())
  else
   some ((),BI (w3 a q0.1.2.2.1),())))
def F89:Fn:=⟨[Zn],[],fun k x=>S89 k (qd x.1)⟩
theorem ok89:O 89 F89:=okF (ah ok166 aj) [] On Tryz.func89 rfl
def aou (k:Nat) (a:List jy):Option (((List jy)×Unit)×Unit):=qQ 96 54 BP k (a,())
def F123:Fn:=⟨dJ 54 BP,iZ 54 BP,qQ 96 54 BP⟩
theorem ok123:O 123 F123:=Kz JB mix Tryz.func123 rfl (by kernel_rfl) (by kernel_rfl) (fun k=>by kernel_rfl) (fun k xs=>by kernel_rfl) (fun k xs=>by kernel_rfl)
def aov (k:Nat) (a:List (PN Int 5)):Option ((G8×Unit)×Unit):=qQ 40 168 CY k (a,())
def F124:Fn:=⟨dJ 168 CY,iZ 168 CY,qQ 40 168 CY⟩
theorem ok124:O 124 F124:=Kz JB mix Tryz.func124 rfl (by kernel_rfl) (by kernel_rfl) (fun k=>by kernel_rfl) (fun k xs=>by kernel_rfl) (fun k xs=>by kernel_rfl)
def aow (k:Nat) (a:List AY):Option (((List AY)×Unit)×Unit):=qQ 272 59 uo k (a,())
def F125:Fn:=⟨dJ 59 uo,iZ 59 uo,qQ 272 59 uo⟩
theorem ok125:O 125 F125:=Kz JB mix Tryz.func125 rfl (by kernel_rfl) (by kernel_rfl) (fun k=>by kernel_rfl) (fun k xs=>by kernel_rfl) (fun k xs=>by kernel_rfl)
def ab0 (k:Nat) (a:List (Int×Int×Int)):Option (((List (Int×Int×Int))×Unit)×Unit):=qQ 24 293 (.pair (.int .i64) ow) k (a,())
def F217:Fn:=⟨dJ 293 (.pair (.int .i64) ow),iZ 293 (.pair (.int .i64) ow),qQ 24 293 (.pair (.int .i64) ow)⟩
theorem ok217:O 217 F217:=Kz JB mix Tryz.func217 rfl (by kernel_rfl) (by kernel_rfl) (fun k=>by kernel_rfl) (fun k xs=>by kernel_rfl) (fun k xs=>by kernel_rfl)
def G9 (k:Nat) (a:List Int):Option tu:=qQ 8 3 (.int .i64) k (a,())
def F219:Fn:=⟨dJ 3 (.int .i64),iZ 3 (.int .i64),qQ 8 3 (.int .i64)⟩
theorem ok219:O 219 F219:=Kz JB mix Tryz.func219 rfl (by kernel_rfl) (by kernel_rfl) (fun k=>by kernel_rfl) (fun k xs=>by kernel_rfl) (fun k xs=>by kernel_rfl)
def aic (k:Nat) (a b:Int):Option j6 :=
 some ((a==b,()),())
def F220:Fn:=⟨[au,Zq],[rB],fun k x=>aic k x.1 x.2.1⟩
theorem ok220:O 220 F220:=okF aj [] On Tryz.func220 rfl
abbrev aai:Cut:=⟨[0,1,7,8],[.cell um,.lJ 220 [.ref (.int .i64)],cI,cI],[],19,[]⟩
def QC (k:Nat) (g2:(List Int) -> Int -> Int -> Int -> Option jo) (a:List Int) (b c e:Int):Option jo :=
 (bif decide (e<c) then
  ix a e <|
  (aic k (rd a e 0) b).bind fun q0 =>
  (bif q0.1.1 then
   some ((e,()),())
  else
   g2 a b c (IntKind.i64.wrap (e+1)))
 else
  some (((-1),()),()))
def adA (k:Nat):Xx (((Unit)×(List Int)×Zi×Int×Int×Unit) -> Option jo):=eu (dw (dh (d9 (dh dx) (dh (dh dx))))) (QC k)
def I6 (k a:Nat) (b:List Int) (c e f:Int):Option jo:=iter aai (adA k) a ((),b,(c,()),e,f,())
theorem Vz (k a b c e f):I6 k (a+1) b c e f=QC k (I6 k a) b c e f:=Ba _ _ _ _
def adB (k:Nat) (a:List Int) (b:Int):Option jo :=
 I6 k k a b (a.length:Int) 0
def F272c:Fn:=⟨[WZ,.pv (.lJ 220 [.ref (.int .i64)])],[rI],fun k x=>adB k x.1 x.2.1.1⟩
theorem ok272c:O 272 F272c:=okF (ah ok220 aj) [] (fun k=>(.loop 2 aai (adA k) (fun g=>.nil) .nil)) Tryz.func272 rfl
abbrev adC:Cut:=⟨[0,1,5,6],[.pin true 0,.lJ 220 [.ref (.int .i64)],cI,cI],[.fT 3 (.int .i64)],42,[]⟩
def Xz (k:Nat) (g5:(List Int) -> Int -> Int -> Int -> Option tu) (a:List Int) (b c e:Int):Option tu :=
 (bif decide (e<(a.length:Int)) then
  ix a e <|
  (aic k (rd a e 0) b).bind fun q1 =>
  (bif !q1.1.1 then
   ix a c <|
   g5 (upd a c (rd a e 0)) b (IntKind.i64.wrap (c+1)) (IntKind.i64.wrap (e+1))
  else
   g5 a b c (IntKind.i64.wrap (e+1)))
 else
  sx a c (a.length:Int) <|
  sx (Uy a c (a.length:Int) 0) 0 c <|
  some (((Uy a c (a.length:Int) 0).take c.toNat,()),()))
def aie (k:Nat):Xx ((((List Int)×Unit)×Unit×Zi×Int×Int×Unit) -> Option tu):=eu (d9 (dh dx) (dw (d9 (dh dx) (dh (dh dx))))) (Xz k)
def XA (k a:Nat) (b:List Int) (c e f:Int):Option tu:=iter adC (aie k) a ((b,()),(),(c,()),e,f,())
theorem aaj (k a b c e f):XA k (a+1) b c e f=Xz k (XA k a) b c e f:=Ba _ _ _ _
def ald (k:Nat) (a:List Int) (b:Int):Option tu :=
 (adB k a b).bind fun q0 =>
 (bif q0.1.1==(-1) then
  some ((a,()),())
 else
  XA k k a b q0.1.1 (IntKind.i64.wrap (q0.1.1+1)))
def F218:Fn:=⟨[.give 3 (.int .i64),.pv (.lJ 220 [.ref (.int .i64)])],[ahu],fun k x=>ald k x.1 x.2.1.1⟩
theorem ok218:O 218 F218:=okF (ah ok220 <| ah ok272c aj) [(41,1)] (fun k=>(.loop 5 adC (aie k) (fun g=>.nil) .nil)) Tryz.func218 rfl
def agr (k:Nat) (a:acM) (b:Int):Option ((AY×Unit)×Unit) :=
 (ab0 k a.2.2.2.2.1.2.2.1).bind fun q0 =>
 (ab0 k a.2.2.2.2.2.1.2.2.1).bind fun q1 =>
 (G9 k a.2.2.2.2.2.2.1).bind fun q2 =>
 (ald k q2.1.1 b).bind fun q3 =>
 some (((w6 (w5 (w4 a (a.2.2.2.2.1.1,a.2.2.2.2.1.2.1,q0.1.1,a.2.2.2.2.1.2.2.2)) (a.2.2.2.2.2.1.1,a.2.2.2.2.2.1.2.1,q1.1.1,a.2.2.2.2.2.1.2.2.2)) q3.1.1),()),())
def F127:Fn:=⟨[.val ⟨true,uo,false⟩,au],[.val ⟨true,uo,true⟩],fun k x=>agr k x.1 x.2.1⟩
theorem ok127:O 127 F127:=okF (ah ok217 <| ah ok218 <| ah ok219 aj) [] On Tryz.func127 rfl
def V7 (k:Nat) (a:List Bool):Option (((List Bool)×Unit)×Unit):=qQ 1 4 .bool k (a,())
def F263:Fn:=⟨dJ 4 .bool,iZ 4 .bool,qQ 1 4 .bool⟩
theorem ok263:O 263 F263:=Kz JB mix Tryz.func263 rfl (by kernel_rfl) (by kernel_rfl) (fun k=>by kernel_rfl) (fun k xs=>by kernel_rfl) (fun k xs=>by kernel_rfl)
def aak (k:Nat) (a:List Int):Option tu:=qQ 8 2 (.int .i64) k (a,())
def F287:Fn:=⟨dJ 2 (.int .i64),iZ 2 (.int .i64),qQ 8 2 (.int .i64)⟩
theorem ok287:O 287 F287:=Kz JB mix Tryz.func287 rfl (by kernel_rfl) (by kernel_rfl) (fun k=>by kernel_rfl) (fun k xs=>by kernel_rfl) (fun k xs=>by kernel_rfl)
def aal (k:Nat) (a:oq):Option A9:=qQ 16 266 FE k (a,())
def F256:Fn:=⟨dJ 266 FE,iZ 266 FE,qQ 16 266 FE⟩
theorem ok256:O 256 F256:=Kz JB mix Tryz.func256 rfl (by kernel_rfl) (by kernel_rfl) (fun k=>by kernel_rfl) (fun k xs=>by kernel_rfl) (fun k xs=>by kernel_rfl)
def aif (k:Nat) (x:Za):Option ((sw×Unit)×Unit) :=
 (aak k x.2.2.2.1.1).bind fun q0 =>
 (G9 k x.2.2.2.1.2).bind fun q1 =>
 (aal k x.2.2.2.2.1.2).bind fun q2 =>
 some (((w4 (w3 x (q0.1.1,q1.1.1)) (x.2.2.2.2.1.1,q2.1.1)),()),())
def F222:Fn:=⟨[acS],[.val ⟨true,J3,true⟩],fun k x=>aif k x.1⟩
theorem ok222:O 222 F222:=okF (ah ok219 <| ah ok256 <| ah ok287 aj) [] On Tryz.func222 rfl
abbrev adD:Cut:=⟨[2,3,17,18,19],[.box 38 [.nil,.nil,.nil],.box 38 [.own 3 (.int .i64),.own 4 .bool,.own 142 J3],.cell OL,cI,cI],[],32,[]⟩
def XB (k:Nat) (g3:(List Int) -> (List Bool) -> (List sw) -> (List sw) -> Int -> Int -> Option RF) (a:List Int) (b:List Bool) (c e:List sw) (f h:Int):Option RF :=
 (bif decide (h<f) then
  ix e h <|
  (aif k (rd e h bf)).bind fun q2 =>
  ap c ([q2.1.1]:List sw) 128 fun r3 =>
  g3 a b r3 e f (IntKind.i64.wrap (h+1))
 else
  some ((((a,b),c),()),()))
def aii (k:Nat):Xx (((Unit)×(Unit×Unit×Unit×Unit)×anC×(List sw)×Int×Int×Unit) -> Option RF):=eu (dw (d9 (dw (dw (dw dx))) (d9 (dh (dh (dh dx))) (dh (dh (dh dx)))))) (XB k)
def MK (k a:Nat) (b:List Int) (c:List Bool) (e f:List sw) (h i:Int):Option RF:=iter adD (aii k) a ((),((),(),(),()),(b,c,e,()),f,h,i,())
theorem aam (k a b c e f h i):MK k (a+1) b c e f h i=XB k (MK k a) b c e f h i:=Ba _ _ _ _
def V8 (k:Nat) (a:FH×List sw):Option RF :=
 (G9 k a.1.1).bind fun q0 =>
 (V7 k a.1.2).bind fun q1 =>
 MK k k q0.1.1 q1.1.1 ([]:List sw) a.2 (a.2.length:Int) 0
def F185:Fn:=⟨[Vm],[acQ],fun k x=>V8 k x.1⟩
theorem ok185:O 185 F185:=okF (ah ok219 <| ah ok222 <| ah ok263 aj) [(15,2)] (fun k=>(.loop 3 adD (aii k) (fun g=>.nil) .nil)) Tryz.func185 rfl
def ab1 (k:Nat) (a:FH×List sw) (b:Int):Option j6 :=
 (bif decide (b≥0) then
  (bif decide (b<(a.2.length:Int)) then
   ix a.2 b <|
   some (((rd a.2 b bf).1 != 0,()),())
  else
   some ((false,()),()))
 else
  some ((false,()),()))
def F186:Fn:=⟨[Vm,au],[rB],fun k x=>ab1 k x.1 x.2.1⟩
theorem ok186:O 186 F186:=okF aj [] On Tryz.func186 rfl
abbrev adE:Cut:=⟨[3,6,7,8,9,10],[.cell (.int .u32),.cell (.int .u64),cI,.cell JA,cI,cI],[],34,[]⟩
def XC (k:Nat) (g3:Vk) (g6:Int -> Int -> Int -> (List Int) -> Int -> Int -> Option jo) (a b c:Int) (e:List Int) (f h:Int):Option jo :=
 (bif decide (c<8) then
  g6 (Un .u32 (Uz .u32 (Uk .u32 a 5) (Ul .u32 a 27)) (IntKind.u32.wrap (IntKind.u8.wrap b))) (Ul .u64 b 8) (IntKind.i64.wrap (c+1)) e f h
 else
  g3 a e f (IntKind.i64.wrap (h+1)))
def aij (k:Nat) (g3:Vk):Xx (((Unit)×Int×Int×Int×(List Int)×Int×Int×Unit) -> Option jo):=eu (dw (dh (dh (dh (dh (dh (dh dx))))))) (XC k g3)
def XD (k:Nat) (g3:Vk) (a:Nat) (b c e:Int) (f:List Int) (h i:Int):Option jo:=iter adE (aij k g3) a ((),b,c,e,f,h,i,())
theorem aan (k g3 a b c e f h i):XD k g3 (a+1) b c e f h i=XC k g3 (XD k g3 a) b c e f h i:=Ba _ _ _ _
abbrev adF:Cut:=⟨[3,8,9,10],[.cell (.int .u32),.cell JA,cI,cI],[],34,[]⟩
def XE (k:Nat) (g3:Vk) (a:Int) (b:List Int) (c e:Int):Option jo :=
 (bif decide (e<c) then
  ix b e <|
  XD k g3 k a (IntKind.u64.wrap (rd b e 0)) 0 b c e
 else
  some ((a,()),()))
def aik (k:Nat):Xx (((Unit)×Int×(List Int)×Int×Int×Unit) -> Option jo):=eu (dw (dh (dh (dh (dh dx))))) (XE k)
def ML (k a:Nat) (b:Int) (c:List Int) (e f:Int):Option jo:=iter adF (aik k) a ((),b,c,e,f,())
theorem aao (k a b c e f):ML k (a+1) b c e f=XE k (ML k a) b c e f:=Ba _ _ _ _
def XF (k:Nat) (a:List Int):Option jo :=
 ML k k 2166136261 a (a.length:Int) 0
def F288:Fn:=⟨[.val ⟨false,JA,false⟩],[.val ⟨false,(.int .u32),true⟩],fun k x=>XF k x.1⟩
theorem ok288:O 288 F288:=okF aj [] (fun k=>(.loop 3 adF (aik k) (fun g=>(fun (g3:Vk)=>(.loop 6 adE (aij k g3) (fun g=>.nil) .nil)) (fun h t8 t9 t10=>g ((),h,t8,t9,t10,()))) .nil)) Tryz.func288 rfl
abbrev aap:Cut:=⟨[3,61,62,63],[.own 2 (.int .i64),.cell (.sl 266 FE),cI,cI],[],78,[]⟩
def QD (k:Nat) (g11:(List Int) -> j5 -> Int -> Int -> Option jo) (a:List Int) (b:oq) (c e:Int):Option jo :=
 (bif decide (e<c) then
  ix b e <|
  ap a ([(rd b e (0,0)).1,IntKind.i64.wrap (rd b e (0,0)).2]:List Int) 8 fun r4 =>
  g11 r4 b c (IntKind.i64.wrap (e+1))
 else
  (XF k a).bind fun q5 =>
  some ((q5.1.1,()),()))
def adG (k:Nat):Xx (((Unit)×(List Int)×j5×Int×Int×Unit) -> Option jo):=eu (dw (dh (dh (dh (dh dx))))) (QD k)
def QE (k a:Nat) (b:List Int) (c:oq) (e f:Int):Option jo:=iter aap (adG k) a ((),b,c,e,f,())
theorem VA (k a b c e f):QE k (a+1) b c e f=QD k (QE k a) b c e f:=Ba _ _ _ _
abbrev adH:Cut:=⟨[1,3,41,42,43],[.box 142 [cI,cI,cI,cI,cI,.cell JA,.cell um,.cell (.int .u32),.cell (.sl 266 FE),.cell (.int .u32)],.own 2 (.int .i64),.cell um,cI,cI],[],78,[]⟩
def XG (k:Nat) (g5:Int -> Int -> Int -> Int -> Int -> (List Int) -> (List Int) -> Int -> j5 -> Int -> (List Int) -> (List Int) -> Int -> Int -> Option jo) (a b c e f:Int) (h i:List Int) (l:Int) (m:oq) (n:Int) (o p:List Int) (s t:Int):Option jo :=
 (bif decide (t<s) then
  ix p t <|
  ap o ([rd p t 0]:List Int) 8 fun r2 =>
  g5 a b c e f h i l m n r2 p s (IntKind.i64.wrap (t+1))
 else
  ap o ([IntKind.i64.wrap l]:List Int) 8 fun r3 =>
  QE k k r3 m (m.length:Int) 0)
def ail (k:Nat):Xx (((Unit)×(Int×Int×Int×Int×Int×(List Int)×(List Int)×Int×j5×Int×Unit)×(List Int)×(List Int)×Int×Int×Unit) -> Option jo):=eu (dw (d9 (dh (dh (dh (dh (dh (dh (dh (dh (dh (dh dx)))))))))) (dh (dh (dh (dh dx)))))) (XG k)
def XH (k a:Nat) (b c e f h:Int) (i l:List Int) (m:Int) (n:oq) (o:Int) (p s:List Int) (t u:Int):Option jo:=iter adH (ail k) a ((),(b,c,e,f,h,i,l,m,n,o,()),p,s,t,u,())
theorem aaq (k a b c e f h i l m n o p s t u):XH k (a+1) b c e f h i l m n o p s t u=XG k (XH k a) b c e f h i l m n o p s t u:=Ba _ _ _ _
def ab2 (k:Nat) (x:Za):Option jo :=
 ap ([x.1,x.2.1.1,x.2.1.2,x.2.2.1.1,x.2.2.1.2,(x.2.2.2.1.1.length:Int)]:List Int) x.2.2.2.1.1 8 fun r0 =>
 ap r0 ([(x.2.2.2.1.2.length:Int)]:List Int) 8 fun r1 =>
 XH k k x.1 x.2.1.1 x.2.1.2 x.2.2.1.1 x.2.2.1.2 x.2.2.2.1.1 x.2.2.2.1.2 x.2.2.2.2.1.1 x.2.2.2.2.1.2 x.2.2.2.2.2 r1 x.2.2.2.1.2 (x.2.2.2.1.2.length:Int) 0
def F223:Fn:=⟨[acS],[.val ⟨false,(.int .u32),true⟩],fun k x=>ab2 k x.1⟩
theorem ok223:O 223 F223:=okF (ah ok288 aj) [] (fun k=>(.loop 11 aap (adG k) (fun g=>.nil) (.loop 5 adH (ail k) (fun g=>.nil) .nil))) Tryz.func223 rfl
def ab3 (k:Nat) (x:Za):Option ((sw×Unit)×Unit) :=
 (ab2 k x).bind fun q0 =>
 some (((z5 x q0.1.1),()),())
def F221:Fn:=⟨[acS],[.val ⟨true,J3,false⟩],fun k x=>ab3 k x.1⟩
theorem ok221:O 221 F221:=okF (ah ok223 aj) [] On Tryz.func221 rfl
def J5 (k:Nat) (a:FH×List sw) (b:Int) (x:Za):Option RF :=
 (V8 k a).bind fun q0 =>
 (ab1 k a b).bind fun q1 =>
 (bif !q1.1.1 then
  some ((q0.1.1,()),())
 else
  ix a.2 b <|
  (aif k ((rd a.2 b bf).1,(rd a.2 b bf).2.1,x.2.2)).bind fun q2 =>
  (ab3 k q2.1.1).bind fun q3 =>
  (ab2 k (rd a.2 b bf)).bind fun q4 =>
  (bif (rd a.2 b bf).2.2.2.2.2 != q4.1.1 then
   ix q0.1.1.2 b <|
   some (((q0.1.1.1,upd q0.1.1.2 b (z5 q3.1.1 (Uo .u32 q3.1.1.2.2.2.2.2))),()),())
  else
   ix q0.1.1.2 b <|
   some (((q0.1.1.1,upd q0.1.1.2 b q3.1.1),()),())))
def F128:Fn:=⟨[Vm,au,acS],[acQ],fun k (a,b,c,_)=>J5 k a b c⟩
theorem ok128:O 128 F128:=okF (ah ok185 <| ah ok186 <| ah ok221 <| ah ok222 <| ah ok223 aj) [] On Tryz.func128 rfl
def ags (k:Nat) (a:RG):Option ((FH×Unit)×Unit) :=
 (G9 k a.1).bind fun q0 =>
 (V7 k a.2).bind fun q1 =>
 some (((q0.1.1,q1.1.1),()),())
def F224:Fn:=⟨[RH],[Vn],fun k x=>ags k x.1⟩
theorem ok224:O 224 F224:=okF (ah ok219 <| ah ok263 aj) [] On Tryz.func224 rfl
def ab4 (k:Nat) (a:RG) (b:Int):Option ((FH×Unit)×Unit) :=
 (ags k a).bind fun q0 =>
 (bif decide (b≥0) then
  (bif decide (b<(q0.1.1.1.length:Int)) then
   ix q0.1.1.1 b <|
   some (((upd q0.1.1.1 b 0,q0.1.1.2),()),())
  else
   some ((q0.1.1,()),()))
 else
  some ((q0.1.1,()),()))
def F129:Fn:=⟨[RH,au],[Vn],fun k x=>ab4 k x.1 x.2.1⟩
theorem ok129:O 129 F129:=okF (ah ok224 aj) [] On Tryz.func129 rfl
abbrev ain:Cut:=⟨[1,2,54,55],[.box 42 [cI,cI,.own 54 BP,.own 168 CY,.cell .bool,.cell .bool,.cell .bool,.own 59 uo,.cell um,.cell DK,.cell OL,.cell um,.cell DK],.box 42 [cI,cI,.nil,.nil,.cell .bool,.cell .bool,.cell .bool,.nil,.nil,.nil,.nil,.nil,.nil],cI,cI],[],77,[(53,3)]⟩
def adI (k:Nat) (g8:FZ -> Int -> Int -> Bool -> Bool -> Bool -> Int -> Int -> Option FI) (a:BQ) (b c:Int) (e f h:Bool) (i l:Int):Option FI :=
 (bif decide (l<i) then
  ix a.2.2.2.2.2.2.2.1 l <|
  (agr k (rd a.2.2.2.2.2.2.2.1 l ay) (-1)).bind fun q7 =>
  ix a.2.2.2.2.2.2.2.1 l <|
  g8 (w7 a (upd a.2.2.2.2.2.2.2.1 l q7.1.1)) b c e f h i (IntKind.i64.wrap (l+1))
 else
  (J5 k a.2.2.2.2.2.2.2.2.1 (-1) bf).bind fun q8 =>
  (ab4 k a.2.2.2.2.2.2.2.2.2 (-1)).bind fun q9 =>
  some (((w8 (z9 a q9.1.1) q8.1.1),()),()))
def anF (k:Nat) (g:((Unit)×zi×OG×Int×Int×Unit) -> Option FI) (d:(Unit)×zi×OG×Int×Int×Unit):Option FI:=adI k (fun a b c e f h i l=>g ((),J4 a,(b,c,(),(),e,f,h,(),(),(),(),(),(),()),i,l,())) (Z7 d.2.1) d.2.2.1.1 d.2.2.1.2.1 d.2.2.1.2.2.2.2.1 d.2.2.1.2.2.2.2.2.1 d.2.2.1.2.2.2.2.2.2.1 d.2.2.2.1 d.2.2.2.2.1
def adJ (k a:Nat) (b:BQ) (c e:Int) (f h i:Bool) (l m:Int):Option FI:=iter ain (anF k) a ((),J4 b,(c,e,(),(),f,h,i,(),(),(),(),(),(),()),l,m,())
theorem adK (k a b c e f h i l m):adJ k (a+1) b c e f h i l m=adI k (adJ k a) b c e f h i l m:=Ba _ _ _ _
abbrev aio:Cut:=⟨[1,2,21,22],[.box 42 [cI,cI,.own 54 BP,.own 168 CY,.cell .bool,.cell .bool,.cell .bool,.own 59 uo,.cell um,.cell DK,.cell OL,.cell um,.cell DK],.box 42 [cI,cI,.nil,.nil,.cell .bool,.cell .bool,.cell .bool,.nil,.nil,.nil,.nil,.nil,.nil],cI,cI],[],77,[(20,1)]⟩
def adL (k:Nat) (g3:FZ -> Int -> Int -> Bool -> Bool -> Bool -> Int -> Int -> Option FI) (a:BQ) (b c:Int) (e f h:Bool) (i l:Int):Option FI :=
 (bif decide (l<i) then
  ix a.2.2.1 l <|
  (RP k (rd a.2.2.1 l bg).2.2.2.1).bind fun q3 =>
  (RP k (rd a.2.2.1 l bg).2.2.2.2.1).bind fun q4 =>
  (RP k (rd a.2.2.1 l bg).2.2.2.2.2).bind fun q5 =>
  ix a.2.2.1 l <|
  ix (upd a.2.2.1 l (w3 (rd a.2.2.1 l bg) q3.1.1)) l <|
  let r6:List jy:=upd (upd a.2.2.1 l (w3 (rd a.2.2.1 l bg) q3.1.1)) l (w4 (rd (upd a.2.2.1 l (w3 (rd a.2.2.1 l bg) q3.1.1)) l bg) q4.1.1)
  ix r6 l <|
  g3 (a.1,a.2.1,upd r6 l (z5 (rd r6 l bg) q5.1.1),a.2.2.2) b c e f h i (IntKind.i64.wrap (l+1))
 else
  adJ k k a b c e f h (a.2.2.2.2.2.2.2.1.length:Int) 0)
def anG (k:Nat) (g:((Unit)×zi×OG×Int×Int×Unit) -> Option FI) (d:(Unit)×zi×OG×Int×Int×Unit):Option FI:=adL k (fun a b c e f h i l=>g ((),J4 a,(b,c,(),(),e,f,h,(),(),(),(),(),(),()),i,l,())) (Z7 d.2.1) d.2.2.1.1 d.2.2.1.2.1 d.2.2.1.2.2.2.2.1 d.2.2.1.2.2.2.2.2.1 d.2.2.1.2.2.2.2.2.2.1 d.2.2.2.1 d.2.2.2.2.1
def adM (k a:Nat) (b:BQ) (c e:Int) (f h i:Bool) (l m:Int):Option FI:=iter aio (anG k) a ((),J4 b,(c,e,(),(),f,h,i,(),(),(),(),(),(),()),l,m,())
theorem adN (k a b c e f h i l m):adM k (a+1) b c e f h i l m=adL k (adM k a) b c e f h i l m:=Ba _ _ _ _
def S56 (k:Nat) (a:BQ):Option FI :=
 (aou k a.2.2.1).bind fun q0 =>
 (aov k a.2.2.2.1).bind fun q1 =>
 (aow k a.2.2.2.2.2.2.2.1).bind fun q2 =>
 adM k k (w7 (w3 (w2 a q0.1.1) q1.1.1) q2.1.1) 0 0 false false false (q0.1.1.length:Int) 0
def F56:Fn:=⟨[Zp],[acR],fun k x=>S56 k x.1⟩
theorem ok56:O 56 F56:=okF (ah ok123 <| ah ok124 <| ah ok125 <| ah ok126 <| ah ok127 <| ah ok128 <| ah ok129 aj) [] (fun k=>(.loop 8 ain (anF k) (fun g=>.nil) (.loop 3 aio (anG k) (fun g=>.nil) .nil))) Tryz.func56 rfl
def aip (k:Nat) (a:acM) (b:Int):Option jo :=
 some ((IntKind.i64.wrap (a.1 - b),()),())
def F142:Fn:=⟨[.val ⟨true,uo,false⟩,au],[rI],fun k x=>aip k x.1 x.2.1⟩
theorem ok142:O 142 F142:=okF aj [] On Tryz.func142 rfl
abbrev adO:Cut:=⟨[0,1,2,8,9,10],[.cell (.sl 59 uo),cI,.lJ 142 [],cI,cI,cI],[],49,[]⟩
def ab5 (k:Nat) (g3:(List AY) -> Int -> Int -> Int -> Int -> Option DJ) (a:List AY) (b c e f:Int):Option DJ :=
 (bif decide (e<f) then
  ix a (IntKind.i64.wrap (Ul .u64 (IntKind.u64.wrap (IntKind.i64.wrap (e+f))) 1)) <|
  (aip k (rd a (IntKind.i64.wrap (Ul .u64 (IntKind.u64.wrap (IntKind.i64.wrap (e+f))) 1)) ay) b).bind fun q0 =>
  (bif decide (q0.1.1<0) then
   g3 a b c (IntKind.i64.wrap ((IntKind.i64.wrap (Ul .u64 (IntKind.u64.wrap (IntKind.i64.wrap (e+f))) 1))+1)) f
  else
   g3 a b c e (IntKind.i64.wrap (Ul .u64 (IntKind.u64.wrap (IntKind.i64.wrap (e+f))) 1)))
 else
  (bif decide (e<c) then
   ix a e <|
   (aip k (rd a e ay) b).bind fun q1 =>
   some ((e,q1.1.1==0,()),())
  else
   some ((e,false,()),())))
def aiq (k:Nat):Xx (((Unit)×(List AY)×Int×Unit×Int×Int×Int×Unit) -> Option DJ):=eu (dw (dh (dh (dw (dh (dh (dh dx))))))) (ab5 k)
def SA (k a:Nat) (b:List AY) (c e f h:Int):Option DJ:=iter adO (aiq k) a ((),b,c,(),e,f,h,())
theorem air (k a b c e f h):SA k (a+1) b c e f h=ab5 k (SA k a) b c e f h:=Ba _ _ _ _
def aox (k:Nat) (x:List AY) (a:Int):Option DJ :=
 SA k k x a (x.length:Int) 0 (x.length:Int)
def F141:Fn:=⟨[.val ⟨false,(.sl 59 uo),false⟩,au,.pv (.lJ 142 [])],[rI,rB],fun k x=>aox k x.1 x.2.1⟩
theorem ok141:O 141 F141:=okF (ah ok142 aj) [] (fun k=>(.loop 3 adO (aiq k) (fun g=>.nil) .nil)) Tryz.func141 rfl
def S71 (k:Nat) (a:BQ) (b:Int):Option DJ :=
 (aox k a.2.2.2.2.2.2.2.1 b).bind fun q0 =>
 some (q0.1,())
def F71:Fn:=⟨[.pv (.ref acL),au],[rI,rB],fun k x=>S71 k x.1 x.2.1⟩
theorem ok71:O 71 F71:=okF (ah ok141 aj) [] On Tryz.func71 rfl
section
variable (w:World) {g n c i j:Nat}
theorem SB:Tryz.prog.underlying 31=some (.slice 59) /\ Tryz.prog.underlying 3=some (.int .i64) /\ Tryz.prog.underlying 4=some .bool /\ Tryz.prog.follows .mixedOrders=true /\ (∀ w,(Go.sizeOf 59).run Tryz.prog w=.ok 28 w) /\ Tryz.f72.ntmps=33:=⟨by kernel_rfl,by kernel_rfl,by kernel_rfl,by kernel_rfl,fun w=>by kernel_rfl,rfl⟩
theorem aar {v:Value} (hv:(∃ A n c,v=.slice A n c /\ i <= n /\ n <= c /\ c <= 9223372036854775807)):Calls Tryz.prog 72 #[v,.int .i64 i,.int .i64 i] w fun e w'=>e=.returned v /\ w'=w:=by
 obtain ⟨t24,t3,t4,mixed,z36,hnt⟩:=SB
 have u24:=run_underlying t24;have u3:=run_underlying t3;have u4:=run_underlying t4
 obtain ⟨A,n,c,rfl,hi,hnc,hc63⟩:=hv
 have hi0:(i:Int) <= (n:Int):=by omega
 have hi1:(0:Int) <= (i:Int):=by omega
 cases A <;> (go_enter Tryz.func72,hnt;go_wp2 <;> (go_ret;exact ⟨rfl,rfl⟩))
theorem aas {w' w'':World} (hlt:i<j) (hj:j <= n) (hnc:n <= c) (hc63:c <= 9223372036854775807)
  (hap:∀ ty A,(c≠j -> A=(⟨g,j * 28,none⟩:Addr)) -> (Builtin.append_ #[31,31] ty #[.slice (some ⟨g,0,none⟩) i c,.slice (some A) (n - j) (c - j)]).run Tryz.prog w.drew=.ok (.slice (some ⟨g,0,none⟩) (i+(n - j)) c) w')
  (hcl:∀ ty dc,(Builtin.clear_ #[31] ty #[.slice (some ⟨g,(i+(n - j)) * 28,none⟩) (n - (i+(n - j))) dc]).run Tryz.prog w'=.ok (.tuple #[]) w'') :
  Calls Tryz.prog 72 #[.slice (some ⟨g,0,none⟩) n c,.int .i64 i,.int .i64 j] w fun e w1=>e=.returned (.slice (some ⟨g,0,none⟩) (i+(n - j)) c) /\ w1=w'':=by
 obtain ⟨t24,t3,t4,mixed,z36,hnt⟩:=SB
 have u24:=run_underlying t24;have u3:=run_underlying t3;have u4:=run_underlying t4
 have hi0:(i:Int) <= (n:Int):=by omega
 have hj0:(j:Int) <= (n:Int):=by omega
 have hij:(i:Int) <= (j:Int):=by omega
 have hne:¬ ((i:Int)=(j:Int)):=by omega
 have hic:i <= c:=by omega
 have hjc:j <= c:=by omega
 have hln:i+(n - j) <= n:=by omega
 have hlc:i+(n - j) <= c:=by omega
 have hci:¬ (c=i+(n - j)):=by omega
 obtain ⟨A,hA,hA'⟩:∃ A:Addr,(if c=j then some (⟨g,0,none⟩:Addr) else some ⟨g,j * 28,none⟩)=some A /\ (c≠j -> A=(⟨g,j * 28,none⟩:Addr)):=by
  by_cases h:c=j
  · exact ⟨_,if_pos h,fun q=>absurd h q⟩
  · exact ⟨_,if_neg h,fun _=>rfl⟩
 try simp only [Nat.mul_one] at hA hcl
 go_enter Tryz.func72,hnt
 go_wp2_with fail
 go_region_law_o (refine Gz rfl rfl _ _ (by simp [Act.eval,Act.put]) (by simp [Act.eval,Act.put,hA]) (hap _ _ hA') ?_)
 go_wp2_with (at_builtin;refine Ji rfl rfl _ rfl (hcl _ _) ?_)
 go_ret
 exact ⟨rfl,rfl⟩
end
abbrev P72:List PT:=iG 59 uo
abbrev R72:List RT:=qV 59 uo
def S72 (k:Nat) (a:List AY) (i j:Int):Option (((List AY)×Unit)×Unit):=Jk 59 uo k (a,i,j,())
def F72:Fn:=⟨P72,R72,Jk 59 uo⟩
def E72:Env:=tab.env (fun _=>none) (fun _=>0)
theorem aoz:aH Tryz.prog E72:=Kw Rt _ _ (fun f F h=>by cases h)
theorem ok72:O 72 F72:=by
 obtain ⟨i0,z,a1,a2,a3,a4,a5⟩:=(aoz.ty 59 (uo) (by kernel_rfl)).info
 have b2:Ty.sz (uo)=28:=rfl
 have hz:z.cells.size=28:=by rw [<- Array.length_toList,a5,gZ,b2]
 obtain ⟨t24,t3,t4,mixed,z36,hnt⟩:=SB
 refine Qu Tryz.func72 rfl (by kernel_rfl) ?_
 rw [b2]
 exact Mr (S:=31) (z:=z) t24 a1 a4 (by rw [a2,b2]) hz (fun v hv=>tT (uo) v (by rw [<- a5];exact hv)) (by decide) (fun w i v h=>aar w h) (fun w g n c i j w' w'' h1 h2 h3 h4 h5 h6=>aas w h1 h2 h3 h4 h5 h6)
def V9 (k:Nat) (a:Int):Option ((Z9×Unit)×Unit) :=
 some (((0,(a,0,0,0,0,0,0,0),[],false),()),())
def F109:Fn:=⟨[au],[.val ⟨true,(.pair (.int .i64) (.pair (Am 8 (.int .i64)) (.pair (.sl 293 (.pair (.int .i64) ow)) .bool))),true⟩],fun k x=>V9 k x.1⟩
theorem ok109:O 109 F109:=okF aj [] On Tryz.func109 rfl
def S74 (k:Nat) (a b c:Int):Option ((AY×Unit)×Unit) :=
 (V9 k c).bind fun q0 =>
 (V9 k c).bind fun q1 =>
 some (((a,b,c,0,q0.1.1,q1.1.1,[],false),()),())
def F74:Fn:=⟨[au,au,au],[.val ⟨true,uo,true⟩],fun k (a,b,c,_)=>S74 k a b c⟩
theorem ok74:O 74 F74:=okF (ah ok109 aj) [] On Tryz.func74 rfl
section
variable (w:World) {g n c i g2 m c2:Nat}
theorem GA:Tryz.prog.underlying 31=some (.slice 59) /\ Tryz.prog.underlying 3=some (.int .i64) /\ Tryz.prog.underlying 4=some .bool /\ Tryz.prog.follows .mixedOrders=true /\ (∀ w,(Go.sizeOf 59).run Tryz.prog w=.ok 28 w) /\ Tryz.f73.ntmps=95:=⟨by kernel_rfl,by kernel_rfl,by kernel_rfl,by kernel_rfl,fun w=>by kernel_rfl,rfl⟩
theorem aat {v u:Value} (hv:(∃ A n c,v=.slice A n c /\ i <= n)) (hu:∃ A c,u=.slice A m c) (hm:m=0):Calls Tryz.prog 73 #[v,.int .i64 i,u] w fun e w'=>e=.returned v /\ w'=w:=by
 obtain ⟨t24,t3,t4,mixed,z36,hnt⟩:=GA
 have u24:=run_underlying t24;have u3:=run_underlying t3;have u4:=run_underlying t4
 obtain ⟨A,n,c,rfl,hi⟩:=hv
 obtain ⟨A2,c2,rfl⟩:=hu
 have hi0:(i:Int) <= (n:Int):=by omega
 have hz1:(m:Int)=0:=by omega
 cases A <;> (go_enter Tryz.func73,hnt;go_wp2 <;> (go_ret;exact ⟨rfl,rfl⟩))
theorem ab6 {v:Value} {w':World} {v':Value} (hv:(∃ A c,v=.slice A n c)) (hm:0<m)
  (hr:∀ ty,(Builtin.append_ #[31,31] ty #[v,.slice (some ⟨g2,0,none⟩) m c2]).run Tryz.prog w=.ok v' w'):Calls Tryz.prog 73 #[v,.int .i64 n,.slice (some ⟨g2,0,none⟩) m c2] w fun e w1=>e=.returned v' /\ w1=w':=by
 obtain ⟨t24,t3,t4,mixed,z36,hnt⟩:=GA
 have u24:=run_underlying t24;have u3:=run_underlying t3;have u4:=run_underlying t4
 have hz1:¬ ((m:Int)=0):=by omega
 obtain ⟨A,c,rfl⟩:=hv
 go_enter Tryz.func73,hnt
 go_wp2_with (at_builtin;refine Gx rfl rfl _ _ rfl rfl (hr _) ?_)
 all_goals (go_ret;exact ⟨rfl,rfl⟩)
theorem XI {v' v'':Value} {w' w'':World} (hi:i<n) (hm:0<m) (hroom:n+m <= c) (hc63:c <= 9223372036854775807)
  (hov:∀ lb cb,(callFunc 143 #[.slice (some ⟨g2,0,none⟩) m c2,.slice (some ⟨g,(i+m) * 28,none⟩) lb cb]).run Tryz.prog w=.ok (.value (.bool false)) w)
  (hcp1:∀ ty dc sc,(Builtin.copy_ #[31,31] ty #[.slice (some ⟨g,(i+m) * 28,none⟩) (n+m - (i+m)) dc,.slice (some ⟨g,i * 28,none⟩) (n+m - i) sc]).run Tryz.prog w.drew=.ok v' w')
  (hcp2:∀ ty dc,(Builtin.copy_ #[31,31] ty #[.slice (some ⟨g,i * 28,none⟩) (n+m - i) dc,.slice (some ⟨g2,0,none⟩) m c2]).run Tryz.prog w'=.ok v'' w'') :
  Calls Tryz.prog 73 #[.slice (some ⟨g,0,none⟩) n c,.int .i64 i,.slice (some ⟨g2,0,none⟩) m c2] w fun e w1=>e=.returned (.slice (some ⟨g,0,none⟩) (n+m) c) /\ w1=w'':=by
 obtain ⟨t24,t3,t4,mixed,z36,hnt⟩:=GA
 have u24:=run_underlying t24;have u3:=run_underlying t3;have u4:=run_underlying t4
 have hz1:¬ ((m:Int)=0):=by omega
 have hz2:¬ ((i:Int)=(n:Int)):=by omega
 have hw1:IntKind.i64.wrap ((i:Int)+(m:Int))=(i:Int)+(m:Int):=by rw [IntKind.wrap_i64];omega
 have hb1:(0:Int) <= (i:Int)+(m:Int):=by omega
 have hin:i <= n:=by omega
 have htn:((i:Int)+(m:Int)).toNat=i+m:=by omega
 have hb2:¬ (c=i+m):=by omega
 have hb3:(i:Int) <= (n:Int)+(m:Int):=by omega
 have hb4:¬ (c=i):=by omega
 go_enter Tryz.func73,hnt
 go_wp2_with (simp only [hov])
 go_region_law_o (refine Jp rfl rfl _ _ (by simp [Act.eval,Act.put]) (by simp [Act.eval,Act.put]) (hcp1 _ _ _) ?_)
 go_wp2_with (at_builtin;refine Jo rfl rfl _ _ rfl rfl (hcp2 _ _) ?_)
 go_ret
 exact ⟨rfl,rfl⟩
theorem aau {h G:Nat} {v' v'':Value} {w0 w' w'':World} (hi:i<n) (hm:0<m) (hnc:n <= c) (hroom:c<n+m) (hc63:n+m <= 140737488355328) (hG:n+m <= G) (hG63:G <= 9223372036854775807)
  (hrz:∀ ty,(Builtin.append_ #[31,3] ty #[.slice (some ⟨g,0,none⟩) i c,.int .i64 ((n:Int)+(m:Int) - (i:Int))]).run Tryz.prog w=.ok (.slice (some ⟨h,0,none⟩) (n+m) G) w0)
  (hcp1:∀ ty dc,(Builtin.copy_ #[31,31] ty #[.slice (some ⟨h,i * 28,none⟩) (n+m - i) dc,.slice (some ⟨g2,0,none⟩) m c2]).run Tryz.prog w0=.ok v' w')
  (hcp2:∀ ty dc sc,(Builtin.copy_ #[31,31] ty #[.slice (some ⟨h,(i+m) * 28,none⟩) (n+m - (i+m)) dc,.slice (some ⟨g,i * 28,none⟩) (n - i) sc]).run Tryz.prog w'.drew=.ok v'' w'') :
  Calls Tryz.prog 73 #[.slice (some ⟨g,0,none⟩) n c,.int .i64 i,.slice (some ⟨g2,0,none⟩) m c2] w fun e w1=>e=.returned (.slice (some ⟨h,0,none⟩) (n+m) G) /\ w1=w'':=by
 obtain ⟨t24,t3,t4,mixed,z36,hnt⟩:=GA
 have u24:=run_underlying t24;have u3:=run_underlying t3;have u4:=run_underlying t4
 have hz1:¬ ((m:Int)=0):=by omega
 have hz2:¬ ((i:Int)=(n:Int)):=by omega
 have hz3:(c:Int)<(n:Int)+(m:Int):=by omega
 have hw1:IntKind.i64.wrap ((i:Int)+(m:Int))=(i:Int)+(m:Int):=by rw [IntKind.wrap_i64];omega
 have hb1:(0:Int) <= (i:Int)+(m:Int):=by omega
 have hin:i <= n:=by omega
 have htn:((i:Int)+(m:Int)).toNat=i+m:=by omega
 have hGi:¬ (G=i):=by omega
 have hGim:¬ (G=i+m):=by omega
 have hci:¬ (c=i):=by omega
 have hb3:(i:Int) <= (n:Int):=by omega
 go_enter Tryz.func73,hnt
 go_wp2_with (first
  | (at_builtin;refine Gx rfl rfl _ _ rfl rfl (hrz _) ?_)
  | (at_builtin;refine Jo rfl rfl _ _ rfl rfl (hcp1 _ _) ?_))
 go_region_law_o (refine Jp rfl rfl _ _ (by simp [Act.eval,Act.put]) (by simp [Act.eval,Act.put]) (hcp2 _ _ _) ?_)
 go_wp2
 go_ret
 exact ⟨rfl,rfl⟩
end
abbrev P73:List PT:=eG 59 uo
abbrev R73:List RT:=qU 59 uo
def S73 (k:Nat) (a:List AY) (b:Int) (c:List AY):Option (((List AY)×Unit)×Unit):=Jg 272 59 uo k (a,b,c,())
def F73:Fn:=⟨P73,R73,Jg 272 59 uo⟩
def E73:Env:=tab.env (fun _=>none) (fun _=>0)
theorem aoA:aH Tryz.prog E73:=Kw Rt _ _ (fun f F h=>by cases h)
theorem ok73:O 73 F73:=by
 obtain ⟨i0,z,a1,a2,a3,a4,a5⟩:=(aoA.ty 59 (uo) (by kernel_rfl)).info
 have b1:E73.lK 59=272:=by kernel_rfl
 have b2:Ty.sz (uo)=28:=rfl
 rw [b1] at a3
 have hz:z.cells.size=28:=by rw [<- Array.length_toList,a5,gZ,b2]
 obtain ⟨t24,t3,t4,mixed,z36,hnt⟩:=GA
 refine Qq Tryz.func73 rfl (by kernel_rfl) ?_
 rw [b2,<- a3]
 refine Mq (S:=31) (z:=z) t24 t3 a1 a4 (by rw [a2,b2]) hz (by decide) (by rw [a3];decide) (fun w i m v u h1 h2 h3=>aat w h1 h2 h3) (fun w n g2 m c2 v v' w' h1 h2 h3=>ab6 w h1 h2 h3) (fun w g n c i g2 m c2 v' v'' w' w'' h1 h2 h3 h4 h5 h6 hne hg hg2=>XI w h1 h2 h3 h4 (fun lb cb=>?_) h5 h6) (fun w g n c i g2 m c2 h G v' v'' w0 w' w'' h1 h2 h3 h4 h5 h6 h7 h8 h9 h10=>aau w h1 h2 h3 h4 h5 h6 h7 h8 h9 h10)
 obtain ⟨cur,q1,q2⟩:=hg
 obtain ⟨xE,q3⟩:=hg2
 rw [run_callFunc_extern Tryz.func143 (by kernel_rfl) (by kernel_rfl) (by kernel_rfl) (e:=Extern.SlicesOverlaps.overlaps #[31,31] #[4]) (by kernel_rfl),Lib.run_overlaps_apart w 31 4 59 t24 28 z36 ⟨g2,0,none⟩ ⟨g,(i+m) * 28,none⟩ m c2 lb cb hne 59 59 xE.size cur.size (by simp [World.shape?,q3]) (by simp [World.shape?,q1]) q2 (Kd.fQ q3 _) (Kd.fQ q3 _)]
 rfl
abbrev ale:Cut:=⟨[1,2,3,6,9,10],[cI,cI,.box 42 [cI,cI,.own 54 BP,.own 168 CY,.cell .bool,.cell .bool,.cell .bool,.own 59 uo,.own 3 (.int .i64),.own 4 .bool,.own 142 J3,.own 3 (.int .i64),.own 4 .bool],.box 42 [cI,cI,.nil,.nil,.cell .bool,.cell .bool,.cell .bool,.nil,.nil,.nil,.nil,.nil,.nil],.own 51 acN,cI],[],98,[]⟩
def SC (k:Nat) (a b:Int) (c:BQ) (e f:Int) (h i l:Bool) (m:List (PN Int 6)) (n:Int):Option ((FZ×(List (PN Int 6))×Int×Unit)×Unit) :=
 (S74 k a c.1 b).bind fun q4 =>
 (S73 k c.2.2.2.2.2.2.2.1 n ([q4.1.1]:List AY)).bind fun q5 =>
 ap m ([(c.1,1,a,0,b,0)]:List (PN Int 6)) 48 fun r6 =>
 some (((w7 c q5.1.1),r6,0,()),())
abbrev alf:Cut:=⟨[1,2,3,6],[cI,cI,.box 42 [cI,cI,.own 54 BP,.own 168 CY,.cell .bool,.cell .bool,.cell .bool,.own 59 uo,.own 3 (.int .i64),.own 4 .bool,.own 142 J3,.own 3 (.int .i64),.own 4 .bool],.box 42 [cI,cI,.nil,.nil,.cell .bool,.cell .bool,.cell .bool,.nil,.nil,.nil,.nil,.nil,.nil]],[],98,[]⟩
def XJ (k:Nat) (a b:Int) (c:BQ) (e f:Int) (h i l:Bool):Option ((FZ×(List (PN Int 6))×Int×Unit)×Unit) :=
 (S71 k c a).bind fun q1 =>
 (bif q1.1.2.1 then
  ix c.2.2.2.2.2.2.2.1 q1.1.1 <|
  (bif (rd c.2.2.2.2.2.2.2.1 q1.1.1 ay).2.2.2.1 != 2 then
   some ((c,[],5,()),())
  else
   ap ([]:List (PN Int 6)) ([(c.1,13,a,0,0,0)]:List (PN Int 6)) 48 fun r2 =>
   (S72 k c.2.2.2.2.2.2.2.1 q1.1.1 (IntKind.i64.wrap (q1.1.1+1))).bind fun q3 =>
   SC k a b (w7 c q3.1.1) e f h i l r2 q1.1.1)
 else
  SC k a b c e f h i l ([]:List (PN Int 6)) q1.1.1)
def S30 (k:Nat) (a:BQ) (b c:Int):Option ((FZ×(List (PN Int 6))×Int×Unit)×Unit) :=
 (S56 k a).bind fun q0 =>
 (bif !q0.1.1.2.2.2.2.1 then
  some ((q0.1.1,[],8,()),())
 else
  (bif q0.1.1.2.2.2.2.2.1 then
   some ((q0.1.1,[],17,()),())
  else
   (bif decide (b<0) then
    some ((q0.1.1,[],3,()),())
   else
    (bif decide (b≥(q0.1.1.2.2.1.length:Int)) then
     some ((q0.1.1,[],3,()),())
    else
     (bif decide (b<(q0.1.1.2.2.2.2.2.2.2.2.2.2.length:Int)) then
      ix q0.1.1.2.2.2.2.2.2.2.2.2.2 b <|
      (bif rd q0.1.1.2.2.2.2.2.2.2.2.2.2 b false then
       some ((q0.1.1,[],6,()),())
      else
       XJ k b c q0.1.1 0 0 false false false)
     else
      XJ k b c q0.1.1 0 0 false false false)))))
def F30:Fn:=⟨[Zp,au,au],[acR,.val ⟨false,(.sl 51 acN),true⟩,rI],fun k (a,b,c,_)=>S30 k a b c⟩
theorem ok30:O 30 F30:=okF (ah ok56 <| ah ok71 <| ah ok72 <| ah ok73 <| ah ok74 aj) [(9,2)] (fun k=>(.join 17 ale (fun d=>SC k d.2.1 d.2.2.1 (Z7 d.2.2.2.1) d.2.2.2.2.1.1 d.2.2.2.2.1.2.1 d.2.2.2.2.1.2.2.2.2.1 d.2.2.2.2.1.2.2.2.2.2.1 d.2.2.2.2.1.2.2.2.2.2.2.1 d.2.2.2.2.2.1 d.2.2.2.2.2.2.1) (.join 10 alf (fun d=>XJ k d.2.1 d.2.2.1 (Z7 d.2.2.2.1) d.2.2.2.2.1.1 d.2.2.2.2.1.2.1 d.2.2.2.2.1.2.2.2.2.1 d.2.2.2.2.1.2.2.2.2.2.1 d.2.2.2.2.1.2.2.2.2.2.2.1) .nil))) Tryz.func30 rfl
def S99 (k:Nat) (a:BQ):Option FI :=
 (S30 k a (-1) 0).bind fun q0 =>
 some ((q0.1.1,()),())
def F99:Fn:=⟨[Zp],[acR],fun k x=>S99 k x.1⟩
theorem ok99:O 99 F99:=okF (ah ok30 aj) [] On Tryz.func99 rfl
def ais (k:Nat) (a:RG):Option ((FH×Unit)×Unit) :=
 (G9 k a.1).bind fun q0 =>
 (V7 k a.2).bind fun q1 =>
 some (((q0.1.1,q1.1.1),()),())
def F324:Fn:=⟨[RH],[Vn],fun k x=>ais k x.1⟩
theorem ok324:O 324 F324:=okF (ah ok219 <| ah ok263 aj) [] On Tryz.func324 rfl
def ait (k:Nat) (a:RG):Option jo :=
 some ((mn (a.1.length:Int) (a.2.length:Int),()),())
def F326:Fn:=⟨[RH],[rI],fun k x=>ait k x.1⟩
theorem ok326:O 326 F326:=okF aj [] On Tryz.func326 rfl
abbrev adP:Cut:=⟨[0,1,7,8],[.cell DK,.cell .bool,cI,cI],[],19,[]⟩
def XK (k:Nat) (g2:(List Bool) -> Bool -> Int -> Int -> Option jo) (a:List Bool) (b:Bool) (c e:Int):Option jo :=
 (bif decide (e<c) then
  ix a e <|
  (bif b==(rd a e false) then
   some ((e,()),())
  else
   g2 a b c (IntKind.i64.wrap (e+1)))
 else
  some (((-1),()),()))
def aiu (k:Nat):Xx (((Unit)×(List Bool)×Bool×Int×Int×Unit) -> Option jo):=eu (dw (dh (dh (dh (dh dx))))) (XK k)
def MN (k a:Nat) (b:List Bool) (c:Bool) (e f:Int):Option jo:=iter adP (aiu k) a ((),b,c,e,f,())
theorem aav (k a b c e f):MN k (a+1) b c e f=XK k (MN k a) b c e f:=Ba _ _ _ _
def aiv (k:Nat) (a:List Bool) (b:Bool):Option jo :=
 MN k k a b (a.length:Int) 0
def F325:Fn:=⟨[.val ⟨false,DK,false⟩,.val ⟨false,.bool,false⟩],[rI],fun k x=>aiv k x.1 x.2.1⟩
theorem ok325:O 325 F325:=okF aj [] (fun k=>(.loop 2 adP (aiu k) (fun g=>.nil) .nil)) Tryz.func325 rfl
def alg (k:Nat) (a:RG):Option ((FH×(Int×Int)×Bool×Unit)×Unit) :=
 (ais k a).bind fun q0 =>
 (ait k q0.1.1).bind fun q1 =>
 sx q0.1.1.2 0 q1.1.1 <|
 (aiv k (sub q0.1.1.2 0 q1.1.1) false).bind fun q2 =>
 (bif decide (q2.1.1<0) then
  some ((q0.1.1,(0,0),false,()),())
 else
  ix q0.1.1.1 q2.1.1 <|
  ix q0.1.1.1 q2.1.1 <|
  ix q0.1.1.2 q2.1.1 <|
  ix (upd q0.1.1.1 q2.1.1 (IntKind.i64.wrap ((rd q0.1.1.1 q2.1.1 0)+1))) q2.1.1 <|
  some (((upd q0.1.1.1 q2.1.1 (IntKind.i64.wrap ((rd q0.1.1.1 q2.1.1 0)+1)),upd q0.1.1.2 q2.1.1 true),(q2.1.1,rd (upd q0.1.1.1 q2.1.1 (IntKind.i64.wrap ((rd q0.1.1.1 q2.1.1 0)+1))) q2.1.1 0),true,()),()))
def F252:Fn:=⟨[RH],[Vn,.val ⟨true,ow,true⟩,rB],fun k x=>alg k x.1⟩
theorem ok252:O 252 F252:=okF (ah ok324 <| ah ok325 <| ah ok326 aj) [] On Tryz.func252 rfl
def agt (k:Nat) (a:Int) (b:Int×Int):Option ((sw×Unit)×Unit) :=
 (bif a==1 then
  some (((a,b,(8,0),([],[]),(0,[]),0),()),())
 else
  some (((a,b,(0,0),([],[]),(0,[]),0),()),()))
def F233:Fn:=⟨[au,ahv],[.val ⟨true,J3,true⟩],fun k x=>agt k x.1 x.2.1⟩
theorem ok233:O 233 F233:=okF aj [] On Tryz.func233 rfl
abbrev adQ:Cut:=⟨[1,4,5,7,8,9,20,21,22],[cI,.box 38 [.nil,.nil,.nil],.box 95 [cI,cI],.mp 253 false (.int .i64) false (.int .i64),.box 38 [.own 3 (.int .i64),.own 4 .bool,.own 142 J3],cI,.cell OL,cI,cI],[],72,[]⟩
def XL (k:Nat) (g4:Int -> Int -> Int -> j5 -> (List Int) -> (List Bool) -> (List sw) -> Int -> (List sw) -> Int -> Int -> Option Zf) (a b c:Int) (e:oq) (f:List Int) (h:List Bool) (i:List sw) (l:Int) (m:List sw) (n o:Int):Option Zf :=
 (bif decide (o<n) then
  ix m o <|
  (bif (rd m o bf).1==a then
   g4 a b c e f h i (IntKind.i64.wrap (l+1)) m n (IntKind.i64.wrap (o+1))
  else
   g4 a b c e f h i l m n (IntKind.i64.wrap (o+1)))
 else
  (alg k (f,h)).bind fun q1 =>
  (bif decide (l≥(Us (.int .i64) (.int .i64) a e 0)) then
   some ((((f,h),i),(0,0),false,()),())
  else
   (bif !q1.1.2.2.1 then
    some ((((f,h),i),(0,0),false,()),())
   else
    (bif decide (q1.1.2.1.1≥(i.length:Int)) then
     some ((((f,h),i),(0,0),false,()),())
    else
     (agt k a q1.1.2.1).bind fun q2 =>
     (ab3 k q2.1.1).bind fun q3 =>
     ix i q1.1.2.1.1 <|
     some (((q1.1.1,upd i q1.1.2.1.1 q3.1.1),q1.1.2.1,true,()),())))))
def aiw (k:Nat):Xx (((Unit)×Int×(Unit×Unit×Unit×Unit)×(Int×Int×Unit)×j5×anC×Int×(List sw)×Int×Int×Unit) -> Option Zf):=eu (dw (dh (d9 (dw (dw (dw dx))) (d9 (dh (dh dx)) (dh (d9 (dh (dh (dh dx))) (dh (dh (dh (dh dx)))))))))) (XL k)
def XM (k a:Nat) (b c e:Int) (f:oq) (h:List Int) (i:List Bool) (l:List sw) (m:Int) (n:List sw) (o p:Int):Option Zf:=iter adQ (aiw k) a ((),b,((),(),(),()),(c,e,()),f,(h,i,l,()),m,n,o,p,())
theorem aaw (k a b c e f h i l m n o p):XM k (a+1) b c e f h i l m n o p=XL k (XM k a) b c e f h i l m n o p:=Ba _ _ _ _
def alh (k:Nat) (a:FH×List sw) (b:Int):Option Zf :=
 (V8 k a).bind fun q0 =>
 XM k k b 0 0 (vL (.int .i64) (.int .i64) 3 4 (vL (.int .i64) (.int .i64) 2 4 (vL (.int .i64) (.int .i64) 1 4 ([]:List (Int×Int))))) q0.1.1.1.1 q0.1.1.1.2 q0.1.1.2 0 a.2 (a.2.length:Int) 0
def F167:Fn:=⟨[Vm,au],[acQ,.val ⟨true,ow,true⟩,rB],fun k x=>alh k x.1 x.2.1⟩
theorem ok167:O 167 F167:=okF (ah ok185 <| ah ok221 <| ah ok233 <| ah ok252 aj) [] (fun k=>(.loop 4 adQ (aiw k) (fun g=>.nil) .nil)) Tryz.func167 rfl
abbrev aoB:Cut:=⟨[0,2],[.pin false 0,.mp 253 false (.int .i64) false (.int .i64)],[.fK 175 [cI,cI,.cell p9,.cell Zl,.cell .bool,.cell .bool,.cell .bool,.cell (.sl 59 uo),.cell um,.cell DK,.cell OL,.cell um,.cell DK,cI,cI,cI,cI,.cell ql,.cell ql,.cell ql,cI,cI,cI,cI,.cell (.int .u32),.own 51 acN,cI,cI,cI,cI]],58,[]⟩
def aax (k:Nat) (a:G5) (b:oq):Option OJ :=
 (alh k a.1.2.2.2.2.2.2.2.2.1 (Us (.int .i64) (.int .i64) a.2.1.1 b 0)).bind fun q0 =>
 (bif !q0.1.2.2.1 then
  some ((),BI (w3 a 4),())
 else
  some ((),BI (w4 (w0 a (w8 a.1 q0.1.1)) q0.1.2.1),()))
def S90 (k:Nat) (a:G5):Option OJ :=
 (bif a.2.1.1==2 then
  (bif a.1.2.2.2.2.1 then
   some ((),BI (w3 a 7),())
  else
   aax k a (vL (.int .i64) (.int .i64) 4 3 (vL (.int .i64) (.int .i64) 3 2 (vL (.int .i64) (.int .i64) 2 1 ([]:List (Int×Int))))))
 else
  aax k a (vL (.int .i64) (.int .i64) 4 3 (vL (.int .i64) (.int .i64) 3 2 (vL (.int .i64) (.int .i64) 2 1 ([]:List (Int×Int))))))
def F90:Fn:=⟨[Zn],[],fun k x=>S90 k (qd x.1)⟩
theorem ok90:O 90 F90:=okF (ah ok167 aj) [] (fun k=>(.join 3 aoB (fun d=>aax k (qd d.1.1) d.2.2.1) .nil)) Tryz.func90 rfl
abbrev adR:Cut:=⟨[2,6,7,8],[.own 3 (.int .i64),.cell OL,cI,cI],[],22,[]⟩
def XO (k:Nat) (g2:(List Int) -> (List sw) -> Int -> Int -> Option tu) (a:List Int) (b:List sw) (c e:Int):Option tu :=
 (bif decide (e<c) then
  ix b e <|
  (bif (rd b e bf).1==1 then
   ap a ([e]:List Int) 8 fun r0 =>
   g2 r0 b c (IntKind.i64.wrap (e+1))
  else
   g2 a b c (IntKind.i64.wrap (e+1)))
 else
  some ((a,()),()))
def aix (k:Nat):Xx (((Unit)×(List Int)×(List sw)×Int×Int×Unit) -> Option tu):=eu (dw (dh (dh (dh (dh dx))))) (XO k)
def XP (k a:Nat) (b:List Int) (c:List sw) (e f:Int):Option tu:=iter adR (aix k) a ((),b,c,e,f,())
theorem aay (k a b c e f):XP k (a+1) b c e f=XO k (XP k a) b c e f:=Ba _ _ _ _
def aaz (k:Nat) (a:FH×List sw):Option tu :=
 XP k k ([]:List Int) a.2 (a.2.length:Int) 0
def F107:Fn:=⟨[Vm],[ahu],fun k x=>aaz k x.1⟩
theorem ok107:O 107 F107:=okF aj [(2,2)] (fun k=>(.loop 2 adR (aix k) (fun g=>.nil) .nil)) Tryz.func107 rfl
abbrev aiy:Cut:=⟨[1,2,7,8,9],[.box 42 [cI,cI,.cell p9,.cell Zl,.cell .bool,.cell .bool,.cell .bool,.cell (.sl 59 uo),.cell um,.cell DK,.cell OL,.cell um,.cell DK],.own 121 ow,.own 3 (.int .i64),cI,cI],[],25,[]⟩
def adS (k:Nat) (g2:FZ -> j5 -> (List Int) -> Int -> Int -> Option A9) (a:BQ) (b:oq) (c:List Int) (e f:Int):Option A9 :=
 (bif decide (f<e) then
  ix c f <|
  ix a.2.2.2.2.2.2.2.2.1.2 (rd c f 0) <|
  ap b ([(rd a.2.2.2.2.2.2.2.2.1.2 (rd c f 0) bf).2.2.1]:List (Int×Int)) 16 fun r1 =>
  g2 a r1 c e (IntKind.i64.wrap (f+1))
 else
  some ((b,()),()))
def anH (k:Nat) (g:((Unit)×zi×j5×(List Int)×Int×Int×Unit) -> Option A9) (d:(Unit)×zi×j5×(List Int)×Int×Int×Unit):Option A9:=adS k (fun a b c e f=>g ((),J4 a,b,c,e,f,())) (Z7 d.2.1) d.2.2.1 d.2.2.2.1 d.2.2.2.2.1 d.2.2.2.2.2.1
def adT (k a:Nat) (b:BQ) (c:oq) (e:List Int) (f h:Int):Option A9:=iter aiy (anH k) a ((),J4 b,c,e,f,h,())
theorem adU (k a b c e f h):adT k (a+1) b c e f h=adS k (adT k a) b c e f h:=Ba _ _ _ _
def S48 (k:Nat) (a:BQ):Option A9 :=
 (aaz k a.2.2.2.2.2.2.2.2.1).bind fun q0 =>
 adT k k a ([]:List (Int×Int)) q0.1.1 (q0.1.1.length:Int) 0
def F48:Fn:=⟨[Zp],[.val ⟨false,(.sl 121 ow),true⟩],fun k x=>S48 k x.1⟩
theorem ok48:O 48 F48:=okF (ah ok107 aj) [(2,2)] (fun k=>(.loop 2 aiy (anH k) (fun g=>.nil) .nil)) Tryz.func48 rfl
def S59 (k:Nat) (a:Int×Int×Int×Int) (b:oq):Option j6 :=
 (bif a.1==9 then
  some ((decide (a.2.1≥(b.length:Int)),()),())
 else
  some ((false,()),()))
def F59:Fn:=⟨[agc,.pv (.ref (.sl 121 ow))],[rB],fun k x=>S59 k x.1 x.2.1⟩
theorem ok59:O 59 F59:=okF aj [] On Tryz.func59 rfl
abbrev aaA:Cut:=⟨[0,1,7,8],[.cell ql,.lJ 59 [.ref (.sl 121 ow)],cI,cI],[],19,[]⟩
def QF (k:Nat) (g2:(List jq) -> j5 -> Int -> Int -> Option jo) (a:List jq) (b:oq) (c e:Int):Option jo :=
 (bif decide (e<c) then
  ix a e <|
  (S59 k (rd a e (0,0,0,0)) b).bind fun q0 =>
  (bif q0.1.1 then
   some ((e,()),())
  else
   g2 a b c (IntKind.i64.wrap (e+1)))
 else
  some (((-1),()),()))
def adV (k:Nat):Xx (((Unit)×(List jq)×(j5×Unit)×Int×Int×Unit) -> Option jo):=eu (dw (dh (d9 (dh dx) (dh (dh dx))))) (QF k)
def I7 (k a:Nat) (b:List jq) (c:oq) (e f:Int):Option jo:=iter aaA (adV k) a ((),b,(c,()),e,f,())
theorem VB (k a b c e f):I7 k (a+1) b c e f=QF k (I7 k a) b c e f:=Ba _ _ _ _
def adW (k:Nat) (a:List jq) (b:oq):Option jo :=
 I7 k k a b (a.length:Int) 0
def F130d:Fn:=⟨[EC,.pv (.lJ 59 [.ref (.sl 121 ow)])],[rI],fun k x=>adW k x.1 x.2.1.1⟩
theorem ok130d:O 130 F130d:=okF (ah ok59 aj) [] (fun k=>(.loop 2 aaA (adV k) (fun g=>.nil) .nil)) Tryz.func130 rfl
def aoC (k:Nat) (a:List jq) (b:oq):Option j6 :=
 (adW k a b).bind fun q0 =>
 some ((decide (q0.1.1≥0),()),())
def F57c:Fn:=⟨[EC,.pv (.lJ 59 [.ref (.sl 121 ow)])],[rB],fun k x=>aoC k x.1 x.2.1.1⟩
theorem ok57c:O 57 F57c:=okF (ah ok130d aj) [] On Tryz.func57 rfl
abbrev aiA:Cut:=⟨[0,1,11,12,13],[.pin false 0,.cell (.sl 121 ow),.own 3 (.int .i64),cI,cI],[.fK 42 [cI,cI,.cell p9,.own 168 CY,.cell .bool,.cell .bool,.cell .bool,.own 59 uo,.own 3 (.int .i64),.own 4 .bool,.own 142 J3,.own 3 (.int .i64),.own 4 .bool]],55,[]⟩
def adX (k:Nat) (g1:FZ -> j5 -> (List Int) -> Int -> Int -> Option ((Unit)×zi×Unit)) (a:BQ) (b:oq) (c:List Int) (e f:Int):Option ((Unit)×zi×Unit) :=
 (bif decide (f<e) then
  ix c f <|
  ix a.2.2.2.2.2.2.2.2.1.2 (rd c f 0) <|
  (bif decide (f<(b.length:Int)) then
   ix b f <|
   (bif !(fC ow (rd a.2.2.2.2.2.2.2.2.1.2 (rd c f 0) bf).2.2.1 (rd b f (0,0))) then
    ix b f <|
    (J5 k a.2.2.2.2.2.2.2.2.1 (rd c f 0) ((rd a.2.2.2.2.2.2.2.2.1.2 (rd c f 0) bf).1,(rd a.2.2.2.2.2.2.2.2.1.2 (rd c f 0) bf).2.1,rd b f (0,0),(rd a.2.2.2.2.2.2.2.2.1.2 (rd c f 0) bf).2.2.2)).bind fun q1 =>
    g1 (w8 a q1.1.1) b c e (IntKind.i64.wrap (f+1))
   else
    g1 a b c e (IntKind.i64.wrap (f+1)))
  else
   g1 a b c e (IntKind.i64.wrap (f+1)))
 else
  some ((),J4 a,()))
def anI (k:Nat) (g:((zi×Unit)×Unit×j5×(List Int)×Int×Int×Unit) -> Option ((Unit)×zi×Unit)) (d:(zi×Unit)×Unit×j5×(List Int)×Int×Int×Unit):Option ((Unit)×zi×Unit):=adX k (fun a b c e f=>g ((J4 a,()),(),b,c,e,f,())) (Z7 d.1.1) d.2.2.1 d.2.2.2.1 d.2.2.2.2.1 d.2.2.2.2.2.1
def VD (k a:Nat) (b:BQ) (c:oq) (e:List Int) (f h:Int):Option ((Unit)×zi×Unit):=iter aiA (anI k) a ((J4 b,()),(),c,e,f,h,())
theorem adY (k a b c e f h):VD k (a+1) b c e f h=adX k (VD k a) b c e f h:=Ba _ _ _ _
def S61 (k:Nat) (a:BQ) (b:oq):Option ((Unit)×zi×Unit) :=
 (aaz k a.2.2.2.2.2.2.2.2.1).bind fun q0 =>
 VD k k a b q0.1.1 (q0.1.1.length:Int) 0
def F61:Fn:=⟨[.fK 42 [cI,cI,.cell p9,.own 168 CY,.cell .bool,.cell .bool,.cell .bool,.own 59 uo,.own 3 (.int .i64),.own 4 .bool,.own 142 J3,.own 3 (.int .i64),.own 4 .bool],.val ⟨false,(.sl 121 ow),false⟩],[],fun k x=>S61 k (Z7 x.1) x.2.1⟩
theorem ok61:O 61 F61:=okF (ah ok107 <| ah ok128 aj) [] (fun k=>(.loop 1 aiA (anI k) (fun g=>.nil) .nil)) Tryz.func61 rfl
abbrev adZ:Cut:=⟨[1,2,4,33,34],[.box 42 [cI,cI,.cell p9,.own 168 CY,.cell .bool,.cell .bool,.cell .bool,.own 59 uo,.own 3 (.int .i64),.own 4 .bool,.own 142 J3,.own 3 (.int .i64),.own 4 .bool],.box 42 [cI,cI,.nil,.nil,.cell .bool,.cell .bool,.cell .bool,.nil,.nil,.nil,.nil,.nil,.nil],.box 118 [.own 121 ow],cI,cI],[],50,[]⟩
def XQ (k:Nat) (g12:FZ -> Int -> Int -> Bool -> Bool -> Bool -> j5 -> Int -> Int -> Option G7) (a:BQ) (b c:Int) (e f h:Bool) (i:oq) (l m:Int):Option G7 :=
 (bif decide (m<l) then
  (S60 k a.2.2.1 m).bind fun q4 =>
  ix i m <|
  g12 a b c e f h (upd i m (q4.1.1,(rd i m (0,0)).2)) l (IntKind.i64.wrap (m+1))
 else
  (S61 k a i).bind fun q5 =>
  some (((w4 (Z7 q5.2.1) true),0,()),()))
def aiB (k:Nat) (g:((Unit)×zi×OG×(j5×Unit)×Int×Int×Unit) -> Option G7) (d:(Unit)×zi×OG×(j5×Unit)×Int×Int×Unit):Option G7:=XQ k (fun a b c e f h i l m=>g ((),J4 a,(b,c,(),(),e,f,h,(),(),(),(),(),(),()),(i,()),l,m,())) (Z7 d.2.1) d.2.2.1.1 d.2.2.1.2.1 d.2.2.1.2.2.2.2.1 d.2.2.1.2.2.2.2.2.1 d.2.2.1.2.2.2.2.2.2.1 d.2.2.2.1.1 d.2.2.2.2.1 d.2.2.2.2.2.1
def XR (k a:Nat) (b:BQ) (c e:Int) (f h i:Bool) (l:oq) (m n:Int):Option G7:=iter adZ (aiB k) a ((),J4 b,(c,e,(),(),f,h,i,(),(),(),(),(),(),()),(l,()),m,n,())
theorem aaB (k a b c e f h i l m n):XR k (a+1) b c e f h i l m n=XQ k (XR k a) b c e f h i l m n:=Ba _ _ _ _
abbrev aiC:Cut:=⟨[1,2,4,16,17,18],[.box 42 [cI,cI,.cell p9,.own 168 CY,.cell .bool,.cell .bool,.cell .bool,.own 59 uo,.own 3 (.int .i64),.own 4 .bool,.own 142 J3,.own 3 (.int .i64),.own 4 .bool],.box 42 [cI,cI,.nil,.nil,.cell .bool,.cell .bool,.cell .bool,.nil,.nil,.nil,.nil,.nil,.nil],.box 118 [.own 121 ow],.cell p9,cI,cI],[],50,[]⟩
def ad1 (k:Nat) (g6:FZ -> Int -> Int -> Bool -> Bool -> Bool -> j5 -> (List jy) -> Int -> Int -> Option G7) (a:BQ) (b c:Int) (e f h:Bool) (i:oq) (l:List jy) (m n:Int):Option G7 :=
 (bif decide (n<m) then
  ix l n <|
  (S58 k ([(rd l n bg).2.2.2.1,(rd l n bg).2.2.2.2.1]:List (List jq))).bind fun q2 =>
  (aoC k q2.1.1 i).bind fun q3 =>
  (bif q3.1.1 then
   some ((a,4,()),())
  else
   g6 a b c e f h i l m (IntKind.i64.wrap (n+1)))
 else
  XR k k a b c e f h i (i.length:Int) 0)
def anJ (k:Nat) (g:((Unit)×zi×OG×(j5×Unit)×(List jy)×Int×Int×Unit) -> Option G7) (d:(Unit)×zi×OG×(j5×Unit)×(List jy)×Int×Int×Unit):Option G7:=ad1 k (fun a b c e f h i l m n=>g ((),J4 a,(b,c,(),(),e,f,h,(),(),(),(),(),(),()),(i,()),l,m,n,())) (Z7 d.2.1) d.2.2.1.1 d.2.2.1.2.1 d.2.2.1.2.2.2.2.1 d.2.2.1.2.2.2.2.2.1 d.2.2.1.2.2.2.2.2.2.1 d.2.2.2.1.1 d.2.2.2.2.1 d.2.2.2.2.2.1 d.2.2.2.2.2.2.1
def ad2 (k a:Nat) (b:BQ) (c e:Int) (f h i:Bool) (l:oq) (m:List jy) (n o:Int):Option G7:=iter aiC (anJ k) a ((),J4 b,(c,e,(),(),f,h,i,(),(),(),(),(),(),()),(l,()),m,n,o,())
theorem ad3 (k a b c e f h i l m n o):ad2 k (a+1) b c e f h i l m n o=ad1 k (ad2 k a) b c e f h i l m n o:=Ba _ _ _ _
def S23 (k:Nat) (a:BQ):Option G7 :=
 (S56 k a).bind fun q0 =>
 (bif q0.1.1.2.2.2.2.1 then
  some ((q0.1.1,7,()),())
 else
  (S48 k q0.1.1).bind fun q1 =>
  ad2 k k q0.1.1 0 0 false false false q1.1.1 q0.1.1.2.2.1 (q0.1.1.2.2.1.length:Int) 0)
def F23:Fn:=⟨[Zp],[.val ⟨true,acL,false⟩,rI],fun k x=>S23 k x.1⟩
theorem ok23:O 23 F23:=okF (ah ok48 <| ah ok56 <| ah ok57c <| ah ok58 <| ah ok60 <| ah ok61 aj) [] (fun k=>(.loop 12 adZ (aiB k) (fun g=>.nil) (.loop 6 aiC (anJ k) (fun g=>.nil) .nil))) Tryz.func23 rfl
def S91 (k:Nat) (a:G5):Option OJ :=
 (S23 k a.1).bind fun q0 =>
 (bif q0.1.2.1==0 then
  (S87 k (q0.1.1.2.2.1.length:Int)).bind fun q1 =>
  some ((),BI ((z9 q0.1.1 q1.1.1),a.2.1,a.2.2.1,q0.1.2.1,a.2.2.2.2),())
 else
  some ((),BI (w3 a q0.1.2.1),()))
def F91:Fn:=⟨[Zn],[],fun k x=>S91 k (qd x.1)⟩
theorem ok91:O 91 F91:=okF (ah ok23 <| ah ok87 aj) [] On Tryz.func91 rfl
def S92 (k:Nat) (a:G5):Option OJ :=
 (S30 k a.1 a.2.1.2.2.2.1 a.2.1.2.2.2.2.1).bind fun q0 =>
 some ((),BI (q0.1.1,a.2.1,q0.1.2.1,q0.1.2.2.1,a.2.2.2.2),())
def F92:Fn:=⟨[Zn],[],fun k x=>S92 k (qd x.1)⟩
theorem ok92:O 92 F92:=okF (ah ok30 aj) [] On Tryz.func92 rfl
abbrev ad4:Cut:=⟨[1,3,7,8],[.box 35 [.cell um,.cell DK],.mp 432 true ow false .bool,cI,cI],[],26,[]⟩
def XT (k:Nat) (g3:(List Int) -> (List Bool) -> (List Zm) -> Int -> Int -> Option Zg) (a:List Int) (b:List Bool) (c:List Zm) (e f:Int):Option Zg :=
 (bif decide (f<e) then
  ix b f <|
  (bif rd b f false then
   ix a f <|
   g3 a b (vL ow .bool (f,rd a f 0) true c) e (IntKind.i64.wrap (f+1))
  else
   g3 a b c e (IntKind.i64.wrap (f+1)))
 else
  some ((c,()),()))
def aiD (k:Nat):Xx (((Unit)×((List Int)×(List Bool)×Unit)×(List Zm)×Int×Int×Unit) -> Option Zg):=eu (dw (d9 (dh (dh dx)) (dh (dh (dh dx))))) (XT k)
def XU (k a:Nat) (b:List Int) (c:List Bool) (e:List Zm) (f h:Int):Option Zg:=iter ad4 (aiD k) a ((),(b,c,()),e,f,h,())
theorem aaC (k a b c e f h):XU k (a+1) b c e f h=XT k (XU k a) b c e f h:=Ba _ _ _ _
def aoD (k:Nat) (a:RG):Option Zg :=
 (ait k a).bind fun q0 =>
 XU k k a.1 a.2 ([]:List Zm) q0.1.1 0
def F352:Fn:=⟨[RH],[.pv (.mp 432 true ow false .bool)],fun k x=>aoD k x.1⟩
theorem ok352:O 352 F352:=okF (ah ok326 aj) [] (fun k=>(.loop 3 ad4 (aiD k) (fun g=>.nil) .nil)) Tryz.func352 rfl
def aiE (k:Nat) (a:RG) (b:Int×Int):Option j6 :=
 (aoD k a).bind fun q0 =>
 some ((Us ow .bool b q0.1.1 false,()),())
def F327:Fn:=⟨[RH,ahv],[rB],fun k x=>aiE k x.1 x.2.1⟩
theorem ok327:O 327 F327:=okF (ah ok352 aj) [] On Tryz.func327 rfl
def agu (k:Nat) (a:FH×List sw) (b:Int×Int):Option DJ :=
 (aiE k a.1 b).bind fun q0 =>
 (bif !q0.1.1 then
  some ((0,false,()),())
 else
  (ab1 k a b.1).bind fun q1 =>
  (bif !q1.1.1 then
   some ((0,false,()),())
  else
   some ((b.1,true,()),())))
def F253:Fn:=⟨[Vm,ahv],[rI,rB],fun k x=>agu k x.1 x.2.1⟩
theorem ok253:O 253 F253:=okF (ah ok186 <| ah ok327 aj) [] On Tryz.func253 rfl
def ab8 (k:Nat) (a:G5) (b:Int):Option ((Int×sw×Bool×Unit)×anz×Unit) :=
 (agu k a.1.2.2.2.2.2.2.2.2.1 a.2.1.2.2.1).bind fun q0 =>
 (bif !q0.1.2.1 then
  some ((0,bf,false,()),BI (w3 a 3),())
 else
  ix a.1.2.2.2.2.2.2.2.2.1.2 q0.1.1 <|
  (bif (rd a.1.2.2.2.2.2.2.2.2.1.2 q0.1.1 bf).1 != b then
   some ((0,bf,false,()),BI (w3 a 3),())
  else
   ix a.1.2.2.2.2.2.2.2.2.1.2 q0.1.1 <|
   some ((q0.1.1,rd a.1.2.2.2.2.2.2.2.2.1.2 q0.1.1 bf,true,()),BI a,())))
def F168:Fn:=⟨[Zn,au],[rI,.val ⟨true,J3,false⟩,rB],fun k x=>ab8 k (qd x.1) x.2.1⟩
theorem ok168:O 168 F168:=okF (ah ok253 aj) [] On Tryz.func168 rfl
def aiF (k:Nat) (a:(List Int)×List Int):Option ((((List Int)×List Int)×Unit)×Unit) :=
 (aak k a.1).bind fun q0 =>
 (G9 k a.2).bind fun q1 =>
 some (((q0.1.1,q1.1.1),()),())
def F254:Fn:=⟨[aoa],[.val ⟨true,(.pair JA um),true⟩],fun k x=>aiF k x.1⟩
theorem ok254:O 254 F254:=okF (ah ok219 <| ah ok287 aj) [] On Tryz.func254 rfl
def aiG (k:Nat) (a:(List Int)×List Int) (b:Int):Option ((((List Int)×List Int)×Int×Bool×Unit)×Unit) :=
 (aiF k a).bind fun q0 =>
 (bif decide ((q0.1.1.2.length:Int)>0) then
  ix q0.1.1.2 0 <|
  sx q0.1.1.2 1 (q0.1.1.2.length:Int) <|
  some (((q0.1.1.1,sub q0.1.1.2 1 (q0.1.1.2.length:Int)),rd q0.1.1.2 0 0,true,()),())
 else
  (bif decide ((q0.1.1.1.length:Int)≥4) then
   some ((q0.1.1,0,false,()),())
  else
   ap q0.1.1.1 ([b]:List Int) 8 fun r1 =>
   some (((r1,q0.1.1.2),0,true,()),())))
def F169:Fn:=⟨[aoa,au],[apS,rI,rB],fun k x=>aiG k x.1 x.2.1⟩
theorem ok169:O 169 F169:=okF (ah ok254 aj) [] On Tryz.func169 rfl
def aiH (k:Nat) (a:G5) (b c e:Int):Option OJ :=
 ap a.2.2.1 ([(a.1.1,12,0,b,c,e)]:List (PN Int 6)) 48 fun r0 =>
 some ((),BI (a.1,a.2.1,r0,a.2.2.2),())
def F170:Fn:=⟨[Zn,au,au,au],[],fun k x=>aiH k (qd x.1) x.2.1 x.2.2.1 x.2.2.2.1⟩
theorem ok170:O 170 F170:=okF aj [] On Tryz.func170 rfl
def S93 (k:Nat) (a:G5):Option OJ :=
 (ab8 k a 2).bind fun q0 =>
 (bif !q0.1.2.2.1 then
  some ((),q0.2.1,())
 else
  (aiG k q0.1.2.1.2.2.2.1 (qd q0.2.1).2.1.2.2.2.2.1).bind fun q1 =>
  (bif !q1.1.2.2.1 then
   some ((),BI (w3 (qd q0.2.1) 4),())
  else
   (bif decide (q1.1.2.1>0) then
    (aiH k (qd q0.2.1) q1.1.2.1 (qd q0.2.1).2.1.2.2.2.2.1 0).bind fun q2 =>
    (J5 k (qd q2.2.1).1.2.2.2.2.2.2.2.2.1 q0.1.1 (w3 q0.1.2.1 q1.1.1)).bind fun q3 =>
    some ((),BI ((w8 (qd q2.2.1).1 q3.1.1),(qd q2.2.1).2),())
   else
    (J5 k (qd q0.2.1).1.2.2.2.2.2.2.2.2.1 q0.1.1 (w3 q0.1.2.1 q1.1.1)).bind fun q4 =>
    some ((),BI ((w8 (qd q0.2.1).1 q4.1.1),(qd q0.2.1).2),()))))
def F93:Fn:=⟨[Zn],[],fun k x=>S93 k (qd x.1)⟩
theorem ok93:O 93 F93:=okF (ah ok128 <| ah ok168 <| ah ok169 <| ah ok170 aj) [] On Tryz.func93 rfl
abbrev ad5:Cut:=⟨[0,1,7,8],[.cell um,cI,cI,cI],[],19,[]⟩
def MO (k:Nat) (g2:(List Int) -> Int -> Int -> Int -> Option jo) (a:List Int) (b c e:Int):Option jo :=
 (bif decide (e<c) then
  ix a e <|
  (bif b==(rd a e 0) then
   some ((e,()),())
  else
   g2 a b c (IntKind.i64.wrap (e+1)))
 else
  some (((-1),()),()))
def aiI (k:Nat):Xx (((Unit)×(List Int)×Int×Int×Int×Unit) -> Option jo):=eu (dw (dh (dh (dh (dh dx))))) (MO k)
def EI (k a:Nat) (b:List Int) (c e f:Int):Option jo:=iter ad5 (aiI k) a ((),b,c,e,f,())
theorem KP (k a b c e f):EI k (a+1) b c e f=MO k (EI k a) b c e f:=Ba _ _ _ _
def ab9 (k:Nat) (a:List Int) (b:Int):Option jo :=
 EI k k a b (a.length:Int) 0
def F149:Fn:=⟨[WZ,au],[rI],fun k x=>ab9 k x.1 x.2.1⟩
theorem ok149:O 149 F149:=okF aj [] (fun k=>(.loop 2 ad5 (aiI k) (fun g=>.nil) .nil)) Tryz.func149 rfl
def aoE (k:Nat) (a:List Int) (b:Int):Option j6 :=
 (ab9 k a b).bind fun q0 =>
 some ((decide (q0.1.1≥0),()),())
def F255:Fn:=⟨[WZ,au],[rB],fun k x=>aoE k x.1 x.2.1⟩
theorem ok255:O 255 F255:=okF (ah ok149 aj) [] On Tryz.func255 rfl
def aiJ (k:Nat) (a:(List Int)×List Int) (b:Int):Option ((((List Int)×List Int)×Int×Bool×Bool×Unit)×Unit) :=
 (aiF k a).bind fun q0 =>
 (bif decide (b<1) then
  some ((q0.1.1,0,false,false,()),())
 else
  (bif decide ((q0.1.1.1.length:Int)>0) then
   ix q0.1.1.1 0 <|
   sx q0.1.1.1 1 (q0.1.1.1.length:Int) <|
   some (((sub q0.1.1.1 1 (q0.1.1.1.length:Int),q0.1.1.2),rd q0.1.1.1 0 0,true,true,()),())
  else
   (aoE k q0.1.1.2 b).bind fun q1 =>
   (bif q1.1.1 then
    some ((q0.1.1,0,false,false,()),())
   else
    (bif decide ((q0.1.1.2.length:Int)≥4) then
     some ((q0.1.1,0,false,false,()),())
    else
     ap q0.1.1.2 ([b]:List Int) 8 fun r2 =>
     some (((q0.1.1.1,r2),0,false,true,()),())))))
def F171:Fn:=⟨[aoa,au],[apS,rI,rB,rB],fun k x=>aiJ k x.1 x.2.1⟩
theorem ok171:O 171 F171:=okF (ah ok254 <| ah ok255 aj) [] On Tryz.func171 rfl
def S94 (k:Nat) (a:G5):Option OJ :=
 (ab8 k a 2).bind fun q0 =>
 (bif !q0.1.2.2.1 then
  some ((),q0.2.1,())
 else
  (aiJ k q0.1.2.1.2.2.2.1 (qd q0.2.1).2.1.2.2.2.1).bind fun q1 =>
  (bif !q1.1.2.2.2.1 then
   some ((),BI (w3 (qd q0.2.1) 1),())
  else
   (bif q1.1.2.2.1 then
    (J5 k (qd q0.2.1).1.2.2.2.2.2.2.2.2.1 q0.1.1 (w3 q0.1.2.1 q1.1.1)).bind fun q2 =>
    some ((),BI (w0 (z5 (qd q0.2.1) q1.1.2.1) (w8 (qd q0.2.1).1 q2.1.1)),())
   else
    (J5 k (qd q0.2.1).1.2.2.2.2.2.2.2.2.1 q0.1.1 (w3 q0.1.2.1 q1.1.1)).bind fun q3 =>
    some ((),BI ((w8 (qd q0.2.1).1 q3.1.1),(qd q0.2.1).2.1,(qd q0.2.1).2.2.1,16,(qd q0.2.1).2.2.2.2),()))))
def F94:Fn:=⟨[Zn],[],fun k x=>S94 k (qd x.1)⟩
theorem ok94:O 94 F94:=okF (ah ok128 <| ah ok168 <| ah ok171 aj) [] On Tryz.func94 rfl
abbrev ad6:Cut:=⟨[4,5,15,16,17],[.box 138 [.cell (.int .u32),.own 266 FE],.own 266 FE,.cell (.sl 266 FE),cI,cI],[],49,[]⟩
def XV (k:Nat) (g3:Int -> j5 -> j5 -> j5 -> Int -> Int -> Option Ze) (x:Int) (a b c:oq) (e f:Int):Option Ze :=
 (bif decide (f<e) then
  ix c f <|
  (bif (Um .u32 x (rd c f (0,0)).2)==0 then
   ap a ([rd c f (0,0)]:List (Int×Int)) 16 fun r0 =>
   g3 x r0 b c e (IntKind.i64.wrap (f+1))
  else
   ap b ([((rd c f (0,0)).1,Um .u32 x (rd c f (0,0)).2)]:List (Int×Int)) 16 fun r1 =>
   g3 (Ru .u32 x (Um .u32 x (rd c f (0,0)).2)) a r1 c e (IntKind.i64.wrap (f+1)))
 else
  some (((x,a),b,()),()))
def aiK (k:Nat):Xx (((Unit)×(Int×j5×Unit)×j5×j5×Int×Int×Unit) -> Option Ze):=eu (dw (d9 (dh (dh dx)) (dh (dh (dh (dh dx)))))) (XV k)
def XW (k a:Nat) (x:Int) (b c e:oq) (f h:Int):Option Ze:=iter ad6 (aiK k) a ((),(x,b,()),c,e,f,h,())
theorem aaD (k a x b c e f h):XW k (a+1) x b c e f h=XV k (XW k a) x b c e f h:=Ba _ _ _ _
def aiL (k:Nat) (a:Int×List (Int×Int)) (b:Int):Option Ze :=
 XW k k (Uz .u32 a.1 b) ([]:List (Int×Int)) ([]:List (Int×Int)) a.2 (a.2.length:Int) 0
def F172:Fn:=⟨[.val ⟨true,(.pair (.int .u32) (.sl 266 FE)),false⟩,.val ⟨false,(.int .u32),false⟩],[.val ⟨true,(.pair (.int .u32) (.sl 266 FE)),true⟩,.val ⟨false,(.sl 266 FE),true⟩],fun k x=>aiL k x.1 x.2.1⟩
theorem ok172:O 172 F172:=okF aj [(4,2),(5,2)] (fun k=>(.loop 3 ad6 (aiK k) (fun g=>.nil) .nil)) Tryz.func172 rfl
end
end Go.Proofs.YtjjjbcmjmkcedaaGreat.Ab
