import Derived.Test.YtjjjbcmjmkcedaaGreatPbI
import Derived.Lib.Overlaps
import Derived.Shelf.RegionOpenPlain
import Derived.Test.YtjjjbcmjmkcedaaGreatPbC
/- Contracts, printed by this session's own program gen.py. -/
set_option linter.unusedVariables false
set_option linter.unusedSimpArgs false
set_option maxRecDepth 100000
namespace Go.Proofs.YtjjjbcmjmkcedaaGreat.Ab
open Go.RowKit
abbrev cI:PV:=.cell (.int .i64)
abbrev jr:Type:=Int×Int×Int×(List (Int×Int×Int×Int))×(List (Int×Int×Int×Int))×List (Int×Int×Int×Int)
abbrev AZ:Ty:=.pair (.int .i64) (.pair (.int .i64) (.pair (.int .i64) (.pair (.sl 127 (.pair (.int .i64) (.pair (.int .i64) (.pair (.int .i64) (.int .i64))))) (.pair (.sl 127 (.pair (.int .i64) (.pair (.int .i64) (.pair (.int .i64) (.int .i64))))) (.sl 127 (.pair (.int .i64) (.pair (.int .i64) (.pair (.int .i64) (.int .i64)))))))))
abbrev F8:Type:=Int×Int×(List jr)×(List (PN Int 5))×Bool×Bool×Bool×(List (Int×Int×Int×Int×(Int×(PN Int 8)×(List (Int×Int×Int))×Bool)×(Int×(PN Int 8)×(List (Int×Int×Int))×Bool)×(List Int)×Bool))×(((List Int)×List Bool)×List (Int×(Int×Int)×(Int×Int)×((List Int)×List Int)×(Int×List (Int×Int))×Int))×(List Int)×List Bool
abbrev su:Ty:=.pair (.int .i64) (.pair (.int .i64) (.pair (.int .i64) (.pair (.int .i64) (.pair (.pair (.int .i64) (.pair (Am 8 (.int .i64)) (.pair (.sl 293 (.pair (.int .i64) (.pair (.int .i64) (.int .i64)))) .bool))) (.pair (.pair (.int .i64) (.pair (Am 8 (.int .i64)) (.pair (.sl 293 (.pair (.int .i64) (.pair (.int .i64) (.int .i64)))) .bool))) (.pair (.sl 3 (.int .i64)) .bool))))))
abbrev A9:Type:=Int×Int×Int×Int×(Int×(PN Int 8)×(List (Int×Int×Int))×Bool)×(Int×(PN Int 8)×(List (Int×Int×Int))×Bool)×(List Int)×Bool
abbrev I5:Ty:=.pair (.int .i64) (.pair (.pair (.int .i64) (.int .i64)) (.pair (.pair (.int .i64) (.int .i64)) (.pair (.pair (.sl 2 (.int .i64)) (.sl 3 (.int .i64))) (.pair (.pair (.int .u32) (.sl 266 (.pair (.int .i64) (.int .u32)))) (.int .u32)))))
abbrev qj:Type:=Int×(Int×Int)×(Int×Int)×((List Int)×List Int)×(Int×List (Int×Int))×Int
abbrev p9:Ty:=.sl 127 (.pair (.int .i64) (.pair (.int .i64) (.pair (.int .i64) (.int .i64))))
abbrev jl:Type:=Int×Int×Int×Int
abbrev BA:Type:=Int×Int×(List jr)×(List (PN Int 5))×Bool×Bool×Bool×(List A9)×(((List Int)×List Bool)×List qj)×(List Int)×List Bool
abbrev y5:Type:=Int×Int×(List jr)×(List (PN Int 5))×Bool×Bool×Bool×(List A9)×(List Int)×(List Bool)×(List qj)×(List Int)×(List Bool)×Unit
abbrev acw:Ty:=.pair (.int .i64) (.pair (.int .i64) (.pair (.sl 54 AZ) (.pair (.sl 168 (Am 5 (.int .i64))) (.pair .bool (.pair .bool (.pair .bool (.pair (.sl 59 su) (.pair (.pair (.pair (.sl 3 (.int .i64)) (.sl 4 .bool)) (.sl 142 I5)) (.pair (.sl 3 (.int .i64)) (.sl 4 .bool))))))))))
abbrev an1:Type:=Int×Int×(List jr)×(List (PN Int 5))×Bool×Bool×Bool×(List A9)×(List Int)×(List Bool)×(List qj)×(List Int)×(List Bool)×Int×Int×Int×Int×(List jl)×(List jl)×(List jl)×Int×Int×Int×Int×Int×(List (PN Int 6))×Int×Int×Int×Int×Unit
abbrev jk:Type:=(Int×Unit)×Unit
abbrev qd:Type:=Int×Int×Int×Bool
abbrev jy:Type:=List (Int×Int)
abbrev oq:Ty:=.pair (.int .i64) (.int .i64)
abbrev j3:Type:=(Bool×Unit)×Unit
abbrev F9:Type:=F8×(Int×jr×(Int×Int)×Int×Int×Int)×(List (PN Int 6))×Int×(Int×Int)×Int
abbrev sj:Ty:=.sl 3 (.int .i64)
abbrev EL:Ty:=.pair (.int .i64) (.pair (.int .i64) (.pair (.int .i64) .bool))
abbrev qo:Type:=((List Int)×Unit)×Unit
abbrev NH:Type:=Int×Int×Unit×Unit×Bool×Bool×Bool×Unit×Unit×Unit×Unit×Unit×Unit×Unit
abbrev NI:Type:=(List jl) -> (List qd) -> (List Int) -> (List qd) -> Int -> Int -> Option j3
abbrev CQ:Type:=(Int×Int×Int×Unit)×Unit
abbrev I9:Type:=((List jr)×(List (PN Int 5))×Int×Unit)×Unit
abbrev ahv:Type:=((List Int)×List Bool)×List qj
abbrev YG:Type:=Int×(PN Int 8)×(List (Int×Int×Int))×Bool
abbrev EM:Type:=List (PN Bool 24)
abbrev JG:Type:=Int×Int×Int×(List jl)×(List jl)×List jl
abbrev ahw:Ty:=.pair sj (.sl 4 .bool)
abbrev oh:Type:=List (Int×Int)
abbrev U7:Type:=(List jr) -> Int -> Int -> jy -> (List jr) -> Int -> Int -> Option jk
abbrev U8:Ty:=.pair (.int .i64) (.pair (.int .i64) oq)
abbrev YH:Type:=Int×(Int×Int)×(Int×Int)×((List Int)×List Int)×(Int×List (Int×Int))×Int
abbrev zl:Type:=(jy×Unit)×Unit
abbrev YI:Type:=(List jl) -> EM -> (List qd) -> Int -> Int -> Option ((EM×Unit)×Unit)
abbrev BU:Ty:=Am 5 (.int .i64)
abbrev CS:Type:=(Int×Bool×Unit)×Unit
abbrev YJ:Type:=(List jr) -> Int -> Int -> Int -> Int -> Int -> Int -> Bool -> Option CQ
abbrev ahx:Type:=(List jl) -> (List Int) -> (List Int) -> (List ((PN Bool 24)×Int)) -> EM -> EM -> Int -> Int -> Option (((List Int)×Bool×Unit)×Unit)
abbrev o9:Ty:=.sl 54 AZ
abbrev FB:Type:=((List jl)×Unit)×Unit
abbrev YK:Type:=((Int×Int×List (Int×Int))×Bool×Unit)×Unit
abbrev EN:Ty:=.pair (.int .i64) (.int .u32)
abbrev FC:Type:=(F8×Int×Unit)×Unit
abbrev YL:Type:=((Int×List (Int×Int))×jy×Unit)×Unit
abbrev U9:Type:=Int -> (List Int) -> Int -> Int -> Option jk
abbrev YM:Type:=(ahv×(Int×Int)×Bool×Unit)×Unit
abbrev YN:Type:=((List ((Int×Int)×Bool))×Unit)×Unit
abbrev YO:Type:=(List Int) -> (List jl) -> Int -> Int -> Option qo
abbrev ahy:Type:=(List jr) -> Int -> Int -> jy -> (List jr) -> Int -> Int -> jy -> Int -> Int -> Option jk
abbrev FD:Type:=List (PN Int 5)
abbrev EO:Type:=(List Int)×List Bool
abbrev YP:Type:=Int×Unit
abbrev an2:Ty:=.pair ahw (.sl 142 I5)
abbrev um:Type:=List qd
abbrev an3:Type:=Int×Int×Int×(List jl)×(List jl)×(List jl)×Unit
abbrev EP:Type:=(F8×Unit)×Unit
abbrev CU:Ty:=.sl 4 .bool
abbrev acy:Type:=Int×Int×Int×Int×YG×YG×(List Int)×Bool
abbrev NJ:Type:=(EM×Unit)×Unit
abbrev YQ:Type:=((List Int)×Bool×Unit)×Unit
abbrev IB:Ty:=.sl 2 (.int .i64)
abbrev ahz:Type:=Int×Int×Int×Bool×Unit
abbrev acz:Ty:=Am 6 (.int .i64)
abbrev PZ:Type:=(ahv×Unit)×Unit
abbrev NK:Type:=(Unit)×an1×Unit
abbrev an4:Type:=(List Int)×(List Bool)×(List qj)×Unit
abbrev YR:Type:=(FD×Int×Unit)×Unit
abbrev ahA:Type:=((Unit)×(List jl)×Unit×Int×Int×Unit) -> Option jk
abbrev BD:Ty:=Am 24 .bool
abbrev NM:Ty:=.sl 142 I5
abbrev acA:Type:=Int×Bool×Unit
abbrev BF:Type:=PN Bool 24
abbrev Q0:Type:=(List Int)×List Bool
abbrev YS:Ty:=.sl 168 BU
abbrev UA:Type:=List (List jl)
abbrev YT:Type:=(Int×Int)×Bool
abbrev YU:PT:=.fK 175 [cI,cI,.cell o9,.cell YS,.cell .bool,.cell .bool,.cell .bool,.cell (.sl 59 su),.cell sj,.cell CU,.cell NM,.cell sj,.cell CU,cI,cI,cI,cI,.cell p9,.cell p9,.cell p9,cI,cI,cI,cI,.cell (.int .u32),.own 51 acz,cI,cI,cI,cI]
abbrev aqz:PT:=.pv (.lJ 271 [.ref p9,.ref (.int .i64)])
abbrev aoN:PT:=.val ⟨true,(.pair IB sj),false⟩
abbrev aqA:RT:=.val ⟨true,(.pair IB sj),false⟩
abbrev aoO:RT:=.val ⟨false,(.sl 378 oq),true⟩
abbrev Wm:PT:=.val ⟨false,sj,false⟩
abbrev YV:PT:=.val ⟨false,o9,false⟩
abbrev agf:PT:=.val ⟨true,U8,false⟩
abbrev DL:PT:=.val ⟨false,p9,false⟩
abbrev ahB:PT:=.val ⟨true,EL,false⟩
abbrev ahC:RT:=.val ⟨false,sj,true⟩
abbrev UC:PT:=.val ⟨true,an2,false⟩
abbrev Q5:PT:=.val ⟨true,ahw,false⟩
abbrev YW:PT:=.val ⟨true,acw,false⟩
abbrev ahD:PT:=.val ⟨true,oq,false⟩
abbrev UD:RT:=.val ⟨true,ahw,true⟩
abbrev acB:RT:=.val ⟨true,an2,true⟩
abbrev acC:RT:=.val ⟨true,acw,true⟩
abbrev UE:PT:=.val ⟨true,AZ,false⟩
abbrev acD:PT:=.val ⟨true,I5,false⟩
abbrev YX:PT:=.pv (.ref (.int .i64))
noncomputable section
def E0:Env:=tab.env (fun _=>none) (fun _=>0)
theorem IC:aH Tryz.prog E0:=Kw Rt _ _ (fun f F h=>by cases h)
theorem okF {f:FuncId} {fn:Func} {F:Fn} {C:Code} {l:List (Nat×Fn)} (hl:Gu Tryz.prog l) (h:List (Nat×Nat)) (T:Nat -> rV (RD F.rs×MD F.ps)) (hf:Tryz.prog.funcs[f]? = some fn) (hb:fn.body=some C)
(h1:(fn.name == "runtime.NumGoroutine")=false:=by kernel_rfl) (h2:Nat.ble F.ps.length fn.ntmps=true:=by kernel_rfl)
(h3:∀ k,Bw (tab.env (lk l) (Rv h)) fn F.ps F.rs k true (T k)=Bw (tab.env (lk l) (Rv h)) fn F.ps F.rs k false (T k):=by intro k;kernel_rfl) (h4:∀ k x,F.sem k x=Gr (tab.env (lk l) (Rv h)) fn F.ps F.rs k (T k) x:=by intro k x;kernel_rfl):uO Tryz.prog f F :=
Kt (Kw Rt _ _ (Dm hl)) mix hf hb h1 h2 h3 h4
def Xx (A:Type):Type:=A -> A
abbrev O (f:Nat) (F:Fn):Prop:=uO Tryz.prog f F
theorem ah {f:Nat} {F:Fn} {l:List (Nat×Fn)} (h:O f F) (t:Gu Tryz.prog l):Gu Tryz.prog ((f,F)::l):=⟨h,t⟩
theorem aj:Gu Tryz.prog []:=trivial
abbrev On {A:Type}:Nat -> rV A:=fun _=>.nil
abbrev au:PT:=.val ⟨false,.int .i64,false⟩
abbrev rI:RT:=.val ⟨false,.int .i64,true⟩
abbrev rB:RT:=.val ⟨false,.bool,true⟩
abbrev ay:Int×Int×Int×Int×(Int×(PN Int 8)×(List (Int×Int×Int))×Bool)×(Int×(PN Int 8)×(List (Int×Int×Int))×Bool)×(List Int)×Bool:=(0,0,0,0,(0,Qn (α:=Int) 8 0,[],false),(0,Qn (α:=Int) 8 0,[],false),[],false)
abbrev bf:Int×(Int×Int)×(Int×Int)×((List Int)×List Int)×(Int×List (Int×Int))×Int:=(0,(0,0),(0,0),([],[]),(0,[]),0)
abbrev bg:Int×Int×Int×(List (Int×Int×Int×Int))×(List (Int×Int×Int×Int))×List (Int×Int×Int×Int):=(0,0,0,[],[],[])
abbrev bn:Int×(Int×Int×Int×(List (Int×Int×Int×Int))×(List (Int×Int×Int×Int))×List (Int×Int×Int×Int))×(Int×Int)×Int×Int×Int:=(0,(0,0,0,[],[],[]),(0,0),0,0,0)
abbrev bq:Int×(Int×(Int×Int×Int×(List (Int×Int×Int×Int))×(List (Int×Int×Int×Int))×List (Int×Int×Int×Int))×(Int×Int)×Int×Int×Int)×Int×Int:=(0,(0,(0,0,0,[],[],[]),(0,0),0,0,0),0,0)
def w0 { X Y Z:Type} (a:X×Z) (x:Y):Y×Z:=(x,a.2)
def w2 {A0 A1 X Y Z:Type} (a:A0×A1×X×Z) (x:Y):A0×A1×Y×Z:=(a.1,a.2.1,x,a.2.2.2)
def w3 {A0 A1 A2 X Y Z:Type} (a:A0×A1×A2×X×Z) (x:Y):A0×A1×A2×Y×Z:=(a.1,a.2.1,a.2.2.1,x,a.2.2.2.2)
def w4 {A0 A1 A2 A3 X Y Z:Type} (a:A0×A1×A2×A3×X×Z) (x:Y):A0×A1×A2×A3×Y×Z:=(a.1,a.2.1,a.2.2.1,a.2.2.2.1,x,a.2.2.2.2.2)
def w5 {A0 A1 A2 A3 A4 X Y Z:Type} (a:A0×A1×A2×A3×A4×X×Z) (x:Y):A0×A1×A2×A3×A4×Y×Z:=(a.1,a.2.1,a.2.2.1,a.2.2.2.1,a.2.2.2.2.1,x,a.2.2.2.2.2.2)
def w6 {A0 A1 A2 A3 A4 A5 X Y Z:Type} (a:A0×A1×A2×A3×A4×A5×X×Z) (x:Y):A0×A1×A2×A3×A4×A5×Y×Z:=(a.1,a.2.1,a.2.2.1,a.2.2.2.1,a.2.2.2.2.1,a.2.2.2.2.2.1,x,a.2.2.2.2.2.2.2)
def w7 {A0 A1 A2 A3 A4 A5 A6 X Y Z:Type} (a:A0×A1×A2×A3×A4×A5×A6×X×Z) (x:Y):A0×A1×A2×A3×A4×A5×A6×Y×Z:=(a.1,a.2.1,a.2.2.1,a.2.2.2.1,a.2.2.2.2.1,a.2.2.2.2.2.1,a.2.2.2.2.2.2.1,x,a.2.2.2.2.2.2.2.2)
def w8 {A0 A1 A2 A3 A4 A5 A6 A7 X Y Z:Type} (a:A0×A1×A2×A3×A4×A5×A6×A7×X×Z) (x:Y):A0×A1×A2×A3×A4×A5×A6×A7×Y×Z:=(a.1,a.2.1,a.2.2.1,a.2.2.2.1,a.2.2.2.2.1,a.2.2.2.2.2.1,a.2.2.2.2.2.2.1,a.2.2.2.2.2.2.2.1,x,a.2.2.2.2.2.2.2.2.2)
def z5 {A0 A1 A2 A3 A4 Y Z:Type} (a:A0×A1×A2×A3×A4×Z) (x:Y):A0×A1×A2×A3×A4×Y:=(a.1,a.2.1,a.2.2.1,a.2.2.2.1,a.2.2.2.2.1,x)
def z7 {A0 A1 A2 A3 A4 A5 A6 Y Z:Type} (a:A0×A1×A2×A3×A4×A5×A6×Z) (x:Y):A0×A1×A2×A3×A4×A5×A6×Y:=(a.1,a.2.1,a.2.2.1,a.2.2.2.1,a.2.2.2.2.1,a.2.2.2.2.2.1,a.2.2.2.2.2.2.1,x)
def z9 {A0 A1 A2 A3 A4 A5 A6 A7 A8 Y Z:Type} (a:A0×A1×A2×A3×A4×A5×A6×A7×A8×Z) (x:Y):A0×A1×A2×A3×A4×A5×A6×A7×A8×Y:=(a.1,a.2.1,a.2.2.1,a.2.2.2.1,a.2.2.2.2.1,a.2.2.2.2.2.1,a.2.2.2.2.2.2.1,a.2.2.2.2.2.2.2.1,a.2.2.2.2.2.2.2.2.1,x)
structure Iso (T R F:Type) where
 un:F -> T -> R
 cu:(T -> R) -> F
def dh {A T R F:Type} (s:Iso T R F):Iso (A×T) R (A -> F):=⟨fun f x=>s.un (f x.1) x.2,fun g a=>s.cu fun t=>g (a,t)⟩
def dw {T R F:Type} (s:Iso T R F):Iso (Unit×T) R F:=⟨fun f x=>s.un f x.2,fun g=>s.cu fun t=>g ((),t)⟩
def dx {R:Type}:Iso Unit R R:=⟨fun f _=>f,fun g=>g ()⟩
def dz {A R:Type}:Iso A R (A -> R):=⟨fun f=>f,fun g=>g⟩
def d9 {S T R F G:Type} (a:Iso S F G) (b:Iso T R F):Iso (S×T) R G:=⟨fun f x=>b.un (a.un f x.1) x.2,fun g=>a.cu fun x=>b.cu fun t=>g (x,t)⟩
def eu {T R F:Type} (s:Iso T R F) (f:F -> F) (g:T -> R):T -> R:=s.un (f (s.cu g))
def pz (d:Int×Int×(List jr)×FD×Bool×Bool×Bool×(List A9)×(List Int)×(List Bool)×(List qj)×(List Int)×(List Bool)×Int×Int×Int×Int×(List jl)×(List jl)×(List jl)×Int×Int×Int×Int×Int×(List (PN Int 6))×Int×Int×Int×Int×Unit):F8×(Int×jr×(Int×Int)×Int×Int×Int)×(List (PN Int 6))×Int×(Int×Int)×Int:=((d.1,d.2.1,d.2.2.1,d.2.2.2.1,d.2.2.2.2.1,d.2.2.2.2.2.1,d.2.2.2.2.2.2.1,d.2.2.2.2.2.2.2.1,((d.2.2.2.2.2.2.2.2.1,d.2.2.2.2.2.2.2.2.2.1),d.2.2.2.2.2.2.2.2.2.2.1),d.2.2.2.2.2.2.2.2.2.2.2.1,d.2.2.2.2.2.2.2.2.2.2.2.2.1),(d.2.2.2.2.2.2.2.2.2.2.2.2.2.1,(d.2.2.2.2.2.2.2.2.2.2.2.2.2.2.1,d.2.2.2.2.2.2.2.2.2.2.2.2.2.2.2.1,d.2.2.2.2.2.2.2.2.2.2.2.2.2.2.2.2.1,d.2.2.2.2.2.2.2.2.2.2.2.2.2.2.2.2.2.1,d.2.2.2.2.2.2.2.2.2.2.2.2.2.2.2.2.2.2.1,d.2.2.2.2.2.2.2.2.2.2.2.2.2.2.2.2.2.2.2.1),(d.2.2.2.2.2.2.2.2.2.2.2.2.2.2.2.2.2.2.2.2.1,d.2.2.2.2.2.2.2.2.2.2.2.2.2.2.2.2.2.2.2.2.2.1),d.2.2.2.2.2.2.2.2.2.2.2.2.2.2.2.2.2.2.2.2.2.2.1,d.2.2.2.2.2.2.2.2.2.2.2.2.2.2.2.2.2.2.2.2.2.2.2.1,d.2.2.2.2.2.2.2.2.2.2.2.2.2.2.2.2.2.2.2.2.2.2.2.2.1),d.2.2.2.2.2.2.2.2.2.2.2.2.2.2.2.2.2.2.2.2.2.2.2.2.2.1,d.2.2.2.2.2.2.2.2.2.2.2.2.2.2.2.2.2.2.2.2.2.2.2.2.2.2.1,(d.2.2.2.2.2.2.2.2.2.2.2.2.2.2.2.2.2.2.2.2.2.2.2.2.2.2.2.1,d.2.2.2.2.2.2.2.2.2.2.2.2.2.2.2.2.2.2.2.2.2.2.2.2.2.2.2.2.1),d.2.2.2.2.2.2.2.2.2.2.2.2.2.2.2.2.2.2.2.2.2.2.2.2.2.2.2.2.2.1)
def AO (x:F9):Int×Int×(List jr)×FD×Bool×Bool×Bool×(List A9)×(List Int)×(List Bool)×(List qj)×(List Int)×(List Bool)×Int×Int×Int×Int×(List jl)×(List jl)×(List jl)×Int×Int×Int×Int×Int×(List (PN Int 6))×Int×Int×Int×Int×Unit:=(x.1.1,x.1.2.1,x.1.2.2.1,x.1.2.2.2.1,x.1.2.2.2.2.1,x.1.2.2.2.2.2.1,x.1.2.2.2.2.2.2.1,x.1.2.2.2.2.2.2.2.1,x.1.2.2.2.2.2.2.2.2.1.1.1,x.1.2.2.2.2.2.2.2.2.1.1.2,x.1.2.2.2.2.2.2.2.2.1.2,x.1.2.2.2.2.2.2.2.2.2.1,x.1.2.2.2.2.2.2.2.2.2.2,x.2.1.1,x.2.1.2.1.1,x.2.1.2.1.2.1,x.2.1.2.1.2.2.1,x.2.1.2.1.2.2.2.1,x.2.1.2.1.2.2.2.2.1,x.2.1.2.1.2.2.2.2.2,x.2.1.2.2.1.1,x.2.1.2.2.1.2,x.2.1.2.2.2.1,x.2.1.2.2.2.2.1,x.2.1.2.2.2.2.2,x.2.2.1,x.2.2.2.1,x.2.2.2.2.1.1,x.2.2.2.2.1.2,x.2.2.2.2.2,())
theorem vrA (x:F9):pz (AO x)=x:=rfl
def tvJ (d:Int×Int×Int×Int×Int×Int×Int×Int×Int×Int×Int×Int×Int×(List (Int×Int×Int))×Bool×Int×Int×Int×Int×Int×Int×Int×Int×Int×(List (Int×Int×Int))×Bool×(List Int)×Bool×Unit):Int×Int×Int×Int×YG×YG×(List Int)×Bool:=(d.1,d.2.1,d.2.2.1,d.2.2.2.1,(d.2.2.2.2.1,(d.2.2.2.2.2.1,d.2.2.2.2.2.2.1,d.2.2.2.2.2.2.2.1,d.2.2.2.2.2.2.2.2.1,d.2.2.2.2.2.2.2.2.2.1,d.2.2.2.2.2.2.2.2.2.2.1,d.2.2.2.2.2.2.2.2.2.2.2.1,d.2.2.2.2.2.2.2.2.2.2.2.2.1),d.2.2.2.2.2.2.2.2.2.2.2.2.2.1,d.2.2.2.2.2.2.2.2.2.2.2.2.2.2.1),(d.2.2.2.2.2.2.2.2.2.2.2.2.2.2.2.1,(d.2.2.2.2.2.2.2.2.2.2.2.2.2.2.2.2.1,d.2.2.2.2.2.2.2.2.2.2.2.2.2.2.2.2.2.1,d.2.2.2.2.2.2.2.2.2.2.2.2.2.2.2.2.2.2.1,d.2.2.2.2.2.2.2.2.2.2.2.2.2.2.2.2.2.2.2.1,d.2.2.2.2.2.2.2.2.2.2.2.2.2.2.2.2.2.2.2.2.1,d.2.2.2.2.2.2.2.2.2.2.2.2.2.2.2.2.2.2.2.2.2.1,d.2.2.2.2.2.2.2.2.2.2.2.2.2.2.2.2.2.2.2.2.2.2.1,d.2.2.2.2.2.2.2.2.2.2.2.2.2.2.2.2.2.2.2.2.2.2.2.1),d.2.2.2.2.2.2.2.2.2.2.2.2.2.2.2.2.2.2.2.2.2.2.2.2.1,d.2.2.2.2.2.2.2.2.2.2.2.2.2.2.2.2.2.2.2.2.2.2.2.2.2.1),d.2.2.2.2.2.2.2.2.2.2.2.2.2.2.2.2.2.2.2.2.2.2.2.2.2.2.1,d.2.2.2.2.2.2.2.2.2.2.2.2.2.2.2.2.2.2.2.2.2.2.2.2.2.2.2.1)
def trJ (x:acy):Int×Int×Int×Int×Int×Int×Int×Int×Int×Int×Int×Int×Int×(List (Int×Int×Int))×Bool×Int×Int×Int×Int×Int×Int×Int×Int×Int×(List (Int×Int×Int))×Bool×(List Int)×Bool×Unit:=(x.1,x.2.1,x.2.2.1,x.2.2.2.1,x.2.2.2.2.1.1,x.2.2.2.2.1.2.1.1,x.2.2.2.2.1.2.1.2.1,x.2.2.2.2.1.2.1.2.2.1,x.2.2.2.2.1.2.1.2.2.2.1,x.2.2.2.2.1.2.1.2.2.2.2.1,x.2.2.2.2.1.2.1.2.2.2.2.2.1,x.2.2.2.2.1.2.1.2.2.2.2.2.2.1,x.2.2.2.2.1.2.1.2.2.2.2.2.2.2,x.2.2.2.2.1.2.2.1,x.2.2.2.2.1.2.2.2,x.2.2.2.2.2.1.1,x.2.2.2.2.2.1.2.1.1,x.2.2.2.2.2.1.2.1.2.1,x.2.2.2.2.2.1.2.1.2.2.1,x.2.2.2.2.2.1.2.1.2.2.2.1,x.2.2.2.2.2.1.2.1.2.2.2.2.1,x.2.2.2.2.2.1.2.1.2.2.2.2.2.1,x.2.2.2.2.2.1.2.1.2.2.2.2.2.2.1,x.2.2.2.2.2.1.2.1.2.2.2.2.2.2.2,x.2.2.2.2.2.1.2.2.1,x.2.2.2.2.2.1.2.2.2,x.2.2.2.2.2.2.1,x.2.2.2.2.2.2.2,())
theorem vrJ (x:acy):tvJ (trJ x)=x:=rfl
def tvK (d:Int×Int×(List jr)×FD×Bool×Bool×Bool×(List A9)×(List Int)×(List Bool)×(List qj)×(List Int)×(List Bool)×Unit):Int×Int×(List jr)×FD×Bool×Bool×Bool×(List A9)×ahv×(List Int)×List Bool:=(d.1,d.2.1,d.2.2.1,d.2.2.2.1,d.2.2.2.2.1,d.2.2.2.2.2.1,d.2.2.2.2.2.2.1,d.2.2.2.2.2.2.2.1,((d.2.2.2.2.2.2.2.2.1,d.2.2.2.2.2.2.2.2.2.1),d.2.2.2.2.2.2.2.2.2.2.1),d.2.2.2.2.2.2.2.2.2.2.2.1,d.2.2.2.2.2.2.2.2.2.2.2.2.1)
def Q6 (x:BA):Int×Int×(List jr)×FD×Bool×Bool×Bool×(List A9)×(List Int)×(List Bool)×(List qj)×(List Int)×(List Bool)×Unit:=(x.1,x.2.1,x.2.2.1,x.2.2.2.1,x.2.2.2.2.1,x.2.2.2.2.2.1,x.2.2.2.2.2.2.1,x.2.2.2.2.2.2.2.1,x.2.2.2.2.2.2.2.2.1.1.1,x.2.2.2.2.2.2.2.2.1.1.2,x.2.2.2.2.2.2.2.2.1.2,x.2.2.2.2.2.2.2.2.2.1,x.2.2.2.2.2.2.2.2.2.2,())
theorem vrK (x:BA):tvK (Q6 x)=x:=rfl
def uf (d:Int×Int×(List jr)×FD×Bool×Bool×Bool×(List A9)×(List Int)×(List Bool)×(List qj)×(List Int)×(List Bool)×(List (PN Int 6))×Unit):F8×List (PN Int 6):=((d.1,d.2.1,d.2.2.1,d.2.2.2.1,d.2.2.2.2.1,d.2.2.2.2.2.1,d.2.2.2.2.2.2.1,d.2.2.2.2.2.2.2.1,((d.2.2.2.2.2.2.2.2.1,d.2.2.2.2.2.2.2.2.2.1),d.2.2.2.2.2.2.2.2.2.2.1),d.2.2.2.2.2.2.2.2.2.2.2.1,d.2.2.2.2.2.2.2.2.2.2.2.2.1),d.2.2.2.2.2.2.2.2.2.2.2.2.2.1)
def yx (x:F8×List (PN Int 6)):Int×Int×(List jr)×FD×Bool×Bool×Bool×(List A9)×(List Int)×(List Bool)×(List qj)×(List Int)×(List Bool)×(List (PN Int 6))×Unit:=(x.1.1,x.1.2.1,x.1.2.2.1,x.1.2.2.2.1,x.1.2.2.2.2.1,x.1.2.2.2.2.2.1,x.1.2.2.2.2.2.2.1,x.1.2.2.2.2.2.2.2.1,x.1.2.2.2.2.2.2.2.2.1.1.1,x.1.2.2.2.2.2.2.2.2.1.1.2,x.1.2.2.2.2.2.2.2.2.1.2,x.1.2.2.2.2.2.2.2.2.2.1,x.1.2.2.2.2.2.2.2.2.2.2,x.2,())
theorem YE (x:F8×List (PN Int 6)):uf (yx x)=x:=rfl
def aqB (k:Nat) (a:Int):Option ((EO×Unit)×Unit) :=
 mk (mn (mx a 0) 64) (mn (mx a 0) 64) 8 <|
 mk (mn (mx a 0) 64) (mn (mx a 0) 64) 1 <|
 some (((List.replicate (mn (mx a 0) 64).toNat (0:Int),List.replicate (mn (mx a 0) 64).toNat (false:Bool)),()),())
def F164:Fn:=⟨[au],[UD],fun k x=>aqB k x.1⟩
theorem ok164:O 164 F164:=okF aj [] On Tryz.func164 rfl
def S86 (k:Nat):Option PZ :=
 (aqB k 12).bind fun q0 =>
 mk 12 12 128 <|
 some (((q0.1.1,List.replicate 12 (bf:YH)),()),())
def F86:Fn:=⟨[],[acB],fun k x=>S86 k ⟩
theorem ok86:O 86 F86:=okF (ah ok164 aj) [] On Tryz.func86 rfl
def S87 (k:Nat) (a:Int):Option ((EO×Unit)×Unit) :=
 mk (mn (mx a 0) 65536) (mn (mx a 0) 65536) 8 <|
 mk (mn (mx a 0) 65536) (mn (mx a 0) 65536) 1 <|
 some (((List.replicate (mn (mx a 0) 65536).toNat (0:Int),List.replicate (mn (mx a 0) 65536).toNat (false:Bool)),()),())
def F87:Fn:=⟨[au],[UD],fun k x=>S87 k x.1⟩
theorem ok87:O 87 F87:=okF aj [] On Tryz.func87 rfl
def S36 (k:Nat) (a:Int):Option ((F8×Bool×Unit)×Unit) :=
 (bif decide (a<1) then
  some (((0,0,[],[],false,false,false,[],(([],[]),[]),[],[]),false,()),())
 else
  (bif decide (a>4611686018427387904) then
   some (((0,0,[],[],false,false,false,[],(([],[]),[]),[],[]),false,()),())
  else
   (S86 k).bind fun q0 =>
   (S87 k 0).bind fun q1 =>
   some (((0,a,[],[],false,false,false,[],q0.1.1,q1.1.1),true,()),())))
def F36:Fn:=⟨[au],[acC,rB],fun k x=>S36 k x.1⟩
theorem ok36:O 36 F36:=okF (ah ok86 <| ah ok87 aj) [] On Tryz.func36 rfl
def KX (k:Nat) (a:Int):Option j3 :=
 (bif decide (a≥0) then
  some ((decide (a<8),()),())
 else
  some ((false,()),()))
def F264:Fn:=⟨[au],[rB],fun k x=>KX k x.1⟩
theorem ok264:O 264 F264:=okF aj [] On Tryz.func264 rfl
def Q7 (k:Nat) (a b c:Int):Option j3 :=
 (bif decide (a≥b) then
  some ((decide (a <= c),()),())
 else
  some ((false,()),()))
def F265:Fn:=⟨[au,au,au],[rB],fun k (a,b,c,_)=>Q7 k a b c⟩
theorem ok265:O 265 F265:=okF aj [] On Tryz.func265 rfl
def ahF (k:Nat) (a:Int×Int×Int×Int):Option j3 :=
 (bif a.1==0 then
  (bif a.2.1==0 then
   (bif a.2.2.1==0 then
    some ((a.2.2.2==0,()),())
   else
    some ((false,()),()))
  else
   some ((false,()),()))
 else
  (bif a.1==11 then
   (bif a.2.1==0 then
    (bif a.2.2.1==0 then
     some ((a.2.2.2==0,()),())
    else
     some ((false,()),()))
   else
    some ((false,()),()))
  else
   (bif a.1==1 then
    (KX k a.2.1).bind fun q0 =>
    (bif q0.1.1 then
     (bif a.2.2.1==0 then
      (Q7 k a.2.2.2 (-2147483648) 2147483647).bind fun q1 =>
      some ((q1.1.1,()),())
     else
      some ((false,()),()))
    else
     some ((false,()),()))
   else
    (bif a.1==2 then
     (KX k a.2.1).bind fun q2 =>
     (bif q2.1.1 then
      (KX k a.2.2.1).bind fun q3 =>
      (bif q3.1.1 then
       some ((a.2.2.2==0,()),())
      else
       some ((false,()),()))
     else
      some ((false,()),()))
    else
     (bif a.1==3 then
      (KX k a.2.1).bind fun q4 =>
      (bif q4.1.1 then
       (KX k a.2.2.1).bind fun q5 =>
       (bif q5.1.1 then
        some ((a.2.2.2==0,()),())
       else
        some ((false,()),()))
      else
       some ((false,()),()))
     else
      (bif a.1==4 then
       (KX k a.2.1).bind fun q6 =>
       (bif q6.1.1 then
        (KX k a.2.2.1).bind fun q7 =>
        (bif q7.1.1 then
         some ((a.2.2.2==0,()),())
        else
         some ((false,()),()))
       else
        some ((false,()),()))
      else
       (bif a.1==5 then
        (KX k a.2.1).bind fun q8 =>
        (bif q8.1.1 then
         (bif a.2.2.1==0 then
          (Q7 k a.2.2.2 (-63) 63).bind fun q9 =>
          some ((q9.1.1,()),())
         else
          some ((false,()),()))
        else
         some ((false,()),()))
       else
        (bif a.1==6 then
         (KX k a.2.1).bind fun q10 =>
         (bif q10.1.1 then
          (bif a.2.2.1==0 then
           (Q7 k a.2.2.2 1 64).bind fun TU =>
           some ((TU.1.1,()),())
          else
           some ((false,()),()))
         else
          some ((false,()),()))
        else
         (bif a.1==7 then
          (KX k a.2.1).bind fun FE =>
          (bif FE.1.1 then
           (bif a.2.2.1==0 then
            (Q7 k a.2.2.2 1 24).bind fun YZ =>
            some ((YZ.1.1,()),())
           else
            some ((false,()),()))
          else
           some ((false,()),()))
         else
          (bif a.1==8 then
           (bif a.2.1==0 then
            (Q7 k a.2.2.1 1 24).bind fun q14 =>
            (bif q14.1.1 then
             (Q7 k a.2.2.2 1 20).bind fun q15 =>
             some ((q15.1.1,()),())
            else
             some ((false,()),()))
           else
            some ((false,()),()))
          else
           (bif a.1==9 then
            (Q7 k a.2.1 0 3).bind fun q16 =>
            (bif q16.1.1 then
             (bif a.2.2.1==0 then
              some ((a.2.2.2==0,()),())
             else
              some ((false,()),()))
            else
             some ((false,()),()))
           else
            (bif a.1==10 then
             (Q7 k a.2.1 0 3).bind fun q17 =>
             (bif q17.1.1 then
              (bif a.2.2.1==0 then
               some ((a.2.2.2==0,()),())
              else
               some ((false,()),()))
             else
              some ((false,()),()))
            else
             some ((false,()),())))))))))))))
def F188:Fn:=⟨[agf],[rB],fun k x=>ahF k x.1⟩
theorem ok188:O 188 F188:=okF (ah ok264 <| ah ok265 aj) [] On Tryz.func188 rfl
def aoP (k:Nat) (a:Int×Int×Int×Int):Option j3 :=
 (ahF k a).bind fun q0 =>
 some ((!q0.1.1,()),())
def F187:Fn:=⟨[agf],[rB],fun k x=>aoP k x.1⟩
theorem ok187:O 187 F187:=okF (ah ok188 aj) [] On Tryz.func187 rfl
abbrev acE:Cut:=⟨[0,1,7,8],[.cell p9,.lJ 187 [],cI,cI],[],19,[]⟩
def Wn (k:Nat) (g2:(List jl) -> Int -> Int -> Option jk) (a:List jl) (b c:Int):Option jk :=
 (bif decide (c<b) then
  ix a c <|
  (aoP k (rd a c (0,0,0,0))).bind fun q0 =>
  (bif q0.1.1 then
   some ((c,()),())
  else
   g2 a b (IntKind.i64.wrap (c+1)))
 else
  some (((-1),()),()))
def ahH (k:Nat):Xx (ahA):=eu (dw (dh (dw (dh (dh dx))))) (Wn k)
def KY (k a:Nat) (b:List jl) (c e:Int):Option jk:=iter acE (ahH k) a ((),b,(),c,e,())
theorem Z0 (k a b c e):KY k (a+1) b c e=Wn k (KY k a) b c e:=Ba _ _ _ _
def alj (k:Nat) (a:List jl):Option jk :=
 KY k k a (a.length:Int) 0
def F130:Fn:=⟨[DL,.pv (.lJ 187 [])],[rI],fun k x=>alj k x.1⟩
theorem ok130:O 130 F130:=okF (ah ok187 aj) [] (fun k=>(.loop 2 acE (ahH k) (fun g=>.nil) .nil)) Tryz.func130 rfl
def S57 (k:Nat) (a:List jl):Option j3 :=
 (alj k a).bind fun q0 =>
 some ((decide (q0.1.1≥0),()),())
def F57:Fn:=⟨[DL,.pv (.lJ 187 [])],[rB],fun k x=>S57 k x.1⟩
theorem ok57:O 57 F57:=okF (ah ok130 aj) [] On Tryz.func57 rfl
def aoQ (k:Nat) (a:Int×Int×Int×Int):Option j3 :=
 some ((a.1==0,()),())
def F189:Fn:=⟨[agf],[rB],fun k x=>aoQ k x.1⟩
theorem ok189:O 189 F189:=okF aj [] On Tryz.func189 rfl
abbrev Z4:Cut:=⟨[0,1,7,8],[.cell p9,.lJ 189 [],cI,cI],[],19,[]⟩
def OE (k:Nat) (g2:(List jl) -> Int -> Int -> Option jk) (a:List jl) (b c:Int):Option jk :=
 (bif decide (c<b) then
  ix a c <|
  (aoQ k (rd a c (0,0,0,0))).bind fun q0 =>
  (bif q0.1.1 then
   some ((c,()),())
  else
   g2 a b (IntKind.i64.wrap (c+1)))
 else
  some (((-1),()),()))
def acF (k:Nat):Xx (ahA):=eu (dw (dh (dw (dh (dh dx))))) (OE k)
def G7 (k a:Nat) (b:List jl) (c e:Int):Option jk:=iter Z4 (acF k) a ((),b,(),c,e,())
theorem UF (k a b c e):G7 k (a+1) b c e=OE k (G7 k a) b c e:=Ba _ _ _ _
def acG (k:Nat) (a:List jl):Option jk :=
 G7 k k a (a.length:Int) 0
def F130a:Fn:=⟨[DL,.pv (.lJ 189 [])],[rI],fun k x=>acG k x.1⟩
theorem ok130a:O 130 F130a:=okF (ah ok189 aj) [] (fun k=>(.loop 2 Z4 (acF k) (fun g=>.nil) .nil)) Tryz.func130 rfl
abbrev acH:Cut:=⟨[2,5,6,7],[.own 365 EL,.cell p9,cI,cI],[],42,[]⟩
def Wo (k:Nat) (g2:um -> (List jl) -> Int -> Int -> Option ((um×Unit)×Unit)) (a:List qd) (b:List jl) (c e:Int):Option ((um×Unit)×Unit) :=
 (bif decide (e<c) then
  ix b e <|
  (bif (rd b e (0,0,0,0)).1==8 then
   ap a ([(IntKind.i64.wrap (e+1),IntKind.i64.wrap (e+(rd b e (0,0,0,0)).2.2.1),e,true)]:List qd) 32 fun r0 =>
   g2 r0 b c (IntKind.i64.wrap (e+1))
  else
   (bif (rd b e (0,0,0,0)).1==7 then
    ap a ([(IntKind.i64.wrap (e+1),IntKind.i64.wrap (e+(rd b e (0,0,0,0)).2.2.2),e,false)]:List qd) 32 fun r1 =>
    g2 r1 b c (IntKind.i64.wrap (e+1))
   else
    g2 a b c (IntKind.i64.wrap (e+1))))
 else
  some ((a,()),()))
def ahI (k:Nat):Xx (((Unit)×um×(List jl)×Int×Int×Unit) -> Option ((um×Unit)×Unit)):=eu (dw (dh (dh (dh (dh dx))))) (Wo k)
def KZ (k a:Nat) (b:List qd) (c:List jl) (e f:Int):Option ((um×Unit)×Unit):=iter acH (ahI k) a ((),b,c,e,f,())
theorem Z5 (k a b c e f):KZ k (a+1) b c e f=Wo k (KZ k a) b c e f:=Ba _ _ _ _
def ahJ (k:Nat) (a:List jl):Option ((um×Unit)×Unit) :=
 KZ k k ([]:List qd) a (a.length:Int) 0
def F266:Fn:=⟨[DL],[.val ⟨false,(.sl 365 EL),true⟩],fun k x=>ahJ k x.1⟩
theorem ok266:O 266 F266:=okF aj [(2,2)] (fun k=>(.loop 2 acH (ahI k) (fun g=>.nil) .nil)) Tryz.func266 rfl
def abH (k:Nat) (a:Int×Int×Int×Bool) (b:Int):Option j3 :=
 (bif decide (b≥a.1) then
  some ((decide (b <= a.2.1),()),())
 else
  some ((false,()),()))
def F267:Fn:=⟨[ahB,au],[rB],fun k x=>abH k x.1 x.2.1⟩
theorem ok267:O 267 F267:=okF aj [] On Tryz.func267 rfl
def Z6 (k:Nat) (a b:Int×Int×Int×Bool):Option j3 :=
 (abH k b a.1).bind fun q0 =>
 (bif q0.1.1 then
  (abH k b a.2.1).bind fun q1 =>
  some ((q1.1.1,()),())
 else
  some ((false,()),()))
def F268:Fn:=⟨[ahB,ahB],[rB],fun k x=>Z6 k x.1 x.2.1⟩
theorem ok268:O 268 F268:=okF (ah ok267 aj) [] On Tryz.func268 rfl
def ahK (k:Nat) (a b:Int×Int×Int×Bool):Option j3 :=
 (bif decide (a.2.1<b.1) then
  some ((true,()),())
 else
  some ((decide (b.2.1<a.1),()),()))
def F269:Fn:=⟨[ahB,ahB],[rB],fun k x=>ahK k x.1 x.2.1⟩
theorem ok269:O 269 F269:=okF aj [] On Tryz.func269 rfl
def aoR (k:Nat) (a:Int):Option j3 :=
 some ((decide (a>2),()),())
def F270:Fn:=⟨[au],[rB],fun k x=>aoR k x.1⟩
theorem ok270:O 270 F270:=okF aj [] On Tryz.func270 rfl
abbrev acI:Cut:=⟨[0,1,7,8],[.cell sj,.lJ 270 [],cI,cI],[],19,[]⟩
def Wp (k:Nat) (g2:(List Int) -> Int -> Int -> Option jk) (a:List Int) (b c:Int):Option jk :=
 (bif decide (c<b) then
  ix a c <|
  (aoR k (rd a c 0)).bind fun q0 =>
  (bif q0.1.1 then
   some ((c,()),())
  else
   g2 a b (IntKind.i64.wrap (c+1)))
 else
  some (((-1),()),()))
def ahL (k:Nat):Xx (((Unit)×(List Int)×Unit×Int×Int×Unit) -> Option jk):=eu (dw (dh (dw (dh (dh dx))))) (Wp k)
def L6 (k a:Nat) (b:List Int) (c e:Int):Option jk:=iter acI (ahL k) a ((),b,(),c,e,())
theorem Z7 (k a b c e):L6 k (a+1) b c e=Wp k (L6 k a) b c e:=Ba _ _ _ _
def alk (k:Nat) (a:List Int):Option jk :=
 L6 k k a (a.length:Int) 0
def F272:Fn:=⟨[Wm,.pv (.lJ 270 [])],[rI],fun k x=>alk k x.1⟩
theorem ok272:O 272 F272:=okF (ah ok270 aj) [] (fun k=>(.loop 2 acI (ahL k) (fun g=>.nil) .nil)) Tryz.func272 rfl
def alm (k:Nat) (a:List Int):Option j3 :=
 (alk k a).bind fun q0 =>
 some ((decide (q0.1.1≥0),()),())
def F193:Fn:=⟨[Wm,.pv (.lJ 270 [])],[rB],fun k x=>alm k x.1⟩
theorem ok193:O 193 F193:=okF (ah ok272 aj) [] On Tryz.func193 rfl
abbrev Z8:Cut:=⟨[0,3,4,6,9,15,16,17],[.cell p9,.cell (.sl 365 EL),.own 3 (.int .i64),.box 365 [cI,cI,cI,.cell .bool],cI,.cell (.sl 365 EL),cI,cI],[],84,[]⟩
def JH (k:Nat) (g4:NI) (g15:(List jl) -> um -> (List Int) -> Int -> Int -> Int -> Bool -> Int -> um -> Int -> Int -> Option j3) (a:List jl) (b:List qd) (c:List Int) (e f h:Int) (i:Bool) (l:Int) (m:List qd) (n o:Int):Option j3 :=
 (bif i then
  (bif decide (l <= f) then
   ix c l <|
   ix c l <|
   g15 a b (upd c l (IntKind.i64.wrap ((rd c l 0)+1))) e f h i (IntKind.i64.wrap (l+1)) m n o
  else
   g4 a b c m n (IntKind.i64.wrap (o+1)))
 else
  g4 a b c m n (IntKind.i64.wrap (o+1)))
def acJ (k:Nat) (g4:NI):Xx (((Unit)×(List jl)×um×(List Int)×ahz×Int×um×Int×Int×Unit) -> Option j3):=eu (dw (dh (dh (dh (d9 (dh (dh (dh (dh dx)))) (dh (dh (dh (dh dx))))))))) (JH k g4)
def G8 (k:Nat) (g4:NI) (a:Nat) (b:List jl) (c:List qd) (e:List Int) (f h i:Int) (l:Bool) (m:Int) (n:List qd) (o p:Int):Option j3:=iter Z8 (acJ k g4) a ((),b,c,e,(f,h,i,l,()),m,n,o,p,())
theorem L8 (k g4 a b c e f h i l m n o p):G8 k g4 (a+1) b c e f h i l m n o p=JH k g4 (G8 k g4 a) b c e f h i l m n o p:=Ba _ _ _ _
abbrev acK:Cut:=⟨[0,3,4,6,15,16,17,27,28,29],[.cell p9,.cell (.sl 365 EL),.own 3 (.int .i64),.box 365 [cI,cI,cI,.cell .bool],.cell (.sl 365 EL),cI,cI,.cell (.sl 365 EL),cI,cI],[],84,[]⟩
def Wq (k:Nat) (g4:NI) (g9:(List jl) -> um -> (List Int) -> Int -> Int -> Int -> Bool -> um -> Int -> Int -> um -> Int -> Int -> Option j3) (a:List jl) (b:List qd) (c:List Int) (e f h:Int) (i:Bool) (l:List qd) (m n:Int) (o:List qd) (p s:Int):Option j3 :=
 (bif decide (s<p) then
  ix o s <|
  (abH k (rd o s (0,0,0,false)) h).bind fun q1 =>
  (bif q1.1.1 then
   (Z6 k (e,f,h,i) (rd o s (0,0,0,false))).bind fun q2 =>
   (bif !q2.1.1 then
    some ((false,()),())
   else
    (ahK k (e,f,h,i) (rd o s (0,0,0,false))).bind fun q3 =>
    (bif !q3.1.1 then
     (Z6 k (e,f,h,i) (rd o s (0,0,0,false))).bind fun q4 =>
     (bif !q4.1.1 then
      (Z6 k (rd o s (0,0,0,false)) (e,f,h,i)).bind fun q5 =>
      (bif !q5.1.1 then
       some ((false,()),())
      else
       g9 a b c e f h i l m n o p (IntKind.i64.wrap (s+1)))
     else
      g9 a b c e f h i l m n o p (IntKind.i64.wrap (s+1)))
    else
     g9 a b c e f h i l m n o p (IntKind.i64.wrap (s+1))))
  else
   (ahK k (e,f,h,i) (rd o s (0,0,0,false))).bind fun q6 =>
   (bif !q6.1.1 then
    (Z6 k (e,f,h,i) (rd o s (0,0,0,false))).bind fun q7 =>
    (bif !q7.1.1 then
     (Z6 k (rd o s (0,0,0,false)) (e,f,h,i)).bind fun q8 =>
     (bif !q8.1.1 then
      some ((false,()),())
     else
      g9 a b c e f h i l m n o p (IntKind.i64.wrap (s+1)))
    else
     g9 a b c e f h i l m n o p (IntKind.i64.wrap (s+1)))
   else
    g9 a b c e f h i l m n o p (IntKind.i64.wrap (s+1))))
 else
  G8 k g4 k a b c e f h i e l m n)
def ahM (k:Nat) (g4:NI):Xx (((Unit)×(List jl)×um×(List Int)×ahz×um×Int×Int×um×Int×Int×Unit) -> Option j3):=eu (dw (dh (dh (dh (d9 (dh (dh (dh (dh dx)))) (dh (dh (dh (dh (dh (dh dx))))))))))) (Wq k g4)
def Ws (k:Nat) (g4:NI) (a:Nat) (b:List jl) (c:List qd) (e:List Int) (f h i:Int) (l:Bool) (m:List qd) (n o:Int) (p:List qd) (s t:Int):Option j3:=iter acK (ahM k g4) a ((),b,c,e,(f,h,i,l,()),m,n,o,p,s,t,())
theorem Z9 (k g4 a b c e f h i l m n o p s t):Ws k g4 (a+1) b c e f h i l m n o p s t=Wq k g4 (Ws k g4 a) b c e f h i l m n o p s t:=Ba _ _ _ _
abbrev acL:Cut:=⟨[0,3,4,15,16,17],[.cell p9,.cell (.sl 365 EL),.own 3 (.int .i64),.cell (.sl 365 EL),cI,cI],[],84,[]⟩
def Wt (k:Nat) (g4:NI) (a:List jl) (b:List qd) (c:List Int) (e:List qd) (f h:Int):Option j3 :=
 (bif decide (h<f) then
  ix e h <|
  (bif decide ((rd e h (0,0,0,false)).2.1≥(IntKind.i64.wrap ((a.length:Int) - 1))) then
   some ((false,()),())
  else
   Ws k g4 k a b c (rd e h (0,0,0,false)).1 (rd e h (0,0,0,false)).2.1 (rd e h (0,0,0,false)).2.2.1 (rd e h (0,0,0,false)).2.2.2 e f h b (b.length:Int) 0)
 else
  (alm k c).bind fun q9 =>
  some ((!q9.1.1,()),()))
def ahN (k:Nat):Xx (((Unit)×(List jl)×um×(List Int)×um×Int×Int×Unit) -> Option j3):=eu (dw (dh (dh (dh (dh (dh (dh dx))))))) (Wt k)
def Q8 (k a:Nat) (b:List jl) (c:List qd) (e:List Int) (f:List qd) (h i:Int):Option j3:=iter acL (ahN k) a ((),b,c,e,f,h,i,())
theorem Za (k a b c e f h i):Q8 k (a+1) b c e f h i=Wt k (Q8 k a) b c e f h i:=Ba _ _ _ _
def aln (k:Nat) (a:List jl):Option j3 :=
 (ahJ k a).bind fun q0 =>
 mk (a.length:Int) (a.length:Int) 8 <|
 Q8 k k a q0.1.1 (List.replicate (a.length:Int).toNat (0:Int)) q0.1.1 (q0.1.1.length:Int) 0
def F190:Fn:=⟨[DL],[rB],fun k x=>aln k x.1⟩
theorem ok190:O 190 F190:=okF (ah ok193 <| ah ok266 <| ah ok267 <| ah ok268 <| ah ok269 aj) [] (fun k=>(.loop 4 acL (ahN k) (fun g=>(fun (g4:NI)=>(.loop 15 Z8 (acJ k g4) (fun g=>.nil) (.loop 9 acK (ahM k g4) (fun g=>.nil) .nil))) (fun l_1 all around t15 t16 t17=>g ((),l_1,all,around,t15,t16,t17,()))) .nil)) Tryz.func190 rfl
abbrev acM:Cut:=⟨[0,3,4,5,11,12,13,19,20],[.cell p9,.own 286 BD,cI,.box 365 [cI,cI,cI,.cell .bool],.own 365 EL,cI,cI,cI,cI],[],38,[]⟩
def Wu (k:Nat) (g3:YI) (g6:(List jl) -> EM -> Int -> Int -> Int -> Int -> Bool -> um -> Int -> Int -> Int -> Int -> Option NJ) (a:List jl) (b:List BF) (c e f h:Int) (i:Bool) (l:List qd) (m n o p:Int):Option NJ :=
 (bif decide (p<o) then
  (bif decide (c<24) then
   (abH k (e,f,h,i) p).bind fun q1 =>
   (bif q1.1.1 then
    ix b p <|
    ax 24 c <|
    g6 a (upd b p (Ur (α:=Bool) 24 (rd b p (Qn (α:=Bool) 24 false)) c true)) c e f h i l m n o (IntKind.i64.wrap (p+1))
   else
    g6 a b c e f h i l m n o (IntKind.i64.wrap (p+1)))
  else
   g6 a b c e f h i l m n o (IntKind.i64.wrap (p+1)))
 else
  g3 a b l m (IntKind.i64.wrap (n+1)))
def ahP (k:Nat) (g3:YI):Xx (((Unit)×(List jl)×EM×Int×ahz×um×Int×Int×Int×Int×Unit) -> Option NJ):=eu (dw (dh (dh (dh (d9 (dh (dh (dh (dh dx)))) (dh (dh (dh (dh (dh dx)))))))))) (Wu k g3)
def Wv (k:Nat) (g3:YI) (a:Nat) (b:List jl) (c:List BF) (e f h i:Int) (l:Bool) (m:List qd) (n o p s:Int):Option NJ:=iter acM (ahP k g3) a ((),b,c,e,(f,h,i,l,()),m,n,o,p,s,())
theorem Zb (k g3 a b c e f h i l m n o p s):Wv k g3 (a+1) b c e f h i l m n o p s=Wu k g3 (Wv k g3 a) b c e f h i l m n o p s:=Ba _ _ _ _
abbrev acN:Cut:=⟨[0,3,11,12,13],[.cell p9,.own 286 BD,.own 365 EL,cI,cI],[],38,[]⟩
def Ww (k:Nat) (g3:YI) (a:List jl) (b:List BF) (c:List qd) (e f:Int):Option NJ :=
 (bif decide (f<e) then
  ix c f <|
  Wv k g3 k a b f (rd c f (0,0,0,false)).1 (rd c f (0,0,0,false)).2.1 (rd c f (0,0,0,false)).2.2.1 (rd c f (0,0,0,false)).2.2.2 c e f (a.length:Int) 0
 else
  some ((b,()),()))
def ahQ (k:Nat):Xx (((Unit)×(List jl)×EM×um×Int×Int×Unit) -> Option NJ):=eu (dw (dh (dh (dh (dh (dh dx)))))) (Ww k)
def Q9 (k a:Nat) (b:List jl) (c:List BF) (e:List qd) (f h:Int):Option NJ:=iter acN (ahQ k) a ((),b,c,e,f,h,())
theorem Zc (k a b c e f h):Q9 k (a+1) b c e f h=Ww k (Q9 k a) b c e f h:=Ba _ _ _ _
def ahR (k:Nat) (a:List jl):Option NJ :=
 mk (a.length:Int) (a.length:Int) 24 <|
 (ahJ k a).bind fun q0 =>
 Q9 k k a (List.replicate (a.length:Int).toNat (Qn (α:=Bool) 24 false:PN Bool 24)) q0.1.1 (q0.1.1.length:Int) 0
def F192:Fn:=⟨[DL],[.val ⟨false,(.sl 286 BD),true⟩],fun k x=>ahR k x.1⟩
theorem ok192:O 192 F192:=okF (ah ok266 <| ah ok267 aj) [] (fun k=>(.loop 3 acN (ahQ k) (fun g=>(fun (g3:YI)=>(.loop 6 acM (ahP k g3) (fun g=>.nil) .nil)) (fun l_1 out t11 t12 t13=>g ((),l_1,out,t11,t12,t13,()))) .nil)) Tryz.func192 rfl
def aoS (k:Nat) (a:Int) (b:List jl) (c:Int):Option j3 :=
 ix b a <|
 ix b c <|
 some (((rd b a (0,0,0,0)).2.1==(rd b c (0,0,0,0)).2.1,()),())
def F271:Fn:=⟨[au,.pv (.ref p9),YX],[rB],fun k (a,b,c,_)=>aoS k a b c⟩
theorem ok271:O 271 F271:=okF aj [] On Tryz.func271 rfl
abbrev Zd:Cut:=⟨[0,1,7,8],[.cell sj,.lJ 271 [.ref p9,.ref (.int .i64)],cI,cI],[],19,[]⟩
def OG (k:Nat) (g2:(List Int) -> (List jl) -> Int -> Int -> Int -> Option jk) (a:List Int) (b:List jl) (c e f:Int):Option jk :=
 (bif decide (f<e) then
  ix a f <|
  (aoS k (rd a f 0) b c).bind fun q0 =>
  (bif q0.1.1 then
   some ((f,()),())
  else
   g2 a b c e (IntKind.i64.wrap (f+1)))
 else
  some (((-1),()),()))
def acO (k:Nat):Xx (((Unit)×(List Int)×((List jl)×Int×Unit)×Int×Int×Unit) -> Option jk):=eu (dw (dh (d9 (dh (dh dx)) (dh (dh dx))))) (OG k)
def DN (k a:Nat) (b:List Int) (c:List jl) (e f h:Int):Option jk:=iter Zd (acO k) a ((),b,(c,e,()),f,h,())
theorem UG (k a b c e f h):DN k (a+1) b c e f h=OG k (DN k a) b c e f h:=Ba _ _ _ _
def ahS (k:Nat) (a:List Int) (b:List jl) (c:Int):Option jk :=
 DN k k a b c (a.length:Int) 0
def F272a:Fn:=⟨[Wm,aqz],[rI],fun k (a,(b,c,_),_)=>ahS k a b c⟩
theorem ok272a:O 272 F272a:=okF (ah ok271 aj) [] (fun k=>(.loop 2 Zd (acO k) (fun g=>.nil) .nil)) Tryz.func272 rfl
def acP (k:Nat) (a:List Int) (b:List jl) (c:Int):Option j3 :=
 (ahS k a b c).bind fun q0 =>
 some ((decide (q0.1.1≥0),()),())
def F193a:Fn:=⟨[Wm,aqz],[rB],fun k (a,(b,c,_),_)=>acP k a b c⟩
theorem ok193a:O 193 F193a:=okF (ah ok272a aj) [] On Tryz.func193 rfl
abbrev alp:Cut:=⟨[1,4,5,6,7,8,9,20,21,22],[.box 52 [.cell p9],.own 3 (.int .i64),.own 3 (.int .i64),.mp 367 true BD false (.int .i64),.cell (.sl 286 BD),.box 3 [cI],.box 286 [.cell .bool,.cell .bool,.cell .bool,.cell .bool,.cell .bool,.cell .bool,.cell .bool,.cell .bool,.cell .bool,.cell .bool,.cell .bool,.cell .bool,.cell .bool,.cell .bool,.cell .bool,.cell .bool,.cell .bool,.cell .bool,.cell .bool,.cell .bool,.cell .bool,.cell .bool,.cell .bool,.cell .bool],.cell (.sl 286 BD),cI,cI],[],110,[]⟩
def QA (k:Nat) (g3:ahx) (a:List jl) (b c:List Int) (e:List (BF×Int)) (f:List BF) (h:Int) (x i l m n o p s t u v w y z A B C D G H I J K M:Bool) (N:List BF) (O P:Int):Option YQ :=
 ix a h <|
 (bif (rd a h (0,0,0,0)).1==9 then
  (bif decide ((c.length:Int)≥2) then
   some (([],false,()),())
  else
   (acP k c a h).bind fun q1 =>
   (bif q1.1.1 then
    some (([],false,()),())
   else
    ap c ([h]:List Int) 8 fun r2 =>
    g3 a b r2 e f N O (IntKind.i64.wrap (P+1))))
 else
  (bif (rd a h (0,0,0,0)).1==10 then
   (bif decide ((IntKind.i64.wrap ((c.length:Int) - 1))<0) then
    some (([],false,()),())
   else
    ix c (IntKind.i64.wrap ((c.length:Int) - 1)) <|
    ix a (rd c (IntKind.i64.wrap ((c.length:Int) - 1)) 0) <|
    ix a h <|
    (bif (rd a (rd c (IntKind.i64.wrap ((c.length:Int) - 1)) 0) (0,0,0,0)).2.1 != (rd a h (0,0,0,0)).2.1 then
     some (([],false,()),())
    else
     ix c (IntKind.i64.wrap ((c.length:Int) - 1)) <|
     ix f (rd c (IntKind.i64.wrap ((c.length:Int) - 1)) 0) <|
     (bif (Us BD (.int .i64) (rd f (rd c (IntKind.i64.wrap ((c.length:Int) - 1)) 0) (Qn (α:=Bool) 24 false)) e 0) != (Us BD (.int .i64) (x,i,l,m,n,o,p,s,t,u,v,w,y,z,A,B,C,D,G,H,I,J,K,M) e 0) then
      some (([],false,()),())
     else
      ix c (IntKind.i64.wrap ((c.length:Int) - 1)) <|
      ix b (rd c (IntKind.i64.wrap ((c.length:Int) - 1)) 0) <|
      sx c 0 (IntKind.i64.wrap ((c.length:Int) - 1)) <|
      g3 a (upd b (rd c (IntKind.i64.wrap ((c.length:Int) - 1)) 0) h) (c.take (IntKind.i64.wrap ((c.length:Int) - 1)).toNat) e f N O (IntKind.i64.wrap (P+1)))))
  else
   g3 a b c e f N O (IntKind.i64.wrap (P+1))))
abbrev acQ:Cut:=⟨[1,4,5,6,7,20,21,22],[.box 52 [.cell p9],.own 3 (.int .i64),.own 3 (.int .i64),.mp 367 true BD false (.int .i64),.cell (.sl 286 BD),.cell (.sl 286 BD),cI,cI],[],110,[]⟩
def Wx (k:Nat) (g3:ahx) (a:List jl) (b c:List Int) (e:List (BF×Int)) (f h:List BF) (i l:Int):Option YQ :=
 (bif decide (l<i) then
  ix h l <|
  (bif !(Ut BD (.int .i64) (rd h l (Qn (α:=Bool) 24 false)) e) then
   QA k g3 a b c (vL BD (.int .i64) (rd h l (Qn (α:=Bool) 24 false)) l e) f l (rd h l (Qn (α:=Bool) 24 false)).1 (rd h l (Qn (α:=Bool) 24 false)).2.1 (rd h l (Qn (α:=Bool) 24 false)).2.2.1 (rd h l (Qn (α:=Bool) 24 false)).2.2.2.1 (rd h l (Qn (α:=Bool) 24 false)).2.2.2.2.1 (rd h l (Qn (α:=Bool) 24 false)).2.2.2.2.2.1 (rd h l (Qn (α:=Bool) 24 false)).2.2.2.2.2.2.1 (rd h l (Qn (α:=Bool) 24 false)).2.2.2.2.2.2.2.1 (rd h l (Qn (α:=Bool) 24 false)).2.2.2.2.2.2.2.2.1 (rd h l (Qn (α:=Bool) 24 false)).2.2.2.2.2.2.2.2.2.1 (rd h l (Qn (α:=Bool) 24 false)).2.2.2.2.2.2.2.2.2.2.1 (rd h l (Qn (α:=Bool) 24 false)).2.2.2.2.2.2.2.2.2.2.2.1 (rd h l (Qn (α:=Bool) 24 false)).2.2.2.2.2.2.2.2.2.2.2.2.1 (rd h l (Qn (α:=Bool) 24 false)).2.2.2.2.2.2.2.2.2.2.2.2.2.1 (rd h l (Qn (α:=Bool) 24 false)).2.2.2.2.2.2.2.2.2.2.2.2.2.2.1 (rd h l (Qn (α:=Bool) 24 false)).2.2.2.2.2.2.2.2.2.2.2.2.2.2.2.1 (rd h l (Qn (α:=Bool) 24 false)).2.2.2.2.2.2.2.2.2.2.2.2.2.2.2.2.1 (rd h l (Qn (α:=Bool) 24 false)).2.2.2.2.2.2.2.2.2.2.2.2.2.2.2.2.2.1 (rd h l (Qn (α:=Bool) 24 false)).2.2.2.2.2.2.2.2.2.2.2.2.2.2.2.2.2.2.1 (rd h l (Qn (α:=Bool) 24 false)).2.2.2.2.2.2.2.2.2.2.2.2.2.2.2.2.2.2.2.1 (rd h l (Qn (α:=Bool) 24 false)).2.2.2.2.2.2.2.2.2.2.2.2.2.2.2.2.2.2.2.2.1 (rd h l (Qn (α:=Bool) 24 false)).2.2.2.2.2.2.2.2.2.2.2.2.2.2.2.2.2.2.2.2.2.1 (rd h l (Qn (α:=Bool) 24 false)).2.2.2.2.2.2.2.2.2.2.2.2.2.2.2.2.2.2.2.2.2.2.1 (rd h l (Qn (α:=Bool) 24 false)).2.2.2.2.2.2.2.2.2.2.2.2.2.2.2.2.2.2.2.2.2.2.2 h i l
  else
   QA k g3 a b c e f l (rd h l (Qn (α:=Bool) 24 false)).1 (rd h l (Qn (α:=Bool) 24 false)).2.1 (rd h l (Qn (α:=Bool) 24 false)).2.2.1 (rd h l (Qn (α:=Bool) 24 false)).2.2.2.1 (rd h l (Qn (α:=Bool) 24 false)).2.2.2.2.1 (rd h l (Qn (α:=Bool) 24 false)).2.2.2.2.2.1 (rd h l (Qn (α:=Bool) 24 false)).2.2.2.2.2.2.1 (rd h l (Qn (α:=Bool) 24 false)).2.2.2.2.2.2.2.1 (rd h l (Qn (α:=Bool) 24 false)).2.2.2.2.2.2.2.2.1 (rd h l (Qn (α:=Bool) 24 false)).2.2.2.2.2.2.2.2.2.1 (rd h l (Qn (α:=Bool) 24 false)).2.2.2.2.2.2.2.2.2.2.1 (rd h l (Qn (α:=Bool) 24 false)).2.2.2.2.2.2.2.2.2.2.2.1 (rd h l (Qn (α:=Bool) 24 false)).2.2.2.2.2.2.2.2.2.2.2.2.1 (rd h l (Qn (α:=Bool) 24 false)).2.2.2.2.2.2.2.2.2.2.2.2.2.1 (rd h l (Qn (α:=Bool) 24 false)).2.2.2.2.2.2.2.2.2.2.2.2.2.2.1 (rd h l (Qn (α:=Bool) 24 false)).2.2.2.2.2.2.2.2.2.2.2.2.2.2.2.1 (rd h l (Qn (α:=Bool) 24 false)).2.2.2.2.2.2.2.2.2.2.2.2.2.2.2.2.1 (rd h l (Qn (α:=Bool) 24 false)).2.2.2.2.2.2.2.2.2.2.2.2.2.2.2.2.2.1 (rd h l (Qn (α:=Bool) 24 false)).2.2.2.2.2.2.2.2.2.2.2.2.2.2.2.2.2.2.1 (rd h l (Qn (α:=Bool) 24 false)).2.2.2.2.2.2.2.2.2.2.2.2.2.2.2.2.2.2.2.1 (rd h l (Qn (α:=Bool) 24 false)).2.2.2.2.2.2.2.2.2.2.2.2.2.2.2.2.2.2.2.2.1 (rd h l (Qn (α:=Bool) 24 false)).2.2.2.2.2.2.2.2.2.2.2.2.2.2.2.2.2.2.2.2.2.1 (rd h l (Qn (α:=Bool) 24 false)).2.2.2.2.2.2.2.2.2.2.2.2.2.2.2.2.2.2.2.2.2.2.1 (rd h l (Qn (α:=Bool) 24 false)).2.2.2.2.2.2.2.2.2.2.2.2.2.2.2.2.2.2.2.2.2.2.2 h i l)
 else
  (bif decide ((c.length:Int)>0) then
   some (([],false,()),())
  else
   some ((b,true,()),())))
def ahT (k:Nat):Xx (((Unit)×((List jl)×Unit)×(List Int)×(List Int)×(List (BF×Int))×EM×EM×Int×Int×Unit) -> Option YQ):=eu (dw (d9 (dh dx) (dh (dh (dh (dh (dh (dh (dh dx))))))))) (Wx k)
def L9 (k a:Nat) (b:List jl) (c e:List Int) (f:List (BF×Int)) (h i:List BF) (l m:Int):Option YQ:=iter acQ (ahT k) a ((),(b,()),c,e,f,h,i,l,m,())
theorem Ze (k a b c e f h i l m):L9 k (a+1) b c e f h i l m=Wx k (L9 k a) b c e f h i l m:=Ba _ _ _ _
def ahU (k:Nat) (a:List jl):Option YQ :=
 mk (a.length:Int) (a.length:Int) 8 <|
 (ahR k a).bind fun q0 =>
 L9 k k a (List.replicate (a.length:Int).toNat (0:Int)) ([]:List Int) ([]:List (BF×Int)) q0.1.1 q0.1.1 (q0.1.1.length:Int) 0
def F191:Fn:=⟨[DL],[ahC,rB],fun k x=>ahU k x.1⟩
theorem ok191:O 191 F191:=okF (ah ok192 <| ah ok193a aj) [(104,1)] (fun k=>(.loop 3 acQ (ahT k) (fun g=>(fun (g3:ahx)=>(.join 8 alp (fun (_,(a,_),b,c,e,f,(h,_),(i,l,m,n,o,p,s,t,u,v,w,y,z,A,B,C,D,G,H,I,J,K,M,N,_),O,P,Q,_)=>QA k g3 a b c e f h i l m n o p s t u v w y z A B C D G H I J K M N O P Q) .nil)) (fun l_1 out open_ same all t20 t21 t22=>g ((),(l_1,()),out,open_,same,all,t20,t21,t22,()))) .nil)) Tryz.func191 rfl
def aoT (k:Nat) (a b:Int):Option j3 :=
 some ((decide (a>b),()),())
def F194:Fn:=⟨[au,YX],[rB],fun k x=>aoT k x.1 x.2.1⟩
theorem ok194:O 194 F194:=okF aj [] On Tryz.func194 rfl
abbrev Zf:Cut:=⟨[0,1,7,8],[.cell sj,.lJ 194 [.ref (.int .i64)],cI,cI],[],19,[]⟩
def OH (k:Nat) (g2:(List Int) -> Int -> Int -> Int -> Option jk) (a:List Int) (b c e:Int):Option jk :=
 (bif decide (e<c) then
  ix a e <|
  (aoT k (rd a e 0) b).bind fun q0 =>
  (bif q0.1.1 then
   some ((e,()),())
  else
   g2 a b c (IntKind.i64.wrap (e+1)))
 else
  some (((-1),()),()))
def acR (k:Nat):Xx (((Unit)×(List Int)×YP×Int×Int×Unit) -> Option jk):=eu (dw (dh (d9 (dh dx) (dh (dh dx))))) (OH k)
def DR (k a:Nat) (b:List Int) (c e f:Int):Option jk:=iter Zf (acR k) a ((),b,(c,()),e,f,())
theorem UH (k a b c e f):DR k (a+1) b c e f=OH k (DR k a) b c e f:=Ba _ _ _ _
def ahV (k:Nat) (a:List Int) (b:Int):Option jk :=
 DR k k a b (a.length:Int) 0
def F272b:Fn:=⟨[Wm,.pv (.lJ 194 [.ref (.int .i64)])],[rI],fun k x=>ahV k x.1 x.2.1.1⟩
theorem ok272b:O 272 F272b:=okF (ah ok194 aj) [] (fun k=>(.loop 2 Zf (acR k) (fun g=>.nil) .nil)) Tryz.func272 rfl
def acS (k:Nat) (a:List Int) (b:Int):Option j3 :=
 (ahV k a b).bind fun q0 =>
 some ((decide (q0.1.1≥0),()),())
def F193b:Fn:=⟨[Wm,.pv (.lJ 194 [.ref (.int .i64)])],[rB],fun k x=>acS k x.1 x.2.1.1⟩
theorem ok193b:O 193 F193b:=okF (ah ok272b aj) [] On Tryz.func193 rfl
abbrev Zg:Cut:=⟨[4,6,42,43,44],[.own 3 (.int .i64),.own 286 BD,.cell p9,cI,cI],[],66,[]⟩
def OI (k:Nat) (g11:(List Int) -> EM -> (List jl) -> Int -> Int -> Option j3) (a:List Int) (b:List BF) (c:List jl) (e f:Int):Option j3 :=
 (bif decide (f<e) then
  ix c f <|
  (bif (rd c f (0,0,0,0)).1 != 11 then
   g11 a b c e (IntKind.i64.wrap (f+1))
  else
   ix b f <|
   (bif !(fC BD (rd b f (Qn (α:=Bool) 24 false)) (false,false,false,false,false,false,false,false,false,false,false,false,false,false,false,false,false,false,false,false,false,false,false,false)) then
    some ((false,()),())
   else
    sx a 0 f <|
    (acS k (sub a 0 f) f).bind fun q5 =>
    (bif q5.1.1 then
     some ((false,()),())
    else
     g11 a b c e (IntKind.i64.wrap (f+1)))))
 else
  some ((true,()),()))
def acT (k:Nat):Xx (((Unit)×(List Int)×EM×(List jl)×Int×Int×Unit) -> Option j3):=eu (dw (dh (dh (dh (dh (dh dx)))))) (OI k)
def DT (k a:Nat) (b:List Int) (c:List BF) (e:List jl) (f h:Int):Option j3:=iter Zg (acT k) a ((),b,c,e,f,h,())
theorem UJ (k a b c e f h):DT k (a+1) b c e f h=OI k (DT k a) b c e f h:=Ba _ _ _ _
def agj (k:Nat) (a:List jl):Option j3 :=
 (bif decide ((a.length:Int)<1) then
  some ((false,()),())
 else
  (bif decide ((a.length:Int)>24) then
   some ((false,()),())
  else
   (S57 k a).bind fun q0 =>
   (bif q0.1.1 then
    some ((false,()),())
   else
    (acG k a).bind fun q1 =>
    (bif q1.1.1 != (IntKind.i64.wrap ((a.length:Int) - 1)) then
     some ((false,()),())
    else
     (aln k a).bind fun q2 =>
     (bif !q2.1.1 then
      some ((false,()),())
     else
      (ahU k a).bind fun q3 =>
      (bif !q3.1.2.1 then
       some ((false,()),())
      else
       (ahR k a).bind fun q4 =>
       DT k k q3.1.1 q4.1.1 a (a.length:Int) 0))))))
def F108:Fn:=⟨[DL],[rB],fun k x=>agj k x.1⟩
theorem ok108:O 108 F108:=okF (ah ok57 <| ah ok130a <| ah ok190 <| ah ok191 <| ah ok192 <| ah ok193b aj) [] (fun k=>(.loop 11 Zg (acT k) (fun g=>.nil) .nil)) Tryz.func108 rfl
def ahW (k:Nat) (a:List jl):Option j3 :=
 (bif (a.length:Int)==0 then
  some ((true,()),())
 else
  (agj k a).bind fun q0 =>
  some ((q0.1.1,()),()))
def F316:Fn:=⟨[DL],[rB],fun k x=>ahW k x.1⟩
theorem ok316:O 316 F316:=okF (ah ok108 aj) [] On Tryz.func316 rfl
def aoU (k:Nat) (a:Int×Int×Int×Int):Option j3 :=
 some ((a.1==9,()),())
def F345:Fn:=⟨[agf],[rB],fun k x=>aoU k x.1⟩
theorem ok345:O 345 F345:=okF aj [] On Tryz.func345 rfl
abbrev Zh:Cut:=⟨[0,1,7,8],[.cell p9,.lJ 345 [],cI,cI],[],19,[]⟩
def OJ (k:Nat) (g2:(List jl) -> Int -> Int -> Option jk) (a:List jl) (b c:Int):Option jk :=
 (bif decide (c<b) then
  ix a c <|
  (aoU k (rd a c (0,0,0,0))).bind fun q0 =>
  (bif q0.1.1 then
   some ((c,()),())
  else
   g2 a b (IntKind.i64.wrap (c+1)))
 else
  some (((-1),()),()))
def acU (k:Nat):Xx (ahA):=eu (dw (dh (dw (dh (dh dx))))) (OJ k)
def G9 (k a:Nat) (b:List jl) (c e:Int):Option jk:=iter Zh (acU k) a ((),b,(),c,e,())
theorem UK (k a b c e):G9 k (a+1) b c e=OJ k (G9 k a) b c e:=Ba _ _ _ _
def acV (k:Nat) (a:List jl):Option jk :=
 G9 k k a (a.length:Int) 0
def F130b:Fn:=⟨[DL,.pv (.lJ 345 [])],[rI],fun k x=>acV k x.1⟩
theorem ok130b:O 130 F130b:=okF (ah ok345 aj) [] (fun k=>(.loop 2 Zh (acU k) (fun g=>.nil) .nil)) Tryz.func130 rfl
def aoV (k:Nat) (a:List jl):Option j3 :=
 (acV k a).bind fun q0 =>
 some ((decide (q0.1.1≥0),()),())
def F57a:Fn:=⟨[DL,.pv (.lJ 345 [])],[rB],fun k x=>aoV k x.1⟩
theorem ok57a:O 57 F57a:=okF (ah ok130b aj) [] On Tryz.func57 rfl
def alq (k:Nat) (a:List jl):Option j3 :=
 (aoV k a).bind fun q0 =>
 some ((q0.1.1,()),())
def F317:Fn:=⟨[DL],[rB],fun k x=>alq k x.1⟩
theorem ok317:O 317 F317:=okF (ah ok57a aj) [] On Tryz.func317 rfl
def ahX (k:Nat) (a:Int):Option jk :=
 (bif decide (a<0) then
  some ((IntKind.u64.wrap (0 - (IntKind.u64.wrap a)),()),())
 else
  some ((IntKind.u64.wrap a,()),()))
def F361:Fn:=⟨[au],[.val ⟨false,(.int .u64),true⟩],fun k x=>ahX k x.1⟩
theorem ok361:O 361 F361:=okF aj [] On Tryz.func361 rfl
def alr (k:Nat) (a b:Int):Option CS :=
 (bif decide ((Ul .u64 a 32)>0) then
  (bif decide ((Ul .u64 b 32)>0) then
   some ((0,false,()),())
  else
   (bif decide ((Ul .u64 (Uz .u64 (IntKind.u64.wrap ((Ul .u64 a 32) * (IntKind.u64.wrap (IntKind.u32.wrap b)))) (IntKind.u64.wrap ((IntKind.u64.wrap (IntKind.u32.wrap a)) * (Ul .u64 b 32)))) 32)>0) then
    some ((0,false,()),())
   else
    some ((IntKind.u64.wrap ((IntKind.u64.wrap ((IntKind.u64.wrap (IntKind.u32.wrap a)) * (IntKind.u64.wrap (IntKind.u32.wrap b))))+(Uk .u64 (Uz .u64 (IntKind.u64.wrap ((Ul .u64 a 32) * (IntKind.u64.wrap (IntKind.u32.wrap b)))) (IntKind.u64.wrap ((IntKind.u64.wrap (IntKind.u32.wrap a)) * (Ul .u64 b 32)))) 32)),decide ((IntKind.u64.wrap ((IntKind.u64.wrap ((IntKind.u64.wrap (IntKind.u32.wrap a)) * (IntKind.u64.wrap (IntKind.u32.wrap b))))+(Uk .u64 (Uz .u64 (IntKind.u64.wrap ((Ul .u64 a 32) * (IntKind.u64.wrap (IntKind.u32.wrap b)))) (IntKind.u64.wrap ((IntKind.u64.wrap (IntKind.u32.wrap a)) * (Ul .u64 b 32)))) 32)))≥(IntKind.u64.wrap ((IntKind.u64.wrap (IntKind.u32.wrap a)) * (IntKind.u64.wrap (IntKind.u32.wrap b))))),()),())))
 else
  (bif decide ((Ul .u64 (Uz .u64 (IntKind.u64.wrap ((Ul .u64 a 32) * (IntKind.u64.wrap (IntKind.u32.wrap b)))) (IntKind.u64.wrap ((IntKind.u64.wrap (IntKind.u32.wrap a)) * (Ul .u64 b 32)))) 32)>0) then
   some ((0,false,()),())
  else
   some ((IntKind.u64.wrap ((IntKind.u64.wrap ((IntKind.u64.wrap (IntKind.u32.wrap a)) * (IntKind.u64.wrap (IntKind.u32.wrap b))))+(Uk .u64 (Uz .u64 (IntKind.u64.wrap ((Ul .u64 a 32) * (IntKind.u64.wrap (IntKind.u32.wrap b)))) (IntKind.u64.wrap ((IntKind.u64.wrap (IntKind.u32.wrap a)) * (Ul .u64 b 32)))) 32)),decide ((IntKind.u64.wrap ((IntKind.u64.wrap ((IntKind.u64.wrap (IntKind.u32.wrap a)) * (IntKind.u64.wrap (IntKind.u32.wrap b))))+(Uk .u64 (Uz .u64 (IntKind.u64.wrap ((Ul .u64 a 32) * (IntKind.u64.wrap (IntKind.u32.wrap b)))) (IntKind.u64.wrap ((IntKind.u64.wrap (IntKind.u32.wrap a)) * (Ul .u64 b 32)))) 32)))≥(IntKind.u64.wrap ((IntKind.u64.wrap (IntKind.u32.wrap a)) * (IntKind.u64.wrap (IntKind.u32.wrap b))))),()),())))
def F360:Fn:=⟨[.val ⟨false,(.int .u64),false⟩,.val ⟨false,(.int .u64),false⟩],[.val ⟨false,(.int .u64),true⟩,rB],fun k x=>alr k x.1 x.2.1⟩
theorem ok360:O 360 F360:=okF aj [] On Tryz.func360 rfl
def agk (k:Nat) (a:Bool):Option CS :=
 (bif a then
  some (((-9223372036854775808),false,()),())
 else
  some ((9223372036854775807,false,()),()))
def F362:Fn:=⟨[.val ⟨false,.bool,false⟩],[rI,rB],fun k x=>agk k x.1⟩
theorem ok362:O 362 F362:=okF aj [] On Tryz.func362 rfl
abbrev als:Cut:=⟨[0,1,6,7],[cI,cI,.cell .bool,.cell (.int .u64)],[],45,[]⟩
def Wy (k:Nat) (a b:Int) (c:Bool) (e:Int):Option CS :=
 (ahX k a).bind fun q0 =>
 (ahX k b).bind fun q1 =>
 (alr k q0.1.1 q1.1.1).bind fun q2 =>
 (bif !q2.1.2.1 then
  (agk k c).bind fun q3 =>
  some (q3.1,())
 else
  (bif decide (q2.1.1>e) then
   (agk k c).bind fun q4 =>
   some (q4.1,())
  else
   (bif c then
    some ((IntKind.i64.wrap (IntKind.u64.wrap (0 - q2.1.1)),true,()),())
   else
    some ((IntKind.i64.wrap q2.1.1,true,()),()))))
def agl (k:Nat) (a b:Int):Option CS :=
 (bif !((decide (a<0))==(decide (b<0))) then
  Wy k a b (!((decide (a<0))==(decide (b<0)))) 9223372036854775808
 else
  Wy k a b (!((decide (a<0))==(decide (b<0)))) 9223372036854775807)
def F356:Fn:=⟨[au,au],[rI,rB],fun k x=>agl k x.1 x.2.1⟩
theorem ok356:O 356 F356:=okF (ah ok360 <| ah ok361 <| ah ok362 aj) [] (fun k=>(.join 5 als (fun (_,a,b,c,e,_)=>Wy k a b c e) .nil)) Tryz.func356 rfl
abbrev Zi:Cut:=⟨[3,5,6,7,20,21,22],[.own 2 (.int .i64),cI,.box 127 [cI,cI,cI,cI],cI,.cell p9,cI,cI],[],55,[]⟩
def OL (k:Nat) (g8:YO) (g12:(List Int) -> Int -> Int -> Int -> Int -> Int -> Int -> (List jl) -> Int -> Int -> Option qo) (a:List Int) (b x c e f h:Int) (i:List jl) (l m:Int):Option qo :=
 (bif decide (h <= (IntKind.i64.wrap (b+e))) then
  ix a h <|
  (agl k (rd a h 0) f).bind fun q0 =>
  ix a h <|
  g12 (upd a h q0.1.1) b x c e f (IntKind.i64.wrap (h+1)) i l m
 else
  g8 a i l (IntKind.i64.wrap (m+1)))
def acW (k:Nat) (g8:YO):Xx (((Unit)×(List Int)×Int×(Int×Int×Int×Int×Unit)×Int×(List jl)×Int×Int×Unit) -> Option qo):=eu (dw (dh (dh (d9 (dh (dh (dh (dh dx)))) (dh (dh (dh (dh dx)))))))) (OL k g8)
def OM (k:Nat) (g8:YO) (a:Nat) (b:List Int) (c x e f h i:Int) (l:List jl) (m n:Int):Option qo:=iter Zi (acW k g8) a ((),b,c,(x,e,f,h,()),i,l,m,n,())
theorem UL (k g8 a b c x e f h i l m n):OM k g8 (a+1) b c x e f h i l m n=OL k g8 (OM k g8 a) b c x e f h i l m n:=Ba _ _ _ _
abbrev acX:Cut:=⟨[3,20,21,22],[.own 2 (.int .i64),.cell p9,cI,cI],[],55,[]⟩
def Wz (k:Nat) (g8:YO) (a:List Int) (b:List jl) (c e:Int):Option qo :=
 (bif decide (e<c) then
  ix b e <|
  (bif (rd b e (0,0,0,0)).1 != 8 then
   g8 a b c (IntKind.i64.wrap (e+1))
  else
   OM k g8 k a e (rd b e (0,0,0,0)).1 (rd b e (0,0,0,0)).2.1 (rd b e (0,0,0,0)).2.2.1 (rd b e (0,0,0,0)).2.2.2 (IntKind.i64.wrap (e+1)) b c e)
 else
  some ((a,()),()))
def ahY (k:Nat):Xx (((Unit)×(List Int)×(List jl)×Int×Int×Unit) -> Option qo):=eu (dw (dh (dh (dh (dh dx))))) (Wz k)
def IQ (k a:Nat) (b:List Int) (c:List jl) (e f:Int):Option qo:=iter acX (ahY k) a ((),b,c,e,f,())
theorem Zj (k a b c e f):IQ k (a+1) b c e f=Wz k (IQ k a) b c e f:=Ba _ _ _ _
abbrev acY:Cut:=⟨[0,3,12,13],[.cell p9,.own 2 (.int .i64),cI,cI],[],55,[]⟩
def WA (k:Nat) (g3:(List jl) -> (List Int) -> Int -> Int -> Option qo) (a:List jl) (b:List Int) (c e:Int):Option qo :=
 (bif decide (e<c) then
  ix b e <|
  g3 a (upd b e 1) c (IntKind.i64.wrap (e+1))
 else
  IQ k k b a (a.length:Int) 0)
def ahZ (k:Nat):Xx (((Unit)×(List jl)×(List Int)×Int×Int×Unit) -> Option qo):=eu (dw (dh (dh (dh (dh dx))))) (WA k)
def LA (k a:Nat) (b:List jl) (c:List Int) (e f:Int):Option qo:=iter acY (ahZ k) a ((),b,c,e,f,())
theorem Zk (k a b c e f):LA k (a+1) b c e f=WA k (LA k a) b c e f:=Ba _ _ _ _
def alu (k:Nat) (a:List jl):Option qo :=
 mk (a.length:Int) (a.length:Int) 8 <|
 LA k k a (List.replicate (a.length:Int).toNat (0:Int)) ((List.replicate (a.length:Int).toNat (0:Int)).length:Int) 0
def F353:Fn:=⟨[DL],[.val ⟨false,IB,true⟩],fun k x=>alu k x.1⟩
theorem ok353:O 353 F353:=okF (ah ok356 aj) [] (fun k=>(.loop 8 acX (ahY k) (fun g=>(fun (g8:YO)=>(.loop 12 Zi (acW k g8) (fun g=>.nil) .nil)) (fun abI t20 t21 t22=>g ((),abI,t20,t21,t22,()))) (.loop 3 acY (ahZ k) (fun g=>.nil) .nil))) Tryz.func353 rfl
def agm (k:Nat) (a b:Int):Option CS :=
 (bif decide ((Um .i64 (Un .i64 a (IntKind.i64.wrap (IntKind.u64.wrap ((IntKind.u64.wrap a)+(IntKind.u64.wrap b))))) (Un .i64 b (IntKind.i64.wrap (IntKind.u64.wrap ((IntKind.u64.wrap a)+(IntKind.u64.wrap b))))))<0) then
  (agk k (decide (a<0))).bind fun q0 =>
  some (q0.1,())
 else
  some ((IntKind.i64.wrap (IntKind.u64.wrap ((IntKind.u64.wrap a)+(IntKind.u64.wrap b))),true,()),()))
def F357:Fn:=⟨[au,au],[rI,rB],fun k x=>agm k x.1 x.2.1⟩
theorem ok357:O 357 F357:=okF (ah ok362 aj) [] On Tryz.func357 rfl
abbrev acZ:Cut:=⟨[2,5,6,7],[cI,.cell IB,cI,cI],[],19,[]⟩
def WB (k:Nat) (g2:U9) (a:Int) (b:List Int) (c e:Int):Option jk :=
 (bif decide (e<c) then
  ix b e <|
  (agm k a (rd b e 0)).bind fun q0 =>
  g2 q0.1.1 b c (IntKind.i64.wrap (e+1))
 else
  some ((a,()),()))
def ah1 (k:Nat):Xx (((Unit)×Int×(List Int)×Int×Int×Unit) -> Option jk):=eu (dw (dh (dh (dh (dh dx))))) (WB k)
def WC (k a:Nat) (b:Int) (c:List Int) (e f:Int):Option jk:=iter acZ (ah1 k) a ((),b,c,e,f,())
theorem Zl (k a b c e f):WC k (a+1) b c e f=WB k (WC k a) b c e f:=Ba _ _ _ _
def Zm (k:Nat) (a:List Int):Option jk :=
 WC k k 0 a (a.length:Int) 0
def F354:Fn:=⟨[.val ⟨false,IB,false⟩],[rI],fun k x=>Zm k x.1⟩
theorem ok354:O 354 F354:=okF (ah ok357 aj) [] (fun k=>(.loop 2 acZ (ah1 k) (fun g=>.nil) .nil)) Tryz.func354 rfl
abbrev ac0:Cut:=⟨[2,4,5,6,24,25,26],[.box 310 [cI,cI,.own 378 oq],.own 2 (.int .i64),cI,.own 3 (.int .i64),.cell p9,cI,cI],[],75,[]⟩
def WE (k:Nat) (g7:Int -> Int -> jy -> (List Int) -> Int -> (List Int) -> (List jl) -> Int -> Int -> Option YK) (a b:Int) (c:oh) (e:List Int) (f:Int) (h:List Int) (i:List jl) (l m:Int):Option YK :=
 (bif decide (m<l) then
  ix i m <|
  (bif (rd i m (0,0,0,0)).1==11 then
   sx e f (IntKind.i64.wrap (m+1)) <|
   (Zm k (sub e f (IntKind.i64.wrap (m+1)))).bind fun q4 =>
   g7 a (mx b q4.1.1) c e (IntKind.i64.wrap (m+1)) h i l (IntKind.i64.wrap (m+1))
  else
   (bif (rd i m (0,0,0,0)).1==0 then
    sx e f (IntKind.i64.wrap (m+1)) <|
    (Zm k (sub e f (IntKind.i64.wrap (m+1)))).bind fun q5 =>
    g7 a (mx b q5.1.1) c e (IntKind.i64.wrap (m+1)) h i l (IntKind.i64.wrap (m+1))
   else
    (bif (rd i m (0,0,0,0)).1==9 then
     ix h m <|
     sx e (IntKind.i64.wrap (m+1)) (IntKind.i64.wrap ((rd h m 0)+1)) <|
     (Zm k (sub e (IntKind.i64.wrap (m+1)) (IntKind.i64.wrap ((rd h m 0)+1)))).bind fun q6 =>
     ix e m <|
     nz (rd e m 0) <|
     ap c ([((rd i m (0,0,0,0)).2.1,IntKind.i64.wrap (Int.tdiv q6.1.1 (rd e m 0)))]:List (Int×Int)) 16 fun r7 =>
     g7 a b r7 e f h i l (IntKind.i64.wrap (m+1))
    else
     g7 a b c e f h i l (IntKind.i64.wrap (m+1)))))
 else
  some (((a,b,c),true,()),()))
def ah2 (k:Nat):Xx (((Unit)×(Int×Int×jy×Unit)×(List Int)×Int×(List Int)×(List jl)×Int×Int×Unit) -> Option YK):=eu (dw (d9 (dh (dh (dh dx))) (dh (dh (dh (dh (dh (dh dx)))))))) (WE k)
def QB (k a:Nat) (b c:Int) (e:oh) (f:List Int) (h:Int) (i:List Int) (l:List jl) (m n:Int):Option YK:=iter ac0 (ah2 k) a ((),(b,c,e,()),f,h,i,l,m,n,())
theorem Zn (k a b c e f h i l m n):QB k (a+1) b c e f h i l m n=WE k (QB k a) b c e f h i l m n:=Ba _ _ _ _
def agn (k:Nat) (a:List jl):Option YK :=
 (agj k a).bind fun q0 =>
 (bif !q0.1.1 then
  some (((0,0,[]),false,()),())
 else
  (alu k a).bind fun q1 =>
  (ahU k a).bind fun q2 =>
  (Zm k q1.1.1).bind fun q3 =>
  QB k k q3.1.1 0 ([]:List (Int×Int)) q1.1.1 0 q2.1.1 a (a.length:Int) 0)
def F346:Fn:=⟨[DL],[.val ⟨true,(.pair (.int .i64) (.pair (.int .i64) (.sl 378 oq))),true⟩,rB],fun k x=>agn k x.1⟩
theorem ok346:O 346 F346:=okF (ah ok108 <| ah ok191 <| ah ok353 <| ah ok354 aj) [(2,2)] (fun k=>(.loop 7 ac0 (ah2 k) (fun g=>.nil) .nil)) Tryz.func346 rfl
def agp (k:Nat) (a:List jl):Option jk :=
 (agn k a).bind fun q0 =>
 some ((q0.1.1.1,()),())
def F318:Fn:=⟨[DL],[rI],fun k x=>agp k x.1⟩
theorem ok318:O 318 F318:=okF (ah ok346 aj) [] On Tryz.func318 rfl
def agq (k:Nat) (a:JG):Option jk :=
 (bif decide (a.1<0) then
  some ((1,()),())
 else
  (bif decide (a.1>63) then
   some ((1,()),())
  else
   (bif decide (a.2.1<1) then
    some ((9,()),())
   else
    (bif decide (a.2.1>16384) then
     some ((9,()),())
    else
     (bif decide (a.2.2.1<1) then
      some ((9,()),())
     else
      (bif decide (a.2.2.1>a.2.1) then
       some ((9,()),())
      else
       (agj k a.2.2.2.1).bind fun q0 =>
       (bif !q0.1.1 then
        some ((2,()),())
       else
        (ahW k a.2.2.2.2.1).bind fun q1 =>
        (bif !q1.1.1 then
         some ((2,()),())
        else
         (ahW k a.2.2.2.2.2).bind fun q2 =>
         (bif !q2.1.1 then
          some ((2,()),())
         else
          (alq k a.2.2.2.2.2).bind fun q3 =>
          (bif q3.1.1 then
           some ((2,()),())
          else
           (agp k a.2.2.2.1).bind fun q4 =>
           (bif decide (q4.1.1>a.2.2.1) then
            some ((10,()),())
           else
            (agp k a.2.2.2.2.1).bind fun q5 =>
            (agp k a.2.2.2.1).bind fun q6 =>
            (bif decide (q5.1.1>q6.1.1) then
             some ((12,()),())
            else
             some ((0,()),())))))))))))))
def F247:Fn:=⟨[UE],[rI],fun k x=>agq k x.1⟩
theorem ok247:O 247 F247:=okF (ah ok108 <| ah ok316 <| ah ok317 <| ah ok318 aj) [] On Tryz.func247 rfl
def QC (k:Nat) (a:List jl):Option FB:=qQ 32 127 U8 k (a,())
def F126:Fn:=⟨dJ 127 U8,iZ 127 U8,qQ 32 127 U8⟩
theorem ok126:O 126 F126:=Kz IC mix Tryz.func126 rfl (by kernel_rfl) (by kernel_rfl) (fun k=>by kernel_rfl) (fun k xs=>by kernel_rfl) (fun k xs=>by kernel_rfl)
def ah3 (k:Nat) (a:JG):Option ((jr×Unit)×Unit) :=
 (QC k a.2.2.2.1).bind fun q0 =>
 (QC k a.2.2.2.2.1).bind fun q1 =>
 (QC k a.2.2.2.2.2).bind fun q2 =>
 some (((a.1,a.2.1,a.2.2.1,q0.1.1,q1.1.1,q2.1.1),()),())
def F248:Fn:=⟨[UE],[.val ⟨true,AZ,true⟩],fun k x=>ah3 k x.1⟩
theorem ok248:O 248 F248:=okF (ah ok126 aj) [] On Tryz.func248 rfl
def aoW (k:Nat) (x a:JG):Option j3 :=
 some ((decide (x.1>a.1),()),())
def F249:Fn:=⟨[UE,.pv (.ref AZ)],[rB],fun k x=>aoW k x.1 x.2.1⟩
theorem ok249:O 249 F249:=okF aj [] On Tryz.func249 rfl
abbrev ac1:Cut:=⟨[0,1,7,8],[.cell o9,.lJ 249 [.ref AZ],cI,cI],[],19,[]⟩
def WG (k:Nat) (g2:(List jr) -> jr -> Int -> Int -> Option jk) (a:List jr) (b:JG) (c e:Int):Option jk :=
 (bif decide (e<c) then
  ix a e <|
  (aoW k (rd a e bg) b).bind fun q0 =>
  (bif q0.1.1 then
   some ((e,()),())
  else
   g2 a b c (IntKind.i64.wrap (e+1)))
 else
  some (((-1),()),()))
def ah4 (k:Nat):Xx (((Unit)×(List jr)×(jr×Unit)×Int×Int×Unit) -> Option jk):=eu (dw (dh (d9 (dh dx) (dh (dh dx))))) (WG k)
def IU (k a:Nat) (b:List jr) (c:JG) (e f:Int):Option jk:=iter ac1 (ah4 k) a ((),b,(c,()),e,f,())
theorem Zo (k a b c e f):IU k (a+1) b c e f=WG k (IU k a) b c e f:=Ba _ _ _ _
def aoX (k:Nat) (a:List jr) (b:JG):Option jk :=
 IU k k a b (a.length:Int) 0
def F132:Fn:=⟨[YV,.pv (.lJ 249 [.ref AZ])],[rI],fun k x=>aoX k x.1 x.2.1.1⟩
theorem ok132:O 132 F132:=okF (ah ok249 aj) [] (fun k=>(.loop 2 ac1 (ah4 k) (fun g=>.nil) .nil)) Tryz.func132 rfl
section
variable (w:World) {g n c i g2 m c2:Nat}
theorem CV:Tryz.prog.underlying 29=some (.slice 54) /\ Tryz.prog.underlying 3=some (.int .i64) /\ Tryz.prog.underlying 4=some .bool /\ Tryz.prog.follows .mixedOrders=true /\ (∀ w,(Go.sizeOf 54).run Tryz.prog w=.ok 6 w) /\ Tryz.f250.ntmps=95:=⟨by kernel_rfl,by kernel_rfl,by kernel_rfl,by kernel_rfl,fun w=>by kernel_rfl,rfl⟩
theorem WH {v u:Value} (hv:(∃ A n c,v=.slice A n c /\ i <= n)) (hu:∃ A c,u=.slice A m c) (hm:m=0):Calls Tryz.prog 250 #[v,.int .i64 i,u] w fun e w'=>e=.returned v /\ w'=w:=by
 obtain ⟨t24,t3,t4,mixed,z36,hnt⟩:=CV
 have u24:=run_underlying t24;have u3:=run_underlying t3;have u4:=run_underlying t4
 obtain ⟨A,n,c,rfl,hi⟩:=hv
 obtain ⟨A2,c2,rfl⟩:=hu
 have hi0:(i:Int) <= (n:Int):=by omega
 have hz1:(m:Int)=0:=by omega
 cases A <;> (go_enter Tryz.func250,hnt;go_wp2 <;> (go_ret;exact ⟨rfl,rfl⟩))
theorem Zp {v:Value} {w':World} {v':Value} (hv:(∃ A c,v=.slice A n c)) (hm:0<m)
  (hr:∀ ty,(Builtin.append_ #[29,29] ty #[v,.slice (some ⟨g2,0,none⟩) m c2]).run Tryz.prog w=.ok v' w'):Calls Tryz.prog 250 #[v,.int .i64 n,.slice (some ⟨g2,0,none⟩) m c2] w fun e w1=>e=.returned v' /\ w1=w':=by
 obtain ⟨t24,t3,t4,mixed,z36,hnt⟩:=CV
 have u24:=run_underlying t24;have u3:=run_underlying t3;have u4:=run_underlying t4
 have hz1:¬ ((m:Int)=0):=by omega
 obtain ⟨A,c,rfl⟩:=hv
 go_enter Tryz.func250,hnt
 go_wp2_with (at_builtin;refine Gx rfl rfl _ _ rfl rfl (hr _) ?_)
 all_goals (go_ret;exact ⟨rfl,rfl⟩)
theorem TY {v' v'':Value} {w' w'':World} (hi:i<n) (hm:0<m) (hroom:n+m <= c) (hc63:c <= 9223372036854775807)
  (hov:∀ lb cb,(callFunc 319 #[.slice (some ⟨g2,0,none⟩) m c2,.slice (some ⟨g,(i+m) * 6,none⟩) lb cb]).run Tryz.prog w=.ok (.value (.bool false)) w)
  (hcp1:∀ ty dc sc,(Builtin.copy_ #[29,29] ty #[.slice (some ⟨g,(i+m) * 6,none⟩) (n+m - (i+m)) dc,.slice (some ⟨g,i * 6,none⟩) (n+m - i) sc]).run Tryz.prog w.drew=.ok v' w')
  (hcp2:∀ ty dc,(Builtin.copy_ #[29,29] ty #[.slice (some ⟨g,i * 6,none⟩) (n+m - i) dc,.slice (some ⟨g2,0,none⟩) m c2]).run Tryz.prog w'=.ok v'' w'') :
  Calls Tryz.prog 250 #[.slice (some ⟨g,0,none⟩) n c,.int .i64 i,.slice (some ⟨g2,0,none⟩) m c2] w fun e w1=>e=.returned (.slice (some ⟨g,0,none⟩) (n+m) c) /\ w1=w'':=by
 obtain ⟨t24,t3,t4,mixed,z36,hnt⟩:=CV
 have u24:=run_underlying t24;have u3:=run_underlying t3;have u4:=run_underlying t4
 have hz1:¬ ((m:Int)=0):=by omega
 have hz2:¬ ((i:Int)=(n:Int)):=by omega
 have hw1:IntKind.i64.wrap ((i:Int)+(m:Int))=(i:Int)+(m:Int):=by rw [IntKind.wrap_i64];omega
 have hb1:(0:Int) <= (i:Int)+(m:Int):=by omega
 have hin:i <= n:=by omega
 have htn:((i:Int)+(m:Int)).toNat=i+m:=by omega
 have hb2:¬ (c=i+m):=by omega
 have hb3:(i:Int) <= (n:Int)+(m:Int):=by omega
 have hb4:¬ (c=i):=by omega
 go_enter Tryz.func250,hnt
 go_wp2_with (simp only [hov])
 go_region_law_o (refine Jp rfl rfl _ _ (by simp [Act.eval,Act.put]) (by simp [Act.eval,Act.put]) (hcp1 _ _ _) ?_)
 go_wp2_with (at_builtin;refine Jo rfl rfl _ _ rfl rfl (hcp2 _ _) ?_)
 go_ret
 exact ⟨rfl,rfl⟩
theorem WI {h G:Nat} {v' v'':Value} {w0 w' w'':World} (hi:i<n) (hm:0<m) (hnc:n <= c) (hroom:c<n+m) (hc63:n+m <= 140737488355328) (hG:n+m <= G) (hG63:G <= 9223372036854775807)
  (hrz:∀ ty,(Builtin.append_ #[29,3] ty #[.slice (some ⟨g,0,none⟩) i c,.int .i64 ((n:Int)+(m:Int) - (i:Int))]).run Tryz.prog w=.ok (.slice (some ⟨h,0,none⟩) (n+m) G) w0)
  (hcp1:∀ ty dc,(Builtin.copy_ #[29,29] ty #[.slice (some ⟨h,i * 6,none⟩) (n+m - i) dc,.slice (some ⟨g2,0,none⟩) m c2]).run Tryz.prog w0=.ok v' w')
  (hcp2:∀ ty dc sc,(Builtin.copy_ #[29,29] ty #[.slice (some ⟨h,(i+m) * 6,none⟩) (n+m - (i+m)) dc,.slice (some ⟨g,i * 6,none⟩) (n - i) sc]).run Tryz.prog w'.drew=.ok v'' w'') :
  Calls Tryz.prog 250 #[.slice (some ⟨g,0,none⟩) n c,.int .i64 i,.slice (some ⟨g2,0,none⟩) m c2] w fun e w1=>e=.returned (.slice (some ⟨h,0,none⟩) (n+m) G) /\ w1=w'':=by
 obtain ⟨t24,t3,t4,mixed,z36,hnt⟩:=CV
 have u24:=run_underlying t24;have u3:=run_underlying t3;have u4:=run_underlying t4
 have hz1:¬ ((m:Int)=0):=by omega
 have hz2:¬ ((i:Int)=(n:Int)):=by omega
 have hz3:(c:Int)<(n:Int)+(m:Int):=by omega
 have hw1:IntKind.i64.wrap ((i:Int)+(m:Int))=(i:Int)+(m:Int):=by rw [IntKind.wrap_i64];omega
 have hb1:(0:Int) <= (i:Int)+(m:Int):=by omega
 have hin:i <= n:=by omega
 have htn:((i:Int)+(m:Int)).toNat=i+m:=by omega
 have hGi:¬ (G=i):=by omega
 have hGim:¬ (G=i+m):=by omega
 have hci:¬ (c=i):=by omega
 have hb3:(i:Int) <= (n:Int):=by omega
 go_enter Tryz.func250,hnt
 go_wp2_with (first
  | (at_builtin;refine Gx rfl rfl _ _ rfl rfl (hrz _) ?_)
  | (at_builtin;refine Jo rfl rfl _ _ rfl rfl (hcp1 _ _) ?_))
 go_region_law_o (refine Jp rfl rfl _ _ (by simp [Act.eval,Act.put]) (by simp [Act.eval,Act.put]) (hcp2 _ _ _) ?_)
 go_wp2
 go_ret
 exact ⟨rfl,rfl⟩
end
abbrev arR:List PT:=eG 54 AZ
abbrev arS:List RT:=qU 54 AZ
def aoY (k:Nat) (a:List jr) (b:Int) (c:List jr):Option (((List jr)×Unit)×Unit):=Jg 96 54 AZ k (a,b,c,())
def F250:Fn:=⟨arR,arS,Jg 96 54 AZ⟩
def aqE:Env:=tab.env (fun _=>none) (fun _=>0)
theorem alv:aH Tryz.prog aqE:=Kw Rt _ _ (fun f F h=>by cases h)
theorem ok250:O 250 F250:=by
 obtain ⟨i0,z,a1,a2,a3,a4,a5⟩:=(alv.ty 54 (AZ) (by kernel_rfl)).info
 have b1:aqE.lK 54=96:=by kernel_rfl
 have b2:Ty.sz (AZ)=6:=rfl
 rw [b1] at a3
 have hz:z.cells.size=6:=by rw [<- Array.length_toList,a5,gZ,b2]
 obtain ⟨t24,t3,t4,mixed,z36,hnt⟩:=CV
 refine Qq Tryz.func250 rfl (by kernel_rfl) ?_
 rw [b2,<- a3]
 refine Mq (S:=29) (z:=z) t24 t3 a1 a4 (by rw [a2,b2]) hz (by decide) (by rw [a3];decide) (fun w i m v u h1 h2 h3=>WH w h1 h2 h3) (fun w n g2 m c2 v v' w' h1 h2 h3=>Zp w h1 h2 h3) (fun w g n c i g2 m c2 v' v'' w' w'' h1 h2 h3 h4 h5 h6 hne hg hg2=>TY w h1 h2 h3 h4 (fun lb cb=>?_) h5 h6) (fun w g n c i g2 m c2 h G v' v'' w0 w' w'' h1 h2 h3 h4 h5 h6 h7 h8 h9 h10=>WI w h1 h2 h3 h4 h5 h6 h7 h8 h9 h10)
 obtain ⟨cur,q1,q2⟩:=hg
 obtain ⟨xE,q3⟩:=hg2
 rw [run_callFunc_extern Tryz.func319 (by kernel_rfl) (by kernel_rfl) (by kernel_rfl) (e:=Extern.SlicesOverlaps.overlaps #[29,29] #[4]) (by kernel_rfl),Lib.run_overlaps_apart w 29 4 54 t24 6 z36 ⟨g2,0,none⟩ ⟨g,(i+m) * 6,none⟩ m c2 lb cb hne 54 54 xE.size cur.size (by simp [World.shape?,q3]) (by simp [World.shape?,q1]) q2 (Kd.fQ q3 _) (Kd.fQ q3 _)]
 rfl
abbrev ac2:Cut:=⟨[0,5,6,7],[.cell o9,.cell o9,cI,cI],[],31,[]⟩
def WJ (k:Nat) (g2:(List jr) -> (List jr) -> Int -> Int -> Option j3) (a b:List jr) (c e:Int):Option j3 :=
 (bif decide (e<c) then
  ix b e <|
  (agq k (rd b e bg)).bind fun q0 =>
  (bif q0.1.1 != 0 then
   some ((false,()),())
  else
   (bif decide (e>0) then
    ix a (IntKind.i64.wrap (e - 1)) <|
    (bif decide ((rd a (IntKind.i64.wrap (e - 1)) bg).1≥(rd b e bg).1) then
     some ((false,()),())
    else
     g2 a b c (IntKind.i64.wrap (e+1)))
   else
    g2 a b c (IntKind.i64.wrap (e+1))))
 else
  some ((true,()),()))
def ah5 (k:Nat):Xx (((Unit)×(List jr)×(List jr)×Int×Int×Unit) -> Option j3):=eu (dw (dh (dh (dh (dh dx))))) (WJ k)
def LB (k a:Nat) (b c:List jr) (e f:Int):Option j3:=iter ac2 (ah5 k) a ((),b,c,e,f,())
theorem Zq (k a b c e f):LB k (a+1) b c e f=WJ k (LB k a) b c e f:=Ba _ _ _ _
def alx (k:Nat) (a:List jr):Option j3 :=
 LB k k a a (a.length:Int) 0
def F348:Fn:=⟨[YV],[rB],fun k x=>alx k x.1⟩
theorem ok348:O 348 F348:=okF (ah ok247 aj) [] (fun k=>(.loop 2 ac2 (ah5 k) (fun g=>.nil) .nil)) Tryz.func348 rfl
def aoZ (k:Nat) (a:Int):Option zl :=
 (bif decide (a<0) then
  none
 else
  (bif decide ((IntKind.i64.wrap (a - 0))>0) then
   az ([]:List (Int×Int)) (IntKind.i64.wrap (a - 0)) 16 (0,0) fun r0 =>
   sx r0 0 0 <|
   some ((r0.take 0,()),())
  else
   some (([],()),())))
def F359:Fn:=⟨[.pv (.nil),au],[aoO],fun k x=>aoZ k x.2.1⟩
theorem ok359:O 359 F359:=okF aj [(25,1)] On Tryz.func359 rfl
abbrev Zr:Cut:=⟨[6,25,26,27],[.own 378 oq,.cell (.sl 308 (.sl 378 oq)),cI,cI],[],36,[]⟩
def JJ (k:Nat) (g11:jy -> (List jy) -> Int -> Int -> Option zl) (a:oh) (b:List jy) (c e:Int):Option zl :=
 (bif decide (e<c) then
  ix b e <|
  ap a (rd b e []) 16 fun r1 =>
  g11 r1 b c (IntKind.i64.wrap (e+1))
 else
  some ((a,()),()))
def ac3 (k:Nat):Xx (((Unit)×jy×(List jy)×Int×Int×Unit) -> Option zl):=eu (dw (dh (dh (dh (dh dx))))) (JJ k)
def JK (k a:Nat) (b:oh) (c:List jy) (e f:Int):Option zl:=iter Zr (ac3 k) a ((),b,c,e,f,())
theorem LC (k a b c e f):JK k (a+1) b c e f=JJ k (JK k a) b c e f:=Ba _ _ _ _
abbrev ac4:Cut:=⟨[0,3,9,10,11],[.cell (.sl 308 (.sl 378 oq)),cI,.cell (.sl 308 (.sl 378 oq)),cI,cI],[],36,[]⟩
def QD (k:Nat) (g3:(List jy) -> Int -> (List jy) -> Int -> Int -> Option zl) (a:List jy) (b:Int) (c:List jy) (e f:Int):Option zl :=
 (bif decide (f<e) then
  ix c f <|
  (bif decide ((IntKind.i64.wrap (b+((rd c f []).length:Int)))<0) then
   none
  else
   g3 a (IntKind.i64.wrap (b+((rd c f []).length:Int))) c e (IntKind.i64.wrap (f+1)))
 else
  (aoZ k b).bind fun q0 =>
  JK k k q0.1.1 a (a.length:Int) 0)
def ah6 (k:Nat):Xx (((Unit)×(List jy)×Int×(List jy)×Int×Int×Unit) -> Option zl):=eu (dw (dh (dh (dh (dh (dh dx)))))) (QD k)
def WK (k a:Nat) (b:List jy) (c:Int) (e:List jy) (f h:Int):Option zl:=iter ac4 (ah6 k) a ((),b,c,e,f,h,())
theorem QE (k a b c e f h):WK k (a+1) b c e f h=QD k (WK k a) b c e f h:=Ba _ _ _ _
def ah7 (k:Nat) (a:List jy):Option zl :=
 WK k k a 0 a (a.length:Int) 0
def F351:Fn:=⟨[.val ⟨false,(.sl 308 (.sl 378 oq)),false⟩],[aoO],fun k x=>ah7 k x.1⟩
theorem ok351:O 351 F351:=okF (ah ok359 aj) [] (fun k=>(.loop 11 Zr (ac3 k) (fun g=>.nil) (.loop 3 ac4 (ah6 k) (fun g=>.nil) .nil))) Tryz.func351 rfl
def Zt (k:Nat) (a:JG):Option ((Int×Int×jy×Unit)×Unit) :=
 (agq k a).bind fun q0 =>
 (bif q0.1.1 != 0 then
  some ((0,0,[],()),())
 else
  (agn k a.2.2.2.1).bind fun q1 =>
  (agn k a.2.2.2.2.1).bind fun q2 =>
  (bif q2.1.2.1 then
   (ah7 k ([q1.1.1.2.2,q2.1.1.2.2]:List jy)).bind fun q3 =>
   some ((q1.1.1.1,q2.1.1.1,q3.1.1,()),())
  else
   (ah7 k ([q1.1.1.2.2,q2.1.1.2.2]:List jy)).bind fun q4 =>
   some ((q1.1.1.1,q1.1.1.2.1,q4.1.1,()),())))
def F322:Fn:=⟨[UE],[rI,rI,aoO],fun k x=>Zt k x.1⟩
theorem ok322:O 322 F322:=okF (ah ok247 <| ah ok346 <| ah ok351 aj) [] On Tryz.func322 rfl
def ao0 (k:Nat) (a:Int):Option FB :=
 (bif decide (a<0) then
  none
 else
  (bif decide ((IntKind.i64.wrap (a - 0))>0) then
   az ([]:List jl) (IntKind.i64.wrap (a - 0)) 32 (0,0,0,0) fun r0 =>
   sx r0 0 0 <|
   some ((r0.take 0,()),())
  else
   some (([],()),())))
def F131:Fn:=⟨[.pv (.nil),au],[.val ⟨false,p9,true⟩],fun k x=>ao0 k x.2.1⟩
theorem ok131:O 131 F131:=okF aj [(25,1)] On Tryz.func131 rfl
abbrev ac5:Cut:=⟨[6,25,26,27],[.own 127 U8,.cell (.sl 52 p9),cI,cI],[],36,[]⟩
def QF (k:Nat) (g11:(List jl) -> UA -> Int -> Int -> Option FB) (a:List jl) (b:List (List jl)) (c e:Int):Option FB :=
 (bif decide (e<c) then
  ix b e <|
  ap a (rd b e []) 32 fun r1 =>
  g11 r1 b c (IntKind.i64.wrap (e+1))
 else
  some ((a,()),()))
def ah8 (k:Nat):Xx (((Unit)×(List jl)×UA×Int×Int×Unit) -> Option FB):=eu (dw (dh (dh (dh (dh dx))))) (QF k)
def QG (k a:Nat) (b:List jl) (c:List (List jl)) (e f:Int):Option FB:=iter ac5 (ah8 k) a ((),b,c,e,f,())
theorem QH (k a b c e f):QG k (a+1) b c e f=QF k (QG k a) b c e f:=Ba _ _ _ _
abbrev ah9:Cut:=⟨[0,3,9,10,11],[.cell (.sl 52 p9),cI,.cell (.sl 52 p9),cI,cI],[],36,[]⟩
def Zu (k:Nat) (g3:UA -> Int -> UA -> Int -> Int -> Option FB) (a:List (List jl)) (b:Int) (c:List (List jl)) (e f:Int):Option FB :=
 (bif decide (f<e) then
  ix c f <|
  (bif decide ((IntKind.i64.wrap (b+((rd c f []).length:Int)))<0) then
   none
  else
   g3 a (IntKind.i64.wrap (b+((rd c f []).length:Int))) c e (IntKind.i64.wrap (f+1)))
 else
  (ao0 k b).bind fun q0 =>
  QG k k q0.1.1 a (a.length:Int) 0)
def an6 (k:Nat):Xx (((Unit)×UA×Int×UA×Int×Int×Unit) -> Option FB):=eu (dw (dh (dh (dh (dh (dh dx)))))) (Zu k)
def ac6 (k a:Nat) (b:List (List jl)) (c:Int) (e:List (List jl)) (f h:Int):Option FB:=iter ah9 (an6 k) a ((),b,c,e,f,h,())
theorem WL (k a b c e f h):ac6 k (a+1) b c e f h=Zu k (ac6 k a) b c e f h:=Ba _ _ _ _
def S58 (k:Nat) (a:List (List jl)):Option FB :=
 ac6 k k a 0 a (a.length:Int) 0
def F58:Fn:=⟨[.val ⟨false,(.sl 52 p9),false⟩],[.val ⟨false,p9,true⟩],fun k x=>S58 k x.1⟩
theorem ok58:O 58 F58:=okF (ah ok131 aj) [] (fun k=>(.loop 11 ac5 (ah8 k) (fun g=>.nil) (.loop 3 ah9 (an6 k) (fun g=>.nil) .nil))) Tryz.func58 rfl
def ao1 (k:Nat) (a:Int×Int×Int×Int) (b:Int):Option j3 :=
 (bif a.1==9 then
  some ((a.2.1==b,()),())
 else
  some ((false,()),()))
def F134:Fn:=⟨[agf,YX],[rB],fun k x=>ao1 k x.1 x.2.1⟩
theorem ok134:O 134 F134:=okF aj [] On Tryz.func134 rfl
abbrev Zv:Cut:=⟨[0,1,7,8],[.cell p9,.lJ 134 [.ref (.int .i64)],cI,cI],[],19,[]⟩
def OO (k:Nat) (g2:(List jl) -> Int -> Int -> Int -> Option jk) (a:List jl) (b c e:Int):Option jk :=
 (bif decide (e<c) then
  ix a e <|
  (ao1 k (rd a e (0,0,0,0)) b).bind fun q0 =>
  (bif q0.1.1 then
   some ((e,()),())
  else
   g2 a b c (IntKind.i64.wrap (e+1)))
 else
  some (((-1),()),()))
def ac7 (k:Nat):Xx (((Unit)×(List jl)×YP×Int×Int×Unit) -> Option jk):=eu (dw (dh (d9 (dh dx) (dh (dh dx))))) (OO k)
def GA (k a:Nat) (b:List jl) (c e f:Int):Option jk:=iter Zv (ac7 k) a ((),b,(c,()),e,f,())
theorem UM (k a b c e f):GA k (a+1) b c e f=OO k (GA k a) b c e f:=Ba _ _ _ _
def ac8 (k:Nat) (a:List jl) (b:Int):Option jk :=
 GA k k a b (a.length:Int) 0
def F130c:Fn:=⟨[DL,.pv (.lJ 134 [.ref (.int .i64)])],[rI],fun k x=>ac8 k x.1 x.2.1.1⟩
theorem ok130c:O 130 F130c:=okF (ah ok134 aj) [] (fun k=>(.loop 2 Zv (ac7 k) (fun g=>.nil) .nil)) Tryz.func130 rfl
def ao2 (k:Nat) (a:List jl) (b:Int):Option j3 :=
 (ac8 k a b).bind fun q0 =>
 some ((decide (q0.1.1≥0),()),())
def F57b:Fn:=⟨[DL,.pv (.lJ 134 [.ref (.int .i64)])],[rB],fun k x=>ao2 k x.1 x.2.1.1⟩
theorem ok57b:O 57 F57b:=okF (ah ok130c aj) [] On Tryz.func57 rfl
def aly (k:Nat) (a:JG) (b:Int):Option j3 :=
 (S58 k ([a.2.2.2.1,a.2.2.2.2.1]:List (List jl))).bind fun q0 =>
 (ao2 k q0.1.1 b).bind fun q1 =>
 some ((q1.1.1,()),())
def F133:Fn:=⟨[UE,YX],[rB],fun k x=>aly k x.1 x.2.1⟩
theorem ok133:O 133 F133:=okF (ah ok57b <| ah ok58 aj) [] On Tryz.func133 rfl
abbrev Zw:Cut:=⟨[0,1,7,8],[.cell o9,.lJ 133 [.ref (.int .i64)],cI,cI],[],19,[]⟩
def OP (k:Nat) (g2:(List jr) -> Int -> Int -> Int -> Option jk) (a:List jr) (b c e:Int):Option jk :=
 (bif decide (e<c) then
  ix a e <|
  (aly k (rd a e bg) b).bind fun q0 =>
  (bif q0.1.1 then
   some ((e,()),())
  else
   g2 a b c (IntKind.i64.wrap (e+1)))
 else
  some (((-1),()),()))
def ac9 (k:Nat):Xx (((Unit)×(List jr)×YP×Int×Int×Unit) -> Option jk):=eu (dw (dh (d9 (dh dx) (dh (dh dx))))) (OP k)
def DU (k a:Nat) (b:List jr) (c e f:Int):Option jk:=iter Zw (ac9 k) a ((),b,(c,()),e,f,())
theorem UN (k a b c e f):DU k (a+1) b c e f=OP k (DU k a) b c e f:=Ba _ _ _ _
def aia (k:Nat) (a:List jr) (b:Int):Option jk :=
 DU k k a b (a.length:Int) 0
def F132a:Fn:=⟨[YV,.pv (.lJ 133 [.ref (.int .i64)])],[rI],fun k x=>aia k x.1 x.2.1.1⟩
theorem ok132a:O 132 F132a:=okF (ah ok133 aj) [] (fun k=>(.loop 2 Zw (ac9 k) (fun g=>.nil) .nil)) Tryz.func132 rfl
def S60 (k:Nat) (a:List jr) (b:Int):Option jk :=
 (aia k a b).bind fun q0 =>
 (bif decide (q0.1.1<0) then
  some ((8,()),())
 else
  some ((q0.1.1,()),()))
def F60:Fn:=⟨[YV,au],[rI],fun k x=>S60 k x.1 x.2.1⟩
theorem ok60:O 60 F60:=okF (ah ok132a aj) [] On Tryz.func60 rfl
abbrev aib:Cut:=⟨[0,1,4,5,12,16,17,18,32,33,34],[.cell o9,cI,cI,.mp 431 true (.int .i64) false (.int .i64),.box 378 [cI,cI],.cell o9,cI,cI,.own 378 oq,cI,cI],[],70,[]⟩
def JL (k:Nat) (g3:U7) (g8:ahy) (a:List jr) (b c:Int) (e:oh) (x f:Int) (h:List jr) (i l:Int) (m:oh) (n o:Int):Option jk :=
 (bif decide ((Us (.int .i64) (.int .i64) x e 0) <= b) then
  g8 a b (mx c f) e h i l m n (IntKind.i64.wrap (o+1))
 else
  g8 a b c e h i l m n (IntKind.i64.wrap (o+1)))
abbrev ada:Cut:=⟨[0,1,4,5,16,17,18,32,33,34],[.cell o9,cI,cI,.mp 431 true (.int .i64) false (.int .i64),.cell o9,cI,cI,.own 378 oq,cI,cI],[],70,[]⟩
def WM (k:Nat) (g3:U7) (g8:ahy) (a:List jr) (b c:Int) (e:oh) (f:List jr) (h i:Int) (l:oh) (m n:Int):Option jk :=
 (bif decide (n<m) then
  ix l n <|
  (bif !(Ut (.int .i64) (.int .i64) (rd l n (0,0)).1 e) then
   (S60 k a (rd l n (0,0)).1).bind fun q1 =>
   JL k g3 g8 a b c (vL (.int .i64) (.int .i64) (rd l n (0,0)).1 q1.1.1 e) (rd l n (0,0)).1 (rd l n (0,0)).2 f h i l m n
  else
   JL k g3 g8 a b c e (rd l n (0,0)).1 (rd l n (0,0)).2 f h i l m n)
 else
  g3 a b c e f h (IntKind.i64.wrap (i+1)))
def aic (k:Nat) (g3:U7):Xx (((Unit)×(List jr)×Int×Int×jy×(List jr)×Int×Int×jy×Int×Int×Unit) -> Option jk):=eu (dw (dh (dh (dh (dh (dh (dh (dh (dh (dh (dh dx))))))))))) (WM k g3)
def QI (k:Nat) (g3:U7) (a:Nat) (b:List jr) (c e:Int) (f:oh) (h:List jr) (i l:Int) (m:oh) (n o:Int):Option jk:=iter ada (aic k g3) a ((),b,c,e,f,h,i,l,m,n,o,())
theorem Zx (k g3 a b c e f h i l m n o):QI k g3 (a+1) b c e f h i l m n o=WM k g3 (QI k g3 a) b c e f h i l m n o:=Ba _ _ _ _
abbrev adb:Cut:=⟨[0,1,4,5,16,17,18],[.cell o9,cI,cI,.mp 431 true (.int .i64) false (.int .i64),.cell o9,cI,cI],[],70,[]⟩
def WO (k:Nat) (g3:U7) (a:List jr) (b c:Int) (e:oh) (f:List jr) (h i:Int):Option jk :=
 (bif decide (i<h) then
  ix f i <|
  (bif i==b then
   g3 a b c e f h (IntKind.i64.wrap (i+1))
  else
   (Zt k (rd f i bg)).bind fun q0 =>
   QI k g3 k a b c e f h i q0.1.2.2.1 (q0.1.2.2.1.length:Int) 0)
 else
  some ((c,()),()))
def aie (k:Nat):Xx (((Unit)×(List jr)×Int×Int×jy×(List jr)×Int×Int×Unit) -> Option jk):=eu (dw (dh (dh (dh (dh (dh (dh (dh dx)))))))) (WO k)
def QJ (k a:Nat) (b:List jr) (c e:Int) (f:oh) (h:List jr) (i l:Int):Option jk:=iter adb (aie k) a ((),b,c,e,f,h,i,l,())
theorem Zy (k a b c e f h i l):QJ k (a+1) b c e f h i l=WO k (QJ k a) b c e f h i l:=Ba _ _ _ _
def alz (k:Nat) (a:List jr) (b:Int):Option jk :=
 QJ k k a b 0 ([]:List (Int×Int)) a (a.length:Int) 0
def F323:Fn:=⟨[YV,au],[rI],fun k x=>alz k x.1 x.2.1⟩
theorem ok323:O 323 F323:=okF (ah ok60 <| ah ok322 aj) [] (fun k=>(.loop 3 adb (aie k) (fun g=>(fun (g3:U7)=>(.loop 8 ada (aic k g3) (fun g=>(fun (g8:ahy)=>(.join 13 aib (fun (_,a,b,c,e,(f,h,_),i,l,m,n,o,p,_)=>JL k g3 g8 a b c e f h i l m n o p) .nil)) (fun l_2 i2 aqH ao3 aqI aqJ aqK t32 t33 t34=>g ((),l_2,i2,aqH,ao3,aqI,aqJ,aqK,t32,t33,t34,()))) .nil)) (fun l_1 i1 most aqL t16 t17 t18=>g ((),l_1,i1,most,aqL,t16,t17,t18,()))) .nil)) Tryz.func323 rfl
def agr (k:Nat) (a:Int) (b:Bool) (c e:Int):Option ((Unit)×acA×Unit) :=
 (agl k c e).bind fun q0 =>
 (agm k a q0.1.1).bind fun q1 =>
 (bif b then
  some ((),(q1.1.1,true,()),())
 else
  (bif !q0.1.2.1 then
   some ((),(q1.1.1,true,()),())
  else
   some ((),(q1.1.1,!q1.1.2.1,()),())))
def F349:Fn:=⟨[.fK 427 [cI,.cell .bool],au,au],[],fun k ((a,b,_),c,e,_)=>agr k a b c e⟩
theorem ok349:O 349 F349:=okF (ah ok356 <| ah ok357 aj) [] On Tryz.func349 rfl
def alA (k:Nat) (a b:Int):Option CS :=
 (bif decide (b<1) then
  some ((0,false,()),())
 else
  (bif decide (a<0) then
   some ((0,false,()),())
  else
   nz b <|
   nz b <|
   (bif decide ((Int.tmod a b)>0) then
    some ((IntKind.i64.wrap ((IntKind.i64.wrap (Int.tdiv a b))+1),true,()),())
   else
    some ((IntKind.i64.wrap (Int.tdiv a b),true,()),()))))
def F358:Fn:=⟨[au,au],[rI,rB],fun k x=>alA k x.1 x.2.1⟩
theorem ok358:O 358 F358:=okF aj [] On Tryz.func358 rfl
def aif (k:Nat) (a b:Int):Option jk :=
 (alA k a b).bind fun q0 =>
 some ((q0.1.1,()),())
def F350:Fn:=⟨[au,au],[rI],fun k x=>aif k x.1 x.2.1⟩
theorem ok350:O 350 F350:=okF (ah ok358 aj) [] On Tryz.func350 rfl
abbrev Zz:Cut:=⟨[0,1,2,6,7,12,18,19,88,89,90],[.cell o9,cI,cI,cI,cI,cI,.box 427 [cI,.cell .bool],.box 427 [cI,.cell .bool],.cell o9,cI,cI],[],128,[]⟩
def OQ (k:Nat) (g14:YJ) (g18:(List jr) -> Int -> Int -> Int -> Int -> Int -> Int -> Bool -> Int -> Bool -> (List jr) -> Int -> Int -> Option CQ) (a:List jr) (b c e f h i:Int) (l:Bool) (m:Int) (n:Bool) (o:List jr) (p s:Int):Option CQ :=
 (bif decide (s<p) then
  ix o s <|
  (Zt k (rd o s bg)).bind fun q7 =>
  (aif k e (rd o s bg).2.1).bind fun q8 =>
  (agr k m n q8.1.1 q7.1.1).bind fun q9 =>
  g18 a b c e f h i l q9.2.1.1 q9.2.1.2.1 o p (IntKind.i64.wrap (s+1))
 else
  (bif n then
   some ((0,0,13,()),())
  else
   ix a b <|
   (bif decide (m>(rd a b bg).2.2.1) then
    some ((0,0,14,()),())
   else
    (bif m==e then
     some ((e,f,0,()),())
    else
     g14 a b c m f h i l))))
def ade (k:Nat) (g14:YJ):Xx (((Unit)×(List jr)×Int×Int×Int×Int×Int×acA×acA×(List jr)×Int×Int×Unit) -> Option CQ):=eu (dw (dh (dh (dh (dh (dh (dh (d9 (dh (dh dx)) (d9 (dh (dh dx)) (dh (dh (dh dx)))))))))))) (OQ k g14)
def OT (k:Nat) (g14:YJ) (a:Nat) (b:List jr) (c e f h i l:Int) (m:Bool) (n:Int) (o:Bool) (p:List jr) (s t:Int):Option CQ:=iter Zz (ade k g14) a ((),b,c,e,f,h,i,(l,m,()),(n,o,()),p,s,t,())
theorem UO (k g14 a b c e f h i l m n o p s t):OT k g14 (a+1) b c e f h i l m n o p s t=OQ k g14 (OT k g14 a) b c e f h i l m n o p s t:=Ba _ _ _ _
abbrev ZA:Cut:=⟨[0,1,2,6,7,12,18],[.cell o9,cI,cI,cI,cI,cI,.box 427 [cI,.cell .bool]],[],128,[]⟩
def WQ (k:Nat) (g14:YJ) (a:List jr) (b c e f h i:Int) (l:Bool):Option CQ :=
 (aif k e c).bind fun q5 =>
 (agr k i l q5.1.1 h).bind fun q6 =>
 sx a 0 b <|
 OT k g14 k a b c e (IntKind.i64.wrap (f+1)) h i l q6.2.1.1 q6.2.1.2.1 (sub a 0 b) ((sub a 0 b).length:Int) 0
def adf (k:Nat):Xx (((Unit)×(List jr)×Int×Int×Int×Int×Int×acA×Unit) -> Option CQ):=eu (dw (dh (dh (dh (dh (dh (dh (d9 (dh (dh dx)) dx)))))))) (WQ k)
def JM (k a:Nat) (b:List jr) (c e f h i l:Int) (m:Bool):Option CQ:=iter ZA (adf k) a ((),b,c,e,f,h,i,(l,m,()),())
theorem ags (k a b c e f h i l m):JM k (a+1) b c e f h i l m=WQ k (JM k a) b c e f h i l m:=Ba _ _ _ _
abbrev adg:Cut:=⟨[0,1,2,7,9,12,54,55,56],[.cell o9,cI,cI,cI,cI,cI,.cell o9,cI,cI],[],128,[]⟩
def WS (k:Nat) (g6:(List jr) -> Int -> Int -> Int -> Int -> Int -> (List jr) -> Int -> Int -> Option CQ) (a:List jr) (b c e f h:Int) (i:List jr) (l m:Int):Option CQ :=
 (bif decide (m<l) then
  ix i m <|
  (Zt k (rd i m bg)).bind fun q2 =>
  g6 a b c e f (mx h q2.1.2.1) i l (IntKind.i64.wrap (m+1))
 else
  (alz k a b).bind fun q3 =>
  (agr k f false 1 q3.1.1).bind fun q4 =>
  JM k k a b c q4.2.1.1 e h q4.2.1.1 q4.2.1.2.1)
def aii (k:Nat):Xx (((Unit)×(List jr)×Int×Int×Int×Int×Int×(List jr)×Int×Int×Unit) -> Option CQ):=eu (dw (dh (dh (dh (dh (dh (dh (dh (dh (dh dx)))))))))) (WS k)
def WT (k a:Nat) (b:List jr) (c e f h i:Int) (l:List jr) (m n:Int):Option CQ:=iter adg (aii k) a ((),b,c,e,f,h,i,l,m,n,())
theorem ZB (k a b c e f h i l m n):WT k (a+1) b c e f h i l m n=WS k (WT k a) b c e f h i l m n:=Ba _ _ _ _
def alC (k:Nat) (a:List jr) (b c:Int):Option CQ :=
 (alx k a).bind fun q0 =>
 (bif !q0.1.1 then
  some ((0,0,1,()),())
 else
  (bif decide (b<0) then
   some ((0,0,1,()),())
  else
   (bif decide (b≥(a.length:Int)) then
    some ((0,0,1,()),())
   else
    (bif decide (c<1) then
     some ((0,0,1,()),())
    else
     ix a b <|
     (Zt k (rd a b bg)).bind fun q1 =>
     sx a 0 (IntKind.i64.wrap (b+1)) <|
     WT k k a b c 0 q1.1.1 0 (sub a 0 (IntKind.i64.wrap (b+1))) ((sub a 0 (IntKind.i64.wrap (b+1))).length:Int) 0))))
def F321:Fn:=⟨[YV,au,au],[rI,rI,rI],fun k (a,b,c,_)=>alC k a b c⟩
theorem ok321:O 321 F321:=okF (ah ok322 <| ah ok323 <| ah ok348 <| ah ok349 <| ah ok350 aj) [] (fun k=>(.loop 14 ZA (adf k) (fun g=>(fun (g14:YJ)=>(.loop 18 Zz (ade k g14) (fun g=>.nil) .nil)) (fun l_2 i2 ao4 r_ alD aqM first ao5=>g ((),l_2,i2,ao4,r_,alD,aqM,(first,ao5,()),()))) (.loop 6 adg (aii k) (fun g=>.nil) .nil))) Tryz.func321 rfl
abbrev adh:Cut:=⟨[0,1,4,16,17,18],[.cell o9,cI,.own 168 BU,.cell o9,cI,cI],[],56,[]⟩
def WU (k:Nat) (g4:(List jr) -> Int -> FD -> (List jr) -> Int -> Int -> Option YR) (a:List jr) (b:Int) (c:List (PN Int 5)) (e:List jr) (f h:Int):Option YR :=
 (bif decide (h<f) then
  ix e h <|
  (alC k a h b).bind fun q0 =>
  (bif q0.1.2.2.1 != 0 then
   some ((([]:List (PN Int 5)),q0.1.2.2.1,()),())
  else
   (Zt k (rd e h bg)).bind fun q1 =>
   (alz k a h).bind fun q2 =>
   ap c ([(q1.1.1,q1.1.2.1,q2.1.1,q0.1.1,IntKind.i64.wrap ((rd e h bg).2.2.1 - q0.1.1))]:List (PN Int 5)) 40 fun r3 =>
   g4 a b r3 e f (IntKind.i64.wrap (h+1)))
 else
  some ((c,0,()),()))
def aij (k:Nat):Xx (((Unit)×(List jr)×Int×FD×(List jr)×Int×Int×Unit) -> Option YR):=eu (dw (dh (dh (dh (dh (dh (dh dx))))))) (WU k)
def WV (k a:Nat) (b:List jr) (c:Int) (e:List (PN Int 5)) (f:List jr) (h i:Int):Option YR:=iter adh (aij k) a ((),b,c,e,f,h,i,())
theorem ZC (k a b c e f h i):WV k (a+1) b c e f h i=WU k (WV k a) b c e f h i:=Ba _ _ _ _
def aik (k:Nat) (a:List jr) (b:Int):Option YR :=
 (bif decide (b<1) then
  some ((([]:List (PN Int 5)),1,()),())
 else
  WV k k a b ([]:List (PN Int 5)) a (a.length:Int) 0)
def F251:Fn:=⟨[YV,au],[.val ⟨false,YS,true⟩,rI],fun k x=>aik k x.1 x.2.1⟩
theorem ok251:O 251 F251:=okF (ah ok321 <| ah ok322 <| ah ok323 aj) [(4,2)] (fun k=>(.loop 4 adh (aij k) (fun g=>.nil) .nil)) Tryz.func251 rfl
abbrev ail:Cut:=⟨[2,4,13,16],[cI,.box 54 [cI,cI,cI,.cell p9,.cell p9,.cell p9],.own 54 AZ,cI],[],82,[]⟩
def JN (k:Nat) (a b c e:Int) (f h i:List jl) (l:List jr) (m:Int):Option I9 :=
 (ah3 k (b,c,e,f,h,i)).bind fun q4 =>
 (aoY k l m ([q4.1.1]:List jr)).bind fun q5 =>
 (aik k q5.1.1 a).bind fun q6 =>
 (bif q6.1.2.1 != 0 then
  some (([],[],q6.1.2.1,()),())
 else
  some ((q5.1.1,q6.1.1,0,()),()))
abbrev ZE:Cut:=⟨[2,4,13,46,47,48],[cI,.box 54 [cI,cI,cI,.cell p9,.cell p9,.cell p9],.own 54 AZ,.cell o9,cI,cI],[],82,[]⟩
def OU (k:Nat) (g16:Int -> Int -> Int -> Int -> (List jl) -> (List jl) -> (List jl) -> (List jr) -> (List jr) -> Int -> Int -> Option I9) (a b c e:Int) (f h i:List jl) (l m:List jr) (n o:Int):Option I9 :=
 (bif decide (o<n) then
  ix m o <|
  (ah3 k (rd m o bg)).bind fun q1 =>
  ap l ([q1.1.1]:List jr) 96 fun r2 =>
  g16 a b c e f h i r2 m n (IntKind.i64.wrap (o+1))
 else
  (aoX k l (b,c,e,f,h,i)).bind fun q3 =>
  (bif decide (q3.1.1<0) then
   JN k a b c e f h i l (l.length:Int)
  else
   JN k a b c e f h i l q3.1.1))
def adi (k:Nat):Xx (((Unit)×Int×an3×(List jr)×(List jr)×Int×Int×Unit) -> Option I9):=eu (dw (dh (d9 (dh (dh (dh (dh (dh (dh dx)))))) (dh (dh (dh (dh dx))))))) (OU k)
def OV (k a:Nat) (b c e f:Int) (h i l:List jl) (m n:List jr) (o p:Int):Option I9:=iter ZE (adi k) a ((),b,(c,e,f,h,i,l,()),m,n,o,p,())
theorem UQ (k a b c e f h i l m n o p):OV k (a+1) b c e f h i l m n o p=OU k (OV k a) b c e f h i l m n o p:=Ba _ _ _ _
abbrev adj:Cut:=⟨[0,2,4,9,20,21,22],[.cell o9,cI,.box 54 [cI,cI,cI,.cell p9,.cell p9,.cell p9],.mp 343 true (.int .i64) false .bool,.cell o9,cI,cI],[],82,[]⟩
def WW (k:Nat) (g3:(List jr) -> Int -> Int -> Int -> Int -> (List jl) -> (List jl) -> (List jl) -> (List (Int×Bool)) -> (List jr) -> Int -> Int -> Option I9) (a:List jr) (b c e f:Int) (h i l:List jl) (m:List (Int×Bool)) (n:List jr) (o p:Int):Option I9 :=
 (bif decide (p<o) then
  ix n p <|
  g3 a b c e f h i l (vL (.int .i64) .bool (rd n p bg).1 true m) n o (IntKind.i64.wrap (p+1))
 else
  (agq k (c,e,f,h,i,l)).bind fun q0 =>
  (bif q0.1.1 != 0 then
   some (([],[],q0.1.1,()),())
  else
   (bif Us (.int .i64) .bool c m false then
    some (([],[],11,()),())
   else
    (bif decide ((a.length:Int)≥8) then
     some (([],[],4,()),())
    else
     OV k k b c e f h i l ([]:List jr) a (a.length:Int) 0))))
def ain (k:Nat):Xx (((Unit)×(List jr)×Int×an3×(List (Int×Bool))×(List jr)×Int×Int×Unit) -> Option I9):=eu (dw (dh (dh (d9 (dh (dh (dh (dh (dh (dh dx)))))) (dh (dh (dh (dh dx)))))))) (WW k)
def WX (k a:Nat) (b:List jr) (c e f h:Int) (i l m:List jl) (n:List (Int×Bool)) (o:List jr) (p s:Int):Option I9:=iter adj (ain k) a ((),b,c,(e,f,h,i,l,m,()),n,o,p,s,())
theorem ZF (k a b c e f h i l m n o p s):WX k (a+1) b c e f h i l m n o p s=WW k (WX k a) b c e f h i l m n o p s:=Ba _ _ _ _
def ao6 (k:Nat) (a:List jr) (b:JG) (c:Int):Option I9 :=
 WX k k a c b.1 b.2.1 b.2.2.1 b.2.2.2.1 b.2.2.2.2.1 b.2.2.2.2.2 ([]:List (Int×Bool)) a (a.length:Int) 0
def F166:Fn:=⟨[YV,UE,au],[.val ⟨false,o9,true⟩,.val ⟨false,YS,true⟩,rI],fun k (a,b,c,_)=>ao6 k a b c⟩
theorem ok166:O 166 F166:=okF (ah ok132 <| ah ok247 <| ah ok248 <| ah ok250 <| ah ok251 aj) [(13,2)] (fun k=>(.join 23 ail (fun (_,a,(b,c,e,f,h,i,_),l,m,_)=>JN k a b c e f h i l m) (.loop 16 ZE (adi k) (fun g=>.nil) (.loop 3 adj (ain k) (fun g=>.nil) .nil)))) Tryz.func166 rfl
def S89 (k:Nat) (a:F9):Option NK :=
 (bif a.1.2.2.2.2.1 then
  some ((),AO (w3 a 7),())
 else
  (ao6 k a.1.2.2.1 a.2.1.2.1 a.1.2.1).bind fun q0 =>
  (bif q0.1.2.2.1==0 then
   some ((),AO ((a.1.1,a.1.2.1,q0.1.1,q0.1.2.1,a.1.2.2.2.2),a.2.1,a.2.2.1,q0.1.2.2.1,a.2.2.2.2),())
  else
   some ((),AO (w3 a q0.1.2.2.1),())))
def F89:Fn:=⟨[YU],[],fun k x=>S89 k (pz x.1)⟩
theorem ok89:O 89 F89:=okF (ah ok166 aj) [] On Tryz.func89 rfl
def ao7 (k:Nat) (a:List jr):Option (((List jr)×Unit)×Unit):=qQ 96 54 AZ k (a,())
def F123:Fn:=⟨dJ 54 AZ,iZ 54 AZ,qQ 96 54 AZ⟩
theorem ok123:O 123 F123:=Kz IC mix Tryz.func123 rfl (by kernel_rfl) (by kernel_rfl) (fun k=>by kernel_rfl) (fun k xs=>by kernel_rfl) (fun k xs=>by kernel_rfl)
def ao8 (k:Nat) (a:List (PN Int 5)):Option ((FD×Unit)×Unit):=qQ 40 168 BU k (a,())
def F124:Fn:=⟨dJ 168 BU,iZ 168 BU,qQ 40 168 BU⟩
theorem ok124:O 124 F124:=Kz IC mix Tryz.func124 rfl (by kernel_rfl) (by kernel_rfl) (fun k=>by kernel_rfl) (fun k xs=>by kernel_rfl) (fun k xs=>by kernel_rfl)
def ao9 (k:Nat) (a:List A9):Option (((List A9)×Unit)×Unit):=qQ 272 59 su k (a,())
def F125:Fn:=⟨dJ 59 su,iZ 59 su,qQ 272 59 su⟩
theorem ok125:O 125 F125:=Kz IC mix Tryz.func125 rfl (by kernel_rfl) (by kernel_rfl) (fun k=>by kernel_rfl) (fun k xs=>by kernel_rfl) (fun k xs=>by kernel_rfl)
def abJ (k:Nat) (a:List (Int×Int×Int)):Option (((List (Int×Int×Int))×Unit)×Unit):=qQ 24 293 (.pair (.int .i64) oq) k (a,())
def F217:Fn:=⟨dJ 293 (.pair (.int .i64) oq),iZ 293 (.pair (.int .i64) oq),qQ 24 293 (.pair (.int .i64) oq)⟩
theorem ok217:O 217 F217:=Kz IC mix Tryz.func217 rfl (by kernel_rfl) (by kernel_rfl) (fun k=>by kernel_rfl) (fun k xs=>by kernel_rfl) (fun k xs=>by kernel_rfl)
def FH (k:Nat) (a:List Int):Option qo:=qQ 8 3 (.int .i64) k (a,())
def F219:Fn:=⟨dJ 3 (.int .i64),iZ 3 (.int .i64),qQ 8 3 (.int .i64)⟩
theorem ok219:O 219 F219:=Kz IC mix Tryz.func219 rfl (by kernel_rfl) (by kernel_rfl) (fun k=>by kernel_rfl) (fun k xs=>by kernel_rfl) (fun k xs=>by kernel_rfl)
def aio (k:Nat) (a b:Int):Option j3 :=
 some ((a==b,()),())
def F220:Fn:=⟨[au,YX],[rB],fun k x=>aio k x.1 x.2.1⟩
theorem ok220:O 220 F220:=okF aj [] On Tryz.func220 rfl
abbrev ZG:Cut:=⟨[0,1,7,8],[.cell sj,.lJ 220 [.ref (.int .i64)],cI,cI],[],19,[]⟩
def OW (k:Nat) (g2:(List Int) -> Int -> Int -> Int -> Option jk) (a:List Int) (b c e:Int):Option jk :=
 (bif decide (e<c) then
  ix a e <|
  (aio k (rd a e 0) b).bind fun q0 =>
  (bif q0.1.1 then
   some ((e,()),())
  else
   g2 a b c (IntKind.i64.wrap (e+1)))
 else
  some (((-1),()),()))
def adk (k:Nat):Xx (((Unit)×(List Int)×YP×Int×Int×Unit) -> Option jk):=eu (dw (dh (d9 (dh dx) (dh (dh dx))))) (OW k)
def GD (k a:Nat) (b:List Int) (c e f:Int):Option jk:=iter ZG (adk k) a ((),b,(c,()),e,f,())
theorem UR (k a b c e f):GD k (a+1) b c e f=OW k (GD k a) b c e f:=Ba _ _ _ _
def adl (k:Nat) (a:List Int) (b:Int):Option jk :=
 GD k k a b (a.length:Int) 0
def F272c:Fn:=⟨[Wm,.pv (.lJ 220 [.ref (.int .i64)])],[rI],fun k x=>adl k x.1 x.2.1.1⟩
theorem ok272c:O 272 F272c:=okF (ah ok220 aj) [] (fun k=>(.loop 2 ZG (adk k) (fun g=>.nil) .nil)) Tryz.func272 rfl
abbrev adn:Cut:=⟨[0,1,5,6],[.pin true 0,.lJ 220 [.ref (.int .i64)],cI,cI],[.fT 3 (.int .i64)],42,[]⟩
def WY (k:Nat) (g5:(List Int) -> Int -> Int -> Int -> Option qo) (a:List Int) (b c e:Int):Option qo :=
 (bif decide (e<(a.length:Int)) then
  ix a e <|
  (aio k (rd a e 0) b).bind fun q1 =>
  (bif !q1.1.1 then
   ix a c <|
   g5 (upd a c (rd a e 0)) b (IntKind.i64.wrap (c+1)) (IntKind.i64.wrap (e+1))
  else
   g5 a b c (IntKind.i64.wrap (e+1)))
 else
  sx a c (a.length:Int) <|
  sx (Uy a c (a.length:Int) 0) 0 c <|
  some (((Uy a c (a.length:Int) 0).take c.toNat,()),()))
def aip (k:Nat):Xx ((((List Int)×Unit)×Unit×YP×Int×Int×Unit) -> Option qo):=eu (d9 (dh dx) (dw (d9 (dh dx) (dh (dh dx))))) (WY k)
def WZ (k a:Nat) (b:List Int) (c e f:Int):Option qo:=iter adn (aip k) a ((b,()),(),(c,()),e,f,())
theorem ZH (k a b c e f):WZ k (a+1) b c e f=WY k (WZ k a) b c e f:=Ba _ _ _ _
def alE (k:Nat) (a:List Int) (b:Int):Option qo :=
 (adl k a b).bind fun q0 =>
 (bif q0.1.1==(-1) then
  some ((a,()),())
 else
  WZ k k a b q0.1.1 (IntKind.i64.wrap (q0.1.1+1)))
def F218:Fn:=⟨[.give 3 (.int .i64),.pv (.lJ 220 [.ref (.int .i64)])],[ahC],fun k x=>alE k x.1 x.2.1.1⟩
theorem ok218:O 218 F218:=okF (ah ok220 <| ah ok272c aj) [(41,1)] (fun k=>(.loop 5 adn (aip k) (fun g=>.nil) .nil)) Tryz.func218 rfl
def agt (k:Nat) (a:acy) (b:Int):Option ((A9×Unit)×Unit) :=
 (abJ k a.2.2.2.2.1.2.2.1).bind fun q0 =>
 (abJ k a.2.2.2.2.2.1.2.2.1).bind fun q1 =>
 (FH k a.2.2.2.2.2.2.1).bind fun q2 =>
 (alE k q2.1.1 b).bind fun q3 =>
 some (((w6 (w5 (w4 a (a.2.2.2.2.1.1,a.2.2.2.2.1.2.1,q0.1.1,a.2.2.2.2.1.2.2.2)) (a.2.2.2.2.2.1.1,a.2.2.2.2.2.1.2.1,q1.1.1,a.2.2.2.2.2.1.2.2.2)) q3.1.1),()),())
def F127:Fn:=⟨[.val ⟨true,su,false⟩,au],[.val ⟨true,su,true⟩],fun k x=>agt k x.1 x.2.1⟩
theorem ok127:O 127 F127:=okF (ah ok217 <| ah ok218 <| ah ok219 aj) [] On Tryz.func127 rfl
def U0 (k:Nat) (a:List Bool):Option (((List Bool)×Unit)×Unit):=qQ 1 4 .bool k (a,())
def F263:Fn:=⟨dJ 4 .bool,iZ 4 .bool,qQ 1 4 .bool⟩
theorem ok263:O 263 F263:=Kz IC mix Tryz.func263 rfl (by kernel_rfl) (by kernel_rfl) (fun k=>by kernel_rfl) (fun k xs=>by kernel_rfl) (fun k xs=>by kernel_rfl)
def ZI (k:Nat) (a:List Int):Option qo:=qQ 8 2 (.int .i64) k (a,())
def F287:Fn:=⟨dJ 2 (.int .i64),iZ 2 (.int .i64),qQ 8 2 (.int .i64)⟩
theorem ok287:O 287 F287:=Kz IC mix Tryz.func287 rfl (by kernel_rfl) (by kernel_rfl) (fun k=>by kernel_rfl) (fun k xs=>by kernel_rfl) (fun k xs=>by kernel_rfl)
def ZJ (k:Nat) (a:oh):Option zl:=qQ 16 266 EN k (a,())
def F256:Fn:=⟨dJ 266 EN,iZ 266 EN,qQ 16 266 EN⟩
theorem ok256:O 256 F256:=Kz IC mix Tryz.func256 rfl (by kernel_rfl) (by kernel_rfl) (fun k=>by kernel_rfl) (fun k xs=>by kernel_rfl) (fun k xs=>by kernel_rfl)
def aiq (k:Nat) (x:YH):Option ((qj×Unit)×Unit) :=
 (ZI k x.2.2.2.1.1).bind fun q0 =>
 (FH k x.2.2.2.1.2).bind fun q1 =>
 (ZJ k x.2.2.2.2.1.2).bind fun q2 =>
 some (((w4 (w3 x (q0.1.1,q1.1.1)) (x.2.2.2.2.1.1,q2.1.1)),()),())
def F222:Fn:=⟨[acD],[.val ⟨true,I5,true⟩],fun k x=>aiq k x.1⟩
theorem ok222:O 222 F222:=okF (ah ok219 <| ah ok256 <| ah ok287 aj) [] On Tryz.func222 rfl
abbrev ado:Cut:=⟨[2,3,17,18,19],[.box 38 [.nil,.nil,.nil],.box 38 [.own 3 (.int .i64),.own 4 .bool,.own 142 I5],.cell NM,cI,cI],[],32,[]⟩
def X0 (k:Nat) (g3:(List Int) -> (List Bool) -> (List qj) -> (List qj) -> Int -> Int -> Option PZ) (a:List Int) (b:List Bool) (c e:List qj) (f h:Int):Option PZ :=
 (bif decide (h<f) then
  ix e h <|
  (aiq k (rd e h bf)).bind fun q2 =>
  ap c ([q2.1.1]:List qj) 128 fun r3 =>
  g3 a b r3 e f (IntKind.i64.wrap (h+1))
 else
  some ((((a,b),c),()),()))
def air (k:Nat):Xx (((Unit)×(Unit×Unit×Unit×Unit)×an4×(List qj)×Int×Int×Unit) -> Option PZ):=eu (dw (d9 (dw (dw (dw dx))) (d9 (dh (dh (dh dx))) (dh (dh (dh dx)))))) (X0 k)
def LD (k a:Nat) (b:List Int) (c:List Bool) (e f:List qj) (h i:Int):Option PZ:=iter ado (air k) a ((),((),(),(),()),(b,c,e,()),f,h,i,())
theorem ZK (k a b c e f h i):LD k (a+1) b c e f h i=X0 k (LD k a) b c e f h i:=Ba _ _ _ _
def X3 (k:Nat) (a:EO×List qj):Option PZ :=
 (FH k a.1.1).bind fun q0 =>
 (U0 k a.1.2).bind fun q1 =>
 LD k k q0.1.1 q1.1.1 ([]:List qj) a.2 (a.2.length:Int) 0
def F185:Fn:=⟨[UC],[acB],fun k x=>X3 k x.1⟩
theorem ok185:O 185 F185:=okF (ah ok219 <| ah ok222 <| ah ok263 aj) [(15,2)] (fun k=>(.loop 3 ado (air k) (fun g=>.nil) .nil)) Tryz.func185 rfl
def agu (k:Nat) (a:EO×List qj) (b:Int):Option j3 :=
 (bif decide (b≥0) then
  (bif decide (b<(a.2.length:Int)) then
   ix a.2 b <|
   some (((rd a.2 b bf).1 != 0,()),())
  else
   some ((false,()),()))
 else
  some ((false,()),()))
def F186:Fn:=⟨[UC,au],[rB],fun k x=>agu k x.1 x.2.1⟩
theorem ok186:O 186 F186:=okF aj [] On Tryz.func186 rfl
abbrev adp:Cut:=⟨[3,6,7,8,9,10],[.cell (.int .u32),.cell (.int .u64),cI,.cell IB,cI,cI],[],34,[]⟩
def X4 (k:Nat) (g3:U9) (g6:Int -> Int -> Int -> (List Int) -> Int -> Int -> Option jk) (a b c:Int) (e:List Int) (f h:Int):Option jk :=
 (bif decide (c<8) then
  g6 (Un .u32 (Uz .u32 (Uk .u32 a 5) (Ul .u32 a 27)) (IntKind.u32.wrap (IntKind.u8.wrap b))) (Ul .u64 b 8) (IntKind.i64.wrap (c+1)) e f h
 else
  g3 a e f (IntKind.i64.wrap (h+1)))
def ais (k:Nat) (g3:U9):Xx (((Unit)×Int×Int×Int×(List Int)×Int×Int×Unit) -> Option jk):=eu (dw (dh (dh (dh (dh (dh (dh dx))))))) (X4 k g3)
def X5 (k:Nat) (g3:U9) (a:Nat) (b c e:Int) (f:List Int) (h i:Int):Option jk:=iter adp (ais k g3) a ((),b,c,e,f,h,i,())
theorem ZL (k g3 a b c e f h i):X5 k g3 (a+1) b c e f h i=X4 k g3 (X5 k g3 a) b c e f h i:=Ba _ _ _ _
abbrev adq:Cut:=⟨[3,8,9,10],[.cell (.int .u32),.cell IB,cI,cI],[],34,[]⟩
def X6 (k:Nat) (g3:U9) (a:Int) (b:List Int) (c e:Int):Option jk :=
 (bif decide (e<c) then
  ix b e <|
  X5 k g3 k a (IntKind.u64.wrap (rd b e 0)) 0 b c e
 else
  some ((a,()),()))
def ait (k:Nat):Xx (((Unit)×Int×(List Int)×Int×Int×Unit) -> Option jk):=eu (dw (dh (dh (dh (dh dx))))) (X6 k)
def LG (k a:Nat) (b:Int) (c:List Int) (e f:Int):Option jk:=iter adq (ait k) a ((),b,c,e,f,())
theorem ZM (k a b c e f):LG k (a+1) b c e f=X6 k (LG k a) b c e f:=Ba _ _ _ _
def X7 (k:Nat) (a:List Int):Option jk :=
 LG k k 2166136261 a (a.length:Int) 0
def F288:Fn:=⟨[.val ⟨false,IB,false⟩],[.val ⟨false,(.int .u32),true⟩],fun k x=>X7 k x.1⟩
theorem ok288:O 288 F288:=okF aj [] (fun k=>(.loop 3 adq (ait k) (fun g=>(fun (g3:U9)=>(.loop 6 adp (ais k g3) (fun g=>.nil) .nil)) (fun h t8 t9 t10=>g ((),h,t8,t9,t10,()))) .nil)) Tryz.func288 rfl
abbrev ZN:Cut:=⟨[3,61,62,63],[.own 2 (.int .i64),.cell (.sl 266 EN),cI,cI],[],78,[]⟩
def OX (k:Nat) (g11:(List Int) -> jy -> Int -> Int -> Option jk) (a:List Int) (b:oh) (c e:Int):Option jk :=
 (bif decide (e<c) then
  ix b e <|
  ap a ([(rd b e (0,0)).1,IntKind.i64.wrap (rd b e (0,0)).2]:List Int) 8 fun r4 =>
  g11 r4 b c (IntKind.i64.wrap (e+1))
 else
  (X7 k a).bind fun q5 =>
  some ((q5.1.1,()),()))
def adr (k:Nat):Xx (((Unit)×(List Int)×jy×Int×Int×Unit) -> Option jk):=eu (dw (dh (dh (dh (dh dx))))) (OX k)
def OY (k a:Nat) (b:List Int) (c:oh) (e f:Int):Option jk:=iter ZN (adr k) a ((),b,c,e,f,())
theorem UU (k a b c e f):OY k (a+1) b c e f=OX k (OY k a) b c e f:=Ba _ _ _ _
abbrev ads:Cut:=⟨[1,3,41,42,43],[.box 142 [cI,cI,cI,cI,cI,.cell IB,.cell sj,.cell (.int .u32),.cell (.sl 266 EN),.cell (.int .u32)],.own 2 (.int .i64),.cell sj,cI,cI],[],78,[]⟩
def X8 (k:Nat) (g5:Int -> Int -> Int -> Int -> Int -> (List Int) -> (List Int) -> Int -> jy -> Int -> (List Int) -> (List Int) -> Int -> Int -> Option jk) (a b c e f:Int) (h i:List Int) (l:Int) (m:oh) (n:Int) (o p:List Int) (s t:Int):Option jk :=
 (bif decide (t<s) then
  ix p t <|
  ap o ([rd p t 0]:List Int) 8 fun r2 =>
  g5 a b c e f h i l m n r2 p s (IntKind.i64.wrap (t+1))
 else
  ap o ([IntKind.i64.wrap l]:List Int) 8 fun r3 =>
  OY k k r3 m (m.length:Int) 0)
def aiu (k:Nat):Xx (((Unit)×(Int×Int×Int×Int×Int×(List Int)×(List Int)×Int×jy×Int×Unit)×(List Int)×(List Int)×Int×Int×Unit) -> Option jk):=eu (dw (d9 (dh (dh (dh (dh (dh (dh (dh (dh (dh (dh dx)))))))))) (dh (dh (dh (dh dx)))))) (X8 k)
def X9 (k a:Nat) (b c e f h:Int) (i l:List Int) (m:Int) (n:oh) (o:Int) (p s:List Int) (t u:Int):Option jk:=iter ads (aiu k) a ((),(b,c,e,f,h,i,l,m,n,o,()),p,s,t,u,())
theorem ZO (k a b c e f h i l m n o p s t u):X9 k (a+1) b c e f h i l m n o p s t u=X8 k (X9 k a) b c e f h i l m n o p s t u:=Ba _ _ _ _
def abK (k:Nat) (x:YH):Option jk :=
 ap ([x.1,x.2.1.1,x.2.1.2,x.2.2.1.1,x.2.2.1.2,(x.2.2.2.1.1.length:Int)]:List Int) x.2.2.2.1.1 8 fun r0 =>
 ap r0 ([(x.2.2.2.1.2.length:Int)]:List Int) 8 fun r1 =>
 X9 k k x.1 x.2.1.1 x.2.1.2 x.2.2.1.1 x.2.2.1.2 x.2.2.2.1.1 x.2.2.2.1.2 x.2.2.2.2.1.1 x.2.2.2.2.1.2 x.2.2.2.2.2 r1 x.2.2.2.1.2 (x.2.2.2.1.2.length:Int) 0
def F223:Fn:=⟨[acD],[.val ⟨false,(.int .u32),true⟩],fun k x=>abK k x.1⟩
theorem ok223:O 223 F223:=okF (ah ok288 aj) [] (fun k=>(.loop 11 ZN (adr k) (fun g=>.nil) (.loop 5 ads (aiu k) (fun g=>.nil) .nil))) Tryz.func223 rfl
def abL (k:Nat) (x:YH):Option ((qj×Unit)×Unit) :=
 (abK k x).bind fun q0 =>
 some (((z5 x q0.1.1),()),())
def F221:Fn:=⟨[acD],[.val ⟨true,I5,false⟩],fun k x=>abL k x.1⟩
theorem ok221:O 221 F221:=okF (ah ok223 aj) [] On Tryz.func221 rfl
def I6 (k:Nat) (a:EO×List qj) (b:Int) (x:YH):Option PZ :=
 (X3 k a).bind fun q0 =>
 (agu k a b).bind fun q1 =>
 (bif !q1.1.1 then
  some ((q0.1.1,()),())
 else
  ix a.2 b <|
  (aiq k ((rd a.2 b bf).1,(rd a.2 b bf).2.1,x.2.2)).bind fun q2 =>
  (abL k q2.1.1).bind fun q3 =>
  (abK k (rd a.2 b bf)).bind fun q4 =>
  (bif (rd a.2 b bf).2.2.2.2.2 != q4.1.1 then
   ix q0.1.1.2 b <|
   some (((q0.1.1.1,upd q0.1.1.2 b (z5 q3.1.1 (Uo .u32 q3.1.1.2.2.2.2.2))),()),())
  else
   ix q0.1.1.2 b <|
   some (((q0.1.1.1,upd q0.1.1.2 b q3.1.1),()),())))
def F128:Fn:=⟨[UC,au,acD],[acB],fun k (a,b,c,_)=>I6 k a b c⟩
theorem ok128:O 128 F128:=okF (ah ok185 <| ah ok186 <| ah ok221 <| ah ok222 <| ah ok223 aj) [] On Tryz.func128 rfl
def agv (k:Nat) (a:Q0):Option ((EO×Unit)×Unit) :=
 (FH k a.1).bind fun q0 =>
 (U0 k a.2).bind fun q1 =>
 some (((q0.1.1,q1.1.1),()),())
def F224:Fn:=⟨[Q5],[UD],fun k x=>agv k x.1⟩
theorem ok224:O 224 F224:=okF (ah ok219 <| ah ok263 aj) [] On Tryz.func224 rfl
def abM (k:Nat) (a:Q0) (b:Int):Option ((EO×Unit)×Unit) :=
 (agv k a).bind fun q0 =>
 (bif decide (b≥0) then
  (bif decide (b<(q0.1.1.1.length:Int)) then
   ix q0.1.1.1 b <|
   some (((upd q0.1.1.1 b 0,q0.1.1.2),()),())
  else
   some ((q0.1.1,()),()))
 else
  some ((q0.1.1,()),()))
def F129:Fn:=⟨[Q5,au],[UD],fun k x=>abM k x.1 x.2.1⟩
theorem ok129:O 129 F129:=okF (ah ok224 aj) [] On Tryz.func129 rfl
abbrev aiv:Cut:=⟨[1,2,54,55],[.box 42 [cI,cI,.own 54 AZ,.own 168 BU,.cell .bool,.cell .bool,.cell .bool,.own 59 su,.cell sj,.cell CU,.cell NM,.cell sj,.cell CU],.box 42 [cI,cI,.nil,.nil,.cell .bool,.cell .bool,.cell .bool,.nil,.nil,.nil,.nil,.nil,.nil],cI,cI],[],77,[(53,3)]⟩
def adt (k:Nat) (g8:F8 -> Int -> Int -> Bool -> Bool -> Bool -> Int -> Int -> Option EP) (a:BA) (b c:Int) (e f h:Bool) (i l:Int):Option EP :=
 (bif decide (l<i) then
  ix a.2.2.2.2.2.2.2.1 l <|
  (agt k (rd a.2.2.2.2.2.2.2.1 l ay) (-1)).bind fun q7 =>
  ix a.2.2.2.2.2.2.2.1 l <|
  g8 (w7 a (upd a.2.2.2.2.2.2.2.1 l q7.1.1)) b c e f h i (IntKind.i64.wrap (l+1))
 else
  (I6 k a.2.2.2.2.2.2.2.2.1 (-1) bf).bind fun q8 =>
  (abM k a.2.2.2.2.2.2.2.2.2 (-1)).bind fun q9 =>
  some (((w8 (z9 a q9.1.1) q8.1.1),()),()))
def an7 (k:Nat) (g:((Unit)×y5×NH×Int×Int×Unit) -> Option EP) (d:(Unit)×y5×NH×Int×Int×Unit):Option EP:=adt k (fun a b c e f h i l=>g ((),Q6 a,(b,c,(),(),e,f,h,(),(),(),(),(),(),()),i,l,())) (tvK d.2.1) d.2.2.1.1 d.2.2.1.2.1 d.2.2.1.2.2.2.2.1 d.2.2.1.2.2.2.2.2.1 d.2.2.1.2.2.2.2.2.2.1 d.2.2.2.1 d.2.2.2.2.1
def adu (k a:Nat) (b:BA) (c e:Int) (f h i:Bool) (l m:Int):Option EP:=iter aiv (an7 k) a ((),Q6 b,(c,e,(),(),f,h,i,(),(),(),(),(),(),()),l,m,())
theorem adv (k a b c e f h i l m):adu k (a+1) b c e f h i l m=adt k (adu k a) b c e f h i l m:=Ba _ _ _ _
abbrev aiw:Cut:=⟨[1,2,21,22],[.box 42 [cI,cI,.own 54 AZ,.own 168 BU,.cell .bool,.cell .bool,.cell .bool,.own 59 su,.cell sj,.cell CU,.cell NM,.cell sj,.cell CU],.box 42 [cI,cI,.nil,.nil,.cell .bool,.cell .bool,.cell .bool,.nil,.nil,.nil,.nil,.nil,.nil],cI,cI],[],77,[(20,1)]⟩
def adw (k:Nat) (g3:F8 -> Int -> Int -> Bool -> Bool -> Bool -> Int -> Int -> Option EP) (a:BA) (b c:Int) (e f h:Bool) (i l:Int):Option EP :=
 (bif decide (l<i) then
  ix a.2.2.1 l <|
  (QC k (rd a.2.2.1 l bg).2.2.2.1).bind fun q3 =>
  (QC k (rd a.2.2.1 l bg).2.2.2.2.1).bind fun q4 =>
  (QC k (rd a.2.2.1 l bg).2.2.2.2.2).bind fun q5 =>
  ix a.2.2.1 l <|
  ix (upd a.2.2.1 l (w3 (rd a.2.2.1 l bg) q3.1.1)) l <|
  let r6:List jr:=upd (upd a.2.2.1 l (w3 (rd a.2.2.1 l bg) q3.1.1)) l (w4 (rd (upd a.2.2.1 l (w3 (rd a.2.2.1 l bg) q3.1.1)) l bg) q4.1.1)
  ix r6 l <|
  g3 (a.1,a.2.1,upd r6 l (z5 (rd r6 l bg) q5.1.1),a.2.2.2) b c e f h i (IntKind.i64.wrap (l+1))
 else
  adu k k a b c e f h (a.2.2.2.2.2.2.2.1.length:Int) 0)
def an8 (k:Nat) (g:((Unit)×y5×NH×Int×Int×Unit) -> Option EP) (d:(Unit)×y5×NH×Int×Int×Unit):Option EP:=adw k (fun a b c e f h i l=>g ((),Q6 a,(b,c,(),(),e,f,h,(),(),(),(),(),(),()),i,l,())) (tvK d.2.1) d.2.2.1.1 d.2.2.1.2.1 d.2.2.1.2.2.2.2.1 d.2.2.1.2.2.2.2.2.1 d.2.2.1.2.2.2.2.2.2.1 d.2.2.2.1 d.2.2.2.2.1
def adx (k a:Nat) (b:BA) (c e:Int) (f h i:Bool) (l m:Int):Option EP:=iter aiw (an8 k) a ((),Q6 b,(c,e,(),(),f,h,i,(),(),(),(),(),(),()),l,m,())
theorem ady (k a b c e f h i l m):adx k (a+1) b c e f h i l m=adw k (adx k a) b c e f h i l m:=Ba _ _ _ _
def S56 (k:Nat) (a:BA):Option EP :=
 (ao7 k a.2.2.1).bind fun q0 =>
 (ao8 k a.2.2.2.1).bind fun q1 =>
 (ao9 k a.2.2.2.2.2.2.2.1).bind fun q2 =>
 adx k k (w7 (w3 (w2 a q0.1.1) q1.1.1) q2.1.1) 0 0 false false false (q0.1.1.length:Int) 0
def F56:Fn:=⟨[YW],[acC],fun k x=>S56 k x.1⟩
theorem ok56:O 56 F56:=okF (ah ok123 <| ah ok124 <| ah ok125 <| ah ok126 <| ah ok127 <| ah ok128 <| ah ok129 aj) [] (fun k=>(.loop 8 aiv (an7 k) (fun g=>.nil) (.loop 3 aiw (an8 k) (fun g=>.nil) .nil))) Tryz.func56 rfl
def aix (k:Nat) (a:acy) (b:Int):Option jk :=
 some ((IntKind.i64.wrap (a.1 - b),()),())
def F142:Fn:=⟨[.val ⟨true,su,false⟩,au],[rI],fun k x=>aix k x.1 x.2.1⟩
theorem ok142:O 142 F142:=okF aj [] On Tryz.func142 rfl
abbrev adz:Cut:=⟨[0,1,2,8,9,10],[.cell (.sl 59 su),cI,.lJ 142 [],cI,cI,cI],[],49,[]⟩
def abN (k:Nat) (g3:(List A9) -> Int -> Int -> Int -> Int -> Option CS) (a:List A9) (b c e f:Int):Option CS :=
 (bif decide (e<f) then
  ix a (IntKind.i64.wrap (Ul .u64 (IntKind.u64.wrap (IntKind.i64.wrap (e+f))) 1)) <|
  (aix k (rd a (IntKind.i64.wrap (Ul .u64 (IntKind.u64.wrap (IntKind.i64.wrap (e+f))) 1)) ay) b).bind fun q0 =>
  (bif decide (q0.1.1<0) then
   g3 a b c (IntKind.i64.wrap ((IntKind.i64.wrap (Ul .u64 (IntKind.u64.wrap (IntKind.i64.wrap (e+f))) 1))+1)) f
  else
   g3 a b c e (IntKind.i64.wrap (Ul .u64 (IntKind.u64.wrap (IntKind.i64.wrap (e+f))) 1)))
 else
  (bif decide (e<c) then
   ix a e <|
   (aix k (rd a e ay) b).bind fun q1 =>
   some ((e,q1.1.1==0,()),())
  else
   some ((e,false,()),())))
def aiy (k:Nat):Xx (((Unit)×(List A9)×Int×Unit×Int×Int×Int×Unit) -> Option CS):=eu (dw (dh (dh (dw (dh (dh (dh dx))))))) (abN k)
def QK (k a:Nat) (b:List A9) (c e f h:Int):Option CS:=iter adz (aiy k) a ((),b,c,(),e,f,h,())
theorem aiz (k a b c e f h):QK k (a+1) b c e f h=abN k (QK k a) b c e f h:=Ba _ _ _ _
def apa (k:Nat) (x:List A9) (a:Int):Option CS :=
 QK k k x a (x.length:Int) 0 (x.length:Int)
def F141:Fn:=⟨[.val ⟨false,(.sl 59 su),false⟩,au,.pv (.lJ 142 [])],[rI,rB],fun k x=>apa k x.1 x.2.1⟩
theorem ok141:O 141 F141:=okF (ah ok142 aj) [] (fun k=>(.loop 3 adz (aiy k) (fun g=>.nil) .nil)) Tryz.func141 rfl
def S71 (k:Nat) (a:BA) (b:Int):Option CS :=
 (apa k a.2.2.2.2.2.2.2.1 b).bind fun q0 =>
 some (q0.1,())
def F71:Fn:=⟨[.pv (.ref acw),au],[rI,rB],fun k x=>S71 k x.1 x.2.1⟩
theorem ok71:O 71 F71:=okF (ah ok141 aj) [] On Tryz.func71 rfl
section
variable (w:World) {g n c i j:Nat}
theorem QL:Tryz.prog.underlying 31=some (.slice 59) /\ Tryz.prog.underlying 3=some (.int .i64) /\ Tryz.prog.underlying 4=some .bool /\ Tryz.prog.follows .mixedOrders=true /\ (∀ w,(Go.sizeOf 59).run Tryz.prog w=.ok 28 w) /\ Tryz.f72.ntmps=33:=⟨by kernel_rfl,by kernel_rfl,by kernel_rfl,by kernel_rfl,fun w=>by kernel_rfl,rfl⟩
theorem ZP {v:Value} (hv:(∃ A n c,v=.slice A n c /\ i <= n /\ n <= c /\ c <= 9223372036854775807)):Calls Tryz.prog 72 #[v,.int .i64 i,.int .i64 i] w fun e w'=>e=.returned v /\ w'=w:=by
 obtain ⟨t24,t3,t4,mixed,z36,hnt⟩:=QL
 have u24:=run_underlying t24;have u3:=run_underlying t3;have u4:=run_underlying t4
 obtain ⟨A,n,c,rfl,hi,hnc,hc63⟩:=hv
 have hi0:(i:Int) <= (n:Int):=by omega
 have hi1:(0:Int) <= (i:Int):=by omega
 cases A <;> (go_enter Tryz.func72,hnt;go_wp2 <;> (go_ret;exact ⟨rfl,rfl⟩))
theorem ZQ {w' w'':World} (hlt:i<j) (hj:j <= n) (hnc:n <= c) (hc63:c <= 9223372036854775807)
  (hap:∀ ty A,(c≠j -> A=(⟨g,j * 28,none⟩:Addr)) -> (Builtin.append_ #[31,31] ty #[.slice (some ⟨g,0,none⟩) i c,.slice (some A) (n - j) (c - j)]).run Tryz.prog w.drew=.ok (.slice (some ⟨g,0,none⟩) (i+(n - j)) c) w')
  (hcl:∀ ty dc,(Builtin.clear_ #[31] ty #[.slice (some ⟨g,(i+(n - j)) * 28,none⟩) (n - (i+(n - j))) dc]).run Tryz.prog w'=.ok (.tuple #[]) w'') :
  Calls Tryz.prog 72 #[.slice (some ⟨g,0,none⟩) n c,.int .i64 i,.int .i64 j] w fun e w1=>e=.returned (.slice (some ⟨g,0,none⟩) (i+(n - j)) c) /\ w1=w'':=by
 obtain ⟨t24,t3,t4,mixed,z36,hnt⟩:=QL
 have u24:=run_underlying t24;have u3:=run_underlying t3;have u4:=run_underlying t4
 have hi0:(i:Int) <= (n:Int):=by omega
 have hj0:(j:Int) <= (n:Int):=by omega
 have hij:(i:Int) <= (j:Int):=by omega
 have hne:¬ ((i:Int)=(j:Int)):=by omega
 have hic:i <= c:=by omega
 have hjc:j <= c:=by omega
 have hln:i+(n - j) <= n:=by omega
 have hlc:i+(n - j) <= c:=by omega
 have hci:¬ (c=i+(n - j)):=by omega
 obtain ⟨A,hA,hA'⟩:∃ A:Addr,(if c=j then some (⟨g,0,none⟩:Addr) else some ⟨g,j * 28,none⟩)=some A /\ (c≠j -> A=(⟨g,j * 28,none⟩:Addr)):=by
  by_cases h:c=j
  · exact ⟨_,if_pos h,fun q=>absurd h q⟩
  · exact ⟨_,if_neg h,fun _=>rfl⟩
 try simp only [Nat.mul_one] at hA hcl
 go_enter Tryz.func72,hnt
 go_wp2_with fail
 go_region_law_o (refine Gz rfl rfl _ _ (by simp [Act.eval,Act.put]) (by simp [Act.eval,Act.put,hA]) (hap _ _ hA') ?_)
 go_wp2_with (at_builtin;refine Ji rfl rfl _ rfl (hcl _ _) ?_)
 go_ret
 exact ⟨rfl,rfl⟩
end
abbrev P72:List PT:=iG 59 su
abbrev R72:List RT:=qV 59 su
def S72 (k:Nat) (a:List A9) (i j:Int):Option (((List A9)×Unit)×Unit):=Jk 59 su k (a,i,j,())
def F72:Fn:=⟨P72,R72,Jk 59 su⟩
def E72:Env:=tab.env (fun _=>none) (fun _=>0)
theorem apc:aH Tryz.prog E72:=Kw Rt _ _ (fun f F h=>by cases h)
theorem ok72:O 72 F72:=by
 obtain ⟨i0,z,a1,a2,a3,a4,a5⟩:=(apc.ty 59 (su) (by kernel_rfl)).info
 have b2:Ty.sz (su)=28:=rfl
 have hz:z.cells.size=28:=by rw [<- Array.length_toList,a5,gZ,b2]
 obtain ⟨t24,t3,t4,mixed,z36,hnt⟩:=QL
 refine Qu Tryz.func72 rfl (by kernel_rfl) ?_
 rw [b2]
 exact Mr (S:=31) (z:=z) t24 a1 a4 (by rw [a2,b2]) hz (fun v hv=>tT (su) v (by rw [<- a5];exact hv)) (by decide) (fun w i v h=>ZP w h) (fun w g n c i j w' w'' h1 h2 h3 h4 h5 h6=>ZQ w h1 h2 h3 h4 h5 h6)
def U1 (k:Nat) (a:Int):Option ((YG×Unit)×Unit) :=
 some (((0,(a,0,0,0,0,0,0,0),[],false),()),())
def F109:Fn:=⟨[au],[.val ⟨true,(.pair (.int .i64) (.pair (Am 8 (.int .i64)) (.pair (.sl 293 (.pair (.int .i64) oq)) .bool))),true⟩],fun k x=>U1 k x.1⟩
theorem ok109:O 109 F109:=okF aj [] On Tryz.func109 rfl
def S74 (k:Nat) (a b c:Int):Option ((A9×Unit)×Unit) :=
 (U1 k c).bind fun q0 =>
 (U1 k c).bind fun q1 =>
 some (((a,b,c,0,q0.1.1,q1.1.1,[],false),()),())
def F74:Fn:=⟨[au,au,au],[.val ⟨true,su,true⟩],fun k (a,b,c,_)=>S74 k a b c⟩
theorem ok74:O 74 F74:=okF (ah ok109 aj) [] On Tryz.func74 rfl
section
variable (w:World) {g n c i g2 m c2:Nat}
theorem FI:Tryz.prog.underlying 31=some (.slice 59) /\ Tryz.prog.underlying 3=some (.int .i64) /\ Tryz.prog.underlying 4=some .bool /\ Tryz.prog.follows .mixedOrders=true /\ (∀ w,(Go.sizeOf 59).run Tryz.prog w=.ok 28 w) /\ Tryz.f73.ntmps=95:=⟨by kernel_rfl,by kernel_rfl,by kernel_rfl,by kernel_rfl,fun w=>by kernel_rfl,rfl⟩
theorem ZR {v u:Value} (hv:(∃ A n c,v=.slice A n c /\ i <= n)) (hu:∃ A c,u=.slice A m c) (hm:m=0):Calls Tryz.prog 73 #[v,.int .i64 i,u] w fun e w'=>e=.returned v /\ w'=w:=by
 obtain ⟨t24,t3,t4,mixed,z36,hnt⟩:=FI
 have u24:=run_underlying t24;have u3:=run_underlying t3;have u4:=run_underlying t4
 obtain ⟨A,n,c,rfl,hi⟩:=hv
 obtain ⟨A2,c2,rfl⟩:=hu
 have hi0:(i:Int) <= (n:Int):=by omega
 have hz1:(m:Int)=0:=by omega
 cases A <;> (go_enter Tryz.func73,hnt;go_wp2 <;> (go_ret;exact ⟨rfl,rfl⟩))
theorem abO {v:Value} {w':World} {v':Value} (hv:(∃ A c,v=.slice A n c)) (hm:0<m)
  (hr:∀ ty,(Builtin.append_ #[31,31] ty #[v,.slice (some ⟨g2,0,none⟩) m c2]).run Tryz.prog w=.ok v' w'):Calls Tryz.prog 73 #[v,.int .i64 n,.slice (some ⟨g2,0,none⟩) m c2] w fun e w1=>e=.returned v' /\ w1=w':=by
 obtain ⟨t24,t3,t4,mixed,z36,hnt⟩:=FI
 have u24:=run_underlying t24;have u3:=run_underlying t3;have u4:=run_underlying t4
 have hz1:¬ ((m:Int)=0):=by omega
 obtain ⟨A,c,rfl⟩:=hv
 go_enter Tryz.func73,hnt
 go_wp2_with (at_builtin;refine Gx rfl rfl _ _ rfl rfl (hr _) ?_)
 all_goals (go_ret;exact ⟨rfl,rfl⟩)
theorem Xa {v' v'':Value} {w' w'':World} (hi:i<n) (hm:0<m) (hroom:n+m <= c) (hc63:c <= 9223372036854775807)
  (hov:∀ lb cb,(callFunc 143 #[.slice (some ⟨g2,0,none⟩) m c2,.slice (some ⟨g,(i+m) * 28,none⟩) lb cb]).run Tryz.prog w=.ok (.value (.bool false)) w)
  (hcp1:∀ ty dc sc,(Builtin.copy_ #[31,31] ty #[.slice (some ⟨g,(i+m) * 28,none⟩) (n+m - (i+m)) dc,.slice (some ⟨g,i * 28,none⟩) (n+m - i) sc]).run Tryz.prog w.drew=.ok v' w')
  (hcp2:∀ ty dc,(Builtin.copy_ #[31,31] ty #[.slice (some ⟨g,i * 28,none⟩) (n+m - i) dc,.slice (some ⟨g2,0,none⟩) m c2]).run Tryz.prog w'=.ok v'' w'') :
  Calls Tryz.prog 73 #[.slice (some ⟨g,0,none⟩) n c,.int .i64 i,.slice (some ⟨g2,0,none⟩) m c2] w fun e w1=>e=.returned (.slice (some ⟨g,0,none⟩) (n+m) c) /\ w1=w'':=by
 obtain ⟨t24,t3,t4,mixed,z36,hnt⟩:=FI
 have u24:=run_underlying t24;have u3:=run_underlying t3;have u4:=run_underlying t4
 have hz1:¬ ((m:Int)=0):=by omega
 have hz2:¬ ((i:Int)=(n:Int)):=by omega
 have hw1:IntKind.i64.wrap ((i:Int)+(m:Int))=(i:Int)+(m:Int):=by rw [IntKind.wrap_i64];omega
 have hb1:(0:Int) <= (i:Int)+(m:Int):=by omega
 have hin:i <= n:=by omega
 have htn:((i:Int)+(m:Int)).toNat=i+m:=by omega
 have hb2:¬ (c=i+m):=by omega
 have hb3:(i:Int) <= (n:Int)+(m:Int):=by omega
 have hb4:¬ (c=i):=by omega
 go_enter Tryz.func73,hnt
 go_wp2_with (simp only [hov])
 go_region_law_o (refine Jp rfl rfl _ _ (by simp [Act.eval,Act.put]) (by simp [Act.eval,Act.put]) (hcp1 _ _ _) ?_)
 go_wp2_with (at_builtin;refine Jo rfl rfl _ _ rfl rfl (hcp2 _ _) ?_)
 go_ret
 exact ⟨rfl,rfl⟩
theorem ZT {h G:Nat} {v' v'':Value} {w0 w' w'':World} (hi:i<n) (hm:0<m) (hnc:n <= c) (hroom:c<n+m) (hc63:n+m <= 140737488355328) (hG:n+m <= G) (hG63:G <= 9223372036854775807)
  (hrz:∀ ty,(Builtin.append_ #[31,3] ty #[.slice (some ⟨g,0,none⟩) i c,.int .i64 ((n:Int)+(m:Int) - (i:Int))]).run Tryz.prog w=.ok (.slice (some ⟨h,0,none⟩) (n+m) G) w0)
  (hcp1:∀ ty dc,(Builtin.copy_ #[31,31] ty #[.slice (some ⟨h,i * 28,none⟩) (n+m - i) dc,.slice (some ⟨g2,0,none⟩) m c2]).run Tryz.prog w0=.ok v' w')
  (hcp2:∀ ty dc sc,(Builtin.copy_ #[31,31] ty #[.slice (some ⟨h,(i+m) * 28,none⟩) (n+m - (i+m)) dc,.slice (some ⟨g,i * 28,none⟩) (n - i) sc]).run Tryz.prog w'.drew=.ok v'' w'') :
  Calls Tryz.prog 73 #[.slice (some ⟨g,0,none⟩) n c,.int .i64 i,.slice (some ⟨g2,0,none⟩) m c2] w fun e w1=>e=.returned (.slice (some ⟨h,0,none⟩) (n+m) G) /\ w1=w'':=by
 obtain ⟨t24,t3,t4,mixed,z36,hnt⟩:=FI
 have u24:=run_underlying t24;have u3:=run_underlying t3;have u4:=run_underlying t4
 have hz1:¬ ((m:Int)=0):=by omega
 have hz2:¬ ((i:Int)=(n:Int)):=by omega
 have hz3:(c:Int)<(n:Int)+(m:Int):=by omega
 have hw1:IntKind.i64.wrap ((i:Int)+(m:Int))=(i:Int)+(m:Int):=by rw [IntKind.wrap_i64];omega
 have hb1:(0:Int) <= (i:Int)+(m:Int):=by omega
 have hin:i <= n:=by omega
 have htn:((i:Int)+(m:Int)).toNat=i+m:=by omega
 have hGi:¬ (G=i):=by omega
 have hGim:¬ (G=i+m):=by omega
 have hci:¬ (c=i):=by omega
 have hb3:(i:Int) <= (n:Int):=by omega
 go_enter Tryz.func73,hnt
 go_wp2_with (first
  | (at_builtin;refine Gx rfl rfl _ _ rfl rfl (hrz _) ?_)
  | (at_builtin;refine Jo rfl rfl _ _ rfl rfl (hcp1 _ _) ?_))
 go_region_law_o (refine Jp rfl rfl _ _ (by simp [Act.eval,Act.put]) (by simp [Act.eval,Act.put]) (hcp2 _ _ _) ?_)
 go_wp2
 go_ret
 exact ⟨rfl,rfl⟩
end
abbrev P73:List PT:=eG 59 su
abbrev R73:List RT:=qU 59 su
def S73 (k:Nat) (a:List A9) (b:Int) (c:List A9):Option (((List A9)×Unit)×Unit):=Jg 272 59 su k (a,b,c,())
def F73:Fn:=⟨P73,R73,Jg 272 59 su⟩
def E73:Env:=tab.env (fun _=>none) (fun _=>0)
theorem apd:aH Tryz.prog E73:=Kw Rt _ _ (fun f F h=>by cases h)
theorem ok73:O 73 F73:=by
 obtain ⟨i0,z,a1,a2,a3,a4,a5⟩:=(apd.ty 59 (su) (by kernel_rfl)).info
 have b1:E73.lK 59=272:=by kernel_rfl
 have b2:Ty.sz (su)=28:=rfl
 rw [b1] at a3
 have hz:z.cells.size=28:=by rw [<- Array.length_toList,a5,gZ,b2]
 obtain ⟨t24,t3,t4,mixed,z36,hnt⟩:=FI
 refine Qq Tryz.func73 rfl (by kernel_rfl) ?_
 rw [b2,<- a3]
 refine Mq (S:=31) (z:=z) t24 t3 a1 a4 (by rw [a2,b2]) hz (by decide) (by rw [a3];decide) (fun w i m v u h1 h2 h3=>ZR w h1 h2 h3) (fun w n g2 m c2 v v' w' h1 h2 h3=>abO w h1 h2 h3) (fun w g n c i g2 m c2 v' v'' w' w'' h1 h2 h3 h4 h5 h6 hne hg hg2=>Xa w h1 h2 h3 h4 (fun lb cb=>?_) h5 h6) (fun w g n c i g2 m c2 h G v' v'' w0 w' w'' h1 h2 h3 h4 h5 h6 h7 h8 h9 h10=>ZT w h1 h2 h3 h4 h5 h6 h7 h8 h9 h10)
 obtain ⟨cur,q1,q2⟩:=hg
 obtain ⟨xE,q3⟩:=hg2
 rw [run_callFunc_extern Tryz.func143 (by kernel_rfl) (by kernel_rfl) (by kernel_rfl) (e:=Extern.SlicesOverlaps.overlaps #[31,31] #[4]) (by kernel_rfl),Lib.run_overlaps_apart w 31 4 59 t24 28 z36 ⟨g2,0,none⟩ ⟨g,(i+m) * 28,none⟩ m c2 lb cb hne 59 59 xE.size cur.size (by simp [World.shape?,q3]) (by simp [World.shape?,q1]) q2 (Kd.fQ q3 _) (Kd.fQ q3 _)]
 rfl
abbrev alF:Cut:=⟨[1,2,3,6,9,10],[cI,cI,.box 42 [cI,cI,.own 54 AZ,.own 168 BU,.cell .bool,.cell .bool,.cell .bool,.own 59 su,.own 3 (.int .i64),.own 4 .bool,.own 142 I5,.own 3 (.int .i64),.own 4 .bool],.box 42 [cI,cI,.nil,.nil,.cell .bool,.cell .bool,.cell .bool,.nil,.nil,.nil,.nil,.nil,.nil],.own 51 acz,cI],[],98,[]⟩
def QM (k:Nat) (a b:Int) (c:BA) (e f:Int) (h i l:Bool) (m:List (PN Int 6)) (n:Int):Option ((F8×(List (PN Int 6))×Int×Unit)×Unit) :=
 (S74 k a c.1 b).bind fun q4 =>
 (S73 k c.2.2.2.2.2.2.2.1 n ([q4.1.1]:List A9)).bind fun q5 =>
 ap m ([(c.1,1,a,0,b,0)]:List (PN Int 6)) 48 fun r6 =>
 some (((w7 c q5.1.1),r6,0,()),())
abbrev alG:Cut:=⟨[1,2,3,6],[cI,cI,.box 42 [cI,cI,.own 54 AZ,.own 168 BU,.cell .bool,.cell .bool,.cell .bool,.own 59 su,.own 3 (.int .i64),.own 4 .bool,.own 142 I5,.own 3 (.int .i64),.own 4 .bool],.box 42 [cI,cI,.nil,.nil,.cell .bool,.cell .bool,.cell .bool,.nil,.nil,.nil,.nil,.nil,.nil]],[],98,[]⟩
def Xb (k:Nat) (a b:Int) (c:BA) (e f:Int) (h i l:Bool):Option ((F8×(List (PN Int 6))×Int×Unit)×Unit) :=
 (S71 k c a).bind fun q1 =>
 (bif q1.1.2.1 then
  ix c.2.2.2.2.2.2.2.1 q1.1.1 <|
  (bif (rd c.2.2.2.2.2.2.2.1 q1.1.1 ay).2.2.2.1 != 2 then
   some ((c,[],5,()),())
  else
   ap ([]:List (PN Int 6)) ([(c.1,13,a,0,0,0)]:List (PN Int 6)) 48 fun r2 =>
   (S72 k c.2.2.2.2.2.2.2.1 q1.1.1 (IntKind.i64.wrap (q1.1.1+1))).bind fun q3 =>
   QM k a b (w7 c q3.1.1) e f h i l r2 q1.1.1)
 else
  QM k a b c e f h i l ([]:List (PN Int 6)) q1.1.1)
def S30 (k:Nat) (a:BA) (b c:Int):Option ((F8×(List (PN Int 6))×Int×Unit)×Unit) :=
 (S56 k a).bind fun q0 =>
 (bif !q0.1.1.2.2.2.2.1 then
  some ((q0.1.1,[],8,()),())
 else
  (bif q0.1.1.2.2.2.2.2.1 then
   some ((q0.1.1,[],17,()),())
  else
   (bif decide (b<0) then
    some ((q0.1.1,[],3,()),())
   else
    (bif decide (b≥(q0.1.1.2.2.1.length:Int)) then
     some ((q0.1.1,[],3,()),())
    else
     (bif decide (b<(q0.1.1.2.2.2.2.2.2.2.2.2.2.length:Int)) then
      ix q0.1.1.2.2.2.2.2.2.2.2.2.2 b <|
      (bif rd q0.1.1.2.2.2.2.2.2.2.2.2.2 b false then
       some ((q0.1.1,[],6,()),())
      else
       Xb k b c q0.1.1 0 0 false false false)
     else
      Xb k b c q0.1.1 0 0 false false false)))))
def F30:Fn:=⟨[YW,au,au],[acC,.val ⟨false,(.sl 51 acz),true⟩,rI],fun k (a,b,c,_)=>S30 k a b c⟩
theorem ok30:O 30 F30:=okF (ah ok56 <| ah ok71 <| ah ok72 <| ah ok73 <| ah ok74 aj) [(9,2)] (fun k=>(.join 17 alF (fun d=>QM k d.2.1 d.2.2.1 (tvK d.2.2.2.1) d.2.2.2.2.1.1 d.2.2.2.2.1.2.1 d.2.2.2.2.1.2.2.2.2.1 d.2.2.2.2.1.2.2.2.2.2.1 d.2.2.2.2.1.2.2.2.2.2.2.1 d.2.2.2.2.2.1 d.2.2.2.2.2.2.1) (.join 10 alG (fun d=>Xb k d.2.1 d.2.2.1 (tvK d.2.2.2.1) d.2.2.2.2.1.1 d.2.2.2.2.1.2.1 d.2.2.2.2.1.2.2.2.2.1 d.2.2.2.2.1.2.2.2.2.2.1 d.2.2.2.2.1.2.2.2.2.2.2.1) .nil))) Tryz.func30 rfl
def S99 (k:Nat) (a:BA):Option EP :=
 (S30 k a (-1) 0).bind fun q0 =>
 some ((q0.1.1,()),())
def F99:Fn:=⟨[YW],[acC],fun k x=>S99 k x.1⟩
theorem ok99:O 99 F99:=okF (ah ok30 aj) [] On Tryz.func99 rfl
def aiA (k:Nat) (a:Q0):Option ((EO×Unit)×Unit) :=
 (FH k a.1).bind fun q0 =>
 (U0 k a.2).bind fun q1 =>
 some (((q0.1.1,q1.1.1),()),())
def F324:Fn:=⟨[Q5],[UD],fun k x=>aiA k x.1⟩
theorem ok324:O 324 F324:=okF (ah ok219 <| ah ok263 aj) [] On Tryz.func324 rfl
def aiB (k:Nat) (a:Q0):Option jk :=
 some ((mn (a.1.length:Int) (a.2.length:Int),()),())
def F326:Fn:=⟨[Q5],[rI],fun k x=>aiB k x.1⟩
theorem ok326:O 326 F326:=okF aj [] On Tryz.func326 rfl
abbrev adA:Cut:=⟨[0,1,7,8],[.cell CU,.cell .bool,cI,cI],[],19,[]⟩
def Xc (k:Nat) (g2:(List Bool) -> Bool -> Int -> Int -> Option jk) (a:List Bool) (b:Bool) (c e:Int):Option jk :=
 (bif decide (e<c) then
  ix a e <|
  (bif b==(rd a e false) then
   some ((e,()),())
  else
   g2 a b c (IntKind.i64.wrap (e+1)))
 else
  some (((-1),()),()))
def aiC (k:Nat):Xx (((Unit)×(List Bool)×Bool×Int×Int×Unit) -> Option jk):=eu (dw (dh (dh (dh (dh dx))))) (Xc k)
def LH (k a:Nat) (b:List Bool) (c:Bool) (e f:Int):Option jk:=iter adA (aiC k) a ((),b,c,e,f,())
theorem ZU (k a b c e f):LH k (a+1) b c e f=Xc k (LH k a) b c e f:=Ba _ _ _ _
def aiD (k:Nat) (a:List Bool) (b:Bool):Option jk :=
 LH k k a b (a.length:Int) 0
def F325:Fn:=⟨[.val ⟨false,CU,false⟩,.val ⟨false,.bool,false⟩],[rI],fun k x=>aiD k x.1 x.2.1⟩
theorem ok325:O 325 F325:=okF aj [] (fun k=>(.loop 2 adA (aiC k) (fun g=>.nil) .nil)) Tryz.func325 rfl
def alH (k:Nat) (a:Q0):Option ((EO×(Int×Int)×Bool×Unit)×Unit) :=
 (aiA k a).bind fun q0 =>
 (aiB k q0.1.1).bind fun q1 =>
 sx q0.1.1.2 0 q1.1.1 <|
 (aiD k (sub q0.1.1.2 0 q1.1.1) false).bind fun q2 =>
 (bif decide (q2.1.1<0) then
  some ((q0.1.1,(0,0),false,()),())
 else
  ix q0.1.1.1 q2.1.1 <|
  ix q0.1.1.1 q2.1.1 <|
  ix q0.1.1.2 q2.1.1 <|
  ix (upd q0.1.1.1 q2.1.1 (IntKind.i64.wrap ((rd q0.1.1.1 q2.1.1 0)+1))) q2.1.1 <|
  some (((upd q0.1.1.1 q2.1.1 (IntKind.i64.wrap ((rd q0.1.1.1 q2.1.1 0)+1)),upd q0.1.1.2 q2.1.1 true),(q2.1.1,rd (upd q0.1.1.1 q2.1.1 (IntKind.i64.wrap ((rd q0.1.1.1 q2.1.1 0)+1))) q2.1.1 0),true,()),()))
def F252:Fn:=⟨[Q5],[UD,.val ⟨true,oq,true⟩,rB],fun k x=>alH k x.1⟩
theorem ok252:O 252 F252:=okF (ah ok324 <| ah ok325 <| ah ok326 aj) [] On Tryz.func252 rfl
def agw (k:Nat) (a:Int) (b:Int×Int):Option ((qj×Unit)×Unit) :=
 (bif a==1 then
  some (((a,b,(8,0),([],[]),(0,[]),0),()),())
 else
  some (((a,b,(0,0),([],[]),(0,[]),0),()),()))
def F233:Fn:=⟨[au,ahD],[.val ⟨true,I5,true⟩],fun k x=>agw k x.1 x.2.1⟩
theorem ok233:O 233 F233:=okF aj [] On Tryz.func233 rfl
abbrev adB:Cut:=⟨[1,4,5,7,8,9,20,21,22],[cI,.box 38 [.nil,.nil,.nil],.box 95 [cI,cI],.mp 253 false (.int .i64) false (.int .i64),.box 38 [.own 3 (.int .i64),.own 4 .bool,.own 142 I5],cI,.cell NM,cI,cI],[],72,[]⟩
def Xd (k:Nat) (g4:Int -> Int -> Int -> jy -> (List Int) -> (List Bool) -> (List qj) -> Int -> (List qj) -> Int -> Int -> Option YM) (a b c:Int) (e:oh) (f:List Int) (h:List Bool) (i:List qj) (l:Int) (m:List qj) (n o:Int):Option YM :=
 (bif decide (o<n) then
  ix m o <|
  (bif (rd m o bf).1==a then
   g4 a b c e f h i (IntKind.i64.wrap (l+1)) m n (IntKind.i64.wrap (o+1))
  else
   g4 a b c e f h i l m n (IntKind.i64.wrap (o+1)))
 else
  (alH k (f,h)).bind fun q1 =>
  (bif decide (l≥(Us (.int .i64) (.int .i64) a e 0)) then
   some ((((f,h),i),(0,0),false,()),())
  else
   (bif !q1.1.2.2.1 then
    some ((((f,h),i),(0,0),false,()),())
   else
    (bif decide (q1.1.2.1.1≥(i.length:Int)) then
     some ((((f,h),i),(0,0),false,()),())
    else
     (agw k a q1.1.2.1).bind fun q2 =>
     (abL k q2.1.1).bind fun q3 =>
     ix i q1.1.2.1.1 <|
     some (((q1.1.1,upd i q1.1.2.1.1 q3.1.1),q1.1.2.1,true,()),())))))
def aiE (k:Nat):Xx (((Unit)×Int×(Unit×Unit×Unit×Unit)×(Int×Int×Unit)×jy×an4×Int×(List qj)×Int×Int×Unit) -> Option YM):=eu (dw (dh (d9 (dw (dw (dw dx))) (d9 (dh (dh dx)) (dh (d9 (dh (dh (dh dx))) (dh (dh (dh (dh dx)))))))))) (Xd k)
def Xe (k a:Nat) (b c e:Int) (f:oh) (h:List Int) (i:List Bool) (l:List qj) (m:Int) (n:List qj) (o p:Int):Option YM:=iter adB (aiE k) a ((),b,((),(),(),()),(c,e,()),f,(h,i,l,()),m,n,o,p,())
theorem ZV (k a b c e f h i l m n o p):Xe k (a+1) b c e f h i l m n o p=Xd k (Xe k a) b c e f h i l m n o p:=Ba _ _ _ _
def alI (k:Nat) (a:EO×List qj) (b:Int):Option YM :=
 (X3 k a).bind fun q0 =>
 Xe k k b 0 0 (vL (.int .i64) (.int .i64) 3 4 (vL (.int .i64) (.int .i64) 2 4 (vL (.int .i64) (.int .i64) 1 4 ([]:List (Int×Int))))) q0.1.1.1.1 q0.1.1.1.2 q0.1.1.2 0 a.2 (a.2.length:Int) 0
def F167:Fn:=⟨[UC,au],[acB,.val ⟨true,oq,true⟩,rB],fun k x=>alI k x.1 x.2.1⟩
theorem ok167:O 167 F167:=okF (ah ok185 <| ah ok221 <| ah ok233 <| ah ok252 aj) [] (fun k=>(.loop 4 adB (aiE k) (fun g=>.nil) .nil)) Tryz.func167 rfl
abbrev ape:Cut:=⟨[0,2],[.pin false 0,.mp 253 false (.int .i64) false (.int .i64)],[.fK 175 [cI,cI,.cell o9,.cell YS,.cell .bool,.cell .bool,.cell .bool,.cell (.sl 59 su),.cell sj,.cell CU,.cell NM,.cell sj,.cell CU,cI,cI,cI,cI,.cell p9,.cell p9,.cell p9,cI,cI,cI,cI,.cell (.int .u32),.own 51 acz,cI,cI,cI,cI]],58,[]⟩
def ZW (k:Nat) (a:F9) (b:oh):Option NK :=
 (alI k a.1.2.2.2.2.2.2.2.2.1 (Us (.int .i64) (.int .i64) a.2.1.1 b 0)).bind fun q0 =>
 (bif !q0.1.2.2.1 then
  some ((),AO (w3 a 4),())
 else
  some ((),AO (w4 (w0 a (w8 a.1 q0.1.1)) q0.1.2.1),()))
def S90 (k:Nat) (a:F9):Option NK :=
 (bif a.2.1.1==2 then
  (bif a.1.2.2.2.2.1 then
   some ((),AO (w3 a 7),())
  else
   ZW k a (vL (.int .i64) (.int .i64) 4 3 (vL (.int .i64) (.int .i64) 3 2 (vL (.int .i64) (.int .i64) 2 1 ([]:List (Int×Int))))))
 else
  ZW k a (vL (.int .i64) (.int .i64) 4 3 (vL (.int .i64) (.int .i64) 3 2 (vL (.int .i64) (.int .i64) 2 1 ([]:List (Int×Int))))))
def F90:Fn:=⟨[YU],[],fun k x=>S90 k (pz x.1)⟩
theorem ok90:O 90 F90:=okF (ah ok167 aj) [] (fun k=>(.join 3 ape (fun d=>ZW k (pz d.1.1) d.2.2.1) .nil)) Tryz.func90 rfl
abbrev adC:Cut:=⟨[2,6,7,8],[.own 3 (.int .i64),.cell NM,cI,cI],[],22,[]⟩
def Xf (k:Nat) (g2:(List Int) -> (List qj) -> Int -> Int -> Option qo) (a:List Int) (b:List qj) (c e:Int):Option qo :=
 (bif decide (e<c) then
  ix b e <|
  (bif (rd b e bf).1==1 then
   ap a ([e]:List Int) 8 fun r0 =>
   g2 r0 b c (IntKind.i64.wrap (e+1))
  else
   g2 a b c (IntKind.i64.wrap (e+1)))
 else
  some ((a,()),()))
def aiF (k:Nat):Xx (((Unit)×(List Int)×(List qj)×Int×Int×Unit) -> Option qo):=eu (dw (dh (dh (dh (dh dx))))) (Xf k)
def Xg (k a:Nat) (b:List Int) (c:List qj) (e f:Int):Option qo:=iter adC (aiF k) a ((),b,c,e,f,())
theorem ZX (k a b c e f):Xg k (a+1) b c e f=Xf k (Xg k a) b c e f:=Ba _ _ _ _
def ZY (k:Nat) (a:EO×List qj):Option qo :=
 Xg k k ([]:List Int) a.2 (a.2.length:Int) 0
def F107:Fn:=⟨[UC],[ahC],fun k x=>ZY k x.1⟩
theorem ok107:O 107 F107:=okF aj [(2,2)] (fun k=>(.loop 2 adC (aiF k) (fun g=>.nil) .nil)) Tryz.func107 rfl
abbrev aiG:Cut:=⟨[1,2,7,8,9],[.box 42 [cI,cI,.cell o9,.cell YS,.cell .bool,.cell .bool,.cell .bool,.cell (.sl 59 su),.cell sj,.cell CU,.cell NM,.cell sj,.cell CU],.own 121 oq,.own 3 (.int .i64),cI,cI],[],25,[]⟩
def adD (k:Nat) (g2:F8 -> jy -> (List Int) -> Int -> Int -> Option zl) (a:BA) (b:oh) (c:List Int) (e f:Int):Option zl :=
 (bif decide (f<e) then
  ix c f <|
  ix a.2.2.2.2.2.2.2.2.1.2 (rd c f 0) <|
  ap b ([(rd a.2.2.2.2.2.2.2.2.1.2 (rd c f 0) bf).2.2.1]:List (Int×Int)) 16 fun r1 =>
  g2 a r1 c e (IntKind.i64.wrap (f+1))
 else
  some ((b,()),()))
def aoa (k:Nat) (g:((Unit)×y5×jy×(List Int)×Int×Int×Unit) -> Option zl) (d:(Unit)×y5×jy×(List Int)×Int×Int×Unit):Option zl:=adD k (fun a b c e f=>g ((),Q6 a,b,c,e,f,())) (tvK d.2.1) d.2.2.1 d.2.2.2.1 d.2.2.2.2.1 d.2.2.2.2.2.1
def adE (k a:Nat) (b:BA) (c:oh) (e:List Int) (f h:Int):Option zl:=iter aiG (aoa k) a ((),Q6 b,c,e,f,h,())
theorem adF (k a b c e f h):adE k (a+1) b c e f h=adD k (adE k a) b c e f h:=Ba _ _ _ _
def S48 (k:Nat) (a:BA):Option zl :=
 (ZY k a.2.2.2.2.2.2.2.2.1).bind fun q0 =>
 adE k k a ([]:List (Int×Int)) q0.1.1 (q0.1.1.length:Int) 0
def F48:Fn:=⟨[YW],[.val ⟨false,(.sl 121 oq),true⟩],fun k x=>S48 k x.1⟩
theorem ok48:O 48 F48:=okF (ah ok107 aj) [(2,2)] (fun k=>(.loop 2 aiG (aoa k) (fun g=>.nil) .nil)) Tryz.func48 rfl
def S59 (k:Nat) (a:Int×Int×Int×Int) (b:oh):Option j3 :=
 (bif a.1==9 then
  some ((decide (a.2.1≥(b.length:Int)),()),())
 else
  some ((false,()),()))
def F59:Fn:=⟨[agf,.pv (.ref (.sl 121 oq))],[rB],fun k x=>S59 k x.1 x.2.1⟩
theorem ok59:O 59 F59:=okF aj [] On Tryz.func59 rfl
abbrev aac:Cut:=⟨[0,1,7,8],[.cell p9,.lJ 59 [.ref (.sl 121 oq)],cI,cI],[],19,[]⟩
def OZ (k:Nat) (g2:(List jl) -> jy -> Int -> Int -> Option jk) (a:List jl) (b:oh) (c e:Int):Option jk :=
 (bif decide (e<c) then
  ix a e <|
  (S59 k (rd a e (0,0,0,0)) b).bind fun q0 =>
  (bif q0.1.1 then
   some ((e,()),())
  else
   g2 a b c (IntKind.i64.wrap (e+1)))
 else
  some (((-1),()),()))
def adG (k:Nat):Xx (((Unit)×(List jl)×(jy×Unit)×Int×Int×Unit) -> Option jk):=eu (dw (dh (d9 (dh dx) (dh (dh dx))))) (OZ k)
def GH (k a:Nat) (b:List jl) (c:oh) (e f:Int):Option jk:=iter aac (adG k) a ((),b,(c,()),e,f,())
theorem UW (k a b c e f):GH k (a+1) b c e f=OZ k (GH k a) b c e f:=Ba _ _ _ _
def adH (k:Nat) (a:List jl) (b:oh):Option jk :=
 GH k k a b (a.length:Int) 0
def F130d:Fn:=⟨[DL,.pv (.lJ 59 [.ref (.sl 121 oq)])],[rI],fun k x=>adH k x.1 x.2.1.1⟩
theorem ok130d:O 130 F130d:=okF (ah ok59 aj) [] (fun k=>(.loop 2 aac (adG k) (fun g=>.nil) .nil)) Tryz.func130 rfl
def apf (k:Nat) (a:List jl) (b:oh):Option j3 :=
 (adH k a b).bind fun q0 =>
 some ((decide (q0.1.1≥0),()),())
def F57c:Fn:=⟨[DL,.pv (.lJ 59 [.ref (.sl 121 oq)])],[rB],fun k x=>apf k x.1 x.2.1.1⟩
theorem ok57c:O 57 F57c:=okF (ah ok130d aj) [] On Tryz.func57 rfl
abbrev aiH:Cut:=⟨[0,1,11,12,13],[.pin false 0,.cell (.sl 121 oq),.own 3 (.int .i64),cI,cI],[.fK 42 [cI,cI,.cell o9,.own 168 BU,.cell .bool,.cell .bool,.cell .bool,.own 59 su,.own 3 (.int .i64),.own 4 .bool,.own 142 I5,.own 3 (.int .i64),.own 4 .bool]],55,[]⟩
def adI (k:Nat) (g1:F8 -> jy -> (List Int) -> Int -> Int -> Option ((Unit)×y5×Unit)) (a:BA) (b:oh) (c:List Int) (e f:Int):Option ((Unit)×y5×Unit) :=
 (bif decide (f<e) then
  ix c f <|
  ix a.2.2.2.2.2.2.2.2.1.2 (rd c f 0) <|
  (bif decide (f<(b.length:Int)) then
   ix b f <|
   (bif !(fC oq (rd a.2.2.2.2.2.2.2.2.1.2 (rd c f 0) bf).2.2.1 (rd b f (0,0))) then
    ix b f <|
    (I6 k a.2.2.2.2.2.2.2.2.1 (rd c f 0) ((rd a.2.2.2.2.2.2.2.2.1.2 (rd c f 0) bf).1,(rd a.2.2.2.2.2.2.2.2.1.2 (rd c f 0) bf).2.1,rd b f (0,0),(rd a.2.2.2.2.2.2.2.2.1.2 (rd c f 0) bf).2.2.2)).bind fun q1 =>
    g1 (w8 a q1.1.1) b c e (IntKind.i64.wrap (f+1))
   else
    g1 a b c e (IntKind.i64.wrap (f+1)))
  else
   g1 a b c e (IntKind.i64.wrap (f+1)))
 else
  some ((),Q6 a,()))
def aob (k:Nat) (g:((y5×Unit)×Unit×jy×(List Int)×Int×Int×Unit) -> Option ((Unit)×y5×Unit)) (d:(y5×Unit)×Unit×jy×(List Int)×Int×Int×Unit):Option ((Unit)×y5×Unit):=adI k (fun a b c e f=>g ((Q6 a,()),(),b,c,e,f,())) (tvK d.1.1) d.2.2.1 d.2.2.2.1 d.2.2.2.2.1 d.2.2.2.2.2.1
def UY (k a:Nat) (b:BA) (c:oh) (e:List Int) (f h:Int):Option ((Unit)×y5×Unit):=iter aiH (aob k) a ((Q6 b,()),(),c,e,f,h,())
theorem adJ (k a b c e f h):UY k (a+1) b c e f h=adI k (UY k a) b c e f h:=Ba _ _ _ _
def S61 (k:Nat) (a:BA) (b:oh):Option ((Unit)×y5×Unit) :=
 (ZY k a.2.2.2.2.2.2.2.2.1).bind fun q0 =>
 UY k k a b q0.1.1 (q0.1.1.length:Int) 0
def F61:Fn:=⟨[.fK 42 [cI,cI,.cell o9,.own 168 BU,.cell .bool,.cell .bool,.cell .bool,.own 59 su,.own 3 (.int .i64),.own 4 .bool,.own 142 I5,.own 3 (.int .i64),.own 4 .bool],.val ⟨false,(.sl 121 oq),false⟩],[],fun k x=>S61 k (tvK x.1) x.2.1⟩
theorem ok61:O 61 F61:=okF (ah ok107 <| ah ok128 aj) [] (fun k=>(.loop 1 aiH (aob k) (fun g=>.nil) .nil)) Tryz.func61 rfl
abbrev adK:Cut:=⟨[1,2,4,33,34],[.box 42 [cI,cI,.cell o9,.own 168 BU,.cell .bool,.cell .bool,.cell .bool,.own 59 su,.own 3 (.int .i64),.own 4 .bool,.own 142 I5,.own 3 (.int .i64),.own 4 .bool],.box 42 [cI,cI,.nil,.nil,.cell .bool,.cell .bool,.cell .bool,.nil,.nil,.nil,.nil,.nil,.nil],.box 118 [.own 121 oq],cI,cI],[],50,[]⟩
def Xh (k:Nat) (g12:F8 -> Int -> Int -> Bool -> Bool -> Bool -> jy -> Int -> Int -> Option FC) (a:BA) (b c:Int) (e f h:Bool) (i:oh) (l m:Int):Option FC :=
 (bif decide (m<l) then
  (S60 k a.2.2.1 m).bind fun q4 =>
  ix i m <|
  g12 a b c e f h (upd i m (q4.1.1,(rd i m (0,0)).2)) l (IntKind.i64.wrap (m+1))
 else
  (S61 k a i).bind fun q5 =>
  some (((w4 (tvK q5.2.1) true),0,()),()))
def aiI (k:Nat) (g:((Unit)×y5×NH×(jy×Unit)×Int×Int×Unit) -> Option FC) (d:(Unit)×y5×NH×(jy×Unit)×Int×Int×Unit):Option FC:=Xh k (fun a b c e f h i l m=>g ((),Q6 a,(b,c,(),(),e,f,h,(),(),(),(),(),(),()),(i,()),l,m,())) (tvK d.2.1) d.2.2.1.1 d.2.2.1.2.1 d.2.2.1.2.2.2.2.1 d.2.2.1.2.2.2.2.2.1 d.2.2.1.2.2.2.2.2.2.1 d.2.2.2.1.1 d.2.2.2.2.1 d.2.2.2.2.2.1
def Xi (k a:Nat) (b:BA) (c e:Int) (f h i:Bool) (l:oh) (m n:Int):Option FC:=iter adK (aiI k) a ((),Q6 b,(c,e,(),(),f,h,i,(),(),(),(),(),(),()),(l,()),m,n,())
theorem aad (k a b c e f h i l m n):Xi k (a+1) b c e f h i l m n=Xh k (Xi k a) b c e f h i l m n:=Ba _ _ _ _
abbrev aiJ:Cut:=⟨[1,2,4,16,17,18],[.box 42 [cI,cI,.cell o9,.own 168 BU,.cell .bool,.cell .bool,.cell .bool,.own 59 su,.own 3 (.int .i64),.own 4 .bool,.own 142 I5,.own 3 (.int .i64),.own 4 .bool],.box 42 [cI,cI,.nil,.nil,.cell .bool,.cell .bool,.cell .bool,.nil,.nil,.nil,.nil,.nil,.nil],.box 118 [.own 121 oq],.cell o9,cI,cI],[],50,[]⟩
def adL (k:Nat) (g6:F8 -> Int -> Int -> Bool -> Bool -> Bool -> jy -> (List jr) -> Int -> Int -> Option FC) (a:BA) (b c:Int) (e f h:Bool) (i:oh) (l:List jr) (m n:Int):Option FC :=
 (bif decide (n<m) then
  ix l n <|
  (S58 k ([(rd l n bg).2.2.2.1,(rd l n bg).2.2.2.2.1]:List (List jl))).bind fun q2 =>
  (apf k q2.1.1 i).bind fun q3 =>
  (bif q3.1.1 then
   some ((a,4,()),())
  else
   g6 a b c e f h i l m (IntKind.i64.wrap (n+1)))
 else
  Xi k k a b c e f h i (i.length:Int) 0)
def aoc (k:Nat) (g:((Unit)×y5×NH×(jy×Unit)×(List jr)×Int×Int×Unit) -> Option FC) (d:(Unit)×y5×NH×(jy×Unit)×(List jr)×Int×Int×Unit):Option FC:=adL k (fun a b c e f h i l m n=>g ((),Q6 a,(b,c,(),(),e,f,h,(),(),(),(),(),(),()),(i,()),l,m,n,())) (tvK d.2.1) d.2.2.1.1 d.2.2.1.2.1 d.2.2.1.2.2.2.2.1 d.2.2.1.2.2.2.2.2.1 d.2.2.1.2.2.2.2.2.2.1 d.2.2.2.1.1 d.2.2.2.2.1 d.2.2.2.2.2.1 d.2.2.2.2.2.2.1
def adM (k a:Nat) (b:BA) (c e:Int) (f h i:Bool) (l:oh) (m:List jr) (n o:Int):Option FC:=iter aiJ (aoc k) a ((),Q6 b,(c,e,(),(),f,h,i,(),(),(),(),(),(),()),(l,()),m,n,o,())
theorem adN (k a b c e f h i l m n o):adM k (a+1) b c e f h i l m n o=adL k (adM k a) b c e f h i l m n o:=Ba _ _ _ _
def S23 (k:Nat) (a:BA):Option FC :=
 (S56 k a).bind fun q0 =>
 (bif q0.1.1.2.2.2.2.1 then
  some ((q0.1.1,7,()),())
 else
  (S48 k q0.1.1).bind fun q1 =>
  adM k k q0.1.1 0 0 false false false q1.1.1 q0.1.1.2.2.1 (q0.1.1.2.2.1.length:Int) 0)
def F23:Fn:=⟨[YW],[.val ⟨true,acw,false⟩,rI],fun k x=>S23 k x.1⟩
theorem ok23:O 23 F23:=okF (ah ok48 <| ah ok56 <| ah ok57c <| ah ok58 <| ah ok60 <| ah ok61 aj) [] (fun k=>(.loop 12 adK (aiI k) (fun g=>.nil) (.loop 6 aiJ (aoc k) (fun g=>.nil) .nil))) Tryz.func23 rfl
def S91 (k:Nat) (a:F9):Option NK :=
 (S23 k a.1).bind fun q0 =>
 (bif q0.1.2.1==0 then
  (S87 k (q0.1.1.2.2.1.length:Int)).bind fun q1 =>
  some ((),AO ((z9 q0.1.1 q1.1.1),a.2.1,a.2.2.1,q0.1.2.1,a.2.2.2.2),())
 else
  some ((),AO (w3 a q0.1.2.1),()))
def F91:Fn:=⟨[YU],[],fun k x=>S91 k (pz x.1)⟩
theorem ok91:O 91 F91:=okF (ah ok23 <| ah ok87 aj) [] On Tryz.func91 rfl
def S92 (k:Nat) (a:F9):Option NK :=
 (S30 k a.1 a.2.1.2.2.2.1 a.2.1.2.2.2.2.1).bind fun q0 =>
 some ((),AO (q0.1.1,a.2.1,q0.1.2.1,q0.1.2.2.1,a.2.2.2.2),())
def F92:Fn:=⟨[YU],[],fun k x=>S92 k (pz x.1)⟩
theorem ok92:O 92 F92:=okF (ah ok30 aj) [] On Tryz.func92 rfl
abbrev adO:Cut:=⟨[1,3,7,8],[.box 35 [.cell sj,.cell CU],.mp 432 true oq false .bool,cI,cI],[],26,[]⟩
def Xj (k:Nat) (g3:(List Int) -> (List Bool) -> (List YT) -> Int -> Int -> Option YN) (a:List Int) (b:List Bool) (c:List YT) (e f:Int):Option YN :=
 (bif decide (f<e) then
  ix b f <|
  (bif rd b f false then
   ix a f <|
   g3 a b (vL oq .bool (f,rd a f 0) true c) e (IntKind.i64.wrap (f+1))
  else
   g3 a b c e (IntKind.i64.wrap (f+1)))
 else
  some ((c,()),()))
def aiK (k:Nat):Xx (((Unit)×((List Int)×(List Bool)×Unit)×(List YT)×Int×Int×Unit) -> Option YN):=eu (dw (d9 (dh (dh dx)) (dh (dh (dh dx))))) (Xj k)
def Xk (k a:Nat) (b:List Int) (c:List Bool) (e:List YT) (f h:Int):Option YN:=iter adO (aiK k) a ((),(b,c,()),e,f,h,())
theorem aae (k a b c e f h):Xk k (a+1) b c e f h=Xj k (Xk k a) b c e f h:=Ba _ _ _ _
def apg (k:Nat) (a:Q0):Option YN :=
 (aiB k a).bind fun q0 =>
 Xk k k a.1 a.2 ([]:List YT) q0.1.1 0
def F352:Fn:=⟨[Q5],[.pv (.mp 432 true oq false .bool)],fun k x=>apg k x.1⟩
theorem ok352:O 352 F352:=okF (ah ok326 aj) [] (fun k=>(.loop 3 adO (aiK k) (fun g=>.nil) .nil)) Tryz.func352 rfl
def aiL (k:Nat) (a:Q0) (b:Int×Int):Option j3 :=
 (apg k a).bind fun q0 =>
 some ((Us oq .bool b q0.1.1 false,()),())
def F327:Fn:=⟨[Q5,ahD],[rB],fun k x=>aiL k x.1 x.2.1⟩
theorem ok327:O 327 F327:=okF (ah ok352 aj) [] On Tryz.func327 rfl
def agx (k:Nat) (a:EO×List qj) (b:Int×Int):Option CS :=
 (aiL k a.1 b).bind fun q0 =>
 (bif !q0.1.1 then
  some ((0,false,()),())
 else
  (agu k a b.1).bind fun q1 =>
  (bif !q1.1.1 then
   some ((0,false,()),())
  else
   some ((b.1,true,()),())))
def F253:Fn:=⟨[UC,ahD],[rI,rB],fun k x=>agx k x.1 x.2.1⟩
theorem ok253:O 253 F253:=okF (ah ok186 <| ah ok327 aj) [] On Tryz.func253 rfl
def abP (k:Nat) (a:F9) (b:Int):Option ((Int×qj×Bool×Unit)×an1×Unit) :=
 (agx k a.1.2.2.2.2.2.2.2.2.1 a.2.1.2.2.1).bind fun q0 =>
 (bif !q0.1.2.1 then
  some ((0,bf,false,()),AO (w3 a 3),())
 else
  ix a.1.2.2.2.2.2.2.2.2.1.2 q0.1.1 <|
  (bif (rd a.1.2.2.2.2.2.2.2.2.1.2 q0.1.1 bf).1 != b then
   some ((0,bf,false,()),AO (w3 a 3),())
  else
   ix a.1.2.2.2.2.2.2.2.2.1.2 q0.1.1 <|
   some ((q0.1.1,rd a.1.2.2.2.2.2.2.2.2.1.2 q0.1.1 bf,true,()),AO a,())))
def F168:Fn:=⟨[YU,au],[rI,.val ⟨true,I5,false⟩,rB],fun k x=>abP k (pz x.1) x.2.1⟩
theorem ok168:O 168 F168:=okF (ah ok253 aj) [] On Tryz.func168 rfl
def aiM (k:Nat) (a:(List Int)×List Int):Option ((((List Int)×List Int)×Unit)×Unit) :=
 (ZI k a.1).bind fun q0 =>
 (FH k a.2).bind fun q1 =>
 some (((q0.1.1,q1.1.1),()),())
def F254:Fn:=⟨[aoN],[.val ⟨true,(.pair IB sj),true⟩],fun k x=>aiM k x.1⟩
theorem ok254:O 254 F254:=okF (ah ok219 <| ah ok287 aj) [] On Tryz.func254 rfl
def aiN (k:Nat) (a:(List Int)×List Int) (b:Int):Option ((((List Int)×List Int)×Int×Bool×Unit)×Unit) :=
 (aiM k a).bind fun q0 =>
 (bif decide ((q0.1.1.2.length:Int)>0) then
  ix q0.1.1.2 0 <|
  sx q0.1.1.2 1 (q0.1.1.2.length:Int) <|
  some (((q0.1.1.1,sub q0.1.1.2 1 (q0.1.1.2.length:Int)),rd q0.1.1.2 0 0,true,()),())
 else
  (bif decide ((q0.1.1.1.length:Int)≥4) then
   some ((q0.1.1,0,false,()),())
  else
   ap q0.1.1.1 ([b]:List Int) 8 fun r1 =>
   some (((r1,q0.1.1.2),0,true,()),())))
def F169:Fn:=⟨[aoN,au],[aqA,rI,rB],fun k x=>aiN k x.1 x.2.1⟩
theorem ok169:O 169 F169:=okF (ah ok254 aj) [] On Tryz.func169 rfl
def aiO (k:Nat) (a:F9) (b c e:Int):Option NK :=
 ap a.2.2.1 ([(a.1.1,12,0,b,c,e)]:List (PN Int 6)) 48 fun r0 =>
 some ((),AO (a.1,a.2.1,r0,a.2.2.2),())
def F170:Fn:=⟨[YU,au,au,au],[],fun k x=>aiO k (pz x.1) x.2.1 x.2.2.1 x.2.2.2.1⟩
theorem ok170:O 170 F170:=okF aj [] On Tryz.func170 rfl
def S93 (k:Nat) (a:F9):Option NK :=
 (abP k a 2).bind fun q0 =>
 (bif !q0.1.2.2.1 then
  some ((),q0.2.1,())
 else
  (aiN k q0.1.2.1.2.2.2.1 (pz q0.2.1).2.1.2.2.2.2.1).bind fun q1 =>
  (bif !q1.1.2.2.1 then
   some ((),AO (w3 (pz q0.2.1) 4),())
  else
   (bif decide (q1.1.2.1>0) then
    (aiO k (pz q0.2.1) q1.1.2.1 (pz q0.2.1).2.1.2.2.2.2.1 0).bind fun q2 =>
    (I6 k (pz q2.2.1).1.2.2.2.2.2.2.2.2.1 q0.1.1 (w3 q0.1.2.1 q1.1.1)).bind fun q3 =>
    some ((),AO ((w8 (pz q2.2.1).1 q3.1.1),(pz q2.2.1).2),())
   else
    (I6 k (pz q0.2.1).1.2.2.2.2.2.2.2.2.1 q0.1.1 (w3 q0.1.2.1 q1.1.1)).bind fun q4 =>
    some ((),AO ((w8 (pz q0.2.1).1 q4.1.1),(pz q0.2.1).2),()))))
def F93:Fn:=⟨[YU],[],fun k x=>S93 k (pz x.1)⟩
theorem ok93:O 93 F93:=okF (ah ok128 <| ah ok168 <| ah ok169 <| ah ok170 aj) [] On Tryz.func93 rfl
abbrev adP:Cut:=⟨[0,1,7,8],[.cell sj,cI,cI,cI],[],19,[]⟩
def LJ (k:Nat) (g2:(List Int) -> Int -> Int -> Int -> Option jk) (a:List Int) (b c e:Int):Option jk :=
 (bif decide (e<c) then
  ix a e <|
  (bif b==(rd a e 0) then
   some ((e,()),())
  else
   g2 a b c (IntKind.i64.wrap (e+1)))
 else
  some (((-1),()),()))
def aiP (k:Nat):Xx (((Unit)×(List Int)×Int×Int×Int×Unit) -> Option jk):=eu (dw (dh (dh (dh (dh dx))))) (LJ k)
def DV (k a:Nat) (b:List Int) (c e f:Int):Option jk:=iter adP (aiP k) a ((),b,c,e,f,())
theorem JO (k a b c e f):DV k (a+1) b c e f=LJ k (DV k a) b c e f:=Ba _ _ _ _
def abQ (k:Nat) (a:List Int) (b:Int):Option jk :=
 DV k k a b (a.length:Int) 0
def F149:Fn:=⟨[Wm,au],[rI],fun k x=>abQ k x.1 x.2.1⟩
theorem ok149:O 149 F149:=okF aj [] (fun k=>(.loop 2 adP (aiP k) (fun g=>.nil) .nil)) Tryz.func149 rfl
def aph (k:Nat) (a:List Int) (b:Int):Option j3 :=
 (abQ k a b).bind fun q0 =>
 some ((decide (q0.1.1≥0),()),())
def F255:Fn:=⟨[Wm,au],[rB],fun k x=>aph k x.1 x.2.1⟩
theorem ok255:O 255 F255:=okF (ah ok149 aj) [] On Tryz.func255 rfl
def aiQ (k:Nat) (a:(List Int)×List Int) (b:Int):Option ((((List Int)×List Int)×Int×Bool×Bool×Unit)×Unit) :=
 (aiM k a).bind fun q0 =>
 (bif decide (b<1) then
  some ((q0.1.1,0,false,false,()),())
 else
  (bif decide ((q0.1.1.1.length:Int)>0) then
   ix q0.1.1.1 0 <|
   sx q0.1.1.1 1 (q0.1.1.1.length:Int) <|
   some (((sub q0.1.1.1 1 (q0.1.1.1.length:Int),q0.1.1.2),rd q0.1.1.1 0 0,true,true,()),())
  else
   (aph k q0.1.1.2 b).bind fun q1 =>
   (bif q1.1.1 then
    some ((q0.1.1,0,false,false,()),())
   else
    (bif decide ((q0.1.1.2.length:Int)≥4) then
     some ((q0.1.1,0,false,false,()),())
    else
     ap q0.1.1.2 ([b]:List Int) 8 fun r2 =>
     some (((q0.1.1.1,r2),0,false,true,()),())))))
def F171:Fn:=⟨[aoN,au],[aqA,rI,rB,rB],fun k x=>aiQ k x.1 x.2.1⟩
theorem ok171:O 171 F171:=okF (ah ok254 <| ah ok255 aj) [] On Tryz.func171 rfl
def S94 (k:Nat) (a:F9):Option NK :=
 (abP k a 2).bind fun q0 =>
 (bif !q0.1.2.2.1 then
  some ((),q0.2.1,())
 else
  (aiQ k q0.1.2.1.2.2.2.1 (pz q0.2.1).2.1.2.2.2.1).bind fun q1 =>
  (bif !q1.1.2.2.2.1 then
   some ((),AO (w3 (pz q0.2.1) 1),())
  else
   (bif q1.1.2.2.1 then
    (I6 k (pz q0.2.1).1.2.2.2.2.2.2.2.2.1 q0.1.1 (w3 q0.1.2.1 q1.1.1)).bind fun q2 =>
    some ((),AO (w0 (z5 (pz q0.2.1) q1.1.2.1) (w8 (pz q0.2.1).1 q2.1.1)),())
   else
    (I6 k (pz q0.2.1).1.2.2.2.2.2.2.2.2.1 q0.1.1 (w3 q0.1.2.1 q1.1.1)).bind fun q3 =>
    some ((),AO ((w8 (pz q0.2.1).1 q3.1.1),(pz q0.2.1).2.1,(pz q0.2.1).2.2.1,16,(pz q0.2.1).2.2.2.2),()))))
def F94:Fn:=⟨[YU],[],fun k x=>S94 k (pz x.1)⟩
theorem ok94:O 94 F94:=okF (ah ok128 <| ah ok168 <| ah ok171 aj) [] On Tryz.func94 rfl
abbrev adQ:Cut:=⟨[4,5,15,16,17],[.box 138 [.cell (.int .u32),.own 266 EN],.own 266 EN,.cell (.sl 266 EN),cI,cI],[],49,[]⟩
def Xl (k:Nat) (g3:Int -> jy -> jy -> jy -> Int -> Int -> Option YL) (x:Int) (a b c:oh) (e f:Int):Option YL :=
 (bif decide (f<e) then
  ix c f <|
  (bif (Um .u32 x (rd c f (0,0)).2)==0 then
   ap a ([rd c f (0,0)]:List (Int×Int)) 16 fun r0 =>
   g3 x r0 b c e (IntKind.i64.wrap (f+1))
  else
   ap b ([((rd c f (0,0)).1,Um .u32 x (rd c f (0,0)).2)]:List (Int×Int)) 16 fun r1 =>
   g3 (Ru .u32 x (Um .u32 x (rd c f (0,0)).2)) a r1 c e (IntKind.i64.wrap (f+1)))
 else
  some (((x,a),b,()),()))
def aiR (k:Nat):Xx (((Unit)×(Int×jy×Unit)×jy×jy×Int×Int×Unit) -> Option YL):=eu (dw (d9 (dh (dh dx)) (dh (dh (dh (dh dx)))))) (Xl k)
def Xm (k a:Nat) (x:Int) (b c e:oh) (f h:Int):Option YL:=iter adQ (aiR k) a ((),(x,b,()),c,e,f,h,())
theorem aaf (k a x b c e f h):Xm k (a+1) x b c e f h=Xl k (Xm k a) x b c e f h:=Ba _ _ _ _
def aiS (k:Nat) (a:Int×List (Int×Int)) (b:Int):Option YL :=
 Xm k k (Uz .u32 a.1 b) ([]:List (Int×Int)) ([]:List (Int×Int)) a.2 (a.2.length:Int) 0
def F172:Fn:=⟨[.val ⟨true,(.pair (.int .u32) (.sl 266 EN)),false⟩,.val ⟨false,(.int .u32),false⟩],[.val ⟨true,(.pair (.int .u32) (.sl 266 EN)),true⟩,.val ⟨false,(.sl 266 EN),true⟩],fun k x=>aiS k x.1 x.2.1⟩
theorem ok172:O 172 F172:=okF aj [(4,2),(5,2)] (fun k=>(.loop 3 adQ (aiR k) (fun g=>.nil) .nil)) Tryz.func172 rfl
end
end Go.Proofs.YtjjjbcmjmkcedaaGreat.Ab
