import Derived.Test.YtjjjbcmjmkcedaaGreatPbI
import Derived.Lib.Overlaps
import Derived.Shelf.RegionOpenPlain
import Derived.Test.YtjjjbcmjmkcedaaGreatPbC
/- Contracts, printed by this session's own program gen.py. -/
set_option linter.unusedVariables false
set_option linter.unusedSimpArgs false
set_option maxRecDepth 100000
namespace Go.Proofs.YtjjjbcmjmkcedaaGreat.Ab
open Go.RowKit
abbrev cI:PV:=.cell (.int .i64)
abbrev jr:Type:=Int×Int×Int×(List (Int×Int×Int×Int))×(List (Int×Int×Int×Int))×List (Int×Int×Int×Int)
abbrev BF:Ty:=.pair (.int .i64) (.pair (.int .i64) (.pair (.int .i64) (.pair (.sl 127 (.pair (.int .i64) (.pair (.int .i64) (.pair (.int .i64) (.int .i64))))) (.pair (.sl 127 (.pair (.int .i64) (.pair (.int .i64) (.pair (.int .i64) (.int .i64))))) (.sl 127 (.pair (.int .i64) (.pair (.int .i64) (.pair (.int .i64) (.int .i64)))))))))
abbrev FP:Type:=Int×Int×(List jr)×(List (PN Int 5))×Bool×Bool×Bool×(List (Int×Int×Int×Int×(Int×(PN Int 8)×(List (Int×Int×Int))×Bool)×(Int×(PN Int 8)×(List (Int×Int×Int))×Bool)×(List Int)×Bool))×(((List Int)×List Bool)×List (Int×(Int×Int)×(Int×Int)×((List Int)×List Int)×(Int×List (Int×Int))×Int))×(List Int)×List Bool
abbrev tq:Ty:=.pair (.int .i64) (.pair (.int .i64) (.pair (.int .i64) (.pair (.int .i64) (.pair (.pair (.int .i64) (.pair (Am 8 (.int .i64)) (.pair (.sl 293 (.pair (.int .i64) (.pair (.int .i64) (.int .i64)))) .bool))) (.pair (.pair (.int .i64) (.pair (Am 8 (.int .i64)) (.pair (.sl 293 (.pair (.int .i64) (.pair (.int .i64) (.int .i64)))) .bool))) (.pair (.sl 3 (.int .i64)) .bool))))))
abbrev AJ:Type:=Int×Int×Int×Int×(Int×(PN Int 8)×(List (Int×Int×Int))×Bool)×(Int×(PN Int 8)×(List (Int×Int×Int))×Bool)×(List Int)×Bool
abbrev IJ:Ty:=.pair (.int .i64) (.pair (.pair (.int .i64) (.int .i64)) (.pair (.pair (.int .i64) (.int .i64)) (.pair (.pair (.sl 2 (.int .i64)) (.sl 3 (.int .i64))) (.pair (.pair (.int .u32) (.sl 266 (.pair (.int .i64) (.int .u32)))) (.int .u32)))))
abbrev qm:Type:=Int×(Int×Int)×(Int×Int)×((List Int)×List Int)×(Int×List (Int×Int))×Int
abbrev qb:Ty:=.sl 127 (.pair (.int .i64) (.pair (.int .i64) (.pair (.int .i64) (.int .i64))))
abbrev jl:Type:=Int×Int×Int×Int
abbrev BG:Type:=Int×Int×(List jr)×(List (PN Int 5))×Bool×Bool×Bool×(List AJ)×(((List Int)×List Bool)×List qm)×(List Int)×List Bool
abbrev y9:Type:=Int×Int×(List jr)×(List (PN Int 5))×Bool×Bool×Bool×(List AJ)×(List Int)×(List Bool)×(List qm)×(List Int)×(List Bool)×Unit
abbrev acR:Ty:=.pair (.int .i64) (.pair (.int .i64) (.pair (.sl 54 BF) (.pair (.sl 168 (Am 5 (.int .i64))) (.pair .bool (.pair .bool (.pair .bool (.pair (.sl 59 tq) (.pair (.pair (.pair (.sl 3 (.int .i64)) (.sl 4 .bool)) (.sl 142 IJ)) (.pair (.sl 3 (.int .i64)) (.sl 4 .bool))))))))))
abbrev aow:Type:=Int×Int×(List jr)×(List (PN Int 5))×Bool×Bool×Bool×(List AJ)×(List Int)×(List Bool)×(List qm)×(List Int)×(List Bool)×Int×Int×Int×Int×(List jl)×(List jl)×(List jl)×Int×Int×Int×Int×Int×(List (PN Int 6))×Int×Int×Int×Int×Unit
abbrev jk:Type:=(Int×Unit)×Unit
abbrev qg:Type:=Int×Int×Int×Bool
abbrev jw:Type:=List (Int×Int)
abbrev oo:Ty:=.pair (.int .i64) (.int .i64)
abbrev jy:Type:=(Bool×Unit)×Unit
abbrev FQ:Type:=FP×(Int×jr×(Int×Int)×Int×Int×Int)×(List (PN Int 6))×Int×(Int×Int)×Int
abbrev sw:Ty:=.sl 3 (.int .i64)
abbrev EW:Ty:=.pair (.int .i64) (.pair (.int .i64) (.pair (.int .i64) .bool))
abbrev qp:Type:=((List Int)×Unit)×Unit
abbrev NY:Type:=Int×Int×Unit×Unit×Bool×Bool×Bool×Unit×Unit×Unit×Unit×Unit×Unit×Unit
abbrev NZ:Type:=(List jl) -> (List qg) -> (List Int) -> (List qg) -> Int -> Int -> Option jy
abbrev D7:Type:=(Int×Int×Int×Unit)×Unit
abbrev IU:Type:=((List jr)×(List (PN Int 5))×Int×Unit)×Unit
abbrev ahS:Type:=((List Int)×List Bool)×List qm
abbrev YV:Type:=Int×(PN Int 8)×(List (Int×Int×Int))×Bool
abbrev EX:Type:=List (PN Bool 24)
abbrev JZ:Type:=Int×Int×Int×(List jl)×(List jl)×List jl
abbrev ahT:Ty:=.pair sw (.sl 4 .bool)
abbrev ny:Type:=List (Int×Int)
abbrev UQ:Type:=(List jr) -> Int -> Int -> jw -> (List jr) -> Int -> Int -> Option jk
abbrev UR:Ty:=.pair (.int .i64) (.pair (.int .i64) oo)
abbrev YW:Type:=Int×(Int×Int)×(Int×Int)×((List Int)×List Int)×(Int×List (Int×Int))×Int
abbrev zq:Type:=(jw×Unit)×Unit
abbrev YX:Type:=(List jl) -> EX -> (List qg) -> Int -> Int -> Option ((EX×Unit)×Unit)
abbrev CF:Ty:=Am 5 (.int .i64)
abbrev D8:Type:=(Int×Bool×Unit)×Unit
abbrev YZ:Type:=(List jr) -> Int -> Int -> Int -> Int -> Int -> Int -> Bool -> Option D7
abbrev ahU:Type:=(List jl) -> (List Int) -> (List Int) -> (List ((PN Bool 24)×Int)) -> EX -> EX -> Int -> Int -> Option (((List Int)×Bool×Unit)×Unit)
abbrev pq:Ty:=.sl 54 BF
abbrev FR:Type:=((List jl)×Unit)×Unit
abbrev Z0:Type:=((Int×Int×List (Int×Int))×Bool×Unit)×Unit
abbrev EY:Ty:=.pair (.int .i64) (.int .u32)
abbrev FT:Type:=(FP×Int×Unit)×Unit
abbrev Z4:Type:=((Int×List (Int×Int))×jw×Unit)×Unit
abbrev UU:Type:=Int -> (List Int) -> Int -> Int -> Option jk
abbrev Z5:Type:=(ahS×(Int×Int)×Bool×Unit)×Unit
abbrev Z6:Type:=((List ((Int×Int)×Bool))×Unit)×Unit
abbrev Z7:Type:=(List Int) -> (List jl) -> Int -> Int -> Option qp
abbrev ahV:Type:=(List jr) -> Int -> Int -> jw -> (List jr) -> Int -> Int -> jw -> Int -> Int -> Option jk
abbrev FU:Type:=List (PN Int 5)
abbrev EZ:Type:=(List Int)×List Bool
abbrev Z8:Type:=Int×Unit
abbrev aox:Ty:=.pair ahT (.sl 142 IJ)
abbrev uy:Type:=List qg
abbrev aoy:Type:=Int×Int×Int×(List jl)×(List jl)×(List jl)×Unit
abbrev F6:Type:=(FP×Unit)×Unit
abbrev D9:Ty:=.sl 4 .bool
abbrev acS:Type:=Int×Int×Int×Int×YV×YV×(List Int)×Bool
abbrev O1:Type:=(EX×Unit)×Unit
abbrev Z9:Type:=((List Int)×Bool×Unit)×Unit
abbrev IV:Ty:=.sl 2 (.int .i64)
abbrev ahW:Type:=Int×Int×Int×Bool×Unit
abbrev acT:Ty:=Am 6 (.int .i64)
abbrev QK:Type:=(ahS×Unit)×Unit
abbrev O4:Type:=(Unit)×aow×Unit
abbrev acU:Type:=Int×jr×(Int×Int)×Int×Int×Int
abbrev aoz:Type:=(List Int)×(List Bool)×(List qm)×Unit
abbrev Za:Type:=(FU×Int×Unit)×Unit
abbrev ahX:Type:=((Unit)×(List jl)×Unit×Int×Int×Unit) -> Option jk
abbrev BH:Ty:=Am 24 .bool
abbrev O5:Ty:=.sl 142 IJ
abbrev acV:Type:=Int×Bool×Unit
abbrev BI:Type:=PN Bool 24
abbrev QL:Type:=(List Int)×List Bool
abbrev Zb:Ty:=.sl 168 CF
abbrev UW:Type:=List (List jl)
abbrev Zc:Type:=(Int×Int)×Bool
abbrev Zd:PT:=.fK 175 [cI,cI,.cell pq,.cell Zb,.cell .bool,.cell .bool,.cell .bool,.cell (.sl 59 tq),.cell sw,.cell D9,.cell O5,.cell sw,.cell D9,cI,cI,cI,cI,.cell qb,.cell qb,.cell qb,cI,cI,cI,cI,.cell (.int .u32),.own 51 acT,cI,cI,cI,cI]
abbrev aq6:PT:=.pv (.lJ 271 [.ref qb,.ref (.int .i64)])
abbrev apm:PT:=.val ⟨true,(.pair IV sw),false⟩
abbrev aq7:RT:=.val ⟨true,(.pair IV sw),false⟩
abbrev apn:RT:=.val ⟨false,(.sl 378 oo),true⟩
abbrev WE:PT:=.val ⟨false,sw,false⟩
abbrev Ze:PT:=.val ⟨false,pq,false⟩
abbrev agK:PT:=.val ⟨true,UR,false⟩
abbrev DX:PT:=.val ⟨false,qb,false⟩
abbrev ahY:PT:=.val ⟨true,EW,false⟩
abbrev ahZ:RT:=.val ⟨false,sw,true⟩
abbrev UY:PT:=.val ⟨true,aox,false⟩
abbrev QM:PT:=.val ⟨true,ahT,false⟩
abbrev Zf:PT:=.val ⟨true,acR,false⟩
abbrev ah1:PT:=.val ⟨true,oo,false⟩
abbrev UZ:RT:=.val ⟨true,ahT,true⟩
abbrev acW:RT:=.val ⟨true,aox,true⟩
abbrev acX:RT:=.val ⟨true,acR,true⟩
abbrev V3:PT:=.val ⟨true,BF,false⟩
abbrev acY:PT:=.val ⟨true,IJ,false⟩
abbrev Zg:PT:=.pv (.ref (.int .i64))
noncomputable section
def E0:Env:=tab.env (fun _=>none) (fun _=>0)
theorem IW:aH Tryz.prog E0:=Kw Rt _ _ (fun f F h=>by cases h)
theorem okF {f:FuncId} {fn:Func} {F:Fn} {C:Code} {l:List (Nat×Fn)} (hl:Gu Tryz.prog l) (h:List (Nat×Nat)) (T:Nat -> rV (RD F.rs×MD F.ps)) (hf:Tryz.prog.funcs[f]? = some fn) (hb:fn.body=some C)
(h1:(fn.name == "runtime.NumGoroutine")=false:=by kernel_rfl) (h2:Nat.ble F.ps.length fn.ntmps=true:=by kernel_rfl)
(h3:∀ k,Bw (tab.env (lk l) (Rv h)) fn F.ps F.rs k true (T k)=Bw (tab.env (lk l) (Rv h)) fn F.ps F.rs k false (T k):=by intro k;kernel_rfl) (h4:∀ k x,F.sem k x=Gr (tab.env (lk l) (Rv h)) fn F.ps F.rs k (T k) x:=by intro k x;kernel_rfl):uO Tryz.prog f F :=
Kt (Kw Rt _ _ (Dm hl)) mix hf hb h1 h2 h3 h4
def Xx (A:Type):Type:=A -> A
abbrev O (f:Nat) (F:Fn):Prop:=uO Tryz.prog f F
theorem ah {f:Nat} {F:Fn} {l:List (Nat×Fn)} (h:O f F) (t:Gu Tryz.prog l):Gu Tryz.prog ((f,F)::l):=⟨h,t⟩
theorem aj:Gu Tryz.prog []:=trivial
abbrev On {A:Type}:Nat -> rV A:=fun _=>.nil
abbrev au:PT:=.val ⟨false,.int .i64,false⟩
abbrev rI:RT:=.val ⟨false,.int .i64,true⟩
abbrev rB:RT:=.val ⟨false,.bool,true⟩
abbrev ay:Int×Int×Int×Int×(Int×(PN Int 8)×(List (Int×Int×Int))×Bool)×(Int×(PN Int 8)×(List (Int×Int×Int))×Bool)×(List Int)×Bool:=(0,0,0,0,(0,Qn (α:=Int) 8 0,[],false),(0,Qn (α:=Int) 8 0,[],false),[],false)
abbrev bf:Int×(Int×Int)×(Int×Int)×((List Int)×List Int)×(Int×List (Int×Int))×Int:=(0,(0,0),(0,0),([],[]),(0,[]),0)
abbrev bg:Int×Int×Int×(List (Int×Int×Int×Int))×(List (Int×Int×Int×Int))×List (Int×Int×Int×Int):=(0,0,0,[],[],[])
abbrev bn:Int×(Int×Int×Int×(List (Int×Int×Int×Int))×(List (Int×Int×Int×Int))×List (Int×Int×Int×Int))×(Int×Int)×Int×Int×Int:=(0,(0,0,0,[],[],[]),(0,0),0,0,0)
abbrev bq:Int×(Int×(Int×Int×Int×(List (Int×Int×Int×Int))×(List (Int×Int×Int×Int))×List (Int×Int×Int×Int))×(Int×Int)×Int×Int×Int)×Int×Int:=(0,(0,(0,0,0,[],[],[]),(0,0),0,0,0),0,0)
def w0 { X Y Z:Type} (a:X×Z) (x:Y):Y×Z:=(x,a.2)
def w2 {A0 A1 X Y Z:Type} (a:A0×A1×X×Z) (x:Y):A0×A1×Y×Z:=(a.1,a.2.1,x,a.2.2.2)
def w3 {A0 A1 A2 X Y Z:Type} (a:A0×A1×A2×X×Z) (x:Y):A0×A1×A2×Y×Z:=(a.1,a.2.1,a.2.2.1,x,a.2.2.2.2)
def w4 {A0 A1 A2 A3 X Y Z:Type} (a:A0×A1×A2×A3×X×Z) (x:Y):A0×A1×A2×A3×Y×Z:=(a.1,a.2.1,a.2.2.1,a.2.2.2.1,x,a.2.2.2.2.2)
def w5 {A0 A1 A2 A3 A4 X Y Z:Type} (a:A0×A1×A2×A3×A4×X×Z) (x:Y):A0×A1×A2×A3×A4×Y×Z:=(a.1,a.2.1,a.2.2.1,a.2.2.2.1,a.2.2.2.2.1,x,a.2.2.2.2.2.2)
def w6 {A0 A1 A2 A3 A4 A5 X Y Z:Type} (a:A0×A1×A2×A3×A4×A5×X×Z) (x:Y):A0×A1×A2×A3×A4×A5×Y×Z:=(a.1,a.2.1,a.2.2.1,a.2.2.2.1,a.2.2.2.2.1,a.2.2.2.2.2.1,x,a.2.2.2.2.2.2.2)
def w7 {A0 A1 A2 A3 A4 A5 A6 X Y Z:Type} (a:A0×A1×A2×A3×A4×A5×A6×X×Z) (x:Y):A0×A1×A2×A3×A4×A5×A6×Y×Z:=(a.1,a.2.1,a.2.2.1,a.2.2.2.1,a.2.2.2.2.1,a.2.2.2.2.2.1,a.2.2.2.2.2.2.1,x,a.2.2.2.2.2.2.2.2)
def w8 {A0 A1 A2 A3 A4 A5 A6 A7 X Y Z:Type} (a:A0×A1×A2×A3×A4×A5×A6×A7×X×Z) (x:Y):A0×A1×A2×A3×A4×A5×A6×A7×Y×Z:=(a.1,a.2.1,a.2.2.1,a.2.2.2.1,a.2.2.2.2.1,a.2.2.2.2.2.1,a.2.2.2.2.2.2.1,a.2.2.2.2.2.2.2.1,x,a.2.2.2.2.2.2.2.2.2)
def z5 {A0 A1 A2 A3 A4 Y Z:Type} (a:A0×A1×A2×A3×A4×Z) (x:Y):A0×A1×A2×A3×A4×Y:=(a.1,a.2.1,a.2.2.1,a.2.2.2.1,a.2.2.2.2.1,x)
def z7 {A0 A1 A2 A3 A4 A5 A6 Y Z:Type} (a:A0×A1×A2×A3×A4×A5×A6×Z) (x:Y):A0×A1×A2×A3×A4×A5×A6×Y:=(a.1,a.2.1,a.2.2.1,a.2.2.2.1,a.2.2.2.2.1,a.2.2.2.2.2.1,a.2.2.2.2.2.2.1,x)
def z9 {A0 A1 A2 A3 A4 A5 A6 A7 A8 Y Z:Type} (a:A0×A1×A2×A3×A4×A5×A6×A7×A8×Z) (x:Y):A0×A1×A2×A3×A4×A5×A6×A7×A8×Y:=(a.1,a.2.1,a.2.2.1,a.2.2.2.1,a.2.2.2.2.1,a.2.2.2.2.2.1,a.2.2.2.2.2.2.1,a.2.2.2.2.2.2.2.1,a.2.2.2.2.2.2.2.2.1,x)
structure Iso (T R F:Type) where
 un:F -> T -> R
 cu:(T -> R) -> F
def dh {A T R F:Type} (s:Iso T R F):Iso (A×T) R (A -> F):=⟨fun f x=>s.un (f x.1) x.2,fun g a=>s.cu fun t=>g (a,t)⟩
def dw {T R F:Type} (s:Iso T R F):Iso (Unit×T) R F:=⟨fun f x=>s.un f x.2,fun g=>s.cu fun t=>g ((),t)⟩
def dx {R:Type}:Iso Unit R R:=⟨fun f _=>f,fun g=>g ()⟩
def dz {A R:Type}:Iso A R (A -> R):=⟨fun f=>f,fun g=>g⟩
def d9 {S T R F G:Type} (a:Iso S F G) (b:Iso T R F):Iso (S×T) R G:=⟨fun f x=>b.un (a.un f x.1) x.2,fun g=>a.cu fun x=>b.cu fun t=>g (x,t)⟩
def eu {T R F:Type} (s:Iso T R F) (f:F -> F) (g:T -> R):T -> R:=s.un (f (s.cu g))
def pz (d:Int×Int×(List jr)×FU×Bool×Bool×Bool×(List AJ)×(List Int)×(List Bool)×(List qm)×(List Int)×(List Bool)×Int×Int×Int×Int×(List jl)×(List jl)×(List jl)×Int×Int×Int×Int×Int×(List (PN Int 6))×Int×Int×Int×Int×Unit):FP×acU×(List (PN Int 6))×Int×(Int×Int)×Int:=((d.1,d.2.1,d.2.2.1,d.2.2.2.1,d.2.2.2.2.1,d.2.2.2.2.2.1,d.2.2.2.2.2.2.1,d.2.2.2.2.2.2.2.1,((d.2.2.2.2.2.2.2.2.1,d.2.2.2.2.2.2.2.2.2.1),d.2.2.2.2.2.2.2.2.2.2.1),d.2.2.2.2.2.2.2.2.2.2.2.1,d.2.2.2.2.2.2.2.2.2.2.2.2.1),(d.2.2.2.2.2.2.2.2.2.2.2.2.2.1,(d.2.2.2.2.2.2.2.2.2.2.2.2.2.2.1,d.2.2.2.2.2.2.2.2.2.2.2.2.2.2.2.1,d.2.2.2.2.2.2.2.2.2.2.2.2.2.2.2.2.1,d.2.2.2.2.2.2.2.2.2.2.2.2.2.2.2.2.2.1,d.2.2.2.2.2.2.2.2.2.2.2.2.2.2.2.2.2.2.1,d.2.2.2.2.2.2.2.2.2.2.2.2.2.2.2.2.2.2.2.1),(d.2.2.2.2.2.2.2.2.2.2.2.2.2.2.2.2.2.2.2.2.1,d.2.2.2.2.2.2.2.2.2.2.2.2.2.2.2.2.2.2.2.2.2.1),d.2.2.2.2.2.2.2.2.2.2.2.2.2.2.2.2.2.2.2.2.2.2.1,d.2.2.2.2.2.2.2.2.2.2.2.2.2.2.2.2.2.2.2.2.2.2.2.1,d.2.2.2.2.2.2.2.2.2.2.2.2.2.2.2.2.2.2.2.2.2.2.2.2.1),d.2.2.2.2.2.2.2.2.2.2.2.2.2.2.2.2.2.2.2.2.2.2.2.2.2.1,d.2.2.2.2.2.2.2.2.2.2.2.2.2.2.2.2.2.2.2.2.2.2.2.2.2.2.1,(d.2.2.2.2.2.2.2.2.2.2.2.2.2.2.2.2.2.2.2.2.2.2.2.2.2.2.2.1,d.2.2.2.2.2.2.2.2.2.2.2.2.2.2.2.2.2.2.2.2.2.2.2.2.2.2.2.2.1),d.2.2.2.2.2.2.2.2.2.2.2.2.2.2.2.2.2.2.2.2.2.2.2.2.2.2.2.2.2.1)
def AU (x:FQ):Int×Int×(List jr)×FU×Bool×Bool×Bool×(List AJ)×(List Int)×(List Bool)×(List qm)×(List Int)×(List Bool)×Int×Int×Int×Int×(List jl)×(List jl)×(List jl)×Int×Int×Int×Int×Int×(List (PN Int 6))×Int×Int×Int×Int×Unit:=(x.1.1,x.1.2.1,x.1.2.2.1,x.1.2.2.2.1,x.1.2.2.2.2.1,x.1.2.2.2.2.2.1,x.1.2.2.2.2.2.2.1,x.1.2.2.2.2.2.2.2.1,x.1.2.2.2.2.2.2.2.2.1.1.1,x.1.2.2.2.2.2.2.2.2.1.1.2,x.1.2.2.2.2.2.2.2.2.1.2,x.1.2.2.2.2.2.2.2.2.2.1,x.1.2.2.2.2.2.2.2.2.2.2,x.2.1.1,x.2.1.2.1.1,x.2.1.2.1.2.1,x.2.1.2.1.2.2.1,x.2.1.2.1.2.2.2.1,x.2.1.2.1.2.2.2.2.1,x.2.1.2.1.2.2.2.2.2,x.2.1.2.2.1.1,x.2.1.2.2.1.2,x.2.1.2.2.2.1,x.2.1.2.2.2.2.1,x.2.1.2.2.2.2.2,x.2.2.1,x.2.2.2.1,x.2.2.2.2.1.1,x.2.2.2.2.1.2,x.2.2.2.2.2,())
theorem vrA (x:FQ):pz (AU x)=x:=rfl
def tvJ (d:Int×Int×Int×Int×Int×Int×Int×Int×Int×Int×Int×Int×Int×(List (Int×Int×Int))×Bool×Int×Int×Int×Int×Int×Int×Int×Int×Int×(List (Int×Int×Int))×Bool×(List Int)×Bool×Unit):Int×Int×Int×Int×YV×YV×(List Int)×Bool:=(d.1,d.2.1,d.2.2.1,d.2.2.2.1,(d.2.2.2.2.1,(d.2.2.2.2.2.1,d.2.2.2.2.2.2.1,d.2.2.2.2.2.2.2.1,d.2.2.2.2.2.2.2.2.1,d.2.2.2.2.2.2.2.2.2.1,d.2.2.2.2.2.2.2.2.2.2.1,d.2.2.2.2.2.2.2.2.2.2.2.1,d.2.2.2.2.2.2.2.2.2.2.2.2.1),d.2.2.2.2.2.2.2.2.2.2.2.2.2.1,d.2.2.2.2.2.2.2.2.2.2.2.2.2.2.1),(d.2.2.2.2.2.2.2.2.2.2.2.2.2.2.2.1,(d.2.2.2.2.2.2.2.2.2.2.2.2.2.2.2.2.1,d.2.2.2.2.2.2.2.2.2.2.2.2.2.2.2.2.2.1,d.2.2.2.2.2.2.2.2.2.2.2.2.2.2.2.2.2.2.1,d.2.2.2.2.2.2.2.2.2.2.2.2.2.2.2.2.2.2.2.1,d.2.2.2.2.2.2.2.2.2.2.2.2.2.2.2.2.2.2.2.2.1,d.2.2.2.2.2.2.2.2.2.2.2.2.2.2.2.2.2.2.2.2.2.1,d.2.2.2.2.2.2.2.2.2.2.2.2.2.2.2.2.2.2.2.2.2.2.1,d.2.2.2.2.2.2.2.2.2.2.2.2.2.2.2.2.2.2.2.2.2.2.2.1),d.2.2.2.2.2.2.2.2.2.2.2.2.2.2.2.2.2.2.2.2.2.2.2.2.1,d.2.2.2.2.2.2.2.2.2.2.2.2.2.2.2.2.2.2.2.2.2.2.2.2.2.1),d.2.2.2.2.2.2.2.2.2.2.2.2.2.2.2.2.2.2.2.2.2.2.2.2.2.2.1,d.2.2.2.2.2.2.2.2.2.2.2.2.2.2.2.2.2.2.2.2.2.2.2.2.2.2.2.1)
def trJ (x:acS):Int×Int×Int×Int×Int×Int×Int×Int×Int×Int×Int×Int×Int×(List (Int×Int×Int))×Bool×Int×Int×Int×Int×Int×Int×Int×Int×Int×(List (Int×Int×Int))×Bool×(List Int)×Bool×Unit:=(x.1,x.2.1,x.2.2.1,x.2.2.2.1,x.2.2.2.2.1.1,x.2.2.2.2.1.2.1.1,x.2.2.2.2.1.2.1.2.1,x.2.2.2.2.1.2.1.2.2.1,x.2.2.2.2.1.2.1.2.2.2.1,x.2.2.2.2.1.2.1.2.2.2.2.1,x.2.2.2.2.1.2.1.2.2.2.2.2.1,x.2.2.2.2.1.2.1.2.2.2.2.2.2.1,x.2.2.2.2.1.2.1.2.2.2.2.2.2.2,x.2.2.2.2.1.2.2.1,x.2.2.2.2.1.2.2.2,x.2.2.2.2.2.1.1,x.2.2.2.2.2.1.2.1.1,x.2.2.2.2.2.1.2.1.2.1,x.2.2.2.2.2.1.2.1.2.2.1,x.2.2.2.2.2.1.2.1.2.2.2.1,x.2.2.2.2.2.1.2.1.2.2.2.2.1,x.2.2.2.2.2.1.2.1.2.2.2.2.2.1,x.2.2.2.2.2.1.2.1.2.2.2.2.2.2.1,x.2.2.2.2.2.1.2.1.2.2.2.2.2.2.2,x.2.2.2.2.2.1.2.2.1,x.2.2.2.2.2.1.2.2.2,x.2.2.2.2.2.2.1,x.2.2.2.2.2.2.2,())
theorem vrJ (x:acS):tvJ (trJ x)=x:=rfl
def Zh (d:Int×Int×(List jr)×FU×Bool×Bool×Bool×(List AJ)×(List Int)×(List Bool)×(List qm)×(List Int)×(List Bool)×Unit):Int×Int×(List jr)×FU×Bool×Bool×Bool×(List AJ)×ahS×(List Int)×List Bool:=(d.1,d.2.1,d.2.2.1,d.2.2.2.1,d.2.2.2.2.1,d.2.2.2.2.2.1,d.2.2.2.2.2.2.1,d.2.2.2.2.2.2.2.1,((d.2.2.2.2.2.2.2.2.1,d.2.2.2.2.2.2.2.2.2.1),d.2.2.2.2.2.2.2.2.2.2.1),d.2.2.2.2.2.2.2.2.2.2.2.1,d.2.2.2.2.2.2.2.2.2.2.2.2.1)
def LH (x:BG):Int×Int×(List jr)×FU×Bool×Bool×Bool×(List AJ)×(List Int)×(List Bool)×(List qm)×(List Int)×(List Bool)×Unit:=(x.1,x.2.1,x.2.2.1,x.2.2.2.1,x.2.2.2.2.1,x.2.2.2.2.2.1,x.2.2.2.2.2.2.1,x.2.2.2.2.2.2.2.1,x.2.2.2.2.2.2.2.2.1.1.1,x.2.2.2.2.2.2.2.2.1.1.2,x.2.2.2.2.2.2.2.2.1.2,x.2.2.2.2.2.2.2.2.2.1,x.2.2.2.2.2.2.2.2.2.2,())
theorem vrK (x:BG):Zh (LH x)=x:=rfl
def tvP (d:Int×Int×Int×Int×Int×(List jl)×(List jl)×(List jl)×Int×Int×Int×Int×Int×Int×Int×Unit):Int×acU×Int×Int:=(d.1,(d.2.1,(d.2.2.1,d.2.2.2.1,d.2.2.2.2.1,d.2.2.2.2.2.1,d.2.2.2.2.2.2.1,d.2.2.2.2.2.2.2.1),(d.2.2.2.2.2.2.2.2.1,d.2.2.2.2.2.2.2.2.2.1),d.2.2.2.2.2.2.2.2.2.2.1,d.2.2.2.2.2.2.2.2.2.2.2.1,d.2.2.2.2.2.2.2.2.2.2.2.2.1),d.2.2.2.2.2.2.2.2.2.2.2.2.2.1,d.2.2.2.2.2.2.2.2.2.2.2.2.2.2.1)
def trP (x:Int×acU×Int×Int):Int×Int×Int×Int×Int×(List jl)×(List jl)×(List jl)×Int×Int×Int×Int×Int×Int×Int×Unit:=(x.1,x.2.1.1,x.2.1.2.1.1,x.2.1.2.1.2.1,x.2.1.2.1.2.2.1,x.2.1.2.1.2.2.2.1,x.2.1.2.1.2.2.2.2.1,x.2.1.2.1.2.2.2.2.2,x.2.1.2.2.1.1,x.2.1.2.2.1.2,x.2.1.2.2.2.1,x.2.1.2.2.2.2.1,x.2.1.2.2.2.2.2,x.2.2.1,x.2.2.2,())
theorem vrP (x:Int×acU×Int×Int):tvP (trP x)=x:=rfl
def um (d:Int×Int×(List jr)×FU×Bool×Bool×Bool×(List AJ)×(List Int)×(List Bool)×(List qm)×(List Int)×(List Bool)×(List (PN Int 6))×Unit):FP×List (PN Int 6):=((d.1,d.2.1,d.2.2.1,d.2.2.2.1,d.2.2.2.2.1,d.2.2.2.2.2.1,d.2.2.2.2.2.2.1,d.2.2.2.2.2.2.2.1,((d.2.2.2.2.2.2.2.2.1,d.2.2.2.2.2.2.2.2.2.1),d.2.2.2.2.2.2.2.2.2.2.1),d.2.2.2.2.2.2.2.2.2.2.2.1,d.2.2.2.2.2.2.2.2.2.2.2.2.1),d.2.2.2.2.2.2.2.2.2.2.2.2.2.1)
def y7 (x:FP×List (PN Int 6)):Int×Int×(List jr)×FU×Bool×Bool×Bool×(List AJ)×(List Int)×(List Bool)×(List qm)×(List Int)×(List Bool)×(List (PN Int 6))×Unit:=(x.1.1,x.1.2.1,x.1.2.2.1,x.1.2.2.2.1,x.1.2.2.2.2.1,x.1.2.2.2.2.2.1,x.1.2.2.2.2.2.2.1,x.1.2.2.2.2.2.2.2.1,x.1.2.2.2.2.2.2.2.2.1.1.1,x.1.2.2.2.2.2.2.2.2.1.1.2,x.1.2.2.2.2.2.2.2.2.1.2,x.1.2.2.2.2.2.2.2.2.2.1,x.1.2.2.2.2.2.2.2.2.2.2,x.2,())
theorem YT (x:FP×List (PN Int 6)):um (y7 x)=x:=rfl
def aq8 (k:Nat) (a:Int):Option ((EZ×Unit)×Unit) :=
 mk (mn (mx a 0) 64) (mn (mx a 0) 64) 8 <|
 mk (mn (mx a 0) 64) (mn (mx a 0) 64) 1 <|
 some (((List.replicate (mn (mx a 0) 64).toNat (0:Int),List.replicate (mn (mx a 0) 64).toNat (false:Bool)),()),())
def F164:Fn:=⟨[au],[UZ],fun k x=>aq8 k x.1⟩
theorem ok164:O 164 F164:=okF aj [] On Tryz.func164 rfl
def S86 (k:Nat):Option QK :=
 (aq8 k 12).bind fun q0 =>
 mk 12 12 128 <|
 some (((q0.1.1,List.replicate 12 (bf:YW)),()),())
def F86:Fn:=⟨[],[acW],fun k x=>S86 k ⟩
theorem ok86:O 86 F86:=okF (ah ok164 aj) [] On Tryz.func86 rfl
def S87 (k:Nat) (a:Int):Option ((EZ×Unit)×Unit) :=
 mk (mn (mx a 0) 65536) (mn (mx a 0) 65536) 8 <|
 mk (mn (mx a 0) 65536) (mn (mx a 0) 65536) 1 <|
 some (((List.replicate (mn (mx a 0) 65536).toNat (0:Int),List.replicate (mn (mx a 0) 65536).toNat (false:Bool)),()),())
def F87:Fn:=⟨[au],[UZ],fun k x=>S87 k x.1⟩
theorem ok87:O 87 F87:=okF aj [] On Tryz.func87 rfl
def S36 (k:Nat) (a:Int):Option ((FP×Bool×Unit)×Unit) :=
 (bif decide (a<1) then
  some (((0,0,[],[],false,false,false,[],(([],[]),[]),[],[]),false,()),())
 else
  (bif decide (a>4611686018427387904) then
   some (((0,0,[],[],false,false,false,[],(([],[]),[]),[],[]),false,()),())
  else
   (S86 k).bind fun q0 =>
   (S87 k 0).bind fun q1 =>
   some (((0,a,[],[],false,false,false,[],q0.1.1,q1.1.1),true,()),())))
def F36:Fn:=⟨[au],[acX,rB],fun k x=>S36 k x.1⟩
theorem ok36:O 36 F36:=okF (ah ok86 <| ah ok87 aj) [] On Tryz.func36 rfl
def LJ (k:Nat) (a:Int):Option jy :=
 (bif decide (a≥0) then
  some ((decide (a<8),()),())
 else
  some ((false,()),()))
def F264:Fn:=⟨[au],[rB],fun k x=>LJ k x.1⟩
theorem ok264:O 264 F264:=okF aj [] On Tryz.func264 rfl
def QN (k:Nat) (a b c:Int):Option jy :=
 (bif decide (a≥b) then
  some ((decide (a <= c),()),())
 else
  some ((false,()),()))
def F265:Fn:=⟨[au,au,au],[rB],fun k (a,b,c,_)=>QN k a b c⟩
theorem ok265:O 265 F265:=okF aj [] On Tryz.func265 rfl
def ah3 (k:Nat) (a:Int×Int×Int×Int):Option jy :=
 (bif a.1==0 then
  (bif a.2.1==0 then
   (bif a.2.2.1==0 then
    some ((a.2.2.2==0,()),())
   else
    some ((false,()),()))
  else
   some ((false,()),()))
 else
  (bif a.1==11 then
   (bif a.2.1==0 then
    (bif a.2.2.1==0 then
     some ((a.2.2.2==0,()),())
    else
     some ((false,()),()))
   else
    some ((false,()),()))
  else
   (bif a.1==1 then
    (LJ k a.2.1).bind fun q0 =>
    (bif q0.1.1 then
     (bif a.2.2.1==0 then
      (QN k a.2.2.2 (-2147483648) 2147483647).bind fun q1 =>
      some ((q1.1.1,()),())
     else
      some ((false,()),()))
    else
     some ((false,()),()))
   else
    (bif a.1==2 then
     (LJ k a.2.1).bind fun q2 =>
     (bif q2.1.1 then
      (LJ k a.2.2.1).bind fun q3 =>
      (bif q3.1.1 then
       some ((a.2.2.2==0,()),())
      else
       some ((false,()),()))
     else
      some ((false,()),()))
    else
     (bif a.1==3 then
      (LJ k a.2.1).bind fun q4 =>
      (bif q4.1.1 then
       (LJ k a.2.2.1).bind fun q5 =>
       (bif q5.1.1 then
        some ((a.2.2.2==0,()),())
       else
        some ((false,()),()))
      else
       some ((false,()),()))
     else
      (bif a.1==4 then
       (LJ k a.2.1).bind fun q6 =>
       (bif q6.1.1 then
        (LJ k a.2.2.1).bind fun q7 =>
        (bif q7.1.1 then
         some ((a.2.2.2==0,()),())
        else
         some ((false,()),()))
       else
        some ((false,()),()))
      else
       (bif a.1==5 then
        (LJ k a.2.1).bind fun q8 =>
        (bif q8.1.1 then
         (bif a.2.2.1==0 then
          (QN k a.2.2.2 (-63) 63).bind fun q9 =>
          some ((q9.1.1,()),())
         else
          some ((false,()),()))
        else
         some ((false,()),()))
       else
        (bif a.1==6 then
         (LJ k a.2.1).bind fun q10 =>
         (bif q10.1.1 then
          (bif a.2.2.1==0 then
           (QN k a.2.2.2 1 64).bind fun OW =>
           some ((OW.1.1,()),())
          else
           some ((false,()),()))
         else
          some ((false,()),()))
        else
         (bif a.1==7 then
          (LJ k a.2.1).bind fun q12 =>
          (bif q12.1.1 then
           (bif a.2.2.1==0 then
            (QN k a.2.2.2 1 24).bind fun Zi =>
            some ((Zi.1.1,()),())
           else
            some ((false,()),()))
          else
           some ((false,()),()))
         else
          (bif a.1==8 then
           (bif a.2.1==0 then
            (QN k a.2.2.1 1 24).bind fun q14 =>
            (bif q14.1.1 then
             (QN k a.2.2.2 1 20).bind fun q15 =>
             some ((q15.1.1,()),())
            else
             some ((false,()),()))
           else
            some ((false,()),()))
          else
           (bif a.1==9 then
            (QN k a.2.1 0 3).bind fun q16 =>
            (bif q16.1.1 then
             (bif a.2.2.1==0 then
              some ((a.2.2.2==0,()),())
             else
              some ((false,()),()))
            else
             some ((false,()),()))
           else
            (bif a.1==10 then
             (QN k a.2.1 0 3).bind fun q17 =>
             (bif q17.1.1 then
              (bif a.2.2.1==0 then
               some ((a.2.2.2==0,()),())
              else
               some ((false,()),()))
             else
              some ((false,()),()))
            else
             some ((false,()),())))))))))))))
def F188:Fn:=⟨[agK],[rB],fun k x=>ah3 k x.1⟩
theorem ok188:O 188 F188:=okF (ah ok264 <| ah ok265 aj) [] On Tryz.func188 rfl
def apq (k:Nat) (a:Int×Int×Int×Int):Option jy :=
 (ah3 k a).bind fun q0 =>
 some ((!q0.1.1,()),())
def F187:Fn:=⟨[agK],[rB],fun k x=>apq k x.1⟩
theorem ok187:O 187 F187:=okF (ah ok188 aj) [] On Tryz.func187 rfl
abbrev acZ:Cut:=⟨[0,1,7,8],[.cell qb,.lJ 187 [],cI,cI],[],19,[]⟩
def WG (k:Nat) (g2:(List jl) -> Int -> Int -> Option jk) (a:List jl) (b c:Int):Option jk :=
 (bif decide (c<b) then
  ix a c <|
  (apq k (rd a c (0,0,0,0))).bind fun q0 =>
  (bif q0.1.1 then
   some ((c,()),())
  else
   g2 a b (IntKind.i64.wrap (c+1)))
 else
  some (((-1),()),()))
def ah5 (k:Nat):Xx (ahX):=eu (dw (dh (dw (dh (dh dx))))) (WG k)
def LK (k a:Nat) (b:List jl) (c e:Int):Option jk:=iter acZ (ah5 k) a ((),b,(),c,e,())
theorem Zj (k a b c e):LK k (a+1) b c e=WG k (LK k a) b c e:=Ba _ _ _ _
def alO (k:Nat) (a:List jl):Option jk :=
 LK k k a (a.length:Int) 0
def F130:Fn:=⟨[DX,.pv (.lJ 187 [])],[rI],fun k x=>alO k x.1⟩
theorem ok130:O 130 F130:=okF (ah ok187 aj) [] (fun k=>(.loop 2 acZ (ah5 k) (fun g=>.nil) .nil)) Tryz.func130 rfl
def S57 (k:Nat) (a:List jl):Option jy :=
 (alO k a).bind fun q0 =>
 some ((decide (q0.1.1≥0),()),())
def F57:Fn:=⟨[DX,.pv (.lJ 187 [])],[rB],fun k x=>S57 k x.1⟩
theorem ok57:O 57 F57:=okF (ah ok130 aj) [] On Tryz.func57 rfl
def apr (k:Nat) (a:Int×Int×Int×Int):Option jy :=
 some ((a.1==0,()),())
def F189:Fn:=⟨[agK],[rB],fun k x=>apr k x.1⟩
theorem ok189:O 189 F189:=okF aj [] On Tryz.func189 rfl
abbrev Zk:Cut:=⟨[0,1,7,8],[.cell qb,.lJ 189 [],cI,cI],[],19,[]⟩
def OX (k:Nat) (g2:(List jl) -> Int -> Int -> Option jk) (a:List jl) (b c:Int):Option jk :=
 (bif decide (c<b) then
  ix a c <|
  (apr k (rd a c (0,0,0,0))).bind fun q0 =>
  (bif q0.1.1 then
   some ((c,()),())
  else
   g2 a b (IntKind.i64.wrap (c+1)))
 else
  some (((-1),()),()))
def ac0 (k:Nat):Xx (ahX):=eu (dw (dh (dw (dh (dh dx))))) (OX k)
def GQ (k a:Nat) (b:List jl) (c e:Int):Option jk:=iter Zk (ac0 k) a ((),b,(),c,e,())
theorem V4 (k a b c e):GQ k (a+1) b c e=OX k (GQ k a) b c e:=Ba _ _ _ _
def ac1 (k:Nat) (a:List jl):Option jk :=
 GQ k k a (a.length:Int) 0
def F130a:Fn:=⟨[DX,.pv (.lJ 189 [])],[rI],fun k x=>ac1 k x.1⟩
theorem ok130a:O 130 F130a:=okF (ah ok189 aj) [] (fun k=>(.loop 2 Zk (ac0 k) (fun g=>.nil) .nil)) Tryz.func130 rfl
abbrev ac2:Cut:=⟨[2,5,6,7],[.own 365 EW,.cell qb,cI,cI],[],42,[]⟩
def WH (k:Nat) (g2:uy -> (List jl) -> Int -> Int -> Option ((uy×Unit)×Unit)) (a:List qg) (b:List jl) (c e:Int):Option ((uy×Unit)×Unit) :=
 (bif decide (e<c) then
  ix b e <|
  (bif (rd b e (0,0,0,0)).1==8 then
   ap a ([(IntKind.i64.wrap (e+1),IntKind.i64.wrap (e+(rd b e (0,0,0,0)).2.2.1),e,true)]:List qg) 32 fun r0 =>
   g2 r0 b c (IntKind.i64.wrap (e+1))
  else
   (bif (rd b e (0,0,0,0)).1==7 then
    ap a ([(IntKind.i64.wrap (e+1),IntKind.i64.wrap (e+(rd b e (0,0,0,0)).2.2.2),e,false)]:List qg) 32 fun r1 =>
    g2 r1 b c (IntKind.i64.wrap (e+1))
   else
    g2 a b c (IntKind.i64.wrap (e+1))))
 else
  some ((a,()),()))
def ah6 (k:Nat):Xx (((Unit)×uy×(List jl)×Int×Int×Unit) -> Option ((uy×Unit)×Unit)):=eu (dw (dh (dh (dh (dh dx))))) (WH k)
def LM (k a:Nat) (b:List qg) (c:List jl) (e f:Int):Option ((uy×Unit)×Unit):=iter ac2 (ah6 k) a ((),b,c,e,f,())
theorem Zl (k a b c e f):LM k (a+1) b c e f=WH k (LM k a) b c e f:=Ba _ _ _ _
def ah7 (k:Nat) (a:List jl):Option ((uy×Unit)×Unit) :=
 LM k k ([]:List qg) a (a.length:Int) 0
def F266:Fn:=⟨[DX],[.val ⟨false,(.sl 365 EW),true⟩],fun k x=>ah7 k x.1⟩
theorem ok266:O 266 F266:=okF aj [(2,2)] (fun k=>(.loop 2 ac2 (ah6 k) (fun g=>.nil) .nil)) Tryz.func266 rfl
def ab0 (k:Nat) (a:Int×Int×Int×Bool) (b:Int):Option jy :=
 (bif decide (b≥a.1) then
  some ((decide (b <= a.2.1),()),())
 else
  some ((false,()),()))
def F267:Fn:=⟨[ahY,au],[rB],fun k x=>ab0 k x.1 x.2.1⟩
theorem ok267:O 267 F267:=okF aj [] On Tryz.func267 rfl
def Zm (k:Nat) (a b:Int×Int×Int×Bool):Option jy :=
 (ab0 k b a.1).bind fun q0 =>
 (bif q0.1.1 then
  (ab0 k b a.2.1).bind fun q1 =>
  some ((q1.1.1,()),())
 else
  some ((false,()),()))
def F268:Fn:=⟨[ahY,ahY],[rB],fun k x=>Zm k x.1 x.2.1⟩
theorem ok268:O 268 F268:=okF (ah ok267 aj) [] On Tryz.func268 rfl
def ah8 (k:Nat) (a b:Int×Int×Int×Bool):Option jy :=
 (bif decide (a.2.1<b.1) then
  some ((true,()),())
 else
  some ((decide (b.2.1<a.1),()),()))
def F269:Fn:=⟨[ahY,ahY],[rB],fun k x=>ah8 k x.1 x.2.1⟩
theorem ok269:O 269 F269:=okF aj [] On Tryz.func269 rfl
def aps (k:Nat) (a:Int):Option jy :=
 some ((decide (a>2),()),())
def F270:Fn:=⟨[au],[rB],fun k x=>aps k x.1⟩
theorem ok270:O 270 F270:=okF aj [] On Tryz.func270 rfl
abbrev ac3:Cut:=⟨[0,1,7,8],[.cell sw,.lJ 270 [],cI,cI],[],19,[]⟩
def WI (k:Nat) (g2:(List Int) -> Int -> Int -> Option jk) (a:List Int) (b c:Int):Option jk :=
 (bif decide (c<b) then
  ix a c <|
  (aps k (rd a c 0)).bind fun q0 =>
  (bif q0.1.1 then
   some ((c,()),())
  else
   g2 a b (IntKind.i64.wrap (c+1)))
 else
  some (((-1),()),()))
def ah9 (k:Nat):Xx (((Unit)×(List Int)×Unit×Int×Int×Unit) -> Option jk):=eu (dw (dh (dw (dh (dh dx))))) (WI k)
def LP (k a:Nat) (b:List Int) (c e:Int):Option jk:=iter ac3 (ah9 k) a ((),b,(),c,e,())
theorem Zn (k a b c e):LP k (a+1) b c e=WI k (LP k a) b c e:=Ba _ _ _ _
def alP (k:Nat) (a:List Int):Option jk :=
 LP k k a (a.length:Int) 0
def F272:Fn:=⟨[WE,.pv (.lJ 270 [])],[rI],fun k x=>alP k x.1⟩
theorem ok272:O 272 F272:=okF (ah ok270 aj) [] (fun k=>(.loop 2 ac3 (ah9 k) (fun g=>.nil) .nil)) Tryz.func272 rfl
def alQ (k:Nat) (a:List Int):Option jy :=
 (alP k a).bind fun q0 =>
 some ((decide (q0.1.1≥0),()),())
def F193:Fn:=⟨[WE,.pv (.lJ 270 [])],[rB],fun k x=>alQ k x.1⟩
theorem ok193:O 193 F193:=okF (ah ok272 aj) [] On Tryz.func193 rfl
abbrev Zo:Cut:=⟨[0,3,4,6,9,15,16,17],[.cell qb,.cell (.sl 365 EW),.own 3 (.int .i64),.box 365 [cI,cI,cI,.cell .bool],cI,.cell (.sl 365 EW),cI,cI],[],84,[]⟩
def K3 (k:Nat) (g4:NZ) (g15:(List jl) -> uy -> (List Int) -> Int -> Int -> Int -> Bool -> Int -> uy -> Int -> Int -> Option jy) (a:List jl) (b:List qg) (c:List Int) (e f h:Int) (i:Bool) (l:Int) (m:List qg) (n o:Int):Option jy :=
 (bif i then
  (bif decide (l <= f) then
   ix c l <|
   ix c l <|
   g15 a b (upd c l (IntKind.i64.wrap ((rd c l 0)+1))) e f h i (IntKind.i64.wrap (l+1)) m n o
  else
   g4 a b c m n (IntKind.i64.wrap (o+1)))
 else
  g4 a b c m n (IntKind.i64.wrap (o+1)))
def ac4 (k:Nat) (g4:NZ):Xx (((Unit)×(List jl)×uy×(List Int)×ahW×Int×uy×Int×Int×Unit) -> Option jy):=eu (dw (dh (dh (dh (d9 (dh (dh (dh (dh dx)))) (dh (dh (dh (dh dx))))))))) (K3 k g4)
def GR (k:Nat) (g4:NZ) (a:Nat) (b:List jl) (c:List qg) (e:List Int) (f h i:Int) (l:Bool) (m:Int) (n:List qg) (o p:Int):Option jy:=iter Zo (ac4 k g4) a ((),b,c,e,(f,h,i,l,()),m,n,o,p,())
theorem LQ (k g4 a b c e f h i l m n o p):GR k g4 (a+1) b c e f h i l m n o p=K3 k g4 (GR k g4 a) b c e f h i l m n o p:=Ba _ _ _ _
abbrev ac5:Cut:=⟨[0,3,4,6,15,16,17,27,28,29],[.cell qb,.cell (.sl 365 EW),.own 3 (.int .i64),.box 365 [cI,cI,cI,.cell .bool],.cell (.sl 365 EW),cI,cI,.cell (.sl 365 EW),cI,cI],[],84,[]⟩
def WJ (k:Nat) (g4:NZ) (g9:(List jl) -> uy -> (List Int) -> Int -> Int -> Int -> Bool -> uy -> Int -> Int -> uy -> Int -> Int -> Option jy) (a:List jl) (b:List qg) (c:List Int) (e f h:Int) (i:Bool) (l:List qg) (m n:Int) (o:List qg) (p s:Int):Option jy :=
 (bif decide (s<p) then
  ix o s <|
  (ab0 k (rd o s (0,0,0,false)) h).bind fun q1 =>
  (bif q1.1.1 then
   (Zm k (e,f,h,i) (rd o s (0,0,0,false))).bind fun q2 =>
   (bif !q2.1.1 then
    some ((false,()),())
   else
    (ah8 k (e,f,h,i) (rd o s (0,0,0,false))).bind fun q3 =>
    (bif !q3.1.1 then
     (Zm k (e,f,h,i) (rd o s (0,0,0,false))).bind fun q4 =>
     (bif !q4.1.1 then
      (Zm k (rd o s (0,0,0,false)) (e,f,h,i)).bind fun q5 =>
      (bif !q5.1.1 then
       some ((false,()),())
      else
       g9 a b c e f h i l m n o p (IntKind.i64.wrap (s+1)))
     else
      g9 a b c e f h i l m n o p (IntKind.i64.wrap (s+1)))
    else
     g9 a b c e f h i l m n o p (IntKind.i64.wrap (s+1))))
  else
   (ah8 k (e,f,h,i) (rd o s (0,0,0,false))).bind fun q6 =>
   (bif !q6.1.1 then
    (Zm k (e,f,h,i) (rd o s (0,0,0,false))).bind fun q7 =>
    (bif !q7.1.1 then
     (Zm k (rd o s (0,0,0,false)) (e,f,h,i)).bind fun q8 =>
     (bif !q8.1.1 then
      some ((false,()),())
     else
      g9 a b c e f h i l m n o p (IntKind.i64.wrap (s+1)))
    else
     g9 a b c e f h i l m n o p (IntKind.i64.wrap (s+1)))
   else
    g9 a b c e f h i l m n o p (IntKind.i64.wrap (s+1))))
 else
  GR k g4 k a b c e f h i e l m n)
def aia (k:Nat) (g4:NZ):Xx (((Unit)×(List jl)×uy×(List Int)×ahW×uy×Int×Int×uy×Int×Int×Unit) -> Option jy):=eu (dw (dh (dh (dh (d9 (dh (dh (dh (dh dx)))) (dh (dh (dh (dh (dh (dh dx))))))))))) (WJ k g4)
def WK (k:Nat) (g4:NZ) (a:Nat) (b:List jl) (c:List qg) (e:List Int) (f h i:Int) (l:Bool) (m:List qg) (n o:Int) (p:List qg) (s t:Int):Option jy:=iter ac5 (aia k g4) a ((),b,c,e,(f,h,i,l,()),m,n,o,p,s,t,())
theorem Zp (k g4 a b c e f h i l m n o p s t):WK k g4 (a+1) b c e f h i l m n o p s t=WJ k g4 (WK k g4 a) b c e f h i l m n o p s t:=Ba _ _ _ _
abbrev ac6:Cut:=⟨[0,3,4,15,16,17],[.cell qb,.cell (.sl 365 EW),.own 3 (.int .i64),.cell (.sl 365 EW),cI,cI],[],84,[]⟩
def WL (k:Nat) (g4:NZ) (a:List jl) (b:List qg) (c:List Int) (e:List qg) (f h:Int):Option jy :=
 (bif decide (h<f) then
  ix e h <|
  (bif decide ((rd e h (0,0,0,false)).2.1≥(IntKind.i64.wrap ((a.length:Int) - 1))) then
   some ((false,()),())
  else
   WK k g4 k a b c (rd e h (0,0,0,false)).1 (rd e h (0,0,0,false)).2.1 (rd e h (0,0,0,false)).2.2.1 (rd e h (0,0,0,false)).2.2.2 e f h b (b.length:Int) 0)
 else
  (alQ k c).bind fun q9 =>
  some ((!q9.1.1,()),()))
def aib (k:Nat):Xx (((Unit)×(List jl)×uy×(List Int)×uy×Int×Int×Unit) -> Option jy):=eu (dw (dh (dh (dh (dh (dh (dh dx))))))) (WL k)
def QO (k a:Nat) (b:List jl) (c:List qg) (e:List Int) (f:List qg) (h i:Int):Option jy:=iter ac6 (aib k) a ((),b,c,e,f,h,i,())
theorem Zq (k a b c e f h i):QO k (a+1) b c e f h i=WL k (QO k a) b c e f h i:=Ba _ _ _ _
def alR (k:Nat) (a:List jl):Option jy :=
 (ah7 k a).bind fun q0 =>
 mk (a.length:Int) (a.length:Int) 8 <|
 QO k k a q0.1.1 (List.replicate (a.length:Int).toNat (0:Int)) q0.1.1 (q0.1.1.length:Int) 0
def F190:Fn:=⟨[DX],[rB],fun k x=>alR k x.1⟩
theorem ok190:O 190 F190:=okF (ah ok193 <| ah ok266 <| ah ok267 <| ah ok268 <| ah ok269 aj) [] (fun k=>(.loop 4 ac6 (aib k) (fun g=>(fun (g4:NZ)=>(.loop 15 Zo (ac4 k g4) (fun g=>.nil) (.loop 9 ac5 (aia k g4) (fun g=>.nil) .nil))) (fun l_1 all around t15 t16 t17=>g ((),l_1,all,around,t15,t16,t17,()))) .nil)) Tryz.func190 rfl
abbrev ac7:Cut:=⟨[0,3,4,5,11,12,13,19,20],[.cell qb,.own 286 BH,cI,.box 365 [cI,cI,cI,.cell .bool],.own 365 EW,cI,cI,cI,cI],[],38,[]⟩
def WM (k:Nat) (g3:YX) (g6:(List jl) -> EX -> Int -> Int -> Int -> Int -> Bool -> uy -> Int -> Int -> Int -> Int -> Option O1) (a:List jl) (b:List BI) (c e f h:Int) (i:Bool) (l:List qg) (m n o p:Int):Option O1 :=
 (bif decide (p<o) then
  (bif decide (c<24) then
   (ab0 k (e,f,h,i) p).bind fun q1 =>
   (bif q1.1.1 then
    ix b p <|
    ax 24 c <|
    g6 a (upd b p (Ur (α:=Bool) 24 (rd b p (Qn (α:=Bool) 24 false)) c true)) c e f h i l m n o (IntKind.i64.wrap (p+1))
   else
    g6 a b c e f h i l m n o (IntKind.i64.wrap (p+1)))
  else
   g6 a b c e f h i l m n o (IntKind.i64.wrap (p+1)))
 else
  g3 a b l m (IntKind.i64.wrap (n+1)))
def aie (k:Nat) (g3:YX):Xx (((Unit)×(List jl)×EX×Int×ahW×uy×Int×Int×Int×Int×Unit) -> Option O1):=eu (dw (dh (dh (dh (d9 (dh (dh (dh (dh dx)))) (dh (dh (dh (dh (dh dx)))))))))) (WM k g3)
def WO (k:Nat) (g3:YX) (a:Nat) (b:List jl) (c:List BI) (e f h i:Int) (l:Bool) (m:List qg) (n o p s:Int):Option O1:=iter ac7 (aie k g3) a ((),b,c,e,(f,h,i,l,()),m,n,o,p,s,())
theorem Zr (k g3 a b c e f h i l m n o p s):WO k g3 (a+1) b c e f h i l m n o p s=WM k g3 (WO k g3 a) b c e f h i l m n o p s:=Ba _ _ _ _
abbrev ac8:Cut:=⟨[0,3,11,12,13],[.cell qb,.own 286 BH,.own 365 EW,cI,cI],[],38,[]⟩
def WQ (k:Nat) (g3:YX) (a:List jl) (b:List BI) (c:List qg) (e f:Int):Option O1 :=
 (bif decide (f<e) then
  ix c f <|
  WO k g3 k a b f (rd c f (0,0,0,false)).1 (rd c f (0,0,0,false)).2.1 (rd c f (0,0,0,false)).2.2.1 (rd c f (0,0,0,false)).2.2.2 c e f (a.length:Int) 0
 else
  some ((b,()),()))
def aif (k:Nat):Xx (((Unit)×(List jl)×EX×uy×Int×Int×Unit) -> Option O1):=eu (dw (dh (dh (dh (dh (dh dx)))))) (WQ k)
def QS (k a:Nat) (b:List jl) (c:List BI) (e:List qg) (f h:Int):Option O1:=iter ac8 (aif k) a ((),b,c,e,f,h,())
theorem Zt (k a b c e f h):QS k (a+1) b c e f h=WQ k (QS k a) b c e f h:=Ba _ _ _ _
def aii (k:Nat) (a:List jl):Option O1 :=
 mk (a.length:Int) (a.length:Int) 24 <|
 (ah7 k a).bind fun q0 =>
 QS k k a (List.replicate (a.length:Int).toNat (Qn (α:=Bool) 24 false:PN Bool 24)) q0.1.1 (q0.1.1.length:Int) 0
def F192:Fn:=⟨[DX],[.val ⟨false,(.sl 286 BH),true⟩],fun k x=>aii k x.1⟩
theorem ok192:O 192 F192:=okF (ah ok266 <| ah ok267 aj) [] (fun k=>(.loop 3 ac8 (aif k) (fun g=>(fun (g3:YX)=>(.loop 6 ac7 (aie k g3) (fun g=>.nil) .nil)) (fun l_1 out t11 t12 t13=>g ((),l_1,out,t11,t12,t13,()))) .nil)) Tryz.func192 rfl
def apt (k:Nat) (a:Int) (b:List jl) (c:Int):Option jy :=
 ix b a <|
 ix b c <|
 some (((rd b a (0,0,0,0)).2.1==(rd b c (0,0,0,0)).2.1,()),())
def F271:Fn:=⟨[au,.pv (.ref qb),Zg],[rB],fun k (a,b,c,_)=>apt k a b c⟩
theorem ok271:O 271 F271:=okF aj [] On Tryz.func271 rfl
abbrev Zu:Cut:=⟨[0,1,7,8],[.cell sw,.lJ 271 [.ref qb,.ref (.int .i64)],cI,cI],[],19,[]⟩
def OY (k:Nat) (g2:(List Int) -> (List jl) -> Int -> Int -> Int -> Option jk) (a:List Int) (b:List jl) (c e f:Int):Option jk :=
 (bif decide (f<e) then
  ix a f <|
  (apt k (rd a f 0) b c).bind fun q0 =>
  (bif q0.1.1 then
   some ((f,()),())
  else
   g2 a b c e (IntKind.i64.wrap (f+1)))
 else
  some (((-1),()),()))
def ac9 (k:Nat):Xx (((Unit)×(List Int)×((List jl)×Int×Unit)×Int×Int×Unit) -> Option jk):=eu (dw (dh (d9 (dh (dh dx)) (dh (dh dx))))) (OY k)
def DY (k a:Nat) (b:List Int) (c:List jl) (e f h:Int):Option jk:=iter Zu (ac9 k) a ((),b,(c,e,()),f,h,())
theorem V5 (k a b c e f h):DY k (a+1) b c e f h=OY k (DY k a) b c e f h:=Ba _ _ _ _
def aij (k:Nat) (a:List Int) (b:List jl) (c:Int):Option jk :=
 DY k k a b c (a.length:Int) 0
def F272a:Fn:=⟨[WE,aq6],[rI],fun k (a,(b,c,_),_)=>aij k a b c⟩
theorem ok272a:O 272 F272a:=okF (ah ok271 aj) [] (fun k=>(.loop 2 Zu (ac9 k) (fun g=>.nil) .nil)) Tryz.func272 rfl
def ada (k:Nat) (a:List Int) (b:List jl) (c:Int):Option jy :=
 (aij k a b c).bind fun q0 =>
 some ((decide (q0.1.1≥0),()),())
def F193a:Fn:=⟨[WE,aq6],[rB],fun k (a,(b,c,_),_)=>ada k a b c⟩
theorem ok193a:O 193 F193a:=okF (ah ok272a aj) [] On Tryz.func193 rfl
abbrev alT:Cut:=⟨[1,4,5,6,7,8,9,20,21,22],[.box 52 [.cell qb],.own 3 (.int .i64),.own 3 (.int .i64),.mp 367 true BH false (.int .i64),.cell (.sl 286 BH),.box 3 [cI],.box 286 [.cell .bool,.cell .bool,.cell .bool,.cell .bool,.cell .bool,.cell .bool,.cell .bool,.cell .bool,.cell .bool,.cell .bool,.cell .bool,.cell .bool,.cell .bool,.cell .bool,.cell .bool,.cell .bool,.cell .bool,.cell .bool,.cell .bool,.cell .bool,.cell .bool,.cell .bool,.cell .bool,.cell .bool],.cell (.sl 286 BH),cI,cI],[],110,[]⟩
def QT (k:Nat) (g3:ahU) (a:List jl) (b c:List Int) (e:List (BI×Int)) (f:List BI) (h:Int) (x i l m n o p s t u v w y z A B C D G H I J K M:Bool) (N:List BI) (O P:Int):Option Z9 :=
 ix a h <|
 (bif (rd a h (0,0,0,0)).1==9 then
  (bif decide ((c.length:Int)≥2) then
   some (([],false,()),())
  else
   (ada k c a h).bind fun q1 =>
   (bif q1.1.1 then
    some (([],false,()),())
   else
    ap c ([h]:List Int) 8 fun r2 =>
    g3 a b r2 e f N O (IntKind.i64.wrap (P+1))))
 else
  (bif (rd a h (0,0,0,0)).1==10 then
   (bif decide ((IntKind.i64.wrap ((c.length:Int) - 1))<0) then
    some (([],false,()),())
   else
    ix c (IntKind.i64.wrap ((c.length:Int) - 1)) <|
    ix a (rd c (IntKind.i64.wrap ((c.length:Int) - 1)) 0) <|
    ix a h <|
    (bif (rd a (rd c (IntKind.i64.wrap ((c.length:Int) - 1)) 0) (0,0,0,0)).2.1 != (rd a h (0,0,0,0)).2.1 then
     some (([],false,()),())
    else
     ix c (IntKind.i64.wrap ((c.length:Int) - 1)) <|
     ix f (rd c (IntKind.i64.wrap ((c.length:Int) - 1)) 0) <|
     (bif (Us BH (.int .i64) (rd f (rd c (IntKind.i64.wrap ((c.length:Int) - 1)) 0) (Qn (α:=Bool) 24 false)) e 0) != (Us BH (.int .i64) (x,i,l,m,n,o,p,s,t,u,v,w,y,z,A,B,C,D,G,H,I,J,K,M) e 0) then
      some (([],false,()),())
     else
      ix c (IntKind.i64.wrap ((c.length:Int) - 1)) <|
      ix b (rd c (IntKind.i64.wrap ((c.length:Int) - 1)) 0) <|
      sx c 0 (IntKind.i64.wrap ((c.length:Int) - 1)) <|
      g3 a (upd b (rd c (IntKind.i64.wrap ((c.length:Int) - 1)) 0) h) (c.take (IntKind.i64.wrap ((c.length:Int) - 1)).toNat) e f N O (IntKind.i64.wrap (P+1)))))
  else
   g3 a b c e f N O (IntKind.i64.wrap (P+1))))
abbrev adb:Cut:=⟨[1,4,5,6,7,20,21,22],[.box 52 [.cell qb],.own 3 (.int .i64),.own 3 (.int .i64),.mp 367 true BH false (.int .i64),.cell (.sl 286 BH),.cell (.sl 286 BH),cI,cI],[],110,[]⟩
def WR (k:Nat) (g3:ahU) (a:List jl) (b c:List Int) (e:List (BI×Int)) (f h:List BI) (i l:Int):Option Z9 :=
 (bif decide (l<i) then
  ix h l <|
  (bif !(Ut BH (.int .i64) (rd h l (Qn (α:=Bool) 24 false)) e) then
   QT k g3 a b c (vL BH (.int .i64) (rd h l (Qn (α:=Bool) 24 false)) l e) f l (rd h l (Qn (α:=Bool) 24 false)).1 (rd h l (Qn (α:=Bool) 24 false)).2.1 (rd h l (Qn (α:=Bool) 24 false)).2.2.1 (rd h l (Qn (α:=Bool) 24 false)).2.2.2.1 (rd h l (Qn (α:=Bool) 24 false)).2.2.2.2.1 (rd h l (Qn (α:=Bool) 24 false)).2.2.2.2.2.1 (rd h l (Qn (α:=Bool) 24 false)).2.2.2.2.2.2.1 (rd h l (Qn (α:=Bool) 24 false)).2.2.2.2.2.2.2.1 (rd h l (Qn (α:=Bool) 24 false)).2.2.2.2.2.2.2.2.1 (rd h l (Qn (α:=Bool) 24 false)).2.2.2.2.2.2.2.2.2.1 (rd h l (Qn (α:=Bool) 24 false)).2.2.2.2.2.2.2.2.2.2.1 (rd h l (Qn (α:=Bool) 24 false)).2.2.2.2.2.2.2.2.2.2.2.1 (rd h l (Qn (α:=Bool) 24 false)).2.2.2.2.2.2.2.2.2.2.2.2.1 (rd h l (Qn (α:=Bool) 24 false)).2.2.2.2.2.2.2.2.2.2.2.2.2.1 (rd h l (Qn (α:=Bool) 24 false)).2.2.2.2.2.2.2.2.2.2.2.2.2.2.1 (rd h l (Qn (α:=Bool) 24 false)).2.2.2.2.2.2.2.2.2.2.2.2.2.2.2.1 (rd h l (Qn (α:=Bool) 24 false)).2.2.2.2.2.2.2.2.2.2.2.2.2.2.2.2.1 (rd h l (Qn (α:=Bool) 24 false)).2.2.2.2.2.2.2.2.2.2.2.2.2.2.2.2.2.1 (rd h l (Qn (α:=Bool) 24 false)).2.2.2.2.2.2.2.2.2.2.2.2.2.2.2.2.2.2.1 (rd h l (Qn (α:=Bool) 24 false)).2.2.2.2.2.2.2.2.2.2.2.2.2.2.2.2.2.2.2.1 (rd h l (Qn (α:=Bool) 24 false)).2.2.2.2.2.2.2.2.2.2.2.2.2.2.2.2.2.2.2.2.1 (rd h l (Qn (α:=Bool) 24 false)).2.2.2.2.2.2.2.2.2.2.2.2.2.2.2.2.2.2.2.2.2.1 (rd h l (Qn (α:=Bool) 24 false)).2.2.2.2.2.2.2.2.2.2.2.2.2.2.2.2.2.2.2.2.2.2.1 (rd h l (Qn (α:=Bool) 24 false)).2.2.2.2.2.2.2.2.2.2.2.2.2.2.2.2.2.2.2.2.2.2.2 h i l
  else
   QT k g3 a b c e f l (rd h l (Qn (α:=Bool) 24 false)).1 (rd h l (Qn (α:=Bool) 24 false)).2.1 (rd h l (Qn (α:=Bool) 24 false)).2.2.1 (rd h l (Qn (α:=Bool) 24 false)).2.2.2.1 (rd h l (Qn (α:=Bool) 24 false)).2.2.2.2.1 (rd h l (Qn (α:=Bool) 24 false)).2.2.2.2.2.1 (rd h l (Qn (α:=Bool) 24 false)).2.2.2.2.2.2.1 (rd h l (Qn (α:=Bool) 24 false)).2.2.2.2.2.2.2.1 (rd h l (Qn (α:=Bool) 24 false)).2.2.2.2.2.2.2.2.1 (rd h l (Qn (α:=Bool) 24 false)).2.2.2.2.2.2.2.2.2.1 (rd h l (Qn (α:=Bool) 24 false)).2.2.2.2.2.2.2.2.2.2.1 (rd h l (Qn (α:=Bool) 24 false)).2.2.2.2.2.2.2.2.2.2.2.1 (rd h l (Qn (α:=Bool) 24 false)).2.2.2.2.2.2.2.2.2.2.2.2.1 (rd h l (Qn (α:=Bool) 24 false)).2.2.2.2.2.2.2.2.2.2.2.2.2.1 (rd h l (Qn (α:=Bool) 24 false)).2.2.2.2.2.2.2.2.2.2.2.2.2.2.1 (rd h l (Qn (α:=Bool) 24 false)).2.2.2.2.2.2.2.2.2.2.2.2.2.2.2.1 (rd h l (Qn (α:=Bool) 24 false)).2.2.2.2.2.2.2.2.2.2.2.2.2.2.2.2.1 (rd h l (Qn (α:=Bool) 24 false)).2.2.2.2.2.2.2.2.2.2.2.2.2.2.2.2.2.1 (rd h l (Qn (α:=Bool) 24 false)).2.2.2.2.2.2.2.2.2.2.2.2.2.2.2.2.2.2.1 (rd h l (Qn (α:=Bool) 24 false)).2.2.2.2.2.2.2.2.2.2.2.2.2.2.2.2.2.2.2.1 (rd h l (Qn (α:=Bool) 24 false)).2.2.2.2.2.2.2.2.2.2.2.2.2.2.2.2.2.2.2.2.1 (rd h l (Qn (α:=Bool) 24 false)).2.2.2.2.2.2.2.2.2.2.2.2.2.2.2.2.2.2.2.2.2.1 (rd h l (Qn (α:=Bool) 24 false)).2.2.2.2.2.2.2.2.2.2.2.2.2.2.2.2.2.2.2.2.2.2.1 (rd h l (Qn (α:=Bool) 24 false)).2.2.2.2.2.2.2.2.2.2.2.2.2.2.2.2.2.2.2.2.2.2.2 h i l)
 else
  (bif decide ((c.length:Int)>0) then
   some (([],false,()),())
  else
   some ((b,true,()),())))
def aik (k:Nat):Xx (((Unit)×((List jl)×Unit)×(List Int)×(List Int)×(List (BI×Int))×EX×EX×Int×Int×Unit) -> Option Z9):=eu (dw (d9 (dh dx) (dh (dh (dh (dh (dh (dh (dh dx))))))))) (WR k)
def LU (k a:Nat) (b:List jl) (c e:List Int) (f:List (BI×Int)) (h i:List BI) (l m:Int):Option Z9:=iter adb (aik k) a ((),(b,()),c,e,f,h,i,l,m,())
theorem Zv (k a b c e f h i l m):LU k (a+1) b c e f h i l m=WR k (LU k a) b c e f h i l m:=Ba _ _ _ _
def ail (k:Nat) (a:List jl):Option Z9 :=
 mk (a.length:Int) (a.length:Int) 8 <|
 (aii k a).bind fun q0 =>
 LU k k a (List.replicate (a.length:Int).toNat (0:Int)) ([]:List Int) ([]:List (BI×Int)) q0.1.1 q0.1.1 (q0.1.1.length:Int) 0
def F191:Fn:=⟨[DX],[ahZ,rB],fun k x=>ail k x.1⟩
theorem ok191:O 191 F191:=okF (ah ok192 <| ah ok193a aj) [(104,1)] (fun k=>(.loop 3 adb (aik k) (fun g=>(fun (g3:ahU)=>(.join 8 alT (fun (_,(a,_),b,c,e,f,(h,_),(i,l,m,n,o,p,s,t,u,v,w,y,z,A,B,C,D,G,H,I,J,K,M,N,_),O,P,Q,_)=>QT k g3 a b c e f h i l m n o p s t u v w y z A B C D G H I J K M N O P Q) .nil)) (fun l_1 out open_ same all t20 t21 t22=>g ((),(l_1,()),out,open_,same,all,t20,t21,t22,()))) .nil)) Tryz.func191 rfl
def apu (k:Nat) (a b:Int):Option jy :=
 some ((decide (a>b),()),())
def F194:Fn:=⟨[au,Zg],[rB],fun k x=>apu k x.1 x.2.1⟩
theorem ok194:O 194 F194:=okF aj [] On Tryz.func194 rfl
abbrev Zw:Cut:=⟨[0,1,7,8],[.cell sw,.lJ 194 [.ref (.int .i64)],cI,cI],[],19,[]⟩
def OZ (k:Nat) (g2:(List Int) -> Int -> Int -> Int -> Option jk) (a:List Int) (b c e:Int):Option jk :=
 (bif decide (e<c) then
  ix a e <|
  (apu k (rd a e 0) b).bind fun q0 =>
  (bif q0.1.1 then
   some ((e,()),())
  else
   g2 a b c (IntKind.i64.wrap (e+1)))
 else
  some (((-1),()),()))
def ade (k:Nat):Xx (((Unit)×(List Int)×Z8×Int×Int×Unit) -> Option jk):=eu (dw (dh (d9 (dh dx) (dh (dh dx))))) (OZ k)
def DZ (k a:Nat) (b:List Int) (c e f:Int):Option jk:=iter Zw (ade k) a ((),b,(c,()),e,f,())
theorem V6 (k a b c e f):DZ k (a+1) b c e f=OZ k (DZ k a) b c e f:=Ba _ _ _ _
def ain (k:Nat) (a:List Int) (b:Int):Option jk :=
 DZ k k a b (a.length:Int) 0
def F272b:Fn:=⟨[WE,.pv (.lJ 194 [.ref (.int .i64)])],[rI],fun k x=>ain k x.1 x.2.1.1⟩
theorem ok272b:O 272 F272b:=okF (ah ok194 aj) [] (fun k=>(.loop 2 Zw (ade k) (fun g=>.nil) .nil)) Tryz.func272 rfl
def adf (k:Nat) (a:List Int) (b:Int):Option jy :=
 (ain k a b).bind fun q0 =>
 some ((decide (q0.1.1≥0),()),())
def F193b:Fn:=⟨[WE,.pv (.lJ 194 [.ref (.int .i64)])],[rB],fun k x=>adf k x.1 x.2.1.1⟩
theorem ok193b:O 193 F193b:=okF (ah ok272b aj) [] On Tryz.func193 rfl
abbrev Zx:Cut:=⟨[4,6,42,43,44],[.own 3 (.int .i64),.own 286 BH,.cell qb,cI,cI],[],66,[]⟩
def P7 (k:Nat) (g11:(List Int) -> EX -> (List jl) -> Int -> Int -> Option jy) (a:List Int) (b:List BI) (c:List jl) (e f:Int):Option jy :=
 (bif decide (f<e) then
  ix c f <|
  (bif (rd c f (0,0,0,0)).1 != 11 then
   g11 a b c e (IntKind.i64.wrap (f+1))
  else
   ix b f <|
   (bif !(fC BH (rd b f (Qn (α:=Bool) 24 false)) (false,false,false,false,false,false,false,false,false,false,false,false,false,false,false,false,false,false,false,false,false,false,false,false)) then
    some ((false,()),())
   else
    sx a 0 f <|
    (adf k (sub a 0 f) f).bind fun q5 =>
    (bif q5.1.1 then
     some ((false,()),())
    else
     g11 a b c e (IntKind.i64.wrap (f+1)))))
 else
  some ((true,()),()))
def adg (k:Nat):Xx (((Unit)×(List Int)×EX×(List jl)×Int×Int×Unit) -> Option jy):=eu (dw (dh (dh (dh (dh (dh dx)))))) (P7 k)
def E5 (k a:Nat) (b:List Int) (c:List BI) (e:List jl) (f h:Int):Option jy:=iter Zx (adg k) a ((),b,c,e,f,h,())
theorem V7 (k a b c e f h):E5 k (a+1) b c e f h=P7 k (E5 k a) b c e f h:=Ba _ _ _ _
def agN (k:Nat) (a:List jl):Option jy :=
 (bif decide ((a.length:Int)<1) then
  some ((false,()),())
 else
  (bif decide ((a.length:Int)>24) then
   some ((false,()),())
  else
   (S57 k a).bind fun q0 =>
   (bif q0.1.1 then
    some ((false,()),())
   else
    (ac1 k a).bind fun q1 =>
    (bif q1.1.1 != (IntKind.i64.wrap ((a.length:Int) - 1)) then
     some ((false,()),())
    else
     (alR k a).bind fun q2 =>
     (bif !q2.1.1 then
      some ((false,()),())
     else
      (ail k a).bind fun q3 =>
      (bif !q3.1.2.1 then
       some ((false,()),())
      else
       (aii k a).bind fun q4 =>
       E5 k k q3.1.1 q4.1.1 a (a.length:Int) 0))))))
def F108:Fn:=⟨[DX],[rB],fun k x=>agN k x.1⟩
theorem ok108:O 108 F108:=okF (ah ok57 <| ah ok130a <| ah ok190 <| ah ok191 <| ah ok192 <| ah ok193b aj) [] (fun k=>(.loop 11 Zx (adg k) (fun g=>.nil) .nil)) Tryz.func108 rfl
def aio (k:Nat) (a:List jl):Option jy :=
 (bif (a.length:Int)==0 then
  some ((true,()),())
 else
  (agN k a).bind fun q0 =>
  some ((q0.1.1,()),()))
def F316:Fn:=⟨[DX],[rB],fun k x=>aio k x.1⟩
theorem ok316:O 316 F316:=okF (ah ok108 aj) [] On Tryz.func316 rfl
def apv (k:Nat) (a:Int×Int×Int×Int):Option jy :=
 some ((a.1==9,()),())
def F345:Fn:=⟨[agK],[rB],fun k x=>apv k x.1⟩
theorem ok345:O 345 F345:=okF aj [] On Tryz.func345 rfl
abbrev Zy:Cut:=⟨[0,1,7,8],[.cell qb,.lJ 345 [],cI,cI],[],19,[]⟩
def P8 (k:Nat) (g2:(List jl) -> Int -> Int -> Option jk) (a:List jl) (b c:Int):Option jk :=
 (bif decide (c<b) then
  ix a c <|
  (apv k (rd a c (0,0,0,0))).bind fun q0 =>
  (bif q0.1.1 then
   some ((c,()),())
  else
   g2 a b (IntKind.i64.wrap (c+1)))
 else
  some (((-1),()),()))
def adh (k:Nat):Xx (ahX):=eu (dw (dh (dw (dh (dh dx))))) (P8 k)
def GU (k a:Nat) (b:List jl) (c e:Int):Option jk:=iter Zy (adh k) a ((),b,(),c,e,())
theorem V8 (k a b c e):GU k (a+1) b c e=P8 k (GU k a) b c e:=Ba _ _ _ _
def adi (k:Nat) (a:List jl):Option jk :=
 GU k k a (a.length:Int) 0
def F130b:Fn:=⟨[DX,.pv (.lJ 345 [])],[rI],fun k x=>adi k x.1⟩
theorem ok130b:O 130 F130b:=okF (ah ok345 aj) [] (fun k=>(.loop 2 Zy (adh k) (fun g=>.nil) .nil)) Tryz.func130 rfl
def apw (k:Nat) (a:List jl):Option jy :=
 (adi k a).bind fun q0 =>
 some ((decide (q0.1.1≥0),()),())
def F57a:Fn:=⟨[DX,.pv (.lJ 345 [])],[rB],fun k x=>apw k x.1⟩
theorem ok57a:O 57 F57a:=okF (ah ok130b aj) [] On Tryz.func57 rfl
def alU (k:Nat) (a:List jl):Option jy :=
 (apw k a).bind fun q0 =>
 some ((q0.1.1,()),())
def F317:Fn:=⟨[DX],[rB],fun k x=>alU k x.1⟩
theorem ok317:O 317 F317:=okF (ah ok57a aj) [] On Tryz.func317 rfl
def aip (k:Nat) (a:Int):Option jk :=
 (bif decide (a<0) then
  some ((IntKind.u64.wrap (0 - (IntKind.u64.wrap a)),()),())
 else
  some ((IntKind.u64.wrap a,()),()))
def F361:Fn:=⟨[au],[.val ⟨false,(.int .u64),true⟩],fun k x=>aip k x.1⟩
theorem ok361:O 361 F361:=okF aj [] On Tryz.func361 rfl
def alV (k:Nat) (a b:Int):Option D8 :=
 (bif decide ((Ul .u64 a 32)>0) then
  (bif decide ((Ul .u64 b 32)>0) then
   some ((0,false,()),())
  else
   (bif decide ((Ul .u64 (Uz .u64 (IntKind.u64.wrap ((Ul .u64 a 32) * (IntKind.u64.wrap (IntKind.u32.wrap b)))) (IntKind.u64.wrap ((IntKind.u64.wrap (IntKind.u32.wrap a)) * (Ul .u64 b 32)))) 32)>0) then
    some ((0,false,()),())
   else
    some ((IntKind.u64.wrap ((IntKind.u64.wrap ((IntKind.u64.wrap (IntKind.u32.wrap a)) * (IntKind.u64.wrap (IntKind.u32.wrap b))))+(Uk .u64 (Uz .u64 (IntKind.u64.wrap ((Ul .u64 a 32) * (IntKind.u64.wrap (IntKind.u32.wrap b)))) (IntKind.u64.wrap ((IntKind.u64.wrap (IntKind.u32.wrap a)) * (Ul .u64 b 32)))) 32)),decide ((IntKind.u64.wrap ((IntKind.u64.wrap ((IntKind.u64.wrap (IntKind.u32.wrap a)) * (IntKind.u64.wrap (IntKind.u32.wrap b))))+(Uk .u64 (Uz .u64 (IntKind.u64.wrap ((Ul .u64 a 32) * (IntKind.u64.wrap (IntKind.u32.wrap b)))) (IntKind.u64.wrap ((IntKind.u64.wrap (IntKind.u32.wrap a)) * (Ul .u64 b 32)))) 32)))≥(IntKind.u64.wrap ((IntKind.u64.wrap (IntKind.u32.wrap a)) * (IntKind.u64.wrap (IntKind.u32.wrap b))))),()),())))
 else
  (bif decide ((Ul .u64 (Uz .u64 (IntKind.u64.wrap ((Ul .u64 a 32) * (IntKind.u64.wrap (IntKind.u32.wrap b)))) (IntKind.u64.wrap ((IntKind.u64.wrap (IntKind.u32.wrap a)) * (Ul .u64 b 32)))) 32)>0) then
   some ((0,false,()),())
  else
   some ((IntKind.u64.wrap ((IntKind.u64.wrap ((IntKind.u64.wrap (IntKind.u32.wrap a)) * (IntKind.u64.wrap (IntKind.u32.wrap b))))+(Uk .u64 (Uz .u64 (IntKind.u64.wrap ((Ul .u64 a 32) * (IntKind.u64.wrap (IntKind.u32.wrap b)))) (IntKind.u64.wrap ((IntKind.u64.wrap (IntKind.u32.wrap a)) * (Ul .u64 b 32)))) 32)),decide ((IntKind.u64.wrap ((IntKind.u64.wrap ((IntKind.u64.wrap (IntKind.u32.wrap a)) * (IntKind.u64.wrap (IntKind.u32.wrap b))))+(Uk .u64 (Uz .u64 (IntKind.u64.wrap ((Ul .u64 a 32) * (IntKind.u64.wrap (IntKind.u32.wrap b)))) (IntKind.u64.wrap ((IntKind.u64.wrap (IntKind.u32.wrap a)) * (Ul .u64 b 32)))) 32)))≥(IntKind.u64.wrap ((IntKind.u64.wrap (IntKind.u32.wrap a)) * (IntKind.u64.wrap (IntKind.u32.wrap b))))),()),())))
def F360:Fn:=⟨[.val ⟨false,(.int .u64),false⟩,.val ⟨false,(.int .u64),false⟩],[.val ⟨false,(.int .u64),true⟩,rB],fun k x=>alV k x.1 x.2.1⟩
theorem ok360:O 360 F360:=okF aj [] On Tryz.func360 rfl
def agO (k:Nat) (a:Bool):Option D8 :=
 (bif a then
  some (((-9223372036854775808),false,()),())
 else
  some ((9223372036854775807,false,()),()))
def F362:Fn:=⟨[.val ⟨false,.bool,false⟩],[rI,rB],fun k x=>agO k x.1⟩
theorem ok362:O 362 F362:=okF aj [] On Tryz.func362 rfl
abbrev alW:Cut:=⟨[0,1,6,7],[cI,cI,.cell .bool,.cell (.int .u64)],[],45,[]⟩
def WS (k:Nat) (a b:Int) (c:Bool) (e:Int):Option D8 :=
 (aip k a).bind fun q0 =>
 (aip k b).bind fun q1 =>
 (alV k q0.1.1 q1.1.1).bind fun q2 =>
 (bif !q2.1.2.1 then
  (agO k c).bind fun q3 =>
  some (q3.1,())
 else
  (bif decide (q2.1.1>e) then
   (agO k c).bind fun q4 =>
   some (q4.1,())
  else
   (bif c then
    some ((IntKind.i64.wrap (IntKind.u64.wrap (0 - q2.1.1)),true,()),())
   else
    some ((IntKind.i64.wrap q2.1.1,true,()),()))))
def agP (k:Nat) (a b:Int):Option D8 :=
 (bif !((decide (a<0))==(decide (b<0))) then
  WS k a b (!((decide (a<0))==(decide (b<0)))) 9223372036854775808
 else
  WS k a b (!((decide (a<0))==(decide (b<0)))) 9223372036854775807)
def F356:Fn:=⟨[au,au],[rI,rB],fun k x=>agP k x.1 x.2.1⟩
theorem ok356:O 356 F356:=okF (ah ok360 <| ah ok361 <| ah ok362 aj) [] (fun k=>(.join 5 alW (fun (_,a,b,c,e,_)=>WS k a b c e) .nil)) Tryz.func356 rfl
abbrev Zz:Cut:=⟨[3,5,6,7,20,21,22],[.own 2 (.int .i64),cI,.box 127 [cI,cI,cI,cI],cI,.cell qb,cI,cI],[],55,[]⟩
def P9 (k:Nat) (g8:Z7) (g12:(List Int) -> Int -> Int -> Int -> Int -> Int -> Int -> (List jl) -> Int -> Int -> Option qp) (a:List Int) (b x c e f h:Int) (i:List jl) (l m:Int):Option qp :=
 (bif decide (h <= (IntKind.i64.wrap (b+e))) then
  ix a h <|
  (agP k (rd a h 0) f).bind fun q0 =>
  ix a h <|
  g12 (upd a h q0.1.1) b x c e f (IntKind.i64.wrap (h+1)) i l m
 else
  g8 a i l (IntKind.i64.wrap (m+1)))
def adj (k:Nat) (g8:Z7):Xx (((Unit)×(List Int)×Int×(Int×Int×Int×Int×Unit)×Int×(List jl)×Int×Int×Unit) -> Option qp):=eu (dw (dh (dh (d9 (dh (dh (dh (dh dx)))) (dh (dh (dh (dh dx)))))))) (P9 k g8)
def PE (k:Nat) (g8:Z7) (a:Nat) (b:List Int) (c x e f h i:Int) (l:List jl) (m n:Int):Option qp:=iter Zz (adj k g8) a ((),b,c,(x,e,f,h,()),i,l,m,n,())
theorem V9 (k g8 a b c x e f h i l m n):PE k g8 (a+1) b c x e f h i l m n=P9 k g8 (PE k g8 a) b c x e f h i l m n:=Ba _ _ _ _
abbrev adk:Cut:=⟨[3,20,21,22],[.own 2 (.int .i64),.cell qb,cI,cI],[],55,[]⟩
def WT (k:Nat) (g8:Z7) (a:List Int) (b:List jl) (c e:Int):Option qp :=
 (bif decide (e<c) then
  ix b e <|
  (bif (rd b e (0,0,0,0)).1 != 8 then
   g8 a b c (IntKind.i64.wrap (e+1))
  else
   PE k g8 k a e (rd b e (0,0,0,0)).1 (rd b e (0,0,0,0)).2.1 (rd b e (0,0,0,0)).2.2.1 (rd b e (0,0,0,0)).2.2.2 (IntKind.i64.wrap (e+1)) b c e)
 else
  some ((a,()),()))
def aiq (k:Nat):Xx (((Unit)×(List Int)×(List jl)×Int×Int×Unit) -> Option qp):=eu (dw (dh (dh (dh (dh dx))))) (WT k)
def J8 (k a:Nat) (b:List Int) (c:List jl) (e f:Int):Option qp:=iter adk (aiq k) a ((),b,c,e,f,())
theorem ZA (k a b c e f):J8 k (a+1) b c e f=WT k (J8 k a) b c e f:=Ba _ _ _ _
abbrev adl:Cut:=⟨[0,3,12,13],[.cell qb,.own 2 (.int .i64),cI,cI],[],55,[]⟩
def WU (k:Nat) (g3:(List jl) -> (List Int) -> Int -> Int -> Option qp) (a:List jl) (b:List Int) (c e:Int):Option qp :=
 (bif decide (e<c) then
  ix b e <|
  g3 a (upd b e 1) c (IntKind.i64.wrap (e+1))
 else
  J8 k k b a (a.length:Int) 0)
def air (k:Nat):Xx (((Unit)×(List jl)×(List Int)×Int×Int×Unit) -> Option qp):=eu (dw (dh (dh (dh (dh dx))))) (WU k)
def LW (k a:Nat) (b:List jl) (c:List Int) (e f:Int):Option qp:=iter adl (air k) a ((),b,c,e,f,())
theorem ZB (k a b c e f):LW k (a+1) b c e f=WU k (LW k a) b c e f:=Ba _ _ _ _
def alX (k:Nat) (a:List jl):Option qp :=
 mk (a.length:Int) (a.length:Int) 8 <|
 LW k k a (List.replicate (a.length:Int).toNat (0:Int)) ((List.replicate (a.length:Int).toNat (0:Int)).length:Int) 0
def F353:Fn:=⟨[DX],[.val ⟨false,IV,true⟩],fun k x=>alX k x.1⟩
theorem ok353:O 353 F353:=okF (ah ok356 aj) [] (fun k=>(.loop 8 adk (aiq k) (fun g=>(fun (g8:Z7)=>(.loop 12 Zz (adj k g8) (fun g=>.nil) .nil)) (fun ab1 t20 t21 t22=>g ((),ab1,t20,t21,t22,()))) (.loop 3 adl (air k) (fun g=>.nil) .nil))) Tryz.func353 rfl
def agQ (k:Nat) (a b:Int):Option D8 :=
 (bif decide ((Um .i64 (Un .i64 a (IntKind.i64.wrap (IntKind.u64.wrap ((IntKind.u64.wrap a)+(IntKind.u64.wrap b))))) (Un .i64 b (IntKind.i64.wrap (IntKind.u64.wrap ((IntKind.u64.wrap a)+(IntKind.u64.wrap b))))))<0) then
  (agO k (decide (a<0))).bind fun q0 =>
  some (q0.1,())
 else
  some ((IntKind.i64.wrap (IntKind.u64.wrap ((IntKind.u64.wrap a)+(IntKind.u64.wrap b))),true,()),()))
def F357:Fn:=⟨[au,au],[rI,rB],fun k x=>agQ k x.1 x.2.1⟩
theorem ok357:O 357 F357:=okF (ah ok362 aj) [] On Tryz.func357 rfl
abbrev adn:Cut:=⟨[2,5,6,7],[cI,.cell IV,cI,cI],[],19,[]⟩
def WV (k:Nat) (g2:UU) (a:Int) (b:List Int) (c e:Int):Option jk :=
 (bif decide (e<c) then
  ix b e <|
  (agQ k a (rd b e 0)).bind fun q0 =>
  g2 q0.1.1 b c (IntKind.i64.wrap (e+1))
 else
  some ((a,()),()))
def ais (k:Nat):Xx (((Unit)×Int×(List Int)×Int×Int×Unit) -> Option jk):=eu (dw (dh (dh (dh (dh dx))))) (WV k)
def WW (k a:Nat) (b:Int) (c:List Int) (e f:Int):Option jk:=iter adn (ais k) a ((),b,c,e,f,())
theorem ZC (k a b c e f):WW k (a+1) b c e f=WV k (WW k a) b c e f:=Ba _ _ _ _
def ZE (k:Nat) (a:List Int):Option jk :=
 WW k k 0 a (a.length:Int) 0
def F354:Fn:=⟨[.val ⟨false,IV,false⟩],[rI],fun k x=>ZE k x.1⟩
theorem ok354:O 354 F354:=okF (ah ok357 aj) [] (fun k=>(.loop 2 adn (ais k) (fun g=>.nil) .nil)) Tryz.func354 rfl
abbrev ado:Cut:=⟨[2,4,5,6,24,25,26],[.box 310 [cI,cI,.own 378 oo],.own 2 (.int .i64),cI,.own 3 (.int .i64),.cell qb,cI,cI],[],75,[]⟩
def WX (k:Nat) (g7:Int -> Int -> jw -> (List Int) -> Int -> (List Int) -> (List jl) -> Int -> Int -> Option Z0) (a b:Int) (c:ny) (e:List Int) (f:Int) (h:List Int) (i:List jl) (l m:Int):Option Z0 :=
 (bif decide (m<l) then
  ix i m <|
  (bif (rd i m (0,0,0,0)).1==11 then
   sx e f (IntKind.i64.wrap (m+1)) <|
   (ZE k (sub e f (IntKind.i64.wrap (m+1)))).bind fun q4 =>
   g7 a (mx b q4.1.1) c e (IntKind.i64.wrap (m+1)) h i l (IntKind.i64.wrap (m+1))
  else
   (bif (rd i m (0,0,0,0)).1==0 then
    sx e f (IntKind.i64.wrap (m+1)) <|
    (ZE k (sub e f (IntKind.i64.wrap (m+1)))).bind fun q5 =>
    g7 a (mx b q5.1.1) c e (IntKind.i64.wrap (m+1)) h i l (IntKind.i64.wrap (m+1))
   else
    (bif (rd i m (0,0,0,0)).1==9 then
     ix h m <|
     sx e (IntKind.i64.wrap (m+1)) (IntKind.i64.wrap ((rd h m 0)+1)) <|
     (ZE k (sub e (IntKind.i64.wrap (m+1)) (IntKind.i64.wrap ((rd h m 0)+1)))).bind fun q6 =>
     ix e m <|
     nz (rd e m 0) <|
     ap c ([((rd i m (0,0,0,0)).2.1,IntKind.i64.wrap (Int.tdiv q6.1.1 (rd e m 0)))]:List (Int×Int)) 16 fun r7 =>
     g7 a b r7 e f h i l (IntKind.i64.wrap (m+1))
    else
     g7 a b c e f h i l (IntKind.i64.wrap (m+1)))))
 else
  some (((a,b,c),true,()),()))
def ait (k:Nat):Xx (((Unit)×(Int×Int×jw×Unit)×(List Int)×Int×(List Int)×(List jl)×Int×Int×Unit) -> Option Z0):=eu (dw (d9 (dh (dh (dh dx))) (dh (dh (dh (dh (dh (dh dx)))))))) (WX k)
def QU (k a:Nat) (b c:Int) (e:ny) (f:List Int) (h:Int) (i:List Int) (l:List jl) (m n:Int):Option Z0:=iter ado (ait k) a ((),(b,c,e,()),f,h,i,l,m,n,())
theorem ZF (k a b c e f h i l m n):QU k (a+1) b c e f h i l m n=WX k (QU k a) b c e f h i l m n:=Ba _ _ _ _
def agR (k:Nat) (a:List jl):Option Z0 :=
 (agN k a).bind fun q0 =>
 (bif !q0.1.1 then
  some (((0,0,[]),false,()),())
 else
  (alX k a).bind fun q1 =>
  (ail k a).bind fun q2 =>
  (ZE k q1.1.1).bind fun q3 =>
  QU k k q3.1.1 0 ([]:List (Int×Int)) q1.1.1 0 q2.1.1 a (a.length:Int) 0)
def F346:Fn:=⟨[DX],[.val ⟨true,(.pair (.int .i64) (.pair (.int .i64) (.sl 378 oo))),true⟩,rB],fun k x=>agR k x.1⟩
theorem ok346:O 346 F346:=okF (ah ok108 <| ah ok191 <| ah ok353 <| ah ok354 aj) [(2,2)] (fun k=>(.loop 7 ado (ait k) (fun g=>.nil) .nil)) Tryz.func346 rfl
def agS (k:Nat) (a:List jl):Option jk :=
 (agR k a).bind fun q0 =>
 some ((q0.1.1.1,()),())
def F318:Fn:=⟨[DX],[rI],fun k x=>agS k x.1⟩
theorem ok318:O 318 F318:=okF (ah ok346 aj) [] On Tryz.func318 rfl
def agT (k:Nat) (a:JZ):Option jk :=
 (bif decide (a.1<0) then
  some ((1,()),())
 else
  (bif decide (a.1>63) then
   some ((1,()),())
  else
   (bif decide (a.2.1<1) then
    some ((9,()),())
   else
    (bif decide (a.2.1>16384) then
     some ((9,()),())
    else
     (bif decide (a.2.2.1<1) then
      some ((9,()),())
     else
      (bif decide (a.2.2.1>a.2.1) then
       some ((9,()),())
      else
       (agN k a.2.2.2.1).bind fun q0 =>
       (bif !q0.1.1 then
        some ((2,()),())
       else
        (aio k a.2.2.2.2.1).bind fun q1 =>
        (bif !q1.1.1 then
         some ((2,()),())
        else
         (aio k a.2.2.2.2.2).bind fun q2 =>
         (bif !q2.1.1 then
          some ((2,()),())
         else
          (alU k a.2.2.2.2.2).bind fun q3 =>
          (bif q3.1.1 then
           some ((2,()),())
          else
           (agS k a.2.2.2.1).bind fun q4 =>
           (bif decide (q4.1.1>a.2.2.1) then
            some ((10,()),())
           else
            (agS k a.2.2.2.2.1).bind fun q5 =>
            (agS k a.2.2.2.1).bind fun q6 =>
            (bif decide (q5.1.1>q6.1.1) then
             some ((12,()),())
            else
             some ((0,()),())))))))))))))
def F247:Fn:=⟨[V3],[rI],fun k x=>agT k x.1⟩
theorem ok247:O 247 F247:=okF (ah ok108 <| ah ok316 <| ah ok317 <| ah ok318 aj) [] On Tryz.func247 rfl
def QV (k:Nat) (a:List jl):Option FR:=qQ 32 127 UR k (a,())
def F126:Fn:=⟨dJ 127 UR,iZ 127 UR,qQ 32 127 UR⟩
theorem ok126:O 126 F126:=Kz IW mix Tryz.func126 rfl (by kernel_rfl) (by kernel_rfl) (fun k=>by kernel_rfl) (fun k xs=>by kernel_rfl) (fun k xs=>by kernel_rfl)
def aiu (k:Nat) (a:JZ):Option ((jr×Unit)×Unit) :=
 (QV k a.2.2.2.1).bind fun q0 =>
 (QV k a.2.2.2.2.1).bind fun q1 =>
 (QV k a.2.2.2.2.2).bind fun q2 =>
 some (((a.1,a.2.1,a.2.2.1,q0.1.1,q1.1.1,q2.1.1),()),())
def F248:Fn:=⟨[V3],[.val ⟨true,BF,true⟩],fun k x=>aiu k x.1⟩
theorem ok248:O 248 F248:=okF (ah ok126 aj) [] On Tryz.func248 rfl
def apx (k:Nat) (x a:JZ):Option jy :=
 some ((decide (x.1>a.1),()),())
def F249:Fn:=⟨[V3,.pv (.ref BF)],[rB],fun k x=>apx k x.1 x.2.1⟩
theorem ok249:O 249 F249:=okF aj [] On Tryz.func249 rfl
abbrev adp:Cut:=⟨[0,1,7,8],[.cell pq,.lJ 249 [.ref BF],cI,cI],[],19,[]⟩
def WY (k:Nat) (g2:(List jr) -> jr -> Int -> Int -> Option jk) (a:List jr) (b:JZ) (c e:Int):Option jk :=
 (bif decide (e<c) then
  ix a e <|
  (apx k (rd a e bg) b).bind fun q0 =>
  (bif q0.1.1 then
   some ((e,()),())
  else
   g2 a b c (IntKind.i64.wrap (e+1)))
 else
  some (((-1),()),()))
def aiv (k:Nat):Xx (((Unit)×(List jr)×(jr×Unit)×Int×Int×Unit) -> Option jk):=eu (dw (dh (d9 (dh dx) (dh (dh dx))))) (WY k)
def J9 (k a:Nat) (b:List jr) (c:JZ) (e f:Int):Option jk:=iter adp (aiv k) a ((),b,(c,()),e,f,())
theorem ZG (k a b c e f):J9 k (a+1) b c e f=WY k (J9 k a) b c e f:=Ba _ _ _ _
def apy (k:Nat) (a:List jr) (b:JZ):Option jk :=
 J9 k k a b (a.length:Int) 0
def F132:Fn:=⟨[Ze,.pv (.lJ 249 [.ref BF])],[rI],fun k x=>apy k x.1 x.2.1.1⟩
theorem ok132:O 132 F132:=okF (ah ok249 aj) [] (fun k=>(.loop 2 adp (aiv k) (fun g=>.nil) .nil)) Tryz.func132 rfl
section
variable (w:World) {g n c i g2 m c2:Nat}
theorem DC:Tryz.prog.underlying 29=some (.slice 54) /\ Tryz.prog.underlying 3=some (.int .i64) /\ Tryz.prog.underlying 4=some .bool /\ Tryz.prog.follows .mixedOrders=true /\ (∀ w,(Go.sizeOf 54).run Tryz.prog w=.ok 6 w) /\ Tryz.f250.ntmps=95:=⟨by kernel_rfl,by kernel_rfl,by kernel_rfl,by kernel_rfl,fun w=>by kernel_rfl,rfl⟩
theorem WZ {v u:Value} (hv:(∃ A n c,v=.slice A n c /\ i <= n)) (hu:∃ A c,u=.slice A m c) (hm:m=0):Calls Tryz.prog 250 #[v,.int .i64 i,u] w fun e w'=>e=.returned v /\ w'=w:=by
 obtain ⟨t24,t3,t4,mixed,z36,hnt⟩:=DC
 have u24:=run_underlying t24;have u3:=run_underlying t3;have u4:=run_underlying t4
 obtain ⟨A,n,c,rfl,hi⟩:=hv
 obtain ⟨A2,c2,rfl⟩:=hu
 have hi0:(i:Int) <= (n:Int):=by omega
 have hz1:(m:Int)=0:=by omega
 cases A <;> (go_enter Tryz.func250,hnt;go_wp2 <;> (go_ret;exact ⟨rfl,rfl⟩))
theorem ZH {v:Value} {w':World} {v':Value} (hv:(∃ A c,v=.slice A n c)) (hm:0<m)
  (hr:∀ ty,(Builtin.append_ #[29,29] ty #[v,.slice (some ⟨g2,0,none⟩) m c2]).run Tryz.prog w=.ok v' w'):Calls Tryz.prog 250 #[v,.int .i64 n,.slice (some ⟨g2,0,none⟩) m c2] w fun e w1=>e=.returned v' /\ w1=w':=by
 obtain ⟨t24,t3,t4,mixed,z36,hnt⟩:=DC
 have u24:=run_underlying t24;have u3:=run_underlying t3;have u4:=run_underlying t4
 have hz1:¬ ((m:Int)=0):=by omega
 obtain ⟨A,c,rfl⟩:=hv
 go_enter Tryz.func250,hnt
 go_wp2_with (at_builtin;refine Gx rfl rfl _ _ rfl rfl (hr _) ?_)
 all_goals (go_ret;exact ⟨rfl,rfl⟩)
theorem UC {v' v'':Value} {w' w'':World} (hi:i<n) (hm:0<m) (hroom:n+m <= c) (hc63:c <= 9223372036854775807)
  (hov:∀ lb cb,(callFunc 319 #[.slice (some ⟨g2,0,none⟩) m c2,.slice (some ⟨g,(i+m) * 6,none⟩) lb cb]).run Tryz.prog w=.ok (.value (.bool false)) w)
  (hcp1:∀ ty dc sc,(Builtin.copy_ #[29,29] ty #[.slice (some ⟨g,(i+m) * 6,none⟩) (n+m - (i+m)) dc,.slice (some ⟨g,i * 6,none⟩) (n+m - i) sc]).run Tryz.prog w.drew=.ok v' w')
  (hcp2:∀ ty dc,(Builtin.copy_ #[29,29] ty #[.slice (some ⟨g,i * 6,none⟩) (n+m - i) dc,.slice (some ⟨g2,0,none⟩) m c2]).run Tryz.prog w'=.ok v'' w'') :
  Calls Tryz.prog 250 #[.slice (some ⟨g,0,none⟩) n c,.int .i64 i,.slice (some ⟨g2,0,none⟩) m c2] w fun e w1=>e=.returned (.slice (some ⟨g,0,none⟩) (n+m) c) /\ w1=w'':=by
 obtain ⟨t24,t3,t4,mixed,z36,hnt⟩:=DC
 have u24:=run_underlying t24;have u3:=run_underlying t3;have u4:=run_underlying t4
 have hz1:¬ ((m:Int)=0):=by omega
 have hz2:¬ ((i:Int)=(n:Int)):=by omega
 have hw1:IntKind.i64.wrap ((i:Int)+(m:Int))=(i:Int)+(m:Int):=by rw [IntKind.wrap_i64];omega
 have hb1:(0:Int) <= (i:Int)+(m:Int):=by omega
 have hin:i <= n:=by omega
 have htn:((i:Int)+(m:Int)).toNat=i+m:=by omega
 have hb2:¬ (c=i+m):=by omega
 have hb3:(i:Int) <= (n:Int)+(m:Int):=by omega
 have hb4:¬ (c=i):=by omega
 go_enter Tryz.func250,hnt
 go_wp2_with (simp only [hov])
 go_region_law_o (refine Jp rfl rfl _ _ (by simp [Act.eval,Act.put]) (by simp [Act.eval,Act.put]) (hcp1 _ _ _) ?_)
 go_wp2_with (at_builtin;refine Jo rfl rfl _ _ rfl rfl (hcp2 _ _) ?_)
 go_ret
 exact ⟨rfl,rfl⟩
theorem X0 {h G:Nat} {v' v'':Value} {w0 w' w'':World} (hi:i<n) (hm:0<m) (hnc:n <= c) (hroom:c<n+m) (hc63:n+m <= 140737488355328) (hG:n+m <= G) (hG63:G <= 9223372036854775807)
  (hrz:∀ ty,(Builtin.append_ #[29,3] ty #[.slice (some ⟨g,0,none⟩) i c,.int .i64 ((n:Int)+(m:Int) - (i:Int))]).run Tryz.prog w=.ok (.slice (some ⟨h,0,none⟩) (n+m) G) w0)
  (hcp1:∀ ty dc,(Builtin.copy_ #[29,29] ty #[.slice (some ⟨h,i * 6,none⟩) (n+m - i) dc,.slice (some ⟨g2,0,none⟩) m c2]).run Tryz.prog w0=.ok v' w')
  (hcp2:∀ ty dc sc,(Builtin.copy_ #[29,29] ty #[.slice (some ⟨h,(i+m) * 6,none⟩) (n+m - (i+m)) dc,.slice (some ⟨g,i * 6,none⟩) (n - i) sc]).run Tryz.prog w'.drew=.ok v'' w'') :
  Calls Tryz.prog 250 #[.slice (some ⟨g,0,none⟩) n c,.int .i64 i,.slice (some ⟨g2,0,none⟩) m c2] w fun e w1=>e=.returned (.slice (some ⟨h,0,none⟩) (n+m) G) /\ w1=w'':=by
 obtain ⟨t24,t3,t4,mixed,z36,hnt⟩:=DC
 have u24:=run_underlying t24;have u3:=run_underlying t3;have u4:=run_underlying t4
 have hz1:¬ ((m:Int)=0):=by omega
 have hz2:¬ ((i:Int)=(n:Int)):=by omega
 have hz3:(c:Int)<(n:Int)+(m:Int):=by omega
 have hw1:IntKind.i64.wrap ((i:Int)+(m:Int))=(i:Int)+(m:Int):=by rw [IntKind.wrap_i64];omega
 have hb1:(0:Int) <= (i:Int)+(m:Int):=by omega
 have hin:i <= n:=by omega
 have htn:((i:Int)+(m:Int)).toNat=i+m:=by omega
 have hGi:¬ (G=i):=by omega
 have hGim:¬ (G=i+m):=by omega
 have hci:¬ (c=i):=by omega
 have hb3:(i:Int) <= (n:Int):=by omega
 go_enter Tryz.func250,hnt
 go_wp2_with (first
  | (at_builtin;refine Gx rfl rfl _ _ rfl rfl (hrz _) ?_)
  | (at_builtin;refine Jo rfl rfl _ _ rfl rfl (hcp1 _ _) ?_))
 go_region_law_o (refine Jp rfl rfl _ _ (by simp [Act.eval,Act.put]) (by simp [Act.eval,Act.put]) (hcp2 _ _ _) ?_)
 go_wp2
 go_ret
 exact ⟨rfl,rfl⟩
end
abbrev asw:List PT:=eG 54 BF
abbrev asx:List RT:=qU 54 BF
def apz (k:Nat) (a:List jr) (b:Int) (c:List jr):Option (((List jr)×Unit)×Unit):=Jg 96 54 BF k (a,b,c,())
def F250:Fn:=⟨asw,asx,Jg 96 54 BF⟩
def aq9:Env:=tab.env (fun _=>none) (fun _=>0)
theorem alY:aH Tryz.prog aq9:=Kw Rt _ _ (fun f F h=>by cases h)
theorem ok250:O 250 F250:=by
 obtain ⟨i0,z,a1,a2,a3,a4,a5⟩:=(alY.ty 54 (BF) (by kernel_rfl)).info
 have b1:aq9.lK 54=96:=by kernel_rfl
 have b2:Ty.sz (BF)=6:=rfl
 rw [b1] at a3
 have hz:z.cells.size=6:=by rw [<- Array.length_toList,a5,gZ,b2]
 obtain ⟨t24,t3,t4,mixed,z36,hnt⟩:=DC
 refine Qq Tryz.func250 rfl (by kernel_rfl) ?_
 rw [b2,<- a3]
 refine Mq (S:=29) (z:=z) t24 t3 a1 a4 (by rw [a2,b2]) hz (by decide) (by rw [a3];decide) (fun w i m v u h1 h2 h3=>WZ w h1 h2 h3) (fun w n g2 m c2 v v' w' h1 h2 h3=>ZH w h1 h2 h3) (fun w g n c i g2 m c2 v' v'' w' w'' h1 h2 h3 h4 h5 h6 hne hg hg2=>UC w h1 h2 h3 h4 (fun lb cb=>?_) h5 h6) (fun w g n c i g2 m c2 h G v' v'' w0 w' w'' h1 h2 h3 h4 h5 h6 h7 h8 h9 h10=>X0 w h1 h2 h3 h4 h5 h6 h7 h8 h9 h10)
 obtain ⟨cur,q1,q2⟩:=hg
 obtain ⟨xE,q3⟩:=hg2
 rw [run_callFunc_extern Tryz.func319 (by kernel_rfl) (by kernel_rfl) (by kernel_rfl) (e:=Extern.SlicesOverlaps.overlaps #[29,29] #[4]) (by kernel_rfl),Lib.run_overlaps_apart w 29 4 54 t24 6 z36 ⟨g2,0,none⟩ ⟨g,(i+m) * 6,none⟩ m c2 lb cb hne 54 54 xE.size cur.size (by simp [World.shape?,q3]) (by simp [World.shape?,q1]) q2 (Kd.fQ q3 _) (Kd.fQ q3 _)]
 rfl
abbrev adq:Cut:=⟨[0,5,6,7],[.cell pq,.cell pq,cI,cI],[],31,[]⟩
def X3 (k:Nat) (g2:(List jr) -> (List jr) -> Int -> Int -> Option jy) (a b:List jr) (c e:Int):Option jy :=
 (bif decide (e<c) then
  ix b e <|
  (agT k (rd b e bg)).bind fun q0 =>
  (bif q0.1.1 != 0 then
   some ((false,()),())
  else
   (bif decide (e>0) then
    ix a (IntKind.i64.wrap (e - 1)) <|
    (bif decide ((rd a (IntKind.i64.wrap (e - 1)) bg).1≥(rd b e bg).1) then
     some ((false,()),())
    else
     g2 a b c (IntKind.i64.wrap (e+1)))
   else
    g2 a b c (IntKind.i64.wrap (e+1))))
 else
  some ((true,()),()))
def aiw (k:Nat):Xx (((Unit)×(List jr)×(List jr)×Int×Int×Unit) -> Option jy):=eu (dw (dh (dh (dh (dh dx))))) (X3 k)
def LX (k a:Nat) (b c:List jr) (e f:Int):Option jy:=iter adq (aiw k) a ((),b,c,e,f,())
theorem ZI (k a b c e f):LX k (a+1) b c e f=X3 k (LX k a) b c e f:=Ba _ _ _ _
def alZ (k:Nat) (a:List jr):Option jy :=
 LX k k a a (a.length:Int) 0
def F348:Fn:=⟨[Ze],[rB],fun k x=>alZ k x.1⟩
theorem ok348:O 348 F348:=okF (ah ok247 aj) [] (fun k=>(.loop 2 adq (aiw k) (fun g=>.nil) .nil)) Tryz.func348 rfl
def apB (k:Nat) (a:Int):Option zq :=
 (bif decide (a<0) then
  none
 else
  (bif decide ((IntKind.i64.wrap (a - 0))>0) then
   az ([]:List (Int×Int)) (IntKind.i64.wrap (a - 0)) 16 (0,0) fun r0 =>
   sx r0 0 0 <|
   some ((r0.take 0,()),())
  else
   some (([],()),())))
def F359:Fn:=⟨[.pv (.nil),au],[apn],fun k x=>apB k x.2.1⟩
theorem ok359:O 359 F359:=okF aj [(25,1)] On Tryz.func359 rfl
abbrev ZJ:Cut:=⟨[6,25,26,27],[.own 378 oo,.cell (.sl 308 (.sl 378 oo)),cI,cI],[],36,[]⟩
def K4 (k:Nat) (g11:jw -> (List jw) -> Int -> Int -> Option zq) (a:ny) (b:List jw) (c e:Int):Option zq :=
 (bif decide (e<c) then
  ix b e <|
  ap a (rd b e []) 16 fun r1 =>
  g11 r1 b c (IntKind.i64.wrap (e+1))
 else
  some ((a,()),()))
def adr (k:Nat):Xx (((Unit)×jw×(List jw)×Int×Int×Unit) -> Option zq):=eu (dw (dh (dh (dh (dh dx))))) (K4 k)
def K5 (k a:Nat) (b:ny) (c:List jw) (e f:Int):Option zq:=iter ZJ (adr k) a ((),b,c,e,f,())
theorem LY (k a b c e f):K5 k (a+1) b c e f=K4 k (K5 k a) b c e f:=Ba _ _ _ _
abbrev ads:Cut:=⟨[0,3,9,10,11],[.cell (.sl 308 (.sl 378 oo)),cI,.cell (.sl 308 (.sl 378 oo)),cI,cI],[],36,[]⟩
def QW (k:Nat) (g3:(List jw) -> Int -> (List jw) -> Int -> Int -> Option zq) (a:List jw) (b:Int) (c:List jw) (e f:Int):Option zq :=
 (bif decide (f<e) then
  ix c f <|
  (bif decide ((IntKind.i64.wrap (b+((rd c f []).length:Int)))<0) then
   none
  else
   g3 a (IntKind.i64.wrap (b+((rd c f []).length:Int))) c e (IntKind.i64.wrap (f+1)))
 else
  (apB k b).bind fun q0 =>
  K5 k k q0.1.1 a (a.length:Int) 0)
def aix (k:Nat):Xx (((Unit)×(List jw)×Int×(List jw)×Int×Int×Unit) -> Option zq):=eu (dw (dh (dh (dh (dh (dh dx)))))) (QW k)
def X4 (k a:Nat) (b:List jw) (c:Int) (e:List jw) (f h:Int):Option zq:=iter ads (aix k) a ((),b,c,e,f,h,())
theorem QX (k a b c e f h):X4 k (a+1) b c e f h=QW k (X4 k a) b c e f h:=Ba _ _ _ _
def aiy (k:Nat) (a:List jw):Option zq :=
 X4 k k a 0 a (a.length:Int) 0
def F351:Fn:=⟨[.val ⟨false,(.sl 308 (.sl 378 oo)),false⟩],[apn],fun k x=>aiy k x.1⟩
theorem ok351:O 351 F351:=okF (ah ok359 aj) [] (fun k=>(.loop 11 ZJ (adr k) (fun g=>.nil) (.loop 3 ads (aix k) (fun g=>.nil) .nil))) Tryz.func351 rfl
def ZK (k:Nat) (a:JZ):Option ((Int×Int×jw×Unit)×Unit) :=
 (agT k a).bind fun q0 =>
 (bif q0.1.1 != 0 then
  some ((0,0,[],()),())
 else
  (agR k a.2.2.2.1).bind fun q1 =>
  (agR k a.2.2.2.2.1).bind fun q2 =>
  (bif q2.1.2.1 then
   (aiy k ([q1.1.1.2.2,q2.1.1.2.2]:List jw)).bind fun q3 =>
   some ((q1.1.1.1,q2.1.1.1,q3.1.1,()),())
  else
   (aiy k ([q1.1.1.2.2,q2.1.1.2.2]:List jw)).bind fun q4 =>
   some ((q1.1.1.1,q1.1.1.2.1,q4.1.1,()),())))
def F322:Fn:=⟨[V3],[rI,rI,apn],fun k x=>ZK k x.1⟩
theorem ok322:O 322 F322:=okF (ah ok247 <| ah ok346 <| ah ok351 aj) [] On Tryz.func322 rfl
def apC (k:Nat) (a:Int):Option FR :=
 (bif decide (a<0) then
  none
 else
  (bif decide ((IntKind.i64.wrap (a - 0))>0) then
   az ([]:List jl) (IntKind.i64.wrap (a - 0)) 32 (0,0,0,0) fun r0 =>
   sx r0 0 0 <|
   some ((r0.take 0,()),())
  else
   some (([],()),())))
def F131:Fn:=⟨[.pv (.nil),au],[.val ⟨false,qb,true⟩],fun k x=>apC k x.2.1⟩
theorem ok131:O 131 F131:=okF aj [(25,1)] On Tryz.func131 rfl
abbrev adt:Cut:=⟨[6,25,26,27],[.own 127 UR,.cell (.sl 52 qb),cI,cI],[],36,[]⟩
def QY (k:Nat) (g11:(List jl) -> UW -> Int -> Int -> Option FR) (a:List jl) (b:List (List jl)) (c e:Int):Option FR :=
 (bif decide (e<c) then
  ix b e <|
  ap a (rd b e []) 32 fun r1 =>
  g11 r1 b c (IntKind.i64.wrap (e+1))
 else
  some ((a,()),()))
def aiz (k:Nat):Xx (((Unit)×(List jl)×UW×Int×Int×Unit) -> Option FR):=eu (dw (dh (dh (dh (dh dx))))) (QY k)
def QZ (k a:Nat) (b:List jl) (c:List (List jl)) (e f:Int):Option FR:=iter adt (aiz k) a ((),b,c,e,f,())
theorem R6 (k a b c e f):QZ k (a+1) b c e f=QY k (QZ k a) b c e f:=Ba _ _ _ _
abbrev aiA:Cut:=⟨[0,3,9,10,11],[.cell (.sl 52 qb),cI,.cell (.sl 52 qb),cI,cI],[],36,[]⟩
def ZL (k:Nat) (g3:UW -> Int -> UW -> Int -> Int -> Option FR) (a:List (List jl)) (b:Int) (c:List (List jl)) (e f:Int):Option FR :=
 (bif decide (f<e) then
  ix c f <|
  (bif decide ((IntKind.i64.wrap (b+((rd c f []).length:Int)))<0) then
   none
  else
   g3 a (IntKind.i64.wrap (b+((rd c f []).length:Int))) c e (IntKind.i64.wrap (f+1)))
 else
  (apC k b).bind fun q0 =>
  QZ k k q0.1.1 a (a.length:Int) 0)
def aoB (k:Nat):Xx (((Unit)×UW×Int×UW×Int×Int×Unit) -> Option FR):=eu (dw (dh (dh (dh (dh (dh dx)))))) (ZL k)
def adu (k a:Nat) (b:List (List jl)) (c:Int) (e:List (List jl)) (f h:Int):Option FR:=iter aiA (aoB k) a ((),b,c,e,f,h,())
theorem X5 (k a b c e f h):adu k (a+1) b c e f h=ZL k (adu k a) b c e f h:=Ba _ _ _ _
def S58 (k:Nat) (a:List (List jl)):Option FR :=
 adu k k a 0 a (a.length:Int) 0
def F58:Fn:=⟨[.val ⟨false,(.sl 52 qb),false⟩],[.val ⟨false,qb,true⟩],fun k x=>S58 k x.1⟩
theorem ok58:O 58 F58:=okF (ah ok131 aj) [] (fun k=>(.loop 11 adt (aiz k) (fun g=>.nil) (.loop 3 aiA (aoB k) (fun g=>.nil) .nil))) Tryz.func58 rfl
def apD (k:Nat) (a:Int×Int×Int×Int) (b:Int):Option jy :=
 (bif a.1==9 then
  some ((a.2.1==b,()),())
 else
  some ((false,()),()))
def F134:Fn:=⟨[agK,Zg],[rB],fun k x=>apD k x.1 x.2.1⟩
theorem ok134:O 134 F134:=okF aj [] On Tryz.func134 rfl
abbrev ZM:Cut:=⟨[0,1,7,8],[.cell qb,.lJ 134 [.ref (.int .i64)],cI,cI],[],19,[]⟩
def PG (k:Nat) (g2:(List jl) -> Int -> Int -> Int -> Option jk) (a:List jl) (b c e:Int):Option jk :=
 (bif decide (e<c) then
  ix a e <|
  (apD k (rd a e (0,0,0,0)) b).bind fun q0 =>
  (bif q0.1.1 then
   some ((e,()),())
  else
   g2 a b c (IntKind.i64.wrap (e+1)))
 else
  some (((-1),()),()))
def adv (k:Nat):Xx (((Unit)×(List jl)×Z8×Int×Int×Unit) -> Option jk):=eu (dw (dh (d9 (dh dx) (dh (dh dx))))) (PG k)
def GV (k a:Nat) (b:List jl) (c e f:Int):Option jk:=iter ZM (adv k) a ((),b,(c,()),e,f,())
theorem Va (k a b c e f):GV k (a+1) b c e f=PG k (GV k a) b c e f:=Ba _ _ _ _
def adw (k:Nat) (a:List jl) (b:Int):Option jk :=
 GV k k a b (a.length:Int) 0
def F130c:Fn:=⟨[DX,.pv (.lJ 134 [.ref (.int .i64)])],[rI],fun k x=>adw k x.1 x.2.1.1⟩
theorem ok130c:O 130 F130c:=okF (ah ok134 aj) [] (fun k=>(.loop 2 ZM (adv k) (fun g=>.nil) .nil)) Tryz.func130 rfl
def apE (k:Nat) (a:List jl) (b:Int):Option jy :=
 (adw k a b).bind fun q0 =>
 some ((decide (q0.1.1≥0),()),())
def F57b:Fn:=⟨[DX,.pv (.lJ 134 [.ref (.int .i64)])],[rB],fun k x=>apE k x.1 x.2.1.1⟩
theorem ok57b:O 57 F57b:=okF (ah ok130c aj) [] On Tryz.func57 rfl
def al1 (k:Nat) (a:JZ) (b:Int):Option jy :=
 (S58 k ([a.2.2.2.1,a.2.2.2.2.1]:List (List jl))).bind fun q0 =>
 (apE k q0.1.1 b).bind fun q1 =>
 some ((q1.1.1,()),())
def F133:Fn:=⟨[V3,Zg],[rB],fun k x=>al1 k x.1 x.2.1⟩
theorem ok133:O 133 F133:=okF (ah ok57b <| ah ok58 aj) [] On Tryz.func133 rfl
abbrev ZN:Cut:=⟨[0,1,7,8],[.cell pq,.lJ 133 [.ref (.int .i64)],cI,cI],[],19,[]⟩
def PI (k:Nat) (g2:(List jr) -> Int -> Int -> Int -> Option jk) (a:List jr) (b c e:Int):Option jk :=
 (bif decide (e<c) then
  ix a e <|
  (al1 k (rd a e bg) b).bind fun q0 =>
  (bif q0.1.1 then
   some ((e,()),())
  else
   g2 a b c (IntKind.i64.wrap (e+1)))
 else
  some (((-1),()),()))
def adx (k:Nat):Xx (((Unit)×(List jr)×Z8×Int×Int×Unit) -> Option jk):=eu (dw (dh (d9 (dh dx) (dh (dh dx))))) (PI k)
def E8 (k a:Nat) (b:List jr) (c e f:Int):Option jk:=iter ZN (adx k) a ((),b,(c,()),e,f,())
theorem Vb (k a b c e f):E8 k (a+1) b c e f=PI k (E8 k a) b c e f:=Ba _ _ _ _
def aiB (k:Nat) (a:List jr) (b:Int):Option jk :=
 E8 k k a b (a.length:Int) 0
def F132a:Fn:=⟨[Ze,.pv (.lJ 133 [.ref (.int .i64)])],[rI],fun k x=>aiB k x.1 x.2.1.1⟩
theorem ok132a:O 132 F132a:=okF (ah ok133 aj) [] (fun k=>(.loop 2 ZN (adx k) (fun g=>.nil) .nil)) Tryz.func132 rfl
def S60 (k:Nat) (a:List jr) (b:Int):Option jk :=
 (aiB k a b).bind fun q0 =>
 (bif decide (q0.1.1<0) then
  some ((8,()),())
 else
  some ((q0.1.1,()),()))
def F60:Fn:=⟨[Ze,au],[rI],fun k x=>S60 k x.1 x.2.1⟩
theorem ok60:O 60 F60:=okF (ah ok132a aj) [] On Tryz.func60 rfl
abbrev aiC:Cut:=⟨[0,1,4,5,12,16,17,18,32,33,34],[.cell pq,cI,cI,.mp 431 true (.int .i64) false (.int .i64),.box 378 [cI,cI],.cell pq,cI,cI,.own 378 oo,cI,cI],[],70,[]⟩
def K6 (k:Nat) (g3:UQ) (g8:ahV) (a:List jr) (b c:Int) (e:ny) (x f:Int) (h:List jr) (i l:Int) (m:ny) (n o:Int):Option jk :=
 (bif decide ((Us (.int .i64) (.int .i64) x e 0) <= b) then
  g8 a b (mx c f) e h i l m n (IntKind.i64.wrap (o+1))
 else
  g8 a b c e h i l m n (IntKind.i64.wrap (o+1)))
abbrev ady:Cut:=⟨[0,1,4,5,16,17,18,32,33,34],[.cell pq,cI,cI,.mp 431 true (.int .i64) false (.int .i64),.cell pq,cI,cI,.own 378 oo,cI,cI],[],70,[]⟩
def X6 (k:Nat) (g3:UQ) (g8:ahV) (a:List jr) (b c:Int) (e:ny) (f:List jr) (h i:Int) (l:ny) (m n:Int):Option jk :=
 (bif decide (n<m) then
  ix l n <|
  (bif !(Ut (.int .i64) (.int .i64) (rd l n (0,0)).1 e) then
   (S60 k a (rd l n (0,0)).1).bind fun q1 =>
   K6 k g3 g8 a b c (vL (.int .i64) (.int .i64) (rd l n (0,0)).1 q1.1.1 e) (rd l n (0,0)).1 (rd l n (0,0)).2 f h i l m n
  else
   K6 k g3 g8 a b c e (rd l n (0,0)).1 (rd l n (0,0)).2 f h i l m n)
 else
  g3 a b c e f h (IntKind.i64.wrap (i+1)))
def aiD (k:Nat) (g3:UQ):Xx (((Unit)×(List jr)×Int×Int×jw×(List jr)×Int×Int×jw×Int×Int×Unit) -> Option jk):=eu (dw (dh (dh (dh (dh (dh (dh (dh (dh (dh (dh dx))))))))))) (X6 k g3)
def R7 (k:Nat) (g3:UQ) (a:Nat) (b:List jr) (c e:Int) (f:ny) (h:List jr) (i l:Int) (m:ny) (n o:Int):Option jk:=iter ady (aiD k g3) a ((),b,c,e,f,h,i,l,m,n,o,())
theorem ZO (k g3 a b c e f h i l m n o):R7 k g3 (a+1) b c e f h i l m n o=X6 k g3 (R7 k g3 a) b c e f h i l m n o:=Ba _ _ _ _
abbrev adz:Cut:=⟨[0,1,4,5,16,17,18],[.cell pq,cI,cI,.mp 431 true (.int .i64) false (.int .i64),.cell pq,cI,cI],[],70,[]⟩
def X7 (k:Nat) (g3:UQ) (a:List jr) (b c:Int) (e:ny) (f:List jr) (h i:Int):Option jk :=
 (bif decide (i<h) then
  ix f i <|
  (bif i==b then
   g3 a b c e f h (IntKind.i64.wrap (i+1))
  else
   (ZK k (rd f i bg)).bind fun q0 =>
   R7 k g3 k a b c e f h i q0.1.2.2.1 (q0.1.2.2.1.length:Int) 0)
 else
  some ((c,()),()))
def aiE (k:Nat):Xx (((Unit)×(List jr)×Int×Int×jw×(List jr)×Int×Int×Unit) -> Option jk):=eu (dw (dh (dh (dh (dh (dh (dh (dh dx)))))))) (X7 k)
def R8 (k a:Nat) (b:List jr) (c e:Int) (f:ny) (h:List jr) (i l:Int):Option jk:=iter adz (aiE k) a ((),b,c,e,f,h,i,l,())
theorem ZP (k a b c e f h i l):R8 k (a+1) b c e f h i l=X7 k (R8 k a) b c e f h i l:=Ba _ _ _ _
def al2 (k:Nat) (a:List jr) (b:Int):Option jk :=
 R8 k k a b 0 ([]:List (Int×Int)) a (a.length:Int) 0
def F323:Fn:=⟨[Ze,au],[rI],fun k x=>al2 k x.1 x.2.1⟩
theorem ok323:O 323 F323:=okF (ah ok60 <| ah ok322 aj) [] (fun k=>(.loop 3 adz (aiE k) (fun g=>(fun (g3:UQ)=>(.loop 8 ady (aiD k g3) (fun g=>(fun (g8:ahV)=>(.join 13 aiC (fun (_,a,b,c,e,(f,h,_),i,l,m,n,o,p,_)=>K6 k g3 g8 a b c e f h i l m n o p) .nil)) (fun l_2 i2 ard apF arf arh ari t32 t33 t34=>g ((),l_2,i2,ard,apF,arf,arh,ari,t32,t33,t34,()))) .nil)) (fun l_1 i1 most arj t16 t17 t18=>g ((),l_1,i1,most,arj,t16,t17,t18,()))) .nil)) Tryz.func323 rfl
def agU (k:Nat) (a:Int) (b:Bool) (c e:Int):Option ((Unit)×acV×Unit) :=
 (agP k c e).bind fun q0 =>
 (agQ k a q0.1.1).bind fun q1 =>
 (bif b then
  some ((),(q1.1.1,true,()),())
 else
  (bif !q0.1.2.1 then
   some ((),(q1.1.1,true,()),())
  else
   some ((),(q1.1.1,!q1.1.2.1,()),())))
def F349:Fn:=⟨[.fK 427 [cI,.cell .bool],au,au],[],fun k ((a,b,_),c,e,_)=>agU k a b c e⟩
theorem ok349:O 349 F349:=okF (ah ok356 <| ah ok357 aj) [] On Tryz.func349 rfl
def al3 (k:Nat) (a b:Int):Option D8 :=
 (bif decide (b<1) then
  some ((0,false,()),())
 else
  (bif decide (a<0) then
   some ((0,false,()),())
  else
   nz b <|
   nz b <|
   (bif decide ((Int.tmod a b)>0) then
    some ((IntKind.i64.wrap ((IntKind.i64.wrap (Int.tdiv a b))+1),true,()),())
   else
    some ((IntKind.i64.wrap (Int.tdiv a b),true,()),()))))
def F358:Fn:=⟨[au,au],[rI,rB],fun k x=>al3 k x.1 x.2.1⟩
theorem ok358:O 358 F358:=okF aj [] On Tryz.func358 rfl
def aiF (k:Nat) (a b:Int):Option jk :=
 (al3 k a b).bind fun q0 =>
 some ((q0.1.1,()),())
def F350:Fn:=⟨[au,au],[rI],fun k x=>aiF k x.1 x.2.1⟩
theorem ok350:O 350 F350:=okF (ah ok358 aj) [] On Tryz.func350 rfl
abbrev ZQ:Cut:=⟨[0,1,2,6,7,12,18,19,88,89,90],[.cell pq,cI,cI,cI,cI,cI,.box 427 [cI,.cell .bool],.box 427 [cI,.cell .bool],.cell pq,cI,cI],[],128,[]⟩
def PK (k:Nat) (g14:YZ) (g18:(List jr) -> Int -> Int -> Int -> Int -> Int -> Int -> Bool -> Int -> Bool -> (List jr) -> Int -> Int -> Option D7) (a:List jr) (b c e f h i:Int) (l:Bool) (m:Int) (n:Bool) (o:List jr) (p s:Int):Option D7 :=
 (bif decide (s<p) then
  ix o s <|
  (ZK k (rd o s bg)).bind fun q7 =>
  (aiF k e (rd o s bg).2.1).bind fun q8 =>
  (agU k m n q8.1.1 q7.1.1).bind fun q9 =>
  g18 a b c e f h i l q9.2.1.1 q9.2.1.2.1 o p (IntKind.i64.wrap (s+1))
 else
  (bif n then
   some ((0,0,13,()),())
  else
   ix a b <|
   (bif decide (m>(rd a b bg).2.2.1) then
    some ((0,0,14,()),())
   else
    (bif m==e then
     some ((e,f,0,()),())
    else
     g14 a b c m f h i l))))
def adA (k:Nat) (g14:YZ):Xx (((Unit)×(List jr)×Int×Int×Int×Int×Int×acV×acV×(List jr)×Int×Int×Unit) -> Option D7):=eu (dw (dh (dh (dh (dh (dh (dh (d9 (dh (dh dx)) (d9 (dh (dh dx)) (dh (dh (dh dx)))))))))))) (PK k g14)
def PL (k:Nat) (g14:YZ) (a:Nat) (b:List jr) (c e f h i l:Int) (m:Bool) (n:Int) (o:Bool) (p:List jr) (s t:Int):Option D7:=iter ZQ (adA k g14) a ((),b,c,e,f,h,i,(l,m,()),(n,o,()),p,s,t,())
theorem Vd (k g14 a b c e f h i l m n o p s t):PL k g14 (a+1) b c e f h i l m n o p s t=PK k g14 (PL k g14 a) b c e f h i l m n o p s t:=Ba _ _ _ _
abbrev ZR:Cut:=⟨[0,1,2,6,7,12,18],[.cell pq,cI,cI,cI,cI,cI,.box 427 [cI,.cell .bool]],[],128,[]⟩
def X8 (k:Nat) (g14:YZ) (a:List jr) (b c e f h i:Int) (l:Bool):Option D7 :=
 (aiF k e c).bind fun q5 =>
 (agU k i l q5.1.1 h).bind fun q6 =>
 sx a 0 b <|
 PL k g14 k a b c e (IntKind.i64.wrap (f+1)) h i l q6.2.1.1 q6.2.1.2.1 (sub a 0 b) ((sub a 0 b).length:Int) 0
def adB (k:Nat):Xx (((Unit)×(List jr)×Int×Int×Int×Int×Int×acV×Unit) -> Option D7):=eu (dw (dh (dh (dh (dh (dh (dh (d9 (dh (dh dx)) dx)))))))) (X8 k)
def K7 (k a:Nat) (b:List jr) (c e f h i l:Int) (m:Bool):Option D7:=iter ZR (adB k) a ((),b,c,e,f,h,i,(l,m,()),())
theorem agV (k a b c e f h i l m):K7 k (a+1) b c e f h i l m=X8 k (K7 k a) b c e f h i l m:=Ba _ _ _ _
abbrev adC:Cut:=⟨[0,1,2,7,9,12,54,55,56],[.cell pq,cI,cI,cI,cI,cI,.cell pq,cI,cI],[],128,[]⟩
def X9 (k:Nat) (g6:(List jr) -> Int -> Int -> Int -> Int -> Int -> (List jr) -> Int -> Int -> Option D7) (a:List jr) (b c e f h:Int) (i:List jr) (l m:Int):Option D7 :=
 (bif decide (m<l) then
  ix i m <|
  (ZK k (rd i m bg)).bind fun q2 =>
  g6 a b c e f (mx h q2.1.2.1) i l (IntKind.i64.wrap (m+1))
 else
  (al2 k a b).bind fun q3 =>
  (agU k f false 1 q3.1.1).bind fun q4 =>
  K7 k k a b c q4.2.1.1 e h q4.2.1.1 q4.2.1.2.1)
def aiG (k:Nat):Xx (((Unit)×(List jr)×Int×Int×Int×Int×Int×(List jr)×Int×Int×Unit) -> Option D7):=eu (dw (dh (dh (dh (dh (dh (dh (dh (dh (dh dx)))))))))) (X9 k)
def Xa (k a:Nat) (b:List jr) (c e f h i:Int) (l:List jr) (m n:Int):Option D7:=iter adC (aiG k) a ((),b,c,e,f,h,i,l,m,n,())
theorem ZT (k a b c e f h i l m n):Xa k (a+1) b c e f h i l m n=X9 k (Xa k a) b c e f h i l m n:=Ba _ _ _ _
def al4 (k:Nat) (a:List jr) (b c:Int):Option D7 :=
 (alZ k a).bind fun q0 =>
 (bif !q0.1.1 then
  some ((0,0,1,()),())
 else
  (bif decide (b<0) then
   some ((0,0,1,()),())
  else
   (bif decide (b≥(a.length:Int)) then
    some ((0,0,1,()),())
   else
    (bif decide (c<1) then
     some ((0,0,1,()),())
    else
     ix a b <|
     (ZK k (rd a b bg)).bind fun q1 =>
     sx a 0 (IntKind.i64.wrap (b+1)) <|
     Xa k k a b c 0 q1.1.1 0 (sub a 0 (IntKind.i64.wrap (b+1))) ((sub a 0 (IntKind.i64.wrap (b+1))).length:Int) 0))))
def F321:Fn:=⟨[Ze,au,au],[rI,rI,rI],fun k (a,b,c,_)=>al4 k a b c⟩
theorem ok321:O 321 F321:=okF (ah ok322 <| ah ok323 <| ah ok348 <| ah ok349 <| ah ok350 aj) [] (fun k=>(.loop 14 ZR (adB k) (fun g=>(fun (g14:YZ)=>(.loop 18 ZQ (adA k g14) (fun g=>.nil) .nil)) (fun l_2 i2 apG r_ al5 ark first apH=>g ((),l_2,i2,apG,r_,al5,ark,(first,apH,()),()))) (.loop 6 adC (aiG k) (fun g=>.nil) .nil))) Tryz.func321 rfl
abbrev adD:Cut:=⟨[0,1,4,16,17,18],[.cell pq,cI,.own 168 CF,.cell pq,cI,cI],[],56,[]⟩
def Xb (k:Nat) (g4:(List jr) -> Int -> FU -> (List jr) -> Int -> Int -> Option Za) (a:List jr) (b:Int) (c:List (PN Int 5)) (e:List jr) (f h:Int):Option Za :=
 (bif decide (h<f) then
  ix e h <|
  (al4 k a h b).bind fun q0 =>
  (bif q0.1.2.2.1 != 0 then
   some ((([]:List (PN Int 5)),q0.1.2.2.1,()),())
  else
   (ZK k (rd e h bg)).bind fun q1 =>
   (al2 k a h).bind fun q2 =>
   ap c ([(q1.1.1,q1.1.2.1,q2.1.1,q0.1.1,IntKind.i64.wrap ((rd e h bg).2.2.1 - q0.1.1))]:List (PN Int 5)) 40 fun r3 =>
   g4 a b r3 e f (IntKind.i64.wrap (h+1)))
 else
  some ((c,0,()),()))
def aiH (k:Nat):Xx (((Unit)×(List jr)×Int×FU×(List jr)×Int×Int×Unit) -> Option Za):=eu (dw (dh (dh (dh (dh (dh (dh dx))))))) (Xb k)
def Xc (k a:Nat) (b:List jr) (c:Int) (e:List (PN Int 5)) (f:List jr) (h i:Int):Option Za:=iter adD (aiH k) a ((),b,c,e,f,h,i,())
theorem ZU (k a b c e f h i):Xc k (a+1) b c e f h i=Xb k (Xc k a) b c e f h i:=Ba _ _ _ _
def aiI (k:Nat) (a:List jr) (b:Int):Option Za :=
 (bif decide (b<1) then
  some ((([]:List (PN Int 5)),1,()),())
 else
  Xc k k a b ([]:List (PN Int 5)) a (a.length:Int) 0)
def F251:Fn:=⟨[Ze,au],[.val ⟨false,Zb,true⟩,rI],fun k x=>aiI k x.1 x.2.1⟩
theorem ok251:O 251 F251:=okF (ah ok321 <| ah ok322 <| ah ok323 aj) [(4,2)] (fun k=>(.loop 4 adD (aiH k) (fun g=>.nil) .nil)) Tryz.func251 rfl
abbrev aiJ:Cut:=⟨[2,4,13,16],[cI,.box 54 [cI,cI,cI,.cell qb,.cell qb,.cell qb],.own 54 BF,cI],[],82,[]⟩
def K8 (k:Nat) (a b c e:Int) (f h i:List jl) (l:List jr) (m:Int):Option IU :=
 (aiu k (b,c,e,f,h,i)).bind fun q4 =>
 (apz k l m ([q4.1.1]:List jr)).bind fun q5 =>
 (aiI k q5.1.1 a).bind fun q6 =>
 (bif q6.1.2.1 != 0 then
  some (([],[],q6.1.2.1,()),())
 else
  some ((q5.1.1,q6.1.1,0,()),()))
abbrev ZV:Cut:=⟨[2,4,13,46,47,48],[cI,.box 54 [cI,cI,cI,.cell qb,.cell qb,.cell qb],.own 54 BF,.cell pq,cI,cI],[],82,[]⟩
def PO (k:Nat) (g16:Int -> Int -> Int -> Int -> (List jl) -> (List jl) -> (List jl) -> (List jr) -> (List jr) -> Int -> Int -> Option IU) (a b c e:Int) (f h i:List jl) (l m:List jr) (n o:Int):Option IU :=
 (bif decide (o<n) then
  ix m o <|
  (aiu k (rd m o bg)).bind fun q1 =>
  ap l ([q1.1.1]:List jr) 96 fun r2 =>
  g16 a b c e f h i r2 m n (IntKind.i64.wrap (o+1))
 else
  (apy k l (b,c,e,f,h,i)).bind fun q3 =>
  (bif decide (q3.1.1<0) then
   K8 k a b c e f h i l (l.length:Int)
  else
   K8 k a b c e f h i l q3.1.1))
def adE (k:Nat):Xx (((Unit)×Int×aoy×(List jr)×(List jr)×Int×Int×Unit) -> Option IU):=eu (dw (dh (d9 (dh (dh (dh (dh (dh (dh dx)))))) (dh (dh (dh (dh dx))))))) (PO k)
def PS (k a:Nat) (b c e f:Int) (h i l:List jl) (m n:List jr) (o p:Int):Option IU:=iter ZV (adE k) a ((),b,(c,e,f,h,i,l,()),m,n,o,p,())
theorem Ve (k a b c e f h i l m n o p):PS k (a+1) b c e f h i l m n o p=PO k (PS k a) b c e f h i l m n o p:=Ba _ _ _ _
abbrev adF:Cut:=⟨[0,2,4,9,20,21,22],[.cell pq,cI,.box 54 [cI,cI,cI,.cell qb,.cell qb,.cell qb],.mp 343 true (.int .i64) false .bool,.cell pq,cI,cI],[],82,[]⟩
def Xd (k:Nat) (g3:(List jr) -> Int -> Int -> Int -> Int -> (List jl) -> (List jl) -> (List jl) -> (List (Int×Bool)) -> (List jr) -> Int -> Int -> Option IU) (a:List jr) (b c e f:Int) (h i l:List jl) (m:List (Int×Bool)) (n:List jr) (o p:Int):Option IU :=
 (bif decide (p<o) then
  ix n p <|
  g3 a b c e f h i l (vL (.int .i64) .bool (rd n p bg).1 true m) n o (IntKind.i64.wrap (p+1))
 else
  (agT k (c,e,f,h,i,l)).bind fun q0 =>
  (bif q0.1.1 != 0 then
   some (([],[],q0.1.1,()),())
  else
   (bif Us (.int .i64) .bool c m false then
    some (([],[],11,()),())
   else
    (bif decide ((a.length:Int)≥8) then
     some (([],[],4,()),())
    else
     PS k k b c e f h i l ([]:List jr) a (a.length:Int) 0))))
def aiK (k:Nat):Xx (((Unit)×(List jr)×Int×aoy×(List (Int×Bool))×(List jr)×Int×Int×Unit) -> Option IU):=eu (dw (dh (dh (d9 (dh (dh (dh (dh (dh (dh dx)))))) (dh (dh (dh (dh dx)))))))) (Xd k)
def Xe (k a:Nat) (b:List jr) (c e f h:Int) (i l m:List jl) (n:List (Int×Bool)) (o:List jr) (p s:Int):Option IU:=iter adF (aiK k) a ((),b,c,(e,f,h,i,l,m,()),n,o,p,s,())
theorem ZW (k a b c e f h i l m n o p s):Xe k (a+1) b c e f h i l m n o p s=Xd k (Xe k a) b c e f h i l m n o p s:=Ba _ _ _ _
def apI (k:Nat) (a:List jr) (b:JZ) (c:Int):Option IU :=
 Xe k k a c b.1 b.2.1 b.2.2.1 b.2.2.2.1 b.2.2.2.2.1 b.2.2.2.2.2 ([]:List (Int×Bool)) a (a.length:Int) 0
def F166:Fn:=⟨[Ze,V3,au],[.val ⟨false,pq,true⟩,.val ⟨false,Zb,true⟩,rI],fun k (a,b,c,_)=>apI k a b c⟩
theorem ok166:O 166 F166:=okF (ah ok132 <| ah ok247 <| ah ok248 <| ah ok250 <| ah ok251 aj) [(13,2)] (fun k=>(.join 23 aiJ (fun (_,a,(b,c,e,f,h,i,_),l,m,_)=>K8 k a b c e f h i l m) (.loop 16 ZV (adE k) (fun g=>.nil) (.loop 3 adF (aiK k) (fun g=>.nil) .nil)))) Tryz.func166 rfl
def S89 (k:Nat) (a:FQ):Option O4 :=
 (bif a.1.2.2.2.2.1 then
  some ((),AU (w3 a 7),())
 else
  (apI k a.1.2.2.1 a.2.1.2.1 a.1.2.1).bind fun q0 =>
  (bif q0.1.2.2.1==0 then
   some ((),AU ((a.1.1,a.1.2.1,q0.1.1,q0.1.2.1,a.1.2.2.2.2),a.2.1,a.2.2.1,q0.1.2.2.1,a.2.2.2.2),())
  else
   some ((),AU (w3 a q0.1.2.2.1),())))
def F89:Fn:=⟨[Zd],[],fun k x=>S89 k (pz x.1)⟩
theorem ok89:O 89 F89:=okF (ah ok166 aj) [] On Tryz.func89 rfl
def apJ (k:Nat) (a:List jr):Option (((List jr)×Unit)×Unit):=qQ 96 54 BF k (a,())
def F123:Fn:=⟨dJ 54 BF,iZ 54 BF,qQ 96 54 BF⟩
theorem ok123:O 123 F123:=Kz IW mix Tryz.func123 rfl (by kernel_rfl) (by kernel_rfl) (fun k=>by kernel_rfl) (fun k xs=>by kernel_rfl) (fun k xs=>by kernel_rfl)
def apK (k:Nat) (a:List (PN Int 5)):Option ((FU×Unit)×Unit):=qQ 40 168 CF k (a,())
def F124:Fn:=⟨dJ 168 CF,iZ 168 CF,qQ 40 168 CF⟩
theorem ok124:O 124 F124:=Kz IW mix Tryz.func124 rfl (by kernel_rfl) (by kernel_rfl) (fun k=>by kernel_rfl) (fun k xs=>by kernel_rfl) (fun k xs=>by kernel_rfl)
def apL (k:Nat) (a:List AJ):Option (((List AJ)×Unit)×Unit):=qQ 272 59 tq k (a,())
def F125:Fn:=⟨dJ 59 tq,iZ 59 tq,qQ 272 59 tq⟩
theorem ok125:O 125 F125:=Kz IW mix Tryz.func125 rfl (by kernel_rfl) (by kernel_rfl) (fun k=>by kernel_rfl) (fun k xs=>by kernel_rfl) (fun k xs=>by kernel_rfl)
def ab2 (k:Nat) (a:List (Int×Int×Int)):Option (((List (Int×Int×Int))×Unit)×Unit):=qQ 24 293 (.pair (.int .i64) oo) k (a,())
def F217:Fn:=⟨dJ 293 (.pair (.int .i64) oo),iZ 293 (.pair (.int .i64) oo),qQ 24 293 (.pair (.int .i64) oo)⟩
theorem ok217:O 217 F217:=Kz IW mix Tryz.func217 rfl (by kernel_rfl) (by kernel_rfl) (fun k=>by kernel_rfl) (fun k xs=>by kernel_rfl) (fun k xs=>by kernel_rfl)
def FV (k:Nat) (a:List Int):Option qp:=qQ 8 3 (.int .i64) k (a,())
def F219:Fn:=⟨dJ 3 (.int .i64),iZ 3 (.int .i64),qQ 8 3 (.int .i64)⟩
theorem ok219:O 219 F219:=Kz IW mix Tryz.func219 rfl (by kernel_rfl) (by kernel_rfl) (fun k=>by kernel_rfl) (fun k xs=>by kernel_rfl) (fun k xs=>by kernel_rfl)
def aiL (k:Nat) (a b:Int):Option jy :=
 some ((a==b,()),())
def F220:Fn:=⟨[au,Zg],[rB],fun k x=>aiL k x.1 x.2.1⟩
theorem ok220:O 220 F220:=okF aj [] On Tryz.func220 rfl
abbrev ZX:Cut:=⟨[0,1,7,8],[.cell sw,.lJ 220 [.ref (.int .i64)],cI,cI],[],19,[]⟩
def PU (k:Nat) (g2:(List Int) -> Int -> Int -> Int -> Option jk) (a:List Int) (b c e:Int):Option jk :=
 (bif decide (e<c) then
  ix a e <|
  (aiL k (rd a e 0) b).bind fun q0 =>
  (bif q0.1.1 then
   some ((e,()),())
  else
   g2 a b c (IntKind.i64.wrap (e+1)))
 else
  some (((-1),()),()))
def adG (k:Nat):Xx (((Unit)×(List Int)×Z8×Int×Int×Unit) -> Option jk):=eu (dw (dh (d9 (dh dx) (dh (dh dx))))) (PU k)
def GX (k a:Nat) (b:List Int) (c e f:Int):Option jk:=iter ZX (adG k) a ((),b,(c,()),e,f,())
theorem Vf (k a b c e f):GX k (a+1) b c e f=PU k (GX k a) b c e f:=Ba _ _ _ _
def adH (k:Nat) (a:List Int) (b:Int):Option jk :=
 GX k k a b (a.length:Int) 0
def F272c:Fn:=⟨[WE,.pv (.lJ 220 [.ref (.int .i64)])],[rI],fun k x=>adH k x.1 x.2.1.1⟩
theorem ok272c:O 272 F272c:=okF (ah ok220 aj) [] (fun k=>(.loop 2 ZX (adG k) (fun g=>.nil) .nil)) Tryz.func272 rfl
abbrev adI:Cut:=⟨[0,1,5,6],[.pin true 0,.lJ 220 [.ref (.int .i64)],cI,cI],[.fT 3 (.int .i64)],42,[]⟩
def Xf (k:Nat) (g5:(List Int) -> Int -> Int -> Int -> Option qp) (a:List Int) (b c e:Int):Option qp :=
 (bif decide (e<(a.length:Int)) then
  ix a e <|
  (aiL k (rd a e 0) b).bind fun q1 =>
  (bif !q1.1.1 then
   ix a c <|
   g5 (upd a c (rd a e 0)) b (IntKind.i64.wrap (c+1)) (IntKind.i64.wrap (e+1))
  else
   g5 a b c (IntKind.i64.wrap (e+1)))
 else
  sx a c (a.length:Int) <|
  sx (Uy a c (a.length:Int) 0) 0 c <|
  some (((Uy a c (a.length:Int) 0).take c.toNat,()),()))
def aiM (k:Nat):Xx ((((List Int)×Unit)×Unit×Z8×Int×Int×Unit) -> Option qp):=eu (d9 (dh dx) (dw (d9 (dh dx) (dh (dh dx))))) (Xf k)
def Xg (k a:Nat) (b:List Int) (c e f:Int):Option qp:=iter adI (aiM k) a ((b,()),(),(c,()),e,f,())
theorem ZY (k a b c e f):Xg k (a+1) b c e f=Xf k (Xg k a) b c e f:=Ba _ _ _ _
def al6 (k:Nat) (a:List Int) (b:Int):Option qp :=
 (adH k a b).bind fun q0 =>
 (bif q0.1.1==(-1) then
  some ((a,()),())
 else
  Xg k k a b q0.1.1 (IntKind.i64.wrap (q0.1.1+1)))
def F218:Fn:=⟨[.give 3 (.int .i64),.pv (.lJ 220 [.ref (.int .i64)])],[ahZ],fun k x=>al6 k x.1 x.2.1.1⟩
theorem ok218:O 218 F218:=okF (ah ok220 <| ah ok272c aj) [(41,1)] (fun k=>(.loop 5 adI (aiM k) (fun g=>.nil) .nil)) Tryz.func218 rfl
def agW (k:Nat) (a:acS) (b:Int):Option ((AJ×Unit)×Unit) :=
 (ab2 k a.2.2.2.2.1.2.2.1).bind fun q0 =>
 (ab2 k a.2.2.2.2.2.1.2.2.1).bind fun q1 =>
 (FV k a.2.2.2.2.2.2.1).bind fun q2 =>
 (al6 k q2.1.1 b).bind fun q3 =>
 some (((w6 (w5 (w4 a (a.2.2.2.2.1.1,a.2.2.2.2.1.2.1,q0.1.1,a.2.2.2.2.1.2.2.2)) (a.2.2.2.2.2.1.1,a.2.2.2.2.2.1.2.1,q1.1.1,a.2.2.2.2.2.1.2.2.2)) q3.1.1),()),())
def F127:Fn:=⟨[.val ⟨true,tq,false⟩,au],[.val ⟨true,tq,true⟩],fun k x=>agW k x.1 x.2.1⟩
theorem ok127:O 127 F127:=okF (ah ok217 <| ah ok218 <| ah ok219 aj) [] On Tryz.func127 rfl
def UD (k:Nat) (a:List Bool):Option (((List Bool)×Unit)×Unit):=qQ 1 4 .bool k (a,())
def F263:Fn:=⟨dJ 4 .bool,iZ 4 .bool,qQ 1 4 .bool⟩
theorem ok263:O 263 F263:=Kz IW mix Tryz.func263 rfl (by kernel_rfl) (by kernel_rfl) (fun k=>by kernel_rfl) (fun k xs=>by kernel_rfl) (fun k xs=>by kernel_rfl)
def aac (k:Nat) (a:List Int):Option qp:=qQ 8 2 (.int .i64) k (a,())
def F287:Fn:=⟨dJ 2 (.int .i64),iZ 2 (.int .i64),qQ 8 2 (.int .i64)⟩
theorem ok287:O 287 F287:=Kz IW mix Tryz.func287 rfl (by kernel_rfl) (by kernel_rfl) (fun k=>by kernel_rfl) (fun k xs=>by kernel_rfl) (fun k xs=>by kernel_rfl)
def aad (k:Nat) (a:ny):Option zq:=qQ 16 266 EY k (a,())
def F256:Fn:=⟨dJ 266 EY,iZ 266 EY,qQ 16 266 EY⟩
theorem ok256:O 256 F256:=Kz IW mix Tryz.func256 rfl (by kernel_rfl) (by kernel_rfl) (fun k=>by kernel_rfl) (fun k xs=>by kernel_rfl) (fun k xs=>by kernel_rfl)
def aiN (k:Nat) (x:YW):Option ((qm×Unit)×Unit) :=
 (aac k x.2.2.2.1.1).bind fun q0 =>
 (FV k x.2.2.2.1.2).bind fun q1 =>
 (aad k x.2.2.2.2.1.2).bind fun q2 =>
 some (((w4 (w3 x (q0.1.1,q1.1.1)) (x.2.2.2.2.1.1,q2.1.1)),()),())
def F222:Fn:=⟨[acY],[.val ⟨true,IJ,true⟩],fun k x=>aiN k x.1⟩
theorem ok222:O 222 F222:=okF (ah ok219 <| ah ok256 <| ah ok287 aj) [] On Tryz.func222 rfl
abbrev adJ:Cut:=⟨[2,3,17,18,19],[.box 38 [.nil,.nil,.nil],.box 38 [.own 3 (.int .i64),.own 4 .bool,.own 142 IJ],.cell O5,cI,cI],[],32,[]⟩
def Xh (k:Nat) (g3:(List Int) -> (List Bool) -> (List qm) -> (List qm) -> Int -> Int -> Option QK) (a:List Int) (b:List Bool) (c e:List qm) (f h:Int):Option QK :=
 (bif decide (h<f) then
  ix e h <|
  (aiN k (rd e h bf)).bind fun q2 =>
  ap c ([q2.1.1]:List qm) 128 fun r3 =>
  g3 a b r3 e f (IntKind.i64.wrap (h+1))
 else
  some ((((a,b),c),()),()))
def aiO (k:Nat):Xx (((Unit)×(Unit×Unit×Unit×Unit)×aoz×(List qm)×Int×Int×Unit) -> Option QK):=eu (dw (d9 (dw (dw (dw dx))) (d9 (dh (dh (dh dx))) (dh (dh (dh dx)))))) (Xh k)
def LZ (k a:Nat) (b:List Int) (c:List Bool) (e f:List qm) (h i:Int):Option QK:=iter adJ (aiO k) a ((),((),(),(),()),(b,c,e,()),f,h,i,())
theorem aae (k a b c e f h i):LZ k (a+1) b c e f h i=Xh k (LZ k a) b c e f h i:=Ba _ _ _ _
def UE (k:Nat) (a:EZ×List qm):Option QK :=
 (FV k a.1.1).bind fun q0 =>
 (UD k a.1.2).bind fun q1 =>
 LZ k k q0.1.1 q1.1.1 ([]:List qm) a.2 (a.2.length:Int) 0
def F185:Fn:=⟨[UY],[acW],fun k x=>UE k x.1⟩
theorem ok185:O 185 F185:=okF (ah ok219 <| ah ok222 <| ah ok263 aj) [(15,2)] (fun k=>(.loop 3 adJ (aiO k) (fun g=>.nil) .nil)) Tryz.func185 rfl
def ab3 (k:Nat) (a:EZ×List qm) (b:Int):Option jy :=
 (bif decide (b≥0) then
  (bif decide (b<(a.2.length:Int)) then
   ix a.2 b <|
   some (((rd a.2 b bf).1 != 0,()),())
  else
   some ((false,()),()))
 else
  some ((false,()),()))
def F186:Fn:=⟨[UY,au],[rB],fun k x=>ab3 k x.1 x.2.1⟩
theorem ok186:O 186 F186:=okF aj [] On Tryz.func186 rfl
abbrev adK:Cut:=⟨[3,6,7,8,9,10],[.cell (.int .u32),.cell (.int .u64),cI,.cell IV,cI,cI],[],34,[]⟩
def Xi (k:Nat) (g3:UU) (g6:Int -> Int -> Int -> (List Int) -> Int -> Int -> Option jk) (a b c:Int) (e:List Int) (f h:Int):Option jk :=
 (bif decide (c<8) then
  g6 (Un .u32 (Uz .u32 (Uk .u32 a 5) (Ul .u32 a 27)) (IntKind.u32.wrap (IntKind.u8.wrap b))) (Ul .u64 b 8) (IntKind.i64.wrap (c+1)) e f h
 else
  g3 a e f (IntKind.i64.wrap (h+1)))
def aiP (k:Nat) (g3:UU):Xx (((Unit)×Int×Int×Int×(List Int)×Int×Int×Unit) -> Option jk):=eu (dw (dh (dh (dh (dh (dh (dh dx))))))) (Xi k g3)
def Xj (k:Nat) (g3:UU) (a:Nat) (b c e:Int) (f:List Int) (h i:Int):Option jk:=iter adK (aiP k g3) a ((),b,c,e,f,h,i,())
theorem aaf (k g3 a b c e f h i):Xj k g3 (a+1) b c e f h i=Xi k g3 (Xj k g3 a) b c e f h i:=Ba _ _ _ _
abbrev adL:Cut:=⟨[3,8,9,10],[.cell (.int .u32),.cell IV,cI,cI],[],34,[]⟩
def Xk (k:Nat) (g3:UU) (a:Int) (b:List Int) (c e:Int):Option jk :=
 (bif decide (e<c) then
  ix b e <|
  Xj k g3 k a (IntKind.u64.wrap (rd b e 0)) 0 b c e
 else
  some ((a,()),()))
def aiQ (k:Nat):Xx (((Unit)×Int×(List Int)×Int×Int×Unit) -> Option jk):=eu (dw (dh (dh (dh (dh dx))))) (Xk k)
def M0 (k a:Nat) (b:Int) (c:List Int) (e f:Int):Option jk:=iter adL (aiQ k) a ((),b,c,e,f,())
theorem aag (k a b c e f):M0 k (a+1) b c e f=Xk k (M0 k a) b c e f:=Ba _ _ _ _
def Xl (k:Nat) (a:List Int):Option jk :=
 M0 k k 2166136261 a (a.length:Int) 0
def F288:Fn:=⟨[.val ⟨false,IV,false⟩],[.val ⟨false,(.int .u32),true⟩],fun k x=>Xl k x.1⟩
theorem ok288:O 288 F288:=okF aj [] (fun k=>(.loop 3 adL (aiQ k) (fun g=>(fun (g3:UU)=>(.loop 6 adK (aiP k g3) (fun g=>.nil) .nil)) (fun h t8 t9 t10=>g ((),h,t8,t9,t10,()))) .nil)) Tryz.func288 rfl
abbrev aah:Cut:=⟨[3,61,62,63],[.own 2 (.int .i64),.cell (.sl 266 EY),cI,cI],[],78,[]⟩
def PW (k:Nat) (g11:(List Int) -> jw -> Int -> Int -> Option jk) (a:List Int) (b:ny) (c e:Int):Option jk :=
 (bif decide (e<c) then
  ix b e <|
  ap a ([(rd b e (0,0)).1,IntKind.i64.wrap (rd b e (0,0)).2]:List Int) 8 fun r4 =>
  g11 r4 b c (IntKind.i64.wrap (e+1))
 else
  (Xl k a).bind fun q5 =>
  some ((q5.1.1,()),()))
def adM (k:Nat):Xx (((Unit)×(List Int)×jw×Int×Int×Unit) -> Option jk):=eu (dw (dh (dh (dh (dh dx))))) (PW k)
def PX (k a:Nat) (b:List Int) (c:ny) (e f:Int):Option jk:=iter aah (adM k) a ((),b,c,e,f,())
theorem Vg (k a b c e f):PX k (a+1) b c e f=PW k (PX k a) b c e f:=Ba _ _ _ _
abbrev adN:Cut:=⟨[1,3,41,42,43],[.box 142 [cI,cI,cI,cI,cI,.cell IV,.cell sw,.cell (.int .u32),.cell (.sl 266 EY),.cell (.int .u32)],.own 2 (.int .i64),.cell sw,cI,cI],[],78,[]⟩
def Xm (k:Nat) (g5:Int -> Int -> Int -> Int -> Int -> (List Int) -> (List Int) -> Int -> jw -> Int -> (List Int) -> (List Int) -> Int -> Int -> Option jk) (a b c e f:Int) (h i:List Int) (l:Int) (m:ny) (n:Int) (o p:List Int) (s t:Int):Option jk :=
 (bif decide (t<s) then
  ix p t <|
  ap o ([rd p t 0]:List Int) 8 fun r2 =>
  g5 a b c e f h i l m n r2 p s (IntKind.i64.wrap (t+1))
 else
  ap o ([IntKind.i64.wrap l]:List Int) 8 fun r3 =>
  PX k k r3 m (m.length:Int) 0)
def aiR (k:Nat):Xx (((Unit)×(Int×Int×Int×Int×Int×(List Int)×(List Int)×Int×jw×Int×Unit)×(List Int)×(List Int)×Int×Int×Unit) -> Option jk):=eu (dw (d9 (dh (dh (dh (dh (dh (dh (dh (dh (dh (dh dx)))))))))) (dh (dh (dh (dh dx)))))) (Xm k)
def Xn (k a:Nat) (b c e f h:Int) (i l:List Int) (m:Int) (n:ny) (o:Int) (p s:List Int) (t u:Int):Option jk:=iter adN (aiR k) a ((),(b,c,e,f,h,i,l,m,n,o,()),p,s,t,u,())
theorem aai (k a b c e f h i l m n o p s t u):Xn k (a+1) b c e f h i l m n o p s t u=Xm k (Xn k a) b c e f h i l m n o p s t u:=Ba _ _ _ _
def ab4 (k:Nat) (x:YW):Option jk :=
 ap ([x.1,x.2.1.1,x.2.1.2,x.2.2.1.1,x.2.2.1.2,(x.2.2.2.1.1.length:Int)]:List Int) x.2.2.2.1.1 8 fun r0 =>
 ap r0 ([(x.2.2.2.1.2.length:Int)]:List Int) 8 fun r1 =>
 Xn k k x.1 x.2.1.1 x.2.1.2 x.2.2.1.1 x.2.2.1.2 x.2.2.2.1.1 x.2.2.2.1.2 x.2.2.2.2.1.1 x.2.2.2.2.1.2 x.2.2.2.2.2 r1 x.2.2.2.1.2 (x.2.2.2.1.2.length:Int) 0
def F223:Fn:=⟨[acY],[.val ⟨false,(.int .u32),true⟩],fun k x=>ab4 k x.1⟩
theorem ok223:O 223 F223:=okF (ah ok288 aj) [] (fun k=>(.loop 11 aah (adM k) (fun g=>.nil) (.loop 5 adN (aiR k) (fun g=>.nil) .nil))) Tryz.func223 rfl
def ab5 (k:Nat) (x:YW):Option ((qm×Unit)×Unit) :=
 (ab4 k x).bind fun q0 =>
 some (((z5 x q0.1.1),()),())
def F221:Fn:=⟨[acY],[.val ⟨true,IJ,false⟩],fun k x=>ab5 k x.1⟩
theorem ok221:O 221 F221:=okF (ah ok223 aj) [] On Tryz.func221 rfl
def IK (k:Nat) (a:EZ×List qm) (b:Int) (x:YW):Option QK :=
 (UE k a).bind fun q0 =>
 (ab3 k a b).bind fun q1 =>
 (bif !q1.1.1 then
  some ((q0.1.1,()),())
 else
  ix a.2 b <|
  (aiN k ((rd a.2 b bf).1,(rd a.2 b bf).2.1,x.2.2)).bind fun q2 =>
  (ab5 k q2.1.1).bind fun q3 =>
  (ab4 k (rd a.2 b bf)).bind fun q4 =>
  (bif (rd a.2 b bf).2.2.2.2.2 != q4.1.1 then
   ix q0.1.1.2 b <|
   some (((q0.1.1.1,upd q0.1.1.2 b (z5 q3.1.1 (Uo .u32 q3.1.1.2.2.2.2.2))),()),())
  else
   ix q0.1.1.2 b <|
   some (((q0.1.1.1,upd q0.1.1.2 b q3.1.1),()),())))
def F128:Fn:=⟨[UY,au,acY],[acW],fun k (a,b,c,_)=>IK k a b c⟩
theorem ok128:O 128 F128:=okF (ah ok185 <| ah ok186 <| ah ok221 <| ah ok222 <| ah ok223 aj) [] On Tryz.func128 rfl
def agX (k:Nat) (a:QL):Option ((EZ×Unit)×Unit) :=
 (FV k a.1).bind fun q0 =>
 (UD k a.2).bind fun q1 =>
 some (((q0.1.1,q1.1.1),()),())
def F224:Fn:=⟨[QM],[UZ],fun k x=>agX k x.1⟩
theorem ok224:O 224 F224:=okF (ah ok219 <| ah ok263 aj) [] On Tryz.func224 rfl
def ab6 (k:Nat) (a:QL) (b:Int):Option ((EZ×Unit)×Unit) :=
 (agX k a).bind fun q0 =>
 (bif decide (b≥0) then
  (bif decide (b<(q0.1.1.1.length:Int)) then
   ix q0.1.1.1 b <|
   some (((upd q0.1.1.1 b 0,q0.1.1.2),()),())
  else
   some ((q0.1.1,()),()))
 else
  some ((q0.1.1,()),()))
def F129:Fn:=⟨[QM,au],[UZ],fun k x=>ab6 k x.1 x.2.1⟩
theorem ok129:O 129 F129:=okF (ah ok224 aj) [] On Tryz.func129 rfl
abbrev aiS:Cut:=⟨[1,2,54,55],[.box 42 [cI,cI,.own 54 BF,.own 168 CF,.cell .bool,.cell .bool,.cell .bool,.own 59 tq,.cell sw,.cell D9,.cell O5,.cell sw,.cell D9],.box 42 [cI,cI,.nil,.nil,.cell .bool,.cell .bool,.cell .bool,.nil,.nil,.nil,.nil,.nil,.nil],cI,cI],[],77,[(53,3)]⟩
def adO (k:Nat) (g8:FP -> Int -> Int -> Bool -> Bool -> Bool -> Int -> Int -> Option F6) (a:BG) (b c:Int) (e f h:Bool) (i l:Int):Option F6 :=
 (bif decide (l<i) then
  ix a.2.2.2.2.2.2.2.1 l <|
  (agW k (rd a.2.2.2.2.2.2.2.1 l ay) (-1)).bind fun q7 =>
  ix a.2.2.2.2.2.2.2.1 l <|
  g8 (w7 a (upd a.2.2.2.2.2.2.2.1 l q7.1.1)) b c e f h i (IntKind.i64.wrap (l+1))
 else
  (IK k a.2.2.2.2.2.2.2.2.1 (-1) bf).bind fun q8 =>
  (ab6 k a.2.2.2.2.2.2.2.2.2 (-1)).bind fun q9 =>
  some (((w8 (z9 a q9.1.1) q8.1.1),()),()))
def aoC (k:Nat) (g:((Unit)×y9×NY×Int×Int×Unit) -> Option F6) (d:(Unit)×y9×NY×Int×Int×Unit):Option F6:=adO k (fun a b c e f h i l=>g ((),LH a,(b,c,(),(),e,f,h,(),(),(),(),(),(),()),i,l,())) (Zh d.2.1) d.2.2.1.1 d.2.2.1.2.1 d.2.2.1.2.2.2.2.1 d.2.2.1.2.2.2.2.2.1 d.2.2.1.2.2.2.2.2.2.1 d.2.2.2.1 d.2.2.2.2.1
def adP (k a:Nat) (b:BG) (c e:Int) (f h i:Bool) (l m:Int):Option F6:=iter aiS (aoC k) a ((),LH b,(c,e,(),(),f,h,i,(),(),(),(),(),(),()),l,m,())
theorem adQ (k a b c e f h i l m):adP k (a+1) b c e f h i l m=adO k (adP k a) b c e f h i l m:=Ba _ _ _ _
abbrev aiT:Cut:=⟨[1,2,21,22],[.box 42 [cI,cI,.own 54 BF,.own 168 CF,.cell .bool,.cell .bool,.cell .bool,.own 59 tq,.cell sw,.cell D9,.cell O5,.cell sw,.cell D9],.box 42 [cI,cI,.nil,.nil,.cell .bool,.cell .bool,.cell .bool,.nil,.nil,.nil,.nil,.nil,.nil],cI,cI],[],77,[(20,1)]⟩
def adR (k:Nat) (g3:FP -> Int -> Int -> Bool -> Bool -> Bool -> Int -> Int -> Option F6) (a:BG) (b c:Int) (e f h:Bool) (i l:Int):Option F6 :=
 (bif decide (l<i) then
  ix a.2.2.1 l <|
  (QV k (rd a.2.2.1 l bg).2.2.2.1).bind fun q3 =>
  (QV k (rd a.2.2.1 l bg).2.2.2.2.1).bind fun q4 =>
  (QV k (rd a.2.2.1 l bg).2.2.2.2.2).bind fun q5 =>
  ix a.2.2.1 l <|
  ix (upd a.2.2.1 l (w3 (rd a.2.2.1 l bg) q3.1.1)) l <|
  let r6:List jr:=upd (upd a.2.2.1 l (w3 (rd a.2.2.1 l bg) q3.1.1)) l (w4 (rd (upd a.2.2.1 l (w3 (rd a.2.2.1 l bg) q3.1.1)) l bg) q4.1.1)
  ix r6 l <|
  g3 (a.1,a.2.1,upd r6 l (z5 (rd r6 l bg) q5.1.1),a.2.2.2) b c e f h i (IntKind.i64.wrap (l+1))
 else
  adP k k a b c e f h (a.2.2.2.2.2.2.2.1.length:Int) 0)
def aoD (k:Nat) (g:((Unit)×y9×NY×Int×Int×Unit) -> Option F6) (d:(Unit)×y9×NY×Int×Int×Unit):Option F6:=adR k (fun a b c e f h i l=>g ((),LH a,(b,c,(),(),e,f,h,(),(),(),(),(),(),()),i,l,())) (Zh d.2.1) d.2.2.1.1 d.2.2.1.2.1 d.2.2.1.2.2.2.2.1 d.2.2.1.2.2.2.2.2.1 d.2.2.1.2.2.2.2.2.2.1 d.2.2.2.1 d.2.2.2.2.1
def adS (k a:Nat) (b:BG) (c e:Int) (f h i:Bool) (l m:Int):Option F6:=iter aiT (aoD k) a ((),LH b,(c,e,(),(),f,h,i,(),(),(),(),(),(),()),l,m,())
theorem adT (k a b c e f h i l m):adS k (a+1) b c e f h i l m=adR k (adS k a) b c e f h i l m:=Ba _ _ _ _
def S56 (k:Nat) (a:BG):Option F6 :=
 (apJ k a.2.2.1).bind fun q0 =>
 (apK k a.2.2.2.1).bind fun q1 =>
 (apL k a.2.2.2.2.2.2.2.1).bind fun q2 =>
 adS k k (w7 (w3 (w2 a q0.1.1) q1.1.1) q2.1.1) 0 0 false false false (q0.1.1.length:Int) 0
def F56:Fn:=⟨[Zf],[acX],fun k x=>S56 k x.1⟩
theorem ok56:O 56 F56:=okF (ah ok123 <| ah ok124 <| ah ok125 <| ah ok126 <| ah ok127 <| ah ok128 <| ah ok129 aj) [] (fun k=>(.loop 8 aiS (aoC k) (fun g=>.nil) (.loop 3 aiT (aoD k) (fun g=>.nil) .nil))) Tryz.func56 rfl
def aiU (k:Nat) (a:acS) (b:Int):Option jk :=
 some ((IntKind.i64.wrap (a.1 - b),()),())
def F142:Fn:=⟨[.val ⟨true,tq,false⟩,au],[rI],fun k x=>aiU k x.1 x.2.1⟩
theorem ok142:O 142 F142:=okF aj [] On Tryz.func142 rfl
abbrev adU:Cut:=⟨[0,1,2,8,9,10],[.cell (.sl 59 tq),cI,.lJ 142 [],cI,cI,cI],[],49,[]⟩
def ab7 (k:Nat) (g3:(List AJ) -> Int -> Int -> Int -> Int -> Option D8) (a:List AJ) (b c e f:Int):Option D8 :=
 (bif decide (e<f) then
  ix a (IntKind.i64.wrap (Ul .u64 (IntKind.u64.wrap (IntKind.i64.wrap (e+f))) 1)) <|
  (aiU k (rd a (IntKind.i64.wrap (Ul .u64 (IntKind.u64.wrap (IntKind.i64.wrap (e+f))) 1)) ay) b).bind fun q0 =>
  (bif decide (q0.1.1<0) then
   g3 a b c (IntKind.i64.wrap ((IntKind.i64.wrap (Ul .u64 (IntKind.u64.wrap (IntKind.i64.wrap (e+f))) 1))+1)) f
  else
   g3 a b c e (IntKind.i64.wrap (Ul .u64 (IntKind.u64.wrap (IntKind.i64.wrap (e+f))) 1)))
 else
  (bif decide (e<c) then
   ix a e <|
   (aiU k (rd a e ay) b).bind fun q1 =>
   some ((e,q1.1.1==0,()),())
  else
   some ((e,false,()),())))
def aiV (k:Nat):Xx (((Unit)×(List AJ)×Int×Unit×Int×Int×Int×Unit) -> Option D8):=eu (dw (dh (dh (dw (dh (dh (dh dx))))))) (ab7 k)
def R9 (k a:Nat) (b:List AJ) (c e f h:Int):Option D8:=iter adU (aiV k) a ((),b,c,(),e,f,h,())
theorem aiW (k a b c e f h):R9 k (a+1) b c e f h=ab7 k (R9 k a) b c e f h:=Ba _ _ _ _
def apM (k:Nat) (x:List AJ) (a:Int):Option D8 :=
 R9 k k x a (x.length:Int) 0 (x.length:Int)
def F141:Fn:=⟨[.val ⟨false,(.sl 59 tq),false⟩,au,.pv (.lJ 142 [])],[rI,rB],fun k x=>apM k x.1 x.2.1⟩
theorem ok141:O 141 F141:=okF (ah ok142 aj) [] (fun k=>(.loop 3 adU (aiV k) (fun g=>.nil) .nil)) Tryz.func141 rfl
def S71 (k:Nat) (a:BG) (b:Int):Option D8 :=
 (apM k a.2.2.2.2.2.2.2.1 b).bind fun q0 =>
 some (q0.1,())
def F71:Fn:=⟨[.pv (.ref acR),au],[rI,rB],fun k x=>S71 k x.1 x.2.1⟩
theorem ok71:O 71 F71:=okF (ah ok141 aj) [] On Tryz.func71 rfl
section
variable (w:World) {g n c i j:Nat}
theorem RA:Tryz.prog.underlying 31=some (.slice 59) /\ Tryz.prog.underlying 3=some (.int .i64) /\ Tryz.prog.underlying 4=some .bool /\ Tryz.prog.follows .mixedOrders=true /\ (∀ w,(Go.sizeOf 59).run Tryz.prog w=.ok 28 w) /\ Tryz.f72.ntmps=33:=⟨by kernel_rfl,by kernel_rfl,by kernel_rfl,by kernel_rfl,fun w=>by kernel_rfl,rfl⟩
theorem aaj {v:Value} (hv:(∃ A n c,v=.slice A n c /\ i <= n /\ n <= c /\ c <= 9223372036854775807)):Calls Tryz.prog 72 #[v,.int .i64 i,.int .i64 i] w fun e w'=>e=.returned v /\ w'=w:=by
 obtain ⟨t24,t3,t4,mixed,z36,hnt⟩:=RA
 have u24:=run_underlying t24;have u3:=run_underlying t3;have u4:=run_underlying t4
 obtain ⟨A,n,c,rfl,hi,hnc,hc63⟩:=hv
 have hi0:(i:Int) <= (n:Int):=by omega
 have hi1:(0:Int) <= (i:Int):=by omega
 cases A <;> (go_enter Tryz.func72,hnt;go_wp2 <;> (go_ret;exact ⟨rfl,rfl⟩))
theorem aak {w' w'':World} (hlt:i<j) (hj:j <= n) (hnc:n <= c) (hc63:c <= 9223372036854775807)
  (hap:∀ ty A,(c≠j -> A=(⟨g,j * 28,none⟩:Addr)) -> (Builtin.append_ #[31,31] ty #[.slice (some ⟨g,0,none⟩) i c,.slice (some A) (n - j) (c - j)]).run Tryz.prog w.drew=.ok (.slice (some ⟨g,0,none⟩) (i+(n - j)) c) w')
  (hcl:∀ ty dc,(Builtin.clear_ #[31] ty #[.slice (some ⟨g,(i+(n - j)) * 28,none⟩) (n - (i+(n - j))) dc]).run Tryz.prog w'=.ok (.tuple #[]) w'') :
  Calls Tryz.prog 72 #[.slice (some ⟨g,0,none⟩) n c,.int .i64 i,.int .i64 j] w fun e w1=>e=.returned (.slice (some ⟨g,0,none⟩) (i+(n - j)) c) /\ w1=w'':=by
 obtain ⟨t24,t3,t4,mixed,z36,hnt⟩:=RA
 have u24:=run_underlying t24;have u3:=run_underlying t3;have u4:=run_underlying t4
 have hi0:(i:Int) <= (n:Int):=by omega
 have hj0:(j:Int) <= (n:Int):=by omega
 have hij:(i:Int) <= (j:Int):=by omega
 have hne:¬ ((i:Int)=(j:Int)):=by omega
 have hic:i <= c:=by omega
 have hjc:j <= c:=by omega
 have hln:i+(n - j) <= n:=by omega
 have hlc:i+(n - j) <= c:=by omega
 have hci:¬ (c=i+(n - j)):=by omega
 obtain ⟨A,hA,hA'⟩:∃ A:Addr,(if c=j then some (⟨g,0,none⟩:Addr) else some ⟨g,j * 28,none⟩)=some A /\ (c≠j -> A=(⟨g,j * 28,none⟩:Addr)):=by
  by_cases h:c=j
  · exact ⟨_,if_pos h,fun q=>absurd h q⟩
  · exact ⟨_,if_neg h,fun _=>rfl⟩
 try simp only [Nat.mul_one] at hA hcl
 go_enter Tryz.func72,hnt
 go_wp2_with fail
 go_region_law_o (refine Gz rfl rfl _ _ (by simp [Act.eval,Act.put]) (by simp [Act.eval,Act.put,hA]) (hap _ _ hA') ?_)
 go_wp2_with (at_builtin;refine Ji rfl rfl _ rfl (hcl _ _) ?_)
 go_ret
 exact ⟨rfl,rfl⟩
end
abbrev P72:List PT:=iG 59 tq
abbrev R72:List RT:=qV 59 tq
def S72 (k:Nat) (a:List AJ) (i j:Int):Option (((List AJ)×Unit)×Unit):=Jk 59 tq k (a,i,j,())
def F72:Fn:=⟨P72,R72,Jk 59 tq⟩
def E72:Env:=tab.env (fun _=>none) (fun _=>0)
theorem apO:aH Tryz.prog E72:=Kw Rt _ _ (fun f F h=>by cases h)
theorem ok72:O 72 F72:=by
 obtain ⟨i0,z,a1,a2,a3,a4,a5⟩:=(apO.ty 59 (tq) (by kernel_rfl)).info
 have b2:Ty.sz (tq)=28:=rfl
 have hz:z.cells.size=28:=by rw [<- Array.length_toList,a5,gZ,b2]
 obtain ⟨t24,t3,t4,mixed,z36,hnt⟩:=RA
 refine Qu Tryz.func72 rfl (by kernel_rfl) ?_
 rw [b2]
 exact Mr (S:=31) (z:=z) t24 a1 a4 (by rw [a2,b2]) hz (fun v hv=>tT (tq) v (by rw [<- a5];exact hv)) (by decide) (fun w i v h=>aaj w h) (fun w g n c i j w' w'' h1 h2 h3 h4 h5 h6=>aak w h1 h2 h3 h4 h5 h6)
def UF (k:Nat) (a:Int):Option ((YV×Unit)×Unit) :=
 some (((0,(a,0,0,0,0,0,0,0),[],false),()),())
def F109:Fn:=⟨[au],[.val ⟨true,(.pair (.int .i64) (.pair (Am 8 (.int .i64)) (.pair (.sl 293 (.pair (.int .i64) oo)) .bool))),true⟩],fun k x=>UF k x.1⟩
theorem ok109:O 109 F109:=okF aj [] On Tryz.func109 rfl
def S74 (k:Nat) (a b c:Int):Option ((AJ×Unit)×Unit) :=
 (UF k c).bind fun q0 =>
 (UF k c).bind fun q1 =>
 some (((a,b,c,0,q0.1.1,q1.1.1,[],false),()),())
def F74:Fn:=⟨[au,au,au],[.val ⟨true,tq,true⟩],fun k (a,b,c,_)=>S74 k a b c⟩
theorem ok74:O 74 F74:=okF (ah ok109 aj) [] On Tryz.func74 rfl
section
variable (w:World) {g n c i g2 m c2:Nat}
theorem FW:Tryz.prog.underlying 31=some (.slice 59) /\ Tryz.prog.underlying 3=some (.int .i64) /\ Tryz.prog.underlying 4=some .bool /\ Tryz.prog.follows .mixedOrders=true /\ (∀ w,(Go.sizeOf 59).run Tryz.prog w=.ok 28 w) /\ Tryz.f73.ntmps=95:=⟨by kernel_rfl,by kernel_rfl,by kernel_rfl,by kernel_rfl,fun w=>by kernel_rfl,rfl⟩
theorem aal {v u:Value} (hv:(∃ A n c,v=.slice A n c /\ i <= n)) (hu:∃ A c,u=.slice A m c) (hm:m=0):Calls Tryz.prog 73 #[v,.int .i64 i,u] w fun e w'=>e=.returned v /\ w'=w:=by
 obtain ⟨t24,t3,t4,mixed,z36,hnt⟩:=FW
 have u24:=run_underlying t24;have u3:=run_underlying t3;have u4:=run_underlying t4
 obtain ⟨A,n,c,rfl,hi⟩:=hv
 obtain ⟨A2,c2,rfl⟩:=hu
 have hi0:(i:Int) <= (n:Int):=by omega
 have hz1:(m:Int)=0:=by omega
 cases A <;> (go_enter Tryz.func73,hnt;go_wp2 <;> (go_ret;exact ⟨rfl,rfl⟩))
theorem ab8 {v:Value} {w':World} {v':Value} (hv:(∃ A c,v=.slice A n c)) (hm:0<m)
  (hr:∀ ty,(Builtin.append_ #[31,31] ty #[v,.slice (some ⟨g2,0,none⟩) m c2]).run Tryz.prog w=.ok v' w'):Calls Tryz.prog 73 #[v,.int .i64 n,.slice (some ⟨g2,0,none⟩) m c2] w fun e w1=>e=.returned v' /\ w1=w':=by
 obtain ⟨t24,t3,t4,mixed,z36,hnt⟩:=FW
 have u24:=run_underlying t24;have u3:=run_underlying t3;have u4:=run_underlying t4
 have hz1:¬ ((m:Int)=0):=by omega
 obtain ⟨A,c,rfl⟩:=hv
 go_enter Tryz.func73,hnt
 go_wp2_with (at_builtin;refine Gx rfl rfl _ _ rfl rfl (hr _) ?_)
 all_goals (go_ret;exact ⟨rfl,rfl⟩)
theorem Xo {v' v'':Value} {w' w'':World} (hi:i<n) (hm:0<m) (hroom:n+m <= c) (hc63:c <= 9223372036854775807)
  (hov:∀ lb cb,(callFunc 143 #[.slice (some ⟨g2,0,none⟩) m c2,.slice (some ⟨g,(i+m) * 28,none⟩) lb cb]).run Tryz.prog w=.ok (.value (.bool false)) w)
  (hcp1:∀ ty dc sc,(Builtin.copy_ #[31,31] ty #[.slice (some ⟨g,(i+m) * 28,none⟩) (n+m - (i+m)) dc,.slice (some ⟨g,i * 28,none⟩) (n+m - i) sc]).run Tryz.prog w.drew=.ok v' w')
  (hcp2:∀ ty dc,(Builtin.copy_ #[31,31] ty #[.slice (some ⟨g,i * 28,none⟩) (n+m - i) dc,.slice (some ⟨g2,0,none⟩) m c2]).run Tryz.prog w'=.ok v'' w'') :
  Calls Tryz.prog 73 #[.slice (some ⟨g,0,none⟩) n c,.int .i64 i,.slice (some ⟨g2,0,none⟩) m c2] w fun e w1=>e=.returned (.slice (some ⟨g,0,none⟩) (n+m) c) /\ w1=w'':=by
 obtain ⟨t24,t3,t4,mixed,z36,hnt⟩:=FW
 have u24:=run_underlying t24;have u3:=run_underlying t3;have u4:=run_underlying t4
 have hz1:¬ ((m:Int)=0):=by omega
 have hz2:¬ ((i:Int)=(n:Int)):=by omega
 have hw1:IntKind.i64.wrap ((i:Int)+(m:Int))=(i:Int)+(m:Int):=by rw [IntKind.wrap_i64];omega
 have hb1:(0:Int) <= (i:Int)+(m:Int):=by omega
 have hin:i <= n:=by omega
 have htn:((i:Int)+(m:Int)).toNat=i+m:=by omega
 have hb2:¬ (c=i+m):=by omega
 have hb3:(i:Int) <= (n:Int)+(m:Int):=by omega
 have hb4:¬ (c=i):=by omega
 go_enter Tryz.func73,hnt
 go_wp2_with (simp only [hov])
 go_region_law_o (refine Jp rfl rfl _ _ (by simp [Act.eval,Act.put]) (by simp [Act.eval,Act.put]) (hcp1 _ _ _) ?_)
 go_wp2_with (at_builtin;refine Jo rfl rfl _ _ rfl rfl (hcp2 _ _) ?_)
 go_ret
 exact ⟨rfl,rfl⟩
theorem aam {h G:Nat} {v' v'':Value} {w0 w' w'':World} (hi:i<n) (hm:0<m) (hnc:n <= c) (hroom:c<n+m) (hc63:n+m <= 140737488355328) (hG:n+m <= G) (hG63:G <= 9223372036854775807)
  (hrz:∀ ty,(Builtin.append_ #[31,3] ty #[.slice (some ⟨g,0,none⟩) i c,.int .i64 ((n:Int)+(m:Int) - (i:Int))]).run Tryz.prog w=.ok (.slice (some ⟨h,0,none⟩) (n+m) G) w0)
  (hcp1:∀ ty dc,(Builtin.copy_ #[31,31] ty #[.slice (some ⟨h,i * 28,none⟩) (n+m - i) dc,.slice (some ⟨g2,0,none⟩) m c2]).run Tryz.prog w0=.ok v' w')
  (hcp2:∀ ty dc sc,(Builtin.copy_ #[31,31] ty #[.slice (some ⟨h,(i+m) * 28,none⟩) (n+m - (i+m)) dc,.slice (some ⟨g,i * 28,none⟩) (n - i) sc]).run Tryz.prog w'.drew=.ok v'' w'') :
  Calls Tryz.prog 73 #[.slice (some ⟨g,0,none⟩) n c,.int .i64 i,.slice (some ⟨g2,0,none⟩) m c2] w fun e w1=>e=.returned (.slice (some ⟨h,0,none⟩) (n+m) G) /\ w1=w'':=by
 obtain ⟨t24,t3,t4,mixed,z36,hnt⟩:=FW
 have u24:=run_underlying t24;have u3:=run_underlying t3;have u4:=run_underlying t4
 have hz1:¬ ((m:Int)=0):=by omega
 have hz2:¬ ((i:Int)=(n:Int)):=by omega
 have hz3:(c:Int)<(n:Int)+(m:Int):=by omega
 have hw1:IntKind.i64.wrap ((i:Int)+(m:Int))=(i:Int)+(m:Int):=by rw [IntKind.wrap_i64];omega
 have hb1:(0:Int) <= (i:Int)+(m:Int):=by omega
 have hin:i <= n:=by omega
 have htn:((i:Int)+(m:Int)).toNat=i+m:=by omega
 have hGi:¬ (G=i):=by omega
 have hGim:¬ (G=i+m):=by omega
 have hci:¬ (c=i):=by omega
 have hb3:(i:Int) <= (n:Int):=by omega
 go_enter Tryz.func73,hnt
 go_wp2_with (first
  | (at_builtin;refine Gx rfl rfl _ _ rfl rfl (hrz _) ?_)
  | (at_builtin;refine Jo rfl rfl _ _ rfl rfl (hcp1 _ _) ?_))
 go_region_law_o (refine Jp rfl rfl _ _ (by simp [Act.eval,Act.put]) (by simp [Act.eval,Act.put]) (hcp2 _ _ _) ?_)
 go_wp2
 go_ret
 exact ⟨rfl,rfl⟩
end
abbrev P73:List PT:=eG 59 tq
abbrev R73:List RT:=qU 59 tq
def S73 (k:Nat) (a:List AJ) (b:Int) (c:List AJ):Option (((List AJ)×Unit)×Unit):=Jg 272 59 tq k (a,b,c,())
def F73:Fn:=⟨P73,R73,Jg 272 59 tq⟩
def E73:Env:=tab.env (fun _=>none) (fun _=>0)
theorem apP:aH Tryz.prog E73:=Kw Rt _ _ (fun f F h=>by cases h)
theorem ok73:O 73 F73:=by
 obtain ⟨i0,z,a1,a2,a3,a4,a5⟩:=(apP.ty 59 (tq) (by kernel_rfl)).info
 have b1:E73.lK 59=272:=by kernel_rfl
 have b2:Ty.sz (tq)=28:=rfl
 rw [b1] at a3
 have hz:z.cells.size=28:=by rw [<- Array.length_toList,a5,gZ,b2]
 obtain ⟨t24,t3,t4,mixed,z36,hnt⟩:=FW
 refine Qq Tryz.func73 rfl (by kernel_rfl) ?_
 rw [b2,<- a3]
 refine Mq (S:=31) (z:=z) t24 t3 a1 a4 (by rw [a2,b2]) hz (by decide) (by rw [a3];decide) (fun w i m v u h1 h2 h3=>aal w h1 h2 h3) (fun w n g2 m c2 v v' w' h1 h2 h3=>ab8 w h1 h2 h3) (fun w g n c i g2 m c2 v' v'' w' w'' h1 h2 h3 h4 h5 h6 hne hg hg2=>Xo w h1 h2 h3 h4 (fun lb cb=>?_) h5 h6) (fun w g n c i g2 m c2 h G v' v'' w0 w' w'' h1 h2 h3 h4 h5 h6 h7 h8 h9 h10=>aam w h1 h2 h3 h4 h5 h6 h7 h8 h9 h10)
 obtain ⟨cur,q1,q2⟩:=hg
 obtain ⟨xE,q3⟩:=hg2
 rw [run_callFunc_extern Tryz.func143 (by kernel_rfl) (by kernel_rfl) (by kernel_rfl) (e:=Extern.SlicesOverlaps.overlaps #[31,31] #[4]) (by kernel_rfl),Lib.run_overlaps_apart w 31 4 59 t24 28 z36 ⟨g2,0,none⟩ ⟨g,(i+m) * 28,none⟩ m c2 lb cb hne 59 59 xE.size cur.size (by simp [World.shape?,q3]) (by simp [World.shape?,q1]) q2 (Kd.fQ q3 _) (Kd.fQ q3 _)]
 rfl
abbrev al7:Cut:=⟨[1,2,3,6,9,10],[cI,cI,.box 42 [cI,cI,.own 54 BF,.own 168 CF,.cell .bool,.cell .bool,.cell .bool,.own 59 tq,.own 3 (.int .i64),.own 4 .bool,.own 142 IJ,.own 3 (.int .i64),.own 4 .bool],.box 42 [cI,cI,.nil,.nil,.cell .bool,.cell .bool,.cell .bool,.nil,.nil,.nil,.nil,.nil,.nil],.own 51 acT,cI],[],98,[]⟩
def RB (k:Nat) (a b:Int) (c:BG) (e f:Int) (h i l:Bool) (m:List (PN Int 6)) (n:Int):Option ((FP×(List (PN Int 6))×Int×Unit)×Unit) :=
 (S74 k a c.1 b).bind fun q4 =>
 (S73 k c.2.2.2.2.2.2.2.1 n ([q4.1.1]:List AJ)).bind fun q5 =>
 ap m ([(c.1,1,a,0,b,0)]:List (PN Int 6)) 48 fun r6 =>
 some (((w7 c q5.1.1),r6,0,()),())
abbrev al8:Cut:=⟨[1,2,3,6],[cI,cI,.box 42 [cI,cI,.own 54 BF,.own 168 CF,.cell .bool,.cell .bool,.cell .bool,.own 59 tq,.own 3 (.int .i64),.own 4 .bool,.own 142 IJ,.own 3 (.int .i64),.own 4 .bool],.box 42 [cI,cI,.nil,.nil,.cell .bool,.cell .bool,.cell .bool,.nil,.nil,.nil,.nil,.nil,.nil]],[],98,[]⟩
def Xp (k:Nat) (a b:Int) (c:BG) (e f:Int) (h i l:Bool):Option ((FP×(List (PN Int 6))×Int×Unit)×Unit) :=
 (S71 k c a).bind fun q1 =>
 (bif q1.1.2.1 then
  ix c.2.2.2.2.2.2.2.1 q1.1.1 <|
  (bif (rd c.2.2.2.2.2.2.2.1 q1.1.1 ay).2.2.2.1 != 2 then
   some ((c,[],5,()),())
  else
   ap ([]:List (PN Int 6)) ([(c.1,13,a,0,0,0)]:List (PN Int 6)) 48 fun r2 =>
   (S72 k c.2.2.2.2.2.2.2.1 q1.1.1 (IntKind.i64.wrap (q1.1.1+1))).bind fun q3 =>
   RB k a b (w7 c q3.1.1) e f h i l r2 q1.1.1)
 else
  RB k a b c e f h i l ([]:List (PN Int 6)) q1.1.1)
def S30 (k:Nat) (a:BG) (b c:Int):Option ((FP×(List (PN Int 6))×Int×Unit)×Unit) :=
 (S56 k a).bind fun q0 =>
 (bif !q0.1.1.2.2.2.2.1 then
  some ((q0.1.1,[],8,()),())
 else
  (bif q0.1.1.2.2.2.2.2.1 then
   some ((q0.1.1,[],17,()),())
  else
   (bif decide (b<0) then
    some ((q0.1.1,[],3,()),())
   else
    (bif decide (b≥(q0.1.1.2.2.1.length:Int)) then
     some ((q0.1.1,[],3,()),())
    else
     (bif decide (b<(q0.1.1.2.2.2.2.2.2.2.2.2.2.length:Int)) then
      ix q0.1.1.2.2.2.2.2.2.2.2.2.2 b <|
      (bif rd q0.1.1.2.2.2.2.2.2.2.2.2.2 b false then
       some ((q0.1.1,[],6,()),())
      else
       Xp k b c q0.1.1 0 0 false false false)
     else
      Xp k b c q0.1.1 0 0 false false false)))))
def F30:Fn:=⟨[Zf,au,au],[acX,.val ⟨false,(.sl 51 acT),true⟩,rI],fun k (a,b,c,_)=>S30 k a b c⟩
theorem ok30:O 30 F30:=okF (ah ok56 <| ah ok71 <| ah ok72 <| ah ok73 <| ah ok74 aj) [(9,2)] (fun k=>(.join 17 al7 (fun d=>RB k d.2.1 d.2.2.1 (Zh d.2.2.2.1) d.2.2.2.2.1.1 d.2.2.2.2.1.2.1 d.2.2.2.2.1.2.2.2.2.1 d.2.2.2.2.1.2.2.2.2.2.1 d.2.2.2.2.1.2.2.2.2.2.2.1 d.2.2.2.2.2.1 d.2.2.2.2.2.2.1) (.join 10 al8 (fun d=>Xp k d.2.1 d.2.2.1 (Zh d.2.2.2.1) d.2.2.2.2.1.1 d.2.2.2.2.1.2.1 d.2.2.2.2.1.2.2.2.2.1 d.2.2.2.2.1.2.2.2.2.2.1 d.2.2.2.2.1.2.2.2.2.2.2.1) .nil))) Tryz.func30 rfl
def S99 (k:Nat) (a:BG):Option F6 :=
 (S30 k a (-1) 0).bind fun q0 =>
 some ((q0.1.1,()),())
def F99:Fn:=⟨[Zf],[acX],fun k x=>S99 k x.1⟩
theorem ok99:O 99 F99:=okF (ah ok30 aj) [] On Tryz.func99 rfl
def aiX (k:Nat) (a:QL):Option ((EZ×Unit)×Unit) :=
 (FV k a.1).bind fun q0 =>
 (UD k a.2).bind fun q1 =>
 some (((q0.1.1,q1.1.1),()),())
def F324:Fn:=⟨[QM],[UZ],fun k x=>aiX k x.1⟩
theorem ok324:O 324 F324:=okF (ah ok219 <| ah ok263 aj) [] On Tryz.func324 rfl
def aiY (k:Nat) (a:QL):Option jk :=
 some ((mn (a.1.length:Int) (a.2.length:Int),()),())
def F326:Fn:=⟨[QM],[rI],fun k x=>aiY k x.1⟩
theorem ok326:O 326 F326:=okF aj [] On Tryz.func326 rfl
abbrev adV:Cut:=⟨[0,1,7,8],[.cell D9,.cell .bool,cI,cI],[],19,[]⟩
def Xq (k:Nat) (g2:(List Bool) -> Bool -> Int -> Int -> Option jk) (a:List Bool) (b:Bool) (c e:Int):Option jk :=
 (bif decide (e<c) then
  ix a e <|
  (bif b==(rd a e false) then
   some ((e,()),())
  else
   g2 a b c (IntKind.i64.wrap (e+1)))
 else
  some (((-1),()),()))
def aiZ (k:Nat):Xx (((Unit)×(List Bool)×Bool×Int×Int×Unit) -> Option jk):=eu (dw (dh (dh (dh (dh dx))))) (Xq k)
def M4 (k a:Nat) (b:List Bool) (c:Bool) (e f:Int):Option jk:=iter adV (aiZ k) a ((),b,c,e,f,())
theorem aan (k a b c e f):M4 k (a+1) b c e f=Xq k (M4 k a) b c e f:=Ba _ _ _ _
def ai0 (k:Nat) (a:List Bool) (b:Bool):Option jk :=
 M4 k k a b (a.length:Int) 0
def F325:Fn:=⟨[.val ⟨false,D9,false⟩,.val ⟨false,.bool,false⟩],[rI],fun k x=>ai0 k x.1 x.2.1⟩
theorem ok325:O 325 F325:=okF aj [] (fun k=>(.loop 2 adV (aiZ k) (fun g=>.nil) .nil)) Tryz.func325 rfl
def al9 (k:Nat) (a:QL):Option ((EZ×(Int×Int)×Bool×Unit)×Unit) :=
 (aiX k a).bind fun q0 =>
 (aiY k q0.1.1).bind fun q1 =>
 sx q0.1.1.2 0 q1.1.1 <|
 (ai0 k (sub q0.1.1.2 0 q1.1.1) false).bind fun q2 =>
 (bif decide (q2.1.1<0) then
  some ((q0.1.1,(0,0),false,()),())
 else
  ix q0.1.1.1 q2.1.1 <|
  ix q0.1.1.1 q2.1.1 <|
  ix q0.1.1.2 q2.1.1 <|
  ix (upd q0.1.1.1 q2.1.1 (IntKind.i64.wrap ((rd q0.1.1.1 q2.1.1 0)+1))) q2.1.1 <|
  some (((upd q0.1.1.1 q2.1.1 (IntKind.i64.wrap ((rd q0.1.1.1 q2.1.1 0)+1)),upd q0.1.1.2 q2.1.1 true),(q2.1.1,rd (upd q0.1.1.1 q2.1.1 (IntKind.i64.wrap ((rd q0.1.1.1 q2.1.1 0)+1))) q2.1.1 0),true,()),()))
def F252:Fn:=⟨[QM],[UZ,.val ⟨true,oo,true⟩,rB],fun k x=>al9 k x.1⟩
theorem ok252:O 252 F252:=okF (ah ok324 <| ah ok325 <| ah ok326 aj) [] On Tryz.func252 rfl
def agY (k:Nat) (a:Int) (b:Int×Int):Option ((qm×Unit)×Unit) :=
 (bif a==1 then
  some (((a,b,(8,0),([],[]),(0,[]),0),()),())
 else
  some (((a,b,(0,0),([],[]),(0,[]),0),()),()))
def F233:Fn:=⟨[au,ah1],[.val ⟨true,IJ,true⟩],fun k x=>agY k x.1 x.2.1⟩
theorem ok233:O 233 F233:=okF aj [] On Tryz.func233 rfl
abbrev adW:Cut:=⟨[1,4,5,7,8,9,20,21,22],[cI,.box 38 [.nil,.nil,.nil],.box 95 [cI,cI],.mp 253 false (.int .i64) false (.int .i64),.box 38 [.own 3 (.int .i64),.own 4 .bool,.own 142 IJ],cI,.cell O5,cI,cI],[],72,[]⟩
def Xr (k:Nat) (g4:Int -> Int -> Int -> jw -> (List Int) -> (List Bool) -> (List qm) -> Int -> (List qm) -> Int -> Int -> Option Z5) (a b c:Int) (e:ny) (f:List Int) (h:List Bool) (i:List qm) (l:Int) (m:List qm) (n o:Int):Option Z5 :=
 (bif decide (o<n) then
  ix m o <|
  (bif (rd m o bf).1==a then
   g4 a b c e f h i (IntKind.i64.wrap (l+1)) m n (IntKind.i64.wrap (o+1))
  else
   g4 a b c e f h i l m n (IntKind.i64.wrap (o+1)))
 else
  (al9 k (f,h)).bind fun q1 =>
  (bif decide (l≥(Us (.int .i64) (.int .i64) a e 0)) then
   some ((((f,h),i),(0,0),false,()),())
  else
   (bif !q1.1.2.2.1 then
    some ((((f,h),i),(0,0),false,()),())
   else
    (bif decide (q1.1.2.1.1≥(i.length:Int)) then
     some ((((f,h),i),(0,0),false,()),())
    else
     (agY k a q1.1.2.1).bind fun q2 =>
     (ab5 k q2.1.1).bind fun q3 =>
     ix i q1.1.2.1.1 <|
     some (((q1.1.1,upd i q1.1.2.1.1 q3.1.1),q1.1.2.1,true,()),())))))
def ai1 (k:Nat):Xx (((Unit)×Int×(Unit×Unit×Unit×Unit)×(Int×Int×Unit)×jw×aoz×Int×(List qm)×Int×Int×Unit) -> Option Z5):=eu (dw (dh (d9 (dw (dw (dw dx))) (d9 (dh (dh dx)) (dh (d9 (dh (dh (dh dx))) (dh (dh (dh (dh dx)))))))))) (Xr k)
def Xt (k a:Nat) (b c e:Int) (f:ny) (h:List Int) (i:List Bool) (l:List qm) (m:Int) (n:List qm) (o p:Int):Option Z5:=iter adW (ai1 k) a ((),b,((),(),(),()),(c,e,()),f,(h,i,l,()),m,n,o,p,())
theorem aao (k a b c e f h i l m n o p):Xt k (a+1) b c e f h i l m n o p=Xr k (Xt k a) b c e f h i l m n o p:=Ba _ _ _ _
def ama (k:Nat) (a:EZ×List qm) (b:Int):Option Z5 :=
 (UE k a).bind fun q0 =>
 Xt k k b 0 0 (vL (.int .i64) (.int .i64) 3 4 (vL (.int .i64) (.int .i64) 2 4 (vL (.int .i64) (.int .i64) 1 4 ([]:List (Int×Int))))) q0.1.1.1.1 q0.1.1.1.2 q0.1.1.2 0 a.2 (a.2.length:Int) 0
def F167:Fn:=⟨[UY,au],[acW,.val ⟨true,oo,true⟩,rB],fun k x=>ama k x.1 x.2.1⟩
theorem ok167:O 167 F167:=okF (ah ok185 <| ah ok221 <| ah ok233 <| ah ok252 aj) [] (fun k=>(.loop 4 adW (ai1 k) (fun g=>.nil) .nil)) Tryz.func167 rfl
abbrev apQ:Cut:=⟨[0,2],[.pin false 0,.mp 253 false (.int .i64) false (.int .i64)],[.fK 175 [cI,cI,.cell pq,.cell Zb,.cell .bool,.cell .bool,.cell .bool,.cell (.sl 59 tq),.cell sw,.cell D9,.cell O5,.cell sw,.cell D9,cI,cI,cI,cI,.cell qb,.cell qb,.cell qb,cI,cI,cI,cI,.cell (.int .u32),.own 51 acT,cI,cI,cI,cI]],58,[]⟩
def aap (k:Nat) (a:FQ) (b:ny):Option O4 :=
 (ama k a.1.2.2.2.2.2.2.2.2.1 (Us (.int .i64) (.int .i64) a.2.1.1 b 0)).bind fun q0 =>
 (bif !q0.1.2.2.1 then
  some ((),AU (w3 a 4),())
 else
  some ((),AU (w4 (w0 a (w8 a.1 q0.1.1)) q0.1.2.1),()))
def S90 (k:Nat) (a:FQ):Option O4 :=
 (bif a.2.1.1==2 then
  (bif a.1.2.2.2.2.1 then
   some ((),AU (w3 a 7),())
  else
   aap k a (vL (.int .i64) (.int .i64) 4 3 (vL (.int .i64) (.int .i64) 3 2 (vL (.int .i64) (.int .i64) 2 1 ([]:List (Int×Int))))))
 else
  aap k a (vL (.int .i64) (.int .i64) 4 3 (vL (.int .i64) (.int .i64) 3 2 (vL (.int .i64) (.int .i64) 2 1 ([]:List (Int×Int))))))
def F90:Fn:=⟨[Zd],[],fun k x=>S90 k (pz x.1)⟩
theorem ok90:O 90 F90:=okF (ah ok167 aj) [] (fun k=>(.join 3 apQ (fun d=>aap k (pz d.1.1) d.2.2.1) .nil)) Tryz.func90 rfl
abbrev adX:Cut:=⟨[2,6,7,8],[.own 3 (.int .i64),.cell O5,cI,cI],[],22,[]⟩
def Xu (k:Nat) (g2:(List Int) -> (List qm) -> Int -> Int -> Option qp) (a:List Int) (b:List qm) (c e:Int):Option qp :=
 (bif decide (e<c) then
  ix b e <|
  (bif (rd b e bf).1==1 then
   ap a ([e]:List Int) 8 fun r0 =>
   g2 r0 b c (IntKind.i64.wrap (e+1))
  else
   g2 a b c (IntKind.i64.wrap (e+1)))
 else
  some ((a,()),()))
def ai2 (k:Nat):Xx (((Unit)×(List Int)×(List qm)×Int×Int×Unit) -> Option qp):=eu (dw (dh (dh (dh (dh dx))))) (Xu k)
def Xv (k a:Nat) (b:List Int) (c:List qm) (e f:Int):Option qp:=iter adX (ai2 k) a ((),b,c,e,f,())
theorem aaq (k a b c e f):Xv k (a+1) b c e f=Xu k (Xv k a) b c e f:=Ba _ _ _ _
def aar (k:Nat) (a:EZ×List qm):Option qp :=
 Xv k k ([]:List Int) a.2 (a.2.length:Int) 0
def F107:Fn:=⟨[UY],[ahZ],fun k x=>aar k x.1⟩
theorem ok107:O 107 F107:=okF aj [(2,2)] (fun k=>(.loop 2 adX (ai2 k) (fun g=>.nil) .nil)) Tryz.func107 rfl
abbrev ai3:Cut:=⟨[1,2,7,8,9],[.box 42 [cI,cI,.cell pq,.cell Zb,.cell .bool,.cell .bool,.cell .bool,.cell (.sl 59 tq),.cell sw,.cell D9,.cell O5,.cell sw,.cell D9],.own 121 oo,.own 3 (.int .i64),cI,cI],[],25,[]⟩
def adY (k:Nat) (g2:FP -> jw -> (List Int) -> Int -> Int -> Option zq) (a:BG) (b:ny) (c:List Int) (e f:Int):Option zq :=
 (bif decide (f<e) then
  ix c f <|
  ix a.2.2.2.2.2.2.2.2.1.2 (rd c f 0) <|
  ap b ([(rd a.2.2.2.2.2.2.2.2.1.2 (rd c f 0) bf).2.2.1]:List (Int×Int)) 16 fun r1 =>
  g2 a r1 c e (IntKind.i64.wrap (f+1))
 else
  some ((b,()),()))
def aoE (k:Nat) (g:((Unit)×y9×jw×(List Int)×Int×Int×Unit) -> Option zq) (d:(Unit)×y9×jw×(List Int)×Int×Int×Unit):Option zq:=adY k (fun a b c e f=>g ((),LH a,b,c,e,f,())) (Zh d.2.1) d.2.2.1 d.2.2.2.1 d.2.2.2.2.1 d.2.2.2.2.2.1
def adZ (k a:Nat) (b:BG) (c:ny) (e:List Int) (f h:Int):Option zq:=iter ai3 (aoE k) a ((),LH b,c,e,f,h,())
theorem ad1 (k a b c e f h):adZ k (a+1) b c e f h=adY k (adZ k a) b c e f h:=Ba _ _ _ _
def S48 (k:Nat) (a:BG):Option zq :=
 (aar k a.2.2.2.2.2.2.2.2.1).bind fun q0 =>
 adZ k k a ([]:List (Int×Int)) q0.1.1 (q0.1.1.length:Int) 0
def F48:Fn:=⟨[Zf],[.val ⟨false,(.sl 121 oo),true⟩],fun k x=>S48 k x.1⟩
theorem ok48:O 48 F48:=okF (ah ok107 aj) [(2,2)] (fun k=>(.loop 2 ai3 (aoE k) (fun g=>.nil) .nil)) Tryz.func48 rfl
def S59 (k:Nat) (a:Int×Int×Int×Int) (b:ny):Option jy :=
 (bif a.1==9 then
  some ((decide (a.2.1≥(b.length:Int)),()),())
 else
  some ((false,()),()))
def F59:Fn:=⟨[agK,.pv (.ref (.sl 121 oo))],[rB],fun k x=>S59 k x.1 x.2.1⟩
theorem ok59:O 59 F59:=okF aj [] On Tryz.func59 rfl
abbrev aas:Cut:=⟨[0,1,7,8],[.cell qb,.lJ 59 [.ref (.sl 121 oo)],cI,cI],[],19,[]⟩
def PY (k:Nat) (g2:(List jl) -> jw -> Int -> Int -> Option jk) (a:List jl) (b:ny) (c e:Int):Option jk :=
 (bif decide (e<c) then
  ix a e <|
  (S59 k (rd a e (0,0,0,0)) b).bind fun q0 =>
  (bif q0.1.1 then
   some ((e,()),())
  else
   g2 a b c (IntKind.i64.wrap (e+1)))
 else
  some (((-1),()),()))
def ad2 (k:Nat):Xx (((Unit)×(List jl)×(jw×Unit)×Int×Int×Unit) -> Option jk):=eu (dw (dh (d9 (dh dx) (dh (dh dx))))) (PY k)
def GY (k a:Nat) (b:List jl) (c:ny) (e f:Int):Option jk:=iter aas (ad2 k) a ((),b,(c,()),e,f,())
theorem Vh (k a b c e f):GY k (a+1) b c e f=PY k (GY k a) b c e f:=Ba _ _ _ _
def ad3 (k:Nat) (a:List jl) (b:ny):Option jk :=
 GY k k a b (a.length:Int) 0
def F130d:Fn:=⟨[DX,.pv (.lJ 59 [.ref (.sl 121 oo)])],[rI],fun k x=>ad3 k x.1 x.2.1.1⟩
theorem ok130d:O 130 F130d:=okF (ah ok59 aj) [] (fun k=>(.loop 2 aas (ad2 k) (fun g=>.nil) .nil)) Tryz.func130 rfl
def apR (k:Nat) (a:List jl) (b:ny):Option jy :=
 (ad3 k a b).bind fun q0 =>
 some ((decide (q0.1.1≥0),()),())
def F57c:Fn:=⟨[DX,.pv (.lJ 59 [.ref (.sl 121 oo)])],[rB],fun k x=>apR k x.1 x.2.1.1⟩
theorem ok57c:O 57 F57c:=okF (ah ok130d aj) [] On Tryz.func57 rfl
abbrev ai4:Cut:=⟨[0,1,11,12,13],[.pin false 0,.cell (.sl 121 oo),.own 3 (.int .i64),cI,cI],[.fK 42 [cI,cI,.cell pq,.own 168 CF,.cell .bool,.cell .bool,.cell .bool,.own 59 tq,.own 3 (.int .i64),.own 4 .bool,.own 142 IJ,.own 3 (.int .i64),.own 4 .bool]],55,[]⟩
def ad4 (k:Nat) (g1:FP -> jw -> (List Int) -> Int -> Int -> Option ((Unit)×y9×Unit)) (a:BG) (b:ny) (c:List Int) (e f:Int):Option ((Unit)×y9×Unit) :=
 (bif decide (f<e) then
  ix c f <|
  ix a.2.2.2.2.2.2.2.2.1.2 (rd c f 0) <|
  (bif decide (f<(b.length:Int)) then
   ix b f <|
   (bif !(fC oo (rd a.2.2.2.2.2.2.2.2.1.2 (rd c f 0) bf).2.2.1 (rd b f (0,0))) then
    ix b f <|
    (IK k a.2.2.2.2.2.2.2.2.1 (rd c f 0) ((rd a.2.2.2.2.2.2.2.2.1.2 (rd c f 0) bf).1,(rd a.2.2.2.2.2.2.2.2.1.2 (rd c f 0) bf).2.1,rd b f (0,0),(rd a.2.2.2.2.2.2.2.2.1.2 (rd c f 0) bf).2.2.2)).bind fun q1 =>
    g1 (w8 a q1.1.1) b c e (IntKind.i64.wrap (f+1))
   else
    g1 a b c e (IntKind.i64.wrap (f+1)))
  else
   g1 a b c e (IntKind.i64.wrap (f+1)))
 else
  some ((),LH a,()))
def aoF (k:Nat) (g:((y9×Unit)×Unit×jw×(List Int)×Int×Int×Unit) -> Option ((Unit)×y9×Unit)) (d:(y9×Unit)×Unit×jw×(List Int)×Int×Int×Unit):Option ((Unit)×y9×Unit):=ad4 k (fun a b c e f=>g ((LH a,()),(),b,c,e,f,())) (Zh d.1.1) d.2.2.1 d.2.2.2.1 d.2.2.2.2.1 d.2.2.2.2.2.1
def Vi (k a:Nat) (b:BG) (c:ny) (e:List Int) (f h:Int):Option ((Unit)×y9×Unit):=iter ai4 (aoF k) a ((LH b,()),(),c,e,f,h,())
theorem ad5 (k a b c e f h):Vi k (a+1) b c e f h=ad4 k (Vi k a) b c e f h:=Ba _ _ _ _
def S61 (k:Nat) (a:BG) (b:ny):Option ((Unit)×y9×Unit) :=
 (aar k a.2.2.2.2.2.2.2.2.1).bind fun q0 =>
 Vi k k a b q0.1.1 (q0.1.1.length:Int) 0
def F61:Fn:=⟨[.fK 42 [cI,cI,.cell pq,.own 168 CF,.cell .bool,.cell .bool,.cell .bool,.own 59 tq,.own 3 (.int .i64),.own 4 .bool,.own 142 IJ,.own 3 (.int .i64),.own 4 .bool],.val ⟨false,(.sl 121 oo),false⟩],[],fun k x=>S61 k (Zh x.1) x.2.1⟩
theorem ok61:O 61 F61:=okF (ah ok107 <| ah ok128 aj) [] (fun k=>(.loop 1 ai4 (aoF k) (fun g=>.nil) .nil)) Tryz.func61 rfl
abbrev ad6:Cut:=⟨[1,2,4,33,34],[.box 42 [cI,cI,.cell pq,.own 168 CF,.cell .bool,.cell .bool,.cell .bool,.own 59 tq,.own 3 (.int .i64),.own 4 .bool,.own 142 IJ,.own 3 (.int .i64),.own 4 .bool],.box 42 [cI,cI,.nil,.nil,.cell .bool,.cell .bool,.cell .bool,.nil,.nil,.nil,.nil,.nil,.nil],.box 118 [.own 121 oo],cI,cI],[],50,[]⟩
def Xw (k:Nat) (g12:FP -> Int -> Int -> Bool -> Bool -> Bool -> jw -> Int -> Int -> Option FT) (a:BG) (b c:Int) (e f h:Bool) (i:ny) (l m:Int):Option FT :=
 (bif decide (m<l) then
  (S60 k a.2.2.1 m).bind fun q4 =>
  ix i m <|
  g12 a b c e f h (upd i m (q4.1.1,(rd i m (0,0)).2)) l (IntKind.i64.wrap (m+1))
 else
  (S61 k a i).bind fun q5 =>
  some (((w4 (Zh q5.2.1) true),0,()),()))
def ai5 (k:Nat) (g:((Unit)×y9×NY×(jw×Unit)×Int×Int×Unit) -> Option FT) (d:(Unit)×y9×NY×(jw×Unit)×Int×Int×Unit):Option FT:=Xw k (fun a b c e f h i l m=>g ((),LH a,(b,c,(),(),e,f,h,(),(),(),(),(),(),()),(i,()),l,m,())) (Zh d.2.1) d.2.2.1.1 d.2.2.1.2.1 d.2.2.1.2.2.2.2.1 d.2.2.1.2.2.2.2.2.1 d.2.2.1.2.2.2.2.2.2.1 d.2.2.2.1.1 d.2.2.2.2.1 d.2.2.2.2.2.1
def Xy (k a:Nat) (b:BG) (c e:Int) (f h i:Bool) (l:ny) (m n:Int):Option FT:=iter ad6 (ai5 k) a ((),LH b,(c,e,(),(),f,h,i,(),(),(),(),(),(),()),(l,()),m,n,())
theorem aat (k a b c e f h i l m n):Xy k (a+1) b c e f h i l m n=Xw k (Xy k a) b c e f h i l m n:=Ba _ _ _ _
abbrev ai6:Cut:=⟨[1,2,4,16,17,18],[.box 42 [cI,cI,.cell pq,.own 168 CF,.cell .bool,.cell .bool,.cell .bool,.own 59 tq,.own 3 (.int .i64),.own 4 .bool,.own 142 IJ,.own 3 (.int .i64),.own 4 .bool],.box 42 [cI,cI,.nil,.nil,.cell .bool,.cell .bool,.cell .bool,.nil,.nil,.nil,.nil,.nil,.nil],.box 118 [.own 121 oo],.cell pq,cI,cI],[],50,[]⟩
def ad7 (k:Nat) (g6:FP -> Int -> Int -> Bool -> Bool -> Bool -> jw -> (List jr) -> Int -> Int -> Option FT) (a:BG) (b c:Int) (e f h:Bool) (i:ny) (l:List jr) (m n:Int):Option FT :=
 (bif decide (n<m) then
  ix l n <|
  (S58 k ([(rd l n bg).2.2.2.1,(rd l n bg).2.2.2.2.1]:List (List jl))).bind fun q2 =>
  (apR k q2.1.1 i).bind fun q3 =>
  (bif q3.1.1 then
   some ((a,4,()),())
  else
   g6 a b c e f h i l m (IntKind.i64.wrap (n+1)))
 else
  Xy k k a b c e f h i (i.length:Int) 0)
def aoG (k:Nat) (g:((Unit)×y9×NY×(jw×Unit)×(List jr)×Int×Int×Unit) -> Option FT) (d:(Unit)×y9×NY×(jw×Unit)×(List jr)×Int×Int×Unit):Option FT:=ad7 k (fun a b c e f h i l m n=>g ((),LH a,(b,c,(),(),e,f,h,(),(),(),(),(),(),()),(i,()),l,m,n,())) (Zh d.2.1) d.2.2.1.1 d.2.2.1.2.1 d.2.2.1.2.2.2.2.1 d.2.2.1.2.2.2.2.2.1 d.2.2.1.2.2.2.2.2.2.1 d.2.2.2.1.1 d.2.2.2.2.1 d.2.2.2.2.2.1 d.2.2.2.2.2.2.1
def ad8 (k a:Nat) (b:BG) (c e:Int) (f h i:Bool) (l:ny) (m:List jr) (n o:Int):Option FT:=iter ai6 (aoG k) a ((),LH b,(c,e,(),(),f,h,i,(),(),(),(),(),(),()),(l,()),m,n,o,())
theorem ad9 (k a b c e f h i l m n o):ad8 k (a+1) b c e f h i l m n o=ad7 k (ad8 k a) b c e f h i l m n o:=Ba _ _ _ _
def S23 (k:Nat) (a:BG):Option FT :=
 (S56 k a).bind fun q0 =>
 (bif q0.1.1.2.2.2.2.1 then
  some ((q0.1.1,7,()),())
 else
  (S48 k q0.1.1).bind fun q1 =>
  ad8 k k q0.1.1 0 0 false false false q1.1.1 q0.1.1.2.2.1 (q0.1.1.2.2.1.length:Int) 0)
def F23:Fn:=⟨[Zf],[.val ⟨true,acR,false⟩,rI],fun k x=>S23 k x.1⟩
theorem ok23:O 23 F23:=okF (ah ok48 <| ah ok56 <| ah ok57c <| ah ok58 <| ah ok60 <| ah ok61 aj) [] (fun k=>(.loop 12 ad6 (ai5 k) (fun g=>.nil) (.loop 6 ai6 (aoG k) (fun g=>.nil) .nil))) Tryz.func23 rfl
def S91 (k:Nat) (a:FQ):Option O4 :=
 (S23 k a.1).bind fun q0 =>
 (bif q0.1.2.1==0 then
  (S87 k (q0.1.1.2.2.1.length:Int)).bind fun q1 =>
  some ((),AU ((z9 q0.1.1 q1.1.1),a.2.1,a.2.2.1,q0.1.2.1,a.2.2.2.2),())
 else
  some ((),AU (w3 a q0.1.2.1),()))
def F91:Fn:=⟨[Zd],[],fun k x=>S91 k (pz x.1)⟩
theorem ok91:O 91 F91:=okF (ah ok23 <| ah ok87 aj) [] On Tryz.func91 rfl
def S92 (k:Nat) (a:FQ):Option O4 :=
 (S30 k a.1 a.2.1.2.2.2.1 a.2.1.2.2.2.2.1).bind fun q0 =>
 some ((),AU (q0.1.1,a.2.1,q0.1.2.1,q0.1.2.2.1,a.2.2.2.2),())
def F92:Fn:=⟨[Zd],[],fun k x=>S92 k (pz x.1)⟩
theorem ok92:O 92 F92:=okF (ah ok30 aj) [] On Tryz.func92 rfl
abbrev aea:Cut:=⟨[1,3,7,8],[.box 35 [.cell sw,.cell D9],.mp 432 true oo false .bool,cI,cI],[],26,[]⟩
def Xz (k:Nat) (g3:(List Int) -> (List Bool) -> (List Zc) -> Int -> Int -> Option Z6) (a:List Int) (b:List Bool) (c:List Zc) (e f:Int):Option Z6 :=
 (bif decide (f<e) then
  ix b f <|
  (bif rd b f false then
   ix a f <|
   g3 a b (vL oo .bool (f,rd a f 0) true c) e (IntKind.i64.wrap (f+1))
  else
   g3 a b c e (IntKind.i64.wrap (f+1)))
 else
  some ((c,()),()))
def ai7 (k:Nat):Xx (((Unit)×((List Int)×(List Bool)×Unit)×(List Zc)×Int×Int×Unit) -> Option Z6):=eu (dw (d9 (dh (dh dx)) (dh (dh (dh dx))))) (Xz k)
def XA (k a:Nat) (b:List Int) (c:List Bool) (e:List Zc) (f h:Int):Option Z6:=iter aea (ai7 k) a ((),(b,c,()),e,f,h,())
theorem aau (k a b c e f h):XA k (a+1) b c e f h=Xz k (XA k a) b c e f h:=Ba _ _ _ _
def apS (k:Nat) (a:QL):Option Z6 :=
 (aiY k a).bind fun q0 =>
 XA k k a.1 a.2 ([]:List Zc) q0.1.1 0
def F352:Fn:=⟨[QM],[.pv (.mp 432 true oo false .bool)],fun k x=>apS k x.1⟩
theorem ok352:O 352 F352:=okF (ah ok326 aj) [] (fun k=>(.loop 3 aea (ai7 k) (fun g=>.nil) .nil)) Tryz.func352 rfl
def ai8 (k:Nat) (a:QL) (b:Int×Int):Option jy :=
 (apS k a).bind fun q0 =>
 some ((Us oo .bool b q0.1.1 false,()),())
def F327:Fn:=⟨[QM,ah1],[rB],fun k x=>ai8 k x.1 x.2.1⟩
theorem ok327:O 327 F327:=okF (ah ok352 aj) [] On Tryz.func327 rfl
def agZ (k:Nat) (a:EZ×List qm) (b:Int×Int):Option D8 :=
 (ai8 k a.1 b).bind fun q0 =>
 (bif !q0.1.1 then
  some ((0,false,()),())
 else
  (ab3 k a b.1).bind fun q1 =>
  (bif !q1.1.1 then
   some ((0,false,()),())
  else
   some ((b.1,true,()),())))
def F253:Fn:=⟨[UY,ah1],[rI,rB],fun k x=>agZ k x.1 x.2.1⟩
theorem ok253:O 253 F253:=okF (ah ok186 <| ah ok327 aj) [] On Tryz.func253 rfl
def acd (k:Nat) (a:FQ) (b:Int):Option ((Int×qm×Bool×Unit)×aow×Unit) :=
 (agZ k a.1.2.2.2.2.2.2.2.2.1 a.2.1.2.2.1).bind fun q0 =>
 (bif !q0.1.2.1 then
  some ((0,bf,false,()),AU (w3 a 3),())
 else
  ix a.1.2.2.2.2.2.2.2.2.1.2 q0.1.1 <|
  (bif (rd a.1.2.2.2.2.2.2.2.2.1.2 q0.1.1 bf).1 != b then
   some ((0,bf,false,()),AU (w3 a 3),())
  else
   ix a.1.2.2.2.2.2.2.2.2.1.2 q0.1.1 <|
   some ((q0.1.1,rd a.1.2.2.2.2.2.2.2.2.1.2 q0.1.1 bf,true,()),AU a,())))
def F168:Fn:=⟨[Zd,au],[rI,.val ⟨true,IJ,false⟩,rB],fun k x=>acd k (pz x.1) x.2.1⟩
theorem ok168:O 168 F168:=okF (ah ok253 aj) [] On Tryz.func168 rfl
def ai9 (k:Nat) (a:(List Int)×List Int):Option ((((List Int)×List Int)×Unit)×Unit) :=
 (aac k a.1).bind fun q0 =>
 (FV k a.2).bind fun q1 =>
 some (((q0.1.1,q1.1.1),()),())
def F254:Fn:=⟨[apm],[.val ⟨true,(.pair IV sw),true⟩],fun k x=>ai9 k x.1⟩
theorem ok254:O 254 F254:=okF (ah ok219 <| ah ok287 aj) [] On Tryz.func254 rfl
def aja (k:Nat) (a:(List Int)×List Int) (b:Int):Option ((((List Int)×List Int)×Int×Bool×Unit)×Unit) :=
 (ai9 k a).bind fun q0 =>
 (bif decide ((q0.1.1.2.length:Int)>0) then
  ix q0.1.1.2 0 <|
  sx q0.1.1.2 1 (q0.1.1.2.length:Int) <|
  some (((q0.1.1.1,sub q0.1.1.2 1 (q0.1.1.2.length:Int)),rd q0.1.1.2 0 0,true,()),())
 else
  (bif decide ((q0.1.1.1.length:Int)≥4) then
   some ((q0.1.1,0,false,()),())
  else
   ap q0.1.1.1 ([b]:List Int) 8 fun r1 =>
   some (((r1,q0.1.1.2),0,true,()),())))
def F169:Fn:=⟨[apm,au],[aq7,rI,rB],fun k x=>aja k x.1 x.2.1⟩
theorem ok169:O 169 F169:=okF (ah ok254 aj) [] On Tryz.func169 rfl
def ajb (k:Nat) (a:FQ) (b c e:Int):Option O4 :=
 ap a.2.2.1 ([(a.1.1,12,0,b,c,e)]:List (PN Int 6)) 48 fun r0 =>
 some ((),AU (a.1,a.2.1,r0,a.2.2.2),())
def F170:Fn:=⟨[Zd,au,au,au],[],fun k x=>ajb k (pz x.1) x.2.1 x.2.2.1 x.2.2.2.1⟩
theorem ok170:O 170 F170:=okF aj [] On Tryz.func170 rfl
def S93 (k:Nat) (a:FQ):Option O4 :=
 (acd k a 2).bind fun q0 =>
 (bif !q0.1.2.2.1 then
  some ((),q0.2.1,())
 else
  (aja k q0.1.2.1.2.2.2.1 (pz q0.2.1).2.1.2.2.2.2.1).bind fun q1 =>
  (bif !q1.1.2.2.1 then
   some ((),AU (w3 (pz q0.2.1) 4),())
  else
   (bif decide (q1.1.2.1>0) then
    (ajb k (pz q0.2.1) q1.1.2.1 (pz q0.2.1).2.1.2.2.2.2.1 0).bind fun q2 =>
    (IK k (pz q2.2.1).1.2.2.2.2.2.2.2.2.1 q0.1.1 (w3 q0.1.2.1 q1.1.1)).bind fun q3 =>
    some ((),AU ((w8 (pz q2.2.1).1 q3.1.1),(pz q2.2.1).2),())
   else
    (IK k (pz q0.2.1).1.2.2.2.2.2.2.2.2.1 q0.1.1 (w3 q0.1.2.1 q1.1.1)).bind fun q4 =>
    some ((),AU ((w8 (pz q0.2.1).1 q4.1.1),(pz q0.2.1).2),()))))
def F93:Fn:=⟨[Zd],[],fun k x=>S93 k (pz x.1)⟩
theorem ok93:O 93 F93:=okF (ah ok128 <| ah ok168 <| ah ok169 <| ah ok170 aj) [] On Tryz.func93 rfl
abbrev aeb:Cut:=⟨[0,1,7,8],[.cell sw,cI,cI,cI],[],19,[]⟩
def M5 (k:Nat) (g2:(List Int) -> Int -> Int -> Int -> Option jk) (a:List Int) (b c e:Int):Option jk :=
 (bif decide (e<c) then
  ix a e <|
  (bif b==(rd a e 0) then
   some ((e,()),())
  else
   g2 a b c (IntKind.i64.wrap (e+1)))
 else
  some (((-1),()),()))
def ajc (k:Nat):Xx (((Unit)×(List Int)×Int×Int×Int×Unit) -> Option jk):=eu (dw (dh (dh (dh (dh dx))))) (M5 k)
def E9 (k a:Nat) (b:List Int) (c e f:Int):Option jk:=iter aeb (ajc k) a ((),b,c,e,f,())
theorem K9 (k a b c e f):E9 k (a+1) b c e f=M5 k (E9 k a) b c e f:=Ba _ _ _ _
def ace (k:Nat) (a:List Int) (b:Int):Option jk :=
 E9 k k a b (a.length:Int) 0
def F149:Fn:=⟨[WE,au],[rI],fun k x=>ace k x.1 x.2.1⟩
theorem ok149:O 149 F149:=okF aj [] (fun k=>(.loop 2 aeb (ajc k) (fun g=>.nil) .nil)) Tryz.func149 rfl
def apT (k:Nat) (a:List Int) (b:Int):Option jy :=
 (ace k a b).bind fun q0 =>
 some ((decide (q0.1.1≥0),()),())
def F255:Fn:=⟨[WE,au],[rB],fun k x=>apT k x.1 x.2.1⟩
theorem ok255:O 255 F255:=okF (ah ok149 aj) [] On Tryz.func255 rfl
def ajd (k:Nat) (a:(List Int)×List Int) (b:Int):Option ((((List Int)×List Int)×Int×Bool×Bool×Unit)×Unit) :=
 (ai9 k a).bind fun q0 =>
 (bif decide (b<1) then
  some ((q0.1.1,0,false,false,()),())
 else
  (bif decide ((q0.1.1.1.length:Int)>0) then
   ix q0.1.1.1 0 <|
   sx q0.1.1.1 1 (q0.1.1.1.length:Int) <|
   some (((sub q0.1.1.1 1 (q0.1.1.1.length:Int),q0.1.1.2),rd q0.1.1.1 0 0,true,true,()),())
  else
   (apT k q0.1.1.2 b).bind fun q1 =>
   (bif q1.1.1 then
    some ((q0.1.1,0,false,false,()),())
   else
    (bif decide ((q0.1.1.2.length:Int)≥4) then
     some ((q0.1.1,0,false,false,()),())
    else
     ap q0.1.1.2 ([b]:List Int) 8 fun r2 =>
     some (((q0.1.1.1,r2),0,false,true,()),())))))
def F171:Fn:=⟨[apm,au],[aq7,rI,rB,rB],fun k x=>ajd k x.1 x.2.1⟩
theorem ok171:O 171 F171:=okF (ah ok254 <| ah ok255 aj) [] On Tryz.func171 rfl
def S94 (k:Nat) (a:FQ):Option O4 :=
 (acd k a 2).bind fun q0 =>
 (bif !q0.1.2.2.1 then
  some ((),q0.2.1,())
 else
  (ajd k q0.1.2.1.2.2.2.1 (pz q0.2.1).2.1.2.2.2.1).bind fun q1 =>
  (bif !q1.1.2.2.2.1 then
   some ((),AU (w3 (pz q0.2.1) 1),())
  else
   (bif q1.1.2.2.1 then
    (IK k (pz q0.2.1).1.2.2.2.2.2.2.2.2.1 q0.1.1 (w3 q0.1.2.1 q1.1.1)).bind fun q2 =>
    some ((),AU (w0 (z5 (pz q0.2.1) q1.1.2.1) (w8 (pz q0.2.1).1 q2.1.1)),())
   else
    (IK k (pz q0.2.1).1.2.2.2.2.2.2.2.2.1 q0.1.1 (w3 q0.1.2.1 q1.1.1)).bind fun q3 =>
    some ((),AU ((w8 (pz q0.2.1).1 q3.1.1),(pz q0.2.1).2.1,(pz q0.2.1).2.2.1,16,(pz q0.2.1).2.2.2.2),()))))
def F94:Fn:=⟨[Zd],[],fun k x=>S94 k (pz x.1)⟩
theorem ok94:O 94 F94:=okF (ah ok128 <| ah ok168 <| ah ok171 aj) [] On Tryz.func94 rfl
abbrev aec:Cut:=⟨[4,5,15,16,17],[.box 138 [.cell (.int .u32),.own 266 EY],.own 266 EY,.cell (.sl 266 EY),cI,cI],[],49,[]⟩
def XB (k:Nat) (g3:Int -> jw -> jw -> jw -> Int -> Int -> Option Z4) (x:Int) (a b c:ny) (e f:Int):Option Z4 :=
 (bif decide (f<e) then
  ix c f <|
  (bif (Um .u32 x (rd c f (0,0)).2)==0 then
   ap a ([rd c f (0,0)]:List (Int×Int)) 16 fun r0 =>
   g3 x r0 b c e (IntKind.i64.wrap (f+1))
  else
   ap b ([((rd c f (0,0)).1,Um .u32 x (rd c f (0,0)).2)]:List (Int×Int)) 16 fun r1 =>
   g3 (Ru .u32 x (Um .u32 x (rd c f (0,0)).2)) a r1 c e (IntKind.i64.wrap (f+1)))
 else
  some (((x,a),b,()),()))
def aje (k:Nat):Xx (((Unit)×(Int×jw×Unit)×jw×jw×Int×Int×Unit) -> Option Z4):=eu (dw (d9 (dh (dh dx)) (dh (dh (dh (dh dx)))))) (XB k)
def XC (k a:Nat) (x:Int) (b c e:ny) (f h:Int):Option Z4:=iter aec (aje k) a ((),(x,b,()),c,e,f,h,())
theorem aav (k a x b c e f h):XC k (a+1) x b c e f h=XB k (XC k a) x b c e f h:=Ba _ _ _ _
def ajf (k:Nat) (a:Int×List (Int×Int)) (b:Int):Option Z4 :=
 XC k k (Uz .u32 a.1 b) ([]:List (Int×Int)) ([]:List (Int×Int)) a.2 (a.2.length:Int) 0
def F172:Fn:=⟨[.val ⟨true,(.pair (.int .u32) (.sl 266 EY)),false⟩,.val ⟨false,(.int .u32),false⟩],[.val ⟨true,(.pair (.int .u32) (.sl 266 EY)),true⟩,.val ⟨false,(.sl 266 EY),true⟩],fun k x=>ajf k x.1 x.2.1⟩
theorem ok172:O 172 F172:=okF aj [(4,2),(5,2)] (fun k=>(.loop 3 aec (aje k) (fun g=>.nil) .nil)) Tryz.func172 rfl
end
end Go.Proofs.YtjjjbcmjmkcedaaGreat.Ab
