import Derived.Test.YtjjjbcmjmkcedaaGreatPbI
import Derived.Lib.Overlaps
import Derived.Shelf.RegionOpenPlain
import Derived.Test.YtjjjbcmjmkcedaaGreatPbC
/- Contracts, printed by this session's own program gen.py. -/
set_option linter.unusedVariables false
set_option linter.unusedSimpArgs false
set_option maxRecDepth 100000
namespace Go.Proofs.YtjjjbcmjmkcedaaGreat.Ab
open Go.RowKit
abbrev cI:PV:=.cell (.int .i64)
abbrev jr:Type:=Int×Int×Int×(List (Int×Int×Int×Int))×(List (Int×Int×Int×Int))×List (Int×Int×Int×Int)
abbrev AJ:Ty:=.pair (.int .i64) (.pair (.int .i64) (.pair (.int .i64) (.pair (.sl 127 (.pair (.int .i64) (.pair (.int .i64) (.pair (.int .i64) (.int .i64))))) (.pair (.sl 127 (.pair (.int .i64) (.pair (.int .i64) (.pair (.int .i64) (.int .i64))))) (.sl 127 (.pair (.int .i64) (.pair (.int .i64) (.pair (.int .i64) (.int .i64)))))))))
abbrev FM:Type:=Int×Int×(List jr)×(List (PN Int 5))×Bool×Bool×Bool×(List (Int×Int×Int×Int×(Int×(PN Int 8)×(List (Int×Int×Int))×Bool)×(Int×(PN Int 8)×(List (Int×Int×Int))×Bool)×(List Int)×Bool))×(((List Int)×List Bool)×List (Int×(Int×Int)×(Int×Int)×((List Int)×List Int)×(Int×List (Int×Int))×Int))×(List Int)×List Bool
abbrev tu:Ty:=.pair (.int .i64) (.pair (.int .i64) (.pair (.int .i64) (.pair (.int .i64) (.pair (.pair (.int .i64) (.pair (Am 8 (.int .i64)) (.pair (.sl 293 (.pair (.int .i64) (.pair (.int .i64) (.int .i64)))) .bool))) (.pair (.pair (.int .i64) (.pair (Am 8 (.int .i64)) (.pair (.sl 293 (.pair (.int .i64) (.pair (.int .i64) (.int .i64)))) .bool))) (.pair (.sl 3 (.int .i64)) .bool))))))
abbrev AL:Type:=Int×Int×Int×Int×(Int×(PN Int 8)×(List (Int×Int×Int))×Bool)×(Int×(PN Int 8)×(List (Int×Int×Int))×Bool)×(List Int)×Bool
abbrev IG:Ty:=.pair (.int .i64) (.pair (.pair (.int .i64) (.int .i64)) (.pair (.pair (.int .i64) (.int .i64)) (.pair (.pair (.sl 2 (.int .i64)) (.sl 3 (.int .i64))) (.pair (.pair (.int .u32) (.sl 266 (.pair (.int .i64) (.int .u32)))) (.int .u32)))))
abbrev qo:Type:=Int×(Int×Int)×(Int×Int)×((List Int)×List Int)×(Int×List (Int×Int))×Int
abbrev p9:Ty:=.sl 127 (.pair (.int .i64) (.pair (.int .i64) (.pair (.int .i64) (.int .i64))))
abbrev jl:Type:=Int×Int×Int×Int
abbrev BD:Type:=Int×Int×(List jr)×(List (PN Int 5))×Bool×Bool×Bool×(List AL)×(((List Int)×List Bool)×List qo)×(List Int)×List Bool
abbrev y9:Type:=Int×Int×(List jr)×(List (PN Int 5))×Bool×Bool×Bool×(List AL)×(List Int)×(List Bool)×(List qo)×(List Int)×(List Bool)×Unit
abbrev acV:Ty:=.pair (.int .i64) (.pair (.int .i64) (.pair (.sl 54 AJ) (.pair (.sl 168 (Am 5 (.int .i64))) (.pair .bool (.pair .bool (.pair .bool (.pair (.sl 59 tu) (.pair (.pair (.pair (.sl 3 (.int .i64)) (.sl 4 .bool)) (.sl 142 IG)) (.pair (.sl 3 (.int .i64)) (.sl 4 .bool))))))))))
abbrev aoA:Type:=Int×Int×(List jr)×(List (PN Int 5))×Bool×Bool×Bool×(List AL)×(List Int)×(List Bool)×(List qo)×(List Int)×(List Bool)×Int×Int×Int×Int×(List jl)×(List jl)×(List jl)×Int×Int×Int×Int×Int×(List (PN Int 6))×Int×Int×Int×Int×Unit
abbrev jk:Type:=(Int×Unit)×Unit
abbrev qg:Type:=Int×Int×Int×Bool
abbrev jw:Type:=List (Int×Int)
abbrev ng:Ty:=.pair (.int .i64) (.int .i64)
abbrev jy:Type:=(Bool×Unit)×Unit
abbrev FN:Type:=FM×(Int×jr×(Int×Int)×Int×Int×Int)×(List (PN Int 6))×Int×(Int×Int)×Int
abbrev tq:Ty:=.sl 3 (.int .i64)
abbrev EX:Ty:=.pair (.int .i64) (.pair (.int .i64) (.pair (.int .i64) .bool))
abbrev qw:Type:=((List Int)×Unit)×Unit
abbrev NV:Type:=Int×Int×Unit×Unit×Bool×Bool×Bool×Unit×Unit×Unit×Unit×Unit×Unit×Unit
abbrev NW:Type:=(List jl) -> (List qg) -> (List Int) -> (List qg) -> Int -> Int -> Option jy
abbrev D6:Type:=(Int×Int×Int×Unit)×Unit
abbrev IL:Type:=((List jr)×(List (PN Int 5))×Int×Unit)×Unit
abbrev ahW:Type:=((List Int)×List Bool)×List qo
abbrev YW:Type:=Int×(PN Int 8)×(List (Int×Int×Int))×Bool
abbrev EY:Type:=List (PN Bool 24)
abbrev JZ:Type:=Int×Int×Int×(List jl)×(List jl)×List jl
abbrev ahX:Ty:=.pair tq (.sl 4 .bool)
abbrev oh:Type:=List (Int×Int)
abbrev UJ:Type:=(List jr) -> Int -> Int -> jw -> (List jr) -> Int -> Int -> Option jk
abbrev UK:Ty:=.pair (.int .i64) (.pair (.int .i64) ng)
abbrev YX:Type:=Int×(Int×Int)×(Int×Int)×((List Int)×List Int)×(Int×List (Int×Int))×Int
abbrev zq:Type:=(jw×Unit)×Unit
abbrev YZ:Type:=(List jl) -> EY -> (List qg) -> Int -> Int -> Option ((EY×Unit)×Unit)
abbrev C8:Ty:=Am 5 (.int .i64)
abbrev C9:Ty:=.pair (.int .i64) (.int .u32)
abbrev D7:Type:=(Int×Bool×Unit)×Unit
abbrev Z0:Type:=(List jr) -> Int -> Int -> Int -> Int -> Int -> Int -> Bool -> Option D6
abbrev ahY:Type:=(List jl) -> (List Int) -> (List Int) -> (List ((PN Bool 24)×Int)) -> EY -> EY -> Int -> Int -> Option (((List Int)×Bool×Unit)×Unit)
abbrev pq:Ty:=.sl 54 AJ
abbrev FP:Type:=((List jl)×Unit)×Unit
abbrev Z4:Type:=((Int×Int×List (Int×Int))×Bool×Unit)×Unit
abbrev FQ:Type:=(FM×Int×Unit)×Unit
abbrev Z5:Type:=((Int×List (Int×Int))×jw×Unit)×Unit
abbrev UL:Type:=Int -> (List Int) -> Int -> Int -> Option jk
abbrev Z6:Type:=(ahW×(Int×Int)×Bool×Unit)×Unit
abbrev Z7:Type:=((List ((Int×Int)×Bool))×Unit)×Unit
abbrev Z8:Type:=(List Int) -> (List jl) -> Int -> Int -> Option qw
abbrev ahZ:Type:=(List jr) -> Int -> Int -> jw -> (List jr) -> Int -> Int -> jw -> Int -> Int -> Option jk
abbrev FR:Type:=List (PN Int 5)
abbrev EZ:Type:=(List Int)×List Bool
abbrev Z9:Type:=Int×Unit
abbrev aoB:Ty:=.pair ahX (.sl 142 IG)
abbrev uz:Type:=List qg
abbrev aoC:Type:=Int×Int×Int×(List jl)×(List jl)×(List jl)×Unit
abbrev F6:Type:=(FM×Unit)×Unit
abbrev D8:Ty:=.sl 4 .bool
abbrev Za:Type:=Int×jr×(Int×Int)×Int×Int×Int
abbrev acW:Type:=Int×Int×Int×Int×YW×YW×(List Int)×Bool
abbrev NY:Type:=(EY×Unit)×Unit
abbrev Zb:Type:=((List Int)×Bool×Unit)×Unit
abbrev IQ:Ty:=.sl 2 (.int .i64)
abbrev ah1:Type:=Int×Int×Int×Bool×Unit
abbrev acX:Ty:=Am 6 (.int .i64)
abbrev QH:Type:=(ahW×Unit)×Unit
abbrev NZ:Type:=(Unit)×aoA×Unit
abbrev aoD:Type:=(List Int)×(List Bool)×(List qo)×Unit
abbrev Zc:Type:=(FR×Int×Unit)×Unit
abbrev ah2:Type:=((Unit)×(List jl)×Unit×Int×Int×Unit) -> Option jk
abbrev BF:Ty:=Am 24 .bool
abbrev O1:Ty:=.sl 142 IG
abbrev acY:Type:=Int×Bool×Unit
abbrev BG:Type:=PN Bool 24
abbrev QI:Type:=(List Int)×List Bool
abbrev Zd:Ty:=.sl 168 C8
abbrev UM:Type:=List (List jl)
abbrev Ze:Type:=(Int×Int)×Bool
abbrev Zf:PT:=.fK 175 [cI,cI,.cell pq,.cell Zd,.cell .bool,.cell .bool,.cell .bool,.cell (.sl 59 tu),.cell tq,.cell D8,.cell O1,.cell tq,.cell D8,cI,cI,cI,cI,.cell p9,.cell p9,.cell p9,cI,cI,cI,cI,.cell (.int .u32),.own 51 acX,cI,cI,cI,cI]
abbrev aq3:PT:=.pv (.lJ 271 [.ref p9,.ref (.int .i64)])
abbrev apn:PT:=.val ⟨true,(.pair IQ tq),false⟩
abbrev aq4:RT:=.val ⟨true,(.pair IQ tq),false⟩
abbrev apo:RT:=.val ⟨false,(.sl 378 ng),true⟩
abbrev Wz:PT:=.val ⟨false,tq,false⟩
abbrev Zg:PT:=.val ⟨false,pq,false⟩
abbrev agN:PT:=.val ⟨true,UK,false⟩
abbrev DX:PT:=.val ⟨false,p9,false⟩
abbrev ah3:PT:=.val ⟨true,EX,false⟩
abbrev ah4:RT:=.val ⟨false,tq,true⟩
abbrev UN:PT:=.val ⟨true,aoB,false⟩
abbrev QJ:PT:=.val ⟨true,ahX,false⟩
abbrev Zh:PT:=.val ⟨true,acV,false⟩
abbrev ah5:PT:=.val ⟨true,ng,false⟩
abbrev UO:RT:=.val ⟨true,ahX,true⟩
abbrev acZ:RT:=.val ⟨true,aoB,true⟩
abbrev ac0:RT:=.val ⟨true,acV,true⟩
abbrev UQ:PT:=.val ⟨true,AJ,false⟩
abbrev ac1:PT:=.val ⟨true,IG,false⟩
abbrev Zi:PT:=.pv (.ref (.int .i64))
noncomputable section
def E0:Env:=tab.env (fun _=>none) (fun _=>0)
theorem IU:aH Tryz.prog E0:=Kw Rt _ _ (fun f F h=>by cases h)
theorem okF {f:FuncId} {fn:Func} {F:Fn} {C:Code} {l:List (Nat×Fn)} (hl:Gu Tryz.prog l) (h:List (Nat×Nat)) (T:Nat -> rV (RD F.rs×MD F.ps)) (hf:Tryz.prog.funcs[f]? = some fn) (hb:fn.body=some C)
(h1:(fn.name == "runtime.NumGoroutine")=false:=by kernel_rfl) (h2:Nat.ble F.ps.length fn.ntmps=true:=by kernel_rfl)
(h3:∀ k,Bw (tab.env (lk l) (Rv h)) fn F.ps F.rs k true (T k)=Bw (tab.env (lk l) (Rv h)) fn F.ps F.rs k false (T k):=by intro k;kernel_rfl) (h4:∀ k x,F.sem k x=Gr (tab.env (lk l) (Rv h)) fn F.ps F.rs k (T k) x:=by intro k x;kernel_rfl):uO Tryz.prog f F :=
Kt (Kw Rt _ _ (Dm hl)) mix hf hb h1 h2 h3 h4
def Xx (A:Type):Type:=A -> A
abbrev O (f:Nat) (F:Fn):Prop:=uO Tryz.prog f F
theorem ah {f:Nat} {F:Fn} {l:List (Nat×Fn)} (h:O f F) (t:Gu Tryz.prog l):Gu Tryz.prog ((f,F)::l):=⟨h,t⟩
theorem aj:Gu Tryz.prog []:=trivial
abbrev On {A:Type}:Nat -> rV A:=fun _=>.nil
abbrev au:PT:=.val ⟨false,.int .i64,false⟩
abbrev rI:RT:=.val ⟨false,.int .i64,true⟩
abbrev rB:RT:=.val ⟨false,.bool,true⟩
abbrev ay:Int×Int×Int×Int×(Int×(PN Int 8)×(List (Int×Int×Int))×Bool)×(Int×(PN Int 8)×(List (Int×Int×Int))×Bool)×(List Int)×Bool:=(0,0,0,0,(0,Qn (α:=Int) 8 0,[],false),(0,Qn (α:=Int) 8 0,[],false),[],false)
abbrev bf:Int×(Int×Int)×(Int×Int)×((List Int)×List Int)×(Int×List (Int×Int))×Int:=(0,(0,0),(0,0),([],[]),(0,[]),0)
abbrev bg:Int×Int×Int×(List (Int×Int×Int×Int))×(List (Int×Int×Int×Int))×List (Int×Int×Int×Int):=(0,0,0,[],[],[])
abbrev bn:Int×(Int×Int×Int×(List (Int×Int×Int×Int))×(List (Int×Int×Int×Int))×List (Int×Int×Int×Int))×(Int×Int)×Int×Int×Int:=(0,(0,0,0,[],[],[]),(0,0),0,0,0)
abbrev bq:Int×(Int×(Int×Int×Int×(List (Int×Int×Int×Int))×(List (Int×Int×Int×Int))×List (Int×Int×Int×Int))×(Int×Int)×Int×Int×Int)×Int×Int:=(0,(0,(0,0,0,[],[],[]),(0,0),0,0,0),0,0)
def w0 { X Y Z:Type} (a:X×Z) (x:Y):Y×Z:=(x,a.2)
def w2 {A0 A1 X Y Z:Type} (a:A0×A1×X×Z) (x:Y):A0×A1×Y×Z:=(a.1,a.2.1,x,a.2.2.2)
def w3 {A0 A1 A2 X Y Z:Type} (a:A0×A1×A2×X×Z) (x:Y):A0×A1×A2×Y×Z:=(a.1,a.2.1,a.2.2.1,x,a.2.2.2.2)
def w4 {A0 A1 A2 A3 X Y Z:Type} (a:A0×A1×A2×A3×X×Z) (x:Y):A0×A1×A2×A3×Y×Z:=(a.1,a.2.1,a.2.2.1,a.2.2.2.1,x,a.2.2.2.2.2)
def w5 {A0 A1 A2 A3 A4 X Y Z:Type} (a:A0×A1×A2×A3×A4×X×Z) (x:Y):A0×A1×A2×A3×A4×Y×Z:=(a.1,a.2.1,a.2.2.1,a.2.2.2.1,a.2.2.2.2.1,x,a.2.2.2.2.2.2)
def w6 {A0 A1 A2 A3 A4 A5 X Y Z:Type} (a:A0×A1×A2×A3×A4×A5×X×Z) (x:Y):A0×A1×A2×A3×A4×A5×Y×Z:=(a.1,a.2.1,a.2.2.1,a.2.2.2.1,a.2.2.2.2.1,a.2.2.2.2.2.1,x,a.2.2.2.2.2.2.2)
def w7 {A0 A1 A2 A3 A4 A5 A6 X Y Z:Type} (a:A0×A1×A2×A3×A4×A5×A6×X×Z) (x:Y):A0×A1×A2×A3×A4×A5×A6×Y×Z:=(a.1,a.2.1,a.2.2.1,a.2.2.2.1,a.2.2.2.2.1,a.2.2.2.2.2.1,a.2.2.2.2.2.2.1,x,a.2.2.2.2.2.2.2.2)
def w8 {A0 A1 A2 A3 A4 A5 A6 A7 X Y Z:Type} (a:A0×A1×A2×A3×A4×A5×A6×A7×X×Z) (x:Y):A0×A1×A2×A3×A4×A5×A6×A7×Y×Z:=(a.1,a.2.1,a.2.2.1,a.2.2.2.1,a.2.2.2.2.1,a.2.2.2.2.2.1,a.2.2.2.2.2.2.1,a.2.2.2.2.2.2.2.1,x,a.2.2.2.2.2.2.2.2.2)
def z5 {A0 A1 A2 A3 A4 Y Z:Type} (a:A0×A1×A2×A3×A4×Z) (x:Y):A0×A1×A2×A3×A4×Y:=(a.1,a.2.1,a.2.2.1,a.2.2.2.1,a.2.2.2.2.1,x)
def z7 {A0 A1 A2 A3 A4 A5 A6 Y Z:Type} (a:A0×A1×A2×A3×A4×A5×A6×Z) (x:Y):A0×A1×A2×A3×A4×A5×A6×Y:=(a.1,a.2.1,a.2.2.1,a.2.2.2.1,a.2.2.2.2.1,a.2.2.2.2.2.1,a.2.2.2.2.2.2.1,x)
def z9 {A0 A1 A2 A3 A4 A5 A6 A7 A8 Y Z:Type} (a:A0×A1×A2×A3×A4×A5×A6×A7×A8×Z) (x:Y):A0×A1×A2×A3×A4×A5×A6×A7×A8×Y:=(a.1,a.2.1,a.2.2.1,a.2.2.2.1,a.2.2.2.2.1,a.2.2.2.2.2.1,a.2.2.2.2.2.2.1,a.2.2.2.2.2.2.2.1,a.2.2.2.2.2.2.2.2.1,x)
structure Iso (T R F:Type) where
 un:F -> T -> R
 cu:(T -> R) -> F
def dh {A T R F:Type} (s:Iso T R F):Iso (A×T) R (A -> F):=⟨fun f x=>s.un (f x.1) x.2,fun g a=>s.cu fun t=>g (a,t)⟩
def dw {T R F:Type} (s:Iso T R F):Iso (Unit×T) R F:=⟨fun f x=>s.un f x.2,fun g=>s.cu fun t=>g ((),t)⟩
def dx {R:Type}:Iso Unit R R:=⟨fun f _=>f,fun g=>g ()⟩
def dz {A R:Type}:Iso A R (A -> R):=⟨fun f=>f,fun g=>g⟩
def d9 {S T R F G:Type} (a:Iso S F G) (b:Iso T R F):Iso (S×T) R G:=⟨fun f x=>b.un (a.un f x.1) x.2,fun g=>a.cu fun x=>b.cu fun t=>g (x,t)⟩
def eu {T R F:Type} (s:Iso T R F) (f:F -> F) (g:T -> R):T -> R:=s.un (f (s.cu g))
def pz (d:Int×Int×(List jr)×FR×Bool×Bool×Bool×(List AL)×(List Int)×(List Bool)×(List qo)×(List Int)×(List Bool)×Int×Int×Int×Int×(List jl)×(List jl)×(List jl)×Int×Int×Int×Int×Int×(List (PN Int 6))×Int×Int×Int×Int×Unit):FM×Za×(List (PN Int 6))×Int×(Int×Int)×Int:=((d.1,d.2.1,d.2.2.1,d.2.2.2.1,d.2.2.2.2.1,d.2.2.2.2.2.1,d.2.2.2.2.2.2.1,d.2.2.2.2.2.2.2.1,((d.2.2.2.2.2.2.2.2.1,d.2.2.2.2.2.2.2.2.2.1),d.2.2.2.2.2.2.2.2.2.2.1),d.2.2.2.2.2.2.2.2.2.2.2.1,d.2.2.2.2.2.2.2.2.2.2.2.2.1),(d.2.2.2.2.2.2.2.2.2.2.2.2.2.1,(d.2.2.2.2.2.2.2.2.2.2.2.2.2.2.1,d.2.2.2.2.2.2.2.2.2.2.2.2.2.2.2.1,d.2.2.2.2.2.2.2.2.2.2.2.2.2.2.2.2.1,d.2.2.2.2.2.2.2.2.2.2.2.2.2.2.2.2.2.1,d.2.2.2.2.2.2.2.2.2.2.2.2.2.2.2.2.2.2.1,d.2.2.2.2.2.2.2.2.2.2.2.2.2.2.2.2.2.2.2.1),(d.2.2.2.2.2.2.2.2.2.2.2.2.2.2.2.2.2.2.2.2.1,d.2.2.2.2.2.2.2.2.2.2.2.2.2.2.2.2.2.2.2.2.2.1),d.2.2.2.2.2.2.2.2.2.2.2.2.2.2.2.2.2.2.2.2.2.2.1,d.2.2.2.2.2.2.2.2.2.2.2.2.2.2.2.2.2.2.2.2.2.2.2.1,d.2.2.2.2.2.2.2.2.2.2.2.2.2.2.2.2.2.2.2.2.2.2.2.2.1),d.2.2.2.2.2.2.2.2.2.2.2.2.2.2.2.2.2.2.2.2.2.2.2.2.2.1,d.2.2.2.2.2.2.2.2.2.2.2.2.2.2.2.2.2.2.2.2.2.2.2.2.2.2.1,(d.2.2.2.2.2.2.2.2.2.2.2.2.2.2.2.2.2.2.2.2.2.2.2.2.2.2.2.1,d.2.2.2.2.2.2.2.2.2.2.2.2.2.2.2.2.2.2.2.2.2.2.2.2.2.2.2.2.1),d.2.2.2.2.2.2.2.2.2.2.2.2.2.2.2.2.2.2.2.2.2.2.2.2.2.2.2.2.2.1)
def AU (x:FN):Int×Int×(List jr)×FR×Bool×Bool×Bool×(List AL)×(List Int)×(List Bool)×(List qo)×(List Int)×(List Bool)×Int×Int×Int×Int×(List jl)×(List jl)×(List jl)×Int×Int×Int×Int×Int×(List (PN Int 6))×Int×Int×Int×Int×Unit:=(x.1.1,x.1.2.1,x.1.2.2.1,x.1.2.2.2.1,x.1.2.2.2.2.1,x.1.2.2.2.2.2.1,x.1.2.2.2.2.2.2.1,x.1.2.2.2.2.2.2.2.1,x.1.2.2.2.2.2.2.2.2.1.1.1,x.1.2.2.2.2.2.2.2.2.1.1.2,x.1.2.2.2.2.2.2.2.2.1.2,x.1.2.2.2.2.2.2.2.2.2.1,x.1.2.2.2.2.2.2.2.2.2.2,x.2.1.1,x.2.1.2.1.1,x.2.1.2.1.2.1,x.2.1.2.1.2.2.1,x.2.1.2.1.2.2.2.1,x.2.1.2.1.2.2.2.2.1,x.2.1.2.1.2.2.2.2.2,x.2.1.2.2.1.1,x.2.1.2.2.1.2,x.2.1.2.2.2.1,x.2.1.2.2.2.2.1,x.2.1.2.2.2.2.2,x.2.2.1,x.2.2.2.1,x.2.2.2.2.1.1,x.2.2.2.2.1.2,x.2.2.2.2.2,())
theorem vrA (x:FN):pz (AU x)=x:=rfl
def tvJ (d:Int×Int×Int×Int×Int×Int×Int×Int×Int×Int×Int×Int×Int×(List (Int×Int×Int))×Bool×Int×Int×Int×Int×Int×Int×Int×Int×Int×(List (Int×Int×Int))×Bool×(List Int)×Bool×Unit):Int×Int×Int×Int×YW×YW×(List Int)×Bool:=(d.1,d.2.1,d.2.2.1,d.2.2.2.1,(d.2.2.2.2.1,(d.2.2.2.2.2.1,d.2.2.2.2.2.2.1,d.2.2.2.2.2.2.2.1,d.2.2.2.2.2.2.2.2.1,d.2.2.2.2.2.2.2.2.2.1,d.2.2.2.2.2.2.2.2.2.2.1,d.2.2.2.2.2.2.2.2.2.2.2.1,d.2.2.2.2.2.2.2.2.2.2.2.2.1),d.2.2.2.2.2.2.2.2.2.2.2.2.2.1,d.2.2.2.2.2.2.2.2.2.2.2.2.2.2.1),(d.2.2.2.2.2.2.2.2.2.2.2.2.2.2.2.1,(d.2.2.2.2.2.2.2.2.2.2.2.2.2.2.2.2.1,d.2.2.2.2.2.2.2.2.2.2.2.2.2.2.2.2.2.1,d.2.2.2.2.2.2.2.2.2.2.2.2.2.2.2.2.2.2.1,d.2.2.2.2.2.2.2.2.2.2.2.2.2.2.2.2.2.2.2.1,d.2.2.2.2.2.2.2.2.2.2.2.2.2.2.2.2.2.2.2.2.1,d.2.2.2.2.2.2.2.2.2.2.2.2.2.2.2.2.2.2.2.2.2.1,d.2.2.2.2.2.2.2.2.2.2.2.2.2.2.2.2.2.2.2.2.2.2.1,d.2.2.2.2.2.2.2.2.2.2.2.2.2.2.2.2.2.2.2.2.2.2.2.1),d.2.2.2.2.2.2.2.2.2.2.2.2.2.2.2.2.2.2.2.2.2.2.2.2.1,d.2.2.2.2.2.2.2.2.2.2.2.2.2.2.2.2.2.2.2.2.2.2.2.2.2.1),d.2.2.2.2.2.2.2.2.2.2.2.2.2.2.2.2.2.2.2.2.2.2.2.2.2.2.1,d.2.2.2.2.2.2.2.2.2.2.2.2.2.2.2.2.2.2.2.2.2.2.2.2.2.2.2.1)
def trJ (x:acW):Int×Int×Int×Int×Int×Int×Int×Int×Int×Int×Int×Int×Int×(List (Int×Int×Int))×Bool×Int×Int×Int×Int×Int×Int×Int×Int×Int×(List (Int×Int×Int))×Bool×(List Int)×Bool×Unit:=(x.1,x.2.1,x.2.2.1,x.2.2.2.1,x.2.2.2.2.1.1,x.2.2.2.2.1.2.1.1,x.2.2.2.2.1.2.1.2.1,x.2.2.2.2.1.2.1.2.2.1,x.2.2.2.2.1.2.1.2.2.2.1,x.2.2.2.2.1.2.1.2.2.2.2.1,x.2.2.2.2.1.2.1.2.2.2.2.2.1,x.2.2.2.2.1.2.1.2.2.2.2.2.2.1,x.2.2.2.2.1.2.1.2.2.2.2.2.2.2,x.2.2.2.2.1.2.2.1,x.2.2.2.2.1.2.2.2,x.2.2.2.2.2.1.1,x.2.2.2.2.2.1.2.1.1,x.2.2.2.2.2.1.2.1.2.1,x.2.2.2.2.2.1.2.1.2.2.1,x.2.2.2.2.2.1.2.1.2.2.2.1,x.2.2.2.2.2.1.2.1.2.2.2.2.1,x.2.2.2.2.2.1.2.1.2.2.2.2.2.1,x.2.2.2.2.2.1.2.1.2.2.2.2.2.2.1,x.2.2.2.2.2.1.2.1.2.2.2.2.2.2.2,x.2.2.2.2.2.1.2.2.1,x.2.2.2.2.2.1.2.2.2,x.2.2.2.2.2.2.1,x.2.2.2.2.2.2.2,())
theorem vrJ (x:acW):tvJ (trJ x)=x:=rfl
def tvK (d:Int×Int×(List jr)×FR×Bool×Bool×Bool×(List AL)×(List Int)×(List Bool)×(List qo)×(List Int)×(List Bool)×Unit):Int×Int×(List jr)×FR×Bool×Bool×Bool×(List AL)×ahW×(List Int)×List Bool:=(d.1,d.2.1,d.2.2.1,d.2.2.2.1,d.2.2.2.2.1,d.2.2.2.2.2.1,d.2.2.2.2.2.2.1,d.2.2.2.2.2.2.2.1,((d.2.2.2.2.2.2.2.2.1,d.2.2.2.2.2.2.2.2.2.1),d.2.2.2.2.2.2.2.2.2.2.1),d.2.2.2.2.2.2.2.2.2.2.2.1,d.2.2.2.2.2.2.2.2.2.2.2.2.1)
def OT (x:BD):Int×Int×(List jr)×FR×Bool×Bool×Bool×(List AL)×(List Int)×(List Bool)×(List qo)×(List Int)×(List Bool)×Unit:=(x.1,x.2.1,x.2.2.1,x.2.2.2.1,x.2.2.2.2.1,x.2.2.2.2.2.1,x.2.2.2.2.2.2.1,x.2.2.2.2.2.2.2.1,x.2.2.2.2.2.2.2.2.1.1.1,x.2.2.2.2.2.2.2.2.1.1.2,x.2.2.2.2.2.2.2.2.1.2,x.2.2.2.2.2.2.2.2.2.1,x.2.2.2.2.2.2.2.2.2.2,())
theorem vrK (x:BD):tvK (OT x)=x:=rfl
def tvP (d:Int×Int×Int×Int×Int×(List jl)×(List jl)×(List jl)×Int×Int×Int×Int×Int×Int×Int×Unit):Int×Za×Int×Int:=(d.1,(d.2.1,(d.2.2.1,d.2.2.2.1,d.2.2.2.2.1,d.2.2.2.2.2.1,d.2.2.2.2.2.2.1,d.2.2.2.2.2.2.2.1),(d.2.2.2.2.2.2.2.2.1,d.2.2.2.2.2.2.2.2.2.1),d.2.2.2.2.2.2.2.2.2.2.1,d.2.2.2.2.2.2.2.2.2.2.2.1,d.2.2.2.2.2.2.2.2.2.2.2.2.1),d.2.2.2.2.2.2.2.2.2.2.2.2.2.1,d.2.2.2.2.2.2.2.2.2.2.2.2.2.2.1)
def trP (x:Int×Za×Int×Int):Int×Int×Int×Int×Int×(List jl)×(List jl)×(List jl)×Int×Int×Int×Int×Int×Int×Int×Unit:=(x.1,x.2.1.1,x.2.1.2.1.1,x.2.1.2.1.2.1,x.2.1.2.1.2.2.1,x.2.1.2.1.2.2.2.1,x.2.1.2.1.2.2.2.2.1,x.2.1.2.1.2.2.2.2.2,x.2.1.2.2.1.1,x.2.1.2.2.1.2,x.2.1.2.2.2.1,x.2.1.2.2.2.2.1,x.2.1.2.2.2.2.2,x.2.2.1,x.2.2.2,())
theorem vrP (x:Int×Za×Int×Int):tvP (trP x)=x:=rfl
def uo (d:Int×Int×(List jr)×FR×Bool×Bool×Bool×(List AL)×(List Int)×(List Bool)×(List qo)×(List Int)×(List Bool)×(List (PN Int 6))×Unit):FM×List (PN Int 6):=((d.1,d.2.1,d.2.2.1,d.2.2.2.1,d.2.2.2.2.1,d.2.2.2.2.2.1,d.2.2.2.2.2.2.1,d.2.2.2.2.2.2.2.1,((d.2.2.2.2.2.2.2.2.1,d.2.2.2.2.2.2.2.2.2.1),d.2.2.2.2.2.2.2.2.2.2.1),d.2.2.2.2.2.2.2.2.2.2.2.1,d.2.2.2.2.2.2.2.2.2.2.2.2.1),d.2.2.2.2.2.2.2.2.2.2.2.2.2.1)
def y7 (x:FM×List (PN Int 6)):Int×Int×(List jr)×FR×Bool×Bool×Bool×(List AL)×(List Int)×(List Bool)×(List qo)×(List Int)×(List Bool)×(List (PN Int 6))×Unit:=(x.1.1,x.1.2.1,x.1.2.2.1,x.1.2.2.2.1,x.1.2.2.2.2.1,x.1.2.2.2.2.2.1,x.1.2.2.2.2.2.2.1,x.1.2.2.2.2.2.2.2.1,x.1.2.2.2.2.2.2.2.2.1.1.1,x.1.2.2.2.2.2.2.2.2.1.1.2,x.1.2.2.2.2.2.2.2.2.1.2,x.1.2.2.2.2.2.2.2.2.2.1,x.1.2.2.2.2.2.2.2.2.2.2,x.2,())
theorem YU (x:FM×List (PN Int 6)):uo (y7 x)=x:=rfl
def OU (k:Nat) (a:Int×jr×(Int×Int)×Int×Int×Int):Option (((Int×Za×Int×Int)×Unit)×Unit) :=
 some (((1,a,0,0),()),())
def F40:Fn:=⟨[.val ⟨true,(.pair (.int .i64) (.pair AJ (.pair ng (.pair (.int .i64) C9)))),false⟩],[.val ⟨true,(.pair (.int .i64) (.pair (.pair (.int .i64) (.pair AJ (.pair ng (.pair (.int .i64) C9)))) ng)),false⟩],fun k x=>OU k x.1⟩
theorem ok40:O 40 F40:=okF aj [] On Tryz.func40 rfl
def aq5 (k:Nat) (a:Int):Option ((EZ×Unit)×Unit) :=
 mk (mn (mx a 0) 64) (mn (mx a 0) 64) 8 <|
 mk (mn (mx a 0) 64) (mn (mx a 0) 64) 1 <|
 some (((List.replicate (mn (mx a 0) 64).toNat (0:Int),List.replicate (mn (mx a 0) 64).toNat (false:Bool)),()),())
def F164:Fn:=⟨[au],[UO],fun k x=>aq5 k x.1⟩
theorem ok164:O 164 F164:=okF aj [] On Tryz.func164 rfl
def S86 (k:Nat):Option QH :=
 (aq5 k 12).bind fun q0 =>
 mk 12 12 128 <|
 some (((q0.1.1,List.replicate 12 (bf:YX)),()),())
def F86:Fn:=⟨[],[acZ],fun k x=>S86 k ⟩
theorem ok86:O 86 F86:=okF (ah ok164 aj) [] On Tryz.func86 rfl
def S87 (k:Nat) (a:Int):Option ((EZ×Unit)×Unit) :=
 mk (mn (mx a 0) 65536) (mn (mx a 0) 65536) 8 <|
 mk (mn (mx a 0) 65536) (mn (mx a 0) 65536) 1 <|
 some (((List.replicate (mn (mx a 0) 65536).toNat (0:Int),List.replicate (mn (mx a 0) 65536).toNat (false:Bool)),()),())
def F87:Fn:=⟨[au],[UO],fun k x=>S87 k x.1⟩
theorem ok87:O 87 F87:=okF aj [] On Tryz.func87 rfl
def S36 (k:Nat) (a:Int):Option ((FM×Bool×Unit)×Unit) :=
 (bif decide (a<1) then
  some (((0,0,[],[],false,false,false,[],(([],[]),[]),[],[]),false,()),())
 else
  (bif decide (a>4611686018427387904) then
   some (((0,0,[],[],false,false,false,[],(([],[]),[]),[],[]),false,()),())
  else
   (S86 k).bind fun q0 =>
   (S87 k 0).bind fun q1 =>
   some (((0,a,[],[],false,false,false,[],q0.1.1,q1.1.1),true,()),())))
def F36:Fn:=⟨[au],[ac0,rB],fun k x=>S36 k x.1⟩
theorem ok36:O 36 F36:=okF (ah ok86 <| ah ok87 aj) [] On Tryz.func36 rfl
def LH (k:Nat) (a:Int):Option jy :=
 (bif decide (a≥0) then
  some ((decide (a<8),()),())
 else
  some ((false,()),()))
def F264:Fn:=⟨[au],[rB],fun k x=>LH k x.1⟩
theorem ok264:O 264 F264:=okF aj [] On Tryz.func264 rfl
def QK (k:Nat) (a b c:Int):Option jy :=
 (bif decide (a≥b) then
  some ((decide (a <= c),()),())
 else
  some ((false,()),()))
def F265:Fn:=⟨[au,au,au],[rB],fun k (a,b,c,_)=>QK k a b c⟩
theorem ok265:O 265 F265:=okF aj [] On Tryz.func265 rfl
def ah7 (k:Nat) (a:Int×Int×Int×Int):Option jy :=
 (bif a.1==0 then
  (bif a.2.1==0 then
   (bif a.2.2.1==0 then
    some ((a.2.2.2==0,()),())
   else
    some ((false,()),()))
  else
   some ((false,()),()))
 else
  (bif a.1==11 then
   (bif a.2.1==0 then
    (bif a.2.2.1==0 then
     some ((a.2.2.2==0,()),())
    else
     some ((false,()),()))
   else
    some ((false,()),()))
  else
   (bif a.1==1 then
    (LH k a.2.1).bind fun q0 =>
    (bif q0.1.1 then
     (bif a.2.2.1==0 then
      (QK k a.2.2.2 (-2147483648) 2147483647).bind fun q1 =>
      some ((q1.1.1,()),())
     else
      some ((false,()),()))
    else
     some ((false,()),()))
   else
    (bif a.1==2 then
     (LH k a.2.1).bind fun q2 =>
     (bif q2.1.1 then
      (LH k a.2.2.1).bind fun q3 =>
      (bif q3.1.1 then
       some ((a.2.2.2==0,()),())
      else
       some ((false,()),()))
     else
      some ((false,()),()))
    else
     (bif a.1==3 then
      (LH k a.2.1).bind fun q4 =>
      (bif q4.1.1 then
       (LH k a.2.2.1).bind fun q5 =>
       (bif q5.1.1 then
        some ((a.2.2.2==0,()),())
       else
        some ((false,()),()))
      else
       some ((false,()),()))
     else
      (bif a.1==4 then
       (LH k a.2.1).bind fun q6 =>
       (bif q6.1.1 then
        (LH k a.2.2.1).bind fun q7 =>
        (bif q7.1.1 then
         some ((a.2.2.2==0,()),())
        else
         some ((false,()),()))
       else
        some ((false,()),()))
      else
       (bif a.1==5 then
        (LH k a.2.1).bind fun q8 =>
        (bif q8.1.1 then
         (bif a.2.2.1==0 then
          (QK k a.2.2.2 (-63) 63).bind fun q9 =>
          some ((q9.1.1,()),())
         else
          some ((false,()),()))
        else
         some ((false,()),()))
       else
        (bif a.1==6 then
         (LH k a.2.1).bind fun q10 =>
         (bif q10.1.1 then
          (bif a.2.2.1==0 then
           (QK k a.2.2.2 1 64).bind fun OV =>
           some ((OV.1.1,()),())
          else
           some ((false,()),()))
         else
          some ((false,()),()))
        else
         (bif a.1==7 then
          (LH k a.2.1).bind fun q12 =>
          (bif q12.1.1 then
           (bif a.2.2.1==0 then
            (QK k a.2.2.2 1 24).bind fun Zj =>
            some ((Zj.1.1,()),())
           else
            some ((false,()),()))
          else
           some ((false,()),()))
         else
          (bif a.1==8 then
           (bif a.2.1==0 then
            (QK k a.2.2.1 1 24).bind fun q14 =>
            (bif q14.1.1 then
             (QK k a.2.2.2 1 20).bind fun q15 =>
             some ((q15.1.1,()),())
            else
             some ((false,()),()))
           else
            some ((false,()),()))
          else
           (bif a.1==9 then
            (QK k a.2.1 0 3).bind fun q16 =>
            (bif q16.1.1 then
             (bif a.2.2.1==0 then
              some ((a.2.2.2==0,()),())
             else
              some ((false,()),()))
            else
             some ((false,()),()))
           else
            (bif a.1==10 then
             (QK k a.2.1 0 3).bind fun q17 =>
             (bif q17.1.1 then
              (bif a.2.2.1==0 then
               some ((a.2.2.2==0,()),())
              else
               some ((false,()),()))
             else
              some ((false,()),()))
            else
             some ((false,()),())))))))))))))
def F188:Fn:=⟨[agN],[rB],fun k x=>ah7 k x.1⟩
theorem ok188:O 188 F188:=okF (ah ok264 <| ah ok265 aj) [] On Tryz.func188 rfl
def apq (k:Nat) (a:Int×Int×Int×Int):Option jy :=
 (ah7 k a).bind fun q0 =>
 some ((!q0.1.1,()),())
def F187:Fn:=⟨[agN],[rB],fun k x=>apq k x.1⟩
theorem ok187:O 187 F187:=okF (ah ok188 aj) [] On Tryz.func187 rfl
abbrev ac2:Cut:=⟨[0,1,7,8],[.cell p9,.lJ 187 [],cI,cI],[],19,[]⟩
def WA (k:Nat) (g2:(List jl) -> Int -> Int -> Option jk) (a:List jl) (b c:Int):Option jk :=
 (bif decide (c<b) then
  ix a c <|
  (apq k (rd a c (0,0,0,0))).bind fun q0 =>
  (bif q0.1.1 then
   some ((c,()),())
  else
   g2 a b (IntKind.i64.wrap (c+1)))
 else
  some (((-1),()),()))
def ah8 (k:Nat):Xx (ah2):=eu (dw (dh (dw (dh (dh dx))))) (WA k)
def LJ (k a:Nat) (b:List jl) (c e:Int):Option jk:=iter ac2 (ah8 k) a ((),b,(),c,e,())
theorem Zk (k a b c e):LJ k (a+1) b c e=WA k (LJ k a) b c e:=Ba _ _ _ _
def alU (k:Nat) (a:List jl):Option jk :=
 LJ k k a (a.length:Int) 0
def F130:Fn:=⟨[DX,.pv (.lJ 187 [])],[rI],fun k x=>alU k x.1⟩
theorem ok130:O 130 F130:=okF (ah ok187 aj) [] (fun k=>(.loop 2 ac2 (ah8 k) (fun g=>.nil) .nil)) Tryz.func130 rfl
def S57 (k:Nat) (a:List jl):Option jy :=
 (alU k a).bind fun q0 =>
 some ((decide (q0.1.1≥0),()),())
def F57:Fn:=⟨[DX,.pv (.lJ 187 [])],[rB],fun k x=>S57 k x.1⟩
theorem ok57:O 57 F57:=okF (ah ok130 aj) [] On Tryz.func57 rfl
def apr (k:Nat) (a:Int×Int×Int×Int):Option jy :=
 some ((a.1==0,()),())
def F189:Fn:=⟨[agN],[rB],fun k x=>apr k x.1⟩
theorem ok189:O 189 F189:=okF aj [] On Tryz.func189 rfl
abbrev Zl:Cut:=⟨[0,1,7,8],[.cell p9,.lJ 189 [],cI,cI],[],19,[]⟩
def OW (k:Nat) (g2:(List jl) -> Int -> Int -> Option jk) (a:List jl) (b c:Int):Option jk :=
 (bif decide (c<b) then
  ix a c <|
  (apr k (rd a c (0,0,0,0))).bind fun q0 =>
  (bif q0.1.1 then
   some ((c,()),())
  else
   g2 a b (IntKind.i64.wrap (c+1)))
 else
  some (((-1),()),()))
def ac3 (k:Nat):Xx (ah2):=eu (dw (dh (dw (dh (dh dx))))) (OW k)
def GL (k a:Nat) (b:List jl) (c e:Int):Option jk:=iter Zl (ac3 k) a ((),b,(),c,e,())
theorem UR (k a b c e):GL k (a+1) b c e=OW k (GL k a) b c e:=Ba _ _ _ _
def ac4 (k:Nat) (a:List jl):Option jk :=
 GL k k a (a.length:Int) 0
def F130a:Fn:=⟨[DX,.pv (.lJ 189 [])],[rI],fun k x=>ac4 k x.1⟩
theorem ok130a:O 130 F130a:=okF (ah ok189 aj) [] (fun k=>(.loop 2 Zl (ac3 k) (fun g=>.nil) .nil)) Tryz.func130 rfl
abbrev ac5:Cut:=⟨[2,5,6,7],[.own 365 EX,.cell p9,cI,cI],[],42,[]⟩
def WB (k:Nat) (g2:uz -> (List jl) -> Int -> Int -> Option ((uz×Unit)×Unit)) (a:List qg) (b:List jl) (c e:Int):Option ((uz×Unit)×Unit) :=
 (bif decide (e<c) then
  ix b e <|
  (bif (rd b e (0,0,0,0)).1==8 then
   ap a ([(IntKind.i64.wrap (e+1),IntKind.i64.wrap (e+(rd b e (0,0,0,0)).2.2.1),e,true)]:List qg) 32 fun r0 =>
   g2 r0 b c (IntKind.i64.wrap (e+1))
  else
   (bif (rd b e (0,0,0,0)).1==7 then
    ap a ([(IntKind.i64.wrap (e+1),IntKind.i64.wrap (e+(rd b e (0,0,0,0)).2.2.2),e,false)]:List qg) 32 fun r1 =>
    g2 r1 b c (IntKind.i64.wrap (e+1))
   else
    g2 a b c (IntKind.i64.wrap (e+1))))
 else
  some ((a,()),()))
def ah9 (k:Nat):Xx (((Unit)×uz×(List jl)×Int×Int×Unit) -> Option ((uz×Unit)×Unit)):=eu (dw (dh (dh (dh (dh dx))))) (WB k)
def LK (k a:Nat) (b:List qg) (c:List jl) (e f:Int):Option ((uz×Unit)×Unit):=iter ac5 (ah9 k) a ((),b,c,e,f,())
theorem Zm (k a b c e f):LK k (a+1) b c e f=WB k (LK k a) b c e f:=Ba _ _ _ _
def aia (k:Nat) (a:List jl):Option ((uz×Unit)×Unit) :=
 LK k k ([]:List qg) a (a.length:Int) 0
def F266:Fn:=⟨[DX],[.val ⟨false,(.sl 365 EX),true⟩],fun k x=>aia k x.1⟩
theorem ok266:O 266 F266:=okF aj [(2,2)] (fun k=>(.loop 2 ac5 (ah9 k) (fun g=>.nil) .nil)) Tryz.func266 rfl
def ab4 (k:Nat) (a:Int×Int×Int×Bool) (b:Int):Option jy :=
 (bif decide (b≥a.1) then
  some ((decide (b <= a.2.1),()),())
 else
  some ((false,()),()))
def F267:Fn:=⟨[ah3,au],[rB],fun k x=>ab4 k x.1 x.2.1⟩
theorem ok267:O 267 F267:=okF aj [] On Tryz.func267 rfl
def Zn (k:Nat) (a b:Int×Int×Int×Bool):Option jy :=
 (ab4 k b a.1).bind fun q0 =>
 (bif q0.1.1 then
  (ab4 k b a.2.1).bind fun q1 =>
  some ((q1.1.1,()),())
 else
  some ((false,()),()))
def F268:Fn:=⟨[ah3,ah3],[rB],fun k x=>Zn k x.1 x.2.1⟩
theorem ok268:O 268 F268:=okF (ah ok267 aj) [] On Tryz.func268 rfl
def aib (k:Nat) (a b:Int×Int×Int×Bool):Option jy :=
 (bif decide (a.2.1<b.1) then
  some ((true,()),())
 else
  some ((decide (b.2.1<a.1),()),()))
def F269:Fn:=⟨[ah3,ah3],[rB],fun k x=>aib k x.1 x.2.1⟩
theorem ok269:O 269 F269:=okF aj [] On Tryz.func269 rfl
def aps (k:Nat) (a:Int):Option jy :=
 some ((decide (a>2),()),())
def F270:Fn:=⟨[au],[rB],fun k x=>aps k x.1⟩
theorem ok270:O 270 F270:=okF aj [] On Tryz.func270 rfl
abbrev ac6:Cut:=⟨[0,1,7,8],[.cell tq,.lJ 270 [],cI,cI],[],19,[]⟩
def WC (k:Nat) (g2:(List Int) -> Int -> Int -> Option jk) (a:List Int) (b c:Int):Option jk :=
 (bif decide (c<b) then
  ix a c <|
  (aps k (rd a c 0)).bind fun q0 =>
  (bif q0.1.1 then
   some ((c,()),())
  else
   g2 a b (IntKind.i64.wrap (c+1)))
 else
  some (((-1),()),()))
def aic (k:Nat):Xx (((Unit)×(List Int)×Unit×Int×Int×Unit) -> Option jk):=eu (dw (dh (dw (dh (dh dx))))) (WC k)
def LM (k a:Nat) (b:List Int) (c e:Int):Option jk:=iter ac6 (aic k) a ((),b,(),c,e,())
theorem Zo (k a b c e):LM k (a+1) b c e=WC k (LM k a) b c e:=Ba _ _ _ _
def alV (k:Nat) (a:List Int):Option jk :=
 LM k k a (a.length:Int) 0
def F272:Fn:=⟨[Wz,.pv (.lJ 270 [])],[rI],fun k x=>alV k x.1⟩
theorem ok272:O 272 F272:=okF (ah ok270 aj) [] (fun k=>(.loop 2 ac6 (aic k) (fun g=>.nil) .nil)) Tryz.func272 rfl
def alW (k:Nat) (a:List Int):Option jy :=
 (alV k a).bind fun q0 =>
 some ((decide (q0.1.1≥0),()),())
def F193:Fn:=⟨[Wz,.pv (.lJ 270 [])],[rB],fun k x=>alW k x.1⟩
theorem ok193:O 193 F193:=okF (ah ok272 aj) [] On Tryz.func193 rfl
abbrev Zp:Cut:=⟨[0,3,4,6,9,15,16,17],[.cell p9,.cell (.sl 365 EX),.own 3 (.int .i64),.box 365 [cI,cI,cI,.cell .bool],cI,.cell (.sl 365 EX),cI,cI],[],84,[]⟩
def K3 (k:Nat) (g4:NW) (g15:(List jl) -> uz -> (List Int) -> Int -> Int -> Int -> Bool -> Int -> uz -> Int -> Int -> Option jy) (a:List jl) (b:List qg) (c:List Int) (e f h:Int) (i:Bool) (l:Int) (m:List qg) (n o:Int):Option jy :=
 (bif i then
  (bif decide (l <= f) then
   ix c l <|
   ix c l <|
   g15 a b (upd c l (IntKind.i64.wrap ((rd c l 0)+1))) e f h i (IntKind.i64.wrap (l+1)) m n o
  else
   g4 a b c m n (IntKind.i64.wrap (o+1)))
 else
  g4 a b c m n (IntKind.i64.wrap (o+1)))
def ac7 (k:Nat) (g4:NW):Xx (((Unit)×(List jl)×uz×(List Int)×ah1×Int×uz×Int×Int×Unit) -> Option jy):=eu (dw (dh (dh (dh (d9 (dh (dh (dh (dh dx)))) (dh (dh (dh (dh dx))))))))) (K3 k g4)
def GN (k:Nat) (g4:NW) (a:Nat) (b:List jl) (c:List qg) (e:List Int) (f h i:Int) (l:Bool) (m:Int) (n:List qg) (o p:Int):Option jy:=iter Zp (ac7 k g4) a ((),b,c,e,(f,h,i,l,()),m,n,o,p,())
theorem LP (k g4 a b c e f h i l m n o p):GN k g4 (a+1) b c e f h i l m n o p=K3 k g4 (GN k g4 a) b c e f h i l m n o p:=Ba _ _ _ _
abbrev ac8:Cut:=⟨[0,3,4,6,15,16,17,27,28,29],[.cell p9,.cell (.sl 365 EX),.own 3 (.int .i64),.box 365 [cI,cI,cI,.cell .bool],.cell (.sl 365 EX),cI,cI,.cell (.sl 365 EX),cI,cI],[],84,[]⟩
def WE (k:Nat) (g4:NW) (g9:(List jl) -> uz -> (List Int) -> Int -> Int -> Int -> Bool -> uz -> Int -> Int -> uz -> Int -> Int -> Option jy) (a:List jl) (b:List qg) (c:List Int) (e f h:Int) (i:Bool) (l:List qg) (m n:Int) (o:List qg) (p s:Int):Option jy :=
 (bif decide (s<p) then
  ix o s <|
  (ab4 k (rd o s (0,0,0,false)) h).bind fun q1 =>
  (bif q1.1.1 then
   (Zn k (e,f,h,i) (rd o s (0,0,0,false))).bind fun q2 =>
   (bif !q2.1.1 then
    some ((false,()),())
   else
    (aib k (e,f,h,i) (rd o s (0,0,0,false))).bind fun q3 =>
    (bif !q3.1.1 then
     (Zn k (e,f,h,i) (rd o s (0,0,0,false))).bind fun q4 =>
     (bif !q4.1.1 then
      (Zn k (rd o s (0,0,0,false)) (e,f,h,i)).bind fun q5 =>
      (bif !q5.1.1 then
       some ((false,()),())
      else
       g9 a b c e f h i l m n o p (IntKind.i64.wrap (s+1)))
     else
      g9 a b c e f h i l m n o p (IntKind.i64.wrap (s+1)))
    else
     g9 a b c e f h i l m n o p (IntKind.i64.wrap (s+1))))
  else
   (aib k (e,f,h,i) (rd o s (0,0,0,false))).bind fun q6 =>
   (bif !q6.1.1 then
    (Zn k (e,f,h,i) (rd o s (0,0,0,false))).bind fun q7 =>
    (bif !q7.1.1 then
     (Zn k (rd o s (0,0,0,false)) (e,f,h,i)).bind fun q8 =>
     (bif !q8.1.1 then
      some ((false,()),())
     else
      g9 a b c e f h i l m n o p (IntKind.i64.wrap (s+1)))
    else
     g9 a b c e f h i l m n o p (IntKind.i64.wrap (s+1)))
   else
    g9 a b c e f h i l m n o p (IntKind.i64.wrap (s+1))))
 else
  GN k g4 k a b c e f h i e l m n)
def aie (k:Nat) (g4:NW):Xx (((Unit)×(List jl)×uz×(List Int)×ah1×uz×Int×Int×uz×Int×Int×Unit) -> Option jy):=eu (dw (dh (dh (dh (d9 (dh (dh (dh (dh dx)))) (dh (dh (dh (dh (dh (dh dx))))))))))) (WE k g4)
def WG (k:Nat) (g4:NW) (a:Nat) (b:List jl) (c:List qg) (e:List Int) (f h i:Int) (l:Bool) (m:List qg) (n o:Int) (p:List qg) (s t:Int):Option jy:=iter ac8 (aie k g4) a ((),b,c,e,(f,h,i,l,()),m,n,o,p,s,t,())
theorem Zq (k g4 a b c e f h i l m n o p s t):WG k g4 (a+1) b c e f h i l m n o p s t=WE k g4 (WG k g4 a) b c e f h i l m n o p s t:=Ba _ _ _ _
abbrev ac9:Cut:=⟨[0,3,4,15,16,17],[.cell p9,.cell (.sl 365 EX),.own 3 (.int .i64),.cell (.sl 365 EX),cI,cI],[],84,[]⟩
def WH (k:Nat) (g4:NW) (a:List jl) (b:List qg) (c:List Int) (e:List qg) (f h:Int):Option jy :=
 (bif decide (h<f) then
  ix e h <|
  (bif decide ((rd e h (0,0,0,false)).2.1≥(IntKind.i64.wrap ((a.length:Int) - 1))) then
   some ((false,()),())
  else
   WG k g4 k a b c (rd e h (0,0,0,false)).1 (rd e h (0,0,0,false)).2.1 (rd e h (0,0,0,false)).2.2.1 (rd e h (0,0,0,false)).2.2.2 e f h b (b.length:Int) 0)
 else
  (alW k c).bind fun q9 =>
  some ((!q9.1.1,()),()))
def aif (k:Nat):Xx (((Unit)×(List jl)×uz×(List Int)×uz×Int×Int×Unit) -> Option jy):=eu (dw (dh (dh (dh (dh (dh (dh dx))))))) (WH k)
def QL (k a:Nat) (b:List jl) (c:List qg) (e:List Int) (f:List qg) (h i:Int):Option jy:=iter ac9 (aif k) a ((),b,c,e,f,h,i,())
theorem Zr (k a b c e f h i):QL k (a+1) b c e f h i=WH k (QL k a) b c e f h i:=Ba _ _ _ _
def alX (k:Nat) (a:List jl):Option jy :=
 (aia k a).bind fun q0 =>
 mk (a.length:Int) (a.length:Int) 8 <|
 QL k k a q0.1.1 (List.replicate (a.length:Int).toNat (0:Int)) q0.1.1 (q0.1.1.length:Int) 0
def F190:Fn:=⟨[DX],[rB],fun k x=>alX k x.1⟩
theorem ok190:O 190 F190:=okF (ah ok193 <| ah ok266 <| ah ok267 <| ah ok268 <| ah ok269 aj) [] (fun k=>(.loop 4 ac9 (aif k) (fun g=>(fun (g4:NW)=>(.loop 15 Zp (ac7 k g4) (fun g=>.nil) (.loop 9 ac8 (aie k g4) (fun g=>.nil) .nil))) (fun l_1 all around t15 t16 t17=>g ((),l_1,all,around,t15,t16,t17,()))) .nil)) Tryz.func190 rfl
abbrev ada:Cut:=⟨[0,3,4,5,11,12,13,19,20],[.cell p9,.own 286 BF,cI,.box 365 [cI,cI,cI,.cell .bool],.own 365 EX,cI,cI,cI,cI],[],38,[]⟩
def WI (k:Nat) (g3:YZ) (g6:(List jl) -> EY -> Int -> Int -> Int -> Int -> Bool -> uz -> Int -> Int -> Int -> Int -> Option NY) (a:List jl) (b:List BG) (c e f h:Int) (i:Bool) (l:List qg) (m n o p:Int):Option NY :=
 (bif decide (p<o) then
  (bif decide (c<24) then
   (ab4 k (e,f,h,i) p).bind fun q1 =>
   (bif q1.1.1 then
    ix b p <|
    ax 24 c <|
    g6 a (upd b p (Ur (α:=Bool) 24 (rd b p (Qn (α:=Bool) 24 false)) c true)) c e f h i l m n o (IntKind.i64.wrap (p+1))
   else
    g6 a b c e f h i l m n o (IntKind.i64.wrap (p+1)))
  else
   g6 a b c e f h i l m n o (IntKind.i64.wrap (p+1)))
 else
  g3 a b l m (IntKind.i64.wrap (n+1)))
def aij (k:Nat) (g3:YZ):Xx (((Unit)×(List jl)×EY×Int×ah1×uz×Int×Int×Int×Int×Unit) -> Option NY):=eu (dw (dh (dh (dh (d9 (dh (dh (dh (dh dx)))) (dh (dh (dh (dh (dh dx)))))))))) (WI k g3)
def WJ (k:Nat) (g3:YZ) (a:Nat) (b:List jl) (c:List BG) (e f h i:Int) (l:Bool) (m:List qg) (n o p s:Int):Option NY:=iter ada (aij k g3) a ((),b,c,e,(f,h,i,l,()),m,n,o,p,s,())
theorem Zt (k g3 a b c e f h i l m n o p s):WJ k g3 (a+1) b c e f h i l m n o p s=WI k g3 (WJ k g3 a) b c e f h i l m n o p s:=Ba _ _ _ _
abbrev adb:Cut:=⟨[0,3,11,12,13],[.cell p9,.own 286 BF,.own 365 EX,cI,cI],[],38,[]⟩
def WK (k:Nat) (g3:YZ) (a:List jl) (b:List BG) (c:List qg) (e f:Int):Option NY :=
 (bif decide (f<e) then
  ix c f <|
  WJ k g3 k a b f (rd c f (0,0,0,false)).1 (rd c f (0,0,0,false)).2.1 (rd c f (0,0,0,false)).2.2.1 (rd c f (0,0,0,false)).2.2.2 c e f (a.length:Int) 0
 else
  some ((b,()),()))
def aik (k:Nat):Xx (((Unit)×(List jl)×EY×uz×Int×Int×Unit) -> Option NY):=eu (dw (dh (dh (dh (dh (dh dx)))))) (WK k)
def QM (k a:Nat) (b:List jl) (c:List BG) (e:List qg) (f h:Int):Option NY:=iter adb (aik k) a ((),b,c,e,f,h,())
theorem Zu (k a b c e f h):QM k (a+1) b c e f h=WK k (QM k a) b c e f h:=Ba _ _ _ _
def ail (k:Nat) (a:List jl):Option NY :=
 mk (a.length:Int) (a.length:Int) 24 <|
 (aia k a).bind fun q0 =>
 QM k k a (List.replicate (a.length:Int).toNat (Qn (α:=Bool) 24 false:PN Bool 24)) q0.1.1 (q0.1.1.length:Int) 0
def F192:Fn:=⟨[DX],[.val ⟨false,(.sl 286 BF),true⟩],fun k x=>ail k x.1⟩
theorem ok192:O 192 F192:=okF (ah ok266 <| ah ok267 aj) [] (fun k=>(.loop 3 adb (aik k) (fun g=>(fun (g3:YZ)=>(.loop 6 ada (aij k g3) (fun g=>.nil) .nil)) (fun l_1 out t11 t12 t13=>g ((),l_1,out,t11,t12,t13,()))) .nil)) Tryz.func192 rfl
def apt (k:Nat) (a:Int) (b:List jl) (c:Int):Option jy :=
 ix b a <|
 ix b c <|
 some (((rd b a (0,0,0,0)).2.1==(rd b c (0,0,0,0)).2.1,()),())
def F271:Fn:=⟨[au,.pv (.ref p9),Zi],[rB],fun k (a,b,c,_)=>apt k a b c⟩
theorem ok271:O 271 F271:=okF aj [] On Tryz.func271 rfl
abbrev Zv:Cut:=⟨[0,1,7,8],[.cell tq,.lJ 271 [.ref p9,.ref (.int .i64)],cI,cI],[],19,[]⟩
def OX (k:Nat) (g2:(List Int) -> (List jl) -> Int -> Int -> Int -> Option jk) (a:List Int) (b:List jl) (c e f:Int):Option jk :=
 (bif decide (f<e) then
  ix a f <|
  (apt k (rd a f 0) b c).bind fun q0 =>
  (bif q0.1.1 then
   some ((f,()),())
  else
   g2 a b c e (IntKind.i64.wrap (f+1)))
 else
  some (((-1),()),()))
def ade (k:Nat):Xx (((Unit)×(List Int)×((List jl)×Int×Unit)×Int×Int×Unit) -> Option jk):=eu (dw (dh (d9 (dh (dh dx)) (dh (dh dx))))) (OX k)
def DY (k a:Nat) (b:List Int) (c:List jl) (e f h:Int):Option jk:=iter Zv (ade k) a ((),b,(c,e,()),f,h,())
theorem UU (k a b c e f h):DY k (a+1) b c e f h=OX k (DY k a) b c e f h:=Ba _ _ _ _
def ain (k:Nat) (a:List Int) (b:List jl) (c:Int):Option jk :=
 DY k k a b c (a.length:Int) 0
def F272a:Fn:=⟨[Wz,aq3],[rI],fun k (a,(b,c,_),_)=>ain k a b c⟩
theorem ok272a:O 272 F272a:=okF (ah ok271 aj) [] (fun k=>(.loop 2 Zv (ade k) (fun g=>.nil) .nil)) Tryz.func272 rfl
def adf (k:Nat) (a:List Int) (b:List jl) (c:Int):Option jy :=
 (ain k a b c).bind fun q0 =>
 some ((decide (q0.1.1≥0),()),())
def F193a:Fn:=⟨[Wz,aq3],[rB],fun k (a,(b,c,_),_)=>adf k a b c⟩
theorem ok193a:O 193 F193a:=okF (ah ok272a aj) [] On Tryz.func193 rfl
abbrev alZ:Cut:=⟨[1,4,5,6,7,8,9,20,21,22],[.box 52 [.cell p9],.own 3 (.int .i64),.own 3 (.int .i64),.mp 367 true BF false (.int .i64),.cell (.sl 286 BF),.box 3 [cI],.box 286 [.cell .bool,.cell .bool,.cell .bool,.cell .bool,.cell .bool,.cell .bool,.cell .bool,.cell .bool,.cell .bool,.cell .bool,.cell .bool,.cell .bool,.cell .bool,.cell .bool,.cell .bool,.cell .bool,.cell .bool,.cell .bool,.cell .bool,.cell .bool,.cell .bool,.cell .bool,.cell .bool,.cell .bool],.cell (.sl 286 BF),cI,cI],[],110,[]⟩
def QN (k:Nat) (g3:ahY) (a:List jl) (b c:List Int) (e:List (BG×Int)) (f:List BG) (h:Int) (x i l m n o p s t u v w y z A B C D G H I J K M:Bool) (N:List BG) (O P:Int):Option Zb :=
 ix a h <|
 (bif (rd a h (0,0,0,0)).1==9 then
  (bif decide ((c.length:Int)≥2) then
   some (([],false,()),())
  else
   (adf k c a h).bind fun q1 =>
   (bif q1.1.1 then
    some (([],false,()),())
   else
    ap c ([h]:List Int) 8 fun r2 =>
    g3 a b r2 e f N O (IntKind.i64.wrap (P+1))))
 else
  (bif (rd a h (0,0,0,0)).1==10 then
   (bif decide ((IntKind.i64.wrap ((c.length:Int) - 1))<0) then
    some (([],false,()),())
   else
    ix c (IntKind.i64.wrap ((c.length:Int) - 1)) <|
    ix a (rd c (IntKind.i64.wrap ((c.length:Int) - 1)) 0) <|
    ix a h <|
    (bif (rd a (rd c (IntKind.i64.wrap ((c.length:Int) - 1)) 0) (0,0,0,0)).2.1 != (rd a h (0,0,0,0)).2.1 then
     some (([],false,()),())
    else
     ix c (IntKind.i64.wrap ((c.length:Int) - 1)) <|
     ix f (rd c (IntKind.i64.wrap ((c.length:Int) - 1)) 0) <|
     (bif (Us BF (.int .i64) (rd f (rd c (IntKind.i64.wrap ((c.length:Int) - 1)) 0) (Qn (α:=Bool) 24 false)) e 0) != (Us BF (.int .i64) (x,i,l,m,n,o,p,s,t,u,v,w,y,z,A,B,C,D,G,H,I,J,K,M) e 0) then
      some (([],false,()),())
     else
      ix c (IntKind.i64.wrap ((c.length:Int) - 1)) <|
      ix b (rd c (IntKind.i64.wrap ((c.length:Int) - 1)) 0) <|
      sx c 0 (IntKind.i64.wrap ((c.length:Int) - 1)) <|
      g3 a (upd b (rd c (IntKind.i64.wrap ((c.length:Int) - 1)) 0) h) (c.take (IntKind.i64.wrap ((c.length:Int) - 1)).toNat) e f N O (IntKind.i64.wrap (P+1)))))
  else
   g3 a b c e f N O (IntKind.i64.wrap (P+1))))
abbrev adg:Cut:=⟨[1,4,5,6,7,20,21,22],[.box 52 [.cell p9],.own 3 (.int .i64),.own 3 (.int .i64),.mp 367 true BF false (.int .i64),.cell (.sl 286 BF),.cell (.sl 286 BF),cI,cI],[],110,[]⟩
def WL (k:Nat) (g3:ahY) (a:List jl) (b c:List Int) (e:List (BG×Int)) (f h:List BG) (i l:Int):Option Zb :=
 (bif decide (l<i) then
  ix h l <|
  (bif !(Ut BF (.int .i64) (rd h l (Qn (α:=Bool) 24 false)) e) then
   QN k g3 a b c (vL BF (.int .i64) (rd h l (Qn (α:=Bool) 24 false)) l e) f l (rd h l (Qn (α:=Bool) 24 false)).1 (rd h l (Qn (α:=Bool) 24 false)).2.1 (rd h l (Qn (α:=Bool) 24 false)).2.2.1 (rd h l (Qn (α:=Bool) 24 false)).2.2.2.1 (rd h l (Qn (α:=Bool) 24 false)).2.2.2.2.1 (rd h l (Qn (α:=Bool) 24 false)).2.2.2.2.2.1 (rd h l (Qn (α:=Bool) 24 false)).2.2.2.2.2.2.1 (rd h l (Qn (α:=Bool) 24 false)).2.2.2.2.2.2.2.1 (rd h l (Qn (α:=Bool) 24 false)).2.2.2.2.2.2.2.2.1 (rd h l (Qn (α:=Bool) 24 false)).2.2.2.2.2.2.2.2.2.1 (rd h l (Qn (α:=Bool) 24 false)).2.2.2.2.2.2.2.2.2.2.1 (rd h l (Qn (α:=Bool) 24 false)).2.2.2.2.2.2.2.2.2.2.2.1 (rd h l (Qn (α:=Bool) 24 false)).2.2.2.2.2.2.2.2.2.2.2.2.1 (rd h l (Qn (α:=Bool) 24 false)).2.2.2.2.2.2.2.2.2.2.2.2.2.1 (rd h l (Qn (α:=Bool) 24 false)).2.2.2.2.2.2.2.2.2.2.2.2.2.2.1 (rd h l (Qn (α:=Bool) 24 false)).2.2.2.2.2.2.2.2.2.2.2.2.2.2.2.1 (rd h l (Qn (α:=Bool) 24 false)).2.2.2.2.2.2.2.2.2.2.2.2.2.2.2.2.1 (rd h l (Qn (α:=Bool) 24 false)).2.2.2.2.2.2.2.2.2.2.2.2.2.2.2.2.2.1 (rd h l (Qn (α:=Bool) 24 false)).2.2.2.2.2.2.2.2.2.2.2.2.2.2.2.2.2.2.1 (rd h l (Qn (α:=Bool) 24 false)).2.2.2.2.2.2.2.2.2.2.2.2.2.2.2.2.2.2.2.1 (rd h l (Qn (α:=Bool) 24 false)).2.2.2.2.2.2.2.2.2.2.2.2.2.2.2.2.2.2.2.2.1 (rd h l (Qn (α:=Bool) 24 false)).2.2.2.2.2.2.2.2.2.2.2.2.2.2.2.2.2.2.2.2.2.1 (rd h l (Qn (α:=Bool) 24 false)).2.2.2.2.2.2.2.2.2.2.2.2.2.2.2.2.2.2.2.2.2.2.1 (rd h l (Qn (α:=Bool) 24 false)).2.2.2.2.2.2.2.2.2.2.2.2.2.2.2.2.2.2.2.2.2.2.2 h i l
  else
   QN k g3 a b c e f l (rd h l (Qn (α:=Bool) 24 false)).1 (rd h l (Qn (α:=Bool) 24 false)).2.1 (rd h l (Qn (α:=Bool) 24 false)).2.2.1 (rd h l (Qn (α:=Bool) 24 false)).2.2.2.1 (rd h l (Qn (α:=Bool) 24 false)).2.2.2.2.1 (rd h l (Qn (α:=Bool) 24 false)).2.2.2.2.2.1 (rd h l (Qn (α:=Bool) 24 false)).2.2.2.2.2.2.1 (rd h l (Qn (α:=Bool) 24 false)).2.2.2.2.2.2.2.1 (rd h l (Qn (α:=Bool) 24 false)).2.2.2.2.2.2.2.2.1 (rd h l (Qn (α:=Bool) 24 false)).2.2.2.2.2.2.2.2.2.1 (rd h l (Qn (α:=Bool) 24 false)).2.2.2.2.2.2.2.2.2.2.1 (rd h l (Qn (α:=Bool) 24 false)).2.2.2.2.2.2.2.2.2.2.2.1 (rd h l (Qn (α:=Bool) 24 false)).2.2.2.2.2.2.2.2.2.2.2.2.1 (rd h l (Qn (α:=Bool) 24 false)).2.2.2.2.2.2.2.2.2.2.2.2.2.1 (rd h l (Qn (α:=Bool) 24 false)).2.2.2.2.2.2.2.2.2.2.2.2.2.2.1 (rd h l (Qn (α:=Bool) 24 false)).2.2.2.2.2.2.2.2.2.2.2.2.2.2.2.1 (rd h l (Qn (α:=Bool) 24 false)).2.2.2.2.2.2.2.2.2.2.2.2.2.2.2.2.1 (rd h l (Qn (α:=Bool) 24 false)).2.2.2.2.2.2.2.2.2.2.2.2.2.2.2.2.2.1 (rd h l (Qn (α:=Bool) 24 false)).2.2.2.2.2.2.2.2.2.2.2.2.2.2.2.2.2.2.1 (rd h l (Qn (α:=Bool) 24 false)).2.2.2.2.2.2.2.2.2.2.2.2.2.2.2.2.2.2.2.1 (rd h l (Qn (α:=Bool) 24 false)).2.2.2.2.2.2.2.2.2.2.2.2.2.2.2.2.2.2.2.2.1 (rd h l (Qn (α:=Bool) 24 false)).2.2.2.2.2.2.2.2.2.2.2.2.2.2.2.2.2.2.2.2.2.1 (rd h l (Qn (α:=Bool) 24 false)).2.2.2.2.2.2.2.2.2.2.2.2.2.2.2.2.2.2.2.2.2.2.1 (rd h l (Qn (α:=Bool) 24 false)).2.2.2.2.2.2.2.2.2.2.2.2.2.2.2.2.2.2.2.2.2.2.2 h i l)
 else
  (bif decide ((c.length:Int)>0) then
   some (([],false,()),())
  else
   some ((b,true,()),())))
def aio (k:Nat):Xx (((Unit)×((List jl)×Unit)×(List Int)×(List Int)×(List (BG×Int))×EY×EY×Int×Int×Unit) -> Option Zb):=eu (dw (d9 (dh dx) (dh (dh (dh (dh (dh (dh (dh dx))))))))) (WL k)
def LQ (k a:Nat) (b:List jl) (c e:List Int) (f:List (BG×Int)) (h i:List BG) (l m:Int):Option Zb:=iter adg (aio k) a ((),(b,()),c,e,f,h,i,l,m,())
theorem Zw (k a b c e f h i l m):LQ k (a+1) b c e f h i l m=WL k (LQ k a) b c e f h i l m:=Ba _ _ _ _
def aip (k:Nat) (a:List jl):Option Zb :=
 mk (a.length:Int) (a.length:Int) 8 <|
 (ail k a).bind fun q0 =>
 LQ k k a (List.replicate (a.length:Int).toNat (0:Int)) ([]:List Int) ([]:List (BG×Int)) q0.1.1 q0.1.1 (q0.1.1.length:Int) 0
def F191:Fn:=⟨[DX],[ah4,rB],fun k x=>aip k x.1⟩
theorem ok191:O 191 F191:=okF (ah ok192 <| ah ok193a aj) [(104,1)] (fun k=>(.loop 3 adg (aio k) (fun g=>(fun (g3:ahY)=>(.join 8 alZ (fun (_,(a,_),b,c,e,f,(h,_),(i,l,m,n,o,p,s,t,u,v,w,y,z,A,B,C,D,G,H,I,J,K,M,N,_),O,P,Q,_)=>QN k g3 a b c e f h i l m n o p s t u v w y z A B C D G H I J K M N O P Q) .nil)) (fun l_1 out open_ same all t20 t21 t22=>g ((),(l_1,()),out,open_,same,all,t20,t21,t22,()))) .nil)) Tryz.func191 rfl
def apu (k:Nat) (a b:Int):Option jy :=
 some ((decide (a>b),()),())
def F194:Fn:=⟨[au,Zi],[rB],fun k x=>apu k x.1 x.2.1⟩
theorem ok194:O 194 F194:=okF aj [] On Tryz.func194 rfl
abbrev Zx:Cut:=⟨[0,1,7,8],[.cell tq,.lJ 194 [.ref (.int .i64)],cI,cI],[],19,[]⟩
def OY (k:Nat) (g2:(List Int) -> Int -> Int -> Int -> Option jk) (a:List Int) (b c e:Int):Option jk :=
 (bif decide (e<c) then
  ix a e <|
  (apu k (rd a e 0) b).bind fun q0 =>
  (bif q0.1.1 then
   some ((e,()),())
  else
   g2 a b c (IntKind.i64.wrap (e+1)))
 else
  some (((-1),()),()))
def adh (k:Nat):Xx (((Unit)×(List Int)×Z9×Int×Int×Unit) -> Option jk):=eu (dw (dh (d9 (dh dx) (dh (dh dx))))) (OY k)
def DZ (k a:Nat) (b:List Int) (c e f:Int):Option jk:=iter Zx (adh k) a ((),b,(c,()),e,f,())
theorem UW (k a b c e f):DZ k (a+1) b c e f=OY k (DZ k a) b c e f:=Ba _ _ _ _
def aiq (k:Nat) (a:List Int) (b:Int):Option jk :=
 DZ k k a b (a.length:Int) 0
def F272b:Fn:=⟨[Wz,.pv (.lJ 194 [.ref (.int .i64)])],[rI],fun k x=>aiq k x.1 x.2.1.1⟩
theorem ok272b:O 272 F272b:=okF (ah ok194 aj) [] (fun k=>(.loop 2 Zx (adh k) (fun g=>.nil) .nil)) Tryz.func272 rfl
def adi (k:Nat) (a:List Int) (b:Int):Option jy :=
 (aiq k a b).bind fun q0 =>
 some ((decide (q0.1.1≥0),()),())
def F193b:Fn:=⟨[Wz,.pv (.lJ 194 [.ref (.int .i64)])],[rB],fun k x=>adi k x.1 x.2.1.1⟩
theorem ok193b:O 193 F193b:=okF (ah ok272b aj) [] On Tryz.func193 rfl
abbrev Zy:Cut:=⟨[4,6,42,43,44],[.own 3 (.int .i64),.own 286 BF,.cell p9,cI,cI],[],66,[]⟩
def OZ (k:Nat) (g11:(List Int) -> EY -> (List jl) -> Int -> Int -> Option jy) (a:List Int) (b:List BG) (c:List jl) (e f:Int):Option jy :=
 (bif decide (f<e) then
  ix c f <|
  (bif (rd c f (0,0,0,0)).1 != 11 then
   g11 a b c e (IntKind.i64.wrap (f+1))
  else
   ix b f <|
   (bif !(fC BF (rd b f (Qn (α:=Bool) 24 false)) (false,false,false,false,false,false,false,false,false,false,false,false,false,false,false,false,false,false,false,false,false,false,false,false)) then
    some ((false,()),())
   else
    sx a 0 f <|
    (adi k (sub a 0 f) f).bind fun q5 =>
    (bif q5.1.1 then
     some ((false,()),())
    else
     g11 a b c e (IntKind.i64.wrap (f+1)))))
 else
  some ((true,()),()))
def adj (k:Nat):Xx (((Unit)×(List Int)×EY×(List jl)×Int×Int×Unit) -> Option jy):=eu (dw (dh (dh (dh (dh (dh dx)))))) (OZ k)
def E5 (k a:Nat) (b:List Int) (c:List BG) (e:List jl) (f h:Int):Option jy:=iter Zy (adj k) a ((),b,c,e,f,h,())
theorem UY (k a b c e f h):E5 k (a+1) b c e f h=OZ k (E5 k a) b c e f h:=Ba _ _ _ _
def agQ (k:Nat) (a:List jl):Option jy :=
 (bif decide ((a.length:Int)<1) then
  some ((false,()),())
 else
  (bif decide ((a.length:Int)>24) then
   some ((false,()),())
  else
   (S57 k a).bind fun q0 =>
   (bif q0.1.1 then
    some ((false,()),())
   else
    (ac4 k a).bind fun q1 =>
    (bif q1.1.1 != (IntKind.i64.wrap ((a.length:Int) - 1)) then
     some ((false,()),())
    else
     (alX k a).bind fun q2 =>
     (bif !q2.1.1 then
      some ((false,()),())
     else
      (aip k a).bind fun q3 =>
      (bif !q3.1.2.1 then
       some ((false,()),())
      else
       (ail k a).bind fun q4 =>
       E5 k k q3.1.1 q4.1.1 a (a.length:Int) 0))))))
def F108:Fn:=⟨[DX],[rB],fun k x=>agQ k x.1⟩
theorem ok108:O 108 F108:=okF (ah ok57 <| ah ok130a <| ah ok190 <| ah ok191 <| ah ok192 <| ah ok193b aj) [] (fun k=>(.loop 11 Zy (adj k) (fun g=>.nil) .nil)) Tryz.func108 rfl
def air (k:Nat) (a:List jl):Option jy :=
 (bif (a.length:Int)==0 then
  some ((true,()),())
 else
  (agQ k a).bind fun q0 =>
  some ((q0.1.1,()),()))
def F316:Fn:=⟨[DX],[rB],fun k x=>air k x.1⟩
theorem ok316:O 316 F316:=okF (ah ok108 aj) [] On Tryz.func316 rfl
def apv (k:Nat) (a:Int×Int×Int×Int):Option jy :=
 some ((a.1==9,()),())
def F345:Fn:=⟨[agN],[rB],fun k x=>apv k x.1⟩
theorem ok345:O 345 F345:=okF aj [] On Tryz.func345 rfl
abbrev Zz:Cut:=⟨[0,1,7,8],[.cell p9,.lJ 345 [],cI,cI],[],19,[]⟩
def P7 (k:Nat) (g2:(List jl) -> Int -> Int -> Option jk) (a:List jl) (b c:Int):Option jk :=
 (bif decide (c<b) then
  ix a c <|
  (apv k (rd a c (0,0,0,0))).bind fun q0 =>
  (bif q0.1.1 then
   some ((c,()),())
  else
   g2 a b (IntKind.i64.wrap (c+1)))
 else
  some (((-1),()),()))
def adk (k:Nat):Xx (ah2):=eu (dw (dh (dw (dh (dh dx))))) (P7 k)
def GQ (k a:Nat) (b:List jl) (c e:Int):Option jk:=iter Zz (adk k) a ((),b,(),c,e,())
theorem UZ (k a b c e):GQ k (a+1) b c e=P7 k (GQ k a) b c e:=Ba _ _ _ _
def adl (k:Nat) (a:List jl):Option jk :=
 GQ k k a (a.length:Int) 0
def F130b:Fn:=⟨[DX,.pv (.lJ 345 [])],[rI],fun k x=>adl k x.1⟩
theorem ok130b:O 130 F130b:=okF (ah ok345 aj) [] (fun k=>(.loop 2 Zz (adk k) (fun g=>.nil) .nil)) Tryz.func130 rfl
def apw (k:Nat) (a:List jl):Option jy :=
 (adl k a).bind fun q0 =>
 some ((decide (q0.1.1≥0),()),())
def F57a:Fn:=⟨[DX,.pv (.lJ 345 [])],[rB],fun k x=>apw k x.1⟩
theorem ok57a:O 57 F57a:=okF (ah ok130b aj) [] On Tryz.func57 rfl
def al1 (k:Nat) (a:List jl):Option jy :=
 (apw k a).bind fun q0 =>
 some ((q0.1.1,()),())
def F317:Fn:=⟨[DX],[rB],fun k x=>al1 k x.1⟩
theorem ok317:O 317 F317:=okF (ah ok57a aj) [] On Tryz.func317 rfl
def ais (k:Nat) (a:Int):Option jk :=
 (bif decide (a<0) then
  some ((IntKind.u64.wrap (0 - (IntKind.u64.wrap a)),()),())
 else
  some ((IntKind.u64.wrap a,()),()))
def F361:Fn:=⟨[au],[.val ⟨false,(.int .u64),true⟩],fun k x=>ais k x.1⟩
theorem ok361:O 361 F361:=okF aj [] On Tryz.func361 rfl
def al2 (k:Nat) (a b:Int):Option D7 :=
 (bif decide ((Ul .u64 a 32)>0) then
  (bif decide ((Ul .u64 b 32)>0) then
   some ((0,false,()),())
  else
   (bif decide ((Ul .u64 (Uz .u64 (IntKind.u64.wrap ((Ul .u64 a 32) * (IntKind.u64.wrap (IntKind.u32.wrap b)))) (IntKind.u64.wrap ((IntKind.u64.wrap (IntKind.u32.wrap a)) * (Ul .u64 b 32)))) 32)>0) then
    some ((0,false,()),())
   else
    some ((IntKind.u64.wrap ((IntKind.u64.wrap ((IntKind.u64.wrap (IntKind.u32.wrap a)) * (IntKind.u64.wrap (IntKind.u32.wrap b))))+(Uk .u64 (Uz .u64 (IntKind.u64.wrap ((Ul .u64 a 32) * (IntKind.u64.wrap (IntKind.u32.wrap b)))) (IntKind.u64.wrap ((IntKind.u64.wrap (IntKind.u32.wrap a)) * (Ul .u64 b 32)))) 32)),decide ((IntKind.u64.wrap ((IntKind.u64.wrap ((IntKind.u64.wrap (IntKind.u32.wrap a)) * (IntKind.u64.wrap (IntKind.u32.wrap b))))+(Uk .u64 (Uz .u64 (IntKind.u64.wrap ((Ul .u64 a 32) * (IntKind.u64.wrap (IntKind.u32.wrap b)))) (IntKind.u64.wrap ((IntKind.u64.wrap (IntKind.u32.wrap a)) * (Ul .u64 b 32)))) 32)))≥(IntKind.u64.wrap ((IntKind.u64.wrap (IntKind.u32.wrap a)) * (IntKind.u64.wrap (IntKind.u32.wrap b))))),()),())))
 else
  (bif decide ((Ul .u64 (Uz .u64 (IntKind.u64.wrap ((Ul .u64 a 32) * (IntKind.u64.wrap (IntKind.u32.wrap b)))) (IntKind.u64.wrap ((IntKind.u64.wrap (IntKind.u32.wrap a)) * (Ul .u64 b 32)))) 32)>0) then
   some ((0,false,()),())
  else
   some ((IntKind.u64.wrap ((IntKind.u64.wrap ((IntKind.u64.wrap (IntKind.u32.wrap a)) * (IntKind.u64.wrap (IntKind.u32.wrap b))))+(Uk .u64 (Uz .u64 (IntKind.u64.wrap ((Ul .u64 a 32) * (IntKind.u64.wrap (IntKind.u32.wrap b)))) (IntKind.u64.wrap ((IntKind.u64.wrap (IntKind.u32.wrap a)) * (Ul .u64 b 32)))) 32)),decide ((IntKind.u64.wrap ((IntKind.u64.wrap ((IntKind.u64.wrap (IntKind.u32.wrap a)) * (IntKind.u64.wrap (IntKind.u32.wrap b))))+(Uk .u64 (Uz .u64 (IntKind.u64.wrap ((Ul .u64 a 32) * (IntKind.u64.wrap (IntKind.u32.wrap b)))) (IntKind.u64.wrap ((IntKind.u64.wrap (IntKind.u32.wrap a)) * (Ul .u64 b 32)))) 32)))≥(IntKind.u64.wrap ((IntKind.u64.wrap (IntKind.u32.wrap a)) * (IntKind.u64.wrap (IntKind.u32.wrap b))))),()),())))
def F360:Fn:=⟨[.val ⟨false,(.int .u64),false⟩,.val ⟨false,(.int .u64),false⟩],[.val ⟨false,(.int .u64),true⟩,rB],fun k x=>al2 k x.1 x.2.1⟩
theorem ok360:O 360 F360:=okF aj [] On Tryz.func360 rfl
def agR (k:Nat) (a:Bool):Option D7 :=
 (bif a then
  some (((-9223372036854775808),false,()),())
 else
  some ((9223372036854775807,false,()),()))
def F362:Fn:=⟨[.val ⟨false,.bool,false⟩],[rI,rB],fun k x=>agR k x.1⟩
theorem ok362:O 362 F362:=okF aj [] On Tryz.func362 rfl
abbrev al3:Cut:=⟨[0,1,6,7],[cI,cI,.cell .bool,.cell (.int .u64)],[],45,[]⟩
def WM (k:Nat) (a b:Int) (c:Bool) (e:Int):Option D7 :=
 (ais k a).bind fun q0 =>
 (ais k b).bind fun q1 =>
 (al2 k q0.1.1 q1.1.1).bind fun q2 =>
 (bif !q2.1.2.1 then
  (agR k c).bind fun q3 =>
  some (q3.1,())
 else
  (bif decide (q2.1.1>e) then
   (agR k c).bind fun q4 =>
   some (q4.1,())
  else
   (bif c then
    some ((IntKind.i64.wrap (IntKind.u64.wrap (0 - q2.1.1)),true,()),())
   else
    some ((IntKind.i64.wrap q2.1.1,true,()),()))))
def agS (k:Nat) (a b:Int):Option D7 :=
 (bif !((decide (a<0))==(decide (b<0))) then
  WM k a b (!((decide (a<0))==(decide (b<0)))) 9223372036854775808
 else
  WM k a b (!((decide (a<0))==(decide (b<0)))) 9223372036854775807)
def F356:Fn:=⟨[au,au],[rI,rB],fun k x=>agS k x.1 x.2.1⟩
theorem ok356:O 356 F356:=okF (ah ok360 <| ah ok361 <| ah ok362 aj) [] (fun k=>(.join 5 al3 (fun (_,a,b,c,e,_)=>WM k a b c e) .nil)) Tryz.func356 rfl
abbrev ZA:Cut:=⟨[3,5,6,7,20,21,22],[.own 2 (.int .i64),cI,.box 127 [cI,cI,cI,cI],cI,.cell p9,cI,cI],[],55,[]⟩
def P8 (k:Nat) (g8:Z8) (g12:(List Int) -> Int -> Int -> Int -> Int -> Int -> Int -> (List jl) -> Int -> Int -> Option qw) (a:List Int) (b x c e f h:Int) (i:List jl) (l m:Int):Option qw :=
 (bif decide (h <= (IntKind.i64.wrap (b+e))) then
  ix a h <|
  (agS k (rd a h 0) f).bind fun q0 =>
  ix a h <|
  g12 (upd a h q0.1.1) b x c e f (IntKind.i64.wrap (h+1)) i l m
 else
  g8 a i l (IntKind.i64.wrap (m+1)))
def adn (k:Nat) (g8:Z8):Xx (((Unit)×(List Int)×Int×(Int×Int×Int×Int×Unit)×Int×(List jl)×Int×Int×Unit) -> Option qw):=eu (dw (dh (dh (d9 (dh (dh (dh (dh dx)))) (dh (dh (dh (dh dx)))))))) (P8 k g8)
def P9 (k:Nat) (g8:Z8) (a:Nat) (b:List Int) (c x e f h i:Int) (l:List jl) (m n:Int):Option qw:=iter ZA (adn k g8) a ((),b,c,(x,e,f,h,()),i,l,m,n,())
theorem V3 (k g8 a b c x e f h i l m n):P9 k g8 (a+1) b c x e f h i l m n=P8 k g8 (P9 k g8 a) b c x e f h i l m n:=Ba _ _ _ _
abbrev ado:Cut:=⟨[3,20,21,22],[.own 2 (.int .i64),.cell p9,cI,cI],[],55,[]⟩
def WO (k:Nat) (g8:Z8) (a:List Int) (b:List jl) (c e:Int):Option qw :=
 (bif decide (e<c) then
  ix b e <|
  (bif (rd b e (0,0,0,0)).1 != 8 then
   g8 a b c (IntKind.i64.wrap (e+1))
  else
   P9 k g8 k a e (rd b e (0,0,0,0)).1 (rd b e (0,0,0,0)).2.1 (rd b e (0,0,0,0)).2.2.1 (rd b e (0,0,0,0)).2.2.2 (IntKind.i64.wrap (e+1)) b c e)
 else
  some ((a,()),()))
def ait (k:Nat):Xx (((Unit)×(List Int)×(List jl)×Int×Int×Unit) -> Option qw):=eu (dw (dh (dh (dh (dh dx))))) (WO k)
def J7 (k a:Nat) (b:List Int) (c:List jl) (e f:Int):Option qw:=iter ado (ait k) a ((),b,c,e,f,())
theorem ZB (k a b c e f):J7 k (a+1) b c e f=WO k (J7 k a) b c e f:=Ba _ _ _ _
abbrev adp:Cut:=⟨[0,3,12,13],[.cell p9,.own 2 (.int .i64),cI,cI],[],55,[]⟩
def WQ (k:Nat) (g3:(List jl) -> (List Int) -> Int -> Int -> Option qw) (a:List jl) (b:List Int) (c e:Int):Option qw :=
 (bif decide (e<c) then
  ix b e <|
  g3 a (upd b e 1) c (IntKind.i64.wrap (e+1))
 else
  J7 k k b a (a.length:Int) 0)
def aiu (k:Nat):Xx (((Unit)×(List jl)×(List Int)×Int×Int×Unit) -> Option qw):=eu (dw (dh (dh (dh (dh dx))))) (WQ k)
def LU (k a:Nat) (b:List jl) (c:List Int) (e f:Int):Option qw:=iter adp (aiu k) a ((),b,c,e,f,())
theorem ZC (k a b c e f):LU k (a+1) b c e f=WQ k (LU k a) b c e f:=Ba _ _ _ _
def al4 (k:Nat) (a:List jl):Option qw :=
 mk (a.length:Int) (a.length:Int) 8 <|
 LU k k a (List.replicate (a.length:Int).toNat (0:Int)) ((List.replicate (a.length:Int).toNat (0:Int)).length:Int) 0
def F353:Fn:=⟨[DX],[.val ⟨false,IQ,true⟩],fun k x=>al4 k x.1⟩
theorem ok353:O 353 F353:=okF (ah ok356 aj) [] (fun k=>(.loop 8 ado (ait k) (fun g=>(fun (g8:Z8)=>(.loop 12 ZA (adn k g8) (fun g=>.nil) .nil)) (fun ab5 t20 t21 t22=>g ((),ab5,t20,t21,t22,()))) (.loop 3 adp (aiu k) (fun g=>.nil) .nil))) Tryz.func353 rfl
def agT (k:Nat) (a b:Int):Option D7 :=
 (bif decide ((Um .i64 (Un .i64 a (IntKind.i64.wrap (IntKind.u64.wrap ((IntKind.u64.wrap a)+(IntKind.u64.wrap b))))) (Un .i64 b (IntKind.i64.wrap (IntKind.u64.wrap ((IntKind.u64.wrap a)+(IntKind.u64.wrap b))))))<0) then
  (agR k (decide (a<0))).bind fun q0 =>
  some (q0.1,())
 else
  some ((IntKind.i64.wrap (IntKind.u64.wrap ((IntKind.u64.wrap a)+(IntKind.u64.wrap b))),true,()),()))
def F357:Fn:=⟨[au,au],[rI,rB],fun k x=>agT k x.1 x.2.1⟩
theorem ok357:O 357 F357:=okF (ah ok362 aj) [] On Tryz.func357 rfl
abbrev adq:Cut:=⟨[2,5,6,7],[cI,.cell IQ,cI,cI],[],19,[]⟩
def WR (k:Nat) (g2:UL) (a:Int) (b:List Int) (c e:Int):Option jk :=
 (bif decide (e<c) then
  ix b e <|
  (agT k a (rd b e 0)).bind fun q0 =>
  g2 q0.1.1 b c (IntKind.i64.wrap (e+1))
 else
  some ((a,()),()))
def aiv (k:Nat):Xx (((Unit)×Int×(List Int)×Int×Int×Unit) -> Option jk):=eu (dw (dh (dh (dh (dh dx))))) (WR k)
def WS (k a:Nat) (b:Int) (c:List Int) (e f:Int):Option jk:=iter adq (aiv k) a ((),b,c,e,f,())
theorem ZE (k a b c e f):WS k (a+1) b c e f=WR k (WS k a) b c e f:=Ba _ _ _ _
def ZF (k:Nat) (a:List Int):Option jk :=
 WS k k 0 a (a.length:Int) 0
def F354:Fn:=⟨[.val ⟨false,IQ,false⟩],[rI],fun k x=>ZF k x.1⟩
theorem ok354:O 354 F354:=okF (ah ok357 aj) [] (fun k=>(.loop 2 adq (aiv k) (fun g=>.nil) .nil)) Tryz.func354 rfl
abbrev adr:Cut:=⟨[2,4,5,6,24,25,26],[.box 310 [cI,cI,.own 378 ng],.own 2 (.int .i64),cI,.own 3 (.int .i64),.cell p9,cI,cI],[],75,[]⟩
def WT (k:Nat) (g7:Int -> Int -> jw -> (List Int) -> Int -> (List Int) -> (List jl) -> Int -> Int -> Option Z4) (a b:Int) (c:oh) (e:List Int) (f:Int) (h:List Int) (i:List jl) (l m:Int):Option Z4 :=
 (bif decide (m<l) then
  ix i m <|
  (bif (rd i m (0,0,0,0)).1==11 then
   sx e f (IntKind.i64.wrap (m+1)) <|
   (ZF k (sub e f (IntKind.i64.wrap (m+1)))).bind fun q4 =>
   g7 a (mx b q4.1.1) c e (IntKind.i64.wrap (m+1)) h i l (IntKind.i64.wrap (m+1))
  else
   (bif (rd i m (0,0,0,0)).1==0 then
    sx e f (IntKind.i64.wrap (m+1)) <|
    (ZF k (sub e f (IntKind.i64.wrap (m+1)))).bind fun q5 =>
    g7 a (mx b q5.1.1) c e (IntKind.i64.wrap (m+1)) h i l (IntKind.i64.wrap (m+1))
   else
    (bif (rd i m (0,0,0,0)).1==9 then
     ix h m <|
     sx e (IntKind.i64.wrap (m+1)) (IntKind.i64.wrap ((rd h m 0)+1)) <|
     (ZF k (sub e (IntKind.i64.wrap (m+1)) (IntKind.i64.wrap ((rd h m 0)+1)))).bind fun q6 =>
     ix e m <|
     nz (rd e m 0) <|
     ap c ([((rd i m (0,0,0,0)).2.1,IntKind.i64.wrap (Int.tdiv q6.1.1 (rd e m 0)))]:List (Int×Int)) 16 fun r7 =>
     g7 a b r7 e f h i l (IntKind.i64.wrap (m+1))
    else
     g7 a b c e f h i l (IntKind.i64.wrap (m+1)))))
 else
  some (((a,b,c),true,()),()))
def aiw (k:Nat):Xx (((Unit)×(Int×Int×jw×Unit)×(List Int)×Int×(List Int)×(List jl)×Int×Int×Unit) -> Option Z4):=eu (dw (d9 (dh (dh (dh dx))) (dh (dh (dh (dh (dh (dh dx)))))))) (WT k)
def QO (k a:Nat) (b c:Int) (e:oh) (f:List Int) (h:Int) (i:List Int) (l:List jl) (m n:Int):Option Z4:=iter adr (aiw k) a ((),(b,c,e,()),f,h,i,l,m,n,())
theorem ZG (k a b c e f h i l m n):QO k (a+1) b c e f h i l m n=WT k (QO k a) b c e f h i l m n:=Ba _ _ _ _
def agU (k:Nat) (a:List jl):Option Z4 :=
 (agQ k a).bind fun q0 =>
 (bif !q0.1.1 then
  some (((0,0,[]),false,()),())
 else
  (al4 k a).bind fun q1 =>
  (aip k a).bind fun q2 =>
  (ZF k q1.1.1).bind fun q3 =>
  QO k k q3.1.1 0 ([]:List (Int×Int)) q1.1.1 0 q2.1.1 a (a.length:Int) 0)
def F346:Fn:=⟨[DX],[.val ⟨true,(.pair (.int .i64) (.pair (.int .i64) (.sl 378 ng))),true⟩,rB],fun k x=>agU k x.1⟩
theorem ok346:O 346 F346:=okF (ah ok108 <| ah ok191 <| ah ok353 <| ah ok354 aj) [(2,2)] (fun k=>(.loop 7 adr (aiw k) (fun g=>.nil) .nil)) Tryz.func346 rfl
def agV (k:Nat) (a:List jl):Option jk :=
 (agU k a).bind fun q0 =>
 some ((q0.1.1.1,()),())
def F318:Fn:=⟨[DX],[rI],fun k x=>agV k x.1⟩
theorem ok318:O 318 F318:=okF (ah ok346 aj) [] On Tryz.func318 rfl
def agW (k:Nat) (a:JZ):Option jk :=
 (bif decide (a.1<0) then
  some ((1,()),())
 else
  (bif decide (a.1>63) then
   some ((1,()),())
  else
   (bif decide (a.2.1<1) then
    some ((9,()),())
   else
    (bif decide (a.2.1>16384) then
     some ((9,()),())
    else
     (bif decide (a.2.2.1<1) then
      some ((9,()),())
     else
      (bif decide (a.2.2.1>a.2.1) then
       some ((9,()),())
      else
       (agQ k a.2.2.2.1).bind fun q0 =>
       (bif !q0.1.1 then
        some ((2,()),())
       else
        (air k a.2.2.2.2.1).bind fun q1 =>
        (bif !q1.1.1 then
         some ((2,()),())
        else
         (air k a.2.2.2.2.2).bind fun q2 =>
         (bif !q2.1.1 then
          some ((2,()),())
         else
          (al1 k a.2.2.2.2.2).bind fun q3 =>
          (bif q3.1.1 then
           some ((2,()),())
          else
           (agV k a.2.2.2.1).bind fun q4 =>
           (bif decide (q4.1.1>a.2.2.1) then
            some ((10,()),())
           else
            (agV k a.2.2.2.2.1).bind fun q5 =>
            (agV k a.2.2.2.1).bind fun q6 =>
            (bif decide (q5.1.1>q6.1.1) then
             some ((12,()),())
            else
             some ((0,()),())))))))))))))
def F247:Fn:=⟨[UQ],[rI],fun k x=>agW k x.1⟩
theorem ok247:O 247 F247:=okF (ah ok108 <| ah ok316 <| ah ok317 <| ah ok318 aj) [] On Tryz.func247 rfl
def QS (k:Nat) (a:List jl):Option FP:=qQ 32 127 UK k (a,())
def F126:Fn:=⟨dJ 127 UK,iZ 127 UK,qQ 32 127 UK⟩
theorem ok126:O 126 F126:=Kz IU mix Tryz.func126 rfl (by kernel_rfl) (by kernel_rfl) (fun k=>by kernel_rfl) (fun k xs=>by kernel_rfl) (fun k xs=>by kernel_rfl)
def aix (k:Nat) (a:JZ):Option ((jr×Unit)×Unit) :=
 (QS k a.2.2.2.1).bind fun q0 =>
 (QS k a.2.2.2.2.1).bind fun q1 =>
 (QS k a.2.2.2.2.2).bind fun q2 =>
 some (((a.1,a.2.1,a.2.2.1,q0.1.1,q1.1.1,q2.1.1),()),())
def F248:Fn:=⟨[UQ],[.val ⟨true,AJ,true⟩],fun k x=>aix k x.1⟩
theorem ok248:O 248 F248:=okF (ah ok126 aj) [] On Tryz.func248 rfl
def apx (k:Nat) (x a:JZ):Option jy :=
 some ((decide (x.1>a.1),()),())
def F249:Fn:=⟨[UQ,.pv (.ref AJ)],[rB],fun k x=>apx k x.1 x.2.1⟩
theorem ok249:O 249 F249:=okF aj [] On Tryz.func249 rfl
abbrev ads:Cut:=⟨[0,1,7,8],[.cell pq,.lJ 249 [.ref AJ],cI,cI],[],19,[]⟩
def WU (k:Nat) (g2:(List jr) -> jr -> Int -> Int -> Option jk) (a:List jr) (b:JZ) (c e:Int):Option jk :=
 (bif decide (e<c) then
  ix a e <|
  (apx k (rd a e bg) b).bind fun q0 =>
  (bif q0.1.1 then
   some ((e,()),())
  else
   g2 a b c (IntKind.i64.wrap (e+1)))
 else
  some (((-1),()),()))
def aiy (k:Nat):Xx (((Unit)×(List jr)×(jr×Unit)×Int×Int×Unit) -> Option jk):=eu (dw (dh (d9 (dh dx) (dh (dh dx))))) (WU k)
def J8 (k a:Nat) (b:List jr) (c:JZ) (e f:Int):Option jk:=iter ads (aiy k) a ((),b,(c,()),e,f,())
theorem ZH (k a b c e f):J8 k (a+1) b c e f=WU k (J8 k a) b c e f:=Ba _ _ _ _
def apy (k:Nat) (a:List jr) (b:JZ):Option jk :=
 J8 k k a b (a.length:Int) 0
def F132:Fn:=⟨[Zg,.pv (.lJ 249 [.ref AJ])],[rI],fun k x=>apy k x.1 x.2.1.1⟩
theorem ok132:O 132 F132:=okF (ah ok249 aj) [] (fun k=>(.loop 2 ads (aiy k) (fun g=>.nil) .nil)) Tryz.func132 rfl
section
variable (w:World) {g n c i g2 m c2:Nat}
theorem D9:Tryz.prog.underlying 29=some (.slice 54) /\ Tryz.prog.underlying 3=some (.int .i64) /\ Tryz.prog.underlying 4=some .bool /\ Tryz.prog.follows .mixedOrders=true /\ (∀ w,(Go.sizeOf 54).run Tryz.prog w=.ok 6 w) /\ Tryz.f250.ntmps=95:=⟨by kernel_rfl,by kernel_rfl,by kernel_rfl,by kernel_rfl,fun w=>by kernel_rfl,rfl⟩
theorem WV {v u:Value} (hv:(∃ A n c,v=.slice A n c /\ i <= n)) (hu:∃ A c,u=.slice A m c) (hm:m=0):Calls Tryz.prog 250 #[v,.int .i64 i,u] w fun e w'=>e=.returned v /\ w'=w:=by
 obtain ⟨t24,t3,t4,mixed,z36,hnt⟩:=D9
 have u24:=run_underlying t24;have u3:=run_underlying t3;have u4:=run_underlying t4
 obtain ⟨A,n,c,rfl,hi⟩:=hv
 obtain ⟨A2,c2,rfl⟩:=hu
 have hi0:(i:Int) <= (n:Int):=by omega
 have hz1:(m:Int)=0:=by omega
 cases A <;> (go_enter Tryz.func250,hnt;go_wp2 <;> (go_ret;exact ⟨rfl,rfl⟩))
theorem ZI {v:Value} {w':World} {v':Value} (hv:(∃ A c,v=.slice A n c)) (hm:0<m)
  (hr:∀ ty,(Builtin.append_ #[29,29] ty #[v,.slice (some ⟨g2,0,none⟩) m c2]).run Tryz.prog w=.ok v' w'):Calls Tryz.prog 250 #[v,.int .i64 n,.slice (some ⟨g2,0,none⟩) m c2] w fun e w1=>e=.returned v' /\ w1=w':=by
 obtain ⟨t24,t3,t4,mixed,z36,hnt⟩:=D9
 have u24:=run_underlying t24;have u3:=run_underlying t3;have u4:=run_underlying t4
 have hz1:¬ ((m:Int)=0):=by omega
 obtain ⟨A,c,rfl⟩:=hv
 go_enter Tryz.func250,hnt
 go_wp2_with (at_builtin;refine Gx rfl rfl _ _ rfl rfl (hr _) ?_)
 all_goals (go_ret;exact ⟨rfl,rfl⟩)
theorem U7 {v' v'':Value} {w' w'':World} (hi:i<n) (hm:0<m) (hroom:n+m <= c) (hc63:c <= 9223372036854775807)
  (hov:∀ lb cb,(callFunc 319 #[.slice (some ⟨g2,0,none⟩) m c2,.slice (some ⟨g,(i+m) * 6,none⟩) lb cb]).run Tryz.prog w=.ok (.value (.bool false)) w)
  (hcp1:∀ ty dc sc,(Builtin.copy_ #[29,29] ty #[.slice (some ⟨g,(i+m) * 6,none⟩) (n+m - (i+m)) dc,.slice (some ⟨g,i * 6,none⟩) (n+m - i) sc]).run Tryz.prog w.drew=.ok v' w')
  (hcp2:∀ ty dc,(Builtin.copy_ #[29,29] ty #[.slice (some ⟨g,i * 6,none⟩) (n+m - i) dc,.slice (some ⟨g2,0,none⟩) m c2]).run Tryz.prog w'=.ok v'' w'') :
  Calls Tryz.prog 250 #[.slice (some ⟨g,0,none⟩) n c,.int .i64 i,.slice (some ⟨g2,0,none⟩) m c2] w fun e w1=>e=.returned (.slice (some ⟨g,0,none⟩) (n+m) c) /\ w1=w'':=by
 obtain ⟨t24,t3,t4,mixed,z36,hnt⟩:=D9
 have u24:=run_underlying t24;have u3:=run_underlying t3;have u4:=run_underlying t4
 have hz1:¬ ((m:Int)=0):=by omega
 have hz2:¬ ((i:Int)=(n:Int)):=by omega
 have hw1:IntKind.i64.wrap ((i:Int)+(m:Int))=(i:Int)+(m:Int):=by rw [IntKind.wrap_i64];omega
 have hb1:(0:Int) <= (i:Int)+(m:Int):=by omega
 have hin:i <= n:=by omega
 have htn:((i:Int)+(m:Int)).toNat=i+m:=by omega
 have hb2:¬ (c=i+m):=by omega
 have hb3:(i:Int) <= (n:Int)+(m:Int):=by omega
 have hb4:¬ (c=i):=by omega
 go_enter Tryz.func250,hnt
 go_wp2_with (simp only [hov])
 go_region_law_o (refine Jp rfl rfl _ _ (by simp [Act.eval,Act.put]) (by simp [Act.eval,Act.put]) (hcp1 _ _ _) ?_)
 go_wp2_with (at_builtin;refine Jo rfl rfl _ _ rfl rfl (hcp2 _ _) ?_)
 go_ret
 exact ⟨rfl,rfl⟩
theorem WW {h G:Nat} {v' v'':Value} {w0 w' w'':World} (hi:i<n) (hm:0<m) (hnc:n <= c) (hroom:c<n+m) (hc63:n+m <= 140737488355328) (hG:n+m <= G) (hG63:G <= 9223372036854775807)
  (hrz:∀ ty,(Builtin.append_ #[29,3] ty #[.slice (some ⟨g,0,none⟩) i c,.int .i64 ((n:Int)+(m:Int) - (i:Int))]).run Tryz.prog w=.ok (.slice (some ⟨h,0,none⟩) (n+m) G) w0)
  (hcp1:∀ ty dc,(Builtin.copy_ #[29,29] ty #[.slice (some ⟨h,i * 6,none⟩) (n+m - i) dc,.slice (some ⟨g2,0,none⟩) m c2]).run Tryz.prog w0=.ok v' w')
  (hcp2:∀ ty dc sc,(Builtin.copy_ #[29,29] ty #[.slice (some ⟨h,(i+m) * 6,none⟩) (n+m - (i+m)) dc,.slice (some ⟨g,i * 6,none⟩) (n - i) sc]).run Tryz.prog w'.drew=.ok v'' w'') :
  Calls Tryz.prog 250 #[.slice (some ⟨g,0,none⟩) n c,.int .i64 i,.slice (some ⟨g2,0,none⟩) m c2] w fun e w1=>e=.returned (.slice (some ⟨h,0,none⟩) (n+m) G) /\ w1=w'':=by
 obtain ⟨t24,t3,t4,mixed,z36,hnt⟩:=D9
 have u24:=run_underlying t24;have u3:=run_underlying t3;have u4:=run_underlying t4
 have hz1:¬ ((m:Int)=0):=by omega
 have hz2:¬ ((i:Int)=(n:Int)):=by omega
 have hz3:(c:Int)<(n:Int)+(m:Int):=by omega
 have hw1:IntKind.i64.wrap ((i:Int)+(m:Int))=(i:Int)+(m:Int):=by rw [IntKind.wrap_i64];omega
 have hb1:(0:Int) <= (i:Int)+(m:Int):=by omega
 have hin:i <= n:=by omega
 have htn:((i:Int)+(m:Int)).toNat=i+m:=by omega
 have hGi:¬ (G=i):=by omega
 have hGim:¬ (G=i+m):=by omega
 have hci:¬ (c=i):=by omega
 have hb3:(i:Int) <= (n:Int):=by omega
 go_enter Tryz.func250,hnt
 go_wp2_with (first
  | (at_builtin;refine Gx rfl rfl _ _ rfl rfl (hrz _) ?_)
  | (at_builtin;refine Jo rfl rfl _ _ rfl rfl (hcp1 _ _) ?_))
 go_region_law_o (refine Jp rfl rfl _ _ (by simp [Act.eval,Act.put]) (by simp [Act.eval,Act.put]) (hcp2 _ _ _) ?_)
 go_wp2
 go_ret
 exact ⟨rfl,rfl⟩
end
abbrev asB:List PT:=eG 54 AJ
abbrev asC:List RT:=qU 54 AJ
def apz (k:Nat) (a:List jr) (b:Int) (c:List jr):Option (((List jr)×Unit)×Unit):=Jg 96 54 AJ k (a,b,c,())
def F250:Fn:=⟨asB,asC,Jg 96 54 AJ⟩
def aq7:Env:=tab.env (fun _=>none) (fun _=>0)
theorem al5:aH Tryz.prog aq7:=Kw Rt _ _ (fun f F h=>by cases h)
theorem ok250:O 250 F250:=by
 obtain ⟨i0,z,a1,a2,a3,a4,a5⟩:=(al5.ty 54 (AJ) (by kernel_rfl)).info
 have b1:aq7.lK 54=96:=by kernel_rfl
 have b2:Ty.sz (AJ)=6:=rfl
 rw [b1] at a3
 have hz:z.cells.size=6:=by rw [<- Array.length_toList,a5,gZ,b2]
 obtain ⟨t24,t3,t4,mixed,z36,hnt⟩:=D9
 refine Qq Tryz.func250 rfl (by kernel_rfl) ?_
 rw [b2,<- a3]
 refine Mq (S:=29) (z:=z) t24 t3 a1 a4 (by rw [a2,b2]) hz (by decide) (by rw [a3];decide) (fun w i m v u h1 h2 h3=>WV w h1 h2 h3) (fun w n g2 m c2 v v' w' h1 h2 h3=>ZI w h1 h2 h3) (fun w g n c i g2 m c2 v' v'' w' w'' h1 h2 h3 h4 h5 h6 hne hg hg2=>U7 w h1 h2 h3 h4 (fun lb cb=>?_) h5 h6) (fun w g n c i g2 m c2 h G v' v'' w0 w' w'' h1 h2 h3 h4 h5 h6 h7 h8 h9 h10=>WW w h1 h2 h3 h4 h5 h6 h7 h8 h9 h10)
 obtain ⟨cur,q1,q2⟩:=hg
 obtain ⟨xE,q3⟩:=hg2
 rw [run_callFunc_extern Tryz.func319 (by kernel_rfl) (by kernel_rfl) (by kernel_rfl) (e:=Extern.SlicesOverlaps.overlaps #[29,29] #[4]) (by kernel_rfl),Lib.run_overlaps_apart w 29 4 54 t24 6 z36 ⟨g2,0,none⟩ ⟨g,(i+m) * 6,none⟩ m c2 lb cb hne 54 54 xE.size cur.size (by simp [World.shape?,q3]) (by simp [World.shape?,q1]) q2 (Kd.fQ q3 _) (Kd.fQ q3 _)]
 rfl
abbrev adt:Cut:=⟨[0,5,6,7],[.cell pq,.cell pq,cI,cI],[],31,[]⟩
def WX (k:Nat) (g2:(List jr) -> (List jr) -> Int -> Int -> Option jy) (a b:List jr) (c e:Int):Option jy :=
 (bif decide (e<c) then
  ix b e <|
  (agW k (rd b e bg)).bind fun q0 =>
  (bif q0.1.1 != 0 then
   some ((false,()),())
  else
   (bif decide (e>0) then
    ix a (IntKind.i64.wrap (e - 1)) <|
    (bif decide ((rd a (IntKind.i64.wrap (e - 1)) bg).1≥(rd b e bg).1) then
     some ((false,()),())
    else
     g2 a b c (IntKind.i64.wrap (e+1)))
   else
    g2 a b c (IntKind.i64.wrap (e+1))))
 else
  some ((true,()),()))
def aiz (k:Nat):Xx (((Unit)×(List jr)×(List jr)×Int×Int×Unit) -> Option jy):=eu (dw (dh (dh (dh (dh dx))))) (WX k)
def LW (k a:Nat) (b c:List jr) (e f:Int):Option jy:=iter adt (aiz k) a ((),b,c,e,f,())
theorem ZJ (k a b c e f):LW k (a+1) b c e f=WX k (LW k a) b c e f:=Ba _ _ _ _
def al6 (k:Nat) (a:List jr):Option jy :=
 LW k k a a (a.length:Int) 0
def F348:Fn:=⟨[Zg],[rB],fun k x=>al6 k x.1⟩
theorem ok348:O 348 F348:=okF (ah ok247 aj) [] (fun k=>(.loop 2 adt (aiz k) (fun g=>.nil) .nil)) Tryz.func348 rfl
def apB (k:Nat) (a:Int):Option zq :=
 (bif decide (a<0) then
  none
 else
  (bif decide ((IntKind.i64.wrap (a - 0))>0) then
   az ([]:List (Int×Int)) (IntKind.i64.wrap (a - 0)) 16 (0,0) fun r0 =>
   sx r0 0 0 <|
   some ((r0.take 0,()),())
  else
   some (([],()),())))
def F359:Fn:=⟨[.pv (.nil),au],[apo],fun k x=>apB k x.2.1⟩
theorem ok359:O 359 F359:=okF aj [(25,1)] On Tryz.func359 rfl
abbrev ZK:Cut:=⟨[6,25,26,27],[.own 378 ng,.cell (.sl 308 (.sl 378 ng)),cI,cI],[],36,[]⟩
def K4 (k:Nat) (g11:jw -> (List jw) -> Int -> Int -> Option zq) (a:oh) (b:List jw) (c e:Int):Option zq :=
 (bif decide (e<c) then
  ix b e <|
  ap a (rd b e []) 16 fun r1 =>
  g11 r1 b c (IntKind.i64.wrap (e+1))
 else
  some ((a,()),()))
def adu (k:Nat):Xx (((Unit)×jw×(List jw)×Int×Int×Unit) -> Option zq):=eu (dw (dh (dh (dh (dh dx))))) (K4 k)
def K5 (k a:Nat) (b:oh) (c:List jw) (e f:Int):Option zq:=iter ZK (adu k) a ((),b,c,e,f,())
theorem LX (k a b c e f):K5 k (a+1) b c e f=K4 k (K5 k a) b c e f:=Ba _ _ _ _
abbrev adv:Cut:=⟨[0,3,9,10,11],[.cell (.sl 308 (.sl 378 ng)),cI,.cell (.sl 308 (.sl 378 ng)),cI,cI],[],36,[]⟩
def QT (k:Nat) (g3:(List jw) -> Int -> (List jw) -> Int -> Int -> Option zq) (a:List jw) (b:Int) (c:List jw) (e f:Int):Option zq :=
 (bif decide (f<e) then
  ix c f <|
  (bif decide ((IntKind.i64.wrap (b+((rd c f []).length:Int)))<0) then
   none
  else
   g3 a (IntKind.i64.wrap (b+((rd c f []).length:Int))) c e (IntKind.i64.wrap (f+1)))
 else
  (apB k b).bind fun q0 =>
  K5 k k q0.1.1 a (a.length:Int) 0)
def aiA (k:Nat):Xx (((Unit)×(List jw)×Int×(List jw)×Int×Int×Unit) -> Option zq):=eu (dw (dh (dh (dh (dh (dh dx)))))) (QT k)
def WY (k a:Nat) (b:List jw) (c:Int) (e:List jw) (f h:Int):Option zq:=iter adv (aiA k) a ((),b,c,e,f,h,())
theorem QU (k a b c e f h):WY k (a+1) b c e f h=QT k (WY k a) b c e f h:=Ba _ _ _ _
def aiB (k:Nat) (a:List jw):Option zq :=
 WY k k a 0 a (a.length:Int) 0
def F351:Fn:=⟨[.val ⟨false,(.sl 308 (.sl 378 ng)),false⟩],[apo],fun k x=>aiB k x.1⟩
theorem ok351:O 351 F351:=okF (ah ok359 aj) [] (fun k=>(.loop 11 ZK (adu k) (fun g=>.nil) (.loop 3 adv (aiA k) (fun g=>.nil) .nil))) Tryz.func351 rfl
def ZL (k:Nat) (a:JZ):Option ((Int×Int×jw×Unit)×Unit) :=
 (agW k a).bind fun q0 =>
 (bif q0.1.1 != 0 then
  some ((0,0,[],()),())
 else
  (agU k a.2.2.2.1).bind fun q1 =>
  (agU k a.2.2.2.2.1).bind fun q2 =>
  (bif q2.1.2.1 then
   (aiB k ([q1.1.1.2.2,q2.1.1.2.2]:List jw)).bind fun q3 =>
   some ((q1.1.1.1,q2.1.1.1,q3.1.1,()),())
  else
   (aiB k ([q1.1.1.2.2,q2.1.1.2.2]:List jw)).bind fun q4 =>
   some ((q1.1.1.1,q1.1.1.2.1,q4.1.1,()),())))
def F322:Fn:=⟨[UQ],[rI,rI,apo],fun k x=>ZL k x.1⟩
theorem ok322:O 322 F322:=okF (ah ok247 <| ah ok346 <| ah ok351 aj) [] On Tryz.func322 rfl
def apC (k:Nat) (a:Int):Option FP :=
 (bif decide (a<0) then
  none
 else
  (bif decide ((IntKind.i64.wrap (a - 0))>0) then
   az ([]:List jl) (IntKind.i64.wrap (a - 0)) 32 (0,0,0,0) fun r0 =>
   sx r0 0 0 <|
   some ((r0.take 0,()),())
  else
   some (([],()),())))
def F131:Fn:=⟨[.pv (.nil),au],[.val ⟨false,p9,true⟩],fun k x=>apC k x.2.1⟩
theorem ok131:O 131 F131:=okF aj [(25,1)] On Tryz.func131 rfl
abbrev adw:Cut:=⟨[6,25,26,27],[.own 127 UK,.cell (.sl 52 p9),cI,cI],[],36,[]⟩
def QV (k:Nat) (g11:(List jl) -> UM -> Int -> Int -> Option FP) (a:List jl) (b:List (List jl)) (c e:Int):Option FP :=
 (bif decide (e<c) then
  ix b e <|
  ap a (rd b e []) 32 fun r1 =>
  g11 r1 b c (IntKind.i64.wrap (e+1))
 else
  some ((a,()),()))
def aiC (k:Nat):Xx (((Unit)×(List jl)×UM×Int×Int×Unit) -> Option FP):=eu (dw (dh (dh (dh (dh dx))))) (QV k)
def QW (k a:Nat) (b:List jl) (c:List (List jl)) (e f:Int):Option FP:=iter adw (aiC k) a ((),b,c,e,f,())
theorem QX (k a b c e f):QW k (a+1) b c e f=QV k (QW k a) b c e f:=Ba _ _ _ _
abbrev aiD:Cut:=⟨[0,3,9,10,11],[.cell (.sl 52 p9),cI,.cell (.sl 52 p9),cI,cI],[],36,[]⟩
def ZM (k:Nat) (g3:UM -> Int -> UM -> Int -> Int -> Option FP) (a:List (List jl)) (b:Int) (c:List (List jl)) (e f:Int):Option FP :=
 (bif decide (f<e) then
  ix c f <|
  (bif decide ((IntKind.i64.wrap (b+((rd c f []).length:Int)))<0) then
   none
  else
   g3 a (IntKind.i64.wrap (b+((rd c f []).length:Int))) c e (IntKind.i64.wrap (f+1)))
 else
  (apC k b).bind fun q0 =>
  QW k k q0.1.1 a (a.length:Int) 0)
def aoF (k:Nat):Xx (((Unit)×UM×Int×UM×Int×Int×Unit) -> Option FP):=eu (dw (dh (dh (dh (dh (dh dx)))))) (ZM k)
def adx (k a:Nat) (b:List (List jl)) (c:Int) (e:List (List jl)) (f h:Int):Option FP:=iter aiD (aoF k) a ((),b,c,e,f,h,())
theorem WZ (k a b c e f h):adx k (a+1) b c e f h=ZM k (adx k a) b c e f h:=Ba _ _ _ _
def S58 (k:Nat) (a:List (List jl)):Option FP :=
 adx k k a 0 a (a.length:Int) 0
def F58:Fn:=⟨[.val ⟨false,(.sl 52 p9),false⟩],[.val ⟨false,p9,true⟩],fun k x=>S58 k x.1⟩
theorem ok58:O 58 F58:=okF (ah ok131 aj) [] (fun k=>(.loop 11 adw (aiC k) (fun g=>.nil) (.loop 3 aiD (aoF k) (fun g=>.nil) .nil))) Tryz.func58 rfl
def apD (k:Nat) (a:Int×Int×Int×Int) (b:Int):Option jy :=
 (bif a.1==9 then
  some ((a.2.1==b,()),())
 else
  some ((false,()),()))
def F134:Fn:=⟨[agN,Zi],[rB],fun k x=>apD k x.1 x.2.1⟩
theorem ok134:O 134 F134:=okF aj [] On Tryz.func134 rfl
abbrev ZN:Cut:=⟨[0,1,7,8],[.cell p9,.lJ 134 [.ref (.int .i64)],cI,cI],[],19,[]⟩
def PE (k:Nat) (g2:(List jl) -> Int -> Int -> Int -> Option jk) (a:List jl) (b c e:Int):Option jk :=
 (bif decide (e<c) then
  ix a e <|
  (apD k (rd a e (0,0,0,0)) b).bind fun q0 =>
  (bif q0.1.1 then
   some ((e,()),())
  else
   g2 a b c (IntKind.i64.wrap (e+1)))
 else
  some (((-1),()),()))
def ady (k:Nat):Xx (((Unit)×(List jl)×Z9×Int×Int×Unit) -> Option jk):=eu (dw (dh (d9 (dh dx) (dh (dh dx))))) (PE k)
def GR (k a:Nat) (b:List jl) (c e f:Int):Option jk:=iter ZN (ady k) a ((),b,(c,()),e,f,())
theorem V4 (k a b c e f):GR k (a+1) b c e f=PE k (GR k a) b c e f:=Ba _ _ _ _
def adz (k:Nat) (a:List jl) (b:Int):Option jk :=
 GR k k a b (a.length:Int) 0
def F130c:Fn:=⟨[DX,.pv (.lJ 134 [.ref (.int .i64)])],[rI],fun k x=>adz k x.1 x.2.1.1⟩
theorem ok130c:O 130 F130c:=okF (ah ok134 aj) [] (fun k=>(.loop 2 ZN (ady k) (fun g=>.nil) .nil)) Tryz.func130 rfl
def apE (k:Nat) (a:List jl) (b:Int):Option jy :=
 (adz k a b).bind fun q0 =>
 some ((decide (q0.1.1≥0),()),())
def F57b:Fn:=⟨[DX,.pv (.lJ 134 [.ref (.int .i64)])],[rB],fun k x=>apE k x.1 x.2.1.1⟩
theorem ok57b:O 57 F57b:=okF (ah ok130c aj) [] On Tryz.func57 rfl
def al7 (k:Nat) (a:JZ) (b:Int):Option jy :=
 (S58 k ([a.2.2.2.1,a.2.2.2.2.1]:List (List jl))).bind fun q0 =>
 (apE k q0.1.1 b).bind fun q1 =>
 some ((q1.1.1,()),())
def F133:Fn:=⟨[UQ,Zi],[rB],fun k x=>al7 k x.1 x.2.1⟩
theorem ok133:O 133 F133:=okF (ah ok57b <| ah ok58 aj) [] On Tryz.func133 rfl
abbrev ZO:Cut:=⟨[0,1,7,8],[.cell pq,.lJ 133 [.ref (.int .i64)],cI,cI],[],19,[]⟩
def PG (k:Nat) (g2:(List jr) -> Int -> Int -> Int -> Option jk) (a:List jr) (b c e:Int):Option jk :=
 (bif decide (e<c) then
  ix a e <|
  (al7 k (rd a e bg) b).bind fun q0 =>
  (bif q0.1.1 then
   some ((e,()),())
  else
   g2 a b c (IntKind.i64.wrap (e+1)))
 else
  some (((-1),()),()))
def adA (k:Nat):Xx (((Unit)×(List jr)×Z9×Int×Int×Unit) -> Option jk):=eu (dw (dh (d9 (dh dx) (dh (dh dx))))) (PG k)
def E8 (k a:Nat) (b:List jr) (c e f:Int):Option jk:=iter ZO (adA k) a ((),b,(c,()),e,f,())
theorem V5 (k a b c e f):E8 k (a+1) b c e f=PG k (E8 k a) b c e f:=Ba _ _ _ _
def aiE (k:Nat) (a:List jr) (b:Int):Option jk :=
 E8 k k a b (a.length:Int) 0
def F132a:Fn:=⟨[Zg,.pv (.lJ 133 [.ref (.int .i64)])],[rI],fun k x=>aiE k x.1 x.2.1.1⟩
theorem ok132a:O 132 F132a:=okF (ah ok133 aj) [] (fun k=>(.loop 2 ZO (adA k) (fun g=>.nil) .nil)) Tryz.func132 rfl
def S60 (k:Nat) (a:List jr) (b:Int):Option jk :=
 (aiE k a b).bind fun q0 =>
 (bif decide (q0.1.1<0) then
  some ((8,()),())
 else
  some ((q0.1.1,()),()))
def F60:Fn:=⟨[Zg,au],[rI],fun k x=>S60 k x.1 x.2.1⟩
theorem ok60:O 60 F60:=okF (ah ok132a aj) [] On Tryz.func60 rfl
abbrev aiF:Cut:=⟨[0,1,4,5,12,16,17,18,32,33,34],[.cell pq,cI,cI,.mp 431 true (.int .i64) false (.int .i64),.box 378 [cI,cI],.cell pq,cI,cI,.own 378 ng,cI,cI],[],70,[]⟩
def K6 (k:Nat) (g3:UJ) (g8:ahZ) (a:List jr) (b c:Int) (e:oh) (x f:Int) (h:List jr) (i l:Int) (m:oh) (n o:Int):Option jk :=
 (bif decide ((Us (.int .i64) (.int .i64) x e 0) <= b) then
  g8 a b (mx c f) e h i l m n (IntKind.i64.wrap (o+1))
 else
  g8 a b c e h i l m n (IntKind.i64.wrap (o+1)))
abbrev adB:Cut:=⟨[0,1,4,5,16,17,18,32,33,34],[.cell pq,cI,cI,.mp 431 true (.int .i64) false (.int .i64),.cell pq,cI,cI,.own 378 ng,cI,cI],[],70,[]⟩
def X0 (k:Nat) (g3:UJ) (g8:ahZ) (a:List jr) (b c:Int) (e:oh) (f:List jr) (h i:Int) (l:oh) (m n:Int):Option jk :=
 (bif decide (n<m) then
  ix l n <|
  (bif !(Ut (.int .i64) (.int .i64) (rd l n (0,0)).1 e) then
   (S60 k a (rd l n (0,0)).1).bind fun q1 =>
   K6 k g3 g8 a b c (vL (.int .i64) (.int .i64) (rd l n (0,0)).1 q1.1.1 e) (rd l n (0,0)).1 (rd l n (0,0)).2 f h i l m n
  else
   K6 k g3 g8 a b c e (rd l n (0,0)).1 (rd l n (0,0)).2 f h i l m n)
 else
  g3 a b c e f h (IntKind.i64.wrap (i+1)))
def aiG (k:Nat) (g3:UJ):Xx (((Unit)×(List jr)×Int×Int×jw×(List jr)×Int×Int×jw×Int×Int×Unit) -> Option jk):=eu (dw (dh (dh (dh (dh (dh (dh (dh (dh (dh (dh dx))))))))))) (X0 k g3)
def QY (k:Nat) (g3:UJ) (a:Nat) (b:List jr) (c e:Int) (f:oh) (h:List jr) (i l:Int) (m:oh) (n o:Int):Option jk:=iter adB (aiG k g3) a ((),b,c,e,f,h,i,l,m,n,o,())
theorem ZP (k g3 a b c e f h i l m n o):QY k g3 (a+1) b c e f h i l m n o=X0 k g3 (QY k g3 a) b c e f h i l m n o:=Ba _ _ _ _
abbrev adC:Cut:=⟨[0,1,4,5,16,17,18],[.cell pq,cI,cI,.mp 431 true (.int .i64) false (.int .i64),.cell pq,cI,cI],[],70,[]⟩
def X3 (k:Nat) (g3:UJ) (a:List jr) (b c:Int) (e:oh) (f:List jr) (h i:Int):Option jk :=
 (bif decide (i<h) then
  ix f i <|
  (bif i==b then
   g3 a b c e f h (IntKind.i64.wrap (i+1))
  else
   (ZL k (rd f i bg)).bind fun q0 =>
   QY k g3 k a b c e f h i q0.1.2.2.1 (q0.1.2.2.1.length:Int) 0)
 else
  some ((c,()),()))
def aiH (k:Nat):Xx (((Unit)×(List jr)×Int×Int×jw×(List jr)×Int×Int×Unit) -> Option jk):=eu (dw (dh (dh (dh (dh (dh (dh (dh dx)))))))) (X3 k)
def QZ (k a:Nat) (b:List jr) (c e:Int) (f:oh) (h:List jr) (i l:Int):Option jk:=iter adC (aiH k) a ((),b,c,e,f,h,i,l,())
theorem ZQ (k a b c e f h i l):QZ k (a+1) b c e f h i l=X3 k (QZ k a) b c e f h i l:=Ba _ _ _ _
def al8 (k:Nat) (a:List jr) (b:Int):Option jk :=
 QZ k k a b 0 ([]:List (Int×Int)) a (a.length:Int) 0
def F323:Fn:=⟨[Zg,au],[rI],fun k x=>al8 k x.1 x.2.1⟩
theorem ok323:O 323 F323:=okF (ah ok60 <| ah ok322 aj) [] (fun k=>(.loop 3 adC (aiH k) (fun g=>(fun (g3:UJ)=>(.loop 8 adB (aiG k g3) (fun g=>(fun (g8:ahZ)=>(.join 13 aiF (fun (_,a,b,c,e,(f,h,_),i,l,m,n,o,p,_)=>K6 k g3 g8 a b c e f h i l m n o p) .nil)) (fun l_2 i2 ara apF arb ard arf t32 t33 t34=>g ((),l_2,i2,ara,apF,arb,ard,arf,t32,t33,t34,()))) .nil)) (fun l_1 i1 most arh t16 t17 t18=>g ((),l_1,i1,most,arh,t16,t17,t18,()))) .nil)) Tryz.func323 rfl
def agX (k:Nat) (a:Int) (b:Bool) (c e:Int):Option ((Unit)×acY×Unit) :=
 (agS k c e).bind fun q0 =>
 (agT k a q0.1.1).bind fun q1 =>
 (bif b then
  some ((),(q1.1.1,true,()),())
 else
  (bif !q0.1.2.1 then
   some ((),(q1.1.1,true,()),())
  else
   some ((),(q1.1.1,!q1.1.2.1,()),())))
def F349:Fn:=⟨[.fK 427 [cI,.cell .bool],au,au],[],fun k ((a,b,_),c,e,_)=>agX k a b c e⟩
theorem ok349:O 349 F349:=okF (ah ok356 <| ah ok357 aj) [] On Tryz.func349 rfl
def al9 (k:Nat) (a b:Int):Option D7 :=
 (bif decide (b<1) then
  some ((0,false,()),())
 else
  (bif decide (a<0) then
   some ((0,false,()),())
  else
   nz b <|
   nz b <|
   (bif decide ((Int.tmod a b)>0) then
    some ((IntKind.i64.wrap ((IntKind.i64.wrap (Int.tdiv a b))+1),true,()),())
   else
    some ((IntKind.i64.wrap (Int.tdiv a b),true,()),()))))
def F358:Fn:=⟨[au,au],[rI,rB],fun k x=>al9 k x.1 x.2.1⟩
theorem ok358:O 358 F358:=okF aj [] On Tryz.func358 rfl
def aiI (k:Nat) (a b:Int):Option jk :=
 (al9 k a b).bind fun q0 =>
 some ((q0.1.1,()),())
def F350:Fn:=⟨[au,au],[rI],fun k x=>aiI k x.1 x.2.1⟩
theorem ok350:O 350 F350:=okF (ah ok358 aj) [] On Tryz.func350 rfl
abbrev ZR:Cut:=⟨[0,1,2,6,7,12,18,19,88,89,90],[.cell pq,cI,cI,cI,cI,cI,.box 427 [cI,.cell .bool],.box 427 [cI,.cell .bool],.cell pq,cI,cI],[],128,[]⟩
def PI (k:Nat) (g14:Z0) (g18:(List jr) -> Int -> Int -> Int -> Int -> Int -> Int -> Bool -> Int -> Bool -> (List jr) -> Int -> Int -> Option D6) (a:List jr) (b c e f h i:Int) (l:Bool) (m:Int) (n:Bool) (o:List jr) (p s:Int):Option D6 :=
 (bif decide (s<p) then
  ix o s <|
  (ZL k (rd o s bg)).bind fun q7 =>
  (aiI k e (rd o s bg).2.1).bind fun q8 =>
  (agX k m n q8.1.1 q7.1.1).bind fun q9 =>
  g18 a b c e f h i l q9.2.1.1 q9.2.1.2.1 o p (IntKind.i64.wrap (s+1))
 else
  (bif n then
   some ((0,0,13,()),())
  else
   ix a b <|
   (bif decide (m>(rd a b bg).2.2.1) then
    some ((0,0,14,()),())
   else
    (bif m==e then
     some ((e,f,0,()),())
    else
     g14 a b c m f h i l))))
def adD (k:Nat) (g14:Z0):Xx (((Unit)×(List jr)×Int×Int×Int×Int×Int×acY×acY×(List jr)×Int×Int×Unit) -> Option D6):=eu (dw (dh (dh (dh (dh (dh (dh (d9 (dh (dh dx)) (d9 (dh (dh dx)) (dh (dh (dh dx)))))))))))) (PI k g14)
def PK (k:Nat) (g14:Z0) (a:Nat) (b:List jr) (c e f h i l:Int) (m:Bool) (n:Int) (o:Bool) (p:List jr) (s t:Int):Option D6:=iter ZR (adD k g14) a ((),b,c,e,f,h,i,(l,m,()),(n,o,()),p,s,t,())
theorem V6 (k g14 a b c e f h i l m n o p s t):PK k g14 (a+1) b c e f h i l m n o p s t=PI k g14 (PK k g14 a) b c e f h i l m n o p s t:=Ba _ _ _ _
abbrev ZT:Cut:=⟨[0,1,2,6,7,12,18],[.cell pq,cI,cI,cI,cI,cI,.box 427 [cI,.cell .bool]],[],128,[]⟩
def X4 (k:Nat) (g14:Z0) (a:List jr) (b c e f h i:Int) (l:Bool):Option D6 :=
 (aiI k e c).bind fun q5 =>
 (agX k i l q5.1.1 h).bind fun q6 =>
 sx a 0 b <|
 PK k g14 k a b c e (IntKind.i64.wrap (f+1)) h i l q6.2.1.1 q6.2.1.2.1 (sub a 0 b) ((sub a 0 b).length:Int) 0
def adE (k:Nat):Xx (((Unit)×(List jr)×Int×Int×Int×Int×Int×acY×Unit) -> Option D6):=eu (dw (dh (dh (dh (dh (dh (dh (d9 (dh (dh dx)) dx)))))))) (X4 k)
def K7 (k a:Nat) (b:List jr) (c e f h i l:Int) (m:Bool):Option D6:=iter ZT (adE k) a ((),b,c,e,f,h,i,(l,m,()),())
theorem agY (k a b c e f h i l m):K7 k (a+1) b c e f h i l m=X4 k (K7 k a) b c e f h i l m:=Ba _ _ _ _
abbrev adF:Cut:=⟨[0,1,2,7,9,12,54,55,56],[.cell pq,cI,cI,cI,cI,cI,.cell pq,cI,cI],[],128,[]⟩
def X5 (k:Nat) (g6:(List jr) -> Int -> Int -> Int -> Int -> Int -> (List jr) -> Int -> Int -> Option D6) (a:List jr) (b c e f h:Int) (i:List jr) (l m:Int):Option D6 :=
 (bif decide (m<l) then
  ix i m <|
  (ZL k (rd i m bg)).bind fun q2 =>
  g6 a b c e f (mx h q2.1.2.1) i l (IntKind.i64.wrap (m+1))
 else
  (al8 k a b).bind fun q3 =>
  (agX k f false 1 q3.1.1).bind fun q4 =>
  K7 k k a b c q4.2.1.1 e h q4.2.1.1 q4.2.1.2.1)
def aiJ (k:Nat):Xx (((Unit)×(List jr)×Int×Int×Int×Int×Int×(List jr)×Int×Int×Unit) -> Option D6):=eu (dw (dh (dh (dh (dh (dh (dh (dh (dh (dh dx)))))))))) (X5 k)
def X6 (k a:Nat) (b:List jr) (c e f h i:Int) (l:List jr) (m n:Int):Option D6:=iter adF (aiJ k) a ((),b,c,e,f,h,i,l,m,n,())
theorem ZU (k a b c e f h i l m n):X6 k (a+1) b c e f h i l m n=X5 k (X6 k a) b c e f h i l m n:=Ba _ _ _ _
def ama (k:Nat) (a:List jr) (b c:Int):Option D6 :=
 (al6 k a).bind fun q0 =>
 (bif !q0.1.1 then
  some ((0,0,1,()),())
 else
  (bif decide (b<0) then
   some ((0,0,1,()),())
  else
   (bif decide (b≥(a.length:Int)) then
    some ((0,0,1,()),())
   else
    (bif decide (c<1) then
     some ((0,0,1,()),())
    else
     ix a b <|
     (ZL k (rd a b bg)).bind fun q1 =>
     sx a 0 (IntKind.i64.wrap (b+1)) <|
     X6 k k a b c 0 q1.1.1 0 (sub a 0 (IntKind.i64.wrap (b+1))) ((sub a 0 (IntKind.i64.wrap (b+1))).length:Int) 0))))
def F321:Fn:=⟨[Zg,au,au],[rI,rI,rI],fun k (a,b,c,_)=>ama k a b c⟩
theorem ok321:O 321 F321:=okF (ah ok322 <| ah ok323 <| ah ok348 <| ah ok349 <| ah ok350 aj) [] (fun k=>(.loop 14 ZT (adE k) (fun g=>(fun (g14:Z0)=>(.loop 18 ZR (adD k g14) (fun g=>.nil) .nil)) (fun l_2 i2 apG r_ amb ari first apH=>g ((),l_2,i2,apG,r_,amb,ari,(first,apH,()),()))) (.loop 6 adF (aiJ k) (fun g=>.nil) .nil))) Tryz.func321 rfl
abbrev adG:Cut:=⟨[0,1,4,16,17,18],[.cell pq,cI,.own 168 C8,.cell pq,cI,cI],[],56,[]⟩
def X7 (k:Nat) (g4:(List jr) -> Int -> FR -> (List jr) -> Int -> Int -> Option Zc) (a:List jr) (b:Int) (c:List (PN Int 5)) (e:List jr) (f h:Int):Option Zc :=
 (bif decide (h<f) then
  ix e h <|
  (ama k a h b).bind fun q0 =>
  (bif q0.1.2.2.1 != 0 then
   some ((([]:List (PN Int 5)),q0.1.2.2.1,()),())
  else
   (ZL k (rd e h bg)).bind fun q1 =>
   (al8 k a h).bind fun q2 =>
   ap c ([(q1.1.1,q1.1.2.1,q2.1.1,q0.1.1,IntKind.i64.wrap ((rd e h bg).2.2.1 - q0.1.1))]:List (PN Int 5)) 40 fun r3 =>
   g4 a b r3 e f (IntKind.i64.wrap (h+1)))
 else
  some ((c,0,()),()))
def aiK (k:Nat):Xx (((Unit)×(List jr)×Int×FR×(List jr)×Int×Int×Unit) -> Option Zc):=eu (dw (dh (dh (dh (dh (dh (dh dx))))))) (X7 k)
def X8 (k a:Nat) (b:List jr) (c:Int) (e:List (PN Int 5)) (f:List jr) (h i:Int):Option Zc:=iter adG (aiK k) a ((),b,c,e,f,h,i,())
theorem ZV (k a b c e f h i):X8 k (a+1) b c e f h i=X7 k (X8 k a) b c e f h i:=Ba _ _ _ _
def aiL (k:Nat) (a:List jr) (b:Int):Option Zc :=
 (bif decide (b<1) then
  some ((([]:List (PN Int 5)),1,()),())
 else
  X8 k k a b ([]:List (PN Int 5)) a (a.length:Int) 0)
def F251:Fn:=⟨[Zg,au],[.val ⟨false,Zd,true⟩,rI],fun k x=>aiL k x.1 x.2.1⟩
theorem ok251:O 251 F251:=okF (ah ok321 <| ah ok322 <| ah ok323 aj) [(4,2)] (fun k=>(.loop 4 adG (aiK k) (fun g=>.nil) .nil)) Tryz.func251 rfl
abbrev aiM:Cut:=⟨[2,4,13,16],[cI,.box 54 [cI,cI,cI,.cell p9,.cell p9,.cell p9],.own 54 AJ,cI],[],82,[]⟩
def K8 (k:Nat) (a b c e:Int) (f h i:List jl) (l:List jr) (m:Int):Option IL :=
 (aix k (b,c,e,f,h,i)).bind fun q4 =>
 (apz k l m ([q4.1.1]:List jr)).bind fun q5 =>
 (aiL k q5.1.1 a).bind fun q6 =>
 (bif q6.1.2.1 != 0 then
  some (([],[],q6.1.2.1,()),())
 else
  some ((q5.1.1,q6.1.1,0,()),()))
abbrev ZW:Cut:=⟨[2,4,13,46,47,48],[cI,.box 54 [cI,cI,cI,.cell p9,.cell p9,.cell p9],.own 54 AJ,.cell pq,cI,cI],[],82,[]⟩
def PL (k:Nat) (g16:Int -> Int -> Int -> Int -> (List jl) -> (List jl) -> (List jl) -> (List jr) -> (List jr) -> Int -> Int -> Option IL) (a b c e:Int) (f h i:List jl) (l m:List jr) (n o:Int):Option IL :=
 (bif decide (o<n) then
  ix m o <|
  (aix k (rd m o bg)).bind fun q1 =>
  ap l ([q1.1.1]:List jr) 96 fun r2 =>
  g16 a b c e f h i r2 m n (IntKind.i64.wrap (o+1))
 else
  (apy k l (b,c,e,f,h,i)).bind fun q3 =>
  (bif decide (q3.1.1<0) then
   K8 k a b c e f h i l (l.length:Int)
  else
   K8 k a b c e f h i l q3.1.1))
def adH (k:Nat):Xx (((Unit)×Int×aoC×(List jr)×(List jr)×Int×Int×Unit) -> Option IL):=eu (dw (dh (d9 (dh (dh (dh (dh (dh (dh dx)))))) (dh (dh (dh (dh dx))))))) (PL k)
def PO (k a:Nat) (b c e f:Int) (h i l:List jl) (m n:List jr) (o p:Int):Option IL:=iter ZW (adH k) a ((),b,(c,e,f,h,i,l,()),m,n,o,p,())
theorem V7 (k a b c e f h i l m n o p):PO k (a+1) b c e f h i l m n o p=PL k (PO k a) b c e f h i l m n o p:=Ba _ _ _ _
abbrev adI:Cut:=⟨[0,2,4,9,20,21,22],[.cell pq,cI,.box 54 [cI,cI,cI,.cell p9,.cell p9,.cell p9],.mp 343 true (.int .i64) false .bool,.cell pq,cI,cI],[],82,[]⟩
def X9 (k:Nat) (g3:(List jr) -> Int -> Int -> Int -> Int -> (List jl) -> (List jl) -> (List jl) -> (List (Int×Bool)) -> (List jr) -> Int -> Int -> Option IL) (a:List jr) (b c e f:Int) (h i l:List jl) (m:List (Int×Bool)) (n:List jr) (o p:Int):Option IL :=
 (bif decide (p<o) then
  ix n p <|
  g3 a b c e f h i l (vL (.int .i64) .bool (rd n p bg).1 true m) n o (IntKind.i64.wrap (p+1))
 else
  (agW k (c,e,f,h,i,l)).bind fun q0 =>
  (bif q0.1.1 != 0 then
   some (([],[],q0.1.1,()),())
  else
   (bif Us (.int .i64) .bool c m false then
    some (([],[],11,()),())
   else
    (bif decide ((a.length:Int)≥8) then
     some (([],[],4,()),())
    else
     PO k k b c e f h i l ([]:List jr) a (a.length:Int) 0))))
def aiN (k:Nat):Xx (((Unit)×(List jr)×Int×aoC×(List (Int×Bool))×(List jr)×Int×Int×Unit) -> Option IL):=eu (dw (dh (dh (d9 (dh (dh (dh (dh (dh (dh dx)))))) (dh (dh (dh (dh dx)))))))) (X9 k)
def Xa (k a:Nat) (b:List jr) (c e f h:Int) (i l m:List jl) (n:List (Int×Bool)) (o:List jr) (p s:Int):Option IL:=iter adI (aiN k) a ((),b,c,(e,f,h,i,l,m,()),n,o,p,s,())
theorem ZX (k a b c e f h i l m n o p s):Xa k (a+1) b c e f h i l m n o p s=X9 k (Xa k a) b c e f h i l m n o p s:=Ba _ _ _ _
def apI (k:Nat) (a:List jr) (b:JZ) (c:Int):Option IL :=
 Xa k k a c b.1 b.2.1 b.2.2.1 b.2.2.2.1 b.2.2.2.2.1 b.2.2.2.2.2 ([]:List (Int×Bool)) a (a.length:Int) 0
def F166:Fn:=⟨[Zg,UQ,au],[.val ⟨false,pq,true⟩,.val ⟨false,Zd,true⟩,rI],fun k (a,b,c,_)=>apI k a b c⟩
theorem ok166:O 166 F166:=okF (ah ok132 <| ah ok247 <| ah ok248 <| ah ok250 <| ah ok251 aj) [(13,2)] (fun k=>(.join 23 aiM (fun (_,a,(b,c,e,f,h,i,_),l,m,_)=>K8 k a b c e f h i l m) (.loop 16 ZW (adH k) (fun g=>.nil) (.loop 3 adI (aiN k) (fun g=>.nil) .nil)))) Tryz.func166 rfl
def S89 (k:Nat) (a:FN):Option NZ :=
 (bif a.1.2.2.2.2.1 then
  some ((),AU (w3 a 7),())
 else
  (apI k a.1.2.2.1 a.2.1.2.1 a.1.2.1).bind fun q0 =>
  (bif q0.1.2.2.1==0 then
   some ((),AU ((a.1.1,a.1.2.1,q0.1.1,q0.1.2.1,a.1.2.2.2.2),a.2.1,a.2.2.1,q0.1.2.2.1,a.2.2.2.2),())
  else
   some ((),AU (w3 a q0.1.2.2.1),())))
def F89:Fn:=⟨[Zf],[],fun k x=>S89 k (pz x.1)⟩
theorem ok89:O 89 F89:=okF (ah ok166 aj) [] On Tryz.func89 rfl
def apJ (k:Nat) (a:List jr):Option (((List jr)×Unit)×Unit):=qQ 96 54 AJ k (a,())
def F123:Fn:=⟨dJ 54 AJ,iZ 54 AJ,qQ 96 54 AJ⟩
theorem ok123:O 123 F123:=Kz IU mix Tryz.func123 rfl (by kernel_rfl) (by kernel_rfl) (fun k=>by kernel_rfl) (fun k xs=>by kernel_rfl) (fun k xs=>by kernel_rfl)
def apK (k:Nat) (a:List (PN Int 5)):Option ((FR×Unit)×Unit):=qQ 40 168 C8 k (a,())
def F124:Fn:=⟨dJ 168 C8,iZ 168 C8,qQ 40 168 C8⟩
theorem ok124:O 124 F124:=Kz IU mix Tryz.func124 rfl (by kernel_rfl) (by kernel_rfl) (fun k=>by kernel_rfl) (fun k xs=>by kernel_rfl) (fun k xs=>by kernel_rfl)
def apL (k:Nat) (a:List AL):Option (((List AL)×Unit)×Unit):=qQ 272 59 tu k (a,())
def F125:Fn:=⟨dJ 59 tu,iZ 59 tu,qQ 272 59 tu⟩
theorem ok125:O 125 F125:=Kz IU mix Tryz.func125 rfl (by kernel_rfl) (by kernel_rfl) (fun k=>by kernel_rfl) (fun k xs=>by kernel_rfl) (fun k xs=>by kernel_rfl)
def ab6 (k:Nat) (a:List (Int×Int×Int)):Option (((List (Int×Int×Int))×Unit)×Unit):=qQ 24 293 (.pair (.int .i64) ng) k (a,())
def F217:Fn:=⟨dJ 293 (.pair (.int .i64) ng),iZ 293 (.pair (.int .i64) ng),qQ 24 293 (.pair (.int .i64) ng)⟩
theorem ok217:O 217 F217:=Kz IU mix Tryz.func217 rfl (by kernel_rfl) (by kernel_rfl) (fun k=>by kernel_rfl) (fun k xs=>by kernel_rfl) (fun k xs=>by kernel_rfl)
def FT (k:Nat) (a:List Int):Option qw:=qQ 8 3 (.int .i64) k (a,())
def F219:Fn:=⟨dJ 3 (.int .i64),iZ 3 (.int .i64),qQ 8 3 (.int .i64)⟩
theorem ok219:O 219 F219:=Kz IU mix Tryz.func219 rfl (by kernel_rfl) (by kernel_rfl) (fun k=>by kernel_rfl) (fun k xs=>by kernel_rfl) (fun k xs=>by kernel_rfl)
def aiO (k:Nat) (a b:Int):Option jy :=
 some ((a==b,()),())
def F220:Fn:=⟨[au,Zi],[rB],fun k x=>aiO k x.1 x.2.1⟩
theorem ok220:O 220 F220:=okF aj [] On Tryz.func220 rfl
abbrev ZY:Cut:=⟨[0,1,7,8],[.cell tq,.lJ 220 [.ref (.int .i64)],cI,cI],[],19,[]⟩
def PS (k:Nat) (g2:(List Int) -> Int -> Int -> Int -> Option jk) (a:List Int) (b c e:Int):Option jk :=
 (bif decide (e<c) then
  ix a e <|
  (aiO k (rd a e 0) b).bind fun q0 =>
  (bif q0.1.1 then
   some ((e,()),())
  else
   g2 a b c (IntKind.i64.wrap (e+1)))
 else
  some (((-1),()),()))
def adJ (k:Nat):Xx (((Unit)×(List Int)×Z9×Int×Int×Unit) -> Option jk):=eu (dw (dh (d9 (dh dx) (dh (dh dx))))) (PS k)
def GU (k a:Nat) (b:List Int) (c e f:Int):Option jk:=iter ZY (adJ k) a ((),b,(c,()),e,f,())
theorem V8 (k a b c e f):GU k (a+1) b c e f=PS k (GU k a) b c e f:=Ba _ _ _ _
def adK (k:Nat) (a:List Int) (b:Int):Option jk :=
 GU k k a b (a.length:Int) 0
def F272c:Fn:=⟨[Wz,.pv (.lJ 220 [.ref (.int .i64)])],[rI],fun k x=>adK k x.1 x.2.1.1⟩
theorem ok272c:O 272 F272c:=okF (ah ok220 aj) [] (fun k=>(.loop 2 ZY (adJ k) (fun g=>.nil) .nil)) Tryz.func272 rfl
abbrev adL:Cut:=⟨[0,1,5,6],[.pin true 0,.lJ 220 [.ref (.int .i64)],cI,cI],[.fT 3 (.int .i64)],42,[]⟩
def Xb (k:Nat) (g5:(List Int) -> Int -> Int -> Int -> Option qw) (a:List Int) (b c e:Int):Option qw :=
 (bif decide (e<(a.length:Int)) then
  ix a e <|
  (aiO k (rd a e 0) b).bind fun q1 =>
  (bif !q1.1.1 then
   ix a c <|
   g5 (upd a c (rd a e 0)) b (IntKind.i64.wrap (c+1)) (IntKind.i64.wrap (e+1))
  else
   g5 a b c (IntKind.i64.wrap (e+1)))
 else
  sx a c (a.length:Int) <|
  sx (Uy a c (a.length:Int) 0) 0 c <|
  some (((Uy a c (a.length:Int) 0).take c.toNat,()),()))
def aiP (k:Nat):Xx ((((List Int)×Unit)×Unit×Z9×Int×Int×Unit) -> Option qw):=eu (d9 (dh dx) (dw (d9 (dh dx) (dh (dh dx))))) (Xb k)
def Xc (k a:Nat) (b:List Int) (c e f:Int):Option qw:=iter adL (aiP k) a ((b,()),(),(c,()),e,f,())
theorem aac (k a b c e f):Xc k (a+1) b c e f=Xb k (Xc k a) b c e f:=Ba _ _ _ _
def amc (k:Nat) (a:List Int) (b:Int):Option qw :=
 (adK k a b).bind fun q0 =>
 (bif q0.1.1==(-1) then
  some ((a,()),())
 else
  Xc k k a b q0.1.1 (IntKind.i64.wrap (q0.1.1+1)))
def F218:Fn:=⟨[.give 3 (.int .i64),.pv (.lJ 220 [.ref (.int .i64)])],[ah4],fun k x=>amc k x.1 x.2.1.1⟩
theorem ok218:O 218 F218:=okF (ah ok220 <| ah ok272c aj) [(41,1)] (fun k=>(.loop 5 adL (aiP k) (fun g=>.nil) .nil)) Tryz.func218 rfl
def agZ (k:Nat) (a:acW) (b:Int):Option ((AL×Unit)×Unit) :=
 (ab6 k a.2.2.2.2.1.2.2.1).bind fun q0 =>
 (ab6 k a.2.2.2.2.2.1.2.2.1).bind fun q1 =>
 (FT k a.2.2.2.2.2.2.1).bind fun q2 =>
 (amc k q2.1.1 b).bind fun q3 =>
 some (((w6 (w5 (w4 a (a.2.2.2.2.1.1,a.2.2.2.2.1.2.1,q0.1.1,a.2.2.2.2.1.2.2.2)) (a.2.2.2.2.2.1.1,a.2.2.2.2.2.1.2.1,q1.1.1,a.2.2.2.2.2.1.2.2.2)) q3.1.1),()),())
def F127:Fn:=⟨[.val ⟨true,tu,false⟩,au],[.val ⟨true,tu,true⟩],fun k x=>agZ k x.1 x.2.1⟩
theorem ok127:O 127 F127:=okF (ah ok217 <| ah ok218 <| ah ok219 aj) [] On Tryz.func127 rfl
def U8 (k:Nat) (a:List Bool):Option (((List Bool)×Unit)×Unit):=qQ 1 4 .bool k (a,())
def F263:Fn:=⟨dJ 4 .bool,iZ 4 .bool,qQ 1 4 .bool⟩
theorem ok263:O 263 F263:=Kz IU mix Tryz.func263 rfl (by kernel_rfl) (by kernel_rfl) (fun k=>by kernel_rfl) (fun k xs=>by kernel_rfl) (fun k xs=>by kernel_rfl)
def aad (k:Nat) (a:List Int):Option qw:=qQ 8 2 (.int .i64) k (a,())
def F287:Fn:=⟨dJ 2 (.int .i64),iZ 2 (.int .i64),qQ 8 2 (.int .i64)⟩
theorem ok287:O 287 F287:=Kz IU mix Tryz.func287 rfl (by kernel_rfl) (by kernel_rfl) (fun k=>by kernel_rfl) (fun k xs=>by kernel_rfl) (fun k xs=>by kernel_rfl)
def aae (k:Nat) (a:oh):Option zq:=qQ 16 266 C9 k (a,())
def F256:Fn:=⟨dJ 266 C9,iZ 266 C9,qQ 16 266 C9⟩
theorem ok256:O 256 F256:=Kz IU mix Tryz.func256 rfl (by kernel_rfl) (by kernel_rfl) (fun k=>by kernel_rfl) (fun k xs=>by kernel_rfl) (fun k xs=>by kernel_rfl)
def aiQ (k:Nat) (x:YX):Option ((qo×Unit)×Unit) :=
 (aad k x.2.2.2.1.1).bind fun q0 =>
 (FT k x.2.2.2.1.2).bind fun q1 =>
 (aae k x.2.2.2.2.1.2).bind fun q2 =>
 some (((w4 (w3 x (q0.1.1,q1.1.1)) (x.2.2.2.2.1.1,q2.1.1)),()),())
def F222:Fn:=⟨[ac1],[.val ⟨true,IG,true⟩],fun k x=>aiQ k x.1⟩
theorem ok222:O 222 F222:=okF (ah ok219 <| ah ok256 <| ah ok287 aj) [] On Tryz.func222 rfl
abbrev adM:Cut:=⟨[2,3,17,18,19],[.box 38 [.nil,.nil,.nil],.box 38 [.own 3 (.int .i64),.own 4 .bool,.own 142 IG],.cell O1,cI,cI],[],32,[]⟩
def Xd (k:Nat) (g3:(List Int) -> (List Bool) -> (List qo) -> (List qo) -> Int -> Int -> Option QH) (a:List Int) (b:List Bool) (c e:List qo) (f h:Int):Option QH :=
 (bif decide (h<f) then
  ix e h <|
  (aiQ k (rd e h bf)).bind fun q2 =>
  ap c ([q2.1.1]:List qo) 128 fun r3 =>
  g3 a b r3 e f (IntKind.i64.wrap (h+1))
 else
  some ((((a,b),c),()),()))
def aiR (k:Nat):Xx (((Unit)×(Unit×Unit×Unit×Unit)×aoD×(List qo)×Int×Int×Unit) -> Option QH):=eu (dw (d9 (dw (dw (dw dx))) (d9 (dh (dh (dh dx))) (dh (dh (dh dx)))))) (Xd k)
def LY (k a:Nat) (b:List Int) (c:List Bool) (e f:List qo) (h i:Int):Option QH:=iter adM (aiR k) a ((),((),(),(),()),(b,c,e,()),f,h,i,())
theorem aaf (k a b c e f h i):LY k (a+1) b c e f h i=Xd k (LY k a) b c e f h i:=Ba _ _ _ _
def U9 (k:Nat) (a:EZ×List qo):Option QH :=
 (FT k a.1.1).bind fun q0 =>
 (U8 k a.1.2).bind fun q1 =>
 LY k k q0.1.1 q1.1.1 ([]:List qo) a.2 (a.2.length:Int) 0
def F185:Fn:=⟨[UN],[acZ],fun k x=>U9 k x.1⟩
theorem ok185:O 185 F185:=okF (ah ok219 <| ah ok222 <| ah ok263 aj) [(15,2)] (fun k=>(.loop 3 adM (aiR k) (fun g=>.nil) .nil)) Tryz.func185 rfl
def ab7 (k:Nat) (a:EZ×List qo) (b:Int):Option jy :=
 (bif decide (b≥0) then
  (bif decide (b<(a.2.length:Int)) then
   ix a.2 b <|
   some (((rd a.2 b bf).1 != 0,()),())
  else
   some ((false,()),()))
 else
  some ((false,()),()))
def F186:Fn:=⟨[UN,au],[rB],fun k x=>ab7 k x.1 x.2.1⟩
theorem ok186:O 186 F186:=okF aj [] On Tryz.func186 rfl
abbrev adN:Cut:=⟨[3,6,7,8,9,10],[.cell (.int .u32),.cell (.int .u64),cI,.cell IQ,cI,cI],[],34,[]⟩
def Xe (k:Nat) (g3:UL) (g6:Int -> Int -> Int -> (List Int) -> Int -> Int -> Option jk) (a b c:Int) (e:List Int) (f h:Int):Option jk :=
 (bif decide (c<8) then
  g6 (Un .u32 (Uz .u32 (Uk .u32 a 5) (Ul .u32 a 27)) (IntKind.u32.wrap (IntKind.u8.wrap b))) (Ul .u64 b 8) (IntKind.i64.wrap (c+1)) e f h
 else
  g3 a e f (IntKind.i64.wrap (h+1)))
def aiS (k:Nat) (g3:UL):Xx (((Unit)×Int×Int×Int×(List Int)×Int×Int×Unit) -> Option jk):=eu (dw (dh (dh (dh (dh (dh (dh dx))))))) (Xe k g3)
def Xf (k:Nat) (g3:UL) (a:Nat) (b c e:Int) (f:List Int) (h i:Int):Option jk:=iter adN (aiS k g3) a ((),b,c,e,f,h,i,())
theorem aag (k g3 a b c e f h i):Xf k g3 (a+1) b c e f h i=Xe k g3 (Xf k g3 a) b c e f h i:=Ba _ _ _ _
abbrev adO:Cut:=⟨[3,8,9,10],[.cell (.int .u32),.cell IQ,cI,cI],[],34,[]⟩
def Xg (k:Nat) (g3:UL) (a:Int) (b:List Int) (c e:Int):Option jk :=
 (bif decide (e<c) then
  ix b e <|
  Xf k g3 k a (IntKind.u64.wrap (rd b e 0)) 0 b c e
 else
  some ((a,()),()))
def aiT (k:Nat):Xx (((Unit)×Int×(List Int)×Int×Int×Unit) -> Option jk):=eu (dw (dh (dh (dh (dh dx))))) (Xg k)
def LZ (k a:Nat) (b:Int) (c:List Int) (e f:Int):Option jk:=iter adO (aiT k) a ((),b,c,e,f,())
theorem aah (k a b c e f):LZ k (a+1) b c e f=Xg k (LZ k a) b c e f:=Ba _ _ _ _
def Xh (k:Nat) (a:List Int):Option jk :=
 LZ k k 2166136261 a (a.length:Int) 0
def F288:Fn:=⟨[.val ⟨false,IQ,false⟩],[.val ⟨false,(.int .u32),true⟩],fun k x=>Xh k x.1⟩
theorem ok288:O 288 F288:=okF aj [] (fun k=>(.loop 3 adO (aiT k) (fun g=>(fun (g3:UL)=>(.loop 6 adN (aiS k g3) (fun g=>.nil) .nil)) (fun h t8 t9 t10=>g ((),h,t8,t9,t10,()))) .nil)) Tryz.func288 rfl
abbrev aai:Cut:=⟨[3,61,62,63],[.own 2 (.int .i64),.cell (.sl 266 C9),cI,cI],[],78,[]⟩
def PU (k:Nat) (g11:(List Int) -> jw -> Int -> Int -> Option jk) (a:List Int) (b:oh) (c e:Int):Option jk :=
 (bif decide (e<c) then
  ix b e <|
  ap a ([(rd b e (0,0)).1,IntKind.i64.wrap (rd b e (0,0)).2]:List Int) 8 fun r4 =>
  g11 r4 b c (IntKind.i64.wrap (e+1))
 else
  (Xh k a).bind fun q5 =>
  some ((q5.1.1,()),()))
def adP (k:Nat):Xx (((Unit)×(List Int)×jw×Int×Int×Unit) -> Option jk):=eu (dw (dh (dh (dh (dh dx))))) (PU k)
def PW (k a:Nat) (b:List Int) (c:oh) (e f:Int):Option jk:=iter aai (adP k) a ((),b,c,e,f,())
theorem V9 (k a b c e f):PW k (a+1) b c e f=PU k (PW k a) b c e f:=Ba _ _ _ _
abbrev adQ:Cut:=⟨[1,3,41,42,43],[.box 142 [cI,cI,cI,cI,cI,.cell IQ,.cell tq,.cell (.int .u32),.cell (.sl 266 C9),.cell (.int .u32)],.own 2 (.int .i64),.cell tq,cI,cI],[],78,[]⟩
def Xi (k:Nat) (g5:Int -> Int -> Int -> Int -> Int -> (List Int) -> (List Int) -> Int -> jw -> Int -> (List Int) -> (List Int) -> Int -> Int -> Option jk) (a b c e f:Int) (h i:List Int) (l:Int) (m:oh) (n:Int) (o p:List Int) (s t:Int):Option jk :=
 (bif decide (t<s) then
  ix p t <|
  ap o ([rd p t 0]:List Int) 8 fun r2 =>
  g5 a b c e f h i l m n r2 p s (IntKind.i64.wrap (t+1))
 else
  ap o ([IntKind.i64.wrap l]:List Int) 8 fun r3 =>
  PW k k r3 m (m.length:Int) 0)
def aiU (k:Nat):Xx (((Unit)×(Int×Int×Int×Int×Int×(List Int)×(List Int)×Int×jw×Int×Unit)×(List Int)×(List Int)×Int×Int×Unit) -> Option jk):=eu (dw (d9 (dh (dh (dh (dh (dh (dh (dh (dh (dh (dh dx)))))))))) (dh (dh (dh (dh dx)))))) (Xi k)
def Xj (k a:Nat) (b c e f h:Int) (i l:List Int) (m:Int) (n:oh) (o:Int) (p s:List Int) (t u:Int):Option jk:=iter adQ (aiU k) a ((),(b,c,e,f,h,i,l,m,n,o,()),p,s,t,u,())
theorem aaj (k a b c e f h i l m n o p s t u):Xj k (a+1) b c e f h i l m n o p s t u=Xi k (Xj k a) b c e f h i l m n o p s t u:=Ba _ _ _ _
def ab8 (k:Nat) (x:YX):Option jk :=
 ap ([x.1,x.2.1.1,x.2.1.2,x.2.2.1.1,x.2.2.1.2,(x.2.2.2.1.1.length:Int)]:List Int) x.2.2.2.1.1 8 fun r0 =>
 ap r0 ([(x.2.2.2.1.2.length:Int)]:List Int) 8 fun r1 =>
 Xj k k x.1 x.2.1.1 x.2.1.2 x.2.2.1.1 x.2.2.1.2 x.2.2.2.1.1 x.2.2.2.1.2 x.2.2.2.2.1.1 x.2.2.2.2.1.2 x.2.2.2.2.2 r1 x.2.2.2.1.2 (x.2.2.2.1.2.length:Int) 0
def F223:Fn:=⟨[ac1],[.val ⟨false,(.int .u32),true⟩],fun k x=>ab8 k x.1⟩
theorem ok223:O 223 F223:=okF (ah ok288 aj) [] (fun k=>(.loop 11 aai (adP k) (fun g=>.nil) (.loop 5 adQ (aiU k) (fun g=>.nil) .nil))) Tryz.func223 rfl
def ab9 (k:Nat) (x:YX):Option ((qo×Unit)×Unit) :=
 (ab8 k x).bind fun q0 =>
 some (((z5 x q0.1.1),()),())
def F221:Fn:=⟨[ac1],[.val ⟨true,IG,false⟩],fun k x=>ab9 k x.1⟩
theorem ok221:O 221 F221:=okF (ah ok223 aj) [] On Tryz.func221 rfl
def II (k:Nat) (a:EZ×List qo) (b:Int) (x:YX):Option QH :=
 (U9 k a).bind fun q0 =>
 (ab7 k a b).bind fun q1 =>
 (bif !q1.1.1 then
  some ((q0.1.1,()),())
 else
  ix a.2 b <|
  (aiQ k ((rd a.2 b bf).1,(rd a.2 b bf).2.1,x.2.2)).bind fun q2 =>
  (ab9 k q2.1.1).bind fun q3 =>
  (ab8 k (rd a.2 b bf)).bind fun q4 =>
  (bif (rd a.2 b bf).2.2.2.2.2 != q4.1.1 then
   ix q0.1.1.2 b <|
   some (((q0.1.1.1,upd q0.1.1.2 b (z5 q3.1.1 (Uo .u32 q3.1.1.2.2.2.2.2))),()),())
  else
   ix q0.1.1.2 b <|
   some (((q0.1.1.1,upd q0.1.1.2 b q3.1.1),()),())))
def F128:Fn:=⟨[UN,au,ac1],[acZ],fun k (a,b,c,_)=>II k a b c⟩
theorem ok128:O 128 F128:=okF (ah ok185 <| ah ok186 <| ah ok221 <| ah ok222 <| ah ok223 aj) [] On Tryz.func128 rfl
def ag0 (k:Nat) (a:QI):Option ((EZ×Unit)×Unit) :=
 (FT k a.1).bind fun q0 =>
 (U8 k a.2).bind fun q1 =>
 some (((q0.1.1,q1.1.1),()),())
def F224:Fn:=⟨[QJ],[UO],fun k x=>ag0 k x.1⟩
theorem ok224:O 224 F224:=okF (ah ok219 <| ah ok263 aj) [] On Tryz.func224 rfl
def acd (k:Nat) (a:QI) (b:Int):Option ((EZ×Unit)×Unit) :=
 (ag0 k a).bind fun q0 =>
 (bif decide (b≥0) then
  (bif decide (b<(q0.1.1.1.length:Int)) then
   ix q0.1.1.1 b <|
   some (((upd q0.1.1.1 b 0,q0.1.1.2),()),())
  else
   some ((q0.1.1,()),()))
 else
  some ((q0.1.1,()),()))
def F129:Fn:=⟨[QJ,au],[UO],fun k x=>acd k x.1 x.2.1⟩
theorem ok129:O 129 F129:=okF (ah ok224 aj) [] On Tryz.func129 rfl
abbrev aiV:Cut:=⟨[1,2,54,55],[.box 42 [cI,cI,.own 54 AJ,.own 168 C8,.cell .bool,.cell .bool,.cell .bool,.own 59 tu,.cell tq,.cell D8,.cell O1,.cell tq,.cell D8],.box 42 [cI,cI,.nil,.nil,.cell .bool,.cell .bool,.cell .bool,.nil,.nil,.nil,.nil,.nil,.nil],cI,cI],[],77,[(53,3)]⟩
def adR (k:Nat) (g8:FM -> Int -> Int -> Bool -> Bool -> Bool -> Int -> Int -> Option F6) (a:BD) (b c:Int) (e f h:Bool) (i l:Int):Option F6 :=
 (bif decide (l<i) then
  ix a.2.2.2.2.2.2.2.1 l <|
  (agZ k (rd a.2.2.2.2.2.2.2.1 l ay) (-1)).bind fun q7 =>
  ix a.2.2.2.2.2.2.2.1 l <|
  g8 (w7 a (upd a.2.2.2.2.2.2.2.1 l q7.1.1)) b c e f h i (IntKind.i64.wrap (l+1))
 else
  (II k a.2.2.2.2.2.2.2.2.1 (-1) bf).bind fun q8 =>
  (acd k a.2.2.2.2.2.2.2.2.2 (-1)).bind fun q9 =>
  some (((w8 (z9 a q9.1.1) q8.1.1),()),()))
def aoG (k:Nat) (g:((Unit)×y9×NV×Int×Int×Unit) -> Option F6) (d:(Unit)×y9×NV×Int×Int×Unit):Option F6:=adR k (fun a b c e f h i l=>g ((),OT a,(b,c,(),(),e,f,h,(),(),(),(),(),(),()),i,l,())) (tvK d.2.1) d.2.2.1.1 d.2.2.1.2.1 d.2.2.1.2.2.2.2.1 d.2.2.1.2.2.2.2.2.1 d.2.2.1.2.2.2.2.2.2.1 d.2.2.2.1 d.2.2.2.2.1
def adS (k a:Nat) (b:BD) (c e:Int) (f h i:Bool) (l m:Int):Option F6:=iter aiV (aoG k) a ((),OT b,(c,e,(),(),f,h,i,(),(),(),(),(),(),()),l,m,())
theorem adT (k a b c e f h i l m):adS k (a+1) b c e f h i l m=adR k (adS k a) b c e f h i l m:=Ba _ _ _ _
abbrev aiW:Cut:=⟨[1,2,21,22],[.box 42 [cI,cI,.own 54 AJ,.own 168 C8,.cell .bool,.cell .bool,.cell .bool,.own 59 tu,.cell tq,.cell D8,.cell O1,.cell tq,.cell D8],.box 42 [cI,cI,.nil,.nil,.cell .bool,.cell .bool,.cell .bool,.nil,.nil,.nil,.nil,.nil,.nil],cI,cI],[],77,[(20,1)]⟩
def adU (k:Nat) (g3:FM -> Int -> Int -> Bool -> Bool -> Bool -> Int -> Int -> Option F6) (a:BD) (b c:Int) (e f h:Bool) (i l:Int):Option F6 :=
 (bif decide (l<i) then
  ix a.2.2.1 l <|
  (QS k (rd a.2.2.1 l bg).2.2.2.1).bind fun q3 =>
  (QS k (rd a.2.2.1 l bg).2.2.2.2.1).bind fun q4 =>
  (QS k (rd a.2.2.1 l bg).2.2.2.2.2).bind fun q5 =>
  ix a.2.2.1 l <|
  ix (upd a.2.2.1 l (w3 (rd a.2.2.1 l bg) q3.1.1)) l <|
  let r6:List jr:=upd (upd a.2.2.1 l (w3 (rd a.2.2.1 l bg) q3.1.1)) l (w4 (rd (upd a.2.2.1 l (w3 (rd a.2.2.1 l bg) q3.1.1)) l bg) q4.1.1)
  ix r6 l <|
  g3 (a.1,a.2.1,upd r6 l (z5 (rd r6 l bg) q5.1.1),a.2.2.2) b c e f h i (IntKind.i64.wrap (l+1))
 else
  adS k k a b c e f h (a.2.2.2.2.2.2.2.1.length:Int) 0)
def aoH (k:Nat) (g:((Unit)×y9×NV×Int×Int×Unit) -> Option F6) (d:(Unit)×y9×NV×Int×Int×Unit):Option F6:=adU k (fun a b c e f h i l=>g ((),OT a,(b,c,(),(),e,f,h,(),(),(),(),(),(),()),i,l,())) (tvK d.2.1) d.2.2.1.1 d.2.2.1.2.1 d.2.2.1.2.2.2.2.1 d.2.2.1.2.2.2.2.2.1 d.2.2.1.2.2.2.2.2.2.1 d.2.2.2.1 d.2.2.2.2.1
def adV (k a:Nat) (b:BD) (c e:Int) (f h i:Bool) (l m:Int):Option F6:=iter aiW (aoH k) a ((),OT b,(c,e,(),(),f,h,i,(),(),(),(),(),(),()),l,m,())
theorem adW (k a b c e f h i l m):adV k (a+1) b c e f h i l m=adU k (adV k a) b c e f h i l m:=Ba _ _ _ _
def S56 (k:Nat) (a:BD):Option F6 :=
 (apJ k a.2.2.1).bind fun q0 =>
 (apK k a.2.2.2.1).bind fun q1 =>
 (apL k a.2.2.2.2.2.2.2.1).bind fun q2 =>
 adV k k (w7 (w3 (w2 a q0.1.1) q1.1.1) q2.1.1) 0 0 false false false (q0.1.1.length:Int) 0
def F56:Fn:=⟨[Zh],[ac0],fun k x=>S56 k x.1⟩
theorem ok56:O 56 F56:=okF (ah ok123 <| ah ok124 <| ah ok125 <| ah ok126 <| ah ok127 <| ah ok128 <| ah ok129 aj) [] (fun k=>(.loop 8 aiV (aoG k) (fun g=>.nil) (.loop 3 aiW (aoH k) (fun g=>.nil) .nil))) Tryz.func56 rfl
def aiX (k:Nat) (a:acW) (b:Int):Option jk :=
 some ((IntKind.i64.wrap (a.1 - b),()),())
def F142:Fn:=⟨[.val ⟨true,tu,false⟩,au],[rI],fun k x=>aiX k x.1 x.2.1⟩
theorem ok142:O 142 F142:=okF aj [] On Tryz.func142 rfl
abbrev adX:Cut:=⟨[0,1,2,8,9,10],[.cell (.sl 59 tu),cI,.lJ 142 [],cI,cI,cI],[],49,[]⟩
def ace (k:Nat) (g3:(List AL) -> Int -> Int -> Int -> Int -> Option D7) (a:List AL) (b c e f:Int):Option D7 :=
 (bif decide (e<f) then
  ix a (IntKind.i64.wrap (Ul .u64 (IntKind.u64.wrap (IntKind.i64.wrap (e+f))) 1)) <|
  (aiX k (rd a (IntKind.i64.wrap (Ul .u64 (IntKind.u64.wrap (IntKind.i64.wrap (e+f))) 1)) ay) b).bind fun q0 =>
  (bif decide (q0.1.1<0) then
   g3 a b c (IntKind.i64.wrap ((IntKind.i64.wrap (Ul .u64 (IntKind.u64.wrap (IntKind.i64.wrap (e+f))) 1))+1)) f
  else
   g3 a b c e (IntKind.i64.wrap (Ul .u64 (IntKind.u64.wrap (IntKind.i64.wrap (e+f))) 1)))
 else
  (bif decide (e<c) then
   ix a e <|
   (aiX k (rd a e ay) b).bind fun q1 =>
   some ((e,q1.1.1==0,()),())
  else
   some ((e,false,()),())))
def aiY (k:Nat):Xx (((Unit)×(List AL)×Int×Unit×Int×Int×Int×Unit) -> Option D7):=eu (dw (dh (dh (dw (dh (dh (dh dx))))))) (ace k)
def R6 (k a:Nat) (b:List AL) (c e f h:Int):Option D7:=iter adX (aiY k) a ((),b,c,(),e,f,h,())
theorem aiZ (k a b c e f h):R6 k (a+1) b c e f h=ace k (R6 k a) b c e f h:=Ba _ _ _ _
def apM (k:Nat) (x:List AL) (a:Int):Option D7 :=
 R6 k k x a (x.length:Int) 0 (x.length:Int)
def F141:Fn:=⟨[.val ⟨false,(.sl 59 tu),false⟩,au,.pv (.lJ 142 [])],[rI,rB],fun k x=>apM k x.1 x.2.1⟩
theorem ok141:O 141 F141:=okF (ah ok142 aj) [] (fun k=>(.loop 3 adX (aiY k) (fun g=>.nil) .nil)) Tryz.func141 rfl
def S71 (k:Nat) (a:BD) (b:Int):Option D7 :=
 (apM k a.2.2.2.2.2.2.2.1 b).bind fun q0 =>
 some (q0.1,())
def F71:Fn:=⟨[.pv (.ref acV),au],[rI,rB],fun k x=>S71 k x.1 x.2.1⟩
theorem ok71:O 71 F71:=okF (ah ok141 aj) [] On Tryz.func71 rfl
section
variable (w:World) {g n c i j:Nat}
theorem R7:Tryz.prog.underlying 31=some (.slice 59) /\ Tryz.prog.underlying 3=some (.int .i64) /\ Tryz.prog.underlying 4=some .bool /\ Tryz.prog.follows .mixedOrders=true /\ (∀ w,(Go.sizeOf 59).run Tryz.prog w=.ok 28 w) /\ Tryz.f72.ntmps=33:=⟨by kernel_rfl,by kernel_rfl,by kernel_rfl,by kernel_rfl,fun w=>by kernel_rfl,rfl⟩
theorem aak {v:Value} (hv:(∃ A n c,v=.slice A n c /\ i <= n /\ n <= c /\ c <= 9223372036854775807)):Calls Tryz.prog 72 #[v,.int .i64 i,.int .i64 i] w fun e w'=>e=.returned v /\ w'=w:=by
 obtain ⟨t24,t3,t4,mixed,z36,hnt⟩:=R7
 have u24:=run_underlying t24;have u3:=run_underlying t3;have u4:=run_underlying t4
 obtain ⟨A,n,c,rfl,hi,hnc,hc63⟩:=hv
 have hi0:(i:Int) <= (n:Int):=by omega
 have hi1:(0:Int) <= (i:Int):=by omega
 cases A <;> (go_enter Tryz.func72,hnt;go_wp2 <;> (go_ret;exact ⟨rfl,rfl⟩))
theorem aal {w' w'':World} (hlt:i<j) (hj:j <= n) (hnc:n <= c) (hc63:c <= 9223372036854775807)
  (hap:∀ ty A,(c≠j -> A=(⟨g,j * 28,none⟩:Addr)) -> (Builtin.append_ #[31,31] ty #[.slice (some ⟨g,0,none⟩) i c,.slice (some A) (n - j) (c - j)]).run Tryz.prog w.drew=.ok (.slice (some ⟨g,0,none⟩) (i+(n - j)) c) w')
  (hcl:∀ ty dc,(Builtin.clear_ #[31] ty #[.slice (some ⟨g,(i+(n - j)) * 28,none⟩) (n - (i+(n - j))) dc]).run Tryz.prog w'=.ok (.tuple #[]) w'') :
  Calls Tryz.prog 72 #[.slice (some ⟨g,0,none⟩) n c,.int .i64 i,.int .i64 j] w fun e w1=>e=.returned (.slice (some ⟨g,0,none⟩) (i+(n - j)) c) /\ w1=w'':=by
 obtain ⟨t24,t3,t4,mixed,z36,hnt⟩:=R7
 have u24:=run_underlying t24;have u3:=run_underlying t3;have u4:=run_underlying t4
 have hi0:(i:Int) <= (n:Int):=by omega
 have hj0:(j:Int) <= (n:Int):=by omega
 have hij:(i:Int) <= (j:Int):=by omega
 have hne:¬ ((i:Int)=(j:Int)):=by omega
 have hic:i <= c:=by omega
 have hjc:j <= c:=by omega
 have hln:i+(n - j) <= n:=by omega
 have hlc:i+(n - j) <= c:=by omega
 have hci:¬ (c=i+(n - j)):=by omega
 obtain ⟨A,hA,hA'⟩:∃ A:Addr,(if c=j then some (⟨g,0,none⟩:Addr) else some ⟨g,j * 28,none⟩)=some A /\ (c≠j -> A=(⟨g,j * 28,none⟩:Addr)):=by
  by_cases h:c=j
  · exact ⟨_,if_pos h,fun q=>absurd h q⟩
  · exact ⟨_,if_neg h,fun _=>rfl⟩
 try simp only [Nat.mul_one] at hA hcl
 go_enter Tryz.func72,hnt
 go_wp2_with fail
 go_region_law_o (refine Gz rfl rfl _ _ (by simp [Act.eval,Act.put]) (by simp [Act.eval,Act.put,hA]) (hap _ _ hA') ?_)
 go_wp2_with (at_builtin;refine Ji rfl rfl _ rfl (hcl _ _) ?_)
 go_ret
 exact ⟨rfl,rfl⟩
end
abbrev P72:List PT:=iG 59 tu
abbrev R72:List RT:=qV 59 tu
def S72 (k:Nat) (a:List AL) (i j:Int):Option (((List AL)×Unit)×Unit):=Jk 59 tu k (a,i,j,())
def F72:Fn:=⟨P72,R72,Jk 59 tu⟩
def E72:Env:=tab.env (fun _=>none) (fun _=>0)
theorem apO:aH Tryz.prog E72:=Kw Rt _ _ (fun f F h=>by cases h)
theorem ok72:O 72 F72:=by
 obtain ⟨i0,z,a1,a2,a3,a4,a5⟩:=(apO.ty 59 (tu) (by kernel_rfl)).info
 have b2:Ty.sz (tu)=28:=rfl
 have hz:z.cells.size=28:=by rw [<- Array.length_toList,a5,gZ,b2]
 obtain ⟨t24,t3,t4,mixed,z36,hnt⟩:=R7
 refine Qu Tryz.func72 rfl (by kernel_rfl) ?_
 rw [b2]
 exact Mr (S:=31) (z:=z) t24 a1 a4 (by rw [a2,b2]) hz (fun v hv=>tT (tu) v (by rw [<- a5];exact hv)) (by decide) (fun w i v h=>aak w h) (fun w g n c i j w' w'' h1 h2 h3 h4 h5 h6=>aal w h1 h2 h3 h4 h5 h6)
def UA (k:Nat) (a:Int):Option ((YW×Unit)×Unit) :=
 some (((0,(a,0,0,0,0,0,0,0),[],false),()),())
def F109:Fn:=⟨[au],[.val ⟨true,(.pair (.int .i64) (.pair (Am 8 (.int .i64)) (.pair (.sl 293 (.pair (.int .i64) ng)) .bool))),true⟩],fun k x=>UA k x.1⟩
theorem ok109:O 109 F109:=okF aj [] On Tryz.func109 rfl
def S74 (k:Nat) (a b c:Int):Option ((AL×Unit)×Unit) :=
 (UA k c).bind fun q0 =>
 (UA k c).bind fun q1 =>
 some (((a,b,c,0,q0.1.1,q1.1.1,[],false),()),())
def F74:Fn:=⟨[au,au,au],[.val ⟨true,tu,true⟩],fun k (a,b,c,_)=>S74 k a b c⟩
theorem ok74:O 74 F74:=okF (ah ok109 aj) [] On Tryz.func74 rfl
section
variable (w:World) {g n c i g2 m c2:Nat}
theorem FU:Tryz.prog.underlying 31=some (.slice 59) /\ Tryz.prog.underlying 3=some (.int .i64) /\ Tryz.prog.underlying 4=some .bool /\ Tryz.prog.follows .mixedOrders=true /\ (∀ w,(Go.sizeOf 59).run Tryz.prog w=.ok 28 w) /\ Tryz.f73.ntmps=95:=⟨by kernel_rfl,by kernel_rfl,by kernel_rfl,by kernel_rfl,fun w=>by kernel_rfl,rfl⟩
theorem aam {v u:Value} (hv:(∃ A n c,v=.slice A n c /\ i <= n)) (hu:∃ A c,u=.slice A m c) (hm:m=0):Calls Tryz.prog 73 #[v,.int .i64 i,u] w fun e w'=>e=.returned v /\ w'=w:=by
 obtain ⟨t24,t3,t4,mixed,z36,hnt⟩:=FU
 have u24:=run_underlying t24;have u3:=run_underlying t3;have u4:=run_underlying t4
 obtain ⟨A,n,c,rfl,hi⟩:=hv
 obtain ⟨A2,c2,rfl⟩:=hu
 have hi0:(i:Int) <= (n:Int):=by omega
 have hz1:(m:Int)=0:=by omega
 cases A <;> (go_enter Tryz.func73,hnt;go_wp2 <;> (go_ret;exact ⟨rfl,rfl⟩))
theorem acf {v:Value} {w':World} {v':Value} (hv:(∃ A c,v=.slice A n c)) (hm:0<m)
  (hr:∀ ty,(Builtin.append_ #[31,31] ty #[v,.slice (some ⟨g2,0,none⟩) m c2]).run Tryz.prog w=.ok v' w'):Calls Tryz.prog 73 #[v,.int .i64 n,.slice (some ⟨g2,0,none⟩) m c2] w fun e w1=>e=.returned v' /\ w1=w':=by
 obtain ⟨t24,t3,t4,mixed,z36,hnt⟩:=FU
 have u24:=run_underlying t24;have u3:=run_underlying t3;have u4:=run_underlying t4
 have hz1:¬ ((m:Int)=0):=by omega
 obtain ⟨A,c,rfl⟩:=hv
 go_enter Tryz.func73,hnt
 go_wp2_with (at_builtin;refine Gx rfl rfl _ _ rfl rfl (hr _) ?_)
 all_goals (go_ret;exact ⟨rfl,rfl⟩)
theorem Xk {v' v'':Value} {w' w'':World} (hi:i<n) (hm:0<m) (hroom:n+m <= c) (hc63:c <= 9223372036854775807)
  (hov:∀ lb cb,(callFunc 143 #[.slice (some ⟨g2,0,none⟩) m c2,.slice (some ⟨g,(i+m) * 28,none⟩) lb cb]).run Tryz.prog w=.ok (.value (.bool false)) w)
  (hcp1:∀ ty dc sc,(Builtin.copy_ #[31,31] ty #[.slice (some ⟨g,(i+m) * 28,none⟩) (n+m - (i+m)) dc,.slice (some ⟨g,i * 28,none⟩) (n+m - i) sc]).run Tryz.prog w.drew=.ok v' w')
  (hcp2:∀ ty dc,(Builtin.copy_ #[31,31] ty #[.slice (some ⟨g,i * 28,none⟩) (n+m - i) dc,.slice (some ⟨g2,0,none⟩) m c2]).run Tryz.prog w'=.ok v'' w'') :
  Calls Tryz.prog 73 #[.slice (some ⟨g,0,none⟩) n c,.int .i64 i,.slice (some ⟨g2,0,none⟩) m c2] w fun e w1=>e=.returned (.slice (some ⟨g,0,none⟩) (n+m) c) /\ w1=w'':=by
 obtain ⟨t24,t3,t4,mixed,z36,hnt⟩:=FU
 have u24:=run_underlying t24;have u3:=run_underlying t3;have u4:=run_underlying t4
 have hz1:¬ ((m:Int)=0):=by omega
 have hz2:¬ ((i:Int)=(n:Int)):=by omega
 have hw1:IntKind.i64.wrap ((i:Int)+(m:Int))=(i:Int)+(m:Int):=by rw [IntKind.wrap_i64];omega
 have hb1:(0:Int) <= (i:Int)+(m:Int):=by omega
 have hin:i <= n:=by omega
 have htn:((i:Int)+(m:Int)).toNat=i+m:=by omega
 have hb2:¬ (c=i+m):=by omega
 have hb3:(i:Int) <= (n:Int)+(m:Int):=by omega
 have hb4:¬ (c=i):=by omega
 go_enter Tryz.func73,hnt
 go_wp2_with (simp only [hov])
 go_region_law_o (refine Jp rfl rfl _ _ (by simp [Act.eval,Act.put]) (by simp [Act.eval,Act.put]) (hcp1 _ _ _) ?_)
 go_wp2_with (at_builtin;refine Jo rfl rfl _ _ rfl rfl (hcp2 _ _) ?_)
 go_ret
 exact ⟨rfl,rfl⟩
theorem aan {h G:Nat} {v' v'':Value} {w0 w' w'':World} (hi:i<n) (hm:0<m) (hnc:n <= c) (hroom:c<n+m) (hc63:n+m <= 140737488355328) (hG:n+m <= G) (hG63:G <= 9223372036854775807)
  (hrz:∀ ty,(Builtin.append_ #[31,3] ty #[.slice (some ⟨g,0,none⟩) i c,.int .i64 ((n:Int)+(m:Int) - (i:Int))]).run Tryz.prog w=.ok (.slice (some ⟨h,0,none⟩) (n+m) G) w0)
  (hcp1:∀ ty dc,(Builtin.copy_ #[31,31] ty #[.slice (some ⟨h,i * 28,none⟩) (n+m - i) dc,.slice (some ⟨g2,0,none⟩) m c2]).run Tryz.prog w0=.ok v' w')
  (hcp2:∀ ty dc sc,(Builtin.copy_ #[31,31] ty #[.slice (some ⟨h,(i+m) * 28,none⟩) (n+m - (i+m)) dc,.slice (some ⟨g,i * 28,none⟩) (n - i) sc]).run Tryz.prog w'.drew=.ok v'' w'') :
  Calls Tryz.prog 73 #[.slice (some ⟨g,0,none⟩) n c,.int .i64 i,.slice (some ⟨g2,0,none⟩) m c2] w fun e w1=>e=.returned (.slice (some ⟨h,0,none⟩) (n+m) G) /\ w1=w'':=by
 obtain ⟨t24,t3,t4,mixed,z36,hnt⟩:=FU
 have u24:=run_underlying t24;have u3:=run_underlying t3;have u4:=run_underlying t4
 have hz1:¬ ((m:Int)=0):=by omega
 have hz2:¬ ((i:Int)=(n:Int)):=by omega
 have hz3:(c:Int)<(n:Int)+(m:Int):=by omega
 have hw1:IntKind.i64.wrap ((i:Int)+(m:Int))=(i:Int)+(m:Int):=by rw [IntKind.wrap_i64];omega
 have hb1:(0:Int) <= (i:Int)+(m:Int):=by omega
 have hin:i <= n:=by omega
 have htn:((i:Int)+(m:Int)).toNat=i+m:=by omega
 have hGi:¬ (G=i):=by omega
 have hGim:¬ (G=i+m):=by omega
 have hci:¬ (c=i):=by omega
 have hb3:(i:Int) <= (n:Int):=by omega
 go_enter Tryz.func73,hnt
 go_wp2_with (first
  | (at_builtin;refine Gx rfl rfl _ _ rfl rfl (hrz _) ?_)
  | (at_builtin;refine Jo rfl rfl _ _ rfl rfl (hcp1 _ _) ?_))
 go_region_law_o (refine Jp rfl rfl _ _ (by simp [Act.eval,Act.put]) (by simp [Act.eval,Act.put]) (hcp2 _ _ _) ?_)
 go_wp2
 go_ret
 exact ⟨rfl,rfl⟩
end
abbrev P73:List PT:=eG 59 tu
abbrev R73:List RT:=qU 59 tu
def S73 (k:Nat) (a:List AL) (b:Int) (c:List AL):Option (((List AL)×Unit)×Unit):=Jg 272 59 tu k (a,b,c,())
def F73:Fn:=⟨P73,R73,Jg 272 59 tu⟩
def E73:Env:=tab.env (fun _=>none) (fun _=>0)
theorem apP:aH Tryz.prog E73:=Kw Rt _ _ (fun f F h=>by cases h)
theorem ok73:O 73 F73:=by
 obtain ⟨i0,z,a1,a2,a3,a4,a5⟩:=(apP.ty 59 (tu) (by kernel_rfl)).info
 have b1:E73.lK 59=272:=by kernel_rfl
 have b2:Ty.sz (tu)=28:=rfl
 rw [b1] at a3
 have hz:z.cells.size=28:=by rw [<- Array.length_toList,a5,gZ,b2]
 obtain ⟨t24,t3,t4,mixed,z36,hnt⟩:=FU
 refine Qq Tryz.func73 rfl (by kernel_rfl) ?_
 rw [b2,<- a3]
 refine Mq (S:=31) (z:=z) t24 t3 a1 a4 (by rw [a2,b2]) hz (by decide) (by rw [a3];decide) (fun w i m v u h1 h2 h3=>aam w h1 h2 h3) (fun w n g2 m c2 v v' w' h1 h2 h3=>acf w h1 h2 h3) (fun w g n c i g2 m c2 v' v'' w' w'' h1 h2 h3 h4 h5 h6 hne hg hg2=>Xk w h1 h2 h3 h4 (fun lb cb=>?_) h5 h6) (fun w g n c i g2 m c2 h G v' v'' w0 w' w'' h1 h2 h3 h4 h5 h6 h7 h8 h9 h10=>aan w h1 h2 h3 h4 h5 h6 h7 h8 h9 h10)
 obtain ⟨cur,q1,q2⟩:=hg
 obtain ⟨xE,q3⟩:=hg2
 rw [run_callFunc_extern Tryz.func143 (by kernel_rfl) (by kernel_rfl) (by kernel_rfl) (e:=Extern.SlicesOverlaps.overlaps #[31,31] #[4]) (by kernel_rfl),Lib.run_overlaps_apart w 31 4 59 t24 28 z36 ⟨g2,0,none⟩ ⟨g,(i+m) * 28,none⟩ m c2 lb cb hne 59 59 xE.size cur.size (by simp [World.shape?,q3]) (by simp [World.shape?,q1]) q2 (Kd.fQ q3 _) (Kd.fQ q3 _)]
 rfl
abbrev amd:Cut:=⟨[1,2,3,6,9,10],[cI,cI,.box 42 [cI,cI,.own 54 AJ,.own 168 C8,.cell .bool,.cell .bool,.cell .bool,.own 59 tu,.own 3 (.int .i64),.own 4 .bool,.own 142 IG,.own 3 (.int .i64),.own 4 .bool],.box 42 [cI,cI,.nil,.nil,.cell .bool,.cell .bool,.cell .bool,.nil,.nil,.nil,.nil,.nil,.nil],.own 51 acX,cI],[],98,[]⟩
def R8 (k:Nat) (a b:Int) (c:BD) (e f:Int) (h i l:Bool) (m:List (PN Int 6)) (n:Int):Option ((FM×(List (PN Int 6))×Int×Unit)×Unit) :=
 (S74 k a c.1 b).bind fun q4 =>
 (S73 k c.2.2.2.2.2.2.2.1 n ([q4.1.1]:List AL)).bind fun q5 =>
 ap m ([(c.1,1,a,0,b,0)]:List (PN Int 6)) 48 fun r6 =>
 some (((w7 c q5.1.1),r6,0,()),())
abbrev ame:Cut:=⟨[1,2,3,6],[cI,cI,.box 42 [cI,cI,.own 54 AJ,.own 168 C8,.cell .bool,.cell .bool,.cell .bool,.own 59 tu,.own 3 (.int .i64),.own 4 .bool,.own 142 IG,.own 3 (.int .i64),.own 4 .bool],.box 42 [cI,cI,.nil,.nil,.cell .bool,.cell .bool,.cell .bool,.nil,.nil,.nil,.nil,.nil,.nil]],[],98,[]⟩
def Xl (k:Nat) (a b:Int) (c:BD) (e f:Int) (h i l:Bool):Option ((FM×(List (PN Int 6))×Int×Unit)×Unit) :=
 (S71 k c a).bind fun q1 =>
 (bif q1.1.2.1 then
  ix c.2.2.2.2.2.2.2.1 q1.1.1 <|
  (bif (rd c.2.2.2.2.2.2.2.1 q1.1.1 ay).2.2.2.1 != 2 then
   some ((c,[],5,()),())
  else
   ap ([]:List (PN Int 6)) ([(c.1,13,a,0,0,0)]:List (PN Int 6)) 48 fun r2 =>
   (S72 k c.2.2.2.2.2.2.2.1 q1.1.1 (IntKind.i64.wrap (q1.1.1+1))).bind fun q3 =>
   R8 k a b (w7 c q3.1.1) e f h i l r2 q1.1.1)
 else
  R8 k a b c e f h i l ([]:List (PN Int 6)) q1.1.1)
def S30 (k:Nat) (a:BD) (b c:Int):Option ((FM×(List (PN Int 6))×Int×Unit)×Unit) :=
 (S56 k a).bind fun q0 =>
 (bif !q0.1.1.2.2.2.2.1 then
  some ((q0.1.1,[],8,()),())
 else
  (bif q0.1.1.2.2.2.2.2.1 then
   some ((q0.1.1,[],17,()),())
  else
   (bif decide (b<0) then
    some ((q0.1.1,[],3,()),())
   else
    (bif decide (b≥(q0.1.1.2.2.1.length:Int)) then
     some ((q0.1.1,[],3,()),())
    else
     (bif decide (b<(q0.1.1.2.2.2.2.2.2.2.2.2.2.length:Int)) then
      ix q0.1.1.2.2.2.2.2.2.2.2.2.2 b <|
      (bif rd q0.1.1.2.2.2.2.2.2.2.2.2.2 b false then
       some ((q0.1.1,[],6,()),())
      else
       Xl k b c q0.1.1 0 0 false false false)
     else
      Xl k b c q0.1.1 0 0 false false false)))))
def F30:Fn:=⟨[Zh,au,au],[ac0,.val ⟨false,(.sl 51 acX),true⟩,rI],fun k (a,b,c,_)=>S30 k a b c⟩
theorem ok30:O 30 F30:=okF (ah ok56 <| ah ok71 <| ah ok72 <| ah ok73 <| ah ok74 aj) [(9,2)] (fun k=>(.join 17 amd (fun d=>R8 k d.2.1 d.2.2.1 (tvK d.2.2.2.1) d.2.2.2.2.1.1 d.2.2.2.2.1.2.1 d.2.2.2.2.1.2.2.2.2.1 d.2.2.2.2.1.2.2.2.2.2.1 d.2.2.2.2.1.2.2.2.2.2.2.1 d.2.2.2.2.2.1 d.2.2.2.2.2.2.1) (.join 10 ame (fun d=>Xl k d.2.1 d.2.2.1 (tvK d.2.2.2.1) d.2.2.2.2.1.1 d.2.2.2.2.1.2.1 d.2.2.2.2.1.2.2.2.2.1 d.2.2.2.2.1.2.2.2.2.2.1 d.2.2.2.2.1.2.2.2.2.2.2.1) .nil))) Tryz.func30 rfl
def S99 (k:Nat) (a:BD):Option F6 :=
 (S30 k a (-1) 0).bind fun q0 =>
 some ((q0.1.1,()),())
def F99:Fn:=⟨[Zh],[ac0],fun k x=>S99 k x.1⟩
theorem ok99:O 99 F99:=okF (ah ok30 aj) [] On Tryz.func99 rfl
def ai0 (k:Nat) (a:QI):Option ((EZ×Unit)×Unit) :=
 (FT k a.1).bind fun q0 =>
 (U8 k a.2).bind fun q1 =>
 some (((q0.1.1,q1.1.1),()),())
def F324:Fn:=⟨[QJ],[UO],fun k x=>ai0 k x.1⟩
theorem ok324:O 324 F324:=okF (ah ok219 <| ah ok263 aj) [] On Tryz.func324 rfl
def ai1 (k:Nat) (a:QI):Option jk :=
 some ((mn (a.1.length:Int) (a.2.length:Int),()),())
def F326:Fn:=⟨[QJ],[rI],fun k x=>ai1 k x.1⟩
theorem ok326:O 326 F326:=okF aj [] On Tryz.func326 rfl
abbrev adY:Cut:=⟨[0,1,7,8],[.cell D8,.cell .bool,cI,cI],[],19,[]⟩
def Xm (k:Nat) (g2:(List Bool) -> Bool -> Int -> Int -> Option jk) (a:List Bool) (b:Bool) (c e:Int):Option jk :=
 (bif decide (e<c) then
  ix a e <|
  (bif b==(rd a e false) then
   some ((e,()),())
  else
   g2 a b c (IntKind.i64.wrap (e+1)))
 else
  some (((-1),()),()))
def ai2 (k:Nat):Xx (((Unit)×(List Bool)×Bool×Int×Int×Unit) -> Option jk):=eu (dw (dh (dh (dh (dh dx))))) (Xm k)
def M0 (k a:Nat) (b:List Bool) (c:Bool) (e f:Int):Option jk:=iter adY (ai2 k) a ((),b,c,e,f,())
theorem aao (k a b c e f):M0 k (a+1) b c e f=Xm k (M0 k a) b c e f:=Ba _ _ _ _
def ai3 (k:Nat) (a:List Bool) (b:Bool):Option jk :=
 M0 k k a b (a.length:Int) 0
def F325:Fn:=⟨[.val ⟨false,D8,false⟩,.val ⟨false,.bool,false⟩],[rI],fun k x=>ai3 k x.1 x.2.1⟩
theorem ok325:O 325 F325:=okF aj [] (fun k=>(.loop 2 adY (ai2 k) (fun g=>.nil) .nil)) Tryz.func325 rfl
def amf (k:Nat) (a:QI):Option ((EZ×(Int×Int)×Bool×Unit)×Unit) :=
 (ai0 k a).bind fun q0 =>
 (ai1 k q0.1.1).bind fun q1 =>
 sx q0.1.1.2 0 q1.1.1 <|
 (ai3 k (sub q0.1.1.2 0 q1.1.1) false).bind fun q2 =>
 (bif decide (q2.1.1<0) then
  some ((q0.1.1,(0,0),false,()),())
 else
  ix q0.1.1.1 q2.1.1 <|
  ix q0.1.1.1 q2.1.1 <|
  ix q0.1.1.2 q2.1.1 <|
  ix (upd q0.1.1.1 q2.1.1 (IntKind.i64.wrap ((rd q0.1.1.1 q2.1.1 0)+1))) q2.1.1 <|
  some (((upd q0.1.1.1 q2.1.1 (IntKind.i64.wrap ((rd q0.1.1.1 q2.1.1 0)+1)),upd q0.1.1.2 q2.1.1 true),(q2.1.1,rd (upd q0.1.1.1 q2.1.1 (IntKind.i64.wrap ((rd q0.1.1.1 q2.1.1 0)+1))) q2.1.1 0),true,()),()))
def F252:Fn:=⟨[QJ],[UO,.val ⟨true,ng,true⟩,rB],fun k x=>amf k x.1⟩
theorem ok252:O 252 F252:=okF (ah ok324 <| ah ok325 <| ah ok326 aj) [] On Tryz.func252 rfl
def ag1 (k:Nat) (a:Int) (b:Int×Int):Option ((qo×Unit)×Unit) :=
 (bif a==1 then
  some (((a,b,(8,0),([],[]),(0,[]),0),()),())
 else
  some (((a,b,(0,0),([],[]),(0,[]),0),()),()))
def F233:Fn:=⟨[au,ah5],[.val ⟨true,IG,true⟩],fun k x=>ag1 k x.1 x.2.1⟩
theorem ok233:O 233 F233:=okF aj [] On Tryz.func233 rfl
abbrev adZ:Cut:=⟨[1,4,5,7,8,9,20,21,22],[cI,.box 38 [.nil,.nil,.nil],.box 95 [cI,cI],.mp 253 false (.int .i64) false (.int .i64),.box 38 [.own 3 (.int .i64),.own 4 .bool,.own 142 IG],cI,.cell O1,cI,cI],[],72,[]⟩
def Xn (k:Nat) (g4:Int -> Int -> Int -> jw -> (List Int) -> (List Bool) -> (List qo) -> Int -> (List qo) -> Int -> Int -> Option Z6) (a b c:Int) (e:oh) (f:List Int) (h:List Bool) (i:List qo) (l:Int) (m:List qo) (n o:Int):Option Z6 :=
 (bif decide (o<n) then
  ix m o <|
  (bif (rd m o bf).1==a then
   g4 a b c e f h i (IntKind.i64.wrap (l+1)) m n (IntKind.i64.wrap (o+1))
  else
   g4 a b c e f h i l m n (IntKind.i64.wrap (o+1)))
 else
  (amf k (f,h)).bind fun q1 =>
  (bif decide (l≥(Us (.int .i64) (.int .i64) a e 0)) then
   some ((((f,h),i),(0,0),false,()),())
  else
   (bif !q1.1.2.2.1 then
    some ((((f,h),i),(0,0),false,()),())
   else
    (bif decide (q1.1.2.1.1≥(i.length:Int)) then
     some ((((f,h),i),(0,0),false,()),())
    else
     (ag1 k a q1.1.2.1).bind fun q2 =>
     (ab9 k q2.1.1).bind fun q3 =>
     ix i q1.1.2.1.1 <|
     some (((q1.1.1,upd i q1.1.2.1.1 q3.1.1),q1.1.2.1,true,()),())))))
def ai4 (k:Nat):Xx (((Unit)×Int×(Unit×Unit×Unit×Unit)×(Int×Int×Unit)×jw×aoD×Int×(List qo)×Int×Int×Unit) -> Option Z6):=eu (dw (dh (d9 (dw (dw (dw dx))) (d9 (dh (dh dx)) (dh (d9 (dh (dh (dh dx))) (dh (dh (dh (dh dx)))))))))) (Xn k)
def Xo (k a:Nat) (b c e:Int) (f:oh) (h:List Int) (i:List Bool) (l:List qo) (m:Int) (n:List qo) (o p:Int):Option Z6:=iter adZ (ai4 k) a ((),b,((),(),(),()),(c,e,()),f,(h,i,l,()),m,n,o,p,())
theorem aap (k a b c e f h i l m n o p):Xo k (a+1) b c e f h i l m n o p=Xn k (Xo k a) b c e f h i l m n o p:=Ba _ _ _ _
def amg (k:Nat) (a:EZ×List qo) (b:Int):Option Z6 :=
 (U9 k a).bind fun q0 =>
 Xo k k b 0 0 (vL (.int .i64) (.int .i64) 3 4 (vL (.int .i64) (.int .i64) 2 4 (vL (.int .i64) (.int .i64) 1 4 ([]:List (Int×Int))))) q0.1.1.1.1 q0.1.1.1.2 q0.1.1.2 0 a.2 (a.2.length:Int) 0
def F167:Fn:=⟨[UN,au],[acZ,.val ⟨true,ng,true⟩,rB],fun k x=>amg k x.1 x.2.1⟩
theorem ok167:O 167 F167:=okF (ah ok185 <| ah ok221 <| ah ok233 <| ah ok252 aj) [] (fun k=>(.loop 4 adZ (ai4 k) (fun g=>.nil) .nil)) Tryz.func167 rfl
abbrev apQ:Cut:=⟨[0,2],[.pin false 0,.mp 253 false (.int .i64) false (.int .i64)],[.fK 175 [cI,cI,.cell pq,.cell Zd,.cell .bool,.cell .bool,.cell .bool,.cell (.sl 59 tu),.cell tq,.cell D8,.cell O1,.cell tq,.cell D8,cI,cI,cI,cI,.cell p9,.cell p9,.cell p9,cI,cI,cI,cI,.cell (.int .u32),.own 51 acX,cI,cI,cI,cI]],58,[]⟩
def aaq (k:Nat) (a:FN) (b:oh):Option NZ :=
 (amg k a.1.2.2.2.2.2.2.2.2.1 (Us (.int .i64) (.int .i64) a.2.1.1 b 0)).bind fun q0 =>
 (bif !q0.1.2.2.1 then
  some ((),AU (w3 a 4),())
 else
  some ((),AU (w4 (w0 a (w8 a.1 q0.1.1)) q0.1.2.1),()))
def S90 (k:Nat) (a:FN):Option NZ :=
 (bif a.2.1.1==2 then
  (bif a.1.2.2.2.2.1 then
   some ((),AU (w3 a 7),())
  else
   aaq k a (vL (.int .i64) (.int .i64) 4 3 (vL (.int .i64) (.int .i64) 3 2 (vL (.int .i64) (.int .i64) 2 1 ([]:List (Int×Int))))))
 else
  aaq k a (vL (.int .i64) (.int .i64) 4 3 (vL (.int .i64) (.int .i64) 3 2 (vL (.int .i64) (.int .i64) 2 1 ([]:List (Int×Int))))))
def F90:Fn:=⟨[Zf],[],fun k x=>S90 k (pz x.1)⟩
theorem ok90:O 90 F90:=okF (ah ok167 aj) [] (fun k=>(.join 3 apQ (fun d=>aaq k (pz d.1.1) d.2.2.1) .nil)) Tryz.func90 rfl
abbrev ad1:Cut:=⟨[2,6,7,8],[.own 3 (.int .i64),.cell O1,cI,cI],[],22,[]⟩
def Xp (k:Nat) (g2:(List Int) -> (List qo) -> Int -> Int -> Option qw) (a:List Int) (b:List qo) (c e:Int):Option qw :=
 (bif decide (e<c) then
  ix b e <|
  (bif (rd b e bf).1==1 then
   ap a ([e]:List Int) 8 fun r0 =>
   g2 r0 b c (IntKind.i64.wrap (e+1))
  else
   g2 a b c (IntKind.i64.wrap (e+1)))
 else
  some ((a,()),()))
def ai5 (k:Nat):Xx (((Unit)×(List Int)×(List qo)×Int×Int×Unit) -> Option qw):=eu (dw (dh (dh (dh (dh dx))))) (Xp k)
def Xq (k a:Nat) (b:List Int) (c:List qo) (e f:Int):Option qw:=iter ad1 (ai5 k) a ((),b,c,e,f,())
theorem aar (k a b c e f):Xq k (a+1) b c e f=Xp k (Xq k a) b c e f:=Ba _ _ _ _
def aas (k:Nat) (a:EZ×List qo):Option qw :=
 Xq k k ([]:List Int) a.2 (a.2.length:Int) 0
def F107:Fn:=⟨[UN],[ah4],fun k x=>aas k x.1⟩
theorem ok107:O 107 F107:=okF aj [(2,2)] (fun k=>(.loop 2 ad1 (ai5 k) (fun g=>.nil) .nil)) Tryz.func107 rfl
abbrev ai6:Cut:=⟨[1,2,7,8,9],[.box 42 [cI,cI,.cell pq,.cell Zd,.cell .bool,.cell .bool,.cell .bool,.cell (.sl 59 tu),.cell tq,.cell D8,.cell O1,.cell tq,.cell D8],.own 121 ng,.own 3 (.int .i64),cI,cI],[],25,[]⟩
def ad2 (k:Nat) (g2:FM -> jw -> (List Int) -> Int -> Int -> Option zq) (a:BD) (b:oh) (c:List Int) (e f:Int):Option zq :=
 (bif decide (f<e) then
  ix c f <|
  ix a.2.2.2.2.2.2.2.2.1.2 (rd c f 0) <|
  ap b ([(rd a.2.2.2.2.2.2.2.2.1.2 (rd c f 0) bf).2.2.1]:List (Int×Int)) 16 fun r1 =>
  g2 a r1 c e (IntKind.i64.wrap (f+1))
 else
  some ((b,()),()))
def aoI (k:Nat) (g:((Unit)×y9×jw×(List Int)×Int×Int×Unit) -> Option zq) (d:(Unit)×y9×jw×(List Int)×Int×Int×Unit):Option zq:=ad2 k (fun a b c e f=>g ((),OT a,b,c,e,f,())) (tvK d.2.1) d.2.2.1 d.2.2.2.1 d.2.2.2.2.1 d.2.2.2.2.2.1
def ad3 (k a:Nat) (b:BD) (c:oh) (e:List Int) (f h:Int):Option zq:=iter ai6 (aoI k) a ((),OT b,c,e,f,h,())
theorem ad4 (k a b c e f h):ad3 k (a+1) b c e f h=ad2 k (ad3 k a) b c e f h:=Ba _ _ _ _
def S48 (k:Nat) (a:BD):Option zq :=
 (aas k a.2.2.2.2.2.2.2.2.1).bind fun q0 =>
 ad3 k k a ([]:List (Int×Int)) q0.1.1 (q0.1.1.length:Int) 0
def F48:Fn:=⟨[Zh],[.val ⟨false,(.sl 121 ng),true⟩],fun k x=>S48 k x.1⟩
theorem ok48:O 48 F48:=okF (ah ok107 aj) [(2,2)] (fun k=>(.loop 2 ai6 (aoI k) (fun g=>.nil) .nil)) Tryz.func48 rfl
def S59 (k:Nat) (a:Int×Int×Int×Int) (b:oh):Option jy :=
 (bif a.1==9 then
  some ((decide (a.2.1≥(b.length:Int)),()),())
 else
  some ((false,()),()))
def F59:Fn:=⟨[agN,.pv (.ref (.sl 121 ng))],[rB],fun k x=>S59 k x.1 x.2.1⟩
theorem ok59:O 59 F59:=okF aj [] On Tryz.func59 rfl
abbrev aat:Cut:=⟨[0,1,7,8],[.cell p9,.lJ 59 [.ref (.sl 121 ng)],cI,cI],[],19,[]⟩
def PX (k:Nat) (g2:(List jl) -> jw -> Int -> Int -> Option jk) (a:List jl) (b:oh) (c e:Int):Option jk :=
 (bif decide (e<c) then
  ix a e <|
  (S59 k (rd a e (0,0,0,0)) b).bind fun q0 =>
  (bif q0.1.1 then
   some ((e,()),())
  else
   g2 a b c (IntKind.i64.wrap (e+1)))
 else
  some (((-1),()),()))
def ad5 (k:Nat):Xx (((Unit)×(List jl)×(jw×Unit)×Int×Int×Unit) -> Option jk):=eu (dw (dh (d9 (dh dx) (dh (dh dx))))) (PX k)
def GV (k a:Nat) (b:List jl) (c:oh) (e f:Int):Option jk:=iter aat (ad5 k) a ((),b,(c,()),e,f,())
theorem Va (k a b c e f):GV k (a+1) b c e f=PX k (GV k a) b c e f:=Ba _ _ _ _
def ad6 (k:Nat) (a:List jl) (b:oh):Option jk :=
 GV k k a b (a.length:Int) 0
def F130d:Fn:=⟨[DX,.pv (.lJ 59 [.ref (.sl 121 ng)])],[rI],fun k x=>ad6 k x.1 x.2.1.1⟩
theorem ok130d:O 130 F130d:=okF (ah ok59 aj) [] (fun k=>(.loop 2 aat (ad5 k) (fun g=>.nil) .nil)) Tryz.func130 rfl
def apR (k:Nat) (a:List jl) (b:oh):Option jy :=
 (ad6 k a b).bind fun q0 =>
 some ((decide (q0.1.1≥0),()),())
def F57c:Fn:=⟨[DX,.pv (.lJ 59 [.ref (.sl 121 ng)])],[rB],fun k x=>apR k x.1 x.2.1.1⟩
theorem ok57c:O 57 F57c:=okF (ah ok130d aj) [] On Tryz.func57 rfl
abbrev ai7:Cut:=⟨[0,1,11,12,13],[.pin false 0,.cell (.sl 121 ng),.own 3 (.int .i64),cI,cI],[.fK 42 [cI,cI,.cell pq,.own 168 C8,.cell .bool,.cell .bool,.cell .bool,.own 59 tu,.own 3 (.int .i64),.own 4 .bool,.own 142 IG,.own 3 (.int .i64),.own 4 .bool]],55,[]⟩
def ad7 (k:Nat) (g1:FM -> jw -> (List Int) -> Int -> Int -> Option ((Unit)×y9×Unit)) (a:BD) (b:oh) (c:List Int) (e f:Int):Option ((Unit)×y9×Unit) :=
 (bif decide (f<e) then
  ix c f <|
  ix a.2.2.2.2.2.2.2.2.1.2 (rd c f 0) <|
  (bif decide (f<(b.length:Int)) then
   ix b f <|
   (bif !(fC ng (rd a.2.2.2.2.2.2.2.2.1.2 (rd c f 0) bf).2.2.1 (rd b f (0,0))) then
    ix b f <|
    (II k a.2.2.2.2.2.2.2.2.1 (rd c f 0) ((rd a.2.2.2.2.2.2.2.2.1.2 (rd c f 0) bf).1,(rd a.2.2.2.2.2.2.2.2.1.2 (rd c f 0) bf).2.1,rd b f (0,0),(rd a.2.2.2.2.2.2.2.2.1.2 (rd c f 0) bf).2.2.2)).bind fun q1 =>
    g1 (w8 a q1.1.1) b c e (IntKind.i64.wrap (f+1))
   else
    g1 a b c e (IntKind.i64.wrap (f+1)))
  else
   g1 a b c e (IntKind.i64.wrap (f+1)))
 else
  some ((),OT a,()))
def aoJ (k:Nat) (g:((y9×Unit)×Unit×jw×(List Int)×Int×Int×Unit) -> Option ((Unit)×y9×Unit)) (d:(y9×Unit)×Unit×jw×(List Int)×Int×Int×Unit):Option ((Unit)×y9×Unit):=ad7 k (fun a b c e f=>g ((OT a,()),(),b,c,e,f,())) (tvK d.1.1) d.2.2.1 d.2.2.2.1 d.2.2.2.2.1 d.2.2.2.2.2.1
def Vb (k a:Nat) (b:BD) (c:oh) (e:List Int) (f h:Int):Option ((Unit)×y9×Unit):=iter ai7 (aoJ k) a ((OT b,()),(),c,e,f,h,())
theorem ad8 (k a b c e f h):Vb k (a+1) b c e f h=ad7 k (Vb k a) b c e f h:=Ba _ _ _ _
def S61 (k:Nat) (a:BD) (b:oh):Option ((Unit)×y9×Unit) :=
 (aas k a.2.2.2.2.2.2.2.2.1).bind fun q0 =>
 Vb k k a b q0.1.1 (q0.1.1.length:Int) 0
def F61:Fn:=⟨[.fK 42 [cI,cI,.cell pq,.own 168 C8,.cell .bool,.cell .bool,.cell .bool,.own 59 tu,.own 3 (.int .i64),.own 4 .bool,.own 142 IG,.own 3 (.int .i64),.own 4 .bool],.val ⟨false,(.sl 121 ng),false⟩],[],fun k x=>S61 k (tvK x.1) x.2.1⟩
theorem ok61:O 61 F61:=okF (ah ok107 <| ah ok128 aj) [] (fun k=>(.loop 1 ai7 (aoJ k) (fun g=>.nil) .nil)) Tryz.func61 rfl
abbrev ad9:Cut:=⟨[1,2,4,33,34],[.box 42 [cI,cI,.cell pq,.own 168 C8,.cell .bool,.cell .bool,.cell .bool,.own 59 tu,.own 3 (.int .i64),.own 4 .bool,.own 142 IG,.own 3 (.int .i64),.own 4 .bool],.box 42 [cI,cI,.nil,.nil,.cell .bool,.cell .bool,.cell .bool,.nil,.nil,.nil,.nil,.nil,.nil],.box 118 [.own 121 ng],cI,cI],[],50,[]⟩
def Xr (k:Nat) (g12:FM -> Int -> Int -> Bool -> Bool -> Bool -> jw -> Int -> Int -> Option FQ) (a:BD) (b c:Int) (e f h:Bool) (i:oh) (l m:Int):Option FQ :=
 (bif decide (m<l) then
  (S60 k a.2.2.1 m).bind fun q4 =>
  ix i m <|
  g12 a b c e f h (upd i m (q4.1.1,(rd i m (0,0)).2)) l (IntKind.i64.wrap (m+1))
 else
  (S61 k a i).bind fun q5 =>
  some (((w4 (tvK q5.2.1) true),0,()),()))
def ai8 (k:Nat) (g:((Unit)×y9×NV×(jw×Unit)×Int×Int×Unit) -> Option FQ) (d:(Unit)×y9×NV×(jw×Unit)×Int×Int×Unit):Option FQ:=Xr k (fun a b c e f h i l m=>g ((),OT a,(b,c,(),(),e,f,h,(),(),(),(),(),(),()),(i,()),l,m,())) (tvK d.2.1) d.2.2.1.1 d.2.2.1.2.1 d.2.2.1.2.2.2.2.1 d.2.2.1.2.2.2.2.2.1 d.2.2.1.2.2.2.2.2.2.1 d.2.2.2.1.1 d.2.2.2.2.1 d.2.2.2.2.2.1
def Xt (k a:Nat) (b:BD) (c e:Int) (f h i:Bool) (l:oh) (m n:Int):Option FQ:=iter ad9 (ai8 k) a ((),OT b,(c,e,(),(),f,h,i,(),(),(),(),(),(),()),(l,()),m,n,())
theorem aau (k a b c e f h i l m n):Xt k (a+1) b c e f h i l m n=Xr k (Xt k a) b c e f h i l m n:=Ba _ _ _ _
abbrev ai9:Cut:=⟨[1,2,4,16,17,18],[.box 42 [cI,cI,.cell pq,.own 168 C8,.cell .bool,.cell .bool,.cell .bool,.own 59 tu,.own 3 (.int .i64),.own 4 .bool,.own 142 IG,.own 3 (.int .i64),.own 4 .bool],.box 42 [cI,cI,.nil,.nil,.cell .bool,.cell .bool,.cell .bool,.nil,.nil,.nil,.nil,.nil,.nil],.box 118 [.own 121 ng],.cell pq,cI,cI],[],50,[]⟩
def aea (k:Nat) (g6:FM -> Int -> Int -> Bool -> Bool -> Bool -> jw -> (List jr) -> Int -> Int -> Option FQ) (a:BD) (b c:Int) (e f h:Bool) (i:oh) (l:List jr) (m n:Int):Option FQ :=
 (bif decide (n<m) then
  ix l n <|
  (S58 k ([(rd l n bg).2.2.2.1,(rd l n bg).2.2.2.2.1]:List (List jl))).bind fun q2 =>
  (apR k q2.1.1 i).bind fun q3 =>
  (bif q3.1.1 then
   some ((a,4,()),())
  else
   g6 a b c e f h i l m (IntKind.i64.wrap (n+1)))
 else
  Xt k k a b c e f h i (i.length:Int) 0)
def aoK (k:Nat) (g:((Unit)×y9×NV×(jw×Unit)×(List jr)×Int×Int×Unit) -> Option FQ) (d:(Unit)×y9×NV×(jw×Unit)×(List jr)×Int×Int×Unit):Option FQ:=aea k (fun a b c e f h i l m n=>g ((),OT a,(b,c,(),(),e,f,h,(),(),(),(),(),(),()),(i,()),l,m,n,())) (tvK d.2.1) d.2.2.1.1 d.2.2.1.2.1 d.2.2.1.2.2.2.2.1 d.2.2.1.2.2.2.2.2.1 d.2.2.1.2.2.2.2.2.2.1 d.2.2.2.1.1 d.2.2.2.2.1 d.2.2.2.2.2.1 d.2.2.2.2.2.2.1
def aeb (k a:Nat) (b:BD) (c e:Int) (f h i:Bool) (l:oh) (m:List jr) (n o:Int):Option FQ:=iter ai9 (aoK k) a ((),OT b,(c,e,(),(),f,h,i,(),(),(),(),(),(),()),(l,()),m,n,o,())
theorem aec (k a b c e f h i l m n o):aeb k (a+1) b c e f h i l m n o=aea k (aeb k a) b c e f h i l m n o:=Ba _ _ _ _
def S23 (k:Nat) (a:BD):Option FQ :=
 (S56 k a).bind fun q0 =>
 (bif q0.1.1.2.2.2.2.1 then
  some ((q0.1.1,7,()),())
 else
  (S48 k q0.1.1).bind fun q1 =>
  aeb k k q0.1.1 0 0 false false false q1.1.1 q0.1.1.2.2.1 (q0.1.1.2.2.1.length:Int) 0)
def F23:Fn:=⟨[Zh],[.val ⟨true,acV,false⟩,rI],fun k x=>S23 k x.1⟩
theorem ok23:O 23 F23:=okF (ah ok48 <| ah ok56 <| ah ok57c <| ah ok58 <| ah ok60 <| ah ok61 aj) [] (fun k=>(.loop 12 ad9 (ai8 k) (fun g=>.nil) (.loop 6 ai9 (aoK k) (fun g=>.nil) .nil))) Tryz.func23 rfl
def S91 (k:Nat) (a:FN):Option NZ :=
 (S23 k a.1).bind fun q0 =>
 (bif q0.1.2.1==0 then
  (S87 k (q0.1.1.2.2.1.length:Int)).bind fun q1 =>
  some ((),AU ((z9 q0.1.1 q1.1.1),a.2.1,a.2.2.1,q0.1.2.1,a.2.2.2.2),())
 else
  some ((),AU (w3 a q0.1.2.1),()))
def F91:Fn:=⟨[Zf],[],fun k x=>S91 k (pz x.1)⟩
theorem ok91:O 91 F91:=okF (ah ok23 <| ah ok87 aj) [] On Tryz.func91 rfl
def S92 (k:Nat) (a:FN):Option NZ :=
 (S30 k a.1 a.2.1.2.2.2.1 a.2.1.2.2.2.2.1).bind fun q0 =>
 some ((),AU (q0.1.1,a.2.1,q0.1.2.1,q0.1.2.2.1,a.2.2.2.2),())
def F92:Fn:=⟨[Zf],[],fun k x=>S92 k (pz x.1)⟩
theorem ok92:O 92 F92:=okF (ah ok30 aj) [] On Tryz.func92 rfl
abbrev aed:Cut:=⟨[1,3,7,8],[.box 35 [.cell tq,.cell D8],.mp 432 true ng false .bool,cI,cI],[],26,[]⟩
def Xu (k:Nat) (g3:(List Int) -> (List Bool) -> (List Ze) -> Int -> Int -> Option Z7) (a:List Int) (b:List Bool) (c:List Ze) (e f:Int):Option Z7 :=
 (bif decide (f<e) then
  ix b f <|
  (bif rd b f false then
   ix a f <|
   g3 a b (vL ng .bool (f,rd a f 0) true c) e (IntKind.i64.wrap (f+1))
  else
   g3 a b c e (IntKind.i64.wrap (f+1)))
 else
  some ((c,()),()))
def aja (k:Nat):Xx (((Unit)×((List Int)×(List Bool)×Unit)×(List Ze)×Int×Int×Unit) -> Option Z7):=eu (dw (d9 (dh (dh dx)) (dh (dh (dh dx))))) (Xu k)
def Xv (k a:Nat) (b:List Int) (c:List Bool) (e:List Ze) (f h:Int):Option Z7:=iter aed (aja k) a ((),(b,c,()),e,f,h,())
theorem aav (k a b c e f h):Xv k (a+1) b c e f h=Xu k (Xv k a) b c e f h:=Ba _ _ _ _
def apS (k:Nat) (a:QI):Option Z7 :=
 (ai1 k a).bind fun q0 =>
 Xv k k a.1 a.2 ([]:List Ze) q0.1.1 0
def F352:Fn:=⟨[QJ],[.pv (.mp 432 true ng false .bool)],fun k x=>apS k x.1⟩
theorem ok352:O 352 F352:=okF (ah ok326 aj) [] (fun k=>(.loop 3 aed (aja k) (fun g=>.nil) .nil)) Tryz.func352 rfl
def ajb (k:Nat) (a:QI) (b:Int×Int):Option jy :=
 (apS k a).bind fun q0 =>
 some ((Us ng .bool b q0.1.1 false,()),())
def F327:Fn:=⟨[QJ,ah5],[rB],fun k x=>ajb k x.1 x.2.1⟩
theorem ok327:O 327 F327:=okF (ah ok352 aj) [] On Tryz.func327 rfl
def ag2 (k:Nat) (a:EZ×List qo) (b:Int×Int):Option D7 :=
 (ajb k a.1 b).bind fun q0 =>
 (bif !q0.1.1 then
  some ((0,false,()),())
 else
  (ab7 k a b.1).bind fun q1 =>
  (bif !q1.1.1 then
   some ((0,false,()),())
  else
   some ((b.1,true,()),())))
def F253:Fn:=⟨[UN,ah5],[rI,rB],fun k x=>ag2 k x.1 x.2.1⟩
theorem ok253:O 253 F253:=okF (ah ok186 <| ah ok327 aj) [] On Tryz.func253 rfl
def ach (k:Nat) (a:FN) (b:Int):Option ((Int×qo×Bool×Unit)×aoA×Unit) :=
 (ag2 k a.1.2.2.2.2.2.2.2.2.1 a.2.1.2.2.1).bind fun q0 =>
 (bif !q0.1.2.1 then
  some ((0,bf,false,()),AU (w3 a 3),())
 else
  ix a.1.2.2.2.2.2.2.2.2.1.2 q0.1.1 <|
  (bif (rd a.1.2.2.2.2.2.2.2.2.1.2 q0.1.1 bf).1 != b then
   some ((0,bf,false,()),AU (w3 a 3),())
  else
   ix a.1.2.2.2.2.2.2.2.2.1.2 q0.1.1 <|
   some ((q0.1.1,rd a.1.2.2.2.2.2.2.2.2.1.2 q0.1.1 bf,true,()),AU a,())))
def F168:Fn:=⟨[Zf,au],[rI,.val ⟨true,IG,false⟩,rB],fun k x=>ach k (pz x.1) x.2.1⟩
theorem ok168:O 168 F168:=okF (ah ok253 aj) [] On Tryz.func168 rfl
def ajc (k:Nat) (a:(List Int)×List Int):Option ((((List Int)×List Int)×Unit)×Unit) :=
 (aad k a.1).bind fun q0 =>
 (FT k a.2).bind fun q1 =>
 some (((q0.1.1,q1.1.1),()),())
def F254:Fn:=⟨[apn],[.val ⟨true,(.pair IQ tq),true⟩],fun k x=>ajc k x.1⟩
theorem ok254:O 254 F254:=okF (ah ok219 <| ah ok287 aj) [] On Tryz.func254 rfl
def ajd (k:Nat) (a:(List Int)×List Int) (b:Int):Option ((((List Int)×List Int)×Int×Bool×Unit)×Unit) :=
 (ajc k a).bind fun q0 =>
 (bif decide ((q0.1.1.2.length:Int)>0) then
  ix q0.1.1.2 0 <|
  sx q0.1.1.2 1 (q0.1.1.2.length:Int) <|
  some (((q0.1.1.1,sub q0.1.1.2 1 (q0.1.1.2.length:Int)),rd q0.1.1.2 0 0,true,()),())
 else
  (bif decide ((q0.1.1.1.length:Int)≥4) then
   some ((q0.1.1,0,false,()),())
  else
   ap q0.1.1.1 ([b]:List Int) 8 fun r1 =>
   some (((r1,q0.1.1.2),0,true,()),())))
def F169:Fn:=⟨[apn,au],[aq4,rI,rB],fun k x=>ajd k x.1 x.2.1⟩
theorem ok169:O 169 F169:=okF (ah ok254 aj) [] On Tryz.func169 rfl
def aje (k:Nat) (a:FN) (b c e:Int):Option NZ :=
 ap a.2.2.1 ([(a.1.1,12,0,b,c,e)]:List (PN Int 6)) 48 fun r0 =>
 some ((),AU (a.1,a.2.1,r0,a.2.2.2),())
def F170:Fn:=⟨[Zf,au,au,au],[],fun k x=>aje k (pz x.1) x.2.1 x.2.2.1 x.2.2.2.1⟩
theorem ok170:O 170 F170:=okF aj [] On Tryz.func170 rfl
def S93 (k:Nat) (a:FN):Option NZ :=
 (ach k a 2).bind fun q0 =>
 (bif !q0.1.2.2.1 then
  some ((),q0.2.1,())
 else
  (ajd k q0.1.2.1.2.2.2.1 (pz q0.2.1).2.1.2.2.2.2.1).bind fun q1 =>
  (bif !q1.1.2.2.1 then
   some ((),AU (w3 (pz q0.2.1) 4),())
  else
   (bif decide (q1.1.2.1>0) then
    (aje k (pz q0.2.1) q1.1.2.1 (pz q0.2.1).2.1.2.2.2.2.1 0).bind fun q2 =>
    (II k (pz q2.2.1).1.2.2.2.2.2.2.2.2.1 q0.1.1 (w3 q0.1.2.1 q1.1.1)).bind fun q3 =>
    some ((),AU ((w8 (pz q2.2.1).1 q3.1.1),(pz q2.2.1).2),())
   else
    (II k (pz q0.2.1).1.2.2.2.2.2.2.2.2.1 q0.1.1 (w3 q0.1.2.1 q1.1.1)).bind fun q4 =>
    some ((),AU ((w8 (pz q0.2.1).1 q4.1.1),(pz q0.2.1).2),()))))
def F93:Fn:=⟨[Zf],[],fun k x=>S93 k (pz x.1)⟩
theorem ok93:O 93 F93:=okF (ah ok128 <| ah ok168 <| ah ok169 <| ah ok170 aj) [] On Tryz.func93 rfl
abbrev aee:Cut:=⟨[0,1,7,8],[.cell tq,cI,cI,cI],[],19,[]⟩
def M4 (k:Nat) (g2:(List Int) -> Int -> Int -> Int -> Option jk) (a:List Int) (b c e:Int):Option jk :=
 (bif decide (e<c) then
  ix a e <|
  (bif b==(rd a e 0) then
   some ((e,()),())
  else
   g2 a b c (IntKind.i64.wrap (e+1)))
 else
  some (((-1),()),()))
def ajf (k:Nat):Xx (((Unit)×(List Int)×Int×Int×Int×Unit) -> Option jk):=eu (dw (dh (dh (dh (dh dx))))) (M4 k)
def E9 (k a:Nat) (b:List Int) (c e f:Int):Option jk:=iter aee (ajf k) a ((),b,c,e,f,())
theorem K9 (k a b c e f):E9 k (a+1) b c e f=M4 k (E9 k a) b c e f:=Ba _ _ _ _
def aci (k:Nat) (a:List Int) (b:Int):Option jk :=
 E9 k k a b (a.length:Int) 0
def F149:Fn:=⟨[Wz,au],[rI],fun k x=>aci k x.1 x.2.1⟩
theorem ok149:O 149 F149:=okF aj [] (fun k=>(.loop 2 aee (ajf k) (fun g=>.nil) .nil)) Tryz.func149 rfl
def apT (k:Nat) (a:List Int) (b:Int):Option jy :=
 (aci k a b).bind fun q0 =>
 some ((decide (q0.1.1≥0),()),())
def F255:Fn:=⟨[Wz,au],[rB],fun k x=>apT k x.1 x.2.1⟩
theorem ok255:O 255 F255:=okF (ah ok149 aj) [] On Tryz.func255 rfl
def ajg (k:Nat) (a:(List Int)×List Int) (b:Int):Option ((((List Int)×List Int)×Int×Bool×Bool×Unit)×Unit) :=
 (ajc k a).bind fun q0 =>
 (bif decide (b<1) then
  some ((q0.1.1,0,false,false,()),())
 else
  (bif decide ((q0.1.1.1.length:Int)>0) then
   ix q0.1.1.1 0 <|
   sx q0.1.1.1 1 (q0.1.1.1.length:Int) <|
   some (((sub q0.1.1.1 1 (q0.1.1.1.length:Int),q0.1.1.2),rd q0.1.1.1 0 0,true,true,()),())
  else
   (apT k q0.1.1.2 b).bind fun q1 =>
   (bif q1.1.1 then
    some ((q0.1.1,0,false,false,()),())
   else
    (bif decide ((q0.1.1.2.length:Int)≥4) then
     some ((q0.1.1,0,false,false,()),())
    else
     ap q0.1.1.2 ([b]:List Int) 8 fun r2 =>
     some (((q0.1.1.1,r2),0,false,true,()),())))))
def F171:Fn:=⟨[apn,au],[aq4,rI,rB,rB],fun k x=>ajg k x.1 x.2.1⟩
theorem ok171:O 171 F171:=okF (ah ok254 <| ah ok255 aj) [] On Tryz.func171 rfl
def S94 (k:Nat) (a:FN):Option NZ :=
 (ach k a 2).bind fun q0 =>
 (bif !q0.1.2.2.1 then
  some ((),q0.2.1,())
 else
  (ajg k q0.1.2.1.2.2.2.1 (pz q0.2.1).2.1.2.2.2.1).bind fun q1 =>
  (bif !q1.1.2.2.2.1 then
   some ((),AU (w3 (pz q0.2.1) 1),())
  else
   (bif q1.1.2.2.1 then
    (II k (pz q0.2.1).1.2.2.2.2.2.2.2.2.1 q0.1.1 (w3 q0.1.2.1 q1.1.1)).bind fun q2 =>
    some ((),AU (w0 (z5 (pz q0.2.1) q1.1.2.1) (w8 (pz q0.2.1).1 q2.1.1)),())
   else
    (II k (pz q0.2.1).1.2.2.2.2.2.2.2.2.1 q0.1.1 (w3 q0.1.2.1 q1.1.1)).bind fun q3 =>
    some ((),AU ((w8 (pz q0.2.1).1 q3.1.1),(pz q0.2.1).2.1,(pz q0.2.1).2.2.1,16,(pz q0.2.1).2.2.2.2),()))))
def F94:Fn:=⟨[Zf],[],fun k x=>S94 k (pz x.1)⟩
theorem ok94:O 94 F94:=okF (ah ok128 <| ah ok168 <| ah ok171 aj) [] On Tryz.func94 rfl
abbrev aef:Cut:=⟨[4,5,15,16,17],[.box 138 [.cell (.int .u32),.own 266 C9],.own 266 C9,.cell (.sl 266 C9),cI,cI],[],49,[]⟩
def Xw (k:Nat) (g3:Int -> jw -> jw -> jw -> Int -> Int -> Option Z5) (x:Int) (a b c:oh) (e f:Int):Option Z5 :=
 (bif decide (f<e) then
  ix c f <|
  (bif (Um .u32 x (rd c f (0,0)).2)==0 then
   ap a ([rd c f (0,0)]:List (Int×Int)) 16 fun r0 =>
   g3 x r0 b c e (IntKind.i64.wrap (f+1))
  else
   ap b ([((rd c f (0,0)).1,Um .u32 x (rd c f (0,0)).2)]:List (Int×Int)) 16 fun r1 =>
   g3 (Ru .u32 x (Um .u32 x (rd c f (0,0)).2)) a r1 c e (IntKind.i64.wrap (f+1)))
 else
  some (((x,a),b,()),()))
def ajh (k:Nat):Xx (((Unit)×(Int×jw×Unit)×jw×jw×Int×Int×Unit) -> Option Z5):=eu (dw (d9 (dh (dh dx)) (dh (dh (dh (dh dx)))))) (Xw k)
def Xy (k a:Nat) (x:Int) (b c e:oh) (f h:Int):Option Z5:=iter aef (ajh k) a ((),(x,b,()),c,e,f,h,())
theorem aaw (k a x b c e f h):Xy k (a+1) x b c e f h=Xw k (Xy k a) x b c e f h:=Ba _ _ _ _
def aji (k:Nat) (a:Int×List (Int×Int)) (b:Int):Option Z5 :=
 Xy k k (Uz .u32 a.1 b) ([]:List (Int×Int)) ([]:List (Int×Int)) a.2 (a.2.length:Int) 0
def F172:Fn:=⟨[.val ⟨true,(.pair (.int .u32) (.sl 266 C9)),false⟩,.val ⟨false,(.int .u32),false⟩],[.val ⟨true,(.pair (.int .u32) (.sl 266 C9)),true⟩,.val ⟨false,(.sl 266 C9),true⟩],fun k x=>aji k x.1 x.2.1⟩
theorem ok172:O 172 F172:=okF aj [(4,2),(5,2)] (fun k=>(.loop 3 aef (ajh k) (fun g=>.nil) .nil)) Tryz.func172 rfl
end
end Go.Proofs.YtjjjbcmjmkcedaaGreat.Ab
