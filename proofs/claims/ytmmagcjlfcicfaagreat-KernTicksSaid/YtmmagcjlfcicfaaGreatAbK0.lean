import Derived.Test.YtmmagcjlfcicfaaGreatPbI
import Derived.Lib.Overlaps
import Derived.Shelf.RegionOpenPlain
import Derived.Test.YtmmagcjlfcicfaaGreatPbC
/- Contracts, printed by this session's own program gen.py. -/
set_option linter.unusedVariables false
set_option linter.unusedSimpArgs false
set_option maxRecDepth 100000
namespace Go.Proofs.YtmmagcjlfcicfaaGreat.Ab
open Go.RowKit
abbrev cI:PV:=.cell (.int .i64)
abbrev ji:Type:=Int×Int×Int×(List (Int×Int×Int×Int))×(List (Int×Int×Int×Int))×List (Int×Int×Int×Int)
abbrev lg:Type:=Int×Int×Int×Int×(Int×(PN Int 8)×(List (Int×Int×Int))×Bool)×(Int×(PN Int 8)×(List (Int×Int×Int))×Bool)×(List Int)×Bool
abbrev qc:Ty:=.pair (.int .i64) (.pair (.int .i64) (.pair (.int .i64) (.pair (.int .i64) (.pair (.pair (.int .i64) (.pair (Am 8 (.int .i64)) (.pair (.sl 233 (.pair (.int .i64) (.pair (.int .i64) (.int .i64)))) .bool))) (.pair (.pair (.int .i64) (.pair (Am 8 (.int .i64)) (.pair (.sl 233 (.pair (.int .i64) (.pair (.int .i64) (.int .i64)))) .bool))) (.pair (.sl 3 (.int .i64)) .bool))))))
abbrev jr:Type:=Int×(Int×Int)×(Int×Int)×((List Int)×List Int)×(Int×List (Int×Int))×Int
abbrev DZ:Ty:=.pair (.int .i64) (.pair (.int .i64) (.pair (.int .i64) (.pair (.sl 87 (.pair (.int .i64) (.pair (.int .i64) (.pair (.int .i64) (.int .i64))))) (.pair (.sl 87 (.pair (.int .i64) (.pair (.int .i64) (.pair (.int .i64) (.int .i64))))) (.sl 87 (.pair (.int .i64) (.pair (.int .i64) (.pair (.int .i64) (.int .i64)))))))))
abbrev wh:Ty:=.pair (.int .i64) (.pair (.pair (.int .i64) (.int .i64)) (.pair (.pair (.int .i64) (.int .i64)) (.pair (.pair (.sl 2 (.int .i64)) (.sl 3 (.int .i64))) (.pair (.pair (.int .u32) (.sl 297 (.pair (.int .i64) (.int .u32)))) (.int .u32)))))
abbrev ahZ:Type:=Int×Int×(List ji)×(List (PN Int 5))×Bool×Bool×Bool×(List lg)×(List Int)×(List Bool)×(List jr)×(List Int)×(List Bool)×(List (PN Int 6))×Unit
abbrev XL:Type:=Int×Int×(List ji)×(List (PN Int 5))×Bool×Bool×Bool×(List lg)×(((List Int)×List Bool)×List jr)×(List Int)×List Bool
abbrev jd:Type:=Int×Int×Int×Int
abbrev V8:Ty:=.pair (.int .i64) (.pair (.int .i64) (.pair (.int .i64) (.int .i64)))
abbrev E5:Type:=Int×Int×(List ji)×(List (PN Int 5))×Bool×Bool×Bool×(List lg)×(List Int)×(List Bool)×(List jr)×(List Int)×(List Bool)×Unit
abbrev YK:Ty:=.pair (.int .i64) (.pair (.int .i64) (.pair (.sl 77 DZ) (.pair (.sl 96 (Am 5 (.int .i64))) (.pair .bool (.pair .bool (.pair .bool (.pair (.sl 94 qc) (.pair (.pair (.pair (.sl 3 (.int .i64)) (.sl 4 .bool)) (.sl 124 wh)) (.pair (.sl 3 (.int .i64)) (.sl 4 .bool))))))))))
abbrev pz:Type:=Int×Int×Int×Bool
abbrev je:Type:=(Int×Unit)×Unit
abbrev j3:Type:=(Bool×Unit)×Unit
abbrev nk:Type:=((List Int)×Unit)×Unit
abbrev qh:Ty:=.pair (.int .i64) (.int .i64)
abbrev P7:Type:=(List jd) -> Int -> Int -> Int -> Int -> (List (Int×Int)) -> (List Int) -> (List Int) -> Int -> Int -> Option (((Int×Int×List (Int×Int))×Bool×Unit)×Unit)
abbrev YL:Type:=((List Int)×List Bool)×List jr
abbrev KA:Type:=(List jd) -> (List Int) -> (List Int) -> (List pz) -> Int -> Option (((List Int)×Bool×Unit)×Unit)
abbrev BM:Ty:=.pair (.int .i64) (.pair (.int .i64) (.pair (.int .i64) .bool))
abbrev p8:Type:=List (Int×Int)
abbrev YM:Type:=Int×Int×Unit×Unit×Bool×Bool×Bool×Unit×Unit×Unit×Unit×Unit×Unit×Unit
abbrev qd:Ty:=.sl 3 (.int .i64)
abbrev H7:Type:=((Int×Int×List (Int×Int))×Bool×Unit)×Unit
abbrev ku:Type:=List (Int×Int)
abbrev V9:Type:=Int×Int×(List ji)×(List (PN Int 5))×Bool×Bool×Bool×(List lg)×YL×(List Int)×List Bool
abbrev DK:Type:=((List Int)×Bool×Unit)×Unit
abbrev adD:Type:=(List Int) -> (List Bool) -> (List jr) -> (List Int) -> (List Bool) -> (List jr) -> (List Int) -> (List (List Int)) -> (List jr) -> Int -> Int -> Option ((YL×(List Int)×(List (List Int))×Unit)×Unit)
abbrev AU:Type:=(Int×Bool×Unit)×Unit
abbrev wm:Type:=(Unit)×ahZ×Unit
abbrev Va:Type:=Int×(Int×Int)×(Int×Int)×((List Int)×List Int)×(Int×List (Int×Int))×Int
abbrev adE:Ty:=.pair qd (.sl 4 .bool)
abbrev uq:Ty:=Am 5 (.int .i64)
abbrev adF:Type:=Int×Int×Int×Int×(Int×(PN Int 8)×(List (Int×Int×Int))×Bool)×(Int×(PN Int 8)×(List (Int×Int×Int))×Bool)×(List Int)×Bool
abbrev qm:Type:=List pz
abbrev E8:Type:=((List jd)×Unit)×Unit
abbrev BZ:Type:=List (PN Int 5)
abbrev oq:Ty:=.sl 87 V8
abbrev Vb:Type:=((Int×List (Int×Int))×(List Int)×Unit)×Unit
abbrev Vd:Type:=(YL×(List Int)×(List (List Int))×Unit)×Unit
abbrev Ve:Type:=(((List Int)×Int×Int×List Int)×Unit)×Unit
abbrev E9:Ty:=.pair (.int .i64) (.int .u32)
abbrev H8:Type:=(XL×Int×Unit)×Unit
abbrev DL:Type:=(p8×Unit)×Unit
abbrev aki:Type:=Int -> Int -> (List ji) -> BZ -> Bool -> Bool -> Bool -> (List lg) -> (List Int) -> (List Bool) -> (List jr) -> (List Int) -> (List Bool) -> Int -> Int -> Bool -> Bool -> Bool -> Int -> Int -> Option ((XL×Unit)×Unit)
abbrev M4:Type:=(List jd) -> qm -> Int -> Option j3
abbrev P8:Type:=(List ji) -> Int -> Int -> Int -> Option je
abbrev Vf:Type:=(List jd) -> qm -> (List Int) -> Int -> Option j3
abbrev Vg:Type:=(List jd) -> (List Int) -> qm -> Int -> Option nk
abbrev adG:Type:=(List Int)×(List Bool)×(List jr)×Unit
abbrev adH:Type:=(List Int)×Int×Int×(List Int)×Unit
abbrev Vh:Type:=((List ji)×BZ×Int×Unit)×Unit
abbrev zx:Ty:=.sl 2 (.int .i64)
abbrev FU:Ty:=Am 6 (.int .i64)
abbrev Vi:Type:=Int -> (List Int) -> Int -> Int -> Option je
abbrev akj:Ty:=.pair adE (.sl 124 wh)
abbrev yt:Ty:=.sl 77 DZ
abbrev FV:Type:=(List Int)×List Bool
abbrev YN:Type:=Int×Int×Int×(List jd)×(List jd)×List jd
abbrev Vj:Type:=(Int×Int×Int×Unit)×Unit
abbrev YO:Type:=Int×Unit
abbrev Vk:Type:=(List ji) -> Int -> Int -> Option je
abbrev YP:Type:=(List jd) -> qm -> Int -> Int -> Option j3
abbrev M5:Type:=(XL×Unit)×Unit
abbrev M6:Type:=(YL×Unit)×Unit
abbrev Vl:Type:=(BZ×Int×Unit)×Unit
abbrev M7:Type:=List (List Int)
abbrev FW:Ty:=.sl 114 qh
abbrev YQ:Type:=Int×Int×p8×Unit
abbrev an6:Type:=(List Int)×Unit
abbrev P9:Type:=List (List jd)
abbrev alo:PT:=.fK 150 [cI,cI,.own 77 DZ,.own 96 uq,.cell .bool,.cell .bool,.cell .bool,.cell (.sl 94 qc),.own 3 (.int .i64),.own 4 .bool,.own 124 wh,.own 3 (.int .i64),.own 4 .bool,.own 82 FU]
abbrev alp:PT:=.fK 150 [cI,cI,.own 77 DZ,.own 96 uq,.cell .bool,.cell .bool,.cell .bool,.own 94 qc,.own 3 (.int .i64),.own 4 .bool,.own 124 wh,.own 3 (.int .i64),.own 4 .bool,.own 82 FU]
abbrev an7:RT:=.val ⟨false,(.sl 96 uq),true⟩
abbrev an8:PT:=.val ⟨false,(.sl 4 .bool),false⟩
abbrev M8:PT:=.val ⟨false,oq,false⟩
abbrev alq:PT:=.val ⟨false,qd,false⟩
abbrev SB:PT:=.val ⟨false,yt,false⟩
abbrev adI:PT:=.val ⟨false,FW,false⟩
abbrev SC:RT:=.val ⟨false,qd,true⟩
abbrev adJ:PT:=.val ⟨true,akj,false⟩
abbrev YR:PT:=.val ⟨true,adE,false⟩
abbrev YS:PT:=.val ⟨true,YK,false⟩
abbrev Vm:RT:=.val ⟨true,adE,true⟩
abbrev YT:RT:=.val ⟨true,akj,true⟩
abbrev adK:RT:=.val ⟨true,YK,true⟩
abbrev adL:PT:=.val ⟨true,V8,false⟩
abbrev YU:PT:=.val ⟨true,DZ,false⟩
abbrev adM:PT:=.val ⟨true,qc,false⟩
abbrev Vn:PT:=.val ⟨true,wh,false⟩
abbrev adN:PT:=.pv (.ref (.int .i64))
noncomputable section
def E0:Env:=tab.env (fun _=>none) (fun _=>0)
theorem FX:aH Tryz.prog E0:=Kr Qy _ _ (fun f F h=>by cases h)
theorem okF {f:FuncId} {fn:Func} {F:Fn} {C:Code} {l:List (Nat×Fn)} (hl:Gq Tryz.prog l) (h:List (Nat×Nat)) (T:Nat -> rW (RD F.rs×MD F.ps)) (hf:Tryz.prog.funcs[f]? = some fn) (hb:fn.body=some C)
(h1:(fn.name == "runtime.NumGoroutine")=false:=by kernel_rfl) (h2:Nat.ble F.ps.length fn.ntmps=true:=by kernel_rfl)
(h3:∀ k,Bv (tab.env (lk l) (Ra h)) fn F.ps F.rs k true (T k)=Bv (tab.env (lk l) (Ra h)) fn F.ps F.rs k false (T k):=by intro k;kernel_rfl) (h4:∀ k x,F.sem k x=Gm (tab.env (lk l) (Ra h)) fn F.ps F.rs k (T k) x:=by intro k x;kernel_rfl):uP Tryz.prog f F :=
Kn (Kr Qy _ _ (Dl hl)) mix hf hb h1 h2 h3 h4
def Xx (A:Type):Type:=A -> A
abbrev O (f:Nat) (F:Fn):Prop:=uP Tryz.prog f F
theorem ah {f:Nat} {F:Fn} {l:List (Nat×Fn)} (h:O f F) (t:Gq Tryz.prog l):Gq Tryz.prog ((f,F)::l):=⟨h,t⟩
theorem aj:Gq Tryz.prog []:=trivial
abbrev On {A:Type}:Nat -> rW A:=fun _=>.nil
abbrev au:PT:=.val ⟨false,.int .i64,false⟩
abbrev rI:RT:=.val ⟨false,.int .i64,true⟩
abbrev rB:RT:=.val ⟨false,.bool,true⟩
structure Iso (T R F:Type) where
 un:F -> T -> R
 cu:(T -> R) -> F
def ay {A T R F:Type} (s:Iso T R F):Iso (A×T) R (A -> F):=⟨fun f x=>s.un (f x.1) x.2,fun g a=>s.cu fun t=>g (a,t)⟩
def bf {T R F:Type} (s:Iso T R F):Iso (Unit×T) R F:=⟨fun f x=>s.un f x.2,fun g=>s.cu fun t=>g ((),t)⟩
def bg {R:Type}:Iso Unit R R:=⟨fun f _=>f,fun g=>g ()⟩
def bn {A R:Type}:Iso A R (A -> R):=⟨fun f=>f,fun g=>g⟩
def bq {S T R F G:Type} (a:Iso S F G) (b:Iso T R F):Iso (S×T) R G:=⟨fun f x=>b.un (a.un f x.1) x.2,fun g=>a.cu fun x=>b.cu fun t=>g (x,t)⟩
def dh {T R F:Type} (s:Iso T R F) (f:F -> F) (g:T -> R):T -> R:=s.un (f (s.cu g))
def an9 (k:Nat) (a:Int):Option ((FV×Unit)×Unit) :=
 mk (mn (mx a 0) 64) (mn (mx a 0) 64) 8 <|
 mk (mn (mx a 0) 64) (mn (mx a 0) 64) 1 <|
 some (((List.replicate (mn (mx a 0) 64).toNat (0:Int),List.replicate (mn (mx a 0) 64).toNat (false:Bool)),()),())
def F118:Fn:=⟨[au],[Vm],fun k x=>an9 k x.1⟩
theorem ok118:O 118 F118:=okF aj [] On Tryz.func118 rfl
def S64 (k:Nat):Option M6 :=
 (an9 k 12).bind fun q0 =>
 mk 12 12 128 <|
 some (((q0.1.1,List.replicate 12 ((0,(0,0),(0,0),([],[]),(0,[]),0):Int×(Int×Int)×(Int×Int)×((List Int)×List Int)×(Int×List (Int×Int))×Int)),()),())
def F64:Fn:=⟨[],[YT],fun k x=>S64 k ⟩
theorem ok64:O 64 F64:=okF (ah ok118 aj) [] On Tryz.func64 rfl
def S65 (k:Nat) (a:Int):Option ((FV×Unit)×Unit) :=
 mk (mn (mx a 0) 65536) (mn (mx a 0) 65536) 8 <|
 mk (mn (mx a 0) 65536) (mn (mx a 0) 65536) 1 <|
 some (((List.replicate (mn (mx a 0) 65536).toNat (0:Int),List.replicate (mn (mx a 0) 65536).toNat (false:Bool)),()),())
def F65:Fn:=⟨[au],[Vm],fun k x=>S65 k x.1⟩
theorem ok65:O 65 F65:=okF aj [] On Tryz.func65 rfl
def S25 (k:Nat) (a:Int):Option ((XL×Bool×Unit)×Unit) :=
 (bif decide (a<1) then
  some (((0,0,[],[],false,false,false,[],(([],[]),[]),[],[]),false,()),())
 else
  (bif decide (a>4611686018427387904) then
   some (((0,0,[],[],false,false,false,[],(([],[]),[]),[],[]),false,()),())
  else
   (S64 k).bind fun q0 =>
   (S65 k 0).bind fun q1 =>
   some (((0,a,[],[],false,false,false,[],q0.1.1,q1.1.1),true,()),())))
def F25:Fn:=⟨[au],[adK,rB],fun k x=>S25 k x.1⟩
theorem ok25:O 25 F25:=okF (ah ok64 <| ah ok65 aj) [] On Tryz.func25 rfl
def IZ (k:Nat) (a b:Int):Option j3 :=
 (bif decide (b≥0) then
  some ((decide (b<a),()),())
 else
  some ((false,()),()))
def F177:Fn:=⟨[.val ⟨true,(.int .i64),false⟩,au],[rB],fun k x=>IZ k x.1 x.2.1⟩
theorem ok177:O 177 F177:=okF aj [] On Tryz.func177 rfl
def adO (k:Nat) (a:Int×Int×Int×Int):Option j3 :=
 (bif a.1==0 then
  (bif a.2.1==0 then
   (bif a.2.2.1==0 then
    some ((a.2.2.2==0,()),())
   else
    some ((false,()),()))
  else
   some ((false,()),()))
 else
  (bif a.1==11 then
   (bif a.2.1==0 then
    (bif a.2.2.1==0 then
     some ((a.2.2.2==0,()),())
    else
     some ((false,()),()))
   else
    some ((false,()),()))
  else
   (bif a.1==1 then
    (IZ k 8 a.2.1).bind fun q0 =>
    (bif q0.1.1 then
     (bif a.2.2.1==0 then
      (bif decide (a.2.2.2≥(-2147483648)) then
       some ((decide (a.2.2.2<2147483648),()),())
      else
       some ((false,()),()))
     else
      some ((false,()),()))
    else
     some ((false,()),()))
   else
    (bif a.1==2 then
     (IZ k 8 a.2.1).bind fun q1 =>
     (bif q1.1.1 then
      (IZ k 8 a.2.2.1).bind fun q2 =>
      (bif q2.1.1 then
       some ((a.2.2.2==0,()),())
      else
       some ((false,()),()))
     else
      some ((false,()),()))
    else
     (bif a.1==3 then
      (IZ k 8 a.2.1).bind fun q3 =>
      (bif q3.1.1 then
       (IZ k 8 a.2.2.1).bind fun q4 =>
       (bif q4.1.1 then
        some ((a.2.2.2==0,()),())
       else
        some ((false,()),()))
      else
       some ((false,()),()))
     else
      (bif a.1==4 then
       (IZ k 8 a.2.1).bind fun q5 =>
       (bif q5.1.1 then
        (IZ k 8 a.2.2.1).bind fun q6 =>
        (bif q6.1.1 then
         some ((a.2.2.2==0,()),())
        else
         some ((false,()),()))
       else
        some ((false,()),()))
      else
       (bif a.1==5 then
        (IZ k 8 a.2.1).bind fun q7 =>
        (bif q7.1.1 then
         (bif a.2.2.1==0 then
          (bif decide (a.2.2.2≥(-63)) then
           some ((decide (a.2.2.2 <= 63),()),())
          else
           some ((false,()),()))
         else
          some ((false,()),()))
        else
         some ((false,()),()))
       else
        (bif a.1==6 then
         (IZ k 8 a.2.1).bind fun q8 =>
         (bif q8.1.1 then
          (bif a.2.2.1==0 then
           (bif decide (a.2.2.2≥1) then
            some ((decide (a.2.2.2 <= 64),()),())
           else
            some ((false,()),()))
          else
           some ((false,()),()))
         else
          some ((false,()),()))
        else
         (bif a.1==7 then
          (IZ k 8 a.2.1).bind fun q9 =>
          (bif q9.1.1 then
           (bif a.2.2.1==0 then
            (bif decide (a.2.2.2≥1) then
             some ((decide (a.2.2.2 <= 24),()),())
            else
             some ((false,()),()))
           else
            some ((false,()),()))
          else
           some ((false,()),()))
         else
          (bif a.1==8 then
           (bif a.2.1==0 then
            (bif decide (a.2.2.1≥1) then
             (bif decide (a.2.2.1 <= 24) then
              (bif decide (a.2.2.2≥1) then
               some ((decide (a.2.2.2 <= 20),()),())
              else
               some ((false,()),()))
             else
              some ((false,()),()))
            else
             some ((false,()),()))
           else
            some ((false,()),()))
          else
           (bif a.1==9 then
            (bif decide (a.2.1≥0) then
             (bif decide (a.2.1<4) then
              (bif a.2.2.1==0 then
               some ((a.2.2.2==0,()),())
              else
               some ((false,()),()))
             else
              some ((false,()),()))
            else
             some ((false,()),()))
           else
            (bif a.1==10 then
             (bif decide (a.2.1≥0) then
              (bif decide (a.2.1<4) then
               (bif a.2.2.1==0 then
                some ((a.2.2.2==0,()),())
               else
                some ((false,()),()))
              else
               some ((false,()),()))
             else
              some ((false,()),()))
            else
             some ((false,()),())))))))))))))
def F129:Fn:=⟨[adL],[rB],fun k x=>adO k x.1⟩
theorem ok129:O 129 F129:=okF (ah ok177 aj) [] On Tryz.func129 rfl
abbrev YV:Cut:=⟨[0,3,4],[.cell oq,.own 279 BM,cI],[],49,[]⟩
def SE (k:Nat) (g3:(List jd) -> qm -> Int -> Option ((qm×Unit)×Unit)) (a:List jd) (b:List pz) (c:Int):Option ((qm×Unit)×Unit) :=
 (bif decide (c<(a.length:Int)) then
  ix a c <|
  (bif (rd a c (0,0,0,0)).1==7 then
   ix a c <|
   ap b ([(IntKind.i64.wrap (c+1),IntKind.i64.wrap (c+(rd a c (0,0,0,0)).2.2.2),c,false)]:List pz) 32 fun r0 =>
   g3 a r0 (IntKind.i64.wrap (c+1))
  else
   (bif (rd a c (0,0,0,0)).1==8 then
    ix a c <|
    ap b ([(IntKind.i64.wrap (c+1),IntKind.i64.wrap (c+(rd a c (0,0,0,0)).2.2.1),c,true)]:List pz) 32 fun r1 =>
    g3 a r1 (IntKind.i64.wrap (c+1))
   else
    g3 a b (IntKind.i64.wrap (c+1))))
 else
  some ((b,()),()))
def adP (k:Nat):Xx (((Unit)×(List jd)×qm×Int×Unit) -> Option ((qm×Unit)×Unit)):=dh (bf (ay (ay (ay bg)))) (SE k)
def J2 (k a:Nat) (b:List jd) (c:List pz) (e:Int):Option ((qm×Unit)×Unit):=iter YV (adP k) a ((),b,c,e,())
theorem Vo (k a b c e):J2 k (a+1) b c e=SE k (J2 k a) b c e:=Ba _ _ _ _
def acH (k:Nat) (a:List jd):Option ((qm×Unit)×Unit) :=
 J2 k k a ([]:List pz) 0
def F174:Fn:=⟨[M8],[.val ⟨false,(.sl 279 BM),true⟩],fun k x=>acH k x.1⟩
theorem ok174:O 174 F174:=okF aj [(3,2)] (fun k=>(.loop 3 YV (adP k) (fun g=>.nil) .nil)) Tryz.func174 rfl
def SF (k:Nat) (a:Int×Int×Int×Bool) (b:Int):Option j3 :=
 (bif decide (a.1 <= b) then
  some ((decide (b <= a.2.1),()),())
 else
  some ((false,()),()))
def F175:Fn:=⟨[.val ⟨true,BM,false⟩,au],[rB],fun k x=>SF k x.1 x.2.1⟩
theorem ok175:O 175 F175:=okF aj [] On Tryz.func175 rfl
abbrev Vp:Cut:=⟨[0,4,5,6,7,8],[.cell oq,.own 3 (.int .i64),.own 3 (.int .i64),.own 279 BM,cI,cI],[],117,[]⟩
def L6 (k:Nat) (g5:KA) (g10:(List jd) -> (List Int) -> (List Int) -> qm -> Int -> Int -> Option DK) (a:List jd) (b c:List Int) (e:List pz) (f h:Int):Option DK :=
 (bif decide (h<(c.length:Int)) then
  ix c h <|
  ix a (rd c h 0) <|
  ix a f <|
  (bif (rd a (rd c h 0) (0,0,0,0)).2.1==(rd a f (0,0,0,0)).2.1 then
   some (([],false,()),())
  else
   g10 a b c e f (IntKind.i64.wrap (h+1)))
 else
  ap c ([f]:List Int) 8 fun r1 =>
  (bif decide ((r1.length:Int)>2) then
   some (([],false,()),())
  else
   g5 a b r1 e (IntKind.i64.wrap (f+1))))
def YW (k:Nat) (g5:KA):Xx (((Unit)×(List jd)×(List Int)×(List Int)×qm×Int×Int×Unit) -> Option DK):=dh (bf (ay (ay (ay (ay (ay (ay bg))))))) (L6 k g5)
def CU (k:Nat) (g5:KA) (a:Nat) (b:List jd) (c e:List Int) (f:List pz) (h i:Int):Option DK:=iter Vp (YW k g5) a ((),b,c,e,f,h,i,())
theorem PE (k g5 a b c e f h i):CU k g5 (a+1) b c e f h i=L6 k g5 (CU k g5 a) b c e f h i:=Ba _ _ _ _
abbrev Vq:Cut:=⟨[0,4,5,6,7,9,10],[.cell oq,.own 3 (.int .i64),.own 3 (.int .i64),.own 279 BM,cI,cI,cI],[],117,[]⟩
def L8 (k:Nat) (g5:KA) (g23:(List jd) -> (List Int) -> (List Int) -> qm -> Int -> Int -> Int -> Option DK) (a:List jd) (b c:List Int) (e:List pz) (f h i:Int):Option DK :=
 (bif decide (i<(e.length:Int)) then
  ix e i <|
  (SF k (rd e i (0,0,0,false)) h).bind fun q2 =>
  ix e i <|
  (SF k (rd e i (0,0,0,false)) f).bind fun q3 =>
  (bif !(q2.1.1==q3.1.1) then
   some (([],false,()),())
  else
   g23 a b c e f h (IntKind.i64.wrap (i+1)))
 else
  ix b h <|
  g5 a (upd b h f) c e (IntKind.i64.wrap (f+1)))
def YX (k:Nat) (g5:KA):Xx (((Unit)×(List jd)×(List Int)×(List Int)×qm×Int×Int×Int×Unit) -> Option DK):=dh (bf (ay (ay (ay (ay (ay (ay (ay bg)))))))) (L8 k g5)
def CV (k:Nat) (g5:KA) (a:Nat) (b:List jd) (c e:List Int) (f:List pz) (h i l:Int):Option DK:=iter Vq (YX k g5) a ((),b,c,e,f,h,i,l,())
theorem PG (k g5 a b c e f h i l):CV k g5 (a+1) b c e f h i l=L8 k g5 (CV k g5 a) b c e f h i l:=Ba _ _ _ _
abbrev YZ:Cut:=⟨[0,4,5,6,7],[.cell oq,.own 3 (.int .i64),.own 3 (.int .i64),.own 279 BM,cI],[],117,[]⟩
def SG (k:Nat) (g5:KA) (a:List jd) (b c:List Int) (e:List pz) (f:Int):Option DK :=
 (bif decide (f<(a.length:Int)) then
  ix a f <|
  (bif (rd a f (0,0,0,0)).1==9 then
   CU k g5 k a b c e f 0
  else
   (bif (rd a f (0,0,0,0)).1==10 then
    (bif (c.length:Int)==0 then
     some (([],false,()),())
    else
     ix c (IntKind.i64.wrap ((c.length:Int) - 1)) <|
     ix a (rd c (IntKind.i64.wrap ((c.length:Int) - 1)) 0) <|
     ix a f <|
     (bif (rd a (rd c (IntKind.i64.wrap ((c.length:Int) - 1)) 0) (0,0,0,0)).2.1 != (rd a f (0,0,0,0)).2.1 then
      some (([],false,()),())
     else
      ix c (IntKind.i64.wrap ((c.length:Int) - 1)) <|
      sx c 0 (IntKind.i64.wrap ((c.length:Int) - 1)) <|
      CV k g5 k a b (c.take (IntKind.i64.wrap ((c.length:Int) - 1)).toNat) e f (rd c (IntKind.i64.wrap ((c.length:Int) - 1)) 0) 0))
   else
    g5 a b c e (IntKind.i64.wrap (f+1))))
 else
  (bif decide ((c.length:Int)>0) then
   some (([],false,()),())
  else
   some ((b,true,()),())))
def adQ (k:Nat):Xx (((Unit)×(List jd)×(List Int)×(List Int)×qm×Int×Unit) -> Option DK):=dh (bf (ay (ay (ay (ay (ay bg)))))) (SG k)
def SH (k a:Nat) (b:List jd) (c e:List Int) (f:List pz) (h:Int):Option DK:=iter YZ (adQ k) a ((),b,c,e,f,h,())
theorem Vr (k a b c e f h):SH k (a+1) b c e f h=SG k (SH k a) b c e f h:=Ba _ _ _ _
def adR (k:Nat) (a:List jd):Option DK :=
 mk (a.length:Int) (a.length:Int) 8 <|
 (acH k a).bind fun q0 =>
 SH k k a (List.replicate (a.length:Int).toNat (0:Int)) ([]:List Int) q0.1.1 0
def F128:Fn:=⟨[M8],[SC,rB],fun k x=>adR k x.1⟩
theorem ok128:O 128 F128:=okF (ah ok174 <| ah ok175 aj) [(5,2),(89,1)] (fun k=>(.loop 5 YZ (adQ k) (fun g=>(fun (g5:KA)=>(.loop 10 Vp (YW k g5) (fun g=>.nil) (.loop 23 Vq (YX k g5) (fun g=>.nil) .nil))) (fun l_1 out open_ a i=>g ((),l_1,out,open_,a,i,()))) .nil)) Tryz.func128 rfl
abbrev Z0:Cut:=⟨[0,1,2,7,8],[.cell oq,.cell qd,cI,cI,cI],[],37,[]⟩
def SI (k:Nat) (g3:(List jd) -> (List Int) -> Int -> Int -> Int -> Option je) (a:List jd) (b:List Int) (c e f:Int):Option je :=
 (bif decide (f<(a.length:Int)) then
  ix a f <|
  (bif (rd a f (0,0,0,0)).1==9 then
   (bif decide (f<c) then
    ix b f <|
    (bif decide (c<(rd b f 0)) then
     g3 a b c (IntKind.i64.wrap (e+1)) (IntKind.i64.wrap (f+1))
    else
     g3 a b c e (IntKind.i64.wrap (f+1)))
   else
    g3 a b c e (IntKind.i64.wrap (f+1)))
  else
   g3 a b c e (IntKind.i64.wrap (f+1)))
 else
  some ((e,()),()))
def adS (k:Nat):Xx (((Unit)×(List jd)×(List Int)×Int×Int×Int×Unit) -> Option je):=dh (bf (ay (ay (ay (ay (ay bg)))))) (SI k)
def SK (k a:Nat) (b:List jd) (c:List Int) (e f h:Int):Option je:=iter Z0 (adS k) a ((),b,c,e,f,h,())
theorem Vs (k a b c e f h):SK k (a+1) b c e f h=SI k (SK k a) b c e f h:=Ba _ _ _ _
def ah0 (k:Nat) (a:List jd) (b:List Int) (c:Int):Option je :=
 SK k k a b c 0 0
def F176:Fn:=⟨[M8,alq,au],[rI],fun k (a,b,c,_)=>ah0 k a b c⟩
theorem ok176:O 176 F176:=okF aj [] (fun k=>(.loop 3 Z0 (adS k) (fun g=>.nil) .nil)) Tryz.func176 rfl
abbrev adT:Cut:=⟨[0,4,5,6,7,8],[.cell oq,.own 279 BM,cI,cI,.cell .bool,.cell .bool],[],235,[]⟩
def CW (k:Nat) (g10:M4) (g15:YP) (a:List jd) (b:List pz) (c e:Int) (f h:Bool):Option j3 :=
 (bif !f then
  (bif !h then
   some ((false,()),())
  else
   ix b c <|
   ix b e <|
   (SF k (rd b c (0,0,0,false)) (rd b e (0,0,0,false)).2.2.1).bind fun q2 =>
   (bif q2.1.1 then
    ix b e <|
    ix b c <|
    (bif decide ((rd b e (0,0,0,false)).2.1>(rd b c (0,0,0,false)).2.1) then
     some ((false,()),())
    else
     g15 a b c (IntKind.i64.wrap (e+1)))
   else
    g15 a b c (IntKind.i64.wrap (e+1))))
 else
  ix b c <|
  ix b e <|
  (SF k (rd b c (0,0,0,false)) (rd b e (0,0,0,false)).2.2.1).bind fun q3 =>
  (bif q3.1.1 then
   ix b e <|
   ix b c <|
   (bif decide ((rd b e (0,0,0,false)).2.1>(rd b c (0,0,0,false)).2.1) then
    some ((false,()),())
   else
    g15 a b c (IntKind.i64.wrap (e+1)))
  else
   g15 a b c (IntKind.i64.wrap (e+1))))
abbrev adU:Cut:=⟨[0,4,5,6,7],[.cell oq,.own 279 BM,cI,cI,.cell .bool],[],235,[]⟩
def L9 (k:Nat) (g10:M4) (g15:YP) (a:List jd) (b:List pz) (c e:Int) (f:Bool):Option j3 :=
 ix b c <|
 ix b e <|
 (bif decide ((rd b c (0,0,0,false)).1 <= (rd b e (0,0,0,false)).1) then
  ix b e <|
  ix b c <|
  (bif decide ((rd b e (0,0,0,false)).2.1 <= (rd b c (0,0,0,false)).2.1) then
   CW k g10 g15 a b c e f true
  else
   ix b e <|
   ix b c <|
   (bif decide ((rd b e (0,0,0,false)).1 <= (rd b c (0,0,0,false)).1) then
    ix b c <|
    ix b e <|
    CW k g10 g15 a b c e f (decide ((rd b c (0,0,0,false)).2.1 <= (rd b e (0,0,0,false)).2.1))
   else
    CW k g10 g15 a b c e f false))
 else
  ix b e <|
  ix b c <|
  (bif decide ((rd b e (0,0,0,false)).1 <= (rd b c (0,0,0,false)).1) then
   ix b c <|
   ix b e <|
   CW k g10 g15 a b c e f (decide ((rd b c (0,0,0,false)).2.1 <= (rd b e (0,0,0,false)).2.1))
  else
   CW k g10 g15 a b c e f false))
abbrev Vt:Cut:=⟨[0,4,5,6],[.cell oq,.own 279 BM,cI,cI],[],235,[]⟩
def LA (k:Nat) (g10:M4) (g15:YP) (a:List jd) (b:List pz) (c e:Int):Option j3 :=
 (bif decide (e<(b.length:Int)) then
  (bif c==e then
   g15 a b c (IntKind.i64.wrap (e+1))
  else
   ix b c <|
   ix b e <|
   (bif decide ((rd b c (0,0,0,false)).2.1<(rd b e (0,0,0,false)).1) then
    L9 k g10 g15 a b c e true
   else
    ix b e <|
    ix b c <|
    L9 k g10 g15 a b c e (decide ((rd b e (0,0,0,false)).2.1<(rd b c (0,0,0,false)).1))))
 else
  g10 a b (IntKind.i64.wrap (c+1)))
def Z4 (k:Nat) (g10:M4):Xx (((Unit)×(List jd)×qm×Int×Int×Unit) -> Option j3):=dh (bf (ay (ay (ay (ay bg))))) (LA k g10)
def CX (k:Nat) (g10:M4) (a:Nat) (b:List jd) (c:List pz) (e f:Int):Option j3:=iter Vt (Z4 k g10) a ((),b,c,e,f,())
theorem PI (k g10 a b c e f):CX k g10 (a+1) b c e f=LA k g10 (CX k g10 a) b c e f:=Ba _ _ _ _
abbrev Vu:Cut:=⟨[0,4,9,11,12,13,14],[.cell oq,.own 279 BM,.own 3 (.int .i64),cI,cI,cI,cI],[],235,[]⟩
def LB (k:Nat) (SL:Vf) (g30:(List jd) -> qm -> (List Int) -> Int -> Int -> Int -> Int -> Option j3) (a:List jd) (b:List pz) (c:List Int) (e f h i:Int):Option j3 :=
 (bif decide (i<(b.length:Int)) then
  ix b i <|
  (SF k (rd b i (0,0,0,false)) e).bind fun q5 =>
  (bif q5.1.1 then
   ix b i <|
   (bif (rd b i (0,0,0,false)).2.2.2 then
    g30 a b c e (IntKind.i64.wrap (f+1)) (IntKind.i64.wrap (h+1)) (IntKind.i64.wrap (i+1))
   else
    g30 a b c e f (IntKind.i64.wrap (h+1)) (IntKind.i64.wrap (i+1)))
  else
   g30 a b c e f h (IntKind.i64.wrap (i+1)))
 else
  (bif decide (f>2) then
   some ((false,()),())
  else
   ix a e <|
   (bif (rd a e (0,0,0,0)).1==11 then
    (bif decide (h>0) then
     some ((false,()),())
    else
     (ah0 k a c e).bind fun q6 =>
     (bif decide (q6.1.1>0) then
      some ((false,()),())
     else
      SL a b c (IntKind.i64.wrap (e+1))))
   else
    SL a b c (IntKind.i64.wrap (e+1)))))
def Z5 (k:Nat) (SL:Vf):Xx (((Unit)×(List jd)×qm×(List Int)×Int×Int×Int×Int×Unit) -> Option j3):=dh (bf (ay (ay (ay (ay (ay (ay (ay bg)))))))) (LB k SL)
def LC (k:Nat) (SL:Vf) (a:Nat) (b:List jd) (c:List pz) (e:List Int) (f h i l:Int):Option j3:=iter Vu (Z5 k SL) a ((),b,c,e,f,h,i,l,())
theorem PK (k SL a b c e f h i l):LC k SL (a+1) b c e f h i l=LB k SL (LC k SL a) b c e f h i l:=Ba _ _ _ _
abbrev Vv:Cut:=⟨[0,4,9,11],[.cell oq,.own 279 BM,.own 3 (.int .i64),cI],[],235,[]⟩
def LD (k:Nat) (SL:Vf) (a:List jd) (b:List pz) (c:List Int) (e:Int):Option j3 :=
 (bif decide (e<(a.length:Int)) then
  LC k SL k a b c e 0 0 0
 else
  some ((true,()),()))
def Z6 (k:Nat):Xx (((Unit)×(List jd)×qm×(List Int)×Int×Unit) -> Option j3):=dh (bf (ay (ay (ay (ay bg))))) (LD k)
def CY (k a:Nat) (b:List jd) (c:List pz) (e:List Int) (f:Int):Option j3:=iter Vv (Z6 k) a ((),b,c,e,f,())
theorem PL (k a b c e f):CY k (a+1) b c e f=LD k (CY k a) b c e f:=Ba _ _ _ _
abbrev Vw:Cut:=⟨[0,4,5],[.cell oq,.own 279 BM,cI],[],235,[]⟩
def LG (k:Nat) (g10:M4) (a:List jd) (b:List pz) (c:Int):Option j3 :=
 (bif decide (c<(b.length:Int)) then
  ix b c <|
  (bif decide ((rd b c (0,0,0,false)).2.1≥(IntKind.i64.wrap ((a.length:Int) - 1))) then
   some ((false,()),())
  else
   CX k g10 k a b c 0)
 else
  (adR k a).bind fun q4 =>
  (bif !q4.1.2.1 then
   some ((false,()),())
  else
   CY k k a b q4.1.1 0))
def Z7 (k:Nat):Xx (((Unit)×(List jd)×qm×Int×Unit) -> Option j3):=dh (bf (ay (ay (ay bg)))) (LG k)
def CZ (k a:Nat) (b:List jd) (c:List pz) (e:Int):Option j3:=iter Vw (Z7 k) a ((),b,c,e,())
theorem PO (k a b c e):CZ k (a+1) b c e=LG k (CZ k a) b c e:=Ba _ _ _ _
abbrev Z8:Cut:=⟨[0,3],[.cell oq,cI],[],235,[]⟩
def SN (k:Nat) (g4:(List jd) -> Int -> Option j3) (a:List jd) (b:Int):Option j3 :=
 (bif decide (b<(a.length:Int)) then
  ix a b <|
  (adO k (rd a b (0,0,0,0))).bind fun q0 =>
  (bif !q0.1.1 then
   some ((false,()),())
  else
   ix a b <|
   (bif !(((rd a b (0,0,0,0)).1==0)==(b==(IntKind.i64.wrap ((a.length:Int) - 1)))) then
    some ((false,()),())
   else
    g4 a (IntKind.i64.wrap (b+1))))
 else
  (acH k a).bind fun q1 =>
  CZ k k a q1.1.1 0)
def adV (k:Nat):Xx (((Unit)×(List jd)×Int×Unit) -> Option j3):=dh (bf (ay (ay bg))) (SN k)
def J3 (k a:Nat) (b:List jd) (c:Int):Option j3:=iter Z8 (adV k) a ((),b,c,())
theorem Vx (k a b c):J3 k (a+1) b c=SN k (J3 k a) b c:=Ba _ _ _ _
def ah1 (k:Nat) (a:List jd):Option j3 :=
 (bif decide ((a.length:Int)<1) then
  some ((false,()),())
 else
  (bif decide ((a.length:Int)>24) then
   some ((false,()),())
  else
   J3 k k a 0))
def F126:Fn:=⟨[M8],[rB],fun k x=>ah1 k x.1⟩
theorem ok126:O 126 F126:=okF (ah ok128 <| ah ok129 <| ah ok174 <| ah ok175 <| ah ok176 aj) [] (fun k=>(.loop 26 Vv (Z6 k) (fun g=>(fun (SL:Vf)=>(.loop 30 Vu (Z5 k SL) (fun g=>.nil) .nil)) (fun l_6 a4 pairs i5=>g ((),l_6,a4,pairs,i5,()))) (.loop 10 Vw (Z7 k) (fun g=>(fun (g10:M4)=>(.loop 15 Vt (Z4 k g10) (fun g=>(fun (g15:YP)=>(.join 20 adT (fun (_,a,b,c,e,f,h,_)=>CW k g10 g15 a b c e f h) (.join 19 adU (fun (_,a,b,c,e,f,_)=>L9 k g10 g15 a b c e f) .nil))) (fun l_3 a1 i2 k_=>g ((),l_3,a1,i2,k_,()))) .nil)) (fun l_2 a i1=>g ((),l_2,a,i1,()))) (.loop 4 Z8 (adV k) (fun g=>.nil) .nil)))) Tryz.func126 rfl
abbrev Z9:Cut:=⟨[0,3,4,5,6],[.cell oq,.own 2 (.int .i64),.own 279 BM,cI,cI],[],58,[]⟩
def SQ (k:Nat) (g4:Vg) (g8:(List jd) -> (List Int) -> qm -> Int -> Int -> Option nk) (a:List jd) (b:List Int) (c:List pz) (e f:Int):Option nk :=
 (bif decide (f<(c.length:Int)) then
  ix c f <|
  (bif (rd c f (0,0,0,false)).2.2.2 then
   ix c f <|
   (SF k (rd c f (0,0,0,false)) e).bind fun q1 =>
   (bif q1.1.1 then
    ix b e <|
    ix c f <|
    ix a (rd c f (0,0,0,false)).2.2.1 <|
    ix b e <|
    g8 a (upd b e (IntKind.i64.wrap ((rd b e 0) * (rd a (rd c f (0,0,0,false)).2.2.1 (0,0,0,0)).2.2.2))) c e (IntKind.i64.wrap (f+1))
   else
    g8 a b c e (IntKind.i64.wrap (f+1)))
  else
   g8 a b c e (IntKind.i64.wrap (f+1)))
 else
  g4 a b c (IntKind.i64.wrap (e+1)))
def adW (k:Nat) (g4:Vg):Xx (((Unit)×(List jd)×(List Int)×qm×Int×Int×Unit) -> Option nk):=dh (bf (ay (ay (ay (ay (ay bg)))))) (SQ k g4)
def SS (k:Nat) (g4:Vg) (a:Nat) (b:List jd) (c:List Int) (e:List pz) (f h:Int):Option nk:=iter Z9 (adW k g4) a ((),b,c,e,f,h,())
theorem Vy (k g4 a b c e f h):SS k g4 (a+1) b c e f h=SQ k g4 (SS k g4 a) b c e f h:=Ba _ _ _ _
abbrev Za:Cut:=⟨[0,3,4,5],[.cell oq,.own 2 (.int .i64),.own 279 BM,cI],[],58,[]⟩
def SV (k:Nat) (g4:Vg) (a:List jd) (b:List Int) (c:List pz) (e:Int):Option nk :=
 (bif decide (e<(a.length:Int)) then
  ix b e <|
  SS k g4 k a (upd b e 1) c e 0
 else
  some ((b,()),()))
def adX (k:Nat):Xx (((Unit)×(List jd)×(List Int)×qm×Int×Unit) -> Option nk):=dh (bf (ay (ay (ay (ay bg))))) (SV k)
def J4 (k a:Nat) (b:List jd) (c:List Int) (e:List pz) (f:Int):Option nk:=iter Za (adX k) a ((),b,c,e,f,())
theorem Vz (k a b c e f):J4 k (a+1) b c e f=SV k (J4 k a) b c e f:=Ba _ _ _ _
def ah2 (k:Nat) (a:List jd):Option nk :=
 mk (a.length:Int) (a.length:Int) 8 <|
 (acH k a).bind fun q0 =>
 J4 k k a (List.replicate (a.length:Int).toNat (0:Int)) q0.1.1 0
def F127:Fn:=⟨[M8],[.val ⟨false,zx,true⟩],fun k x=>ah2 k x.1⟩
theorem ok127:O 127 F127:=okF (ah ok174 <| ah ok175 aj) [] (fun k=>(.loop 4 Za (adX k) (fun g=>(fun (g4:Vg)=>(.loop 8 Z9 (adW k g4) (fun g=>.nil) .nil)) (fun l_1 out a i=>g ((),l_1,out,a,i,()))) .nil)) Tryz.func127 rfl
abbrev Zb:Cut:=⟨[0,2,4,5,6,8,9,10,11],[.cell oq,.box 161 [cI,cI,.nil],.box 161 [cI,cI,.own 230 qh],.own 2 (.int .i64),.own 3 (.int .i64),cI,cI,cI,cI],[],103,[]⟩
def SX (k:Nat) (g8:P7) (g16:(List jd) -> Int -> Int -> Int -> Int -> p8 -> (List Int) -> (List Int) -> Int -> Int -> Int -> Int -> Option H7) (a:List jd) (b c e f:Int) (h:ku) (i l:List Int) (m n o p:Int):Option H7 :=
 ix l n <|
 (bif decide (p <= (rd l n 0)) then
  ix i p <|
  g16 a b c e f h i l m n (IntKind.i64.wrap (o+(rd i p 0))) (IntKind.i64.wrap (p+1))
 else
  ix a n <|
  ix i n <|
  nz (rd i n 0) <|
  ap h ([((rd a n (0,0,0,0)).2.1,IntKind.i64.wrap (Int.tdiv o (rd i n 0)))]:List (Int×Int)) 16 fun r3 =>
  g8 a b c e f r3 i l m (IntKind.i64.wrap (n+1)))
def adY (k:Nat) (g8:P7):Xx (((Unit)×(List jd)×(Int×Int×Unit×Unit)×YQ×(List Int)×(List Int)×Int×Int×Int×Int×Unit) -> Option H7):=dh (bf (ay (bq (ay (ay (bf bg))) (bq (ay (ay (ay bg))) (ay (ay (ay (ay (ay (ay bg)))))))))) (SX k g8)
def SY (k:Nat) (g8:P7) (a:Nat) (b:List jd) (c e f h:Int) (i:ku) (l m:List Int) (n o p s:Int):Option H7:=iter Zb (adY k g8) a ((),b,(c,e,(),()),(f,h,i,()),l,m,n,o,p,s,())
theorem VA (k g8 a b c e f h i l m n o p s):SY k g8 (a+1) b c e f h i l m n o p s=SX k g8 (SY k g8 a) b c e f h i l m n o p s:=Ba _ _ _ _
abbrev ah3:Cut:=⟨[0,2,4,5,6,8,9],[.cell oq,.box 161 [cI,cI,.nil],.box 161 [cI,cI,.own 230 qh],.own 2 (.int .i64),.own 3 (.int .i64),cI,cI],[],103,[]⟩
def M9 (k:Nat) (g8:P7) (a:List jd) (b c e f:Int) (h:ku) (i l:List Int) (m n:Int):Option H7 :=
 ix a n <|
 (bif (rd a n (0,0,0,0)).1==9 then
  SY k g8 k a b c e f h i l m n 0 (IntKind.i64.wrap (n+1))
 else
  g8 a b c e f h i l m (IntKind.i64.wrap (n+1)))
abbrev adZ:Cut:=⟨[0,2,4,5,6,8,9],[.cell oq,.box 161 [cI,cI,.nil],.box 161 [cI,cI,.own 230 qh],.own 2 (.int .i64),.own 3 (.int .i64),cI,cI],[],103,[]⟩
def Zc (k:Nat) (g8:P7) (a:List jd) (b c e f:Int) (h:ku) (i l:List Int) (m n:Int):Option H7 :=
 (bif decide (n<(a.length:Int)) then
  ix i n <|
  ix i n <|
  ix a n <|
  (bif (rd a n (0,0,0,0)).1==11 then
   M9 k g8 a b c (IntKind.i64.wrap (e+(rd i n 0))) (mx f (IntKind.i64.wrap (m+(rd i n 0)))) h i l 0 n
  else
   ix a n <|
   (bif (rd a n (0,0,0,0)).1==0 then
    M9 k g8 a b c (IntKind.i64.wrap (e+(rd i n 0))) (mx f (IntKind.i64.wrap (m+(rd i n 0)))) h i l 0 n
   else
    M9 k g8 a b c (IntKind.i64.wrap (e+(rd i n 0))) f h i l (IntKind.i64.wrap (m+(rd i n 0))) n))
 else
  some (((e,f,h),true,()),()))
def akk (k:Nat):Xx (((Unit)×(List jd)×(Int×Int×Unit×Unit)×YQ×(List Int)×(List Int)×Int×Int×Unit) -> Option H7):=dh (bf (ay (bq (ay (ay (bf bg))) (bq (ay (ay (ay bg))) (ay (ay (ay (ay bg)))))))) (Zc k)
def VB (k a:Nat) (b:List jd) (c e f h:Int) (i:ku) (l m:List Int) (n o:Int):Option H7:=iter adZ (akk k) a ((),b,(c,e,(),()),(f,h,i,()),l,m,n,o,())
theorem Zd (k a b c e f h i l m n o):VB k (a+1) b c e f h i l m n o=Zc k (VB k a) b c e f h i l m n o:=Ba _ _ _ _
def S70 (k:Nat) (a:List jd):Option H7 :=
 (ah1 k a).bind fun q0 =>
 (bif !q0.1.1 then
  some (((0,0,[]),false,()),())
 else
  (ah2 k a).bind fun q1 =>
  (adR k a).bind fun q2 =>
  VB k k a 0 0 0 0 ([]:List (Int×Int)) q1.1.1 q2.1.1 0 0)
def F70:Fn:=⟨[M8],[.val ⟨true,(.pair (.int .i64) (.pair (.int .i64) (.sl 230 qh))),true⟩,rB],fun k x=>S70 k x.1⟩
theorem ok70:O 70 F70:=okF (ah ok126 <| ah ok127 <| ah ok128 aj) [(16,2)] (fun k=>(.loop 8 adZ (akk k) (fun g=>(fun (g8:P7)=>(.loop 16 Zb (adY k g8) (fun g=>.nil) (.join 13 ah3 (fun (_,a,(b,c,_),(e,f,h,_),i,l,m,n,_)=>M9 k g8 a b c e f h i l m n) .nil))) (fun l_1 t2 ad1 c c1 c2 t pairs piece i=>g ((),l_1,(t2,ad1,(),()),(c,c1,c2,()),t,pairs,piece,i,()))) .nil)) Tryz.func70 rfl
abbrev Ze:Cut:=⟨[0,3],[.cell oq,cI],[],16,[]⟩
def TA (k:Nat) (g2:(List jd) -> Int -> Option j3) (a:List jd) (b:Int):Option j3 :=
 (bif decide (b<(a.length:Int)) then
  ix a b <|
  (bif (rd a b (0,0,0,0)).1==9 then
   some ((true,()),())
  else
   g2 a (IntKind.i64.wrap (b+1)))
 else
  some ((false,()),()))
def ad2 (k:Nat):Xx (((Unit)×(List jd)×Int×Unit) -> Option j3):=dh (bf (ay (ay bg))) (TA k)
def J5 (k a:Nat) (b:List jd) (c:Int):Option j3:=iter Ze (ad2 k) a ((),b,c,())
theorem VD (k a b c):J5 k (a+1) b c=TA k (J5 k a) b c:=Ba _ _ _ _
def ad3 (k:Nat) (a:List jd):Option j3 :=
 J5 k k a 0
def F121:Fn:=⟨[M8],[rB],fun k x=>ad3 k x.1⟩
theorem ok121:O 121 F121:=okF aj [] (fun k=>(.loop 2 Ze (ad2 k) (fun g=>.nil) .nil)) Tryz.func121 rfl
def S68 (k:Nat) (a:YN):Option je :=
 (S70 k a.2.2.2.1).bind fun q0 =>
 (S70 k a.2.2.2.2.1).bind fun q1 =>
 (S70 k a.2.2.2.2.2).bind fun q2 =>
 (bif decide (a.1<0) then
  some ((1,()),())
 else
  (bif decide (a.1>63) then
   some ((1,()),())
  else
   (bif decide (a.2.1<1) then
    some ((9,()),())
   else
    (bif decide (a.2.1>16384) then
     some ((9,()),())
    else
     (bif decide (a.2.2.1<1) then
      some ((9,()),())
     else
      (bif decide (a.2.2.1>a.2.1) then
       some ((9,()),())
      else
       (bif !q0.1.2.1 then
        some ((2,()),())
       else
        (bif decide ((a.2.2.2.2.1.length:Int)>0) then
         (bif !q1.1.2.1 then
          some ((2,()),())
         else
          (bif decide ((a.2.2.2.2.2.length:Int)>0) then
           (bif !q2.1.2.1 then
            some ((2,()),())
           else
            (ad3 k a.2.2.2.2.2).bind fun q3 =>
            (bif q3.1.1 then
             some ((2,()),())
            else
             (bif decide (q0.1.1.1>a.2.2.1) then
              some ((10,()),())
             else
              (bif decide ((a.2.2.2.2.1.length:Int)>0) then
               (bif decide (q1.1.1.1>q0.1.1.1) then
                some ((12,()),())
               else
                some ((0,()),()))
              else
               some ((0,()),())))))
          else
           (bif decide (q0.1.1.1>a.2.2.1) then
            some ((10,()),())
           else
            (bif decide ((a.2.2.2.2.1.length:Int)>0) then
             (bif decide (q1.1.1.1>q0.1.1.1) then
              some ((12,()),())
             else
              some ((0,()),()))
            else
             some ((0,()),())))))
        else
         (bif decide ((a.2.2.2.2.2.length:Int)>0) then
          (bif !q2.1.2.1 then
           some ((2,()),())
          else
           (ad3 k a.2.2.2.2.2).bind fun q4 =>
           (bif q4.1.1 then
            some ((2,()),())
           else
            (bif decide (q0.1.1.1>a.2.2.1) then
             some ((10,()),())
            else
             (bif decide ((a.2.2.2.2.1.length:Int)>0) then
              (bif decide (q1.1.1.1>q0.1.1.1) then
               some ((12,()),())
              else
               some ((0,()),()))
             else
              some ((0,()),())))))
         else
          (bif decide (q0.1.1.1>a.2.2.1) then
           some ((10,()),())
          else
           (bif decide ((a.2.2.2.2.1.length:Int)>0) then
            (bif decide (q1.1.1.1>q0.1.1.1) then
             some ((12,()),())
            else
             some ((0,()),()))
           else
            some ((0,()),()))))))))))))
def F68:Fn:=⟨[YU],[rI],fun k x=>S68 k x.1⟩
theorem ok68:O 68 F68:=okF (ah ok70 <| ah ok121 aj) [] On Tryz.func68 rfl
abbrev Zf:Cut:=⟨[0,3],[.cell yt,cI],[],34,[]⟩
def TB (k:Nat) (g2:(List ji) -> Int -> Option j3) (a:List ji) (b:Int):Option j3 :=
 (bif decide (b<(a.length:Int)) then
  ix a b <|
  (S68 k (rd a b (0,0,0,[],[],[]))).bind fun q0 =>
  (bif q0.1.1 != 0 then
   some ((false,()),())
  else
   (bif decide (b>0) then
    ix a b <|
    ix a (IntKind.i64.wrap (b - 1)) <|
    (bif decide ((rd a b (0,0,0,[],[],[])).1 <= (rd a (IntKind.i64.wrap (b - 1)) (0,0,0,[],[],[])).1) then
     some ((false,()),())
    else
     g2 a (IntKind.i64.wrap (b+1)))
   else
    g2 a (IntKind.i64.wrap (b+1))))
 else
  some ((true,()),()))
def ad4 (k:Nat):Xx (((Unit)×(List ji)×Int×Unit) -> Option j3):=dh (bf (ay (ay bg))) (TB k)
def J6 (k a:Nat) (b:List ji) (c:Int):Option j3:=iter Zf (ad4 k) a ((),b,c,())
theorem VE (k a b c):J6 k (a+1) b c=TB k (J6 k a) b c:=Ba _ _ _ _
def ad5 (k:Nat) (a:List ji):Option j3 :=
 J6 k k a 0
def F122:Fn:=⟨[SB],[rB],fun k x=>ad5 k x.1⟩
theorem ok122:O 122 F122:=okF (ah ok68 aj) [] (fun k=>(.loop 2 Zf (ad4 k) (fun g=>.nil) .nil)) Tryz.func122 rfl
abbrev ah4:Cut:=⟨[5,7,9],[.box 161 [cI,cI,.own 230 qh],.box 161 [cI,cI,.own 230 qh],cI],[],43,[]⟩
def TD (k:Nat) (a b:Int) (c:ku) (e f:Int) (h:ku) (i:Int):Option (YQ×Unit) :=
 ap ([]:List (Int×Int)) c 16 fun r3 =>
 ap r3 h 16 fun r4 =>
 some ((a,i,r4,()),())
def acI (k:Nat) (a:YN):Option (YQ×Unit) :=
 (S68 k a).bind fun q0 =>
 (bif q0.1.1 != 0 then
  some ((0,0,[],()),())
 else
  (S70 k a.2.2.2.1).bind fun q1 =>
  (S70 k a.2.2.2.2.1).bind fun q2 =>
  (bif decide ((a.2.2.2.2.1.length:Int)>0) then
   TD k q1.1.1.1 q1.1.1.2.1 q1.1.1.2.2 q2.1.1.1 q2.1.1.2.1 q2.1.1.2.2 q2.1.1.1
  else
   TD k q1.1.1.1 q1.1.1.2.1 q1.1.1.2.2 q2.1.1.1 q2.1.1.2.1 q2.1.1.2.2 q1.1.1.2.1))
def F124:Fn:=⟨[YU],[rI,rI,.val ⟨false,(.sl 230 qh),true⟩],fun k x=>acI k x.1⟩
theorem ok124:O 124 F124:=okF (ah ok68 <| ah ok70 aj) [] (fun k=>(.join 8 ah4 (fun (_,(a,b,c,_),(e,f,h,_),i,_)=>TD k a b c e f h i) .nil)) Tryz.func124 rfl
abbrev ad6:Cut:=⟨[0,1,5,6,7],[.cell yt,cI,cI,.own 87 V8,cI],[],49,[]⟩
def Zg (k:Nat) (g2:Vk) (g6:(List ji) -> Int -> Int -> (List jd) -> Int -> Option je) (a:List ji) (b c:Int) (e:List jd) (f:Int):Option je :=
 (bif decide (f<(e.length:Int)) then
  ix e f <|
  (bif (rd e f (0,0,0,0)).1==9 then
   ix e f <|
   (bif (rd e f (0,0,0,0)).2.1==b then
    some ((c,()),())
   else
    g6 a b c e (IntKind.i64.wrap (f+1)))
  else
   g6 a b c e (IntKind.i64.wrap (f+1)))
 else
  g2 a b (IntKind.i64.wrap (c+1)))
def akm (k:Nat) (g2:Vk):Xx (((Unit)×(List ji)×Int×Int×(List jd)×Int×Unit) -> Option je):=dh (bf (ay (ay (ay (ay (ay bg)))))) (Zg k g2)
def MB (k:Nat) (g2:Vk) (a:Nat) (b:List ji) (c e:Int) (f:List jd) (h:Int):Option je:=iter ad6 (akm k g2) a ((),b,c,e,f,h,())
theorem Zh (k g2 a b c e f h):MB k g2 (a+1) b c e f h=Zg k g2 (MB k g2 a) b c e f h:=Ba _ _ _ _
abbrev ad7:Cut:=⟨[0,1,5],[.cell yt,cI,cI],[],49,[]⟩
def Zi (k:Nat) (g2:Vk) (a:List ji) (b c:Int):Option je :=
 (bif decide (c<(a.length:Int)) then
  ix a c <|
  ap ([]:List jd) (rd a c (0,0,0,[],[],[])).2.2.2.1 32 fun r0 =>
  ix a c <|
  ap r0 (rd a c (0,0,0,[],[],[])).2.2.2.2.1 32 fun r1 =>
  MB k g2 k a b c r1 0
 else
  some ((8,()),()))
def akn (k:Nat):Xx (((Unit)×(List ji)×Int×Int×Unit) -> Option je):=dh (bf (ay (ay (ay bg)))) (Zi k)
def Zj (k a:Nat) (b:List ji) (c e:Int):Option je:=iter ad7 (akn k) a ((),b,c,e,())
theorem Zk (k a b c e):Zj k (a+1) b c e=Zi k (Zj k a) b c e:=Ba _ _ _ _
def S41 (k:Nat) (a:List ji) (b:Int):Option je :=
 Zj k k a b 0
def F41:Fn:=⟨[SB,au],[rI],fun k x=>S41 k x.1 x.2.1⟩
theorem ok41:O 41 F41:=okF aj [] (fun k=>(.loop 2 ad7 (akn k) (fun g=>(fun (g2:Vk)=>(.loop 6 ad6 (akm k g2) (fun g=>.nil) .nil)) (fun l_1 s1 i=>g ((),l_1,s1,i,()))) .nil)) Tryz.func41 rfl
abbrev Zl:Cut:=⟨[0,1,5,6,9,10],[.cell yt,cI,cI,cI,.own 230 qh,cI],[],52,[]⟩
def TF (k:Nat) (g3:P8) (g8:(List ji) -> Int -> Int -> Int -> p8 -> Int -> Option je) (a:List ji) (b c e:Int) (f:ku) (h:Int):Option je :=
 (bif decide (h<(f.length:Int)) then
  ix f h <|
  (S41 k a (rd f h (0,0)).1).bind fun q1 =>
  (bif decide (q1.1.1 <= b) then
   ix f h <|
   g8 a b (mx c (rd f h (0,0)).2) e f (IntKind.i64.wrap (h+1))
  else
   g8 a b c e f (IntKind.i64.wrap (h+1)))
 else
  g3 a b c (IntKind.i64.wrap (e+1)))
def ad8 (k:Nat) (g3:P8):Xx (((Unit)×(List ji)×Int×Int×Int×p8×Int×Unit) -> Option je):=dh (bf (ay (ay (ay (ay (ay (ay bg))))))) (TF k g3)
def TG (k:Nat) (g3:P8) (a:Nat) (b:List ji) (c e f:Int) (h:ku) (i:Int):Option je:=iter Zl (ad8 k g3) a ((),b,c,e,f,h,i,())
theorem VF (k g3 a b c e f h i):TG k g3 (a+1) b c e f h i=TF k g3 (TG k g3 a) b c e f h i:=Ba _ _ _ _
abbrev Zm:Cut:=⟨[0,1,5,6],[.cell yt,cI,cI,cI],[],52,[]⟩
def TH (k:Nat) (g3:P8) (a:List ji) (b c e:Int):Option je :=
 (bif decide (e<(a.length:Int)) then
  (bif e==b then
   g3 a b c (IntKind.i64.wrap (e+1))
  else
   ix a e <|
   (acI k (rd a e (0,0,0,[],[],[]))).bind fun q0 =>
   TG k g3 k a b c e q0.1.2.2.1 0)
 else
  some ((c,()),()))
def ad9 (k:Nat):Xx (((Unit)×(List ji)×Int×Int×Int×Unit) -> Option je):=dh (bf (ay (ay (ay (ay bg))))) (TH k)
def TI (k a:Nat) (b:List ji) (c e f:Int):Option je:=iter Zm (ad9 k) a ((),b,c,e,f,())
theorem VG (k a b c e f):TI k (a+1) b c e f=TH k (TI k a) b c e f:=Ba _ _ _ _
def ah5 (k:Nat) (a:List ji) (b:Int):Option je :=
 TI k k a b 0 0
def F125:Fn:=⟨[SB,au],[rI],fun k x=>ah5 k x.1 x.2.1⟩
theorem ok125:O 125 F125:=okF (ah ok41 <| ah ok124 aj) [] (fun k=>(.loop 3 Zm (ad9 k) (fun g=>(fun (g3:P8)=>(.loop 8 Zl (ad8 k g3) (fun g=>.nil) .nil)) (fun l_1 i1 most k_=>g ((),l_1,i1,most,k_,()))) .nil)) Tryz.func125 rfl
abbrev Zn:Cut:=⟨[0,1,4,5,6],[.cell yt,cI,.box 272 [.nil,cI,cI,.nil],.box 272 [.own 2 (.int .i64),cI,cI,.own 2 (.int .i64)],cI],[],50,[]⟩
def TJ (k:Nat) (g3:(List ji) -> Int -> Int -> Int -> (List Int) -> Int -> Int -> (List Int) -> Int -> Option Ve) (a:List ji) (b c e:Int) (x:List Int) (f h:Int) (i:List Int) (l:Int):Option Ve :=
 (bif decide (l <= b) then
  ix a l <|
  (acI k (rd a l (0,0,0,[],[],[]))).bind fun q1 =>
  ap x ([q1.1.1]:List Int) 8 fun r2 =>
  ix a l <|
  ap i ([(rd a l (0,0,0,[],[],[])).2.1]:List Int) 8 fun r3 =>
  g3 a b c e r2 (mx f q1.1.2.1) h r3 (IntKind.i64.wrap (l+1))
 else
  some (((x,f,h,i),()),()))
def aea (k:Nat):Xx (((Unit)×(List ji)×Int×(Unit×Int×Int×Unit×Unit)×adH×Int×Unit) -> Option Ve):=dh (bf (ay (ay (bq (bf (ay (ay (bf bg)))) (bq (ay (ay (ay (ay bg)))) (ay bg)))))) (TJ k)
def TK (k a:Nat) (b:List ji) (c e f:Int) (x:List Int) (h i:Int) (l:List Int) (m:Int):Option Ve:=iter Zn (aea k) a ((),b,c,((),e,f,(),()),(x,h,i,l,()),m,())
theorem VH (k a b c e f x h i l m):TK k (a+1) b c e f x h i l m=TJ k (TK k a) b c e f x h i l m:=Ba _ _ _ _
def ah6 (k:Nat) (a:List ji) (b:Int):Option Ve :=
 (ah5 k a b).bind fun q0 =>
 TK k k a b 0 0 ([]:List Int) 0 q0.1.1 ([]:List Int) 0
def F172:Fn:=⟨[SB,au],[.val ⟨true,(.pair zx (.pair (.int .i64) (.pair (.int .i64) zx))),true⟩],fun k x=>ah6 k x.1 x.2.1⟩
theorem ok172:O 172 F172:=okF (ah ok124 <| ah ok125 aj) [(13,2)] (fun k=>(.loop 3 Zn (aea k) (fun g=>.nil) .nil)) Tryz.func172 rfl
def acJ (k:Nat) (a b:Int):Option AU :=
 (bif decide (a>(IntKind.i64.wrap (9223372036854775807 - b))) then
  some ((0,false,()),())
 else
  some ((IntKind.i64.wrap (a+b),true,()),()))
def F218:Fn:=⟨[au,au],[rI,rB],fun k x=>acJ k x.1 x.2.1⟩
theorem ok218:O 218 F218:=okF aj [] On Tryz.func218 rfl
def aeb (k:Nat) (a b:Int):Option AU :=
 (bif decide (b<1) then
  some ((0,false,()),())
 else
  (bif decide (a<0) then
   some ((0,false,()),())
  else
   nz b <|
   nz b <|
   (bif decide ((Int.tmod a b)>0) then
    some ((IntKind.i64.wrap ((IntKind.i64.wrap (Int.tdiv a b))+1),true,()),())
   else
    some ((IntKind.i64.wrap (Int.tdiv a b),true,()),()))))
def F219:Fn:=⟨[au,au],[rI,rB],fun k x=>aeb k x.1 x.2.1⟩
theorem ok219:O 219 F219:=okF aj [] On Tryz.func219 rfl
def aec (k:Nat) (a b:Int):Option AU :=
 (bif decide (a>0) then
  nz a <|
  (bif decide (b>(IntKind.i64.wrap (Int.tdiv 9223372036854775807 a))) then
   some ((0,false,()),())
  else
   some ((IntKind.i64.wrap (a * b),true,()),()))
 else
  some ((IntKind.i64.wrap (a * b),true,()),()))
def F220:Fn:=⟨[au,au],[rI,rB],fun k x=>aec k x.1 x.2.1⟩
theorem ok220:O 220 F220:=okF aj [] On Tryz.func220 rfl
abbrev Zo:Cut:=⟨[2,3,8,9,10,15],[cI,.box 272 [.cell zx,cI,cI,.cell zx],cI,cI,.cell .bool,cI],[],94,[]⟩
def TL (k:Nat) (g9:Int -> (List Int) -> Int -> Int -> (List Int) -> Int -> Int -> Bool -> Int -> Option AU) (a:Int) (b:List Int) (c e:Int) (f:List Int) (h i:Int) (l:Bool) (m:Int):Option AU :=
 (bif decide (m<h) then
  (bif l then
   ix f m <|
   (aeb k a (rd f m 0)).bind fun q4 =>
   ix b m <|
   (aec k q4.1.1 (rd b m 0)).bind fun q5 =>
   (bif q5.1.2.1 then
    (acJ k i q5.1.1).bind fun q6 =>
    g9 a b c e f h q6.1.1 q6.1.2.1 (IntKind.i64.wrap (m+1))
   else
    g9 a b c e f h i q5.1.2.1 (IntKind.i64.wrap (m+1)))
  else
   some ((i,l,()),()))
 else
  some ((i,l,()),()))
def aed (k:Nat):Xx (((Unit)×Int×adH×Int×Int×Bool×Int×Unit) -> Option AU):=dh (bf (ay (bq (ay (ay (ay (ay bg)))) (ay (ay (ay (ay bg))))))) (TL k)
def MC (k a:Nat) (b:Int) (c:List Int) (e f:Int) (h:List Int) (i l:Int) (m:Bool) (n:Int):Option AU:=iter Zo (aed k) a ((),b,(c,e,f,h,()),i,l,m,n,())
theorem VI (k a b c e f h i l m n):MC k (a+1) b c e f h i l m n=TL k (MC k a) b c e f h i l m n:=Ba _ _ _ _
abbrev ah7:Cut:=⟨[2,3,8,9,10,13],[cI,.box 272 [.cell zx,cI,cI,.cell zx],cI,cI,.cell .bool,cI],[],94,[]⟩
def TM (k:Nat) (a:Int) (b:List Int) (c e:Int) (f:List Int) (h i:Int) (l:Bool) (m:Int):Option AU :=
 (bif l then
  (acJ k i m).bind fun q3 =>
  MC k k a b c e f h q3.1.1 q3.1.2.1 0
 else
  MC k k a b c e f h i l 0)
def ah8 (k:Nat) (x:(List Int)×Int×Int×List Int) (a b:Int):Option AU :=
 ix x.1 (IntKind.i64.wrap ((x.1.length:Int) - 1)) <|
 (acJ k (rd x.1 (IntKind.i64.wrap ((x.1.length:Int) - 1)) 0) x.2.2.1).bind fun q0 =>
 (aeb k b a).bind fun q1 =>
 (aec k q1.1.1 x.2.1).bind fun q2 =>
 (bif q0.1.2.1 then
  TM k b x.1 x.2.1 x.2.2.1 x.2.2.2 (IntKind.i64.wrap ((x.1.length:Int) - 1)) q0.1.1 q2.1.2.1 q2.1.1
 else
  TM k b x.1 x.2.1 x.2.2.1 x.2.2.2 (IntKind.i64.wrap ((x.1.length:Int) - 1)) q0.1.1 false q2.1.1)
def F173:Fn:=⟨[.val ⟨true,(.pair zx (.pair (.int .i64) (.pair (.int .i64) zx))),false⟩,au,au],[rI,rB],fun k (a,b,c,_)=>ah8 k a b c⟩
theorem ok173:O 173 F173:=okF (ah ok218 <| ah ok219 <| ah ok220 aj) [] (fun k=>(.loop 9 Zo (aed k) (fun g=>.nil) (.join 6 ah7 (fun (_,a,(b,c,e,f,_),h,i,l,m,_)=>TM k a b c e f h i l m) .nil))) Tryz.func173 rfl
abbrev Zp:Cut:=⟨[0,1,2,9,10,11],[.cell yt,cI,cI,.box 272 [.own 2 (.int .i64),cI,cI,.own 2 (.int .i64)],cI,cI],[],66,[]⟩
def XM (k:Nat) (g7:(List ji) -> Int -> Int -> (List Int) -> Int -> Int -> (List Int) -> Int -> Int -> Option Vj) (a:List ji) (b c:Int) (x:List Int) (e f:Int) (h:List Int) (i l:Int):Option Vj :=
 (ah8 k (x,e,f,h) c i).bind fun q2 =>
 (bif !q2.1.2.1 then
  some ((0,0,13,()),())
 else
  ix a b <|
  (bif decide (q2.1.1>(rd a b (0,0,0,[],[],[])).2.2.1) then
   some ((0,0,14,()),())
  else
   (bif q2.1.1==i then
    some ((i,l,0,()),())
   else
    g7 a b c x e f h q2.1.1 (IntKind.i64.wrap (l+1)))))
def aee (k:Nat):Xx (((Unit)×(List ji)×Int×Int×adH×Int×Int×Unit) -> Option Vj):=dh (bf (ay (ay (ay (bq (ay (ay (ay (ay bg)))) (ay (ay bg))))))) (XM k)
def TN (k a:Nat) (b:List ji) (c e:Int) (x:List Int) (f h:Int) (i:List Int) (l m:Int):Option Vj:=iter Zp (aee k) a ((),b,c,e,(x,f,h,i,()),l,m,())
theorem aef (k a b c e x f h i l m):TN k (a+1) b c e x f h i l m=XM k (TN k a) b c e x f h i l m:=Ba _ _ _ _
def ah9 (k:Nat) (a:List ji) (b c:Int):Option Vj :=
 (ad5 k a).bind fun q0 =>
 (bif !q0.1.1 then
  some ((0,0,1,()),())
 else
  (bif decide (b<0) then
   some ((0,0,1,()),())
  else
   (bif decide (b≥(a.length:Int)) then
    some ((0,0,1,()),())
   else
    (bif decide (c<1) then
     some ((0,0,1,()),())
    else
     (ah6 k a b).bind fun q1 =>
     ix q1.1.1.1 b <|
     TN k k a b c q1.1.1.1 q1.1.1.2.1 q1.1.1.2.2.1 q1.1.1.2.2.2 (IntKind.i64.wrap ((rd q1.1.1.1 b 0)+q1.1.1.2.2.1)) 1))))
def F123:Fn:=⟨[SB,au,au],[rI,rI,rI],fun k (a,b,c,_)=>ah9 k a b c⟩
theorem ok123:O 123 F123:=okF (ah ok122 <| ah ok172 <| ah ok173 aj) [] (fun k=>(.loop 7 Zp (aee k) (fun g=>.nil) .nil)) Tryz.func123 rfl
abbrev aeg:Cut:=⟨[0,1,6,7],[.cell yt,cI,.own 96 uq,cI],[],65,[]⟩
def Zq (k:Nat) (g5:(List ji) -> Int -> BZ -> Int -> Option Vl) (a:List ji) (b:Int) (c:List (PN Int 5)) (e:Int):Option Vl :=
 (bif decide (e<(a.length:Int)) then
  (ah9 k a e b).bind fun q1 =>
  (bif q1.1.2.2.1 != 0 then
   some (([],q1.1.2.2.1,()),())
  else
   ix a e <|
   (acI k (rd a e (0,0,0,[],[],[]))).bind fun q2 =>
   (ah5 k a e).bind fun q3 =>
   ix a e <|
   ap c ([(q2.1.1,q2.1.2.1,q3.1.1,q1.1.1,IntKind.i64.wrap ((rd a e (0,0,0,[],[],[])).2.2.1 - q1.1.1))]:List (PN Int 5)) 40 fun r4 =>
   g5 a b r4 (IntKind.i64.wrap (e+1)))
 else
  some ((c,0,()),()))
def ako (k:Nat):Xx (((Unit)×(List ji)×Int×BZ×Int×Unit) -> Option Vl):=dh (bf (ay (ay (ay (ay bg))))) (Zq k)
def Zr (k a:Nat) (b:List ji) (c:Int) (e:List (PN Int 5)) (f:Int):Option Vl:=iter aeg (ako k) a ((),b,c,e,f,())
theorem Zt (k a b c e f):Zr k (a+1) b c e f=Zq k (Zr k a) b c e f:=Ba _ _ _ _
def S69 (k:Nat) (a:List ji) (b:Int):Option Vl :=
 (ad5 k a).bind fun q0 =>
 (bif !q0.1.1 then
  some (([],1,()),())
 else
  (bif decide (b<1) then
   some (([],1,()),())
  else
   Zr k k a b ([]:List (PN Int 5)) 0))
def F69:Fn:=⟨[SB,au],[an7,rI],fun k x=>S69 k x.1 x.2.1⟩
theorem ok69:O 69 F69:=okF (ah ok122 <| ah ok123 <| ah ok124 <| ah ok125 aj) [(6,2)] (fun k=>(.loop 5 aeg (ako k) (fun g=>.nil) .nil)) Tryz.func69 rfl
abbrev aeh:Cut:=⟨[0,2,4,10,11],[.cell yt,cI,.box 77 [cI,cI,cI,.cell oq,.cell oq,.cell oq],cI,cI],[],69,[]⟩
def Zu (k:Nat) (g6:(List ji) -> Int -> Int -> Int -> Int -> (List jd) -> (List jd) -> (List jd) -> Int -> Int -> Option Vh) (a:List ji) (b c e f:Int) (h i l:List jd) (m n:Int):Option Vh :=
 (bif decide (n<(a.length:Int)) then
  ix a n <|
  (bif (rd a n (0,0,0,[],[],[])).1==c then
   some (([],[],11,()),())
  else
   ix a n <|
   (bif decide ((rd a n (0,0,0,[],[],[])).1<c) then
    g6 a b c e f h i l (IntKind.i64.wrap (n+1)) (IntKind.i64.wrap (n+1))
   else
    g6 a b c e f h i l m (IntKind.i64.wrap (n+1))))
 else
  (bif decide ((a.length:Int)≥8) then
   some (([],[],4,()),())
  else
   sx a 0 m <|
   ap ([]:List ji) (sub a 0 m) 96 fun r1 =>
   ap r1 ([(c,e,f,h,i,l)]:List ji) 96 fun r2 =>
   sx a m (a.length:Int) <|
   ap r2 (sub a m (a.length:Int)) 96 fun r3 =>
   (S69 k r3 b).bind fun q4 =>
   (bif q4.1.2.1 != 0 then
    some (([],[],q4.1.2.1,()),())
   else
    some ((r3,q4.1.1,0,()),()))))
def akp (k:Nat):Xx (((Unit)×(List ji)×Int×(Int×Int×Int×(List jd)×(List jd)×(List jd)×Unit)×Int×Int×Unit) -> Option Vh):=dh (bf (ay (ay (bq (ay (ay (ay (ay (ay (ay bg)))))) (ay (ay bg)))))) (Zu k)
def Zv (k a:Nat) (b:List ji) (c e f h:Int) (i l m:List jd) (n o:Int):Option Vh:=iter aeh (akp k) a ((),b,c,(e,f,h,i,l,m,()),n,o,())
theorem Zw (k a b c e f h i l m n o):Zv k (a+1) b c e f h i l m n o=Zu k (Zv k a) b c e f h i l m n o:=Ba _ _ _ _
def S28 (k:Nat) (a:List ji) (b:YN) (c:Int):Option Vh :=
 (S68 k b).bind fun q0 =>
 (bif q0.1.1 != 0 then
  some (([],[],q0.1.1,()),())
 else
  Zv k k a c b.1 b.2.1 b.2.2.1 b.2.2.2.1 b.2.2.2.2.1 b.2.2.2.2.2 0 0)
def F28:Fn:=⟨[SB,YU,au],[.val ⟨false,yt,true⟩,an7,rI],fun k (a,b,c,_)=>S28 k a b c⟩
theorem ok28:O 28 F28:=okF (ah ok68 <| ah ok69 aj) [] (fun k=>(.loop 6 aeh (akp k) (fun g=>.nil) .nil)) Tryz.func28 rfl
def S77 (k:Nat) (a:List ji):Option (((List ji)×Unit)×Unit):=qR 96 77 DZ k (a,())
def F77:Fn:=⟨dJ 77 DZ,iZ 77 DZ,qR 96 77 DZ⟩
theorem ok77:O 77 F77:=Ku FX mix Tryz.func77 rfl (by kernel_rfl) (by kernel_rfl) (fun k=>by kernel_rfl) (fun k xs=>by kernel_rfl) (fun k xs=>by kernel_rfl)
def S78 (k:Nat) (a:List (PN Int 5)):Option ((BZ×Unit)×Unit):=qR 40 96 uq k (a,())
def F78:Fn:=⟨dJ 96 uq,iZ 96 uq,qR 40 96 uq⟩
theorem ok78:O 78 F78:=Ku FX mix Tryz.func78 rfl (by kernel_rfl) (by kernel_rfl) (fun k=>by kernel_rfl) (fun k xs=>by kernel_rfl) (fun k xs=>by kernel_rfl)
def S79 (k:Nat) (a:List lg):Option (((List lg)×Unit)×Unit):=qR 272 94 qc k (a,())
def F79:Fn:=⟨dJ 94 qc,iZ 94 qc,qR 272 94 qc⟩
theorem ok79:O 79 F79:=Ku FX mix Tryz.func79 rfl (by kernel_rfl) (by kernel_rfl) (fun k=>by kernel_rfl) (fun k xs=>by kernel_rfl) (fun k xs=>by kernel_rfl)
def S80 (k:Nat) (a:List jd):Option E8:=qR 32 87 V8 k (a,())
def F80:Fn:=⟨dJ 87 V8,iZ 87 V8,qR 32 87 V8⟩
theorem ok80:O 80 F80:=Ku FX mix Tryz.func80 rfl (by kernel_rfl) (by kernel_rfl) (fun k=>by kernel_rfl) (fun k xs=>by kernel_rfl) (fun k xs=>by kernel_rfl)
def XO (k:Nat) (a:List (Int×Int×Int)):Option (((List (Int×Int×Int))×Unit)×Unit):=qR 24 233 (.pair (.int .i64) qh) k (a,())
def F138:Fn:=⟨dJ 233 (.pair (.int .i64) qh),iZ 233 (.pair (.int .i64) qh),qR 24 233 (.pair (.int .i64) qh)⟩
theorem ok138:O 138 F138:=Ku FX mix Tryz.func138 rfl (by kernel_rfl) (by kernel_rfl) (fun k=>by kernel_rfl) (fun k xs=>by kernel_rfl) (fun k xs=>by kernel_rfl)
def VJ (k:Nat) (a:List Int):Option nk:=qR 8 3 (.int .i64) k (a,())
def F140:Fn:=⟨dJ 3 (.int .i64),iZ 3 (.int .i64),qR 8 3 (.int .i64)⟩
theorem ok140:O 140 F140:=Ku FX mix Tryz.func140 rfl (by kernel_rfl) (by kernel_rfl) (fun k=>by kernel_rfl) (fun k xs=>by kernel_rfl) (fun k xs=>by kernel_rfl)
def als (k:Nat) (a b:Int):Option j3 :=
 some ((a==b,()),())
def F141:Fn:=⟨[au,adN],[rB],fun k x=>als k x.1 x.2.1⟩
theorem ok141:O 141 F141:=okF aj [] On Tryz.func141 rfl
abbrev Zx:Cut:=⟨[0,1,7,8],[.cell qd,.lJ 141 [.ref (.int .i64)],cI,cI],[],19,[]⟩
def XP (k:Nat) (g2:(List Int) -> Int -> Int -> Int -> Option je) (a:List Int) (b c e:Int):Option je :=
 (bif decide (e<c) then
  ix a e <|
  (als k (rd a e 0) b).bind fun q0 =>
  (bif q0.1.1 then
   some ((e,()),())
  else
   g2 a b c (IntKind.i64.wrap (e+1)))
 else
  some (((-1),()),()))
def aei (k:Nat):Xx (((Unit)×(List Int)×YO×Int×Int×Unit) -> Option je):=dh (bf (ay (bq (ay bg) (ay (ay bg))))) (XP k)
def XQ (k a:Nat) (b:List Int) (c e f:Int):Option je:=iter Zx (aei k) a ((),b,(c,()),e,f,())
theorem aej (k a b c e f):XQ k (a+1) b c e f=XP k (XQ k a) b c e f:=Ba _ _ _ _
def alu (k:Nat) (a:List Int) (b:Int):Option je :=
 XQ k k a b (a.length:Int) 0
def F186:Fn:=⟨[alq,.pv (.lJ 141 [.ref (.int .i64)])],[rI],fun k x=>alu k x.1 x.2.1.1⟩
theorem ok186:O 186 F186:=okF (ah ok141 aj) [] (fun k=>(.loop 2 Zx (aei k) (fun g=>.nil) .nil)) Tryz.func186 rfl
abbrev Zy:Cut:=⟨[0,1,5,6],[.pin true 0,.lJ 141 [.ref (.int .i64)],cI,cI],[.fT 3 (.int .i64)],42,[]⟩
def alv (k:Nat) (g5:(List Int) -> Int -> Int -> Int -> Option nk) (a:List Int) (b c e:Int):Option nk :=
 (bif decide (e<(a.length:Int)) then
  ix a e <|
  (als k (rd a e 0) b).bind fun q1 =>
  (bif !q1.1.1 then
   ix a c <|
   g5 (upd a c (rd a e 0)) b (IntKind.i64.wrap (c+1)) (IntKind.i64.wrap (e+1))
  else
   g5 a b c (IntKind.i64.wrap (e+1)))
 else
  sx a c (a.length:Int) <|
  sx (Ue a c (a.length:Int) 0) 0 c <|
  some (((Ue a c (a.length:Int) 0).take c.toNat,()),()))
def aek (k:Nat):Xx ((an6×Unit×YO×Int×Int×Unit) -> Option nk):=dh (bq (ay bg) (bf (bq (ay bg) (ay (ay bg))))) (alv k)
def alx (k a:Nat) (b:List Int) (c e f:Int):Option nk:=iter Zy (aek k) a ((b,()),(),(c,()),e,f,())
def aia (k:Nat) (a:List Int) (b:Int):Option nk :=
 (alu k a b).bind fun q0 =>
 (bif q0.1.1==(-1) then
  some ((a,()),())
 else
  alx k k a b q0.1.1 (IntKind.i64.wrap (q0.1.1+1)))
def F139:Fn:=⟨[.give 3 (.int .i64),.pv (.lJ 141 [.ref (.int .i64)])],[SC],fun k x=>aia k x.1 x.2.1.1⟩
theorem ok139:O 139 F139:=okF (ah ok141 <| ah ok186 aj) [(41,1)] (fun k=>(.loop 5 Zy (aek k) (fun g=>.nil) .nil)) Tryz.func139 rfl
def S81 (k:Nat) (a:adF) (b:Int):Option ((lg×Unit)×Unit) :=
 (XO k a.2.2.2.2.1.2.2.1).bind fun q0 =>
 (XO k a.2.2.2.2.2.1.2.2.1).bind fun q1 =>
 (VJ k a.2.2.2.2.2.2.1).bind fun q2 =>
 (aia k q2.1.1 b).bind fun q3 =>
 some (((a.1,a.2.1,a.2.2.1,a.2.2.2.1,(a.2.2.2.2.1.1,a.2.2.2.2.1.2.1,q0.1.1,a.2.2.2.2.1.2.2.2),(a.2.2.2.2.2.1.1,a.2.2.2.2.2.1.2.1,q1.1.1,a.2.2.2.2.2.1.2.2.2),q3.1.1,a.2.2.2.2.2.2.2),()),())
def F81:Fn:=⟨[adM,au],[.val ⟨true,qc,true⟩],fun k x=>S81 k x.1 x.2.1⟩
theorem ok81:O 81 F81:=okF (ah ok138 <| ah ok139 <| ah ok140 aj) [] On Tryz.func81 rfl
def aib (k:Nat) (a:List Bool):Option (((List Bool)×Unit)×Unit):=qR 1 4 .bool k (a,())
def F187:Fn:=⟨dJ 4 .bool,iZ 4 .bool,qR 1 4 .bool⟩
theorem ok187:O 187 F187:=Ku FX mix Tryz.func187 rfl (by kernel_rfl) (by kernel_rfl) (fun k=>by kernel_rfl) (fun k xs=>by kernel_rfl) (fun k xs=>by kernel_rfl)
def aqg (k:Nat) (a:List Int):Option nk:=qR 8 2 (.int .i64) k (a,())
def F188:Fn:=⟨dJ 2 (.int .i64),iZ 2 (.int .i64),qR 8 2 (.int .i64)⟩
theorem ok188:O 188 F188:=Ku FX mix Tryz.func188 rfl (by kernel_rfl) (by kernel_rfl) (fun k=>by kernel_rfl) (fun k xs=>by kernel_rfl) (fun k xs=>by kernel_rfl)
def aqh (k:Nat) (a:ku):Option DL:=qR 16 297 E9 k (a,())
def F189:Fn:=⟨dJ 297 E9,iZ 297 E9,qR 16 297 E9⟩
theorem ok189:O 189 F189:=Ku FX mix Tryz.func189 rfl (by kernel_rfl) (by kernel_rfl) (fun k=>by kernel_rfl) (fun k xs=>by kernel_rfl) (fun k xs=>by kernel_rfl)
def aly (k:Nat) (x:Va):Option ((jr×Unit)×Unit) :=
 (aqg k x.2.2.2.1.1).bind fun q0 =>
 (VJ k x.2.2.2.1.2).bind fun q1 =>
 (aqh k x.2.2.2.2.1.2).bind fun q2 =>
 some (((x.1,x.2.1,x.2.2.1,(q0.1.1,q1.1.1),(x.2.2.2.2.1.1,q2.1.1),x.2.2.2.2.2),()),())
def F145:Fn:=⟨[Vn],[.val ⟨true,wh,true⟩],fun k x=>aly k x.1⟩
theorem ok145:O 145 F145:=okF (ah ok140 <| ah ok188 <| ah ok189 aj) [] On Tryz.func145 rfl
abbrev Zz:Cut:=⟨[2,3,17,18,19],[.box 33 [.nil,.nil,.nil],.box 33 [.own 3 (.int .i64),.own 4 .bool,.own 124 wh],.cell (.sl 124 wh),cI,cI],[],32,[]⟩
def alz (k:Nat) (g3:(List Int) -> (List Bool) -> (List jr) -> (List jr) -> Int -> Int -> Option M6) (a:List Int) (b:List Bool) (c e:List jr) (f h:Int):Option M6 :=
 (bif decide (h<f) then
  ix e h <|
  (aly k (rd e h (0,(0,0),(0,0),([],[]),(0,[]),0))).bind fun q2 =>
  ap c ([q2.1.1]:List jr) 128 fun r3 =>
  g3 a b r3 e f (IntKind.i64.wrap (h+1))
 else
  some ((((a,b),c),()),()))
def ael (k:Nat):Xx (((Unit)×(Unit×Unit×Unit×Unit)×adG×(List jr)×Int×Int×Unit) -> Option M6):=dh (bf (bq (bf (bf (bf bg))) (bq (ay (ay (ay bg))) (ay (ay (ay bg)))))) (alz k)
def alA (k a:Nat) (b:List Int) (c:List Bool) (e f:List jr) (h i:Int):Option M6:=iter Zz (ael k) a ((),((),(),(),()),(b,c,e,()),f,h,i,())
def alC (k:Nat) (a:FV×List jr):Option M6 :=
 (VJ k a.1.1).bind fun q0 =>
 (aib k a.1.2).bind fun q1 =>
 alA k k q0.1.1 q1.1.1 ([]:List jr) a.2 (a.2.length:Int) 0
def F142:Fn:=⟨[adJ],[YT],fun k x=>alC k x.1⟩
theorem ok142:O 142 F142:=okF (ah ok140 <| ah ok145 <| ah ok187 aj) [(15,2)] (fun k=>(.loop 3 Zz (ael k) (fun g=>.nil) .nil)) Tryz.func142 rfl
def alD (k:Nat) (a:FV×List jr) (b:Int):Option j3 :=
 (bif decide (b≥0) then
  (bif decide (b<(a.2.length:Int)) then
   ix a.2 b <|
   some (((rd a.2 b (0,(0,0),(0,0),([],[]),(0,[]),0)).1 != 0,()),())
  else
   some ((false,()),()))
 else
  some ((false,()),()))
def F143:Fn:=⟨[adJ,au],[rB],fun k x=>alD k x.1 x.2.1⟩
theorem ok143:O 143 F143:=okF aj [] On Tryz.func143 rfl
abbrev ZA:Cut:=⟨[3,6,7,8,9,10],[.cell (.int .u32),.cell (.int .u64),cI,.cell zx,cI,cI],[],34,[]⟩
def alE (k:Nat) (g3:Vi) (g6:Int -> Int -> Int -> (List Int) -> Int -> Int -> Option je) (a b c:Int) (e:List Int) (f h:Int):Option je :=
 (bif decide (c<8) then
  g6 (Tq .u32 (Uf .u32 (Tm .u32 a 5) (Tn .u32 a 27)) (IntKind.u32.wrap (IntKind.u8.wrap b))) (Tn .u64 b 8) (IntKind.i64.wrap (c+1)) e f h
 else
  g3 a e f (IntKind.i64.wrap (h+1)))
def aem (k:Nat) (g3:Vi):Xx (((Unit)×Int×Int×Int×(List Int)×Int×Int×Unit) -> Option je):=dh (bf (ay (ay (ay (ay (ay (ay bg))))))) (alE k g3)
def alF (k:Nat) (g3:Vi) (a:Nat) (b c e:Int) (f:List Int) (h i:Int):Option je:=iter ZA (aem k g3) a ((),b,c,e,f,h,i,())
abbrev ZB:Cut:=⟨[3,8,9,10],[.cell (.int .u32),.cell zx,cI,cI],[],34,[]⟩
def alG (k:Nat) (g3:Vi) (a:Int) (b:List Int) (c e:Int):Option je :=
 (bif decide (e<c) then
  ix b e <|
  alF k g3 k a (IntKind.u64.wrap (rd b e 0)) 0 b c e
 else
  some ((a,()),()))
def aen (k:Nat):Xx (((Unit)×Int×(List Int)×Int×Int×Unit) -> Option je):=dh (bf (ay (ay (ay (ay bg))))) (alG k)
def alH (k a:Nat) (b:Int) (c:List Int) (e f:Int):Option je:=iter ZB (aen k) a ((),b,c,e,f,())
def aoc (k:Nat) (a:List Int):Option je :=
 alH k k 2166136261 a (a.length:Int) 0
def F190:Fn:=⟨[.val ⟨false,zx,false⟩],[.val ⟨false,(.int .u32),true⟩],fun k x=>aoc k x.1⟩
theorem ok190:O 190 F190:=okF aj [] (fun k=>(.loop 3 ZB (aen k) (fun g=>(fun (g3:Vi)=>(.loop 6 ZA (aem k g3) (fun g=>.nil) .nil)) (fun h t8 t9 t10=>g ((),h,t8,t9,t10,()))) .nil)) Tryz.func190 rfl
abbrev VK:Cut:=⟨[3,61,62,63],[.own 2 (.int .i64),.cell (.sl 297 E9),cI,cI],[],78,[]⟩
def aic (k:Nat) (g11:(List Int) -> p8 -> Int -> Int -> Option je) (a:List Int) (b:ku) (c e:Int):Option je :=
 (bif decide (e<c) then
  ix b e <|
  ap a ([(rd b e (0,0)).1,IntKind.i64.wrap (rd b e (0,0)).2]:List Int) 8 fun r4 =>
  g11 r4 b c (IntKind.i64.wrap (e+1))
 else
  (aoc k a).bind fun q5 =>
  some ((q5.1.1,()),()))
def ZC (k:Nat):Xx (((Unit)×(List Int)×p8×Int×Int×Unit) -> Option je):=dh (bf (ay (ay (ay (ay bg))))) (aic k)
def aie (k a:Nat) (b:List Int) (c:ku) (e f:Int):Option je:=iter VK (ZC k) a ((),b,c,e,f,())
abbrev ZE:Cut:=⟨[1,3,41,42,43],[.box 124 [cI,cI,cI,cI,cI,.cell zx,.cell qd,.cell (.int .u32),.cell (.sl 297 E9),.cell (.int .u32)],.own 2 (.int .i64),.cell qd,cI,cI],[],78,[]⟩
def alI (k:Nat) (g5:Int -> Int -> Int -> Int -> Int -> (List Int) -> (List Int) -> Int -> p8 -> Int -> (List Int) -> (List Int) -> Int -> Int -> Option je) (a b c e f:Int) (h i:List Int) (l:Int) (m:ku) (n:Int) (o p:List Int) (s t:Int):Option je :=
 (bif decide (t<s) then
  ix p t <|
  ap o ([rd p t 0]:List Int) 8 fun r2 =>
  g5 a b c e f h i l m n r2 p s (IntKind.i64.wrap (t+1))
 else
  ap o ([IntKind.i64.wrap l]:List Int) 8 fun r3 =>
  aie k k r3 m (m.length:Int) 0)
def aeo (k:Nat):Xx (((Unit)×(Int×Int×Int×Int×Int×(List Int)×(List Int)×Int×p8×Int×Unit)×(List Int)×(List Int)×Int×Int×Unit) -> Option je):=dh (bf (bq (ay (ay (ay (ay (ay (ay (ay (ay (ay (ay bg)))))))))) (ay (ay (ay (ay bg)))))) (alI k)
def alJ (k a:Nat) (b c e f h:Int) (i l:List Int) (m:Int) (n:ku) (o:Int) (p s:List Int) (t u:Int):Option je:=iter ZE (aeo k) a ((),(b,c,e,f,h,i,l,m,n,o,()),p,s,t,u,())
def aif (k:Nat) (x:Va):Option je :=
 ap ([x.1,x.2.1.1,x.2.1.2,x.2.2.1.1,x.2.2.1.2,(x.2.2.2.1.1.length:Int)]:List Int) x.2.2.2.1.1 8 fun r0 =>
 ap r0 ([(x.2.2.2.1.2.length:Int)]:List Int) 8 fun r1 =>
 alJ k k x.1 x.2.1.1 x.2.1.2 x.2.2.1.1 x.2.2.1.2 x.2.2.2.1.1 x.2.2.2.1.2 x.2.2.2.2.1.1 x.2.2.2.2.1.2 x.2.2.2.2.2 r1 x.2.2.2.1.2 (x.2.2.2.1.2.length:Int) 0
def F146:Fn:=⟨[Vn],[.val ⟨false,(.int .u32),true⟩],fun k x=>aif k x.1⟩
theorem ok146:O 146 F146:=okF (ah ok190 aj) [] (fun k=>(.loop 11 VK (ZC k) (fun g=>.nil) (.loop 5 ZE (aeo k) (fun g=>.nil) .nil))) Tryz.func146 rfl
def alK (k:Nat) (x:Va):Option ((jr×Unit)×Unit) :=
 (aif k x).bind fun q0 =>
 some (((x.1,x.2.1,x.2.2.1,x.2.2.2.1,x.2.2.2.2.1,q0.1.1),()),())
def F144:Fn:=⟨[Vn],[.val ⟨true,wh,false⟩],fun k x=>alK k x.1⟩
theorem ok144:O 144 F144:=okF (ah ok146 aj) [] On Tryz.func144 rfl
def S82 (k:Nat) (a:FV×List jr) (b:Int) (x:Va):Option M6 :=
 (alC k a).bind fun q0 =>
 (alD k a b).bind fun q1 =>
 (bif !q1.1.1 then
  some ((q0.1.1,()),())
 else
  ix a.2 b <|
  (aly k ((rd a.2 b (0,(0,0),(0,0),([],[]),(0,[]),0)).1,(rd a.2 b (0,(0,0),(0,0),([],[]),(0,[]),0)).2.1,x.2.2)).bind fun q2 =>
  (alK k q2.1.1).bind fun q3 =>
  (aif k (rd a.2 b (0,(0,0),(0,0),([],[]),(0,[]),0))).bind fun q4 =>
  (bif (rd a.2 b (0,(0,0),(0,0),([],[]),(0,[]),0)).2.2.2.2.2 != q4.1.1 then
   ix q0.1.1.2 b <|
   some (((q0.1.1.1,upd q0.1.1.2 b (q3.1.1.1,q3.1.1.2.1,q3.1.1.2.2.1,q3.1.1.2.2.2.1,q3.1.1.2.2.2.2.1,Tt .u32 q3.1.1.2.2.2.2.2)),()),())
  else
   ix q0.1.1.2 b <|
   some (((q0.1.1.1,upd q0.1.1.2 b q3.1.1),()),())))
def F82:Fn:=⟨[adJ,au,Vn],[YT],fun k (a,b,c,_)=>S82 k a b c⟩
theorem ok82:O 82 F82:=okF (ah ok142 <| ah ok143 <| ah ok144 <| ah ok145 <| ah ok146 aj) [] On Tryz.func82 rfl
def acK (k:Nat) (a:(List Int)×List Bool):Option ((FV×Unit)×Unit) :=
 (VJ k a.1).bind fun q0 =>
 (aib k a.2).bind fun q1 =>
 some (((q0.1.1,q1.1.1),()),())
def F147:Fn:=⟨[YR],[Vm],fun k x=>acK k x.1⟩
theorem ok147:O 147 F147:=okF (ah ok140 <| ah ok187 aj) [] On Tryz.func147 rfl
def S83 (k:Nat) (a:(List Int)×List Bool) (b:Int):Option ((FV×Unit)×Unit) :=
 (acK k a).bind fun q0 =>
 (bif decide (b≥0) then
  (bif decide (b<(q0.1.1.1.length:Int)) then
   ix q0.1.1.1 b <|
   some (((upd q0.1.1.1 b 0,q0.1.1.2),()),())
  else
   some ((q0.1.1,()),()))
 else
  some ((q0.1.1,()),()))
def F83:Fn:=⟨[YR,au],[Vm],fun k x=>S83 k x.1 x.2.1⟩
theorem ok83:O 83 F83:=okF (ah ok147 aj) [] On Tryz.func83 rfl
abbrev aep:Cut:=⟨[1,2,54,55],[.box 37 [cI,cI,.own 77 DZ,.own 96 uq,.cell .bool,.cell .bool,.cell .bool,.own 94 qc,.cell qd,.cell (.sl 4 .bool),.cell (.sl 124 wh),.cell qd,.cell (.sl 4 .bool)],.box 37 [cI,cI,.nil,.nil,.cell .bool,.cell .bool,.cell .bool,.nil,.nil,.nil,.nil,.nil,.nil],cI,cI],[],77,[(53,3)]⟩
def ZF (k:Nat) (g8:aki) (a b:Int) (c:List ji) (e:List (PN Int 5)) (f h i:Bool) (l:List lg) (m:List Int) (n:List Bool) (o:List jr) (p:List Int) (s:List Bool) (t u:Int) (v w y:Bool) (z A:Int):Option M5 :=
 (bif decide (A<z) then
  ix l A <|
  (S81 k (rd l A (0,0,0,0,(0,Pv (α:=Int) 8 0,[],false),(0,Pv (α:=Int) 8 0,[],false),[],false)) (-1)).bind fun q7 =>
  ix l A <|
  g8 a b c e f h i (upd l A q7.1.1) m n o p s t u v w y z (IntKind.i64.wrap (A+1))
 else
  (S82 k ((m,n),o) (-1) (0,(0,0),(0,0),([],[]),(0,[]),0)).bind fun q8 =>
  (S83 k (p,s) (-1)).bind fun q9 =>
  some (((a,b,c,e,f,h,i,l,q8.1.1,q9.1.1),()),()))
def akq (k:Nat):Xx (((Unit)×E5×YM×Int×Int×Unit) -> Option M5):=dh (bf (bq (ay (ay (ay (ay (ay (ay (ay (ay (ay (ay (ay (ay (ay bg))))))))))))) (bq (ay (ay (bf (bf (ay (ay (ay (bf (bf (bf (bf (bf (bf bg))))))))))))) (ay (ay bg))))) (ZF k)
def ZG (k a:Nat) (b c:Int) (e:List ji) (f:List (PN Int 5)) (h i l:Bool) (m:List lg) (n:List Int) (o:List Bool) (p:List jr) (s:List Int) (t:List Bool) (u v:Int) (w y z:Bool) (A B:Int):Option M5:=iter aep (akq k) a ((),(b,c,e,f,h,i,l,m,n,o,p,s,t,()),(u,v,(),(),w,y,z,(),(),(),(),(),(),()),A,B,())
theorem ZH (k a b c e f h i l m n o p s t u v w y z A B):ZG k (a+1) b c e f h i l m n o p s t u v w y z A B=ZF k (ZG k a) b c e f h i l m n o p s t u v w y z A B:=Ba _ _ _ _
abbrev aer:Cut:=⟨[1,2,21,22],[.box 37 [cI,cI,.own 77 DZ,.own 96 uq,.cell .bool,.cell .bool,.cell .bool,.own 94 qc,.cell qd,.cell (.sl 4 .bool),.cell (.sl 124 wh),.cell qd,.cell (.sl 4 .bool)],.box 37 [cI,cI,.nil,.nil,.cell .bool,.cell .bool,.cell .bool,.nil,.nil,.nil,.nil,.nil,.nil],cI,cI],[],77,[(20,1)]⟩
def ZI (k:Nat) (g3:aki) (a b:Int) (c:List ji) (e:List (PN Int 5)) (f h i:Bool) (l:List lg) (m:List Int) (n:List Bool) (o:List jr) (p:List Int) (s:List Bool) (t u:Int) (v w y:Bool) (z A:Int):Option M5 :=
 (bif decide (A<z) then
  ix c A <|
  (S80 k (rd c A (0,0,0,[],[],[])).2.2.2.1).bind fun q3 =>
  (S80 k (rd c A (0,0,0,[],[],[])).2.2.2.2.1).bind fun q4 =>
  (S80 k (rd c A (0,0,0,[],[],[])).2.2.2.2.2).bind fun q5 =>
  ix c A <|
  ix (upd c A ((rd c A (0,0,0,[],[],[])).1,(rd c A (0,0,0,[],[],[])).2.1,(rd c A (0,0,0,[],[],[])).2.2.1,q3.1.1,(rd c A (0,0,0,[],[],[])).2.2.2.2)) A <|
  let r6:List ji:=upd (upd c A ((rd c A (0,0,0,[],[],[])).1,(rd c A (0,0,0,[],[],[])).2.1,(rd c A (0,0,0,[],[],[])).2.2.1,q3.1.1,(rd c A (0,0,0,[],[],[])).2.2.2.2)) A ((rd (upd c A ((rd c A (0,0,0,[],[],[])).1,(rd c A (0,0,0,[],[],[])).2.1,(rd c A (0,0,0,[],[],[])).2.2.1,q3.1.1,(rd c A (0,0,0,[],[],[])).2.2.2.2)) A (0,0,0,[],[],[])).1,(rd (upd c A ((rd c A (0,0,0,[],[],[])).1,(rd c A (0,0,0,[],[],[])).2.1,(rd c A (0,0,0,[],[],[])).2.2.1,q3.1.1,(rd c A (0,0,0,[],[],[])).2.2.2.2)) A (0,0,0,[],[],[])).2.1,(rd (upd c A ((rd c A (0,0,0,[],[],[])).1,(rd c A (0,0,0,[],[],[])).2.1,(rd c A (0,0,0,[],[],[])).2.2.1,q3.1.1,(rd c A (0,0,0,[],[],[])).2.2.2.2)) A (0,0,0,[],[],[])).2.2.1,(rd (upd c A ((rd c A (0,0,0,[],[],[])).1,(rd c A (0,0,0,[],[],[])).2.1,(rd c A (0,0,0,[],[],[])).2.2.1,q3.1.1,(rd c A (0,0,0,[],[],[])).2.2.2.2)) A (0,0,0,[],[],[])).2.2.2.1,q4.1.1,(rd (upd c A ((rd c A (0,0,0,[],[],[])).1,(rd c A (0,0,0,[],[],[])).2.1,(rd c A (0,0,0,[],[],[])).2.2.1,q3.1.1,(rd c A (0,0,0,[],[],[])).2.2.2.2)) A (0,0,0,[],[],[])).2.2.2.2.2)
  ix r6 A <|
  g3 a b (upd r6 A ((rd r6 A (0,0,0,[],[],[])).1,(rd r6 A (0,0,0,[],[],[])).2.1,(rd r6 A (0,0,0,[],[],[])).2.2.1,(rd r6 A (0,0,0,[],[],[])).2.2.2.1,(rd r6 A (0,0,0,[],[],[])).2.2.2.2.1,q5.1.1)) e f h i l m n o p s t u v w y z (IntKind.i64.wrap (A+1))
 else
  ZG k k a b c e f h i l m n o p s t u v w y (l.length:Int) 0)
def akr (k:Nat):Xx (((Unit)×E5×YM×Int×Int×Unit) -> Option M5):=dh (bf (bq (ay (ay (ay (ay (ay (ay (ay (ay (ay (ay (ay (ay (ay bg))))))))))))) (bq (ay (ay (bf (bf (ay (ay (ay (bf (bf (bf (bf (bf (bf bg))))))))))))) (ay (ay bg))))) (ZI k)
def ZJ (k a:Nat) (b c:Int) (e:List ji) (f:List (PN Int 5)) (h i l:Bool) (m:List lg) (n:List Int) (o:List Bool) (p:List jr) (s:List Int) (t:List Bool) (u v:Int) (w y z:Bool) (A B:Int):Option M5:=iter aer (akr k) a ((),(b,c,e,f,h,i,l,m,n,o,p,s,t,()),(u,v,(),(),w,y,z,(),(),(),(),(),(),()),A,B,())
theorem ZK (k a b c e f h i l m n o p s t u v w y z A B):ZJ k (a+1) b c e f h i l m n o p s t u v w y z A B=ZI k (ZJ k a) b c e f h i l m n o p s t u v w y z A B:=Ba _ _ _ _
def S34 (k:Nat) (a:V9):Option M5 :=
 (S77 k a.2.2.1).bind fun q0 =>
 (S78 k a.2.2.2.1).bind fun q1 =>
 (S79 k a.2.2.2.2.2.2.2.1).bind fun q2 =>
 ZJ k k a.1 a.2.1 q0.1.1 q1.1.1 a.2.2.2.2.1 a.2.2.2.2.2.1 a.2.2.2.2.2.2.1 q2.1.1 a.2.2.2.2.2.2.2.2.1.1.1 a.2.2.2.2.2.2.2.2.1.1.2 a.2.2.2.2.2.2.2.2.1.2 a.2.2.2.2.2.2.2.2.2.1 a.2.2.2.2.2.2.2.2.2.2 0 0 false false false (q0.1.1.length:Int) 0
def F34:Fn:=⟨[YS],[adK],fun k x=>S34 k x.1⟩
theorem ok34:O 34 F34:=okF (ah ok77 <| ah ok78 <| ah ok79 <| ah ok80 <| ah ok81 <| ah ok82 <| ah ok83 aj) [] (fun k=>(.loop 8 aep (akq k) (fun g=>.nil) (.loop 3 aer (akr k) (fun g=>.nil) .nil))) Tryz.func34 rfl
abbrev aes:Cut:=⟨[2,6,7,8],[.own 3 (.int .i64),.cell (.sl 124 wh),cI,cI],[],22,[]⟩
def aod (k:Nat) (g2:(List Int) -> (List jr) -> Int -> Int -> Option nk) (a:List Int) (b:List jr) (c e:Int):Option nk :=
 (bif decide (e<c) then
  ix b e <|
  (bif (rd b e (0,(0,0),(0,0),([],[]),(0,[]),0)).1==1 then
   ap a ([e]:List Int) 8 fun r0 =>
   g2 r0 b c (IntKind.i64.wrap (e+1))
  else
   g2 a b c (IntKind.i64.wrap (e+1)))
 else
  some ((a,()),()))
def aks (k:Nat):Xx (((Unit)×(List Int)×(List jr)×Int×Int×Unit) -> Option nk):=dh (bf (ay (ay (ay (ay bg))))) (aod k)
def aoe (k a:Nat) (b:List Int) (c:List jr) (e f:Int):Option nk:=iter aes (aks k) a ((),b,c,e,f,())
def S73 (k:Nat) (a:FV×List jr):Option nk :=
 aoe k k ([]:List Int) a.2 (a.2.length:Int) 0
def F73:Fn:=⟨[adJ],[SC],fun k x=>S73 k x.1⟩
theorem ok73:O 73 F73:=okF aj [(2,2)] (fun k=>(.loop 2 aes (aks k) (fun g=>.nil) .nil)) Tryz.func73 rfl
abbrev aev:Cut:=⟨[1,2,7,8,9],[.box 37 [cI,cI,.cell yt,.cell (.sl 96 uq),.cell .bool,.cell .bool,.cell .bool,.cell (.sl 94 qc),.cell qd,.cell (.sl 4 .bool),.cell (.sl 124 wh),.cell qd,.cell (.sl 4 .bool)],.own 114 qh,.own 3 (.int .i64),cI,cI],[],25,[]⟩
def aew (k:Nat) (g2:Int -> Int -> (List ji) -> BZ -> Bool -> Bool -> Bool -> (List lg) -> (List Int) -> (List Bool) -> (List jr) -> (List Int) -> (List Bool) -> p8 -> (List Int) -> Int -> Int -> Option DL) (a b:Int) (c:List ji) (e:List (PN Int 5)) (f h i:Bool) (l:List lg) (m:List Int) (n:List Bool) (o:List jr) (p:List Int) (s:List Bool) (t:ku) (u:List Int) (v w:Int):Option DL :=
 (bif decide (w<v) then
  ix u w <|
  ix o (rd u w 0) <|
  ap t ([(rd o (rd u w 0) (0,(0,0),(0,0),([],[]),(0,[]),0)).2.2.1]:List (Int×Int)) 16 fun r1 =>
  g2 a b c e f h i l m n o p s r1 u v (IntKind.i64.wrap (w+1))
 else
  some ((t,()),()))
def akt (k:Nat):Xx (((Unit)×E5×p8×(List Int)×Int×Int×Unit) -> Option DL):=dh (bf (bq (ay (ay (ay (ay (ay (ay (ay (ay (ay (ay (ay (ay (ay bg))))))))))))) (ay (ay (ay (ay bg)))))) (aew k)
def ZL (k a:Nat) (b c:Int) (e:List ji) (f:List (PN Int 5)) (h i l:Bool) (m:List lg) (n:List Int) (o:List Bool) (p:List jr) (s:List Int) (t:List Bool) (u:ku) (v:List Int) (w y:Int):Option DL:=iter aev (akt k) a ((),(b,c,e,f,h,i,l,m,n,o,p,s,t,()),u,v,w,y,())
theorem aii (k a b c e f h i l m n o p s t u v w y):ZL k (a+1) b c e f h i l m n o p s t u v w y=aew k (ZL k a) b c e f h i l m n o p s t u v w y:=Ba _ _ _ _
def S30 (k:Nat) (a:V9):Option DL :=
 (S73 k a.2.2.2.2.2.2.2.2.1).bind fun q0 =>
 ZL k k a.1 a.2.1 a.2.2.1 a.2.2.2.1 a.2.2.2.2.1 a.2.2.2.2.2.1 a.2.2.2.2.2.2.1 a.2.2.2.2.2.2.2.1 a.2.2.2.2.2.2.2.2.1.1.1 a.2.2.2.2.2.2.2.2.1.1.2 a.2.2.2.2.2.2.2.2.1.2 a.2.2.2.2.2.2.2.2.2.1 a.2.2.2.2.2.2.2.2.2.2 ([]:List (Int×Int)) q0.1.1 (q0.1.1.length:Int) 0
def F30:Fn:=⟨[YS],[.val ⟨false,FW,true⟩],fun k x=>S30 k x.1⟩
theorem ok30:O 30 F30:=okF (ah ok73 aj) [(2,2)] (fun k=>(.loop 2 aev (akt k) (fun g=>.nil) .nil)) Tryz.func30 rfl
def S85 (k:Nat) (a:Int):Option E8 :=
 (bif decide (a<0) then
  none
 else
  (bif decide ((IntKind.i64.wrap (a - 0))>0) then
   az ([]:List jd) (IntKind.i64.wrap (a - 0)) 32 (0,0,0,0) fun r0 =>
   sx r0 0 0 <|
   some ((r0.take 0,()),())
  else
   some (([],()),())))
def F85:Fn:=⟨[.pv (.nil),au],[.val ⟨false,oq,true⟩],fun k x=>S85 k x.2.1⟩
theorem ok85:O 85 F85:=okF aj [(25,1)] On Tryz.func85 rfl
abbrev ZM:Cut:=⟨[6,25,26,27],[.own 87 V8,.cell (.sl 75 oq),cI,cI],[],36,[]⟩
def ME (k:Nat) (g11:(List jd) -> P9 -> Int -> Int -> Option E8) (a:List jd) (b:List (List jd)) (c e:Int):Option E8 :=
 (bif decide (e<c) then
  ix b e <|
  ap a (rd b e []) 32 fun r1 =>
  g11 r1 b c (IntKind.i64.wrap (e+1))
 else
  some ((a,()),()))
def aex (k:Nat):Xx (((Unit)×(List jd)×P9×Int×Int×Unit) -> Option E8):=dh (bf (ay (ay (ay (ay bg))))) (ME k)
def MF (k a:Nat) (b:List jd) (c:List (List jd)) (e f:Int):Option E8:=iter ZM (aex k) a ((),b,c,e,f,())
theorem MG (k a b c e f):MF k (a+1) b c e f=ME k (MF k a) b c e f:=Ba _ _ _ _
abbrev aey:Cut:=⟨[0,3,9,10,11],[.cell (.sl 75 oq),cI,.cell (.sl 75 oq),cI,cI],[],36,[]⟩
def VL (k:Nat) (g3:P9 -> Int -> P9 -> Int -> Int -> Option E8) (a:List (List jd)) (b:Int) (c:List (List jd)) (e f:Int):Option E8 :=
 (bif decide (f<e) then
  ix c f <|
  (bif decide ((IntKind.i64.wrap (b+((rd c f []).length:Int)))<0) then
   none
  else
   g3 a (IntKind.i64.wrap (b+((rd c f []).length:Int))) c e (IntKind.i64.wrap (f+1)))
 else
  (S85 k b).bind fun q0 =>
  MF k k q0.1.1 a (a.length:Int) 0)
def aku (k:Nat):Xx (((Unit)×P9×Int×P9×Int×Int×Unit) -> Option E8):=dh (bf (ay (ay (ay (ay (ay bg)))))) (VL k)
def ZN (k a:Nat) (b:List (List jd)) (c:Int) (e:List (List jd)) (f h:Int):Option E8:=iter aey (aku k) a ((),b,c,e,f,h,())
theorem TP (k a b c e f h):ZN k (a+1) b c e f h=VL k (ZN k a) b c e f h:=Ba _ _ _ _
def S36 (k:Nat) (a:List (List jd)):Option E8 :=
 ZN k k a 0 a (a.length:Int) 0
def F36:Fn:=⟨[.val ⟨false,(.sl 75 oq),false⟩],[.val ⟨false,oq,true⟩],fun k x=>S36 k x.1⟩
theorem ok36:O 36 F36:=okF (ah ok85 aj) [] (fun k=>(.loop 11 ZM (aex k) (fun g=>.nil) (.loop 3 aey (aku k) (fun g=>.nil) .nil))) Tryz.func36 rfl
def S37 (k:Nat) (a:Int×Int×Int×Int) (b:ku):Option j3 :=
 (bif a.1==9 then
  some ((decide (a.2.1≥(b.length:Int)),()),())
 else
  some ((false,()),()))
def F37:Fn:=⟨[adL,.pv (.ref FW)],[rB],fun k x=>S37 k x.1 x.2.1⟩
theorem ok37:O 37 F37:=okF aj [] On Tryz.func37 rfl
abbrev aez:Cut:=⟨[0,1,7,8],[.cell oq,.lJ 37 [.ref FW],cI,cI],[],19,[]⟩
def ZO (k:Nat) (g2:(List jd) -> p8 -> Int -> Int -> Option je) (a:List jd) (b:ku) (c e:Int):Option je :=
 (bif decide (e<c) then
  ix a e <|
  (S37 k (rd a e (0,0,0,0)) b).bind fun q0 =>
  (bif q0.1.1 then
   some ((e,()),())
  else
   g2 a b c (IntKind.i64.wrap (e+1)))
 else
  some (((-1),()),()))
def akv (k:Nat):Xx (((Unit)×(List jd)×(p8×Unit)×Int×Int×Unit) -> Option je):=dh (bf (ay (bq (ay bg) (ay (ay bg))))) (ZO k)
def PS (k a:Nat) (b:List jd) (c:ku) (e f:Int):Option je:=iter aez (akv k) a ((),b,(c,()),e,f,())
theorem ZP (k a b c e f):PS k (a+1) b c e f=ZO k (PS k a) b c e f:=Ba _ _ _ _
def S84 (k:Nat) (a:List jd) (b:ku):Option je :=
 PS k k a b (a.length:Int) 0
def F84:Fn:=⟨[M8,.pv (.lJ 37 [.ref FW])],[rI],fun k x=>S84 k x.1 x.2.1.1⟩
theorem ok84:O 84 F84:=okF (ah ok37 aj) [] (fun k=>(.loop 2 aez (akv k) (fun g=>.nil) .nil)) Tryz.func84 rfl
def S35 (k:Nat) (a:List jd) (b:ku):Option j3 :=
 (S84 k a b).bind fun q0 =>
 some ((decide (q0.1.1≥0),()),())
def F35:Fn:=⟨[M8,.pv (.lJ 37 [.ref FW])],[rB],fun k x=>S35 k x.1 x.2.1.1⟩
theorem ok35:O 35 F35:=okF (ah ok84 aj) [] On Tryz.func35 rfl
def S88 (k:Nat) (a:Int×Int×Int×Int) (b:Int):Option j3 :=
 (bif a.1==9 then
  some ((a.2.1==b,()),())
 else
  some ((false,()),()))
def F88:Fn:=⟨[adL,adN],[rB],fun k x=>S88 k x.1 x.2.1⟩
theorem ok88:O 88 F88:=okF aj [] On Tryz.func88 rfl
abbrev ZQ:Cut:=⟨[0,1,7,8],[.cell oq,.lJ 88 [.ref (.int .i64)],cI,cI],[],19,[]⟩
def alM (k:Nat) (g2:(List jd) -> Int -> Int -> Int -> Option je) (a:List jd) (b c e:Int):Option je :=
 (bif decide (e<c) then
  ix a e <|
  (S88 k (rd a e (0,0,0,0)) b).bind fun q0 =>
  (bif q0.1.1 then
   some ((e,()),())
  else
   g2 a b c (IntKind.i64.wrap (e+1)))
 else
  some (((-1),()),()))
def aeA (k:Nat):Xx (((Unit)×(List jd)×YO×Int×Int×Unit) -> Option je):=dh (bf (ay (bq (ay bg) (ay (ay bg))))) (alM k)
def alN (k a:Nat) (b:List jd) (c e f:Int):Option je:=iter ZQ (aeA k) a ((),b,(c,()),e,f,())
def aog (k:Nat) (a:List jd) (b:Int):Option je :=
 alN k k a b (a.length:Int) 0
def F84a:Fn:=⟨[M8,.pv (.lJ 88 [.ref (.int .i64)])],[rI],fun k x=>aog k x.1 x.2.1.1⟩
theorem ok84a:O 84 F84a:=okF (ah ok88 aj) [] (fun k=>(.loop 2 ZQ (aeA k) (fun g=>.nil) .nil)) Tryz.func84 rfl
def aoh (k:Nat) (a:List jd) (b:Int):Option j3 :=
 (aog k a b).bind fun q0 =>
 some ((decide (q0.1.1≥0),()),())
def F35a:Fn:=⟨[M8,.pv (.lJ 88 [.ref (.int .i64)])],[rB],fun k x=>aoh k x.1 x.2.1.1⟩
theorem ok35a:O 35 F35a:=okF (ah ok84a aj) [] On Tryz.func35 rfl
def S87 (k:Nat) (a:YN) (b:Int):Option j3 :=
 (S36 k ([a.2.2.2.1,a.2.2.2.2.1]:List (List jd))).bind fun q0 =>
 (aoh k q0.1.1 b).bind fun q1 =>
 some ((q1.1.1,()),())
def F87:Fn:=⟨[YU,adN],[rB],fun k x=>S87 k x.1 x.2.1⟩
theorem ok87:O 87 F87:=okF (ah ok35a <| ah ok36 aj) [] On Tryz.func87 rfl
abbrev aeB:Cut:=⟨[0,1,7,8],[.cell yt,.lJ 87 [.ref (.int .i64)],cI,cI],[],19,[]⟩
def aoi (k:Nat) (g2:P8) (a:List ji) (b c e:Int):Option je :=
 (bif decide (e<c) then
  ix a e <|
  (S87 k (rd a e (0,0,0,[],[],[])) b).bind fun q0 =>
  (bif q0.1.1 then
   some ((e,()),())
  else
   g2 a b c (IntKind.i64.wrap (e+1)))
 else
  some (((-1),()),()))
def akw (k:Nat):Xx (((Unit)×(List ji)×YO×Int×Int×Unit) -> Option je):=dh (bf (ay (bq (ay bg) (ay (ay bg))))) (aoi k)
def aoj (k a:Nat) (b:List ji) (c e f:Int):Option je:=iter aeB (akw k) a ((),b,(c,()),e,f,())
def S86 (k:Nat) (a:List ji) (b:Int):Option je :=
 aoj k k a b (a.length:Int) 0
def F86:Fn:=⟨[SB,.pv (.lJ 87 [.ref (.int .i64)])],[rI],fun k x=>S86 k x.1 x.2.1.1⟩
theorem ok86:O 86 F86:=okF (ah ok87 aj) [] (fun k=>(.loop 2 aeB (akw k) (fun g=>.nil) .nil)) Tryz.func86 rfl
def S38 (k:Nat) (a:List ji) (b:Int):Option je :=
 (S86 k a b).bind fun q0 =>
 (bif decide (q0.1.1<0) then
  some ((8,()),())
 else
  some ((q0.1.1,()),()))
def F38:Fn:=⟨[SB,au],[rI],fun k x=>S38 k x.1 x.2.1⟩
theorem ok38:O 38 F38:=okF (ah ok86 aj) [] On Tryz.func38 rfl
abbrev aeC:Cut:=⟨[0,1,11,12,13],[.pin false 0,.cell FW,.own 3 (.int .i64),cI,cI],[.fK 37 [cI,cI,.cell yt,.own 96 uq,.cell .bool,.cell .bool,.cell .bool,.own 94 qc,.own 3 (.int .i64),.own 4 .bool,.own 124 wh,.own 3 (.int .i64),.own 4 .bool]],55,[]⟩
def aeD (k:Nat) (g1:Int -> Int -> (List ji) -> BZ -> Bool -> Bool -> Bool -> (List lg) -> (List Int) -> (List Bool) -> (List jr) -> (List Int) -> (List Bool) -> p8 -> (List Int) -> Int -> Int -> Option ((Unit)×E5×Unit)) (a b:Int) (c:List ji) (e:List (PN Int 5)) (f h i:Bool) (l:List lg) (m:List Int) (n:List Bool) (o:List jr) (p:List Int) (s:List Bool) (t:ku) (u:List Int) (v w:Int):Option ((Unit)×E5×Unit) :=
 (bif decide (w<v) then
  ix u w <|
  ix o (rd u w 0) <|
  (bif decide (w<(t.length:Int)) then
   ix t w <|
   (bif !(fC qh (rd o (rd u w 0) (0,(0,0),(0,0),([],[]),(0,[]),0)).2.2.1 (rd t w (0,0))) then
    ix t w <|
    (S82 k ((m,n),o) (rd u w 0) ((rd o (rd u w 0) (0,(0,0),(0,0),([],[]),(0,[]),0)).1,(rd o (rd u w 0) (0,(0,0),(0,0),([],[]),(0,[]),0)).2.1,rd t w (0,0),(rd o (rd u w 0) (0,(0,0),(0,0),([],[]),(0,[]),0)).2.2.2)).bind fun q1 =>
    g1 a b c e f h i l q1.1.1.1.1 q1.1.1.1.2 q1.1.1.2 p s t u v (IntKind.i64.wrap (w+1))
   else
    g1 a b c e f h i l m n o p s t u v (IntKind.i64.wrap (w+1)))
  else
   g1 a b c e f h i l m n o p s t u v (IntKind.i64.wrap (w+1)))
 else
  some ((),(a,b,c,e,f,h,i,l,m,n,o,p,s,()),()))
def akx (k:Nat):Xx (((E5×Unit)×Unit×p8×(List Int)×Int×Int×Unit) -> Option ((Unit)×E5×Unit)):=dh (bq (bq (ay (ay (ay (ay (ay (ay (ay (ay (ay (ay (ay (ay (ay bg))))))))))))) bg) (bf (ay (ay (ay (ay bg)))))) (aeD k)
def aeE (k a:Nat) (b c:Int) (e:List ji) (f:List (PN Int 5)) (h i l:Bool) (m:List lg) (n:List Int) (o:List Bool) (p:List jr) (s:List Int) (t:List Bool) (u:ku) (v:List Int) (w y:Int):Option ((Unit)×E5×Unit):=iter aeC (akx k) a (((b,c,e,f,h,i,l,m,n,o,p,s,t,()),()),(),u,v,w,y,())
theorem aij (k a b c e f h i l m n o p s t u v w y):aeE k (a+1) b c e f h i l m n o p s t u v w y=aeD k (aeE k a) b c e f h i l m n o p s t u v w y:=Ba _ _ _ _
def S39 (k:Nat) (a b:Int) (c:List ji) (e:List (PN Int 5)) (f h i:Bool) (l:List lg) (m:List Int) (n:List Bool) (o:List jr) (p:List Int) (s:List Bool) (t:ku):Option ((Unit)×E5×Unit) :=
 (S73 k ((m,n),o)).bind fun q0 =>
 aeE k k a b c e f h i l m n o p s t q0.1.1 (q0.1.1.length:Int) 0
def F39:Fn:=⟨[.fK 37 [cI,cI,.cell yt,.own 96 uq,.cell .bool,.cell .bool,.cell .bool,.own 94 qc,.own 3 (.int .i64),.own 4 .bool,.own 124 wh,.own 3 (.int .i64),.own 4 .bool],adI],[],fun k ((a,b,c,e,f,h,i,l,m,n,o,p,s,_),t,_)=>S39 k a b c e f h i l m n o p s t⟩
theorem ok39:O 39 F39:=okF (ah ok73 <| ah ok82 aj) [] (fun k=>(.loop 1 aeC (akx k) (fun g=>.nil) .nil)) Tryz.func39 rfl
abbrev ZR:Cut:=⟨[1,2,4,33,34],[.box 37 [cI,cI,.cell yt,.own 96 uq,.cell .bool,.cell .bool,.cell .bool,.own 94 qc,.own 3 (.int .i64),.own 4 .bool,.own 124 wh,.own 3 (.int .i64),.own 4 .bool],.box 37 [cI,cI,.nil,.nil,.cell .bool,.cell .bool,.cell .bool,.nil,.nil,.nil,.nil,.nil,.nil],.box 98 [.own 114 qh],cI,cI],[],50,[]⟩
def XR (k:Nat) (g12:Int -> Int -> (List ji) -> BZ -> Bool -> Bool -> Bool -> (List lg) -> (List Int) -> (List Bool) -> (List jr) -> (List Int) -> (List Bool) -> Int -> Int -> Bool -> Bool -> Bool -> p8 -> Int -> Int -> Option H8) (s t:Int) (u:List ji) (v:List (PN Int 5)) (w y z:Bool) (A:List lg) (B:List Int) (C:List Bool) (D:List jr) (G:List Int) (H:List Bool) (I J:Int) (K M N:Bool) (O:ku) (P Q:Int):Option H8 :=
 (bif decide (Q<P) then
  (S38 k u Q).bind fun q4 =>
  ix O Q <|
  g12 s t u v w y z A B C D G H I J K M N (upd O Q (q4.1.1,(rd O Q (0,0)).2)) P (IntKind.i64.wrap (Q+1))
 else
  (S39 k s t u v w y z A B C D G H O).bind fun (_,(a,b,c,e,_,f,h,i,l,m,n,o,p,_),_) =>
  some (((a,b,c,e,true,f,h,i,((l,m),n),o,p),0,()),()))
def aeF (k:Nat):Xx (((Unit)×E5×YM×(p8×Unit)×Int×Int×Unit) -> Option H8):=dh (bf (bq (ay (ay (ay (ay (ay (ay (ay (ay (ay (ay (ay (ay (ay bg))))))))))))) (bq (ay (ay (bf (bf (ay (ay (ay (bf (bf (bf (bf (bf (bf bg))))))))))))) (bq (ay bg) (ay (ay bg)))))) (XR k)
def XT (k a:Nat) (b c:Int) (e:List ji) (f:List (PN Int 5)) (h i l:Bool) (m:List lg) (n:List Int) (o:List Bool) (p:List jr) (s:List Int) (t:List Bool) (u v:Int) (w y z:Bool) (A:ku) (B C:Int):Option H8:=iter ZR (aeF k) a ((),(b,c,e,f,h,i,l,m,n,o,p,s,t,()),(u,v,(),(),w,y,z,(),(),(),(),(),(),()),(A,()),B,C,())
theorem aeG (k a b c e f h i l m n o p s t u v w y z A B C):XT k (a+1) b c e f h i l m n o p s t u v w y z A B C=XR k (XT k a) b c e f h i l m n o p s t u v w y z A B C:=Ba _ _ _ _
abbrev aeH:Cut:=⟨[1,2,4,16,17,18],[.box 37 [cI,cI,.cell yt,.own 96 uq,.cell .bool,.cell .bool,.cell .bool,.own 94 qc,.own 3 (.int .i64),.own 4 .bool,.own 124 wh,.own 3 (.int .i64),.own 4 .bool],.box 37 [cI,cI,.nil,.nil,.cell .bool,.cell .bool,.cell .bool,.nil,.nil,.nil,.nil,.nil,.nil],.box 98 [.own 114 qh],.cell yt,cI,cI],[],50,[]⟩
def ZT (k:Nat) (g6:Int -> Int -> (List ji) -> BZ -> Bool -> Bool -> Bool -> (List lg) -> (List Int) -> (List Bool) -> (List jr) -> (List Int) -> (List Bool) -> Int -> Int -> Bool -> Bool -> Bool -> p8 -> (List ji) -> Int -> Int -> Option H8) (a b:Int) (c:List ji) (e:List (PN Int 5)) (f h i:Bool) (l:List lg) (m:List Int) (n:List Bool) (o:List jr) (p:List Int) (s:List Bool) (t u:Int) (v w y:Bool) (z:ku) (A:List ji) (B C:Int):Option H8 :=
 (bif decide (C<B) then
  ix A C <|
  (S36 k ([(rd A C (0,0,0,[],[],[])).2.2.2.1,(rd A C (0,0,0,[],[],[])).2.2.2.2.1]:List (List jd))).bind fun q2 =>
  (S35 k q2.1.1 z).bind fun q3 =>
  (bif q3.1.1 then
   some (((a,b,c,e,f,h,i,l,((m,n),o),p,s),4,()),())
  else
   g6 a b c e f h i l m n o p s t u v w y z A B (IntKind.i64.wrap (C+1)))
 else
  XT k k a b c e f h i l m n o p s t u v w y z (z.length:Int) 0)
def aky (k:Nat):Xx (((Unit)×E5×YM×(p8×Unit)×(List ji)×Int×Int×Unit) -> Option H8):=dh (bf (bq (ay (ay (ay (ay (ay (ay (ay (ay (ay (ay (ay (ay (ay bg))))))))))))) (bq (ay (ay (bf (bf (ay (ay (ay (bf (bf (bf (bf (bf (bf bg))))))))))))) (bq (ay bg) (ay (ay (ay bg))))))) (ZT k)
def ZU (k a:Nat) (b c:Int) (e:List ji) (f:List (PN Int 5)) (h i l:Bool) (m:List lg) (n:List Int) (o:List Bool) (p:List jr) (s:List Int) (t:List Bool) (u v:Int) (w y z:Bool) (A:ku) (B:List ji) (C D:Int):Option H8:=iter aeH (aky k) a ((),(b,c,e,f,h,i,l,m,n,o,p,s,t,()),(u,v,(),(),w,y,z,(),(),(),(),(),(),()),(A,()),B,C,D,())
theorem ZV (k a b c e f h i l m n o p s t u v w y z A B C D):ZU k (a+1) b c e f h i l m n o p s t u v w y z A B C D=ZT k (ZU k a) b c e f h i l m n o p s t u v w y z A B C D:=Ba _ _ _ _
def S12 (k:Nat) (a:V9):Option H8 :=
 (S34 k a).bind fun q0 =>
 (bif q0.1.1.2.2.2.2.1 then
  some ((q0.1.1,7,()),())
 else
  (S30 k q0.1.1).bind fun q1 =>
  ZU k k q0.1.1.1 q0.1.1.2.1 q0.1.1.2.2.1 q0.1.1.2.2.2.1 q0.1.1.2.2.2.2.1 q0.1.1.2.2.2.2.2.1 q0.1.1.2.2.2.2.2.2.1 q0.1.1.2.2.2.2.2.2.2.1 q0.1.1.2.2.2.2.2.2.2.2.1.1.1 q0.1.1.2.2.2.2.2.2.2.2.1.1.2 q0.1.1.2.2.2.2.2.2.2.2.1.2 q0.1.1.2.2.2.2.2.2.2.2.2.1 q0.1.1.2.2.2.2.2.2.2.2.2.2 0 0 false false false q1.1.1 q0.1.1.2.2.1 (q0.1.1.2.2.1.length:Int) 0)
def F12:Fn:=⟨[YS],[.val ⟨true,YK,false⟩,rI],fun k x=>S12 k x.1⟩
theorem ok12:O 12 F12:=okF (ah ok30 <| ah ok34 <| ah ok35 <| ah ok36 <| ah ok38 <| ah ok39 aj) [] (fun k=>(.loop 12 ZR (aeF k) (fun g=>.nil) (.loop 6 aeH (aky k) (fun g=>.nil) .nil))) Tryz.func12 rfl
def S96 (k:Nat) (a:adF) (b:Int):Option je :=
 some ((IntKind.i64.wrap (a.1 - b),()),())
def F96:Fn:=⟨[adM,au],[rI],fun k x=>S96 k x.1 x.2.1⟩
theorem ok96:O 96 F96:=okF aj [] On Tryz.func96 rfl
abbrev aeI:Cut:=⟨[0,1,2,8,9,10],[.cell (.sl 94 qc),cI,.lJ 96 [],cI,cI,cI],[],49,[]⟩
def aeJ (k:Nat) (g3:(List lg) -> Int -> Int -> Int -> Int -> Option AU) (a:List lg) (b c e f:Int):Option AU :=
 (bif decide (e<f) then
  ix a (IntKind.i64.wrap (Tn .u64 (IntKind.u64.wrap (IntKind.i64.wrap (e+f))) 1)) <|
  (S96 k (rd a (IntKind.i64.wrap (Tn .u64 (IntKind.u64.wrap (IntKind.i64.wrap (e+f))) 1)) (0,0,0,0,(0,Pv (α:=Int) 8 0,[],false),(0,Pv (α:=Int) 8 0,[],false),[],false)) b).bind fun q0 =>
  (bif decide (q0.1.1<0) then
   g3 a b c (IntKind.i64.wrap ((IntKind.i64.wrap (Tn .u64 (IntKind.u64.wrap (IntKind.i64.wrap (e+f))) 1))+1)) f
  else
   g3 a b c e (IntKind.i64.wrap (Tn .u64 (IntKind.u64.wrap (IntKind.i64.wrap (e+f))) 1)))
 else
  (bif decide (e<c) then
   ix a e <|
   (S96 k (rd a e (0,0,0,0,(0,Pv (α:=Int) 8 0,[],false),(0,Pv (α:=Int) 8 0,[],false),[],false)) b).bind fun q1 =>
   some ((e,q1.1.1==0,()),())
  else
   some ((e,false,()),())))
def akz (k:Nat):Xx (((Unit)×(List lg)×Int×Unit×Int×Int×Int×Unit) -> Option AU):=dh (bf (ay (ay (bf (ay (ay (ay bg))))))) (aeJ k)
def VN (k a:Nat) (b:List lg) (c e f h:Int):Option AU:=iter aeI (akz k) a ((),b,c,(),e,f,h,())
theorem aik (k a b c e f h):VN k (a+1) b c e f h=aeJ k (VN k a) b c e f h:=Ba _ _ _ _
def S95 (k:Nat) (x:List lg) (a:Int):Option AU :=
 VN k k x a (x.length:Int) 0 (x.length:Int)
def F95:Fn:=⟨[.val ⟨false,(.sl 94 qc),false⟩,au,.pv (.lJ 96 [])],[rI,rB],fun k x=>S95 k x.1 x.2.1⟩
theorem ok95:O 95 F95:=okF (ah ok96 aj) [] (fun k=>(.loop 3 aeI (akz k) (fun g=>.nil) .nil)) Tryz.func95 rfl
def S49 (k:Nat) (a:V9) (b:Int):Option AU :=
 (S95 k a.2.2.2.2.2.2.2.1 b).bind fun q0 =>
 some (q0.1,())
def F49:Fn:=⟨[.pv (.ref YK),au],[rI,rB],fun k x=>S49 k x.1 x.2.1⟩
theorem ok49:O 49 F49:=okF (ah ok95 aj) [] On Tryz.func49 rfl
section
variable (w:World) {g n c i j:Nat}
theorem MH:Tryz.prog.underlying 26=some (.slice 94) /\ Tryz.prog.underlying 3=some (.int .i64) /\ Tryz.prog.underlying 4=some .bool /\ Tryz.prog.follows .mixedOrders=true /\ (∀ w,(Go.sizeOf 94).run Tryz.prog w=.ok 28 w) /\ Tryz.f50.ntmps=33:=⟨by kernel_rfl,by kernel_rfl,by kernel_rfl,by kernel_rfl,fun w=>by kernel_rfl,rfl⟩
theorem VO {v:Value} (hv:(∃ A n c,v=.slice A n c /\ i <= n /\ n <= c /\ c <= 9223372036854775807)):Calls Tryz.prog 50 #[v,.int .i64 i,.int .i64 i] w fun e w'=>e=.returned v /\ w'=w:=by
 obtain ⟨t24,t3,t4,mixed,z36,hnt⟩:=MH
 have u24:=run_underlying t24;have u3:=run_underlying t3;have u4:=run_underlying t4
 obtain ⟨A,n,c,rfl,hi,hnc,hc63⟩:=hv
 have hi0:(i:Int) <= (n:Int):=by omega
 have hi1:(0:Int) <= (i:Int):=by omega
 cases A <;> (go_enter Tryz.func50,hnt;go_wp2 <;> (go_ret;exact ⟨rfl,rfl⟩))
theorem VP {w' w'':World} (hlt:i<j) (hj:j <= n) (hnc:n <= c) (hc63:c <= 9223372036854775807)
  (hap:∀ ty A,(c≠j -> A=(⟨g,j * 28,none⟩:Addr)) -> (Builtin.append_ #[26,26] ty #[.slice (some ⟨g,0,none⟩) i c,.slice (some A) (n - j) (c - j)]).run Tryz.prog w.drew=.ok (.slice (some ⟨g,0,none⟩) (i+(n - j)) c) w')
  (hcl:∀ ty dc,(Builtin.clear_ #[26] ty #[.slice (some ⟨g,(i+(n - j)) * 28,none⟩) (n - (i+(n - j))) dc]).run Tryz.prog w'=.ok (.tuple #[]) w'') :
  Calls Tryz.prog 50 #[.slice (some ⟨g,0,none⟩) n c,.int .i64 i,.int .i64 j] w fun e w1=>e=.returned (.slice (some ⟨g,0,none⟩) (i+(n - j)) c) /\ w1=w'':=by
 obtain ⟨t24,t3,t4,mixed,z36,hnt⟩:=MH
 have u24:=run_underlying t24;have u3:=run_underlying t3;have u4:=run_underlying t4
 have hi0:(i:Int) <= (n:Int):=by omega
 have hj0:(j:Int) <= (n:Int):=by omega
 have hij:(i:Int) <= (j:Int):=by omega
 have hne:¬ ((i:Int)=(j:Int)):=by omega
 have hic:i <= c:=by omega
 have hjc:j <= c:=by omega
 have hln:i+(n - j) <= n:=by omega
 have hlc:i+(n - j) <= c:=by omega
 have hci:¬ (c=i+(n - j)):=by omega
 obtain ⟨A,hA,hA'⟩:∃ A:Addr,(if c=j then some (⟨g,0,none⟩:Addr) else some ⟨g,j * 28,none⟩)=some A /\ (c≠j -> A=(⟨g,j * 28,none⟩:Addr)):=by
  by_cases h:c=j
  · exact ⟨_,if_pos h,fun q=>absurd h q⟩
  · exact ⟨_,if_neg h,fun _=>rfl⟩
 try simp only [Nat.mul_one] at hA hcl
 go_enter Tryz.func50,hnt
 go_wp2_with fail
 go_region_law_o (refine Gv rfl rfl _ _ (by simp [Act.eval,Act.put]) (by simp [Act.eval,Act.put,hA]) (hap _ _ hA') ?_)
 go_wp2_with (at_builtin;refine Je rfl rfl _ rfl (hcl _ _) ?_)
 go_ret
 exact ⟨rfl,rfl⟩
end
abbrev P50:List PT:=iG 94 qc
abbrev R50:List RT:=qW 94 qc
def S50 (k:Nat) (a:List lg) (i j:Int):Option (((List lg)×Unit)×Unit):=Jg 94 qc k (a,i,j,())
def F50:Fn:=⟨P50,R50,Jg 94 qc⟩
def E50:Env:=tab.env (fun _=>none) (fun _=>0)
theorem alP:aH Tryz.prog E50:=Kr Qy _ _ (fun f F h=>by cases h)
theorem ok50:O 50 F50:=by
 obtain ⟨i0,z,a1,a2,a3,a4,a5⟩:=(alP.ty 94 (qc) (by kernel_rfl)).info
 have b2:Ty.sz (qc)=28:=rfl
 have hz:z.cells.size=28:=by rw [<- Array.length_toList,a5,gZ,b2]
 obtain ⟨t24,t3,t4,mixed,z36,hnt⟩:=MH
 refine Qc Tryz.func50 rfl (by kernel_rfl) ?_
 rw [b2]
 exact Mj (S:=26) (z:=z) t24 a1 a4 (by rw [a2,b2]) hz (fun v hv=>tV (qc) v (by rw [<- a5];exact hv)) (by decide) (fun w i v h=>VO w h) (fun w g n c i j w' w'' h1 h2 h3 h4 h5 h6=>VP w h1 h2 h3 h4 h5 h6)
def S99 (k:Nat) (a:Int):Option (((Int×(PN Int 8)×(List (Int×Int×Int))×Bool)×Unit)×Unit) :=
 some (((0,(a,0,0,0,0,0,0,0),[],false),()),())
def F99:Fn:=⟨[au],[.val ⟨true,(.pair (.int .i64) (.pair (Am 8 (.int .i64)) (.pair (.sl 233 (.pair (.int .i64) qh)) .bool))),true⟩],fun k x=>S99 k x.1⟩
theorem ok99:O 99 F99:=okF aj [] On Tryz.func99 rfl
def S52 (k:Nat) (a b c:Int):Option ((lg×Unit)×Unit) :=
 (S99 k c).bind fun q0 =>
 (S99 k c).bind fun q1 =>
 some (((a,b,c,0,q0.1.1,q1.1.1,[],false),()),())
def F52:Fn:=⟨[au,au,au],[.val ⟨true,qc,true⟩],fun k (a,b,c,_)=>S52 k a b c⟩
theorem ok52:O 52 F52:=okF (ah ok99 aj) [] On Tryz.func52 rfl
section
variable (w:World) {g n c i g2 m c2:Nat}
theorem EA:Tryz.prog.underlying 26=some (.slice 94) /\ Tryz.prog.underlying 3=some (.int .i64) /\ Tryz.prog.underlying 4=some .bool /\ Tryz.prog.follows .mixedOrders=true /\ (∀ w,(Go.sizeOf 94).run Tryz.prog w=.ok 28 w) /\ Tryz.f51.ntmps=95:=⟨by kernel_rfl,by kernel_rfl,by kernel_rfl,by kernel_rfl,fun w=>by kernel_rfl,rfl⟩
theorem VQ {v u:Value} (hv:(∃ A n c,v=.slice A n c /\ i <= n)) (hu:∃ A c,u=.slice A m c) (hm:m=0):Calls Tryz.prog 51 #[v,.int .i64 i,u] w fun e w'=>e=.returned v /\ w'=w:=by
 obtain ⟨t24,t3,t4,mixed,z36,hnt⟩:=EA
 have u24:=run_underlying t24;have u3:=run_underlying t3;have u4:=run_underlying t4
 obtain ⟨A,n,c,rfl,hi⟩:=hv
 obtain ⟨A2,c2,rfl⟩:=hu
 have hi0:(i:Int) <= (n:Int):=by omega
 have hz1:(m:Int)=0:=by omega
 cases A <;> (go_enter Tryz.func51,hnt;go_wp2 <;> (go_ret;exact ⟨rfl,rfl⟩))
theorem XU {v:Value} {w':World} {v':Value} (hv:(∃ A c,v=.slice A n c)) (hm:0<m)
  (hr:∀ ty,(Builtin.append_ #[26,26] ty #[v,.slice (some ⟨g2,0,none⟩) m c2]).run Tryz.prog w=.ok v' w'):Calls Tryz.prog 51 #[v,.int .i64 n,.slice (some ⟨g2,0,none⟩) m c2] w fun e w1=>e=.returned v' /\ w1=w':=by
 obtain ⟨t24,t3,t4,mixed,z36,hnt⟩:=EA
 have u24:=run_underlying t24;have u3:=run_underlying t3;have u4:=run_underlying t4
 have hz1:¬ ((m:Int)=0):=by omega
 obtain ⟨A,c,rfl⟩:=hv
 go_enter Tryz.func51,hnt
 go_wp2_with (at_builtin;refine Gt rfl rfl _ _ rfl rfl (hr _) ?_)
 all_goals (go_ret;exact ⟨rfl,rfl⟩)
theorem TQ {v' v'':Value} {w' w'':World} (hi:i<n) (hm:0<m) (hroom:n+m <= c) (hc63:c <= 9223372036854775807)
  (hov:∀ lb cb,(callFunc 97 #[.slice (some ⟨g2,0,none⟩) m c2,.slice (some ⟨g,(i+m) * 28,none⟩) lb cb]).run Tryz.prog w=.ok (.value (.bool false)) w)
  (hcp1:∀ ty dc sc,(Builtin.copy_ #[26,26] ty #[.slice (some ⟨g,(i+m) * 28,none⟩) (n+m - (i+m)) dc,.slice (some ⟨g,i * 28,none⟩) (n+m - i) sc]).run Tryz.prog w.drew=.ok v' w')
  (hcp2:∀ ty dc,(Builtin.copy_ #[26,26] ty #[.slice (some ⟨g,i * 28,none⟩) (n+m - i) dc,.slice (some ⟨g2,0,none⟩) m c2]).run Tryz.prog w'=.ok v'' w'') :
  Calls Tryz.prog 51 #[.slice (some ⟨g,0,none⟩) n c,.int .i64 i,.slice (some ⟨g2,0,none⟩) m c2] w fun e w1=>e=.returned (.slice (some ⟨g,0,none⟩) (n+m) c) /\ w1=w'':=by
 obtain ⟨t24,t3,t4,mixed,z36,hnt⟩:=EA
 have u24:=run_underlying t24;have u3:=run_underlying t3;have u4:=run_underlying t4
 have hz1:¬ ((m:Int)=0):=by omega
 have hz2:¬ ((i:Int)=(n:Int)):=by omega
 have hw1:IntKind.i64.wrap ((i:Int)+(m:Int))=(i:Int)+(m:Int):=by rw [IntKind.wrap_i64];omega
 have hb1:(0:Int) <= (i:Int)+(m:Int):=by omega
 have hin:i <= n:=by omega
 have htn:((i:Int)+(m:Int)).toNat=i+m:=by omega
 have hb2:¬ (c=i+m):=by omega
 have hb3:(i:Int) <= (n:Int)+(m:Int):=by omega
 have hb4:¬ (c=i):=by omega
 go_enter Tryz.func51,hnt
 go_wp2_with (simp only [hov])
 go_region_law_o (refine Jk rfl rfl _ _ (by simp [Act.eval,Act.put]) (by simp [Act.eval,Act.put]) (hcp1 _ _ _) ?_)
 go_wp2_with (at_builtin;refine Jj rfl rfl _ _ rfl rfl (hcp2 _ _) ?_)
 go_ret
 exact ⟨rfl,rfl⟩
theorem VR {h G:Nat} {v' v'':Value} {w0 w' w'':World} (hi:i<n) (hm:0<m) (hnc:n <= c) (hroom:c<n+m) (hc63:n+m <= 140737488355328) (hG:n+m <= G) (hG63:G <= 9223372036854775807)
  (hrz:∀ ty,(Builtin.append_ #[26,3] ty #[.slice (some ⟨g,0,none⟩) i c,.int .i64 ((n:Int)+(m:Int) - (i:Int))]).run Tryz.prog w=.ok (.slice (some ⟨h,0,none⟩) (n+m) G) w0)
  (hcp1:∀ ty dc,(Builtin.copy_ #[26,26] ty #[.slice (some ⟨h,i * 28,none⟩) (n+m - i) dc,.slice (some ⟨g2,0,none⟩) m c2]).run Tryz.prog w0=.ok v' w')
  (hcp2:∀ ty dc sc,(Builtin.copy_ #[26,26] ty #[.slice (some ⟨h,(i+m) * 28,none⟩) (n+m - (i+m)) dc,.slice (some ⟨g,i * 28,none⟩) (n - i) sc]).run Tryz.prog w'.drew=.ok v'' w'') :
  Calls Tryz.prog 51 #[.slice (some ⟨g,0,none⟩) n c,.int .i64 i,.slice (some ⟨g2,0,none⟩) m c2] w fun e w1=>e=.returned (.slice (some ⟨h,0,none⟩) (n+m) G) /\ w1=w'':=by
 obtain ⟨t24,t3,t4,mixed,z36,hnt⟩:=EA
 have u24:=run_underlying t24;have u3:=run_underlying t3;have u4:=run_underlying t4
 have hz1:¬ ((m:Int)=0):=by omega
 have hz2:¬ ((i:Int)=(n:Int)):=by omega
 have hz3:(c:Int)<(n:Int)+(m:Int):=by omega
 have hw1:IntKind.i64.wrap ((i:Int)+(m:Int))=(i:Int)+(m:Int):=by rw [IntKind.wrap_i64];omega
 have hb1:(0:Int) <= (i:Int)+(m:Int):=by omega
 have hin:i <= n:=by omega
 have htn:((i:Int)+(m:Int)).toNat=i+m:=by omega
 have hGi:¬ (G=i):=by omega
 have hGim:¬ (G=i+m):=by omega
 have hci:¬ (c=i):=by omega
 have hb3:(i:Int) <= (n:Int):=by omega
 go_enter Tryz.func51,hnt
 go_wp2_with (first
  | (at_builtin;refine Gt rfl rfl _ _ rfl rfl (hrz _) ?_)
  | (at_builtin;refine Jj rfl rfl _ _ rfl rfl (hcp1 _ _) ?_))
 go_region_law_o (refine Jk rfl rfl _ _ (by simp [Act.eval,Act.put]) (by simp [Act.eval,Act.put]) (hcp2 _ _ _) ?_)
 go_wp2
 go_ret
 exact ⟨rfl,rfl⟩
end
abbrev P51:List PT:=eG 94 qc
abbrev R51:List RT:=qV 94 qc
def S51 (k:Nat) (a:List lg) (b:Int) (c:List lg):Option (((List lg)×Unit)×Unit):=Jc 272 94 qc k (a,b,c,())
def F51:Fn:=⟨P51,R51,Jc 272 94 qc⟩
def E51:Env:=tab.env (fun _=>none) (fun _=>0)
theorem alQ:aH Tryz.prog E51:=Kr Qy _ _ (fun f F h=>by cases h)
theorem ok51:O 51 F51:=by
 obtain ⟨i0,z,a1,a2,a3,a4,a5⟩:=(alQ.ty 94 (qc) (by kernel_rfl)).info
 have b1:E51.lK 94=272:=by kernel_rfl
 have b2:Ty.sz (qc)=28:=rfl
 rw [b1] at a3
 have hz:z.cells.size=28:=by rw [<- Array.length_toList,a5,gZ,b2]
 obtain ⟨t24,t3,t4,mixed,z36,hnt⟩:=EA
 refine Py Tryz.func51 rfl (by kernel_rfl) ?_
 rw [b2,<- a3]
 refine Mi (S:=26) (z:=z) t24 t3 a1 a4 (by rw [a2,b2]) hz (by decide) (by rw [a3];decide) (fun w i m v u h1 h2 h3=>VQ w h1 h2 h3) (fun w n g2 m c2 v v' w' h1 h2 h3=>XU w h1 h2 h3) (fun w g n c i g2 m c2 v' v'' w' w'' h1 h2 h3 h4 h5 h6 hne hg hg2=>TQ w h1 h2 h3 h4 (fun lb cb=>?_) h5 h6) (fun w g n c i g2 m c2 h G v' v'' w0 w' w'' h1 h2 h3 h4 h5 h6 h7 h8 h9 h10=>VR w h1 h2 h3 h4 h5 h6 h7 h8 h9 h10)
 obtain ⟨cur,q1,q2⟩:=hg
 obtain ⟨xG,q3⟩:=hg2
 rw [run_callFunc_extern Tryz.func97 (by kernel_rfl) (by kernel_rfl) (by kernel_rfl) (e:=Extern.SlicesOverlaps.overlaps #[26,26] #[4]) (by kernel_rfl),Lib.run_overlaps_apart w 26 4 94 t24 28 z36 ⟨g2,0,none⟩ ⟨g,(i+m) * 28,none⟩ m c2 lb cb hne 94 94 xG.size cur.size (by simp [World.shape?,q3]) (by simp [World.shape?,q1]) q2 (Kd.fQ q3 _) (Kd.fQ q3 _)]
 rfl
abbrev ail:Cut:=⟨[1,2,3,6,9,10],[cI,cI,.box 37 [cI,cI,.own 77 DZ,.own 96 uq,.cell .bool,.cell .bool,.cell .bool,.own 94 qc,.own 3 (.int .i64),.own 4 .bool,.own 124 wh,.own 3 (.int .i64),.own 4 .bool],.box 37 [cI,cI,.nil,.nil,.cell .bool,.cell .bool,.cell .bool,.nil,.nil,.nil,.nil,.nil,.nil],.own 82 FU,cI],[],98,[]⟩
def MI (k:Nat) (a b c e:Int) (f:List ji) (h:List (PN Int 5)) (i l m:Bool) (n:List lg) (o:List Int) (p:List Bool) (s:List jr) (t:List Int) (u:List Bool) (v w:Int) (y z A:Bool) (B:List (PN Int 6)) (C:Int):Option ((XL×(List (PN Int 6))×Int×Unit)×Unit) :=
 (S52 k a c b).bind fun q4 =>
 (S51 k n C ([q4.1.1]:List lg)).bind fun q5 =>
 ap B ([(c,1,a,0,b,0)]:List (PN Int 6)) 48 fun r6 =>
 some (((c,e,f,h,i,l,m,q5.1.1,((o,p),s),t,u),r6,0,()),())
abbrev ain:Cut:=⟨[1,2,3,6],[cI,cI,.box 37 [cI,cI,.own 77 DZ,.own 96 uq,.cell .bool,.cell .bool,.cell .bool,.own 94 qc,.own 3 (.int .i64),.own 4 .bool,.own 124 wh,.own 3 (.int .i64),.own 4 .bool],.box 37 [cI,cI,.nil,.nil,.cell .bool,.cell .bool,.cell .bool,.nil,.nil,.nil,.nil,.nil,.nil]],[],98,[]⟩
def TR (k:Nat) (a b c e:Int) (f:List ji) (h:List (PN Int 5)) (i l m:Bool) (n:List lg) (o:List Int) (p:List Bool) (s:List jr) (t:List Int) (u:List Bool) (v w:Int) (y z A:Bool):Option ((XL×(List (PN Int 6))×Int×Unit)×Unit) :=
 (S49 k (c,e,f,h,i,l,m,n,((o,p),s),t,u) a).bind fun q1 =>
 (bif q1.1.2.1 then
  ix n q1.1.1 <|
  (bif (rd n q1.1.1 (0,0,0,0,(0,Pv (α:=Int) 8 0,[],false),(0,Pv (α:=Int) 8 0,[],false),[],false)).2.2.2.1 != 2 then
   some (((c,e,f,h,i,l,m,n,((o,p),s),t,u),[],5,()),())
  else
   ap ([]:List (PN Int 6)) ([(c,13,a,0,0,0)]:List (PN Int 6)) 48 fun r2 =>
   (S50 k n q1.1.1 (IntKind.i64.wrap (q1.1.1+1))).bind fun q3 =>
   MI k a b c e f h i l m q3.1.1 o p s t u v w y z A r2 q1.1.1)
 else
  MI k a b c e f h i l m n o p s t u v w y z A ([]:List (PN Int 6)) q1.1.1)
def S20 (k:Nat) (a:V9) (b c:Int):Option ((XL×(List (PN Int 6))×Int×Unit)×Unit) :=
 (S34 k a).bind fun q0 =>
 (bif !q0.1.1.2.2.2.2.1 then
  some ((q0.1.1,[],8,()),())
 else
  (bif q0.1.1.2.2.2.2.2.1 then
   some ((q0.1.1,[],17,()),())
  else
   (bif decide (b<0) then
    some ((q0.1.1,[],3,()),())
   else
    (bif decide (b≥(q0.1.1.2.2.1.length:Int)) then
     some ((q0.1.1,[],3,()),())
    else
     (bif decide (b<(q0.1.1.2.2.2.2.2.2.2.2.2.2.length:Int)) then
      ix q0.1.1.2.2.2.2.2.2.2.2.2.2 b <|
      (bif rd q0.1.1.2.2.2.2.2.2.2.2.2.2 b false then
       some ((q0.1.1,[],6,()),())
      else
       TR k b c q0.1.1.1 q0.1.1.2.1 q0.1.1.2.2.1 q0.1.1.2.2.2.1 q0.1.1.2.2.2.2.1 q0.1.1.2.2.2.2.2.1 q0.1.1.2.2.2.2.2.2.1 q0.1.1.2.2.2.2.2.2.2.1 q0.1.1.2.2.2.2.2.2.2.2.1.1.1 q0.1.1.2.2.2.2.2.2.2.2.1.1.2 q0.1.1.2.2.2.2.2.2.2.2.1.2 q0.1.1.2.2.2.2.2.2.2.2.2.1 q0.1.1.2.2.2.2.2.2.2.2.2.2 0 0 false false false)
     else
      TR k b c q0.1.1.1 q0.1.1.2.1 q0.1.1.2.2.1 q0.1.1.2.2.2.1 q0.1.1.2.2.2.2.1 q0.1.1.2.2.2.2.2.1 q0.1.1.2.2.2.2.2.2.1 q0.1.1.2.2.2.2.2.2.2.1 q0.1.1.2.2.2.2.2.2.2.2.1.1.1 q0.1.1.2.2.2.2.2.2.2.2.1.1.2 q0.1.1.2.2.2.2.2.2.2.2.1.2 q0.1.1.2.2.2.2.2.2.2.2.2.1 q0.1.1.2.2.2.2.2.2.2.2.2.2 0 0 false false false)))))
def F20:Fn:=⟨[YS,au,au],[adK,.val ⟨false,(.sl 82 FU),true⟩,rI],fun k (a,b,c,_)=>S20 k a b c⟩
theorem ok20:O 20 F20:=okF (ah ok34 <| ah ok49 <| ah ok50 <| ah ok51 <| ah ok52 aj) [(9,2)] (fun k=>(.join 17 ail (fun (_,a,b,(c,e,f,h,i,l,m,n,o,p,s,t,u,_),(v,w,_,_,y,z,A,_),B,C,_)=>MI k a b c e f h i l m n o p s t u v w y z A B C) (.join 10 ain (fun (_,a,b,(c,e,f,h,i,l,m,n,o,p,s,t,u,_),(v,w,_,_,y,z,A,_),_)=>TR k a b c e f h i l m n o p s t u v w y z A) .nil))) Tryz.func20 rfl
def XV (k:Nat) (a b:Int) (c:List ji) (e:List (PN Int 5)) (f h i:Bool) (l:List lg) (m:List Int) (n:List Bool) (o:List jr) (p:List Int) (s:List Bool) (t:List (PN Int 6)) (u:PN Int 6):Option wm :=
 ap t ([(a,u.2)]:List (PN Int 6)) 48 fun r0 =>
 some ((),(a,b,c,e,f,h,i,l,m,n,o,p,s,r0,()),())
def F100:Fn:=⟨[alo,.val ⟨true,FU,false⟩],[],fun k ((a,b,c,e,f,h,i,l,m,n,o,p,s,t,_),u,_)=>XV k a b c e f h i l m n o p s t u⟩
theorem ok100:O 100 F100:=okF aj [] On Tryz.func100 rfl
def aio (k:Nat) (a:ku):Option DL:=qR 16 114 qh k (a,())
def F194:Fn:=⟨dJ 114 qh,iZ 114 qh,qR 16 114 qh⟩
theorem ok194:O 194 F194:=Ku FX mix Tryz.func194 rfl (by kernel_rfl) (by kernel_rfl) (fun k=>by kernel_rfl) (fun k xs=>by kernel_rfl) (fun k xs=>by kernel_rfl)
def alR (k:Nat) (a:ku) (b:Int):Option j3 :=
 (bif decide (b≥0) then
  some ((decide (b<(a.length:Int)),()),())
 else
  some ((false,()),()))
def F212:Fn:=⟨[adI,au],[rB],fun k x=>alR k x.1 x.2.1⟩
theorem ok212:O 212 F212:=okF aj [] On Tryz.func212 rfl
def aip (k:Nat) (a:ku) (b c:Int):Option j3 :=
 (alR k a b).bind fun q0 =>
 (bif q0.1.1 then
  (bif decide (c≥0) then
   ix a b <|
   some (((rd a b (0,0)).2==(IntKind.i64.wrap (c+1)),()),())
  else
   some ((false,()),()))
 else
  some ((false,()),()))
def F195:Fn:=⟨[adI,au,au],[rB],fun k (a,b,c,_)=>aip k a b c⟩
theorem ok195:O 195 F195:=okF (ah ok212 aj) [] On Tryz.func195 rfl
abbrev ZW:Cut:=⟨[0,1,5,10,11],[.cell FW,cI,.own 114 qh,cI,cI],[],24,[]⟩
def XW (k:Nat) (g3:p8 -> Int -> p8 -> Int -> Int -> Option DL) (a:ku) (b:Int) (c:ku) (e f:Int):Option DL :=
 (bif decide (f<e) then
  (aip k a f b).bind fun q1 =>
  (bif q1.1.1 then
   ix c f <|
   g3 a b (upd c f ((rd c f (0,0)).1,0)) e (IntKind.i64.wrap (f+1))
  else
   g3 a b c e (IntKind.i64.wrap (f+1)))
 else
  some ((c,()),()))
def aeK (k:Nat):Xx (((Unit)×p8×Int×p8×Int×Int×Unit) -> Option DL):=dh (bf (ay (ay (ay (ay (ay bg)))))) (XW k)
def XY (k a:Nat) (b:ku) (c:Int) (e:ku) (f h:Int):Option DL:=iter ZW (aeK k) a ((),b,c,e,f,h,())
theorem aeL (k a b c e f h):XY k (a+1) b c e f h=XW k (XY k a) b c e f h:=Ba _ _ _ _
def aeM (k:Nat) (a:ku) (b:Int):Option DL :=
 (aio k a).bind fun q0 =>
 XY k k a b q0.1.1 (q0.1.1.length:Int) 0
def F154:Fn:=⟨[adI,au],[.val ⟨false,FW,true⟩],fun k x=>aeM k x.1 x.2.1⟩
theorem ok154:O 154 F154:=okF (ah ok194 <| ah ok195 aj) [] (fun k=>(.loop 3 ZW (aeK k) (fun g=>.nil) .nil)) Tryz.func154 rfl
abbrev ZX:Cut:=⟨[0,1,11,12,13],[.pin false 0,.cell FW,.own 3 (.int .i64),cI,cI],[.fK 150 [cI,cI,.own 77 DZ,.own 96 uq,.cell .bool,.cell .bool,.cell .bool,.cell (.sl 94 qc),.own 3 (.int .i64),.own 4 .bool,.own 124 wh,.own 3 (.int .i64),.own 4 .bool,.own 82 FU]],55,[]⟩
def XZ (k:Nat) (g1:Int -> Int -> (List ji) -> BZ -> Bool -> Bool -> Bool -> (List lg) -> (List Int) -> (List Bool) -> (List jr) -> (List Int) -> (List Bool) -> (List (PN Int 6)) -> p8 -> (List Int) -> Int -> Int -> Option wm) (a b:Int) (c:List ji) (e:List (PN Int 5)) (f h i:Bool) (l:List lg) (m:List Int) (n:List Bool) (o:List jr) (p:List Int) (s:List Bool) (t:List (PN Int 6)) (u:ku) (v:List Int) (w y:Int):Option wm :=
 (bif decide (y<w) then
  ix v y <|
  ix o (rd v y 0) <|
  (bif decide (y<(u.length:Int)) then
   ix u y <|
   (bif !(fC qh (rd o (rd v y 0) (0,(0,0),(0,0),([],[]),(0,[]),0)).2.2.1 (rd u y (0,0))) then
    ix u y <|
    (S82 k ((m,n),o) (rd v y 0) ((rd o (rd v y 0) (0,(0,0),(0,0),([],[]),(0,[]),0)).1,(rd o (rd v y 0) (0,(0,0),(0,0),([],[]),(0,[]),0)).2.1,rd u y (0,0),(rd o (rd v y 0) (0,(0,0),(0,0),([],[]),(0,[]),0)).2.2.2)).bind fun q1 =>
    g1 a b c e f h i l q1.1.1.1.1 q1.1.1.1.2 q1.1.1.2 p s t u v w (IntKind.i64.wrap (y+1))
   else
    g1 a b c e f h i l m n o p s t u v w (IntKind.i64.wrap (y+1)))
  else
   g1 a b c e f h i l m n o p s t u v w (IntKind.i64.wrap (y+1)))
 else
  some ((),(a,b,c,e,f,h,i,l,m,n,o,p,s,t,()),()))
def aeN (k:Nat):Xx (((ahZ×Unit)×Unit×p8×(List Int)×Int×Int×Unit) -> Option wm):=dh (bq (bq (ay (ay (ay (ay (ay (ay (ay (ay (ay (ay (ay (ay (ay (ay bg)))))))))))))) bg) (bf (ay (ay (ay (ay bg)))))) (XZ k)
def Y0 (k a:Nat) (b c:Int) (e:List ji) (f:List (PN Int 5)) (h i l:Bool) (m:List lg) (n:List Int) (o:List Bool) (p:List jr) (s:List Int) (t:List Bool) (u:List (PN Int 6)) (v:ku) (w:List Int) (y z:Int):Option wm:=iter ZX (aeN k) a (((b,c,e,f,h,i,l,m,n,o,p,s,t,u,()),()),(),v,w,y,z,())
theorem aeO (k a b c e f h i l m n o p s t u v w y z):Y0 k (a+1) b c e f h i l m n o p s t u v w y z=XZ k (Y0 k a) b c e f h i l m n o p s t u v w y z:=Ba _ _ _ _
def aiq (k:Nat) (a b:Int) (c:List ji) (e:List (PN Int 5)) (f h i:Bool) (l:List lg) (m:List Int) (n:List Bool) (o:List jr) (p:List Int) (s:List Bool) (t:List (PN Int 6)) (u:ku):Option wm :=
 (S73 k ((m,n),o)).bind fun q0 =>
 Y0 k k a b c e f h i l m n o p s t u q0.1.1 (q0.1.1.length:Int) 0
def F39a:Fn:=⟨[alo,adI],[],fun k ((a,b,c,e,f,h,i,l,m,n,o,p,s,t,_),u,_)=>aiq k a b c e f h i l m n o p s t u⟩
theorem ok39a:O 39 F39a:=okF (ah ok73 <| ah ok82 aj) [] (fun k=>(.loop 1 ZX (aeN k) (fun g=>.nil) .nil)) Tryz.func39 rfl
def alS (k:Nat) (a:(List Int)×List Bool) (b:Int):Option j3 :=
 (bif decide (b≥0) then
  some ((decide (b<(mn (a.1.length:Int) (a.2.length:Int))),()),())
 else
  some ((false,()),()))
def F196:Fn:=⟨[YR,au],[rB],fun k x=>alS k x.1 x.2.1⟩
theorem ok196:O 196 F196:=okF aj [] On Tryz.func196 rfl
abbrev ZY:Cut:=⟨[0,1,7,8],[.cell (.sl 4 .bool),.cell .bool,cI,cI],[],19,[]⟩
def TS (k:Nat) (g2:(List Bool) -> Bool -> Int -> Int -> Option je) (a:List Bool) (b:Bool) (c e:Int):Option je :=
 (bif decide (e<c) then
  ix a e <|
  (bif b==(rd a e false) then
   some ((e,()),())
  else
   g2 a b c (IntKind.i64.wrap (e+1)))
 else
  some (((-1),()),()))
def aeP (k:Nat):Xx (((Unit)×(List Bool)×Bool×Int×Int×Unit) -> Option je):=dh (bf (ay (ay (ay (ay bg))))) (TS k)
def J7 (k a:Nat) (b:List Bool) (c:Bool) (e f:Int):Option je:=iter ZY (aeP k) a ((),b,c,e,f,())
theorem VU (k a b c e f):J7 k (a+1) b c e f=TS k (J7 k a) b c e f:=Ba _ _ _ _
def air (k:Nat) (a:List Bool) (b:Bool):Option je :=
 J7 k k a b (a.length:Int) 0
def F223:Fn:=⟨[an8,.val ⟨false,.bool,false⟩],[rI],fun k x=>air k x.1 x.2.1⟩
theorem ok223:O 223 F223:=okF aj [] (fun k=>(.loop 2 ZY (aeP k) (fun g=>.nil) .nil)) Tryz.func223 rfl
def alT (k:Nat) (a:List Bool) (b:Bool):Option j3 :=
 (air k a b).bind fun q0 =>
 some ((decide (q0.1.1≥0),()),())
def F197:Fn:=⟨[an8,.val ⟨false,.bool,false⟩],[rB],fun k x=>alT k x.1 x.2.1⟩
theorem ok197:O 197 F197:=okF (ah ok223 aj) [] On Tryz.func197 rfl
def ais (k:Nat) (a:(List Int)×List Bool) (b:Int):Option ((FV×Bool×Bool×Unit)×Unit) :=
 (acK k a).bind fun q0 =>
 (alS k a b).bind fun q1 =>
 (bif !q1.1.1 then
  some ((q0.1.1,false,false,()),())
 else
  ix q0.1.1.1 b <|
  ix q0.1.1.1 b <|
  ix (upd q0.1.1.1 b (IntKind.i64.wrap ((rd q0.1.1.1 b 0)+1))) b <|
  (bif (rd (upd q0.1.1.1 b (IntKind.i64.wrap ((rd q0.1.1.1 b 0)+1))) b 0) != 2 then
   some (((upd q0.1.1.1 b (IntKind.i64.wrap ((rd q0.1.1.1 b 0)+1)),q0.1.1.2),false,false,()),())
  else
   ix q0.1.1.2 b <|
   (bif rd q0.1.1.2 b false then
    some (((upd q0.1.1.1 b (IntKind.i64.wrap ((rd q0.1.1.1 b 0)+1)),q0.1.1.2),false,false,()),())
   else
    ix q0.1.1.2 b <|
    (alT k (upd q0.1.1.2 b true) false).bind fun q2 =>
    some (((upd q0.1.1.1 b (IntKind.i64.wrap ((rd q0.1.1.1 b 0)+1)),upd q0.1.1.2 b true),true,!q2.1.1,()),()))))
def F155:Fn:=⟨[YR,au],[Vm,rB,rB],fun k x=>ais k x.1 x.2.1⟩
theorem ok155:O 155 F155:=okF (ah ok147 <| ah ok196 <| ah ok197 aj) [] On Tryz.func155 rfl
abbrev ait:Cut:=⟨[0,6],[.pin false 0,.cell .bool],[.fK 150 [cI,cI,.own 77 DZ,.own 96 uq,.cell .bool,.cell .bool,.cell .bool,.cell (.sl 94 qc),.own 3 (.int .i64),.own 4 .bool,.own 124 wh,.own 3 (.int .i64),.own 4 .bool,.own 82 FU]],55,[]⟩
def MJ (k:Nat) (t u:Int) (v:List ji) (w:List (PN Int 5)) (y z A:Bool) (B:List lg) (C:List Int) (D:List Bool) (G:List jr) (H:List Int) (I:List Bool) (J:List (PN Int 6)) (K:Bool):Option wm :=
 (bif K then
  (XV k t u v w y z A B C D G H I J (0,10,0,0,0,0)).bind fun (_,(a,b,c,e,f,_,h,i,l,m,n,o,p,s,_),_) =>
  some ((),(a,b,c,e,f,true,h,i,l,m,n,o,p,s,()),())
 else
  some ((),(t,u,v,w,y,z,A,B,C,D,G,H,I,J,()),()))
def aiu (k:Nat) (t f1:Int) (h1:List ji) (i1:List (PN Int 5)) (l1 m1 n1:Bool) (o1:List lg) (p1:List Int) (s1:List Bool) (t1:List jr) (u1:List Int) (v1:List Bool) (w1:List (PN Int 6)) (y1:adF):Option wm :=
 (XV k t f1 h1 i1 l1 m1 n1 o1 p1 s1 t1 u1 v1 w1 (0,5,y1.1,0,0,0)).bind fun (_,(a,b,c,e,f,h,i,l,m,n,o,p,s,u,_),_) =>
 (S30 k (a,b,c,e,f,h,i,l,((m,n),o),p,s)).bind fun q1 =>
 (aeM k q1.1.1 y1.1).bind fun q2 =>
 (aiq k a b c e f h i l m n o p s u q2.1.1).bind fun (_,(v,w,y,z,A,B,C,D,G,H,I,J,K,M,_),_) =>
 (ais k (J,K) y1.1).bind fun q4 =>
 (bif q4.1.2.1 then
  (XV k v w y z A B C D G H I q4.1.1.1 q4.1.1.2 M (0,9,y1.1,0,0,0)).bind fun (_,(N,O,P,Q,T,U,V,W,X,Z,a1,b1,c1,e1,_),_) =>
  MJ k N O P Q T U V W X Z a1 b1 c1 e1 q4.1.2.2.1
 else
  MJ k v w y z A B C D G H I q4.1.1.1 q4.1.1.2 M q4.1.2.2.1)
def F101:Fn:=⟨[alo,adM],[],fun k ((a,b,c,e,f,h,i,l,m,n,o,p,s,t,_),u,_)=>aiu k a b c e f h i l m n o p s t u⟩
theorem ok101:O 101 F101:=okF (ah ok30 <| ah ok39a <| ah ok100 <| ah ok154 <| ah ok155 aj) [] (fun k=>(.join 7 ait (fun (((a,b,c,e,f,h,i,l,m,n,o,p,s,t,_),_),_,u,_)=>MJ k a b c e f h i l m n o p s t u) .nil)) Tryz.func101 rfl
abbrev aeQ:Cut:=⟨[0,2,9,10,11],[.pin false 0,.own 94 qc,.cell (.sl 94 qc),cI,cI],[.fK 150 [cI,cI,.own 77 DZ,.own 96 uq,.cell .bool,.cell .bool,.cell .bool,.cell (.sl 94 qc),.own 3 (.int .i64),.own 4 .bool,.own 124 wh,.own 3 (.int .i64),.own 4 .bool,.own 82 FU]],57,[]⟩
def aac (k:Nat) (g2:Int -> Int -> (List ji) -> BZ -> Bool -> Bool -> Bool -> (List lg) -> (List Int) -> (List Bool) -> (List jr) -> (List Int) -> (List Bool) -> (List (PN Int 6)) -> (List lg) -> (List lg) -> Int -> Int -> Option wm) (M N:Int) (O:List ji) (P:List (PN Int 5)) (Q T U:Bool) (V:List lg) (W:List Int) (X:List Bool) (Z:List jr) (a1:List Int) (b1:List Bool) (c1:List (PN Int 6)) (e1 f1:List lg) (h1 i1:Int):Option wm :=
 (bif decide (i1<h1) then
  ix f1 i1 <|
  ix O (rd f1 i1 (0,0,0,0,(0,Pv (α:=Int) 8 0,[],false),(0,Pv (α:=Int) 8 0,[],false),[],false)).1 <|
  (bif (IntKind.i64.wrap (M - (rd f1 i1 (0,0,0,0,(0,Pv (α:=Int) 8 0,[],false),(0,Pv (α:=Int) 8 0,[],false),[],false)).2.1)) != (rd O (rd f1 i1 (0,0,0,0,(0,Pv (α:=Int) 8 0,[],false),(0,Pv (α:=Int) 8 0,[],false),[],false)).1 (0,0,0,[],[],[])).2.2.1 then
   ap e1 ([rd f1 i1 (0,0,0,0,(0,Pv (α:=Int) 8 0,[],false),(0,Pv (α:=Int) 8 0,[],false),[],false)]:List lg) 272 fun r0 =>
   g2 M N O P Q T U V W X Z a1 b1 c1 r0 f1 h1 (IntKind.i64.wrap (i1+1))
  else
   (bif (rd f1 i1 (0,0,0,0,(0,Pv (α:=Int) 8 0,[],false),(0,Pv (α:=Int) 8 0,[],false),[],false)).2.2.2.1==2 then
    (XV k M N O P Q T U V W X Z a1 b1 c1 (0,13,(rd f1 i1 (0,0,0,0,(0,Pv (α:=Int) 8 0,[],false),(0,Pv (α:=Int) 8 0,[],false),[],false)).1,0,0,0)).bind fun (_,(a,b,c,e,f,h,i,l,m,n,o,p,s,t,_),_) =>
    g2 a b c e f h i l m n o p s t e1 f1 h1 (IntKind.i64.wrap (i1+1))
   else
    (aiu k M N O P Q T U V W X Z a1 b1 c1 (rd f1 i1 (0,0,0,0,(0,Pv (α:=Int) 8 0,[],false),(0,Pv (α:=Int) 8 0,[],false),[],false))).bind fun (_,(u,v,w,y,z,A,B,C,D,G,H,I,J,K,_),_) =>
    g2 u v w y z A B C D G H I J K e1 f1 h1 (IntKind.i64.wrap (i1+1))))
 else
  some ((),(M,N,O,P,Q,T,U,e1,W,X,Z,a1,b1,c1,()),()))
def akA (k:Nat):Xx (((ahZ×Unit)×Unit×(List lg)×(List lg)×Int×Int×Unit) -> Option wm):=dh (bq (bq (ay (ay (ay (ay (ay (ay (ay (ay (ay (ay (ay (ay (ay (ay bg)))))))))))))) bg) (bf (ay (ay (ay (ay bg)))))) (aac k)
def aad (k a:Nat) (b c:Int) (e:List ji) (f:List (PN Int 5)) (h i l:Bool) (m:List lg) (n:List Int) (o:List Bool) (p:List jr) (s:List Int) (t:List Bool) (u:List (PN Int 6)) (v w:List lg) (y z:Int):Option wm:=iter aeQ (akA k) a (((b,c,e,f,h,i,l,m,n,o,p,s,t,u,()),()),(),v,w,y,z,())
theorem aae (k a b c e f h i l m n o p s t u v w y z):aad k (a+1) b c e f h i l m n o p s t u v w y z=aac k (aad k a) b c e f h i l m n o p s t u v w y z:=Ba _ _ _ _
def S56 (k:Nat) (a b:Int) (c:List ji) (e:List (PN Int 5)) (f h i:Bool) (l:List lg) (m:List Int) (n:List Bool) (o:List jr) (p:List Int) (s:List Bool) (t:List (PN Int 6)):Option wm :=
 aad k k a b c e f h i l m n o p s t ([]:List lg) l (l.length:Int) 0
def F56:Fn:=⟨[alp],[],fun k ((a,b,c,e,f,h,i,l,m,n,o,p,s,t,_),_)=>S56 k a b c e f h i l m n o p s t⟩
theorem ok56:O 56 F56:=okF (ah ok100 <| ah ok101 aj) [(2,2)] (fun k=>(.loop 2 aeQ (akA k) (fun g=>.nil) .nil)) Tryz.func56 rfl
abbrev aeR:Cut:=⟨[0,9,10],[.pin false 0,cI,cI],[.fK 150 [cI,cI,.own 77 DZ,.own 96 uq,.cell .bool,.cell .bool,.cell .bool,.own 94 qc,.own 3 (.int .i64),.own 4 .bool,.own 124 wh,.own 3 (.int .i64),.own 4 .bool,.own 82 FU]],48,[(8,3)]⟩
def aaf (k:Nat) (g1:Int -> Int -> (List ji) -> BZ -> Bool -> Bool -> Bool -> (List lg) -> (List Int) -> (List Bool) -> (List jr) -> (List Int) -> (List Bool) -> (List (PN Int 6)) -> Int -> Int -> Option wm) (a b:Int) (c:List ji) (e:List (PN Int 5)) (f h i:Bool) (l:List lg) (m:List Int) (n:List Bool) (o:List jr) (p:List Int) (s:List Bool) (t:List (PN Int 6)) (u v:Int):Option wm :=
 (bif decide (v<u) then
  ix l v <|
  (bif (rd l v (0,0,0,0,(0,Pv (α:=Int) 8 0,[],false),(0,Pv (α:=Int) 8 0,[],false),[],false)).2.2.2.1 != 2 then
   ix e (rd l v (0,0,0,0,(0,Pv (α:=Int) 8 0,[],false),(0,Pv (α:=Int) 8 0,[],false),[],false)).1 <|
   (bif decide ((IntKind.i64.wrap (a - (rd l v (0,0,0,0,(0,Pv (α:=Int) 8 0,[],false),(0,Pv (α:=Int) 8 0,[],false),[],false)).2.1))≥(rd e (rd l v (0,0,0,0,(0,Pv (α:=Int) 8 0,[],false),(0,Pv (α:=Int) 8 0,[],false),[],false)).1 (Pv (α:=Int) 5 0)).2.2.2.2) then
    ix l v <|
    let r0:List lg:=upd l v ((rd l v (0,0,0,0,(0,Pv (α:=Int) 8 0,[],false),(0,Pv (α:=Int) 8 0,[],false),[],false)).1,(rd l v (0,0,0,0,(0,Pv (α:=Int) 8 0,[],false),(0,Pv (α:=Int) 8 0,[],false),[],false)).2.1,(rd l v (0,0,0,0,(0,Pv (α:=Int) 8 0,[],false),(0,Pv (α:=Int) 8 0,[],false),[],false)).2.2.1,(rd l v (0,0,0,0,(0,Pv (α:=Int) 8 0,[],false),(0,Pv (α:=Int) 8 0,[],false),[],false)).2.2.2.1,(rd l v (0,0,0,0,(0,Pv (α:=Int) 8 0,[],false),(0,Pv (α:=Int) 8 0,[],false),[],false)).2.2.2.2.1,(rd l v (0,0,0,0,(0,Pv (α:=Int) 8 0,[],false),(0,Pv (α:=Int) 8 0,[],false),[],false)).2.2.2.2.2.1,(rd l v (0,0,0,0,(0,Pv (α:=Int) 8 0,[],false),(0,Pv (α:=Int) 8 0,[],false),[],false)).2.2.2.2.2.2.1,true)
    g1 a b c e f h i r0 m n o p s t u (IntKind.i64.wrap (v+1))
   else
    g1 a b c e f h i l m n o p s t u (IntKind.i64.wrap (v+1)))
  else
   g1 a b c e f h i l m n o p s t u (IntKind.i64.wrap (v+1)))
 else
  some ((),(a,b,c,e,f,h,i,l,m,n,o,p,s,t,()),()))
def akB (k:Nat):Xx (((ahZ×Unit)×Unit×Int×Int×Unit) -> Option wm):=dh (bq (bq (ay (ay (ay (ay (ay (ay (ay (ay (ay (ay (ay (ay (ay (ay bg)))))))))))))) bg) (bf (ay (ay bg)))) (aaf k)
def aag (k a:Nat) (b c:Int) (e:List ji) (f:List (PN Int 5)) (h i l:Bool) (m:List lg) (n:List Int) (o:List Bool) (p:List jr) (s:List Int) (t:List Bool) (u:List (PN Int 6)) (v w:Int):Option wm:=iter aeR (akB k) a (((b,c,e,f,h,i,l,m,n,o,p,s,t,u,()),()),(),v,w,())
theorem aah (k a b c e f h i l m n o p s t u v w):aag k (a+1) b c e f h i l m n o p s t u v w=aaf k (aag k a) b c e f h i l m n o p s t u v w:=Ba _ _ _ _
def S57 (k:Nat) (a b:Int) (c:List ji) (e:List (PN Int 5)) (f h i:Bool) (l:List lg) (m:List Int) (n:List Bool) (o:List jr) (p:List Int) (s:List Bool) (t:List (PN Int 6)):Option wm :=
 aag k k a b c e f h i l m n o p s t (l.length:Int) 0
def F57:Fn:=⟨[alp],[],fun k ((a,b,c,e,f,h,i,l,m,n,o,p,s,t,_),_)=>S57 k a b c e f h i l m n o p s t⟩
theorem ok57:O 57 F57:=okF aj [] (fun k=>(.loop 1 aeR (akB k) (fun g=>.nil) .nil)) Tryz.func57 rfl
def aom (k:Nat) (a:Int) (b:Int×Int):Option ((jr×Unit)×Unit) :=
 (bif a==1 then
  some (((a,b,(8,0),([],[]),(0,[]),0),()),())
 else
  some (((a,b,(0,0),([],[]),(0,[]),0),()),()))
def F156:Fn:=⟨[au,.val ⟨true,qh,false⟩],[.val ⟨true,wh,true⟩],fun k x=>aom k x.1 x.2.1⟩
theorem ok156:O 156 F156:=okF aj [] On Tryz.func156 rfl
def aon (k:Nat) (a:(List Int)×List Int):Option ((((List Int)×List Int)×(List Int)×Unit)×Unit) :=
 (VJ k a.2).bind fun q0 =>
 some ((([],[]),q0.1.1,()),())
def F198:Fn:=⟨[.val ⟨true,(.pair zx qd),false⟩],[.val ⟨true,(.pair zx qd),true⟩,SC],fun k x=>aon k x.1⟩
theorem ok198:O 198 F198:=okF (ah ok140 aj) [] On Tryz.func198 rfl
abbrev aai:Cut:=⟨[2,3,7,8,9],[.box 120 [.cell (.int .u32),.nil],.own 3 (.int .i64),.cell (.sl 297 E9),cI,cI],[],21,[]⟩
def alU (k:Nat) (g2:Int -> (List Int) -> p8 -> Int -> Int -> Option Vb) (x:Int) (a:List Int) (b:ku) (c e:Int):Option Vb :=
 (bif decide (e<c) then
  ix b e <|
  ap a ([(rd b e (0,0)).1]:List Int) 8 fun r0 =>
  g2 x r0 b c (IntKind.i64.wrap (e+1))
 else
  some (((x,[]),a,()),()))
def aeS (k:Nat):Xx (((Unit)×(Int×Unit×Unit)×(List Int)×p8×Int×Int×Unit) -> Option Vb):=dh (bf (bq (ay (bf bg)) (ay (ay (ay (ay bg)))))) (alU k)
def alV (k a:Nat) (x:Int) (b:List Int) (c:ku) (e f:Int):Option Vb:=iter aai (aeS k) a ((),(x,(),()),b,c,e,f,())
def aoo (k:Nat) (a:Int×List (Int×Int)):Option Vb :=
 alV k k 0 ([]:List Int) a.2 (a.2.length:Int) 0
def F199:Fn:=⟨[.val ⟨true,(.pair (.int .u32) (.sl 297 E9)),false⟩],[.val ⟨true,(.pair (.int .u32) (.sl 297 E9)),true⟩,SC],fun k x=>aoo k x.1⟩
theorem ok199:O 199 F199:=okF aj [(3,2)] (fun k=>(.loop 2 aai (aeS k) (fun g=>.nil) .nil)) Tryz.func199 rfl
def aop (k:Nat) (a:Int):Option nk :=
 (bif decide (a<0) then
  none
 else
  (bif decide ((IntKind.i64.wrap (a - 0))>0) then
   az ([]:List Int) (IntKind.i64.wrap (a - 0)) 8 0 fun r0 =>
   sx r0 0 0 <|
   some ((r0.take 0,()),())
  else
   some (([],()),())))
def F224:Fn:=⟨[.pv (.nil),au],[SC],fun k x=>aop k x.2.1⟩
theorem ok224:O 224 F224:=okF aj [(25,1)] On Tryz.func224 rfl
abbrev VW:Cut:=⟨[6,25,26,27],[.own 3 (.int .i64),.cell (.sl 27 qd),cI,cI],[],36,[]⟩
def aiv (k:Nat) (g11:(List Int) -> M7 -> Int -> Int -> Option nk) (a:List Int) (b:List (List Int)) (c e:Int):Option nk :=
 (bif decide (e<c) then
  ix b e <|
  ap a (rd b e []) 8 fun r1 =>
  g11 r1 b c (IntKind.i64.wrap (e+1))
 else
  some ((a,()),()))
def aaj (k:Nat):Xx (((Unit)×(List Int)×M7×Int×Int×Unit) -> Option nk):=dh (bf (ay (ay (ay (ay bg))))) (aiv k)
def aiw (k a:Nat) (b:List Int) (c:List (List Int)) (e f:Int):Option nk:=iter VW (aaj k) a ((),b,c,e,f,())
abbrev aak:Cut:=⟨[0,3,9,10,11],[.cell (.sl 27 qd),cI,.cell (.sl 27 qd),cI,cI],[],36,[]⟩
def alW (k:Nat) (g3:M7 -> Int -> M7 -> Int -> Int -> Option nk) (a:List (List Int)) (b:Int) (c:List (List Int)) (e f:Int):Option nk :=
 (bif decide (f<e) then
  ix c f <|
  (bif decide ((IntKind.i64.wrap (b+((rd c f []).length:Int)))<0) then
   none
  else
   g3 a (IntKind.i64.wrap (b+((rd c f []).length:Int))) c e (IntKind.i64.wrap (f+1)))
 else
  (aop k b).bind fun q0 =>
  aiw k k q0.1.1 a (a.length:Int) 0)
def aeT (k:Nat):Xx (((Unit)×M7×Int×M7×Int×Int×Unit) -> Option nk):=dh (bf (ay (ay (ay (ay (ay bg)))))) (alW k)
def alX (k a:Nat) (b:List (List Int)) (c:Int) (e:List (List Int)) (f h:Int):Option nk:=iter aak (aeT k) a ((),b,c,e,f,h,())
def aoq (k:Nat) (a:List (List Int)):Option nk :=
 alX k k a 0 a (a.length:Int) 0
def F200:Fn:=⟨[.val ⟨false,(.sl 27 qd),false⟩],[SC],fun k x=>aoq k x.1⟩
theorem ok200:O 200 F200:=okF (ah ok224 aj) [] (fun k=>(.loop 11 VW (aaj k) (fun g=>.nil) (.loop 3 aak (aeT k) (fun g=>.nil) .nil))) Tryz.func200 rfl
def aor (k:Nat) (x:Va):Option nk :=
 (aon k x.2.2.2.1).bind fun q0 =>
 (aoo k x.2.2.2.2.1).bind fun q1 =>
 (aoq k ([q0.1.2.1,q1.1.2.1]:List (List Int))).bind fun q2 =>
 some ((q2.1.1,()),())
def F157:Fn:=⟨[Vn],[SC],fun k x=>aor k x.1⟩
theorem ok157:O 157 F157:=okF (ah ok198 <| ah ok199 <| ah ok200 aj) [] On Tryz.func157 rfl
abbrev aix:Cut:=⟨[1,2,3,4,5,6,7,11,12,13],[.box 33 [.cell qd,.cell (.sl 4 .bool),.cell (.sl 124 wh)],.box 33 [.own 3 (.int .i64),.own 4 .bool,.own 124 wh],.own 3 (.int .i64),.own 27 qd,cI,.box 124 [cI,cI,cI,cI,cI,.cell zx,.cell qd,.cell (.int .u32),.cell (.sl 297 E9),.cell (.int .u32)],.box 124 [cI,cI,cI,cI,cI,.own 2 (.int .i64),.own 3 (.int .i64),.cell (.int .u32),.own 297 E9,.cell (.int .u32)],.cell (.sl 124 wh),cI,cI],[],61,[]⟩
def Y1 (k:Nat) (g3:adD) (a:List Int) (b:List Bool) (c:List jr) (e:List Int) (f:List Bool) (h:List jr) (i:List Int) (l:List (List Int)) (m x n o p s:Int) (t u:List Int) (v:Int) (w:ku) (y z A B C D:Int) (G H:List Int) (I:Int) (J:ku) (K:Int) (M:List jr) (N O:Int):Option Vd :=
 (alK k (z,(A,B),(C,D),(G,H),(I,J),K)).bind fun q4 =>
 ix h m <|
 ap i ([m]:List Int) 8 fun r5 =>
 (aor k (x,(n,o),(p,s),(t,u),(v,w),y)).bind fun q6 =>
 ap l ([q6.1.1]:List (List Int)) 24 fun r7 =>
 g3 a b c e f (upd h m q4.1.1) r5 r7 M N (IntKind.i64.wrap (O+1))
abbrev aal:Cut:=⟨[1,2,3,4,11,12,13],[.box 33 [.cell qd,.cell (.sl 4 .bool),.cell (.sl 124 wh)],.box 33 [.own 3 (.int .i64),.own 4 .bool,.own 124 wh],.own 3 (.int .i64),.own 27 qd,.cell (.sl 124 wh),cI,cI],[],61,[]⟩
def alY (k:Nat) (g3:adD) (a:List Int) (b:List Bool) (c:List jr) (e:List Int) (f:List Bool) (h:List jr) (i:List Int) (l:List (List Int)) (m:List jr) (n o:Int):Option Vd :=
 (bif decide (o<n) then
  ix m o <|
  (alD k ((a,b),c) o).bind fun q1 =>
  (bif !q1.1.1 then
   g3 a b c e f h i l m n (IntKind.i64.wrap (o+1))
  else
   (aif k (rd m o (0,(0,0),(0,0),([],[]),(0,[]),0))).bind fun q2 =>
   (bif (rd m o (0,(0,0),(0,0),([],[]),(0,[]),0)).2.2.2.2.2==q2.1.1 then
    g3 a b c e f h i l m n (IntKind.i64.wrap (o+1))
   else
    (aom k (rd m o (0,(0,0),(0,0),([],[]),(0,[]),0)).1 (rd m o (0,(0,0),(0,0),([],[]),(0,[]),0)).2.1).bind fun q3 =>
    (bif (rd m o (0,(0,0),(0,0),([],[]),(0,[]),0)).1==1 then
     Y1 k g3 a b c e f h i l o (rd m o (0,(0,0),(0,0),([],[]),(0,[]),0)).1 (rd m o (0,(0,0),(0,0),([],[]),(0,[]),0)).2.1.1 (rd m o (0,(0,0),(0,0),([],[]),(0,[]),0)).2.1.2 (rd m o (0,(0,0),(0,0),([],[]),(0,[]),0)).2.2.1.1 (rd m o (0,(0,0),(0,0),([],[]),(0,[]),0)).2.2.1.2 (rd m o (0,(0,0),(0,0),([],[]),(0,[]),0)).2.2.2.1.1 (rd m o (0,(0,0),(0,0),([],[]),(0,[]),0)).2.2.2.1.2 (rd m o (0,(0,0),(0,0),([],[]),(0,[]),0)).2.2.2.2.1.1 (rd m o (0,(0,0),(0,0),([],[]),(0,[]),0)).2.2.2.2.1.2 (rd m o (0,(0,0),(0,0),([],[]),(0,[]),0)).2.2.2.2.2 q3.1.1.1 q3.1.1.2.1.1 q3.1.1.2.1.2 (rd m o (0,(0,0),(0,0),([],[]),(0,[]),0)).2.2.1.1 q3.1.1.2.2.1.2 q3.1.1.2.2.2.1.1 q3.1.1.2.2.2.1.2 q3.1.1.2.2.2.2.1.1 q3.1.1.2.2.2.2.1.2 q3.1.1.2.2.2.2.2 m n o
    else
     Y1 k g3 a b c e f h i l o (rd m o (0,(0,0),(0,0),([],[]),(0,[]),0)).1 (rd m o (0,(0,0),(0,0),([],[]),(0,[]),0)).2.1.1 (rd m o (0,(0,0),(0,0),([],[]),(0,[]),0)).2.1.2 (rd m o (0,(0,0),(0,0),([],[]),(0,[]),0)).2.2.1.1 (rd m o (0,(0,0),(0,0),([],[]),(0,[]),0)).2.2.1.2 (rd m o (0,(0,0),(0,0),([],[]),(0,[]),0)).2.2.2.1.1 (rd m o (0,(0,0),(0,0),([],[]),(0,[]),0)).2.2.2.1.2 (rd m o (0,(0,0),(0,0),([],[]),(0,[]),0)).2.2.2.2.1.1 (rd m o (0,(0,0),(0,0),([],[]),(0,[]),0)).2.2.2.2.1.2 (rd m o (0,(0,0),(0,0),([],[]),(0,[]),0)).2.2.2.2.2 q3.1.1.1 q3.1.1.2.1.1 q3.1.1.2.1.2 q3.1.1.2.2.1.1 q3.1.1.2.2.1.2 q3.1.1.2.2.2.1.1 q3.1.1.2.2.2.1.2 q3.1.1.2.2.2.2.1.1 q3.1.1.2.2.2.2.1.2 q3.1.1.2.2.2.2.2 m n o)))
 else
  some ((((e,f),h),i,l,()),()))
def aeU (k:Nat):Xx (((Unit)×adG×adG×(List Int)×M7×(List jr)×Int×Int×Unit) -> Option Vd):=dh (bf (bq (ay (ay (ay bg))) (bq (ay (ay (ay bg))) (ay (ay (ay (ay (ay bg)))))))) (alY k)
def alZ (k a:Nat) (b:List Int) (c:List Bool) (e:List jr) (f:List Int) (h:List Bool) (i:List jr) (l:List Int) (m:List (List Int)) (n:List jr) (o p:Int):Option Vd:=iter aal (aeU k) a ((),(b,c,e,()),(f,h,i,()),l,m,n,o,p,())
def aiy (k:Nat) (a:FV×List jr):Option Vd :=
 (alC k a).bind fun q0 =>
 alZ k k a.1.1 a.1.2 a.2 q0.1.1.1.1 q0.1.1.1.2 q0.1.1.2 ([]:List Int) ([]:List (List Int)) a.2 (a.2.length:Int) 0
def F102:Fn:=⟨[adJ],[YT,SC,.val ⟨false,(.sl 27 qd),true⟩],fun k x=>aiy k x.1⟩
theorem ok102:O 102 F102:=okF (ah ok142 <| ah ok143 <| ah ok144 <| ah ok146 <| ah ok156 <| ah ok157 aj) [(3,2),(4,2)] (fun k=>(.loop 3 aal (aeU k) (fun g=>(fun (g3:adD)=>(.join 9 aix (fun (_,(a,b,c,_),(e,f,h,_),i,l,m,(n,o,p,s,t,u,v,w,y,z,_),(A,B,C,D,G,H,I,J,K,M,_),N,O,P,_)=>Y1 k g3 a b c e f h i l m n o p s t u v w y z A B C D G H I J K M N O P) .nil)) (fun t1 t2 t3 out aqp aqr places who t11 t12 t13=>g ((),(t1,t2,t3,()),(out,aqp,aqr,()),places,who,t11,t12,t13,()))) .nil)) Tryz.func102 rfl
def FY (k:Nat) (a b:Int) (c:List ji) (e:List (PN Int 5)) (f h i:Bool) (l:List lg) (m:List Int) (n:List Bool) (o:List jr) (p:List Int) (s:List Bool) (t:List (PN Int 6)) (u:PN Int 6):Option wm :=
 ap t ([(a,u.2)]:List (PN Int 6)) 48 fun r0 =>
 some ((),(a,b,c,e,f,h,i,l,m,n,o,p,s,r0,()),())
def F100a:Fn:=⟨[alp,.val ⟨true,FU,false⟩],[],fun k ((a,b,c,e,f,h,i,l,m,n,o,p,s,t,_),u,_)=>FY k a b c e f h i l m n o p s t u⟩
theorem ok100a:O 100 F100a:=okF aj [] On Tryz.func100 rfl
abbrev aam:Cut:=⟨[0,1,7,8],[.cell qd,cI,cI,cI],[],19,[]⟩
def al0 (k:Nat) (g2:(List Int) -> Int -> Int -> Int -> Option je) (a:List Int) (b c e:Int):Option je :=
 (bif decide (e<c) then
  ix a e <|
  (bif b==(rd a e 0) then
   some ((e,()),())
  else
   g2 a b c (IntKind.i64.wrap (e+1)))
 else
  some (((-1),()),()))
def aeV (k:Nat):Xx (((Unit)×(List Int)×Int×Int×Int×Unit) -> Option je):=dh (bf (ay (ay (ay (ay bg))))) (al0 k)
def al1 (k a:Nat) (b:List Int) (c e f:Int):Option je:=iter aam (aeV k) a ((),b,c,e,f,())
def aos (k:Nat) (a:List Int) (b:Int):Option je :=
 al1 k k a b (a.length:Int) 0
def F103:Fn:=⟨[alq,au],[rI],fun k x=>aos k x.1 x.2.1⟩
theorem ok103:O 103 F103:=okF aj [] (fun k=>(.loop 2 aam (aeV k) (fun g=>.nil) .nil)) Tryz.func103 rfl
end
end Go.Proofs.YtmmagcjlfcicfaaGreat.Ab
