import Derived.Test.YtmmagcjlfcicfaaGreatPbI
import Derived.Lib.Overlaps
import Derived.Shelf.RegionOpenPlain
import Derived.Test.YtmmagcjlfcicfaaGreatPbC
/- Contracts, printed by this session's own program gen.py. -/
set_option linter.unusedVariables false
set_option linter.unusedSimpArgs false
set_option maxRecDepth 100000
namespace Go.Proofs.YtmmagcjlfcicfaaGreat.Ab
open Go.RowKit
abbrev cI:PV:=.cell (.int .i64)
abbrev je:Type:=Int×Int×Int×(List (Int×Int×Int×Int))×(List (Int×Int×Int×Int))×List (Int×Int×Int×Int)
abbrev j5:Type:=Int×Int×Int×Int×(Int×(PN Int 8)×(List (Int×Int×Int))×Bool)×(Int×(PN Int 8)×(List (Int×Int×Int))×Bool)×(List Int)×Bool
abbrev qb:Ty:=.pair (.int .i64) (.pair (.int .i64) (.pair (.int .i64) (.pair (.int .i64) (.pair (.pair (.int .i64) (.pair (Am 8 (.int .i64)) (.pair (.sl 233 (.pair (.int .i64) (.pair (.int .i64) (.int .i64)))) .bool))) (.pair (.pair (.int .i64) (.pair (Am 8 (.int .i64)) (.pair (.sl 233 (.pair (.int .i64) (.pair (.int .i64) (.int .i64)))) .bool))) (.pair (.sl 3 (.int .i64)) .bool))))))
abbrev jl:Type:=Int×(Int×Int)×(Int×Int)×((List Int)×List Int)×(Int×List (Int×Int))×Int
abbrev D9:Ty:=.pair (.int .i64) (.pair (.int .i64) (.pair (.int .i64) (.pair (.sl 87 (.pair (.int .i64) (.pair (.int .i64) (.pair (.int .i64) (.int .i64))))) (.pair (.sl 87 (.pair (.int .i64) (.pair (.int .i64) (.pair (.int .i64) (.int .i64))))) (.sl 87 (.pair (.int .i64) (.pair (.int .i64) (.pair (.int .i64) (.int .i64)))))))))
abbrev uo:Ty:=.pair (.int .i64) (.pair (.pair (.int .i64) (.int .i64)) (.pair (.pair (.int .i64) (.int .i64)) (.pair (.pair (.sl 2 (.int .i64)) (.sl 3 (.int .i64))) (.pair (.pair (.int .u32) (.sl 297 (.pair (.int .i64) (.int .u32)))) (.int .u32)))))
abbrev afb:Type:=Int×Int×(List je)×(List (PN Int 5))×Bool×Bool×Bool×(List j5)×(List Int)×(List Bool)×(List jl)×(List Int)×(List Bool)×(List (PN Int 6))×Unit
abbrev W9:Type:=Int×Int×(List je)×(List (PN Int 5))×Bool×Bool×Bool×(List j5)×(((List Int)×List Bool)×List jl)×(List Int)×List Bool
abbrev jc:Type:=Int×Int×Int×Int
abbrev TD:Ty:=.pair (.int .i64) (.pair (.int .i64) (.pair (.int .i64) (.int .i64)))
abbrev DC:Type:=Int×Int×(List je)×(List (PN Int 5))×Bool×Bool×Bool×(List j5)×(List Int)×(List Bool)×(List jl)×(List Int)×(List Bool)×Unit
abbrev Xh:Ty:=.pair (.int .i64) (.pair (.int .i64) (.pair (.sl 77 D9) (.pair (.sl 96 (Am 5 (.int .i64))) (.pair .bool (.pair .bool (.pair .bool (.pair (.sl 94 qb) (.pair (.pair (.pair (.sl 3 (.int .i64)) (.sl 4 .bool)) (.sl 124 uo)) (.pair (.sl 3 (.int .i64)) (.sl 4 .bool))))))))))
abbrev pq:Type:=Int×Int×Int×Bool
abbrev jd:Type:=(Int×Unit)×Unit
abbrev jq:Type:=(Bool×Unit)×Unit
abbrev ng:Type:=((List Int)×Unit)×Unit
abbrev qg:Ty:=.pair (.int .i64) (.int .i64)
abbrev NA:Type:=(List jc) -> Int -> Int -> Int -> Int -> (List (Int×Int)) -> (List Int) -> (List Int) -> Int -> Int -> Option (((Int×Int×List (Int×Int))×Bool×Unit)×Unit)
abbrev Xi:Type:=((List Int)×List Bool)×List jl
abbrev JB:Type:=(List jc) -> (List Int) -> (List Int) -> (List pq) -> Int -> Option (((List Int)×Bool×Unit)×Unit)
abbrev AL:Ty:=.pair (.int .i64) (.pair (.int .i64) (.pair (.int .i64) .bool))
abbrev pz:Type:=List (Int×Int)
abbrev Xj:Type:=Int×Int×Unit×Unit×Bool×Bool×Bool×Unit×Unit×Unit×Unit×Unit×Unit×Unit
abbrev qc:Ty:=.sl 3 (.int .i64)
abbrev G8:Type:=((Int×Int×List (Int×Int))×Bool×Unit)×Unit
abbrev j3:Type:=List (Int×Int)
abbrev TF:Type:=Int×Int×(List je)×(List (PN Int 5))×Bool×Bool×Bool×(List j5)×Xi×(List Int)×List Bool
abbrev CS:Type:=((List Int)×Bool×Unit)×Unit
abbrev abv:Type:=(List Int) -> (List Bool) -> (List jl) -> (List Int) -> (List Bool) -> (List jl) -> (List Int) -> (List (List Int)) -> (List jl) -> Int -> Int -> Option ((Xi×(List Int)×(List (List Int))×Unit)×Unit)
abbrev zn:Type:=(Int×Bool×Unit)×Unit
abbrev uy:Type:=(Unit)×afb×Unit
abbrev TG:Type:=Int×(Int×Int)×(Int×Int)×((List Int)×List Int)×(Int×List (Int×Int))×Int
abbrev abw:Ty:=.pair qc (.sl 4 .bool)
abbrev sw:Ty:=Am 5 (.int .i64)
abbrev abx:Type:=Int×Int×Int×Int×(Int×(PN Int 8)×(List (Int×Int×Int))×Bool)×(Int×(PN Int 8)×(List (Int×Int×Int))×Bool)×(List Int)×Bool
abbrev ql:Type:=List pq
abbrev DF:Type:=((List jc)×Unit)×Unit
abbrev BG:Type:=List (PN Int 5)
abbrev oo:Ty:=.sl 87 TD
abbrev TH:Type:=((Int×List (Int×Int))×(List Int)×Unit)×Unit
abbrev TI:Type:=(Xi×(List Int)×(List (List Int))×Unit)×Unit
abbrev TJ:Type:=(((List Int)×Int×Int×List Int)×Unit)×Unit
abbrev DI:Ty:=.pair (.int .i64) (.int .u32)
abbrev G9:Type:=(W9×Int×Unit)×Unit
abbrev CU:Type:=(pz×Unit)×Unit
abbrev ahm:Type:=Int -> Int -> (List je) -> BG -> Bool -> Bool -> Bool -> (List j5) -> (List Int) -> (List Bool) -> (List jl) -> (List Int) -> (List Bool) -> Int -> Int -> Bool -> Bool -> Bool -> Int -> Int -> Option ((W9×Unit)×Unit)
abbrev KQ:Type:=(List jc) -> ql -> Int -> Option jq
abbrev NC:Type:=(List je) -> Int -> Int -> Int -> Option jd
abbrev TK:Type:=(List jc) -> ql -> (List Int) -> Int -> Option jq
abbrev TL:Type:=(List jc) -> (List Int) -> ql -> Int -> Option ng
abbrev aby:Type:=(List Int)×(List Bool)×(List jl)×Unit
abbrev abz:Type:=(List Int)×Int×Int×(List Int)×Unit
abbrev TM:Type:=((List je)×BG×Int×Unit)×Unit
abbrev zf:Ty:=.sl 2 (.int .i64)
abbrev EY:Ty:=Am 6 (.int .i64)
abbrev TN:Type:=Int -> (List Int) -> Int -> Int -> Option jd
abbrev ahn:Ty:=.pair abw (.sl 124 uo)
abbrev wo:Ty:=.sl 77 D9
abbrev EZ:Type:=(List Int)×List Bool
abbrev Xk:Type:=Int×Int×Int×(List jc)×(List jc)×List jc
abbrev TP:Type:=(Int×Int×Int×Unit)×Unit
abbrev Xl:Type:=Int×Unit
abbrev TQ:Type:=(List je) -> Int -> Int -> Option jd
abbrev Xm:Type:=(List jc) -> ql -> Int -> Int -> Option jq
abbrev KR:Type:=(W9×Unit)×Unit
abbrev KS:Type:=(Xi×Unit)×Unit
abbrev TR:Type:=(BG×Int×Unit)×Unit
abbrev KT:Type:=List (List Int)
abbrev F6:Ty:=.sl 114 qg
abbrev Xn:Type:=Int×Int×pz×Unit
abbrev akZ:Type:=(List Int)×Unit
abbrev ND:Type:=List (List jc)
abbrev aik:PT:=.fK 150 [cI,cI,.own 77 D9,.own 96 sw,.cell .bool,.cell .bool,.cell .bool,.cell (.sl 94 qb),.own 3 (.int .i64),.own 4 .bool,.own 124 uo,.own 3 (.int .i64),.own 4 .bool,.own 82 EY]
abbrev ail:PT:=.fK 150 [cI,cI,.own 77 D9,.own 96 sw,.cell .bool,.cell .bool,.cell .bool,.own 94 qb,.own 3 (.int .i64),.own 4 .bool,.own 124 uo,.own 3 (.int .i64),.own 4 .bool,.own 82 EY]
abbrev ak0:RT:=.val ⟨false,(.sl 96 sw),true⟩
abbrev ak1:PT:=.val ⟨false,(.sl 4 .bool),false⟩
abbrev KU:PT:=.val ⟨false,oo,false⟩
abbrev ain:PT:=.val ⟨false,qc,false⟩
abbrev PW:PT:=.val ⟨false,wo,false⟩
abbrev abA:PT:=.val ⟨false,F6,false⟩
abbrev PX:RT:=.val ⟨false,qc,true⟩
abbrev abB:PT:=.val ⟨true,ahn,false⟩
abbrev Xo:PT:=.val ⟨true,abw,false⟩
abbrev Xp:PT:=.val ⟨true,Xh,false⟩
abbrev TS:RT:=.val ⟨true,abw,true⟩
abbrev Xq:RT:=.val ⟨true,ahn,true⟩
abbrev abC:RT:=.val ⟨true,Xh,true⟩
abbrev abD:PT:=.val ⟨true,TD,false⟩
abbrev Xr:PT:=.val ⟨true,D9,false⟩
abbrev abE:PT:=.val ⟨true,qb,false⟩
abbrev TT:PT:=.val ⟨true,uo,false⟩
abbrev abF:PT:=.pv (.ref (.int .i64))
noncomputable section
def E0:Env:=tab.env (fun _=>none) (fun _=>0)
theorem FB:aH Tryz.prog E0:=Kr Qy _ _ (fun f F h=>by cases h)
theorem okF {f:FuncId} {fn:Func} {F:Fn} {C:Code} {l:List (Nat×Fn)} (hl:Gq Tryz.prog l) (h:List (Nat×Nat)) (T:Nat -> rW (RD F.rs×MD F.ps)) (hf:Tryz.prog.funcs[f]? = some fn) (hb:fn.body=some C)
(h1:(fn.name == "runtime.NumGoroutine")=false:=by kernel_rfl) (h2:Nat.ble F.ps.length fn.ntmps=true:=by kernel_rfl)
(h3:∀ k,Bv (tab.env (lk l) (Ra h)) fn F.ps F.rs k true (T k)=Bv (tab.env (lk l) (Ra h)) fn F.ps F.rs k false (T k):=by intro k;kernel_rfl) (h4:∀ k x,F.sem k x=Gm (tab.env (lk l) (Ra h)) fn F.ps F.rs k (T k) x:=by intro k x;kernel_rfl):uP Tryz.prog f F :=
Kn (Kr Qy _ _ (Dl hl)) mix hf hb h1 h2 h3 h4
def Xx (A:Type):Type:=A -> A
abbrev O (f:Nat) (F:Fn):Prop:=uP Tryz.prog f F
theorem ah {f:Nat} {F:Fn} {l:List (Nat×Fn)} (h:O f F) (t:Gq Tryz.prog l):Gq Tryz.prog ((f,F)::l):=⟨h,t⟩
theorem aj:Gq Tryz.prog []:=trivial
abbrev On {A:Type}:Nat -> rW A:=fun _=>.nil
abbrev au:PT:=.val ⟨false,.int .i64,false⟩
abbrev rI:RT:=.val ⟨false,.int .i64,true⟩
abbrev rB:RT:=.val ⟨false,.bool,true⟩
structure Iso (T R F:Type) where
 un:F -> T -> R
 cu:(T -> R) -> F
def ay {A T R F:Type} (s:Iso T R F):Iso (A×T) R (A -> F):=⟨fun f x=>s.un (f x.1) x.2,fun g a=>s.cu fun t=>g (a,t)⟩
def bf {T R F:Type} (s:Iso T R F):Iso (Unit×T) R F:=⟨fun f x=>s.un f x.2,fun g=>s.cu fun t=>g ((),t)⟩
def bg {R:Type}:Iso Unit R R:=⟨fun f _=>f,fun g=>g ()⟩
def bn {A R:Type}:Iso A R (A -> R):=⟨fun f=>f,fun g=>g⟩
def bq {S T R F G:Type} (a:Iso S F G) (b:Iso T R F):Iso (S×T) R G:=⟨fun f x=>b.un (a.un f x.1) x.2,fun g=>a.cu fun x=>b.cu fun t=>g (x,t)⟩
def dh {T R F:Type} (s:Iso T R F) (f:F -> F) (g:T -> R):T -> R:=s.un (f (s.cu g))
def ak2 (k:Nat) (a:Int):Option ((EZ×Unit)×Unit) :=
 mk (mn (mx a 0) 64) (mn (mx a 0) 64) 8 <|
 mk (mn (mx a 0) 64) (mn (mx a 0) 64) 1 <|
 some (((List.replicate (mn (mx a 0) 64).toNat (0:Int),List.replicate (mn (mx a 0) 64).toNat (false:Bool)),()),())
def F118:Fn:=⟨[au],[TS],fun k x=>ak2 k x.1⟩
theorem ok118:O 118 F118:=okF aj [] On Tryz.func118 rfl
def S64 (k:Nat):Option KS :=
 (ak2 k 12).bind fun q0 =>
 mk 12 12 128 <|
 some (((q0.1.1,List.replicate 12 ((0,(0,0),(0,0),([],[]),(0,[]),0):Int×(Int×Int)×(Int×Int)×((List Int)×List Int)×(Int×List (Int×Int))×Int)),()),())
def F64:Fn:=⟨[],[Xq],fun k x=>S64 k ⟩
theorem ok64:O 64 F64:=okF (ah ok118 aj) [] On Tryz.func64 rfl
def S65 (k:Nat) (a:Int):Option ((EZ×Unit)×Unit) :=
 mk (mn (mx a 0) 65536) (mn (mx a 0) 65536) 8 <|
 mk (mn (mx a 0) 65536) (mn (mx a 0) 65536) 1 <|
 some (((List.replicate (mn (mx a 0) 65536).toNat (0:Int),List.replicate (mn (mx a 0) 65536).toNat (false:Bool)),()),())
def F65:Fn:=⟨[au],[TS],fun k x=>S65 k x.1⟩
theorem ok65:O 65 F65:=okF aj [] On Tryz.func65 rfl
def S25 (k:Nat) (a:Int):Option ((W9×Bool×Unit)×Unit) :=
 (bif decide (a<1) then
  some (((0,0,[],[],false,false,false,[],(([],[]),[]),[],[]),false,()),())
 else
  (bif decide (a>4611686018427387904) then
   some (((0,0,[],[],false,false,false,[],(([],[]),[]),[],[]),false,()),())
  else
   (S64 k).bind fun q0 =>
   (S65 k 0).bind fun q1 =>
   some (((0,a,[],[],false,false,false,[],q0.1.1,q1.1.1),true,()),())))
def F25:Fn:=⟨[au],[abC,rB],fun k x=>S25 k x.1⟩
theorem ok25:O 25 F25:=okF (ah ok64 <| ah ok65 aj) [] On Tryz.func25 rfl
def I6 (k:Nat) (a b:Int):Option jq :=
 (bif decide (b≥0) then
  some ((decide (b<a),()),())
 else
  some ((false,()),()))
def F177:Fn:=⟨[.val ⟨true,(.int .i64),false⟩,au],[rB],fun k x=>I6 k x.1 x.2.1⟩
theorem ok177:O 177 F177:=okF aj [] On Tryz.func177 rfl
def abG (k:Nat) (a:Int×Int×Int×Int):Option jq :=
 (bif a.1==0 then
  (bif a.2.1==0 then
   (bif a.2.2.1==0 then
    some ((a.2.2.2==0,()),())
   else
    some ((false,()),()))
  else
   some ((false,()),()))
 else
  (bif a.1==11 then
   (bif a.2.1==0 then
    (bif a.2.2.1==0 then
     some ((a.2.2.2==0,()),())
    else
     some ((false,()),()))
   else
    some ((false,()),()))
  else
   (bif a.1==1 then
    (I6 k 8 a.2.1).bind fun q0 =>
    (bif q0.1.1 then
     (bif a.2.2.1==0 then
      (bif decide (a.2.2.2≥(-2147483648)) then
       some ((decide (a.2.2.2<2147483648),()),())
      else
       some ((false,()),()))
     else
      some ((false,()),()))
    else
     some ((false,()),()))
   else
    (bif a.1==2 then
     (I6 k 8 a.2.1).bind fun q1 =>
     (bif q1.1.1 then
      (I6 k 8 a.2.2.1).bind fun q2 =>
      (bif q2.1.1 then
       some ((a.2.2.2==0,()),())
      else
       some ((false,()),()))
     else
      some ((false,()),()))
    else
     (bif a.1==3 then
      (I6 k 8 a.2.1).bind fun q3 =>
      (bif q3.1.1 then
       (I6 k 8 a.2.2.1).bind fun q4 =>
       (bif q4.1.1 then
        some ((a.2.2.2==0,()),())
       else
        some ((false,()),()))
      else
       some ((false,()),()))
     else
      (bif a.1==4 then
       (I6 k 8 a.2.1).bind fun q5 =>
       (bif q5.1.1 then
        (I6 k 8 a.2.2.1).bind fun q6 =>
        (bif q6.1.1 then
         some ((a.2.2.2==0,()),())
        else
         some ((false,()),()))
       else
        some ((false,()),()))
      else
       (bif a.1==5 then
        (I6 k 8 a.2.1).bind fun q7 =>
        (bif q7.1.1 then
         (bif a.2.2.1==0 then
          (bif decide (a.2.2.2≥(-63)) then
           some ((decide (a.2.2.2 <= 63),()),())
          else
           some ((false,()),()))
         else
          some ((false,()),()))
        else
         some ((false,()),()))
       else
        (bif a.1==6 then
         (I6 k 8 a.2.1).bind fun q8 =>
         (bif q8.1.1 then
          (bif a.2.2.1==0 then
           (bif decide (a.2.2.2≥1) then
            some ((decide (a.2.2.2 <= 64),()),())
           else
            some ((false,()),()))
          else
           some ((false,()),()))
         else
          some ((false,()),()))
        else
         (bif a.1==7 then
          (I6 k 8 a.2.1).bind fun q9 =>
          (bif q9.1.1 then
           (bif a.2.2.1==0 then
            (bif decide (a.2.2.2≥1) then
             some ((decide (a.2.2.2 <= 24),()),())
            else
             some ((false,()),()))
           else
            some ((false,()),()))
          else
           some ((false,()),()))
         else
          (bif a.1==8 then
           (bif a.2.1==0 then
            (bif decide (a.2.2.1≥1) then
             (bif decide (a.2.2.1 <= 24) then
              (bif decide (a.2.2.2≥1) then
               some ((decide (a.2.2.2 <= 20),()),())
              else
               some ((false,()),()))
             else
              some ((false,()),()))
            else
             some ((false,()),()))
           else
            some ((false,()),()))
          else
           (bif a.1==9 then
            (bif decide (a.2.1≥0) then
             (bif decide (a.2.1<4) then
              (bif a.2.2.1==0 then
               some ((a.2.2.2==0,()),())
              else
               some ((false,()),()))
             else
              some ((false,()),()))
            else
             some ((false,()),()))
           else
            (bif a.1==10 then
             (bif decide (a.2.1≥0) then
              (bif decide (a.2.1<4) then
               (bif a.2.2.1==0 then
                some ((a.2.2.2==0,()),())
               else
                some ((false,()),()))
              else
               some ((false,()),()))
             else
              some ((false,()),()))
            else
             some ((false,()),())))))))))))))
def F129:Fn:=⟨[abD],[rB],fun k x=>abG k x.1⟩
theorem ok129:O 129 F129:=okF (ah ok177 aj) [] On Tryz.func129 rfl
abbrev Xt:Cut:=⟨[0,3,4],[.cell oo,.own 279 AL,cI],[],49,[]⟩
def PY (k:Nat) (g3:(List jc) -> ql -> Int -> Option ((ql×Unit)×Unit)) (a:List jc) (b:List pq) (c:Int):Option ((ql×Unit)×Unit) :=
 (bif decide (c<(a.length:Int)) then
  ix a c <|
  (bif (rd a c (0,0,0,0)).1==7 then
   ix a c <|
   ap b ([(IntKind.i64.wrap (c+1),IntKind.i64.wrap (c+(rd a c (0,0,0,0)).2.2.2),c,false)]:List pq) 32 fun r0 =>
   g3 a r0 (IntKind.i64.wrap (c+1))
  else
   (bif (rd a c (0,0,0,0)).1==8 then
    ix a c <|
    ap b ([(IntKind.i64.wrap (c+1),IntKind.i64.wrap (c+(rd a c (0,0,0,0)).2.2.1),c,true)]:List pq) 32 fun r1 =>
    g3 a r1 (IntKind.i64.wrap (c+1))
   else
    g3 a b (IntKind.i64.wrap (c+1))))
 else
  some ((b,()),()))
def abH (k:Nat):Xx (((Unit)×(List jc)×ql×Int×Unit) -> Option ((ql×Unit)×Unit)):=dh (bf (ay (ay (ay bg)))) (PY k)
def I7 (k a:Nat) (b:List jc) (c:List pq) (e:Int):Option ((ql×Unit)×Unit):=iter Xt (abH k) a ((),b,c,e,())
theorem TU (k a b c e):I7 k (a+1) b c e=PY k (I7 k a) b c e:=Ba _ _ _ _
def aaH (k:Nat) (a:List jc):Option ((ql×Unit)×Unit) :=
 I7 k k a ([]:List pq) 0
def F174:Fn:=⟨[KU],[.val ⟨false,(.sl 279 AL),true⟩],fun k x=>aaH k x.1⟩
theorem ok174:O 174 F174:=okF aj [(3,2)] (fun k=>(.loop 3 Xt (abH k) (fun g=>.nil) .nil)) Tryz.func174 rfl
def PZ (k:Nat) (a:Int×Int×Int×Bool) (b:Int):Option jq :=
 (bif decide (a.1 <= b) then
  some ((decide (b <= a.2.1),()),())
 else
  some ((false,()),()))
def F175:Fn:=⟨[.val ⟨true,AL,false⟩,au],[rB],fun k x=>PZ k x.1 x.2.1⟩
theorem ok175:O 175 F175:=okF aj [] On Tryz.func175 rfl
abbrev TV:Cut:=⟨[0,4,5,6,7,8],[.cell oo,.own 3 (.int .i64),.own 3 (.int .i64),.own 279 AL,cI,cI],[],117,[]⟩
def JY (k:Nat) (g5:JB) (g10:(List jc) -> (List Int) -> (List Int) -> ql -> Int -> Int -> Option CS) (a:List jc) (b c:List Int) (e:List pq) (f h:Int):Option CS :=
 (bif decide (h<(c.length:Int)) then
  ix c h <|
  ix a (rd c h 0) <|
  ix a f <|
  (bif (rd a (rd c h 0) (0,0,0,0)).2.1==(rd a f (0,0,0,0)).2.1 then
   some (([],false,()),())
  else
   g10 a b c e f (IntKind.i64.wrap (h+1)))
 else
  ap c ([f]:List Int) 8 fun r1 =>
  (bif decide ((r1.length:Int)>2) then
   some (([],false,()),())
  else
   g5 a b r1 e (IntKind.i64.wrap (f+1))))
def Xu (k:Nat) (g5:JB):Xx (((Unit)×(List jc)×(List Int)×(List Int)×ql×Int×Int×Unit) -> Option CS):=dh (bf (ay (ay (ay (ay (ay (ay bg))))))) (JY k g5)
def BR (k:Nat) (g5:JB) (a:Nat) (b:List jc) (c e:List Int) (f:List pq) (h i:Int):Option CS:=iter TV (Xu k g5) a ((),b,c,e,f,h,i,())
theorem NG (k g5 a b c e f h i):BR k g5 (a+1) b c e f h i=JY k g5 (BR k g5 a) b c e f h i:=Ba _ _ _ _
abbrev TW:Cut:=⟨[0,4,5,6,7,9,10],[.cell oo,.own 3 (.int .i64),.own 3 (.int .i64),.own 279 AL,cI,cI,cI],[],117,[]⟩
def JZ (k:Nat) (g5:JB) (g23:(List jc) -> (List Int) -> (List Int) -> ql -> Int -> Int -> Int -> Option CS) (a:List jc) (b c:List Int) (e:List pq) (f h i:Int):Option CS :=
 (bif decide (i<(e.length:Int)) then
  ix e i <|
  (PZ k (rd e i (0,0,0,false)) h).bind fun q2 =>
  ix e i <|
  (PZ k (rd e i (0,0,0,false)) f).bind fun q3 =>
  (bif !(q2.1.1==q3.1.1) then
   some (([],false,()),())
  else
   g23 a b c e f h (IntKind.i64.wrap (i+1)))
 else
  ix b h <|
  g5 a (upd b h f) c e (IntKind.i64.wrap (f+1)))
def Xv (k:Nat) (g5:JB):Xx (((Unit)×(List jc)×(List Int)×(List Int)×ql×Int×Int×Int×Unit) -> Option CS):=dh (bf (ay (ay (ay (ay (ay (ay (ay bg)))))))) (JZ k g5)
def BS (k:Nat) (g5:JB) (a:Nat) (b:List jc) (c e:List Int) (f:List pq) (h i l:Int):Option CS:=iter TW (Xv k g5) a ((),b,c,e,f,h,i,l,())
theorem NH (k g5 a b c e f h i l):BS k g5 (a+1) b c e f h i l=JZ k g5 (BS k g5 a) b c e f h i l:=Ba _ _ _ _
abbrev Xw:Cut:=⟨[0,4,5,6,7],[.cell oo,.own 3 (.int .i64),.own 3 (.int .i64),.own 279 AL,cI],[],117,[]⟩
def Q0 (k:Nat) (g5:JB) (a:List jc) (b c:List Int) (e:List pq) (f:Int):Option CS :=
 (bif decide (f<(a.length:Int)) then
  ix a f <|
  (bif (rd a f (0,0,0,0)).1==9 then
   BR k g5 k a b c e f 0
  else
   (bif (rd a f (0,0,0,0)).1==10 then
    (bif (c.length:Int)==0 then
     some (([],false,()),())
    else
     ix c (IntKind.i64.wrap ((c.length:Int) - 1)) <|
     ix a (rd c (IntKind.i64.wrap ((c.length:Int) - 1)) 0) <|
     ix a f <|
     (bif (rd a (rd c (IntKind.i64.wrap ((c.length:Int) - 1)) 0) (0,0,0,0)).2.1 != (rd a f (0,0,0,0)).2.1 then
      some (([],false,()),())
     else
      ix c (IntKind.i64.wrap ((c.length:Int) - 1)) <|
      sx c 0 (IntKind.i64.wrap ((c.length:Int) - 1)) <|
      BS k g5 k a b (c.take (IntKind.i64.wrap ((c.length:Int) - 1)).toNat) e f (rd c (IntKind.i64.wrap ((c.length:Int) - 1)) 0) 0))
   else
    g5 a b c e (IntKind.i64.wrap (f+1))))
 else
  (bif decide ((c.length:Int)>0) then
   some (([],false,()),())
  else
   some ((b,true,()),())))
def abI (k:Nat):Xx (((Unit)×(List jc)×(List Int)×(List Int)×ql×Int×Unit) -> Option CS):=dh (bf (ay (ay (ay (ay (ay bg)))))) (Q0 k)
def Q5 (k a:Nat) (b:List jc) (c e:List Int) (f:List pq) (h:Int):Option CS:=iter Xw (abI k) a ((),b,c,e,f,h,())
theorem TY (k a b c e f h):Q5 k (a+1) b c e f h=Q0 k (Q5 k a) b c e f h:=Ba _ _ _ _
def abJ (k:Nat) (a:List jc):Option CS :=
 mk (a.length:Int) (a.length:Int) 8 <|
 (aaH k a).bind fun q0 =>
 Q5 k k a (List.replicate (a.length:Int).toNat (0:Int)) ([]:List Int) q0.1.1 0
def F128:Fn:=⟨[KU],[PX,rB],fun k x=>abJ k x.1⟩
theorem ok128:O 128 F128:=okF (ah ok174 <| ah ok175 aj) [(5,2),(89,1)] (fun k=>(.loop 5 Xw (abI k) (fun g=>(fun (g5:JB)=>(.loop 10 TV (Xu k g5) (fun g=>.nil) (.loop 23 TW (Xv k g5) (fun g=>.nil) .nil))) (fun l_1 out open_ a i=>g ((),l_1,out,open_,a,i,()))) .nil)) Tryz.func128 rfl
abbrev Xy:Cut:=⟨[0,1,2,7,8],[.cell oo,.cell qc,cI,cI,cI],[],37,[]⟩
def Q6 (k:Nat) (g3:(List jc) -> (List Int) -> Int -> Int -> Int -> Option jd) (a:List jc) (b:List Int) (c e f:Int):Option jd :=
 (bif decide (f<(a.length:Int)) then
  ix a f <|
  (bif (rd a f (0,0,0,0)).1==9 then
   (bif decide (f<c) then
    ix b f <|
    (bif decide (c<(rd b f 0)) then
     g3 a b c (IntKind.i64.wrap (e+1)) (IntKind.i64.wrap (f+1))
    else
     g3 a b c e (IntKind.i64.wrap (f+1)))
   else
    g3 a b c e (IntKind.i64.wrap (f+1)))
  else
   g3 a b c e (IntKind.i64.wrap (f+1)))
 else
  some ((e,()),()))
def abK (k:Nat):Xx (((Unit)×(List jc)×(List Int)×Int×Int×Int×Unit) -> Option jd):=dh (bf (ay (ay (ay (ay (ay bg)))))) (Q6 k)
def Q7 (k a:Nat) (b:List jc) (c:List Int) (e f h:Int):Option jd:=iter Xy (abK k) a ((),b,c,e,f,h,())
theorem U0 (k a b c e f h):Q7 k (a+1) b c e f h=Q6 k (Q7 k a) b c e f h:=Ba _ _ _ _
def afc (k:Nat) (a:List jc) (b:List Int) (c:Int):Option jd :=
 Q7 k k a b c 0 0
def F176:Fn:=⟨[KU,ain,au],[rI],fun k (a,b,c,_)=>afc k a b c⟩
theorem ok176:O 176 F176:=okF aj [] (fun k=>(.loop 3 Xy (abK k) (fun g=>.nil) .nil)) Tryz.func176 rfl
abbrev abL:Cut:=⟨[0,4,5,6,7,8],[.cell oo,.own 279 AL,cI,cI,.cell .bool,.cell .bool],[],235,[]⟩
def BU (k:Nat) (g10:KQ) (g15:Xm) (a:List jc) (b:List pq) (c e:Int) (f h:Bool):Option jq :=
 (bif !f then
  (bif !h then
   some ((false,()),())
  else
   ix b c <|
   ix b e <|
   (PZ k (rd b c (0,0,0,false)) (rd b e (0,0,0,false)).2.2.1).bind fun q2 =>
   (bif q2.1.1 then
    ix b e <|
    ix b c <|
    (bif decide ((rd b e (0,0,0,false)).2.1>(rd b c (0,0,0,false)).2.1) then
     some ((false,()),())
    else
     g15 a b c (IntKind.i64.wrap (e+1)))
   else
    g15 a b c (IntKind.i64.wrap (e+1))))
 else
  ix b c <|
  ix b e <|
  (PZ k (rd b c (0,0,0,false)) (rd b e (0,0,0,false)).2.2.1).bind fun q3 =>
  (bif q3.1.1 then
   ix b e <|
   ix b c <|
   (bif decide ((rd b e (0,0,0,false)).2.1>(rd b c (0,0,0,false)).2.1) then
    some ((false,()),())
   else
    g15 a b c (IntKind.i64.wrap (e+1)))
  else
   g15 a b c (IntKind.i64.wrap (e+1))))
abbrev abM:Cut:=⟨[0,4,5,6,7],[.cell oo,.own 279 AL,cI,cI,.cell .bool],[],235,[]⟩
def K3 (k:Nat) (g10:KQ) (g15:Xm) (a:List jc) (b:List pq) (c e:Int) (f:Bool):Option jq :=
 ix b c <|
 ix b e <|
 (bif decide ((rd b c (0,0,0,false)).1 <= (rd b e (0,0,0,false)).1) then
  ix b e <|
  ix b c <|
  (bif decide ((rd b e (0,0,0,false)).2.1 <= (rd b c (0,0,0,false)).2.1) then
   BU k g10 g15 a b c e f true
  else
   ix b e <|
   ix b c <|
   (bif decide ((rd b e (0,0,0,false)).1 <= (rd b c (0,0,0,false)).1) then
    ix b c <|
    ix b e <|
    BU k g10 g15 a b c e f (decide ((rd b c (0,0,0,false)).2.1 <= (rd b e (0,0,0,false)).2.1))
   else
    BU k g10 g15 a b c e f false))
 else
  ix b e <|
  ix b c <|
  (bif decide ((rd b e (0,0,0,false)).1 <= (rd b c (0,0,0,false)).1) then
   ix b c <|
   ix b e <|
   BU k g10 g15 a b c e f (decide ((rd b c (0,0,0,false)).2.1 <= (rd b e (0,0,0,false)).2.1))
  else
   BU k g10 g15 a b c e f false))
abbrev U1:Cut:=⟨[0,4,5,6],[.cell oo,.own 279 AL,cI,cI],[],235,[]⟩
def K4 (k:Nat) (g10:KQ) (g15:Xm) (a:List jc) (b:List pq) (c e:Int):Option jq :=
 (bif decide (e<(b.length:Int)) then
  (bif c==e then
   g15 a b c (IntKind.i64.wrap (e+1))
  else
   ix b c <|
   ix b e <|
   (bif decide ((rd b c (0,0,0,false)).2.1<(rd b e (0,0,0,false)).1) then
    K3 k g10 g15 a b c e true
   else
    ix b e <|
    ix b c <|
    K3 k g10 g15 a b c e (decide ((rd b e (0,0,0,false)).2.1<(rd b c (0,0,0,false)).1))))
 else
  g10 a b (IntKind.i64.wrap (c+1)))
def Xz (k:Nat) (g10:KQ):Xx (((Unit)×(List jc)×ql×Int×Int×Unit) -> Option jq):=dh (bf (ay (ay (ay (ay bg))))) (K4 k g10)
def BX (k:Nat) (g10:KQ) (a:Nat) (b:List jc) (c:List pq) (e f:Int):Option jq:=iter U1 (Xz k g10) a ((),b,c,e,f,())
theorem NI (k g10 a b c e f):BX k g10 (a+1) b c e f=K4 k g10 (BX k g10 a) b c e f:=Ba _ _ _ _
abbrev U2:Cut:=⟨[0,4,9,11,12,13,14],[.cell oo,.own 279 AL,.own 3 (.int .i64),cI,cI,cI,cI],[],235,[]⟩
def K5 (k:Nat) (Q8:TK) (g30:(List jc) -> ql -> (List Int) -> Int -> Int -> Int -> Int -> Option jq) (a:List jc) (b:List pq) (c:List Int) (e f h i:Int):Option jq :=
 (bif decide (i<(b.length:Int)) then
  ix b i <|
  (PZ k (rd b i (0,0,0,false)) e).bind fun q5 =>
  (bif q5.1.1 then
   ix b i <|
   (bif (rd b i (0,0,0,false)).2.2.2 then
    g30 a b c e (IntKind.i64.wrap (f+1)) (IntKind.i64.wrap (h+1)) (IntKind.i64.wrap (i+1))
   else
    g30 a b c e f (IntKind.i64.wrap (h+1)) (IntKind.i64.wrap (i+1)))
  else
   g30 a b c e f h (IntKind.i64.wrap (i+1)))
 else
  (bif decide (f>2) then
   some ((false,()),())
  else
   ix a e <|
   (bif (rd a e (0,0,0,0)).1==11 then
    (bif decide (h>0) then
     some ((false,()),())
    else
     (afc k a c e).bind fun q6 =>
     (bif decide (q6.1.1>0) then
      some ((false,()),())
     else
      Q8 a b c (IntKind.i64.wrap (e+1))))
   else
    Q8 a b c (IntKind.i64.wrap (e+1)))))
def XA (k:Nat) (Q8:TK):Xx (((Unit)×(List jc)×ql×(List Int)×Int×Int×Int×Int×Unit) -> Option jq):=dh (bf (ay (ay (ay (ay (ay (ay (ay bg)))))))) (K5 k Q8)
def K6 (k:Nat) (Q8:TK) (a:Nat) (b:List jc) (c:List pq) (e:List Int) (f h i l:Int):Option jq:=iter U2 (XA k Q8) a ((),b,c,e,f,h,i,l,())
theorem NJ (k Q8 a b c e f h i l):K6 k Q8 (a+1) b c e f h i l=K5 k Q8 (K6 k Q8 a) b c e f h i l:=Ba _ _ _ _
abbrev U3:Cut:=⟨[0,4,9,11],[.cell oo,.own 279 AL,.own 3 (.int .i64),cI],[],235,[]⟩
def K7 (k:Nat) (Q8:TK) (a:List jc) (b:List pq) (c:List Int) (e:Int):Option jq :=
 (bif decide (e<(a.length:Int)) then
  K6 k Q8 k a b c e 0 0 0
 else
  some ((true,()),()))
def XB (k:Nat):Xx (((Unit)×(List jc)×ql×(List Int)×Int×Unit) -> Option jq):=dh (bf (ay (ay (ay (ay bg))))) (K7 k)
def BZ (k a:Nat) (b:List jc) (c:List pq) (e:List Int) (f:Int):Option jq:=iter U3 (XB k) a ((),b,c,e,f,())
theorem NK (k a b c e f):BZ k (a+1) b c e f=K7 k (BZ k a) b c e f:=Ba _ _ _ _
abbrev U4:Cut:=⟨[0,4,5],[.cell oo,.own 279 AL,cI],[],235,[]⟩
def K8 (k:Nat) (g10:KQ) (a:List jc) (b:List pq) (c:Int):Option jq :=
 (bif decide (c<(b.length:Int)) then
  ix b c <|
  (bif decide ((rd b c (0,0,0,false)).2.1≥(IntKind.i64.wrap ((a.length:Int) - 1))) then
   some ((false,()),())
  else
   BX k g10 k a b c 0)
 else
  (abJ k a).bind fun q4 =>
  (bif !q4.1.2.1 then
   some ((false,()),())
  else
   BZ k k a b q4.1.1 0))
def XC (k:Nat):Xx (((Unit)×(List jc)×ql×Int×Unit) -> Option jq):=dh (bf (ay (ay (ay bg)))) (K8 k)
def C8 (k a:Nat) (b:List jc) (c:List pq) (e:Int):Option jq:=iter U4 (XC k) a ((),b,c,e,())
theorem NM (k a b c e):C8 k (a+1) b c e=K8 k (C8 k a) b c e:=Ba _ _ _ _
abbrev XD:Cut:=⟨[0,3],[.cell oo,cI],[],235,[]⟩
def Q9 (k:Nat) (g4:(List jc) -> Int -> Option jq) (a:List jc) (b:Int):Option jq :=
 (bif decide (b<(a.length:Int)) then
  ix a b <|
  (abG k (rd a b (0,0,0,0))).bind fun q0 =>
  (bif !q0.1.1 then
   some ((false,()),())
  else
   ix a b <|
   (bif !(((rd a b (0,0,0,0)).1==0)==(b==(IntKind.i64.wrap ((a.length:Int) - 1)))) then
    some ((false,()),())
   else
    g4 a (IntKind.i64.wrap (b+1))))
 else
  (aaH k a).bind fun q1 =>
  C8 k k a q1.1.1 0)
def abN (k:Nat):Xx (((Unit)×(List jc)×Int×Unit) -> Option jq):=dh (bf (ay (ay bg))) (Q9 k)
def I8 (k a:Nat) (b:List jc) (c:Int):Option jq:=iter XD (abN k) a ((),b,c,())
theorem U5 (k a b c):I8 k (a+1) b c=Q9 k (I8 k a) b c:=Ba _ _ _ _
def afd (k:Nat) (a:List jc):Option jq :=
 (bif decide ((a.length:Int)<1) then
  some ((false,()),())
 else
  (bif decide ((a.length:Int)>24) then
   some ((false,()),())
  else
   I8 k k a 0))
def F126:Fn:=⟨[KU],[rB],fun k x=>afd k x.1⟩
theorem ok126:O 126 F126:=okF (ah ok128 <| ah ok129 <| ah ok174 <| ah ok175 <| ah ok176 aj) [] (fun k=>(.loop 26 U3 (XB k) (fun g=>(fun (Q8:TK)=>(.loop 30 U2 (XA k Q8) (fun g=>.nil) .nil)) (fun l_6 a4 pairs i5=>g ((),l_6,a4,pairs,i5,()))) (.loop 10 U4 (XC k) (fun g=>(fun (g10:KQ)=>(.loop 15 U1 (Xz k g10) (fun g=>(fun (g15:Xm)=>(.join 20 abL (fun (_,a,b,c,e,f,h,_)=>BU k g10 g15 a b c e f h) (.join 19 abM (fun (_,a,b,c,e,f,_)=>K3 k g10 g15 a b c e f) .nil))) (fun l_3 a1 i2 k_=>g ((),l_3,a1,i2,k_,()))) .nil)) (fun l_2 a i1=>g ((),l_2,a,i1,()))) (.loop 4 XD (abN k) (fun g=>.nil) .nil)))) Tryz.func126 rfl
abbrev XE:Cut:=⟨[0,3,4,5,6],[.cell oo,.own 2 (.int .i64),.own 279 AL,cI,cI],[],58,[]⟩
def QA (k:Nat) (g4:TL) (g8:(List jc) -> (List Int) -> ql -> Int -> Int -> Option ng) (a:List jc) (b:List Int) (c:List pq) (e f:Int):Option ng :=
 (bif decide (f<(c.length:Int)) then
  ix c f <|
  (bif (rd c f (0,0,0,false)).2.2.2 then
   ix c f <|
   (PZ k (rd c f (0,0,0,false)) e).bind fun q1 =>
   (bif q1.1.1 then
    ix b e <|
    ix c f <|
    ix a (rd c f (0,0,0,false)).2.2.1 <|
    ix b e <|
    g8 a (upd b e (IntKind.i64.wrap ((rd b e 0) * (rd a (rd c f (0,0,0,false)).2.2.1 (0,0,0,0)).2.2.2))) c e (IntKind.i64.wrap (f+1))
   else
    g8 a b c e (IntKind.i64.wrap (f+1)))
  else
   g8 a b c e (IntKind.i64.wrap (f+1)))
 else
  g4 a b c (IntKind.i64.wrap (e+1)))
def abO (k:Nat) (g4:TL):Xx (((Unit)×(List jc)×(List Int)×ql×Int×Int×Unit) -> Option ng):=dh (bf (ay (ay (ay (ay (ay bg)))))) (QA k g4)
def QB (k:Nat) (g4:TL) (a:Nat) (b:List jc) (c:List Int) (e:List pq) (f h:Int):Option ng:=iter XE (abO k g4) a ((),b,c,e,f,h,())
theorem U6 (k g4 a b c e f h):QB k g4 (a+1) b c e f h=QA k g4 (QB k g4 a) b c e f h:=Ba _ _ _ _
abbrev XF:Cut:=⟨[0,3,4,5],[.cell oo,.own 2 (.int .i64),.own 279 AL,cI],[],58,[]⟩
def QC (k:Nat) (g4:TL) (a:List jc) (b:List Int) (c:List pq) (e:Int):Option ng :=
 (bif decide (e<(a.length:Int)) then
  ix b e <|
  QB k g4 k a (upd b e 1) c e 0
 else
  some ((b,()),()))
def abP (k:Nat):Xx (((Unit)×(List jc)×(List Int)×ql×Int×Unit) -> Option ng):=dh (bf (ay (ay (ay (ay bg))))) (QC k)
def I9 (k a:Nat) (b:List jc) (c:List Int) (e:List pq) (f:Int):Option ng:=iter XF (abP k) a ((),b,c,e,f,())
theorem U7 (k a b c e f):I9 k (a+1) b c e f=QC k (I9 k a) b c e f:=Ba _ _ _ _
def afe (k:Nat) (a:List jc):Option ng :=
 mk (a.length:Int) (a.length:Int) 8 <|
 (aaH k a).bind fun q0 =>
 I9 k k a (List.replicate (a.length:Int).toNat (0:Int)) q0.1.1 0
def F127:Fn:=⟨[KU],[.val ⟨false,zf,true⟩],fun k x=>afe k x.1⟩
theorem ok127:O 127 F127:=okF (ah ok174 <| ah ok175 aj) [] (fun k=>(.loop 4 XF (abP k) (fun g=>(fun (g4:TL)=>(.loop 8 XE (abO k g4) (fun g=>.nil) .nil)) (fun l_1 out a i=>g ((),l_1,out,a,i,()))) .nil)) Tryz.func127 rfl
abbrev XG:Cut:=⟨[0,2,4,5,6,8,9,10,11],[.cell oo,.box 161 [cI,cI,.nil],.box 161 [cI,cI,.own 230 qg],.own 2 (.int .i64),.own 3 (.int .i64),cI,cI,cI,cI],[],103,[]⟩
def QD (k:Nat) (g8:NA) (g16:(List jc) -> Int -> Int -> Int -> Int -> pz -> (List Int) -> (List Int) -> Int -> Int -> Int -> Int -> Option G8) (a:List jc) (b c e f:Int) (h:j3) (i l:List Int) (m n o p:Int):Option G8 :=
 ix l n <|
 (bif decide (p <= (rd l n 0)) then
  ix i p <|
  g16 a b c e f h i l m n (IntKind.i64.wrap (o+(rd i p 0))) (IntKind.i64.wrap (p+1))
 else
  ix a n <|
  ix i n <|
  nz (rd i n 0) <|
  ap h ([((rd a n (0,0,0,0)).2.1,IntKind.i64.wrap (Int.tdiv o (rd i n 0)))]:List (Int×Int)) 16 fun r3 =>
  g8 a b c e f r3 i l m (IntKind.i64.wrap (n+1)))
def abQ (k:Nat) (g8:NA):Xx (((Unit)×(List jc)×(Int×Int×Unit×Unit)×Xn×(List Int)×(List Int)×Int×Int×Int×Int×Unit) -> Option G8):=dh (bf (ay (bq (ay (ay (bf bg))) (bq (ay (ay (ay bg))) (ay (ay (ay (ay (ay (ay bg)))))))))) (QD k g8)
def QE (k:Nat) (g8:NA) (a:Nat) (b:List jc) (c e f h:Int) (i:j3) (l m:List Int) (n o p s:Int):Option G8:=iter XG (abQ k g8) a ((),b,(c,e,(),()),(f,h,i,()),l,m,n,o,p,s,())
theorem U8 (k g8 a b c e f h i l m n o p s):QE k g8 (a+1) b c e f h i l m n o p s=QD k g8 (QE k g8 a) b c e f h i l m n o p s:=Ba _ _ _ _
abbrev aff:Cut:=⟨[0,2,4,5,6,8,9],[.cell oo,.box 161 [cI,cI,.nil],.box 161 [cI,cI,.own 230 qg],.own 2 (.int .i64),.own 3 (.int .i64),cI,cI],[],103,[]⟩
def KV (k:Nat) (g8:NA) (a:List jc) (b c e f:Int) (h:j3) (i l:List Int) (m n:Int):Option G8 :=
 ix a n <|
 (bif (rd a n (0,0,0,0)).1==9 then
  QE k g8 k a b c e f h i l m n 0 (IntKind.i64.wrap (n+1))
 else
  g8 a b c e f h i l m (IntKind.i64.wrap (n+1)))
abbrev abR:Cut:=⟨[0,2,4,5,6,8,9],[.cell oo,.box 161 [cI,cI,.nil],.box 161 [cI,cI,.own 230 qg],.own 2 (.int .i64),.own 3 (.int .i64),cI,cI],[],103,[]⟩
def XH (k:Nat) (g8:NA) (a:List jc) (b c e f:Int) (h:j3) (i l:List Int) (m n:Int):Option G8 :=
 (bif decide (n<(a.length:Int)) then
  ix i n <|
  ix i n <|
  ix a n <|
  (bif (rd a n (0,0,0,0)).1==11 then
   KV k g8 a b c (IntKind.i64.wrap (e+(rd i n 0))) (mx f (IntKind.i64.wrap (m+(rd i n 0)))) h i l 0 n
  else
   ix a n <|
   (bif (rd a n (0,0,0,0)).1==0 then
    KV k g8 a b c (IntKind.i64.wrap (e+(rd i n 0))) (mx f (IntKind.i64.wrap (m+(rd i n 0)))) h i l 0 n
   else
    KV k g8 a b c (IntKind.i64.wrap (e+(rd i n 0))) f h i l (IntKind.i64.wrap (m+(rd i n 0))) n))
 else
  some (((e,f,h),true,()),()))
def aho (k:Nat):Xx (((Unit)×(List jc)×(Int×Int×Unit×Unit)×Xn×(List Int)×(List Int)×Int×Int×Unit) -> Option G8):=dh (bf (ay (bq (ay (ay (bf bg))) (bq (ay (ay (ay bg))) (ay (ay (ay (ay bg)))))))) (XH k)
def U9 (k a:Nat) (b:List jc) (c e f h:Int) (i:j3) (l m:List Int) (n o:Int):Option G8:=iter abR (aho k) a ((),b,(c,e,(),()),(f,h,i,()),l,m,n,o,())
theorem XI (k a b c e f h i l m n o):U9 k (a+1) b c e f h i l m n o=XH k (U9 k a) b c e f h i l m n o:=Ba _ _ _ _
def S70 (k:Nat) (a:List jc):Option G8 :=
 (afd k a).bind fun q0 =>
 (bif !q0.1.1 then
  some (((0,0,[]),false,()),())
 else
  (afe k a).bind fun q1 =>
  (abJ k a).bind fun q2 =>
  U9 k k a 0 0 0 0 ([]:List (Int×Int)) q1.1.1 q2.1.1 0 0)
def F70:Fn:=⟨[KU],[.val ⟨true,(.pair (.int .i64) (.pair (.int .i64) (.sl 230 qg))),true⟩,rB],fun k x=>S70 k x.1⟩
theorem ok70:O 70 F70:=okF (ah ok126 <| ah ok127 <| ah ok128 aj) [(16,2)] (fun k=>(.loop 8 abR (aho k) (fun g=>(fun (g8:NA)=>(.loop 16 XG (abQ k g8) (fun g=>.nil) (.join 13 aff (fun (_,a,(b,c,_),(e,f,h,_),i,l,m,n,_)=>KV k g8 a b c e f h i l m n) .nil))) (fun l_1 t2 abS c c1 c2 t pairs piece i=>g ((),l_1,(t2,abS,(),()),(c,c1,c2,()),t,pairs,piece,i,()))) .nil)) Tryz.func70 rfl
abbrev XJ:Cut:=⟨[0,3],[.cell oo,cI],[],16,[]⟩
def QF (k:Nat) (g2:(List jc) -> Int -> Option jq) (a:List jc) (b:Int):Option jq :=
 (bif decide (b<(a.length:Int)) then
  ix a b <|
  (bif (rd a b (0,0,0,0)).1==9 then
   some ((true,()),())
  else
   g2 a (IntKind.i64.wrap (b+1)))
 else
  some ((false,()),()))
def abT (k:Nat):Xx (((Unit)×(List jc)×Int×Unit) -> Option jq):=dh (bf (ay (ay bg))) (QF k)
def IB (k a:Nat) (b:List jc) (c:Int):Option jq:=iter XJ (abT k) a ((),b,c,())
theorem Ug (k a b c):IB k (a+1) b c=QF k (IB k a) b c:=Ba _ _ _ _
def abU (k:Nat) (a:List jc):Option jq :=
 IB k k a 0
def F121:Fn:=⟨[KU],[rB],fun k x=>abU k x.1⟩
theorem ok121:O 121 F121:=okF aj [] (fun k=>(.loop 2 XJ (abT k) (fun g=>.nil) .nil)) Tryz.func121 rfl
def S68 (k:Nat) (a:Xk):Option jd :=
 (S70 k a.2.2.2.1).bind fun q0 =>
 (S70 k a.2.2.2.2.1).bind fun q1 =>
 (S70 k a.2.2.2.2.2).bind fun q2 =>
 (bif decide (a.1<0) then
  some ((1,()),())
 else
  (bif decide (a.1>63) then
   some ((1,()),())
  else
   (bif decide (a.2.1<1) then
    some ((9,()),())
   else
    (bif decide (a.2.1>16384) then
     some ((9,()),())
    else
     (bif decide (a.2.2.1<1) then
      some ((9,()),())
     else
      (bif decide (a.2.2.1>a.2.1) then
       some ((9,()),())
      else
       (bif !q0.1.2.1 then
        some ((2,()),())
       else
        (bif decide ((a.2.2.2.2.1.length:Int)>0) then
         (bif !q1.1.2.1 then
          some ((2,()),())
         else
          (bif decide ((a.2.2.2.2.2.length:Int)>0) then
           (bif !q2.1.2.1 then
            some ((2,()),())
           else
            (abU k a.2.2.2.2.2).bind fun q3 =>
            (bif q3.1.1 then
             some ((2,()),())
            else
             (bif decide (q0.1.1.1>a.2.2.1) then
              some ((10,()),())
             else
              (bif decide ((a.2.2.2.2.1.length:Int)>0) then
               (bif decide (q1.1.1.1>q0.1.1.1) then
                some ((12,()),())
               else
                some ((0,()),()))
              else
               some ((0,()),())))))
          else
           (bif decide (q0.1.1.1>a.2.2.1) then
            some ((10,()),())
           else
            (bif decide ((a.2.2.2.2.1.length:Int)>0) then
             (bif decide (q1.1.1.1>q0.1.1.1) then
              some ((12,()),())
             else
              some ((0,()),()))
            else
             some ((0,()),())))))
        else
         (bif decide ((a.2.2.2.2.2.length:Int)>0) then
          (bif !q2.1.2.1 then
           some ((2,()),())
          else
           (abU k a.2.2.2.2.2).bind fun q4 =>
           (bif q4.1.1 then
            some ((2,()),())
           else
            (bif decide (q0.1.1.1>a.2.2.1) then
             some ((10,()),())
            else
             (bif decide ((a.2.2.2.2.1.length:Int)>0) then
              (bif decide (q1.1.1.1>q0.1.1.1) then
               some ((12,()),())
              else
               some ((0,()),()))
             else
              some ((0,()),())))))
         else
          (bif decide (q0.1.1.1>a.2.2.1) then
           some ((10,()),())
          else
           (bif decide ((a.2.2.2.2.1.length:Int)>0) then
            (bif decide (q1.1.1.1>q0.1.1.1) then
             some ((12,()),())
            else
             some ((0,()),()))
           else
            some ((0,()),()))))))))))))
def F68:Fn:=⟨[Xr],[rI],fun k x=>S68 k x.1⟩
theorem ok68:O 68 F68:=okF (ah ok70 <| ah ok121 aj) [] On Tryz.func68 rfl
abbrev XK:Cut:=⟨[0,3],[.cell wo,cI],[],34,[]⟩
def QG (k:Nat) (g2:(List je) -> Int -> Option jq) (a:List je) (b:Int):Option jq :=
 (bif decide (b<(a.length:Int)) then
  ix a b <|
  (S68 k (rd a b (0,0,0,[],[],[]))).bind fun q0 =>
  (bif q0.1.1 != 0 then
   some ((false,()),())
  else
   (bif decide (b>0) then
    ix a b <|
    ix a (IntKind.i64.wrap (b - 1)) <|
    (bif decide ((rd a b (0,0,0,[],[],[])).1 <= (rd a (IntKind.i64.wrap (b - 1)) (0,0,0,[],[],[])).1) then
     some ((false,()),())
    else
     g2 a (IntKind.i64.wrap (b+1)))
   else
    g2 a (IntKind.i64.wrap (b+1))))
 else
  some ((true,()),()))
def abV (k:Nat):Xx (((Unit)×(List je)×Int×Unit) -> Option jq):=dh (bf (ay (ay bg))) (QG k)
def IC (k a:Nat) (b:List je) (c:Int):Option jq:=iter XK (abV k) a ((),b,c,())
theorem Uh (k a b c):IC k (a+1) b c=QG k (IC k a) b c:=Ba _ _ _ _
def abW (k:Nat) (a:List je):Option jq :=
 IC k k a 0
def F122:Fn:=⟨[PW],[rB],fun k x=>abW k x.1⟩
theorem ok122:O 122 F122:=okF (ah ok68 aj) [] (fun k=>(.loop 2 XK (abV k) (fun g=>.nil) .nil)) Tryz.func122 rfl
abbrev afg:Cut:=⟨[5,7,9],[.box 161 [cI,cI,.own 230 qg],.box 161 [cI,cI,.own 230 qg],cI],[],43,[]⟩
def QH (k:Nat) (a b:Int) (c:j3) (e f:Int) (h:j3) (i:Int):Option (Xn×Unit) :=
 ap ([]:List (Int×Int)) c 16 fun r3 =>
 ap r3 h 16 fun r4 =>
 some ((a,i,r4,()),())
def aaI (k:Nat) (a:Xk):Option (Xn×Unit) :=
 (S68 k a).bind fun q0 =>
 (bif q0.1.1 != 0 then
  some ((0,0,[],()),())
 else
  (S70 k a.2.2.2.1).bind fun q1 =>
  (S70 k a.2.2.2.2.1).bind fun q2 =>
  (bif decide ((a.2.2.2.2.1.length:Int)>0) then
   QH k q1.1.1.1 q1.1.1.2.1 q1.1.1.2.2 q2.1.1.1 q2.1.1.2.1 q2.1.1.2.2 q2.1.1.1
  else
   QH k q1.1.1.1 q1.1.1.2.1 q1.1.1.2.2 q2.1.1.1 q2.1.1.2.1 q2.1.1.2.2 q1.1.1.2.1))
def F124:Fn:=⟨[Xr],[rI,rI,.val ⟨false,(.sl 230 qg),true⟩],fun k x=>aaI k x.1⟩
theorem ok124:O 124 F124:=okF (ah ok68 <| ah ok70 aj) [] (fun k=>(.join 8 afg (fun (_,(a,b,c,_),(e,f,h,_),i,_)=>QH k a b c e f h i) .nil)) Tryz.func124 rfl
abbrev abX:Cut:=⟨[0,1,5,6,7],[.cell wo,cI,cI,.own 87 TD,cI],[],49,[]⟩
def XL (k:Nat) (g2:TQ) (g6:(List je) -> Int -> Int -> (List jc) -> Int -> Option jd) (a:List je) (b c:Int) (e:List jc) (f:Int):Option jd :=
 (bif decide (f<(e.length:Int)) then
  ix e f <|
  (bif (rd e f (0,0,0,0)).1==9 then
   ix e f <|
   (bif (rd e f (0,0,0,0)).2.1==b then
    some ((c,()),())
   else
    g6 a b c e (IntKind.i64.wrap (f+1)))
  else
   g6 a b c e (IntKind.i64.wrap (f+1)))
 else
  g2 a b (IntKind.i64.wrap (c+1)))
def ahq (k:Nat) (g2:TQ):Xx (((Unit)×(List je)×Int×Int×(List jc)×Int×Unit) -> Option jd):=dh (bf (ay (ay (ay (ay (ay bg)))))) (XL k g2)
def KW (k:Nat) (g2:TQ) (a:Nat) (b:List je) (c e:Int) (f:List jc) (h:Int):Option jd:=iter abX (ahq k g2) a ((),b,c,e,f,h,())
theorem XM (k g2 a b c e f h):KW k g2 (a+1) b c e f h=XL k g2 (KW k g2 a) b c e f h:=Ba _ _ _ _
abbrev abY:Cut:=⟨[0,1,5],[.cell wo,cI,cI],[],49,[]⟩
def XO (k:Nat) (g2:TQ) (a:List je) (b c:Int):Option jd :=
 (bif decide (c<(a.length:Int)) then
  ix a c <|
  ap ([]:List jc) (rd a c (0,0,0,[],[],[])).2.2.2.1 32 fun r0 =>
  ix a c <|
  ap r0 (rd a c (0,0,0,[],[],[])).2.2.2.2.1 32 fun r1 =>
  KW k g2 k a b c r1 0
 else
  some ((8,()),()))
def ahr (k:Nat):Xx (((Unit)×(List je)×Int×Int×Unit) -> Option jd):=dh (bf (ay (ay (ay bg)))) (XO k)
def XP (k a:Nat) (b:List je) (c e:Int):Option jd:=iter abY (ahr k) a ((),b,c,e,())
theorem XQ (k a b c e):XP k (a+1) b c e=XO k (XP k a) b c e:=Ba _ _ _ _
def S41 (k:Nat) (a:List je) (b:Int):Option jd :=
 XP k k a b 0
def F41:Fn:=⟨[PW,au],[rI],fun k x=>S41 k x.1 x.2.1⟩
theorem ok41:O 41 F41:=okF aj [] (fun k=>(.loop 2 abY (ahr k) (fun g=>(fun (g2:TQ)=>(.loop 6 abX (ahq k g2) (fun g=>.nil) .nil)) (fun l_1 s1 i=>g ((),l_1,s1,i,()))) .nil)) Tryz.func41 rfl
abbrev XR:Cut:=⟨[0,1,5,6,9,10],[.cell wo,cI,cI,cI,.own 230 qg,cI],[],52,[]⟩
def QI (k:Nat) (g3:NC) (g8:(List je) -> Int -> Int -> Int -> pz -> Int -> Option jd) (a:List je) (b c e:Int) (f:j3) (h:Int):Option jd :=
 (bif decide (h<(f.length:Int)) then
  ix f h <|
  (S41 k a (rd f h (0,0)).1).bind fun q1 =>
  (bif decide (q1.1.1 <= b) then
   ix f h <|
   g8 a b (mx c (rd f h (0,0)).2) e f (IntKind.i64.wrap (h+1))
  else
   g8 a b c e f (IntKind.i64.wrap (h+1)))
 else
  g3 a b c (IntKind.i64.wrap (e+1)))
def abZ (k:Nat) (g3:NC):Xx (((Unit)×(List je)×Int×Int×Int×pz×Int×Unit) -> Option jd):=dh (bf (ay (ay (ay (ay (ay (ay bg))))))) (QI k g3)
def QJ (k:Nat) (g3:NC) (a:Nat) (b:List je) (c e f:Int) (h:j3) (i:Int):Option jd:=iter XR (abZ k g3) a ((),b,c,e,f,h,i,())
theorem Ui (k g3 a b c e f h i):QJ k g3 (a+1) b c e f h i=QI k g3 (QJ k g3 a) b c e f h i:=Ba _ _ _ _
abbrev XT:Cut:=⟨[0,1,5,6],[.cell wo,cI,cI,cI],[],52,[]⟩
def QK (k:Nat) (g3:NC) (a:List je) (b c e:Int):Option jd :=
 (bif decide (e<(a.length:Int)) then
  (bif e==b then
   g3 a b c (IntKind.i64.wrap (e+1))
  else
   ix a e <|
   (aaI k (rd a e (0,0,0,[],[],[]))).bind fun q0 =>
   QJ k g3 k a b c e q0.1.2.2.1 0)
 else
  some ((c,()),()))
def ab0 (k:Nat):Xx (((Unit)×(List je)×Int×Int×Int×Unit) -> Option jd):=dh (bf (ay (ay (ay (ay bg))))) (QK k)
def QL (k a:Nat) (b:List je) (c e f:Int):Option jd:=iter XT (ab0 k) a ((),b,c,e,f,())
theorem Uj (k a b c e f):QL k (a+1) b c e f=QK k (QL k a) b c e f:=Ba _ _ _ _
def afh (k:Nat) (a:List je) (b:Int):Option jd :=
 QL k k a b 0 0
def F125:Fn:=⟨[PW,au],[rI],fun k x=>afh k x.1 x.2.1⟩
theorem ok125:O 125 F125:=okF (ah ok41 <| ah ok124 aj) [] (fun k=>(.loop 3 XT (ab0 k) (fun g=>(fun (g3:NC)=>(.loop 8 XR (abZ k g3) (fun g=>.nil) .nil)) (fun l_1 i1 most k_=>g ((),l_1,i1,most,k_,()))) .nil)) Tryz.func125 rfl
abbrev XU:Cut:=⟨[0,1,4,5,6],[.cell wo,cI,.box 272 [.nil,cI,cI,.nil],.box 272 [.own 2 (.int .i64),cI,cI,.own 2 (.int .i64)],cI],[],50,[]⟩
def QM (k:Nat) (g3:(List je) -> Int -> Int -> Int -> (List Int) -> Int -> Int -> (List Int) -> Int -> Option TJ) (a:List je) (b c e:Int) (x:List Int) (f h:Int) (i:List Int) (l:Int):Option TJ :=
 (bif decide (l <= b) then
  ix a l <|
  (aaI k (rd a l (0,0,0,[],[],[]))).bind fun q1 =>
  ap x ([q1.1.1]:List Int) 8 fun r2 =>
  ix a l <|
  ap i ([(rd a l (0,0,0,[],[],[])).2.1]:List Int) 8 fun r3 =>
  g3 a b c e r2 (mx f q1.1.2.1) h r3 (IntKind.i64.wrap (l+1))
 else
  some (((x,f,h,i),()),()))
def ab1 (k:Nat):Xx (((Unit)×(List je)×Int×(Unit×Int×Int×Unit×Unit)×abz×Int×Unit) -> Option TJ):=dh (bf (ay (ay (bq (bf (ay (ay (bf bg)))) (bq (ay (ay (ay (ay bg)))) (ay bg)))))) (QM k)
def QN (k a:Nat) (b:List je) (c e f:Int) (x:List Int) (h i:Int) (l:List Int) (m:Int):Option TJ:=iter XU (ab1 k) a ((),b,c,((),e,f,(),()),(x,h,i,l,()),m,())
theorem Uk (k a b c e f x h i l m):QN k (a+1) b c e f x h i l m=QM k (QN k a) b c e f x h i l m:=Ba _ _ _ _
def afi (k:Nat) (a:List je) (b:Int):Option TJ :=
 (afh k a b).bind fun q0 =>
 QN k k a b 0 0 ([]:List Int) 0 q0.1.1 ([]:List Int) 0
def F172:Fn:=⟨[PW,au],[.val ⟨true,(.pair zf (.pair (.int .i64) (.pair (.int .i64) zf))),true⟩],fun k x=>afi k x.1 x.2.1⟩
theorem ok172:O 172 F172:=okF (ah ok124 <| ah ok125 aj) [(13,2)] (fun k=>(.loop 3 XU (ab1 k) (fun g=>.nil) .nil)) Tryz.func172 rfl
def aaJ (k:Nat) (a b:Int):Option zn :=
 (bif decide (a>(IntKind.i64.wrap (9223372036854775807 - b))) then
  some ((0,false,()),())
 else
  some ((IntKind.i64.wrap (a+b),true,()),()))
def F218:Fn:=⟨[au,au],[rI,rB],fun k x=>aaJ k x.1 x.2.1⟩
theorem ok218:O 218 F218:=okF aj [] On Tryz.func218 rfl
def ab2 (k:Nat) (a b:Int):Option zn :=
 (bif decide (b<1) then
  some ((0,false,()),())
 else
  (bif decide (a<0) then
   some ((0,false,()),())
  else
   nz b <|
   nz b <|
   (bif decide ((Int.tmod a b)>0) then
    some ((IntKind.i64.wrap ((IntKind.i64.wrap (Int.tdiv a b))+1),true,()),())
   else
    some ((IntKind.i64.wrap (Int.tdiv a b),true,()),()))))
def F219:Fn:=⟨[au,au],[rI,rB],fun k x=>ab2 k x.1 x.2.1⟩
theorem ok219:O 219 F219:=okF aj [] On Tryz.func219 rfl
def ab3 (k:Nat) (a b:Int):Option zn :=
 (bif decide (a>0) then
  nz a <|
  (bif decide (b>(IntKind.i64.wrap (Int.tdiv 9223372036854775807 a))) then
   some ((0,false,()),())
  else
   some ((IntKind.i64.wrap (a * b),true,()),()))
 else
  some ((IntKind.i64.wrap (a * b),true,()),()))
def F220:Fn:=⟨[au,au],[rI,rB],fun k x=>ab3 k x.1 x.2.1⟩
theorem ok220:O 220 F220:=okF aj [] On Tryz.func220 rfl
abbrev XV:Cut:=⟨[2,3,8,9,10,15],[cI,.box 272 [.cell zf,cI,cI,.cell zf],cI,cI,.cell .bool,cI],[],94,[]⟩
def QO (k:Nat) (g9:Int -> (List Int) -> Int -> Int -> (List Int) -> Int -> Int -> Bool -> Int -> Option zn) (a:Int) (b:List Int) (c e:Int) (f:List Int) (h i:Int) (l:Bool) (m:Int):Option zn :=
 (bif decide (m<h) then
  (bif l then
   ix f m <|
   (ab2 k a (rd f m 0)).bind fun q4 =>
   ix b m <|
   (ab3 k q4.1.1 (rd b m 0)).bind fun q5 =>
   (bif q5.1.2.1 then
    (aaJ k i q5.1.1).bind fun q6 =>
    g9 a b c e f h q6.1.1 q6.1.2.1 (IntKind.i64.wrap (m+1))
   else
    g9 a b c e f h i q5.1.2.1 (IntKind.i64.wrap (m+1)))
  else
   some ((i,l,()),()))
 else
  some ((i,l,()),()))
def ab4 (k:Nat):Xx (((Unit)×Int×abz×Int×Int×Bool×Int×Unit) -> Option zn):=dh (bf (ay (bq (ay (ay (ay (ay bg)))) (ay (ay (ay (ay bg))))))) (QO k)
def KX (k a:Nat) (b:Int) (c:List Int) (e f:Int) (h:List Int) (i l:Int) (m:Bool) (n:Int):Option zn:=iter XV (ab4 k) a ((),b,(c,e,f,h,()),i,l,m,n,())
theorem Ul (k a b c e f h i l m n):KX k (a+1) b c e f h i l m n=QO k (KX k a) b c e f h i l m n:=Ba _ _ _ _
abbrev afj:Cut:=⟨[2,3,8,9,10,13],[cI,.box 272 [.cell zf,cI,cI,.cell zf],cI,cI,.cell .bool,cI],[],94,[]⟩
def QS (k:Nat) (a:Int) (b:List Int) (c e:Int) (f:List Int) (h i:Int) (l:Bool) (m:Int):Option zn :=
 (bif l then
  (aaJ k i m).bind fun q3 =>
  KX k k a b c e f h q3.1.1 q3.1.2.1 0
 else
  KX k k a b c e f h i l 0)
def afk (k:Nat) (x:(List Int)×Int×Int×List Int) (a b:Int):Option zn :=
 ix x.1 (IntKind.i64.wrap ((x.1.length:Int) - 1)) <|
 (aaJ k (rd x.1 (IntKind.i64.wrap ((x.1.length:Int) - 1)) 0) x.2.2.1).bind fun q0 =>
 (ab2 k b a).bind fun q1 =>
 (ab3 k q1.1.1 x.2.1).bind fun q2 =>
 (bif q0.1.2.1 then
  QS k b x.1 x.2.1 x.2.2.1 x.2.2.2 (IntKind.i64.wrap ((x.1.length:Int) - 1)) q0.1.1 q2.1.2.1 q2.1.1
 else
  QS k b x.1 x.2.1 x.2.2.1 x.2.2.2 (IntKind.i64.wrap ((x.1.length:Int) - 1)) q0.1.1 false q2.1.1)
def F173:Fn:=⟨[.val ⟨true,(.pair zf (.pair (.int .i64) (.pair (.int .i64) zf))),false⟩,au,au],[rI,rB],fun k (a,b,c,_)=>afk k a b c⟩
theorem ok173:O 173 F173:=okF (ah ok218 <| ah ok219 <| ah ok220 aj) [] (fun k=>(.loop 9 XV (ab4 k) (fun g=>.nil) (.join 6 afj (fun (_,a,(b,c,e,f,_),h,i,l,m,_)=>QS k a b c e f h i l m) .nil))) Tryz.func173 rfl
abbrev XW:Cut:=⟨[0,1,2,9,10,11],[.cell wo,cI,cI,.box 272 [.own 2 (.int .i64),cI,cI,.own 2 (.int .i64)],cI,cI],[],66,[]⟩
def Wd (k:Nat) (g7:(List je) -> Int -> Int -> (List Int) -> Int -> Int -> (List Int) -> Int -> Int -> Option TP) (a:List je) (b c:Int) (x:List Int) (e f:Int) (h:List Int) (i l:Int):Option TP :=
 (afk k (x,e,f,h) c i).bind fun q2 =>
 (bif !q2.1.2.1 then
  some ((0,0,13,()),())
 else
  ix a b <|
  (bif decide (q2.1.1>(rd a b (0,0,0,[],[],[])).2.2.1) then
   some ((0,0,14,()),())
  else
   (bif q2.1.1==i then
    some ((i,l,0,()),())
   else
    g7 a b c x e f h q2.1.1 (IntKind.i64.wrap (l+1)))))
def ab5 (k:Nat):Xx (((Unit)×(List je)×Int×Int×abz×Int×Int×Unit) -> Option TP):=dh (bf (ay (ay (ay (bq (ay (ay (ay (ay bg)))) (ay (ay bg))))))) (Wd k)
def QT (k a:Nat) (b:List je) (c e:Int) (x:List Int) (f h:Int) (i:List Int) (l m:Int):Option TP:=iter XW (ab5 k) a ((),b,c,e,(x,f,h,i,()),l,m,())
theorem ab6 (k a b c e x f h i l m):QT k (a+1) b c e x f h i l m=Wd k (QT k a) b c e x f h i l m:=Ba _ _ _ _
def afl (k:Nat) (a:List je) (b c:Int):Option TP :=
 (abW k a).bind fun q0 =>
 (bif !q0.1.1 then
  some ((0,0,1,()),())
 else
  (bif decide (b<0) then
   some ((0,0,1,()),())
  else
   (bif decide (b≥(a.length:Int)) then
    some ((0,0,1,()),())
   else
    (bif decide (c<1) then
     some ((0,0,1,()),())
    else
     (afi k a b).bind fun q1 =>
     ix q1.1.1.1 b <|
     QT k k a b c q1.1.1.1 q1.1.1.2.1 q1.1.1.2.2.1 q1.1.1.2.2.2 (IntKind.i64.wrap ((rd q1.1.1.1 b 0)+q1.1.1.2.2.1)) 1))))
def F123:Fn:=⟨[PW,au,au],[rI,rI,rI],fun k (a,b,c,_)=>afl k a b c⟩
theorem ok123:O 123 F123:=okF (ah ok122 <| ah ok172 <| ah ok173 aj) [] (fun k=>(.loop 7 XW (ab5 k) (fun g=>.nil) .nil)) Tryz.func123 rfl
abbrev ab7:Cut:=⟨[0,1,6,7],[.cell wo,cI,.own 96 sw,cI],[],65,[]⟩
def XY (k:Nat) (g5:(List je) -> Int -> BG -> Int -> Option TR) (a:List je) (b:Int) (c:List (PN Int 5)) (e:Int):Option TR :=
 (bif decide (e<(a.length:Int)) then
  (afl k a e b).bind fun q1 =>
  (bif q1.1.2.2.1 != 0 then
   some (([],q1.1.2.2.1,()),())
  else
   ix a e <|
   (aaI k (rd a e (0,0,0,[],[],[]))).bind fun q2 =>
   (afh k a e).bind fun q3 =>
   ix a e <|
   ap c ([(q2.1.1,q2.1.2.1,q3.1.1,q1.1.1,IntKind.i64.wrap ((rd a e (0,0,0,[],[],[])).2.2.1 - q1.1.1))]:List (PN Int 5)) 40 fun r4 =>
   g5 a b r4 (IntKind.i64.wrap (e+1)))
 else
  some ((c,0,()),()))
def ahs (k:Nat):Xx (((Unit)×(List je)×Int×BG×Int×Unit) -> Option TR):=dh (bf (ay (ay (ay (ay bg))))) (XY k)
def XZ (k a:Nat) (b:List je) (c:Int) (e:List (PN Int 5)) (f:Int):Option TR:=iter ab7 (ahs k) a ((),b,c,e,f,())
theorem Y0 (k a b c e f):XZ k (a+1) b c e f=XY k (XZ k a) b c e f:=Ba _ _ _ _
def S69 (k:Nat) (a:List je) (b:Int):Option TR :=
 (abW k a).bind fun q0 =>
 (bif !q0.1.1 then
  some (([],1,()),())
 else
  (bif decide (b<1) then
   some (([],1,()),())
  else
   XZ k k a b ([]:List (PN Int 5)) 0))
def F69:Fn:=⟨[PW,au],[ak0,rI],fun k x=>S69 k x.1 x.2.1⟩
theorem ok69:O 69 F69:=okF (ah ok122 <| ah ok123 <| ah ok124 <| ah ok125 aj) [(6,2)] (fun k=>(.loop 5 ab7 (ahs k) (fun g=>.nil) .nil)) Tryz.func69 rfl
abbrev ab8:Cut:=⟨[0,2,4,10,11],[.cell wo,cI,.box 77 [cI,cI,cI,.cell oo,.cell oo,.cell oo],cI,cI],[],69,[]⟩
def Y1 (k:Nat) (g6:(List je) -> Int -> Int -> Int -> Int -> (List jc) -> (List jc) -> (List jc) -> Int -> Int -> Option TM) (a:List je) (b c e f:Int) (h i l:List jc) (m n:Int):Option TM :=
 (bif decide (n<(a.length:Int)) then
  ix a n <|
  (bif (rd a n (0,0,0,[],[],[])).1==c then
   some (([],[],11,()),())
  else
   ix a n <|
   (bif decide ((rd a n (0,0,0,[],[],[])).1<c) then
    g6 a b c e f h i l (IntKind.i64.wrap (n+1)) (IntKind.i64.wrap (n+1))
   else
    g6 a b c e f h i l m (IntKind.i64.wrap (n+1))))
 else
  (bif decide ((a.length:Int)≥8) then
   some (([],[],4,()),())
  else
   sx a 0 m <|
   ap ([]:List je) (sub a 0 m) 96 fun r1 =>
   ap r1 ([(c,e,f,h,i,l)]:List je) 96 fun r2 =>
   sx a m (a.length:Int) <|
   ap r2 (sub a m (a.length:Int)) 96 fun r3 =>
   (S69 k r3 b).bind fun q4 =>
   (bif q4.1.2.1 != 0 then
    some (([],[],q4.1.2.1,()),())
   else
    some ((r3,q4.1.1,0,()),()))))
def aht (k:Nat):Xx (((Unit)×(List je)×Int×(Int×Int×Int×(List jc)×(List jc)×(List jc)×Unit)×Int×Int×Unit) -> Option TM):=dh (bf (ay (ay (bq (ay (ay (ay (ay (ay (ay bg)))))) (ay (ay bg)))))) (Y1 k)
def Y2 (k a:Nat) (b:List je) (c e f h:Int) (i l m:List jc) (n o:Int):Option TM:=iter ab8 (aht k) a ((),b,c,(e,f,h,i,l,m,()),n,o,())
theorem Y3 (k a b c e f h i l m n o):Y2 k (a+1) b c e f h i l m n o=Y1 k (Y2 k a) b c e f h i l m n o:=Ba _ _ _ _
def S28 (k:Nat) (a:List je) (b:Xk) (c:Int):Option TM :=
 (S68 k b).bind fun q0 =>
 (bif q0.1.1 != 0 then
  some (([],[],q0.1.1,()),())
 else
  Y2 k k a c b.1 b.2.1 b.2.2.1 b.2.2.2.1 b.2.2.2.2.1 b.2.2.2.2.2 0 0)
def F28:Fn:=⟨[PW,Xr,au],[.val ⟨false,wo,true⟩,ak0,rI],fun k (a,b,c,_)=>S28 k a b c⟩
theorem ok28:O 28 F28:=okF (ah ok68 <| ah ok69 aj) [] (fun k=>(.loop 6 ab8 (aht k) (fun g=>.nil) .nil)) Tryz.func28 rfl
def S77 (k:Nat) (a:List je):Option (((List je)×Unit)×Unit):=qR 96 77 D9 k (a,())
def F77:Fn:=⟨dJ 77 D9,iZ 77 D9,qR 96 77 D9⟩
theorem ok77:O 77 F77:=Ku FB mix Tryz.func77 rfl (by kernel_rfl) (by kernel_rfl) (fun k=>by kernel_rfl) (fun k xs=>by kernel_rfl) (fun k xs=>by kernel_rfl)
def S78 (k:Nat) (a:List (PN Int 5)):Option ((BG×Unit)×Unit):=qR 40 96 sw k (a,())
def F78:Fn:=⟨dJ 96 sw,iZ 96 sw,qR 40 96 sw⟩
theorem ok78:O 78 F78:=Ku FB mix Tryz.func78 rfl (by kernel_rfl) (by kernel_rfl) (fun k=>by kernel_rfl) (fun k xs=>by kernel_rfl) (fun k xs=>by kernel_rfl)
def S79 (k:Nat) (a:List j5):Option (((List j5)×Unit)×Unit):=qR 272 94 qb k (a,())
def F79:Fn:=⟨dJ 94 qb,iZ 94 qb,qR 272 94 qb⟩
theorem ok79:O 79 F79:=Ku FB mix Tryz.func79 rfl (by kernel_rfl) (by kernel_rfl) (fun k=>by kernel_rfl) (fun k xs=>by kernel_rfl) (fun k xs=>by kernel_rfl)
def S80 (k:Nat) (a:List jc):Option DF:=qR 32 87 TD k (a,())
def F80:Fn:=⟨dJ 87 TD,iZ 87 TD,qR 32 87 TD⟩
theorem ok80:O 80 F80:=Ku FB mix Tryz.func80 rfl (by kernel_rfl) (by kernel_rfl) (fun k=>by kernel_rfl) (fun k xs=>by kernel_rfl) (fun k xs=>by kernel_rfl)
def Wh (k:Nat) (a:List (Int×Int×Int)):Option (((List (Int×Int×Int))×Unit)×Unit):=qR 24 233 (.pair (.int .i64) qg) k (a,())
def F138:Fn:=⟨dJ 233 (.pair (.int .i64) qg),iZ 233 (.pair (.int .i64) qg),qR 24 233 (.pair (.int .i64) qg)⟩
theorem ok138:O 138 F138:=Ku FB mix Tryz.func138 rfl (by kernel_rfl) (by kernel_rfl) (fun k=>by kernel_rfl) (fun k xs=>by kernel_rfl) (fun k xs=>by kernel_rfl)
def Um (k:Nat) (a:List Int):Option ng:=qR 8 3 (.int .i64) k (a,())
def F140:Fn:=⟨dJ 3 (.int .i64),iZ 3 (.int .i64),qR 8 3 (.int .i64)⟩
theorem ok140:O 140 F140:=Ku FB mix Tryz.func140 rfl (by kernel_rfl) (by kernel_rfl) (fun k=>by kernel_rfl) (fun k xs=>by kernel_rfl) (fun k xs=>by kernel_rfl)
def aip (k:Nat) (a b:Int):Option jq :=
 some ((a==b,()),())
def F141:Fn:=⟨[au,abF],[rB],fun k x=>aip k x.1 x.2.1⟩
theorem ok141:O 141 F141:=okF aj [] On Tryz.func141 rfl
abbrev Y4:Cut:=⟨[0,1,7,8],[.cell qc,.lJ 141 [.ref (.int .i64)],cI,cI],[],19,[]⟩
def Wi (k:Nat) (g2:(List Int) -> Int -> Int -> Int -> Option jd) (a:List Int) (b c e:Int):Option jd :=
 (bif decide (e<c) then
  ix a e <|
  (aip k (rd a e 0) b).bind fun q0 =>
  (bif q0.1.1 then
   some ((e,()),())
  else
   g2 a b c (IntKind.i64.wrap (e+1)))
 else
  some (((-1),()),()))
def ab9 (k:Nat):Xx (((Unit)×(List Int)×Xl×Int×Int×Unit) -> Option jd):=dh (bf (ay (bq (ay bg) (ay (ay bg))))) (Wi k)
def Wj (k a:Nat) (b:List Int) (c e f:Int):Option jd:=iter Y4 (ab9 k) a ((),b,(c,()),e,f,())
theorem acd (k a b c e f):Wj k (a+1) b c e f=Wi k (Wj k a) b c e f:=Ba _ _ _ _
def aiq (k:Nat) (a:List Int) (b:Int):Option jd :=
 Wj k k a b (a.length:Int) 0
def F186:Fn:=⟨[ain,.pv (.lJ 141 [.ref (.int .i64)])],[rI],fun k x=>aiq k x.1 x.2.1.1⟩
theorem ok186:O 186 F186:=okF (ah ok141 aj) [] (fun k=>(.loop 2 Y4 (ab9 k) (fun g=>.nil) .nil)) Tryz.func186 rfl
abbrev Y5:Cut:=⟨[0,1,5,6],[.pin true 0,.lJ 141 [.ref (.int .i64)],cI,cI],[.fT 3 (.int .i64)],42,[]⟩
def air (k:Nat) (g5:(List Int) -> Int -> Int -> Int -> Option ng) (a:List Int) (b c e:Int):Option ng :=
 (bif decide (e<(a.length:Int)) then
  ix a e <|
  (aip k (rd a e 0) b).bind fun q1 =>
  (bif !q1.1.1 then
   ix a c <|
   g5 (upd a c (rd a e 0)) b (IntKind.i64.wrap (c+1)) (IntKind.i64.wrap (e+1))
  else
   g5 a b c (IntKind.i64.wrap (e+1)))
 else
  sx a c (a.length:Int) <|
  sx (Ue a c (a.length:Int) 0) 0 c <|
  some (((Ue a c (a.length:Int) 0).take c.toNat,()),()))
def ace (k:Nat):Xx ((akZ×Unit×Xl×Int×Int×Unit) -> Option ng):=dh (bq (ay bg) (bf (bq (ay bg) (ay (ay bg))))) (air k)
def ais (k a:Nat) (b:List Int) (c e f:Int):Option ng:=iter Y5 (ace k) a ((b,()),(),(c,()),e,f,())
def afm (k:Nat) (a:List Int) (b:Int):Option ng :=
 (aiq k a b).bind fun q0 =>
 (bif q0.1.1==(-1) then
  some ((a,()),())
 else
  ais k k a b q0.1.1 (IntKind.i64.wrap (q0.1.1+1)))
def F139:Fn:=⟨[.give 3 (.int .i64),.pv (.lJ 141 [.ref (.int .i64)])],[PX],fun k x=>afm k x.1 x.2.1.1⟩
theorem ok139:O 139 F139:=okF (ah ok141 <| ah ok186 aj) [(41,1)] (fun k=>(.loop 5 Y5 (ace k) (fun g=>.nil) .nil)) Tryz.func139 rfl
def S81 (k:Nat) (a:abx) (b:Int):Option ((j5×Unit)×Unit) :=
 (Wh k a.2.2.2.2.1.2.2.1).bind fun q0 =>
 (Wh k a.2.2.2.2.2.1.2.2.1).bind fun q1 =>
 (Um k a.2.2.2.2.2.2.1).bind fun q2 =>
 (afm k q2.1.1 b).bind fun q3 =>
 some (((a.1,a.2.1,a.2.2.1,a.2.2.2.1,(a.2.2.2.2.1.1,a.2.2.2.2.1.2.1,q0.1.1,a.2.2.2.2.1.2.2.2),(a.2.2.2.2.2.1.1,a.2.2.2.2.2.1.2.1,q1.1.1,a.2.2.2.2.2.1.2.2.2),q3.1.1,a.2.2.2.2.2.2.2),()),())
def F81:Fn:=⟨[abE,au],[.val ⟨true,qb,true⟩],fun k x=>S81 k x.1 x.2.1⟩
theorem ok81:O 81 F81:=okF (ah ok138 <| ah ok139 <| ah ok140 aj) [] On Tryz.func81 rfl
def afn (k:Nat) (a:List Bool):Option (((List Bool)×Unit)×Unit):=qR 1 4 .bool k (a,())
def F187:Fn:=⟨dJ 4 .bool,iZ 4 .bool,qR 1 4 .bool⟩
theorem ok187:O 187 F187:=Ku FB mix Tryz.func187 rfl (by kernel_rfl) (by kernel_rfl) (fun k=>by kernel_rfl) (fun k xs=>by kernel_rfl) (fun k xs=>by kernel_rfl)
def anf (k:Nat) (a:List Int):Option ng:=qR 8 2 (.int .i64) k (a,())
def F188:Fn:=⟨dJ 2 (.int .i64),iZ 2 (.int .i64),qR 8 2 (.int .i64)⟩
theorem ok188:O 188 F188:=Ku FB mix Tryz.func188 rfl (by kernel_rfl) (by kernel_rfl) (fun k=>by kernel_rfl) (fun k xs=>by kernel_rfl) (fun k xs=>by kernel_rfl)
def ang (k:Nat) (a:j3):Option CU:=qR 16 297 DI k (a,())
def F189:Fn:=⟨dJ 297 DI,iZ 297 DI,qR 16 297 DI⟩
theorem ok189:O 189 F189:=Ku FB mix Tryz.func189 rfl (by kernel_rfl) (by kernel_rfl) (fun k=>by kernel_rfl) (fun k xs=>by kernel_rfl) (fun k xs=>by kernel_rfl)
def ait (k:Nat) (x:TG):Option ((jl×Unit)×Unit) :=
 (anf k x.2.2.2.1.1).bind fun q0 =>
 (Um k x.2.2.2.1.2).bind fun q1 =>
 (ang k x.2.2.2.2.1.2).bind fun q2 =>
 some (((x.1,x.2.1,x.2.2.1,(q0.1.1,q1.1.1),(x.2.2.2.2.1.1,q2.1.1),x.2.2.2.2.2),()),())
def F145:Fn:=⟨[TT],[.val ⟨true,uo,true⟩],fun k x=>ait k x.1⟩
theorem ok145:O 145 F145:=okF (ah ok140 <| ah ok188 <| ah ok189 aj) [] On Tryz.func145 rfl
abbrev Y6:Cut:=⟨[2,3,17,18,19],[.box 33 [.nil,.nil,.nil],.box 33 [.own 3 (.int .i64),.own 4 .bool,.own 124 uo],.cell (.sl 124 uo),cI,cI],[],32,[]⟩
def aiu (k:Nat) (g3:(List Int) -> (List Bool) -> (List jl) -> (List jl) -> Int -> Int -> Option KS) (a:List Int) (b:List Bool) (c e:List jl) (f h:Int):Option KS :=
 (bif decide (h<f) then
  ix e h <|
  (ait k (rd e h (0,(0,0),(0,0),([],[]),(0,[]),0))).bind fun q2 =>
  ap c ([q2.1.1]:List jl) 128 fun r3 =>
  g3 a b r3 e f (IntKind.i64.wrap (h+1))
 else
  some ((((a,b),c),()),()))
def acf (k:Nat):Xx (((Unit)×(Unit×Unit×Unit×Unit)×aby×(List jl)×Int×Int×Unit) -> Option KS):=dh (bf (bq (bf (bf (bf bg))) (bq (ay (ay (ay bg))) (ay (ay (ay bg)))))) (aiu k)
def aiv (k a:Nat) (b:List Int) (c:List Bool) (e f:List jl) (h i:Int):Option KS:=iter Y6 (acf k) a ((),((),(),(),()),(b,c,e,()),f,h,i,())
def aiw (k:Nat) (a:EZ×List jl):Option KS :=
 (Um k a.1.1).bind fun q0 =>
 (afn k a.1.2).bind fun q1 =>
 aiv k k q0.1.1 q1.1.1 ([]:List jl) a.2 (a.2.length:Int) 0
def F142:Fn:=⟨[abB],[Xq],fun k x=>aiw k x.1⟩
theorem ok142:O 142 F142:=okF (ah ok140 <| ah ok145 <| ah ok187 aj) [(15,2)] (fun k=>(.loop 3 Y6 (acf k) (fun g=>.nil) .nil)) Tryz.func142 rfl
def aix (k:Nat) (a:EZ×List jl) (b:Int):Option jq :=
 (bif decide (b≥0) then
  (bif decide (b<(a.2.length:Int)) then
   ix a.2 b <|
   some (((rd a.2 b (0,(0,0),(0,0),([],[]),(0,[]),0)).1 != 0,()),())
  else
   some ((false,()),()))
 else
  some ((false,()),()))
def F143:Fn:=⟨[abB,au],[rB],fun k x=>aix k x.1 x.2.1⟩
theorem ok143:O 143 F143:=okF aj [] On Tryz.func143 rfl
abbrev Y7:Cut:=⟨[3,6,7,8,9,10],[.cell (.int .u32),.cell (.int .u64),cI,.cell zf,cI,cI],[],34,[]⟩
def aiy (k:Nat) (g3:TN) (g6:Int -> Int -> Int -> (List Int) -> Int -> Int -> Option jd) (a b c:Int) (e:List Int) (f h:Int):Option jd :=
 (bif decide (c<8) then
  g6 (Tq .u32 (Uf .u32 (Tm .u32 a 5) (Tn .u32 a 27)) (IntKind.u32.wrap (IntKind.u8.wrap b))) (Tn .u64 b 8) (IntKind.i64.wrap (c+1)) e f h
 else
  g3 a e f (IntKind.i64.wrap (h+1)))
def acg (k:Nat) (g3:TN):Xx (((Unit)×Int×Int×Int×(List Int)×Int×Int×Unit) -> Option jd):=dh (bf (ay (ay (ay (ay (ay (ay bg))))))) (aiy k g3)
def aiz (k:Nat) (g3:TN) (a:Nat) (b c e:Int) (f:List Int) (h i:Int):Option jd:=iter Y7 (acg k g3) a ((),b,c,e,f,h,i,())
abbrev Y8:Cut:=⟨[3,8,9,10],[.cell (.int .u32),.cell zf,cI,cI],[],34,[]⟩
def aiA (k:Nat) (g3:TN) (a:Int) (b:List Int) (c e:Int):Option jd :=
 (bif decide (e<c) then
  ix b e <|
  aiz k g3 k a (IntKind.u64.wrap (rd b e 0)) 0 b c e
 else
  some ((a,()),()))
def ach (k:Nat):Xx (((Unit)×Int×(List Int)×Int×Int×Unit) -> Option jd):=dh (bf (ay (ay (ay (ay bg))))) (aiA k)
def aiB (k a:Nat) (b:Int) (c:List Int) (e f:Int):Option jd:=iter Y8 (ach k) a ((),b,c,e,f,())
def ak5 (k:Nat) (a:List Int):Option jd :=
 aiB k k 2166136261 a (a.length:Int) 0
def F190:Fn:=⟨[.val ⟨false,zf,false⟩],[.val ⟨false,(.int .u32),true⟩],fun k x=>ak5 k x.1⟩
theorem ok190:O 190 F190:=okF aj [] (fun k=>(.loop 3 Y8 (ach k) (fun g=>(fun (g3:TN)=>(.loop 6 Y7 (acg k g3) (fun g=>.nil) .nil)) (fun h t8 t9 t10=>g ((),h,t8,t9,t10,()))) .nil)) Tryz.func190 rfl
abbrev Un:Cut:=⟨[3,61,62,63],[.own 2 (.int .i64),.cell (.sl 297 DI),cI,cI],[],78,[]⟩
def afo (k:Nat) (g11:(List Int) -> pz -> Int -> Int -> Option jd) (a:List Int) (b:j3) (c e:Int):Option jd :=
 (bif decide (e<c) then
  ix b e <|
  ap a ([(rd b e (0,0)).1,IntKind.i64.wrap (rd b e (0,0)).2]:List Int) 8 fun r4 =>
  g11 r4 b c (IntKind.i64.wrap (e+1))
 else
  (ak5 k a).bind fun q5 =>
  some ((q5.1.1,()),()))
def Y9 (k:Nat):Xx (((Unit)×(List Int)×pz×Int×Int×Unit) -> Option jd):=dh (bf (ay (ay (ay (ay bg))))) (afo k)
def afp (k a:Nat) (b:List Int) (c:j3) (e f:Int):Option jd:=iter Un (Y9 k) a ((),b,c,e,f,())
abbrev Ya:Cut:=⟨[1,3,41,42,43],[.box 124 [cI,cI,cI,cI,cI,.cell zf,.cell qc,.cell (.int .u32),.cell (.sl 297 DI),.cell (.int .u32)],.own 2 (.int .i64),.cell qc,cI,cI],[],78,[]⟩
def aiC (k:Nat) (g5:Int -> Int -> Int -> Int -> Int -> (List Int) -> (List Int) -> Int -> pz -> Int -> (List Int) -> (List Int) -> Int -> Int -> Option jd) (a b c e f:Int) (h i:List Int) (l:Int) (m:j3) (n:Int) (o p:List Int) (s t:Int):Option jd :=
 (bif decide (t<s) then
  ix p t <|
  ap o ([rd p t 0]:List Int) 8 fun r2 =>
  g5 a b c e f h i l m n r2 p s (IntKind.i64.wrap (t+1))
 else
  ap o ([IntKind.i64.wrap l]:List Int) 8 fun r3 =>
  afp k k r3 m (m.length:Int) 0)
def aci (k:Nat):Xx (((Unit)×(Int×Int×Int×Int×Int×(List Int)×(List Int)×Int×pz×Int×Unit)×(List Int)×(List Int)×Int×Int×Unit) -> Option jd):=dh (bf (bq (ay (ay (ay (ay (ay (ay (ay (ay (ay (ay bg)))))))))) (ay (ay (ay (ay bg)))))) (aiC k)
def aiD (k a:Nat) (b c e f h:Int) (i l:List Int) (m:Int) (n:j3) (o:Int) (p s:List Int) (t u:Int):Option jd:=iter Ya (aci k) a ((),(b,c,e,f,h,i,l,m,n,o,()),p,s,t,u,())
def afq (k:Nat) (x:TG):Option jd :=
 ap ([x.1,x.2.1.1,x.2.1.2,x.2.2.1.1,x.2.2.1.2,(x.2.2.2.1.1.length:Int)]:List Int) x.2.2.2.1.1 8 fun r0 =>
 ap r0 ([(x.2.2.2.1.2.length:Int)]:List Int) 8 fun r1 =>
 aiD k k x.1 x.2.1.1 x.2.1.2 x.2.2.1.1 x.2.2.1.2 x.2.2.2.1.1 x.2.2.2.1.2 x.2.2.2.2.1.1 x.2.2.2.2.1.2 x.2.2.2.2.2 r1 x.2.2.2.1.2 (x.2.2.2.1.2.length:Int) 0
def F146:Fn:=⟨[TT],[.val ⟨false,(.int .u32),true⟩],fun k x=>afq k x.1⟩
theorem ok146:O 146 F146:=okF (ah ok190 aj) [] (fun k=>(.loop 11 Un (Y9 k) (fun g=>.nil) (.loop 5 Ya (aci k) (fun g=>.nil) .nil))) Tryz.func146 rfl
def aiE (k:Nat) (x:TG):Option ((jl×Unit)×Unit) :=
 (afq k x).bind fun q0 =>
 some (((x.1,x.2.1,x.2.2.1,x.2.2.2.1,x.2.2.2.2.1,q0.1.1),()),())
def F144:Fn:=⟨[TT],[.val ⟨true,uo,false⟩],fun k x=>aiE k x.1⟩
theorem ok144:O 144 F144:=okF (ah ok146 aj) [] On Tryz.func144 rfl
def S82 (k:Nat) (a:EZ×List jl) (b:Int) (x:TG):Option KS :=
 (aiw k a).bind fun q0 =>
 (aix k a b).bind fun q1 =>
 (bif !q1.1.1 then
  some ((q0.1.1,()),())
 else
  ix a.2 b <|
  (ait k ((rd a.2 b (0,(0,0),(0,0),([],[]),(0,[]),0)).1,(rd a.2 b (0,(0,0),(0,0),([],[]),(0,[]),0)).2.1,x.2.2)).bind fun q2 =>
  (aiE k q2.1.1).bind fun q3 =>
  (afq k (rd a.2 b (0,(0,0),(0,0),([],[]),(0,[]),0))).bind fun q4 =>
  (bif (rd a.2 b (0,(0,0),(0,0),([],[]),(0,[]),0)).2.2.2.2.2 != q4.1.1 then
   ix q0.1.1.2 b <|
   some (((q0.1.1.1,upd q0.1.1.2 b (q3.1.1.1,q3.1.1.2.1,q3.1.1.2.2.1,q3.1.1.2.2.2.1,q3.1.1.2.2.2.2.1,Tt .u32 q3.1.1.2.2.2.2.2)),()),())
  else
   ix q0.1.1.2 b <|
   some (((q0.1.1.1,upd q0.1.1.2 b q3.1.1),()),())))
def F82:Fn:=⟨[abB,au,TT],[Xq],fun k (a,b,c,_)=>S82 k a b c⟩
theorem ok82:O 82 F82:=okF (ah ok142 <| ah ok143 <| ah ok144 <| ah ok145 <| ah ok146 aj) [] On Tryz.func82 rfl
def aaK (k:Nat) (a:(List Int)×List Bool):Option ((EZ×Unit)×Unit) :=
 (Um k a.1).bind fun q0 =>
 (afn k a.2).bind fun q1 =>
 some (((q0.1.1,q1.1.1),()),())
def F147:Fn:=⟨[Xo],[TS],fun k x=>aaK k x.1⟩
theorem ok147:O 147 F147:=okF (ah ok140 <| ah ok187 aj) [] On Tryz.func147 rfl
def S83 (k:Nat) (a:(List Int)×List Bool) (b:Int):Option ((EZ×Unit)×Unit) :=
 (aaK k a).bind fun q0 =>
 (bif decide (b≥0) then
  (bif decide (b<(q0.1.1.1.length:Int)) then
   ix q0.1.1.1 b <|
   some (((upd q0.1.1.1 b 0,q0.1.1.2),()),())
  else
   some ((q0.1.1,()),()))
 else
  some ((q0.1.1,()),()))
def F83:Fn:=⟨[Xo,au],[TS],fun k x=>S83 k x.1 x.2.1⟩
theorem ok83:O 83 F83:=okF (ah ok147 aj) [] On Tryz.func83 rfl
abbrev acj:Cut:=⟨[1,2,54,55],[.box 37 [cI,cI,.own 77 D9,.own 96 sw,.cell .bool,.cell .bool,.cell .bool,.own 94 qb,.cell qc,.cell (.sl 4 .bool),.cell (.sl 124 uo),.cell qc,.cell (.sl 4 .bool)],.box 37 [cI,cI,.nil,.nil,.cell .bool,.cell .bool,.cell .bool,.nil,.nil,.nil,.nil,.nil,.nil],cI,cI],[],77,[(53,3)]⟩
def Yb (k:Nat) (g8:ahm) (a b:Int) (c:List je) (e:List (PN Int 5)) (f h i:Bool) (l:List j5) (m:List Int) (n:List Bool) (o:List jl) (p:List Int) (s:List Bool) (t u:Int) (v w y:Bool) (z A:Int):Option KR :=
 (bif decide (A<z) then
  ix l A <|
  (S81 k (rd l A (0,0,0,0,(0,Pv (α:=Int) 8 0,[],false),(0,Pv (α:=Int) 8 0,[],false),[],false)) (-1)).bind fun q7 =>
  ix l A <|
  g8 a b c e f h i (upd l A q7.1.1) m n o p s t u v w y z (IntKind.i64.wrap (A+1))
 else
  (S82 k ((m,n),o) (-1) (0,(0,0),(0,0),([],[]),(0,[]),0)).bind fun q8 =>
  (S83 k (p,s) (-1)).bind fun q9 =>
  some (((a,b,c,e,f,h,i,l,q8.1.1,q9.1.1),()),()))
def ahu (k:Nat):Xx (((Unit)×DC×Xj×Int×Int×Unit) -> Option KR):=dh (bf (bq (ay (ay (ay (ay (ay (ay (ay (ay (ay (ay (ay (ay (ay bg))))))))))))) (bq (ay (ay (bf (bf (ay (ay (ay (bf (bf (bf (bf (bf (bf bg))))))))))))) (ay (ay bg))))) (Yb k)
def Yc (k a:Nat) (b c:Int) (e:List je) (f:List (PN Int 5)) (h i l:Bool) (m:List j5) (n:List Int) (o:List Bool) (p:List jl) (s:List Int) (t:List Bool) (u v:Int) (w y z:Bool) (A B:Int):Option KR:=iter acj (ahu k) a ((),(b,c,e,f,h,i,l,m,n,o,p,s,t,()),(u,v,(),(),w,y,z,(),(),(),(),(),(),()),A,B,())
theorem Yd (k a b c e f h i l m n o p s t u v w y z A B):Yc k (a+1) b c e f h i l m n o p s t u v w y z A B=Yb k (Yc k a) b c e f h i l m n o p s t u v w y z A B:=Ba _ _ _ _
abbrev acn:Cut:=⟨[1,2,21,22],[.box 37 [cI,cI,.own 77 D9,.own 96 sw,.cell .bool,.cell .bool,.cell .bool,.own 94 qb,.cell qc,.cell (.sl 4 .bool),.cell (.sl 124 uo),.cell qc,.cell (.sl 4 .bool)],.box 37 [cI,cI,.nil,.nil,.cell .bool,.cell .bool,.cell .bool,.nil,.nil,.nil,.nil,.nil,.nil],cI,cI],[],77,[(20,1)]⟩
def Ye (k:Nat) (g3:ahm) (a b:Int) (c:List je) (e:List (PN Int 5)) (f h i:Bool) (l:List j5) (m:List Int) (n:List Bool) (o:List jl) (p:List Int) (s:List Bool) (t u:Int) (v w y:Bool) (z A:Int):Option KR :=
 (bif decide (A<z) then
  ix c A <|
  (S80 k (rd c A (0,0,0,[],[],[])).2.2.2.1).bind fun q3 =>
  (S80 k (rd c A (0,0,0,[],[],[])).2.2.2.2.1).bind fun q4 =>
  (S80 k (rd c A (0,0,0,[],[],[])).2.2.2.2.2).bind fun q5 =>
  ix c A <|
  ix (upd c A ((rd c A (0,0,0,[],[],[])).1,(rd c A (0,0,0,[],[],[])).2.1,(rd c A (0,0,0,[],[],[])).2.2.1,q3.1.1,(rd c A (0,0,0,[],[],[])).2.2.2.2)) A <|
  let r6:List je:=upd (upd c A ((rd c A (0,0,0,[],[],[])).1,(rd c A (0,0,0,[],[],[])).2.1,(rd c A (0,0,0,[],[],[])).2.2.1,q3.1.1,(rd c A (0,0,0,[],[],[])).2.2.2.2)) A ((rd (upd c A ((rd c A (0,0,0,[],[],[])).1,(rd c A (0,0,0,[],[],[])).2.1,(rd c A (0,0,0,[],[],[])).2.2.1,q3.1.1,(rd c A (0,0,0,[],[],[])).2.2.2.2)) A (0,0,0,[],[],[])).1,(rd (upd c A ((rd c A (0,0,0,[],[],[])).1,(rd c A (0,0,0,[],[],[])).2.1,(rd c A (0,0,0,[],[],[])).2.2.1,q3.1.1,(rd c A (0,0,0,[],[],[])).2.2.2.2)) A (0,0,0,[],[],[])).2.1,(rd (upd c A ((rd c A (0,0,0,[],[],[])).1,(rd c A (0,0,0,[],[],[])).2.1,(rd c A (0,0,0,[],[],[])).2.2.1,q3.1.1,(rd c A (0,0,0,[],[],[])).2.2.2.2)) A (0,0,0,[],[],[])).2.2.1,(rd (upd c A ((rd c A (0,0,0,[],[],[])).1,(rd c A (0,0,0,[],[],[])).2.1,(rd c A (0,0,0,[],[],[])).2.2.1,q3.1.1,(rd c A (0,0,0,[],[],[])).2.2.2.2)) A (0,0,0,[],[],[])).2.2.2.1,q4.1.1,(rd (upd c A ((rd c A (0,0,0,[],[],[])).1,(rd c A (0,0,0,[],[],[])).2.1,(rd c A (0,0,0,[],[],[])).2.2.1,q3.1.1,(rd c A (0,0,0,[],[],[])).2.2.2.2)) A (0,0,0,[],[],[])).2.2.2.2.2)
  ix r6 A <|
  g3 a b (upd r6 A ((rd r6 A (0,0,0,[],[],[])).1,(rd r6 A (0,0,0,[],[],[])).2.1,(rd r6 A (0,0,0,[],[],[])).2.2.1,(rd r6 A (0,0,0,[],[],[])).2.2.2.1,(rd r6 A (0,0,0,[],[],[])).2.2.2.2.1,q5.1.1)) e f h i l m n o p s t u v w y z (IntKind.i64.wrap (A+1))
 else
  Yc k k a b c e f h i l m n o p s t u v w y (l.length:Int) 0)
def ahv (k:Nat):Xx (((Unit)×DC×Xj×Int×Int×Unit) -> Option KR):=dh (bf (bq (ay (ay (ay (ay (ay (ay (ay (ay (ay (ay (ay (ay (ay bg))))))))))))) (bq (ay (ay (bf (bf (ay (ay (ay (bf (bf (bf (bf (bf (bf bg))))))))))))) (ay (ay bg))))) (Ye k)
def Yf (k a:Nat) (b c:Int) (e:List je) (f:List (PN Int 5)) (h i l:Bool) (m:List j5) (n:List Int) (o:List Bool) (p:List jl) (s:List Int) (t:List Bool) (u v:Int) (w y z:Bool) (A B:Int):Option KR:=iter acn (ahv k) a ((),(b,c,e,f,h,i,l,m,n,o,p,s,t,()),(u,v,(),(),w,y,z,(),(),(),(),(),(),()),A,B,())
theorem Yg (k a b c e f h i l m n o p s t u v w y z A B):Yf k (a+1) b c e f h i l m n o p s t u v w y z A B=Ye k (Yf k a) b c e f h i l m n o p s t u v w y z A B:=Ba _ _ _ _
def S34 (k:Nat) (a:TF):Option KR :=
 (S77 k a.2.2.1).bind fun q0 =>
 (S78 k a.2.2.2.1).bind fun q1 =>
 (S79 k a.2.2.2.2.2.2.2.1).bind fun q2 =>
 Yf k k a.1 a.2.1 q0.1.1 q1.1.1 a.2.2.2.2.1 a.2.2.2.2.2.1 a.2.2.2.2.2.2.1 q2.1.1 a.2.2.2.2.2.2.2.2.1.1.1 a.2.2.2.2.2.2.2.2.1.1.2 a.2.2.2.2.2.2.2.2.1.2 a.2.2.2.2.2.2.2.2.2.1 a.2.2.2.2.2.2.2.2.2.2 0 0 false false false (q0.1.1.length:Int) 0
def F34:Fn:=⟨[Xp],[abC],fun k x=>S34 k x.1⟩
theorem ok34:O 34 F34:=okF (ah ok77 <| ah ok78 <| ah ok79 <| ah ok80 <| ah ok81 <| ah ok82 <| ah ok83 aj) [] (fun k=>(.loop 8 acj (ahu k) (fun g=>.nil) (.loop 3 acn (ahv k) (fun g=>.nil) .nil))) Tryz.func34 rfl
abbrev aco:Cut:=⟨[2,6,7,8],[.own 3 (.int .i64),.cell (.sl 124 uo),cI,cI],[],22,[]⟩
def ak6 (k:Nat) (g2:(List Int) -> (List jl) -> Int -> Int -> Option ng) (a:List Int) (b:List jl) (c e:Int):Option ng :=
 (bif decide (e<c) then
  ix b e <|
  (bif (rd b e (0,(0,0),(0,0),([],[]),(0,[]),0)).1==1 then
   ap a ([e]:List Int) 8 fun r0 =>
   g2 r0 b c (IntKind.i64.wrap (e+1))
  else
   g2 a b c (IntKind.i64.wrap (e+1)))
 else
  some ((a,()),()))
def ahw (k:Nat):Xx (((Unit)×(List Int)×(List jl)×Int×Int×Unit) -> Option ng):=dh (bf (ay (ay (ay (ay bg))))) (ak6 k)
def ak7 (k a:Nat) (b:List Int) (c:List jl) (e f:Int):Option ng:=iter aco (ahw k) a ((),b,c,e,f,())
def S73 (k:Nat) (a:EZ×List jl):Option ng :=
 ak7 k k ([]:List Int) a.2 (a.2.length:Int) 0
def F73:Fn:=⟨[abB],[PX],fun k x=>S73 k x.1⟩
theorem ok73:O 73 F73:=okF aj [(2,2)] (fun k=>(.loop 2 aco (ahw k) (fun g=>.nil) .nil)) Tryz.func73 rfl
abbrev acr:Cut:=⟨[1,2,7,8,9],[.box 37 [cI,cI,.cell wo,.cell (.sl 96 sw),.cell .bool,.cell .bool,.cell .bool,.cell (.sl 94 qb),.cell qc,.cell (.sl 4 .bool),.cell (.sl 124 uo),.cell qc,.cell (.sl 4 .bool)],.own 114 qg,.own 3 (.int .i64),cI,cI],[],25,[]⟩
def acs (k:Nat) (g2:Int -> Int -> (List je) -> BG -> Bool -> Bool -> Bool -> (List j5) -> (List Int) -> (List Bool) -> (List jl) -> (List Int) -> (List Bool) -> pz -> (List Int) -> Int -> Int -> Option CU) (a b:Int) (c:List je) (e:List (PN Int 5)) (f h i:Bool) (l:List j5) (m:List Int) (n:List Bool) (o:List jl) (p:List Int) (s:List Bool) (t:j3) (u:List Int) (v w:Int):Option CU :=
 (bif decide (w<v) then
  ix u w <|
  ix o (rd u w 0) <|
  ap t ([(rd o (rd u w 0) (0,(0,0),(0,0),([],[]),(0,[]),0)).2.2.1]:List (Int×Int)) 16 fun r1 =>
  g2 a b c e f h i l m n o p s r1 u v (IntKind.i64.wrap (w+1))
 else
  some ((t,()),()))
def ahx (k:Nat):Xx (((Unit)×DC×pz×(List Int)×Int×Int×Unit) -> Option CU):=dh (bf (bq (ay (ay (ay (ay (ay (ay (ay (ay (ay (ay (ay (ay (ay bg))))))))))))) (ay (ay (ay (ay bg)))))) (acs k)
def Yh (k a:Nat) (b c:Int) (e:List je) (f:List (PN Int 5)) (h i l:Bool) (m:List j5) (n:List Int) (o:List Bool) (p:List jl) (s:List Int) (t:List Bool) (u:j3) (v:List Int) (w y:Int):Option CU:=iter acr (ahx k) a ((),(b,c,e,f,h,i,l,m,n,o,p,s,t,()),u,v,w,y,())
theorem afr (k a b c e f h i l m n o p s t u v w y):Yh k (a+1) b c e f h i l m n o p s t u v w y=acs k (Yh k a) b c e f h i l m n o p s t u v w y:=Ba _ _ _ _
def S30 (k:Nat) (a:TF):Option CU :=
 (S73 k a.2.2.2.2.2.2.2.2.1).bind fun q0 =>
 Yh k k a.1 a.2.1 a.2.2.1 a.2.2.2.1 a.2.2.2.2.1 a.2.2.2.2.2.1 a.2.2.2.2.2.2.1 a.2.2.2.2.2.2.2.1 a.2.2.2.2.2.2.2.2.1.1.1 a.2.2.2.2.2.2.2.2.1.1.2 a.2.2.2.2.2.2.2.2.1.2 a.2.2.2.2.2.2.2.2.2.1 a.2.2.2.2.2.2.2.2.2.2 ([]:List (Int×Int)) q0.1.1 (q0.1.1.length:Int) 0
def F30:Fn:=⟨[Xp],[.val ⟨false,F6,true⟩],fun k x=>S30 k x.1⟩
theorem ok30:O 30 F30:=okF (ah ok73 aj) [(2,2)] (fun k=>(.loop 2 acr (ahx k) (fun g=>.nil) .nil)) Tryz.func30 rfl
def S85 (k:Nat) (a:Int):Option DF :=
 (bif decide (a<0) then
  none
 else
  (bif decide ((IntKind.i64.wrap (a - 0))>0) then
   az ([]:List jc) (IntKind.i64.wrap (a - 0)) 32 (0,0,0,0) fun r0 =>
   sx r0 0 0 <|
   some ((r0.take 0,()),())
  else
   some (([],()),())))
def F85:Fn:=⟨[.pv (.nil),au],[.val ⟨false,oo,true⟩],fun k x=>S85 k x.2.1⟩
theorem ok85:O 85 F85:=okF aj [(25,1)] On Tryz.func85 rfl
abbrev Yi:Cut:=⟨[6,25,26,27],[.own 87 TD,.cell (.sl 75 oo),cI,cI],[],36,[]⟩
def KY (k:Nat) (g11:(List jc) -> ND -> Int -> Int -> Option DF) (a:List jc) (b:List (List jc)) (c e:Int):Option DF :=
 (bif decide (e<c) then
  ix b e <|
  ap a (rd b e []) 32 fun r1 =>
  g11 r1 b c (IntKind.i64.wrap (e+1))
 else
  some ((a,()),()))
def acu (k:Nat):Xx (((Unit)×(List jc)×ND×Int×Int×Unit) -> Option DF):=dh (bf (ay (ay (ay (ay bg))))) (KY k)
def KZ (k a:Nat) (b:List jc) (c:List (List jc)) (e f:Int):Option DF:=iter Yi (acu k) a ((),b,c,e,f,())
theorem L6 (k a b c e f):KZ k (a+1) b c e f=KY k (KZ k a) b c e f:=Ba _ _ _ _
abbrev acv:Cut:=⟨[0,3,9,10,11],[.cell (.sl 75 oo),cI,.cell (.sl 75 oo),cI,cI],[],36,[]⟩
def Uo (k:Nat) (g3:ND -> Int -> ND -> Int -> Int -> Option DF) (a:List (List jc)) (b:Int) (c:List (List jc)) (e f:Int):Option DF :=
 (bif decide (f<e) then
  ix c f <|
  (bif decide ((IntKind.i64.wrap (b+((rd c f []).length:Int)))<0) then
   none
  else
   g3 a (IntKind.i64.wrap (b+((rd c f []).length:Int))) c e (IntKind.i64.wrap (f+1)))
 else
  (S85 k b).bind fun q0 =>
  KZ k k q0.1.1 a (a.length:Int) 0)
def ahy (k:Nat):Xx (((Unit)×ND×Int×ND×Int×Int×Unit) -> Option DF):=dh (bf (ay (ay (ay (ay (ay bg)))))) (Uo k)
def Yj (k a:Nat) (b:List (List jc)) (c:Int) (e:List (List jc)) (f h:Int):Option DF:=iter acv (ahy k) a ((),b,c,e,f,h,())
theorem QU (k a b c e f h):Yj k (a+1) b c e f h=Uo k (Yj k a) b c e f h:=Ba _ _ _ _
def S36 (k:Nat) (a:List (List jc)):Option DF :=
 Yj k k a 0 a (a.length:Int) 0
def F36:Fn:=⟨[.val ⟨false,(.sl 75 oo),false⟩],[.val ⟨false,oo,true⟩],fun k x=>S36 k x.1⟩
theorem ok36:O 36 F36:=okF (ah ok85 aj) [] (fun k=>(.loop 11 Yi (acu k) (fun g=>.nil) (.loop 3 acv (ahy k) (fun g=>.nil) .nil))) Tryz.func36 rfl
def S37 (k:Nat) (a:Int×Int×Int×Int) (b:j3):Option jq :=
 (bif a.1==9 then
  some ((decide (a.2.1≥(b.length:Int)),()),())
 else
  some ((false,()),()))
def F37:Fn:=⟨[abD,.pv (.ref F6)],[rB],fun k x=>S37 k x.1 x.2.1⟩
theorem ok37:O 37 F37:=okF aj [] On Tryz.func37 rfl
abbrev acw:Cut:=⟨[0,1,7,8],[.cell oo,.lJ 37 [.ref F6],cI,cI],[],19,[]⟩
def Yk (k:Nat) (g2:(List jc) -> pz -> Int -> Int -> Option jd) (a:List jc) (b:j3) (c e:Int):Option jd :=
 (bif decide (e<c) then
  ix a e <|
  (S37 k (rd a e (0,0,0,0)) b).bind fun q0 =>
  (bif q0.1.1 then
   some ((e,()),())
  else
   g2 a b c (IntKind.i64.wrap (e+1)))
 else
  some (((-1),()),()))
def ahz (k:Nat):Xx (((Unit)×(List jc)×(pz×Unit)×Int×Int×Unit) -> Option jd):=dh (bf (ay (bq (ay bg) (ay (ay bg))))) (Yk k)
def NP (k a:Nat) (b:List jc) (c:j3) (e f:Int):Option jd:=iter acw (ahz k) a ((),b,(c,()),e,f,())
theorem Yl (k a b c e f):NP k (a+1) b c e f=Yk k (NP k a) b c e f:=Ba _ _ _ _
def S84 (k:Nat) (a:List jc) (b:j3):Option jd :=
 NP k k a b (a.length:Int) 0
def F84:Fn:=⟨[KU,.pv (.lJ 37 [.ref F6])],[rI],fun k x=>S84 k x.1 x.2.1.1⟩
theorem ok84:O 84 F84:=okF (ah ok37 aj) [] (fun k=>(.loop 2 acw (ahz k) (fun g=>.nil) .nil)) Tryz.func84 rfl
def S35 (k:Nat) (a:List jc) (b:j3):Option jq :=
 (S84 k a b).bind fun q0 =>
 some ((decide (q0.1.1≥0),()),())
def F35:Fn:=⟨[KU,.pv (.lJ 37 [.ref F6])],[rB],fun k x=>S35 k x.1 x.2.1.1⟩
theorem ok35:O 35 F35:=okF (ah ok84 aj) [] On Tryz.func35 rfl
def S88 (k:Nat) (a:Int×Int×Int×Int) (b:Int):Option jq :=
 (bif a.1==9 then
  some ((a.2.1==b,()),())
 else
  some ((false,()),()))
def F88:Fn:=⟨[abD,abF],[rB],fun k x=>S88 k x.1 x.2.1⟩
theorem ok88:O 88 F88:=okF aj [] On Tryz.func88 rfl
abbrev Ym:Cut:=⟨[0,1,7,8],[.cell oo,.lJ 88 [.ref (.int .i64)],cI,cI],[],19,[]⟩
def aiG (k:Nat) (g2:(List jc) -> Int -> Int -> Int -> Option jd) (a:List jc) (b c e:Int):Option jd :=
 (bif decide (e<c) then
  ix a e <|
  (S88 k (rd a e (0,0,0,0)) b).bind fun q0 =>
  (bif q0.1.1 then
   some ((e,()),())
  else
   g2 a b c (IntKind.i64.wrap (e+1)))
 else
  some (((-1),()),()))
def acy (k:Nat):Xx (((Unit)×(List jc)×Xl×Int×Int×Unit) -> Option jd):=dh (bf (ay (bq (ay bg) (ay (ay bg))))) (aiG k)
def aiH (k a:Nat) (b:List jc) (c e f:Int):Option jd:=iter Ym (acy k) a ((),b,(c,()),e,f,())
def ak9 (k:Nat) (a:List jc) (b:Int):Option jd :=
 aiH k k a b (a.length:Int) 0
def F84a:Fn:=⟨[KU,.pv (.lJ 88 [.ref (.int .i64)])],[rI],fun k x=>ak9 k x.1 x.2.1.1⟩
theorem ok84a:O 84 F84a:=okF (ah ok88 aj) [] (fun k=>(.loop 2 Ym (acy k) (fun g=>.nil) .nil)) Tryz.func84 rfl
def ala (k:Nat) (a:List jc) (b:Int):Option jq :=
 (ak9 k a b).bind fun q0 =>
 some ((decide (q0.1.1≥0),()),())
def F35a:Fn:=⟨[KU,.pv (.lJ 88 [.ref (.int .i64)])],[rB],fun k x=>ala k x.1 x.2.1.1⟩
theorem ok35a:O 35 F35a:=okF (ah ok84a aj) [] On Tryz.func35 rfl
def S87 (k:Nat) (a:Xk) (b:Int):Option jq :=
 (S36 k ([a.2.2.2.1,a.2.2.2.2.1]:List (List jc))).bind fun q0 =>
 (ala k q0.1.1 b).bind fun q1 =>
 some ((q1.1.1,()),())
def F87:Fn:=⟨[Xr,abF],[rB],fun k x=>S87 k x.1 x.2.1⟩
theorem ok87:O 87 F87:=okF (ah ok35a <| ah ok36 aj) [] On Tryz.func87 rfl
abbrev acz:Cut:=⟨[0,1,7,8],[.cell wo,.lJ 87 [.ref (.int .i64)],cI,cI],[],19,[]⟩
def alb (k:Nat) (g2:NC) (a:List je) (b c e:Int):Option jd :=
 (bif decide (e<c) then
  ix a e <|
  (S87 k (rd a e (0,0,0,[],[],[])) b).bind fun q0 =>
  (bif q0.1.1 then
   some ((e,()),())
  else
   g2 a b c (IntKind.i64.wrap (e+1)))
 else
  some (((-1),()),()))
def ahA (k:Nat):Xx (((Unit)×(List je)×Xl×Int×Int×Unit) -> Option jd):=dh (bf (ay (bq (ay bg) (ay (ay bg))))) (alb k)
def alc (k a:Nat) (b:List je) (c e f:Int):Option jd:=iter acz (ahA k) a ((),b,(c,()),e,f,())
def S86 (k:Nat) (a:List je) (b:Int):Option jd :=
 alc k k a b (a.length:Int) 0
def F86:Fn:=⟨[PW,.pv (.lJ 87 [.ref (.int .i64)])],[rI],fun k x=>S86 k x.1 x.2.1.1⟩
theorem ok86:O 86 F86:=okF (ah ok87 aj) [] (fun k=>(.loop 2 acz (ahA k) (fun g=>.nil) .nil)) Tryz.func86 rfl
def S38 (k:Nat) (a:List je) (b:Int):Option jd :=
 (S86 k a b).bind fun q0 =>
 (bif decide (q0.1.1<0) then
  some ((8,()),())
 else
  some ((q0.1.1,()),()))
def F38:Fn:=⟨[PW,au],[rI],fun k x=>S38 k x.1 x.2.1⟩
theorem ok38:O 38 F38:=okF (ah ok86 aj) [] On Tryz.func38 rfl
abbrev acA:Cut:=⟨[0,1,11,12,13],[.pin false 0,.cell F6,.own 3 (.int .i64),cI,cI],[.fK 37 [cI,cI,.cell wo,.own 96 sw,.cell .bool,.cell .bool,.cell .bool,.own 94 qb,.own 3 (.int .i64),.own 4 .bool,.own 124 uo,.own 3 (.int .i64),.own 4 .bool]],55,[]⟩
def acB (k:Nat) (g1:Int -> Int -> (List je) -> BG -> Bool -> Bool -> Bool -> (List j5) -> (List Int) -> (List Bool) -> (List jl) -> (List Int) -> (List Bool) -> pz -> (List Int) -> Int -> Int -> Option ((Unit)×DC×Unit)) (a b:Int) (c:List je) (e:List (PN Int 5)) (f h i:Bool) (l:List j5) (m:List Int) (n:List Bool) (o:List jl) (p:List Int) (s:List Bool) (t:j3) (u:List Int) (v w:Int):Option ((Unit)×DC×Unit) :=
 (bif decide (w<v) then
  ix u w <|
  ix o (rd u w 0) <|
  (bif decide (w<(t.length:Int)) then
   ix t w <|
   (bif !(fC qg (rd o (rd u w 0) (0,(0,0),(0,0),([],[]),(0,[]),0)).2.2.1 (rd t w (0,0))) then
    ix t w <|
    (S82 k ((m,n),o) (rd u w 0) ((rd o (rd u w 0) (0,(0,0),(0,0),([],[]),(0,[]),0)).1,(rd o (rd u w 0) (0,(0,0),(0,0),([],[]),(0,[]),0)).2.1,rd t w (0,0),(rd o (rd u w 0) (0,(0,0),(0,0),([],[]),(0,[]),0)).2.2.2)).bind fun q1 =>
    g1 a b c e f h i l q1.1.1.1.1 q1.1.1.1.2 q1.1.1.2 p s t u v (IntKind.i64.wrap (w+1))
   else
    g1 a b c e f h i l m n o p s t u v (IntKind.i64.wrap (w+1)))
  else
   g1 a b c e f h i l m n o p s t u v (IntKind.i64.wrap (w+1)))
 else
  some ((),(a,b,c,e,f,h,i,l,m,n,o,p,s,()),()))
def ahB (k:Nat):Xx (((DC×Unit)×Unit×pz×(List Int)×Int×Int×Unit) -> Option ((Unit)×DC×Unit)):=dh (bq (bq (ay (ay (ay (ay (ay (ay (ay (ay (ay (ay (ay (ay (ay bg))))))))))))) bg) (bf (ay (ay (ay (ay bg)))))) (acB k)
def acC (k a:Nat) (b c:Int) (e:List je) (f:List (PN Int 5)) (h i l:Bool) (m:List j5) (n:List Int) (o:List Bool) (p:List jl) (s:List Int) (t:List Bool) (u:j3) (v:List Int) (w y:Int):Option ((Unit)×DC×Unit):=iter acA (ahB k) a (((b,c,e,f,h,i,l,m,n,o,p,s,t,()),()),(),u,v,w,y,())
theorem afs (k a b c e f h i l m n o p s t u v w y):acC k (a+1) b c e f h i l m n o p s t u v w y=acB k (acC k a) b c e f h i l m n o p s t u v w y:=Ba _ _ _ _
def S39 (k:Nat) (a b:Int) (c:List je) (e:List (PN Int 5)) (f h i:Bool) (l:List j5) (m:List Int) (n:List Bool) (o:List jl) (p:List Int) (s:List Bool) (t:j3):Option ((Unit)×DC×Unit) :=
 (S73 k ((m,n),o)).bind fun q0 =>
 acC k k a b c e f h i l m n o p s t q0.1.1 (q0.1.1.length:Int) 0
def F39:Fn:=⟨[.fK 37 [cI,cI,.cell wo,.own 96 sw,.cell .bool,.cell .bool,.cell .bool,.own 94 qb,.own 3 (.int .i64),.own 4 .bool,.own 124 uo,.own 3 (.int .i64),.own 4 .bool],abA],[],fun k ((a,b,c,e,f,h,i,l,m,n,o,p,s,_),t,_)=>S39 k a b c e f h i l m n o p s t⟩
theorem ok39:O 39 F39:=okF (ah ok73 <| ah ok82 aj) [] (fun k=>(.loop 1 acA (ahB k) (fun g=>.nil) .nil)) Tryz.func39 rfl
abbrev Yn:Cut:=⟨[1,2,4,33,34],[.box 37 [cI,cI,.cell wo,.own 96 sw,.cell .bool,.cell .bool,.cell .bool,.own 94 qb,.own 3 (.int .i64),.own 4 .bool,.own 124 uo,.own 3 (.int .i64),.own 4 .bool],.box 37 [cI,cI,.nil,.nil,.cell .bool,.cell .bool,.cell .bool,.nil,.nil,.nil,.nil,.nil,.nil],.box 98 [.own 114 qg],cI,cI],[],50,[]⟩
def Wm (k:Nat) (g12:Int -> Int -> (List je) -> BG -> Bool -> Bool -> Bool -> (List j5) -> (List Int) -> (List Bool) -> (List jl) -> (List Int) -> (List Bool) -> Int -> Int -> Bool -> Bool -> Bool -> pz -> Int -> Int -> Option G9) (s t:Int) (u:List je) (v:List (PN Int 5)) (w y z:Bool) (A:List j5) (B:List Int) (C:List Bool) (D:List jl) (G:List Int) (H:List Bool) (I J:Int) (K M N:Bool) (O:j3) (P Q:Int):Option G9 :=
 (bif decide (Q<P) then
  (S38 k u Q).bind fun q4 =>
  ix O Q <|
  g12 s t u v w y z A B C D G H I J K M N (upd O Q (q4.1.1,(rd O Q (0,0)).2)) P (IntKind.i64.wrap (Q+1))
 else
  (S39 k s t u v w y z A B C D G H O).bind fun (_,(a,b,c,e,_,f,h,i,l,m,n,o,p,_),_) =>
  some (((a,b,c,e,true,f,h,i,((l,m),n),o,p),0,()),()))
def acD (k:Nat):Xx (((Unit)×DC×Xj×(pz×Unit)×Int×Int×Unit) -> Option G9):=dh (bf (bq (ay (ay (ay (ay (ay (ay (ay (ay (ay (ay (ay (ay (ay bg))))))))))))) (bq (ay (ay (bf (bf (ay (ay (ay (bf (bf (bf (bf (bf (bf bg))))))))))))) (bq (ay bg) (ay (ay bg)))))) (Wm k)
def Wn (k a:Nat) (b c:Int) (e:List je) (f:List (PN Int 5)) (h i l:Bool) (m:List j5) (n:List Int) (o:List Bool) (p:List jl) (s:List Int) (t:List Bool) (u v:Int) (w y z:Bool) (A:j3) (B C:Int):Option G9:=iter Yn (acD k) a ((),(b,c,e,f,h,i,l,m,n,o,p,s,t,()),(u,v,(),(),w,y,z,(),(),(),(),(),(),()),(A,()),B,C,())
theorem acE (k a b c e f h i l m n o p s t u v w y z A B C):Wn k (a+1) b c e f h i l m n o p s t u v w y z A B C=Wm k (Wn k a) b c e f h i l m n o p s t u v w y z A B C:=Ba _ _ _ _
abbrev acF:Cut:=⟨[1,2,4,16,17,18],[.box 37 [cI,cI,.cell wo,.own 96 sw,.cell .bool,.cell .bool,.cell .bool,.own 94 qb,.own 3 (.int .i64),.own 4 .bool,.own 124 uo,.own 3 (.int .i64),.own 4 .bool],.box 37 [cI,cI,.nil,.nil,.cell .bool,.cell .bool,.cell .bool,.nil,.nil,.nil,.nil,.nil,.nil],.box 98 [.own 114 qg],.cell wo,cI,cI],[],50,[]⟩
def Yo (k:Nat) (g6:Int -> Int -> (List je) -> BG -> Bool -> Bool -> Bool -> (List j5) -> (List Int) -> (List Bool) -> (List jl) -> (List Int) -> (List Bool) -> Int -> Int -> Bool -> Bool -> Bool -> pz -> (List je) -> Int -> Int -> Option G9) (a b:Int) (c:List je) (e:List (PN Int 5)) (f h i:Bool) (l:List j5) (m:List Int) (n:List Bool) (o:List jl) (p:List Int) (s:List Bool) (t u:Int) (v w y:Bool) (z:j3) (A:List je) (B C:Int):Option G9 :=
 (bif decide (C<B) then
  ix A C <|
  (S36 k ([(rd A C (0,0,0,[],[],[])).2.2.2.1,(rd A C (0,0,0,[],[],[])).2.2.2.2.1]:List (List jc))).bind fun q2 =>
  (S35 k q2.1.1 z).bind fun q3 =>
  (bif q3.1.1 then
   some (((a,b,c,e,f,h,i,l,((m,n),o),p,s),4,()),())
  else
   g6 a b c e f h i l m n o p s t u v w y z A B (IntKind.i64.wrap (C+1)))
 else
  Wn k k a b c e f h i l m n o p s t u v w y z (z.length:Int) 0)
def ahC (k:Nat):Xx (((Unit)×DC×Xj×(pz×Unit)×(List je)×Int×Int×Unit) -> Option G9):=dh (bf (bq (ay (ay (ay (ay (ay (ay (ay (ay (ay (ay (ay (ay (ay bg))))))))))))) (bq (ay (ay (bf (bf (ay (ay (ay (bf (bf (bf (bf (bf (bf bg))))))))))))) (bq (ay bg) (ay (ay (ay bg))))))) (Yo k)
def Yp (k a:Nat) (b c:Int) (e:List je) (f:List (PN Int 5)) (h i l:Bool) (m:List j5) (n:List Int) (o:List Bool) (p:List jl) (s:List Int) (t:List Bool) (u v:Int) (w y z:Bool) (A:j3) (B:List je) (C D:Int):Option G9:=iter acF (ahC k) a ((),(b,c,e,f,h,i,l,m,n,o,p,s,t,()),(u,v,(),(),w,y,z,(),(),(),(),(),(),()),(A,()),B,C,D,())
theorem Yq (k a b c e f h i l m n o p s t u v w y z A B C D):Yp k (a+1) b c e f h i l m n o p s t u v w y z A B C D=Yo k (Yp k a) b c e f h i l m n o p s t u v w y z A B C D:=Ba _ _ _ _
def S12 (k:Nat) (a:TF):Option G9 :=
 (S34 k a).bind fun q0 =>
 (bif q0.1.1.2.2.2.2.1 then
  some ((q0.1.1,7,()),())
 else
  (S30 k q0.1.1).bind fun q1 =>
  Yp k k q0.1.1.1 q0.1.1.2.1 q0.1.1.2.2.1 q0.1.1.2.2.2.1 q0.1.1.2.2.2.2.1 q0.1.1.2.2.2.2.2.1 q0.1.1.2.2.2.2.2.2.1 q0.1.1.2.2.2.2.2.2.2.1 q0.1.1.2.2.2.2.2.2.2.2.1.1.1 q0.1.1.2.2.2.2.2.2.2.2.1.1.2 q0.1.1.2.2.2.2.2.2.2.2.1.2 q0.1.1.2.2.2.2.2.2.2.2.2.1 q0.1.1.2.2.2.2.2.2.2.2.2.2 0 0 false false false q1.1.1 q0.1.1.2.2.1 (q0.1.1.2.2.1.length:Int) 0)
def F12:Fn:=⟨[Xp],[.val ⟨true,Xh,false⟩,rI],fun k x=>S12 k x.1⟩
theorem ok12:O 12 F12:=okF (ah ok30 <| ah ok34 <| ah ok35 <| ah ok36 <| ah ok38 <| ah ok39 aj) [] (fun k=>(.loop 12 Yn (acD k) (fun g=>.nil) (.loop 6 acF (ahC k) (fun g=>.nil) .nil))) Tryz.func12 rfl
def S96 (k:Nat) (a:abx) (b:Int):Option jd :=
 some ((IntKind.i64.wrap (a.1 - b),()),())
def F96:Fn:=⟨[abE,au],[rI],fun k x=>S96 k x.1 x.2.1⟩
theorem ok96:O 96 F96:=okF aj [] On Tryz.func96 rfl
abbrev acG:Cut:=⟨[0,1,2,8,9,10],[.cell (.sl 94 qb),cI,.lJ 96 [],cI,cI,cI],[],49,[]⟩
def acH (k:Nat) (g3:(List j5) -> Int -> Int -> Int -> Int -> Option zn) (a:List j5) (b c e f:Int):Option zn :=
 (bif decide (e<f) then
  ix a (IntKind.i64.wrap (Tn .u64 (IntKind.u64.wrap (IntKind.i64.wrap (e+f))) 1)) <|
  (S96 k (rd a (IntKind.i64.wrap (Tn .u64 (IntKind.u64.wrap (IntKind.i64.wrap (e+f))) 1)) (0,0,0,0,(0,Pv (α:=Int) 8 0,[],false),(0,Pv (α:=Int) 8 0,[],false),[],false)) b).bind fun q0 =>
  (bif decide (q0.1.1<0) then
   g3 a b c (IntKind.i64.wrap ((IntKind.i64.wrap (Tn .u64 (IntKind.u64.wrap (IntKind.i64.wrap (e+f))) 1))+1)) f
  else
   g3 a b c e (IntKind.i64.wrap (Tn .u64 (IntKind.u64.wrap (IntKind.i64.wrap (e+f))) 1)))
 else
  (bif decide (e<c) then
   ix a e <|
   (S96 k (rd a e (0,0,0,0,(0,Pv (α:=Int) 8 0,[],false),(0,Pv (α:=Int) 8 0,[],false),[],false)) b).bind fun q1 =>
   some ((e,q1.1.1==0,()),())
  else
   some ((e,false,()),())))
def ahD (k:Nat):Xx (((Unit)×(List j5)×Int×Unit×Int×Int×Int×Unit) -> Option zn):=dh (bf (ay (ay (bf (ay (ay (ay bg))))))) (acH k)
def Uq (k a:Nat) (b:List j5) (c e f h:Int):Option zn:=iter acG (ahD k) a ((),b,c,(),e,f,h,())
theorem aft (k a b c e f h):Uq k (a+1) b c e f h=acH k (Uq k a) b c e f h:=Ba _ _ _ _
def S95 (k:Nat) (x:List j5) (a:Int):Option zn :=
 Uq k k x a (x.length:Int) 0 (x.length:Int)
def F95:Fn:=⟨[.val ⟨false,(.sl 94 qb),false⟩,au,.pv (.lJ 96 [])],[rI,rB],fun k x=>S95 k x.1 x.2.1⟩
theorem ok95:O 95 F95:=okF (ah ok96 aj) [] (fun k=>(.loop 3 acG (ahD k) (fun g=>.nil) .nil)) Tryz.func95 rfl
def S49 (k:Nat) (a:TF) (b:Int):Option zn :=
 (S95 k a.2.2.2.2.2.2.2.1 b).bind fun q0 =>
 some (q0.1,())
def F49:Fn:=⟨[.pv (.ref Xh),au],[rI,rB],fun k x=>S49 k x.1 x.2.1⟩
theorem ok49:O 49 F49:=okF (ah ok95 aj) [] On Tryz.func49 rfl
section
variable (w:World) {g n c i j:Nat}
theorem L8:Tryz.prog.underlying 26=some (.slice 94) /\ Tryz.prog.underlying 3=some (.int .i64) /\ Tryz.prog.underlying 4=some .bool /\ Tryz.prog.follows .mixedOrders=true /\ (∀ w,(Go.sizeOf 94).run Tryz.prog w=.ok 28 w) /\ Tryz.f50.ntmps=33:=⟨by kernel_rfl,by kernel_rfl,by kernel_rfl,by kernel_rfl,fun w=>by kernel_rfl,rfl⟩
theorem Ur {v:Value} (hv:(∃ A n c,v=.slice A n c /\ i <= n /\ n <= c /\ c <= 9223372036854775807)):Calls Tryz.prog 50 #[v,.int .i64 i,.int .i64 i] w fun e w'=>e=.returned v /\ w'=w:=by
 obtain ⟨t24,t3,t4,mixed,z36,hnt⟩:=L8
 have u24:=run_underlying t24;have u3:=run_underlying t3;have u4:=run_underlying t4
 obtain ⟨A,n,c,rfl,hi,hnc,hc63⟩:=hv
 have hi0:(i:Int) <= (n:Int):=by omega
 have hi1:(0:Int) <= (i:Int):=by omega
 cases A <;> (go_enter Tryz.func50,hnt;go_wp2 <;> (go_ret;exact ⟨rfl,rfl⟩))
theorem Us {w' w'':World} (hlt:i<j) (hj:j <= n) (hnc:n <= c) (hc63:c <= 9223372036854775807)
  (hap:∀ ty A,(c≠j -> A=(⟨g,j * 28,none⟩:Addr)) -> (Builtin.append_ #[26,26] ty #[.slice (some ⟨g,0,none⟩) i c,.slice (some A) (n - j) (c - j)]).run Tryz.prog w.drew=.ok (.slice (some ⟨g,0,none⟩) (i+(n - j)) c) w')
  (hcl:∀ ty dc,(Builtin.clear_ #[26] ty #[.slice (some ⟨g,(i+(n - j)) * 28,none⟩) (n - (i+(n - j))) dc]).run Tryz.prog w'=.ok (.tuple #[]) w'') :
  Calls Tryz.prog 50 #[.slice (some ⟨g,0,none⟩) n c,.int .i64 i,.int .i64 j] w fun e w1=>e=.returned (.slice (some ⟨g,0,none⟩) (i+(n - j)) c) /\ w1=w'':=by
 obtain ⟨t24,t3,t4,mixed,z36,hnt⟩:=L8
 have u24:=run_underlying t24;have u3:=run_underlying t3;have u4:=run_underlying t4
 have hi0:(i:Int) <= (n:Int):=by omega
 have hj0:(j:Int) <= (n:Int):=by omega
 have hij:(i:Int) <= (j:Int):=by omega
 have hne:¬ ((i:Int)=(j:Int)):=by omega
 have hic:i <= c:=by omega
 have hjc:j <= c:=by omega
 have hln:i+(n - j) <= n:=by omega
 have hlc:i+(n - j) <= c:=by omega
 have hci:¬ (c=i+(n - j)):=by omega
 obtain ⟨A,hA,hA'⟩:∃ A:Addr,(if c=j then some (⟨g,0,none⟩:Addr) else some ⟨g,j * 28,none⟩)=some A /\ (c≠j -> A=(⟨g,j * 28,none⟩:Addr)):=by
  by_cases h:c=j
  · exact ⟨_,if_pos h,fun q=>absurd h q⟩
  · exact ⟨_,if_neg h,fun _=>rfl⟩
 try simp only [Nat.mul_one] at hA hcl
 go_enter Tryz.func50,hnt
 go_wp2_with fail
 go_region_law_o (refine Gv rfl rfl _ _ (by simp [Act.eval,Act.put]) (by simp [Act.eval,Act.put,hA]) (hap _ _ hA') ?_)
 go_wp2_with (at_builtin;refine Je rfl rfl _ rfl (hcl _ _) ?_)
 go_ret
 exact ⟨rfl,rfl⟩
end
abbrev P50:List PT:=iG 94 qb
abbrev R50:List RT:=qW 94 qb
def S50 (k:Nat) (a:List j5) (i j:Int):Option (((List j5)×Unit)×Unit):=Jg 94 qb k (a,i,j,())
def F50:Fn:=⟨P50,R50,Jg 94 qb⟩
def E50:Env:=tab.env (fun _=>none) (fun _=>0)
theorem aiJ:aH Tryz.prog E50:=Kr Qy _ _ (fun f F h=>by cases h)
theorem ok50:O 50 F50:=by
 obtain ⟨i0,z,a1,a2,a3,a4,a5⟩:=(aiJ.ty 94 (qb) (by kernel_rfl)).info
 have b2:Ty.sz (qb)=28:=rfl
 have hz:z.cells.size=28:=by rw [<- Array.length_toList,a5,gZ,b2]
 obtain ⟨t24,t3,t4,mixed,z36,hnt⟩:=L8
 refine Qc Tryz.func50 rfl (by kernel_rfl) ?_
 rw [b2]
 exact Mj (S:=26) (z:=z) t24 a1 a4 (by rw [a2,b2]) hz (fun v hv=>tV (qb) v (by rw [<- a5];exact hv)) (by decide) (fun w i v h=>Ur w h) (fun w g n c i j w' w'' h1 h2 h3 h4 h5 h6=>Us w h1 h2 h3 h4 h5 h6)
def S99 (k:Nat) (a:Int):Option (((Int×(PN Int 8)×(List (Int×Int×Int))×Bool)×Unit)×Unit) :=
 some (((0,(a,0,0,0,0,0,0,0),[],false),()),())
def F99:Fn:=⟨[au],[.val ⟨true,(.pair (.int .i64) (.pair (Am 8 (.int .i64)) (.pair (.sl 233 (.pair (.int .i64) qg)) .bool))),true⟩],fun k x=>S99 k x.1⟩
theorem ok99:O 99 F99:=okF aj [] On Tryz.func99 rfl
def S52 (k:Nat) (a b c:Int):Option ((j5×Unit)×Unit) :=
 (S99 k c).bind fun q0 =>
 (S99 k c).bind fun q1 =>
 some (((a,b,c,0,q0.1.1,q1.1.1,[],false),()),())
def F52:Fn:=⟨[au,au,au],[.val ⟨true,qb,true⟩],fun k (a,b,c,_)=>S52 k a b c⟩
theorem ok52:O 52 F52:=okF (ah ok99 aj) [] On Tryz.func52 rfl
section
variable (w:World) {g n c i g2 m c2:Nat}
theorem DJ:Tryz.prog.underlying 26=some (.slice 94) /\ Tryz.prog.underlying 3=some (.int .i64) /\ Tryz.prog.underlying 4=some .bool /\ Tryz.prog.follows .mixedOrders=true /\ (∀ w,(Go.sizeOf 94).run Tryz.prog w=.ok 28 w) /\ Tryz.f51.ntmps=95:=⟨by kernel_rfl,by kernel_rfl,by kernel_rfl,by kernel_rfl,fun w=>by kernel_rfl,rfl⟩
theorem Ut {v u:Value} (hv:(∃ A n c,v=.slice A n c /\ i <= n)) (hu:∃ A c,u=.slice A m c) (hm:m=0):Calls Tryz.prog 51 #[v,.int .i64 i,u] w fun e w'=>e=.returned v /\ w'=w:=by
 obtain ⟨t24,t3,t4,mixed,z36,hnt⟩:=DJ
 have u24:=run_underlying t24;have u3:=run_underlying t3;have u4:=run_underlying t4
 obtain ⟨A,n,c,rfl,hi⟩:=hv
 obtain ⟨A2,c2,rfl⟩:=hu
 have hi0:(i:Int) <= (n:Int):=by omega
 have hz1:(m:Int)=0:=by omega
 cases A <;> (go_enter Tryz.func51,hnt;go_wp2 <;> (go_ret;exact ⟨rfl,rfl⟩))
theorem Wo {v:Value} {w':World} {v':Value} (hv:(∃ A c,v=.slice A n c)) (hm:0<m)
  (hr:∀ ty,(Builtin.append_ #[26,26] ty #[v,.slice (some ⟨g2,0,none⟩) m c2]).run Tryz.prog w=.ok v' w'):Calls Tryz.prog 51 #[v,.int .i64 n,.slice (some ⟨g2,0,none⟩) m c2] w fun e w1=>e=.returned v' /\ w1=w':=by
 obtain ⟨t24,t3,t4,mixed,z36,hnt⟩:=DJ
 have u24:=run_underlying t24;have u3:=run_underlying t3;have u4:=run_underlying t4
 have hz1:¬ ((m:Int)=0):=by omega
 obtain ⟨A,c,rfl⟩:=hv
 go_enter Tryz.func51,hnt
 go_wp2_with (at_builtin;refine Gt rfl rfl _ _ rfl rfl (hr _) ?_)
 all_goals (go_ret;exact ⟨rfl,rfl⟩)
theorem QV {v' v'':Value} {w' w'':World} (hi:i<n) (hm:0<m) (hroom:n+m <= c) (hc63:c <= 9223372036854775807)
  (hov:∀ lb cb,(callFunc 97 #[.slice (some ⟨g2,0,none⟩) m c2,.slice (some ⟨g,(i+m) * 28,none⟩) lb cb]).run Tryz.prog w=.ok (.value (.bool false)) w)
  (hcp1:∀ ty dc sc,(Builtin.copy_ #[26,26] ty #[.slice (some ⟨g,(i+m) * 28,none⟩) (n+m - (i+m)) dc,.slice (some ⟨g,i * 28,none⟩) (n+m - i) sc]).run Tryz.prog w.drew=.ok v' w')
  (hcp2:∀ ty dc,(Builtin.copy_ #[26,26] ty #[.slice (some ⟨g,i * 28,none⟩) (n+m - i) dc,.slice (some ⟨g2,0,none⟩) m c2]).run Tryz.prog w'=.ok v'' w'') :
  Calls Tryz.prog 51 #[.slice (some ⟨g,0,none⟩) n c,.int .i64 i,.slice (some ⟨g2,0,none⟩) m c2] w fun e w1=>e=.returned (.slice (some ⟨g,0,none⟩) (n+m) c) /\ w1=w'':=by
 obtain ⟨t24,t3,t4,mixed,z36,hnt⟩:=DJ
 have u24:=run_underlying t24;have u3:=run_underlying t3;have u4:=run_underlying t4
 have hz1:¬ ((m:Int)=0):=by omega
 have hz2:¬ ((i:Int)=(n:Int)):=by omega
 have hw1:IntKind.i64.wrap ((i:Int)+(m:Int))=(i:Int)+(m:Int):=by rw [IntKind.wrap_i64];omega
 have hb1:(0:Int) <= (i:Int)+(m:Int):=by omega
 have hin:i <= n:=by omega
 have htn:((i:Int)+(m:Int)).toNat=i+m:=by omega
 have hb2:¬ (c=i+m):=by omega
 have hb3:(i:Int) <= (n:Int)+(m:Int):=by omega
 have hb4:¬ (c=i):=by omega
 go_enter Tryz.func51,hnt
 go_wp2_with (simp only [hov])
 go_region_law_o (refine Jk rfl rfl _ _ (by simp [Act.eval,Act.put]) (by simp [Act.eval,Act.put]) (hcp1 _ _ _) ?_)
 go_wp2_with (at_builtin;refine Jj rfl rfl _ _ rfl rfl (hcp2 _ _) ?_)
 go_ret
 exact ⟨rfl,rfl⟩
theorem Uu {h G:Nat} {v' v'':Value} {w0 w' w'':World} (hi:i<n) (hm:0<m) (hnc:n <= c) (hroom:c<n+m) (hc63:n+m <= 140737488355328) (hG:n+m <= G) (hG63:G <= 9223372036854775807)
  (hrz:∀ ty,(Builtin.append_ #[26,3] ty #[.slice (some ⟨g,0,none⟩) i c,.int .i64 ((n:Int)+(m:Int) - (i:Int))]).run Tryz.prog w=.ok (.slice (some ⟨h,0,none⟩) (n+m) G) w0)
  (hcp1:∀ ty dc,(Builtin.copy_ #[26,26] ty #[.slice (some ⟨h,i * 28,none⟩) (n+m - i) dc,.slice (some ⟨g2,0,none⟩) m c2]).run Tryz.prog w0=.ok v' w')
  (hcp2:∀ ty dc sc,(Builtin.copy_ #[26,26] ty #[.slice (some ⟨h,(i+m) * 28,none⟩) (n+m - (i+m)) dc,.slice (some ⟨g,i * 28,none⟩) (n - i) sc]).run Tryz.prog w'.drew=.ok v'' w'') :
  Calls Tryz.prog 51 #[.slice (some ⟨g,0,none⟩) n c,.int .i64 i,.slice (some ⟨g2,0,none⟩) m c2] w fun e w1=>e=.returned (.slice (some ⟨h,0,none⟩) (n+m) G) /\ w1=w'':=by
 obtain ⟨t24,t3,t4,mixed,z36,hnt⟩:=DJ
 have u24:=run_underlying t24;have u3:=run_underlying t3;have u4:=run_underlying t4
 have hz1:¬ ((m:Int)=0):=by omega
 have hz2:¬ ((i:Int)=(n:Int)):=by omega
 have hz3:(c:Int)<(n:Int)+(m:Int):=by omega
 have hw1:IntKind.i64.wrap ((i:Int)+(m:Int))=(i:Int)+(m:Int):=by rw [IntKind.wrap_i64];omega
 have hb1:(0:Int) <= (i:Int)+(m:Int):=by omega
 have hin:i <= n:=by omega
 have htn:((i:Int)+(m:Int)).toNat=i+m:=by omega
 have hGi:¬ (G=i):=by omega
 have hGim:¬ (G=i+m):=by omega
 have hci:¬ (c=i):=by omega
 have hb3:(i:Int) <= (n:Int):=by omega
 go_enter Tryz.func51,hnt
 go_wp2_with (first
  | (at_builtin;refine Gt rfl rfl _ _ rfl rfl (hrz _) ?_)
  | (at_builtin;refine Jj rfl rfl _ _ rfl rfl (hcp1 _ _) ?_))
 go_region_law_o (refine Jk rfl rfl _ _ (by simp [Act.eval,Act.put]) (by simp [Act.eval,Act.put]) (hcp2 _ _ _) ?_)
 go_wp2
 go_ret
 exact ⟨rfl,rfl⟩
end
abbrev P51:List PT:=eG 94 qb
abbrev R51:List RT:=qV 94 qb
def S51 (k:Nat) (a:List j5) (b:Int) (c:List j5):Option (((List j5)×Unit)×Unit):=Jc 272 94 qb k (a,b,c,())
def F51:Fn:=⟨P51,R51,Jc 272 94 qb⟩
def E51:Env:=tab.env (fun _=>none) (fun _=>0)
theorem aiK:aH Tryz.prog E51:=Kr Qy _ _ (fun f F h=>by cases h)
theorem ok51:O 51 F51:=by
 obtain ⟨i0,z,a1,a2,a3,a4,a5⟩:=(aiK.ty 94 (qb) (by kernel_rfl)).info
 have b1:E51.lK 94=272:=by kernel_rfl
 have b2:Ty.sz (qb)=28:=rfl
 rw [b1] at a3
 have hz:z.cells.size=28:=by rw [<- Array.length_toList,a5,gZ,b2]
 obtain ⟨t24,t3,t4,mixed,z36,hnt⟩:=DJ
 refine Py Tryz.func51 rfl (by kernel_rfl) ?_
 rw [b2,<- a3]
 refine Mi (S:=26) (z:=z) t24 t3 a1 a4 (by rw [a2,b2]) hz (by decide) (by rw [a3];decide) (fun w i m v u h1 h2 h3=>Ut w h1 h2 h3) (fun w n g2 m c2 v v' w' h1 h2 h3=>Wo w h1 h2 h3) (fun w g n c i g2 m c2 v' v'' w' w'' h1 h2 h3 h4 h5 h6 hne hg hg2=>QV w h1 h2 h3 h4 (fun lb cb=>?_) h5 h6) (fun w g n c i g2 m c2 h G v' v'' w0 w' w'' h1 h2 h3 h4 h5 h6 h7 h8 h9 h10=>Uu w h1 h2 h3 h4 h5 h6 h7 h8 h9 h10)
 obtain ⟨cur,q1,q2⟩:=hg
 obtain ⟨xG,q3⟩:=hg2
 rw [run_callFunc_extern Tryz.func97 (by kernel_rfl) (by kernel_rfl) (by kernel_rfl) (e:=Extern.SlicesOverlaps.overlaps #[26,26] #[4]) (by kernel_rfl),Lib.run_overlaps_apart w 26 4 94 t24 28 z36 ⟨g2,0,none⟩ ⟨g,(i+m) * 28,none⟩ m c2 lb cb hne 94 94 xG.size cur.size (by simp [World.shape?,q3]) (by simp [World.shape?,q1]) q2 (Kd.fQ q3 _) (Kd.fQ q3 _)]
 rfl
abbrev afu:Cut:=⟨[1,2,3,6,9,10],[cI,cI,.box 37 [cI,cI,.own 77 D9,.own 96 sw,.cell .bool,.cell .bool,.cell .bool,.own 94 qb,.own 3 (.int .i64),.own 4 .bool,.own 124 uo,.own 3 (.int .i64),.own 4 .bool],.box 37 [cI,cI,.nil,.nil,.cell .bool,.cell .bool,.cell .bool,.nil,.nil,.nil,.nil,.nil,.nil],.own 82 EY,cI],[],98,[]⟩
def L9 (k:Nat) (a b c e:Int) (f:List je) (h:List (PN Int 5)) (i l m:Bool) (n:List j5) (o:List Int) (p:List Bool) (s:List jl) (t:List Int) (u:List Bool) (v w:Int) (y z A:Bool) (B:List (PN Int 6)) (C:Int):Option ((W9×(List (PN Int 6))×Int×Unit)×Unit) :=
 (S52 k a c b).bind fun q4 =>
 (S51 k n C ([q4.1.1]:List j5)).bind fun q5 =>
 ap B ([(c,1,a,0,b,0)]:List (PN Int 6)) 48 fun r6 =>
 some (((c,e,f,h,i,l,m,q5.1.1,((o,p),s),t,u),r6,0,()),())
abbrev afv:Cut:=⟨[1,2,3,6],[cI,cI,.box 37 [cI,cI,.own 77 D9,.own 96 sw,.cell .bool,.cell .bool,.cell .bool,.own 94 qb,.own 3 (.int .i64),.own 4 .bool,.own 124 uo,.own 3 (.int .i64),.own 4 .bool],.box 37 [cI,cI,.nil,.nil,.cell .bool,.cell .bool,.cell .bool,.nil,.nil,.nil,.nil,.nil,.nil]],[],98,[]⟩
def QW (k:Nat) (a b c e:Int) (f:List je) (h:List (PN Int 5)) (i l m:Bool) (n:List j5) (o:List Int) (p:List Bool) (s:List jl) (t:List Int) (u:List Bool) (v w:Int) (y z A:Bool):Option ((W9×(List (PN Int 6))×Int×Unit)×Unit) :=
 (S49 k (c,e,f,h,i,l,m,n,((o,p),s),t,u) a).bind fun q1 =>
 (bif q1.1.2.1 then
  ix n q1.1.1 <|
  (bif (rd n q1.1.1 (0,0,0,0,(0,Pv (α:=Int) 8 0,[],false),(0,Pv (α:=Int) 8 0,[],false),[],false)).2.2.2.1 != 2 then
   some (((c,e,f,h,i,l,m,n,((o,p),s),t,u),[],5,()),())
  else
   ap ([]:List (PN Int 6)) ([(c,13,a,0,0,0)]:List (PN Int 6)) 48 fun r2 =>
   (S50 k n q1.1.1 (IntKind.i64.wrap (q1.1.1+1))).bind fun q3 =>
   L9 k a b c e f h i l m q3.1.1 o p s t u v w y z A r2 q1.1.1)
 else
  L9 k a b c e f h i l m n o p s t u v w y z A ([]:List (PN Int 6)) q1.1.1)
def S20 (k:Nat) (a:TF) (b c:Int):Option ((W9×(List (PN Int 6))×Int×Unit)×Unit) :=
 (S34 k a).bind fun q0 =>
 (bif !q0.1.1.2.2.2.2.1 then
  some ((q0.1.1,[],8,()),())
 else
  (bif q0.1.1.2.2.2.2.2.1 then
   some ((q0.1.1,[],17,()),())
  else
   (bif decide (b<0) then
    some ((q0.1.1,[],3,()),())
   else
    (bif decide (b≥(q0.1.1.2.2.1.length:Int)) then
     some ((q0.1.1,[],3,()),())
    else
     (bif decide (b<(q0.1.1.2.2.2.2.2.2.2.2.2.2.length:Int)) then
      ix q0.1.1.2.2.2.2.2.2.2.2.2.2 b <|
      (bif rd q0.1.1.2.2.2.2.2.2.2.2.2.2 b false then
       some ((q0.1.1,[],6,()),())
      else
       QW k b c q0.1.1.1 q0.1.1.2.1 q0.1.1.2.2.1 q0.1.1.2.2.2.1 q0.1.1.2.2.2.2.1 q0.1.1.2.2.2.2.2.1 q0.1.1.2.2.2.2.2.2.1 q0.1.1.2.2.2.2.2.2.2.1 q0.1.1.2.2.2.2.2.2.2.2.1.1.1 q0.1.1.2.2.2.2.2.2.2.2.1.1.2 q0.1.1.2.2.2.2.2.2.2.2.1.2 q0.1.1.2.2.2.2.2.2.2.2.2.1 q0.1.1.2.2.2.2.2.2.2.2.2.2 0 0 false false false)
     else
      QW k b c q0.1.1.1 q0.1.1.2.1 q0.1.1.2.2.1 q0.1.1.2.2.2.1 q0.1.1.2.2.2.2.1 q0.1.1.2.2.2.2.2.1 q0.1.1.2.2.2.2.2.2.1 q0.1.1.2.2.2.2.2.2.2.1 q0.1.1.2.2.2.2.2.2.2.2.1.1.1 q0.1.1.2.2.2.2.2.2.2.2.1.1.2 q0.1.1.2.2.2.2.2.2.2.2.1.2 q0.1.1.2.2.2.2.2.2.2.2.2.1 q0.1.1.2.2.2.2.2.2.2.2.2.2 0 0 false false false)))))
def F20:Fn:=⟨[Xp,au,au],[abC,.val ⟨false,(.sl 82 EY),true⟩,rI],fun k (a,b,c,_)=>S20 k a b c⟩
theorem ok20:O 20 F20:=okF (ah ok34 <| ah ok49 <| ah ok50 <| ah ok51 <| ah ok52 aj) [(9,2)] (fun k=>(.join 17 afu (fun (_,a,b,(c,e,f,h,i,l,m,n,o,p,s,t,u,_),(v,w,_,_,y,z,A,_),B,C,_)=>L9 k a b c e f h i l m n o p s t u v w y z A B C) (.join 10 afv (fun (_,a,b,(c,e,f,h,i,l,m,n,o,p,s,t,u,_),(v,w,_,_,y,z,A,_),_)=>QW k a b c e f h i l m n o p s t u v w y z A) .nil))) Tryz.func20 rfl
def Wp (k:Nat) (a b:Int) (c:List je) (e:List (PN Int 5)) (f h i:Bool) (l:List j5) (m:List Int) (n:List Bool) (o:List jl) (p:List Int) (s:List Bool) (t:List (PN Int 6)) (u:PN Int 6):Option uy :=
 ap t ([(a,u.2)]:List (PN Int 6)) 48 fun r0 =>
 some ((),(a,b,c,e,f,h,i,l,m,n,o,p,s,r0,()),())
def F100:Fn:=⟨[aik,.val ⟨true,EY,false⟩],[],fun k ((a,b,c,e,f,h,i,l,m,n,o,p,s,t,_),u,_)=>Wp k a b c e f h i l m n o p s t u⟩
theorem ok100:O 100 F100:=okF aj [] On Tryz.func100 rfl
def afw (k:Nat) (a:j3):Option CU:=qR 16 114 qg k (a,())
def F194:Fn:=⟨dJ 114 qg,iZ 114 qg,qR 16 114 qg⟩
theorem ok194:O 194 F194:=Ku FB mix Tryz.func194 rfl (by kernel_rfl) (by kernel_rfl) (fun k=>by kernel_rfl) (fun k xs=>by kernel_rfl) (fun k xs=>by kernel_rfl)
def aiL (k:Nat) (a:j3) (b:Int):Option jq :=
 (bif decide (b≥0) then
  some ((decide (b<(a.length:Int)),()),())
 else
  some ((false,()),()))
def F212:Fn:=⟨[abA,au],[rB],fun k x=>aiL k x.1 x.2.1⟩
theorem ok212:O 212 F212:=okF aj [] On Tryz.func212 rfl
def afx (k:Nat) (a:j3) (b c:Int):Option jq :=
 (aiL k a b).bind fun q0 =>
 (bif q0.1.1 then
  (bif decide (c≥0) then
   ix a b <|
   some (((rd a b (0,0)).2==(IntKind.i64.wrap (c+1)),()),())
  else
   some ((false,()),()))
 else
  some ((false,()),()))
def F195:Fn:=⟨[abA,au,au],[rB],fun k (a,b,c,_)=>afx k a b c⟩
theorem ok195:O 195 F195:=okF (ah ok212 aj) [] On Tryz.func195 rfl
abbrev Yr:Cut:=⟨[0,1,5,10,11],[.cell F6,cI,.own 114 qg,cI,cI],[],24,[]⟩
def Wq (k:Nat) (g3:pz -> Int -> pz -> Int -> Int -> Option CU) (a:j3) (b:Int) (c:j3) (e f:Int):Option CU :=
 (bif decide (f<e) then
  (afx k a f b).bind fun q1 =>
  (bif q1.1.1 then
   ix c f <|
   g3 a b (upd c f ((rd c f (0,0)).1,0)) e (IntKind.i64.wrap (f+1))
  else
   g3 a b c e (IntKind.i64.wrap (f+1)))
 else
  some ((c,()),()))
def acI (k:Nat):Xx (((Unit)×pz×Int×pz×Int×Int×Unit) -> Option CU):=dh (bf (ay (ay (ay (ay (ay bg)))))) (Wq k)
def Ws (k a:Nat) (b:j3) (c:Int) (e:j3) (f h:Int):Option CU:=iter Yr (acI k) a ((),b,c,e,f,h,())
theorem acJ (k a b c e f h):Ws k (a+1) b c e f h=Wq k (Ws k a) b c e f h:=Ba _ _ _ _
def acK (k:Nat) (a:j3) (b:Int):Option CU :=
 (afw k a).bind fun q0 =>
 Ws k k a b q0.1.1 (q0.1.1.length:Int) 0
def F154:Fn:=⟨[abA,au],[.val ⟨false,F6,true⟩],fun k x=>acK k x.1 x.2.1⟩
theorem ok154:O 154 F154:=okF (ah ok194 <| ah ok195 aj) [] (fun k=>(.loop 3 Yr (acI k) (fun g=>.nil) .nil)) Tryz.func154 rfl
abbrev Yt:Cut:=⟨[0,1,11,12,13],[.pin false 0,.cell F6,.own 3 (.int .i64),cI,cI],[.fK 150 [cI,cI,.own 77 D9,.own 96 sw,.cell .bool,.cell .bool,.cell .bool,.cell (.sl 94 qb),.own 3 (.int .i64),.own 4 .bool,.own 124 uo,.own 3 (.int .i64),.own 4 .bool,.own 82 EY]],55,[]⟩
def Wt (k:Nat) (g1:Int -> Int -> (List je) -> BG -> Bool -> Bool -> Bool -> (List j5) -> (List Int) -> (List Bool) -> (List jl) -> (List Int) -> (List Bool) -> (List (PN Int 6)) -> pz -> (List Int) -> Int -> Int -> Option uy) (a b:Int) (c:List je) (e:List (PN Int 5)) (f h i:Bool) (l:List j5) (m:List Int) (n:List Bool) (o:List jl) (p:List Int) (s:List Bool) (t:List (PN Int 6)) (u:j3) (v:List Int) (w y:Int):Option uy :=
 (bif decide (y<w) then
  ix v y <|
  ix o (rd v y 0) <|
  (bif decide (y<(u.length:Int)) then
   ix u y <|
   (bif !(fC qg (rd o (rd v y 0) (0,(0,0),(0,0),([],[]),(0,[]),0)).2.2.1 (rd u y (0,0))) then
    ix u y <|
    (S82 k ((m,n),o) (rd v y 0) ((rd o (rd v y 0) (0,(0,0),(0,0),([],[]),(0,[]),0)).1,(rd o (rd v y 0) (0,(0,0),(0,0),([],[]),(0,[]),0)).2.1,rd u y (0,0),(rd o (rd v y 0) (0,(0,0),(0,0),([],[]),(0,[]),0)).2.2.2)).bind fun q1 =>
    g1 a b c e f h i l q1.1.1.1.1 q1.1.1.1.2 q1.1.1.2 p s t u v w (IntKind.i64.wrap (y+1))
   else
    g1 a b c e f h i l m n o p s t u v w (IntKind.i64.wrap (y+1)))
  else
   g1 a b c e f h i l m n o p s t u v w (IntKind.i64.wrap (y+1)))
 else
  some ((),(a,b,c,e,f,h,i,l,m,n,o,p,s,t,()),()))
def acL (k:Nat):Xx (((afb×Unit)×Unit×pz×(List Int)×Int×Int×Unit) -> Option uy):=dh (bq (bq (ay (ay (ay (ay (ay (ay (ay (ay (ay (ay (ay (ay (ay (ay bg)))))))))))))) bg) (bf (ay (ay (ay (ay bg)))))) (Wt k)
def Wu (k a:Nat) (b c:Int) (e:List je) (f:List (PN Int 5)) (h i l:Bool) (m:List j5) (n:List Int) (o:List Bool) (p:List jl) (s:List Int) (t:List Bool) (u:List (PN Int 6)) (v:j3) (w:List Int) (y z:Int):Option uy:=iter Yt (acL k) a (((b,c,e,f,h,i,l,m,n,o,p,s,t,u,()),()),(),v,w,y,z,())
theorem acM (k a b c e f h i l m n o p s t u v w y z):Wu k (a+1) b c e f h i l m n o p s t u v w y z=Wt k (Wu k a) b c e f h i l m n o p s t u v w y z:=Ba _ _ _ _
def afy (k:Nat) (a b:Int) (c:List je) (e:List (PN Int 5)) (f h i:Bool) (l:List j5) (m:List Int) (n:List Bool) (o:List jl) (p:List Int) (s:List Bool) (t:List (PN Int 6)) (u:j3):Option uy :=
 (S73 k ((m,n),o)).bind fun q0 =>
 Wu k k a b c e f h i l m n o p s t u q0.1.1 (q0.1.1.length:Int) 0
def F39a:Fn:=⟨[aik,abA],[],fun k ((a,b,c,e,f,h,i,l,m,n,o,p,s,t,_),u,_)=>afy k a b c e f h i l m n o p s t u⟩
theorem ok39a:O 39 F39a:=okF (ah ok73 <| ah ok82 aj) [] (fun k=>(.loop 1 Yt (acL k) (fun g=>.nil) .nil)) Tryz.func39 rfl
def aiM (k:Nat) (a:(List Int)×List Bool) (b:Int):Option jq :=
 (bif decide (b≥0) then
  some ((decide (b<(mn (a.1.length:Int) (a.2.length:Int))),()),())
 else
  some ((false,()),()))
def F196:Fn:=⟨[Xo,au],[rB],fun k x=>aiM k x.1 x.2.1⟩
theorem ok196:O 196 F196:=okF aj [] On Tryz.func196 rfl
abbrev Yu:Cut:=⟨[0,1,7,8],[.cell (.sl 4 .bool),.cell .bool,cI,cI],[],19,[]⟩
def QX (k:Nat) (g2:(List Bool) -> Bool -> Int -> Int -> Option jd) (a:List Bool) (b:Bool) (c e:Int):Option jd :=
 (bif decide (e<c) then
  ix a e <|
  (bif b==(rd a e false) then
   some ((e,()),())
  else
   g2 a b c (IntKind.i64.wrap (e+1)))
 else
  some (((-1),()),()))
def acN (k:Nat):Xx (((Unit)×(List Bool)×Bool×Int×Int×Unit) -> Option jd):=dh (bf (ay (ay (ay (ay bg))))) (QX k)
def IE (k a:Nat) (b:List Bool) (c:Bool) (e f:Int):Option jd:=iter Yu (acN k) a ((),b,c,e,f,())
theorem Uv (k a b c e f):IE k (a+1) b c e f=QX k (IE k a) b c e f:=Ba _ _ _ _
def afz (k:Nat) (a:List Bool) (b:Bool):Option jd :=
 IE k k a b (a.length:Int) 0
def F223:Fn:=⟨[ak1,.val ⟨false,.bool,false⟩],[rI],fun k x=>afz k x.1 x.2.1⟩
theorem ok223:O 223 F223:=okF aj [] (fun k=>(.loop 2 Yu (acN k) (fun g=>.nil) .nil)) Tryz.func223 rfl
def aiN (k:Nat) (a:List Bool) (b:Bool):Option jq :=
 (afz k a b).bind fun q0 =>
 some ((decide (q0.1.1≥0),()),())
def F197:Fn:=⟨[ak1,.val ⟨false,.bool,false⟩],[rB],fun k x=>aiN k x.1 x.2.1⟩
theorem ok197:O 197 F197:=okF (ah ok223 aj) [] On Tryz.func197 rfl
def afA (k:Nat) (a:(List Int)×List Bool) (b:Int):Option ((EZ×Bool×Bool×Unit)×Unit) :=
 (aaK k a).bind fun q0 =>
 (aiM k a b).bind fun q1 =>
 (bif !q1.1.1 then
  some ((q0.1.1,false,false,()),())
 else
  ix q0.1.1.1 b <|
  ix q0.1.1.1 b <|
  ix (upd q0.1.1.1 b (IntKind.i64.wrap ((rd q0.1.1.1 b 0)+1))) b <|
  (bif (rd (upd q0.1.1.1 b (IntKind.i64.wrap ((rd q0.1.1.1 b 0)+1))) b 0) != 2 then
   some (((upd q0.1.1.1 b (IntKind.i64.wrap ((rd q0.1.1.1 b 0)+1)),q0.1.1.2),false,false,()),())
  else
   ix q0.1.1.2 b <|
   (bif rd q0.1.1.2 b false then
    some (((upd q0.1.1.1 b (IntKind.i64.wrap ((rd q0.1.1.1 b 0)+1)),q0.1.1.2),false,false,()),())
   else
    ix q0.1.1.2 b <|
    (aiN k (upd q0.1.1.2 b true) false).bind fun q2 =>
    some (((upd q0.1.1.1 b (IntKind.i64.wrap ((rd q0.1.1.1 b 0)+1)),upd q0.1.1.2 b true),true,!q2.1.1,()),()))))
def F155:Fn:=⟨[Xo,au],[TS,rB,rB],fun k x=>afA k x.1 x.2.1⟩
theorem ok155:O 155 F155:=okF (ah ok147 <| ah ok196 <| ah ok197 aj) [] On Tryz.func155 rfl
abbrev afB:Cut:=⟨[0,6],[.pin false 0,.cell .bool],[.fK 150 [cI,cI,.own 77 D9,.own 96 sw,.cell .bool,.cell .bool,.cell .bool,.cell (.sl 94 qb),.own 3 (.int .i64),.own 4 .bool,.own 124 uo,.own 3 (.int .i64),.own 4 .bool,.own 82 EY]],55,[]⟩
def LA (k:Nat) (t u:Int) (v:List je) (w:List (PN Int 5)) (y z A:Bool) (B:List j5) (C:List Int) (D:List Bool) (G:List jl) (H:List Int) (I:List Bool) (J:List (PN Int 6)) (K:Bool):Option uy :=
 (bif K then
  (Wp k t u v w y z A B C D G H I J (0,10,0,0,0,0)).bind fun (_,(a,b,c,e,f,_,h,i,l,m,n,o,p,s,_),_) =>
  some ((),(a,b,c,e,f,true,h,i,l,m,n,o,p,s,()),())
 else
  some ((),(t,u,v,w,y,z,A,B,C,D,G,H,I,J,()),()))
def afC (k:Nat) (t f1:Int) (h1:List je) (i1:List (PN Int 5)) (l1 m1 n1:Bool) (o1:List j5) (p1:List Int) (s1:List Bool) (t1:List jl) (u1:List Int) (v1:List Bool) (w1:List (PN Int 6)) (y1:abx):Option uy :=
 (Wp k t f1 h1 i1 l1 m1 n1 o1 p1 s1 t1 u1 v1 w1 (0,5,y1.1,0,0,0)).bind fun (_,(a,b,c,e,f,h,i,l,m,n,o,p,s,u,_),_) =>
 (S30 k (a,b,c,e,f,h,i,l,((m,n),o),p,s)).bind fun q1 =>
 (acK k q1.1.1 y1.1).bind fun q2 =>
 (afy k a b c e f h i l m n o p s u q2.1.1).bind fun (_,(v,w,y,z,A,B,C,D,G,H,I,J,K,M,_),_) =>
 (afA k (J,K) y1.1).bind fun q4 =>
 (bif q4.1.2.1 then
  (Wp k v w y z A B C D G H I q4.1.1.1 q4.1.1.2 M (0,9,y1.1,0,0,0)).bind fun (_,(N,O,P,Q,T,U,V,W,X,Z,a1,b1,c1,e1,_),_) =>
  LA k N O P Q T U V W X Z a1 b1 c1 e1 q4.1.2.2.1
 else
  LA k v w y z A B C D G H I q4.1.1.1 q4.1.1.2 M q4.1.2.2.1)
def F101:Fn:=⟨[aik,abE],[],fun k ((a,b,c,e,f,h,i,l,m,n,o,p,s,t,_),u,_)=>afC k a b c e f h i l m n o p s t u⟩
theorem ok101:O 101 F101:=okF (ah ok30 <| ah ok39a <| ah ok100 <| ah ok154 <| ah ok155 aj) [] (fun k=>(.join 7 afB (fun (((a,b,c,e,f,h,i,l,m,n,o,p,s,t,_),_),_,u,_)=>LA k a b c e f h i l m n o p s t u) .nil)) Tryz.func101 rfl
abbrev acO:Cut:=⟨[0,2,9,10,11],[.pin false 0,.own 94 qb,.cell (.sl 94 qb),cI,cI],[.fK 150 [cI,cI,.own 77 D9,.own 96 sw,.cell .bool,.cell .bool,.cell .bool,.cell (.sl 94 qb),.own 3 (.int .i64),.own 4 .bool,.own 124 uo,.own 3 (.int .i64),.own 4 .bool,.own 82 EY]],57,[]⟩
def Yv (k:Nat) (g2:Int -> Int -> (List je) -> BG -> Bool -> Bool -> Bool -> (List j5) -> (List Int) -> (List Bool) -> (List jl) -> (List Int) -> (List Bool) -> (List (PN Int 6)) -> (List j5) -> (List j5) -> Int -> Int -> Option uy) (M N:Int) (O:List je) (P:List (PN Int 5)) (Q T U:Bool) (V:List j5) (W:List Int) (X:List Bool) (Z:List jl) (a1:List Int) (b1:List Bool) (c1:List (PN Int 6)) (e1 f1:List j5) (h1 i1:Int):Option uy :=
 (bif decide (i1<h1) then
  ix f1 i1 <|
  ix O (rd f1 i1 (0,0,0,0,(0,Pv (α:=Int) 8 0,[],false),(0,Pv (α:=Int) 8 0,[],false),[],false)).1 <|
  (bif (IntKind.i64.wrap (M - (rd f1 i1 (0,0,0,0,(0,Pv (α:=Int) 8 0,[],false),(0,Pv (α:=Int) 8 0,[],false),[],false)).2.1)) != (rd O (rd f1 i1 (0,0,0,0,(0,Pv (α:=Int) 8 0,[],false),(0,Pv (α:=Int) 8 0,[],false),[],false)).1 (0,0,0,[],[],[])).2.2.1 then
   ap e1 ([rd f1 i1 (0,0,0,0,(0,Pv (α:=Int) 8 0,[],false),(0,Pv (α:=Int) 8 0,[],false),[],false)]:List j5) 272 fun r0 =>
   g2 M N O P Q T U V W X Z a1 b1 c1 r0 f1 h1 (IntKind.i64.wrap (i1+1))
  else
   (bif (rd f1 i1 (0,0,0,0,(0,Pv (α:=Int) 8 0,[],false),(0,Pv (α:=Int) 8 0,[],false),[],false)).2.2.2.1==2 then
    (Wp k M N O P Q T U V W X Z a1 b1 c1 (0,13,(rd f1 i1 (0,0,0,0,(0,Pv (α:=Int) 8 0,[],false),(0,Pv (α:=Int) 8 0,[],false),[],false)).1,0,0,0)).bind fun (_,(a,b,c,e,f,h,i,l,m,n,o,p,s,t,_),_) =>
    g2 a b c e f h i l m n o p s t e1 f1 h1 (IntKind.i64.wrap (i1+1))
   else
    (afC k M N O P Q T U V W X Z a1 b1 c1 (rd f1 i1 (0,0,0,0,(0,Pv (α:=Int) 8 0,[],false),(0,Pv (α:=Int) 8 0,[],false),[],false))).bind fun (_,(u,v,w,y,z,A,B,C,D,G,H,I,J,K,_),_) =>
    g2 u v w y z A B C D G H I J K e1 f1 h1 (IntKind.i64.wrap (i1+1))))
 else
  some ((),(M,N,O,P,Q,T,U,e1,W,X,Z,a1,b1,c1,()),()))
def ahE (k:Nat):Xx (((afb×Unit)×Unit×(List j5)×(List j5)×Int×Int×Unit) -> Option uy):=dh (bq (bq (ay (ay (ay (ay (ay (ay (ay (ay (ay (ay (ay (ay (ay (ay bg)))))))))))))) bg) (bf (ay (ay (ay (ay bg)))))) (Yv k)
def Yw (k a:Nat) (b c:Int) (e:List je) (f:List (PN Int 5)) (h i l:Bool) (m:List j5) (n:List Int) (o:List Bool) (p:List jl) (s:List Int) (t:List Bool) (u:List (PN Int 6)) (v w:List j5) (y z:Int):Option uy:=iter acO (ahE k) a (((b,c,e,f,h,i,l,m,n,o,p,s,t,u,()),()),(),v,w,y,z,())
theorem Yx (k a b c e f h i l m n o p s t u v w y z):Yw k (a+1) b c e f h i l m n o p s t u v w y z=Yv k (Yw k a) b c e f h i l m n o p s t u v w y z:=Ba _ _ _ _
def S56 (k:Nat) (a b:Int) (c:List je) (e:List (PN Int 5)) (f h i:Bool) (l:List j5) (m:List Int) (n:List Bool) (o:List jl) (p:List Int) (s:List Bool) (t:List (PN Int 6)):Option uy :=
 Yw k k a b c e f h i l m n o p s t ([]:List j5) l (l.length:Int) 0
def F56:Fn:=⟨[ail],[],fun k ((a,b,c,e,f,h,i,l,m,n,o,p,s,t,_),_)=>S56 k a b c e f h i l m n o p s t⟩
theorem ok56:O 56 F56:=okF (ah ok100 <| ah ok101 aj) [(2,2)] (fun k=>(.loop 2 acO (ahE k) (fun g=>.nil) .nil)) Tryz.func56 rfl
abbrev acP:Cut:=⟨[0,9,10],[.pin false 0,cI,cI],[.fK 150 [cI,cI,.own 77 D9,.own 96 sw,.cell .bool,.cell .bool,.cell .bool,.own 94 qb,.own 3 (.int .i64),.own 4 .bool,.own 124 uo,.own 3 (.int .i64),.own 4 .bool,.own 82 EY]],48,[(8,3)]⟩
def Yy (k:Nat) (g1:Int -> Int -> (List je) -> BG -> Bool -> Bool -> Bool -> (List j5) -> (List Int) -> (List Bool) -> (List jl) -> (List Int) -> (List Bool) -> (List (PN Int 6)) -> Int -> Int -> Option uy) (a b:Int) (c:List je) (e:List (PN Int 5)) (f h i:Bool) (l:List j5) (m:List Int) (n:List Bool) (o:List jl) (p:List Int) (s:List Bool) (t:List (PN Int 6)) (u v:Int):Option uy :=
 (bif decide (v<u) then
  ix l v <|
  (bif (rd l v (0,0,0,0,(0,Pv (α:=Int) 8 0,[],false),(0,Pv (α:=Int) 8 0,[],false),[],false)).2.2.2.1 != 2 then
   ix e (rd l v (0,0,0,0,(0,Pv (α:=Int) 8 0,[],false),(0,Pv (α:=Int) 8 0,[],false),[],false)).1 <|
   (bif decide ((IntKind.i64.wrap (a - (rd l v (0,0,0,0,(0,Pv (α:=Int) 8 0,[],false),(0,Pv (α:=Int) 8 0,[],false),[],false)).2.1))≥(rd e (rd l v (0,0,0,0,(0,Pv (α:=Int) 8 0,[],false),(0,Pv (α:=Int) 8 0,[],false),[],false)).1 (Pv (α:=Int) 5 0)).2.2.2.2) then
    ix l v <|
    let r0:List j5:=upd l v ((rd l v (0,0,0,0,(0,Pv (α:=Int) 8 0,[],false),(0,Pv (α:=Int) 8 0,[],false),[],false)).1,(rd l v (0,0,0,0,(0,Pv (α:=Int) 8 0,[],false),(0,Pv (α:=Int) 8 0,[],false),[],false)).2.1,(rd l v (0,0,0,0,(0,Pv (α:=Int) 8 0,[],false),(0,Pv (α:=Int) 8 0,[],false),[],false)).2.2.1,(rd l v (0,0,0,0,(0,Pv (α:=Int) 8 0,[],false),(0,Pv (α:=Int) 8 0,[],false),[],false)).2.2.2.1,(rd l v (0,0,0,0,(0,Pv (α:=Int) 8 0,[],false),(0,Pv (α:=Int) 8 0,[],false),[],false)).2.2.2.2.1,(rd l v (0,0,0,0,(0,Pv (α:=Int) 8 0,[],false),(0,Pv (α:=Int) 8 0,[],false),[],false)).2.2.2.2.2.1,(rd l v (0,0,0,0,(0,Pv (α:=Int) 8 0,[],false),(0,Pv (α:=Int) 8 0,[],false),[],false)).2.2.2.2.2.2.1,true)
    g1 a b c e f h i r0 m n o p s t u (IntKind.i64.wrap (v+1))
   else
    g1 a b c e f h i l m n o p s t u (IntKind.i64.wrap (v+1)))
  else
   g1 a b c e f h i l m n o p s t u (IntKind.i64.wrap (v+1)))
 else
  some ((),(a,b,c,e,f,h,i,l,m,n,o,p,s,t,()),()))
def ahF (k:Nat):Xx (((afb×Unit)×Unit×Int×Int×Unit) -> Option uy):=dh (bq (bq (ay (ay (ay (ay (ay (ay (ay (ay (ay (ay (ay (ay (ay (ay bg)))))))))))))) bg) (bf (ay (ay bg)))) (Yy k)
def Yz (k a:Nat) (b c:Int) (e:List je) (f:List (PN Int 5)) (h i l:Bool) (m:List j5) (n:List Int) (o:List Bool) (p:List jl) (s:List Int) (t:List Bool) (u:List (PN Int 6)) (v w:Int):Option uy:=iter acP (ahF k) a (((b,c,e,f,h,i,l,m,n,o,p,s,t,u,()),()),(),v,w,())
theorem YA (k a b c e f h i l m n o p s t u v w):Yz k (a+1) b c e f h i l m n o p s t u v w=Yy k (Yz k a) b c e f h i l m n o p s t u v w:=Ba _ _ _ _
def S57 (k:Nat) (a b:Int) (c:List je) (e:List (PN Int 5)) (f h i:Bool) (l:List j5) (m:List Int) (n:List Bool) (o:List jl) (p:List Int) (s:List Bool) (t:List (PN Int 6)):Option uy :=
 Yz k k a b c e f h i l m n o p s t (l.length:Int) 0
def F57:Fn:=⟨[ail],[],fun k ((a,b,c,e,f,h,i,l,m,n,o,p,s,t,_),_)=>S57 k a b c e f h i l m n o p s t⟩
theorem ok57:O 57 F57:=okF aj [] (fun k=>(.loop 1 acP (ahF k) (fun g=>.nil) .nil)) Tryz.func57 rfl
def alf (k:Nat) (a:Int) (b:Int×Int):Option ((jl×Unit)×Unit) :=
 (bif a==1 then
  some (((a,b,(8,0),([],[]),(0,[]),0),()),())
 else
  some (((a,b,(0,0),([],[]),(0,[]),0),()),()))
def F156:Fn:=⟨[au,.val ⟨true,qg,false⟩],[.val ⟨true,uo,true⟩],fun k x=>alf k x.1 x.2.1⟩
theorem ok156:O 156 F156:=okF aj [] On Tryz.func156 rfl
def alg (k:Nat) (a:(List Int)×List Int):Option ((((List Int)×List Int)×(List Int)×Unit)×Unit) :=
 (Um k a.2).bind fun q0 =>
 some ((([],[]),q0.1.1,()),())
def F198:Fn:=⟨[.val ⟨true,(.pair zf qc),false⟩],[.val ⟨true,(.pair zf qc),true⟩,PX],fun k x=>alg k x.1⟩
theorem ok198:O 198 F198:=okF (ah ok140 aj) [] On Tryz.func198 rfl
abbrev YB:Cut:=⟨[2,3,7,8,9],[.box 120 [.cell (.int .u32),.nil],.own 3 (.int .i64),.cell (.sl 297 DI),cI,cI],[],21,[]⟩
def aiO (k:Nat) (g2:Int -> (List Int) -> pz -> Int -> Int -> Option TH) (x:Int) (a:List Int) (b:j3) (c e:Int):Option TH :=
 (bif decide (e<c) then
  ix b e <|
  ap a ([(rd b e (0,0)).1]:List Int) 8 fun r0 =>
  g2 x r0 b c (IntKind.i64.wrap (e+1))
 else
  some (((x,[]),a,()),()))
def acQ (k:Nat):Xx (((Unit)×(Int×Unit×Unit)×(List Int)×pz×Int×Int×Unit) -> Option TH):=dh (bf (bq (ay (bf bg)) (ay (ay (ay (ay bg)))))) (aiO k)
def aiP (k a:Nat) (x:Int) (b:List Int) (c:j3) (e f:Int):Option TH:=iter YB (acQ k) a ((),(x,(),()),b,c,e,f,())
def alh (k:Nat) (a:Int×List (Int×Int)):Option TH :=
 aiP k k 0 ([]:List Int) a.2 (a.2.length:Int) 0
def F199:Fn:=⟨[.val ⟨true,(.pair (.int .u32) (.sl 297 DI)),false⟩],[.val ⟨true,(.pair (.int .u32) (.sl 297 DI)),true⟩,PX],fun k x=>alh k x.1⟩
theorem ok199:O 199 F199:=okF aj [(3,2)] (fun k=>(.loop 2 YB (acQ k) (fun g=>.nil) .nil)) Tryz.func199 rfl
def ali (k:Nat) (a:Int):Option ng :=
 (bif decide (a<0) then
  none
 else
  (bif decide ((IntKind.i64.wrap (a - 0))>0) then
   az ([]:List Int) (IntKind.i64.wrap (a - 0)) 8 0 fun r0 =>
   sx r0 0 0 <|
   some ((r0.take 0,()),())
  else
   some (([],()),())))
def F224:Fn:=⟨[.pv (.nil),au],[PX],fun k x=>ali k x.2.1⟩
theorem ok224:O 224 F224:=okF aj [(25,1)] On Tryz.func224 rfl
abbrev Uw:Cut:=⟨[6,25,26,27],[.own 3 (.int .i64),.cell (.sl 27 qc),cI,cI],[],36,[]⟩
def afD (k:Nat) (g11:(List Int) -> KT -> Int -> Int -> Option ng) (a:List Int) (b:List (List Int)) (c e:Int):Option ng :=
 (bif decide (e<c) then
  ix b e <|
  ap a (rd b e []) 8 fun r1 =>
  g11 r1 b c (IntKind.i64.wrap (e+1))
 else
  some ((a,()),()))
def YC (k:Nat):Xx (((Unit)×(List Int)×KT×Int×Int×Unit) -> Option ng):=dh (bf (ay (ay (ay (ay bg))))) (afD k)
def afE (k a:Nat) (b:List Int) (c:List (List Int)) (e f:Int):Option ng:=iter Uw (YC k) a ((),b,c,e,f,())
abbrev YD:Cut:=⟨[0,3,9,10,11],[.cell (.sl 27 qc),cI,.cell (.sl 27 qc),cI,cI],[],36,[]⟩
def aiQ (k:Nat) (g3:KT -> Int -> KT -> Int -> Int -> Option ng) (a:List (List Int)) (b:Int) (c:List (List Int)) (e f:Int):Option ng :=
 (bif decide (f<e) then
  ix c f <|
  (bif decide ((IntKind.i64.wrap (b+((rd c f []).length:Int)))<0) then
   none
  else
   g3 a (IntKind.i64.wrap (b+((rd c f []).length:Int))) c e (IntKind.i64.wrap (f+1)))
 else
  (ali k b).bind fun q0 =>
  afE k k q0.1.1 a (a.length:Int) 0)
def acR (k:Nat):Xx (((Unit)×KT×Int×KT×Int×Int×Unit) -> Option ng):=dh (bf (ay (ay (ay (ay (ay bg)))))) (aiQ k)
def aiR (k a:Nat) (b:List (List Int)) (c:Int) (e:List (List Int)) (f h:Int):Option ng:=iter YD (acR k) a ((),b,c,e,f,h,())
def alj (k:Nat) (a:List (List Int)):Option ng :=
 aiR k k a 0 a (a.length:Int) 0
def F200:Fn:=⟨[.val ⟨false,(.sl 27 qc),false⟩],[PX],fun k x=>alj k x.1⟩
theorem ok200:O 200 F200:=okF (ah ok224 aj) [] (fun k=>(.loop 11 Uw (YC k) (fun g=>.nil) (.loop 3 YD (acR k) (fun g=>.nil) .nil))) Tryz.func200 rfl
def alk (k:Nat) (x:TG):Option ng :=
 (alg k x.2.2.2.1).bind fun q0 =>
 (alh k x.2.2.2.2.1).bind fun q1 =>
 (alj k ([q0.1.2.1,q1.1.2.1]:List (List Int))).bind fun q2 =>
 some ((q2.1.1,()),())
def F157:Fn:=⟨[TT],[PX],fun k x=>alk k x.1⟩
theorem ok157:O 157 F157:=okF (ah ok198 <| ah ok199 <| ah ok200 aj) [] On Tryz.func157 rfl
abbrev afF:Cut:=⟨[1,2,3,4,5,6,7,11,12,13],[.box 33 [.cell qc,.cell (.sl 4 .bool),.cell (.sl 124 uo)],.box 33 [.own 3 (.int .i64),.own 4 .bool,.own 124 uo],.own 3 (.int .i64),.own 27 qc,cI,.box 124 [cI,cI,cI,cI,cI,.cell zf,.cell qc,.cell (.int .u32),.cell (.sl 297 DI),.cell (.int .u32)],.box 124 [cI,cI,cI,cI,cI,.own 2 (.int .i64),.own 3 (.int .i64),.cell (.int .u32),.own 297 DI,.cell (.int .u32)],.cell (.sl 124 uo),cI,cI],[],61,[]⟩
def Wv (k:Nat) (g3:abv) (a:List Int) (b:List Bool) (c:List jl) (e:List Int) (f:List Bool) (h:List jl) (i:List Int) (l:List (List Int)) (m x n o p s:Int) (t u:List Int) (v:Int) (w:j3) (y z A B C D:Int) (G H:List Int) (I:Int) (J:j3) (K:Int) (M:List jl) (N O:Int):Option TI :=
 (aiE k (z,(A,B),(C,D),(G,H),(I,J),K)).bind fun q4 =>
 ix h m <|
 ap i ([m]:List Int) 8 fun r5 =>
 (alk k (x,(n,o),(p,s),(t,u),(v,w),y)).bind fun q6 =>
 ap l ([q6.1.1]:List (List Int)) 24 fun r7 =>
 g3 a b c e f (upd h m q4.1.1) r5 r7 M N (IntKind.i64.wrap (O+1))
abbrev YE:Cut:=⟨[1,2,3,4,11,12,13],[.box 33 [.cell qc,.cell (.sl 4 .bool),.cell (.sl 124 uo)],.box 33 [.own 3 (.int .i64),.own 4 .bool,.own 124 uo],.own 3 (.int .i64),.own 27 qc,.cell (.sl 124 uo),cI,cI],[],61,[]⟩
def aiS (k:Nat) (g3:abv) (a:List Int) (b:List Bool) (c:List jl) (e:List Int) (f:List Bool) (h:List jl) (i:List Int) (l:List (List Int)) (m:List jl) (n o:Int):Option TI :=
 (bif decide (o<n) then
  ix m o <|
  (aix k ((a,b),c) o).bind fun q1 =>
  (bif !q1.1.1 then
   g3 a b c e f h i l m n (IntKind.i64.wrap (o+1))
  else
   (afq k (rd m o (0,(0,0),(0,0),([],[]),(0,[]),0))).bind fun q2 =>
   (bif (rd m o (0,(0,0),(0,0),([],[]),(0,[]),0)).2.2.2.2.2==q2.1.1 then
    g3 a b c e f h i l m n (IntKind.i64.wrap (o+1))
   else
    (alf k (rd m o (0,(0,0),(0,0),([],[]),(0,[]),0)).1 (rd m o (0,(0,0),(0,0),([],[]),(0,[]),0)).2.1).bind fun q3 =>
    (bif (rd m o (0,(0,0),(0,0),([],[]),(0,[]),0)).1==1 then
     Wv k g3 a b c e f h i l o (rd m o (0,(0,0),(0,0),([],[]),(0,[]),0)).1 (rd m o (0,(0,0),(0,0),([],[]),(0,[]),0)).2.1.1 (rd m o (0,(0,0),(0,0),([],[]),(0,[]),0)).2.1.2 (rd m o (0,(0,0),(0,0),([],[]),(0,[]),0)).2.2.1.1 (rd m o (0,(0,0),(0,0),([],[]),(0,[]),0)).2.2.1.2 (rd m o (0,(0,0),(0,0),([],[]),(0,[]),0)).2.2.2.1.1 (rd m o (0,(0,0),(0,0),([],[]),(0,[]),0)).2.2.2.1.2 (rd m o (0,(0,0),(0,0),([],[]),(0,[]),0)).2.2.2.2.1.1 (rd m o (0,(0,0),(0,0),([],[]),(0,[]),0)).2.2.2.2.1.2 (rd m o (0,(0,0),(0,0),([],[]),(0,[]),0)).2.2.2.2.2 q3.1.1.1 q3.1.1.2.1.1 q3.1.1.2.1.2 (rd m o (0,(0,0),(0,0),([],[]),(0,[]),0)).2.2.1.1 q3.1.1.2.2.1.2 q3.1.1.2.2.2.1.1 q3.1.1.2.2.2.1.2 q3.1.1.2.2.2.2.1.1 q3.1.1.2.2.2.2.1.2 q3.1.1.2.2.2.2.2 m n o
    else
     Wv k g3 a b c e f h i l o (rd m o (0,(0,0),(0,0),([],[]),(0,[]),0)).1 (rd m o (0,(0,0),(0,0),([],[]),(0,[]),0)).2.1.1 (rd m o (0,(0,0),(0,0),([],[]),(0,[]),0)).2.1.2 (rd m o (0,(0,0),(0,0),([],[]),(0,[]),0)).2.2.1.1 (rd m o (0,(0,0),(0,0),([],[]),(0,[]),0)).2.2.1.2 (rd m o (0,(0,0),(0,0),([],[]),(0,[]),0)).2.2.2.1.1 (rd m o (0,(0,0),(0,0),([],[]),(0,[]),0)).2.2.2.1.2 (rd m o (0,(0,0),(0,0),([],[]),(0,[]),0)).2.2.2.2.1.1 (rd m o (0,(0,0),(0,0),([],[]),(0,[]),0)).2.2.2.2.1.2 (rd m o (0,(0,0),(0,0),([],[]),(0,[]),0)).2.2.2.2.2 q3.1.1.1 q3.1.1.2.1.1 q3.1.1.2.1.2 q3.1.1.2.2.1.1 q3.1.1.2.2.1.2 q3.1.1.2.2.2.1.1 q3.1.1.2.2.2.1.2 q3.1.1.2.2.2.2.1.1 q3.1.1.2.2.2.2.1.2 q3.1.1.2.2.2.2.2 m n o)))
 else
  some ((((e,f),h),i,l,()),()))
def acS (k:Nat):Xx (((Unit)×aby×aby×(List Int)×KT×(List jl)×Int×Int×Unit) -> Option TI):=dh (bf (bq (ay (ay (ay bg))) (bq (ay (ay (ay bg))) (ay (ay (ay (ay (ay bg)))))))) (aiS k)
def aiT (k a:Nat) (b:List Int) (c:List Bool) (e:List jl) (f:List Int) (h:List Bool) (i:List jl) (l:List Int) (m:List (List Int)) (n:List jl) (o p:Int):Option TI:=iter YE (acS k) a ((),(b,c,e,()),(f,h,i,()),l,m,n,o,p,())
def afG (k:Nat) (a:EZ×List jl):Option TI :=
 (aiw k a).bind fun q0 =>
 aiT k k a.1.1 a.1.2 a.2 q0.1.1.1.1 q0.1.1.1.2 q0.1.1.2 ([]:List Int) ([]:List (List Int)) a.2 (a.2.length:Int) 0
def F102:Fn:=⟨[abB],[Xq,PX,.val ⟨false,(.sl 27 qc),true⟩],fun k x=>afG k x.1⟩
theorem ok102:O 102 F102:=okF (ah ok142 <| ah ok143 <| ah ok144 <| ah ok146 <| ah ok156 <| ah ok157 aj) [(3,2),(4,2)] (fun k=>(.loop 3 YE (acS k) (fun g=>(fun (g3:abv)=>(.join 9 afF (fun (_,(a,b,c,_),(e,f,h,_),i,l,m,(n,o,p,s,t,u,v,w,y,z,_),(A,B,C,D,G,H,I,J,K,M,_),N,O,P,_)=>Wv k g3 a b c e f h i l m n o p s t u v w y z A B C D G H I J K M N O P) .nil)) (fun t1 t2 t3 out anp anq places who t11 t12 t13=>g ((),(t1,t2,t3,()),(out,anp,anq,()),places,who,t11,t12,t13,()))) .nil)) Tryz.func102 rfl
def FC (k:Nat) (a b:Int) (c:List je) (e:List (PN Int 5)) (f h i:Bool) (l:List j5) (m:List Int) (n:List Bool) (o:List jl) (p:List Int) (s:List Bool) (t:List (PN Int 6)) (u:PN Int 6):Option uy :=
 ap t ([(a,u.2)]:List (PN Int 6)) 48 fun r0 =>
 some ((),(a,b,c,e,f,h,i,l,m,n,o,p,s,r0,()),())
def F100a:Fn:=⟨[ail,.val ⟨true,EY,false⟩],[],fun k ((a,b,c,e,f,h,i,l,m,n,o,p,s,t,_),u,_)=>FC k a b c e f h i l m n o p s t u⟩
theorem ok100a:O 100 F100a:=okF aj [] On Tryz.func100 rfl
abbrev YF:Cut:=⟨[0,1,7,8],[.cell qc,cI,cI,cI],[],19,[]⟩
def aiU (k:Nat) (g2:(List Int) -> Int -> Int -> Int -> Option jd) (a:List Int) (b c e:Int):Option jd :=
 (bif decide (e<c) then
  ix a e <|
  (bif b==(rd a e 0) then
   some ((e,()),())
  else
   g2 a b c (IntKind.i64.wrap (e+1)))
 else
  some (((-1),()),()))
def acT (k:Nat):Xx (((Unit)×(List Int)×Int×Int×Int×Unit) -> Option jd):=dh (bf (ay (ay (ay (ay bg))))) (aiU k)
def aiV (k a:Nat) (b:List Int) (c e f:Int):Option jd:=iter YF (acT k) a ((),b,c,e,f,())
def alm (k:Nat) (a:List Int) (b:Int):Option jd :=
 aiV k k a b (a.length:Int) 0
def F103:Fn:=⟨[ain,au],[rI],fun k x=>alm k x.1 x.2.1⟩
theorem ok103:O 103 F103:=okF aj [] (fun k=>(.loop 2 YF (acT k) (fun g=>.nil) .nil)) Tryz.func103 rfl
end
end Go.Proofs.YtmmagcjlfcicfaaGreat.Ab
