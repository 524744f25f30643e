import Derived.Test.YtmmagcjlfcicfaaGreatAbU0
/- Contracts, printed by this session's own program gen.py. -/
set_option linter.unusedVariables false
set_option linter.unusedSimpArgs false
set_option maxRecDepth 100000
namespace Go.Proofs.YtmmagcjlfcicfaaGreat.Ab
open Go.RowKit
abbrev jv:Type:=Int×Int×Int×Int×(Int×(PN Int 8)×(List (Int×Int×Int))×Bool)×(Int×(PN Int 8)×(List (Int×Int×Int))×Bool)×(List Int)×Bool
abbrev l7:Type:=Int×Int×Int×(List (Int×Int×Int×Int))×(List (Int×Int×Int×Int))×List (Int×Int×Int×Int)
abbrev IG:Ty:=.pair (.int .i64) (.pair (.int .i64) (.pair (.int .i64) (.pair (.int .i64) (.pair (.pair (.int .i64) (.pair (Am 8 (.int .i64)) (.pair (.sl 233 (.pair (.int .i64) (.pair (.int .i64) (.int .i64)))) .bool))) (.pair (.pair (.int .i64) (.pair (Am 8 (.int .i64)) (.pair (.sl 233 (.pair (.int .i64) (.pair (.int .i64) (.int .i64)))) .bool))) (.pair (.sl 3 (.int .i64)) .bool))))))
abbrev jo:Type:=Int×(Int×Int)×(Int×Int)×((List Int)×List Int)×(Int×List (Int×Int))×Int
abbrev zo:Ty:=.pair (.int .i64) (.pair (.int .i64) (.pair (.int .i64) (.pair (.sl 87 (.pair (.int .i64) (.pair (.int .i64) (.pair (.int .i64) (.int .i64))))) (.pair (.sl 87 (.pair (.int .i64) (.pair (.int .i64) (.pair (.int .i64) (.int .i64))))) (.sl 87 (.pair (.int .i64) (.pair (.int .i64) (.pair (.int .i64) (.int .i64)))))))))
abbrev II:Ty:=.pair (.int .i64) (.pair (.pair (.int .i64) (.int .i64)) (.pair (.pair (.int .i64) (.int .i64)) (.pair (.pair (.sl 2 (.int .i64)) (.sl 3 (.int .i64))) (.pair (.pair (.int .u32) (.sl 297 (.pair (.int .i64) (.int .u32)))) (.int .u32)))))
abbrev Ww:Type:=Int×Int×(List l7)×(List (PN Int 5))×Bool×Bool×Bool×(List jv)×(List Int)×(List Bool)×(List jo)×(List Int)×(List Bool)×(List (PN Int 6))×Unit
abbrev MU:Type:=Int×Int×(List l7)×(List (PN Int 5))×Bool×Bool×Bool×(List jv)×(((List Int)×List Bool)×List jo)×(List Int)×List Bool
abbrev aiW:Ty:=.pair (.int .i64) (.pair (.int .i64) (.pair (.sl 77 zo) (.pair (.sl 96 (Am 5 (.int .i64))) (.pair .bool (.pair .bool (.pair .bool (.pair (.sl 94 IG) (.pair (.pair (.pair (.sl 3 (.int .i64)) (.sl 4 .bool)) (.sl 122 II)) (.pair (.sl 3 (.int .i64)) (.sl 4 .bool))))))))))
abbrev Ux:Type:=Int×Int×(List l7)×(List (PN Int 5))×Bool×Bool×Bool×(List jv)×(List Int)×(List Bool)×(List jo)×(List Int)×(List Bool)×Unit
abbrev CV:Ty:=.pair (.int .i64) (.int .i64)
abbrev wu:Type:=Int×(Int×l7×(Int×Int)×Int×Int×Int)×Int×Int
abbrev JC:Type:=Int -> Int -> (List l7) -> (List (PN Int 5)) -> Bool -> Bool -> Bool -> (List jv) -> (List Int) -> (List Bool) -> (List jo) -> (List Int) -> (List Bool) -> (List (PN Int 6)) -> (List (List Int)) -> (List Int) -> Int -> Int -> Option ((Unit)×Ww×Unit)
abbrev lu:Type:=Int×Int×Int×Int
abbrev ahG:Type:=Int×Int×Int×Int×Int×Int×Int×Int×Int×Int×Int×Int×Int×(List (Int×Int×Int))×Bool×Int×Int×Int×Int×Int×Int×Int×Int×Int×(List (Int×Int×Int))×Bool×(List Int)×Bool×Unit
abbrev YG:Type:=Int×(PN Int 8)×(List (Int×Int×Int))×Bool
abbrev JD:Type:=Int×Int×(List l7)×(List (PN Int 5))×Bool×Bool×Bool×(List jv)×(((List Int)×List Bool)×List jo)×(List Int)×List Bool
abbrev DK:Type:=(List Int)×Int×Unit
abbrev ko:Ty:=.sl 3 (.int .i64)
abbrev Uy:Type:=Int×Int×Unit×Unit×Bool×Bool×Bool×Unit×Unit×Unit×Unit×Unit×Unit×Unit
abbrev tq:Ty:=.pair (.int .i64) CV
abbrev ku:Type:=(Int×Unit)×Unit
abbrev mo:Type:=List (Int×Int)
abbrev ahH:Ty:=.pair (.int .i64) (.pair zo (.pair CV (.pair (.int .i64) (.pair (.int .i64) (.int .u32)))))
abbrev uj:Type:=(Int×Bool×Unit)×Unit
abbrev ow:Type:=Int×Int×Int
abbrev zh:Type:=(List Int)×List Bool
abbrev ahI:Ty:=.pair (.int .i64) (.pair (Am 8 (.int .i64)) (.pair (.sl 233 tq) .bool))
abbrev FD:Type:=((List lu)×Unit)×DK×Unit
abbrev Uz:Ty:=.pair ko (.sl 4 .bool)
abbrev GA:Type:=Int×Int×Int×Int×YG×YG×(List Int)×Bool
abbrev NQ:Type:=MU×(List (PN Int 6))×(Int×(Int×Int)×Int)×Unit
abbrev DL:Type:=((List wu)×Unit)×DK×Unit
abbrev l8:Type:=List (Int×Int)
abbrev wz:Type:=(Unit)×Ww×Unit
abbrev YH:Type:=Int×List (Int×Int)
abbrev DN:Ty:=.pair (.int .i64) (.int .u32)
abbrev NR:Type:=((zh×List jo)×(Int×Int)×Bool×Unit)×Unit
abbrev zq:Ty:=.pair (.int .i64) tq
abbrev uz:Ty:=Am 5 (.int .i64)
abbrev LB:Type:=(MU×(List (PN Int 6))×Int×Unit)×Unit
abbrev CW:Type:=((List Int)×Unit)×Unit
abbrev AO:Ty:=Am 6 (.int .i64)
abbrev UA:Type:=((List Int)×List Int)×Int×Bool×Bool×Unit
abbrev ahJ:Type:=Int×Int×Int×Int×Int×(List Int)×(List Int)×Int×mo×Int×Unit
abbrev GD:Type:=(MU×Int×Unit)×Unit
abbrev zu:Type:=List (PN Int 6)
abbrev acU:Ty:=.pair Uz (.sl 122 II)
abbrev YI:Type:=Int×(Int×Int)×(Int×Int)×((List Int)×List Int)×YH×Int
abbrev UC:Type:=(zh×(Int×Int)×Bool×Unit)×Unit
abbrev YJ:Type:=(List Int) -> Int -> Int -> (List lu) -> Int -> Option FD
abbrev ahK:Ty:=.pair (.int .i64) (.pair (.int .i64) (.pair (.sl 77 zo) (.pair (.sl 96 uz) (.pair .bool (.pair .bool (.pair .bool (.pair (.sl 94 IG) (.pair (.pair Uz (.sl 124 II)) Uz))))))))
abbrev DR:Ty:=.sl 5 (.int .u8)
abbrev UD:Type:=(jv×lu×Bool×Unit)×Unit
abbrev YK:Type:=Int×Int×Int×(List lu)×(List lu)×List lu
abbrev UE:Type:=(YH×Int×Bool×Unit)×Unit
abbrev qh:Ty:=.sl 4 .bool
abbrev NS:Ty:=.pair (.int .i64) (.pair ahH CV)
abbrev JE:Type:=(YG×Unit)×Unit
abbrev UF:Type:=(List Int) -> Int -> Int -> Option ku
abbrev NT:Ty:=.sl 114 CV
abbrev UG:Type:=Int×mo×Unit
abbrev UH:Type:=(Bool×Unit)×Ww×ahG×Unit
abbrev UJ:Type:=(YH×mo×Unit)×Unit
abbrev ahL:Type:=(List Int)×(List Bool)×(List jo)×Unit
abbrev ahM:Type:=Int -> Int -> Int -> Int -> Int -> (List Int) -> (List Int) -> Int -> mo -> Int -> (List Int) -> Int -> Option ku
abbrev JF:Ty:=.sl 2 (.int .i64)
abbrev acV:Ty:=.pair (.int .u32) (.sl 297 DN)
abbrev DT:Type:=List (PN Int 5)
abbrev AP:Ty:=.sl 122 II
abbrev zw:Ty:=.sl 94 IG
abbrev BH:Type:=List ow
abbrev aaM:PT:=.fK 150 [cI,cI,.own 77 zo,.own 96 uz,.cell .bool,.cell .bool,.cell .bool,.own 94 IG,.own 3 (.int .i64),.own 4 .bool,.own 124 II,.own 3 (.int .i64),.own 4 .bool,.own 82 AO]
abbrev aln:PT:=.fK 94 [cI,cI,cI,cI,cI,cI,cI,cI,cI,cI,cI,cI,cI,.cell (.sl 233 tq),.cell .bool,cI,cI,cI,cI,cI,cI,cI,cI,cI,.cell (.sl 233 tq),.cell .bool,.cell ko,.cell .bool]
abbrev alo:RT:=.val ⟨true,(.pair (.int .i64) (.pair CV (.int .i64))),true⟩
abbrev alp:PT:=.val ⟨true,(.pair JF ko),false⟩
abbrev alq:RT:=.val ⟨true,(.pair JF ko),false⟩
abbrev aiX:RT:=.val ⟨false,(.sl 87 zq),true⟩
abbrev acW:RT:=.val ⟨false,(.sl 82 AO),true⟩
abbrev aiY:RT:=.val ⟨false,(.int .u32),true⟩
abbrev aaN:PT:=.fK 140 [.cell DR,cI]
abbrev QY:PT:=.val ⟨false,NT,false⟩
abbrev acX:PT:=.val ⟨false,ko,false⟩
abbrev acY:PT:=.val ⟨true,ahI,false⟩
abbrev YL:RT:=.val ⟨false,NT,true⟩
abbrev acZ:PT:=.val ⟨true,ahH,false⟩
abbrev YM:PT:=.val ⟨true,Uz,false⟩
abbrev UK:PT:=.val ⟨true,CV,false⟩
abbrev NU:PT:=.val ⟨true,acU,false⟩
abbrev YN:RT:=.val ⟨true,acU,false⟩
abbrev YO:RT:=.val ⟨false,ko,true⟩
abbrev ac0:PT:=.val ⟨true,acV,false⟩
abbrev GH:PT:=.val ⟨true,IG,false⟩
abbrev UL:RT:=.val ⟨true,ahI,true⟩
abbrev YP:PT:=.val ⟨true,zo,false⟩
abbrev ac1:RT:=.val ⟨true,zq,true⟩
abbrev UM:RT:=.val ⟨true,Uz,true⟩
abbrev YQ:PT:=.val ⟨true,II,false⟩
abbrev LC:PT:=.val ⟨true,aiW,false⟩
abbrev UN:RT:=.val ⟨true,aiW,false⟩
abbrev UO:RT:=.val ⟨true,IG,true⟩
noncomputable section
abbrev YR:Cut:=⟨[0,4,9,27,28,29,67,68],[.pin false 0,.own 27 ko,cI,.own 3 (.int .i64),cI,cI,cI,cI],[.fK 150 [cI,cI,.own 77 zo,.own 96 uz,.cell .bool,.cell .bool,.cell .bool,.own 94 IG,.own 3 (.int .i64),.own 4 .bool,.own 124 II,.own 3 (.int .i64),.own 4 .bool,.own 82 AO]],85,[(66,3)]⟩
def aiZ (k:Nat) (g3:JC) (g14:Int -> Int -> (List l7) -> DT -> Bool -> Bool -> Bool -> (List jv) -> (List Int) -> (List Bool) -> (List jo) -> (List Int) -> (List Bool) -> zu -> (List (List Int)) -> Int -> (List Int) -> Int -> Int -> Int -> Int -> Option wz) (a b:Int) (c:List l7) (e:List (PN Int 5)) (f h i:Bool) (l:List jv) (m:List Int) (n:List Bool) (o:List jo) (p:List Int) (s:List Bool) (t:List (PN Int 6)) (u:List (List Int)) (v:Int) (w:List Int) (y z A B:Int):Option wz :=
 (bif decide (B<A) then
  ix l B <|
  (S81 k (rd l B (0,0,0,0,(0,Pv (α:=Int) 8 0,[],false),(0,Pv (α:=Int) 8 0,[],false),[],false)) v).bind fun q5 =>
  ix l B <|
  g14 a b c e f h i (upd l B q5.1.1) m n o p s t u v w y z A (IntKind.i64.wrap (B+1))
 else
  g3 a b c e f h i l m n o p s t u w y (IntKind.i64.wrap (z+1)))
def ac2 (k:Nat) (g3:JC):Xx (((Ww×Unit)×Unit×(List (List Int))×Int×(List Int)×Int×Int×Int×Int×Unit) -> Option wz):=dh (bq (bq (ay (ay (ay (ay (ay (ay (ay (ay (ay (ay (ay (ay (ay (ay bg)))))))))))))) bg) (bf (ay (ay (ay (ay (ay (ay (ay bg))))))))) (aiZ k g3)
def ai0 (k:Nat) (g3:JC) (a:Nat) (b c:Int) (e:List l7) (f:List (PN Int 5)) (h i l:Bool) (m:List jv) (n:List Int) (o:List Bool) (p:List jo) (s:List Int) (t:List Bool) (u:List (PN Int 6)) (v:List (List Int)) (w:Int) (y:List Int) (z A B C:Int):Option wz:=iter YR (ac2 k g3) a (((b,c,e,f,h,i,l,m,n,o,p,s,t,u,()),()),(),v,w,y,z,A,B,C,())
abbrev ac3:Cut:=⟨[0,4,6,27,28,29,41,42,43],[.pin false 0,.own 27 ko,cI,.own 3 (.int .i64),cI,cI,.cell ko,cI,cI],[.fK 150 [cI,cI,.own 77 zo,.own 96 uz,.cell .bool,.cell .bool,.cell .bool,.own 94 IG,.own 3 (.int .i64),.own 4 .bool,.own 124 II,.own 3 (.int .i64),.own 4 .bool,.own 82 AO]],85,[]⟩
def alr (k:Nat) (g3:JC) (g7:Int -> Int -> (List l7) -> DT -> Bool -> Bool -> Bool -> (List jv) -> (List Int) -> (List Bool) -> (List jo) -> (List Int) -> (List Bool) -> zu -> (List (List Int)) -> Int -> (List Int) -> Int -> Int -> (List Int) -> Int -> Int -> Option wz) (u v:Int) (w:List l7) (y:List (PN Int 5)) (z A B:Bool) (C:List jv) (D:List Int) (G:List Bool) (H:List jo) (I:List Int) (J:List Bool) (K:List (PN Int 6)) (M:List (List Int)) (N:Int) (O:List Int) (P Q:Int) (T:List Int) (U V:Int):Option wz :=
 (bif decide (V<U) then
  ix T V <|
  (FC k u v w y z A B C D G H I J K (0,12,0,rd T V 0,0,15)).bind fun (_,(a,b,c,e,f,h,i,l,m,n,o,p,s,t,_),_) =>
  g7 a b c e f h i l m n o p s t M N O P Q T U (IntKind.i64.wrap (V+1))
 else
  (S73 k ((D,G),H)).bind fun q3 =>
  (alm k q3.1.1 N).bind fun q4 =>
  (bif decide (q4.1.1≥0) then
   ai0 k g3 k u v w y z A B C D G H I J K M q4.1.1 O P Q (C.length:Int) 0
  else
   g3 u v w y z A B C D G H I J K M O P (IntKind.i64.wrap (Q+1))))
def ahN (k:Nat) (g3:JC):Xx (((Ww×Unit)×Unit×(List (List Int))×Int×(List Int)×Int×Int×(List Int)×Int×Int×Unit) -> Option wz):=dh (bq (bq (ay (ay (ay (ay (ay (ay (ay (ay (ay (ay (ay (ay (ay (ay bg)))))))))))))) bg) (bf (ay (ay (ay (ay (ay (ay (ay (ay bg)))))))))) (alr k g3)
def als (k:Nat) (g3:JC) (a:Nat) (b c:Int) (e:List l7) (f:List (PN Int 5)) (h i l:Bool) (m:List jv) (n:List Int) (o:List Bool) (p:List jo) (s:List Int) (t:List Bool) (u:List (PN Int 6)) (v:List (List Int)) (w:Int) (y:List Int) (z A:Int) (B:List Int) (C D:Int):Option wz:=iter ac3 (ahN k g3) a (((b,c,e,f,h,i,l,m,n,o,p,s,t,u,()),()),(),v,w,y,z,A,B,C,D,())
abbrev ac4:Cut:=⟨[0,4,27,28,29],[.pin false 0,.own 27 ko,.own 3 (.int .i64),cI,cI],[.fK 150 [cI,cI,.own 77 zo,.own 96 uz,.cell .bool,.cell .bool,.cell .bool,.own 94 IG,.own 3 (.int .i64),.own 4 .bool,.own 124 II,.own 3 (.int .i64),.own 4 .bool,.own 82 AO]],85,[]⟩
def ac5 (k:Nat) (g3:JC) (u v:Int) (w:List l7) (y:List (PN Int 5)) (z A B:Bool) (C:List jv) (D:List Int) (G:List Bool) (H:List jo) (I:List Int) (J:List Bool) (K:List (PN Int 6)) (M:List (List Int)) (N:List Int) (O P:Int):Option wz :=
 (bif decide (P<O) then
  ix N P <|
  (FC k u v w y z A B C D G H I J K (0,11,0,rd N P 0,0,0)).bind fun (_,(a,b,c,e,f,h,i,l,m,n,o,p,s,t,_),_) =>
  ix M P <|
  als k g3 k a b c e f h i l m n o p s t M (rd N P 0) N O P (rd M P []) ((rd M P []).length:Int) 0
 else
  some ((),(u,v,w,y,z,A,B,C,D,G,H,I,J,K,()),()))
def ahO (k:Nat):Xx (((Ww×Unit)×Unit×(List (List Int))×(List Int)×Int×Int×Unit) -> Option wz):=dh (bq (bq (ay (ay (ay (ay (ay (ay (ay (ay (ay (ay (ay (ay (ay (ay bg)))))))))))))) bg) (bf (ay (ay (ay (ay bg)))))) (ac5 k)
def ac6 (k a:Nat) (b c:Int) (e:List l7) (f:List (PN Int 5)) (h i l:Bool) (m:List jv) (n:List Int) (o:List Bool) (p:List jo) (s:List Int) (t:List Bool) (u:List (PN Int 6)) (v:List (List Int)) (w:List Int) (y z:Int):Option wz:=iter ac4 (ahO k) a (((b,c,e,f,h,i,l,m,n,o,p,s,t,u,()),()),(),v,w,y,z,())
theorem afH (k a b c e f h i l m n o p s t u v w y z):ac6 k (a+1) b c e f h i l m n o p s t u v w y z=ac5 k (ac6 k a) b c e f h i l m n o p s t u v w y z:=Ba _ _ _ _
def S58 (k:Nat) (a b:Int) (c:List l7) (e:List (PN Int 5)) (f h i:Bool) (l:List jv) (m:List Int) (n:List Bool) (o:List jo) (p:List Int) (s:List Bool) (t:List (PN Int 6)):Option wz :=
 (afG k ((m,n),o)).bind fun q0 =>
 ac6 k k a b c e f h i l q0.1.1.1.1 q0.1.1.1.2 q0.1.1.2 p s t q0.1.2.2.1 q0.1.2.1 (q0.1.2.1.length:Int) 0
def F58:Fn:=⟨[aaM],[],fun k ((a,b,c,e,f,h,i,l,m,n,o,p,s,t,_),_)=>S58 k a b c e f h i l m n o p s t⟩
theorem ok58:O 58 F58:=okF (ah ok73 <| ah ok81 <| ah ok100a <| ah ok102 <| ah ok103 aj) [] (fun k=>(.loop 3 ac4 (ahO k) (fun g=>(fun (g3:JC)=>(.loop 14 YR (ac2 k g3) (fun g=>.nil) (.loop 7 ac3 (ahN k g3) (fun g=>.nil) .nil))) (fun t14 t15 t16 t17 t18 t19 t20 t21 t22 t23 t24 t25 t26 t27 who alu t28 t29=>g (((t14,t15,t16,t17,t18,t19,t20,t21,t22,t23,t24,t25,t26,t27,()),()),(),who,alu,t28,t29,()))) .nil)) Tryz.func58 rfl
abbrev YS:Cut:=⟨[0,2,6,7,8,12,13,14],[.cell NT,cI,cI,.cell .bool,.mp 330 true (.int .i64) false .bool,.cell ko,cI,cI],[],51,[]⟩
def Wx (k:Nat) (g3:mo -> Int -> Int -> Bool -> (List (Int×Bool)) -> (List Int) -> Int -> Int -> Option uj) (a:l8) (b c:Int) (e:Bool) (f:List (Int×Bool)) (h:List Int) (i l:Int):Option uj :=
 (bif decide (l<i) then
  ix h l <|
  (afx k a (rd h l 0) b).bind fun q0 =>
  (bif !q0.1.1 then
   g3 a b c e f h i (IntKind.i64.wrap (l+1))
  else
   (bif Tx (.int .i64) .bool (rd h l 0) f false then
    g3 a b c e f h i (IntKind.i64.wrap (l+1))
   else
    (bif !e then
     ix a (rd h l 0) <|
     g3 a b (rd a (rd h l 0) (0,0)).1 true (vM (.int .i64) .bool (rd h l 0) true f) h i (IntKind.i64.wrap (l+1))
    else
     ix a (rd h l 0) <|
     (bif decide ((rd a (rd h l 0) (0,0)).1<c) then
      ix a (rd h l 0) <|
      g3 a b (rd a (rd h l 0) (0,0)).1 true (vM (.int .i64) .bool (rd h l 0) true f) h i (IntKind.i64.wrap (l+1))
     else
      g3 a b c e (vM (.int .i64) .bool (rd h l 0) true f) h i (IntKind.i64.wrap (l+1))))))
 else
  some ((c,e,()),()))
def ac7 (k:Nat):Xx (((Unit)×mo×Int×Int×Bool×(List (Int×Bool))×(List Int)×Int×Int×Unit) -> Option uj):=dh (bf (ay (ay (ay (ay (ay (ay (ay (ay bg))))))))) (Wx k)
def Wy (k a:Nat) (b:l8) (c e:Int) (f:Bool) (h:List (Int×Bool)) (i:List Int) (l m:Int):Option uj:=iter YS (ac7 k) a ((),b,c,e,f,h,i,l,m,())
theorem ac8 (k a b c e f h i l m):Wy k (a+1) b c e f h i l m=Wx k (Wy k a) b c e f h i l m:=Ba _ _ _ _
def ac9 (k:Nat) (a:l8) (b:List Int) (c:Int):Option uj :=
 Wy k k a c 0 false ([]:List (Int×Bool)) b (b.length:Int) 0
def F202:Fn:=⟨[QY,acX,au],[rI,rB],fun k (a,b,c,_)=>ac9 k a b c⟩
theorem ok202:O 202 F202:=okF (ah ok195 aj) [] (fun k=>(.loop 3 YS (ac7 k) (fun g=>.nil) .nil)) Tryz.func202 rfl
def afI (k:Nat) (a:GA) (b:Int):Option ku :=
 (bif a.2.2.2.1==2 then
  some ((IntKind.i64.wrap ((IntKind.i64.wrap (b+b))+a.1),()),())
 else
  (bif a.2.2.2.2.2.2.2 then
   some ((a.1,()),())
  else
   some ((IntKind.i64.wrap (b+a.1),()),())))
def F225:Fn:=⟨[GH,au],[rI],fun k x=>afI k x.1 x.2.1⟩
theorem ok225:O 225 F225:=okF aj [] On Tryz.func225 rfl
def ai1 (k:Nat) (a:GA) (b:Int) (c:l8):Option ku :=
 (ac9 k c a.2.2.2.2.2.2.1 a.1).bind fun q0 =>
 (bif q0.1.2.1 then
  (afI k a b).bind fun q1 =>
  some ((mn q1.1.1 q0.1.1,()),())
 else
  (afI k a b).bind fun q2 =>
  some ((q2.1.1,()),()))
def F201:Fn:=⟨[GH,au,QY],[rI],fun k (a,b,c,_)=>ai1 k a b c⟩
theorem ok201:O 201 F201:=okF (ah ok202 <| ah ok225 aj) [] On Tryz.func201 rfl
def afJ (k:Nat) (a:GA) (b:Int) (c:l8):Option ((ow×Unit)×Unit) :=
 (ai1 k a b c).bind fun q0 =>
 (ac9 k c a.2.2.2.2.2.2.1 a.1).bind fun q1 =>
 (bif q1.1.2.1 then
  some (((q0.1.1,0,a.1),()),())
 else
  some (((q0.1.1,1,a.1),()),()))
def F158:Fn:=⟨[GH,au,QY],[.val ⟨true,tq,true⟩],fun k (a,b,c,_)=>afJ k a b c⟩
theorem ok158:O 158 F158:=okF (ah ok201 <| ah ok202 aj) [] On Tryz.func158 rfl
def afK (k:Nat) (x:Int):Option ((Bool×Unit)×Unit) :=
 some ((x != x,()),())
def F227:Fn:=⟨[au],[rB],fun k x=>afK k x.1⟩
theorem ok227:O 227 F227:=okF aj [] On Tryz.func227 rfl
def aaO (k:Nat) (x a:Int):Option ku :=
 (afK k x).bind fun q0 =>
 (afK k a).bind fun q1 =>
 (bif q0.1.1 then
  (bif q1.1.1 then
   some ((0,()),())
  else
   some (((-1),()),()))
 else
  (bif q1.1.1 then
   some ((1,()),())
  else
   (bif decide (x<a) then
    some (((-1),()),())
   else
    (bif decide (x>a) then
     some ((1,()),())
    else
     some ((0,()),())))))
def F206:Fn:=⟨[au,au],[rI],fun k x=>aaO k x.1 x.2.1⟩
theorem ok206:O 206 F206:=okF (ah ok227 aj) [] On Tryz.func206 rfl
abbrev YT:Cut:=⟨[3,6,7,8],[cI,.cell ko,cI,cI],[],18,[]⟩
def IJ (k:Nat) (g3:Int -> (List Int) -> Int -> Int -> Option ku) (a:Int) (b:List Int) (c e:Int):Option ku :=
 (bif decide (e<c) then
  ix b e <|
  (bif (rd b e 0) != a then
   some ((rd b e 0,()),())
  else
   g3 a b c (IntKind.i64.wrap (e+1)))
 else
  some ((a,()),()))
def ada (k:Nat):Xx (((Unit)×Int×(List Int)×Int×Int×Unit) -> Option ku):=dh (bf (ay (ay (ay (ay bg))))) (IJ k)
def Wz (k a:Nat) (b:Int) (c:List Int) (e f:Int):Option ku:=iter YT (ada k) a ((),b,c,e,f,())
theorem GI (k a b c e f):Wz k (a+1) b c e f=IJ k (Wz k a) b c e f:=Ba _ _ _ _
def ai2 (k:Nat) (a:List Int):Option ku :=
 Wz k k 0 a (a.length:Int) 0
def F205:Fn:=⟨[acX],[rI],fun k x=>ai2 k x.1⟩
theorem ok205:O 205 F205:=okF aj [] (fun k=>(.loop 3 YT (ada k) (fun g=>.nil) .nil)) Tryz.func205 rfl
def aaP (k:Nat) (a b:Int×Int×Int):Option ku :=
 (aaO k a.1 b.1).bind fun q0 =>
 (aaO k a.2.1 b.2.1).bind fun q1 =>
 (aaO k a.2.2 b.2.2).bind fun q2 =>
 (ai2 k ([q0.1.1,q1.1.1,q2.1.1]:List Int)).bind fun q3 =>
 some ((q3.1.1,()),())
def F160:Fn:=⟨[.val ⟨true,tq,false⟩,.val ⟨true,tq,false⟩],[rI],fun k x=>aaP k x.1 x.2.1⟩
theorem ok160:O 160 F160:=okF (ah ok205 <| ah ok206 aj) [] On Tryz.func160 rfl
def alv (k:Nat) (a:Int):Option ku :=
 (bif decide (a<0) then
  some ((0,()),())
 else
  (bif decide (a≥64) then
   some ((0,()),())
  else
   Tk a <|
   some ((Tm .u64 1 a,()),())))
def F226:Fn:=⟨[au],[.val ⟨false,(.int .u64),true⟩],fun k x=>alv k x.1⟩
theorem ok226:O 226 F226:=okF aj [] On Tryz.func226 rfl
def adb (k:Nat) (a b:Int):Option ku :=
 (alv k b).bind fun q0 =>
 some ((Uf .u64 a q0.1.1,()),())
def F203:Fn:=⟨[.val ⟨false,(.int .u64),false⟩,au],[.val ⟨false,(.int .u64),true⟩],fun k x=>adb k x.1 x.2.1⟩
theorem ok203:O 203 F203:=okF (ah ok226 aj) [] On Tryz.func203 rfl
abbrev YU:Cut:=⟨[0,2,4],[.cell (.int .u64),cI,cI],[],23,[]⟩
def ai3 (k:Nat) (g4:Int -> Int -> Int -> Option uj) (a b c:Int):Option uj :=
 (bif decide (c>0) then
  Tk (IntKind.i64.wrap (64 - c)) <|
  (bif (Tm .u64 a (IntKind.i64.wrap (64 - c)))==0 then
   Tk c <|
   g4 (Tn .u64 a c) (IntKind.i64.wrap (b+c)) (IntKind.i64.wrap (Int.tdiv c 2))
  else
   g4 a b (IntKind.i64.wrap (Int.tdiv c 2)))
 else
  some ((b,true,()),()))
def ade (k:Nat):Xx (((Unit)×Int×Int×Int×Unit) -> Option uj):=dh (bf (ay (ay (ay bg)))) (ai3 k)
def ai4 (k a:Nat) (b c e:Int):Option uj:=iter YU (ade k) a ((),b,c,e,())
def ai5 (k:Nat) (a:Int):Option uj :=
 (bif a==0 then
  some ((0,false,()),())
 else
  ai4 k k a 0 32)
def F204:Fn:=⟨[.val ⟨false,(.int .u64),false⟩],[rI,rB],fun k x=>ai5 k x.1⟩
theorem ok204:O 204 F204:=okF aj [] (fun k=>(.loop 4 YU (ade k) (fun g=>.nil) .nil)) Tryz.func204 rfl
abbrev YV:Cut:=⟨[3,4,13,14,15],[.box 261 [cI,cI,cI],.cell (.int .u64),.cell (.sl 261 tq),cI,cI],[],42,[]⟩
def LD (k:Nat) (g3:Int -> Int -> Int -> Int -> BH -> Int -> Int -> Option ku) (a b c e:Int) (f:List ow) (h i:Int):Option ku :=
 (bif decide (i<h) then
  ix f i <|
  (aaP k (rd f i (0,0,0)) (a,b,c)).bind fun q0 =>
  (bif decide (q0.1.1<0) then
   (adb k 0 i).bind fun q1 =>
   g3 (rd f i (0,0,0)).1 (rd f i (0,0,0)).2.1 (rd f i (0,0,0)).2.2 q1.1.1 f h (IntKind.i64.wrap (i+1))
  else
   (bif q0.1.1==0 then
    (adb k e i).bind fun q2 =>
    g3 a b c q2.1.1 f h (IntKind.i64.wrap (i+1))
   else
    g3 a b c e f h (IntKind.i64.wrap (i+1))))
 else
  (ai5 k e).bind fun q3 =>
  some ((q3.1.1,()),()))
def adf (k:Nat):Xx (((Unit)×(Int×Int×Int×Unit)×Int×BH×Int×Int×Unit) -> Option ku):=dh (bf (bq (ay (ay (ay bg))) (ay (ay (ay (ay bg)))))) (LD k)
def IK (k a:Nat) (b c e f:Int) (h:List ow) (i l:Int):Option ku:=iter YV (adf k) a ((),(b,c,e,()),f,h,i,l,())
theorem LG (k a b c e f h i l):IK k (a+1) b c e f h i l=LD k (IK k a) b c e f h i l:=Ba _ _ _ _
def afL (k:Nat) (a:List ow):Option ku :=
 ix a 0 <|
 IK k k (rd a 0 (0,0,0)).1 (rd a 0 (0,0,0)).2.1 (rd a 0 (0,0,0)).2.2 0 a (a.length:Int) 0
def F159:Fn:=⟨[.val ⟨false,(.sl 261 tq),false⟩],[rI],fun k x=>afL k x.1⟩
theorem ok159:O 159 F159:=okF (ah ok160 <| ah ok203 <| ah ok204 aj) [] (fun k=>(.loop 3 YV (adf k) (fun g=>.nil) .nil)) Tryz.func159 rfl
abbrev YW:Cut:=⟨[6,7,8,11],[cI,.cell .bool,.own 261 tq,cI],[],63,[]⟩
def LH (k:Nat) (g8:Int -> Bool -> BH -> Int -> Option uj) (a:Int) (b:Bool) (c:List ow) (e:Int):Option uj :=
 (bif decide (e<(c.length:Int)) then
  sx c e (mn (IntKind.i64.wrap (e+64)) (c.length:Int)) <|
  (afL k (sub c e (mn (IntKind.i64.wrap (e+64)) (c.length:Int)))).bind fun q2 =>
  (bif !b then
   g8 (IntKind.i64.wrap (e+q2.1.1)) true c (IntKind.i64.wrap (e+64))
  else
   ix c (IntKind.i64.wrap (e+q2.1.1)) <|
   ix c a <|
   (aaP k (rd c (IntKind.i64.wrap (e+q2.1.1)) (0,0,0)) (rd c a (0,0,0))).bind fun q3 =>
   (bif decide (q3.1.1<0) then
    g8 (IntKind.i64.wrap (e+q2.1.1)) true c (IntKind.i64.wrap (e+64))
   else
    g8 a b c (IntKind.i64.wrap (e+64))))
 else
  some ((a,b,()),()))
def adg (k:Nat):Xx (((Unit)×Int×Bool×BH×Int×Unit) -> Option uj):=dh (bf (ay (ay (ay (ay bg))))) (LH k)
def IL (k a:Nat) (b:Int) (c:Bool) (e:List ow) (f:Int):Option uj:=iter YW (adg k) a ((),b,c,e,f,())
theorem LJ (k a b c e f):IL k (a+1) b c e f=LH k (IL k a) b c e f:=Ba _ _ _ _
abbrev YX:Cut:=⟨[1,2,6,7,8,14,15,16],[cI,.cell NT,cI,.cell .bool,.own 261 tq,.cell zw,cI,cI],[],63,[]⟩
def QZ (k:Nat) (g3:Int -> mo -> Int -> Bool -> BH -> (List jv) -> Int -> Int -> Option uj) (a:Int) (b:l8) (c:Int) (e:Bool) (f:List ow) (h:List jv) (i l:Int):Option uj :=
 (bif decide (l<i) then
  ix h l <|
  (afJ k (rd h l (0,0,0,0,(0,Pv (α:=Int) 8 0,[],false),(0,Pv (α:=Int) 8 0,[],false),[],false)) a b).bind fun q0 =>
  ap f ([q0.1.1]:List ow) 24 fun r1 =>
  g3 a b c e r1 h i (IntKind.i64.wrap (l+1))
 else
  IL k k c e f 0)
def adh (k:Nat):Xx (((Unit)×Int×mo×Int×Bool×BH×(List jv)×Int×Int×Unit) -> Option uj):=dh (bf (ay (ay (ay (ay (ay (ay (ay (ay bg))))))))) (QZ k)
def R6 (k a:Nat) (b:Int) (c:l8) (e:Int) (f:Bool) (h:List ow) (i:List jv) (l m:Int):Option uj:=iter YX (adh k) a ((),b,c,e,f,h,i,l,m,())
theorem UQ (k a b c e f h i l m):R6 k (a+1) b c e f h i l m=QZ k (R6 k a) b c e f h i l m:=Ba _ _ _ _
def afM (k:Nat) (a:List jv) (b:Int) (c:l8):Option uj :=
 R6 k k b c 0 false ([]:List ow) a (a.length:Int) 0
def F104:Fn:=⟨[.val ⟨false,zw,false⟩,au,QY],[rI,rB],fun k (a,b,c,_)=>afM k a b c⟩
theorem ok104:O 104 F104:=okF (ah ok158 <| ah ok159 <| ah ok160 aj) [(8,2)] (fun k=>(.loop 8 YW (adg k) (fun g=>.nil) (.loop 3 YX (adh k) (fun g=>.nil) .nil))) Tryz.func104 rfl
def UR (k:Nat) (a:Int×(PN Int 8)×BH×Bool):Option JE :=
 (Wh k a.2.2.1).bind fun q0 =>
 some (((a.1,a.2.1,q0.1.1,a.2.2.2),()),())
def F210:Fn:=⟨[acY],[UL],fun k x=>UR k x.1⟩
theorem ok210:O 210 F210:=okF (ah ok138 aj) [] On Tryz.func210 rfl
def WA (k:Nat) (a:GA):Option ((jv×Unit)×Unit) :=
 (UR k a.2.2.2.2.1).bind fun q0 =>
 (UR k a.2.2.2.2.2.1).bind fun q1 =>
 (Um k a.2.2.2.2.2.2.1).bind fun q2 =>
 some (((a.1,a.2.1,a.2.2.1,a.2.2.2.1,q0.1.1,q1.1.1,q2.1.1,a.2.2.2.2.2.2.2),()),())
def F207:Fn:=⟨[GH],[UO],fun k x=>WA k x.1⟩
theorem ok207:O 207 F207:=okF (ah ok140 <| ah ok210 aj) [] On Tryz.func207 rfl
def afN (k:Nat) (a:YK) (b:GA):Option ((jv×Unit)×Unit) :=
 (WA k b).bind fun q0 =>
 (bif b.2.2.2.1==0 then
  (bif decide ((a.2.2.2.2.1.length:Int)>0) then
   (S99 k b.2.2.1).bind fun q1 =>
   (S99 k b.2.2.1).bind fun q2 =>
   some (((q0.1.1.1,q0.1.1.2.1,q0.1.1.2.2.1,1,q1.1.1,q2.1.1,[],q0.1.1.2.2.2.2.2.2.2),()),())
  else
   (UR k b.2.2.2.2.2.1).bind fun q3 =>
   some (((q0.1.1.1,q0.1.1.2.1,q0.1.1.2.2.1,q0.1.1.2.2.2.1,q3.1.1,q0.1.1.2.2.2.2.2.1,[],q0.1.1.2.2.2.2.2.2.2),()),()))
 else
  (UR k b.2.2.2.2.2.1).bind fun q4 =>
  some (((q0.1.1.1,q0.1.1.2.1,q0.1.1.2.2.1,q0.1.1.2.2.2.1,q4.1.1,q0.1.1.2.2.2.2.2.1,[],q0.1.1.2.2.2.2.2.2.2),()),()))
def F214:Fn:=⟨[YP,GH],[UO],fun k x=>afN k x.1 x.2.1⟩
theorem ok214:O 214 F214:=okF (ah ok99 <| ah ok207 <| ah ok210 aj) [] On Tryz.func214 rfl
def adi (k:Nat) (a:YK) (b:GA) (c:l8):Option ((jv×mo×Int×Unit)×Unit) :=
 (afN k a b).bind fun q0 =>
 (acK k c b.1).bind fun q1 =>
 (bif b.2.2.2.1==2 then
  (S81 k b (-1)).bind fun q2 =>
  some ((q2.1.1,q1.1.1,13,()),())
 else
  (bif q0.1.1.2.2.2.1 != b.2.2.2.1 then
   some ((q0.1.1,q1.1.1,7,()),())
  else
   some ((q0.1.1,q1.1.1,6,()),())))
def F165:Fn:=⟨[YP,GH,QY],[UO,YL,rI],fun k (a,b,c,_)=>adi k a b c⟩
theorem ok165:O 165 F165:=okF (ah ok81 <| ah ok154 <| ah ok214 aj) [] On Tryz.func165 rfl
abbrev YZ:Cut:=⟨[0,1,11,12,13],[.pin false 0,.cell NT,.own 3 (.int .i64),cI,cI],[.fK 150 [cI,cI,.own 77 zo,.own 96 uz,.cell .bool,.cell .bool,.cell .bool,.own 94 IG,.own 3 (.int .i64),.own 4 .bool,.own 124 II,.own 3 (.int .i64),.own 4 .bool,.own 82 AO]],55,[]⟩
def WB (k:Nat) (g1:Int -> Int -> (List l7) -> DT -> Bool -> Bool -> Bool -> (List jv) -> (List Int) -> (List Bool) -> (List jo) -> (List Int) -> (List Bool) -> zu -> mo -> (List Int) -> Int -> Int -> Option wz) (a b:Int) (c:List l7) (e:List (PN Int 5)) (f h i:Bool) (l:List jv) (m:List Int) (n:List Bool) (o:List jo) (p:List Int) (s:List Bool) (t:List (PN Int 6)) (u:l8) (v:List Int) (w y:Int):Option wz :=
 (bif decide (y<w) then
  ix v y <|
  ix o (rd v y 0) <|
  (bif decide (y<(u.length:Int)) then
   ix u y <|
   (bif !(fC CV (rd o (rd v y 0) (0,(0,0),(0,0),([],[]),(0,[]),0)).2.2.1 (rd u y (0,0))) then
    ix u y <|
    (S82 k ((m,n),o) (rd v y 0) ((rd o (rd v y 0) (0,(0,0),(0,0),([],[]),(0,[]),0)).1,(rd o (rd v y 0) (0,(0,0),(0,0),([],[]),(0,[]),0)).2.1,rd u y (0,0),(rd o (rd v y 0) (0,(0,0),(0,0),([],[]),(0,[]),0)).2.2.2)).bind fun q1 =>
    g1 a b c e f h i l q1.1.1.1.1 q1.1.1.1.2 q1.1.1.2 p s t u v w (IntKind.i64.wrap (y+1))
   else
    g1 a b c e f h i l m n o p s t u v w (IntKind.i64.wrap (y+1)))
  else
   g1 a b c e f h i l m n o p s t u v w (IntKind.i64.wrap (y+1)))
 else
  some ((),(a,b,c,e,f,h,i,l,m,n,o,p,s,t,()),()))
def adj (k:Nat):Xx (((Ww×Unit)×Unit×mo×(List Int)×Int×Int×Unit) -> Option wz):=dh (bq (bq (ay (ay (ay (ay (ay (ay (ay (ay (ay (ay (ay (ay (ay (ay bg)))))))))))))) bg) (bf (ay (ay (ay (ay bg)))))) (WB k)
def WC (k a:Nat) (b c:Int) (e:List l7) (f:List (PN Int 5)) (h i l:Bool) (m:List jv) (n:List Int) (o:List Bool) (p:List jo) (s:List Int) (t:List Bool) (u:List (PN Int 6)) (v:l8) (w:List Int) (y z:Int):Option wz:=iter YZ (adj k) a (((b,c,e,f,h,i,l,m,n,o,p,s,t,u,()),()),(),v,w,y,z,())
theorem adk (k a b c e f h i l m n o p s t u v w y z):WC k (a+1) b c e f h i l m n o p s t u v w y z=WB k (WC k a) b c e f h i l m n o p s t u v w y z:=Ba _ _ _ _
def aaQ (k:Nat) (a b:Int) (c:List l7) (e:List (PN Int 5)) (f h i:Bool) (l:List jv) (m:List Int) (n:List Bool) (o:List jo) (p:List Int) (s:List Bool) (t:List (PN Int 6)) (u:l8):Option wz :=
 (S73 k ((m,n),o)).bind fun q0 =>
 WC k k a b c e f h i l m n o p s t u q0.1.1 (q0.1.1.length:Int) 0
def F39b:Fn:=⟨[aaM,QY],[],fun k ((a,b,c,e,f,h,i,l,m,n,o,p,s,t,_),u,_)=>aaQ k a b c e f h i l m n o p s t u⟩
theorem ok39b:O 39 F39b:=okF (ah ok73 <| ah ok82 aj) [] (fun k=>(.loop 1 YZ (adj k) (fun g=>.nil) .nil)) Tryz.func39 rfl
def afO (k:Nat) (t i1:Int) (l1:List l7) (m1:List (PN Int 5)) (n1 o1 p1:Bool) (s1:List jv) (t1:List Int) (u1:List Bool) (v1:List jo) (w1:List Int) (y1:List Bool) (z1:List (PN Int 6)) (a2 b2 c2 e2 f2 h2 i2 l2 m2 n2 o2 p2 s2:Int) (t2:List ow) (u2:Bool) (v2 w2 y2 z2 a3 b3 c3 e3 f3:Int) (h3:List ow) (i3:Bool) (l3:List Int) (m3:Bool):Option UH :=
 ix l1 a2 <|
 (S30 k (t,i1,l1,m1,n1,o1,p1,s1,((t1,u1),v1),w1,y1)).bind fun q0 =>
 (adi k (rd l1 a2 (0,0,0,[],[],[])) (a2,b2,c2,e2,(f2,(h2,i2,l2,m2,n2,o2,p2,s2),t2,u2),(v2,(w2,y2,z2,a3,b3,c3,e3,f3),h3,i3),l3,m3) q0.1.1).bind fun (((a,b,c,e,(f,(h,i,l,m,n,o,p,s),u,v),(w,(y,z,A,B,C,D,G,H),I,J),K,M),N,O,_),_) =>
 (aaQ k t i1 l1 m1 n1 o1 p1 s1 t1 u1 v1 w1 y1 z1 N).bind fun (_,(P,Q,T,U,V,W,X,Z,a1,b1,c1,e1,f1,h1,_),_) =>
 (FC k P Q T U V W X Z a1 b1 c1 e1 f1 h1 (0,O,a,0,0,0)).bind fun q3 =>
 some ((O==13,()),q3.2.1,(a,b,c,e,f,h,i,l,m,n,o,p,s,u,v,w,y,z,A,B,C,D,G,H,I,J,K,M,()),())
def F106:Fn:=⟨[aaM,aln],[rB],fun k ((a,b,c,e,f,h,i,l,m,n,o,p,s,t,_),(u,v,w,y,z,A,B,C,D,G,H,I,J,K,M,N,O,P,Q,T,U,V,W,X,Z,a1,b1,c1,_),_)=>afO k a b c e f h i l m n o p s t u v w y z A B C D G H I J K M N O P Q T U V W X Z a1 b1 c1⟩
theorem ok106:O 106 F106:=okF (ah ok30 <| ah ok39b <| ah ok100a <| ah ok165 aj) [] On Tryz.func106 rfl
def afP (k:Nat) (a:YK) (b:GA):Option (((List lu)×Unit)×Unit) :=
 (S80 k (Tx (.int .i64) (.sl 87 zq) b.2.2.2.1 (vM (.int .i64) (.sl 87 zq) 2 a.2.2.2.2.2 (vM (.int .i64) (.sl 87 zq) 1 a.2.2.2.2.1 (vM (.int .i64) (.sl 87 zq) 0 a.2.2.2.1 ([]:List (Int×List lu))))) [])).bind fun q0 =>
 some ((q0.1.1,()),())
def F209:Fn:=⟨[YP,GH],[aiX],fun k x=>afP k x.1 x.2.1⟩
theorem ok209:O 209 F209:=okF (ah ok80 aj) [] On Tryz.func209 rfl
def WE (k:Nat) (a:Int×(PN Int 8)×BH×Bool):Option JE :=
 (Wh k a.2.2.1).bind fun q0 =>
 some (((a.1,a.2.1,q0.1.1,a.2.2.2),()),())
def F229:Fn:=⟨[acY],[UL],fun k x=>WE k x.1⟩
theorem ok229:O 229 F229:=okF (ah ok138 aj) [] On Tryz.func229 rfl
def IQ (k:Nat) (a:Int):Option ((Bool×Unit)×Unit) :=
 (bif decide (a≥0) then
  some ((decide (a<8),()),())
 else
  some ((false,()),()))
def F234:Fn:=⟨[au],[rB],fun k x=>IQ k x.1⟩
theorem ok234:O 234 F234:=okF aj [] On Tryz.func234 rfl
def LK (k:Nat) (a b c:Int):Option ((Bool×Unit)×Unit) :=
 (bif decide (a≥b) then
  some ((decide (a <= c),()),())
 else
  some ((false,()),()))
def F235:Fn:=⟨[au,au,au],[rB],fun k (a,b,c,_)=>LK k a b c⟩
theorem ok235:O 235 F235:=okF aj [] On Tryz.func235 rfl
def afQ (k:Nat) (a:Int×Int×Int×Int):Option ((Bool×Unit)×Unit) :=
 (bif a.1==0 then
  (bif a.2.1==0 then
   (bif a.2.2.1==0 then
    some ((a.2.2.2==0,()),())
   else
    some ((false,()),()))
  else
   some ((false,()),()))
 else
  (bif a.1==11 then
   (bif a.2.1==0 then
    (bif a.2.2.1==0 then
     some ((a.2.2.2==0,()),())
    else
     some ((false,()),()))
   else
    some ((false,()),()))
  else
   (bif a.1==1 then
    (IQ k a.2.1).bind fun q0 =>
    (bif q0.1.1 then
     (bif a.2.2.1==0 then
      (LK k a.2.2.2 (-2147483648) 2147483647).bind fun q1 =>
      some ((q1.1.1,()),())
     else
      some ((false,()),()))
    else
     some ((false,()),()))
   else
    (bif a.1==2 then
     (IQ k a.2.1).bind fun q2 =>
     (bif q2.1.1 then
      (IQ k a.2.2.1).bind fun q3 =>
      (bif q3.1.1 then
       some ((a.2.2.2==0,()),())
      else
       some ((false,()),()))
     else
      some ((false,()),()))
    else
     (bif a.1==3 then
      (IQ k a.2.1).bind fun q4 =>
      (bif q4.1.1 then
       (IQ k a.2.2.1).bind fun q5 =>
       (bif q5.1.1 then
        some ((a.2.2.2==0,()),())
       else
        some ((false,()),()))
      else
       some ((false,()),()))
     else
      (bif a.1==4 then
       (IQ k a.2.1).bind fun q6 =>
       (bif q6.1.1 then
        (IQ k a.2.2.1).bind fun q7 =>
        (bif q7.1.1 then
         some ((a.2.2.2==0,()),())
        else
         some ((false,()),()))
       else
        some ((false,()),()))
      else
       (bif a.1==5 then
        (IQ k a.2.1).bind fun q8 =>
        (bif q8.1.1 then
         (bif a.2.2.1==0 then
          (LK k a.2.2.2 (-63) 63).bind fun q9 =>
          some ((q9.1.1,()),())
         else
          some ((false,()),()))
        else
         some ((false,()),()))
       else
        (bif a.1==6 then
         (IQ k a.2.1).bind fun q10 =>
         (bif q10.1.1 then
          (bif a.2.2.1==0 then
           (LK k a.2.2.2 1 64).bind fun TB =>
           some ((TB.1.1,()),())
          else
           some ((false,()),()))
         else
          some ((false,()),()))
        else
         (bif a.1==7 then
          (IQ k a.2.1).bind fun q12 =>
          (bif q12.1.1 then
           (bif a.2.2.1==0 then
            (LK k a.2.2.2 1 24).bind fun qz =>
            some ((qz.1.1,()),())
           else
            some ((false,()),()))
          else
           some ((false,()),()))
         else
          (bif a.1==8 then
           (bif a.2.1==0 then
            (LK k a.2.2.1 1 24).bind fun q14 =>
            (bif q14.1.1 then
             (LK k a.2.2.2 1 20).bind fun q15 =>
             some ((q15.1.1,()),())
            else
             some ((false,()),()))
           else
            some ((false,()),()))
          else
           (bif a.1==9 then
            (LK k a.2.1 0 3).bind fun q16 =>
            (bif q16.1.1 then
             (bif a.2.2.1==0 then
              some ((a.2.2.2==0,()),())
             else
              some ((false,()),()))
            else
             some ((false,()),()))
           else
            (bif a.1==10 then
             (LK k a.2.1 0 3).bind fun q17 =>
             (bif q17.1.1 then
              (bif a.2.2.1==0 then
               some ((a.2.2.2==0,()),())
              else
               some ((false,()),()))
             else
              some ((false,()),()))
            else
             some ((false,()),())))))))))))))
def F228:Fn:=⟨[.val ⟨true,zq,false⟩],[rB],fun k x=>afQ k x.1⟩
theorem ok228:O 228 F228:=okF (ah ok234 <| ah ok235 aj) [] On Tryz.func228 rfl
def afR (k:Nat) (a b:Int):Option ku :=
 (bif decide (b <= (-64)) then
  some ((a,()),())
 else
  (bif decide (b≥64) then
   some ((a,()),())
  else
   (bif decide (b<0) then
    Tk (IntKind.i64.wrap (0 - b)) <|
    some ((Tn .i64 a (IntKind.i64.wrap (0 - b)),()),())
   else
    Tk b <|
    some ((IntKind.i64.wrap (Tm .u64 (IntKind.u64.wrap a) b),()),()))))
def F230:Fn:=⟨[au,au],[rI],fun k x=>afR k x.1 x.2.1⟩
theorem ok230:O 230 F230:=okF aj [] On Tryz.func230 rfl
def afS (k:Nat) (a b:Int):Option ku :=
 (bif decide (b<1) then
  some ((a,()),())
 else
  (bif decide (b>64) then
   some ((a,()),())
  else
   Tk (IntKind.i64.wrap (64 - b)) <|
   Tk (IntKind.i64.wrap (64 - b)) <|
   some ((Tn .i64 (Tm .i64 a (IntKind.i64.wrap (64 - b))) (IntKind.i64.wrap (64 - b)),()),())))
def F231:Fn:=⟨[au,au],[rI],fun k x=>afS k x.1 x.2.1⟩
theorem ok231:O 231 F231:=okF aj [] On Tryz.func231 rfl
abbrev Z0:Cut:=⟨[1,2,3],[.box 92 [cI,cI,cI,cI,cI,cI,cI,cI,cI,.own 233 tq,.cell .bool],.box 92 [cI,cI,cI,cI,cI,cI,cI,cI,cI,.nil,.cell .bool],cI],[],55,[]⟩
def R7 (k:Nat) (g2:Int -> Int -> Int -> Int -> Int -> Int -> Int -> Int -> Int -> BH -> Bool -> Int -> Int -> Int -> Int -> Int -> Int -> Int -> Int -> Int -> Bool -> Int -> Option JE) (a b c e f h i l m:Int) (n:List ow) (o:Bool) (p s t u v w y z A:Int) (B:Bool) (C:Int):Option JE :=
 (bif decide (C>0) then
  ix n (IntKind.i64.wrap (C - 1)) <|
  (bif decide ((rd n (IntKind.i64.wrap (C - 1)) (0,0,0)).2.1<a) then
   ix n (IntKind.i64.wrap (C - 1)) <|
   (bif decide ((rd n (IntKind.i64.wrap (C - 1)) (0,0,0)).2.2>0) then
    some ((((rd n (IntKind.i64.wrap (C - 1)) (0,0,0)).1,(b,c,e,f,h,i,l,m),upd n (IntKind.i64.wrap (C - 1)) ((rd n (IntKind.i64.wrap (C - 1)) (0,0,0)).1,(rd n (IntKind.i64.wrap (C - 1)) (0,0,0)).2.1,IntKind.i64.wrap ((rd n (IntKind.i64.wrap (C - 1)) (0,0,0)).2.2 - 1)),o),()),())
   else
    sx n 0 (IntKind.i64.wrap (C - 1)) <|
    g2 a b c e f h i l m (n.take (IntKind.i64.wrap (C - 1)).toNat) o p s t u v w y z A B ((n.take (IntKind.i64.wrap (C - 1)).toNat).length:Int))
  else
   some (((a,(b,c,e,f,h,i,l,m),n,o),()),()))
 else
  some (((a,(b,c,e,f,h,i,l,m),n,o),()),()))
def adn (k:Nat):Xx (((Unit)×(Int×Int×Int×Int×Int×Int×Int×Int×Int×BH×Bool×Unit)×(Int×Int×Int×Int×Int×Int×Int×Int×Int×Unit×Bool×Unit)×Int×Unit) -> Option JE):=dh (bf (bq (ay (ay (ay (ay (ay (ay (ay (ay (ay (ay (ay bg))))))))))) (bq (ay (ay (ay (ay (ay (ay (ay (ay (ay (bf (ay bg))))))))))) (ay bg)))) (R7 k)
def R8 (k a:Nat) (b c e f h i l m n:Int) (o:List ow) (p:Bool) (s t u v w y z A B:Int) (C:Bool) (D:Int):Option JE:=iter Z0 (adn k) a ((),(b,c,e,f,h,i,l,m,n,o,p,()),(s,t,u,v,w,y,z,A,B,(),C,()),D,())
theorem UU (k a b c e f h i l m n o p s t u v w y z A B C D):R8 k (a+1) b c e f h i l m n o p s t u v w y z A B C D=R7 k (R8 k a) b c e f h i l m n o p s t u v w y z A B C D:=Ba _ _ _ _
def GJ (k:Nat) (a b c e f h i l m:Int) (n:List ow) (o:Bool):Option JE :=
 R8 k k a b c e f h i l m n o 0 0 0 0 0 0 0 0 0 false (n.length:Int)
def F232:Fn:=⟨[.gv (.agg [cI,cI,cI,cI,cI,cI,cI,cI,cI,.own 233 tq,.cell .bool])],[UL],fun k ((a,b,c,e,f,h,i,l,m,n,o,_),_)=>GJ k a b c e f h i l m n o⟩
theorem ok232:O 232 F232:=okF aj [(52,1)] (fun k=>(.loop 2 Z0 (adn k) (fun g=>.nil) .nil)) Tryz.func232 rfl
def ado (k:Nat) (a:List lu) (b:Int×(PN Int 8)×BH×Bool):Option ((YG×lu×Bool×Unit)×Unit) :=
 (bif b.2.2.2 then
  (WE k b).bind fun q0 =>
  some ((q0.1.1,(0,0,0,0),false,()),())
 else
  (bif decide (b.1<0) then
   (WE k b).bind fun q1 =>
   some ((q1.1.1,(0,0,0,0),false,()),())
  else
   (bif decide (b.1≥(a.length:Int)) then
    (WE k b).bind fun q2 =>
    some ((q2.1.1,(0,0,0,0),false,()),())
   else
    ix a b.1 <|
    (afQ k (rd a b.1 (0,0,0,0))).bind fun q3 =>
    (bif !q3.1.1 then
     (WE k b).bind fun q4 =>
     some ((q4.1.1,(0,0,0,0),false,()),())
    else
     (WE k b).bind fun q5 =>
     ix a q5.1.1.1 <|
     ax 8 (rd a q5.1.1.1 (0,0,0,0)).2.1 <|
     ax 8 (Int.tmod (rd a q5.1.1.1 (0,0,0,0)).2.2.1 8) <|
     (bif (rd a q5.1.1.1 (0,0,0,0)).1==0 then
      (GJ k q5.1.1.1 q5.1.1.2.1.1 q5.1.1.2.1.2.1 q5.1.1.2.1.2.2.1 q5.1.1.2.1.2.2.2.1 q5.1.1.2.1.2.2.2.2.1 q5.1.1.2.1.2.2.2.2.2.1 q5.1.1.2.1.2.2.2.2.2.2.1 q5.1.1.2.1.2.2.2.2.2.2.2 q5.1.1.2.2.1 true).bind fun q6 =>
      some ((q6.1.1,rd a q5.1.1.1 (0,0,0,0),true,()),())
     else
      (bif (rd a q5.1.1.1 (0,0,0,0)).1==1 then
       (GJ k (IntKind.i64.wrap (q5.1.1.1+1)) (Tw (α:=Int) 8 q5.1.1.2.1 (rd a q5.1.1.1 (0,0,0,0)).2.1 (rd a q5.1.1.1 (0,0,0,0)).2.2.2).1 (Tw (α:=Int) 8 q5.1.1.2.1 (rd a q5.1.1.1 (0,0,0,0)).2.1 (rd a q5.1.1.1 (0,0,0,0)).2.2.2).2.1 (Tw (α:=Int) 8 q5.1.1.2.1 (rd a q5.1.1.1 (0,0,0,0)).2.1 (rd a q5.1.1.1 (0,0,0,0)).2.2.2).2.2.1 (Tw (α:=Int) 8 q5.1.1.2.1 (rd a q5.1.1.1 (0,0,0,0)).2.1 (rd a q5.1.1.1 (0,0,0,0)).2.2.2).2.2.2.1 (Tw (α:=Int) 8 q5.1.1.2.1 (rd a q5.1.1.1 (0,0,0,0)).2.1 (rd a q5.1.1.1 (0,0,0,0)).2.2.2).2.2.2.2.1 (Tw (α:=Int) 8 q5.1.1.2.1 (rd a q5.1.1.1 (0,0,0,0)).2.1 (rd a q5.1.1.1 (0,0,0,0)).2.2.2).2.2.2.2.2.1 (Tw (α:=Int) 8 q5.1.1.2.1 (rd a q5.1.1.1 (0,0,0,0)).2.1 (rd a q5.1.1.1 (0,0,0,0)).2.2.2).2.2.2.2.2.2.1 (Tw (α:=Int) 8 q5.1.1.2.1 (rd a q5.1.1.1 (0,0,0,0)).2.1 (rd a q5.1.1.1 (0,0,0,0)).2.2.2).2.2.2.2.2.2.2 q5.1.1.2.2.1 q5.1.1.2.2.2).bind fun q7 =>
       some ((q7.1.1,rd a q5.1.1.1 (0,0,0,0),true,()),())
      else
       (bif (rd a q5.1.1.1 (0,0,0,0)).1==2 then
        (GJ k (IntKind.i64.wrap (q5.1.1.1+1)) (Tw (α:=Int) 8 q5.1.1.2.1 (rd a q5.1.1.1 (0,0,0,0)).2.1 (IntKind.i64.wrap (IntKind.u64.wrap ((IntKind.u64.wrap (Tv (α:=Int) 8 q5.1.1.2.1 (rd a q5.1.1.1 (0,0,0,0)).2.1 0))+(IntKind.u64.wrap (Tv (α:=Int) 8 q5.1.1.2.1 (Int.tmod (rd a q5.1.1.1 (0,0,0,0)).2.2.1 8) 0)))))).1 (Tw (α:=Int) 8 q5.1.1.2.1 (rd a q5.1.1.1 (0,0,0,0)).2.1 (IntKind.i64.wrap (IntKind.u64.wrap ((IntKind.u64.wrap (Tv (α:=Int) 8 q5.1.1.2.1 (rd a q5.1.1.1 (0,0,0,0)).2.1 0))+(IntKind.u64.wrap (Tv (α:=Int) 8 q5.1.1.2.1 (Int.tmod (rd a q5.1.1.1 (0,0,0,0)).2.2.1 8) 0)))))).2.1 (Tw (α:=Int) 8 q5.1.1.2.1 (rd a q5.1.1.1 (0,0,0,0)).2.1 (IntKind.i64.wrap (IntKind.u64.wrap ((IntKind.u64.wrap (Tv (α:=Int) 8 q5.1.1.2.1 (rd a q5.1.1.1 (0,0,0,0)).2.1 0))+(IntKind.u64.wrap (Tv (α:=Int) 8 q5.1.1.2.1 (Int.tmod (rd a q5.1.1.1 (0,0,0,0)).2.2.1 8) 0)))))).2.2.1 (Tw (α:=Int) 8 q5.1.1.2.1 (rd a q5.1.1.1 (0,0,0,0)).2.1 (IntKind.i64.wrap (IntKind.u64.wrap ((IntKind.u64.wrap (Tv (α:=Int) 8 q5.1.1.2.1 (rd a q5.1.1.1 (0,0,0,0)).2.1 0))+(IntKind.u64.wrap (Tv (α:=Int) 8 q5.1.1.2.1 (Int.tmod (rd a q5.1.1.1 (0,0,0,0)).2.2.1 8) 0)))))).2.2.2.1 (Tw (α:=Int) 8 q5.1.1.2.1 (rd a q5.1.1.1 (0,0,0,0)).2.1 (IntKind.i64.wrap (IntKind.u64.wrap ((IntKind.u64.wrap (Tv (α:=Int) 8 q5.1.1.2.1 (rd a q5.1.1.1 (0,0,0,0)).2.1 0))+(IntKind.u64.wrap (Tv (α:=Int) 8 q5.1.1.2.1 (Int.tmod (rd a q5.1.1.1 (0,0,0,0)).2.2.1 8) 0)))))).2.2.2.2.1 (Tw (α:=Int) 8 q5.1.1.2.1 (rd a q5.1.1.1 (0,0,0,0)).2.1 (IntKind.i64.wrap (IntKind.u64.wrap ((IntKind.u64.wrap (Tv (α:=Int) 8 q5.1.1.2.1 (rd a q5.1.1.1 (0,0,0,0)).2.1 0))+(IntKind.u64.wrap (Tv (α:=Int) 8 q5.1.1.2.1 (Int.tmod (rd a q5.1.1.1 (0,0,0,0)).2.2.1 8) 0)))))).2.2.2.2.2.1 (Tw (α:=Int) 8 q5.1.1.2.1 (rd a q5.1.1.1 (0,0,0,0)).2.1 (IntKind.i64.wrap (IntKind.u64.wrap ((IntKind.u64.wrap (Tv (α:=Int) 8 q5.1.1.2.1 (rd a q5.1.1.1 (0,0,0,0)).2.1 0))+(IntKind.u64.wrap (Tv (α:=Int) 8 q5.1.1.2.1 (Int.tmod (rd a q5.1.1.1 (0,0,0,0)).2.2.1 8) 0)))))).2.2.2.2.2.2.1 (Tw (α:=Int) 8 q5.1.1.2.1 (rd a q5.1.1.1 (0,0,0,0)).2.1 (IntKind.i64.wrap (IntKind.u64.wrap ((IntKind.u64.wrap (Tv (α:=Int) 8 q5.1.1.2.1 (rd a q5.1.1.1 (0,0,0,0)).2.1 0))+(IntKind.u64.wrap (Tv (α:=Int) 8 q5.1.1.2.1 (Int.tmod (rd a q5.1.1.1 (0,0,0,0)).2.2.1 8) 0)))))).2.2.2.2.2.2.2 q5.1.1.2.2.1 q5.1.1.2.2.2).bind fun q8 =>
        some ((q8.1.1,rd a q5.1.1.1 (0,0,0,0),true,()),())
       else
        (bif (rd a q5.1.1.1 (0,0,0,0)).1==3 then
         (GJ k (IntKind.i64.wrap (q5.1.1.1+1)) (Tw (α:=Int) 8 q5.1.1.2.1 (rd a q5.1.1.1 (0,0,0,0)).2.1 (IntKind.i64.wrap (IntKind.u64.wrap ((IntKind.u64.wrap (Tv (α:=Int) 8 q5.1.1.2.1 (rd a q5.1.1.1 (0,0,0,0)).2.1 0)) - (IntKind.u64.wrap (Tv (α:=Int) 8 q5.1.1.2.1 (Int.tmod (rd a q5.1.1.1 (0,0,0,0)).2.2.1 8) 0)))))).1 (Tw (α:=Int) 8 q5.1.1.2.1 (rd a q5.1.1.1 (0,0,0,0)).2.1 (IntKind.i64.wrap (IntKind.u64.wrap ((IntKind.u64.wrap (Tv (α:=Int) 8 q5.1.1.2.1 (rd a q5.1.1.1 (0,0,0,0)).2.1 0)) - (IntKind.u64.wrap (Tv (α:=Int) 8 q5.1.1.2.1 (Int.tmod (rd a q5.1.1.1 (0,0,0,0)).2.2.1 8) 0)))))).2.1 (Tw (α:=Int) 8 q5.1.1.2.1 (rd a q5.1.1.1 (0,0,0,0)).2.1 (IntKind.i64.wrap (IntKind.u64.wrap ((IntKind.u64.wrap (Tv (α:=Int) 8 q5.1.1.2.1 (rd a q5.1.1.1 (0,0,0,0)).2.1 0)) - (IntKind.u64.wrap (Tv (α:=Int) 8 q5.1.1.2.1 (Int.tmod (rd a q5.1.1.1 (0,0,0,0)).2.2.1 8) 0)))))).2.2.1 (Tw (α:=Int) 8 q5.1.1.2.1 (rd a q5.1.1.1 (0,0,0,0)).2.1 (IntKind.i64.wrap (IntKind.u64.wrap ((IntKind.u64.wrap (Tv (α:=Int) 8 q5.1.1.2.1 (rd a q5.1.1.1 (0,0,0,0)).2.1 0)) - (IntKind.u64.wrap (Tv (α:=Int) 8 q5.1.1.2.1 (Int.tmod (rd a q5.1.1.1 (0,0,0,0)).2.2.1 8) 0)))))).2.2.2.1 (Tw (α:=Int) 8 q5.1.1.2.1 (rd a q5.1.1.1 (0,0,0,0)).2.1 (IntKind.i64.wrap (IntKind.u64.wrap ((IntKind.u64.wrap (Tv (α:=Int) 8 q5.1.1.2.1 (rd a q5.1.1.1 (0,0,0,0)).2.1 0)) - (IntKind.u64.wrap (Tv (α:=Int) 8 q5.1.1.2.1 (Int.tmod (rd a q5.1.1.1 (0,0,0,0)).2.2.1 8) 0)))))).2.2.2.2.1 (Tw (α:=Int) 8 q5.1.1.2.1 (rd a q5.1.1.1 (0,0,0,0)).2.1 (IntKind.i64.wrap (IntKind.u64.wrap ((IntKind.u64.wrap (Tv (α:=Int) 8 q5.1.1.2.1 (rd a q5.1.1.1 (0,0,0,0)).2.1 0)) - (IntKind.u64.wrap (Tv (α:=Int) 8 q5.1.1.2.1 (Int.tmod (rd a q5.1.1.1 (0,0,0,0)).2.2.1 8) 0)))))).2.2.2.2.2.1 (Tw (α:=Int) 8 q5.1.1.2.1 (rd a q5.1.1.1 (0,0,0,0)).2.1 (IntKind.i64.wrap (IntKind.u64.wrap ((IntKind.u64.wrap (Tv (α:=Int) 8 q5.1.1.2.1 (rd a q5.1.1.1 (0,0,0,0)).2.1 0)) - (IntKind.u64.wrap (Tv (α:=Int) 8 q5.1.1.2.1 (Int.tmod (rd a q5.1.1.1 (0,0,0,0)).2.2.1 8) 0)))))).2.2.2.2.2.2.1 (Tw (α:=Int) 8 q5.1.1.2.1 (rd a q5.1.1.1 (0,0,0,0)).2.1 (IntKind.i64.wrap (IntKind.u64.wrap ((IntKind.u64.wrap (Tv (α:=Int) 8 q5.1.1.2.1 (rd a q5.1.1.1 (0,0,0,0)).2.1 0)) - (IntKind.u64.wrap (Tv (α:=Int) 8 q5.1.1.2.1 (Int.tmod (rd a q5.1.1.1 (0,0,0,0)).2.2.1 8) 0)))))).2.2.2.2.2.2.2 q5.1.1.2.2.1 q5.1.1.2.2.2).bind fun q9 =>
         some ((q9.1.1,rd a q5.1.1.1 (0,0,0,0),true,()),())
        else
         (bif (rd a q5.1.1.1 (0,0,0,0)).1==4 then
          (GJ k (IntKind.i64.wrap (q5.1.1.1+1)) (Tw (α:=Int) 8 q5.1.1.2.1 (rd a q5.1.1.1 (0,0,0,0)).2.1 (IntKind.i64.wrap (IntKind.u64.wrap ((IntKind.u64.wrap (Tv (α:=Int) 8 q5.1.1.2.1 (rd a q5.1.1.1 (0,0,0,0)).2.1 0)) * (IntKind.u64.wrap (Tv (α:=Int) 8 q5.1.1.2.1 (Int.tmod (rd a q5.1.1.1 (0,0,0,0)).2.2.1 8) 0)))))).1 (Tw (α:=Int) 8 q5.1.1.2.1 (rd a q5.1.1.1 (0,0,0,0)).2.1 (IntKind.i64.wrap (IntKind.u64.wrap ((IntKind.u64.wrap (Tv (α:=Int) 8 q5.1.1.2.1 (rd a q5.1.1.1 (0,0,0,0)).2.1 0)) * (IntKind.u64.wrap (Tv (α:=Int) 8 q5.1.1.2.1 (Int.tmod (rd a q5.1.1.1 (0,0,0,0)).2.2.1 8) 0)))))).2.1 (Tw (α:=Int) 8 q5.1.1.2.1 (rd a q5.1.1.1 (0,0,0,0)).2.1 (IntKind.i64.wrap (IntKind.u64.wrap ((IntKind.u64.wrap (Tv (α:=Int) 8 q5.1.1.2.1 (rd a q5.1.1.1 (0,0,0,0)).2.1 0)) * (IntKind.u64.wrap (Tv (α:=Int) 8 q5.1.1.2.1 (Int.tmod (rd a q5.1.1.1 (0,0,0,0)).2.2.1 8) 0)))))).2.2.1 (Tw (α:=Int) 8 q5.1.1.2.1 (rd a q5.1.1.1 (0,0,0,0)).2.1 (IntKind.i64.wrap (IntKind.u64.wrap ((IntKind.u64.wrap (Tv (α:=Int) 8 q5.1.1.2.1 (rd a q5.1.1.1 (0,0,0,0)).2.1 0)) * (IntKind.u64.wrap (Tv (α:=Int) 8 q5.1.1.2.1 (Int.tmod (rd a q5.1.1.1 (0,0,0,0)).2.2.1 8) 0)))))).2.2.2.1 (Tw (α:=Int) 8 q5.1.1.2.1 (rd a q5.1.1.1 (0,0,0,0)).2.1 (IntKind.i64.wrap (IntKind.u64.wrap ((IntKind.u64.wrap (Tv (α:=Int) 8 q5.1.1.2.1 (rd a q5.1.1.1 (0,0,0,0)).2.1 0)) * (IntKind.u64.wrap (Tv (α:=Int) 8 q5.1.1.2.1 (Int.tmod (rd a q5.1.1.1 (0,0,0,0)).2.2.1 8) 0)))))).2.2.2.2.1 (Tw (α:=Int) 8 q5.1.1.2.1 (rd a q5.1.1.1 (0,0,0,0)).2.1 (IntKind.i64.wrap (IntKind.u64.wrap ((IntKind.u64.wrap (Tv (α:=Int) 8 q5.1.1.2.1 (rd a q5.1.1.1 (0,0,0,0)).2.1 0)) * (IntKind.u64.wrap (Tv (α:=Int) 8 q5.1.1.2.1 (Int.tmod (rd a q5.1.1.1 (0,0,0,0)).2.2.1 8) 0)))))).2.2.2.2.2.1 (Tw (α:=Int) 8 q5.1.1.2.1 (rd a q5.1.1.1 (0,0,0,0)).2.1 (IntKind.i64.wrap (IntKind.u64.wrap ((IntKind.u64.wrap (Tv (α:=Int) 8 q5.1.1.2.1 (rd a q5.1.1.1 (0,0,0,0)).2.1 0)) * (IntKind.u64.wrap (Tv (α:=Int) 8 q5.1.1.2.1 (Int.tmod (rd a q5.1.1.1 (0,0,0,0)).2.2.1 8) 0)))))).2.2.2.2.2.2.1 (Tw (α:=Int) 8 q5.1.1.2.1 (rd a q5.1.1.1 (0,0,0,0)).2.1 (IntKind.i64.wrap (IntKind.u64.wrap ((IntKind.u64.wrap (Tv (α:=Int) 8 q5.1.1.2.1 (rd a q5.1.1.1 (0,0,0,0)).2.1 0)) * (IntKind.u64.wrap (Tv (α:=Int) 8 q5.1.1.2.1 (Int.tmod (rd a q5.1.1.1 (0,0,0,0)).2.2.1 8) 0)))))).2.2.2.2.2.2.2 q5.1.1.2.2.1 q5.1.1.2.2.2).bind fun q10 =>
          some ((q10.1.1,rd a q5.1.1.1 (0,0,0,0),true,()),())
         else
          (bif (rd a q5.1.1.1 (0,0,0,0)).1==5 then
           (afR k (Tv (α:=Int) 8 q5.1.1.2.1 (rd a q5.1.1.1 (0,0,0,0)).2.1 0) (rd a q5.1.1.1 (0,0,0,0)).2.2.2).bind fun TB =>
           (GJ k (IntKind.i64.wrap (q5.1.1.1+1)) (Tw (α:=Int) 8 q5.1.1.2.1 (rd a q5.1.1.1 (0,0,0,0)).2.1 TB.1.1).1 (Tw (α:=Int) 8 q5.1.1.2.1 (rd a q5.1.1.1 (0,0,0,0)).2.1 TB.1.1).2.1 (Tw (α:=Int) 8 q5.1.1.2.1 (rd a q5.1.1.1 (0,0,0,0)).2.1 TB.1.1).2.2.1 (Tw (α:=Int) 8 q5.1.1.2.1 (rd a q5.1.1.1 (0,0,0,0)).2.1 TB.1.1).2.2.2.1 (Tw (α:=Int) 8 q5.1.1.2.1 (rd a q5.1.1.1 (0,0,0,0)).2.1 TB.1.1).2.2.2.2.1 (Tw (α:=Int) 8 q5.1.1.2.1 (rd a q5.1.1.1 (0,0,0,0)).2.1 TB.1.1).2.2.2.2.2.1 (Tw (α:=Int) 8 q5.1.1.2.1 (rd a q5.1.1.1 (0,0,0,0)).2.1 TB.1.1).2.2.2.2.2.2.1 (Tw (α:=Int) 8 q5.1.1.2.1 (rd a q5.1.1.1 (0,0,0,0)).2.1 TB.1.1).2.2.2.2.2.2.2 q5.1.1.2.2.1 q5.1.1.2.2.2).bind fun q12 =>
           some ((q12.1.1,rd a q5.1.1.1 (0,0,0,0),true,()),())
          else
           (bif (rd a q5.1.1.1 (0,0,0,0)).1==6 then
            (afS k (Tv (α:=Int) 8 q5.1.1.2.1 (rd a q5.1.1.1 (0,0,0,0)).2.1 0) (rd a q5.1.1.1 (0,0,0,0)).2.2.2).bind fun qz =>
            (GJ k (IntKind.i64.wrap (q5.1.1.1+1)) (Tw (α:=Int) 8 q5.1.1.2.1 (rd a q5.1.1.1 (0,0,0,0)).2.1 qz.1.1).1 (Tw (α:=Int) 8 q5.1.1.2.1 (rd a q5.1.1.1 (0,0,0,0)).2.1 qz.1.1).2.1 (Tw (α:=Int) 8 q5.1.1.2.1 (rd a q5.1.1.1 (0,0,0,0)).2.1 qz.1.1).2.2.1 (Tw (α:=Int) 8 q5.1.1.2.1 (rd a q5.1.1.1 (0,0,0,0)).2.1 qz.1.1).2.2.2.1 (Tw (α:=Int) 8 q5.1.1.2.1 (rd a q5.1.1.1 (0,0,0,0)).2.1 qz.1.1).2.2.2.2.1 (Tw (α:=Int) 8 q5.1.1.2.1 (rd a q5.1.1.1 (0,0,0,0)).2.1 qz.1.1).2.2.2.2.2.1 (Tw (α:=Int) 8 q5.1.1.2.1 (rd a q5.1.1.1 (0,0,0,0)).2.1 qz.1.1).2.2.2.2.2.2.1 (Tw (α:=Int) 8 q5.1.1.2.1 (rd a q5.1.1.1 (0,0,0,0)).2.1 qz.1.1).2.2.2.2.2.2.2 q5.1.1.2.2.1 q5.1.1.2.2.2).bind fun q14 =>
            some ((q14.1.1,rd a q5.1.1.1 (0,0,0,0),true,()),())
           else
            (bif (rd a q5.1.1.1 (0,0,0,0)).1==7 then
             (bif (Tv (α:=Int) 8 q5.1.1.2.1 (rd a q5.1.1.1 (0,0,0,0)).2.1 0)==0 then
              (GJ k (IntKind.i64.wrap ((IntKind.i64.wrap (q5.1.1.1+1))+(rd a q5.1.1.1 (0,0,0,0)).2.2.2)) q5.1.1.2.1.1 q5.1.1.2.1.2.1 q5.1.1.2.1.2.2.1 q5.1.1.2.1.2.2.2.1 q5.1.1.2.1.2.2.2.2.1 q5.1.1.2.1.2.2.2.2.2.1 q5.1.1.2.1.2.2.2.2.2.2.1 q5.1.1.2.1.2.2.2.2.2.2.2 q5.1.1.2.2.1 q5.1.1.2.2.2).bind fun q15 =>
              some ((q15.1.1,rd a q5.1.1.1 (0,0,0,0),true,()),())
             else
              (GJ k (IntKind.i64.wrap (q5.1.1.1+1)) q5.1.1.2.1.1 q5.1.1.2.1.2.1 q5.1.1.2.1.2.2.1 q5.1.1.2.1.2.2.2.1 q5.1.1.2.1.2.2.2.2.1 q5.1.1.2.1.2.2.2.2.2.1 q5.1.1.2.1.2.2.2.2.2.2.1 q5.1.1.2.1.2.2.2.2.2.2.2 q5.1.1.2.2.1 q5.1.1.2.2.2).bind fun q16 =>
              some ((q16.1.1,rd a q5.1.1.1 (0,0,0,0),true,()),()))
            else
             (bif (rd a q5.1.1.1 (0,0,0,0)).1==8 then
              ap q5.1.1.2.2.1 ([(IntKind.i64.wrap (q5.1.1.1+1),IntKind.i64.wrap (q5.1.1.1+(rd a q5.1.1.1 (0,0,0,0)).2.2.1),IntKind.i64.wrap ((rd a q5.1.1.1 (0,0,0,0)).2.2.2 - 1))]:List ow) 24 fun r17 =>
              (GJ k (IntKind.i64.wrap (q5.1.1.1+1)) q5.1.1.2.1.1 q5.1.1.2.1.2.1 q5.1.1.2.1.2.2.1 q5.1.1.2.1.2.2.2.1 q5.1.1.2.1.2.2.2.2.1 q5.1.1.2.1.2.2.2.2.2.1 q5.1.1.2.1.2.2.2.2.2.2.1 q5.1.1.2.1.2.2.2.2.2.2.2 r17 q5.1.1.2.2.2).bind fun q18 =>
              some ((q18.1.1,rd a q5.1.1.1 (0,0,0,0),true,()),())
             else
              (GJ k (IntKind.i64.wrap (q5.1.1.1+1)) q5.1.1.2.1.1 q5.1.1.2.1.2.1 q5.1.1.2.1.2.2.1 q5.1.1.2.1.2.2.2.1 q5.1.1.2.1.2.2.2.2.1 q5.1.1.2.1.2.2.2.2.2.1 q5.1.1.2.1.2.2.2.2.2.2.1 q5.1.1.2.1.2.2.2.2.2.2.2 q5.1.1.2.2.1 q5.1.1.2.2.2).bind fun q19 =>
              some ((q19.1.1,rd a q5.1.1.1 (0,0,0,0),true,()),()))))))))))))))
def F208:Fn:=⟨[.val ⟨false,(.sl 87 zq),false⟩,acY],[UL,ac1,rB],fun k x=>ado k x.1 x.2.1⟩
theorem ok208:O 208 F208:=okF (ah ok228 <| ah ok229 <| ah ok230 <| ah ok231 <| ah ok232 aj) [] On Tryz.func208 rfl
section
variable (w:World) {g n c i j:Nat}
theorem IU:Tryz.prog.underlying 27=some (.slice 3) /\ Tryz.prog.underlying 3=some (.int .i64) /\ Tryz.prog.underlying 4=some .bool /\ Tryz.prog.follows .mixedOrders=true /\ (∀ w,(Go.sizeOf 3).run Tryz.prog w=.ok 1 w) /\ Tryz.f211.ntmps=33:=⟨by kernel_rfl,by kernel_rfl,by kernel_rfl,by kernel_rfl,fun w=>by kernel_rfl,rfl⟩
theorem R9 {v:Value} (hv:(∃ A n c,v=.slice A n c /\ i <= n /\ n <= c /\ c <= 9223372036854775807)):Calls Tryz.prog 211 #[v,.int .i64 i,.int .i64 i] w fun e w'=>e=.returned v /\ w'=w:=by
 obtain ⟨t24,t3,t4,mixed,z36,hnt⟩:=IU
 have u24:=run_underlying t24;have u3:=run_underlying t3;have u4:=run_underlying t4
 obtain ⟨A,n,c,rfl,hi,hnc,hc63⟩:=hv
 have hi0:(i:Int) <= (n:Int):=by omega
 have hi1:(0:Int) <= (i:Int):=by omega
 cases A <;> (go_enter Tryz.func211,hnt;go_wp2 <;> (go_ret;exact ⟨rfl,rfl⟩))
theorem RA {w' w'':World} (hlt:i<j) (hj:j <= n) (hnc:n <= c) (hc63:c <= 9223372036854775807)
  (hap:∀ ty A,(c≠j -> A=(⟨g,j * 1,none⟩:Addr)) -> (Builtin.append_ #[27,27] ty #[.slice (some ⟨g,0,none⟩) i c,.slice (some A) (n - j) (c - j)]).run Tryz.prog w.drew=.ok (.slice (some ⟨g,0,none⟩) (i+(n - j)) c) w')
  (hcl:∀ ty dc,(Builtin.clear_ #[27] ty #[.slice (some ⟨g,(i+(n - j)) * 1,none⟩) (n - (i+(n - j))) dc]).run Tryz.prog w'=.ok (.tuple #[]) w'') :
  Calls Tryz.prog 211 #[.slice (some ⟨g,0,none⟩) n c,.int .i64 i,.int .i64 j] w fun e w1=>e=.returned (.slice (some ⟨g,0,none⟩) (i+(n - j)) c) /\ w1=w'':=by
 obtain ⟨t24,t3,t4,mixed,z36,hnt⟩:=IU
 have u24:=run_underlying t24;have u3:=run_underlying t3;have u4:=run_underlying t4
 have hi0:(i:Int) <= (n:Int):=by omega
 have hj0:(j:Int) <= (n:Int):=by omega
 have hij:(i:Int) <= (j:Int):=by omega
 have hne:¬ ((i:Int)=(j:Int)):=by omega
 have hic:i <= c:=by omega
 have hjc:j <= c:=by omega
 have hln:i+(n - j) <= n:=by omega
 have hlc:i+(n - j) <= c:=by omega
 have hci:¬ (c=i+(n - j)):=by omega
 obtain ⟨A,hA,hA'⟩:∃ A:Addr,(if c=j then some (⟨g,0,none⟩:Addr) else some ⟨g,j * 1,none⟩)=some A /\ (c≠j -> A=(⟨g,j * 1,none⟩:Addr)):=by
  by_cases h:c=j
  · exact ⟨_,if_pos h,fun q=>absurd h q⟩
  · exact ⟨_,if_neg h,fun _=>rfl⟩
 try simp only [Nat.mul_one] at hA hcl
 go_enter Tryz.func211,hnt
 go_wp2_with fail
 go_region_law_o (refine Gv rfl rfl _ _ (by simp [Act.eval,Act.put]) (by simp [Act.eval,Act.put,hA]) (hap _ _ hA') ?_)
 go_wp2_with (at_builtin;refine Je rfl rfl _ rfl (hcl _ _) ?_)
 go_ret
 exact ⟨rfl,rfl⟩
end
abbrev anr:List PT:=iG 3 (.int .i64)
abbrev ant:List RT:=qW 3 (.int .i64)
def anu (k:Nat) (a:List Int) (i j:Int):Option CW:=Jg 3 (.int .i64) k (a,i,j,())
def F211:Fn:=⟨anr,ant,Jg 3 (.int .i64)⟩
def anv:Env:=tab.env (fun _=>none) (fun _=>0)
theorem afT:aH Tryz.prog anv:=Kr Qy _ _ (fun f F h=>by cases h)
theorem ok211:O 211 F211:=by
 obtain ⟨i0,z,a1,a2,a3,a4,a5⟩:=(afT.ty 3 ((.int .i64)) (by kernel_rfl)).info
 have b2:Ty.sz ((.int .i64))=1:=rfl
 have hz:z.cells.size=1:=by rw [<- Array.length_toList,a5,gZ,b2]
 obtain ⟨t24,t3,t4,mixed,z36,hnt⟩:=IU
 refine Qc Tryz.func211 rfl (by kernel_rfl) ?_
 rw [b2]
 exact Mj (S:=27) (z:=z) t24 a1 a4 (by rw [a2,b2]) hz (fun v hv=>tV ((.int .i64)) v (by rw [<- a5];exact hv)) (by decide) (fun w i v h=>R9 w h) (fun w g n c i j w' w'' h1 h2 h3 h4 h5 h6=>RA w h1 h2 h3 h4 h5 h6)
abbrev UW:Cut:=⟨[4,5,8],[.box 94 [cI,cI,cI,cI,cI,cI,cI,cI,cI,cI,cI,cI,cI,.own 233 tq,.cell .bool,cI,cI,cI,cI,cI,cI,cI,cI,cI,.own 233 tq,.cell .bool,.own 3 (.int .i64),.cell .bool],.box 87 [cI,cI,cI,cI],cI],[],70,[]⟩
def afU (k:Nat) (g13:Int -> Int -> Int -> Int -> Int -> Int -> Int -> Int -> Int -> Int -> Int -> Int -> Int -> BH -> Bool -> Int -> Int -> Int -> Int -> Int -> Int -> Int -> Int -> Int -> BH -> Bool -> (List Int) -> Bool -> Int -> Int -> Int -> Int -> Int -> Option UD) (x a b c e f h i l m n o p:Int) (s:List ow) (t:Bool) (u v w y z A B C D:Int) (G:List ow) (H:Bool) (I:List Int) (J:Bool) (K M N O P:Int):Option UD :=
 (bif decide (P≥0) then
  ix I P <|
  (bif (rd I P 0)==M then
   (anu k I P (IntKind.i64.wrap (P+1))).bind fun q5 =>
   some (((x,a,b,c,(e,(f,h,i,l,m,n,o,p),s,t),(u,(v,w,y,z,A,B,C,D),G,H),q5.1.1,J),(K,M,N,O),true,()),())
  else
   g13 x a b c e f h i l m n o p s t u v w y z A B C D G H I J K M N O (IntKind.i64.wrap (P - 1)))
 else
  some (((x,a,b,c,(e,(f,h,i,l,m,n,o,p),s,t),(u,(v,w,y,z,A,B,C,D),G,H),I,J),(K,M,N,O),true,()),()))
def Z4 (k:Nat):Xx (((Unit)×ahG×(Int×Int×Int×Int×Unit)×Int×Unit) -> Option UD):=dh (bf (bq (ay (ay (ay (ay (ay (ay (ay (ay (ay (ay (ay (ay (ay (ay (ay (ay (ay (ay (ay (ay (ay (ay (ay (ay (ay (ay (ay (ay bg)))))))))))))))))))))))))))) (bq (ay (ay (ay (ay bg)))) (ay bg)))) (afU k)
def afV (k a:Nat) (x b c e f h i l m n o p s:Int) (t:List ow) (u:Bool) (v w y z A B C D G:Int) (H:List ow) (I:Bool) (J:List Int) (K:Bool) (M N O P Q:Int):Option UD:=iter UW (Z4 k) a ((),(x,b,c,e,f,h,i,l,m,n,o,p,s,t,u,v,w,y,z,A,B,C,D,G,H,I,J,K,()),(M,N,O,P,()),Q,())
def adp (k:Nat) (a:YK) (b:GA):Option UD :=
 (WA k b).bind fun q0 =>
 (afP k a b).bind fun q1 =>
 (ado k q1.1.1 b.2.2.2.2.1).bind fun q2 =>
 (bif !q2.1.2.2.1 then
  some ((q0.1.1,(0,0,0,0),false,()),())
 else
  (bif q2.1.2.1.1==11 then
   (UR k q2.1.1).bind fun q3 =>
   some (((q0.1.1.1,q0.1.1.2.1,q0.1.1.2.2.1,q0.1.1.2.2.2.1,q2.1.1,q3.1.1,q0.1.1.2.2.2.2.2.2),q2.1.2.1,true,()),())
  else
   (bif q2.1.2.1.1==9 then
    ap q0.1.1.2.2.2.2.2.2.1 ([q2.1.2.1.2.1]:List Int) 8 fun r4 =>
    some (((q0.1.1.1,q0.1.1.2.1,q0.1.1.2.2.1,q0.1.1.2.2.2.1,q2.1.1,q0.1.1.2.2.2.2.2.1,r4,q0.1.1.2.2.2.2.2.2.2),q2.1.2.1,true,()),())
   else
    (bif q2.1.2.1.1==10 then
     afV k k q0.1.1.1 q0.1.1.2.1 q0.1.1.2.2.1 q0.1.1.2.2.2.1 q2.1.1.1 q2.1.1.2.1.1 q2.1.1.2.1.2.1 q2.1.1.2.1.2.2.1 q2.1.1.2.1.2.2.2.1 q2.1.1.2.1.2.2.2.2.1 q2.1.1.2.1.2.2.2.2.2.1 q2.1.1.2.1.2.2.2.2.2.2.1 q2.1.1.2.1.2.2.2.2.2.2.2 q2.1.1.2.2.1 q2.1.1.2.2.2 q0.1.1.2.2.2.2.2.1.1 q0.1.1.2.2.2.2.2.1.2.1.1 q0.1.1.2.2.2.2.2.1.2.1.2.1 q0.1.1.2.2.2.2.2.1.2.1.2.2.1 q0.1.1.2.2.2.2.2.1.2.1.2.2.2.1 q0.1.1.2.2.2.2.2.1.2.1.2.2.2.2.1 q0.1.1.2.2.2.2.2.1.2.1.2.2.2.2.2.1 q0.1.1.2.2.2.2.2.1.2.1.2.2.2.2.2.2.1 q0.1.1.2.2.2.2.2.1.2.1.2.2.2.2.2.2.2 q0.1.1.2.2.2.2.2.1.2.2.1 q0.1.1.2.2.2.2.2.1.2.2.2 q0.1.1.2.2.2.2.2.2.1 q0.1.1.2.2.2.2.2.2.2 q2.1.2.1.1 q2.1.2.1.2.1 q2.1.2.1.2.2.1 q2.1.2.1.2.2.2 (IntKind.i64.wrap ((q0.1.1.2.2.2.2.2.2.1.length:Int) - 1))
    else
     some (((q0.1.1.1,q0.1.1.2.1,q0.1.1.2.2.1,q0.1.1.2.2.2.1,q2.1.1,q0.1.1.2.2.2.2.2),q2.1.2.1,true,()),())))))
def F161:Fn:=⟨[YP,GH],[UO,ac1,rB],fun k x=>adp k x.1 x.2.1⟩
theorem ok161:O 161 F161:=okF (ah ok207 <| ah ok208 <| ah ok209 <| ah ok210 <| ah ok211 aj) [] (fun k=>(.loop 13 UW (Z4 k) (fun g=>.nil) .nil)) Tryz.func161 rfl
def alz (k:Nat) (a:l8) (b c:Int):Option ((mo×Bool×Unit)×Unit) :=
 (afw k a).bind fun q0 =>
 (aiL k a b).bind fun q1 =>
 (bif !q1.1.1 then
  some ((q0.1.1,false,()),())
 else
  ix a b <|
  (bif (rd a b (0,0)).2 != 0 then
   some ((q0.1.1,false,()),())
  else
   ix q0.1.1 b <|
   some ((upd q0.1.1 b ((rd q0.1.1 b (0,0)).1,IntKind.i64.wrap (c+1)),true,()),())))
def F162:Fn:=⟨[QY,au,au],[YL,rB],fun k (a,b,c,_)=>alz k a b c⟩
theorem ok162:O 162 F162:=okF (ah ok194 <| ah ok212 aj) [] On Tryz.func162 rfl
def alA (k:Nat) (a:l8) (b c:Int):Option ((mo×Bool×Unit)×Unit) :=
 (afw k a).bind fun q0 =>
 (afx k a b c).bind fun q1 =>
 (bif !q1.1.1 then
  some ((q0.1.1,false,()),())
 else
  ix q0.1.1 b <|
  some ((upd q0.1.1 b ((rd q0.1.1 b (0,0)).1,0),true,()),()))
def F163:Fn:=⟨[QY,au,au],[YL,rB],fun k (a,b,c,_)=>alA k a b c⟩
theorem ok163:O 163 F163:=okF (ah ok194 <| ah ok195 aj) [] On Tryz.func163 rfl
def ai7 (k:Nat) (a:GA):Option ((jv×Unit)×Unit) :=
 (WA k a).bind fun q0 =>
 (S99 k a.2.2.2.2.1.2.1.1).bind fun q1 =>
 (S99 k a.2.2.2.2.1.2.1.1).bind fun q2 =>
 some (((q0.1.1.1,q0.1.1.2.1,q0.1.1.2.2.1,2,q1.1.1,q2.1.1,[],false),()),())
def F213:Fn:=⟨[GH],[UO],fun k x=>ai7 k x.1⟩
theorem ok213:O 213 F213:=okF (ah ok99 <| ah ok207 aj) [] On Tryz.func213 rfl
abbrev afW:Cut:=⟨[0,1],[.pin false 0,.pin false 1],[.fK 150 [cI,cI,.own 77 zo,.own 96 uz,.cell .bool,.cell .bool,.cell .bool,.own 94 IG,.own 3 (.int .i64),.own 4 .bool,.own 124 II,.own 3 (.int .i64),.own 4 .bool,.own 82 AO],.fK 94 [cI,cI,cI,cI,cI,cI,cI,cI,cI,cI,cI,cI,cI,.own 233 tq,.cell .bool,cI,cI,cI,cI,cI,cI,cI,cI,cI,.own 233 tq,.cell .bool,.own 3 (.int .i64),.cell .bool]],95,[]⟩
def IV (k:Nat) (M N:Int) (O:List l7) (P:List (PN Int 5)) (Q T U:Bool) (V:List jv) (W:List Int) (X:List Bool) (Z:List jo) (a1:List Int) (b1:List Bool) (c1:List (PN Int 6)) (e1 f1 h1 i1 l1 m1 n1 o1 p1 s1 t1 u1 v1:Int) (w1:List ow) (y1:Bool) (z1 a2 b2 c2 e2 f2 h2 i2 l2:Int) (m2:List ow) (n2:Bool) (o2:List Int) (p2:Bool):Option UH :=
 (S83 k (a1,b1) e1).bind fun q3 =>
 (ai7 k (e1,f1,h1,i1,(l1,(m1,n1,o1,p1,s1,t1,u1,v1),w1,y1),(z1,(a2,b2,c2,e2,f2,h2,i2,l2),m2,n2),o2,p2)).bind fun (((a,b,c,e,(f,(h,i,l,m,n,o,p,s),t,u),(v,(w,y,z,A,B,C,D,G),H,I),J,K),_),_) =>
 ix O a <|
 some ((((rd O a (0,0,0,[],[],[])).2.2.2.2.2.length:Int)==0,()),(M,N,O,P,Q,T,U,V,W,X,Z,q3.1.1.1,q3.1.1.2,c1,()),(a,b,c,e,f,h,i,l,m,n,o,p,s,t,u,v,w,y,z,A,B,C,D,G,H,I,J,K,()),())
def afX (k:Nat) (t N:Int) (O:List l7) (P:List (PN Int 5)) (Q T U:Bool) (V:List jv) (W:List Int) (X:List Bool) (Z:List jo) (a1:List Int) (b1:List Bool) (c1:List (PN Int 6)) (e1 f1 h1 i1 l1 m1 n1 o1 p1 s1 t1 u1 v1:Int) (w1:List ow) (y1:Bool) (z1 a2 b2 c2 e2 f2 h2 i2 l2:Int) (m2:List ow) (n2:Bool) (o2:List Int) (p2:Bool):Option UH :=
 (bif i1==2 then
  (FC k t N O P Q T U V W X Z a1 b1 c1 (0,4,e1,0,m1,0)).bind fun q0 =>
  some ((true,()),q0.2.1,(e1,f1,h1,i1,l1,m1,n1,o1,p1,s1,t1,u1,v1,w1,y1,z1,a2,b2,c2,e2,f2,h2,i2,l2,m2,n2,o2,p2,()),())
 else
  (FC k t N O P Q T U V W X Z a1 b1 c1 (0,3,e1,0,m1,0)).bind fun (_,(a,b,c,e,f,h,i,l,m,n,o,p,s,u,_),_) =>
  (bif i1==0 then
   ix c e1 <|
   (bif decide (((rd c e1 (0,0,0,[],[],[])).2.2.2.2.1.length:Int)>0) then
    (FC k a b c e f h i l m n o p s u (0,8,e1,0,0,0)).bind fun (_,(v,w,y,z,A,B,C,D,G,H,I,J,K,M,_),_) =>
    IV k v w y z A B C D G H I J K M e1 f1 h1 i1 l1 m1 n1 o1 p1 s1 t1 u1 v1 w1 y1 z1 a2 b2 c2 e2 f2 h2 i2 l2 m2 n2 o2 p2
   else
    IV k a b c e f h i l m n o p s u e1 f1 h1 i1 l1 m1 n1 o1 p1 s1 t1 u1 v1 w1 y1 z1 a2 b2 c2 e2 f2 h2 i2 l2 m2 n2 o2 p2)
  else
   IV k a b c e f h i l m n o p s u e1 f1 h1 i1 l1 m1 n1 o1 p1 s1 t1 u1 v1 w1 y1 z1 a2 b2 c2 e2 f2 h2 i2 l2 m2 n2 o2 p2))
def F164:Fn:=⟨[aaM,.fK 94 [cI,cI,cI,cI,cI,cI,cI,cI,cI,cI,cI,cI,cI,.own 233 tq,.cell .bool,cI,cI,cI,cI,cI,cI,cI,cI,cI,.own 233 tq,.cell .bool,.own 3 (.int .i64),.cell .bool]],[rB],fun k ((a,b,c,e,f,h,i,l,m,n,o,p,s,t,_),(u,v,w,y,z,A,B,C,D,G,H,I,J,K,M,N,O,P,Q,T,U,V,W,X,Z,a1,b1,c1,_),_)=>afX k a b c e f h i l m n o p s t u v w y z A B C D G H I J K M N O P Q T U V W X Z a1 b1 c1⟩
theorem ok164:O 164 F164:=okF (ah ok83 <| ah ok100a <| ah ok213 aj) [] (fun k=>(.join 8 afW (fun (((a,b,c,e,f,h,i,l,m,n,o,p,s,t,_),(u,v,w,y,z,A,B,C,D,G,H,I,J,K,M,N,O,P,Q,T,U,V,W,X,Z,a1,b1,c1,_),_),_)=>IV k a b c e f h i l m n o p s t u v w y z A B C D G H I J K M N O P Q T U V W X Z a1 b1 c1) .nil)) Tryz.func164 rfl
abbrev adq:Cut:=⟨[0,1],[.pin false 0,.pin false 1],[.fK 150 [cI,cI,.own 77 zo,.own 96 uz,.cell .bool,.cell .bool,.cell .bool,.own 94 IG,.own 3 (.int .i64),.own 4 .bool,.own 124 II,.own 3 (.int .i64),.own 4 .bool,.own 82 AO],.fK 94 [cI,cI,cI,cI,cI,cI,cI,cI,cI,cI,cI,cI,cI,.own 233 tq,.cell .bool,cI,cI,cI,cI,cI,cI,cI,cI,cI,.own 233 tq,.cell .bool,.own 3 (.int .i64),.cell .bool]],92,[]⟩
def GK (k:Nat) (a b:Int) (c:List l7) (e:List (PN Int 5)) (f h i:Bool) (l:List jv) (m:List Int) (n:List Bool) (o:List jo) (p:List Int) (s:List Bool) (t:List (PN Int 6)) (u v w y z A B C D G H I J:Int) (K:List ow) (M:Bool) (N O P Q T U V W X:Int) (Z:List ow) (a1:Bool) (b1:List Int) (c1:Bool):Option UH :=
 (bif M then
  (afX k a b c e f h i l m n o p s t u v w y z A B C D G H I J K M N O P Q T U V W X Z a1 b1 c1).bind fun q7 =>
  some ((q7.1.1,()),q7.2.1,q7.2.2.1,())
 else
  some ((false,()),(a,b,c,e,f,h,i,l,m,n,o,p,s,t,()),(u,v,w,y,z,A,B,C,D,G,H,I,J,K,M,N,O,P,Q,T,U,V,W,X,Z,a1,b1,c1,()),()))
def afY (k:Nat) (t t1:Int) (e2:List l7) (f2:List (PN Int 5)) (h2 i2 l2:Bool) (m2:List jv) (n2:List Int) (o2:List Bool) (p2:List jo) (s2:List Int) (t2:List Bool) (u2:List (PN Int 6)) (v2 w2 y2 z2 a3 b3 c3 e3 f3 h3 i3 l3 m3:Int) (n3:List ow) (o3:Bool) (p3 s3 t3 u3 v3 w3 y3 z3 a4:Int) (b4:List ow) (c4:Bool) (e4:List Int) (f4:Bool):Option UH :=
 ix e2 v2 <|
 (adp k (rd e2 v2 (0,0,0,[],[],[])) (v2,w2,y2,z2,(a3,(b3,c3,e3,f3,h3,i3,l3,m3),n3,o3),(p3,(s3,t3,u3,v3,w3,y3,z3,a4),b4,c4),e4,f4)).bind fun (((a,b,c,e,(f,(h,i,l,m,n,o,p,s),u,v),(w,(y,z,A,B,C,D,G,H),I,J),K,M),(N,O,_),P,_),_) =>
 (bif !P then
  some ((false,()),(t,t1,e2,f2,h2,i2,l2,m2,n2,o2,p2,s2,t2,u2,()),(v2,w2,y2,z2,a3,b3,c3,e3,f3,h3,i3,l3,m3,n3,o3,p3,s3,t3,u3,v3,w3,y3,z3,a4,b4,c4,e4,f4,()),())
 else
  (bif N==9 then
   (S30 k (t,t1,e2,f2,h2,i2,l2,m2,((n2,o2),p2),s2,t2)).bind fun q1 =>
   (alz k q1.1.1 O a).bind fun q2 =>
   (aaQ k t t1 e2 f2 h2 i2 l2 m2 n2 o2 p2 s2 t2 u2 q2.1.1).bind fun (_,(Q,T,U,V,W,X,Z,a1,b1,c1,e1,f1,h1,i1,_),_) =>
   GK k Q T U V W X Z a1 b1 c1 e1 f1 h1 i1 a b c e f h i l m n o p s u v w y z A B C D G H I J K M
  else
   (bif N==10 then
    (S30 k (t,t1,e2,f2,h2,i2,l2,m2,((n2,o2),p2),s2,t2)).bind fun q4 =>
    (alA k q4.1.1 O a).bind fun q5 =>
    (aaQ k t t1 e2 f2 h2 i2 l2 m2 n2 o2 p2 s2 t2 u2 q5.1.1).bind fun (_,(l1,m1,n1,o1,p1,s1,u1,v1,w1,y1,z1,a2,b2,c2,_),_) =>
    GK k l1 m1 n1 o1 p1 s1 u1 v1 w1 y1 z1 a2 b2 c2 a b c e f h i l m n o p s u v w y z A B C D G H I J K M
   else
    GK k t t1 e2 f2 h2 i2 l2 m2 n2 o2 p2 s2 t2 u2 a b c e f h i l m n o p s u v w y z A B C D G H I J K M)))
def F105:Fn:=⟨[aaM,aln],[rB],fun k ((a,b,c,e,f,h,i,l,m,n,o,p,s,t,_),(u,v,w,y,z,A,B,C,D,G,H,I,J,K,M,N,O,P,Q,T,U,V,W,X,Z,a1,b1,c1,_),_)=>afY k a b c e f h i l m n o p s t u v w y z A B C D G H I J K M N O P Q T U V W X Z a1 b1 c1⟩
theorem ok105:O 105 F105:=okF (ah ok30 <| ah ok39b <| ah ok161 <| ah ok162 <| ah ok163 <| ah ok164 aj) [] (fun k=>(.join 12 adq (fun (((a,b,c,e,f,h,i,l,m,n,o,p,s,t,_),(u,v,w,y,z,A,B,C,D,G,H,I,J,K,M,N,O,P,Q,T,U,V,W,X,Z,a1,b1,c1,_),_),_)=>GK k a b c e f h i l m n o p s t u v w y z A B C D G H I J K M N O P Q T U V W X Z a1 b1 c1) .nil)) Tryz.func105 rfl
def S59 (k:Nat) (t t1:Int) (t2:List l7) (t3:List (PN Int 5)) (m4 n4 o4:Bool) (p4:List jv) (s4:List Int) (t4:List Bool) (u4:List jo) (v4:List Int) (w4:List Bool) (y4:List (PN Int 6)):Option wz :=
 (S30 k (t,t1,t2,t3,m4,n4,o4,p4,((s4,t4),u4),v4,w4)).bind fun q0 =>
 (afM k p4 (t2.length:Int) q0.1.1).bind fun q1 =>
 (bif n4 then
  some ((),(t,t1,t2,t3,m4,n4,o4,p4,s4,t4,u4,v4,w4,y4,()),())
 else
  (bif !q1.1.2.1 then
   some ((),(t,t1,t2,t3,m4,n4,o4,p4,s4,t4,u4,v4,w4,y4,()),())
  else
   ix p4 q1.1.1 <|
   (FC k t t1 t2 t3 m4 n4 o4 p4 s4 t4 u4 v4 w4 y4 (0,2,(rd p4 q1.1.1 (0,0,0,0,(0,Pv (α:=Int) 8 0,[],false),(0,Pv (α:=Int) 8 0,[],false),[],false)).1,0,0,0)).bind fun (_,(a,b,c,e,f,h,i,l,m,n,o,p,s,u,_),_) =>
   (bif i then
    (afO k a b c e f h i l m n o p s u (rd p4 q1.1.1 (0,0,0,0,(0,Pv (α:=Int) 8 0,[],false),(0,Pv (α:=Int) 8 0,[],false),[],false)).1 (rd p4 q1.1.1 (0,0,0,0,(0,Pv (α:=Int) 8 0,[],false),(0,Pv (α:=Int) 8 0,[],false),[],false)).2.1 (rd p4 q1.1.1 (0,0,0,0,(0,Pv (α:=Int) 8 0,[],false),(0,Pv (α:=Int) 8 0,[],false),[],false)).2.2.1 (rd p4 q1.1.1 (0,0,0,0,(0,Pv (α:=Int) 8 0,[],false),(0,Pv (α:=Int) 8 0,[],false),[],false)).2.2.2.1 (rd p4 q1.1.1 (0,0,0,0,(0,Pv (α:=Int) 8 0,[],false),(0,Pv (α:=Int) 8 0,[],false),[],false)).2.2.2.2.1.1 (rd p4 q1.1.1 (0,0,0,0,(0,Pv (α:=Int) 8 0,[],false),(0,Pv (α:=Int) 8 0,[],false),[],false)).2.2.2.2.1.2.1.1 (rd p4 q1.1.1 (0,0,0,0,(0,Pv (α:=Int) 8 0,[],false),(0,Pv (α:=Int) 8 0,[],false),[],false)).2.2.2.2.1.2.1.2.1 (rd p4 q1.1.1 (0,0,0,0,(0,Pv (α:=Int) 8 0,[],false),(0,Pv (α:=Int) 8 0,[],false),[],false)).2.2.2.2.1.2.1.2.2.1 (rd p4 q1.1.1 (0,0,0,0,(0,Pv (α:=Int) 8 0,[],false),(0,Pv (α:=Int) 8 0,[],false),[],false)).2.2.2.2.1.2.1.2.2.2.1 (rd p4 q1.1.1 (0,0,0,0,(0,Pv (α:=Int) 8 0,[],false),(0,Pv (α:=Int) 8 0,[],false),[],false)).2.2.2.2.1.2.1.2.2.2.2.1 (rd p4 q1.1.1 (0,0,0,0,(0,Pv (α:=Int) 8 0,[],false),(0,Pv (α:=Int) 8 0,[],false),[],false)).2.2.2.2.1.2.1.2.2.2.2.2.1 (rd p4 q1.1.1 (0,0,0,0,(0,Pv (α:=Int) 8 0,[],false),(0,Pv (α:=Int) 8 0,[],false),[],false)).2.2.2.2.1.2.1.2.2.2.2.2.2.1 (rd p4 q1.1.1 (0,0,0,0,(0,Pv (α:=Int) 8 0,[],false),(0,Pv (α:=Int) 8 0,[],false),[],false)).2.2.2.2.1.2.1.2.2.2.2.2.2.2 (rd p4 q1.1.1 (0,0,0,0,(0,Pv (α:=Int) 8 0,[],false),(0,Pv (α:=Int) 8 0,[],false),[],false)).2.2.2.2.1.2.2.1 (rd p4 q1.1.1 (0,0,0,0,(0,Pv (α:=Int) 8 0,[],false),(0,Pv (α:=Int) 8 0,[],false),[],false)).2.2.2.2.1.2.2.2 (rd p4 q1.1.1 (0,0,0,0,(0,Pv (α:=Int) 8 0,[],false),(0,Pv (α:=Int) 8 0,[],false),[],false)).2.2.2.2.2.1.1 (rd p4 q1.1.1 (0,0,0,0,(0,Pv (α:=Int) 8 0,[],false),(0,Pv (α:=Int) 8 0,[],false),[],false)).2.2.2.2.2.1.2.1.1 (rd p4 q1.1.1 (0,0,0,0,(0,Pv (α:=Int) 8 0,[],false),(0,Pv (α:=Int) 8 0,[],false),[],false)).2.2.2.2.2.1.2.1.2.1 (rd p4 q1.1.1 (0,0,0,0,(0,Pv (α:=Int) 8 0,[],false),(0,Pv (α:=Int) 8 0,[],false),[],false)).2.2.2.2.2.1.2.1.2.2.1 (rd p4 q1.1.1 (0,0,0,0,(0,Pv (α:=Int) 8 0,[],false),(0,Pv (α:=Int) 8 0,[],false),[],false)).2.2.2.2.2.1.2.1.2.2.2.1 (rd p4 q1.1.1 (0,0,0,0,(0,Pv (α:=Int) 8 0,[],false),(0,Pv (α:=Int) 8 0,[],false),[],false)).2.2.2.2.2.1.2.1.2.2.2.2.1 (rd p4 q1.1.1 (0,0,0,0,(0,Pv (α:=Int) 8 0,[],false),(0,Pv (α:=Int) 8 0,[],false),[],false)).2.2.2.2.2.1.2.1.2.2.2.2.2.1 (rd p4 q1.1.1 (0,0,0,0,(0,Pv (α:=Int) 8 0,[],false),(0,Pv (α:=Int) 8 0,[],false),[],false)).2.2.2.2.2.1.2.1.2.2.2.2.2.2.1 (rd p4 q1.1.1 (0,0,0,0,(0,Pv (α:=Int) 8 0,[],false),(0,Pv (α:=Int) 8 0,[],false),[],false)).2.2.2.2.2.1.2.1.2.2.2.2.2.2.2 (rd p4 q1.1.1 (0,0,0,0,(0,Pv (α:=Int) 8 0,[],false),(0,Pv (α:=Int) 8 0,[],false),[],false)).2.2.2.2.2.1.2.2.1 (rd p4 q1.1.1 (0,0,0,0,(0,Pv (α:=Int) 8 0,[],false),(0,Pv (α:=Int) 8 0,[],false),[],false)).2.2.2.2.2.1.2.2.2 (rd p4 q1.1.1 (0,0,0,0,(0,Pv (α:=Int) 8 0,[],false),(0,Pv (α:=Int) 8 0,[],false),[],false)).2.2.2.2.2.2.1 (rd p4 q1.1.1 (0,0,0,0,(0,Pv (α:=Int) 8 0,[],false),(0,Pv (α:=Int) 8 0,[],false),[],false)).2.2.2.2.2.2.2).bind fun ((v,_),(w,y,z,A,B,C,D,G,H,I,J,K,M,N,_),(O,P,Q,T,U,V,W,X,Z,a1,b1,c1,e1,f1,h1,i1,l1,m1,n1,o1,p1,s1,u1,v1,w1,y1,z1,a2,_),_) =>
    ix G q1.1.1 <|
    let r4:List jv:=upd G q1.1.1 (O,P,Q,T,(U,(V,W,X,Z,a1,b1,c1,e1),f1,h1),(i1,(l1,m1,n1,o1,p1,s1,u1,v1),w1,y1),z1,a2)
    (bif v then
     (S50 k r4 q1.1.1 (IntKind.i64.wrap (q1.1.1+1))).bind fun q5 =>
     some ((),(w,y,z,A,B,C,D,q5.1.1,H,I,J,K,M,N,()),())
    else
     some ((),(w,y,z,A,B,C,D,r4,H,I,J,K,M,N,()),()))
   else
    (afY k a b c e f h i l m n o p s u (rd p4 q1.1.1 (0,0,0,0,(0,Pv (α:=Int) 8 0,[],false),(0,Pv (α:=Int) 8 0,[],false),[],false)).1 (rd p4 q1.1.1 (0,0,0,0,(0,Pv (α:=Int) 8 0,[],false),(0,Pv (α:=Int) 8 0,[],false),[],false)).2.1 (rd p4 q1.1.1 (0,0,0,0,(0,Pv (α:=Int) 8 0,[],false),(0,Pv (α:=Int) 8 0,[],false),[],false)).2.2.1 (rd p4 q1.1.1 (0,0,0,0,(0,Pv (α:=Int) 8 0,[],false),(0,Pv (α:=Int) 8 0,[],false),[],false)).2.2.2.1 (rd p4 q1.1.1 (0,0,0,0,(0,Pv (α:=Int) 8 0,[],false),(0,Pv (α:=Int) 8 0,[],false),[],false)).2.2.2.2.1.1 (rd p4 q1.1.1 (0,0,0,0,(0,Pv (α:=Int) 8 0,[],false),(0,Pv (α:=Int) 8 0,[],false),[],false)).2.2.2.2.1.2.1.1 (rd p4 q1.1.1 (0,0,0,0,(0,Pv (α:=Int) 8 0,[],false),(0,Pv (α:=Int) 8 0,[],false),[],false)).2.2.2.2.1.2.1.2.1 (rd p4 q1.1.1 (0,0,0,0,(0,Pv (α:=Int) 8 0,[],false),(0,Pv (α:=Int) 8 0,[],false),[],false)).2.2.2.2.1.2.1.2.2.1 (rd p4 q1.1.1 (0,0,0,0,(0,Pv (α:=Int) 8 0,[],false),(0,Pv (α:=Int) 8 0,[],false),[],false)).2.2.2.2.1.2.1.2.2.2.1 (rd p4 q1.1.1 (0,0,0,0,(0,Pv (α:=Int) 8 0,[],false),(0,Pv (α:=Int) 8 0,[],false),[],false)).2.2.2.2.1.2.1.2.2.2.2.1 (rd p4 q1.1.1 (0,0,0,0,(0,Pv (α:=Int) 8 0,[],false),(0,Pv (α:=Int) 8 0,[],false),[],false)).2.2.2.2.1.2.1.2.2.2.2.2.1 (rd p4 q1.1.1 (0,0,0,0,(0,Pv (α:=Int) 8 0,[],false),(0,Pv (α:=Int) 8 0,[],false),[],false)).2.2.2.2.1.2.1.2.2.2.2.2.2.1 (rd p4 q1.1.1 (0,0,0,0,(0,Pv (α:=Int) 8 0,[],false),(0,Pv (α:=Int) 8 0,[],false),[],false)).2.2.2.2.1.2.1.2.2.2.2.2.2.2 (rd p4 q1.1.1 (0,0,0,0,(0,Pv (α:=Int) 8 0,[],false),(0,Pv (α:=Int) 8 0,[],false),[],false)).2.2.2.2.1.2.2.1 (rd p4 q1.1.1 (0,0,0,0,(0,Pv (α:=Int) 8 0,[],false),(0,Pv (α:=Int) 8 0,[],false),[],false)).2.2.2.2.1.2.2.2 (rd p4 q1.1.1 (0,0,0,0,(0,Pv (α:=Int) 8 0,[],false),(0,Pv (α:=Int) 8 0,[],false),[],false)).2.2.2.2.2.1.1 (rd p4 q1.1.1 (0,0,0,0,(0,Pv (α:=Int) 8 0,[],false),(0,Pv (α:=Int) 8 0,[],false),[],false)).2.2.2.2.2.1.2.1.1 (rd p4 q1.1.1 (0,0,0,0,(0,Pv (α:=Int) 8 0,[],false),(0,Pv (α:=Int) 8 0,[],false),[],false)).2.2.2.2.2.1.2.1.2.1 (rd p4 q1.1.1 (0,0,0,0,(0,Pv (α:=Int) 8 0,[],false),(0,Pv (α:=Int) 8 0,[],false),[],false)).2.2.2.2.2.1.2.1.2.2.1 (rd p4 q1.1.1 (0,0,0,0,(0,Pv (α:=Int) 8 0,[],false),(0,Pv (α:=Int) 8 0,[],false),[],false)).2.2.2.2.2.1.2.1.2.2.2.1 (rd p4 q1.1.1 (0,0,0,0,(0,Pv (α:=Int) 8 0,[],false),(0,Pv (α:=Int) 8 0,[],false),[],false)).2.2.2.2.2.1.2.1.2.2.2.2.1 (rd p4 q1.1.1 (0,0,0,0,(0,Pv (α:=Int) 8 0,[],false),(0,Pv (α:=Int) 8 0,[],false),[],false)).2.2.2.2.2.1.2.1.2.2.2.2.2.1 (rd p4 q1.1.1 (0,0,0,0,(0,Pv (α:=Int) 8 0,[],false),(0,Pv (α:=Int) 8 0,[],false),[],false)).2.2.2.2.2.1.2.1.2.2.2.2.2.2.1 (rd p4 q1.1.1 (0,0,0,0,(0,Pv (α:=Int) 8 0,[],false),(0,Pv (α:=Int) 8 0,[],false),[],false)).2.2.2.2.2.1.2.1.2.2.2.2.2.2.2 (rd p4 q1.1.1 (0,0,0,0,(0,Pv (α:=Int) 8 0,[],false),(0,Pv (α:=Int) 8 0,[],false),[],false)).2.2.2.2.2.1.2.2.1 (rd p4 q1.1.1 (0,0,0,0,(0,Pv (α:=Int) 8 0,[],false),(0,Pv (α:=Int) 8 0,[],false),[],false)).2.2.2.2.2.1.2.2.2 (rd p4 q1.1.1 (0,0,0,0,(0,Pv (α:=Int) 8 0,[],false),(0,Pv (α:=Int) 8 0,[],false),[],false)).2.2.2.2.2.2.1 (rd p4 q1.1.1 (0,0,0,0,(0,Pv (α:=Int) 8 0,[],false),(0,Pv (α:=Int) 8 0,[],false),[],false)).2.2.2.2.2.2.2).bind fun ((b2,_),(c2,e2,f2,h2,i2,l2,m2,n2,o2,p2,s2,u2,v2,w2,_),(y2,z2,a3,b3,c3,e3,f3,h3,i3,l3,m3,n3,o3,p3,s3,u3,v3,w3,y3,z3,a4,b4,c4,e4,f4,h4,i4,l4,_),_) =>
    ix n2 q1.1.1 <|
    let r7:List jv:=upd n2 q1.1.1 (y2,z2,a3,b3,(c3,(e3,f3,h3,i3,l3,m3,n3,o3),p3,s3),(u3,(v3,w3,y3,z3,a4,b4,c4,e4),f4,h4),i4,l4)
    (bif b2 then
     (S50 k r7 q1.1.1 (IntKind.i64.wrap (q1.1.1+1))).bind fun q8 =>
     some ((),(c2,e2,f2,h2,i2,l2,m2,q8.1.1,o2,p2,s2,u2,v2,w2,()),())
    else
     some ((),(c2,e2,f2,h2,i2,l2,m2,r7,o2,p2,s2,u2,v2,w2,()),())))))
def F59:Fn:=⟨[aaM],[],fun k ((a,b,c,e,f,h,i,l,m,n,o,p,s,t,_),_)=>S59 k a b c e f h i l m n o p s t⟩
theorem ok59:O 59 F59:=okF (ah ok30 <| ah ok50 <| ah ok100a <| ah ok104 <| ah ok105 <| ah ok106 aj) [] On Tryz.func59 rfl
def S23 (k:Nat) (w1:JD):Option ((MU×zu×Unit)×Unit) :=
 (S34 k w1).bind fun q0 =>
 (bif q0.1.1.2.2.2.2.1 then
  (bif !q0.1.1.2.2.2.2.2.1 then
   (S56 k q0.1.1.1 q0.1.1.2.1 q0.1.1.2.2.1 q0.1.1.2.2.2.1 q0.1.1.2.2.2.2.1 q0.1.1.2.2.2.2.2.1 q0.1.1.2.2.2.2.2.2.1 q0.1.1.2.2.2.2.2.2.2.1 q0.1.1.2.2.2.2.2.2.2.2.1.1.1 q0.1.1.2.2.2.2.2.2.2.2.1.1.2 q0.1.1.2.2.2.2.2.2.2.2.1.2 q0.1.1.2.2.2.2.2.2.2.2.2.1 q0.1.1.2.2.2.2.2.2.2.2.2.2 ([]:List (PN Int 6))).bind fun (_,(a,b,c,e,f,h,i,l,m,n,o,p,s,t,_),_) =>
   (S57 k a b c e f h i l m n o p s t).bind fun (_,(u,v,w,y,z,A,B,C,D,G,H,I,J,K,_),_) =>
   (S58 k u v w y z A B C D G H I J K).bind fun (_,(M,N,O,P,Q,T,U,V,W,X,Z,a1,b1,c1,_),_) =>
   (S59 k M N O P Q T U V W X Z a1 b1 c1).bind fun (_,(e1,f1,h1,i1,l1,m1,_,n1,o1,p1,s1,t1,u1,v1,_),_) =>
   some (((IntKind.i64.wrap (e1+1),f1,h1,i1,l1,m1,false,n1,((o1,p1),s1),t1,u1),v1,()),())
  else
   some (((IntKind.i64.wrap (q0.1.1.1+1),q0.1.1.2.1,q0.1.1.2.2.1,q0.1.1.2.2.2.1,q0.1.1.2.2.2.2.1,q0.1.1.2.2.2.2.2.1,false,q0.1.1.2.2.2.2.2.2.2),([]:List (PN Int 6)),()),()))
 else
  some (((IntKind.i64.wrap (q0.1.1.1+1),q0.1.1.2.1,q0.1.1.2.2.1,q0.1.1.2.2.2.1,q0.1.1.2.2.2.2.1,q0.1.1.2.2.2.2.2.1,false,q0.1.1.2.2.2.2.2.2.2),([]:List (PN Int 6)),()),()))
def F23:Fn:=⟨[.val ⟨true,ahK,false⟩],[.val ⟨true,ahK,true⟩,acW],fun k x=>S23 k x.1⟩
theorem ok23:O 23 F23:=okF (ah ok34 <| ah ok56 <| ah ok57 <| ah ok58 <| ah ok59 aj) [(8,2)] On Tryz.func23 rfl
def S9 (k:Nat):Option ((Bool×Unit)×Unit) :=
 (S25 k 50).bind fun q0 =>
 (S28 k [] (1,20,20,([(0,0,0,0)]:List lu),[],[]) 50).bind fun q1 =>
 (S12 k (q0.1.1.1,q0.1.1.2.1,q1.1.1,q1.1.2.1,q0.1.1.2.2.2.2)).bind fun q2 =>
 mk 1 1 8 <|
 mk 1 1 1 <|
 (S20 k (q2.1.1.1,q2.1.1.2.1,q2.1.1.2.2.1,q2.1.1.2.2.2.1,q2.1.1.2.2.2.2.1,q2.1.1.2.2.2.2.2.1,q2.1.1.2.2.2.2.2.2.1,q2.1.1.2.2.2.2.2.2.2.1,q2.1.1.2.2.2.2.2.2.2.2.1,List.replicate 1 (0:Int),List.replicate 1 (false:Bool)) 0 7).bind fun q3 =>
 (S23 k q3.1.1).bind fun q4 =>
 (S25 k 0).bind fun q5 =>
 (bif q0.1.2.1 then
  (bif q1.1.2.2.1==0 then
   (bif q2.1.2.1==0 then
    (bif q3.1.2.2.1==0 then
     (bif (q3.1.2.1.length:Int)==1 then
      (bif (q3.1.1.2.2.2.2.2.2.2.1.length:Int)==1 then
       (bif q4.1.1.1==1 then
        (bif (q4.1.1.2.2.2.2.2.2.2.1.length:Int)==0 then
         (bif (q4.1.2.1.length:Int)==2 then
          ix q4.1.2.1 1 <|
          (bif fC AO (rd q4.1.2.1 1 (Pv (α:=Int) 6 0)) (0,3,0,0,7,0) then
           (bif !q5.1.2.1 then
            (S30 k q4.1.1).bind fun q6 =>
            some (((q6.1.1.length:Int)==0,()),())
           else
            some ((false,()),()))
          else
           some ((false,()),()))
         else
          some ((false,()),()))
        else
         some ((false,()),()))
       else
        some ((false,()),()))
      else
       some ((false,()),()))
     else
      some ((false,()),()))
    else
     some ((false,()),()))
   else
    some ((false,()),()))
  else
   some ((false,()),()))
 else
  some ((false,()),()))
def F9:Fn:=⟨[],[rB],fun k x=>S9 k ⟩
theorem ok9:O 9 F9:=okF (ah ok12 <| ah ok20 <| ah ok23 <| ah ok25 <| ah ok28 <| ah ok30 aj) [] On Tryz.func9 rfl
def alC (k:Nat) (a:Int):Option ((zh×Unit)×Unit) :=
 mk (mn (mx a 0) 64) (mn (mx a 0) 64) 8 <|
 mk (mn (mx a 0) 64) (mn (mx a 0) 64) 1 <|
 some (((List.replicate (mn (mx a 0) 64).toNat (0:Int),List.replicate (mn (mx a 0) 64).toNat (false:Bool)),()),())
def F119:Fn:=⟨[au],[UM],fun k x=>alC k x.1⟩
theorem ok119:O 119 F119:=okF aj [] On Tryz.func119 rfl
def S66 (k:Nat):Option (((zh×List jo)×Unit)×Unit) :=
 (alC k 12).bind fun q0 =>
 mk 12 12 128 <|
 some (((q0.1.1,List.replicate 12 ((0,(0,0),(0,0),([],[]),(0,[]),0):Int×(Int×Int)×(Int×Int)×((List Int)×List Int)×YH×Int)),()),())
def F66:Fn:=⟨[],[.val ⟨true,acU,true⟩],fun k x=>S66 k ⟩
theorem ok66:O 66 F66:=okF (ah ok119 aj) [] On Tryz.func66 rfl
def S26 (k:Nat) (a:Int):Option ((MU×Bool×Unit)×Unit) :=
 (bif decide (a<1) then
  some (((0,0,[],[],false,false,false,[],(([],[]),[]),[],[]),false,()),())
 else
  (bif decide (a>4611686018427387904) then
   some (((0,0,[],[],false,false,false,[],(([],[]),[]),[],[]),false,()),())
  else
   (S66 k).bind fun q0 =>
   some (((0,a,[],[],false,false,false,[],q0.1.1,[],[]),true,()),())))
def F26:Fn:=⟨[au],[.val ⟨true,aiW,true⟩,rB],fun k x=>S26 k x.1⟩
theorem ok26:O 26 F26:=okF (ah ok66 aj) [] On Tryz.func26 rfl
def S17 (k:Nat) (a:List Int):Option ((DK×Unit)×Unit) :=
 some (((a,0,()),()),())
def F17:Fn:=⟨[.val ⟨false,DR,false⟩],[.pv (.box 140 [.cell DR,cI])],fun k x=>S17 k x.1⟩
theorem ok17:O 17 F17:=okF aj [] On Tryz.func17 rfl
def JH (k:Nat) (a:List Int) (b c:Int):Option ((Int×Unit)×DK×Unit) :=
 (bif decide (b≥(a.length:Int)) then
  some ((0,()),(a,b,()),())
 else
  ix a (IntKind.i64.wrap ((IntKind.i64.wrap (b+1)) - 1)) <|
  nz c <|
  some ((Int.tmod (IntKind.i64.wrap (rd a (IntKind.i64.wrap ((IntKind.i64.wrap (b+1)) - 1)) 0)) c,()),(a,IntKind.i64.wrap (b+1),()),()))
def F19:Fn:=⟨[aaN,au],[rI],fun k ((a,b,_),c,_)=>JH k a b c⟩
theorem ok19:O 19 F19:=okF aj [] On Tryz.func19 rfl
def S74 (k:Nat) (a:Int×l7×(Int×Int)×Int×Int×Int):Option ((wu×Unit)×Unit) :=
 some (((1,a,0,0),()),())
def F74:Fn:=⟨[acZ],[.val ⟨true,NS,false⟩],fun k x=>S74 k x.1⟩
theorem ok74:O 74 F74:=okF aj [] On Tryz.func74 rfl
def aaR (k:Nat) (a:List Int) (b:Int):Option ((lu×Unit)×DK×Unit) :=
 (JH k a b 3).bind fun q0 =>
 (JH k q0.2.1.1 q0.2.1.2.1 3).bind fun q1 =>
 (JH k q1.2.1.1 q1.2.1.2.1 6).bind fun q2 =>
 (bif q2.1.1==0 then
  (JH k q2.2.1.1 q2.2.1.2.1 9).bind fun q3 =>
  some (((1,q0.1.1,0,IntKind.i64.wrap (q3.1.1 - 4)),()),q3.2.1,())
 else
  (bif q2.1.1==1 then
   some (((2,q0.1.1,q1.1.1,0),()),q2.2.1,())
  else
   (bif q2.1.1==2 then
    some (((3,q0.1.1,q1.1.1,0),()),q2.2.1,())
   else
    (bif q2.1.1==3 then
     some (((4,q0.1.1,q1.1.1,0),()),q2.2.1,())
    else
     (bif q2.1.1==4 then
      (JH k q2.2.1.1 q2.2.1.2.1 7).bind fun q4 =>
      some (((5,q0.1.1,0,IntKind.i64.wrap (q4.1.1 - 3)),()),q4.2.1,())
     else
      (JH k q2.2.1.1 q2.2.1.2.1 64).bind fun q5 =>
      some (((6,q0.1.1,0,IntKind.i64.wrap (1+q5.1.1)),()),q5.2.1,()))))))
def F171:Fn:=⟨[aaN],[ac1],fun k x=>aaR k x.1.1 x.1.2.1⟩
theorem ok171:O 171 F171:=okF (ah ok19 aj) [] On Tryz.func171 rfl
abbrev Z5:Cut:=⟨[0,2,7,8],[.pin false 0,cI,.own 87 zq,cI],[.fK 140 [.cell DR,cI]],47,[]⟩
def RB (k:Nat) (g3:YJ) (a:List Int) (b c:Int) (e:List lu) (f:Int):Option FD :=
 (bif decide (f>0) then
  (bif decide (c>0) then
   (JH k a b 4).bind fun q1 =>
   (bif q1.1.1==0 then
    (JH k q1.2.1.1 q1.2.1.2.1 c).bind fun q2 =>
    ap e ([(9,q2.1.1,0,0)]:List lu) 32 fun r3 =>
    (aaR k q2.2.1.1 q2.2.1.2.1).bind fun q4 =>
    ap r3 ([q4.1.1]:List lu) 32 fun r5 =>
    ap r5 ([(10,q2.1.1,0,0)]:List lu) 32 fun r6 =>
    g3 q4.2.1.1 q4.2.1.2.1 c r6 (IntKind.i64.wrap (f - 1))
   else
    (aaR k q1.2.1.1 q1.2.1.2.1).bind fun q7 =>
    ap e ([q7.1.1]:List lu) 32 fun r8 =>
    g3 q7.2.1.1 q7.2.1.2.1 c r8 (IntKind.i64.wrap (f - 1)))
  else
   (aaR k a b).bind fun q9 =>
   ap e ([q9.1.1]:List lu) 32 fun r10 =>
   g3 q9.2.1.1 q9.2.1.2.1 c r10 (IntKind.i64.wrap (f - 1)))
 else
  some ((e,()),(a,b,()),()))
def adr (k:Nat):Xx (((DK×Unit)×Unit×Int×(List lu)×Int×Unit) -> Option FD):=dh (bq (bq (ay (ay bg)) bg) (bf (ay (ay (ay bg))))) (RB k)
def RF (k a:Nat) (b:List Int) (c e:Int) (f:List lu) (h:Int):Option FD:=iter Z5 (adr k) a (((b,c,()),()),(),e,f,h,())
theorem UY (k a b c e f h):RF k (a+1) b c e f h=RB k (RF k a) b c e f h:=Ba _ _ _ _
def aaS (k:Nat) (a:List Int) (b c e:Int):Option FD :=
 (JH k a b c).bind fun q0 =>
 RF k k q0.2.1.1 q0.2.1.2.1 e ([]:List lu) (IntKind.i64.wrap (q0.1.1+1))
def F120:Fn:=⟨[aaN,au,au],[aiX],fun k ((a,b,_),c,e,_)=>aaS k a b c e⟩
theorem ok120:O 120 F120:=okF (ah ok19 <| ah ok171 aj) [(7,2)] (fun k=>(.loop 3 Z5 (adr k) (fun g=>.nil) .nil)) Tryz.func120 rfl
abbrev afZ:Cut:=⟨[0,1,5,6,7],[.pin false 0,cI,.own 87 zq,cI,.own 87 zq],[.fK 140 [.cell DR,cI]],66,[]⟩
def FN (k:Nat) (g3:YJ) (a:List Int) (b c:Int) (e:List lu) (f:Int) (x:List lu):Option FD :=
 (bif decide ((IntKind.i64.wrap ((e.length:Int)+(x.length:Int)))<23) then
  ap e x 32 fun r9 =>
  g3 a b c r9 (IntKind.i64.wrap (f - 1))
 else
  g3 a b c e (IntKind.i64.wrap (f - 1)))
abbrev ads:Cut:=⟨[0,1,5,6],[.pin false 0,cI,.own 87 zq,cI],[.fK 140 [.cell DR,cI]],66,[]⟩
def Z6 (k:Nat) (g3:YJ) (a:List Int) (b c:Int) (e:List lu) (f:Int):Option FD :=
 (bif decide (f>0) then
  (JH k a b 5).bind fun q1 =>
  (bif q1.1.1==0 then
   (aaS k q1.2.1.1 q1.2.1.2.1 2 c).bind fun q2 =>
   (JH k q2.2.1.1 q2.2.1.2.1 3).bind fun q3 =>
   ap ([(8,0,(q2.1.1.length:Int),IntKind.i64.wrap (1+q3.1.1))]:List lu) q2.1.1 32 fun r4 =>
   FN k g3 q3.2.1.1 q3.2.1.2.1 c e f r4
  else
   (bif q1.1.1==1 then
    (aaS k q1.2.1.1 q1.2.1.2.1 2 c).bind fun q5 =>
    (JH k q5.2.1.1 q5.2.1.2.1 3).bind fun q6 =>
    ap ([(7,q6.1.1,0,(q5.1.1.length:Int))]:List lu) q5.1.1 32 fun r7 =>
    FN k g3 q6.2.1.1 q6.2.1.2.1 c e f r7
   else
    (bif q1.1.1==2 then
     FN k g3 q1.2.1.1 q1.2.1.2.1 c e f ([(11,0,0,0)]:List lu)
    else
     (aaS k q1.2.1.1 q1.2.1.2.1 2 c).bind fun q8 =>
     FN k g3 q8.2.1.1 q8.2.1.2.1 c e f q8.1.1)))
 else
  ap e ([(0,0,0,0)]:List lu) 32 fun r10 =>
  some ((r10,()),(a,b,()),()))
def ahQ (k:Nat):Xx (((DK×Unit)×Unit×Int×(List lu)×Int×Unit) -> Option FD):=dh (bq (bq (ay (ay bg)) bg) (bf (ay (ay (ay bg))))) (Z6 k)
def JI (k a:Nat) (b:List Int) (c e:Int) (f:List lu) (h:Int):Option FD:=iter ads (ahQ k) a (((b,c,()),()),(),e,f,h,())
theorem Z7 (k a b c e f h):JI k (a+1) b c e f h=Z6 k (JI k a) b c e f h:=Ba _ _ _ _
def S67 (k:Nat) (a:List Int) (b c:Int):Option FD :=
 (JH k a b 4).bind fun q0 =>
 JI k k q0.2.1.1 q0.2.1.2.1 c ([]:List lu) (IntKind.i64.wrap (q0.1.1+1))
def F67:Fn:=⟨[aaN,au],[aiX],fun k ((a,b,_),c,_)=>S67 k a b c⟩
theorem ok67:O 67 F67:=okF (ah ok19 <| ah ok120 aj) [(5,2)] (fun k=>(.loop 3 ads (ahQ k) (fun g=>(fun (g3:YJ)=>(.join 16 afZ (fun (((a,b,_),_),_,c,e,f,h,_)=>FN k g3 a b c e f h) .nil)) (fun p2 p3 C9 l_ i=>g (((p2,p3,()),()),(),C9,l_,i,()))) .nil)) Tryz.func67 rfl
abbrev ai8:Cut:=⟨[0,6,7],[.pin false 0,.box 77 [cI,cI,cI,.nil,.nil,.nil],.box 77 [cI,cI,cI,.own 87 zq,.cell (.sl 87 zq),.own 87 zq]],[.fK 140 [.cell DR,cI]],41,[]⟩
def UZ (k:Nat) (a:List Int) (b c e f h i l:Int) (m n o:List lu):Option ((l7×Unit)×DK×Unit) :=
 (JH k a b 3).bind fun q5 =>
 (bif q5.1.1==0 then
  (S67 k q5.2.1.1 q5.2.1.2.1 0).bind fun q6 =>
  some (((h,i,l,m,n,q6.1.1),()),q6.2.1,())
 else
  some (((h,i,l,m,n,o),()),q5.2.1,()))
def S27 (k:Nat) (a:List Int) (b c e:Int):Option ((l7×Unit)×DK×Unit) :=
 (S67 k a b e).bind fun q0 =>
 (JH k q0.2.1.1 q0.2.1.2.1 12).bind fun q1 =>
 (JH k q1.2.1.1 q1.2.1.2.1 10).bind fun q2 =>
 (JH k q2.2.1.1 q2.2.1.2.1 3).bind fun q3 =>
 (bif q3.1.1==0 then
  (JH k q3.2.1.1 q3.2.1.2.1 2).bind fun q4 =>
  sx ([(1,0,0,99),(0,0,0,0)]:List lu) q4.1.1 (([(1,0,0,99),(0,0,0,0)]:List lu).length:Int) <|
  UZ k q4.2.1.1 q4.2.1.2.1 0 0 0 c (IntKind.i64.wrap (20+(IntKind.i64.wrap (10 * q1.1.1)))) (IntKind.i64.wrap ((IntKind.i64.wrap (20+(IntKind.i64.wrap (10 * q1.1.1)))) - q2.1.1)) q0.1.1 (sub ([(1,0,0,99),(0,0,0,0)]:List lu) q4.1.1 (([(1,0,0,99),(0,0,0,0)]:List lu).length:Int)) ([]:List lu)
 else
  UZ k q3.2.1.1 q3.2.1.2.1 0 0 0 c (IntKind.i64.wrap (20+(IntKind.i64.wrap (10 * q1.1.1)))) (IntKind.i64.wrap ((IntKind.i64.wrap (20+(IntKind.i64.wrap (10 * q1.1.1)))) - q2.1.1)) q0.1.1 ([]:List lu) ([]:List lu))
def F27:Fn:=⟨[aaN,au,au],[.val ⟨true,zo,false⟩],fun k ((a,b,_),c,e,_)=>S27 k a b c e⟩
theorem ok27:O 27 F27:=okF (ah ok19 <| ah ok67 aj) [(12,2)] (fun k=>(.join 6 ai8 (fun (((a,b,_),_),_,(c,e,f,_),(h,i,l,m,n,o,_),_)=>UZ k a b c e f h i l m n o) .nil)) Tryz.func27 rfl
abbrev af0:Cut:=⟨[3],[.own 108 NS],[.fK 140 [.cell DR,cI]],60,[]⟩
def RG (k:Nat) (a:List Int) (b:Int) (c:List wu):Option DL :=
 (S74 k (5,(0,0,0,[],[],[]),(0,0),0,0,0)).bind fun q14 =>
 ap c ([q14.1.1]:List wu) 168 fun r15 =>
 some ((r15,()),(a,b,()),())
abbrev af2:Cut:=⟨[0,3],[.pin false 0,.own 108 NS],[.fK 140 [.cell DR,cI]],60,[]⟩
def LM (k:Nat) (a:List Int) (b:Int) (c:List wu):Option DL :=
 (JH k a b 3).bind fun TB =>
 (bif TB.1.1==0 then
  (S74 k (4,(0,0,0,[],[],[]),(0,0),0,0,0)).bind fun q12 =>
  ap c ([q12.1.1]:List wu) 168 fun r13 =>
  RG k TB.2.1.1 TB.2.1.2.1 r13
 else
  RG k TB.2.1.1 TB.2.1.2.1 c)
abbrev adt:Cut:=⟨[0,3,4,6],[.pin false 0,.own 108 NS,cI,cI],[.fK 140 [.cell DR,cI]],60,[]⟩
def Z8 (k:Nat) (g8:(List Int) -> Int -> (List wu) -> Int -> Int -> Option DL) (a:List Int) (b:Int) (c:List wu) (e f:Int):Option DL :=
 (bif decide (f>0) then
  (JH k a b 3).bind fun q4 =>
  (S27 k q4.2.1.1 q4.2.1.2.1 (IntKind.i64.wrap ((IntKind.i64.wrap (3 * f))+q4.1.1)) e).bind fun q5 =>
  (S74 k (1,q5.1.1,(0,0),0,0,0)).bind fun q6 =>
  ap c ([q6.1.1]:List wu) 168 fun r7 =>
  g8 q5.2.1.1 q5.2.1.2.1 r7 e (IntKind.i64.wrap (f - 1))
 else
  (JH k a b 3).bind fun q8 =>
  (bif q8.1.1==0 then
   (S74 k (3,(0,0,0,[],[],[]),(0,0),0,0,0)).bind fun q9 =>
   ap c ([q9.1.1]:List wu) 168 fun r10 =>
   LM k q8.2.1.1 q8.2.1.2.1 r10
  else
   LM k q8.2.1.1 q8.2.1.2.1 c))
def ahR (k:Nat):Xx (((DK×Unit)×Unit×(List wu)×Int×Int×Unit) -> Option DL):=dh (bq (bq (ay (ay bg)) bg) (bf (ay (ay (ay bg))))) (Z8 k)
def V3 (k a:Nat) (b:List Int) (c:Int) (e:List wu) (f h:Int):Option DL:=iter adt (ahR k) a (((b,c,()),()),(),e,f,h,())
theorem Z9 (k a b c e f h):V3 k (a+1) b c e f h=Z8 k (V3 k a) b c e f h:=Ba _ _ _ _
abbrev adu:Cut:=⟨[0,3,4,5],[.pin false 0,.own 108 NS,cI,cI],[.fK 140 [.cell DR,cI]],60,[]⟩
def Za (k:Nat) (g4:(List Int) -> Int -> (List wu) -> Int -> Int -> Option DL) (a:List Int) (b:Int) (c:List wu) (e f:Int):Option DL :=
 (bif decide (f<e) then
  (S74 k (2,(0,0,0,[],[],[]),(0,0),0,0,0)).bind fun q1 =>
  ap c ([q1.1.1]:List wu) 168 fun r2 =>
  g4 a b r2 e (IntKind.i64.wrap (f+1))
 else
  (JH k a b 4).bind fun q3 =>
  V3 k k q3.2.1.1 q3.2.1.2.1 c e (IntKind.i64.wrap (q3.1.1+1)))
def ahS (k:Nat):Xx (((DK×Unit)×Unit×(List wu)×Int×Int×Unit) -> Option DL):=dh (bq (bq (ay (ay bg)) bg) (bf (ay (ay (ay bg))))) (Za k)
def Zb (k a:Nat) (b:List Int) (c:Int) (e:List wu) (f h:Int):Option DL:=iter adu (ahS k) a (((b,c,()),()),(),e,f,h,())
theorem Zc (k a b c e f h):Zb k (a+1) b c e f h=Za k (Zb k a) b c e f h:=Ba _ _ _ _
def S31 (k:Nat) (a:List Int) (b:Int):Option DL :=
 (JH k a b 4).bind fun q0 =>
 Zb k k q0.2.1.1 q0.2.1.2.1 ([]:List wu) q0.1.1 0
def F31:Fn:=⟨[aaN],[.val ⟨false,(.sl 108 NS),true⟩],fun k x=>S31 k x.1.1 x.1.2.1⟩
theorem ok31:O 31 F31:=okF (ah ok19 <| ah ok27 <| ah ok74 aj) [(3,2)] (fun k=>(.join 15 af0 (fun (((a,b,_),_),c,_)=>RG k a b c) (.join 13 af2 (fun (((a,b,_),_),_,c,_)=>LM k a b c) (.loop 8 adt (ahR k) (fun g=>.nil) (.loop 4 adu (ahS k) (fun g=>.nil) .nil))))) Tryz.func31 rfl
def ai9 (k:Nat) (a:(List Int)×List Bool):Option ((zh×Unit)×Unit) :=
 ap ([]:List Int) a.1 8 fun r0 =>
 ap ([]:List Bool) a.2 1 fun r1 =>
 some (((r0,r1),()),())
def F221:Fn:=⟨[YM],[UM],fun k x=>ai9 k x.1⟩
theorem ok221:O 221 F221:=okF aj [] On Tryz.func221 rfl
abbrev Zd:Cut:=⟨[2,3,5,6],[.box 38 [.nil,.nil],.box 103 [cI,cI],.box 38 [.own 3 (.int .i64),.own 4 .bool],cI],[],50,[]⟩
def aja (k:Nat) (g3:Int -> Int -> (List Int) -> (List Bool) -> Int -> Option UC) (a b:Int) (x:List Int) (c:List Bool) (e:Int):Option UC :=
 (bif decide (e<(c.length:Int)) then
  (bif decide (e<(x.length:Int)) then
   ix c e <|
   (bif !(rd c e false) then
    ix c e <|
    ix x e <|
    ix x e <|
    ix (upd x e (IntKind.i64.wrap ((rd x e 0)+1))) e <|
    some (((upd x e (IntKind.i64.wrap ((rd x e 0)+1)),upd c e true),(e,rd (upd x e (IntKind.i64.wrap ((rd x e 0)+1))) e 0),true,()),())
   else
    g3 a b x c (IntKind.i64.wrap (e+1)))
  else
   some (((x,c),(0,0),false,()),()))
 else
  some (((x,c),(0,0),false,()),()))
def adv (k:Nat):Xx (((Unit)×(Unit×Unit×Unit)×(Int×Int×Unit)×((List Int)×(List Bool)×Unit)×Int×Unit) -> Option UC):=dh (bf (bq (bf (bf bg)) (bq (ay (ay bg)) (bq (ay (ay bg)) (ay bg))))) (aja k)
def ajb (k a:Nat) (b c:Int) (x:List Int) (e:List Bool) (f:Int):Option UC:=iter Zd (adv k) a ((),((),(),()),(b,c,()),(x,e,()),f,())
def alG (k:Nat) (a:(List Int)×List Bool):Option UC :=
 (ai9 k a).bind fun q0 =>
 ajb k k 0 0 q0.1.1.1 q0.1.1.2 0
def F179:Fn:=⟨[YM],[UM,.val ⟨true,CV,true⟩,rB],fun k x=>alG k x.1⟩
theorem ok179:O 179 F179:=okF (ah ok221 aj) [] (fun k=>(.loop 3 Zd (adv k) (fun g=>.nil) .nil)) Tryz.func179 rfl
abbrev Ze:Cut:=⟨[0,3,4,5,6],[.cell JF,.cell (.int .u32),cI,.cell (.int .u64),cI],[],34,[]⟩
def ajc (k:Nat) (g3:UF) (g7:(List Int) -> Int -> Int -> Int -> Int -> Option ku) (a:List Int) (b c e f:Int):Option ku :=
 (bif decide (f<8) then
  g7 a (Tq .u32 (IntKind.u32.wrap ((IntKind.u32.wrap (b * 32))+(IntKind.u32.wrap (Int.tdiv b 134217728)))) (IntKind.u32.wrap (Int.tmod e 256))) c (IntKind.u64.wrap (Int.tdiv e 256)) (IntKind.i64.wrap (f+1))
 else
  g3 a b (IntKind.i64.wrap (c+1)))
def adw (k:Nat) (g3:UF):Xx (((Unit)×(List Int)×Int×Int×Int×Int×Unit) -> Option ku):=dh (bf (ay (ay (ay (ay (ay bg)))))) (ajc k g3)
def ajd (k:Nat) (g3:UF) (a:Nat) (b:List Int) (c e f h:Int):Option ku:=iter Ze (adw k g3) a ((),b,c,e,f,h,())
abbrev Zf:Cut:=⟨[0,3,4],[.cell JF,.cell (.int .u32),cI],[],34,[]⟩
def aje (k:Nat) (g3:UF) (a:List Int) (b c:Int):Option ku :=
 (bif decide (c<(a.length:Int)) then
  ix a c <|
  ajd k g3 k a b c (IntKind.u64.wrap (rd a c 0)) 0
 else
  some ((b,()),()))
def adx (k:Nat):Xx (((Unit)×(List Int)×Int×Int×Unit) -> Option ku):=dh (bf (ay (ay (ay bg)))) (aje k)
def ajf (k a:Nat) (b:List Int) (c e:Int):Option ku:=iter Zf (adx k) a ((),b,c,e,())
def alH (k:Nat) (a:List Int):Option ku :=
 ajf k k a 2166136261 0
def F191:Fn:=⟨[.val ⟨false,JF,false⟩],[aiY],fun k x=>alH k x.1⟩
theorem ok191:O 191 F191:=okF aj [] (fun k=>(.loop 3 Zf (adx k) (fun g=>(fun (g3:UF)=>(.loop 7 Ze (adw k g3) (fun g=>.nil) .nil)) (fun l_1 h i=>g ((),l_1,h,i,()))) .nil)) Tryz.func191 rfl
abbrev Zg:Cut:=⟨[1,3,5],[.box 122 [cI,cI,cI,cI,cI,.cell JF,.cell ko,.cell (.int .u32),.cell (.sl 297 DN),.cell (.int .u32)],.own 2 (.int .i64),cI],[],88,[]⟩
def ajg (k:Nat) (g9:ahM) (a b c e f:Int) (h i:List Int) (l:Int) (m:l8) (n:Int) (o:List Int) (p:Int):Option ku :=
 (bif decide (p<(m.length:Int)) then
  ix m p <|
  ix m p <|
  ap o ([(rd m p (0,0)).1,IntKind.i64.wrap (rd m p (0,0)).2]:List Int) 8 fun r4 =>
  g9 a b c e f h i l m n r4 (IntKind.i64.wrap (p+1))
 else
  (alH k o).bind fun q5 =>
  some ((q5.1.1,()),()))
def ady (k:Nat):Xx (((Unit)×ahJ×(List Int)×Int×Unit) -> Option ku):=dh (bf (bq (ay (ay (ay (ay (ay (ay (ay (ay (ay (ay bg)))))))))) (ay (ay bg)))) (ajg k)
def ajh (k a:Nat) (b c e f h:Int) (i l:List Int) (m:Int) (n:l8) (o:Int) (p:List Int) (s:Int):Option ku:=iter Zg (ady k) a ((),(b,c,e,f,h,i,l,m,n,o,()),p,s,())
abbrev Zh:Cut:=⟨[1,3,4],[.box 122 [cI,cI,cI,cI,cI,.cell JF,.cell ko,.cell (.int .u32),.cell (.sl 297 DN),.cell (.int .u32)],.own 2 (.int .i64),cI],[],88,[]⟩
def aji (k:Nat) (g4:ahM) (a b c e f:Int) (h i:List Int) (l:Int) (m:l8) (n:Int) (o:List Int) (p:Int):Option ku :=
 (bif decide (p<(i.length:Int)) then
  ix i p <|
  ap o ([rd i p 0]:List Int) 8 fun r2 =>
  g4 a b c e f h i l m n r2 (IntKind.i64.wrap (p+1))
 else
  ap o ([IntKind.i64.wrap l]:List Int) 8 fun r3 =>
  ajh k k a b c e f h i l m n r3 0)
def adz (k:Nat):Xx (((Unit)×ahJ×(List Int)×Int×Unit) -> Option ku):=dh (bf (bq (ay (ay (ay (ay (ay (ay (ay (ay (ay (ay bg)))))))))) (ay (ay bg)))) (aji k)
def ajj (k a:Nat) (b c e f h:Int) (i l:List Int) (m:Int) (n:l8) (o:Int) (p:List Int) (s:Int):Option ku:=iter Zh (adz k) a ((),(b,c,e,f,h,i,l,m,n,o,()),p,s,())
def WG (k:Nat) (x:YI):Option ku :=
 ap ([x.1,x.2.1.1,x.2.1.2,x.2.2.1.1,x.2.2.1.2,(x.2.2.2.1.1.length:Int)]:List Int) x.2.2.2.1.1 8 fun r0 =>
 ap r0 ([(x.2.2.2.1.2.length:Int)]:List Int) 8 fun r1 =>
 ajj k k x.1 x.2.1.1 x.2.1.2 x.2.2.1.1 x.2.2.1.2 x.2.2.2.1.1 x.2.2.2.1.2 x.2.2.2.2.1.1 x.2.2.2.2.1.2 x.2.2.2.2.2 r1 0
def F148:Fn:=⟨[YQ],[aiY],fun k x=>WG k x.1⟩
theorem ok148:O 148 F148:=okF (ah ok191 aj) [] (fun k=>(.loop 9 Zg (ady k) (fun g=>.nil) (.loop 4 Zh (adz k) (fun g=>.nil) .nil))) Tryz.func148 rfl
def ajk (k:Nat) (a:Int) (b:Int×Int):Option ((jo×Unit)×Unit) :=
 (bif a==1 then
  (WG k (a,b,(8,0),([],[]),(0,[]),0)).bind fun q0 =>
  some (((a,b,(8,0),([],[]),(0,[]),q0.1.1),()),())
 else
  (WG k (a,b,(0,0),([],[]),(0,[]),0)).bind fun q1 =>
  some (((a,b,(0,0),([],[]),(0,[]),q1.1.1),()),()))
def F167:Fn:=⟨[au,UK],[.val ⟨true,II,true⟩],fun k x=>ajk k x.1 x.2.1⟩
theorem ok167:O 167 F167:=okF (ah ok148 aj) [] On Tryz.func167 rfl
def WH (k:Nat) (a:zh×List jo) (b:Int) (x:YI):Option (((zh×List jo)×Unit)×Unit) :=
 ap ([]:List jo) a.2 128 fun r0 =>
 ix r0 b <|
 some (((a.1,upd r0 b x),()),())
def F137:Fn:=⟨[NU,au,YQ],[YN],fun k (a,b,c,_)=>WH k a b c⟩
theorem ok137:O 137 F137:=okF aj [] On Tryz.func137 rfl
abbrev adA:Cut:=⟨[1,2,4,5,7,9],[cI,.box 41 [.cell ko,.cell qh,.cell AP],.box 41 [.nil,.nil,.nil],.box 103 [cI,cI],cI,cI],[],73,[]⟩
def GL (k:Nat) (a:Int) (b:List Int) (c:List Bool) (e:List jo) (f h i l:Int):Option NR :=
 (alG k (b,c)).bind fun q0 =>
 (bif decide (i≥l) then
  some ((((b,c),e),(0,0),false,()),())
 else
  (bif !q0.1.2.2.1 then
   some ((((b,c),e),(0,0),false,()),())
  else
   (bif decide (q0.1.2.1.1≥(e.length:Int)) then
    some ((((b,c),e),(0,0),false,()),())
   else
    (ajk k a q0.1.2.1).bind fun q1 =>
    (WH k ((b,c),e) q0.1.2.1.1 q1.1.1).bind fun q2 =>
    some (((q0.1.1,q2.1.1.2),q0.1.2.1,true,()),()))))
abbrev Zi:Cut:=⟨[1,2,4,5,7,8],[cI,.box 41 [.cell ko,.cell qh,.cell AP],.box 41 [.nil,.nil,.nil],.box 103 [cI,cI],cI,cI],[],73,[]⟩
def ajl (k:Nat) (g3:Int -> (List Int) -> (List Bool) -> (List jo) -> Int -> Int -> Int -> Int -> Option NR) (a:Int) (b:List Int) (c:List Bool) (e:List jo) (f h i l:Int):Option NR :=
 (bif decide (l<(e.length:Int)) then
  ix e l <|
  (bif (rd e l (0,(0,0),(0,0),([],[]),(0,[]),0)).1==a then
   g3 a b c e f h (IntKind.i64.wrap (i+1)) (IntKind.i64.wrap (l+1))
  else
   g3 a b c e f h i (IntKind.i64.wrap (l+1)))
 else
  (bif a==1 then
   GL k a b c e f h i 4
  else
   (bif a==2 then
    GL k a b c e f h i 4
   else
    (bif a==3 then
     GL k a b c e f h i 4
    else
     GL k a b c e f h i 0))))
def adB (k:Nat):Xx (((Unit)×Int×ahL×(Unit×Unit×Unit×Unit)×(Int×Int×Unit)×Int×Int×Unit) -> Option NR):=dh (bf (ay (bq (ay (ay (ay bg))) (bq (bf (bf (bf bg))) (bq (ay (ay bg)) (ay (ay bg))))))) (ajl k)
def ajm (k a:Nat) (b:Int) (c:List Int) (e:List Bool) (f:List jo) (h i l m:Int):Option NR:=iter Zi (adB k) a ((),b,(c,e,f,()),((),(),(),()),(h,i,()),l,m,())
def WI (k:Nat) (a:zh×List jo) (b:Int):Option NR :=
 ajm k k b a.1.1 a.1.2 a.2 0 0 0 0
def F132:Fn:=⟨[NU,au],[YN,.val ⟨true,CV,true⟩,rB],fun k x=>WI k x.1 x.2.1⟩
theorem ok132:O 132 F132:=okF (ah ok137 <| ah ok167 <| ah ok179 aj) [] (fun k=>(.join 15 adA (fun (_,a,(b,c,e,_),_,(f,h,_),i,l,_)=>GL k a b c e f h i l) (.loop 3 Zi (adB k) (fun g=>.nil) .nil))) Tryz.func132 rfl
abbrev adC:Cut:=⟨[1,3,4],[.box 41 [.cell ko,.cell qh,.cell AP],.own 3 (.int .i64),cI],[],24,[]⟩
def alI (k:Nat) (g3:(List Int) -> (List Bool) -> (List jo) -> (List Int) -> Int -> Option CW) (a:List Int) (b:List Bool) (c:List jo) (e:List Int) (f:Int):Option CW :=
 (bif decide (f<(c.length:Int)) then
  ix c f <|
  (bif (rd c f (0,(0,0),(0,0),([],[]),(0,[]),0)).1==1 then
   ap e ([f]:List Int) 8 fun r0 =>
   g3 a b c r0 (IntKind.i64.wrap (f+1))
  else
   g3 a b c e (IntKind.i64.wrap (f+1)))
 else
  some ((e,()),()))
def ahT (k:Nat):Xx (((Unit)×ahL×(List Int)×Int×Unit) -> Option CW):=dh (bf (bq (ay (ay (ay bg))) (ay (ay bg)))) (alI k)
def alJ (k a:Nat) (b:List Int) (c:List Bool) (e:List jo) (f:List Int) (h:Int):Option CW:=iter adC (ahT k) a ((),(b,c,e,()),f,h,())
def S40 (k:Nat) (a:zh×List jo):Option CW :=
 alJ k k a.1.1 a.1.2 a.2 ([]:List Int) 0
def F40:Fn:=⟨[NU],[YO],fun k x=>S40 k x.1⟩
theorem ok40:O 40 F40:=okF aj [(3,2)] (fun k=>(.loop 3 adC (ahT k) (fun g=>.nil) .nil)) Tryz.func40 rfl
abbrev adD:Cut:=⟨[1,3,4,5],[.box 44 [cI,cI,.cell (.sl 77 zo),.cell (.sl 96 uz),.cell .bool,.cell .bool,.cell .bool,.cell zw,.cell ko,.cell qh,.cell AP,.cell ko,.cell qh],.own 114 CV,.own 3 (.int .i64),cI],[],29,[]⟩
def alL (k:Nat) (g4:Int -> Int -> (List l7) -> DT -> Bool -> Bool -> Bool -> (List jv) -> (List Int) -> (List Bool) -> (List jo) -> (List Int) -> (List Bool) -> mo -> (List Int) -> Int -> Option ((mo×Unit)×Unit)) (a b:Int) (c:List l7) (e:List (PN Int 5)) (f h i:Bool) (l:List jv) (m:List Int) (n:List Bool) (o:List jo) (p:List Int) (s:List Bool) (t:l8) (u:List Int) (v:Int):Option ((mo×Unit)×Unit) :=
 (bif decide (v<(u.length:Int)) then
  ix u v <|
  ix o (rd u v 0) <|
  ap t ([(rd o (rd u v 0) (0,(0,0),(0,0),([],[]),(0,[]),0)).2.2.1]:List (Int×Int)) 16 fun r1 =>
  g4 a b c e f h i l m n o p s r1 u (IntKind.i64.wrap (v+1))
 else
  some ((t,()),()))
def ahU (k:Nat):Xx (((Unit)×Ux×mo×(List Int)×Int×Unit) -> Option ((mo×Unit)×Unit)):=dh (bf (bq (ay (ay (ay (ay (ay (ay (ay (ay (ay (ay (ay (ay (ay bg))))))))))))) (ay (ay (ay bg))))) (alL k)
def alM (k a:Nat) (b c:Int) (e:List l7) (f:List (PN Int 5)) (h i l:Bool) (m:List jv) (n:List Int) (o:List Bool) (p:List jo) (s:List Int) (t:List Bool) (u:l8) (v:List Int) (w:Int):Option ((mo×Unit)×Unit):=iter adD (ahU k) a ((),(b,c,e,f,h,i,l,m,n,o,p,s,t,()),u,v,w,())
def S42 (k:Nat) (a:JD):Option ((mo×Unit)×Unit) :=
 (S40 k a.2.2.2.2.2.2.2.2.1).bind fun q0 =>
 alM k k a.1 a.2.1 a.2.2.1 a.2.2.2.1 a.2.2.2.2.1 a.2.2.2.2.2.1 a.2.2.2.2.2.2.1 a.2.2.2.2.2.2.2.1 a.2.2.2.2.2.2.2.2.1.1.1 a.2.2.2.2.2.2.2.2.1.1.2 a.2.2.2.2.2.2.2.2.1.2 a.2.2.2.2.2.2.2.2.2.1 a.2.2.2.2.2.2.2.2.2.2 ([]:List (Int×Int)) q0.1.1 0
def F42:Fn:=⟨[LC],[YL],fun k x=>S42 k x.1⟩
theorem ok42:O 42 F42:=okF (ah ok40 aj) [(3,2)] (fun k=>(.loop 4 adD (ahU k) (fun g=>.nil) .nil)) Tryz.func42 rfl
def S89 (k:Nat) (a:zh×List jo) (b:Int) (x:YI):Option (((zh×List jo)×Unit)×Unit) :=
 (bif decide (b<0) then
  some ((a,()),())
 else
  (bif decide (b≥(a.2.length:Int)) then
   some ((a,()),())
  else
   ix a.2 b <|
   (bif (rd a.2 b (0,(0,0),(0,0),([],[]),(0,[]),0)).1==0 then
    some ((a,()),())
   else
    ix a.2 b <|
    (WG k (rd a.2 b (0,(0,0),(0,0),([],[]),(0,[]),0))).bind fun q0 =>
    (WG k ((rd a.2 b (0,(0,0),(0,0),([],[]),(0,[]),0)).1,(rd a.2 b (0,(0,0),(0,0),([],[]),(0,[]),0)).2.1,x.2.2.1,x.2.2.2.1,x.2.2.2.2.1,(rd a.2 b (0,(0,0),(0,0),([],[]),(0,[]),0)).2.2.2.2.2)).bind fun q1 =>
    (bif (rd a.2 b (0,(0,0),(0,0),([],[]),(0,[]),0)).2.2.2.2.2 != q0.1.1 then
     (WH k a b ((rd a.2 b (0,(0,0),(0,0),([],[]),(0,[]),0)).1,(rd a.2 b (0,(0,0),(0,0),([],[]),(0,[]),0)).2.1,x.2.2.1,x.2.2.2.1,x.2.2.2.2.1,Tt .u32 q1.1.1)).bind fun q2 =>
     some ((q2.1.1,()),())
    else
     (WH k a b ((rd a.2 b (0,(0,0),(0,0),([],[]),(0,[]),0)).1,(rd a.2 b (0,(0,0),(0,0),([],[]),(0,[]),0)).2.1,x.2.2.1,x.2.2.2.1,x.2.2.2.2.1,q1.1.1)).bind fun q3 =>
     some ((q3.1.1,()),())))))
def F89:Fn:=⟨[NU,au,YQ],[YN],fun k (a,b,c,_)=>S89 k a b c⟩
theorem ok89:O 89 F89:=okF (ah ok137 <| ah ok148 aj) [] On Tryz.func89 rfl
abbrev adE:Cut:=⟨[1,2,4,5,6],[.cell NT,.box 44 [cI,cI,.cell (.sl 77 zo),.cell (.sl 96 uz),.cell .bool,.cell .bool,.cell .bool,.cell zw,.cell ko,.cell qh,.cell AP,.cell ko,.cell qh],.box 44 [cI,cI,.nil,.nil,.cell .bool,.cell .bool,.cell .bool,.nil,.nil,.nil,.nil,.nil,.nil],.own 3 (.int .i64),cI],[],48,[]⟩
def alN (k:Nat) (g3:mo -> Int -> Int -> (List l7) -> DT -> Bool -> Bool -> Bool -> (List jv) -> (List Int) -> (List Bool) -> (List jo) -> (List Int) -> (List Bool) -> Int -> Int -> Bool -> Bool -> Bool -> (List Int) -> Int -> Option ((MU×Unit)×Unit)) (a:l8) (b c:Int) (e:List l7) (f:List (PN Int 5)) (h i l:Bool) (m:List jv) (n:List Int) (o:List Bool) (p:List jo) (s:List Int) (t:List Bool) (u v:Int) (w y z:Bool) (A:List Int) (B:Int):Option ((MU×Unit)×Unit) :=
 (bif decide (B<(A.length:Int)) then
  ix A B <|
  ix p (rd A B 0) <|
  ix a B <|
  (bif !(fC CV (rd p (rd A B 0) (0,(0,0),(0,0),([],[]),(0,[]),0)).2.2.1 (rd a B (0,0))) then
   ix a B <|
   ix A B <|
   (S89 k ((n,o),p) (rd A B 0) ((rd p (rd A B 0) (0,(0,0),(0,0),([],[]),(0,[]),0)).1,(rd p (rd A B 0) (0,(0,0),(0,0),([],[]),(0,[]),0)).2.1,rd a B (0,0),(rd p (rd A B 0) (0,(0,0),(0,0),([],[]),(0,[]),0)).2.2.2)).bind fun q1 =>
   g3 a b c e f h i l m q1.1.1.1.1 q1.1.1.1.2 q1.1.1.2 s t u v w y z A (IntKind.i64.wrap (B+1))
  else
   g3 a b c e f h i l m n o p s t u v w y z A (IntKind.i64.wrap (B+1)))
 else
  some (((b,c,e,f,h,i,l,m,((n,o),p),s,t),()),()))
def ahV (k:Nat):Xx (((Unit)×mo×Ux×Uy×(List Int)×Int×Unit) -> Option ((MU×Unit)×Unit)):=dh (bf (ay (bq (ay (ay (ay (ay (ay (ay (ay (ay (ay (ay (ay (ay (ay bg))))))))))))) (bq (ay (ay (bf (bf (ay (ay (ay (bf (bf (bf (bf (bf (bf bg))))))))))))) (ay (ay bg)))))) (alN k)
def alO (k a:Nat) (b:l8) (c e:Int) (f:List l7) (h:List (PN Int 5)) (i l m:Bool) (n:List jv) (o:List Int) (p:List Bool) (s:List jo) (t:List Int) (u:List Bool) (v w:Int) (y z A:Bool) (B:List Int) (C:Int):Option ((MU×Unit)×Unit):=iter adE (ahV k) a ((),b,(c,e,f,h,i,l,m,n,o,p,s,t,u,()),(v,w,(),(),y,z,A,(),(),(),(),(),(),()),B,C,())
def S43 (k:Nat) (a:JD) (b:l8):Option ((MU×Unit)×Unit) :=
 (S40 k a.2.2.2.2.2.2.2.2.1).bind fun q0 =>
 alO k k b a.1 a.2.1 a.2.2.1 a.2.2.2.1 a.2.2.2.2.1 a.2.2.2.2.2.1 a.2.2.2.2.2.2.1 a.2.2.2.2.2.2.2.1 a.2.2.2.2.2.2.2.2.1.1.1 a.2.2.2.2.2.2.2.2.1.1.2 a.2.2.2.2.2.2.2.2.1.2 a.2.2.2.2.2.2.2.2.2.1 a.2.2.2.2.2.2.2.2.2.2 0 0 false false false q0.1.1 0
def F43:Fn:=⟨[LC,QY],[UN],fun k x=>S43 k x.1 x.2.1⟩
theorem ok43:O 43 F43:=okF (ah ok40 <| ah ok89 aj) [] (fun k=>(.loop 3 adE (ahV k) (fun g=>.nil) .nil)) Tryz.func43 rfl
abbrev Zj:Cut:=⟨[1,2,6,7],[.box 44 [cI,cI,.cell (.sl 77 zo),.cell (.sl 96 uz),.cell .bool,.cell .bool,.cell .bool,.cell zw,.cell ko,.cell qh,.cell AP,.cell ko,.cell qh],.box 44 [cI,cI,.nil,.nil,.cell .bool,.cell .bool,.cell .bool,.nil,.nil,.nil,.nil,.nil,.nil],.own 114 CV,cI],[],48,[]⟩
def ajn (k:Nat) (g11:Int -> Int -> (List l7) -> DT -> Bool -> Bool -> Bool -> (List jv) -> (List Int) -> (List Bool) -> (List jo) -> (List Int) -> (List Bool) -> Int -> Int -> Bool -> Bool -> Bool -> mo -> Int -> Option GD) (a b:Int) (c:List l7) (e:List (PN Int 5)) (f h i:Bool) (l:List jv) (m:List Int) (n:List Bool) (o:List jo) (p:List Int) (s:List Bool) (t u:Int) (v w y:Bool) (z:l8) (A:Int):Option GD :=
 (bif decide (A<(z.length:Int)) then
  (S41 k c A).bind fun q3 =>
  ix z A <|
  g11 a b c e f h i l m n o p s t u v w y (upd z A (q3.1.1,(rd z A (0,0)).2)) (IntKind.i64.wrap (A+1))
 else
  (S43 k (a,b,c,e,f,h,i,l,((m,n),o),p,s) z).bind fun q4 =>
  some (((q4.1.1.1,q4.1.1.2.1,q4.1.1.2.2.1,q4.1.1.2.2.2.1,true,q4.1.1.2.2.2.2.2),0,()),()))
def adF (k:Nat):Xx (((Unit)×Ux×Uy×mo×Int×Unit) -> Option GD):=dh (bf (bq (ay (ay (ay (ay (ay (ay (ay (ay (ay (ay (ay (ay (ay bg))))))))))))) (bq (ay (ay (bf (bf (ay (ay (ay (bf (bf (bf (bf (bf (bf bg))))))))))))) (ay (ay bg))))) (ajn k)
def ajo (k a:Nat) (b c:Int) (e:List l7) (f:List (PN Int 5)) (h i l:Bool) (m:List jv) (n:List Int) (o:List Bool) (p:List jo) (s:List Int) (t:List Bool) (u v:Int) (w y z:Bool) (A:l8) (B:Int):Option GD:=iter Zj (adF k) a ((),(b,c,e,f,h,i,l,m,n,o,p,s,t,()),(u,v,(),(),w,y,z,(),(),(),(),(),(),()),A,B,())
abbrev adG:Cut:=⟨[1,2,5],[.box 44 [cI,cI,.cell (.sl 77 zo),.cell (.sl 96 uz),.cell .bool,.cell .bool,.cell .bool,.cell zw,.cell ko,.cell qh,.cell AP,.cell ko,.cell qh],.box 44 [cI,cI,.nil,.nil,.cell .bool,.cell .bool,.cell .bool,.nil,.nil,.nil,.nil,.nil,.nil],cI],[],48,[]⟩
def alQ (k:Nat) (g5:Int -> Int -> (List l7) -> DT -> Bool -> Bool -> Bool -> (List jv) -> (List Int) -> (List Bool) -> (List jo) -> (List Int) -> (List Bool) -> Int -> Int -> Bool -> Bool -> Bool -> Int -> Option GD) (a b:Int) (c:List l7) (e:List (PN Int 5)) (f h i:Bool) (l:List jv) (m:List Int) (n:List Bool) (o:List jo) (p:List Int) (s:List Bool) (t u:Int) (v w y:Bool) (z:Int):Option GD :=
 (bif decide (z<4) then
  (S41 k c z).bind fun q1 =>
  (bif decide (q1.1.1<8) then
   some (((a,b,c,e,f,h,i,l,((m,n),o),p,s),4,()),())
  else
   g5 a b c e f h i l m n o p s t u v w y (IntKind.i64.wrap (z+1)))
 else
  (S42 k (a,b,c,e,f,h,i,l,((m,n),o),p,s)).bind fun q2 =>
  ajo k k a b c e f h i l m n o p s t u v w y q2.1.1 0)
def ahW (k:Nat):Xx (((Unit)×Ux×Uy×Int×Unit) -> Option GD):=dh (bf (bq (ay (ay (ay (ay (ay (ay (ay (ay (ay (ay (ay (ay (ay bg))))))))))))) (bq (ay (ay (bf (bf (ay (ay (ay (bf (bf (bf (bf (bf (bf bg))))))))))))) (ay bg)))) (alQ k)
def alR (k a:Nat) (b c:Int) (e:List l7) (f:List (PN Int 5)) (h i l:Bool) (m:List jv) (n:List Int) (o:List Bool) (p:List jo) (s:List Int) (t:List Bool) (u v:Int) (w y z:Bool) (A:Int):Option GD:=iter adG (ahW k) a ((),(b,c,e,f,h,i,l,m,n,o,p,s,t,()),(u,v,(),(),w,y,z,(),(),(),(),(),(),()),A,())
def S13 (k:Nat) (a:JD):Option GD :=
 (bif a.2.2.2.2.1 then
  some ((a,7,()),())
 else
  (S40 k a.2.2.2.2.2.2.2.2.1).bind fun q0 =>
  alR k k a.1 a.2.1 a.2.2.1 a.2.2.2.1 a.2.2.2.2.1 a.2.2.2.2.2.1 a.2.2.2.2.2.2.1 a.2.2.2.2.2.2.2.1 a.2.2.2.2.2.2.2.2.1.1.1 a.2.2.2.2.2.2.2.2.1.1.2 a.2.2.2.2.2.2.2.2.1.2 a.2.2.2.2.2.2.2.2.2.1 a.2.2.2.2.2.2.2.2.2.2 0 0 false false false (q0.1.1.length:Int))
def F13:Fn:=⟨[LC],[UN,rI],fun k x=>S13 k x.1⟩
theorem ok13:O 13 F13:=okF (ah ok40 <| ah ok41 <| ah ok42 <| ah ok43 aj) [] (fun k=>(.loop 11 Zj (adF k) (fun g=>.nil) (.loop 5 adG (ahW k) (fun g=>.nil) .nil))) Tryz.func13 rfl
def S16 (k:Nat) (a:Int):Option ((zh×Unit)×Unit) :=
 mk (mx a 0) (mx a 0) 8 <|
 mk (mx a 0) (mx a 0) 1 <|
 some (((List.replicate (mx a 0).toNat (0:Int),List.replicate (mx a 0).toNat (false:Bool)),()),())
def F16:Fn:=⟨[au],[UM],fun k x=>S16 k x.1⟩
theorem ok16:O 16 F16:=okF aj [] On Tryz.func16 rfl
abbrev adH:Cut:=⟨[1,2,5],[cI,.box 44 [cI,cI,.cell (.sl 77 zo),.cell (.sl 96 uz),.cell .bool,.cell .bool,.cell .bool,.cell zw,.cell ko,.cell qh,.cell AP,.cell ko,.cell qh],cI],[],22,[]⟩
def alS (k:Nat) (g2:Int -> Int -> Int -> (List l7) -> DT -> Bool -> Bool -> Bool -> (List jv) -> (List Int) -> (List Bool) -> (List jo) -> (List Int) -> (List Bool) -> Int -> Option ku) (a b c:Int) (e:List l7) (f:List (PN Int 5)) (h i l:Bool) (m:List jv) (n:List Int) (o:List Bool) (p:List jo) (s:List Int) (t:List Bool) (u:Int):Option ku :=
 (bif decide (u<(m.length:Int)) then
  ix m u <|
  (bif (rd m u (0,0,0,0,(0,Pv (α:=Int) 8 0,[],false),(0,Pv (α:=Int) 8 0,[],false),[],false)).1==a then
   some ((u,()),())
  else
   g2 a b c e f h i l m n o p s t (IntKind.i64.wrap (u+1)))
 else
  some (((-1),()),()))
def ahX (k:Nat):Xx (((Unit)×Int×Ux×Int×Unit) -> Option ku):=dh (bf (ay (bq (ay (ay (ay (ay (ay (ay (ay (ay (ay (ay (ay (ay (ay bg))))))))))))) (ay bg)))) (alS k)
def alT (k a:Nat) (b c e:Int) (f:List l7) (h:List (PN Int 5)) (i l m:Bool) (n:List jv) (o:List Int) (p:List Bool) (s:List jo) (t:List Int) (u:List Bool) (v:Int):Option ku:=iter adH (ahX k) a ((),b,(c,e,f,h,i,l,m,n,o,p,s,t,u,()),v,())
def S53 (k:Nat) (a:JD) (b:Int):Option ku :=
 alT k k b a.1 a.2.1 a.2.2.1 a.2.2.2.1 a.2.2.2.2.1 a.2.2.2.2.2.1 a.2.2.2.2.2.2.1 a.2.2.2.2.2.2.2.1 a.2.2.2.2.2.2.2.2.1.1.1 a.2.2.2.2.2.2.2.2.1.1.2 a.2.2.2.2.2.2.2.2.1.2 a.2.2.2.2.2.2.2.2.2.1 a.2.2.2.2.2.2.2.2.2.2 0
def F53:Fn:=⟨[LC,au],[rI],fun k x=>S53 k x.1 x.2.1⟩
theorem ok53:O 53 F53:=okF aj [] (fun k=>(.loop 2 adH (ahX k) (fun g=>.nil) .nil)) Tryz.func53 rfl
def S54 (k:Nat) (a:List jv) (b:Int):Option (((List jv)×Unit)×Unit) :=
 sx a 0 b <|
 ap ([]:List jv) (sub a 0 b) 272 fun r0 =>
 sx a (IntKind.i64.wrap (b+1)) (a.length:Int) <|
 ap r0 (sub a (IntKind.i64.wrap (b+1)) (a.length:Int)) 272 fun r1 =>
 some ((r1,()),())
def F54:Fn:=⟨[.val ⟨false,zw,false⟩,au],[.val ⟨false,zw,true⟩],fun k x=>S54 k x.1 x.2.1⟩
theorem ok54:O 54 F54:=okF aj [] On Tryz.func54 rfl
def S71 (k:Nat) (a:Int):Option JE :=
 some (((0,(a,0,0,0,0,0,0,0),[],false),()),())
def F71:Fn:=⟨[au],[UL],fun k x=>S71 k x.1⟩
theorem ok71:O 71 F71:=okF aj [] On Tryz.func71 rfl
def S55 (k:Nat) (a b c:Int):Option ((jv×Unit)×Unit) :=
 (S71 k c).bind fun q0 =>
 some (((a,b,c,0,q0.1.1,q0.1.1,[],false),()),())
def F55:Fn:=⟨[au,au,au],[.val ⟨true,IG,false⟩],fun k (a,b,c,_)=>S55 k a b c⟩
theorem ok55:O 55 F55:=okF (ah ok71 aj) [] On Tryz.func55 rfl
abbrev af3:Cut:=⟨[1,2,3,6,9,11,12],[cI,cI,.box 44 [cI,cI,.cell (.sl 77 zo),.cell (.sl 96 uz),.cell .bool,.cell .bool,.cell .bool,.cell zw,.cell ko,.cell qh,.cell AP,.cell ko,.cell qh],.box 44 [cI,cI,.nil,.nil,.cell .bool,.cell .bool,.cell .bool,.nil,.nil,.nil,.nil,.nil,.nil],.own 82 AO,.box 44 [cI,cI,.cell (.sl 77 zo),.cell (.sl 96 uz),.cell .bool,.cell .bool,.cell .bool,.cell zw,.cell ko,.cell qh,.cell AP,.cell ko,.cell qh],cI],[],116,[]⟩
def WJ (k:Nat) (a b c e:Int) (f:List l7) (h:List (PN Int 5)) (i l m:Bool) (n:List jv) (o:List Int) (p:List Bool) (s:List jo) (t:List Int) (u:List Bool) (v w:Int) (y z A:Bool) (B:List (PN Int 6)) (C D:Int) (G:List l7) (H:List (PN Int 5)) (I J K:Bool) (M:List jv) (N:List Int) (O:List Bool) (P:List jo) (Q:List Int) (T:List Bool) (U:Int):Option LB :=
 sx M 0 U <|
 ap ([]:List jv) (sub M 0 U) 272 fun r3 =>
 (S55 k a c b).bind fun q4 =>
 ap r3 ([q4.1.1]:List jv) 272 fun r5 =>
 sx M U (M.length:Int) <|
 ap r5 (sub M U (M.length:Int)) 272 fun r6 =>
 ap B ([(c,1,a,0,b,0)]:List (PN Int 6)) 48 fun r7 =>
 some (((C,D,G,H,I,J,K,r6,((N,O),P),Q,T),r7,0,()),())
abbrev Zk:Cut:=⟨[1,2,3,6,9,11,12],[cI,cI,.box 44 [cI,cI,.cell (.sl 77 zo),.cell (.sl 96 uz),.cell .bool,.cell .bool,.cell .bool,.cell zw,.cell ko,.cell qh,.cell AP,.cell ko,.cell qh],.box 44 [cI,cI,.nil,.nil,.cell .bool,.cell .bool,.cell .bool,.nil,.nil,.nil,.nil,.nil,.nil],.own 82 AO,.box 44 [cI,cI,.cell (.sl 77 zo),.cell (.sl 96 uz),.cell .bool,.cell .bool,.cell .bool,.cell zw,.cell ko,.cell qh,.cell AP,.cell ko,.cell qh],cI],[],116,[]⟩
def ajp (k:Nat) (g18:Int -> Int -> Int -> Int -> (List l7) -> DT -> Bool -> Bool -> Bool -> (List jv) -> (List Int) -> (List Bool) -> (List jo) -> (List Int) -> (List Bool) -> Int -> Int -> Bool -> Bool -> Bool -> zu -> Int -> Int -> (List l7) -> DT -> Bool -> Bool -> Bool -> (List jv) -> (List Int) -> (List Bool) -> (List jo) -> (List Int) -> (List Bool) -> Int -> Option LB) (a b c e:Int) (f:List l7) (h:List (PN Int 5)) (i l m:Bool) (n:List jv) (o:List Int) (p:List Bool) (s:List jo) (t:List Int) (u:List Bool) (v w:Int) (y z A:Bool) (B:List (PN Int 6)) (x C:Int) (D:List l7) (G:List (PN Int 5)) (H I J:Bool) (K:List jv) (M:List Int) (N:List Bool) (O:List jo) (P:List Int) (Q:List Bool) (T:Int):Option LB :=
 (bif decide (T<(K.length:Int)) then
  ix K T <|
  (bif decide ((rd K T (0,0,0,0,(0,Pv (α:=Int) 8 0,[],false),(0,Pv (α:=Int) 8 0,[],false),[],false)).1<a) then
   g18 a b c e f h i l m n o p s t u v w y z A B x C D G H I J K M N O P Q (IntKind.i64.wrap (T+1))
  else
   WJ k a b c e f h i l m n o p s t u v w y z A B x C D G H I J K M N O P Q T)
 else
  WJ k a b c e f h i l m n o p s t u v w y z A B x C D G H I J K M N O P Q T)
def adI (k:Nat):Xx (((Unit)×Int×Int×Ux×Uy×zu×Ux×Int×Unit) -> Option LB):=dh (bf (ay (ay (bq (ay (ay (ay (ay (ay (ay (ay (ay (ay (ay (ay (ay (ay bg))))))))))))) (bq (ay (ay (bf (bf (ay (ay (ay (bf (bf (bf (bf (bf (bf bg))))))))))))) (ay (bq (ay (ay (ay (ay (ay (ay (ay (ay (ay (ay (ay (ay (ay bg))))))))))))) (ay bg)))))))) (ajp k)
def adJ (k a:Nat) (b c e f:Int) (h:List l7) (i:List (PN Int 5)) (l m n:Bool) (o:List jv) (p:List Int) (s:List Bool) (t:List jo) (u:List Int) (v:List Bool) (w y:Int) (z A B:Bool) (C:List (PN Int 6)) (x D:Int) (G:List l7) (H:List (PN Int 5)) (I J K:Bool) (M:List jv) (N:List Int) (O:List Bool) (P:List jo) (Q:List Int) (T:List Bool) (U:Int):Option LB:=iter Zk (adI k) a ((),b,c,(e,f,h,i,l,m,n,o,p,s,t,u,v,()),(w,y,(),(),z,A,B,(),(),(),(),(),(),()),C,(x,D,G,H,I,J,K,M,N,O,P,Q,T,()),U,())
abbrev af4:Cut:=⟨[1,2,3,6,9,10],[cI,cI,.box 44 [cI,cI,.cell (.sl 77 zo),.cell (.sl 96 uz),.cell .bool,.cell .bool,.cell .bool,.cell zw,.cell ko,.cell qh,.cell AP,.cell ko,.cell qh],.box 44 [cI,cI,.nil,.nil,.cell .bool,.cell .bool,.cell .bool,.nil,.nil,.nil,.nil,.nil,.nil],.own 82 AO,cI],[],116,[]⟩
def WK (k:Nat) (a b c e:Int) (f:List l7) (h:List (PN Int 5)) (i l m:Bool) (n:List jv) (o:List Int) (p:List Bool) (s:List jo) (t:List Int) (u:List Bool) (v w:Int) (y z A:Bool) (B:List (PN Int 6)) (C:Int):Option LB :=
 (bif decide (C≥0) then
  ap B ([(c,13,a,0,0,0)]:List (PN Int 6)) 48 fun r1 =>
  (S54 k n C).bind fun q2 =>
  adJ k k a b c e f h i l m n o p s t u v w y z A r1 c e f h i l m q2.1.1 o p s t u 0
 else
  adJ k k a b c e f h i l m n o p s t u v w y z A B c e f h i l m n o p s t u 0)
def S21 (k:Nat) (a:JD) (b c:Int):Option LB :=
 (bif !a.2.2.2.2.1 then
  some ((a,[],8,()),())
 else
  (bif a.2.2.2.2.2.1 then
   some ((a,[],17,()),())
  else
   (bif decide (b<0) then
    some ((a,[],3,()),())
   else
    (bif decide (b≥(a.2.2.1.length:Int)) then
     some ((a,[],3,()),())
    else
     ix a.2.2.2.2.2.2.2.2.2.2 b <|
     (bif rd a.2.2.2.2.2.2.2.2.2.2 b false then
      some ((a,[],6,()),())
     else
      (S53 k a b).bind fun q0 =>
      (bif decide (q0.1.1≥0) then
       ix a.2.2.2.2.2.2.2.1 q0.1.1 <|
       (bif (rd a.2.2.2.2.2.2.2.1 q0.1.1 (0,0,0,0,(0,Pv (α:=Int) 8 0,[],false),(0,Pv (α:=Int) 8 0,[],false),[],false)).2.2.2.1 != 2 then
        some ((a,[],5,()),())
       else
        WK k b c a.1 a.2.1 a.2.2.1 a.2.2.2.1 a.2.2.2.2.1 a.2.2.2.2.2.1 a.2.2.2.2.2.2.1 a.2.2.2.2.2.2.2.1 a.2.2.2.2.2.2.2.2.1.1.1 a.2.2.2.2.2.2.2.2.1.1.2 a.2.2.2.2.2.2.2.2.1.2 a.2.2.2.2.2.2.2.2.2.1 a.2.2.2.2.2.2.2.2.2.2 0 0 false false false ([]:List (PN Int 6)) q0.1.1)
      else
       WK k b c a.1 a.2.1 a.2.2.1 a.2.2.2.1 a.2.2.2.2.1 a.2.2.2.2.2.1 a.2.2.2.2.2.2.1 a.2.2.2.2.2.2.2.1 a.2.2.2.2.2.2.2.2.1.1.1 a.2.2.2.2.2.2.2.2.1.1.2 a.2.2.2.2.2.2.2.2.1.2 a.2.2.2.2.2.2.2.2.2.1 a.2.2.2.2.2.2.2.2.2.2 0 0 false false false ([]:List (PN Int 6)) q0.1.1))))))
def F21:Fn:=⟨[LC,au,au],[UN,acW,rI],fun k (a,b,c,_)=>S21 k a b c⟩
theorem ok21:O 21 F21:=okF (ah ok53 <| ah ok54 <| ah ok55 aj) [(9,2)] (fun k=>(.loop 18 Zk (adI k) (fun g=>.nil) (.join 20 af3 (fun (_,a,b,(c,e,f,h,i,l,m,n,o,p,s,t,u,_),(v,w,_,_,y,z,A,_),B,(C,D,G,H,I,J,K,M,N,O,P,Q,T,_),U,_)=>WJ k a b c e f h i l m n o p s t u v w y z A B C D G H I J K M N O P Q T U) (.join 13 af4 (fun (_,a,b,(c,e,f,h,i,l,m,n,o,p,s,t,u,_),(v,w,_,_,y,z,A,_),B,C,_)=>WK k a b c e f h i l m n o p s t u v w y z A B C) .nil)))) Tryz.func21 rfl
def ajq (k:Nat) (a:(List Int)×List Bool) (b:Int×Int):Option ((Bool×Unit)×Unit) :=
 (bif decide (b.1≥0) then
  (bif decide (b.1<(a.2.length:Int)) then
   (bif decide (b.1<(a.1.length:Int)) then
    ix a.2 b.1 <|
    (bif rd a.2 b.1 false then
     ix a.1 b.1 <|
     some (((rd a.1 b.1 0)==b.2,()),())
    else
     some ((false,()),()))
   else
    some ((false,()),()))
  else
   some ((false,()),()))
 else
  some ((false,()),()))
def F222:Fn:=⟨[YM,UK],[rB],fun k x=>ajq k x.1 x.2.1⟩
theorem ok222:O 222 F222:=okF aj [] On Tryz.func222 rfl
def af5 (k:Nat) (a:zh×List jo) (b:Int×Int):Option uj :=
 (ajq k a.1 b).bind fun q0 =>
 (bif !q0.1.1 then
  some ((0,false,()),())
 else
  (bif decide (b.1≥(a.2.length:Int)) then
   some ((0,false,()),())
  else
   ix a.2 b.1 <|
   (bif (rd a.2 b.1 (0,(0,0),(0,0),([],[]),(0,[]),0)).1==0 then
    some ((0,false,()),())
   else
    some ((b.1,true,()),()))))
def F180:Fn:=⟨[NU,UK],[rI,rB],fun k x=>af5 k x.1 x.2.1⟩
theorem ok180:O 180 F180:=okF (ah ok222 aj) [] On Tryz.func180 rfl
abbrev Zl:Cut:=⟨[1,3,4],[.box 120 [.cell (.int .u32),.cell (.sl 297 DN)],.own 3 (.int .i64),cI],[],22,[]⟩
def ajr (k:Nat) (g3:Int -> mo -> (List Int) -> Int -> Option CW) (a:Int) (b:l8) (c:List Int) (e:Int):Option CW :=
 (bif decide (e<(b.length:Int)) then
  ix b e <|
  ap c ([(rd b e (0,0)).1]:List Int) 8 fun r0 =>
  g3 a b r0 (IntKind.i64.wrap (e+1))
 else
  some ((c,()),()))
def adK (k:Nat):Xx (((Unit)×UG×(List Int)×Int×Unit) -> Option CW):=dh (bf (bq (ay (ay bg)) (ay (ay bg)))) (ajr k)
def ajs (k a:Nat) (b:Int) (c:l8) (e:List Int) (f:Int):Option CW:=iter Zl (adK k) a ((),(b,c,()),e,f,())
def alU (k:Nat) (a:Int×List (Int×Int)):Option CW :=
 ajs k k a.1 a.2 ([]:List Int) 0
def F215:Fn:=⟨[ac0],[YO],fun k x=>alU k x.1⟩
theorem ok215:O 215 F215:=okF aj [(3,2)] (fun k=>(.loop 3 Zl (adK k) (fun g=>.nil) .nil)) Tryz.func215 rfl
def ajt (k:Nat) (x:YI):Option CW :=
 ap ([]:List Int) x.2.2.2.1.2 8 fun r0 =>
 (alU k x.2.2.2.2.1).bind fun q1 =>
 ap r0 q1.1.1 8 fun r2 =>
 some ((r2,()),())
def F166:Fn:=⟨[YQ],[YO],fun k x=>ajt k x.1⟩
theorem ok166:O 166 F166:=okF (ah ok215 aj) [] On Tryz.func166 rfl
def alV (k:Nat) (a:(List Int)×List Bool) (b:Int×Int):Option ((zh×Bool×Unit)×Unit) :=
 (ai9 k a).bind fun q0 =>
 (ajq k a b).bind fun q1 =>
 (bif !q1.1.1 then
  some ((q0.1.1,false,()),())
 else
  ix q0.1.1.2 b.1 <|
  some (((q0.1.1.1,upd q0.1.1.2 b.1 false),true,()),()))
def F181:Fn:=⟨[YM,UK],[UM,rB],fun k x=>alV k x.1 x.2.1⟩
theorem ok181:O 181 F181:=okF (ah ok221 <| ah ok222 aj) [] On Tryz.func181 rfl
def alW (k:Nat) (a:zh×List jo) (b:Int×Int):Option (((zh×List jo)×(List Int)×Bool×Unit)×Unit) :=
 (af5 k a b).bind fun q0 =>
 (bif !q0.1.2.1 then
  some ((a,[],false,()),())
 else
  ix a.2 q0.1.1 <|
  (bif (rd a.2 q0.1.1 (0,(0,0),(0,0),([],[]),(0,[]),0)).1==1 then
   some ((a,[],false,()),())
  else
   ix a.2 q0.1.1 <|
   (ajt k (rd a.2 q0.1.1 (0,(0,0),(0,0),([],[]),(0,[]),0))).bind fun q1 =>
   (WH k a q0.1.1 (0,(0,0),(0,0),([],[]),(0,[]),0)).bind fun q2 =>
   (alV k a.1 b).bind fun q3 =>
   some (((q3.1.1,q2.1.1.2),q1.1.1,true,()),())))
def F133:Fn:=⟨[NU,UK],[YN,YO,rB],fun k x=>alW k x.1 x.2.1⟩
theorem ok133:O 133 F133:=okF (ah ok137 <| ah ok166 <| ah ok180 <| ah ok181 aj) [] On Tryz.func133 rfl
abbrev Zm:Cut:=⟨[0,1,2,3,9,10],[cI,.cell ko,cI,cI,.own 82 AO,cI],[],29,[]⟩
def aju (k:Nat) (g3:Int -> (List Int) -> Int -> Int -> zu -> Int -> Option ((zu×Unit)×Unit)) (a:Int) (b:List Int) (c e:Int) (f:List (PN Int 6)) (h:Int):Option ((zu×Unit)×Unit) :=
 (bif decide (h<(b.length:Int)) then
  ix b h <|
  ap f ([(a,12,0,rd b h 0,c,e)]:List (PN Int 6)) 48 fun r0 =>
  g3 a b c e r0 (IntKind.i64.wrap (h+1))
 else
  some ((f,()),()))
def adL (k:Nat):Xx (((Unit)×Int×(List Int)×Int×Int×zu×Int×Unit) -> Option ((zu×Unit)×Unit)):=dh (bf (ay (ay (ay (ay (ay (ay bg))))))) (aju k)
def ajv (k a:Nat) (b:Int) (c:List Int) (e f:Int) (h:List (PN Int 6)) (i:Int):Option ((zu×Unit)×Unit):=iter Zm (adL k) a ((),b,c,e,f,h,i,())
def ajw (k:Nat) (a:Int) (b:List Int) (c e:Int):Option ((zu×Unit)×Unit) :=
 ajv k k a b c e ([]:List (PN Int 6)) 0
def F134:Fn:=⟨[au,acX,au,au],[acW],fun k (a,b,c,e,_)=>ajw k a b c e⟩
theorem ok134:O 134 F134:=okF aj [(9,2)] (fun k=>(.loop 3 Zm (adL k) (fun g=>.nil) .nil)) Tryz.func134 rfl
def alX (k:Nat) (a:(List Int)×List Int) (b:Int):Option ((((List Int)×List Int)×Int×Bool×Unit)×Unit) :=
 ap ([]:List Int) a.1 8 fun r0 =>
 ap ([]:List Int) a.2 8 fun r1 =>
 (bif decide ((a.2.length:Int)>0) then
  sx r1 1 (r1.length:Int) <|
  ix a.2 0 <|
  some (((r0,sub r1 1 (r1.length:Int)),rd a.2 0 0,true,()),())
 else
  (bif decide ((a.1.length:Int)≥4) then
   some (((r0,r1),0,false,()),())
  else
   ap r0 ([b]:List Int) 8 fun r2 =>
   some (((r2,r1),0,true,()),())))
def F182:Fn:=⟨[alp,au],[alq,rI,rB],fun k x=>alX k x.1 x.2.1⟩
theorem ok182:O 182 F182:=okF aj [] On Tryz.func182 rfl
abbrev Zn:Cut:=⟨[1,2,4,8,9],[cI,.box 117 [.cell JF,.cell ko],.box 117 [.nil,.nil],.box 117 [.own 2 (.int .i64),.own 3 (.int .i64)],cI],[],62,[]⟩
def ajx (k:Nat) (g8:Int -> (List Int) -> (List Int) -> (List Int) -> (List Int) -> Int -> Option (UA×Unit)) (a:Int) (b c x e:List Int) (f:Int):Option (UA×Unit) :=
 (bif decide (f<(c.length:Int)) then
  ix c f <|
  (bif (rd c f 0)==a then
   some (((x,e),0,false,false,()),())
  else
   g8 a b c x e (IntKind.i64.wrap (f+1)))
 else
  (bif decide ((c.length:Int)≥4) then
   some (((x,e),0,false,false,()),())
  else
   ap e ([a]:List Int) 8 fun r2 =>
   some (((x,r2),0,false,true,()),())))
def adM (k:Nat):Xx (((Unit)×Int×((List Int)×(List Int)×Unit)×(Unit×Unit×Unit)×((List Int)×(List Int)×Unit)×Int×Unit) -> Option (UA×Unit)):=dh (bf (ay (bq (ay (ay bg)) (bq (bf (bf bg)) (bq (ay (ay bg)) (ay bg)))))) (ajx k)
def ajy (k a:Nat) (b:Int) (c e x f:List Int) (h:Int):Option (UA×Unit):=iter Zn (adM k) a ((),b,(c,e,()),((),(),()),(x,f,()),h,())
def alY (k:Nat) (a:(List Int)×List Int) (b:Int):Option (UA×Unit) :=
 ap ([]:List Int) a.1 8 fun r0 =>
 ap ([]:List Int) a.2 8 fun r1 =>
 (bif decide (b<1) then
  some (((r0,r1),0,false,false,()),())
 else
  (bif decide ((a.1.length:Int)>0) then
   sx r0 1 (r0.length:Int) <|
   ix a.1 0 <|
   some (((sub r0 1 (r0.length:Int),r1),rd a.1 0 0,true,true,()),())
  else
   ajy k k b a.1 a.2 r0 r1 0))
def F183:Fn:=⟨[alp,au],[alq,rI,rB,rB],fun k x=>alY k x.1 x.2.1⟩
theorem ok183:O 183 F183:=okF aj [] (fun k=>(.loop 8 Zn (adM k) (fun g=>.nil) .nil)) Tryz.func183 rfl
def ajz (k:Nat) (a:JD) (b:Int×l7×(Int×Int)×Int×Int×Int):Option (NQ×Unit) :=
 (af5 k a.2.2.2.2.2.2.2.2.1 b.2.2.1).bind fun q0 =>
 (bif !q0.1.2.1 then
  some ((a,[],(3,(0,0),0),()),())
 else
  ix a.2.2.2.2.2.2.2.2.1.2 q0.1.1 <|
  (bif (rd a.2.2.2.2.2.2.2.2.1.2 q0.1.1 (0,(0,0),(0,0),([],[]),(0,[]),0)).1 != 2 then
   some ((a,[],(3,(0,0),0),()),())
  else
   ix a.2.2.2.2.2.2.2.2.1.2 q0.1.1 <|
   (bif b.1==7 then
    (alX k (rd a.2.2.2.2.2.2.2.2.1.2 q0.1.1 (0,(0,0),(0,0),([],[]),(0,[]),0)).2.2.2.1 b.2.2.2.2.1).bind fun q1 =>
    (bif !q1.1.2.2.1 then
     some ((a,[],(4,(0,0),0),()),())
    else
     (S89 k a.2.2.2.2.2.2.2.2.1 q0.1.1 ((rd a.2.2.2.2.2.2.2.2.1.2 q0.1.1 (0,(0,0),(0,0),([],[]),(0,[]),0)).1,(rd a.2.2.2.2.2.2.2.2.1.2 q0.1.1 (0,(0,0),(0,0),([],[]),(0,[]),0)).2.1,(rd a.2.2.2.2.2.2.2.2.1.2 q0.1.1 (0,(0,0),(0,0),([],[]),(0,[]),0)).2.2.1,q1.1.1,(rd a.2.2.2.2.2.2.2.2.1.2 q0.1.1 (0,(0,0),(0,0),([],[]),(0,[]),0)).2.2.2.2)).bind fun q2 =>
     (bif decide (q1.1.2.1>0) then
      (ajw k a.1 ([q1.1.2.1]:List Int) b.2.2.2.2.1 0).bind fun q3 =>
      some (((a.1,a.2.1,a.2.2.1,a.2.2.2.1,a.2.2.2.2.1,a.2.2.2.2.2.1,a.2.2.2.2.2.2.1,a.2.2.2.2.2.2.2.1,q2.1.1,a.2.2.2.2.2.2.2.2.2),q3.1.1,(0,(0,0),0),()),())
     else
      some (((a.1,a.2.1,a.2.2.1,a.2.2.2.1,a.2.2.2.2.1,a.2.2.2.2.2.1,a.2.2.2.2.2.2.1,a.2.2.2.2.2.2.2.1,q2.1.1,a.2.2.2.2.2.2.2.2.2),[],(0,(0,0),0),()),())))
   else
    (alY k (rd a.2.2.2.2.2.2.2.2.1.2 q0.1.1 (0,(0,0),(0,0),([],[]),(0,[]),0)).2.2.2.1 b.2.2.2.1).bind fun q4 =>
    (bif !q4.1.2.2.2.1 then
     some ((a,[],(1,(0,0),0),()),())
    else
     (S89 k a.2.2.2.2.2.2.2.2.1 q0.1.1 ((rd a.2.2.2.2.2.2.2.2.1.2 q0.1.1 (0,(0,0),(0,0),([],[]),(0,[]),0)).1,(rd a.2.2.2.2.2.2.2.2.1.2 q0.1.1 (0,(0,0),(0,0),([],[]),(0,[]),0)).2.1,(rd a.2.2.2.2.2.2.2.2.1.2 q0.1.1 (0,(0,0),(0,0),([],[]),(0,[]),0)).2.2.1,q4.1.1,(rd a.2.2.2.2.2.2.2.2.1.2 q0.1.1 (0,(0,0),(0,0),([],[]),(0,[]),0)).2.2.2.2)).bind fun q5 =>
     (bif q4.1.2.2.1 then
      some (((a.1,a.2.1,a.2.2.1,a.2.2.2.1,a.2.2.2.2.1,a.2.2.2.2.2.1,a.2.2.2.2.2.2.1,a.2.2.2.2.2.2.2.1,q5.1.1,a.2.2.2.2.2.2.2.2.2),[],(0,(0,0),q4.1.2.1),()),())
     else
      some (((a.1,a.2.1,a.2.2.1,a.2.2.2.1,a.2.2.2.2.1,a.2.2.2.2.2.1,a.2.2.2.2.2.2.1,a.2.2.2.2.2.2.2.1,q5.1.1,a.2.2.2.2.2.2.2.2.2),[],(16,(0,0),0),()),()))))))
def F135:Fn:=⟨[LC,acZ],[UN,acW,alo],fun k x=>ajz k x.1 x.2.1⟩
theorem ok135:O 135 F135:=okF (ah ok89 <| ah ok134 <| ah ok180 <| ah ok182 <| ah ok183 aj) [] On Tryz.func135 rfl
abbrev Zo:Cut:=⟨[2,4,6,7,8],[.box 120 [.cell (.int .u32),.cell (.sl 297 DN)],.box 120 [.cell (.int .u32),.nil],.box 120 [.cell (.int .u32),.own 297 DN],.own 297 DN,cI],[],61,[]⟩
def ajA (k:Nat) (g4:Int -> mo -> Int -> Int -> mo -> mo -> Int -> Option UJ) (a:Int) (b:l8) (c x:Int) (e f:l8) (h:Int):Option UJ :=
 (bif decide (h<(b.length:Int)) then
  ix b h <|
  (bif (Tp .u32 (rd b h (0,0)).2 x)==0 then
   ix b h <|
   ap e ([rd b h (0,0)]:List (Int×Int)) 16 fun r0 =>
   g4 a b c x r0 f (IntKind.i64.wrap (h+1))
  else
   ix b h <|
   ap f ([((rd b h (0,0)).1,Tp .u32 (rd b h (0,0)).2 x)]:List (Int×Int)) 16 fun r1 =>
   g4 a b c (IntKind.u32.wrap (x - (Tp .u32 (rd b h (0,0)).2 x))) e r1 (IntKind.i64.wrap (h+1)))
 else
  some (((x,e),f,()),()))
def adN (k:Nat):Xx (((Unit)×UG×(Int×Unit×Unit)×UG×mo×Int×Unit) -> Option UJ):=dh (bf (bq (ay (ay bg)) (bq (ay (bf bg)) (bq (ay (ay bg)) (ay (ay bg)))))) (ajA k)
def ajB (k a:Nat) (b:Int) (c:l8) (e x:Int) (f h:l8) (i:Int):Option UJ:=iter Zo (adN k) a ((),(b,c,()),(e,(),()),(x,f,()),h,i,())
def alZ (k:Nat) (a:Int×List (Int×Int)) (b:Int):Option UJ :=
 ajB k k a.1 a.2 0 (Uf .u32 a.1 b) ([]:List (Int×Int)) ([]:List (Int×Int)) 0
def F184:Fn:=⟨[ac0,.val ⟨false,(.int .u32),false⟩],[.val ⟨true,acV,true⟩,.val ⟨false,(.sl 297 DN),true⟩],fun k x=>alZ k x.1 x.2.1⟩
theorem ok184:O 184 F184:=okF aj [(7,2),(14,2)] (fun k=>(.loop 4 Zo (adN k) (fun g=>.nil) .nil)) Tryz.func184 rfl
abbrev Zp:Cut:=⟨[1,2,3,6,9,11],[cI,.cell (.int .u32),.box 120 [.cell (.int .u32),.cell (.sl 297 DN)],.box 120 [.cell (.int .u32),.nil],.box 120 [.cell (.int .u32),.own 297 DN],cI],[],69,[]⟩
def ajC (k:Nat) (g9:Int -> Int -> Int -> mo -> Int -> Int -> mo -> Int -> Option UE) (a b c:Int) (e:l8) (f x:Int) (h:l8) (i:Int):Option UE :=
 (bif decide (i<(e.length:Int)) then
  ix e i <|
  (bif (rd e i (0,0)).1==a then
   some (((x,h),0,false,()),())
  else
   g9 a b c e f x h (IntKind.i64.wrap (i+1)))
 else
  (bif decide ((e.length:Int)≥4) then
   some (((x,h),0,false,()),())
  else
   ap h ([(a,b)]:List (Int×Int)) 16 fun r1 =>
   some (((x,r1),0,true,()),())))
def adO (k:Nat):Xx (((Unit)×Int×Int×UG×(Int×Unit×Unit)×UG×Int×Unit) -> Option UE):=dh (bf (ay (ay (bq (ay (ay bg)) (bq (ay (bf bg)) (bq (ay (ay bg)) (ay bg))))))) (ajC k)
def ajD (k a:Nat) (b c e:Int) (f:l8) (h x:Int) (i:l8) (l:Int):Option UE:=iter Zp (adO k) a ((),b,c,(e,f,()),(h,(),()),(x,i,()),l,())
def al0 (k:Nat) (a:Int×List (Int×Int)) (b c:Int):Option UE :=
 ap ([]:List (Int×Int)) a.2 16 fun r0 =>
 (bif decide (b<1) then
  some (((a.1,r0),0,false,()),())
 else
  (bif c==0 then
   some (((a.1,r0),0,false,()),())
  else
   (bif (Tp .u32 a.1 c) != 0 then
    some (((IntKind.u32.wrap (a.1 - (Tp .u32 a.1 c)),r0),Tp .u32 a.1 c,true,()),())
   else
    ajD k k b c a.1 a.2 0 a.1 r0 0)))
def F185:Fn:=⟨[ac0,au,.val ⟨false,(.int .u32),false⟩],[.val ⟨true,acV,true⟩,aiY,rB],fun k (a,b,c,_)=>al0 k a b c⟩
theorem ok185:O 185 F185:=okF aj [] (fun k=>(.loop 9 Zp (adO k) (fun g=>.nil) .nil)) Tryz.func185 rfl
abbrev V4:Cut:=⟨[2,4,6,11,12,13],[.box 44 [cI,cI,.cell (.sl 77 zo),.cell (.sl 96 uz),.cell .bool,.cell .bool,.cell .bool,.cell zw,.cell ko,.cell qh,.cell AP,.cell ko,.cell qh],.box 44 [cI,cI,.nil,.nil,.cell .bool,.cell .bool,.cell .bool,.nil,.nil,.nil,.nil,.nil,.nil],.box 110 [cI,cI,cI,cI],.own 297 DN,.own 82 AO,cI],[],121,[]⟩
def af6 (k:Nat) (g11:Int -> Int -> (List l7) -> DT -> Bool -> Bool -> Bool -> (List jv) -> (List Int) -> (List Bool) -> (List jo) -> (List Int) -> (List Bool) -> Int -> Int -> Bool -> Bool -> Bool -> Int -> Int -> Int -> Int -> mo -> zu -> Int -> Option (NQ×Unit)) (a b:Int) (c:List l7) (e:List (PN Int 5)) (f h i:Bool) (l:List jv) (m:List Int) (n:List Bool) (o:List jo) (p:List Int) (s:List Bool) (t u:Int) (v w y:Bool) (z A B C:Int) (D:l8) (G:List (PN Int 6)) (H:Int):Option (NQ×Unit) :=
 (bif decide (H<(D.length:Int)) then
  ix D H <|
  ix D H <|
  ap G ([(a,12,0,(rd D H (0,0)).1,IntKind.i64.wrap (rd D H (0,0)).2,0)]:List (PN Int 6)) 48 fun r3 =>
  g11 a b c e f h i l m n o p s t u v w y z A B C D r3 (IntKind.i64.wrap (H+1))
 else
  some (((a,b,c,e,f,h,i,l,((m,n),o),p,s),G,(0,(0,0),0),()),()))
def Zq (k:Nat):Xx (((Unit)×Ux×Uy×(Int×Int×Int×Int×Unit)×mo×zu×Int×Unit) -> Option (NQ×Unit)):=dh (bf (bq (ay (ay (ay (ay (ay (ay (ay (ay (ay (ay (ay (ay (ay bg))))))))))))) (bq (ay (ay (bf (bf (ay (ay (ay (bf (bf (bf (bf (bf (bf bg))))))))))))) (bq (ay (ay (ay (ay bg)))) (ay (ay (ay bg))))))) (af6 k)
def af7 (k a:Nat) (b c:Int) (e:List l7) (f:List (PN Int 5)) (h i l:Bool) (m:List jv) (n:List Int) (o:List Bool) (p:List jo) (s:List Int) (t:List Bool) (u v:Int) (w y z:Bool) (A B C D:Int) (G:l8) (H:List (PN Int 6)) (I:Int):Option (NQ×Unit):=iter V4 (Zq k) a ((),(b,c,e,f,h,i,l,m,n,o,p,s,t,()),(u,v,(),(),w,y,z,(),(),(),(),(),(),()),(A,B,C,D,()),G,H,I,())
def ajE (k:Nat) (a:JD) (b:Int×l7×(Int×Int)×Int×Int×Int):Option (NQ×Unit) :=
 (af5 k a.2.2.2.2.2.2.2.2.1 b.2.2.1).bind fun q0 =>
 (bif !q0.1.2.1 then
  some ((a,[],(3,(0,0),0),()),())
 else
  ix a.2.2.2.2.2.2.2.2.1.2 q0.1.1 <|
  (bif (rd a.2.2.2.2.2.2.2.2.1.2 q0.1.1 (0,(0,0),(0,0),([],[]),(0,[]),0)).1 != 3 then
   some ((a,[],(3,(0,0),0),()),())
  else
   ix a.2.2.2.2.2.2.2.2.1.2 q0.1.1 <|
   (bif b.1==9 then
    (alZ k (rd a.2.2.2.2.2.2.2.2.1.2 q0.1.1 (0,(0,0),(0,0),([],[]),(0,[]),0)).2.2.2.2.1 b.2.2.2.2.2).bind fun q1 =>
    (S89 k a.2.2.2.2.2.2.2.2.1 q0.1.1 ((rd a.2.2.2.2.2.2.2.2.1.2 q0.1.1 (0,(0,0),(0,0),([],[]),(0,[]),0)).1,(rd a.2.2.2.2.2.2.2.2.1.2 q0.1.1 (0,(0,0),(0,0),([],[]),(0,[]),0)).2.1,(rd a.2.2.2.2.2.2.2.2.1.2 q0.1.1 (0,(0,0),(0,0),([],[]),(0,[]),0)).2.2.1,(rd a.2.2.2.2.2.2.2.2.1.2 q0.1.1 (0,(0,0),(0,0),([],[]),(0,[]),0)).2.2.2.1,q1.1.1,(rd a.2.2.2.2.2.2.2.2.1.2 q0.1.1 (0,(0,0),(0,0),([],[]),(0,[]),0)).2.2.2.2.2)).bind fun q2 =>
    af7 k k a.1 a.2.1 a.2.2.1 a.2.2.2.1 a.2.2.2.2.1 a.2.2.2.2.2.1 a.2.2.2.2.2.2.1 a.2.2.2.2.2.2.2.1 q2.1.1.1.1 q2.1.1.1.2 q2.1.1.2 a.2.2.2.2.2.2.2.2.2.1 a.2.2.2.2.2.2.2.2.2.2 0 0 false false false 0 0 0 0 q1.1.2.1 ([]:List (PN Int 6)) 0
   else
    (al0 k (rd a.2.2.2.2.2.2.2.2.1.2 q0.1.1 (0,(0,0),(0,0),([],[]),(0,[]),0)).2.2.2.2.1 b.2.2.2.1 b.2.2.2.2.2).bind fun q4 =>
    (bif !q4.1.2.2.1 then
     some ((a,[],(1,(0,0),0),()),())
    else
     (S89 k a.2.2.2.2.2.2.2.2.1 q0.1.1 ((rd a.2.2.2.2.2.2.2.2.1.2 q0.1.1 (0,(0,0),(0,0),([],[]),(0,[]),0)).1,(rd a.2.2.2.2.2.2.2.2.1.2 q0.1.1 (0,(0,0),(0,0),([],[]),(0,[]),0)).2.1,(rd a.2.2.2.2.2.2.2.2.1.2 q0.1.1 (0,(0,0),(0,0),([],[]),(0,[]),0)).2.2.1,(rd a.2.2.2.2.2.2.2.2.1.2 q0.1.1 (0,(0,0),(0,0),([],[]),(0,[]),0)).2.2.2.1,q4.1.1,(rd a.2.2.2.2.2.2.2.2.1.2 q0.1.1 (0,(0,0),(0,0),([],[]),(0,[]),0)).2.2.2.2.2)).bind fun q5 =>
     (bif q4.1.2.1==0 then
      some (((a.1,a.2.1,a.2.2.1,a.2.2.2.1,a.2.2.2.2.1,a.2.2.2.2.2.1,a.2.2.2.2.2.2.1,a.2.2.2.2.2.2.2.1,q5.1.1,a.2.2.2.2.2.2.2.2.2),[],(16,(0,0),0),()),())
     else
      some (((a.1,a.2.1,a.2.2.1,a.2.2.2.1,a.2.2.2.2.1,a.2.2.2.2.2.1,a.2.2.2.2.2.2.1,a.2.2.2.2.2.2.2.1,q5.1.1,a.2.2.2.2.2.2.2.2.2),[],(0,(0,0),IntKind.i64.wrap q4.1.2.1),()),()))))))
def F136:Fn:=⟨[LC,acZ],[UN,acW,alo],fun k x=>ajE k x.1 x.2.1⟩
theorem ok136:O 136 F136:=okF (ah ok89 <| ah ok180 <| ah ok184 <| ah ok185 aj) [(12,2)] (fun k=>(.loop 11 V4 (Zq k) (fun g=>.nil) .nil)) Tryz.func136 rfl
end
end Go.Proofs.YtmmagcjlfcicfaaGreat.Ab
