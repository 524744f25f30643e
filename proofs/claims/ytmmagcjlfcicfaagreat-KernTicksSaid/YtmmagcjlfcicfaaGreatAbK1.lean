import Derived.Test.YtmmagcjlfcicfaaGreatAbK0
/- Contracts, printed by this session's own program gen.py. -/
set_option linter.unusedVariables false
set_option linter.unusedSimpArgs false
set_option maxRecDepth 100000
namespace Go.Proofs.YtmmagcjlfcicfaaGreat.Ab
open Go.RowKit
abbrev kg:Type:=Int×Int×Int×Int×(Int×(PN Int 8)×(List (Int×Int×Int))×Bool)×(Int×(PN Int 8)×(List (Int×Int×Int))×Bool)×(List Int)×Bool
abbrev l9:Type:=Int×Int×Int×(List (Int×Int×Int×Int))×(List (Int×Int×Int×Int))×List (Int×Int×Int×Int)
abbrev J8:Ty:=.pair (.int .i64) (.pair (.int .i64) (.pair (.int .i64) (.pair (.int .i64) (.pair (.pair (.int .i64) (.pair (Am 8 (.int .i64)) (.pair (.sl 233 (.pair (.int .i64) (.pair (.int .i64) (.int .i64)))) .bool))) (.pair (.pair (.int .i64) (.pair (Am 8 (.int .i64)) (.pair (.sl 233 (.pair (.int .i64) (.pair (.int .i64) (.int .i64)))) .bool))) (.pair (.sl 3 (.int .i64)) .bool))))))
abbrev jy:Type:=Int×(Int×Int)×(Int×Int)×((List Int)×List Int)×(Int×List (Int×Int))×Int
abbrev AX:Ty:=.pair (.int .i64) (.pair (.int .i64) (.pair (.int .i64) (.pair (.sl 87 (.pair (.int .i64) (.pair (.int .i64) (.pair (.int .i64) (.int .i64))))) (.pair (.sl 87 (.pair (.int .i64) (.pair (.int .i64) (.pair (.int .i64) (.int .i64))))) (.sl 87 (.pair (.int .i64) (.pair (.int .i64) (.pair (.int .i64) (.int .i64)))))))))
abbrev J9:Ty:=.pair (.int .i64) (.pair (.pair (.int .i64) (.int .i64)) (.pair (.pair (.int .i64) (.int .i64)) (.pair (.pair (.sl 2 (.int .i64)) (.sl 3 (.int .i64))) (.pair (.pair (.int .u32) (.sl 297 (.pair (.int .i64) (.int .u32)))) (.int .u32)))))
abbrev Y2:Type:=Int×Int×(List l9)×(List (PN Int 5))×Bool×Bool×Bool×(List kg)×(List Int)×(List Bool)×(List jy)×(List Int)×(List Bool)×(List (PN Int 6))×Unit
abbrev OQ:Type:=Int×Int×(List l9)×(List (PN Int 5))×Bool×Bool×Bool×(List kg)×(((List Int)×List Bool)×List jy)×(List Int)×List Bool
abbrev al2:Ty:=.pair (.int .i64) (.pair (.int .i64) (.pair (.sl 77 AX) (.pair (.sl 96 (Am 5 (.int .i64))) (.pair .bool (.pair .bool (.pair .bool (.pair (.sl 94 J8) (.pair (.pair (.pair (.sl 3 (.int .i64)) (.sl 4 .bool)) (.sl 122 J9)) (.pair (.sl 3 (.int .i64)) (.sl 4 .bool))))))))))
abbrev VX:Type:=Int×Int×(List l9)×(List (PN Int 5))×Bool×Bool×Bool×(List kg)×(List Int)×(List Bool)×(List jy)×(List Int)×(List Bool)×Unit
abbrev DN:Ty:=.pair (.int .i64) (.int .i64)
abbrev yu:Type:=Int×(Int×l9×(Int×Int)×Int×Int×Int)×Int×Int
abbrev KC:Type:=Int -> Int -> (List l9) -> (List (PN Int 5)) -> Bool -> Bool -> Bool -> (List kg) -> (List Int) -> (List Bool) -> (List jy) -> (List Int) -> (List Bool) -> (List (PN Int 6)) -> (List (List Int)) -> (List Int) -> Int -> Int -> Option ((Unit)×Y2×Unit)
abbrev l8:Type:=Int×Int×Int×Int
abbrev akC:Type:=Int×Int×Int×Int×Int×Int×Int×Int×Int×Int×Int×Int×Int×(List (Int×Int×Int))×Bool×Int×Int×Int×Int×Int×Int×Int×Int×Int×(List (Int×Int×Int))×Bool×(List Int)×Bool×Unit
abbrev aan:Type:=Int×(PN Int 8)×(List (Int×Int×Int))×Bool
abbrev KD:Type:=Int×Int×(List l9)×(List (PN Int 5))×Bool×Bool×Bool×(List kg)×(((List Int)×List Bool)×List jy)×(List Int)×List Bool
abbrev EB:Type:=(List Int)×Int×Unit
abbrev lq:Ty:=.sl 3 (.int .i64)
abbrev VY:Type:=Int×Int×Unit×Unit×Bool×Bool×Bool×Unit×Unit×Unit×Unit×Unit×Unit×Unit
abbrev uw:Ty:=.pair (.int .i64) DN
abbrev l6:Type:=(Int×Unit)×Unit
abbrev ng:Type:=List (Int×Int)
abbrev akD:Ty:=.pair (.int .i64) (.pair AX (.pair DN (.pair (.int .i64) (.pair (.int .i64) (.int .u32)))))
abbrev u7:Type:=(Int×Bool×Unit)×Unit
abbrev ow:Type:=Int×Int×Int
abbrev zy:Type:=(List Int)×List Bool
abbrev akE:Ty:=.pair (.int .i64) (.pair (Am 8 (.int .i64)) (.pair (.sl 233 uw) .bool))
abbrev FZ:Type:=((List l8)×Unit)×EB×Unit
abbrev VZ:Ty:=.pair lq (.sl 4 .bool)
abbrev H9:Type:=Int×Int×Int×Int×aan×aan×(List Int)×Bool
abbrev PU:Type:=OQ×(List (PN Int 6))×(Int×(Int×Int)×Int)×Unit
abbrev EC:Type:=((List yu)×Unit)×EB×Unit
abbrev mh:Type:=List (Int×Int)
abbrev yw:Type:=(Unit)×Y2×Unit
abbrev aao:Type:=Int×List (Int×Int)
abbrev ED:Ty:=.pair (.int .i64) (.int .u32)
abbrev PW:Type:=((zy×List jy)×(Int×Int)×Bool×Unit)×Unit
abbrev AY:Ty:=.pair (.int .i64) uw
abbrev wo:Ty:=Am 5 (.int .i64)
abbrev MK:Type:=(OQ×(List (PN Int 6))×Int×Unit)×Unit
abbrev DR:Type:=((List Int)×Unit)×Unit
abbrev BN:Ty:=Am 6 (.int .i64)
abbrev W9:Type:=((List Int)×List Int)×Int×Bool×Bool×Unit
abbrev akF:Type:=Int×Int×Int×Int×Int×(List Int)×(List Int)×Int×ng×Int×Unit
abbrev HV:Type:=(OQ×Int×Unit)×Unit
abbrev AZ:Type:=List (PN Int 6)
abbrev aeW:Ty:=.pair VZ (.sl 122 J9)
abbrev aap:Type:=Int×(Int×Int)×(Int×Int)×((List Int)×List Int)×aao×Int
abbrev Wd:Type:=(zy×(Int×Int)×Bool×Unit)×Unit
abbrev aaq:Type:=(List Int) -> Int -> Int -> (List l8) -> Int -> Option FZ
abbrev akG:Ty:=.pair (.int .i64) (.pair (.int .i64) (.pair (.sl 77 AX) (.pair (.sl 96 wo) (.pair .bool (.pair .bool (.pair .bool (.pair (.sl 94 J8) (.pair (.pair VZ (.sl 124 J9)) VZ))))))))
abbrev EF:Ty:=.sl 5 (.int .u8)
abbrev Wh:Type:=(kg×l8×Bool×Unit)×Unit
abbrev aar:Type:=Int×Int×Int×(List l8)×(List l8)×List l8
abbrev Wi:Type:=(aao×Int×Bool×Unit)×Unit
abbrev qj:Ty:=.sl 4 .bool
abbrev PX:Ty:=.pair (.int .i64) (.pair akD DN)
abbrev KE:Type:=(aan×Unit)×Unit
abbrev Wj:Type:=(List Int) -> Int -> Int -> Option l6
abbrev PY:Ty:=.sl 114 DN
abbrev Wm:Type:=Int×ng×Unit
abbrev Wn:Type:=(Bool×Unit)×Y2×akC×Unit
abbrev Wo:Type:=(aao×ng×Unit)×Unit
abbrev akH:Type:=(List Int)×(List Bool)×(List jy)×Unit
abbrev akI:Type:=Int -> Int -> Int -> Int -> Int -> (List Int) -> (List Int) -> Int -> ng -> Int -> (List Int) -> Int -> Option l6
abbrev KF:Ty:=.sl 2 (.int .i64)
abbrev aeX:Ty:=.pair (.int .u32) (.sl 297 ED)
abbrev EG:Type:=List (PN Int 5)
abbrev BO:Ty:=.sl 122 J9
abbrev BA:Ty:=.sl 94 J8
abbrev C8:Type:=List ow
abbrev acM:PT:=.fK 150 [cI,cI,.own 77 AX,.own 96 wo,.cell .bool,.cell .bool,.cell .bool,.own 94 J8,.own 3 (.int .i64),.own 4 .bool,.own 124 J9,.own 3 (.int .i64),.own 4 .bool,.own 82 BN]
abbrev aot:PT:=.fK 94 [cI,cI,cI,cI,cI,cI,cI,cI,cI,cI,cI,cI,cI,.cell (.sl 233 uw),.cell .bool,cI,cI,cI,cI,cI,cI,cI,cI,cI,.cell (.sl 233 uw),.cell .bool,.cell lq,.cell .bool]
abbrev aou:RT:=.val ⟨true,(.pair (.int .i64) (.pair DN (.int .i64))),true⟩
abbrev aov:PT:=.val ⟨true,(.pair KF lq),false⟩
abbrev aow:RT:=.val ⟨true,(.pair KF lq),false⟩
abbrev al3:RT:=.val ⟨false,(.sl 87 AY),true⟩
abbrev aeY:RT:=.val ⟨false,(.sl 82 BN),true⟩
abbrev al4:RT:=.val ⟨false,(.int .u32),true⟩
abbrev acN:PT:=.fK 140 [.cell EF,cI]
abbrev TT:PT:=.val ⟨false,PY,false⟩
abbrev aeZ:PT:=.val ⟨false,lq,false⟩
abbrev ae0:PT:=.val ⟨true,akE,false⟩
abbrev aas:RT:=.val ⟨false,PY,true⟩
abbrev ae1:PT:=.val ⟨true,akD,false⟩
abbrev aat:PT:=.val ⟨true,VZ,false⟩
abbrev Wp:PT:=.val ⟨true,DN,false⟩
abbrev PZ:PT:=.val ⟨true,aeW,false⟩
abbrev aau:RT:=.val ⟨true,aeW,false⟩
abbrev aav:RT:=.val ⟨false,lq,true⟩
abbrev ae2:PT:=.val ⟨true,aeX,false⟩
abbrev HY:PT:=.val ⟨true,J8,false⟩
abbrev Wq:RT:=.val ⟨true,akE,true⟩
abbrev aaw:PT:=.val ⟨true,AX,false⟩
abbrev ae3:RT:=.val ⟨true,AY,true⟩
abbrev Ws:RT:=.val ⟨true,VZ,true⟩
abbrev aax:PT:=.val ⟨true,J9,false⟩
abbrev ML:PT:=.val ⟨true,al2,false⟩
abbrev Wt:RT:=.val ⟨true,al2,false⟩
abbrev Wu:RT:=.val ⟨true,J8,true⟩
noncomputable section
abbrev aay:Cut:=⟨[0,4,9,27,28,29,67,68],[.pin false 0,.own 27 lq,cI,.own 3 (.int .i64),cI,cI,cI,cI],[.fK 150 [cI,cI,.own 77 AX,.own 96 wo,.cell .bool,.cell .bool,.cell .bool,.own 94 J8,.own 3 (.int .i64),.own 4 .bool,.own 124 J9,.own 3 (.int .i64),.own 4 .bool,.own 82 BN]],85,[(66,3)]⟩
def al5 (k:Nat) (g3:KC) (g14:Int -> Int -> (List l9) -> EG -> Bool -> Bool -> Bool -> (List kg) -> (List Int) -> (List Bool) -> (List jy) -> (List Int) -> (List Bool) -> AZ -> (List (List Int)) -> Int -> (List Int) -> Int -> Int -> Int -> Int -> Option yw) (a b:Int) (c:List l9) (e:List (PN Int 5)) (f h i:Bool) (l:List kg) (m:List Int) (n:List Bool) (o:List jy) (p:List Int) (s:List Bool) (t:List (PN Int 6)) (u:List (List Int)) (v:Int) (w:List Int) (y z A B:Int):Option yw :=
 (bif decide (B<A) then
  ix l B <|
  (S81 k (rd l B (0,0,0,0,(0,Pv (α:=Int) 8 0,[],false),(0,Pv (α:=Int) 8 0,[],false),[],false)) v).bind fun q5 =>
  ix l B <|
  g14 a b c e f h i (upd l B q5.1.1) m n o p s t u v w y z A (IntKind.i64.wrap (B+1))
 else
  g3 a b c e f h i l m n o p s t u w y (IntKind.i64.wrap (z+1)))
def ae4 (k:Nat) (g3:KC):Xx (((Y2×Unit)×Unit×(List (List Int))×Int×(List Int)×Int×Int×Int×Int×Unit) -> Option yw):=dh (bq (bq (ay (ay (ay (ay (ay (ay (ay (ay (ay (ay (ay (ay (ay (ay bg)))))))))))))) bg) (bf (ay (ay (ay (ay (ay (ay (ay bg))))))))) (al5 k g3)
def al6 (k:Nat) (g3:KC) (a:Nat) (b c:Int) (e:List l9) (f:List (PN Int 5)) (h i l:Bool) (m:List kg) (n:List Int) (o:List Bool) (p:List jy) (s:List Int) (t:List Bool) (u:List (PN Int 6)) (v:List (List Int)) (w:Int) (y:List Int) (z A B C:Int):Option yw:=iter aay (ae4 k g3) a (((b,c,e,f,h,i,l,m,n,o,p,s,t,u,()),()),(),v,w,y,z,A,B,C,())
abbrev ae5:Cut:=⟨[0,4,6,27,28,29,41,42,43],[.pin false 0,.own 27 lq,cI,.own 3 (.int .i64),cI,cI,.cell lq,cI,cI],[.fK 150 [cI,cI,.own 77 AX,.own 96 wo,.cell .bool,.cell .bool,.cell .bool,.own 94 J8,.own 3 (.int .i64),.own 4 .bool,.own 124 J9,.own 3 (.int .i64),.own 4 .bool,.own 82 BN]],85,[]⟩
def aox (k:Nat) (g3:KC) (g7:Int -> Int -> (List l9) -> EG -> Bool -> Bool -> Bool -> (List kg) -> (List Int) -> (List Bool) -> (List jy) -> (List Int) -> (List Bool) -> AZ -> (List (List Int)) -> Int -> (List Int) -> Int -> Int -> (List Int) -> Int -> Int -> Option yw) (u v:Int) (w:List l9) (y:List (PN Int 5)) (z A B:Bool) (C:List kg) (D:List Int) (G:List Bool) (H:List jy) (I:List Int) (J:List Bool) (K:List (PN Int 6)) (M:List (List Int)) (N:Int) (O:List Int) (P Q:Int) (T:List Int) (U V:Int):Option yw :=
 (bif decide (V<U) then
  ix T V <|
  (FY k u v w y z A B C D G H I J K (0,12,0,rd T V 0,0,15)).bind fun (_,(a,b,c,e,f,h,i,l,m,n,o,p,s,t,_),_) =>
  g7 a b c e f h i l m n o p s t M N O P Q T U (IntKind.i64.wrap (V+1))
 else
  (S73 k ((D,G),H)).bind fun q3 =>
  (aos k q3.1.1 N).bind fun q4 =>
  (bif decide (q4.1.1≥0) then
   al6 k g3 k u v w y z A B C D G H I J K M q4.1.1 O P Q (C.length:Int) 0
  else
   g3 u v w y z A B C D G H I J K M O P (IntKind.i64.wrap (Q+1))))
def akJ (k:Nat) (g3:KC):Xx (((Y2×Unit)×Unit×(List (List Int))×Int×(List Int)×Int×Int×(List Int)×Int×Int×Unit) -> Option yw):=dh (bq (bq (ay (ay (ay (ay (ay (ay (ay (ay (ay (ay (ay (ay (ay (ay bg)))))))))))))) bg) (bf (ay (ay (ay (ay (ay (ay (ay (ay bg)))))))))) (aox k g3)
def aoy (k:Nat) (g3:KC) (a:Nat) (b c:Int) (e:List l9) (f:List (PN Int 5)) (h i l:Bool) (m:List kg) (n:List Int) (o:List Bool) (p:List jy) (s:List Int) (t:List Bool) (u:List (PN Int 6)) (v:List (List Int)) (w:Int) (y:List Int) (z A:Int) (B:List Int) (C D:Int):Option yw:=iter ae5 (akJ k g3) a (((b,c,e,f,h,i,l,m,n,o,p,s,t,u,()),()),(),v,w,y,z,A,B,C,D,())
abbrev ae6:Cut:=⟨[0,4,27,28,29],[.pin false 0,.own 27 lq,.own 3 (.int .i64),cI,cI],[.fK 150 [cI,cI,.own 77 AX,.own 96 wo,.cell .bool,.cell .bool,.cell .bool,.own 94 J8,.own 3 (.int .i64),.own 4 .bool,.own 124 J9,.own 3 (.int .i64),.own 4 .bool,.own 82 BN]],85,[]⟩
def ae7 (k:Nat) (g3:KC) (u v:Int) (w:List l9) (y:List (PN Int 5)) (z A B:Bool) (C:List kg) (D:List Int) (G:List Bool) (H:List jy) (I:List Int) (J:List Bool) (K:List (PN Int 6)) (M:List (List Int)) (N:List Int) (O P:Int):Option yw :=
 (bif decide (P<O) then
  ix N P <|
  (FY k u v w y z A B C D G H I J K (0,11,0,rd N P 0,0,0)).bind fun (_,(a,b,c,e,f,h,i,l,m,n,o,p,s,t,_),_) =>
  ix M P <|
  aoy k g3 k a b c e f h i l m n o p s t M (rd N P 0) N O P (rd M P []) ((rd M P []).length:Int) 0
 else
  some ((),(u,v,w,y,z,A,B,C,D,G,H,I,J,K,()),()))
def akK (k:Nat):Xx (((Y2×Unit)×Unit×(List (List Int))×(List Int)×Int×Int×Unit) -> Option yw):=dh (bq (bq (ay (ay (ay (ay (ay (ay (ay (ay (ay (ay (ay (ay (ay (ay bg)))))))))))))) bg) (bf (ay (ay (ay (ay bg)))))) (ae7 k)
def ae8 (k a:Nat) (b c:Int) (e:List l9) (f:List (PN Int 5)) (h i l:Bool) (m:List kg) (n:List Int) (o:List Bool) (p:List jy) (s:List Int) (t:List Bool) (u:List (PN Int 6)) (v:List (List Int)) (w:List Int) (y z:Int):Option yw:=iter ae6 (akK k) a (((b,c,e,f,h,i,l,m,n,o,p,s,t,u,()),()),(),v,w,y,z,())
theorem aiz (k a b c e f h i l m n o p s t u v w y z):ae8 k (a+1) b c e f h i l m n o p s t u v w y z=ae7 k (ae8 k a) b c e f h i l m n o p s t u v w y z:=Ba _ _ _ _
def S58 (k:Nat) (a b:Int) (c:List l9) (e:List (PN Int 5)) (f h i:Bool) (l:List kg) (m:List Int) (n:List Bool) (o:List jy) (p:List Int) (s:List Bool) (t:List (PN Int 6)):Option yw :=
 (aiy k ((m,n),o)).bind fun q0 =>
 ae8 k k a b c e f h i l q0.1.1.1.1 q0.1.1.1.2 q0.1.1.2 p s t q0.1.2.2.1 q0.1.2.1 (q0.1.2.1.length:Int) 0
def F58:Fn:=⟨[acM],[],fun k ((a,b,c,e,f,h,i,l,m,n,o,p,s,t,_),_)=>S58 k a b c e f h i l m n o p s t⟩
theorem ok58:O 58 F58:=okF (ah ok73 <| ah ok81 <| ah ok100a <| ah ok102 <| ah ok103 aj) [] (fun k=>(.loop 3 ae6 (akK k) (fun g=>(fun (g3:KC)=>(.loop 14 aay (ae4 k g3) (fun g=>.nil) (.loop 7 ae5 (akJ k g3) (fun g=>.nil) .nil))) (fun t14 t15 t16 t17 t18 t19 t20 t21 t22 t23 t24 t25 t26 t27 who aoz t28 t29=>g (((t14,t15,t16,t17,t18,t19,t20,t21,t22,t23,t24,t25,t26,t27,()),()),(),who,aoz,t28,t29,()))) .nil)) Tryz.func58 rfl
abbrev aaz:Cut:=⟨[0,2,6,7,8,12,13,14],[.cell PY,cI,cI,.cell .bool,.mp 330 true (.int .i64) false .bool,.cell lq,cI,cI],[],51,[]⟩
def Y3 (k:Nat) (g3:ng -> Int -> Int -> Bool -> (List (Int×Bool)) -> (List Int) -> Int -> Int -> Option u7) (a:mh) (b c:Int) (e:Bool) (f:List (Int×Bool)) (h:List Int) (i l:Int):Option u7 :=
 (bif decide (l<i) then
  ix h l <|
  (aip k a (rd h l 0) b).bind fun q0 =>
  (bif !q0.1.1 then
   g3 a b c e f h i (IntKind.i64.wrap (l+1))
  else
   (bif Tx (.int .i64) .bool (rd h l 0) f false then
    g3 a b c e f h i (IntKind.i64.wrap (l+1))
   else
    (bif !e then
     ix a (rd h l 0) <|
     g3 a b (rd a (rd h l 0) (0,0)).1 true (vM (.int .i64) .bool (rd h l 0) true f) h i (IntKind.i64.wrap (l+1))
    else
     ix a (rd h l 0) <|
     (bif decide ((rd a (rd h l 0) (0,0)).1<c) then
      ix a (rd h l 0) <|
      g3 a b (rd a (rd h l 0) (0,0)).1 true (vM (.int .i64) .bool (rd h l 0) true f) h i (IntKind.i64.wrap (l+1))
     else
      g3 a b c e (vM (.int .i64) .bool (rd h l 0) true f) h i (IntKind.i64.wrap (l+1))))))
 else
  some ((c,e,()),()))
def ae9 (k:Nat):Xx (((Unit)×ng×Int×Int×Bool×(List (Int×Bool))×(List Int)×Int×Int×Unit) -> Option u7):=dh (bf (ay (ay (ay (ay (ay (ay (ay (ay bg))))))))) (Y3 k)
def Y4 (k a:Nat) (b:mh) (c e:Int) (f:Bool) (h:List (Int×Bool)) (i:List Int) (l m:Int):Option u7:=iter aaz (ae9 k) a ((),b,c,e,f,h,i,l,m,())
theorem afa (k a b c e f h i l m):Y4 k (a+1) b c e f h i l m=Y3 k (Y4 k a) b c e f h i l m:=Ba _ _ _ _
def afb (k:Nat) (a:mh) (b:List Int) (c:Int):Option u7 :=
 Y4 k k a c 0 false ([]:List (Int×Bool)) b (b.length:Int) 0
def F202:Fn:=⟨[TT,aeZ,au],[rI,rB],fun k (a,b,c,_)=>afb k a b c⟩
theorem ok202:O 202 F202:=okF (ah ok195 aj) [] (fun k=>(.loop 3 aaz (ae9 k) (fun g=>.nil) .nil)) Tryz.func202 rfl
def aiA (k:Nat) (a:H9) (b:Int):Option l6 :=
 (bif a.2.2.2.1==2 then
  some ((IntKind.i64.wrap ((IntKind.i64.wrap (b+b))+a.1),()),())
 else
  (bif a.2.2.2.2.2.2.2 then
   some ((a.1,()),())
  else
   some ((IntKind.i64.wrap (b+a.1),()),())))
def F225:Fn:=⟨[HY,au],[rI],fun k x=>aiA k x.1 x.2.1⟩
theorem ok225:O 225 F225:=okF aj [] On Tryz.func225 rfl
def al7 (k:Nat) (a:H9) (b:Int) (c:mh):Option l6 :=
 (afb k c a.2.2.2.2.2.2.1 a.1).bind fun q0 =>
 (bif q0.1.2.1 then
  (aiA k a b).bind fun q1 =>
  some ((mn q1.1.1 q0.1.1,()),())
 else
  (aiA k a b).bind fun q2 =>
  some ((q2.1.1,()),()))
def F201:Fn:=⟨[HY,au,TT],[rI],fun k (a,b,c,_)=>al7 k a b c⟩
theorem ok201:O 201 F201:=okF (ah ok202 <| ah ok225 aj) [] On Tryz.func201 rfl
def aiB (k:Nat) (a:H9) (b:Int) (c:mh):Option ((ow×Unit)×Unit) :=
 (al7 k a b c).bind fun q0 =>
 (afb k c a.2.2.2.2.2.2.1 a.1).bind fun q1 =>
 (bif q1.1.2.1 then
  some (((q0.1.1,0,a.1),()),())
 else
  some (((q0.1.1,1,a.1),()),()))
def F158:Fn:=⟨[HY,au,TT],[.val ⟨true,uw,true⟩],fun k (a,b,c,_)=>aiB k a b c⟩
theorem ok158:O 158 F158:=okF (ah ok201 <| ah ok202 aj) [] On Tryz.func158 rfl
def aiC (k:Nat) (x:Int):Option ((Bool×Unit)×Unit) :=
 some ((x != x,()),())
def F227:Fn:=⟨[au],[rB],fun k x=>aiC k x.1⟩
theorem ok227:O 227 F227:=okF aj [] On Tryz.func227 rfl
def acO (k:Nat) (x a:Int):Option l6 :=
 (aiC k x).bind fun q0 =>
 (aiC k a).bind fun q1 =>
 (bif q0.1.1 then
  (bif q1.1.1 then
   some ((0,()),())
  else
   some (((-1),()),()))
 else
  (bif q1.1.1 then
   some ((1,()),())
  else
   (bif decide (x<a) then
    some (((-1),()),())
   else
    (bif decide (x>a) then
     some ((1,()),())
    else
     some ((0,()),())))))
def F206:Fn:=⟨[au,au],[rI],fun k x=>acO k x.1 x.2.1⟩
theorem ok206:O 206 F206:=okF (ah ok227 aj) [] On Tryz.func206 rfl
abbrev aaA:Cut:=⟨[3,6,7,8],[cI,.cell lq,cI,cI],[],18,[]⟩
def JA (k:Nat) (g3:Int -> (List Int) -> Int -> Int -> Option l6) (a:Int) (b:List Int) (c e:Int):Option l6 :=
 (bif decide (e<c) then
  ix b e <|
  (bif (rd b e 0) != a then
   some ((rd b e 0,()),())
  else
   g3 a b c (IntKind.i64.wrap (e+1)))
 else
  some ((a,()),()))
def afc (k:Nat):Xx (((Unit)×Int×(List Int)×Int×Int×Unit) -> Option l6):=dh (bf (ay (ay (ay (ay bg))))) (JA k)
def Y5 (k a:Nat) (b:Int) (c:List Int) (e f:Int):Option l6:=iter aaA (afc k) a ((),b,c,e,f,())
theorem HZ (k a b c e f):Y5 k (a+1) b c e f=JA k (Y5 k a) b c e f:=Ba _ _ _ _
def al8 (k:Nat) (a:List Int):Option l6 :=
 Y5 k k 0 a (a.length:Int) 0
def F205:Fn:=⟨[aeZ],[rI],fun k x=>al8 k x.1⟩
theorem ok205:O 205 F205:=okF aj [] (fun k=>(.loop 3 aaA (afc k) (fun g=>.nil) .nil)) Tryz.func205 rfl
def acP (k:Nat) (a b:Int×Int×Int):Option l6 :=
 (acO k a.1 b.1).bind fun q0 =>
 (acO k a.2.1 b.2.1).bind fun q1 =>
 (acO k a.2.2 b.2.2).bind fun q2 =>
 (al8 k ([q0.1.1,q1.1.1,q2.1.1]:List Int)).bind fun q3 =>
 some ((q3.1.1,()),())
def F160:Fn:=⟨[.val ⟨true,uw,false⟩,.val ⟨true,uw,false⟩],[rI],fun k x=>acP k x.1 x.2.1⟩
theorem ok160:O 160 F160:=okF (ah ok205 <| ah ok206 aj) [] On Tryz.func160 rfl
def aoA (k:Nat) (a:Int):Option l6 :=
 (bif decide (a<0) then
  some ((0,()),())
 else
  (bif decide (a≥64) then
   some ((0,()),())
  else
   Tk a <|
   some ((Tm .u64 1 a,()),())))
def F226:Fn:=⟨[au],[.val ⟨false,(.int .u64),true⟩],fun k x=>aoA k x.1⟩
theorem ok226:O 226 F226:=okF aj [] On Tryz.func226 rfl
def afd (k:Nat) (a b:Int):Option l6 :=
 (aoA k b).bind fun q0 =>
 some ((Uf .u64 a q0.1.1,()),())
def F203:Fn:=⟨[.val ⟨false,(.int .u64),false⟩,au],[.val ⟨false,(.int .u64),true⟩],fun k x=>afd k x.1 x.2.1⟩
theorem ok203:O 203 F203:=okF (ah ok226 aj) [] On Tryz.func203 rfl
abbrev aaB:Cut:=⟨[0,2,4],[.cell (.int .u64),cI,cI],[],23,[]⟩
def al9 (k:Nat) (g4:Int -> Int -> Int -> Option u7) (a b c:Int):Option u7 :=
 (bif decide (c>0) then
  Tk (IntKind.i64.wrap (64 - c)) <|
  (bif (Tm .u64 a (IntKind.i64.wrap (64 - c)))==0 then
   Tk c <|
   g4 (Tn .u64 a c) (IntKind.i64.wrap (b+c)) (IntKind.i64.wrap (Int.tdiv c 2))
  else
   g4 a b (IntKind.i64.wrap (Int.tdiv c 2)))
 else
  some ((b,true,()),()))
def afe (k:Nat):Xx (((Unit)×Int×Int×Int×Unit) -> Option u7):=dh (bf (ay (ay (ay bg)))) (al9 k)
def ama (k a:Nat) (b c e:Int):Option u7:=iter aaB (afe k) a ((),b,c,e,())
def amb (k:Nat) (a:Int):Option u7 :=
 (bif a==0 then
  some ((0,false,()),())
 else
  ama k k a 0 32)
def F204:Fn:=⟨[.val ⟨false,(.int .u64),false⟩],[rI,rB],fun k x=>amb k x.1⟩
theorem ok204:O 204 F204:=okF aj [] (fun k=>(.loop 4 aaB (afe k) (fun g=>.nil) .nil)) Tryz.func204 rfl
abbrev aaC:Cut:=⟨[3,4,13,14,15],[.box 261 [cI,cI,cI],.cell (.int .u64),.cell (.sl 261 uw),cI,cI],[],42,[]⟩
def MN (k:Nat) (g3:Int -> Int -> Int -> Int -> C8 -> Int -> Int -> Option l6) (a b c e:Int) (f:List ow) (h i:Int):Option l6 :=
 (bif decide (i<h) then
  ix f i <|
  (acP k (rd f i (0,0,0)) (a,b,c)).bind fun q0 =>
  (bif decide (q0.1.1<0) then
   (afd k 0 i).bind fun q1 =>
   g3 (rd f i (0,0,0)).1 (rd f i (0,0,0)).2.1 (rd f i (0,0,0)).2.2 q1.1.1 f h (IntKind.i64.wrap (i+1))
  else
   (bif q0.1.1==0 then
    (afd k e i).bind fun q2 =>
    g3 a b c q2.1.1 f h (IntKind.i64.wrap (i+1))
   else
    g3 a b c e f h (IntKind.i64.wrap (i+1))))
 else
  (amb k e).bind fun q3 =>
  some ((q3.1.1,()),()))
def aff (k:Nat):Xx (((Unit)×(Int×Int×Int×Unit)×Int×C8×Int×Int×Unit) -> Option l6):=dh (bf (bq (ay (ay (ay bg))) (ay (ay (ay (ay bg)))))) (MN k)
def JB (k a:Nat) (b c e f:Int) (h:List ow) (i l:Int):Option l6:=iter aaC (aff k) a ((),(b,c,e,()),f,h,i,l,())
theorem MO (k a b c e f h i l):JB k (a+1) b c e f h i l=MN k (JB k a) b c e f h i l:=Ba _ _ _ _
def aiD (k:Nat) (a:List ow):Option l6 :=
 ix a 0 <|
 JB k k (rd a 0 (0,0,0)).1 (rd a 0 (0,0,0)).2.1 (rd a 0 (0,0,0)).2.2 0 a (a.length:Int) 0
def F159:Fn:=⟨[.val ⟨false,(.sl 261 uw),false⟩],[rI],fun k x=>aiD k x.1⟩
theorem ok159:O 159 F159:=okF (ah ok160 <| ah ok203 <| ah ok204 aj) [] (fun k=>(.loop 3 aaC (aff k) (fun g=>.nil) .nil)) Tryz.func159 rfl
abbrev aaD:Cut:=⟨[6,7,8,11],[cI,.cell .bool,.own 261 uw,cI],[],63,[]⟩
def MP (k:Nat) (g8:Int -> Bool -> C8 -> Int -> Option u7) (a:Int) (b:Bool) (c:List ow) (e:Int):Option u7 :=
 (bif decide (e<(c.length:Int)) then
  sx c e (mn (IntKind.i64.wrap (e+64)) (c.length:Int)) <|
  (aiD k (sub c e (mn (IntKind.i64.wrap (e+64)) (c.length:Int)))).bind fun q2 =>
  (bif !b then
   g8 (IntKind.i64.wrap (e+q2.1.1)) true c (IntKind.i64.wrap (e+64))
  else
   ix c (IntKind.i64.wrap (e+q2.1.1)) <|
   ix c a <|
   (acP k (rd c (IntKind.i64.wrap (e+q2.1.1)) (0,0,0)) (rd c a (0,0,0))).bind fun q3 =>
   (bif decide (q3.1.1<0) then
    g8 (IntKind.i64.wrap (e+q2.1.1)) true c (IntKind.i64.wrap (e+64))
   else
    g8 a b c (IntKind.i64.wrap (e+64))))
 else
  some ((a,b,()),()))
def afg (k:Nat):Xx (((Unit)×Int×Bool×C8×Int×Unit) -> Option u7):=dh (bf (ay (ay (ay (ay bg))))) (MP k)
def JC (k a:Nat) (b:Int) (c:Bool) (e:List ow) (f:Int):Option u7:=iter aaD (afg k) a ((),b,c,e,f,())
theorem MQ (k a b c e f):JC k (a+1) b c e f=MP k (JC k a) b c e f:=Ba _ _ _ _
abbrev aaE:Cut:=⟨[1,2,6,7,8,14,15,16],[cI,.cell PY,cI,.cell .bool,.own 261 uw,.cell BA,cI,cI],[],63,[]⟩
def TU (k:Nat) (g3:Int -> ng -> Int -> Bool -> C8 -> (List kg) -> Int -> Int -> Option u7) (a:Int) (b:mh) (c:Int) (e:Bool) (f:List ow) (h:List kg) (i l:Int):Option u7 :=
 (bif decide (l<i) then
  ix h l <|
  (aiB k (rd h l (0,0,0,0,(0,Pv (α:=Int) 8 0,[],false),(0,Pv (α:=Int) 8 0,[],false),[],false)) a b).bind fun q0 =>
  ap f ([q0.1.1]:List ow) 24 fun r1 =>
  g3 a b c e r1 h i (IntKind.i64.wrap (l+1))
 else
  JC k k c e f 0)
def afh (k:Nat):Xx (((Unit)×Int×ng×Int×Bool×C8×(List kg)×Int×Int×Unit) -> Option u7):=dh (bf (ay (ay (ay (ay (ay (ay (ay (ay bg))))))))) (TU k)
def TV (k a:Nat) (b:Int) (c:mh) (e:Int) (f:Bool) (h:List ow) (i:List kg) (l m:Int):Option u7:=iter aaE (afh k) a ((),b,c,e,f,h,i,l,m,())
theorem Wv (k a b c e f h i l m):TV k (a+1) b c e f h i l m=TU k (TV k a) b c e f h i l m:=Ba _ _ _ _
def aiE (k:Nat) (a:List kg) (b:Int) (c:mh):Option u7 :=
 TV k k b c 0 false ([]:List ow) a (a.length:Int) 0
def F104:Fn:=⟨[.val ⟨false,BA,false⟩,au,TT],[rI,rB],fun k (a,b,c,_)=>aiE k a b c⟩
theorem ok104:O 104 F104:=okF (ah ok158 <| ah ok159 <| ah ok160 aj) [(8,2)] (fun k=>(.loop 8 aaD (afg k) (fun g=>.nil) (.loop 3 aaE (afh k) (fun g=>.nil) .nil))) Tryz.func104 rfl
def Ww (k:Nat) (a:Int×(PN Int 8)×C8×Bool):Option KE :=
 (XO k a.2.2.1).bind fun q0 =>
 some (((a.1,a.2.1,q0.1.1,a.2.2.2),()),())
def F210:Fn:=⟨[ae0],[Wq],fun k x=>Ww k x.1⟩
theorem ok210:O 210 F210:=okF (ah ok138 aj) [] On Tryz.func210 rfl
def Y6 (k:Nat) (a:H9):Option ((kg×Unit)×Unit) :=
 (Ww k a.2.2.2.2.1).bind fun q0 =>
 (Ww k a.2.2.2.2.2.1).bind fun q1 =>
 (VJ k a.2.2.2.2.2.2.1).bind fun q2 =>
 some (((a.1,a.2.1,a.2.2.1,a.2.2.2.1,q0.1.1,q1.1.1,q2.1.1,a.2.2.2.2.2.2.2),()),())
def F207:Fn:=⟨[HY],[Wu],fun k x=>Y6 k x.1⟩
theorem ok207:O 207 F207:=okF (ah ok140 <| ah ok210 aj) [] On Tryz.func207 rfl
def aiF (k:Nat) (a:aar) (b:H9):Option ((kg×Unit)×Unit) :=
 (Y6 k b).bind fun q0 =>
 (bif b.2.2.2.1==0 then
  (bif decide ((a.2.2.2.2.1.length:Int)>0) then
   (S99 k b.2.2.1).bind fun q1 =>
   (S99 k b.2.2.1).bind fun q2 =>
   some (((q0.1.1.1,q0.1.1.2.1,q0.1.1.2.2.1,1,q1.1.1,q2.1.1,[],q0.1.1.2.2.2.2.2.2.2),()),())
  else
   (Ww k b.2.2.2.2.2.1).bind fun q3 =>
   some (((q0.1.1.1,q0.1.1.2.1,q0.1.1.2.2.1,q0.1.1.2.2.2.1,q3.1.1,q0.1.1.2.2.2.2.2.1,[],q0.1.1.2.2.2.2.2.2.2),()),()))
 else
  (Ww k b.2.2.2.2.2.1).bind fun q4 =>
  some (((q0.1.1.1,q0.1.1.2.1,q0.1.1.2.2.1,q0.1.1.2.2.2.1,q4.1.1,q0.1.1.2.2.2.2.2.1,[],q0.1.1.2.2.2.2.2.2.2),()),()))
def F214:Fn:=⟨[aaw,HY],[Wu],fun k x=>aiF k x.1 x.2.1⟩
theorem ok214:O 214 F214:=okF (ah ok99 <| ah ok207 <| ah ok210 aj) [] On Tryz.func214 rfl
def afi (k:Nat) (a:aar) (b:H9) (c:mh):Option ((kg×ng×Int×Unit)×Unit) :=
 (aiF k a b).bind fun q0 =>
 (aeM k c b.1).bind fun q1 =>
 (bif b.2.2.2.1==2 then
  (S81 k b (-1)).bind fun q2 =>
  some ((q2.1.1,q1.1.1,13,()),())
 else
  (bif q0.1.1.2.2.2.1 != b.2.2.2.1 then
   some ((q0.1.1,q1.1.1,7,()),())
  else
   some ((q0.1.1,q1.1.1,6,()),())))
def F165:Fn:=⟨[aaw,HY,TT],[Wu,aas,rI],fun k (a,b,c,_)=>afi k a b c⟩
theorem ok165:O 165 F165:=okF (ah ok81 <| ah ok154 <| ah ok214 aj) [] On Tryz.func165 rfl
abbrev aaF:Cut:=⟨[0,1,11,12,13],[.pin false 0,.cell PY,.own 3 (.int .i64),cI,cI],[.fK 150 [cI,cI,.own 77 AX,.own 96 wo,.cell .bool,.cell .bool,.cell .bool,.own 94 J8,.own 3 (.int .i64),.own 4 .bool,.own 124 J9,.own 3 (.int .i64),.own 4 .bool,.own 82 BN]],55,[]⟩
def Y7 (k:Nat) (g1:Int -> Int -> (List l9) -> EG -> Bool -> Bool -> Bool -> (List kg) -> (List Int) -> (List Bool) -> (List jy) -> (List Int) -> (List Bool) -> AZ -> ng -> (List Int) -> Int -> Int -> Option yw) (a b:Int) (c:List l9) (e:List (PN Int 5)) (f h i:Bool) (l:List kg) (m:List Int) (n:List Bool) (o:List jy) (p:List Int) (s:List Bool) (t:List (PN Int 6)) (u:mh) (v:List Int) (w y:Int):Option yw :=
 (bif decide (y<w) then
  ix v y <|
  ix o (rd v y 0) <|
  (bif decide (y<(u.length:Int)) then
   ix u y <|
   (bif !(fC DN (rd o (rd v y 0) (0,(0,0),(0,0),([],[]),(0,[]),0)).2.2.1 (rd u y (0,0))) then
    ix u y <|
    (S82 k ((m,n),o) (rd v y 0) ((rd o (rd v y 0) (0,(0,0),(0,0),([],[]),(0,[]),0)).1,(rd o (rd v y 0) (0,(0,0),(0,0),([],[]),(0,[]),0)).2.1,rd u y (0,0),(rd o (rd v y 0) (0,(0,0),(0,0),([],[]),(0,[]),0)).2.2.2)).bind fun q1 =>
    g1 a b c e f h i l q1.1.1.1.1 q1.1.1.1.2 q1.1.1.2 p s t u v w (IntKind.i64.wrap (y+1))
   else
    g1 a b c e f h i l m n o p s t u v w (IntKind.i64.wrap (y+1)))
  else
   g1 a b c e f h i l m n o p s t u v w (IntKind.i64.wrap (y+1)))
 else
  some ((),(a,b,c,e,f,h,i,l,m,n,o,p,s,t,()),()))
def afj (k:Nat):Xx (((Y2×Unit)×Unit×ng×(List Int)×Int×Int×Unit) -> Option yw):=dh (bq (bq (ay (ay (ay (ay (ay (ay (ay (ay (ay (ay (ay (ay (ay (ay bg)))))))))))))) bg) (bf (ay (ay (ay (ay bg)))))) (Y7 k)
def Y8 (k a:Nat) (b c:Int) (e:List l9) (f:List (PN Int 5)) (h i l:Bool) (m:List kg) (n:List Int) (o:List Bool) (p:List jy) (s:List Int) (t:List Bool) (u:List (PN Int 6)) (v:mh) (w:List Int) (y z:Int):Option yw:=iter aaF (afj k) a (((b,c,e,f,h,i,l,m,n,o,p,s,t,u,()),()),(),v,w,y,z,())
theorem afk (k a b c e f h i l m n o p s t u v w y z):Y8 k (a+1) b c e f h i l m n o p s t u v w y z=Y7 k (Y8 k a) b c e f h i l m n o p s t u v w y z:=Ba _ _ _ _
def acQ (k:Nat) (a b:Int) (c:List l9) (e:List (PN Int 5)) (f h i:Bool) (l:List kg) (m:List Int) (n:List Bool) (o:List jy) (p:List Int) (s:List Bool) (t:List (PN Int 6)) (u:mh):Option yw :=
 (S73 k ((m,n),o)).bind fun q0 =>
 Y8 k k a b c e f h i l m n o p s t u q0.1.1 (q0.1.1.length:Int) 0
def F39b:Fn:=⟨[acM,TT],[],fun k ((a,b,c,e,f,h,i,l,m,n,o,p,s,t,_),u,_)=>acQ k a b c e f h i l m n o p s t u⟩
theorem ok39b:O 39 F39b:=okF (ah ok73 <| ah ok82 aj) [] (fun k=>(.loop 1 aaF (afj k) (fun g=>.nil) .nil)) Tryz.func39 rfl
def aiG (k:Nat) (t i1:Int) (l1:List l9) (m1:List (PN Int 5)) (n1 o1 p1:Bool) (s1:List kg) (t1:List Int) (u1:List Bool) (v1:List jy) (w1:List Int) (y1:List Bool) (z1:List (PN Int 6)) (a2 b2 c2 e2 f2 h2 i2 l2 m2 n2 o2 p2 s2:Int) (t2:List ow) (u2:Bool) (v2 w2 y2 z2 a3 b3 c3 e3 f3:Int) (h3:List ow) (i3:Bool) (l3:List Int) (m3:Bool):Option Wn :=
 ix l1 a2 <|
 (S30 k (t,i1,l1,m1,n1,o1,p1,s1,((t1,u1),v1),w1,y1)).bind fun q0 =>
 (afi k (rd l1 a2 (0,0,0,[],[],[])) (a2,b2,c2,e2,(f2,(h2,i2,l2,m2,n2,o2,p2,s2),t2,u2),(v2,(w2,y2,z2,a3,b3,c3,e3,f3),h3,i3),l3,m3) q0.1.1).bind fun (((a,b,c,e,(f,(h,i,l,m,n,o,p,s),u,v),(w,(y,z,A,B,C,D,G,H),I,J),K,M),N,O,_),_) =>
 (acQ k t i1 l1 m1 n1 o1 p1 s1 t1 u1 v1 w1 y1 z1 N).bind fun (_,(P,Q,T,U,V,W,X,Z,a1,b1,c1,e1,f1,h1,_),_) =>
 (FY k P Q T U V W X Z a1 b1 c1 e1 f1 h1 (0,O,a,0,0,0)).bind fun q3 =>
 some ((O==13,()),q3.2.1,(a,b,c,e,f,h,i,l,m,n,o,p,s,u,v,w,y,z,A,B,C,D,G,H,I,J,K,M,()),())
def F106:Fn:=⟨[acM,aot],[rB],fun k ((a,b,c,e,f,h,i,l,m,n,o,p,s,t,_),(u,v,w,y,z,A,B,C,D,G,H,I,J,K,M,N,O,P,Q,T,U,V,W,X,Z,a1,b1,c1,_),_)=>aiG k a b c e f h i l m n o p s t u v w y z A B C D G H I J K M N O P Q T U V W X Z a1 b1 c1⟩
theorem ok106:O 106 F106:=okF (ah ok30 <| ah ok39b <| ah ok100a <| ah ok165 aj) [] On Tryz.func106 rfl
def aiH (k:Nat) (a:aar) (b:H9):Option (((List l8)×Unit)×Unit) :=
 (S80 k (Tx (.int .i64) (.sl 87 AY) b.2.2.2.1 (vM (.int .i64) (.sl 87 AY) 2 a.2.2.2.2.2 (vM (.int .i64) (.sl 87 AY) 1 a.2.2.2.2.1 (vM (.int .i64) (.sl 87 AY) 0 a.2.2.2.1 ([]:List (Int×List l8))))) [])).bind fun q0 =>
 some ((q0.1.1,()),())
def F209:Fn:=⟨[aaw,HY],[al3],fun k x=>aiH k x.1 x.2.1⟩
theorem ok209:O 209 F209:=okF (ah ok80 aj) [] On Tryz.func209 rfl
def Y9 (k:Nat) (a:Int×(PN Int 8)×C8×Bool):Option KE :=
 (XO k a.2.2.1).bind fun q0 =>
 some (((a.1,a.2.1,q0.1.1,a.2.2.2),()),())
def F229:Fn:=⟨[ae0],[Wq],fun k x=>Y9 k x.1⟩
theorem ok229:O 229 F229:=okF (ah ok138 aj) [] On Tryz.func229 rfl
def JD (k:Nat) (a:Int):Option ((Bool×Unit)×Unit) :=
 (bif decide (a≥0) then
  some ((decide (a<8),()),())
 else
  some ((false,()),()))
def F234:Fn:=⟨[au],[rB],fun k x=>JD k x.1⟩
theorem ok234:O 234 F234:=okF aj [] On Tryz.func234 rfl
def MR (k:Nat) (a b c:Int):Option ((Bool×Unit)×Unit) :=
 (bif decide (a≥b) then
  some ((decide (a <= c),()),())
 else
  some ((false,()),()))
def F235:Fn:=⟨[au,au,au],[rB],fun k (a,b,c,_)=>MR k a b c⟩
theorem ok235:O 235 F235:=okF aj [] On Tryz.func235 rfl
def aiI (k:Nat) (a:Int×Int×Int×Int):Option ((Bool×Unit)×Unit) :=
 (bif a.1==0 then
  (bif a.2.1==0 then
   (bif a.2.2.1==0 then
    some ((a.2.2.2==0,()),())
   else
    some ((false,()),()))
  else
   some ((false,()),()))
 else
  (bif a.1==11 then
   (bif a.2.1==0 then
    (bif a.2.2.1==0 then
     some ((a.2.2.2==0,()),())
    else
     some ((false,()),()))
   else
    some ((false,()),()))
  else
   (bif a.1==1 then
    (JD k a.2.1).bind fun q0 =>
    (bif q0.1.1 then
     (bif a.2.2.1==0 then
      (MR k a.2.2.2 (-2147483648) 2147483647).bind fun q1 =>
      some ((q1.1.1,()),())
     else
      some ((false,()),()))
    else
     some ((false,()),()))
   else
    (bif a.1==2 then
     (JD k a.2.1).bind fun q2 =>
     (bif q2.1.1 then
      (JD k a.2.2.1).bind fun q3 =>
      (bif q3.1.1 then
       some ((a.2.2.2==0,()),())
      else
       some ((false,()),()))
     else
      some ((false,()),()))
    else
     (bif a.1==3 then
      (JD k a.2.1).bind fun q4 =>
      (bif q4.1.1 then
       (JD k a.2.2.1).bind fun q5 =>
       (bif q5.1.1 then
        some ((a.2.2.2==0,()),())
       else
        some ((false,()),()))
      else
       some ((false,()),()))
     else
      (bif a.1==4 then
       (JD k a.2.1).bind fun q6 =>
       (bif q6.1.1 then
        (JD k a.2.2.1).bind fun q7 =>
        (bif q7.1.1 then
         some ((a.2.2.2==0,()),())
        else
         some ((false,()),()))
       else
        some ((false,()),()))
      else
       (bif a.1==5 then
        (JD k a.2.1).bind fun q8 =>
        (bif q8.1.1 then
         (bif a.2.2.1==0 then
          (MR k a.2.2.2 (-63) 63).bind fun q9 =>
          some ((q9.1.1,()),())
         else
          some ((false,()),()))
        else
         some ((false,()),()))
       else
        (bif a.1==6 then
         (JD k a.2.1).bind fun Q0 =>
         (bif Q0.1.1 then
          (bif a.2.2.1==0 then
           (MR k a.2.2.2 1 64).bind fun MS =>
           some ((MS.1.1,()),())
          else
           some ((false,()),()))
         else
          some ((false,()),()))
        else
         (bif a.1==7 then
          (JD k a.2.1).bind fun q12 =>
          (bif q12.1.1 then
           (bif a.2.2.1==0 then
            (MR k a.2.2.2 1 24).bind fun ug =>
            some ((ug.1.1,()),())
           else
            some ((false,()),()))
          else
           some ((false,()),()))
         else
          (bif a.1==8 then
           (bif a.2.1==0 then
            (MR k a.2.2.1 1 24).bind fun q14 =>
            (bif q14.1.1 then
             (MR k a.2.2.2 1 20).bind fun q15 =>
             some ((q15.1.1,()),())
            else
             some ((false,()),()))
           else
            some ((false,()),()))
          else
           (bif a.1==9 then
            (MR k a.2.1 0 3).bind fun q16 =>
            (bif q16.1.1 then
             (bif a.2.2.1==0 then
              some ((a.2.2.2==0,()),())
             else
              some ((false,()),()))
            else
             some ((false,()),()))
           else
            (bif a.1==10 then
             (MR k a.2.1 0 3).bind fun q17 =>
             (bif q17.1.1 then
              (bif a.2.2.1==0 then
               some ((a.2.2.2==0,()),())
              else
               some ((false,()),()))
             else
              some ((false,()),()))
            else
             some ((false,()),())))))))))))))
def F228:Fn:=⟨[.val ⟨true,AY,false⟩],[rB],fun k x=>aiI k x.1⟩
theorem ok228:O 228 F228:=okF (ah ok234 <| ah ok235 aj) [] On Tryz.func228 rfl
def aiJ (k:Nat) (a b:Int):Option l6 :=
 (bif decide (b <= (-64)) then
  some ((a,()),())
 else
  (bif decide (b≥64) then
   some ((a,()),())
  else
   (bif decide (b<0) then
    Tk (IntKind.i64.wrap (0 - b)) <|
    some ((Tn .i64 a (IntKind.i64.wrap (0 - b)),()),())
   else
    Tk b <|
    some ((IntKind.i64.wrap (Tm .u64 (IntKind.u64.wrap a) b),()),()))))
def F230:Fn:=⟨[au,au],[rI],fun k x=>aiJ k x.1 x.2.1⟩
theorem ok230:O 230 F230:=okF aj [] On Tryz.func230 rfl
def aiK (k:Nat) (a b:Int):Option l6 :=
 (bif decide (b<1) then
  some ((a,()),())
 else
  (bif decide (b>64) then
   some ((a,()),())
  else
   Tk (IntKind.i64.wrap (64 - b)) <|
   Tk (IntKind.i64.wrap (64 - b)) <|
   some ((Tn .i64 (Tm .i64 a (IntKind.i64.wrap (64 - b))) (IntKind.i64.wrap (64 - b)),()),())))
def F231:Fn:=⟨[au,au],[rI],fun k x=>aiK k x.1 x.2.1⟩
theorem ok231:O 231 F231:=okF aj [] On Tryz.func231 rfl
abbrev aaG:Cut:=⟨[1,2,3],[.box 92 [cI,cI,cI,cI,cI,cI,cI,cI,cI,.own 233 uw,.cell .bool],.box 92 [cI,cI,cI,cI,cI,cI,cI,cI,cI,.nil,.cell .bool],cI],[],55,[]⟩
def TW (k:Nat) (g2:Int -> Int -> Int -> Int -> Int -> Int -> Int -> Int -> Int -> C8 -> Bool -> Int -> Int -> Int -> Int -> Int -> Int -> Int -> Int -> Int -> Bool -> Int -> Option KE) (a b c e f h i l m:Int) (n:List ow) (o:Bool) (p s t u v w y z A:Int) (B:Bool) (C:Int):Option KE :=
 (bif decide (C>0) then
  ix n (IntKind.i64.wrap (C - 1)) <|
  (bif decide ((rd n (IntKind.i64.wrap (C - 1)) (0,0,0)).2.1<a) then
   ix n (IntKind.i64.wrap (C - 1)) <|
   (bif decide ((rd n (IntKind.i64.wrap (C - 1)) (0,0,0)).2.2>0) then
    some ((((rd n (IntKind.i64.wrap (C - 1)) (0,0,0)).1,(b,c,e,f,h,i,l,m),upd n (IntKind.i64.wrap (C - 1)) ((rd n (IntKind.i64.wrap (C - 1)) (0,0,0)).1,(rd n (IntKind.i64.wrap (C - 1)) (0,0,0)).2.1,IntKind.i64.wrap ((rd n (IntKind.i64.wrap (C - 1)) (0,0,0)).2.2 - 1)),o),()),())
   else
    sx n 0 (IntKind.i64.wrap (C - 1)) <|
    g2 a b c e f h i l m (n.take (IntKind.i64.wrap (C - 1)).toNat) o p s t u v w y z A B ((n.take (IntKind.i64.wrap (C - 1)).toNat).length:Int))
  else
   some (((a,(b,c,e,f,h,i,l,m),n,o),()),()))
 else
  some (((a,(b,c,e,f,h,i,l,m),n,o),()),()))
def afm (k:Nat):Xx (((Unit)×(Int×Int×Int×Int×Int×Int×Int×Int×Int×C8×Bool×Unit)×(Int×Int×Int×Int×Int×Int×Int×Int×Int×Unit×Bool×Unit)×Int×Unit) -> Option KE):=dh (bf (bq (ay (ay (ay (ay (ay (ay (ay (ay (ay (ay (ay bg))))))))))) (bq (ay (ay (ay (ay (ay (ay (ay (ay (ay (bf (ay bg))))))))))) (ay bg)))) (TW k)
def TY (k a:Nat) (b c e f h i l m n:Int) (o:List ow) (p:Bool) (s t u v w y z A B:Int) (C:Bool) (D:Int):Option KE:=iter aaG (afm k) a ((),(b,c,e,f,h,i,l,m,n,o,p,()),(s,t,u,v,w,y,z,A,B,(),C,()),D,())
theorem Wx (k a b c e f h i l m n o p s t u v w y z A B C D):TY k (a+1) b c e f h i l m n o p s t u v w y z A B C D=TW k (TY k a) b c e f h i l m n o p s t u v w y z A B C D:=Ba _ _ _ _
def I5 (k:Nat) (a b c e f h i l m:Int) (n:List ow) (o:Bool):Option KE :=
 TY k k a b c e f h i l m n o 0 0 0 0 0 0 0 0 0 false (n.length:Int)
def F232:Fn:=⟨[.gv (.agg [cI,cI,cI,cI,cI,cI,cI,cI,cI,.own 233 uw,.cell .bool])],[Wq],fun k ((a,b,c,e,f,h,i,l,m,n,o,_),_)=>I5 k a b c e f h i l m n o⟩
theorem ok232:O 232 F232:=okF aj [(52,1)] (fun k=>(.loop 2 aaG (afm k) (fun g=>.nil) .nil)) Tryz.func232 rfl
def afn (k:Nat) (a:List l8) (b:Int×(PN Int 8)×C8×Bool):Option ((aan×l8×Bool×Unit)×Unit) :=
 (bif b.2.2.2 then
  (Y9 k b).bind fun q0 =>
  some ((q0.1.1,(0,0,0,0),false,()),())
 else
  (bif decide (b.1<0) then
   (Y9 k b).bind fun q1 =>
   some ((q1.1.1,(0,0,0,0),false,()),())
  else
   (bif decide (b.1≥(a.length:Int)) then
    (Y9 k b).bind fun q2 =>
    some ((q2.1.1,(0,0,0,0),false,()),())
   else
    ix a b.1 <|
    (aiI k (rd a b.1 (0,0,0,0))).bind fun q3 =>
    (bif !q3.1.1 then
     (Y9 k b).bind fun q4 =>
     some ((q4.1.1,(0,0,0,0),false,()),())
    else
     (Y9 k b).bind fun q5 =>
     ix a q5.1.1.1 <|
     ax 8 (rd a q5.1.1.1 (0,0,0,0)).2.1 <|
     ax 8 (Int.tmod (rd a q5.1.1.1 (0,0,0,0)).2.2.1 8) <|
     (bif (rd a q5.1.1.1 (0,0,0,0)).1==0 then
      (I5 k q5.1.1.1 q5.1.1.2.1.1 q5.1.1.2.1.2.1 q5.1.1.2.1.2.2.1 q5.1.1.2.1.2.2.2.1 q5.1.1.2.1.2.2.2.2.1 q5.1.1.2.1.2.2.2.2.2.1 q5.1.1.2.1.2.2.2.2.2.2.1 q5.1.1.2.1.2.2.2.2.2.2.2 q5.1.1.2.2.1 true).bind fun q6 =>
      some ((q6.1.1,rd a q5.1.1.1 (0,0,0,0),true,()),())
     else
      (bif (rd a q5.1.1.1 (0,0,0,0)).1==1 then
       (I5 k (IntKind.i64.wrap (q5.1.1.1+1)) (Tw (α:=Int) 8 q5.1.1.2.1 (rd a q5.1.1.1 (0,0,0,0)).2.1 (rd a q5.1.1.1 (0,0,0,0)).2.2.2).1 (Tw (α:=Int) 8 q5.1.1.2.1 (rd a q5.1.1.1 (0,0,0,0)).2.1 (rd a q5.1.1.1 (0,0,0,0)).2.2.2).2.1 (Tw (α:=Int) 8 q5.1.1.2.1 (rd a q5.1.1.1 (0,0,0,0)).2.1 (rd a q5.1.1.1 (0,0,0,0)).2.2.2).2.2.1 (Tw (α:=Int) 8 q5.1.1.2.1 (rd a q5.1.1.1 (0,0,0,0)).2.1 (rd a q5.1.1.1 (0,0,0,0)).2.2.2).2.2.2.1 (Tw (α:=Int) 8 q5.1.1.2.1 (rd a q5.1.1.1 (0,0,0,0)).2.1 (rd a q5.1.1.1 (0,0,0,0)).2.2.2).2.2.2.2.1 (Tw (α:=Int) 8 q5.1.1.2.1 (rd a q5.1.1.1 (0,0,0,0)).2.1 (rd a q5.1.1.1 (0,0,0,0)).2.2.2).2.2.2.2.2.1 (Tw (α:=Int) 8 q5.1.1.2.1 (rd a q5.1.1.1 (0,0,0,0)).2.1 (rd a q5.1.1.1 (0,0,0,0)).2.2.2).2.2.2.2.2.2.1 (Tw (α:=Int) 8 q5.1.1.2.1 (rd a q5.1.1.1 (0,0,0,0)).2.1 (rd a q5.1.1.1 (0,0,0,0)).2.2.2).2.2.2.2.2.2.2 q5.1.1.2.2.1 q5.1.1.2.2.2).bind fun q7 =>
       some ((q7.1.1,rd a q5.1.1.1 (0,0,0,0),true,()),())
      else
       (bif (rd a q5.1.1.1 (0,0,0,0)).1==2 then
        (I5 k (IntKind.i64.wrap (q5.1.1.1+1)) (Tw (α:=Int) 8 q5.1.1.2.1 (rd a q5.1.1.1 (0,0,0,0)).2.1 (IntKind.i64.wrap (IntKind.u64.wrap ((IntKind.u64.wrap (Tv (α:=Int) 8 q5.1.1.2.1 (rd a q5.1.1.1 (0,0,0,0)).2.1 0))+(IntKind.u64.wrap (Tv (α:=Int) 8 q5.1.1.2.1 (Int.tmod (rd a q5.1.1.1 (0,0,0,0)).2.2.1 8) 0)))))).1 (Tw (α:=Int) 8 q5.1.1.2.1 (rd a q5.1.1.1 (0,0,0,0)).2.1 (IntKind.i64.wrap (IntKind.u64.wrap ((IntKind.u64.wrap (Tv (α:=Int) 8 q5.1.1.2.1 (rd a q5.1.1.1 (0,0,0,0)).2.1 0))+(IntKind.u64.wrap (Tv (α:=Int) 8 q5.1.1.2.1 (Int.tmod (rd a q5.1.1.1 (0,0,0,0)).2.2.1 8) 0)))))).2.1 (Tw (α:=Int) 8 q5.1.1.2.1 (rd a q5.1.1.1 (0,0,0,0)).2.1 (IntKind.i64.wrap (IntKind.u64.wrap ((IntKind.u64.wrap (Tv (α:=Int) 8 q5.1.1.2.1 (rd a q5.1.1.1 (0,0,0,0)).2.1 0))+(IntKind.u64.wrap (Tv (α:=Int) 8 q5.1.1.2.1 (Int.tmod (rd a q5.1.1.1 (0,0,0,0)).2.2.1 8) 0)))))).2.2.1 (Tw (α:=Int) 8 q5.1.1.2.1 (rd a q5.1.1.1 (0,0,0,0)).2.1 (IntKind.i64.wrap (IntKind.u64.wrap ((IntKind.u64.wrap (Tv (α:=Int) 8 q5.1.1.2.1 (rd a q5.1.1.1 (0,0,0,0)).2.1 0))+(IntKind.u64.wrap (Tv (α:=Int) 8 q5.1.1.2.1 (Int.tmod (rd a q5.1.1.1 (0,0,0,0)).2.2.1 8) 0)))))).2.2.2.1 (Tw (α:=Int) 8 q5.1.1.2.1 (rd a q5.1.1.1 (0,0,0,0)).2.1 (IntKind.i64.wrap (IntKind.u64.wrap ((IntKind.u64.wrap (Tv (α:=Int) 8 q5.1.1.2.1 (rd a q5.1.1.1 (0,0,0,0)).2.1 0))+(IntKind.u64.wrap (Tv (α:=Int) 8 q5.1.1.2.1 (Int.tmod (rd a q5.1.1.1 (0,0,0,0)).2.2.1 8) 0)))))).2.2.2.2.1 (Tw (α:=Int) 8 q5.1.1.2.1 (rd a q5.1.1.1 (0,0,0,0)).2.1 (IntKind.i64.wrap (IntKind.u64.wrap ((IntKind.u64.wrap (Tv (α:=Int) 8 q5.1.1.2.1 (rd a q5.1.1.1 (0,0,0,0)).2.1 0))+(IntKind.u64.wrap (Tv (α:=Int) 8 q5.1.1.2.1 (Int.tmod (rd a q5.1.1.1 (0,0,0,0)).2.2.1 8) 0)))))).2.2.2.2.2.1 (Tw (α:=Int) 8 q5.1.1.2.1 (rd a q5.1.1.1 (0,0,0,0)).2.1 (IntKind.i64.wrap (IntKind.u64.wrap ((IntKind.u64.wrap (Tv (α:=Int) 8 q5.1.1.2.1 (rd a q5.1.1.1 (0,0,0,0)).2.1 0))+(IntKind.u64.wrap (Tv (α:=Int) 8 q5.1.1.2.1 (Int.tmod (rd a q5.1.1.1 (0,0,0,0)).2.2.1 8) 0)))))).2.2.2.2.2.2.1 (Tw (α:=Int) 8 q5.1.1.2.1 (rd a q5.1.1.1 (0,0,0,0)).2.1 (IntKind.i64.wrap (IntKind.u64.wrap ((IntKind.u64.wrap (Tv (α:=Int) 8 q5.1.1.2.1 (rd a q5.1.1.1 (0,0,0,0)).2.1 0))+(IntKind.u64.wrap (Tv (α:=Int) 8 q5.1.1.2.1 (Int.tmod (rd a q5.1.1.1 (0,0,0,0)).2.2.1 8) 0)))))).2.2.2.2.2.2.2 q5.1.1.2.2.1 q5.1.1.2.2.2).bind fun q8 =>
        some ((q8.1.1,rd a q5.1.1.1 (0,0,0,0),true,()),())
       else
        (bif (rd a q5.1.1.1 (0,0,0,0)).1==3 then
         (I5 k (IntKind.i64.wrap (q5.1.1.1+1)) (Tw (α:=Int) 8 q5.1.1.2.1 (rd a q5.1.1.1 (0,0,0,0)).2.1 (IntKind.i64.wrap (IntKind.u64.wrap ((IntKind.u64.wrap (Tv (α:=Int) 8 q5.1.1.2.1 (rd a q5.1.1.1 (0,0,0,0)).2.1 0)) - (IntKind.u64.wrap (Tv (α:=Int) 8 q5.1.1.2.1 (Int.tmod (rd a q5.1.1.1 (0,0,0,0)).2.2.1 8) 0)))))).1 (Tw (α:=Int) 8 q5.1.1.2.1 (rd a q5.1.1.1 (0,0,0,0)).2.1 (IntKind.i64.wrap (IntKind.u64.wrap ((IntKind.u64.wrap (Tv (α:=Int) 8 q5.1.1.2.1 (rd a q5.1.1.1 (0,0,0,0)).2.1 0)) - (IntKind.u64.wrap (Tv (α:=Int) 8 q5.1.1.2.1 (Int.tmod (rd a q5.1.1.1 (0,0,0,0)).2.2.1 8) 0)))))).2.1 (Tw (α:=Int) 8 q5.1.1.2.1 (rd a q5.1.1.1 (0,0,0,0)).2.1 (IntKind.i64.wrap (IntKind.u64.wrap ((IntKind.u64.wrap (Tv (α:=Int) 8 q5.1.1.2.1 (rd a q5.1.1.1 (0,0,0,0)).2.1 0)) - (IntKind.u64.wrap (Tv (α:=Int) 8 q5.1.1.2.1 (Int.tmod (rd a q5.1.1.1 (0,0,0,0)).2.2.1 8) 0)))))).2.2.1 (Tw (α:=Int) 8 q5.1.1.2.1 (rd a q5.1.1.1 (0,0,0,0)).2.1 (IntKind.i64.wrap (IntKind.u64.wrap ((IntKind.u64.wrap (Tv (α:=Int) 8 q5.1.1.2.1 (rd a q5.1.1.1 (0,0,0,0)).2.1 0)) - (IntKind.u64.wrap (Tv (α:=Int) 8 q5.1.1.2.1 (Int.tmod (rd a q5.1.1.1 (0,0,0,0)).2.2.1 8) 0)))))).2.2.2.1 (Tw (α:=Int) 8 q5.1.1.2.1 (rd a q5.1.1.1 (0,0,0,0)).2.1 (IntKind.i64.wrap (IntKind.u64.wrap ((IntKind.u64.wrap (Tv (α:=Int) 8 q5.1.1.2.1 (rd a q5.1.1.1 (0,0,0,0)).2.1 0)) - (IntKind.u64.wrap (Tv (α:=Int) 8 q5.1.1.2.1 (Int.tmod (rd a q5.1.1.1 (0,0,0,0)).2.2.1 8) 0)))))).2.2.2.2.1 (Tw (α:=Int) 8 q5.1.1.2.1 (rd a q5.1.1.1 (0,0,0,0)).2.1 (IntKind.i64.wrap (IntKind.u64.wrap ((IntKind.u64.wrap (Tv (α:=Int) 8 q5.1.1.2.1 (rd a q5.1.1.1 (0,0,0,0)).2.1 0)) - (IntKind.u64.wrap (Tv (α:=Int) 8 q5.1.1.2.1 (Int.tmod (rd a q5.1.1.1 (0,0,0,0)).2.2.1 8) 0)))))).2.2.2.2.2.1 (Tw (α:=Int) 8 q5.1.1.2.1 (rd a q5.1.1.1 (0,0,0,0)).2.1 (IntKind.i64.wrap (IntKind.u64.wrap ((IntKind.u64.wrap (Tv (α:=Int) 8 q5.1.1.2.1 (rd a q5.1.1.1 (0,0,0,0)).2.1 0)) - (IntKind.u64.wrap (Tv (α:=Int) 8 q5.1.1.2.1 (Int.tmod (rd a q5.1.1.1 (0,0,0,0)).2.2.1 8) 0)))))).2.2.2.2.2.2.1 (Tw (α:=Int) 8 q5.1.1.2.1 (rd a q5.1.1.1 (0,0,0,0)).2.1 (IntKind.i64.wrap (IntKind.u64.wrap ((IntKind.u64.wrap (Tv (α:=Int) 8 q5.1.1.2.1 (rd a q5.1.1.1 (0,0,0,0)).2.1 0)) - (IntKind.u64.wrap (Tv (α:=Int) 8 q5.1.1.2.1 (Int.tmod (rd a q5.1.1.1 (0,0,0,0)).2.2.1 8) 0)))))).2.2.2.2.2.2.2 q5.1.1.2.2.1 q5.1.1.2.2.2).bind fun q9 =>
         some ((q9.1.1,rd a q5.1.1.1 (0,0,0,0),true,()),())
        else
         (bif (rd a q5.1.1.1 (0,0,0,0)).1==4 then
          (I5 k (IntKind.i64.wrap (q5.1.1.1+1)) (Tw (α:=Int) 8 q5.1.1.2.1 (rd a q5.1.1.1 (0,0,0,0)).2.1 (IntKind.i64.wrap (IntKind.u64.wrap ((IntKind.u64.wrap (Tv (α:=Int) 8 q5.1.1.2.1 (rd a q5.1.1.1 (0,0,0,0)).2.1 0)) * (IntKind.u64.wrap (Tv (α:=Int) 8 q5.1.1.2.1 (Int.tmod (rd a q5.1.1.1 (0,0,0,0)).2.2.1 8) 0)))))).1 (Tw (α:=Int) 8 q5.1.1.2.1 (rd a q5.1.1.1 (0,0,0,0)).2.1 (IntKind.i64.wrap (IntKind.u64.wrap ((IntKind.u64.wrap (Tv (α:=Int) 8 q5.1.1.2.1 (rd a q5.1.1.1 (0,0,0,0)).2.1 0)) * (IntKind.u64.wrap (Tv (α:=Int) 8 q5.1.1.2.1 (Int.tmod (rd a q5.1.1.1 (0,0,0,0)).2.2.1 8) 0)))))).2.1 (Tw (α:=Int) 8 q5.1.1.2.1 (rd a q5.1.1.1 (0,0,0,0)).2.1 (IntKind.i64.wrap (IntKind.u64.wrap ((IntKind.u64.wrap (Tv (α:=Int) 8 q5.1.1.2.1 (rd a q5.1.1.1 (0,0,0,0)).2.1 0)) * (IntKind.u64.wrap (Tv (α:=Int) 8 q5.1.1.2.1 (Int.tmod (rd a q5.1.1.1 (0,0,0,0)).2.2.1 8) 0)))))).2.2.1 (Tw (α:=Int) 8 q5.1.1.2.1 (rd a q5.1.1.1 (0,0,0,0)).2.1 (IntKind.i64.wrap (IntKind.u64.wrap ((IntKind.u64.wrap (Tv (α:=Int) 8 q5.1.1.2.1 (rd a q5.1.1.1 (0,0,0,0)).2.1 0)) * (IntKind.u64.wrap (Tv (α:=Int) 8 q5.1.1.2.1 (Int.tmod (rd a q5.1.1.1 (0,0,0,0)).2.2.1 8) 0)))))).2.2.2.1 (Tw (α:=Int) 8 q5.1.1.2.1 (rd a q5.1.1.1 (0,0,0,0)).2.1 (IntKind.i64.wrap (IntKind.u64.wrap ((IntKind.u64.wrap (Tv (α:=Int) 8 q5.1.1.2.1 (rd a q5.1.1.1 (0,0,0,0)).2.1 0)) * (IntKind.u64.wrap (Tv (α:=Int) 8 q5.1.1.2.1 (Int.tmod (rd a q5.1.1.1 (0,0,0,0)).2.2.1 8) 0)))))).2.2.2.2.1 (Tw (α:=Int) 8 q5.1.1.2.1 (rd a q5.1.1.1 (0,0,0,0)).2.1 (IntKind.i64.wrap (IntKind.u64.wrap ((IntKind.u64.wrap (Tv (α:=Int) 8 q5.1.1.2.1 (rd a q5.1.1.1 (0,0,0,0)).2.1 0)) * (IntKind.u64.wrap (Tv (α:=Int) 8 q5.1.1.2.1 (Int.tmod (rd a q5.1.1.1 (0,0,0,0)).2.2.1 8) 0)))))).2.2.2.2.2.1 (Tw (α:=Int) 8 q5.1.1.2.1 (rd a q5.1.1.1 (0,0,0,0)).2.1 (IntKind.i64.wrap (IntKind.u64.wrap ((IntKind.u64.wrap (Tv (α:=Int) 8 q5.1.1.2.1 (rd a q5.1.1.1 (0,0,0,0)).2.1 0)) * (IntKind.u64.wrap (Tv (α:=Int) 8 q5.1.1.2.1 (Int.tmod (rd a q5.1.1.1 (0,0,0,0)).2.2.1 8) 0)))))).2.2.2.2.2.2.1 (Tw (α:=Int) 8 q5.1.1.2.1 (rd a q5.1.1.1 (0,0,0,0)).2.1 (IntKind.i64.wrap (IntKind.u64.wrap ((IntKind.u64.wrap (Tv (α:=Int) 8 q5.1.1.2.1 (rd a q5.1.1.1 (0,0,0,0)).2.1 0)) * (IntKind.u64.wrap (Tv (α:=Int) 8 q5.1.1.2.1 (Int.tmod (rd a q5.1.1.1 (0,0,0,0)).2.2.1 8) 0)))))).2.2.2.2.2.2.2 q5.1.1.2.2.1 q5.1.1.2.2.2).bind fun Q0 =>
          some ((Q0.1.1,rd a q5.1.1.1 (0,0,0,0),true,()),())
         else
          (bif (rd a q5.1.1.1 (0,0,0,0)).1==5 then
           (aiJ k (Tv (α:=Int) 8 q5.1.1.2.1 (rd a q5.1.1.1 (0,0,0,0)).2.1 0) (rd a q5.1.1.1 (0,0,0,0)).2.2.2).bind fun MS =>
           (I5 k (IntKind.i64.wrap (q5.1.1.1+1)) (Tw (α:=Int) 8 q5.1.1.2.1 (rd a q5.1.1.1 (0,0,0,0)).2.1 MS.1.1).1 (Tw (α:=Int) 8 q5.1.1.2.1 (rd a q5.1.1.1 (0,0,0,0)).2.1 MS.1.1).2.1 (Tw (α:=Int) 8 q5.1.1.2.1 (rd a q5.1.1.1 (0,0,0,0)).2.1 MS.1.1).2.2.1 (Tw (α:=Int) 8 q5.1.1.2.1 (rd a q5.1.1.1 (0,0,0,0)).2.1 MS.1.1).2.2.2.1 (Tw (α:=Int) 8 q5.1.1.2.1 (rd a q5.1.1.1 (0,0,0,0)).2.1 MS.1.1).2.2.2.2.1 (Tw (α:=Int) 8 q5.1.1.2.1 (rd a q5.1.1.1 (0,0,0,0)).2.1 MS.1.1).2.2.2.2.2.1 (Tw (α:=Int) 8 q5.1.1.2.1 (rd a q5.1.1.1 (0,0,0,0)).2.1 MS.1.1).2.2.2.2.2.2.1 (Tw (α:=Int) 8 q5.1.1.2.1 (rd a q5.1.1.1 (0,0,0,0)).2.1 MS.1.1).2.2.2.2.2.2.2 q5.1.1.2.2.1 q5.1.1.2.2.2).bind fun q12 =>
           some ((q12.1.1,rd a q5.1.1.1 (0,0,0,0),true,()),())
          else
           (bif (rd a q5.1.1.1 (0,0,0,0)).1==6 then
            (aiK k (Tv (α:=Int) 8 q5.1.1.2.1 (rd a q5.1.1.1 (0,0,0,0)).2.1 0) (rd a q5.1.1.1 (0,0,0,0)).2.2.2).bind fun ug =>
            (I5 k (IntKind.i64.wrap (q5.1.1.1+1)) (Tw (α:=Int) 8 q5.1.1.2.1 (rd a q5.1.1.1 (0,0,0,0)).2.1 ug.1.1).1 (Tw (α:=Int) 8 q5.1.1.2.1 (rd a q5.1.1.1 (0,0,0,0)).2.1 ug.1.1).2.1 (Tw (α:=Int) 8 q5.1.1.2.1 (rd a q5.1.1.1 (0,0,0,0)).2.1 ug.1.1).2.2.1 (Tw (α:=Int) 8 q5.1.1.2.1 (rd a q5.1.1.1 (0,0,0,0)).2.1 ug.1.1).2.2.2.1 (Tw (α:=Int) 8 q5.1.1.2.1 (rd a q5.1.1.1 (0,0,0,0)).2.1 ug.1.1).2.2.2.2.1 (Tw (α:=Int) 8 q5.1.1.2.1 (rd a q5.1.1.1 (0,0,0,0)).2.1 ug.1.1).2.2.2.2.2.1 (Tw (α:=Int) 8 q5.1.1.2.1 (rd a q5.1.1.1 (0,0,0,0)).2.1 ug.1.1).2.2.2.2.2.2.1 (Tw (α:=Int) 8 q5.1.1.2.1 (rd a q5.1.1.1 (0,0,0,0)).2.1 ug.1.1).2.2.2.2.2.2.2 q5.1.1.2.2.1 q5.1.1.2.2.2).bind fun q14 =>
            some ((q14.1.1,rd a q5.1.1.1 (0,0,0,0),true,()),())
           else
            (bif (rd a q5.1.1.1 (0,0,0,0)).1==7 then
             (bif (Tv (α:=Int) 8 q5.1.1.2.1 (rd a q5.1.1.1 (0,0,0,0)).2.1 0)==0 then
              (I5 k (IntKind.i64.wrap ((IntKind.i64.wrap (q5.1.1.1+1))+(rd a q5.1.1.1 (0,0,0,0)).2.2.2)) q5.1.1.2.1.1 q5.1.1.2.1.2.1 q5.1.1.2.1.2.2.1 q5.1.1.2.1.2.2.2.1 q5.1.1.2.1.2.2.2.2.1 q5.1.1.2.1.2.2.2.2.2.1 q5.1.1.2.1.2.2.2.2.2.2.1 q5.1.1.2.1.2.2.2.2.2.2.2 q5.1.1.2.2.1 q5.1.1.2.2.2).bind fun q15 =>
              some ((q15.1.1,rd a q5.1.1.1 (0,0,0,0),true,()),())
             else
              (I5 k (IntKind.i64.wrap (q5.1.1.1+1)) q5.1.1.2.1.1 q5.1.1.2.1.2.1 q5.1.1.2.1.2.2.1 q5.1.1.2.1.2.2.2.1 q5.1.1.2.1.2.2.2.2.1 q5.1.1.2.1.2.2.2.2.2.1 q5.1.1.2.1.2.2.2.2.2.2.1 q5.1.1.2.1.2.2.2.2.2.2.2 q5.1.1.2.2.1 q5.1.1.2.2.2).bind fun q16 =>
              some ((q16.1.1,rd a q5.1.1.1 (0,0,0,0),true,()),()))
            else
             (bif (rd a q5.1.1.1 (0,0,0,0)).1==8 then
              ap q5.1.1.2.2.1 ([(IntKind.i64.wrap (q5.1.1.1+1),IntKind.i64.wrap (q5.1.1.1+(rd a q5.1.1.1 (0,0,0,0)).2.2.1),IntKind.i64.wrap ((rd a q5.1.1.1 (0,0,0,0)).2.2.2 - 1))]:List ow) 24 fun r17 =>
              (I5 k (IntKind.i64.wrap (q5.1.1.1+1)) q5.1.1.2.1.1 q5.1.1.2.1.2.1 q5.1.1.2.1.2.2.1 q5.1.1.2.1.2.2.2.1 q5.1.1.2.1.2.2.2.2.1 q5.1.1.2.1.2.2.2.2.2.1 q5.1.1.2.1.2.2.2.2.2.2.1 q5.1.1.2.1.2.2.2.2.2.2.2 r17 q5.1.1.2.2.2).bind fun q18 =>
              some ((q18.1.1,rd a q5.1.1.1 (0,0,0,0),true,()),())
             else
              (I5 k (IntKind.i64.wrap (q5.1.1.1+1)) q5.1.1.2.1.1 q5.1.1.2.1.2.1 q5.1.1.2.1.2.2.1 q5.1.1.2.1.2.2.2.1 q5.1.1.2.1.2.2.2.2.1 q5.1.1.2.1.2.2.2.2.2.1 q5.1.1.2.1.2.2.2.2.2.2.1 q5.1.1.2.1.2.2.2.2.2.2.2 q5.1.1.2.2.1 q5.1.1.2.2.2).bind fun q19 =>
              some ((q19.1.1,rd a q5.1.1.1 (0,0,0,0),true,()),()))))))))))))))
def F208:Fn:=⟨[.val ⟨false,(.sl 87 AY),false⟩,ae0],[Wq,ae3,rB],fun k x=>afn k x.1 x.2.1⟩
theorem ok208:O 208 F208:=okF (ah ok228 <| ah ok229 <| ah ok230 <| ah ok231 <| ah ok232 aj) [] On Tryz.func208 rfl
section
variable (w:World) {g n c i j:Nat}
theorem JE:Tryz.prog.underlying 27=some (.slice 3) /\ Tryz.prog.underlying 3=some (.int .i64) /\ Tryz.prog.underlying 4=some .bool /\ Tryz.prog.follows .mixedOrders=true /\ (∀ w,(Go.sizeOf 3).run Tryz.prog w=.ok 1 w) /\ Tryz.f211.ntmps=33:=⟨by kernel_rfl,by kernel_rfl,by kernel_rfl,by kernel_rfl,fun w=>by kernel_rfl,rfl⟩
theorem U0 {v:Value} (hv:(∃ A n c,v=.slice A n c /\ i <= n /\ n <= c /\ c <= 9223372036854775807)):Calls Tryz.prog 211 #[v,.int .i64 i,.int .i64 i] w fun e w'=>e=.returned v /\ w'=w:=by
 obtain ⟨t24,t3,t4,mixed,z36,hnt⟩:=JE
 have u24:=run_underlying t24;have u3:=run_underlying t3;have u4:=run_underlying t4
 obtain ⟨A,n,c,rfl,hi,hnc,hc63⟩:=hv
 have hi0:(i:Int) <= (n:Int):=by omega
 have hi1:(0:Int) <= (i:Int):=by omega
 cases A <;> (go_enter Tryz.func211,hnt;go_wp2 <;> (go_ret;exact ⟨rfl,rfl⟩))
theorem U1 {w' w'':World} (hlt:i<j) (hj:j <= n) (hnc:n <= c) (hc63:c <= 9223372036854775807)
  (hap:∀ ty A,(c≠j -> A=(⟨g,j * 1,none⟩:Addr)) -> (Builtin.append_ #[27,27] ty #[.slice (some ⟨g,0,none⟩) i c,.slice (some A) (n - j) (c - j)]).run Tryz.prog w.drew=.ok (.slice (some ⟨g,0,none⟩) (i+(n - j)) c) w')
  (hcl:∀ ty dc,(Builtin.clear_ #[27] ty #[.slice (some ⟨g,(i+(n - j)) * 1,none⟩) (n - (i+(n - j))) dc]).run Tryz.prog w'=.ok (.tuple #[]) w'') :
  Calls Tryz.prog 211 #[.slice (some ⟨g,0,none⟩) n c,.int .i64 i,.int .i64 j] w fun e w1=>e=.returned (.slice (some ⟨g,0,none⟩) (i+(n - j)) c) /\ w1=w'':=by
 obtain ⟨t24,t3,t4,mixed,z36,hnt⟩:=JE
 have u24:=run_underlying t24;have u3:=run_underlying t3;have u4:=run_underlying t4
 have hi0:(i:Int) <= (n:Int):=by omega
 have hj0:(j:Int) <= (n:Int):=by omega
 have hij:(i:Int) <= (j:Int):=by omega
 have hne:¬ ((i:Int)=(j:Int)):=by omega
 have hic:i <= c:=by omega
 have hjc:j <= c:=by omega
 have hln:i+(n - j) <= n:=by omega
 have hlc:i+(n - j) <= c:=by omega
 have hci:¬ (c=i+(n - j)):=by omega
 obtain ⟨A,hA,hA'⟩:∃ A:Addr,(if c=j then some (⟨g,0,none⟩:Addr) else some ⟨g,j * 1,none⟩)=some A /\ (c≠j -> A=(⟨g,j * 1,none⟩:Addr)):=by
  by_cases h:c=j
  · exact ⟨_,if_pos h,fun q=>absurd h q⟩
  · exact ⟨_,if_neg h,fun _=>rfl⟩
 try simp only [Nat.mul_one] at hA hcl
 go_enter Tryz.func211,hnt
 go_wp2_with fail
 go_region_law_o (refine Gv rfl rfl _ _ (by simp [Act.eval,Act.put]) (by simp [Act.eval,Act.put,hA]) (hap _ _ hA') ?_)
 go_wp2_with (at_builtin;refine Je rfl rfl _ rfl (hcl _ _) ?_)
 go_ret
 exact ⟨rfl,rfl⟩
end
abbrev aqs:List PT:=iG 3 (.int .i64)
abbrev aqt:List RT:=qW 3 (.int .i64)
def aqu (k:Nat) (a:List Int) (i j:Int):Option DR:=Jg 3 (.int .i64) k (a,i,j,())
def F211:Fn:=⟨aqs,aqt,Jg 3 (.int .i64)⟩
def aqv:Env:=tab.env (fun _=>none) (fun _=>0)
theorem aiL:aH Tryz.prog aqv:=Kr Qy _ _ (fun f F h=>by cases h)
theorem ok211:O 211 F211:=by
 obtain ⟨i0,z,a1,a2,a3,a4,a5⟩:=(aiL.ty 3 ((.int .i64)) (by kernel_rfl)).info
 have b2:Ty.sz ((.int .i64))=1:=rfl
 have hz:z.cells.size=1:=by rw [<- Array.length_toList,a5,gZ,b2]
 obtain ⟨t24,t3,t4,mixed,z36,hnt⟩:=JE
 refine Qc Tryz.func211 rfl (by kernel_rfl) ?_
 rw [b2]
 exact Mj (S:=27) (z:=z) t24 a1 a4 (by rw [a2,b2]) hz (fun v hv=>tV ((.int .i64)) v (by rw [<- a5];exact hv)) (by decide) (fun w i v h=>U0 w h) (fun w g n c i j w' w'' h1 h2 h3 h4 h5 h6=>U1 w h1 h2 h3 h4 h5 h6)
abbrev Wy:Cut:=⟨[4,5,8],[.box 94 [cI,cI,cI,cI,cI,cI,cI,cI,cI,cI,cI,cI,cI,.own 233 uw,.cell .bool,cI,cI,cI,cI,cI,cI,cI,cI,cI,.own 233 uw,.cell .bool,.own 3 (.int .i64),.cell .bool],.box 87 [cI,cI,cI,cI],cI],[],70,[]⟩
def aiM (k:Nat) (g13:Int -> Int -> Int -> Int -> Int -> Int -> Int -> Int -> Int -> Int -> Int -> Int -> Int -> C8 -> Bool -> Int -> Int -> Int -> Int -> Int -> Int -> Int -> Int -> Int -> C8 -> Bool -> (List Int) -> Bool -> Int -> Int -> Int -> Int -> Int -> Option Wh) (x a b c e f h i l m n o p:Int) (s:List ow) (t:Bool) (u v w y z A B C D:Int) (G:List ow) (H:Bool) (I:List Int) (J:Bool) (K M N O P:Int):Option Wh :=
 (bif decide (P≥0) then
  ix I P <|
  (bif (rd I P 0)==M then
   (aqu k I P (IntKind.i64.wrap (P+1))).bind fun q5 =>
   some (((x,a,b,c,(e,(f,h,i,l,m,n,o,p),s,t),(u,(v,w,y,z,A,B,C,D),G,H),q5.1.1,J),(K,M,N,O),true,()),())
  else
   g13 x a b c e f h i l m n o p s t u v w y z A B C D G H I J K M N O (IntKind.i64.wrap (P - 1)))
 else
  some (((x,a,b,c,(e,(f,h,i,l,m,n,o,p),s,t),(u,(v,w,y,z,A,B,C,D),G,H),I,J),(K,M,N,O),true,()),()))
def aaH (k:Nat):Xx (((Unit)×akC×(Int×Int×Int×Int×Unit)×Int×Unit) -> Option Wh):=dh (bf (bq (ay (ay (ay (ay (ay (ay (ay (ay (ay (ay (ay (ay (ay (ay (ay (ay (ay (ay (ay (ay (ay (ay (ay (ay (ay (ay (ay (ay bg)))))))))))))))))))))))))))) (bq (ay (ay (ay (ay bg)))) (ay bg)))) (aiM k)
def aiN (k a:Nat) (x b c e f h i l m n o p s:Int) (t:List ow) (u:Bool) (v w y z A B C D G:Int) (H:List ow) (I:Bool) (J:List Int) (K:Bool) (M N O P Q:Int):Option Wh:=iter Wy (aaH k) a ((),(x,b,c,e,f,h,i,l,m,n,o,p,s,t,u,v,w,y,z,A,B,C,D,G,H,I,J,K,()),(M,N,O,P,()),Q,())
def afo (k:Nat) (a:aar) (b:H9):Option Wh :=
 (Y6 k b).bind fun q0 =>
 (aiH k a b).bind fun q1 =>
 (afn k q1.1.1 b.2.2.2.2.1).bind fun q2 =>
 (bif !q2.1.2.2.1 then
  some ((q0.1.1,(0,0,0,0),false,()),())
 else
  (bif q2.1.2.1.1==11 then
   (Ww k q2.1.1).bind fun q3 =>
   some (((q0.1.1.1,q0.1.1.2.1,q0.1.1.2.2.1,q0.1.1.2.2.2.1,q2.1.1,q3.1.1,q0.1.1.2.2.2.2.2.2),q2.1.2.1,true,()),())
  else
   (bif q2.1.2.1.1==9 then
    ap q0.1.1.2.2.2.2.2.2.1 ([q2.1.2.1.2.1]:List Int) 8 fun r4 =>
    some (((q0.1.1.1,q0.1.1.2.1,q0.1.1.2.2.1,q0.1.1.2.2.2.1,q2.1.1,q0.1.1.2.2.2.2.2.1,r4,q0.1.1.2.2.2.2.2.2.2),q2.1.2.1,true,()),())
   else
    (bif q2.1.2.1.1==10 then
     aiN k k q0.1.1.1 q0.1.1.2.1 q0.1.1.2.2.1 q0.1.1.2.2.2.1 q2.1.1.1 q2.1.1.2.1.1 q2.1.1.2.1.2.1 q2.1.1.2.1.2.2.1 q2.1.1.2.1.2.2.2.1 q2.1.1.2.1.2.2.2.2.1 q2.1.1.2.1.2.2.2.2.2.1 q2.1.1.2.1.2.2.2.2.2.2.1 q2.1.1.2.1.2.2.2.2.2.2.2 q2.1.1.2.2.1 q2.1.1.2.2.2 q0.1.1.2.2.2.2.2.1.1 q0.1.1.2.2.2.2.2.1.2.1.1 q0.1.1.2.2.2.2.2.1.2.1.2.1 q0.1.1.2.2.2.2.2.1.2.1.2.2.1 q0.1.1.2.2.2.2.2.1.2.1.2.2.2.1 q0.1.1.2.2.2.2.2.1.2.1.2.2.2.2.1 q0.1.1.2.2.2.2.2.1.2.1.2.2.2.2.2.1 q0.1.1.2.2.2.2.2.1.2.1.2.2.2.2.2.2.1 q0.1.1.2.2.2.2.2.1.2.1.2.2.2.2.2.2.2 q0.1.1.2.2.2.2.2.1.2.2.1 q0.1.1.2.2.2.2.2.1.2.2.2 q0.1.1.2.2.2.2.2.2.1 q0.1.1.2.2.2.2.2.2.2 q2.1.2.1.1 q2.1.2.1.2.1 q2.1.2.1.2.2.1 q2.1.2.1.2.2.2 (IntKind.i64.wrap ((q0.1.1.2.2.2.2.2.2.1.length:Int) - 1))
    else
     some (((q0.1.1.1,q0.1.1.2.1,q0.1.1.2.2.1,q0.1.1.2.2.2.1,q2.1.1,q0.1.1.2.2.2.2.2),q2.1.2.1,true,()),())))))
def F161:Fn:=⟨[aaw,HY],[Wu,ae3,rB],fun k x=>afo k x.1 x.2.1⟩
theorem ok161:O 161 F161:=okF (ah ok207 <| ah ok208 <| ah ok209 <| ah ok210 <| ah ok211 aj) [] (fun k=>(.loop 13 Wy (aaH k) (fun g=>.nil) .nil)) Tryz.func161 rfl
def aoC (k:Nat) (a:mh) (b c:Int):Option ((ng×Bool×Unit)×Unit) :=
 (aio k a).bind fun q0 =>
 (alR k a b).bind fun q1 =>
 (bif !q1.1.1 then
  some ((q0.1.1,false,()),())
 else
  ix a b <|
  (bif (rd a b (0,0)).2 != 0 then
   some ((q0.1.1,false,()),())
  else
   ix q0.1.1 b <|
   some ((upd q0.1.1 b ((rd q0.1.1 b (0,0)).1,IntKind.i64.wrap (c+1)),true,()),())))
def F162:Fn:=⟨[TT,au,au],[aas,rB],fun k (a,b,c,_)=>aoC k a b c⟩
theorem ok162:O 162 F162:=okF (ah ok194 <| ah ok212 aj) [] On Tryz.func162 rfl
def aoD (k:Nat) (a:mh) (b c:Int):Option ((ng×Bool×Unit)×Unit) :=
 (aio k a).bind fun q0 =>
 (aip k a b c).bind fun q1 =>
 (bif !q1.1.1 then
  some ((q0.1.1,false,()),())
 else
  ix q0.1.1 b <|
  some ((upd q0.1.1 b ((rd q0.1.1 b (0,0)).1,0),true,()),()))
def F163:Fn:=⟨[TT,au,au],[aas,rB],fun k (a,b,c,_)=>aoD k a b c⟩
theorem ok163:O 163 F163:=okF (ah ok194 <| ah ok195 aj) [] On Tryz.func163 rfl
def amd (k:Nat) (a:H9):Option ((kg×Unit)×Unit) :=
 (Y6 k a).bind fun q0 =>
 (S99 k a.2.2.2.2.1.2.1.1).bind fun q1 =>
 (S99 k a.2.2.2.2.1.2.1.1).bind fun q2 =>
 some (((q0.1.1.1,q0.1.1.2.1,q0.1.1.2.2.1,2,q1.1.1,q2.1.1,[],false),()),())
def F213:Fn:=⟨[HY],[Wu],fun k x=>amd k x.1⟩
theorem ok213:O 213 F213:=okF (ah ok99 <| ah ok207 aj) [] On Tryz.func213 rfl
abbrev aiO:Cut:=⟨[0,1],[.pin false 0,.pin false 1],[.fK 150 [cI,cI,.own 77 AX,.own 96 wo,.cell .bool,.cell .bool,.cell .bool,.own 94 J8,.own 3 (.int .i64),.own 4 .bool,.own 124 J9,.own 3 (.int .i64),.own 4 .bool,.own 82 BN],.fK 94 [cI,cI,cI,cI,cI,cI,cI,cI,cI,cI,cI,cI,cI,.own 233 uw,.cell .bool,cI,cI,cI,cI,cI,cI,cI,cI,cI,.own 233 uw,.cell .bool,.own 3 (.int .i64),.cell .bool]],95,[]⟩
def JF (k:Nat) (M N:Int) (O:List l9) (P:List (PN Int 5)) (Q T U:Bool) (V:List kg) (W:List Int) (X:List Bool) (Z:List jy) (a1:List Int) (b1:List Bool) (c1:List (PN Int 6)) (e1 f1 h1 i1 l1 m1 n1 o1 p1 s1 t1 u1 v1:Int) (w1:List ow) (y1:Bool) (z1 a2 b2 c2 e2 f2 h2 i2 l2:Int) (m2:List ow) (n2:Bool) (o2:List Int) (p2:Bool):Option Wn :=
 (S83 k (a1,b1) e1).bind fun q3 =>
 (amd k (e1,f1,h1,i1,(l1,(m1,n1,o1,p1,s1,t1,u1,v1),w1,y1),(z1,(a2,b2,c2,e2,f2,h2,i2,l2),m2,n2),o2,p2)).bind fun (((a,b,c,e,(f,(h,i,l,m,n,o,p,s),t,u),(v,(w,y,z,A,B,C,D,G),H,I),J,K),_),_) =>
 ix O a <|
 some ((((rd O a (0,0,0,[],[],[])).2.2.2.2.2.length:Int)==0,()),(M,N,O,P,Q,T,U,V,W,X,Z,q3.1.1.1,q3.1.1.2,c1,()),(a,b,c,e,f,h,i,l,m,n,o,p,s,t,u,v,w,y,z,A,B,C,D,G,H,I,J,K,()),())
def aiP (k:Nat) (t N:Int) (O:List l9) (P:List (PN Int 5)) (Q T U:Bool) (V:List kg) (W:List Int) (X:List Bool) (Z:List jy) (a1:List Int) (b1:List Bool) (c1:List (PN Int 6)) (e1 f1 h1 i1 l1 m1 n1 o1 p1 s1 t1 u1 v1:Int) (w1:List ow) (y1:Bool) (z1 a2 b2 c2 e2 f2 h2 i2 l2:Int) (m2:List ow) (n2:Bool) (o2:List Int) (p2:Bool):Option Wn :=
 (bif i1==2 then
  (FY k t N O P Q T U V W X Z a1 b1 c1 (0,4,e1,0,m1,0)).bind fun q0 =>
  some ((true,()),q0.2.1,(e1,f1,h1,i1,l1,m1,n1,o1,p1,s1,t1,u1,v1,w1,y1,z1,a2,b2,c2,e2,f2,h2,i2,l2,m2,n2,o2,p2,()),())
 else
  (FY k t N O P Q T U V W X Z a1 b1 c1 (0,3,e1,0,m1,0)).bind fun (_,(a,b,c,e,f,h,i,l,m,n,o,p,s,u,_),_) =>
  (bif i1==0 then
   ix c e1 <|
   (bif decide (((rd c e1 (0,0,0,[],[],[])).2.2.2.2.1.length:Int)>0) then
    (FY k a b c e f h i l m n o p s u (0,8,e1,0,0,0)).bind fun (_,(v,w,y,z,A,B,C,D,G,H,I,J,K,M,_),_) =>
    JF k v w y z A B C D G H I J K M e1 f1 h1 i1 l1 m1 n1 o1 p1 s1 t1 u1 v1 w1 y1 z1 a2 b2 c2 e2 f2 h2 i2 l2 m2 n2 o2 p2
   else
    JF k a b c e f h i l m n o p s u e1 f1 h1 i1 l1 m1 n1 o1 p1 s1 t1 u1 v1 w1 y1 z1 a2 b2 c2 e2 f2 h2 i2 l2 m2 n2 o2 p2)
  else
   JF k a b c e f h i l m n o p s u e1 f1 h1 i1 l1 m1 n1 o1 p1 s1 t1 u1 v1 w1 y1 z1 a2 b2 c2 e2 f2 h2 i2 l2 m2 n2 o2 p2))
def F164:Fn:=⟨[acM,.fK 94 [cI,cI,cI,cI,cI,cI,cI,cI,cI,cI,cI,cI,cI,.own 233 uw,.cell .bool,cI,cI,cI,cI,cI,cI,cI,cI,cI,.own 233 uw,.cell .bool,.own 3 (.int .i64),.cell .bool]],[rB],fun k ((a,b,c,e,f,h,i,l,m,n,o,p,s,t,_),(u,v,w,y,z,A,B,C,D,G,H,I,J,K,M,N,O,P,Q,T,U,V,W,X,Z,a1,b1,c1,_),_)=>aiP k a b c e f h i l m n o p s t u v w y z A B C D G H I J K M N O P Q T U V W X Z a1 b1 c1⟩
theorem ok164:O 164 F164:=okF (ah ok83 <| ah ok100a <| ah ok213 aj) [] (fun k=>(.join 8 aiO (fun (((a,b,c,e,f,h,i,l,m,n,o,p,s,t,_),(u,v,w,y,z,A,B,C,D,G,H,I,J,K,M,N,O,P,Q,T,U,V,W,X,Z,a1,b1,c1,_),_),_)=>JF k a b c e f h i l m n o p s t u v w y z A B C D G H I J K M N O P Q T U V W X Z a1 b1 c1) .nil)) Tryz.func164 rfl
abbrev afp:Cut:=⟨[0,1],[.pin false 0,.pin false 1],[.fK 150 [cI,cI,.own 77 AX,.own 96 wo,.cell .bool,.cell .bool,.cell .bool,.own 94 J8,.own 3 (.int .i64),.own 4 .bool,.own 124 J9,.own 3 (.int .i64),.own 4 .bool,.own 82 BN],.fK 94 [cI,cI,cI,cI,cI,cI,cI,cI,cI,cI,cI,cI,cI,.own 233 uw,.cell .bool,cI,cI,cI,cI,cI,cI,cI,cI,cI,.own 233 uw,.cell .bool,.own 3 (.int .i64),.cell .bool]],92,[]⟩
def I6 (k:Nat) (a b:Int) (c:List l9) (e:List (PN Int 5)) (f h i:Bool) (l:List kg) (m:List Int) (n:List Bool) (o:List jy) (p:List Int) (s:List Bool) (t:List (PN Int 6)) (u v w y z A B C D G H I J:Int) (K:List ow) (M:Bool) (N O P Q T U V W X:Int) (Z:List ow) (a1:Bool) (b1:List Int) (c1:Bool):Option Wn :=
 (bif M then
  (aiP k a b c e f h i l m n o p s t u v w y z A B C D G H I J K M N O P Q T U V W X Z a1 b1 c1).bind fun q7 =>
  some ((q7.1.1,()),q7.2.1,q7.2.2.1,())
 else
  some ((false,()),(a,b,c,e,f,h,i,l,m,n,o,p,s,t,()),(u,v,w,y,z,A,B,C,D,G,H,I,J,K,M,N,O,P,Q,T,U,V,W,X,Z,a1,b1,c1,()),()))
def aiQ (k:Nat) (t t1:Int) (e2:List l9) (f2:List (PN Int 5)) (h2 i2 l2:Bool) (m2:List kg) (n2:List Int) (o2:List Bool) (p2:List jy) (s2:List Int) (t2:List Bool) (u2:List (PN Int 6)) (v2 w2 y2 z2 a3 b3 c3 e3 f3 h3 i3 l3 m3:Int) (n3:List ow) (o3:Bool) (p3 s3 t3 u3 v3 w3 y3 z3 a4:Int) (b4:List ow) (c4:Bool) (e4:List Int) (f4:Bool):Option Wn :=
 ix e2 v2 <|
 (afo k (rd e2 v2 (0,0,0,[],[],[])) (v2,w2,y2,z2,(a3,(b3,c3,e3,f3,h3,i3,l3,m3),n3,o3),(p3,(s3,t3,u3,v3,w3,y3,z3,a4),b4,c4),e4,f4)).bind fun (((a,b,c,e,(f,(h,i,l,m,n,o,p,s),u,v),(w,(y,z,A,B,C,D,G,H),I,J),K,M),(N,O,_),P,_),_) =>
 (bif !P then
  some ((false,()),(t,t1,e2,f2,h2,i2,l2,m2,n2,o2,p2,s2,t2,u2,()),(v2,w2,y2,z2,a3,b3,c3,e3,f3,h3,i3,l3,m3,n3,o3,p3,s3,t3,u3,v3,w3,y3,z3,a4,b4,c4,e4,f4,()),())
 else
  (bif N==9 then
   (S30 k (t,t1,e2,f2,h2,i2,l2,m2,((n2,o2),p2),s2,t2)).bind fun q1 =>
   (aoC k q1.1.1 O a).bind fun q2 =>
   (acQ k t t1 e2 f2 h2 i2 l2 m2 n2 o2 p2 s2 t2 u2 q2.1.1).bind fun (_,(Q,T,U,V,W,X,Z,a1,b1,c1,e1,f1,h1,i1,_),_) =>
   I6 k Q T U V W X Z a1 b1 c1 e1 f1 h1 i1 a b c e f h i l m n o p s u v w y z A B C D G H I J K M
  else
   (bif N==10 then
    (S30 k (t,t1,e2,f2,h2,i2,l2,m2,((n2,o2),p2),s2,t2)).bind fun q4 =>
    (aoD k q4.1.1 O a).bind fun q5 =>
    (acQ k t t1 e2 f2 h2 i2 l2 m2 n2 o2 p2 s2 t2 u2 q5.1.1).bind fun (_,(l1,m1,n1,o1,p1,s1,u1,v1,w1,y1,z1,a2,b2,c2,_),_) =>
    I6 k l1 m1 n1 o1 p1 s1 u1 v1 w1 y1 z1 a2 b2 c2 a b c e f h i l m n o p s u v w y z A B C D G H I J K M
   else
    I6 k t t1 e2 f2 h2 i2 l2 m2 n2 o2 p2 s2 t2 u2 a b c e f h i l m n o p s u v w y z A B C D G H I J K M)))
def F105:Fn:=⟨[acM,aot],[rB],fun k ((a,b,c,e,f,h,i,l,m,n,o,p,s,t,_),(u,v,w,y,z,A,B,C,D,G,H,I,J,K,M,N,O,P,Q,T,U,V,W,X,Z,a1,b1,c1,_),_)=>aiQ k a b c e f h i l m n o p s t u v w y z A B C D G H I J K M N O P Q T U V W X Z a1 b1 c1⟩
theorem ok105:O 105 F105:=okF (ah ok30 <| ah ok39b <| ah ok161 <| ah ok162 <| ah ok163 <| ah ok164 aj) [] (fun k=>(.join 12 afp (fun (((a,b,c,e,f,h,i,l,m,n,o,p,s,t,_),(u,v,w,y,z,A,B,C,D,G,H,I,J,K,M,N,O,P,Q,T,U,V,W,X,Z,a1,b1,c1,_),_),_)=>I6 k a b c e f h i l m n o p s t u v w y z A B C D G H I J K M N O P Q T U V W X Z a1 b1 c1) .nil)) Tryz.func105 rfl
def S59 (k:Nat) (t t1:Int) (t2:List l9) (t3:List (PN Int 5)) (m4 n4 o4:Bool) (p4:List kg) (s4:List Int) (t4:List Bool) (u4:List jy) (v4:List Int) (w4:List Bool) (y4:List (PN Int 6)):Option yw :=
 (S30 k (t,t1,t2,t3,m4,n4,o4,p4,((s4,t4),u4),v4,w4)).bind fun q0 =>
 (aiE k p4 (t2.length:Int) q0.1.1).bind fun q1 =>
 (bif n4 then
  some ((),(t,t1,t2,t3,m4,n4,o4,p4,s4,t4,u4,v4,w4,y4,()),())
 else
  (bif !q1.1.2.1 then
   some ((),(t,t1,t2,t3,m4,n4,o4,p4,s4,t4,u4,v4,w4,y4,()),())
  else
   ix p4 q1.1.1 <|
   (FY k t t1 t2 t3 m4 n4 o4 p4 s4 t4 u4 v4 w4 y4 (0,2,(rd p4 q1.1.1 (0,0,0,0,(0,Pv (α:=Int) 8 0,[],false),(0,Pv (α:=Int) 8 0,[],false),[],false)).1,0,0,0)).bind fun (_,(a,b,c,e,f,h,i,l,m,n,o,p,s,u,_),_) =>
   (bif i then
    (aiG k a b c e f h i l m n o p s u (rd p4 q1.1.1 (0,0,0,0,(0,Pv (α:=Int) 8 0,[],false),(0,Pv (α:=Int) 8 0,[],false),[],false)).1 (rd p4 q1.1.1 (0,0,0,0,(0,Pv (α:=Int) 8 0,[],false),(0,Pv (α:=Int) 8 0,[],false),[],false)).2.1 (rd p4 q1.1.1 (0,0,0,0,(0,Pv (α:=Int) 8 0,[],false),(0,Pv (α:=Int) 8 0,[],false),[],false)).2.2.1 (rd p4 q1.1.1 (0,0,0,0,(0,Pv (α:=Int) 8 0,[],false),(0,Pv (α:=Int) 8 0,[],false),[],false)).2.2.2.1 (rd p4 q1.1.1 (0,0,0,0,(0,Pv (α:=Int) 8 0,[],false),(0,Pv (α:=Int) 8 0,[],false),[],false)).2.2.2.2.1.1 (rd p4 q1.1.1 (0,0,0,0,(0,Pv (α:=Int) 8 0,[],false),(0,Pv (α:=Int) 8 0,[],false),[],false)).2.2.2.2.1.2.1.1 (rd p4 q1.1.1 (0,0,0,0,(0,Pv (α:=Int) 8 0,[],false),(0,Pv (α:=Int) 8 0,[],false),[],false)).2.2.2.2.1.2.1.2.1 (rd p4 q1.1.1 (0,0,0,0,(0,Pv (α:=Int) 8 0,[],false),(0,Pv (α:=Int) 8 0,[],false),[],false)).2.2.2.2.1.2.1.2.2.1 (rd p4 q1.1.1 (0,0,0,0,(0,Pv (α:=Int) 8 0,[],false),(0,Pv (α:=Int) 8 0,[],false),[],false)).2.2.2.2.1.2.1.2.2.2.1 (rd p4 q1.1.1 (0,0,0,0,(0,Pv (α:=Int) 8 0,[],false),(0,Pv (α:=Int) 8 0,[],false),[],false)).2.2.2.2.1.2.1.2.2.2.2.1 (rd p4 q1.1.1 (0,0,0,0,(0,Pv (α:=Int) 8 0,[],false),(0,Pv (α:=Int) 8 0,[],false),[],false)).2.2.2.2.1.2.1.2.2.2.2.2.1 (rd p4 q1.1.1 (0,0,0,0,(0,Pv (α:=Int) 8 0,[],false),(0,Pv (α:=Int) 8 0,[],false),[],false)).2.2.2.2.1.2.1.2.2.2.2.2.2.1 (rd p4 q1.1.1 (0,0,0,0,(0,Pv (α:=Int) 8 0,[],false),(0,Pv (α:=Int) 8 0,[],false),[],false)).2.2.2.2.1.2.1.2.2.2.2.2.2.2 (rd p4 q1.1.1 (0,0,0,0,(0,Pv (α:=Int) 8 0,[],false),(0,Pv (α:=Int) 8 0,[],false),[],false)).2.2.2.2.1.2.2.1 (rd p4 q1.1.1 (0,0,0,0,(0,Pv (α:=Int) 8 0,[],false),(0,Pv (α:=Int) 8 0,[],false),[],false)).2.2.2.2.1.2.2.2 (rd p4 q1.1.1 (0,0,0,0,(0,Pv (α:=Int) 8 0,[],false),(0,Pv (α:=Int) 8 0,[],false),[],false)).2.2.2.2.2.1.1 (rd p4 q1.1.1 (0,0,0,0,(0,Pv (α:=Int) 8 0,[],false),(0,Pv (α:=Int) 8 0,[],false),[],false)).2.2.2.2.2.1.2.1.1 (rd p4 q1.1.1 (0,0,0,0,(0,Pv (α:=Int) 8 0,[],false),(0,Pv (α:=Int) 8 0,[],false),[],false)).2.2.2.2.2.1.2.1.2.1 (rd p4 q1.1.1 (0,0,0,0,(0,Pv (α:=Int) 8 0,[],false),(0,Pv (α:=Int) 8 0,[],false),[],false)).2.2.2.2.2.1.2.1.2.2.1 (rd p4 q1.1.1 (0,0,0,0,(0,Pv (α:=Int) 8 0,[],false),(0,Pv (α:=Int) 8 0,[],false),[],false)).2.2.2.2.2.1.2.1.2.2.2.1 (rd p4 q1.1.1 (0,0,0,0,(0,Pv (α:=Int) 8 0,[],false),(0,Pv (α:=Int) 8 0,[],false),[],false)).2.2.2.2.2.1.2.1.2.2.2.2.1 (rd p4 q1.1.1 (0,0,0,0,(0,Pv (α:=Int) 8 0,[],false),(0,Pv (α:=Int) 8 0,[],false),[],false)).2.2.2.2.2.1.2.1.2.2.2.2.2.1 (rd p4 q1.1.1 (0,0,0,0,(0,Pv (α:=Int) 8 0,[],false),(0,Pv (α:=Int) 8 0,[],false),[],false)).2.2.2.2.2.1.2.1.2.2.2.2.2.2.1 (rd p4 q1.1.1 (0,0,0,0,(0,Pv (α:=Int) 8 0,[],false),(0,Pv (α:=Int) 8 0,[],false),[],false)).2.2.2.2.2.1.2.1.2.2.2.2.2.2.2 (rd p4 q1.1.1 (0,0,0,0,(0,Pv (α:=Int) 8 0,[],false),(0,Pv (α:=Int) 8 0,[],false),[],false)).2.2.2.2.2.1.2.2.1 (rd p4 q1.1.1 (0,0,0,0,(0,Pv (α:=Int) 8 0,[],false),(0,Pv (α:=Int) 8 0,[],false),[],false)).2.2.2.2.2.1.2.2.2 (rd p4 q1.1.1 (0,0,0,0,(0,Pv (α:=Int) 8 0,[],false),(0,Pv (α:=Int) 8 0,[],false),[],false)).2.2.2.2.2.2.1 (rd p4 q1.1.1 (0,0,0,0,(0,Pv (α:=Int) 8 0,[],false),(0,Pv (α:=Int) 8 0,[],false),[],false)).2.2.2.2.2.2.2).bind fun ((v,_),(w,y,z,A,B,C,D,G,H,I,J,K,M,N,_),(O,P,Q,T,U,V,W,X,Z,a1,b1,c1,e1,f1,h1,i1,l1,m1,n1,o1,p1,s1,u1,v1,w1,y1,z1,a2,_),_) =>
    ix G q1.1.1 <|
    let r4:List kg:=upd G q1.1.1 (O,P,Q,T,(U,(V,W,X,Z,a1,b1,c1,e1),f1,h1),(i1,(l1,m1,n1,o1,p1,s1,u1,v1),w1,y1),z1,a2)
    (bif v then
     (S50 k r4 q1.1.1 (IntKind.i64.wrap (q1.1.1+1))).bind fun q5 =>
     some ((),(w,y,z,A,B,C,D,q5.1.1,H,I,J,K,M,N,()),())
    else
     some ((),(w,y,z,A,B,C,D,r4,H,I,J,K,M,N,()),()))
   else
    (aiQ k a b c e f h i l m n o p s u (rd p4 q1.1.1 (0,0,0,0,(0,Pv (α:=Int) 8 0,[],false),(0,Pv (α:=Int) 8 0,[],false),[],false)).1 (rd p4 q1.1.1 (0,0,0,0,(0,Pv (α:=Int) 8 0,[],false),(0,Pv (α:=Int) 8 0,[],false),[],false)).2.1 (rd p4 q1.1.1 (0,0,0,0,(0,Pv (α:=Int) 8 0,[],false),(0,Pv (α:=Int) 8 0,[],false),[],false)).2.2.1 (rd p4 q1.1.1 (0,0,0,0,(0,Pv (α:=Int) 8 0,[],false),(0,Pv (α:=Int) 8 0,[],false),[],false)).2.2.2.1 (rd p4 q1.1.1 (0,0,0,0,(0,Pv (α:=Int) 8 0,[],false),(0,Pv (α:=Int) 8 0,[],false),[],false)).2.2.2.2.1.1 (rd p4 q1.1.1 (0,0,0,0,(0,Pv (α:=Int) 8 0,[],false),(0,Pv (α:=Int) 8 0,[],false),[],false)).2.2.2.2.1.2.1.1 (rd p4 q1.1.1 (0,0,0,0,(0,Pv (α:=Int) 8 0,[],false),(0,Pv (α:=Int) 8 0,[],false),[],false)).2.2.2.2.1.2.1.2.1 (rd p4 q1.1.1 (0,0,0,0,(0,Pv (α:=Int) 8 0,[],false),(0,Pv (α:=Int) 8 0,[],false),[],false)).2.2.2.2.1.2.1.2.2.1 (rd p4 q1.1.1 (0,0,0,0,(0,Pv (α:=Int) 8 0,[],false),(0,Pv (α:=Int) 8 0,[],false),[],false)).2.2.2.2.1.2.1.2.2.2.1 (rd p4 q1.1.1 (0,0,0,0,(0,Pv (α:=Int) 8 0,[],false),(0,Pv (α:=Int) 8 0,[],false),[],false)).2.2.2.2.1.2.1.2.2.2.2.1 (rd p4 q1.1.1 (0,0,0,0,(0,Pv (α:=Int) 8 0,[],false),(0,Pv (α:=Int) 8 0,[],false),[],false)).2.2.2.2.1.2.1.2.2.2.2.2.1 (rd p4 q1.1.1 (0,0,0,0,(0,Pv (α:=Int) 8 0,[],false),(0,Pv (α:=Int) 8 0,[],false),[],false)).2.2.2.2.1.2.1.2.2.2.2.2.2.1 (rd p4 q1.1.1 (0,0,0,0,(0,Pv (α:=Int) 8 0,[],false),(0,Pv (α:=Int) 8 0,[],false),[],false)).2.2.2.2.1.2.1.2.2.2.2.2.2.2 (rd p4 q1.1.1 (0,0,0,0,(0,Pv (α:=Int) 8 0,[],false),(0,Pv (α:=Int) 8 0,[],false),[],false)).2.2.2.2.1.2.2.1 (rd p4 q1.1.1 (0,0,0,0,(0,Pv (α:=Int) 8 0,[],false),(0,Pv (α:=Int) 8 0,[],false),[],false)).2.2.2.2.1.2.2.2 (rd p4 q1.1.1 (0,0,0,0,(0,Pv (α:=Int) 8 0,[],false),(0,Pv (α:=Int) 8 0,[],false),[],false)).2.2.2.2.2.1.1 (rd p4 q1.1.1 (0,0,0,0,(0,Pv (α:=Int) 8 0,[],false),(0,Pv (α:=Int) 8 0,[],false),[],false)).2.2.2.2.2.1.2.1.1 (rd p4 q1.1.1 (0,0,0,0,(0,Pv (α:=Int) 8 0,[],false),(0,Pv (α:=Int) 8 0,[],false),[],false)).2.2.2.2.2.1.2.1.2.1 (rd p4 q1.1.1 (0,0,0,0,(0,Pv (α:=Int) 8 0,[],false),(0,Pv (α:=Int) 8 0,[],false),[],false)).2.2.2.2.2.1.2.1.2.2.1 (rd p4 q1.1.1 (0,0,0,0,(0,Pv (α:=Int) 8 0,[],false),(0,Pv (α:=Int) 8 0,[],false),[],false)).2.2.2.2.2.1.2.1.2.2.2.1 (rd p4 q1.1.1 (0,0,0,0,(0,Pv (α:=Int) 8 0,[],false),(0,Pv (α:=Int) 8 0,[],false),[],false)).2.2.2.2.2.1.2.1.2.2.2.2.1 (rd p4 q1.1.1 (0,0,0,0,(0,Pv (α:=Int) 8 0,[],false),(0,Pv (α:=Int) 8 0,[],false),[],false)).2.2.2.2.2.1.2.1.2.2.2.2.2.1 (rd p4 q1.1.1 (0,0,0,0,(0,Pv (α:=Int) 8 0,[],false),(0,Pv (α:=Int) 8 0,[],false),[],false)).2.2.2.2.2.1.2.1.2.2.2.2.2.2.1 (rd p4 q1.1.1 (0,0,0,0,(0,Pv (α:=Int) 8 0,[],false),(0,Pv (α:=Int) 8 0,[],false),[],false)).2.2.2.2.2.1.2.1.2.2.2.2.2.2.2 (rd p4 q1.1.1 (0,0,0,0,(0,Pv (α:=Int) 8 0,[],false),(0,Pv (α:=Int) 8 0,[],false),[],false)).2.2.2.2.2.1.2.2.1 (rd p4 q1.1.1 (0,0,0,0,(0,Pv (α:=Int) 8 0,[],false),(0,Pv (α:=Int) 8 0,[],false),[],false)).2.2.2.2.2.1.2.2.2 (rd p4 q1.1.1 (0,0,0,0,(0,Pv (α:=Int) 8 0,[],false),(0,Pv (α:=Int) 8 0,[],false),[],false)).2.2.2.2.2.2.1 (rd p4 q1.1.1 (0,0,0,0,(0,Pv (α:=Int) 8 0,[],false),(0,Pv (α:=Int) 8 0,[],false),[],false)).2.2.2.2.2.2.2).bind fun ((b2,_),(c2,e2,f2,h2,i2,l2,m2,n2,o2,p2,s2,u2,v2,w2,_),(y2,z2,a3,b3,c3,e3,f3,h3,i3,l3,m3,n3,o3,p3,s3,u3,v3,w3,y3,z3,a4,b4,c4,e4,f4,h4,i4,l4,_),_) =>
    ix n2 q1.1.1 <|
    let r7:List kg:=upd n2 q1.1.1 (y2,z2,a3,b3,(c3,(e3,f3,h3,i3,l3,m3,n3,o3),p3,s3),(u3,(v3,w3,y3,z3,a4,b4,c4,e4),f4,h4),i4,l4)
    (bif b2 then
     (S50 k r7 q1.1.1 (IntKind.i64.wrap (q1.1.1+1))).bind fun q8 =>
     some ((),(c2,e2,f2,h2,i2,l2,m2,q8.1.1,o2,p2,s2,u2,v2,w2,()),())
    else
     some ((),(c2,e2,f2,h2,i2,l2,m2,r7,o2,p2,s2,u2,v2,w2,()),())))))
def F59:Fn:=⟨[acM],[],fun k ((a,b,c,e,f,h,i,l,m,n,o,p,s,t,_),_)=>S59 k a b c e f h i l m n o p s t⟩
theorem ok59:O 59 F59:=okF (ah ok30 <| ah ok50 <| ah ok100a <| ah ok104 <| ah ok105 <| ah ok106 aj) [] On Tryz.func59 rfl
def S23 (k:Nat) (w1:KD):Option ((OQ×AZ×Unit)×Unit) :=
 (S34 k w1).bind fun q0 =>
 (bif q0.1.1.2.2.2.2.1 then
  (bif !q0.1.1.2.2.2.2.2.1 then
   (S56 k q0.1.1.1 q0.1.1.2.1 q0.1.1.2.2.1 q0.1.1.2.2.2.1 q0.1.1.2.2.2.2.1 q0.1.1.2.2.2.2.2.1 q0.1.1.2.2.2.2.2.2.1 q0.1.1.2.2.2.2.2.2.2.1 q0.1.1.2.2.2.2.2.2.2.2.1.1.1 q0.1.1.2.2.2.2.2.2.2.2.1.1.2 q0.1.1.2.2.2.2.2.2.2.2.1.2 q0.1.1.2.2.2.2.2.2.2.2.2.1 q0.1.1.2.2.2.2.2.2.2.2.2.2 ([]:List (PN Int 6))).bind fun (_,(a,b,c,e,f,h,i,l,m,n,o,p,s,t,_),_) =>
   (S57 k a b c e f h i l m n o p s t).bind fun (_,(u,v,w,y,z,A,B,C,D,G,H,I,J,K,_),_) =>
   (S58 k u v w y z A B C D G H I J K).bind fun (_,(M,N,O,P,Q,T,U,V,W,X,Z,a1,b1,c1,_),_) =>
   (S59 k M N O P Q T U V W X Z a1 b1 c1).bind fun (_,(e1,f1,h1,i1,l1,m1,_,n1,o1,p1,s1,t1,u1,v1,_),_) =>
   some (((IntKind.i64.wrap (e1+1),f1,h1,i1,l1,m1,false,n1,((o1,p1),s1),t1,u1),v1,()),())
  else
   some (((IntKind.i64.wrap (q0.1.1.1+1),q0.1.1.2.1,q0.1.1.2.2.1,q0.1.1.2.2.2.1,q0.1.1.2.2.2.2.1,q0.1.1.2.2.2.2.2.1,false,q0.1.1.2.2.2.2.2.2.2),([]:List (PN Int 6)),()),()))
 else
  some (((IntKind.i64.wrap (q0.1.1.1+1),q0.1.1.2.1,q0.1.1.2.2.1,q0.1.1.2.2.2.1,q0.1.1.2.2.2.2.1,q0.1.1.2.2.2.2.2.1,false,q0.1.1.2.2.2.2.2.2.2),([]:List (PN Int 6)),()),()))
def F23:Fn:=⟨[.val ⟨true,akG,false⟩],[.val ⟨true,akG,true⟩,aeY],fun k x=>S23 k x.1⟩
theorem ok23:O 23 F23:=okF (ah ok34 <| ah ok56 <| ah ok57 <| ah ok58 <| ah ok59 aj) [(8,2)] On Tryz.func23 rfl
def S9 (k:Nat):Option ((Bool×Unit)×Unit) :=
 (S25 k 50).bind fun q0 =>
 (S28 k [] (1,20,20,([(0,0,0,0)]:List l8),[],[]) 50).bind fun q1 =>
 (S12 k (q0.1.1.1,q0.1.1.2.1,q1.1.1,q1.1.2.1,q0.1.1.2.2.2.2)).bind fun q2 =>
 mk 1 1 8 <|
 mk 1 1 1 <|
 (S20 k (q2.1.1.1,q2.1.1.2.1,q2.1.1.2.2.1,q2.1.1.2.2.2.1,q2.1.1.2.2.2.2.1,q2.1.1.2.2.2.2.2.1,q2.1.1.2.2.2.2.2.2.1,q2.1.1.2.2.2.2.2.2.2.1,q2.1.1.2.2.2.2.2.2.2.2.1,List.replicate 1 (0:Int),List.replicate 1 (false:Bool)) 0 7).bind fun q3 =>
 (S23 k q3.1.1).bind fun q4 =>
 (S25 k 0).bind fun q5 =>
 (bif q0.1.2.1 then
  (bif q1.1.2.2.1==0 then
   (bif q2.1.2.1==0 then
    (bif q3.1.2.2.1==0 then
     (bif (q3.1.2.1.length:Int)==1 then
      (bif (q3.1.1.2.2.2.2.2.2.2.1.length:Int)==1 then
       (bif q4.1.1.1==1 then
        (bif (q4.1.1.2.2.2.2.2.2.2.1.length:Int)==0 then
         (bif (q4.1.2.1.length:Int)==2 then
          ix q4.1.2.1 1 <|
          (bif fC BN (rd q4.1.2.1 1 (Pv (α:=Int) 6 0)) (0,3,0,0,7,0) then
           (bif !q5.1.2.1 then
            (S30 k q4.1.1).bind fun q6 =>
            some (((q6.1.1.length:Int)==0,()),())
           else
            some ((false,()),()))
          else
           some ((false,()),()))
         else
          some ((false,()),()))
        else
         some ((false,()),()))
       else
        some ((false,()),()))
      else
       some ((false,()),()))
     else
      some ((false,()),()))
    else
     some ((false,()),()))
   else
    some ((false,()),()))
  else
   some ((false,()),()))
 else
  some ((false,()),()))
def F9:Fn:=⟨[],[rB],fun k x=>S9 k ⟩
theorem ok9:O 9 F9:=okF (ah ok12 <| ah ok20 <| ah ok23 <| ah ok25 <| ah ok28 <| ah ok30 aj) [] On Tryz.func9 rfl
def aoF (k:Nat) (a:Int):Option ((zy×Unit)×Unit) :=
 mk (mn (mx a 0) 64) (mn (mx a 0) 64) 8 <|
 mk (mn (mx a 0) 64) (mn (mx a 0) 64) 1 <|
 some (((List.replicate (mn (mx a 0) 64).toNat (0:Int),List.replicate (mn (mx a 0) 64).toNat (false:Bool)),()),())
def F119:Fn:=⟨[au],[Ws],fun k x=>aoF k x.1⟩
theorem ok119:O 119 F119:=okF aj [] On Tryz.func119 rfl
def S66 (k:Nat):Option (((zy×List jy)×Unit)×Unit) :=
 (aoF k 12).bind fun q0 =>
 mk 12 12 128 <|
 some (((q0.1.1,List.replicate 12 ((0,(0,0),(0,0),([],[]),(0,[]),0):Int×(Int×Int)×(Int×Int)×((List Int)×List Int)×aao×Int)),()),())
def F66:Fn:=⟨[],[.val ⟨true,aeW,true⟩],fun k x=>S66 k ⟩
theorem ok66:O 66 F66:=okF (ah ok119 aj) [] On Tryz.func66 rfl
def S26 (k:Nat) (a:Int):Option ((OQ×Bool×Unit)×Unit) :=
 (bif decide (a<1) then
  some (((0,0,[],[],false,false,false,[],(([],[]),[]),[],[]),false,()),())
 else
  (bif decide (a>4611686018427387904) then
   some (((0,0,[],[],false,false,false,[],(([],[]),[]),[],[]),false,()),())
  else
   (S66 k).bind fun q0 =>
   some (((0,a,[],[],false,false,false,[],q0.1.1,[],[]),true,()),())))
def F26:Fn:=⟨[au],[.val ⟨true,al2,true⟩,rB],fun k x=>S26 k x.1⟩
theorem ok26:O 26 F26:=okF (ah ok66 aj) [] On Tryz.func26 rfl
def S17 (k:Nat) (a:List Int):Option ((EB×Unit)×Unit) :=
 some (((a,0,()),()),())
def F17:Fn:=⟨[.val ⟨false,EF,false⟩],[.pv (.box 140 [.cell EF,cI])],fun k x=>S17 k x.1⟩
theorem ok17:O 17 F17:=okF aj [] On Tryz.func17 rfl
def FT (k:Nat) (a:List Int) (b c:Int):Option ((Int×Unit)×EB×Unit) :=
 (bif decide (b≥(a.length:Int)) then
  some ((0,()),(a,b,()),())
 else
  ix a (IntKind.i64.wrap ((IntKind.i64.wrap (b+1)) - 1)) <|
  nz c <|
  some ((Int.tmod (IntKind.i64.wrap (rd a (IntKind.i64.wrap ((IntKind.i64.wrap (b+1)) - 1)) 0)) c,()),(a,IntKind.i64.wrap (b+1),()),()))
def F19:Fn:=⟨[acN,au],[rI],fun k ((a,b,_),c,_)=>FT k a b c⟩
theorem ok19:O 19 F19:=okF aj [] On Tryz.func19 rfl
def S74 (k:Nat) (a:Int×l9×(Int×Int)×Int×Int×Int):Option ((yu×Unit)×Unit) :=
 some (((1,a,0,0),()),())
def F74:Fn:=⟨[ae1],[.val ⟨true,PX,false⟩],fun k x=>S74 k x.1⟩
theorem ok74:O 74 F74:=okF aj [] On Tryz.func74 rfl
def acR (k:Nat) (a:List Int) (b:Int):Option ((l8×Unit)×EB×Unit) :=
 (FT k a b 3).bind fun q0 =>
 (FT k q0.2.1.1 q0.2.1.2.1 3).bind fun q1 =>
 (FT k q1.2.1.1 q1.2.1.2.1 6).bind fun q2 =>
 (bif q2.1.1==0 then
  (FT k q2.2.1.1 q2.2.1.2.1 9).bind fun q3 =>
  some (((1,q0.1.1,0,IntKind.i64.wrap (q3.1.1 - 4)),()),q3.2.1,())
 else
  (bif q2.1.1==1 then
   some (((2,q0.1.1,q1.1.1,0),()),q2.2.1,())
  else
   (bif q2.1.1==2 then
    some (((3,q0.1.1,q1.1.1,0),()),q2.2.1,())
   else
    (bif q2.1.1==3 then
     some (((4,q0.1.1,q1.1.1,0),()),q2.2.1,())
    else
     (bif q2.1.1==4 then
      (FT k q2.2.1.1 q2.2.1.2.1 7).bind fun q4 =>
      some (((5,q0.1.1,0,IntKind.i64.wrap (q4.1.1 - 3)),()),q4.2.1,())
     else
      (FT k q2.2.1.1 q2.2.1.2.1 64).bind fun q5 =>
      some (((6,q0.1.1,0,IntKind.i64.wrap (1+q5.1.1)),()),q5.2.1,()))))))
def F171:Fn:=⟨[acN],[ae3],fun k x=>acR k x.1.1 x.1.2.1⟩
theorem ok171:O 171 F171:=okF (ah ok19 aj) [] On Tryz.func171 rfl
abbrev aaI:Cut:=⟨[0,2,7,8],[.pin false 0,cI,.own 87 AY,cI],[.fK 140 [.cell EF,cI]],47,[]⟩
def U2 (k:Nat) (g3:aaq) (a:List Int) (b c:Int) (e:List l8) (f:Int):Option FZ :=
 (bif decide (f>0) then
  (bif decide (c>0) then
   (FT k a b 4).bind fun q1 =>
   (bif q1.1.1==0 then
    (FT k q1.2.1.1 q1.2.1.2.1 c).bind fun q2 =>
    ap e ([(9,q2.1.1,0,0)]:List l8) 32 fun r3 =>
    (acR k q2.2.1.1 q2.2.1.2.1).bind fun q4 =>
    ap r3 ([q4.1.1]:List l8) 32 fun r5 =>
    ap r5 ([(10,q2.1.1,0,0)]:List l8) 32 fun r6 =>
    g3 q4.2.1.1 q4.2.1.2.1 c r6 (IntKind.i64.wrap (f - 1))
   else
    (acR k q1.2.1.1 q1.2.1.2.1).bind fun q7 =>
    ap e ([q7.1.1]:List l8) 32 fun r8 =>
    g3 q7.2.1.1 q7.2.1.2.1 c r8 (IntKind.i64.wrap (f - 1)))
  else
   (acR k a b).bind fun q9 =>
   ap e ([q9.1.1]:List l8) 32 fun r10 =>
   g3 q9.2.1.1 q9.2.1.2.1 c r10 (IntKind.i64.wrap (f - 1)))
 else
  some ((e,()),(a,b,()),()))
def afq (k:Nat):Xx (((EB×Unit)×Unit×Int×(List l8)×Int×Unit) -> Option FZ):=dh (bq (bq (ay (ay bg)) bg) (bf (ay (ay (ay bg))))) (U2 k)
def U3 (k a:Nat) (b:List Int) (c e:Int) (f:List l8) (h:Int):Option FZ:=iter aaI (afq k) a (((b,c,()),()),(),e,f,h,())
theorem Wz (k a b c e f h):U3 k (a+1) b c e f h=U2 k (U3 k a) b c e f h:=Ba _ _ _ _
def acS (k:Nat) (a:List Int) (b c e:Int):Option FZ :=
 (FT k a b c).bind fun q0 =>
 U3 k k q0.2.1.1 q0.2.1.2.1 e ([]:List l8) (IntKind.i64.wrap (q0.1.1+1))
def F120:Fn:=⟨[acN,au,au],[al3],fun k ((a,b,_),c,e,_)=>acS k a b c e⟩
theorem ok120:O 120 F120:=okF (ah ok19 <| ah ok171 aj) [(7,2)] (fun k=>(.loop 3 aaI (afq k) (fun g=>.nil) .nil)) Tryz.func120 rfl
abbrev aiR:Cut:=⟨[0,1,5,6,7],[.pin false 0,cI,.own 87 AY,cI,.own 87 AY],[.fK 140 [.cell EF,cI]],66,[]⟩
def GI (k:Nat) (g3:aaq) (a:List Int) (b c:Int) (e:List l8) (f:Int) (x:List l8):Option FZ :=
 (bif decide ((IntKind.i64.wrap ((e.length:Int)+(x.length:Int)))<23) then
  ap e x 32 fun r9 =>
  g3 a b c r9 (IntKind.i64.wrap (f - 1))
 else
  g3 a b c e (IntKind.i64.wrap (f - 1)))
abbrev afr:Cut:=⟨[0,1,5,6],[.pin false 0,cI,.own 87 AY,cI],[.fK 140 [.cell EF,cI]],66,[]⟩
def aaJ (k:Nat) (g3:aaq) (a:List Int) (b c:Int) (e:List l8) (f:Int):Option FZ :=
 (bif decide (f>0) then
  (FT k a b 5).bind fun q1 =>
  (bif q1.1.1==0 then
   (acS k q1.2.1.1 q1.2.1.2.1 2 c).bind fun q2 =>
   (FT k q2.2.1.1 q2.2.1.2.1 3).bind fun q3 =>
   ap ([(8,0,(q2.1.1.length:Int),IntKind.i64.wrap (1+q3.1.1))]:List l8) q2.1.1 32 fun r4 =>
   GI k g3 q3.2.1.1 q3.2.1.2.1 c e f r4
  else
   (bif q1.1.1==1 then
    (acS k q1.2.1.1 q1.2.1.2.1 2 c).bind fun q5 =>
    (FT k q5.2.1.1 q5.2.1.2.1 3).bind fun q6 =>
    ap ([(7,q6.1.1,0,(q5.1.1.length:Int))]:List l8) q5.1.1 32 fun r7 =>
    GI k g3 q6.2.1.1 q6.2.1.2.1 c e f r7
   else
    (bif q1.1.1==2 then
     GI k g3 q1.2.1.1 q1.2.1.2.1 c e f ([(11,0,0,0)]:List l8)
    else
     (acS k q1.2.1.1 q1.2.1.2.1 2 c).bind fun q8 =>
     GI k g3 q8.2.1.1 q8.2.1.2.1 c e f q8.1.1)))
 else
  ap e ([(0,0,0,0)]:List l8) 32 fun r10 =>
  some ((r10,()),(a,b,()),()))
def akL (k:Nat):Xx (((EB×Unit)×Unit×Int×(List l8)×Int×Unit) -> Option FZ):=dh (bq (bq (ay (ay bg)) bg) (bf (ay (ay (ay bg))))) (aaJ k)
def KH (k a:Nat) (b:List Int) (c e:Int) (f:List l8) (h:Int):Option FZ:=iter afr (akL k) a (((b,c,()),()),(),e,f,h,())
theorem aaK (k a b c e f h):KH k (a+1) b c e f h=aaJ k (KH k a) b c e f h:=Ba _ _ _ _
def S67 (k:Nat) (a:List Int) (b c:Int):Option FZ :=
 (FT k a b 4).bind fun q0 =>
 KH k k q0.2.1.1 q0.2.1.2.1 c ([]:List l8) (IntKind.i64.wrap (q0.1.1+1))
def F67:Fn:=⟨[acN,au],[al3],fun k ((a,b,_),c,_)=>S67 k a b c⟩
theorem ok67:O 67 F67:=okF (ah ok19 <| ah ok120 aj) [(5,2)] (fun k=>(.loop 3 afr (akL k) (fun g=>(fun (g3:aaq)=>(.join 16 aiR (fun (((a,b,_),_),_,c,e,f,h,_)=>GI k g3 a b c e f h) .nil)) (fun p2 p3 D5 l_ i=>g (((p2,p3,()),()),(),D5,l_,i,()))) .nil)) Tryz.func67 rfl
abbrev ame:Cut:=⟨[0,6,7],[.pin false 0,.box 77 [cI,cI,cI,.nil,.nil,.nil],.box 77 [cI,cI,cI,.own 87 AY,.cell (.sl 87 AY),.own 87 AY]],[.fK 140 [.cell EF,cI]],41,[]⟩
def WA (k:Nat) (a:List Int) (b c e f h i l:Int) (m n o:List l8):Option ((l9×Unit)×EB×Unit) :=
 (FT k a b 3).bind fun q5 =>
 (bif q5.1.1==0 then
  (S67 k q5.2.1.1 q5.2.1.2.1 0).bind fun q6 =>
  some (((h,i,l,m,n,q6.1.1),()),q6.2.1,())
 else
  some (((h,i,l,m,n,o),()),q5.2.1,()))
def S27 (k:Nat) (a:List Int) (b c e:Int):Option ((l9×Unit)×EB×Unit) :=
 (S67 k a b e).bind fun q0 =>
 (FT k q0.2.1.1 q0.2.1.2.1 12).bind fun q1 =>
 (FT k q1.2.1.1 q1.2.1.2.1 10).bind fun q2 =>
 (FT k q2.2.1.1 q2.2.1.2.1 3).bind fun q3 =>
 (bif q3.1.1==0 then
  (FT k q3.2.1.1 q3.2.1.2.1 2).bind fun q4 =>
  sx ([(1,0,0,99),(0,0,0,0)]:List l8) q4.1.1 (([(1,0,0,99),(0,0,0,0)]:List l8).length:Int) <|
  WA k q4.2.1.1 q4.2.1.2.1 0 0 0 c (IntKind.i64.wrap (20+(IntKind.i64.wrap (10 * q1.1.1)))) (IntKind.i64.wrap ((IntKind.i64.wrap (20+(IntKind.i64.wrap (10 * q1.1.1)))) - q2.1.1)) q0.1.1 (sub ([(1,0,0,99),(0,0,0,0)]:List l8) q4.1.1 (([(1,0,0,99),(0,0,0,0)]:List l8).length:Int)) ([]:List l8)
 else
  WA k q3.2.1.1 q3.2.1.2.1 0 0 0 c (IntKind.i64.wrap (20+(IntKind.i64.wrap (10 * q1.1.1)))) (IntKind.i64.wrap ((IntKind.i64.wrap (20+(IntKind.i64.wrap (10 * q1.1.1)))) - q2.1.1)) q0.1.1 ([]:List l8) ([]:List l8))
def F27:Fn:=⟨[acN,au,au],[.val ⟨true,AX,false⟩],fun k ((a,b,_),c,e,_)=>S27 k a b c e⟩
theorem ok27:O 27 F27:=okF (ah ok19 <| ah ok67 aj) [(12,2)] (fun k=>(.join 6 ame (fun (((a,b,_),_),_,(c,e,f,_),(h,i,l,m,n,o,_),_)=>WA k a b c e f h i l m n o) .nil)) Tryz.func27 rfl
abbrev aiS:Cut:=⟨[3],[.own 108 PX],[.fK 140 [.cell EF,cI]],60,[]⟩
def U4 (k:Nat) (a:List Int) (b:Int) (c:List yu):Option EC :=
 (S74 k (5,(0,0,0,[],[],[]),(0,0),0,0,0)).bind fun q14 =>
 ap c ([q14.1.1]:List yu) 168 fun r15 =>
 some ((r15,()),(a,b,()),())
abbrev aiT:Cut:=⟨[0,3],[.pin false 0,.own 108 PX],[.fK 140 [.cell EF,cI]],60,[]⟩
def MU (k:Nat) (a:List Int) (b:Int) (c:List yu):Option EC :=
 (FT k a b 3).bind fun MS =>
 (bif MS.1.1==0 then
  (S74 k (4,(0,0,0,[],[],[]),(0,0),0,0,0)).bind fun q12 =>
  ap c ([q12.1.1]:List yu) 168 fun r13 =>
  U4 k MS.2.1.1 MS.2.1.2.1 r13
 else
  U4 k MS.2.1.1 MS.2.1.2.1 c)
abbrev afs:Cut:=⟨[0,3,4,6],[.pin false 0,.own 108 PX,cI,cI],[.fK 140 [.cell EF,cI]],60,[]⟩
def aaL (k:Nat) (g8:(List Int) -> Int -> (List yu) -> Int -> Int -> Option EC) (a:List Int) (b:Int) (c:List yu) (e f:Int):Option EC :=
 (bif decide (f>0) then
  (FT k a b 3).bind fun q4 =>
  (S27 k q4.2.1.1 q4.2.1.2.1 (IntKind.i64.wrap ((IntKind.i64.wrap (3 * f))+q4.1.1)) e).bind fun q5 =>
  (S74 k (1,q5.1.1,(0,0),0,0,0)).bind fun q6 =>
  ap c ([q6.1.1]:List yu) 168 fun r7 =>
  g8 q5.2.1.1 q5.2.1.2.1 r7 e (IntKind.i64.wrap (f - 1))
 else
  (FT k a b 3).bind fun q8 =>
  (bif q8.1.1==0 then
   (S74 k (3,(0,0,0,[],[],[]),(0,0),0,0,0)).bind fun q9 =>
   ap c ([q9.1.1]:List yu) 168 fun r10 =>
   MU k q8.2.1.1 q8.2.1.2.1 r10
  else
   MU k q8.2.1.1 q8.2.1.2.1 c))
def akM (k:Nat):Xx (((EB×Unit)×Unit×(List yu)×Int×Int×Unit) -> Option EC):=dh (bq (bq (ay (ay bg)) bg) (bf (ay (ay (ay bg))))) (aaL k)
def WB (k a:Nat) (b:List Int) (c:Int) (e:List yu) (f h:Int):Option EC:=iter afs (akM k) a (((b,c,()),()),(),e,f,h,())
theorem aaM (k a b c e f h):WB k (a+1) b c e f h=aaL k (WB k a) b c e f h:=Ba _ _ _ _
abbrev aft:Cut:=⟨[0,3,4,5],[.pin false 0,.own 108 PX,cI,cI],[.fK 140 [.cell EF,cI]],60,[]⟩
def aaN (k:Nat) (g4:(List Int) -> Int -> (List yu) -> Int -> Int -> Option EC) (a:List Int) (b:Int) (c:List yu) (e f:Int):Option EC :=
 (bif decide (f<e) then
  (S74 k (2,(0,0,0,[],[],[]),(0,0),0,0,0)).bind fun q1 =>
  ap c ([q1.1.1]:List yu) 168 fun r2 =>
  g4 a b r2 e (IntKind.i64.wrap (f+1))
 else
  (FT k a b 4).bind fun q3 =>
  WB k k q3.2.1.1 q3.2.1.2.1 c e (IntKind.i64.wrap (q3.1.1+1)))
def akN (k:Nat):Xx (((EB×Unit)×Unit×(List yu)×Int×Int×Unit) -> Option EC):=dh (bq (bq (ay (ay bg)) bg) (bf (ay (ay (ay bg))))) (aaN k)
def aaO (k a:Nat) (b:List Int) (c:Int) (e:List yu) (f h:Int):Option EC:=iter aft (akN k) a (((b,c,()),()),(),e,f,h,())
theorem aaP (k a b c e f h):aaO k (a+1) b c e f h=aaN k (aaO k a) b c e f h:=Ba _ _ _ _
def S31 (k:Nat) (a:List Int) (b:Int):Option EC :=
 (FT k a b 4).bind fun q0 =>
 aaO k k q0.2.1.1 q0.2.1.2.1 ([]:List yu) q0.1.1 0
def F31:Fn:=⟨[acN],[.val ⟨false,(.sl 108 PX),true⟩],fun k x=>S31 k x.1.1 x.1.2.1⟩
theorem ok31:O 31 F31:=okF (ah ok19 <| ah ok27 <| ah ok74 aj) [(3,2)] (fun k=>(.join 15 aiS (fun (((a,b,_),_),c,_)=>U4 k a b c) (.join 13 aiT (fun (((a,b,_),_),_,c,_)=>MU k a b c) (.loop 8 afs (akM k) (fun g=>.nil) (.loop 4 aft (akN k) (fun g=>.nil) .nil))))) Tryz.func31 rfl
def amf (k:Nat) (a:(List Int)×List Bool):Option ((zy×Unit)×Unit) :=
 ap ([]:List Int) a.1 8 fun r0 =>
 ap ([]:List Bool) a.2 1 fun r1 =>
 some (((r0,r1),()),())
def F221:Fn:=⟨[aat],[Ws],fun k x=>amf k x.1⟩
theorem ok221:O 221 F221:=okF aj [] On Tryz.func221 rfl
abbrev aaQ:Cut:=⟨[2,3,5,6],[.box 38 [.nil,.nil],.box 103 [cI,cI],.box 38 [.own 3 (.int .i64),.own 4 .bool],cI],[],50,[]⟩
def amg (k:Nat) (g3:Int -> Int -> (List Int) -> (List Bool) -> Int -> Option Wd) (a b:Int) (x:List Int) (c:List Bool) (e:Int):Option Wd :=
 (bif decide (e<(c.length:Int)) then
  (bif decide (e<(x.length:Int)) then
   ix c e <|
   (bif !(rd c e false) then
    ix c e <|
    ix x e <|
    ix x e <|
    ix (upd x e (IntKind.i64.wrap ((rd x e 0)+1))) e <|
    some (((upd x e (IntKind.i64.wrap ((rd x e 0)+1)),upd c e true),(e,rd (upd x e (IntKind.i64.wrap ((rd x e 0)+1))) e 0),true,()),())
   else
    g3 a b x c (IntKind.i64.wrap (e+1)))
  else
   some (((x,c),(0,0),false,()),()))
 else
  some (((x,c),(0,0),false,()),()))
def afu (k:Nat):Xx (((Unit)×(Unit×Unit×Unit)×(Int×Int×Unit)×((List Int)×(List Bool)×Unit)×Int×Unit) -> Option Wd):=dh (bf (bq (bf (bf bg)) (bq (ay (ay bg)) (bq (ay (ay bg)) (ay bg))))) (amg k)
def amh (k a:Nat) (b c:Int) (x:List Int) (e:List Bool) (f:Int):Option Wd:=iter aaQ (afu k) a ((),((),(),()),(b,c,()),(x,e,()),f,())
def aoK (k:Nat) (a:(List Int)×List Bool):Option Wd :=
 (amf k a).bind fun q0 =>
 amh k k 0 0 q0.1.1.1 q0.1.1.2 0
def F179:Fn:=⟨[aat],[Ws,.val ⟨true,DN,true⟩,rB],fun k x=>aoK k x.1⟩
theorem ok179:O 179 F179:=okF (ah ok221 aj) [] (fun k=>(.loop 3 aaQ (afu k) (fun g=>.nil) .nil)) Tryz.func179 rfl
abbrev aaR:Cut:=⟨[0,3,4,5,6],[.cell KF,.cell (.int .u32),cI,.cell (.int .u64),cI],[],34,[]⟩
def ami (k:Nat) (g3:Wj) (g7:(List Int) -> Int -> Int -> Int -> Int -> Option l6) (a:List Int) (b c e f:Int):Option l6 :=
 (bif decide (f<8) then
  g7 a (Tq .u32 (IntKind.u32.wrap ((IntKind.u32.wrap (b * 32))+(IntKind.u32.wrap (Int.tdiv b 134217728)))) (IntKind.u32.wrap (Int.tmod e 256))) c (IntKind.u64.wrap (Int.tdiv e 256)) (IntKind.i64.wrap (f+1))
 else
  g3 a b (IntKind.i64.wrap (c+1)))
def afv (k:Nat) (g3:Wj):Xx (((Unit)×(List Int)×Int×Int×Int×Int×Unit) -> Option l6):=dh (bf (ay (ay (ay (ay (ay bg)))))) (ami k g3)
def amj (k:Nat) (g3:Wj) (a:Nat) (b:List Int) (c e f h:Int):Option l6:=iter aaR (afv k g3) a ((),b,c,e,f,h,())
abbrev aaS:Cut:=⟨[0,3,4],[.cell KF,.cell (.int .u32),cI],[],34,[]⟩
def amk (k:Nat) (g3:Wj) (a:List Int) (b c:Int):Option l6 :=
 (bif decide (c<(a.length:Int)) then
  ix a c <|
  amj k g3 k a b c (IntKind.u64.wrap (rd a c 0)) 0
 else
  some ((b,()),()))
def afw (k:Nat):Xx (((Unit)×(List Int)×Int×Int×Unit) -> Option l6):=dh (bf (ay (ay (ay bg)))) (amk k)
def aml (k a:Nat) (b:List Int) (c e:Int):Option l6:=iter aaS (afw k) a ((),b,c,e,())
def aoL (k:Nat) (a:List Int):Option l6 :=
 aml k k a 2166136261 0
def F191:Fn:=⟨[.val ⟨false,KF,false⟩],[al4],fun k x=>aoL k x.1⟩
theorem ok191:O 191 F191:=okF aj [] (fun k=>(.loop 3 aaS (afw k) (fun g=>(fun (g3:Wj)=>(.loop 7 aaR (afv k g3) (fun g=>.nil) .nil)) (fun l_1 h i=>g ((),l_1,h,i,()))) .nil)) Tryz.func191 rfl
abbrev aaT:Cut:=⟨[1,3,5],[.box 122 [cI,cI,cI,cI,cI,.cell KF,.cell lq,.cell (.int .u32),.cell (.sl 297 ED),.cell (.int .u32)],.own 2 (.int .i64),cI],[],88,[]⟩
def amm (k:Nat) (g9:akI) (a b c e f:Int) (h i:List Int) (l:Int) (m:mh) (n:Int) (o:List Int) (p:Int):Option l6 :=
 (bif decide (p<(m.length:Int)) then
  ix m p <|
  ix m p <|
  ap o ([(rd m p (0,0)).1,IntKind.i64.wrap (rd m p (0,0)).2]:List Int) 8 fun r4 =>
  g9 a b c e f h i l m n r4 (IntKind.i64.wrap (p+1))
 else
  (aoL k o).bind fun q5 =>
  some ((q5.1.1,()),()))
def afx (k:Nat):Xx (((Unit)×akF×(List Int)×Int×Unit) -> Option l6):=dh (bf (bq (ay (ay (ay (ay (ay (ay (ay (ay (ay (ay bg)))))))))) (ay (ay bg)))) (amm k)
def amn (k a:Nat) (b c e f h:Int) (i l:List Int) (m:Int) (n:mh) (o:Int) (p:List Int) (s:Int):Option l6:=iter aaT (afx k) a ((),(b,c,e,f,h,i,l,m,n,o,()),p,s,())
abbrev aaU:Cut:=⟨[1,3,4],[.box 122 [cI,cI,cI,cI,cI,.cell KF,.cell lq,.cell (.int .u32),.cell (.sl 297 ED),.cell (.int .u32)],.own 2 (.int .i64),cI],[],88,[]⟩
def amo (k:Nat) (g4:akI) (a b c e f:Int) (h i:List Int) (l:Int) (m:mh) (n:Int) (o:List Int) (p:Int):Option l6 :=
 (bif decide (p<(i.length:Int)) then
  ix i p <|
  ap o ([rd i p 0]:List Int) 8 fun r2 =>
  g4 a b c e f h i l m n r2 (IntKind.i64.wrap (p+1))
 else
  ap o ([IntKind.i64.wrap l]:List Int) 8 fun r3 =>
  amn k k a b c e f h i l m n r3 0)
def afy (k:Nat):Xx (((Unit)×akF×(List Int)×Int×Unit) -> Option l6):=dh (bf (bq (ay (ay (ay (ay (ay (ay (ay (ay (ay (ay bg)))))))))) (ay (ay bg)))) (amo k)
def amq (k a:Nat) (b c e f h:Int) (i l:List Int) (m:Int) (n:mh) (o:Int) (p:List Int) (s:Int):Option l6:=iter aaU (afy k) a ((),(b,c,e,f,h,i,l,m,n,o,()),p,s,())
def Ya (k:Nat) (x:aap):Option l6 :=
 ap ([x.1,x.2.1.1,x.2.1.2,x.2.2.1.1,x.2.2.1.2,(x.2.2.2.1.1.length:Int)]:List Int) x.2.2.2.1.1 8 fun r0 =>
 ap r0 ([(x.2.2.2.1.2.length:Int)]:List Int) 8 fun r1 =>
 amq k k x.1 x.2.1.1 x.2.1.2 x.2.2.1.1 x.2.2.1.2 x.2.2.2.1.1 x.2.2.2.1.2 x.2.2.2.2.1.1 x.2.2.2.2.1.2 x.2.2.2.2.2 r1 0
def F148:Fn:=⟨[aax],[al4],fun k x=>Ya k x.1⟩
theorem ok148:O 148 F148:=okF (ah ok191 aj) [] (fun k=>(.loop 9 aaT (afx k) (fun g=>.nil) (.loop 4 aaU (afy k) (fun g=>.nil) .nil))) Tryz.func148 rfl
def amr (k:Nat) (a:Int) (b:Int×Int):Option ((jy×Unit)×Unit) :=
 (bif a==1 then
  (Ya k (a,b,(8,0),([],[]),(0,[]),0)).bind fun q0 =>
  some (((a,b,(8,0),([],[]),(0,[]),q0.1.1),()),())
 else
  (Ya k (a,b,(0,0),([],[]),(0,[]),0)).bind fun q1 =>
  some (((a,b,(0,0),([],[]),(0,[]),q1.1.1),()),()))
def F167:Fn:=⟨[au,Wp],[.val ⟨true,J9,true⟩],fun k x=>amr k x.1 x.2.1⟩
theorem ok167:O 167 F167:=okF (ah ok148 aj) [] On Tryz.func167 rfl
def Yb (k:Nat) (a:zy×List jy) (b:Int) (x:aap):Option (((zy×List jy)×Unit)×Unit) :=
 ap ([]:List jy) a.2 128 fun r0 =>
 ix r0 b <|
 some (((a.1,upd r0 b x),()),())
def F137:Fn:=⟨[PZ,au,aax],[aau],fun k (a,b,c,_)=>Yb k a b c⟩
theorem ok137:O 137 F137:=okF aj [] On Tryz.func137 rfl
abbrev afz:Cut:=⟨[1,2,4,5,7,9],[cI,.box 41 [.cell lq,.cell qj,.cell BO],.box 41 [.nil,.nil,.nil],.box 103 [cI,cI],cI,cI],[],73,[]⟩
def I7 (k:Nat) (a:Int) (b:List Int) (c:List Bool) (e:List jy) (f h i l:Int):Option PW :=
 (aoK k (b,c)).bind fun q0 =>
 (bif decide (i≥l) then
  some ((((b,c),e),(0,0),false,()),())
 else
  (bif !q0.1.2.2.1 then
   some ((((b,c),e),(0,0),false,()),())
  else
   (bif decide (q0.1.2.1.1≥(e.length:Int)) then
    some ((((b,c),e),(0,0),false,()),())
   else
    (amr k a q0.1.2.1).bind fun q1 =>
    (Yb k ((b,c),e) q0.1.2.1.1 q1.1.1).bind fun q2 =>
    some (((q0.1.1,q2.1.1.2),q0.1.2.1,true,()),()))))
abbrev aaV:Cut:=⟨[1,2,4,5,7,8],[cI,.box 41 [.cell lq,.cell qj,.cell BO],.box 41 [.nil,.nil,.nil],.box 103 [cI,cI],cI,cI],[],73,[]⟩
def ams (k:Nat) (g3:Int -> (List Int) -> (List Bool) -> (List jy) -> Int -> Int -> Int -> Int -> Option PW) (a:Int) (b:List Int) (c:List Bool) (e:List jy) (f h i l:Int):Option PW :=
 (bif decide (l<(e.length:Int)) then
  ix e l <|
  (bif (rd e l (0,(0,0),(0,0),([],[]),(0,[]),0)).1==a then
   g3 a b c e f h (IntKind.i64.wrap (i+1)) (IntKind.i64.wrap (l+1))
  else
   g3 a b c e f h i (IntKind.i64.wrap (l+1)))
 else
  (bif a==1 then
   I7 k a b c e f h i 4
  else
   (bif a==2 then
    I7 k a b c e f h i 4
   else
    (bif a==3 then
     I7 k a b c e f h i 4
    else
     I7 k a b c e f h i 0))))
def afA (k:Nat):Xx (((Unit)×Int×akH×(Unit×Unit×Unit×Unit)×(Int×Int×Unit)×Int×Int×Unit) -> Option PW):=dh (bf (ay (bq (ay (ay (ay bg))) (bq (bf (bf (bf bg))) (bq (ay (ay bg)) (ay (ay bg))))))) (ams k)
def amt (k a:Nat) (b:Int) (c:List Int) (e:List Bool) (f:List jy) (h i l m:Int):Option PW:=iter aaV (afA k) a ((),b,(c,e,f,()),((),(),(),()),(h,i,()),l,m,())
def Yc (k:Nat) (a:zy×List jy) (b:Int):Option PW :=
 amt k k b a.1.1 a.1.2 a.2 0 0 0 0
def F132:Fn:=⟨[PZ,au],[aau,.val ⟨true,DN,true⟩,rB],fun k x=>Yc k x.1 x.2.1⟩
theorem ok132:O 132 F132:=okF (ah ok137 <| ah ok167 <| ah ok179 aj) [] (fun k=>(.join 15 afz (fun (_,a,(b,c,e,_),_,(f,h,_),i,l,_)=>I7 k a b c e f h i l) (.loop 3 aaV (afA k) (fun g=>.nil) .nil))) Tryz.func132 rfl
abbrev afB:Cut:=⟨[1,3,4],[.box 41 [.cell lq,.cell qj,.cell BO],.own 3 (.int .i64),cI],[],24,[]⟩
def aoM (k:Nat) (g3:(List Int) -> (List Bool) -> (List jy) -> (List Int) -> Int -> Option DR) (a:List Int) (b:List Bool) (c:List jy) (e:List Int) (f:Int):Option DR :=
 (bif decide (f<(c.length:Int)) then
  ix c f <|
  (bif (rd c f (0,(0,0),(0,0),([],[]),(0,[]),0)).1==1 then
   ap e ([f]:List Int) 8 fun r0 =>
   g3 a b c r0 (IntKind.i64.wrap (f+1))
  else
   g3 a b c e (IntKind.i64.wrap (f+1)))
 else
  some ((e,()),()))
def akO (k:Nat):Xx (((Unit)×akH×(List Int)×Int×Unit) -> Option DR):=dh (bf (bq (ay (ay (ay bg))) (ay (ay bg)))) (aoM k)
def aoN (k a:Nat) (b:List Int) (c:List Bool) (e:List jy) (f:List Int) (h:Int):Option DR:=iter afB (akO k) a ((),(b,c,e,()),f,h,())
def S40 (k:Nat) (a:zy×List jy):Option DR :=
 aoN k k a.1.1 a.1.2 a.2 ([]:List Int) 0
def F40:Fn:=⟨[PZ],[aav],fun k x=>S40 k x.1⟩
theorem ok40:O 40 F40:=okF aj [(3,2)] (fun k=>(.loop 3 afB (akO k) (fun g=>.nil) .nil)) Tryz.func40 rfl
abbrev afC:Cut:=⟨[1,3,4,5],[.box 44 [cI,cI,.cell (.sl 77 AX),.cell (.sl 96 wo),.cell .bool,.cell .bool,.cell .bool,.cell BA,.cell lq,.cell qj,.cell BO,.cell lq,.cell qj],.own 114 DN,.own 3 (.int .i64),cI],[],29,[]⟩
def afD (k:Nat) (g4:Int -> Int -> (List l9) -> EG -> Bool -> Bool -> Bool -> (List kg) -> (List Int) -> (List Bool) -> (List jy) -> (List Int) -> (List Bool) -> ng -> (List Int) -> Int -> Option ((ng×Unit)×Unit)) (a b:Int) (c:List l9) (e:List (PN Int 5)) (f h i:Bool) (l:List kg) (m:List Int) (n:List Bool) (o:List jy) (p:List Int) (s:List Bool) (t:mh) (u:List Int) (v:Int):Option ((ng×Unit)×Unit) :=
 (bif decide (v<(u.length:Int)) then
  ix u v <|
  ix o (rd u v 0) <|
  ap t ([(rd o (rd u v 0) (0,(0,0),(0,0),([],[]),(0,[]),0)).2.2.1]:List (Int×Int)) 16 fun r1 =>
  g4 a b c e f h i l m n o p s r1 u (IntKind.i64.wrap (v+1))
 else
  some ((t,()),()))
def akP (k:Nat):Xx (((Unit)×VX×ng×(List Int)×Int×Unit) -> Option ((ng×Unit)×Unit)):=dh (bf (bq (ay (ay (ay (ay (ay (ay (ay (ay (ay (ay (ay (ay (ay bg))))))))))))) (ay (ay (ay bg))))) (afD k)
def afE (k a:Nat) (b c:Int) (e:List l9) (f:List (PN Int 5)) (h i l:Bool) (m:List kg) (n:List Int) (o:List Bool) (p:List jy) (s:List Int) (t:List Bool) (u:mh) (v:List Int) (w:Int):Option ((ng×Unit)×Unit):=iter afC (akP k) a ((),(b,c,e,f,h,i,l,m,n,o,p,s,t,()),u,v,w,())
theorem aiU (k a b c e f h i l m n o p s t u v w):afE k (a+1) b c e f h i l m n o p s t u v w=afD k (afE k a) b c e f h i l m n o p s t u v w:=Ba _ _ _ _
def S42 (k:Nat) (a:KD):Option ((ng×Unit)×Unit) :=
 (S40 k a.2.2.2.2.2.2.2.2.1).bind fun q0 =>
 afE k k a.1 a.2.1 a.2.2.1 a.2.2.2.1 a.2.2.2.2.1 a.2.2.2.2.2.1 a.2.2.2.2.2.2.1 a.2.2.2.2.2.2.2.1 a.2.2.2.2.2.2.2.2.1.1.1 a.2.2.2.2.2.2.2.2.1.1.2 a.2.2.2.2.2.2.2.2.1.2 a.2.2.2.2.2.2.2.2.2.1 a.2.2.2.2.2.2.2.2.2.2 ([]:List (Int×Int)) q0.1.1 0
def F42:Fn:=⟨[ML],[aas],fun k x=>S42 k x.1⟩
theorem ok42:O 42 F42:=okF (ah ok40 aj) [(3,2)] (fun k=>(.loop 4 afC (akP k) (fun g=>.nil) .nil)) Tryz.func42 rfl
def S89 (k:Nat) (a:zy×List jy) (b:Int) (x:aap):Option (((zy×List jy)×Unit)×Unit) :=
 (bif decide (b<0) then
  some ((a,()),())
 else
  (bif decide (b≥(a.2.length:Int)) then
   some ((a,()),())
  else
   ix a.2 b <|
   (bif (rd a.2 b (0,(0,0),(0,0),([],[]),(0,[]),0)).1==0 then
    some ((a,()),())
   else
    ix a.2 b <|
    (Ya k (rd a.2 b (0,(0,0),(0,0),([],[]),(0,[]),0))).bind fun q0 =>
    (Ya k ((rd a.2 b (0,(0,0),(0,0),([],[]),(0,[]),0)).1,(rd a.2 b (0,(0,0),(0,0),([],[]),(0,[]),0)).2.1,x.2.2.1,x.2.2.2.1,x.2.2.2.2.1,(rd a.2 b (0,(0,0),(0,0),([],[]),(0,[]),0)).2.2.2.2.2)).bind fun q1 =>
    (bif (rd a.2 b (0,(0,0),(0,0),([],[]),(0,[]),0)).2.2.2.2.2 != q0.1.1 then
     (Yb k a b ((rd a.2 b (0,(0,0),(0,0),([],[]),(0,[]),0)).1,(rd a.2 b (0,(0,0),(0,0),([],[]),(0,[]),0)).2.1,x.2.2.1,x.2.2.2.1,x.2.2.2.2.1,Tt .u32 q1.1.1)).bind fun q2 =>
     some ((q2.1.1,()),())
    else
     (Yb k a b ((rd a.2 b (0,(0,0),(0,0),([],[]),(0,[]),0)).1,(rd a.2 b (0,(0,0),(0,0),([],[]),(0,[]),0)).2.1,x.2.2.1,x.2.2.2.1,x.2.2.2.2.1,q1.1.1)).bind fun q3 =>
     some ((q3.1.1,()),())))))
def F89:Fn:=⟨[PZ,au,aax],[aau],fun k (a,b,c,_)=>S89 k a b c⟩
theorem ok89:O 89 F89:=okF (ah ok137 <| ah ok148 aj) [] On Tryz.func89 rfl
abbrev afG:Cut:=⟨[1,2,4,5,6],[.cell PY,.box 44 [cI,cI,.cell (.sl 77 AX),.cell (.sl 96 wo),.cell .bool,.cell .bool,.cell .bool,.cell BA,.cell lq,.cell qj,.cell BO,.cell lq,.cell qj],.box 44 [cI,cI,.nil,.nil,.cell .bool,.cell .bool,.cell .bool,.nil,.nil,.nil,.nil,.nil,.nil],.own 3 (.int .i64),cI],[],48,[]⟩
def afH (k:Nat) (g3:ng -> Int -> Int -> (List l9) -> EG -> Bool -> Bool -> Bool -> (List kg) -> (List Int) -> (List Bool) -> (List jy) -> (List Int) -> (List Bool) -> Int -> Int -> Bool -> Bool -> Bool -> (List Int) -> Int -> Option ((OQ×Unit)×Unit)) (a:mh) (b c:Int) (e:List l9) (f:List (PN Int 5)) (h i l:Bool) (m:List kg) (n:List Int) (o:List Bool) (p:List jy) (s:List Int) (t:List Bool) (u v:Int) (w y z:Bool) (A:List Int) (B:Int):Option ((OQ×Unit)×Unit) :=
 (bif decide (B<(A.length:Int)) then
  ix A B <|
  ix p (rd A B 0) <|
  ix a B <|
  (bif !(fC DN (rd p (rd A B 0) (0,(0,0),(0,0),([],[]),(0,[]),0)).2.2.1 (rd a B (0,0))) then
   ix a B <|
   ix A B <|
   (S89 k ((n,o),p) (rd A B 0) ((rd p (rd A B 0) (0,(0,0),(0,0),([],[]),(0,[]),0)).1,(rd p (rd A B 0) (0,(0,0),(0,0),([],[]),(0,[]),0)).2.1,rd a B (0,0),(rd p (rd A B 0) (0,(0,0),(0,0),([],[]),(0,[]),0)).2.2.2)).bind fun q1 =>
   g3 a b c e f h i l m q1.1.1.1.1 q1.1.1.1.2 q1.1.1.2 s t u v w y z A (IntKind.i64.wrap (B+1))
  else
   g3 a b c e f h i l m n o p s t u v w y z A (IntKind.i64.wrap (B+1)))
 else
  some (((b,c,e,f,h,i,l,m,((n,o),p),s,t),()),()))
def akQ (k:Nat):Xx (((Unit)×ng×VX×VY×(List Int)×Int×Unit) -> Option ((OQ×Unit)×Unit)):=dh (bf (ay (bq (ay (ay (ay (ay (ay (ay (ay (ay (ay (ay (ay (ay (ay bg))))))))))))) (bq (ay (ay (bf (bf (ay (ay (ay (bf (bf (bf (bf (bf (bf bg))))))))))))) (ay (ay bg)))))) (afH k)
def afI (k a:Nat) (b:mh) (c e:Int) (f:List l9) (h:List (PN Int 5)) (i l m:Bool) (n:List kg) (o:List Int) (p:List Bool) (s:List jy) (t:List Int) (u:List Bool) (v w:Int) (y z A:Bool) (B:List Int) (C:Int):Option ((OQ×Unit)×Unit):=iter afG (akQ k) a ((),b,(c,e,f,h,i,l,m,n,o,p,s,t,u,()),(v,w,(),(),y,z,A,(),(),(),(),(),(),()),B,C,())
theorem aiV (k a b c e f h i l m n o p s t u v w y z A B C):afI k (a+1) b c e f h i l m n o p s t u v w y z A B C=afH k (afI k a) b c e f h i l m n o p s t u v w y z A B C:=Ba _ _ _ _
def S43 (k:Nat) (a:KD) (b:mh):Option ((OQ×Unit)×Unit) :=
 (S40 k a.2.2.2.2.2.2.2.2.1).bind fun q0 =>
 afI k k b a.1 a.2.1 a.2.2.1 a.2.2.2.1 a.2.2.2.2.1 a.2.2.2.2.2.1 a.2.2.2.2.2.2.1 a.2.2.2.2.2.2.2.1 a.2.2.2.2.2.2.2.2.1.1.1 a.2.2.2.2.2.2.2.2.1.1.2 a.2.2.2.2.2.2.2.2.1.2 a.2.2.2.2.2.2.2.2.2.1 a.2.2.2.2.2.2.2.2.2.2 0 0 false false false q0.1.1 0
def F43:Fn:=⟨[ML,TT],[Wt],fun k x=>S43 k x.1 x.2.1⟩
theorem ok43:O 43 F43:=okF (ah ok40 <| ah ok89 aj) [] (fun k=>(.loop 3 afG (akQ k) (fun g=>.nil) .nil)) Tryz.func43 rfl
abbrev aaW:Cut:=⟨[1,2,6,7],[.box 44 [cI,cI,.cell (.sl 77 AX),.cell (.sl 96 wo),.cell .bool,.cell .bool,.cell .bool,.cell BA,.cell lq,.cell qj,.cell BO,.cell lq,.cell qj],.box 44 [cI,cI,.nil,.nil,.cell .bool,.cell .bool,.cell .bool,.nil,.nil,.nil,.nil,.nil,.nil],.own 114 DN,cI],[],48,[]⟩
def Yd (k:Nat) (g11:Int -> Int -> (List l9) -> EG -> Bool -> Bool -> Bool -> (List kg) -> (List Int) -> (List Bool) -> (List jy) -> (List Int) -> (List Bool) -> Int -> Int -> Bool -> Bool -> Bool -> ng -> Int -> Option HV) (a b:Int) (c:List l9) (e:List (PN Int 5)) (f h i:Bool) (l:List kg) (m:List Int) (n:List Bool) (o:List jy) (p:List Int) (s:List Bool) (t u:Int) (v w y:Bool) (z:mh) (A:Int):Option HV :=
 (bif decide (A<(z.length:Int)) then
  (S41 k c A).bind fun q3 =>
  ix z A <|
  g11 a b c e f h i l m n o p s t u v w y (upd z A (q3.1.1,(rd z A (0,0)).2)) (IntKind.i64.wrap (A+1))
 else
  (S43 k (a,b,c,e,f,h,i,l,((m,n),o),p,s) z).bind fun q4 =>
  some (((q4.1.1.1,q4.1.1.2.1,q4.1.1.2.2.1,q4.1.1.2.2.2.1,true,q4.1.1.2.2.2.2.2),0,()),()))
def afJ (k:Nat):Xx (((Unit)×VX×VY×ng×Int×Unit) -> Option HV):=dh (bf (bq (ay (ay (ay (ay (ay (ay (ay (ay (ay (ay (ay (ay (ay bg))))))))))))) (bq (ay (ay (bf (bf (ay (ay (ay (bf (bf (bf (bf (bf (bf bg))))))))))))) (ay (ay bg))))) (Yd k)
def Ye (k a:Nat) (b c:Int) (e:List l9) (f:List (PN Int 5)) (h i l:Bool) (m:List kg) (n:List Int) (o:List Bool) (p:List jy) (s:List Int) (t:List Bool) (u v:Int) (w y z:Bool) (A:mh) (B:Int):Option HV:=iter aaW (afJ k) a ((),(b,c,e,f,h,i,l,m,n,o,p,s,t,()),(u,v,(),(),w,y,z,(),(),(),(),(),(),()),A,B,())
theorem afK (k a b c e f h i l m n o p s t u v w y z A B):Ye k (a+1) b c e f h i l m n o p s t u v w y z A B=Yd k (Ye k a) b c e f h i l m n o p s t u v w y z A B:=Ba _ _ _ _
abbrev afL:Cut:=⟨[1,2,5],[.box 44 [cI,cI,.cell (.sl 77 AX),.cell (.sl 96 wo),.cell .bool,.cell .bool,.cell .bool,.cell BA,.cell lq,.cell qj,.cell BO,.cell lq,.cell qj],.box 44 [cI,cI,.nil,.nil,.cell .bool,.cell .bool,.cell .bool,.nil,.nil,.nil,.nil,.nil,.nil],cI],[],48,[]⟩
def aaX (k:Nat) (g5:Int -> Int -> (List l9) -> EG -> Bool -> Bool -> Bool -> (List kg) -> (List Int) -> (List Bool) -> (List jy) -> (List Int) -> (List Bool) -> Int -> Int -> Bool -> Bool -> Bool -> Int -> Option HV) (a b:Int) (c:List l9) (e:List (PN Int 5)) (f h i:Bool) (l:List kg) (m:List Int) (n:List Bool) (o:List jy) (p:List Int) (s:List Bool) (t u:Int) (v w y:Bool) (z:Int):Option HV :=
 (bif decide (z<4) then
  (S41 k c z).bind fun q1 =>
  (bif decide (q1.1.1<8) then
   some (((a,b,c,e,f,h,i,l,((m,n),o),p,s),4,()),())
  else
   g5 a b c e f h i l m n o p s t u v w y (IntKind.i64.wrap (z+1)))
 else
  (S42 k (a,b,c,e,f,h,i,l,((m,n),o),p,s)).bind fun q2 =>
  Ye k k a b c e f h i l m n o p s t u v w y q2.1.1 0)
def akR (k:Nat):Xx (((Unit)×VX×VY×Int×Unit) -> Option HV):=dh (bf (bq (ay (ay (ay (ay (ay (ay (ay (ay (ay (ay (ay (ay (ay bg))))))))))))) (bq (ay (ay (bf (bf (ay (ay (ay (bf (bf (bf (bf (bf (bf bg))))))))))))) (ay bg)))) (aaX k)
def aaY (k a:Nat) (b c:Int) (e:List l9) (f:List (PN Int 5)) (h i l:Bool) (m:List kg) (n:List Int) (o:List Bool) (p:List jy) (s:List Int) (t:List Bool) (u v:Int) (w y z:Bool) (A:Int):Option HV:=iter afL (akR k) a ((),(b,c,e,f,h,i,l,m,n,o,p,s,t,()),(u,v,(),(),w,y,z,(),(),(),(),(),(),()),A,())
theorem aaZ (k a b c e f h i l m n o p s t u v w y z A):aaY k (a+1) b c e f h i l m n o p s t u v w y z A=aaX k (aaY k a) b c e f h i l m n o p s t u v w y z A:=Ba _ _ _ _
def S13 (k:Nat) (a:KD):Option HV :=
 (bif a.2.2.2.2.1 then
  some ((a,7,()),())
 else
  (S40 k a.2.2.2.2.2.2.2.2.1).bind fun q0 =>
  aaY k k a.1 a.2.1 a.2.2.1 a.2.2.2.1 a.2.2.2.2.1 a.2.2.2.2.2.1 a.2.2.2.2.2.2.1 a.2.2.2.2.2.2.2.1 a.2.2.2.2.2.2.2.2.1.1.1 a.2.2.2.2.2.2.2.2.1.1.2 a.2.2.2.2.2.2.2.2.1.2 a.2.2.2.2.2.2.2.2.2.1 a.2.2.2.2.2.2.2.2.2.2 0 0 false false false (q0.1.1.length:Int))
def F13:Fn:=⟨[ML],[Wt,rI],fun k x=>S13 k x.1⟩
theorem ok13:O 13 F13:=okF (ah ok40 <| ah ok41 <| ah ok42 <| ah ok43 aj) [] (fun k=>(.loop 11 aaW (afJ k) (fun g=>.nil) (.loop 5 afL (akR k) (fun g=>.nil) .nil))) Tryz.func13 rfl
def S16 (k:Nat) (a:Int):Option ((zy×Unit)×Unit) :=
 mk (mx a 0) (mx a 0) 8 <|
 mk (mx a 0) (mx a 0) 1 <|
 some (((List.replicate (mx a 0).toNat (0:Int),List.replicate (mx a 0).toNat (false:Bool)),()),())
def F16:Fn:=⟨[au],[Ws],fun k x=>S16 k x.1⟩
theorem ok16:O 16 F16:=okF aj [] On Tryz.func16 rfl
abbrev afM:Cut:=⟨[1,2,5],[cI,.box 44 [cI,cI,.cell (.sl 77 AX),.cell (.sl 96 wo),.cell .bool,.cell .bool,.cell .bool,.cell BA,.cell lq,.cell qj,.cell BO,.cell lq,.cell qj],cI],[],22,[]⟩
def aa0 (k:Nat) (g2:Int -> Int -> Int -> (List l9) -> EG -> Bool -> Bool -> Bool -> (List kg) -> (List Int) -> (List Bool) -> (List jy) -> (List Int) -> (List Bool) -> Int -> Option l6) (a b c:Int) (e:List l9) (f:List (PN Int 5)) (h i l:Bool) (m:List kg) (n:List Int) (o:List Bool) (p:List jy) (s:List Int) (t:List Bool) (u:Int):Option l6 :=
 (bif decide (u<(m.length:Int)) then
  ix m u <|
  (bif (rd m u (0,0,0,0,(0,Pv (α:=Int) 8 0,[],false),(0,Pv (α:=Int) 8 0,[],false),[],false)).1==a then
   some ((u,()),())
  else
   g2 a b c e f h i l m n o p s t (IntKind.i64.wrap (u+1)))
 else
  some (((-1),()),()))
def akS (k:Nat):Xx (((Unit)×Int×VX×Int×Unit) -> Option l6):=dh (bf (ay (bq (ay (ay (ay (ay (ay (ay (ay (ay (ay (ay (ay (ay (ay bg))))))))))))) (ay bg)))) (aa0 k)
def Q5 (k a:Nat) (b c e:Int) (f:List l9) (h:List (PN Int 5)) (i l m:Bool) (n:List kg) (o:List Int) (p:List Bool) (s:List jy) (t:List Int) (u:List Bool) (v:Int):Option l6:=iter afM (akS k) a ((),b,(c,e,f,h,i,l,m,n,o,p,s,t,u,()),v,())
theorem aa1 (k a b c e f h i l m n o p s t u v):Q5 k (a+1) b c e f h i l m n o p s t u v=aa0 k (Q5 k a) b c e f h i l m n o p s t u v:=Ba _ _ _ _
def S53 (k:Nat) (a:KD) (b:Int):Option l6 :=
 Q5 k k b a.1 a.2.1 a.2.2.1 a.2.2.2.1 a.2.2.2.2.1 a.2.2.2.2.2.1 a.2.2.2.2.2.2.1 a.2.2.2.2.2.2.2.1 a.2.2.2.2.2.2.2.2.1.1.1 a.2.2.2.2.2.2.2.2.1.1.2 a.2.2.2.2.2.2.2.2.1.2 a.2.2.2.2.2.2.2.2.2.1 a.2.2.2.2.2.2.2.2.2.2 0
def F53:Fn:=⟨[ML,au],[rI],fun k x=>S53 k x.1 x.2.1⟩
theorem ok53:O 53 F53:=okF aj [] (fun k=>(.loop 2 afM (akS k) (fun g=>.nil) .nil)) Tryz.func53 rfl
def S54 (k:Nat) (a:List kg) (b:Int):Option (((List kg)×Unit)×Unit) :=
 sx a 0 b <|
 ap ([]:List kg) (sub a 0 b) 272 fun r0 =>
 sx a (IntKind.i64.wrap (b+1)) (a.length:Int) <|
 ap r0 (sub a (IntKind.i64.wrap (b+1)) (a.length:Int)) 272 fun r1 =>
 some ((r1,()),())
def F54:Fn:=⟨[.val ⟨false,BA,false⟩,au],[.val ⟨false,BA,true⟩],fun k x=>S54 k x.1 x.2.1⟩
theorem ok54:O 54 F54:=okF aj [] On Tryz.func54 rfl
def S71 (k:Nat) (a:Int):Option KE :=
 some (((0,(a,0,0,0,0,0,0,0),[],false),()),())
def F71:Fn:=⟨[au],[Wq],fun k x=>S71 k x.1⟩
theorem ok71:O 71 F71:=okF aj [] On Tryz.func71 rfl
def S55 (k:Nat) (a b c:Int):Option ((kg×Unit)×Unit) :=
 (S71 k c).bind fun q0 =>
 some (((a,b,c,0,q0.1.1,q0.1.1,[],false),()),())
def F55:Fn:=⟨[au,au,au],[.val ⟨true,J8,false⟩],fun k (a,b,c,_)=>S55 k a b c⟩
theorem ok55:O 55 F55:=okF (ah ok71 aj) [] On Tryz.func55 rfl
abbrev aiX:Cut:=⟨[1,2,3,6,9,11,12],[cI,cI,.box 44 [cI,cI,.cell (.sl 77 AX),.cell (.sl 96 wo),.cell .bool,.cell .bool,.cell .bool,.cell BA,.cell lq,.cell qj,.cell BO,.cell lq,.cell qj],.box 44 [cI,cI,.nil,.nil,.cell .bool,.cell .bool,.cell .bool,.nil,.nil,.nil,.nil,.nil,.nil],.own 82 BN,.box 44 [cI,cI,.cell (.sl 77 AX),.cell (.sl 96 wo),.cell .bool,.cell .bool,.cell .bool,.cell BA,.cell lq,.cell qj,.cell BO,.cell lq,.cell qj],cI],[],116,[]⟩
def MV (k:Nat) (a b c e:Int) (f:List l9) (h:List (PN Int 5)) (i l m:Bool) (n:List kg) (o:List Int) (p:List Bool) (s:List jy) (t:List Int) (u:List Bool) (v w:Int) (y z A:Bool) (B:List (PN Int 6)) (C D:Int) (G:List l9) (H:List (PN Int 5)) (I J K:Bool) (M:List kg) (N:List Int) (O:List Bool) (P:List jy) (Q:List Int) (T:List Bool) (U:Int):Option MK :=
 sx M 0 U <|
 ap ([]:List kg) (sub M 0 U) 272 fun r3 =>
 (S55 k a c b).bind fun q4 =>
 ap r3 ([q4.1.1]:List kg) 272 fun r5 =>
 sx M U (M.length:Int) <|
 ap r5 (sub M U (M.length:Int)) 272 fun r6 =>
 ap B ([(c,1,a,0,b,0)]:List (PN Int 6)) 48 fun r7 =>
 some (((C,D,G,H,I,J,K,r6,((N,O),P),Q,T),r7,0,()),())
abbrev aa2:Cut:=⟨[1,2,3,6,9,11,12],[cI,cI,.box 44 [cI,cI,.cell (.sl 77 AX),.cell (.sl 96 wo),.cell .bool,.cell .bool,.cell .bool,.cell BA,.cell lq,.cell qj,.cell BO,.cell lq,.cell qj],.box 44 [cI,cI,.nil,.nil,.cell .bool,.cell .bool,.cell .bool,.nil,.nil,.nil,.nil,.nil,.nil],.own 82 BN,.box 44 [cI,cI,.cell (.sl 77 AX),.cell (.sl 96 wo),.cell .bool,.cell .bool,.cell .bool,.cell BA,.cell lq,.cell qj,.cell BO,.cell lq,.cell qj],cI],[],116,[]⟩
def U5 (k:Nat) (g18:Int -> Int -> Int -> Int -> (List l9) -> EG -> Bool -> Bool -> Bool -> (List kg) -> (List Int) -> (List Bool) -> (List jy) -> (List Int) -> (List Bool) -> Int -> Int -> Bool -> Bool -> Bool -> AZ -> Int -> Int -> (List l9) -> EG -> Bool -> Bool -> Bool -> (List kg) -> (List Int) -> (List Bool) -> (List jy) -> (List Int) -> (List Bool) -> Int -> Option MK) (a b c e:Int) (f:List l9) (h:List (PN Int 5)) (i l m:Bool) (n:List kg) (o:List Int) (p:List Bool) (s:List jy) (t:List Int) (u:List Bool) (v w:Int) (y z A:Bool) (B:List (PN Int 6)) (x C:Int) (D:List l9) (G:List (PN Int 5)) (H I J:Bool) (K:List kg) (M:List Int) (N:List Bool) (O:List jy) (P:List Int) (Q:List Bool) (T:Int):Option MK :=
 (bif decide (T<(K.length:Int)) then
  ix K T <|
  (bif decide ((rd K T (0,0,0,0,(0,Pv (α:=Int) 8 0,[],false),(0,Pv (α:=Int) 8 0,[],false),[],false)).1<a) then
   g18 a b c e f h i l m n o p s t u v w y z A B x C D G H I J K M N O P Q (IntKind.i64.wrap (T+1))
  else
   MV k a b c e f h i l m n o p s t u v w y z A B x C D G H I J K M N O P Q T)
 else
  MV k a b c e f h i l m n o p s t u v w y z A B x C D G H I J K M N O P Q T)
def afN (k:Nat):Xx (((Unit)×Int×Int×VX×VY×AZ×VX×Int×Unit) -> Option MK):=dh (bf (ay (ay (bq (ay (ay (ay (ay (ay (ay (ay (ay (ay (ay (ay (ay (ay bg))))))))))))) (bq (ay (ay (bf (bf (ay (ay (ay (bf (bf (bf (bf (bf (bf bg))))))))))))) (ay (bq (ay (ay (ay (ay (ay (ay (ay (ay (ay (ay (ay (ay (ay bg))))))))))))) (ay bg)))))))) (U5 k)
def MW (k a:Nat) (b c e f:Int) (h:List l9) (i:List (PN Int 5)) (l m n:Bool) (o:List kg) (p:List Int) (s:List Bool) (t:List jy) (u:List Int) (v:List Bool) (w y:Int) (z A B:Bool) (C:List (PN Int 6)) (x D:Int) (G:List l9) (H:List (PN Int 5)) (I J K:Bool) (M:List kg) (N:List Int) (O:List Bool) (P:List jy) (Q:List Int) (T:List Bool) (U:Int):Option MK:=iter aa2 (afN k) a ((),b,c,(e,f,h,i,l,m,n,o,p,s,t,u,v,()),(w,y,(),(),z,A,B,(),(),(),(),(),(),()),C,(x,D,G,H,I,J,K,M,N,O,P,Q,T,()),U,())
theorem WC (k a b c e f h i l m n o p s t u v w y z A B C x D G H I J K M N O P Q T U):MW k (a+1) b c e f h i l m n o p s t u v w y z A B C x D G H I J K M N O P Q T U=U5 k (MW k a) b c e f h i l m n o p s t u v w y z A B C x D G H I J K M N O P Q T U:=Ba _ _ _ _
abbrev aiY:Cut:=⟨[1,2,3,6,9,10],[cI,cI,.box 44 [cI,cI,.cell (.sl 77 AX),.cell (.sl 96 wo),.cell .bool,.cell .bool,.cell .bool,.cell BA,.cell lq,.cell qj,.cell BO,.cell lq,.cell qj],.box 44 [cI,cI,.nil,.nil,.cell .bool,.cell .bool,.cell .bool,.nil,.nil,.nil,.nil,.nil,.nil],.own 82 BN,cI],[],116,[]⟩
def U6 (k:Nat) (a b c e:Int) (f:List l9) (h:List (PN Int 5)) (i l m:Bool) (n:List kg) (o:List Int) (p:List Bool) (s:List jy) (t:List Int) (u:List Bool) (v w:Int) (y z A:Bool) (B:List (PN Int 6)) (C:Int):Option MK :=
 (bif decide (C≥0) then
  ap B ([(c,13,a,0,0,0)]:List (PN Int 6)) 48 fun r1 =>
  (S54 k n C).bind fun q2 =>
  MW k k a b c e f h i l m n o p s t u v w y z A r1 c e f h i l m q2.1.1 o p s t u 0
 else
  MW k k a b c e f h i l m n o p s t u v w y z A B c e f h i l m n o p s t u 0)
def S21 (k:Nat) (a:KD) (b c:Int):Option MK :=
 (bif !a.2.2.2.2.1 then
  some ((a,[],8,()),())
 else
  (bif a.2.2.2.2.2.1 then
   some ((a,[],17,()),())
  else
   (bif decide (b<0) then
    some ((a,[],3,()),())
   else
    (bif decide (b≥(a.2.2.1.length:Int)) then
     some ((a,[],3,()),())
    else
     ix a.2.2.2.2.2.2.2.2.2.2 b <|
     (bif rd a.2.2.2.2.2.2.2.2.2.2 b false then
      some ((a,[],6,()),())
     else
      (S53 k a b).bind fun q0 =>
      (bif decide (q0.1.1≥0) then
       ix a.2.2.2.2.2.2.2.1 q0.1.1 <|
       (bif (rd a.2.2.2.2.2.2.2.1 q0.1.1 (0,0,0,0,(0,Pv (α:=Int) 8 0,[],false),(0,Pv (α:=Int) 8 0,[],false),[],false)).2.2.2.1 != 2 then
        some ((a,[],5,()),())
       else
        U6 k b c a.1 a.2.1 a.2.2.1 a.2.2.2.1 a.2.2.2.2.1 a.2.2.2.2.2.1 a.2.2.2.2.2.2.1 a.2.2.2.2.2.2.2.1 a.2.2.2.2.2.2.2.2.1.1.1 a.2.2.2.2.2.2.2.2.1.1.2 a.2.2.2.2.2.2.2.2.1.2 a.2.2.2.2.2.2.2.2.2.1 a.2.2.2.2.2.2.2.2.2.2 0 0 false false false ([]:List (PN Int 6)) q0.1.1)
      else
       U6 k b c a.1 a.2.1 a.2.2.1 a.2.2.2.1 a.2.2.2.2.1 a.2.2.2.2.2.1 a.2.2.2.2.2.2.1 a.2.2.2.2.2.2.2.1 a.2.2.2.2.2.2.2.2.1.1.1 a.2.2.2.2.2.2.2.2.1.1.2 a.2.2.2.2.2.2.2.2.1.2 a.2.2.2.2.2.2.2.2.2.1 a.2.2.2.2.2.2.2.2.2.2 0 0 false false false ([]:List (PN Int 6)) q0.1.1))))))
def F21:Fn:=⟨[ML,au,au],[Wt,aeY,rI],fun k (a,b,c,_)=>S21 k a b c⟩
theorem ok21:O 21 F21:=okF (ah ok53 <| ah ok54 <| ah ok55 aj) [(9,2)] (fun k=>(.loop 18 aa2 (afN k) (fun g=>.nil) (.join 20 aiX (fun (_,a,b,(c,e,f,h,i,l,m,n,o,p,s,t,u,_),(v,w,_,_,y,z,A,_),B,(C,D,G,H,I,J,K,M,N,O,P,Q,T,_),U,_)=>MV k a b c e f h i l m n o p s t u v w y z A B C D G H I J K M N O P Q T U) (.join 13 aiY (fun (_,a,b,(c,e,f,h,i,l,m,n,o,p,s,t,u,_),(v,w,_,_,y,z,A,_),B,C,_)=>U6 k a b c e f h i l m n o p s t u v w y z A B C) .nil)))) Tryz.func21 rfl
def amv (k:Nat) (a:(List Int)×List Bool) (b:Int×Int):Option ((Bool×Unit)×Unit) :=
 (bif decide (b.1≥0) then
  (bif decide (b.1<(a.2.length:Int)) then
   (bif decide (b.1<(a.1.length:Int)) then
    ix a.2 b.1 <|
    (bif rd a.2 b.1 false then
     ix a.1 b.1 <|
     some (((rd a.1 b.1 0)==b.2,()),())
    else
     some ((false,()),()))
   else
    some ((false,()),()))
  else
   some ((false,()),()))
 else
  some ((false,()),()))
def F222:Fn:=⟨[aat,Wp],[rB],fun k x=>amv k x.1 x.2.1⟩
theorem ok222:O 222 F222:=okF aj [] On Tryz.func222 rfl
def aiZ (k:Nat) (a:zy×List jy) (b:Int×Int):Option u7 :=
 (amv k a.1 b).bind fun q0 =>
 (bif !q0.1.1 then
  some ((0,false,()),())
 else
  (bif decide (b.1≥(a.2.length:Int)) then
   some ((0,false,()),())
  else
   ix a.2 b.1 <|
   (bif (rd a.2 b.1 (0,(0,0),(0,0),([],[]),(0,[]),0)).1==0 then
    some ((0,false,()),())
   else
    some ((b.1,true,()),()))))
def F180:Fn:=⟨[PZ,Wp],[rI,rB],fun k x=>aiZ k x.1 x.2.1⟩
theorem ok180:O 180 F180:=okF (ah ok222 aj) [] On Tryz.func180 rfl
abbrev aa3:Cut:=⟨[1,3,4],[.box 120 [.cell (.int .u32),.cell (.sl 297 ED)],.own 3 (.int .i64),cI],[],22,[]⟩
def amw (k:Nat) (g3:Int -> ng -> (List Int) -> Int -> Option DR) (a:Int) (b:mh) (c:List Int) (e:Int):Option DR :=
 (bif decide (e<(b.length:Int)) then
  ix b e <|
  ap c ([(rd b e (0,0)).1]:List Int) 8 fun r0 =>
  g3 a b r0 (IntKind.i64.wrap (e+1))
 else
  some ((c,()),()))
def afO (k:Nat):Xx (((Unit)×Wm×(List Int)×Int×Unit) -> Option DR):=dh (bf (bq (ay (ay bg)) (ay (ay bg)))) (amw k)
def amx (k a:Nat) (b:Int) (c:mh) (e:List Int) (f:Int):Option DR:=iter aa3 (afO k) a ((),(b,c,()),e,f,())
def aoP (k:Nat) (a:Int×List (Int×Int)):Option DR :=
 amx k k a.1 a.2 ([]:List Int) 0
def F215:Fn:=⟨[ae2],[aav],fun k x=>aoP k x.1⟩
theorem ok215:O 215 F215:=okF aj [(3,2)] (fun k=>(.loop 3 aa3 (afO k) (fun g=>.nil) .nil)) Tryz.func215 rfl
def amy (k:Nat) (x:aap):Option DR :=
 ap ([]:List Int) x.2.2.2.1.2 8 fun r0 =>
 (aoP k x.2.2.2.2.1).bind fun q1 =>
 ap r0 q1.1.1 8 fun r2 =>
 some ((r2,()),())
def F166:Fn:=⟨[aax],[aav],fun k x=>amy k x.1⟩
theorem ok166:O 166 F166:=okF (ah ok215 aj) [] On Tryz.func166 rfl
def aoQ (k:Nat) (a:(List Int)×List Bool) (b:Int×Int):Option ((zy×Bool×Unit)×Unit) :=
 (amf k a).bind fun q0 =>
 (amv k a b).bind fun q1 =>
 (bif !q1.1.1 then
  some ((q0.1.1,false,()),())
 else
  ix q0.1.1.2 b.1 <|
  some (((q0.1.1.1,upd q0.1.1.2 b.1 false),true,()),()))
def F181:Fn:=⟨[aat,Wp],[Ws,rB],fun k x=>aoQ k x.1 x.2.1⟩
theorem ok181:O 181 F181:=okF (ah ok221 <| ah ok222 aj) [] On Tryz.func181 rfl
def aoR (k:Nat) (a:zy×List jy) (b:Int×Int):Option (((zy×List jy)×(List Int)×Bool×Unit)×Unit) :=
 (aiZ k a b).bind fun q0 =>
 (bif !q0.1.2.1 then
  some ((a,[],false,()),())
 else
  ix a.2 q0.1.1 <|
  (bif (rd a.2 q0.1.1 (0,(0,0),(0,0),([],[]),(0,[]),0)).1==1 then
   some ((a,[],false,()),())
  else
   ix a.2 q0.1.1 <|
   (amy k (rd a.2 q0.1.1 (0,(0,0),(0,0),([],[]),(0,[]),0))).bind fun q1 =>
   (Yb k a q0.1.1 (0,(0,0),(0,0),([],[]),(0,[]),0)).bind fun q2 =>
   (aoQ k a.1 b).bind fun q3 =>
   some (((q3.1.1,q2.1.1.2),q1.1.1,true,()),())))
def F133:Fn:=⟨[PZ,Wp],[aau,aav,rB],fun k x=>aoR k x.1 x.2.1⟩
theorem ok133:O 133 F133:=okF (ah ok137 <| ah ok166 <| ah ok180 <| ah ok181 aj) [] On Tryz.func133 rfl
abbrev aa4:Cut:=⟨[0,1,2,3,9,10],[cI,.cell lq,cI,cI,.own 82 BN,cI],[],29,[]⟩
def amA (k:Nat) (g3:Int -> (List Int) -> Int -> Int -> AZ -> Int -> Option ((AZ×Unit)×Unit)) (a:Int) (b:List Int) (c e:Int) (f:List (PN Int 6)) (h:Int):Option ((AZ×Unit)×Unit) :=
 (bif decide (h<(b.length:Int)) then
  ix b h <|
  ap f ([(a,12,0,rd b h 0,c,e)]:List (PN Int 6)) 48 fun r0 =>
  g3 a b c e r0 (IntKind.i64.wrap (h+1))
 else
  some ((f,()),()))
def afP (k:Nat):Xx (((Unit)×Int×(List Int)×Int×Int×AZ×Int×Unit) -> Option ((AZ×Unit)×Unit)):=dh (bf (ay (ay (ay (ay (ay (ay bg))))))) (amA k)
def amB (k a:Nat) (b:Int) (c:List Int) (e f:Int) (h:List (PN Int 6)) (i:Int):Option ((AZ×Unit)×Unit):=iter aa4 (afP k) a ((),b,c,e,f,h,i,())
def amC (k:Nat) (a:Int) (b:List Int) (c e:Int):Option ((AZ×Unit)×Unit) :=
 amB k k a b c e ([]:List (PN Int 6)) 0
def F134:Fn:=⟨[au,aeZ,au,au],[aeY],fun k (a,b,c,e,_)=>amC k a b c e⟩
theorem ok134:O 134 F134:=okF aj [(9,2)] (fun k=>(.loop 3 aa4 (afP k) (fun g=>.nil) .nil)) Tryz.func134 rfl
def aoS (k:Nat) (a:(List Int)×List Int) (b:Int):Option ((((List Int)×List Int)×Int×Bool×Unit)×Unit) :=
 ap ([]:List Int) a.1 8 fun r0 =>
 ap ([]:List Int) a.2 8 fun r1 =>
 (bif decide ((a.2.length:Int)>0) then
  sx r1 1 (r1.length:Int) <|
  ix a.2 0 <|
  some (((r0,sub r1 1 (r1.length:Int)),rd a.2 0 0,true,()),())
 else
  (bif decide ((a.1.length:Int)≥4) then
   some (((r0,r1),0,false,()),())
  else
   ap r0 ([b]:List Int) 8 fun r2 =>
   some (((r2,r1),0,true,()),())))
def F182:Fn:=⟨[aov,au],[aow,rI,rB],fun k x=>aoS k x.1 x.2.1⟩
theorem ok182:O 182 F182:=okF aj [] On Tryz.func182 rfl
abbrev aa5:Cut:=⟨[1,2,4,8,9],[cI,.box 117 [.cell KF,.cell lq],.box 117 [.nil,.nil],.box 117 [.own 2 (.int .i64),.own 3 (.int .i64)],cI],[],62,[]⟩
def amD (k:Nat) (g8:Int -> (List Int) -> (List Int) -> (List Int) -> (List Int) -> Int -> Option (W9×Unit)) (a:Int) (b c x e:List Int) (f:Int):Option (W9×Unit) :=
 (bif decide (f<(c.length:Int)) then
  ix c f <|
  (bif (rd c f 0)==a then
   some (((x,e),0,false,false,()),())
  else
   g8 a b c x e (IntKind.i64.wrap (f+1)))
 else
  (bif decide ((c.length:Int)≥4) then
   some (((x,e),0,false,false,()),())
  else
   ap e ([a]:List Int) 8 fun r2 =>
   some (((x,r2),0,false,true,()),())))
def afQ (k:Nat):Xx (((Unit)×Int×((List Int)×(List Int)×Unit)×(Unit×Unit×Unit)×((List Int)×(List Int)×Unit)×Int×Unit) -> Option (W9×Unit)):=dh (bf (ay (bq (ay (ay bg)) (bq (bf (bf bg)) (bq (ay (ay bg)) (ay bg)))))) (amD k)
def amE (k a:Nat) (b:Int) (c e x f:List Int) (h:Int):Option (W9×Unit):=iter aa5 (afQ k) a ((),b,(c,e,()),((),(),()),(x,f,()),h,())
def aoT (k:Nat) (a:(List Int)×List Int) (b:Int):Option (W9×Unit) :=
 ap ([]:List Int) a.1 8 fun r0 =>
 ap ([]:List Int) a.2 8 fun r1 =>
 (bif decide (b<1) then
  some (((r0,r1),0,false,false,()),())
 else
  (bif decide ((a.1.length:Int)>0) then
   sx r0 1 (r0.length:Int) <|
   ix a.1 0 <|
   some (((sub r0 1 (r0.length:Int),r1),rd a.1 0 0,true,true,()),())
  else
   amE k k b a.1 a.2 r0 r1 0))
def F183:Fn:=⟨[aov,au],[aow,rI,rB,rB],fun k x=>aoT k x.1 x.2.1⟩
theorem ok183:O 183 F183:=okF aj [] (fun k=>(.loop 8 aa5 (afQ k) (fun g=>.nil) .nil)) Tryz.func183 rfl
def amF (k:Nat) (a:KD) (b:Int×l9×(Int×Int)×Int×Int×Int):Option (PU×Unit) :=
 (aiZ k a.2.2.2.2.2.2.2.2.1 b.2.2.1).bind fun q0 =>
 (bif !q0.1.2.1 then
  some ((a,[],(3,(0,0),0),()),())
 else
  ix a.2.2.2.2.2.2.2.2.1.2 q0.1.1 <|
  (bif (rd a.2.2.2.2.2.2.2.2.1.2 q0.1.1 (0,(0,0),(0,0),([],[]),(0,[]),0)).1 != 2 then
   some ((a,[],(3,(0,0),0),()),())
  else
   ix a.2.2.2.2.2.2.2.2.1.2 q0.1.1 <|
   (bif b.1==7 then
    (aoS k (rd a.2.2.2.2.2.2.2.2.1.2 q0.1.1 (0,(0,0),(0,0),([],[]),(0,[]),0)).2.2.2.1 b.2.2.2.2.1).bind fun q1 =>
    (bif !q1.1.2.2.1 then
     some ((a,[],(4,(0,0),0),()),())
    else
     (S89 k a.2.2.2.2.2.2.2.2.1 q0.1.1 ((rd a.2.2.2.2.2.2.2.2.1.2 q0.1.1 (0,(0,0),(0,0),([],[]),(0,[]),0)).1,(rd a.2.2.2.2.2.2.2.2.1.2 q0.1.1 (0,(0,0),(0,0),([],[]),(0,[]),0)).2.1,(rd a.2.2.2.2.2.2.2.2.1.2 q0.1.1 (0,(0,0),(0,0),([],[]),(0,[]),0)).2.2.1,q1.1.1,(rd a.2.2.2.2.2.2.2.2.1.2 q0.1.1 (0,(0,0),(0,0),([],[]),(0,[]),0)).2.2.2.2)).bind fun q2 =>
     (bif decide (q1.1.2.1>0) then
      (amC k a.1 ([q1.1.2.1]:List Int) b.2.2.2.2.1 0).bind fun q3 =>
      some (((a.1,a.2.1,a.2.2.1,a.2.2.2.1,a.2.2.2.2.1,a.2.2.2.2.2.1,a.2.2.2.2.2.2.1,a.2.2.2.2.2.2.2.1,q2.1.1,a.2.2.2.2.2.2.2.2.2),q3.1.1,(0,(0,0),0),()),())
     else
      some (((a.1,a.2.1,a.2.2.1,a.2.2.2.1,a.2.2.2.2.1,a.2.2.2.2.2.1,a.2.2.2.2.2.2.1,a.2.2.2.2.2.2.2.1,q2.1.1,a.2.2.2.2.2.2.2.2.2),[],(0,(0,0),0),()),())))
   else
    (aoT k (rd a.2.2.2.2.2.2.2.2.1.2 q0.1.1 (0,(0,0),(0,0),([],[]),(0,[]),0)).2.2.2.1 b.2.2.2.1).bind fun q4 =>
    (bif !q4.1.2.2.2.1 then
     some ((a,[],(1,(0,0),0),()),())
    else
     (S89 k a.2.2.2.2.2.2.2.2.1 q0.1.1 ((rd a.2.2.2.2.2.2.2.2.1.2 q0.1.1 (0,(0,0),(0,0),([],[]),(0,[]),0)).1,(rd a.2.2.2.2.2.2.2.2.1.2 q0.1.1 (0,(0,0),(0,0),([],[]),(0,[]),0)).2.1,(rd a.2.2.2.2.2.2.2.2.1.2 q0.1.1 (0,(0,0),(0,0),([],[]),(0,[]),0)).2.2.1,q4.1.1,(rd a.2.2.2.2.2.2.2.2.1.2 q0.1.1 (0,(0,0),(0,0),([],[]),(0,[]),0)).2.2.2.2)).bind fun q5 =>
     (bif q4.1.2.2.1 then
      some (((a.1,a.2.1,a.2.2.1,a.2.2.2.1,a.2.2.2.2.1,a.2.2.2.2.2.1,a.2.2.2.2.2.2.1,a.2.2.2.2.2.2.2.1,q5.1.1,a.2.2.2.2.2.2.2.2.2),[],(0,(0,0),q4.1.2.1),()),())
     else
      some (((a.1,a.2.1,a.2.2.1,a.2.2.2.1,a.2.2.2.2.1,a.2.2.2.2.2.1,a.2.2.2.2.2.2.1,a.2.2.2.2.2.2.2.1,q5.1.1,a.2.2.2.2.2.2.2.2.2),[],(16,(0,0),0),()),()))))))
def F135:Fn:=⟨[ML,ae1],[Wt,aeY,aou],fun k x=>amF k x.1 x.2.1⟩
theorem ok135:O 135 F135:=okF (ah ok89 <| ah ok134 <| ah ok180 <| ah ok182 <| ah ok183 aj) [] On Tryz.func135 rfl
abbrev aa6:Cut:=⟨[2,4,6,7,8],[.box 120 [.cell (.int .u32),.cell (.sl 297 ED)],.box 120 [.cell (.int .u32),.nil],.box 120 [.cell (.int .u32),.own 297 ED],.own 297 ED,cI],[],61,[]⟩
def amG (k:Nat) (g4:Int -> ng -> Int -> Int -> ng -> ng -> Int -> Option Wo) (a:Int) (b:mh) (c x:Int) (e f:mh) (h:Int):Option Wo :=
 (bif decide (h<(b.length:Int)) then
  ix b h <|
  (bif (Tp .u32 (rd b h (0,0)).2 x)==0 then
   ix b h <|
   ap e ([rd b h (0,0)]:List (Int×Int)) 16 fun r0 =>
   g4 a b c x r0 f (IntKind.i64.wrap (h+1))
  else
   ix b h <|
   ap f ([((rd b h (0,0)).1,Tp .u32 (rd b h (0,0)).2 x)]:List (Int×Int)) 16 fun r1 =>
   g4 a b c (IntKind.u32.wrap (x - (Tp .u32 (rd b h (0,0)).2 x))) e r1 (IntKind.i64.wrap (h+1)))
 else
  some (((x,e),f,()),()))
def afR (k:Nat):Xx (((Unit)×Wm×(Int×Unit×Unit)×Wm×ng×Int×Unit) -> Option Wo):=dh (bf (bq (ay (ay bg)) (bq (ay (bf bg)) (bq (ay (ay bg)) (ay (ay bg)))))) (amG k)
def amH (k a:Nat) (b:Int) (c:mh) (e x:Int) (f h:mh) (i:Int):Option Wo:=iter aa6 (afR k) a ((),(b,c,()),(e,(),()),(x,f,()),h,i,())
def aoU (k:Nat) (a:Int×List (Int×Int)) (b:Int):Option Wo :=
 amH k k a.1 a.2 0 (Uf .u32 a.1 b) ([]:List (Int×Int)) ([]:List (Int×Int)) 0
def F184:Fn:=⟨[ae2,.val ⟨false,(.int .u32),false⟩],[.val ⟨true,aeX,true⟩,.val ⟨false,(.sl 297 ED),true⟩],fun k x=>aoU k x.1 x.2.1⟩
theorem ok184:O 184 F184:=okF aj [(7,2),(14,2)] (fun k=>(.loop 4 aa6 (afR k) (fun g=>.nil) .nil)) Tryz.func184 rfl
abbrev aa7:Cut:=⟨[1,2,3,6,9,11],[cI,.cell (.int .u32),.box 120 [.cell (.int .u32),.cell (.sl 297 ED)],.box 120 [.cell (.int .u32),.nil],.box 120 [.cell (.int .u32),.own 297 ED],cI],[],69,[]⟩
def amI (k:Nat) (g9:Int -> Int -> Int -> ng -> Int -> Int -> ng -> Int -> Option Wi) (a b c:Int) (e:mh) (f x:Int) (h:mh) (i:Int):Option Wi :=
 (bif decide (i<(e.length:Int)) then
  ix e i <|
  (bif (rd e i (0,0)).1==a then
   some (((x,h),0,false,()),())
  else
   g9 a b c e f x h (IntKind.i64.wrap (i+1)))
 else
  (bif decide ((e.length:Int)≥4) then
   some (((x,h),0,false,()),())
  else
   ap h ([(a,b)]:List (Int×Int)) 16 fun r1 =>
   some (((x,r1),0,true,()),())))
def afS (k:Nat):Xx (((Unit)×Int×Int×Wm×(Int×Unit×Unit)×Wm×Int×Unit) -> Option Wi):=dh (bf (ay (ay (bq (ay (ay bg)) (bq (ay (bf bg)) (bq (ay (ay bg)) (ay bg))))))) (amI k)
def amJ (k a:Nat) (b c e:Int) (f:mh) (h x:Int) (i:mh) (l:Int):Option Wi:=iter aa7 (afS k) a ((),b,c,(e,f,()),(h,(),()),(x,i,()),l,())
def aoV (k:Nat) (a:Int×List (Int×Int)) (b c:Int):Option Wi :=
 ap ([]:List (Int×Int)) a.2 16 fun r0 =>
 (bif decide (b<1) then
  some (((a.1,r0),0,false,()),())
 else
  (bif c==0 then
   some (((a.1,r0),0,false,()),())
  else
   (bif (Tp .u32 a.1 c) != 0 then
    some (((IntKind.u32.wrap (a.1 - (Tp .u32 a.1 c)),r0),Tp .u32 a.1 c,true,()),())
   else
    amJ k k b c a.1 a.2 0 a.1 r0 0)))
def F185:Fn:=⟨[ae2,au,.val ⟨false,(.int .u32),false⟩],[.val ⟨true,aeX,true⟩,al4,rB],fun k (a,b,c,_)=>aoV k a b c⟩
theorem ok185:O 185 F185:=okF aj [] (fun k=>(.loop 9 aa7 (afS k) (fun g=>.nil) .nil)) Tryz.func185 rfl
abbrev WE:Cut:=⟨[2,4,6,11,12,13],[.box 44 [cI,cI,.cell (.sl 77 AX),.cell (.sl 96 wo),.cell .bool,.cell .bool,.cell .bool,.cell BA,.cell lq,.cell qj,.cell BO,.cell lq,.cell qj],.box 44 [cI,cI,.nil,.nil,.cell .bool,.cell .bool,.cell .bool,.nil,.nil,.nil,.nil,.nil,.nil],.box 110 [cI,cI,cI,cI],.own 297 ED,.own 82 BN,cI],[],121,[]⟩
def ai0 (k:Nat) (g11:Int -> Int -> (List l9) -> EG -> Bool -> Bool -> Bool -> (List kg) -> (List Int) -> (List Bool) -> (List jy) -> (List Int) -> (List Bool) -> Int -> Int -> Bool -> Bool -> Bool -> Int -> Int -> Int -> Int -> ng -> AZ -> Int -> Option (PU×Unit)) (a b:Int) (c:List l9) (e:List (PN Int 5)) (f h i:Bool) (l:List kg) (m:List Int) (n:List Bool) (o:List jy) (p:List Int) (s:List Bool) (t u:Int) (v w y:Bool) (z A B C:Int) (D:mh) (G:List (PN Int 6)) (H:Int):Option (PU×Unit) :=
 (bif decide (H<(D.length:Int)) then
  ix D H <|
  ix D H <|
  ap G ([(a,12,0,(rd D H (0,0)).1,IntKind.i64.wrap (rd D H (0,0)).2,0)]:List (PN Int 6)) 48 fun r3 =>
  g11 a b c e f h i l m n o p s t u v w y z A B C D r3 (IntKind.i64.wrap (H+1))
 else
  some (((a,b,c,e,f,h,i,l,((m,n),o),p,s),G,(0,(0,0),0),()),()))
def aa8 (k:Nat):Xx (((Unit)×VX×VY×(Int×Int×Int×Int×Unit)×ng×AZ×Int×Unit) -> Option (PU×Unit)):=dh (bf (bq (ay (ay (ay (ay (ay (ay (ay (ay (ay (ay (ay (ay (ay bg))))))))))))) (bq (ay (ay (bf (bf (ay (ay (ay (bf (bf (bf (bf (bf (bf bg))))))))))))) (bq (ay (ay (ay (ay bg)))) (ay (ay (ay bg))))))) (ai0 k)
def ai1 (k a:Nat) (b c:Int) (e:List l9) (f:List (PN Int 5)) (h i l:Bool) (m:List kg) (n:List Int) (o:List Bool) (p:List jy) (s:List Int) (t:List Bool) (u v:Int) (w y z:Bool) (A B C D:Int) (G:mh) (H:List (PN Int 6)) (I:Int):Option (PU×Unit):=iter WE (aa8 k) a ((),(b,c,e,f,h,i,l,m,n,o,p,s,t,()),(u,v,(),(),w,y,z,(),(),(),(),(),(),()),(A,B,C,D,()),G,H,I,())
def amK (k:Nat) (a:KD) (b:Int×l9×(Int×Int)×Int×Int×Int):Option (PU×Unit) :=
 (aiZ k a.2.2.2.2.2.2.2.2.1 b.2.2.1).bind fun q0 =>
 (bif !q0.1.2.1 then
  some ((a,[],(3,(0,0),0),()),())
 else
  ix a.2.2.2.2.2.2.2.2.1.2 q0.1.1 <|
  (bif (rd a.2.2.2.2.2.2.2.2.1.2 q0.1.1 (0,(0,0),(0,0),([],[]),(0,[]),0)).1 != 3 then
   some ((a,[],(3,(0,0),0),()),())
  else
   ix a.2.2.2.2.2.2.2.2.1.2 q0.1.1 <|
   (bif b.1==9 then
    (aoU k (rd a.2.2.2.2.2.2.2.2.1.2 q0.1.1 (0,(0,0),(0,0),([],[]),(0,[]),0)).2.2.2.2.1 b.2.2.2.2.2).bind fun q1 =>
    (S89 k a.2.2.2.2.2.2.2.2.1 q0.1.1 ((rd a.2.2.2.2.2.2.2.2.1.2 q0.1.1 (0,(0,0),(0,0),([],[]),(0,[]),0)).1,(rd a.2.2.2.2.2.2.2.2.1.2 q0.1.1 (0,(0,0),(0,0),([],[]),(0,[]),0)).2.1,(rd a.2.2.2.2.2.2.2.2.1.2 q0.1.1 (0,(0,0),(0,0),([],[]),(0,[]),0)).2.2.1,(rd a.2.2.2.2.2.2.2.2.1.2 q0.1.1 (0,(0,0),(0,0),([],[]),(0,[]),0)).2.2.2.1,q1.1.1,(rd a.2.2.2.2.2.2.2.2.1.2 q0.1.1 (0,(0,0),(0,0),([],[]),(0,[]),0)).2.2.2.2.2)).bind fun q2 =>
    ai1 k k a.1 a.2.1 a.2.2.1 a.2.2.2.1 a.2.2.2.2.1 a.2.2.2.2.2.1 a.2.2.2.2.2.2.1 a.2.2.2.2.2.2.2.1 q2.1.1.1.1 q2.1.1.1.2 q2.1.1.2 a.2.2.2.2.2.2.2.2.2.1 a.2.2.2.2.2.2.2.2.2.2 0 0 false false false 0 0 0 0 q1.1.2.1 ([]:List (PN Int 6)) 0
   else
    (aoV k (rd a.2.2.2.2.2.2.2.2.1.2 q0.1.1 (0,(0,0),(0,0),([],[]),(0,[]),0)).2.2.2.2.1 b.2.2.2.1 b.2.2.2.2.2).bind fun q4 =>
    (bif !q4.1.2.2.1 then
     some ((a,[],(1,(0,0),0),()),())
    else
     (S89 k a.2.2.2.2.2.2.2.2.1 q0.1.1 ((rd a.2.2.2.2.2.2.2.2.1.2 q0.1.1 (0,(0,0),(0,0),([],[]),(0,[]),0)).1,(rd a.2.2.2.2.2.2.2.2.1.2 q0.1.1 (0,(0,0),(0,0),([],[]),(0,[]),0)).2.1,(rd a.2.2.2.2.2.2.2.2.1.2 q0.1.1 (0,(0,0),(0,0),([],[]),(0,[]),0)).2.2.1,(rd a.2.2.2.2.2.2.2.2.1.2 q0.1.1 (0,(0,0),(0,0),([],[]),(0,[]),0)).2.2.2.1,q4.1.1,(rd a.2.2.2.2.2.2.2.2.1.2 q0.1.1 (0,(0,0),(0,0),([],[]),(0,[]),0)).2.2.2.2.2)).bind fun q5 =>
     (bif q4.1.2.1==0 then
      some (((a.1,a.2.1,a.2.2.1,a.2.2.2.1,a.2.2.2.2.1,a.2.2.2.2.2.1,a.2.2.2.2.2.2.1,a.2.2.2.2.2.2.2.1,q5.1.1,a.2.2.2.2.2.2.2.2.2),[],(16,(0,0),0),()),())
     else
      some (((a.1,a.2.1,a.2.2.1,a.2.2.2.1,a.2.2.2.2.1,a.2.2.2.2.2.1,a.2.2.2.2.2.2.1,a.2.2.2.2.2.2.2.1,q5.1.1,a.2.2.2.2.2.2.2.2.2),[],(0,(0,0),IntKind.i64.wrap q4.1.2.1),()),()))))))
def F136:Fn:=⟨[ML,ae1],[Wt,aeY,aou],fun k x=>amK k x.1 x.2.1⟩
theorem ok136:O 136 F136:=okF (ah ok89 <| ah ok180 <| ah ok184 <| ah ok185 aj) [(12,2)] (fun k=>(.loop 11 WE (aa8 k) (fun g=>.nil) .nil)) Tryz.func136 rfl
end
end Go.Proofs.YtmmagcjlfcicfaaGreat.Ab
