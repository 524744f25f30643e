import Derived.Test.YtjjjbcmjmkcedaaGreatAbX1
/- Contracts, printed by this session's own program gen.py. -/
set_option linter.unusedVariables false
set_option linter.unusedSimpArgs false
set_option maxRecDepth 100000
namespace Go.Proofs.YtjjjbcmjmkcedaaGreat.Ab
open Go.RowKit
abbrev ajS:Type:=(Int×Int×(List (Int×Int×Int×(List (Int×Int×Int×Int))×(List (Int×Int×Int×Int))×List (Int×Int×Int×Int)))×(List (PN Int 5))×Bool×Bool×Bool×(List (Int×Int×Int×Int×(Int×(PN Int 8)×(List (Int×Int×Int))×Bool)×(Int×(PN Int 8)×(List (Int×Int×Int))×Bool)×(List Int)×Bool))×(((List Int)×List Bool)×List (Int×(Int×Int)×(Int×Int)×((List Int)×List Int)×(Int×List (Int×Int))×Int))×(List Int)×List Bool) -> (List (PN Int 6)) -> Int -> Int -> Int -> Int -> Int -> Int -> Int -> Int -> Int -> Int -> Int -> Int -> Int -> Int -> Int -> Int -> Bool -> Bool -> Bool -> Bool -> Bool -> Bool -> Bool -> Bool -> Int -> Option ((Bool×Unit)×Unit)
abbrev ajT:Type:=Int×Int×(List (Int×Int×Int×(List (Int×Int×Int×Int))×(List (Int×Int×Int×Int))×List (Int×Int×Int×Int)))×(List (PN Int 5))×Bool×Bool×Bool×(List (Int×Int×Int×Int×(Int×(PN Int 8)×(List (Int×Int×Int))×Bool)×(Int×(PN Int 8)×(List (Int×Int×Int))×Bool)×(List Int)×Bool))×(((List Int)×List Bool)×List (Int×(Int×Int)×(Int×Int)×((List Int)×List Int)×(Int×List (Int×Int))×Int))×(List Int)×List Bool
abbrev aa4:Ty:=.sl 127 (.pair (.int .i64) (.pair (.int .i64) (.pair (.int .i64) (.int .i64))))
abbrev amc:Ty:=.pair (.int .i64) (.pair (.int .i64) (.pair (.int .i64) (.pair (.int .i64) (.pair (.pair (.int .i64) (.pair (Am 8 (.int .i64)) (.pair (.sl 293 (.pair (.int .i64) (.pair (.int .i64) (.int .i64)))) .bool))) (.pair (.pair (.int .i64) (.pair (Am 8 (.int .i64)) (.pair (.sl 293 (.pair (.int .i64) (.pair (.int .i64) (.int .i64)))) .bool))) (.pair (.sl 3 (.int .i64)) .bool))))))
abbrev amd:Ty:=.pair (.int .i64) (.pair (.pair (.int .i64) (.int .i64)) (.pair (.pair (.int .i64) (.int .i64)) (.pair (.pair (.sl 2 (.int .i64)) (.sl 3 (.int .i64))) (.pair (.pair (.int .u32) (.sl 266 (.pair (.int .i64) (.int .u32)))) (.int .u32)))))
abbrev aqU:Type:=Int×Int×(List (Int×Int×Int×(List (Int×Int×Int×Int))×(List (Int×Int×Int×Int))×List (Int×Int×Int×Int)))×(List (PN Int 5))×Bool×Bool×Bool×(List (Int×Int×Int×Int×(Int×(PN Int 8)×(List (Int×Int×Int))×Bool)×(Int×(PN Int 8)×(List (Int×Int×Int))×Bool)×(List Int)×Bool))×(List Int)×(List Bool)×(List (Int×(Int×Int)×(Int×Int)×((List Int)×List Int)×(Int×List (Int×Int))×Int))×(List Int)×(List Bool)×Unit
abbrev ame:Ty:=.pair (.int .i64) (.pair (.int .i64) (.pair (.int .i64) (.pair aa4 (.pair aa4 aa4))))
abbrev amf:Type:=Int×Int×Int×Int×Int×Int×Int×Int×Unit
abbrev aa5:Type:=(Bool×Unit)×Unit
abbrev aqV:Type:=List (Int×Int×Int×Int)
abbrev aqW:PT:=.val ⟨false,(.sl 5 (.int .u8)),false⟩
noncomputable section
abbrev amg:Cut:=⟨[6,7,10,11,12,13,14,16,17],[.box 42 [cI,cI,.own 54 ame,.own 168 (Am 5 (.int .i64)),.cell .bool,.cell .bool,.cell .bool,.own 59 amc,.own 3 (.int .i64),.own 4 .bool,.own 142 amd,.own 3 (.int .i64),.own 4 .bool],.own 51 (Am 6 (.int .i64)),.box 47 [cI,cI,cI,cI,cI,cI,cI,cI],.box 47 [cI,cI,cI,cI,cI,cI,cI,cI],.box 48 [.cell .bool,.cell .bool,.cell .bool,.cell .bool,.cell .bool,.cell .bool,.cell .bool,.cell .bool],cI,.box 51 [cI,cI,cI,cI,cI,cI],.cell aa4,cI],[],210,[]⟩
def Ym (k:Nat) (g12:ajS) (a:ajT) (b:List (PN Int 6)) (c e f h i l m n o p s t u v w y:Int) (z A B C D G H I:Bool) (J K M N O P Q:Int) (T:aqV) (U:Int):Option aa5 :=
 (S49 k T U).bind fun q7 =>
 (bif !q7.1.2.2.1 then
  some ((false,()),())
 else
  (bif P != q7.1.1 then
   some ((false,()),())
  else
   ax 8 N <|
   g12 a b c e f h i l m n (Ur (α:=Int) 8 (o,p,s,t,u,v,w,y) N P).1 (Ur (α:=Int) 8 (o,p,s,t,u,v,w,y) N P).2.1 (Ur (α:=Int) 8 (o,p,s,t,u,v,w,y) N P).2.2.1 (Ur (α:=Int) 8 (o,p,s,t,u,v,w,y) N P).2.2.2.1 (Ur (α:=Int) 8 (o,p,s,t,u,v,w,y) N P).2.2.2.2.1 (Ur (α:=Int) 8 (o,p,s,t,u,v,w,y) N P).2.2.2.2.2.1 (Ur (α:=Int) 8 (o,p,s,t,u,v,w,y) N P).2.2.2.2.2.2.1 (Ur (α:=Int) 8 (o,p,s,t,u,v,w,y) N P).2.2.2.2.2.2.2 z A B C D G H I (IntKind.i64.wrap (J+1))))
abbrev amh:Cut:=⟨[6,7,10,11,12,13,14,15,16,17],[.box 42 [cI,cI,.own 54 ame,.own 168 (Am 5 (.int .i64)),.cell .bool,.cell .bool,.cell .bool,.own 59 amc,.own 3 (.int .i64),.own 4 .bool,.own 142 amd,.own 3 (.int .i64),.own 4 .bool],.own 51 (Am 6 (.int .i64)),.box 47 [cI,cI,cI,cI,cI,cI,cI,cI],.box 47 [cI,cI,cI,cI,cI,cI,cI,cI],.box 48 [.cell .bool,.cell .bool,.cell .bool,.cell .bool,.cell .bool,.cell .bool,.cell .bool,.cell .bool],cI,.box 51 [cI,cI,cI,cI,cI,cI],.box 54 [cI,cI,cI,.cell aa4,.cell aa4,.cell aa4],.cell aa4,cI],[],210,[]⟩
def Yn (k:Nat) (g12:ajS) (a:ajT) (b:List (PN Int 6)) (c e f h i l m n o p s t u v w y:Int) (z A B C D G H I:Bool) (J K M N O P Q T U V:Int) (W X Z a1:aqV) (b1:Int):Option aa5 :=
 (bif M==4 then
  ax 8 N <|
  Ym k g12 a b c e f h i l m n o p s t u v w y z A B C D G H I J K M N O P Q Z (Uq (α:=Int) 8 (o,p,s,t,u,v,w,y) N 0)
 else
  Ym k g12 a b c e f h i l m n o p s t u v w y z A B C D G H I J K M N O P Q a1 b1)
abbrev ami:Cut:=⟨[6,7,10,11,12,13,14],[.box 42 [cI,cI,.own 54 ame,.own 168 (Am 5 (.int .i64)),.cell .bool,.cell .bool,.cell .bool,.own 59 amc,.own 3 (.int .i64),.own 4 .bool,.own 142 amd,.own 3 (.int .i64),.own 4 .bool],.own 51 (Am 6 (.int .i64)),.box 47 [cI,cI,cI,cI,cI,cI,cI,cI],.box 47 [cI,cI,cI,cI,cI,cI,cI,cI],.box 48 [.cell .bool,.cell .bool,.cell .bool,.cell .bool,.cell .bool,.cell .bool,.cell .bool,.cell .bool],cI,.box 51 [cI,cI,cI,cI,cI,cI]],[],210,[]⟩
def Yo (k:Nat) (g12:ajS) (a:ajT) (b:List (PN Int 6)) (c e f h i l m n o p s t u v w y:Int) (z A B C D G H I:Bool) (J K M N O P Q:Int):Option aa5 :=
 ix a.2.2.1 N <|
 ax 8 N <|
 ax 8 N <|
 (bif Uq (α:=Bool) 8 (z,A,B,C,D,G,H,I) N false then
  Yn k g12 a b c e f h i l m n o p s t u v w y z A B C D G H I J K M N O P Q (rd a.2.2.1 N bg).1 (rd a.2.2.1 N bg).2.1 (rd a.2.2.1 N bg).2.2.1 (rd a.2.2.1 N bg).2.2.2.1 (rd a.2.2.1 N bg).2.2.2.2.1 (rd a.2.2.1 N bg).2.2.2.2.2 (rd a.2.2.1 N bg).2.2.2.2.1 (Uq (α:=Int) 8 (c,e,f,h,i,l,m,n) N 0)
 else
  Yn k g12 a b c e f h i l m n o p s t u v w y z A B C D G H I J K M N O P Q (rd a.2.2.1 N bg).1 (rd a.2.2.1 N bg).2.1 (rd a.2.2.1 N bg).2.2.1 (rd a.2.2.1 N bg).2.2.2.1 (rd a.2.2.1 N bg).2.2.2.2.1 (rd a.2.2.1 N bg).2.2.2.2.2 (rd a.2.2.1 N bg).2.2.2.1 (Uq (α:=Int) 8 (c,e,f,h,i,l,m,n) N 0))
abbrev afn:Cut:=⟨[6,7,10,11,12,13],[.box 42 [cI,cI,.own 54 ame,.own 168 (Am 5 (.int .i64)),.cell .bool,.cell .bool,.cell .bool,.own 59 amc,.own 3 (.int .i64),.own 4 .bool,.own 142 amd,.own 3 (.int .i64),.own 4 .bool],.own 51 (Am 6 (.int .i64)),.box 47 [cI,cI,cI,cI,cI,cI,cI,cI],.box 47 [cI,cI,cI,cI,cI,cI,cI,cI],.box 48 [.cell .bool,.cell .bool,.cell .bool,.cell .bool,.cell .bool,.cell .bool,.cell .bool,.cell .bool],cI],[],210,[]⟩
def Yp (k:Nat) (g12:ajS) (a:ajT) (b:List (PN Int 6)) (c e f h i l m n o p s t u v w y:Int) (z A B C D G H I:Bool) (J:Int):Option aa5 :=
 (bif decide (J<(b.length:Int)) then
  ix b J <|
  (bif decide ((rd b J (Qn (α:=Int) 6 0)).2.2.1<0) then
   some ((false,()),())
  else
   (bif decide ((rd b J (Qn (α:=Int) 6 0)).2.2.1≥8) then
    some ((false,()),())
   else
    (bif (rd b J (Qn (α:=Int) 6 0)).2.1==1 then
     ax 8 (rd b J (Qn (α:=Int) 6 0)).2.2.1 <|
     ax 8 (rd b J (Qn (α:=Int) 6 0)).2.2.1 <|
     g12 a b (Ur (α:=Int) 8 (c,e,f,h,i,l,m,n) (rd b J (Qn (α:=Int) 6 0)).2.2.1 (rd b J (Qn (α:=Int) 6 0)).2.2.2.2.1).1 (Ur (α:=Int) 8 (c,e,f,h,i,l,m,n) (rd b J (Qn (α:=Int) 6 0)).2.2.1 (rd b J (Qn (α:=Int) 6 0)).2.2.2.2.1).2.1 (Ur (α:=Int) 8 (c,e,f,h,i,l,m,n) (rd b J (Qn (α:=Int) 6 0)).2.2.1 (rd b J (Qn (α:=Int) 6 0)).2.2.2.2.1).2.2.1 (Ur (α:=Int) 8 (c,e,f,h,i,l,m,n) (rd b J (Qn (α:=Int) 6 0)).2.2.1 (rd b J (Qn (α:=Int) 6 0)).2.2.2.2.1).2.2.2.1 (Ur (α:=Int) 8 (c,e,f,h,i,l,m,n) (rd b J (Qn (α:=Int) 6 0)).2.2.1 (rd b J (Qn (α:=Int) 6 0)).2.2.2.2.1).2.2.2.2.1 (Ur (α:=Int) 8 (c,e,f,h,i,l,m,n) (rd b J (Qn (α:=Int) 6 0)).2.2.1 (rd b J (Qn (α:=Int) 6 0)).2.2.2.2.1).2.2.2.2.2.1 (Ur (α:=Int) 8 (c,e,f,h,i,l,m,n) (rd b J (Qn (α:=Int) 6 0)).2.2.1 (rd b J (Qn (α:=Int) 6 0)).2.2.2.2.1).2.2.2.2.2.2.1 (Ur (α:=Int) 8 (c,e,f,h,i,l,m,n) (rd b J (Qn (α:=Int) 6 0)).2.2.1 (rd b J (Qn (α:=Int) 6 0)).2.2.2.2.1).2.2.2.2.2.2.2 o p s t u v w y (Ur (α:=Bool) 8 (z,A,B,C,D,G,H,I) (rd b J (Qn (α:=Int) 6 0)).2.2.1 false).1 (Ur (α:=Bool) 8 (z,A,B,C,D,G,H,I) (rd b J (Qn (α:=Int) 6 0)).2.2.1 false).2.1 (Ur (α:=Bool) 8 (z,A,B,C,D,G,H,I) (rd b J (Qn (α:=Int) 6 0)).2.2.1 false).2.2.1 (Ur (α:=Bool) 8 (z,A,B,C,D,G,H,I) (rd b J (Qn (α:=Int) 6 0)).2.2.1 false).2.2.2.1 (Ur (α:=Bool) 8 (z,A,B,C,D,G,H,I) (rd b J (Qn (α:=Int) 6 0)).2.2.1 false).2.2.2.2.1 (Ur (α:=Bool) 8 (z,A,B,C,D,G,H,I) (rd b J (Qn (α:=Int) 6 0)).2.2.1 false).2.2.2.2.2.1 (Ur (α:=Bool) 8 (z,A,B,C,D,G,H,I) (rd b J (Qn (α:=Int) 6 0)).2.2.1 false).2.2.2.2.2.2.1 (Ur (α:=Bool) 8 (z,A,B,C,D,G,H,I) (rd b J (Qn (α:=Int) 6 0)).2.2.1 false).2.2.2.2.2.2.2 (IntKind.i64.wrap (J+1))
    else
     (bif (rd b J (Qn (α:=Int) 6 0)).2.1==7 then
      ax 8 (rd b J (Qn (α:=Int) 6 0)).2.2.1 <|
      (bif Uq (α:=Bool) 8 (z,A,B,C,D,G,H,I) (rd b J (Qn (α:=Int) 6 0)).2.2.1 false then
       some ((false,()),())
      else
       (bif decide ((rd b J (Qn (α:=Int) 6 0)).2.2.1≥(a.2.2.1.length:Int)) then
        some ((false,()),())
       else
        ix a.2.2.1 (rd b J (Qn (α:=Int) 6 0)).2.2.1 <|
        (bif ((rd a.2.2.1 (rd b J (Qn (α:=Int) 6 0)).2.2.1 bg).2.2.2.2.1.length:Int)==0 then
         some ((false,()),())
        else
         ax 8 (rd b J (Qn (α:=Int) 6 0)).2.2.1 <|
         g12 a b c e f h i l m n o p s t u v w y (Ur (α:=Bool) 8 (z,A,B,C,D,G,H,I) (rd b J (Qn (α:=Int) 6 0)).2.2.1 true).1 (Ur (α:=Bool) 8 (z,A,B,C,D,G,H,I) (rd b J (Qn (α:=Int) 6 0)).2.2.1 true).2.1 (Ur (α:=Bool) 8 (z,A,B,C,D,G,H,I) (rd b J (Qn (α:=Int) 6 0)).2.2.1 true).2.2.1 (Ur (α:=Bool) 8 (z,A,B,C,D,G,H,I) (rd b J (Qn (α:=Int) 6 0)).2.2.1 true).2.2.2.1 (Ur (α:=Bool) 8 (z,A,B,C,D,G,H,I) (rd b J (Qn (α:=Int) 6 0)).2.2.1 true).2.2.2.2.1 (Ur (α:=Bool) 8 (z,A,B,C,D,G,H,I) (rd b J (Qn (α:=Int) 6 0)).2.2.1 true).2.2.2.2.2.1 (Ur (α:=Bool) 8 (z,A,B,C,D,G,H,I) (rd b J (Qn (α:=Int) 6 0)).2.2.1 true).2.2.2.2.2.2.1 (Ur (α:=Bool) 8 (z,A,B,C,D,G,H,I) (rd b J (Qn (α:=Int) 6 0)).2.2.1 true).2.2.2.2.2.2.2 (IntKind.i64.wrap (J+1)))))
     else
      (bif (rd b J (Qn (α:=Int) 6 0)).2.1==3 then
       (bif decide ((rd b J (Qn (α:=Int) 6 0)).2.2.1≥(a.2.2.1.length:Int)) then
        some ((false,()),())
       else
        Yo k g12 a b c e f h i l m n o p s t u v w y z A B C D G H I J (rd b J (Qn (α:=Int) 6 0)).1 (rd b J (Qn (α:=Int) 6 0)).2.1 (rd b J (Qn (α:=Int) 6 0)).2.2.1 (rd b J (Qn (α:=Int) 6 0)).2.2.2.1 (rd b J (Qn (α:=Int) 6 0)).2.2.2.2.1 (rd b J (Qn (α:=Int) 6 0)).2.2.2.2.2)
      else
       (bif (rd b J (Qn (α:=Int) 6 0)).2.1==4 then
        (bif decide ((rd b J (Qn (α:=Int) 6 0)).2.2.1≥(a.2.2.1.length:Int)) then
         some ((false,()),())
        else
         Yo k g12 a b c e f h i l m n o p s t u v w y z A B C D G H I J (rd b J (Qn (α:=Int) 6 0)).1 (rd b J (Qn (α:=Int) 6 0)).2.1 (rd b J (Qn (α:=Int) 6 0)).2.2.1 (rd b J (Qn (α:=Int) 6 0)).2.2.2.1 (rd b J (Qn (α:=Int) 6 0)).2.2.2.2.1 (rd b J (Qn (α:=Int) 6 0)).2.2.2.2.2)
       else
        (bif (rd b J (Qn (α:=Int) 6 0)).2.1==8 then
         ax 8 (rd b J (Qn (α:=Int) 6 0)).2.2.1 <|
         (bif Uq (α:=Bool) 8 (z,A,B,C,D,G,H,I) (rd b J (Qn (α:=Int) 6 0)).2.2.1 false then
          some ((false,()),())
         else
          (bif decide ((rd b J (Qn (α:=Int) 6 0)).2.2.1≥(a.2.2.1.length:Int)) then
           some ((false,()),())
          else
           ix a.2.2.1 (rd b J (Qn (α:=Int) 6 0)).2.2.1 <|
           (bif ((rd a.2.2.1 (rd b J (Qn (α:=Int) 6 0)).2.2.1 bg).2.2.2.2.1.length:Int)==0 then
            some ((false,()),())
           else
            (bif J==0 then
             some ((false,()),())
            else
             ix b (IntKind.i64.wrap (J - 1)) <|
             (bif (rd b (IntKind.i64.wrap (J - 1)) (Qn (α:=Int) 6 0)).2.1 != 3 then
              some ((false,()),())
             else
              ix b (IntKind.i64.wrap (J - 1)) <|
              (bif (rd b (IntKind.i64.wrap (J - 1)) (Qn (α:=Int) 6 0)).2.2.1 != (rd b J (Qn (α:=Int) 6 0)).2.2.1 then
               some ((false,()),())
              else
               g12 a b c e f h i l m n o p s t u v w y z A B C D G H I (IntKind.i64.wrap (J+1))))))))
        else
         g12 a b c e f h i l m n o p s t u v w y z A B C D G H I (IntKind.i64.wrap (J+1)))))))))
 else
  some ((true,()),()))
def ajU (k:Nat) (g:((Unit)×aqU×(List (PN Int 6))×amf×amf×(Bool×Bool×Bool×Bool×Bool×Bool×Bool×Bool×Unit)×Int×Unit) -> Option aa5) (d:(Unit)×aqU×(List (PN Int 6))×amf×amf×(Bool×Bool×Bool×Bool×Bool×Bool×Bool×Bool×Unit)×Int×Unit):Option aa5:=Yp k (fun a b c e f h i l m n o p s t u v w y z A B C D G H I J=>g ((),RP a,b,(c,e,f,h,i,l,m,n,()),(o,p,s,t,u,v,w,y,()),(z,A,B,C,D,G,H,I,()),J,())) (Zt d.2.1) d.2.2.1 d.2.2.2.1.1 d.2.2.2.1.2.1 d.2.2.2.1.2.2.1 d.2.2.2.1.2.2.2.1 d.2.2.2.1.2.2.2.2.1 d.2.2.2.1.2.2.2.2.2.1 d.2.2.2.1.2.2.2.2.2.2.1 d.2.2.2.1.2.2.2.2.2.2.2.1 d.2.2.2.2.1.1 d.2.2.2.2.1.2.1 d.2.2.2.2.1.2.2.1 d.2.2.2.2.1.2.2.2.1 d.2.2.2.2.1.2.2.2.2.1 d.2.2.2.2.1.2.2.2.2.2.1 d.2.2.2.2.1.2.2.2.2.2.2.1 d.2.2.2.2.1.2.2.2.2.2.2.2.1 d.2.2.2.2.2.1.1 d.2.2.2.2.2.1.2.1 d.2.2.2.2.2.1.2.2.1 d.2.2.2.2.2.1.2.2.2.1 d.2.2.2.2.2.1.2.2.2.2.1 d.2.2.2.2.2.1.2.2.2.2.2.1 d.2.2.2.2.2.1.2.2.2.2.2.2.1 d.2.2.2.2.2.1.2.2.2.2.2.2.2.1 d.2.2.2.2.2.2.1
def Yq (k a:Nat) (b:ajT) (c:List (PN Int 6)) (e f h i l m n o p s t u v w y z:Int) (A B C D G H I J:Bool) (K:Int):Option aa5:=iter afn (ajU k) a ((),RP b,c,(e,f,h,i,l,m,n,o,()),(p,s,t,u,v,w,y,z,()),(A,B,C,D,G,H,I,J,()),K,())
theorem aa6 (k a b c e f h i l m n o p s t u v w y z A B C D G H I J K):Yq k (a+1) b c e f h i l m n o p s t u v w y z A B C D G H I J K=Yp k (Yq k a) b c e f h i l m n o p s t u v w y z A B C D G H I J K:=Ba _ _ _ _
def S12 (k:Nat) (a b:List Int):Option aa5 :=
 (S15 k).bind fun q0 =>
 (bif !q0.1.1 then
  some ((false,()),())
 else
  (bif decide ((a.length:Int)>200) then
   some ((true,()),())
  else
   (bif decide ((b.length:Int)>250) then
    some ((true,()),())
   else
    (S16 k a).bind fun q1 =>
    (S17 k q1.1.1.1 q1.1.1.2.1).bind fun q2 =>
    (S16 k b).bind fun q3 =>
    (S18 k q3.1.1.1 q3.1.1.2.1 120).bind fun q4 =>
    ap q2.1.1 q4.1.1 168 fun r5 =>
    (S19 k 30 r5).bind fun q6 =>
    (bif !q6.1.2.2.2.1 then
     some ((false,()),())
    else
     Yq k k q6.1.1 q6.1.2.1 0 0 0 0 0 0 0 0 0 0 0 0 0 0 0 0 false false false false false false false false 0))))
def F12:Fn:=⟨[aqW,aqW],[rB],fun k x=>S12 k x.1 x.2.1⟩
theorem ok12:O 12 F12:=okF (ah ok15 <| ah ok16 <| ah ok17 <| ah ok18 <| ah ok19 <| ah ok49 aj) [] (fun k=>(.loop 12 afn (ajU k) (fun g=>(fun (g12:ajS)=>(.join 34 amg (fun d=>Ym k g12 (Zt d.2.1) d.2.2.1 d.2.2.2.1.1 d.2.2.2.1.2.1 d.2.2.2.1.2.2.1 d.2.2.2.1.2.2.2.1 d.2.2.2.1.2.2.2.2.1 d.2.2.2.1.2.2.2.2.2.1 d.2.2.2.1.2.2.2.2.2.2.1 d.2.2.2.1.2.2.2.2.2.2.2.1 d.2.2.2.2.1.1 d.2.2.2.2.1.2.1 d.2.2.2.2.1.2.2.1 d.2.2.2.2.1.2.2.2.1 d.2.2.2.2.1.2.2.2.2.1 d.2.2.2.2.1.2.2.2.2.2.1 d.2.2.2.2.1.2.2.2.2.2.2.1 d.2.2.2.2.1.2.2.2.2.2.2.2.1 d.2.2.2.2.2.1.1 d.2.2.2.2.2.1.2.1 d.2.2.2.2.2.1.2.2.1 d.2.2.2.2.2.1.2.2.2.1 d.2.2.2.2.2.1.2.2.2.2.1 d.2.2.2.2.2.1.2.2.2.2.2.1 d.2.2.2.2.2.1.2.2.2.2.2.2.1 d.2.2.2.2.2.1.2.2.2.2.2.2.2.1 d.2.2.2.2.2.2.1 d.2.2.2.2.2.2.2.1.1 d.2.2.2.2.2.2.2.1.2.1 d.2.2.2.2.2.2.2.1.2.2.1 d.2.2.2.2.2.2.2.1.2.2.2.1 d.2.2.2.2.2.2.2.1.2.2.2.2.1 d.2.2.2.2.2.2.2.1.2.2.2.2.2.1 d.2.2.2.2.2.2.2.2.1 d.2.2.2.2.2.2.2.2.2.1) (.join 32 amh (fun d=>Yn k g12 (Zt d.2.1) d.2.2.1 d.2.2.2.1.1 d.2.2.2.1.2.1 d.2.2.2.1.2.2.1 d.2.2.2.1.2.2.2.1 d.2.2.2.1.2.2.2.2.1 d.2.2.2.1.2.2.2.2.2.1 d.2.2.2.1.2.2.2.2.2.2.1 d.2.2.2.1.2.2.2.2.2.2.2.1 d.2.2.2.2.1.1 d.2.2.2.2.1.2.1 d.2.2.2.2.1.2.2.1 d.2.2.2.2.1.2.2.2.1 d.2.2.2.2.1.2.2.2.2.1 d.2.2.2.2.1.2.2.2.2.2.1 d.2.2.2.2.1.2.2.2.2.2.2.1 d.2.2.2.2.1.2.2.2.2.2.2.2.1 d.2.2.2.2.2.1.1 d.2.2.2.2.2.1.2.1 d.2.2.2.2.2.1.2.2.1 d.2.2.2.2.2.1.2.2.2.1 d.2.2.2.2.2.1.2.2.2.2.1 d.2.2.2.2.2.1.2.2.2.2.2.1 d.2.2.2.2.2.1.2.2.2.2.2.2.1 d.2.2.2.2.2.1.2.2.2.2.2.2.2.1 d.2.2.2.2.2.2.1 d.2.2.2.2.2.2.2.1.1 d.2.2.2.2.2.2.2.1.2.1 d.2.2.2.2.2.2.2.1.2.2.1 d.2.2.2.2.2.2.2.1.2.2.2.1 d.2.2.2.2.2.2.2.1.2.2.2.2.1 d.2.2.2.2.2.2.2.1.2.2.2.2.2.1 d.2.2.2.2.2.2.2.2.1.1 d.2.2.2.2.2.2.2.2.1.2.1 d.2.2.2.2.2.2.2.2.1.2.2.1 d.2.2.2.2.2.2.2.2.1.2.2.2.1 d.2.2.2.2.2.2.2.2.1.2.2.2.2.1 d.2.2.2.2.2.2.2.2.1.2.2.2.2.2.1 d.2.2.2.2.2.2.2.2.2.1 d.2.2.2.2.2.2.2.2.2.2.1) (.join 28 ami (fun d=>Yo k g12 (Zt d.2.1) d.2.2.1 d.2.2.2.1.1 d.2.2.2.1.2.1 d.2.2.2.1.2.2.1 d.2.2.2.1.2.2.2.1 d.2.2.2.1.2.2.2.2.1 d.2.2.2.1.2.2.2.2.2.1 d.2.2.2.1.2.2.2.2.2.2.1 d.2.2.2.1.2.2.2.2.2.2.2.1 d.2.2.2.2.1.1 d.2.2.2.2.1.2.1 d.2.2.2.2.1.2.2.1 d.2.2.2.2.1.2.2.2.1 d.2.2.2.2.1.2.2.2.2.1 d.2.2.2.2.1.2.2.2.2.2.1 d.2.2.2.2.1.2.2.2.2.2.2.1 d.2.2.2.2.1.2.2.2.2.2.2.2.1 d.2.2.2.2.2.1.1 d.2.2.2.2.2.1.2.1 d.2.2.2.2.2.1.2.2.1 d.2.2.2.2.2.1.2.2.2.1 d.2.2.2.2.2.1.2.2.2.2.1 d.2.2.2.2.2.1.2.2.2.2.2.1 d.2.2.2.2.2.1.2.2.2.2.2.2.1 d.2.2.2.2.2.1.2.2.2.2.2.2.2.1 d.2.2.2.2.2.2.1 d.2.2.2.2.2.2.2.1.1 d.2.2.2.2.2.2.2.1.2.1 d.2.2.2.2.2.2.2.1.2.2.1 d.2.2.2.2.2.2.2.1.2.2.2.1 d.2.2.2.2.2.2.2.1.2.2.2.2.1 d.2.2.2.2.2.2.2.1.2.2.2.2.2.1) .nil)))) (fun k_ ev in_ ar9 asa asb asc ase asf asg out Xd ajs ash asi asj asl asn turned amj amk aml amm amn amo amq i=>g ((),RP k_,ev,(in_,ar9,asa,asb,asc,ase,asf,asg,()),(out,Xd,ajs,ash,asi,asj,asl,asn,()),(turned,amj,amk,aml,amm,amn,amo,amq,()),i,()))) .nil)) Tryz.func12 rfl
end
end Go.Proofs.YtjjjbcmjmkcedaaGreat.Ab
