import Derived.Test.YtjjjbcmjmkcedaaGreatAbU1
/- Contracts, printed by this session's own program gen.py. -/
set_option linter.unusedVariables false
set_option linter.unusedSimpArgs false
set_option maxRecDepth 100000
namespace Go.Proofs.YtjjjbcmjmkcedaaGreat.Ab
open Go.RowKit
abbrev amo:Type:=Int×Int×Int×(List (Int×Int×Int×Int))×(List (Int×Int×Int×Int))×List (Int×Int×Int×Int)
abbrev agI:Ty:=.pair (.int .i64) (.pair (.int .i64) (.pair (.int .i64) (.pair (.sl 127 (.pair (.int .i64) (.pair (.int .i64) (.pair (.int .i64) (.int .i64))))) (.pair (.sl 127 (.pair (.int .i64) (.pair (.int .i64) (.pair (.int .i64) (.int .i64))))) (.sl 127 (.pair (.int .i64) (.pair (.int .i64) (.pair (.int .i64) (.int .i64)))))))))
abbrev apD:Type:=List (Int×Int×Int×Int×(Int×(PN Int 8)×(List (Int×Int×Int))×Bool)×(Int×(PN Int 8)×(List (Int×Int×Int))×Bool)×(List Int)×Bool)
abbrev apE:Type:=Int×(Int×Int)×(Int×Int)×((List Int)×List Int)×(Int×List (Int×Int))×Int
abbrev ajX:Ty:=.pair (.int .i64) (.pair (.int .i64) (.pair (.int .i64) (.pair (.int .i64) (.pair (.pair (.int .i64) (.pair (Am 8 (.int .i64)) (.pair (.sl 293 (.pair (.int .i64) (.pair (.int .i64) (.int .i64)))) .bool))) (.pair (.pair (.int .i64) (.pair (Am 8 (.int .i64)) (.pair (.sl 293 (.pair (.int .i64) (.pair (.int .i64) (.int .i64)))) .bool))) (.pair (.sl 3 (.int .i64)) .bool))))))
abbrev OB:Type:=Int×amo×(Int×Int)×Int×Int×Int
abbrev aaP:Type:=Int×Int×(List amo)×(List (PN Int 5))×Bool×Bool×Bool×apD×(((List Int)×List Bool)×List apE)×(List Int)×List Bool
abbrev ajY:Ty:=.pair (.int .i64) (.pair (.pair (.int .i64) (.int .i64)) (.pair (.pair (.int .i64) (.int .i64)) (.pair (.pair (.sl 2 (.int .i64)) (.sl 3 (.int .i64))) (.pair (.pair (.int .u32) (.sl 266 (.pair (.int .i64) (.int .u32)))) (.int .u32)))))
abbrev agJ:Type:=Int×Int×(List amo)×(List (PN Int 5))×Bool×Bool×Bool×apD×(List Int)×(List Bool)×(List apE)×(List Int)×(List Bool)×Unit
abbrev amq:Ty:=.pair (.int .i64) (.pair agI (.pair (.pair (.int .i64) (.int .i64)) (.pair (.int .i64) (.pair (.int .i64) (.int .u32)))))
abbrev aaQ:Type:=Int×Int×(List amo)×(List (PN Int 5))×Bool×Bool×Bool×apD×(((List Int)×List Bool)×List apE)×(List Int)×List Bool
abbrev wo:Type:=Int×OB×Int×Int
abbrev yg:Type:=(Bool×Unit)×Unit
abbrev ae6:Ty:=.pair (.int .i64) (.pair amq (.pair (.int .i64) (.int .i64)))
abbrev aqX:PT:=.val ⟨false,(.sl 5 (.int .u8)),false⟩
noncomputable section
abbrev apF:Cut:=⟨[7,9,13,14,16],[.box 42 [cI,cI,.cell (.sl 54 agI),.cell (.sl 168 (Am 5 (.int .i64))),.cell .bool,.cell .bool,.cell .bool,.cell (.sl 59 ajX),.cell (.sl 3 (.int .i64)),.cell (.sl 4 .bool),.cell (.sl 142 ajY),.cell (.sl 3 (.int .i64)),.cell (.sl 4 .bool)],.own 100 ae6,cI,.box 42 [cI,cI,.cell (.sl 54 agI),.cell (.sl 168 (Am 5 (.int .i64))),.cell .bool,.cell .bool,.cell .bool,.cell (.sl 59 ajX),.cell (.sl 3 (.int .i64)),.cell (.sl 4 .bool),.cell (.sl 142 ajY),.cell (.sl 3 (.int .i64)),.cell (.sl 4 .bool)],.box 105 [cI,cI,cI,cI]],[],159,[]⟩
def aaR (k:Nat) (g21:aaQ -> (List wo) -> Int -> Option yg) (a:aaP) (b:List wo) (c:Int) (x:aaP) (e f h i:Int):Option yg :=
 (bif e==16 then
  ix b c <|
  (bif (rd b c bq).2.1.1 != 8 then
   ix b c <|
   (bif (rd b c bq).2.1.1 != 10 then
    some ((false,()),())
   else
    g21 x b (IntKind.i64.wrap (c+1)))
  else
   g21 x b (IntKind.i64.wrap (c+1)))
 else
  g21 x b (IntKind.i64.wrap (c+1)))
abbrev ajZ:Cut:=⟨[7,9,13],[.box 42 [cI,cI,.cell (.sl 54 agI),.cell (.sl 168 (Am 5 (.int .i64))),.cell .bool,.cell .bool,.cell .bool,.cell (.sl 59 ajX),.cell (.sl 3 (.int .i64)),.cell (.sl 4 .bool),.cell (.sl 142 ajY),.cell (.sl 3 (.int .i64)),.cell (.sl 4 .bool)],.own 100 ae6,cI],[],159,[]⟩
def ae7 (k:Nat) (g21:aaQ -> (List wo) -> Int -> Option yg) (a:aaP) (b:List wo) (c:Int):Option yg :=
 (bif decide (c<(b.length:Int)) then
  ix b c <|
  (bif (rd b c bq).1 != 1 then
   (S33 k a).bind fun TU =>
   g21 TU.1.1 b (IntKind.i64.wrap (c+1))
  else
   ix b c <|
   (S41 k a (rd b c bq).2.1).bind fun FE =>
   (bif FE.1.2.2.1.1 != 0 then
    (bif FE.1.2.2.1.1 != 16 then
     (S26 k FE.1.1).bind fun YZ =>
     (S26 k a).bind fun q14 =>
     (S25 k YZ.1.1 q14.1.1).bind fun q15 =>
     (bif !q15.1.1 then
      some ((false,()),())
     else
      (bif decide ((FE.1.2.1.length:Int)>0) then
       some ((false,()),())
      else
       (bif !(fC (.pair (.int .i64) (.int .i64)) FE.1.2.2.1.2.1 (0,0)) then
        some ((false,()),())
       else
        (bif FE.1.2.2.1.2.2 != 0 then
         some ((false,()),())
        else
         aaR k g21 a b c FE.1.1 FE.1.2.2.1.1 FE.1.2.2.1.2.1.1 FE.1.2.2.1.2.1.2 FE.1.2.2.1.2.2))))
    else
     aaR k g21 a b c FE.1.1 FE.1.2.2.1.1 FE.1.2.2.1.2.1.1 FE.1.2.2.1.2.1.2 FE.1.2.2.1.2.2)
   else
    aaR k g21 a b c FE.1.1 FE.1.2.2.1.1 FE.1.2.2.1.2.1.1 FE.1.2.2.1.2.1.2 FE.1.2.2.1.2.2))
 else
  some ((true,()),()))
def aoz (k:Nat) (g:((Unit)×agJ×(List wo)×Int×Unit) -> Option yg) (d:(Unit)×agJ×(List wo)×Int×Unit):Option yg:=ae7 k (fun a b c=>g ((),Q6 a,b,c,())) (tvK d.2.1) d.2.2.1 d.2.2.2.1
def ae8 (k a:Nat) (b:aaP) (c:List wo) (e:Int):Option yg:=iter ajZ (aoz k) a ((),Q6 b,c,e,())
theorem ae9 (k a b c e):ae8 k (a+1) b c e=ae7 k (ae8 k a) b c e:=Ba _ _ _ _
abbrev aj0:Cut:=⟨[2,7,9,12],[.cell (.sl 98 amq),.box 42 [cI,cI,.own 54 agI,.own 168 (Am 5 (.int .i64)),.cell .bool,.cell .bool,.cell .bool,.own 59 ajX,.own 3 (.int .i64),.own 4 .bool,.own 142 ajY,.own 3 (.int .i64),.own 4 .bool],.own 100 ae6,cI],[],159,[]⟩
def afa (k:Nat) (g15:(List OB) -> aaQ -> (List wo) -> Int -> Option yg) (a:List OB) (b:aaP) (c:List wo) (e:Int):Option yg :=
 (bif decide (e<(a.length:Int)) then
  ix a e <|
  (S39 k (rd a e bn)).bind fun q8 =>
  (bif !q8.1.1 then
   some ((true,()),())
  else
   ix a e <|
   (QY k (rd a e bn)).bind fun q9 =>
   ap c ([q9.1.1]:List wo) 168 fun r10 =>
   g15 a b r10 (IntKind.i64.wrap (e+1)))
 else
  ae8 k k b c 0)
def aoA (k:Nat) (g:((Unit)×(List OB)×agJ×(List wo)×Int×Unit) -> Option yg) (d:(Unit)×(List OB)×agJ×(List wo)×Int×Unit):Option yg:=afa k (fun a b c e=>g ((),a,Q6 b,c,e,())) d.2.1 (tvK d.2.2.1) d.2.2.2.1 d.2.2.2.2.1
def aaS (k a:Nat) (b:List OB) (c:aaP) (e:List wo) (f:Int):Option yg:=iter aj0 (aoA k) a ((),b,Q6 c,e,f,())
theorem afb (k a b c e f):aaS k (a+1) b c e f=afa k (aaS k a) b c e f:=Ba _ _ _ _
abbrev aj1:Cut:=⟨[2,7,9,10,11],[.cell (.sl 98 amq),.box 42 [cI,cI,.own 54 agI,.own 168 (Am 5 (.int .i64)),.cell .bool,.cell .bool,.cell .bool,.own 59 ajX,.own 3 (.int .i64),.own 4 .bool,.own 142 ajY,.own 3 (.int .i64),.own 4 .bool],.own 100 ae6,.box 129 [.cell (.sl 5 (.int .u8)),cI],cI],[],159,[]⟩
def afc (k:Nat) (g11:(List OB) -> aaQ -> (List wo) -> (List Int) -> Int -> Int -> Option yg) (a:List OB) (b:aaP) (c:List wo) (e:List Int) (f h:Int):Option yg :=
 (bif decide (h<40) then
  (S28 k (e,f)).bind fun q5 =>
  (bif !q5.1.1 then
   (S38 k e f).bind fun q6 =>
   ap c ([q6.1.1]:List wo) 168 fun r7 =>
   g11 a b r7 q6.2.1.1 q6.2.1.2.1 (IntKind.i64.wrap (h+1))
  else
   aaS k k a b c 0)
 else
  aaS k k a b c 0)
def aoB (k:Nat) (g:((Unit)×(List OB)×agJ×(List wo)×((List Int)×Int×Unit)×Int×Unit) -> Option yg) (d:(Unit)×(List OB)×agJ×(List wo)×((List Int)×Int×Unit)×Int×Unit):Option yg:=afc k (fun a b c e f h=>g ((),a,Q6 b,c,(e,f,()),h,())) d.2.1 (tvK d.2.2.1) d.2.2.2.1 d.2.2.2.2.1.1 d.2.2.2.2.1.2.1 d.2.2.2.2.2.1
def afd (k a:Nat) (b:List OB) (c:aaP) (e:List wo) (f:List Int) (h i:Int):Option yg:=iter aj1 (aoB k) a ((),b,Q6 c,e,(f,h,()),i,())
theorem afe (k a b c e f h i):afd k (a+1) b c e f h i=afc k (afd k a) b c e f h i:=Ba _ _ _ _
def S6 (k:Nat) (a b:List Int) (c:List OB):Option yg :=
 (S35 k).bind fun q0 =>
 (bif !q0.1.1 then
  some ((false,()),())
 else
  (bif decide ((a.length:Int)>200) then
   some ((true,()),())
  else
   (bif decide ((b.length:Int)>150) then
    some ((true,()),())
   else
    (bif decide ((c.length:Int)>15) then
     some ((true,()),())
    else
     (S36 k 60).bind fun q1 =>
     (bif !q1.1.2.1 then
      some ((false,()),())
     else
      (S16 k a).bind fun q2 =>
      (S17 k q2.1.1.1 q2.1.1.2.1).bind fun q3 =>
      (S16 k b).bind fun q4 =>
      afd k k c q1.1.1 q3.1.1 q4.1.1.1 q4.1.1.2.1 0)))))
def F6:Fn:=⟨[aqX,aqX,.val ⟨false,(.sl 98 amq),false⟩],[rB],fun k (a,b,c,_)=>S6 k a b c⟩
theorem ok6:O 6 F6:=okF (ah ok16 <| ah ok17 <| ah ok25 <| ah ok26 <| ah ok28 <| ah ok33 <| ah ok35 <| ah ok36 <| ah ok38 <| ah ok39 <| ah ok40 <| ah ok41 aj) [] (fun k=>(.loop 21 ajZ (aoz k) (fun g=>(fun (g21:aaQ -> (List wo) -> Int -> Option yg)=>(.join 28 apF (fun d=>aaR k g21 (tvK d.2.1) d.2.2.1 d.2.2.2.1 (tvK d.2.2.2.2.1) d.2.2.2.2.2.1.1 d.2.2.2.2.2.1.2.1 d.2.2.2.2.2.1.2.2.1 d.2.2.2.2.2.1.2.2.2.1) .nil)) (fun k_2 apG i2=>g ((),Q6 k_2,apG,i2,()))) (.loop 15 aj0 (aoA k) (fun g=>.nil) (.loop 11 aj1 (aoB k) (fun g=>.nil) .nil)))) Tryz.func6 rfl
end
end Go.Proofs.YtjjjbcmjmkcedaaGreat.Ab
