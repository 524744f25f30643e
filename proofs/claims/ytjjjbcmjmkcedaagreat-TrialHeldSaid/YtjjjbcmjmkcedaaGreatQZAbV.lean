import Derived.Test.YtjjjbcmjmkcedaaGreatQZAbV1
import Derived.KernelRfl
/- The plain law, and what it hangs on. -/
namespace Go.Proofs.YtjjjbcmjmkcedaaGreat.Ab
open Go.RowKit
set_option linter.unusedSimpArgs false
set_option linter.unusedVariables false
open Tr
theorem ahe (K:jd):(wz K (-1) 0).1=K:=by
 unfold wz
 cases K.2.2.2.2.1 with
 | false=>rfl
 | true=>cases K.2.2.2.2.2.1 <;> rfl
theorem AX {k:Nat} (hk:1000 <= k) {K:jd} (h:KW K):S30 k K (-1) 0=some ((K,(wz K (-1) 0).2.1,(wz K (-1) 0).2.2,()),()):=by
 have:=akE hk h (-1) 0
 rwa [ahe] at this
theorem ani {k:Nat} (hk:1000 <= k) {K:jd} (h:KW K):S99 k K=some ((K,()),()):=by
 unfold S99
 rw [AX hk h,Option.bind_some]
theorem KW.yh {K:jd} (h:KW K) {T:Tb} (hT:uy T):KW (yh K T):=⟨h.FY,h.task,h.bnd,hT,h.job,h.R7,h.row,h.off⟩
theorem akK {l:List iw} {t:iw} {ap:Int} (h:(inT l t ap).2.2=0):FX t=0 /\ l.length<8 /\ (inT l t ap).1=AU l t /\ (inT l t ap).2.1.length=(AU l t).length:=by
 obtain ⟨g1,g2,g3,g4⟩:=ape h
 have hga:=WJ g3
 refine ⟨?_,?_,g1,by rw [g2,afR hga.1 hga.2];simp⟩
 ·by_cases q:FX t=0
  ·exact q
  ·unfold inT at h;rw [if_pos q] at h;exact absurd h q
 ·unfold inT at h
  split at h
  ·rename_i q;exact absurd h q
  ·rw [if_neg (by rw [g4];decide)] at h
   split at h
   ·exact absurd h (by decide)
   ·rename_i q;omega
theorem anj {k:Nat} {T:Tb} (h:uy T) (c:Int):uy (zl k T c).1:=by
 unfold zl
 split
 ·exact h
 ·have htl:=agT T.1
  obtain ⟨⟨h1,h2,h3⟩,h4⟩:=h
  refine ⟨⟨by rw [htl.1];exact h1,by rw [htl.2];exact h2,by simp only;rw [Mk];exact h3⟩,fun y hy=>?_⟩
  rcases List.mem_or_eq_of_mem_set hy with q | q
  ·exact h4 y q
  ·rw [q];exact ⟨by simp [ug,wu],by simp [ug,wu],by simp [ug,wu]⟩
theorem ank {T:Tb} (h:uy T) (g:Int×Int):uy (PE T g):=by
 unfold PE
 split
 ·obtain ⟨⟨h1,h2,h3⟩,h4⟩:=h
  refine ⟨⟨h1,by simp only;rw [Mk];exact h2,by simp only;rw [Mk];exact h3⟩,fun y hy=>?_⟩
  rcases List.mem_or_eq_of_mem_set hy with q | q
  ·exact h4 y q
  ·rw [q];exact afB
 ·exact h
def CW (c:Cl):Prop:=(ze c.2.1 /\ (c.2.1.2.2.2.1++c.2.1.2.2.2.2.1).length <= 900) /\ KF c.2.2.2.2.1
theorem akL {K:jd} (h:KW K) {c:Cl} (hc:CW c):KW (O8 K c).1:=by
 unfold O8
 cases hr:K.2.2.2.2.1 with
 | true=>exact h
 | false =>
  rw [cond_false]
  cases hz:(inT K.2.2.1 c.2.1 K.2.1).2.2==0 with
  | false=>exact h
  | true =>
   obtain ⟨g1,g2,g3,g4⟩:=akK (eq_of_beq hz)
   obtain ⟨o1,o2,o3⟩:=h.off hr
   have hl:=U9 K.2.2.1 c.2.1
   rw [cond_true]
   refine ⟨?_,?_,?_,h.tab,?_,?_,fun e=>absurd (hr.symm.trans e) (by decide),fun _=>⟨o1,o2,o3⟩⟩
   ·show (inT K.2.2.1 c.2.1 K.2.1).1.length <= 8
    rw [g3];omega
   ·intro t ht
    have ht:t∈AU K.2.2.1 c.2.1:=by rw [<- g3];exact ht
    unfold AU at ht
    rcases List.mem_append.1 ht with ht | ht
    ·rcases List.mem_append.1 ht with ht | ht
     ·exact h.task t (List.mem_of_mem_take ht)
     ·rw [List.mem_singleton] at ht;rw [ht];exact ⟨hc.1,g1⟩
    ·exact h.task t (List.mem_of_mem_drop ht)
   ·show (inT K.2.2.1 c.2.1 K.2.1).2.1.length=(inT K.2.2.1 c.2.1 K.2.1).1.length
    rw [g3];exact g4
   ·intro j hj
    have hj:j∈K.2.2.2.2.2.2.2.1:=hj
    rw [o1] at hj;cases hj
   ·show rising K.2.2.2.2.2.2.2.1
    exact h.R7
theorem akM {k:Nat} {K:jd} (h:KW K):KW (H8 k K).1:=by
 unfold H8
 cases hz:(uj k K).2==0 with
 | false=>exact h
 | true =>
  rw [cond_true]
  unfold uj at hz ⊢
  cases hr:K.2.2.2.2.1 with
  | true=>rw [hr] at hz;exact absurd (show ((7:Int)==0)=true from hz) (by decide)
  | false =>
   rw [hr,cond_false] at hz
   rw [cond_false]
   obtain ⟨o1,o2,o3⟩:=h.off hr
   cases hl:K.2.2.1.any (GZ (jr K.2.2.2.2.2.2.2.2.1).length) with
   | true=>rw [hl] at hz;exact absurd (show ((4:Int)==0)=true from hz) (by decide)
   | false =>
    have hT:=(E5 (k:=k) h.tab (PS K.2.2.1 (jr K.2.2.2.2.2.2.2.2.1))).1
    refine ⟨h.FY,h.task,h.bnd,hT,h.job,h.R7,fun _=>⟨List.length_replicate ..,List.length_replicate ..⟩,fun e=>absurd (show (true:Bool)=false from e) (by decide)⟩
theorem af6 {k:Nat} {K:jd} (h:KW K) {c:Cl} (hc:CW c):KW (H9 k K c).1:=by
 have hT:=h.tab
 have mk:KW (CV k K c).1:=by
  unfold CV
  cases (c.1==2)&&K.2.2.2.2.1 with
  | true=>exact h
  | false =>
   rw [cond_false]
   cases (zl k K.2.2.2.2.2.2.2.2.1 (c.1 - 1)).2.2 with
   | true=>exact h.yh (anj hT _)
   | false=>exact h
 unfold H9
 cases c.1==1 with
 | true=>exact akL h hc
 | false =>
 cases c.1==2 with
 | true=>exact mk
 | false =>
 cases c.1==3 with
 | true=>exact mk
 | false =>
 cases c.1==4 with
 | true=>exact mk
 | false =>
 cases c.1==5 with
 | true=>exact akM h
 | false =>
 cases c.1==6 with
 | true=>exact apv h hc.2
 | false =>
 cases c.1==7 with
 | true =>
  simp only [cond_true,cond_false]
  unfold WS
  dsimp only
  cases hx:O9 K.2.2.2.2.2.2.2.2.1 c.2.2.1 2 with
  | false=>exact h
  | true =>
   have hs:=FB hT hx
   have hp:=WV ⟨hs.1,hs.2.1⟩ c.2.2.2.2.1
   simp only [Bool.not_true,cond_false]
   cases (EA (rd K.2.2.2.2.2.2.2.2.1.2 c.2.2.1.1 j3).2.2.2.1 c.2.2.2.2.1).2.2 with
   | false=>exact h
   | true=>exact h.yh (U0 hT ⟨hp.1,hp.2,hs.2.2⟩)
 | false =>
 cases c.1==8 with
 | true =>
  simp only [cond_true,cond_false]
  unfold WT
  dsimp only
  cases hx:O9 K.2.2.2.2.2.2.2.2.1 c.2.2.1 2 with
  | false=>exact h
  | true =>
   have hs:=FB hT hx
   have hp:=WW ⟨hs.1,hs.2.1⟩ c.2.2.2.1
   simp only [Bool.not_true,cond_false]
   cases (takeB (rd K.2.2.2.2.2.2.2.2.1.2 c.2.2.1.1 j3).2.2.2.1 c.2.2.2.1).2.2.2 with
   | false=>exact h
   | true=>exact h.yh (U0 hT ⟨hp.1,hp.2,hs.2.2⟩)
 | false =>
 cases c.1==9 with
 | true =>
  simp only [cond_true,cond_false]
  unfold OA
  dsimp only
  cases hx:O9 K.2.2.2.2.2.2.2.2.1 c.2.2.1 3 with
  | false=>exact h
  | true =>
   have hs:=FB hT hx
   have hp:=KD hs.2.2 c.2.2.2.2.2
   exact h.yh (U0 hT ⟨hs.1,hs.2.1,hp.1⟩)
 | false =>
 cases c.1==10 with
 | true =>
  simp only [cond_true,cond_false]
  unfold OB
  dsimp only
  cases hx:O9 K.2.2.2.2.2.2.2.2.1 c.2.2.1 3 with
  | false=>exact h
  | true =>
   have hs:=FB hT hx
   have hp:=UY hs.2.2 c.2.2.2.1 c.2.2.2.2.2
   simp only [Bool.not_true,cond_false]
   cases (CS (rd K.2.2.2.2.2.2.2.2.1.2 c.2.2.1.1 j3).2.2.2.2.1 c.2.2.2.1 c.2.2.2.2.2).2.2 with
   | false=>exact h
   | true=>exact h.yh (U0 hT ⟨hs.1,hs.2.1,hp⟩)
 | false =>
 cases c.1==11 with
 | true =>
  simp only [cond_true,cond_false]
  unfold WU
  dsimp only
  cases hx:ahb K.2.2.2.2.2.2.2.2.1 c.2.2.1 with
  | false=>exact h
  | true=>exact h.yh (ank hT _)
 | false=>exact h
theorem apz {k:Nat} (hk:20000 <= k) {K:jd} (h:KW K) {c:Cl} (hc:CW c):S41 k K c=some (((H9 k K c).1,(H9 k K c).2.1,(H9 k K c).2.2,()),()):=by
 have hT:=h.tab
 have EB:=af6 (k:=k) h hc
 have hk1:1000 <= k:=by omega
 have fin:∀ (x:Option (Unit×_×Unit)) (r:CR),KW r.1 -> x=some ((),BI (asR c r),()) -> (x.bind fun q=>(S99 k (qd q.2.1).1).bind fun p=>some ((p.1.1,(qd q.2.1).2.2.1,(qd q.2.1).2.2.2,()),()))=some ((r.1,r.2.1,r.2.2,()),()):=fun x r hr e=>by
  rw [e,Option.bind_some]
  simp only [vrA]
  rw [show (asR c r).1=r.1 from rfl,ani hk1 hr,Option.bind_some]
  rfl
 unfold S41
 unfold H9 at EB ⊢
 cases h1:c.1==1 with
 | true =>
  rw [h1] at EB
  refine fin _ _ EB ?_
  unfold S89 O8
  show (bif K.2.2.2.2.1 then _ else _)=_
  cases K.2.2.2.2.1 with
  | true=>rfl
  | false =>
   have hi:=amM hk (l:=K.2.2.1) (t:=c.2.1) ⟨h.light,by have:=h.FY;omega,hc.1⟩ K.2.1
   rw [cond_false,cond_false]
   refine (congrArg (fun x=>Option.bind x _) hi).trans ?_
   rw [Option.bind_some]
   simp only
   cases hz:(inT K.2.2.1 c.2.1 K.2.1).2.2==0 with
   | true=>rw [cond_true,cond_true,eq_of_beq hz];rfl
   | false=>rfl
 | false =>
 rw [h1,cond_false] at EB
 cases h2:c.1==2 with
 | true=>rw [h2] at EB;exact fin _ _ EB (UZ hk1 hT (.inl (eq_of_beq h2)))
 | false =>
 rw [h2,cond_false] at EB
 cases h3:c.1==3 with
 | true=>rw [h3] at EB;exact fin _ _ EB (UZ hk1 hT (.inr (.inl (eq_of_beq h3))))
 | false =>
 rw [h3,cond_false] at EB
 cases h4:c.1==4 with
 | true=>rw [h4] at EB;exact fin _ _ EB (UZ hk1 hT (.inr (.inr (eq_of_beq h4))))
 | false =>
 rw [h4,cond_false] at EB
 cases h5:c.1==5 with
 | true=>rw [h5] at EB;exact fin _ _ EB (start_eq hk1 h)
 | false =>
 rw [h5,cond_false] at EB
 cases h6:c.1==6 with
 | true =>
  rw [h6] at EB
  refine fin _ _ EB ?_
  unfold S92
  have e:=akE hk1 h c.2.2.2.1 c.2.2.2.2.1
  refine (congrArg (fun x=>Option.bind x _) e).trans ?_
  rfl
 | false =>
 rw [h6,cond_false] at EB
 cases h7:c.1==7 with
 | true=>rw [h7] at EB;exact fin _ _ EB (post_eq hk1 hT)
 | false =>
 rw [h7,cond_false] at EB
 cases h8:c.1==8 with
 | true=>rw [h8] at EB;exact fin _ _ EB (anh hk1 hT)
 | false =>
 rw [h8,cond_false] at EB
 cases h9:c.1==9 with
 | true=>rw [h9] at EB;exact fin _ _ EB (akJ hk1 hT)
 | false =>
 rw [h9,cond_false] at EB
 cases h10:c.1==10 with
 | true=>rw [h10] at EB;exact fin _ _ EB (akI hk1 hT)
 | false =>
 rw [h10,cond_false] at EB
 cases h11:c.1==11 with
 | true=>rw [h11] at EB;exact fin _ _ EB (free_eq hk1 hT)
 | false=>exact fin _ (err K 1) h rfl
theorem akN (u:jg) (j:jc):(qp u j).2.1.2.length <= u.2.length+2:=by
 unfold qp
 cases j.2.2.2.1==2 with
 | true=>simp [j4]
 | false =>
  cases (j.2.2.2.1==0)&&decide (((u.1.2.2.1.getD j.1.toNat bg).2.2.2.2.1.length:Int)>0) <;> simp [akw,j4]
theorem anl (k:Nat) (u:jg) (j:jc):(M4 k u j).2.1.2.length <= u.2.length+3:=by
 unfold M4
 cases u.1.2.2.2.2.2.2.1 with
 | true=>rw [cond_true];unfold M0;simp [j4]
 | false =>
  rw [cond_false]
  unfold JK
  simp only
  generalize nk (o8 ((j4 u (0,2,j.1,0,0,0)).1.2.2.1.getD j.1.toNat bg) j.2.2.2.1) j.2.2.2.2.1=x
  have fin:∀ v:jg,v.2.length=u.2.length+1 -> ((bif (yg ((j4 u (0,2,j.1,0,0,0)).1.2.2.1.getD j.1.toNat bg) j).2.2.2.2.1.2.2.2 then qp v (yg ((j4 u (0,2,j.1,0,0,0)).1.2.2.1.getD j.1.toNat bg) j) else (false,v,yg ((j4 u (0,2,j.1,0,0,0)).1.2.2.1.getD j.1.toNat bg) j)):LZ).2.1.2.length <= u.2.length+3:=fun v hv=>by
   cases (yg ((j4 u (0,2,j.1,0,0,0)).1.2.2.1.getD j.1.toNat bg) j).2.2.2.2.1.2.2.2 with
   | false=>rw [cond_false];show v.2.length <= _;omega
   | true=>rw [cond_true];have:=akN v (yg ((j4 u (0,2,j.1,0,0,0)).1.2.2.1.getD j.1.toNat bg) j);omega
  have h1:(j4 u (0,2,j.1,0,0,0)).2.length=u.2.length+1:=by simp [j4]
  cases x.1==9 with
  | true=>exact fin _ h1
  | false=>cases x.1==10 with
   | true=>exact fin _ h1
   | false=>exact fin _ h1
theorem Z5 {k:Nat} {K:jd} (h:KW K):(qw k K).2.length <= 100003:=by
 unfold qw
 cases hc:K.2.2.2.2.1&&!K.2.2.2.2.2.1 with
 | false=>simp
 | true =>
  rw [Bool.and_eq_true] at hc
  have he:=((h.kj hc.1).ahead k).ev
  rw [cond_true]
  show (FV k (qg k K)).2.length <= _
  unfold FV
  cases (qg k K).1.2.2.2.2.2.1||(qg k K).1.2.2.2.2.2.2.2.1.isEmpty with
  | true=>rw [cond_true];omega
  | false =>
   rw [cond_false]
   have:=anl k (qg k K) ((qg k K).1.2.2.2.2.2.2.2.1.getD (PL (qg k K).1.2.2.2.2.2.2.2.1 ((qg k K).1.2.2.1.length:Int) (jr (qg k K).1.2.2.2.2.2.2.2.2.1)) ay)
   simp only;omega
noncomputable def DF (k:Nat):Nat -> jd×List je -> jd×List je
 | 0,s=>s
 | n+1,s=>DF k n ((qw k s.1).1,s.2++(qw k s.1).2)
theorem abP {k:Nat}:∀ (n:Nat) (s:jd×List je),KW s.1 -> KW (DF k n s).1 /\ (DF k n s).2.length <= s.2.length+100003 * n
 | 0,s,h=>⟨h,Nat.le_refl _⟩
 | n+1,s,h=>by
  have h1:=(R8 (k:=k) h).1
  have h2:=Z5 (k:=k) h
  obtain ⟨a,b⟩:=abP n ((qw k s.1).1,s.2++(qw k s.1).2) h1
  exact ⟨a,by rw [DF];simp only [List.length_append] at b;omega⟩
noncomputable def doV (k:Nat) (K:jd) (s:Stp):CR :=
 bif s.1==1 then H9 k K s.2.1
 else bif s.1==2 then ((qw k K).1,(qw k K).2,0,(0,0),0)
 else bif s.1==3 then err (w6 K true) 0
 else bif s.1==4 then (bif DY K.2.2.2.2.2.2.2.2.1 s.2.2.1 then err (yh K (CJ K.2.2.2.2.2.2.2.2.1 s.2.2.1)) 0 else err K 3)
 else bif s.1==5 then (bif decide (s.2.2.2<0)||decide (s.2.2.2>10000) then err K 1 else ((DF k s.2.2.2.toNat (K,[])).1,(DF k s.2.2.2.toNat (K,[])).2,0,(0,0),0))
 else err K 1
theorem anm {k:Nat} {K:jd} (h:KW K) (c:Cl):(H9 k K c).2.1.length <= 300:=by
 have hT:=h.tab
 have z:∀ e:Int,(err K e).2.1.length <= 300:=fun e=>by simp [err]
 have mk:(CV k K c).2.1.length <= 300:=by
  unfold CV
  cases (c.1==2)&&K.2.2.2.2.1 with
  | true=>exact z 7
  | false=>cases (zl k K.2.2.2.2.2.2.2.2.1 (c.1 - 1)).2.2 <;> simp [err]
 unfold H9
 cases c.1==1 with
 | true =>
  simp only [cond_true]
  unfold O8
  cases K.2.2.2.2.1 with
  | true=>exact z 7
  | false=>cases (inT K.2.2.1 c.2.1 K.2.1).2.2==0 <;> simp [err]
 | false =>
 cases c.1==2 with
 | true=>exact mk
 | false =>
 cases c.1==3 with
 | true=>exact mk
 | false =>
 cases c.1==4 with
 | true=>exact mk
 | false =>
 cases c.1==5 with
 | true =>
  simp only [cond_true,cond_false]
  unfold H8
  cases (uj k K).2==0 <;> simp [err]
 | false =>
 cases c.1==6 with
 | true =>
  simp only [cond_true,cond_false]
  unfold aqD
  rcases O6 h.R7 c.2.2.2.1 c.2.2.2.2.1 with ⟨_,e,_⟩ | ⟨_,_,_,_,n,_,_,_,_,q | q⟩
  ·simp only;rw [e];simp
  ·simp only;rw [q.2.2];simp
  ·simp only;rw [q.2.2.2];simp
 | false =>
 cases c.1==7 with
 | true =>
  simp only [cond_true,cond_false]
  unfold WS
  dsimp only
  cases !O9 K.2.2.2.2.2.2.2.2.1 c.2.2.1 2 with
  | true=>exact z 3
  | false =>
   rw [cond_false]
   cases !(EA (rd K.2.2.2.2.2.2.2.2.1.2 c.2.2.1.1 j3).2.2.2.1 c.2.2.2.2.1).2.2 with
   | true=>exact z 4
   | false=>cases decide ((EA (rd K.2.2.2.2.2.2.2.2.1.2 c.2.2.1.1 j3).2.2.2.1 c.2.2.2.2.1).2.1>0) <;> simp
 | false =>
 cases c.1==8 with
 | true =>
  simp only [cond_true,cond_false]
  unfold WT
  dsimp only
  cases !O9 K.2.2.2.2.2.2.2.2.1 c.2.2.1 2 with
  | true=>exact z 3
  | false=>cases !(takeB (rd K.2.2.2.2.2.2.2.2.1.2 c.2.2.1.1 j3).2.2.2.1 c.2.2.2.1).2.2.2 <;> simp [err]
 | false =>
 cases c.1==9 with
 | true =>
  simp only [cond_true,cond_false]
  unfold OA
  dsimp only
  cases hx:O9 K.2.2.2.2.2.2.2.2.1 c.2.2.1 3 with
  | false=>exact z 3
  | true =>
   have hp:=(KD (FB hT hx).2.2 c.2.2.2.2.2).2
   simp only [Bool.not_true,cond_false,abN,List.length_map];omega
 | false =>
 cases c.1==10 with
 | true =>
  simp only [cond_true,cond_false]
  unfold OB
  dsimp only
  cases !O9 K.2.2.2.2.2.2.2.2.1 c.2.2.1 3 with
  | true=>exact z 3
  | false=>cases !(CS (rd K.2.2.2.2.2.2.2.2.1.2 c.2.2.1.1 j3).2.2.2.2.1 c.2.2.2.1 c.2.2.2.2.2).2.2 <;> simp [err]
 | false =>
 cases c.1==11 with
 | true =>
  simp only [cond_true,cond_false]
  unfold WU
  dsimp only
  cases hx:ahb K.2.2.2.2.2.2.2.2.1 c.2.2.1 with
  | false=>exact z 3
  | true =>
   unfold ahb BF at hx
   simp only [Bool.and_eq_true] at hx
   obtain ⟨h0,h1,h2⟩:=za hx.1.2
   have hs:=hT.2 _ (NS h0 h1)
   simp only [Bool.not_true,cond_false,List.length_map]
   unfold wo
   rw [List.length_append,List.length_map];have:=hs.2.1;have:=hs.2.2;omega
 | false=>exact z 1
theorem aqE {k:Nat} {K:jd} (h:KW K) {s:Stp} (hs:SW s):KW (doV k K s).1 /\ (doV k K s).2.1.length <= 1000030000:=by
 have z:KW K /\ (0:Nat) <= 1000030000:=⟨h,by omega⟩
 unfold doV
 cases s.1==1 with
 | true=>exact ⟨af6 h ⟨hs.light,hs.arg⟩,by have:=anm (k:=k) h s.2.1;simp only [cond_true];omega⟩
 | false =>
 cases s.1==2 with
 | true=>exact ⟨(R8 h).1,by have:=Z5 (k:=k) h;simp only [cond_true,cond_false];omega⟩
 | false =>
 cases s.1==3 with
 | true=>exact ⟨⟨h.FY,h.task,h.bnd,h.tab,h.job,h.R7,h.row,h.off⟩,by simp [err]⟩
 | false =>
 cases s.1==4 with
 | true =>
  simp only [cond_true,cond_false]
  cases DY K.2.2.2.2.2.2.2.2.1 s.2.2.1 with
  | true=>exact ⟨h.yh (afG h.tab),by simp [err]⟩
  | false=>exact ⟨h,by simp [err]⟩
 | false =>
 cases s.1==5 with
 | true =>
  simp only [cond_true,cond_false]
  cases hn:decide (s.2.2.2<0)||decide (s.2.2.2>10000) with
  | true=>exact ⟨h,by simp [err]⟩
  | false =>
   rw [Bool.or_eq_false_iff] at hn
   have n1:=of_decide_eq_false hn.1
   have n2:=of_decide_eq_false hn.2
   obtain ⟨a,b⟩:=abP (k:=k) s.2.2.2.toNat (K,[]) h
   exact ⟨a,by simp only [cond_false];simp only [List.length_nil] at b;omega⟩
 | false=>exact ⟨h,by simp [err]⟩
theorem abQ {k:Nat} (hk:20000 <= k) {b c:Int} {e f g:Bool} {i l m n o p s t:Int} {N:Nat} (hN:N <= 10000):∀ (d x j:Nat) (K:jd) (ev:List je),x+d=N -> d<j -> KW K -> ev.length <= 100003 * x ->
  Yi k j K b c e f g i l m n o p s t ev (N:Int) (x:Int)=some (((DF k d (K,ev)).1,(DF k d (K,ev)).2,(o,(p,s),t),()),())
 | 0,x,j,K,ev,hx,hj,h,he=>by
  obtain ⟨j,rfl⟩:∃ i,j=i+1:=⟨j - 1,by omega⟩
  rw [aaW,Yh,Sd (by omega),AX (by omega) h,Option.bind_some]
  rfl
 | d+1,x,j,K,ev,hx,hj,h,he=>by
  obtain ⟨j,rfl⟩:∃ i,j=i+1:=⟨j - 1,by omega⟩
  have h2:=Z5 (k:=k) h
  rw [aaW,Yh,Sc (by omega),af4 (by omega) h,Option.bind_some]
  simp only
  rw [Rz (by omega),Mi (by omega),DF]
  exact abQ hk hN d (x+1) j (qw k K).1 (ev++(qw k K).2) (by omega) (by omega) (R8 h).1 (by rw [List.length_append];omega)
theorem apB {k:Nat} (hk:20000 <= k) {K:jd} (h:KW K) {s:Stp} (hs:SW s):S45 k K s=some (((doV k K s).1,(doV k K s).2.1,(doV k K s).2.2,()),()):=by
 have hk1:1000 <= k:=by omega
 unfold S45 doV
 cases s.1==1 with
 | true =>
  rw [cond_true,cond_true,apz hk h ⟨hs.light,hs.arg⟩,Option.bind_some]
 | false =>
 cases s.1==2 with
 | true=>simp only [cond_true,cond_false];rw [af4 hk1 h,Option.bind_some]
 | false =>
 cases s.1==3 with
 | true =>
  simp only [cond_true,cond_false]
  rw [AX hk1 (K:=w6 K true) ⟨h.FY,h.task,h.bnd,h.tab,h.job,h.R7,h.row,h.off⟩,Option.bind_some];rfl
 | false =>
 cases s.1==4 with
 | true =>
  simp only [cond_true,cond_false]
  rw [amm hk1 h.tab,Option.bind_some]
  simp only
  cases DY K.2.2.2.2.2.2.2.2.1 s.2.2.1 with
  | true =>
   have e:=AX hk1 (h.yh (afG (i:=s.2.2.1) h.tab))
   simp only [Bool.not_true,cond_false,cond_true]
   refine (congrArg (fun x=>Option.bind x _) e).trans ?_
   rfl
  | false=>simp only [Bool.not_false,cond_true,cond_false];rw [AX hk1 h,Option.bind_some];rfl
 | false =>
 cases s.1==5 with
 | true =>
  simp only [cond_true,cond_false]
  by_cases n1:s.2.2.2<0
  ·rw [Sc n1,decide_eq_true n1,AX hk1 h,Option.bind_some];rfl
  ·rw [Sd n1,decide_eq_false n1,Bool.false_or]
   by_cases n2:s.2.2.2>10000
   ·rw [Sc n2,Sc n2,AX hk1 h,Option.bind_some];rfl
   ·rw [Sd n2,Sd n2]
    have e:=abQ (k:=k) hk (b:=0) (c:=0) (e:=false) (f:=false) (g:=false) (i:=0) (l:=0) (m:=0) (n:=0) (o:=0) (p:=0) (s:=0) (t:=0) (N:=s.2.2.2.toNat) (by omega) s.2.2.2.toNat 0 k K [] (by omega) (by omega) h (by simp)
    rw [show ((s.2.2.2.toNat:Nat):Int)=s.2.2.2 by omega] at e
    exact e
 | false=>simp only [cond_false];rw [AX hk1 h,Option.bind_some];rfl
def aqF:Tb:=newT
def abR (ap:Int):jd:=(0,ap,[],[],false,false,false,[],aqF,[],[])
theorem apC (k:Nat) {ap:Int} (h1:1 <= ap) (h2:ap <= 4611686018427387904):S36 k ap=some ((abR ap,true,()),()):=by
 unfold S36
 rw [Sd (by omega),Sd (by omega)]
 rfl
theorem apD (ap:Int):KW (abR ap):=⟨by simp [abR],(fun t h=>by simp [abR] at h),rfl,amu,(fun j h=>by simp [abR] at h),List.Pairwise.nil,(fun h=>by simp [abR] at h),fun _=>⟨rfl,rfl,rfl⟩⟩
theorem apE {k:Nat} (hk:20000 <= k):S43 k=some ((true,()),()):=by
 obtain ⟨k,rfl⟩:∃ m,k=m+20000:=⟨k - 20000,by omega⟩
 kernel_rfl
theorem af7 (k:Nat) (p:List Int):S16 k p=some (((p,0,()),()),()):=rfl
theorem apF {e:TypeId} {k:Nat} (hk:1000 <= k) {p:List Int} (hp:Ty.fine (.sl e (.int .u8)) p) (h:p.length <= 1000):∃ (l:List Stp) (n:Int),S17 k p 0=some ((l,()),(p,n,()),()) /\ (∀ s∈l,SW s) /\ l.length <= 10:=by
 obtain ⟨l,n,e,_,h1,h2⟩:=akF hk (abe hp h)
 exact ⟨l,n,e,h1,h2⟩
theorem ano {e:TypeId} {k:Nat} (hk:1000 <= k) {p:List Int} (hp:Ty.fine (.sl e (.int .u8)) p) (h:p.length <= 1000) {c:Nat} (hc:c <= 500):∃ (l:List Stp) (n:Int),S18 k p 0 (c:Int)=some ((l,()),(p,n,()),()) /\ (∀ s∈l,SW s) /\ l.length <= 10+c:=by
 obtain ⟨l,n,e,_,h1,h2⟩:=apy hk (abe hp h) hc
 exact ⟨l,n,e,h1,h2⟩
abbrev xq (j:jc):List Int:=j.2.2.2.2.2.2.1
theorem M7 {T:Tb} {s:Nat} (h:s<(jm T).length):(jr T).getD s s0=(T.2.getD ((jm T).getD s 0) j3).2.2.1:=by
 unfold jr
 rw [E8 (f:=fun i=>(T.2.getD i j3).2.2.1) 0 s0 h]
theorem WX {k:Nat} {l:List jf}:∀ (c:List Nat) (i:Nat) (T:Tb),uy T -> c.Nodup -> (∀ a∈c,a<T.2.length /\ (T.2.getD a j3).1=1) -> ∀ p,p<c.length -> i+p<l.length -> ((FU k l c i T).2.getD (c.getD p 0) j3).2.2.1=l.getD (i+p) s0
 | [],i,T,_,_,_,p,hp,_=>by simp at hp
 | a::c,i,T,hT,hn,ha,p,hp,hi=>by
  rw [List.nodup_cons] at hn
  obtain ⟨h1,h2,h3,h4⟩:=UF (k:=k) (l:=l) (i:=i) hT (ha a (by simp)).1
  have hc:∀ b∈c,b<(BH k l a i T).2.length /\ ((BH k l a i T).2.getD b j3).1=1:=fun b hb=>by rw [h2,(h4 b).1];exact ha b (by simp [hb])
  rw [FU]
  cases p with
  | zero =>
   have e:=((UH (k:=k) (l:=l) c (i+1) (BH k l a i T) h1 (fun b hb=>(hc b hb).1)).2.2.2 a).2 hn.1
   rw [show (a::c).getD 0 0=a from rfl,e,Nat.add_zero]
   unfold BH
   by_cases q:(T.2.getD a j3).2.2.1=l.getD i s0
   ·rw [if_neg (fun h=>h.2 q)];exact q
   ·rw [if_pos ⟨by omega,q⟩,QT (ha a (by simp)).1,if_pos ⟨rfl,by rw [(ha a (by simp)).2];decide⟩]
    unfold YJ ug setSm
    split <;> rfl
  | succ p =>
   have:=WX (k:=k) (l:=l) c (i+1) (BH k l a i T) h1 hn.2 hc p (by simpa using hp) (by omega)
   rw [show (a::c).getD (p+1) 0=c.getD p 0 from rfl,this,show i+1+p=i+(p+1) by omega]
theorem M8 {k:Nat} {T:Tb} (h:uy T) {l:List jf} (hl:l.length=(jr T).length):jr (zm k T l)=l:=by
 obtain ⟨g1,g2,g3,g4,_⟩:=E5 (k:=k) h l
 rw [vo] at hl
 refine List.ext_getElem (by rw [vo,g3];exact hl.symm) (fun s h1 h2=>?_)
 have hs:s<(jm T).length:=by omega
 have e:=M7 (T:=zm k T l) (s:=s) (by rw [g3];exact hs)
 rw [getD_in h1] at e
 have e2:=WX (k:=k) (l:=l) (jm T) 0 T h (abB T) (fun a ha=>sj.1 ha) s hs (by omega)
 rw [e,g3]
 refine e2.trans ?_
 rw [Nat.zero_add,getD_in h2]
def HL (l:List jf) (js:List jc):Prop:=∀ s:Nat,s<l.length -> (l.getD s s0).2≠0 -> ∃ j∈js,j.1+1=(l.getD s s0).2 /\ (s:Int)∈xq j
def FR (T:Tb):Prop:=∀ i,T.1.2.getD i false=false -> (T.2.getD i j3).1≠1
def OP (js:List jc):Prop:=∀ j∈js,j.2.2.2.1=2 -> xq j=[]
structure HK (T:Tb) (js:List jc):Prop where
 fr:FR T
 hl:HL (jr T) js
 op:OP js
theorem FR.lock {T:Tb} (h:FR T) (hT:uy T) (k:Nat) (l:List jf):FR (zm k T l):=by
 obtain ⟨_,_,_,g4,g5⟩:=E5 (k:=k) hT l
 intro i hi
 rw [g4] at hi
 rw [(g5 i).1]
 exact h i hi
theorem akO {l:List jf} {t:Int} (ht:0 <= t) {s:Nat} (h:s<l.length):((J8 l t).getD s s0).2=if (l.getD s s0).2=t+1 then 0 else (l.getD s s0).2:=by
 unfold J8
 rw [E8 (f:=acG t) s0 s0 h]
 unfold acG
 rw [decide_eq_true ht,Bool.true_and]
 by_cases e:(l.getD s s0).2=t+1
 ·rw [if_pos e,show ((l.getD s s0).2==t+1)=true from beq_iff_eq.2 e];rfl
 ·rw [if_neg e,beq_eq_false_iff_ne.2 e];rfl
theorem HL.all {l:List jf} {js js2:List jc} (h:HL l js) {t:Int} (ht:0 <= t) (hs:∀ j∈js,j.1≠t -> j∈js2):HL (J8 l t) js2:=by
 intro s hl hne
 rw [LW] at hl
 rw [akO ht hl] at hne ⊢
 by_cases e:(l.getD s s0).2=t+1
 ·rw [if_pos e] at hne;exact absurd rfl hne
 ·rw [if_neg e] at hne ⊢
  obtain ⟨j,hj,e1,e2⟩:=h s hl hne
  exact ⟨j,hs j hj (by omega),e1,e2⟩
theorem HL.same {l l2:List jf} {js js2:List jc} (h:HL l js) (hlen:l2.length=l.length) (he:∀ s,s<l.length -> (l2.getD s s0).2=(l.getD s s0).2) (hs:∀ j∈js,∀ x∈xq j,∃ j2∈js2,j2.1=j.1 /\ x∈xq j2):HL l2 js2:=by
 intro s hl hne
 rw [hlen] at hl
 rw [he s hl] at hne ⊢
 obtain ⟨j,hj,e1,e2⟩:=h s hl hne
 obtain ⟨j2,q1,q2,q3⟩:=hs j hj _ e2
 exact ⟨j2,q1,by rw [q2];exact e1,q3⟩
theorem R9 {k:Nat}:∀ (js:List jc) (s:jg×List jc),uy s.1.1.2.2.2.2.2.2.2.2.1 -> HK s.1.1.2.2.2.2.2.2.2.2.1 (s.2++js) -> (∀ j∈js,0 <= j.1) -> HK (js.foldl (BK k) s).1.1.2.2.2.2.2.2.2.2.1 (js.foldl (BK k) s).2
 | [],s,_,h,_=>by rw [List.append_nil] at h;exact h
 | j::js,s,hT,h,hp=>by
  have hj:=hp j (by simp)
  have hp':∀ x∈js,0 <= x.1:=fun x hx=>hp x (by simp [hx])
  rw [List.foldl_cons]
  unfold BK
  cases IntKind.i64.wrap (s.1.1.1 - j.2.1) != (s.1.1.2.2.1.getD j.1.toNat bg).2.2.1 with
  | true=>exact R9 js _ hT (by show HK _ ((s.2++[j])++js);rw [List.append_assoc];exact h) hp'
  | false =>
   rw [cond_false]
   have hop:OP (s.2++js):=fun x hx=>h.op x (by simp at hx ⊢;exact hx.imp id .inr)
   cases h2:j.2.2.2.1==2 with
   | true =>
    refine R9 js _ hT ⟨h.fr,h.hl.same rfl (fun _ _=>rfl) (fun x hx y hy=>?_),hop⟩ hp'
    rcases List.mem_append.1 hx with q | q
    ·exact ⟨x,List.mem_append.2 (.inl q),rfl,hy⟩
    ·rcases List.mem_cons.1 q with q | q
     ·have:=h.op x hx (by rw [q];exact eq_of_beq h2)
      rw [this] at hy;cases hy
     ·exact ⟨x,List.mem_append.2 (.inr q),rfl,hy⟩
   | false =>
    have hc:=(E5 (k:=k) hT (J8 (jr s.1.1.2.2.2.2.2.2.2.2.1) j.1)).1
    have jh:(GX k s.1 j).1.2.2.2.2.2.2.2.2.1=zm k s.1.1.2.2.2.2.2.2.2.2.1 (J8 (jr s.1.1.2.2.2.2.2.2.2.2.1) j.1):=by
     unfold GX
     simp only
     cases (CO s.1.1.2.2.2.2.2.2.2.2.2.1 s.1.1.2.2.2.2.2.2.2.2.2.2 j.1.toNat).2.2 <;> rfl
    refine R9 js (GX k s.1 j,s.2) (by show uy (GX k s.1 j).1.2.2.2.2.2.2.2.2.1;rw [jh];exact hc) ?_ hp'
    show HK (GX k s.1 j).1.2.2.2.2.2.2.2.2.1 (s.2++js)
    rw [jh]
    refine ⟨h.fr.lock hT k _,?_,hop⟩
    rw [M8 hT (LW _ _)]
    refine h.hl.all hj (fun x hx hne=>?_)
    rcases List.mem_append.1 hx with q | q
    ·exact List.mem_append.2 (.inl q)
    ·rcases List.mem_cons.1 q with q | q
     ·rw [q] at hne;exact absurd rfl hne
     ·exact List.mem_append.2 (.inr q)
theorem HK.map {T:Tb} {js:List jc} (h:HK T js) {f:jc -> jc} (hf:∀ j,(f j).1=j.1 /\ (f j).2.2.2.1=j.2.2.2.1 /\ xq (f j)=xq j):HK T (js.map f):=by
 refine ⟨h.fr,h.hl.same rfl (fun _ _=>rfl) (fun x hx y hy=>⟨f x,List.mem_map.2 ⟨x,hx,rfl⟩,(hf x).1,by rw [(hf x).2.2];exact hy⟩),fun j hj h2=>?_⟩
 obtain ⟨x,hx,rfl⟩:=List.mem_map.1 hj
 rw [(hf x).2.1] at h2
 rw [(hf x).2.2];exact h.op x hx h2
theorem af8 {k:Nat} {l:List Th}:∀ (m i:Nat) (s:List Th×List Int×List (List Int)),i+m=l.length -> (∀ a∈s.2.1,∃ n:Nat,a=(n:Int) /\ n<l.length /\ trn k (l.getD n j3)=true) -> ∀ a∈(Wq k l m i s).2.1,∃ n:Nat,a=(n:Int) /\ n<l.length /\ trn k (l.getD n j3)=true
 | 0,_,s,_,h=>h
 | m+1,i,s,hi,h=>by
  rw [Wq]
  refine af8 m (i+1) _ (by omega) ?_
  split
  ·rename_i q
   intro a ha
   rcases List.mem_append.1 ha with ha | ha
   ·exact h a ha
   ·rw [List.mem_singleton] at ha;exact ⟨i,ha,by omega,q⟩
  ·exact h
theorem anq {c:List Nat} {a:Int} {s:Nat} (h:pq (fun x=>a==x) (ou c)=(s:Int)):s<c.length /\ ((c.getD s 0:Nat):Int)=a:=by
 unfold pq at h
 cases e:(ou c).findIdx? (fun x=>a==x) with
 | none=>rw [e] at h;simp at h
 | some n =>
  rw [e] at h
  have hn:n=s:=by simp at h;omega
  subst hn
  rw [List.findIdx?_eq_some_iff_getElem] at e
  obtain ⟨hn,h1,_⟩:=e
  have hn2:n<c.length:=by rw [qj] at hn;exact hn
  refine ⟨hn2,?_⟩
  have h1:=eq_of_beq h1
  rw [getD_in hn2,h1]
  simp [ou]
theorem OC {T:Tb} {s:Int}:∀ (ps:List Int) (j:jc),(∀ a∈ps,pq (fun x=>a==x) (ou (jm T))≠s) -> s∈xq j -> s∈xq (su T ps j)
 | [],j,_,h=>h
 | a::ps,j,ha,h=>by
  unfold su
  rw [List.foldl_cons]
  have h1:=ha a (by simp)
  cases decide (pq (fun x=>a==x) (ou (jm T))≥0) with
  | false=>exact OC ps j (fun b hb=>ha b (by simp [hb])) h
  | true =>
   refine OC ps (x9 j (pq (fun x=>a==x) (ou (jm T)))) (fun b hb=>ha b (by simp [hb])) ?_
   show s∈BG _ _
   unfold BG
   rw [List.mem_filter]
   refine ⟨h,?_⟩
   rw [Bool.not_eq_true',beq_eq_false_iff_ne]
   exact fun e=>h1 e.symm
theorem anr {k:Nat} {T:Tb} {js:List jc} (hT:uy T) (h:HK T js):HK (T.1,(qm k T).1) (js.map (su T (qm k T).2.1)):=by
 obtain ⟨a1,a2,a3,a4,a5,a6,a7⟩:=QY (k:=k) hT
 refine ⟨fun i hi=>?_,fun s hs hne=>?_,fun j hj h2=>?_⟩
 ·by_cases hl:i<T.2.length
  ·show ((qm k T).1.getD i j3).1≠1
   rw [a7 i hl]
   split
   ·exact h.fr i hi
   ·exact h.fr i hi
  ·rw [DT (by show (qm k T).1.length <= i;omega)];decide
 ·rw [vo,a3] at hs
  have e:=M7 (T:=(T.1,(qm k T).1)) (s:=s) (by rw [a3];exact hs)
  have hm:=sj.1 (jl (z:=0) hs)
  have e2:((T.1,(qm k T).1):Tb).2.getD ((jm T).getD s 0) j3=_:=a7 _ hm.1
  rw [a3,e2] at e
  by_cases ht:trn k (T.2.getD ((jm T).getD s 0) j3)=true
  ·rw [if_pos ht] at e
   rw [e] at hne
   exact absurd rfl hne
  ·rw [if_neg ht,<- M7 hs] at e
   rw [e] at hne ⊢
   obtain ⟨j,hj,e1,e3⟩:=h.hl s (by rw [vo];exact hs) hne
   refine ⟨su T (qm k T).2.1 j,List.mem_map.2 ⟨j,hj,rfl⟩,by rw [(KA _ _ _).1];exact e1,OC _ _ (fun a ha ei=>?_) e3⟩
   obtain ⟨n,hn,hn2,hn3⟩:=af8 (k:=k) (l:=T.2) T.2.length 0 (T.2,[],[]) (by omega) (by simp) a ha
   have:=(anq ei).2
   rw [hn] at this
   have:(jm T).getD s 0=n:=by omega
   rw [this] at ht
   exact ht hn3
 ·obtain ⟨x,hx,rfl⟩:=List.mem_map.1 hj
  rw [(KA _ _ _).2.2.2] at h2
  have:=h.op x hx h2
  have hs:=J2 (T:=T) (qm k T).2.1 x
  have hs:(xq (su T (qm k T).2.1 x)).Sublist (xq x):=hs
  rw [this] at hs
  exact List.sublist_nil.1 hs
theorem set_self {js:List jc} {i:Nat} {y:jc} (h:i<js.length):y∈js.set i y:=List.mem_iff_getElem.2 ⟨i,by rw [List.length_set];exact h,by simp⟩
theorem OD {js:List jc} {i b:Nat} {y:jc} (hb:b<js.length) (hne:b≠i):js.getD b ay∈js.set i y:=by
 have e:(js.set i y).getD b ay=js.getD b ay:=by rw [ko,if_neg (fun q=>hne q.1.symm)]
 rw [<- e];exact jl (by rw [List.length_set];exact hb)
theorem WY {js:List jc} {i b:Nat} (hb:b<js.length) (hne:b≠i):js.getD b ay∈js.take i++js.drop (i+1):=by
 rw [getD_in hb,List.mem_append]
 by_cases h:b<i
 ·exact .inl (List.mem_iff_getElem.2 ⟨b,by rw [List.length_take];omega,by rw [List.getElem_take]⟩)
 ·exact .inr (List.mem_iff_getElem.2 ⟨b - (i+1),by rw [List.length_drop];omega,by rw [List.getElem_drop];congr 1;omega⟩)
theorem ahf {l:List jf} {x t:Int} {s:Nat} (h:s<l.length):((PK l x t).getD s s0).2=if x=(s:Int) /\ (l.getD s s0).2=0 then t+1 else (l.getD s s0).2:=by
 unfold PK
 by_cases h1:0 <= x /\ x<(l.length:Int) /\ (rd l x s0).2=0
 ·obtain ⟨n,rfl⟩:∃ n:Nat,x=(n:Int):=⟨x.toNat,by omega⟩
  rw [if_pos h1,Mj,ko]
  rw [Qp] at h1 ⊢
  by_cases e:n=s
  ·subst e;rw [if_pos ⟨rfl,h⟩,if_pos ⟨rfl,h1.2.2⟩]
  ·rw [if_neg (fun q=>e q.1),if_neg (fun q=>e (by omega))]
 ·rw [if_neg h1,if_neg]
  rintro ⟨rfl,q⟩
  rw [Qp] at h1
  exact h1 ⟨by omega,by omega,q⟩
theorem akP {l:List jf} {x t:Int} (ht:0 <= t) {s:Nat} (h:s<l.length):((abF l x t).getD s s0).2=if x=(s:Int) /\ (l.getD s s0).2=t+1 then 0 else (l.getD s s0).2:=by
 unfold abF holdsV
 by_cases h1:0 <= x /\ x<(l.length:Int) /\ (rd l x s0).2=t+1
 ·obtain ⟨n,rfl⟩:∃ n:Nat,x=(n:Int):=⟨x.toNat,by omega⟩
  rw [decide_eq_true h1.1,decide_eq_true h1.2.1,decide_eq_true ht,show ((rd l (n:Int) s0).2==t+1)=true from beq_iff_eq.2 h1.2.2]
  simp only [Bool.and_self,if_true]
  rw [Mj,ko]
  rw [Qp] at h1 ⊢
  by_cases e:n=s
  ·subst e;rw [if_pos ⟨rfl,h⟩,if_pos ⟨rfl,h1.2.2⟩]
  ·rw [if_neg (fun q=>e q.1),if_neg (fun q=>e (by omega))]
 ·rw [if_neg (fun q=>by
   simp only [Bool.and_eq_true,decide_eq_true_eq,beq_iff_eq] at q
   exact h1 ⟨q.1,q.2.1,q.2.2.2⟩),if_neg]
  rintro ⟨rfl,q⟩
  rw [Qp] at h1
  exact h1 ⟨by omega,by omega,q⟩
theorem ant {ts:List iw} {a:Int} {j:jc} (h:JW ts a j) (ht:TW (ts.getD j.1.toNat bg)) (h2:j.2.2.2.1=2) (he:xq j=[]):xq (yg (ts.getD j.1.toNat bg) j)=[]:=by
 obtain ⟨tr,fin,H,h1,_⟩:=h.m
 have hm:=h1.mok.1.pc.2
 have hx:(nk (o8 (ts.getD j.1.toNat bg) j.2.2.2.1) j.2.2.2.2.1).1≠9:=by
  have hmem:nk (o8 (ts.getD j.1.toNat bg) j.2.2.2.1) j.2.2.2.2.1∈o8 (ts.getD j.1.toNat bg) j.2.2.2.1:=jl hm
  have hz:=ht.code.2.2.2
  unfold akg at hz
  rw [List.any_eq_false] at hz
  have e:o8 (ts.getD j.1.toNat bg) j.2.2.2.1=(ts.getD j.1.toNat bg).2.2.2.2.2:=by rw [h2];rfl
  have aqG:nk (o8 (ts.getD j.1.toNat bg) j.2.2.2.1) j.2.2.2.2.1∈(ts.getD j.1.toNat bg).2.2.2.2.2:=by rw [e] at hmem ⊢;exact hmem
  have:=hz _ aqG
  exact fun q=>this (beq_iff_eq.2 q)
 show CP (nk _ _) (xq j)=[]
 unfold CP
 rw [he,beq_eq_false_iff_ne.2 hx,cond_false]
 cases (nk (o8 (ts.getD j.1.toNat bg) j.2.2.2.1) j.2.2.2.2.1).1==10 <;> rfl
theorem OP.set {js:List jc} (h:OP js) {i:Nat} {y:jc} (hy:y.2.2.2.1=2 -> xq y=[]):OP (js.set i y):=fun j hj h2=>by
 rcases List.mem_or_eq_of_mem_set hj with q | q
 ·exact h j q h2
 ·rw [q] at h2 ⊢;exact hy h2
theorem OP.del {js:List jc} (h:OP js) {i:Nat}:OP (js.take i++js.drop (i+1)):=fun j hj h2=>by
 rcases List.mem_append.1 hj with q | q
 ·exact h j (List.mem_of_mem_take q) h2
 ·exact h j (List.mem_of_mem_drop q) h2
theorem HL.set {l:List jf} {js:List jc} (h:HL l js) {i:Nat} {y:jc} (e:y.1=(js.getD i ay).1) (hs:∀ x∈xq (js.getD i ay),x∈xq y):HL l (js.set i y):=h.same rfl (fun _ _=>rfl) (fun j hj x hx=>by
 obtain ⟨b,hb,eb⟩:=qy ay hj
 by_cases q:b=i
 ·subst q
  rw [eb] at e hs
  exact ⟨y,set_self hb,e,hs x hx⟩
 ·exact ⟨j,by rw [<- eb];exact OD hb q,rfl,hx⟩)
theorem HL.del {l:List jf} {js:List jc} (h:HL l js) {i:Nat} (hs:xq (js.getD i ay)=[]):HL l (js.take i++js.drop (i+1)):=h.same rfl (fun _ _=>rfl) (fun j hj x hx=>by
 obtain ⟨b,hb,eb⟩:=qy ay hj
 by_cases q:b=i
 ·subst q
  rw [eb] at hs
  rw [hs] at hx;cases hx
 ·exact ⟨j,by rw [<- eb];exact WY hb q,rfl,hx⟩)
def af9 (js:List jc) (i:Nat) (r:LZ):List jc:=bif r.1 then js.take i++js.drop (i+1) else js.set i r.2.2
theorem apG {k:Nat} {u:jg} {i:Nat} {js:List jc} (hT:uy u.1.2.2.2.2.2.2.2.2.1) (h:HK u.1.2.2.2.2.2.2.2.2.1 js) (hi:i<js.length) {a:Int} (hj:JW u.1.2.2.1 a (js.getD i ay)) (ht:∀ t∈u.1.2.2.1,TW t):HK (M4 k u (js.getD i ay)).2.1.1.2.2.2.2.2.2.2.2.1 (af9 js i (M4 k u (js.getD i ay))):=by
 have htk:=hj.task
 have Lx:=ht _ (jl (z:=bg) (show (js.getD i ay).1.toNat<u.1.2.2.1.length by omega))
 have hop:=h.op _ (jl (z:=ay) hi)
 unfold M4
 generalize hjj:js.getD i ay=j at hj htk Lx hop
 cases u.1.2.2.2.2.2.2.1 with
 | true =>
  rw [cond_true]
  unfold M0
  simp only
  show HK (zm k u.1.2.2.2.2.2.2.2.2.1 (J8 (jr u.1.2.2.2.2.2.2.2.2.1) j.1)) _
  have hall:∀ js2:List jc,(∀ b,b<js.length -> b≠i -> js.getD b ay∈js2) -> HL (jr (zm k u.1.2.2.2.2.2.2.2.2.1 (J8 (jr u.1.2.2.2.2.2.2.2.2.1) j.1))) js2:=fun js2 h2=>by
   rw [M8 hT (LW _ _)]
   refine h.hl.all htk.1 (fun x hx hne=>?_)
   obtain ⟨b,hb,eb⟩:=qy ay hx
   rw [<- eb]
   refine h2 b hb (fun q=>hne ?_)
   rw [<- eb,q,hjj]
  unfold af9 ag3
  rw [show (j4 u (0,2,j.1,0,0,0)).1=u.1 from rfl]
  cases h2:j.2.2.2.1==2 with
  | true=>exact ⟨h.fr.lock hT k _,hall _ (fun b hb hne=>WY hb hne),h.op.del⟩
  | false =>
   have e13:(((JL (u.1.2.2.1.getD j.1.toNat bg) j,bif (j.2.2.2.1==0)&&decide (((u.1.2.2.1.getD j.1.toNat bg).2.2.2.2.1.length:Int)>0) then (7:Int) else 6):jc×Int).2==13)=false:=by
    cases (j.2.2.2.1==0)&&decide (((u.1.2.2.1.getD j.1.toNat bg).2.2.2.2.1.length:Int)>0) <;> rfl
   simp only [cond_false]
   rw [e13]
   refine ⟨h.fr.lock hT k _,hall _ (fun b hb hne=>OD hb hne),h.op.set (fun _=>?_)⟩
   unfold JL
   cases (j.2.2.2.1==0)&&decide (((u.1.2.2.1.getD j.1.toNat bg).2.2.2.2.1.length:Int)>0) <;> rfl
 | false =>
  rw [cond_false]
  obtain ⟨g1,g2,g3⟩:=hj.goes
  have hgo:=ant hj Lx
  unfold JK
  rw [show (j4 u (0,2,j.1,0,0,0)).1=u.1 from rfl]
  simp only
  cases ho:(yg (u.1.2.2.1.getD j.1.toNat bg) j).2.2.2.2.1.2.2.2 with
  | true =>
   obtain ⟨z1,z2,z3,z4⟩:=g2 ho
   rw [z4]
   have z1:xq j=[]:=z1
   simp only [cond_true]
   show HK (qp (j4 u (0,2,j.1,0,0,0)) (yg (u.1.2.2.1.getD j.1.toNat bg) j)).2.1.1.2.2.2.2.2.2.2.2.1 _
   have jh:(qp (j4 u (0,2,j.1,0,0,0)) (yg (u.1.2.2.1.getD j.1.toNat bg) j)).2.1.1.2.2.2.2.2.2.2.2.1=u.1.2.2.2.2.2.2.2.2.1:=by
    rcases UM (j4 u (0,2,j.1,0,0,0)) (yg (u.1.2.2.1.getD j.1.toNat bg) j) with q | ⟨w,q,_⟩ <;> rw [q] <;> rfl
   rw [jh]
   have jk:(qp (j4 u (0,2,j.1,0,0,0)) (yg (u.1.2.2.1.getD j.1.toNat bg) j)).1=true \/ (qp (j4 u (0,2,j.1,0,0,0)) (yg (u.1.2.2.1.getD j.1.toNat bg) j)).2.2=ag2 (yg (u.1.2.2.1.getD j.1.toNat bg) j):=by
    unfold qp
    cases (yg (u.1.2.2.1.getD j.1.toNat bg) j).2.2.2.1==2 with
    | true=>exact .inl rfl
    | false=>exact .inr rfl
   have hd:HL (jr u.1.2.2.2.2.2.2.2.2.1) (js.take i++js.drop (i+1)):=h.hl.del (by rw [hjj];exact z1)
   unfold af9
   show HK _ (bif (qp (j4 u (0,2,j.1,0,0,0)) (yg (u.1.2.2.1.getD j.1.toNat bg) j)).1 then _ else js.set i (qp (j4 u (0,2,j.1,0,0,0)) (yg (u.1.2.2.1.getD j.1.toNat bg) j)).2.2)
   rcases jk with q | q
   ·rw [q];exact ⟨h.fr,hd,h.op.del⟩
   ·rw [q]
    cases (qp (j4 u (0,2,j.1,0,0,0)) (yg (u.1.2.2.1.getD j.1.toNat bg) j)).1 with
    | true=>exact ⟨h.fr,hd,h.op.del⟩
    | false=>exact ⟨h.fr,h.hl.set (by rw [hjj];rfl) (by rw [hjj,z1];intro x hx;cases hx),h.op.set (fun _=>rfl)⟩
  | false =>
   have hps:OP (js.set i (yg (u.1.2.2.1.getD j.1.toNat bg) j)):=h.op.set (fun h2=>hgo h2 (hop h2))
   have hhx:xq (yg (u.1.2.2.1.getD j.1.toNat bg) j)=CP (nk (o8 (u.1.2.2.1.getD j.1.toNat bg) j.2.2.2.1) j.2.2.2.2.1) (xq j):=rfl
   have hg1:(yg (u.1.2.2.1.getD j.1.toNat bg) j).1=j.1:=rfl
   simp only [cond_false]
   unfold af9
   simp only [cond_false]
   generalize yg (u.1.2.2.1.getD j.1.toNat bg) j=y at hhx hg1 hps
   generalize nk (o8 (u.1.2.2.1.getD j.1.toNat bg) j.2.2.2.1) j.2.2.2.2.1=x at hhx
   have hy:y∈js.set i y:=set_self hi
   unfold CP at hhx
   cases e9:x.1==9 with
   | true =>
    rw [e9,cond_true] at hhx
    simp only [cond_true]
    refine ⟨h.fr.lock hT k _,?_,hps⟩
    show HL (jr (zm k u.1.2.2.2.2.2.2.2.2.1 (PK (jr u.1.2.2.2.2.2.2.2.2.1) x.2.1 j.1))) _
    rw [M8 hT (NW _ _ _)]
    intro s hs hne
    rw [NW] at hs
    rw [ahf hs] at hne ⊢
    by_cases q:x.2.1=(s:Int) /\ ((jr u.1.2.2.2.2.2.2.2.2.1).getD s s0).2=0
    ·rw [if_pos q]
     exact ⟨y,hy,by rw [hg1],by rw [hhx,q.1];simp⟩
    ·rw [if_neg q] at hne ⊢
     obtain ⟨w,hw,q1,q2⟩:=(h.hl.set (i:=i) (y:=y) (by rw [hjj];exact hg1) (by rw [hjj,hhx];intro z hz;exact List.mem_append.2 (.inl hz))) s hs hne
     exact ⟨w,hw,q1,q2⟩
   | false =>
    rw [e9,cond_false] at hhx
    cases e10:x.1==10 with
    | true =>
     rw [e10,cond_true] at hhx
     simp only [cond_true,cond_false]
     refine ⟨h.fr.lock hT k _,?_,hps⟩
     show HL (jr (zm k u.1.2.2.2.2.2.2.2.2.1 (abF (jr u.1.2.2.2.2.2.2.2.2.1) x.2.1 j.1))) _
     rw [M8 hT (UK _ _ _)]
     intro s hs hne
     rw [UK] at hs
     rw [akP htk.1 hs] at hne ⊢
     by_cases q:x.2.1=(s:Int) /\ ((jr u.1.2.2.2.2.2.2.2.2.1).getD s s0).2=j.1+1
     ·rw [if_pos q] at hne;exact absurd rfl hne
     ·rw [if_neg q] at hne ⊢
      obtain ⟨w,hw,q1,q2⟩:=h.hl s hs hne
      obtain ⟨b,hb,eb⟩:=qy ay hw
      by_cases qb:b=i
      ·rw [qb,hjj] at eb
       rw [<- eb] at q1 q2
       refine ⟨y,hy,by rw [hg1];exact q1,?_⟩
       rw [hhx]
       exact (R6 x.2.1 (xq j) _).2.2 _ q2 (fun e=>q ⟨e.symm,q1.symm⟩)
      ·exact ⟨w,by rw [<- eb];exact OD hb qb,q1,q2⟩
    | false =>
     rw [e10,cond_false] at hhx
     simp only [cond_false]
     exact ⟨h.fr,h.hl.set (by rw [hjj];exact hg1) (by rw [hjj,hhx];exact fun z hz=>hz),hps⟩
theorem aga {k:Nat} {K:jd} (h:KW K) (hh:HK K.2.2.2.2.2.2.2.2.1 K.2.2.2.2.2.2.2.1):HK (qw k K).1.2.2.2.2.2.2.2.2.1 (qw k K).1.2.2.2.2.2.2.2.1:=by
 unfold qw
 cases hc:K.2.2.2.2.1&&!K.2.2.2.2.2.1 with
 | false=>exact hh
 | true =>
  rw [Bool.and_eq_true] at hc
  have hkj:=h.kj hc.1
  rw [cond_true]
  show HK (FV k (qg k K)).1.2.2.2.2.2.2.2.2.1 (FV k (qg k K)).1.2.2.2.2.2.2.2.1
  have e1:=R9 (k:=k) K.2.2.2.2.2.2.2.1 ((K,[]),[]) h.tab hh (fun j hj=>(h.job j hj).elim fun a q=>q.task.1)
  obtain ⟨t1,he1⟩:=TI.ends hkj k
  have e2:HK (LX (zf k (K,[]))).1.2.2.2.2.2.2.2.2.1 (LX (zf k (K,[]))).1.2.2.2.2.2.2.2.1:=by
   rw [UR,UU]
   exact HK.map e1 (fun j=>by rcases GY (zf k (K,[])).1.1 (zf k (K,[])).1.2.2.2.1 j with e | e <;> rw [e] <;> exact ⟨rfl,rfl,rfl⟩)
  have e3:HK (qg k K).1.2.2.2.2.2.2.2.2.1 (qg k K).1.2.2.2.2.2.2.2.1:=by
   unfold qg
   rw [UO k _ t1.prom.tab]
   exact anr t1.prom.tab e2
  have t3:=hkj.ahead k
  have hj3:∀ j∈(qg k K).1.2.2.2.2.2.2.2.1,∃ a,JW K.2.2.1 a j:=fun j hj=>by
   obtain ⟨x,hx,q,_⟩:=WQ hkj hj
   obtain ⟨a,ha⟩:=h.job x hx
   exact ⟨a,q _ _ ha⟩
  have et:=t3.tasks.1
  have hT3:=t3.tab
  generalize qg k K=u at e3 hj3 et hT3
  unfold FV
  cases hc:u.1.2.2.2.2.2.1||u.1.2.2.2.2.2.2.2.1.isEmpty with
  | true=>exact e3
  | false =>
   rw [cond_false]
   rw [Bool.or_eq_false_iff] at hc
   have hmin:=next_lt hc.2 (u.1.2.2.1.length:Int) (jr u.1.2.2.2.2.2.2.2.2.1)
   simp only
   generalize PL u.1.2.2.2.2.2.2.2.1 (u.1.2.2.1.length:Int) (jr u.1.2.2.2.2.2.2.2.2.1)=i at hmin ⊢
   obtain ⟨a,ha⟩:=hj3 _ (jl (z:=ay) hmin)
   rw [<- et] at ha
   exact apG hT3 e3 hmin ha (by rw [et];exact h.task)
theorem RA {T T2:Tb} (hl:T2.2.length=T.2.length) (h:∀ i,i<T.2.length -> ((T2.2.getD i j3).1=1↔(T.2.getD i j3).1=1) /\ ((T.2.getD i j3).1=1 -> (T2.2.getD i j3).2.2.1=(T.2.getD i j3).2.2.1)):jr T2=jr T:=by
 have e:jm T2=jm T:=by
  unfold jm
  rw [hl]
  refine List.filter_congr (fun i hi=>?_)
  unfold isS
  have:=(h i (List.mem_range.1 hi)).1
  rw [Bool.eq_iff_iff,beq_iff_eq,beq_iff_eq];exact this
 unfold jr
 rw [e]
 exact List.map_congr_left (fun a ha=>(h a (sj.1 ha).1).2 (sj.1 ha).2)
theorem ahg {k:Nat} {T:Tb} {i:Int} {x:Th}:(EZ k T i x).1=T.1:=by unfold EZ;split <;> rfl
theorem ahh (k:Nat) (w x:Th):(YJ k w x).1=w.1:=by unfold YJ;split <;> rfl
theorem Z6 {k:Nat} {T:Tb} {js:List jc} (h:HK T js) {g:Int×Int} {kd:Int} (hx:O9 T g kd=true) (hk1:kd≠1) (x:Th):HK (EZ k T g.1 x) js:=by
 unfold O9 BF at hx
 simp only [Bool.and_eq_true,beq_iff_eq] at hx
 obtain ⟨h0,h1,h2⟩:=za hx.1.2
 obtain ⟨n,hn⟩:∃ n:Nat,g.1=(n:Int):=⟨g.1.toNat,by omega⟩
 rw [hn,Qp] at hx
 rw [hn] at h1 ⊢
 have hkind:∀ i,((EZ k T (n:Int) x).2.getD i j3).1=(T.2.getD i j3).1:=fun i=>by
  rw [QT (by omega)]
  split
  ·rename_i q;rw [ahh,q.1]
  ·rfl
 refine ⟨fun i hi=>?_,?_,h.op⟩
 ·rw [ahg] at hi
  rw [hkind];exact h.fr i hi
 ·rw [RA afF (fun i hi=>⟨by rw [hkind],fun h1=>?_⟩)]
  ·exact h.hl
  ·rw [QT (by omega),if_neg]
   rintro ⟨rfl,_⟩
   exact hk1 (hx.2.symm.trans h1)
theorem anu {T:Tb} {js:List jc} (h:HK T js) (i:Int):HK (CJ T i) js:=by
 by_cases ht:DY T i=true
 ·obtain ⟨h0,h1,h2⟩:=za ht
  obtain ⟨n,rfl⟩:∃ n:Nat,i=(n:Int):=⟨i.toNat,by omega⟩
  have hs:(CJ T (n:Int)).1=T.1:=by unfold CJ;split <;> rfl
  have hg:∀ a,((CJ T (n:Int)).2.getD a j3).1=(T.2.getD a j3).1 /\ ((CJ T (n:Int)).2.getD a j3).2.2.1=(T.2.getD a j3).2.2.1:=fun a=>by
   rw [ake (by omega)]
   split
   ·rename_i q;rw [<- q.1];exact ⟨rfl,rfl⟩
   ·exact ⟨rfl,rfl⟩
  refine ⟨fun a ha=>?_,?_,h.op⟩
  ·rw [hs] at ha
   rw [(hg a).1];exact h.fr a ha
  ·rw [RA akd (fun a _=>⟨by rw [(hg a).1],fun _=>(hg a).2⟩)];exact h.hl
 ·unfold CJ
  rw [if_neg ht];exact h
theorem anv {T:Tb} {js:List jc} (h:HK T js) (g:Int×Int):HK (PE T g) js:=by
 unfold PE
 split
 ·rename_i q
  have hf:=q.1
  unfold BF at hf
  rw [Bool.and_eq_true] at hf
  obtain ⟨h0,h1,h2⟩:=za hf.2
  obtain ⟨n,hn⟩:∃ n:Nat,g.1=(n:Int):=⟨g.1.toNat,by omega⟩
  rw [hn,Qp] at q
  rw [hn] at h1 ⊢
  refine ⟨fun a ha=>?_,?_,h.op⟩
  ·show ((upd T.2 (n:Int) j3).getD a j3).1≠1
   have ha:(upd T.1.2 (n:Int) false).getD a false=false:=ha
   rw [Mj,ko] at ha ⊢
   by_cases e:n=a
   ·subst e;rw [if_pos ⟨rfl,by omega⟩];decide
   ·rw [if_neg (fun q=>e q.1)] at ha ⊢;exact h.fr a ha
  ·rw [RA (T:=T) (by simp only;rw [Mk]) (fun a ha=>?_)]
   ·exact h.hl
   ·simp only
    rw [Mj,ko]
    by_cases e:n=a
    ·subst e
     rw [if_pos ⟨rfl,by omega⟩]
     exact ⟨⟨fun z=>absurd z (by decide),fun z=>absurd z q.2⟩,fun z=>absurd z q.2⟩
    ·rw [if_neg (fun q=>e q.1)];exact ⟨Iff.rfl,fun _=>rfl⟩
 ·exact h
theorem ahi {s:iq} (h:(oh s).2.2=true):∃ n:Nat,n<s.1.length /\ n<s.2.length /\ s.2.getD n false=false /\ (oh s).2.1.1=(n:Int) /\ (oh s).1.2=s.2.set n true:=by
 unfold oh at h ⊢
 by_cases hf:FQ s<0
 ·rw [if_pos hf] at h;cases h
 ·rw [if_neg hf]
  obtain ⟨n,hn⟩:∃ n:Nat,FQ s=(n:Int):=⟨(FQ s).toNat,by omega⟩
  have e:=hn
  unfold FQ pq at e
  cases he:(s.2.take (min s.1.length s.2.length)).findIdx? (fun b=>b==false) with
  | none=>rw [he] at e;simp at e
  | some m =>
   rw [he] at e
   have hm:m=n:=by simp at e;omega
   subst hm
   rw [List.findIdx?_eq_some_iff_getElem] at he
   obtain ⟨h1,h2,_⟩:=he
   have h1':=h1
   rw [List.length_take] at h1'
   refine ⟨m,by omega,by omega,?_,hn,?_⟩
   ·rw [getD_in (by omega)]
    rw [List.getElem_take] at h2
    exact eq_of_beq h2
   ·simp only
    rw [hn,Int.toNat_natCast]
theorem anw {k:Nat} {T:Tb} {js:List jc} (h:HK T js) {c:Int} (hc:c=1 -> js=[]):HK (zl k T c).1 js:=by
 unfold zl
 split
 ·exact h
 ·rename_i hn
  rw [not_or,not_or] at hn
  obtain ⟨n,h1,h2,h3,h4,h5⟩:=ahi (s:=T.1) (by simpa using hn.2.1)
  have hlt:(n:Int)<(T.2.length:Int):=by have:=hn.2.2;rw [h4] at this;omega
  have hk1:=h.fr n h3
  rw [h4]
  have hg:∀ a,(upd T.2 (n:Int) (ug k (wu c (oh T.1).2.1))).getD a j3=if n=a then ug k (wu c (oh T.1).2.1) else T.2.getD a j3:=fun a=>by
   rw [Mj,ko]
   by_cases e:n=a
   ·rw [if_pos e,if_pos ⟨e,by omega⟩]
   ·rw [if_neg e,if_neg (fun q=>e q.1)]
  refine ⟨fun a ha=>?_,?_,h.op⟩
  ·have ha:(oh T.1).1.2.getD a false=false:=ha
   rw [h5,ko] at ha
   show ((upd T.2 (n:Int) _).getD a j3).1≠1
   rw [hg]
   by_cases e:n=a
   ·rw [if_pos ⟨e,by omega⟩] at ha;cases ha
   ·rw [if_neg (fun q=>e q.1)] at ha
    rw [if_neg e];exact h.fr a ha
  ·by_cases c1:c=1
   ·intro s hs hne
    exfalso
    rw [vo] at hs
    rw [M7 hs] at hne
    have hm:=sj.1 (jl (z:=0) hs)
    generalize (jm ((oh T.1).1,upd T.2 (n:Int) (ug k (wu c (oh T.1).2.1)))).getD s 0=a at hm hne
    have hm:a<(upd T.2 (n:Int) (ug k (wu c (oh T.1).2.1))).length /\ ((upd T.2 (n:Int) (ug k (wu c (oh T.1).2.1))).getD a j3).1=1:=hm
    have hne:((upd T.2 (n:Int) (ug k (wu c (oh T.1).2.1))).getD a j3).2.2.1.2≠0:=hne
    rw [hg] at hm hne
    by_cases e:n=a
    ·rw [if_pos e] at hne;exact hne rfl
    ·rw [if_neg e] at hm hne
     rw [Mk] at hm
     obtain ⟨s2,hs2,e2⟩:=qy 0 (sj.2 hm)
     have:=h.hl s2 (by rw [vo];exact hs2) (by rw [M7 hs2,e2];exact hne)
     rw [hc c1] at this
     obtain ⟨j,hj,_⟩:=this
     cases hj
   ·rw [RA (T:=T) (by simp only;rw [Mk]) (fun a ha=>?_)]
    ·exact h.hl
    ·simp only
     rw [hg]
     by_cases e:n=a
     ·subst e
      rw [if_pos rfl]
      exact ⟨⟨fun z=>absurd z c1,fun z=>absurd z hk1⟩,fun z=>absurd z hk1⟩
     ·rw [if_neg e];exact ⟨Iff.rfl,fun _=>rfl⟩
def HKK (K:jd):Prop:=HK K.2.2.2.2.2.2.2.2.1 K.2.2.2.2.2.2.2.1
theorem akQ {k:Nat} {K:jd} (hT:uy K.2.2.2.2.2.2.2.2.1) (h:HKK K):HKK (H8 k K).1:=by
 unfold H8 uj
 cases K.2.2.2.2.1 with
 | true=>exact h
 | false =>
  rw [cond_false]
  cases K.2.2.1.any (GZ (jr K.2.2.2.2.2.2.2.2.1).length) with
  | true=>exact h
  | false =>
   show HK (zm k K.2.2.2.2.2.2.2.2.1 (PS K.2.2.1 (jr K.2.2.2.2.2.2.2.2.1))) _
   have hlen:(PS K.2.2.1 (jr K.2.2.2.2.2.2.2.2.1)).length=(jr K.2.2.2.2.2.2.2.2.1).length:=by unfold PS;rw [List.length_map,List.length_range]
   refine ⟨h.fr.lock hT k _,?_,h.op⟩
   rw [M8 hT hlen]
   refine h.hl.same hlen (fun s hs=>?_) (fun j hj x hx=>⟨j,hj,rfl,hx⟩)
   unfold PS
   rw [E8 (f:=fun s:Nat=>(uz K.2.2.1 (s:Int),((jr K.2.2.2.2.2.2.2.2.1).getD s s0).2)) 0 s0 (by rw [List.length_range];exact hs)]
   rw [getD_in (by rw [List.length_range];exact hs),List.getElem_range]
theorem apH {K:jd} (hw:KW K) (h:HKK K) (p a:Int):HKK (wz K p a).1:=by
 rcases O6 hw.R7 p a with ⟨e,_⟩ | ⟨hru,hha,hp,_,n,h1,h2,e,hris,hc⟩
 ·rw [e];exact h
 ·rw [e]
  have hmem:∀ j∈K.2.2.2.2.2.2.2.1,xq j≠[] -> j∈K.2.2.2.2.2.2.2.1.take (ni p K.2.2.2.2.2.2.2.1)++[K9 p K.1 a]++K.2.2.2.2.2.2.2.1.drop n:=fun j hj hne=>by
   obtain ⟨b,hb,eb⟩:=qy ay hj
   by_cases q:b<ni p K.2.2.2.2.2.2.2.1
   ·refine List.mem_append.2 (.inl (List.mem_append.2 (.inl (List.mem_iff_getElem.2 ⟨b,by rw [List.length_take];omega,?_⟩))))
    rw [List.getElem_take,<- getD_in (z:=ay) hb];exact eb
   ·by_cases q2:b<n
    ·exfalso
     rcases hc with ⟨c1,_⟩ | ⟨c1,c2,c3,_⟩
     ·omega
     ·have:b=ni p K.2.2.2.2.2.2.2.1:=by omega
      rw [<- this,eb] at c3
      exact hne (h.op j hj c3)
    ·refine List.mem_append.2 (.inr (List.mem_iff_getElem.2 ⟨b - n,by rw [List.length_drop];omega,?_⟩))
     rw [List.getElem_drop]
     rw [<- eb,getD_in hb];congr 1;omega
  refine ⟨h.fr,h.hl.same rfl (fun _ _=>rfl) (fun j hj x hx=>⟨j,hmem j hj (fun z=>by rw [z] at hx;cases hx),rfl,hx⟩),fun j hj hp2=>?_⟩
  rcases List.mem_append.1 hj with q | q
  ·rcases List.mem_append.1 q with q | q
   ·exact h.op j (List.mem_of_mem_take q) hp2
   ·rw [List.mem_singleton] at q;rw [q];rfl
  ·exact h.op j (List.mem_of_mem_drop q) hp2
theorem anx {k:Nat} {K:jd} (hw:KW K) (h:HKK K) (c:Cl):HKK (H9 k K c).1:=by
 have hT:=hw.tab
 unfold H9
 cases c.1==1 with
 | true =>
  simp only [cond_true]
  unfold O8
  cases K.2.2.2.2.1 with
  | true=>exact h
  | false =>
  cases (inT K.2.2.1 c.2.1 K.2.1).2.2==0 with
  | true=>exact h
  | false=>exact h
 | false =>
 have mk:c.1≠2 \/ c.1=2 -> HKK (CV k K c).1:=fun _=>by
  unfold CV
  cases hc:(c.1==2)&&K.2.2.2.2.1 with
  | true=>exact h
  | false =>
   rw [cond_false]
   cases (zl k K.2.2.2.2.2.2.2.2.1 (c.1 - 1)).2.2 with
   | false=>exact h
   | true =>
    refine anw h (fun e=>?_)
    have e2:c.1=2:=by omega
    rw [e2] at hc
    exact (hw.off (by simpa using hc)).1
 cases c.1==2 with
 | true=>exact mk (by omega)
 | false =>
 cases c.1==3 with
 | true=>exact mk (by omega)
 | false =>
 cases c.1==4 with
 | true=>exact mk (by omega)
 | false =>
 cases c.1==5 with
 | true=>exact akQ hT h
 | false =>
 cases c.1==6 with
 | true=>exact apH hw h _ _
 | false =>
 cases c.1==7 with
 | true =>
  simp only [cond_true,cond_false]
  unfold WS
  dsimp only
  cases hx:O9 K.2.2.2.2.2.2.2.2.1 c.2.2.1 2 with
  | false=>exact h
  | true =>
  cases (EA (rd K.2.2.2.2.2.2.2.2.1.2 c.2.2.1.1 j3).2.2.2.1 c.2.2.2.2.1).2.2 with
  | false=>exact h
  | true=>exact Z6 h hx (by decide) _
 | false =>
 cases c.1==8 with
 | true =>
  simp only [cond_true,cond_false]
  unfold WT
  dsimp only
  cases hx:O9 K.2.2.2.2.2.2.2.2.1 c.2.2.1 2 with
  | false=>exact h
  | true =>
  cases (takeB (rd K.2.2.2.2.2.2.2.2.1.2 c.2.2.1.1 j3).2.2.2.1 c.2.2.2.1).2.2.2 with
  | false=>exact h
  | true=>exact Z6 h hx (by decide) _
 | false =>
 cases c.1==9 with
 | true =>
  simp only [cond_true,cond_false]
  unfold OA
  dsimp only
  cases hx:O9 K.2.2.2.2.2.2.2.2.1 c.2.2.1 3 with
  | false=>exact h
  | true=>exact Z6 h hx (by decide) _
 | false =>
 cases c.1==10 with
 | true =>
  simp only [cond_true,cond_false]
  unfold OB
  dsimp only
  cases hx:O9 K.2.2.2.2.2.2.2.2.1 c.2.2.1 3 with
  | false=>exact h
  | true =>
  cases (CS (rd K.2.2.2.2.2.2.2.2.1.2 c.2.2.1.1 j3).2.2.2.2.1 c.2.2.2.1 c.2.2.2.2.2).2.2 with
  | false=>exact h
  | true=>exact Z6 h hx (by decide) _
 | false =>
 cases c.1==11 with
 | true =>
  simp only [cond_true,cond_false]
  unfold WU
  dsimp only
  cases ahb K.2.2.2.2.2.2.2.2.1 c.2.2.1 with
  | false=>exact h
  | true=>exact anv h _
 | false=>exact h
theorem abS {k:Nat}:∀ (n:Nat) (s:jd×List je),KW s.1 -> HKK s.1 -> HKK (DF k n s).1
 | 0,s,_,h=>h
 | n+1,s,hw,h=>abS n _ (R8 hw).1 (aga hw h)
theorem aqH {k:Nat} {K:jd} (hw:KW K) (h:HKK K) (s:Stp):HKK (doV k K s).1:=by
 unfold doV
 cases s.1==1 with
 | true=>exact anx hw h _
 | false =>
 cases s.1==2 with
 | true=>exact aga hw h
 | false =>
 cases s.1==3 with
 | true=>exact h
 | false =>
 cases s.1==4 with
 | true =>
  simp only [cond_true,cond_false]
  cases DY K.2.2.2.2.2.2.2.2.1 s.2.2.1 with
  | true=>exact anu h _
  | false=>exact h
 | false =>
 cases s.1==5 with
 | true =>
  simp only [cond_true,cond_false]
  cases decide (s.2.2.2<0)||decide (s.2.2.2>10000) with
  | true=>exact h
  | false=>exact abS _ (K,[]) hw h
 | false=>exact h
theorem apI (ap:Int):HKK (abR ap):=by
 have e:jr newT=[]:=by decide
 refine ⟨fun i _=>?_,fun s hs=>?_,fun j hj=>by cases hj⟩
 ·show ((List.replicate 12 j3).getD i j3).1≠1
  by_cases hi:i<12
  ·rw [getD_in (by rw [List.length_replicate];exact hi),List.getElem_replicate];decide
  ·rw [DT (by rw [List.length_replicate];omega)];decide
 ·have hs:s<(jr newT).length:=hs
  rw [e] at hs;simp at hs
abbrev TO:Type:=Option ((Bool×Unit)×Unit)
theorem RB {k:Nat} {g10:List Stp -> jd -> Int -> TO} {g16:List Stp -> jd -> Int -> List jf -> Int -> TO} {g21:List Stp -> jd -> Int -> List jf -> Int -> Bool -> Int -> TO} {a:List Stp} {K:jd} {c:Int} {e:List jf} {f i:Nat} (hf:f<e.length) (hi:i<K.2.2.2.2.2.2.2.1.length) (hl:(xq (K.2.2.2.2.2.2.2.1.getD i ay)).length <= 900):∀ (d l j:Nat) (h:Bool),l+d=(xq (K.2.2.2.2.2.2.2.1.getD i ay)).length -> d<j ->
  Yo k g10 g16 g21 j a K c e (f:Int) h (i:Int) (l:Int)=g21 a K c e (f:Int) (h||((K.2.2.2.2.2.2.2.1.getD i ay).1==IntKind.i64.wrap ((e.getD f s0).2 - 1)&&((xq (K.2.2.2.2.2.2.2.1.getD i ay)).drop l).any (fun x=>x==(f:Int)))) (IntKind.i64.wrap ((i:Int)+1))
 | 0,l,j,h,hd,hj=>by
  obtain ⟨j,rfl⟩:∃ i,j=i+1:=⟨j - 1,by omega⟩
  rw [aa2,Yn,Qo hi,Qp,Sd (by show ¬ (l:Int)<((xq _).length:Int);omega),drop_nil (by omega),List.any_nil,Bool.and_false,Bool.or_false]
 | d+1,l,j,h,hd,hj=>by
  obtain ⟨j,rfl⟩:∃ i,j=i+1:=⟨j - 1,by omega⟩
  have hl':l<(xq (K.2.2.2.2.2.2.2.1.getD i ay)).length:=by omega
  rw [aa2,Yn,Qo hi,Qp,Sc (by show (l:Int)<((xq _).length:Int);omega),Mi (by omega),drop_cons 0 hl',List.any_cons,Qo hi,Qo hf,Qo hi,Qo hl',Qp,Qp]
  cases h with
  | true =>
   rw [cond_true,RB hf hi hl d (l+1) j true (by omega) (by omega),Bool.true_or,Bool.true_or]
  | false =>
   rw [cond_false]
   cases hc:(K.2.2.2.2.2.2.2.1.getD i ay).1==IntKind.i64.wrap ((e.getD f s0).2 - 1) with
   | true=>rw [cond_true,RB hf hi hl d (l+1) j _ (by omega) (by omega),hc,Bool.true_and,Bool.true_and,Bool.false_or]
   | false=>rw [cond_false,RB hf hi hl d (l+1) j _ (by omega) (by omega),hc,Bool.false_and,Bool.false_and]
theorem abT {k:Nat} {g10:List Stp -> jd -> Int -> TO} {g16:List Stp -> jd -> Int -> List jf -> Int -> TO} {a:List Stp} {K:jd} {c:Int} {e:List jf} {f:Nat} (hk:1000 <= k) (hf:f<e.length) (hl:∀ j∈K.2.2.2.2.2.2.2.1,(xq j).length <= 900) (h8:K.2.2.2.2.2.2.2.1.length <= 8):∀ (d i j:Nat) (h:Bool),i+d=K.2.2.2.2.2.2.2.1.length -> d<j ->
  (h=true \/ ∃ b,i <= b /\ b<K.2.2.2.2.2.2.2.1.length /\ (K.2.2.2.2.2.2.2.1.getD b ay).1=IntKind.i64.wrap ((e.getD f s0).2 - 1) /\ (f:Int)∈xq (K.2.2.2.2.2.2.2.1.getD b ay)) ->
  TF k g10 g16 j a K c e (f:Int) h (i:Int)=g16 a K c e (IntKind.i64.wrap ((f:Int)+1))
 | 0,i,j,h,hd,hj,hh=>by
  obtain ⟨j,rfl⟩:∃ i,j=i+1:=⟨j - 1,by omega⟩
  have:h=true:=by
   rcases hh with q | ⟨b,q1,q2,_⟩
   ·exact q
   ·omega
  subst this
  rw [aa3,Yp,Sd (by omega),Bool.not_true,cond_false]
 | d+1,i,j,h,hd,hj,hh=>by
  obtain ⟨j,rfl⟩:∃ i,j=i+1:=⟨j - 1,by omega⟩
  have hi:i<K.2.2.2.2.2.2.2.1.length:=by omega
  have hli:=hl _ (jl (z:=ay) hi)
  rw [aa3,Yp,Sc (by omega)]
  have e1:=RB (k:=k) (g10:=g10) (g16:=g16) (g21:=TF k g10 g16 j) (a:=a) (c:=c) hf hi hli (xq (K.2.2.2.2.2.2.2.1.getD i ay)).length 0 k h (by omega) (by omega)
  refine Eq.trans e1 ?_
  rw [Mi (by omega)]
  refine abT hk hf hl h8 d (i+1) j _ (by omega) (by omega) ?_
  rcases hh with q | ⟨b,q1,q2,q3,q4⟩
  ·rw [q];exact .inl (Bool.true_or _)
  ·by_cases eb:b=i
   ·subst eb
    refine .inl ?_
    rw [List.drop_zero,Bool.or_eq_true,Bool.and_eq_true,beq_iff_eq,List.any_eq_true]
    exact .inr ⟨q3,_,q4,beq_self_eq_true _⟩
   ·exact .inr ⟨b,by omega,q2,q3,q4⟩
theorem V3 {k:Nat} {g10:List Stp -> jd -> Int -> TO} {a:List Stp} {K:jd} {c:Int} {e:List jf} (hk:1000 <= k) (he:e.length <= 900) (hl:∀ j∈K.2.2.2.2.2.2.2.1,(xq j).length <= 900 /\ 0 <= j.1 /\ j.1 <= 1000) (h8:K.2.2.2.2.2.2.2.1.length <= 8) (hh:HL e K.2.2.2.2.2.2.2.1):∀ (d f j:Nat),f+d=e.length -> d<j ->
  TH k g10 j a K c e (f:Int)=TG k g10 k a K c 0
 | 0,f,j,hd,hj=>by
  obtain ⟨j,rfl⟩:∃ i,j=i+1:=⟨j - 1,by omega⟩
  rw [aa5,Yr,Sd (by omega)]
 | d+1,f,j,hd,hj=>by
  obtain ⟨j,rfl⟩:∃ i,j=i+1:=⟨j - 1,by omega⟩
  have hf:f<e.length:=by omega
  rw [aa5,Yr,Sc (by omega),Qo hf,Qp,Mi (by omega)]
  cases hz:(e.getD f (0,0)).2==0 with
  | true=>rw [cond_true];exact V3 hk he hl h8 hh d (f+1) j (by omega) (by omega)
  | false =>
   rw [cond_false]
   obtain ⟨w,hw,q1,q2⟩:=hh f hf (by simpa using hz)
   obtain ⟨b,hb,eb⟩:=qy ay hw
   have hwr:=(hl w hw).2
   have e1:=abT (k:=k) (g10:=g10) (g16:=TH k g10 j) (a:=a) (c:=c) hk hf (fun j hj=>(hl j hj).1) h8 K.2.2.2.2.2.2.2.1.length 0 k false (by omega) (by omega) (.inr ⟨b,by omega,hb,by rw [eb,<- q1,Uu (by omega) (by omega)];omega,by rw [eb];exact q2⟩)
   refine Eq.trans e1 ?_
   rw [Mi (by omega)]
   exact V3 hk he hl h8 hh d (f+1) j (by omega) (by omega)
theorem OE {k:Nat} {g10:List Stp -> jd -> Int -> TO} {a:List Stp} {K:jd} {c:Int} (hw:KW K):∀ (d i j:Nat),i+d=K.2.2.2.2.2.2.2.1.length -> d<j ->
  TG k g10 j a K c (i:Int)=g10 a K (IntKind.i64.wrap (c+1))
 | 0,i,j,hd,hj=>by
  obtain ⟨j,rfl⟩:∃ i,j=i+1:=⟨j - 1,by omega⟩
  rw [aa4,Yq,Sd (by omega)]
 | d+1,i,j,hd,hj=>by
  obtain ⟨j,rfl⟩:∃ i,j=i+1:=⟨j - 1,by omega⟩
  have h8:=hw.len
  have hi:i<K.2.2.2.2.2.2.2.1.length:=by omega
  obtain ⟨x,hx⟩:=hw.job _ (jl (z:=ay) hi)
  have htk:=hx.task
  rw [aa4,Yq,Sc (by omega),Qo hi,Qp,Sd (by omega),Qo hi,Sd (by omega),Mi (by omega)]
  cases i with
  | zero=>rw [Sd (by omega)];exact OE hw d 1 j (by omega) (by omega)
  | succ i =>
   rw [Sc (by omega),Qo hi,Uu (n:=((i+1:Nat):Int) - 1) (by omega) (by omega),show ((i+1:Nat):Int) - 1=(i:Int) by omega,Qo (by omega),Qp]
   have hr:(K.2.2.2.2.2.2.2.1.getD i ay).1<(K.2.2.2.2.2.2.2.1.getD (i+1) ay).1:=by
    rw [getD_in (by omega),getD_in hi];exact List.pairwise_iff_getElem.1 hw.R7 i (i+1) (by omega) hi (by omega)
   rw [Sd (by omega)]
   exact OE hw d (i+1+1) j (by omega) (by omega)
theorem agb {k:Nat} (hk:20000 <= k) {l:List Stp} (hl:l.length <= 1000) (hs:∀ s∈l,SW s):∀ (m i j:Nat) (K:jd),i+m=l.length -> m<j -> KW K -> HKK K -> N8 k j l K (i:Int)=some ((true,()),())
 | 0,i,j,K,hi,hj,h,hh=>by
  obtain ⟨j,rfl⟩:∃ i,j=i+1:=⟨j - 1,by omega⟩
  rw [aa6,Yt,Sd (by omega)]
 | m+1,i,j,K,hi,hj,h,hh=>by
  obtain ⟨j,rfl⟩:∃ i,j=i+1:=⟨j - 1,by omega⟩
  have hi':i<l.length:=by omega
  have hsw:=hs _ (jl (z:=bq) hi')
  have EB:=(aqE (k:=k) h hsw).1
  have hhk:=aqH (k:=k) h hh (l.getD i bq)
  rw [aa6,Yt,Sc (by omega),Qo hi',Qp,apB hk h hsw,Option.bind_some]
  generalize (doV k K (l.getD i bq)).1=K2 at EB hhk
  have hT:=EB.tab.1.2.2
  have hsl:=uh K2.2.2.2.2.2.2.2.2.1
  have hll:=vo K2.2.2.2.2.2.2.2.2.1
  rw [K6 (by omega) hT,Option.bind_some]
  have h8:=EB.len
  have ht8:=EB.FY
  have e1:=V3 (k:=k) (g10:=N8 k j) (a:=l) (K:=K2) (c:=(i:Int)) (e:=jr K2.2.2.2.2.2.2.2.2.1) (by omega) (by omega) (fun x hx=>by
   obtain ⟨a,ha⟩:=EB.job x hx
   have h1:=ha.go.2.1
   have h2:=ha.task
   exact ⟨by show x.2.2.2.2.2.2.1.length <= 900;omega,by omega,by omega⟩) h8 hhk.hl (jr K2.2.2.2.2.2.2.2.2.1).length 0 k (by omega) (by omega)
  refine Eq.trans e1 ?_
  have e2:=OE (k:=k) (g10:=N8 k j) (a:=l) (c:=(i:Int)) EB K2.2.2.2.2.2.2.2.1.length 0 k (by omega) (by omega)
  refine Eq.trans e2 ?_
  rw [Mi (by omega)]
  exact agb hk hl hs m (i+1) j K2 (by omega) (by omega) EB hhk
theorem trialHeld_pure {e1 e2:TypeId} {p q:List Int} (hp:Ty.fine (.sl e1 (.int .u8)) p) (hq:Ty.fine (.sl e2 (.int .u8)) q) {k:Nat} (hk:20000 <= k):S10 k p q=some ((true,()),()):=by
 unfold S10
 rw [apE (by omega)]
 simp only [Option.bind_some,Bool.not_true,cond_false]
 by_cases h1:(p.length:Int)>200
 ·rw [Sc h1]
 ·rw [Sd h1]
  by_cases h2:(q.length:Int)>250
  ·rw [Sc h2]
  ·rw [Sd h2]
   obtain ⟨a,n1,ea,ha,hal⟩:=apF (k:=k) (by omega) hp (by omega)
   obtain ⟨b,n2,eb,hb,hbl⟩:=ano (k:=k) (by omega) hq (by omega) (show 100 <= 500 by omega)
   have eb:S18 k q 0 100=_:=eb
   rw [af7,Option.bind_some]
   simp only
   rw [ea,Option.bind_some,af7,Option.bind_some]
   simp only
   rw [eb,Option.bind_some]
   simp only
   rw [Rz (by omega),apC k (by omega) (by omega),Option.bind_some]
   have hs:∀ s∈a++b,SW s:=fun s h=>by
    rcases List.mem_append.1 h with h | h
    ·exact ha s h
    ·exact hb s h
   have hl:(a++b).length <= 120:=by rw [List.length_append];omega
   generalize a++b=l at hs hl
   simp only [Bool.not_true,cond_false]
   exact agb hk (by omega) hs l.length 0 k (abR 30) (by omega) (by omega) (apD 30) (apI 30)
theorem trialHeld_law {e1 e2:TypeId} (p q:List Int) (hp:Ty.fine (.sl e1 (.int .u8)) p) (hq:Ty.fine (.sl e2 (.int .u8)) q):∃ k,S10 k p q=some ((true,()),()):=⟨20000,trialHeld_pure hp hq (by omega)⟩
end Go.Proofs.YtjjjbcmjmkcedaaGreat.Ab
