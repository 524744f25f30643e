import Derived.Test.YtjjjbcmjmkcedaaGreatQZAbS1
import Derived.KernelRfl
/- The plain law, and what it hangs on. -/
namespace Go.Proofs.YtjjjbcmjmkcedaaGreat.Ab
open Go.RowKit
set_option linter.unusedSimpArgs false
set_option linter.unusedVariables false
open Tr
theorem ahR (K:jd):(wu K (-1) 0).1=K:=by
 unfold wu
 cases K.2.2.2.2.1 with
 | false=>rfl
 | true=>cases K.2.2.2.2.2.1 <;> rfl
theorem AB {k:Nat} (hk:1000 <= k) {K:jd} (h:KW K):S30 k K (-1) 0=some ((K,(wu K (-1) 0).2.1,(wu K (-1) 0).2.2,()),()):=by
 have:=alr hk h (-1) 0
 rwa [ahR] at this
theorem aou {k:Nat} (hk:1000 <= k) {K:jd} (h:KW K):S99 k K=some ((K,()),()):=by
 unfold S99
 rw [AB hk h,Option.bind_some]
theorem KW.x9 {K:jd} (h:KW K) {T:Tb} (hT:wh T):KW (x9 K T):=⟨h.GI,h.task,h.bnd,hT,h.job,h.U6,h.row,h.off⟩
theorem alC {l:List iw} {t:iw} {ap:Int} (h:(inT l t ap).2.2=0):FL t=0 /\ l.length<8 /\ (inT l t ap).1=AA l t /\ (inT l t ap).2.1.length=(AA l t).length:=by
 obtain ⟨g1,g2,g3,g4⟩:=aqy h
 have hga:=Wm g3
 refine ⟨?_,?_,g1,by rw [g2,agu hga.1 hga.2];simp⟩
 ·by_cases q:FL t=0
  ·exact q
  ·unfold inT at h;rw [if_pos q] at h;exact absurd h q
 ·unfold inT at h
  split at h
  ·rename_i q;exact absurd h q
  ·rw [if_neg (by rw [g4];decide)] at h
   split at h
   ·exact absurd h (by decide)
   ·rename_i q;omega
theorem aov {k:Nat} {T:Tb} (h:wh T) (c:Int):wh (BQ k T c).1:=by
 unfold BQ
 split
 ·exact h
 ·have htl:=ahv T.1
  obtain ⟨⟨h1,h2,h3⟩,h4⟩:=h
  refine ⟨⟨by rw [htl.1];exact h1,by rw [htl.2];exact h2,by simp only;rw [Mk];exact h3⟩,fun y hy=>?_⟩
  rcases List.mem_or_eq_of_mem_set hy with q | q
  ·exact h4 y q
  ·rw [q];exact ⟨by simp [ze,CX],by simp [ze,CX],by simp [ze,CX]⟩
theorem aow {T:Tb} (h:wh T) (g:Int×Int):wh (VP T g):=by
 unfold VP
 split
 ·obtain ⟨⟨h1,h2,h3⟩,h4⟩:=h
  refine ⟨⟨h1,by simp only;rw [Mk];exact h2,by simp only;rw [Mk];exact h3⟩,fun y hy=>?_⟩
  rcases List.mem_or_eq_of_mem_set hy with q | q
  ·exact h4 y q
  ·rw [q];exact agd
 ·exact h
def CW (c:Cl):Prop:=(xk c.2.1 /\ (c.2.1.2.2.2.1++c.2.1.2.2.2.2.1).length <= 900) /\ JY c.2.2.2.2.1
theorem alD {K:jd} (h:KW K) {c:Cl} (hc:CW c):KW (TY K c).1:=by
 unfold TY
 cases hr:K.2.2.2.2.1 with
 | true=>exact h
 | false =>
  rw [cond_false]
  cases hz:(inT K.2.2.1 c.2.1 K.2.1).2.2==0 with
  | false=>exact h
  | true =>
   obtain ⟨g1,g2,g3,g4⟩:=alC (eq_of_beq hz)
   obtain ⟨o1,o2,o3⟩:=h.off hr
   have hl:=TD K.2.2.1 c.2.1
   rw [cond_true]
   refine ⟨?_,?_,?_,h.tab,?_,?_,fun e=>absurd (hr.symm.trans e) (by decide),fun _=>⟨o1,o2,o3⟩⟩
   ·show (inT K.2.2.1 c.2.1 K.2.1).1.length <= 8
    rw [g3];omega
   ·intro t ht
    have ht:t∈AA K.2.2.1 c.2.1:=by rw [<- g3];exact ht
    unfold AA at ht
    rcases List.mem_append.1 ht with ht | ht
    ·rcases List.mem_append.1 ht with ht | ht
     ·exact h.task t (List.mem_of_mem_take ht)
     ·rw [List.mem_singleton] at ht;rw [ht];exact ⟨hc.1,g1⟩
    ·exact h.task t (List.mem_of_mem_drop ht)
   ·show (inT K.2.2.1 c.2.1 K.2.1).2.1.length=(inT K.2.2.1 c.2.1 K.2.1).1.length
    rw [g3];exact g4
   ·intro j hj
    have hj:j∈K.2.2.2.2.2.2.2.1:=hj
    rw [o1] at hj;cases hj
   ·show rising K.2.2.2.2.2.2.2.1
    exact h.U6
theorem alE {k:Nat} {K:jd} (h:KW K):KW (NU k K).1:=by
 unfold NU
 cases hz:(um k K).2==0 with
 | false=>exact h
 | true =>
  rw [cond_true]
  unfold um at hz ⊢
  cases hr:K.2.2.2.2.1 with
  | true=>rw [hr] at hz;exact absurd (show ((7:Int)==0)=true from hz) (by decide)
  | false =>
   rw [hr,cond_false] at hz
   rw [cond_false]
   obtain ⟨o1,o2,o3⟩:=h.off hr
   cases hl:K.2.2.1.any (JR (lu K.2.2.2.2.2.2.2.2.1).length) with
   | true=>rw [hl] at hz;exact absurd (show ((4:Int)==0)=true from hz) (by decide)
   | false =>
    have hT:=(TL (k:=k) h.tab (agH K.2.2.1 (lu K.2.2.2.2.2.2.2.2.1))).1
    refine ⟨h.GI,h.task,h.bnd,hT,h.job,h.U6,fun _=>⟨List.length_replicate ..,List.length_replicate ..⟩,fun e=>absurd (show (true:Bool)=false from e) (by decide)⟩
theorem agL {k:Nat} {K:jd} (h:KW K) {c:Cl} (hc:CW c):KW (LD k K c).1:=by
 have hT:=h.tab
 have mk:KW (ET k K c).1:=by
  unfold ET
  cases (c.1==2)&&K.2.2.2.2.1 with
  | true=>exact h
  | false =>
   rw [cond_false]
   cases (BQ k K.2.2.2.2.2.2.2.2.1 (c.1 - 1)).2.2 with
   | true=>exact h.x9 (aov hT _)
   | false=>exact h
 unfold LD
 cases c.1==1 with
 | true=>exact alD h hc
 | false =>
 cases c.1==2 with
 | true=>exact mk
 | false =>
 cases c.1==3 with
 | true=>exact mk
 | false =>
 cases c.1==4 with
 | true=>exact mk
 | false =>
 cases c.1==5 with
 | true=>exact alE h
 | false =>
 cases c.1==6 with
 | true=>exact aqO h hc.2
 | false =>
 cases c.1==7 with
 | true =>
  simp only [cond_true,cond_false]
  unfold abQ
  dsimp only
  cases hx:UH K.2.2.2.2.2.2.2.2.1 c.2.2.1 2 with
  | false=>exact h
  | true =>
   have hs:=EU hT hx
   have hp:=Ww ⟨hs.1,hs.2.1⟩ c.2.2.2.2.1
   simp only [Bool.not_true,cond_false]
   cases (FH (rd K.2.2.2.2.2.2.2.2.1.2 c.2.2.1.1 jv).2.2.2.1 c.2.2.2.2.1).2.2 with
   | false=>exact h
   | true=>exact h.x9 (SL hT ⟨hp.1,hp.2,hs.2.2⟩)
 | false =>
 cases c.1==8 with
 | true =>
  simp only [cond_true,cond_false]
  unfold abR
  dsimp only
  cases hx:UH K.2.2.2.2.2.2.2.2.1 c.2.2.1 2 with
  | false=>exact h
  | true =>
   have hs:=EU hT hx
   have hp:=Wx ⟨hs.1,hs.2.1⟩ c.2.2.2.1
   simp only [Bool.not_true,cond_false]
   cases (takeB (rd K.2.2.2.2.2.2.2.2.1.2 c.2.2.1.1 jv).2.2.2.1 c.2.2.2.1).2.2.2 with
   | false=>exact h
   | true=>exact h.x9 (SL hT ⟨hp.1,hp.2,hs.2.2⟩)
 | false =>
 cases c.1==9 with
 | true =>
  simp only [cond_true,cond_false]
  unfold U0
  dsimp only
  cases hx:UH K.2.2.2.2.2.2.2.2.1 c.2.2.1 3 with
  | false=>exact h
  | true =>
   have hs:=EU hT hx
   have hp:=JV hs.2.2 c.2.2.2.2.2
   exact h.x9 (SL hT ⟨hs.1,hs.2.1,hp.1⟩)
 | false =>
 cases c.1==10 with
 | true =>
  simp only [cond_true,cond_false]
  unfold U1
  dsimp only
  cases hx:UH K.2.2.2.2.2.2.2.2.1 c.2.2.1 3 with
  | false=>exact h
  | true =>
   have hs:=EU hT hx
   have hp:=U2 hs.2.2 c.2.2.2.1 c.2.2.2.2.2
   simp only [Bool.not_true,cond_false]
   cases (CZ (rd K.2.2.2.2.2.2.2.2.1.2 c.2.2.1.1 jv).2.2.2.2.1 c.2.2.2.1 c.2.2.2.2.2).2.2 with
   | false=>exact h
   | true=>exact h.x9 (SL hT ⟨hs.1,hs.2.1,hp⟩)
 | false =>
 cases c.1==11 with
 | true =>
  simp only [cond_true,cond_false]
  unfold abT
  dsimp only
  cases hx:aly K.2.2.2.2.2.2.2.2.1 c.2.2.1 with
  | false=>exact h
  | true=>exact h.x9 (aow hT _)
 | false=>exact h
theorem aqS {k:Nat} (hk:20000 <= k) {K:jd} (h:KW K) {c:Cl} (hc:CW c):S41 k K c=some (((LD k K c).1,(LD k K c).2.1,(LD k K c).2.2,()),()):=by
 have hT:=h.tab
 have IK:=agL (k:=k) h hc
 have hk1:1000 <= k:=by omega
 have fin:∀ (x:Option (Unit×_×Unit)) (r:CR),KW r.1 -> x=some ((),AU (asR c r),()) -> (x.bind fun q=>(S99 k (pz q.2.1).1).bind fun p=>some ((p.1.1,(pz q.2.1).2.2.1,(pz q.2.1).2.2.2,()),()))=some ((r.1,r.2.1,r.2.2,()),()):=fun x r hr e=>by
  rw [e,Option.bind_some]
  simp only [vrA]
  rw [show (asR c r).1=r.1 from rfl,aou hk1 hr,Option.bind_some]
  rfl
 unfold S41
 unfold LD at IK ⊢
 cases h1:c.1==1 with
 | true =>
  rw [h1] at IK
  refine fin _ _ IK ?_
  unfold S89 TY
  show (bif K.2.2.2.2.1 then _ else _)=_
  cases K.2.2.2.2.1 with
  | true=>rfl
  | false =>
   have hi:=anY hk (l:=K.2.2.1) (t:=c.2.1) ⟨h.light,by have:=h.GI;omega,hc.1⟩ K.2.1
   rw [cond_false,cond_false]
   refine (congrArg (fun x=>Option.bind x _) hi).trans ?_
   rw [Option.bind_some]
   simp only
   cases hz:(inT K.2.2.1 c.2.1 K.2.1).2.2==0 with
   | true=>rw [cond_true,cond_true,eq_of_beq hz];rfl
   | false=>rfl
 | false =>
 rw [h1,cond_false] at IK
 cases h2:c.1==2 with
 | true=>rw [h2] at IK;exact fin _ _ IK (U3 hk1 hT (.inl (eq_of_beq h2)))
 | false =>
 rw [h2,cond_false] at IK
 cases h3:c.1==3 with
 | true=>rw [h3] at IK;exact fin _ _ IK (U3 hk1 hT (.inr (.inl (eq_of_beq h3))))
 | false =>
 rw [h3,cond_false] at IK
 cases h4:c.1==4 with
 | true=>rw [h4] at IK;exact fin _ _ IK (U3 hk1 hT (.inr (.inr (eq_of_beq h4))))
 | false =>
 rw [h4,cond_false] at IK
 cases h5:c.1==5 with
 | true=>rw [h5] at IK;exact fin _ _ IK (start_eq hk1 h)
 | false =>
 rw [h5,cond_false] at IK
 cases h6:c.1==6 with
 | true =>
  rw [h6] at IK
  refine fin _ _ IK ?_
  unfold S92
  have e:=alr hk1 h c.2.2.2.1 c.2.2.2.2.1
  refine (congrArg (fun x=>Option.bind x _) e).trans ?_
  rfl
 | false =>
 rw [h6,cond_false] at IK
 cases h7:c.1==7 with
 | true=>rw [h7] at IK;exact fin _ _ IK (post_eq hk1 hT)
 | false =>
 rw [h7,cond_false] at IK
 cases h8:c.1==8 with
 | true=>rw [h8] at IK;exact fin _ _ IK (aot hk1 hT)
 | false =>
 rw [h8,cond_false] at IK
 cases h9:c.1==9 with
 | true=>rw [h9] at IK;exact fin _ _ IK (alA hk1 hT)
 | false =>
 rw [h9,cond_false] at IK
 cases h10:c.1==10 with
 | true=>rw [h10] at IK;exact fin _ _ IK (alz hk1 hT)
 | false =>
 rw [h10,cond_false] at IK
 cases h11:c.1==11 with
 | true=>rw [h11] at IK;exact fin _ _ IK (free_eq hk1 hT)
 | false=>exact fin _ (err K 1) h rfl
theorem alF (u:jg) (j:jc):(xw u j).2.1.2.length <= u.2.length+2:=by
 unfold xw
 cases j.2.2.2.1==2 with
 | true=>simp [j4]
 | false =>
  cases (j.2.2.2.1==0)&&decide (((u.1.2.2.1.getD j.1.toNat bg).2.2.2.2.1.length:Int)>0) <;> simp [ali,j4]
theorem aox (k:Nat) (u:jg) (j:jc):(TS k u j).2.1.2.length <= u.2.length+3:=by
 unfold TS
 cases u.1.2.2.2.2.2.2.1 with
 | true=>rw [cond_true];unfold OP;simp [j4]
 | false =>
  rw [cond_false]
  unfold L8
  simp only
  generalize o9 (qm ((j4 u (0,2,j.1,0,0,0)).1.2.2.1.getD j.1.toNat bg) j.2.2.2.1) j.2.2.2.2.1=x
  have fin:∀ v:jg,v.2.length=u.2.length+1 -> ((bif (BZ ((j4 u (0,2,j.1,0,0,0)).1.2.2.1.getD j.1.toNat bg) j).2.2.2.2.1.2.2.2 then xw v (BZ ((j4 u (0,2,j.1,0,0,0)).1.2.2.1.getD j.1.toNat bg) j) else (false,v,BZ ((j4 u (0,2,j.1,0,0,0)).1.2.2.1.getD j.1.toNat bg) j)):NJ).2.1.2.length <= u.2.length+3:=fun v hv=>by
   cases (BZ ((j4 u (0,2,j.1,0,0,0)).1.2.2.1.getD j.1.toNat bg) j).2.2.2.2.1.2.2.2 with
   | false=>rw [cond_false];show v.2.length <= _;omega
   | true=>rw [cond_true];have:=alF v (BZ ((j4 u (0,2,j.1,0,0,0)).1.2.2.1.getD j.1.toNat bg) j);omega
  have h1:(j4 u (0,2,j.1,0,0,0)).2.length=u.2.length+1:=by simp [j4]
  cases x.1==9 with
  | true=>exact fin _ h1
  | false=>cases x.1==10 with
   | true=>exact fin _ h1
   | false=>exact fin _ h1
theorem YR {k:Nat} {K:jd} (h:KW K):(su k K).2.length <= 100003:=by
 unfold su
 cases hc:K.2.2.2.2.1&&!K.2.2.2.2.2.1 with
 | false=>simp
 | true =>
  rw [Bool.and_eq_true] at hc
  have he:=((h.kj hc.1).ahead k).ev
  rw [cond_true]
  show (L9 k (xq k K)).2.length <= _
  unfold L9
  cases (xq k K).1.2.2.2.2.2.1||(xq k K).1.2.2.2.2.2.2.2.1.isEmpty with
  | true=>rw [cond_true];omega
  | false =>
   rw [cond_false]
   have:=aox k (xq k K) ((xq k K).1.2.2.2.2.2.2.2.1.getD (TQ (xq k K).1.2.2.2.2.2.2.2.1 ((xq k K).1.2.2.1.length:Int) (lu (xq k K).1.2.2.2.2.2.2.2.2.1)) ay)
   simp only;omega
noncomputable def EW (k:Nat):Nat -> jd×List je -> jd×List je
 | 0,s=>s
 | n+1,s=>EW k n ((su k s.1).1,s.2++(su k s.1).2)
theorem abV {k:Nat}:∀ (n:Nat) (s:jd×List je),KW s.1 -> KW (EW k n s).1 /\ (EW k n s).2.length <= s.2.length+100003 * n
 | 0,s,h=>⟨h,Nat.le_refl _⟩
 | n+1,s,h=>by
  have h1:=(YP (k:=k) h).1
  have h2:=YR (k:=k) h
  obtain ⟨a,b⟩:=abV n ((su k s.1).1,s.2++(su k s.1).2) h1
  exact ⟨a,by rw [EW];simp only [List.length_append] at b;omega⟩
noncomputable def YS (k:Nat) (K:jd) (s:Stp):CR :=
 bif s.1==1 then LD k K s.2.1
 else bif s.1==2 then ((su k K).1,(su k K).2,0,(0,0),0)
 else bif s.1==3 then err (w6 K true) 0
 else bif s.1==4 then (bif FJ K.2.2.2.2.2.2.2.2.1 s.2.2.1 then err (x9 K (abp K.2.2.2.2.2.2.2.2.1 s.2.2.1)) 0 else err K 3)
 else bif s.1==5 then (bif decide (s.2.2.2<0)||decide (s.2.2.2>10000) then err K 1 else ((EW k s.2.2.2.toNat (K,[])).1,(EW k s.2.2.2.toNat (K,[])).2,0,(0,0),0))
 else err K 1
theorem aoy {k:Nat} {K:jd} (h:KW K) (c:Cl):(LD k K c).2.1.length <= 300:=by
 have hT:=h.tab
 have z:∀ e:Int,(err K e).2.1.length <= 300:=fun e=>by simp [err]
 have mk:(ET k K c).2.1.length <= 300:=by
  unfold ET
  cases (c.1==2)&&K.2.2.2.2.1 with
  | true=>exact z 7
  | false=>cases (BQ k K.2.2.2.2.2.2.2.2.1 (c.1 - 1)).2.2 <;> simp [err]
 unfold LD
 cases c.1==1 with
 | true =>
  simp only [cond_true]
  unfold TY
  cases K.2.2.2.2.1 with
  | true=>exact z 7
  | false=>cases (inT K.2.2.1 c.2.1 K.2.1).2.2==0 <;> simp [err]
 | false =>
 cases c.1==2 with
 | true=>exact mk
 | false =>
 cases c.1==3 with
 | true=>exact mk
 | false =>
 cases c.1==4 with
 | true=>exact mk
 | false =>
 cases c.1==5 with
 | true =>
  simp only [cond_true,cond_false]
  unfold NU
  cases (um k K).2==0 <;> simp [err]
 | false =>
 cases c.1==6 with
 | true =>
  simp only [cond_true,cond_false]
  unfold arX
  rcases Wu h.U6 c.2.2.2.1 c.2.2.2.2.1 with ⟨_,e,_⟩ | ⟨_,_,_,_,n,_,_,_,_,q | q⟩
  ·simp only;rw [e];simp
  ·simp only;rw [q.2.2];simp
  ·simp only;rw [q.2.2.2];simp
 | false =>
 cases c.1==7 with
 | true =>
  simp only [cond_true,cond_false]
  unfold abQ
  dsimp only
  cases !UH K.2.2.2.2.2.2.2.2.1 c.2.2.1 2 with
  | true=>exact z 3
  | false =>
   rw [cond_false]
   cases !(FH (rd K.2.2.2.2.2.2.2.2.1.2 c.2.2.1.1 jv).2.2.2.1 c.2.2.2.2.1).2.2 with
   | true=>exact z 4
   | false=>cases decide ((FH (rd K.2.2.2.2.2.2.2.2.1.2 c.2.2.1.1 jv).2.2.2.1 c.2.2.2.2.1).2.1>0) <;> simp
 | false =>
 cases c.1==8 with
 | true =>
  simp only [cond_true,cond_false]
  unfold abR
  dsimp only
  cases !UH K.2.2.2.2.2.2.2.2.1 c.2.2.1 2 with
  | true=>exact z 3
  | false=>cases !(takeB (rd K.2.2.2.2.2.2.2.2.1.2 c.2.2.1.1 jv).2.2.2.1 c.2.2.2.1).2.2.2 <;> simp [err]
 | false =>
 cases c.1==9 with
 | true =>
  simp only [cond_true,cond_false]
  unfold U0
  dsimp only
  cases hx:UH K.2.2.2.2.2.2.2.2.1 c.2.2.1 3 with
  | false=>exact z 3
  | true =>
   have hp:=(JV (EU hT hx).2.2 c.2.2.2.2.2).2
   simp only [Bool.not_true,cond_false,abS,List.length_map];omega
 | false =>
 cases c.1==10 with
 | true =>
  simp only [cond_true,cond_false]
  unfold U1
  dsimp only
  cases !UH K.2.2.2.2.2.2.2.2.1 c.2.2.1 3 with
  | true=>exact z 3
  | false=>cases !(CZ (rd K.2.2.2.2.2.2.2.2.1.2 c.2.2.1.1 jv).2.2.2.2.1 c.2.2.2.1 c.2.2.2.2.2).2.2 <;> simp [err]
 | false =>
 cases c.1==11 with
 | true =>
  simp only [cond_true,cond_false]
  unfold abT
  dsimp only
  cases hx:aly K.2.2.2.2.2.2.2.2.1 c.2.2.1 with
  | false=>exact z 3
  | true =>
   unfold aly CP at hx
   simp only [Bool.and_eq_true] at hx
   obtain ⟨h0,h1,h2⟩:=CO hx.1.2
   have hs:=hT.2 _ (NA h0 h1)
   simp only [Bool.not_true,cond_false,List.length_map]
   unfold vk
   rw [List.length_append,List.length_map];have:=hs.2.1;have:=hs.2.2;omega
 | false=>exact z 1
theorem alG {k:Nat} {K:jd} (h:KW K) {s:Stp} (hs:SW s):KW (YS k K s).1 /\ (YS k K s).2.1.length <= 1000030000:=by
 have z:KW K /\ (0:Nat) <= 1000030000:=⟨h,by omega⟩
 unfold YS
 cases s.1==1 with
 | true=>exact ⟨agL h ⟨hs.light,hs.arg⟩,by have:=aoy (k:=k) h s.2.1;simp only [cond_true];omega⟩
 | false =>
 cases s.1==2 with
 | true=>exact ⟨(YP h).1,by have:=YR (k:=k) h;simp only [cond_true,cond_false];omega⟩
 | false =>
 cases s.1==3 with
 | true=>exact ⟨⟨h.GI,h.task,h.bnd,h.tab,h.job,h.U6,h.row,h.off⟩,by simp [err]⟩
 | false =>
 cases s.1==4 with
 | true =>
  simp only [cond_true,cond_false]
  cases FJ K.2.2.2.2.2.2.2.2.1 s.2.2.1 with
  | true=>exact ⟨h.x9 (agi h.tab),by simp [err]⟩
  | false=>exact ⟨h,by simp [err]⟩
 | false =>
 cases s.1==5 with
 | true =>
  simp only [cond_true,cond_false]
  cases hn:decide (s.2.2.2<0)||decide (s.2.2.2>10000) with
  | true=>exact ⟨h,by simp [err]⟩
  | false =>
   rw [Bool.or_eq_false_iff] at hn
   have n1:=of_decide_eq_false hn.1
   have n2:=of_decide_eq_false hn.2
   obtain ⟨a,b⟩:=abV (k:=k) s.2.2.2.toNat (K,[]) h
   exact ⟨a,by simp only [cond_false];simp only [List.length_nil] at b;omega⟩
 | false=>exact ⟨h,by simp [err]⟩
theorem abW {k:Nat} (hk:20000 <= k) {b c:Int} {e f g:Bool} {i l m n o p s t:Int} {N:Nat} (hN:N <= 10000):∀ (d x j:Nat) (K:jd) (ev:List je),x+d=N -> d<j -> KW K -> ev.length <= 100003 * x ->
  XV k j K b c e f g i l m n o p s t ev (N:Int) (x:Int)=some (((EW k d (K,ev)).1,(EW k d (K,ev)).2,(o,(p,s),t),()),())
 | 0,x,j,K,ev,hx,hj,h,he=>by
  obtain ⟨j,rfl⟩:∃ i,j=i+1:=⟨j - 1,by omega⟩
  rw [aaR,XU,Sd (by omega),AB (by omega) h,Option.bind_some]
  rfl
 | d+1,x,j,K,ev,hx,hj,h,he=>by
  obtain ⟨j,rfl⟩:∃ i,j=i+1:=⟨j - 1,by omega⟩
  have h2:=YR (k:=k) h
  rw [aaR,XU,Sc (by omega),agI (by omega) h,Option.bind_some]
  simp only
  rw [Rz (by omega),Mi (by omega),EW]
  exact abW hk hN d (x+1) j (su k K).1 (ev++(su k K).2) (by omega) (by omega) (YP h).1 (by rw [List.length_append];omega)
theorem alH {k:Nat} (hk:20000 <= k) {K:jd} (h:KW K) {s:Stp} (hs:SW s):S45 k K s=some (((YS k K s).1,(YS k K s).2.1,(YS k K s).2.2,()),()):=by
 have hk1:1000 <= k:=by omega
 unfold S45 YS
 cases s.1==1 with
 | true =>
  rw [cond_true,cond_true,aqS hk h ⟨hs.light,hs.arg⟩,Option.bind_some]
 | false =>
 cases s.1==2 with
 | true=>simp only [cond_true,cond_false];rw [agI hk1 h,Option.bind_some]
 | false =>
 cases s.1==3 with
 | true =>
  simp only [cond_true,cond_false]
  rw [AB hk1 (K:=w6 K true) ⟨h.GI,h.task,h.bnd,h.tab,h.job,h.U6,h.row,h.off⟩,Option.bind_some];rfl
 | false =>
 cases s.1==4 with
 | true =>
  simp only [cond_true,cond_false]
  rw [anv hk1 h.tab,Option.bind_some]
  simp only
  cases FJ K.2.2.2.2.2.2.2.2.1 s.2.2.1 with
  | true =>
   have e:=AB hk1 (h.x9 (agi (i:=s.2.2.1) h.tab))
   simp only [Bool.not_true,cond_false,cond_true]
   refine (congrArg (fun x=>Option.bind x _) e).trans ?_
   rfl
  | false=>simp only [Bool.not_false,cond_true,cond_false];rw [AB hk1 h,Option.bind_some];rfl
 | false =>
 cases s.1==5 with
 | true =>
  simp only [cond_true,cond_false]
  by_cases n1:s.2.2.2<0
  ·rw [Sc n1,decide_eq_true n1,AB hk1 h,Option.bind_some];rfl
  ·rw [Sd n1,decide_eq_false n1,Bool.false_or]
   by_cases n2:s.2.2.2>10000
   ·rw [Sc n2,Sc n2,AB hk1 h,Option.bind_some];rfl
   ·rw [Sd n2,Sd n2]
    have e:=abW (k:=k) hk (b:=0) (c:=0) (e:=false) (f:=false) (g:=false) (i:=0) (l:=0) (m:=0) (n:=0) (o:=0) (p:=0) (s:=0) (t:=0) (N:=s.2.2.2.toNat) (by omega) s.2.2.2.toNat 0 k K [] (by omega) (by omega) h (by simp)
    rw [show ((s.2.2.2.toNat:Nat):Int)=s.2.2.2 by omega] at e
    exact e
 | false=>simp only [cond_false];rw [AB hk1 h,Option.bind_some];rfl
noncomputable def ql (k:Nat):List Stp -> jd×List je×List Rly -> jd×List je×List Rly
 | [],r=>r
 | s::l,r=>ql k l ((YS k r.1 s).1,r.2.1++(YS k r.1 s).2.1,r.2.2++[(YS k r.1 s).2.2])
theorem Wy (k:Nat):∀ (a b:List Stp) (r:jd×List je×List Rly),ql k (a++b) r=ql k b (ql k a r)
 | [],b,r=>rfl
 | s::a,b,r=>by rw [List.cons_append,ql,ql,Wy k a b]
theorem abX {k:Nat}:∀ (l:List Stp) (r:jd×List je×List Rly),(∀ s∈l,SW s) -> KW r.1 -> KW (ql k l r).1 /\ (ql k l r).2.1.length <= r.2.1.length+1000030000 * l.length /\ (ql k l r).2.2.length=r.2.2.length+l.length
 | [],r,_,h=>⟨h,by simp [ql],by simp [ql]⟩
 | s::l,r,hl,h=>by
  obtain ⟨g1,g2⟩:=alG (k:=k) h (hl s (by simp))
  obtain ⟨a,b,c⟩:=abX l ((YS k r.1 s).1,r.2.1++(YS k r.1 s).2.1,r.2.2++[(YS k r.1 s).2.2]) (fun x hx=>hl x (by simp [hx])) g1
  refine ⟨a,?_,?_⟩
  ·rw [ql];simp only [List.length_append,List.length_cons] at b ⊢;omega
  ·rw [ql];simp only [List.length_append,List.length_cons,List.length_nil] at c ⊢;omega
def arY:Tb:=newT
def YT (ap:Int):jd:=(0,ap,[],[],false,false,false,[],arY,[],[])
theorem aqT (k:Nat) {ap:Int} (h1:1 <= ap) (h2:ap <= 4611686018427387904):S36 k ap=some ((YT ap,true,()),()):=by
 unfold S36
 rw [Sd (by omega),Sd (by omega)]
 rfl
theorem alI (ap:Int):KW (YT ap):=⟨by simp [YT],(fun t h=>by simp [YT] at h),rfl,anD,(fun j h=>by simp [YT] at h),List.Pairwise.nil,(fun h=>by simp [YT] at h),fun _=>⟨rfl,rfl,rfl⟩⟩
theorem alJ {k:Nat} (hk:20000 <= k) {l:List Stp} (hl:l.length <= 1000) (hs:∀ s∈l,SW s):∀ (m i j:Nat) (r:jd×List je×List Rly),i+m=l.length -> m<j -> KW r.1 -> r.2.1.length <= 1000030000 * i -> r.2.2.length <= i ->
  ae5 k j r.1 r.2.1 r.2.2 l (l.length:Int) (i:Int)=some (((ql k (l.drop i) r).1,(ql k (l.drop i) r).2.1,(ql k (l.drop i) r).2.2,true,()),())
 | 0,i,j,r,hi,hj,h,h1,h2=>by
  obtain ⟨j,rfl⟩:∃ i,j=i+1:=⟨j - 1,by omega⟩
  rw [ae6,ae4,Sd (by omega),drop_nil (by omega)]
  rfl
 | m+1,i,j,r,hi,hj,h,h1,h2=>by
  obtain ⟨j,rfl⟩:∃ i,j=i+1:=⟨j - 1,by omega⟩
  have hi':i<l.length:=by omega
  have hsw:=hs _ (jh (z:=bq) hi')
  obtain ⟨g1,g2⟩:=alG (k:=k) h hsw
  rw [ae6,ae4,Sc (by omega),Qo hi',Qp,alH hk h hsw,Option.bind_some]
  simp only
  rw [Rz (by omega),Rz (by simp only [List.length_cons,List.length_nil];omega),Mi (by omega),drop_cons bq hi',ql]
  exact alJ hk hl hs m (i+1) j ((YS k r.1 (l.getD i bq)).1,r.2.1++(YS k r.1 (l.getD i bq)).2.1,r.2.2++[(YS k r.1 (l.getD i bq)).2.2]) (by omega) (by omega) g1 (by simp only [List.length_append];omega) (by simp only [List.length_append,List.length_cons,List.length_nil];omega)
noncomputable def D5 (k:Nat) (ap:Int) (l:List Stp):jd×List je×List Rly:=ql k l (YT ap,[],[])
theorem alK {k:Nat} (hk:20000 <= k) {ap:Int} (h1:1 <= ap) (h2:ap <= 4611686018427387904) {l:List Stp} (hl:l.length <= 1000) (hs:∀ s∈l,SW s):S19 k ap l=some (((D5 k ap l).1,(D5 k ap l).2.1,(D5 k ap l).2.2,true,()),()):=by
 unfold S19
 rw [aqT k h1 h2,Option.bind_some]
 have:=alJ hk hl hs l.length 0 k (YT ap,[],[]) (by omega) (by omega) (alI ap) (by simp) (by simp)
 rw [List.drop_zero] at this
 exact this
theorem alL {k:Nat} {ap:Int} {l:List Stp} (hs:∀ s∈l,SW s):KW (D5 k ap l).1 /\ (D5 k ap l).2.1.length <= 1000030000 * l.length /\ (D5 k ap l).2.2.length=l.length:=by
 have:=abX (k:=k) l (YT ap,[],[]) hs (alI ap)
 unfold D5
 simpa using this
theorem aqU {k:Nat} (hk:20000 <= k):S15 k=some ((true,()),()):=by
 obtain ⟨k,rfl⟩:∃ m,k=m+20000:=⟨k - 20000,by omega⟩
 kernel_rfl
theorem agM (k:Nat) (p:List Int):S16 k p=some (((p,0,()),()),()):=rfl
theorem aqV {e:TypeId} {k:Nat} (hk:1000 <= k) {p:List Int} (hp:Ty.fine (.sl e (.int .u8)) p) (h:p.length <= 1000):∃ (l:List Stp) (n:Int),S17 k p 0=some ((l,()),(p,n,()),()) /\ (∀ s∈l,SW s) /\ l.length <= 10:=by
 obtain ⟨l,n,e,_,h1,h2⟩:=alu hk (abe hp h)
 exact ⟨l,n,e,h1,h2⟩
theorem aoz {e:TypeId} {k:Nat} (hk:1000 <= k) {p:List Int} (hp:Ty.fine (.sl e (.int .u8)) p) (h:p.length <= 1000) {c:Nat} (hc:c <= 500):∃ (l:List Stp) (n:Int),S18 k p 0 (c:Int)=some ((l,()),(p,n,()),()) /\ (∀ s∈l,SW s) /\ l.length <= 10+c:=by
 obtain ⟨l,n,e,_,h1,h2⟩:=aqR hk (abe hp h) hc
 exact ⟨l,n,e,h1,h2⟩
theorem alM {k:Nat} {l:List Rly} (h:l.length<k) (h2:l.length <= 1000):JA k k l l 0=some ((true,()),()):=by
 have e:∀ x:Rly,fC (.pair (.int .i64) (.pair (.pair (.int .i64) (.int .i64)) (.int .i64))) x x=true:=fun x=>by simp [fC]
 refine zo (n:=l.length) (L:=fun j i=>JA k j l l i) (fun j i hi=>?_) (fun j=>?_) l.length 0 k (by omega) (by omega)
 ·show JA k (j+1) l l (i:Int)=_
  rw [aa6,Yb,Sc (by omega),Qo hi,Qo hi,e,Bool.not_true,cond_false,Mi (by omega)]
 ·show JA k (j+1) l l (l.length:Int)=_
  rw [aa6,Yb,Sd (by omega)]
theorem alN {k:Nat} (hk:10000000000000 <= k) {l:List Stp} (hl:l.length <= 1000) (hs:∀ s∈l,SW s) {R:jd×List je×List Rly} (hR:KW R.1) (hR1:R.2.1.length <= 1000030000000) (hR2:R.2.2.length <= 1000):∀ (m i j:Nat) (r:jd×List je×List Rly),i+m=l.length -> m<j -> KW r.1 -> r.2.1.length <= 1000030000 * i -> r.2.2.length <= i -> ql k (l.drop i) r=R ->
  Yd k j l R.1 R.2.1 R.2.2 r.1 r.2.1 r.2.2 (i:Int)=some ((true,()),())
 | 0,i,j,r,hi,hj,h,h1,h2,he=>by
  obtain ⟨j,rfl⟩:∃ i,j=i+1:=⟨j - 1,by omega⟩
  rw [drop_nil (by omega)] at he
  have he:r=R:=he
  subst he
  rw [aa7,Yc,Sd (by omega),bne_self_eq_false,cond_false,aom (by omega) (by omega) (by omega),Option.bind_some,ahO (by omega) h.tab]
  simp only [Option.bind_some,Bool.not_true,cond_false]
  rw [abM (by omega) h.ks,Option.bind_some]
  simp only [Bool.not_true,cond_false]
  exact alM (by omega) (by omega)
 | m+1,i,j,r,hi,hj,h,h1,h2,he=>by
  obtain ⟨j,rfl⟩:∃ i,j=i+1:=⟨j - 1,by omega⟩
  have hi':i<l.length:=by omega
  have hsw:=hs _ (jh (z:=bq) hi')
  obtain ⟨g1,g2⟩:=alG (k:=k) h hsw
  rw [aa7,Yc,Sc (by omega),Qo hi',Qp,alH (by omega) h hsw,Option.bind_some]
  simp only
  rw [Rz (by omega),Rz (by simp only [List.length_cons,List.length_nil];omega),Mi (by omega)]
  rw [drop_cons bq hi',ql] at he
  exact alN hk hl hs hR hR1 hR2 m (i+1) j ((YS k r.1 (l.getD i bq)).1,r.2.1++(YS k r.1 (l.getD i bq)).2.1,r.2.2++[(YS k r.1 (l.getD i bq)).2.2]) (by omega) (by omega) g1 (by simp only [List.length_append];omega) (by simp only [List.length_append,List.length_cons,List.length_nil];omega) he
theorem topSame_pure {e1 e2:TypeId} {p q:List Int} {c:Int} (hp:Ty.fine (.sl e1 (.int .u8)) p) (hq:Ty.fine (.sl e2 (.int .u8)) q) (hc:0 <= c /\ c <= 255) {k:Nat} (hk:10000000000000 <= k):S11 k p q c=some ((true,()),()):=by
 unfold S11
 rw [aqU (by omega)]
 simp only [Option.bind_some,Bool.not_true,cond_false]
 by_cases h1:(p.length:Int)>200
 ·rw [Sc h1]
 ·rw [Sd h1]
  by_cases h2:(q.length:Int)>250
  ·rw [Sc h2]
  ·rw [Sd h2]
   obtain ⟨a,n1,ea,ha,hal⟩:=aqV (k:=k) (by omega) hp (by omega)
   obtain ⟨b,n2,eb,hb,hbl⟩:=aoz (k:=k) (by omega) hq (by omega) (show 100 <= 500 by omega)
   have eb:S18 k q 0 100=_:=eb
   rw [agM,Option.bind_some]
   simp only
   rw [ea,Option.bind_some,agM,Option.bind_some]
   simp only
   rw [eb,Option.bind_some]
   simp only
   rw [Rz (by omega)]
   have hs:∀ s∈a++b,SW s:=fun s h=>by
    rcases List.mem_append.1 h with h | h
    ·exact ha s h
    ·exact hb s h
   have hl:(a++b).length <= 120:=by rw [List.length_append];omega
   generalize a++b=l at hs hl
   rw [alK (by omega) (by omega) (by omega) (by omega) hs,Option.bind_some]
   have hm:IntKind.i64.wrap c=c:=Uu (by omega) (by omega)
   have hm2:IntKind.i64.wrap ((l.length:Int)+1)=(l.length:Int)+1:=Uu (by omega) (by omega)
   have t0:0 <= Int.tmod c ((l.length:Int)+1):=Int.tmod_nonneg _ hc.1
   have t1:Int.tmod c ((l.length:Int)+1)<(l.length:Int)+1:=Int.tmod_lt_of_pos _ (by omega)
   rw [hm,hm2]
   obtain ⟨n,hn⟩:∃ n:Nat,Int.tmod c ((l.length:Int)+1)=(n:Int):=⟨(Int.tmod c ((l.length:Int)+1)).toNat,by omega⟩
   rw [hn] at t1 ⊢
   rw [Sb (by omega),Rx (by omega) (by omega) (by omega)]
   have atc:sub l 0 (n:Int)=l.take n:=by
    unfold sub
    rw [Int.toNat_natCast];rfl
   rw [atc]
   have ht:∀ s∈l.take n,SW s:=fun s h=>hs s (List.mem_of_mem_take h)
   have htl:(l.take n).length=n:=by rw [List.length_take];omega
   rw [alK (by omega) (by omega) (by omega) (by omega) ht,Option.bind_some]
   simp only [Bool.not_true,cond_false]
   obtain ⟨w1,w2,w3⟩:=alL (k:=k) (ap:=40) hs
   obtain ⟨v1,v2,v3⟩:=alL (k:=k) (ap:=40) ht
   refine alN hk (l:=l) (by omega) hs (R:=D5 k 40 l) w1 (by omega) (by omega) (l.length - n) n k (D5 k 40 (l.take n)) (by omega) (by omega) v1 (by omega) (by omega) ?_
   unfold D5
   rw [<- Wy,List.take_append_drop]
theorem topSame_law {e1 e2:TypeId} (p q:List Int) (c:Int) (hp:Ty.fine (.sl e1 (.int .u8)) p) (hq:Ty.fine (.sl e2 (.int .u8)) q) (hc:Ty.fine (.int .u8) c):∃ k,S11 k p q c=some ((true,()),()):=⟨10000000000000,topSame_pure hp hq (aqt hc) (by omega)⟩
end Go.Proofs.YtjjjbcmjmkcedaaGreat.Ab
