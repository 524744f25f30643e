import Derived.Test.YtjjjbcmjmkcedaaGreatQZAbT1
import Derived.KernelRfl
/- The plain law, and what it hangs on. -/
namespace Go.Proofs.YtjjjbcmjmkcedaaGreat.Ab
open Go.RowKit
set_option linter.unusedSimpArgs false
set_option linter.unusedVariables false
open Tr
theorem ahN (K:jd):(wo K (-1) 0).1=K:=by
 unfold wo
 cases K.2.2.2.2.1 with
 | false=>rfl
 | true=>cases K.2.2.2.2.2.1 <;> rfl
theorem AB {k:Nat} (hk:1000 <= k) {K:jd} (h:KW K):S30 k K (-1) 0=some ((K,(wo K (-1) 0).2.1,(wo K (-1) 0).2.2,()),()):=by
 have:=alo hk h (-1) 0
 rwa [ahN] at this
theorem aoo {k:Nat} (hk:1000 <= k) {K:jd} (h:KW K):S99 k K=some ((K,()),()):=by
 unfold S99
 rw [AB hk h,Option.bind_some]
theorem KW.x9 {K:jd} (h:KW K) {T:Tb} (hT:vv T):KW (x9 K T):=⟨h.GJ,h.task,h.bnd,hT,h.job,h.UA,h.row,h.off⟩
theorem alz {l:List iw} {t:iw} {ap:Int} (h:(inT l t ap).2.2=0):FN t=0 /\ l.length<8 /\ (inT l t ap).1=AA l t /\ (inT l t ap).2.1.length=(AA l t).length:=by
 obtain ⟨g1,g2,g3,g4⟩:=aqy h
 have hga:=Ws g3
 refine ⟨?_,?_,g1,by rw [g2,agr hga.1 hga.2];simp⟩
 ·by_cases q:FN t=0
  ·exact q
  ·unfold inT at h;rw [if_pos q] at h;exact absurd h q
 ·unfold inT at h
  split at h
  ·rename_i q;exact absurd h q
  ·rw [if_neg (by rw [g4];decide)] at h
   split at h
   ·exact absurd h (by decide)
   ·rename_i q;omega
theorem aop {k:Nat} {T:Tb} (h:vv T) (c:Int):vv (BU k T c).1:=by
 unfold BU
 split
 ·exact h
 ·have htl:=ahs T.1
  obtain ⟨⟨h1,h2,h3⟩,h4⟩:=h
  refine ⟨⟨by rw [htl.1];exact h1,by rw [htl.2];exact h2,by simp only;rw [Mk];exact h3⟩,fun y hy=>?_⟩
  rcases List.mem_or_eq_of_mem_set hy with q | q
  ·exact h4 y q
  ·rw [q];exact ⟨by simp [ze,CZ],by simp [ze,CZ],by simp [ze,CZ]⟩
theorem aoq {T:Tb} (h:vv T) (g:Int×Int):vv (VX T g):=by
 unfold VX
 split
 ·obtain ⟨⟨h1,h2,h3⟩,h4⟩:=h
  refine ⟨⟨h1,by simp only;rw [Mk];exact h2,by simp only;rw [Mk];exact h3⟩,fun y hy=>?_⟩
  rcases List.mem_or_eq_of_mem_set hy with q | q
  ·exact h4 y q
  ·rw [q];exact aga
 ·exact h
def CW (c:Cl):Prop:=(xk c.2.1 /\ (c.2.1.2.2.2.1++c.2.1.2.2.2.2.1).length <= 900) /\ JY c.2.2.2.2.1
theorem alA {K:jd} (h:KW K) {c:Cl} (hc:CW c):KW (U3 K c).1:=by
 unfold U3
 cases hr:K.2.2.2.2.1 with
 | true=>exact h
 | false =>
  rw [cond_false]
  cases hz:(inT K.2.2.1 c.2.1 K.2.1).2.2==0 with
  | false=>exact h
  | true =>
   obtain ⟨g1,g2,g3,g4⟩:=alz (eq_of_beq hz)
   obtain ⟨o1,o2,o3⟩:=h.off hr
   have hl:=TJ K.2.2.1 c.2.1
   rw [cond_true]
   refine ⟨?_,?_,?_,h.tab,?_,?_,fun e=>absurd (hr.symm.trans e) (by decide),fun _=>⟨o1,o2,o3⟩⟩
   ·show (inT K.2.2.1 c.2.1 K.2.1).1.length <= 8
    rw [g3];omega
   ·intro t ht
    have ht:t∈AA K.2.2.1 c.2.1:=by rw [<- g3];exact ht
    unfold AA at ht
    rcases List.mem_append.1 ht with ht | ht
    ·rcases List.mem_append.1 ht with ht | ht
     ·exact h.task t (List.mem_of_mem_take ht)
     ·rw [List.mem_singleton] at ht;rw [ht];exact ⟨hc.1,g1⟩
    ·exact h.task t (List.mem_of_mem_drop ht)
   ·show (inT K.2.2.1 c.2.1 K.2.1).2.1.length=(inT K.2.2.1 c.2.1 K.2.1).1.length
    rw [g3];exact g4
   ·intro j hj
    have hj:j∈K.2.2.2.2.2.2.2.1:=hj
    rw [o1] at hj;cases hj
   ·show rising K.2.2.2.2.2.2.2.1
    exact h.UA
theorem alC {k:Nat} {K:jd} (h:KW K):KW (NW k K).1:=by
 unfold NW
 cases hz:(uj k K).2==0 with
 | false=>exact h
 | true =>
  rw [cond_true]
  unfold uj at hz ⊢
  cases hr:K.2.2.2.2.1 with
  | true=>rw [hr] at hz;exact absurd (show ((7:Int)==0)=true from hz) (by decide)
  | false =>
   rw [hr,cond_false] at hz
   rw [cond_false]
   obtain ⟨o1,o2,o3⟩:=h.off hr
   cases hl:K.2.2.1.any (JR (lu K.2.2.2.2.2.2.2.2.1).length) with
   | true=>rw [hl] at hz;exact absurd (show ((4:Int)==0)=true from hz) (by decide)
   | false =>
    have hT:=(TQ (k:=k) h.tab (agE K.2.2.1 (lu K.2.2.2.2.2.2.2.2.1))).1
    refine ⟨h.GJ,h.task,h.bnd,hT,h.job,h.UA,fun _=>⟨List.length_replicate ..,List.length_replicate ..⟩,fun e=>absurd (show (true:Bool)=false from e) (by decide)⟩
theorem agI {k:Nat} {K:jd} (h:KW K) {c:Cl} (hc:CW c):KW (LD k K c).1:=by
 have hT:=h.tab
 have mk:KW (ET k K c).1:=by
  unfold ET
  cases (c.1==2)&&K.2.2.2.2.1 with
  | true=>exact h
  | false =>
   rw [cond_false]
   cases (BU k K.2.2.2.2.2.2.2.2.1 (c.1 - 1)).2.2 with
   | true=>exact h.x9 (aop hT _)
   | false=>exact h
 unfold LD
 cases c.1==1 with
 | true=>exact alA h hc
 | false =>
 cases c.1==2 with
 | true=>exact mk
 | false =>
 cases c.1==3 with
 | true=>exact mk
 | false =>
 cases c.1==4 with
 | true=>exact mk
 | false =>
 cases c.1==5 with
 | true=>exact alC h
 | false =>
 cases c.1==6 with
 | true=>exact aqO h hc.2
 | false =>
 cases c.1==7 with
 | true =>
  simp only [cond_true,cond_false]
  unfold abN
  dsimp only
  cases hx:UO K.2.2.2.2.2.2.2.2.1 c.2.2.1 2 with
  | false=>exact h
  | true =>
   have hs:=EU hT hx
   have hp:=WB ⟨hs.1,hs.2.1⟩ c.2.2.2.2.1
   simp only [Bool.not_true,cond_false]
   cases (FI (rd K.2.2.2.2.2.2.2.2.1.2 c.2.2.1.1 jv).2.2.2.1 c.2.2.2.2.1).2.2 with
   | false=>exact h
   | true=>exact h.x9 (SV hT ⟨hp.1,hp.2,hs.2.2⟩)
 | false =>
 cases c.1==8 with
 | true =>
  simp only [cond_true,cond_false]
  unfold abO
  dsimp only
  cases hx:UO K.2.2.2.2.2.2.2.2.1 c.2.2.1 2 with
  | false=>exact h
  | true =>
   have hs:=EU hT hx
   have hp:=WC ⟨hs.1,hs.2.1⟩ c.2.2.2.1
   simp only [Bool.not_true,cond_false]
   cases (takeB (rd K.2.2.2.2.2.2.2.2.1.2 c.2.2.1.1 jv).2.2.2.1 c.2.2.2.1).2.2.2 with
   | false=>exact h
   | true=>exact h.x9 (SV hT ⟨hp.1,hp.2,hs.2.2⟩)
 | false =>
 cases c.1==9 with
 | true =>
  simp only [cond_true,cond_false]
  unfold U4
  dsimp only
  cases hx:UO K.2.2.2.2.2.2.2.2.1 c.2.2.1 3 with
  | false=>exact h
  | true =>
   have hs:=EU hT hx
   have hp:=JV hs.2.2 c.2.2.2.2.2
   exact h.x9 (SV hT ⟨hs.1,hs.2.1,hp.1⟩)
 | false =>
 cases c.1==10 with
 | true =>
  simp only [cond_true,cond_false]
  unfold U5
  dsimp only
  cases hx:UO K.2.2.2.2.2.2.2.2.1 c.2.2.1 3 with
  | false=>exact h
  | true =>
   have hs:=EU hT hx
   have hp:=U6 hs.2.2 c.2.2.2.1 c.2.2.2.2.2
   simp only [Bool.not_true,cond_false]
   cases (D6 (rd K.2.2.2.2.2.2.2.2.1.2 c.2.2.1.1 jv).2.2.2.2.1 c.2.2.2.1 c.2.2.2.2.2).2.2 with
   | false=>exact h
   | true=>exact h.x9 (SV hT ⟨hs.1,hs.2.1,hp⟩)
 | false =>
 cases c.1==11 with
 | true =>
  simp only [cond_true,cond_false]
  unfold abQ
  dsimp only
  cases hx:alv K.2.2.2.2.2.2.2.2.1 c.2.2.1 with
  | false=>exact h
  | true=>exact h.x9 (aoq hT _)
 | false=>exact h
theorem aqS {k:Nat} (hk:20000 <= k) {K:jd} (h:KW K) {c:Cl} (hc:CW c):S41 k K c=some (((LD k K c).1,(LD k K c).2.1,(LD k K c).2.2,()),()):=by
 have hT:=h.tab
 have IQ:=agI (k:=k) h hc
 have hk1:1000 <= k:=by omega
 have fin:∀ (x:Option (Unit×_×Unit)) (r:CR),KW r.1 -> x=some ((),AU (asR c r),()) -> (x.bind fun q=>(S99 k (pz q.2.1).1).bind fun p=>some ((p.1.1,(pz q.2.1).2.2.1,(pz q.2.1).2.2.2,()),()))=some ((r.1,r.2.1,r.2.2,()),()):=fun x r hr e=>by
  rw [e,Option.bind_some]
  simp only [vrA]
  rw [show (asR c r).1=r.1 from rfl,aoo hk1 hr,Option.bind_some]
  rfl
 unfold S41
 unfold LD at IQ ⊢
 cases h1:c.1==1 with
 | true =>
  rw [h1] at IQ
  refine fin _ _ IQ ?_
  unfold S89 U3
  show (bif K.2.2.2.2.1 then _ else _)=_
  cases K.2.2.2.2.1 with
  | true=>rfl
  | false =>
   have hi:=anS hk (l:=K.2.2.1) (t:=c.2.1) ⟨h.light,by have:=h.GJ;omega,hc.1⟩ K.2.1
   rw [cond_false,cond_false]
   refine (congrArg (fun x=>Option.bind x _) hi).trans ?_
   rw [Option.bind_some]
   simp only
   cases hz:(inT K.2.2.1 c.2.1 K.2.1).2.2==0 with
   | true=>rw [cond_true,cond_true,eq_of_beq hz];rfl
   | false=>rfl
 | false =>
 rw [h1,cond_false] at IQ
 cases h2:c.1==2 with
 | true=>rw [h2] at IQ;exact fin _ _ IQ (U7 hk1 hT (.inl (eq_of_beq h2)))
 | false =>
 rw [h2,cond_false] at IQ
 cases h3:c.1==3 with
 | true=>rw [h3] at IQ;exact fin _ _ IQ (U7 hk1 hT (.inr (.inl (eq_of_beq h3))))
 | false =>
 rw [h3,cond_false] at IQ
 cases h4:c.1==4 with
 | true=>rw [h4] at IQ;exact fin _ _ IQ (U7 hk1 hT (.inr (.inr (eq_of_beq h4))))
 | false =>
 rw [h4,cond_false] at IQ
 cases h5:c.1==5 with
 | true=>rw [h5] at IQ;exact fin _ _ IQ (start_eq hk1 h)
 | false =>
 rw [h5,cond_false] at IQ
 cases h6:c.1==6 with
 | true =>
  rw [h6] at IQ
  refine fin _ _ IQ ?_
  unfold S92
  have e:=alo hk1 h c.2.2.2.1 c.2.2.2.2.1
  refine (congrArg (fun x=>Option.bind x _) e).trans ?_
  rfl
 | false =>
 rw [h6,cond_false] at IQ
 cases h7:c.1==7 with
 | true=>rw [h7] at IQ;exact fin _ _ IQ (post_eq hk1 hT)
 | false =>
 rw [h7,cond_false] at IQ
 cases h8:c.1==8 with
 | true=>rw [h8] at IQ;exact fin _ _ IQ (aon hk1 hT)
 | false =>
 rw [h8,cond_false] at IQ
 cases h9:c.1==9 with
 | true=>rw [h9] at IQ;exact fin _ _ IQ (aly hk1 hT)
 | false =>
 rw [h9,cond_false] at IQ
 cases h10:c.1==10 with
 | true=>rw [h10] at IQ;exact fin _ _ IQ (alx hk1 hT)
 | false =>
 rw [h10,cond_false] at IQ
 cases h11:c.1==11 with
 | true=>rw [h11] at IQ;exact fin _ _ IQ (free_eq hk1 hT)
 | false=>exact fin _ (err K 1) h rfl
theorem alD (u:jg) (j:jc):(xw u j).2.1.2.length <= u.2.length+2:=by
 unfold xw
 cases j.2.2.2.1==2 with
 | true=>simp [j4]
 | false =>
  cases (j.2.2.2.1==0)&&decide (((u.1.2.2.1.getD j.1.toNat bg).2.2.2.2.1.length:Int)>0) <;> simp [alf,j4]
theorem aor (k:Nat) (u:jg) (j:jc):(TY k u j).2.1.2.length <= u.2.length+3:=by
 unfold TY
 cases u.1.2.2.2.2.2.2.1 with
 | true=>rw [cond_true];unfold OT;simp [j4]
 | false =>
  rw [cond_false]
  unfold L8
  simp only
  generalize o9 (ql ((j4 u (0,2,j.1,0,0,0)).1.2.2.1.getD j.1.toNat bg) j.2.2.2.1) j.2.2.2.2.1=x
  have fin:∀ v:jg,v.2.length=u.2.length+1 -> ((bif (CB ((j4 u (0,2,j.1,0,0,0)).1.2.2.1.getD j.1.toNat bg) j).2.2.2.2.1.2.2.2 then xw v (CB ((j4 u (0,2,j.1,0,0,0)).1.2.2.1.getD j.1.toNat bg) j) else (false,v,CB ((j4 u (0,2,j.1,0,0,0)).1.2.2.1.getD j.1.toNat bg) j)):NK).2.1.2.length <= u.2.length+3:=fun v hv=>by
   cases (CB ((j4 u (0,2,j.1,0,0,0)).1.2.2.1.getD j.1.toNat bg) j).2.2.2.2.1.2.2.2 with
   | false=>rw [cond_false];show v.2.length <= _;omega
   | true=>rw [cond_true];have:=alD v (CB ((j4 u (0,2,j.1,0,0,0)).1.2.2.1.getD j.1.toNat bg) j);omega
  have h1:(j4 u (0,2,j.1,0,0,0)).2.length=u.2.length+1:=by simp [j4]
  cases x.1==9 with
  | true=>exact fin _ h1
  | false=>cases x.1==10 with
   | true=>exact fin _ h1
   | false=>exact fin _ h1
theorem QJ {k:Nat} {K:jd} (h:KW K):(p9 k K).2.length <= 100003:=by
 unfold p9
 cases hc:K.2.2.2.2.1&&!K.2.2.2.2.2.1 with
 | false=>simp
 | true =>
  rw [Bool.and_eq_true] at hc
  have he:=((h.kj hc.1).ahead k).ev
  rw [cond_true]
  show (L9 k (xq k K)).2.length <= _
  unfold L9
  cases (xq k K).1.2.2.2.2.2.1||(xq k K).1.2.2.2.2.2.2.2.1.isEmpty with
  | true=>rw [cond_true];omega
  | false =>
   rw [cond_false]
   have:=aor k (xq k K) ((xq k K).1.2.2.2.2.2.2.2.1.getD (TU (xq k K).1.2.2.2.2.2.2.2.1 ((xq k K).1.2.2.1.length:Int) (lu (xq k K).1.2.2.2.2.2.2.2.2.1)) ay)
   simp only;omega
noncomputable def y5 (k:Nat):Nat -> jd×List je -> jd×List je
 | 0,s=>s
 | n+1,s=>y5 k n ((p9 k s.1).1,s.2++(p9 k s.1).2)
theorem abS {k:Nat}:∀ (n:Nat) (s:jd×List je),KW s.1 -> KW (y5 k n s).1 /\ (y5 k n s).2.length <= s.2.length+100003 * n
 | 0,s,h=>⟨h,Nat.le_refl _⟩
 | n+1,s,h=>by
  have h1:=(QI (k:=k) h).1
  have h2:=QJ (k:=k) h
  obtain ⟨a,b⟩:=abS n ((p9 k s.1).1,s.2++(p9 k s.1).2) h1
  exact ⟨a,by rw [y5];simp only [List.length_append] at b;omega⟩
noncomputable def YQ (k:Nat) (K:jd) (s:Stp):CR :=
 bif s.1==1 then LD k K s.2.1
 else bif s.1==2 then ((p9 k K).1,(p9 k K).2,0,(0,0),0)
 else bif s.1==3 then err (w6 K true) 0
 else bif s.1==4 then (bif FM K.2.2.2.2.2.2.2.2.1 s.2.2.1 then err (x9 K (abn K.2.2.2.2.2.2.2.2.1 s.2.2.1)) 0 else err K 3)
 else bif s.1==5 then (bif decide (s.2.2.2<0)||decide (s.2.2.2>10000) then err K 1 else ((y5 k s.2.2.2.toNat (K,[])).1,(y5 k s.2.2.2.toNat (K,[])).2,0,(0,0),0))
 else err K 1
theorem aos {k:Nat} {K:jd} (h:KW K) (c:Cl):(LD k K c).2.1.length <= 300:=by
 have hT:=h.tab
 have z:∀ e:Int,(err K e).2.1.length <= 300:=fun e=>by simp [err]
 have mk:(ET k K c).2.1.length <= 300:=by
  unfold ET
  cases (c.1==2)&&K.2.2.2.2.1 with
  | true=>exact z 7
  | false=>cases (BU k K.2.2.2.2.2.2.2.2.1 (c.1 - 1)).2.2 <;> simp [err]
 unfold LD
 cases c.1==1 with
 | true =>
  simp only [cond_true]
  unfold U3
  cases K.2.2.2.2.1 with
  | true=>exact z 7
  | false=>cases (inT K.2.2.1 c.2.1 K.2.1).2.2==0 <;> simp [err]
 | false =>
 cases c.1==2 with
 | true=>exact mk
 | false =>
 cases c.1==3 with
 | true=>exact mk
 | false =>
 cases c.1==4 with
 | true=>exact mk
 | false =>
 cases c.1==5 with
 | true =>
  simp only [cond_true,cond_false]
  unfold NW
  cases (uj k K).2==0 <;> simp [err]
 | false =>
 cases c.1==6 with
 | true =>
  simp only [cond_true,cond_false]
  unfold arW
  rcases Wz h.UA c.2.2.2.1 c.2.2.2.2.1 with ⟨_,e,_⟩ | ⟨_,_,_,_,n,_,_,_,_,q | q⟩
  ·simp only;rw [e];simp
  ·simp only;rw [q.2.2];simp
  ·simp only;rw [q.2.2.2];simp
 | false =>
 cases c.1==7 with
 | true =>
  simp only [cond_true,cond_false]
  unfold abN
  dsimp only
  cases !UO K.2.2.2.2.2.2.2.2.1 c.2.2.1 2 with
  | true=>exact z 3
  | false =>
   rw [cond_false]
   cases !(FI (rd K.2.2.2.2.2.2.2.2.1.2 c.2.2.1.1 jv).2.2.2.1 c.2.2.2.2.1).2.2 with
   | true=>exact z 4
   | false=>cases decide ((FI (rd K.2.2.2.2.2.2.2.2.1.2 c.2.2.1.1 jv).2.2.2.1 c.2.2.2.2.1).2.1>0) <;> simp
 | false =>
 cases c.1==8 with
 | true =>
  simp only [cond_true,cond_false]
  unfold abO
  dsimp only
  cases !UO K.2.2.2.2.2.2.2.2.1 c.2.2.1 2 with
  | true=>exact z 3
  | false=>cases !(takeB (rd K.2.2.2.2.2.2.2.2.1.2 c.2.2.1.1 jv).2.2.2.1 c.2.2.2.1).2.2.2 <;> simp [err]
 | false =>
 cases c.1==9 with
 | true =>
  simp only [cond_true,cond_false]
  unfold U4
  dsimp only
  cases hx:UO K.2.2.2.2.2.2.2.2.1 c.2.2.1 3 with
  | false=>exact z 3
  | true =>
   have hp:=(JV (EU hT hx).2.2 c.2.2.2.2.2).2
   simp only [Bool.not_true,cond_false,abP,List.length_map];omega
 | false =>
 cases c.1==10 with
 | true =>
  simp only [cond_true,cond_false]
  unfold U5
  dsimp only
  cases !UO K.2.2.2.2.2.2.2.2.1 c.2.2.1 3 with
  | true=>exact z 3
  | false=>cases !(D6 (rd K.2.2.2.2.2.2.2.2.1.2 c.2.2.1.1 jv).2.2.2.2.1 c.2.2.2.1 c.2.2.2.2.2).2.2 <;> simp [err]
 | false =>
 cases c.1==11 with
 | true =>
  simp only [cond_true,cond_false]
  unfold abQ
  dsimp only
  cases hx:alv K.2.2.2.2.2.2.2.2.1 c.2.2.1 with
  | false=>exact z 3
  | true =>
   unfold alv CS at hx
   simp only [Bool.and_eq_true] at hx
   obtain ⟨h0,h1,h2⟩:=CQ hx.1.2
   have hs:=hT.2 _ (NC h0 h1)
   simp only [Bool.not_true,cond_false,List.length_map]
   unfold vg
   rw [List.length_append,List.length_map];have:=hs.2.1;have:=hs.2.2;omega
 | false=>exact z 1
theorem apl {k:Nat} {K:jd} (h:KW K) {s:Stp} (hs:SW s):KW (YQ k K s).1 /\ (YQ k K s).2.1.length <= 1000030000:=by
 have z:KW K /\ (0:Nat) <= 1000030000:=⟨h,by omega⟩
 unfold YQ
 cases s.1==1 with
 | true=>exact ⟨agI h ⟨hs.light,hs.arg⟩,by have:=aos (k:=k) h s.2.1;simp only [cond_true];omega⟩
 | false =>
 cases s.1==2 with
 | true=>exact ⟨(QI h).1,by have:=QJ (k:=k) h;simp only [cond_true,cond_false];omega⟩
 | false =>
 cases s.1==3 with
 | true=>exact ⟨⟨h.GJ,h.task,h.bnd,h.tab,h.job,h.UA,h.row,h.off⟩,by simp [err]⟩
 | false =>
 cases s.1==4 with
 | true =>
  simp only [cond_true,cond_false]
  cases FM K.2.2.2.2.2.2.2.2.1 s.2.2.1 with
  | true=>exact ⟨h.x9 (agd h.tab),by simp [err]⟩
  | false=>exact ⟨h,by simp [err]⟩
 | false =>
 cases s.1==5 with
 | true =>
  simp only [cond_true,cond_false]
  cases hn:decide (s.2.2.2<0)||decide (s.2.2.2>10000) with
  | true=>exact ⟨h,by simp [err]⟩
  | false =>
   rw [Bool.or_eq_false_iff] at hn
   have n1:=of_decide_eq_false hn.1
   have n2:=of_decide_eq_false hn.2
   obtain ⟨a,b⟩:=abS (k:=k) s.2.2.2.toNat (K,[]) h
   exact ⟨a,by simp only [cond_false];simp only [List.length_nil] at b;omega⟩
 | false=>exact ⟨h,by simp [err]⟩
theorem abT {k:Nat} (hk:20000 <= k) {b c:Int} {e f g:Bool} {i l m n o p s t:Int} {N:Nat} (hN:N <= 10000):∀ (d x j:Nat) (K:jd) (ev:List je),x+d=N -> d<j -> KW K -> ev.length <= 100003 * x ->
  Y0 k j K b c e f g i l m n o p s t ev (N:Int) (x:Int)=some (((y5 k d (K,ev)).1,(y5 k d (K,ev)).2,(o,(p,s),t),()),())
 | 0,x,j,K,ev,hx,hj,h,he=>by
  obtain ⟨j,rfl⟩:∃ i,j=i+1:=⟨j - 1,by omega⟩
  rw [aaQ,XZ,Sd (by omega),AB (by omega) h,Option.bind_some]
  rfl
 | d+1,x,j,K,ev,hx,hj,h,he=>by
  obtain ⟨j,rfl⟩:∃ i,j=i+1:=⟨j - 1,by omega⟩
  have h2:=QJ (k:=k) h
  rw [aaQ,XZ,Sc (by omega),agF (by omega) h,Option.bind_some]
  simp only
  rw [Rz (by omega),Mi (by omega),y5]
  exact abT hk hN d (x+1) j (p9 k K).1 (ev++(p9 k K).2) (by omega) (by omega) (QI h).1 (by rw [List.length_append];omega)
theorem YR {k:Nat} (hk:20000 <= k) {K:jd} (h:KW K) {s:Stp} (hs:SW s):S45 k K s=some (((YQ k K s).1,(YQ k K s).2.1,(YQ k K s).2.2,()),()):=by
 have hk1:1000 <= k:=by omega
 unfold S45 YQ
 cases s.1==1 with
 | true =>
  rw [cond_true,cond_true,aqS hk h ⟨hs.light,hs.arg⟩,Option.bind_some]
 | false =>
 cases s.1==2 with
 | true=>simp only [cond_true,cond_false];rw [agF hk1 h,Option.bind_some]
 | false =>
 cases s.1==3 with
 | true =>
  simp only [cond_true,cond_false]
  rw [AB hk1 (K:=w6 K true) ⟨h.GJ,h.task,h.bnd,h.tab,h.job,h.UA,h.row,h.off⟩,Option.bind_some];rfl
 | false =>
 cases s.1==4 with
 | true =>
  simp only [cond_true,cond_false]
  rw [ano hk1 h.tab,Option.bind_some]
  simp only
  cases FM K.2.2.2.2.2.2.2.2.1 s.2.2.1 with
  | true =>
   have e:=AB hk1 (h.x9 (agd (i:=s.2.2.1) h.tab))
   simp only [Bool.not_true,cond_false,cond_true]
   refine (congrArg (fun x=>Option.bind x _) e).trans ?_
   rfl
  | false=>simp only [Bool.not_false,cond_true,cond_false];rw [AB hk1 h,Option.bind_some];rfl
 | false =>
 cases s.1==5 with
 | true =>
  simp only [cond_true,cond_false]
  by_cases n1:s.2.2.2<0
  ·rw [Sc n1,decide_eq_true n1,AB hk1 h,Option.bind_some];rfl
  ·rw [Sd n1,decide_eq_false n1,Bool.false_or]
   by_cases n2:s.2.2.2>10000
   ·rw [Sc n2,Sc n2,AB hk1 h,Option.bind_some];rfl
   ·rw [Sd n2,Sd n2]
    have e:=abT (k:=k) hk (b:=0) (c:=0) (e:=false) (f:=false) (g:=false) (i:=0) (l:=0) (m:=0) (n:=0) (o:=0) (p:=0) (s:=0) (t:=0) (N:=s.2.2.2.toNat) (by omega) s.2.2.2.toNat 0 k K [] (by omega) (by omega) h (by simp)
    rw [show ((s.2.2.2.toNat:Nat):Int)=s.2.2.2 by omega] at e
    exact e
 | false=>simp only [cond_false];rw [AB hk1 h,Option.bind_some];rfl
noncomputable def zo (k:Nat):List Stp -> jd×List je×List Rly -> jd×List je×List Rly
 | [],r=>r
 | s::l,r=>zo k l ((YQ k r.1 s).1,r.2.1++(YQ k r.1 s).2.1,r.2.2++[(YQ k r.1 s).2.2])
theorem abU {k:Nat}:∀ (l:List Stp) (r:jd×List je×List Rly),(∀ s∈l,SW s) -> KW r.1 -> KW (zo k l r).1 /\ (zo k l r).2.1.length <= r.2.1.length+1000030000 * l.length /\ (zo k l r).2.2.length=r.2.2.length+l.length
 | [],r,_,h=>⟨h,by simp [zo],by simp [zo]⟩
 | s::l,r,hl,h=>by
  obtain ⟨g1,g2⟩:=apl (k:=k) h (hl s (by simp))
  obtain ⟨a,b,c⟩:=abU l ((YQ k r.1 s).1,r.2.1++(YQ k r.1 s).2.1,r.2.2++[(YQ k r.1 s).2.2]) (fun x hx=>hl x (by simp [hx])) g1
  refine ⟨a,?_,?_⟩
  ·rw [zo];simp only [List.length_append,List.length_cons] at b ⊢;omega
  ·rw [zo];simp only [List.length_append,List.length_cons,List.length_nil] at c ⊢;omega
def arX:Tb:=newT
def YS (ap:Int):jd:=(0,ap,[],[],false,false,false,[],arX,[],[])
theorem aqT (k:Nat) {ap:Int} (h1:1 <= ap) (h2:ap <= 4611686018427387904):S36 k ap=some ((YS ap,true,()),()):=by
 unfold S36
 rw [Sd (by omega),Sd (by omega)]
 rfl
theorem alE (ap:Int):KW (YS ap):=⟨by simp [YS],(fun t h=>by simp [YS] at h),rfl,anw,(fun j h=>by simp [YS] at h),List.Pairwise.nil,(fun h=>by simp [YS] at h),fun _=>⟨rfl,rfl,rfl⟩⟩
theorem alF {k:Nat} (hk:20000 <= k) {l:List Stp} (hl:l.length <= 1000) (hs:∀ s∈l,SW s):∀ (m i j:Nat) (r:jd×List je×List Rly),i+m=l.length -> m<j -> KW r.1 -> r.2.1.length <= 1000030000 * i -> r.2.2.length <= i ->
  ae2 k j r.1 r.2.1 r.2.2 l (l.length:Int) (i:Int)=some (((zo k (l.drop i) r).1,(zo k (l.drop i) r).2.1,(zo k (l.drop i) r).2.2,true,()),())
 | 0,i,j,r,hi,hj,h,h1,h2=>by
  obtain ⟨j,rfl⟩:∃ i,j=i+1:=⟨j - 1,by omega⟩
  rw [ae3,ae1,Sd (by omega),drop_nil (by omega)]
  rfl
 | m+1,i,j,r,hi,hj,h,h1,h2=>by
  obtain ⟨j,rfl⟩:∃ i,j=i+1:=⟨j - 1,by omega⟩
  have hi':i<l.length:=by omega
  have hsw:=hs _ (jh (z:=bq) hi')
  obtain ⟨g1,g2⟩:=apl (k:=k) h hsw
  rw [ae3,ae1,Sc (by omega),Qo hi',Qp,YR hk h hsw,Option.bind_some]
  simp only
  rw [Rz (by omega),Rz (by simp only [List.length_cons,List.length_nil];omega),Mi (by omega),drop_cons bq hi',zo]
  exact alF hk hl hs m (i+1) j ((YQ k r.1 (l.getD i bq)).1,r.2.1++(YQ k r.1 (l.getD i bq)).2.1,r.2.2++[(YQ k r.1 (l.getD i bq)).2.2]) (by omega) (by omega) g1 (by simp only [List.length_append];omega) (by simp only [List.length_append,List.length_cons,List.length_nil];omega)
noncomputable def GN (k:Nat) (ap:Int) (l:List Stp):jd×List je×List Rly:=zo k l (YS ap,[],[])
theorem aqU {k:Nat} (hk:20000 <= k) {ap:Int} (h1:1 <= ap) (h2:ap <= 4611686018427387904) {l:List Stp} (hl:l.length <= 1000) (hs:∀ s∈l,SW s):S19 k ap l=some (((GN k ap l).1,(GN k ap l).2.1,(GN k ap l).2.2,true,()),()):=by
 unfold S19
 rw [aqT k h1 h2,Option.bind_some]
 have:=alF hk hl hs l.length 0 k (YS ap,[],[]) (by omega) (by omega) (alE ap) (by simp) (by simp)
 rw [List.drop_zero] at this
 exact this
theorem aqV {k:Nat} {ap:Int} {l:List Stp} (hs:∀ s∈l,SW s):KW (GN k ap l).1 /\ (GN k ap l).2.1.length <= 1000030000 * l.length /\ (GN k ap l).2.2.length=l.length:=by
 have:=abU (k:=k) l (YS ap,[],[]) hs (alE ap)
 unfold GN
 simpa using this
theorem aqW {k:Nat} (hk:20000 <= k):S43 k=some ((true,()),()):=by
 obtain ⟨k,rfl⟩:∃ m,k=m+20000:=⟨k - 20000,by omega⟩
 kernel_rfl
theorem agJ (k:Nat) (p:List Int):S16 k p=some (((p,0,()),()),()):=rfl
theorem aqX {e:TypeId} {k:Nat} (hk:1000 <= k) {p:List Int} (hp:Ty.fine (.sl e (.int .u8)) p) (h:p.length <= 1000):∃ (l:List Stp) (n:Int),S17 k p 0=some ((l,()),(p,n,()),()) /\ (∀ s∈l,SW s) /\ l.length <= 10:=by
 obtain ⟨l,n,e,_,h1,h2⟩:=alq hk (abb hp h)
 exact ⟨l,n,e,h1,h2⟩
theorem aot {e:TypeId} {k:Nat} (hk:1000 <= k) {p:List Int} (hp:Ty.fine (.sl e (.int .u8)) p) (h:p.length <= 1000) {c:Nat} (hc:c <= 500):∃ (l:List Stp) (n:Int),S18 k p 0 (c:Int)=some ((l,()),(p,n,()),()) /\ (∀ s∈l,SW s) /\ l.length <= 10+c:=by
 obtain ⟨l,n,e,_,h1,h2⟩:=aqR hk (abb hp h) hc
 exact ⟨l,n,e,h1,h2⟩
theorem aou:SW (2,bn,0,0):=SW.zero _ _ _ _ _ _ _ ⟨by omega,by omega⟩
theorem alG (n:Int):SW (5,bn,0,n):=SW.zero _ _ _ _ _ _ _ ⟨by omega,by omega⟩
theorem aov (k:Nat) (K:jd):YQ k K (2,bn,0,0)=((p9 k K).1,(p9 k K).2,0,(0,0),0):=rfl
theorem alH (k:Nat) (K:jd) {n:Nat} (h:n <= 10000):YQ k K (5,bn,0,(n:Int))=((y5 k n (K,[])).1,(y5 k n (K,[])).2,0,(0,0),0):=by
 unfold YQ
 show (bif decide ((n:Int)<0)||decide ((n:Int)>10000) then _ else _)=_
 rw [decide_eq_false (by omega),decide_eq_false (by omega),Bool.or_false,cond_false]
 rfl
theorem abV {k:Nat} (hk:10000000000000 <= k) {a:Int} {n:Nat} (ha:IntKind.i64.wrap (Int.tmod a 60)=(n:Int)) (hn:n <= 60) {K:jd} (hK:KW K) {h i l:Int} {R:jd×List je} (hR:R=y5 k n (K,[])):∀ (m o j:Nat) (r:jd×List je),o+m=n -> m<j -> KW r.1 -> r.2.length <= 100003 * o -> y5 k m r=R ->
  afE k j a K K R.1 R.2 0 h i l r.2 r.1 (o:Int)=some ((true,()),())
 | 0,o,j,r,hi,hj,g,h1,he=>by
  obtain ⟨j,rfl⟩:∃ i,j=i+1:=⟨j - 1,by omega⟩
  have he:r=R:=he
  subst he
  rw [afF,afD,ha,Sd (by omega),YR (by omega) hK (alG _),Option.bind_some,alH k K (by omega),<- hR]
  simp only [beq_self_eq_true,cond_true]
  rw [aog (by omega) (by omega) (by omega),Option.bind_some]
  rw [NU (by omega) g.tab]
  simp only [cond_true,Option.bind_some]
  rw [OV (by omega) g.ks,NU (by omega) hK.tab]
  simp only [cond_true,Option.bind_some]
  rw [OV (by omega) hK.ks,Option.bind_some]
 | m+1,o,j,r,hi,hj,g,h1,he=>by
  obtain ⟨j,rfl⟩:∃ i,j=i+1:=⟨j - 1,by omega⟩
  have h2:=QJ (k:=k) g
  rw [afF,afD,ha,Sc (by omega),YR (by omega) g aou,Option.bind_some,aov]
  simp only [bne_self_eq_false,cond_false]
  rw [Rz (by omega),Mi (by omega)]
  rw [y5] at he
  exact abV hk ha hn hK hR m (o+1) j ((p9 k r.1).1,r.2++(p9 k r.1).2) (by omega) (by omega) (QI g).1 (by rw [List.length_append];omega) he
theorem trialParts_pure {e1 e2:TypeId} {p q:List Int} {c:Int} (hp:Ty.fine (.sl e1 (.int .u8)) p) (hq:Ty.fine (.sl e2 (.int .u8)) q) (hc:0 <= c /\ c <= 255) {k:Nat} (hk:10000000000000 <= k):S9 k p q c=some ((true,()),()):=by
 unfold S9
 rw [aqW (by omega)]
 simp only [Option.bind_some,Bool.not_true,cond_false]
 by_cases h1:(p.length:Int)>200
 ·rw [Sc h1]
 ·rw [Sd h1]
  by_cases h2:(q.length:Int)>150
  ·rw [Sc h2]
  ·rw [Sd h2]
   obtain ⟨a,n1,ea,ha,hal⟩:=aqX (k:=k) (by omega) hp (by omega)
   obtain ⟨b,n2,eb,hb,hbl⟩:=aot (k:=k) (by omega) hq (by omega) (show 30 <= 500 by omega)
   have eb:S18 k q 0 30=_:=eb
   rw [agJ,Option.bind_some]
   simp only
   rw [ea,Option.bind_some,agJ,Option.bind_some]
   simp only
   rw [eb,Option.bind_some]
   simp only
   rw [Rz (by omega)]
   have hs:∀ s∈a++b,SW s:=fun s h=>by
    rcases List.mem_append.1 h with h | h
    ·exact ha s h
    ·exact hb s h
   have hl:(a++b).length <= 120:=by rw [List.length_append];omega
   generalize a++b=l at hs hl
   rw [aqU (by omega) (by omega) (by omega) (by omega) hs,Option.bind_some]
   obtain ⟨w1,w2,w3⟩:=aqV (k:=k) (ap:=40) hs
   generalize (GN k 40 l).1=K at w1
   simp only [Bool.not_true,cond_false]
   rw [NU (by omega) w1.tab,Option.bind_some]
   have t0:0 <= Int.tmod c 60:=Int.tmod_nonneg _ hc.1
   have t1:Int.tmod c 60<60:=Int.tmod_lt_of_pos _ (by omega)
   obtain ⟨n,hn⟩:∃ n:Nat,Int.tmod c 60=(n:Int):=⟨(Int.tmod c 60).toNat,by omega⟩
   have hw:IntKind.i64.wrap (Int.tmod c 60)=(n:Int):=by rw [hn];exact Uu (by omega) (by omega)
   rw [hw,YR (by omega) w1 (alG _),Option.bind_some,alH k K (by omega)]
   exact abV hk hw (by omega) w1 rfl n 0 k (K,[]) (by omega) (by omega) w1 (by simp) rfl
theorem trialParts_law {e1 e2:TypeId} (p q:List Int) (c:Int) (hp:Ty.fine (.sl e1 (.int .u8)) p) (hq:Ty.fine (.sl e2 (.int .u8)) q) (hc:Ty.fine (.int .u8) c):∃ k,S9 k p q c=some ((true,()),()):=⟨10000000000000,trialParts_pure hp hq (aqt hc) (by omega)⟩
end Go.Proofs.YtjjjbcmjmkcedaaGreat.Ab
