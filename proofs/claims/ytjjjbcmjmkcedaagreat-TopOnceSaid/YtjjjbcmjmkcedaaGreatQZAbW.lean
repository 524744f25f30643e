import Derived.Test.YtjjjbcmjmkcedaaGreatQZAbW1
import Derived.KernelRfl
/- The plain law, and what it hangs on. -/
namespace Go.Proofs.YtjjjbcmjmkcedaaGreat.Ab
open Go.RowKit
set_option linter.unusedSimpArgs false
set_option linter.unusedVariables false
open Tr
theorem aho (K:jd):(tq K (-1) 0).1=K:=by
 unfold tq
 cases K.2.2.2.2.1 with
 | false=>rfl
 | true=>cases K.2.2.2.2.2.1 <;> rfl
theorem BJ {k:Nat} (hk:1000 <= k) {K:jd} (h:KW K):S30 k K (-1) 0=some ((K,(tq K (-1) 0).2.1,(tq K (-1) 0).2.2,()),()):=by
 have:=akE hk h (-1) 0
 rwa [aho] at this
theorem anv {k:Nat} (hk:1000 <= k) {K:jd} (h:KW K):S99 k K=some ((K,()),()):=by
 unfold S99
 rw [BJ hk h,Option.bind_some]
theorem KW.yt {K:jd} (h:KW K) {T:Tb} (hT:yh T):KW (yt K T):=⟨h.EK,h.task,h.bnd,hT,h.job,h.MQ,h.row,h.off⟩
theorem akK {l:List iw} {t:iw} {ap:Int} (h:(inT l t ap).2.2=0):GJ t=0 /\ l.length<8 /\ (inT l t ap).1=BG l t /\ (inT l t ap).2.1.length=(BG l t).length:=by
 obtain ⟨g1,g2,g3,g4⟩:=apt h
 have hga:=WI g3
 refine ⟨?_,?_,g1,by rw [g2,af0 hga.1 hga.2];simp⟩
 ·by_cases q:GJ t=0
  ·exact q
  ·unfold inT at h;rw [if_pos q] at h;exact absurd h q
 ·unfold inT at h
  split at h
  ·rename_i q;exact absurd h q
  ·rw [if_neg (by rw [g4];decide)] at h
   split at h
   ·exact absurd h (by decide)
   ·rename_i q;omega
theorem anw {k:Nat} {T:Tb} (h:yh T) (c:Int):yh (BD k T c).1:=by
 unfold BD
 split
 ·exact h
 ·have htl:=ag3 T.1
  obtain ⟨⟨h1,h2,h3⟩,h4⟩:=h
  refine ⟨⟨by rw [htl.1];exact h1,by rw [htl.2];exact h2,by simp only;rw [Mk];exact h3⟩,fun y hy=>?_⟩
  rcases List.mem_or_eq_of_mem_set hy with q | q
  ·exact h4 y q
  ·rw [q];exact ⟨by simp [zw,DU],by simp [zw,DU],by simp [zw,DU]⟩
theorem anx {T:Tb} (h:yh T) (g:Int×Int):yh (Wt T g):=by
 unfold Wt
 split
 ·obtain ⟨⟨h1,h2,h3⟩,h4⟩:=h
  refine ⟨⟨h1,by simp only;rw [Mk];exact h2,by simp only;rw [Mk];exact h3⟩,fun y hy=>?_⟩
  rcases List.mem_or_eq_of_mem_set hy with q | q
  ·exact h4 y q
  ·rw [q];exact afM
 ·exact h
def CW (c:Cl):Prop:=(zi c.2.1 /\ (c.2.1.2.2.2.1++c.2.1.2.2.2.2.1).length <= 900) /\ GI c.2.2.2.2.1
theorem akL {K:jd} (h:KW K) {c:Cl} (hc:CW c):KW (KT K c).1:=by
 unfold KT
 cases hr:K.2.2.2.2.1 with
 | true=>exact h
 | false =>
  rw [cond_false]
  cases hz:(inT K.2.2.1 c.2.1 K.2.1).2.2==0 with
  | false=>exact h
  | true =>
   obtain ⟨g1,g2,g3,g4⟩:=akK (eq_of_beq hz)
   obtain ⟨o1,o2,o3⟩:=h.off hr
   have hl:=U9 K.2.2.1 c.2.1
   rw [cond_true]
   refine ⟨?_,?_,?_,h.tab,?_,?_,fun e=>absurd (hr.symm.trans e) (by decide),fun _=>⟨o1,o2,o3⟩⟩
   ·show (inT K.2.2.1 c.2.1 K.2.1).1.length <= 8
    rw [g3];omega
   ·intro t ht
    have ht:t∈BG K.2.2.1 c.2.1:=by rw [<- g3];exact ht
    unfold BG at ht
    rcases List.mem_append.1 ht with ht | ht
    ·rcases List.mem_append.1 ht with ht | ht
     ·exact h.task t (List.mem_of_mem_take ht)
     ·rw [List.mem_singleton] at ht;rw [ht];exact ⟨hc.1,g1⟩
    ·exact h.task t (List.mem_of_mem_drop ht)
   ·show (inT K.2.2.1 c.2.1 K.2.1).2.1.length=(inT K.2.2.1 c.2.1 K.2.1).1.length
    rw [g3];exact g4
   ·intro j hj
    have hj:j∈K.2.2.2.2.2.2.2.1:=hj
    rw [o1] at hj;cases hj
   ·show rising K.2.2.2.2.2.2.2.1
    exact h.MQ
theorem akM {k:Nat} {K:jd} (h:KW K):KW (IB k K).1:=by
 unfold IB
 cases hz:(uf k K).2==0 with
 | false=>exact h
 | true =>
  rw [cond_true]
  unfold uf at hz ⊢
  cases hr:K.2.2.2.2.1 with
  | true=>rw [hr] at hz;exact absurd (show ((7:Int)==0)=true from hz) (by decide)
  | false =>
   rw [hr,cond_false] at hz
   rw [cond_false]
   obtain ⟨o1,o2,o3⟩:=h.off hr
   cases hl:K.2.2.1.any (I7 (j6 K.2.2.2.2.2.2.2.2.1).length) with
   | true=>rw [hl] at hz;exact absurd (show ((4:Int)==0)=true from hz) (by decide)
   | false =>
    have hT:=(UG (k:=k) h.tab (agd K.2.2.1 (j6 K.2.2.2.2.2.2.2.2.1))).1
    refine ⟨h.EK,h.task,h.bnd,hT,h.job,h.MQ,fun _=>⟨List.length_replicate ..,List.length_replicate ..⟩,fun e=>absurd (show (true:Bool)=false from e) (by decide)⟩
theorem agi {k:Nat} {K:jd} (h:KW K) {c:Cl} (hc:CW c):KW (zo k K c).1:=by
 have hT:=h.tab
 have mk:KW (zn k K c).1:=by
  unfold zn
  cases (c.1==2)&&K.2.2.2.2.1 with
  | true=>exact h
  | false =>
   rw [cond_false]
   cases (BD k K.2.2.2.2.2.2.2.2.1 (c.1 - 1)).2.2 with
   | true=>exact h.yt (anw hT _)
   | false=>exact h
 unfold zo
 cases c.1==1 with
 | true=>exact akL h hc
 | false =>
 cases c.1==2 with
 | true=>exact mk
 | false =>
 cases c.1==3 with
 | true=>exact mk
 | false =>
 cases c.1==4 with
 | true=>exact mk
 | false =>
 cases c.1==5 with
 | true=>exact akM h
 | false =>
 cases c.1==6 with
 | true=>exact apK h hc.2
 | false =>
 cases c.1==7 with
 | true =>
  simp only [cond_true,cond_false]
  unfold UO
  dsimp only
  cases hx:MO K.2.2.2.2.2.2.2.2.1 c.2.2.1 2 with
  | false=>exact h
  | true =>
   have hs:=FU hT hx
   have hp:=WQ ⟨hs.1,hs.2.1⟩ c.2.2.2.2.1
   simp only [Bool.not_true,cond_false]
   cases (BI (rd K.2.2.2.2.2.2.2.2.1.2 c.2.2.1.1 j5).2.2.2.1 c.2.2.2.2.1).2.2 with
   | false=>exact h
   | true=>exact h.yt (U0 hT ⟨hp.1,hp.2,hs.2.2⟩)
 | false =>
 cases c.1==8 with
 | true =>
  simp only [cond_true,cond_false]
  unfold UQ
  dsimp only
  cases hx:MO K.2.2.2.2.2.2.2.2.1 c.2.2.1 2 with
  | false=>exact h
  | true =>
   have hs:=FU hT hx
   have hp:=WR ⟨hs.1,hs.2.1⟩ c.2.2.2.1
   simp only [Bool.not_true,cond_false]
   cases (takeB (rd K.2.2.2.2.2.2.2.2.1.2 c.2.2.1.1 j5).2.2.2.1 c.2.2.2.1).2.2.2 with
   | false=>exact h
   | true=>exact h.yt (U0 hT ⟨hp.1,hp.2,hs.2.2⟩)
 | false =>
 cases c.1==9 with
 | true =>
  simp only [cond_true,cond_false]
  unfold KU
  dsimp only
  cases hx:MO K.2.2.2.2.2.2.2.2.1 c.2.2.1 3 with
  | false=>exact h
  | true =>
   have hs:=FU hT hx
   have hp:=KY hs.2.2 c.2.2.2.2.2
   exact h.yt (U0 hT ⟨hs.1,hs.2.1,hp.1⟩)
 | false =>
 cases c.1==10 with
 | true =>
  simp only [cond_true,cond_false]
  unfold KV
  dsimp only
  cases hx:MO K.2.2.2.2.2.2.2.2.1 c.2.2.1 3 with
  | false=>exact h
  | true =>
   have hs:=FU hT hx
   have hp:=UU hs.2.2 c.2.2.2.1 c.2.2.2.2.2
   simp only [Bool.not_true,cond_false]
   cases (BP (rd K.2.2.2.2.2.2.2.2.1.2 c.2.2.1.1 j5).2.2.2.2.1 c.2.2.2.1 c.2.2.2.2.2).2.2 with
   | false=>exact h
   | true=>exact h.yt (U0 hT ⟨hs.1,hs.2.1,hp⟩)
 | false =>
 cases c.1==11 with
 | true =>
  simp only [cond_true,cond_false]
  unfold UR
  dsimp only
  cases hx:acN K.2.2.2.2.2.2.2.2.1 c.2.2.1 with
  | false=>exact h
  | true=>exact h.yt (anx hT _)
 | false=>exact h
theorem apO {k:Nat} (hk:20000 <= k) {K:jd} (h:KW K) {c:Cl} (hc:CW c):S41 k K c=some (((zo k K c).1,(zo k K c).2.1,(zo k K c).2.2,()),()):=by
 have hT:=h.tab
 have JJ:=agi (k:=k) h hc
 have hk1:1000 <= k:=by omega
 have fin:∀ (x:Option (Unit×_×Unit)) (r:CR),KW r.1 -> x=some ((),BR (asR c r),()) -> (x.bind fun q=>(S99 k (qd q.2.1).1).bind fun p=>some ((p.1.1,(qd q.2.1).2.2.1,(qd q.2.1).2.2.2,()),()))=some ((r.1,r.2.1,r.2.2,()),()):=fun x r hr e=>by
  rw [e,Option.bind_some]
  simp only [vrA]
  rw [show (asR c r).1=r.1 from rfl,anv hk1 hr,Option.bind_some]
  rfl
 unfold S41
 unfold zo at JJ ⊢
 cases h1:c.1==1 with
 | true =>
  rw [h1] at JJ
  refine fin _ _ JJ ?_
  unfold S89 KT
  show (bif K.2.2.2.2.1 then _ else _)=_
  cases K.2.2.2.2.1 with
  | true=>rfl
  | false =>
   have hi:=amX hk (l:=K.2.2.1) (t:=c.2.1) ⟨h.light,by have:=h.EK;omega,hc.1⟩ K.2.1
   rw [cond_false,cond_false]
   refine (congrArg (fun x=>Option.bind x _) hi).trans ?_
   rw [Option.bind_some]
   simp only
   cases hz:(inT K.2.2.1 c.2.1 K.2.1).2.2==0 with
   | true=>rw [cond_true,cond_true,eq_of_beq hz];rfl
   | false=>rfl
 | false =>
 rw [h1,cond_false] at JJ
 cases h2:c.1==2 with
 | true=>rw [h2] at JJ;exact fin _ _ JJ (UW hk1 hT (.inl (eq_of_beq h2)))
 | false =>
 rw [h2,cond_false] at JJ
 cases h3:c.1==3 with
 | true=>rw [h3] at JJ;exact fin _ _ JJ (UW hk1 hT (.inr (.inl (eq_of_beq h3))))
 | false =>
 rw [h3,cond_false] at JJ
 cases h4:c.1==4 with
 | true=>rw [h4] at JJ;exact fin _ _ JJ (UW hk1 hT (.inr (.inr (eq_of_beq h4))))
 | false =>
 rw [h4,cond_false] at JJ
 cases h5:c.1==5 with
 | true=>rw [h5] at JJ;exact fin _ _ JJ (start_eq hk1 h)
 | false =>
 rw [h5,cond_false] at JJ
 cases h6:c.1==6 with
 | true =>
  rw [h6] at JJ
  refine fin _ _ JJ ?_
  unfold S92
  have e:=akE hk1 h c.2.2.2.1 c.2.2.2.2.1
  refine (congrArg (fun x=>Option.bind x _) e).trans ?_
  rfl
 | false =>
 rw [h6,cond_false] at JJ
 cases h7:c.1==7 with
 | true=>rw [h7] at JJ;exact fin _ _ JJ (post_eq hk1 hT)
 | false =>
 rw [h7,cond_false] at JJ
 cases h8:c.1==8 with
 | true=>rw [h8] at JJ;exact fin _ _ JJ (anu hk1 hT)
 | false =>
 rw [h8,cond_false] at JJ
 cases h9:c.1==9 with
 | true=>rw [h9] at JJ;exact fin _ _ JJ (akJ hk1 hT)
 | false =>
 rw [h9,cond_false] at JJ
 cases h10:c.1==10 with
 | true=>rw [h10] at JJ;exact fin _ _ JJ (akI hk1 hT)
 | false =>
 rw [h10,cond_false] at JJ
 cases h11:c.1==11 with
 | true=>rw [h11] at JJ;exact fin _ _ JJ (free_eq hk1 hT)
 | false=>exact fin _ (err K 1) h rfl
theorem akN (u:jg) (j:jc):(sj u j).2.1.2.length <= u.2.length+2:=by
 unfold sj
 cases j.2.2.2.1==2 with
 | true=>simp [j4]
 | false =>
  cases (j.2.2.2.1==0)&&decide (((u.1.2.2.1.getD j.1.toNat bg).2.2.2.2.1.length:Int)>0) <;> simp [af8,j4]
theorem anz (k:Nat) (u:jg) (j:jc):(GK k u j).2.1.2.length <= u.2.length+3:=by
 unfold GK
 cases u.1.2.2.2.2.2.2.1 with
 | true=>rw [cond_true];unfold MK;simp [j4]
 | false =>
  rw [cond_false]
  unfold K5
  simp only
  generalize pq (qj ((j4 u (0,2,j.1,0,0,0)).1.2.2.1.getD j.1.toNat bg) j.2.2.2.1) j.2.2.2.2.1=x
  have fin:∀ v:jg,v.2.length=u.2.length+1 -> ((bif (y5 ((j4 u (0,2,j.1,0,0,0)).1.2.2.1.getD j.1.toNat bg) j).2.2.2.2.1.2.2.2 then sj v (y5 ((j4 u (0,2,j.1,0,0,0)).1.2.2.1.getD j.1.toNat bg) j) else (false,v,y5 ((j4 u (0,2,j.1,0,0,0)).1.2.2.1.getD j.1.toNat bg) j)):MI).2.1.2.length <= u.2.length+3:=fun v hv=>by
   cases (y5 ((j4 u (0,2,j.1,0,0,0)).1.2.2.1.getD j.1.toNat bg) j).2.2.2.2.1.2.2.2 with
   | false=>rw [cond_false];show v.2.length <= _;omega
   | true=>rw [cond_true];have:=akN v (y5 ((j4 u (0,2,j.1,0,0,0)).1.2.2.1.getD j.1.toNat bg) j);omega
  have h1:(j4 u (0,2,j.1,0,0,0)).2.length=u.2.length+1:=by simp [j4]
  cases x.1==9 with
  | true=>exact fin _ h1
  | false=>cases x.1==10 with
   | true=>exact fin _ h1
   | false=>exact fin _ h1
theorem YT {k:Nat} {K:jd} (h:KW K):(lu k K).2.length <= 100003:=by
 unfold lu
 cases hc:K.2.2.2.2.1&&!K.2.2.2.2.2.1 with
 | false=>simp
 | true =>
  rw [Bool.and_eq_true] at hc
  have he:=((h.kj hc.1).ahead k).ev
  rw [cond_true]
  show (zm k (oo k K)).2.length <= _
  unfold zm
  cases (oo k K).1.2.2.2.2.2.1||(oo k K).1.2.2.2.2.2.2.2.1.isEmpty with
  | true=>rw [cond_true];omega
  | false =>
   rw [cond_false]
   have:=anz k (oo k K) ((oo k K).1.2.2.2.2.2.2.2.1.getD (I6 (oo k K).1.2.2.2.2.2.2.2.1 ((oo k K).1.2.2.1.length:Int) (j6 (oo k K).1.2.2.2.2.2.2.2.2.1)) ay)
   simp only;omega
noncomputable def qy (k:Nat):Nat -> jd×List je -> jd×List je
 | 0,s=>s
 | n+1,s=>qy k n ((lu k s.1).1,s.2++(lu k s.1).2)
theorem abK {k:Nat}:∀ (n:Nat) (s:jd×List je),KW s.1 -> KW (qy k n s).1 /\ (qy k n s).2.length <= s.2.length+100003 * n
 | 0,s,h=>⟨h,Nat.le_refl _⟩
 | n+1,s,h=>by
  have h1:=(FT (k:=k) h).1
  have h2:=YT (k:=k) h
  obtain ⟨a,b⟩:=abK n ((lu k s.1).1,s.2++(lu k s.1).2) h1
  exact ⟨a,by rw [qy];simp only [List.length_append] at b;omega⟩
noncomputable def K6 (k:Nat) (K:jd) (s:Stp):CR :=
 bif s.1==1 then zo k K s.2.1
 else bif s.1==2 then ((lu k K).1,(lu k K).2,0,(0,0),0)
 else bif s.1==3 then err (w6 K true) 0
 else bif s.1==4 then (bif ED K.2.2.2.2.2.2.2.2.1 s.2.2.1 then err (yt K (abg K.2.2.2.2.2.2.2.2.1 s.2.2.1)) 0 else err K 3)
 else bif s.1==5 then (bif decide (s.2.2.2<0)||decide (s.2.2.2>10000) then err K 1 else ((qy k s.2.2.2.toNat (K,[])).1,(qy k s.2.2.2.toNat (K,[])).2,0,(0,0),0))
 else err K 1
theorem anA {k:Nat} {K:jd} (h:KW K) (c:Cl):(zo k K c).2.1.length <= 300:=by
 have hT:=h.tab
 have z:∀ e:Int,(err K e).2.1.length <= 300:=fun e=>by simp [err]
 have mk:(zn k K c).2.1.length <= 300:=by
  unfold zn
  cases (c.1==2)&&K.2.2.2.2.1 with
  | true=>exact z 7
  | false=>cases (BD k K.2.2.2.2.2.2.2.2.1 (c.1 - 1)).2.2 <;> simp [err]
 unfold zo
 cases c.1==1 with
 | true =>
  simp only [cond_true]
  unfold KT
  cases K.2.2.2.2.1 with
  | true=>exact z 7
  | false=>cases (inT K.2.2.1 c.2.1 K.2.1).2.2==0 <;> simp [err]
 | false =>
 cases c.1==2 with
 | true=>exact mk
 | false =>
 cases c.1==3 with
 | true=>exact mk
 | false =>
 cases c.1==4 with
 | true=>exact mk
 | false =>
 cases c.1==5 with
 | true =>
  simp only [cond_true,cond_false]
  unfold IB
  cases (uf k K).2==0 <;> simp [err]
 | false =>
 cases c.1==6 with
 | true =>
  simp only [cond_true,cond_false]
  unfold ant
  rcases JE h.MQ c.2.2.2.1 c.2.2.2.2.1 with ⟨_,e,_⟩ | ⟨_,_,_,_,n,_,_,_,_,q | q⟩
  ·simp only;rw [e];simp
  ·simp only;rw [q.2.2];simp
  ·simp only;rw [q.2.2.2];simp
 | false =>
 cases c.1==7 with
 | true =>
  simp only [cond_true,cond_false]
  unfold UO
  dsimp only
  cases !MO K.2.2.2.2.2.2.2.2.1 c.2.2.1 2 with
  | true=>exact z 3
  | false =>
   rw [cond_false]
   cases !(BI (rd K.2.2.2.2.2.2.2.2.1.2 c.2.2.1.1 j5).2.2.2.1 c.2.2.2.2.1).2.2 with
   | true=>exact z 4
   | false=>cases decide ((BI (rd K.2.2.2.2.2.2.2.2.1.2 c.2.2.1.1 j5).2.2.2.1 c.2.2.2.2.1).2.1>0) <;> simp
 | false =>
 cases c.1==8 with
 | true =>
  simp only [cond_true,cond_false]
  unfold UQ
  dsimp only
  cases !MO K.2.2.2.2.2.2.2.2.1 c.2.2.1 2 with
  | true=>exact z 3
  | false=>cases !(takeB (rd K.2.2.2.2.2.2.2.2.1.2 c.2.2.1.1 j5).2.2.2.1 c.2.2.2.1).2.2.2 <;> simp [err]
 | false =>
 cases c.1==9 with
 | true =>
  simp only [cond_true,cond_false]
  unfold KU
  dsimp only
  cases hx:MO K.2.2.2.2.2.2.2.2.1 c.2.2.1 3 with
  | false=>exact z 3
  | true =>
   have hp:=(KY (FU hT hx).2.2 c.2.2.2.2.2).2
   simp only [Bool.not_true,cond_false,abI,List.length_map];omega
 | false =>
 cases c.1==10 with
 | true =>
  simp only [cond_true,cond_false]
  unfold KV
  dsimp only
  cases !MO K.2.2.2.2.2.2.2.2.1 c.2.2.1 3 with
  | true=>exact z 3
  | false=>cases !(BP (rd K.2.2.2.2.2.2.2.2.1.2 c.2.2.1.1 j5).2.2.2.2.1 c.2.2.2.1 c.2.2.2.2.2).2.2 <;> simp [err]
 | false =>
 cases c.1==11 with
 | true =>
  simp only [cond_true,cond_false]
  unfold UR
  dsimp only
  cases hx:acN K.2.2.2.2.2.2.2.2.1 c.2.2.1 with
  | false=>exact z 3
  | true =>
   unfold acN DK at hx
   simp only [Bool.and_eq_true] at hx
   obtain ⟨h0,h1,h2⟩:=DJ hx.1.2
   have hs:=hT.2 _ (OC h0 h1)
   simp only [Bool.not_true,cond_false,List.length_map]
   unfold xq
   rw [List.length_append,List.length_map];have:=hs.2.1;have:=hs.2.2;omega
 | false=>exact z 1
theorem agj {k:Nat} {K:jd} (h:KW K) {s:Stp} (hs:SW s):KW (K6 k K s).1 /\ (K6 k K s).2.1.length <= 1000030000:=by
 have z:KW K /\ (0:Nat) <= 1000030000:=⟨h,by omega⟩
 unfold K6
 cases s.1==1 with
 | true=>exact ⟨agi h ⟨hs.light,hs.arg⟩,by have:=anA (k:=k) h s.2.1;simp only [cond_true];omega⟩
 | false =>
 cases s.1==2 with
 | true=>exact ⟨(FT h).1,by have:=YT (k:=k) h;simp only [cond_true,cond_false];omega⟩
 | false =>
 cases s.1==3 with
 | true=>exact ⟨⟨h.EK,h.task,h.bnd,h.tab,h.job,h.MQ,h.row,h.off⟩,by simp [err]⟩
 | false =>
 cases s.1==4 with
 | true =>
  simp only [cond_true,cond_false]
  cases ED K.2.2.2.2.2.2.2.2.1 s.2.2.1 with
  | true=>exact ⟨h.yt (afP h.tab),by simp [err]⟩
  | false=>exact ⟨h,by simp [err]⟩
 | false =>
 cases s.1==5 with
 | true =>
  simp only [cond_true,cond_false]
  cases hn:decide (s.2.2.2<0)||decide (s.2.2.2>10000) with
  | true=>exact ⟨h,by simp [err]⟩
  | false =>
   rw [Bool.or_eq_false_iff] at hn
   have n1:=of_decide_eq_false hn.1
   have n2:=of_decide_eq_false hn.2
   obtain ⟨a,b⟩:=abK (k:=k) s.2.2.2.toNat (K,[]) h
   exact ⟨a,by simp only [cond_false];simp only [List.length_nil] at b;omega⟩
 | false=>exact ⟨h,by simp [err]⟩
theorem abL {k:Nat} (hk:20000 <= k) {b c:Int} {e f g:Bool} {i l m n o p s t:Int} {N:Nat} (hN:N <= 10000):∀ (d x j:Nat) (K:jd) (ev:List je),x+d=N -> d<j -> KW K -> ev.length <= 100003 * x ->
  Ye k j K b c e f g i l m n o p s t ev (N:Int) (x:Int)=some (((qy k d (K,ev)).1,(qy k d (K,ev)).2,(o,(p,s),t),()),())
 | 0,x,j,K,ev,hx,hj,h,he=>by
  obtain ⟨j,rfl⟩:∃ i,j=i+1:=⟨j - 1,by omega⟩
  rw [aaR,Yd,Sd (by omega),BJ (by omega) h,Option.bind_some]
  rfl
 | d+1,x,j,K,ev,hx,hj,h,he=>by
  obtain ⟨j,rfl⟩:∃ i,j=i+1:=⟨j - 1,by omega⟩
  have h2:=YT (k:=k) h
  rw [aaR,Yd,Sc (by omega),agf (by omega) h,Option.bind_some]
  simp only
  rw [Rz (by omega),Mi (by omega),qy]
  exact abL hk hN d (x+1) j (lu k K).1 (ev++(lu k K).2) (by omega) (by omega) (FT h).1 (by rw [List.length_append];omega)
theorem apP {k:Nat} (hk:20000 <= k) {K:jd} (h:KW K) {s:Stp} (hs:SW s):S45 k K s=some (((K6 k K s).1,(K6 k K s).2.1,(K6 k K s).2.2,()),()):=by
 have hk1:1000 <= k:=by omega
 unfold S45 K6
 cases s.1==1 with
 | true =>
  rw [cond_true,cond_true,apO hk h ⟨hs.light,hs.arg⟩,Option.bind_some]
 | false =>
 cases s.1==2 with
 | true=>simp only [cond_true,cond_false];rw [agf hk1 h,Option.bind_some]
 | false =>
 cases s.1==3 with
 | true =>
  simp only [cond_true,cond_false]
  rw [BJ hk1 (K:=w6 K true) ⟨h.EK,h.task,h.bnd,h.tab,h.job,h.MQ,h.row,h.off⟩,Option.bind_some];rfl
 | false =>
 cases s.1==4 with
 | true =>
  simp only [cond_true,cond_false]
  rw [amu hk1 h.tab,Option.bind_some]
  simp only
  cases ED K.2.2.2.2.2.2.2.2.1 s.2.2.1 with
  | true =>
   have e:=BJ hk1 (h.yt (afP (i:=s.2.2.1) h.tab))
   simp only [Bool.not_true,cond_false,cond_true]
   refine (congrArg (fun x=>Option.bind x _) e).trans ?_
   rfl
  | false=>simp only [Bool.not_false,cond_true,cond_false];rw [BJ hk1 h,Option.bind_some];rfl
 | false =>
 cases s.1==5 with
 | true =>
  simp only [cond_true,cond_false]
  by_cases n1:s.2.2.2<0
  ·rw [Sc n1,decide_eq_true n1,BJ hk1 h,Option.bind_some];rfl
  ·rw [Sd n1,decide_eq_false n1,Bool.false_or]
   by_cases n2:s.2.2.2>10000
   ·rw [Sc n2,Sc n2,BJ hk1 h,Option.bind_some];rfl
   ·rw [Sd n2,Sd n2]
    have e:=abL (k:=k) hk (b:=0) (c:=0) (e:=false) (f:=false) (g:=false) (i:=0) (l:=0) (m:=0) (n:=0) (o:=0) (p:=0) (s:=0) (t:=0) (N:=s.2.2.2.toNat) (by omega) s.2.2.2.toNat 0 k K [] (by omega) (by omega) h (by simp)
    rw [show ((s.2.2.2.toNat:Nat):Int)=s.2.2.2 by omega] at e
    exact e
 | false=>simp only [cond_false];rw [BJ hk1 h,Option.bind_some];rfl
noncomputable def qg (k:Nat):List Stp -> jd×List je×List Rly -> jd×List je×List Rly
 | [],r=>r
 | s::l,r=>qg k l ((K6 k r.1 s).1,r.2.1++(K6 k r.1 s).2.1,r.2.2++[(K6 k r.1 s).2.2])
theorem abM {k:Nat}:∀ (l:List Stp) (r:jd×List je×List Rly),(∀ s∈l,SW s) -> KW r.1 -> KW (qg k l r).1 /\ (qg k l r).2.1.length <= r.2.1.length+1000030000 * l.length /\ (qg k l r).2.2.length=r.2.2.length+l.length
 | [],r,_,h=>⟨h,by simp [qg],by simp [qg]⟩
 | s::l,r,hl,h=>by
  obtain ⟨g1,g2⟩:=agj (k:=k) h (hl s (by simp))
  obtain ⟨a,b,c⟩:=abM l ((K6 k r.1 s).1,r.2.1++(K6 k r.1 s).2.1,r.2.2++[(K6 k r.1 s).2.2]) (fun x hx=>hl x (by simp [hx])) g1
  refine ⟨a,?_,?_⟩
  ·rw [qg];simp only [List.length_append,List.length_cons] at b ⊢;omega
  ·rw [qg];simp only [List.length_append,List.length_cons,List.length_nil] at c ⊢;omega
def aqR:Tb:=newT
def Vg (ap:Int):jd:=(0,ap,[],[],false,false,false,[],aqR,[],[])
theorem apQ (k:Nat) {ap:Int} (h1:1 <= ap) (h2:ap <= 4611686018427387904):S36 k ap=some ((Vg ap,true,()),()):=by
 unfold S36
 rw [Sd (by omega),Sd (by omega)]
 rfl
theorem acO (ap:Int):KW (Vg ap):=⟨by simp [Vg],(fun t h=>by simp [Vg] at h),rfl,amC,(fun j h=>by simp [Vg] at h),List.Pairwise.nil,(fun h=>by simp [Vg] at h),fun _=>⟨rfl,rfl,rfl⟩⟩
theorem akO {k:Nat} (hk:20000 <= k) {l:List Stp} (hl:l.length <= 1000) (hs:∀ s∈l,SW s):∀ (m i j:Nat) (r:jd×List je×List Rly),i+m=l.length -> m<j -> KW r.1 -> r.2.1.length <= 1000030000 * i -> r.2.2.length <= i ->
  ae1 k j r.1 r.2.1 r.2.2 l (l.length:Int) (i:Int)=some (((qg k (l.drop i) r).1,(qg k (l.drop i) r).2.1,(qg k (l.drop i) r).2.2,true,()),())
 | 0,i,j,r,hi,hj,h,h1,h2=>by
  obtain ⟨j,rfl⟩:∃ i,j=i+1:=⟨j - 1,by omega⟩
  rw [ae2,ae0,Sd (by omega),drop_nil (by omega)]
  rfl
 | m+1,i,j,r,hi,hj,h,h1,h2=>by
  obtain ⟨j,rfl⟩:∃ i,j=i+1:=⟨j - 1,by omega⟩
  have hi':i<l.length:=by omega
  have hsw:=hs _ (jm (z:=bq) hi')
  obtain ⟨g1,g2⟩:=agj (k:=k) h hsw
  rw [ae2,ae0,Sc (by omega),Qo hi',Qp,apP hk h hsw,Option.bind_some]
  simp only
  rw [Rz (by omega),Rz (by simp only [List.length_cons,List.length_nil];omega),Mi (by omega),drop_cons bq hi',qg]
  exact akO hk hl hs m (i+1) j ((K6 k r.1 (l.getD i bq)).1,r.2.1++(K6 k r.1 (l.getD i bq)).2.1,r.2.2++[(K6 k r.1 (l.getD i bq)).2.2]) (by omega) (by omega) g1 (by simp only [List.length_append];omega) (by simp only [List.length_append,List.length_cons,List.length_nil];omega)
noncomputable def xu (k:Nat) (ap:Int) (l:List Stp):jd×List je×List Rly:=qg k l (Vg ap,[],[])
theorem apR {k:Nat} (hk:20000 <= k) {ap:Int} (h1:1 <= ap) (h2:ap <= 4611686018427387904) {l:List Stp} (hl:l.length <= 1000) (hs:∀ s∈l,SW s):S19 k ap l=some (((xu k ap l).1,(xu k ap l).2.1,(xu k ap l).2.2,true,()),()):=by
 unfold S19
 rw [apQ k h1 h2,Option.bind_some]
 have:=akO hk hl hs l.length 0 k (Vg ap,[],[]) (by omega) (by omega) (acO ap) (by simp) (by simp)
 rw [List.drop_zero] at this
 exact this
theorem apS {k:Nat} {ap:Int} {l:List Stp} (hs:∀ s∈l,SW s):KW (xu k ap l).1 /\ (xu k ap l).2.1.length <= 1000030000 * l.length /\ (xu k ap l).2.2.length=l.length:=by
 have:=abM (k:=k) l (Vg ap,[],[]) hs (acO ap)
 unfold xu
 simpa using this
theorem apT {k:Nat} (hk:20000 <= k):S15 k=some ((true,()),()):=by
 obtain ⟨k,rfl⟩:∃ m,k=m+20000:=⟨k - 20000,by omega⟩
 kernel_rfl
theorem agk (k:Nat) (p:List Int):S16 k p=some (((p,0,()),()),()):=rfl
theorem apU {e:TypeId} {k:Nat} (hk:1000 <= k) {p:List Int} (hp:Ty.fine (.sl e (.int .u8)) p) (h:p.length <= 1000):∃ (l:List Stp) (n:Int),S17 k p 0=some ((l,()),(p,n,()),()) /\ (∀ s∈l,SW s) /\ l.length <= 10:=by
 obtain ⟨l,n,e,_,h1,h2⟩:=akF hk (aa4 hp h)
 exact ⟨l,n,e,h1,h2⟩
theorem anB {e:TypeId} {k:Nat} (hk:1000 <= k) {p:List Int} (hp:Ty.fine (.sl e (.int .u8)) p) (h:p.length <= 1000) {c:Nat} (hc:c <= 500):∃ (l:List Stp) (n:Int),S18 k p 0 (c:Int)=some ((l,()),(p,n,()),()) /\ (∀ s∈l,SW s) /\ l.length <= 10+c:=by
 obtain ⟨l,n,e,_,h1,h2⟩:=apN hk (aa4 hp h) hc
 exact ⟨l,n,e,h1,h2⟩
abbrev ahp (j:jc):List Int:=j.2.2.2.2.2.2.1
def HL (l:List jf) (js:List jc):Prop:=∀ s:Nat,s<l.length -> (l.getD s s0).2≠0 -> ∃ j∈js,j.1+1=(l.getD s s0).2 /\ (s:Int)∈ahp j
def FR (T:Tb):Prop:=∀ i,T.1.2.getD i false=false -> (T.2.getD i j5).1≠1
def OP (js:List jc):Prop:=∀ j∈js,j.2.2.2.1=2 -> ahp j=[]
structure HK (T:Tb) (js:List jc):Prop where
 fr:FR T
 hl:HL (j6 T) js
 op:OP js
theorem akP {l:List jf} {t:Int} (ht:0 <= t) {s:Nat} (h:s<l.length):((MF l t).getD s s0).2=if (l.getD s s0).2=t+1 then 0 else (l.getD s s0).2:=by
 unfold MF
 rw [ML (f:=acG t) s0 s0 h]
 unfold acG
 rw [decide_eq_true ht,Bool.true_and]
 by_cases e:(l.getD s s0).2=t+1
 ·rw [if_pos e,show ((l.getD s s0).2==t+1)=true from beq_iff_eq.2 e];rfl
 ·rw [if_neg e,beq_eq_false_iff_ne.2 e];rfl
theorem HL.all {l:List jf} {js js2:List jc} (h:HL l js) {t:Int} (ht:0 <= t) (hs:∀ j∈js,j.1≠t -> j∈js2):HL (MF l t) js2:=by
 intro s hl hne
 rw [YK] at hl
 rw [akP ht hl] at hne ⊢
 by_cases e:(l.getD s s0).2=t+1
 ·rw [if_pos e] at hne;exact absurd rfl hne
 ·rw [if_neg e] at hne ⊢
  obtain ⟨j,hj,e1,e2⟩:=h s hl hne
  exact ⟨j,hs j hj (by omega),e1,e2⟩
theorem HL.same {l l2:List jf} {js js2:List jc} (h:HL l js) (hlen:l2.length=l.length) (he:∀ s,s<l.length -> (l2.getD s s0).2=(l.getD s s0).2) (hs:∀ j∈js,∀ x∈ahp j,∃ j2∈js2,j2.1=j.1 /\ x∈ahp j2):HL l2 js2:=by
 intro s hl hne
 rw [hlen] at hl
 rw [he s hl] at hne ⊢
 obtain ⟨j,hj,e1,e2⟩:=h s hl hne
 obtain ⟨j2,q1,q2,q3⟩:=hs j hj _ e2
 exact ⟨j2,q1,by rw [q2];exact e1,q3⟩
theorem HK.map {T:Tb} {js:List jc} (h:HK T js) {f:jc -> jc} (hf:∀ j,(f j).1=j.1 /\ (f j).2.2.2.1=j.2.2.2.1 /\ ahp (f j)=ahp j):HK T (js.map f):=by
 refine ⟨h.fr,h.hl.same rfl (fun _ _=>rfl) (fun x hx y hy=>⟨f x,List.mem_map.2 ⟨x,hx,rfl⟩,(hf x).1,by rw [(hf x).2.2];exact hy⟩),fun j hj h2=>?_⟩
 obtain ⟨x,hx,rfl⟩:=List.mem_map.1 hj
 rw [(hf x).2.1] at h2
 rw [(hf x).2.2];exact h.op x hx h2
theorem set_self {js:List jc} {i:Nat} {y:jc} (h:i<js.length):y∈js.set i y:=List.mem_iff_getElem.2 ⟨i,by rw [List.length_set];exact h,by simp⟩
theorem ahq {js:List jc} {i b:Nat} {y:jc} (hb:b<js.length) (hne:b≠i):js.getD b ay∈js.set i y:=by
 have e:(js.set i y).getD b ay=js.getD b ay:=by rw [mh,if_neg (fun q=>hne q.1.symm)]
 rw [<- e];exact jm (by rw [List.length_set];exact hb)
def abO (js:List jc) (i:Nat) (r:MI):List jc:=bif r.1 then js.take i++js.drop (i+1) else js.set i r.2.2
structure CS where
 at_:Int -> Int
 on:Int -> Bool
 inn:Int -> Int
 out:Int -> Int
 tu:Int -> Bool
def BK {α:Type} (f:Int -> α) (i:Int) (v:α):Int -> α:=fun x=>if x=i then v else f x
def vv (σ:CS) (e:je):CS :=
 if e.2.1=1 then ⟨BK σ.at_ e.2.2.1 e.1,BK σ.on e.2.2.1 true,BK σ.inn e.2.2.1 e.2.2.2.2.1,σ.out,BK σ.tu e.2.2.1 false⟩
 else if e.2.1=3 then ⟨σ.at_,BK σ.on e.2.2.1 false,σ.inn,BK σ.out e.2.2.1 e.2.2.2.2.1,σ.tu⟩
 else if e.2.1=4 then ⟨σ.at_,σ.on,σ.inn,BK σ.out e.2.2.1 e.2.2.2.2.1,σ.tu⟩
 else if e.2.1=5 then ⟨σ.at_,BK σ.on e.2.2.1 false,σ.inn,σ.out,σ.tu⟩
 else if e.2.1=7 then ⟨σ.at_,σ.on,σ.inn,σ.out,BK σ.tu e.2.2.1 true⟩
 else σ
def aqS (l:List I4) (a n:Int):Prop:=GI a /\ ∃ fin:Mem,abD l a fin /\ n=fin.1
abbrev JK (F:List iw) (i:Int):Int:=(F.getD i.toNat bg).2.2.1
structure OK1 (F:List iw) (p:Option je) (σ:CS) (e:je):Prop where
 ti:0 <= e.1 /\ e.1 <= 1000000000000 /\ ∀ q,p=some q -> q.1 <= e.1
 tk:0 <= e.2.2.1 /\ e.2.2.1<8
 rel:e.2.1=1 -> σ.on e.2.2.1=false
 len:e.2.1=3 \/ e.2.1=4 \/ e.2.1=5 \/ e.2.1=7 \/ e.2.1=8 -> e.2.2.1<(F.length:Int)
 don:e.2.1=3 -> σ.on e.2.2.1=true /\ 0 <= σ.at_ e.2.2.1 /\ σ.at_ e.2.2.1 <= e.1 /\ e.1<σ.at_ e.2.2.1+JK F e.2.2.1 /\ aqS (bif σ.tu e.2.2.1 then (F.getD e.2.2.1.toNat bg).2.2.2.2.1 else (F.getD e.2.2.1.toNat bg).2.2.2.1) (σ.inn e.2.2.1) e.2.2.2.2.1
 bet:e.2.1=4 -> aqS (F.getD e.2.2.1.toNat bg).2.2.2.2.2 (σ.out e.2.2.1) e.2.2.2.2.1
 mis:e.2.1=5 -> σ.on e.2.2.1=true /\ 0 <= σ.at_ e.2.2.1 /\ e.1=σ.at_ e.2.2.1+JK F e.2.2.1
 tur:e.2.1=7 -> σ.tu e.2.2.1=false /\ (F.getD e.2.2.1.toNat bg).2.2.2.2.1≠[]
 fre:e.2.1=8 -> σ.tu e.2.2.1=false /\ (F.getD e.2.2.1.toNat bg).2.2.2.2.1≠[] /\ ∃ q,p=some q /\ q.2.1=3 /\ q.2.2.1=e.2.2.1
def OKs (F:List iw):Option je -> CS -> List je -> Prop
 | _,_,[]=>True
 | p,σ,e::l=>OK1 F p σ e /\ OKs F (some e) (vv σ e) l
def UY:Option je -> List je -> Option je
 | p,[]=>p
 | _,e::l=>UY (some e) l
theorem YU {F:List iw}:∀ (l l2:List je) (p:Option je) (σ:CS),OKs F p σ l -> OKs F (UY p l) (l.foldl vv σ) l2 -> OKs F p σ (l++l2)
 | [],l2,p,σ,_,h=>h
 | e::l,l2,p,σ,h,h2=>⟨h.1,YU l l2 _ _ h.2 h2⟩
def PA (p:Option je) (now:Int):Prop:=∀ q,p=some q -> q.1 <= now
theorem UZ {now:Int}:∀ (l:List je) (p:Option je),PA p now -> (∀ e∈l,e.1=now) -> PA (UY p l) now
 | [],p,h,_=>h
 | e::l,p,h,he=>UZ l (some e) (fun q hq=>by injection hq with hq;rw [<- hq,he e (by simp)];exact Int.le_refl _) (fun x hx=>he x (by simp [hx]))
structure LG (F:List iw) (now:Int) (σ:CS) (l:List je) (σ2:CS):Prop where
 ok:∀ p,PA p now -> OKs F p σ l
 en:l.foldl vv σ=σ2
 at_:∀ e∈l,e.1=now
theorem LG.nil {F:List iw} {now:Int} (σ:CS):LG F now σ [] σ:=⟨fun _ _=>trivial,rfl,fun e h=>by cases h⟩
theorem LG.app {F:List iw} {now:Int} {σ σ2 σ3:CS} {l l2:List je} (h:LG F now σ l σ2) (h2:LG F now σ2 l2 σ3):LG F now σ (l++l2) σ3 :=
 ⟨fun p hp=>YU l l2 p σ (h.ok p hp) (by rw [h.en];exact h2.ok _ (UZ l p hp h.at_)),by rw [List.foldl_append,h.en,h2.en],fun e he=>by
  rcases List.mem_append.1 he with q | q
  ·exact h.at_ e q
  ·exact h2.at_ e q⟩
def apW (e:je):Prop:=e.2.1≠1 /\ e.2.1≠3 /\ e.2.1≠4 /\ e.2.1≠5 /\ e.2.1≠7 /\ e.2.1≠8
theorem anC {σ:CS} {e:je} (h:apW e):vv σ e=σ:=by
 obtain ⟨a,b,c,d,f,_⟩:=h
 unfold vv
 rw [if_neg a,if_neg b,if_neg c,if_neg d,if_neg f]
def NW (now:Int):Prop:=0 <= now /\ now <= 1000000000000
theorem LG.neu {F:List iw} {now:Int} (hn:NW now) {σ:CS}:∀ (l:List je),(∀ e∈l,apW e /\ e.1=now /\ 0 <= e.2.2.1 /\ e.2.2.1<8) -> LG F now σ l σ
 | [],_=>LG.nil σ
 | e::l,h=>by
  have ih:=LG.neu (F:=F) hn (σ:=σ) l (fun x hx=>h x (by simp [hx]))
  obtain ⟨⟨a,b,c,d,f,g⟩,e1,e2,e3⟩:=h e (by simp)
  have hu:=anC (σ:=σ) (h e (by simp)).1
  refine ⟨fun p hp=>⟨⟨⟨by rw [e1];exact hn.1,by rw [e1];exact hn.2,fun q hq=>by rw [e1];exact hp q hq⟩,⟨e2,e3⟩,fun q=>absurd q a,fun q=>by omega,fun q=>absurd q b,fun q=>absurd q c,fun q=>absurd q d,fun q=>absurd q f,fun q=>absurd q g⟩,?_⟩,?_,fun x hx=>(h x hx).2.1⟩
  ·rw [hu];exact ih.ok _ (fun q hq=>by injection hq with hq;rw [<- hq,e1];exact Int.le_refl _)
  ·rw [List.foldl_cons,hu];exact ih.en
theorem LG.one {F:List iw} {now:Int} {σ:CS} {e:je} (he:e.1=now) (h:∀ p,PA p now -> OK1 F p σ e):LG F now σ [e] (vv σ e):=⟨fun p hp=>⟨h p hp,trivial⟩,rfl,fun x hx=>by rw [List.mem_singleton] at hx;rw [hx];exact he⟩
def jh (σ σ2:CS) (i:Int):Prop:=∀ x,x≠i -> σ2.at_ x=σ.at_ x /\ σ2.on x=σ.on x /\ σ2.inn x=σ.inn x /\ σ2.out x=σ.out x /\ σ2.tu x=σ.tu x
theorem jh.refl (σ:CS) (i:Int):jh σ σ i:=fun _ _=>⟨rfl,rfl,rfl,rfl,rfl⟩
theorem V3 (σ:CS) (e:je):jh σ (vv σ e) e.2.2.1:=fun x hx=>by
 have p:∀ {α:Type} (f:Int -> α) (v:α),BK f e.2.2.1 v x=f x:=fun f v=>if_neg hx
 unfold vv
 split
 ·exact ⟨p _ _,p _ _,p _ _,rfl,p _ _⟩
 ·split
  ·exact ⟨rfl,p _ _,rfl,p _ _,rfl⟩
  ·split
   ·exact ⟨rfl,rfl,rfl,p _ _,rfl⟩
   ·split
    ·exact ⟨rfl,p _ _,rfl,rfl,rfl⟩
    ·split
     ·exact ⟨rfl,rfl,rfl,rfl,p _ _⟩
     ·exact ⟨rfl,rfl,rfl,rfl,rfl⟩
structure J2 (F:List iw) (σ:CS) (now a:Int) (j:jc):Prop where
 jw:JW F a j
 ar:GI a
 t0:0 <= j.2.1 /\ j.2.1 <= now
 act:j.2.2.2.1≠2 -> σ.on j.1=true /\ σ.at_ j.1=j.2.1 /\ σ.inn j.1=a /\ σ.tu j.1=(j.2.2.2.1==1)
 opt:j.2.2.2.1=2 -> σ.out j.1=a
structure IV (F:List iw) (σ:CS) (now:Int) (js:List jc):Prop where
 job:∀ j∈js,∃ a,J2 F σ now a j
 on:∀ i,σ.on i=true -> ∃ j∈js,j.1=i /\ j.2.2.2.1≠2
def DL (F:List iw) (now d:Int) (js:List jc):Prop:=∀ j∈js,j.2.2.2.1≠2 -> now+d <= j.2.1+JK F j.1
theorem J2.ag {F:List iw} {σ σ2:CS} {now a i:Int} {j:jc} (h:J2 F σ now a j) (hg:jh σ σ2 i) (hi:j.1≠i):J2 F σ2 now a j:=by
 obtain ⟨e1,e2,e3,e4,e5⟩:=hg _ hi
 exact ⟨h.jw,h.ar,h.t0,fun q=>by rw [e1,e2,e3,e5];exact h.act q,fun q=>by rw [e4];exact h.opt q⟩
theorem J2.same {F:List iw} {σ:CS} {now a:Int} {j j2:jc} (h:J2 F σ now a j) (hw:JW F a j2) (e1:j2.1=j.1) (e2:j2.2.1=j.2.1) (e3:j2.2.2.2.1=j.2.2.2.1):J2 F σ now a j2 :=
 ⟨hw,h.ar,by rw [e2];exact h.t0,by rw [e1,e2,e3];exact h.act,by rw [e1,e3];exact h.opt⟩
theorem IV.rem {F:List iw} {σ σ2:CS} {now i:Int} {js js2:List jc} (h:IV F σ now js) (hg:jh σ σ2 i) (hoff:σ2.on i=false) (h1:∀ x∈js2,x∈js /\ x.1≠i) (h2:∀ x∈js,x.1≠i -> x∈js2):IV F σ2 now js2:=by
 refine ⟨fun j hj=>?_,fun x hx=>?_⟩
 ·obtain ⟨q1,q2⟩:=h1 j hj
  obtain ⟨a,ha⟩:=h.job j q1
  exact ⟨a,ha.ag hg q2⟩
 ·have hne:x≠i:=fun e=>by rw [e,hoff] at hx;cases hx
  rw [(hg x hne).2.1] at hx
  obtain ⟨j,hj,q1,q2⟩:=h.on x hx
  exact ⟨j,h2 j hj (by rw [q1];exact hne),q1,q2⟩
theorem IV.put {F:List iw} {σ σ2:CS} {now i:Int} {js js2:List jc} {y:jc} (h:IV F σ now js) (hg:jh σ σ2 i) (hy:y.1=i) (hj2:∃ a,J2 F σ2 now a y) (hon:σ2.on i=true -> y.2.2.2.1≠2) (h1:∀ x∈js2,x=y \/ (x∈js /\ x.1≠i)) (h2:∀ x∈js,x.1≠i -> x∈js2) (h3:y∈js2):IV F σ2 now js2:=by
 refine ⟨fun j hj=>?_,fun x hx=>?_⟩
 ·rcases h1 j hj with q | ⟨q1,q2⟩
  ·rw [q];exact hj2
  ·obtain ⟨a,ha⟩:=h.job j q1
   exact ⟨a,ha.ag hg q2⟩
 ·by_cases e:x=i
  ·exact ⟨y,h3,by rw [hy,e],hon (by rw [<- e];exact hx)⟩
  ·rw [(hg x e).2.1] at hx
   obtain ⟨j,hj,q1,q2⟩:=h.on x hx
   exact ⟨j,h2 j hj (by rw [q1];exact e),q1,q2⟩
theorem WS {js:List jc} (hr:rising js) {x y:jc} (hx:x∈js) (hy:y∈js) (e:x.1=y.1):x=y:=by
 obtain ⟨a,ha,ea⟩:=u7 ay hx
 obtain ⟨b,hb,eb⟩:=u7 ay hy
 by_cases q:a=b
 ·rw [<- ea,<- eb,q]
 ·exact absurd (by rw [ea,eb];exact e) (OL hr ha hb q)
theorem IV.off {F:List iw} {σ:CS} {now:Int} {js:List jc} (h:IV F σ now js) (hr:rising js) {j:jc} (hj:j∈js) (hp:j.2.2.2.1=2):σ.on j.1=false:=by
 cases ho:σ.on j.1 with
 | false=>rfl
 | true =>
  obtain ⟨x,hx,e1,e2⟩:=h.on _ ho
  rw [WS hr hx hj e1] at e2
  exact absurd hp e2
theorem acP {x y:List jc} {j:jc} (hr:rising (x++j::y)):(∀ z∈x++y,z∈x++j::y /\ z.1≠j.1) /\ (∀ z∈x++j::y,z.1≠j.1 -> z∈x++y):=by
 refine ⟨fun z hz=>?_,fun z hz hne=>?_⟩
 ·have hm:z∈x++j::y:=by
   rcases List.mem_append.1 hz with q | q
   ·exact List.mem_append.2 (.inl q)
   ·exact List.mem_append.2 (.inr (List.mem_cons_of_mem _ q))
  refine ⟨hm,?_⟩
  unfold rising at hr
  rw [List.pairwise_append,List.pairwise_cons] at hr
  rcases List.mem_append.1 hz with q | q
  ·have:=hr.2.2 z q j List.mem_cons_self;omega
  ·have:=hr.2.1.1 z q;omega
 ·rcases List.mem_append.1 hz with q | q
  ·exact List.mem_append.2 (.inl q)
  ·rcases List.mem_cons.1 q with q | q
   ·rw [q] at hne;exact absurd rfl hne
   ·exact List.mem_append.2 (.inr q)
theorem apX {js:List jc} (hr:rising js) {i:Nat} (hi:i<js.length) {y:jc}:(∀ z∈js.set i y,z=y \/ (z∈js /\ z.1≠(js.getD i ay).1)) /\ (∀ z∈js,z.1≠(js.getD i ay).1 -> z∈js.set i y):=by
 refine ⟨fun z hz=>?_,fun z hz hne=>?_⟩
 ·obtain ⟨b,hb,eb⟩:=u7 ay hz
  rw [List.length_set] at hb
  rw [mh] at eb
  by_cases q:i=b
  ·rw [if_pos ⟨q,by omega⟩] at eb;exact .inl eb.symm
  ·rw [if_neg (fun z=>q z.1)] at eb
   refine .inr ⟨by rw [<- eb];exact jm hb,?_⟩
   rw [<- eb];exact OL hr hb hi (fun e=>q e.symm)
 ·obtain ⟨b,hb,eb⟩:=u7 ay hz
  rw [<- eb]
  exact ahq hb (fun e=>hne (by rw [<- eb,e]))
theorem apY {js:List jc} (hr:rising js) {i:Nat} (hi:i<js.length):(∀ z∈js.take i++js.drop (i+1),z∈js /\ z.1≠(js.getD i ay).1) /\ (∀ z∈js,z.1≠(js.getD i ay).1 -> z∈js.take i++js.drop (i+1)):=by
 have e:js.take i++js.getD i ay::js.drop (i+1)=js:=by rw [<- drop_cons ay hi,List.take_append_drop]
 have:=acP (x:=js.take i) (y:=js.drop (i+1)) (j:=js.getD i ay) (by rw [e];exact hr)
 rw [e] at this;exact this
theorem ahr {now t:Int} (hn:NW now) (ht:0 <= t /\ t<8) {F:List iw} {σ:CS} (b:Bool×Bool):LG F now σ ((bif b.1 then [(now,9,t,0,0,0)] else [])++(bif b.2 then [(now,10,0,0,0,0)] else [])) σ:=by
 refine LG.neu hn _ (fun e he=>?_)
 rcases List.mem_append.1 he with q | q
 ·cases hb:b.1 with
  | false=>rw [hb] at q;cases q
  | true =>
   rw [hb,cond_true,List.mem_singleton] at q;rw [q]
   exact ⟨⟨by simp,by simp,by simp,by simp,by simp,by simp⟩,rfl,ht⟩
 ·cases hb:b.2 with
  | false=>rw [hb] at q;cases q
  | true =>
   rw [hb,cond_true,List.mem_singleton] at q;rw [q]
   exact ⟨⟨by simp,by simp,by simp,by simp,by simp,by simp⟩,rfl,by simp⟩
theorem DL.sub {F:List iw} {now d:Int} {js js2:List jc} (h:DL F now d js) (hs:∀ x∈js2,x∈js):DL F now d js2:=fun j hj=>h j (hs j hj)
theorem RI {F:List iw} {now:Int} {k:Nat} (hn:NW now) (hF:F.length <= 8) (hTW:∀ t∈F,TW t) {σ0:CS}:∀ (js:List jc) (s:jg×List jc) (σ:CS),s.1.1.1=now -> s.1.1.2.2.1=F -> LG F now σ0 s.1.2 σ -> IV F σ now (s.2++js) -> rising (s.2++js) -> DL F now 1 s.2 -> DL F now 0 js ->
  ∃ σ2,LG F now σ0 (js.foldl (BO k) s).1.2 σ2 /\ IV F σ2 now (js.foldl (BO k) s).2 /\ DL F now 1 (js.foldl (BO k) s).2
 | [],s,σ,_,_,h,hi,_,hd,_=>⟨σ,h,by rw [List.append_nil] at hi;exact hi,hd⟩
 | j::js,s,σ,e1,e2,h,hi,hr,hd,hd0=>by
  have hjm:j∈s.2++j::js:=List.mem_append.2 (.inr List.mem_cons_self)
  obtain ⟨a,ha⟩:=hi.job j hjm
  have htk:=ha.jw.task
  have ht0:=ha.t0
  have hmid:=acP hr
  have hr2:rising (s.2++js):=List.Pairwise.sublist (List.Sublist.append (List.Sublist.refl _) (List.sublist_cons_self _ _)) hr
  have apZ:DL F now 0 js:=hd0.sub (fun x hx=>List.mem_cons_of_mem _ hx)
  have hdj:=hd0 j List.mem_cons_self
  have hn1:=hn.1
  have hn2:=hn.2
  rw [List.foldl_cons]
  unfold BO
  rw [e1,e2,Uu (n:=now - j.2.1) (by omega) (by omega)]
  cases hc:(now - j.2.1) != (F.getD j.1.toNat bg).2.2.1 with
  | true =>
   refine RI hn hF hTW js _ σ e1 e2 h (by show IV F σ now ((s.2++[j])++js);rw [List.append_assoc];exact hi) (by show rising ((s.2++[j])++js);rw [List.append_assoc];exact hr) (fun x hx hp=>?_) apZ
   rcases List.mem_append.1 hx with q | q
   ·exact hd x q hp
   ·rw [List.mem_singleton] at q
    rw [q] at hp ⊢
    have:=hdj hp
    have hne:now - j.2.1≠JK F j.1:=bne_iff_ne.1 hc
    omega
  | false =>
   have hend:now - j.2.1=JK F j.1:=bne_eq_false_iff_eq.1 hc
   rw [cond_false]
   cases h2:j.2.2.2.1==2 with
   | true =>
    have hoff:=hi.off hr hjm (eq_of_beq h2)
    refine RI hn hF hTW js (j4 s.1 (0,13,j.1,0,0,0),s.2) σ e1 e2 (h.app (LG.neu hn _ (fun e he=>?_))) (hi.rem (jh.refl σ j.1) hoff hmid.1 hmid.2) hr2 hd apZ
    rw [List.mem_singleton] at he
    rw [he]
    exact ⟨⟨by simp,by simp,by simp,by simp,by simp,by simp⟩,e1,by show 0 <= j.1;omega,by show j.1<8;omega⟩
   | false =>
    have hp2:j.2.2.2.1≠2:=by simpa using h2
    obtain ⟨o1,o2,o3,o4⟩:=ha.act hp2
    rw [cond_false]
    have em:(EJ k s.1 j).2=s.1.2++([(now,5,j.1,0,0,0)]++((bif (zl s.1.1.2.2.2.2.2.2.2.2.2.1 s.1.1.2.2.2.2.2.2.2.2.2.2 j.1.toNat).2.1 then [(now,9,j.1,0,0,0)] else [])++(bif (zl s.1.1.2.2.2.2.2.2.2.2.2.1 s.1.1.2.2.2.2.2.2.2.2.2.2 j.1.toNat).2.2 then [(now,10,0,0,0,0)] else []))):=by
     unfold EJ abv
     rw [e1]
    have e1m:(EJ k s.1 j).1.1=now:=by
     unfold EJ
     simp only
     cases (zl s.1.1.2.2.2.2.2.2.2.2.2.1 s.1.1.2.2.2.2.2.2.2.2.2.2 j.1.toNat).2.2 <;> exact e1
    have e2m:(EJ k s.1 j).1.2.2.1=F:=by
     unfold EJ
     simp only
     cases (zl s.1.1.2.2.2.2.2.2.2.2.2.1 s.1.1.2.2.2.2.2.2.2.2.2.2 j.1.toNat).2.2 <;> exact e2
    have hu:vv σ (now,5,j.1,0,0,0)=⟨σ.at_,BK σ.on j.1 false,σ.inn,σ.out,σ.tu⟩:=rfl
    have hl1:LG F now σ [(now,5,j.1,0,0,0)] (vv σ (now,5,j.1,0,0,0)):=LG.one rfl (fun p hp=>⟨⟨hn1,hn2,hp⟩,⟨by show 0 <= j.1;omega,by show j.1<8;omega⟩,fun q=>absurd (show (5:Int)=1 from q) (by decide),fun _=>htk.2,fun q=>absurd (show (5:Int)=3 from q) (by decide),fun q=>absurd (show (5:Int)=4 from q) (by decide),fun _=>⟨o1,by show 0 <= σ.at_ j.1;rw [o2];omega,by show now=σ.at_ j.1+JK F j.1;rw [o2];omega⟩,fun q=>absurd (show (5:Int)=7 from q) (by decide),fun q=>absurd (show (5:Int)=8 from q) (by decide)⟩)
    refine RI hn hF hTW js (EJ k s.1 j,s.2) (vv σ (now,5,j.1,0,0,0)) e1m e2m (by rw [em];exact h.app (hl1.app (ahr hn ⟨by omega,by omega⟩ (zl s.1.1.2.2.2.2.2.2.2.2.2.1 s.1.1.2.2.2.2.2.2.2.2.2.2 j.1.toNat).2))) (hi.rem (V3 σ _) (by rw [hu];exact if_pos rfl) hmid.1 hmid.2) hr2 hd apZ
theorem ap0 {F:List iw} {now:Int} {k:Nat} {u:jg} {i:Nat} {js:List jc} {σ:CS} (hn:NW now) (hF:F.length <= 8) (hTW:∀ t∈F,TW t) (e1:u.1.1=now) (e2:u.1.2.2.1=F) (hr:rising js) (hi:i<js.length) (h:IV F σ now js) (hd:DL F now 1 js) :
  ∃ l σ2,(GK k u (js.getD i ay)).2.1.2=u.2++l /\ LG F now σ l σ2 /\ IV F σ2 now (abO js i (GK k u (js.getD i ay))) /\ DL F now 1 (abO js i (GK k u (js.getD i ay))):=by
 have hjm:=jm (z:=ay) hi
 have hdel:=apY hr hi
 have hset:∀ y:jc,_:=fun y=>apX hr hi (y:=y)
 have hself:∀ y:jc,y∈js.set i y:=fun y=>set_self hi
 have akQ:DL F now 1 (js.take i++js.drop (i+1)):=hd.sub (fun x hx=>(hdel.1 x hx).1)
 have agl:∀ y:jc,(y.2.2.2.1≠2 -> now+1 <= y.2.1+JK F y.1) -> DL F now 1 (js.set i y):=fun y hy x hx hp=>by
  rcases (hset y).1 x hx with q | q
  ·rw [q] at hp ⊢;exact hy hp
  ·exact hd x q.1 hp
 have hdj:=hd _ hjm
 have hoff:=fun hp=>h.off hr hjm hp
 obtain ⟨a,ha⟩:=h.job _ hjm
 generalize js.getD i ay=j at hjm hdel hset hdj hoff ha ⊢
 have htk:=ha.jw.task
 have ht0:=ha.t0
 have hn1:=hn.1
 have hn2:=hn.2
 have Lx:=hTW _ (jm (z:=bg) (show j.1.toNat<F.length by omega))
 have tk8:0 <= j.1 /\ j.1<8:=⟨by omega,by omega⟩
 have ran:LG F now σ [(now,2,j.1,0,0,0)] σ:=LG.neu hn _ (fun e he=>by
  rw [List.mem_singleton] at he;rw [he]
  exact ⟨⟨by simp,by simp,by simp,by simp,by simp,by simp⟩,rfl,tk8⟩)
 have abP:(j4 u (0,2,j.1,0,0,0)).2=u.2++[(now,2,j.1,0,0,0)]:=by rw [<- e1];rfl
 unfold GK
 cases u.1.2.2.2.2.2.2.1 with
 | true =>
  rw [cond_true]
  unfold MK ahd abO
  rw [show (j4 u (0,2,j.1,0,0,0)).1=u.1 from rfl,e2,abP]
  have jk:∀ (x:Int) (y:jc),(j4 (EI k u.1 (MF (j6 u.1.2.2.2.2.2.2.2.2.1) j.1),u.2++[(now,2,j.1,0,0,0)]) (0,x,y.1,0,0,0)).2=u.2++([(now,2,j.1,0,0,0)]++[(now,x,y.1,0,0,0)]):=fun x y=>by
   unfold j4
   rw [<- List.append_assoc,show (EI k u.1 (MF (j6 u.1.2.2.2.2.2.2.2.2.1) j.1)).1=now from e1]
  cases h2:j.2.2.2.1==2 with
  | true =>
   refine ⟨_,σ,jk 13 j,ran.app (LG.neu hn _ (fun e he=>?_)),h.rem (jh.refl σ j.1) (hoff (eq_of_beq h2)) hdel.1 hdel.2,akQ⟩
   rw [List.mem_singleton] at he;rw [he]
   exact ⟨⟨by simp,by simp,by simp,by simp,by simp,by simp⟩,rfl,tk8⟩
  | false =>
   have hp2:j.2.2.2.1≠2:=by simpa using h2
   obtain ⟨o1,o2,o3,o4⟩:=ha.act hp2
   have hback:=ha.jw.back Lx
   unfold MJ at hback ⊢
   cases hw:(j.2.2.2.1==0)&&decide (((F.getD j.1.toNat bg).2.2.2.2.1.length:Int)>0) with
   | true =>
    rw [hw] at hback
    rw [Bool.and_eq_true] at hw
    have hph:j.2.2.2.1=0:=eq_of_beq hw.1
    have akR:=of_decide_eq_true hw.2
    refine ⟨_,vv σ (now,7,j.1,0,0,0),jk 7 _,ran.app (LG.one rfl (fun p hp=>⟨⟨hn1,hn2,hp⟩,tk8,fun q=>absurd (show (7:Int)=1 from q) (by decide),fun _=>htk.2,fun q=>absurd (show (7:Int)=3 from q) (by decide),fun q=>absurd (show (7:Int)=4 from q) (by decide),fun q=>absurd (show (7:Int)=5 from q) (by decide),fun _=>⟨by show σ.tu j.1=false;rw [o4,hph];rfl,fun q=>by have q:(F.getD j.1.toNat bg).2.2.2.2.1=[]:=q;rw [q] at akR;simp at akR⟩,fun q=>absurd (show (7:Int)=8 from q) (by decide)⟩)),?_,?_⟩
    ·refine h.put (V3 σ (now,7,j.1,0,0,0)) (by rfl) ⟨a,hback,ha.ar,ht0,fun _=>⟨o1,o2,o3,?_⟩,fun q=>absurd (show (1:Int)=2 from q) (by decide)⟩ (fun _=>(show (1:Int)≠2 by decide)) (hset _).1 (hset _).2 (hself _)
     exact if_pos rfl
    ·exact agl _ (fun _=>hdj hp2)
   | false =>
    rw [hw] at hback
    refine ⟨_,σ,jk 6 _,ran.app (LG.neu hn _ (fun e he=>?_)),?_,?_⟩
    ·rw [List.mem_singleton] at he;rw [he]
     exact ⟨⟨by simp,by simp,by simp,by simp,by simp,by simp⟩,rfl,tk8⟩
    ·exact h.put (jh.refl σ j.1) (by rfl) ⟨a,ha.same hback rfl rfl rfl⟩ (fun _=>hp2) (hset _).1 (hset _).2 (hself _)
    ·exact agl _ (fun _=>hdj hp2)
 | false =>
  rw [cond_false]
  obtain ⟨g1,g2,g3⟩:=ha.jw.goes
  unfold K5 abO
  rw [show (j4 u (0,2,j.1,0,0,0)).1=u.1 from rfl,e2]
  simp only
  cases ho:(y5 (F.getD j.1.toNat bg) j).2.2.2.2.1.2.2.2 with
  | false =>
   simp only [cond_false]
   refine ⟨[(now,2,j.1,0,0,0)],σ,?_,ran,?_,?_⟩
   ·cases (pq (qj (F.getD j.1.toNat bg) j.2.2.2.1) j.2.2.2.2.1).1==9 with
    | true=>exact abP
    | false =>
     cases (pq (qj (F.getD j.1.toNat bg) j.2.2.2.1) j.2.2.2.2.1).1==10 with
     | true=>exact abP
     | false=>exact abP
   ·refine h.put (jh.refl σ j.1) (by rfl) ⟨a,ha.same (g1 ho) rfl rfl rfl⟩ (fun hon q=>?_) (hset _).1 (hset _).2 (hself _)
    have q:j.2.2.2.1=2:=q
    rw [hoff q] at hon;cases hon
   ·exact agl _ (fun hp=>hdj hp)
  | true =>
   obtain ⟨z1,z2,z3,z4⟩:=g2 ho
   rw [z4]
   simp only [cond_true]
   show ∃ l σ2,(sj (j4 u (0,2,j.1,0,0,0)) (y5 (F.getD j.1.toNat bg) j)).2.1.2=u.2++l /\ _ /\ IV F σ2 now (bif (sj (j4 u (0,2,j.1,0,0,0)) (y5 (F.getD j.1.toNat bg) j)).1 then _ else js.set i (sj (j4 u (0,2,j.1,0,0,0)) (y5 (F.getD j.1.toNat bg) j)).2.2) /\ DL F now 1 (bif (sj (j4 u (0,2,j.1,0,0,0)) (y5 (F.getD j.1.toNat bg) j)).1 then _ else js.set i (sj (j4 u (0,2,j.1,0,0,0)) (y5 (F.getD j.1.toNat bg) j)).2.2)
   have Dn:GI a:=ha.ar
   have akS:∀ hne:((F.getD j.1.toNat bg).2.2.2.2.2.length:Int)≠0,JW F (y5 (F.getD j.1.toNat bg) j).2.2.2.2.1.2.1.1 (acH (y5 (F.getD j.1.toNat bg) j)):=fun hne=>JW.opt (j:=y5 (F.getD j.1.toNat bg) j) htk ha.jw.arg g3 Lx hne
   have hg1:(y5 (F.getD j.1.toNat bg) j).1=j.1:=rfl
   have hg2:(y5 (F.getD j.1.toNat bg) j).2.1=j.2.1:=rfl
   have hg3:(y5 (F.getD j.1.toNat bg) j).2.2.2.1=j.2.2.2.1:=rfl
   have hyr:GI (y5 (F.getD j.1.toNat bg) j).2.2.2.2.1.2.1.1:=g3 _ (by simp [Gv])
   generalize y5 (F.getD j.1.toNat bg) j=y at z3 hyr akS hg1 hg2 hg3 ⊢
   unfold sj
   rw [hg3,hg1,show (j4 u (0,2,j.1,0,0,0)).1=u.1 from rfl,e2]
   have jl:∀ (x n:Int),(j4 (j4 u (0,2,j.1,0,0,0)) (0,x,j.1,0,n,0)).2=u.2++([(now,2,j.1,0,0,0)]++[(now,x,j.1,0,n,0)]):=fun x n=>by
    unfold j4
    rw [<- List.append_assoc,show u.1.1=now from e1]
   cases h2:j.2.2.2.1==2 with
   | true =>
    have hp:j.2.2.2.1=2:=eq_of_beq h2
    rw [hp] at z3
    refine ⟨_,vv σ (now,4,j.1,0,y.2.2.2.2.1.2.1.1,0),jl 4 _,ran.app (LG.one rfl (fun p hpa=>⟨⟨hn1,hn2,hpa⟩,tk8,fun q=>absurd (show (4:Int)=1 from q) (by decide),fun _=>htk.2,fun q=>absurd (show (4:Int)=3 from q) (by decide),fun _=>⟨by show GI (σ.out j.1);rw [ha.opt hp];exact Dn,_,by show abD _ (σ.out j.1) _;rw [ha.opt hp];exact z3,rfl⟩,fun q=>absurd (show (4:Int)=5 from q) (by decide),fun q=>absurd (show (4:Int)=7 from q) (by decide),fun q=>absurd (show (4:Int)=8 from q) (by decide)⟩)),h.rem (V3 σ (now,4,j.1,0,y.2.2.2.2.1.2.1.1,0)) (hoff hp) hdel.1 hdel.2,akQ⟩
   | false =>
    have hp2:j.2.2.2.1≠2:=by simpa using h2
    obtain ⟨o1,o2,o3,o4⟩:=ha.act hp2
    have hdl:=hdj hp2
    have hcode:qj (F.getD j.1.toNat bg) j.2.2.2.1=(bif σ.tu j.1 then (F.getD j.1.toNat bg).2.2.2.2.1 else (F.getD j.1.toNat bg).2.2.2.1):=by
     have hph:=ha.jw.phase
     have:j.2.2.2.1=0 \/ j.2.2.2.1=1:=by omega
     rw [o4]
     rcases this with q | q <;> rw [q] <;> rfl
    have hdone:LG F now σ [(now,3,j.1,0,y.2.2.2.2.1.2.1.1,0)] (vv σ (now,3,j.1,0,y.2.2.2.2.1.2.1.1,0)):=LG.one rfl (fun p hpa=>⟨⟨hn1,hn2,hpa⟩,tk8,fun q=>absurd (show (3:Int)=1 from q) (by decide),fun _=>htk.2,fun _=>⟨o1,by show 0 <= σ.at_ j.1;rw [o2];omega,by show σ.at_ j.1 <= now;rw [o2];omega,by show now<σ.at_ j.1+JK F j.1;rw [o2];omega,by show GI (σ.inn j.1);rw [o3];exact Dn,_,by show abD (bif σ.tu j.1 then _ else _) (σ.inn j.1) _;rw [o3,<- hcode];exact z3,rfl⟩,fun q=>absurd (show (3:Int)=4 from q) (by decide),fun q=>absurd (show (3:Int)=5 from q) (by decide),fun q=>absurd (show (3:Int)=7 from q) (by decide),fun q=>absurd (show (3:Int)=8 from q) (by decide)⟩)
    have aol:(vv σ (now,3,j.1,0,y.2.2.2.2.1.2.1.1,0)).on j.1=false:=if_pos rfl
    have hout2:(vv σ (now,3,j.1,0,y.2.2.2.2.1.2.1.1,0)).out j.1=y.2.2.2.2.1.2.1.1:=if_pos rfl
    have hag:=V3 σ (now,3,j.1,0,y.2.2.2.2.1.2.1.1,0)
    have hev:∃ l2,(af8 (bif (j.2.2.2.1==0)&&decide (((F.getD j.1.toNat bg).2.2.2.2.1.length:Int)>0) then j4 (j4 (j4 u (0,2,j.1,0,0,0)) (0,3,j.1,0,y.2.2.2.2.1.2.1.1,0)) (0,8,j.1,0,0,0) else j4 (j4 u (0,2,j.1,0,0,0)) (0,3,j.1,0,y.2.2.2.2.1.2.1.1,0)) j.1.toNat).2=u.2++([(now,2,j.1,0,0,0)]++l2) /\ LG F now σ l2 (vv σ (now,3,j.1,0,y.2.2.2.2.1.2.1.1,0)):=by
     cases hw:(j.2.2.2.1==0)&&decide (((F.getD j.1.toNat bg).2.2.2.2.1.length:Int)>0) with
     | false=>exact ⟨_,jl 3 _,hdone⟩
     | true =>
      rw [Bool.and_eq_true] at hw
      have hph:j.2.2.2.1=0:=eq_of_beq hw.1
      have akR:=of_decide_eq_true hw.2
      refine ⟨[(now,3,j.1,0,y.2.2.2.2.1.2.1.1,0)]++[(now,8,j.1,0,0,0)],?_,?_⟩
      ·show (j4 u (0,2,j.1,0,0,0)).2++[(u.1.1,3,j.1,0,y.2.2.2.2.1.2.1.1,0)]++[(u.1.1,8,j.1,0,0,0)]=_
       rw [abP,e1];simp
      ·refine ⟨fun p hpa=>⟨(hdone.ok p hpa).1,⟨⟨hn1,hn2,fun q hq=>by injection hq with hq;rw [<- hq];exact Int.le_refl _⟩,tk8,fun q=>absurd (show (8:Int)=1 from q) (by decide),fun _=>htk.2,fun q=>absurd (show (8:Int)=3 from q) (by decide),fun q=>absurd (show (8:Int)=4 from q) (by decide),fun q=>absurd (show (8:Int)=5 from q) (by decide),fun q=>absurd (show (8:Int)=7 from q) (by decide),fun _=>⟨by show σ.tu j.1=false;rw [o4,hph];rfl,fun q=>by have q:(F.getD j.1.toNat bg).2.2.2.2.1=[]:=q;rw [q] at akR;simp at akR,_,rfl,rfl,rfl⟩⟩,trivial⟩,rfl,fun e he=>?_⟩
       simp at he
       rcases he with q | q <;> rw [q]
    obtain ⟨l2,q1,q2⟩:=hev
    refine ⟨_,_,q1,ran.app q2,?_,?_⟩
    ·simp only [cond_false]
     cases hb:(((F.getD j.1.toNat bg).2.2.2.2.2.length:Int)==0) with
     | true=>exact h.rem hag aol hdel.1 hdel.2
     | false =>
      refine h.put hag (show (acH y).1=j.1 from hg1) ⟨_,akS (by simpa using hb),hyr,by show 0 <= y.2.1 /\ y.2.1 <= now;rw [hg2];exact ht0,fun q=>absurd rfl q,fun _=>by show (vv σ _).out y.1=_;rw [hg1];exact hout2⟩ (fun q=>by rw [show (vv σ (now,3,j.1,0,y.2.2.2.2.1.2.1.1,0)).on ((now,3,j.1,0,y.2.2.2.2.1.2.1.1,0):je).2.2.1=false from aol] at q;cases q) (hset _).1 (hset _).2 (hself _)
    ·simp only [cond_false]
     cases hb:(((F.getD j.1.toNat bg).2.2.2.2.2.length:Int)==0) with
     | true=>exact akQ
     | false=>exact agl _ (fun q=>absurd rfl q)
structure IVK (F:List iw) (σ:CS) (K:jd):Prop where
 iv:IV F σ K.1 K.2.2.2.2.2.2.2.1
 dl:K.2.2.2.2.2.1=false -> DL F K.1 0 K.2.2.2.2.2.2.2.1
 nw:0 <= K.1
theorem IV.map {F:List iw} {σ:CS} {now:Int} {js:List jc} (h:IV F σ now js) {f:jc -> jc} (hf:∀ j,(∀ a,JW F a j -> JW F a (f j)) /\ (f j).1=j.1 /\ (f j).2.1=j.2.1 /\ (f j).2.2.2.1=j.2.2.2.1):IV F σ now (js.map f):=by
 refine ⟨fun j hj=>?_,fun i hi=>?_⟩
 ·obtain ⟨x,hx,rfl⟩:=List.mem_map.1 hj
  obtain ⟨a,ha⟩:=h.job x hx
  obtain ⟨f1,f2,f3,f4⟩:=hf x
  exact ⟨a,ha.same (f1 a ha.jw) f2 f3 f4⟩
 ·obtain ⟨x,hx,q1,q2⟩:=h.on i hi
  obtain ⟨f1,f2,f3,f4⟩:=hf x
  exact ⟨f x,List.mem_map.2 ⟨x,hx,rfl⟩,f2.trans q1,by rw [f4];exact q2⟩
theorem DL.map {F:List iw} {now d:Int} {js:List jc} (h:DL F now d js) {f:jc -> jc} (hf:∀ j,(f j).1=j.1 /\ (f j).2.1=j.2.1 /\ (f j).2.2.2.1=j.2.2.2.1):DL F now d (js.map f):=fun j hj hp=>by
 obtain ⟨x,hx,rfl⟩:=List.mem_map.1 hj
 obtain ⟨f2,f3,f4⟩:=hf x
 rw [f4] at hp
 rw [f2,f3];exact h x hx hp
theorem IV.later {F:List iw} {σ:CS} {now akT:Int} {js:List jc} (h:IV F σ now js) (hn:now <= akT):IV F σ akT js:=⟨fun j hj=>by
 obtain ⟨a,ha⟩:=h.job j hj
 have:=ha.t0
 exact ⟨a,ha.jw,ha.ar,⟨by omega,by omega⟩,ha.act,ha.opt⟩,h.on⟩
theorem WT {now:Int}:∀ (l:List Int) (w:List (List Int)),∀ e∈GA now l w,apW e /\ e.1=now /\ 0 <= e.2.2.1 /\ e.2.2.1<8
 | [],w,e,h=>by simp [GA] at h
 | a::l,w,e,h=>by
  rw [GA] at h
  rcases List.mem_append.1 h with q | q
  ·rcases List.mem_append.1 q with q | q
   ·rw [List.mem_singleton] at q;rw [q]
    exact ⟨⟨by simp,by simp,by simp,by simp,by simp,by simp⟩,rfl,by simp⟩
   ·obtain ⟨c,_,rfl⟩:=List.mem_map.1 q
    exact ⟨⟨by simp,by simp,by simp,by simp,by simp,by simp⟩,rfl,by simp⟩
  ·exact WT l w.tail e q
theorem agm {F:List iw} {σ:CS} {k:Nat} {K:jd} (h:KW K) (hi:IVK F σ K) (hn:K.1<1000000000000) (hts:K.2.2.2.2.1=true -> K.2.2.1=F):∃ σ2,LG F K.1 σ (lu k K).2 σ2 /\ IVK F σ2 (lu k K).1 /\ (lu k K).1.1=K.1+1:=by
 have hk5:=(FT (k:=k) h).2.2.2.2.1
 have h0:=hi.nw
 have akU:(lu k K).1.1=K.1+1:=by rw [hk5];exact Uu (by omega) (by omega)
 cases hc:K.2.2.2.2.1&&!K.2.2.2.2.2.1 with
 | false =>
  have e:lu k K=(w6 (w0 K (IntKind.i64.wrap (K.1+1))) false,[]):=by unfold lu;rw [hc];rfl
  have e2:IntKind.i64.wrap (K.1+1)=K.1+1:=Uu (by omega) (by omega)
  refine ⟨σ,?_,?_,akU⟩
  ·rw [e];exact LG.nil σ
  ·rw [e,e2]
   refine ⟨hi.iv.later (by show K.1 <= K.1+1;omega),fun hha=>?_,by show 0 <= K.1+1;omega⟩
   have hha:K.2.2.2.2.2.1=false:=hha
   have hr:K.2.2.2.2.1=false:=by rw [hha] at hc;simpa using hc
   have ej:=(h.off hr).1
   intro j hj
   have hj:j∈K.2.2.2.2.2.2.2.1:=hj
   rw [ej] at hj;cases hj
 | true =>
  have e:lu k K=(w6 (w0 (zm k (oo k K)).1 (IntKind.i64.wrap ((zm k (oo k K)).1.1+1))) false,(zm k (oo k K)).2):=by unfold lu;rw [hc];rfl
  rw [Bool.and_eq_true] at hc
  have hF:=hts hc.1
  have hkj:=h.kj hc.1
  have hNW:NW K.1:=⟨h0,by omega⟩
  have hF8:F.length <= 8:=by rw [<- hF];exact h.EK
  have hTW:∀ t∈F,TW t:=by rw [<- hF];exact h.task
  have hdl:=hi.dl (by simpa using hc.2)
  obtain ⟨s1,a1,a2,a3⟩:=RI (k:=k) hNW hF8 hTW K.2.2.2.2.2.2.2.1 ((K,[]),[]) σ rfl hF (LG.nil σ) (by rw [List.nil_append];exact hi.iv) (by rw [List.nil_append];exact h.MQ) (fun j hj=>by cases hj) hdl
  obtain ⟨t1,he1⟩:=TI.ends hkj k
  have t2:=t1.prom
  have hp:∀ j,(uq (qb k (K,[])).1.1 (qb k (K,[])).1.2.2.2.1 j).1=j.1 /\ (uq (qb k (K,[])).1.1 (qb k (K,[])).1.2.2.2.1 j).2.1=j.2.1 /\ (uq (qb k (K,[])).1.1 (qb k (K,[])).1.2.2.2.1 j).2.2.2.1=j.2.2.2.1:=fun j=>⟨(FQ _ _ j).1,(FQ _ _ j).2.1,(FQ _ _ j).2.2.2⟩
  have b2:IV F s1 K.1 (BH (qb k (K,[]))).1.2.2.2.2.2.2.2.1:=by
   rw [KQ,KR]
   exact a2.map (fun j=>⟨fun a q=>q.prom _ _,hp j⟩)
  have b3:DL F K.1 1 (BH (qb k (K,[]))).1.2.2.2.2.2.2.2.1:=by
   rw [KQ,KR]
   exact a3.map hp
  have b1:LG F K.1 σ (BH (qb k (K,[]))).2 s1:=a1
  have t2n:=t2.tasks.2.2.1
  have c4:=t2.apC he1 k
  have hau:=UL k (BH (qb k (K,[]))) t2.tab
  have c1:LG F K.1 σ (oo k K).2 s1:=by
   unfold oo
   rw [hau]
   refine b1.app (LG.neu hNW _ (fun e he=>?_))
   rw [t2n] at he
   exact WT _ _ e he
  have hls:∀ j,(uw (BH (qb k (K,[]))).1.2.2.2.2.2.2.2.2.1 (um k (BH (qb k (K,[]))).1.2.2.2.2.2.2.2.2.1).2.1 j).1=j.1 /\ (uw (BH (qb k (K,[]))).1.2.2.2.2.2.2.2.2.1 (um k (BH (qb k (K,[]))).1.2.2.2.2.2.2.2.2.1).2.1 j).2.1=j.2.1 /\ (uw (BH (qb k (K,[]))).1.2.2.2.2.2.2.2.2.1 (um k (BH (qb k (K,[]))).1.2.2.2.2.2.2.2.2.1).2.1 j).2.2.2.1=j.2.2.2.1:=fun j=>⟨(FP _ _ j).1,(FP _ _ j).2.1,(FP _ _ j).2.2.2⟩
  have c2:IV F s1 K.1 (oo k K).1.2.2.2.2.2.2.2.1:=by
   unfold oo
   rw [hau]
   exact b2.map (fun j=>⟨fun a q=>q.loss _ _,hls j⟩)
  have c3:DL F K.1 1 (oo k K).1.2.2.2.2.2.2.2.1:=by
   unfold oo
   rw [hau]
   exact b3.map hls
  have t3:=hkj.ahead k
  have et:=t3.tasks
  have fin:∀ s2,LG F K.1 σ (zm k (oo k K)).2 s2 -> IV F s2 K.1 (zm k (oo k K)).1.2.2.2.2.2.2.2.1 -> DL F K.1 1 (zm k (oo k K)).1.2.2.2.2.2.2.2.1 -> ∃ σ2,LG F K.1 σ (lu k K).2 σ2 /\ IVK F σ2 (lu k K).1 /\ (lu k K).1.1=K.1+1:=fun s2 d1 d2 d3=>by
   refine ⟨s2,by rw [e];exact d1,⟨?_,fun _=>?_,by rw [akU];omega⟩,akU⟩
   ·rw [akU,e];exact d2.later (by omega)
   ·rw [akU,e]
    intro j hj hp
    have:=d3 j hj hp
    omega
  have hris:=t3.MQ
  have aom:=et.2.2.1
  have aqU:=et.1.trans hF
  generalize oo k K=u at c1 c2 c3 hris aom aqU fin
  cases hcc:u.1.2.2.2.2.2.1||u.1.2.2.2.2.2.2.2.1.isEmpty with
  | true =>
   have er:zm k u=u:=by unfold zm;rw [hcc];rfl
   rw [er] at fin
   exact fin s1 c1 c2 c3
  | false =>
   have hmin:=hcc
   rw [Bool.or_eq_false_iff] at hmin
   have hlt:=next_lt hmin.2 (u.1.2.2.1.length:Int) (j6 u.1.2.2.2.2.2.2.2.2.1)
   obtain ⟨l,s2,g1,g2,g3,g4⟩:=ap0 (k:=k) (u:=u) hNW hF8 hTW aom aqU hris hlt c2 c3
   have er:zm k u=(w7 (GK k u (u.1.2.2.2.2.2.2.2.1.getD (I6 u.1.2.2.2.2.2.2.2.1 (u.1.2.2.1.length:Int) (j6 u.1.2.2.2.2.2.2.2.2.1)) ay)).2.1.1 (abO u.1.2.2.2.2.2.2.2.1 (I6 u.1.2.2.2.2.2.2.2.1 (u.1.2.2.1.length:Int) (j6 u.1.2.2.2.2.2.2.2.2.1)) (GK k u (u.1.2.2.2.2.2.2.2.1.getD (I6 u.1.2.2.2.2.2.2.2.1 (u.1.2.2.1.length:Int) (j6 u.1.2.2.2.2.2.2.2.2.1)) ay))),(GK k u (u.1.2.2.2.2.2.2.2.1.getD (I6 u.1.2.2.2.2.2.2.2.1 (u.1.2.2.1.length:Int) (j6 u.1.2.2.2.2.2.2.2.2.1)) ay)).2.1.2):=by unfold zm;rw [hcc];rfl
   rw [er] at fin
   exact fin s2 (by rw [g1];exact c1.app g2) g3 g4
theorem ap2 {F:List iw} {σ:CS} {K:jd} (h:KW K) (hi:IVK F σ K) (hn:K.1<1000000000000) (hts:K.2.2.2.2.1=true -> K.2.2.1=F) {p a:Int} (har:GI a):∃ σ2,LG F K.1 σ (tq K p a).2.1 σ2 /\ IVK F σ2 (tq K p a).1 /\ (tq K p a).1.1=K.1:=by
 have h0:=hi.nw
 have hNW:NW K.1:=⟨h0,by omega⟩
 rcases JE h.MQ p a with ⟨e1,e2,_⟩ | ⟨hru,hha,hp,_,n,h1,h2,e,hris,hc⟩
 ·rw [e1,e2];exact ⟨σ,LG.nil σ,hi,rfl⟩
 ·have hF:=hts hru
  have h8:=h.EK
  have Lx:=h.task _ (jm (z:=bg) (show p.toNat<K.2.2.1.length by omega))
  rw [hF] at hp Lx h8
  have hoff:σ.on p=false:=by
   cases ho:σ.on p with
   | false=>rfl
   | true =>
    obtain ⟨j,hj,q1,q2⟩:=hi.iv.on p ho
    rcases hc with ⟨_,c1,_⟩ | ⟨c0,c1,c2,_⟩
    ·exact absurd q1 (c1 j hj)
    ·have:=WS h.MQ hj (jm (z:=ay) (show ng p K.2.2.2.2.2.2.2.1<K.2.2.2.2.2.2.2.1.length by omega)) (q1.trans c1.symm)
     rw [this] at q2;exact absurd c2 q2
  have hrel:LG F K.1 σ [(K.1,1,p,0,a,0)] (vv σ (K.1,1,p,0,a,0)):=LG.one rfl (fun q hq=>⟨⟨h0,by show K.1 <= _;omega,hq⟩,⟨hp.1,by show p<8;omega⟩,fun _=>hoff,fun q=>by (have q:(1:Int)=3 \/ (1:Int)=4 \/ (1:Int)=5 \/ (1:Int)=7 \/ (1:Int)=8:=q;omega),fun q=>absurd (show (1:Int)=3 from q) (by decide),fun q=>absurd (show (1:Int)=4 from q) (by decide),fun q=>absurd (show (1:Int)=5 from q) (by decide),fun q=>absurd (show (1:Int)=7 from q) (by decide),fun q=>absurd (show (1:Int)=8 from q) (by decide)⟩)
  have hmid:=acP (x:=K.2.2.2.2.2.2.2.1.take (ng p K.2.2.2.2.2.2.2.1)) (j:=FN p K.1 a) (y:=K.2.2.2.2.2.2.2.1.drop n) (by rw [List.append_assoc,List.singleton_append] at hris;exact hris)
  rw [e,List.append_assoc,List.singleton_append]
  have hsub:∀ z∈K.2.2.2.2.2.2.2.1.take (ng p K.2.2.2.2.2.2.2.1)++FN p K.1 a::K.2.2.2.2.2.2.2.1.drop n,z=FN p K.1 a \/ (z∈K.2.2.2.2.2.2.2.1 /\ z.1≠p):=fun z hz=>by
   by_cases hq:z.1=p
   ·left
    rcases List.mem_append.1 hz with q | q
    ·exact absurd hq ((hmid.1 z (List.mem_append.2 (.inl q))).2)
    ·rcases List.mem_cons.1 q with q | q
     ·exact q
     ·exact absurd hq ((hmid.1 z (List.mem_append.2 (.inr q))).2)
   ·right
    refine ⟨?_,hq⟩
    rcases List.mem_append.1 (hmid.2 z hz hq) with q | q
    ·exact List.mem_of_mem_take q
    ·exact List.mem_of_mem_drop q
  refine ⟨vv σ (K.1,1,p,0,a,0),?_,⟨?_,fun _=>?_,h0⟩,rfl⟩
  ·rcases hc with ⟨_,_,c3⟩ | ⟨_,_,_,c3⟩
   ·rw [c3];exact hrel
   ·rw [c3]
    refine LG.app (l:=[(K.1,13,p,0,0,0)]) (LG.neu hNW _ (fun e he=>?_)) hrel
    rw [List.mem_singleton] at he;rw [he]
    exact ⟨⟨by simp,by simp,by simp,by simp,by simp,by simp⟩,rfl,hp.1,by show p<8;omega⟩
  ·refine hi.iv.put (y:=FN p K.1 a) (V3 σ (K.1,1,p,0,a,0)) rfl ⟨a,JW.FN hp har Lx,har,⟨h0,Int.le_refl _⟩,fun _=>⟨if_pos rfl,if_pos rfl,if_pos rfl,if_pos rfl⟩,fun q=>absurd (show (0:Int)=2 from q) (by decide)⟩ (fun _=>(show (0:Int)≠2 by decide)) hsub (fun z hz hne=>?_) (List.mem_append.2 (.inr List.mem_cons_self))
   have hne:z.1≠p:=hne
   obtain ⟨b,hb,eb⟩:=u7 ay hz
   by_cases q:b<ng p K.2.2.2.2.2.2.2.1
   ·refine List.mem_append.2 (.inl (List.mem_iff_getElem.2 ⟨b,by rw [List.length_take];omega,?_⟩))
    rw [List.getElem_take,<- getD_in (z:=ay) hb];exact eb
   ·by_cases q2:b<n
    ·exfalso
     rcases hc with ⟨c1,_⟩ | ⟨c1,c2,c3,_⟩
     ·omega
     ·have:b=ng p K.2.2.2.2.2.2.2.1:=by omega
      rw [<- this,eb] at c2
      exact hne c2
    ·refine List.mem_append.2 (.inr (List.mem_cons_of_mem _ (List.mem_iff_getElem.2 ⟨b - n,by rw [List.length_drop];omega,?_⟩)))
     rw [List.getElem_drop]
     rw [<- eb,getD_in hb];congr 1;omega
  ·intro z hz hp2
   rcases hsub z hz with q | q
   ·rw [q]
    have hend:=(EF.1 Lx.may).2.2.1.1
    show K.1+0 <= K.1+JK F p
    have:1 <= JK F p:=hend
    omega
   ·exact hi.dl hha z q.1 hp2
structure QU (K:jd) (r:CR):Prop where
 now:r.1.1=K.1
 jobs:r.1.2.2.2.2.2.2.2.1=K.2.2.2.2.2.2.2.1
 halt:r.1.2.2.2.2.2.1=K.2.2.2.2.2.1
 ev:∀ e∈r.2.1,e.1=K.1 /\ e.2.1=12 /\ e.2.2.1=0
theorem QU.err (K:jd) (e:Int):QU K (err K e):=⟨rfl,rfl,rfl,fun x hx=>by cases hx⟩
theorem acR (k:Nat) (K:jd) {c:Cl} (h6:c.1≠6):QU K (zo k K c):=by
 have mk:QU K (zn k K c):=by
  unfold zn
  cases (c.1==2)&&K.2.2.2.2.1 with
  | true=>exact QU.err _ _
  | false =>
  cases (BD k K.2.2.2.2.2.2.2.2.1 (c.1 - 1)).2.2 with
  | true=>exact ⟨rfl,rfl,rfl,fun x hx=>by cases hx⟩
  | false=>exact QU.err _ _
 unfold zo
 cases c.1==1 with
 | true =>
  simp only [cond_true]
  unfold KT
  cases K.2.2.2.2.1 with
  | true=>exact QU.err _ _
  | false =>
  cases (inT K.2.2.1 c.2.1 K.2.1).2.2==0 with
  | true=>exact ⟨rfl,rfl,rfl,fun x hx=>by cases hx⟩
  | false=>exact QU.err _ _
 | false =>
 cases c.1==2 with
 | true=>exact mk
 | false =>
 cases c.1==3 with
 | true=>exact mk
 | false =>
 cases c.1==4 with
 | true=>exact mk
 | false =>
 cases c.1==5 with
 | true =>
  simp only [cond_true,cond_false]
  unfold IB uf
  cases K.2.2.2.2.1 with
  | true=>exact QU.err _ _
  | false =>
  cases K.2.2.1.any (I7 (j6 K.2.2.2.2.2.2.2.2.1).length) with
  | true=>exact QU.err _ _
  | false=>exact ⟨rfl,rfl,rfl,fun x hx=>by cases hx⟩
 | false =>
 rw [beq_eq_false_iff_ne.2 h6]
 cases c.1==7 with
 | true =>
  simp only [cond_true,cond_false]
  unfold UO
  dsimp only
  cases MO K.2.2.2.2.2.2.2.2.1 c.2.2.1 2 with
  | false=>exact QU.err _ _
  | true =>
  cases (BI (rd K.2.2.2.2.2.2.2.2.1.2 c.2.2.1.1 j5).2.2.2.1 c.2.2.2.2.1).2.2 with
  | false=>exact QU.err _ _
  | true =>
   refine ⟨rfl,rfl,rfl,fun x hx=>?_⟩
   have hx:x∈(bif decide ((BI (rd K.2.2.2.2.2.2.2.2.1.2 c.2.2.1.1 j5).2.2.2.1 c.2.2.2.2.1).2.1>0) then [((K.1,12,0,(BI (rd K.2.2.2.2.2.2.2.2.1.2 c.2.2.1.1 j5).2.2.2.1 c.2.2.2.2.1).2.1,c.2.2.2.2.1,0):je)] else []):=hx
   cases hb:decide ((BI (rd K.2.2.2.2.2.2.2.2.1.2 c.2.2.1.1 j5).2.2.2.1 c.2.2.2.2.1).2.1>0) with
   | false=>rw [hb] at hx;cases hx
   | true=>rw [hb,cond_true,List.mem_singleton] at hx;rw [hx];exact ⟨rfl,rfl,rfl⟩
 | false =>
 cases c.1==8 with
 | true =>
  simp only [cond_true,cond_false]
  unfold UQ
  dsimp only
  cases MO K.2.2.2.2.2.2.2.2.1 c.2.2.1 2 with
  | false=>exact QU.err _ _
  | true =>
  cases (takeB (rd K.2.2.2.2.2.2.2.2.1.2 c.2.2.1.1 j5).2.2.2.1 c.2.2.2.1).2.2.2 with
  | false=>exact QU.err _ _
  | true=>exact ⟨rfl,rfl,rfl,fun x hx=>by cases hx⟩
 | false =>
 cases c.1==9 with
 | true =>
  simp only [cond_true,cond_false]
  unfold KU
  dsimp only
  cases MO K.2.2.2.2.2.2.2.2.1 c.2.2.1 3 with
  | false=>exact QU.err _ _
  | true =>
   refine ⟨rfl,rfl,rfl,fun x hx=>?_⟩
   obtain ⟨y,_,rfl⟩:=List.mem_map.1 (show x∈List.map _ _ from hx)
   exact ⟨rfl,rfl,rfl⟩
 | false =>
 cases c.1==10 with
 | true =>
  simp only [cond_true,cond_false]
  unfold KV
  dsimp only
  cases MO K.2.2.2.2.2.2.2.2.1 c.2.2.1 3 with
  | false=>exact QU.err _ _
  | true =>
  cases (BP (rd K.2.2.2.2.2.2.2.2.1.2 c.2.2.1.1 j5).2.2.2.2.1 c.2.2.2.1 c.2.2.2.2.2).2.2 with
  | false=>exact QU.err _ _
  | true=>exact ⟨rfl,rfl,rfl,fun x hx=>by cases hx⟩
 | false =>
 cases c.1==11 with
 | true =>
  simp only [cond_true,cond_false]
  unfold UR
  dsimp only
  cases acN K.2.2.2.2.2.2.2.2.1 c.2.2.1 with
  | false=>exact QU.err _ _
  | true =>
   refine ⟨rfl,rfl,rfl,fun x hx=>?_⟩
   obtain ⟨y,_,rfl⟩:=List.mem_map.1 (show x∈List.map _ _ from hx)
   exact ⟨rfl,rfl,rfl⟩
 | false=>exact QU.err _ _
theorem acS {k:Nat} {K:jd} (h:KW K) (c:Cl) (hr:K.2.2.2.2.1=true):(zo k K c).1.2.2.2.2.1=true /\ (zo k K c).1.2.2.1=K.2.2.1:=by
 have mk:(zn k K c).1.2.2.2.2.1=true /\ (zn k K c).1.2.2.1=K.2.2.1:=by
  unfold zn
  cases (c.1==2)&&K.2.2.2.2.1 with
  | true=>exact ⟨hr,rfl⟩
  | false =>
  cases (BD k K.2.2.2.2.2.2.2.2.1 (c.1 - 1)).2.2 with
  | true=>exact ⟨hr,rfl⟩
  | false=>exact ⟨hr,rfl⟩
 unfold zo
 cases c.1==1 with
 | true =>
  simp only [cond_true]
  unfold KT
  rw [hr];exact ⟨hr,rfl⟩
 | false =>
 cases c.1==2 with
 | true=>exact mk
 | false =>
 cases c.1==3 with
 | true=>exact mk
 | false =>
 cases c.1==4 with
 | true=>exact mk
 | false =>
 cases c.1==5 with
 | true =>
  simp only [cond_true,cond_false]
  unfold IB uf
  rw [hr];exact ⟨hr,rfl⟩
 | false =>
 cases c.1==6 with
 | true =>
  simp only [cond_true,cond_false]
  unfold ant
  rcases JE h.MQ c.2.2.2.1 c.2.2.2.2.1 with ⟨e,_⟩ | ⟨_,_,_,_,n,_,_,e,_⟩
  ·show (tq _ _ _).1.2.2.2.2.1=true /\ (tq _ _ _).1.2.2.1=_
   rw [e];exact ⟨hr,rfl⟩
  ·show (tq _ _ _).1.2.2.2.2.1=true /\ (tq _ _ _).1.2.2.1=_
   rw [e];exact ⟨hr,rfl⟩
 | false =>
 cases c.1==7 with
 | true =>
  simp only [cond_true,cond_false]
  unfold UO
  dsimp only
  cases MO K.2.2.2.2.2.2.2.2.1 c.2.2.1 2 with
  | false=>exact ⟨hr,rfl⟩
  | true =>
  cases (BI (rd K.2.2.2.2.2.2.2.2.1.2 c.2.2.1.1 j5).2.2.2.1 c.2.2.2.2.1).2.2 with
  | false=>exact ⟨hr,rfl⟩
  | true=>exact ⟨hr,rfl⟩
 | false =>
 cases c.1==8 with
 | true =>
  simp only [cond_true,cond_false]
  unfold UQ
  dsimp only
  cases MO K.2.2.2.2.2.2.2.2.1 c.2.2.1 2 with
  | false=>exact ⟨hr,rfl⟩
  | true =>
  cases (takeB (rd K.2.2.2.2.2.2.2.2.1.2 c.2.2.1.1 j5).2.2.2.1 c.2.2.2.1).2.2.2 with
  | false=>exact ⟨hr,rfl⟩
  | true=>exact ⟨hr,rfl⟩
 | false =>
 cases c.1==9 with
 | true =>
  simp only [cond_true,cond_false]
  unfold KU
  dsimp only
  cases MO K.2.2.2.2.2.2.2.2.1 c.2.2.1 3 with
  | false=>exact ⟨hr,rfl⟩
  | true=>exact ⟨hr,rfl⟩
 | false =>
 cases c.1==10 with
 | true =>
  simp only [cond_true,cond_false]
  unfold KV
  dsimp only
  cases MO K.2.2.2.2.2.2.2.2.1 c.2.2.1 3 with
  | false=>exact ⟨hr,rfl⟩
  | true =>
  cases (BP (rd K.2.2.2.2.2.2.2.2.1.2 c.2.2.1.1 j5).2.2.2.2.1 c.2.2.2.1 c.2.2.2.2.2).2.2 with
  | false=>exact ⟨hr,rfl⟩
  | true=>exact ⟨hr,rfl⟩
 | false =>
 cases c.1==11 with
 | true =>
  simp only [cond_true,cond_false]
  unfold UR
  dsimp only
  cases acN K.2.2.2.2.2.2.2.2.1 c.2.2.1 with
  | false=>exact ⟨hr,rfl⟩
  | true=>exact ⟨hr,rfl⟩
 | false=>exact ⟨hr,rfl⟩
theorem anE {F:List iw} {σ:CS} {k:Nat} {K:jd} (h:KW K) (hi:IVK F σ K) (hn:K.1<1000000000000) (hts:K.2.2.2.2.1=true -> K.2.2.1=F) {c:Cl} (hc:CW c):∃ σ2,LG F K.1 σ (zo k K c).2.1 σ2 /\ IVK F σ2 (zo k K c).1 /\ (zo k K c).1.1=K.1:=by
 by_cases h6:c.1=6
 ·have e:zo k K c=ant K c:=by unfold zo;rw [h6];rfl
  rw [e]
  exact ap2 h hi hn hts hc.2
 ·obtain ⟨q1,q2,q3,q4⟩:=acR k K h6
  have h0:=hi.nw
  refine ⟨σ,LG.neu ⟨h0,by omega⟩ _ (fun e he=>?_),⟨by rw [q1,q2];exact hi.iv,by rw [q1,q2,q3];exact hi.dl,by rw [q1];exact h0⟩,q1⟩
  obtain ⟨a,b,d⟩:=q4 e he
  exact ⟨⟨by rw [b];decide,by rw [b];decide,by rw [b];decide,by rw [b];decide,by rw [b];decide,by rw [b];decide⟩,a,by rw [d];decide,by rw [d];decide⟩
def c0:CS:=⟨fun _=>0,fun _=>false,fun _=>0,fun _=>0,fun _=>false⟩
theorem WU:∀ (l l2:List je) (p:Option je),UY p (l++l2)=UY (UY p l) l2
 | [],_,_=>rfl
 | e::l,l2,p=>WU l l2 (some e)
structure AL (F:List iw) (ev:List je) (σ:CS) (now:Int):Prop where
 ok:OKs F none c0 ev
 en:ev.foldl vv c0=σ
 pa:PA (UY none ev) now
theorem AL.app {F:List iw} {ev l:List je} {σ σ2:CS} {now:Int} (h:AL F ev σ now) (hl:LG F now σ l σ2):AL F (ev++l) σ2 now :=
 ⟨YU ev l none c0 h.ok (by rw [h.en];exact hl.ok _ h.pa),by rw [List.foldl_append,h.en,hl.en],by rw [WU];exact UZ l _ h.pa hl.at_⟩
theorem AL.later {F:List iw} {ev:List je} {σ:CS} {now akT:Int} (h:AL F ev σ now) (hn:now <= akT):AL F ev σ akT:=⟨h.ok,h.en,fun q hq=>by have:=h.pa q hq;omega⟩
theorem abR {F:List iw} {k:Nat}:∀ (n:Nat) (s:jd×List je) (ev:List je) (σ:CS),KW s.1 -> IVK F σ s.1 -> s.1.1+n<1000000000000 -> (s.1.2.2.2.2.1=true -> s.1.2.2.1=F) -> AL F (ev++s.2) σ s.1.1 ->
  ∃ σ2,AL F (ev++(qy k n s).2) σ2 (qy k n s).1.1 /\ IVK F σ2 (qy k n s).1 /\ (qy k n s).1.1=s.1.1+n /\ (s.1.2.2.2.2.1=true -> (qy k n s).1.2.2.2.2.1=true /\ (qy k n s).1.2.2.1=s.1.2.2.1)
 | 0,s,ev,σ,_,hi,_,_,ha=>⟨σ,ha,hi,by show s.1.1=s.1.1+0;omega,fun h=>⟨h,rfl⟩⟩
 | n+1,s,ev,σ,h,hi,hn,hts,ha=>by
  obtain ⟨t1,t2,t3,t4,t5,_⟩:=FT (k:=k) h
  obtain ⟨σ1,g1,g2,g3⟩:=agm (k:=k) h hi (by omega) hts
  obtain ⟨σ2,f1,f2,f3,f4⟩:=abR n ((lu k s.1).1,s.2++(lu k s.1).2) ev σ1 t1 g2 (by show (lu k s.1).1.1+n<_;rw [g3];omega) (by
   intro q
   have q:(lu k s.1).1.2.2.2.2.1=true:=q
   rw [t4] at q
   show (lu k s.1).1.2.2.1=F
   rw [t2];exact hts q) (by
   show AL F (ev++(s.2++(lu k s.1).2)) σ1 (lu k s.1).1.1
   rw [<- List.append_assoc]
   exact (ha.app g1).later (by rw [g3];omega))
  rw [qy]
  refine ⟨σ2,f1,f2,by rw [f3];show (lu k s.1).1.1+n=_;rw [g3];omega,fun q=>?_⟩
  obtain ⟨z1,z2⟩:=f4 (by show (lu k s.1).1.2.2.2.2.1=true;rw [t4];exact q)
  exact ⟨z1,z2.trans t2⟩
theorem aqV {F:List iw} {k:Nat} {K:jd} {ev:List je} {σ:CS} (h:KW K) (hi:IVK F σ K) (hn:K.1+10000<1000000000000) (hts:K.2.2.2.2.1=true -> K.2.2.1=F) (ha:AL F ev σ K.1) {s:Stp} (hs:SW s) :
  ∃ σ2,AL F (ev++(K6 k K s).2.1) σ2 (K6 k K s).1.1 /\ IVK F σ2 (K6 k K s).1 /\ (K6 k K s).1.1 <= K.1+10000:=by
 have hz:∀ (K2:jd),K2.1=K.1 -> K2.2.2.2.2.2.2.2.1=K.2.2.2.2.2.2.2.1 -> K2.2.2.2.2.2.1=K.2.2.2.2.2.1 -> ∃ σ2,AL F (ev++([]:List je)) σ2 K2.1 /\ IVK F σ2 K2 /\ K2.1 <= K.1+10000:=fun K2 e1 e2 e3=>⟨σ,by rw [List.append_nil,e1];exact ha,⟨by rw [e1,e2];exact hi.iv,by rw [e1,e2,e3];exact hi.dl,by rw [e1];exact hi.nw⟩,by omega⟩
 unfold K6
 cases s.1==1 with
 | true =>
  obtain ⟨σ2,g1,g2,g3⟩:=anE (k:=k) h hi (by omega) hts (c:=s.2.1) ⟨hs.light,hs.arg⟩
  exact ⟨σ2,by simp only [cond_true];rw [g3];exact ha.app g1,g2,by simp only [cond_true];omega⟩
 | false =>
 cases s.1==2 with
 | true =>
  obtain ⟨σ2,g1,g2,g3⟩:=agm (k:=k) h hi (by omega) hts
  exact ⟨σ2,by simp only [cond_true,cond_false];rw [g3];exact (ha.app g1).later (by omega),g2,by simp only [cond_true,cond_false];omega⟩
 | false =>
 cases s.1==3 with
 | true=>exact hz _ rfl rfl rfl
 | false =>
 cases s.1==4 with
 | true =>
  simp only [cond_true,cond_false]
  cases ED K.2.2.2.2.2.2.2.2.1 s.2.2.1 with
  | true=>exact hz _ rfl rfl rfl
  | false=>exact hz _ rfl rfl rfl
 | false =>
 cases s.1==5 with
 | true =>
  simp only [cond_true,cond_false]
  cases hq:decide (s.2.2.2<0)||decide (s.2.2.2>10000) with
  | true=>exact hz _ rfl rfl rfl
  | false =>
   rw [Bool.or_eq_false_iff] at hq
   have n1:=of_decide_eq_false hq.1
   have n2:=of_decide_eq_false hq.2
   obtain ⟨σ2,f1,f2,f3,_⟩:=abR (F:=F) (k:=k) s.2.2.2.toNat (K,[]) ev σ h hi (by show K.1+_<_;omega) hts (by rw [List.append_nil];exact ha)
   exact ⟨σ2,f1,f2,by show (qy k s.2.2.2.toNat (K,[])).1.1 <= _;rw [f3];show K.1+_ <= _;omega⟩
 | false=>exact hz _ rfl rfl rfl
theorem Q6 {k:Nat}:∀ (n:Nat) (s:jd×List je),KW s.1 -> (qy k n s).1.2.2.2.2.1=s.1.2.2.2.2.1 /\ (qy k n s).1.2.2.1=s.1.2.2.1
 | 0,s,_=>⟨rfl,rfl⟩
 | n+1,s,h=>by
  obtain ⟨t1,t2,t3,t4,_⟩:=FT (k:=k) h
  obtain ⟨a,b⟩:=Q6 n ((lu k s.1).1,s.2++(lu k s.1).2) t1
  rw [qy]
  exact ⟨a.trans t4,b.trans t2⟩
theorem akV {k:Nat} {K:jd} (h:KW K) (s:Stp) (hr:K.2.2.2.2.1=true):(K6 k K s).1.2.2.2.2.1=true /\ (K6 k K s).1.2.2.1=K.2.2.1:=by
 unfold K6
 cases s.1==1 with
 | true=>exact acS h _ hr
 | false =>
 cases s.1==2 with
 | true =>
  obtain ⟨t1,t2,t3,t4,_⟩:=FT (k:=k) h
  exact ⟨t4.trans hr,t2⟩
 | false =>
 cases s.1==3 with
 | true=>exact ⟨hr,rfl⟩
 | false =>
 cases s.1==4 with
 | true =>
  simp only [cond_true,cond_false]
  cases ED K.2.2.2.2.2.2.2.2.1 s.2.2.1 with
  | true=>exact ⟨hr,rfl⟩
  | false=>exact ⟨hr,rfl⟩
 | false =>
 cases s.1==5 with
 | true =>
  simp only [cond_true,cond_false]
  cases decide (s.2.2.2<0)||decide (s.2.2.2>10000) with
  | true=>exact ⟨hr,rfl⟩
  | false =>
   obtain ⟨a,b⟩:=Q6 (k:=k) s.2.2.2.toNat (K,[]) h
   exact ⟨a.trans hr,b⟩
 | false=>exact ⟨hr,rfl⟩
theorem Q7 {k:Nat}:∀ (l:List Stp) (r:jd×List je×List Rly),(∀ s∈l,SW s) -> KW r.1 -> r.1.2.2.2.2.1=true -> (qg k l r).1.2.2.1=r.1.2.2.1
 | [],r,_,_,_=>rfl
 | s::l,r,hs,h,hr=>by
  obtain ⟨a,b⟩:=akV (k:=k) h s hr
  rw [qg,Q7 l _ (fun x hx=>hs x (by simp [hx])) (agj h (hs s (by simp))).1 a]
  exact b
theorem abS {F:List iw} {k:Nat}:∀ (l:List Stp) (r:jd×List je×List Rly) (σ:CS),(∀ s∈l,SW s) -> KW r.1 -> IVK F σ r.1 -> r.1.1+10000 * l.length<1000000000000 -> AL F r.2.1 σ r.1.1 -> (qg k l r).1.2.2.1=F ->
  ∃ σ2,AL F (qg k l r).2.1 σ2 (qg k l r).1.1 /\ IVK F σ2 (qg k l r).1 /\ (qg k l r).1.1 <= r.1.1+10000 * l.length
 | [],r,σ,_,h,hi,hn,ha,hF=>⟨σ,ha,hi,by show r.1.1 <= _;simp⟩
 | s::l,r,σ,hs,h,hi,hn,ha,hF=>by
  have hts:r.1.2.2.2.2.1=true -> r.1.2.2.1=F:=fun q=>by rw [<- hF,Q7 (s::l) r hs h q]
  simp only [List.length_cons] at hn ⊢
  obtain ⟨σ1,g1,g2,g3⟩:=aqV (k:=k) h hi (by omega) hts ha (hs s (by simp))
  rw [qg] at hF ⊢
  obtain ⟨σ2,f1,f2,f3⟩:=abS l ((K6 k r.1 s).1,r.2.1++(K6 k r.1 s).2.1,r.2.2++[(K6 k r.1 s).2.2]) σ1 (fun x hx=>hs x (by simp [hx])) (agj h (hs s (by simp))).1 g2 (by show (K6 k r.1 s).1.1+_<_;omega) g1 hF
  exact ⟨σ2,f1,f2,by have f3:(qg k l ((K6 k r.1 s).1,r.2.1++(K6 k r.1 s).2.1,r.2.2++[(K6 k r.1 s).2.2])).1.1 <= (K6 k r.1 s).1.1+10000 * l.length:=f3;omega⟩
theorem akW {k:Nat} {ap:Int} {l:List Stp} (hs:∀ s∈l,SW s) (hl:l.length <= 1000):∃ σ,AL (xu k ap l).1.2.2.1 (xu k ap l).2.1 σ (xu k ap l).1.1 /\ IVK (xu k ap l).1.2.2.1 σ (xu k ap l).1 /\ (xu k ap l).1.1 <= 10000000:=by
 obtain ⟨σ,a,b,c⟩:=abS (F:=(xu k ap l).1.2.2.1) (k:=k) l (Vg ap,[],[]) c0 hs (acO ap) ⟨⟨fun j hj=>absurd hj List.not_mem_nil,fun i hi=>Bool.noConfusion hi⟩,fun _ j hj=>absurd hj List.not_mem_nil,Int.le_refl _⟩ (by show (0:Int)+_<_;omega) ⟨trivial,rfl,fun q hq=>by cases hq⟩ rfl
 refine ⟨σ,a,b,?_⟩
 have c:(xu k ap l).1.1 <= 0+10000 * l.length:=c
 omega
theorem in8 {i:Int} (h:0 <= i /\ i<8):i=0 \/ i=1 \/ i=2 \/ i=3 \/ i=4 \/ i=5 \/ i=6 \/ i=7:=by omega
theorem agn {α:Type} (f:Int -> α) (d:α) {i:Int} (h:0 <= i /\ i<8):Uq (α:=α) 8 (f 0,f 1,f 2,f 3,f 4,f 5,f 6,f 7) i d=f i:=by
 rcases in8 h with rfl | rfl | rfl | rfl | rfl | rfl | rfl | rfl <;> rfl
theorem akX {α:Type} (f:Int -> α) (v:α) {i:Int} (h:0 <= i /\ i<8):Ur (α:=α) 8 (f 0,f 1,f 2,f 3,f 4,f 5,f 6,f 7) i v=(BK f i v 0,BK f i v 1,BK f i v 2,BK f i v 3,BK f i v 4,BK f i v 5,BK f i v 6,BK f i v 7):=by
 rcases in8 h with rfl | rfl | rfl | rfl | rfl | rfl | rfl | rfl <;> rfl
abbrev e0:je:=Qn (α:=Int) 6 0
theorem agp {k:Nat} {K:jd} {F:List iw} (hF:K.2.2.1=F) (hTW:∀ t∈F,TW t) {ev:List je} (hl:ev.length<k) (hle:ev.length <= 100000000000000000):∀ (m i j:Nat) (σ:CS) (p:Option je),i+m=ev.length -> m<j -> OKs F p σ (ev.drop i) -> (0<i -> p=some (ev.getD (i - 1) e0)) ->
  aaY k j K ev (σ.at_ 0) (σ.at_ 1) (σ.at_ 2) (σ.at_ 3) (σ.at_ 4) (σ.at_ 5) (σ.at_ 6) (σ.at_ 7) (σ.on 0) (σ.on 1) (σ.on 2) (σ.on 3) (σ.on 4) (σ.on 5) (σ.on 6) (σ.on 7) (i:Int)=(let τ:=(ev.drop i).foldl vv σ;VJ k k K (τ.at_ 0) (τ.at_ 1) (τ.at_ 2) (τ.at_ 3) (τ.at_ 4) (τ.at_ 5) (τ.at_ 6) (τ.at_ 7) (τ.on 0) (τ.on 1) (τ.on 2) (τ.on 3) (τ.on 4) (τ.on 5) (τ.on 6) (τ.on 7) 0 0)
 | 0,i,j,σ,p,hi,hj,ho,hp=>by
  obtain ⟨j,rfl⟩:∃ i,j=i+1:=⟨j - 1,by omega⟩
  rw [afi,afh,Sd (by omega),drop_nil (by omega)]
  rfl
 | m+1,i,j,σ,p,hi,hj,ho,hp=>by
  obtain ⟨j,rfl⟩:∃ i,j=i+1:=⟨j - 1,by omega⟩
  have hi':i<ev.length:=by omega
  rw [drop_cons e0 hi'] at ho ⊢
  obtain ⟨h1,ho2⟩:=ho
  have ih:=agp hF hTW hl hle m (i+1) j (vv σ (ev.getD i e0)) (some (ev.getD i e0)) (by omega) (by omega) ho2 (fun _=>by rw [Nat.add_sub_cancel])
  rw [afi,afh,Sc (by omega),Qo hi',Qp,List.foldl_cons]
  have aon:0<i -> ¬ (ev.getD i e0).1<(ev.getD (i - 1) e0).1:=fun q=>by have:=h1.ti.2.2 _ (hp q);omega
  generalize ev.getD i e0=e at h1 ih aon
  have htk:=h1.tk
  have hti:=h1.ti
  rw [Sd (by omega),Sd (by omega),Sd (by omega)]
  have main:aaW k (aaY k j) K ev (σ.at_ 0) (σ.at_ 1) (σ.at_ 2) (σ.at_ 3) (σ.at_ 4) (σ.at_ 5) (σ.at_ 6) (σ.at_ 7) (σ.on 0) (σ.on 1) (σ.on 2) (σ.on 3) (σ.on 4) (σ.on 5) (σ.on 6) (σ.on 7) (i:Int) e.1 e.2.1 e.2.2.1 e.2.2.2.1 e.2.2.2.2.1 e.2.2.2.2.2=(let τ:=(ev.drop (i+1)).foldl vv (vv σ e);VJ k k K (τ.at_ 0) (τ.at_ 1) (τ.at_ 2) (τ.at_ 3) (τ.at_ 4) (τ.at_ 5) (τ.at_ 6) (τ.at_ 7) (τ.on 0) (τ.on 1) (τ.on 2) (τ.on 3) (τ.on 4) (τ.on 5) (τ.on 6) (τ.on 7) 0 0):=by
   unfold aaW
   rw [Mi (by omega)]
   have hax:∀ {R:Type} (x:Option R),ax 8 e.2.2.1 x=x:=fun x=>Rw htk.1 (by show e.2.2.1<((8:Nat):Int);omega)
   simp only [hax]
   rw [agn σ.on false htk,agn σ.at_ 0 htk,akX σ.at_ e.1 htk,akX σ.on true htk,akX σ.on false htk]
   refine Eq.trans ?_ ih
   by_cases k1:e.2.1=1
   ·have hu:vv σ e=⟨BK σ.at_ e.2.2.1 e.1,BK σ.on e.2.2.1 true,BK σ.inn e.2.2.1 e.2.2.2.2.1,σ.out,BK σ.tu e.2.2.1 false⟩:=by unfold vv;rw [if_pos k1]
    rw [hu,show (e.2.1==1)=true from beq_iff_eq.2 k1,cond_true,h1.rel k1,cond_false]
   ·rw [beq_eq_false_iff_ne.2 k1,cond_false]
    have hend:∀ q:e.2.1=3 \/ e.2.1=4 \/ e.2.1=5 \/ e.2.1=7 \/ e.2.1=8,e.2.2.1<(K.2.2.1.length:Int) /\ 1 <= JK F e.2.2.1 /\ JK F e.2.2.1 <= 16384 /\ (rd K.2.2.1 e.2.2.1 bg).2.2.1=JK F e.2.2.1:=fun q=>by
     have hlen:=h1.len q
     have hm:=EF.1 (hTW _ (jm (z:=bg) (show e.2.2.1.toNat<F.length by omega))).may
     rw [hF]
     exact ⟨hlen,hm.2.2.1.1,by have a:=hm.2.2.1.2;have b:=hm.2.1.2;show (F.getD e.2.2.1.toNat bg).2.2.1 <= _;omega,rfl⟩
    by_cases k3:e.2.1=3
    ·have hu:vv σ e=⟨σ.at_,BK σ.on e.2.2.1 false,σ.inn,BK σ.out e.2.2.1 e.2.2.2.2.1,σ.tu⟩:=by unfold vv;rw [if_neg k1,if_pos k3]
     obtain ⟨d1,d2,d3,d4,_⟩:=h1.don k3
     obtain ⟨n1,n2,n3,n4⟩:=hend (.inl k3)
     rw [hu,show (e.2.1==3)=true from beq_iff_eq.2 k3,cond_true,d1,Bool.not_true,cond_false,Sd (by omega),Lj htk.1 n1,n4,Uu (by omega) (by omega),Sd (by omega)]
    ·rw [beq_eq_false_iff_ne.2 k3,cond_false]
     by_cases k5:e.2.1=5
     ·have hu:vv σ e=⟨σ.at_,BK σ.on e.2.2.1 false,σ.inn,σ.out,σ.tu⟩:=by unfold vv;rw [if_neg k1,if_neg k3,if_neg (by omega),if_pos k5]
      obtain ⟨d1,d2,d3⟩:=h1.mis k5
      obtain ⟨n1,n2,n3,n4⟩:=hend (.inr (.inr (.inl k5)))
      rw [hu,show (e.2.1==5)=true from beq_iff_eq.2 k5,cond_true,d1,Bool.not_true,cond_false,Sd (by omega),Lj htk.1 n1,n4,Uu (by omega) (by omega),<- d3,bne_self_eq_false,cond_false]
     ·rw [beq_eq_false_iff_ne.2 k5,cond_false]
      have hu:(vv σ e).at_=σ.at_ /\ (vv σ e).on=σ.on:=by
       unfold vv
       rw [if_neg k1,if_neg k3,if_neg k5]
       split
       ·exact ⟨rfl,rfl⟩
       ·split <;> exact ⟨rfl,rfl⟩
      rw [hu.1,hu.2]
  cases i with
  | zero=>rw [Sd (by omega)];exact main
  | succ i =>
   have hpv:=aon (by omega)
   rw [Nat.add_sub_cancel] at hpv
   rw [Sc (by omega),Uu (n:=((i+1:Nat):Int) - 1) (by omega) (by omega),show ((i+1:Nat):Int) - 1=(i:Int) by omega,Qo (by omega),Qp,Sd hpv]
   exact main
def cntF (f:Nat -> Bool):Nat -> Nat -> Nat
 | 0,_=>0
 | d+1,i=>(bif f i then 1 else 0)+cntF f d (i+1)
theorem abT (f:Nat -> Bool):∀ d i,cntF f d i=((List.range' i d).filter f).length
 | 0,_=>rfl
 | d+1,i=>by
  rw [cntF,abT f d (i+1),List.range'_succ,List.filter_cons]
  cases f i <;> simp;omega
theorem OV {k:Nat} {K:jd} {b:Int} (h8:K.2.2.2.2.2.2.2.1.length <= 8):∀ (d i j c:Nat),i+d=K.2.2.2.2.2.2.2.1.length -> d<j -> c <= i ->
  aaX k j K b (c:Int) (i:Int)=some ((b==((c+((K.2.2.2.2.2.2.2.1.drop i).filter (fun j=>j.2.2.2.1 != 2)).length:Nat):Int),()),())
 | 0,i,j,c,hi,hj,hc=>by
  obtain ⟨j,rfl⟩:∃ i,j=i+1:=⟨j - 1,by omega⟩
  rw [afe,afd,Sd (by omega),drop_nil (by omega)];rfl
 | d+1,i,j,c,hi,hj,hc=>by
  obtain ⟨j,rfl⟩:∃ i,j=i+1:=⟨j - 1,by omega⟩
  have hi':i<K.2.2.2.2.2.2.2.1.length:=by omega
  rw [afe,afd,Sc (by omega),Qo hi',Qp,Mi (by omega),Mi (by omega),drop_cons ay hi',List.filter_cons]
  cases (K.2.2.2.2.2.2.2.1.getD i ay).2.2.2.1 != 2 with
  | true =>
   rw [cond_true,OV h8 d (i+1) j (c+1) (by omega) (by omega) (by omega),if_pos rfl,List.length_cons,show c+1+((K.2.2.2.2.2.2.2.1.drop (i+1)).filter (fun j=>j.2.2.2.1 != 2)).length=c+(((K.2.2.2.2.2.2.2.1.drop (i+1)).filter (fun j=>j.2.2.2.1 != 2)).length+1) by omega]
  | false=>rw [cond_false,OV h8 d (i+1) j c (by omega) (by omega) (by omega),if_neg (by decide)]
theorem YV {k:Nat} {K:jd} {F:List iw} {σ:CS} (hk:1000 <= k) (hF:K.2.2.1=F) (hTW:∀ t∈F,TW t) (hi:IVK F σ K) (hn:K.1 <= 100000000):∀ (d i j y:Nat),i+d=8 -> d<j -> y <= i ->
  VJ k j K (σ.at_ 0) (σ.at_ 1) (σ.at_ 2) (σ.at_ 3) (σ.at_ 4) (σ.at_ 5) (σ.at_ 6) (σ.at_ 7) (σ.on 0) (σ.on 1) (σ.on 2) (σ.on 3) (σ.on 4) (σ.on 5) (σ.on 6) (σ.on 7) (y:Int) (i:Int)=aaX k k K ((y+cntF (fun n=>σ.on (n:Int)) d i:Nat):Int) 0 0
 | 0,i,j,y,hd,hj,hy=>by
  obtain ⟨j,rfl⟩:∃ i,j=i+1:=⟨j - 1,by omega⟩
  rw [afg,aff,Sd (by omega)];rfl
 | d+1,i,j,y,hd,hj,hy=>by
  obtain ⟨j,rfl⟩:∃ i,j=i+1:=⟨j - 1,by omega⟩
  have h8:0 <= (i:Int) /\ (i:Int)<8:=⟨by omega,by omega⟩
  rw [afg,aff,Sc (by omega),Rw h8.1 (by show (i:Int)<((8:Nat):Int);omega),Rw h8.1 (by show (i:Int)<((8:Nat):Int);omega),agn σ.on false h8,agn σ.at_ 0 h8,Mi (by omega),Mi (by omega),cntF]
  cases ho:σ.on (i:Int) with
  | false =>
   rw [cond_false,YV hk hF hTW hi hn d (i+1) j y (by omega) (by omega) (by omega),cond_false,Nat.zero_add]
  | true =>
   obtain ⟨x,hx,q1,q2⟩:=hi.iv.on _ ho
   obtain ⟨a,ha⟩:=hi.iv.job x hx
   have htk:=ha.jw.task
   obtain ⟨o1,o2,o3,o4⟩:=ha.act q2
   have ht0:=ha.t0
   rw [q1] at htk o2
   have hm:=EF.1 (hTW _ (jm (z:=bg) (show (i:Int).toNat<F.length by omega))).may
   have he1:1 <= JK F (i:Int):=hm.2.2.1.1
   have he2:JK F (i:Int) <= 16384:=by have a:=hm.2.2.1.2;have b:=hm.2.1.2;show (F.getD (i:Int).toNat bg).2.2.1 <= _;omega
   have ih:=YV hk hF hTW hi hn d (i+1) j (y+1) (by omega) (by omega) (by omega)
   rw [show y+1+cntF (fun n=>σ.on (n:Int)) d (i+1)=y+(1+cntF (fun n=>σ.on (n:Int)) d (i+1)) by omega] at ih
   rw [cond_true,cond_true]
   cases hha:K.2.2.2.2.2.1 with
   | true=>exact ih
   | false =>
    have hdl:=hi.dl hha x hx q2
    rw [q1] at hdl
    rw [Bool.not_false,cond_true,hF,Sd (by omega),Lj h8.1 htk.2,show (rd F (i:Int) bg).2.2.1=JK F (i:Int) from rfl,o2,Uu (by omega) (by omega),Sd (by omega)]
    exact ih
theorem ap3 {F:List iw} {σ:CS} {K:jd} (hi:IVK F σ K) (hF:F.length <= 8) (hr:rising K.2.2.2.2.2.2.2.1):cntF (fun n=>σ.on (n:Int)) 8 0=(K.2.2.2.2.2.2.2.1.filter (fun j=>j.2.2.2.1 != 2)).length:=by
 rw [abT,<- List.length_map (f:=fun j:jc=>j.1.toNat)]
 refine List.Perm.length_eq ((List.perm_ext_iff_of_nodup (List.Pairwise.filter _ List.nodup_range') ?_).2 (fun n=>?_))
 ·unfold List.Nodup
  rw [List.pairwise_map]
  refine List.Pairwise.imp_of_mem (R:=fun a b:jc=>a.1<b.1) (fun {a b} ha hb hab=>?_) (List.Pairwise.filter _ hr)
  obtain ⟨x,hx⟩:=hi.iv.job a (List.mem_filter.1 ha).1
  have:=hx.jw.task
  omega
 ·rw [List.mem_filter,List.mem_map]
  constructor
  ·rintro ⟨h1,h2⟩
   obtain ⟨j,hj,q1,q2⟩:=hi.iv.on _ h2
   exact ⟨j,List.mem_filter.2 ⟨hj,bne_iff_ne.2 q2⟩,by rw [q1];exact Int.toNat_natCast n⟩
  ·rintro ⟨j,hj,rfl⟩
   obtain ⟨h1,h2⟩:=List.mem_filter.1 hj
   obtain ⟨x,hx⟩:=hi.iv.job j h1
   have ht:=hx.jw.task
   refine ⟨by rw [List.mem_range'_1];omega,?_⟩
   rw [show ((j.1.toNat:Nat):Int)=j.1 by omega]
   exact (hx.act (bne_iff_ne.1 h2)).1
theorem topOnce_pure {e1 e2:TypeId} {p q:List Int} (hp:Ty.fine (.sl e1 (.int .u8)) p) (hq:Ty.fine (.sl e2 (.int .u8)) q) {k:Nat} (hk:10000000000000 <= k):S3 k p q=some ((true,()),()):=by
 unfold S3
 rw [apT (by omega)]
 simp only [Option.bind_some,Bool.not_true,cond_false]
 by_cases h1:(p.length:Int)>200
 ·rw [Sc h1]
 ·rw [Sd h1]
  by_cases h2:(q.length:Int)>250
  ·rw [Sc h2]
  ·rw [Sd h2]
   obtain ⟨a,n1,ea,ha,hal⟩:=apU (k:=k) (by omega) hp (by omega)
   obtain ⟨b,n2,eb,hb,hbl⟩:=anB (k:=k) (by omega) hq (by omega) (show 120 <= 500 by omega)
   have eb:S18 k q 0 120=_:=eb
   rw [agk,Option.bind_some]
   simp only
   rw [ea,Option.bind_some,agk,Option.bind_some]
   simp only
   rw [eb,Option.bind_some]
   simp only
   rw [Rz (by omega)]
   have hs:∀ s∈a++b,SW s:=fun s h=>by
    rcases List.mem_append.1 h with h | h
    ·exact ha s h
    ·exact hb s h
   have hl:(a++b).length <= 150:=by rw [List.length_append];omega
   generalize a++b=l at hs hl
   rw [apR (by omega) (by omega) (by omega) (by omega) hs,Option.bind_some]
   obtain ⟨w1,w2,w3⟩:=apS (k:=k) (ap:=30) hs
   obtain ⟨σ,al,iv,hn⟩:=akW (k:=k) (ap:=30) hs (by omega)
   generalize xu k 30 l=r at w1 w2 al iv hn
   simp only [Bool.not_true,cond_false]
   have e1:=agp (k:=k) (K:=r.1) rfl w1.task (ev:=r.2.1) (by omega) (by omega) r.2.1.length 0 k c0 none (by omega) (by omega) (by rw [List.drop_zero];exact al.ok) (fun q=>absurd q (by decide))
   refine Eq.trans e1 ?_
   rw [List.drop_zero,al.en]
   have e2:=YV (k:=k) (by omega) rfl w1.task iv (by omega) 8 0 k 0 (by omega) (by omega) (by omega)
   refine Eq.trans e2 ?_
   have e3:=OV (k:=k) (K:=r.1) (b:=((0+cntF (fun n=>σ.on (n:Int)) 8 0:Nat):Int)) w1.len r.1.2.2.2.2.2.2.2.1.length 0 k 0 (by omega) (by have:=w1.len;omega) (by omega)
   refine Eq.trans e3 ?_
   rw [List.drop_zero,ap3 iv w1.EK w1.MQ,beq_self_eq_true]
theorem topOnce_law {e1 e2:TypeId} (p q:List Int) (hp:Ty.fine (.sl e1 (.int .u8)) p) (hq:Ty.fine (.sl e2 (.int .u8)) q):∃ k,S3 k p q=some ((true,()),()):=⟨10000000000000,topOnce_pure hp hq (by omega)⟩
end Go.Proofs.YtjjjbcmjmkcedaaGreat.Ab
