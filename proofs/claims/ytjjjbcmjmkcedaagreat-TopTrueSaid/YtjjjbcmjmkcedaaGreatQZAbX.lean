import Derived.Test.YtjjjbcmjmkcedaaGreatQZAbX1
import Derived.KernelRfl
/- The plain law, and what it hangs on. -/
namespace Go.Proofs.YtjjjbcmjmkcedaaGreat.Ab
open Go.RowKit
set_option linter.unusedSimpArgs false
set_option linter.unusedVariables false
open Tr
theorem ahx (K:je):(ug K (-1) 0).1=K:=by
 unfold ug
 cases K.2.2.2.2.1 with
 | false=>rfl
 | true=>cases K.2.2.2.2.2.1 <;> rfl
theorem BK {k:Nat} (hk:1000 <= k) {K:je} (h:KW K):S30 k K (-1) 0=some ((K,(ug K (-1) 0).2.1,(ug K (-1) 0).2.2,()),()):=by
 have:=akM hk h (-1) 0
 rwa [ahx] at this
theorem anR {k:Nat} (hk:1000 <= k) {K:je} (h:KW K):S99 k K=some ((K,()),()):=by
 unfold S99
 rw [BK hk h,Option.bind_some]
theorem KW.y5 {K:je} (h:KW K) {T:Tb} (hT:yu T):KW (y5 K T):=⟨h.FE,h.task,h.bnd,hT,h.job,h.OI,h.row,h.off⟩
theorem akS {l:List iy} {t:iy} {ap:Int} (h:(inT l t ap).2.2=0):G7 t=0 /\ l.length<8 /\ (inT l t ap).1=BH l t /\ (inT l t ap).2.1.length=(BH l t).length:=by
 obtain ⟨g1,g2,g3,g4⟩:=apO h
 have hga:=WJ g3
 refine ⟨?_,?_,g1,by rw [g2,aga hga.1 hga.2];simp⟩
 ·by_cases q:G7 t=0
  ·exact q
  ·unfold inT at h;rw [if_pos q] at h;exact absurd h q
 ·unfold inT at h
  split at h
  ·rename_i q;exact absurd h q
  ·rw [if_neg (by rw [g4];decide)] at h
   split at h
   ·exact absurd h (by decide)
   ·rename_i q;omega
theorem anS {k:Nat} {T:Tb} (h:yu T) (c:Int):yu (BF k T c).1:=by
 unfold BF
 split
 ·exact h
 ·have htl:=ahb T.1
  obtain ⟨⟨h1,h2,h3⟩,h4⟩:=h
  refine ⟨⟨by rw [htl.1];exact h1,by rw [htl.2];exact h2,by simp only;rw [Mk];exact h3⟩,fun y hy=>?_⟩
  rcases List.mem_or_eq_of_mem_set hy with q | q
  ·exact h4 y q
  ·rw [q];exact ⟨by simp [zy,DT],by simp [zy,DT],by simp [zy,DT]⟩
theorem anT {T:Tb} (h:yu T) (g:Int×Int):yu (Wu T g):=by
 unfold Wu
 split
 ·obtain ⟨⟨h1,h2,h3⟩,h4⟩:=h
  refine ⟨⟨h1,by simp only;rw [Mk];exact h2,by simp only;rw [Mk];exact h3⟩,fun y hy=>?_⟩
  rcases List.mem_or_eq_of_mem_set hy with q | q
  ·exact h4 y q
  ·rw [q];exact afV
 ·exact h
def CW (c:Cl):Prop:=(zi c.2.1 /\ (c.2.1.2.2.2.1++c.2.1.2.2.2.2.1).length <= 900) /\ FY c.2.2.2.2.1
theorem akT {K:je} (h:KW K) {c:Cl} (hc:CW c):KW (KN K c).1:=by
 unfold KN
 cases hr:K.2.2.2.2.1 with
 | true=>exact h
 | false =>
  rw [cond_false]
  cases hz:(inT K.2.2.1 c.2.1 K.2.1).2.2==0 with
  | false=>exact h
  | true =>
   obtain ⟨g1,g2,g3,g4⟩:=akS (eq_of_beq hz)
   obtain ⟨o1,o2,o3⟩:=h.off hr
   have hl:=UF K.2.2.1 c.2.1
   rw [cond_true]
   refine ⟨?_,?_,?_,h.tab,?_,?_,fun e=>absurd (hr.symm.trans e) (by decide),fun _=>⟨o1,o2,o3⟩⟩
   ·show (inT K.2.2.1 c.2.1 K.2.1).1.length <= 8
    rw [g3];omega
   ·intro t ht
    have ht:t∈BH K.2.2.1 c.2.1:=by rw [<- g3];exact ht
    unfold BH at ht
    rcases List.mem_append.1 ht with ht | ht
    ·rcases List.mem_append.1 ht with ht | ht
     ·exact h.task t (List.mem_of_mem_take ht)
     ·rw [List.mem_singleton] at ht;rw [ht];exact ⟨hc.1,g1⟩
    ·exact h.task t (List.mem_of_mem_drop ht)
   ·show (inT K.2.2.1 c.2.1 K.2.1).2.1.length=(inT K.2.2.1 c.2.1 K.2.1).1.length
    rw [g3];exact g4
   ·intro j hj
    have hj:j∈K.2.2.2.2.2.2.2.1:=hj
    rw [o1] at hj;cases hj
   ·show rising K.2.2.2.2.2.2.2.1
    exact h.OI
theorem akU {k:Nat} {K:je} (h:KW K):KW (I6 k K).1:=by
 unfold I6
 cases hz:(uh k K).2==0 with
 | false=>exact h
 | true =>
  rw [cond_true]
  unfold uh at hz ⊢
  cases hr:K.2.2.2.2.1 with
  | true=>rw [hr] at hz;exact absurd (show ((7:Int)==0)=true from hz) (by decide)
  | false =>
   rw [hr,cond_false] at hz
   rw [cond_false]
   obtain ⟨o1,o2,o3⟩:=h.off hr
   cases hl:K.2.2.1.any (HY (kg K.2.2.2.2.2.2.2.2.1).length) with
   | true=>rw [hl] at hz;exact absurd (show ((4:Int)==0)=true from hz) (by decide)
   | false =>
    have hT:=(UM (k:=k) h.tab (agp K.2.2.1 (kg K.2.2.2.2.2.2.2.2.1))).1
    refine ⟨h.FE,h.task,h.bnd,hT,h.job,h.OI,fun _=>⟨List.length_replicate ..,List.length_replicate ..⟩,fun e=>absurd (show (true:Bool)=false from e) (by decide)⟩
theorem ags {k:Nat} {K:je} (h:KW K) {c:Cl} (hc:CW c):KW (zo k K c).1:=by
 have hT:=h.tab
 have mk:KW (zn k K c).1:=by
  unfold zn
  cases (c.1==2)&&K.2.2.2.2.1 with
  | true=>exact h
  | false =>
   rw [cond_false]
   cases (BF k K.2.2.2.2.2.2.2.2.1 (c.1 - 1)).2.2 with
   | true=>exact h.y5 (anS hT _)
   | false=>exact h
 unfold zo
 cases c.1==1 with
 | true=>exact akT h hc
 | false =>
 cases c.1==2 with
 | true=>exact mk
 | false =>
 cases c.1==3 with
 | true=>exact mk
 | false =>
 cases c.1==4 with
 | true=>exact mk
 | false =>
 cases c.1==5 with
 | true=>exact akU h
 | false =>
 cases c.1==6 with
 | true=>exact ap4 h hc.2
 | false =>
 cases c.1==7 with
 | true =>
  simp only [cond_true,cond_false]
  unfold UY
  dsimp only
  cases hx:MK K.2.2.2.2.2.2.2.2.1 c.2.2.1 2 with
  | false=>exact h
  | true =>
   have hs:=FM hT hx
   have hp:=WR ⟨hs.1,hs.2.1⟩ c.2.2.2.2.1
   simp only [Bool.not_true,cond_false]
   cases (BJ (rd K.2.2.2.2.2.2.2.2.1.2 c.2.2.1.1 j6).2.2.2.1 c.2.2.2.2.1).2.2 with
   | false=>exact h
   | true=>exact h.y5 (U5 hT ⟨hp.1,hp.2,hs.2.2⟩)
 | false =>
 cases c.1==8 with
 | true =>
  simp only [cond_true,cond_false]
  unfold UZ
  dsimp only
  cases hx:MK K.2.2.2.2.2.2.2.2.1 c.2.2.1 2 with
  | false=>exact h
  | true =>
   have hs:=FM hT hx
   have hp:=WS ⟨hs.1,hs.2.1⟩ c.2.2.2.1
   simp only [Bool.not_true,cond_false]
   cases (takeB (rd K.2.2.2.2.2.2.2.2.1.2 c.2.2.1.1 j6).2.2.2.1 c.2.2.2.1).2.2.2 with
   | false=>exact h
   | true=>exact h.y5 (U5 hT ⟨hp.1,hp.2,hs.2.2⟩)
 | false =>
 cases c.1==9 with
 | true =>
  simp only [cond_true,cond_false]
  unfold KO
  dsimp only
  cases hx:MK K.2.2.2.2.2.2.2.2.1 c.2.2.1 3 with
  | false=>exact h
  | true =>
   have hs:=FM hT hx
   have hp:=KR hs.2.2 c.2.2.2.2.2
   exact h.y5 (U5 hT ⟨hs.1,hs.2.1,hp.1⟩)
 | false =>
 cases c.1==10 with
 | true =>
  simp only [cond_true,cond_false]
  unfold KP
  dsimp only
  cases hx:MK K.2.2.2.2.2.2.2.2.1 c.2.2.1 3 with
  | false=>exact h
  | true =>
   have hs:=FM hT hx
   have hp:=V4 hs.2.2 c.2.2.2.1 c.2.2.2.2.2
   simp only [Bool.not_true,cond_false]
   cases (BP (rd K.2.2.2.2.2.2.2.2.1.2 c.2.2.1.1 j6).2.2.2.2.1 c.2.2.2.1 c.2.2.2.2.2).2.2 with
   | false=>exact h
   | true=>exact h.y5 (U5 hT ⟨hs.1,hs.2.1,hp⟩)
 | false =>
 cases c.1==11 with
 | true =>
  simp only [cond_true,cond_false]
  unfold V3
  dsimp only
  cases hx:acU K.2.2.2.2.2.2.2.2.1 c.2.2.1 with
  | false=>exact h
  | true=>exact h.y5 (anT hT _)
 | false=>exact h
theorem ap8 {k:Nat} (hk:20000 <= k) {K:je} (h:KW K) {c:Cl} (hc:CW c):S41 k K c=some (((zo k K c).1,(zo k K c).2.1,(zo k K c).2.2,()),()):=by
 have hT:=h.tab
 have JF:=ags (k:=k) h hc
 have hk1:1000 <= k:=by omega
 have fin:∀ (x:Option (Unit×_×Unit)) (r:CR),KW r.1 -> x=some ((),BR (asR c r),()) -> (x.bind fun q=>(S99 k (qh q.2.1).1).bind fun p=>some ((p.1.1,(qh q.2.1).2.2.1,(qh q.2.1).2.2.2,()),()))=some ((r.1,r.2.1,r.2.2,()),()):=fun x r hr e=>by
  rw [e,Option.bind_some]
  simp only [vrA]
  rw [show (asR c r).1=r.1 from rfl,anR hk1 hr,Option.bind_some]
  rfl
 unfold S41
 unfold zo at JF ⊢
 cases h1:c.1==1 with
 | true =>
  rw [h1] at JF
  refine fin _ _ JF ?_
  unfold S89 KN
  show (bif K.2.2.2.2.1 then _ else _)=_
  cases K.2.2.2.2.1 with
  | true=>rfl
  | false =>
   have hi:=anj hk (l:=K.2.2.1) (t:=c.2.1) ⟨h.light,by have:=h.FE;omega,hc.1⟩ K.2.1
   rw [cond_false,cond_false]
   refine (congrArg (fun x=>Option.bind x _) hi).trans ?_
   rw [Option.bind_some]
   simp only
   cases hz:(inT K.2.2.1 c.2.1 K.2.1).2.2==0 with
   | true=>rw [cond_true,cond_true,eq_of_beq hz];rfl
   | false=>rfl
 | false =>
 rw [h1,cond_false] at JF
 cases h2:c.1==2 with
 | true=>rw [h2] at JF;exact fin _ _ JF (V5 hk1 hT (.inl (eq_of_beq h2)))
 | false =>
 rw [h2,cond_false] at JF
 cases h3:c.1==3 with
 | true=>rw [h3] at JF;exact fin _ _ JF (V5 hk1 hT (.inr (.inl (eq_of_beq h3))))
 | false =>
 rw [h3,cond_false] at JF
 cases h4:c.1==4 with
 | true=>rw [h4] at JF;exact fin _ _ JF (V5 hk1 hT (.inr (.inr (eq_of_beq h4))))
 | false =>
 rw [h4,cond_false] at JF
 cases h5:c.1==5 with
 | true=>rw [h5] at JF;exact fin _ _ JF (start_eq hk1 h)
 | false =>
 rw [h5,cond_false] at JF
 cases h6:c.1==6 with
 | true =>
  rw [h6] at JF
  refine fin _ _ JF ?_
  unfold S92
  have e:=akM hk1 h c.2.2.2.1 c.2.2.2.2.1
  refine (congrArg (fun x=>Option.bind x _) e).trans ?_
  rfl
 | false =>
 rw [h6,cond_false] at JF
 cases h7:c.1==7 with
 | true=>rw [h7] at JF;exact fin _ _ JF (post_eq hk1 hT)
 | false =>
 rw [h7,cond_false] at JF
 cases h8:c.1==8 with
 | true=>rw [h8] at JF;exact fin _ _ JF (anQ hk1 hT)
 | false =>
 rw [h8,cond_false] at JF
 cases h9:c.1==9 with
 | true=>rw [h9] at JF;exact fin _ _ JF (akR hk1 hT)
 | false =>
 rw [h9,cond_false] at JF
 cases h10:c.1==10 with
 | true=>rw [h10] at JF;exact fin _ _ JF (akQ hk1 hT)
 | false =>
 rw [h10,cond_false] at JF
 cases h11:c.1==11 with
 | true=>rw [h11] at JF;exact fin _ _ JF (free_eq hk1 hT)
 | false=>exact fin _ (err K 1) h rfl
theorem akV (u:jh) (j:jd):(sw u j).2.1.2.length <= u.2.length+2:=by
 unfold sw
 cases j.2.2.2.1==2 with
 | true=>simp [j5]
 | false =>
  cases (j.2.2.2.1==0)&&decide (((u.1.2.2.1.getD j.1.toNat bg).2.2.2.2.1.length:Int)>0) <;> simp [agj,j5]
theorem anU (k:Nat) (u:jh) (j:jd):(G8 k u j).2.1.2.length <= u.2.length+3:=by
 unfold G8
 cases u.1.2.2.2.2.2.2.1 with
 | true=>rw [cond_true];unfold MH;simp [j5]
 | false =>
  rw [cond_false]
  unfold JX
  simp only
  generalize pz (qo ((j5 u (0,2,j.1,0,0,0)).1.2.2.1.getD j.1.toNat bg) j.2.2.2.1) j.2.2.2.2.1=x
  have fin:∀ v:jh,v.2.length=u.2.length+1 -> ((bif (y8 ((j5 u (0,2,j.1,0,0,0)).1.2.2.1.getD j.1.toNat bg) j).2.2.2.2.1.2.2.2 then sw v (y8 ((j5 u (0,2,j.1,0,0,0)).1.2.2.1.getD j.1.toNat bg) j) else (false,v,y8 ((j5 u (0,2,j.1,0,0,0)).1.2.2.1.getD j.1.toNat bg) j)):MF).2.1.2.length <= u.2.length+3:=fun v hv=>by
   cases (y8 ((j5 u (0,2,j.1,0,0,0)).1.2.2.1.getD j.1.toNat bg) j).2.2.2.2.1.2.2.2 with
   | false=>rw [cond_false];show v.2.length <= _;omega
   | true=>rw [cond_true];have:=akV v (y8 ((j5 u (0,2,j.1,0,0,0)).1.2.2.1.getD j.1.toNat bg) j);omega
  have h1:(j5 u (0,2,j.1,0,0,0)).2.length=u.2.length+1:=by simp [j5]
  cases x.1==9 with
  | true=>exact fin _ h1
  | false=>cases x.1==10 with
   | true=>exact fin _ h1
   | false=>exact fin _ h1
theorem Z4 {k:Nat} {K:je} (h:KW K):(l7 k K).2.length <= 100003:=by
 unfold l7
 cases hc:K.2.2.2.2.1&&!K.2.2.2.2.2.1 with
 | false=>simp
 | true =>
  rw [Bool.and_eq_true] at hc
  have he:=((h.kj hc.1).ahead k).ev
  rw [cond_true]
  show (zm k (oq k K)).2.length <= _
  unfold zm
  cases (oq k K).1.2.2.2.2.2.1||(oq k K).1.2.2.2.2.2.2.2.1.isEmpty with
  | true=>rw [cond_true];omega
  | false =>
   rw [cond_false]
   have:=anU k (oq k K) ((oq k K).1.2.2.2.2.2.2.2.1.getD (HV (oq k K).1.2.2.2.2.2.2.2.1 ((oq k K).1.2.2.1.length:Int) (kg (oq k K).1.2.2.2.2.2.2.2.2.1)) ay)
   simp only;omega
noncomputable def su (k:Nat):Nat -> je×List jf -> je×List jf
 | 0,s=>s
 | n+1,s=>su k n ((l7 k s.1).1,s.2++(l7 k s.1).2)
theorem abU {k:Nat}:∀ (n:Nat) (s:je×List jf),KW s.1 -> KW (su k n s).1 /\ (su k n s).2.length <= s.2.length+100003 * n
 | 0,s,h=>⟨h,Nat.le_refl _⟩
 | n+1,s,h=>by
  have h1:=(FL (k:=k) h).1
  have h2:=Z4 (k:=k) h
  obtain ⟨a,b⟩:=abU n ((l7 k s.1).1,s.2++(l7 k s.1).2) h1
  exact ⟨a,by rw [su];simp only [List.length_append] at b;omega⟩
noncomputable def JY (k:Nat) (K:je) (s:Stp):CR :=
 bif s.1==1 then zo k K s.2.1
 else bif s.1==2 then ((l7 k K).1,(l7 k K).2,0,(0,0),0)
 else bif s.1==3 then err (w6 K true) 0
 else bif s.1==4 then (bif EA K.2.2.2.2.2.2.2.2.1 s.2.2.1 then err (y5 K (abr K.2.2.2.2.2.2.2.2.1 s.2.2.1)) 0 else err K 3)
 else bif s.1==5 then (bif decide (s.2.2.2<0)||decide (s.2.2.2>10000) then err K 1 else ((su k s.2.2.2.toNat (K,[])).1,(su k s.2.2.2.toNat (K,[])).2,0,(0,0),0))
 else err K 1
theorem anV {k:Nat} {K:je} (h:KW K) (c:Cl):(zo k K c).2.1.length <= 300:=by
 have hT:=h.tab
 have z:∀ e:Int,(err K e).2.1.length <= 300:=fun e=>by simp [err]
 have mk:(zn k K c).2.1.length <= 300:=by
  unfold zn
  cases (c.1==2)&&K.2.2.2.2.1 with
  | true=>exact z 7
  | false=>cases (BF k K.2.2.2.2.2.2.2.2.1 (c.1 - 1)).2.2 <;> simp [err]
 unfold zo
 cases c.1==1 with
 | true =>
  simp only [cond_true]
  unfold KN
  cases K.2.2.2.2.1 with
  | true=>exact z 7
  | false=>cases (inT K.2.2.1 c.2.1 K.2.1).2.2==0 <;> simp [err]
 | false =>
 cases c.1==2 with
 | true=>exact mk
 | false =>
 cases c.1==3 with
 | true=>exact mk
 | false =>
 cases c.1==4 with
 | true=>exact mk
 | false =>
 cases c.1==5 with
 | true =>
  simp only [cond_true,cond_false]
  unfold I6
  cases (uh k K).2==0 <;> simp [err]
 | false =>
 cases c.1==6 with
 | true =>
  simp only [cond_true,cond_false]
  unfold anP
  rcases JA h.OI c.2.2.2.1 c.2.2.2.2.1 with ⟨_,e,_⟩ | ⟨_,_,_,_,n,_,_,_,_,q | q⟩
  ·simp only;rw [e];simp
  ·simp only;rw [q.2.2];simp
  ·simp only;rw [q.2.2.2];simp
 | false =>
 cases c.1==7 with
 | true =>
  simp only [cond_true,cond_false]
  unfold UY
  dsimp only
  cases !MK K.2.2.2.2.2.2.2.2.1 c.2.2.1 2 with
  | true=>exact z 3
  | false =>
   rw [cond_false]
   cases !(BJ (rd K.2.2.2.2.2.2.2.2.1.2 c.2.2.1.1 j6).2.2.2.1 c.2.2.2.2.1).2.2 with
   | true=>exact z 4
   | false=>cases decide ((BJ (rd K.2.2.2.2.2.2.2.2.1.2 c.2.2.1.1 j6).2.2.2.1 c.2.2.2.2.1).2.1>0) <;> simp
 | false =>
 cases c.1==8 with
 | true =>
  simp only [cond_true,cond_false]
  unfold UZ
  dsimp only
  cases !MK K.2.2.2.2.2.2.2.2.1 c.2.2.1 2 with
  | true=>exact z 3
  | false=>cases !(takeB (rd K.2.2.2.2.2.2.2.2.1.2 c.2.2.1.1 j6).2.2.2.1 c.2.2.2.1).2.2.2 <;> simp [err]
 | false =>
 cases c.1==9 with
 | true =>
  simp only [cond_true,cond_false]
  unfold KO
  dsimp only
  cases hx:MK K.2.2.2.2.2.2.2.2.1 c.2.2.1 3 with
  | false=>exact z 3
  | true =>
   have hp:=(KR (FM hT hx).2.2 c.2.2.2.2.2).2
   simp only [Bool.not_true,cond_false,abS,List.length_map];omega
 | false =>
 cases c.1==10 with
 | true =>
  simp only [cond_true,cond_false]
  unfold KP
  dsimp only
  cases !MK K.2.2.2.2.2.2.2.2.1 c.2.2.1 3 with
  | true=>exact z 3
  | false=>cases !(BP (rd K.2.2.2.2.2.2.2.2.1.2 c.2.2.1.1 j6).2.2.2.2.1 c.2.2.2.1 c.2.2.2.2.2).2.2 <;> simp [err]
 | false =>
 cases c.1==11 with
 | true =>
  simp only [cond_true,cond_false]
  unfold V3
  dsimp only
  cases hx:acU K.2.2.2.2.2.2.2.2.1 c.2.2.1 with
  | false=>exact z 3
  | true =>
   unfold acU DJ at hx
   simp only [Bool.and_eq_true] at hx
   obtain ⟨h0,h1,h2⟩:=DI hx.1.2
   have hs:=hT.2 _ (O8 h0 h1)
   simp only [Bool.not_true,cond_false,List.length_map]
   unfold xu
   rw [List.length_append,List.length_map];have:=hs.2.1;have:=hs.2.2;omega
 | false=>exact z 1
theorem agt {k:Nat} {K:je} (h:KW K) {s:Stp} (hs:SW s):KW (JY k K s).1 /\ (JY k K s).2.1.length <= 1000030000:=by
 have z:KW K /\ (0:Nat) <= 1000030000:=⟨h,by omega⟩
 unfold JY
 cases s.1==1 with
 | true=>exact ⟨ags h ⟨hs.light,hs.arg⟩,by have:=anV (k:=k) h s.2.1;simp only [cond_true];omega⟩
 | false =>
 cases s.1==2 with
 | true=>exact ⟨(FL h).1,by have:=Z4 (k:=k) h;simp only [cond_true,cond_false];omega⟩
 | false =>
 cases s.1==3 with
 | true=>exact ⟨⟨h.FE,h.task,h.bnd,h.tab,h.job,h.OI,h.row,h.off⟩,by simp [err]⟩
 | false =>
 cases s.1==4 with
 | true =>
  simp only [cond_true,cond_false]
  cases EA K.2.2.2.2.2.2.2.2.1 s.2.2.1 with
  | true=>exact ⟨h.y5 (afY h.tab),by simp [err]⟩
  | false=>exact ⟨h,by simp [err]⟩
 | false =>
 cases s.1==5 with
 | true =>
  simp only [cond_true,cond_false]
  cases hn:decide (s.2.2.2<0)||decide (s.2.2.2>10000) with
  | true=>exact ⟨h,by simp [err]⟩
  | false =>
   rw [Bool.or_eq_false_iff] at hn
   have n1:=of_decide_eq_false hn.1
   have n2:=of_decide_eq_false hn.2
   obtain ⟨a,b⟩:=abU (k:=k) s.2.2.2.toNat (K,[]) h
   exact ⟨a,by simp only [cond_false];simp only [List.length_nil] at b;omega⟩
 | false=>exact ⟨h,by simp [err]⟩
theorem abV {k:Nat} (hk:20000 <= k) {b c:Int} {e f g:Bool} {i l m n o p s t:Int} {N:Nat} (hN:N <= 10000):∀ (d x j:Nat) (K:je) (ev:List jf),x+d=N -> d<j -> KW K -> ev.length <= 100003 * x ->
  Yh k j K b c e f g i l m n o p s t ev (N:Int) (x:Int)=some (((su k d (K,ev)).1,(su k d (K,ev)).2,(o,(p,s),t),()),())
 | 0,x,j,K,ev,hx,hj,h,he=>by
  obtain ⟨j,rfl⟩:∃ i,j=i+1:=⟨j - 1,by omega⟩
  rw [aaZ,Yg,Sd (by omega),BK (by omega) h,Option.bind_some]
  rfl
 | d+1,x,j,K,ev,hx,hj,h,he=>by
  obtain ⟨j,rfl⟩:∃ i,j=i+1:=⟨j - 1,by omega⟩
  have h2:=Z4 (k:=k) h
  rw [aaZ,Yg,Sc (by omega),agq (by omega) h,Option.bind_some]
  simp only
  rw [Rz (by omega),Mi (by omega),su]
  exact abV hk hN d (x+1) j (l7 k K).1 (ev++(l7 k K).2) (by omega) (by omega) (FL h).1 (by rw [List.length_append];omega)
theorem ap9 {k:Nat} (hk:20000 <= k) {K:je} (h:KW K) {s:Stp} (hs:SW s):S45 k K s=some (((JY k K s).1,(JY k K s).2.1,(JY k K s).2.2,()),()):=by
 have hk1:1000 <= k:=by omega
 unfold S45 JY
 cases s.1==1 with
 | true =>
  rw [cond_true,cond_true,ap8 hk h ⟨hs.light,hs.arg⟩,Option.bind_some]
 | false =>
 cases s.1==2 with
 | true=>simp only [cond_true,cond_false];rw [agq hk1 h,Option.bind_some]
 | false =>
 cases s.1==3 with
 | true =>
  simp only [cond_true,cond_false]
  rw [BK hk1 (K:=w6 K true) ⟨h.FE,h.task,h.bnd,h.tab,h.job,h.OI,h.row,h.off⟩,Option.bind_some];rfl
 | false =>
 cases s.1==4 with
 | true =>
  simp only [cond_true,cond_false]
  rw [amQ hk1 h.tab,Option.bind_some]
  simp only
  cases EA K.2.2.2.2.2.2.2.2.1 s.2.2.1 with
  | true =>
   have e:=BK hk1 (h.y5 (afY (i:=s.2.2.1) h.tab))
   simp only [Bool.not_true,cond_false,cond_true]
   refine (congrArg (fun x=>Option.bind x _) e).trans ?_
   rfl
  | false=>simp only [Bool.not_false,cond_true,cond_false];rw [BK hk1 h,Option.bind_some];rfl
 | false =>
 cases s.1==5 with
 | true =>
  simp only [cond_true,cond_false]
  by_cases n1:s.2.2.2<0
  ·rw [Sc n1,decide_eq_true n1,BK hk1 h,Option.bind_some];rfl
  ·rw [Sd n1,decide_eq_false n1,Bool.false_or]
   by_cases n2:s.2.2.2>10000
   ·rw [Sc n2,Sc n2,BK hk1 h,Option.bind_some];rfl
   ·rw [Sd n2,Sd n2]
    have e:=abV (k:=k) hk (b:=0) (c:=0) (e:=false) (f:=false) (g:=false) (i:=0) (l:=0) (m:=0) (n:=0) (o:=0) (p:=0) (s:=0) (t:=0) (N:=s.2.2.2.toNat) (by omega) s.2.2.2.toNat 0 k K [] (by omega) (by omega) h (by simp)
    rw [show ((s.2.2.2.toNat:Nat):Int)=s.2.2.2 by omega] at e
    exact e
 | false=>simp only [cond_false];rw [BK hk1 h,Option.bind_some];rfl
noncomputable def qj (k:Nat):List Stp -> je×List jf×List Rly -> je×List jf×List Rly
 | [],r=>r
 | s::l,r=>qj k l ((JY k r.1 s).1,r.2.1++(JY k r.1 s).2.1,r.2.2++[(JY k r.1 s).2.2])
theorem abW {k:Nat}:∀ (l:List Stp) (r:je×List jf×List Rly),(∀ s∈l,SW s) -> KW r.1 -> KW (qj k l r).1 /\ (qj k l r).2.1.length <= r.2.1.length+1000030000 * l.length /\ (qj k l r).2.2.length=r.2.2.length+l.length
 | [],r,_,h=>⟨h,by simp [qj],by simp [qj]⟩
 | s::l,r,hl,h=>by
  obtain ⟨g1,g2⟩:=agt (k:=k) h (hl s (by simp))
  obtain ⟨a,b,c⟩:=abW l ((JY k r.1 s).1,r.2.1++(JY k r.1 s).2.1,r.2.2++[(JY k r.1 s).2.2]) (fun x hx=>hl x (by simp [hx])) g1
  refine ⟨a,?_,?_⟩
  ·rw [qj];simp only [List.length_append,List.length_cons] at b ⊢;omega
  ·rw [qj];simp only [List.length_append,List.length_cons,List.length_nil] at c ⊢;omega
def arj:Tb:=newT
def Vi (ap:Int):je:=(0,ap,[],[],false,false,false,[],arj,[],[])
theorem aqa (k:Nat) {ap:Int} (h1:1 <= ap) (h2:ap <= 4611686018427387904):S36 k ap=some ((Vi ap,true,()),()):=by
 unfold S36
 rw [Sd (by omega),Sd (by omega)]
 rfl
theorem acV (ap:Int):KW (Vi ap):=⟨by simp [Vi],(fun t h=>by simp [Vi] at h),rfl,amX,(fun j h=>by simp [Vi] at h),List.Pairwise.nil,(fun h=>by simp [Vi] at h),fun _=>⟨rfl,rfl,rfl⟩⟩
theorem akW {k:Nat} (hk:20000 <= k) {l:List Stp} (hl:l.length <= 1000) (hs:∀ s∈l,SW s):∀ (m i j:Nat) (r:je×List jf×List Rly),i+m=l.length -> m<j -> KW r.1 -> r.2.1.length <= 1000030000 * i -> r.2.2.length <= i ->
  ae8 k j r.1 r.2.1 r.2.2 l (l.length:Int) (i:Int)=some (((qj k (l.drop i) r).1,(qj k (l.drop i) r).2.1,(qj k (l.drop i) r).2.2,true,()),())
 | 0,i,j,r,hi,hj,h,h1,h2=>by
  obtain ⟨j,rfl⟩:∃ i,j=i+1:=⟨j - 1,by omega⟩
  rw [ae9,ae7,Sd (by omega),drop_nil (by omega)]
  rfl
 | m+1,i,j,r,hi,hj,h,h1,h2=>by
  obtain ⟨j,rfl⟩:∃ i,j=i+1:=⟨j - 1,by omega⟩
  have hi':i<l.length:=by omega
  have hsw:=hs _ (jo (z:=bq) hi')
  obtain ⟨g1,g2⟩:=agt (k:=k) h hsw
  rw [ae9,ae7,Sc (by omega),Qo hi',Qp,ap9 hk h hsw,Option.bind_some]
  simp only
  rw [Rz (by omega),Rz (by simp only [List.length_cons,List.length_nil];omega),Mi (by omega),drop_cons bq hi',qj]
  exact akW hk hl hs m (i+1) j ((JY k r.1 (l.getD i bq)).1,r.2.1++(JY k r.1 (l.getD i bq)).2.1,r.2.2++[(JY k r.1 (l.getD i bq)).2.2]) (by omega) (by omega) g1 (by simp only [List.length_append];omega) (by simp only [List.length_append,List.length_cons,List.length_nil];omega)
noncomputable def xw (k:Nat) (ap:Int) (l:List Stp):je×List jf×List Rly:=qj k l (Vi ap,[],[])
theorem aqb {k:Nat} (hk:20000 <= k) {ap:Int} (h1:1 <= ap) (h2:ap <= 4611686018427387904) {l:List Stp} (hl:l.length <= 1000) (hs:∀ s∈l,SW s):S19 k ap l=some (((xw k ap l).1,(xw k ap l).2.1,(xw k ap l).2.2,true,()),()):=by
 unfold S19
 rw [aqa k h1 h2,Option.bind_some]
 have:=akW hk hl hs l.length 0 k (Vi ap,[],[]) (by omega) (by omega) (acV ap) (by simp) (by simp)
 rw [List.drop_zero] at this
 exact this
theorem aqc {k:Nat} {ap:Int} {l:List Stp} (hs:∀ s∈l,SW s):KW (xw k ap l).1 /\ (xw k ap l).2.1.length <= 1000030000 * l.length /\ (xw k ap l).2.2.length=l.length:=by
 have:=abW (k:=k) l (Vi ap,[],[]) hs (acV ap)
 unfold xw
 simpa using this
theorem aqd {k:Nat} (hk:20000 <= k):S15 k=some ((true,()),()):=by
 obtain ⟨k,rfl⟩:∃ m,k=m+20000:=⟨k - 20000,by omega⟩
 kernel_rfl
theorem agu (k:Nat) (p:List Int):S16 k p=some (((p,0,()),()),()):=rfl
theorem aqe {e:TypeId} {k:Nat} (hk:1000 <= k) {p:List Int} (hp:Ty.fine (.sl e (.int .u8)) p) (h:p.length <= 1000):∃ (l:List Stp) (n:Int),S17 k p 0=some ((l,()),(p,n,()),()) /\ (∀ s∈l,SW s) /\ l.length <= 10:=by
 obtain ⟨l,n,e,_,h1,h2⟩:=akN hk (abe hp h)
 exact ⟨l,n,e,h1,h2⟩
theorem anW {e:TypeId} {k:Nat} (hk:1000 <= k) {p:List Int} (hp:Ty.fine (.sl e (.int .u8)) p) (h:p.length <= 1000) {c:Nat} (hc:c <= 500):∃ (l:List Stp) (n:Int),S18 k p 0 (c:Int)=some ((l,()),(p,n,()),()) /\ (∀ s∈l,SW s) /\ l.length <= 10+c:=by
 obtain ⟨l,n,e,_,h1,h2⟩:=ap7 hk (abe hp h) hc
 exact ⟨l,n,e,h1,h2⟩
noncomputable def ahy (k j:Nat) (l:List I4) (n:Int) (ok:Bool) (pc:Int) (mem:Mem) (R:List gu) (ov:Bool):Option ((Int×Int×Bool×Unit)×Unit) :=
 afl k j l n ok pc mem.1 mem.2.1 mem.2.2.1 mem.2.2.2.1 mem.2.2.2.2.1 mem.2.2.2.2.2.1 mem.2.2.2.2.2.2.1 mem.2.2.2.2.2.2.2 R.reverse ov
theorem WT {k:Nat} (hk:1000 <= k) {j:Nat} {l:List I4} {n:Nat} {mem:Mem} {R:List gu} {s:Int}
  (hl:l.length <= 900) (hn:n<l.length) (hx:l5 (l.getD n i0)=true) (hR:R.length <= 100) (hb:∀ r∈R,r.2.2 <= 1000) (hm:inM mem) (h0:0 <= s) (hs:s <= 1000000) :
  ahy k (j+1) l s true n mem R false=ahy k j l (s+1) true (go (l.getD n i0) n mem R).1 (R8 (l.getD n i0) mem) (go (l.getD n i0) n mem R).2 ((l.getD n i0).1==0):=by
 unfold ahy
 rw [afm,afk]
 have hst:acu k l ((n:Int),(mem.1,mem.2.1,mem.2.2.1,mem.2.2.2.1,mem.2.2.2.2.1,mem.2.2.2.2.2.1,mem.2.2.2.2.2.2.1,mem.2.2.2.2.2.2.2),R.reverse,false)=_:=afR hk hl hn hx hR hb hm
 rw [Bool.not_false,cond_true,cond_true,hst,Option.bind_some,Uu (by omega) (by omega)]
theorem akX {k:Nat} (hk:1000 <= k) {l:List I4} (hl:l.length <= 900) (hm:∀ x∈l,l5 x=true) {n:Nat} {mem:Mem} {R:List gu} {tr:List I4} {n2:Nat} {mem2:Mem} {R2:List gu}
  (h:Run l n mem R tr n2 mem2 R2):∀ (j:Nat) (s:Int),inM mem -> 0 <= s -> s+tr.length <= 1000000 ->
  ahy k (j+tr.length) l s true n mem R false=ahy k j l (s+tr.length) true n2 mem2 R2 false /\ inM mem2:=by
 induction h with
 | nil n mem R=>intro j s h1 h2 h3;exact ⟨by simp,h1⟩
 | @cons n mem R x n1 R1 tr n2 mem2 R2 q1 q2 q3 q4 q5 q6 q7 _ ih =>
  intro j s h1 h2 h3
  simp only [List.length_cons] at h3 ⊢
  have hx:=hm _ (jo (z:=i0) q1)
  subst q2
  have hst:=WT hk (j:=j+tr.length) hl q1 hx (by omega) q5 h1 h2 (by omega)
  obtain ⟨i1,i2⟩:=ih j (s+1) (acD hx h1) (by omega) (by omega)
  refine ⟨?_,i2⟩
  rw [show j+(tr.length+1)=j+tr.length+1 by omega,hst,q6,show ((l.getD n i0).1==0)=false by simpa using q3,i1]
  congr 1;omega
theorem akY {k:Nat} (hk:20000 <= k) {t:Tr} (h:Ok 0 [] false t) (hl:t.len<24) {a:Int} (ha:FY a):S49 k t.prog a=some (((zq t (Q6 a)).2.1,((zq t (Q6 a)).1.length:Int)+1,true,()),()):=by
 have hpl:=vk t
 have hm0:=afQ a ha
 have hlen:=GY (Q6 a) h
 have hc:=TV h hl
 unfold S49 Q5
 rw [QW (by omega) (by omega),aj6 h hl]
 simp only [Option.bind_some,Bool.not_true,cond_false]
 obtain ⟨j',hj⟩:∃ j',k=j'+2+(zq t (Q6 a)).1.length:=⟨k - 2 - (zq t (Q6 a)).1.length,by omega⟩
 obtain ⟨h1,h2⟩:=akX (k:=k) (by omega) (by omega) (TR h) (abp h (Q6 a)) (j'+2) 0 hm0 (by omega) (by omega)
 have hend:=CP t
 have hst:=WT (k:=k) (by omega) (j:=j'+1) (l:=t.prog) (n:=t.len) (mem:=(zq t (Q6 a)).2) (R:=[]) (s:=0+((zq t (Q6 a)).1.length:Int)) (by omega) (by omega) (by rw [hend];rfl) (by simp) (by simp) h2 (by omega) (by omega)
 rw [hend] at hst
 rw [<- hj] at h1
 refine Eq.trans h1 (Eq.trans hst ?_)
 unfold ahy
 rw [afm,afk,Int.zero_add]
 rfl
abbrev ahz (j:jd):List Int:=j.2.2.2.2.2.2.1
def HL (l:List jg) (js:List jd):Prop:=∀ s:Nat,s<l.length -> (l.getD s s0).2≠0 -> ∃ j∈js,j.1+1=(l.getD s s0).2 /\ (s:Int)∈ahz j
def FR (T:Tb):Prop:=∀ i,T.1.2.getD i false=false -> (T.2.getD i j6).1≠1
def OP (js:List jd):Prop:=∀ j∈js,j.2.2.2.1=2 -> ahz j=[]
structure HK (T:Tb) (js:List jd):Prop where
 fr:FR T
 hl:HL (kg T) js
 op:OP js
theorem akZ {l:List jg} {t:Int} (ht:0 <= t) {s:Nat} (h:s<l.length):((MB l t).getD s s0).2=if (l.getD s s0).2=t+1 then 0 else (l.getD s s0).2:=by
 unfold MB
 rw [MI (f:=acO t) s0 s0 h]
 unfold acO
 rw [decide_eq_true ht,Bool.true_and]
 by_cases e:(l.getD s s0).2=t+1
 ·rw [if_pos e,show ((l.getD s s0).2==t+1)=true from beq_iff_eq.2 e];rfl
 ·rw [if_neg e,beq_eq_false_iff_ne.2 e];rfl
theorem HL.all {l:List jg} {js js2:List jd} (h:HL l js) {t:Int} (ht:0 <= t) (hs:∀ j∈js,j.1≠t -> j∈js2):HL (MB l t) js2:=by
 intro s hl hne
 rw [YR] at hl
 rw [akZ ht hl] at hne ⊢
 by_cases e:(l.getD s s0).2=t+1
 ·rw [if_pos e] at hne;exact absurd rfl hne
 ·rw [if_neg e] at hne ⊢
  obtain ⟨j,hj,e1,e2⟩:=h s hl hne
  exact ⟨j,hs j hj (by omega),e1,e2⟩
theorem HL.same {l l2:List jg} {js js2:List jd} (h:HL l js) (hlen:l2.length=l.length) (he:∀ s,s<l.length -> (l2.getD s s0).2=(l.getD s s0).2) (hs:∀ j∈js,∀ x∈ahz j,∃ j2∈js2,j2.1=j.1 /\ x∈ahz j2):HL l2 js2:=by
 intro s hl hne
 rw [hlen] at hl
 rw [he s hl] at hne ⊢
 obtain ⟨j,hj,e1,e2⟩:=h s hl hne
 obtain ⟨j2,q1,q2,q3⟩:=hs j hj _ e2
 exact ⟨j2,q1,by rw [q2];exact e1,q3⟩
theorem HK.map {T:Tb} {js:List jd} (h:HK T js) {f:jd -> jd} (hf:∀ j,(f j).1=j.1 /\ (f j).2.2.2.1=j.2.2.2.1 /\ ahz (f j)=ahz j):HK T (js.map f):=by
 refine ⟨h.fr,h.hl.same rfl (fun _ _=>rfl) (fun x hx y hy=>⟨f x,List.mem_map.2 ⟨x,hx,rfl⟩,(hf x).1,by rw [(hf x).2.2];exact hy⟩),fun j hj h2=>?_⟩
 obtain ⟨x,hx,rfl⟩:=List.mem_map.1 hj
 rw [(hf x).2.1] at h2
 rw [(hf x).2.2];exact h.op x hx h2
theorem set_self {js:List jd} {i:Nat} {y:jd} (h:i<js.length):y∈js.set i y:=List.mem_iff_getElem.2 ⟨i,by rw [List.length_set];exact h,by simp⟩
theorem ahA {js:List jd} {i b:Nat} {y:jd} (hb:b<js.length) (hne:b≠i):js.getD b ay∈js.set i y:=by
 have e:(js.set i y).getD b ay=js.getD b ay:=by rw [ng,if_neg (fun q=>hne q.1.symm)]
 rw [<- e];exact jo (by rw [List.length_set];exact hb)
def abY (js:List jd) (i:Nat) (r:MF):List jd:=bif r.1 then js.take i++js.drop (i+1) else js.set i r.2.2
structure CS where
 at_:Int -> Int
 on:Int -> Bool
 inn:Int -> Int
 out:Int -> Int
 tu:Int -> Bool
def AU {α:Type} (f:Int -> α) (i:Int) (v:α):Int -> α:=fun x=>if x=i then v else f x
def wm (σ:CS) (e:jf):CS :=
 if e.2.1=1 then ⟨AU σ.at_ e.2.2.1 e.1,AU σ.on e.2.2.1 true,AU σ.inn e.2.2.1 e.2.2.2.2.1,σ.out,AU σ.tu e.2.2.1 false⟩
 else if e.2.1=3 then ⟨σ.at_,AU σ.on e.2.2.1 false,σ.inn,AU σ.out e.2.2.1 e.2.2.2.2.1,σ.tu⟩
 else if e.2.1=4 then ⟨σ.at_,σ.on,σ.inn,AU σ.out e.2.2.1 e.2.2.2.2.1,σ.tu⟩
 else if e.2.1=5 then ⟨σ.at_,AU σ.on e.2.2.1 false,σ.inn,σ.out,σ.tu⟩
 else if e.2.1=7 then ⟨σ.at_,σ.on,σ.inn,σ.out,AU σ.tu e.2.2.1 true⟩
 else σ
def aqf (l:List I4) (a n:Int):Prop:=FY a /\ ∃ fin:Mem,abN l a fin /\ n=fin.1
abbrev Vj (F:List iy) (i:Int):Int:=(F.getD i.toNat bg).2.2.1
structure OK1 (F:List iy) (p:Option jf) (σ:CS) (e:jf):Prop where
 ti:0 <= e.1 /\ e.1 <= 1000000000000 /\ ∀ q,p=some q -> q.1 <= e.1
 tk:0 <= e.2.2.1 /\ e.2.2.1<8
 rel:e.2.1=1 -> σ.on e.2.2.1=false
 len:e.2.1=3 \/ e.2.1=4 \/ e.2.1=5 \/ e.2.1=7 \/ e.2.1=8 -> e.2.2.1<(F.length:Int)
 don:e.2.1=3 -> σ.on e.2.2.1=true /\ 0 <= σ.at_ e.2.2.1 /\ σ.at_ e.2.2.1 <= e.1 /\ e.1<σ.at_ e.2.2.1+Vj F e.2.2.1 /\ aqf (bif σ.tu e.2.2.1 then (F.getD e.2.2.1.toNat bg).2.2.2.2.1 else (F.getD e.2.2.1.toNat bg).2.2.2.1) (σ.inn e.2.2.1) e.2.2.2.2.1
 bet:e.2.1=4 -> aqf (F.getD e.2.2.1.toNat bg).2.2.2.2.2 (σ.out e.2.2.1) e.2.2.2.2.1
 mis:e.2.1=5 -> σ.on e.2.2.1=true /\ 0 <= σ.at_ e.2.2.1 /\ e.1=σ.at_ e.2.2.1+Vj F e.2.2.1
 tur:e.2.1=7 -> σ.tu e.2.2.1=false /\ (F.getD e.2.2.1.toNat bg).2.2.2.2.1≠[]
 fre:e.2.1=8 -> σ.tu e.2.2.1=false /\ (F.getD e.2.2.1.toNat bg).2.2.2.2.1≠[] /\ ∃ q,p=some q /\ q.2.1=3 /\ q.2.2.1=e.2.2.1
def OKs (F:List iy):Option jf -> CS -> List jf -> Prop
 | _,_,[]=>True
 | p,σ,e::l=>OK1 F p σ e /\ OKs F (some e) (wm σ e) l
def V6:Option jf -> List jf -> Option jf
 | p,[]=>p
 | _,e::l=>V6 (some e) l
theorem Z5 {F:List iy}:∀ (l l2:List jf) (p:Option jf) (σ:CS),OKs F p σ l -> OKs F (V6 p l) (l.foldl wm σ) l2 -> OKs F p σ (l++l2)
 | [],l2,p,σ,_,h=>h
 | e::l,l2,p,σ,h,h2=>⟨h.1,Z5 l l2 _ _ h.2 h2⟩
def PA (p:Option jf) (now:Int):Prop:=∀ q,p=some q -> q.1 <= now
theorem V7 {now:Int}:∀ (l:List jf) (p:Option jf),PA p now -> (∀ e∈l,e.1=now) -> PA (V6 p l) now
 | [],p,h,_=>h
 | e::l,p,h,he=>V7 l (some e) (fun q hq=>by injection hq with hq;rw [<- hq,he e (by simp)];exact Int.le_refl _) (fun x hx=>he x (by simp [hx]))
structure LG (F:List iy) (now:Int) (σ:CS) (l:List jf) (σ2:CS):Prop where
 ok:∀ p,PA p now -> OKs F p σ l
 en:l.foldl wm σ=σ2
 at_:∀ e∈l,e.1=now
theorem LG.nil {F:List iy} {now:Int} (σ:CS):LG F now σ [] σ:=⟨fun _ _=>trivial,rfl,fun e h=>by cases h⟩
theorem LG.app {F:List iy} {now:Int} {σ σ2 σ3:CS} {l l2:List jf} (h:LG F now σ l σ2) (h2:LG F now σ2 l2 σ3):LG F now σ (l++l2) σ3 :=
 ⟨fun p hp=>Z5 l l2 p σ (h.ok p hp) (by rw [h.en];exact h2.ok _ (V7 l p hp h.at_)),by rw [List.foldl_append,h.en,h2.en],fun e he=>by
  rcases List.mem_append.1 he with q | q
  ·exact h.at_ e q
  ·exact h2.at_ e q⟩
def aqh (e:jf):Prop:=e.2.1≠1 /\ e.2.1≠3 /\ e.2.1≠4 /\ e.2.1≠5 /\ e.2.1≠7 /\ e.2.1≠8
theorem anX {σ:CS} {e:jf} (h:aqh e):wm σ e=σ:=by
 obtain ⟨a,b,c,d,f,_⟩:=h
 unfold wm
 rw [if_neg a,if_neg b,if_neg c,if_neg d,if_neg f]
def NW (now:Int):Prop:=0 <= now /\ now <= 1000000000000
theorem LG.neu {F:List iy} {now:Int} (hn:NW now) {σ:CS}:∀ (l:List jf),(∀ e∈l,aqh e /\ e.1=now /\ 0 <= e.2.2.1 /\ e.2.2.1<8) -> LG F now σ l σ
 | [],_=>LG.nil σ
 | e::l,h=>by
  have ih:=LG.neu (F:=F) hn (σ:=σ) l (fun x hx=>h x (by simp [hx]))
  obtain ⟨⟨a,b,c,d,f,g⟩,e1,e2,e3⟩:=h e (by simp)
  have hu:=anX (σ:=σ) (h e (by simp)).1
  refine ⟨fun p hp=>⟨⟨⟨by rw [e1];exact hn.1,by rw [e1];exact hn.2,fun q hq=>by rw [e1];exact hp q hq⟩,⟨e2,e3⟩,fun q=>absurd q a,fun q=>by omega,fun q=>absurd q b,fun q=>absurd q c,fun q=>absurd q d,fun q=>absurd q f,fun q=>absurd q g⟩,?_⟩,?_,fun x hx=>(h x hx).2.1⟩
  ·rw [hu];exact ih.ok _ (fun q hq=>by injection hq with hq;rw [<- hq,e1];exact Int.le_refl _)
  ·rw [List.foldl_cons,hu];exact ih.en
theorem LG.one {F:List iy} {now:Int} {σ:CS} {e:jf} (he:e.1=now) (h:∀ p,PA p now -> OK1 F p σ e):LG F now σ [e] (wm σ e):=⟨fun p hp=>⟨h p hp,trivial⟩,rfl,fun x hx=>by rw [List.mem_singleton] at hx;rw [hx];exact he⟩
def jk (σ σ2:CS) (i:Int):Prop:=∀ x,x≠i -> σ2.at_ x=σ.at_ x /\ σ2.on x=σ.on x /\ σ2.inn x=σ.inn x /\ σ2.out x=σ.out x /\ σ2.tu x=σ.tu x
theorem jk.refl (σ:CS) (i:Int):jk σ σ i:=fun _ _=>⟨rfl,rfl,rfl,rfl,rfl⟩
theorem V8 (σ:CS) (e:jf):jk σ (wm σ e) e.2.2.1:=fun x hx=>by
 have p:∀ {α:Type} (f:Int -> α) (v:α),AU f e.2.2.1 v x=f x:=fun f v=>if_neg hx
 unfold wm
 split
 ·exact ⟨p _ _,p _ _,p _ _,rfl,p _ _⟩
 ·split
  ·exact ⟨rfl,p _ _,rfl,p _ _,rfl⟩
  ·split
   ·exact ⟨rfl,rfl,rfl,p _ _,rfl⟩
   ·split
    ·exact ⟨rfl,p _ _,rfl,rfl,rfl⟩
    ·split
     ·exact ⟨rfl,rfl,rfl,rfl,p _ _⟩
     ·exact ⟨rfl,rfl,rfl,rfl,rfl⟩
structure J2 (F:List iy) (σ:CS) (now a:Int) (j:jd):Prop where
 jw:JW F a j
 ar:FY a
 t0:0 <= j.2.1 /\ j.2.1 <= now
 act:j.2.2.2.1≠2 -> σ.on j.1=true /\ σ.at_ j.1=j.2.1 /\ σ.inn j.1=a /\ σ.tu j.1=(j.2.2.2.1==1)
 opt:j.2.2.2.1=2 -> σ.out j.1=a
structure IV (F:List iy) (σ:CS) (now:Int) (js:List jd):Prop where
 job:∀ j∈js,∃ a,J2 F σ now a j
 on:∀ i,σ.on i=true -> ∃ j∈js,j.1=i /\ j.2.2.2.1≠2
def DL (F:List iy) (now d:Int) (js:List jd):Prop:=∀ j∈js,j.2.2.2.1≠2 -> now+d <= j.2.1+Vj F j.1
theorem J2.ag {F:List iy} {σ σ2:CS} {now a i:Int} {j:jd} (h:J2 F σ now a j) (hg:jk σ σ2 i) (hi:j.1≠i):J2 F σ2 now a j:=by
 obtain ⟨e1,e2,e3,e4,e5⟩:=hg _ hi
 exact ⟨h.jw,h.ar,h.t0,fun q=>by rw [e1,e2,e3,e5];exact h.act q,fun q=>by rw [e4];exact h.opt q⟩
theorem J2.same {F:List iy} {σ:CS} {now a:Int} {j j2:jd} (h:J2 F σ now a j) (hw:JW F a j2) (e1:j2.1=j.1) (e2:j2.2.1=j.2.1) (e3:j2.2.2.2.1=j.2.2.2.1):J2 F σ now a j2 :=
 ⟨hw,h.ar,by rw [e2];exact h.t0,by rw [e1,e2,e3];exact h.act,by rw [e1,e3];exact h.opt⟩
theorem IV.rem {F:List iy} {σ σ2:CS} {now i:Int} {js js2:List jd} (h:IV F σ now js) (hg:jk σ σ2 i) (hoff:σ2.on i=false) (h1:∀ x∈js2,x∈js /\ x.1≠i) (h2:∀ x∈js,x.1≠i -> x∈js2):IV F σ2 now js2:=by
 refine ⟨fun j hj=>?_,fun x hx=>?_⟩
 ·obtain ⟨q1,q2⟩:=h1 j hj
  obtain ⟨a,ha⟩:=h.job j q1
  exact ⟨a,ha.ag hg q2⟩
 ·have hne:x≠i:=fun e=>by rw [e,hoff] at hx;cases hx
  rw [(hg x hne).2.1] at hx
  obtain ⟨j,hj,q1,q2⟩:=h.on x hx
  exact ⟨j,h2 j hj (by rw [q1];exact hne),q1,q2⟩
theorem IV.put {F:List iy} {σ σ2:CS} {now i:Int} {js js2:List jd} {y:jd} (h:IV F σ now js) (hg:jk σ σ2 i) (hy:y.1=i) (hj2:∃ a,J2 F σ2 now a y) (hon:σ2.on i=true -> y.2.2.2.1≠2) (h1:∀ x∈js2,x=y \/ (x∈js /\ x.1≠i)) (h2:∀ x∈js,x.1≠i -> x∈js2) (h3:y∈js2):IV F σ2 now js2:=by
 refine ⟨fun j hj=>?_,fun x hx=>?_⟩
 ·rcases h1 j hj with q | ⟨q1,q2⟩
  ·rw [q];exact hj2
  ·obtain ⟨a,ha⟩:=h.job j q1
   exact ⟨a,ha.ag hg q2⟩
 ·by_cases e:x=i
  ·exact ⟨y,h3,by rw [hy,e],hon (by rw [<- e];exact hx)⟩
  ·rw [(hg x e).2.1] at hx
   obtain ⟨j,hj,q1,q2⟩:=h.on x hx
   exact ⟨j,h2 j hj (by rw [q1];exact e),q1,q2⟩
theorem WU {js:List jd} (hr:rising js) {x y:jd} (hx:x∈js) (hy:y∈js) (e:x.1=y.1):x=y:=by
 obtain ⟨a,ha,ea⟩:=vg ay hx
 obtain ⟨b,hb,eb⟩:=vg ay hy
 by_cases q:a=b
 ·rw [<- ea,<- eb,q]
 ·exact absurd (by rw [ea,eb];exact e) (OH hr ha hb q)
theorem IV.off {F:List iy} {σ:CS} {now:Int} {js:List jd} (h:IV F σ now js) (hr:rising js) {j:jd} (hj:j∈js) (hp:j.2.2.2.1=2):σ.on j.1=false:=by
 cases ho:σ.on j.1 with
 | false=>rfl
 | true =>
  obtain ⟨x,hx,e1,e2⟩:=h.on _ ho
  rw [WU hr hx hj e1] at e2
  exact absurd hp e2
theorem acW {x y:List jd} {j:jd} (hr:rising (x++j::y)):(∀ z∈x++y,z∈x++j::y /\ z.1≠j.1) /\ (∀ z∈x++j::y,z.1≠j.1 -> z∈x++y):=by
 refine ⟨fun z hz=>?_,fun z hz hne=>?_⟩
 ·have hm:z∈x++j::y:=by
   rcases List.mem_append.1 hz with q | q
   ·exact List.mem_append.2 (.inl q)
   ·exact List.mem_append.2 (.inr (List.mem_cons_of_mem _ q))
  refine ⟨hm,?_⟩
  unfold rising at hr
  rw [List.pairwise_append,List.pairwise_cons] at hr
  rcases List.mem_append.1 hz with q | q
  ·have:=hr.2.2 z q j List.mem_cons_self;omega
  ·have:=hr.2.1.1 z q;omega
 ·rcases List.mem_append.1 hz with q | q
  ·exact List.mem_append.2 (.inl q)
  ·rcases List.mem_cons.1 q with q | q
   ·rw [q] at hne;exact absurd rfl hne
   ·exact List.mem_append.2 (.inr q)
theorem aqi {js:List jd} (hr:rising js) {i:Nat} (hi:i<js.length) {y:jd}:(∀ z∈js.set i y,z=y \/ (z∈js /\ z.1≠(js.getD i ay).1)) /\ (∀ z∈js,z.1≠(js.getD i ay).1 -> z∈js.set i y):=by
 refine ⟨fun z hz=>?_,fun z hz hne=>?_⟩
 ·obtain ⟨b,hb,eb⟩:=vg ay hz
  rw [List.length_set] at hb
  rw [ng] at eb
  by_cases q:i=b
  ·rw [if_pos ⟨q,by omega⟩] at eb;exact .inl eb.symm
  ·rw [if_neg (fun z=>q z.1)] at eb
   refine .inr ⟨by rw [<- eb];exact jo hb,?_⟩
   rw [<- eb];exact OH hr hb hi (fun e=>q e.symm)
 ·obtain ⟨b,hb,eb⟩:=vg ay hz
  rw [<- eb]
  exact ahA hb (fun e=>hne (by rw [<- eb,e]))
theorem aqj {js:List jd} (hr:rising js) {i:Nat} (hi:i<js.length):(∀ z∈js.take i++js.drop (i+1),z∈js /\ z.1≠(js.getD i ay).1) /\ (∀ z∈js,z.1≠(js.getD i ay).1 -> z∈js.take i++js.drop (i+1)):=by
 have e:js.take i++js.getD i ay::js.drop (i+1)=js:=by rw [<- drop_cons ay hi,List.take_append_drop]
 have:=acW (x:=js.take i) (y:=js.drop (i+1)) (j:=js.getD i ay) (by rw [e];exact hr)
 rw [e] at this;exact this
theorem ahB {now t:Int} (hn:NW now) (ht:0 <= t /\ t<8) {F:List iy} {σ:CS} (b:Bool×Bool):LG F now σ ((bif b.1 then [(now,9,t,0,0,0)] else [])++(bif b.2 then [(now,10,0,0,0,0)] else [])) σ:=by
 refine LG.neu hn _ (fun e he=>?_)
 rcases List.mem_append.1 he with q | q
 ·cases hb:b.1 with
  | false=>rw [hb] at q;cases q
  | true =>
   rw [hb,cond_true,List.mem_singleton] at q;rw [q]
   exact ⟨⟨by simp,by simp,by simp,by simp,by simp,by simp⟩,rfl,ht⟩
 ·cases hb:b.2 with
  | false=>rw [hb] at q;cases q
  | true =>
   rw [hb,cond_true,List.mem_singleton] at q;rw [q]
   exact ⟨⟨by simp,by simp,by simp,by simp,by simp,by simp⟩,rfl,by simp⟩
theorem DL.sub {F:List iy} {now d:Int} {js js2:List jd} (h:DL F now d js) (hs:∀ x∈js2,x∈js):DL F now d js2:=fun j hj=>h j (hs j hj)
theorem RJ {F:List iy} {now:Int} {k:Nat} (hn:NW now) (hF:F.length <= 8) (hTW:∀ t∈F,TW t) {σ0:CS}:∀ (js:List jd) (s:jh×List jd) (σ:CS),s.1.1.1=now -> s.1.1.2.2.1=F -> LG F now σ0 s.1.2 σ -> IV F σ now (s.2++js) -> rising (s.2++js) -> DL F now 1 s.2 -> DL F now 0 js ->
  ∃ σ2,LG F now σ0 (js.foldl (BO k) s).1.2 σ2 /\ IV F σ2 now (js.foldl (BO k) s).2 /\ DL F now 1 (js.foldl (BO k) s).2
 | [],s,σ,_,_,h,hi,_,hd,_=>⟨σ,h,by rw [List.append_nil] at hi;exact hi,hd⟩
 | j::js,s,σ,e1,e2,h,hi,hr,hd,hd0=>by
  have hjm:j∈s.2++j::js:=List.mem_append.2 (.inr List.mem_cons_self)
  obtain ⟨a,ha⟩:=hi.job j hjm
  have htk:=ha.jw.task
  have ht0:=ha.t0
  have hmid:=acW hr
  have hr2:rising (s.2++js):=List.Pairwise.sublist (List.Sublist.append (List.Sublist.refl _) (List.sublist_cons_self _ _)) hr
  have aqk:DL F now 0 js:=hd0.sub (fun x hx=>List.mem_cons_of_mem _ hx)
  have hdj:=hd0 j List.mem_cons_self
  have hn1:=hn.1
  have hn2:=hn.2
  rw [List.foldl_cons]
  unfold BO
  rw [e1,e2,Uu (n:=now - j.2.1) (by omega) (by omega)]
  cases hc:(now - j.2.1) != (F.getD j.1.toNat bg).2.2.1 with
  | true =>
   refine RJ hn hF hTW js _ σ e1 e2 h (by show IV F σ now ((s.2++[j])++js);rw [List.append_assoc];exact hi) (by show rising ((s.2++[j])++js);rw [List.append_assoc];exact hr) (fun x hx hp=>?_) aqk
   rcases List.mem_append.1 hx with q | q
   ·exact hd x q hp
   ·rw [List.mem_singleton] at q
    rw [q] at hp ⊢
    have:=hdj hp
    have hne:now - j.2.1≠Vj F j.1:=bne_iff_ne.1 hc
    omega
  | false =>
   have hend:now - j.2.1=Vj F j.1:=bne_eq_false_iff_eq.1 hc
   rw [cond_false]
   cases h2:j.2.2.2.1==2 with
   | true =>
    have hoff:=hi.off hr hjm (eq_of_beq h2)
    refine RJ hn hF hTW js (j5 s.1 (0,13,j.1,0,0,0),s.2) σ e1 e2 (h.app (LG.neu hn _ (fun e he=>?_))) (hi.rem (jk.refl σ j.1) hoff hmid.1 hmid.2) hr2 hd aqk
    rw [List.mem_singleton] at he
    rw [he]
    exact ⟨⟨by simp,by simp,by simp,by simp,by simp,by simp⟩,e1,by show 0 <= j.1;omega,by show j.1<8;omega⟩
   | false =>
    have hp2:j.2.2.2.1≠2:=by simpa using h2
    obtain ⟨o1,o2,o3,o4⟩:=ha.act hp2
    rw [cond_false]
    have em:(EF k s.1 j).2=s.1.2++([(now,5,j.1,0,0,0)]++((bif (zl s.1.1.2.2.2.2.2.2.2.2.2.1 s.1.1.2.2.2.2.2.2.2.2.2.2 j.1.toNat).2.1 then [(now,9,j.1,0,0,0)] else [])++(bif (zl s.1.1.2.2.2.2.2.2.2.2.2.1 s.1.1.2.2.2.2.2.2.2.2.2.2 j.1.toNat).2.2 then [(now,10,0,0,0,0)] else []))):=by
     unfold EF abF
     rw [e1]
    have e1m:(EF k s.1 j).1.1=now:=by
     unfold EF
     simp only
     cases (zl s.1.1.2.2.2.2.2.2.2.2.2.1 s.1.1.2.2.2.2.2.2.2.2.2.2 j.1.toNat).2.2 <;> exact e1
    have e2m:(EF k s.1 j).1.2.2.1=F:=by
     unfold EF
     simp only
     cases (zl s.1.1.2.2.2.2.2.2.2.2.2.1 s.1.1.2.2.2.2.2.2.2.2.2.2 j.1.toNat).2.2 <;> exact e2
    have hu:wm σ (now,5,j.1,0,0,0)=⟨σ.at_,AU σ.on j.1 false,σ.inn,σ.out,σ.tu⟩:=rfl
    have hl1:LG F now σ [(now,5,j.1,0,0,0)] (wm σ (now,5,j.1,0,0,0)):=LG.one rfl (fun p hp=>⟨⟨hn1,hn2,hp⟩,⟨by show 0 <= j.1;omega,by show j.1<8;omega⟩,fun q=>absurd (show (5:Int)=1 from q) (by decide),fun _=>htk.2,fun q=>absurd (show (5:Int)=3 from q) (by decide),fun q=>absurd (show (5:Int)=4 from q) (by decide),fun _=>⟨o1,by show 0 <= σ.at_ j.1;rw [o2];omega,by show now=σ.at_ j.1+Vj F j.1;rw [o2];omega⟩,fun q=>absurd (show (5:Int)=7 from q) (by decide),fun q=>absurd (show (5:Int)=8 from q) (by decide)⟩)
    refine RJ hn hF hTW js (EF k s.1 j,s.2) (wm σ (now,5,j.1,0,0,0)) e1m e2m (by rw [em];exact h.app (hl1.app (ahB hn ⟨by omega,by omega⟩ (zl s.1.1.2.2.2.2.2.2.2.2.2.1 s.1.1.2.2.2.2.2.2.2.2.2.2 j.1.toNat).2))) (hi.rem (V8 σ _) (by rw [hu];exact if_pos rfl) hmid.1 hmid.2) hr2 hd aqk
theorem aql {F:List iy} {now:Int} {k:Nat} {u:jh} {i:Nat} {js:List jd} {σ:CS} (hn:NW now) (hF:F.length <= 8) (hTW:∀ t∈F,TW t) (e1:u.1.1=now) (e2:u.1.2.2.1=F) (hr:rising js) (hi:i<js.length) (h:IV F σ now js) (hd:DL F now 1 js) :
  ∃ l σ2,(G8 k u (js.getD i ay)).2.1.2=u.2++l /\ LG F now σ l σ2 /\ IV F σ2 now (abY js i (G8 k u (js.getD i ay))) /\ DL F now 1 (abY js i (G8 k u (js.getD i ay))):=by
 have hjm:=jo (z:=ay) hi
 have hdel:=aqj hr hi
 have hset:∀ y:jd,_:=fun y=>aqi hr hi (y:=y)
 have hself:∀ y:jd,y∈js.set i y:=fun y=>set_self hi
 have ak0:DL F now 1 (js.take i++js.drop (i+1)):=hd.sub (fun x hx=>(hdel.1 x hx).1)
 have agv:∀ y:jd,(y.2.2.2.1≠2 -> now+1 <= y.2.1+Vj F y.1) -> DL F now 1 (js.set i y):=fun y hy x hx hp=>by
  rcases (hset y).1 x hx with q | q
  ·rw [q] at hp ⊢;exact hy hp
  ·exact hd x q.1 hp
 have hdj:=hd _ hjm
 have hoff:=fun hp=>h.off hr hjm hp
 obtain ⟨a,ha⟩:=h.job _ hjm
 generalize js.getD i ay=j at hjm hdel hset hdj hoff ha ⊢
 have htk:=ha.jw.task
 have ht0:=ha.t0
 have hn1:=hn.1
 have hn2:=hn.2
 have Lx:=hTW _ (jo (z:=bg) (show j.1.toNat<F.length by omega))
 have tk8:0 <= j.1 /\ j.1<8:=⟨by omega,by omega⟩
 have ran:LG F now σ [(now,2,j.1,0,0,0)] σ:=LG.neu hn _ (fun e he=>by
  rw [List.mem_singleton] at he;rw [he]
  exact ⟨⟨by simp,by simp,by simp,by simp,by simp,by simp⟩,rfl,tk8⟩)
 have abZ:(j5 u (0,2,j.1,0,0,0)).2=u.2++[(now,2,j.1,0,0,0)]:=by rw [<- e1];rfl
 unfold G8
 cases u.1.2.2.2.2.2.2.1 with
 | true =>
  rw [cond_true]
  unfold MH ahl abY
  rw [show (j5 u (0,2,j.1,0,0,0)).1=u.1 from rfl,e2,abZ]
  have jl:∀ (x:Int) (y:jd),(j5 (ED k u.1 (MB (kg u.1.2.2.2.2.2.2.2.2.1) j.1),u.2++[(now,2,j.1,0,0,0)]) (0,x,y.1,0,0,0)).2=u.2++([(now,2,j.1,0,0,0)]++[(now,x,y.1,0,0,0)]):=fun x y=>by
   unfold j5
   rw [<- List.append_assoc,show (ED k u.1 (MB (kg u.1.2.2.2.2.2.2.2.2.1) j.1)).1=now from e1]
  cases h2:j.2.2.2.1==2 with
  | true =>
   refine ⟨_,σ,jl 13 j,ran.app (LG.neu hn _ (fun e he=>?_)),h.rem (jk.refl σ j.1) (hoff (eq_of_beq h2)) hdel.1 hdel.2,ak0⟩
   rw [List.mem_singleton] at he;rw [he]
   exact ⟨⟨by simp,by simp,by simp,by simp,by simp,by simp⟩,rfl,tk8⟩
  | false =>
   have hp2:j.2.2.2.1≠2:=by simpa using h2
   obtain ⟨o1,o2,o3,o4⟩:=ha.act hp2
   have hback:=ha.jw.back Lx
   unfold MG at hback ⊢
   cases hw:(j.2.2.2.1==0)&&decide (((F.getD j.1.toNat bg).2.2.2.2.1.length:Int)>0) with
   | true =>
    rw [hw] at hback
    rw [Bool.and_eq_true] at hw
    have hph:j.2.2.2.1=0:=eq_of_beq hw.1
    have ak1:=of_decide_eq_true hw.2
    refine ⟨_,wm σ (now,7,j.1,0,0,0),jl 7 _,ran.app (LG.one rfl (fun p hp=>⟨⟨hn1,hn2,hp⟩,tk8,fun q=>absurd (show (7:Int)=1 from q) (by decide),fun _=>htk.2,fun q=>absurd (show (7:Int)=3 from q) (by decide),fun q=>absurd (show (7:Int)=4 from q) (by decide),fun q=>absurd (show (7:Int)=5 from q) (by decide),fun _=>⟨by show σ.tu j.1=false;rw [o4,hph];rfl,fun q=>by have q:(F.getD j.1.toNat bg).2.2.2.2.1=[]:=q;rw [q] at ak1;simp at ak1⟩,fun q=>absurd (show (7:Int)=8 from q) (by decide)⟩)),?_,?_⟩
    ·refine h.put (V8 σ (now,7,j.1,0,0,0)) (by rfl) ⟨a,hback,ha.ar,ht0,fun _=>⟨o1,o2,o3,?_⟩,fun q=>absurd (show (1:Int)=2 from q) (by decide)⟩ (fun _=>(show (1:Int)≠2 by decide)) (hset _).1 (hset _).2 (hself _)
     exact if_pos rfl
    ·exact agv _ (fun _=>hdj hp2)
   | false =>
    rw [hw] at hback
    refine ⟨_,σ,jl 6 _,ran.app (LG.neu hn _ (fun e he=>?_)),?_,?_⟩
    ·rw [List.mem_singleton] at he;rw [he]
     exact ⟨⟨by simp,by simp,by simp,by simp,by simp,by simp⟩,rfl,tk8⟩
    ·exact h.put (jk.refl σ j.1) (by rfl) ⟨a,ha.same hback rfl rfl rfl⟩ (fun _=>hp2) (hset _).1 (hset _).2 (hself _)
    ·exact agv _ (fun _=>hdj hp2)
 | false =>
  rw [cond_false]
  obtain ⟨g1,g2,g3⟩:=ha.jw.goes
  unfold JX abY
  rw [show (j5 u (0,2,j.1,0,0,0)).1=u.1 from rfl,e2]
  simp only
  cases ho:(y8 (F.getD j.1.toNat bg) j).2.2.2.2.1.2.2.2 with
  | false =>
   simp only [cond_false]
   refine ⟨[(now,2,j.1,0,0,0)],σ,?_,ran,?_,?_⟩
   ·cases (pz (qo (F.getD j.1.toNat bg) j.2.2.2.1) j.2.2.2.2.1).1==9 with
    | true=>exact abZ
    | false =>
     cases (pz (qo (F.getD j.1.toNat bg) j.2.2.2.1) j.2.2.2.2.1).1==10 with
     | true=>exact abZ
     | false=>exact abZ
   ·refine h.put (jk.refl σ j.1) (by rfl) ⟨a,ha.same (g1 ho) rfl rfl rfl⟩ (fun hon q=>?_) (hset _).1 (hset _).2 (hself _)
    have q:j.2.2.2.1=2:=q
    rw [hoff q] at hon;cases hon
   ·exact agv _ (fun hp=>hdj hp)
  | true =>
   obtain ⟨z1,z2,z3,z4⟩:=g2 ho
   rw [z4]
   simp only [cond_true]
   show ∃ l σ2,(sw (j5 u (0,2,j.1,0,0,0)) (y8 (F.getD j.1.toNat bg) j)).2.1.2=u.2++l /\ _ /\ IV F σ2 now (bif (sw (j5 u (0,2,j.1,0,0,0)) (y8 (F.getD j.1.toNat bg) j)).1 then _ else js.set i (sw (j5 u (0,2,j.1,0,0,0)) (y8 (F.getD j.1.toNat bg) j)).2.2) /\ DL F now 1 (bif (sw (j5 u (0,2,j.1,0,0,0)) (y8 (F.getD j.1.toNat bg) j)).1 then _ else js.set i (sw (j5 u (0,2,j.1,0,0,0)) (y8 (F.getD j.1.toNat bg) j)).2.2)
   have Dn:FY a:=ha.ar
   have ak2:∀ hne:((F.getD j.1.toNat bg).2.2.2.2.2.length:Int)≠0,JW F (y8 (F.getD j.1.toNat bg) j).2.2.2.2.1.2.1.1 (acP (y8 (F.getD j.1.toNat bg) j)):=fun hne=>JW.opt (j:=y8 (F.getD j.1.toNat bg) j) htk ha.jw.arg g3 Lx hne
   have hg1:(y8 (F.getD j.1.toNat bg) j).1=j.1:=rfl
   have hg2:(y8 (F.getD j.1.toNat bg) j).2.1=j.2.1:=rfl
   have hg3:(y8 (F.getD j.1.toNat bg) j).2.2.2.1=j.2.2.2.1:=rfl
   have hyr:FY (y8 (F.getD j.1.toNat bg) j).2.2.2.2.1.2.1.1:=g3 _ (by simp [Gv])
   generalize y8 (F.getD j.1.toNat bg) j=y at z3 hyr ak2 hg1 hg2 hg3 ⊢
   unfold sw
   rw [hg3,hg1,show (j5 u (0,2,j.1,0,0,0)).1=u.1 from rfl,e2]
   have jm:∀ (x n:Int),(j5 (j5 u (0,2,j.1,0,0,0)) (0,x,j.1,0,n,0)).2=u.2++([(now,2,j.1,0,0,0)]++[(now,x,j.1,0,n,0)]):=fun x n=>by
    unfold j5
    rw [<- List.append_assoc,show u.1.1=now from e1]
   cases h2:j.2.2.2.1==2 with
   | true =>
    have hp:j.2.2.2.1=2:=eq_of_beq h2
    rw [hp] at z3
    refine ⟨_,wm σ (now,4,j.1,0,y.2.2.2.2.1.2.1.1,0),jm 4 _,ran.app (LG.one rfl (fun p hpa=>⟨⟨hn1,hn2,hpa⟩,tk8,fun q=>absurd (show (4:Int)=1 from q) (by decide),fun _=>htk.2,fun q=>absurd (show (4:Int)=3 from q) (by decide),fun _=>⟨by show FY (σ.out j.1);rw [ha.opt hp];exact Dn,_,by show abN _ (σ.out j.1) _;rw [ha.opt hp];exact z3,rfl⟩,fun q=>absurd (show (4:Int)=5 from q) (by decide),fun q=>absurd (show (4:Int)=7 from q) (by decide),fun q=>absurd (show (4:Int)=8 from q) (by decide)⟩)),h.rem (V8 σ (now,4,j.1,0,y.2.2.2.2.1.2.1.1,0)) (hoff hp) hdel.1 hdel.2,ak0⟩
   | false =>
    have hp2:j.2.2.2.1≠2:=by simpa using h2
    obtain ⟨o1,o2,o3,o4⟩:=ha.act hp2
    have hdl:=hdj hp2
    have hcode:qo (F.getD j.1.toNat bg) j.2.2.2.1=(bif σ.tu j.1 then (F.getD j.1.toNat bg).2.2.2.2.1 else (F.getD j.1.toNat bg).2.2.2.1):=by
     have hph:=ha.jw.phase
     have:j.2.2.2.1=0 \/ j.2.2.2.1=1:=by omega
     rw [o4]
     rcases this with q | q <;> rw [q] <;> rfl
    have hdone:LG F now σ [(now,3,j.1,0,y.2.2.2.2.1.2.1.1,0)] (wm σ (now,3,j.1,0,y.2.2.2.2.1.2.1.1,0)):=LG.one rfl (fun p hpa=>⟨⟨hn1,hn2,hpa⟩,tk8,fun q=>absurd (show (3:Int)=1 from q) (by decide),fun _=>htk.2,fun _=>⟨o1,by show 0 <= σ.at_ j.1;rw [o2];omega,by show σ.at_ j.1 <= now;rw [o2];omega,by show now<σ.at_ j.1+Vj F j.1;rw [o2];omega,by show FY (σ.inn j.1);rw [o3];exact Dn,_,by show abN (bif σ.tu j.1 then _ else _) (σ.inn j.1) _;rw [o3,<- hcode];exact z3,rfl⟩,fun q=>absurd (show (3:Int)=4 from q) (by decide),fun q=>absurd (show (3:Int)=5 from q) (by decide),fun q=>absurd (show (3:Int)=7 from q) (by decide),fun q=>absurd (show (3:Int)=8 from q) (by decide)⟩)
    have aoH:(wm σ (now,3,j.1,0,y.2.2.2.2.1.2.1.1,0)).on j.1=false:=if_pos rfl
    have hout2:(wm σ (now,3,j.1,0,y.2.2.2.2.1.2.1.1,0)).out j.1=y.2.2.2.2.1.2.1.1:=if_pos rfl
    have hag:=V8 σ (now,3,j.1,0,y.2.2.2.2.1.2.1.1,0)
    have hev:∃ l2,(agj (bif (j.2.2.2.1==0)&&decide (((F.getD j.1.toNat bg).2.2.2.2.1.length:Int)>0) then j5 (j5 (j5 u (0,2,j.1,0,0,0)) (0,3,j.1,0,y.2.2.2.2.1.2.1.1,0)) (0,8,j.1,0,0,0) else j5 (j5 u (0,2,j.1,0,0,0)) (0,3,j.1,0,y.2.2.2.2.1.2.1.1,0)) j.1.toNat).2=u.2++([(now,2,j.1,0,0,0)]++l2) /\ LG F now σ l2 (wm σ (now,3,j.1,0,y.2.2.2.2.1.2.1.1,0)):=by
     cases hw:(j.2.2.2.1==0)&&decide (((F.getD j.1.toNat bg).2.2.2.2.1.length:Int)>0) with
     | false=>exact ⟨_,jm 3 _,hdone⟩
     | true =>
      rw [Bool.and_eq_true] at hw
      have hph:j.2.2.2.1=0:=eq_of_beq hw.1
      have ak1:=of_decide_eq_true hw.2
      refine ⟨[(now,3,j.1,0,y.2.2.2.2.1.2.1.1,0)]++[(now,8,j.1,0,0,0)],?_,?_⟩
      ·show (j5 u (0,2,j.1,0,0,0)).2++[(u.1.1,3,j.1,0,y.2.2.2.2.1.2.1.1,0)]++[(u.1.1,8,j.1,0,0,0)]=_
       rw [abZ,e1];simp
      ·refine ⟨fun p hpa=>⟨(hdone.ok p hpa).1,⟨⟨hn1,hn2,fun q hq=>by injection hq with hq;rw [<- hq];exact Int.le_refl _⟩,tk8,fun q=>absurd (show (8:Int)=1 from q) (by decide),fun _=>htk.2,fun q=>absurd (show (8:Int)=3 from q) (by decide),fun q=>absurd (show (8:Int)=4 from q) (by decide),fun q=>absurd (show (8:Int)=5 from q) (by decide),fun q=>absurd (show (8:Int)=7 from q) (by decide),fun _=>⟨by show σ.tu j.1=false;rw [o4,hph];rfl,fun q=>by have q:(F.getD j.1.toNat bg).2.2.2.2.1=[]:=q;rw [q] at ak1;simp at ak1,_,rfl,rfl,rfl⟩⟩,trivial⟩,rfl,fun e he=>?_⟩
       simp at he
       rcases he with q | q <;> rw [q]
    obtain ⟨l2,q1,q2⟩:=hev
    refine ⟨_,_,q1,ran.app q2,?_,?_⟩
    ·simp only [cond_false]
     cases hb:(((F.getD j.1.toNat bg).2.2.2.2.2.length:Int)==0) with
     | true=>exact h.rem hag aoH hdel.1 hdel.2
     | false =>
      refine h.put hag (show (acP y).1=j.1 from hg1) ⟨_,ak2 (by simpa using hb),hyr,by show 0 <= y.2.1 /\ y.2.1 <= now;rw [hg2];exact ht0,fun q=>absurd rfl q,fun _=>by show (wm σ _).out y.1=_;rw [hg1];exact hout2⟩ (fun q=>by rw [show (wm σ (now,3,j.1,0,y.2.2.2.2.1.2.1.1,0)).on ((now,3,j.1,0,y.2.2.2.2.1.2.1.1,0):jf).2.2.1=false from aoH] at q;cases q) (hset _).1 (hset _).2 (hself _)
    ·simp only [cond_false]
     cases hb:(((F.getD j.1.toNat bg).2.2.2.2.2.length:Int)==0) with
     | true=>exact ak0
     | false=>exact agv _ (fun q=>absurd rfl q)
structure IVK (F:List iy) (σ:CS) (K:je):Prop where
 iv:IV F σ K.1 K.2.2.2.2.2.2.2.1
 dl:K.2.2.2.2.2.1=false -> DL F K.1 0 K.2.2.2.2.2.2.2.1
 nw:0 <= K.1
theorem IV.map {F:List iy} {σ:CS} {now:Int} {js:List jd} (h:IV F σ now js) {f:jd -> jd} (hf:∀ j,(∀ a,JW F a j -> JW F a (f j)) /\ (f j).1=j.1 /\ (f j).2.1=j.2.1 /\ (f j).2.2.2.1=j.2.2.2.1):IV F σ now (js.map f):=by
 refine ⟨fun j hj=>?_,fun i hi=>?_⟩
 ·obtain ⟨x,hx,rfl⟩:=List.mem_map.1 hj
  obtain ⟨a,ha⟩:=h.job x hx
  obtain ⟨f1,f2,f3,f4⟩:=hf x
  exact ⟨a,ha.same (f1 a ha.jw) f2 f3 f4⟩
 ·obtain ⟨x,hx,q1,q2⟩:=h.on i hi
  obtain ⟨f1,f2,f3,f4⟩:=hf x
  exact ⟨f x,List.mem_map.2 ⟨x,hx,rfl⟩,f2.trans q1,by rw [f4];exact q2⟩
theorem DL.map {F:List iy} {now d:Int} {js:List jd} (h:DL F now d js) {f:jd -> jd} (hf:∀ j,(f j).1=j.1 /\ (f j).2.1=j.2.1 /\ (f j).2.2.2.1=j.2.2.2.1):DL F now d (js.map f):=fun j hj hp=>by
 obtain ⟨x,hx,rfl⟩:=List.mem_map.1 hj
 obtain ⟨f2,f3,f4⟩:=hf x
 rw [f4] at hp
 rw [f2,f3];exact h x hx hp
theorem IV.later {F:List iy} {σ:CS} {now ak3:Int} {js:List jd} (h:IV F σ now js) (hn:now <= ak3):IV F σ ak3 js:=⟨fun j hj=>by
 obtain ⟨a,ha⟩:=h.job j hj
 have:=ha.t0
 exact ⟨a,ha.jw,ha.ar,⟨by omega,by omega⟩,ha.act,ha.opt⟩,h.on⟩
theorem WV {now:Int}:∀ (l:List Int) (w:List (List Int)),∀ e∈G5 now l w,aqh e /\ e.1=now /\ 0 <= e.2.2.1 /\ e.2.2.1<8
 | [],w,e,h=>by simp [G5] at h
 | a::l,w,e,h=>by
  rw [G5] at h
  rcases List.mem_append.1 h with q | q
  ·rcases List.mem_append.1 q with q | q
   ·rw [List.mem_singleton] at q;rw [q]
    exact ⟨⟨by simp,by simp,by simp,by simp,by simp,by simp⟩,rfl,by simp⟩
   ·obtain ⟨c,_,rfl⟩:=List.mem_map.1 q
    exact ⟨⟨by simp,by simp,by simp,by simp,by simp,by simp⟩,rfl,by simp⟩
  ·exact WV l w.tail e q
theorem agw {F:List iy} {σ:CS} {k:Nat} {K:je} (h:KW K) (hi:IVK F σ K) (hn:K.1<1000000000000) (hts:K.2.2.2.2.1=true -> K.2.2.1=F):∃ σ2,LG F K.1 σ (l7 k K).2 σ2 /\ IVK F σ2 (l7 k K).1 /\ (l7 k K).1.1=K.1+1:=by
 have hk5:=(FL (k:=k) h).2.2.2.2.1
 have h0:=hi.nw
 have ak4:(l7 k K).1.1=K.1+1:=by rw [hk5];exact Uu (by omega) (by omega)
 cases hc:K.2.2.2.2.1&&!K.2.2.2.2.2.1 with
 | false =>
  have e:l7 k K=(w6 (w0 K (IntKind.i64.wrap (K.1+1))) false,[]):=by unfold l7;rw [hc];rfl
  have e2:IntKind.i64.wrap (K.1+1)=K.1+1:=Uu (by omega) (by omega)
  refine ⟨σ,?_,?_,ak4⟩
  ·rw [e];exact LG.nil σ
  ·rw [e,e2]
   refine ⟨hi.iv.later (by show K.1 <= K.1+1;omega),fun hha=>?_,by show 0 <= K.1+1;omega⟩
   have hha:K.2.2.2.2.2.1=false:=hha
   have hr:K.2.2.2.2.1=false:=by rw [hha] at hc;simpa using hc
   have ej:=(h.off hr).1
   intro j hj
   have hj:j∈K.2.2.2.2.2.2.2.1:=hj
   rw [ej] at hj;cases hj
 | true =>
  have e:l7 k K=(w6 (w0 (zm k (oq k K)).1 (IntKind.i64.wrap ((zm k (oq k K)).1.1+1))) false,(zm k (oq k K)).2):=by unfold l7;rw [hc];rfl
  rw [Bool.and_eq_true] at hc
  have hF:=hts hc.1
  have hkj:=h.kj hc.1
  have hNW:NW K.1:=⟨h0,by omega⟩
  have hF8:F.length <= 8:=by rw [<- hF];exact h.FE
  have hTW:∀ t∈F,TW t:=by rw [<- hF];exact h.task
  have hdl:=hi.dl (by simpa using hc.2)
  obtain ⟨s1,a1,a2,a3⟩:=RJ (k:=k) hNW hF8 hTW K.2.2.2.2.2.2.2.1 ((K,[]),[]) σ rfl hF (LG.nil σ) (by rw [List.nil_append];exact hi.iv) (by rw [List.nil_append];exact h.OI) (fun j hj=>by cases hj) hdl
  obtain ⟨t1,he1⟩:=TI.ends hkj k
  have t2:=t1.prom
  have hp:∀ j,(uy (qc k (K,[])).1.1 (qc k (K,[])).1.2.2.2.1 j).1=j.1 /\ (uy (qc k (K,[])).1.1 (qc k (K,[])).1.2.2.2.1 j).2.1=j.2.1 /\ (uy (qc k (K,[])).1.1 (qc k (K,[])).1.2.2.2.1 j).2.2.2.1=j.2.2.2.1:=fun j=>⟨(FJ _ _ j).1,(FJ _ _ j).2.1,(FJ _ _ j).2.2.2⟩
  have b2:IV F s1 K.1 (BI (qc k (K,[]))).1.2.2.2.2.2.2.2.1:=by
   rw [KL,KM]
   exact a2.map (fun j=>⟨fun a q=>q.prom _ _,hp j⟩)
  have b3:DL F K.1 1 (BI (qc k (K,[]))).1.2.2.2.2.2.2.2.1:=by
   rw [KL,KM]
   exact a3.map hp
  have b1:LG F K.1 σ (BI (qc k (K,[]))).2 s1:=a1
  have t2n:=t2.tasks.2.2.1
  have c4:=t2.apW he1 k
  have hau:=UR k (BI (qc k (K,[]))) t2.tab
  have c1:LG F K.1 σ (oq k K).2 s1:=by
   unfold oq
   rw [hau]
   refine b1.app (LG.neu hNW _ (fun e he=>?_))
   rw [t2n] at he
   exact WV _ _ e he
  have hls:∀ j,(uz (BI (qc k (K,[]))).1.2.2.2.2.2.2.2.2.1 (uq k (BI (qc k (K,[]))).1.2.2.2.2.2.2.2.2.1).2.1 j).1=j.1 /\ (uz (BI (qc k (K,[]))).1.2.2.2.2.2.2.2.2.1 (uq k (BI (qc k (K,[]))).1.2.2.2.2.2.2.2.2.1).2.1 j).2.1=j.2.1 /\ (uz (BI (qc k (K,[]))).1.2.2.2.2.2.2.2.2.1 (uq k (BI (qc k (K,[]))).1.2.2.2.2.2.2.2.2.1).2.1 j).2.2.2.1=j.2.2.2.1:=fun j=>⟨(FI _ _ j).1,(FI _ _ j).2.1,(FI _ _ j).2.2.2⟩
  have c2:IV F s1 K.1 (oq k K).1.2.2.2.2.2.2.2.1:=by
   unfold oq
   rw [hau]
   exact b2.map (fun j=>⟨fun a q=>q.loss _ _,hls j⟩)
  have c3:DL F K.1 1 (oq k K).1.2.2.2.2.2.2.2.1:=by
   unfold oq
   rw [hau]
   exact b3.map hls
  have t3:=hkj.ahead k
  have et:=t3.tasks
  have fin:∀ s2,LG F K.1 σ (zm k (oq k K)).2 s2 -> IV F s2 K.1 (zm k (oq k K)).1.2.2.2.2.2.2.2.1 -> DL F K.1 1 (zm k (oq k K)).1.2.2.2.2.2.2.2.1 -> ∃ σ2,LG F K.1 σ (l7 k K).2 σ2 /\ IVK F σ2 (l7 k K).1 /\ (l7 k K).1.1=K.1+1:=fun s2 d1 d2 d3=>by
   refine ⟨s2,by rw [e];exact d1,⟨?_,fun _=>?_,by rw [ak4];omega⟩,ak4⟩
   ·rw [ak4,e];exact d2.later (by omega)
   ·rw [ak4,e]
    intro j hj hp
    have:=d3 j hj hp
    omega
  have hris:=t3.OI
  have aoI:=et.2.2.1
  have arl:=et.1.trans hF
  generalize oq k K=u at c1 c2 c3 hris aoI arl fin
  cases hcc:u.1.2.2.2.2.2.1||u.1.2.2.2.2.2.2.2.1.isEmpty with
  | true =>
   have er:zm k u=u:=by unfold zm;rw [hcc];rfl
   rw [er] at fin
   exact fin s1 c1 c2 c3
  | false =>
   have hmin:=hcc
   rw [Bool.or_eq_false_iff] at hmin
   have hlt:=next_lt hmin.2 (u.1.2.2.1.length:Int) (kg u.1.2.2.2.2.2.2.2.2.1)
   obtain ⟨l,s2,g1,g2,g3,g4⟩:=aql (k:=k) (u:=u) hNW hF8 hTW aoI arl hris hlt c2 c3
   have er:zm k u=(w7 (G8 k u (u.1.2.2.2.2.2.2.2.1.getD (HV u.1.2.2.2.2.2.2.2.1 (u.1.2.2.1.length:Int) (kg u.1.2.2.2.2.2.2.2.2.1)) ay)).2.1.1 (abY u.1.2.2.2.2.2.2.2.1 (HV u.1.2.2.2.2.2.2.2.1 (u.1.2.2.1.length:Int) (kg u.1.2.2.2.2.2.2.2.2.1)) (G8 k u (u.1.2.2.2.2.2.2.2.1.getD (HV u.1.2.2.2.2.2.2.2.1 (u.1.2.2.1.length:Int) (kg u.1.2.2.2.2.2.2.2.2.1)) ay))),(G8 k u (u.1.2.2.2.2.2.2.2.1.getD (HV u.1.2.2.2.2.2.2.2.1 (u.1.2.2.1.length:Int) (kg u.1.2.2.2.2.2.2.2.2.1)) ay)).2.1.2):=by unfold zm;rw [hcc];rfl
   rw [er] at fin
   exact fin s2 (by rw [g1];exact c1.app g2) g3 g4
theorem aqn {F:List iy} {σ:CS} {K:je} (h:KW K) (hi:IVK F σ K) (hn:K.1<1000000000000) (hts:K.2.2.2.2.1=true -> K.2.2.1=F) {p a:Int} (har:FY a):∃ σ2,LG F K.1 σ (ug K p a).2.1 σ2 /\ IVK F σ2 (ug K p a).1 /\ (ug K p a).1.1=K.1:=by
 have h0:=hi.nw
 have hNW:NW K.1:=⟨h0,by omega⟩
 rcases JA h.OI p a with ⟨e1,e2,_⟩ | ⟨hru,hha,hp,_,n,h1,h2,e,hris,hc⟩
 ·rw [e1,e2];exact ⟨σ,LG.nil σ,hi,rfl⟩
 ·have hF:=hts hru
  have h8:=h.FE
  have Lx:=h.task _ (jo (z:=bg) (show p.toNat<K.2.2.1.length by omega))
  rw [hF] at hp Lx h8
  have hoff:σ.on p=false:=by
   cases ho:σ.on p with
   | false=>rfl
   | true =>
    obtain ⟨j,hj,q1,q2⟩:=hi.iv.on p ho
    rcases hc with ⟨_,c1,_⟩ | ⟨c0,c1,c2,_⟩
    ·exact absurd q1 (c1 j hj)
    ·have:=WU h.OI hj (jo (z:=ay) (show nk p K.2.2.2.2.2.2.2.1<K.2.2.2.2.2.2.2.1.length by omega)) (q1.trans c1.symm)
     rw [this] at q2;exact absurd c2 q2
  have hrel:LG F K.1 σ [(K.1,1,p,0,a,0)] (wm σ (K.1,1,p,0,a,0)):=LG.one rfl (fun q hq=>⟨⟨h0,by show K.1 <= _;omega,hq⟩,⟨hp.1,by show p<8;omega⟩,fun _=>hoff,fun q=>by (have q:(1:Int)=3 \/ (1:Int)=4 \/ (1:Int)=5 \/ (1:Int)=7 \/ (1:Int)=8:=q;omega),fun q=>absurd (show (1:Int)=3 from q) (by decide),fun q=>absurd (show (1:Int)=4 from q) (by decide),fun q=>absurd (show (1:Int)=5 from q) (by decide),fun q=>absurd (show (1:Int)=7 from q) (by decide),fun q=>absurd (show (1:Int)=8 from q) (by decide)⟩)
  have hmid:=acW (x:=K.2.2.2.2.2.2.2.1.take (nk p K.2.2.2.2.2.2.2.1)) (j:=FH p K.1 a) (y:=K.2.2.2.2.2.2.2.1.drop n) (by rw [List.append_assoc,List.singleton_append] at hris;exact hris)
  rw [e,List.append_assoc,List.singleton_append]
  have hsub:∀ z∈K.2.2.2.2.2.2.2.1.take (nk p K.2.2.2.2.2.2.2.1)++FH p K.1 a::K.2.2.2.2.2.2.2.1.drop n,z=FH p K.1 a \/ (z∈K.2.2.2.2.2.2.2.1 /\ z.1≠p):=fun z hz=>by
   by_cases hq:z.1=p
   ·left
    rcases List.mem_append.1 hz with q | q
    ·exact absurd hq ((hmid.1 z (List.mem_append.2 (.inl q))).2)
    ·rcases List.mem_cons.1 q with q | q
     ·exact q
     ·exact absurd hq ((hmid.1 z (List.mem_append.2 (.inr q))).2)
   ·right
    refine ⟨?_,hq⟩
    rcases List.mem_append.1 (hmid.2 z hz hq) with q | q
    ·exact List.mem_of_mem_take q
    ·exact List.mem_of_mem_drop q
  refine ⟨wm σ (K.1,1,p,0,a,0),?_,⟨?_,fun _=>?_,h0⟩,rfl⟩
  ·rcases hc with ⟨_,_,c3⟩ | ⟨_,_,_,c3⟩
   ·rw [c3];exact hrel
   ·rw [c3]
    refine LG.app (l:=[(K.1,13,p,0,0,0)]) (LG.neu hNW _ (fun e he=>?_)) hrel
    rw [List.mem_singleton] at he;rw [he]
    exact ⟨⟨by simp,by simp,by simp,by simp,by simp,by simp⟩,rfl,hp.1,by show p<8;omega⟩
  ·refine hi.iv.put (y:=FH p K.1 a) (V8 σ (K.1,1,p,0,a,0)) rfl ⟨a,JW.FH hp har Lx,har,⟨h0,Int.le_refl _⟩,fun _=>⟨if_pos rfl,if_pos rfl,if_pos rfl,if_pos rfl⟩,fun q=>absurd (show (0:Int)=2 from q) (by decide)⟩ (fun _=>(show (0:Int)≠2 by decide)) hsub (fun z hz hne=>?_) (List.mem_append.2 (.inr List.mem_cons_self))
   have hne:z.1≠p:=hne
   obtain ⟨b,hb,eb⟩:=vg ay hz
   by_cases q:b<nk p K.2.2.2.2.2.2.2.1
   ·refine List.mem_append.2 (.inl (List.mem_iff_getElem.2 ⟨b,by rw [List.length_take];omega,?_⟩))
    rw [List.getElem_take,<- getD_in (z:=ay) hb];exact eb
   ·by_cases q2:b<n
    ·exfalso
     rcases hc with ⟨c1,_⟩ | ⟨c1,c2,c3,_⟩
     ·omega
     ·have:b=nk p K.2.2.2.2.2.2.2.1:=by omega
      rw [<- this,eb] at c2
      exact hne c2
    ·refine List.mem_append.2 (.inr (List.mem_cons_of_mem _ (List.mem_iff_getElem.2 ⟨b - n,by rw [List.length_drop];omega,?_⟩)))
     rw [List.getElem_drop]
     rw [<- eb,getD_in hb];congr 1;omega
  ·intro z hz hp2
   rcases hsub z hz with q | q
   ·rw [q]
    have hend:=(OA.1 Lx.may).2.2.1.1
    show K.1+0 <= K.1+Vj F p
    have:1 <= Vj F p:=hend
    omega
   ·exact hi.dl hha z q.1 hp2
structure QU (K:je) (r:CR):Prop where
 now:r.1.1=K.1
 jobs:r.1.2.2.2.2.2.2.2.1=K.2.2.2.2.2.2.2.1
 halt:r.1.2.2.2.2.2.1=K.2.2.2.2.2.1
 ev:∀ e∈r.2.1,e.1=K.1 /\ e.2.1=12 /\ e.2.2.1=0
theorem QU.err (K:je) (e:Int):QU K (err K e):=⟨rfl,rfl,rfl,fun x hx=>by cases hx⟩
theorem acY (k:Nat) (K:je) {c:Cl} (h6:c.1≠6):QU K (zo k K c):=by
 have mk:QU K (zn k K c):=by
  unfold zn
  cases (c.1==2)&&K.2.2.2.2.1 with
  | true=>exact QU.err _ _
  | false =>
  cases (BF k K.2.2.2.2.2.2.2.2.1 (c.1 - 1)).2.2 with
  | true=>exact ⟨rfl,rfl,rfl,fun x hx=>by cases hx⟩
  | false=>exact QU.err _ _
 unfold zo
 cases c.1==1 with
 | true =>
  simp only [cond_true]
  unfold KN
  cases K.2.2.2.2.1 with
  | true=>exact QU.err _ _
  | false =>
  cases (inT K.2.2.1 c.2.1 K.2.1).2.2==0 with
  | true=>exact ⟨rfl,rfl,rfl,fun x hx=>by cases hx⟩
  | false=>exact QU.err _ _
 | false =>
 cases c.1==2 with
 | true=>exact mk
 | false =>
 cases c.1==3 with
 | true=>exact mk
 | false =>
 cases c.1==4 with
 | true=>exact mk
 | false =>
 cases c.1==5 with
 | true =>
  simp only [cond_true,cond_false]
  unfold I6 uh
  cases K.2.2.2.2.1 with
  | true=>exact QU.err _ _
  | false =>
  cases K.2.2.1.any (HY (kg K.2.2.2.2.2.2.2.2.1).length) with
  | true=>exact QU.err _ _
  | false=>exact ⟨rfl,rfl,rfl,fun x hx=>by cases hx⟩
 | false =>
 rw [beq_eq_false_iff_ne.2 h6]
 cases c.1==7 with
 | true =>
  simp only [cond_true,cond_false]
  unfold UY
  dsimp only
  cases MK K.2.2.2.2.2.2.2.2.1 c.2.2.1 2 with
  | false=>exact QU.err _ _
  | true =>
  cases (BJ (rd K.2.2.2.2.2.2.2.2.1.2 c.2.2.1.1 j6).2.2.2.1 c.2.2.2.2.1).2.2 with
  | false=>exact QU.err _ _
  | true =>
   refine ⟨rfl,rfl,rfl,fun x hx=>?_⟩
   have hx:x∈(bif decide ((BJ (rd K.2.2.2.2.2.2.2.2.1.2 c.2.2.1.1 j6).2.2.2.1 c.2.2.2.2.1).2.1>0) then [((K.1,12,0,(BJ (rd K.2.2.2.2.2.2.2.2.1.2 c.2.2.1.1 j6).2.2.2.1 c.2.2.2.2.1).2.1,c.2.2.2.2.1,0):jf)] else []):=hx
   cases hb:decide ((BJ (rd K.2.2.2.2.2.2.2.2.1.2 c.2.2.1.1 j6).2.2.2.1 c.2.2.2.2.1).2.1>0) with
   | false=>rw [hb] at hx;cases hx
   | true=>rw [hb,cond_true,List.mem_singleton] at hx;rw [hx];exact ⟨rfl,rfl,rfl⟩
 | false =>
 cases c.1==8 with
 | true =>
  simp only [cond_true,cond_false]
  unfold UZ
  dsimp only
  cases MK K.2.2.2.2.2.2.2.2.1 c.2.2.1 2 with
  | false=>exact QU.err _ _
  | true =>
  cases (takeB (rd K.2.2.2.2.2.2.2.2.1.2 c.2.2.1.1 j6).2.2.2.1 c.2.2.2.1).2.2.2 with
  | false=>exact QU.err _ _
  | true=>exact ⟨rfl,rfl,rfl,fun x hx=>by cases hx⟩
 | false =>
 cases c.1==9 with
 | true =>
  simp only [cond_true,cond_false]
  unfold KO
  dsimp only
  cases MK K.2.2.2.2.2.2.2.2.1 c.2.2.1 3 with
  | false=>exact QU.err _ _
  | true =>
   refine ⟨rfl,rfl,rfl,fun x hx=>?_⟩
   obtain ⟨y,_,rfl⟩:=List.mem_map.1 (show x∈List.map _ _ from hx)
   exact ⟨rfl,rfl,rfl⟩
 | false =>
 cases c.1==10 with
 | true =>
  simp only [cond_true,cond_false]
  unfold KP
  dsimp only
  cases MK K.2.2.2.2.2.2.2.2.1 c.2.2.1 3 with
  | false=>exact QU.err _ _
  | true =>
  cases (BP (rd K.2.2.2.2.2.2.2.2.1.2 c.2.2.1.1 j6).2.2.2.2.1 c.2.2.2.1 c.2.2.2.2.2).2.2 with
  | false=>exact QU.err _ _
  | true=>exact ⟨rfl,rfl,rfl,fun x hx=>by cases hx⟩
 | false =>
 cases c.1==11 with
 | true =>
  simp only [cond_true,cond_false]
  unfold V3
  dsimp only
  cases acU K.2.2.2.2.2.2.2.2.1 c.2.2.1 with
  | false=>exact QU.err _ _
  | true =>
   refine ⟨rfl,rfl,rfl,fun x hx=>?_⟩
   obtain ⟨y,_,rfl⟩:=List.mem_map.1 (show x∈List.map _ _ from hx)
   exact ⟨rfl,rfl,rfl⟩
 | false=>exact QU.err _ _
theorem acZ {k:Nat} {K:je} (h:KW K) (c:Cl) (hr:K.2.2.2.2.1=true):(zo k K c).1.2.2.2.2.1=true /\ (zo k K c).1.2.2.1=K.2.2.1:=by
 have mk:(zn k K c).1.2.2.2.2.1=true /\ (zn k K c).1.2.2.1=K.2.2.1:=by
  unfold zn
  cases (c.1==2)&&K.2.2.2.2.1 with
  | true=>exact ⟨hr,rfl⟩
  | false =>
  cases (BF k K.2.2.2.2.2.2.2.2.1 (c.1 - 1)).2.2 with
  | true=>exact ⟨hr,rfl⟩
  | false=>exact ⟨hr,rfl⟩
 unfold zo
 cases c.1==1 with
 | true =>
  simp only [cond_true]
  unfold KN
  rw [hr];exact ⟨hr,rfl⟩
 | false =>
 cases c.1==2 with
 | true=>exact mk
 | false =>
 cases c.1==3 with
 | true=>exact mk
 | false =>
 cases c.1==4 with
 | true=>exact mk
 | false =>
 cases c.1==5 with
 | true =>
  simp only [cond_true,cond_false]
  unfold I6 uh
  rw [hr];exact ⟨hr,rfl⟩
 | false =>
 cases c.1==6 with
 | true =>
  simp only [cond_true,cond_false]
  unfold anP
  rcases JA h.OI c.2.2.2.1 c.2.2.2.2.1 with ⟨e,_⟩ | ⟨_,_,_,_,n,_,_,e,_⟩
  ·show (ug _ _ _).1.2.2.2.2.1=true /\ (ug _ _ _).1.2.2.1=_
   rw [e];exact ⟨hr,rfl⟩
  ·show (ug _ _ _).1.2.2.2.2.1=true /\ (ug _ _ _).1.2.2.1=_
   rw [e];exact ⟨hr,rfl⟩
 | false =>
 cases c.1==7 with
 | true =>
  simp only [cond_true,cond_false]
  unfold UY
  dsimp only
  cases MK K.2.2.2.2.2.2.2.2.1 c.2.2.1 2 with
  | false=>exact ⟨hr,rfl⟩
  | true =>
  cases (BJ (rd K.2.2.2.2.2.2.2.2.1.2 c.2.2.1.1 j6).2.2.2.1 c.2.2.2.2.1).2.2 with
  | false=>exact ⟨hr,rfl⟩
  | true=>exact ⟨hr,rfl⟩
 | false =>
 cases c.1==8 with
 | true =>
  simp only [cond_true,cond_false]
  unfold UZ
  dsimp only
  cases MK K.2.2.2.2.2.2.2.2.1 c.2.2.1 2 with
  | false=>exact ⟨hr,rfl⟩
  | true =>
  cases (takeB (rd K.2.2.2.2.2.2.2.2.1.2 c.2.2.1.1 j6).2.2.2.1 c.2.2.2.1).2.2.2 with
  | false=>exact ⟨hr,rfl⟩
  | true=>exact ⟨hr,rfl⟩
 | false =>
 cases c.1==9 with
 | true =>
  simp only [cond_true,cond_false]
  unfold KO
  dsimp only
  cases MK K.2.2.2.2.2.2.2.2.1 c.2.2.1 3 with
  | false=>exact ⟨hr,rfl⟩
  | true=>exact ⟨hr,rfl⟩
 | false =>
 cases c.1==10 with
 | true =>
  simp only [cond_true,cond_false]
  unfold KP
  dsimp only
  cases MK K.2.2.2.2.2.2.2.2.1 c.2.2.1 3 with
  | false=>exact ⟨hr,rfl⟩
  | true =>
  cases (BP (rd K.2.2.2.2.2.2.2.2.1.2 c.2.2.1.1 j6).2.2.2.2.1 c.2.2.2.1 c.2.2.2.2.2).2.2 with
  | false=>exact ⟨hr,rfl⟩
  | true=>exact ⟨hr,rfl⟩
 | false =>
 cases c.1==11 with
 | true =>
  simp only [cond_true,cond_false]
  unfold V3
  dsimp only
  cases acU K.2.2.2.2.2.2.2.2.1 c.2.2.1 with
  | false=>exact ⟨hr,rfl⟩
  | true=>exact ⟨hr,rfl⟩
 | false=>exact ⟨hr,rfl⟩
theorem anZ {F:List iy} {σ:CS} {k:Nat} {K:je} (h:KW K) (hi:IVK F σ K) (hn:K.1<1000000000000) (hts:K.2.2.2.2.1=true -> K.2.2.1=F) {c:Cl} (hc:CW c):∃ σ2,LG F K.1 σ (zo k K c).2.1 σ2 /\ IVK F σ2 (zo k K c).1 /\ (zo k K c).1.1=K.1:=by
 by_cases h6:c.1=6
 ·have e:zo k K c=anP K c:=by unfold zo;rw [h6];rfl
  rw [e]
  exact aqn h hi hn hts hc.2
 ·obtain ⟨q1,q2,q3,q4⟩:=acY k K h6
  have h0:=hi.nw
  refine ⟨σ,LG.neu ⟨h0,by omega⟩ _ (fun e he=>?_),⟨by rw [q1,q2];exact hi.iv,by rw [q1,q2,q3];exact hi.dl,by rw [q1];exact h0⟩,q1⟩
  obtain ⟨a,b,d⟩:=q4 e he
  exact ⟨⟨by rw [b];decide,by rw [b];decide,by rw [b];decide,by rw [b];decide,by rw [b];decide,by rw [b];decide⟩,a,by rw [d];decide,by rw [d];decide⟩
def c0:CS:=⟨fun _=>0,fun _=>false,fun _=>0,fun _=>0,fun _=>false⟩
theorem WW:∀ (l l2:List jf) (p:Option jf),V6 p (l++l2)=V6 (V6 p l) l2
 | [],_,_=>rfl
 | e::l,l2,p=>WW l l2 (some e)
structure AL (F:List iy) (ev:List jf) (σ:CS) (now:Int):Prop where
 ok:OKs F none c0 ev
 en:ev.foldl wm c0=σ
 pa:PA (V6 none ev) now
theorem AL.app {F:List iy} {ev l:List jf} {σ σ2:CS} {now:Int} (h:AL F ev σ now) (hl:LG F now σ l σ2):AL F (ev++l) σ2 now :=
 ⟨Z5 ev l none c0 h.ok (by rw [h.en];exact hl.ok _ h.pa),by rw [List.foldl_append,h.en,hl.en],by rw [WW];exact V7 l _ h.pa hl.at_⟩
theorem AL.later {F:List iy} {ev:List jf} {σ:CS} {now ak3:Int} (h:AL F ev σ now) (hn:now <= ak3):AL F ev σ ak3:=⟨h.ok,h.en,fun q hq=>by have:=h.pa q hq;omega⟩
theorem ab0 {F:List iy} {k:Nat}:∀ (n:Nat) (s:je×List jf) (ev:List jf) (σ:CS),KW s.1 -> IVK F σ s.1 -> s.1.1+n<1000000000000 -> (s.1.2.2.2.2.1=true -> s.1.2.2.1=F) -> AL F (ev++s.2) σ s.1.1 ->
  ∃ σ2,AL F (ev++(su k n s).2) σ2 (su k n s).1.1 /\ IVK F σ2 (su k n s).1 /\ (su k n s).1.1=s.1.1+n /\ (s.1.2.2.2.2.1=true -> (su k n s).1.2.2.2.2.1=true /\ (su k n s).1.2.2.1=s.1.2.2.1)
 | 0,s,ev,σ,_,hi,_,_,ha=>⟨σ,ha,hi,by show s.1.1=s.1.1+0;omega,fun h=>⟨h,rfl⟩⟩
 | n+1,s,ev,σ,h,hi,hn,hts,ha=>by
  obtain ⟨t1,t2,t3,t4,t5,_⟩:=FL (k:=k) h
  obtain ⟨σ1,g1,g2,g3⟩:=agw (k:=k) h hi (by omega) hts
  obtain ⟨σ2,f1,f2,f3,f4⟩:=ab0 n ((l7 k s.1).1,s.2++(l7 k s.1).2) ev σ1 t1 g2 (by show (l7 k s.1).1.1+n<_;rw [g3];omega) (by
   intro q
   have q:(l7 k s.1).1.2.2.2.2.1=true:=q
   rw [t4] at q
   show (l7 k s.1).1.2.2.1=F
   rw [t2];exact hts q) (by
   show AL F (ev++(s.2++(l7 k s.1).2)) σ1 (l7 k s.1).1.1
   rw [<- List.append_assoc]
   exact (ha.app g1).later (by rw [g3];omega))
  rw [su]
  refine ⟨σ2,f1,f2,by rw [f3];show (l7 k s.1).1.1+n=_;rw [g3];omega,fun q=>?_⟩
  obtain ⟨z1,z2⟩:=f4 (by show (l7 k s.1).1.2.2.2.2.1=true;rw [t4];exact q)
  exact ⟨z1,z2.trans t2⟩
theorem arn {F:List iy} {k:Nat} {K:je} {ev:List jf} {σ:CS} (h:KW K) (hi:IVK F σ K) (hn:K.1+10000<1000000000000) (hts:K.2.2.2.2.1=true -> K.2.2.1=F) (ha:AL F ev σ K.1) {s:Stp} (hs:SW s) :
  ∃ σ2,AL F (ev++(JY k K s).2.1) σ2 (JY k K s).1.1 /\ IVK F σ2 (JY k K s).1 /\ (JY k K s).1.1 <= K.1+10000:=by
 have hz:∀ (K2:je),K2.1=K.1 -> K2.2.2.2.2.2.2.2.1=K.2.2.2.2.2.2.2.1 -> K2.2.2.2.2.2.1=K.2.2.2.2.2.1 -> ∃ σ2,AL F (ev++([]:List jf)) σ2 K2.1 /\ IVK F σ2 K2 /\ K2.1 <= K.1+10000:=fun K2 e1 e2 e3=>⟨σ,by rw [List.append_nil,e1];exact ha,⟨by rw [e1,e2];exact hi.iv,by rw [e1,e2,e3];exact hi.dl,by rw [e1];exact hi.nw⟩,by omega⟩
 unfold JY
 cases s.1==1 with
 | true =>
  obtain ⟨σ2,g1,g2,g3⟩:=anZ (k:=k) h hi (by omega) hts (c:=s.2.1) ⟨hs.light,hs.arg⟩
  exact ⟨σ2,by simp only [cond_true];rw [g3];exact ha.app g1,g2,by simp only [cond_true];omega⟩
 | false =>
 cases s.1==2 with
 | true =>
  obtain ⟨σ2,g1,g2,g3⟩:=agw (k:=k) h hi (by omega) hts
  exact ⟨σ2,by simp only [cond_true,cond_false];rw [g3];exact (ha.app g1).later (by omega),g2,by simp only [cond_true,cond_false];omega⟩
 | false =>
 cases s.1==3 with
 | true=>exact hz _ rfl rfl rfl
 | false =>
 cases s.1==4 with
 | true =>
  simp only [cond_true,cond_false]
  cases EA K.2.2.2.2.2.2.2.2.1 s.2.2.1 with
  | true=>exact hz _ rfl rfl rfl
  | false=>exact hz _ rfl rfl rfl
 | false =>
 cases s.1==5 with
 | true =>
  simp only [cond_true,cond_false]
  cases hq:decide (s.2.2.2<0)||decide (s.2.2.2>10000) with
  | true=>exact hz _ rfl rfl rfl
  | false =>
   rw [Bool.or_eq_false_iff] at hq
   have n1:=of_decide_eq_false hq.1
   have n2:=of_decide_eq_false hq.2
   obtain ⟨σ2,f1,f2,f3,_⟩:=ab0 (F:=F) (k:=k) s.2.2.2.toNat (K,[]) ev σ h hi (by show K.1+_<_;omega) hts (by rw [List.append_nil];exact ha)
   exact ⟨σ2,f1,f2,by show (su k s.2.2.2.toNat (K,[])).1.1 <= _;rw [f3];show K.1+_ <= _;omega⟩
 | false=>exact hz _ rfl rfl rfl
theorem PZ {k:Nat}:∀ (n:Nat) (s:je×List jf),KW s.1 -> (su k n s).1.2.2.2.2.1=s.1.2.2.2.2.1 /\ (su k n s).1.2.2.1=s.1.2.2.1
 | 0,s,_=>⟨rfl,rfl⟩
 | n+1,s,h=>by
  obtain ⟨t1,t2,t3,t4,_⟩:=FL (k:=k) h
  obtain ⟨a,b⟩:=PZ n ((l7 k s.1).1,s.2++(l7 k s.1).2) t1
  rw [su]
  exact ⟨a.trans t4,b.trans t2⟩
theorem ak5 {k:Nat} {K:je} (h:KW K) (s:Stp) (hr:K.2.2.2.2.1=true):(JY k K s).1.2.2.2.2.1=true /\ (JY k K s).1.2.2.1=K.2.2.1:=by
 unfold JY
 cases s.1==1 with
 | true=>exact acZ h _ hr
 | false =>
 cases s.1==2 with
 | true =>
  obtain ⟨t1,t2,t3,t4,_⟩:=FL (k:=k) h
  exact ⟨t4.trans hr,t2⟩
 | false =>
 cases s.1==3 with
 | true=>exact ⟨hr,rfl⟩
 | false =>
 cases s.1==4 with
 | true =>
  simp only [cond_true,cond_false]
  cases EA K.2.2.2.2.2.2.2.2.1 s.2.2.1 with
  | true=>exact ⟨hr,rfl⟩
  | false=>exact ⟨hr,rfl⟩
 | false =>
 cases s.1==5 with
 | true =>
  simp only [cond_true,cond_false]
  cases decide (s.2.2.2<0)||decide (s.2.2.2>10000) with
  | true=>exact ⟨hr,rfl⟩
  | false =>
   obtain ⟨a,b⟩:=PZ (k:=k) s.2.2.2.toNat (K,[]) h
   exact ⟨a.trans hr,b⟩
 | false=>exact ⟨hr,rfl⟩
theorem Q0 {k:Nat}:∀ (l:List Stp) (r:je×List jf×List Rly),(∀ s∈l,SW s) -> KW r.1 -> r.1.2.2.2.2.1=true -> (qj k l r).1.2.2.1=r.1.2.2.1
 | [],r,_,_,_=>rfl
 | s::l,r,hs,h,hr=>by
  obtain ⟨a,b⟩:=ak5 (k:=k) h s hr
  rw [qj,Q0 l _ (fun x hx=>hs x (by simp [hx])) (agt h (hs s (by simp))).1 a]
  exact b
theorem ab1 {F:List iy} {k:Nat}:∀ (l:List Stp) (r:je×List jf×List Rly) (σ:CS),(∀ s∈l,SW s) -> KW r.1 -> IVK F σ r.1 -> r.1.1+10000 * l.length<1000000000000 -> AL F r.2.1 σ r.1.1 -> (qj k l r).1.2.2.1=F ->
  ∃ σ2,AL F (qj k l r).2.1 σ2 (qj k l r).1.1 /\ IVK F σ2 (qj k l r).1 /\ (qj k l r).1.1 <= r.1.1+10000 * l.length
 | [],r,σ,_,h,hi,hn,ha,hF=>⟨σ,ha,hi,by show r.1.1 <= _;simp⟩
 | s::l,r,σ,hs,h,hi,hn,ha,hF=>by
  have hts:r.1.2.2.2.2.1=true -> r.1.2.2.1=F:=fun q=>by rw [<- hF,Q0 (s::l) r hs h q]
  simp only [List.length_cons] at hn ⊢
  obtain ⟨σ1,g1,g2,g3⟩:=arn (k:=k) h hi (by omega) hts ha (hs s (by simp))
  rw [qj] at hF ⊢
  obtain ⟨σ2,f1,f2,f3⟩:=ab1 l ((JY k r.1 s).1,r.2.1++(JY k r.1 s).2.1,r.2.2++[(JY k r.1 s).2.2]) σ1 (fun x hx=>hs x (by simp [hx])) (agt h (hs s (by simp))).1 g2 (by show (JY k r.1 s).1.1+_<_;omega) g1 hF
  exact ⟨σ2,f1,f2,by have f3:(qj k l ((JY k r.1 s).1,r.2.1++(JY k r.1 s).2.1,r.2.2++[(JY k r.1 s).2.2])).1.1 <= (JY k r.1 s).1.1+10000 * l.length:=f3;omega⟩
theorem ak6 {k:Nat} {ap:Int} {l:List Stp} (hs:∀ s∈l,SW s) (hl:l.length <= 1000):∃ σ,AL (xw k ap l).1.2.2.1 (xw k ap l).2.1 σ (xw k ap l).1.1 /\ IVK (xw k ap l).1.2.2.1 σ (xw k ap l).1 /\ (xw k ap l).1.1 <= 10000000:=by
 obtain ⟨σ,a,b,c⟩:=ab1 (F:=(xw k ap l).1.2.2.1) (k:=k) l (Vi ap,[],[]) c0 hs (acV ap) ⟨⟨fun j hj=>absurd hj List.not_mem_nil,fun i hi=>Bool.noConfusion hi⟩,fun _ j hj=>absurd hj List.not_mem_nil,Int.le_refl _⟩ (by show (0:Int)+_<_;omega) ⟨trivial,rfl,fun q hq=>by cases hq⟩ rfl
 refine ⟨σ,a,b,?_⟩
 have c:(xw k ap l).1.1 <= 0+10000 * l.length:=c
 omega
theorem in8 {i:Int} (h:0 <= i /\ i<8):i=0 \/ i=1 \/ i=2 \/ i=3 \/ i=4 \/ i=5 \/ i=6 \/ i=7:=by omega
theorem ak7 {α:Type} (f:Int -> α) (d:α) {i:Int} (h:0 <= i /\ i<8):Uq (α:=α) 8 (f 0,f 1,f 2,f 3,f 4,f 5,f 6,f 7) i d=f i:=by
 rcases in8 h with rfl | rfl | rfl | rfl | rfl | rfl | rfl | rfl <;> rfl
theorem agx {α:Type} (f:Int -> α) (v:α) {i:Int} (h:0 <= i /\ i<8):Ur (α:=α) 8 (f 0,f 1,f 2,f 3,f 4,f 5,f 6,f 7) i v=(AU f i v 0,AU f i v 1,AU f i v 2,AU f i v 3,AU f i v 4,AU f i v 5,AU f i v 6,AU f i v 7):=by
 rcases in8 h with rfl | rfl | rfl | rfl | rfl | rfl | rfl | rfl <;> rfl
abbrev e0:jf:=Qn (α:=Int) 6 0
theorem Z6 {k:Nat} (hk:20000 <= k) {l:List I4} {a n:Int} (h:aqf l a n):∃ c,S49 k l a=some ((n,c,true,()),()):=by
 obtain ⟨ha,fin,⟨t,rfl,h1,h2,rfl⟩,rfl⟩:=h
 exact ⟨_,akY hk h1 h2 ha⟩
theorem agy {k:Nat} (hk:20000 <= k) {K:je} {F:List iy} (hF:K.2.2.1=F) {ev:List jf} (hl:ev.length<k) (hle:ev.length <= 100000000000000000):∀ (m i j:Nat) (σ:CS) (p:Option jf),i+m=ev.length -> m<j -> OKs F p σ (ev.drop i) -> (0<i -> p=some (ev.getD (i - 1) e0)) -> (i=0 -> p=none) ->
  Yq k j K ev (σ.inn 0) (σ.inn 1) (σ.inn 2) (σ.inn 3) (σ.inn 4) (σ.inn 5) (σ.inn 6) (σ.inn 7) (σ.out 0) (σ.out 1) (σ.out 2) (σ.out 3) (σ.out 4) (σ.out 5) (σ.out 6) (σ.out 7) (σ.tu 0) (σ.tu 1) (σ.tu 2) (σ.tu 3) (σ.tu 4) (σ.tu 5) (σ.tu 6) (σ.tu 7) (i:Int)=some ((true,()),())
 | 0,i,j,σ,p,hi,hj,ho,hp,hp0=>by
  obtain ⟨j,rfl⟩:∃ i,j=i+1:=⟨j - 1,by omega⟩
  rw [aa6,Yp,Sd (by omega)]
 | m+1,i,j,σ,p,hi,hj,ho,hp,hp0=>by
  obtain ⟨j,rfl⟩:∃ i,j=i+1:=⟨j - 1,by omega⟩
  have hi':i<ev.length:=by omega
  rw [drop_cons e0 hi'] at ho
  obtain ⟨h1,ho2⟩:=ho
  have ih:=agy hk hF hl hle m (i+1) j (wm σ (ev.getD i e0)) (some (ev.getD i e0)) (by omega) (by omega) ho2 (fun _=>by rw [Nat.add_sub_cancel]) (fun q=>by omega)
  rw [aa6,Yp,Sc (by omega),Qo hi',Qp,Mi (by omega)]
  show (bif decide ((ev.getD i e0).2.2.1<0) then _ else _)=_
  generalize ev.getD i e0=e at h1 ih
  have htk:=h1.tk
  rw [Sd (by omega),Sd (by omega)]
  have hax:∀ {R:Type} (x:Option R),ax 8 e.2.2.1 x=x:=fun x=>Rw htk.1 (by show e.2.2.1<((8:Nat):Int);omega)
  have hix:e.2.2.1<(F.length:Int) -> ∀ {R:Type} (x:Option R),ix F e.2.2.1 x=x:=fun q _ x=>Lj htk.1 q
  unfold Yo Yn Ym
  simp only [hax]
  rw [hF,ak7 σ.inn 0 htk,ak7 σ.tu false htk,ak7 σ.out 0 htk,agx σ.inn e.2.2.2.2.1 htk,agx σ.out e.2.2.2.2.1 htk,agx σ.tu true htk,agx σ.tu false htk,Mi (by omega)]
  by_cases k1:e.2.1=1
  ·have hu:wm σ e=⟨AU σ.at_ e.2.2.1 e.1,AU σ.on e.2.2.1 true,AU σ.inn e.2.2.1 e.2.2.2.2.1,σ.out,AU σ.tu e.2.2.1 false⟩:=by unfold wm;rw [if_pos k1]
   rw [hu] at ih
   rw [show (e.2.1==1)=true from beq_iff_eq.2 k1,cond_true]
   exact ih
  ·rw [beq_eq_false_iff_ne.2 k1,cond_false]
   by_cases k7:e.2.1=7
   ·have hu:wm σ e=⟨σ.at_,σ.on,σ.inn,σ.out,AU σ.tu e.2.2.1 true⟩:=by unfold wm;rw [if_neg k1,if_neg (by omega),if_neg (by omega),if_neg (by omega),if_pos k7]
    obtain ⟨d1,d2⟩:=h1.tur k7
    have hlen:=h1.len (by omega)
    have hne:¬ (((rd F e.2.2.1 bg).2.2.2.2.1.length:Int)=0):=fun q=>d2 (List.eq_nil_of_length_eq_zero (by have q:(((F.getD e.2.2.1.toNat bg).2.2.2.2.1.length:Nat):Int)=0:=q;omega))
    rw [hu] at ih
    rw [show (e.2.1==7)=true from beq_iff_eq.2 k7,cond_true,d1,cond_false,Sd (by omega),hix hlen,beq_eq_false_iff_ne.2 hne,cond_false]
    exact ih
   ·rw [beq_eq_false_iff_ne.2 k7,cond_false]
    by_cases k3:e.2.1=3
    ·have hu:wm σ e=⟨σ.at_,AU σ.on e.2.2.1 false,σ.inn,AU σ.out e.2.2.1 e.2.2.2.2.1,σ.tu⟩:=by unfold wm;rw [if_neg k1,if_pos k3]
     obtain ⟨_,_,_,_,d5⟩:=h1.don k3
     have hlen:=h1.len (by omega)
     rw [hu] at ih
     rw [show (e.2.1==3)=true from beq_iff_eq.2 k3,cond_true,Sd (by omega),hix hlen,beq_eq_false_iff_ne.2 (show e.2.1≠4 by omega)]
     simp only [cond_false]
     cases ht:σ.tu e.2.2.1 with
     | true =>
      rw [ht,cond_true] at d5
      obtain ⟨c,ec⟩:=Z6 hk d5
      have ec:S49 k (rd F e.2.2.1 bg).2.2.2.2.1 (σ.inn e.2.2.1)=_:=ec
      rw [cond_true,ec,Option.bind_some]
      simp only [Bool.not_true,cond_false,bne_self_eq_false]
      exact ih
     | false =>
      rw [ht,cond_false] at d5
      obtain ⟨c,ec⟩:=Z6 hk d5
      have ec:S49 k (rd F e.2.2.1 bg).2.2.2.1 (σ.inn e.2.2.1)=_:=ec
      rw [cond_false,ec,Option.bind_some]
      simp only [Bool.not_true,cond_false,bne_self_eq_false]
      exact ih
    ·rw [beq_eq_false_iff_ne.2 k3,cond_false]
     by_cases k4:e.2.1=4
     ·have hu:wm σ e=⟨σ.at_,σ.on,σ.inn,AU σ.out e.2.2.1 e.2.2.2.2.1,σ.tu⟩:=by unfold wm;rw [if_neg k1,if_neg k3,if_pos k4]
      have d5:=h1.bet k4
      have hlen:=h1.len (by omega)
      obtain ⟨c,ec⟩:=Z6 hk d5
      have ec:S49 k (rd F e.2.2.1 bg).2.2.2.2.2 (σ.out e.2.2.1)=_:=ec
      rw [hu] at ih
      rw [show (e.2.1==4)=true from beq_iff_eq.2 k4,cond_true,Sd (by omega),hix hlen]
      simp only [cond_true]
      rw [ec,Option.bind_some]
      simp only [Bool.not_true,cond_false,bne_self_eq_false]
      cases σ.tu e.2.2.1 with
      | true=>exact ih
      | false=>exact ih
     ·rw [beq_eq_false_iff_ne.2 k4,cond_false]
      have hu:(wm σ e).inn=σ.inn /\ (wm σ e).out=σ.out /\ (wm σ e).tu=σ.tu:=by
       unfold wm
       rw [if_neg k1,if_neg k3,if_neg k4,if_neg k7]
       split <;> exact ⟨rfl,rfl,rfl⟩
      rw [hu.1,hu.2.1,hu.2.2] at ih
      by_cases k8:e.2.1=8
      ·obtain ⟨d1,d2,q,d3,d4,d5⟩:=h1.fre k8
       have hlen:=h1.len (by omega)
       have hne:¬ (((rd F e.2.2.1 bg).2.2.2.2.1.length:Int)=0):=fun q=>d2 (List.eq_nil_of_length_eq_zero (by have q:(((F.getD e.2.2.1.toNat bg).2.2.2.2.1.length:Nat):Int)=0:=q;omega))
       have hi0:i≠0:=fun z=>by rw [hp0 z] at d3;cases d3
       have hpq:=hp (by omega)
       rw [d3] at hpq
       injection hpq with hpq
       rw [show (e.2.1==8)=true from beq_iff_eq.2 k8,cond_true,d1,cond_false,Sd (by omega),hix hlen,beq_eq_false_iff_ne.2 hne,cond_false,beq_eq_false_iff_ne.2 (show (i:Int)≠0 by omega),cond_false,Uu (n:=(i:Int) - 1) (by omega) (by omega),show (i:Int) - 1=((i - 1:Nat):Int) by omega,Qo (by omega),Qo (by omega),Qp]
       show (bif (ev.getD (i - 1) e0).2.1 != 3 then _ else (bif (ev.getD (i - 1) e0).2.2.1 != e.2.2.1 then _ else _))=_
       rw [<- hpq,d4,d5,bne_self_eq_false,bne_self_eq_false]
       exact ih
      ·rw [beq_eq_false_iff_ne.2 k8,cond_false]
       exact ih
theorem topTrue_pure {e1 e2:TypeId} {p q:List Int} (hp:Ty.fine (.sl e1 (.int .u8)) p) (hq:Ty.fine (.sl e2 (.int .u8)) q) {k:Nat} (hk:10000000000000 <= k):S12 k p q=some ((true,()),()):=by
 unfold S12
 rw [aqd (by omega)]
 simp only [Option.bind_some,Bool.not_true,cond_false]
 by_cases h1:(p.length:Int)>200
 ·rw [Sc h1]
 ·rw [Sd h1]
  by_cases h2:(q.length:Int)>250
  ·rw [Sc h2]
  ·rw [Sd h2]
   obtain ⟨a,n1,ea,ha,hal⟩:=aqe (k:=k) (by omega) hp (by omega)
   obtain ⟨b,n2,eb,hb,hbl⟩:=anW (k:=k) (by omega) hq (by omega) (show 120 <= 500 by omega)
   have eb:S18 k q 0 120=_:=eb
   rw [agu,Option.bind_some]
   simp only
   rw [ea,Option.bind_some,agu,Option.bind_some]
   simp only
   rw [eb,Option.bind_some]
   simp only
   rw [Rz (by omega)]
   have hs:∀ s∈a++b,SW s:=fun s h=>by
    rcases List.mem_append.1 h with h | h
    ·exact ha s h
    ·exact hb s h
   have hl:(a++b).length <= 150:=by rw [List.length_append];omega
   generalize a++b=l at hs hl
   rw [aqb (by omega) (by omega) (by omega) (by omega) hs,Option.bind_some]
   obtain ⟨w1,w2,w3⟩:=aqc (k:=k) (ap:=30) hs
   obtain ⟨σ,al,iv,hn⟩:=ak6 (k:=k) (ap:=30) hs (by omega)
   generalize xw k 30 l=r at w1 w2 al iv hn
   simp only [Bool.not_true,cond_false]
   exact agy (k:=k) (by omega) (K:=r.1) rfl (ev:=r.2.1) (by omega) (by omega) r.2.1.length 0 k c0 none (by omega) (by omega) (by rw [List.drop_zero];exact al.ok) (fun q=>absurd q (by decide)) (fun _=>rfl)
theorem topTrue_law {e1 e2:TypeId} (p q:List Int) (hp:Ty.fine (.sl e1 (.int .u8)) p) (hq:Ty.fine (.sl e2 (.int .u8)) q):∃ k,S12 k p q=some ((true,()),()):=⟨10000000000000,topTrue_pure hp hq (by omega)⟩
end Go.Proofs.YtjjjbcmjmkcedaaGreat.Ab
