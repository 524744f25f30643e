import Derived.Test.YtjjjbcmjmkcedaaGreatQZAbU1
import Derived.KernelRfl
/- The plain law, and what it hangs on. -/
namespace Go.Proofs.YtjjjbcmjmkcedaaGreat.Ab
open Go.RowKit
set_option linter.unusedSimpArgs false
set_option linter.unusedVariables false
open Tr
theorem ahp (K:jd):(uy K (-1) 0).1=K:=by
 unfold uy
 cases K.2.2.2.2.1 with
 | false=>rfl
 | true=>cases K.2.2.2.2.2.1 <;> rfl
theorem ak6 {k:Nat} (hk:1000 <= k) {K:jd} (h:KW K):S30 k K (-1) 0=some ((K,(uy K (-1) 0).2.1,(uy K (-1) 0).2.2,()),()):=by
 have:=ak0 hk h (-1) 0
 rwa [ahp] at this
theorem anX {k:Nat} (hk:1000 <= k) {K:jd} (h:KW K):S99 k K=some ((K,()),()):=by
 unfold S99
 rw [ak6 hk h,Option.bind_some]
theorem KW.zy {K:jd} (h:KW K) {T:Tb} (hT:wz T):KW (zy K T):=⟨h.JC,h.task,h.bnd,hT,h.job,h.YB,h.row,h.off⟩
theorem ak7 {l:List iw} {t:iw} {ap:Int} (h:(inT l t ap).2.2=0):D9 t=0 /\ l.length<8 /\ (inT l t ap).1=zk l t /\ (inT l t ap).2.1.length=(zk l t).length:=by
 obtain ⟨g1,g2,g3,g4⟩:=apZ h
 have hga:=VP g3
 refine ⟨?_,?_,g1,by rw [g2,afU hga.1 hga.2];simp⟩
 ·by_cases q:D9 t=0
  ·exact q
  ·unfold inT at h;rw [if_pos q] at h;exact absurd h q
 ·unfold inT at h
  split at h
  ·rename_i q;exact absurd h q
  ·rw [if_neg (by rw [g4];decide)] at h
   split at h
   ·exact absurd h (by decide)
   ·rename_i q;omega
theorem anY {k:Nat} {T:Tb} (h:wz T) (c:Int):wz (BM k T c).1:=by
 unfold BM
 split
 ·exact h
 ·have htl:=ag2 T.1
  obtain ⟨⟨h1,h2,h3⟩,h4⟩:=h
  refine ⟨⟨by rw [htl.1];exact h1,by rw [htl.2];exact h2,by simp only;rw [Mk];exact h3⟩,fun y hy=>?_⟩
  rcases List.mem_or_eq_of_mem_set hy with q | q
  ·exact h4 y q
  ·rw [q];exact ⟨by simp [y8,CO],by simp [y8,CO],by simp [y8,CO]⟩
theorem anZ {T:Tb} (h:wz T) (g:Int×Int):wz (VA T g):=by
 unfold VA
 split
 ·obtain ⟨⟨h1,h2,h3⟩,h4⟩:=h
  refine ⟨⟨h1,by simp only;rw [Mk];exact h2,by simp only;rw [Mk];exact h3⟩,fun y hy=>?_⟩
  rcases List.mem_or_eq_of_mem_set hy with q | q
  ·exact h4 y q
  ·rw [q];exact afI
 ·exact h
def CW (c:Cl):Prop:=(uw c.2.1 /\ (c.2.1.2.2.2.1++c.2.1.2.2.2.2.1).length <= 900) /\ EY c.2.2.2.2.1
theorem ak8 {K:jd} (h:KW K) {c:Cl} (hc:CW c):KW (TK K c).1:=by
 unfold TK
 cases hr:K.2.2.2.2.1 with
 | true=>exact h
 | false =>
  rw [cond_false]
  cases hz:(inT K.2.2.1 c.2.1 K.2.1).2.2==0 with
  | false=>exact h
  | true =>
   obtain ⟨g1,g2,g3,g4⟩:=ak7 (eq_of_beq hz)
   obtain ⟨o1,o2,o3⟩:=h.off hr
   have hl:=SI K.2.2.1 c.2.1
   rw [cond_true]
   refine ⟨?_,?_,?_,h.tab,?_,?_,fun e=>absurd (hr.symm.trans e) (by decide),fun _=>⟨o1,o2,o3⟩⟩
   ·show (inT K.2.2.1 c.2.1 K.2.1).1.length <= 8
    rw [g3];omega
   ·intro t ht
    have ht:t∈zk K.2.2.1 c.2.1:=by rw [<- g3];exact ht
    unfold zk at ht
    rcases List.mem_append.1 ht with ht | ht
    ·rcases List.mem_append.1 ht with ht | ht
     ·exact h.task t (List.mem_of_mem_take ht)
     ·rw [List.mem_singleton] at ht;rw [ht];exact ⟨hc.1,g1⟩
    ·exact h.task t (List.mem_of_mem_drop ht)
   ·show (inT K.2.2.1 c.2.1 K.2.1).2.1.length=(inT K.2.2.1 c.2.1 K.2.1).1.length
    rw [g3];exact g4
   ·intro j hj
    have hj:j∈K.2.2.2.2.2.2.2.1:=hj
    rw [o1] at hj;cases hj
   ·show rising K.2.2.2.2.2.2.2.1
    exact h.YB
theorem ak9 {k:Nat} {K:jd} (h:KW K):KW (NG k K).1:=by
 unfold NG
 cases hz:(qm k K).2==0 with
 | false=>exact h
 | true =>
  rw [cond_true]
  unfold qm at hz ⊢
  cases hr:K.2.2.2.2.1 with
  | true=>rw [hr] at hz;exact absurd (show ((7:Int)==0)=true from hz) (by decide)
  | false =>
   rw [hr,cond_false] at hz
   rw [cond_false]
   obtain ⟨o1,o2,o3⟩:=h.off hr
   cases hl:K.2.2.1.any (FX (l5 K.2.2.2.2.2.2.2.2.1).length) with
   | true=>rw [hl] at hz;exact absurd (show ((4:Int)==0)=true from hz) (by decide)
   | false =>
    have hT:=(SV (k:=k) h.tab (af8 K.2.2.1 (l5 K.2.2.2.2.2.2.2.2.1))).1
    refine ⟨h.JC,h.task,h.bnd,hT,h.job,h.YB,fun _=>⟨List.length_replicate ..,List.length_replicate ..⟩,fun e=>absurd (show (true:Bool)=false from e) (by decide)⟩
theorem agc {k:Nat} {K:jd} (h:KW K) {c:Cl} (hc:CW c):KW (KU k K c).1:=by
 have hT:=h.tab
 have mk:KW (EK k K c).1:=by
  unfold EK
  cases (c.1==2)&&K.2.2.2.2.1 with
  | true=>exact h
  | false =>
   rw [cond_false]
   cases (BM k K.2.2.2.2.2.2.2.2.1 (c.1 - 1)).2.2 with
   | true=>exact h.zy (anY hT _)
   | false=>exact h
 unfold KU
 cases c.1==1 with
 | true=>exact ak8 h hc
 | false =>
 cases c.1==2 with
 | true=>exact mk
 | false =>
 cases c.1==3 with
 | true=>exact mk
 | false =>
 cases c.1==4 with
 | true=>exact mk
 | false =>
 cases c.1==5 with
 | true=>exact ak9 h
 | false =>
 cases c.1==6 with
 | true=>exact aqf h hc.2
 | false =>
 cases c.1==7 with
 | true =>
  simp only [cond_true,cond_false]
  unfold abz
  dsimp only
  cases hx:U6 K.2.2.2.2.2.2.2.2.1 c.2.2.1 2 with
  | false=>exact h
  | true =>
   have hs:=G6 hT hx
   have hp:=Wd ⟨hs.1,hs.2.1⟩ c.2.2.2.2.1
   simp only [Bool.not_true,cond_false]
   cases (FZ (rd K.2.2.2.2.2.2.2.2.1.2 c.2.2.1.1 jw).2.2.2.1 c.2.2.2.2.1).2.2 with
   | false=>exact h
   | true=>exact h.zy (RZ hT ⟨hp.1,hp.2,hs.2.2⟩)
 | false =>
 cases c.1==8 with
 | true =>
  simp only [cond_true,cond_false]
  unfold abA
  dsimp only
  cases hx:U6 K.2.2.2.2.2.2.2.2.1 c.2.2.1 2 with
  | false=>exact h
  | true =>
   have hs:=G6 hT hx
   have hp:=Wh ⟨hs.1,hs.2.1⟩ c.2.2.2.1
   simp only [Bool.not_true,cond_false]
   cases (takeB (rd K.2.2.2.2.2.2.2.2.1.2 c.2.2.1.1 jw).2.2.2.1 c.2.2.2.1).2.2.2 with
   | false=>exact h
   | true=>exact h.zy (RZ hT ⟨hp.1,hp.2,hs.2.2⟩)
 | false =>
 cases c.1==9 with
 | true =>
  simp only [cond_true,cond_false]
  unfold TL
  dsimp only
  cases hx:U6 K.2.2.2.2.2.2.2.2.1 c.2.2.1 3 with
  | false=>exact h
  | true =>
   have hs:=G6 hT hx
   have hp:=TP hs.2.2 c.2.2.2.2.2
   exact h.zy (RZ hT ⟨hs.1,hs.2.1,hp.1⟩)
 | false =>
 cases c.1==10 with
 | true =>
  simp only [cond_true,cond_false]
  unfold TM
  dsimp only
  cases hx:U6 K.2.2.2.2.2.2.2.2.1 c.2.2.1 3 with
  | false=>exact h
  | true =>
   have hs:=G6 hT hx
   have hp:=TN hs.2.2 c.2.2.2.1 c.2.2.2.2.2
   simp only [Bool.not_true,cond_false]
   cases (BR (rd K.2.2.2.2.2.2.2.2.1.2 c.2.2.1.1 jw).2.2.2.2.1 c.2.2.2.1 c.2.2.2.2.2).2.2 with
   | false=>exact h
   | true=>exact h.zy (RZ hT ⟨hs.1,hs.2.1,hp⟩)
 | false =>
 cases c.1==11 with
 | true =>
  simp only [cond_true,cond_false]
  unfold abB
  dsimp only
  cases hx:anV K.2.2.2.2.2.2.2.2.1 c.2.2.1 with
  | false=>exact h
  | true=>exact h.zy (anZ hT _)
 | false=>exact h
theorem aqk {k:Nat} (hk:20000 <= k) {K:jd} (h:KW K) {c:Cl} (hc:CW c):S41 k K c=some (((KU k K c).1,(KU k K c).2.1,(KU k K c).2.2,()),()):=by
 have hT:=h.tab
 have EZ:=agc (k:=k) h hc
 have hk1:1000 <= k:=by omega
 have fin:∀ (x:Option (Unit×_×Unit)) (r:CR),KW r.1 -> x=some ((),AO (asR c r),()) -> (x.bind fun q=>(S99 k (pz q.2.1).1).bind fun p=>some ((p.1.1,(pz q.2.1).2.2.1,(pz q.2.1).2.2.2,()),()))=some ((r.1,r.2.1,r.2.2,()),()):=fun x r hr e=>by
  rw [e,Option.bind_some]
  simp only [vrA]
  rw [show (asR c r).1=r.1 from rfl,anX hk1 hr,Option.bind_some]
  rfl
 unfold S41
 unfold KU at EZ ⊢
 cases h1:c.1==1 with
 | true =>
  rw [h1] at EZ
  refine fin _ _ EZ ?_
  unfold S89 TK
  show (bif K.2.2.2.2.1 then _ else _)=_
  cases K.2.2.2.2.1 with
  | true=>rfl
  | false =>
   have hi:=anm hk (l:=K.2.2.1) (t:=c.2.1) ⟨h.light,by have:=h.JC;omega,hc.1⟩ K.2.1
   rw [cond_false,cond_false]
   refine (congrArg (fun x=>Option.bind x _) hi).trans ?_
   rw [Option.bind_some]
   simp only
   cases hz:(inT K.2.2.1 c.2.1 K.2.1).2.2==0 with
   | true=>rw [cond_true,cond_true,eq_of_beq hz];rfl
   | false=>rfl
 | false =>
 rw [h1,cond_false] at EZ
 cases h2:c.1==2 with
 | true=>rw [h2] at EZ;exact fin _ _ EZ (TQ hk1 hT (.inl (eq_of_beq h2)))
 | false =>
 rw [h2,cond_false] at EZ
 cases h3:c.1==3 with
 | true=>rw [h3] at EZ;exact fin _ _ EZ (TQ hk1 hT (.inr (.inl (eq_of_beq h3))))
 | false =>
 rw [h3,cond_false] at EZ
 cases h4:c.1==4 with
 | true=>rw [h4] at EZ;exact fin _ _ EZ (TQ hk1 hT (.inr (.inr (eq_of_beq h4))))
 | false =>
 rw [h4,cond_false] at EZ
 cases h5:c.1==5 with
 | true=>rw [h5] at EZ;exact fin _ _ EZ (start_eq hk1 h)
 | false =>
 rw [h5,cond_false] at EZ
 cases h6:c.1==6 with
 | true =>
  rw [h6] at EZ
  refine fin _ _ EZ ?_
  unfold S92
  have e:=ak0 hk1 h c.2.2.2.1 c.2.2.2.2.1
  refine (congrArg (fun x=>Option.bind x _) e).trans ?_
  rfl
 | false =>
 rw [h6,cond_false] at EZ
 cases h7:c.1==7 with
 | true=>rw [h7] at EZ;exact fin _ _ EZ (post_eq hk1 hT)
 | false =>
 rw [h7,cond_false] at EZ
 cases h8:c.1==8 with
 | true=>rw [h8] at EZ;exact fin _ _ EZ (anW hk1 hT)
 | false =>
 rw [h8,cond_false] at EZ
 cases h9:c.1==9 with
 | true=>rw [h9] at EZ;exact fin _ _ EZ (ak5 hk1 hT)
 | false =>
 rw [h9,cond_false] at EZ
 cases h10:c.1==10 with
 | true=>rw [h10] at EZ;exact fin _ _ EZ (ak4 hk1 hT)
 | false =>
 rw [h10,cond_false] at EZ
 cases h11:c.1==11 with
 | true=>rw [h11] at EZ;exact fin _ _ EZ (free_eq hk1 hT)
 | false=>exact fin _ (err K 1) h rfl
def arj:Tb:=newT
def ahq (ap:Int):jd:=(0,ap,[],[],false,false,false,[],arj,[],[])
theorem aql (k:Nat) {ap:Int} (h1:1 <= ap) (h2:ap <= 4611686018427387904):S36 k ap=some ((ahq ap,true,()),()):=by
 unfold S36
 rw [Sd (by omega),Sd (by omega)]
 rfl
theorem aqm (ap:Int):KW (ahq ap):=⟨by simp [ahq],(fun t h=>by simp [ahq] at h),rfl,amZ,(fun j h=>by simp [ahq] at h),List.Pairwise.nil,(fun h=>by simp [ahq] at h),fun _=>⟨rfl,rfl,rfl⟩⟩
theorem aqn {k:Nat} (hk:20000 <= k):S35 k=some ((true,()),()):=by
 obtain ⟨k,rfl⟩:∃ m,k=m+20000:=⟨k - 20000,by omega⟩
 kernel_rfl
theorem agd (k:Nat) (p:List Int):S16 k p=some (((p,0,()),()),()):=rfl
theorem aqo {e:TypeId} {k:Nat} (hk:1000 <= k) {p:List Int} (hp:Ty.fine (.sl e (.int .u8)) p) (h:p.length <= 1000):∃ (l:List Stp) (n:Int),S17 k p 0=some ((l,()),(p,n,()),()) /\ (∀ s∈l,SW s) /\ l.length <= 10:=by
 obtain ⟨l,n,e,_,h1,h2⟩:=aqh hk (aaX hp h)
 exact ⟨l,n,e,h1,h2⟩
theorem TR {en:Int} {f:Int -> Int}:∀ (d:Nat) (r n:Int) (y:Int×Int×Int),BN en f d r n=some y -> y.2.2=0 \/ y.2.2=14
 | 0,_,_,_,h=>by cases h
 | d+1,r,n,y,h=>by
  rw [BN] at h
  split at h
  ·injection h with h;rw [<- h];exact .inr rfl
  ·split at h
   ·injection h with h;rw [<- h];exact .inl rfl
   ·exact TR d _ _ y h
theorem acv (l:List iw) (i ap:Int):(lu l i ap).2.2≠16:=by
 unfold lu
 split
 ·cases h:BN (l.getD i.toNat t0).2.2.1 (qz l i.toNat ap) 20000 (firstT l i.toNat) 1 with
  | none=>exact (show (0:Int)≠16 by decide)
  | some y =>
   show y.2.2≠16
   rcases TR _ _ _ _ h with q | q <;> rw [q] <;> decide
 ·exact (show (1:Int)≠16 by decide)
theorem Wi (l:List iw) (ap:Int):∀ (d i:Nat) (o:List SH),(MW l ap d i o).2≠16
 | 0,_,_=>(show (0:Int)≠16 by decide)
 | d+1,i,o=>by
  rw [MW]
  split
  ·exact Wi l ap d (i+1) _
  ·exact acv l i ap
theorem ahr (t:iw):D9 t≠16:=by
 have b:∀ (c:Bool) (a x:Int),a≠16 -> x≠16 -> (bif c then a else x)≠16:=fun c a x h1 h2=>by cases c <;> assumption
 unfold D9
 repeat' first | exact (by decide) | apply b
theorem ala (l:List iw) (t:iw) (ap:Int):(inT l t ap).2.2≠16:=by
 unfold inT
 split
 ·exact ahr t
 ·split
  ·exact (show (11:Int)≠16 by decide)
  ·split
   ·exact (show (4:Int)≠16 by decide)
   ·split
    ·show (allT (zk l t) ap).2≠16
     unfold allT
     split
     ·exact (show (1:Int)≠16 by decide)
     ·exact Wi _ _ _ _ _
    ·exact (show (0:Int)≠16 by decide)
def WR (K:jd) (kd:Int) (r:CR):Prop:=r.2.2.1=0 \/ (∃ e:Int,e≠16 /\ r=err K e) \/ (r.2.2.1=16 /\ (kd=8 \/ kd=10))
theorem WR.no {K:jd} {kd:Int} {r:CR} (e:Int) (h:e≠16) (hr:r=err K e):WR K kd r:=.inr (.inl ⟨e,h,hr⟩)
theorem aqp (K:jd) (kd:Int) (c:Cl):WR K kd (aqj K c):=by
 unfold aqj uy
 cases K.2.2.2.2.1 with
 | false=>exact WR.no 8 (by decide) rfl
 | true =>
 cases K.2.2.2.2.2.1 with
 | true=>exact WR.no 17 (by decide) rfl
 | false =>
 simp only [Bool.not_true,cond_false]
 cases decide (c.2.2.2.1<0)||decide (c.2.2.2.1≥(K.2.2.1.length:Int)) with
 | true=>exact WR.no 3 (by decide) rfl
 | false =>
 simp only [cond_false]
 cases K.2.2.2.2.2.2.2.2.2.2.getD c.2.2.2.1.toNat false with
 | true=>exact WR.no 6 (by decide) rfl
 | false =>
 simp only [cond_false]
 cases decide (ng c.2.2.2.1 K.2.2.2.2.2.2.2.1<K.2.2.2.2.2.2.2.1.length)&&(K.2.2.2.2.2.2.2.1.getD (ng c.2.2.2.1 K.2.2.2.2.2.2.2.1) ay).1==c.2.2.2.1 with
 | false=>exact .inl rfl
 | true =>
 simp only [cond_true]
 cases (K.2.2.2.2.2.2.2.1.getD (ng c.2.2.2.1 K.2.2.2.2.2.2.2.1) ay).2.2.2.1 != 2 with
 | true=>exact WR.no 5 (by decide) rfl
 | false=>exact .inl rfl
theorem an0 (k:Nat) (K:jd) (c:Cl):WR K c.1 (KU k K c):=by
 have mk:∀ kd:Int,WR K kd (EK k K c):=fun kd=>by
  unfold EK
  cases (c.1==2)&&K.2.2.2.2.1 with
  | true=>exact WR.no 7 (by decide) rfl
  | false =>
  cases (BM k K.2.2.2.2.2.2.2.2.1 (c.1 - 1)).2.2 with
  | true=>exact .inl rfl
  | false=>exact WR.no 4 (by decide) rfl
 unfold KU
 cases c.1==1 with
 | true =>
  simp only [cond_true]
  unfold TK
  cases K.2.2.2.2.1 with
  | true=>exact WR.no 7 (by decide) rfl
  | false =>
  cases (inT K.2.2.1 c.2.1 K.2.1).2.2==0 with
  | true=>exact .inl rfl
  | false=>exact WR.no _ (ala _ _ _) rfl
 | false =>
 cases c.1==2 with
 | true=>exact mk _
 | false =>
 cases c.1==3 with
 | true=>exact mk _
 | false =>
 cases c.1==4 with
 | true=>exact mk _
 | false =>
 cases c.1==5 with
 | true =>
  simp only [cond_true,cond_false]
  unfold NG
  have hc:(qm k K).2≠16:=by
   unfold qm
   cases K.2.2.2.2.1 with
   | true=>exact (show (7:Int)≠16 by decide)
   | false =>
   cases K.2.2.1.any (FX (l5 K.2.2.2.2.2.2.2.2.1).length) with
   | true=>exact (show (4:Int)≠16 by decide)
   | false=>exact (show (0:Int)≠16 by decide)
  cases (qm k K).2==0 with
  | true=>exact .inl rfl
  | false=>exact WR.no _ hc rfl
 | false =>
 cases c.1==6 with
 | true=>exact aqp K _ c
 | false =>
 cases c.1==7 with
 | true =>
  simp only [cond_true,cond_false]
  unfold abz
  dsimp only
  cases U6 K.2.2.2.2.2.2.2.2.1 c.2.2.1 2 with
  | false=>exact WR.no 3 (by decide) rfl
  | true =>
  cases (FZ (rd K.2.2.2.2.2.2.2.2.1.2 c.2.2.1.1 jw).2.2.2.1 c.2.2.2.2.1).2.2 with
  | false=>exact WR.no 4 (by decide) rfl
  | true=>exact .inl rfl
 | false =>
 cases h8:c.1==8 with
 | true =>
  simp only [cond_true,cond_false]
  unfold abA
  dsimp only
  cases U6 K.2.2.2.2.2.2.2.2.1 c.2.2.1 2 with
  | false=>exact WR.no 3 (by decide) rfl
  | true =>
  cases (takeB (rd K.2.2.2.2.2.2.2.2.1.2 c.2.2.1.1 jw).2.2.2.1 c.2.2.2.1).2.2.2 with
  | false=>exact WR.no 1 (by decide) rfl
  | true =>
  cases (takeB (rd K.2.2.2.2.2.2.2.2.1.2 c.2.2.1.1 jw).2.2.2.1 c.2.2.2.1).2.2.1 with
  | true=>exact .inl rfl
  | false=>exact .inr (.inr ⟨rfl,.inl (eq_of_beq h8)⟩)
 | false =>
 cases c.1==9 with
 | true =>
  simp only [cond_true,cond_false]
  unfold TL
  dsimp only
  cases U6 K.2.2.2.2.2.2.2.2.1 c.2.2.1 3 with
  | false=>exact WR.no 3 (by decide) rfl
  | true=>exact .inl rfl
 | false =>
 cases h10:c.1==10 with
 | true =>
  simp only [cond_true,cond_false]
  unfold TM
  dsimp only
  cases U6 K.2.2.2.2.2.2.2.2.1 c.2.2.1 3 with
  | false=>exact WR.no 3 (by decide) rfl
  | true =>
  cases (BR (rd K.2.2.2.2.2.2.2.2.1.2 c.2.2.1.1 jw).2.2.2.2.1 c.2.2.2.1 c.2.2.2.2.2).2.2 with
  | false=>exact WR.no 1 (by decide) rfl
  | true =>
  cases (BR (rd K.2.2.2.2.2.2.2.2.1.2 c.2.2.1.1 jw).2.2.2.2.1 c.2.2.2.1 c.2.2.2.2.2).2.1==0 with
  | false=>exact .inl rfl
  | true=>exact .inr (.inr ⟨rfl,.inr (eq_of_beq h10)⟩)
 | false =>
 cases c.1==11 with
 | true =>
  simp only [cond_true,cond_false]
  unfold abB
  dsimp only
  cases anV K.2.2.2.2.2.2.2.2.1 c.2.2.1 with
  | false=>exact WR.no 3 (by decide) rfl
  | true=>exact .inl rfl
 | false=>exact WR.no 1 (by decide) rfl
theorem TS {k:Nat} (hk:20000 <= k) {l:List Stp} (hl:l.length <= 1000) (hs:∀ s∈l,SW s):∀ (m i j:Nat) (K:jd),i+m=l.length -> m<j -> KW K -> ae8 k j K l (i:Int)=some ((true,()),())
 | 0,i,j,K,hi,hj,h=>by
  obtain ⟨j,rfl⟩:∃ i,j=i+1:=⟨j - 1,by omega⟩
  rw [ae9,ae7,Sd (by omega)]
 | m+1,i,j,K,hi,hj,h=>by
  obtain ⟨j,rfl⟩:∃ i,j=i+1:=⟨j - 1,by omega⟩
  have hi':i<l.length:=by omega
  have hsw:=hs _ (jh (z:=bq) hi')
  rw [ae9,ae7,Sc (by omega),Qo hi',Qp,Qo hi',Mi (by omega)]
  cases (l.getD i bq).1 != 1 with
  | true =>
   rw [cond_true,anL (by omega) h,Option.bind_some]
   exact TS hk hl hs m (i+1) j (AL k K).1 (by omega) (by omega) (anO h).1
  | false =>
   have hc:CW (l.getD i bq).2.1:=⟨hsw.light,hsw.arg⟩
   have EZ:=agc (k:=k) h hc
   have hw:=an0 k K (l.getD i bq).2.1
   rw [cond_false,aqk hk h hc,Option.bind_some]
   generalize KU k K (l.getD i bq).2.1=r at EZ hw
   have ih:=TS hk hl hs m (i+1) j r.1 (by omega) (by omega) EZ
   unfold aaR
   rw [Qo hi',Qo hi',Qp,Mi (by omega)]
   rcases hw with h0 | ⟨e,he,rfl⟩ | ⟨h6,h8 | h8⟩
   ·simp only [h0,bne_self_eq_false,cond_false]
    exact ih
   ·simp only [err] at ih ⊢
    rw [show (e != 16)=true from bne_iff_ne.2 he,cond_true,ahm (by omega) h.tab]
    simp only [Option.bind_some]
    rw [abw (by omega) h.ks]
    simp only [Option.bind_some,Bool.not_true,cond_false]
    rw [show (e==16)=false from beq_eq_false_iff_ne.2 he,show (fC (.pair (.int .i64) (.int .i64)) ((0,0):Int×Int) (0,0))=true from rfl,ih]
    cases e != 0 <;> rfl
   ·simp only [h6,h8]
    exact ih
   ·simp only [h6,h8]
    exact ih
theorem alb {k:Nat} {c:Cl} (hc:EY c.2.2.2.2.1):∃ b,S39 k c=some ((b,()),()) /\ (b=true -> SW (1,c,0,0)):=by
 unfold S39
 by_cases h1:(c.2.1.2.2.2.1.length:Int) <= 30
 ·rw [Sc h1]
  by_cases h2:(c.2.1.2.2.2.2.1.length:Int) <= 30
  ·rw [Sc h2]
   exact ⟨_,rfl,fun h3=>by
    have h3:=of_decide_eq_true h3
    have lt:uw c.2.1:=⟨by omega,by omega,by omega⟩
    exact ⟨⟨lt,by show (c.2.1.2.2.2.1++c.2.1.2.2.2.2.1).length <= 900;rw [List.length_append];omega⟩,hc⟩⟩
  ·rw [Sd h2];exact ⟨_,rfl,fun h=>by cases h⟩
 ·rw [Sd h1];exact ⟨_,rfl,fun h=>by cases h⟩
theorem TT {k:Nat} (hk:20000 <= k) {l:List Cl} (hl:l.length <= 15) (hc:∀ c∈l,EY c.2.2.2.2.1) {K:jd} (hK:KW K):∀ (m i j:Nat) (s:List Stp),i+m=l.length -> m<j -> s.length <= 500+i -> (∀ x∈s,SW x) -> aaS k j l K s (i:Int)=some ((true,()),())
 | 0,i,j,s,hi,hj,h1,h2=>by
  obtain ⟨j,rfl⟩:∃ i,j=i+1:=⟨j - 1,by omega⟩
  rw [afb,afa,Sd (by omega)]
  exact TS hk (by omega) h2 s.length 0 k K (by omega) (by omega) hK
 | m+1,i,j,s,hi,hj,h1,h2=>by
  obtain ⟨j,rfl⟩:∃ i,j=i+1:=⟨j - 1,by omega⟩
  have hi':i<l.length:=by omega
  obtain ⟨b,e,hb⟩:=alb (k:=k) (hc _ (jh (z:=bn) hi'))
  rw [afb,afa,Sc (by omega),Qo hi',Qp,e,Option.bind_some]
  cases b with
  | false=>rfl
  | true =>
   unfold QY
   simp only [Bool.not_true,cond_false]
   rw [Qo hi',Option.bind_some,Rz (by simp only [List.length_cons,List.length_nil];omega),Mi (by omega)]
   exact TT hk hl hc hK m (i+1) j (s++[(1,l.getD i bn,0,0)]) (by omega) (by omega) (by simp only [List.length_append,List.length_cons,List.length_nil];omega) (fun x hx=>by
    rcases List.mem_append.1 hx with q | q
    ·exact h2 x q
    ·rw [List.mem_singleton] at q;rw [q];exact hb rfl)
theorem Wj {k:Nat} (hk:20000 <= k) {l:List Cl} (hl:l.length <= 15) (hc:∀ c∈l,EY c.2.2.2.2.1) {K:jd} (hK:KW K) {p:List Int}:∀ (m i j:Nat) (n:Int) (s:List Stp),i+m=40 -> m<j -> xk p n -> s.length <= 10+i -> (∀ x∈s,SW x) -> afd k j l K s p n (i:Int)=some ((true,()),())
 | 0,i,j,n,s,hi,hj,hp,h1,h2=>by
  obtain ⟨j,rfl⟩:∃ i,j=i+1:=⟨j - 1,by omega⟩
  rw [afe,afc,Sd (by omega)]
  exact TT hk hl hc hK l.length 0 k s (by omega) (by omega) (by omega) h2
 | m+1,i,j,n,s,hi,hj,hp,h1,h2=>by
  obtain ⟨j,rfl⟩:∃ i,j=i+1:=⟨j - 1,by omega⟩
  rw [afe,afc,Sc (by omega)]
  unfold S28
  rw [Option.bind_some]
  simp only
  cases decide (n≥(p.length:Int)) with
  | true=>exact TT hk hl hc hK l.length 0 k s (by omega) (by omega) (by omega) h2
  | false =>
   obtain ⟨x,n',e,hp',hx⟩:=aqi (k:=k) (by omega) hp
   rw [Bool.not_false,cond_true,e,Option.bind_some]
   simp only
   rw [Rz (by simp only [List.length_cons,List.length_nil];omega),Mi (by omega)]
   exact Wj hk hl hc hK m (i+1) j n' (s++[x]) (by omega) (by omega) hp' (by simp;omega) (fun y hy=>by
    rcases List.mem_append.1 hy with q | q
    ·exact h2 y q
    ·rw [List.mem_singleton] at q;rw [q];exact hx)
theorem callWrong_pure {e1 e2:TypeId} {p q:List Int} {l:List Cl} (hp:Ty.fine (.sl e1 (.int .u8)) p) (hq:Ty.fine (.sl e2 (.int .u8)) q) (hc:∀ c∈l,EY c.2.2.2.2.1) {k:Nat} (hk:20000 <= k):S6 k p q l=some ((true,()),()):=by
 unfold S6
 rw [aqn (by omega)]
 simp only [Option.bind_some,Bool.not_true,cond_false]
 by_cases h1:(p.length:Int)>200
 ·rw [Sc h1]
 ·rw [Sd h1]
  by_cases h2:(q.length:Int)>150
  ·rw [Sc h2]
  ·rw [Sd h2]
   by_cases h3:(l.length:Int)>15
   ·rw [Sc h3]
   ·rw [Sd h3,aql k (by omega) (by omega),Option.bind_some]
    obtain ⟨a,n1,ea,ha,hal⟩:=aqo (k:=k) (by omega) hp (by omega)
    simp only [Bool.not_true,cond_false]
    rw [agd,Option.bind_some]
    simp only
    rw [ea,Option.bind_some,agd,Option.bind_some]
    exact Wj hk (by omega) hc (aqm 60) 40 0 k 0 a (by omega) (by omega) (aaX hq (show q.length <= 1000 by omega)) (by omega) ha
theorem callWrong_law {e1 e2 e3 e4 e5 e6:TypeId} (p q:List Int) (l:List Cl) (hp:Ty.fine (.sl e1 (.int .u8)) p) (hq:Ty.fine (.sl e2 (.int .u8)) q) (hl:Ty.fine (.sl e3 (.pair (.int .i64) (.pair (.pair (.int .i64) (.pair (.int .i64) (.pair (.int .i64) (.pair (.sl e4 (.pair (.int .i64) (.pair (.int .i64) (.pair (.int .i64) (.int .i64))))) (.pair (.sl e5 (.pair (.int .i64) (.pair (.int .i64) (.pair (.int .i64) (.int .i64))))) (.sl e6 (.pair (.int .i64) (.pair (.int .i64) (.pair (.int .i64) (.int .i64)))))))))) (.pair (.pair (.int .i64) (.int .i64)) (.pair (.int .i64) (.pair (.int .i64) (.int .u32))))))) l):∃ k,S6 k p q l=some ((true,()),()) :=
 ⟨20000,callWrong_pure hp hq (fun c hc=>wf_i64 (hl.2 c hc).2.2.2.2.1) (by omega)⟩
end Go.Proofs.YtjjjbcmjmkcedaaGreat.Ab
