import Derived.Test.YtjjjbcmjmkcedaaGreatQZAbV0
import Derived.KernelRfl
/- The plain law, and what it hangs on. -/
namespace Go.Proofs.YtjjjbcmjmkcedaaGreat.Ab
open Go.RowKit
set_option linter.unusedSimpArgs false
set_option linter.unusedVariables false
open Tr
structure MT (jw rank:Int) (t:iw):Prop where
 rank:t.1=rank
 per:20 <= t.2.1 /\ t.2.1 <= 130
 en:t.2.1 - 9 <= t.2.2.1 /\ t.2.2.1 <= t.2.1
 main:∃ m,t.2.2.2.1=Tr.prog m /\ Mp jw m /\ m.len <= 22
 way:t.2.2.2.2.1=[] \/ t.2.2.2.2.1=[(1,0,0,99),(0,0,0,0)] \/ t.2.2.2.2.1=[(0,0,0,0)]
 opt:t.2.2.2.2.2=[] \/ ∃ o,t.2.2.2.2.2=Tr.prog o /\ Mp 0 o /\ o.len <= 22
theorem MT.light {jw rank:Int} {t:iw} (h:MT jw rank t):ze t:=by
 obtain ⟨m,e,_,hm⟩:=h.main
 refine ⟨by rw [e,xg];omega,?_,?_⟩
 ·rcases h.way with e | e | e <;> rw [e] <;> simp
 ·rcases h.opt with e | ⟨o,e,_,ho⟩
  ·rw [e];simp
  ·rw [e,xg];omega
theorem abq {k:Nat} (hk:1000 <= k) {p:List Int} {n r pe e:Int} (a b c:Int) {m w:List I4} {jw:Int} (hp:wh p n) (h1:20 <= pe /\ pe <= 130) (h2:pe - 9 <= e /\ e <= pe) (h3:∃ t,m=Tr.prog t /\ Mp jw t /\ t.len <= 22) (h4:w=[] \/ w=[(1,0,0,99),(0,0,0,0)] \/ w=[(0,0,0,0)]) :
  ∃ t n',aaZ k p n a b c r pe e m w []=some ((t,()),(p,n',()),()) /\ wh p n' /\ MT jw r t:=by
 unfold aaZ
 obtain ⟨v,n1,e1,hv,hp1⟩:=l5 k hp (show (0:Int)<3 by omega)
 rw [e1,Option.bind_some]
 simp only
 cases v==0 with
 | false=>exact ⟨_,_,rfl,hp1,⟨rfl,h1,h2,h3,h4,.inl rfl⟩⟩
 | true =>
  obtain ⟨o,n2,e2,hp2,ho,hol⟩:=afj hk (jw:=0) (by omega) hp1
  rw [cond_true,e2,Option.bind_some]
  exact ⟨_,_,rfl,hp2,⟨rfl,h1,h2,h3,h4,.inr ⟨o,rfl,ho,hol⟩⟩⟩
theorem aki {k:Nat} (hk:1000 <= k) {p:List Int} {n rank jw:Int} (hl:0 <= jw /\ jw <= 4) (hp:wh p n):∃ t n',S53 k p n rank jw=some ((t,()),(p,n',()),()) /\ wh p n' /\ MT jw rank t:=by
 unfold S53
 obtain ⟨t,n1,e1,hp1,ht,htl⟩:=afj hk hl hp
 rw [e1,Option.bind_some]
 simp only
 obtain ⟨v2,n2,e2,hv2,hp2⟩:=l5 k hp1 (show (0:Int)<12 by omega)
 rw [e2,Option.bind_some]
 simp only
 obtain ⟨v3,n3,e3,hv3,hp3⟩:=l5 k hp2 (show (0:Int)<10 by omega)
 rw [e3,Option.bind_some]
 simp only
 obtain ⟨v4,n4,e4,hv4,hp4⟩:=l5 k hp3 (show (0:Int)<3 by omega)
 rw [e4,Option.bind_some]
 simp only
 rw [Uu (n:=10 * v2) (by omega) (by omega),Uu (n:=20+10 * v2) (by omega) (by omega),Uu (n:=20+10 * v2 - v3) (by omega) (by omega)]
 cases v4==0 with
 | false=>exact abq hk 0 0 0 hp4 (by omega) (by omega) ⟨t,rfl,ht,htl⟩ (.inl rfl)
 | true =>
  obtain ⟨v5,n5,e5,hv5,hp5⟩:=l5 k hp4 (show (0:Int)<2 by omega)
  rw [cond_true,e5,Option.bind_some]
  simp only
  rw [Rx (by omega) (by simp only [List.length_cons,List.length_nil];omega) (by omega)]
  have:v5=0 \/ v5=1:=by omega
  refine abq hk 0 0 0 hp5 (by omega) (by omega) ⟨t,rfl,ht,htl⟩ (.inr ?_)
  rcases this with e | e
  ·subst e;exact .inl rfl
  ·subst e;exact .inr rfl
theorem acz (t:iw):(ng t).2.2.length <= 48:=by
 unfold ng
 split
 ·have:=QV t.2.2.2.1
  have:=QV t.2.2.2.2.1
  simp only [List.length_append];omega
 ·simp
theorem b0 {c:Bool} {a b:Int} (h:a≠0):(bif c then a else b)=0↔c=false /\ b=0:=by cases c <;> simp [h]
theorem Wv {t:iw}:FX t=0↔(0 <= t.1 /\ t.1 <= 63) /\ (1 <= t.2.1 /\ t.2.1 <= 16384) /\ (1 <= t.2.2.1 /\ t.2.2.1 <= t.2.1) /\ yj t.2.2.2.1=true /\ (t.2.2.2.2.1=[] \/ yj t.2.2.2.2.1=true) /\ (t.2.2.2.2.2=[] \/ yj t.2.2.2.2.2=true) /\ akg t.2.2.2.2.2=false /\ (cst t.2.2.2.1).1 <= t.2.2.1 /\ (cst t.2.2.2.2.1).1 <= (cst t.2.2.2.1).1:=by
 have e:∀ l:List I4,((l.length:Int)=0 \/ yj l=true)↔(l=[] \/ yj l=true):=fun l=>by
  rw [show ((l.length:Int)=0)↔l=[] by rw [<- List.length_eq_zero_iff];omega]
 unfold FX
 rw [b0 (by decide),b0 (by decide),b0 (by decide),b0 (by decide),b0 (by decide),b0 (by decide),b0 (by decide),b0 (by decide),b0 (by decide),b0 (by decide),b0 (by decide),b0 (by decide)]
 rw [Bool.not_eq_false',Bool.not_eq_false',Bool.not_eq_false',Bool.or_eq_true,Bool.or_eq_true,beq_iff_eq,beq_iff_eq,e,e,decide_eq_false_iff_not,decide_eq_false_iff_not,decide_eq_false_iff_not,decide_eq_false_iff_not,decide_eq_false_iff_not,decide_eq_false_iff_not,decide_eq_false_iff_not,decide_eq_false_iff_not]
 constructor
 ·rintro ⟨a1,a2,a3,a4,a5,a6,a7,a8,a9,b1,b2,b3,_⟩
  exact ⟨by omega,by omega,by omega,a7,a8,a9,b1,by omega,by omega⟩
 ·rintro ⟨a1,a2,a3,a7,a8,a9,b1,b2,b3⟩
  exact ⟨by omega,by omega,by omega,by omega,by omega,by omega,a7,a8,a9,b1,by omega,by omega,rfl⟩
theorem DZ:∀ {t:Tr} {d:Nat} {hs:List Int} {ia:Bool},Ok d hs ia t -> ∀ e∈t.spans,1 <= e.2 /\ e.2 <= t.cost
 | .nil,_,_,_,_,e,h=>by simp [Tr.spans] at h
 | .one x r,_,_,_,⟨_,_,_,h4⟩,e,h=>by have:=DZ h4 e h;simp only [Tr.cost];omega
 | .lk a b r,_,_,_,⟨_,_,h3,h4⟩,e,h=>by
  have c1:=kg h3;have c2:=kg h4
  simp only [Tr.spans,List.mem_cons,List.mem_append] at h
  simp only [Tr.cost]
  rcases h with q | q | q
  ·subst q;simp only;omega
  ·have:=DZ h3 e q;omega
  ·have:=DZ h4 e q;omega
 | .ar x b r,_,_,_,⟨hx,_,h3,h4⟩,e,h=>by
  have c1:=kg h3;have c2:=kg h4
  have hr:=IQ hx.1
  have hm:1 * b.cost <= AP x * b.cost:=Int.mul_le_mul_of_nonneg_right hr.1 c1
  simp only [Tr.spans,List.mem_append] at h
  simp only [Tr.cost]
  rcases h with q | q
  ·have:=DZ h3 e q;omega
  ·have:=DZ h4 e q;omega
theorem akj {t:Tr} (h:Ok 0 [] false t) (hl:t.len<24):cst t.prog=(t.cost+1,max (t.piece 1 (0,0)).1 ((t.piece 1 (0,0)).2+1),t.spans):=by unfold cst;rw [agK h hl];rfl
abbrev t0:iw:=(0,0,0,[],[],[])
def akk (s:Int) (x:I4):Bool:=bif x.1==9 then x.2.1==s else false
def BA (s:Int) (t:iw):Bool:=(t.2.2.2.1++t.2.2.2.2.1).any (akk s)
def LK (s:Int):List iw -> Nat -> Int
 | [],_=>8
 | t::r,i=>bif BA s t then (i:Int) else LK s r (i+1)
def uz (l:List iw) (s:Int):Int:=LK s l 0
theorem Ww (s:Int):∀ (l:List iw) (i:Nat),LK s l i=match l.findIdx? (BA s) with | some n=>((i+n:Nat):Int) | none=>8
 | [],i=>rfl
 | t::r,i=>by
  rw [LK,List.findIdx?_cons]
  cases BA s t with
  | true=>rfl
  | false =>
   rw [cond_false,Ww s r (i+1)]
   simp only [Bool.false_eq_true,if_false]
   cases r.findIdx? (BA s) with
   | none=>rfl
   | some n=>simp only [Option.map_some];congr 1;omega
theorem akl {k:Nat} (hk:1000 <= k) {a b:List I4} (ha:a.length <= 900) (hb:b.length <= 900) (j:Nat):ado k (j+3) [a,b] 0 [a,b] 2 0=some ((a++b,()),()):=by
 have e1:RX k k ([]:List I4) [a,b] 2 0=some ((a++b,()),()):=by
  have:∀ j,RX k (j+3) ([]:List I4) [a,b] 2 0=some ((a++b,()),()):=fun j=>by
   rw [RY,RV,Sc (by omega),Lj (by omega) (by simp),show rd [a,b] 0 []=a from rfl,Rz (by simp only [List.length_nil];omega),Uu (by omega) (by omega),List.nil_append]
   rw [RY,RV,Sc (by omega),Lj (by omega) (by simp),show rd [a,b] (0+1) []=b from rfl,Rz (by omega),Uu (by omega) (by omega)]
   rw [RY,RV,Sd (by omega)]
  have:=this (k - 3)
  rwa [show k - 3+3=k by omega] at this
 rw [Xn,ZU,Sc (by omega),Lj (by omega) (by simp),show rd [a,b] 0 []=a from rfl,Uu (n:=0+(a.length:Int)) (by omega) (by omega),Sd (by omega),Uu (by omega) (by omega)]
 rw [Xn,ZU,Sc (by omega),Lj (by omega) (by simp),show rd [a,b] (0+1) []=b from rfl,Uu (n:=0+(a.length:Int)+(b.length:Int)) (by omega) (by omega),Sd (by omega),Uu (by omega) (by omega)]
 rw [Xn,ZU,Sd (by omega)]
 unfold aon
 rw [Sd (by omega),Uu (n:=0+(a.length:Int)+(b.length:Int) - 0) (by omega) (by omega)]
 by_cases h0:0+(a.length:Int)+(b.length:Int) - 0>0
 ·rw [Sc h0]
  unfold az
  rw [if_pos (by rw [Bool.and_eq_true];exact ⟨decide_eq_true (by omega),decide_eq_true (by simp only [List.length_nil];omega)⟩)]
  dsimp only
  rw [Rx (by omega) (by omega) (by omega),Option.bind_some]
  exact e1
 ·rw [Sd h0,Option.bind_some];exact e1
theorem akm {k:Nat} (hk:1000 <= k) {a b:List I4} (ha:a.length <= 900) (hb:b.length <= 900):S58 k [a,b]=some ((a++b,()),()):=by
 unfold S58
 have:=akl hk ha hb (k - 3)
 rwa [show k - 3+3=k by omega] at this
def p8 (l:List iw):Prop:=l.length <= 100 /\ ∀ t∈l,ze t /\ (t.2.2.2.1++t.2.2.2.2.1).length <= 900
theorem akn {k:Nat} (hk:1000 <= k) {s:List I4} (h:s.length <= 900) (f:Int):adq k s f=some ((pq (akk f) s,()),()):=by
 unfold adq
 refine tq (fun j i=>I5 k j s f (s.length:Int) i) s i0 _ (fun j i hi=>?_) (fun j=>?_) k (by omega)
 ·show I5 k (j+1) s f (s.length:Int) (i:Int)=_
  rw [Vv,Q6,Sc (by omega),Qo hi,Mi (by omega),Qp]
  unfold aoo akk
  cases (s.getD i i0).1==9 <;> rfl
 ·show I5 k (j+1) s f (s.length:Int) (s.length:Int)=_
  rw [Vv,Q6,Sd (by omega)]
theorem amA {k:Nat} (hk:1000 <= k) {t:iw} (h:ze t) (h2:(t.2.2.2.1++t.2.2.2.2.1).length <= 900) (s:Int):ak8 k t s=some ((BA s t,()),()):=by
 unfold ak8 aop
 rw [akm hk h.1 h.2.1,Option.bind_some,akn hk h2]
 simp only [Option.bind_some,D9];rfl
theorem ako {k:Nat} (hk:1000 <= k) {l:List iw} (h:p8 l) (s:Int):S60 k l s=some ((uz l s,()),()):=by
 unfold S60 ah2
 have:=tq (fun j i=>EH k j l s (l.length:Int) i) l t0 (BA s) (fun j i hi=>by
  have ht:=h.2 _ (jl (z:=t0) hi)
  have hl:=h.1
  show EH k (j+1) l s (l.length:Int) (i:Int)=_
  rw [Vw,Q7,Sc (by omega),Qo hi,Mi (by omega),Qp,amA hk ht.1 ht.2,Option.bind_some]) (fun j=>by
  show EH k (j+1) l s (l.length:Int) (l.length:Int)=_
  rw [Vw,Q7,Sd (by omega)]) k (by have:=h.1;omega)
 rw [show EH k k l s (l.length:Int) 0=_ from this,Option.bind_some]
 unfold uz
 rw [Ww]
 unfold pq
 cases l.findIdx? (BA s) with
 | none=>rfl
 | some n=>simp only;rw [Sd (by omega)];congr 3;omega
def spF (l:List iw) (i:Int):Int -> List (Int×Int) -> Int
 | m,[]=>m
 | m,e::r=>spF l i (bif decide (uz l e.1 <= i) then mx m e.2 else m) r
noncomputable def byG (l:List iw) (i:Int):List iw -> Nat -> Int -> Int
 | [],_,m=>m
 | t::r,n,m=>byG l i r (n+1) (bif (n:Int)==i then m else spF l i m (ng t).2.2)
noncomputable def byT (l:List iw) (i:Int):Int:=byG l i l 0 0
def CI (l:List iw) (c:List (Int×Int)):Prop:=∀ x v,jB (.int .i64) (.int .i64) x c=some v -> v=uz l x
theorem ao9:∀ a b:(Ty.int .i64).D,fC (.int .i64) a b=true↔a=b:=fun a b=>by simp [fC]
theorem apa {l:List iw} {c:List (Int×Int)} (h:CI l c) (x:Int):CI l (vL (.int .i64) (.int .i64) x (uz l x) c):=fun y v hv=>by
 rw [BN (hb:=ao9)] at hv
 split at hv
 ·rename_i e
  have:y=x:=by simpa [fC] using e
  rw [this];injection hv with hv;exact hv.symm
 ·exact h y v hv
theorem apb {l:List iw} {c:List (Int×Int)} (h:CI l c) {x:Int} (hx:Ut (.int .i64) (.int .i64) x c=true):Us (.int .i64) (.int .i64) x c 0=uz l x:=by
 unfold Ut at hx;unfold Us
 cases e:jB (.int .i64) (.int .i64) x c with
 | none=>rw [e] at hx;cases hx
 | some v=>exact h x v e
theorem amB {x v:Int} {c:List (Int×Int)}:Ut (.int .i64) (.int .i64) x (vL (.int .i64) (.int .i64) x v c)=true:=by
 unfold Ut;rw [BN (hb:=ao9),if_pos (by simp [fC])];rfl
theorem Wx {k:Nat} (hk:1000 <= k) {g:List iw -> Int -> Int -> List (Int×Int) -> List iw -> Int -> Int -> Option ((Int×Unit)×Unit)} {l:List iw} (h:p8 l) {i:Int} {n:Nat} (hn:n <= 100) {sp:List (Int×Int)} (hs:sp.length <= 900) {tt:List iw} {tn:Int}:∀ (d a j:Nat) (m:Int) (c:List (Int×Int)),a+d=sp.length -> d<j -> CI l c ->
  ∃ c',CI l c' /\ RZ k g j l i m c tt tn (n:Int) sp (sp.length:Int) (a:Int)=g l i (spF l i m (sp.drop a)) c' tt tn ((n+1:Nat):Int)
 | 0,a,j,m,c,h1,hj,hc=>by
  obtain ⟨j',rfl⟩:∃ j',j=j'+1:=⟨j - 1,by omega⟩
  refine ⟨c,hc,?_⟩
  rw [ZX,Xo,Sd (by omega),drop_nil (by omega),spF,Mi (by omega)]
 | d+1,a,j,m,c,h1,hj,hc=>by
  obtain ⟨j',rfl⟩:∃ j',j=j'+1:=⟨j - 1,by omega⟩
  have ih:=fun m c=>Wx hk (g:=g) h (i:=i) hn hs (tt:=tt) (tn:=tn) d (a+1) j' m c (by omega) (by omega)
  rw [ZX,Xo,Sc (by omega),Qo (by omega),Qp,drop_cons (0,0) (show a<sp.length by omega),spF]
  have jn:∀ c1,CI l c1 -> Ut (.int .i64) (.int .i64) (sp.getD a (0,0)).1 c1=true -> ∃ c',CI l c' /\ KM k g (RZ k g j') l i m c1 (sp.getD a (0,0)).1 (sp.getD a (0,0)).2 tt tn (n:Int) sp (sp.length:Int) (a:Int)=g l i (spF l i (bif decide (uz l (sp.getD a (0,0)).1 <= i) then mx m (sp.getD a (0,0)).2 else m) (sp.drop (a+1))) c' tt tn ((n+1:Nat):Int):=fun c1 h1 h2=>by
   unfold KM
   rw [apb h1 h2,Mi (by omega)]
   cases decide (uz l (sp.getD a (0,0)).1 <= i) with
   | true=>exact ih _ _ h1
   | false=>exact ih _ _ h1
  cases hx:Ut (.int .i64) (.int .i64) (sp.getD a (0,0)).1 c with
  | true=>rw [Bool.not_true,cond_false];exact jn c hc hx
  | false =>
   rw [Bool.not_false,cond_true,ako hk h,Option.bind_some]
   exact jn _ (apa hc _) amB
theorem Wy {k:Nat} (hk:1000 <= k) {l:List iw} (h:p8 l) {i:Int}:∀ (d n j:Nat) (m:Int) (c:List (Int×Int)),n+d=l.length -> d<j -> CI l c -> S9 k j l i m c l (l.length:Int) (n:Int)=some ((byG l i (l.drop n) n m,()),())
 | 0,n,j,m,c,h1,hj,hc=>by
  obtain ⟨j',rfl⟩:∃ j',j=j'+1:=⟨j - 1,by omega⟩
  rw [ZY,Xp,Sd (by omega),drop_nil (by omega),byG]
 | d+1,n,j,m,c,h1,hj,hc=>by
  obtain ⟨j',rfl⟩:∃ j',j=j'+1:=⟨j - 1,by omega⟩
  have ih:=fun m c=>Wy hk h (i:=i) d (n+1) j' m c (by omega) (by omega)
  have ht:=h.2 _ (jl (z:=t0) (l:=l) (i:=n) (by omega))
  have hl:=h.1
  have hcl:=acz (l.getD n t0)
  rw [ZY,Xp,Sc (by omega),Qo (by omega),Mi (by omega),drop_cons t0 (show n<l.length by omega),byG]
  cases (n:Int)==i with
  | true=>rw [cond_true,cond_true,ih _ _ hc]
  | false =>
   rw [cond_false,cond_false,Qp,show l.getD n (0,0,0,[],[],[])=l.getD n t0 from rfl,LJ hk ht.1,Option.bind_some]
   obtain ⟨c',hc',e⟩:=Wx hk (g:=S9 k j') h (i:=i) (n:=n) (by omega) (sp:=(ng (l.getD n t0)).2.2) (by omega) (tt:=l) (tn:=(l.length:Int)) _ 0 k m c (Nat.zero_add _) (by omega) hc
   exact e.trans (ih _ _ hc')
theorem afK {k:Nat} (hk:1000 <= k) {l:List iw} (h:p8 l) (i:Int):ak9 k l i=some ((byT l i,()),()):=by
 have:=h.1
 exact Wy hk h l.length 0 k 0 [] (by omega) (by omega) (fun x v hv=>by cases hv)
structure afL (jw:Int) (l:List iw):Prop where
 mt:∀ j,j<l.length -> ∃ r,MT jw r (l.getD j t0) /\ 3 * (j:Int) <= r /\ r <= 3 * (j:Int)+2
 may:∀ j,j<l.length -> FX (l.getD j t0)=0
theorem MT.code {jw rank:Int} {t:iw} (h:MT jw rank t):(t.2.2.2.1++t.2.2.2.2.1).length <= 30:=by
 obtain ⟨m,e,_,hm⟩:=h.main
 rw [List.length_append,e,xg]
 rcases h.way with e | e | e <;> rw [e] <;> simp <;> omega
theorem afL.light {jw:Int} {l:List iw} (h:afL jw l) (hl:l.length <= 100):p8 l:=⟨hl,fun t ht=>by
 obtain ⟨j,hj,e⟩:=List.mem_iff_getElem.1 ht
 obtain ⟨r,hm,_⟩:=h.mt j hj
 have e2:l.getD j t0=t:=by rw [<- e,List.getD_eq_getElem?_getD,List.getElem?_eq_getElem hj];rfl
 rw [e2] at hm
 exact ⟨hm.light,by have:=hm.code;omega⟩⟩
theorem U1 (s:Int):∀ (l:List iw) (i:Nat),LK s l i=8 /\ (∀ n,n<l.length -> BA s (l.getD n t0)=false) \/ ∃ n,n<l.length /\ LK s l i=((i+n:Nat):Int) /\ BA s (l.getD n t0)=true
 | [],i=>.inl ⟨rfl,fun n h=>by simp at h⟩
 | t::r,i=>by
  rw [LK]
  cases h:BA s t with
  | true=>exact .inr ⟨0,by simp,rfl,h⟩
  | false =>
   rw [cond_false]
   rcases U1 s r (i+1) with ⟨e,q⟩ | ⟨n,h1,h2,h3⟩
   ·refine .inl ⟨e,fun n hn=>?_⟩
    cases n with
    | zero=>exact h
    | succ n=>exact q n (by simp only [List.length_cons] at hn;omega)
   ·exact .inr ⟨n+1,by simp only [List.length_cons];omega,by rw [h2];congr 1;omega,h3⟩
theorem abr (s:Int):∀ (l:List iw) (i n:Nat),n<l.length -> BA s (l.getD n t0)=true -> LK s l i <= ((i+n:Nat):Int)
 | [],i,n,h,_=>by simp at h
 | t::r,i,n,h,hl=>by
  rw [LK]
  cases ht:BA s t with
  | true=>rw [cond_true];omega
  | false =>
   rw [cond_false]
   cases n with
   | zero=>rw [show (t::r).getD 0 t0=t from rfl,ht] at hl;cases hl
   | succ n =>
    have:=abr s r (i+1) n (by simp only [List.length_cons] at h;omega) hl
    omega
theorem an5 (a b:Int):a <= mx a b:=by unfold mx;split <;> omega
theorem acA {l:List iw} {i:Int}:∀ (sp:List (Int×Int)) (m:Int),m <= spF l i m sp
 | [],m=>Int.le_refl _
 | e::r,m=>by
  rw [spF]
  cases decide (uz l e.1 <= i) with
  | true=>exact Int.le_trans (an5 m e.2) (acA r _)
  | false=>exact acA r m
theorem acB {l:List iw} {i:Int}:∀ (r:List iw) (n:Nat) (m:Int),m <= byG l i r n m
 | [],n,m=>Int.le_refl _
 | t::r,n,m=>by
  rw [byG]
  cases (n:Int)==i with
  | true=>exact acB r _ m
  | false=>exact Int.le_trans (acA _ m) (acB r _ _)
def up (r v:Int):Int:=(r+v - 1) / v
theorem up_tdiv {r v:Int} (hr:0 <= r) (hv:1 <= v):(if Int.tmod r v>0 then Int.tdiv r v+1 else Int.tdiv r v)=up r v:=by
 rw [Int.tdiv_eq_ediv_of_nonneg hr,Int.tmod_eq_emod_of_nonneg hr]
 unfold up
 have h1:=Int.emod_nonneg r (show v≠0 by omega)
 have h2:=Int.emod_lt_of_pos r (show 0<v by omega)
 have h3:=Int.mul_ediv_add_emod r v
 split
 ·rename_i h
  have:r+v - 1=(r % v - 1)+v * (r / v+1):=by rw [Int.mul_add,Int.mul_one];omega
  rw [this,Int.add_mul_ediv_left _ _ (by omega),Int.ediv_eq_zero_of_lt (a:=r % v - 1) (b:=v) (by omega) (by omega)];omega
 ·have:r+v - 1=(v - 1)+v * (r / v):=by omega
  rw [this,Int.add_mul_ediv_left _ _ (by omega),Int.ediv_eq_zero_of_lt (a:=v - 1) (b:=v) (by omega) (by omega)];omega
theorem Wz {r v:Int} (hr:0 <= r) (hv:1 <= v):0 <= up r v /\ up r v <= r:=by
 unfold up
 refine ⟨Int.ediv_nonneg (by omega) (by omega),?_⟩
 rw [<- Int.lt_add_one_iff]
 refine Int.ediv_lt_of_lt_mul (by omega) ?_
 have:(r+1) * 1 <= (r+1) * v:=Int.mul_le_mul_of_nonneg_left hv (by omega)
 have:r * 1 <= r * v:=Int.mul_le_mul_of_nonneg_left hv hr
 rw [Int.add_mul];omega
theorem afM {r s v:Int} (h:r <= s) (hv:1 <= v):up r v <= up s v:=Int.ediv_le_ediv (by omega) (by omega)
theorem amC {r v:Int} (hr:0 <= r) (hv:1 <= v):0 <= Int.tdiv r v /\ Int.tdiv r v <= r:=by
 rw [Int.tdiv_eq_ediv_of_nonneg hr]
 exact ⟨Int.ediv_nonneg hr (by omega),Int.ediv_le_self _ hr⟩
theorem amD (k:Nat) {a b:Int} (ha:0 <= a /\ a <= 4611686018427387904) (hb:1 <= b):ala k a b=some ((up a b,true,()),()):=by
 have h:=amC ha.1 hb
 have e:=up_tdiv ha.1 hb
 unfold ala
 rw [Sd (by omega),Sd (by omega),Sb (by omega),Sb (by omega),Uu (n:=Int.tdiv a b) (by omega) (by omega),Uu (n:=Int.tdiv a b+1) (by omega) (by omega),<- e]
 split
 ·rename_i h1;rw [Sc h1]
 ·rename_i h1;rw [Sd h1]
theorem afN (k:Nat) {a b:Int} (ha:0 <= a /\ a <= 4611686018427387904) (hb:1 <= b):ah6 k a b=some ((up a b,()),()):=by
 unfold ah6;rw [amD k ha hb,Option.bind_some]
theorem YL (k:Nat) {s t v:Int} (hs:0 <= s) (ht:0 <= t /\ t <= 4611686018427387904) (hv:0 <= v /\ v <= 4611686018427387904) (h:s+t * v <= 4611686018427387904):agp k s false t v=some ((),(s+t * v,false,()),()):=by
 have h0:=Int.mul_nonneg ht.1 hv.1
 unfold agp
 rw [afn k (by omega) (by omega) (by omega),Option.bind_some]
 simp only
 rw [afl k hs h0 (by omega),Option.bind_some]
 rfl
noncomputable def abt (l:List iw) (i:Nat):Bool:=(FX (l.getD i t0) != 0)||(decide ((i:Int)>0)&&decide ((l.getD (i - 1) t0).1≥(l.getD i t0).1))
noncomputable def F6 (l:List iw):Bool:=!L8 (abt l) l.length 0
theorem amE {k:Nat} (hk:1000 <= k) {l:List iw} (h:p8 l):ak7 k l=some ((F6 l,()),()):=by
 have hl:=h.1
 unfold ak7
 have:=aoY (L:=fun j i=>MI k j l l (l.length:Int) i) (n:=l.length) (abt l) (some ((false,()),())) (some ((true,()),())) (fun j i hi=>by
  have ht:=h.2 _ (jl (z:=t0) hi)
  show MI k (j+1) l l (l.length:Int) (i:Int)=_
  rw [ZQ,Xl,Sc (by omega),Qo hi,Qp,show l.getD i (0,0,0,[],[],[])=l.getD i t0 from rfl,YK hk ht.1,Option.bind_some,Mi (by omega)]
  unfold abt
  simp only
  cases FX (l.getD i t0) != 0 with
  | true=>rfl
  | false =>
   rw [cond_false,Bool.false_or]
   by_cases h0:(i:Int)>0
   ·rw [Sc h0,Uu (n:=(i:Int) - 1) (by omega) (by omega),show (i:Int) - 1=((i - 1:Nat):Int) by omega,Qo (by omega),Qp,decide_eq_true h0,Bool.true_and]
   ·rw [Sd h0,decide_eq_false h0,Bool.false_and,cond_false]) (fun j=>by
  show MI k (j+1) l l (l.length:Int) (l.length:Int)=_
  rw [ZQ,Xl,Sd (by omega)]) l.length 0 k (by omega) (by omega)
 refine Eq.trans this ?_
 unfold F6
 cases L8 (abt l) l.length 0 <;> rfl
theorem NU {l:List I4} (h:yj l=true):(1 <= (cst l).1 /\ (cst l).1 <= 9600) /\ (1 <= (cst l).2.1 /\ (cst l).2.1 <= (cst l).1) /\ ∀ e∈(cst l).2.2,1 <= e.2 /\ e.2<(cst l).1:=by
 obtain ⟨t,ht,rfl,hl⟩:=LG h
 have hc:=acu ht hl
 obtain ⟨b1,b2,b3,b4⟩:=uw 1 (0,0) ht (by omega) (by simp) (by simp)
 simp only [Int.one_mul,Int.zero_add] at b3 b4
 rw [akj ht hl]
 refine ⟨by simp only;omega,by simp only;omega,fun e he=>?_⟩
 have:=DZ ht e he
 simp only;omega
structure CoS (t:iw):Prop where
 per:1 <= t.2.1 /\ t.2.1 <= 16384
 en:1 <= t.2.2.1 /\ t.2.2.1 <= t.2.1
 cost:1 <= (ng t).1 /\ (ng t).1 <= t.2.2.1
 lost:1 <= (ng t).2.1 /\ (ng t).2.1 <= (ng t).1
 spans:∀ e∈(ng t).2.2,1 <= e.2 /\ e.2<(ng t).1
theorem abu {t:iw} (hz:FX t=0):CoS t:=by
 obtain ⟨_,z2,z3,z4,z5,z6,z7,z8,z9⟩:=Wv.1 hz
 obtain ⟨m1,m2,m3⟩:=NU z4
 have acC:ng t=((cst t.2.2.2.1).1,bif yj t.2.2.2.2.1 then (cst t.2.2.2.2.1).1 else (cst t.2.2.2.1).2.1,(cst t.2.2.2.1).2.2++(cst t.2.2.2.2.1).2.2):=by unfold ng;rw [if_pos hz]
 refine ⟨z2,z3,by rw [acC];simp only;omega,?_,fun e he=>?_⟩
 ·rw [acC]
  simp only
  cases h:yj t.2.2.2.2.1 with
  | false=>rw [cond_false];omega
  | true=>have:=NU h;rw [cond_true];omega
 ·rw [acC] at he ⊢
  simp only [List.mem_append] at he ⊢
  rcases he with q | q
  ·exact m3 e q
  ·cases h:yj t.2.2.2.2.1 with
   | false=>rw [amw h] at q;cases q
   | true=>have:=(NU h).2.2 e q;omega
theorem an6 {a b c:Int} (h1:a <= c) (h2:b <= c):mx a b <= c:=by unfold mx;split <;> omega
theorem akp {l:List iw} {i b:Int}:∀ (sp:List (Int×Int)) (m:Int),m <= b -> (∀ e∈sp,e.2 <= b) -> spF l i m sp <= b
 | [],m,h,_=>h
 | e::r,m,h,hs=>by
  rw [spF]
  refine akp r _ ?_ (fun x hx=>hs x (by simp [hx]))
  cases decide (uz l e.1 <= i) with
  | true=>exact an6 h (hs e (by simp))
  | false=>exact h
theorem akq {l:List iw} {i b:Int}:∀ (r:List iw) (n:Nat) (m:Int),m <= b -> (∀ t∈r,∀ e∈(ng t).2.2,e.2 <= b) -> byG l i r n m <= b
 | [],n,m,h,_=>h
 | t::r,n,m,h,hs=>by
  rw [byG]
  refine akq r _ _ ?_ (fun x hx=>hs x (by simp [hx]))
  cases (n:Int)==i with
  | true=>exact h
  | false=>exact akp _ m h (hs t (by simp))
theorem akr {l:List iw} (h:∀ t∈l,CoS t) (i:Int):0 <= byT l i /\ byT l i <= 16384 :=
 ⟨acB l 0 0,akq l 0 0 (by omega) (fun t ht e he=>by have q:=h t ht;have:=q.spans e he;have:=q.cost;have:=q.en;have:=q.per;omega)⟩
def yt (r:Int):List (Int×Int) -> Int
 | []=>0
 | x::l=>up r x.1 * x.2+yt r l
noncomputable def pc1 (t:iw):Int×Int:=(t.2.1,(ng t).1)
noncomputable def u6:Int -> List iw -> Int
 | m,[]=>m
 | m,t::r=>u6 (mx m (ng t).2.1) r
noncomputable def firstT (l:List iw) (i:Nat):Int:=(ng (l.getD i t0)).1+byT l (i:Int)
noncomputable def u7 (l:List iw) (i:Nat) (apart r:Int):Int:=firstT l i+up r apart * u6 0 (l.take (i+1))+yt r ((l.take i).map pc1)
def FT (en:Int) (right:Int -> Int):Nat -> Int -> Int -> Option (Int×Int×Int)
 | 0,_,_=>none
 | f+1,r,n=>if right r>en then some (0,0,14) else if right r=r then some (r,n,0) else FT en right f (right r) (n+1)
theorem AQ {r:Int} (hr:0 <= r):∀ {l:List (Int×Int)},(∀ x∈l,1 <= x.1 /\ 0 <= x.2) -> 0 <= yt r l
 | [],_=>Int.le_refl _
 | x::l,h=>by
  have hx:=h x (by simp)
  have:=AQ hr (l:=l) (fun y hy=>h y (by simp [hy]))
  have:=Int.mul_nonneg (Wz hr hx.1).1 hx.2
  rw [yt];omega
theorem WA {r s:Int} (h:r <= s):∀ {l:List (Int×Int)},(∀ x∈l,1 <= x.1 /\ 0 <= x.2) -> yt r l <= yt s l
 | [],_=>Int.le_refl _
 | x::l,hl=>by
  have hx:=hl x (by simp)
  have:=WA h (l:=l) (fun y hy=>hl y (by simp [hy]))
  have:=Int.mul_le_mul_of_nonneg_right (afM h hx.1) hx.2
  rw [yt,yt];omega
theorem afO {r b:Int} (hr:0 <= r) (hb:0 <= b):∀ {l:List (Int×Int)},(∀ x∈l,1 <= x.1 /\ 0 <= x.2 /\ x.2 <= b) -> yt r l <= (l.length:Int) * (r * b)
 | [],_=>by simp [yt]
 | x::l,h=>by
  have hx:=h x (by simp)
  have h1:=afO hr hb (l:=l) (fun y hy=>h y (by simp [hy]))
  have hu:=Wz hr hx.1
  have h2:up r x.1 * x.2 <= r * b:=Int.mul_le_mul hu.2 hx.2.2 hx.2.1 hr
  rw [yt,List.length_cons,show ((l.length+1:Nat):Int)=(l.length:Int)+1 by omega,Int.add_mul,Int.one_mul];omega
theorem U2 {en:Int} {right:Int -> Int} (hm:∀ a b,0 <= a -> a <= b -> right a <= right b):∀ (f:Nat) (r n:Int),0 <= r -> r <= right r -> en - r<(f:Int) -> 0<f -> ∃ x,FT en right f r n=some x
 | 0,r,n,_,_,_,h=>absurd h (by omega)
 | f+1,r,n,h0,h1,h2,_=>by
  rw [FT]
  split
  ·exact ⟨_,rfl⟩
  ·split
   ·exact ⟨_,rfl⟩
   ·rename_i h3 h4
    exact U2 hm f (right r) (n+1) (by omega) (hm r (right r) h0 h1) (by omega) (by omega)
structure RS (l:List iw):Prop where
 light:p8 l
 len:l.length <= 10
 co:∀ t∈l,CoS t
theorem abv {b:Int}:∀ (r:List iw) (m:Int),0 <= m -> m <= b -> (∀ t∈r,(ng t).2.1 <= b) -> 0 <= u6 m r /\ u6 m r <= b
 | [],m,h0,h,_=>⟨h0,h⟩
 | t::r,m,h0,h,hs=>by
  rw [u6]
  exact abv r _ (Int.le_trans h0 (an5 _ _)) (an6 h (hs t (by simp))) (fun x hx=>hs x (by simp [hx]))
theorem RS.first {l:List iw} (h:RS l) {i:Nat} (hi:i<l.length):1 <= firstT l i /\ firstT l i <= 32768:=by
 have hc:=h.co _ (jl (z:=t0) hi)
 have hb:=akr h.co (i:Int)
 have:=hc.cost;have:=hc.en;have:=hc.per
 unfold firstT;omega
theorem RS.lost {l:List iw} (h:RS l) (i:Nat):0 <= u6 0 (l.take i) /\ u6 0 (l.take i) <= 16384 :=
 abv _ 0 (by omega) (by omega) (fun t ht=>by have q:=h.co t (List.mem_of_mem_take ht);have:=q.lost;have:=q.cost;have:=q.en;have:=q.per;omega)
theorem RS.mq {l:List iw} (h:RS l) (i:Nat):∀ x∈(l.take i).map pc1,1 <= x.1 /\ 0 <= x.2 /\ x.2 <= 16384:=fun x hx=>by
 obtain ⟨t,ht,rfl⟩:=List.mem_map.1 hx
 have q:=h.co t (List.mem_of_mem_take ht)
 have:=q.cost;have:=q.en;have:=q.per
 unfold pc1;simp only;omega
theorem RS.loss {l:List iw} (h:RS l) {i:Nat} {apart r:Int} (ha:1 <= apart) (hr:0 <= r /\ r <= 50000):0 <= up r apart * u6 0 (l.take (i+1)) /\ up r apart * u6 0 (l.take (i+1)) <= 819200000:=by
 have hl:=h.lost (i+1)
 have hu:=Wz hr.1 ha
 have:=Int.mul_nonneg hu.1 hl.1
 have:up r apart * u6 0 (l.take (i+1)) <= 50000 * 16384:=Int.mul_le_mul (by omega) hl.2 hl.1 (by omega)
 omega
theorem RS.sum {l:List iw} (h:RS l) {i:Nat} {r:Int} (hr:0 <= r /\ r <= 50000):0 <= yt r ((l.take i).map pc1) /\ yt r ((l.take i).map pc1) <= 8192000000:=by
 have h0:=AQ hr.1 (l:=(l.take i).map pc1) (fun x hx=>⟨(h.mq i x hx).1,(h.mq i x hx).2.1⟩)
 have h1:=afO hr.1 (show (0:Int) <= 16384 by omega) (h.mq i)
 have hl:((l.take i).map pc1).length <= 10:=by rw [List.length_map,List.length_take];have:=h.len;omega
 have h2:(((l.take i).map pc1).length:Int) * (r * 16384) <= 10 * (r * 16384):=Int.mul_le_mul_of_nonneg_right (by omega) (by omega)
 omega
theorem RS.right {l:List iw} (h:RS l) {i:Nat} (hi:i<l.length) {apart r:Int} (ha:1 <= apart) (hr:0 <= r /\ r <= 50000):firstT l i <= u7 l i apart r /\ u7 l i apart r <= 100000000000:=by
 have h1:=h.first hi;have h2:=h.loss (i:=i) ha hr;have h3:=h.sum (i:=i) hr
 unfold u7;omega
theorem U3 {k:Nat} (hk:1000 <= k) {g:List iw -> Int -> Int -> Int -> Int -> Int -> Int -> Bool -> Option ((Int×Int×Int×Unit)×Unit)} {l tk:List iw} {i:Nat} (hi:i<l.length) {apart r rounds lost first:Int} (hr:0 <= r /\ r <= 50000) (htk:tk.length <= 100) (hs:∀ t∈tk,ze t /\ CoS t) :
  ∀ (d n j:Nat) (x:Int),n+d=tk.length -> d<j -> 0 <= x -> x+yt r ((tk.drop n).map pc1) <= 100000000000 ->
  Q9 k g j l (i:Int) apart r rounds lost first false x false tk (tk.length:Int) (n:Int)=if x+yt r ((tk.drop n).map pc1)>(l.getD i t0).2.2.1 then some ((0,0,14,()),()) else if x+yt r ((tk.drop n).map pc1)=r then some ((r,rounds,0,()),()) else g l (i:Int) apart (x+yt r ((tk.drop n).map pc1)) rounds lost first false
 | 0,n,j,x,h,hj,hx,hb=>by
  obtain ⟨j',rfl⟩:∃ j',j=j'+1:=⟨j - 1,by omega⟩
  rw [Vx,Q8,Sd (by omega),drop_nil (by omega),cond_false,Qo hi,Qp,show l.getD i (0,0,0,[],[],[])=l.getD i t0 from rfl]
  simp only [List.map_nil,yt,Int.add_zero]
  by_cases h1:x>(l.getD i t0).2.2.1
  ·rw [Sc h1,if_pos h1]
  ·rw [Sd h1,if_neg h1]
   by_cases h2:x=r
   ·rw [if_pos h2,show (x==r)=true by rw [h2];exact beq_self_eq_true r,cond_true]
   ·rw [if_neg h2,show (x==r)=false by rw [beq_eq_false_iff_ne];exact h2,cond_false]
 | d+1,n,j,x,h,hj,hx,hb=>by
  obtain ⟨j',rfl⟩:∃ j',j=j'+1:=⟨j - 1,by omega⟩
  have hn:n<tk.length:=by omega
  obtain ⟨ht,hc⟩:=hs _ (jl (z:=t0) hn)
  have amF:=hc.per
  have hu:=Wz hr.1 amF.1
  have hco:=hc.cost;have hen:=hc.en
  have hmul:=Int.mul_nonneg hu.1 (show 0 <= (ng (tk.getD n t0)).1 by omega)
  have hrest:0 <= yt r ((tk.drop (n+1)).map pc1):=AQ hr.1 (fun y hy=>by
   obtain ⟨t,ht,rfl⟩:=List.mem_map.1 hy
   have q:=(hs t (List.mem_of_mem_drop ht)).2
   have:=q.cost;have:=q.per
   unfold pc1;simp only;omega)
  rw [drop_cons t0 hn,List.map_cons,yt] at hb ⊢
  unfold pc1 at hb ⊢
  simp only at hb ⊢
  have ih:=U3 hk (g:=g) hi (apart:=apart) (rounds:=rounds) (lost:=lost) (first:=first) hr htk hs d (n+1) j' (x+up r (tk.getD n t0).2.1 * (ng (tk.getD n t0)).1) (by omega) (by omega) (by omega) (by unfold pc1;omega)
  unfold pc1 at ih
  rw [Vx,Q8,Sc (by omega),Qo hn,Qp,show tk.getD n (0,0,0,[],[],[])=tk.getD n t0 from rfl,LJ hk ht,Option.bind_some,afN k (by omega) amF.1,Option.bind_some]
  simp only
  rw [YL k hx (by omega) (by omega) (by unfold pc1 at hrest;omega),Option.bind_some,Mi (by omega),<- Int.add_assoc]
  exact ih
theorem abw {α:Type} {l:List α} {i:Nat}:sub l 0 (i:Int)=l.take i:=by simp [sub]
theorem K3 {l:List iw} (h:RS l) {i:Nat} {apart:Int} (ha:1 <= apart):∀ a b,0 <= a -> a <= b -> u7 l i apart a <= u7 l i apart b:=fun a b h0 hab=>by
 have h1:=Int.mul_le_mul_of_nonneg_right (afM hab ha) (h.lost (i+1)).1
 have h2:=WA hab (l:=(l.take i).map pc1) (fun x hx=>⟨(h.mq i x hx).1,(h.mq i x hx).2.1⟩)
 unfold u7;omega
theorem amG {l:List iw} (h:F6 l=true):∀ t∈l,FX t=0:=fun t ht=>by
 obtain ⟨j,hj,e⟩:=List.mem_iff_getElem.1 ht
 have e2:l.getD j t0=t:=by rw [<- e,List.getD_eq_getElem?_getD,List.getElem?_eq_getElem hj];rfl
 unfold F6 at h
 rw [Bool.not_eq_true',I9] at h
 have:=h j (by omega) (by omega)
 unfold abt at this
 rw [Bool.or_eq_false_iff,e2] at this
 simpa using this.1
theorem U4 {l:List iw} (h:F6 l=true) (hL:p8 l) (hl:l.length <= 10):RS l:=⟨hL,hl,fun t ht=>abu (amG h t ht)⟩
theorem U5 {k:Nat} (hk:1000 <= k) {l:List iw} (h:RS l) {i:Nat} (hi:i<l.length) {apart:Int} (ha:1 <= apart):∀ (f j:Nat) (r n:Int) (y:Int×Int×Int),f <= j -> 0 <= r -> r <= 50000 -> 1 <= n -> n+f <= 1000000 -> FT (l.getD i t0).2.2.1 (u7 l i apart) f r n=some y ->
  KN k j l (i:Int) apart r (n - 1) (u6 0 (l.take (i+1))) (firstT l i) false=some ((y.1,y.2.1,y.2.2,()),())
 | 0,j,r,n,y,_,_,_,_,_,e=>by cases e
 | f+1,j,r,n,y,hj,h0,h1,hn,hf,e=>by
  obtain ⟨j',rfl⟩:∃ j',j=j'+1:=⟨j - 1,by omega⟩
  have hfi:=h.first hi
  have hls:=h.lost (i+1)
  have hlo:=h.loss (i:=i) ha ⟨h0,h1⟩
  have hsu:=h.sum (i:=i) ⟨h0,h1⟩
  have hu:=Wz h0 ha
  have hen:=(h.co _ (jl (z:=t0) hi)).en
  have amF:=(h.co _ (jl (z:=t0) hi)).per
  have hlen:=h.len
  rw [agq,Xq,afN k (by omega) ha,Option.bind_some]
  simp only
  rw [YL k (by omega) (by omega) (by omega) (by omega),Option.bind_some,Rx (by omega) (by omega) (by omega),Uu (n:=n - 1+1) (by omega) (by omega),show n - 1+1=n by omega,abw]
  have htl:(l.take i).length <= 100:=by rw [List.length_take];omega
  have:=U3 hk (g:=KN k j') hi (tk:=l.take i) (apart:=apart) (rounds:=n) (lost:=u6 0 (l.take (i+1))) (first:=firstT l i) (r:=r) ⟨h0,h1⟩ htl (fun t ht=>⟨(h.light.2 t (List.mem_of_mem_take ht)).1,h.co t (List.mem_of_mem_take ht)⟩) (l.take i).length 0 k (firstT l i+up r apart * u6 0 (l.take (i+1))) (by omega) (by omega) (by omega) (by rw [List.drop_zero];omega)
  refine Eq.trans this ?_
  rw [List.drop_zero,show firstT l i+up r apart * u6 0 (l.take (i+1))+yt r ((l.take i).map pc1)=u7 l i apart r from rfl]
  rw [FT] at e
  split at e
  ·rename_i q
   injection e with e;subst e
   rw [if_pos q]
  ·rename_i q
   rw [if_neg q]
   split at e
   ·rename_i q2
    injection e with e;subst e
    rw [if_pos q2]
   ·rename_i q2
    rw [if_neg q2]
    have hr:=h.right hi ha ⟨h0,h1⟩
    have:=U5 hk h hi ha f j' (u7 l i apart r) (n+1) y (by omega) (by omega) (by omega) (by omega) (by omega) e
    rw [show n+1 - 1=n by omega] at this
    exact this
noncomputable def l8 (l:List iw) (i apart:Int):Int×Int×Int :=
 if F6 l=true /\ 0 <= i /\ i<(l.length:Int) /\ 1 <= apart then (FT (l.getD i.toNat t0).2.2.1 (u7 l i.toNat apart) 20000 (firstT l i.toNat) 1).getD (0,0,0) else (0,0,1)
theorem NV {l:List iw} (h:RS l) {i:Nat} (hi:i<l.length) {apart:Int} (ha:1 <= apart):∃ y,FT (l.getD i t0).2.2.1 (u7 l i apart) 20000 (firstT l i) 1=some y:=by
 have hf:=h.first hi
 have hen:=(h.co _ (jl (z:=t0) hi)).en
 have amF:=(h.co _ (jl (z:=t0) hi)).per
 exact U2 (K3 h ha) 20000 _ 1 (by omega) (h.right hi ha (by omega)).1 (by omega) (by omega)
theorem U6 {l:List iw} (hr:F6 l=true) {i:Nat} (hi:i<l.length) {apart:Int} (ha:1 <= apart) {y:Int×Int×Int} (hy:FT (l.getD i t0).2.2.1 (u7 l i apart) 20000 (firstT l i) 1=some y):l8 l (i:Int) apart=y:=by
 unfold l8
 rw [if_pos ⟨hr,by omega,by omega,ha⟩,Int.toNat_natCast,hy];rfl
theorem WB {k:Nat} (hk:20000 <= k) {l:List iw} (hrow:F6 l=true) (h:RS l) {i:Nat} (hi:i<l.length) {apart:Int} (ha:1 <= apart):∀ (d n j:Nat) (m:Int),n+d=(l.take (i+1)).length -> d<j -> u6 m ((l.take (i+1)).drop n)=u6 0 (l.take (i+1)) ->
  Xt k j l (i:Int) apart 0 (ng (l.getD i t0)).1 m (l.take (i+1)) ((l.take (i+1)).length:Int) (n:Int)=some (((l8 l i apart).1,(l8 l i apart).2.1,(l8 l i apart).2.2,()),())
 | 0,n,j,m,h1,hj,hm=>by
  obtain ⟨j',rfl⟩:∃ j',j=j'+1:=⟨j - 1,by omega⟩
  have hb:=akr h.co (i:Int)
  have hc:=h.co _ (jl (z:=t0) hi)
  have:=hc.cost;have:=hc.en;have:=hc.per
  have hfi:=h.first hi
  rw [drop_nil (by omega),u6] at hm
  obtain ⟨y,hy⟩:=NV h hi ha
  rw [aae,Xr,Sd (by omega),afK (by omega) h.light,Option.bind_some]
  simp only
  rw [YL k (by omega) (by omega) (by omega) (by omega),Option.bind_some,hm,Int.one_mul]
  have:=U5 (k:=k) (by omega) h hi ha 20000 k (firstT l i) 1 y (by omega) (by omega) (by omega) (by omega) (by omega) hy
  refine Eq.trans this ?_
  rw [U6 hrow hi ha hy]
 | d+1,n,j,m,h1,hj,hm=>by
  obtain ⟨j',rfl⟩:∃ j',j=j'+1:=⟨j - 1,by omega⟩
  have hn:n<(l.take (i+1)).length:=by omega
  have hmem:=jl (z:=t0) hn
  have ht:=(h.light.2 _ (List.mem_of_mem_take hmem)).1
  have hll:(l.take (i+1)).length <= 10:=by rw [List.length_take];have:=h.len;omega
  rw [drop_cons t0 hn,u6] at hm
  rw [aae,Xr,Sc (by omega),Qo hn,Qp,show (l.take (i+1)).getD n (0,0,0,[],[],[])=(l.take (i+1)).getD n t0 from rfl,LJ (by omega) ht,Option.bind_some,Mi (by omega)]
  exact WB hk hrow h hi ha d (n+1) j' _ (by omega) (by omega) hm
theorem amH {k:Nat} (hk:20000 <= k) {l:List iw} (hL:p8 l) (hl:l.length <= 10) (i apart:Int):alb k l i apart=some (((l8 l i apart).1,(l8 l i apart).2.1,(l8 l i apart).2.2,()),()):=by
 unfold alb
 rw [amE (by omega) hL,Option.bind_some]
 simp only
 cases hr:F6 l with
 | false =>
  have:l8 l i apart=(0,0,1):=by unfold l8;rw [if_neg (fun q=>by rw [hr] at q;cases q.1)]
  rw [this];rfl
 | true =>
  rw [Bool.not_true,cond_false]
  by_cases h1:i<0
  ·have:l8 l i apart=(0,0,1):=by unfold l8;rw [if_neg (fun q=>by omega)]
   rw [Sc h1,this]
  ·rw [Sd h1]
   by_cases h2:i≥(l.length:Int)
   ·have:l8 l i apart=(0,0,1):=by unfold l8;rw [if_neg (fun q=>by omega)]
    rw [Sc h2,this]
   ·rw [Sd h2]
    by_cases h3:apart<1
    ·have:l8 l i apart=(0,0,1):=by unfold l8;rw [if_neg (fun q=>by omega)]
     rw [Sc h3,this]
    ·rw [Sd h3]
     obtain ⟨n,rfl⟩:∃ n:Nat,i=(n:Int):=⟨i.toNat,by omega⟩
     have hn:n<l.length:=by omega
     have hRS:=U4 hr hL hl
     have ht:=(hL.2 _ (jl (z:=t0) hn)).1
     rw [Qo hn,Qp,show l.getD n (0,0,0,[],[],[])=l.getD n t0 from rfl,LJ (by omega) ht,Option.bind_some,Mi (by omega),Rx (by omega) (by omega) (by omega),abw]
     have hll:(l.take (n+1)).length <= 10:=by rw [List.length_take];omega
     exact WB hk hr hRS hn (by omega) (l.take (n+1)).length 0 k 0 (by omega) (by omega) (by rw [List.drop_zero])
theorem U7 {en:Int} {right:Int -> Int} (hm:∀ a b,0 <= a -> a <= b -> right a <= right b):∀ (f:Nat) (r n:Int) (y:Int×Int×Int),0 <= r -> r <= right r -> r <= en \/ right r>en -> FT en right f r n=some y ->
  (y=(0,0,14) /\ ∀ x,r <= x -> x <= en -> right x≠x) \/ (y.2.2=0 /\ right y.1=y.1 /\ r <= y.1 /\ y.1 <= en /\ n <= y.2.1 /\ y.2.1 - n <= y.1 - r /\ (right r≠r -> n+1 <= y.2.1) /\ ∀ x,r <= x -> right x=x -> y.1 <= x)
 | 0,r,n,y,_,_,_,e=>by cases e
 | f+1,r,n,y,h0,h1,h2,e=>by
  rw [FT] at e
  split at e
  ·rename_i q
   injection e with e;subst e
   refine .inl ⟨rfl,fun x hx hxe hf=>?_⟩
   have:=hm r x h0 hx
   omega
  ·rename_i q
   split at e
   ·rename_i q2
    injection e with e;subst e
    refine .inr ⟨rfl,q2,Int.le_refl _,by omega,Int.le_refl _,by simp only;omega,fun h=>absurd q2 h,fun x hx _=>hx⟩
   ·rename_i q2
    have hr:=hm r (right r) h0 h1
    rcases U7 hm f (right r) (n+1) y (by omega) hr (.inl (by omega)) e with ⟨a,b⟩ | ⟨a1,a2,a3,a4,a5,a6,a7,a8⟩
    ·refine .inl ⟨a,fun x hx hxe hf=>?_⟩
     have:=hm r x h0 hx
     exact b x (by omega) hxe hf
    ·refine .inr ⟨a1,a2,by omega,a4,by omega,by omega,fun _=>by omega,fun x hx hf=>?_⟩
     have:=hm r x h0 hx
     exact a8 x (by omega) hf
theorem afL.row {jw:Int} {l:List iw} (h:afL jw l):F6 l=true:=by
 unfold F6
 rw [Bool.not_eq_true',I9]
 intro n _ hn
 unfold abt
 rw [h.may n (by omega),bne_self_eq_false,Bool.false_or,Bool.and_eq_false_iff]
 by_cases h0:(n:Int)>0
 ·right
  obtain ⟨r,m1,m2,m3⟩:=h.mt n (by omega)
  obtain ⟨r2,p1,p2,p3⟩:=h.mt (n - 1) (by omega)
  have e1:=m1.rank
  have e2:=p1.rank
  exact decide_eq_false (by rw [e1,e2];omega)
 ·left;exact decide_eq_false h0
theorem IY {l:List iw} {i:Nat} (hi:i<l.length):l.take (i+1)=l.take i++[l.getD i t0]:=by
 rw [List.take_add_one,List.getElem?_eq_getElem hi,List.getD_eq_getElem?_getD,List.getElem?_eq_getElem hi];rfl
theorem PG {en z:Int} {right:Int -> Int} (hm:∀ a b,0 <= a -> a <= b -> right a <= right b) (h2:right z <= z) (h3:z <= en):∀ (f:Nat) (r n:Int) (y:Int×Int×Int),0 <= r -> r <= z -> r <= right r -> FT en right f r n=some y -> y.2.2=0 /\ y.1 <= z
 | 0,r,n,y,_,_,_,e=>by cases e
 | f+1,r,n,y,h0,h1,hr,e=>by
  have:=hm r z h0 h1
  rw [FT,if_neg (by omega)] at e
  split at e
  ·injection e with e;subst e;exact ⟨rfl,h1⟩
  ·exact PG hm h2 h3 f (right r) (n+1) y (by omega) (by omega) (hm r _ h0 hr) e
theorem abx {l:List iw} (hr:F6 l=true) (h:RS l) {i:Nat} (hi:i<l.length) {apart z:Int} (ha:1 <= apart) (h1:firstT l i <= z) (h2:u7 l i apart z <= z) (h3:z <= (l.getD i t0).2.2.1):(l8 l (i:Int) apart).2.2=0 /\ (l8 l (i:Int) apart).1 <= z:=by
 obtain ⟨y,hy⟩:=NV h hi ha
 have hf:=h.first hi
 rw [U6 hr hi ha hy]
 exact PG (K3 h ha) h2 h3 _ _ _ _ (by omega) h1 (h.right hi ha (by omega)).1 hy
theorem row_iff {l:List iw}:F6 l=true↔∀ n,n<l.length -> FX (l.getD n t0)=0 /\ (0<n -> (l.getD (n - 1) t0).1<(l.getD n t0).1):=by
 unfold F6
 rw [Bool.not_eq_true',I9]
 constructor
 ·intro h n hn
  have:=h n (by omega) (by omega)
  unfold abt at this
  rw [Bool.or_eq_false_iff,Bool.and_eq_false_iff] at this
  refine ⟨by simpa using this.1,fun h0=>?_⟩
  rcases this.2 with q | q
  ·exact absurd (of_decide_eq_false q) (by omega)
  ·have:=of_decide_eq_false q;omega
 ·intro h n _ hn
  obtain ⟨a,b⟩:=h n (by omega)
  unfold abt
  rw [a,bne_self_eq_false,Bool.false_or,Bool.and_eq_false_iff]
  by_cases h0:0<n
  ·right;exact decide_eq_false (by have:=b h0;omega)
  ·left;exact decide_eq_false (by omega)
abbrev WC:Type:=PN Int 5
noncomputable def iy (l:List iw) (ap:Int) (i:Nat):WC:=((ng (l.getD i t0)).1,(ng (l.getD i t0)).2.1,byT l (i:Int),(l8 l (i:Int) ap).1,(l.getD i t0).2.2.1 - (l8 l (i:Int) ap).1)
noncomputable def U8 (l:List iw) (ap:Int):Nat -> Nat -> List WC -> List WC×Int
 | 0,_,out=>(out,0)
 | d+1,i,out=>if (l8 l (i:Int) ap).2.2=0 then U8 l ap d (i+1) (out++[iy l ap i]) else ([],(l8 l (i:Int) ap).2.2)
noncomputable def allT (l:List iw) (ap:Int):List WC×Int:=if ap<1 then ([],1) else U8 l ap l.length 0 []
theorem aby {l:List iw} (hL:p8 l) (hl:l.length <= 10) {i:Nat} {ap:Int} (h:(l8 l (i:Int) ap).2.2=0):F6 l=true /\ i<l.length /\ 1 <= ap /\ 1 <= (l8 l (i:Int) ap).1 /\ firstT l i <= (l8 l (i:Int) ap).1 /\ (l8 l (i:Int) ap).1 <= (l.getD i t0).2.2.1 /\ u7 l i ap (l8 l (i:Int) ap).1=(l8 l (i:Int) ap).1:=by
 by_cases hc:F6 l=true /\ 0 <= (i:Int) /\ (i:Int)<(l.length:Int) /\ 1 <= ap
 ·obtain ⟨h1,_,h3,h4⟩:=hc
  have hi:i<l.length:=by omega
  have hR:=U4 h1 hL hl
  obtain ⟨y,hy⟩:=NV hR hi h4
  have hf:=hR.first hi
  rw [U6 h1 hi h4 hy] at h ⊢
  rcases U7 (K3 hR h4) 20000 (firstT l i) 1 y (by omega) (hR.right hi h4 (by omega)).1 (by have:=(hR.right hi h4 (r:=firstT l i) (by omega)).1;omega) hy with ⟨e,_⟩ | ⟨a1,a2,a3,a4,_⟩
  ·rw [e] at h;exact absurd h (by decide)
  ·exact ⟨h1,hi,h4,by omega,a3,a4,a2⟩
 ·unfold l8 at h
  rw [if_neg hc] at h
  exact absurd h (by decide)
theorem WE {k:Nat} (hk:20000 <= k) {l:List iw} (hL:p8 l) (hl:l.length <= 10) {ap:Int}:∀ (d i j:Nat) (out:List WC),i+d=l.length -> d<j -> out.length <= i ->
  Xv k j l ap out l (l.length:Int) (i:Int)=some (((U8 l ap d i out).1,(U8 l ap d i out).2,()),())
 | 0,i,j,out,h,hj,ho=>by
  obtain ⟨j',rfl⟩:∃ j',j=j'+1:=⟨j - 1,by omega⟩
  rw [aaf,Xu,Sd (by omega),U8]
 | d+1,i,j,out,h,hj,ho=>by
  obtain ⟨j',rfl⟩:∃ j',j=j'+1:=⟨j - 1,by omega⟩
  have hi:i<l.length:=by omega
  have ht:=(hL.2 _ (jl (z:=t0) hi)).1
  rw [aaf,Xu,Sc (by omega),Qo hi,amH hk hL hl,Option.bind_some,U8,Qp,show l.getD i (0,0,0,[],[],[])=l.getD i t0 from rfl]
  simp only
  by_cases he:(l8 l (i:Int) ap).2.2=0
  ·obtain ⟨h1,_,h3,h4,h5,h6,h7⟩:=aby hL hl he
   have hc:=(U4 h1 hL hl).co _ (jl (z:=t0) hi)
   have:=hc.en;have:=hc.per
   rw [if_pos he,he]
   simp only [bne_self_eq_false,cond_false]
   rw [LJ (by omega) ht,Option.bind_some,afK (by omega) hL,Option.bind_some,Rz (by simp only [List.length_cons,List.length_nil];omega),Mi (by omega),Uu (by omega) (by omega)]
   exact WE hk hL hl d (i+1) j' _ (by omega) (by omega) (by simp only [List.length_append,List.length_cons,List.length_nil];omega)
  ·rw [if_neg he,show ((l8 l (i:Int) ap).2.2 != 0)=true by rw [bne_iff_ne];exact he,cond_true]
theorem amI {k:Nat} (hk:20000 <= k) {l:List iw} (hL:p8 l) (hl:l.length <= 10) (ap:Int):ah9 k l ap=some (((allT l ap).1,(allT l ap).2,()),()):=by
 unfold ah9 allT
 by_cases h:ap<1
 ·rw [Sc h,if_pos h]
 ·rw [Sd h,if_neg h]
  exact WE hk hL hl l.length 0 k [] (by omega) (by omega) (by simp)
def Vg (r:Int):List iw -> Nat
 | []=>0
 | x::l=>bif decide (x.1<r) then Vg r l+1 else 0
theorem YM (r:Int):∀ l:List iw,Vg r l <= l.length
 | []=>Nat.le_refl _
 | x::l=>by
  rw [Vg]
  cases decide (x.1<r) with
  | true=>rw [cond_true,List.length_cons];have:=YM r l;omega
  | false=>rw [cond_false];omega
theorem GR (r:Int):∀ (l:List iw) (n:Nat),n <= l.length -> (∀ a,a<n -> (l.getD a t0).1<r) -> (n<l.length -> ¬ (l.getD n t0).1<r) -> Vg r l=n
 | [],n,h,_,_=>by simp at h;rw [h];rfl
 | x::l,0,_,_,h2=>by
  have h3:¬ x.1<r:=h2 (by simp)
  rw [Vg,decide_eq_false h3,cond_false]
 | x::l,n+1,h,h1,h2=>by
  have h3:x.1<r:=h1 0 (by omega)
  rw [Vg,decide_eq_true h3,cond_true,GR r l n (by simpa using h) (fun a ha=>h1 (a+1) (by omega)) (fun hn=>h2 (by simpa using hn))]
noncomputable def AU (l:List iw) (t:iw):List iw:=l.take (Vg t.1 l)++[t]++l.drop (Vg t.1 l)
theorem U9 (l:List iw) (t:iw):(AU l t).length=l.length+1:=by
 have:=YM t.1 l
 unfold AU
 simp only [List.length_append,List.length_take,List.length_drop,List.length_cons,List.length_nil];omega
theorem acD {l:List iw} {t:iw} (h:p8 l) (hl:l.length <= 50) (ht:ze t /\ (t.2.2.2.1++t.2.2.2.2.1).length <= 900):p8 (AU l t):=⟨by rw [U9];omega,fun x hx=>by
 unfold AU at hx
 simp only [List.mem_append,List.mem_singleton] at hx
 rcases hx with (hx | hx) | hx
 ·exact h.2 x (List.mem_of_mem_take hx)
 ·rw [hx];exact ht
 ·exact h.2 x (List.mem_of_mem_drop hx)⟩
noncomputable def inT (l:List iw) (t:iw) (ap:Int):List iw×List WC×Int :=
 if FX t≠0 then ([],[],FX t) else if l.any (fun x=>x.1==t.1)=true then ([],[],11) else if 8 <= l.length then ([],[],4)
 else if (allT (AU l t) ap).2≠0 then ([],[],(allT (AU l t) ap).2) else (AU l t,(allT (AU l t) ap).1,0)
theorem YN {k:Nat} {xs:List I4} (h:xs.length <= 900):RP k xs=some ((xs,()),()):=by
 unfold RP qQ
 exact if_pos (by rw [lY];show xs.length * _ <= _;omega)
theorem afP {k:Nat} {t:iw} (h:ze t):ahU k t=some ((t,()),()):=by
 unfold ahU
 rw [YN h.1,Option.bind_some,YN h.2.1,Option.bind_some,YN h.2.2,Option.bind_some]
theorem amJ {k:Nat} {l:List iw} {p:Nat} {t:iw} (hp:p <= l.length) (hl:l.length <= 1000):aol k l (p:Int) [t]=some ((l.take p++[t]++l.drop p,()),()):=by
 unfold aol Jg
 refine if_pos ?_
 simp only [Bool.and_eq_true]
 refine ⟨decide_eq_true (Int.natCast_nonneg p),decide_eq_true (Int.ofNat_le.2 hp),decide_eq_true ?_⟩
 show (l.length+1) * _ <= _
 omega
theorem amK {l:List iw} {r:Int} (h:l.any (fun x=>x.1==r)=false):(if pq (fun x:iw=>decide (x.1>r)) l<0 then (l.length:Int) else pq (fun x:iw=>decide (x.1>r)) l)=(Vg r l:Int):=by
 have hne:∀ a,a<l.length -> (l.getD a t0).1≠r:=fun a ha e=>by
  rw [List.any_eq_false] at h
  exact h _ (jl (z:=t0) ha) (by rw [e];exact beq_self_eq_true r)
 unfold pq
 cases hf:l.findIdx? (fun x:iw=>decide (x.1>r)) with
 | none =>
  rw [List.findIdx?_eq_none_iff] at hf
  simp only
  rw [if_pos (by omega),GR r l l.length (Nat.le_refl _) (fun a ha=>by
   have:=hf _ (jl (z:=t0) ha)
   have:=of_decide_eq_false this
   have:=hne a ha
   omega) (fun h=>absurd h (by omega))]
 | some n =>
  rw [List.findIdx?_eq_some_iff_getElem] at hf
  obtain ⟨hn,h1,h2⟩:=hf
  have gd:∀ a (ha:a<l.length),l.getD a t0=l[a]:=fun a ha=>by rw [List.getD_eq_getElem?_getD,List.getElem?_eq_getElem ha];rfl
  simp only
  rw [if_neg (by omega),GR r l n (by omega) (fun a ha=>by
   have h3:=h2 a ha
   have h4:=hne a (by omega)
   rw [gd a (by omega)] at h4 ⊢
   simp only [decide_eq_true_eq] at h3
   omega) (fun _=>by
   rw [gd n hn]
   have:=of_decide_eq_true h1
   omega)]
theorem amL (x y:Int) (c:List (Int×Bool)):Us (.int .i64) .bool x (vL (.int .i64) .bool y true c) false=((y==x)||Us (.int .i64) .bool x c false):=by
 unfold Us
 rw [BN (hb:=ao9)]
 by_cases e:y=x
 ·subst e;simp [fC]
 ·have h1:fC (.int .i64) x y=false:=by simp [fC];exact fun h=>e h.symm
  rw [h1,show (y==x)=false by rw [beq_eq_false_iff_ne];exact e]
  simp
structure apc (l:List iw) (t:iw):Prop where
 light:p8 l
 len:l.length <= 9
 one:ze t /\ (t.2.2.2.1++t.2.2.2.2.1).length <= 900
theorem UA {k:Nat} (hk:20000 <= k) {l:List iw} {t:iw} (h:apc l t) {ap:Int} (hany:l.any (fun x=>x.1==t.1)=false):∀ (d n j:Nat),n+d=l.length -> d<j ->
  QB k j ap t.1 t.2.1 t.2.2.1 t.2.2.2.1 t.2.2.2.2.1 t.2.2.2.2.2 (l.take n) l (l.length:Int) (n:Int)=some ((if (allT (AU l t) ap).2≠0 then ([],[],(allT (AU l t) ap).2,()) else (AU l t,(allT (AU l t) ap).1,0,())),())
 | 0,n,j,h1,hj=>by
  obtain ⟨j',rfl⟩:∃ j',j=j'+1:=⟨j - 1,by omega⟩
  have hl:=h.len
  have hn:n=l.length:=by omega
  have hp:=YM t.1 l
  have hpl:=acD h.light (by omega) h.one
  have hpn:=U9 l t
  have jn:KO k ap t.1 t.2.1 t.2.2.1 t.2.2.2.1 t.2.2.2.2.1 t.2.2.2.2.2 l ((Vg t.1 l:Nat):Int)=some ((if (allT (AU l t) ap).2≠0 then ([],[],(allT (AU l t) ap).2,()) else (AU l t,(allT (AU l t) ap).1,0,())),()):=by
   unfold KO
   rw [show (t.1,t.2.1,t.2.2.1,t.2.2.2.1,t.2.2.2.2.1,t.2.2.2.2.2)=t from rfl,afP h.one.1,Option.bind_some]
   simp only
   rw [amJ hp (by omega),Option.bind_some]
   show (ah9 k (AU l t) ap).bind _=_
   rw [amI hk hpl (by omega),Option.bind_some]
   simp only
   by_cases he:(allT (AU l t) ap).2=0
   ·rw [he,if_neg (by simp)];rfl
   ·rw [if_pos he,show ((allT (AU l t) ap).2 != 0)=true by rw [bne_iff_ne];exact he,cond_true]
  have hidx:=amK hany
  rw [Vy,QA,Sd (by omega),hn,List.take_length]
  unfold aok
  have:=tq (fun j i=>JN k j l (t.1,t.2.1,t.2.2.1,t.2.2.2.1,t.2.2.2.2.1,t.2.2.2.2.2) (l.length:Int) i) l t0 (fun x:iw=>decide (x.1>t.1)) (fun j i hi=>by
   show JN k (j+1) l _ (l.length:Int) (i:Int)=_
   rw [ZO,Xi,Sc (by omega),Qo hi,Mi (by omega),Qp]
   unfold aoj
   rfl) (fun j=>by
   show JN k (j+1) l _ (l.length:Int) (l.length:Int)=_
   rw [ZO,Xi,Sd (by omega)]) k (by omega)
  rw [show JN k k l (t.1,t.2.1,t.2.2.1,t.2.2.2.1,t.2.2.2.2.1,t.2.2.2.2.2) (l.length:Int) 0=_ from this,Option.bind_some]
  simp only
  by_cases hi:pq (fun x:iw=>decide (x.1>t.1)) l<0
  ·rw [if_pos hi] at hidx
   rw [Sc hi,hidx];exact jn
  ·rw [if_neg hi] at hidx
   rw [Sd hi,hidx];exact jn
 | d+1,n,j,h1,hj=>by
  obtain ⟨j',rfl⟩:∃ j',j=j'+1:=⟨j - 1,by omega⟩
  have hl:=h.len
  have hn:n<l.length:=by omega
  have ht:=(h.light.2 _ (jl (z:=t0) hn)).1
  rw [Vy,QA,Sc (by omega),Qo hn,Qp,show l.getD n (0,0,0,[],[],[])=l.getD n t0 from rfl,afP ht,Option.bind_some]
  simp only
  rw [Rz (by simp only [List.length_take,List.length_cons,List.length_nil];omega),Mi (by omega),<- IY hn]
  exact UA hk h hany d (n+1) j' (by omega) (by omega)
theorem WG {k:Nat} (hk:20000 <= k) {l:List iw} {t:iw} (h:apc l t) {ap:Int}:∀ (d n j:Nat) (c:List (Int×Bool)),n+d=l.length -> d<j -> (Us (.int .i64) .bool t.1 c false=(l.take n).any (fun x=>x.1==t.1)) ->
  Xy k j l ap t.1 t.2.1 t.2.2.1 t.2.2.2.1 t.2.2.2.2.1 t.2.2.2.2.2 c l (l.length:Int) (n:Int)=some (((inT l t ap).1,(inT l t ap).2.1,(inT l t ap).2.2,()),())
 | 0,n,j,c,h1,hj,hc=>by
  obtain ⟨j',rfl⟩:∃ j',j=j'+1:=⟨j - 1,by omega⟩
  have hl:=h.len
  rw [aah,Xw,Sd (by omega),show (t.1,t.2.1,t.2.2.1,t.2.2.2.1,t.2.2.2.2.1,t.2.2.2.2.2)=t from rfl,YK (by omega) h.one.1,Option.bind_some,hc,List.take_of_length_le (by omega)]
  simp only
  unfold inT
  by_cases hz:FX t=0
  ·rw [if_neg (by omega),hz]
   simp only [bne_self_eq_false,cond_false]
   cases ha:l.any (fun x=>x.1==t.1) with
   | true=>rw [if_pos rfl,cond_true]
   | false =>
    rw [if_neg (by simp),cond_false]
    by_cases h8:8 <= l.length
    ·rw [if_pos h8,Sc (by omega)]
    ·rw [if_neg h8,Sd (by omega)]
     have:=UA hk h (ap:=ap) ha l.length 0 k (by omega) (by omega)
     rw [List.take_zero] at this
     refine Eq.trans this ?_
     split <;> rfl
  ·rw [if_pos hz,show (FX t != 0)=true by rw [bne_iff_ne];exact hz,cond_true]
 | d+1,n,j,c,h1,hj,hc=>by
  obtain ⟨j',rfl⟩:∃ j',j=j'+1:=⟨j - 1,by omega⟩
  have hl:=h.len
  have hn:n<l.length:=by omega
  rw [aah,Xw,Sc (by omega),Qo hn,Qp,show l.getD n (0,0,0,[],[],[])=l.getD n t0 from rfl,Mi (by omega)]
  refine WG hk h d (n+1) j' _ (by omega) (by omega) ?_
  rw [amL,hc,IY hn,List.any_append,List.any_cons,List.any_nil,Bool.or_false,Bool.or_comm]
theorem amM {k:Nat} (hk:20000 <= k) {l:List iw} {t:iw} (h:apc l t) (ap:Int):aot k l t ap=some (((inT l t ap).1,(inT l t ap).2.1,(inT l t ap).2.2,()),()):=by
 have hl:=h.len
 exact WG hk h l.length 0 k [] (by omega) (by omega) (by rw [List.take_zero];rfl)
def apd (l:List iw):Prop:=∀ a b,a<b -> b<l.length -> (l.getD a t0).1<(l.getD b t0).1
theorem agW {l:List iw} (h:F6 l=true):apd l:=fun a b hab hb=>by
 rw [row_iff] at h
 induction b with
 | zero=>omega
 | succ b ih =>
  have h1:=(h (b+1) hb).2 (by omega)
  rw [show b+1 - 1=b by omega] at h1
  by_cases e:a=b
  ·rw [e];exact h1
  ·have:=ih (by omega) (by omega);omega
structure Emb (s l:List iw) (f:Nat -> Nat):Prop where
 lt:∀ a,a<s.length -> f a<l.length
 eq:∀ a,a<s.length -> s.getD a t0=l.getD (f a) t0
 mono:∀ a b,a<b -> b<s.length -> f a<f b
theorem WH {a b c:Int}:mx a b <= c↔a <= c /\ b <= c:=by unfold mx;split <;> omega
theorem K4 {l:List iw} {i b:Int}:∀ (sp:List (Int×Int)) (m:Int),spF l i m sp <= b↔m <= b /\ ∀ e∈sp,uz l e.1 <= i -> e.2 <= b
 | [],m=>by simp [spF]
 | e::r,m=>by
  rw [spF,K4 r]
  simp only [List.mem_cons,forall_eq_or_imp]
  by_cases h:uz l e.1 <= i
  ·rw [decide_eq_true h,cond_true,WH]
   exact ⟨fun q=>⟨q.1.1,fun _=>q.1.2,q.2⟩,fun q=>⟨⟨q.1,q.2.1 h⟩,q.2.2⟩⟩
  ·rw [decide_eq_false h,cond_false]
   exact ⟨fun q=>⟨q.1,fun h2=>absurd h2 h,q.2⟩,fun q=>⟨q.1,q.2.2⟩⟩
theorem K5 {l:List iw} {i b:Int}:∀ (r:List iw) (n:Nat) (m:Int),byG l i r n m <= b↔m <= b /\ ∀ j,j<r.length -> ((n+j:Nat):Int)≠i -> ∀ e∈(ng (r.getD j t0)).2.2,uz l e.1 <= i -> e.2 <= b
 | [],n,m=>by simp [byG]
 | t::r,n,m=>by
  rw [byG,K5 r]
  constructor
  ·intro ⟨h1,h2⟩
   cases hc:((n:Int)==i) with
   | true =>
    rw [hc,cond_true] at h1
    refine ⟨h1,fun j hj hne=>?_⟩
    cases j with
    | zero=>exact absurd (eq_of_beq hc) hne
    | succ j=>exact h2 j (by simpa using hj) (by rw [show n+1+j=n+(j+1) by omega];exact hne)
   | false =>
    rw [hc,cond_false,K4] at h1
    refine ⟨h1.1,fun j hj hne=>?_⟩
    cases j with
    | zero=>exact h1.2
    | succ j=>exact h2 j (by simpa using hj) (by rw [show n+1+j=n+(j+1) by omega];exact hne)
  ·intro ⟨h1,h2⟩
   refine ⟨?_,fun j hj hne=>h2 (j+1) (by simpa using hj) (by rw [show n+(j+1)=n+1+j by omega];exact hne)⟩
   cases hc:((n:Int)==i) with
   | true=>exact h1
   | false =>
    rw [cond_false,K4]
    exact ⟨h1,h2 0 (by simp) (by rw [beq_eq_false_iff_ne] at hc;exact hc)⟩
theorem F8 {b:Int}:∀ (r:List iw) (m:Int),u6 m r <= b↔m <= b /\ ∀ t∈r,(ng t).2.1 <= b
 | [],m=>by simp [u6]
 | t::r,m=>by
  rw [u6,F8 r,WH]
  simp only [List.mem_cons,forall_eq_or_imp]
  exact and_assoc
theorem LM (x:Int):∀ a b:List (Int×Int),yt x (a++b)=yt x a+yt x b
 | [],b=>by simp [yt]
 | p::a,b=>by rw [List.cons_append,yt,yt,LM x a b];omega
section
variable {s l:List iw} {f:Nat -> Nat} (h:Emb s l f)
include h
theorem Emb.ceil {i:Nat} (hi:i<s.length) (h8:s.length <= 8) {e:Int} (hc:uz s e <= (i:Int)):uz l e <= ((f i:Nat):Int):=by
 unfold uz at hc ⊢
 rcases U1 e s 0 with ⟨q,_⟩ | ⟨n,hn,q,hl⟩
 ·omega
 ·rw [h.eq n hn] at hl
  have:=abr e l 0 (f n) (h.lt n hn) hl
  have h2:f n <= f i:=by
   by_cases e:n=i
   ·rw [e];exact Nat.le_refl _
   ·exact Nat.le_of_lt (h.mono n i (by omega) hi)
  omega
theorem Emb.by {i:Nat} (hi:i<s.length) (h8:s.length <= 8):byT s (i:Int) <= byT l ((f i:Nat):Int):=by
 unfold byT
 rw [K5]
 obtain ⟨h1,h2⟩:=(K5 (l:=l) (i:=((f i:Nat):Int)) l 0 0).1 (Int.le_refl _)
 refine ⟨h1,fun j hj hne e he hc=>?_⟩
 rw [Nat.zero_add] at hne
 have asl:f j≠f i:=by
  rcases Nat.lt_or_gt_of_ne (show j≠i from fun e=>hne (by rw [e])) with q | q
  ·exact Nat.ne_of_lt (h.mono j i q hi)
  ·exact Nat.ne_of_gt (h.mono i j q hj)
 exact h2 (f j) (h.lt j hj) (by rw [Nat.zero_add];omega) e (by rw [<- h.eq j hj];exact he) (h.ceil hi h8 hc)
theorem Emb.lost {i:Nat} (hi:i<s.length):u6 0 (s.take (i+1)) <= u6 0 (l.take (f i+1)):=by
 rw [F8]
 obtain ⟨h1,h2⟩:=(F8 (l.take (f i+1)) 0).1 (Int.le_refl _)
 refine ⟨h1,fun t ht=>h2 t ?_⟩
 obtain ⟨a,ha,e⟩:=List.mem_iff_getElem.1 ht
 rw [List.length_take] at ha
 have e1:t=s.getD a t0:=by rw [<- e,List.getElem_take,List.getD_eq_getElem?_getD,List.getElem?_eq_getElem (by omega)];rfl
 have hfa:f a <= f i:=by
  by_cases e:a=i
  ·rw [e];exact Nat.le_refl _
  ·exact Nat.le_of_lt (h.mono a i (by omega) hi)
 have hla:=h.lt a (by omega)
 rw [e1,h.eq a (by omega)]
 rw [List.getD_eq_getElem?_getD,List.getElem?_eq_getElem hla,List.mem_iff_getElem]
 exact ⟨f a,by rw [List.length_take];omega,by rw [List.getElem_take];rfl⟩
theorem Emb.sum (hco:∀ t∈l,CoS t) {x:Int} (hx:0 <= x):∀ a,a <= s.length -> ∀ n,n <= l.length -> (∀ b,b<a -> f b<n) -> yt x ((s.take a).map pc1) <= yt x ((l.take n).map pc1)
 | 0,_,n,hn,_=>by
  rw [List.take_zero]
  exact AQ hx (fun y hy=>by
   obtain ⟨t,ht,rfl⟩:=List.mem_map.1 hy
   have q:=hco t (List.mem_of_mem_take ht)
   have:=q.cost;have:=q.per
   unfold pc1;simp only;omega)
 | a+1,ha,n,hn,hb=>by
  have hfa:=hb a (by omega)
  have hla:f a<l.length:=h.lt a (by omega)
  have ih:=Emb.sum hco hx a (by omega) (f a) (by omega) (fun b hb=>h.mono b a hb (by omega))
  rw [IY (show a<s.length by omega),List.map_append,LM,h.eq a (by omega)]
  have e:l.take n=l.take (f a)++[l.getD (f a) t0]++(l.take n).drop (f a+1):=by
   rw [<- IY hla]
   have:=(List.take_append_drop (f a+1) (l.take n)).symm
   rwa [List.take_take,Nat.min_eq_left (by omega)] at this
  rw [e,List.map_append,List.map_append,LM,LM]
  have:0 <= yt x (((l.take n).drop (f a+1)).map pc1):=AQ hx (fun y hy=>by
   obtain ⟨t,ht,rfl⟩:=List.mem_map.1 hy
   have q:=hco t (List.mem_of_mem_take (List.mem_of_mem_drop ht))
   have:=q.cost;have:=q.per
   unfold pc1;simp only;omega)
  omega
theorem Emb.right (hco:RS l) {i:Nat} (hi:i<s.length) (h8:s.length <= 8) {ap x:Int} (ha:1 <= ap) (hx:0 <= x):firstT s i <= firstT l (f i) /\ u7 s i ap x <= u7 l (f i) ap x:=by
 have h1:=h.by hi h8
 have h2:=h.lost hi
 have h3:=h.sum hco.co hx i (by omega) (f i) (Nat.le_of_lt (h.lt i hi)) (fun b hb=>h.mono b i hb hi)
 have h4:=Int.mul_le_mul_of_nonneg_left h2 (Wz hx ha).1
 have hf:firstT s i <= firstT l (f i):=by unfold firstT;rw [h.eq i hi];omega
 refine ⟨hf,?_⟩
 unfold u7;omega
theorem Emb.row (hr:F6 l=true):F6 s=true:=by
 have hri:=agW hr
 rw [row_iff] at hr ⊢
 intro n hn
 rw [h.eq n hn]
 refine ⟨(hr _ (h.lt n hn)).1,fun h0=>?_⟩
 rw [h.eq (n - 1) (by omega)]
 exact hri _ _ (h.mono (n - 1) n (by omega) hn) (h.lt n hn)
theorem Emb.light (hL:p8 l) (hs:s.length <= 100):p8 s:=⟨hs,fun t ht=>by
 obtain ⟨a,ha,e⟩:=List.mem_iff_getElem.1 ht
 have e1:t=s.getD a t0:=by rw [<- e,List.getD_eq_getElem?_getD,List.getElem?_eq_getElem ha];rfl
 rw [e1,h.eq a ha]
 exact hL.2 _ (jl (h.lt a ha))⟩
theorem Emb.resp (hL:p8 l) (hl:l.length <= 10) (h8:s.length <= 8) {i:Nat} (hi:i<s.length) {ap:Int} (he:(l8 l ((f i:Nat):Int) ap).2.2=0):(l8 s (i:Int) ap).2.2=0 /\ (l8 s (i:Int) ap).1 <= (l8 l ((f i:Nat):Int) ap).1:=by
 obtain ⟨h1,h2,h3,h4,h5,h6,h7⟩:=aby hL hl he
 have hR:=U4 h1 hL hl
 have hs:=U4 (h.row h1) (h.light hL (by omega)) (by omega)
 obtain ⟨q1,q2⟩:=h.right hR hi h8 (ap:=ap) (x:=(l8 l ((f i:Nat):Int) ap).1) h3 (by omega)
 exact abx (h.row h1) hs hi h3 (by omega) (by omega) (by rw [h.eq i hi];exact h6)
end
theorem afQ {l:List iw} {ap:Int}:∀ (d i:Nat) (out:List WC),(∀ a,i <= a -> a<i+d -> (l8 l (a:Int) ap).2.2=0) -> U8 l ap d i out=(out++(List.range' i d).map (iy l ap),0)
 | 0,i,out,_=>by rw [U8];simp
 | d+1,i,out,h=>by
  rw [U8,if_pos (h i (Nat.le_refl _) (by omega)),afQ d (i+1) _ (fun a h1 h2=>h a (by omega) (by omega)),List.range'_succ,List.map_cons,List.append_assoc];rfl
theorem WI {l:List iw} {ap:Int}:∀ (d i:Nat) (out:List WC),(U8 l ap d i out).2=0 -> ∀ a,i <= a -> a<i+d -> (l8 l (a:Int) ap).2.2=0
 | 0,i,out,_,a,h1,h2=>by omega
 | d+1,i,out,h,a,h1,h2=>by
  rw [U8] at h
  by_cases he:(l8 l (i:Int) ap).2.2=0
  ·rw [if_pos he] at h
   by_cases e:a=i
   ·rw [e];exact he
   ·exact WI d (i+1) _ h a (by omega) (by omega)
  ·rw [if_neg he] at h;exact absurd h he
theorem afR {l:List iw} {ap:Int} (ha:1 <= ap) (h:∀ i,i<l.length -> (l8 l (i:Int) ap).2.2=0):allT l ap=((List.range l.length).map (iy l ap),0):=by
 unfold allT
 rw [if_neg (by omega),afQ l.length 0 [] (fun a _ h2=>h a (by omega)),List.nil_append,<- List.range_eq_range']
theorem WJ {l:List iw} {ap:Int} (h:(allT l ap).2=0):1 <= ap /\ ∀ i,i<l.length -> (l8 l (i:Int) ap).2.2=0:=by
 unfold allT at h
 by_cases ha:ap<1
 ·rw [if_pos ha] at h;exact absurd h (by decide)
 ·rw [if_neg ha] at h
  exact ⟨by omega,fun i hi=>WI l.length 0 [] h i (by omega) (by omega)⟩
theorem Emb.all {s l:List iw} {f:Nat -> Nat} (h:Emb s l f) (hL:p8 l) (hl:l.length <= 10) (h8:s.length <= 8) {ap:Int} (he:(allT l ap).2=0):allT s ap=((List.range s.length).map (iy s ap),0):=by
 obtain ⟨h1,h2⟩:=WJ he
 exact afR h1 (fun i hi=>(h.resp hL hl h8 hi (h2 _ (h.lt i hi))).1)
theorem ape {l:List iw} {t:iw} {ap:Int} (h:(inT l t ap).2.2=0):(inT l t ap).1=AU l t /\ (inT l t ap).2.1=(allT (AU l t) ap).1 /\ (allT (AU l t) ap).2=0 /\ l.any (fun x=>x.1==t.1)=false:=by
 unfold inT at h ⊢
 split at h
 ·rename_i q;exact absurd h q
 ·rename_i q
  rw [if_neg q]
  split at h
  ·exact absurd h (by decide)
  ·rename_i q2
   rw [if_neg q2]
   split at h
   ·exact absurd h (by decide)
   ·rename_i q3
    rw [if_neg q3]
    split at h
    ·rename_i q4;exact absurd h q4
    ·rename_i q4
     rw [if_neg q4]
     exact ⟨rfl,rfl,by simpa using q4,Bool.eq_false_iff.2 q2⟩
abbrev jc:Type:=Int×Int×Int×Int×gy×gy×List Int×Bool
abbrev jd:Type:=Int×Int×List iw×List WC×Bool×Bool×Bool×List jc×Tb×List Int×List Bool
abbrev je:Type:=PN Int 6
abbrev jf:Type:=Int×Int
abbrev s0:jf:=(0,0)
abbrev bd0:WC:=Qn (α:=Int) 5 0
theorem afS {α:Type} (p:α -> Bool) (x:α):[x].filter p=bif p x then [x] else []:=by rw [List.filter_cons];cases p x <;> rfl
theorem IZ {k:Nat} {xs:List I4} (h:xs.length <= 900):RP k xs=some ((xs,()),()):=by
 unfold RP;exact Ll (by omega)
theorem amN {k:Nat} {xs:List iw} (h:xs.length <= 900):aou k xs=some ((xs,()),()):=by
 unfold aou;exact Ll (by omega)
theorem agX {k:Nat} {xs:List WC} (h:xs.length <= 900):aov k xs=some ((xs,()),()):=by
 unfold aov;exact Ll (by omega)
theorem apf {k:Nat} {xs:List jc} (h:xs.length <= 900):aow k xs=some ((xs,()),()):=by
 unfold aow;exact Ll (by omega)
theorem acE {k:Nat} {xs:List gu} (h:xs.length <= 900):ab0 k xs=some ((xs,()),()):=by
 unfold ab0;exact Ll (by omega)
theorem UC {k:Nat} {xs:List Int} (h:xs.length <= 900):G9 k xs=some ((xs,()),()):=by
 unfold G9;exact Ll (by omega)
theorem YO {k:Nat} {xs:List Bool} (h:xs.length <= 900):V7 k xs=some ((xs,()),()):=by
 unfold V7;exact Ll (by omega)
theorem YP {k:Nat} {xs:List jf} (h:xs.length <= 900):ai1 k xs=some ((xs,()),()):=by
 unfold ai1;exact Ll (by omega)
theorem GU {α:Type} {l:List α} {n:Nat} {z:α}:l.set n (l.getD n z)=l:=by
 by_cases h:n<l.length
 ·rw [getD_in h];exact List.set_getElem_self h
 ·exact List.set_eq_of_length_le (by omega)
def BG (l:List Int) (s:Int):List Int:=l.filter (fun x=>!(x==s))
theorem YQ {k:Nat} {l:List Int} {s:Int} (hl:l.length <= 900):∀ (m e j c:Nat) (a:List Int),e+m=l.length -> m<j -> a.length=l.length -> c <= e -> a.take c=BG (l.take e) s -> a.drop e=l.drop e ->
  XA k j a s (c:Int) (e:Int)=some ((BG l s,()),())
 | 0,e,j,c,a,he,hj,ha,hc,h1,h2=>by
  obtain ⟨j,rfl⟩:∃ i,j=i+1:=⟨j - 1,by omega⟩
  have hcl:(Uy a (c:Int) (a.length:Int) 0).length=a.length:=by simp [Uy];omega
  rw [aaj,Xz,Sd (by omega),Rx (by omega) (by omega) (by omega),Rx (by omega) (by omega) (by omega)]
  have h1:a.take c=BG l s:=by rw [h1,List.take_of_length_le (by omega)]
  rw [<- h1]
  unfold Uy
  simp only [Int.toNat_natCast]
  rw [List.append_assoc,List.take_append_of_le_length (by simp;omega),List.take_take,Nat.min_self]
 | m+1,e,j,c,a,he,hj,ha,hc,h1,h2=>by
  obtain ⟨j,rfl⟩:∃ i,j=i+1:=⟨j - 1,by omega⟩
  have hea:e<a.length:=by omega
  have hg:a.getD e 0=l.getD e 0 /\ a.drop (e+1)=l.drop (e+1):=by
   rw [drop_cons 0 hea,drop_cons (l:=l) 0 (by omega)] at h2
   injection h2 with p q;exact ⟨p,q⟩
  have ht:l.take (e+1)=l.take e++[l.getD e 0]:=by rw [List.take_succ_eq_append_getElem (by omega),getD_in (by omega)]
  rw [aaj,Xz,Sc (by omega),Qo hea,Qp]
  unfold aic
  rw [Option.bind_some,Mi (by omega),Mi (by omega),hg.1]
  simp only
  cases hs:l.getD e 0==s with
  | true =>
   simp only [Bool.not_true,cond_false]
   exact YQ hl m (e+1) j c a (by omega) (by omega) ha (by omega) (by rw [h1,ht];unfold BG;rw [List.filter_append,afS,hs];simp) hg.2
  | false =>
   simp only [Bool.not_false,cond_true]
   rw [Qo (by omega),Mj]
   refine YQ hl m (e+1) j (c+1) (a.set c (l.getD e 0)) (by omega) (by omega) (by rw [List.length_set];exact ha) (by omega) ?_ (by rw [List.drop_set_of_lt (by omega)];exact hg.2)
   rw [List.take_succ_eq_append_getElem (by rw [List.length_set];omega),List.take_set_of_le (by omega),h1,ht,List.getElem_set_self]
   unfold BG;rw [List.filter_append,afS,hs];simp
theorem amO {k:Nat} (hk:1000 <= k) {l:List Int} (hl:l.length <= 900) (s:Int):ald k l s=some ((BG l s,()),()):=by
 have hi:adB k l s=some ((pq (fun x=>x==s) l,()),()):=by
  unfold adB
  refine tq (fun j i=>I6 k j l s (l.length:Int) i) l 0 _ (fun j i hi=>?_) (fun j=>?_) k (by omega)
  ·show I6 k (j+1) l s (l.length:Int) (i:Int)=_
   rw [Vz,QC,Sc (by omega),Qo hi,Mi (by omega),Qp]
   unfold aic;rfl
  ·show I6 k (j+1) l s (l.length:Int) (l.length:Int)=_
   rw [Vz,QC,Sd (by omega)]
 unfold ald
 rw [hi,Option.bind_some]
 simp only
 unfold pq
 cases hf:l.findIdx? (fun x=>x==s) with
 | none =>
  simp only
  rw [show ((-1:Int)==-1)=true from rfl,cond_true]
  unfold BG
  rw [List.findIdx?_eq_none_iff] at hf
  rw [List.filter_eq_self.2 (fun x hx=>by rw [hf x hx];rfl)]
 | some n =>
  simp only
  rw [List.findIdx?_eq_some_iff_getElem] at hf
  obtain ⟨hn,h1,h2⟩:=hf
  rw [beq_eq_false_iff_ne.2 (by omega),cond_false,Mi (by omega)]
  have hp:∀ x∈l.take n,(!(x==s))=true:=fun x hx=>by
   obtain ⟨i,hi,e⟩:=List.mem_iff_getElem.1 hx
   rw [List.length_take] at hi
   rw [List.getElem_take] at e
   have:=h2 i (by omega)
   rw [e] at this;simpa using this
  refine YQ hl (l.length - (n+1)) (n+1) k n l (by omega) (by omega) rfl (by omega) ?_ rfl
  unfold BG
  rw [List.take_succ_eq_append_getElem hn,List.filter_append,List.filter_eq_self.2 hp,afS,h1]
  simp
theorem acF {l:List Int} (h:∀ x∈l,0 <= x):BG l (-1)=l:=List.filter_eq_self.2 (fun x hx=>by have:=h x hx;rw [beq_eq_false_iff_ne.2 (by omega)];rfl)
structure JS (j:jc):Prop where
 m:j.2.2.2.2.1.2.2.1.length <= 100
 kept:j.2.2.2.2.2.1.2.2.1.length <= 100
 held:j.2.2.2.2.2.2.1.length <= 100
 pos:∀ x∈j.2.2.2.2.2.2.1,0 <= x
def x9 (j:jc) (s:Int):jc:=w6 j (BG j.2.2.2.2.2.2.1 s)
theorem YR {k:Nat} (hk:1000 <= k) {j:jc} (h:JS j) (s:Int):agr k j s=some ((x9 j s,()),()):=by
 have h1:=h.m
 have h2:=h.kept
 have h3:=h.held
 unfold agr
 rw [acE (by omega),Option.bind_some,acE (by omega),Option.bind_some,UC (by omega),Option.bind_some]
 simp only
 rw [amO hk (by omega),Option.bind_some]
 rfl
theorem UD {j:jc} (h:JS j):x9 j (-1)=j:=by unfold x9;rw [acF h.pos];rfl
theorem agY {k:Nat} {w:List Int×List Bool} (h1:w.1.length <= 900) (h2:w.2.length <= 900):ab4 k w (-1)=some ((w,()),()):=by
 unfold ab4 ags
 rw [UC h1,Option.bind_some,YO h2,Option.bind_some,Option.bind_some]
 rfl
theorem aks {k:Nat} (hk:1000 <= k) {T:Tb} (hT:uy T):J5 k T (-1) j3=some ((T,()),()):=by
 rw [IX hk hT afB];rfl
structure KS (K:jd):Prop where
 tasks:p8 K.2.2.1
 bounds:K.2.2.2.1.length <= 900
 jobs:K.2.2.2.2.2.2.2.1.length <= 800
 job:∀ j∈K.2.2.2.2.2.2.2.1,JS j
 tab:uy K.2.2.2.2.2.2.2.2.1
 rows:K.2.2.2.2.2.2.2.2.2.1.length <= 900
 off:K.2.2.2.2.2.2.2.2.2.2.length <= 900
theorem abz {k:Nat} (hk:1000 <= k) {K:jd} (h:KS K) {b c:Int} {e f g:Bool}:∀ (m i j:Nat),i+m=K.2.2.2.2.2.2.2.1.length -> m<j ->
  adJ k j K b c e f g (K.2.2.2.2.2.2.2.1.length:Int) (i:Int)=some ((K,()),())
 | 0,i,j,hi,hj=>by
  obtain ⟨j,rfl⟩:∃ i,j=i+1:=⟨j - 1,by omega⟩
  rw [adK,adI,Sd (by omega),aks hk h.tab,Option.bind_some,agY h.rows h.off,Option.bind_some]
  rfl
 | m+1,i,j,hi,hj=>by
  obtain ⟨j,rfl⟩:∃ i,j=i+1:=⟨j - 1,by omega⟩
  have hi':i<K.2.2.2.2.2.2.2.1.length:=by omega
  have hjs:=h.job _ (jl (z:=ay) hi')
  have hl:=h.jobs
  rw [adK,adI,Sc (by omega),Qo hi',Qp,YR hk hjs,Option.bind_some,Qo hi',Mj,Mi (by omega)]
  simp only
  rw [UD hjs,GU]
  exact abz hk h m (i+1) j (by omega) (by omega)
theorem abA {k:Nat} (hk:1000 <= k) {K:jd} (h:KS K) {b c:Int} {e f g:Bool}:∀ (m i j:Nat),i+m=K.2.2.1.length -> m<j ->
  adM k j K b c e f g (K.2.2.1.length:Int) (i:Int)=some ((K,()),())
 | 0,i,j,hi,hj=>by
  obtain ⟨j,rfl⟩:∃ i,j=i+1:=⟨j - 1,by omega⟩
  have:=h.jobs
  rw [adN,adL,Sd (by omega)]
  exact abz hk h K.2.2.2.2.2.2.2.1.length 0 k (by omega) (by omega)
 | m+1,i,j,hi,hj=>by
  obtain ⟨j,rfl⟩:∃ i,j=i+1:=⟨j - 1,by omega⟩
  have hi':i<K.2.2.1.length:=by omega
  have ht:=h.tasks
  have hl:=(ht.2 _ (jl (z:=bg) hi')).1
  have hw:∀ t:iw,w3 t t.2.2.2.1=t /\ w4 t t.2.2.2.2.1=t /\ z5 t t.2.2.2.2.2=t:=fun t=>⟨rfl,rfl,rfl⟩
  have h1:=ht.1
  rw [adN,adL,Sc (by omega),Qo hi',Qp,IZ hl.1,Option.bind_some,IZ hl.2.1,Option.bind_some,IZ hl.2.2,Option.bind_some]
  simp only [Mj,(hw _).1,(hw _).2.1,GU,Qo hi',Qp,(hw _).2.2,Mi (show i<9223372036854775807 by omega)]
  exact abA hk h m (i+1) j (by omega) (by omega)
theorem UE {k:Nat} (hk:1000 <= k) {K:jd} (h:KS K):S56 k K=some ((K,()),()):=by
 have h1:=h.tasks.1
 have h2:=h.jobs
 unfold S56
 rw [amN (by omega),Option.bind_some,agX h.bounds,Option.bind_some,apf (by omega),Option.bind_some]
 exact abA hk h K.2.2.1.length 0 k (by omega) (by omega)
def isS (T:Tb) (i:Nat):Bool:=(T.2.getD i j3).1==1
def jm (T:Tb):List Nat:=(List.range T.2.length).filter (isS T)
def ou (l:List Nat):List Int:=l.map Int.ofNat
theorem qj (l:List Nat):(ou l).length=l.length:=by unfold ou;exact List.length_map _
theorem afT {l:List Nat} {i:Nat} (h:i<l.length):rd (ou l) (i:Int) 0=((l.getD i 0:Nat):Int):=by
 rw [Qp,getD_in (by rw [qj];exact h),getD_in h];simp [ou]
theorem sj {T:Tb} {a:Nat}:a∈jm T↔a<T.2.length /\ (T.2.getD a j3).1=1:=by
 unfold jm isS;rw [List.mem_filter,List.mem_range,beq_iff_eq]
theorem uh (T:Tb):(jm T).length <= T.2.length:=by
 have:=List.length_filter_le (isS T) (List.range T.2.length)
 rw [List.length_range] at this;exact this
theorem abB (T:Tb):(jm T).Nodup:=List.Pairwise.filter _ List.nodup_range
theorem PI {T T2:Tb} (hl:T2.2.length=T.2.length) (h:∀ i,i<T.2.length -> (T2.2.getD i j3).1=(T.2.getD i j3).1):jm T2=jm T:=by
 unfold jm
 rw [hl]
 exact List.filter_congr (fun i hi=>by unfold isS;rw [h i (List.mem_range.1 hi)])
theorem abC {k:Nat} {T:Tb} (hT:T.2.length <= 100):∀ (m i j:Nat),i+m=T.2.length -> m<j -> XP k j (ou ((List.range i).filter (isS T))) T.2 (T.2.length:Int) (i:Int)=some ((ou (jm T),()),())
 | 0,i,j,hi,hj=>by
  obtain ⟨j,rfl⟩:∃ i,j=i+1:=⟨j - 1,by omega⟩
  rw [aay,XO,Sd (by omega),show i=T.2.length by omega];rfl
 | m+1,i,j,hi,hj=>by
  obtain ⟨j,rfl⟩:∃ i,j=i+1:=⟨j - 1,by omega⟩
  have ih:=abC (k:=k) hT m (i+1) j (by omega) (by omega)
  rw [List.range_succ,List.filter_append,afS] at ih
  have hn:(ou ((List.range i).filter (isS T))).length <= 100:=by
   have:=List.length_filter_le (isS T) (List.range i)
   rw [List.length_range] at this;rw [qj];omega
  rw [aay,XO,Sc (by omega),Qo (by omega),Qp,Mi (by omega)]
  unfold isS at ih hn ⊢
  cases hs:(T.2.getD i j3).1==1 with
  | true =>
   rw [hs] at ih
   rw [cond_true,Rz (by simp only [List.length_cons,List.length_nil];omega)]
   simpa [ou] using ih
  | false =>
   rw [hs] at ih
   rw [cond_false]
   simpa [ou] using ih
theorem LP {k:Nat} (hk:1000 <= k) {T:Tb} (hT:T.2.length <= 100):aaz k T=some ((ou (jm T),()),()):=by
 unfold aaz
 exact abC hT T.2.length 0 k (by omega) (by omega)
def jr (T:Tb):List jf:=(jm T).map (fun i=>(T.2.getD i j3).2.2.1)
theorem vo (T:Tb):(jr T).length=(jm T).length:=by unfold jr;exact List.length_map _
theorem K6 {k:Nat} (hk:1000 <= k) {K:jd} (hT:K.2.2.2.2.2.2.2.2.1.2.length <= 100):S48 k K=some ((jr K.2.2.2.2.2.2.2.2.1,()),()):=by
 have hn:=uh K.2.2.2.2.2.2.2.2.1
 unfold S48
 rw [LP hk hT,Option.bind_some]
 have key:∀ (m i j:Nat),i+m=(jm K.2.2.2.2.2.2.2.2.1).length -> m<j -> adT k j K ((jr K.2.2.2.2.2.2.2.2.1).take i) (ou (jm K.2.2.2.2.2.2.2.2.1)) ((ou (jm K.2.2.2.2.2.2.2.2.1)).length:Int) (i:Int)=some ((jr K.2.2.2.2.2.2.2.2.1,()),()):=by
  intro m
  induction m with
  | zero =>
   intro i j hi hj
   obtain ⟨j,rfl⟩:∃ i,j=i+1:=⟨j - 1,by omega⟩
   rw [adU,adS,Sd (by rw [qj];omega),List.take_of_length_le (by rw [vo];omega)]
  | succ m ih =>
   intro i j hi hj
   obtain ⟨j,rfl⟩:∃ i,j=i+1:=⟨j - 1,by omega⟩
   have hi':i<(jm K.2.2.2.2.2.2.2.2.1).length:=by omega
   have hm:=sj.1 (jl (z:=0) hi')
   rw [adU,adS,Sc (by rw [qj];omega),Qo (by rw [qj];omega),afT hi',Qo hm.1,Qp,Rz (by simp only [List.length_cons,List.length_nil,List.length_take];omega),Mi (by omega)]
   have e:(jr K.2.2.2.2.2.2.2.2.1).take i++[(K.2.2.2.2.2.2.2.2.1.2.getD ((jm K.2.2.2.2.2.2.2.2.1).getD i 0) bf).2.2.1]=(jr K.2.2.2.2.2.2.2.2.1).take (i+1):=by
    rw [List.take_succ_eq_append_getElem (by rw [vo];exact hi')]
    unfold jr
    rw [List.getElem_map,getD_in hi']
   rw [e]
   exact ih (i+1) j (by omega) (by omega)
 have:=key (jm K.2.2.2.2.2.2.2.2.1).length 0 k (by omega) (by omega)
 rwa [List.take_zero] at this
def setSm (x:Th) (s:jf):Th:=(x.1,x.2.1,s,x.2.2.2)
noncomputable def BH (k:Nat) (l:List jf) (a i:Nat) (T:Tb):Tb:=if i<l.length /\ (T.2.getD a j3).2.2.1≠l.getD i s0 then EZ k T (a:Int) (setSm (T.2.getD a j3) (l.getD i s0)) else T
noncomputable def FU (k:Nat) (l:List jf):List Nat -> Nat -> Tb -> Tb
 | [],_,T=>T
 | a::r,i,T=>FU k l r (i+1) (BH k l a i T)
noncomputable def zm (k:Nat) (T:Tb) (l:List jf):Tb:=FU k l (jm T) 0 T
noncomputable def GV (k:Nat) (K:jd) (l:List jf):jd:=w8 K (zm k K.2.2.2.2.2.2.2.2.1 l)
theorem an7 {T:Tb} (h:uy T) (a:Nat):Wo (T.2.getD a j3):=by
 by_cases ha:a<T.2.length
 ·exact h.2 _ (jl ha)
 ·rw [DT (by omega)];exact afB
theorem UF {k:Nat} {l:List jf} {a i:Nat} {T:Tb} (h:uy T) (ha:a<T.2.length):uy (BH k l a i T) /\ (BH k l a i T).2.length=T.2.length /\ (BH k l a i T).1=T.1 /\
  ∀ b,((BH k l a i T).2.getD b j3).1=(T.2.getD b j3).1 /\ (b≠a -> (BH k l a i T).2.getD b j3=T.2.getD b j3):=by
 unfold BH
 split
 ·refine ⟨U0 h (an7 h a),afF,by unfold EZ;split <;> rfl,fun b=>?_⟩
  rw [QT ha]
  split
  ·rename_i q
   refine ⟨?_,fun e=>absurd q.1.symm e⟩
   rw [<- q.1];unfold YJ ug;split <;> rfl
  ·exact ⟨rfl,fun _=>rfl⟩
 ·exact ⟨h,rfl,rfl,fun b=>⟨rfl,fun _=>rfl⟩⟩
theorem LQ {R:Type} {k:Nat} (hk:1000 <= k) {l:List jf} (hl:l.length <= 900) {L:Nat -> jd -> Int -> Option R} {fin:jd -> Option R} {c:List Nat} (hc:c.length <= 100)
  (hs:∀ j K (i:Nat),i<c.length -> L (j+1) K (i:Int)=ix (ou c) (i:Int) (ix K.2.2.2.2.2.2.2.2.1.2 (rd (ou c) (i:Int) 0) (bif decide ((i:Int)<(l.length:Int)) then ix l (i:Int) (bif !(fC HT (rd K.2.2.2.2.2.2.2.2.1.2 (rd (ou c) (i:Int) 0) bf).2.2.1 (rd l (i:Int) (0,0))) then ix l (i:Int) ((J5 k K.2.2.2.2.2.2.2.2.1 (rd (ou c) (i:Int) 0) ((rd K.2.2.2.2.2.2.2.2.1.2 (rd (ou c) (i:Int) 0) bf).1,(rd K.2.2.2.2.2.2.2.2.1.2 (rd (ou c) (i:Int) 0) bf).2.1,rd l (i:Int) (0,0),(rd K.2.2.2.2.2.2.2.2.1.2 (rd (ou c) (i:Int) 0) bf).2.2.2)).bind fun q=>L j (w8 K q.1.1) (IntKind.i64.wrap ((i:Int)+1))) else L j K (IntKind.i64.wrap ((i:Int)+1))) else L j K (IntKind.i64.wrap ((i:Int)+1)))))
  (he:∀ j K,L (j+1) K (c.length:Int)=fin K):∀ (m i j:Nat) (K:jd),i+m=c.length -> m<j -> uy K.2.2.2.2.2.2.2.2.1 -> (∀ a∈c,a<K.2.2.2.2.2.2.2.2.1.2.length) ->
  L j K (i:Int)=fin (w8 K (FU k l (c.drop i) i K.2.2.2.2.2.2.2.2.1))
 | 0,i,j,K,hi,hj,hT,ha=>by
  obtain ⟨j,rfl⟩:∃ i,j=i+1:=⟨j - 1,by omega⟩
  rw [show i=c.length by omega,he,List.drop_length];rfl
 | m+1,i,j,K,hi,hj,hT,ha=>by
  obtain ⟨j,rfl⟩:∃ i,j=i+1:=⟨j - 1,by omega⟩
  have hi':i<c.length:=by omega
  have hac:=ha _ (jl (z:=0) hi')
  have h1:=UF (k:=k) (l:=l) (i:=i) hT hac
  have ih:=LQ hk hl hc hs he m (i+1) j (w8 K (BH k l (c.getD i 0) i K.2.2.2.2.2.2.2.2.1)) (by omega) (by omega) h1.1 (fun a h=>by show a<(BH _ _ _ _ _).2.length;rw [h1.2.1];exact ha a h)
  rw [hs j K i hi',Qo (by rw [qj];exact hi'),afT hi',Qo hac,Mi (by omega),Qp,drop_cons 0 hi',FU]
  refine Eq.trans ?_ ih
  unfold BH
  by_cases q:i<l.length
  ·rw [Sc (by omega),Qo q,Qo q,Qp]
   by_cases q2:(K.2.2.2.2.2.2.2.2.1.2.getD (c.getD i 0) j3).2.2.1=l.getD i s0
   ·rw [if_neg (fun h=>h.2 q2),show fC HT (K.2.2.2.2.2.2.2.2.1.2.getD (c.getD i 0) bf).2.2.1 (l.getD i (0,0))=true from (LH _ _).2 q2]
    rfl
   ·rw [if_pos ⟨q,q2⟩,show fC HT (K.2.2.2.2.2.2.2.2.1.2.getD (c.getD i 0) bf).2.2.1 (l.getD i (0,0))=false from by rw [Bool.eq_false_iff];exact fun h=>q2 ((LH _ _).1 h)]
    simp only [Bool.not_false,cond_true]
    have e:=IX hk (i:=((c.getD i 0:Nat):Int)) (x:=setSm (K.2.2.2.2.2.2.2.2.1.2.getD (c.getD i 0) j3) (l.getD i s0)) hT (an7 hT _)
    refine (congrArg (fun x=>Option.bind x _) e).trans ?_
    rfl
  ·rw [Sd (by omega),if_neg (fun h=>q h.1)];rfl
theorem apg {k:Nat} (hk:1000 <= k) {K:jd} (hT:uy K.2.2.2.2.2.2.2.2.1) {l:List jf} (hl:l.length <= 900):S61 k K l=some ((),J4 (GV k K l),()):=by
 have hn:=uh K.2.2.2.2.2.2.2.2.1
 have h3:=hT.1.2.2
 unfold S61
 rw [LP hk h3,Option.bind_some]
 exact LQ hk hl (c:=jm K.2.2.2.2.2.2.2.2.1) (L:=fun j K' i=>VD k j K' l (ou (jm K.2.2.2.2.2.2.2.2.1)) ((ou (jm K.2.2.2.2.2.2.2.2.1)).length:Int) i) (fin:=fun K'=>some ((),J4 K',())) (by omega)
  (fun j K' i hi=>by
   show VD k (j+1) K' l _ _ (i:Int)=_
   rw [adY,adX,Sc (by rw [qj];omega)])
  (fun j K'=>by
   show VD k (j+1) K' l _ _ _=_
   rw [adY,adX,Sd (by rw [qj];omega)])
  (jm K.2.2.2.2.2.2.2.2.1).length 0 k K (by omega) (by omega) hT (fun a h=>(sj.1 h).1)
theorem amQ {k:Nat} (hk:1000 <= k) {u:jd×List je} (hT:uy u.1.2.2.2.2.2.2.2.2.1) {l:List jf} (hl:l.length <= 900):alq k u l=some ((),zh (GV k u.1 l,u.2),()):=by
 obtain ⟨K,ev⟩:=u
 have hn:=uh K.2.2.2.2.2.2.2.2.1
 have h3:K.2.2.2.2.2.2.2.2.1.2.length <= 100:=hT.1.2.2
 unfold alq
 rw [LP hk h3,Option.bind_some]
 exact LQ hk hl (c:=jm K.2.2.2.2.2.2.2.2.1) (L:=fun j K' i=>MS k j (K',ev) l (ou (jm K.2.2.2.2.2.2.2.2.1)) ((ou (jm K.2.2.2.2.2.2.2.2.1)).length:Int) i) (fin:=fun K'=>some ((),zh (K',ev),())) (by omega)
  (fun j K' i hi=>by
   show MS k (j+1) (K',ev) l _ _ (i:Int)=_
   rw [aaM,Y4,Sc (by rw [qj];omega)])
  (fun j K'=>by
   show MS k (j+1) (K',ev) l _ _ _=_
   rw [aaM,Y4,Sd (by rw [qj];omega)])
  (jm K.2.2.2.2.2.2.2.2.1).length 0 k K (by omega) (by omega) hT (fun a h=>(sj.1 h).1)
theorem YS {k:Nat} (hk:1000 <= k) {u:jd×List je} (hT:uy u.1.2.2.2.2.2.2.2.2.1) {l:List jf} (hl:l.length <= 900):agC k u l=some ((),zh (GV k u.1 l,u.2),()):=by
 obtain ⟨K,ev⟩:=u
 have hn:=uh K.2.2.2.2.2.2.2.2.1
 have h3:K.2.2.2.2.2.2.2.2.1.2.length <= 100:=hT.1.2.2
 unfold agC
 rw [LP hk h3,Option.bind_some]
 exact LQ hk hl (c:=jm K.2.2.2.2.2.2.2.2.1) (L:=fun j K' i=>MX k j (K',ev) l (ou (jm K.2.2.2.2.2.2.2.2.1)) ((ou (jm K.2.2.2.2.2.2.2.2.1)).length:Int) i) (fin:=fun K'=>some ((),zh (K',ev),())) (by omega)
  (fun j K' i hi=>by
   show MX k (j+1) (K',ev) l _ _ (i:Int)=_
   rw [aaT,Yc,Sc (by rw [qj];omega)])
  (fun j K'=>by
   show MX k (j+1) (K',ev) l _ _ _=_
   rw [aaT,Yc,Sd (by rw [qj];omega)])
  (jm K.2.2.2.2.2.2.2.2.1).length 0 k K (by omega) (by omega) hT (fun a h=>(sj.1 h).1)
abbrev jg:Type:=jd×List je
def j4 (u:jg) (e:je):jg:=(u.1,u.2++[(u.1.1,e.2)])
theorem QW {k:Nat} {u:jg} (he:u.2.length <= 1000000) (e:je):ace k u e=some ((),zh (j4 u e),()):=by
 unfold ace;rw [Rz (by simp only [List.length_cons,List.length_nil];omega)];rfl
theorem CK {k:Nat} {u:jg} (he:u.2.length <= 1000000) (e:je):JF k u e=some ((),zh (j4 u e),()):=by
 unfold JF;rw [Rz (by simp only [List.length_cons,List.length_nil];omega)];rfl
def holdsV (l:List jf) (s t:Int):Bool:=decide (0 <= s)&&(decide (s<(l.length:Int))&&(decide (0 <= t)&&(rd l s s0).2==t+1))
theorem YT {k:Nat} {l:List jf} {s t:Int} (ht:t <= 1000):agx k l s t=some ((holdsV l s t,()),()):=by
 unfold agx ai2 holdsV
 by_cases h1:s≥0
 ·rw [Sc h1,Option.bind_some,decide_eq_true (show 0 <= s from h1)]
  by_cases h2:s<(l.length:Int)
  ·rw [decide_eq_true h2]
   by_cases h3:t≥0
   ·simp only [cond_true]
    rw [Sc h3,Lj h1 h2,decide_eq_true (show 0 <= t from h3),Uu (by omega) (by omega)];rfl
   ·simp only [cond_true]
    rw [Sd h3,decide_eq_false (show ¬ 0 <= t from h3)];rfl
  ·rw [decide_eq_false h2];rfl
 ·rw [Sd h1,Option.bind_some,decide_eq_false (show ¬ 0 <= s from h1)];rfl
def acG (t:Int) (s:jf):jf:=bif decide (0 <= t)&&s.2==t+1 then (s.1,0) else s
def J8 (l:List jf) (t:Int):List jf:=l.map (acG t)
theorem LU {α:Type} {f:α -> α} {l:List α} {i:Nat} (z:α) (h:i<l.length):((l.take i).map f++l.drop i).set i (f (l.getD i z))=(l.take (i+1)).map f++l.drop (i+1):=by
 have e:i - ((l.take i).map f).length=0:=by simp;omega
 rw [List.set_append_right _ _ (by simp;omega),e,drop_cons z h,List.set_cons_zero,List.take_succ_eq_append_getElem h,List.map_append,List.append_assoc,getD_in h]
 rfl
theorem QX {α:Type} {f:α -> α} {l:List α} {i:Nat} (z:α) (h:i<l.length):((l.take i).map f++l.drop i).getD i z=l.getD i z:=by
 have e:i - ((l.take i).map f).length=0:=by simp;omega
 rw [lg (by simp;omega),e,drop_cons z h]
 rfl
theorem YU {α:Type} {f:α -> α} {l:List α} {i:Nat} (h:i <= l.length):((l.take i).map f++l.drop i).length=l.length:=by simp;omega
theorem UG {α:Type} {f:α -> α} {l:List α} {i:Nat} (z:α) (h:i<l.length) (e:f (l.getD i z)=l.getD i z):(l.take i).map f++l.drop i=(l.take (i+1)).map f++l.drop (i+1):=by
 rw [<- LU z h,e]
 have:=GU (l:=(l.take i).map f++l.drop i) (n:=i) (z:=z)
 rw [QX z h] at this;exact this.symm
theorem afU {k:Nat} (hk:1000 <= k) {l:List jf} (hl:l.length <= 900) {t:Int} (ht:t <= 1000):agy k l t=some ((J8 l t,()),()):=by
 have key:∀ (m i j:Nat),i+m=l.length -> m<j -> Y3 k j l t ((l.take i).map (acG t)++l.drop i) (l.length:Int) (i:Int)=some ((J8 l t,()),()):=by
  intro m
  induction m with
  | zero =>
   intro i j hi hj
   obtain ⟨j,rfl⟩:∃ i,j=i+1:=⟨j - 1,by omega⟩
   rw [aaL,Y2,Sd (by omega),drop_nil (by omega),List.take_of_length_le (by omega),List.append_nil];rfl
  | succ m ih =>
   intro i j hi hj
   obtain ⟨j,rfl⟩:∃ i,j=i+1:=⟨j - 1,by omega⟩
   have hi':i<l.length:=by omega
   have ih:=ih (i+1) j (by omega) (by omega)
   have hv:holdsV l (i:Int) t=(decide (0 <= t)&&(l.getD i s0).2==t+1):=by
    unfold holdsV
    rw [decide_eq_true (show (0:Int) <= (i:Int) by omega),decide_eq_true (show (i:Int)<(l.length:Int) by omega),Qp];rfl
   rw [aaL,Y2,Sc (by omega),YT ht,Option.bind_some,Mi (by omega),hv]
   simp only
   cases hb:decide (0 <= t)&&(l.getD i s0).2==t+1 with
   | true =>
    rw [cond_true,Qo (by rw [YU (by omega)];exact hi'),Mj,Qp,QX s0 hi',show ((l.getD i s0).1,(0:Int))=acG t (l.getD i s0) by unfold acG;rw [hb];rfl,LU s0 hi']
    exact ih
   | false =>
    rw [cond_false,UG s0 hi' (by unfold acG;rw [hb];rfl)]
    exact ih
 unfold agy
 rw [YP hl,Option.bind_some]
 exact key l.length 0 k (by omega) (by omega)
theorem LW (l:List jf) (t:Int):(J8 l t).length=l.length:=List.length_map _
def CO (rows:List Int) (off:List Bool) (n:Nat):(List Int×List Bool)×Bool×Bool :=
 bif (IntKind.i64.wrap (rows.getD n 0+1) != 2)||off.getD n false then ((rows.set n (IntKind.i64.wrap (rows.getD n 0+1)),off),false,false)
 else ((rows.set n (IntKind.i64.wrap (rows.getD n 0+1)),off.set n true),true,!(off.set n true).any (fun b=>b==false))
theorem amR {k:Nat} (hk:1000 <= k) {w:List Int×List Bool} {n:Nat} (h1:n<w.1.length) (h2:n<w.2.length) (h3:w.1.length <= 900) (h4:w.2.length <= 900) :
  alr k w (n:Int)=some (((CO w.1 w.2 n).1,(CO w.1 w.2 n).2.1,(CO w.1 w.2 n).2.2,()),()):=by
 obtain ⟨rows,off⟩:=w
 simp only at h1 h2 h3 h4
 unfold alr ags aoK
 rw [UC h3,Option.bind_some,YO h4,Option.bind_some,Option.bind_some,Sc (by omega),Option.bind_some]
 simp only
 rw [decide_eq_true (show (n:Int)<mn (rows.length:Int) (off.length:Int) by rw [Sg];omega)]
 simp only [Bool.not_true,cond_false]
 have hs:∀ v:Int,n<(rows.set n v).length:=fun v=>by rw [List.length_set];exact h1
 rw [Qo h1,Qo h1,Qp,Mj,Qo (hs _),Qp,ko,if_pos ⟨rfl,h1⟩,Qo h2,Qp]
 unfold CO
 cases hb:(IntKind.i64.wrap (rows.getD n 0+1) != 2) with
 | true=>rfl
 | false =>
  rw [Bool.false_or,cond_false]
  cases off.getD n false with
  | true=>rfl
  | false =>
   rw [cond_false,cond_false,Qo h2,Mj]
   unfold aoL
   rw [afA hk (by rw [List.length_set];exact h4)]
   simp only [Option.bind_some,D9]
theorem agZ (rows:List Int) (off:List Bool) (n:Nat):(CO rows off n).1.1.length=rows.length /\ (CO rows off n).1.2.length=off.length:=by
 unfold CO
 cases (IntKind.i64.wrap (rows.getD n 0+1) != 2)||off.getD n false <;> simp
def afV (now t:Int) (b:Bool×Bool):List je:=[(now,5,t,0,0,0)]++((bif b.1 then [(now,9,t,0,0,0)] else [])++(bif b.2 then [(now,10,0,0,0,0)] else []))
theorem ag0 (now t:Int) (b:Bool×Bool):(afV now t b).length <= 3:=by
 obtain ⟨a,b⟩:=b
 unfold afV
 cases a <;> cases b <;> simp
noncomputable def GX (k:Nat) (u:jg) (j:jc):jg :=
 let K:=GV k u.1 (J8 (jr u.1.2.2.2.2.2.2.2.2.1) j.1)
 let m:=CO u.1.2.2.2.2.2.2.2.2.2.1 u.1.2.2.2.2.2.2.2.2.2.2 j.1.toNat
 ((bif m.2.2 then w5 (z9 K m.1) true else z9 K m.1),u.2++afV u.1.1 j.1 m.2)
theorem amS {k:Nat} (hk:1000 <= k) {u:jg} {j:jc} {n:Nat} (hn:j.1=(n:Int)) (he:u.2.length <= 900000) (hT:uy u.1.2.2.2.2.2.2.2.2.1) (h1:n<u.1.2.2.2.2.2.2.2.2.2.1.length) (h2:n<u.1.2.2.2.2.2.2.2.2.2.2.length) (h3:u.1.2.2.2.2.2.2.2.2.2.1.length <= 900) (h4:u.1.2.2.2.2.2.2.2.2.2.2.length <= 900) :
  alu k u j=some ((),zh (GX k u j),()):=by
 have hle:=hT.1.2.2
 have hsl:=uh u.1.2.2.2.2.2.2.2.2.1
 have hll:=vo u.1.2.2.2.2.2.2.2.2.1
 unfold alu
 rw [QW (by omega),Option.bind_some]
 simp only [Z8]
 have e1:S48 k (j4 u (0,5,j.1,0,0,0)).1=_:=K6 hk hle
 rw [e1,Option.bind_some]
 simp only
 have e2:agy k (jr (j4 u (0,5,j.1,0,0,0)).1.2.2.2.2.2.2.2.2.1) j.1=_:=afU hk (by show (jr u.1.2.2.2.2.2.2.2.2.1).length <= 900;omega) (by omega)
 rw [e2,Option.bind_some]
 simp only
 rw [amQ hk (u:=j4 u (0,5,j.1,0,0,0)) hT (by rw [LW];show (jr u.1.2.2.2.2.2.2.2.2.1).length <= 900;omega),Option.bind_some]
 simp only [Z8]
 have e3:=amR (w:=u.1.2.2.2.2.2.2.2.2.2) hk h1 h2 h3 h4
 rw [<- hn] at e3
 refine (congrArg (fun x=>Option.bind x _) e3).trans ?_
 rw [Option.bind_some]
 have fin:∀ (K:jd) (ev:List je) (b:Bool),ev.length <= 999000 -> SQ k (K,ev) b=some ((),zh ((bif b then w5 K true else K),ev++(bif b then [(K.1,10,0,0,0,0)] else [])),()):=fun K ev b hb=>by
  unfold SQ
  cases b with
  | false=>simp
  | true =>
   rw [cond_true,QW (by show ev.length <= _;omega),Option.bind_some]
   simp only [Z8]
   rfl
 unfold GX afV
 rw [show j.1.toNat=n by omega]
 simp only
 cases (CO u.1.2.2.2.2.2.2.2.2.2.1 u.1.2.2.2.2.2.2.2.2.2.2 n).2.1 with
 | true =>
  rw [cond_true,QW (by show (u.2++[_]).length <= _;simp;omega),Option.bind_some]
  simp only [Z8]
  unfold j4
  rw [fin _ _ _ (by simp;omega)]
  simp only [cond_true,List.append_assoc]
  rfl
 | false =>
  rw [cond_false]
  unfold j4
  rw [fin _ _ _ (by simp;omega)]
  simp only [cond_false,List.append_assoc,List.nil_append]
  rfl
noncomputable def BK (k:Nat) (s:jg×List jc) (j:jc):jg×List jc :=
 bif IntKind.i64.wrap (s.1.1.1 - j.2.1) != (s.1.1.2.2.1.getD j.1.toNat bg).2.2.1 then (s.1,s.2++[j])
 else bif j.2.2.2.1==2 then (j4 s.1 (0,13,j.1,0,0,0),s.2) else (GX k s.1 j,s.2)
def chg (K:jd) (h:Bool) (T:Tb) (w:List Int×List Bool):jd:=w5 (w8 (z9 K w) T) h
def UI (K:jd) (u:jg):Prop:=∃ h T w,u.1=chg K h T w /\ uy T /\ T.2.length=K.2.2.2.2.2.2.2.2.1.2.length /\ jm T=jm K.2.2.2.2.2.2.2.2.1 /\ w.1.length=K.2.2.2.2.2.2.2.2.2.1.length /\ w.2.length=K.2.2.2.2.2.2.2.2.2.2.length
theorem UH {k:Nat} {l:List jf}:∀ (c:List Nat) (i:Nat) (T:Tb),uy T -> (∀ a∈c,a<T.2.length) -> uy (FU k l c i T) /\ (FU k l c i T).2.length=T.2.length /\ (FU k l c i T).1=T.1 /\
  ∀ b,((FU k l c i T).2.getD b j3).1=(T.2.getD b j3).1 /\ (b ∉ c -> (FU k l c i T).2.getD b j3=T.2.getD b j3)
 | [],i,T,h,ha=>⟨h,rfl,rfl,fun b=>⟨rfl,fun _=>rfl⟩⟩
 | a::c,i,T,h,ha=>by
  obtain ⟨h1,h2,h3,h4⟩:=UF (k:=k) (l:=l) (i:=i) h (ha a (by simp))
  obtain ⟨g1,g2,g3,g4⟩:=UH (k:=k) (l:=l) c (i+1) (BH k l a i T) h1 (fun b hb=>by rw [h2];exact ha b (by simp [hb]))
  rw [FU]
  refine ⟨g1,g2.trans h2,g3.trans h3,fun b=>⟨(g4 b).1.trans (h4 b).1,fun hb=>?_⟩⟩
  rw [List.mem_cons,not_or] at hb
  exact ((g4 b).2 hb.2).trans ((h4 b).2 hb.1)
theorem E5 {k:Nat} {T:Tb} (h:uy T) (l:List jf):uy (zm k T l) /\ (zm k T l).2.length=T.2.length /\ jm (zm k T l)=jm T /\ (zm k T l).1=T.1 /\
  ∀ b,((zm k T l).2.getD b j3).1=(T.2.getD b j3).1 /\ (b ∉ jm T -> (zm k T l).2.getD b j3=T.2.getD b j3):=by
 obtain ⟨h1,h2,h3,h4⟩:=UH (k:=k) (l:=l) (jm T) 0 T h (fun a ha=>(sj.1 ha).1)
 exact ⟨h1,h2,PI h2 (fun i _=>(h4 i).1),h3,h4⟩
theorem UI.start {K:jd} (h:uy K.2.2.2.2.2.2.2.2.1) (ev:List je):UI K (K,ev):=⟨_,_,_,rfl,h,rfl,rfl,rfl,rfl⟩
theorem UI.miss {K:jd} {u:jg} (h:UI K u) {k:Nat} (j:jc):UI K (GX k u j):=by
 obtain ⟨a,T,w,e,h1,h2,h3,h4,h5⟩:=h
 obtain ⟨ku,ev⟩:=u
 simp only at e
 subst e
 obtain ⟨g1,g2,g3,g4,_⟩:=E5 (k:=k) h1 (J8 (jr T) j.1)
 have hw:=agZ w.1 w.2 j.1.toNat
 unfold GX
 simp only
 show UI K ((bif (CO w.1 w.2 j.1.toNat).2.2 then _ else _),_)
 cases (CO w.1 w.2 j.1.toNat).2.2 with
 | true=>exact ⟨true,zm k T (J8 (jr T) j.1),(CO w.1 w.2 j.1.toNat).1,rfl,g1,g2.trans h2,g3.trans h3,hw.1.trans h4,hw.2.trans h5⟩
 | false=>exact ⟨a,zm k T (J8 (jr T) j.1),(CO w.1 w.2 j.1.toNat).1,rfl,g1,g2.trans h2,g3.trans h3,hw.1.trans h4,hw.2.trans h5⟩
theorem UI.tell {K:jd} {u:jg} (h:UI K u) (e:je):UI K (j4 u e):=h
theorem UI.end_ {K:jd} {s:jg×List jc} (h:UI K s.1) {k:Nat} (j:jc):UI K (BK k s j).1 /\ (BK k s j).1.2.length <= s.1.2.length+3 /\ (BK k s j).2.length <= s.2.length+1:=by
 unfold BK
 cases IntKind.i64.wrap (s.1.1.1 - j.2.1) != (s.1.1.2.2.1.getD j.1.toNat bg).2.2.1 with
 | true=>exact ⟨h,by simp,by simp⟩
 | false =>
  rw [cond_false]
  cases j.2.2.2.1==2 with
  | true=>exact ⟨h.tell _,by simp [j4],by simp⟩
  | false =>
   refine ⟨h.miss j,?_,by simp⟩
   simp only [cond_false]
   unfold GX
   have:=ag0 s.1.1.1 j.1 (CO s.1.1.2.2.2.2.2.2.2.2.2.1 s.1.1.2.2.2.2.2.2.2.2.2.2 j.1.toNat).2
   simp only [List.length_append];omega
noncomputable def zf (k:Nat) (u:jg):jg:=let s:=u.1.2.2.2.2.2.2.2.1.foldl (BK k) (u,[]);(w7 s.1.1 s.2,s.1.2)
structure JI (K:jd):Prop where
 ks:KS K
 bnd:K.2.2.2.1.length=K.2.2.1.length
 row:K.2.2.2.2.2.2.2.2.2.1.length=K.2.2.1.length
 of:K.2.2.2.2.2.2.2.2.2.2.length=K.2.2.1.length
 task:∀ j∈K.2.2.2.2.2.2.2.1,0 <= j.1 /\ j.1<(K.2.2.1.length:Int)
theorem aph {k:Nat} (hk:1000 <= k) {K:jd} (h:JI K):S78 k (K,[])=some ((),zh (zf k (K,[])),()):=by
 have hjl:=h.ks.jobs
 have htl:=h.ks.tasks.1
 have key:∀ (m i j:Nat) (s:jg×List jc),i+m=K.2.2.2.2.2.2.2.1.length -> m<j -> UI K s.1 -> s.1.2.length <= 3 * i -> s.2.length <= i ->
   aex k j s.1 s.2 K.2.2.2.2.2.2.2.1 (K.2.2.2.2.2.2.2.1.length:Int) (i:Int)=some ((),zh (w7 ((K.2.2.2.2.2.2.2.1.drop i).foldl (BK k) s).1.1 ((K.2.2.2.2.2.2.2.1.drop i).foldl (BK k) s).2,((K.2.2.2.2.2.2.2.1.drop i).foldl (BK k) s).1.2),()):=by
  intro m
  induction m with
  | zero =>
   intro i j s hi hj hu h1 h2
   obtain ⟨j,rfl⟩:∃ i,j=i+1:=⟨j - 1,by omega⟩
   rw [aey,aew,Sd (by omega),drop_nil (by omega)];rfl
  | succ m ih =>
   intro i j s hi hj hu h1 h2
   obtain ⟨j,rfl⟩:∃ i,j=i+1:=⟨j - 1,by omega⟩
   have hi':i<K.2.2.2.2.2.2.2.1.length:=by omega
   have hb:=h.task _ (jl (z:=ay) hi')
   obtain ⟨g1,g2,g3⟩:=hu.end_ (k:=k) (K.2.2.2.2.2.2.2.1.getD i ay)
   have ih:=ih (i+1) j (BK k s (K.2.2.2.2.2.2.2.1.getD i ay)) (by omega) (by omega) g1 (by omega) (by omega)
   obtain ⟨a,T,w,e,q1,q2,q3,q4,q5⟩:=hu
   have ets:s.1.1.2.2.1=K.2.2.1:=by rw [e];rfl
   obtain ⟨n,hn⟩:∃ n:Nat,(K.2.2.2.2.2.2.2.1.getD i ay).1=(n:Int):=⟨(K.2.2.2.2.2.2.2.1.getD i ay).1.toNat,by omega⟩
   have hb2:n<K.2.2.1.length:=by omega
   rw [aey,aew,Sc (by omega),Qo hi',Qp,drop_cons ay hi',List.foldl_cons,Mi (by omega)]
   generalize K.2.2.2.2.2.2.2.1.getD i ay=x at hb ih hn ⊢
   refine Eq.trans ?_ ih
   rw [hn,Qo (by rw [ets];exact hb2),Qp,<- hn]
   unfold BK
   rw [show x.1.toNat=n by omega]
   cases IntKind.i64.wrap (s.1.1.1 - x.2.1) != (s.1.1.2.2.1.getD n bg).2.2.1 with
   | true=>rw [cond_true,cond_true,Rz (by simp only [List.length_cons,List.length_nil];omega)]
   | false =>
    rw [cond_false,cond_false]
    cases x.2.2.2.1==2 with
    | true=>rw [cond_true,cond_true,QW (by omega),Option.bind_some];rfl
    | false =>
     have hr:=h.row
     have ho:=h.of
     rw [cond_false,cond_false,amS hk hn (by omega) (by rw [e];exact q1) (by rw [e];show n<w.1.length;omega) (by rw [e];show n<w.2.length;omega) (by rw [e];show w.1.length <= 900;omega) (by rw [e];show w.2.length <= 900;omega),Option.bind_some];rfl
 unfold S78
 exact key K.2.2.2.2.2.2.2.1.length 0 k ((K,[]),[]) (by omega) (by omega) (UI.start h.ks.tab []) (by simp) (by simp)
def xk (now:Int) (bs:List WC) (j:jc):jc :=
 bif j.2.2.2.1 != 2 then (bif decide (IntKind.i64.wrap (now - j.2.1)≥(bs.getD j.1.toNat bd0).2.2.2.2) then z7 j true else j) else j
def LX (u:jg):jg:=(w7 u.1 (u.1.2.2.2.2.2.2.2.1.map (xk u.1.1 u.1.2.2.2.1)),u.2)
theorem apj {k:Nat} (hk:1000 <= k) {u:jg} (hl:u.1.2.2.2.2.2.2.2.1.length <= 800) (hjs:∀ j∈u.1.2.2.2.2.2.2.2.1,0 <= j.1 /\ j.1<(u.1.2.2.2.1.length:Int)):S79 k u=some ((),zh (LX u),()):=by
 obtain ⟨⟨now,ap,ts,bs,ru,ha,hi,js,T,w⟩,ev⟩:=u
 simp only at hl hjs
 have key:∀ (m i j:Nat),i+m=js.length -> m<j ->
   aeA k j ((now,ap,ts,bs,ru,ha,hi,(js.take i).map (xk now bs)++js.drop i,T,w),ev) (js.length:Int) (i:Int)=some ((),zh ((now,ap,ts,bs,ru,ha,hi,js.map (xk now bs),T,w),ev),()):=by
  intro m
  induction m with
  | zero =>
   intro i j hi hj
   obtain ⟨j,rfl⟩:∃ i,j=i+1:=⟨j - 1,by omega⟩
   rw [aeB,aez,Sd (by omega),drop_nil (by omega),List.take_of_length_le (by omega),List.append_nil]
  | succ m ih =>
   intro i j hi2 hj
   obtain ⟨j,rfl⟩:∃ i,j=i+1:=⟨j - 1,by omega⟩
   have hi':i<js.length:=by omega
   have hb:=hjs _ (jl (z:=ay) hi')
   have ih:=ih (i+1) j (by omega) (by omega)
   obtain ⟨n,hn⟩:∃ n:Nat,(js.getD i ay).1=(n:Int):=⟨(js.getD i ay).1.toNat,by omega⟩
   have hlen:i<((js.take i).map (xk now bs)++js.drop i).length:=by rw [YU (by omega)];exact hi'
   rw [aeB,aez,Sc (by omega)]
   simp only
   rw [Qo hlen,Qp,QX ay hi',hn,Qo (by omega),Qp,Mi (by omega)]
   cases hp:(js.getD i ay).2.2.2.1 != 2 with
   | false=>rw [cond_false,UG ay hi' (by unfold xk;rw [hp];rfl)];exact ih
   | true =>
    rw [cond_true]
    by_cases hq:IntKind.i64.wrap (now - (js.getD i ay).2.1)≥(bs.getD n bd0).2.2.2.2
    ·rw [Sc hq,Qo hlen,Mj,show z7 (js.getD i ay) true=xk now bs (js.getD i ay) by unfold xk;rw [hp,cond_true,Sc (by rw [hn];exact hq)],LU ay hi'];exact ih
    ·rw [Sd hq,UG ay hi' (by unfold xk;rw [hp,cond_true,Sd (by rw [hn];exact hq)])];exact ih
 unfold S79
 exact key js.length 0 k (by omega) (by omega)
noncomputable def qm (k:Nat) (T:Tb):List Th×List Int×List (List Int):=Wq k T.2 T.2.length 0 (T.2,[],[])
def LY (u:jg) (c:Int):jg:=j4 u (0,12,0,c,0,15)
def abD (u:jg) (a:Int) (w:List Int):jg :=
 let v:=w.foldl LY (j4 u (0,11,0,a,0,0))
 let s:=pq (fun x=>a==x) (ou (jm u.1.2.2.2.2.2.2.2.2.1))
 bif decide (s≥0) then (w7 v.1 (v.1.2.2.2.2.2.2.2.1.map fun j=>x9 j s),v.2) else v
def K7:List Int -> List (List Int) -> jg -> jg
 | a::l,w,u=>K7 l w.tail (abD u a (w.headD []))
 | [],_,u=>u
noncomputable def abE (k:Nat) (u:jg):jg:=K7 (qm k u.1.2.2.2.2.2.2.2.2.1).2.1 (qm k u.1.2.2.2.2.2.2.2.2.1).2.2 (w8 u.1 (u.1.2.2.2.2.2.2.2.2.1.1,(qm k u.1.2.2.2.2.2.2.2.2.1).1),u.2)
theorem ag1 (w:List Int):∀ u:jg,(w.foldl LY u).1=u.1 /\ (w.foldl LY u).2.length=u.2.length+w.length:=by
 induction w with
 | nil=>intro u;exact ⟨rfl,rfl⟩
 | cons c w ih=>intro u;rw [List.foldl_cons];obtain ⟨a,b⟩:=ih (LY u c);exact ⟨a,by rw [b];simp [LY,j4];omega⟩
theorem WK {j:jc} (h:JS j) (s:Int):JS (x9 j s):=by
 have hl:=List.length_filter_le (fun x=>!(x==s)) j.2.2.2.2.2.2.1
 exact ⟨h.m,h.kept,by have:=h.held;show (BG _ _).length <= 100;unfold BG;omega,fun x hx=>h.pos x (List.mem_filter.1 hx).1⟩
theorem afW {k:Nat} (hk:1000 <= k) {g3:jg -> List (List Int) -> List Int -> Int -> Int -> Option (Unit×(Int×Int×List iw×List WC×Bool×Bool×Bool×List jc×List Int×List Bool×List Th×List Int×List Bool×List je×Unit)×Unit)} {now ap:Int} {ts:List iw} {bs:List WC} {ru ha hi:Bool} {js:List jc} {T:Tb} {w:List Int×List Bool} {ev:List je} {b:List (List Int)} {s:Int} {e:List Int} {f h:Int} (hl:js.length <= 800) (hj:∀ j∈js,JS j):∀ (m i j:Nat),i+m=js.length -> m<j ->
  Y7 k g3 j ((now,ap,ts,bs,ru,ha,hi,(js.take i).map (fun j=>x9 j s)++js.drop i,T,w),ev) b s e f h (js.length:Int) (i:Int)=g3 ((now,ap,ts,bs,ru,ha,hi,js.map (fun j=>x9 j s),T,w),ev) b e f (IntKind.i64.wrap (h+1))
 | 0,i,j,hi,hj=>by
  obtain ⟨j,rfl⟩:∃ i,j=i+1:=⟨j - 1,by omega⟩
  rw [aaO,Y6,Sd (by omega),drop_nil (by omega),List.take_of_length_le (by omega),List.append_nil]
 | m+1,i,j,hi2,hjj=>by
  obtain ⟨j,rfl⟩:∃ i,j=i+1:=⟨j - 1,by omega⟩
  have hi':i<js.length:=by omega
  have hlen:i<((js.take i).map (fun j=>x9 j s)++js.drop i).length:=by rw [YU (by omega)];exact hi'
  have ih:=afW hk (g3:=g3) (now:=now) (ap:=ap) (ts:=ts) (bs:=bs) (ru:=ru) (ha:=ha) (hi:=hi) (T:=T) (w:=w) (ev:=ev) (b:=b) (s:=s) (e:=e) (f:=f) (h:=h) hl hj m (i+1) j (by omega) (by omega)
  rw [aaO,Y6,Sc (by omega)]
  simp only
  rw [Qo hlen,Qp,QX ay hi',YR hk (hj _ (jl hi')),Option.bind_some,Qo hlen,Mj,Mi (by omega)]
  simp only
  rw [LU (f:=fun j=>x9 j s) ay hi']
  exact ih
theorem akt {k:Nat} (hk:1000 <= k) {l:List Nat} (h:l.length <= 900) (v:Int):ab9 k (ou l) v=some ((pq (fun x=>v==x) (ou l),()),()):=by
 have hl:=qj l
 unfold ab9
 refine tq (fun j i=>EI k j (ou l) v ((ou l).length:Int) i) (ou l) 0 _ (fun j i hi=>?_) (fun j=>?_) k (by omega)
 ·show EI k (j+1) (ou l) v ((ou l).length:Int) (i:Int)=_
  rw [KP,MO,Sc (by omega),Qo hi,Mi (by omega),Qp]
 ·show EI k (j+1) (ou l) v ((ou l).length:Int) ((ou l).length:Int)=_
  rw [KP,MO,Sd (by omega)]
theorem afX {k:Nat} (hk:1000 <= k) {g3:jg -> List (List Int) -> List Int -> Int -> Int -> Option (Unit×(Int×Int×List iw×List WC×Bool×Bool×Bool×List jc×List Int×List Bool×List Th×List Int×List Bool×List je×Unit)×Unit)} {K:jd} {b:List (List Int)} {a:Int} {e:List Int} {f h:Int} {w:List Int} (hT:K.2.2.2.2.2.2.2.2.1.2.length <= 100) (hl:K.2.2.2.2.2.2.2.1.length <= 800) (hj:∀ j∈K.2.2.2.2.2.2.2.1,JS j) (hw:w.length <= 900):∀ (m i j:Nat) (ev:List je),i+m=w.length -> m<j -> ev.length <= 990000+i ->
  aeF k g3 j (K,ev) b a e f h w (w.length:Int) (i:Int)=g3 (let v:=(w.drop i).foldl LY (K,ev);let s:=pq (fun x=>a==x) (ou (jm K.2.2.2.2.2.2.2.2.1));bif decide (s≥0) then (w7 v.1 (v.1.2.2.2.2.2.2.2.1.map fun j=>x9 j s),v.2) else v) b e f (IntKind.i64.wrap (h+1))
 | 0,i,j,ev,hi,hjj,he=>by
  obtain ⟨j,rfl⟩:∃ i,j=i+1:=⟨j - 1,by omega⟩
  have hs:=uh K.2.2.2.2.2.2.2.2.1
  rw [aeG,aeE,Sd (by omega),LP hk hT,Option.bind_some,drop_nil (by omega)]
  simp only
  rw [akt hk (by omega),Option.bind_some]
  simp only [List.foldl_nil]
  cases decide (pq (fun x=>a==x) (ou (jm K.2.2.2.2.2.2.2.2.1))≥0) with
  | false=>rfl
  | true =>
   simp only [cond_true]
   obtain ⟨now,ap,ts,bs,ru,ha,hi,js,T,w⟩:=K
   have hl2:js.length <= 800:=hl
   exact afW hk hl2 hj js.length 0 k (by omega) (by omega)
 | m+1,i,j,ev,hi,hjj,he=>by
  obtain ⟨j,rfl⟩:∃ i,j=i+1:=⟨j - 1,by omega⟩
  have hi':i<w.length:=by omega
  rw [aeG,aeE,Sc (by omega),Qo hi',CK (by show ev.length <= _;omega),Option.bind_some,Mi (by omega),drop_cons 0 hi',List.foldl_cons]
  simp only [Z8]
  exact afX hk hT hl hj hw m (i+1) j (ev++[_]) (by omega) (by omega) (by simp only [List.length_append,List.length_cons,List.length_nil];omega)
theorem afY {k:Nat} {l:List Th} (hl:∀ x∈l,Wo x):∀ (m i:Nat) (s:List Th×List Int×List (List Int)),(∀ w∈s.2.2,w.length <= 200) -> i+m=l.length -> ∀ w∈(Wq k l m i s).2.2,w.length <= 200
 | 0,_,s,h,_=>h
 | m+1,i,s,h,hi=>by
  rw [Wq]
  refine afY hl m (i+1) _ ?_ (by omega)
  split
  ·intro w hw
   rcases List.mem_append.1 hw with q | q
   ·exact h w q
   ·rw [List.mem_singleton] at q
    obtain ⟨_,h2,h3⟩:=hl _ (jl (z:=j3) (show i<l.length by omega))
    rw [q];unfold wo
    rw [List.length_append,List.length_map];omega
  ·exact h
theorem QY {k:Nat} {T:Tb} (h:uy T):uy (T.1,(qm k T).1) /\ (qm k T).1.length=T.2.length /\ jm (T.1,(qm k T).1)=jm T /\ (qm k T).2.2.length=(qm k T).2.1.length /\ (∀ w∈(qm k T).2.2,w.length <= 200) /\ (qm k T).2.1.length <= T.2.length /\
  ∀ i,i<T.2.length -> (qm k T).1.getD i j3=if trn k (T.2.getD i j3)=true then frT k (T.2.getD i j3) else T.2.getD i j3:=by
 have ha:=ao8 k T.2
 have hg:∀ i,i<T.2.length -> (qm k T).1.getD i j3=if trn k (T.2.getD i j3)=true then frT k (T.2.getD i j3) else T.2.getD i j3:=fun i hi=>by
  split
  ·rename_i q;exact (ha.told i hi q).2.2.1
  ·rename_i q;exact ha.kept i (.inr (by simpa using q))
 have hlen:(qm k T).1.length=T.2.length:=ha.len
 have hc:∀ n,JY k T.2 n <= n:=fun n=>by induction n with | zero=>exact Nat.le_refl _ | succ n ih=>rw [JY];split <;> omega
 refine ⟨⟨⟨h.1.1,h.1.2.1,by show (qm k T).1.length <= 100;rw [hlen];exact h.1.2.2⟩,fun x hx=>?_⟩,hlen,PI hlen (fun i hi=>?_),by unfold qm;rw [ha.len1,ha.len2],afY h.2 _ _ _ (by simp) (by omega),by unfold qm;rw [ha.len1];exact hc _,hg⟩
 ·obtain ⟨i,hi,e⟩:=qy j3 hx
  have hi2:i<T.2.length:=by rw [<- hlen];exact hi
  rw [<- e,show ((T.1,(qm k T).1):Tb).2.getD i j3=(qm k T).1.getD i j3 from rfl,hg i hi2]
  split
  ·unfold frT ug;exact ⟨by simp,by simp,by simp⟩
  ·exact h.2 _ (jl hi2)
 ·show ((qm k T).1.getD i j3).1=_
  rw [hg i hi];split <;> rfl
theorem apk {k:Nat} (hk:1000 <= k) {u:jg} (hT:uy u.1.2.2.2.2.2.2.2.2.1) (hl:u.1.2.2.2.2.2.2.2.1.length <= 800) (hj:∀ j∈u.1.2.2.2.2.2.2.2.1,JS j) (he:u.2.length <= 900000):S80 k u=some ((),zh (abE k u),()):=by
 have hle:=hT.1.2.2
 obtain ⟨a1,a2,a3,a4,a5,a6,_⟩:=QY (k:=k) hT
 have key:∀ (m i j:Nat) (c:List Int) (b:List (List Int)) (v:jg),i+m=c.length -> m<j -> b.length=c.length -> c.length <= 100 -> (∀ w∈b,w.length <= 200) -> v.1.2.2.2.2.2.2.2.2.1.2.length <= 100 -> v.1.2.2.2.2.2.2.2.1.length <= 800 -> (∀ j∈v.1.2.2.2.2.2.2.2.1,JS j) -> v.2.length <= 900000+201 * i ->
   aaP k j v b c (c.length:Int) (i:Int)=some ((),zh (K7 (c.drop i) (b.drop i) v),()):=by
  intro m
  induction m with
  | zero =>
   intro i j c b v hi hj hb hc hw h1 h2 h3 h4
   obtain ⟨j,rfl⟩:∃ i,j=i+1:=⟨j - 1,by omega⟩
   rw [aeI,aeH,Sd (by omega),drop_nil (by omega)];rfl
  | succ m ih =>
   intro i j c b v hi hj hb hc hw h1 h2 h3 h4
   obtain ⟨j,rfl⟩:∃ i,j=i+1:=⟨j - 1,by omega⟩
   have hi':i<c.length:=by omega
   have hib:i<b.length:=by omega
   have hwl:=hw _ (jl (z:=[]) hib)
   rw [aeI,aeH,Sc (by omega),Qo hi',CK (by omega),Option.bind_some,Qo hib,Qp,Qp,drop_cons 0 hi',drop_cons [] hib]
   simp only [Z8]
   rw [K7]
   have hf:=ag1 (b.getD i []) (j4 v (0,11,0,c.getD i 0,0,0))
   have e:=afX (K:=v.1) (b:=b) (a:=c.getD i 0) (e:=c) (f:=(c.length:Int)) (h:=(i:Int)) (w:=b.getD i []) (g3:=fun a b c e f=>aaP k j a b c e f) hk h1 h2 h3 (by omega) (b.getD i []).length 0 k (v.2++[(v.1.1,11,0,c.getD i 0,0,0)]) (by omega) (by omega) (by simp only [List.length_append,List.length_cons,List.length_nil];omega)
   refine Eq.trans e ?_
   rw [Mi (by omega),List.drop_zero]
   refine ih (i+1) j c b (abD v (c.getD i 0) (b.getD i [])) (by omega) (by omega) hb hc hw ?_ ?_ ?_ ?_
   all_goals unfold abD
   all_goals simp only
   all_goals cases decide (pq (fun x=>c.getD i 0==x) (ou (jm v.1.2.2.2.2.2.2.2.2.1))≥0)
   all_goals simp only [cond_true,cond_false]
   ·rw [hf.1];exact h1
   ·show ((_:jd).2.2.2.2.2.2.2.2.1.2.length <= 100);rw [hf.1];exact h1
   ·rw [hf.1];exact h2
   ·show ((List.map _ _).length <= 800);rw [List.length_map,hf.1];exact h2
   ·rw [hf.1];exact h3
   ·intro x hx
    obtain ⟨y,hy,rfl⟩:=List.mem_map.1 (show x∈List.map _ _ from hx)
    rw [hf.1] at hy
    exact WK (h3 y hy) _
   ·rw [hf.2];simp only [j4,List.length_append,List.length_cons,List.length_nil];omega
   ·show (List.foldl LY (j4 v (0,11,0,c.getD i 0,0,0)) (b.getD i [])).2.length <= _
    rw [hf.2];simp only [j4,List.length_append,List.length_cons,List.length_nil];omega
 unfold S80
 rw [amr hk hT,Option.bind_some]
 have:=key (qm k u.1.2.2.2.2.2.2.2.2.1).2.1.length 0 k (qm k u.1.2.2.2.2.2.2.2.2.1).2.1 (qm k u.1.2.2.2.2.2.2.2.2.1).2.2 (w8 u.1 (u.1.2.2.2.2.2.2.2.2.1.1,(qm k u.1.2.2.2.2.2.2.2.2.1).1),u.2) (by omega) (by omega) a4 (by omega) a5 (by show (qm k u.1.2.2.2.2.2.2.2.2.1).1.length <= 100;omega) hl hj (by show u.2.length <= _;omega)
 rw [List.drop_zero,List.drop_zero] at this
 exact this
def nk (l:List I4) (m:gy):I4:=l.getD m.1.toNat i0
def stepM (l:List I4) (m:gy):gy:=((go (nk l m) (m.1.toNat:Int) m.2.1 m.2.2.1.reverse).1,V5 (nk l m) m.2.1,(go (nk l m) (m.1.toNat:Int) m.2.1 m.2.2.1.reverse).2.reverse,(nk l m).1==0)
structure MOK (l:List I4) (m:gy):Prop where
 len:l.length <= 900
 pc:0 <= m.1 /\ m.1.toNat<l.length
 may:lu (nk l m)=true
 aqy:m.2.2.1.length <= 10
 bound:∀ r∈m.2.2.1,r.2.2 <= 1000
 mem:inM m.2.1
 on:m.2.2.2=false
theorem aku {k:Nat} (hk:1000 <= k) {l:List I4} {m:gy} (h:MOK l m):ajm k l m=some ((stepM l m,nk l m,true,()),()):=by
 obtain ⟨pc,mem,rs,ov⟩:=m
 obtain ⟨n,rfl⟩:∃ n:Nat,pc=(n:Int):=⟨pc.toNat,by have:0 <= pc:=h.pc.1;omega⟩
 have ho:ov=false:=h.on
 subst ho
 have e:=aml hk (l:=l) (n:=n) (mem:=mem) (R:=rs.reverse) h.len (by have:(n:Int).toNat<l.length:=h.pc.2;omega) h.may (by rw [List.length_reverse];have:rs.length <= 10:=h.aqy;omega) (fun r hr=>h.bound r (List.mem_reverse.1 hr)) h.mem
 rw [List.reverse_reverse] at e
 exact e
theorem UJ {l:List I4} {m:gy} (h:MOK l m):(stepM l m).2.2.1.length <= m.2.2.1.length+1:=by
 have hg:∀ (R:List gu) (pc:Int),(uf pc R).2.length <= R.length:=fun R=>by
  induction R with
  | nil=>intro pc;simp [uf]
  | cons r R ih =>
   intro pc
   rw [uf]
   by_cases a:r.2.1<pc
   ·rw [if_pos a]
    by_cases b:r.2.2>0
    ·rw [if_pos b];simp
    ·rw [if_neg b];have:=ih pc;simp only [List.length_cons];omega
   ·rw [if_neg a];exact Nat.le_refl _
 have hn:∀ (x:I4) (pc:Int) (mem:Mem) (R:List gu),(gU x pc mem R).2.length <= R.length+1:=fun x pc mem R=>by
  unfold gU;split;· simp
  ·split;· split <;> simp
   ·split <;> simp
 unfold stepM
 rw [List.length_reverse]
 unfold go
 have h1:=hg (gU (nk l m) (m.1.toNat:Int) m.2.1 m.2.2.1.reverse).2 (gU (nk l m) (m.1.toNat:Int) m.2.1 m.2.2.1.reverse).1
 have h2:=hn (nk l m) (m.1.toNat:Int) m.2.1 m.2.2.1.reverse
 rw [List.length_reverse] at h2
 omega
def o8 (t:iw) (p:Int):List I4:=bif p==0 then t.2.2.2.1 else bif p==1 then t.2.2.2.2.1 else t.2.2.2.2.2
theorem amT {k:Nat} {t:iw} (ht:ze t) {j:jc} (hp:0 <= j.2.2.2.1 /\ j.2.2.2.1 <= 2):alG k t j=some ((o8 t j.2.2.2.1,()),()):=by
 unfold alG
 obtain ⟨a,b,c,p,r⟩:=j
 have hp':p=0 \/ p=1 \/ p=2:=by have:0 <= p /\ p <= 2:=hp;omega
 rcases hp' with rfl | rfl | rfl
 ·rw [show Us (.int .i64) (.sl _ (.pair (.int .i64) (.pair (.int .i64) (.pair (.int .i64) (.int .i64))))) (0:Int) _ ([]:List I4)=t.2.2.2.1 from rfl,IZ ht.1,Option.bind_some];rfl
 ·rw [show Us (.int .i64) (.sl _ (.pair (.int .i64) (.pair (.int .i64) (.pair (.int .i64) (.int .i64))))) (1:Int) _ ([]:List I4)=t.2.2.2.2.1 from rfl,IZ ht.2.1,Option.bind_some];rfl
 ·rw [show Us (.int .i64) (.sl _ (.pair (.int .i64) (.pair (.int .i64) (.pair (.int .i64) (.int .i64))))) (2:Int) _ ([]:List I4)=t.2.2.2.2.2 from rfl,IZ ht.2.2,Option.bind_some];rfl
theorem QZ {k:Nat} {m:gy} (h:m.2.2.1.length <= 900):aaS k m=some ((m,()),()):=by
 unfold aaS
 rw [acE h,Option.bind_some]
theorem YV {k:Nat} {j:jc} (h:JS j):agB k j=some ((j,()),()):=by
 unfold agB
 rw [QZ (by have:=h.m;omega),Option.bind_some,QZ (by have:=h.kept;omega),Option.bind_some,UC (by have:=h.held;omega),Option.bind_some]
 rfl
def unl (a:Int) (l:List Int):Nat -> List Int
 | 0=>l
 | n+1=>if l.getD n 0=a then l.take n++l.drop (n+1) else unl a l n
theorem R6 (a:Int) (l:List Int):∀ n,(∀ x∈unl a l n,x∈l) /\ (unl a l n).length <= l.length /\ ∀ x∈l,x≠a -> x∈unl a l n
 | 0=>⟨fun x h=>h,Nat.le_refl _,fun x h _=>h⟩
 | n+1=>by
  rw [unl]
  split
  ·rename_i q
   refine ⟨fun x h=>?_,by simp only [List.length_append,List.length_take,List.length_drop];omega,fun x h hx=>?_⟩
   ·rcases List.mem_append.1 h with h | h
    ·exact List.mem_of_mem_take h
    ·exact List.mem_of_mem_drop h
   ·obtain ⟨i,hi,e⟩:=List.mem_iff_getElem.1 h
    rw [List.mem_append]
    by_cases h1:i<n
    ·exact .inl (List.mem_iff_getElem.2 ⟨i,by rw [List.length_take];omega,by rw [List.getElem_take];exact e⟩)
    ·by_cases h2:i=n
     ·subst h2;rw [getD_in hi,e] at q;exact absurd q hx
     ·exact .inr (List.mem_iff_getElem.2 ⟨i - (n+1),by rw [List.length_drop];omega,by rw [List.getElem_drop];rw [<- e];congr 1;omega⟩)
  ·exact R6 a l n
def CP (x:I4) (l:List Int):List Int:=bif x.1==9 then l++[x.2.1] else bif x.1==10 then unl x.2.1 l l.length else l
def yg (t:iw) (j:jc):jc :=
 let x:=nk (o8 t j.2.2.2.1) j.2.2.2.2.1
 let m:=stepM (o8 t j.2.2.2.1) j.2.2.2.2.1
 (j.1,j.2.1,j.2.2.1,j.2.2.2.1,m,(bif x.1==11 then m else j.2.2.2.2.2.1),CP x j.2.2.2.2.2.2.1,j.2.2.2.2.2.2.2)
theorem akv {k:Nat} {x:jc} {a b c e:Int} (hl:x.2.2.2.2.2.2.1.length <= 900):∀ (n j:Nat),n<j -> n <= x.2.2.2.2.2.2.1.length -> QH k j x a b c e ((n:Int) - 1)=some ((w6 x (unl b x.2.2.2.2.2.2.1 n),(a,b,c,e),true,()),())
 | 0,j,hj,hn=>by
  obtain ⟨j,rfl⟩:∃ i,j=i+1:=⟨j - 1,by omega⟩
  rw [VJ,QG,Sd (by omega),unl];rfl
 | n+1,j,hj,hn=>by
  obtain ⟨j,rfl⟩:∃ i,j=i+1:=⟨j - 1,by omega⟩
  rw [show ((n+1:Nat):Int) - 1=(n:Int) by omega,VJ,QG,Sc (by omega),Qo (by omega),Qp,unl]
  by_cases q:x.2.2.2.2.2.2.1.getD n 0=b
  ·rw [if_pos q,show (x.2.2.2.2.2.2.1.getD n 0==b)=true from beq_iff_eq.2 q,cond_true,Mi (by omega)]
   have e1:aoS k x.2.2.2.2.2.2.1 (n:Int) ((n+1:Nat):Int)=some ((x.2.2.2.2.2.2.1.take n++x.2.2.2.2.2.2.1.drop (n+1),()),()):=by
    unfold aoS Jk
    refine (if_pos ?_).trans ?_
    ·simp only [Bool.and_eq_true]
     exact ⟨decide_eq_true (by show (0:Int) <= (n:Int);omega),decide_eq_true (by show (n:Int) <= ((n+1:Nat):Int);omega),decide_eq_true (by show ((n+1:Nat):Int) <= (x.2.2.2.2.2.2.1.length:Int);omega)⟩
    ·rfl
   rw [e1,Option.bind_some]
  ·rw [if_neg q,show (x.2.2.2.2.2.2.1.getD n 0==b)=false from beq_eq_false_iff_ne.2 q,cond_false,Uu (by omega) (by omega)]
   exact akv hl n j (by omega) (by omega)
theorem amU {k:Nat} (hk:1000 <= k) {t:iw} {j:jc} (ht:ze t) (hs:JS j) (hp:0 <= j.2.2.2.1 /\ j.2.2.2.1 <= 2) (h:MOK (o8 t j.2.2.2.1) j.2.2.2.2.1) :
  alK k t j=some ((yg t j,nk (o8 t j.2.2.2.1) j.2.2.2.2.1,true,()),()):=by
 have h1:=UJ h
 have h2:=h.aqy
 have h3:=hs.held
 unfold alK yg CP
 rw [YV hs,Option.bind_some,amT ht hp,Option.bind_some]
 simp only
 rw [aku hk h,Option.bind_some]
 simp only [Bool.not_true,cond_false]
 generalize nk (o8 t j.2.2.2.1) j.2.2.2.2.1=x
 generalize stepM (o8 t j.2.2.2.1) j.2.2.2.2.1=m at h1
 by_cases e11:x.1=11
 ·rw [show (x.1==11)=true from beq_iff_eq.2 e11,cond_true,QZ (by omega),Option.bind_some,beq_eq_false_iff_ne.2 (show x.1≠9 by omega),beq_eq_false_iff_ne.2 (show x.1≠10 by omega)]
  rfl
 ·rw [beq_eq_false_iff_ne.2 e11,cond_false,cond_false]
  by_cases e9:x.1=9
  ·rw [show (x.1==9)=true from beq_iff_eq.2 e9,cond_true,Rz (by simp only [List.length_cons,List.length_nil];omega)]
   rfl
  ·rw [beq_eq_false_iff_ne.2 e9,cond_false,cond_false]
   by_cases e10:x.1=10
   ·rw [show (x.1==10)=true from beq_iff_eq.2 e10,cond_true,Uu (by omega) (by omega)]
    exact akv (x:=w4 j m) (by show j.2.2.2.2.2.2.1.length <= 900;omega) j.2.2.2.2.2.2.1.length k (by omega) (Nat.le_refl _)
   ·rw [beq_eq_false_iff_ne.2 e10,cond_false];rfl
def PK (l:List jf) (s t:Int):List jf:=if 0 <= s /\ s<(l.length:Int) /\ (rd l s s0).2=0 then upd l s ((rd l s s0).1,t+1) else l
def abF (l:List jf) (s t:Int):List jf:=if holdsV l s t=true then upd l s ((rd l s s0).1,0) else l
theorem amV {k:Nat} {l:List jf} (hl:l.length <= 900) {s t:Int} (ht:0 <= t /\ t <= 1000):∃ b,alL k l s t=some ((PK l s t,b,()),()):=by
 unfold alL ai2 PK
 rw [YP hl,Option.bind_some]
 by_cases h1:s≥0
 ·rw [Sc h1,Option.bind_some]
  by_cases h2:s<(l.length:Int)
  ·simp only
   rw [decide_eq_true h2]
   simp only [Bool.not_true,cond_false]
   rw [Lj h1 h2]
   by_cases h3:(rd l s s0).2=0
   ·rw [if_pos ⟨h1,h2,h3⟩,show ((rd l s (0,0)).2 != 0)=false by simpa using h3,cond_false,Lj h1 h2,Uu (by omega) (by omega)]
    exact ⟨true,rfl⟩
   ·rw [if_neg (fun q=>h3 q.2.2),show ((rd l s (0,0)).2 != 0)=true by simpa using h3,cond_true]
    exact ⟨false,rfl⟩
  ·simp only
   rw [decide_eq_false h2,if_neg (fun q=>h2 q.2.1)]
   exact ⟨false,rfl⟩
 ·rw [Sd h1,Option.bind_some,if_neg (fun q=>h1 q.1)]
  exact ⟨false,rfl⟩
theorem amW {k:Nat} {l:List jf} (hl:l.length <= 900) {s t:Int} (ht:t <= 1000):∃ b,alM k l s t=some ((abF l s t,b,()),()):=by
 unfold alM abF
 rw [YP hl,Option.bind_some,YT ht,Option.bind_some]
 cases h:holdsV l s t with
 | false=>exact ⟨false,rfl⟩
 | true =>
  unfold holdsV at h
  simp only [Bool.and_eq_true,decide_eq_true_eq] at h
  simp only [Bool.not_true,cond_false,if_true]
  rw [Lj h.1 h.2.1]
  exact ⟨true,rfl⟩
theorem NW (l:List jf) (s t:Int):(PK l s t).length=l.length:=by unfold PK;split <;> simp [upd]
theorem UK (l:List jf) (s t:Int):(abF l s t).length=l.length:=by unfold abF;split <;> simp [upd]
def Vh (a:Int):gy:=(0,(a,0,0,0,0,0,0,0),[],false)
def ag2 (j:jc):jc:=(j.1,j.2.1,j.2.2.1,2,Vh j.2.2.2.2.1.2.1.1,Vh j.2.2.2.2.1.2.1.1,[],false)
theorem amX {k:Nat} {j:jc} (h:JS j):alN k j=some ((ag2 j,()),()):=by
 unfold alN V9
 rw [YV h];rfl
theorem amY {k:Nat} {w:List Int×List Bool} {n:Nat} (h1:w.1.length <= 900) (h2:w.2.length <= 900) (h:n<w.1.length):ab4 k w (n:Int)=some (((w.1.set n 0,w.2),()),()):=by
 obtain ⟨r,o⟩:=w
 simp only at h1 h2 h
 unfold ab4 ags
 simp only
 rw [UC h1,Option.bind_some,YO h2,Option.bind_some,Option.bind_some,Sc (by omega),Sc (by simp only;omega),Qo h,Mj]
abbrev LZ:Type:=Bool×jg×jc
def akw (u:jg) (n:Nat):jg:=(z9 u.1 (u.1.2.2.2.2.2.2.2.2.2.1.set n 0,u.1.2.2.2.2.2.2.2.2.2.2),u.2)
def qp (u:jg) (j:jc):LZ :=
 bif j.2.2.2.1==2 then (true,j4 u (0,4,j.1,0,j.2.2.2.2.1.2.1.1,0),j)
 else ((((u.1.2.2.1.getD j.1.toNat bg).2.2.2.2.2.length:Int)==0),akw (bif (j.2.2.2.1==0)&&decide (((u.1.2.2.1.getD j.1.toNat bg).2.2.2.2.1.length:Int)>0) then j4 (j4 u (0,3,j.1,0,j.2.2.2.2.1.2.1.1,0)) (0,8,j.1,0,0,0) else j4 u (0,3,j.1,0,j.2.2.2.2.1.2.1.1,0)) j.1.toNat,ag2 j)
theorem amZ {k:Nat} (hk:1000 <= k) {u:jg} {j:jc} (hj:JS j) (h:0 <= j.1 /\ j.1<(u.1.2.2.1.length:Int)) (hr:u.1.2.2.2.2.2.2.2.2.2.1.length=u.1.2.2.1.length) (ho:u.1.2.2.2.2.2.2.2.2.2.2.length <= 900) (ht:u.1.2.2.1.length <= 900) (he:u.2.length <= 990000) :
  alP k u j=some (((qp u j).1,()),zh (qp u j).2.1,trJ (qp u j).2.2,()):=by
 obtain ⟨n,hn⟩:∃ n:Nat,j.1=(n:Int):=⟨j.1.toNat,by omega⟩
 have fin:∀ v:jg,v.1=u.1 -> N7 k v j=some (((((u.1.2.2.1.getD j.1.toNat bg).2.2.2.2.2.length:Int)==0),()),zh (akw v j.1.toNat),trJ (ag2 j),()):=fun v hv=>by
  unfold N7
  have e:=amY (k:=k) (w:=v.1.2.2.2.2.2.2.2.2.2) (n:=n) (by rw [hv];omega) (by rw [hv];exact ho) (by rw [hv];omega)
  rw [hn,e,Option.bind_some,amX hj,Option.bind_some]
  simp only
  rw [show (ag2 j).1=(n:Int) from hn,hv,Qo (by omega),Qp,Int.toNat_natCast]
  rw [<- hv]
  rfl
 unfold alP qp
 cases hp:j.2.2.2.1==2 with
 | true =>
  rw [cond_true,CK (by omega),Option.bind_some]
  rfl
 | false =>
  rw [cond_false,cond_false,CK (by omega),Option.bind_some]
  simp only [Z8]
  cases hp0:j.2.2.2.1==0 with
  | false =>
   rw [cond_false]
   exact fin _ rfl
  | true =>
   rw [cond_true,Bool.true_and]
   have ei:∀ {R:Type} (x:Option R),ix (j4 u (0,3,j.1,0,j.2.2.2.2.1.2.1.1,0)).1.2.2.1 j.1 x=x:=fun x=>Lj h.1 h.2
   rw [ei]
   show (bif decide (((u.1.2.2.1.getD j.1.toNat bg).2.2.2.2.1.length:Int)>0) then _ else _)=_
   cases decide (((u.1.2.2.1.getD j.1.toNat bg).2.2.2.2.1.length:Int)>0) with
   | false=>exact fin _ rfl
   | true =>
    rw [cond_true,CK (by simp [j4];omega),Option.bind_some]
    simp only [Z8]
    exact fin _ rfl
noncomputable def JK (k:Nat) (u:jg) (j:jc):LZ :=
 let t:=u.1.2.2.1.getD j.1.toNat bg
 let x:=nk (o8 t j.2.2.2.1) j.2.2.2.2.1
 let v:=bif x.1==9 then (GV k u.1 (PK (jr u.1.2.2.2.2.2.2.2.2.1) x.2.1 j.1),u.2) else bif x.1==10 then (GV k u.1 (abF (jr u.1.2.2.2.2.2.2.2.2.1) x.2.1 j.1),u.2) else u
 bif (yg t j).2.2.2.2.1.2.2.2 then qp v (yg t j) else (false,v,yg t j)
structure GO (K:jd) (j:jc):Prop where
 js:JS j
 few:j.2.2.2.2.1.2.2.1.length <= 10 /\ j.2.2.2.2.2.1.2.2.1.length <= 10
 held:j.2.2.2.2.2.2.1.length <= 90
 task:0 <= j.1 /\ j.1<(K.2.2.1.length:Int)
 phase:0 <= j.2.2.2.1 /\ j.2.2.2.1 <= 2
 m:MOK (o8 (K.2.2.1.getD j.1.toNat bg) j.2.2.2.1) j.2.2.2.2.1
theorem apl {K:jd} {j:jc} (h:GO K j):JS (yg (K.2.2.1.getD j.1.toNat bg) j):=by
 have h1:=UJ h.m
 have h2:=h.few
 have h3:=h.held
 refine ⟨by show (stepM _ _).2.2.1.length <= 100;omega,?_,?_,?_⟩
 ·show (bif _ then stepM _ _ else _).2.2.1.length <= 100
  cases (nk (o8 (K.2.2.1.getD j.1.toNat bg) j.2.2.2.1) j.2.2.2.2.1).1==11 with
  | true=>rw [cond_true];omega
  | false=>rw [cond_false];omega
 ·show (CP _ _).length <= 100
  unfold CP
  generalize nk (o8 (K.2.2.1.getD j.1.toNat bg) j.2.2.2.1) j.2.2.2.2.1=x
  have:=(R6 x.2.1 j.2.2.2.2.2.2.1 j.2.2.2.2.2.2.1.length).2.1
  cases x.1==9 <;> cases x.1==10 <;> simp <;> omega
 ·intro y hy
  have hm:=h.m.may
  have hy':y∈CP (nk (o8 (K.2.2.1.getD j.1.toNat bg) j.2.2.2.1) j.2.2.2.2.1) j.2.2.2.2.2.2.1:=hy
  generalize nk (o8 (K.2.2.1.getD j.1.toNat bg) j.2.2.2.1) j.2.2.2.2.1=x at hy' hm
  unfold CP at hy'
  cases e9:x.1==9 with
  | true =>
   rw [e9,cond_true,List.mem_append,List.mem_singleton] at hy'
   rcases hy' with q | q
   ·exact h.js.pos y q
   ·rw [q]
    obtain ⟨a,b,c,d⟩:=x
    have h9':a=9:=by simpa using e9
    subst h9'
    unfold lu at hm
    simp [AL] at hm
    exact hm.1.1
  | false =>
   rw [e9,cond_false] at hy'
   cases e10:x.1==10 with
   | true=>rw [e10,cond_true] at hy';exact h.js.pos y ((R6 _ _ _).1 y hy')
   | false=>rw [e10,cond_false] at hy';exact h.js.pos y hy'
theorem am0 {k:Nat} (hk:1000 <= k) {u:jg} {j:jc} (hL:p8 u.1.2.2.1) (hT:uy u.1.2.2.2.2.2.2.2.2.1) (h:GO u.1 j) (hr:u.1.2.2.2.2.2.2.2.2.2.1.length=u.1.2.2.1.length) (ho:u.1.2.2.2.2.2.2.2.2.2.2.length <= 900) (he:u.2.length <= 980000) :
  alQ k u j=some (((JK k u j).1,()),zh (JK k u j).2.1,trJ (JK k u j).2.2,()):=by
 have htk:=h.task
 have hts:=hL.1
 have hle:=hT.1.2.2
 have hsl:=uh u.1.2.2.2.2.2.2.2.2.1
 have hll:=vo u.1.2.2.2.2.2.2.2.2.1
 have hlt:=(hL.2 _ (jl (z:=bg) (show j.1.toNat<u.1.2.2.1.length by omega))).1
 have fin:∀ v:jg,v.1.2.2.1=u.1.2.2.1 -> v.1.2.2.2.2.2.2.2.2.2=u.1.2.2.2.2.2.2.2.2.2 -> v.2=u.2 -> I8 k v (yg (u.1.2.2.1.getD j.1.toNat bg) j)=some ((((bif (yg (u.1.2.2.1.getD j.1.toNat bg) j).2.2.2.2.1.2.2.2 then qp v (yg (u.1.2.2.1.getD j.1.toNat bg) j) else (false,v,yg (u.1.2.2.1.getD j.1.toNat bg) j)):LZ).1,()),zh ((bif (yg (u.1.2.2.1.getD j.1.toNat bg) j).2.2.2.2.1.2.2.2 then qp v (yg (u.1.2.2.1.getD j.1.toNat bg) j) else (false,v,yg (u.1.2.2.1.getD j.1.toNat bg) j)):LZ).2.1,trJ ((bif (yg (u.1.2.2.1.getD j.1.toNat bg) j).2.2.2.2.1.2.2.2 then qp v (yg (u.1.2.2.1.getD j.1.toNat bg) j) else (false,v,yg (u.1.2.2.1.getD j.1.toNat bg) j)):LZ).2.2,()):=fun v h1 h2 h3=>by
  unfold I8
  cases (yg (u.1.2.2.1.getD j.1.toNat bg) j).2.2.2.2.1.2.2.2 with
  | false=>rfl
  | true =>
   rw [cond_true,amZ hk (apl h) (by rw [h1];exact htk) (by rw [h1,show v.1.2.2.2.2.2.2.2.2.2.1=u.1.2.2.2.2.2.2.2.2.2.1 by rw [h2]];exact hr) (by rw [h2];exact ho) (by rw [h1];omega) (by rw [h3];omega),Option.bind_some]
   rfl
 unfold alQ JK
 rw [Lj htk.1 htk.2,show rd u.1.2.2.1 j.1 bg=u.1.2.2.1.getD j.1.toNat bg from rfl,amU hk hlt h.js h.phase h.m,Option.bind_some]
 simp only [Bool.not_true,cond_false]
 generalize hx:nk (o8 (u.1.2.2.1.getD j.1.toNat bg) j.2.2.2.1) j.2.2.2.2.1=x
 have hq:(yg (u.1.2.2.1.getD j.1.toNat bg) j).1=j.1:=rfl
 cases e9:x.1==9 with
 | true =>
  obtain ⟨b,eb⟩:=amV (k:=k) (l:=jr u.1.2.2.2.2.2.2.2.2.1) (s:=x.2.1) (t:=j.1) (by omega) (by omega)
  rw [cond_true,cond_true,K6 hk hle,Option.bind_some,hq,eb,Option.bind_some,YS hk hT (by rw [NW];omega),Option.bind_some]
  simp only [Z8]
  exact fin _ rfl rfl rfl
 | false =>
  rw [cond_false,cond_false]
  cases e10:x.1==10 with
  | true =>
   obtain ⟨b,eb⟩:=amW (k:=k) (l:=jr u.1.2.2.2.2.2.2.2.2.1) (s:=x.2.1) (t:=j.1) (by omega) (by omega)
   rw [cond_true,cond_true,K6 hk hle,Option.bind_some,hq,eb,Option.bind_some,YS hk hT (by rw [UK];omega),Option.bind_some]
   simp only [Z8]
   exact fin _ rfl rfl rfl
  | false =>
   rw [cond_false,cond_false]
   exact fin _ rfl rfl rfl
def JL (t:iw) (j:jc):jc :=
 bif (j.2.2.2.1==0)&&decide ((t.2.2.2.2.1.length:Int)>0) then (j.1,j.2.1,j.2.2.1,1,Vh j.2.2.1,Vh j.2.2.1,[],j.2.2.2.2.2.2.2)
 else (j.1,j.2.1,j.2.2.1,j.2.2.2.1,j.2.2.2.2.2.1,j.2.2.2.2.2.1,[],j.2.2.2.2.2.2.2)
def ag3 (t:iw) (j:jc):jc×Int:=bif j.2.2.2.1==2 then (j,13) else (JL t j,bif (j.2.2.2.1==0)&&decide ((t.2.2.2.2.1.length:Int)>0) then 7 else 6)
theorem am1 {k:Nat} {t:iw} {j:jc} (h:JS j):alD k t j=some ((JL t j,()),()):=by
 unfold alD V9 JL
 have hm:=QZ (k:=k) (m:=j.2.2.2.2.2.1) (by have:=h.kept;omega)
 rw [YV h,Option.bind_some,hm]
 cases j.2.2.2.1==0 with
 | false=>rfl
 | true=>rw [Bool.true_and,cond_true];cases decide ((t.2.2.2.2.1.length:Int)>0) <;> rfl
theorem am2 {k:Nat} (hk:1000 <= k) {t:iw} {j:jc} (h:JS j) (ht:j.1 <= 1000) {l:List jf} (hl:l.length <= 900):alE k t j l=some (((ag3 t j).1,J8 l j.1,(ag3 t j).2,()),()):=by
 unfold alE ag3
 rw [am1 h,Option.bind_some,afU hk hl ht,Option.bind_some]
 cases hp:j.2.2.2.1==2 with
 | true =>
  rw [cond_true,YR hk h,Option.bind_some,UD h];rfl
 | false =>
  simp only [cond_false]
  unfold JL
  cases hp0:j.2.2.2.1==0 with
  | false=>simp
  | true =>
   have:j.2.2.2.1=0:=by simpa using hp0
   cases decide ((t.2.2.2.2.1.length:Int)>0) with
   | true=>simp [this]
   | false=>simp
noncomputable def M0 (k:Nat) (u:jg) (j:jc):LZ :=
 let r:=ag3 (u.1.2.2.1.getD j.1.toNat bg) j
 (r.2==13,j4 (GV k u.1 (J8 (jr u.1.2.2.2.2.2.2.2.2.1) j.1),u.2) (0,r.2,r.1.1,0,0,0),r.1)
theorem am3 {k:Nat} (hk:1000 <= k) {u:jg} {j:jc} (hts:u.1.2.2.1.length <= 900) (hT:uy u.1.2.2.2.2.2.2.2.2.1) (h:JS j) (htk:0 <= j.1 /\ j.1<(u.1.2.2.1.length:Int)) (he:u.2.length <= 980000) :
  alF k u j=some (((M0 k u j).1,()),zh (M0 k u j).2.1,trJ (M0 k u j).2.2,()):=by
 have hle:=hT.1.2.2
 have hsl:=uh u.1.2.2.2.2.2.2.2.2.1
 have hll:=vo u.1.2.2.2.2.2.2.2.2.1
 unfold alF M0
 rw [Lj htk.1 htk.2,K6 hk hle,Option.bind_some]
 simp only
 rw [am2 hk h (by omega) (by omega),Option.bind_some]
 simp only
 rw [YS hk hT (by rw [LW];omega),Option.bind_some]
 simp only [Z8]
 rw [CK (by show u.2.length <= _;omega),Option.bind_some]
 rfl
def NY (l:List jf) (t:Int) (s:Int×Bool) (x:Int):Int×Bool:=bif holdsV l x t&&(!s.2||decide ((rd l x s0).1<s.1)) then ((rd l x s0).1,true) else s
def ag4 (l:List jf) (held:List Int) (t:Int):Int×Bool:=held.foldl (NY l t) (0,false)
theorem akx (f:List (Int×Bool)) (x y:Int):Us (.int .i64) .bool x (vL (.int .i64) .bool y true f) false=(x==y||Us (.int .i64) .bool x f false):=by
 unfold Us
 rw [JZ (tk:=.int .i64) (tv:=.bool) (fun a b=>by simp [fC]) y x true f]
 by_cases e:x=y
 ·subst e;rw [if_pos (by simp [fC])];simp
 ·rw [if_neg (by simp [fC,e]),beq_eq_false_iff_ne.2 e,Bool.false_or]
theorem am4 {k:Nat} (hk:1000 <= k) {l:List jf} {held:List Int} (hl:held.length <= 900) {t:Int} (ht:t <= 1000):ajc k l held t=some (((ag4 l held t).1,(ag4 l held t).2,()),()):=by
 have key:∀ (m i j:Nat) (s:Int×Bool) (f:List (Int×Bool)),i+m=held.length -> m<j -> (∀ x,Us (.int .i64) .bool x f false=true -> s.2=true /\ s.1 <= (rd l x s0).1) ->
   Y9 k j l t s.1 s.2 f held (held.length:Int) (i:Int)=some ((((held.drop i).foldl (NY l t) s).1,((held.drop i).foldl (NY l t) s).2,()),()):=by
  intro m
  induction m with
  | zero =>
   intro i j s f hi hj hf
   obtain ⟨j,rfl⟩:∃ i,j=i+1:=⟨j - 1,by omega⟩
   rw [aaQ,Y8,Sd (by omega),drop_nil (by omega)];rfl
  | succ m ih =>
   intro i j s f hi hj hf
   obtain ⟨j,rfl⟩:∃ i,j=i+1:=⟨j - 1,by omega⟩
   have hi':i<held.length:=by omega
   rw [aaQ,Y8,Sc (by omega),Qo hi',Qp,YT ht,Option.bind_some,Mi (by omega),drop_cons 0 hi',List.foldl_cons]
   generalize held.getD i 0=x
   simp only
   cases hh:holdsV l x t with
   | false =>
    rw [Bool.not_false,cond_true,show NY l t s x=s by unfold NY;rw [hh];rfl]
    exact ih (i+1) j s f (by omega) (by omega) hf
   | true =>
    have hin:0 <= x /\ x<(l.length:Int):=by
     unfold holdsV at hh
     simp only [Bool.and_eq_true,decide_eq_true_eq] at hh
     exact ⟨hh.1,hh.2.1⟩
    rw [Bool.not_true,cond_false]
    cases hs:Us (.int .i64) .bool x f false with
    | true =>
     obtain ⟨q1,q2⟩:=hf x hs
     rw [cond_true,show NY l t s x=s by unfold NY;rw [hh,q1,decide_eq_false (by omega)];rfl]
     exact ih (i+1) j s f (by omega) (by omega) hf
    | false =>
     rw [cond_false]
     have nf:∀ s2:Int×Bool,s2.2=true -> s2.1 <= (rd l x s0).1 -> (s.2=true -> s2.1 <= s.1) -> ∀ y,Us (.int .i64) .bool y (vL (.int .i64) .bool x true f) false=true -> s2.2=true /\ s2.1 <= (rd l y s0).1:=fun s2 h1 h2 h3 y hy=>by
      rw [akx,Bool.or_eq_true,beq_iff_eq] at hy
      rcases hy with q | q
      ·rw [q];exact ⟨h1,h2⟩
      ·obtain ⟨q1,q2⟩:=hf y q
       exact ⟨h1,by have:=h3 q1;omega⟩
     cases hb:s.2 with
     | false =>
      rw [Bool.not_false,cond_true,Lj hin.1 hin.2,show NY l t s x=((rd l x s0).1,true) by unfold NY;rw [hh,hb];rfl]
      exact ih (i+1) j ((rd l x s0).1,true) _ (by omega) (by omega) (nf _ rfl (Int.le_refl _) (fun h=>by rw [hb] at h;cases h))
     | true =>
      rw [Bool.not_true,cond_false,Lj hin.1 hin.2]
      by_cases hc:(rd l x s0).1<s.1
      ·rw [Sc hc,Lj hin.1 hin.2,show NY l t s x=((rd l x s0).1,true) by unfold NY;rw [hh,hb,decide_eq_true hc];rfl]
       exact ih (i+1) j ((rd l x s0).1,true) _ (by omega) (by omega) (nf _ rfl (Int.le_refl _) (fun _=>by show (rd l x s0).1 <= _;omega))
      ·rw [Sd hc,show NY l t s x=s by unfold NY;rw [hh,hb,decide_eq_false hc];rfl]
       have e:=ih (i+1) j s (vL (.int .i64) .bool x true f) (by omega) (by omega) (nf s hb (by omega) (fun _=>Int.le_refl _))
       rw [hb] at e;exact e
 unfold ajc
 exact key held.length 0 k (0,false) [] (by omega) (by omega) (fun x h=>by simp [Us,jB] at h)
abbrev Pk3:Type:=Int×Int×Int
abbrev pk0:Pk3:=(0,0,0)
def afZ (n:Int) (j:jc):Int:=bif j.2.2.2.1==2 then n+n+j.1 else bif j.2.2.2.2.2.2.2 then j.1 else n+j.1
def F9 (n:Int) (l:List jf) (j:jc):Pk3:=(bif (ag4 l j.2.2.2.2.2.2.1 j.1).2 then mn (afZ n j) (ag4 l j.2.2.2.2.2.2.1 j.1).1 else afZ n j,bif (ag4 l j.2.2.2.2.2.2.1 j.1).2 then 0 else 1,j.1)
def K8 (a b:Int):Int:=bif decide (a<b) then -1 else bif decide (a>b) then 1 else 0
def UL (p q:Pk3):Int:=bif K8 p.1 q.1 != 0 then K8 p.1 q.1 else bif K8 p.2.1 q.2.1 != 0 then K8 p.2.1 q.2.1 else K8 p.2.2 q.2.2
theorem YW (k:Nat) (a b:Int):agz k a b=some ((K8 a b,()),()):=by
 unfold agz alz K8
 simp only [Option.bind_some,bne_self_eq_false,cond_false]
 cases decide (a<b) with
 | true=>rfl
 | false=>cases decide (a>b) <;> rfl
theorem af0 {k:Nat} (hk:1000 <= k) (p q:Pk3):agA k p q=some ((UL p q,()),()):=by
 unfold agA UL
 rw [YW,Option.bind_some,YW,Option.bind_some,YW,Option.bind_some]
 simp only
 generalize K8 p.1 q.1=a
 generalize K8 p.2.1 q.2.1=b
 generalize K8 p.2.2 q.2.2=c
 unfold aoO
 obtain ⟨k,rfl⟩:∃ m,k=m+4:=⟨k - 4,by omega⟩
 rw [KX,MU,Sc (by simp),Lj (by omega) (by simp)]
 show Option.bind (bif a != 0 then _ else _) _=_
 cases a != 0 with
 | true=>rfl
 | false =>
  rw [cond_false,cond_false,show IntKind.i64.wrap ((0:Int)+1)=1 from rfl,KX,MU,Sc (by simp),Lj (by omega) (by simp)]
  show Option.bind (bif b != 0 then _ else _) _=_
  cases b != 0 with
  | true=>rfl
  | false =>
   rw [cond_false,cond_false,show IntKind.i64.wrap ((1:Int)+1)=2 from rfl,KX,MU,Sc (by simp),Lj (by omega) (by simp)]
   show Option.bind (bif c != 0 then _ else _) _=_
   cases hc:c != 0 with
   | true=>rfl
   | false =>
    have:c=0:=by simpa using hc
    subst this
    rw [cond_false,show IntKind.i64.wrap ((2:Int)+1)=3 from rfl,KX,MU,Sd (by simp)]
    rfl
theorem am5 {k:Nat} (hk:1000 <= k) {j:jc} (h:JS j) {n:Int} (hn:0 <= n /\ n <= 1000) (ht:0 <= j.1 /\ j.1 <= 1000) (l:List jf):aly k j n l=some ((F9 n l j,()),()):=by
 have hh:=h.held
 have hb:ajd k j n=some ((afZ n j,()),()):=by
  unfold ajd afZ
  cases j.2.2.2.1==2 with
  | true=>simp only [cond_true];rw [Uu (n:=n+n) (by omega) (by omega),Uu (by omega) (by omega)]
  | false =>
   simp only [cond_false]
   cases j.2.2.2.2.2.2.2 with
   | true=>rfl
   | false=>simp only [cond_false];rw [Uu (by omega) (by omega)]
 unfold aly aoN F9
 rw [am4 hk (by omega) ht.2,Option.bind_some,hb]
 simp only
 cases (ag4 l j.2.2.2.2.2.2.1 j.1).2 <;> rfl
theorem af2 {k:Nat} {i:Nat} (hi:i<8):ajf k 0 (i:Int)=some ((((2 ^ i:Nat):Int),()),()):=by
 have:i=0 \/ i=1 \/ i=2 \/ i=3 \/ i=4 \/ i=5 \/ i=6 \/ i=7:=by omega
 rcases this with rfl | rfl | rfl | rfl | rfl | rfl | rfl | rfl <;> (show _=_;kernel_rfl)
theorem ag5 {k:Nat} (hk:1000 <= k) {i:Nat} (hi:i<8):aoR k ((2 ^ i:Nat):Int)=some (((i:Int),true,()),()):=by
 have:i=0 \/ i=1 \/ i=2 \/ i=3 \/ i=4 \/ i=5 \/ i=6 \/ i=7:=by omega
 obtain ⟨k,rfl⟩:∃ m,k=m+1000:=⟨k - 1000,by omega⟩
 rcases this with rfl | rfl | rfl | rfl | rfl | rfl | rfl | rfl <;> (show _=_;kernel_rfl)
def YX (l:List Pk3):Nat -> Nat -> Nat -> Nat
 | 0,_,m=>m
 | d+1,i,m=>YX l d (i+1) (if UL (l.getD i pk0) (l.getD m pk0)<0 then i else m)
theorem YZ {l:List Pk3}:∀ (d i m:Nat),i+d=l.length -> m<l.length -> YX l d i m<l.length
 | 0,_,m,_,h=>h
 | d+1,i,m,h,hm=>by
  rw [YX]
  exact YZ d (i+1) _ (by omega) (by split <;> omega)
theorem NZ {k:Nat} (hk:1000 <= k) {l:List Pk3} (hl:l.length <= 8) (hd:∀ a b,a<l.length -> b<l.length -> a≠b -> UL (l.getD a pk0) (l.getD b pk0)≠0):∀ (d i j m:Nat),i+d=l.length -> d<j -> m<i ->
  MV k j (l.getD m pk0).1 (l.getD m pk0).2.1 (l.getD m pk0).2.2 ((2 ^ m:Nat):Int) l (l.length:Int) (i:Int)=some ((((YX l d i m:Nat):Int),()),())
 | 0,i,j,m,h,hjj,hm=>by
  obtain ⟨j',rfl⟩:∃ j',j=j'+1:=⟨j - 1,by omega⟩
  rw [SY,SX,Sd (by omega),ag5 hk (by omega)]
  rfl
 | d+1,i,j,m,h,hjj,hm=>by
  obtain ⟨j',rfl⟩:∃ j',j=j'+1:=⟨j - 1,by omega⟩
  have hi:i<l.length:=by omega
  have hne:=hd i m hi (by omega) (by omega)
  rw [SY,SX,Sc (by omega),Qo hi,Qp,show ((l.getD m pk0).1,(l.getD m pk0).2.1,(l.getD m pk0).2.2)=l.getD m pk0 from rfl,af0 hk,Option.bind_some,YX,Mi (by omega)]
  simp only
  by_cases hc:UL (l.getD i pk0) (l.getD m pk0)<0
  ·rw [Sc hc,if_pos hc,af2 (by omega),Option.bind_some]
   exact NZ hk hl hd d (i+1) j' i (by omega) (by omega) (by omega)
  ·rw [Sd hc,if_neg hc,beq_eq_false_iff_ne.2 hne,cond_false]
   exact NZ hk hl hd d (i+1) j' m (by omega) (by omega) (by omega)
theorem WL (p:Pk3):UL p p=0:=by
 unfold UL K8
 simp
theorem am6 {k:Nat} (hk:1000 <= k) {l:List Pk3} (hl:l.length <= 8) (h0:0<l.length) (hd:∀ a b,a<l.length -> b<l.length -> a≠b -> UL (l.getD a pk0) (l.getD b pk0)≠0):alA k l=some ((((YX l l.length 0 0:Nat):Int),()),()):=by
 unfold alA
 obtain ⟨d,hdd⟩:∃ d,l.length=d+1:=⟨l.length - 1,by omega⟩
 obtain ⟨j,hj⟩:∃ j,k=j+1:=⟨k - 1,by omega⟩
 rw [Lj (by omega) (by omega)]
 conv=>lhs;rw [show ∀ a b c r l n i,MV k k a b c r l n i=MV k (j+1) a b c r l n i from fun a b c r l n i=>by rw [<- hj]]
 rw [SY,SX,Sc (by omega),Lj (by omega) (by omega)]
 show Option.bind (agA k (l.getD 0 pk0) (l.getD 0 pk0)) _=_
 rw [af0 hk,WL,Option.bind_some]
 simp only [beq_self_eq_true,cond_true]
 rw [Sd (by omega)]
 have:=af2 (k:=k) (i:=0) (by omega)
 rw [show ajf k 0 0=_ from this,Option.bind_some,hdd,YX,if_neg (by rw [WL];omega)]
 have e:=NZ hk hl hd d 1 j 0 (by omega) (by omega) (by omega)
 rw [hdd] at e
 exact e
theorem WM {k:Nat} (hk:1000 <= k) {n:Int} (hn:0 <= n /\ n <= 1000) {l:List jf} {js:List jc} (hl:js.length <= 900) (hj:∀ j∈js,JS j /\ 0 <= j.1 /\ j.1 <= 1000):∀ (d i j:Nat),i+d=js.length -> d<j ->
  Yb k j n l 0 false ((js.take i).map (F9 n l)) js (js.length:Int) (i:Int)=MW k k 0 false (js.map (F9 n l)) 0
 | 0,i,j,h,hjj=>by
  obtain ⟨j',rfl⟩:∃ j',j=j'+1:=⟨j - 1,by omega⟩
  rw [aaR,Ya,Sd (by omega),List.take_of_length_le (by omega)]
 | d+1,i,j,h,hjj=>by
  obtain ⟨j',rfl⟩:∃ j',j=j'+1:=⟨j - 1,by omega⟩
  have hi:i<js.length:=by omega
  have hh:=hj _ (jl (z:=ay) hi)
  rw [aaR,Ya,Sc (by omega),Qo hi,Qp,am5 hk hh.1 hn hh.2 l,Option.bind_some,Rz (by simp;omega),Mi (by omega)]
  have e:(js.take i).map (F9 n l)++[F9 n l (js.getD i ay)]=(js.take (i+1)).map (F9 n l):=by
   rw [List.take_succ_eq_append_getElem hi,List.map_append,getD_in hi];rfl
  rw [e]
  exact WM hk hn hl hj d (i+1) j' (by omega) (by omega)
def PL (js:List jc) (n:Int) (l:List jf):Nat:=YX (js.map (F9 n l)) js.length 0 0
def an8 (js:List jc) (n:Int) (l:List jf):Prop:=∀ a b,a<js.length -> b<js.length -> a≠b -> UL (F9 n l (js.getD a ay)) (F9 n l (js.getD b ay))≠0
theorem E8 {α β:Type} {f:α -> β} {l:List α} {i:Nat} (z:α) (w:β) (h:i<l.length):(l.map f).getD i w=f (l.getD i z):=by
 rw [getD_in (by rw [List.length_map];exact h),getD_in h,List.getElem_map]
theorem am7 {k:Nat} (hk:1000 <= k) {n:Int} (hn:0 <= n /\ n <= 1000) {l:List jf} {js:List jc} (hl:js.length <= 8) (hj:∀ j∈js,JS j /\ 0 <= j.1 /\ j.1 <= 1000) (hd:an8 js n l) :
  alC k js n l=some ((((PL js n l:Nat):Int),!(js.isEmpty),()),()):=by
 unfold alC
 have e:=WM (l:=l) hk hn (by omega) hj js.length 0 k (by omega) (by omega)
 rw [List.take_zero,List.map_nil] at e
 refine e.trans ?_
 have hlen:(js.map (F9 n l)).length=js.length:=List.length_map _
 by_cases h0:js.length=0
 ·have:js=[]:=List.eq_nil_of_length_eq_zero h0
  subst this
  obtain ⟨k,rfl⟩:∃ m,k=m+1:=⟨k - 1,by omega⟩
  rw [TB,TA,Sd (by simp)]
  rfl
 ·obtain ⟨j,hjk⟩:∃ j,k=j+2:=⟨k - 2,by omega⟩
  have hf:=am6 hk (l:=js.map (F9 n l)) (by omega) (by omega) (fun a b ha hb hab=>by
   rw [E8 ay _ (by omega),E8 ay _ (by omega)]
   exact hd a b (by omega) (by omega) hab)
  have hsub:sub (js.map (F9 n l)) 0 (mn (IntKind.i64.wrap (0+64)) ((js.map (F9 n l)).length:Int))=js.map (F9 n l):=by
   have hm:mn (IntKind.i64.wrap (0+64)) ((js.map (F9 n l)).length:Int)=(js.length:Int):=by
    rw [Sg,Uu (by omega) (by omega)];omega
   rw [hm]
   unfold sub
   rw [List.take_of_length_le (by rw [hlen];omega)];rfl
  have hmin:=YZ (l:=js.map (F9 n l)) js.length 0 0 (by omega) (by omega)
  have hem:js.isEmpty=false:=by cases js with | nil=>simp at h0 | cons a l=>rfl
  conv=>lhs;rw [show ∀ a b c d,MW k k a b c d=MW k (j+1+1) a b c d from fun a b c d=>by rw [<- hjk]]
  rw [TB,TA,Sc (by omega),Rx (by omega) (by rw [Sg,Uu (by omega) (by omega)];omega) (by rw [Sg];omega),hsub,hf,Option.bind_some]
  simp only [Bool.not_false,cond_true]
  rw [TB,TA,Sd (by rw [Uu (by omega) (by omega)];omega),hlen,hem,Uu (n:=0+((YX (js.map (F9 n l)) js.length 0 0:Nat):Int)) (by omega) (by omega),Int.zero_add]
  rfl
theorem ag6 {a b:Int}:K8 a b=0↔a=b:=by
 unfold K8
 by_cases h:a<b
 ·rw [Sc h];constructor <;> intro h2 <;> omega
 ·rw [Sd h]
  by_cases h3:a>b
  ·rw [Sc h3];constructor <;> intro h2 <;> omega
  ·rw [Sd h3];constructor
   ·intro _;omega
   ·intro _;rfl
theorem ag7 {p q:Pk3} (h:UL p q=0):p.2.2=q.2.2:=by
 unfold UL at h
 cases h1:K8 p.1 q.1 != 0 with
 | true=>rw [h1,cond_true] at h;simp [h] at h1
 | false =>
  rw [h1,cond_false] at h
  cases h2:K8 p.2.1 q.2.1 != 0 with
  | true=>rw [h2,cond_true] at h;simp [h] at h2
  | false=>rw [h2,cond_false] at h;exact ag6.1 h
def rising (js:List jc):Prop:=js.Pairwise (fun a b=>a.1<b.1)
theorem ag8 {js:List jc} (h:rising js) {a b:Nat} (ha:a<js.length) (hb:b<js.length) (hab:a≠b):(js.getD a ay).1≠(js.getD b ay).1:=by
 rw [getD_in ha,getD_in hb]
 have:=List.pairwise_iff_getElem.1 h
 rcases Nat.lt_or_gt_of_ne hab with hl | hl
 ·have:=this a b ha hb hl;omega
 ·have:=this b a hb ha hl;omega
theorem abH {js:List jc} (h:rising js) (n:Int) (l:List jf):an8 js n l:=fun a b ha hb hab e=>ag8 h ha hb hab (ag7 e)
theorem CQ:∀ {js:List jc} {lo n:Int},rising js -> (∀ j∈js,lo <= j.1 /\ j.1<n) -> lo <= n -> (js.length:Int) <= n - lo
 | [],lo,n,_,_,h=>by simp;omega
 | a::js,lo,n,h,hb,hl=>by
  have h1:=List.pairwise_cons.1 h
  have ha:=hb a List.mem_cons_self
  have:=CQ (lo:=a.1+1) h1.2 (fun j hj=>⟨by have:=h1.1 j hj;omega,(hb j (List.mem_cons_of_mem _ hj)).2⟩) (by omega)
  simp only [List.length_cons];omega
theorem rising_map {f:jc -> jc} (hf:∀ j,(f j).1=j.1) {js:List jc} (h:rising js):rising (js.map f):=by
 unfold rising
 rw [List.pairwise_map]
 exact List.Pairwise.imp (fun {a b} hab=>by rw [hf,hf];exact hab) h
theorem af3 {k:Nat} {js:List jc} {i:Nat} {x:jc} (h:i<js.length) (hl:js.length <= 900):S72 k (upd js (i:Int) x) (i:Int) (IntKind.i64.wrap ((i:Int)+1))=some ((js.take i++js.drop (i+1),()),()):=by
 unfold S72 Jk
 rw [Mi (by omega),Mj]
 refine (if_pos ?_).trans ?_
 ·simp only [Bool.and_eq_true]
  refine ⟨decide_eq_true (by show (0:Int) <= (i:Int);omega),decide_eq_true (by show (i:Int) <= ((i+1:Nat):Int);omega),decide_eq_true ?_⟩
  show ((i+1:Nat):Int) <= ((js.set i x).length:Int)
  rw [List.length_set];omega
 ·show some (((js.set i x).take (i:Int).toNat++(js.set i x).drop ((i+1:Nat):Int).toNat,()),())=_
  rw [Int.toNat_natCast,Int.toNat_natCast,List.take_set_of_le (by omega),List.drop_set_of_lt (by omega)]
theorem UM (u:jg) (j:jc):(qp u j).2.1.1=u.1 \/ ∃ w,(qp u j).2.1.1=z9 u.1 w /\ w.1.length=u.1.2.2.2.2.2.2.2.2.2.1.length /\ w.2=u.1.2.2.2.2.2.2.2.2.2.2:=by
 unfold qp
 cases j.2.2.2.1==2 with
 | true=>exact .inl rfl
 | false =>
  refine .inr ⟨(u.1.2.2.2.2.2.2.2.2.2.1.set j.1.toNat 0,u.1.2.2.2.2.2.2.2.2.2.2),?_,by simp,rfl⟩
  rw [cond_false]
  cases (j.2.2.2.1==0)&&decide (((u.1.2.2.1.getD j.1.toNat bg).2.2.2.2.1.length:Int)>0) <;> rfl
def CH (K K2:jd):Prop:=∃ T w,K2=w8 (z9 K w) T /\ (uy K.2.2.2.2.2.2.2.2.1 -> uy T) /\ T.2.length=K.2.2.2.2.2.2.2.2.1.2.length /\ (uy K.2.2.2.2.2.2.2.2.1 -> jm T=jm K.2.2.2.2.2.2.2.2.1) /\ w.1.length=K.2.2.2.2.2.2.2.2.2.1.length /\ w.2.length=K.2.2.2.2.2.2.2.2.2.2.length
theorem CH.refl (K:jd):CH K K:=⟨_,_,rfl,id,rfl,fun _=>rfl,rfl,rfl⟩
theorem CH.lock {K:jd} (h:uy K.2.2.2.2.2.2.2.2.1) (k:Nat) (l:List jf):CH K (GV k K l):=by
 obtain ⟨g1,g2,g3,g4,_⟩:=E5 (k:=k) h l
 exact ⟨_,_,rfl,fun _=>g1,g2,fun _=>g3,rfl,rfl⟩
theorem CH.done {K:jd} {u:jg} (h:CH K u.1) (j:jc):CH K (qp u j).2.1.1:=by
 obtain ⟨T,w,e,h1,h2,h3,h4,h5⟩:=h
 rcases UM u j with q | ⟨w2,q,q1,q2⟩
 ·rw [q];exact ⟨T,w,e,h1,h2,h3,h4,h5⟩
 ·rw [q,e]
  rw [e] at q1 q2
  exact ⟨T,w2,rfl,h1,h2,h3,q1.trans h4,by rw [q2];exact h5⟩
theorem CH.goes {u:jg} (h:uy u.1.2.2.2.2.2.2.2.2.1) (k:Nat) (j:jc):CH u.1 (JK k u j).2.1.1:=by
 unfold JK
 simp only
 generalize nk (o8 (u.1.2.2.1.getD j.1.toNat bg) j.2.2.2.1) j.2.2.2.2.1=x
 have fin:∀ v:jg,CH u.1 v.1 -> CH u.1 ((bif (yg (u.1.2.2.1.getD j.1.toNat bg) j).2.2.2.2.1.2.2.2 then qp v (yg (u.1.2.2.1.getD j.1.toNat bg) j) else (false,v,yg (u.1.2.2.1.getD j.1.toNat bg) j)):LZ).2.1.1:=fun v hv=>by
  cases (yg (u.1.2.2.1.getD j.1.toNat bg) j).2.2.2.2.1.2.2.2 with
  | false=>exact hv
  | true=>exact hv.done _
 cases x.1==9 with
 | true=>exact fin _ (CH.lock h k _)
 | false =>
  cases x.1==10 with
  | true=>exact fin _ (CH.lock h k _)
  | false=>exact fin _ (CH.refl _)
theorem CH.hits {u:jg} (h:uy u.1.2.2.2.2.2.2.2.2.1) (k:Nat) (j:jc):CH u.1 (M0 k u j).2.1.1:=CH.lock h k _
noncomputable def M4 (k:Nat) (u:jg) (j:jc):LZ:=bif u.1.2.2.2.2.2.2.1 then M0 k (j4 u (0,2,j.1,0,0,0)) j else JK k (j4 u (0,2,j.1,0,0,0)) j
theorem CH.run {u:jg} (h:uy u.1.2.2.2.2.2.2.2.2.1) (k:Nat) (j:jc):CH u.1 (M4 k u j).2.1.1:=by
 unfold M4
 cases u.1.2.2.2.2.2.2.1 with
 | true=>exact CH.hits (u:=j4 u (0,2,j.1,0,0,0)) h k j
 | false=>exact CH.goes (u:=j4 u (0,2,j.1,0,0,0)) h k j
noncomputable def FV (k:Nat) (u:jg):jg :=
 bif u.1.2.2.2.2.2.1||u.1.2.2.2.2.2.2.2.1.isEmpty then u
 else
  let i:=PL u.1.2.2.2.2.2.2.2.1 (u.1.2.2.1.length:Int) (jr u.1.2.2.2.2.2.2.2.2.1)
  let r:=M4 k u (u.1.2.2.2.2.2.2.2.1.getD i ay)
  (w7 r.2.1.1 (bif r.1 then u.1.2.2.2.2.2.2.2.1.take i++u.1.2.2.2.2.2.2.2.1.drop (i+1) else u.1.2.2.2.2.2.2.2.1.set i r.2.2),r.2.1.2)
theorem next_lt {js:List jc} (h:js.isEmpty=false) (n:Int) (l:List jf):PL js n l<js.length:=by
 have h0:0<js.length:=by cases js with | nil=>simp at h | cons a l=>simp
 have:=YZ (l:=js.map (F9 n l)) js.length 0 0 (by simp) (by simpa using h0)
 simpa [PL] using this
theorem apm {k:Nat} (hk:1000 <= k) {u:jg} (hL:p8 u.1.2.2.1) (h8:u.1.2.2.1.length <= 8) (hT:uy u.1.2.2.2.2.2.2.2.2.1) (hj:∀ j∈u.1.2.2.2.2.2.2.2.1,GO u.1 j) (hris:rising u.1.2.2.2.2.2.2.2.1) (hr:u.1.2.2.2.2.2.2.2.2.2.1.length=u.1.2.2.1.length) (ho:u.1.2.2.2.2.2.2.2.2.2.2.length <= 900) (he:u.2.length <= 970000) :
  S81 k u=some ((),zh (FV k u),()):=by
 have hlen:=CQ hris (fun j h=>(hj j h).task) (by omega)
 have hle:=hT.1.2.2
 unfold S81 FV
 rw [K6 hk hle,Option.bind_some]
 simp only
 rw [am7 hk ⟨by omega,by omega⟩ (by omega) (fun j h=>⟨(hj j h).js,by have:=(hj j h).task;omega⟩) (abH hris _ _),Option.bind_some]
 simp only
 cases hh:u.1.2.2.2.2.2.1 with
 | true=>rfl
 | false =>
  rw [cond_false,Bool.false_or]
  cases hem:u.1.2.2.2.2.2.2.2.1.isEmpty with
  | true=>rfl
  | false =>
   have hmin:=next_lt hem (u.1.2.2.1.length:Int) (jr u.1.2.2.2.2.2.2.2.2.1)
   generalize PL u.1.2.2.2.2.2.2.2.1 (u.1.2.2.1.length:Int) (jr u.1.2.2.2.2.2.2.2.2.1)=i at hmin ⊢
   have hin:=hj _ (jl (z:=ay) hmin)
   simp only [Bool.not_false,Bool.not_true,cond_false]
   rw [Qo hmin,Qp,CK (by omega),Option.bind_some]
   simp only [Z8]
   generalize u.1.2.2.2.2.2.2.2.1.getD i ay=j at hin ⊢
   have tail:∀ r:LZ,CH u.1 r.2.1.1 -> (ix r.2.1.1.2.2.2.2.2.2.2.1 (i:Int) (bif r.1 then (S72 k (upd r.2.1.1.2.2.2.2.2.2.2.1 (i:Int) r.2.2) (i:Int) (IntKind.i64.wrap ((i:Int)+1))).bind (fun q=>some ((),zh (w7 r.2.1.1 q.1.1,r.2.1.2),())) else some ((),zh (w7 r.2.1.1 (upd r.2.1.1.2.2.2.2.2.2.2.1 (i:Int) r.2.2),r.2.1.2),())):Option (Unit×(Int×Int×List iw×List WC×Bool×Bool×Bool×List jc×List Int×List Bool×List Th×List Int×List Bool×List je×Unit)×Unit))=some ((),zh (w7 r.2.1.1 (bif r.1 then u.1.2.2.2.2.2.2.2.1.take i++u.1.2.2.2.2.2.2.2.1.drop (i+1) else u.1.2.2.2.2.2.2.2.1.set i r.2.2),r.2.1.2),()):=fun r hc=>by
    have ejs:r.2.1.1.2.2.2.2.2.2.2.1=u.1.2.2.2.2.2.2.2.1:=by obtain ⟨T,w,e,_⟩:=hc;rw [e];rfl
    rw [ejs,Qo hmin,af3 hmin (by omega),Option.bind_some,Mj]
    cases r.1 <;> rfl
   have hc:=CH.run (u:=u) hT k j
   unfold M4 at hc ⊢
   rw [show (j4 u (0,2,j.1,0,0,0)).1.2.2.2.2.2.2.1=u.1.2.2.2.2.2.2.1 from rfl]
   have het:(j4 u (0,2,j.1,0,0,0)).2.length <= 980000:=by simp [j4];omega
   cases hhi:u.1.2.2.2.2.2.2.1 with
   | true =>
    rw [hhi,cond_true] at hc
    rw [cond_true,cond_true,am3 (u:=j4 u (0,2,j.1,0,0,0)) hk (by show u.1.2.2.1.length <= 900;omega) hT hin.js hin.task het,Option.bind_some]
    simp only [Z8,vrJ]
    exact tail _ hc
   | false =>
    rw [hhi,cond_false] at hc
    rw [cond_false,cond_false,am0 (u:=j4 u (0,2,j.1,0,0,0)) hk hL hT hin hr ho het,Option.bind_some]
    simp only [Z8,vrJ]
    exact tail _ hc
structure KJ (K:jd):Prop where
 ji:JI K
 FY:K.2.2.1.length <= 8
 go:∀ j∈K.2.2.2.2.2.2.2.1,GO K j
 R7:rising K.2.2.2.2.2.2.2.1
theorem KJ.len {K:jd} (h:KJ K):K.2.2.2.2.2.2.2.1.length <= 8:=by
 have:=CQ h.R7 (fun j hj=>(h.go j hj).task) (by omega)
 have:=h.FY
 omega
theorem GO.congr {K K2:jd} {j:jc} (h:GO K j) (e:K2.2.2.1=K.2.2.1):GO K2 j:=⟨h.js,h.few,h.held,by rw [e];exact h.task,h.phase,by rw [e];exact h.m⟩
theorem UN {K:jd} {k:Nat}:∀ (js:List jc) (s:jg×List jc),UI K s.1 -> UI K (js.foldl (BK k) s).1 /\ (js.foldl (BK k) s).1.2.length <= s.1.2.length+3 * js.length /\ ∃ l,l.Sublist js /\ (js.foldl (BK k) s).2=s.2++l
 | [],s,h=>⟨h,by simp,[],List.Sublist.refl _,by simp⟩
 | j::js,s,h=>by
  obtain ⟨g1,g2,g3⟩:=h.end_ (k:=k) j
  obtain ⟨f1,f2,l,f3,f4⟩:=UN (k:=k) js (BK k s j) g1
  rw [List.foldl_cons]
  refine ⟨f1,by simp only [List.length_cons];omega,?_⟩
  have:(BK k s j).2=s.2++[j] \/ (BK k s j).2=s.2:=by
   unfold BK
   cases IntKind.i64.wrap (s.1.1.1 - j.2.1) != (s.1.1.2.2.1.getD j.1.toNat bg).2.2.1 with
   | true=>exact .inl rfl
   | false=>cases j.2.2.2.1==2 <;> exact .inr rfl
  rcases this with q | q
  ·exact ⟨j::l,f3.cons_cons j,by rw [f4,q];simp⟩
  ·exact ⟨l,f3.cons j,by rw [f4,q]⟩
theorem GY (now:Int) (bs:List WC) (j:jc):xk now bs j=j \/ xk now bs j=z7 j true:=by
 unfold xk
 cases j.2.2.2.1 != 2 with
 | false=>exact .inl rfl
 | true =>
  rw [cond_true]
  cases decide (IntKind.i64.wrap (now - j.2.1)≥(bs.getD j.1.toNat bd0).2.2.2.2) with
  | false=>exact .inl rfl
  | true=>exact .inr rfl
theorem GO.prom {K:jd} {j:jc} (h:GO K j) (now:Int) (bs:List WC):GO K (xk now bs j):=by
 rcases GY now bs j with e | e <;> rw [e]
 ·exact h
 ·exact ⟨⟨h.js.m,h.js.kept,h.js.held,h.js.pos⟩,h.few,h.held,h.task,h.phase,h.m⟩
theorem GO.loses {K:jd} {j:jc} (h:GO K j) (s:Int):GO K (x9 j s):=by
 have hl:=List.length_filter_le (fun x=>!(x==s)) j.2.2.2.2.2.2.1
 exact ⟨WK h.js s,h.few,by have:=h.held;show (BG _ _).length <= 90;unfold BG;omega,h.task,h.phase,h.m⟩
def su (T:Tb) (ps:List Int) (j:jc):jc:=ps.foldl (fun j a=>bif decide (pq (fun x=>a==x) (ou (jm T))≥0) then x9 j (pq (fun x=>a==x) (ou (jm T))) else j) j
def M5 (now:Int):List Int -> List (List Int) -> List je
 | a::l,w=>[(now,11,0,a,0,0)]++(w.headD []).map (fun c=>(now,12,0,c,0,15))++M5 now l w.tail
 | [],_=>[]
theorem O1 {now:Int}:∀ (l:List Int) (w:List (List Int)),(∀ x∈w,x.length <= 200) -> (M5 now l w).length <= 201 * l.length
 | [],w,_=>by simp [M5]
 | a::l,[],h=>by have:=O1 (now:=now) l [] (by simp);simp only [M5,List.length_append,List.length_cons,List.length_nil,List.tail_nil,List.headD_nil,List.map_nil];omega
 | a::l,x::w,h=>by
  have:=O1 (now:=now) l w (fun y hy=>h y (by simp [hy]))
  have hx:=h x (by simp)
  simp only [M5,List.length_append,List.length_cons,List.length_nil,List.tail_cons,List.headD_cons,List.length_map];omega
theorem abI {T:Tb}:∀ (ps:List Int) (w:List (List Int)) (u:jg),u.1.2.2.2.2.2.2.2.2.1=T -> K7 ps w u=(w7 u.1 (u.1.2.2.2.2.2.2.2.1.map (su T ps)),u.2++M5 u.1.1 ps w)
 | [],w,u,h=>by
  unfold K7 su M5
  simp only [List.foldl_nil,List.map_id',List.append_nil];rfl
 | a::l,w,u,h=>by
  have hf:∀ (w:List Int) (u:jg),w.foldl LY u=(u.1,u.2++w.map (fun c=>(u.1.1,12,0,c,0,15))):=fun w=>by
   induction w with
   | nil=>intro u;simp
   | cons c w ih=>intro u;rw [List.foldl_cons,ih];simp [LY,j4]
  have e:abD u a (w.headD [])=(w7 u.1 (u.1.2.2.2.2.2.2.2.1.map fun j=>bif decide (pq (fun x=>a==x) (ou (jm T))≥0) then x9 j (pq (fun x=>a==x) (ou (jm T))) else j),u.2++([(u.1.1,11,0,a,0,0)]++(w.headD []).map (fun c=>(u.1.1,12,0,c,0,15)))):=by
   unfold abD
   simp only
   rw [hf,h]
   cases decide (pq (fun x=>a==x) (ou (jm T))≥0) with
   | true=>simp only [cond_true,j4,List.append_assoc]
   | false=>simp only [cond_false,j4,List.append_assoc,List.map_id'];rfl
  rw [K7,e,abI l w.tail _ (by exact h)]
  unfold su
  simp only [List.foldl_cons,M5,List.append_assoc]
  refine Prod.ext ?_ rfl
  show w7 (w7 u.1 _) (List.map _ (List.map _ _))=_
  rw [List.map_map]
  rfl
theorem UO (k:Nat) (u:jg) (hT:uy u.1.2.2.2.2.2.2.2.2.1):abE k u=(w7 (w8 u.1 (u.1.2.2.2.2.2.2.2.2.1.1,(qm k u.1.2.2.2.2.2.2.2.2.1).1)) (u.1.2.2.2.2.2.2.2.1.map (su u.1.2.2.2.2.2.2.2.2.1 (qm k u.1.2.2.2.2.2.2.2.2.1).2.1)),u.2++M5 u.1.1 (qm k u.1.2.2.2.2.2.2.2.2.1).2.1 (qm k u.1.2.2.2.2.2.2.2.2.1).2.2):=by
 have h3:=(QY (k:=k) hT).2.2.1
 have e:∀ (T T2:Tb) (ps:List Int),jm T2=jm T -> su T2 ps=su T ps:=fun T T2 ps h=>by funext j;unfold su;rw [h]
 unfold abE
 rw [abI (T:=(u.1.2.2.2.2.2.2.2.2.1.1,(qm k u.1.2.2.2.2.2.2.2.2.1).1)) _ _ _ rfl,e _ _ _ h3]
 rfl
theorem E9 {T:Tb}:∀ (ps:List Int) (j:jc),(su T ps j=w6 j (su T ps j).2.2.2.2.2.2.1) /\ (∀ x∈(su T ps j).2.2.2.2.2.2.1,x∈j.2.2.2.2.2.2.1) /\ ∀ K:jd,GO K j -> GO K (su T ps j)
 | [],j=>⟨rfl,fun x h=>h,fun K h=>h⟩
 | a::ps,j=>by
  unfold su
  rw [List.foldl_cons]
  cases decide (pq (fun x=>a==x) (ou (jm T))≥0) with
  | false=>exact E9 ps j
  | true =>
   rw [cond_true]
   obtain ⟨h1,h2,h3⟩:=E9 (T:=T) ps (x9 j (pq (fun x=>a==x) (ou (jm T))))
   exact ⟨h1,fun x hx=>(List.mem_filter.1 (h2 x hx)).1,fun K h=>h3 K (h.loses _)⟩
structure TI (K:jd) (u:jg):Prop where
 same:∃ h T w js,u.1=w7 (chg K h T w) js
 tab:uy u.1.2.2.2.2.2.2.2.2.1
 sem:jm u.1.2.2.2.2.2.2.2.2.1=jm K.2.2.2.2.2.2.2.2.1
 row:u.1.2.2.2.2.2.2.2.2.2.1.length=K.2.2.1.length
 of:u.1.2.2.2.2.2.2.2.2.2.2.length=K.2.2.1.length
 go:∀ j∈u.1.2.2.2.2.2.2.2.1,GO K j
 R7:rising u.1.2.2.2.2.2.2.2.1
 ev:u.2.length <= 100000
theorem TI.tasks {K:jd} {u:jg} (h:TI K u):u.1.2.2.1=K.2.2.1 /\ u.1.2.2.2.1=K.2.2.2.1 /\ u.1.1=K.1 /\ u.1.2.2.2.2.2.2.1=K.2.2.2.2.2.2.1:=by obtain ⟨a,b,c,d,e⟩:=h.same;rw [e];exact ⟨rfl,rfl,rfl,rfl⟩
theorem TI.len {K:jd} {u:jg} (h:TI K u) (h8:K.2.2.1.length <= 8):u.1.2.2.2.2.2.2.2.1.length <= 8:=by
 have:=CQ h.R7 (fun j hj=>(h.go j hj).task) (by omega)
 omega
theorem TI.ends {K:jd} (h:KJ K) (k:Nat):TI K (zf k (K,[])) /\ (zf k (K,[])).2.length <= 24:=by
 obtain ⟨⟨a,T,w,e,g1,g2,g3,g4,g5⟩,f2,l,f3,f4⟩:=UN (K:=K) (k:=k) K.2.2.2.2.2.2.2.1 ((K,[]),[]) (UI.start h.ji.ks.tab [])
 have h1:=h.ji.row
 have h2:=h.ji.of
 have hl:=h.len
 have hev:(zf k (K,[])).2.length <= 24:=by
  show (List.foldl (BK k) ((K,[]),[]) K.2.2.2.2.2.2.2.1).1.2.length <= _
  simp only [List.length_nil] at f2;omega
 have ek:(zf k (K,[])).1=w7 (chg K a T w) l:=by
  show w7 (List.foldl (BK k) ((K,[]),[]) K.2.2.2.2.2.2.2.1).1.1 (List.foldl (BK k) ((K,[]),[]) K.2.2.2.2.2.2.2.1).2=_
  rw [e,f4];rfl
 exact ⟨⟨⟨a,T,w,l,ek⟩,by rw [ek];exact g1,by rw [ek];exact g3,by rw [ek];exact g4.trans h1,by rw [ek];exact g5.trans h2,by rw [ek];exact fun j hj=>h.go j (f3.subset hj),by rw [ek];exact List.Pairwise.sublist f3 h.R7,by omega⟩,hev⟩
theorem TI.prom {K:jd} {u:jg} (h:TI K u):TI K (LX u):=by
 obtain ⟨a,b,c,d,e⟩:=h.same
 refine ⟨⟨a,b,c,d.map (xk K.1 K.2.2.2.1),by unfold LX;rw [e];rfl⟩,h.tab,h.sem,h.row,h.of,fun j hj=>?_,rising_map (fun j=>by rcases GY u.1.1 u.1.2.2.2.1 j with q | q <;> rw [q] <;> rfl) h.R7,h.ev⟩
 obtain ⟨x,hx,rfl⟩:=List.mem_map.1 (show j∈List.map _ _ from hj)
 exact (h.go x hx).prom _ _
theorem TI.aqz {K:jd} {u:jg} (h:TI K u) (he:u.2.length <= 24) (k:Nat):TI K (abE k u):=by
 obtain ⟨a1,a2,a3,a4,a5,a6,_⟩:=QY (k:=k) h.tab
 obtain ⟨a,b,c,d,e⟩:=h.same
 have hT:=h.tab.1.2.2
 have hw:=O1 (now:=u.1.1) (qm k u.1.2.2.2.2.2.2.2.2.1).2.1 (qm k u.1.2.2.2.2.2.2.2.2.1).2.2 a5
 rw [UO k u h.tab]
 refine ⟨⟨a,(u.1.2.2.2.2.2.2.2.2.1.1,(qm k u.1.2.2.2.2.2.2.2.2.1).1),c,u.1.2.2.2.2.2.2.2.1.map (su u.1.2.2.2.2.2.2.2.2.1 (qm k u.1.2.2.2.2.2.2.2.2.1).2.1),by rw [e];rfl⟩,a1,a3.trans h.sem,h.row,h.of,fun j hj=>?_,rising_map (fun j=>by rw [(E9 _ j).1];rfl) h.R7,by simp only [List.length_append];omega⟩
 obtain ⟨x,hx,rfl⟩:=List.mem_map.1 (show j∈List.map _ _ from hj)
 exact (E9 _ x).2.2 K (h.go x hx)
noncomputable def qg (k:Nat) (K:jd):jg:=abE k (LX (zf k (K,[])))
noncomputable def qw (k:Nat) (K:jd):jd×List je :=
 bif K.2.2.2.2.1&&!K.2.2.2.2.2.1 then (w6 (w0 (FV k (qg k K)).1 (IntKind.i64.wrap ((FV k (qg k K)).1.1+1))) false,(FV k (qg k K)).2)
 else (w6 (w0 K (IntKind.i64.wrap (K.1+1))) false,[])
theorem KJ.ahead {K:jd} (h:KJ K) (k:Nat):TI K (qg k K):=by
 obtain ⟨t1,he1⟩:=TI.ends h k
 exact t1.prom.aqz he1 k
theorem apn {k:Nat} (hk:1000 <= k) {K:jd} (h:KJ K):S33 k K=some (((qw k K).1,(qw k K).2,()),()):=by
 unfold S33 qw qg
 rw [UE hk h.ji.ks,Option.bind_some]
 simp only
 cases K.2.2.2.2.1 with
 | false=>rfl
 | true =>
  cases K.2.2.2.2.2.1 with
  | true=>rfl
  | false =>
   obtain ⟨t1,he1⟩:=TI.ends h k
   have h8:=h.FY
   have l1:=t1.len h8
   have t2:=t1.prom
   have l2:=t2.len h8
   have t3:=t2.aqz he1 k
   have hb:=h.ji.bnd
   simp only [cond_true,Bool.not_false,Bool.and_self]
   rw [aph hk h.ji,Option.bind_some]
   simp only [Z8]
   rw [apj hk (by omega) (fun j hj=>by rw [t1.tasks.2.1,hb];exact (t1.go j hj).task),Option.bind_some]
   simp only [Z8]
   rw [apk hk t2.tab (by omega) (fun j hj=>(t2.go j hj).js) (by have:=t2.ev;omega),Option.bind_some]
   simp only [Z8]
   rw [apm hk (by rw [t3.tasks.1];exact h.ji.ks.tasks) (by rw [t3.tasks.1];exact h8) t3.tab (fun j hj=>(t3.go j hj).congr t3.tasks.1) t3.R7 (by rw [t3.tasks.1];exact t3.row) (by have:=t3.of;omega) (by have:=t3.ev;omega),Option.bind_some]
   simp only [Z8]
def ni (p:Int):List jc -> Nat
 | []=>0
 | j::l=>bif decide (j.1<p) then ni p l+1 else 0
theorem PO (p:Int):∀ (l:List jc) (n:Nat),n <= l.length -> (∀ a,a<n -> (l.getD a ay).1<p) -> (n<l.length -> ¬ (l.getD n ay).1<p) -> ni p l=n
 | [],n,h,_,_=>by simp at h;rw [h];rfl
 | x::l,0,_,_,h2=>by
  have h3:¬ x.1<p:=h2 (by simp)
  rw [ni,decide_eq_false h3,cond_false]
 | x::l,n+1,h,h1,h2=>by
  have h3:x.1<p:=h1 0 (by omega)
  rw [ni,decide_eq_true h3,cond_true,PO p l n (by simpa using h) (fun a ha=>h1 (a+1) (by omega)) (fun hn=>h2 (by simpa using hn))]
theorem Z0 (p:Int):∀ l:List jc,ni p l <= l.length
 | []=>Nat.le_refl _
 | x::l=>by
  rw [ni]
  cases decide (x.1<p) with
  | true=>rw [cond_true,List.length_cons];have:=Z0 p l;omega
  | false=>rw [cond_false];omega
theorem apo:∀ n:Fin 17,IntKind.i64.wrap (Ul .u64 (IntKind.u64.wrap (IntKind.i64.wrap ((n.1:Nat):Int))) 1)=((n.1 / 2:Nat):Int):=by decide
theorem aky {a b:Nat} (h:a+b <= 16):IntKind.i64.wrap (Ul .u64 (IntKind.u64.wrap (IntKind.i64.wrap ((a:Int)+(b:Int)))) 1)=(((a+b) / 2:Nat):Int):=by
 have:=apo ⟨a+b,by omega⟩
 simpa using this
theorem O4 {k:Nat} {js:List jc} {p:Int} (hl:js.length <= 8) (hp:0 <= p /\ p <= 1000) (ht:∀ j∈js,0 <= j.1 /\ j.1 <= 1000) (hr:rising js):∀ (m fu a b:Nat),b - a <= m -> m<fu -> a <= b -> b <= js.length -> (∀ c,c<a -> (js.getD c ay).1<p) -> (∀ c,b <= c -> c<js.length -> p <= (js.getD c ay).1) ->
  SA k fu js p (js.length:Int) (a:Int) (b:Int)=some ((((ni p js:Nat):Int),decide (ni p js<js.length)&&(js.getD (ni p js) ay).1==p,()),())
 | m,fu,a,b,hm,hf,hab,hb,h1,h2=>by
  obtain ⟨f,rfl⟩:∃ f,fu=f+1:=⟨fu - 1,by omega⟩
  rw [air,ab5]
  by_cases h:a<b
  ·obtain ⟨m',rfl⟩:∃ m',m=m'+1:=⟨m - 1,by omega⟩
   have hc:(a+b) / 2<js.length:=by omega
   have hb2:=ht _ (jl (z:=ay) hc)
   rw [Sc (by omega),aky (by omega),Qo hc,Qp]
   unfold aip
   rw [Option.bind_some,Uu (by omega) (by omega)]
   simp only
   have hmono:∀ x y,x<y -> y<js.length -> (js.getD x ay).1<(js.getD y ay).1:=fun x y hxy hy=>by
    rw [getD_in (by omega),getD_in hy];exact List.pairwise_iff_getElem.1 hr x y (by omega) hy hxy
   by_cases e:(js.getD ((a+b) / 2) ay).1 - p<0
   ·rw [Sc e,Mi (by omega)]
    exact O4 hl hp ht hr m' f ((a+b) / 2+1) b (by omega) (by omega) (by omega) hb (fun c hc2=>by
     by_cases e2:c=(a+b) / 2
     ·subst e2;omega
     ·have:=hmono c ((a+b) / 2) (by omega) hc;omega) h2
   ·rw [Sd e]
    exact O4 hl hp ht hr m' f a ((a+b) / 2) (by omega) (by omega) (by omega) (by omega) h1 (fun c hc2 hc3=>by
     by_cases e2:c=(a+b) / 2
     ·subst e2;omega
     ·have:=hmono ((a+b) / 2) c (by omega) hc3;omega)
  ·have hba:b=a:=by omega
   subst hba
   have hpos:ni p js=b:=PO p js b hb h1 (fun hn=>by have:=h2 b (by omega) hn;omega)
   rw [Sd (by omega),hpos]
   by_cases h3:b<js.length
   ·have hb2:=ht _ (jl (z:=ay) h3)
    rw [Sc (by omega),Qo h3,Qp]
    unfold aip
    rw [Option.bind_some,Uu (by omega) (by omega),decide_eq_true h3,Bool.true_and]
    simp only
    congr 3
    by_cases e:(js.getD b ay).1=p
    ·rw [e];simp
    ·rw [beq_eq_false_iff_ne.2 e,beq_eq_false_iff_ne.2 (by omega)]
   ·rw [Sd (by omega),decide_eq_false h3];rfl
def K9 (p now a:Int):jc:=(p,now,a,0,Vh a,Vh a,[],false)
def wz (K:jd) (p a:Int):jd×List je×Int :=
 bif !K.2.2.2.2.1 then (K,[],8)
 else bif K.2.2.2.2.2.1 then (K,[],17)
 else bif decide (p<0)||decide (p≥(K.2.2.1.length:Int)) then (K,[],3)
 else bif K.2.2.2.2.2.2.2.2.2.2.getD p.toNat false then (K,[],6)
 else
  let js:=K.2.2.2.2.2.2.2.1
  let i:=ni p js
  bif decide (i<js.length)&&(js.getD i ay).1==p then
   (bif (js.getD i ay).2.2.2.1 != 2 then (K,[],5)
       else (w7 K (js.take i++[K9 p K.1 a]++js.drop (i+1)),[(K.1,13,p,0,0,0),(K.1,1,p,0,a,0)],0))
  else (w7 K (js.take i++[K9 p K.1 a]++js.drop i),[(K.1,1,p,0,a,0)],0)
theorem apq {k:Nat} {js:List jc} {i:Nat} {x:jc} (h:i <= js.length) (hl:js.length <= 900):S73 k js (i:Int) [x]=some ((js.take i++[x]++js.drop i,()),()):=by
 unfold S73 Jg
 refine if_pos ?_
 simp only [Bool.and_eq_true]
 refine ⟨decide_eq_true (Int.natCast_nonneg i),decide_eq_true (Int.ofNat_le.2 h),decide_eq_true ?_⟩
 show (js.length+1) * _ <= _
 omega
theorem apr {k:Nat} {js:List jc} {i:Nat} (h:i<js.length) (hl:js.length <= 900):S72 k js (i:Int) (IntKind.i64.wrap ((i:Int)+1))=some ((js.take i++js.drop (i+1),()),()):=by
 have:=af3 (k:=k) (x:=js.getD i ay) h hl
 rwa [Mj,GU] at this
theorem WO {k:Nat} {p a:Int} {K:jd} {e f:Int} {h i l:Bool} {ev:List je} {n:Nat} (hn:n <= K.2.2.2.2.2.2.2.1.length) (hl:K.2.2.2.2.2.2.2.1.length <= 900) (he:ev.length <= 10) :
  SC k p a K e f h i l ev (n:Int)=some ((w7 K (K.2.2.2.2.2.2.2.1.take n++[K9 p K.1 a]++K.2.2.2.2.2.2.2.1.drop n),ev++[(K.1,1,p,0,a,0)],0,()),()):=by
 unfold SC S74 V9
 simp only [Option.bind_some]
 have e:=apq (k:=k) (x:=K9 p K.1 a) hn hl
 unfold K9 Vh at e ⊢
 rw [e,Option.bind_some,Rz (by simp;omega)]
theorem aps {k:Nat} (hk:1000 <= k) {K:jd} (h:KJ K) (p a:Int):S30 k K p a=some (((wz K p a).1,(wz K p a).2.1,(wz K p a).2.2,()),()):=by
 have h8:=h.len
 have h2:=h.FY
 have h5:=h.ji.of
 unfold S30 wz
 rw [UE hk h.ji.ks,Option.bind_some]
 simp only
 cases K.2.2.2.2.1 with
 | false=>rfl
 | true =>
  cases K.2.2.2.2.2.1 with
  | true=>rfl
  | false =>
   simp only [Bool.not_true,cond_false]
   by_cases hp1:p<0
   ·rw [Sc hp1,decide_eq_true hp1];rfl
   ·rw [Sd hp1,decide_eq_false hp1,Bool.false_or]
    by_cases hp2:p≥(K.2.2.1.length:Int)
    ·rw [Sc hp2,decide_eq_true hp2];rfl
    ·obtain ⟨n,rfl⟩:∃ n:Nat,p=(n:Int):=⟨p.toNat,by omega⟩
     rw [Sd hp2,decide_eq_false hp2,cond_false,Sc (by omega),Qo (by omega),Qp,Int.toNat_natCast]
     cases K.2.2.2.2.2.2.2.2.2.2.getD n false with
     | true=>rfl
     | false =>
      simp only [cond_false]
      have hfind:=O4 (k:=k) (p:=(n:Int)) h8 (by omega) (fun j hj=>by have:=(h.go j hj).task;omega) h.R7 K.2.2.2.2.2.2.2.1.length k 0 K.2.2.2.2.2.2.2.1.length (by omega) (by omega) (by omega) (by omega) (fun c hc=>by omega) (fun c hc hc2=>by omega)
      have hle:=Z0 (n:Int) K.2.2.2.2.2.2.2.1
      unfold XJ S71 aox
      simp only
      rw [show SA k k K.2.2.2.2.2.2.2.1 (n:Int) (K.2.2.2.2.2.2.2.1.length:Int) 0 (K.2.2.2.2.2.2.2.1.length:Int)=_ from hfind]
      simp only [Option.bind_some]
      cases hc:decide (ni (n:Int) K.2.2.2.2.2.2.2.1<K.2.2.2.2.2.2.2.1.length)&&(K.2.2.2.2.2.2.2.1.getD (ni (n:Int) K.2.2.2.2.2.2.2.1) ay).1==(n:Int) with
      | false =>
       simp only [cond_false]
       rw [WO hle (by omega) (by simp)]
       rfl
      | true =>
       have hlt:ni (n:Int) K.2.2.2.2.2.2.2.1<K.2.2.2.2.2.2.2.1.length:=by
        rw [Bool.and_eq_true] at hc;exact of_decide_eq_true hc.1
       simp only [cond_true]
       rw [Qo hlt,Qp]
       cases (K.2.2.2.2.2.2.2.1.getD (ni (n:Int) K.2.2.2.2.2.2.2.1) ay).2.2.2.1 != 2 with
       | true=>rfl
       | false =>
        simp only [cond_false]
        rw [Rz (by simp),apr hlt (by omega),Option.bind_some]
        simp only [List.nil_append]
        have hx:(w7 K (K.2.2.2.2.2.2.2.1.take (ni (n:Int) K.2.2.2.2.2.2.2.1)++K.2.2.2.2.2.2.2.1.drop (ni (n:Int) K.2.2.2.2.2.2.2.1+1))).2.2.2.2.2.2.2.1=K.2.2.2.2.2.2.2.1.take (ni (n:Int) K.2.2.2.2.2.2.2.1)++K.2.2.2.2.2.2.2.1.drop (ni (n:Int) K.2.2.2.2.2.2.2.1+1):=rfl
        rw [WO (by rw [hx];simp;omega) (by rw [hx];simp;omega) (by simp),hx]
        generalize ni (n:Int) K.2.2.2.2.2.2.2.1=q at hlt
        generalize K.2.2.2.2.2.2.2.1=js at hlt
        have ht:(js.take q++js.drop (q+1)).take q=js.take q:=by
         rw [List.take_append_of_le_length (by simp;omega),List.take_take,Nat.min_self]
        have hd:(js.take q++js.drop (q+1)).drop q=js.drop (q+1):=by
         rw [List.drop_append_of_le_length (by simp;omega),List.drop_eq_nil_of_le (by simp;omega),List.nil_append]
        rw [ht,hd]
        rfl
def akz (n:Nat) (x:I4):Bool:=x.1==9&&decide (x.2.1≥(n:Int))
def GZ (n:Nat) (t:iw):Bool:=(t.2.2.2.1++t.2.2.2.2.1).any (akz n)
theorem akA {k:Nat} (hk:1000 <= k) {s:List I4} (h:s.length <= 900) (l:List jf):adW k s l=some ((pq (akz l.length) s,()),()):=by
 unfold adW
 refine tq (fun j i=>I7 k j s l (s.length:Int) i) s i0 _ (fun j i hi=>?_) (fun j=>?_) k (by omega)
 ·show I7 k (j+1) s l (s.length:Int) (i:Int)=_
  rw [VB,QF,Sc (by omega),Qo hi,Mi (by omega),Qp]
  unfold S59 akz
  cases (s.getD i i0).1==9 <;> rfl
 ·show I7 k (j+1) s l (s.length:Int) (s.length:Int)=_
  rw [VB,QF,Sd (by omega)]
def PS (ts:List iw) (l:List jf):List jf:=(List.range l.length).map (fun s:Nat=>(uz ts (s:Int),(l.getD s s0).2))
noncomputable def uj (k:Nat) (K:jd):jd×Int :=
 bif K.2.2.2.2.1 then (K,7)
 else bif K.2.2.1.any (GZ (jr K.2.2.2.2.2.2.2.2.1).length) then (K,4)
 else (w4 (GV k K (PS K.2.2.1 (jr K.2.2.2.2.2.2.2.2.1))) true,0)
theorem apt {k:Nat} (hk:1000 <= k) {K:jd} (h:KS K):S23 k K=some (((uj k K).1,(uj k K).2,()),()):=by
 have hT:=h.tab
 have hle:=hT.1.2.2
 have hsl:=uh K.2.2.2.2.2.2.2.2.1
 have hll:=vo K.2.2.2.2.2.2.2.2.1
 have hL:=h.tasks
 unfold S23 uj
 rw [UE hk h,Option.bind_some]
 simp only
 cases hru:K.2.2.2.2.1 with
 | true=>rfl
 | false =>
  rw [cond_false,cond_false,K6 hk hle,Option.bind_some]
  simp only
  generalize hlv:jr K.2.2.2.2.2.2.2.2.1=l at hll
  have key2:∀ (m i j:Nat),i+m=l.length -> m<j -> XR k j K 0 0 false false false (((List.range i).map (fun s:Nat=>(uz K.2.2.1 (s:Int),(l.getD s s0).2)))++l.drop i) (l.length:Int) (i:Int)=some ((w4 (GV k K (PS K.2.2.1 l)) true,0,()),()):=by
   intro m
   induction m with
   | zero =>
    intro i j hi hj
    obtain ⟨j,rfl⟩:∃ i,j=i+1:=⟨j - 1,by omega⟩
    rw [aaB,XQ,Sd (by omega),drop_nil (by omega),List.append_nil,apg hk hT (by simp;omega),Option.bind_some]
    simp only [vrK]
    rw [show i=l.length by omega];rfl
   | succ m ih =>
    intro i j hi hj
    obtain ⟨j,rfl⟩:∃ i,j=i+1:=⟨j - 1,by omega⟩
    have hi':i<l.length:=by omega
    have hlen:i<((List.range i).map (fun s:Nat=>(uz K.2.2.1 (s:Int),(l.getD s s0).2))++l.drop i).length:=by simp;omega
    have hg:((List.range i).map (fun s:Nat=>(uz K.2.2.1 (s:Int),(l.getD s s0).2))++l.drop i).getD i s0=l.getD i s0:=by
     rw [lg (by simp),drop_cons s0 hi',show i - ((List.range i).map (fun s:Nat=>(uz K.2.2.1 (s:Int),(l.getD s s0).2))).length=0 by simp];rfl
    have ih:=ih (i+1) j (by omega) (by omega)
    rw [aaB,XQ,Sc (by omega),ako hk hL,Option.bind_some,Qo hlen,Mj,Qp,hg,Mi (by omega)]
    simp only
    rw [List.set_append_right _ _ (by simp),show i - ((List.range i).map (fun s:Nat=>(uz K.2.2.1 (s:Int),(l.getD s s0).2))).length=0 by simp,drop_cons s0 hi',List.set_cons_zero]
    rw [List.range_succ,List.map_append,List.append_assoc] at ih
    exact ih
  have key:∀ (m i j:Nat),i+m=K.2.2.1.length -> m<j -> ad2 k j K 0 0 false false false l K.2.2.1 (K.2.2.1.length:Int) (i:Int)=bif (K.2.2.1.drop i).any (GZ l.length) then some ((K,4,()),()) else some ((w4 (GV k K (PS K.2.2.1 l)) true,0,()),()):=by
   intro m
   induction m with
   | zero =>
    intro i j hi hj
    obtain ⟨j,rfl⟩:∃ i,j=i+1:=⟨j - 1,by omega⟩
    have:=key2 l.length 0 k (by omega) (by omega)
    rw [ad3,ad1,Sd (by omega),drop_nil (by omega)]
    exact this
   | succ m ih =>
    intro i j hi hj
    obtain ⟨j,rfl⟩:∃ i,j=i+1:=⟨j - 1,by omega⟩
    have hi':i<K.2.2.1.length:=by omega
    have hl:=hL.2 _ (jl (z:=bg) hi')
    rw [ad3,ad1,Sc (by omega),Qo hi',Qp,akm hk hl.1.1 hl.1.2.1,Option.bind_some]
    unfold aoC
    rw [akA hk hl.2]
    simp only [Option.bind_some,D9]
    rw [drop_cons bg hi',List.any_cons,Mi (by have:=hL.1;omega),ih (i+1) j (by omega) (by omega)]
    show (bif GZ l.length (K.2.2.1.getD i bg) then _ else _)=_
    cases GZ l.length (K.2.2.1.getD i bg) <;> rfl
  have:=key K.2.2.1.length 0 k (by omega) (by have:=hL.1;omega)
  rw [List.drop_zero] at this
  refine Eq.trans this ?_
  cases K.2.2.1.any (GZ l.length) <;> rfl
structure LV (l:List I4) (m:gy) (tr:List I4) (fin:Mem) (H:List Int):Prop where
 len:l.length <= 900
 ins:∀ x∈l,lu x=true
 mem:inM m.2.1
 on:m.2.2.2=false
 run:∃ n n2:Nat,m.1=(n:Int) /\ Run l n m.2.1 m.2.2.1.reverse tr n2 fin [] /\ n2<l.length /\ (l.getD n2 i0).1=0
 hld:hld H tr=some []
theorem LV.mok {l:List I4} {m:gy} {tr:List I4} {fin:Mem} {H:List Int} (h:LV l m tr fin H):MOK l m /\ m.2.2.1.length <= 2:=by
 obtain ⟨n,n2,e,hr,h2,h0⟩:=h.run
 obtain ⟨pc,mem,rs,ov⟩:=m
 have e':pc=(n:Int):=e
 subst e'
 have key:n<l.length /\ rs.length <= 2 /\ ∀ r∈rs,r.2.2 <= 1000:=by
  have hr':Run l n mem rs.reverse tr n2 fin []:=hr
  generalize hR:rs.reverse=R at hr'
  have hrs:rs=R.reverse:=by rw [<- hR,List.reverse_reverse]
  subst hrs
  cases hr' with
  | nil=>exact ⟨h2,by simp,by simp⟩
  | cons a b c d f g i r=>exact ⟨a,by rw [List.length_reverse];exact d,fun r hr=>f r (List.mem_reverse.1 hr)⟩
 have hx:=h.ins _ (jl (z:=i0) key.1)
 exact ⟨⟨h.len,⟨by show (0:Int) <= (n:Int);omega,by show (n:Int).toNat<_;rw [Int.toNat_natCast];exact key.1⟩,hx,by have:=key.2.1;show rs.length <= 10;omega,key.2.2,h.mem,h.on⟩,key.2.1⟩
theorem LV.last {l:List I4} {m:gy} {fin:Mem} {H:List Int} (h:LV l m [] fin H):(nk l m).1=0 /\ (stepM l m).2.2.2=true /\ (stepM l m).2.1=fin /\ H=[]:=by
 have hH:=h.hld
 obtain ⟨n,n2,e,hr,h2,h0⟩:=h.run
 obtain ⟨pc,mem,rs,ov⟩:=m
 have e':pc=(n:Int):=e
 subst e'
 have hr':Run l n mem rs.reverse [] n2 fin []:=hr
 generalize hR:rs.reverse=R at hr'
 cases hr' with
 | nil =>
  have hx:∀ mm:Mem,(nk l ((n:Int),mm,rs,ov)).1=0:=fun mm=>by unfold nk;exact h0
  refine ⟨hx _,?_,?_,by simpa [Go.Proofs.YtjjjbcmjmkcedaaGreat.Ab.hld] using hH⟩
  ·unfold stepM
   simp only
   rw [hx];rfl
  ·unfold stepM
   simp only
   unfold V5
   rw [hx];rfl
def H6 (x:I4) (H:List Int):List Int:=bif x.1==9 then H++[x.2.1] else bif x.1==10 then H.dropLast else H
theorem UQ {x:I4} {tr:List I4} {H:List Int} (h:hld H (x::tr)=some []):hld (H6 x H) tr=some [] /\ (x.1=9 -> H.length<2 /\ x.2.1 ∉ H) /\ (x.1=10 -> H.getLast? = some x.2.1) /\ (x.1=11 -> H=[]):=by
 rw [hld] at h
 unfold H6
 by_cases e9:x.1=9
 ·rw [if_pos e9] at h
  split at h
  ·rename_i q
   exact ⟨by rw [show (x.1==9)=true from beq_iff_eq.2 e9,cond_true];exact h,fun _=>q,fun e=>by omega,fun e=>by omega⟩
  ·cases h
 ·rw [if_neg e9] at h
  rw [beq_eq_false_iff_ne.2 e9,cond_false]
  by_cases e10:x.1=10
  ·rw [if_pos e10] at h
   split at h
   ·rename_i q
    exact ⟨by rw [show (x.1==10)=true from beq_iff_eq.2 e10,cond_true];exact h,fun e=>absurd e e9,fun _=>q,fun e=>by omega⟩
   ·cases h
  ·rw [if_neg e10] at h
   rw [beq_eq_false_iff_ne.2 e10,cond_false]
   by_cases e11:x.1=11
   ·rw [if_pos e11] at h
    split at h
    ·rename_i q
     exact ⟨h,fun e=>absurd e e9,fun e=>absurd e e10,fun _=>q⟩
    ·cases h
   ·rw [if_neg e11] at h
    exact ⟨h,fun e=>absurd e e9,fun e=>absurd e e10,fun e=>absurd e e11⟩
theorem LV.step {l:List I4} {m:gy} {x:I4} {tr:List I4} {fin:Mem} {H:List Int} (h:LV l m (x::tr) fin H):nk l m=x /\ (stepM l m).2.2.2=false /\ LV l (stepM l m) tr fin (H6 x H):=by
 have hH:=(UQ h.hld).1
 obtain ⟨n,n2,e,hr,h2,h0⟩:=h.run
 obtain ⟨pc,mem,rs,ov⟩:=m
 have e':pc=(n:Int):=e
 subst e'
 have hr':Run l n mem rs.reverse (x::tr) n2 fin []:=hr
 generalize hR:rs.reverse=R at hr'
 cases hr' with
 | cons a b c d f g i r =>
  rename_i n1 R1
  have hx:nk l ((n:Int),mem,rs,ov)=x:=by unfold nk;exact b
  have hov:(stepM l ((n:Int),mem,rs,ov)).2.2.2=false:=by
   unfold stepM
   simp only
   rw [hx];exact beq_eq_false_iff_ne.2 c
  have hxm:=h.ins _ (jl (z:=i0) a)
  rw [b] at hxm
  have e1:stepM l ((n:Int),mem,rs,ov)=((n1:Int),V5 x mem,R1.reverse,false):=by
   unfold stepM
   simp only
   rw [hx,hR,Int.toNat_natCast,g,beq_eq_false_iff_ne.2 c]
  refine ⟨hx,hov,?_⟩
  rw [e1]
  exact ⟨h.len,h.ins,aj2 hxm h.mem,rfl,⟨n1,n2,rfl,by show Run l n1 (V5 x mem) R1.reverse.reverse tr n2 fin [];rw [List.reverse_reverse];exact r,h2,h0⟩,hH⟩
theorem ag9 (t:Tr):(t.prog.getD t.len i0).1=0:=by
 unfold Tr.prog
 rw [lg (by rw [jv];omega),jv,Nat.sub_self];rfl
def akC (l:List I4) (a:Int) (fin:Mem):Prop:=∃ t:Tr,l=t.prog /\ Ok 0 [] false t /\ t.len<24 /\ fin=(D7 t (amh a)).2
theorem LV.new {l:List I4} (h:yj l=true) {a:Int} (ha:KF a):∃ tr fin,LV l (Vh a) tr fin [] /\ akC l a fin:=by
 obtain ⟨t,h1,rfl,h2⟩:=LG h
 have hm:∀ x∈t.prog,lu x=true:=aa9 h1
 exact ⟨_,_,⟨by rw [xg];omega,hm,ami a ha,rfl,⟨0,t.len,rfl,aj3 h1 (amh a),by rw [xg];omega,ag9 t⟩,D8 (amh a) h1⟩,t,rfl,h1,h2,rfl⟩
theorem akD {h H:List Int} {a:Int} (hs:h.Sublist (H++[a])):h.Sublist H \/ ∃ r,h=r++[a] /\ r.Sublist H:=by
 obtain ⟨l1,l2,e,h1,h2⟩:=List.sublist_append_iff.1 hs
 cases l2 with
 | nil=>rw [e,List.append_nil];exact .inl h1
 | cons b r =>
  have hl:=h2.length_le
  have hr:r=[]:=by cases r with | nil=>rfl | cons c d=>simp at hl
  subst hr
  have hb:b=a:=by have:=h2.subset (List.mem_cons_self (a:=b));simpa using this
  exact .inr ⟨l1,by rw [e,hb],h1⟩
theorem abJ {a:Int} {l:List Int} (h:a ∉ l):∀ n,n <= l.length -> unl a l n=l
 | 0,_=>rfl
 | n+1,hn=>by
  rw [unl,if_neg (fun e=>h (by rw [<- e];exact jl (by omega)))]
  exact abJ h n (by omega)
theorem aha {x:I4} {h H:List Int} {tr:List I4} (hs:h.Sublist H) (hn:H.Nodup) (hh:hld H (x::tr)=some []):(CP x h).Sublist (H6 x H) /\ (H6 x H).Nodup:=by
 obtain ⟨_,a1,a2,_⟩:=UQ hh
 unfold CP H6
 by_cases e9:x.1=9
 ·rw [show (x.1==9)=true from beq_iff_eq.2 e9,cond_true,cond_true]
  refine ⟨List.Sublist.append hs (List.Sublist.refl _),?_⟩
  rw [List.nodup_append]
  refine ⟨hn,by simp,fun y hy z hz=>?_⟩
  rw [List.mem_singleton] at hz
  rw [hz];exact fun e=>(a1 e9).2 (by rw [<- e];exact hy)
 ·rw [beq_eq_false_iff_ne.2 e9,cond_false,cond_false]
  by_cases e10:x.1=10
  ·rw [show (x.1==10)=true from beq_iff_eq.2 e10,cond_true,cond_true]
   have hl:=a2 e10
   rcases List.eq_nil_or_concat H with rfl | ⟨r,y,rfl⟩
   ·cases hl
   ·rw [List.concat_eq_append] at *
    simp only [List.getLast?_append,List.getLast?_singleton,Option.some_or,Option.some.injEq] at hl
    subst hl
    rw [List.dropLast_concat]
    rw [List.nodup_append] at hn
    have hnr:x.2.1 ∉ r:=fun q=>hn.2.2 _ q _ (List.mem_singleton.2 rfl) rfl
    refine ⟨?_,hn.1⟩
    rcases akD hs with q | ⟨w,q,hw⟩
    ·rw [abJ (fun m=>hnr (q.subset m)) _ (Nat.le_refl _)];exact q
    ·subst q
     rw [List.length_append,List.length_singleton,unl,if_pos (by rw [lg (Nat.le_refl _),Nat.sub_self];rfl)]
     simpa using hw
  ·rw [beq_eq_false_iff_ne.2 e10,cond_false,cond_false]
   exact ⟨hs,hn⟩
structure TW (t:iw):Prop where
 light:ze t /\ (t.2.2.2.1++t.2.2.2.2.1).length <= 900
 may:FX t=0
theorem TW.code {t:iw} (h:TW t):yj t.2.2.2.1=true /\ (t.2.2.2.2.1=[] \/ yj t.2.2.2.2.1=true) /\ (t.2.2.2.2.2=[] \/ yj t.2.2.2.2.2=true) /\ akg t.2.2.2.2.2=false:=by
 obtain ⟨_,_,_,z4,z5,z6,z7,_⟩:=Wv.1 h.may
 exact ⟨z4,z5,z6,z7⟩
structure JW (ts:List iw) (a:Int) (j:jc):Prop where
 task:0 <= j.1 /\ j.1<(ts.length:Int)
 phase:0 <= j.2.2.2.1 /\ j.2.2.2.1 <= 2
 arg:KF j.2.2.1
 own:j.2.2.2.1≠2 -> a=j.2.2.1
 m:∃ tr fin H,LV (o8 (ts.getD j.1.toNat bg) j.2.2.2.1) j.2.2.2.2.1 tr fin H /\ akC (o8 (ts.getD j.1.toNat bg) j.2.2.2.1) a fin /\ H.Nodup /\ H.length <= 2 /\ (∀ x∈H,0 <= x /\ x <= 3) /\ j.2.2.2.2.2.2.1.Sublist H
 kept:∃ tr fin,LV (o8 (ts.getD j.1.toNat bg) j.2.2.2.1) j.2.2.2.2.2.1 tr fin [] /\ akC (o8 (ts.getD j.1.toNat bg) j.2.2.2.1) a fin
theorem JW.go {K:jd} {a:Int} {j:jc} (h:JW K.2.2.1 a j):GO K j /\ j.2.2.2.2.2.2.1.length <= 2 /\ ∀ x∈j.2.2.2.2.2.2.1,0 <= x /\ x <= 3:=by
 obtain ⟨tr,fin,H,h1,_,_,h3,h4,h5⟩:=h.m
 obtain ⟨tr2,asq,h6,_⟩:=h.kept
 have m1:=h1.mok
 have m2:=h6.mok
 have hl:=h5.length_le
 exact ⟨⟨⟨by omega,by omega,by omega,fun x hx=>(h4 x (h5.subset hx)).1⟩,by omega,by omega,h.task,h.phase,m1.1⟩,by omega,fun x hx=>h4 x (h5.subset hx)⟩
theorem JW.same {ts:List iw} {a:Int} {j j2:jc} (h:JW ts a j) (e1:j2.1=j.1) (e2:j2.2.2.1=j.2.2.1) (e3:j2.2.2.2.1=j.2.2.2.1) (e4:j2.2.2.2.2.1=j.2.2.2.2.1) (e5:j2.2.2.2.2.2.1=j.2.2.2.2.2.1) (e6:j2.2.2.2.2.2.2.1.Sublist j.2.2.2.2.2.2.1):JW ts a j2:=by
 obtain ⟨tr,fin,H,h1,h2,h3,h4,h5,h6⟩:=h.m
 refine ⟨by rw [e1];exact h.task,by rw [e3];exact h.phase,by rw [e2];exact h.arg,by rw [e2,e3];exact h.own,⟨tr,fin,H,?_,?_,h3,h4,h5,e6.trans h6⟩,?_⟩
 ·rw [e1,e3,e4];exact h1
 ·rw [e1,e3];exact h2
 ·rw [e1,e3,e5];exact h.kept
theorem JW.prom {ts:List iw} {a:Int} {j:jc} (h:JW ts a j) (now:Int) (bs:List WC):JW ts a (xk now bs j):=by
 rcases GY now bs j with e | e <;> rw [e]
 ·exact h
 ·exact h.same rfl rfl rfl rfl rfl (List.Sublist.refl _)
theorem J2 {T:Tb}:∀ (ps:List Int) (j:jc),(su T ps j).2.2.2.2.2.2.1.Sublist j.2.2.2.2.2.2.1
 | [],j=>List.Sublist.refl _
 | a::ps,j=>by
  unfold su
  rw [List.foldl_cons]
  cases decide (pq (fun x=>a==x) (ou (jm T))≥0) with
  | false=>exact J2 ps j
  | true=>exact (J2 ps _).trans List.filter_sublist
theorem JW.loss {ts:List iw} {a:Int} {j:jc} (h:JW ts a j) (T:Tb) (ps:List Int):JW ts a (su T ps j):=by
 have e:=(E9 (T:=T) ps j).1
 have hs:=J2 (T:=T) ps j
 refine h.same ?_ ?_ ?_ ?_ ?_ hs
 all_goals rw [e];rfl
theorem JW.goes {ts:List iw} {a:Int} {j:jc} (h:JW ts a j):((yg (ts.getD j.1.toNat bg) j).2.2.2.2.1.2.2.2=false -> JW ts a (yg (ts.getD j.1.toNat bg) j)) /\ ((yg (ts.getD j.1.toNat bg) j).2.2.2.2.1.2.2.2=true -> j.2.2.2.2.2.2.1=[] /\ (yg (ts.getD j.1.toNat bg) j).2.2.2.2.2.2.1=[] /\ akC (o8 (ts.getD j.1.toNat bg) j.2.2.2.1) a (yg (ts.getD j.1.toNat bg) j).2.2.2.2.1.2.1 /\ (nk (o8 (ts.getD j.1.toNat bg) j.2.2.2.1) j.2.2.2.2.1).1=0) /\ inM (yg (ts.getD j.1.toNat bg) j).2.2.2.2.1.2.1:=by
 obtain ⟨tr,fin,H,h1,h2,h3,h4,h5,h6⟩:=h.m
 cases tr with
 | nil =>
  obtain ⟨l1,l2,l3,l4⟩:=h1.last
  have hz:j.2.2.2.2.2.2.1=[]:=by rw [l4] at h6;exact List.sublist_nil.1 h6
  refine ⟨fun e=>absurd (l2.symm.trans e) (by decide),fun _=>⟨hz,?_,?_,l1⟩,?_⟩
  ·show CP (nk _ _) j.2.2.2.2.2.2.1=[]
   unfold CP
   rw [l1,hz];rfl
  ·show akC _ a (stepM _ _).2.1
   rw [l3];exact h2
  ·exact aj2 h1.mok.1.may h1.mem
 | cons x tr =>
  obtain ⟨e1,e2,e3⟩:=h1.step
  have hH:=UQ h1.hld
  have hst:=aha h6 h3 h1.hld
  refine ⟨fun _=>⟨h.task,h.phase,h.arg,h.own,⟨tr,fin,H6 x H,e3,h2,hst.2,?_,?_,?_⟩,?_⟩,fun e=>absurd (e2.symm.trans e) (by decide),e3.mem⟩
  ·unfold H6
   by_cases e9:x.1=9
   ·rw [show (x.1==9)=true from beq_iff_eq.2 e9,cond_true,List.length_append];have:=(hH.2.1 e9).1;simp only [List.length_singleton];omega
   ·rw [beq_eq_false_iff_ne.2 e9,cond_false]
    cases x.1==10 with
    | true=>rw [cond_true,List.length_dropLast];omega
    | false=>rw [cond_false];exact h4
  ·intro y hy
   unfold H6 at hy
   by_cases e9:x.1=9
   ·rw [show (x.1==9)=true from beq_iff_eq.2 e9,cond_true,List.mem_append,List.mem_singleton] at hy
    rcases hy with q | q
    ·exact h5 y q
    ·have hxm:=h1.mok.1.may
     rw [e1] at hxm
     rw [q];exact (amg hxm (.inl e9)).1
   ·rw [beq_eq_false_iff_ne.2 e9,cond_false] at hy
    cases e10:x.1==10 with
    | true=>rw [e10,cond_true] at hy;exact h5 y (List.dropLast_subset _ hy)
    | false=>rw [e10,cond_false] at hy;exact h5 y hy
  ·show (CP (nk _ _) _).Sublist _
   rw [e1];exact hst.1
  ·show ∃ tr fin,LV _ (bif (nk (o8 (ts.getD j.1.toNat bg) j.2.2.2.1) j.2.2.2.2.1).1==11 then stepM (o8 (ts.getD j.1.toNat bg) j.2.2.2.1) j.2.2.2.2.1 else j.2.2.2.2.2.1) tr fin [] /\ _
   rw [e1]
   by_cases e11:x.1=11
   ·rw [show (x.1==11)=true from beq_iff_eq.2 e11,cond_true]
    have e:H6 x H=[]:=by
     unfold H6
     rw [e11];exact hH.2.2.2 e11
    rw [e] at e3
    exact ⟨tr,fin,e3,h2⟩
   ·rw [beq_eq_false_iff_ne.2 e11,cond_false];exact h.kept
theorem JW.begin {ts:List iw} {a:Int} (ha:KF a) {j:jc} (h:0 <= j.1 /\ j.1<(ts.length:Int)) (hp:0 <= j.2.2.2.1 /\ j.2.2.2.1 <= 2) (hi:KF j.2.2.1) (ho:j.2.2.2.1≠2 -> a=j.2.2.1) (hm:yj (o8 (ts.getD j.1.toNat bg) j.2.2.2.1)=true) (e1:j.2.2.2.2.1=Vh a) (e2:j.2.2.2.2.2.1=Vh a) (e3:j.2.2.2.2.2.2.1=[]):JW ts a j:=by
 obtain ⟨tr,fin,h1,h2⟩:=LV.new hm ha
 exact ⟨h,hp,hi,ho,⟨tr,fin,[],by rw [e1];exact h1,h2,by simp,by simp,by simp,by rw [e3];exact List.Sublist.refl _⟩,⟨tr,fin,by rw [e2];exact h1,h2⟩⟩
theorem JW.opt {ts:List iw} {j:jc} (h:0 <= j.1 /\ j.1<(ts.length:Int)) (hi:KF j.2.2.1) (hm:inM j.2.2.2.2.1.2.1) (ht:TW (ts.getD j.1.toNat bg)) (hne:((ts.getD j.1.toNat bg).2.2.2.2.2.length:Int)≠0):JW ts j.2.2.2.2.1.2.1.1 (ag2 j):=by
 refine JW.begin (hm _ (by simp [Gv])) h ⟨by show (0:Int) <= 2;omega,by show (2:Int) <= 2;omega⟩ hi (fun e=>absurd rfl e) ?_ rfl rfl rfl
 rcases ht.code.2.2.1 with q | q
 ·rw [q] at hne;simp at hne
 ·exact q
theorem JW.back {ts:List iw} {a:Int} {j:jc} (h:JW ts a j) (ht:TW (ts.getD j.1.toNat bg)):JW ts a (JL (ts.getD j.1.toNat bg) j):=by
 unfold JL
 cases hc:(j.2.2.2.1==0)&&decide (((ts.getD j.1.toNat bg).2.2.2.2.1.length:Int)>0) with
 | false =>
  obtain ⟨tr,fin,h1,h2⟩:=h.kept
  exact ⟨h.task,h.phase,h.arg,h.own,⟨tr,fin,[],h1,h2,by simp,by simp,by simp,List.Sublist.refl _⟩,⟨tr,fin,h1,h2⟩⟩
 | true =>
  rw [Bool.and_eq_true] at hc
  have hw:=of_decide_eq_true hc.2
  have ea:a=j.2.2.1:=h.own (by rw [eq_of_beq hc.1];decide)
  rw [ea]
  refine JW.begin h.arg h.task ⟨by show (0:Int) <= 1;omega,by show (1:Int) <= 2;omega⟩ h.arg (fun _=>rfl) ?_ rfl rfl rfl
  rcases ht.code.2.1 with q | q
  ·rw [q] at hw;simp at hw
  ·exact q
theorem JW.K9 {ts:List iw} {p now a:Int} (hp:0 <= p /\ p<(ts.length:Int)) (ha:KF a) (ht:TW (ts.getD p.toNat bg)):JW ts a (K9 p now a) :=
 JW.begin ha hp ⟨by show (0:Int) <= 0;omega,by show (0:Int) <= 2;omega⟩ ha (fun _=>rfl) ht.code.1 rfl rfl rfl
structure KW (K:jd):Prop where
 FY:K.2.2.1.length <= 8
 task:∀ t∈K.2.2.1,TW t
 bnd:K.2.2.2.1.length=K.2.2.1.length
 tab:uy K.2.2.2.2.2.2.2.2.1
 job:∀ j∈K.2.2.2.2.2.2.2.1,∃ a,JW K.2.2.1 a j
 R7:rising K.2.2.2.2.2.2.2.1
 row:K.2.2.2.2.1=true -> K.2.2.2.2.2.2.2.2.2.1.length=K.2.2.1.length /\ K.2.2.2.2.2.2.2.2.2.2.length=K.2.2.1.length
 off:K.2.2.2.2.1=false -> K.2.2.2.2.2.2.2.1=[] /\ K.2.2.2.2.2.2.2.2.2.1=[] /\ K.2.2.2.2.2.2.2.2.2.2=[]
theorem KW.light {K:jd} (h:KW K):p8 K.2.2.1:=⟨by have:=h.FY;omega,fun t ht=>(h.task t ht).light⟩
theorem KW.len {K:jd} (h:KW K):K.2.2.2.2.2.2.2.1.length <= 8:=by
 have:=CQ h.R7 (fun j hj=>(h.job j hj).elim fun a q=>q.task) (by omega)
 have:=h.FY
 omega
theorem KW.ks {K:jd} (h:KW K):KS K:=by
 have h8:=h.FY
 have hb:=h.bnd
 have hl:=h.len
 refine ⟨h.light,by omega,by omega,fun j hj=>(h.job j hj).elim fun a q=>q.go.1.js,h.tab,?_,?_⟩
 ·cases hr:K.2.2.2.2.1 with
  | true=>have:=(h.row hr).1;omega
  | false=>rw [(h.off hr).2.1];simp
 ·cases hr:K.2.2.2.2.1 with
  | true=>have:=(h.row hr).2;omega
  | false=>rw [(h.off hr).2.2];simp
theorem KW.kj {K:jd} (h:KW K) (hr:K.2.2.2.2.1=true):KJ K :=
 ⟨⟨h.ks,h.bnd,(h.row hr).1,(h.row hr).2,fun j hj=>(h.job j hj).elim fun a q=>q.task⟩,h.FY,fun j hj=>(h.job j hj).elim fun a q=>q.go.1,h.R7⟩
theorem af4 {k:Nat} (hk:1000 <= k) {K:jd} (h:KW K):S33 k K=some (((qw k K).1,(qw k K).2,()),()):=by
 cases hr:K.2.2.2.2.1 with
 | true=>exact apn hk (h.kj hr)
 | false =>
  unfold S33 qw
  rw [UE hk h.ks,Option.bind_some]
  simp only
  rw [hr];rfl
theorem akE {k:Nat} (hk:1000 <= k) {K:jd} (h:KW K) (p a:Int):S30 k K p a=some (((wz K p a).1,(wz K p a).2.1,(wz K p a).2.2,()),()):=by
 cases hr:K.2.2.2.2.1 with
 | true=>exact aps hk (h.kj hr) p a
 | false =>
  unfold S30 wz
  rw [UE hk h.ks,Option.bind_some]
  simp only
  rw [hr];rfl
theorem UR (u:jg):(LX u).1.2.2.2.2.2.2.2.1=u.1.2.2.2.2.2.2.2.1.map (xk u.1.1 u.1.2.2.2.1):=rfl
theorem UU (k:Nat) (K:jd):(zf k (K,[])).1.2.2.2.2.2.2.2.1=(K.2.2.2.2.2.2.2.1.foldl (BK k) ((K,[]),[])).2:=rfl
theorem KA (T:Tb) (ps:List Int) (j:jc):(su T ps j).1=j.1 /\ (su T ps j).2.1=j.2.1 /\ (su T ps j).2.2.1=j.2.2.1 /\ (su T ps j).2.2.2.1=j.2.2.2.1:=by
 have e:=(E9 (T:=T) ps j).1
 generalize su T ps j=x at e
 rw [e];exact ⟨rfl,rfl,rfl,rfl⟩
theorem acH (now:Int) (bs:List WC) (j:jc):(xk now bs j).1=j.1 /\ (xk now bs j).2.1=j.2.1 /\ (xk now bs j).2.2.1=j.2.2.1 /\ (xk now bs j).2.2.2.1=j.2.2.2.1:=by
 rcases GY now bs j with e | e <;> rw [e] <;> exact ⟨rfl,rfl,rfl,rfl⟩
theorem am8 (K:jd) (x:List jc):(w7 K x).2.2.2.2.2.2.2.1=x:=rfl
theorem WQ {k:Nat} {K:jd} (h:KJ K) {j:jc} (hj:j∈(qg k K).1.2.2.2.2.2.2.2.1):∃ x∈K.2.2.2.2.2.2.2.1,(∀ ts a,JW ts a x -> JW ts a j) /\ j.1=x.1 /\ j.2.1=x.2.1 /\ j.2.2.1=x.2.2.1 /\ j.2.2.2.1=x.2.2.2.1:=by
 obtain ⟨t1,he1⟩:=TI.ends h k
 have t2:=t1.prom
 unfold qg at hj
 rw [UO k _ t2.tab] at hj
 simp only [am8,UR] at hj
 obtain ⟨y,hy,rfl⟩:=List.mem_map.1 hj
 obtain ⟨x,hx,rfl⟩:=List.mem_map.1 hy
 rw [UU] at hx
 obtain ⟨_,_,l,f3,f4⟩:=UN (K:=K) (k:=k) K.2.2.2.2.2.2.2.1 ((K,[]),[]) (UI.start h.ji.ks.tab [])
 rw [f4,List.nil_append] at hx
 have hx2:x∈K.2.2.2.2.2.2.2.1:=f3.subset hx
 have hp:∀ ts a,JW ts a x -> JW ts a (xk (zf k (K,[])).1.1 (zf k (K,[])).1.2.2.2.1 x):=fun ts a q=>q.prom _ _
 obtain ⟨a1,a2,a3,a4⟩:=acH (zf k (K,[])).1.1 (zf k (K,[])).1.2.2.2.1 x
 generalize xk (zf k (K,[])).1.1 (zf k (K,[])).1.2.2.2.1 x=y at a1 a2 a3 a4 hp ⊢
 obtain ⟨b1,b2,b3,b4⟩:=KA (LX (zf k (K,[]))).1.2.2.2.2.2.2.2.2.1 (qm k (LX (zf k (K,[]))).1.2.2.2.2.2.2.2.2.1).2.1 y
 exact ⟨x,hx2,fun ts a q=>(hp ts a q).loss _ _,b1.trans a1,b2.trans a2,b3.trans a3,b4.trans a4⟩
theorem apu {k:Nat} {u:jg} {j:jc} {a:Int} (h:JW u.1.2.2.1 a j) (ht:∀ t∈u.1.2.2.1,TW t):(M4 k u j).2.2.1=j.1 /\ ((M4 k u j).1=false -> ∃ b,JW u.1.2.2.1 b (M4 k u j).2.2):=by
 have htk:=h.task
 have Lx:=ht _ (jl (z:=bg) (show j.1.toNat<u.1.2.2.1.length by omega))
 unfold M4
 cases u.1.2.2.2.2.2.2.1 with
 | true =>
  rw [cond_true]
  unfold M0 ag3
  simp only
  rw [show (j4 u (0,2,j.1,0,0,0)).1.2.2.1=u.1.2.2.1 from rfl]
  cases j.2.2.2.1==2 with
  | true=>exact ⟨rfl,fun e=>absurd e (by simp)⟩
  | false =>
   have hb:=h.back Lx
   refine ⟨?_,fun _=>⟨a,hb⟩⟩
   show (JL _ j).1=j.1
   unfold JL
   cases (j.2.2.2.1==0)&&decide (((u.1.2.2.1.getD j.1.toNat bg).2.2.2.2.1.length:Int)>0) <;> rfl
 | false =>
  rw [cond_false]
  obtain ⟨g1,g2,g3⟩:=h.goes
  unfold JK
  simp only
  rw [show (j4 u (0,2,j.1,0,0,0)).1.2.2.1=u.1.2.2.1 from rfl]
  have fin:∀ v:jg,v.1.2.2.1=u.1.2.2.1 -> ((bif (yg (u.1.2.2.1.getD j.1.toNat bg) j).2.2.2.2.1.2.2.2 then qp v (yg (u.1.2.2.1.getD j.1.toNat bg) j) else (false,v,yg (u.1.2.2.1.getD j.1.toNat bg) j)):LZ).2.2.1=j.1 /\ (((bif (yg (u.1.2.2.1.getD j.1.toNat bg) j).2.2.2.2.1.2.2.2 then qp v (yg (u.1.2.2.1.getD j.1.toNat bg) j) else (false,v,yg (u.1.2.2.1.getD j.1.toNat bg) j)):LZ).1=false -> ∃ b,JW u.1.2.2.1 b ((bif (yg (u.1.2.2.1.getD j.1.toNat bg) j).2.2.2.2.1.2.2.2 then qp v (yg (u.1.2.2.1.getD j.1.toNat bg) j) else (false,v,yg (u.1.2.2.1.getD j.1.toNat bg) j)):LZ).2.2):=fun v hv=>by
   cases ho:(yg (u.1.2.2.1.getD j.1.toNat bg) j).2.2.2.2.1.2.2.2 with
   | false=>exact ⟨rfl,fun _=>⟨a,g1 ho⟩⟩
   | true =>
    rw [cond_true]
    unfold qp
    cases (yg (u.1.2.2.1.getD j.1.toNat bg) j).2.2.2.1==2 with
    | true=>exact ⟨rfl,fun e=>absurd e (by simp)⟩
    | false =>
     refine ⟨rfl,fun e=>?_⟩
     rw [hv] at e
     exact ⟨_,JW.opt (j:=yg (u.1.2.2.1.getD j.1.toNat bg) j) h.task h.arg g3 Lx (by
      intro q
      rw [cond_false] at e
      rw [show ((yg (u.1.2.2.1.getD j.1.toNat bg) j).1)=j.1 from rfl] at e q
      rw [q] at e;exact absurd (show (true:Bool)=false from e) (by decide))⟩
  generalize nk (o8 (u.1.2.2.1.getD j.1.toNat bg) j.2.2.2.1) j.2.2.2.2.1=x
  cases x.1==9 with
  | true=>exact fin _ rfl
  | false =>
   cases x.1==10 with
   | true=>exact fin _ rfl
   | false=>exact fin _ rfl
theorem acI {js:List jc}:rising js↔(js.map (fun j=>j.1)).Pairwise (·<·):=by
 unfold rising;rw [List.pairwise_map]
theorem acJ {js:List jc} (h:rising js) {i:Nat} {x:jc} (hx:x.1=(js.getD i ay).1):rising (js.set i x):=by
 rw [acI] at h ⊢
 rw [List.map_set]
 by_cases hi:i<js.length
 ·have e:(js.map (fun j=>j.1)).set i x.1=js.map (fun j=>j.1):=by
   rw [hx,<- E8 (f:=fun j:jc=>j.1) ay 0 hi];exact GU
  rw [e];exact h
 ·rw [List.set_eq_of_length_le (by rw [List.length_map];omega)];exact h
theorem am9 {k:Nat} {K:jd} {u:jg} (t:TI K u) (hK:KJ K) (hr:K.2.2.2.2.1=true) (ht:∀ t∈K.2.2.1,TW t) (hj:∀ j∈u.1.2.2.2.2.2.2.2.1,∃ a,JW K.2.2.1 a j) :
  ∃ h T w js,(FV k u).1=w7 (chg K h T w) js /\ uy T /\ jm T=jm K.2.2.2.2.2.2.2.2.1 /\ w.1.length=K.2.2.1.length /\ w.2.length=K.2.2.1.length /\ (∀ j∈js,∃ a,JW K.2.2.1 a j) /\ rising js:=by
 obtain ⟨h,T,w,js,e⟩:=t.same
 have e3:=t.tasks.1
 have hT:uy T:=by have:=t.tab;rw [e] at this;exact this
 have hS:jm T=jm K.2.2.2.2.2.2.2.2.1:=by have:=t.sem;rw [e] at this;exact this
 have hw1:w.1.length=K.2.2.1.length:=by have:=t.row;rw [e] at this;exact this
 have hw2:w.2.length=K.2.2.1.length:=by have:=t.of;rw [e] at this;exact this
 have ejs:u.1.2.2.2.2.2.2.2.1=js:=by rw [e];rfl
 have hris:rising js:=by rw [<- ejs];exact t.R7
 unfold FV
 cases hc:u.1.2.2.2.2.2.1||u.1.2.2.2.2.2.2.2.1.isEmpty with
 | true=>exact ⟨h,T,w,js,e,hT,hS,hw1,hw2,by rw [<- ejs];exact hj,hris⟩
 | false =>
  rw [cond_false]
  rw [Bool.or_eq_false_iff] at hc
  have hmin:=next_lt hc.2 (u.1.2.2.1.length:Int) (jr u.1.2.2.2.2.2.2.2.2.1)
  simp only
  generalize PL u.1.2.2.2.2.2.2.2.1 (u.1.2.2.1.length:Int) (jr u.1.2.2.2.2.2.2.2.2.1)=i at hmin ⊢
  obtain ⟨a,ha⟩:=hj _ (jl (z:=ay) hmin)
  rw [<- e3] at ha
  obtain ⟨g1,g2⟩:=apu (k:=k) ha (by rw [e3];exact ht)
  obtain ⟨T2,w2,q,q1,q2,q3,q4,q5⟩:=CH.run t.tab k (u.1.2.2.2.2.2.2.2.1.getD i ay)
  generalize M4 k u (u.1.2.2.2.2.2.2.2.1.getD i ay)=r at g1 g2 q ⊢
  have hsm:=t.tab
  have Lv:T2.2.length=T.2.length /\ jm T2=jm T /\ w2.1.length=w.1.length /\ w2.2.length=w.2.length:=by
   rw [e] at q2 q3 q4 q5 hsm
   exact ⟨q2,q3 hsm,q4,q5⟩
  refine ⟨h,T2,w2,(bif r.1 then u.1.2.2.2.2.2.2.2.1.take i++u.1.2.2.2.2.2.2.2.1.drop (i+1) else u.1.2.2.2.2.2.2.2.1.set i r.2.2),?_,q1 hsm,Lv.2.1.trans hS,Lv.2.2.1.trans hw1,Lv.2.2.2.trans hw2,?_⟩
  ·generalize (bif r.1 then u.1.2.2.2.2.2.2.2.1.take i++u.1.2.2.2.2.2.2.2.1.drop (i+1) else u.1.2.2.2.2.2.2.2.1.set i r.2.2)=l
   rw [q,e];rfl
  cases hb:r.1 with
  | true =>
   rw [cond_true]
   have hsub:(u.1.2.2.2.2.2.2.2.1.take i++u.1.2.2.2.2.2.2.2.1.drop (i+1)).Sublist u.1.2.2.2.2.2.2.2.1:=by rw [<- List.eraseIdx_eq_take_drop_succ];exact List.eraseIdx_sublist _ _
   exact ⟨fun j hm=>hj j (hsub.subset hm),List.Pairwise.sublist hsub t.R7⟩
  | false =>
   rw [cond_false]
   refine ⟨fun j hm=>?_,acJ t.R7 g1⟩
   rcases List.mem_or_eq_of_mem_set hm with q | q
   ·exact hj j q
   ·rw [q];have:=g2 hb;rw [e3] at this;exact this
theorem R8 {k:Nat} {K:jd} (h:KW K):KW (qw k K).1 /\ (qw k K).1.2.2.1=K.2.2.1 /\ (qw k K).1.2.2.2.1=K.2.2.2.1 /\ (qw k K).1.2.2.2.2.1=K.2.2.2.2.1 /\ (qw k K).1.1=IntKind.i64.wrap (K.1+1) /\ (qw k K).1.2.1=K.2.1 /\ (qw k K).1.2.2.2.2.2.2.1=false /\ jm (qw k K).1.2.2.2.2.2.2.2.2.1=jm K.2.2.2.2.2.2.2.2.1:=by
 unfold qw
 cases hc:K.2.2.2.2.1&&!K.2.2.2.2.2.1 with
 | false=>exact ⟨⟨h.FY,h.task,h.bnd,h.tab,h.job,h.R7,h.row,h.off⟩,rfl,rfl,rfl,rfl,rfl,rfl,rfl⟩
 | true =>
  rw [Bool.and_eq_true] at hc
  have hkj:=h.kj hc.1
  obtain ⟨b,T,w,js,e,g1,g2,g3,g4,g5,g6⟩:=am9 (k:=k) (hkj.ahead k) hkj hc.1 h.task (fun j hj=>by
   obtain ⟨x,hx,q,_⟩:=WQ hkj hj
   obtain ⟨a,ha⟩:=h.job x hx
   exact ⟨a,q _ _ ha⟩)
  rw [cond_true,e]
  exact ⟨⟨h.FY,h.task,h.bnd,g1,g5,g6,fun _=>⟨g3,g4⟩,fun q=>absurd (hc.1.symm.trans q) (by decide)⟩,rfl,rfl,rfl,rfl,rfl,rfl,g2⟩
theorem O5 (p:Int):∀ l:List jc,∀ a,a<ni p l -> (l.getD a ay).1<p
 | [],a,h=>by simp [ni] at h
 | x::l,a,h=>by
  rw [ni] at h
  by_cases hx:x.1<p
  ·rw [decide_eq_true hx,cond_true] at h
   cases a with
   | zero=>exact hx
   | succ a=>exact O5 p l a (by omega)
  ·rw [decide_eq_false hx,cond_false] at h;omega
theorem WR (p:Int):∀ l:List jc,ni p l<l.length -> ¬ (l.getD (ni p l) ay).1<p
 | [],h=>by simp at h
 | x::l,h=>by
  by_cases hx:x.1<p
  ·have e:ni p (x::l)=ni p l+1:=by rw [ni,decide_eq_true hx,cond_true]
   rw [e] at h ⊢
   exact WR p l (by simp only [List.length_cons] at h;omega)
  ·have e:ni p (x::l)=0:=by rw [ni,decide_eq_false hx,cond_false]
   rw [e];exact hx
theorem UW {js:List jc} (h:rising js) {p:Int} {x:jc} (hx:x.1=p) {n:Nat} (hn:ni p js <= n) (hs:n <= js.length) (ha:∀ a,n <= a -> a<js.length -> p<(js.getD a ay).1):rising (js.take (ni p js)++[x]++js.drop n):=by
 unfold rising at h ⊢
 have hat:∀ y∈js.take (ni p js),y.1<p:=fun y hy=>by
  obtain ⟨a,ha,e⟩:=List.mem_iff_getElem.1 hy
  rw [List.length_take] at ha
  rw [List.getElem_take] at e
  have:=O5 p js a (by omega)
  rw [getD_in (by omega),e] at this
  exact this
 have hdr:∀ y∈js.drop n,p<y.1:=fun y hy=>by
  obtain ⟨a,hb,e⟩:=List.mem_iff_getElem.1 hy
  rw [List.length_drop] at hb
  rw [List.getElem_drop] at e
  have:=ha (n+a) (by omega) (by omega)
  rw [getD_in (by omega),e] at this
  exact this
 rw [List.append_assoc,List.pairwise_append]
 refine ⟨List.Pairwise.sublist (List.take_sublist _ _) h,?_,?_⟩
 ·rw [List.singleton_append,List.pairwise_cons]
  exact ⟨fun y hy=>by rw [hx];exact hdr y hy,List.Pairwise.sublist (List.drop_sublist _ _) h⟩
 ·intro a ha b hb
  rw [List.singleton_append,List.mem_cons] at hb
  have:=hat a ha
  rcases hb with q | q
  ·rw [q,hx];exact this
  ·have:=hdr b q;omega
theorem O6 {K:jd} (hr:rising K.2.2.2.2.2.2.2.1) (p a:Int):((wz K p a).1=K /\ (wz K p a).2.1=[] /\ (wz K p a).2.2≠0) \/
  (K.2.2.2.2.1=true /\ K.2.2.2.2.2.1=false /\ (0 <= p /\ p<(K.2.2.1.length:Int)) /\ (wz K p a).2.2=0 /\ ∃ n,ni p K.2.2.2.2.2.2.2.1 <= n /\ n <= K.2.2.2.2.2.2.2.1.length /\ (wz K p a).1=w7 K (K.2.2.2.2.2.2.2.1.take (ni p K.2.2.2.2.2.2.2.1)++[K9 p K.1 a]++K.2.2.2.2.2.2.2.1.drop n) /\
   rising (K.2.2.2.2.2.2.2.1.take (ni p K.2.2.2.2.2.2.2.1)++[K9 p K.1 a]++K.2.2.2.2.2.2.2.1.drop n) /\
   ((n=ni p K.2.2.2.2.2.2.2.1 /\ (∀ j∈K.2.2.2.2.2.2.2.1,j.1≠p) /\ (wz K p a).2.1=[(K.1,1,p,0,a,0)]) \/
       (n=ni p K.2.2.2.2.2.2.2.1+1 /\ (K.2.2.2.2.2.2.2.1.getD (ni p K.2.2.2.2.2.2.2.1) ay).1=p /\ (K.2.2.2.2.2.2.2.1.getD (ni p K.2.2.2.2.2.2.2.1) ay).2.2.2.1=2 /\ (wz K p a).2.1=[(K.1,13,p,0,0,0),(K.1,1,p,0,a,0)]))):=by
 cases hru:K.2.2.2.2.1 with
 | false=>exact .inl (by unfold wz;rw [hru];exact ⟨rfl,rfl,(show (8:Int)≠0 by decide)⟩)
 | true =>
  cases hha:K.2.2.2.2.2.1 with
  | true=>exact .inl (by unfold wz;rw [hru,hha];exact ⟨rfl,rfl,(show (17:Int)≠0 by decide)⟩)
  | false =>
   cases hp:decide (p<0)||decide (p≥(K.2.2.1.length:Int)) with
   | true=>exact .inl (by unfold wz;rw [hru,hha,hp];exact ⟨rfl,rfl,(show (3:Int)≠0 by decide)⟩)
   | false =>
    have hp':=hp
    rw [Bool.or_eq_false_iff] at hp
    have p1:=of_decide_eq_false hp.1
    have p2:=of_decide_eq_false hp.2
    cases hof:K.2.2.2.2.2.2.2.2.2.2.getD p.toNat false with
    | true=>exact .inl (by unfold wz;rw [hru,hha,hp',hof];exact ⟨rfl,rfl,(show (6:Int)≠0 by decide)⟩)
    | false =>
     have hle:=Z0 p K.2.2.2.2.2.2.2.1
     have hstop:=WR p K.2.2.2.2.2.2.2.1
     have mono:∀ x y,x<y -> y<K.2.2.2.2.2.2.2.1.length -> (K.2.2.2.2.2.2.2.1.getD x ay).1<(K.2.2.2.2.2.2.2.1.getD y ay).1:=fun x y hxy hy=>by
      rw [getD_in (by omega),getD_in hy];exact List.pairwise_iff_getElem.1 hr x y (by omega) hy hxy
     cases hc:decide (ni p K.2.2.2.2.2.2.2.1<K.2.2.2.2.2.2.2.1.length)&&(K.2.2.2.2.2.2.2.1.getD (ni p K.2.2.2.2.2.2.2.1) ay).1==p with
     | true =>
      have hc':=hc
      rw [Bool.and_eq_true] at hc
      have c1:=of_decide_eq_true hc.1
      have c2:=eq_of_beq hc.2
      cases hph:(K.2.2.2.2.2.2.2.1.getD (ni p K.2.2.2.2.2.2.2.1) ay).2.2.2.1 != 2 with
      | true=>exact .inl (by unfold wz;rw [hru,hha,hp',hof];simp only [Bool.not_true,cond_false];rw [hc',hph];exact ⟨rfl,rfl,(show (5:Int)≠0 by decide)⟩)
      | false =>
       have e:wz K p a=(w7 K (K.2.2.2.2.2.2.2.1.take (ni p K.2.2.2.2.2.2.2.1)++[K9 p K.1 a]++K.2.2.2.2.2.2.2.1.drop (ni p K.2.2.2.2.2.2.2.1+1)),[(K.1,13,p,0,0,0),(K.1,1,p,0,a,0)],0):=by unfold wz;rw [hru,hha,hp',hof];simp only [Bool.not_true,cond_false];rw [hc',hph];rfl
       rw [e]
       refine .inr ⟨rfl,rfl,⟨by omega,by omega⟩,rfl,ni p K.2.2.2.2.2.2.2.1+1,by omega,by omega,rfl,UW (p:=p) (x:=K9 p K.1 a) hr rfl (by omega) (by omega) (fun b h1 h2=>?_),.inr ⟨rfl,c2,by simpa using hph,rfl⟩⟩
       have:=mono (ni p K.2.2.2.2.2.2.2.1) b (by omega) h2
       omega
     | false =>
      have e:wz K p a=(w7 K (K.2.2.2.2.2.2.2.1.take (ni p K.2.2.2.2.2.2.2.1)++[K9 p K.1 a]++K.2.2.2.2.2.2.2.1.drop (ni p K.2.2.2.2.2.2.2.1)),[(K.1,1,p,0,a,0)],0):=by unfold wz;rw [hru,hha,hp',hof];simp only [Bool.not_true,cond_false];rw [hc];rfl
      rw [e]
      have hgt:∀ b,ni p K.2.2.2.2.2.2.2.1 <= b -> b<K.2.2.2.2.2.2.2.1.length -> p<(K.2.2.2.2.2.2.2.1.getD b ay).1:=fun b h1 h2=>by
       have c0:=hstop (by omega)
       have c1:(K.2.2.2.2.2.2.2.1.getD (ni p K.2.2.2.2.2.2.2.1) ay).1≠p:=fun e=>by
        rw [e,decide_eq_true (show ni p K.2.2.2.2.2.2.2.1<K.2.2.2.2.2.2.2.1.length by omega)] at hc
        simp at hc
       by_cases e:b=ni p K.2.2.2.2.2.2.2.1
       ·rw [e];omega
       ·have:=mono (ni p K.2.2.2.2.2.2.2.1) b (by omega) h2
        omega
      refine .inr ⟨rfl,rfl,⟨by omega,by omega⟩,rfl,ni p K.2.2.2.2.2.2.2.1,Nat.le_refl _,hle,rfl,UW (p:=p) (x:=K9 p K.1 a) hr rfl (Nat.le_refl _) hle hgt,.inl ⟨rfl,fun j hj e=>?_,rfl⟩⟩
      obtain ⟨b,hb,eb⟩:=qy ay hj
      by_cases q:b<ni p K.2.2.2.2.2.2.2.1
      ·have:=O5 p _ b q;rw [eb] at this;omega
      ·have:=hgt b (by omega) hb;rw [eb] at this;omega
theorem apv {K:jd} (h:KW K) {p a:Int} (ha:KF a):KW (wz K p a).1:=by
 rcases O6 h.R7 p a with ⟨e,_⟩ | ⟨hru,hha,hp,_,n,h1,h2,e,hris,_⟩
 ·rw [e];exact h
 ·rw [e]
  refine ⟨h.FY,h.task,h.bnd,h.tab,fun j hj=>?_,hris,h.row,fun q=>absurd (hru.symm.trans q) (by decide)⟩
  have Lx:=h.task _ (jl (z:=bg) (show p.toNat<K.2.2.1.length by omega))
  rcases List.mem_append.1 (show j∈_++_ from hj) with hj | hj
  ·rcases List.mem_append.1 hj with hj | hj
   ·exact h.job j (List.mem_of_mem_take hj)
   ·rw [List.mem_singleton] at hj;rw [hj];exact ⟨a,JW.K9 hp ha Lx⟩
  ·exact h.job j (List.mem_of_mem_drop hj)
abbrev Stp:Type:=Int×(Int×iw×(Int×Int)×Int×Int×Int)×Int×Int
def stp (kd:Int) (t:iw):Stp:=(1,(kd,t,(0,0),0,0,0),0,0)
abbrev zt:iw:=(0,0,0,[],[],[])
def opS (b:Bool) (kd:Int):List Stp:=bif b then [stp kd zt] else []
theorem abK {k:Nat} (hk:1000 <= k) {p:List Int} {lo:Int} (hl:0 <= lo /\ lo <= 4):∀ (m j:Nat) (n:Int) (l:List Stp),m<j -> l.length+m <= 10 -> wh p n ->
  ∃ (tl:List iw) (bx fl:Bool) (n':Int),aa0 k j p n l lo (m:Int)=some ((l++tl.map (stp 1)++opS bx 3++opS fl 4++[stp 5 zt],()),(p,n',()),()) /\ wh p n' /\ tl.length=m /\ ∀ t∈tl,∃ r,MT lo r t
 | 0,j,n,l,hj,hm,hp=>by
  obtain ⟨j',rfl⟩:∃ j',j=j'+1:=⟨j - 1,by omega⟩
  obtain ⟨v,n1,e1,hv,hp1⟩:=l5 k hp (show (0:Int)<3 by omega)
  obtain ⟨w,n2,e2,hw,hp2⟩:=l5 k hp1 (show (0:Int)<3 by omega)
  rw [aeW,aeV,Sd (by omega),e1,Option.bind_some]
  simp only
  have tail:∀ l2:List Stp,l2.length <= 20 -> TD k p n1 l2=some ((l2++opS (w==0) 4++[stp 5 zt],()),(p,n2,()),()):=fun l2 hl2=>by
   unfold TD
   rw [e2,Option.bind_some]
   simp only
   unfold Ym Va opS stp
   cases w==0 with
   | true =>
    simp only [cond_true,Option.bind_some]
    rw [Rz (by simp only [List.length_cons,List.length_nil];omega),Rz (by simp only [List.length_append,List.length_cons,List.length_nil];omega)]
   | false =>
    simp only [cond_false,Option.bind_some,List.append_nil]
    rw [Rz (by simp only [List.length_cons,List.length_nil];omega)]
  refine ⟨[],v==0,w==0,n2,?_,hp2,rfl,fun t h=>by cases h⟩
  cases v==0 with
  | true =>
   rw [cond_true]
   unfold Va
   rw [Option.bind_some,Rz (by simp only [List.length_cons,List.length_nil];omega),tail _ (by simp only [List.length_append,List.length_cons,List.length_nil];omega)]
   simp [opS,stp]
  | false =>
   rw [cond_false,tail _ (by omega)]
   simp [opS]
 | m+1,j,n,l,hj,hm,hp=>by
  obtain ⟨j',rfl⟩:∃ j',j=j'+1:=⟨j - 1,by omega⟩
  obtain ⟨v,n1,e1,hv,hp1⟩:=l5 k hp (show (0:Int)<3 by omega)
  rw [aeW,aeV,Sc (by omega),e1,Option.bind_some]
  simp only
  obtain ⟨t,n2,e2,hp2,ht⟩:=aki hk (rank:=IntKind.i64.wrap (IntKind.i64.wrap (3 * ((m+1:Nat):Int))+v)) hl hp1
  rw [e2,Option.bind_some]
  simp only
  unfold Va
  rw [Option.bind_some,Rz (by simp only [List.length_cons,List.length_nil];omega),Uu (n:=((m+1:Nat):Int) - 1) (by omega) (by omega),show ((m+1:Nat):Int) - 1=(m:Int) by omega]
  obtain ⟨tl,bx,fl,n',q1,q2,q3,q4⟩:=abK hk hl m j' n2 (l++[stp 1 t]) (by omega) (by simp only [List.length_append,List.length_cons,List.length_nil];omega) hp2
  refine ⟨t::tl,bx,fl,n',?_,q2,by simp [q3],fun x hx=>?_⟩
  ·show aa0 k j' p n2 (l++[stp 1 t]) lo (m:Int)=_
   rw [q1];simp
  ·rcases List.mem_cons.1 hx with rfl | h
   ·exact ⟨_,ht⟩
   ·exact q4 x h
theorem abL {k:Nat} (hk:1000 <= k) {p:List Int} {lo:Nat} (hl:lo <= 4):∀ (d i j:Nat) (n:Int) ,i+d=lo -> d<j -> wh p n ->
  ∃ (tl:List iw) (bx fl:Bool) (n':Int),aeY k j p n (List.replicate i (stp 2 zt)) (lo:Int) (i:Int)=some ((List.replicate lo (stp 2 zt)++tl.map (stp 1)++opS bx 3++opS fl 4++[stp 5 zt],()),(p,n',()),()) /\ wh p n' /\ tl.length <= 4 /\ ∀ t∈tl,∃ r,MT lo r t
 | 0,i,j,n,h,hj,hp=>by
  obtain ⟨j',rfl⟩:∃ j',j=j'+1:=⟨j - 1,by omega⟩
  obtain ⟨v,n1,e1,hv,hp1⟩:=l5 k hp (show (0:Int)<4 by omega)
  rw [aeZ,aeX,Sd (by omega),e1,Option.bind_some]
  simp only
  rw [Uu (n:=v+1) (by omega) (by omega),show v+1=(((v+1).toNat:Nat):Int) by omega]
  obtain ⟨tl,bx,fl,n',q1,q2,q3,q4⟩:=abK hk (lo:=lo) (by omega) (v+1).toNat k n1 (List.replicate i (stp 2 zt)) (by omega) (by rw [List.length_replicate];omega) hp1
  have:i=lo:=by omega
  subst this
  exact ⟨tl,bx,fl,n',q1,q2,by omega,q4⟩
 | d+1,i,j,n,h,hj,hp=>by
  obtain ⟨j',rfl⟩:∃ j',j=j'+1:=⟨j - 1,by omega⟩
  rw [aeZ,aeX,Sc (by omega)]
  unfold Va
  rw [Option.bind_some,Rz (by simp only [List.length_replicate,List.length_cons,List.length_nil];omega),Mi (by omega)]
  obtain ⟨tl,bx,fl,n',q1,q2⟩:=abL hk hl d (i+1) j' n (by omega) (by omega) hp
  rw [List.replicate_succ'] at q1
  exact ⟨tl,bx,fl,n',q1,q2⟩
theorem apw {k:Nat} (hk:1000 <= k) {p:List Int} {n:Int} (hp:wh p n) :
  ∃ (lo:Nat) (tl:List iw) (bx fl:Bool) (n':Int),S17 k p n=some ((List.replicate lo (stp 2 zt)++tl.map (stp 1)++opS bx 3++opS fl 4++[stp 5 zt],()),(p,n',()),()) /\ wh p n' /\ lo <= 3 /\ tl.length <= 4 /\ ∀ t∈tl,∃ r,MT lo r t:=by
 obtain ⟨v,n1,e1,hv,hp1⟩:=l5 k hp (show (0:Int)<4 by omega)
 obtain ⟨m,rfl⟩:∃ m:Nat,v=(m:Int):=⟨v.toNat,by omega⟩
 obtain ⟨tl,bx,fl,n',q1,q2,q3,q4⟩:=abL hk (lo:=m) (by omega) m 0 k n1 (by omega) (by omega) hp1
 refine ⟨m,tl,bx,fl,n',?_,q2,by omega,q3,q4⟩
 unfold S17
 rw [e1,Option.bind_some]
 exact q1
structure SW (s:Stp):Prop where
 light:ze s.2.1.2.1 /\ (s.2.1.2.1.2.2.2.1++s.2.1.2.1.2.2.2.2.1).length <= 900
 arg:KF s.2.1.2.2.2.2.1
theorem SW.zero (a:Int) (b:Int) (h:Int×Int) (c d e:Int) (f:Int×Int) (hd:KF d):SW (a,(b,bg,h,c,d,e),f):=⟨⟨⟨by simp,by simp,by simp⟩,by simp⟩,hd⟩
theorem MT.cat {jw rank:Int} {t:iw} (h:MT jw rank t):(t.2.2.2.1++t.2.2.2.2.1).length <= 900:=by
 obtain ⟨m,e,_,hm⟩:=h.main
 rw [List.length_append,e,xg]
 rcases h.way with q | q | q <;> rw [q] <;> simp <;> omega
theorem akF {k:Nat} (hk:1000 <= k) {p:List Int} {n:Int} (hp:wh p n):∃ (l:List Stp) (n':Int),S17 k p n=some ((l,()),(p,n',()),()) /\ wh p n' /\ (∀ s∈l,SW s) /\ l.length <= 10:=by
 obtain ⟨lo,tl,bx,fl,n',e,hp2,hlo,has,hm⟩:=apw (k:=k) hk hp
 have i0:KF 0:=⟨by omega,by omega⟩
 have o:∀ (b:Bool) (n:Int),(opS b n).length <= 1 /\ ∀ s∈opS b n,SW s:=fun b n=>by
  cases b with
  | false=>exact ⟨by simp [opS],fun s h=>by cases h⟩
  | true=>exact ⟨by simp [opS],fun s h=>by rw [opS,cond_true,List.mem_singleton] at h;rw [h];exact SW.zero _ _ _ _ _ _ _ i0⟩
 have o1:=o bx 3
 have o2:=o fl 4
 refine ⟨_,n',e,hp2,fun s hs=>?_,by simp only [List.length_append,List.length_replicate,List.length_map,List.length_cons,List.length_nil];omega⟩
 simp only [List.mem_append,List.mem_replicate,List.mem_map,List.mem_singleton] at hs
 rcases hs with (((⟨_,rfl⟩ | ⟨t,ht,rfl⟩) | q) | q) | rfl
 ·exact SW.zero _ _ _ _ _ _ _ i0
 ·obtain ⟨r,hr⟩:=hm t ht
  exact ⟨⟨hr.light,hr.cat⟩,i0⟩
 ·exact o1.2 s q
 ·exact o2.2 s q
 ·exact SW.zero _ _ _ _ _ _ _ i0
theorem apx {k:Nat} (hk:1000 <= k) {p:List Int} {n:Int} (hp:wh p n):∃ (s:Stp) (n':Int),S38 k p n=some ((s,()),(p,n',()),()) /\ wh p n' /\ SW s:=by
 obtain ⟨a,n1,e1,h1,hp1⟩:=l5 k hp (show (0:Int)<8 by omega)
 obtain ⟨b,n2,e2,h2,hp2⟩:=l5 k hp1 (show (0:Int)<5 by omega)
 obtain ⟨v,n3,e3,h3,hp3⟩:=l5 k hp2 (show (0:Int)<24 by omega)
 have i0:KF 0:=⟨by omega,by omega⟩
 unfold S38 Va
 rw [e1,Option.bind_some]
 simp only
 rw [e2,Option.bind_some]
 simp only
 rw [e3,Option.bind_some]
 simp only
 have rel:∃ (s:Stp) (n':Int),((AB k p n3 6).bind fun q3=>(AB k q3.2.1.1 q3.2.1.2.1 9).bind fun q4=>(some (((1,(6,bg,(0,0),q3.1.1,IntKind.i64.wrap (q4.1.1 - 4),0),0,0),()),()):Option ((Stp×Unit)×Unit)).bind fun q5=>some ((q5.1.1,()),q4.2.1,()))=some ((s,()),(p,n',()),()) /\ wh p n' /\ SW s:=by
  obtain ⟨x,m1,f1,g1,r1⟩:=l5 k hp3 (show (0:Int)<6 by omega)
  obtain ⟨y,m2,f2,g2,r2⟩:=l5 k r1 (show (0:Int)<9 by omega)
  rw [f1,Option.bind_some]
  simp only
  rw [f2,Option.bind_some,Uu (n:=y - 4) (by omega) (by omega)]
  exact ⟨_,m2,rfl,r2,SW.zero _ _ _ _ _ _ _ ⟨by omega,by omega⟩⟩
 have one:∀ (m:Int) (hm:0<m) (f:Int -> Stp),(∀ x,0 <= x /\ x<m -> SW (f x)) -> ∃ (s:Stp) (n':Int),((AB k p n3 m).bind fun q=>some ((f q.1.1,()),q.2.1,()))=some ((s,()),(p,n',()),()) /\ wh p n' /\ SW s:=fun m hm f hf=>by
  obtain ⟨x,m1,f1,g1,r1⟩:=l5 k hp3 hm
  rw [f1,Option.bind_some]
  exact ⟨_,m1,rfl,r1,hf x g1⟩
 cases v==0 with
 | true=>exact rel
 | false =>
 cases v==1 with
 | true=>exact rel
 | false =>
 cases v==2 with
 | true=>exact rel
 | false =>
 cases v==3 with
 | true=>exact rel
 | false =>
 cases v==4 with
 | true=>exact rel
 | false =>
 cases v==5 with
 | true=>exact ⟨_,n3,rfl,hp3,SW.zero _ _ _ _ _ _ _ i0⟩
 | false =>
 cases v==6 with
 | true=>exact one 9 (by omega) (fun x=>(4,bn,x,0)) (fun x _=>SW.zero _ _ _ _ _ _ _ i0)
 | false =>
 cases v==7 with
 | true=>exact one 99 (by omega) (fun x=>(1,(7,bg,(a,IntKind.i64.wrap (1+IntKind.i64.wrap (Int.tdiv b 4))),0,x,0),0,0)) (fun x hx=>SW.zero _ _ _ _ _ _ _ ⟨by omega,by omega⟩)
 | false =>
 cases v==8 with
 | true=>exact one 4 (by omega) (fun x=>(1,(8,bg,(a,IntKind.i64.wrap (1+IntKind.i64.wrap (Int.tdiv b 4))),x,0,0),0,0)) (fun x hx=>SW.zero _ _ _ _ _ _ _ i0)
 | false =>
 cases v==9 with
 | true=>exact one 16 (by omega) (fun x=>(1,(9,bg,(a,IntKind.i64.wrap (1+IntKind.i64.wrap (Int.tdiv b 4))),0,0,IntKind.u32.wrap x),0,0)) (fun x hx=>SW.zero _ _ _ _ _ _ _ i0)
 | false =>
 cases v==10 with
 | true =>
  simp only [cond_true,cond_false]
  obtain ⟨x,m1,f1,g1,r1⟩:=l5 k hp3 (show (0:Int)<4 by omega)
  obtain ⟨y,m2,f2,g2,r2⟩:=l5 k r1 (show (0:Int)<16 by omega)
  rw [f1,Option.bind_some]
  simp only
  rw [f2,Option.bind_some]
  exact ⟨_,m2,rfl,r2,SW.zero _ _ _ _ _ _ _ i0⟩
 | false =>
 cases v==11 with
 | true =>
  simp only [cond_true,cond_false]
  obtain ⟨x,m1,f1,g1,r1⟩:=l5 k hp3 (show (0:Int)<12 by omega)
  obtain ⟨y,m2,f2,g2,r2⟩:=l5 k r1 (show (0:Int)<6 by omega)
  obtain ⟨z,m3,f3,g3,r3⟩:=l5 k r2 (show (0:Int)<9 by omega)
  obtain ⟨t,m4,f4,r4,ht⟩:=aki hk (rank:=z) (jw:=2) ⟨by omega,by omega⟩ r3
  rw [f1,Option.bind_some]
  simp only
  rw [f2,Option.bind_some]
  simp only
  rw [f3,Option.bind_some]
  simp only
  rw [f4,Option.bind_some]
  exact ⟨_,m4,rfl,r4,⟨⟨ht.light,ht.cat⟩,i0⟩⟩
 | false =>
 cases v==12 with
 | true=>exact one 30 (by omega) (fun x=>(5,bn,0,IntKind.i64.wrap (1+x))) (fun x _=>SW.zero _ _ _ _ _ _ _ i0)
 | false =>
 cases v==13 with
 | true=>exact one 30 (by omega) (fun x=>(5,bn,0,IntKind.i64.wrap (1+x))) (fun x _=>SW.zero _ _ _ _ _ _ _ i0)
 | false=>exact ⟨_,n3,rfl,hp3,SW.zero _ _ _ _ _ _ _ i0⟩
theorem abM {k:Nat} (hk:1000 <= k) {p:List Int} {c:Nat} (hc:c <= 500):∀ (m i j:Nat) (n:Int) (l:List Stp),i+m=c -> m<j -> wh p n -> (∀ s∈l,SW s) -> l.length <= 10+i ->
  ∃ (l':List Stp) (n':Int),ae1 k j p n (c:Int) l (i:Int)=some ((l',()),(p,n',()),()) /\ wh p n' /\ (∀ s∈l',SW s) /\ l'.length <= 10+c
 | 0,i,j,n,l,hi,hj,hp,hl,hn=>by
  obtain ⟨j,rfl⟩:∃ i,j=i+1:=⟨j - 1,by omega⟩
  rw [ae2,ae0,Sd (by omega)]
  exact ⟨l,n,rfl,hp,hl,by omega⟩
 | m+1,i,j,n,l,hi,hj,hp,hl,hn=>by
  obtain ⟨j,rfl⟩:∃ i,j=i+1:=⟨j - 1,by omega⟩
  rw [ae2,ae0,Sc (by omega)]
  unfold S28
  rw [Option.bind_some]
  simp only
  cases decide (n≥(p.length:Int)) with
  | true=>exact ⟨l,n,rfl,hp,hl,by omega⟩
  | false =>
   obtain ⟨s,n',e,hp',hs⟩:=apx hk hp
   rw [Bool.not_false,cond_true,e,Option.bind_some]
   simp only
   rw [Rz (by simp only [List.length_cons,List.length_nil];omega),Mi (by omega)]
   exact abM hk hc m (i+1) j n' (l++[s]) (by omega) (by omega) hp' (fun x hx=>by
    rcases List.mem_append.1 hx with q | q
    ·exact hl x q
    ·rw [List.mem_singleton] at q;rw [q];exact hs) (by simp;omega)
theorem apy {k:Nat} (hk:1000 <= k) {p:List Int} {n:Int} (hp:wh p n) {c:Nat} (hc:c <= 500):∃ (l:List Stp) (n':Int),S18 k p n (c:Int)=some ((l,()),(p,n',()),()) /\ wh p n' /\ (∀ s∈l,SW s) /\ l.length <= 10+c:=by
 obtain ⟨l,n1,e,hp1,hl,hn⟩:=akF hk hp
 unfold S18
 rw [e,Option.bind_some]
 exact abM hk hc c 0 k n1 l (by omega) (by omega) hp1 hl (by omega)
def takeB (b:List Int×List Int) (c:Int):(List Int×List Int)×Int×Bool×Bool :=
 bif decide (c<1) then (b,0,false,false)
 else bif decide ((b.1.length:Int)>0) then ((b.1.drop 1,b.2),b.1.getD 0 0,true,true)
 else bif b.2.any (fun x=>c==x) then (b,0,false,false)
 else bif decide ((b.2.length:Int)≥4) then (b,0,false,false) else ((b.1,b.2++[c]),0,false,true)
def EA (b:List Int×List Int) (v:Int):(List Int×List Int)×Int×Bool :=
 bif decide ((b.2.length:Int)>0) then ((b.1,b.2.drop 1),b.2.getD 0 0,true)
 else bif decide ((b.1.length:Int)≥4) then (b,0,false) else ((b.1++[v],b.2),0,true)
theorem aqB {k:Nat} {xs:List Int} (h:xs.length <= 900):G9 k xs=some ((xs,()),()):=by
 unfold G9;exact Ll (by omega)
theorem akG {k:Nat} {xs:List Int} (h:xs.length <= 900):aak k xs=some ((xs,()),()):=by
 unfold aak;exact Ll (by omega)
theorem arK {k:Nat} {xs:List (Int×Int)} (h:xs.length <= 900):aal k xs=some ((xs,()),()):=by
 unfold aal;exact Ll (by omega)
theorem sub_one {l:List Int}:sub l 1 (l.length:Int)=l.drop 1:=by
 unfold sub
 rw [Int.toNat_natCast,List.take_length];rfl
theorem ana {k:Nat} (hk:1000 <= k) {s:List Int} {v:Int} (h:s.length <= 900):ab9 k s v=some ((pq (fun b=>v==b) s,()),()):=by
 unfold ab9
 refine tq (fun j i=>EI k j s v (s.length:Int) i) s 0 _ (fun j i hi=>?_) (fun j=>?_) k (by omega)
 ·show EI k (j+1) s v (s.length:Int) (i:Int)=_
  rw [KP,MO,Sc (by omega),Qo hi,Mi (by omega),Qp]
 ·show EI k (j+1) s v (s.length:Int) (s.length:Int)=_
  rw [KP,MO,Sd (by omega)]
theorem anb {k:Nat} (hk:1000 <= k) {b:List Int×List Int} (h1:b.1.length <= 100) (h2:b.2.length <= 100) (c:Int):aiJ k b c=some (((takeB b c).1,(takeB b c).2.1,(takeB b c).2.2.1,(takeB b c).2.2.2,()),()):=by
 unfold aiJ aiF takeB
 rw [akG (by omega),Option.bind_some,aqB (by omega),Option.bind_some,Option.bind_some]
 simp only
 by_cases hc:c<1
 ·rw [Sc hc,Sc hc]
 ·rw [Sd hc,Sd hc]
  by_cases hl:(b.1.length:Int)>0
  ·rw [Sc hl,Sc hl,Lj (by omega) (by omega),Rx (by omega) (by omega) (by omega),sub_one]
   rfl
  ·rw [Sd hl,Sd hl]
   unfold aoE
   rw [ana hk (by omega)]
   simp only [Option.bind_some,D9]
   cases b.2.any (fun x=>c==x) with
   | true=>rfl
   | false =>
    rw [cond_false,cond_false]
    by_cases h4:(b.2.length:Int)≥4
    ·rw [Sc h4,Sc h4]
    ·rw [Sd h4,Sd h4,Rz (by simp;omega)]
theorem anc {k:Nat} (hk:1000 <= k) {b:List Int×List Int} (h1:b.1.length <= 100) (h2:b.2.length <= 100) (v:Int):aiG k b v=some (((EA b v).1,(EA b v).2.1,(EA b v).2.2,()),()):=by
 unfold aiG aiF EA
 rw [akG (by omega),Option.bind_some,aqB (by omega),Option.bind_some,Option.bind_some]
 simp only
 by_cases hl:(b.2.length:Int)>0
 ·rw [Sc hl,Sc hl,Lj (by omega) (by omega),Rx (by omega) (by omega) (by omega),sub_one]
  rfl
 ·rw [Sd hl,Sd hl]
  by_cases h4:(b.1.length:Int)≥4
  ·rw [Sc h4,Sc h4]
  ·rw [Sd h4,Sd h4,Rz (by simp;omega)]
def CS (f:Int×List (Int×Int)) (c m:Int):(Int×List (Int×Int))×Int×Bool :=
 bif decide (c<1) then (f,0,false)
 else bif m==0 then (f,0,false)
 else bif Um .u32 f.1 m != 0 then ((Ru .u32 f.1 (Um .u32 f.1 m),f.2),Um .u32 f.1 m,true)
 else bif decide ((f.2.length:Int)≥4) then (f,0,false)
 else bif f.2.any (fun w=>w.1==c) then (f,0,false) else ((f.1,f.2++[(c,m)]),0,true)
theorem ane {k:Nat} (hk:1000 <= k) {s:List (Int×Int)} {c:Int} (h:s.length <= 900):alj k s c=some ((pq (fun w:Int×Int=>w.1==c) s,()),()):=by
 unfold alj
 refine tq (fun j i=>MP k j s c (s.length:Int) i) s (0,0) _ (fun j i hi=>?_) (fun j=>?_) k (by omega)
 ·show MP k (j+1) s c (s.length:Int) (i:Int)=_
  rw [aaH,XZ,Sc (by omega),Qo hi,Mi (by omega),Qp]
  unfold aoI
  rfl
 ·show MP k (j+1) s c (s.length:Int) (s.length:Int)=_
  rw [aaH,XZ,Sd (by omega)]
theorem anf {k:Nat} (hk:1000 <= k) {f:Int×List (Int×Int)} (h2:f.2.length <= 100) (c m:Int):aiX k f c m=some (((CS f c m).1,(CS f c m).2.1,(CS f c m).2.2,()),()):=by
 unfold aiX CS
 rw [arK (by omega),Option.bind_some]
 by_cases hc:c<1
 ·rw [Sc hc,Sc hc]
 ·rw [Sd hc,Sd hc]
  cases m==0 with
  | true=>rfl
  | false =>
   rw [cond_false,cond_false]
   cases Um .u32 f.1 m != 0 with
   | true=>rfl
   | false =>
    rw [cond_false,cond_false]
    by_cases h4:(f.2.length:Int)≥4
    ·rw [Sc h4,Sc h4]
    ·rw [Sd h4,Sd h4]
     unfold aoJ
     rw [ane hk (by omega)]
     simp only [Option.bind_some,D9]
     cases f.2.any (fun w=>w.1==c) with
     | true=>rfl
     | false=>rw [cond_false,cond_false,Rz (by simp;omega)]
theorem akH {k:Nat} (hk:1000 <= k) {t:Tb} {h:Int×Int} (ht:uy t) (hf:BF t h=true) (hc:(rd t.2 h.1 j3).1≠1):aaK k t h=some ((PE t h,wo (rd t.2 h.1 j3),true,()),()):=by
 unfold aaK PE
 rw [EY hk ht,Option.bind_some,QU hk ht,Option.bind_some,hf]
 have hf':=hf
 unfold BF at hf'
 rw [Bool.and_eq_true] at hf'
 obtain ⟨h0,h1,h2⟩:=za hf'.2
 simp only [Bool.not_true,cond_false,if_true,true_and]
 rw [Lj h0 h1,show ((rd t.2 h.1 j3).1==1)=false by simpa using hc,cond_false,if_pos hc]
 have hfree:alk k t.1 h=some (((t.1.1,upd t.1.2 h.1 false),true,()),()):=by
  unfold alk ais
  simp only [G9,V7]
  rw [Ll (by have:=ht.1.1;omega),Option.bind_some,Ll (by have:=ht.1.2.1;omega),Option.bind_some,Option.bind_some]
  simp only
  have e0:((t.1.1,t.1.2):iq)=t.1:=rfl
  rw [e0,afH hk ht.1.1 ht.1.2.1,Option.bind_some,hf'.1]
  have hh:=hf'.1
  unfold akf at hh
  simp only [Bool.and_eq_true,decide_eq_true_eq] at hh
  simp only [Bool.not_true,cond_false]
  rw [Lj h0 (by omega)]
 rw [hfree,Option.bind_some,Lj h0 h1,Lj h0 h1,afz hk (ht.2 _ (NS h0 h1)),Option.bind_some]
def CU (s:(Int×List (Int×Int))×List (Int×Int)) (w:Int×Int):(Int×List (Int×Int))×List (Int×Int) :=
 bif Um .u32 s.1.1 w.2==0 then ((s.1.1,s.1.2++[w]),s.2) else ((Ru .u32 s.1.1 (Um .u32 s.1.1 w.2),s.1.2),s.2++[(w.1,Um .u32 s.1.1 w.2)])
def H7 (f:Int×List (Int×Int)) (m:Int):(Int×List (Int×Int))×List (Int×Int):=f.2.foldl CU ((Uz .u32 f.1 m,[]),[])
theorem O7:∀ (l:List (Int×Int)) (s:(Int×List (Int×Int))×List (Int×Int)),(l.foldl CU s).1.2.length <= s.1.2.length+l.length /\ (l.foldl CU s).2.length <= s.2.length+l.length
 | [],s=>⟨by simp,by simp⟩
 | w::l,s=>by
  rw [List.foldl_cons]
  obtain ⟨a,b⟩:=O7 l (CU s w)
  have:(CU s w).1.2.length <= s.1.2.length+1 /\ (CU s w).2.length <= s.2.length+1:=by
   unfold CU
   cases Um .u32 s.1.1 w.2==0 <;> simp
  simp only [List.length_cons];omega
theorem ang {k:Nat} (hk:1000 <= k) {f:Int×List (Int×Int)} (h:f.2.length <= 100) (m:Int):aiL k f m=some (((H7 f m).1,(H7 f m).2,()),()):=by
 have key:∀ (d i j:Nat) (s:(Int×List (Int×Int))×List (Int×Int)),i+d=f.2.length -> d<j -> s.1.2.length <= i -> s.2.length <= i ->
   XW k j s.1.1 s.1.2 s.2 f.2 (f.2.length:Int) (i:Int)=some ((((f.2.drop i).foldl CU s).1,((f.2.drop i).foldl CU s).2,()),()):=by
  intro d
  induction d with
  | zero =>
   intro i j s hi hj h1 h2
   obtain ⟨j,rfl⟩:∃ i,j=i+1:=⟨j - 1,by omega⟩
   rw [aaD,XV,Sd (by omega),drop_nil (by omega)];rfl
  | succ d ih =>
   intro i j s hi hj h1 h2
   obtain ⟨j,rfl⟩:∃ i,j=i+1:=⟨j - 1,by omega⟩
   have hi':i<f.2.length:=by omega
   have hl:=O7 [f.2.getD i (0,0)] s
   simp only [List.foldl_cons,List.foldl_nil,List.length_cons,List.length_nil] at hl
   have ih:=ih (i+1) j (CU s (f.2.getD i (0,0))) (by omega) (by omega) (by omega) (by omega)
   rw [aaD,XV,Sc (by omega),Qo hi',Qp,Mi (by omega),drop_cons (0,0) hi',List.foldl_cons]
   refine Eq.trans ?_ ih
   unfold CU
   cases Um .u32 s.1.1 (f.2.getD i (0,0)).2==0 with
   | true=>rw [cond_true,cond_true,Rz (by simp only [List.length_cons,List.length_nil];omega)]
   | false=>rw [cond_false,cond_false,Rz (by simp only [List.length_cons,List.length_nil];omega)]
 unfold aiL H7
 exact key f.2.length 0 k ((Uz .u32 f.1 m,[]),[]) (by omega) (by omega) (by simp) (by simp)
abbrev Cl:Type:=Int×iw×(Int×Int)×Int×Int×Int
abbrev Rly:Type:=Int×(Int×Int)×Int
abbrev CR:Type:=jd×List je×Rly
def err (K:jd) (e:Int):CR:=(K,[],e,(0,0),0)
def yh (K:jd) (T:Tb):jd:=w8 K T
noncomputable def O8 (K:jd) (c:Cl):CR:=bif K.2.2.2.2.1 then err K 7 else bif (inT K.2.2.1 c.2.1 K.2.1).2.2==0 then err (K.1,K.2.1,(inT K.2.2.1 c.2.1 K.2.1).1,(inT K.2.2.1 c.2.1 K.2.1).2.1,K.2.2.2.2) 0 else err K (inT K.2.2.1 c.2.1 K.2.1).2.2
noncomputable def CV (k:Nat) (K:jd) (c:Cl):CR:=bif (c.1==2)&&K.2.2.2.2.1 then err K 7 else bif (zl k K.2.2.2.2.2.2.2.2.1 (c.1 - 1)).2.2 then (yh K (zl k K.2.2.2.2.2.2.2.2.1 (c.1 - 1)).1,[],0,(zl k K.2.2.2.2.2.2.2.2.1 (c.1 - 1)).2.1,0) else err K 4
def aqC (K:jd):jd:=z9 K (List.replicate K.2.2.1.length 0,List.replicate K.2.2.1.length false)
noncomputable def H8 (k:Nat) (K:jd):CR:=bif (uj k K).2==0 then err (aqC (uj k K).1) 0 else err K (uj k K).2
def aqD (K:jd) (c:Cl):CR:=((wz K c.2.2.2.1 c.2.2.2.2.1).1,(wz K c.2.2.2.1 c.2.2.2.2.1).2.1,(wz K c.2.2.2.1 c.2.2.2.2.1).2.2,(0,0),0)
def O9 (T:Tb) (h:Int×Int) (kd:Int):Bool:=BF T h&&(rd T.2 h.1 j3).1==kd
noncomputable def WS (k:Nat) (K:jd) (c:Cl):CR :=
 let T:=K.2.2.2.2.2.2.2.2.1
 let x:=rd T.2 c.2.2.1.1 j3
 let b:=EA x.2.2.2.1 c.2.2.2.2.1
 bif !O9 T c.2.2.1 2 then err K 3 else bif !b.2.2 then err K 4
 else (yh K (EZ k T c.2.2.1.1 (w3 x b.1)),bif decide (b.2.1>0) then [(K.1,12,0,b.2.1,c.2.2.2.2.1,0)] else [],0,(0,0),0)
noncomputable def WT (k:Nat) (K:jd) (c:Cl):CR :=
 let T:=K.2.2.2.2.2.2.2.2.1
 let x:=rd T.2 c.2.2.1.1 j3
 let b:=takeB x.2.2.2.1 c.2.2.2.1
 bif !O9 T c.2.2.1 2 then err K 3 else bif !b.2.2.2 then err K 1
 else (yh K (EZ k T c.2.2.1.1 (w3 x b.1)),[],bif b.2.2.1 then 0 else 16,(0,0),bif b.2.2.1 then b.2.1 else 0)
def abN (now:Int) (l:List (Int×Int)):List je:=l.map fun w=>(now,12,0,w.1,IntKind.i64.wrap w.2,0)
noncomputable def OA (k:Nat) (K:jd) (c:Cl):CR :=
 let T:=K.2.2.2.2.2.2.2.2.1
 let x:=rd T.2 c.2.2.1.1 j3
 let b:=H7 x.2.2.2.2.1 c.2.2.2.2.2
 bif !O9 T c.2.2.1 3 then err K 3
 else (yh K (EZ k T c.2.2.1.1 (w4 x b.1)),abN K.1 b.2,0,(0,0),0)
noncomputable def OB (k:Nat) (K:jd) (c:Cl):CR :=
 let T:=K.2.2.2.2.2.2.2.2.1
 let x:=rd T.2 c.2.2.1.1 j3
 let b:=CS x.2.2.2.2.1 c.2.2.2.1 c.2.2.2.2.2
 bif !O9 T c.2.2.1 3 then err K 3 else bif !b.2.2 then err K 1
 else (yh K (EZ k T c.2.2.1.1 (w4 x b.1)),[],bif b.2.1==0 then 16 else 0,(0,0),IntKind.i64.wrap b.2.1)
def ahb (T:Tb) (h:Int×Int):Bool:=BF T h&&(rd T.2 h.1 j3).1 != 1
def WU (K:jd) (c:Cl):CR :=
 let T:=K.2.2.2.2.2.2.2.2.1
 bif !ahb T c.2.2.1 then err K 3
 else (yh K (PE T c.2.2.1),(wo (rd T.2 c.2.2.1.1 j3)).map (fun w=>(K.1,12,0,w,0,15)),0,(0,0),0)
noncomputable def H9 (k:Nat) (K:jd) (c:Cl):CR :=
 bif c.1==1 then O8 K c else bif c.1==2 then CV k K c else bif c.1==3 then CV k K c else bif c.1==4 then CV k K c
 else bif c.1==5 then H8 k K else bif c.1==6 then aqD K c else bif c.1==7 then WS k K c else bif c.1==8 then WT k K c
 else bif c.1==9 then OA k K c else bif c.1==10 then OB k K c else bif c.1==11 then WU K c else err K 1
def KC (K:jd) (c:Cl):jd×Cl×List je×Rly:=(K,c,[],0,(0,0),0)
def asR (c:Cl) (r:CR):jd×Cl×List je×Rly:=(r.1,c,r.2.1,r.2.2)
theorem M6 {k:Nat} (hk:1000 <= k) {K:jd} (hT:uy K.2.2.2.2.2.2.2.2.1) {c:Cl} (kd:Int):ab8 k (KC K c) kd=some ((bif O9 K.2.2.2.2.2.2.2.2.1 c.2.2.1 kd then (c.2.2.1.1,rd K.2.2.2.2.2.2.2.2.1.2 c.2.2.1.1 j3,true,()) else (0,bf,false,())),(bif O9 K.2.2.2.2.2.2.2.2.1 c.2.2.1 kd then BI (KC K c) else BI (asR c (err K 3))),()):=by
 unfold ab8 O9
 have e:agu k K.2.2.2.2.2.2.2.2.1 c.2.2.1=_:=QU hk hT
 cases hf:BF K.2.2.2.2.2.2.2.2.1 c.2.2.1 with
 | false =>
  rw [hf] at e
  refine (congrArg (fun x=>Option.bind x _) e).trans ?_
  rfl
 | true =>
  rw [hf,if_pos rfl] at e
  have hf':=hf
  unfold BF at hf'
  rw [Bool.and_eq_true] at hf'
  obtain ⟨h0,h1,h2⟩:=za hf'.2
  have ei:∀ {R:Type} (x:Option R),ix (KC K c).1.2.2.2.2.2.2.2.2.1.2 c.2.2.1.1 x=x:=fun x=>Lj h0 h1
  refine (congrArg (fun x=>Option.bind x _) e).trans ?_
  simp only [Option.bind_some,Bool.not_true,cond_false,Bool.true_and]
  rw [ei,ei]
  by_cases q:(rd K.2.2.2.2.2.2.2.2.1.2 c.2.2.1.1 j3).1=kd
  ·rw [show ((rd (KC K c).1.2.2.2.2.2.2.2.2.1.2 c.2.2.1.1 bf).1 != kd)=false by simpa [KC] using q,show ((rd K.2.2.2.2.2.2.2.2.1.2 c.2.2.1.1 j3).1==kd)=true from beq_iff_eq.2 q]
   rfl
  ·rw [show ((rd (KC K c).1.2.2.2.2.2.2.2.2.1.2 c.2.2.1.1 bf).1 != kd)=true by simpa [KC] using q,beq_eq_false_iff_ne.2 q]
   rfl
theorem FB {T:Tb} (hT:uy T) {h:Int×Int} {kd:Int} (hx:O9 T h kd=true):Wo (rd T.2 h.1 j3):=by
 unfold O9 BF at hx
 simp only [Bool.and_eq_true] at hx
 obtain ⟨h0,h1,h2⟩:=za hx.1.2
 exact hT.2 _ (NS h0 h1)
theorem Z4 {k:Nat} {a:jd×Cl×List je×Rly} (h:a.2.2.1.length <= 1000) (b c e:Int):aiH k a b c e=some ((),BI (a.1,a.2.1,a.2.2.1++[(a.1.1,12,0,b,c,e)],a.2.2.2),()) /\ aeo k a b c e=some ((),BI (a.1,a.2.1,a.2.2.1++[(a.1.1,12,0,b,c,e)],a.2.2.2),()):=by
 unfold aiH aeo
 rw [Rz (by simp only [List.length_cons,List.length_nil];omega)]
 exact ⟨rfl,rfl⟩
theorem WV {b:List Int×List Int} (h:b.1.length <= 100 /\ b.2.length <= 100) (v:Int):(EA b v).1.1.length <= 100 /\ (EA b v).1.2.length <= 100:=by
 unfold EA
 by_cases h1:(b.2.length:Int)>0
 ·rw [Sc h1];exact ⟨h.1,by simp only [List.length_drop];omega⟩
 ·rw [Sd h1]
  by_cases h2:(b.1.length:Int)≥4
  ·rw [Sc h2];exact h
  ·rw [Sd h2];exact ⟨by simp only [List.length_append,List.length_cons,List.length_nil];omega,h.2⟩
theorem WW {b:List Int×List Int} (h:b.1.length <= 100 /\ b.2.length <= 100) (c:Int):(takeB b c).1.1.length <= 100 /\ (takeB b c).1.2.length <= 100:=by
 unfold takeB
 by_cases h0:c<1
 ·rw [Sc h0];exact h
 ·rw [Sd h0]
  by_cases h1:(b.1.length:Int)>0
  ·rw [Sc h1];exact ⟨by simp only [List.length_drop];omega,h.2⟩
  ·rw [Sd h1]
   cases b.2.any (fun x=>c==x) with
   | true=>exact h
   | false =>
    rw [cond_false]
    by_cases h2:(b.2.length:Int)≥4
    ·rw [Sc h2];exact h
    ·rw [Sd h2];exact ⟨h.1,by simp only [List.length_append,List.length_cons,List.length_nil];omega⟩
theorem UY {f:Int×List (Int×Int)} (h:f.2.length <= 100) (c m:Int):(CS f c m).1.2.length <= 100:=by
 unfold CS
 by_cases h0:c<1
 ·rw [Sc h0];exact h
 ·rw [Sd h0]
  cases m==0 with
  | true=>exact h
  | false =>
   rw [cond_false]
   cases Um .u32 f.1 m != 0 with
   | true=>exact h
   | false =>
    rw [cond_false]
    by_cases h2:(f.2.length:Int)≥4
    ·rw [Sc h2];exact h
    ·rw [Sd h2]
     cases f.2.any (fun w=>w.1==c) with
     | true=>exact h
     | false=>simp only [cond_false,List.length_append,List.length_cons,List.length_nil];omega
theorem KD {f:Int×List (Int×Int)} (h:f.2.length <= 100) (m:Int):(H7 f m).1.2.length <= 100 /\ (H7 f m).2.length <= 100:=by
 have:=O7 f.2 ((Uz .u32 f.1 m,[]),[])
 simp only [List.length_nil] at this
 unfold H7
 omega
theorem ahc (c:Int) (h:c=2 \/ c=3 \/ c=4):Us (.int .i64) (.int .i64) c (vL (.int .i64) (.int .i64) 4 3 (vL (.int .i64) (.int .i64) 3 2 (vL (.int .i64) (.int .i64) 2 1 ([]:List (Int×Int))))) 0=c - 1:=by
 rcases h with rfl | rfl | rfl <;> rfl
theorem UZ {k:Nat} (hk:1000 <= k) {K:jd} (hT:uy K.2.2.2.2.2.2.2.2.1) {c:Cl} (hc:c.1=2 \/ c.1=3 \/ c.1=4):S90 k (KC K c)=some ((),BI (asR c (CV k K c)),()):=by
 have key:aax k (KC K c) (vL (.int .i64) (.int .i64) 4 3 (vL (.int .i64) (.int .i64) 3 2 (vL (.int .i64) (.int .i64) 2 1 ([]:List (Int×Int)))))=some ((),BI (asR c (bif (zl k K.2.2.2.2.2.2.2.2.1 (c.1 - 1)).2.2 then (yh K (zl k K.2.2.2.2.2.2.2.2.1 (c.1 - 1)).1,[],0,(zl k K.2.2.2.2.2.2.2.2.1 (c.1 - 1)).2.1,0) else err K 4)),()):=by
  unfold aax
  rw [show (KC K c).2.1.1=c.1 from rfl,ahc c.1 hc]
  have e:=amt hk (t:=K.2.2.2.2.2.2.2.2.1) (c:=c.1 - 1) hT (by omega)
  refine (congrArg (fun x=>Option.bind x _) e).trans ?_
  rw [Option.bind_some]
  simp only
  cases (zl k K.2.2.2.2.2.2.2.2.1 (c.1 - 1)).2.2 <;> rfl
 unfold S90 CV
 rw [key,show (KC K c).2.1.1=c.1 from rfl,show (KC K c).1.2.2.2.2.1=K.2.2.2.2.1 from rfl]
 cases c.1==2 with
 | false=>rfl
 | true=>cases K.2.2.2.2.1 <;> rfl
theorem ahd {k:Nat} {n:Nat} (h:n <= 100):S87 k (n:Int)=some (((List.replicate n 0,List.replicate n false),()),()):=by
 have e:mn (mx (n:Int) 0) 65536=(n:Int):=by unfold mn mx;split <;> split <;> omega
 unfold S87 mk
 rw [e,if_pos rfl,if_pos (by simp;omega),if_pos rfl,if_pos (by simp;omega)]
 rfl
theorem start_eq {k:Nat} (hk:1000 <= k) {K:jd} (h:KW K) {c:Cl}:S91 k (KC K c)=some ((),BI (asR c (H8 k K)),()):=by
 unfold S91 H8
 have e:S23 k (KC K c).1=_:=apt hk h.ks
 rw [e,Option.bind_some]
 simp only
 have h8:=h.FY
 have ht:(uj k K).1.2.2.1=K.2.2.1:=by
  unfold uj
  cases K.2.2.2.2.1 with
  | true=>rfl
  | false=>cases K.2.2.1.any (GZ (jr K.2.2.2.2.2.2.2.2.1).length) <;> rfl
 show (bif (uj k K).2==0 then (S87 k ((uj k K).1.2.2.1.length:Int)).bind fun q=>some ((),BI (z9 (uj k K).1 q.1.1,c,[],(uj k K).2,(0,0),0),()) else some ((),BI (asR c (err K (uj k K).2)),()))=_
 cases hz:(uj k K).2==0 with
 | true =>
  rw [cond_true,cond_true,ht,ahd (by omega),Option.bind_some,eq_of_beq hz]
  unfold aqC
  rw [ht];rfl
 | false=>rfl
theorem af5 {k:Nat} {c:Cl} {r:Rly} {K:jd} {w:List Int} (hw:w.length <= 900):∀ (m i j:Nat) (ev:List je),i+m=w.length -> m<j -> ev.length <= i -> aer k j (K,c,ev,r) w (w.length:Int) (i:Int)=some ((),BI (K,c,ev++(w.drop i).map (fun w=>(K.1,12,0,w,0,15)),r),())
 | 0,i,j,ev,hi,hj,he=>by
  obtain ⟨j,rfl⟩:∃ i,j=i+1:=⟨j - 1,by omega⟩
  rw [aes,aep,Sd (by omega),drop_nil (by omega),List.map_nil,List.append_nil]
 | m+1,i,j,ev,hi,hj,he=>by
  obtain ⟨j,rfl⟩:∃ i,j=i+1:=⟨j - 1,by omega⟩
  have hi':i<w.length:=by omega
  have ih:=af5 (k:=k) (c:=c) (r:=r) (K:=K) hw m (i+1) j (ev++[(K.1,12,0,w.getD i 0,0,15)]) (by omega) (by omega) (by simp;omega)
  rw [aes,aep,Sc (by omega),Qo hi',Qp,(Z4 (by show ev.length <= _;omega) _ _ _).2,Option.bind_some,Mi (by omega),drop_cons 0 hi',List.map_cons]
  simp only [vrA]
  rw [ih,List.append_assoc,List.singleton_append]
theorem abO {k:Nat} {c:Cl} {r:Rly} {K:jd} {h:Int} {x:Th} {F:Int×List (Int×Int)} {o:Int} {os:List (Int×Int)} {w:List (Int×Int)} (hk:1000 <= k) (hT:uy K.2.2.2.2.2.2.2.2.1) (hx:Wo (w4 x F)) (hw:w.length <= 900):∀ (m i j:Nat) (ev:List je),i+m=w.length -> m<j -> ev.length <= i ->
  aei k j (K,c,ev,r) h x.1 x.2.1.1 x.2.1.2 x.2.2.1.1 x.2.2.1.2 x.2.2.2.1.1 x.2.2.2.1.2 o os x.2.2.2.2.2 F.1 F.2 w (w.length:Int) (i:Int)=some ((),BI (yh K (EZ k K.2.2.2.2.2.2.2.2.1 h (w4 x F)),c,ev++abN K.1 (w.drop i),r),())
 | 0,i,j,ev,hi,hj,he=>by
  obtain ⟨j,rfl⟩:∃ i,j=i+1:=⟨j - 1,by omega⟩
  have e:=IX hk (i:=h) hT hx
  rw [aej,aeh,Sd (by omega),drop_nil (by omega)]
  refine (congrArg (fun x=>Option.bind x _) e).trans ?_
  unfold abN
  rw [Option.bind_some,List.map_nil,List.append_nil];rfl
 | m+1,i,j,ev,hi,hj,he=>by
  obtain ⟨j,rfl⟩:∃ i,j=i+1:=⟨j - 1,by omega⟩
  have hi':i<w.length:=by omega
  have ih:=abO (k:=k) (c:=c) (r:=r) (K:=K) (h:=h) (x:=x) (F:=F) (o:=o) (os:=os) hk hT hx hw m (i+1) j (ev++[(K.1,12,0,(w.getD i (0,0)).1,IntKind.i64.wrap (w.getD i (0,0)).2,0)]) (by omega) (by omega) (by simp;omega)
  rw [aej,aeh,Sc (by omega),Qo hi',Qp,(Z4 (by show ev.length <= _;omega) _ _ _).1,Option.bind_some,Mi (by omega),drop_cons (0,0) hi']
  simp only [vrA]
  rw [ih]
  unfold abN
  rw [List.map_cons,List.append_assoc,List.singleton_append]
theorem post_eq {k:Nat} (hk:1000 <= k) {K:jd} (hT:uy K.2.2.2.2.2.2.2.2.1) {c:Cl}:S93 k (KC K c)=some ((),BI (asR c (WS k K c)),()):=by
 unfold S93 WS
 rw [M6 hk hT,Option.bind_some]
 dsimp only
 cases hx:O9 K.2.2.2.2.2.2.2.2.1 c.2.2.1 2 with
 | false=>rfl
 | true =>
  have hs:=FB hT hx
  generalize hxe:rd K.2.2.2.2.2.2.2.2.1.2 c.2.2.1.1 j3=x at hs
  simp only [cond_true,Bool.not_true,cond_false,vrA]
  have e:aiG k x.2.2.2.1 (KC K c).2.1.2.2.2.2.1=_:=anc hk hs.1 hs.2.1 c.2.2.2.2.1
  rw [e,Option.bind_some]
  simp only
  have hp:=WV ⟨hs.1,hs.2.1⟩ c.2.2.2.2.1
  generalize EA x.2.2.2.1 c.2.2.2.2.1=b at hp
  cases b.2.2 with
  | false=>rfl
  | true =>
   simp only [Bool.not_true,cond_false]
   have ep:=IX hk (t:=K.2.2.2.2.2.2.2.2.1) (i:=c.2.2.1.1) (x:=w3 x b.1) hT ⟨hp.1,hp.2,hs.2.2⟩
   cases decide (b.2.1>0) with
   | true =>
    rw [cond_true,cond_true,(Z4 (by simp [KC]) _ _ _).1,Option.bind_some]
    simp only [vrA]
    refine (congrArg (fun x=>Option.bind x _) ep).trans ?_
    rfl
   | false =>
    rw [cond_false,cond_false]
    refine (congrArg (fun x=>Option.bind x _) ep).trans ?_
    rfl
theorem anh {k:Nat} (hk:1000 <= k) {K:jd} (hT:uy K.2.2.2.2.2.2.2.2.1) {c:Cl}:S94 k (KC K c)=some ((),BI (asR c (WT k K c)),()):=by
 unfold S94 WT
 rw [M6 hk hT,Option.bind_some]
 dsimp only
 cases hx:O9 K.2.2.2.2.2.2.2.2.1 c.2.2.1 2 with
 | false=>rfl
 | true =>
  have hs:=FB hT hx
  generalize hxe:rd K.2.2.2.2.2.2.2.2.1.2 c.2.2.1.1 j3=x at hs
  simp only [cond_true,Bool.not_true,cond_false,vrA]
  have e:aiJ k x.2.2.2.1 (KC K c).2.1.2.2.2.1=_:=anb hk hs.1 hs.2.1 c.2.2.2.1
  rw [e,Option.bind_some]
  simp only
  have hp:=WW ⟨hs.1,hs.2.1⟩ c.2.2.2.1
  generalize takeB x.2.2.2.1 c.2.2.2.1=b at hp
  cases b.2.2.2 with
  | false=>rfl
  | true =>
   simp only [Bool.not_true,cond_false]
   have ep:=IX hk (t:=K.2.2.2.2.2.2.2.2.1) (i:=c.2.2.1.1) (x:=w3 x b.1) hT ⟨hp.1,hp.2,hs.2.2⟩
   cases b.2.2.1 with
   | true =>
    rw [cond_true,cond_true,cond_true]
    refine (congrArg (fun x=>Option.bind x _) ep).trans ?_
    rfl
   | false =>
    rw [cond_false,cond_false,cond_false]
    refine (congrArg (fun x=>Option.bind x _) ep).trans ?_
    rfl
theorem akI {k:Nat} (hk:1000 <= k) {K:jd} (hT:uy K.2.2.2.2.2.2.2.2.1) {c:Cl}:S96 k (KC K c)=some ((),BI (asR c (OB k K c)),()):=by
 unfold S96 OB
 rw [M6 hk hT,Option.bind_some]
 dsimp only
 cases hx:O9 K.2.2.2.2.2.2.2.2.1 c.2.2.1 3 with
 | false=>rfl
 | true =>
  have hs:=FB hT hx
  generalize hxe:rd K.2.2.2.2.2.2.2.2.1.2 c.2.2.1.1 j3=x at hs
  simp only [cond_true,Bool.not_true,cond_false,vrA]
  have e:aiX k x.2.2.2.2.1 (KC K c).2.1.2.2.2.1 (KC K c).2.1.2.2.2.2.2=_:=anf hk hs.2.2 c.2.2.2.1 c.2.2.2.2.2
  rw [e,Option.bind_some]
  simp only
  have hp:=UY hs.2.2 c.2.2.2.1 c.2.2.2.2.2
  generalize CS x.2.2.2.2.1 c.2.2.2.1 c.2.2.2.2.2=b at hp
  cases b.2.2 with
  | false=>rfl
  | true =>
   simp only [Bool.not_true,cond_false]
   have ep:=IX hk (t:=K.2.2.2.2.2.2.2.2.1) (i:=c.2.2.1.1) (x:=w4 x b.1) hT ⟨hs.1,hs.2.1,hp⟩
   cases b.2.1==0 with
   | true =>
    rw [cond_true,cond_true]
    refine (congrArg (fun x=>Option.bind x _) ep).trans ?_
    rfl
   | false =>
    rw [cond_false,cond_false]
    refine (congrArg (fun x=>Option.bind x _) ep).trans ?_
    rfl
theorem akJ {k:Nat} (hk:1000 <= k) {K:jd} (hT:uy K.2.2.2.2.2.2.2.2.1) {c:Cl}:S95 k (KC K c)=some ((),BI (asR c (OA k K c)),()):=by
 unfold S95 OA
 rw [M6 hk hT,Option.bind_some]
 dsimp only
 cases hx:O9 K.2.2.2.2.2.2.2.2.1 c.2.2.1 3 with
 | false=>rfl
 | true =>
  have hs:=FB hT hx
  generalize hxe:rd K.2.2.2.2.2.2.2.2.1.2 c.2.2.1.1 j3=x at hs
  simp only [cond_true,Bool.not_true,cond_false,vrA]
  have e:aiL k x.2.2.2.2.1 (KC K c).2.1.2.2.2.2.2=_:=ang hk hs.2.2 c.2.2.2.2.2
  rw [e,Option.bind_some]
  have hp:=KD hs.2.2 c.2.2.2.2.2
  generalize H7 x.2.2.2.2.1 c.2.2.2.2.2=b at hp
  exact abO (F:=b.1) (w:=b.2) hk hT ⟨hs.1,hs.2.1,hp.1⟩ (by omega) b.2.length 0 k [] (by omega) (by omega) (by simp)
theorem free_eq {k:Nat} (hk:1000 <= k) {K:jd} (hT:uy K.2.2.2.2.2.2.2.2.1) {c:Cl}:S97 k (KC K c)=some ((),BI (asR c (WU K c)),()):=by
 unfold S97 WU ahb
 dsimp only
 cases hf:BF K.2.2.2.2.2.2.2.2.1 c.2.2.1 with
 | false =>
  have e:aaK k (KC K c).1.2.2.2.2.2.2.2.2.1 (KC K c).2.1.2.2.1=some ((K.2.2.2.2.2.2.2.2.1,[],false,()),()):=by
   unfold aaK
   show Option.bind (V8 k K.2.2.2.2.2.2.2.2.1) _=_
   rw [EY hk hT,Option.bind_some]
   have ef:=QU hk (h:=c.2.2.1) hT
   refine (congrArg (fun x=>Option.bind x _) ef).trans ?_
   rw [Option.bind_some,hf];rfl
  rw [e,Option.bind_some];rfl
 | true =>
  have hf':=hf
  unfold BF at hf'
  rw [Bool.and_eq_true] at hf'
  obtain ⟨h0,h1,h2⟩:=za hf'.2
  by_cases q:(rd K.2.2.2.2.2.2.2.2.1.2 c.2.2.1.1 j3).1=1
  ·have e:aaK k (KC K c).1.2.2.2.2.2.2.2.2.1 (KC K c).2.1.2.2.1=some ((K.2.2.2.2.2.2.2.2.1,[],false,()),()):=by
    unfold aaK
    show Option.bind (V8 k K.2.2.2.2.2.2.2.2.1) _=_
    rw [EY hk hT,Option.bind_some]
    have ef:=QU hk (h:=c.2.2.1) hT
    refine (congrArg (fun x=>Option.bind x _) ef).trans ?_
    rw [Option.bind_some,hf]
    simp only [Bool.not_true,cond_false,if_true]
    have ei:∀ {R:Type} (x:Option R),ix (KC K c).1.2.2.2.2.2.2.2.2.1.2 c.2.2.1.1 x=x:=fun x=>Lj h0 h1
    rw [ei,show ((rd (KC K c).1.2.2.2.2.2.2.2.2.1.2 c.2.2.1.1 bf).1==1)=true from beq_iff_eq.2 q];rfl
   rw [e,Option.bind_some,q];rfl
  ·have e:=akH hk hT hf q
   refine (congrArg (fun x=>Option.bind x _) e).trans ?_
   rw [Option.bind_some,show ((rd K.2.2.2.2.2.2.2.2.1.2 c.2.2.1.1 j3).1 != 1)=true from bne_iff_ne.2 q]
   simp only [Bool.not_true,cond_false,Bool.and_self]
   have hs:=hT.2 _ (NS h0 h1)
   have hw:(wo (rd K.2.2.2.2.2.2.2.2.1.2 c.2.2.1.1 j3)).length <= 900:=by unfold wo;rw [List.length_append,List.length_map];have:=hs.2.1;have:=hs.2.2;omega
   exact af5 (K:=yh K (PE K.2.2.2.2.2.2.2.2.1 c.2.2.1)) (c:=c) (r:=(0,(0,0),0)) hw (wo (rd K.2.2.2.2.2.2.2.2.1.2 c.2.2.1.1 j3)).length 0 k [] (by omega) (by omega) (by simp)
end Go.Proofs.YtjjjbcmjmkcedaaGreat.Ab
