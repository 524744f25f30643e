import Derived.Test.YtjjjbcmjmkcedaaGreatQZAbX0
import Derived.KernelRfl
/- The plain law, and what it hangs on. -/
namespace Go.Proofs.YtjjjbcmjmkcedaaGreat.Ab
open Go.RowKit
set_option linter.unusedSimpArgs false
set_option linter.unusedVariables false
open Tr
abbrev iy:=Int×Int×Int×List I4×List I4×List I4
noncomputable def cst (l:List I4):Int×Int×List (Int×Int):=(AO l).getD (0,0,[])
def am2 (l:List I4):Bool:=l.any fun i=>i.1==9
theorem Wv (l:List I4):aov l (AO l)=some ((cst l,yj l,()),()):=by
 unfold cst AO
 cases h:yj l with
 | false=>rfl
 | true=>rfl
theorem am3 {l:List I4} (h:yj l=false):cst l=(0,0,[]):=by unfold cst AO;rw [h];rfl
theorem RF (l:List I4):(cst l).2.2.length <= 24:=by
 unfold cst
 cases h:AO l with
 | none=>simp
 | some c=>exact acC h
theorem af0 {k:Nat} (hk:1000 <= k) {l:List I4} (hl:l.length <= 900):ah9 k l=some ((((l.length:Int)==0)||yj l,()),()):=by
 unfold ah9
 cases (l.length:Int)==0 with
 | true=>rfl
 | false=>rw [cond_false,QW hk hl,Option.bind_some];rfl
theorem akq {k:Nat} (hk:1000 <= k) {s:List I4} (h:s.length <= 900):adr k s=some ((qw (fun i=>i.1==9) s,()),()):=by
 unfold adr
 refine uf (fun j i=>I9 k j s (s.length:Int) i) s i0 _ (fun j i hi=>?_) (fun j=>?_) k (by omega)
 ·show I9 k (j+1) s (s.length:Int) (i:Int)=_
  rw [Vv,QC,Sc (by omega),Qo hi,Mi (by omega)]
  simp only [aoQ,Option.bind_some,Qp]
 ·show I9 k (j+1) s (s.length:Int) (s.length:Int)=_
  rw [Vv,QC,Sd (by omega)]
theorem am4 {k:Nat} (hk:1000 <= k) {s:List I4} (h:s.length <= 900):alj k s=some ((am2 s,()),()):=by
 unfold alj aoR
 rw [akq hk h];simp only [Option.bind_some,DN];rfl
theorem af2 {k:Nat} (hk:1000 <= k) {l:List I4} (hl:l.length <= 900):agG k l=some (((cst l).1,()),()):=by
 unfold agG
 rw [YA hk hl,Wv,Option.bind_some]
noncomputable def G7 (t:iy):Int :=
 bif decide (t.1<0) then 1 else bif decide (t.1>63) then 1 else bif decide (t.2.1<1) then 9 else bif decide (t.2.1>16384) then 9 else
 bif decide (t.2.2.1<1) then 9 else bif decide (t.2.2.1>t.2.1) then 9 else
 bif !yj t.2.2.2.1 then 2 else bif !(((t.2.2.2.2.1.length:Int)==0)||yj t.2.2.2.2.1) then 2 else bif !(((t.2.2.2.2.2.length:Int)==0)||yj t.2.2.2.2.2) then 2 else
 bif am2 t.2.2.2.2.2 then 2 else bif decide ((cst t.2.2.2.1).1>t.2.2.1) then 10 else bif decide ((cst t.2.2.2.2.1).1>(cst t.2.2.2.1).1) then 12 else 0
theorem ara {α:Type} {c:Bool} {a b:α}:(bif c then some ((a,()),()) else some ((b,()),()))=some (((bif c then a else b),()),()):=by cases c <;> rfl
def zi (t:iy):Prop:=t.2.2.2.1.length <= 900 /\ t.2.2.2.2.1.length <= 900 /\ t.2.2.2.2.2.length <= 900
theorem YG {k:Nat} (hk:1000 <= k) {t:iy} (h:zi t):agH k t=some ((G7 t,()),()):=by
 unfold agH
 simp only [QW hk h.1,af0 hk h.2.1,af0 hk h.2.2,am4 hk h.2.2,af2 hk h.1,af2 hk h.2.1,Option.bind_some,ara]
 rfl
noncomputable def oo (t:iy):Int×Int×List (Int×Int) :=
 if G7 t=0 then ((cst t.2.2.2.1).1,bif yj t.2.2.2.2.1 then (cst t.2.2.2.2.1).1 else (cst t.2.2.2.1).2.1,(cst t.2.2.2.1).2.2++(cst t.2.2.2.2.1).2.2) else (0,0,[])
theorem ahc {k:Nat} (hk:1000 <= k) {a b:List (Int×Int)} (ha:a.length <= 900) (hb:b.length <= 900) (j:Nat):Xl k (j+3) [a,b] 0 [a,b] 2 0=some ((a++b,()),()):=by
 have e1:KY k k ([]:List (Int×Int)) [a,b] 2 0=some ((a++b,()),()):=by
  obtain ⟨k',hk'⟩:∃ k',k=k'+3:=⟨k - 3,by omega⟩
  have:∀ j,KY k (j+3) ([]:List (Int×Int)) [a,b] 2 0=some ((a++b,()),()):=fun j=>by
   rw [MW,KX,Sc (by omega),Lj (by omega) (by simp),show rd [a,b] 0 []=a from rfl,Rz (by simp only [List.length_nil];omega),Uu (by omega) (by omega),List.nil_append]
   rw [MW,KX,Sc (by omega),Lj (by omega) (by simp),show rd [a,b] (0+1) []=b from rfl,Rz (by omega),Uu (by omega) (by omega)]
   rw [MW,KX,Sd (by omega)]
  have:=this (k - 3)
  rwa [show k - 3+3=k by omega] at this
 rw [SA,S9,Sc (by omega),Lj (by omega) (by simp),show rd [a,b] 0 []=a from rfl,Uu (n:=0+(a.length:Int)) (by omega) (by omega),Sd (by omega),Uu (by omega) (by omega)]
 rw [SA,S9,Sc (by omega),Lj (by omega) (by simp),show rd [a,b] (0+1) []=b from rfl,Uu (n:=0+(a.length:Int)+(b.length:Int)) (by omega) (by omega),Sd (by omega),Uu (by omega) (by omega)]
 rw [SA,S9,Sd (by omega)]
 unfold aoV
 rw [Sd (by omega),Uu (n:=0+(a.length:Int)+(b.length:Int) - 0) (by omega) (by omega)]
 by_cases h0:0+(a.length:Int)+(b.length:Int) - 0>0
 ·rw [Sc h0]
  unfold az
  rw [if_pos (by rw [Bool.and_eq_true];exact ⟨decide_eq_true (by omega),decide_eq_true (by simp only [List.length_nil];omega)⟩)]
  dsimp only
  rw [Rx (by omega) (by omega) (by omega),Option.bind_some]
  exact e1
 ·rw [Sd h0,Option.bind_some];exact e1
theorem am5 {k:Nat} (hk:1000 <= k) {a b:List (Int×Int)} (ha:a.length <= 900) (hb:b.length <= 900):ain k [a,b]=some ((a++b,()),()):=by
 unfold ain
 have:=ahc hk ha hb (k - 3)
 rwa [show k - 3+3=k by omega] at this
theorem M4 {k:Nat} (hk:1000 <= k) {t:iy} (h:zi t):ZV k t=some (((oo t).1,(oo t).2.1,(oo t).2.2,()),()):=by
 have h1:=RF t.2.2.2.1
 have h2:=RF t.2.2.2.2.1
 unfold ZV oo
 rw [YG hk h,Option.bind_some]
 by_cases hm:G7 t=0
 ·rw [if_pos hm]
  simp only [hm,bne_self_eq_false,cond_false,YA hk h.1,YA hk h.2.1,Wv,Option.bind_some,am5 hk (show (cst t.2.2.2.1).2.2.length <= 900 by omega) (show (cst t.2.2.2.2.1).2.2.length <= 900 by omega)]
  cases yj t.2.2.2.2.1 <;> rfl
 ·rw [if_neg hm]
  simp only [bne_iff_ne.2 hm,cond_true]
structure MT (j3 rank:Int) (t:iy):Prop where
 rank:t.1=rank
 per:20 <= t.2.1 /\ t.2.1 <= 130
 en:t.2.1 - 9 <= t.2.2.1 /\ t.2.2.1 <= t.2.1
 main:∃ m,t.2.2.2.1=Tr.prog m /\ Mp j3 m /\ m.len <= 22
 way:t.2.2.2.2.1=[] \/ t.2.2.2.2.1=[(1,0,0,99),(0,0,0,0)] \/ t.2.2.2.2.1=[(0,0,0,0)]
 opt:t.2.2.2.2.2=[] \/ ∃ o,t.2.2.2.2.2=Tr.prog o /\ Mp 0 o /\ o.len <= 22
theorem MT.light {j3 rank:Int} {t:iy} (h:MT j3 rank t):zi t:=by
 obtain ⟨m,e,_,hm⟩:=h.main
 refine ⟨by rw [e,vk];omega,?_,?_⟩
 ·rcases h.way with e | e | e <;> rw [e] <;> simp
 ·rcases h.opt with e | ⟨o,e,_,ho⟩
  ·rw [e];simp
  ·rw [e,vk];omega
theorem abt {k:Nat} (hk:1000 <= k) {p:List Int} {n r pe e:Int} (a b c:Int) {m w:List I4} {j3:Int} (hp:xk p n) (h1:20 <= pe /\ pe <= 130) (h2:pe - 9 <= e /\ e <= pe) (h3:∃ t,m=Tr.prog t /\ Mp j3 t /\ t.len <= 22) (h4:w=[] \/ w=[(1,0,0,99),(0,0,0,0)] \/ w=[(0,0,0,0)]) :
  ∃ t n',aa2 k p n a b c r pe e m w []=some ((t,()),(p,n',()),()) /\ xk p n' /\ MT j3 r t:=by
 unfold aa2
 obtain ⟨v,n1,e1,hv,hp1⟩:=l8 k hp (show (0:Int)<3 by omega)
 rw [e1,Option.bind_some]
 simp only
 cases v==0 with
 | false=>exact ⟨_,_,rfl,hp1,⟨rfl,h1,h2,h3,h4,.inl rfl⟩⟩
 | true =>
  obtain ⟨o,n2,e2,hp2,ho,hol⟩:=afz hk (j3:=0) (by omega) hp1
  rw [cond_true,e2,Option.bind_some]
  exact ⟨_,_,rfl,hp2,⟨rfl,h1,h2,h3,h4,.inr ⟨o,rfl,ho,hol⟩⟩⟩
theorem akr {k:Nat} (hk:1000 <= k) {p:List Int} {n rank j3:Int} (hl:0 <= j3 /\ j3 <= 4) (hp:xk p n):∃ t n',S53 k p n rank j3=some ((t,()),(p,n',()),()) /\ xk p n' /\ MT j3 rank t:=by
 unfold S53
 obtain ⟨t,n1,e1,hp1,ht,htl⟩:=afz hk hl hp
 rw [e1,Option.bind_some]
 simp only
 obtain ⟨v2,n2,e2,hv2,hp2⟩:=l8 k hp1 (show (0:Int)<12 by omega)
 rw [e2,Option.bind_some]
 simp only
 obtain ⟨v3,n3,e3,hv3,hp3⟩:=l8 k hp2 (show (0:Int)<10 by omega)
 rw [e3,Option.bind_some]
 simp only
 obtain ⟨v4,n4,e4,hv4,hp4⟩:=l8 k hp3 (show (0:Int)<3 by omega)
 rw [e4,Option.bind_some]
 simp only
 rw [Uu (n:=10 * v2) (by omega) (by omega),Uu (n:=20+10 * v2) (by omega) (by omega),Uu (n:=20+10 * v2 - v3) (by omega) (by omega)]
 cases v4==0 with
 | false=>exact abt hk 0 0 0 hp4 (by omega) (by omega) ⟨t,rfl,ht,htl⟩ (.inl rfl)
 | true =>
  obtain ⟨v5,n5,e5,hv5,hp5⟩:=l8 k hp4 (show (0:Int)<2 by omega)
  rw [cond_true,e5,Option.bind_some]
  simp only
  rw [Rx (by omega) (by simp only [List.length_cons,List.length_nil];omega) (by omega)]
  have:v5=0 \/ v5=1:=by omega
  refine abt hk 0 0 0 hp5 (by omega) (by omega) ⟨t,rfl,ht,htl⟩ (.inr ?_)
  rcases this with e | e
  ·subst e;exact .inl rfl
  ·subst e;exact .inr rfl
theorem acH (t:iy):(oo t).2.2.length <= 48:=by
 unfold oo
 split
 ·have:=RF t.2.2.2.1
  have:=RF t.2.2.2.2.1
  simp only [List.length_append];omega
 ·simp
theorem b0 {c:Bool} {a b:Int} (h:a≠0):(bif c then a else b)=0↔c=false /\ b=0:=by cases c <;> simp [h]
theorem OA {t:iy}:G7 t=0↔(0 <= t.1 /\ t.1 <= 63) /\ (1 <= t.2.1 /\ t.2.1 <= 16384) /\ (1 <= t.2.2.1 /\ t.2.2.1 <= t.2.1) /\ yj t.2.2.2.1=true /\ (t.2.2.2.2.1=[] \/ yj t.2.2.2.2.1=true) /\ (t.2.2.2.2.2=[] \/ yj t.2.2.2.2.2=true) /\ am2 t.2.2.2.2.2=false /\ (cst t.2.2.2.1).1 <= t.2.2.1 /\ (cst t.2.2.2.2.1).1 <= (cst t.2.2.2.1).1:=by
 have e:∀ l:List I4,((l.length:Int)=0 \/ yj l=true)↔(l=[] \/ yj l=true):=fun l=>by
  rw [show ((l.length:Int)=0)↔l=[] by rw [<- List.length_eq_zero_iff];omega]
 unfold G7
 rw [b0 (by decide),b0 (by decide),b0 (by decide),b0 (by decide),b0 (by decide),b0 (by decide),b0 (by decide),b0 (by decide),b0 (by decide),b0 (by decide),b0 (by decide),b0 (by decide)]
 rw [Bool.not_eq_false',Bool.not_eq_false',Bool.not_eq_false',Bool.or_eq_true,Bool.or_eq_true,beq_iff_eq,beq_iff_eq,e,e,decide_eq_false_iff_not,decide_eq_false_iff_not,decide_eq_false_iff_not,decide_eq_false_iff_not,decide_eq_false_iff_not,decide_eq_false_iff_not,decide_eq_false_iff_not,decide_eq_false_iff_not]
 constructor
 ·rintro ⟨a1,a2,a3,a4,a5,a6,a7,a8,a9,b1,b2,b3,_⟩
  exact ⟨by omega,by omega,by omega,a7,a8,a9,b1,by omega,by omega⟩
 ·rintro ⟨a1,a2,a3,a7,a8,a9,b1,b2,b3⟩
  exact ⟨by omega,by omega,by omega,by omega,by omega,by omega,a7,a8,a9,b1,by omega,by omega,rfl⟩
theorem EB:∀ {t:Tr} {d:Nat} {hs:List Int} {ia:Bool},Ok d hs ia t -> ∀ e∈t.spans,1 <= e.2 /\ e.2 <= t.cost
 | .nil,_,_,_,_,e,h=>by simp [Tr.spans] at h
 | .one x r,_,_,_,⟨_,_,_,h4⟩,e,h=>by have:=EB h4 e h;simp only [Tr.cost];omega
 | .lk a b r,_,_,_,⟨_,_,h3,h4⟩,e,h=>by
  have c1:=lg h3;have c2:=lg h4
  simp only [Tr.spans,List.mem_cons,List.mem_append] at h
  simp only [Tr.cost]
  rcases h with q | q | q
  ·subst q;simp only;omega
  ·have:=EB h3 e q;omega
  ·have:=EB h4 e q;omega
 | .ar x b r,_,_,_,⟨hx,_,h3,h4⟩,e,h=>by
  have c1:=lg h3;have c2:=lg h4
  have hr:=IZ hx.1
  have hm:1 * b.cost <= yg x * b.cost:=Int.mul_le_mul_of_nonneg_right hr.1 c1
  simp only [Tr.spans,List.mem_append] at h
  simp only [Tr.cost]
  rcases h with q | q
  ·have:=EB h3 e q;omega
  ·have:=EB h4 e q;omega
theorem aks {t:Tr} (h:Ok 0 [] false t) (hl:t.len<24):cst t.prog=(t.cost+1,max (t.piece 1 (0,0)).1 ((t.piece 1 (0,0)).2+1),t.spans):=by unfold cst;rw [ag2 h hl];rfl
abbrev t0:iy:=(0,0,0,[],[],[])
def akt (s:Int) (x:I4):Bool:=bif x.1==9 then x.2.1==s else false
def BN (s:Int) (t:iy):Bool:=(t.2.2.2.1++t.2.2.2.2.1).any (akt s)
def M5 (s:Int):List iy -> Nat -> Int
 | [],_=>8
 | t::r,i=>bif BN s t then (i:Int) else M5 s r (i+1)
def xg (l:List iy) (s:Int):Int:=M5 s l 0
theorem Ww (s:Int):∀ (l:List iy) (i:Nat),M5 s l i=match l.findIdx? (BN s) with | some n=>((i+n:Nat):Int) | none=>8
 | [],i=>rfl
 | t::r,i=>by
  rw [M5,List.findIdx?_cons]
  cases BN s t with
  | true=>rfl
  | false =>
   rw [cond_false,Ww s r (i+1)]
   simp only [Bool.false_eq_true,if_false]
   cases r.findIdx? (BN s) with
   | none=>rfl
   | some n=>simp only [Option.map_some];congr 1;omega
theorem aku {k:Nat} (hk:1000 <= k) {a b:List I4} (ha:a.length <= 900) (hb:b.length <= 900) (j:Nat):adD k (j+3) [a,b] 0 [a,b] 2 0=some ((a++b,()),()):=by
 have e1:SC k k ([]:List I4) [a,b] 2 0=some ((a++b,()),()):=by
  have:∀ j,SC k (j+3) ([]:List I4) [a,b] 2 0=some ((a++b,()),()):=fun j=>by
   rw [SE,SB,Sc (by omega),Lj (by omega) (by simp),show rd [a,b] 0 []=a from rfl,Rz (by simp only [List.length_nil];omega),Uu (by omega) (by omega),List.nil_append]
   rw [SE,SB,Sc (by omega),Lj (by omega) (by simp),show rd [a,b] (0+1) []=b from rfl,Rz (by omega),Uu (by omega) (by omega)]
   rw [SE,SB,Sd (by omega)]
  have:=this (k - 3)
  rwa [show k - 3+3=k by omega] at this
 rw [Xm,ZW,Sc (by omega),Lj (by omega) (by simp),show rd [a,b] 0 []=a from rfl,Uu (n:=0+(a.length:Int)) (by omega) (by omega),Sd (by omega),Uu (by omega) (by omega)]
 rw [Xm,ZW,Sc (by omega),Lj (by omega) (by simp),show rd [a,b] (0+1) []=b from rfl,Uu (n:=0+(a.length:Int)+(b.length:Int)) (by omega) (by omega),Sd (by omega),Uu (by omega) (by omega)]
 rw [Xm,ZW,Sd (by omega)]
 unfold aoW
 rw [Sd (by omega),Uu (n:=0+(a.length:Int)+(b.length:Int) - 0) (by omega) (by omega)]
 by_cases h0:0+(a.length:Int)+(b.length:Int) - 0>0
 ·rw [Sc h0]
  unfold az
  rw [if_pos (by rw [Bool.and_eq_true];exact ⟨decide_eq_true (by omega),decide_eq_true (by simp only [List.length_nil];omega)⟩)]
  dsimp only
  rw [Rx (by omega) (by omega) (by omega),Option.bind_some]
  exact e1
 ·rw [Sd h0,Option.bind_some];exact e1
theorem akv {k:Nat} (hk:1000 <= k) {a b:List I4} (ha:a.length <= 900) (hb:b.length <= 900):S58 k [a,b]=some ((a++b,()),()):=by
 unfold S58
 have:=aku hk ha hb (k - 3)
 rwa [show k - 3+3=k by omega] at this
def p9 (l:List iy):Prop:=l.length <= 100 /\ ∀ t∈l,zi t /\ (t.2.2.2.1++t.2.2.2.2.1).length <= 900
theorem akw {k:Nat} (hk:1000 <= k) {s:List I4} (h:s.length <= 900) (f:Int):adF k s f=some ((qw (akt f) s,()),()):=by
 unfold adF
 refine uf (fun j i=>IB k j s f (s.length:Int) i) s i0 _ (fun j i hi=>?_) (fun j=>?_) k (by omega)
 ·show IB k (j+1) s f (s.length:Int) (i:Int)=_
  rw [Vx,QF,Sc (by omega),Qo hi,Mi (by omega),Qp]
  unfold aoX akt
  cases (s.getD i i0).1==9 <;> rfl
 ·show IB k (j+1) s f (s.length:Int) (s.length:Int)=_
  rw [Vx,QF,Sd (by omega)]
theorem am6 {k:Nat} (hk:1000 <= k) {t:iy} (h:zi t) (h2:(t.2.2.2.1++t.2.2.2.2.1).length <= 900) (s:Int):alq k t s=some ((BN s t,()),()):=by
 unfold alq aoY
 rw [akv hk h.1 h.2.1,Option.bind_some,akw hk h2]
 simp only [Option.bind_some,DN];rfl
theorem akx {k:Nat} (hk:1000 <= k) {l:List iy} (h:p9 l) (s:Int):S60 k l s=some ((xg l s,()),()):=by
 unfold S60 aiq
 have:=uf (fun j i=>EL k j l s (l.length:Int) i) l t0 (BN s) (fun j i hi=>by
  have ht:=h.2 _ (jo (z:=t0) hi)
  have hl:=h.1
  show EL k (j+1) l s (l.length:Int) (i:Int)=_
  rw [Vy,QG,Sc (by omega),Qo hi,Mi (by omega),Qp,am6 hk ht.1 ht.2,Option.bind_some]) (fun j=>by
  show EL k (j+1) l s (l.length:Int) (l.length:Int)=_
  rw [Vy,QG,Sd (by omega)]) k (by have:=h.1;omega)
 rw [show EL k k l s (l.length:Int) 0=_ from this,Option.bind_some]
 unfold xg
 rw [Ww]
 unfold qw
 cases l.findIdx? (BN s) with
 | none=>rfl
 | some n=>simp only;rw [Sd (by omega)];congr 3;omega
def spF (l:List iy) (i:Int):Int -> List (Int×Int) -> Int
 | m,[]=>m
 | m,e::r=>spF l i (bif decide (xg l e.1 <= i) then mx m e.2 else m) r
noncomputable def byG (l:List iy) (i:Int):List iy -> Nat -> Int -> Int
 | [],_,m=>m
 | t::r,n,m=>byG l i r (n+1) (bif (n:Int)==i then m else spF l i m (oo t).2.2)
noncomputable def byT (l:List iy) (i:Int):Int:=byG l i l 0 0
def CI (l:List iy) (c:List (Int×Int)):Prop:=∀ x v,jB (.int .i64) (.int .i64) x c=some v -> v=xg l x
theorem apJ:∀ a b:(Ty.int .i64).D,fC (.int .i64) a b=true↔a=b:=fun a b=>by simp [fC]
theorem apK {l:List iy} {c:List (Int×Int)} (h:CI l c) (x:Int):CI l (vL (.int .i64) (.int .i64) x (xg l x) c):=fun y v hv=>by
 rw [BZ (hb:=apJ)] at hv
 split at hv
 ·rename_i e
  have:y=x:=by simpa [fC] using e
  rw [this];injection hv with hv;exact hv.symm
 ·exact h y v hv
theorem apL {l:List iy} {c:List (Int×Int)} (h:CI l c) {x:Int} (hx:Ut (.int .i64) (.int .i64) x c=true):Us (.int .i64) (.int .i64) x c 0=xg l x:=by
 unfold Ut at hx;unfold Us
 cases e:jB (.int .i64) (.int .i64) x c with
 | none=>rw [e] at hx;cases hx
 | some v=>exact h x v e
theorem am7 {x v:Int} {c:List (Int×Int)}:Ut (.int .i64) (.int .i64) x (vL (.int .i64) (.int .i64) x v c)=true:=by
 unfold Ut;rw [BZ (hb:=apJ),if_pos (by simp [fC])];rfl
theorem Wx {k:Nat} (hk:1000 <= k) {g:List iy -> Int -> Int -> List (Int×Int) -> List iy -> Int -> Int -> Option ((Int×Unit)×Unit)} {l:List iy} (h:p9 l) {i:Int} {n:Nat} (hn:n <= 100) {sp:List (Int×Int)} (hs:sp.length <= 900) {tt:List iy} {tn:Int}:∀ (d a j:Nat) (m:Int) (c:List (Int×Int)),a+d=sp.length -> d<j -> CI l c ->
  ∃ c',CI l c' /\ SF k g j l i m c tt tn (n:Int) sp (sp.length:Int) (a:Int)=g l i (spF l i m (sp.drop a)) c' tt tn ((n+1:Nat):Int)
 | 0,a,j,m,c,h1,hj,hc=>by
  obtain ⟨j',rfl⟩:∃ j',j=j'+1:=⟨j - 1,by omega⟩
  refine ⟨c,hc,?_⟩
  rw [aac,Xn,Sd (by omega),drop_nil (by omega),spF,Mi (by omega)]
 | d+1,a,j,m,c,h1,hj,hc=>by
  obtain ⟨j',rfl⟩:∃ j',j=j'+1:=⟨j - 1,by omega⟩
  have ih:=fun m c=>Wx hk (g:=g) h (i:=i) hn hs (tt:=tt) (tn:=tn) d (a+1) j' m c (by omega) (by omega)
  rw [aac,Xn,Sc (by omega),Qo (by omega),Qp,drop_cons (0,0) (show a<sp.length by omega),spF]
  have jn:∀ c1,CI l c1 -> Ut (.int .i64) (.int .i64) (sp.getD a (0,0)).1 c1=true -> ∃ c',CI l c' /\ KZ k g (SF k g j') l i m c1 (sp.getD a (0,0)).1 (sp.getD a (0,0)).2 tt tn (n:Int) sp (sp.length:Int) (a:Int)=g l i (spF l i (bif decide (xg l (sp.getD a (0,0)).1 <= i) then mx m (sp.getD a (0,0)).2 else m) (sp.drop (a+1))) c' tt tn ((n+1:Nat):Int):=fun c1 h1 h2=>by
   unfold KZ
   rw [apL h1 h2,Mi (by omega)]
   cases decide (xg l (sp.getD a (0,0)).1 <= i) with
   | true=>exact ih _ _ h1
   | false=>exact ih _ _ h1
  cases hx:Ut (.int .i64) (.int .i64) (sp.getD a (0,0)).1 c with
  | true=>rw [Bool.not_true,cond_false];exact jn c hc hx
  | false =>
   rw [Bool.not_false,cond_true,akx hk h,Option.bind_some]
   exact jn _ (apK hc _) am7
theorem Wy {k:Nat} (hk:1000 <= k) {l:List iy} (h:p9 l) {i:Int}:∀ (d n j:Nat) (m:Int) (c:List (Int×Int)),n+d=l.length -> d<j -> CI l c -> SG k j l i m c l (l.length:Int) (n:Int)=some ((byG l i (l.drop n) n m,()),())
 | 0,n,j,m,c,h1,hj,hc=>by
  obtain ⟨j',rfl⟩:∃ j',j=j'+1:=⟨j - 1,by omega⟩
  rw [aad,Xo,Sd (by omega),drop_nil (by omega),byG]
 | d+1,n,j,m,c,h1,hj,hc=>by
  obtain ⟨j',rfl⟩:∃ j',j=j'+1:=⟨j - 1,by omega⟩
  have ih:=fun m c=>Wy hk h (i:=i) d (n+1) j' m c (by omega) (by omega)
  have ht:=h.2 _ (jo (z:=t0) (l:=l) (i:=n) (by omega))
  have hl:=h.1
  have hcl:=acH (l.getD n t0)
  rw [aad,Xo,Sc (by omega),Qo (by omega),Mi (by omega),drop_cons t0 (show n<l.length by omega),byG]
  cases (n:Int)==i with
  | true=>rw [cond_true,cond_true,ih _ _ hc]
  | false =>
   rw [cond_false,cond_false,Qp,show l.getD n (0,0,0,[],[],[])=l.getD n t0 from rfl,M4 hk ht.1,Option.bind_some]
   obtain ⟨c',hc',e⟩:=Wx hk (g:=SG k j') h (i:=i) (n:=n) (by omega) (sp:=(oo (l.getD n t0)).2.2) (by omega) (tt:=l) (tn:=(l.length:Int)) _ 0 k m c (Nat.zero_add _) (by omega) hc
   exact e.trans (ih _ _ hc')
theorem af3 {k:Nat} (hk:1000 <= k) {l:List iy} (h:p9 l) (i:Int):alr k l i=some ((byT l i,()),()):=by
 have:=h.1
 exact Wy hk h l.length 0 k 0 [] (by omega) (by omega) (fun x v hv=>by cases hv)
structure af4 (j3:Int) (l:List iy):Prop where
 mt:∀ j,j<l.length -> ∃ r,MT j3 r (l.getD j t0) /\ 3 * (j:Int) <= r /\ r <= 3 * (j:Int)+2
 may:∀ j,j<l.length -> G7 (l.getD j t0)=0
theorem MT.code {j3 rank:Int} {t:iy} (h:MT j3 rank t):(t.2.2.2.1++t.2.2.2.2.1).length <= 30:=by
 obtain ⟨m,e,_,hm⟩:=h.main
 rw [List.length_append,e,vk]
 rcases h.way with e | e | e <;> rw [e] <;> simp <;> omega
theorem af4.light {j3:Int} {l:List iy} (h:af4 j3 l) (hl:l.length <= 100):p9 l:=⟨hl,fun t ht=>by
 obtain ⟨j,hj,e⟩:=List.mem_iff_getElem.1 ht
 obtain ⟨r,hm,_⟩:=h.mt j hj
 have e2:l.getD j t0=t:=by rw [<- e,List.getD_eq_getElem?_getD,List.getElem?_eq_getElem hj];rfl
 rw [e2] at hm
 exact ⟨hm.light,by have:=hm.code;omega⟩⟩
theorem U6 (s:Int):∀ (l:List iy) (i:Nat),M5 s l i=8 /\ (∀ n,n<l.length -> BN s (l.getD n t0)=false) \/ ∃ n,n<l.length /\ M5 s l i=((i+n:Nat):Int) /\ BN s (l.getD n t0)=true
 | [],i=>.inl ⟨rfl,fun n h=>by simp at h⟩
 | t::r,i=>by
  rw [M5]
  cases h:BN s t with
  | true=>exact .inr ⟨0,by simp,rfl,h⟩
  | false =>
   rw [cond_false]
   rcases U6 s r (i+1) with ⟨e,q⟩ | ⟨n,h1,h2,h3⟩
   ·refine .inl ⟨e,fun n hn=>?_⟩
    cases n with
    | zero=>exact h
    | succ n=>exact q n (by simp only [List.length_cons] at hn;omega)
   ·exact .inr ⟨n+1,by simp only [List.length_cons];omega,by rw [h2];congr 1;omega,h3⟩
theorem abu (s:Int):∀ (l:List iy) (i n:Nat),n<l.length -> BN s (l.getD n t0)=true -> M5 s l i <= ((i+n:Nat):Int)
 | [],i,n,h,_=>by simp at h
 | t::r,i,n,h,hl=>by
  rw [M5]
  cases ht:BN s t with
  | true=>rw [cond_true];omega
  | false =>
   rw [cond_false]
   cases n with
   | zero=>rw [show (t::r).getD 0 t0=t from rfl,ht] at hl;cases hl
   | succ n =>
    have:=abu s r (i+1) n (by simp only [List.length_cons] at h;omega) hl
    omega
theorem aoA (a b:Int):a <= mx a b:=by unfold mx;split <;> omega
theorem acI {l:List iy} {i:Int}:∀ (sp:List (Int×Int)) (m:Int),m <= spF l i m sp
 | [],m=>Int.le_refl _
 | e::r,m=>by
  rw [spF]
  cases decide (xg l e.1 <= i) with
  | true=>exact Int.le_trans (aoA m e.2) (acI r _)
  | false=>exact acI r m
theorem acJ {l:List iy} {i:Int}:∀ (r:List iy) (n:Nat) (m:Int),m <= byG l i r n m
 | [],n,m=>Int.le_refl _
 | t::r,n,m=>by
  rw [byG]
  cases (n:Int)==i with
  | true=>exact acJ r _ m
  | false=>exact Int.le_trans (acI _ m) (acJ r _ _)
def up (r v:Int):Int:=(r+v - 1) / v
theorem up_tdiv {r v:Int} (hr:0 <= r) (hv:1 <= v):(if Int.tmod r v>0 then Int.tdiv r v+1 else Int.tdiv r v)=up r v:=by
 rw [Int.tdiv_eq_ediv_of_nonneg hr,Int.tmod_eq_emod_of_nonneg hr]
 unfold up
 have h1:=Int.emod_nonneg r (show v≠0 by omega)
 have h2:=Int.emod_lt_of_pos r (show 0<v by omega)
 have h3:=Int.mul_ediv_add_emod r v
 split
 ·rename_i h
  have:r+v - 1=(r % v - 1)+v * (r / v+1):=by rw [Int.mul_add,Int.mul_one];omega
  rw [this,Int.add_mul_ediv_left _ _ (by omega),Int.ediv_eq_zero_of_lt (a:=r % v - 1) (b:=v) (by omega) (by omega)];omega
 ·have:r+v - 1=(v - 1)+v * (r / v):=by omega
  rw [this,Int.add_mul_ediv_left _ _ (by omega),Int.ediv_eq_zero_of_lt (a:=v - 1) (b:=v) (by omega) (by omega)];omega
theorem Wz {r v:Int} (hr:0 <= r) (hv:1 <= v):0 <= up r v /\ up r v <= r:=by
 unfold up
 refine ⟨Int.ediv_nonneg (by omega) (by omega),?_⟩
 rw [<- Int.lt_add_one_iff]
 refine Int.ediv_lt_of_lt_mul (by omega) ?_
 have:(r+1) * 1 <= (r+1) * v:=Int.mul_le_mul_of_nonneg_left hv (by omega)
 have:r * 1 <= r * v:=Int.mul_le_mul_of_nonneg_left hv hr
 rw [Int.add_mul];omega
theorem af5 {r s v:Int} (h:r <= s) (hv:1 <= v):up r v <= up s v:=Int.ediv_le_ediv (by omega) (by omega)
theorem am8 {r v:Int} (hr:0 <= r) (hv:1 <= v):0 <= Int.tdiv r v /\ Int.tdiv r v <= r:=by
 rw [Int.tdiv_eq_ediv_of_nonneg hr]
 exact ⟨Int.ediv_nonneg hr (by omega),Int.ediv_le_self _ hr⟩
theorem am9 (k:Nat) {a b:Int} (ha:0 <= a /\ a <= 4611686018427387904) (hb:1 <= b):als k a b=some ((up a b,true,()),()):=by
 have h:=am8 ha.1 hb
 have e:=up_tdiv ha.1 hb
 unfold als
 rw [Sd (by omega),Sd (by omega),Sb (by omega),Sb (by omega),Uu (n:=Int.tdiv a b) (by omega) (by omega),Uu (n:=Int.tdiv a b+1) (by omega) (by omega),<- e]
 split
 ·rename_i h1;rw [Sc h1]
 ·rename_i h1;rw [Sd h1]
theorem af6 (k:Nat) {a b:Int} (ha:0 <= a /\ a <= 4611686018427387904) (hb:1 <= b):aiu k a b=some ((up a b,()),()):=by
 unfold aiu;rw [am9 k ha hb,Option.bind_some]
theorem YH (k:Nat) {s t v:Int} (hs:0 <= s) (ht:0 <= t /\ t <= 4611686018427387904) (hv:0 <= v /\ v <= 4611686018427387904) (h:s+t * v <= 4611686018427387904):agI k s false t v=some ((),(s+t * v,false,()),()):=by
 have h0:=Int.mul_nonneg ht.1 hv.1
 unfold agI
 rw [afD k (by omega) (by omega) (by omega),Option.bind_some]
 simp only
 rw [afB k hs h0 (by omega),Option.bind_some]
 rfl
noncomputable def abv (l:List iy) (i:Nat):Bool:=(G7 (l.getD i t0) != 0)||(decide ((i:Int)>0)&&decide ((l.getD (i - 1) t0).1≥(l.getD i t0).1))
noncomputable def FB (l:List iy):Bool:=!LQ (abv l) l.length 0
theorem ana {k:Nat} (hk:1000 <= k) {l:List iy} (h:p9 l):alp k l=some ((FB l,()),()):=by
 have hl:=h.1
 unfold alp
 have:=apw (L:=fun j i=>MV k j l l (l.length:Int) i) (n:=l.length) (abv l) (some ((false,()),())) (some ((true,()),())) (fun j i hi=>by
  have ht:=h.2 _ (jo (z:=t0) hi)
  show MV k (j+1) l l (l.length:Int) (i:Int)=_
  rw [ZT,Xk,Sc (by omega),Qo hi,Qp,show l.getD i (0,0,0,[],[],[])=l.getD i t0 from rfl,YG hk ht.1,Option.bind_some,Mi (by omega)]
  unfold abv
  simp only
  cases G7 (l.getD i t0) != 0 with
  | true=>rfl
  | false =>
   rw [cond_false,Bool.false_or]
   by_cases h0:(i:Int)>0
   ·rw [Sc h0,Uu (n:=(i:Int) - 1) (by omega) (by omega),show (i:Int) - 1=((i - 1:Nat):Int) by omega,Qo (by omega),Qp,decide_eq_true h0,Bool.true_and]
   ·rw [Sd h0,decide_eq_false h0,Bool.false_and,cond_false]) (fun j=>by
  show MV k (j+1) l l (l.length:Int) (l.length:Int)=_
  rw [ZT,Xk,Sd (by omega)]) l.length 0 k (by omega) (by omega)
 refine Eq.trans this ?_
 unfold FB
 cases LQ (abv l) l.length 0 <;> rfl
theorem OB {l:List I4} (h:yj l=true):(1 <= (cst l).1 /\ (cst l).1 <= 9600) /\ (1 <= (cst l).2.1 /\ (cst l).2.1 <= (cst l).1) /\ ∀ e∈(cst l).2.2,1 <= e.2 /\ e.2<(cst l).1:=by
 obtain ⟨t,ht,rfl,hl⟩:=LZ h
 have hc:=TV ht hl
 obtain ⟨b1,b2,b3,b4⟩:=vo 1 (0,0) ht (by omega) (by simp) (by simp)
 simp only [Int.one_mul,Int.zero_add] at b3 b4
 rw [aks ht hl]
 refine ⟨by simp only;omega,by simp only;omega,fun e he=>?_⟩
 have:=EB ht e he
 simp only;omega
structure CoS (t:iy):Prop where
 per:1 <= t.2.1 /\ t.2.1 <= 16384
 en:1 <= t.2.2.1 /\ t.2.2.1 <= t.2.1
 cost:1 <= (oo t).1 /\ (oo t).1 <= t.2.2.1
 lost:1 <= (oo t).2.1 /\ (oo t).2.1 <= (oo t).1
 spans:∀ e∈(oo t).2.2,1 <= e.2 /\ e.2<(oo t).1
theorem abw {t:iy} (hz:G7 t=0):CoS t:=by
 obtain ⟨_,z2,z3,z4,z5,z6,z7,z8,z9⟩:=OA.1 hz
 obtain ⟨m1,m2,m3⟩:=OB z4
 have acK:oo t=((cst t.2.2.2.1).1,bif yj t.2.2.2.2.1 then (cst t.2.2.2.2.1).1 else (cst t.2.2.2.1).2.1,(cst t.2.2.2.1).2.2++(cst t.2.2.2.2.1).2.2):=by unfold oo;rw [if_pos hz]
 refine ⟨z2,z3,by rw [acK];simp only;omega,?_,fun e he=>?_⟩
 ·rw [acK]
  simp only
  cases h:yj t.2.2.2.2.1 with
  | false=>rw [cond_false];omega
  | true=>have:=OB h;rw [cond_true];omega
 ·rw [acK] at he ⊢
  simp only [List.mem_append] at he ⊢
  rcases he with q | q
  ·exact m3 e q
  ·cases h:yj t.2.2.2.2.1 with
   | false=>rw [am3 h] at q;cases q
   | true=>have:=(OB h).2.2 e q;omega
theorem aoB {a b c:Int} (h1:a <= c) (h2:b <= c):mx a b <= c:=by unfold mx;split <;> omega
theorem aky {l:List iy} {i b:Int}:∀ (sp:List (Int×Int)) (m:Int),m <= b -> (∀ e∈sp,e.2 <= b) -> spF l i m sp <= b
 | [],m,h,_=>h
 | e::r,m,h,hs=>by
  rw [spF]
  refine aky r _ ?_ (fun x hx=>hs x (by simp [hx]))
  cases decide (xg l e.1 <= i) with
  | true=>exact aoB h (hs e (by simp))
  | false=>exact h
theorem akz {l:List iy} {i b:Int}:∀ (r:List iy) (n:Nat) (m:Int),m <= b -> (∀ t∈r,∀ e∈(oo t).2.2,e.2 <= b) -> byG l i r n m <= b
 | [],n,m,h,_=>h
 | t::r,n,m,h,hs=>by
  rw [byG]
  refine akz r _ _ ?_ (fun x hx=>hs x (by simp [hx]))
  cases (n:Int)==i with
  | true=>exact h
  | false=>exact aky _ m h (hs t (by simp))
theorem akA {l:List iy} (h:∀ t∈l,CoS t) (i:Int):0 <= byT l i /\ byT l i <= 16384 :=
 ⟨acJ l 0 0,akz l 0 0 (by omega) (fun t ht e he=>by have q:=h t ht;have:=q.spans e he;have:=q.cost;have:=q.en;have:=q.per;omega)⟩
def y7 (r:Int):List (Int×Int) -> Int
 | []=>0
 | x::l=>up r x.1 * x.2+y7 r l
noncomputable def pc1 (t:iy):Int×Int:=(t.2.1,(oo t).1)
noncomputable def vv:Int -> List iy -> Int
 | m,[]=>m
 | m,t::r=>vv (mx m (oo t).2.1) r
noncomputable def firstT (l:List iy) (i:Nat):Int:=(oo (l.getD i t0)).1+byT l (i:Int)
noncomputable def wh (l:List iy) (i:Nat) (apart r:Int):Int:=firstT l i+up r apart * vv 0 (l.take (i+1))+y7 r ((l.take i).map pc1)
def FZ (en:Int) (right:Int -> Int):Nat -> Int -> Int -> Option (Int×Int×Int)
 | 0,_,_=>none
 | f+1,r,n=>if right r>en then some (0,0,14) else if right r=r then some (r,n,0) else FZ en right f (right r) (n+1)
theorem BG {r:Int} (hr:0 <= r):∀ {l:List (Int×Int)},(∀ x∈l,1 <= x.1 /\ 0 <= x.2) -> 0 <= y7 r l
 | [],_=>Int.le_refl _
 | x::l,h=>by
  have hx:=h x (by simp)
  have:=BG hr (l:=l) (fun y hy=>h y (by simp [hy]))
  have:=Int.mul_nonneg (Wz hr hx.1).1 hx.2
  rw [y7];omega
theorem WA {r s:Int} (h:r <= s):∀ {l:List (Int×Int)},(∀ x∈l,1 <= x.1 /\ 0 <= x.2) -> y7 r l <= y7 s l
 | [],_=>Int.le_refl _
 | x::l,hl=>by
  have hx:=hl x (by simp)
  have:=WA h (l:=l) (fun y hy=>hl y (by simp [hy]))
  have:=Int.mul_le_mul_of_nonneg_right (af5 h hx.1) hx.2
  rw [y7,y7];omega
theorem af7 {r b:Int} (hr:0 <= r) (hb:0 <= b):∀ {l:List (Int×Int)},(∀ x∈l,1 <= x.1 /\ 0 <= x.2 /\ x.2 <= b) -> y7 r l <= (l.length:Int) * (r * b)
 | [],_=>by simp [y7]
 | x::l,h=>by
  have hx:=h x (by simp)
  have h1:=af7 hr hb (l:=l) (fun y hy=>h y (by simp [hy]))
  have hu:=Wz hr hx.1
  have h2:up r x.1 * x.2 <= r * b:=Int.mul_le_mul hu.2 hx.2.2 hx.2.1 hr
  rw [y7,List.length_cons,show ((l.length+1:Nat):Int)=(l.length:Int)+1 by omega,Int.add_mul,Int.one_mul];omega
theorem U7 {en:Int} {right:Int -> Int} (hm:∀ a b,0 <= a -> a <= b -> right a <= right b):∀ (f:Nat) (r n:Int),0 <= r -> r <= right r -> en - r<(f:Int) -> 0<f -> ∃ x,FZ en right f r n=some x
 | 0,r,n,_,_,_,h=>absurd h (by omega)
 | f+1,r,n,h0,h1,h2,_=>by
  rw [FZ]
  split
  ·exact ⟨_,rfl⟩
  ·split
   ·exact ⟨_,rfl⟩
   ·rename_i h3 h4
    exact U7 hm f (right r) (n+1) (by omega) (hm r (right r) h0 h1) (by omega) (by omega)
structure RS (l:List iy):Prop where
 light:p9 l
 len:l.length <= 10
 co:∀ t∈l,CoS t
theorem abx {b:Int}:∀ (r:List iy) (m:Int),0 <= m -> m <= b -> (∀ t∈r,(oo t).2.1 <= b) -> 0 <= vv m r /\ vv m r <= b
 | [],m,h0,h,_=>⟨h0,h⟩
 | t::r,m,h0,h,hs=>by
  rw [vv]
  exact abx r _ (Int.le_trans h0 (aoA _ _)) (aoB h (hs t (by simp))) (fun x hx=>hs x (by simp [hx]))
theorem RS.first {l:List iy} (h:RS l) {i:Nat} (hi:i<l.length):1 <= firstT l i /\ firstT l i <= 32768:=by
 have hc:=h.co _ (jo (z:=t0) hi)
 have hb:=akA h.co (i:Int)
 have:=hc.cost;have:=hc.en;have:=hc.per
 unfold firstT;omega
theorem RS.lost {l:List iy} (h:RS l) (i:Nat):0 <= vv 0 (l.take i) /\ vv 0 (l.take i) <= 16384 :=
 abx _ 0 (by omega) (by omega) (fun t ht=>by have q:=h.co t (List.mem_of_mem_take ht);have:=q.lost;have:=q.cost;have:=q.en;have:=q.per;omega)
theorem RS.oh {l:List iy} (h:RS l) (i:Nat):∀ x∈(l.take i).map pc1,1 <= x.1 /\ 0 <= x.2 /\ x.2 <= 16384:=fun x hx=>by
 obtain ⟨t,ht,rfl⟩:=List.mem_map.1 hx
 have q:=h.co t (List.mem_of_mem_take ht)
 have:=q.cost;have:=q.en;have:=q.per
 unfold pc1;simp only;omega
theorem RS.loss {l:List iy} (h:RS l) {i:Nat} {apart r:Int} (ha:1 <= apart) (hr:0 <= r /\ r <= 50000):0 <= up r apart * vv 0 (l.take (i+1)) /\ up r apart * vv 0 (l.take (i+1)) <= 819200000:=by
 have hl:=h.lost (i+1)
 have hu:=Wz hr.1 ha
 have:=Int.mul_nonneg hu.1 hl.1
 have:up r apart * vv 0 (l.take (i+1)) <= 50000 * 16384:=Int.mul_le_mul (by omega) hl.2 hl.1 (by omega)
 omega
theorem RS.sum {l:List iy} (h:RS l) {i:Nat} {r:Int} (hr:0 <= r /\ r <= 50000):0 <= y7 r ((l.take i).map pc1) /\ y7 r ((l.take i).map pc1) <= 8192000000:=by
 have h0:=BG hr.1 (l:=(l.take i).map pc1) (fun x hx=>⟨(h.oh i x hx).1,(h.oh i x hx).2.1⟩)
 have h1:=af7 hr.1 (show (0:Int) <= 16384 by omega) (h.oh i)
 have hl:((l.take i).map pc1).length <= 10:=by rw [List.length_map,List.length_take];have:=h.len;omega
 have h2:(((l.take i).map pc1).length:Int) * (r * 16384) <= 10 * (r * 16384):=Int.mul_le_mul_of_nonneg_right (by omega) (by omega)
 omega
theorem RS.right {l:List iy} (h:RS l) {i:Nat} (hi:i<l.length) {apart r:Int} (ha:1 <= apart) (hr:0 <= r /\ r <= 50000):firstT l i <= wh l i apart r /\ wh l i apart r <= 100000000000:=by
 have h1:=h.first hi;have h2:=h.loss (i:=i) ha hr;have h3:=h.sum (i:=i) hr
 unfold wh;omega
theorem U8 {k:Nat} (hk:1000 <= k) {g:List iy -> Int -> Int -> Int -> Int -> Int -> Int -> Bool -> Option ((Int×Int×Int×Unit)×Unit)} {l tk:List iy} {i:Nat} (hi:i<l.length) {apart r rounds lost first:Int} (hr:0 <= r /\ r <= 50000) (htk:tk.length <= 100) (hs:∀ t∈tk,zi t /\ CoS t) :
  ∀ (d n j:Nat) (x:Int),n+d=tk.length -> d<j -> 0 <= x -> x+y7 r ((tk.drop n).map pc1) <= 100000000000 ->
  QI k g j l (i:Int) apart r rounds lost first false x false tk (tk.length:Int) (n:Int)=if x+y7 r ((tk.drop n).map pc1)>(l.getD i t0).2.2.1 then some ((0,0,14,()),()) else if x+y7 r ((tk.drop n).map pc1)=r then some ((r,rounds,0,()),()) else g l (i:Int) apart (x+y7 r ((tk.drop n).map pc1)) rounds lost first false
 | 0,n,j,x,h,hj,hx,hb=>by
  obtain ⟨j',rfl⟩:∃ j',j=j'+1:=⟨j - 1,by omega⟩
  rw [Vz,QH,Sd (by omega),drop_nil (by omega),cond_false,Qo hi,Qp,show l.getD i (0,0,0,[],[],[])=l.getD i t0 from rfl]
  simp only [List.map_nil,y7,Int.add_zero]
  by_cases h1:x>(l.getD i t0).2.2.1
  ·rw [Sc h1,if_pos h1]
  ·rw [Sd h1,if_neg h1]
   by_cases h2:x=r
   ·rw [if_pos h2,show (x==r)=true by rw [h2];exact beq_self_eq_true r,cond_true]
   ·rw [if_neg h2,show (x==r)=false by rw [beq_eq_false_iff_ne];exact h2,cond_false]
 | d+1,n,j,x,h,hj,hx,hb=>by
  obtain ⟨j',rfl⟩:∃ j',j=j'+1:=⟨j - 1,by omega⟩
  have hn:n<tk.length:=by omega
  obtain ⟨ht,hc⟩:=hs _ (jo (z:=t0) hn)
  have anb:=hc.per
  have hu:=Wz hr.1 anb.1
  have hco:=hc.cost;have hen:=hc.en
  have hmul:=Int.mul_nonneg hu.1 (show 0 <= (oo (tk.getD n t0)).1 by omega)
  have hrest:0 <= y7 r ((tk.drop (n+1)).map pc1):=BG hr.1 (fun y hy=>by
   obtain ⟨t,ht,rfl⟩:=List.mem_map.1 hy
   have q:=(hs t (List.mem_of_mem_drop ht)).2
   have:=q.cost;have:=q.per
   unfold pc1;simp only;omega)
  rw [drop_cons t0 hn,List.map_cons,y7] at hb ⊢
  unfold pc1 at hb ⊢
  simp only at hb ⊢
  have ih:=U8 hk (g:=g) hi (apart:=apart) (rounds:=rounds) (lost:=lost) (first:=first) hr htk hs d (n+1) j' (x+up r (tk.getD n t0).2.1 * (oo (tk.getD n t0)).1) (by omega) (by omega) (by omega) (by unfold pc1;omega)
  unfold pc1 at ih
  rw [Vz,QH,Sc (by omega),Qo hn,Qp,show tk.getD n (0,0,0,[],[],[])=tk.getD n t0 from rfl,M4 hk ht,Option.bind_some,af6 k (by omega) anb.1,Option.bind_some]
  simp only
  rw [YH k hx (by omega) (by omega) (by unfold pc1 at hrest;omega),Option.bind_some,Mi (by omega),<- Int.add_assoc]
  exact ih
theorem aby {α:Type} {l:List α} {i:Nat}:sub l 0 (i:Int)=l.take i:=by simp [sub]
theorem KE {l:List iy} (h:RS l) {i:Nat} {apart:Int} (ha:1 <= apart):∀ a b,0 <= a -> a <= b -> wh l i apart a <= wh l i apart b:=fun a b h0 hab=>by
 have h1:=Int.mul_le_mul_of_nonneg_right (af5 hab ha) (h.lost (i+1)).1
 have h2:=WA hab (l:=(l.take i).map pc1) (fun x hx=>⟨(h.oh i x hx).1,(h.oh i x hx).2.1⟩)
 unfold wh;omega
theorem anc {l:List iy} (h:FB l=true):∀ t∈l,G7 t=0:=fun t ht=>by
 obtain ⟨j,hj,e⟩:=List.mem_iff_getElem.1 ht
 have e2:l.getD j t0=t:=by rw [<- e,List.getD_eq_getElem?_getD,List.getElem?_eq_getElem hj];rfl
 unfold FB at h
 rw [Bool.not_eq_true',II] at h
 have:=h j (by omega) (by omega)
 unfold abv at this
 rw [Bool.or_eq_false_iff,e2] at this
 simpa using this.1
theorem U9 {l:List iy} (h:FB l=true) (hL:p9 l) (hl:l.length <= 10):RS l:=⟨hL,hl,fun t ht=>abw (anc h t ht)⟩
theorem UA {k:Nat} (hk:1000 <= k) {l:List iy} (h:RS l) {i:Nat} (hi:i<l.length) {apart:Int} (ha:1 <= apart):∀ (f j:Nat) (r n:Int) (y:Int×Int×Int),f <= j -> 0 <= r -> r <= 50000 -> 1 <= n -> n+f <= 1000000 -> FZ (l.getD i t0).2.2.1 (wh l i apart) f r n=some y ->
  L6 k j l (i:Int) apart r (n - 1) (vv 0 (l.take (i+1))) (firstT l i) false=some ((y.1,y.2.1,y.2.2,()),())
 | 0,j,r,n,y,_,_,_,_,_,e=>by cases e
 | f+1,j,r,n,y,hj,h0,h1,hn,hf,e=>by
  obtain ⟨j',rfl⟩:∃ j',j=j'+1:=⟨j - 1,by omega⟩
  have hfi:=h.first hi
  have hls:=h.lost (i+1)
  have hlo:=h.loss (i:=i) ha ⟨h0,h1⟩
  have hsu:=h.sum (i:=i) ⟨h0,h1⟩
  have hu:=Wz h0 ha
  have hen:=(h.co _ (jo (z:=t0) hi)).en
  have anb:=(h.co _ (jo (z:=t0) hi)).per
  have hlen:=h.len
  rw [agJ,Xp,af6 k (by omega) ha,Option.bind_some]
  simp only
  rw [YH k (by omega) (by omega) (by omega) (by omega),Option.bind_some,Rx (by omega) (by omega) (by omega),Uu (n:=n - 1+1) (by omega) (by omega),show n - 1+1=n by omega,aby]
  have htl:(l.take i).length <= 100:=by rw [List.length_take];omega
  have:=U8 hk (g:=L6 k j') hi (tk:=l.take i) (apart:=apart) (rounds:=n) (lost:=vv 0 (l.take (i+1))) (first:=firstT l i) (r:=r) ⟨h0,h1⟩ htl (fun t ht=>⟨(h.light.2 t (List.mem_of_mem_take ht)).1,h.co t (List.mem_of_mem_take ht)⟩) (l.take i).length 0 k (firstT l i+up r apart * vv 0 (l.take (i+1))) (by omega) (by omega) (by omega) (by rw [List.drop_zero];omega)
  refine Eq.trans this ?_
  rw [List.drop_zero,show firstT l i+up r apart * vv 0 (l.take (i+1))+y7 r ((l.take i).map pc1)=wh l i apart r from rfl]
  rw [FZ] at e
  split at e
  ·rename_i q
   injection e with e;subst e
   rw [if_pos q]
  ·rename_i q
   rw [if_neg q]
   split at e
   ·rename_i q2
    injection e with e;subst e
    rw [if_pos q2]
   ·rename_i q2
    rw [if_neg q2]
    have hr:=h.right hi ha ⟨h0,h1⟩
    have:=UA hk h hi ha f j' (wh l i apart r) (n+1) y (by omega) (by omega) (by omega) (by omega) (by omega) e
    rw [show n+1 - 1=n by omega] at this
    exact this
noncomputable def mq (l:List iy) (i apart:Int):Int×Int×Int :=
 if FB l=true /\ 0 <= i /\ i<(l.length:Int) /\ 1 <= apart then (FZ (l.getD i.toNat t0).2.2.1 (wh l i.toNat apart) 20000 (firstT l i.toNat) 1).getD (0,0,0) else (0,0,1)
theorem OC {l:List iy} (h:RS l) {i:Nat} (hi:i<l.length) {apart:Int} (ha:1 <= apart):∃ y,FZ (l.getD i t0).2.2.1 (wh l i apart) 20000 (firstT l i) 1=some y:=by
 have hf:=h.first hi
 have hen:=(h.co _ (jo (z:=t0) hi)).en
 have anb:=(h.co _ (jo (z:=t0) hi)).per
 exact U7 (KE h ha) 20000 _ 1 (by omega) (h.right hi ha (by omega)).1 (by omega) (by omega)
theorem UC {l:List iy} (hr:FB l=true) {i:Nat} (hi:i<l.length) {apart:Int} (ha:1 <= apart) {y:Int×Int×Int} (hy:FZ (l.getD i t0).2.2.1 (wh l i apart) 20000 (firstT l i) 1=some y):mq l (i:Int) apart=y:=by
 unfold mq
 rw [if_pos ⟨hr,by omega,by omega,ha⟩,Int.toNat_natCast,hy];rfl
theorem WB {k:Nat} (hk:20000 <= k) {l:List iy} (hrow:FB l=true) (h:RS l) {i:Nat} (hi:i<l.length) {apart:Int} (ha:1 <= apart):∀ (d n j:Nat) (m:Int),n+d=(l.take (i+1)).length -> d<j -> vv m ((l.take (i+1)).drop n)=vv 0 (l.take (i+1)) ->
  Xr k j l (i:Int) apart 0 (oo (l.getD i t0)).1 m (l.take (i+1)) ((l.take (i+1)).length:Int) (n:Int)=some (((mq l i apart).1,(mq l i apart).2.1,(mq l i apart).2.2,()),())
 | 0,n,j,m,h1,hj,hm=>by
  obtain ⟨j',rfl⟩:∃ j',j=j'+1:=⟨j - 1,by omega⟩
  have hb:=akA h.co (i:Int)
  have hc:=h.co _ (jo (z:=t0) hi)
  have:=hc.cost;have:=hc.en;have:=hc.per
  have hfi:=h.first hi
  rw [drop_nil (by omega),vv] at hm
  obtain ⟨y,hy⟩:=OC h hi ha
  rw [aag,Xq,Sd (by omega),af3 (by omega) h.light,Option.bind_some]
  simp only
  rw [YH k (by omega) (by omega) (by omega) (by omega),Option.bind_some,hm,Int.one_mul]
  have:=UA (k:=k) (by omega) h hi ha 20000 k (firstT l i) 1 y (by omega) (by omega) (by omega) (by omega) (by omega) hy
  refine Eq.trans this ?_
  rw [UC hrow hi ha hy]
 | d+1,n,j,m,h1,hj,hm=>by
  obtain ⟨j',rfl⟩:∃ j',j=j'+1:=⟨j - 1,by omega⟩
  have hn:n<(l.take (i+1)).length:=by omega
  have hmem:=jo (z:=t0) hn
  have ht:=(h.light.2 _ (List.mem_of_mem_take hmem)).1
  have hll:(l.take (i+1)).length <= 10:=by rw [List.length_take];have:=h.len;omega
  rw [drop_cons t0 hn,vv] at hm
  rw [aag,Xq,Sc (by omega),Qo hn,Qp,show (l.take (i+1)).getD n (0,0,0,[],[],[])=(l.take (i+1)).getD n t0 from rfl,M4 (by omega) ht,Option.bind_some,Mi (by omega)]
  exact WB hk hrow h hi ha d (n+1) j' _ (by omega) (by omega) hm
theorem ane {k:Nat} (hk:20000 <= k) {l:List iy} (hL:p9 l) (hl:l.length <= 10) (i apart:Int):alu k l i apart=some (((mq l i apart).1,(mq l i apart).2.1,(mq l i apart).2.2,()),()):=by
 unfold alu
 rw [ana (by omega) hL,Option.bind_some]
 simp only
 cases hr:FB l with
 | false =>
  have:mq l i apart=(0,0,1):=by unfold mq;rw [if_neg (fun q=>by rw [hr] at q;cases q.1)]
  rw [this];rfl
 | true =>
  rw [Bool.not_true,cond_false]
  by_cases h1:i<0
  ·have:mq l i apart=(0,0,1):=by unfold mq;rw [if_neg (fun q=>by omega)]
   rw [Sc h1,this]
  ·rw [Sd h1]
   by_cases h2:i≥(l.length:Int)
   ·have:mq l i apart=(0,0,1):=by unfold mq;rw [if_neg (fun q=>by omega)]
    rw [Sc h2,this]
   ·rw [Sd h2]
    by_cases h3:apart<1
    ·have:mq l i apart=(0,0,1):=by unfold mq;rw [if_neg (fun q=>by omega)]
     rw [Sc h3,this]
    ·rw [Sd h3]
     obtain ⟨n,rfl⟩:∃ n:Nat,i=(n:Int):=⟨i.toNat,by omega⟩
     have hn:n<l.length:=by omega
     have hRS:=U9 hr hL hl
     have ht:=(hL.2 _ (jo (z:=t0) hn)).1
     rw [Qo hn,Qp,show l.getD n (0,0,0,[],[],[])=l.getD n t0 from rfl,M4 (by omega) ht,Option.bind_some,Mi (by omega),Rx (by omega) (by omega) (by omega),aby]
     have hll:(l.take (n+1)).length <= 10:=by rw [List.length_take];omega
     exact WB hk hr hRS hn (by omega) (l.take (n+1)).length 0 k 0 (by omega) (by omega) (by rw [List.drop_zero])
theorem UD {en:Int} {right:Int -> Int} (hm:∀ a b,0 <= a -> a <= b -> right a <= right b):∀ (f:Nat) (r n:Int) (y:Int×Int×Int),0 <= r -> r <= right r -> r <= en \/ right r>en -> FZ en right f r n=some y ->
  (y=(0,0,14) /\ ∀ x,r <= x -> x <= en -> right x≠x) \/ (y.2.2=0 /\ right y.1=y.1 /\ r <= y.1 /\ y.1 <= en /\ n <= y.2.1 /\ y.2.1 - n <= y.1 - r /\ (right r≠r -> n+1 <= y.2.1) /\ ∀ x,r <= x -> right x=x -> y.1 <= x)
 | 0,r,n,y,_,_,_,e=>by cases e
 | f+1,r,n,y,h0,h1,h2,e=>by
  rw [FZ] at e
  split at e
  ·rename_i q
   injection e with e;subst e
   refine .inl ⟨rfl,fun x hx hxe hf=>?_⟩
   have:=hm r x h0 hx
   omega
  ·rename_i q
   split at e
   ·rename_i q2
    injection e with e;subst e
    refine .inr ⟨rfl,q2,Int.le_refl _,by omega,Int.le_refl _,by simp only;omega,fun h=>absurd q2 h,fun x hx _=>hx⟩
   ·rename_i q2
    have hr:=hm r (right r) h0 h1
    rcases UD hm f (right r) (n+1) y (by omega) hr (.inl (by omega)) e with ⟨a,b⟩ | ⟨a1,a2,a3,a4,a5,a6,a7,a8⟩
    ·refine .inl ⟨a,fun x hx hxe hf=>?_⟩
     have:=hm r x h0 hx
     exact b x (by omega) hxe hf
    ·refine .inr ⟨a1,a2,by omega,a4,by omega,by omega,fun _=>by omega,fun x hx hf=>?_⟩
     have:=hm r x h0 hx
     exact a8 x (by omega) hf
theorem af4.row {j3:Int} {l:List iy} (h:af4 j3 l):FB l=true:=by
 unfold FB
 rw [Bool.not_eq_true',II]
 intro n _ hn
 unfold abv
 rw [h.may n (by omega),bne_self_eq_false,Bool.false_or,Bool.and_eq_false_iff]
 by_cases h0:(n:Int)>0
 ·right
  obtain ⟨r,m1,m2,m3⟩:=h.mt n (by omega)
  obtain ⟨r2,p1,p2,p3⟩:=h.mt (n - 1) (by omega)
  have e1:=m1.rank
  have e2:=p1.rank
  exact decide_eq_false (by rw [e1,e2];omega)
 ·left;exact decide_eq_false h0
theorem J7 {l:List iy} {i:Nat} (hi:i<l.length):l.take (i+1)=l.take i++[l.getD i t0]:=by
 rw [List.take_add_one,List.getElem?_eq_getElem hi,List.getD_eq_getElem?_getD,List.getElem?_eq_getElem hi];rfl
theorem PW {en z:Int} {right:Int -> Int} (hm:∀ a b,0 <= a -> a <= b -> right a <= right b) (h2:right z <= z) (h3:z <= en):∀ (f:Nat) (r n:Int) (y:Int×Int×Int),0 <= r -> r <= z -> r <= right r -> FZ en right f r n=some y -> y.2.2=0 /\ y.1 <= z
 | 0,r,n,y,_,_,_,e=>by cases e
 | f+1,r,n,y,h0,h1,hr,e=>by
  have:=hm r z h0 h1
  rw [FZ,if_neg (by omega)] at e
  split at e
  ·injection e with e;subst e;exact ⟨rfl,h1⟩
  ·exact PW hm h2 h3 f (right r) (n+1) y (by omega) (by omega) (hm r _ h0 hr) e
theorem abz {l:List iy} (hr:FB l=true) (h:RS l) {i:Nat} (hi:i<l.length) {apart z:Int} (ha:1 <= apart) (h1:firstT l i <= z) (h2:wh l i apart z <= z) (h3:z <= (l.getD i t0).2.2.1):(mq l (i:Int) apart).2.2=0 /\ (mq l (i:Int) apart).1 <= z:=by
 obtain ⟨y,hy⟩:=OC h hi ha
 have hf:=h.first hi
 rw [UC hr hi ha hy]
 exact PW (KE h ha) h2 h3 _ _ _ _ (by omega) h1 (h.right hi ha (by omega)).1 hy
theorem row_iff {l:List iy}:FB l=true↔∀ n,n<l.length -> G7 (l.getD n t0)=0 /\ (0<n -> (l.getD (n - 1) t0).1<(l.getD n t0).1):=by
 unfold FB
 rw [Bool.not_eq_true',II]
 constructor
 ·intro h n hn
  have:=h n (by omega) (by omega)
  unfold abv at this
  rw [Bool.or_eq_false_iff,Bool.and_eq_false_iff] at this
  refine ⟨by simpa using this.1,fun h0=>?_⟩
  rcases this.2 with q | q
  ·exact absurd (of_decide_eq_false q) (by omega)
  ·have:=of_decide_eq_false q;omega
 ·intro h n _ hn
  obtain ⟨a,b⟩:=h n (by omega)
  unfold abv
  rw [a,bne_self_eq_false,Bool.false_or,Bool.and_eq_false_iff]
  by_cases h0:0<n
  ·right;exact decide_eq_false (by have:=b h0;omega)
  ·left;exact decide_eq_false (by omega)
abbrev WC:Type:=PN Int 5
noncomputable def jc (l:List iy) (ap:Int) (i:Nat):WC:=((oo (l.getD i t0)).1,(oo (l.getD i t0)).2.1,byT l (i:Int),(mq l (i:Int) ap).1,(l.getD i t0).2.2.1 - (mq l (i:Int) ap).1)
noncomputable def UE (l:List iy) (ap:Int):Nat -> Nat -> List WC -> List WC×Int
 | 0,_,out=>(out,0)
 | d+1,i,out=>if (mq l (i:Int) ap).2.2=0 then UE l ap d (i+1) (out++[jc l ap i]) else ([],(mq l (i:Int) ap).2.2)
noncomputable def allT (l:List iy) (ap:Int):List WC×Int:=if ap<1 then ([],1) else UE l ap l.length 0 []
theorem abA {l:List iy} (hL:p9 l) (hl:l.length <= 10) {i:Nat} {ap:Int} (h:(mq l (i:Int) ap).2.2=0):FB l=true /\ i<l.length /\ 1 <= ap /\ 1 <= (mq l (i:Int) ap).1 /\ firstT l i <= (mq l (i:Int) ap).1 /\ (mq l (i:Int) ap).1 <= (l.getD i t0).2.2.1 /\ wh l i ap (mq l (i:Int) ap).1=(mq l (i:Int) ap).1:=by
 by_cases hc:FB l=true /\ 0 <= (i:Int) /\ (i:Int)<(l.length:Int) /\ 1 <= ap
 ·obtain ⟨h1,_,h3,h4⟩:=hc
  have hi:i<l.length:=by omega
  have hR:=U9 h1 hL hl
  obtain ⟨y,hy⟩:=OC hR hi h4
  have hf:=hR.first hi
  rw [UC h1 hi h4 hy] at h ⊢
  rcases UD (KE hR h4) 20000 (firstT l i) 1 y (by omega) (hR.right hi h4 (by omega)).1 (by have:=(hR.right hi h4 (r:=firstT l i) (by omega)).1;omega) hy with ⟨e,_⟩ | ⟨a1,a2,a3,a4,_⟩
  ·rw [e] at h;exact absurd h (by decide)
  ·exact ⟨h1,hi,h4,by omega,a3,a4,a2⟩
 ·unfold mq at h
  rw [if_neg hc] at h
  exact absurd h (by decide)
theorem WE {k:Nat} (hk:20000 <= k) {l:List iy} (hL:p9 l) (hl:l.length <= 10) {ap:Int}:∀ (d i j:Nat) (out:List WC),i+d=l.length -> d<j -> out.length <= i ->
  Xu k j l ap out l (l.length:Int) (i:Int)=some (((UE l ap d i out).1,(UE l ap d i out).2,()),())
 | 0,i,j,out,h,hj,ho=>by
  obtain ⟨j',rfl⟩:∃ j',j=j'+1:=⟨j - 1,by omega⟩
  rw [aah,Xt,Sd (by omega),UE]
 | d+1,i,j,out,h,hj,ho=>by
  obtain ⟨j',rfl⟩:∃ j',j=j'+1:=⟨j - 1,by omega⟩
  have hi:i<l.length:=by omega
  have ht:=(hL.2 _ (jo (z:=t0) hi)).1
  rw [aah,Xt,Sc (by omega),Qo hi,ane hk hL hl,Option.bind_some,UE,Qp,show l.getD i (0,0,0,[],[],[])=l.getD i t0 from rfl]
  simp only
  by_cases he:(mq l (i:Int) ap).2.2=0
  ·obtain ⟨h1,_,h3,h4,h5,h6,h7⟩:=abA hL hl he
   have hc:=(U9 h1 hL hl).co _ (jo (z:=t0) hi)
   have:=hc.en;have:=hc.per
   rw [if_pos he,he]
   simp only [bne_self_eq_false,cond_false]
   rw [M4 (by omega) ht,Option.bind_some,af3 (by omega) hL,Option.bind_some,Rz (by simp only [List.length_cons,List.length_nil];omega),Mi (by omega),Uu (by omega) (by omega)]
   exact WE hk hL hl d (i+1) j' _ (by omega) (by omega) (by simp only [List.length_append,List.length_cons,List.length_nil];omega)
  ·rw [if_neg he,show ((mq l (i:Int) ap).2.2 != 0)=true by rw [bne_iff_ne];exact he,cond_true]
theorem anf {k:Nat} (hk:20000 <= k) {l:List iy} (hL:p9 l) (hl:l.length <= 10) (ap:Int):aix k l ap=some (((allT l ap).1,(allT l ap).2,()),()):=by
 unfold aix allT
 by_cases h:ap<1
 ·rw [Sc h,if_pos h]
 ·rw [Sd h,if_neg h]
  exact WE hk hL hl l.length 0 k [] (by omega) (by omega) (by simp)
def Vg (r:Int):List iy -> Nat
 | []=>0
 | x::l=>bif decide (x.1<r) then Vg r l+1 else 0
theorem YI (r:Int):∀ l:List iy,Vg r l <= l.length
 | []=>Nat.le_refl _
 | x::l=>by
  rw [Vg]
  cases decide (x.1<r) with
  | true=>rw [cond_true,List.length_cons];have:=YI r l;omega
  | false=>rw [cond_false];omega
theorem H6 (r:Int):∀ (l:List iy) (n:Nat),n <= l.length -> (∀ a,a<n -> (l.getD a t0).1<r) -> (n<l.length -> ¬ (l.getD n t0).1<r) -> Vg r l=n
 | [],n,h,_,_=>by simp at h;rw [h];rfl
 | x::l,0,_,_,h2=>by
  have h3:¬ x.1<r:=h2 (by simp)
  rw [Vg,decide_eq_false h3,cond_false]
 | x::l,n+1,h,h1,h2=>by
  have h3:x.1<r:=h1 0 (by omega)
  rw [Vg,decide_eq_true h3,cond_true,H6 r l n (by simpa using h) (fun a ha=>h1 (a+1) (by omega)) (fun hn=>h2 (by simpa using hn))]
noncomputable def BH (l:List iy) (t:iy):List iy:=l.take (Vg t.1 l)++[t]++l.drop (Vg t.1 l)
theorem UF (l:List iy) (t:iy):(BH l t).length=l.length+1:=by
 have:=YI t.1 l
 unfold BH
 simp only [List.length_append,List.length_take,List.length_drop,List.length_cons,List.length_nil];omega
theorem acL {l:List iy} {t:iy} (h:p9 l) (hl:l.length <= 50) (ht:zi t /\ (t.2.2.2.1++t.2.2.2.2.1).length <= 900):p9 (BH l t):=⟨by rw [UF];omega,fun x hx=>by
 unfold BH at hx
 simp only [List.mem_append,List.mem_singleton] at hx
 rcases hx with (hx | hx) | hx
 ·exact h.2 x (List.mem_of_mem_take hx)
 ·rw [hx];exact ht
 ·exact h.2 x (List.mem_of_mem_drop hx)⟩
noncomputable def inT (l:List iy) (t:iy) (ap:Int):List iy×List WC×Int :=
 if G7 t≠0 then ([],[],G7 t) else if l.any (fun x=>x.1==t.1)=true then ([],[],11) else if 8 <= l.length then ([],[],4)
 else if (allT (BH l t) ap).2≠0 then ([],[],(allT (BH l t) ap).2) else (BH l t,(allT (BH l t) ap).1,0)
theorem YJ {k:Nat} {xs:List I4} (h:xs.length <= 900):RZ k xs=some ((xs,()),()):=by
 unfold RZ qQ
 exact if_pos (by rw [lY];show xs.length * _ <= _;omega)
theorem af8 {k:Nat} {t:iy} (h:zi t):aii k t=some ((t,()),()):=by
 unfold aii
 rw [YJ h.1,Option.bind_some,YJ h.2.1,Option.bind_some,YJ h.2.2,Option.bind_some]
theorem ang {k:Nat} {l:List iy} {p:Nat} {t:iy} (hp:p <= l.length) (hl:l.length <= 1000):aoU k l (p:Int) [t]=some ((l.take p++[t]++l.drop p,()),()):=by
 unfold aoU Jg
 refine if_pos ?_
 simp only [Bool.and_eq_true]
 refine ⟨decide_eq_true (Int.natCast_nonneg p),decide_eq_true (Int.ofNat_le.2 hp),decide_eq_true ?_⟩
 show (l.length+1) * _ <= _
 omega
theorem anh {l:List iy} {r:Int} (h:l.any (fun x=>x.1==r)=false):(if qw (fun x:iy=>decide (x.1>r)) l<0 then (l.length:Int) else qw (fun x:iy=>decide (x.1>r)) l)=(Vg r l:Int):=by
 have hne:∀ a,a<l.length -> (l.getD a t0).1≠r:=fun a ha e=>by
  rw [List.any_eq_false] at h
  exact h _ (jo (z:=t0) ha) (by rw [e];exact beq_self_eq_true r)
 unfold qw
 cases hf:l.findIdx? (fun x:iy=>decide (x.1>r)) with
 | none =>
  rw [List.findIdx?_eq_none_iff] at hf
  simp only
  rw [if_pos (by omega),H6 r l l.length (Nat.le_refl _) (fun a ha=>by
   have:=hf _ (jo (z:=t0) ha)
   have:=of_decide_eq_false this
   have:=hne a ha
   omega) (fun h=>absurd h (by omega))]
 | some n =>
  rw [List.findIdx?_eq_some_iff_getElem] at hf
  obtain ⟨hn,h1,h2⟩:=hf
  have gd:∀ a (ha:a<l.length),l.getD a t0=l[a]:=fun a ha=>by rw [List.getD_eq_getElem?_getD,List.getElem?_eq_getElem ha];rfl
  simp only
  rw [if_neg (by omega),H6 r l n (by omega) (fun a ha=>by
   have h3:=h2 a ha
   have h4:=hne a (by omega)
   rw [gd a (by omega)] at h4 ⊢
   simp only [decide_eq_true_eq] at h3
   omega) (fun _=>by
   rw [gd n hn]
   have:=of_decide_eq_true h1
   omega)]
theorem ani (x y:Int) (c:List (Int×Bool)):Us (.int .i64) .bool x (vL (.int .i64) .bool y true c) false=((y==x)||Us (.int .i64) .bool x c false):=by
 unfold Us
 rw [BZ (hb:=apJ)]
 by_cases e:y=x
 ·subst e;simp [fC]
 ·have h1:fC (.int .i64) x y=false:=by simp [fC];exact fun h=>e h.symm
  rw [h1,show (y==x)=false by rw [beq_eq_false_iff_ne];exact e]
  simp
structure apM (l:List iy) (t:iy):Prop where
 light:p9 l
 len:l.length <= 9
 one:zi t /\ (t.2.2.2.1++t.2.2.2.2.1).length <= 900
theorem UG {k:Nat} (hk:20000 <= k) {l:List iy} {t:iy} (h:apM l t) {ap:Int} (hany:l.any (fun x=>x.1==t.1)=false):∀ (d n j:Nat),n+d=l.length -> d<j ->
  QK k j ap t.1 t.2.1 t.2.2.1 t.2.2.2.1 t.2.2.2.2.1 t.2.2.2.2.2 (l.take n) l (l.length:Int) (n:Int)=some ((if (allT (BH l t) ap).2≠0 then ([],[],(allT (BH l t) ap).2,()) else (BH l t,(allT (BH l t) ap).1,0,())),())
 | 0,n,j,h1,hj=>by
  obtain ⟨j',rfl⟩:∃ j',j=j'+1:=⟨j - 1,by omega⟩
  have hl:=h.len
  have hn:n=l.length:=by omega
  have hp:=YI t.1 l
  have hpl:=acL h.light (by omega) h.one
  have hpn:=UF l t
  have jn:L8 k ap t.1 t.2.1 t.2.2.1 t.2.2.2.1 t.2.2.2.2.1 t.2.2.2.2.2 l ((Vg t.1 l:Nat):Int)=some ((if (allT (BH l t) ap).2≠0 then ([],[],(allT (BH l t) ap).2,()) else (BH l t,(allT (BH l t) ap).1,0,())),()):=by
   unfold L8
   rw [show (t.1,t.2.1,t.2.2.1,t.2.2.2.1,t.2.2.2.2.1,t.2.2.2.2.2)=t from rfl,af8 h.one.1,Option.bind_some]
   simp only
   rw [ang hp (by omega),Option.bind_some]
   show (aix k (BH l t) ap).bind _=_
   rw [anf hk hpl (by omega),Option.bind_some]
   simp only
   by_cases he:(allT (BH l t) ap).2=0
   ·rw [he,if_neg (by simp)];rfl
   ·rw [if_pos he,show ((allT (BH l t) ap).2 != 0)=true by rw [bne_iff_ne];exact he,cond_true]
  have hidx:=anh hany
  rw [VA,QJ,Sd (by omega),hn,List.take_length]
  unfold aoT
  have:=uf (fun j i=>K3 k j l (t.1,t.2.1,t.2.2.1,t.2.2.2.1,t.2.2.2.2.1,t.2.2.2.2.2) (l.length:Int) i) l t0 (fun x:iy=>decide (x.1>t.1)) (fun j i hi=>by
   show K3 k (j+1) l _ (l.length:Int) (i:Int)=_
   rw [ZQ,Xh,Sc (by omega),Qo hi,Mi (by omega),Qp]
   unfold aoS
   rfl) (fun j=>by
   show K3 k (j+1) l _ (l.length:Int) (l.length:Int)=_
   rw [ZQ,Xh,Sd (by omega)]) k (by omega)
  rw [show K3 k k l (t.1,t.2.1,t.2.2.1,t.2.2.2.1,t.2.2.2.2.1,t.2.2.2.2.2) (l.length:Int) 0=_ from this,Option.bind_some]
  simp only
  by_cases hi:qw (fun x:iy=>decide (x.1>t.1)) l<0
  ·rw [if_pos hi] at hidx
   rw [Sc hi,hidx];exact jn
  ·rw [if_neg hi] at hidx
   rw [Sd hi,hidx];exact jn
 | d+1,n,j,h1,hj=>by
  obtain ⟨j',rfl⟩:∃ j',j=j'+1:=⟨j - 1,by omega⟩
  have hl:=h.len
  have hn:n<l.length:=by omega
  have ht:=(h.light.2 _ (jo (z:=t0) hn)).1
  rw [VA,QJ,Sc (by omega),Qo hn,Qp,show l.getD n (0,0,0,[],[],[])=l.getD n t0 from rfl,af8 ht,Option.bind_some]
  simp only
  rw [Rz (by simp only [List.length_take,List.length_cons,List.length_nil];omega),Mi (by omega),<- J7 hn]
  exact UG hk h hany d (n+1) j' (by omega) (by omega)
theorem WG {k:Nat} (hk:20000 <= k) {l:List iy} {t:iy} (h:apM l t) {ap:Int}:∀ (d n j:Nat) (c:List (Int×Bool)),n+d=l.length -> d<j -> (Us (.int .i64) .bool t.1 c false=(l.take n).any (fun x=>x.1==t.1)) ->
  Xw k j l ap t.1 t.2.1 t.2.2.1 t.2.2.2.1 t.2.2.2.2.1 t.2.2.2.2.2 c l (l.length:Int) (n:Int)=some (((inT l t ap).1,(inT l t ap).2.1,(inT l t ap).2.2,()),())
 | 0,n,j,c,h1,hj,hc=>by
  obtain ⟨j',rfl⟩:∃ j',j=j'+1:=⟨j - 1,by omega⟩
  have hl:=h.len
  rw [aaj,Xv,Sd (by omega),show (t.1,t.2.1,t.2.2.1,t.2.2.2.1,t.2.2.2.2.1,t.2.2.2.2.2)=t from rfl,YG (by omega) h.one.1,Option.bind_some,hc,List.take_of_length_le (by omega)]
  simp only
  unfold inT
  by_cases hz:G7 t=0
  ·rw [if_neg (by omega),hz]
   simp only [bne_self_eq_false,cond_false]
   cases ha:l.any (fun x=>x.1==t.1) with
   | true=>rw [if_pos rfl,cond_true]
   | false =>
    rw [if_neg (by simp),cond_false]
    by_cases h8:8 <= l.length
    ·rw [if_pos h8,Sc (by omega)]
    ·rw [if_neg h8,Sd (by omega)]
     have:=UG hk h (ap:=ap) ha l.length 0 k (by omega) (by omega)
     rw [List.take_zero] at this
     refine Eq.trans this ?_
     split <;> rfl
  ·rw [if_pos hz,show (G7 t != 0)=true by rw [bne_iff_ne];exact hz,cond_true]
 | d+1,n,j,c,h1,hj,hc=>by
  obtain ⟨j',rfl⟩:∃ j',j=j'+1:=⟨j - 1,by omega⟩
  have hl:=h.len
  have hn:n<l.length:=by omega
  rw [aaj,Xv,Sc (by omega),Qo hn,Qp,show l.getD n (0,0,0,[],[],[])=l.getD n t0 from rfl,Mi (by omega)]
  refine WG hk h d (n+1) j' _ (by omega) (by omega) ?_
  rw [ani,hc,J7 hn,List.any_append,List.any_cons,List.any_nil,Bool.or_false,Bool.or_comm]
theorem anj {k:Nat} (hk:20000 <= k) {l:List iy} {t:iy} (h:apM l t) (ap:Int):ao2 k l t ap=some (((inT l t ap).1,(inT l t ap).2.1,(inT l t ap).2.2,()),()):=by
 have hl:=h.len
 exact WG hk h l.length 0 k [] (by omega) (by omega) (by rw [List.take_zero];rfl)
def apN (l:List iy):Prop:=∀ a b,a<b -> b<l.length -> (l.getD a t0).1<(l.getD b t0).1
theorem ahe {l:List iy} (h:FB l=true):apN l:=fun a b hab hb=>by
 rw [row_iff] at h
 induction b with
 | zero=>omega
 | succ b ih =>
  have h1:=(h (b+1) hb).2 (by omega)
  rw [show b+1 - 1=b by omega] at h1
  by_cases e:a=b
  ·rw [e];exact h1
  ·have:=ih (by omega) (by omega);omega
structure Emb (s l:List iy) (f:Nat -> Nat):Prop where
 lt:∀ a,a<s.length -> f a<l.length
 eq:∀ a,a<s.length -> s.getD a t0=l.getD (f a) t0
 mono:∀ a b,a<b -> b<s.length -> f a<f b
theorem WH {a b c:Int}:mx a b <= c↔a <= c /\ b <= c:=by unfold mx;split <;> omega
theorem KF {l:List iy} {i b:Int}:∀ (sp:List (Int×Int)) (m:Int),spF l i m sp <= b↔m <= b /\ ∀ e∈sp,xg l e.1 <= i -> e.2 <= b
 | [],m=>by simp [spF]
 | e::r,m=>by
  rw [spF,KF r]
  simp only [List.mem_cons,forall_eq_or_imp]
  by_cases h:xg l e.1 <= i
  ·rw [decide_eq_true h,cond_true,WH]
   exact ⟨fun q=>⟨q.1.1,fun _=>q.1.2,q.2⟩,fun q=>⟨⟨q.1,q.2.1 h⟩,q.2.2⟩⟩
  ·rw [decide_eq_false h,cond_false]
   exact ⟨fun q=>⟨q.1,fun h2=>absurd h2 h,q.2⟩,fun q=>⟨q.1,q.2.2⟩⟩
theorem KG {l:List iy} {i b:Int}:∀ (r:List iy) (n:Nat) (m:Int),byG l i r n m <= b↔m <= b /\ ∀ j,j<r.length -> ((n+j:Nat):Int)≠i -> ∀ e∈(oo (r.getD j t0)).2.2,xg l e.1 <= i -> e.2 <= b
 | [],n,m=>by simp [byG]
 | t::r,n,m=>by
  rw [byG,KG r]
  constructor
  ·intro ⟨h1,h2⟩
   cases hc:((n:Int)==i) with
   | true =>
    rw [hc,cond_true] at h1
    refine ⟨h1,fun j hj hne=>?_⟩
    cases j with
    | zero=>exact absurd (eq_of_beq hc) hne
    | succ j=>exact h2 j (by simpa using hj) (by rw [show n+1+j=n+(j+1) by omega];exact hne)
   | false =>
    rw [hc,cond_false,KF] at h1
    refine ⟨h1.1,fun j hj hne=>?_⟩
    cases j with
    | zero=>exact h1.2
    | succ j=>exact h2 j (by simpa using hj) (by rw [show n+1+j=n+(j+1) by omega];exact hne)
  ·intro ⟨h1,h2⟩
   refine ⟨?_,fun j hj hne=>h2 (j+1) (by simpa using hj) (by rw [show n+(j+1)=n+1+j by omega];exact hne)⟩
   cases hc:((n:Int)==i) with
   | true=>exact h1
   | false =>
    rw [cond_false,KF]
    exact ⟨h1,h2 0 (by simp) (by rw [beq_eq_false_iff_ne] at hc;exact hc)⟩
theorem FC {b:Int}:∀ (r:List iy) (m:Int),vv m r <= b↔m <= b /\ ∀ t∈r,(oo t).2.1 <= b
 | [],m=>by simp [vv]
 | t::r,m=>by
  rw [vv,FC r,WH]
  simp only [List.mem_cons,forall_eq_or_imp]
  exact and_assoc
theorem M6 (x:Int):∀ a b:List (Int×Int),y7 x (a++b)=y7 x a+y7 x b
 | [],b=>by simp [y7]
 | p::a,b=>by rw [List.cons_append,y7,y7,M6 x a b];omega
section
variable {s l:List iy} {f:Nat -> Nat} (h:Emb s l f)
include h
theorem Emb.ceil {i:Nat} (hi:i<s.length) (h8:s.length <= 8) {e:Int} (hc:xg s e <= (i:Int)):xg l e <= ((f i:Nat):Int):=by
 unfold xg at hc ⊢
 rcases U6 e s 0 with ⟨q,_⟩ | ⟨n,hn,q,hl⟩
 ·omega
 ·rw [h.eq n hn] at hl
  have:=abu e l 0 (f n) (h.lt n hn) hl
  have h2:f n <= f i:=by
   by_cases e:n=i
   ·rw [e];exact Nat.le_refl _
   ·exact Nat.le_of_lt (h.mono n i (by omega) hi)
  omega
theorem Emb.by {i:Nat} (hi:i<s.length) (h8:s.length <= 8):byT s (i:Int) <= byT l ((f i:Nat):Int):=by
 unfold byT
 rw [KG]
 obtain ⟨h1,h2⟩:=(KG (l:=l) (i:=((f i:Nat):Int)) l 0 0).1 (Int.le_refl _)
 refine ⟨h1,fun j hj hne e he hc=>?_⟩
 rw [Nat.zero_add] at hne
 have ati:f j≠f i:=by
  rcases Nat.lt_or_gt_of_ne (show j≠i from fun e=>hne (by rw [e])) with q | q
  ·exact Nat.ne_of_lt (h.mono j i q hi)
  ·exact Nat.ne_of_gt (h.mono i j q hj)
 exact h2 (f j) (h.lt j hj) (by rw [Nat.zero_add];omega) e (by rw [<- h.eq j hj];exact he) (h.ceil hi h8 hc)
theorem Emb.lost {i:Nat} (hi:i<s.length):vv 0 (s.take (i+1)) <= vv 0 (l.take (f i+1)):=by
 rw [FC]
 obtain ⟨h1,h2⟩:=(FC (l.take (f i+1)) 0).1 (Int.le_refl _)
 refine ⟨h1,fun t ht=>h2 t ?_⟩
 obtain ⟨a,ha,e⟩:=List.mem_iff_getElem.1 ht
 rw [List.length_take] at ha
 have e1:t=s.getD a t0:=by rw [<- e,List.getElem_take,List.getD_eq_getElem?_getD,List.getElem?_eq_getElem (by omega)];rfl
 have hfa:f a <= f i:=by
  by_cases e:a=i
  ·rw [e];exact Nat.le_refl _
  ·exact Nat.le_of_lt (h.mono a i (by omega) hi)
 have hla:=h.lt a (by omega)
 rw [e1,h.eq a (by omega)]
 rw [List.getD_eq_getElem?_getD,List.getElem?_eq_getElem hla,List.mem_iff_getElem]
 exact ⟨f a,by rw [List.length_take];omega,by rw [List.getElem_take];rfl⟩
theorem Emb.sum (hco:∀ t∈l,CoS t) {x:Int} (hx:0 <= x):∀ a,a <= s.length -> ∀ n,n <= l.length -> (∀ b,b<a -> f b<n) -> y7 x ((s.take a).map pc1) <= y7 x ((l.take n).map pc1)
 | 0,_,n,hn,_=>by
  rw [List.take_zero]
  exact BG hx (fun y hy=>by
   obtain ⟨t,ht,rfl⟩:=List.mem_map.1 hy
   have q:=hco t (List.mem_of_mem_take ht)
   have:=q.cost;have:=q.per
   unfold pc1;simp only;omega)
 | a+1,ha,n,hn,hb=>by
  have hfa:=hb a (by omega)
  have hla:f a<l.length:=h.lt a (by omega)
  have ih:=Emb.sum hco hx a (by omega) (f a) (by omega) (fun b hb=>h.mono b a hb (by omega))
  rw [J7 (show a<s.length by omega),List.map_append,M6,h.eq a (by omega)]
  have e:l.take n=l.take (f a)++[l.getD (f a) t0]++(l.take n).drop (f a+1):=by
   rw [<- J7 hla]
   have:=(List.take_append_drop (f a+1) (l.take n)).symm
   rwa [List.take_take,Nat.min_eq_left (by omega)] at this
  rw [e,List.map_append,List.map_append,M6,M6]
  have:0 <= y7 x (((l.take n).drop (f a+1)).map pc1):=BG hx (fun y hy=>by
   obtain ⟨t,ht,rfl⟩:=List.mem_map.1 hy
   have q:=hco t (List.mem_of_mem_take (List.mem_of_mem_drop ht))
   have:=q.cost;have:=q.per
   unfold pc1;simp only;omega)
  omega
theorem Emb.right (hco:RS l) {i:Nat} (hi:i<s.length) (h8:s.length <= 8) {ap x:Int} (ha:1 <= ap) (hx:0 <= x):firstT s i <= firstT l (f i) /\ wh s i ap x <= wh l (f i) ap x:=by
 have h1:=h.by hi h8
 have h2:=h.lost hi
 have h3:=h.sum hco.co hx i (by omega) (f i) (Nat.le_of_lt (h.lt i hi)) (fun b hb=>h.mono b i hb hi)
 have h4:=Int.mul_le_mul_of_nonneg_left h2 (Wz hx ha).1
 have hf:firstT s i <= firstT l (f i):=by unfold firstT;rw [h.eq i hi];omega
 refine ⟨hf,?_⟩
 unfold wh;omega
theorem Emb.row (hr:FB l=true):FB s=true:=by
 have hri:=ahe hr
 rw [row_iff] at hr ⊢
 intro n hn
 rw [h.eq n hn]
 refine ⟨(hr _ (h.lt n hn)).1,fun h0=>?_⟩
 rw [h.eq (n - 1) (by omega)]
 exact hri _ _ (h.mono (n - 1) n (by omega) hn) (h.lt n hn)
theorem Emb.light (hL:p9 l) (hs:s.length <= 100):p9 s:=⟨hs,fun t ht=>by
 obtain ⟨a,ha,e⟩:=List.mem_iff_getElem.1 ht
 have e1:t=s.getD a t0:=by rw [<- e,List.getD_eq_getElem?_getD,List.getElem?_eq_getElem ha];rfl
 rw [e1,h.eq a ha]
 exact hL.2 _ (jo (h.lt a ha))⟩
theorem Emb.resp (hL:p9 l) (hl:l.length <= 10) (h8:s.length <= 8) {i:Nat} (hi:i<s.length) {ap:Int} (he:(mq l ((f i:Nat):Int) ap).2.2=0):(mq s (i:Int) ap).2.2=0 /\ (mq s (i:Int) ap).1 <= (mq l ((f i:Nat):Int) ap).1:=by
 obtain ⟨h1,h2,h3,h4,h5,h6,h7⟩:=abA hL hl he
 have hR:=U9 h1 hL hl
 have hs:=U9 (h.row h1) (h.light hL (by omega)) (by omega)
 obtain ⟨q1,q2⟩:=h.right hR hi h8 (ap:=ap) (x:=(mq l ((f i:Nat):Int) ap).1) h3 (by omega)
 exact abz (h.row h1) hs hi h3 (by omega) (by omega) (by rw [h.eq i hi];exact h6)
end
theorem af9 {l:List iy} {ap:Int}:∀ (d i:Nat) (out:List WC),(∀ a,i <= a -> a<i+d -> (mq l (a:Int) ap).2.2=0) -> UE l ap d i out=(out++(List.range' i d).map (jc l ap),0)
 | 0,i,out,_=>by rw [UE];simp
 | d+1,i,out,h=>by
  rw [UE,if_pos (h i (Nat.le_refl _) (by omega)),af9 d (i+1) _ (fun a h1 h2=>h a (by omega) (by omega)),List.range'_succ,List.map_cons,List.append_assoc];rfl
theorem WI {l:List iy} {ap:Int}:∀ (d i:Nat) (out:List WC),(UE l ap d i out).2=0 -> ∀ a,i <= a -> a<i+d -> (mq l (a:Int) ap).2.2=0
 | 0,i,out,_,a,h1,h2=>by omega
 | d+1,i,out,h,a,h1,h2=>by
  rw [UE] at h
  by_cases he:(mq l (i:Int) ap).2.2=0
  ·rw [if_pos he] at h
   by_cases e:a=i
   ·rw [e];exact he
   ·exact WI d (i+1) _ h a (by omega) (by omega)
  ·rw [if_neg he] at h;exact absurd h he
theorem aga {l:List iy} {ap:Int} (ha:1 <= ap) (h:∀ i,i<l.length -> (mq l (i:Int) ap).2.2=0):allT l ap=((List.range l.length).map (jc l ap),0):=by
 unfold allT
 rw [if_neg (by omega),af9 l.length 0 [] (fun a _ h2=>h a (by omega)),List.nil_append,<- List.range_eq_range']
theorem WJ {l:List iy} {ap:Int} (h:(allT l ap).2=0):1 <= ap /\ ∀ i,i<l.length -> (mq l (i:Int) ap).2.2=0:=by
 unfold allT at h
 by_cases ha:ap<1
 ·rw [if_pos ha] at h;exact absurd h (by decide)
 ·rw [if_neg ha] at h
  exact ⟨by omega,fun i hi=>WI l.length 0 [] h i (by omega) (by omega)⟩
theorem Emb.all {s l:List iy} {f:Nat -> Nat} (h:Emb s l f) (hL:p9 l) (hl:l.length <= 10) (h8:s.length <= 8) {ap:Int} (he:(allT l ap).2=0):allT s ap=((List.range s.length).map (jc s ap),0):=by
 obtain ⟨h1,h2⟩:=WJ he
 exact aga h1 (fun i hi=>(h.resp hL hl h8 hi (h2 _ (h.lt i hi))).1)
theorem apO {l:List iy} {t:iy} {ap:Int} (h:(inT l t ap).2.2=0):(inT l t ap).1=BH l t /\ (inT l t ap).2.1=(allT (BH l t) ap).1 /\ (allT (BH l t) ap).2=0 /\ l.any (fun x=>x.1==t.1)=false:=by
 unfold inT at h ⊢
 split at h
 ·rename_i q;exact absurd h q
 ·rename_i q
  rw [if_neg q]
  split at h
  ·exact absurd h (by decide)
  ·rename_i q2
   rw [if_neg q2]
   split at h
   ·exact absurd h (by decide)
   ·rename_i q3
    rw [if_neg q3]
    split at h
    ·rename_i q4;exact absurd h q4
    ·rename_i q4
     rw [if_neg q4]
     exact ⟨rfl,rfl,by simpa using q4,Bool.eq_false_iff.2 q2⟩
abbrev jd:Type:=Int×Int×Int×Int×gy×gy×List Int×Bool
abbrev je:Type:=Int×Int×List iy×List WC×Bool×Bool×Bool×List jd×Tb×List Int×List Bool
abbrev jf:Type:=PN Int 6
abbrev jg:Type:=Int×Int
abbrev s0:jg:=(0,0)
abbrev bd0:WC:=Qn (α:=Int) 5 0
theorem agb {α:Type} (p:α -> Bool) (x:α):[x].filter p=bif p x then [x] else []:=by rw [List.filter_cons];cases p x <;> rfl
theorem J8 {k:Nat} {xs:List I4} (h:xs.length <= 900):RZ k xs=some ((xs,()),()):=by
 unfold RZ;exact Ll (by omega)
theorem ank {k:Nat} {xs:List iy} (h:xs.length <= 900):ao3 k xs=some ((xs,()),()):=by
 unfold ao3;exact Ll (by omega)
theorem ahf {k:Nat} {xs:List WC} (h:xs.length <= 900):ao4 k xs=some ((xs,()),()):=by
 unfold ao4;exact Ll (by omega)
theorem apP {k:Nat} {xs:List jd} (h:xs.length <= 900):ao5 k xs=some ((xs,()),()):=by
 unfold ao5;exact Ll (by omega)
theorem acM {k:Nat} {xs:List gu} (h:xs.length <= 900):ab8 k xs=some ((xs,()),()):=by
 unfold ab8;exact Ll (by omega)
theorem UH {k:Nat} {xs:List Int} (h:xs.length <= 900):GJ k xs=some ((xs,()),()):=by
 unfold GJ;exact Ll (by omega)
theorem YK {k:Nat} {xs:List Bool} (h:xs.length <= 900):Vb k xs=some ((xs,()),()):=by
 unfold Vb;exact Ll (by omega)
theorem YL {k:Nat} {xs:List jg} (h:xs.length <= 900):ajl k xs=some ((xs,()),()):=by
 unfold ajl;exact Ll (by omega)
theorem H7 {α:Type} {l:List α} {n:Nat} {z:α}:l.set n (l.getD n z)=l:=by
 by_cases h:n<l.length
 ·rw [getD_in h];exact List.set_getElem_self h
 ·exact List.set_eq_of_length_le (by omega)
def DK (l:List Int) (s:Int):List Int:=l.filter (fun x=>!(x==s))
theorem YM {k:Nat} {l:List Int} {s:Int} (hl:l.length <= 900):∀ (m e j c:Nat) (a:List Int),e+m=l.length -> m<j -> a.length=l.length -> c <= e -> a.take c=DK (l.take e) s -> a.drop e=l.drop e ->
  Xz k j a s (c:Int) (e:Int)=some ((DK l s,()),())
 | 0,e,j,c,a,he,hj,ha,hc,h1,h2=>by
  obtain ⟨j,rfl⟩:∃ i,j=i+1:=⟨j - 1,by omega⟩
  have hcl:(Uy a (c:Int) (a.length:Int) 0).length=a.length:=by simp [Uy];omega
  rw [aal,Xy,Sd (by omega),Rx (by omega) (by omega) (by omega),Rx (by omega) (by omega) (by omega)]
  have h1:a.take c=DK l s:=by rw [h1,List.take_of_length_le (by omega)]
  rw [<- h1]
  unfold Uy
  simp only [Int.toNat_natCast]
  rw [List.append_assoc,List.take_append_of_le_length (by simp;omega),List.take_take,Nat.min_self]
 | m+1,e,j,c,a,he,hj,ha,hc,h1,h2=>by
  obtain ⟨j,rfl⟩:∃ i,j=i+1:=⟨j - 1,by omega⟩
  have hea:e<a.length:=by omega
  have hg:a.getD e 0=l.getD e 0 /\ a.drop (e+1)=l.drop (e+1):=by
   rw [drop_cons 0 hea,drop_cons (l:=l) 0 (by omega)] at h2
   injection h2 with p q;exact ⟨p,q⟩
  have ht:l.take (e+1)=l.take e++[l.getD e 0]:=by rw [List.take_succ_eq_append_getElem (by omega),getD_in (by omega)]
  rw [aal,Xy,Sc (by omega),Qo hea,Qp]
  unfold aiA
  rw [Option.bind_some,Mi (by omega),Mi (by omega),hg.1]
  simp only
  cases hs:l.getD e 0==s with
  | true =>
   simp only [Bool.not_true,cond_false]
   exact YM hl m (e+1) j c a (by omega) (by omega) ha (by omega) (by rw [h1,ht];unfold DK;rw [List.filter_append,agb,hs];simp) hg.2
  | false =>
   simp only [Bool.not_false,cond_true]
   rw [Qo (by omega),Mj]
   refine YM hl m (e+1) j (c+1) (a.set c (l.getD e 0)) (by omega) (by omega) (by rw [List.length_set];exact ha) (by omega) ?_ (by rw [List.drop_set_of_lt (by omega)];exact hg.2)
   rw [List.take_succ_eq_append_getElem (by rw [List.length_set];omega),List.take_set_of_le (by omega),h1,ht,List.getElem_set_self]
   unfold DK;rw [List.filter_append,agb,hs];simp
theorem anl {k:Nat} (hk:1000 <= k) {l:List Int} (hl:l.length <= 900) (s:Int):alx k l s=some ((DK l s,()),()):=by
 have hi:adQ k l s=some ((qw (fun x=>x==s) l,()),()):=by
  unfold adQ
  refine uf (fun j i=>IC k j l s (l.length:Int) i) l 0 _ (fun j i hi=>?_) (fun j=>?_) k (by omega)
  ·show IC k (j+1) l s (l.length:Int) (i:Int)=_
   rw [VB,QL,Sc (by omega),Qo hi,Mi (by omega),Qp]
   unfold aiA;rfl
  ·show IC k (j+1) l s (l.length:Int) (l.length:Int)=_
   rw [VB,QL,Sd (by omega)]
 unfold alx
 rw [hi,Option.bind_some]
 simp only
 unfold qw
 cases hf:l.findIdx? (fun x=>x==s) with
 | none =>
  simp only
  rw [show ((-1:Int)==-1)=true from rfl,cond_true]
  unfold DK
  rw [List.findIdx?_eq_none_iff] at hf
  rw [List.filter_eq_self.2 (fun x hx=>by rw [hf x hx];rfl)]
 | some n =>
  simp only
  rw [List.findIdx?_eq_some_iff_getElem] at hf
  obtain ⟨hn,h1,h2⟩:=hf
  rw [beq_eq_false_iff_ne.2 (by omega),cond_false,Mi (by omega)]
  have hp:∀ x∈l.take n,(!(x==s))=true:=fun x hx=>by
   obtain ⟨i,hi,e⟩:=List.mem_iff_getElem.1 hx
   rw [List.length_take] at hi
   rw [List.getElem_take] at e
   have:=h2 i (by omega)
   rw [e] at this;simpa using this
  refine YM hl (l.length - (n+1)) (n+1) k n l (by omega) (by omega) rfl (by omega) ?_ rfl
  unfold DK
  rw [List.take_succ_eq_append_getElem hn,List.filter_append,List.filter_eq_self.2 hp,agb,h1]
  simp
theorem acN {l:List Int} (h:∀ x∈l,0 <= x):DK l (-1)=l:=List.filter_eq_self.2 (fun x hx=>by have:=h x hx;rw [beq_eq_false_iff_ne.2 (by omega)];rfl)
structure JS (j:jd):Prop where
 m:j.2.2.2.2.1.2.2.1.length <= 100
 kept:j.2.2.2.2.2.1.2.2.1.length <= 100
 held:j.2.2.2.2.2.2.1.length <= 100
 pos:∀ x∈j.2.2.2.2.2.2.1,0 <= x
def zk (j:jd) (s:Int):jd:=w6 j (DK j.2.2.2.2.2.2.1 s)
theorem YN {k:Nat} (hk:1000 <= k) {j:jd} (h:JS j) (s:Int):agK k j s=some ((zk j s,()),()):=by
 have h1:=h.m
 have h2:=h.kept
 have h3:=h.held
 unfold agK
 rw [acM (by omega),Option.bind_some,acM (by omega),Option.bind_some,UH (by omega),Option.bind_some]
 simp only
 rw [anl hk (by omega),Option.bind_some]
 rfl
theorem UJ {j:jd} (h:JS j):zk j (-1)=j:=by unfold zk;rw [acN h.pos];rfl
theorem ahg {k:Nat} {w:List Int×List Bool} (h1:w.1.length <= 900) (h2:w.2.length <= 900):acf k w (-1)=some ((w,()),()):=by
 unfold acf agL
 rw [UH h1,Option.bind_some,YK h2,Option.bind_some,Option.bind_some]
 rfl
theorem akB {k:Nat} (hk:1000 <= k) {T:Tb} (hT:yu T):JC k T (-1) j6=some ((T,()),()):=by
 rw [J6 hk hT afV];rfl
structure KS (K:je):Prop where
 tasks:p9 K.2.2.1
 bounds:K.2.2.2.1.length <= 900
 jobs:K.2.2.2.2.2.2.2.1.length <= 800
 job:∀ j∈K.2.2.2.2.2.2.2.1,JS j
 tab:yu K.2.2.2.2.2.2.2.2.1
 rows:K.2.2.2.2.2.2.2.2.2.1.length <= 900
 off:K.2.2.2.2.2.2.2.2.2.2.length <= 900
theorem abB {k:Nat} (hk:1000 <= k) {K:je} (h:KS K) {b c:Int} {e f g:Bool}:∀ (m i j:Nat),i+m=K.2.2.2.2.2.2.2.1.length -> m<j ->
  adY k j K b c e f g (K.2.2.2.2.2.2.2.1.length:Int) (i:Int)=some ((K,()),())
 | 0,i,j,hi,hj=>by
  obtain ⟨j,rfl⟩:∃ i,j=i+1:=⟨j - 1,by omega⟩
  rw [adZ,adX,Sd (by omega),akB hk h.tab,Option.bind_some,ahg h.rows h.off,Option.bind_some]
  rfl
 | m+1,i,j,hi,hj=>by
  obtain ⟨j,rfl⟩:∃ i,j=i+1:=⟨j - 1,by omega⟩
  have hi':i<K.2.2.2.2.2.2.2.1.length:=by omega
  have hjs:=h.job _ (jo (z:=ay) hi')
  have hl:=h.jobs
  rw [adZ,adX,Sc (by omega),Qo hi',Qp,YN hk hjs,Option.bind_some,Qo hi',Mj,Mi (by omega)]
  simp only
  rw [UJ hjs,H7]
  exact abB hk h m (i+1) j (by omega) (by omega)
theorem abC {k:Nat} (hk:1000 <= k) {K:je} (h:KS K) {b c:Int} {e f g:Bool}:∀ (m i j:Nat),i+m=K.2.2.1.length -> m<j ->
  ad2 k j K b c e f g (K.2.2.1.length:Int) (i:Int)=some ((K,()),())
 | 0,i,j,hi,hj=>by
  obtain ⟨j,rfl⟩:∃ i,j=i+1:=⟨j - 1,by omega⟩
  have:=h.jobs
  rw [ad3,ad1,Sd (by omega)]
  exact abB hk h K.2.2.2.2.2.2.2.1.length 0 k (by omega) (by omega)
 | m+1,i,j,hi,hj=>by
  obtain ⟨j,rfl⟩:∃ i,j=i+1:=⟨j - 1,by omega⟩
  have hi':i<K.2.2.1.length:=by omega
  have ht:=h.tasks
  have hl:=(ht.2 _ (jo (z:=bg) hi')).1
  have hw:∀ t:iy,w3 t t.2.2.2.1=t /\ w4 t t.2.2.2.2.1=t /\ z5 t t.2.2.2.2.2=t:=fun t=>⟨rfl,rfl,rfl⟩
  have h1:=ht.1
  rw [ad3,ad1,Sc (by omega),Qo hi',Qp,J8 hl.1,Option.bind_some,J8 hl.2.1,Option.bind_some,J8 hl.2.2,Option.bind_some]
  simp only [Mj,(hw _).1,(hw _).2.1,H7,Qo hi',Qp,(hw _).2.2,Mi (show i<9223372036854775807 by omega)]
  exact abC hk h m (i+1) j (by omega) (by omega)
theorem UK {k:Nat} (hk:1000 <= k) {K:je} (h:KS K):S56 k K=some ((K,()),()):=by
 have h1:=h.tasks.1
 have h2:=h.jobs
 unfold S56
 rw [ank (by omega),Option.bind_some,ahf h.bounds,Option.bind_some,apP (by omega),Option.bind_some]
 exact abC hk h K.2.2.1.length 0 k (by omega) (by omega)
def isS (T:Tb) (i:Nat):Bool:=(T.2.getD i j6).1==1
def jv (T:Tb):List Nat:=(List.range T.2.length).filter (isS T)
def qb (l:List Nat):List Int:=l.map Int.ofNat
theorem sj (l:List Nat):(qb l).length=l.length:=by unfold qb;exact List.length_map _
theorem agc {l:List Nat} {i:Nat} (h:i<l.length):rd (qb l) (i:Int) 0=((l.getD i 0:Nat):Int):=by
 rw [Qp,getD_in (by rw [sj];exact h),getD_in h];simp [qb]
theorem EC {T:Tb} {a:Nat}:a∈jv T↔a<T.2.length /\ (T.2.getD a j6).1=1:=by
 unfold jv isS;rw [List.mem_filter,List.mem_range,beq_iff_eq]
theorem wz (T:Tb):(jv T).length <= T.2.length:=by
 have:=List.length_filter_le (isS T) (List.range T.2.length)
 rw [List.length_range] at this;exact this
theorem PX {T T2:Tb} (hl:T2.2.length=T.2.length) (h:∀ i,i<T.2.length -> (T2.2.getD i j6).1=(T.2.getD i j6).1):jv T2=jv T:=by
 unfold jv
 rw [hl]
 exact List.filter_congr (fun i hi=>by unfold isS;rw [h i (List.mem_range.1 hi)])
theorem abD {k:Nat} {T:Tb} (hT:T.2.length <= 100):∀ (m i j:Nat),i+m=T.2.length -> m<j -> XO k j (qb ((List.range i).filter (isS T))) T.2 (T.2.length:Int) (i:Int)=some ((qb (jv T),()),())
 | 0,i,j,hi,hj=>by
  obtain ⟨j,rfl⟩:∃ i,j=i+1:=⟨j - 1,by omega⟩
  rw [aaA,XM,Sd (by omega),show i=T.2.length by omega];rfl
 | m+1,i,j,hi,hj=>by
  obtain ⟨j,rfl⟩:∃ i,j=i+1:=⟨j - 1,by omega⟩
  have ih:=abD (k:=k) hT m (i+1) j (by omega) (by omega)
  rw [List.range_succ,List.filter_append,agb] at ih
  have hn:(qb ((List.range i).filter (isS T))).length <= 100:=by
   have:=List.length_filter_le (isS T) (List.range i)
   rw [List.length_range] at this;rw [sj];omega
  rw [aaA,XM,Sc (by omega),Qo (by omega),Qp,Mi (by omega)]
  unfold isS at ih hn ⊢
  cases hs:(T.2.getD i j6).1==1 with
  | true =>
   rw [hs] at ih
   rw [cond_true,Rz (by simp only [List.length_cons,List.length_nil];omega)]
   simpa [qb] using ih
  | false =>
   rw [hs] at ih
   rw [cond_false]
   simpa [qb] using ih
theorem M7 {k:Nat} (hk:1000 <= k) {T:Tb} (hT:T.2.length <= 100):aaB k T=some ((qb (jv T),()),()):=by
 unfold aaB
 exact abD hT T.2.length 0 k (by omega) (by omega)
def kg (T:Tb):List jg:=(jv T).map (fun i=>(T.2.getD i j6).2.2.1)
theorem J9 (T:Tb):(kg T).length=(jv T).length:=by unfold kg;exact List.length_map _
theorem OD {k:Nat} (hk:1000 <= k) {K:je} (hT:K.2.2.2.2.2.2.2.2.1.2.length <= 100):S48 k K=some ((kg K.2.2.2.2.2.2.2.2.1,()),()):=by
 have hn:=wz K.2.2.2.2.2.2.2.2.1
 unfold S48
 rw [M7 hk hT,Option.bind_some]
 have key:∀ (m i j:Nat),i+m=(jv K.2.2.2.2.2.2.2.2.1).length -> m<j -> ad9 k j K ((kg K.2.2.2.2.2.2.2.2.1).take i) (qb (jv K.2.2.2.2.2.2.2.2.1)) ((qb (jv K.2.2.2.2.2.2.2.2.1)).length:Int) (i:Int)=some ((kg K.2.2.2.2.2.2.2.2.1,()),()):=by
  intro m
  induction m with
  | zero =>
   intro i j hi hj
   obtain ⟨j,rfl⟩:∃ i,j=i+1:=⟨j - 1,by omega⟩
   rw [aea,ad8,Sd (by rw [sj];omega),List.take_of_length_le (by rw [J9];omega)]
  | succ m ih =>
   intro i j hi hj
   obtain ⟨j,rfl⟩:∃ i,j=i+1:=⟨j - 1,by omega⟩
   have hi':i<(jv K.2.2.2.2.2.2.2.2.1).length:=by omega
   have hm:=EC.1 (jo (z:=0) hi')
   rw [aea,ad8,Sc (by rw [sj];omega),Qo (by rw [sj];omega),agc hi',Qo hm.1,Qp,Rz (by simp only [List.length_cons,List.length_nil,List.length_take];omega),Mi (by omega)]
   have e:(kg K.2.2.2.2.2.2.2.2.1).take i++[(K.2.2.2.2.2.2.2.2.1.2.getD ((jv K.2.2.2.2.2.2.2.2.1).getD i 0) bf).2.2.1]=(kg K.2.2.2.2.2.2.2.2.1).take (i+1):=by
    rw [List.take_succ_eq_append_getElem (by rw [J9];exact hi')]
    unfold kg
    rw [List.getElem_map,getD_in hi']
   rw [e]
   exact ih (i+1) j (by omega) (by omega)
 have:=key (jv K.2.2.2.2.2.2.2.2.1).length 0 k (by omega) (by omega)
 rwa [List.take_zero] at this
def setSm (x:Th) (s:jg):Th:=(x.1,x.2.1,s,x.2.2.2)
noncomputable def H8 (k:Nat) (l:List jg) (a i:Nat) (T:Tb):Tb:=if i<l.length /\ (T.2.getD a j6).2.2.1≠l.getD i s0 then KA k T (a:Int) (setSm (T.2.getD a j6) (l.getD i s0)) else T
noncomputable def JV (k:Nat) (l:List jg):List Nat -> Nat -> Tb -> Tb
 | [],_,T=>T
 | a::r,i,T=>JV k l r (i+1) (H8 k l a i T)
noncomputable def M8 (k:Nat) (T:Tb) (l:List jg):Tb:=JV k l (jv T) 0 T
noncomputable def ED (k:Nat) (K:je) (l:List jg):je:=w8 K (M8 k K.2.2.2.2.2.2.2.2.1 l)
theorem aoD {T:Tb} (h:yu T) (a:Nat):Wp (T.2.getD a j6):=by
 by_cases ha:a<T.2.length
 ·exact h.2 _ (jo ha)
 ·rw [LM (by omega)];exact afV
theorem abE {k:Nat} {l:List jg} {a i:Nat} {T:Tb} (h:yu T) (ha:a<T.2.length):yu (H8 k l a i T) /\ (H8 k l a i T).2.length=T.2.length /\ (H8 k l a i T).1=T.1 /\
  ∀ b,((H8 k l a i T).2.getD b j6).1=(T.2.getD b j6).1 /\ (b≠a -> (H8 k l a i T).2.getD b j6=T.2.getD b j6):=by
 unfold H8
 split
 ·refine ⟨U5 h (aoD h a),am1,by unfold KA;split <;> rfl,fun b=>?_⟩
  rw [am0 ha]
  split
  ·rename_i q
   refine ⟨?_,fun e=>absurd q.1.symm e⟩
   rw [<- q.1];unfold aha zy;split <;> rfl
  ·exact ⟨rfl,fun _=>rfl⟩
 ·exact ⟨h,rfl,rfl,fun b=>⟨rfl,fun _=>rfl⟩⟩
theorem M9 {R:Type} {k:Nat} (hk:1000 <= k) {l:List jg} (hl:l.length <= 900) {L:Nat -> je -> Int -> Option R} {fin:je -> Option R} {c:List Nat} (hc:c.length <= 100)
  (hs:∀ j K (i:Nat),i<c.length -> L (j+1) K (i:Int)=ix (qb c) (i:Int) (ix K.2.2.2.2.2.2.2.2.1.2 (rd (qb c) (i:Int) 0) (bif decide ((i:Int)<(l.length:Int)) then ix l (i:Int) (bif !(fC HT (rd K.2.2.2.2.2.2.2.2.1.2 (rd (qb c) (i:Int) 0) bf).2.2.1 (rd l (i:Int) (0,0))) then ix l (i:Int) ((JC k K.2.2.2.2.2.2.2.2.1 (rd (qb c) (i:Int) 0) ((rd K.2.2.2.2.2.2.2.2.1.2 (rd (qb c) (i:Int) 0) bf).1,(rd K.2.2.2.2.2.2.2.2.1.2 (rd (qb c) (i:Int) 0) bf).2.1,rd l (i:Int) (0,0),(rd K.2.2.2.2.2.2.2.2.1.2 (rd (qb c) (i:Int) 0) bf).2.2.2)).bind fun q=>L j (w8 K q.1.1) (IntKind.i64.wrap ((i:Int)+1))) else L j K (IntKind.i64.wrap ((i:Int)+1))) else L j K (IntKind.i64.wrap ((i:Int)+1)))))
  (he:∀ j K,L (j+1) K (c.length:Int)=fin K):∀ (m i j:Nat) (K:je),i+m=c.length -> m<j -> yu K.2.2.2.2.2.2.2.2.1 -> (∀ a∈c,a<K.2.2.2.2.2.2.2.2.1.2.length) ->
  L j K (i:Int)=fin (w8 K (JV k l (c.drop i) i K.2.2.2.2.2.2.2.2.1))
 | 0,i,j,K,hi,hj,hT,ha=>by
  obtain ⟨j,rfl⟩:∃ i,j=i+1:=⟨j - 1,by omega⟩
  rw [show i=c.length by omega,he,List.drop_length];rfl
 | m+1,i,j,K,hi,hj,hT,ha=>by
  obtain ⟨j,rfl⟩:∃ i,j=i+1:=⟨j - 1,by omega⟩
  have hi':i<c.length:=by omega
  have hac:=ha _ (jo (z:=0) hi')
  have h1:=abE (k:=k) (l:=l) (i:=i) hT hac
  have ih:=M9 hk hl hc hs he m (i+1) j (w8 K (H8 k l (c.getD i 0) i K.2.2.2.2.2.2.2.2.1)) (by omega) (by omega) h1.1 (fun a h=>by show a<(H8 _ _ _ _ _).2.length;rw [h1.2.1];exact ha a h)
  rw [hs j K i hi',Qo (by rw [sj];exact hi'),agc hi',Qo hac,Mi (by omega),Qp,drop_cons 0 hi',JV]
  refine Eq.trans ?_ ih
  unfold H8
  by_cases q:i<l.length
  ·rw [Sc (by omega),Qo q,Qo q,Qp]
   by_cases q2:(K.2.2.2.2.2.2.2.2.1.2.getD (c.getD i 0) j6).2.2.1=l.getD i s0
   ·rw [if_neg (fun h=>h.2 q2),show fC HT (K.2.2.2.2.2.2.2.2.1.2.getD (c.getD i 0) bf).2.2.1 (l.getD i (0,0))=true from (M0 _ _).2 q2]
    rfl
   ·rw [if_pos ⟨q,q2⟩,show fC HT (K.2.2.2.2.2.2.2.2.1.2.getD (c.getD i 0) bf).2.2.1 (l.getD i (0,0))=false from by rw [Bool.eq_false_iff];exact fun h=>q2 ((M0 _ _).1 h)]
    simp only [Bool.not_false,cond_true]
    have e:=J6 hk (i:=((c.getD i 0:Nat):Int)) (x:=setSm (K.2.2.2.2.2.2.2.2.1.2.getD (c.getD i 0) j6) (l.getD i s0)) hT (aoD hT _)
    refine (congrArg (fun x=>Option.bind x _) e).trans ?_
    rfl
  ·rw [Sd (by omega),if_neg (fun h=>q h.1)];rfl
theorem apQ {k:Nat} (hk:1000 <= k) {K:je} (hT:yu K.2.2.2.2.2.2.2.2.1) {l:List jg} (hl:l.length <= 900):S61 k K l=some ((),RP (ED k K l),()):=by
 have hn:=wz K.2.2.2.2.2.2.2.2.1
 have h3:=hT.1.2.2
 unfold S61
 rw [M7 hk h3,Option.bind_some]
 exact M9 hk hl (c:=jv K.2.2.2.2.2.2.2.2.1) (L:=fun j K' i=>VF k j K' l (qb (jv K.2.2.2.2.2.2.2.2.1)) ((qb (jv K.2.2.2.2.2.2.2.2.1)).length:Int) i) (fin:=fun K'=>some ((),RP K',())) (by omega)
  (fun j K' i hi=>by
   show VF k (j+1) K' l _ _ (i:Int)=_
   rw [aee,aed,Sc (by rw [sj];omega)])
  (fun j K'=>by
   show VF k (j+1) K' l _ _ _=_
   rw [aee,aed,Sd (by rw [sj];omega)])
  (jv K.2.2.2.2.2.2.2.2.1).length 0 k K (by omega) (by omega) hT (fun a h=>(EC.1 h).1)
theorem anm {k:Nat} (hk:1000 <= k) {u:je×List jf} (hT:yu u.1.2.2.2.2.2.2.2.2.1) {l:List jg} (hl:l.length <= 900):alK k u l=some ((),zu (ED k u.1 l,u.2),()):=by
 obtain ⟨K,ev⟩:=u
 have hn:=wz K.2.2.2.2.2.2.2.2.1
 have h3:K.2.2.2.2.2.2.2.2.1.2.length <= 100:=hT.1.2.2
 unfold alK
 rw [M7 hk h3,Option.bind_some]
 exact M9 hk hl (c:=jv K.2.2.2.2.2.2.2.2.1) (L:=fun j K' i=>ND k j (K',ev) l (qb (jv K.2.2.2.2.2.2.2.2.1)) ((qb (jv K.2.2.2.2.2.2.2.2.1)).length:Int) i) (fin:=fun K'=>some ((),zu (K',ev),())) (by omega)
  (fun j K' i hi=>by
   show ND k (j+1) (K',ev) l _ _ (i:Int)=_
   rw [aaP,Y3,Sc (by rw [sj];omega)])
  (fun j K'=>by
   show ND k (j+1) (K',ev) l _ _ _=_
   rw [aaP,Y3,Sd (by rw [sj];omega)])
  (jv K.2.2.2.2.2.2.2.2.1).length 0 k K (by omega) (by omega) hT (fun a h=>(EC.1 h).1)
theorem YO {k:Nat} (hk:1000 <= k) {u:je×List jf} (hT:yu u.1.2.2.2.2.2.2.2.2.1) {l:List jg} (hl:l.length <= 900):agV k u l=some ((),zu (ED k u.1 l,u.2),()):=by
 obtain ⟨K,ev⟩:=u
 have hn:=wz K.2.2.2.2.2.2.2.2.1
 have h3:K.2.2.2.2.2.2.2.2.1.2.length <= 100:=hT.1.2.2
 unfold agV
 rw [M7 hk h3,Option.bind_some]
 exact M9 hk hl (c:=jv K.2.2.2.2.2.2.2.2.1) (L:=fun j K' i=>NJ k j (K',ev) l (qb (jv K.2.2.2.2.2.2.2.2.1)) ((qb (jv K.2.2.2.2.2.2.2.2.1)).length:Int) i) (fin:=fun K'=>some ((),zu (K',ev),())) (by omega)
  (fun j K' i hi=>by
   show NJ k (j+1) (K',ev) l _ _ (i:Int)=_
   rw [aaW,Yb,Sc (by rw [sj];omega)])
  (fun j K'=>by
   show NJ k (j+1) (K',ev) l _ _ _=_
   rw [aaW,Yb,Sd (by rw [sj];omega)])
  (jv K.2.2.2.2.2.2.2.2.1).length 0 k K (by omega) (by omega) hT (fun a h=>(EC.1 h).1)
abbrev jh:Type:=je×List jf
def j5 (u:jh) (e:jf):jh:=(u.1,u.2++[(u.1.1,e.2)])
theorem RG {k:Nat} {u:jh} (he:u.2.length <= 1000000) (e:jf):acp k u e=some ((),zu (j5 u e),()):=by
 unfold acp;rw [Rz (by simp only [List.length_cons,List.length_nil];omega)];rfl
theorem CX {k:Nat} {u:jh} (he:u.2.length <= 1000000) (e:jf):JO k u e=some ((),zu (j5 u e),()):=by
 unfold JO;rw [Rz (by simp only [List.length_cons,List.length_nil];omega)];rfl
def holdsV (l:List jg) (s t:Int):Bool:=decide (0 <= s)&&(decide (s<(l.length:Int))&&(decide (0 <= t)&&(rd l s s0).2==t+1))
theorem YP {k:Nat} {l:List jg} {s t:Int} (ht:t <= 1000):agQ k l s t=some ((holdsV l s t,()),()):=by
 unfold agQ ajm holdsV
 by_cases h1:s≥0
 ·rw [Sc h1,Option.bind_some,decide_eq_true (show 0 <= s from h1)]
  by_cases h2:s<(l.length:Int)
  ·rw [decide_eq_true h2]
   by_cases h3:t≥0
   ·simp only [cond_true]
    rw [Sc h3,Lj h1 h2,decide_eq_true (show 0 <= t from h3),Uu (by omega) (by omega)];rfl
   ·simp only [cond_true]
    rw [Sd h3,decide_eq_false (show ¬ 0 <= t from h3)];rfl
  ·rw [decide_eq_false h2];rfl
 ·rw [Sd h1,Option.bind_some,decide_eq_false (show ¬ 0 <= s from h1)];rfl
def acO (t:Int) (s:jg):jg:=bif decide (0 <= t)&&s.2==t+1 then (s.1,0) else s
def MB (l:List jg) (t:Int):List jg:=l.map (acO t)
theorem MC {α:Type} {f:α -> α} {l:List α} {i:Nat} (z:α) (h:i<l.length):((l.take i).map f++l.drop i).set i (f (l.getD i z))=(l.take (i+1)).map f++l.drop (i+1):=by
 have e:i - ((l.take i).map f).length=0:=by simp;omega
 rw [List.set_append_right _ _ (by simp;omega),e,drop_cons z h,List.set_cons_zero,List.take_succ_eq_append_getElem h,List.map_append,List.append_assoc,getD_in h]
 rfl
theorem RH {α:Type} {f:α -> α} {l:List α} {i:Nat} (z:α) (h:i<l.length):((l.take i).map f++l.drop i).getD i z=l.getD i z:=by
 have e:i - ((l.take i).map f).length=0:=by simp;omega
 rw [lu (by simp;omega),e,drop_cons z h]
 rfl
theorem YQ {α:Type} {f:α -> α} {l:List α} {i:Nat} (h:i <= l.length):((l.take i).map f++l.drop i).length=l.length:=by simp;omega
theorem UL {α:Type} {f:α -> α} {l:List α} {i:Nat} (z:α) (h:i<l.length) (e:f (l.getD i z)=l.getD i z):(l.take i).map f++l.drop i=(l.take (i+1)).map f++l.drop (i+1):=by
 rw [<- MC z h,e]
 have:=H7 (l:=(l.take i).map f++l.drop i) (n:=i) (z:=z)
 rw [RH z h] at this;exact this.symm
theorem agd {k:Nat} (hk:1000 <= k) {l:List jg} (hl:l.length <= 900) {t:Int} (ht:t <= 1000):agR k l t=some ((MB l t,()),()):=by
 have key:∀ (m i j:Nat),i+m=l.length -> m<j -> Y2 k j l t ((l.take i).map (acO t)++l.drop i) (l.length:Int) (i:Int)=some ((MB l t,()),()):=by
  intro m
  induction m with
  | zero =>
   intro i j hi hj
   obtain ⟨j,rfl⟩:∃ i,j=i+1:=⟨j - 1,by omega⟩
   rw [aaO,Y1,Sd (by omega),drop_nil (by omega),List.take_of_length_le (by omega),List.append_nil];rfl
  | succ m ih =>
   intro i j hi hj
   obtain ⟨j,rfl⟩:∃ i,j=i+1:=⟨j - 1,by omega⟩
   have hi':i<l.length:=by omega
   have ih:=ih (i+1) j (by omega) (by omega)
   have hv:holdsV l (i:Int) t=(decide (0 <= t)&&(l.getD i s0).2==t+1):=by
    unfold holdsV
    rw [decide_eq_true (show (0:Int) <= (i:Int) by omega),decide_eq_true (show (i:Int)<(l.length:Int) by omega),Qp];rfl
   rw [aaO,Y1,Sc (by omega),YP ht,Option.bind_some,Mi (by omega),hv]
   simp only
   cases hb:decide (0 <= t)&&(l.getD i s0).2==t+1 with
   | true =>
    rw [cond_true,Qo (by rw [YQ (by omega)];exact hi'),Mj,Qp,RH s0 hi',show ((l.getD i s0).1,(0:Int))=acO t (l.getD i s0) by unfold acO;rw [hb];rfl,MC s0 hi']
    exact ih
   | false =>
    rw [cond_false,UL s0 hi' (by unfold acO;rw [hb];rfl)]
    exact ih
 unfold agR
 rw [YL hl,Option.bind_some]
 exact key l.length 0 k (by omega) (by omega)
theorem YR (l:List jg) (t:Int):(MB l t).length=l.length:=List.length_map _
def zl (rows:List Int) (off:List Bool) (n:Nat):(List Int×List Bool)×Bool×Bool :=
 bif (IntKind.i64.wrap (rows.getD n 0+1) != 2)||off.getD n false then ((rows.set n (IntKind.i64.wrap (rows.getD n 0+1)),off),false,false)
 else ((rows.set n (IntKind.i64.wrap (rows.getD n 0+1)),off.set n true),true,!(off.set n true).any (fun b=>b==false))
theorem ano {k:Nat} (hk:1000 <= k) {w:List Int×List Bool} {n:Nat} (h1:n<w.1.length) (h2:n<w.2.length) (h3:w.1.length <= 900) (h4:w.2.length <= 900) :
  alL k w (n:Int)=some (((zl w.1 w.2 n).1,(zl w.1 w.2 n).2.1,(zl w.1 w.2 n).2.2,()),()):=by
 obtain ⟨rows,off⟩:=w
 simp only at h1 h2 h3 h4
 unfold alL agL apk
 rw [UH h3,Option.bind_some,YK h4,Option.bind_some,Option.bind_some,Sc (by omega),Option.bind_some]
 simp only
 rw [decide_eq_true (show (n:Int)<mn (rows.length:Int) (off.length:Int) by rw [Sg];omega)]
 simp only [Bool.not_true,cond_false]
 have hs:∀ v:Int,n<(rows.set n v).length:=fun v=>by rw [List.length_set];exact h1
 rw [Qo h1,Qo h1,Qp,Mj,Qo (hs _),Qp,ng,if_pos ⟨rfl,h1⟩,Qo h2,Qp]
 unfold zl
 cases hb:(IntKind.i64.wrap (rows.getD n 0+1) != 2) with
 | true=>rfl
 | false =>
  rw [Bool.false_or,cond_false]
  cases off.getD n false with
  | true=>rfl
  | false =>
   rw [cond_false,cond_false,Qo h2,Mj]
   unfold apl
   rw [afU hk (by rw [List.length_set];exact h4)]
   simp only [Option.bind_some,DN]
theorem ahh (rows:List Int) (off:List Bool) (n:Nat):(zl rows off n).1.1.length=rows.length /\ (zl rows off n).1.2.length=off.length:=by
 unfold zl
 cases (IntKind.i64.wrap (rows.getD n 0+1) != 2)||off.getD n false <;> simp
def abF (now t:Int) (b:Bool×Bool):List jf:=[(now,5,t,0,0,0)]++((bif b.1 then [(now,9,t,0,0,0)] else [])++(bif b.2 then [(now,10,0,0,0,0)] else []))
theorem ahi (now t:Int) (b:Bool×Bool):(abF now t b).length <= 3:=by
 obtain ⟨a,b⟩:=b
 unfold abF
 cases a <;> cases b <;> simp
noncomputable def EF (k:Nat) (u:jh) (j:jd):jh :=
 let K:=ED k u.1 (MB (kg u.1.2.2.2.2.2.2.2.2.1) j.1)
 let m:=zl u.1.2.2.2.2.2.2.2.2.2.1 u.1.2.2.2.2.2.2.2.2.2.2 j.1.toNat
 ((bif m.2.2 then w5 (z9 K m.1) true else z9 K m.1),u.2++abF u.1.1 j.1 m.2)
theorem anp {k:Nat} (hk:1000 <= k) {u:jh} {j:jd} {n:Nat} (hn:j.1=(n:Int)) (he:u.2.length <= 900000) (hT:yu u.1.2.2.2.2.2.2.2.2.1) (h1:n<u.1.2.2.2.2.2.2.2.2.2.1.length) (h2:n<u.1.2.2.2.2.2.2.2.2.2.2.length) (h3:u.1.2.2.2.2.2.2.2.2.2.1.length <= 900) (h4:u.1.2.2.2.2.2.2.2.2.2.2.length <= 900) :
  alN k u j=some ((),zu (EF k u j),()):=by
 have hle:=hT.1.2.2
 have hsl:=wz u.1.2.2.2.2.2.2.2.2.1
 have hll:=J9 u.1.2.2.2.2.2.2.2.2.1
 unfold alN
 rw [RG (by omega),Option.bind_some]
 simp only [Z7]
 have e1:S48 k (j5 u (0,5,j.1,0,0,0)).1=_:=OD hk hle
 rw [e1,Option.bind_some]
 simp only
 have e2:agR k (kg (j5 u (0,5,j.1,0,0,0)).1.2.2.2.2.2.2.2.2.1) j.1=_:=agd hk (by show (kg u.1.2.2.2.2.2.2.2.2.1).length <= 900;omega) (by omega)
 rw [e2,Option.bind_some]
 simp only
 rw [anm hk (u:=j5 u (0,5,j.1,0,0,0)) hT (by rw [YR];show (kg u.1.2.2.2.2.2.2.2.2.1).length <= 900;omega),Option.bind_some]
 simp only [Z7]
 have e3:=ano (w:=u.1.2.2.2.2.2.2.2.2.2) hk h1 h2 h3 h4
 rw [<- hn] at e3
 refine (congrArg (fun x=>Option.bind x _) e3).trans ?_
 rw [Option.bind_some]
 have fin:∀ (K:je) (ev:List jf) (b:Bool),ev.length <= 999000 -> TB k (K,ev) b=some ((),zu ((bif b then w5 K true else K),ev++(bif b then [(K.1,10,0,0,0,0)] else [])),()):=fun K ev b hb=>by
  unfold TB
  cases b with
  | false=>simp
  | true =>
   rw [cond_true,RG (by show ev.length <= _;omega),Option.bind_some]
   simp only [Z7]
   rfl
 unfold EF abF
 rw [show j.1.toNat=n by omega]
 simp only
 cases (zl u.1.2.2.2.2.2.2.2.2.2.1 u.1.2.2.2.2.2.2.2.2.2.2 n).2.1 with
 | true =>
  rw [cond_true,RG (by show (u.2++[_]).length <= _;simp;omega),Option.bind_some]
  simp only [Z7]
  unfold j5
  rw [fin _ _ _ (by simp;omega)]
  simp only [cond_true,List.append_assoc]
  rfl
 | false =>
  rw [cond_false]
  unfold j5
  rw [fin _ _ _ (by simp;omega)]
  simp only [cond_false,List.append_assoc,List.nil_append]
  rfl
noncomputable def BO (k:Nat) (s:jh×List jd) (j:jd):jh×List jd :=
 bif IntKind.i64.wrap (s.1.1.1 - j.2.1) != (s.1.1.2.2.1.getD j.1.toNat bg).2.2.1 then (s.1,s.2++[j])
 else bif j.2.2.2.1==2 then (j5 s.1 (0,13,j.1,0,0,0),s.2) else (EF k s.1 j,s.2)
def chg (K:je) (h:Bool) (T:Tb) (w:List Int×List Bool):je:=w5 (w8 (z9 K w) T) h
def UI (K:je) (u:jh):Prop:=∃ h T w,u.1=chg K h T w /\ yu T /\ T.2.length=K.2.2.2.2.2.2.2.2.1.2.length /\ jv T=jv K.2.2.2.2.2.2.2.2.1 /\ w.1.length=K.2.2.2.2.2.2.2.2.2.1.length /\ w.2.length=K.2.2.2.2.2.2.2.2.2.2.length
theorem abG {k:Nat} {l:List jg}:∀ (c:List Nat) (i:Nat) (T:Tb),yu T -> (∀ a∈c,a<T.2.length) -> yu (JV k l c i T) /\ (JV k l c i T).2.length=T.2.length /\ (JV k l c i T).1=T.1 /\
  ∀ b,((JV k l c i T).2.getD b j6).1=(T.2.getD b j6).1 /\ (b ∉ c -> (JV k l c i T).2.getD b j6=T.2.getD b j6)
 | [],i,T,h,ha=>⟨h,rfl,rfl,fun b=>⟨rfl,fun _=>rfl⟩⟩
 | a::c,i,T,h,ha=>by
  obtain ⟨h1,h2,h3,h4⟩:=abE (k:=k) (l:=l) (i:=i) h (ha a (by simp))
  obtain ⟨g1,g2,g3,g4⟩:=abG (k:=k) (l:=l) c (i+1) (H8 k l a i T) h1 (fun b hb=>by rw [h2];exact ha b (by simp [hb]))
  rw [JV]
  refine ⟨g1,g2.trans h2,g3.trans h3,fun b=>⟨(g4 b).1.trans (h4 b).1,fun hb=>?_⟩⟩
  rw [List.mem_cons,not_or] at hb
  exact ((g4 b).2 hb.2).trans ((h4 b).2 hb.1)
theorem UM {k:Nat} {T:Tb} (h:yu T) (l:List jg):yu (M8 k T l) /\ (M8 k T l).2.length=T.2.length /\ jv (M8 k T l)=jv T /\ (M8 k T l).1=T.1 /\
  ∀ b,((M8 k T l).2.getD b j6).1=(T.2.getD b j6).1 /\ (b ∉ jv T -> (M8 k T l).2.getD b j6=T.2.getD b j6):=by
 obtain ⟨h1,h2,h3,h4⟩:=abG (k:=k) (l:=l) (jv T) 0 T h (fun a ha=>(EC.1 ha).1)
 exact ⟨h1,h2,PX h2 (fun i _=>(h4 i).1),h3,h4⟩
theorem UI.start {K:je} (h:yu K.2.2.2.2.2.2.2.2.1) (ev:List jf):UI K (K,ev):=⟨_,_,_,rfl,h,rfl,rfl,rfl,rfl⟩
theorem UI.miss {K:je} {u:jh} (h:UI K u) {k:Nat} (j:jd):UI K (EF k u j):=by
 obtain ⟨a,T,w,e,h1,h2,h3,h4,h5⟩:=h
 obtain ⟨ku,ev⟩:=u
 simp only at e
 subst e
 obtain ⟨g1,g2,g3,g4,_⟩:=UM (k:=k) h1 (MB (kg T) j.1)
 have hw:=ahh w.1 w.2 j.1.toNat
 unfold EF
 simp only
 show UI K ((bif (zl w.1 w.2 j.1.toNat).2.2 then _ else _),_)
 cases (zl w.1 w.2 j.1.toNat).2.2 with
 | true=>exact ⟨true,M8 k T (MB (kg T) j.1),(zl w.1 w.2 j.1.toNat).1,rfl,g1,g2.trans h2,g3.trans h3,hw.1.trans h4,hw.2.trans h5⟩
 | false=>exact ⟨a,M8 k T (MB (kg T) j.1),(zl w.1 w.2 j.1.toNat).1,rfl,g1,g2.trans h2,g3.trans h3,hw.1.trans h4,hw.2.trans h5⟩
theorem UI.tell {K:je} {u:jh} (h:UI K u) (e:jf):UI K (j5 u e):=h
theorem UI.end_ {K:je} {s:jh×List jd} (h:UI K s.1) {k:Nat} (j:jd):UI K (BO k s j).1 /\ (BO k s j).1.2.length <= s.1.2.length+3 /\ (BO k s j).2.length <= s.2.length+1:=by
 unfold BO
 cases IntKind.i64.wrap (s.1.1.1 - j.2.1) != (s.1.1.2.2.1.getD j.1.toNat bg).2.2.1 with
 | true=>exact ⟨h,by simp,by simp⟩
 | false =>
  rw [cond_false]
  cases j.2.2.2.1==2 with
  | true=>exact ⟨h.tell _,by simp [j5],by simp⟩
  | false =>
   refine ⟨h.miss j,?_,by simp⟩
   simp only [cond_false]
   unfold EF
   have:=ahi s.1.1.1 j.1 (zl s.1.1.2.2.2.2.2.2.2.2.2.1 s.1.1.2.2.2.2.2.2.2.2.2.2 j.1.toNat).2
   simp only [List.length_append];omega
noncomputable def qc (k:Nat) (u:jh):jh:=let s:=u.1.2.2.2.2.2.2.2.1.foldl (BO k) (u,[]);(w7 s.1.1 s.2,s.1.2)
structure JI (K:je):Prop where
 ks:KS K
 bnd:K.2.2.2.1.length=K.2.2.1.length
 row:K.2.2.2.2.2.2.2.2.2.1.length=K.2.2.1.length
 of:K.2.2.2.2.2.2.2.2.2.2.length=K.2.2.1.length
 task:∀ j∈K.2.2.2.2.2.2.2.1,0 <= j.1 /\ j.1<(K.2.2.1.length:Int)
theorem apR {k:Nat} (hk:1000 <= k) {K:je} (h:JI K):S78 k (K,[])=some ((),zu (qc k (K,[])),()):=by
 have hjl:=h.ks.jobs
 have htl:=h.ks.tasks.1
 have key:∀ (m i j:Nat) (s:jh×List jd),i+m=K.2.2.2.2.2.2.2.1.length -> m<j -> UI K s.1 -> s.1.2.length <= 3 * i -> s.2.length <= i ->
   aeL k j s.1 s.2 K.2.2.2.2.2.2.2.1 (K.2.2.2.2.2.2.2.1.length:Int) (i:Int)=some ((),zu (w7 ((K.2.2.2.2.2.2.2.1.drop i).foldl (BO k) s).1.1 ((K.2.2.2.2.2.2.2.1.drop i).foldl (BO k) s).2,((K.2.2.2.2.2.2.2.1.drop i).foldl (BO k) s).1.2),()):=by
  intro m
  induction m with
  | zero =>
   intro i j s hi hj hu h1 h2
   obtain ⟨j,rfl⟩:∃ i,j=i+1:=⟨j - 1,by omega⟩
   rw [aeM,aeK,Sd (by omega),drop_nil (by omega)];rfl
  | succ m ih =>
   intro i j s hi hj hu h1 h2
   obtain ⟨j,rfl⟩:∃ i,j=i+1:=⟨j - 1,by omega⟩
   have hi':i<K.2.2.2.2.2.2.2.1.length:=by omega
   have hb:=h.task _ (jo (z:=ay) hi')
   obtain ⟨g1,g2,g3⟩:=hu.end_ (k:=k) (K.2.2.2.2.2.2.2.1.getD i ay)
   have ih:=ih (i+1) j (BO k s (K.2.2.2.2.2.2.2.1.getD i ay)) (by omega) (by omega) g1 (by omega) (by omega)
   obtain ⟨a,T,w,e,q1,q2,q3,q4,q5⟩:=hu
   have ets:s.1.1.2.2.1=K.2.2.1:=by rw [e];rfl
   obtain ⟨n,hn⟩:∃ n:Nat,(K.2.2.2.2.2.2.2.1.getD i ay).1=(n:Int):=⟨(K.2.2.2.2.2.2.2.1.getD i ay).1.toNat,by omega⟩
   have hb2:n<K.2.2.1.length:=by omega
   rw [aeM,aeK,Sc (by omega),Qo hi',Qp,drop_cons ay hi',List.foldl_cons,Mi (by omega)]
   generalize K.2.2.2.2.2.2.2.1.getD i ay=x at hb ih hn ⊢
   refine Eq.trans ?_ ih
   rw [hn,Qo (by rw [ets];exact hb2),Qp,<- hn]
   unfold BO
   rw [show x.1.toNat=n by omega]
   cases IntKind.i64.wrap (s.1.1.1 - x.2.1) != (s.1.1.2.2.1.getD n bg).2.2.1 with
   | true=>rw [cond_true,cond_true,Rz (by simp only [List.length_cons,List.length_nil];omega)]
   | false =>
    rw [cond_false,cond_false]
    cases x.2.2.2.1==2 with
    | true=>rw [cond_true,cond_true,RG (by omega),Option.bind_some];rfl
    | false =>
     have hr:=h.row
     have ho:=h.of
     rw [cond_false,cond_false,anp hk hn (by omega) (by rw [e];exact q1) (by rw [e];show n<w.1.length;omega) (by rw [e];show n<w.2.length;omega) (by rw [e];show w.1.length <= 900;omega) (by rw [e];show w.2.length <= 900;omega),Option.bind_some];rfl
 unfold S78
 exact key K.2.2.2.2.2.2.2.1.length 0 k ((K,[]),[]) (by omega) (by omega) (UI.start h.ks.tab []) (by simp) (by simp)
def uy (now:Int) (bs:List WC) (j:jd):jd :=
 bif j.2.2.2.1 != 2 then (bif decide (IntKind.i64.wrap (now - j.2.1)≥(bs.getD j.1.toNat bd0).2.2.2.2) then z7 j true else j) else j
def BI (u:jh):jh:=(w7 u.1 (u.1.2.2.2.2.2.2.2.1.map (uy u.1.1 u.1.2.2.2.1)),u.2)
theorem apS {k:Nat} (hk:1000 <= k) {u:jh} (hl:u.1.2.2.2.2.2.2.2.1.length <= 800) (hjs:∀ j∈u.1.2.2.2.2.2.2.2.1,0 <= j.1 /\ j.1<(u.1.2.2.2.1.length:Int)):S79 k u=some ((),zu (BI u),()):=by
 obtain ⟨⟨now,ap,ts,bs,ru,ha,hi,js,T,w⟩,ev⟩:=u
 simp only at hl hjs
 have key:∀ (m i j:Nat),i+m=js.length -> m<j ->
   aeO k j ((now,ap,ts,bs,ru,ha,hi,(js.take i).map (uy now bs)++js.drop i,T,w),ev) (js.length:Int) (i:Int)=some ((),zu ((now,ap,ts,bs,ru,ha,hi,js.map (uy now bs),T,w),ev),()):=by
  intro m
  induction m with
  | zero =>
   intro i j hi hj
   obtain ⟨j,rfl⟩:∃ i,j=i+1:=⟨j - 1,by omega⟩
   rw [aeP,aeN,Sd (by omega),drop_nil (by omega),List.take_of_length_le (by omega),List.append_nil]
  | succ m ih =>
   intro i j hi2 hj
   obtain ⟨j,rfl⟩:∃ i,j=i+1:=⟨j - 1,by omega⟩
   have hi':i<js.length:=by omega
   have hb:=hjs _ (jo (z:=ay) hi')
   have ih:=ih (i+1) j (by omega) (by omega)
   obtain ⟨n,hn⟩:∃ n:Nat,(js.getD i ay).1=(n:Int):=⟨(js.getD i ay).1.toNat,by omega⟩
   have hlen:i<((js.take i).map (uy now bs)++js.drop i).length:=by rw [YQ (by omega)];exact hi'
   rw [aeP,aeN,Sc (by omega)]
   simp only
   rw [Qo hlen,Qp,RH ay hi',hn,Qo (by omega),Qp,Mi (by omega)]
   cases hp:(js.getD i ay).2.2.2.1 != 2 with
   | false=>rw [cond_false,UL ay hi' (by unfold uy;rw [hp];rfl)];exact ih
   | true =>
    rw [cond_true]
    by_cases hq:IntKind.i64.wrap (now - (js.getD i ay).2.1)≥(bs.getD n bd0).2.2.2.2
    ·rw [Sc hq,Qo hlen,Mj,show z7 (js.getD i ay) true=uy now bs (js.getD i ay) by unfold uy;rw [hp,cond_true,Sc (by rw [hn];exact hq)],MC ay hi'];exact ih
    ·rw [Sd hq,UL ay hi' (by unfold uy;rw [hp,cond_true,Sd (by rw [hn];exact hq)])];exact ih
 unfold S79
 exact key js.length 0 k (by omega) (by omega)
noncomputable def uq (k:Nat) (T:Tb):List Th×List Int×List (List Int):=Z8 k T.2 T.2.length 0 (T.2,[],[])
def ME (u:jh) (c:Int):jh:=j5 u (0,12,0,c,0,15)
def abH (u:jh) (a:Int) (w:List Int):jh :=
 let v:=w.foldl ME (j5 u (0,11,0,a,0,0))
 let s:=qw (fun x=>a==x) (qb (jv u.1.2.2.2.2.2.2.2.2.1))
 bif decide (s≥0) then (w7 v.1 (v.1.2.2.2.2.2.2.2.1.map fun j=>zk j s),v.2) else v
def KH:List Int -> List (List Int) -> jh -> jh
 | a::l,w,u=>KH l w.tail (abH u a (w.headD []))
 | [],_,u=>u
noncomputable def abI (k:Nat) (u:jh):jh:=KH (uq k u.1.2.2.2.2.2.2.2.2.1).2.1 (uq k u.1.2.2.2.2.2.2.2.2.1).2.2 (w8 u.1 (u.1.2.2.2.2.2.2.2.2.1.1,(uq k u.1.2.2.2.2.2.2.2.2.1).1),u.2)
theorem ahj (w:List Int):∀ u:jh,(w.foldl ME u).1=u.1 /\ (w.foldl ME u).2.length=u.2.length+w.length:=by
 induction w with
 | nil=>intro u;exact ⟨rfl,rfl⟩
 | cons c w ih=>intro u;rw [List.foldl_cons];obtain ⟨a,b⟩:=ih (ME u c);exact ⟨a,by rw [b];simp [ME,j5];omega⟩
theorem WK {j:jd} (h:JS j) (s:Int):JS (zk j s):=by
 have hl:=List.length_filter_le (fun x=>!(x==s)) j.2.2.2.2.2.2.1
 exact ⟨h.m,h.kept,by have:=h.held;show (DK _ _).length <= 100;unfold DK;omega,fun x hx=>h.pos x (List.mem_filter.1 hx).1⟩
theorem agf {k:Nat} (hk:1000 <= k) {g3:jh -> List (List Int) -> List Int -> Int -> Int -> Option (Unit×(Int×Int×List iy×List WC×Bool×Bool×Bool×List jd×List Int×List Bool×List Th×List Int×List Bool×List jf×Unit)×Unit)} {now ap:Int} {ts:List iy} {bs:List WC} {ru ha hi:Bool} {js:List jd} {T:Tb} {w:List Int×List Bool} {ev:List jf} {b:List (List Int)} {s:Int} {e:List Int} {f h:Int} (hl:js.length <= 800) (hj:∀ j∈js,JS j):∀ (m i j:Nat),i+m=js.length -> m<j ->
  Y6 k g3 j ((now,ap,ts,bs,ru,ha,hi,(js.take i).map (fun j=>zk j s)++js.drop i,T,w),ev) b s e f h (js.length:Int) (i:Int)=g3 ((now,ap,ts,bs,ru,ha,hi,js.map (fun j=>zk j s),T,w),ev) b e f (IntKind.i64.wrap (h+1))
 | 0,i,j,hi,hj=>by
  obtain ⟨j,rfl⟩:∃ i,j=i+1:=⟨j - 1,by omega⟩
  rw [aaR,Y5,Sd (by omega),drop_nil (by omega),List.take_of_length_le (by omega),List.append_nil]
 | m+1,i,j,hi2,hjj=>by
  obtain ⟨j,rfl⟩:∃ i,j=i+1:=⟨j - 1,by omega⟩
  have hi':i<js.length:=by omega
  have hlen:i<((js.take i).map (fun j=>zk j s)++js.drop i).length:=by rw [YQ (by omega)];exact hi'
  have ih:=agf hk (g3:=g3) (now:=now) (ap:=ap) (ts:=ts) (bs:=bs) (ru:=ru) (ha:=ha) (hi:=hi) (T:=T) (w:=w) (ev:=ev) (b:=b) (s:=s) (e:=e) (f:=f) (h:=h) hl hj m (i+1) j (by omega) (by omega)
  rw [aaR,Y5,Sc (by omega)]
  simp only
  rw [Qo hlen,Qp,RH ay hi',YN hk (hj _ (jo hi')),Option.bind_some,Qo hlen,Mj,Mi (by omega)]
  simp only
  rw [MC (f:=fun j=>zk j s) ay hi']
  exact ih
theorem akC {k:Nat} (hk:1000 <= k) {l:List Nat} (h:l.length <= 900) (v:Int):acn k (qb l) v=some ((qw (fun x=>v==x) (qb l),()),()):=by
 have hl:=sj l
 unfold acn
 refine uf (fun j i=>EM k j (qb l) v ((qb l).length:Int) i) (qb l) 0 _ (fun j i hi=>?_) (fun j=>?_) k (by omega)
 ·show EM k (j+1) (qb l) v ((qb l).length:Int) (i:Int)=_
  rw [L9,N8,Sc (by omega),Qo hi,Mi (by omega),Qp]
 ·show EM k (j+1) (qb l) v ((qb l).length:Int) ((qb l).length:Int)=_
  rw [L9,N8,Sd (by omega)]
theorem agh {k:Nat} (hk:1000 <= k) {g3:jh -> List (List Int) -> List Int -> Int -> Int -> Option (Unit×(Int×Int×List iy×List WC×Bool×Bool×Bool×List jd×List Int×List Bool×List Th×List Int×List Bool×List jf×Unit)×Unit)} {K:je} {b:List (List Int)} {a:Int} {e:List Int} {f h:Int} {w:List Int} (hT:K.2.2.2.2.2.2.2.2.1.2.length <= 100) (hl:K.2.2.2.2.2.2.2.1.length <= 800) (hj:∀ j∈K.2.2.2.2.2.2.2.1,JS j) (hw:w.length <= 900):∀ (m i j:Nat) (ev:List jf),i+m=w.length -> m<j -> ev.length <= 990000+i ->
  aeT k g3 j (K,ev) b a e f h w (w.length:Int) (i:Int)=g3 (let v:=(w.drop i).foldl ME (K,ev);let s:=qw (fun x=>a==x) (qb (jv K.2.2.2.2.2.2.2.2.1));bif decide (s≥0) then (w7 v.1 (v.1.2.2.2.2.2.2.2.1.map fun j=>zk j s),v.2) else v) b e f (IntKind.i64.wrap (h+1))
 | 0,i,j,ev,hi,hjj,he=>by
  obtain ⟨j,rfl⟩:∃ i,j=i+1:=⟨j - 1,by omega⟩
  have hs:=wz K.2.2.2.2.2.2.2.2.1
  rw [aeU,aeS,Sd (by omega),M7 hk hT,Option.bind_some,drop_nil (by omega)]
  simp only
  rw [akC hk (by omega),Option.bind_some]
  simp only [List.foldl_nil]
  cases decide (qw (fun x=>a==x) (qb (jv K.2.2.2.2.2.2.2.2.1))≥0) with
  | false=>rfl
  | true =>
   simp only [cond_true]
   obtain ⟨now,ap,ts,bs,ru,ha,hi,js,T,w⟩:=K
   have hl2:js.length <= 800:=hl
   exact agf hk hl2 hj js.length 0 k (by omega) (by omega)
 | m+1,i,j,ev,hi,hjj,he=>by
  obtain ⟨j,rfl⟩:∃ i,j=i+1:=⟨j - 1,by omega⟩
  have hi':i<w.length:=by omega
  rw [aeU,aeS,Sc (by omega),Qo hi',CX (by show ev.length <= _;omega),Option.bind_some,Mi (by omega),drop_cons 0 hi',List.foldl_cons]
  simp only [Z7]
  exact agh hk hT hl hj hw m (i+1) j (ev++[_]) (by omega) (by omega) (by simp only [List.length_append,List.length_cons,List.length_nil];omega)
theorem agi {k:Nat} {l:List Th} (hl:∀ x∈l,Wp x):∀ (m i:Nat) (s:List Th×List Int×List (List Int)),(∀ w∈s.2.2,w.length <= 200) -> i+m=l.length -> ∀ w∈(Z8 k l m i s).2.2,w.length <= 200
 | 0,_,s,h,_=>h
 | m+1,i,s,h,hi=>by
  rw [Z8]
  refine agi hl m (i+1) _ ?_ (by omega)
  split
  ·intro w hw
   rcases List.mem_append.1 hw with q | q
   ·exact h w q
   ·rw [List.mem_singleton] at q
    obtain ⟨_,h2,h3⟩:=hl _ (jo (z:=j6) (show i<l.length by omega))
    rw [q];unfold xu
    rw [List.length_append,List.length_map];omega
  ·exact h
theorem YS {k:Nat} {T:Tb} (h:yu T):yu (T.1,(uq k T).1) /\ (uq k T).1.length=T.2.length /\ jv (T.1,(uq k T).1)=jv T /\ (uq k T).2.2.length=(uq k T).2.1.length /\ (∀ w∈(uq k T).2.2,w.length <= 200) /\ (uq k T).2.1.length <= T.2.length /\
  ∀ i,i<T.2.length -> (uq k T).1.getD i j6=if trn k (T.2.getD i j6)=true then frT k (T.2.getD i j6) else T.2.getD i j6:=by
 have ha:=apI k T.2
 have hg:∀ i,i<T.2.length -> (uq k T).1.getD i j6=if trn k (T.2.getD i j6)=true then frT k (T.2.getD i j6) else T.2.getD i j6:=fun i hi=>by
  split
  ·rename_i q;exact (ha.told i hi q).2.2.1
  ·rename_i q;exact ha.kept i (.inr (by simpa using q))
 have hlen:(uq k T).1.length=T.2.length:=ha.len
 have hc:∀ n,KC k T.2 n <= n:=fun n=>by induction n with | zero=>exact Nat.le_refl _ | succ n ih=>rw [KC];split <;> omega
 refine ⟨⟨⟨h.1.1,h.1.2.1,by show (uq k T).1.length <= 100;rw [hlen];exact h.1.2.2⟩,fun x hx=>?_⟩,hlen,PX hlen (fun i hi=>?_),by unfold uq;rw [ha.len1,ha.len2],agi h.2 _ _ _ (by simp) (by omega),by unfold uq;rw [ha.len1];exact hc _,hg⟩
 ·obtain ⟨i,hi,e⟩:=vg j6 hx
  have hi2:i<T.2.length:=by rw [<- hlen];exact hi
  rw [<- e,show ((T.1,(uq k T).1):Tb).2.getD i j6=(uq k T).1.getD i j6 from rfl,hg i hi2]
  split
  ·unfold frT zy;exact ⟨by simp,by simp,by simp⟩
  ·exact h.2 _ (jo hi2)
 ·show ((uq k T).1.getD i j6).1=_
  rw [hg i hi];split <;> rfl
theorem apT {k:Nat} (hk:1000 <= k) {u:jh} (hT:yu u.1.2.2.2.2.2.2.2.2.1) (hl:u.1.2.2.2.2.2.2.2.1.length <= 800) (hj:∀ j∈u.1.2.2.2.2.2.2.2.1,JS j) (he:u.2.length <= 900000):S80 k u=some ((),zu (abI k u),()):=by
 have hle:=hT.1.2.2
 obtain ⟨a1,a2,a3,a4,a5,a6,_⟩:=YS (k:=k) hT
 have key:∀ (m i j:Nat) (c:List Int) (b:List (List Int)) (v:jh),i+m=c.length -> m<j -> b.length=c.length -> c.length <= 100 -> (∀ w∈b,w.length <= 200) -> v.1.2.2.2.2.2.2.2.2.1.2.length <= 100 -> v.1.2.2.2.2.2.2.2.1.length <= 800 -> (∀ j∈v.1.2.2.2.2.2.2.2.1,JS j) -> v.2.length <= 900000+201 * i ->
   aaS k j v b c (c.length:Int) (i:Int)=some ((),zu (KH (c.drop i) (b.drop i) v),()):=by
  intro m
  induction m with
  | zero =>
   intro i j c b v hi hj hb hc hw h1 h2 h3 h4
   obtain ⟨j,rfl⟩:∃ i,j=i+1:=⟨j - 1,by omega⟩
   rw [aeW,aeV,Sd (by omega),drop_nil (by omega)];rfl
  | succ m ih =>
   intro i j c b v hi hj hb hc hw h1 h2 h3 h4
   obtain ⟨j,rfl⟩:∃ i,j=i+1:=⟨j - 1,by omega⟩
   have hi':i<c.length:=by omega
   have hib:i<b.length:=by omega
   have hwl:=hw _ (jo (z:=[]) hib)
   rw [aeW,aeV,Sc (by omega),Qo hi',CX (by omega),Option.bind_some,Qo hib,Qp,Qp,drop_cons 0 hi',drop_cons [] hib]
   simp only [Z7]
   rw [KH]
   have hf:=ahj (b.getD i []) (j5 v (0,11,0,c.getD i 0,0,0))
   have e:=agh (K:=v.1) (b:=b) (a:=c.getD i 0) (e:=c) (f:=(c.length:Int)) (h:=(i:Int)) (w:=b.getD i []) (g3:=fun a b c e f=>aaS k j a b c e f) hk h1 h2 h3 (by omega) (b.getD i []).length 0 k (v.2++[(v.1.1,11,0,c.getD i 0,0,0)]) (by omega) (by omega) (by simp only [List.length_append,List.length_cons,List.length_nil];omega)
   refine Eq.trans e ?_
   rw [Mi (by omega),List.drop_zero]
   refine ih (i+1) j c b (abH v (c.getD i 0) (b.getD i [])) (by omega) (by omega) hb hc hw ?_ ?_ ?_ ?_
   all_goals unfold abH
   all_goals simp only
   all_goals cases decide (qw (fun x=>c.getD i 0==x) (qb (jv v.1.2.2.2.2.2.2.2.2.1))≥0)
   all_goals simp only [cond_true,cond_false]
   ·rw [hf.1];exact h1
   ·show ((_:je).2.2.2.2.2.2.2.2.1.2.length <= 100);rw [hf.1];exact h1
   ·rw [hf.1];exact h2
   ·show ((List.map _ _).length <= 800);rw [List.length_map,hf.1];exact h2
   ·rw [hf.1];exact h3
   ·intro x hx
    obtain ⟨y,hy,rfl⟩:=List.mem_map.1 (show x∈List.map _ _ from hx)
    rw [hf.1] at hy
    exact WK (h3 y hy) _
   ·rw [hf.2];simp only [j5,List.length_append,List.length_cons,List.length_nil];omega
   ·show (List.foldl ME (j5 v (0,11,0,c.getD i 0,0,0)) (b.getD i [])).2.length <= _
    rw [hf.2];simp only [j5,List.length_append,List.length_cons,List.length_nil];omega
 unfold S80
 rw [amU hk hT,Option.bind_some]
 have:=key (uq k u.1.2.2.2.2.2.2.2.2.1).2.1.length 0 k (uq k u.1.2.2.2.2.2.2.2.2.1).2.1 (uq k u.1.2.2.2.2.2.2.2.2.1).2.2 (w8 u.1 (u.1.2.2.2.2.2.2.2.2.1.1,(uq k u.1.2.2.2.2.2.2.2.2.1).1),u.2) (by omega) (by omega) a4 (by omega) a5 (by show (uq k u.1.2.2.2.2.2.2.2.2.1).1.length <= 100;omega) hl hj (by show u.2.length <= _;omega)
 rw [List.drop_zero,List.drop_zero] at this
 exact this
def pz (l:List I4) (m:gy):I4:=l.getD m.1.toNat i0
def stepM (l:List I4) (m:gy):gy:=((go (pz l m) (m.1.toNat:Int) m.2.1 m.2.2.1.reverse).1,R8 (pz l m) m.2.1,(go (pz l m) (m.1.toNat:Int) m.2.1 m.2.2.1.reverse).2.reverse,(pz l m).1==0)
structure MOK (l:List I4) (m:gy):Prop where
 len:l.length <= 900
 pc:0 <= m.1 /\ m.1.toNat<l.length
 may:l5 (pz l m)=true
 arf:m.2.2.1.length <= 10
 bound:∀ r∈m.2.2.1,r.2.2 <= 1000
 mem:inM m.2.1
 on:m.2.2.2=false
theorem akD {k:Nat} (hk:1000 <= k) {l:List I4} {m:gy} (h:MOK l m):acu k l m=some ((stepM l m,pz l m,true,()),()):=by
 obtain ⟨pc,mem,rs,ov⟩:=m
 obtain ⟨n,rfl⟩:∃ n:Nat,pc=(n:Int):=⟨pc.toNat,by have:0 <= pc:=h.pc.1;omega⟩
 have ho:ov=false:=h.on
 subst ho
 have e:=afR hk (l:=l) (n:=n) (mem:=mem) (R:=rs.reverse) h.len (by have:(n:Int).toNat<l.length:=h.pc.2;omega) h.may (by rw [List.length_reverse];have:rs.length <= 10:=h.arf;omega) (fun r hr=>h.bound r (List.mem_reverse.1 hr)) h.mem
 rw [List.reverse_reverse] at e
 exact e
theorem UN {l:List I4} {m:gy} (h:MOK l m):(stepM l m).2.2.1.length <= m.2.2.1.length+1:=by
 have hg:∀ (R:List gu) (pc:Int),(um pc R).2.length <= R.length:=fun R=>by
  induction R with
  | nil=>intro pc;simp [um]
  | cons r R ih =>
   intro pc
   rw [um]
   by_cases a:r.2.1<pc
   ·rw [if_pos a]
    by_cases b:r.2.2>0
    ·rw [if_pos b];simp
    ·rw [if_neg b];have:=ih pc;simp only [List.length_cons];omega
   ·rw [if_neg a];exact Nat.le_refl _
 have hn:∀ (x:I4) (pc:Int) (mem:Mem) (R:List gu),(gU x pc mem R).2.length <= R.length+1:=fun x pc mem R=>by
  unfold gU;split;· simp
  ·split;· split <;> simp
   ·split <;> simp
 unfold stepM
 rw [List.length_reverse]
 unfold go
 have h1:=hg (gU (pz l m) (m.1.toNat:Int) m.2.1 m.2.2.1.reverse).2 (gU (pz l m) (m.1.toNat:Int) m.2.1 m.2.2.1.reverse).1
 have h2:=hn (pz l m) (m.1.toNat:Int) m.2.1 m.2.2.1.reverse
 rw [List.length_reverse] at h2
 omega
def qo (t:iy) (p:Int):List I4:=bif p==0 then t.2.2.2.1 else bif p==1 then t.2.2.2.2.1 else t.2.2.2.2.2
theorem anq {k:Nat} {t:iy} (ht:zi t) {j:jd} (hp:0 <= j.2.2.2.1 /\ j.2.2.2.1 <= 2):alX k t j=some ((qo t j.2.2.2.1,()),()):=by
 unfold alX
 obtain ⟨a,b,c,p,r⟩:=j
 have hp':p=0 \/ p=1 \/ p=2:=by have:0 <= p /\ p <= 2:=hp;omega
 rcases hp' with rfl | rfl | rfl
 ·rw [show Us (.int .i64) (.sl _ (.pair (.int .i64) (.pair (.int .i64) (.pair (.int .i64) (.int .i64))))) (0:Int) _ ([]:List I4)=t.2.2.2.1 from rfl,J8 ht.1,Option.bind_some];rfl
 ·rw [show Us (.int .i64) (.sl _ (.pair (.int .i64) (.pair (.int .i64) (.pair (.int .i64) (.int .i64))))) (1:Int) _ ([]:List I4)=t.2.2.2.2.1 from rfl,J8 ht.2.1,Option.bind_some];rfl
 ·rw [show Us (.int .i64) (.sl _ (.pair (.int .i64) (.pair (.int .i64) (.pair (.int .i64) (.int .i64))))) (2:Int) _ ([]:List I4)=t.2.2.2.2.2 from rfl,J8 ht.2.2,Option.bind_some];rfl
theorem RI {k:Nat} {m:gy} (h:m.2.2.1.length <= 900):aaV k m=some ((m,()),()):=by
 unfold aaV
 rw [acM h,Option.bind_some]
theorem YT {k:Nat} {j:jd} (h:JS j):agU k j=some ((j,()),()):=by
 unfold agU
 rw [RI (by have:=h.m;omega),Option.bind_some,RI (by have:=h.kept;omega),Option.bind_some,UH (by have:=h.held;omega),Option.bind_some]
 rfl
def unl (a:Int) (l:List Int):Nat -> List Int
 | 0=>l
 | n+1=>if l.getD n 0=a then l.take n++l.drop (n+1) else unl a l n
theorem YU (a:Int) (l:List Int):∀ n,(∀ x∈unl a l n,x∈l) /\ (unl a l n).length <= l.length /\ ∀ x∈l,x≠a -> x∈unl a l n
 | 0=>⟨fun x h=>h,Nat.le_refl _,fun x h _=>h⟩
 | n+1=>by
  rw [unl]
  split
  ·rename_i q
   refine ⟨fun x h=>?_,by simp only [List.length_append,List.length_take,List.length_drop];omega,fun x h hx=>?_⟩
   ·rcases List.mem_append.1 h with h | h
    ·exact List.mem_of_mem_take h
    ·exact List.mem_of_mem_drop h
   ·obtain ⟨i,hi,e⟩:=List.mem_iff_getElem.1 h
    rw [List.mem_append]
    by_cases h1:i<n
    ·exact .inl (List.mem_iff_getElem.2 ⟨i,by rw [List.length_take];omega,by rw [List.getElem_take];exact e⟩)
    ·by_cases h2:i=n
     ·subst h2;rw [getD_in hi,e] at q;exact absurd q hx
     ·exact .inr (List.mem_iff_getElem.2 ⟨i - (n+1),by rw [List.length_drop];omega,by rw [List.getElem_drop];rw [<- e];congr 1;omega⟩)
  ·exact YU a l n
def H9 (x:I4) (l:List Int):List Int:=bif x.1==9 then l++[x.2.1] else bif x.1==10 then unl x.2.1 l l.length else l
def y8 (t:iy) (j:jd):jd :=
 let x:=pz (qo t j.2.2.2.1) j.2.2.2.2.1
 let m:=stepM (qo t j.2.2.2.1) j.2.2.2.2.1
 (j.1,j.2.1,j.2.2.1,j.2.2.2.1,m,(bif x.1==11 then m else j.2.2.2.2.2.1),H9 x j.2.2.2.2.2.2.1,j.2.2.2.2.2.2.2)
theorem akE {k:Nat} {x:jd} {a b c e:Int} (hl:x.2.2.2.2.2.2.1.length <= 900):∀ (n j:Nat),n<j -> n <= x.2.2.2.2.2.2.1.length -> QT k j x a b c e ((n:Int) - 1)=some ((w6 x (unl b x.2.2.2.2.2.2.1 n),(a,b,c,e),true,()),())
 | 0,j,hj,hn=>by
  obtain ⟨j,rfl⟩:∃ i,j=i+1:=⟨j - 1,by omega⟩
  rw [VL,QS,Sd (by omega),unl];rfl
 | n+1,j,hj,hn=>by
  obtain ⟨j,rfl⟩:∃ i,j=i+1:=⟨j - 1,by omega⟩
  rw [show ((n+1:Nat):Int) - 1=(n:Int) by omega,VL,QS,Sc (by omega),Qo (by omega),Qp,unl]
  by_cases q:x.2.2.2.2.2.2.1.getD n 0=b
  ·rw [if_pos q,show (x.2.2.2.2.2.2.1.getD n 0==b)=true from beq_iff_eq.2 q,cond_true,Mi (by omega)]
   have e1:aps k x.2.2.2.2.2.2.1 (n:Int) ((n+1:Nat):Int)=some ((x.2.2.2.2.2.2.1.take n++x.2.2.2.2.2.2.1.drop (n+1),()),()):=by
    unfold aps Jk
    refine (if_pos ?_).trans ?_
    ·simp only [Bool.and_eq_true]
     exact ⟨decide_eq_true (by show (0:Int) <= (n:Int);omega),decide_eq_true (by show (n:Int) <= ((n+1:Nat):Int);omega),decide_eq_true (by show ((n+1:Nat):Int) <= (x.2.2.2.2.2.2.1.length:Int);omega)⟩
    ·rfl
   rw [e1,Option.bind_some]
  ·rw [if_neg q,show (x.2.2.2.2.2.2.1.getD n 0==b)=false from beq_eq_false_iff_ne.2 q,cond_false,Uu (by omega) (by omega)]
   exact akE hl n j (by omega) (by omega)
theorem anr {k:Nat} (hk:1000 <= k) {t:iy} {j:jd} (ht:zi t) (hs:JS j) (hp:0 <= j.2.2.2.1 /\ j.2.2.2.1 <= 2) (h:MOK (qo t j.2.2.2.1) j.2.2.2.2.1) :
  al2 k t j=some ((y8 t j,pz (qo t j.2.2.2.1) j.2.2.2.2.1,true,()),()):=by
 have h1:=UN h
 have h2:=h.arf
 have h3:=hs.held
 unfold al2 y8 H9
 rw [YT hs,Option.bind_some,anq ht hp,Option.bind_some]
 simp only
 rw [akD hk h,Option.bind_some]
 simp only [Bool.not_true,cond_false]
 generalize pz (qo t j.2.2.2.1) j.2.2.2.2.1=x
 generalize stepM (qo t j.2.2.2.1) j.2.2.2.2.1=m at h1
 by_cases e11:x.1=11
 ·rw [show (x.1==11)=true from beq_iff_eq.2 e11,cond_true,RI (by omega),Option.bind_some,beq_eq_false_iff_ne.2 (show x.1≠9 by omega),beq_eq_false_iff_ne.2 (show x.1≠10 by omega)]
  rfl
 ·rw [beq_eq_false_iff_ne.2 e11,cond_false,cond_false]
  by_cases e9:x.1=9
  ·rw [show (x.1==9)=true from beq_iff_eq.2 e9,cond_true,Rz (by simp only [List.length_cons,List.length_nil];omega)]
   rfl
  ·rw [beq_eq_false_iff_ne.2 e9,cond_false,cond_false]
   by_cases e10:x.1=10
   ·rw [show (x.1==10)=true from beq_iff_eq.2 e10,cond_true,Uu (by omega) (by omega)]
    exact akE (x:=w4 j m) (by show j.2.2.2.2.2.2.1.length <= 900;omega) j.2.2.2.2.2.2.1.length k (by omega) (Nat.le_refl _)
   ·rw [beq_eq_false_iff_ne.2 e10,cond_false];rfl
def abJ (l:List jg) (s t:Int):List jg:=if 0 <= s /\ s<(l.length:Int) /\ (rd l s s0).2=0 then upd l s ((rd l s s0).1,t+1) else l
def akF (l:List jg) (s t:Int):List jg:=if holdsV l s t=true then upd l s ((rd l s s0).1,0) else l
theorem ant {k:Nat} {l:List jg} (hl:l.length <= 900) {s t:Int} (ht:0 <= t /\ t <= 1000):∃ b,al3 k l s t=some ((abJ l s t,b,()),()):=by
 unfold al3 ajm abJ
 rw [YL hl,Option.bind_some]
 by_cases h1:s≥0
 ·rw [Sc h1,Option.bind_some]
  by_cases h2:s<(l.length:Int)
  ·simp only
   rw [decide_eq_true h2]
   simp only [Bool.not_true,cond_false]
   rw [Lj h1 h2]
   by_cases h3:(rd l s s0).2=0
   ·rw [if_pos ⟨h1,h2,h3⟩,show ((rd l s (0,0)).2 != 0)=false by simpa using h3,cond_false,Lj h1 h2,Uu (by omega) (by omega)]
    exact ⟨true,rfl⟩
   ·rw [if_neg (fun q=>h3 q.2.2),show ((rd l s (0,0)).2 != 0)=true by simpa using h3,cond_true]
    exact ⟨false,rfl⟩
  ·simp only
   rw [decide_eq_false h2,if_neg (fun q=>h2 q.2.1)]
   exact ⟨false,rfl⟩
 ·rw [Sd h1,Option.bind_some,if_neg (fun q=>h1 q.1)]
  exact ⟨false,rfl⟩
theorem anu {k:Nat} {l:List jg} (hl:l.length <= 900) {s t:Int} (ht:t <= 1000):∃ b,al4 k l s t=some ((akF l s t,b,()),()):=by
 unfold al4 akF
 rw [YL hl,Option.bind_some,YP ht,Option.bind_some]
 cases h:holdsV l s t with
 | false=>exact ⟨false,rfl⟩
 | true =>
  unfold holdsV at h
  simp only [Bool.and_eq_true,decide_eq_true_eq] at h
  simp only [Bool.not_true,cond_false,if_true]
  rw [Lj h.1 h.2.1]
  exact ⟨true,rfl⟩
theorem ahk (l:List jg) (s t:Int):(abJ l s t).length=l.length:=by unfold abJ;split <;> simp [upd]
theorem akG (l:List jg) (s t:Int):(akF l s t).length=l.length:=by unfold akF;split <;> simp [upd]
def Vh (a:Int):gy:=(0,(a,0,0,0,0,0,0,0),[],false)
def acP (j:jd):jd:=(j.1,j.2.1,j.2.2.1,2,Vh j.2.2.2.2.1.2.1.1,Vh j.2.2.2.2.1.2.1.1,[],false)
theorem anv {k:Nat} {j:jd} (h:JS j):al5 k j=some ((acP j,()),()):=by
 unfold al5 Q5
 rw [YT h];rfl
theorem anw {k:Nat} {w:List Int×List Bool} {n:Nat} (h1:w.1.length <= 900) (h2:w.2.length <= 900) (h:n<w.1.length):acf k w (n:Int)=some (((w.1.set n 0,w.2),()),()):=by
 obtain ⟨r,o⟩:=w
 simp only at h1 h2 h
 unfold acf agL
 simp only
 rw [UH h1,Option.bind_some,YK h2,Option.bind_some,Option.bind_some,Sc (by omega),Sc (by simp only;omega),Qo h,Mj]
abbrev MF:Type:=Bool×jh×jd
def agj (u:jh) (n:Nat):jh:=(z9 u.1 (u.1.2.2.2.2.2.2.2.2.2.1.set n 0,u.1.2.2.2.2.2.2.2.2.2.2),u.2)
def sw (u:jh) (j:jd):MF :=
 bif j.2.2.2.1==2 then (true,j5 u (0,4,j.1,0,j.2.2.2.2.1.2.1.1,0),j)
 else ((((u.1.2.2.1.getD j.1.toNat bg).2.2.2.2.2.length:Int)==0),agj (bif (j.2.2.2.1==0)&&decide (((u.1.2.2.1.getD j.1.toNat bg).2.2.2.2.1.length:Int)>0) then j5 (j5 u (0,3,j.1,0,j.2.2.2.2.1.2.1.1,0)) (0,8,j.1,0,0,0) else j5 u (0,3,j.1,0,j.2.2.2.2.1.2.1.1,0)) j.1.toNat,acP j)
theorem anx {k:Nat} (hk:1000 <= k) {u:jh} {j:jd} (hj:JS j) (h:0 <= j.1 /\ j.1<(u.1.2.2.1.length:Int)) (hr:u.1.2.2.2.2.2.2.2.2.2.1.length=u.1.2.2.1.length) (ho:u.1.2.2.2.2.2.2.2.2.2.2.length <= 900) (ht:u.1.2.2.1.length <= 900) (he:u.2.length <= 990000) :
  al7 k u j=some (((sw u j).1,()),zu (sw u j).2.1,trJ (sw u j).2.2,()):=by
 obtain ⟨n,hn⟩:∃ n:Nat,j.1=(n:Int):=⟨j.1.toNat,by omega⟩
 have fin:∀ v:jh,v.1=u.1 -> NM k v j=some (((((u.1.2.2.1.getD j.1.toNat bg).2.2.2.2.2.length:Int)==0),()),zu (agj v j.1.toNat),trJ (acP j),()):=fun v hv=>by
  unfold NM
  have e:=anw (k:=k) (w:=v.1.2.2.2.2.2.2.2.2.2) (n:=n) (by rw [hv];omega) (by rw [hv];exact ho) (by rw [hv];omega)
  rw [hn,e,Option.bind_some,anv hj,Option.bind_some]
  simp only
  rw [show (acP j).1=(n:Int) from hn,hv,Qo (by omega),Qp,Int.toNat_natCast]
  rw [<- hv]
  rfl
 unfold al7 sw
 cases hp:j.2.2.2.1==2 with
 | true =>
  rw [cond_true,CX (by omega),Option.bind_some]
  rfl
 | false =>
  rw [cond_false,cond_false,CX (by omega),Option.bind_some]
  simp only [Z7]
  cases hp0:j.2.2.2.1==0 with
  | false =>
   rw [cond_false]
   exact fin _ rfl
  | true =>
   rw [cond_true,Bool.true_and]
   have ei:∀ {R:Type} (x:Option R),ix (j5 u (0,3,j.1,0,j.2.2.2.2.1.2.1.1,0)).1.2.2.1 j.1 x=x:=fun x=>Lj h.1 h.2
   rw [ei]
   show (bif decide (((u.1.2.2.1.getD j.1.toNat bg).2.2.2.2.1.length:Int)>0) then _ else _)=_
   cases decide (((u.1.2.2.1.getD j.1.toNat bg).2.2.2.2.1.length:Int)>0) with
   | false=>exact fin _ rfl
   | true =>
    rw [cond_true,CX (by simp [j5];omega),Option.bind_some]
    simp only [Z7]
    exact fin _ rfl
noncomputable def JX (k:Nat) (u:jh) (j:jd):MF :=
 let t:=u.1.2.2.1.getD j.1.toNat bg
 let x:=pz (qo t j.2.2.2.1) j.2.2.2.2.1
 let v:=bif x.1==9 then (ED k u.1 (abJ (kg u.1.2.2.2.2.2.2.2.2.1) x.2.1 j.1),u.2) else bif x.1==10 then (ED k u.1 (akF (kg u.1.2.2.2.2.2.2.2.2.1) x.2.1 j.1),u.2) else u
 bif (y8 t j).2.2.2.2.1.2.2.2 then sw v (y8 t j) else (false,v,y8 t j)
structure GO (K:je) (j:jd):Prop where
 js:JS j
 few:j.2.2.2.2.1.2.2.1.length <= 10 /\ j.2.2.2.2.2.1.2.2.1.length <= 10
 held:j.2.2.2.2.2.2.1.length <= 90
 task:0 <= j.1 /\ j.1<(K.2.2.1.length:Int)
 phase:0 <= j.2.2.2.1 /\ j.2.2.2.1 <= 2
 m:MOK (qo (K.2.2.1.getD j.1.toNat bg) j.2.2.2.1) j.2.2.2.2.1
theorem apU {K:je} {j:jd} (h:GO K j):JS (y8 (K.2.2.1.getD j.1.toNat bg) j):=by
 have h1:=UN h.m
 have h2:=h.few
 have h3:=h.held
 refine ⟨by show (stepM _ _).2.2.1.length <= 100;omega,?_,?_,?_⟩
 ·show (bif _ then stepM _ _ else _).2.2.1.length <= 100
  cases (pz (qo (K.2.2.1.getD j.1.toNat bg) j.2.2.2.1) j.2.2.2.2.1).1==11 with
  | true=>rw [cond_true];omega
  | false=>rw [cond_false];omega
 ·show (H9 _ _).length <= 100
  unfold H9
  generalize pz (qo (K.2.2.1.getD j.1.toNat bg) j.2.2.2.1) j.2.2.2.2.1=x
  have:=(YU x.2.1 j.2.2.2.2.2.2.1 j.2.2.2.2.2.2.1.length).2.1
  cases x.1==9 <;> cases x.1==10 <;> simp <;> omega
 ·intro y hy
  have hm:=h.m.may
  have hy':y∈H9 (pz (qo (K.2.2.1.getD j.1.toNat bg) j.2.2.2.1) j.2.2.2.2.1) j.2.2.2.2.2.2.1:=hy
  generalize pz (qo (K.2.2.1.getD j.1.toNat bg) j.2.2.2.1) j.2.2.2.2.1=x at hy' hm
  unfold H9 at hy'
  cases e9:x.1==9 with
  | true =>
   rw [e9,cond_true,List.mem_append,List.mem_singleton] at hy'
   rcases hy' with q | q
   ·exact h.js.pos y q
   ·rw [q]
    obtain ⟨a,b,c,d⟩:=x
    have h9':a=9:=by simpa using e9
    subst h9'
    unfold l5 at hm
    simp [BA] at hm
    exact hm.1.1
  | false =>
   rw [e9,cond_false] at hy'
   cases e10:x.1==10 with
   | true=>rw [e10,cond_true] at hy';exact h.js.pos y ((YU _ _ _).1 y hy')
   | false=>rw [e10,cond_false] at hy';exact h.js.pos y hy'
theorem anz {k:Nat} (hk:1000 <= k) {u:jh} {j:jd} (hL:p9 u.1.2.2.1) (hT:yu u.1.2.2.2.2.2.2.2.2.1) (h:GO u.1 j) (hr:u.1.2.2.2.2.2.2.2.2.2.1.length=u.1.2.2.1.length) (ho:u.1.2.2.2.2.2.2.2.2.2.2.length <= 900) (he:u.2.length <= 980000) :
  al8 k u j=some (((JX k u j).1,()),zu (JX k u j).2.1,trJ (JX k u j).2.2,()):=by
 have htk:=h.task
 have hts:=hL.1
 have hle:=hT.1.2.2
 have hsl:=wz u.1.2.2.2.2.2.2.2.2.1
 have hll:=J9 u.1.2.2.2.2.2.2.2.2.1
 have hlt:=(hL.2 _ (jo (z:=bg) (show j.1.toNat<u.1.2.2.1.length by omega))).1
 have fin:∀ v:jh,v.1.2.2.1=u.1.2.2.1 -> v.1.2.2.2.2.2.2.2.2.2=u.1.2.2.2.2.2.2.2.2.2 -> v.2=u.2 -> IG k v (y8 (u.1.2.2.1.getD j.1.toNat bg) j)=some ((((bif (y8 (u.1.2.2.1.getD j.1.toNat bg) j).2.2.2.2.1.2.2.2 then sw v (y8 (u.1.2.2.1.getD j.1.toNat bg) j) else (false,v,y8 (u.1.2.2.1.getD j.1.toNat bg) j)):MF).1,()),zu ((bif (y8 (u.1.2.2.1.getD j.1.toNat bg) j).2.2.2.2.1.2.2.2 then sw v (y8 (u.1.2.2.1.getD j.1.toNat bg) j) else (false,v,y8 (u.1.2.2.1.getD j.1.toNat bg) j)):MF).2.1,trJ ((bif (y8 (u.1.2.2.1.getD j.1.toNat bg) j).2.2.2.2.1.2.2.2 then sw v (y8 (u.1.2.2.1.getD j.1.toNat bg) j) else (false,v,y8 (u.1.2.2.1.getD j.1.toNat bg) j)):MF).2.2,()):=fun v h1 h2 h3=>by
  unfold IG
  cases (y8 (u.1.2.2.1.getD j.1.toNat bg) j).2.2.2.2.1.2.2.2 with
  | false=>rfl
  | true =>
   rw [cond_true,anx hk (apU h) (by rw [h1];exact htk) (by rw [h1,show v.1.2.2.2.2.2.2.2.2.2.1=u.1.2.2.2.2.2.2.2.2.2.1 by rw [h2]];exact hr) (by rw [h2];exact ho) (by rw [h1];omega) (by rw [h3];omega),Option.bind_some]
   rfl
 unfold al8 JX
 rw [Lj htk.1 htk.2,show rd u.1.2.2.1 j.1 bg=u.1.2.2.1.getD j.1.toNat bg from rfl,anr hk hlt h.js h.phase h.m,Option.bind_some]
 simp only [Bool.not_true,cond_false]
 generalize hx:pz (qo (u.1.2.2.1.getD j.1.toNat bg) j.2.2.2.1) j.2.2.2.2.1=x
 have hq:(y8 (u.1.2.2.1.getD j.1.toNat bg) j).1=j.1:=rfl
 cases e9:x.1==9 with
 | true =>
  obtain ⟨b,eb⟩:=ant (k:=k) (l:=kg u.1.2.2.2.2.2.2.2.2.1) (s:=x.2.1) (t:=j.1) (by omega) (by omega)
  rw [cond_true,cond_true,OD hk hle,Option.bind_some,hq,eb,Option.bind_some,YO hk hT (by rw [ahk];omega),Option.bind_some]
  simp only [Z7]
  exact fin _ rfl rfl rfl
 | false =>
  rw [cond_false,cond_false]
  cases e10:x.1==10 with
  | true =>
   obtain ⟨b,eb⟩:=anu (k:=k) (l:=kg u.1.2.2.2.2.2.2.2.2.1) (s:=x.2.1) (t:=j.1) (by omega) (by omega)
   rw [cond_true,cond_true,OD hk hle,Option.bind_some,hq,eb,Option.bind_some,YO hk hT (by rw [akG];omega),Option.bind_some]
   simp only [Z7]
   exact fin _ rfl rfl rfl
  | false =>
   rw [cond_false,cond_false]
   exact fin _ rfl rfl rfl
def MG (t:iy) (j:jd):jd :=
 bif (j.2.2.2.1==0)&&decide ((t.2.2.2.2.1.length:Int)>0) then (j.1,j.2.1,j.2.2.1,1,Vh j.2.2.1,Vh j.2.2.1,[],j.2.2.2.2.2.2.2)
 else (j.1,j.2.1,j.2.2.1,j.2.2.2.1,j.2.2.2.2.2.1,j.2.2.2.2.2.1,[],j.2.2.2.2.2.2.2)
def ahl (t:iy) (j:jd):jd×Int:=bif j.2.2.2.1==2 then (j,13) else (MG t j,bif (j.2.2.2.1==0)&&decide ((t.2.2.2.2.1.length:Int)>0) then 7 else 6)
theorem anA {k:Nat} {t:iy} {j:jd} (h:JS j):alU k t j=some ((MG t j,()),()):=by
 unfold alU Q5 MG
 have hm:=RI (k:=k) (m:=j.2.2.2.2.2.1) (by have:=h.kept;omega)
 rw [YT h,Option.bind_some,hm]
 cases j.2.2.2.1==0 with
 | false=>rfl
 | true=>rw [Bool.true_and,cond_true];cases decide ((t.2.2.2.2.1.length:Int)>0) <;> rfl
theorem anB {k:Nat} (hk:1000 <= k) {t:iy} {j:jd} (h:JS j) (ht:j.1 <= 1000) {l:List jg} (hl:l.length <= 900):alV k t j l=some (((ahl t j).1,MB l j.1,(ahl t j).2,()),()):=by
 unfold alV ahl
 rw [anA h,Option.bind_some,agd hk hl ht,Option.bind_some]
 cases hp:j.2.2.2.1==2 with
 | true =>
  rw [cond_true,YN hk h,Option.bind_some,UJ h];rfl
 | false =>
  simp only [cond_false]
  unfold MG
  cases hp0:j.2.2.2.1==0 with
  | false=>simp
  | true =>
   have:j.2.2.2.1=0:=by simpa using hp0
   cases decide ((t.2.2.2.2.1.length:Int)>0) with
   | true=>simp [this]
   | false=>simp
noncomputable def MH (k:Nat) (u:jh) (j:jd):MF :=
 let r:=ahl (u.1.2.2.1.getD j.1.toNat bg) j
 (r.2==13,j5 (ED k u.1 (MB (kg u.1.2.2.2.2.2.2.2.2.1) j.1),u.2) (0,r.2,r.1.1,0,0,0),r.1)
theorem anC {k:Nat} (hk:1000 <= k) {u:jh} {j:jd} (hts:u.1.2.2.1.length <= 900) (hT:yu u.1.2.2.2.2.2.2.2.2.1) (h:JS j) (htk:0 <= j.1 /\ j.1<(u.1.2.2.1.length:Int)) (he:u.2.length <= 980000) :
  alW k u j=some (((MH k u j).1,()),zu (MH k u j).2.1,trJ (MH k u j).2.2,()):=by
 have hle:=hT.1.2.2
 have hsl:=wz u.1.2.2.2.2.2.2.2.2.1
 have hll:=J9 u.1.2.2.2.2.2.2.2.2.1
 unfold alW MH
 rw [Lj htk.1 htk.2,OD hk hle,Option.bind_some]
 simp only
 rw [anB hk h (by omega) (by omega),Option.bind_some]
 simp only
 rw [YO hk hT (by rw [YR];omega),Option.bind_some]
 simp only [Z7]
 rw [CX (by show u.2.length <= _;omega),Option.bind_some]
 rfl
def OE (l:List jg) (t:Int) (s:Int×Bool) (x:Int):Int×Bool:=bif holdsV l x t&&(!s.2||decide ((rd l x s0).1<s.1)) then ((rd l x s0).1,true) else s
def ahm (l:List jg) (held:List Int) (t:Int):Int×Bool:=held.foldl (OE l t) (0,false)
theorem akH (f:List (Int×Bool)) (x y:Int):Us (.int .i64) .bool x (vL (.int .i64) .bool y true f) false=(x==y||Us (.int .i64) .bool x f false):=by
 unfold Us
 rw [KD (tk:=.int .i64) (tv:=.bool) (fun a b=>by simp [fC]) y x true f]
 by_cases e:x=y
 ·subst e;rw [if_pos (by simp [fC])];simp
 ·rw [if_neg (by simp [fC,e]),beq_eq_false_iff_ne.2 e,Bool.false_or]
theorem anD {k:Nat} (hk:1000 <= k) {l:List jg} {held:List Int} (hl:held.length <= 900) {t:Int} (ht:t <= 1000):ajx k l held t=some (((ahm l held t).1,(ahm l held t).2,()),()):=by
 have key:∀ (m i j:Nat) (s:Int×Bool) (f:List (Int×Bool)),i+m=held.length -> m<j -> (∀ x,Us (.int .i64) .bool x f false=true -> s.2=true /\ s.1 <= (rd l x s0).1) ->
   Y8 k j l t s.1 s.2 f held (held.length:Int) (i:Int)=some ((((held.drop i).foldl (OE l t) s).1,((held.drop i).foldl (OE l t) s).2,()),()):=by
  intro m
  induction m with
  | zero =>
   intro i j s f hi hj hf
   obtain ⟨j,rfl⟩:∃ i,j=i+1:=⟨j - 1,by omega⟩
   rw [aaT,Y7,Sd (by omega),drop_nil (by omega)];rfl
  | succ m ih =>
   intro i j s f hi hj hf
   obtain ⟨j,rfl⟩:∃ i,j=i+1:=⟨j - 1,by omega⟩
   have hi':i<held.length:=by omega
   rw [aaT,Y7,Sc (by omega),Qo hi',Qp,YP ht,Option.bind_some,Mi (by omega),drop_cons 0 hi',List.foldl_cons]
   generalize held.getD i 0=x
   simp only
   cases hh:holdsV l x t with
   | false =>
    rw [Bool.not_false,cond_true,show OE l t s x=s by unfold OE;rw [hh];rfl]
    exact ih (i+1) j s f (by omega) (by omega) hf
   | true =>
    have hin:0 <= x /\ x<(l.length:Int):=by
     unfold holdsV at hh
     simp only [Bool.and_eq_true,decide_eq_true_eq] at hh
     exact ⟨hh.1,hh.2.1⟩
    rw [Bool.not_true,cond_false]
    cases hs:Us (.int .i64) .bool x f false with
    | true =>
     obtain ⟨q1,q2⟩:=hf x hs
     rw [cond_true,show OE l t s x=s by unfold OE;rw [hh,q1,decide_eq_false (by omega)];rfl]
     exact ih (i+1) j s f (by omega) (by omega) hf
    | false =>
     rw [cond_false]
     have nf:∀ s2:Int×Bool,s2.2=true -> s2.1 <= (rd l x s0).1 -> (s.2=true -> s2.1 <= s.1) -> ∀ y,Us (.int .i64) .bool y (vL (.int .i64) .bool x true f) false=true -> s2.2=true /\ s2.1 <= (rd l y s0).1:=fun s2 h1 h2 h3 y hy=>by
      rw [akH,Bool.or_eq_true,beq_iff_eq] at hy
      rcases hy with q | q
      ·rw [q];exact ⟨h1,h2⟩
      ·obtain ⟨q1,q2⟩:=hf y q
       exact ⟨h1,by have:=h3 q1;omega⟩
     cases hb:s.2 with
     | false =>
      rw [Bool.not_false,cond_true,Lj hin.1 hin.2,show OE l t s x=((rd l x s0).1,true) by unfold OE;rw [hh,hb];rfl]
      exact ih (i+1) j ((rd l x s0).1,true) _ (by omega) (by omega) (nf _ rfl (Int.le_refl _) (fun h=>by rw [hb] at h;cases h))
     | true =>
      rw [Bool.not_true,cond_false,Lj hin.1 hin.2]
      by_cases hc:(rd l x s0).1<s.1
      ·rw [Sc hc,Lj hin.1 hin.2,show OE l t s x=((rd l x s0).1,true) by unfold OE;rw [hh,hb,decide_eq_true hc];rfl]
       exact ih (i+1) j ((rd l x s0).1,true) _ (by omega) (by omega) (nf _ rfl (Int.le_refl _) (fun _=>by show (rd l x s0).1 <= _;omega))
      ·rw [Sd hc,show OE l t s x=s by unfold OE;rw [hh,hb,decide_eq_false hc];rfl]
       have e:=ih (i+1) j s (vL (.int .i64) .bool x true f) (by omega) (by omega) (nf s hb (by omega) (fun _=>Int.le_refl _))
       rw [hb] at e;exact e
 unfold ajx
 exact key held.length 0 k (0,false) [] (by omega) (by omega) (fun x h=>by simp [Us,jB] at h)
abbrev Pk3:Type:=Int×Int×Int
abbrev pk0:Pk3:=(0,0,0)
def agk (n:Int) (j:jd):Int:=bif j.2.2.2.1==2 then n+n+j.1 else bif j.2.2.2.2.2.2.2 then j.1 else n+j.1
def FD (n:Int) (l:List jg) (j:jd):Pk3:=(bif (ahm l j.2.2.2.2.2.2.1 j.1).2 then mn (agk n j) (ahm l j.2.2.2.2.2.2.1 j.1).1 else agk n j,bif (ahm l j.2.2.2.2.2.2.1 j.1).2 then 0 else 1,j.1)
def KI (a b:Int):Int:=bif decide (a<b) then -1 else bif decide (a>b) then 1 else 0
def UO (p q:Pk3):Int:=bif KI p.1 q.1 != 0 then KI p.1 q.1 else bif KI p.2.1 q.2.1 != 0 then KI p.2.1 q.2.1 else KI p.2.2 q.2.2
theorem YV (k:Nat) (a b:Int):agS k a b=some ((KI a b,()),()):=by
 unfold agS alR KI
 simp only [Option.bind_some,bne_self_eq_false,cond_false]
 cases decide (a<b) with
 | true=>rfl
 | false=>cases decide (a>b) <;> rfl
theorem agl {k:Nat} (hk:1000 <= k) (p q:Pk3):agT k p q=some ((UO p q,()),()):=by
 unfold agT UO
 rw [YV,Option.bind_some,YV,Option.bind_some,YV,Option.bind_some]
 simp only
 generalize KI p.1 q.1=a
 generalize KI p.2.1 q.2.1=b
 generalize KI p.2.2 q.2.2=c
 unfold apn
 obtain ⟨k,rfl⟩:∃ m,k=m+4:=⟨k - 4,by omega⟩
 rw [LJ,NG,Sc (by simp),Lj (by omega) (by simp)]
 show Option.bind (bif a != 0 then _ else _) _=_
 cases a != 0 with
 | true=>rfl
 | false =>
  rw [cond_false,cond_false,show IntKind.i64.wrap ((0:Int)+1)=1 from rfl,LJ,NG,Sc (by simp),Lj (by omega) (by simp)]
  show Option.bind (bif b != 0 then _ else _) _=_
  cases b != 0 with
  | true=>rfl
  | false =>
   rw [cond_false,cond_false,show IntKind.i64.wrap ((1:Int)+1)=2 from rfl,LJ,NG,Sc (by simp),Lj (by omega) (by simp)]
   show Option.bind (bif c != 0 then _ else _) _=_
   cases hc:c != 0 with
   | true=>rfl
   | false =>
    have:c=0:=by simpa using hc
    subst this
    rw [cond_false,show IntKind.i64.wrap ((2:Int)+1)=3 from rfl,LJ,NG,Sd (by simp)]
    rfl
theorem anE {k:Nat} (hk:1000 <= k) {j:jd} (h:JS j) {n:Int} (hn:0 <= n /\ n <= 1000) (ht:0 <= j.1 /\ j.1 <= 1000) (l:List jg):alQ k j n l=some ((FD n l j,()),()):=by
 have hh:=h.held
 have hb:ajy k j n=some ((agk n j,()),()):=by
  unfold ajy agk
  cases j.2.2.2.1==2 with
  | true=>simp only [cond_true];rw [Uu (n:=n+n) (by omega) (by omega),Uu (by omega) (by omega)]
  | false =>
   simp only [cond_false]
   cases j.2.2.2.2.2.2.2 with
   | true=>rfl
   | false=>simp only [cond_false];rw [Uu (by omega) (by omega)]
 unfold alQ apm FD
 rw [anD hk (by omega) ht.2,Option.bind_some,hb]
 simp only
 cases (ahm l j.2.2.2.2.2.2.1 j.1).2 <;> rfl
theorem agm {k:Nat} {i:Nat} (hi:i<8):ajA k 0 (i:Int)=some ((((2 ^ i:Nat):Int),()),()):=by
 have:i=0 \/ i=1 \/ i=2 \/ i=3 \/ i=4 \/ i=5 \/ i=6 \/ i=7:=by omega
 rcases this with rfl | rfl | rfl | rfl | rfl | rfl | rfl | rfl <;> (show _=_;kernel_rfl)
theorem ahn {k:Nat} (hk:1000 <= k) {i:Nat} (hi:i<8):apr k ((2 ^ i:Nat):Int)=some (((i:Int),true,()),()):=by
 have:i=0 \/ i=1 \/ i=2 \/ i=3 \/ i=4 \/ i=5 \/ i=6 \/ i=7:=by omega
 obtain ⟨k,rfl⟩:∃ m,k=m+1000:=⟨k - 1000,by omega⟩
 rcases this with rfl | rfl | rfl | rfl | rfl | rfl | rfl | rfl <;> (show _=_;kernel_rfl)
def YW (l:List Pk3):Nat -> Nat -> Nat -> Nat
 | 0,_,m=>m
 | d+1,i,m=>YW l d (i+1) (if UO (l.getD i pk0) (l.getD m pk0)<0 then i else m)
theorem YX {l:List Pk3}:∀ (d i m:Nat),i+d=l.length -> m<l.length -> YW l d i m<l.length
 | 0,_,m,_,h=>h
 | d+1,i,m,h,hm=>by
  rw [YW]
  exact YX d (i+1) _ (by omega) (by split <;> omega)
theorem OG {k:Nat} (hk:1000 <= k) {l:List Pk3} (hl:l.length <= 8) (hd:∀ a b,a<l.length -> b<l.length -> a≠b -> UO (l.getD a pk0) (l.getD b pk0)≠0):∀ (d i j m:Nat),i+d=l.length -> d<j -> m<i ->
  NH k j (l.getD m pk0).1 (l.getD m pk0).2.1 (l.getD m pk0).2.2 ((2 ^ m:Nat):Int) l (l.length:Int) (i:Int)=some ((((YW l d i m:Nat):Int),()),())
 | 0,i,j,m,h,hjj,hm=>by
  obtain ⟨j',rfl⟩:∃ j',j=j'+1:=⟨j - 1,by omega⟩
  rw [TH,TG,Sd (by omega),ahn hk (by omega)]
  rfl
 | d+1,i,j,m,h,hjj,hm=>by
  obtain ⟨j',rfl⟩:∃ j',j=j'+1:=⟨j - 1,by omega⟩
  have hi:i<l.length:=by omega
  have hne:=hd i m hi (by omega) (by omega)
  rw [TH,TG,Sc (by omega),Qo hi,Qp,show ((l.getD m pk0).1,(l.getD m pk0).2.1,(l.getD m pk0).2.2)=l.getD m pk0 from rfl,agl hk,Option.bind_some,YW,Mi (by omega)]
  simp only
  by_cases hc:UO (l.getD i pk0) (l.getD m pk0)<0
  ·rw [Sc hc,if_pos hc,agm (by omega),Option.bind_some]
   exact OG hk hl hd d (i+1) j' i (by omega) (by omega) (by omega)
  ·rw [Sd hc,if_neg hc,beq_eq_false_iff_ne.2 hne,cond_false]
   exact OG hk hl hd d (i+1) j' m (by omega) (by omega) (by omega)
theorem WL (p:Pk3):UO p p=0:=by
 unfold UO KI
 simp
theorem anF {k:Nat} (hk:1000 <= k) {l:List Pk3} (hl:l.length <= 8) (h0:0<l.length) (hd:∀ a b,a<l.length -> b<l.length -> a≠b -> UO (l.getD a pk0) (l.getD b pk0)≠0):alS k l=some ((((YW l l.length 0 0:Nat):Int),()),()):=by
 unfold alS
 obtain ⟨d,hdd⟩:∃ d,l.length=d+1:=⟨l.length - 1,by omega⟩
 obtain ⟨j,hj⟩:∃ j,k=j+1:=⟨k - 1,by omega⟩
 rw [Lj (by omega) (by omega)]
 conv=>lhs;rw [show ∀ a b c r l n i,NH k k a b c r l n i=NH k (j+1) a b c r l n i from fun a b c r l n i=>by rw [<- hj]]
 rw [TH,TG,Sc (by omega),Lj (by omega) (by omega)]
 show Option.bind (agT k (l.getD 0 pk0) (l.getD 0 pk0)) _=_
 rw [agl hk,WL,Option.bind_some]
 simp only [beq_self_eq_true,cond_true]
 rw [Sd (by omega)]
 have:=agm (k:=k) (i:=0) (by omega)
 rw [show ajA k 0 0=_ from this,Option.bind_some,hdd,YW,if_neg (by rw [WL];omega)]
 have e:=OG hk hl hd d 1 j 0 (by omega) (by omega) (by omega)
 rw [hdd] at e
 exact e
theorem WM {k:Nat} (hk:1000 <= k) {n:Int} (hn:0 <= n /\ n <= 1000) {l:List jg} {js:List jd} (hl:js.length <= 900) (hj:∀ j∈js,JS j /\ 0 <= j.1 /\ j.1 <= 1000):∀ (d i j:Nat),i+d=js.length -> d<j ->
  Ya k j n l 0 false ((js.take i).map (FD n l)) js (js.length:Int) (i:Int)=NI k k 0 false (js.map (FD n l)) 0
 | 0,i,j,h,hjj=>by
  obtain ⟨j',rfl⟩:∃ j',j=j'+1:=⟨j - 1,by omega⟩
  rw [aaU,Y9,Sd (by omega),List.take_of_length_le (by omega)]
 | d+1,i,j,h,hjj=>by
  obtain ⟨j',rfl⟩:∃ j',j=j'+1:=⟨j - 1,by omega⟩
  have hi:i<js.length:=by omega
  have hh:=hj _ (jo (z:=ay) hi)
  rw [aaU,Y9,Sc (by omega),Qo hi,Qp,anE hk hh.1 hn hh.2 l,Option.bind_some,Rz (by simp;omega),Mi (by omega)]
  have e:(js.take i).map (FD n l)++[FD n l (js.getD i ay)]=(js.take (i+1)).map (FD n l):=by
   rw [List.take_succ_eq_append_getElem hi,List.map_append,getD_in hi];rfl
  rw [e]
  exact WM hk hn hl hj d (i+1) j' (by omega) (by omega)
def HV (js:List jd) (n:Int) (l:List jg):Nat:=YW (js.map (FD n l)) js.length 0 0
def aoE (js:List jd) (n:Int) (l:List jg):Prop:=∀ a b,a<js.length -> b<js.length -> a≠b -> UO (FD n l (js.getD a ay)) (FD n l (js.getD b ay))≠0
theorem MI {α β:Type} {f:α -> β} {l:List α} {i:Nat} (z:α) (w:β) (h:i<l.length):(l.map f).getD i w=f (l.getD i z):=by
 rw [getD_in (by rw [List.length_map];exact h),getD_in h,List.getElem_map]
theorem anG {k:Nat} (hk:1000 <= k) {n:Int} (hn:0 <= n /\ n <= 1000) {l:List jg} {js:List jd} (hl:js.length <= 8) (hj:∀ j∈js,JS j /\ 0 <= j.1 /\ j.1 <= 1000) (hd:aoE js n l) :
  alT k js n l=some ((((HV js n l:Nat):Int),!(js.isEmpty),()),()):=by
 unfold alT
 have e:=WM (l:=l) hk hn (by omega) hj js.length 0 k (by omega) (by omega)
 rw [List.take_zero,List.map_nil] at e
 refine e.trans ?_
 have hlen:(js.map (FD n l)).length=js.length:=List.length_map _
 by_cases h0:js.length=0
 ·have:js=[]:=List.eq_nil_of_length_eq_zero h0
  subst this
  obtain ⟨k,rfl⟩:∃ m,k=m+1:=⟨k - 1,by omega⟩
  rw [TK,TJ,Sd (by simp)]
  rfl
 ·obtain ⟨j,hjk⟩:∃ j,k=j+2:=⟨k - 2,by omega⟩
  have hf:=anF hk (l:=js.map (FD n l)) (by omega) (by omega) (fun a b ha hb hab=>by
   rw [MI ay _ (by omega),MI ay _ (by omega)]
   exact hd a b (by omega) (by omega) hab)
  have hsub:sub (js.map (FD n l)) 0 (mn (IntKind.i64.wrap (0+64)) ((js.map (FD n l)).length:Int))=js.map (FD n l):=by
   have hm:mn (IntKind.i64.wrap (0+64)) ((js.map (FD n l)).length:Int)=(js.length:Int):=by
    rw [Sg,Uu (by omega) (by omega)];omega
   rw [hm]
   unfold sub
   rw [List.take_of_length_le (by rw [hlen];omega)];rfl
  have hmin:=YX (l:=js.map (FD n l)) js.length 0 0 (by omega) (by omega)
  have hem:js.isEmpty=false:=by cases js with | nil=>simp at h0 | cons a l=>rfl
  conv=>lhs;rw [show ∀ a b c d,NI k k a b c d=NI k (j+1+1) a b c d from fun a b c d=>by rw [<- hjk]]
  rw [TK,TJ,Sc (by omega),Rx (by omega) (by rw [Sg,Uu (by omega) (by omega)];omega) (by rw [Sg];omega),hsub,hf,Option.bind_some]
  simp only [Bool.not_false,cond_true]
  rw [TK,TJ,Sd (by rw [Uu (by omega) (by omega)];omega),hlen,hem,Uu (n:=0+((YW (js.map (FD n l)) js.length 0 0:Nat):Int)) (by omega) (by omega),Int.zero_add]
  rfl
theorem aho {a b:Int}:KI a b=0↔a=b:=by
 unfold KI
 by_cases h:a<b
 ·rw [Sc h];constructor <;> intro h2 <;> omega
 ·rw [Sd h]
  by_cases h3:a>b
  ·rw [Sc h3];constructor <;> intro h2 <;> omega
  ·rw [Sd h3];constructor
   ·intro _;omega
   ·intro _;rfl
theorem ahp {p q:Pk3} (h:UO p q=0):p.2.2=q.2.2:=by
 unfold UO at h
 cases h1:KI p.1 q.1 != 0 with
 | true=>rw [h1,cond_true] at h;simp [h] at h1
 | false =>
  rw [h1,cond_false] at h
  cases h2:KI p.2.1 q.2.1 != 0 with
  | true=>rw [h2,cond_true] at h;simp [h] at h2
  | false=>rw [h2,cond_false] at h;exact aho.1 h
def rising (js:List jd):Prop:=js.Pairwise (fun a b=>a.1<b.1)
theorem OH {js:List jd} (h:rising js) {a b:Nat} (ha:a<js.length) (hb:b<js.length) (hab:a≠b):(js.getD a ay).1≠(js.getD b ay).1:=by
 rw [getD_in ha,getD_in hb]
 have:=List.pairwise_iff_getElem.1 h
 rcases Nat.lt_or_gt_of_ne hab with hl | hl
 ·have:=this a b ha hb hl;omega
 ·have:=this b a hb ha hl;omega
theorem abL {js:List jd} (h:rising js) (n:Int) (l:List jg):aoE js n l:=fun a b ha hb hab e=>OH h ha hb hab (ahp e)
theorem CY:∀ {js:List jd} {lo n:Int},rising js -> (∀ j∈js,lo <= j.1 /\ j.1<n) -> lo <= n -> (js.length:Int) <= n - lo
 | [],lo,n,_,_,h=>by simp;omega
 | a::js,lo,n,h,hb,hl=>by
  have h1:=List.pairwise_cons.1 h
  have ha:=hb a List.mem_cons_self
  have:=CY (lo:=a.1+1) h1.2 (fun j hj=>⟨by have:=h1.1 j hj;omega,(hb j (List.mem_cons_of_mem _ hj)).2⟩) (by omega)
  simp only [List.length_cons];omega
theorem rising_map {f:jd -> jd} (hf:∀ j,(f j).1=j.1) {js:List jd} (h:rising js):rising (js.map f):=by
 unfold rising
 rw [List.pairwise_map]
 exact List.Pairwise.imp (fun {a b} hab=>by rw [hf,hf];exact hab) h
theorem agn {k:Nat} {js:List jd} {i:Nat} {x:jd} (h:i<js.length) (hl:js.length <= 900):S72 k (upd js (i:Int) x) (i:Int) (IntKind.i64.wrap ((i:Int)+1))=some ((js.take i++js.drop (i+1),()),()):=by
 unfold S72 Jk
 rw [Mi (by omega),Mj]
 refine (if_pos ?_).trans ?_
 ·simp only [Bool.and_eq_true]
  refine ⟨decide_eq_true (by show (0:Int) <= (i:Int);omega),decide_eq_true (by show (i:Int) <= ((i+1:Nat):Int);omega),decide_eq_true ?_⟩
  show ((i+1:Nat):Int) <= ((js.set i x).length:Int)
  rw [List.length_set];omega
 ·show some (((js.set i x).take (i:Int).toNat++(js.set i x).drop ((i+1:Nat):Int).toNat,()),())=_
  rw [Int.toNat_natCast,Int.toNat_natCast,List.take_set_of_le (by omega),List.drop_set_of_lt (by omega)]
theorem acQ (u:jh) (j:jd):(sw u j).2.1.1=u.1 \/ ∃ w,(sw u j).2.1.1=z9 u.1 w /\ w.1.length=u.1.2.2.2.2.2.2.2.2.2.1.length /\ w.2=u.1.2.2.2.2.2.2.2.2.2.2:=by
 unfold sw
 cases j.2.2.2.1==2 with
 | true=>exact .inl rfl
 | false =>
  refine .inr ⟨(u.1.2.2.2.2.2.2.2.2.2.1.set j.1.toNat 0,u.1.2.2.2.2.2.2.2.2.2.2),?_,by simp,rfl⟩
  rw [cond_false]
  cases (j.2.2.2.1==0)&&decide (((u.1.2.2.1.getD j.1.toNat bg).2.2.2.2.1.length:Int)>0) <;> rfl
def CH (K K2:je):Prop:=∃ T w,K2=w8 (z9 K w) T /\ (yu K.2.2.2.2.2.2.2.2.1 -> yu T) /\ T.2.length=K.2.2.2.2.2.2.2.2.1.2.length /\ (yu K.2.2.2.2.2.2.2.2.1 -> jv T=jv K.2.2.2.2.2.2.2.2.1) /\ w.1.length=K.2.2.2.2.2.2.2.2.2.1.length /\ w.2.length=K.2.2.2.2.2.2.2.2.2.2.length
theorem CH.refl (K:je):CH K K:=⟨_,_,rfl,id,rfl,fun _=>rfl,rfl,rfl⟩
theorem CH.lock {K:je} (h:yu K.2.2.2.2.2.2.2.2.1) (k:Nat) (l:List jg):CH K (ED k K l):=by
 obtain ⟨g1,g2,g3,g4,_⟩:=UM (k:=k) h l
 exact ⟨_,_,rfl,fun _=>g1,g2,fun _=>g3,rfl,rfl⟩
theorem CH.done {K:je} {u:jh} (h:CH K u.1) (j:jd):CH K (sw u j).2.1.1:=by
 obtain ⟨T,w,e,h1,h2,h3,h4,h5⟩:=h
 rcases acQ u j with q | ⟨w2,q,q1,q2⟩
 ·rw [q];exact ⟨T,w,e,h1,h2,h3,h4,h5⟩
 ·rw [q,e]
  rw [e] at q1 q2
  exact ⟨T,w2,rfl,h1,h2,h3,q1.trans h4,by rw [q2];exact h5⟩
theorem CH.goes {u:jh} (h:yu u.1.2.2.2.2.2.2.2.2.1) (k:Nat) (j:jd):CH u.1 (JX k u j).2.1.1:=by
 unfold JX
 simp only
 generalize pz (qo (u.1.2.2.1.getD j.1.toNat bg) j.2.2.2.1) j.2.2.2.2.1=x
 have fin:∀ v:jh,CH u.1 v.1 -> CH u.1 ((bif (y8 (u.1.2.2.1.getD j.1.toNat bg) j).2.2.2.2.1.2.2.2 then sw v (y8 (u.1.2.2.1.getD j.1.toNat bg) j) else (false,v,y8 (u.1.2.2.1.getD j.1.toNat bg) j)):MF).2.1.1:=fun v hv=>by
  cases (y8 (u.1.2.2.1.getD j.1.toNat bg) j).2.2.2.2.1.2.2.2 with
  | false=>exact hv
  | true=>exact hv.done _
 cases x.1==9 with
 | true=>exact fin _ (CH.lock h k _)
 | false =>
  cases x.1==10 with
  | true=>exact fin _ (CH.lock h k _)
  | false=>exact fin _ (CH.refl _)
theorem CH.hits {u:jh} (h:yu u.1.2.2.2.2.2.2.2.2.1) (k:Nat) (j:jd):CH u.1 (MH k u j).2.1.1:=CH.lock h k _
noncomputable def G8 (k:Nat) (u:jh) (j:jd):MF:=bif u.1.2.2.2.2.2.2.1 then MH k (j5 u (0,2,j.1,0,0,0)) j else JX k (j5 u (0,2,j.1,0,0,0)) j
theorem CH.run {u:jh} (h:yu u.1.2.2.2.2.2.2.2.2.1) (k:Nat) (j:jd):CH u.1 (G8 k u j).2.1.1:=by
 unfold G8
 cases u.1.2.2.2.2.2.2.1 with
 | true=>exact CH.hits (u:=j5 u (0,2,j.1,0,0,0)) h k j
 | false=>exact CH.goes (u:=j5 u (0,2,j.1,0,0,0)) h k j
noncomputable def zm (k:Nat) (u:jh):jh :=
 bif u.1.2.2.2.2.2.1||u.1.2.2.2.2.2.2.2.1.isEmpty then u
 else
  let i:=HV u.1.2.2.2.2.2.2.2.1 (u.1.2.2.1.length:Int) (kg u.1.2.2.2.2.2.2.2.2.1)
  let r:=G8 k u (u.1.2.2.2.2.2.2.2.1.getD i ay)
  (w7 r.2.1.1 (bif r.1 then u.1.2.2.2.2.2.2.2.1.take i++u.1.2.2.2.2.2.2.2.1.drop (i+1) else u.1.2.2.2.2.2.2.2.1.set i r.2.2),r.2.1.2)
theorem next_lt {js:List jd} (h:js.isEmpty=false) (n:Int) (l:List jg):HV js n l<js.length:=by
 have h0:0<js.length:=by cases js with | nil=>simp at h | cons a l=>simp
 have:=YX (l:=js.map (FD n l)) js.length 0 0 (by simp) (by simpa using h0)
 simpa [HV] using this
theorem apV {k:Nat} (hk:1000 <= k) {u:jh} (hL:p9 u.1.2.2.1) (h8:u.1.2.2.1.length <= 8) (hT:yu u.1.2.2.2.2.2.2.2.2.1) (hj:∀ j∈u.1.2.2.2.2.2.2.2.1,GO u.1 j) (hris:rising u.1.2.2.2.2.2.2.2.1) (hr:u.1.2.2.2.2.2.2.2.2.2.1.length=u.1.2.2.1.length) (ho:u.1.2.2.2.2.2.2.2.2.2.2.length <= 900) (he:u.2.length <= 970000) :
  S81 k u=some ((),zu (zm k u),()):=by
 have hlen:=CY hris (fun j h=>(hj j h).task) (by omega)
 have hle:=hT.1.2.2
 unfold S81 zm
 rw [OD hk hle,Option.bind_some]
 simp only
 rw [anG hk ⟨by omega,by omega⟩ (by omega) (fun j h=>⟨(hj j h).js,by have:=(hj j h).task;omega⟩) (abL hris _ _),Option.bind_some]
 simp only
 cases hh:u.1.2.2.2.2.2.1 with
 | true=>rfl
 | false =>
  rw [cond_false,Bool.false_or]
  cases hem:u.1.2.2.2.2.2.2.2.1.isEmpty with
  | true=>rfl
  | false =>
   have hmin:=next_lt hem (u.1.2.2.1.length:Int) (kg u.1.2.2.2.2.2.2.2.2.1)
   generalize HV u.1.2.2.2.2.2.2.2.1 (u.1.2.2.1.length:Int) (kg u.1.2.2.2.2.2.2.2.2.1)=i at hmin ⊢
   have hin:=hj _ (jo (z:=ay) hmin)
   simp only [Bool.not_false,Bool.not_true,cond_false]
   rw [Qo hmin,Qp,CX (by omega),Option.bind_some]
   simp only [Z7]
   generalize u.1.2.2.2.2.2.2.2.1.getD i ay=j at hin ⊢
   have tail:∀ r:MF,CH u.1 r.2.1.1 -> (ix r.2.1.1.2.2.2.2.2.2.2.1 (i:Int) (bif r.1 then (S72 k (upd r.2.1.1.2.2.2.2.2.2.2.1 (i:Int) r.2.2) (i:Int) (IntKind.i64.wrap ((i:Int)+1))).bind (fun q=>some ((),zu (w7 r.2.1.1 q.1.1,r.2.1.2),())) else some ((),zu (w7 r.2.1.1 (upd r.2.1.1.2.2.2.2.2.2.2.1 (i:Int) r.2.2),r.2.1.2),())):Option (Unit×(Int×Int×List iy×List WC×Bool×Bool×Bool×List jd×List Int×List Bool×List Th×List Int×List Bool×List jf×Unit)×Unit))=some ((),zu (w7 r.2.1.1 (bif r.1 then u.1.2.2.2.2.2.2.2.1.take i++u.1.2.2.2.2.2.2.2.1.drop (i+1) else u.1.2.2.2.2.2.2.2.1.set i r.2.2),r.2.1.2),()):=fun r hc=>by
    have ejs:r.2.1.1.2.2.2.2.2.2.2.1=u.1.2.2.2.2.2.2.2.1:=by obtain ⟨T,w,e,_⟩:=hc;rw [e];rfl
    rw [ejs,Qo hmin,agn hmin (by omega),Option.bind_some,Mj]
    cases r.1 <;> rfl
   have hc:=CH.run (u:=u) hT k j
   unfold G8 at hc ⊢
   rw [show (j5 u (0,2,j.1,0,0,0)).1.2.2.2.2.2.2.1=u.1.2.2.2.2.2.2.1 from rfl]
   have het:(j5 u (0,2,j.1,0,0,0)).2.length <= 980000:=by simp [j5];omega
   cases hhi:u.1.2.2.2.2.2.2.1 with
   | true =>
    rw [hhi,cond_true] at hc
    rw [cond_true,cond_true,anC (u:=j5 u (0,2,j.1,0,0,0)) hk (by show u.1.2.2.1.length <= 900;omega) hT hin.js hin.task het,Option.bind_some]
    simp only [Z7,vrJ]
    exact tail _ hc
   | false =>
    rw [hhi,cond_false] at hc
    rw [cond_false,cond_false,anz (u:=j5 u (0,2,j.1,0,0,0)) hk hL hT hin hr ho het,Option.bind_some]
    simp only [Z7,vrJ]
    exact tail _ hc
structure KJ (K:je):Prop where
 ji:JI K
 FE:K.2.2.1.length <= 8
 go:∀ j∈K.2.2.2.2.2.2.2.1,GO K j
 OI:rising K.2.2.2.2.2.2.2.1
theorem KJ.len {K:je} (h:KJ K):K.2.2.2.2.2.2.2.1.length <= 8:=by
 have:=CY h.OI (fun j hj=>(h.go j hj).task) (by omega)
 have:=h.FE
 omega
theorem GO.congr {K K2:je} {j:jd} (h:GO K j) (e:K2.2.2.1=K.2.2.1):GO K2 j:=⟨h.js,h.few,h.held,by rw [e];exact h.task,h.phase,by rw [e];exact h.m⟩
theorem UQ {K:je} {k:Nat}:∀ (js:List jd) (s:jh×List jd),UI K s.1 -> UI K (js.foldl (BO k) s).1 /\ (js.foldl (BO k) s).1.2.length <= s.1.2.length+3 * js.length /\ ∃ l,l.Sublist js /\ (js.foldl (BO k) s).2=s.2++l
 | [],s,h=>⟨h,by simp,[],List.Sublist.refl _,by simp⟩
 | j::js,s,h=>by
  obtain ⟨g1,g2,g3⟩:=h.end_ (k:=k) j
  obtain ⟨f1,f2,l,f3,f4⟩:=UQ (k:=k) js (BO k s j) g1
  rw [List.foldl_cons]
  refine ⟨f1,by simp only [List.length_cons];omega,?_⟩
  have:(BO k s j).2=s.2++[j] \/ (BO k s j).2=s.2:=by
   unfold BO
   cases IntKind.i64.wrap (s.1.1.1 - j.2.1) != (s.1.1.2.2.1.getD j.1.toNat bg).2.2.1 with
   | true=>exact .inl rfl
   | false=>cases j.2.2.2.1==2 <;> exact .inr rfl
  rcases this with q | q
  ·exact ⟨j::l,f3.cons_cons j,by rw [f4,q];simp⟩
  ·exact ⟨l,f3.cons j,by rw [f4,q]⟩
theorem MJ (now:Int) (bs:List WC) (j:jd):uy now bs j=j \/ uy now bs j=z7 j true:=by
 unfold uy
 cases j.2.2.2.1 != 2 with
 | false=>exact .inl rfl
 | true =>
  rw [cond_true]
  cases decide (IntKind.i64.wrap (now - j.2.1)≥(bs.getD j.1.toNat bd0).2.2.2.2) with
  | false=>exact .inl rfl
  | true=>exact .inr rfl
theorem GO.prom {K:je} {j:jd} (h:GO K j) (now:Int) (bs:List WC):GO K (uy now bs j):=by
 rcases MJ now bs j with e | e <;> rw [e]
 ·exact h
 ·exact ⟨⟨h.js.m,h.js.kept,h.js.held,h.js.pos⟩,h.few,h.held,h.task,h.phase,h.m⟩
theorem GO.loses {K:je} {j:jd} (h:GO K j) (s:Int):GO K (zk j s):=by
 have hl:=List.length_filter_le (fun x=>!(x==s)) j.2.2.2.2.2.2.1
 exact ⟨WK h.js s,h.few,by have:=h.held;show (DK _ _).length <= 90;unfold DK;omega,h.task,h.phase,h.m⟩
def uz (T:Tb) (ps:List Int) (j:jd):jd:=ps.foldl (fun j a=>bif decide (qw (fun x=>a==x) (qb (jv T))≥0) then zk j (qw (fun x=>a==x) (qb (jv T))) else j) j
def G5 (now:Int):List Int -> List (List Int) -> List jf
 | a::l,w=>[(now,11,0,a,0,0)]++(w.headD []).map (fun c=>(now,12,0,c,0,15))++G5 now l w.tail
 | [],_=>[]
theorem OJ {now:Int}:∀ (l:List Int) (w:List (List Int)),(∀ x∈w,x.length <= 200) -> (G5 now l w).length <= 201 * l.length
 | [],w,_=>by simp [G5]
 | a::l,[],h=>by have:=OJ (now:=now) l [] (by simp);simp only [G5,List.length_append,List.length_cons,List.length_nil,List.tail_nil,List.headD_nil,List.map_nil];omega
 | a::l,x::w,h=>by
  have:=OJ (now:=now) l w (fun y hy=>h y (by simp [hy]))
  have hx:=h x (by simp)
  simp only [G5,List.length_append,List.length_cons,List.length_nil,List.tail_cons,List.headD_cons,List.length_map];omega
theorem abM {T:Tb}:∀ (ps:List Int) (w:List (List Int)) (u:jh),u.1.2.2.2.2.2.2.2.2.1=T -> KH ps w u=(w7 u.1 (u.1.2.2.2.2.2.2.2.1.map (uz T ps)),u.2++G5 u.1.1 ps w)
 | [],w,u,h=>by
  unfold KH uz G5
  simp only [List.foldl_nil,List.map_id',List.append_nil];rfl
 | a::l,w,u,h=>by
  have hf:∀ (w:List Int) (u:jh),w.foldl ME u=(u.1,u.2++w.map (fun c=>(u.1.1,12,0,c,0,15))):=fun w=>by
   induction w with
   | nil=>intro u;simp
   | cons c w ih=>intro u;rw [List.foldl_cons,ih];simp [ME,j5]
  have e:abH u a (w.headD [])=(w7 u.1 (u.1.2.2.2.2.2.2.2.1.map fun j=>bif decide (qw (fun x=>a==x) (qb (jv T))≥0) then zk j (qw (fun x=>a==x) (qb (jv T))) else j),u.2++([(u.1.1,11,0,a,0,0)]++(w.headD []).map (fun c=>(u.1.1,12,0,c,0,15)))):=by
   unfold abH
   simp only
   rw [hf,h]
   cases decide (qw (fun x=>a==x) (qb (jv T))≥0) with
   | true=>simp only [cond_true,j5,List.append_assoc]
   | false=>simp only [cond_false,j5,List.append_assoc,List.map_id'];rfl
  rw [KH,e,abM l w.tail _ (by exact h)]
  unfold uz
  simp only [List.foldl_cons,G5,List.append_assoc]
  refine Prod.ext ?_ rfl
  show w7 (w7 u.1 _) (List.map _ (List.map _ _))=_
  rw [List.map_map]
  rfl
theorem UR (k:Nat) (u:jh) (hT:yu u.1.2.2.2.2.2.2.2.2.1):abI k u=(w7 (w8 u.1 (u.1.2.2.2.2.2.2.2.2.1.1,(uq k u.1.2.2.2.2.2.2.2.2.1).1)) (u.1.2.2.2.2.2.2.2.1.map (uz u.1.2.2.2.2.2.2.2.2.1 (uq k u.1.2.2.2.2.2.2.2.2.1).2.1)),u.2++G5 u.1.1 (uq k u.1.2.2.2.2.2.2.2.2.1).2.1 (uq k u.1.2.2.2.2.2.2.2.2.1).2.2):=by
 have h3:=(YS (k:=k) hT).2.2.1
 have e:∀ (T T2:Tb) (ps:List Int),jv T2=jv T -> uz T2 ps=uz T ps:=fun T T2 ps h=>by funext j;unfold uz;rw [h]
 unfold abI
 rw [abM (T:=(u.1.2.2.2.2.2.2.2.2.1.1,(uq k u.1.2.2.2.2.2.2.2.2.1).1)) _ _ _ rfl,e _ _ _ h3]
 rfl
theorem EG {T:Tb}:∀ (ps:List Int) (j:jd),(uz T ps j=w6 j (uz T ps j).2.2.2.2.2.2.1) /\ (∀ x∈(uz T ps j).2.2.2.2.2.2.1,x∈j.2.2.2.2.2.2.1) /\ ∀ K:je,GO K j -> GO K (uz T ps j)
 | [],j=>⟨rfl,fun x h=>h,fun K h=>h⟩
 | a::ps,j=>by
  unfold uz
  rw [List.foldl_cons]
  cases decide (qw (fun x=>a==x) (qb (jv T))≥0) with
  | false=>exact EG ps j
  | true =>
   rw [cond_true]
   obtain ⟨h1,h2,h3⟩:=EG (T:=T) ps (zk j (qw (fun x=>a==x) (qb (jv T))))
   exact ⟨h1,fun x hx=>(List.mem_filter.1 (h2 x hx)).1,fun K h=>h3 K (h.loses _)⟩
structure TI (K:je) (u:jh):Prop where
 same:∃ h T w js,u.1=w7 (chg K h T w) js
 tab:yu u.1.2.2.2.2.2.2.2.2.1
 sem:jv u.1.2.2.2.2.2.2.2.2.1=jv K.2.2.2.2.2.2.2.2.1
 row:u.1.2.2.2.2.2.2.2.2.2.1.length=K.2.2.1.length
 of:u.1.2.2.2.2.2.2.2.2.2.2.length=K.2.2.1.length
 go:∀ j∈u.1.2.2.2.2.2.2.2.1,GO K j
 OI:rising u.1.2.2.2.2.2.2.2.1
 ev:u.2.length <= 100000
theorem TI.tasks {K:je} {u:jh} (h:TI K u):u.1.2.2.1=K.2.2.1 /\ u.1.2.2.2.1=K.2.2.2.1 /\ u.1.1=K.1 /\ u.1.2.2.2.2.2.2.1=K.2.2.2.2.2.2.1:=by obtain ⟨a,b,c,d,e⟩:=h.same;rw [e];exact ⟨rfl,rfl,rfl,rfl⟩
theorem TI.len {K:je} {u:jh} (h:TI K u) (h8:K.2.2.1.length <= 8):u.1.2.2.2.2.2.2.2.1.length <= 8:=by
 have:=CY h.OI (fun j hj=>(h.go j hj).task) (by omega)
 omega
theorem TI.ends {K:je} (h:KJ K) (k:Nat):TI K (qc k (K,[])) /\ (qc k (K,[])).2.length <= 24:=by
 obtain ⟨⟨a,T,w,e,g1,g2,g3,g4,g5⟩,f2,l,f3,f4⟩:=UQ (K:=K) (k:=k) K.2.2.2.2.2.2.2.1 ((K,[]),[]) (UI.start h.ji.ks.tab [])
 have h1:=h.ji.row
 have h2:=h.ji.of
 have hl:=h.len
 have hev:(qc k (K,[])).2.length <= 24:=by
  show (List.foldl (BO k) ((K,[]),[]) K.2.2.2.2.2.2.2.1).1.2.length <= _
  simp only [List.length_nil] at f2;omega
 have ek:(qc k (K,[])).1=w7 (chg K a T w) l:=by
  show w7 (List.foldl (BO k) ((K,[]),[]) K.2.2.2.2.2.2.2.1).1.1 (List.foldl (BO k) ((K,[]),[]) K.2.2.2.2.2.2.2.1).2=_
  rw [e,f4];rfl
 exact ⟨⟨⟨a,T,w,l,ek⟩,by rw [ek];exact g1,by rw [ek];exact g3,by rw [ek];exact g4.trans h1,by rw [ek];exact g5.trans h2,by rw [ek];exact fun j hj=>h.go j (f3.subset hj),by rw [ek];exact List.Pairwise.sublist f3 h.OI,by omega⟩,hev⟩
theorem TI.prom {K:je} {u:jh} (h:TI K u):TI K (BI u):=by
 obtain ⟨a,b,c,d,e⟩:=h.same
 refine ⟨⟨a,b,c,d.map (uy K.1 K.2.2.2.1),by unfold BI;rw [e];rfl⟩,h.tab,h.sem,h.row,h.of,fun j hj=>?_,rising_map (fun j=>by rcases MJ u.1.1 u.1.2.2.2.1 j with q | q <;> rw [q] <;> rfl) h.OI,h.ev⟩
 obtain ⟨x,hx,rfl⟩:=List.mem_map.1 (show j∈List.map _ _ from hj)
 exact (h.go x hx).prom _ _
theorem TI.apW {K:je} {u:jh} (h:TI K u) (he:u.2.length <= 24) (k:Nat):TI K (abI k u):=by
 obtain ⟨a1,a2,a3,a4,a5,a6,_⟩:=YS (k:=k) h.tab
 obtain ⟨a,b,c,d,e⟩:=h.same
 have hT:=h.tab.1.2.2
 have hw:=OJ (now:=u.1.1) (uq k u.1.2.2.2.2.2.2.2.2.1).2.1 (uq k u.1.2.2.2.2.2.2.2.2.1).2.2 a5
 rw [UR k u h.tab]
 refine ⟨⟨a,(u.1.2.2.2.2.2.2.2.2.1.1,(uq k u.1.2.2.2.2.2.2.2.2.1).1),c,u.1.2.2.2.2.2.2.2.1.map (uz u.1.2.2.2.2.2.2.2.2.1 (uq k u.1.2.2.2.2.2.2.2.2.1).2.1),by rw [e];rfl⟩,a1,a3.trans h.sem,h.row,h.of,fun j hj=>?_,rising_map (fun j=>by rw [(EG _ j).1];rfl) h.OI,by simp only [List.length_append];omega⟩
 obtain ⟨x,hx,rfl⟩:=List.mem_map.1 (show j∈List.map _ _ from hj)
 exact (EG _ x).2.2 K (h.go x hx)
noncomputable def oq (k:Nat) (K:je):jh:=abI k (BI (qc k (K,[])))
noncomputable def l7 (k:Nat) (K:je):je×List jf :=
 bif K.2.2.2.2.1&&!K.2.2.2.2.2.1 then (w6 (w0 (zm k (oq k K)).1 (IntKind.i64.wrap ((zm k (oq k K)).1.1+1))) false,(zm k (oq k K)).2)
 else (w6 (w0 K (IntKind.i64.wrap (K.1+1))) false,[])
theorem KJ.ahead {K:je} (h:KJ K) (k:Nat):TI K (oq k K):=by
 obtain ⟨t1,he1⟩:=TI.ends h k
 exact t1.prom.apW he1 k
theorem apX {k:Nat} (hk:1000 <= k) {K:je} (h:KJ K):S33 k K=some (((l7 k K).1,(l7 k K).2,()),()):=by
 unfold S33 l7 oq
 rw [UK hk h.ji.ks,Option.bind_some]
 simp only
 cases K.2.2.2.2.1 with
 | false=>rfl
 | true =>
  cases K.2.2.2.2.2.1 with
  | true=>rfl
  | false =>
   obtain ⟨t1,he1⟩:=TI.ends h k
   have h8:=h.FE
   have l1:=t1.len h8
   have t2:=t1.prom
   have l2:=t2.len h8
   have t3:=t2.apW he1 k
   have hb:=h.ji.bnd
   simp only [cond_true,Bool.not_false,Bool.and_self]
   rw [apR hk h.ji,Option.bind_some]
   simp only [Z7]
   rw [apS hk (by omega) (fun j hj=>by rw [t1.tasks.2.1,hb];exact (t1.go j hj).task),Option.bind_some]
   simp only [Z7]
   rw [apT hk t2.tab (by omega) (fun j hj=>(t2.go j hj).js) (by have:=t2.ev;omega),Option.bind_some]
   simp only [Z7]
   rw [apV hk (by rw [t3.tasks.1];exact h.ji.ks.tasks) (by rw [t3.tasks.1];exact h8) t3.tab (fun j hj=>(t3.go j hj).congr t3.tasks.1) t3.OI (by rw [t3.tasks.1];exact t3.row) (by have:=t3.of;omega) (by have:=t3.ev;omega),Option.bind_some]
   simp only [Z7]
def nk (p:Int):List jd -> Nat
 | []=>0
 | j::l=>bif decide (j.1<p) then nk p l+1 else 0
theorem PY (p:Int):∀ (l:List jd) (n:Nat),n <= l.length -> (∀ a,a<n -> (l.getD a ay).1<p) -> (n<l.length -> ¬ (l.getD n ay).1<p) -> nk p l=n
 | [],n,h,_,_=>by simp at h;rw [h];rfl
 | x::l,0,_,_,h2=>by
  have h3:¬ x.1<p:=h2 (by simp)
  rw [nk,decide_eq_false h3,cond_false]
 | x::l,n+1,h,h1,h2=>by
  have h3:x.1<p:=h1 0 (by omega)
  rw [nk,decide_eq_true h3,cond_true,PY p l n (by simpa using h) (fun a ha=>h1 (a+1) (by omega)) (fun hn=>h2 (by simpa using hn))]
theorem YZ (p:Int):∀ l:List jd,nk p l <= l.length
 | []=>Nat.le_refl _
 | x::l=>by
  rw [nk]
  cases decide (x.1<p) with
  | true=>rw [cond_true,List.length_cons];have:=YZ p l;omega
  | false=>rw [cond_false];omega
theorem apY:∀ n:Fin 17,IntKind.i64.wrap (Ul .u64 (IntKind.u64.wrap (IntKind.i64.wrap ((n.1:Nat):Int))) 1)=((n.1 / 2:Nat):Int):=by decide
theorem akI {a b:Nat} (h:a+b <= 16):IntKind.i64.wrap (Ul .u64 (IntKind.u64.wrap (IntKind.i64.wrap ((a:Int)+(b:Int)))) 1)=(((a+b) / 2:Nat):Int):=by
 have:=apY ⟨a+b,by omega⟩
 simpa using this
theorem OL {k:Nat} {js:List jd} {p:Int} (hl:js.length <= 8) (hp:0 <= p /\ p <= 1000) (ht:∀ j∈js,0 <= j.1 /\ j.1 <= 1000) (hr:rising js):∀ (m fu a b:Nat),b - a <= m -> m<fu -> a <= b -> b <= js.length -> (∀ c,c<a -> (js.getD c ay).1<p) -> (∀ c,b <= c -> c<js.length -> p <= (js.getD c ay).1) ->
  SH k fu js p (js.length:Int) (a:Int) (b:Int)=some ((((nk p js:Nat):Int),decide (nk p js<js.length)&&(js.getD (nk p js) ay).1==p,()),())
 | m,fu,a,b,hm,hf,hab,hb,h1,h2=>by
  obtain ⟨f,rfl⟩:∃ f,fu=f+1:=⟨fu - 1,by omega⟩
  rw [aiL,acg]
  by_cases h:a<b
  ·obtain ⟨m',rfl⟩:∃ m',m=m'+1:=⟨m - 1,by omega⟩
   have hc:(a+b) / 2<js.length:=by omega
   have hb2:=ht _ (jo (z:=ay) hc)
   rw [Sc (by omega),akI (by omega),Qo hc,Qp]
   unfold aiJ
   rw [Option.bind_some,Uu (by omega) (by omega)]
   simp only
   have hmono:∀ x y,x<y -> y<js.length -> (js.getD x ay).1<(js.getD y ay).1:=fun x y hxy hy=>by
    rw [getD_in (by omega),getD_in hy];exact List.pairwise_iff_getElem.1 hr x y (by omega) hy hxy
   by_cases e:(js.getD ((a+b) / 2) ay).1 - p<0
   ·rw [Sc e,Mi (by omega)]
    exact OL hl hp ht hr m' f ((a+b) / 2+1) b (by omega) (by omega) (by omega) hb (fun c hc2=>by
     by_cases e2:c=(a+b) / 2
     ·subst e2;omega
     ·have:=hmono c ((a+b) / 2) (by omega) hc;omega) h2
   ·rw [Sd e]
    exact OL hl hp ht hr m' f a ((a+b) / 2) (by omega) (by omega) (by omega) (by omega) h1 (fun c hc2 hc3=>by
     by_cases e2:c=(a+b) / 2
     ·subst e2;omega
     ·have:=hmono ((a+b) / 2) c (by omega) hc3;omega)
  ·have hba:b=a:=by omega
   subst hba
   have hpos:nk p js=b:=PY p js b hb h1 (fun hn=>by have:=h2 b (by omega) hn;omega)
   rw [Sd (by omega),hpos]
   by_cases h3:b<js.length
   ·have hb2:=ht _ (jo (z:=ay) h3)
    rw [Sc (by omega),Qo h3,Qp]
    unfold aiJ
    rw [Option.bind_some,Uu (by omega) (by omega),decide_eq_true h3,Bool.true_and]
    simp only
    congr 3
    by_cases e:(js.getD b ay).1=p
    ·rw [e];simp
    ·rw [beq_eq_false_iff_ne.2 e,beq_eq_false_iff_ne.2 (by omega)]
   ·rw [Sd (by omega),decide_eq_false h3];rfl
def FH (p now a:Int):jd:=(p,now,a,0,Vh a,Vh a,[],false)
def ug (K:je) (p a:Int):je×List jf×Int :=
 bif !K.2.2.2.2.1 then (K,[],8)
 else bif K.2.2.2.2.2.1 then (K,[],17)
 else bif decide (p<0)||decide (p≥(K.2.2.1.length:Int)) then (K,[],3)
 else bif K.2.2.2.2.2.2.2.2.2.2.getD p.toNat false then (K,[],6)
 else
  let js:=K.2.2.2.2.2.2.2.1
  let i:=nk p js
  bif decide (i<js.length)&&(js.getD i ay).1==p then
   (bif (js.getD i ay).2.2.2.1 != 2 then (K,[],5)
       else (w7 K (js.take i++[FH p K.1 a]++js.drop (i+1)),[(K.1,13,p,0,0,0),(K.1,1,p,0,a,0)],0))
  else (w7 K (js.take i++[FH p K.1 a]++js.drop i),[(K.1,1,p,0,a,0)],0)
theorem apZ {k:Nat} {js:List jd} {i:Nat} {x:jd} (h:i <= js.length) (hl:js.length <= 900):S73 k js (i:Int) [x]=some ((js.take i++[x]++js.drop i,()),()):=by
 unfold S73 Jg
 refine if_pos ?_
 simp only [Bool.and_eq_true]
 refine ⟨decide_eq_true (Int.natCast_nonneg i),decide_eq_true (Int.ofNat_le.2 h),decide_eq_true ?_⟩
 show (js.length+1) * _ <= _
 omega
theorem ap0 {k:Nat} {js:List jd} {i:Nat} (h:i<js.length) (hl:js.length <= 900):S72 k js (i:Int) (IntKind.i64.wrap ((i:Int)+1))=some ((js.take i++js.drop (i+1),()),()):=by
 have:=agn (k:=k) (x:=js.getD i ay) h hl
 rwa [Mj,H7] at this
theorem WO {k:Nat} {p a:Int} {K:je} {e f:Int} {h i l:Bool} {ev:List jf} {n:Nat} (hn:n <= K.2.2.2.2.2.2.2.1.length) (hl:K.2.2.2.2.2.2.2.1.length <= 900) (he:ev.length <= 10) :
  SK k p a K e f h i l ev (n:Int)=some ((w7 K (K.2.2.2.2.2.2.2.1.take n++[FH p K.1 a]++K.2.2.2.2.2.2.2.1.drop n),ev++[(K.1,1,p,0,a,0)],0,()),()):=by
 unfold SK S74 Q5
 simp only [Option.bind_some]
 have e:=apZ (k:=k) (x:=FH p K.1 a) hn hl
 unfold FH Vh at e ⊢
 rw [e,Option.bind_some,Rz (by simp;omega)]
theorem ap1 {k:Nat} (hk:1000 <= k) {K:je} (h:KJ K) (p a:Int):S30 k K p a=some (((ug K p a).1,(ug K p a).2.1,(ug K p a).2.2,()),()):=by
 have h8:=h.len
 have h2:=h.FE
 have h5:=h.ji.of
 unfold S30 ug
 rw [UK hk h.ji.ks,Option.bind_some]
 simp only
 cases K.2.2.2.2.1 with
 | false=>rfl
 | true =>
  cases K.2.2.2.2.2.1 with
  | true=>rfl
  | false =>
   simp only [Bool.not_true,cond_false]
   by_cases hp1:p<0
   ·rw [Sc hp1,decide_eq_true hp1];rfl
   ·rw [Sd hp1,decide_eq_false hp1,Bool.false_or]
    by_cases hp2:p≥(K.2.2.1.length:Int)
    ·rw [Sc hp2,decide_eq_true hp2];rfl
    ·obtain ⟨n,rfl⟩:∃ n:Nat,p=(n:Int):=⟨p.toNat,by omega⟩
     rw [Sd hp2,decide_eq_false hp2,cond_false,Sc (by omega),Qo (by omega),Qp,Int.toNat_natCast]
     cases K.2.2.2.2.2.2.2.2.2.2.getD n false with
     | true=>rfl
     | false =>
      simp only [cond_false]
      have hfind:=OL (k:=k) (p:=(n:Int)) h8 (by omega) (fun j hj=>by have:=(h.go j hj).task;omega) h.OI K.2.2.2.2.2.2.2.1.length k 0 K.2.2.2.2.2.2.2.1.length (by omega) (by omega) (by omega) (by omega) (fun c hc=>by omega) (fun c hc hc2=>by omega)
      have hle:=YZ (n:Int) K.2.2.2.2.2.2.2.1
      unfold XI S71 ao6
      simp only
      rw [show SH k k K.2.2.2.2.2.2.2.1 (n:Int) (K.2.2.2.2.2.2.2.1.length:Int) 0 (K.2.2.2.2.2.2.2.1.length:Int)=_ from hfind]
      simp only [Option.bind_some]
      cases hc:decide (nk (n:Int) K.2.2.2.2.2.2.2.1<K.2.2.2.2.2.2.2.1.length)&&(K.2.2.2.2.2.2.2.1.getD (nk (n:Int) K.2.2.2.2.2.2.2.1) ay).1==(n:Int) with
      | false =>
       simp only [cond_false]
       rw [WO hle (by omega) (by simp)]
       rfl
      | true =>
       have hlt:nk (n:Int) K.2.2.2.2.2.2.2.1<K.2.2.2.2.2.2.2.1.length:=by
        rw [Bool.and_eq_true] at hc;exact of_decide_eq_true hc.1
       simp only [cond_true]
       rw [Qo hlt,Qp]
       cases (K.2.2.2.2.2.2.2.1.getD (nk (n:Int) K.2.2.2.2.2.2.2.1) ay).2.2.2.1 != 2 with
       | true=>rfl
       | false =>
        simp only [cond_false]
        rw [Rz (by simp),ap0 hlt (by omega),Option.bind_some]
        simp only [List.nil_append]
        have hx:(w7 K (K.2.2.2.2.2.2.2.1.take (nk (n:Int) K.2.2.2.2.2.2.2.1)++K.2.2.2.2.2.2.2.1.drop (nk (n:Int) K.2.2.2.2.2.2.2.1+1))).2.2.2.2.2.2.2.1=K.2.2.2.2.2.2.2.1.take (nk (n:Int) K.2.2.2.2.2.2.2.1)++K.2.2.2.2.2.2.2.1.drop (nk (n:Int) K.2.2.2.2.2.2.2.1+1):=rfl
        rw [WO (by rw [hx];simp;omega) (by rw [hx];simp;omega) (by simp),hx]
        generalize nk (n:Int) K.2.2.2.2.2.2.2.1=q at hlt
        generalize K.2.2.2.2.2.2.2.1=js at hlt
        have ht:(js.take q++js.drop (q+1)).take q=js.take q:=by
         rw [List.take_append_of_le_length (by simp;omega),List.take_take,Nat.min_self]
        have hd:(js.take q++js.drop (q+1)).drop q=js.drop (q+1):=by
         rw [List.drop_append_of_le_length (by simp;omega),List.drop_eq_nil_of_le (by simp;omega),List.nil_append]
        rw [ht,hd]
        rfl
def akJ (n:Nat) (x:I4):Bool:=x.1==9&&decide (x.2.1≥(n:Int))
def HY (n:Nat) (t:iy):Bool:=(t.2.2.2.1++t.2.2.2.2.1).any (akJ n)
theorem akK {k:Nat} (hk:1000 <= k) {s:List I4} (h:s.length <= 900) (l:List jg):aec k s l=some ((qw (akJ l.length) s,()),()):=by
 unfold aec
 refine uf (fun j i=>IE k j s l (s.length:Int) i) s i0 _ (fun j i hi=>?_) (fun j=>?_) k (by omega)
 ·show IE k (j+1) s l (s.length:Int) (i:Int)=_
  rw [VE,QO,Sc (by omega),Qo hi,Mi (by omega),Qp]
  unfold S59 akJ
  cases (s.getD i i0).1==9 <;> rfl
 ·show IE k (j+1) s l (s.length:Int) (s.length:Int)=_
  rw [VE,QO,Sd (by omega)]
def agp (ts:List iy) (l:List jg):List jg:=(List.range l.length).map (fun s:Nat=>(xg ts (s:Int),(l.getD s s0).2))
noncomputable def uh (k:Nat) (K:je):je×Int :=
 bif K.2.2.2.2.1 then (K,7)
 else bif K.2.2.1.any (HY (kg K.2.2.2.2.2.2.2.2.1).length) then (K,4)
 else (w4 (ED k K (agp K.2.2.1 (kg K.2.2.2.2.2.2.2.2.1))) true,0)
theorem ap2 {k:Nat} (hk:1000 <= k) {K:je} (h:KS K):S23 k K=some (((uh k K).1,(uh k K).2,()),()):=by
 have hT:=h.tab
 have hle:=hT.1.2.2
 have hsl:=wz K.2.2.2.2.2.2.2.2.1
 have hll:=J9 K.2.2.2.2.2.2.2.2.1
 have hL:=h.tasks
 unfold S23 uh
 rw [UK hk h,Option.bind_some]
 simp only
 cases hru:K.2.2.2.2.1 with
 | true=>rfl
 | false =>
  rw [cond_false,cond_false,OD hk hle,Option.bind_some]
  simp only
  generalize hlv:kg K.2.2.2.2.2.2.2.2.1=l at hll
  have key2:∀ (m i j:Nat),i+m=l.length -> m<j -> XQ k j K 0 0 false false false (((List.range i).map (fun s:Nat=>(xg K.2.2.1 (s:Int),(l.getD s s0).2)))++l.drop i) (l.length:Int) (i:Int)=some ((w4 (ED k K (agp K.2.2.1 l)) true,0,()),()):=by
   intro m
   induction m with
   | zero =>
    intro i j hi hj
    obtain ⟨j,rfl⟩:∃ i,j=i+1:=⟨j - 1,by omega⟩
    rw [aaD,XP,Sd (by omega),drop_nil (by omega),List.append_nil,apQ hk hT (by simp;omega),Option.bind_some]
    simp only [vrK]
    rw [show i=l.length by omega];rfl
   | succ m ih =>
    intro i j hi hj
    obtain ⟨j,rfl⟩:∃ i,j=i+1:=⟨j - 1,by omega⟩
    have hi':i<l.length:=by omega
    have hlen:i<((List.range i).map (fun s:Nat=>(xg K.2.2.1 (s:Int),(l.getD s s0).2))++l.drop i).length:=by simp;omega
    have hg:((List.range i).map (fun s:Nat=>(xg K.2.2.1 (s:Int),(l.getD s s0).2))++l.drop i).getD i s0=l.getD i s0:=by
     rw [lu (by simp),drop_cons s0 hi',show i - ((List.range i).map (fun s:Nat=>(xg K.2.2.1 (s:Int),(l.getD s s0).2))).length=0 by simp];rfl
    have ih:=ih (i+1) j (by omega) (by omega)
    rw [aaD,XP,Sc (by omega),akx hk hL,Option.bind_some,Qo hlen,Mj,Qp,hg,Mi (by omega)]
    simp only
    rw [List.set_append_right _ _ (by simp),show i - ((List.range i).map (fun s:Nat=>(xg K.2.2.1 (s:Int),(l.getD s s0).2))).length=0 by simp,drop_cons s0 hi',List.set_cons_zero]
    rw [List.range_succ,List.map_append,List.append_assoc] at ih
    exact ih
  have key:∀ (m i j:Nat),i+m=K.2.2.1.length -> m<j -> aeh k j K 0 0 false false false l K.2.2.1 (K.2.2.1.length:Int) (i:Int)=bif (K.2.2.1.drop i).any (HY l.length) then some ((K,4,()),()) else some ((w4 (ED k K (agp K.2.2.1 l)) true,0,()),()):=by
   intro m
   induction m with
   | zero =>
    intro i j hi hj
    obtain ⟨j,rfl⟩:∃ i,j=i+1:=⟨j - 1,by omega⟩
    have:=key2 l.length 0 k (by omega) (by omega)
    rw [aei,aeg,Sd (by omega),drop_nil (by omega)]
    exact this
   | succ m ih =>
    intro i j hi hj
    obtain ⟨j,rfl⟩:∃ i,j=i+1:=⟨j - 1,by omega⟩
    have hi':i<K.2.2.1.length:=by omega
    have hl:=hL.2 _ (jo (z:=bg) hi')
    rw [aei,aeg,Sc (by omega),Qo hi',Qp,akv hk hl.1.1 hl.1.2.1,Option.bind_some]
    unfold apb
    rw [akK hk hl.2]
    simp only [Option.bind_some,DN]
    rw [drop_cons bg hi',List.any_cons,Mi (by have:=hL.1;omega),ih (i+1) j (by omega) (by omega)]
    show (bif HY l.length (K.2.2.1.getD i bg) then _ else _)=_
    cases HY l.length (K.2.2.1.getD i bg) <;> rfl
  have:=key K.2.2.1.length 0 k (by omega) (by have:=hL.1;omega)
  rw [List.drop_zero] at this
  refine Eq.trans this ?_
  cases K.2.2.1.any (HY l.length) <;> rfl
structure LV (l:List I4) (m:gy) (tr:List I4) (fin:Mem) (H:List Int):Prop where
 len:l.length <= 900
 ins:∀ x∈l,l5 x=true
 mem:inM m.2.1
 on:m.2.2.2=false
 run:∃ n n2:Nat,m.1=(n:Int) /\ Run l n m.2.1 m.2.2.1.reverse tr n2 fin [] /\ n2<l.length /\ (l.getD n2 i0).1=0
 hld:hld H tr=some []
theorem LV.mok {l:List I4} {m:gy} {tr:List I4} {fin:Mem} {H:List Int} (h:LV l m tr fin H):MOK l m /\ m.2.2.1.length <= 2:=by
 obtain ⟨n,n2,e,hr,h2,h0⟩:=h.run
 obtain ⟨pc,mem,rs,ov⟩:=m
 have e':pc=(n:Int):=e
 subst e'
 have key:n<l.length /\ rs.length <= 2 /\ ∀ r∈rs,r.2.2 <= 1000:=by
  have hr':Run l n mem rs.reverse tr n2 fin []:=hr
  generalize hR:rs.reverse=R at hr'
  have hrs:rs=R.reverse:=by rw [<- hR,List.reverse_reverse]
  subst hrs
  cases hr' with
  | nil=>exact ⟨h2,by simp,by simp⟩
  | cons a b c d f g i r=>exact ⟨a,by rw [List.length_reverse];exact d,fun r hr=>f r (List.mem_reverse.1 hr)⟩
 have hx:=h.ins _ (jo (z:=i0) key.1)
 exact ⟨⟨h.len,⟨by show (0:Int) <= (n:Int);omega,by show (n:Int).toNat<_;rw [Int.toNat_natCast];exact key.1⟩,hx,by have:=key.2.1;show rs.length <= 10;omega,key.2.2,h.mem,h.on⟩,key.2.1⟩
theorem LV.last {l:List I4} {m:gy} {fin:Mem} {H:List Int} (h:LV l m [] fin H):(pz l m).1=0 /\ (stepM l m).2.2.2=true /\ (stepM l m).2.1=fin /\ H=[]:=by
 have hH:=h.hld
 obtain ⟨n,n2,e,hr,h2,h0⟩:=h.run
 obtain ⟨pc,mem,rs,ov⟩:=m
 have e':pc=(n:Int):=e
 subst e'
 have hr':Run l n mem rs.reverse [] n2 fin []:=hr
 generalize hR:rs.reverse=R at hr'
 cases hr' with
 | nil =>
  have hx:∀ mm:Mem,(pz l ((n:Int),mm,rs,ov)).1=0:=fun mm=>by unfold pz;exact h0
  refine ⟨hx _,?_,?_,by simpa [Go.Proofs.YtjjjbcmjmkcedaaGreat.Ab.hld] using hH⟩
  ·unfold stepM
   simp only
   rw [hx];rfl
  ·unfold stepM
   simp only
   unfold R8
   rw [hx];rfl
def HZ (x:I4) (H:List Int):List Int:=bif x.1==9 then H++[x.2.1] else bif x.1==10 then H.dropLast else H
theorem UU {x:I4} {tr:List I4} {H:List Int} (h:hld H (x::tr)=some []):hld (HZ x H) tr=some [] /\ (x.1=9 -> H.length<2 /\ x.2.1 ∉ H) /\ (x.1=10 -> H.getLast? = some x.2.1) /\ (x.1=11 -> H=[]):=by
 rw [hld] at h
 unfold HZ
 by_cases e9:x.1=9
 ·rw [if_pos e9] at h
  split at h
  ·rename_i q
   exact ⟨by rw [show (x.1==9)=true from beq_iff_eq.2 e9,cond_true];exact h,fun _=>q,fun e=>by omega,fun e=>by omega⟩
  ·cases h
 ·rw [if_neg e9] at h
  rw [beq_eq_false_iff_ne.2 e9,cond_false]
  by_cases e10:x.1=10
  ·rw [if_pos e10] at h
   split at h
   ·rename_i q
    exact ⟨by rw [show (x.1==10)=true from beq_iff_eq.2 e10,cond_true];exact h,fun e=>absurd e e9,fun _=>q,fun e=>by omega⟩
   ·cases h
  ·rw [if_neg e10] at h
   rw [beq_eq_false_iff_ne.2 e10,cond_false]
   by_cases e11:x.1=11
   ·rw [if_pos e11] at h
    split at h
    ·rename_i q
     exact ⟨h,fun e=>absurd e e9,fun e=>absurd e e10,fun _=>q⟩
    ·cases h
   ·rw [if_neg e11] at h
    exact ⟨h,fun e=>absurd e e9,fun e=>absurd e e10,fun e=>absurd e e11⟩
theorem LV.step {l:List I4} {m:gy} {x:I4} {tr:List I4} {fin:Mem} {H:List Int} (h:LV l m (x::tr) fin H):pz l m=x /\ (stepM l m).2.2.2=false /\ LV l (stepM l m) tr fin (HZ x H):=by
 have hH:=(UU h.hld).1
 obtain ⟨n,n2,e,hr,h2,h0⟩:=h.run
 obtain ⟨pc,mem,rs,ov⟩:=m
 have e':pc=(n:Int):=e
 subst e'
 have hr':Run l n mem rs.reverse (x::tr) n2 fin []:=hr
 generalize hR:rs.reverse=R at hr'
 cases hr' with
 | cons a b c d f g i r =>
  rename_i n1 R1
  have hx:pz l ((n:Int),mem,rs,ov)=x:=by unfold pz;exact b
  have hov:(stepM l ((n:Int),mem,rs,ov)).2.2.2=false:=by
   unfold stepM
   simp only
   rw [hx];exact beq_eq_false_iff_ne.2 c
  have hxm:=h.ins _ (jo (z:=i0) a)
  rw [b] at hxm
  have e1:stepM l ((n:Int),mem,rs,ov)=((n1:Int),R8 x mem,R1.reverse,false):=by
   unfold stepM
   simp only
   rw [hx,hR,Int.toNat_natCast,g,beq_eq_false_iff_ne.2 c]
  refine ⟨hx,hov,?_⟩
  rw [e1]
  exact ⟨h.len,h.ins,acD hxm h.mem,rfl,⟨n1,n2,rfl,by show Run l n1 (R8 x mem) R1.reverse.reverse tr n2 fin [];rw [List.reverse_reverse];exact r,h2,h0⟩,hH⟩
theorem ahq (t:Tr):(t.prog.getD t.len i0).1=0:=by
 unfold Tr.prog
 rw [lu (by rw [jy];omega),jy,Nat.sub_self];rfl
def abN (l:List I4) (a:Int) (fin:Mem):Prop:=∃ t:Tr,l=t.prog /\ Ok 0 [] false t /\ t.len<24 /\ fin=(zq t (Q6 a)).2
theorem LV.new {l:List I4} (h:yj l=true) {a:Int} (ha:FY a):∃ tr fin,LV l (Vh a) tr fin [] /\ abN l a fin:=by
 obtain ⟨t,h1,rfl,h2⟩:=LZ h
 have hm:∀ x∈t.prog,l5 x=true:=TR h1
 exact ⟨_,_,⟨by rw [vk];omega,hm,afQ a ha,rfl,⟨0,t.len,rfl,abp h1 (Q6 a),by rw [vk];omega,ahq t⟩,DF (Q6 a) h1⟩,t,rfl,h1,h2,rfl⟩
theorem akL {h H:List Int} {a:Int} (hs:h.Sublist (H++[a])):h.Sublist H \/ ∃ r,h=r++[a] /\ r.Sublist H:=by
 obtain ⟨l1,l2,e,h1,h2⟩:=List.sublist_append_iff.1 hs
 cases l2 with
 | nil=>rw [e,List.append_nil];exact .inl h1
 | cons b r =>
  have hl:=h2.length_le
  have hr:r=[]:=by cases r with | nil=>rfl | cons c d=>simp at hl
  subst hr
  have hb:b=a:=by have:=h2.subset (List.mem_cons_self (a:=b));simpa using this
  exact .inr ⟨l1,by rw [e,hb],h1⟩
theorem abO {a:Int} {l:List Int} (h:a ∉ l):∀ n,n <= l.length -> unl a l n=l
 | 0,_=>rfl
 | n+1,hn=>by
  rw [unl,if_neg (fun e=>h (by rw [<- e];exact jo (by omega)))]
  exact abO h n (by omega)
theorem ahr {x:I4} {h H:List Int} {tr:List I4} (hs:h.Sublist H) (hn:H.Nodup) (hh:hld H (x::tr)=some []):(H9 x h).Sublist (HZ x H) /\ (HZ x H).Nodup:=by
 obtain ⟨_,a1,a2,_⟩:=UU hh
 unfold H9 HZ
 by_cases e9:x.1=9
 ·rw [show (x.1==9)=true from beq_iff_eq.2 e9,cond_true,cond_true]
  refine ⟨List.Sublist.append hs (List.Sublist.refl _),?_⟩
  rw [List.nodup_append]
  refine ⟨hn,by simp,fun y hy z hz=>?_⟩
  rw [List.mem_singleton] at hz
  rw [hz];exact fun e=>(a1 e9).2 (by rw [<- e];exact hy)
 ·rw [beq_eq_false_iff_ne.2 e9,cond_false,cond_false]
  by_cases e10:x.1=10
  ·rw [show (x.1==10)=true from beq_iff_eq.2 e10,cond_true,cond_true]
   have hl:=a2 e10
   rcases List.eq_nil_or_concat H with rfl | ⟨r,y,rfl⟩
   ·cases hl
   ·rw [List.concat_eq_append] at *
    simp only [List.getLast?_append,List.getLast?_singleton,Option.some_or,Option.some.injEq] at hl
    subst hl
    rw [List.dropLast_concat]
    rw [List.nodup_append] at hn
    have hnr:x.2.1 ∉ r:=fun q=>hn.2.2 _ q _ (List.mem_singleton.2 rfl) rfl
    refine ⟨?_,hn.1⟩
    rcases akL hs with q | ⟨w,q,hw⟩
    ·rw [abO (fun m=>hnr (q.subset m)) _ (Nat.le_refl _)];exact q
    ·subst q
     rw [List.length_append,List.length_singleton,unl,if_pos (by rw [lu (Nat.le_refl _),Nat.sub_self];rfl)]
     simpa using hw
  ·rw [beq_eq_false_iff_ne.2 e10,cond_false,cond_false]
   exact ⟨hs,hn⟩
structure TW (t:iy):Prop where
 light:zi t /\ (t.2.2.2.1++t.2.2.2.2.1).length <= 900
 may:G7 t=0
theorem TW.code {t:iy} (h:TW t):yj t.2.2.2.1=true /\ (t.2.2.2.2.1=[] \/ yj t.2.2.2.2.1=true) /\ (t.2.2.2.2.2=[] \/ yj t.2.2.2.2.2=true) /\ am2 t.2.2.2.2.2=false:=by
 obtain ⟨_,_,_,z4,z5,z6,z7,_⟩:=OA.1 h.may
 exact ⟨z4,z5,z6,z7⟩
structure JW (ts:List iy) (a:Int) (j:jd):Prop where
 task:0 <= j.1 /\ j.1<(ts.length:Int)
 phase:0 <= j.2.2.2.1 /\ j.2.2.2.1 <= 2
 arg:FY j.2.2.1
 own:j.2.2.2.1≠2 -> a=j.2.2.1
 m:∃ tr fin H,LV (qo (ts.getD j.1.toNat bg) j.2.2.2.1) j.2.2.2.2.1 tr fin H /\ abN (qo (ts.getD j.1.toNat bg) j.2.2.2.1) a fin /\ H.Nodup /\ H.length <= 2 /\ (∀ x∈H,0 <= x /\ x <= 3) /\ j.2.2.2.2.2.2.1.Sublist H
 kept:∃ tr fin,LV (qo (ts.getD j.1.toNat bg) j.2.2.2.1) j.2.2.2.2.2.1 tr fin [] /\ abN (qo (ts.getD j.1.toNat bg) j.2.2.2.1) a fin
theorem JW.go {K:je} {a:Int} {j:jd} (h:JW K.2.2.1 a j):GO K j /\ j.2.2.2.2.2.2.1.length <= 2 /\ ∀ x∈j.2.2.2.2.2.2.1,0 <= x /\ x <= 3:=by
 obtain ⟨tr,fin,H,h1,_,_,h3,h4,h5⟩:=h.m
 obtain ⟨tr2,atm,h6,_⟩:=h.kept
 have m1:=h1.mok
 have m2:=h6.mok
 have hl:=h5.length_le
 exact ⟨⟨⟨by omega,by omega,by omega,fun x hx=>(h4 x (h5.subset hx)).1⟩,by omega,by omega,h.task,h.phase,m1.1⟩,by omega,fun x hx=>h4 x (h5.subset hx)⟩
theorem JW.same {ts:List iy} {a:Int} {j j2:jd} (h:JW ts a j) (e1:j2.1=j.1) (e2:j2.2.2.1=j.2.2.1) (e3:j2.2.2.2.1=j.2.2.2.1) (e4:j2.2.2.2.2.1=j.2.2.2.2.1) (e5:j2.2.2.2.2.2.1=j.2.2.2.2.2.1) (e6:j2.2.2.2.2.2.2.1.Sublist j.2.2.2.2.2.2.1):JW ts a j2:=by
 obtain ⟨tr,fin,H,h1,h2,h3,h4,h5,h6⟩:=h.m
 refine ⟨by rw [e1];exact h.task,by rw [e3];exact h.phase,by rw [e2];exact h.arg,by rw [e2,e3];exact h.own,⟨tr,fin,H,?_,?_,h3,h4,h5,e6.trans h6⟩,?_⟩
 ·rw [e1,e3,e4];exact h1
 ·rw [e1,e3];exact h2
 ·rw [e1,e3,e5];exact h.kept
theorem JW.prom {ts:List iy} {a:Int} {j:jd} (h:JW ts a j) (now:Int) (bs:List WC):JW ts a (uy now bs j):=by
 rcases MJ now bs j with e | e <;> rw [e]
 ·exact h
 ·exact h.same rfl rfl rfl rfl rfl (List.Sublist.refl _)
theorem OM {T:Tb}:∀ (ps:List Int) (j:jd),(uz T ps j).2.2.2.2.2.2.1.Sublist j.2.2.2.2.2.2.1
 | [],j=>List.Sublist.refl _
 | a::ps,j=>by
  unfold uz
  rw [List.foldl_cons]
  cases decide (qw (fun x=>a==x) (qb (jv T))≥0) with
  | false=>exact OM ps j
  | true=>exact (OM ps _).trans List.filter_sublist
theorem JW.loss {ts:List iy} {a:Int} {j:jd} (h:JW ts a j) (T:Tb) (ps:List Int):JW ts a (uz T ps j):=by
 have e:=(EG (T:=T) ps j).1
 have hs:=OM (T:=T) ps j
 refine h.same ?_ ?_ ?_ ?_ ?_ hs
 all_goals rw [e];rfl
theorem JW.goes {ts:List iy} {a:Int} {j:jd} (h:JW ts a j):((y8 (ts.getD j.1.toNat bg) j).2.2.2.2.1.2.2.2=false -> JW ts a (y8 (ts.getD j.1.toNat bg) j)) /\ ((y8 (ts.getD j.1.toNat bg) j).2.2.2.2.1.2.2.2=true -> j.2.2.2.2.2.2.1=[] /\ (y8 (ts.getD j.1.toNat bg) j).2.2.2.2.2.2.1=[] /\ abN (qo (ts.getD j.1.toNat bg) j.2.2.2.1) a (y8 (ts.getD j.1.toNat bg) j).2.2.2.2.1.2.1 /\ (pz (qo (ts.getD j.1.toNat bg) j.2.2.2.1) j.2.2.2.2.1).1=0) /\ inM (y8 (ts.getD j.1.toNat bg) j).2.2.2.2.1.2.1:=by
 obtain ⟨tr,fin,H,h1,h2,h3,h4,h5,h6⟩:=h.m
 cases tr with
 | nil =>
  obtain ⟨l1,l2,l3,l4⟩:=h1.last
  have hz:j.2.2.2.2.2.2.1=[]:=by rw [l4] at h6;exact List.sublist_nil.1 h6
  refine ⟨fun e=>absurd (l2.symm.trans e) (by decide),fun _=>⟨hz,?_,?_,l1⟩,?_⟩
  ·show H9 (pz _ _) j.2.2.2.2.2.2.1=[]
   unfold H9
   rw [l1,hz];rfl
  ·show abN _ a (stepM _ _).2.1
   rw [l3];exact h2
  ·exact acD h1.mok.1.may h1.mem
 | cons x tr =>
  obtain ⟨e1,e2,e3⟩:=h1.step
  have hH:=UU h1.hld
  have hst:=ahr h6 h3 h1.hld
  refine ⟨fun _=>⟨h.task,h.phase,h.arg,h.own,⟨tr,fin,HZ x H,e3,h2,hst.2,?_,?_,?_⟩,?_⟩,fun e=>absurd (e2.symm.trans e) (by decide),e3.mem⟩
  ·unfold HZ
   by_cases e9:x.1=9
   ·rw [show (x.1==9)=true from beq_iff_eq.2 e9,cond_true,List.length_append];have:=(hH.2.1 e9).1;simp only [List.length_singleton];omega
   ·rw [beq_eq_false_iff_ne.2 e9,cond_false]
    cases x.1==10 with
    | true=>rw [cond_true,List.length_dropLast];omega
    | false=>rw [cond_false];exact h4
  ·intro y hy
   unfold HZ at hy
   by_cases e9:x.1=9
   ·rw [show (x.1==9)=true from beq_iff_eq.2 e9,cond_true,List.mem_append,List.mem_singleton] at hy
    rcases hy with q | q
    ·exact h5 y q
    ·have hxm:=h1.mok.1.may
     rw [e1] at hxm
     rw [q];exact (amN hxm (.inl e9)).1
   ·rw [beq_eq_false_iff_ne.2 e9,cond_false] at hy
    cases e10:x.1==10 with
    | true=>rw [e10,cond_true] at hy;exact h5 y (List.dropLast_subset _ hy)
    | false=>rw [e10,cond_false] at hy;exact h5 y hy
  ·show (H9 (pz _ _) _).Sublist _
   rw [e1];exact hst.1
  ·show ∃ tr fin,LV _ (bif (pz (qo (ts.getD j.1.toNat bg) j.2.2.2.1) j.2.2.2.2.1).1==11 then stepM (qo (ts.getD j.1.toNat bg) j.2.2.2.1) j.2.2.2.2.1 else j.2.2.2.2.2.1) tr fin [] /\ _
   rw [e1]
   by_cases e11:x.1=11
   ·rw [show (x.1==11)=true from beq_iff_eq.2 e11,cond_true]
    have e:HZ x H=[]:=by
     unfold HZ
     rw [e11];exact hH.2.2.2 e11
    rw [e] at e3
    exact ⟨tr,fin,e3,h2⟩
   ·rw [beq_eq_false_iff_ne.2 e11,cond_false];exact h.kept
theorem JW.begin {ts:List iy} {a:Int} (ha:FY a) {j:jd} (h:0 <= j.1 /\ j.1<(ts.length:Int)) (hp:0 <= j.2.2.2.1 /\ j.2.2.2.1 <= 2) (hi:FY j.2.2.1) (ho:j.2.2.2.1≠2 -> a=j.2.2.1) (hm:yj (qo (ts.getD j.1.toNat bg) j.2.2.2.1)=true) (e1:j.2.2.2.2.1=Vh a) (e2:j.2.2.2.2.2.1=Vh a) (e3:j.2.2.2.2.2.2.1=[]):JW ts a j:=by
 obtain ⟨tr,fin,h1,h2⟩:=LV.new hm ha
 exact ⟨h,hp,hi,ho,⟨tr,fin,[],by rw [e1];exact h1,h2,by simp,by simp,by simp,by rw [e3];exact List.Sublist.refl _⟩,⟨tr,fin,by rw [e2];exact h1,h2⟩⟩
theorem JW.opt {ts:List iy} {j:jd} (h:0 <= j.1 /\ j.1<(ts.length:Int)) (hi:FY j.2.2.1) (hm:inM j.2.2.2.2.1.2.1) (ht:TW (ts.getD j.1.toNat bg)) (hne:((ts.getD j.1.toNat bg).2.2.2.2.2.length:Int)≠0):JW ts j.2.2.2.2.1.2.1.1 (acP j):=by
 refine JW.begin (hm _ (by simp [Gv])) h ⟨by show (0:Int) <= 2;omega,by show (2:Int) <= 2;omega⟩ hi (fun e=>absurd rfl e) ?_ rfl rfl rfl
 rcases ht.code.2.2.1 with q | q
 ·rw [q] at hne;simp at hne
 ·exact q
theorem JW.back {ts:List iy} {a:Int} {j:jd} (h:JW ts a j) (ht:TW (ts.getD j.1.toNat bg)):JW ts a (MG (ts.getD j.1.toNat bg) j):=by
 unfold MG
 cases hc:(j.2.2.2.1==0)&&decide (((ts.getD j.1.toNat bg).2.2.2.2.1.length:Int)>0) with
 | false =>
  obtain ⟨tr,fin,h1,h2⟩:=h.kept
  exact ⟨h.task,h.phase,h.arg,h.own,⟨tr,fin,[],h1,h2,by simp,by simp,by simp,List.Sublist.refl _⟩,⟨tr,fin,h1,h2⟩⟩
 | true =>
  rw [Bool.and_eq_true] at hc
  have hw:=of_decide_eq_true hc.2
  have ea:a=j.2.2.1:=h.own (by rw [eq_of_beq hc.1];decide)
  rw [ea]
  refine JW.begin h.arg h.task ⟨by show (0:Int) <= 1;omega,by show (1:Int) <= 2;omega⟩ h.arg (fun _=>rfl) ?_ rfl rfl rfl
  rcases ht.code.2.1 with q | q
  ·rw [q] at hw;simp at hw
  ·exact q
theorem JW.FH {ts:List iy} {p now a:Int} (hp:0 <= p /\ p<(ts.length:Int)) (ha:FY a) (ht:TW (ts.getD p.toNat bg)):JW ts a (FH p now a) :=
 JW.begin ha hp ⟨by show (0:Int) <= 0;omega,by show (0:Int) <= 2;omega⟩ ha (fun _=>rfl) ht.code.1 rfl rfl rfl
structure KW (K:je):Prop where
 FE:K.2.2.1.length <= 8
 task:∀ t∈K.2.2.1,TW t
 bnd:K.2.2.2.1.length=K.2.2.1.length
 tab:yu K.2.2.2.2.2.2.2.2.1
 job:∀ j∈K.2.2.2.2.2.2.2.1,∃ a,JW K.2.2.1 a j
 OI:rising K.2.2.2.2.2.2.2.1
 row:K.2.2.2.2.1=true -> K.2.2.2.2.2.2.2.2.2.1.length=K.2.2.1.length /\ K.2.2.2.2.2.2.2.2.2.2.length=K.2.2.1.length
 off:K.2.2.2.2.1=false -> K.2.2.2.2.2.2.2.1=[] /\ K.2.2.2.2.2.2.2.2.2.1=[] /\ K.2.2.2.2.2.2.2.2.2.2=[]
theorem KW.light {K:je} (h:KW K):p9 K.2.2.1:=⟨by have:=h.FE;omega,fun t ht=>(h.task t ht).light⟩
theorem KW.len {K:je} (h:KW K):K.2.2.2.2.2.2.2.1.length <= 8:=by
 have:=CY h.OI (fun j hj=>(h.job j hj).elim fun a q=>q.task) (by omega)
 have:=h.FE
 omega
theorem KW.ks {K:je} (h:KW K):KS K:=by
 have h8:=h.FE
 have hb:=h.bnd
 have hl:=h.len
 refine ⟨h.light,by omega,by omega,fun j hj=>(h.job j hj).elim fun a q=>q.go.1.js,h.tab,?_,?_⟩
 ·cases hr:K.2.2.2.2.1 with
  | true=>have:=(h.row hr).1;omega
  | false=>rw [(h.off hr).2.1];simp
 ·cases hr:K.2.2.2.2.1 with
  | true=>have:=(h.row hr).2;omega
  | false=>rw [(h.off hr).2.2];simp
theorem KW.kj {K:je} (h:KW K) (hr:K.2.2.2.2.1=true):KJ K :=
 ⟨⟨h.ks,h.bnd,(h.row hr).1,(h.row hr).2,fun j hj=>(h.job j hj).elim fun a q=>q.task⟩,h.FE,fun j hj=>(h.job j hj).elim fun a q=>q.go.1,h.OI⟩
theorem agq {k:Nat} (hk:1000 <= k) {K:je} (h:KW K):S33 k K=some (((l7 k K).1,(l7 k K).2,()),()):=by
 cases hr:K.2.2.2.2.1 with
 | true=>exact apX hk (h.kj hr)
 | false =>
  unfold S33 l7
  rw [UK hk h.ks,Option.bind_some]
  simp only
  rw [hr];rfl
theorem akM {k:Nat} (hk:1000 <= k) {K:je} (h:KW K) (p a:Int):S30 k K p a=some (((ug K p a).1,(ug K p a).2.1,(ug K p a).2.2,()),()):=by
 cases hr:K.2.2.2.2.1 with
 | true=>exact ap1 hk (h.kj hr) p a
 | false =>
  unfold S30 ug
  rw [UK hk h.ks,Option.bind_some]
  simp only
  rw [hr];rfl
theorem KL (u:jh):(BI u).1.2.2.2.2.2.2.2.1=u.1.2.2.2.2.2.2.2.1.map (uy u.1.1 u.1.2.2.2.1):=rfl
theorem KM (k:Nat) (K:je):(qc k (K,[])).1.2.2.2.2.2.2.2.1=(K.2.2.2.2.2.2.2.1.foldl (BO k) ((K,[]),[])).2:=rfl
theorem FI (T:Tb) (ps:List Int) (j:jd):(uz T ps j).1=j.1 /\ (uz T ps j).2.1=j.2.1 /\ (uz T ps j).2.2.1=j.2.2.1 /\ (uz T ps j).2.2.2.1=j.2.2.2.1:=by
 have e:=(EG (T:=T) ps j).1
 generalize uz T ps j=x at e
 rw [e];exact ⟨rfl,rfl,rfl,rfl⟩
theorem FJ (now:Int) (bs:List WC) (j:jd):(uy now bs j).1=j.1 /\ (uy now bs j).2.1=j.2.1 /\ (uy now bs j).2.2.1=j.2.2.1 /\ (uy now bs j).2.2.2.1=j.2.2.2.1:=by
 rcases MJ now bs j with e | e <;> rw [e] <;> exact ⟨rfl,rfl,rfl,rfl⟩
theorem anH (K:je) (x:List jd):(w7 K x).2.2.2.2.2.2.2.1=x:=rfl
theorem ahs {k:Nat} {K:je} (h:KJ K) {j:jd} (hj:j∈(oq k K).1.2.2.2.2.2.2.2.1):∃ x∈K.2.2.2.2.2.2.2.1,(∀ ts a,JW ts a x -> JW ts a j) /\ j.1=x.1 /\ j.2.1=x.2.1 /\ j.2.2.1=x.2.2.1 /\ j.2.2.2.1=x.2.2.2.1:=by
 obtain ⟨t1,he1⟩:=TI.ends h k
 have t2:=t1.prom
 unfold oq at hj
 rw [UR k _ t2.tab] at hj
 simp only [anH,KL] at hj
 obtain ⟨y,hy,rfl⟩:=List.mem_map.1 hj
 obtain ⟨x,hx,rfl⟩:=List.mem_map.1 hy
 rw [KM] at hx
 obtain ⟨_,_,l,f3,f4⟩:=UQ (K:=K) (k:=k) K.2.2.2.2.2.2.2.1 ((K,[]),[]) (UI.start h.ji.ks.tab [])
 rw [f4,List.nil_append] at hx
 have hx2:x∈K.2.2.2.2.2.2.2.1:=f3.subset hx
 have hp:∀ ts a,JW ts a x -> JW ts a (uy (qc k (K,[])).1.1 (qc k (K,[])).1.2.2.2.1 x):=fun ts a q=>q.prom _ _
 obtain ⟨a1,a2,a3,a4⟩:=FJ (qc k (K,[])).1.1 (qc k (K,[])).1.2.2.2.1 x
 generalize uy (qc k (K,[])).1.1 (qc k (K,[])).1.2.2.2.1 x=y at a1 a2 a3 a4 hp ⊢
 obtain ⟨b1,b2,b3,b4⟩:=FI (BI (qc k (K,[]))).1.2.2.2.2.2.2.2.2.1 (uq k (BI (qc k (K,[]))).1.2.2.2.2.2.2.2.2.1).2.1 y
 exact ⟨x,hx2,fun ts a q=>(hp ts a q).loss _ _,b1.trans a1,b2.trans a2,b3.trans a3,b4.trans a4⟩
theorem ap3 {k:Nat} {u:jh} {j:jd} {a:Int} (h:JW u.1.2.2.1 a j) (ht:∀ t∈u.1.2.2.1,TW t):(G8 k u j).2.2.1=j.1 /\ ((G8 k u j).1=false -> ∃ b,JW u.1.2.2.1 b (G8 k u j).2.2):=by
 have htk:=h.task
 have Lx:=ht _ (jo (z:=bg) (show j.1.toNat<u.1.2.2.1.length by omega))
 unfold G8
 cases u.1.2.2.2.2.2.2.1 with
 | true =>
  rw [cond_true]
  unfold MH ahl
  simp only
  rw [show (j5 u (0,2,j.1,0,0,0)).1.2.2.1=u.1.2.2.1 from rfl]
  cases j.2.2.2.1==2 with
  | true=>exact ⟨rfl,fun e=>absurd e (by simp)⟩
  | false =>
   have hb:=h.back Lx
   refine ⟨?_,fun _=>⟨a,hb⟩⟩
   show (MG _ j).1=j.1
   unfold MG
   cases (j.2.2.2.1==0)&&decide (((u.1.2.2.1.getD j.1.toNat bg).2.2.2.2.1.length:Int)>0) <;> rfl
 | false =>
  rw [cond_false]
  obtain ⟨g1,g2,g3⟩:=h.goes
  unfold JX
  simp only
  rw [show (j5 u (0,2,j.1,0,0,0)).1.2.2.1=u.1.2.2.1 from rfl]
  have fin:∀ v:jh,v.1.2.2.1=u.1.2.2.1 -> ((bif (y8 (u.1.2.2.1.getD j.1.toNat bg) j).2.2.2.2.1.2.2.2 then sw v (y8 (u.1.2.2.1.getD j.1.toNat bg) j) else (false,v,y8 (u.1.2.2.1.getD j.1.toNat bg) j)):MF).2.2.1=j.1 /\ (((bif (y8 (u.1.2.2.1.getD j.1.toNat bg) j).2.2.2.2.1.2.2.2 then sw v (y8 (u.1.2.2.1.getD j.1.toNat bg) j) else (false,v,y8 (u.1.2.2.1.getD j.1.toNat bg) j)):MF).1=false -> ∃ b,JW u.1.2.2.1 b ((bif (y8 (u.1.2.2.1.getD j.1.toNat bg) j).2.2.2.2.1.2.2.2 then sw v (y8 (u.1.2.2.1.getD j.1.toNat bg) j) else (false,v,y8 (u.1.2.2.1.getD j.1.toNat bg) j)):MF).2.2):=fun v hv=>by
   cases ho:(y8 (u.1.2.2.1.getD j.1.toNat bg) j).2.2.2.2.1.2.2.2 with
   | false=>exact ⟨rfl,fun _=>⟨a,g1 ho⟩⟩
   | true =>
    rw [cond_true]
    unfold sw
    cases (y8 (u.1.2.2.1.getD j.1.toNat bg) j).2.2.2.1==2 with
    | true=>exact ⟨rfl,fun e=>absurd e (by simp)⟩
    | false =>
     refine ⟨rfl,fun e=>?_⟩
     rw [hv] at e
     exact ⟨_,JW.opt (j:=y8 (u.1.2.2.1.getD j.1.toNat bg) j) h.task h.arg g3 Lx (by
      intro q
      rw [cond_false] at e
      rw [show ((y8 (u.1.2.2.1.getD j.1.toNat bg) j).1)=j.1 from rfl] at e q
      rw [q] at e;exact absurd (show (true:Bool)=false from e) (by decide))⟩
  generalize pz (qo (u.1.2.2.1.getD j.1.toNat bg) j.2.2.2.1) j.2.2.2.2.1=x
  cases x.1==9 with
  | true=>exact fin _ rfl
  | false =>
   cases x.1==10 with
   | true=>exact fin _ rfl
   | false=>exact fin _ rfl
theorem acR {js:List jd}:rising js↔(js.map (fun j=>j.1)).Pairwise (·<·):=by
 unfold rising;rw [List.pairwise_map]
theorem acS {js:List jd} (h:rising js) {i:Nat} {x:jd} (hx:x.1=(js.getD i ay).1):rising (js.set i x):=by
 rw [acR] at h ⊢
 rw [List.map_set]
 by_cases hi:i<js.length
 ·have e:(js.map (fun j=>j.1)).set i x.1=js.map (fun j=>j.1):=by
   rw [hx,<- MI (f:=fun j:jd=>j.1) ay 0 hi];exact H7
  rw [e];exact h
 ·rw [List.set_eq_of_length_le (by rw [List.length_map];omega)];exact h
theorem anI {k:Nat} {K:je} {u:jh} (t:TI K u) (hK:KJ K) (hr:K.2.2.2.2.1=true) (ht:∀ t∈K.2.2.1,TW t) (hj:∀ j∈u.1.2.2.2.2.2.2.2.1,∃ a,JW K.2.2.1 a j) :
  ∃ h T w js,(zm k u).1=w7 (chg K h T w) js /\ yu T /\ jv T=jv K.2.2.2.2.2.2.2.2.1 /\ w.1.length=K.2.2.1.length /\ w.2.length=K.2.2.1.length /\ (∀ j∈js,∃ a,JW K.2.2.1 a j) /\ rising js:=by
 obtain ⟨h,T,w,js,e⟩:=t.same
 have e3:=t.tasks.1
 have hT:yu T:=by have:=t.tab;rw [e] at this;exact this
 have hS:jv T=jv K.2.2.2.2.2.2.2.2.1:=by have:=t.sem;rw [e] at this;exact this
 have hw1:w.1.length=K.2.2.1.length:=by have:=t.row;rw [e] at this;exact this
 have hw2:w.2.length=K.2.2.1.length:=by have:=t.of;rw [e] at this;exact this
 have ejs:u.1.2.2.2.2.2.2.2.1=js:=by rw [e];rfl
 have hris:rising js:=by rw [<- ejs];exact t.OI
 unfold zm
 cases hc:u.1.2.2.2.2.2.1||u.1.2.2.2.2.2.2.2.1.isEmpty with
 | true=>exact ⟨h,T,w,js,e,hT,hS,hw1,hw2,by rw [<- ejs];exact hj,hris⟩
 | false =>
  rw [cond_false]
  rw [Bool.or_eq_false_iff] at hc
  have hmin:=next_lt hc.2 (u.1.2.2.1.length:Int) (kg u.1.2.2.2.2.2.2.2.2.1)
  simp only
  generalize HV u.1.2.2.2.2.2.2.2.1 (u.1.2.2.1.length:Int) (kg u.1.2.2.2.2.2.2.2.2.1)=i at hmin ⊢
  obtain ⟨a,ha⟩:=hj _ (jo (z:=ay) hmin)
  rw [<- e3] at ha
  obtain ⟨g1,g2⟩:=ap3 (k:=k) ha (by rw [e3];exact ht)
  obtain ⟨T2,w2,q,q1,q2,q3,q4,q5⟩:=CH.run t.tab k (u.1.2.2.2.2.2.2.2.1.getD i ay)
  generalize G8 k u (u.1.2.2.2.2.2.2.2.1.getD i ay)=r at g1 g2 q ⊢
  have hsm:=t.tab
  have Lv:T2.2.length=T.2.length /\ jv T2=jv T /\ w2.1.length=w.1.length /\ w2.2.length=w.2.length:=by
   rw [e] at q2 q3 q4 q5 hsm
   exact ⟨q2,q3 hsm,q4,q5⟩
  refine ⟨h,T2,w2,(bif r.1 then u.1.2.2.2.2.2.2.2.1.take i++u.1.2.2.2.2.2.2.2.1.drop (i+1) else u.1.2.2.2.2.2.2.2.1.set i r.2.2),?_,q1 hsm,Lv.2.1.trans hS,Lv.2.2.1.trans hw1,Lv.2.2.2.trans hw2,?_⟩
  ·generalize (bif r.1 then u.1.2.2.2.2.2.2.2.1.take i++u.1.2.2.2.2.2.2.2.1.drop (i+1) else u.1.2.2.2.2.2.2.2.1.set i r.2.2)=l
   rw [q,e];rfl
  cases hb:r.1 with
  | true =>
   rw [cond_true]
   have hsub:(u.1.2.2.2.2.2.2.2.1.take i++u.1.2.2.2.2.2.2.2.1.drop (i+1)).Sublist u.1.2.2.2.2.2.2.2.1:=by rw [<- List.eraseIdx_eq_take_drop_succ];exact List.eraseIdx_sublist _ _
   exact ⟨fun j hm=>hj j (hsub.subset hm),List.Pairwise.sublist hsub t.OI⟩
  | false =>
   rw [cond_false]
   refine ⟨fun j hm=>?_,acS t.OI g1⟩
   rcases List.mem_or_eq_of_mem_set hm with q | q
   ·exact hj j q
   ·rw [q];have:=g2 hb;rw [e3] at this;exact this
theorem FL {k:Nat} {K:je} (h:KW K):KW (l7 k K).1 /\ (l7 k K).1.2.2.1=K.2.2.1 /\ (l7 k K).1.2.2.2.1=K.2.2.2.1 /\ (l7 k K).1.2.2.2.2.1=K.2.2.2.2.1 /\ (l7 k K).1.1=IntKind.i64.wrap (K.1+1) /\ (l7 k K).1.2.1=K.2.1 /\ (l7 k K).1.2.2.2.2.2.2.1=false /\ jv (l7 k K).1.2.2.2.2.2.2.2.2.1=jv K.2.2.2.2.2.2.2.2.1:=by
 unfold l7
 cases hc:K.2.2.2.2.1&&!K.2.2.2.2.2.1 with
 | false=>exact ⟨⟨h.FE,h.task,h.bnd,h.tab,h.job,h.OI,h.row,h.off⟩,rfl,rfl,rfl,rfl,rfl,rfl,rfl⟩
 | true =>
  rw [Bool.and_eq_true] at hc
  have hkj:=h.kj hc.1
  obtain ⟨b,T,w,js,e,g1,g2,g3,g4,g5,g6⟩:=anI (k:=k) (hkj.ahead k) hkj hc.1 h.task (fun j hj=>by
   obtain ⟨x,hx,q,_⟩:=ahs hkj hj
   obtain ⟨a,ha⟩:=h.job x hx
   exact ⟨a,q _ _ ha⟩)
  rw [cond_true,e]
  exact ⟨⟨h.FE,h.task,h.bnd,g1,g5,g6,fun _=>⟨g3,g4⟩,fun q=>absurd (hc.1.symm.trans q) (by decide)⟩,rfl,rfl,rfl,rfl,rfl,rfl,g2⟩
theorem OO (p:Int):∀ l:List jd,∀ a,a<nk p l -> (l.getD a ay).1<p
 | [],a,h=>by simp [nk] at h
 | x::l,a,h=>by
  rw [nk] at h
  by_cases hx:x.1<p
  ·rw [decide_eq_true hx,cond_true] at h
   cases a with
   | zero=>exact hx
   | succ a=>exact OO p l a (by omega)
  ·rw [decide_eq_false hx,cond_false] at h;omega
theorem WQ (p:Int):∀ l:List jd,nk p l<l.length -> ¬ (l.getD (nk p l) ay).1<p
 | [],h=>by simp at h
 | x::l,h=>by
  by_cases hx:x.1<p
  ·have e:nk p (x::l)=nk p l+1:=by rw [nk,decide_eq_true hx,cond_true]
   rw [e] at h ⊢
   exact WQ p l (by simp only [List.length_cons] at h;omega)
  ·have e:nk p (x::l)=0:=by rw [nk,decide_eq_false hx,cond_false]
   rw [e];exact hx
theorem UW {js:List jd} (h:rising js) {p:Int} {x:jd} (hx:x.1=p) {n:Nat} (hn:nk p js <= n) (hs:n <= js.length) (ha:∀ a,n <= a -> a<js.length -> p<(js.getD a ay).1):rising (js.take (nk p js)++[x]++js.drop n):=by
 unfold rising at h ⊢
 have hat:∀ y∈js.take (nk p js),y.1<p:=fun y hy=>by
  obtain ⟨a,ha,e⟩:=List.mem_iff_getElem.1 hy
  rw [List.length_take] at ha
  rw [List.getElem_take] at e
  have:=OO p js a (by omega)
  rw [getD_in (by omega),e] at this
  exact this
 have hdr:∀ y∈js.drop n,p<y.1:=fun y hy=>by
  obtain ⟨a,hb,e⟩:=List.mem_iff_getElem.1 hy
  rw [List.length_drop] at hb
  rw [List.getElem_drop] at e
  have:=ha (n+a) (by omega) (by omega)
  rw [getD_in (by omega),e] at this
  exact this
 rw [List.append_assoc,List.pairwise_append]
 refine ⟨List.Pairwise.sublist (List.take_sublist _ _) h,?_,?_⟩
 ·rw [List.singleton_append,List.pairwise_cons]
  exact ⟨fun y hy=>by rw [hx];exact hdr y hy,List.Pairwise.sublist (List.drop_sublist _ _) h⟩
 ·intro a ha b hb
  rw [List.singleton_append,List.mem_cons] at hb
  have:=hat a ha
  rcases hb with q | q
  ·rw [q,hx];exact this
  ·have:=hdr b q;omega
theorem JA {K:je} (hr:rising K.2.2.2.2.2.2.2.1) (p a:Int):((ug K p a).1=K /\ (ug K p a).2.1=[] /\ (ug K p a).2.2≠0) \/
  (K.2.2.2.2.1=true /\ K.2.2.2.2.2.1=false /\ (0 <= p /\ p<(K.2.2.1.length:Int)) /\ (ug K p a).2.2=0 /\ ∃ n,nk p K.2.2.2.2.2.2.2.1 <= n /\ n <= K.2.2.2.2.2.2.2.1.length /\ (ug K p a).1=w7 K (K.2.2.2.2.2.2.2.1.take (nk p K.2.2.2.2.2.2.2.1)++[FH p K.1 a]++K.2.2.2.2.2.2.2.1.drop n) /\
   rising (K.2.2.2.2.2.2.2.1.take (nk p K.2.2.2.2.2.2.2.1)++[FH p K.1 a]++K.2.2.2.2.2.2.2.1.drop n) /\
   ((n=nk p K.2.2.2.2.2.2.2.1 /\ (∀ j∈K.2.2.2.2.2.2.2.1,j.1≠p) /\ (ug K p a).2.1=[(K.1,1,p,0,a,0)]) \/
       (n=nk p K.2.2.2.2.2.2.2.1+1 /\ (K.2.2.2.2.2.2.2.1.getD (nk p K.2.2.2.2.2.2.2.1) ay).1=p /\ (K.2.2.2.2.2.2.2.1.getD (nk p K.2.2.2.2.2.2.2.1) ay).2.2.2.1=2 /\ (ug K p a).2.1=[(K.1,13,p,0,0,0),(K.1,1,p,0,a,0)]))):=by
 cases hru:K.2.2.2.2.1 with
 | false=>exact .inl (by unfold ug;rw [hru];exact ⟨rfl,rfl,(show (8:Int)≠0 by decide)⟩)
 | true =>
  cases hha:K.2.2.2.2.2.1 with
  | true=>exact .inl (by unfold ug;rw [hru,hha];exact ⟨rfl,rfl,(show (17:Int)≠0 by decide)⟩)
  | false =>
   cases hp:decide (p<0)||decide (p≥(K.2.2.1.length:Int)) with
   | true=>exact .inl (by unfold ug;rw [hru,hha,hp];exact ⟨rfl,rfl,(show (3:Int)≠0 by decide)⟩)
   | false =>
    have hp':=hp
    rw [Bool.or_eq_false_iff] at hp
    have p1:=of_decide_eq_false hp.1
    have p2:=of_decide_eq_false hp.2
    cases hof:K.2.2.2.2.2.2.2.2.2.2.getD p.toNat false with
    | true=>exact .inl (by unfold ug;rw [hru,hha,hp',hof];exact ⟨rfl,rfl,(show (6:Int)≠0 by decide)⟩)
    | false =>
     have hle:=YZ p K.2.2.2.2.2.2.2.1
     have hstop:=WQ p K.2.2.2.2.2.2.2.1
     have mono:∀ x y,x<y -> y<K.2.2.2.2.2.2.2.1.length -> (K.2.2.2.2.2.2.2.1.getD x ay).1<(K.2.2.2.2.2.2.2.1.getD y ay).1:=fun x y hxy hy=>by
      rw [getD_in (by omega),getD_in hy];exact List.pairwise_iff_getElem.1 hr x y (by omega) hy hxy
     cases hc:decide (nk p K.2.2.2.2.2.2.2.1<K.2.2.2.2.2.2.2.1.length)&&(K.2.2.2.2.2.2.2.1.getD (nk p K.2.2.2.2.2.2.2.1) ay).1==p with
     | true =>
      have hc':=hc
      rw [Bool.and_eq_true] at hc
      have c1:=of_decide_eq_true hc.1
      have c2:=eq_of_beq hc.2
      cases hph:(K.2.2.2.2.2.2.2.1.getD (nk p K.2.2.2.2.2.2.2.1) ay).2.2.2.1 != 2 with
      | true=>exact .inl (by unfold ug;rw [hru,hha,hp',hof];simp only [Bool.not_true,cond_false];rw [hc',hph];exact ⟨rfl,rfl,(show (5:Int)≠0 by decide)⟩)
      | false =>
       have e:ug K p a=(w7 K (K.2.2.2.2.2.2.2.1.take (nk p K.2.2.2.2.2.2.2.1)++[FH p K.1 a]++K.2.2.2.2.2.2.2.1.drop (nk p K.2.2.2.2.2.2.2.1+1)),[(K.1,13,p,0,0,0),(K.1,1,p,0,a,0)],0):=by unfold ug;rw [hru,hha,hp',hof];simp only [Bool.not_true,cond_false];rw [hc',hph];rfl
       rw [e]
       refine .inr ⟨rfl,rfl,⟨by omega,by omega⟩,rfl,nk p K.2.2.2.2.2.2.2.1+1,by omega,by omega,rfl,UW (p:=p) (x:=FH p K.1 a) hr rfl (by omega) (by omega) (fun b h1 h2=>?_),.inr ⟨rfl,c2,by simpa using hph,rfl⟩⟩
       have:=mono (nk p K.2.2.2.2.2.2.2.1) b (by omega) h2
       omega
     | false =>
      have e:ug K p a=(w7 K (K.2.2.2.2.2.2.2.1.take (nk p K.2.2.2.2.2.2.2.1)++[FH p K.1 a]++K.2.2.2.2.2.2.2.1.drop (nk p K.2.2.2.2.2.2.2.1)),[(K.1,1,p,0,a,0)],0):=by unfold ug;rw [hru,hha,hp',hof];simp only [Bool.not_true,cond_false];rw [hc];rfl
      rw [e]
      have hgt:∀ b,nk p K.2.2.2.2.2.2.2.1 <= b -> b<K.2.2.2.2.2.2.2.1.length -> p<(K.2.2.2.2.2.2.2.1.getD b ay).1:=fun b h1 h2=>by
       have c0:=hstop (by omega)
       have c1:(K.2.2.2.2.2.2.2.1.getD (nk p K.2.2.2.2.2.2.2.1) ay).1≠p:=fun e=>by
        rw [e,decide_eq_true (show nk p K.2.2.2.2.2.2.2.1<K.2.2.2.2.2.2.2.1.length by omega)] at hc
        simp at hc
       by_cases e:b=nk p K.2.2.2.2.2.2.2.1
       ·rw [e];omega
       ·have:=mono (nk p K.2.2.2.2.2.2.2.1) b (by omega) h2
        omega
      refine .inr ⟨rfl,rfl,⟨by omega,by omega⟩,rfl,nk p K.2.2.2.2.2.2.2.1,Nat.le_refl _,hle,rfl,UW (p:=p) (x:=FH p K.1 a) hr rfl (Nat.le_refl _) hle hgt,.inl ⟨rfl,fun j hj e=>?_,rfl⟩⟩
      obtain ⟨b,hb,eb⟩:=vg ay hj
      by_cases q:b<nk p K.2.2.2.2.2.2.2.1
      ·have:=OO p _ b q;rw [eb] at this;omega
      ·have:=hgt b (by omega) hb;rw [eb] at this;omega
theorem ap4 {K:je} (h:KW K) {p a:Int} (ha:FY a):KW (ug K p a).1:=by
 rcases JA h.OI p a with ⟨e,_⟩ | ⟨hru,hha,hp,_,n,h1,h2,e,hris,_⟩
 ·rw [e];exact h
 ·rw [e]
  refine ⟨h.FE,h.task,h.bnd,h.tab,fun j hj=>?_,hris,h.row,fun q=>absurd (hru.symm.trans q) (by decide)⟩
  have Lx:=h.task _ (jo (z:=bg) (show p.toNat<K.2.2.1.length by omega))
  rcases List.mem_append.1 (show j∈_++_ from hj) with hj | hj
  ·rcases List.mem_append.1 hj with hj | hj
   ·exact h.job j (List.mem_of_mem_take hj)
   ·rw [List.mem_singleton] at hj;rw [hj];exact ⟨a,JW.FH hp ha Lx⟩
  ·exact h.job j (List.mem_of_mem_drop hj)
abbrev Stp:Type:=Int×(Int×iy×(Int×Int)×Int×Int×Int)×Int×Int
def stp (kd:Int) (t:iy):Stp:=(1,(kd,t,(0,0),0,0,0),0,0)
abbrev zt:iy:=(0,0,0,[],[],[])
def opS (b:Bool) (kd:Int):List Stp:=bif b then [stp kd zt] else []
theorem abP {k:Nat} (hk:1000 <= k) {p:List Int} {lo:Int} (hl:0 <= lo /\ lo <= 4):∀ (m j:Nat) (n:Int) (l:List Stp),m<j -> l.length+m <= 10 -> xk p n ->
  ∃ (tl:List iy) (bx fl:Bool) (n':Int),aa3 k j p n l lo (m:Int)=some ((l++tl.map (stp 1)++opS bx 3++opS fl 4++[stp 5 zt],()),(p,n',()),()) /\ xk p n' /\ tl.length=m /\ ∀ t∈tl,∃ r,MT lo r t
 | 0,j,n,l,hj,hm,hp=>by
  obtain ⟨j',rfl⟩:∃ j',j=j'+1:=⟨j - 1,by omega⟩
  obtain ⟨v,n1,e1,hv,hp1⟩:=l8 k hp (show (0:Int)<3 by omega)
  obtain ⟨w,n2,e2,hw,hp2⟩:=l8 k hp1 (show (0:Int)<3 by omega)
  rw [afd,afc,Sd (by omega),e1,Option.bind_some]
  simp only
  have tail:∀ l2:List Stp,l2.length <= 20 -> TL k p n1 l2=some ((l2++opS (w==0) 4++[stp 5 zt],()),(p,n2,()),()):=fun l2 hl2=>by
   unfold TL
   rw [e2,Option.bind_some]
   simp only
   unfold Yl Q7 opS stp
   cases w==0 with
   | true =>
    simp only [cond_true,Option.bind_some]
    rw [Rz (by simp only [List.length_cons,List.length_nil];omega),Rz (by simp only [List.length_append,List.length_cons,List.length_nil];omega)]
   | false =>
    simp only [cond_false,Option.bind_some,List.append_nil]
    rw [Rz (by simp only [List.length_cons,List.length_nil];omega)]
  refine ⟨[],v==0,w==0,n2,?_,hp2,rfl,fun t h=>by cases h⟩
  cases v==0 with
  | true =>
   rw [cond_true]
   unfold Q7
   rw [Option.bind_some,Rz (by simp only [List.length_cons,List.length_nil];omega),tail _ (by simp only [List.length_append,List.length_cons,List.length_nil];omega)]
   simp [opS,stp]
  | false =>
   rw [cond_false,tail _ (by omega)]
   simp [opS]
 | m+1,j,n,l,hj,hm,hp=>by
  obtain ⟨j',rfl⟩:∃ j',j=j'+1:=⟨j - 1,by omega⟩
  obtain ⟨v,n1,e1,hv,hp1⟩:=l8 k hp (show (0:Int)<3 by omega)
  rw [afd,afc,Sc (by omega),e1,Option.bind_some]
  simp only
  obtain ⟨t,n2,e2,hp2,ht⟩:=akr hk (rank:=IntKind.i64.wrap (IntKind.i64.wrap (3 * ((m+1:Nat):Int))+v)) hl hp1
  rw [e2,Option.bind_some]
  simp only
  unfold Q7
  rw [Option.bind_some,Rz (by simp only [List.length_cons,List.length_nil];omega),Uu (n:=((m+1:Nat):Int) - 1) (by omega) (by omega),show ((m+1:Nat):Int) - 1=(m:Int) by omega]
  obtain ⟨tl,bx,fl,n',q1,q2,q3,q4⟩:=abP hk hl m j' n2 (l++[stp 1 t]) (by omega) (by simp only [List.length_append,List.length_cons,List.length_nil];omega) hp2
  refine ⟨t::tl,bx,fl,n',?_,q2,by simp [q3],fun x hx=>?_⟩
  ·show aa3 k j' p n2 (l++[stp 1 t]) lo (m:Int)=_
   rw [q1];simp
  ·rcases List.mem_cons.1 hx with rfl | h
   ·exact ⟨_,ht⟩
   ·exact q4 x h
theorem abQ {k:Nat} (hk:1000 <= k) {p:List Int} {lo:Nat} (hl:lo <= 4):∀ (d i j:Nat) (n:Int) ,i+d=lo -> d<j -> xk p n ->
  ∃ (tl:List iy) (bx fl:Bool) (n':Int),aff k j p n (List.replicate i (stp 2 zt)) (lo:Int) (i:Int)=some ((List.replicate lo (stp 2 zt)++tl.map (stp 1)++opS bx 3++opS fl 4++[stp 5 zt],()),(p,n',()),()) /\ xk p n' /\ tl.length <= 4 /\ ∀ t∈tl,∃ r,MT lo r t
 | 0,i,j,n,h,hj,hp=>by
  obtain ⟨j',rfl⟩:∃ j',j=j'+1:=⟨j - 1,by omega⟩
  obtain ⟨v,n1,e1,hv,hp1⟩:=l8 k hp (show (0:Int)<4 by omega)
  rw [afg,afe,Sd (by omega),e1,Option.bind_some]
  simp only
  rw [Uu (n:=v+1) (by omega) (by omega),show v+1=(((v+1).toNat:Nat):Int) by omega]
  obtain ⟨tl,bx,fl,n',q1,q2,q3,q4⟩:=abP hk (lo:=lo) (by omega) (v+1).toNat k n1 (List.replicate i (stp 2 zt)) (by omega) (by rw [List.length_replicate];omega) hp1
  have:i=lo:=by omega
  subst this
  exact ⟨tl,bx,fl,n',q1,q2,by omega,q4⟩
 | d+1,i,j,n,h,hj,hp=>by
  obtain ⟨j',rfl⟩:∃ j',j=j'+1:=⟨j - 1,by omega⟩
  rw [afg,afe,Sc (by omega)]
  unfold Q7
  rw [Option.bind_some,Rz (by simp only [List.length_replicate,List.length_cons,List.length_nil];omega),Mi (by omega)]
  obtain ⟨tl,bx,fl,n',q1,q2⟩:=abQ hk hl d (i+1) j' n (by omega) (by omega) hp
  rw [List.replicate_succ'] at q1
  exact ⟨tl,bx,fl,n',q1,q2⟩
theorem ap5 {k:Nat} (hk:1000 <= k) {p:List Int} {n:Int} (hp:xk p n) :
  ∃ (lo:Nat) (tl:List iy) (bx fl:Bool) (n':Int),S17 k p n=some ((List.replicate lo (stp 2 zt)++tl.map (stp 1)++opS bx 3++opS fl 4++[stp 5 zt],()),(p,n',()),()) /\ xk p n' /\ lo <= 3 /\ tl.length <= 4 /\ ∀ t∈tl,∃ r,MT lo r t:=by
 obtain ⟨v,n1,e1,hv,hp1⟩:=l8 k hp (show (0:Int)<4 by omega)
 obtain ⟨m,rfl⟩:∃ m:Nat,v=(m:Int):=⟨v.toNat,by omega⟩
 obtain ⟨tl,bx,fl,n',q1,q2,q3,q4⟩:=abQ hk (lo:=m) (by omega) m 0 k n1 (by omega) (by omega) hp1
 refine ⟨m,tl,bx,fl,n',?_,q2,by omega,q3,q4⟩
 unfold S17
 rw [e1,Option.bind_some]
 exact q1
structure SW (s:Stp):Prop where
 light:zi s.2.1.2.1 /\ (s.2.1.2.1.2.2.2.1++s.2.1.2.1.2.2.2.2.1).length <= 900
 arg:FY s.2.1.2.2.2.2.1
theorem SW.zero (a:Int) (b:Int) (h:Int×Int) (c d e:Int) (f:Int×Int) (hd:FY d):SW (a,(b,bg,h,c,d,e),f):=⟨⟨⟨by simp,by simp,by simp⟩,by simp⟩,hd⟩
theorem MT.cat {j3 rank:Int} {t:iy} (h:MT j3 rank t):(t.2.2.2.1++t.2.2.2.2.1).length <= 900:=by
 obtain ⟨m,e,_,hm⟩:=h.main
 rw [List.length_append,e,vk]
 rcases h.way with q | q | q <;> rw [q] <;> simp <;> omega
theorem akN {k:Nat} (hk:1000 <= k) {p:List Int} {n:Int} (hp:xk p n):∃ (l:List Stp) (n':Int),S17 k p n=some ((l,()),(p,n',()),()) /\ xk p n' /\ (∀ s∈l,SW s) /\ l.length <= 10:=by
 obtain ⟨lo,tl,bx,fl,n',e,hp2,hlo,has,hm⟩:=ap5 (k:=k) hk hp
 have i0:FY 0:=⟨by omega,by omega⟩
 have o:∀ (b:Bool) (n:Int),(opS b n).length <= 1 /\ ∀ s∈opS b n,SW s:=fun b n=>by
  cases b with
  | false=>exact ⟨by simp [opS],fun s h=>by cases h⟩
  | true=>exact ⟨by simp [opS],fun s h=>by rw [opS,cond_true,List.mem_singleton] at h;rw [h];exact SW.zero _ _ _ _ _ _ _ i0⟩
 have o1:=o bx 3
 have o2:=o fl 4
 refine ⟨_,n',e,hp2,fun s hs=>?_,by simp only [List.length_append,List.length_replicate,List.length_map,List.length_cons,List.length_nil];omega⟩
 simp only [List.mem_append,List.mem_replicate,List.mem_map,List.mem_singleton] at hs
 rcases hs with (((⟨_,rfl⟩ | ⟨t,ht,rfl⟩) | q) | q) | rfl
 ·exact SW.zero _ _ _ _ _ _ _ i0
 ·obtain ⟨r,hr⟩:=hm t ht
  exact ⟨⟨hr.light,hr.cat⟩,i0⟩
 ·exact o1.2 s q
 ·exact o2.2 s q
 ·exact SW.zero _ _ _ _ _ _ _ i0
theorem ap6 {k:Nat} (hk:1000 <= k) {p:List Int} {n:Int} (hp:xk p n):∃ (s:Stp) (n':Int),S38 k p n=some ((s,()),(p,n',()),()) /\ xk p n' /\ SW s:=by
 obtain ⟨a,n1,e1,h1,hp1⟩:=l8 k hp (show (0:Int)<8 by omega)
 obtain ⟨b,n2,e2,h2,hp2⟩:=l8 k hp1 (show (0:Int)<5 by omega)
 obtain ⟨v,n3,e3,h3,hp3⟩:=l8 k hp2 (show (0:Int)<24 by omega)
 have i0:FY 0:=⟨by omega,by omega⟩
 unfold S38 Q7
 rw [e1,Option.bind_some]
 simp only
 rw [e2,Option.bind_some]
 simp only
 rw [e3,Option.bind_some]
 simp only
 have rel:∃ (s:Stp) (n':Int),((AZ k p n3 6).bind fun q3=>(AZ k q3.2.1.1 q3.2.1.2.1 9).bind fun q4=>(some (((1,(6,bg,(0,0),q3.1.1,IntKind.i64.wrap (q4.1.1 - 4),0),0,0),()),()):Option ((Stp×Unit)×Unit)).bind fun q5=>some ((q5.1.1,()),q4.2.1,()))=some ((s,()),(p,n',()),()) /\ xk p n' /\ SW s:=by
  obtain ⟨x,m1,f1,g1,r1⟩:=l8 k hp3 (show (0:Int)<6 by omega)
  obtain ⟨y,m2,f2,g2,r2⟩:=l8 k r1 (show (0:Int)<9 by omega)
  rw [f1,Option.bind_some]
  simp only
  rw [f2,Option.bind_some,Uu (n:=y - 4) (by omega) (by omega)]
  exact ⟨_,m2,rfl,r2,SW.zero _ _ _ _ _ _ _ ⟨by omega,by omega⟩⟩
 have one:∀ (m:Int) (hm:0<m) (f:Int -> Stp),(∀ x,0 <= x /\ x<m -> SW (f x)) -> ∃ (s:Stp) (n':Int),((AZ k p n3 m).bind fun q=>some ((f q.1.1,()),q.2.1,()))=some ((s,()),(p,n',()),()) /\ xk p n' /\ SW s:=fun m hm f hf=>by
  obtain ⟨x,m1,f1,g1,r1⟩:=l8 k hp3 hm
  rw [f1,Option.bind_some]
  exact ⟨_,m1,rfl,r1,hf x g1⟩
 cases v==0 with
 | true=>exact rel
 | false =>
 cases v==1 with
 | true=>exact rel
 | false =>
 cases v==2 with
 | true=>exact rel
 | false =>
 cases v==3 with
 | true=>exact rel
 | false =>
 cases v==4 with
 | true=>exact rel
 | false =>
 cases v==5 with
 | true=>exact ⟨_,n3,rfl,hp3,SW.zero _ _ _ _ _ _ _ i0⟩
 | false =>
 cases v==6 with
 | true=>exact one 9 (by omega) (fun x=>(4,bn,x,0)) (fun x _=>SW.zero _ _ _ _ _ _ _ i0)
 | false =>
 cases v==7 with
 | true=>exact one 99 (by omega) (fun x=>(1,(7,bg,(a,IntKind.i64.wrap (1+IntKind.i64.wrap (Int.tdiv b 4))),0,x,0),0,0)) (fun x hx=>SW.zero _ _ _ _ _ _ _ ⟨by omega,by omega⟩)
 | false =>
 cases v==8 with
 | true=>exact one 4 (by omega) (fun x=>(1,(8,bg,(a,IntKind.i64.wrap (1+IntKind.i64.wrap (Int.tdiv b 4))),x,0,0),0,0)) (fun x hx=>SW.zero _ _ _ _ _ _ _ i0)
 | false =>
 cases v==9 with
 | true=>exact one 16 (by omega) (fun x=>(1,(9,bg,(a,IntKind.i64.wrap (1+IntKind.i64.wrap (Int.tdiv b 4))),0,0,IntKind.u32.wrap x),0,0)) (fun x hx=>SW.zero _ _ _ _ _ _ _ i0)
 | false =>
 cases v==10 with
 | true =>
  simp only [cond_true,cond_false]
  obtain ⟨x,m1,f1,g1,r1⟩:=l8 k hp3 (show (0:Int)<4 by omega)
  obtain ⟨y,m2,f2,g2,r2⟩:=l8 k r1 (show (0:Int)<16 by omega)
  rw [f1,Option.bind_some]
  simp only
  rw [f2,Option.bind_some]
  exact ⟨_,m2,rfl,r2,SW.zero _ _ _ _ _ _ _ i0⟩
 | false =>
 cases v==11 with
 | true =>
  simp only [cond_true,cond_false]
  obtain ⟨x,m1,f1,g1,r1⟩:=l8 k hp3 (show (0:Int)<12 by omega)
  obtain ⟨y,m2,f2,g2,r2⟩:=l8 k r1 (show (0:Int)<6 by omega)
  obtain ⟨z,m3,f3,g3,r3⟩:=l8 k r2 (show (0:Int)<9 by omega)
  obtain ⟨t,m4,f4,r4,ht⟩:=akr hk (rank:=z) (j3:=2) ⟨by omega,by omega⟩ r3
  rw [f1,Option.bind_some]
  simp only
  rw [f2,Option.bind_some]
  simp only
  rw [f3,Option.bind_some]
  simp only
  rw [f4,Option.bind_some]
  exact ⟨_,m4,rfl,r4,⟨⟨ht.light,ht.cat⟩,i0⟩⟩
 | false =>
 cases v==12 with
 | true=>exact one 30 (by omega) (fun x=>(5,bn,0,IntKind.i64.wrap (1+x))) (fun x _=>SW.zero _ _ _ _ _ _ _ i0)
 | false =>
 cases v==13 with
 | true=>exact one 30 (by omega) (fun x=>(5,bn,0,IntKind.i64.wrap (1+x))) (fun x _=>SW.zero _ _ _ _ _ _ _ i0)
 | false=>exact ⟨_,n3,rfl,hp3,SW.zero _ _ _ _ _ _ _ i0⟩
theorem abR {k:Nat} (hk:1000 <= k) {p:List Int} {c:Nat} (hc:c <= 500):∀ (m i j:Nat) (n:Int) (l:List Stp),i+m=c -> m<j -> xk p n -> (∀ s∈l,SW s) -> l.length <= 10+i ->
  ∃ (l':List Stp) (n':Int),afi k j p n (c:Int) l (i:Int)=some ((l',()),(p,n',()),()) /\ xk p n' /\ (∀ s∈l',SW s) /\ l'.length <= 10+c
 | 0,i,j,n,l,hi,hj,hp,hl,hn=>by
  obtain ⟨j,rfl⟩:∃ i,j=i+1:=⟨j - 1,by omega⟩
  rw [afj,afh,Sd (by omega)]
  exact ⟨l,n,rfl,hp,hl,by omega⟩
 | m+1,i,j,n,l,hi,hj,hp,hl,hn=>by
  obtain ⟨j,rfl⟩:∃ i,j=i+1:=⟨j - 1,by omega⟩
  rw [afj,afh,Sc (by omega)]
  unfold S28
  rw [Option.bind_some]
  simp only
  cases decide (n≥(p.length:Int)) with
  | true=>exact ⟨l,n,rfl,hp,hl,by omega⟩
  | false =>
   obtain ⟨s,n',e,hp',hs⟩:=ap6 hk hp
   rw [Bool.not_false,cond_true,e,Option.bind_some]
   simp only
   rw [Rz (by simp only [List.length_cons,List.length_nil];omega),Mi (by omega)]
   exact abR hk hc m (i+1) j n' (l++[s]) (by omega) (by omega) hp' (fun x hx=>by
    rcases List.mem_append.1 hx with q | q
    ·exact hl x q
    ·rw [List.mem_singleton] at q;rw [q];exact hs) (by simp;omega)
theorem ap7 {k:Nat} (hk:1000 <= k) {p:List Int} {n:Int} (hp:xk p n) {c:Nat} (hc:c <= 500):∃ (l:List Stp) (n':Int),S18 k p n (c:Int)=some ((l,()),(p,n',()),()) /\ xk p n' /\ (∀ s∈l,SW s) /\ l.length <= 10+c:=by
 obtain ⟨l,n1,e,hp1,hl,hn⟩:=akN hk hp
 unfold S18
 rw [e,Option.bind_some]
 exact abR hk hc c 0 k n1 l (by omega) (by omega) hp1 hl (by omega)
def takeB (b:List Int×List Int) (c:Int):(List Int×List Int)×Int×Bool×Bool :=
 bif decide (c<1) then (b,0,false,false)
 else bif decide ((b.1.length:Int)>0) then ((b.1.drop 1,b.2),b.1.getD 0 0,true,true)
 else bif b.2.any (fun x=>c==x) then (b,0,false,false)
 else bif decide ((b.2.length:Int)≥4) then (b,0,false,false) else ((b.1,b.2++[c]),0,false,true)
def BJ (b:List Int×List Int) (v:Int):(List Int×List Int)×Int×Bool :=
 bif decide ((b.2.length:Int)>0) then ((b.1,b.2.drop 1),b.2.getD 0 0,true)
 else bif decide ((b.1.length:Int)≥4) then (b,0,false) else ((b.1++[v],b.2),0,true)
theorem arh {k:Nat} {xs:List Int} (h:xs.length <= 900):GJ k xs=some ((xs,()),()):=by
 unfold GJ;exact Ll (by omega)
theorem akO {k:Nat} {xs:List Int} (h:xs.length <= 900):aam k xs=some ((xs,()),()):=by
 unfold aam;exact Ll (by omega)
theorem asF {k:Nat} {xs:List (Int×Int)} (h:xs.length <= 900):aan k xs=some ((xs,()),()):=by
 unfold aan;exact Ll (by omega)
theorem sub_one {l:List Int}:sub l 1 (l.length:Int)=l.drop 1:=by
 unfold sub
 rw [Int.toNat_natCast,List.take_length];rfl
theorem anJ {k:Nat} (hk:1000 <= k) {s:List Int} {v:Int} (h:s.length <= 900):acn k s v=some ((qw (fun b=>v==b) s,()),()):=by
 unfold acn
 refine uf (fun j i=>EM k j s v (s.length:Int) i) s 0 _ (fun j i hi=>?_) (fun j=>?_) k (by omega)
 ·show EM k (j+1) s v (s.length:Int) (i:Int)=_
  rw [L9,N8,Sc (by omega),Qo hi,Mi (by omega),Qp]
 ·show EM k (j+1) s v (s.length:Int) (s.length:Int)=_
  rw [L9,N8,Sd (by omega)]
theorem anK {k:Nat} (hk:1000 <= k) {b:List Int×List Int} (h1:b.1.length <= 100) (h2:b.2.length <= 100) (c:Int):ai2 k b c=some (((takeB b c).1,(takeB b c).2.1,(takeB b c).2.2.1,(takeB b c).2.2.2,()),()):=by
 unfold ai2 aiY takeB
 rw [akO (by omega),Option.bind_some,arh (by omega),Option.bind_some,Option.bind_some]
 simp only
 by_cases hc:c<1
 ·rw [Sc hc,Sc hc]
 ·rw [Sd hc,Sd hc]
  by_cases hl:(b.1.length:Int)>0
  ·rw [Sc hl,Sc hl,Lj (by omega) (by omega),Rx (by omega) (by omega) (by omega),sub_one]
   rfl
  ·rw [Sd hl,Sd hl]
   unfold apd
   rw [anJ hk (by omega)]
   simp only [Option.bind_some,DN]
   cases b.2.any (fun x=>c==x) with
   | true=>rfl
   | false =>
    rw [cond_false,cond_false]
    by_cases h4:(b.2.length:Int)≥4
    ·rw [Sc h4,Sc h4]
    ·rw [Sd h4,Sd h4,Rz (by simp;omega)]
theorem anL {k:Nat} (hk:1000 <= k) {b:List Int×List Int} (h1:b.1.length <= 100) (h2:b.2.length <= 100) (v:Int):aiZ k b v=some (((BJ b v).1,(BJ b v).2.1,(BJ b v).2.2,()),()):=by
 unfold aiZ aiY BJ
 rw [akO (by omega),Option.bind_some,arh (by omega),Option.bind_some,Option.bind_some]
 simp only
 by_cases hl:(b.2.length:Int)>0
 ·rw [Sc hl,Sc hl,Lj (by omega) (by omega),Rx (by omega) (by omega) (by omega),sub_one]
  rfl
 ·rw [Sd hl,Sd hl]
  by_cases h4:(b.1.length:Int)≥4
  ·rw [Sc h4,Sc h4]
  ·rw [Sd h4,Sd h4,Rz (by simp;omega)]
def BP (f:Int×List (Int×Int)) (c m:Int):(Int×List (Int×Int))×Int×Bool :=
 bif decide (c<1) then (f,0,false)
 else bif m==0 then (f,0,false)
 else bif Um .u32 f.1 m != 0 then ((Ru .u32 f.1 (Um .u32 f.1 m),f.2),Um .u32 f.1 m,true)
 else bif decide ((f.2.length:Int)≥4) then (f,0,false)
 else bif f.2.any (fun w=>w.1==c) then (f,0,false) else ((f.1,f.2++[(c,m)]),0,true)
theorem anM {k:Nat} (hk:1000 <= k) {s:List (Int×Int)} {c:Int} (h:s.length <= 900):alE k s c=some ((qw (fun w:Int×Int=>w.1==c) s,()),()):=by
 unfold alE
 refine uf (fun j i=>N9 k j s c (s.length:Int) i) s (0,0) _ (fun j i hi=>?_) (fun j=>?_) k (by omega)
 ·show N9 k (j+1) s c (s.length:Int) (i:Int)=_
  rw [aaK,XY,Sc (by omega),Qo hi,Mi (by omega),Qp]
  unfold aph
  rfl
 ·show N9 k (j+1) s c (s.length:Int) (s.length:Int)=_
  rw [aaK,XY,Sd (by omega)]
theorem anN {k:Nat} (hk:1000 <= k) {f:Int×List (Int×Int)} (h2:f.2.length <= 100) (c m:Int):ajh k f c m=some (((BP f c m).1,(BP f c m).2.1,(BP f c m).2.2,()),()):=by
 unfold ajh BP
 rw [asF (by omega),Option.bind_some]
 by_cases hc:c<1
 ·rw [Sc hc,Sc hc]
 ·rw [Sd hc,Sd hc]
  cases m==0 with
  | true=>rfl
  | false =>
   rw [cond_false,cond_false]
   cases Um .u32 f.1 m != 0 with
   | true=>rfl
   | false =>
    rw [cond_false,cond_false]
    by_cases h4:(f.2.length:Int)≥4
    ·rw [Sc h4,Sc h4]
    ·rw [Sd h4,Sd h4]
     unfold apj
     rw [anM hk (by omega)]
     simp only [Option.bind_some,DN]
     cases f.2.any (fun w=>w.1==c) with
     | true=>rfl
     | false=>rw [cond_false,cond_false,Rz (by simp;omega)]
theorem akP {k:Nat} (hk:1000 <= k) {t:Tb} {h:Int×Int} (ht:yu t) (hf:DJ t h=true) (hc:(rd t.2 h.1 j6).1≠1):aaN k t h=some ((Wu t h,xu (rd t.2 h.1 j6),true,()),()):=by
 unfold aaN Wu
 rw [F9 hk ht,Option.bind_some,RB hk ht,Option.bind_some,hf]
 have hf':=hf
 unfold DJ at hf'
 rw [Bool.and_eq_true] at hf'
 obtain ⟨h0,h1,h2⟩:=DI hf'.2
 simp only [Bool.not_true,cond_false,if_true,true_and]
 rw [Lj h0 h1,show ((rd t.2 h.1 j6).1==1)=false by simpa using hc,cond_false,if_pos hc]
 have hfree:alF k t.1 h=some (((t.1.1,upd t.1.2 h.1 false),true,()),()):=by
  unfold alF aiM
  simp only [GJ,Vb]
  rw [Ll (by have:=ht.1.1;omega),Option.bind_some,Ll (by have:=ht.1.2.1;omega),Option.bind_some,Option.bind_some]
  simp only
  have e0:((t.1.1,t.1.2):iw)=t.1:=rfl
  rw [e0,afZ hk ht.1.1 ht.1.2.1,Option.bind_some,hf'.1]
  have hh:=hf'.1
  unfold akp at hh
  simp only [Bool.and_eq_true,decide_eq_true_eq] at hh
  simp only [Bool.not_true,cond_false]
  rw [Lj h0 (by omega)]
 rw [hfree,Option.bind_some,Lj h0 h1,Lj h0 h1,afT hk (ht.2 _ (O8 h0 h1)),Option.bind_some]
def CZ (s:(Int×List (Int×Int))×List (Int×Int)) (w:Int×Int):(Int×List (Int×Int))×List (Int×Int) :=
 bif Um .u32 s.1.1 w.2==0 then ((s.1.1,s.1.2++[w]),s.2) else ((Ru .u32 s.1.1 (Um .u32 s.1.1 w.2),s.1.2),s.2++[(w.1,Um .u32 s.1.1 w.2)])
def I5 (f:Int×List (Int×Int)) (m:Int):(Int×List (Int×Int))×List (Int×Int):=f.2.foldl CZ ((Uz .u32 f.1 m,[]),[])
theorem OQ:∀ (l:List (Int×Int)) (s:(Int×List (Int×Int))×List (Int×Int)),(l.foldl CZ s).1.2.length <= s.1.2.length+l.length /\ (l.foldl CZ s).2.length <= s.2.length+l.length
 | [],s=>⟨by simp,by simp⟩
 | w::l,s=>by
  rw [List.foldl_cons]
  obtain ⟨a,b⟩:=OQ l (CZ s w)
  have:(CZ s w).1.2.length <= s.1.2.length+1 /\ (CZ s w).2.length <= s.2.length+1:=by
   unfold CZ
   cases Um .u32 s.1.1 w.2==0 <;> simp
  simp only [List.length_cons];omega
theorem anO {k:Nat} (hk:1000 <= k) {f:Int×List (Int×Int)} (h:f.2.length <= 100) (m:Int):ai4 k f m=some (((I5 f m).1,(I5 f m).2,()),()):=by
 have key:∀ (d i j:Nat) (s:(Int×List (Int×Int))×List (Int×Int)),i+d=f.2.length -> d<j -> s.1.2.length <= i -> s.2.length <= i ->
   XV k j s.1.1 s.1.2 s.2 f.2 (f.2.length:Int) (i:Int)=some ((((f.2.drop i).foldl CZ s).1,((f.2.drop i).foldl CZ s).2,()),()):=by
  intro d
  induction d with
  | zero =>
   intro i j s hi hj h1 h2
   obtain ⟨j,rfl⟩:∃ i,j=i+1:=⟨j - 1,by omega⟩
   rw [aaF,XU,Sd (by omega),drop_nil (by omega)];rfl
  | succ d ih =>
   intro i j s hi hj h1 h2
   obtain ⟨j,rfl⟩:∃ i,j=i+1:=⟨j - 1,by omega⟩
   have hi':i<f.2.length:=by omega
   have hl:=OQ [f.2.getD i (0,0)] s
   simp only [List.foldl_cons,List.foldl_nil,List.length_cons,List.length_nil] at hl
   have ih:=ih (i+1) j (CZ s (f.2.getD i (0,0))) (by omega) (by omega) (by omega) (by omega)
   rw [aaF,XU,Sc (by omega),Qo hi',Qp,Mi (by omega),drop_cons (0,0) hi',List.foldl_cons]
   refine Eq.trans ?_ ih
   unfold CZ
   cases Um .u32 s.1.1 (f.2.getD i (0,0)).2==0 with
   | true=>rw [cond_true,cond_true,Rz (by simp only [List.length_cons,List.length_nil];omega)]
   | false=>rw [cond_false,cond_false,Rz (by simp only [List.length_cons,List.length_nil];omega)]
 unfold ai4 I5
 exact key f.2.length 0 k ((Uz .u32 f.1 m,[]),[]) (by omega) (by omega) (by simp) (by simp)
abbrev Cl:Type:=Int×iy×(Int×Int)×Int×Int×Int
abbrev Rly:Type:=Int×(Int×Int)×Int
abbrev CR:Type:=je×List jf×Rly
def err (K:je) (e:Int):CR:=(K,[],e,(0,0),0)
def y5 (K:je) (T:Tb):je:=w8 K T
noncomputable def KN (K:je) (c:Cl):CR:=bif K.2.2.2.2.1 then err K 7 else bif (inT K.2.2.1 c.2.1 K.2.1).2.2==0 then err (K.1,K.2.1,(inT K.2.2.1 c.2.1 K.2.1).1,(inT K.2.2.1 c.2.1 K.2.1).2.1,K.2.2.2.2) 0 else err K (inT K.2.2.1 c.2.1 K.2.1).2.2
noncomputable def zn (k:Nat) (K:je) (c:Cl):CR:=bif (c.1==2)&&K.2.2.2.2.1 then err K 7 else bif (BF k K.2.2.2.2.2.2.2.2.1 (c.1 - 1)).2.2 then (y5 K (BF k K.2.2.2.2.2.2.2.2.1 (c.1 - 1)).1,[],0,(BF k K.2.2.2.2.2.2.2.2.1 (c.1 - 1)).2.1,0) else err K 4
def ari (K:je):je:=z9 K (List.replicate K.2.2.1.length 0,List.replicate K.2.2.1.length false)
noncomputable def I6 (k:Nat) (K:je):CR:=bif (uh k K).2==0 then err (ari (uh k K).1) 0 else err K (uh k K).2
def anP (K:je) (c:Cl):CR:=((ug K c.2.2.2.1 c.2.2.2.2.1).1,(ug K c.2.2.2.1 c.2.2.2.2.1).2.1,(ug K c.2.2.2.1 c.2.2.2.2.1).2.2,(0,0),0)
def MK (T:Tb) (h:Int×Int) (kd:Int):Bool:=DJ T h&&(rd T.2 h.1 j6).1==kd
noncomputable def UY (k:Nat) (K:je) (c:Cl):CR :=
 let T:=K.2.2.2.2.2.2.2.2.1
 let x:=rd T.2 c.2.2.1.1 j6
 let b:=BJ x.2.2.2.1 c.2.2.2.2.1
 bif !MK T c.2.2.1 2 then err K 3 else bif !b.2.2 then err K 4
 else (y5 K (KA k T c.2.2.1.1 (w3 x b.1)),bif decide (b.2.1>0) then [(K.1,12,0,b.2.1,c.2.2.2.2.1,0)] else [],0,(0,0),0)
noncomputable def UZ (k:Nat) (K:je) (c:Cl):CR :=
 let T:=K.2.2.2.2.2.2.2.2.1
 let x:=rd T.2 c.2.2.1.1 j6
 let b:=takeB x.2.2.2.1 c.2.2.2.1
 bif !MK T c.2.2.1 2 then err K 3 else bif !b.2.2.2 then err K 1
 else (y5 K (KA k T c.2.2.1.1 (w3 x b.1)),[],bif b.2.2.1 then 0 else 16,(0,0),bif b.2.2.1 then b.2.1 else 0)
def abS (now:Int) (l:List (Int×Int)):List jf:=l.map fun w=>(now,12,0,w.1,IntKind.i64.wrap w.2,0)
noncomputable def KO (k:Nat) (K:je) (c:Cl):CR :=
 let T:=K.2.2.2.2.2.2.2.2.1
 let x:=rd T.2 c.2.2.1.1 j6
 let b:=I5 x.2.2.2.2.1 c.2.2.2.2.2
 bif !MK T c.2.2.1 3 then err K 3
 else (y5 K (KA k T c.2.2.1.1 (w4 x b.1)),abS K.1 b.2,0,(0,0),0)
noncomputable def KP (k:Nat) (K:je) (c:Cl):CR :=
 let T:=K.2.2.2.2.2.2.2.2.1
 let x:=rd T.2 c.2.2.1.1 j6
 let b:=BP x.2.2.2.2.1 c.2.2.2.1 c.2.2.2.2.2
 bif !MK T c.2.2.1 3 then err K 3 else bif !b.2.2 then err K 1
 else (y5 K (KA k T c.2.2.1.1 (w4 x b.1)),[],bif b.2.1==0 then 16 else 0,(0,0),IntKind.i64.wrap b.2.1)
def acU (T:Tb) (h:Int×Int):Bool:=DJ T h&&(rd T.2 h.1 j6).1 != 1
def V3 (K:je) (c:Cl):CR :=
 let T:=K.2.2.2.2.2.2.2.2.1
 bif !acU T c.2.2.1 then err K 3
 else (y5 K (Wu T c.2.2.1),(xu (rd T.2 c.2.2.1.1 j6)).map (fun w=>(K.1,12,0,w,0,15)),0,(0,0),0)
noncomputable def zo (k:Nat) (K:je) (c:Cl):CR :=
 bif c.1==1 then KN K c else bif c.1==2 then zn k K c else bif c.1==3 then zn k K c else bif c.1==4 then zn k K c
 else bif c.1==5 then I6 k K else bif c.1==6 then anP K c else bif c.1==7 then UY k K c else bif c.1==8 then UZ k K c
 else bif c.1==9 then KO k K c else bif c.1==10 then KP k K c else bif c.1==11 then V3 K c else err K 1
def KQ (K:je) (c:Cl):je×Cl×List jf×Rly:=(K,c,[],0,(0,0),0)
def asR (c:Cl) (r:CR):je×Cl×List jf×Rly:=(r.1,c,r.2.1,r.2.2)
theorem ML {k:Nat} (hk:1000 <= k) {K:je} (hT:yu K.2.2.2.2.2.2.2.2.1) {c:Cl} (kd:Int):acj k (KQ K c) kd=some ((bif MK K.2.2.2.2.2.2.2.2.1 c.2.2.1 kd then (c.2.2.1.1,rd K.2.2.2.2.2.2.2.2.1.2 c.2.2.1.1 j6,true,()) else (0,bf,false,())),(bif MK K.2.2.2.2.2.2.2.2.1 c.2.2.1 kd then BR (KQ K c) else BR (asR c (err K 3))),()):=by
 unfold acj MK
 have e:agN k K.2.2.2.2.2.2.2.2.1 c.2.2.1=_:=RB hk hT
 cases hf:DJ K.2.2.2.2.2.2.2.2.1 c.2.2.1 with
 | false =>
  rw [hf] at e
  refine (congrArg (fun x=>Option.bind x _) e).trans ?_
  rfl
 | true =>
  rw [hf,if_pos rfl] at e
  have hf':=hf
  unfold DJ at hf'
  rw [Bool.and_eq_true] at hf'
  obtain ⟨h0,h1,h2⟩:=DI hf'.2
  have ei:∀ {R:Type} (x:Option R),ix (KQ K c).1.2.2.2.2.2.2.2.2.1.2 c.2.2.1.1 x=x:=fun x=>Lj h0 h1
  refine (congrArg (fun x=>Option.bind x _) e).trans ?_
  simp only [Option.bind_some,Bool.not_true,cond_false,Bool.true_and]
  rw [ei,ei]
  by_cases q:(rd K.2.2.2.2.2.2.2.2.1.2 c.2.2.1.1 j6).1=kd
  ·rw [show ((rd (KQ K c).1.2.2.2.2.2.2.2.2.1.2 c.2.2.1.1 bf).1 != kd)=false by simpa [KQ] using q,show ((rd K.2.2.2.2.2.2.2.2.1.2 c.2.2.1.1 j6).1==kd)=true from beq_iff_eq.2 q]
   rfl
  ·rw [show ((rd (KQ K c).1.2.2.2.2.2.2.2.2.1.2 c.2.2.1.1 bf).1 != kd)=true by simpa [KQ] using q,beq_eq_false_iff_ne.2 q]
   rfl
theorem FM {T:Tb} (hT:yu T) {h:Int×Int} {kd:Int} (hx:MK T h kd=true):Wp (rd T.2 h.1 j6):=by
 unfold MK DJ at hx
 simp only [Bool.and_eq_true] at hx
 obtain ⟨h0,h1,h2⟩:=DI hx.1.2
 exact hT.2 _ (O8 h0 h1)
theorem Z0 {k:Nat} {a:je×Cl×List jf×Rly} (h:a.2.2.1.length <= 1000) (b c e:Int):ai0 k a b c e=some ((),BR (a.1,a.2.1,a.2.2.1++[(a.1.1,12,0,b,c,e)],a.2.2.2),()) /\ aeE k a b c e=some ((),BR (a.1,a.2.1,a.2.2.1++[(a.1.1,12,0,b,c,e)],a.2.2.2),()):=by
 unfold ai0 aeE
 rw [Rz (by simp only [List.length_cons,List.length_nil];omega)]
 exact ⟨rfl,rfl⟩
theorem WR {b:List Int×List Int} (h:b.1.length <= 100 /\ b.2.length <= 100) (v:Int):(BJ b v).1.1.length <= 100 /\ (BJ b v).1.2.length <= 100:=by
 unfold BJ
 by_cases h1:(b.2.length:Int)>0
 ·rw [Sc h1];exact ⟨h.1,by simp only [List.length_drop];omega⟩
 ·rw [Sd h1]
  by_cases h2:(b.1.length:Int)≥4
  ·rw [Sc h2];exact h
  ·rw [Sd h2];exact ⟨by simp only [List.length_append,List.length_cons,List.length_nil];omega,h.2⟩
theorem WS {b:List Int×List Int} (h:b.1.length <= 100 /\ b.2.length <= 100) (c:Int):(takeB b c).1.1.length <= 100 /\ (takeB b c).1.2.length <= 100:=by
 unfold takeB
 by_cases h0:c<1
 ·rw [Sc h0];exact h
 ·rw [Sd h0]
  by_cases h1:(b.1.length:Int)>0
  ·rw [Sc h1];exact ⟨by simp only [List.length_drop];omega,h.2⟩
  ·rw [Sd h1]
   cases b.2.any (fun x=>c==x) with
   | true=>exact h
   | false =>
    rw [cond_false]
    by_cases h2:(b.2.length:Int)≥4
    ·rw [Sc h2];exact h
    ·rw [Sd h2];exact ⟨h.1,by simp only [List.length_append,List.length_cons,List.length_nil];omega⟩
theorem V4 {f:Int×List (Int×Int)} (h:f.2.length <= 100) (c m:Int):(BP f c m).1.2.length <= 100:=by
 unfold BP
 by_cases h0:c<1
 ·rw [Sc h0];exact h
 ·rw [Sd h0]
  cases m==0 with
  | true=>exact h
  | false =>
   rw [cond_false]
   cases Um .u32 f.1 m != 0 with
   | true=>exact h
   | false =>
    rw [cond_false]
    by_cases h2:(f.2.length:Int)≥4
    ·rw [Sc h2];exact h
    ·rw [Sd h2]
     cases f.2.any (fun w=>w.1==c) with
     | true=>exact h
     | false=>simp only [cond_false,List.length_append,List.length_cons,List.length_nil];omega
theorem KR {f:Int×List (Int×Int)} (h:f.2.length <= 100) (m:Int):(I5 f m).1.2.length <= 100 /\ (I5 f m).2.length <= 100:=by
 have:=OQ f.2 ((Uz .u32 f.1 m,[]),[])
 simp only [List.length_nil] at this
 unfold I5
 omega
theorem ahv (c:Int) (h:c=2 \/ c=3 \/ c=4):Us (.int .i64) (.int .i64) c (vL (.int .i64) (.int .i64) 4 3 (vL (.int .i64) (.int .i64) 3 2 (vL (.int .i64) (.int .i64) 2 1 ([]:List (Int×Int))))) 0=c - 1:=by
 rcases h with rfl | rfl | rfl <;> rfl
theorem V5 {k:Nat} (hk:1000 <= k) {K:je} (hT:yu K.2.2.2.2.2.2.2.2.1) {c:Cl} (hc:c.1=2 \/ c.1=3 \/ c.1=4):S90 k (KQ K c)=some ((),BR (asR c (zn k K c)),()):=by
 have key:aaz k (KQ K c) (vL (.int .i64) (.int .i64) 4 3 (vL (.int .i64) (.int .i64) 3 2 (vL (.int .i64) (.int .i64) 2 1 ([]:List (Int×Int)))))=some ((),BR (asR c (bif (BF k K.2.2.2.2.2.2.2.2.1 (c.1 - 1)).2.2 then (y5 K (BF k K.2.2.2.2.2.2.2.2.1 (c.1 - 1)).1,[],0,(BF k K.2.2.2.2.2.2.2.2.1 (c.1 - 1)).2.1,0) else err K 4)),()):=by
  unfold aaz
  rw [show (KQ K c).2.1.1=c.1 from rfl,ahv c.1 hc]
  have e:=amW hk (t:=K.2.2.2.2.2.2.2.2.1) (c:=c.1 - 1) hT (by omega)
  refine (congrArg (fun x=>Option.bind x _) e).trans ?_
  rw [Option.bind_some]
  simp only
  cases (BF k K.2.2.2.2.2.2.2.2.1 (c.1 - 1)).2.2 <;> rfl
 unfold S90 zn
 rw [key,show (KQ K c).2.1.1=c.1 from rfl,show (KQ K c).1.2.2.2.2.1=K.2.2.2.2.1 from rfl]
 cases c.1==2 with
 | false=>rfl
 | true=>cases K.2.2.2.2.1 <;> rfl
theorem ahw {k:Nat} {n:Nat} (h:n <= 100):S87 k (n:Int)=some (((List.replicate n 0,List.replicate n false),()),()):=by
 have e:mn (mx (n:Int) 0) 65536=(n:Int):=by unfold mn mx;split <;> split <;> omega
 unfold S87 mk
 rw [e,if_pos rfl,if_pos (by simp;omega),if_pos rfl,if_pos (by simp;omega)]
 rfl
theorem start_eq {k:Nat} (hk:1000 <= k) {K:je} (h:KW K) {c:Cl}:S91 k (KQ K c)=some ((),BR (asR c (I6 k K)),()):=by
 unfold S91 I6
 have e:S23 k (KQ K c).1=_:=ap2 hk h.ks
 rw [e,Option.bind_some]
 simp only
 have h8:=h.FE
 have ht:(uh k K).1.2.2.1=K.2.2.1:=by
  unfold uh
  cases K.2.2.2.2.1 with
  | true=>rfl
  | false=>cases K.2.2.1.any (HY (kg K.2.2.2.2.2.2.2.2.1).length) <;> rfl
 show (bif (uh k K).2==0 then (S87 k ((uh k K).1.2.2.1.length:Int)).bind fun q=>some ((),BR (z9 (uh k K).1 q.1.1,c,[],(uh k K).2,(0,0),0),()) else some ((),BR (asR c (err K (uh k K).2)),()))=_
 cases hz:(uh k K).2==0 with
 | true =>
  rw [cond_true,cond_true,ht,ahw (by omega),Option.bind_some,eq_of_beq hz]
  unfold ari
  rw [ht];rfl
 | false=>rfl
theorem agr {k:Nat} {c:Cl} {r:Rly} {K:je} {w:List Int} (hw:w.length <= 900):∀ (m i j:Nat) (ev:List jf),i+m=w.length -> m<j -> ev.length <= i -> aeG k j (K,c,ev,r) w (w.length:Int) (i:Int)=some ((),BR (K,c,ev++(w.drop i).map (fun w=>(K.1,12,0,w,0,15)),r),())
 | 0,i,j,ev,hi,hj,he=>by
  obtain ⟨j,rfl⟩:∃ i,j=i+1:=⟨j - 1,by omega⟩
  rw [aeH,aeF,Sd (by omega),drop_nil (by omega),List.map_nil,List.append_nil]
 | m+1,i,j,ev,hi,hj,he=>by
  obtain ⟨j,rfl⟩:∃ i,j=i+1:=⟨j - 1,by omega⟩
  have hi':i<w.length:=by omega
  have ih:=agr (k:=k) (c:=c) (r:=r) (K:=K) hw m (i+1) j (ev++[(K.1,12,0,w.getD i 0,0,15)]) (by omega) (by omega) (by simp;omega)
  rw [aeH,aeF,Sc (by omega),Qo hi',Qp,(Z0 (by show ev.length <= _;omega) _ _ _).2,Option.bind_some,Mi (by omega),drop_cons 0 hi',List.map_cons]
  simp only [vrA]
  rw [ih,List.append_assoc,List.singleton_append]
theorem abT {k:Nat} {c:Cl} {r:Rly} {K:je} {h:Int} {x:Th} {F:Int×List (Int×Int)} {o:Int} {os:List (Int×Int)} {w:List (Int×Int)} (hk:1000 <= k) (hT:yu K.2.2.2.2.2.2.2.2.1) (hx:Wp (w4 x F)) (hw:w.length <= 900):∀ (m i j:Nat) (ev:List jf),i+m=w.length -> m<j -> ev.length <= i ->
  aey k j (K,c,ev,r) h x.1 x.2.1.1 x.2.1.2 x.2.2.1.1 x.2.2.1.2 x.2.2.2.1.1 x.2.2.2.1.2 o os x.2.2.2.2.2 F.1 F.2 w (w.length:Int) (i:Int)=some ((),BR (y5 K (KA k K.2.2.2.2.2.2.2.2.1 h (w4 x F)),c,ev++abS K.1 (w.drop i),r),())
 | 0,i,j,ev,hi,hj,he=>by
  obtain ⟨j,rfl⟩:∃ i,j=i+1:=⟨j - 1,by omega⟩
  have e:=J6 hk (i:=h) hT hx
  rw [aez,aex,Sd (by omega),drop_nil (by omega)]
  refine (congrArg (fun x=>Option.bind x _) e).trans ?_
  unfold abS
  rw [Option.bind_some,List.map_nil,List.append_nil];rfl
 | m+1,i,j,ev,hi,hj,he=>by
  obtain ⟨j,rfl⟩:∃ i,j=i+1:=⟨j - 1,by omega⟩
  have hi':i<w.length:=by omega
  have ih:=abT (k:=k) (c:=c) (r:=r) (K:=K) (h:=h) (x:=x) (F:=F) (o:=o) (os:=os) hk hT hx hw m (i+1) j (ev++[(K.1,12,0,(w.getD i (0,0)).1,IntKind.i64.wrap (w.getD i (0,0)).2,0)]) (by omega) (by omega) (by simp;omega)
  rw [aez,aex,Sc (by omega),Qo hi',Qp,(Z0 (by show ev.length <= _;omega) _ _ _).1,Option.bind_some,Mi (by omega),drop_cons (0,0) hi']
  simp only [vrA]
  rw [ih]
  unfold abS
  rw [List.map_cons,List.append_assoc,List.singleton_append]
theorem post_eq {k:Nat} (hk:1000 <= k) {K:je} (hT:yu K.2.2.2.2.2.2.2.2.1) {c:Cl}:S93 k (KQ K c)=some ((),BR (asR c (UY k K c)),()):=by
 unfold S93 UY
 rw [ML hk hT,Option.bind_some]
 dsimp only
 cases hx:MK K.2.2.2.2.2.2.2.2.1 c.2.2.1 2 with
 | false=>rfl
 | true =>
  have hs:=FM hT hx
  generalize hxe:rd K.2.2.2.2.2.2.2.2.1.2 c.2.2.1.1 j6=x at hs
  simp only [cond_true,Bool.not_true,cond_false,vrA]
  have e:aiZ k x.2.2.2.1 (KQ K c).2.1.2.2.2.2.1=_:=anL hk hs.1 hs.2.1 c.2.2.2.2.1
  rw [e,Option.bind_some]
  simp only
  have hp:=WR ⟨hs.1,hs.2.1⟩ c.2.2.2.2.1
  generalize BJ x.2.2.2.1 c.2.2.2.2.1=b at hp
  cases b.2.2 with
  | false=>rfl
  | true =>
   simp only [Bool.not_true,cond_false]
   have ep:=J6 hk (t:=K.2.2.2.2.2.2.2.2.1) (i:=c.2.2.1.1) (x:=w3 x b.1) hT ⟨hp.1,hp.2,hs.2.2⟩
   cases decide (b.2.1>0) with
   | true =>
    rw [cond_true,cond_true,(Z0 (by simp [KQ]) _ _ _).1,Option.bind_some]
    simp only [vrA]
    refine (congrArg (fun x=>Option.bind x _) ep).trans ?_
    rfl
   | false =>
    rw [cond_false,cond_false]
    refine (congrArg (fun x=>Option.bind x _) ep).trans ?_
    rfl
theorem anQ {k:Nat} (hk:1000 <= k) {K:je} (hT:yu K.2.2.2.2.2.2.2.2.1) {c:Cl}:S94 k (KQ K c)=some ((),BR (asR c (UZ k K c)),()):=by
 unfold S94 UZ
 rw [ML hk hT,Option.bind_some]
 dsimp only
 cases hx:MK K.2.2.2.2.2.2.2.2.1 c.2.2.1 2 with
 | false=>rfl
 | true =>
  have hs:=FM hT hx
  generalize hxe:rd K.2.2.2.2.2.2.2.2.1.2 c.2.2.1.1 j6=x at hs
  simp only [cond_true,Bool.not_true,cond_false,vrA]
  have e:ai2 k x.2.2.2.1 (KQ K c).2.1.2.2.2.1=_:=anK hk hs.1 hs.2.1 c.2.2.2.1
  rw [e,Option.bind_some]
  simp only
  have hp:=WS ⟨hs.1,hs.2.1⟩ c.2.2.2.1
  generalize takeB x.2.2.2.1 c.2.2.2.1=b at hp
  cases b.2.2.2 with
  | false=>rfl
  | true =>
   simp only [Bool.not_true,cond_false]
   have ep:=J6 hk (t:=K.2.2.2.2.2.2.2.2.1) (i:=c.2.2.1.1) (x:=w3 x b.1) hT ⟨hp.1,hp.2,hs.2.2⟩
   cases b.2.2.1 with
   | true =>
    rw [cond_true,cond_true,cond_true]
    refine (congrArg (fun x=>Option.bind x _) ep).trans ?_
    rfl
   | false =>
    rw [cond_false,cond_false,cond_false]
    refine (congrArg (fun x=>Option.bind x _) ep).trans ?_
    rfl
theorem akQ {k:Nat} (hk:1000 <= k) {K:je} (hT:yu K.2.2.2.2.2.2.2.2.1) {c:Cl}:S96 k (KQ K c)=some ((),BR (asR c (KP k K c)),()):=by
 unfold S96 KP
 rw [ML hk hT,Option.bind_some]
 dsimp only
 cases hx:MK K.2.2.2.2.2.2.2.2.1 c.2.2.1 3 with
 | false=>rfl
 | true =>
  have hs:=FM hT hx
  generalize hxe:rd K.2.2.2.2.2.2.2.2.1.2 c.2.2.1.1 j6=x at hs
  simp only [cond_true,Bool.not_true,cond_false,vrA]
  have e:ajh k x.2.2.2.2.1 (KQ K c).2.1.2.2.2.1 (KQ K c).2.1.2.2.2.2.2=_:=anN hk hs.2.2 c.2.2.2.1 c.2.2.2.2.2
  rw [e,Option.bind_some]
  simp only
  have hp:=V4 hs.2.2 c.2.2.2.1 c.2.2.2.2.2
  generalize BP x.2.2.2.2.1 c.2.2.2.1 c.2.2.2.2.2=b at hp
  cases b.2.2 with
  | false=>rfl
  | true =>
   simp only [Bool.not_true,cond_false]
   have ep:=J6 hk (t:=K.2.2.2.2.2.2.2.2.1) (i:=c.2.2.1.1) (x:=w4 x b.1) hT ⟨hs.1,hs.2.1,hp⟩
   cases b.2.1==0 with
   | true =>
    rw [cond_true,cond_true]
    refine (congrArg (fun x=>Option.bind x _) ep).trans ?_
    rfl
   | false =>
    rw [cond_false,cond_false]
    refine (congrArg (fun x=>Option.bind x _) ep).trans ?_
    rfl
theorem akR {k:Nat} (hk:1000 <= k) {K:je} (hT:yu K.2.2.2.2.2.2.2.2.1) {c:Cl}:S95 k (KQ K c)=some ((),BR (asR c (KO k K c)),()):=by
 unfold S95 KO
 rw [ML hk hT,Option.bind_some]
 dsimp only
 cases hx:MK K.2.2.2.2.2.2.2.2.1 c.2.2.1 3 with
 | false=>rfl
 | true =>
  have hs:=FM hT hx
  generalize hxe:rd K.2.2.2.2.2.2.2.2.1.2 c.2.2.1.1 j6=x at hs
  simp only [cond_true,Bool.not_true,cond_false,vrA]
  have e:ai4 k x.2.2.2.2.1 (KQ K c).2.1.2.2.2.2.2=_:=anO hk hs.2.2 c.2.2.2.2.2
  rw [e,Option.bind_some]
  have hp:=KR hs.2.2 c.2.2.2.2.2
  generalize I5 x.2.2.2.2.1 c.2.2.2.2.2=b at hp
  exact abT (F:=b.1) (w:=b.2) hk hT ⟨hs.1,hs.2.1,hp.1⟩ (by omega) b.2.length 0 k [] (by omega) (by omega) (by simp)
theorem free_eq {k:Nat} (hk:1000 <= k) {K:je} (hT:yu K.2.2.2.2.2.2.2.2.1) {c:Cl}:S97 k (KQ K c)=some ((),BR (asR c (V3 K c)),()):=by
 unfold S97 V3 acU
 dsimp only
 cases hf:DJ K.2.2.2.2.2.2.2.2.1 c.2.2.1 with
 | false =>
  have e:aaN k (KQ K c).1.2.2.2.2.2.2.2.2.1 (KQ K c).2.1.2.2.1=some ((K.2.2.2.2.2.2.2.2.1,[],false,()),()):=by
   unfold aaN
   show Option.bind (Vd k K.2.2.2.2.2.2.2.2.1) _=_
   rw [F9 hk hT,Option.bind_some]
   have ef:=RB hk (h:=c.2.2.1) hT
   refine (congrArg (fun x=>Option.bind x _) ef).trans ?_
   rw [Option.bind_some,hf];rfl
  rw [e,Option.bind_some];rfl
 | true =>
  have hf':=hf
  unfold DJ at hf'
  rw [Bool.and_eq_true] at hf'
  obtain ⟨h0,h1,h2⟩:=DI hf'.2
  by_cases q:(rd K.2.2.2.2.2.2.2.2.1.2 c.2.2.1.1 j6).1=1
  ·have e:aaN k (KQ K c).1.2.2.2.2.2.2.2.2.1 (KQ K c).2.1.2.2.1=some ((K.2.2.2.2.2.2.2.2.1,[],false,()),()):=by
    unfold aaN
    show Option.bind (Vd k K.2.2.2.2.2.2.2.2.1) _=_
    rw [F9 hk hT,Option.bind_some]
    have ef:=RB hk (h:=c.2.2.1) hT
    refine (congrArg (fun x=>Option.bind x _) ef).trans ?_
    rw [Option.bind_some,hf]
    simp only [Bool.not_true,cond_false,if_true]
    have ei:∀ {R:Type} (x:Option R),ix (KQ K c).1.2.2.2.2.2.2.2.2.1.2 c.2.2.1.1 x=x:=fun x=>Lj h0 h1
    rw [ei,show ((rd (KQ K c).1.2.2.2.2.2.2.2.2.1.2 c.2.2.1.1 bf).1==1)=true from beq_iff_eq.2 q];rfl
   rw [e,Option.bind_some,q];rfl
  ·have e:=akP hk hT hf q
   refine (congrArg (fun x=>Option.bind x _) e).trans ?_
   rw [Option.bind_some,show ((rd K.2.2.2.2.2.2.2.2.1.2 c.2.2.1.1 j6).1 != 1)=true from bne_iff_ne.2 q]
   simp only [Bool.not_true,cond_false,Bool.and_self]
   have hs:=hT.2 _ (O8 h0 h1)
   have hw:(xu (rd K.2.2.2.2.2.2.2.2.1.2 c.2.2.1.1 j6)).length <= 900:=by unfold xu;rw [List.length_append,List.length_map];have:=hs.2.1;have:=hs.2.2;omega
   exact agr (K:=y5 K (Wu K.2.2.2.2.2.2.2.2.1 c.2.2.1)) (c:=c) (r:=(0,(0,0),0)) hw (xu (rd K.2.2.2.2.2.2.2.2.1.2 c.2.2.1.1 j6)).length 0 k [] (by omega) (by omega) (by simp)
end Go.Proofs.YtjjjbcmjmkcedaaGreat.Ab
