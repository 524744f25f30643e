import Derived.Test.YtjjjbcmjmkcedaaGreatQZAbW0
import Derived.KernelRfl
/- The plain law, and what it hangs on. -/
namespace Go.Proofs.YtjjjbcmjmkcedaaGreat.Ab
open Go.RowKit
set_option linter.unusedSimpArgs false
set_option linter.unusedVariables false
open Tr
structure MT (jy rank:Int) (t:iw):Prop where
 rank:t.1=rank
 per:20 <= t.2.1 /\ t.2.1 <= 130
 en:t.2.1 - 9 <= t.2.2.1 /\ t.2.2.1 <= t.2.1
 main:∃ m,t.2.2.2.1=Tr.prog m /\ Mp jy m /\ m.len <= 22
 way:t.2.2.2.2.1=[] \/ t.2.2.2.2.1=[(1,0,0,99),(0,0,0,0)] \/ t.2.2.2.2.1=[(0,0,0,0)]
 opt:t.2.2.2.2.2=[] \/ ∃ o,t.2.2.2.2.2=Tr.prog o /\ Mp 0 o /\ o.len <= 22
theorem MT.light {jy rank:Int} {t:iw} (h:MT jy rank t):zi t:=by
 obtain ⟨m,e,_,hm⟩:=h.main
 refine ⟨by rw [e,xw];omega,?_,?_⟩
 ·rcases h.way with e | e | e <;> rw [e] <;> simp
 ·rcases h.opt with e | ⟨o,e,_,ho⟩
  ·rw [e];simp
  ·rw [e,xw];omega
theorem abh {k:Nat} (hk:1000 <= k) {p:List Int} {n r pe e:Int} (a b c:Int) {m w:List I4} {jy:Int} (hp:xg p n) (h1:20 <= pe /\ pe <= 130) (h2:pe - 9 <= e /\ e <= pe) (h3:∃ t,m=Tr.prog t /\ Mp jy t /\ t.len <= 22) (h4:w=[] \/ w=[(1,0,0,99),(0,0,0,0)] \/ w=[(0,0,0,0)]) :
  ∃ t n',aaU k p n a b c r pe e m w []=some ((t,()),(p,n',()),()) /\ xg p n' /\ MT jy r t:=by
 unfold aaU
 obtain ⟨v,n1,e1,hv,hp1⟩:=l6 k hp (show (0:Int)<3 by omega)
 rw [e1,Option.bind_some]
 simp only
 cases v==0 with
 | false=>exact ⟨_,_,rfl,hp1,⟨rfl,h1,h2,h3,h4,.inl rfl⟩⟩
 | true =>
  obtain ⟨o,n2,e2,hp2,ho,hol⟩:=afu hk (jy:=0) (by omega) hp1
  rw [cond_true,e2,Option.bind_some]
  exact ⟨_,_,rfl,hp2,⟨rfl,h1,h2,h3,h4,.inr ⟨o,rfl,ho,hol⟩⟩⟩
theorem akj {k:Nat} (hk:1000 <= k) {p:List Int} {n rank jy:Int} (hl:0 <= jy /\ jy <= 4) (hp:xg p n):∃ t n',S53 k p n rank jy=some ((t,()),(p,n',()),()) /\ xg p n' /\ MT jy rank t:=by
 unfold S53
 obtain ⟨t,n1,e1,hp1,ht,htl⟩:=afu hk hl hp
 rw [e1,Option.bind_some]
 simp only
 obtain ⟨v2,n2,e2,hv2,hp2⟩:=l6 k hp1 (show (0:Int)<12 by omega)
 rw [e2,Option.bind_some]
 simp only
 obtain ⟨v3,n3,e3,hv3,hp3⟩:=l6 k hp2 (show (0:Int)<10 by omega)
 rw [e3,Option.bind_some]
 simp only
 obtain ⟨v4,n4,e4,hv4,hp4⟩:=l6 k hp3 (show (0:Int)<3 by omega)
 rw [e4,Option.bind_some]
 simp only
 rw [Uu (n:=10 * v2) (by omega) (by omega),Uu (n:=20+10 * v2) (by omega) (by omega),Uu (n:=20+10 * v2 - v3) (by omega) (by omega)]
 cases v4==0 with
 | false=>exact abh hk 0 0 0 hp4 (by omega) (by omega) ⟨t,rfl,ht,htl⟩ (.inl rfl)
 | true =>
  obtain ⟨v5,n5,e5,hv5,hp5⟩:=l6 k hp4 (show (0:Int)<2 by omega)
  rw [cond_true,e5,Option.bind_some]
  simp only
  rw [Rx (by omega) (by simp only [List.length_cons,List.length_nil];omega) (by omega)]
  have:v5=0 \/ v5=1:=by omega
  refine abh hk 0 0 0 hp5 (by omega) (by omega) ⟨t,rfl,ht,htl⟩ (.inr ?_)
  rcases this with e | e
  ·subst e;exact .inl rfl
  ·subst e;exact .inr rfl
theorem acz (t:iw):(oh t).2.2.length <= 48:=by
 unfold oh
 split
 ·have:=RB t.2.2.2.1
  have:=RB t.2.2.2.2.1
  simp only [List.length_append];omega
 ·simp
theorem b0 {c:Bool} {a b:Int} (h:a≠0):(bif c then a else b)=0↔c=false /\ b=0:=by cases c <;> simp [h]
theorem EF {t:iw}:GJ t=0↔(0 <= t.1 /\ t.1 <= 63) /\ (1 <= t.2.1 /\ t.2.1 <= 16384) /\ (1 <= t.2.2.1 /\ t.2.2.1 <= t.2.1) /\ yw t.2.2.2.1=true /\ (t.2.2.2.2.1=[] \/ yw t.2.2.2.2.1=true) /\ (t.2.2.2.2.2=[] \/ yw t.2.2.2.2.2=true) /\ amH t.2.2.2.2.2=false /\ (cst t.2.2.2.1).1 <= t.2.2.1 /\ (cst t.2.2.2.2.1).1 <= (cst t.2.2.2.1).1:=by
 have e:∀ l:List I4,((l.length:Int)=0 \/ yw l=true)↔(l=[] \/ yw l=true):=fun l=>by
  rw [show ((l.length:Int)=0)↔l=[] by rw [<- List.length_eq_zero_iff];omega]
 unfold GJ
 rw [b0 (by decide),b0 (by decide),b0 (by decide),b0 (by decide),b0 (by decide),b0 (by decide),b0 (by decide),b0 (by decide),b0 (by decide),b0 (by decide),b0 (by decide),b0 (by decide)]
 rw [Bool.not_eq_false',Bool.not_eq_false',Bool.not_eq_false',Bool.or_eq_true,Bool.or_eq_true,beq_iff_eq,beq_iff_eq,e,e,decide_eq_false_iff_not,decide_eq_false_iff_not,decide_eq_false_iff_not,decide_eq_false_iff_not,decide_eq_false_iff_not,decide_eq_false_iff_not,decide_eq_false_iff_not,decide_eq_false_iff_not]
 constructor
 ·rintro ⟨a1,a2,a3,a4,a5,a6,a7,a8,a9,b1,b2,b3,_⟩
  exact ⟨by omega,by omega,by omega,a7,a8,a9,b1,by omega,by omega⟩
 ·rintro ⟨a1,a2,a3,a7,a8,a9,b1,b2,b3⟩
  exact ⟨by omega,by omega,by omega,by omega,by omega,by omega,a7,a8,a9,b1,by omega,by omega,rfl⟩
theorem EG:∀ {t:Tr} {d:Nat} {hs:List Int} {ia:Bool},Ok d hs ia t -> ∀ e∈t.spans,1 <= e.2 /\ e.2 <= t.cost
 | .nil,_,_,_,_,e,h=>by simp [Tr.spans] at h
 | .one x r,_,_,_,⟨_,_,_,h4⟩,e,h=>by have:=EG h4 e h;simp only [Tr.cost];omega
 | .lk a b r,_,_,_,⟨_,_,h3,h4⟩,e,h=>by
  have c1:=kr h3;have c2:=kr h4
  simp only [Tr.spans,List.mem_cons,List.mem_append] at h
  simp only [Tr.cost]
  rcases h with q | q | q
  ·subst q;simp only;omega
  ·have:=EG h3 e q;omega
  ·have:=EG h4 e q;omega
 | .ar x b r,_,_,_,⟨hx,_,h3,h4⟩,e,h=>by
  have c1:=kr h3;have c2:=kr h4
  have hr:=J6 hx.1
  have hm:1 * b.cost <= BA x * b.cost:=Int.mul_le_mul_of_nonneg_right hr.1 c1
  simp only [Tr.spans,List.mem_append] at h
  simp only [Tr.cost]
  rcases h with q | q
  ·have:=EG h3 e q;omega
  ·have:=EG h4 e q;omega
theorem akk {t:Tr} (h:Ok 0 [] false t) (hl:t.len<24):cst t.prog=(t.cost+1,max (t.piece 1 (0,0)).1 ((t.piece 1 (0,0)).2+1),t.spans):=by unfold cst;rw [agT h hl];rfl
abbrev t0:iw:=(0,0,0,[],[],[])
def akl (s:Int) (x:I4):Bool:=bif x.1==9 then x.2.1==s else false
def BN (s:Int) (t:iw):Bool:=(t.2.2.2.1++t.2.2.2.2.1).any (akl s)
def M8 (s:Int):List iw -> Nat -> Int
 | [],_=>8
 | t::r,i=>bif BN s t then (i:Int) else M8 s r (i+1)
def w9 (l:List iw) (s:Int):Int:=M8 s l 0
theorem Wv (s:Int):∀ (l:List iw) (i:Nat),M8 s l i=match l.findIdx? (BN s) with | some n=>((i+n:Nat):Int) | none=>8
 | [],i=>rfl
 | t::r,i=>by
  rw [M8,List.findIdx?_cons]
  cases BN s t with
  | true=>rfl
  | false =>
   rw [cond_false,Wv s r (i+1)]
   simp only [Bool.false_eq_true,if_false]
   cases r.findIdx? (BN s) with
   | none=>rfl
   | some n=>simp only [Option.map_some];congr 1;omega
theorem akm {k:Nat} (hk:1000 <= k) {a b:List I4} (ha:a.length <= 900) (hb:b.length <= 900) (j:Nat):adv k (j+3) [a,b] 0 [a,b] 2 0=some ((a++b,()),()):=by
 have e1:SA k k ([]:List I4) [a,b] 2 0=some ((a++b,()),()):=by
  have:∀ j,SA k (j+3) ([]:List I4) [a,b] 2 0=some ((a++b,()),()):=fun j=>by
   rw [SB,S9,Sc (by omega),Lj (by omega) (by simp),show rd [a,b] 0 []=a from rfl,Rz (by simp only [List.length_nil];omega),Uu (by omega) (by omega),List.nil_append]
   rw [SB,S9,Sc (by omega),Lj (by omega) (by simp),show rd [a,b] (0+1) []=b from rfl,Rz (by omega),Uu (by omega) (by omega)]
   rw [SB,S9,Sd (by omega)]
  have:=this (k - 3)
  rwa [show k - 3+3=k by omega] at this
 rw [Xj,ZO,Sc (by omega),Lj (by omega) (by simp),show rd [a,b] 0 []=a from rfl,Uu (n:=0+(a.length:Int)) (by omega) (by omega),Sd (by omega),Uu (by omega) (by omega)]
 rw [Xj,ZO,Sc (by omega),Lj (by omega) (by simp),show rd [a,b] (0+1) []=b from rfl,Uu (n:=0+(a.length:Int)+(b.length:Int)) (by omega) (by omega),Sd (by omega),Uu (by omega) (by omega)]
 rw [Xj,ZO,Sd (by omega)]
 unfold aoB
 rw [Sd (by omega),Uu (n:=0+(a.length:Int)+(b.length:Int) - 0) (by omega) (by omega)]
 by_cases h0:0+(a.length:Int)+(b.length:Int) - 0>0
 ·rw [Sc h0]
  unfold az
  rw [if_pos (by rw [Bool.and_eq_true];exact ⟨decide_eq_true (by omega),decide_eq_true (by simp only [List.length_nil];omega)⟩)]
  dsimp only
  rw [Rx (by omega) (by omega) (by omega),Option.bind_some]
  exact e1
 ·rw [Sd h0,Option.bind_some];exact e1
theorem akn {k:Nat} (hk:1000 <= k) {a b:List I4} (ha:a.length <= 900) (hb:b.length <= 900):S58 k [a,b]=some ((a++b,()),()):=by
 unfold S58
 have:=akm hk ha hb (k - 3)
 rwa [show k - 3+3=k by omega] at this
def p8 (l:List iw):Prop:=l.length <= 100 /\ ∀ t∈l,zi t /\ (t.2.2.2.1++t.2.2.2.2.1).length <= 900
theorem ako {k:Nat} (hk:1000 <= k) {s:List I4} (h:s.length <= 900) (f:Int):adx k s f=some ((qm (akl f) s,()),()):=by
 unfold adx
 refine sw (fun j i=>II k j s f (s.length:Int) i) s i0 _ (fun j i hi=>?_) (fun j=>?_) k (by omega)
 ·show II k (j+1) s f (s.length:Int) (i:Int)=_
  rw [Vu,QG,Sc (by omega),Qo hi,Mi (by omega),Qp]
  unfold aoC akl
  cases (s.getD i i0).1==9 <;> rfl
 ·show II k (j+1) s f (s.length:Int) (s.length:Int)=_
  rw [Vu,QG,Sd (by omega)]
theorem amL {k:Nat} (hk:1000 <= k) {t:iw} (h:zi t) (h2:(t.2.2.2.1++t.2.2.2.2.1).length <= 900) (s:Int):alf k t s=some ((BN s t,()),()):=by
 unfold alf aoD
 rw [akn hk h.1 h.2.1,Option.bind_some,ako hk h2]
 simp only [Option.bind_some,DR];rfl
theorem akp {k:Nat} (hk:1000 <= k) {l:List iw} (h:p8 l) (s:Int):S60 k l s=some ((w9 l s,()),()):=by
 unfold S60 aic
 have:=sw (fun j i=>ER k j l s (l.length:Int) i) l t0 (BN s) (fun j i hi=>by
  have ht:=h.2 _ (jm (z:=t0) hi)
  have hl:=h.1
  show ER k (j+1) l s (l.length:Int) (i:Int)=_
  rw [Vv,QH,Sc (by omega),Qo hi,Mi (by omega),Qp,amL hk ht.1 ht.2,Option.bind_some]) (fun j=>by
  show ER k (j+1) l s (l.length:Int) (l.length:Int)=_
  rw [Vv,QH,Sd (by omega)]) k (by have:=h.1;omega)
 rw [show ER k k l s (l.length:Int) 0=_ from this,Option.bind_some]
 unfold w9
 rw [Wv]
 unfold qm
 cases l.findIdx? (BN s) with
 | none=>rfl
 | some n=>simp only;rw [Sd (by omega)];congr 3;omega
def spF (l:List iw) (i:Int):Int -> List (Int×Int) -> Int
 | m,[]=>m
 | m,e::r=>spF l i (bif decide (w9 l e.1 <= i) then mx m e.2 else m) r
noncomputable def byG (l:List iw) (i:Int):List iw -> Nat -> Int -> Int
 | [],_,m=>m
 | t::r,n,m=>byG l i r (n+1) (bif (n:Int)==i then m else spF l i m (oh t).2.2)
noncomputable def byT (l:List iw) (i:Int):Int:=byG l i l 0 0
def CI (l:List iw) (c:List (Int×Int)):Prop:=∀ x v,jB (.int .i64) (.int .i64) x c=some v -> v=w9 l x
theorem apn:∀ a b:(Ty.int .i64).D,fC (.int .i64) a b=true↔a=b:=fun a b=>by simp [fC]
theorem apo {l:List iw} {c:List (Int×Int)} (h:CI l c) (x:Int):CI l (vL (.int .i64) (.int .i64) x (w9 l x) c):=fun y v hv=>by
 rw [BZ (hb:=apn)] at hv
 split at hv
 ·rename_i e
  have:y=x:=by simpa [fC] using e
  rw [this];injection hv with hv;exact hv.symm
 ·exact h y v hv
theorem apq {l:List iw} {c:List (Int×Int)} (h:CI l c) {x:Int} (hx:Ut (.int .i64) (.int .i64) x c=true):Us (.int .i64) (.int .i64) x c 0=w9 l x:=by
 unfold Ut at hx;unfold Us
 cases e:jB (.int .i64) (.int .i64) x c with
 | none=>rw [e] at hx;cases hx
 | some v=>exact h x v e
theorem amM {x v:Int} {c:List (Int×Int)}:Ut (.int .i64) (.int .i64) x (vL (.int .i64) (.int .i64) x v c)=true:=by
 unfold Ut;rw [BZ (hb:=apn),if_pos (by simp [fC])];rfl
theorem Ww {k:Nat} (hk:1000 <= k) {g:List iw -> Int -> Int -> List (Int×Int) -> List iw -> Int -> Int -> Option ((Int×Unit)×Unit)} {l:List iw} (h:p8 l) {i:Int} {n:Nat} (hn:n <= 100) {sp:List (Int×Int)} (hs:sp.length <= 900) {tt:List iw} {tn:Int}:∀ (d a j:Nat) (m:Int) (c:List (Int×Int)),a+d=sp.length -> d<j -> CI l c ->
  ∃ c',CI l c' /\ SC k g j l i m c tt tn (n:Int) sp (sp.length:Int) (a:Int)=g l i (spF l i m (sp.drop a)) c' tt tn ((n+1:Nat):Int)
 | 0,a,j,m,c,h1,hj,hc=>by
  obtain ⟨j',rfl⟩:∃ j',j=j'+1:=⟨j - 1,by omega⟩
  refine ⟨c,hc,?_⟩
  rw [ZR,Xk,Sd (by omega),drop_nil (by omega),spF,Mi (by omega)]
 | d+1,a,j,m,c,h1,hj,hc=>by
  obtain ⟨j',rfl⟩:∃ j',j=j'+1:=⟨j - 1,by omega⟩
  have ih:=fun m c=>Ww hk (g:=g) h (i:=i) hn hs (tt:=tt) (tn:=tn) d (a+1) j' m c (by omega) (by omega)
  rw [ZR,Xk,Sc (by omega),Qo (by omega),Qp,drop_cons (0,0) (show a<sp.length by omega),spF]
  have jn:∀ c1,CI l c1 -> Ut (.int .i64) (.int .i64) (sp.getD a (0,0)).1 c1=true -> ∃ c',CI l c' /\ LB k g (SC k g j') l i m c1 (sp.getD a (0,0)).1 (sp.getD a (0,0)).2 tt tn (n:Int) sp (sp.length:Int) (a:Int)=g l i (spF l i (bif decide (w9 l (sp.getD a (0,0)).1 <= i) then mx m (sp.getD a (0,0)).2 else m) (sp.drop (a+1))) c' tt tn ((n+1:Nat):Int):=fun c1 h1 h2=>by
   unfold LB
   rw [apq h1 h2,Mi (by omega)]
   cases decide (w9 l (sp.getD a (0,0)).1 <= i) with
   | true=>exact ih _ _ h1
   | false=>exact ih _ _ h1
  cases hx:Ut (.int .i64) (.int .i64) (sp.getD a (0,0)).1 c with
  | true=>rw [Bool.not_true,cond_false];exact jn c hc hx
  | false =>
   rw [Bool.not_false,cond_true,akp hk h,Option.bind_some]
   exact jn _ (apo hc _) amM
theorem Wx {k:Nat} (hk:1000 <= k) {l:List iw} (h:p8 l) {i:Int}:∀ (d n j:Nat) (m:Int) (c:List (Int×Int)),n+d=l.length -> d<j -> CI l c -> SE k j l i m c l (l.length:Int) (n:Int)=some ((byG l i (l.drop n) n m,()),())
 | 0,n,j,m,c,h1,hj,hc=>by
  obtain ⟨j',rfl⟩:∃ j',j=j'+1:=⟨j - 1,by omega⟩
  rw [ZT,Xl,Sd (by omega),drop_nil (by omega),byG]
 | d+1,n,j,m,c,h1,hj,hc=>by
  obtain ⟨j',rfl⟩:∃ j',j=j'+1:=⟨j - 1,by omega⟩
  have ih:=fun m c=>Wx hk h (i:=i) d (n+1) j' m c (by omega) (by omega)
  have ht:=h.2 _ (jm (z:=t0) (l:=l) (i:=n) (by omega))
  have hl:=h.1
  have hcl:=acz (l.getD n t0)
  rw [ZT,Xl,Sc (by omega),Qo (by omega),Mi (by omega),drop_cons t0 (show n<l.length by omega),byG]
  cases (n:Int)==i with
  | true=>rw [cond_true,cond_true,ih _ _ hc]
  | false =>
   rw [cond_false,cond_false,Qp,show l.getD n (0,0,0,[],[],[])=l.getD n t0 from rfl,M7 hk ht.1,Option.bind_some]
   obtain ⟨c',hc',e⟩:=Ww hk (g:=SE k j') h (i:=i) (n:=n) (by omega) (sp:=(oh (l.getD n t0)).2.2) (by omega) (tt:=l) (tn:=(l.length:Int)) _ 0 k m c (Nat.zero_add _) (by omega) hc
   exact e.trans (ih _ _ hc')
theorem afT {k:Nat} (hk:1000 <= k) {l:List iw} (h:p8 l) (i:Int):alg k l i=some ((byT l i,()),()):=by
 have:=h.1
 exact Wx hk h l.length 0 k 0 [] (by omega) (by omega) (fun x v hv=>by cases hv)
structure afU (jy:Int) (l:List iw):Prop where
 mt:∀ j,j<l.length -> ∃ r,MT jy r (l.getD j t0) /\ 3 * (j:Int) <= r /\ r <= 3 * (j:Int)+2
 may:∀ j,j<l.length -> GJ (l.getD j t0)=0
theorem MT.code {jy rank:Int} {t:iw} (h:MT jy rank t):(t.2.2.2.1++t.2.2.2.2.1).length <= 30:=by
 obtain ⟨m,e,_,hm⟩:=h.main
 rw [List.length_append,e,xw]
 rcases h.way with e | e | e <;> rw [e] <;> simp <;> omega
theorem afU.light {jy:Int} {l:List iw} (h:afU jy l) (hl:l.length <= 100):p8 l:=⟨hl,fun t ht=>by
 obtain ⟨j,hj,e⟩:=List.mem_iff_getElem.1 ht
 obtain ⟨r,hm,_⟩:=h.mt j hj
 have e2:l.getD j t0=t:=by rw [<- e,List.getD_eq_getElem?_getD,List.getElem?_eq_getElem hj];rfl
 rw [e2] at hm
 exact ⟨hm.light,by have:=hm.code;omega⟩⟩
theorem U1 (s:Int):∀ (l:List iw) (i:Nat),M8 s l i=8 /\ (∀ n,n<l.length -> BN s (l.getD n t0)=false) \/ ∃ n,n<l.length /\ M8 s l i=((i+n:Nat):Int) /\ BN s (l.getD n t0)=true
 | [],i=>.inl ⟨rfl,fun n h=>by simp at h⟩
 | t::r,i=>by
  rw [M8]
  cases h:BN s t with
  | true=>exact .inr ⟨0,by simp,rfl,h⟩
  | false =>
   rw [cond_false]
   rcases U1 s r (i+1) with ⟨e,q⟩ | ⟨n,h1,h2,h3⟩
   ·refine .inl ⟨e,fun n hn=>?_⟩
    cases n with
    | zero=>exact h
    | succ n=>exact q n (by simp only [List.length_cons] at hn;omega)
   ·exact .inr ⟨n+1,by simp only [List.length_cons];omega,by rw [h2];congr 1;omega,h3⟩
theorem abj (s:Int):∀ (l:List iw) (i n:Nat),n<l.length -> BN s (l.getD n t0)=true -> M8 s l i <= ((i+n:Nat):Int)
 | [],i,n,h,_=>by simp at h
 | t::r,i,n,h,hl=>by
  rw [M8]
  cases ht:BN s t with
  | true=>rw [cond_true];omega
  | false =>
   rw [cond_false]
   cases n with
   | zero=>rw [show (t::r).getD 0 t0=t from rfl,ht] at hl;cases hl
   | succ n =>
    have:=abj s r (i+1) n (by simp only [List.length_cons] at h;omega) hl
    omega
theorem aof (a b:Int):a <= mx a b:=by unfold mx;split <;> omega
theorem acA {l:List iw} {i:Int}:∀ (sp:List (Int×Int)) (m:Int),m <= spF l i m sp
 | [],m=>Int.le_refl _
 | e::r,m=>by
  rw [spF]
  cases decide (w9 l e.1 <= i) with
  | true=>exact Int.le_trans (aof m e.2) (acA r _)
  | false=>exact acA r m
theorem acB {l:List iw} {i:Int}:∀ (r:List iw) (n:Nat) (m:Int),m <= byG l i r n m
 | [],n,m=>Int.le_refl _
 | t::r,n,m=>by
  rw [byG]
  cases (n:Int)==i with
  | true=>exact acB r _ m
  | false=>exact Int.le_trans (acA _ m) (acB r _ _)
def up (r v:Int):Int:=(r+v - 1) / v
theorem up_tdiv {r v:Int} (hr:0 <= r) (hv:1 <= v):(if Int.tmod r v>0 then Int.tdiv r v+1 else Int.tdiv r v)=up r v:=by
 rw [Int.tdiv_eq_ediv_of_nonneg hr,Int.tmod_eq_emod_of_nonneg hr]
 unfold up
 have h1:=Int.emod_nonneg r (show v≠0 by omega)
 have h2:=Int.emod_lt_of_pos r (show 0<v by omega)
 have h3:=Int.mul_ediv_add_emod r v
 split
 ·rename_i h
  have:r+v - 1=(r % v - 1)+v * (r / v+1):=by rw [Int.mul_add,Int.mul_one];omega
  rw [this,Int.add_mul_ediv_left _ _ (by omega),Int.ediv_eq_zero_of_lt (a:=r % v - 1) (b:=v) (by omega) (by omega)];omega
 ·have:r+v - 1=(v - 1)+v * (r / v):=by omega
  rw [this,Int.add_mul_ediv_left _ _ (by omega),Int.ediv_eq_zero_of_lt (a:=v - 1) (b:=v) (by omega) (by omega)];omega
theorem Wy {r v:Int} (hr:0 <= r) (hv:1 <= v):0 <= up r v /\ up r v <= r:=by
 unfold up
 refine ⟨Int.ediv_nonneg (by omega) (by omega),?_⟩
 rw [<- Int.lt_add_one_iff]
 refine Int.ediv_lt_of_lt_mul (by omega) ?_
 have:(r+1) * 1 <= (r+1) * v:=Int.mul_le_mul_of_nonneg_left hv (by omega)
 have:r * 1 <= r * v:=Int.mul_le_mul_of_nonneg_left hv hr
 rw [Int.add_mul];omega
theorem afV {r s v:Int} (h:r <= s) (hv:1 <= v):up r v <= up s v:=Int.ediv_le_ediv (by omega) (by omega)
theorem amN {r v:Int} (hr:0 <= r) (hv:1 <= v):0 <= Int.tdiv r v /\ Int.tdiv r v <= r:=by
 rw [Int.tdiv_eq_ediv_of_nonneg hr]
 exact ⟨Int.ediv_nonneg hr (by omega),Int.ediv_le_self _ hr⟩
theorem amO (k:Nat) {a b:Int} (ha:0 <= a /\ a <= 4611686018427387904) (hb:1 <= b):alh k a b=some ((up a b,true,()),()):=by
 have h:=amN ha.1 hb
 have e:=up_tdiv ha.1 hb
 unfold alh
 rw [Sd (by omega),Sd (by omega),Sb (by omega),Sb (by omega),Uu (n:=Int.tdiv a b) (by omega) (by omega),Uu (n:=Int.tdiv a b+1) (by omega) (by omega),<- e]
 split
 ·rename_i h1;rw [Sc h1]
 ·rename_i h1;rw [Sd h1]
theorem afW (k:Nat) {a b:Int} (ha:0 <= a /\ a <= 4611686018427387904) (hb:1 <= b):aij k a b=some ((up a b,()),()):=by
 unfold aij;rw [amO k ha hb,Option.bind_some]
theorem YA (k:Nat) {s t v:Int} (hs:0 <= s) (ht:0 <= t /\ t <= 4611686018427387904) (hv:0 <= v /\ v <= 4611686018427387904) (h:s+t * v <= 4611686018427387904):agA k s false t v=some ((),(s+t * v,false,()),()):=by
 have h0:=Int.mul_nonneg ht.1 hv.1
 unfold agA
 rw [afy k (by omega) (by omega) (by omega),Option.bind_some]
 simp only
 rw [afw k hs h0 (by omega),Option.bind_some]
 rfl
noncomputable def abk (l:List iw) (i:Nat):Bool:=(GJ (l.getD i t0) != 0)||(decide ((i:Int)>0)&&decide ((l.getD (i - 1) t0).1≥(l.getD i t0).1))
noncomputable def FJ (l:List iw):Bool:=!LW (abk l) l.length 0
theorem amP {k:Nat} (hk:1000 <= k) {l:List iw} (h:p8 l):ale k l=some ((FJ l,()),()):=by
 have hl:=h.1
 unfold ale
 have:=apb (L:=fun j i=>N8 k j l l (l.length:Int) i) (n:=l.length) (abk l) (some ((false,()),())) (some ((true,()),())) (fun j i hi=>by
  have ht:=h.2 _ (jm (z:=t0) hi)
  show N8 k (j+1) l l (l.length:Int) (i:Int)=_
  rw [ZL,Xh,Sc (by omega),Qo hi,Qp,show l.getD i (0,0,0,[],[],[])=l.getD i t0 from rfl,Yz hk ht.1,Option.bind_some,Mi (by omega)]
  unfold abk
  simp only
  cases GJ (l.getD i t0) != 0 with
  | true=>rfl
  | false =>
   rw [cond_false,Bool.false_or]
   by_cases h0:(i:Int)>0
   ·rw [Sc h0,Uu (n:=(i:Int) - 1) (by omega) (by omega),show (i:Int) - 1=((i - 1:Nat):Int) by omega,Qo (by omega),Qp,decide_eq_true h0,Bool.true_and]
   ·rw [Sd h0,decide_eq_false h0,Bool.false_and,cond_false]) (fun j=>by
  show N8 k (j+1) l l (l.length:Int) (l.length:Int)=_
  rw [ZL,Xh,Sd (by omega)]) l.length 0 k (by omega) (by omega)
 refine Eq.trans this ?_
 unfold FJ
 cases LW (abk l) l.length 0 <;> rfl
theorem OE {l:List I4} (h:yw l=true):(1 <= (cst l).1 /\ (cst l).1 <= 9600) /\ (1 <= (cst l).2.1 /\ (cst l).2.1 <= (cst l).1) /\ ∀ e∈(cst l).2.2,1 <= e.2 /\ e.2<(cst l).1:=by
 obtain ⟨t,ht,rfl,hl⟩:=M5 h
 have hc:=acu ht hl
 obtain ⟨b1,b2,b3,b4⟩:=vg 1 (0,0) ht (by omega) (by simp) (by simp)
 simp only [Int.one_mul,Int.zero_add] at b3 b4
 rw [akk ht hl]
 refine ⟨by simp only;omega,by simp only;omega,fun e he=>?_⟩
 have:=EG ht e he
 simp only;omega
structure CoS (t:iw):Prop where
 per:1 <= t.2.1 /\ t.2.1 <= 16384
 en:1 <= t.2.2.1 /\ t.2.2.1 <= t.2.1
 cost:1 <= (oh t).1 /\ (oh t).1 <= t.2.2.1
 lost:1 <= (oh t).2.1 /\ (oh t).2.1 <= (oh t).1
 spans:∀ e∈(oh t).2.2,1 <= e.2 /\ e.2<(oh t).1
theorem abl {t:iw} (hz:GJ t=0):CoS t:=by
 obtain ⟨_,z2,z3,z4,z5,z6,z7,z8,z9⟩:=EF.1 hz
 obtain ⟨m1,m2,m3⟩:=OE z4
 have acC:oh t=((cst t.2.2.2.1).1,bif yw t.2.2.2.2.1 then (cst t.2.2.2.2.1).1 else (cst t.2.2.2.1).2.1,(cst t.2.2.2.1).2.2++(cst t.2.2.2.2.1).2.2):=by unfold oh;rw [if_pos hz]
 refine ⟨z2,z3,by rw [acC];simp only;omega,?_,fun e he=>?_⟩
 ·rw [acC]
  simp only
  cases h:yw t.2.2.2.2.1 with
  | false=>rw [cond_false];omega
  | true=>have:=OE h;rw [cond_true];omega
 ·rw [acC] at he ⊢
  simp only [List.mem_append] at he ⊢
  rcases he with q | q
  ·exact m3 e q
  ·cases h:yw t.2.2.2.2.1 with
   | false=>rw [amI h] at q;cases q
   | true=>have:=(OE h).2.2 e q;omega
theorem aog {a b c:Int} (h1:a <= c) (h2:b <= c):mx a b <= c:=by unfold mx;split <;> omega
theorem akq {l:List iw} {i b:Int}:∀ (sp:List (Int×Int)) (m:Int),m <= b -> (∀ e∈sp,e.2 <= b) -> spF l i m sp <= b
 | [],m,h,_=>h
 | e::r,m,h,hs=>by
  rw [spF]
  refine akq r _ ?_ (fun x hx=>hs x (by simp [hx]))
  cases decide (w9 l e.1 <= i) with
  | true=>exact aog h (hs e (by simp))
  | false=>exact h
theorem akr {l:List iw} {i b:Int}:∀ (r:List iw) (n:Nat) (m:Int),m <= b -> (∀ t∈r,∀ e∈(oh t).2.2,e.2 <= b) -> byG l i r n m <= b
 | [],n,m,h,_=>h
 | t::r,n,m,h,hs=>by
  rw [byG]
  refine akr r _ _ ?_ (fun x hx=>hs x (by simp [hx]))
  cases (n:Int)==i with
  | true=>exact h
  | false=>exact akq _ m h (hs t (by simp))
theorem aks {l:List iw} (h:∀ t∈l,CoS t) (i:Int):0 <= byT l i /\ byT l i <= 16384 :=
 ⟨acB l 0 0,akr l 0 0 (by omega) (fun t ht e he=>by have q:=h t ht;have:=q.spans e he;have:=q.cost;have:=q.en;have:=q.per;omega)⟩
def yx (r:Int):List (Int×Int) -> Int
 | []=>0
 | x::l=>up r x.1 * x.2+yx r l
noncomputable def pc1 (t:iw):Int×Int:=(t.2.1,(oh t).1)
noncomputable def vk:Int -> List iw -> Int
 | m,[]=>m
 | m,t::r=>vk (mx m (oh t).2.1) r
noncomputable def firstT (l:List iw) (i:Nat):Int:=(oh (l.getD i t0)).1+byT l (i:Int)
noncomputable def vo (l:List iw) (i:Nat) (apart r:Int):Int:=firstT l i+up r apart * vk 0 (l.take (i+1))+yx r ((l.take i).map pc1)
def G9 (en:Int) (right:Int -> Int):Nat -> Int -> Int -> Option (Int×Int×Int)
 | 0,_,_=>none
 | f+1,r,n=>if right r>en then some (0,0,14) else if right r=r then some (r,n,0) else G9 en right f (right r) (n+1)
theorem BF {r:Int} (hr:0 <= r):∀ {l:List (Int×Int)},(∀ x∈l,1 <= x.1 /\ 0 <= x.2) -> 0 <= yx r l
 | [],_=>Int.le_refl _
 | x::l,h=>by
  have hx:=h x (by simp)
  have:=BF hr (l:=l) (fun y hy=>h y (by simp [hy]))
  have:=Int.mul_nonneg (Wy hr hx.1).1 hx.2
  rw [yx];omega
theorem Wz {r s:Int} (h:r <= s):∀ {l:List (Int×Int)},(∀ x∈l,1 <= x.1 /\ 0 <= x.2) -> yx r l <= yx s l
 | [],_=>Int.le_refl _
 | x::l,hl=>by
  have hx:=hl x (by simp)
  have:=Wz h (l:=l) (fun y hy=>hl y (by simp [hy]))
  have:=Int.mul_le_mul_of_nonneg_right (afV h hx.1) hx.2
  rw [yx,yx];omega
theorem afX {r b:Int} (hr:0 <= r) (hb:0 <= b):∀ {l:List (Int×Int)},(∀ x∈l,1 <= x.1 /\ 0 <= x.2 /\ x.2 <= b) -> yx r l <= (l.length:Int) * (r * b)
 | [],_=>by simp [yx]
 | x::l,h=>by
  have hx:=h x (by simp)
  have h1:=afX hr hb (l:=l) (fun y hy=>h y (by simp [hy]))
  have hu:=Wy hr hx.1
  have h2:up r x.1 * x.2 <= r * b:=Int.mul_le_mul hu.2 hx.2.2 hx.2.1 hr
  rw [yx,List.length_cons,show ((l.length+1:Nat):Int)=(l.length:Int)+1 by omega,Int.add_mul,Int.one_mul];omega
theorem U2 {en:Int} {right:Int -> Int} (hm:∀ a b,0 <= a -> a <= b -> right a <= right b):∀ (f:Nat) (r n:Int),0 <= r -> r <= right r -> en - r<(f:Int) -> 0<f -> ∃ x,G9 en right f r n=some x
 | 0,r,n,_,_,_,h=>absurd h (by omega)
 | f+1,r,n,h0,h1,h2,_=>by
  rw [G9]
  split
  ·exact ⟨_,rfl⟩
  ·split
   ·exact ⟨_,rfl⟩
   ·rename_i h3 h4
    exact U2 hm f (right r) (n+1) (by omega) (hm r (right r) h0 h1) (by omega) (by omega)
structure RS (l:List iw):Prop where
 light:p8 l
 len:l.length <= 10
 co:∀ t∈l,CoS t
theorem abm {b:Int}:∀ (r:List iw) (m:Int),0 <= m -> m <= b -> (∀ t∈r,(oh t).2.1 <= b) -> 0 <= vk m r /\ vk m r <= b
 | [],m,h0,h,_=>⟨h0,h⟩
 | t::r,m,h0,h,hs=>by
  rw [vk]
  exact abm r _ (Int.le_trans h0 (aof _ _)) (aog h (hs t (by simp))) (fun x hx=>hs x (by simp [hx]))
theorem RS.first {l:List iw} (h:RS l) {i:Nat} (hi:i<l.length):1 <= firstT l i /\ firstT l i <= 32768:=by
 have hc:=h.co _ (jm (z:=t0) hi)
 have hb:=aks h.co (i:Int)
 have:=hc.cost;have:=hc.en;have:=hc.per
 unfold firstT;omega
theorem RS.lost {l:List iw} (h:RS l) (i:Nat):0 <= vk 0 (l.take i) /\ vk 0 (l.take i) <= 16384 :=
 abm _ 0 (by omega) (by omega) (fun t ht=>by have q:=h.co t (List.mem_of_mem_take ht);have:=q.lost;have:=q.cost;have:=q.en;have:=q.per;omega)
theorem RS.ny {l:List iw} (h:RS l) (i:Nat):∀ x∈(l.take i).map pc1,1 <= x.1 /\ 0 <= x.2 /\ x.2 <= 16384:=fun x hx=>by
 obtain ⟨t,ht,rfl⟩:=List.mem_map.1 hx
 have q:=h.co t (List.mem_of_mem_take ht)
 have:=q.cost;have:=q.en;have:=q.per
 unfold pc1;simp only;omega
theorem RS.loss {l:List iw} (h:RS l) {i:Nat} {apart r:Int} (ha:1 <= apart) (hr:0 <= r /\ r <= 50000):0 <= up r apart * vk 0 (l.take (i+1)) /\ up r apart * vk 0 (l.take (i+1)) <= 819200000:=by
 have hl:=h.lost (i+1)
 have hu:=Wy hr.1 ha
 have:=Int.mul_nonneg hu.1 hl.1
 have:up r apart * vk 0 (l.take (i+1)) <= 50000 * 16384:=Int.mul_le_mul (by omega) hl.2 hl.1 (by omega)
 omega
theorem RS.sum {l:List iw} (h:RS l) {i:Nat} {r:Int} (hr:0 <= r /\ r <= 50000):0 <= yx r ((l.take i).map pc1) /\ yx r ((l.take i).map pc1) <= 8192000000:=by
 have h0:=BF hr.1 (l:=(l.take i).map pc1) (fun x hx=>⟨(h.ny i x hx).1,(h.ny i x hx).2.1⟩)
 have h1:=afX hr.1 (show (0:Int) <= 16384 by omega) (h.ny i)
 have hl:((l.take i).map pc1).length <= 10:=by rw [List.length_map,List.length_take];have:=h.len;omega
 have h2:(((l.take i).map pc1).length:Int) * (r * 16384) <= 10 * (r * 16384):=Int.mul_le_mul_of_nonneg_right (by omega) (by omega)
 omega
theorem RS.right {l:List iw} (h:RS l) {i:Nat} (hi:i<l.length) {apart r:Int} (ha:1 <= apart) (hr:0 <= r /\ r <= 50000):firstT l i <= vo l i apart r /\ vo l i apart r <= 100000000000:=by
 have h1:=h.first hi;have h2:=h.loss (i:=i) ha hr;have h3:=h.sum (i:=i) hr
 unfold vo;omega
theorem U3 {k:Nat} (hk:1000 <= k) {g:List iw -> Int -> Int -> Int -> Int -> Int -> Int -> Bool -> Option ((Int×Int×Int×Unit)×Unit)} {l tk:List iw} {i:Nat} (hi:i<l.length) {apart r rounds lost first:Int} (hr:0 <= r /\ r <= 50000) (htk:tk.length <= 100) (hs:∀ t∈tk,zi t /\ CoS t) :
  ∀ (d n j:Nat) (x:Int),n+d=tk.length -> d<j -> 0 <= x -> x+yx r ((tk.drop n).map pc1) <= 100000000000 ->
  QJ k g j l (i:Int) apart r rounds lost first false x false tk (tk.length:Int) (n:Int)=if x+yx r ((tk.drop n).map pc1)>(l.getD i t0).2.2.1 then some ((0,0,14,()),()) else if x+yx r ((tk.drop n).map pc1)=r then some ((r,rounds,0,()),()) else g l (i:Int) apart (x+yx r ((tk.drop n).map pc1)) rounds lost first false
 | 0,n,j,x,h,hj,hx,hb=>by
  obtain ⟨j',rfl⟩:∃ j',j=j'+1:=⟨j - 1,by omega⟩
  rw [Vw,QI,Sd (by omega),drop_nil (by omega),cond_false,Qo hi,Qp,show l.getD i (0,0,0,[],[],[])=l.getD i t0 from rfl]
  simp only [List.map_nil,yx,Int.add_zero]
  by_cases h1:x>(l.getD i t0).2.2.1
  ·rw [Sc h1,if_pos h1]
  ·rw [Sd h1,if_neg h1]
   by_cases h2:x=r
   ·rw [if_pos h2,show (x==r)=true by rw [h2];exact beq_self_eq_true r,cond_true]
   ·rw [if_neg h2,show (x==r)=false by rw [beq_eq_false_iff_ne];exact h2,cond_false]
 | d+1,n,j,x,h,hj,hx,hb=>by
  obtain ⟨j',rfl⟩:∃ j',j=j'+1:=⟨j - 1,by omega⟩
  have hn:n<tk.length:=by omega
  obtain ⟨ht,hc⟩:=hs _ (jm (z:=t0) hn)
  have amQ:=hc.per
  have hu:=Wy hr.1 amQ.1
  have hco:=hc.cost;have hen:=hc.en
  have hmul:=Int.mul_nonneg hu.1 (show 0 <= (oh (tk.getD n t0)).1 by omega)
  have hrest:0 <= yx r ((tk.drop (n+1)).map pc1):=BF hr.1 (fun y hy=>by
   obtain ⟨t,ht,rfl⟩:=List.mem_map.1 hy
   have q:=(hs t (List.mem_of_mem_drop ht)).2
   have:=q.cost;have:=q.per
   unfold pc1;simp only;omega)
  rw [drop_cons t0 hn,List.map_cons,yx] at hb ⊢
  unfold pc1 at hb ⊢
  simp only at hb ⊢
  have ih:=U3 hk (g:=g) hi (apart:=apart) (rounds:=rounds) (lost:=lost) (first:=first) hr htk hs d (n+1) j' (x+up r (tk.getD n t0).2.1 * (oh (tk.getD n t0)).1) (by omega) (by omega) (by omega) (by unfold pc1;omega)
  unfold pc1 at ih
  rw [Vw,QI,Sc (by omega),Qo hn,Qp,show tk.getD n (0,0,0,[],[],[])=tk.getD n t0 from rfl,M7 hk ht,Option.bind_some,afW k (by omega) amQ.1,Option.bind_some]
  simp only
  rw [YA k hx (by omega) (by omega) (by unfold pc1 at hrest;omega),Option.bind_some,Mi (by omega),<- Int.add_assoc]
  exact ih
theorem abn {α:Type} {l:List α} {i:Nat}:sub l 0 (i:Int)=l.take i:=by simp [sub]
theorem KL {l:List iw} (h:RS l) {i:Nat} {apart:Int} (ha:1 <= apart):∀ a b,0 <= a -> a <= b -> vo l i apart a <= vo l i apart b:=fun a b h0 hab=>by
 have h1:=Int.mul_le_mul_of_nonneg_right (afV hab ha) (h.lost (i+1)).1
 have h2:=Wz hab (l:=(l.take i).map pc1) (fun x hx=>⟨(h.ny i x hx).1,(h.ny i x hx).2.1⟩)
 unfold vo;omega
theorem amR {l:List iw} (h:FJ l=true):∀ t∈l,GJ t=0:=fun t ht=>by
 obtain ⟨j,hj,e⟩:=List.mem_iff_getElem.1 ht
 have e2:l.getD j t0=t:=by rw [<- e,List.getD_eq_getElem?_getD,List.getElem?_eq_getElem hj];rfl
 unfold FJ at h
 rw [Bool.not_eq_true',IQ] at h
 have:=h j (by omega) (by omega)
 unfold abk at this
 rw [Bool.or_eq_false_iff,e2] at this
 simpa using this.1
theorem U4 {l:List iw} (h:FJ l=true) (hL:p8 l) (hl:l.length <= 10):RS l:=⟨hL,hl,fun t ht=>abl (amR h t ht)⟩
theorem U5 {k:Nat} (hk:1000 <= k) {l:List iw} (h:RS l) {i:Nat} (hi:i<l.length) {apart:Int} (ha:1 <= apart):∀ (f j:Nat) (r n:Int) (y:Int×Int×Int),f <= j -> 0 <= r -> r <= 50000 -> 1 <= n -> n+f <= 1000000 -> G9 (l.getD i t0).2.2.1 (vo l i apart) f r n=some y ->
  LC k j l (i:Int) apart r (n - 1) (vk 0 (l.take (i+1))) (firstT l i) false=some ((y.1,y.2.1,y.2.2,()),())
 | 0,j,r,n,y,_,_,_,_,_,e=>by cases e
 | f+1,j,r,n,y,hj,h0,h1,hn,hf,e=>by
  obtain ⟨j',rfl⟩:∃ j',j=j'+1:=⟨j - 1,by omega⟩
  have hfi:=h.first hi
  have hls:=h.lost (i+1)
  have hlo:=h.loss (i:=i) ha ⟨h0,h1⟩
  have hsu:=h.sum (i:=i) ⟨h0,h1⟩
  have hu:=Wy h0 ha
  have hen:=(h.co _ (jm (z:=t0) hi)).en
  have amQ:=(h.co _ (jm (z:=t0) hi)).per
  have hlen:=h.len
  rw [agB,Xm,afW k (by omega) ha,Option.bind_some]
  simp only
  rw [YA k (by omega) (by omega) (by omega) (by omega),Option.bind_some,Rx (by omega) (by omega) (by omega),Uu (n:=n - 1+1) (by omega) (by omega),show n - 1+1=n by omega,abn]
  have htl:(l.take i).length <= 100:=by rw [List.length_take];omega
  have:=U3 hk (g:=LC k j') hi (tk:=l.take i) (apart:=apart) (rounds:=n) (lost:=vk 0 (l.take (i+1))) (first:=firstT l i) (r:=r) ⟨h0,h1⟩ htl (fun t ht=>⟨(h.light.2 t (List.mem_of_mem_take ht)).1,h.co t (List.mem_of_mem_take ht)⟩) (l.take i).length 0 k (firstT l i+up r apart * vk 0 (l.take (i+1))) (by omega) (by omega) (by omega) (by rw [List.drop_zero];omega)
  refine Eq.trans this ?_
  rw [List.drop_zero,show firstT l i+up r apart * vk 0 (l.take (i+1))+yx r ((l.take i).map pc1)=vo l i apart r from rfl]
  rw [G9] at e
  split at e
  ·rename_i q
   injection e with e;subst e
   rw [if_pos q]
  ·rename_i q
   rw [if_neg q]
   split at e
   ·rename_i q2
    injection e with e;subst e
    rw [if_pos q2]
   ·rename_i q2
    rw [if_neg q2]
    have hr:=h.right hi ha ⟨h0,h1⟩
    have:=U5 hk h hi ha f j' (vo l i apart r) (n+1) y (by omega) (by omega) (by omega) (by omega) (by omega) e
    rw [show n+1 - 1=n by omega] at this
    exact this
noncomputable def l9 (l:List iw) (i apart:Int):Int×Int×Int :=
 if FJ l=true /\ 0 <= i /\ i<(l.length:Int) /\ 1 <= apart then (G9 (l.getD i.toNat t0).2.2.1 (vo l i.toNat apart) 20000 (firstT l i.toNat) 1).getD (0,0,0) else (0,0,1)
theorem OG {l:List iw} (h:RS l) {i:Nat} (hi:i<l.length) {apart:Int} (ha:1 <= apart):∃ y,G9 (l.getD i t0).2.2.1 (vo l i apart) 20000 (firstT l i) 1=some y:=by
 have hf:=h.first hi
 have hen:=(h.co _ (jm (z:=t0) hi)).en
 have amQ:=(h.co _ (jm (z:=t0) hi)).per
 exact U2 (KL h ha) 20000 _ 1 (by omega) (h.right hi ha (by omega)).1 (by omega) (by omega)
theorem U6 {l:List iw} (hr:FJ l=true) {i:Nat} (hi:i<l.length) {apart:Int} (ha:1 <= apart) {y:Int×Int×Int} (hy:G9 (l.getD i t0).2.2.1 (vo l i apart) 20000 (firstT l i) 1=some y):l9 l (i:Int) apart=y:=by
 unfold l9
 rw [if_pos ⟨hr,by omega,by omega,ha⟩,Int.toNat_natCast,hy];rfl
theorem WA {k:Nat} (hk:20000 <= k) {l:List iw} (hrow:FJ l=true) (h:RS l) {i:Nat} (hi:i<l.length) {apart:Int} (ha:1 <= apart):∀ (d n j:Nat) (m:Int),n+d=(l.take (i+1)).length -> d<j -> vk m ((l.take (i+1)).drop n)=vk 0 (l.take (i+1)) ->
  Xo k j l (i:Int) apart 0 (oh (l.getD i t0)).1 m (l.take (i+1)) ((l.take (i+1)).length:Int) (n:Int)=some (((l9 l i apart).1,(l9 l i apart).2.1,(l9 l i apart).2.2,()),())
 | 0,n,j,m,h1,hj,hm=>by
  obtain ⟨j',rfl⟩:∃ j',j=j'+1:=⟨j - 1,by omega⟩
  have hb:=aks h.co (i:Int)
  have hc:=h.co _ (jm (z:=t0) hi)
  have:=hc.cost;have:=hc.en;have:=hc.per
  have hfi:=h.first hi
  rw [drop_nil (by omega),vk] at hm
  obtain ⟨y,hy⟩:=OG h hi ha
  rw [ZW,Xn,Sd (by omega),afT (by omega) h.light,Option.bind_some]
  simp only
  rw [YA k (by omega) (by omega) (by omega) (by omega),Option.bind_some,hm,Int.one_mul]
  have:=U5 (k:=k) (by omega) h hi ha 20000 k (firstT l i) 1 y (by omega) (by omega) (by omega) (by omega) (by omega) hy
  refine Eq.trans this ?_
  rw [U6 hrow hi ha hy]
 | d+1,n,j,m,h1,hj,hm=>by
  obtain ⟨j',rfl⟩:∃ j',j=j'+1:=⟨j - 1,by omega⟩
  have hn:n<(l.take (i+1)).length:=by omega
  have hmem:=jm (z:=t0) hn
  have ht:=(h.light.2 _ (List.mem_of_mem_take hmem)).1
  have hll:(l.take (i+1)).length <= 10:=by rw [List.length_take];have:=h.len;omega
  rw [drop_cons t0 hn,vk] at hm
  rw [ZW,Xn,Sc (by omega),Qo hn,Qp,show (l.take (i+1)).getD n (0,0,0,[],[],[])=(l.take (i+1)).getD n t0 from rfl,M7 (by omega) ht,Option.bind_some,Mi (by omega)]
  exact WA hk hrow h hi ha d (n+1) j' _ (by omega) (by omega) hm
theorem amS {k:Nat} (hk:20000 <= k) {l:List iw} (hL:p8 l) (hl:l.length <= 10) (i apart:Int):ali k l i apart=some (((l9 l i apart).1,(l9 l i apart).2.1,(l9 l i apart).2.2,()),()):=by
 unfold ali
 rw [amP (by omega) hL,Option.bind_some]
 simp only
 cases hr:FJ l with
 | false =>
  have:l9 l i apart=(0,0,1):=by unfold l9;rw [if_neg (fun q=>by rw [hr] at q;cases q.1)]
  rw [this];rfl
 | true =>
  rw [Bool.not_true,cond_false]
  by_cases h1:i<0
  ·have:l9 l i apart=(0,0,1):=by unfold l9;rw [if_neg (fun q=>by omega)]
   rw [Sc h1,this]
  ·rw [Sd h1]
   by_cases h2:i≥(l.length:Int)
   ·have:l9 l i apart=(0,0,1):=by unfold l9;rw [if_neg (fun q=>by omega)]
    rw [Sc h2,this]
   ·rw [Sd h2]
    by_cases h3:apart<1
    ·have:l9 l i apart=(0,0,1):=by unfold l9;rw [if_neg (fun q=>by omega)]
     rw [Sc h3,this]
    ·rw [Sd h3]
     obtain ⟨n,rfl⟩:∃ n:Nat,i=(n:Int):=⟨i.toNat,by omega⟩
     have hn:n<l.length:=by omega
     have hRS:=U4 hr hL hl
     have ht:=(hL.2 _ (jm (z:=t0) hn)).1
     rw [Qo hn,Qp,show l.getD n (0,0,0,[],[],[])=l.getD n t0 from rfl,M7 (by omega) ht,Option.bind_some,Mi (by omega),Rx (by omega) (by omega) (by omega),abn]
     have hll:(l.take (n+1)).length <= 10:=by rw [List.length_take];omega
     exact WA hk hr hRS hn (by omega) (l.take (n+1)).length 0 k 0 (by omega) (by omega) (by rw [List.drop_zero])
theorem U7 {en:Int} {right:Int -> Int} (hm:∀ a b,0 <= a -> a <= b -> right a <= right b):∀ (f:Nat) (r n:Int) (y:Int×Int×Int),0 <= r -> r <= right r -> r <= en \/ right r>en -> G9 en right f r n=some y ->
  (y=(0,0,14) /\ ∀ x,r <= x -> x <= en -> right x≠x) \/ (y.2.2=0 /\ right y.1=y.1 /\ r <= y.1 /\ y.1 <= en /\ n <= y.2.1 /\ y.2.1 - n <= y.1 - r /\ (right r≠r -> n+1 <= y.2.1) /\ ∀ x,r <= x -> right x=x -> y.1 <= x)
 | 0,r,n,y,_,_,_,e=>by cases e
 | f+1,r,n,y,h0,h1,h2,e=>by
  rw [G9] at e
  split at e
  ·rename_i q
   injection e with e;subst e
   refine .inl ⟨rfl,fun x hx hxe hf=>?_⟩
   have:=hm r x h0 hx
   omega
  ·rename_i q
   split at e
   ·rename_i q2
    injection e with e;subst e
    refine .inr ⟨rfl,q2,Int.le_refl _,by omega,Int.le_refl _,by simp only;omega,fun h=>absurd q2 h,fun x hx _=>hx⟩
   ·rename_i q2
    have hr:=hm r (right r) h0 h1
    rcases U7 hm f (right r) (n+1) y (by omega) hr (.inl (by omega)) e with ⟨a,b⟩ | ⟨a1,a2,a3,a4,a5,a6,a7,a8⟩
    ·refine .inl ⟨a,fun x hx hxe hf=>?_⟩
     have:=hm r x h0 hx
     exact b x (by omega) hxe hf
    ·refine .inr ⟨a1,a2,by omega,a4,by omega,by omega,fun _=>by omega,fun x hx hf=>?_⟩
     have:=hm r x h0 hx
     exact a8 x (by omega) hf
theorem afU.row {jy:Int} {l:List iw} (h:afU jy l):FJ l=true:=by
 unfold FJ
 rw [Bool.not_eq_true',IQ]
 intro n _ hn
 unfold abk
 rw [h.may n (by omega),bne_self_eq_false,Bool.false_or,Bool.and_eq_false_iff]
 by_cases h0:(n:Int)>0
 ·right
  obtain ⟨r,m1,m2,m3⟩:=h.mt n (by omega)
  obtain ⟨r2,p1,p2,p3⟩:=h.mt (n - 1) (by omega)
  have e1:=m1.rank
  have e2:=p1.rank
  exact decide_eq_false (by rw [e1,e2];omega)
 ·left;exact decide_eq_false h0
theorem JB {l:List iw} {i:Nat} (hi:i<l.length):l.take (i+1)=l.take i++[l.getD i t0]:=by
 rw [List.take_add_one,List.getElem?_eq_getElem hi,List.getD_eq_getElem?_getD,List.getElem?_eq_getElem hi];rfl
theorem PZ {en z:Int} {right:Int -> Int} (hm:∀ a b,0 <= a -> a <= b -> right a <= right b) (h2:right z <= z) (h3:z <= en):∀ (f:Nat) (r n:Int) (y:Int×Int×Int),0 <= r -> r <= z -> r <= right r -> G9 en right f r n=some y -> y.2.2=0 /\ y.1 <= z
 | 0,r,n,y,_,_,_,e=>by cases e
 | f+1,r,n,y,h0,h1,hr,e=>by
  have:=hm r z h0 h1
  rw [G9,if_neg (by omega)] at e
  split at e
  ·injection e with e;subst e;exact ⟨rfl,h1⟩
  ·exact PZ hm h2 h3 f (right r) (n+1) y (by omega) (by omega) (hm r _ h0 hr) e
theorem abo {l:List iw} (hr:FJ l=true) (h:RS l) {i:Nat} (hi:i<l.length) {apart z:Int} (ha:1 <= apart) (h1:firstT l i <= z) (h2:vo l i apart z <= z) (h3:z <= (l.getD i t0).2.2.1):(l9 l (i:Int) apart).2.2=0 /\ (l9 l (i:Int) apart).1 <= z:=by
 obtain ⟨y,hy⟩:=OG h hi ha
 have hf:=h.first hi
 rw [U6 hr hi ha hy]
 exact PZ (KL h ha) h2 h3 _ _ _ _ (by omega) h1 (h.right hi ha (by omega)).1 hy
theorem row_iff {l:List iw}:FJ l=true↔∀ n,n<l.length -> GJ (l.getD n t0)=0 /\ (0<n -> (l.getD (n - 1) t0).1<(l.getD n t0).1):=by
 unfold FJ
 rw [Bool.not_eq_true',IQ]
 constructor
 ·intro h n hn
  have:=h n (by omega) (by omega)
  unfold abk at this
  rw [Bool.or_eq_false_iff,Bool.and_eq_false_iff] at this
  refine ⟨by simpa using this.1,fun h0=>?_⟩
  rcases this.2 with q | q
  ·exact absurd (of_decide_eq_false q) (by omega)
  ·have:=of_decide_eq_false q;omega
 ·intro h n _ hn
  obtain ⟨a,b⟩:=h n (by omega)
  unfold abk
  rw [a,bne_self_eq_false,Bool.false_or,Bool.and_eq_false_iff]
  by_cases h0:0<n
  ·right;exact decide_eq_false (by have:=b h0;omega)
  ·left;exact decide_eq_false (by omega)
abbrev WB:Type:=PN Int 5
noncomputable def iy (l:List iw) (ap:Int) (i:Nat):WB:=((oh (l.getD i t0)).1,(oh (l.getD i t0)).2.1,byT l (i:Int),(l9 l (i:Int) ap).1,(l.getD i t0).2.2.1 - (l9 l (i:Int) ap).1)
noncomputable def U8 (l:List iw) (ap:Int):Nat -> Nat -> List WB -> List WB×Int
 | 0,_,out=>(out,0)
 | d+1,i,out=>if (l9 l (i:Int) ap).2.2=0 then U8 l ap d (i+1) (out++[iy l ap i]) else ([],(l9 l (i:Int) ap).2.2)
noncomputable def allT (l:List iw) (ap:Int):List WB×Int:=if ap<1 then ([],1) else U8 l ap l.length 0 []
theorem abp {l:List iw} (hL:p8 l) (hl:l.length <= 10) {i:Nat} {ap:Int} (h:(l9 l (i:Int) ap).2.2=0):FJ l=true /\ i<l.length /\ 1 <= ap /\ 1 <= (l9 l (i:Int) ap).1 /\ firstT l i <= (l9 l (i:Int) ap).1 /\ (l9 l (i:Int) ap).1 <= (l.getD i t0).2.2.1 /\ vo l i ap (l9 l (i:Int) ap).1=(l9 l (i:Int) ap).1:=by
 by_cases hc:FJ l=true /\ 0 <= (i:Int) /\ (i:Int)<(l.length:Int) /\ 1 <= ap
 ·obtain ⟨h1,_,h3,h4⟩:=hc
  have hi:i<l.length:=by omega
  have hR:=U4 h1 hL hl
  obtain ⟨y,hy⟩:=OG hR hi h4
  have hf:=hR.first hi
  rw [U6 h1 hi h4 hy] at h ⊢
  rcases U7 (KL hR h4) 20000 (firstT l i) 1 y (by omega) (hR.right hi h4 (by omega)).1 (by have:=(hR.right hi h4 (r:=firstT l i) (by omega)).1;omega) hy with ⟨e,_⟩ | ⟨a1,a2,a3,a4,_⟩
  ·rw [e] at h;exact absurd h (by decide)
  ·exact ⟨h1,hi,h4,by omega,a3,a4,a2⟩
 ·unfold l9 at h
  rw [if_neg hc] at h
  exact absurd h (by decide)
theorem WC {k:Nat} (hk:20000 <= k) {l:List iw} (hL:p8 l) (hl:l.length <= 10) {ap:Int}:∀ (d i j:Nat) (out:List WB),i+d=l.length -> d<j -> out.length <= i ->
  Xq k j l ap out l (l.length:Int) (i:Int)=some (((U8 l ap d i out).1,(U8 l ap d i out).2,()),())
 | 0,i,j,out,h,hj,ho=>by
  obtain ⟨j',rfl⟩:∃ j',j=j'+1:=⟨j - 1,by omega⟩
  rw [ZX,Xp,Sd (by omega),U8]
 | d+1,i,j,out,h,hj,ho=>by
  obtain ⟨j',rfl⟩:∃ j',j=j'+1:=⟨j - 1,by omega⟩
  have hi:i<l.length:=by omega
  have ht:=(hL.2 _ (jm (z:=t0) hi)).1
  rw [ZX,Xp,Sc (by omega),Qo hi,amS hk hL hl,Option.bind_some,U8,Qp,show l.getD i (0,0,0,[],[],[])=l.getD i t0 from rfl]
  simp only
  by_cases he:(l9 l (i:Int) ap).2.2=0
  ·obtain ⟨h1,_,h3,h4,h5,h6,h7⟩:=abp hL hl he
   have hc:=(U4 h1 hL hl).co _ (jm (z:=t0) hi)
   have:=hc.en;have:=hc.per
   rw [if_pos he,he]
   simp only [bne_self_eq_false,cond_false]
   rw [M7 (by omega) ht,Option.bind_some,afT (by omega) hL,Option.bind_some,Rz (by simp only [List.length_cons,List.length_nil];omega),Mi (by omega),Uu (by omega) (by omega)]
   exact WC hk hL hl d (i+1) j' _ (by omega) (by omega) (by simp only [List.length_append,List.length_cons,List.length_nil];omega)
  ·rw [if_neg he,show ((l9 l (i:Int) ap).2.2 != 0)=true by rw [bne_iff_ne];exact he,cond_true]
theorem amT {k:Nat} (hk:20000 <= k) {l:List iw} (hL:p8 l) (hl:l.length <= 10) (ap:Int):ain k l ap=some (((allT l ap).1,(allT l ap).2,()),()):=by
 unfold ain allT
 by_cases h:ap<1
 ·rw [Sc h,if_pos h]
 ·rw [Sd h,if_neg h]
  exact WC hk hL hl l.length 0 k [] (by omega) (by omega) (by simp)
def Ve (r:Int):List iw -> Nat
 | []=>0
 | x::l=>bif decide (x.1<r) then Ve r l+1 else 0
theorem YB (r:Int):∀ l:List iw,Ve r l <= l.length
 | []=>Nat.le_refl _
 | x::l=>by
  rw [Ve]
  cases decide (x.1<r) with
  | true=>rw [cond_true,List.length_cons];have:=YB r l;omega
  | false=>rw [cond_false];omega
theorem HV (r:Int):∀ (l:List iw) (n:Nat),n <= l.length -> (∀ a,a<n -> (l.getD a t0).1<r) -> (n<l.length -> ¬ (l.getD n t0).1<r) -> Ve r l=n
 | [],n,h,_,_=>by simp at h;rw [h];rfl
 | x::l,0,_,_,h2=>by
  have h3:¬ x.1<r:=h2 (by simp)
  rw [Ve,decide_eq_false h3,cond_false]
 | x::l,n+1,h,h1,h2=>by
  have h3:x.1<r:=h1 0 (by omega)
  rw [Ve,decide_eq_true h3,cond_true,HV r l n (by simpa using h) (fun a ha=>h1 (a+1) (by omega)) (fun hn=>h2 (by simpa using hn))]
noncomputable def BG (l:List iw) (t:iw):List iw:=l.take (Ve t.1 l)++[t]++l.drop (Ve t.1 l)
theorem U9 (l:List iw) (t:iw):(BG l t).length=l.length+1:=by
 have:=YB t.1 l
 unfold BG
 simp only [List.length_append,List.length_take,List.length_drop,List.length_cons,List.length_nil];omega
theorem acD {l:List iw} {t:iw} (h:p8 l) (hl:l.length <= 50) (ht:zi t /\ (t.2.2.2.1++t.2.2.2.2.1).length <= 900):p8 (BG l t):=⟨by rw [U9];omega,fun x hx=>by
 unfold BG at hx
 simp only [List.mem_append,List.mem_singleton] at hx
 rcases hx with (hx | hx) | hx
 ·exact h.2 x (List.mem_of_mem_take hx)
 ·rw [hx];exact ht
 ·exact h.2 x (List.mem_of_mem_drop hx)⟩
noncomputable def inT (l:List iw) (t:iw) (ap:Int):List iw×List WB×Int :=
 if GJ t≠0 then ([],[],GJ t) else if l.any (fun x=>x.1==t.1)=true then ([],[],11) else if 8 <= l.length then ([],[],4)
 else if (allT (BG l t) ap).2≠0 then ([],[],(allT (BG l t) ap).2) else (BG l t,(allT (BG l t) ap).1,0)
theorem YC {k:Nat} {xs:List I4} (h:xs.length <= 900):RX k xs=some ((xs,()),()):=by
 unfold RX qQ
 exact if_pos (by rw [lY];show xs.length * _ <= _;omega)
theorem afY {k:Nat} {t:iw} (h:zi t):ah5 k t=some ((t,()),()):=by
 unfold ah5
 rw [YC h.1,Option.bind_some,YC h.2.1,Option.bind_some,YC h.2.2,Option.bind_some]
theorem amU {k:Nat} {l:List iw} {p:Nat} {t:iw} (hp:p <= l.length) (hl:l.length <= 1000):aoz k l (p:Int) [t]=some ((l.take p++[t]++l.drop p,()),()):=by
 unfold aoz Jg
 refine if_pos ?_
 simp only [Bool.and_eq_true]
 refine ⟨decide_eq_true (Int.natCast_nonneg p),decide_eq_true (Int.ofNat_le.2 hp),decide_eq_true ?_⟩
 show (l.length+1) * _ <= _
 omega
theorem amV {l:List iw} {r:Int} (h:l.any (fun x=>x.1==r)=false):(if qm (fun x:iw=>decide (x.1>r)) l<0 then (l.length:Int) else qm (fun x:iw=>decide (x.1>r)) l)=(Ve r l:Int):=by
 have hne:∀ a,a<l.length -> (l.getD a t0).1≠r:=fun a ha e=>by
  rw [List.any_eq_false] at h
  exact h _ (jm (z:=t0) ha) (by rw [e];exact beq_self_eq_true r)
 unfold qm
 cases hf:l.findIdx? (fun x:iw=>decide (x.1>r)) with
 | none =>
  rw [List.findIdx?_eq_none_iff] at hf
  simp only
  rw [if_pos (by omega),HV r l l.length (Nat.le_refl _) (fun a ha=>by
   have:=hf _ (jm (z:=t0) ha)
   have:=of_decide_eq_false this
   have:=hne a ha
   omega) (fun h=>absurd h (by omega))]
 | some n =>
  rw [List.findIdx?_eq_some_iff_getElem] at hf
  obtain ⟨hn,h1,h2⟩:=hf
  have gd:∀ a (ha:a<l.length),l.getD a t0=l[a]:=fun a ha=>by rw [List.getD_eq_getElem?_getD,List.getElem?_eq_getElem ha];rfl
  simp only
  rw [if_neg (by omega),HV r l n (by omega) (fun a ha=>by
   have h3:=h2 a ha
   have h4:=hne a (by omega)
   rw [gd a (by omega)] at h4 ⊢
   simp only [decide_eq_true_eq] at h3
   omega) (fun _=>by
   rw [gd n hn]
   have:=of_decide_eq_true h1
   omega)]
theorem amW (x y:Int) (c:List (Int×Bool)):Us (.int .i64) .bool x (vL (.int .i64) .bool y true c) false=((y==x)||Us (.int .i64) .bool x c false):=by
 unfold Us
 rw [BZ (hb:=apn)]
 by_cases e:y=x
 ·subst e;simp [fC]
 ·have h1:fC (.int .i64) x y=false:=by simp [fC];exact fun h=>e h.symm
  rw [h1,show (y==x)=false by rw [beq_eq_false_iff_ne];exact e]
  simp
structure apr (l:List iw) (t:iw):Prop where
 light:p8 l
 len:l.length <= 9
 one:zi t /\ (t.2.2.2.1++t.2.2.2.2.1).length <= 900
theorem UA {k:Nat} (hk:20000 <= k) {l:List iw} {t:iw} (h:apr l t) {ap:Int} (hany:l.any (fun x=>x.1==t.1)=false):∀ (d n j:Nat),n+d=l.length -> d<j ->
  QL k j ap t.1 t.2.1 t.2.2.1 t.2.2.2.1 t.2.2.2.2.1 t.2.2.2.2.2 (l.take n) l (l.length:Int) (n:Int)=some ((if (allT (BG l t) ap).2≠0 then ([],[],(allT (BG l t) ap).2,()) else (BG l t,(allT (BG l t) ap).1,0,())),())
 | 0,n,j,h1,hj=>by
  obtain ⟨j',rfl⟩:∃ j',j=j'+1:=⟨j - 1,by omega⟩
  have hl:=h.len
  have hn:n=l.length:=by omega
  have hp:=YB t.1 l
  have hpl:=acD h.light (by omega) h.one
  have hpn:=U9 l t
  have jn:LD k ap t.1 t.2.1 t.2.2.1 t.2.2.2.1 t.2.2.2.2.1 t.2.2.2.2.2 l ((Ve t.1 l:Nat):Int)=some ((if (allT (BG l t) ap).2≠0 then ([],[],(allT (BG l t) ap).2,()) else (BG l t,(allT (BG l t) ap).1,0,())),()):=by
   unfold LD
   rw [show (t.1,t.2.1,t.2.2.1,t.2.2.2.1,t.2.2.2.2.1,t.2.2.2.2.2)=t from rfl,afY h.one.1,Option.bind_some]
   simp only
   rw [amU hp (by omega),Option.bind_some]
   show (ain k (BG l t) ap).bind _=_
   rw [amT hk hpl (by omega),Option.bind_some]
   simp only
   by_cases he:(allT (BG l t) ap).2=0
   ·rw [he,if_neg (by simp)];rfl
   ·rw [if_pos he,show ((allT (BG l t) ap).2 != 0)=true by rw [bne_iff_ne];exact he,cond_true]
  have hidx:=amV hany
  rw [Vx,QK,Sd (by omega),hn,List.take_length]
  unfold aoy
  have:=sw (fun j i=>K8 k j l (t.1,t.2.1,t.2.2.1,t.2.2.2.1,t.2.2.2.2.1,t.2.2.2.2.2) (l.length:Int) i) l t0 (fun x:iw=>decide (x.1>t.1)) (fun j i hi=>by
   show K8 k (j+1) l _ (l.length:Int) (i:Int)=_
   rw [ZJ,Xe,Sc (by omega),Qo hi,Mi (by omega),Qp]
   unfold aox
   rfl) (fun j=>by
   show K8 k (j+1) l _ (l.length:Int) (l.length:Int)=_
   rw [ZJ,Xe,Sd (by omega)]) k (by omega)
  rw [show K8 k k l (t.1,t.2.1,t.2.2.1,t.2.2.2.1,t.2.2.2.2.1,t.2.2.2.2.2) (l.length:Int) 0=_ from this,Option.bind_some]
  simp only
  by_cases hi:qm (fun x:iw=>decide (x.1>t.1)) l<0
  ·rw [if_pos hi] at hidx
   rw [Sc hi,hidx];exact jn
  ·rw [if_neg hi] at hidx
   rw [Sd hi,hidx];exact jn
 | d+1,n,j,h1,hj=>by
  obtain ⟨j',rfl⟩:∃ j',j=j'+1:=⟨j - 1,by omega⟩
  have hl:=h.len
  have hn:n<l.length:=by omega
  have ht:=(h.light.2 _ (jm (z:=t0) hn)).1
  rw [Vx,QK,Sc (by omega),Qo hn,Qp,show l.getD n (0,0,0,[],[],[])=l.getD n t0 from rfl,afY ht,Option.bind_some]
  simp only
  rw [Rz (by simp only [List.length_take,List.length_cons,List.length_nil];omega),Mi (by omega),<- JB hn]
  exact UA hk h hany d (n+1) j' (by omega) (by omega)
theorem WE {k:Nat} (hk:20000 <= k) {l:List iw} {t:iw} (h:apr l t) {ap:Int}:∀ (d n j:Nat) (c:List (Int×Bool)),n+d=l.length -> d<j -> (Us (.int .i64) .bool t.1 c false=(l.take n).any (fun x=>x.1==t.1)) ->
  Xt k j l ap t.1 t.2.1 t.2.2.1 t.2.2.2.1 t.2.2.2.2.1 t.2.2.2.2.2 c l (l.length:Int) (n:Int)=some (((inT l t ap).1,(inT l t ap).2.1,(inT l t ap).2.2,()),())
 | 0,n,j,c,h1,hj,hc=>by
  obtain ⟨j',rfl⟩:∃ j',j=j'+1:=⟨j - 1,by omega⟩
  have hl:=h.len
  rw [aac,Xr,Sd (by omega),show (t.1,t.2.1,t.2.2.1,t.2.2.2.1,t.2.2.2.2.1,t.2.2.2.2.2)=t from rfl,Yz (by omega) h.one.1,Option.bind_some,hc,List.take_of_length_le (by omega)]
  simp only
  unfold inT
  by_cases hz:GJ t=0
  ·rw [if_neg (by omega),hz]
   simp only [bne_self_eq_false,cond_false]
   cases ha:l.any (fun x=>x.1==t.1) with
   | true=>rw [if_pos rfl,cond_true]
   | false =>
    rw [if_neg (by simp),cond_false]
    by_cases h8:8 <= l.length
    ·rw [if_pos h8,Sc (by omega)]
    ·rw [if_neg h8,Sd (by omega)]
     have:=UA hk h (ap:=ap) ha l.length 0 k (by omega) (by omega)
     rw [List.take_zero] at this
     refine Eq.trans this ?_
     split <;> rfl
  ·rw [if_pos hz,show (GJ t != 0)=true by rw [bne_iff_ne];exact hz,cond_true]
 | d+1,n,j,c,h1,hj,hc=>by
  obtain ⟨j',rfl⟩:∃ j',j=j'+1:=⟨j - 1,by omega⟩
  have hl:=h.len
  have hn:n<l.length:=by omega
  rw [aac,Xr,Sc (by omega),Qo hn,Qp,show l.getD n (0,0,0,[],[],[])=l.getD n t0 from rfl,Mi (by omega)]
  refine WE hk h d (n+1) j' _ (by omega) (by omega) ?_
  rw [amW,hc,JB hn,List.any_append,List.any_cons,List.any_nil,Bool.or_false,Bool.or_comm]
theorem amX {k:Nat} (hk:20000 <= k) {l:List iw} {t:iw} (h:apr l t) (ap:Int):aoH k l t ap=some (((inT l t ap).1,(inT l t ap).2.1,(inT l t ap).2.2,()),()):=by
 have hl:=h.len
 exact WE hk h l.length 0 k [] (by omega) (by omega) (by rw [List.take_zero];rfl)
def aps (l:List iw):Prop:=∀ a b,a<b -> b<l.length -> (l.getD a t0).1<(l.getD b t0).1
theorem ag6 {l:List iw} (h:FJ l=true):aps l:=fun a b hab hb=>by
 rw [row_iff] at h
 induction b with
 | zero=>omega
 | succ b ih =>
  have h1:=(h (b+1) hb).2 (by omega)
  rw [show b+1 - 1=b by omega] at h1
  by_cases e:a=b
  ·rw [e];exact h1
  ·have:=ih (by omega) (by omega);omega
structure Emb (s l:List iw) (f:Nat -> Nat):Prop where
 lt:∀ a,a<s.length -> f a<l.length
 eq:∀ a,a<s.length -> s.getD a t0=l.getD (f a) t0
 mono:∀ a b,a<b -> b<s.length -> f a<f b
theorem WG {a b c:Int}:mx a b <= c↔a <= c /\ b <= c:=by unfold mx;split <;> omega
theorem KM {l:List iw} {i b:Int}:∀ (sp:List (Int×Int)) (m:Int),spF l i m sp <= b↔m <= b /\ ∀ e∈sp,w9 l e.1 <= i -> e.2 <= b
 | [],m=>by simp [spF]
 | e::r,m=>by
  rw [spF,KM r]
  simp only [List.mem_cons,forall_eq_or_imp]
  by_cases h:w9 l e.1 <= i
  ·rw [decide_eq_true h,cond_true,WG]
   exact ⟨fun q=>⟨q.1.1,fun _=>q.1.2,q.2⟩,fun q=>⟨⟨q.1,q.2.1 h⟩,q.2.2⟩⟩
  ·rw [decide_eq_false h,cond_false]
   exact ⟨fun q=>⟨q.1,fun h2=>absurd h2 h,q.2⟩,fun q=>⟨q.1,q.2.2⟩⟩
theorem KN {l:List iw} {i b:Int}:∀ (r:List iw) (n:Nat) (m:Int),byG l i r n m <= b↔m <= b /\ ∀ j,j<r.length -> ((n+j:Nat):Int)≠i -> ∀ e∈(oh (r.getD j t0)).2.2,w9 l e.1 <= i -> e.2 <= b
 | [],n,m=>by simp [byG]
 | t::r,n,m=>by
  rw [byG,KN r]
  constructor
  ·intro ⟨h1,h2⟩
   cases hc:((n:Int)==i) with
   | true =>
    rw [hc,cond_true] at h1
    refine ⟨h1,fun j hj hne=>?_⟩
    cases j with
    | zero=>exact absurd (eq_of_beq hc) hne
    | succ j=>exact h2 j (by simpa using hj) (by rw [show n+1+j=n+(j+1) by omega];exact hne)
   | false =>
    rw [hc,cond_false,KM] at h1
    refine ⟨h1.1,fun j hj hne=>?_⟩
    cases j with
    | zero=>exact h1.2
    | succ j=>exact h2 j (by simpa using hj) (by rw [show n+1+j=n+(j+1) by omega];exact hne)
  ·intro ⟨h1,h2⟩
   refine ⟨?_,fun j hj hne=>h2 (j+1) (by simpa using hj) (by rw [show n+(j+1)=n+1+j by omega];exact hne)⟩
   cases hc:((n:Int)==i) with
   | true=>exact h1
   | false =>
    rw [cond_false,KM]
    exact ⟨h1,h2 0 (by simp) (by rw [beq_eq_false_iff_ne] at hc;exact hc)⟩
theorem FL {b:Int}:∀ (r:List iw) (m:Int),vk m r <= b↔m <= b /\ ∀ t∈r,(oh t).2.1 <= b
 | [],m=>by simp [vk]
 | t::r,m=>by
  rw [vk,FL r,WG]
  simp only [List.mem_cons,forall_eq_or_imp]
  exact and_assoc
theorem M9 (x:Int):∀ a b:List (Int×Int),yx x (a++b)=yx x a+yx x b
 | [],b=>by simp [yx]
 | p::a,b=>by rw [List.cons_append,yx,yx,M9 x a b];omega
section
variable {s l:List iw} {f:Nat -> Nat} (h:Emb s l f)
include h
theorem Emb.ceil {i:Nat} (hi:i<s.length) (h8:s.length <= 8) {e:Int} (hc:w9 s e <= (i:Int)):w9 l e <= ((f i:Nat):Int):=by
 unfold w9 at hc ⊢
 rcases U1 e s 0 with ⟨q,_⟩ | ⟨n,hn,q,hl⟩
 ·omega
 ·rw [h.eq n hn] at hl
  have:=abj e l 0 (f n) (h.lt n hn) hl
  have h2:f n <= f i:=by
   by_cases e:n=i
   ·rw [e];exact Nat.le_refl _
   ·exact Nat.le_of_lt (h.mono n i (by omega) hi)
  omega
theorem Emb.by {i:Nat} (hi:i<s.length) (h8:s.length <= 8):byT s (i:Int) <= byT l ((f i:Nat):Int):=by
 unfold byT
 rw [KN]
 obtain ⟨h1,h2⟩:=(KN (l:=l) (i:=((f i:Nat):Int)) l 0 0).1 (Int.le_refl _)
 refine ⟨h1,fun j hj hne e he hc=>?_⟩
 rw [Nat.zero_add] at hne
 have asV:f j≠f i:=by
  rcases Nat.lt_or_gt_of_ne (show j≠i from fun e=>hne (by rw [e])) with q | q
  ·exact Nat.ne_of_lt (h.mono j i q hi)
  ·exact Nat.ne_of_gt (h.mono i j q hj)
 exact h2 (f j) (h.lt j hj) (by rw [Nat.zero_add];omega) e (by rw [<- h.eq j hj];exact he) (h.ceil hi h8 hc)
theorem Emb.lost {i:Nat} (hi:i<s.length):vk 0 (s.take (i+1)) <= vk 0 (l.take (f i+1)):=by
 rw [FL]
 obtain ⟨h1,h2⟩:=(FL (l.take (f i+1)) 0).1 (Int.le_refl _)
 refine ⟨h1,fun t ht=>h2 t ?_⟩
 obtain ⟨a,ha,e⟩:=List.mem_iff_getElem.1 ht
 rw [List.length_take] at ha
 have e1:t=s.getD a t0:=by rw [<- e,List.getElem_take,List.getD_eq_getElem?_getD,List.getElem?_eq_getElem (by omega)];rfl
 have hfa:f a <= f i:=by
  by_cases e:a=i
  ·rw [e];exact Nat.le_refl _
  ·exact Nat.le_of_lt (h.mono a i (by omega) hi)
 have hla:=h.lt a (by omega)
 rw [e1,h.eq a (by omega)]
 rw [List.getD_eq_getElem?_getD,List.getElem?_eq_getElem hla,List.mem_iff_getElem]
 exact ⟨f a,by rw [List.length_take];omega,by rw [List.getElem_take];rfl⟩
theorem Emb.sum (hco:∀ t∈l,CoS t) {x:Int} (hx:0 <= x):∀ a,a <= s.length -> ∀ n,n <= l.length -> (∀ b,b<a -> f b<n) -> yx x ((s.take a).map pc1) <= yx x ((l.take n).map pc1)
 | 0,_,n,hn,_=>by
  rw [List.take_zero]
  exact BF hx (fun y hy=>by
   obtain ⟨t,ht,rfl⟩:=List.mem_map.1 hy
   have q:=hco t (List.mem_of_mem_take ht)
   have:=q.cost;have:=q.per
   unfold pc1;simp only;omega)
 | a+1,ha,n,hn,hb=>by
  have hfa:=hb a (by omega)
  have hla:f a<l.length:=h.lt a (by omega)
  have ih:=Emb.sum hco hx a (by omega) (f a) (by omega) (fun b hb=>h.mono b a hb (by omega))
  rw [JB (show a<s.length by omega),List.map_append,M9,h.eq a (by omega)]
  have e:l.take n=l.take (f a)++[l.getD (f a) t0]++(l.take n).drop (f a+1):=by
   rw [<- JB hla]
   have:=(List.take_append_drop (f a+1) (l.take n)).symm
   rwa [List.take_take,Nat.min_eq_left (by omega)] at this
  rw [e,List.map_append,List.map_append,M9,M9]
  have:0 <= yx x (((l.take n).drop (f a+1)).map pc1):=BF hx (fun y hy=>by
   obtain ⟨t,ht,rfl⟩:=List.mem_map.1 hy
   have q:=hco t (List.mem_of_mem_take (List.mem_of_mem_drop ht))
   have:=q.cost;have:=q.per
   unfold pc1;simp only;omega)
  omega
theorem Emb.right (hco:RS l) {i:Nat} (hi:i<s.length) (h8:s.length <= 8) {ap x:Int} (ha:1 <= ap) (hx:0 <= x):firstT s i <= firstT l (f i) /\ vo s i ap x <= vo l (f i) ap x:=by
 have h1:=h.by hi h8
 have h2:=h.lost hi
 have h3:=h.sum hco.co hx i (by omega) (f i) (Nat.le_of_lt (h.lt i hi)) (fun b hb=>h.mono b i hb hi)
 have h4:=Int.mul_le_mul_of_nonneg_left h2 (Wy hx ha).1
 have hf:firstT s i <= firstT l (f i):=by unfold firstT;rw [h.eq i hi];omega
 refine ⟨hf,?_⟩
 unfold vo;omega
theorem Emb.row (hr:FJ l=true):FJ s=true:=by
 have hri:=ag6 hr
 rw [row_iff] at hr ⊢
 intro n hn
 rw [h.eq n hn]
 refine ⟨(hr _ (h.lt n hn)).1,fun h0=>?_⟩
 rw [h.eq (n - 1) (by omega)]
 exact hri _ _ (h.mono (n - 1) n (by omega) hn) (h.lt n hn)
theorem Emb.light (hL:p8 l) (hs:s.length <= 100):p8 s:=⟨hs,fun t ht=>by
 obtain ⟨a,ha,e⟩:=List.mem_iff_getElem.1 ht
 have e1:t=s.getD a t0:=by rw [<- e,List.getD_eq_getElem?_getD,List.getElem?_eq_getElem ha];rfl
 rw [e1,h.eq a ha]
 exact hL.2 _ (jm (h.lt a ha))⟩
theorem Emb.resp (hL:p8 l) (hl:l.length <= 10) (h8:s.length <= 8) {i:Nat} (hi:i<s.length) {ap:Int} (he:(l9 l ((f i:Nat):Int) ap).2.2=0):(l9 s (i:Int) ap).2.2=0 /\ (l9 s (i:Int) ap).1 <= (l9 l ((f i:Nat):Int) ap).1:=by
 obtain ⟨h1,h2,h3,h4,h5,h6,h7⟩:=abp hL hl he
 have hR:=U4 h1 hL hl
 have hs:=U4 (h.row h1) (h.light hL (by omega)) (by omega)
 obtain ⟨q1,q2⟩:=h.right hR hi h8 (ap:=ap) (x:=(l9 l ((f i:Nat):Int) ap).1) h3 (by omega)
 exact abo (h.row h1) hs hi h3 (by omega) (by omega) (by rw [h.eq i hi];exact h6)
end
theorem afZ {l:List iw} {ap:Int}:∀ (d i:Nat) (out:List WB),(∀ a,i <= a -> a<i+d -> (l9 l (a:Int) ap).2.2=0) -> U8 l ap d i out=(out++(List.range' i d).map (iy l ap),0)
 | 0,i,out,_=>by rw [U8];simp
 | d+1,i,out,h=>by
  rw [U8,if_pos (h i (Nat.le_refl _) (by omega)),afZ d (i+1) _ (fun a h1 h2=>h a (by omega) (by omega)),List.range'_succ,List.map_cons,List.append_assoc];rfl
theorem WH {l:List iw} {ap:Int}:∀ (d i:Nat) (out:List WB),(U8 l ap d i out).2=0 -> ∀ a,i <= a -> a<i+d -> (l9 l (a:Int) ap).2.2=0
 | 0,i,out,_,a,h1,h2=>by omega
 | d+1,i,out,h,a,h1,h2=>by
  rw [U8] at h
  by_cases he:(l9 l (i:Int) ap).2.2=0
  ·rw [if_pos he] at h
   by_cases e:a=i
   ·rw [e];exact he
   ·exact WH d (i+1) _ h a (by omega) (by omega)
  ·rw [if_neg he] at h;exact absurd h he
theorem af0 {l:List iw} {ap:Int} (ha:1 <= ap) (h:∀ i,i<l.length -> (l9 l (i:Int) ap).2.2=0):allT l ap=((List.range l.length).map (iy l ap),0):=by
 unfold allT
 rw [if_neg (by omega),afZ l.length 0 [] (fun a _ h2=>h a (by omega)),List.nil_append,<- List.range_eq_range']
theorem WI {l:List iw} {ap:Int} (h:(allT l ap).2=0):1 <= ap /\ ∀ i,i<l.length -> (l9 l (i:Int) ap).2.2=0:=by
 unfold allT at h
 by_cases ha:ap<1
 ·rw [if_pos ha] at h;exact absurd h (by decide)
 ·rw [if_neg ha] at h
  exact ⟨by omega,fun i hi=>WH l.length 0 [] h i (by omega) (by omega)⟩
theorem Emb.all {s l:List iw} {f:Nat -> Nat} (h:Emb s l f) (hL:p8 l) (hl:l.length <= 10) (h8:s.length <= 8) {ap:Int} (he:(allT l ap).2=0):allT s ap=((List.range s.length).map (iy s ap),0):=by
 obtain ⟨h1,h2⟩:=WI he
 exact af0 h1 (fun i hi=>(h.resp hL hl h8 hi (h2 _ (h.lt i hi))).1)
theorem apt {l:List iw} {t:iw} {ap:Int} (h:(inT l t ap).2.2=0):(inT l t ap).1=BG l t /\ (inT l t ap).2.1=(allT (BG l t) ap).1 /\ (allT (BG l t) ap).2=0 /\ l.any (fun x=>x.1==t.1)=false:=by
 unfold inT at h ⊢
 split at h
 ·rename_i q;exact absurd h q
 ·rename_i q
  rw [if_neg q]
  split at h
  ·exact absurd h (by decide)
  ·rename_i q2
   rw [if_neg q2]
   split at h
   ·exact absurd h (by decide)
   ·rename_i q3
    rw [if_neg q3]
    split at h
    ·rename_i q4;exact absurd h q4
    ·rename_i q4
     rw [if_neg q4]
     exact ⟨rfl,rfl,by simpa using q4,Bool.eq_false_iff.2 q2⟩
abbrev jc:Type:=Int×Int×Int×Int×gy×gy×List Int×Bool
abbrev jd:Type:=Int×Int×List iw×List WB×Bool×Bool×Bool×List jc×Tb×List Int×List Bool
abbrev je:Type:=PN Int 6
abbrev jf:Type:=Int×Int
abbrev s0:jf:=(0,0)
abbrev bd0:WB:=Qn (α:=Int) 5 0
theorem af2 {α:Type} (p:α -> Bool) (x:α):[x].filter p=bif p x then [x] else []:=by rw [List.filter_cons];cases p x <;> rfl
theorem JC {k:Nat} {xs:List I4} (h:xs.length <= 900):RX k xs=some ((xs,()),()):=by
 unfold RX;exact Ll (by omega)
theorem amY {k:Nat} {xs:List iw} (h:xs.length <= 900):aoI k xs=some ((xs,()),()):=by
 unfold aoI;exact Ll (by omega)
theorem ag7 {k:Nat} {xs:List WB} (h:xs.length <= 900):aoJ k xs=some ((xs,()),()):=by
 unfold aoJ;exact Ll (by omega)
theorem apu {k:Nat} {xs:List jc} (h:xs.length <= 900):aoK k xs=some ((xs,()),()):=by
 unfold aoK;exact Ll (by omega)
theorem acE {k:Nat} {xs:List gu} (h:xs.length <= 900):ab0 k xs=some ((xs,()),()):=by
 unfold ab0;exact Ll (by omega)
theorem UC {k:Nat} {xs:List Int} (h:xs.length <= 900):GV k xs=some ((xs,()),()):=by
 unfold GV;exact Ll (by omega)
theorem YD {k:Nat} {xs:List Bool} (h:xs.length <= 900):V7 k xs=some ((xs,()),()):=by
 unfold V7;exact Ll (by omega)
theorem YE {k:Nat} {xs:List jf} (h:xs.length <= 900):ajc k xs=some ((xs,()),()):=by
 unfold ajc;exact Ll (by omega)
theorem HY {α:Type} {l:List α} {n:Nat} {z:α}:l.set n (l.getD n z)=l:=by
 by_cases h:n<l.length
 ·rw [getD_in h];exact List.set_getElem_self h
 ·exact List.set_eq_of_length_le (by omega)
def DN (l:List Int) (s:Int):List Int:=l.filter (fun x=>!(x==s))
theorem YF {k:Nat} {l:List Int} {s:Int} (hl:l.length <= 900):∀ (m e j c:Nat) (a:List Int),e+m=l.length -> m<j -> a.length=l.length -> c <= e -> a.take c=DN (l.take e) s -> a.drop e=l.drop e ->
  Xv k j a s (c:Int) (e:Int)=some ((DN l s,()),())
 | 0,e,j,c,a,he,hj,ha,hc,h1,h2=>by
  obtain ⟨j,rfl⟩:∃ i,j=i+1:=⟨j - 1,by omega⟩
  have hcl:(Uy a (c:Int) (a.length:Int) 0).length=a.length:=by simp [Uy];omega
  rw [aae,Xu,Sd (by omega),Rx (by omega) (by omega) (by omega),Rx (by omega) (by omega) (by omega)]
  have h1:a.take c=DN l s:=by rw [h1,List.take_of_length_le (by omega)]
  rw [<- h1]
  unfold Uy
  simp only [Int.toNat_natCast]
  rw [List.append_assoc,List.take_append_of_le_length (by simp;omega),List.take_take,Nat.min_self]
 | m+1,e,j,c,a,he,hj,ha,hc,h1,h2=>by
  obtain ⟨j,rfl⟩:∃ i,j=i+1:=⟨j - 1,by omega⟩
  have hea:e<a.length:=by omega
  have hg:a.getD e 0=l.getD e 0 /\ a.drop (e+1)=l.drop (e+1):=by
   rw [drop_cons 0 hea,drop_cons (l:=l) 0 (by omega)] at h2
   injection h2 with p q;exact ⟨p,q⟩
  have ht:l.take (e+1)=l.take e++[l.getD e 0]:=by rw [List.take_succ_eq_append_getElem (by omega),getD_in (by omega)]
  rw [aae,Xu,Sc (by omega),Qo hea,Qp]
  unfold aiq
  rw [Option.bind_some,Mi (by omega),Mi (by omega),hg.1]
  simp only
  cases hs:l.getD e 0==s with
  | true =>
   simp only [Bool.not_true,cond_false]
   exact YF hl m (e+1) j c a (by omega) (by omega) ha (by omega) (by rw [h1,ht];unfold DN;rw [List.filter_append,af2,hs];simp) hg.2
  | false =>
   simp only [Bool.not_false,cond_true]
   rw [Qo (by omega),Mj]
   refine YF hl m (e+1) j (c+1) (a.set c (l.getD e 0)) (by omega) (by omega) (by rw [List.length_set];exact ha) (by omega) ?_ (by rw [List.drop_set_of_lt (by omega)];exact hg.2)
   rw [List.take_succ_eq_append_getElem (by rw [List.length_set];omega),List.take_set_of_le (by omega),h1,ht,List.getElem_set_self]
   unfold DN;rw [List.filter_append,af2,hs];simp
theorem amZ {k:Nat} (hk:1000 <= k) {l:List Int} (hl:l.length <= 900) (s:Int):alk k l s=some ((DN l s,()),()):=by
 have hi:adI k l s=some ((qm (fun x=>x==s) l,()),()):=by
  unfold adI
  refine sw (fun j i=>IJ k j l s (l.length:Int) i) l 0 _ (fun j i hi=>?_) (fun j=>?_) k (by omega)
  ·show IJ k (j+1) l s (l.length:Int) (i:Int)=_
   rw [Vy,QM,Sc (by omega),Qo hi,Mi (by omega),Qp]
   unfold aiq;rfl
  ·show IJ k (j+1) l s (l.length:Int) (l.length:Int)=_
   rw [Vy,QM,Sd (by omega)]
 unfold alk
 rw [hi,Option.bind_some]
 simp only
 unfold qm
 cases hf:l.findIdx? (fun x=>x==s) with
 | none =>
  simp only
  rw [show ((-1:Int)==-1)=true from rfl,cond_true]
  unfold DN
  rw [List.findIdx?_eq_none_iff] at hf
  rw [List.filter_eq_self.2 (fun x hx=>by rw [hf x hx];rfl)]
 | some n =>
  simp only
  rw [List.findIdx?_eq_some_iff_getElem] at hf
  obtain ⟨hn,h1,h2⟩:=hf
  rw [beq_eq_false_iff_ne.2 (by omega),cond_false,Mi (by omega)]
  have hp:∀ x∈l.take n,(!(x==s))=true:=fun x hx=>by
   obtain ⟨i,hi,e⟩:=List.mem_iff_getElem.1 hx
   rw [List.length_take] at hi
   rw [List.getElem_take] at e
   have:=h2 i (by omega)
   rw [e] at this;simpa using this
  refine YF hl (l.length - (n+1)) (n+1) k n l (by omega) (by omega) rfl (by omega) ?_ rfl
  unfold DN
  rw [List.take_succ_eq_append_getElem hn,List.filter_append,List.filter_eq_self.2 hp,af2,h1]
  simp
theorem acF {l:List Int} (h:∀ x∈l,0 <= x):DN l (-1)=l:=List.filter_eq_self.2 (fun x hx=>by have:=h x hx;rw [beq_eq_false_iff_ne.2 (by omega)];rfl)
structure JS (j:jc):Prop where
 m:j.2.2.2.2.1.2.2.1.length <= 100
 kept:j.2.2.2.2.2.1.2.2.1.length <= 100
 held:j.2.2.2.2.2.2.1.length <= 100
 pos:∀ x∈j.2.2.2.2.2.2.1,0 <= x
def zk (j:jc) (s:Int):jc:=w6 j (DN j.2.2.2.2.2.2.1 s)
theorem YG {k:Nat} (hk:1000 <= k) {j:jc} (h:JS j) (s:Int):agC k j s=some ((zk j s,()),()):=by
 have h1:=h.m
 have h2:=h.kept
 have h3:=h.held
 unfold agC
 rw [acE (by omega),Option.bind_some,acE (by omega),Option.bind_some,UC (by omega),Option.bind_some]
 simp only
 rw [amZ hk (by omega),Option.bind_some]
 rfl
theorem UD {j:jc} (h:JS j):zk j (-1)=j:=by unfold zk;rw [acF h.pos];rfl
theorem ag8 {k:Nat} {w:List Int×List Bool} (h1:w.1.length <= 900) (h2:w.2.length <= 900):ab4 k w (-1)=some ((w,()),()):=by
 unfold ab4 agD
 rw [UC h1,Option.bind_some,YD h2,Option.bind_some,Option.bind_some]
 rfl
theorem akt {k:Nat} (hk:1000 <= k) {T:Tb} (hT:yh T):JG k T (-1) j5=some ((T,()),()):=by
 rw [JA hk hT afM];rfl
structure KS (K:jd):Prop where
 tasks:p8 K.2.2.1
 bounds:K.2.2.2.1.length <= 900
 jobs:K.2.2.2.2.2.2.2.1.length <= 800
 job:∀ j∈K.2.2.2.2.2.2.2.1,JS j
 tab:yh K.2.2.2.2.2.2.2.2.1
 rows:K.2.2.2.2.2.2.2.2.2.1.length <= 900
 off:K.2.2.2.2.2.2.2.2.2.2.length <= 900
theorem abq {k:Nat} (hk:1000 <= k) {K:jd} (h:KS K) {b c:Int} {e f g:Bool}:∀ (m i j:Nat),i+m=K.2.2.2.2.2.2.2.1.length -> m<j ->
  adQ k j K b c e f g (K.2.2.2.2.2.2.2.1.length:Int) (i:Int)=some ((K,()),())
 | 0,i,j,hi,hj=>by
  obtain ⟨j,rfl⟩:∃ i,j=i+1:=⟨j - 1,by omega⟩
  rw [adR,adP,Sd (by omega),akt hk h.tab,Option.bind_some,ag8 h.rows h.off,Option.bind_some]
  rfl
 | m+1,i,j,hi,hj=>by
  obtain ⟨j,rfl⟩:∃ i,j=i+1:=⟨j - 1,by omega⟩
  have hi':i<K.2.2.2.2.2.2.2.1.length:=by omega
  have hjs:=h.job _ (jm (z:=ay) hi')
  have hl:=h.jobs
  rw [adR,adP,Sc (by omega),Qo hi',Qp,YG hk hjs,Option.bind_some,Qo hi',Mj,Mi (by omega)]
  simp only
  rw [UD hjs,HY]
  exact abq hk h m (i+1) j (by omega) (by omega)
theorem abr {k:Nat} (hk:1000 <= k) {K:jd} (h:KS K) {b c:Int} {e f g:Bool}:∀ (m i j:Nat),i+m=K.2.2.1.length -> m<j ->
  adT k j K b c e f g (K.2.2.1.length:Int) (i:Int)=some ((K,()),())
 | 0,i,j,hi,hj=>by
  obtain ⟨j,rfl⟩:∃ i,j=i+1:=⟨j - 1,by omega⟩
  have:=h.jobs
  rw [adU,adS,Sd (by omega)]
  exact abq hk h K.2.2.2.2.2.2.2.1.length 0 k (by omega) (by omega)
 | m+1,i,j,hi,hj=>by
  obtain ⟨j,rfl⟩:∃ i,j=i+1:=⟨j - 1,by omega⟩
  have hi':i<K.2.2.1.length:=by omega
  have ht:=h.tasks
  have hl:=(ht.2 _ (jm (z:=bg) hi')).1
  have hw:∀ t:iw,w3 t t.2.2.2.1=t /\ w4 t t.2.2.2.2.1=t /\ z5 t t.2.2.2.2.2=t:=fun t=>⟨rfl,rfl,rfl⟩
  have h1:=ht.1
  rw [adU,adS,Sc (by omega),Qo hi',Qp,JC hl.1,Option.bind_some,JC hl.2.1,Option.bind_some,JC hl.2.2,Option.bind_some]
  simp only [Mj,(hw _).1,(hw _).2.1,HY,Qo hi',Qp,(hw _).2.2,Mi (show i<9223372036854775807 by omega)]
  exact abr hk h m (i+1) j (by omega) (by omega)
theorem UE {k:Nat} (hk:1000 <= k) {K:jd} (h:KS K):S56 k K=some ((K,()),()):=by
 have h1:=h.tasks.1
 have h2:=h.jobs
 unfold S56
 rw [amY (by omega),Option.bind_some,ag7 h.bounds,Option.bind_some,apu (by omega),Option.bind_some]
 exact abr hk h K.2.2.1.length 0 k (by omega) (by omega)
def isS (T:Tb) (i:Nat):Bool:=(T.2.getD i j5).1==1
def jr (T:Tb):List Nat:=(List.range T.2.length).filter (isS T)
def p9 (l:List Nat):List Int:=l.map Int.ofNat
theorem qx (l:List Nat):(p9 l).length=l.length:=by unfold p9;exact List.length_map _
theorem af3 {l:List Nat} {i:Nat} (h:i<l.length):rd (p9 l) (i:Int) 0=((l.getD i 0:Nat):Int):=by
 rw [Qp,getD_in (by rw [qx];exact h),getD_in h];simp [p9]
theorem EH {T:Tb} {a:Nat}:a∈jr T↔a<T.2.length /\ (T.2.getD a j5).1=1:=by
 unfold jr isS;rw [List.mem_filter,List.mem_range,beq_iff_eq]
theorem wo (T:Tb):(jr T).length <= T.2.length:=by
 have:=List.length_filter_le (isS T) (List.range T.2.length)
 rw [List.length_range] at this;exact this
theorem Q0 {T T2:Tb} (hl:T2.2.length=T.2.length) (h:∀ i,i<T.2.length -> (T2.2.getD i j5).1=(T.2.getD i j5).1):jr T2=jr T:=by
 unfold jr
 rw [hl]
 exact List.filter_congr (fun i hi=>by unfold isS;rw [h i (List.mem_range.1 hi)])
theorem abt {k:Nat} {T:Tb} (hT:T.2.length <= 100):∀ (m i j:Nat),i+m=T.2.length -> m<j -> XK k j (p9 ((List.range i).filter (isS T))) T.2 (T.2.length:Int) (i:Int)=some ((p9 (jr T),()),())
 | 0,i,j,hi,hj=>by
  obtain ⟨j,rfl⟩:∃ i,j=i+1:=⟨j - 1,by omega⟩
  rw [aat,XJ,Sd (by omega),show i=T.2.length by omega];rfl
 | m+1,i,j,hi,hj=>by
  obtain ⟨j,rfl⟩:∃ i,j=i+1:=⟨j - 1,by omega⟩
  have ih:=abt (k:=k) hT m (i+1) j (by omega) (by omega)
  rw [List.range_succ,List.filter_append,af2] at ih
  have hn:(p9 ((List.range i).filter (isS T))).length <= 100:=by
   have:=List.length_filter_le (isS T) (List.range i)
   rw [List.length_range] at this;rw [qx];omega
  rw [aat,XJ,Sc (by omega),Qo (by omega),Qp,Mi (by omega)]
  unfold isS at ih hn ⊢
  cases hs:(T.2.getD i j5).1==1 with
  | true =>
   rw [hs] at ih
   rw [cond_true,Rz (by simp only [List.length_cons,List.length_nil];omega)]
   simpa [p9] using ih
  | false =>
   rw [hs] at ih
   rw [cond_false]
   simpa [p9] using ih
theorem MB {k:Nat} (hk:1000 <= k) {T:Tb} (hT:T.2.length <= 100):aau k T=some ((p9 (jr T),()),()):=by
 unfold aau
 exact abt hT T.2.length 0 k (by omega) (by omega)
def j6 (T:Tb):List jf:=(jr T).map (fun i=>(T.2.getD i j5).2.2.1)
theorem JD (T:Tb):(j6 T).length=(jr T).length:=by unfold j6;exact List.length_map _
theorem OH {k:Nat} (hk:1000 <= k) {K:jd} (hT:K.2.2.2.2.2.2.2.2.1.2.length <= 100):S48 k K=some ((j6 K.2.2.2.2.2.2.2.2.1,()),()):=by
 have hn:=wo K.2.2.2.2.2.2.2.2.1
 unfold S48
 rw [MB hk hT,Option.bind_some]
 have key:∀ (m i j:Nat),i+m=(jr K.2.2.2.2.2.2.2.2.1).length -> m<j -> ad1 k j K ((j6 K.2.2.2.2.2.2.2.2.1).take i) (p9 (jr K.2.2.2.2.2.2.2.2.1)) ((p9 (jr K.2.2.2.2.2.2.2.2.1)).length:Int) (i:Int)=some ((j6 K.2.2.2.2.2.2.2.2.1,()),()):=by
  intro m
  induction m with
  | zero =>
   intro i j hi hj
   obtain ⟨j,rfl⟩:∃ i,j=i+1:=⟨j - 1,by omega⟩
   rw [ad2,adZ,Sd (by rw [qx];omega),List.take_of_length_le (by rw [JD];omega)]
  | succ m ih =>
   intro i j hi hj
   obtain ⟨j,rfl⟩:∃ i,j=i+1:=⟨j - 1,by omega⟩
   have hi':i<(jr K.2.2.2.2.2.2.2.2.1).length:=by omega
   have hm:=EH.1 (jm (z:=0) hi')
   rw [ad2,adZ,Sc (by rw [qx];omega),Qo (by rw [qx];omega),af3 hi',Qo hm.1,Qp,Rz (by simp only [List.length_cons,List.length_nil,List.length_take];omega),Mi (by omega)]
   have e:(j6 K.2.2.2.2.2.2.2.2.1).take i++[(K.2.2.2.2.2.2.2.2.1.2.getD ((jr K.2.2.2.2.2.2.2.2.1).getD i 0) bf).2.2.1]=(j6 K.2.2.2.2.2.2.2.2.1).take (i+1):=by
    rw [List.take_succ_eq_append_getElem (by rw [JD];exact hi')]
    unfold j6
    rw [List.getElem_map,getD_in hi']
   rw [e]
   exact ih (i+1) j (by omega) (by omega)
 have:=key (jr K.2.2.2.2.2.2.2.2.1).length 0 k (by omega) (by omega)
 rwa [List.take_zero] at this
def setSm (x:Th) (s:jf):Th:=(x.1,x.2.1,s,x.2.2.2)
noncomputable def HZ (k:Nat) (l:List jf) (a i:Nat) (T:Tb):Tb:=if i<l.length /\ (T.2.getD a j5).2.2.1≠l.getD i s0 then KG k T (a:Int) (setSm (T.2.getD a j5) (l.getD i s0)) else T
noncomputable def K4 (k:Nat) (l:List jf):List Nat -> Nat -> Tb -> Tb
 | [],_,T=>T
 | a::r,i,T=>K4 k l r (i+1) (HZ k l a i T)
noncomputable def MC (k:Nat) (T:Tb) (l:List jf):Tb:=K4 k l (jr T) 0 T
noncomputable def EI (k:Nat) (K:jd) (l:List jf):jd:=w8 K (MC k K.2.2.2.2.2.2.2.2.1 l)
theorem aoi {T:Tb} (h:yh T) (a:Nat):Wo (T.2.getD a j5):=by
 by_cases ha:a<T.2.length
 ·exact h.2 _ (jm ha)
 ·rw [LQ (by omega)];exact afM
theorem abu {k:Nat} {l:List jf} {a i:Nat} {T:Tb} (h:yh T) (ha:a<T.2.length):yh (HZ k l a i T) /\ (HZ k l a i T).2.length=T.2.length /\ (HZ k l a i T).1=T.1 /\
  ∀ b,((HZ k l a i T).2.getD b j5).1=(T.2.getD b j5).1 /\ (b≠a -> (HZ k l a i T).2.getD b j5=T.2.getD b j5):=by
 unfold HZ
 split
 ·refine ⟨U0 h (aoi h a),amG,by unfold KG;split <;> rfl,fun b=>?_⟩
  rw [amF ha]
  split
  ·rename_i q
   refine ⟨?_,fun e=>absurd q.1.symm e⟩
   rw [<- q.1];unfold ag2 zw;split <;> rfl
  ·exact ⟨rfl,fun _=>rfl⟩
 ·exact ⟨h,rfl,rfl,fun b=>⟨rfl,fun _=>rfl⟩⟩
theorem ME {R:Type} {k:Nat} (hk:1000 <= k) {l:List jf} (hl:l.length <= 900) {L:Nat -> jd -> Int -> Option R} {fin:jd -> Option R} {c:List Nat} (hc:c.length <= 100)
  (hs:∀ j K (i:Nat),i<c.length -> L (j+1) K (i:Int)=ix (p9 c) (i:Int) (ix K.2.2.2.2.2.2.2.2.1.2 (rd (p9 c) (i:Int) 0) (bif decide ((i:Int)<(l.length:Int)) then ix l (i:Int) (bif !(fC HT (rd K.2.2.2.2.2.2.2.2.1.2 (rd (p9 c) (i:Int) 0) bf).2.2.1 (rd l (i:Int) (0,0))) then ix l (i:Int) ((JG k K.2.2.2.2.2.2.2.2.1 (rd (p9 c) (i:Int) 0) ((rd K.2.2.2.2.2.2.2.2.1.2 (rd (p9 c) (i:Int) 0) bf).1,(rd K.2.2.2.2.2.2.2.2.1.2 (rd (p9 c) (i:Int) 0) bf).2.1,rd l (i:Int) (0,0),(rd K.2.2.2.2.2.2.2.2.1.2 (rd (p9 c) (i:Int) 0) bf).2.2.2)).bind fun q=>L j (w8 K q.1.1) (IntKind.i64.wrap ((i:Int)+1))) else L j K (IntKind.i64.wrap ((i:Int)+1))) else L j K (IntKind.i64.wrap ((i:Int)+1)))))
  (he:∀ j K,L (j+1) K (c.length:Int)=fin K):∀ (m i j:Nat) (K:jd),i+m=c.length -> m<j -> yh K.2.2.2.2.2.2.2.2.1 -> (∀ a∈c,a<K.2.2.2.2.2.2.2.2.1.2.length) ->
  L j K (i:Int)=fin (w8 K (K4 k l (c.drop i) i K.2.2.2.2.2.2.2.2.1))
 | 0,i,j,K,hi,hj,hT,ha=>by
  obtain ⟨j,rfl⟩:∃ i,j=i+1:=⟨j - 1,by omega⟩
  rw [show i=c.length by omega,he,List.drop_length];rfl
 | m+1,i,j,K,hi,hj,hT,ha=>by
  obtain ⟨j,rfl⟩:∃ i,j=i+1:=⟨j - 1,by omega⟩
  have hi':i<c.length:=by omega
  have hac:=ha _ (jm (z:=0) hi')
  have h1:=abu (k:=k) (l:=l) (i:=i) hT hac
  have ih:=ME hk hl hc hs he m (i+1) j (w8 K (HZ k l (c.getD i 0) i K.2.2.2.2.2.2.2.2.1)) (by omega) (by omega) h1.1 (fun a h=>by show a<(HZ _ _ _ _ _).2.length;rw [h1.2.1];exact ha a h)
  rw [hs j K i hi',Qo (by rw [qx];exact hi'),af3 hi',Qo hac,Mi (by omega),Qp,drop_cons 0 hi',K4]
  refine Eq.trans ?_ ih
  unfold HZ
  by_cases q:i<l.length
  ·rw [Sc (by omega),Qo q,Qo q,Qp]
   by_cases q2:(K.2.2.2.2.2.2.2.2.1.2.getD (c.getD i 0) j5).2.2.1=l.getD i s0
   ·rw [if_neg (fun h=>h.2 q2),show fC HT (K.2.2.2.2.2.2.2.2.1.2.getD (c.getD i 0) bf).2.2.1 (l.getD i (0,0))=true from (M6 _ _).2 q2]
    rfl
   ·rw [if_pos ⟨q,q2⟩,show fC HT (K.2.2.2.2.2.2.2.2.1.2.getD (c.getD i 0) bf).2.2.1 (l.getD i (0,0))=false from by rw [Bool.eq_false_iff];exact fun h=>q2 ((M6 _ _).1 h)]
    simp only [Bool.not_false,cond_true]
    have e:=JA hk (i:=((c.getD i 0:Nat):Int)) (x:=setSm (K.2.2.2.2.2.2.2.2.1.2.getD (c.getD i 0) j5) (l.getD i s0)) hT (aoi hT _)
    refine (congrArg (fun x=>Option.bind x _) e).trans ?_
    rfl
  ·rw [Sd (by omega),if_neg (fun h=>q h.1)];rfl
theorem apv {k:Nat} (hk:1000 <= k) {K:jd} (hT:yh K.2.2.2.2.2.2.2.2.1) {l:List jf} (hl:l.length <= 900):S61 k K l=some ((),MR (EI k K l),()):=by
 have hn:=wo K.2.2.2.2.2.2.2.2.1
 have h3:=hT.1.2.2
 unfold S61
 rw [MB hk h3,Option.bind_some]
 exact ME hk hl (c:=jr K.2.2.2.2.2.2.2.2.1) (L:=fun j K' i=>VB k j K' l (p9 (jr K.2.2.2.2.2.2.2.2.1)) ((p9 (jr K.2.2.2.2.2.2.2.2.1)).length:Int) i) (fin:=fun K'=>some ((),MR K',())) (by omega)
  (fun j K' i hi=>by
   show VB k (j+1) K' l _ _ (i:Int)=_
   rw [ad6,ad5,Sc (by rw [qx];omega)])
  (fun j K'=>by
   show VB k (j+1) K' l _ _ _=_
   rw [ad6,ad5,Sd (by rw [qx];omega)])
  (jr K.2.2.2.2.2.2.2.2.1).length 0 k K (by omega) (by omega) hT (fun a h=>(EH.1 h).1)
theorem am0 {k:Nat} (hk:1000 <= k) {u:jd×List je} (hT:yh u.1.2.2.2.2.2.2.2.2.1) {l:List jf} (hl:l.length <= 900):alz k u l=some ((),zq (EI k u.1 l,u.2),()):=by
 obtain ⟨K,ev⟩:=u
 have hn:=wo K.2.2.2.2.2.2.2.2.1
 have h3:K.2.2.2.2.2.2.2.2.1.2.length <= 100:=hT.1.2.2
 unfold alz
 rw [MB hk h3,Option.bind_some]
 exact ME hk hl (c:=jr K.2.2.2.2.2.2.2.2.1) (L:=fun j K' i=>NK k j (K',ev) l (p9 (jr K.2.2.2.2.2.2.2.2.1)) ((p9 (jr K.2.2.2.2.2.2.2.2.1)).length:Int) i) (fin:=fun K'=>some ((),zq (K',ev),())) (by omega)
  (fun j K' i hi=>by
   show NK k (j+1) (K',ev) l _ _ (i:Int)=_
   rw [aaH,Y0,Sc (by rw [qx];omega)])
  (fun j K'=>by
   show NK k (j+1) (K',ev) l _ _ _=_
   rw [aaH,Y0,Sd (by rw [qx];omega)])
  (jr K.2.2.2.2.2.2.2.2.1).length 0 k K (by omega) (by omega) hT (fun a h=>(EH.1 h).1)
theorem YH {k:Nat} (hk:1000 <= k) {u:jd×List je} (hT:yh u.1.2.2.2.2.2.2.2.2.1) {l:List jf} (hl:l.length <= 900):agM k u l=some ((),zq (EI k u.1 l,u.2),()):=by
 obtain ⟨K,ev⟩:=u
 have hn:=wo K.2.2.2.2.2.2.2.2.1
 have h3:K.2.2.2.2.2.2.2.2.1.2.length <= 100:=hT.1.2.2
 unfold agM
 rw [MB hk h3,Option.bind_some]
 exact ME hk hl (c:=jr K.2.2.2.2.2.2.2.2.1) (L:=fun j K' i=>NR k j (K',ev) l (p9 (jr K.2.2.2.2.2.2.2.2.1)) ((p9 (jr K.2.2.2.2.2.2.2.2.1)).length:Int) i) (fin:=fun K'=>some ((),zq (K',ev),())) (by omega)
  (fun j K' i hi=>by
   show NR k (j+1) (K',ev) l _ _ (i:Int)=_
   rw [aaO,Y8,Sc (by rw [qx];omega)])
  (fun j K'=>by
   show NR k (j+1) (K',ev) l _ _ _=_
   rw [aaO,Y8,Sd (by rw [qx];omega)])
  (jr K.2.2.2.2.2.2.2.2.1).length 0 k K (by omega) (by omega) hT (fun a h=>(EH.1 h).1)
abbrev jg:Type:=jd×List je
def j4 (u:jg) (e:je):jg:=(u.1,u.2++[(u.1.1,e.2)])
theorem RF {k:Nat} {u:jg} (he:u.2.length <= 1000000) (e:je):ace k u e=some ((),zq (j4 u e),()):=by
 unfold ace;rw [Rz (by simp only [List.length_cons,List.length_nil];omega)];rfl
theorem CV {k:Nat} {u:jg} (he:u.2.length <= 1000000) (e:je):JX k u e=some ((),zq (j4 u e),()):=by
 unfold JX;rw [Rz (by simp only [List.length_cons,List.length_nil];omega)];rfl
def holdsV (l:List jf) (s t:Int):Bool:=decide (0 <= s)&&(decide (s<(l.length:Int))&&(decide (0 <= t)&&(rd l s s0).2==t+1))
theorem YI {k:Nat} {l:List jf} {s t:Int} (ht:t <= 1000):agH k l s t=some ((holdsV l s t,()),()):=by
 unfold agH ajd holdsV
 by_cases h1:s≥0
 ·rw [Sc h1,Option.bind_some,decide_eq_true (show 0 <= s from h1)]
  by_cases h2:s<(l.length:Int)
  ·rw [decide_eq_true h2]
   by_cases h3:t≥0
   ·simp only [cond_true]
    rw [Sc h3,Lj h1 h2,decide_eq_true (show 0 <= t from h3),Uu (by omega) (by omega)];rfl
   ·simp only [cond_true]
    rw [Sd h3,decide_eq_false (show ¬ 0 <= t from h3)];rfl
  ·rw [decide_eq_false h2];rfl
 ·rw [Sd h1,Option.bind_some,decide_eq_false (show ¬ 0 <= s from h1)];rfl
def acG (t:Int) (s:jf):jf:=bif decide (0 <= t)&&s.2==t+1 then (s.1,0) else s
def MF (l:List jf) (t:Int):List jf:=l.map (acG t)
theorem MG {α:Type} {f:α -> α} {l:List α} {i:Nat} (z:α) (h:i<l.length):((l.take i).map f++l.drop i).set i (f (l.getD i z))=(l.take (i+1)).map f++l.drop (i+1):=by
 have e:i - ((l.take i).map f).length=0:=by simp;omega
 rw [List.set_append_right _ _ (by simp;omega),e,drop_cons z h,List.set_cons_zero,List.take_succ_eq_append_getElem h,List.map_append,List.append_assoc,getD_in h]
 rfl
theorem RG {α:Type} {f:α -> α} {l:List α} {i:Nat} (z:α) (h:i<l.length):((l.take i).map f++l.drop i).getD i z=l.getD i z:=by
 have e:i - ((l.take i).map f).length=0:=by simp;omega
 rw [lg (by simp;omega),e,drop_cons z h]
 rfl
theorem YJ {α:Type} {f:α -> α} {l:List α} {i:Nat} (h:i <= l.length):((l.take i).map f++l.drop i).length=l.length:=by simp;omega
theorem UF {α:Type} {f:α -> α} {l:List α} {i:Nat} (z:α) (h:i<l.length) (e:f (l.getD i z)=l.getD i z):(l.take i).map f++l.drop i=(l.take (i+1)).map f++l.drop (i+1):=by
 rw [<- MG z h,e]
 have:=HY (l:=(l.take i).map f++l.drop i) (n:=i) (z:=z)
 rw [RG z h] at this;exact this.symm
theorem af4 {k:Nat} (hk:1000 <= k) {l:List jf} (hl:l.length <= 900) {t:Int} (ht:t <= 1000):agI k l t=some ((MF l t,()),()):=by
 have key:∀ (m i j:Nat),i+m=l.length -> m<j -> XZ k j l t ((l.take i).map (acG t)++l.drop i) (l.length:Int) (i:Int)=some ((MF l t,()),()):=by
  intro m
  induction m with
  | zero =>
   intro i j hi hj
   obtain ⟨j,rfl⟩:∃ i,j=i+1:=⟨j - 1,by omega⟩
   rw [aaG,XY,Sd (by omega),drop_nil (by omega),List.take_of_length_le (by omega),List.append_nil];rfl
  | succ m ih =>
   intro i j hi hj
   obtain ⟨j,rfl⟩:∃ i,j=i+1:=⟨j - 1,by omega⟩
   have hi':i<l.length:=by omega
   have ih:=ih (i+1) j (by omega) (by omega)
   have hv:holdsV l (i:Int) t=(decide (0 <= t)&&(l.getD i s0).2==t+1):=by
    unfold holdsV
    rw [decide_eq_true (show (0:Int) <= (i:Int) by omega),decide_eq_true (show (i:Int)<(l.length:Int) by omega),Qp];rfl
   rw [aaG,XY,Sc (by omega),YI ht,Option.bind_some,Mi (by omega),hv]
   simp only
   cases hb:decide (0 <= t)&&(l.getD i s0).2==t+1 with
   | true =>
    rw [cond_true,Qo (by rw [YJ (by omega)];exact hi'),Mj,Qp,RG s0 hi',show ((l.getD i s0).1,(0:Int))=acG t (l.getD i s0) by unfold acG;rw [hb];rfl,MG s0 hi']
    exact ih
   | false =>
    rw [cond_false,UF s0 hi' (by unfold acG;rw [hb];rfl)]
    exact ih
 unfold agI
 rw [YE hl,Option.bind_some]
 exact key l.length 0 k (by omega) (by omega)
theorem YK (l:List jf) (t:Int):(MF l t).length=l.length:=List.length_map _
def zl (rows:List Int) (off:List Bool) (n:Nat):(List Int×List Bool)×Bool×Bool :=
 bif (IntKind.i64.wrap (rows.getD n 0+1) != 2)||off.getD n false then ((rows.set n (IntKind.i64.wrap (rows.getD n 0+1)),off),false,false)
 else ((rows.set n (IntKind.i64.wrap (rows.getD n 0+1)),off.set n true),true,!(off.set n true).any (fun b=>b==false))
theorem am1 {k:Nat} (hk:1000 <= k) {w:List Int×List Bool} {n:Nat} (h1:n<w.1.length) (h2:n<w.2.length) (h3:w.1.length <= 900) (h4:w.2.length <= 900) :
  alA k w (n:Int)=some (((zl w.1 w.2 n).1,(zl w.1 w.2 n).2.1,(zl w.1 w.2 n).2.2,()),()):=by
 obtain ⟨rows,off⟩:=w
 simp only at h1 h2 h3 h4
 unfold alA agD aoY
 rw [UC h3,Option.bind_some,YD h4,Option.bind_some,Option.bind_some,Sc (by omega),Option.bind_some]
 simp only
 rw [decide_eq_true (show (n:Int)<mn (rows.length:Int) (off.length:Int) by rw [Sg];omega)]
 simp only [Bool.not_true,cond_false]
 have hs:∀ v:Int,n<(rows.set n v).length:=fun v=>by rw [List.length_set];exact h1
 rw [Qo h1,Qo h1,Qp,Mj,Qo (hs _),Qp,mh,if_pos ⟨rfl,h1⟩,Qo h2,Qp]
 unfold zl
 cases hb:(IntKind.i64.wrap (rows.getD n 0+1) != 2) with
 | true=>rfl
 | false =>
  rw [Bool.false_or,cond_false]
  cases off.getD n false with
  | true=>rfl
  | false =>
   rw [cond_false,cond_false,Qo h2,Mj]
   unfold aoZ
   rw [afL hk (by rw [List.length_set];exact h4)]
   simp only [Option.bind_some,DR]
theorem ag9 (rows:List Int) (off:List Bool) (n:Nat):(zl rows off n).1.1.length=rows.length /\ (zl rows off n).1.2.length=off.length:=by
 unfold zl
 cases (IntKind.i64.wrap (rows.getD n 0+1) != 2)||off.getD n false <;> simp
def abv (now t:Int) (b:Bool×Bool):List je:=[(now,5,t,0,0,0)]++((bif b.1 then [(now,9,t,0,0,0)] else [])++(bif b.2 then [(now,10,0,0,0,0)] else []))
theorem aha (now t:Int) (b:Bool×Bool):(abv now t b).length <= 3:=by
 obtain ⟨a,b⟩:=b
 unfold abv
 cases a <;> cases b <;> simp
noncomputable def EJ (k:Nat) (u:jg) (j:jc):jg :=
 let K:=EI k u.1 (MF (j6 u.1.2.2.2.2.2.2.2.2.1) j.1)
 let m:=zl u.1.2.2.2.2.2.2.2.2.2.1 u.1.2.2.2.2.2.2.2.2.2.2 j.1.toNat
 ((bif m.2.2 then w5 (z9 K m.1) true else z9 K m.1),u.2++abv u.1.1 j.1 m.2)
theorem am2 {k:Nat} (hk:1000 <= k) {u:jg} {j:jc} {n:Nat} (hn:j.1=(n:Int)) (he:u.2.length <= 900000) (hT:yh u.1.2.2.2.2.2.2.2.2.1) (h1:n<u.1.2.2.2.2.2.2.2.2.2.1.length) (h2:n<u.1.2.2.2.2.2.2.2.2.2.2.length) (h3:u.1.2.2.2.2.2.2.2.2.2.1.length <= 900) (h4:u.1.2.2.2.2.2.2.2.2.2.2.length <= 900) :
  alD k u j=some ((),zq (EJ k u j),()):=by
 have hle:=hT.1.2.2
 have hsl:=wo u.1.2.2.2.2.2.2.2.2.1
 have hll:=JD u.1.2.2.2.2.2.2.2.2.1
 unfold alD
 rw [RF (by omega),Option.bind_some]
 simp only [YW]
 have e1:S48 k (j4 u (0,5,j.1,0,0,0)).1=_:=OH hk hle
 rw [e1,Option.bind_some]
 simp only
 have e2:agI k (j6 (j4 u (0,5,j.1,0,0,0)).1.2.2.2.2.2.2.2.2.1) j.1=_:=af4 hk (by show (j6 u.1.2.2.2.2.2.2.2.2.1).length <= 900;omega) (by omega)
 rw [e2,Option.bind_some]
 simp only
 rw [am0 hk (u:=j4 u (0,5,j.1,0,0,0)) hT (by rw [YK];show (j6 u.1.2.2.2.2.2.2.2.2.1).length <= 900;omega),Option.bind_some]
 simp only [YW]
 have e3:=am1 (w:=u.1.2.2.2.2.2.2.2.2.2) hk h1 h2 h3 h4
 rw [<- hn] at e3
 refine (congrArg (fun x=>Option.bind x _) e3).trans ?_
 rw [Option.bind_some]
 have fin:∀ (K:jd) (ev:List je) (b:Bool),ev.length <= 999000 -> SX k (K,ev) b=some ((),zq ((bif b then w5 K true else K),ev++(bif b then [(K.1,10,0,0,0,0)] else [])),()):=fun K ev b hb=>by
  unfold SX
  cases b with
  | false=>simp
  | true =>
   rw [cond_true,RF (by show ev.length <= _;omega),Option.bind_some]
   simp only [YW]
   rfl
 unfold EJ abv
 rw [show j.1.toNat=n by omega]
 simp only
 cases (zl u.1.2.2.2.2.2.2.2.2.2.1 u.1.2.2.2.2.2.2.2.2.2.2 n).2.1 with
 | true =>
  rw [cond_true,RF (by show (u.2++[_]).length <= _;simp;omega),Option.bind_some]
  simp only [YW]
  unfold j4
  rw [fin _ _ _ (by simp;omega)]
  simp only [cond_true,List.append_assoc]
  rfl
 | false =>
  rw [cond_false]
  unfold j4
  rw [fin _ _ _ (by simp;omega)]
  simp only [cond_false,List.append_assoc,List.nil_append]
  rfl
noncomputable def BO (k:Nat) (s:jg×List jc) (j:jc):jg×List jc :=
 bif IntKind.i64.wrap (s.1.1.1 - j.2.1) != (s.1.1.2.2.1.getD j.1.toNat bg).2.2.1 then (s.1,s.2++[j])
 else bif j.2.2.2.1==2 then (j4 s.1 (0,13,j.1,0,0,0),s.2) else (EJ k s.1 j,s.2)
def chg (K:jd) (h:Bool) (T:Tb) (w:List Int×List Bool):jd:=w5 (w8 (z9 K w) T) h
def UI (K:jd) (u:jg):Prop:=∃ h T w,u.1=chg K h T w /\ yh T /\ T.2.length=K.2.2.2.2.2.2.2.2.1.2.length /\ jr T=jr K.2.2.2.2.2.2.2.2.1 /\ w.1.length=K.2.2.2.2.2.2.2.2.2.1.length /\ w.2.length=K.2.2.2.2.2.2.2.2.2.2.length
theorem abw {k:Nat} {l:List jf}:∀ (c:List Nat) (i:Nat) (T:Tb),yh T -> (∀ a∈c,a<T.2.length) -> yh (K4 k l c i T) /\ (K4 k l c i T).2.length=T.2.length /\ (K4 k l c i T).1=T.1 /\
  ∀ b,((K4 k l c i T).2.getD b j5).1=(T.2.getD b j5).1 /\ (b ∉ c -> (K4 k l c i T).2.getD b j5=T.2.getD b j5)
 | [],i,T,h,ha=>⟨h,rfl,rfl,fun b=>⟨rfl,fun _=>rfl⟩⟩
 | a::c,i,T,h,ha=>by
  obtain ⟨h1,h2,h3,h4⟩:=abu (k:=k) (l:=l) (i:=i) h (ha a (by simp))
  obtain ⟨g1,g2,g3,g4⟩:=abw (k:=k) (l:=l) c (i+1) (HZ k l a i T) h1 (fun b hb=>by rw [h2];exact ha b (by simp [hb]))
  rw [K4]
  refine ⟨g1,g2.trans h2,g3.trans h3,fun b=>⟨(g4 b).1.trans (h4 b).1,fun hb=>?_⟩⟩
  rw [List.mem_cons,not_or] at hb
  exact ((g4 b).2 hb.2).trans ((h4 b).2 hb.1)
theorem UG {k:Nat} {T:Tb} (h:yh T) (l:List jf):yh (MC k T l) /\ (MC k T l).2.length=T.2.length /\ jr (MC k T l)=jr T /\ (MC k T l).1=T.1 /\
  ∀ b,((MC k T l).2.getD b j5).1=(T.2.getD b j5).1 /\ (b ∉ jr T -> (MC k T l).2.getD b j5=T.2.getD b j5):=by
 obtain ⟨h1,h2,h3,h4⟩:=abw (k:=k) (l:=l) (jr T) 0 T h (fun a ha=>(EH.1 ha).1)
 exact ⟨h1,h2,Q0 h2 (fun i _=>(h4 i).1),h3,h4⟩
theorem UI.start {K:jd} (h:yh K.2.2.2.2.2.2.2.2.1) (ev:List je):UI K (K,ev):=⟨_,_,_,rfl,h,rfl,rfl,rfl,rfl⟩
theorem UI.miss {K:jd} {u:jg} (h:UI K u) {k:Nat} (j:jc):UI K (EJ k u j):=by
 obtain ⟨a,T,w,e,h1,h2,h3,h4,h5⟩:=h
 obtain ⟨ku,ev⟩:=u
 simp only at e
 subst e
 obtain ⟨g1,g2,g3,g4,_⟩:=UG (k:=k) h1 (MF (j6 T) j.1)
 have hw:=ag9 w.1 w.2 j.1.toNat
 unfold EJ
 simp only
 show UI K ((bif (zl w.1 w.2 j.1.toNat).2.2 then _ else _),_)
 cases (zl w.1 w.2 j.1.toNat).2.2 with
 | true=>exact ⟨true,MC k T (MF (j6 T) j.1),(zl w.1 w.2 j.1.toNat).1,rfl,g1,g2.trans h2,g3.trans h3,hw.1.trans h4,hw.2.trans h5⟩
 | false=>exact ⟨a,MC k T (MF (j6 T) j.1),(zl w.1 w.2 j.1.toNat).1,rfl,g1,g2.trans h2,g3.trans h3,hw.1.trans h4,hw.2.trans h5⟩
theorem UI.tell {K:jd} {u:jg} (h:UI K u) (e:je):UI K (j4 u e):=h
theorem UI.end_ {K:jd} {s:jg×List jc} (h:UI K s.1) {k:Nat} (j:jc):UI K (BO k s j).1 /\ (BO k s j).1.2.length <= s.1.2.length+3 /\ (BO k s j).2.length <= s.2.length+1:=by
 unfold BO
 cases IntKind.i64.wrap (s.1.1.1 - j.2.1) != (s.1.1.2.2.1.getD j.1.toNat bg).2.2.1 with
 | true=>exact ⟨h,by simp,by simp⟩
 | false =>
  rw [cond_false]
  cases j.2.2.2.1==2 with
  | true=>exact ⟨h.tell _,by simp [j4],by simp⟩
  | false =>
   refine ⟨h.miss j,?_,by simp⟩
   simp only [cond_false]
   unfold EJ
   have:=aha s.1.1.1 j.1 (zl s.1.1.2.2.2.2.2.2.2.2.2.1 s.1.1.2.2.2.2.2.2.2.2.2.2 j.1.toNat).2
   simp only [List.length_append];omega
noncomputable def qb (k:Nat) (u:jg):jg:=let s:=u.1.2.2.2.2.2.2.2.1.foldl (BO k) (u,[]);(w7 s.1.1 s.2,s.1.2)
structure JI (K:jd):Prop where
 ks:KS K
 bnd:K.2.2.2.1.length=K.2.2.1.length
 row:K.2.2.2.2.2.2.2.2.2.1.length=K.2.2.1.length
 of:K.2.2.2.2.2.2.2.2.2.2.length=K.2.2.1.length
 task:∀ j∈K.2.2.2.2.2.2.2.1,0 <= j.1 /\ j.1<(K.2.2.1.length:Int)
theorem apw {k:Nat} (hk:1000 <= k) {K:jd} (h:JI K):S78 k (K,[])=some ((),zq (qb k (K,[])),()):=by
 have hjl:=h.ks.jobs
 have htl:=h.ks.tasks.1
 have key:∀ (m i j:Nat) (s:jg×List jc),i+m=K.2.2.2.2.2.2.2.1.length -> m<j -> UI K s.1 -> s.1.2.length <= 3 * i -> s.2.length <= i ->
   aeE k j s.1 s.2 K.2.2.2.2.2.2.2.1 (K.2.2.2.2.2.2.2.1.length:Int) (i:Int)=some ((),zq (w7 ((K.2.2.2.2.2.2.2.1.drop i).foldl (BO k) s).1.1 ((K.2.2.2.2.2.2.2.1.drop i).foldl (BO k) s).2,((K.2.2.2.2.2.2.2.1.drop i).foldl (BO k) s).1.2),()):=by
  intro m
  induction m with
  | zero =>
   intro i j s hi hj hu h1 h2
   obtain ⟨j,rfl⟩:∃ i,j=i+1:=⟨j - 1,by omega⟩
   rw [aeF,aeD,Sd (by omega),drop_nil (by omega)];rfl
  | succ m ih =>
   intro i j s hi hj hu h1 h2
   obtain ⟨j,rfl⟩:∃ i,j=i+1:=⟨j - 1,by omega⟩
   have hi':i<K.2.2.2.2.2.2.2.1.length:=by omega
   have hb:=h.task _ (jm (z:=ay) hi')
   obtain ⟨g1,g2,g3⟩:=hu.end_ (k:=k) (K.2.2.2.2.2.2.2.1.getD i ay)
   have ih:=ih (i+1) j (BO k s (K.2.2.2.2.2.2.2.1.getD i ay)) (by omega) (by omega) g1 (by omega) (by omega)
   obtain ⟨a,T,w,e,q1,q2,q3,q4,q5⟩:=hu
   have ets:s.1.1.2.2.1=K.2.2.1:=by rw [e];rfl
   obtain ⟨n,hn⟩:∃ n:Nat,(K.2.2.2.2.2.2.2.1.getD i ay).1=(n:Int):=⟨(K.2.2.2.2.2.2.2.1.getD i ay).1.toNat,by omega⟩
   have hb2:n<K.2.2.1.length:=by omega
   rw [aeF,aeD,Sc (by omega),Qo hi',Qp,drop_cons ay hi',List.foldl_cons,Mi (by omega)]
   generalize K.2.2.2.2.2.2.2.1.getD i ay=x at hb ih hn ⊢
   refine Eq.trans ?_ ih
   rw [hn,Qo (by rw [ets];exact hb2),Qp,<- hn]
   unfold BO
   rw [show x.1.toNat=n by omega]
   cases IntKind.i64.wrap (s.1.1.1 - x.2.1) != (s.1.1.2.2.1.getD n bg).2.2.1 with
   | true=>rw [cond_true,cond_true,Rz (by simp only [List.length_cons,List.length_nil];omega)]
   | false =>
    rw [cond_false,cond_false]
    cases x.2.2.2.1==2 with
    | true=>rw [cond_true,cond_true,RF (by omega),Option.bind_some];rfl
    | false =>
     have hr:=h.row
     have ho:=h.of
     rw [cond_false,cond_false,am2 hk hn (by omega) (by rw [e];exact q1) (by rw [e];show n<w.1.length;omega) (by rw [e];show n<w.2.length;omega) (by rw [e];show w.1.length <= 900;omega) (by rw [e];show w.2.length <= 900;omega),Option.bind_some];rfl
 unfold S78
 exact key K.2.2.2.2.2.2.2.1.length 0 k ((K,[]),[]) (by omega) (by omega) (UI.start h.ks.tab []) (by simp) (by simp)
def uq (now:Int) (bs:List WB) (j:jc):jc :=
 bif j.2.2.2.1 != 2 then (bif decide (IntKind.i64.wrap (now - j.2.1)≥(bs.getD j.1.toNat bd0).2.2.2.2) then z7 j true else j) else j
def BH (u:jg):jg:=(w7 u.1 (u.1.2.2.2.2.2.2.2.1.map (uq u.1.1 u.1.2.2.2.1)),u.2)
theorem apx {k:Nat} (hk:1000 <= k) {u:jg} (hl:u.1.2.2.2.2.2.2.2.1.length <= 800) (hjs:∀ j∈u.1.2.2.2.2.2.2.2.1,0 <= j.1 /\ j.1<(u.1.2.2.2.1.length:Int)):S79 k u=some ((),zq (BH u),()):=by
 obtain ⟨⟨now,ap,ts,bs,ru,ha,hi,js,T,w⟩,ev⟩:=u
 simp only at hl hjs
 have key:∀ (m i j:Nat),i+m=js.length -> m<j ->
   aeH k j ((now,ap,ts,bs,ru,ha,hi,(js.take i).map (uq now bs)++js.drop i,T,w),ev) (js.length:Int) (i:Int)=some ((),zq ((now,ap,ts,bs,ru,ha,hi,js.map (uq now bs),T,w),ev),()):=by
  intro m
  induction m with
  | zero =>
   intro i j hi hj
   obtain ⟨j,rfl⟩:∃ i,j=i+1:=⟨j - 1,by omega⟩
   rw [aeI,aeG,Sd (by omega),drop_nil (by omega),List.take_of_length_le (by omega),List.append_nil]
  | succ m ih =>
   intro i j hi2 hj
   obtain ⟨j,rfl⟩:∃ i,j=i+1:=⟨j - 1,by omega⟩
   have hi':i<js.length:=by omega
   have hb:=hjs _ (jm (z:=ay) hi')
   have ih:=ih (i+1) j (by omega) (by omega)
   obtain ⟨n,hn⟩:∃ n:Nat,(js.getD i ay).1=(n:Int):=⟨(js.getD i ay).1.toNat,by omega⟩
   have hlen:i<((js.take i).map (uq now bs)++js.drop i).length:=by rw [YJ (by omega)];exact hi'
   rw [aeI,aeG,Sc (by omega)]
   simp only
   rw [Qo hlen,Qp,RG ay hi',hn,Qo (by omega),Qp,Mi (by omega)]
   cases hp:(js.getD i ay).2.2.2.1 != 2 with
   | false=>rw [cond_false,UF ay hi' (by unfold uq;rw [hp];rfl)];exact ih
   | true =>
    rw [cond_true]
    by_cases hq:IntKind.i64.wrap (now - (js.getD i ay).2.1)≥(bs.getD n bd0).2.2.2.2
    ·rw [Sc hq,Qo hlen,Mj,show z7 (js.getD i ay) true=uq now bs (js.getD i ay) by unfold uq;rw [hp,cond_true,Sc (by rw [hn];exact hq)],MG ay hi'];exact ih
    ·rw [Sd hq,UF ay hi' (by unfold uq;rw [hp,cond_true,Sd (by rw [hn];exact hq)])];exact ih
 unfold S79
 exact key js.length 0 k (by omega) (by omega)
noncomputable def um (k:Nat) (T:Tb):List Th×List Int×List (List Int):=YX k T.2 T.2.length 0 (T.2,[],[])
def MH (u:jg) (c:Int):jg:=j4 u (0,12,0,c,0,15)
def abx (u:jg) (a:Int) (w:List Int):jg :=
 let v:=w.foldl MH (j4 u (0,11,0,a,0,0))
 let s:=qm (fun x=>a==x) (p9 (jr u.1.2.2.2.2.2.2.2.2.1))
 bif decide (s≥0) then (w7 v.1 (v.1.2.2.2.2.2.2.2.1.map fun j=>zk j s),v.2) else v
def KO:List Int -> List (List Int) -> jg -> jg
 | a::l,w,u=>KO l w.tail (abx u a (w.headD []))
 | [],_,u=>u
noncomputable def aby (k:Nat) (u:jg):jg:=KO (um k u.1.2.2.2.2.2.2.2.2.1).2.1 (um k u.1.2.2.2.2.2.2.2.2.1).2.2 (w8 u.1 (u.1.2.2.2.2.2.2.2.2.1.1,(um k u.1.2.2.2.2.2.2.2.2.1).1),u.2)
theorem ahb (w:List Int):∀ u:jg,(w.foldl MH u).1=u.1 /\ (w.foldl MH u).2.length=u.2.length+w.length:=by
 induction w with
 | nil=>intro u;exact ⟨rfl,rfl⟩
 | cons c w ih=>intro u;rw [List.foldl_cons];obtain ⟨a,b⟩:=ih (MH u c);exact ⟨a,by rw [b];simp [MH,j4];omega⟩
theorem WJ {j:jc} (h:JS j) (s:Int):JS (zk j s):=by
 have hl:=List.length_filter_le (fun x=>!(x==s)) j.2.2.2.2.2.2.1
 exact ⟨h.m,h.kept,by have:=h.held;show (DN _ _).length <= 100;unfold DN;omega,fun x hx=>h.pos x (List.mem_filter.1 hx).1⟩
theorem af5 {k:Nat} (hk:1000 <= k) {g3:jg -> List (List Int) -> List Int -> Int -> Int -> Option (Unit×(Int×Int×List iw×List WB×Bool×Bool×Bool×List jc×List Int×List Bool×List Th×List Int×List Bool×List je×Unit)×Unit)} {now ap:Int} {ts:List iw} {bs:List WB} {ru ha hi:Bool} {js:List jc} {T:Tb} {w:List Int×List Bool} {ev:List je} {b:List (List Int)} {s:Int} {e:List Int} {f h:Int} (hl:js.length <= 800) (hj:∀ j∈js,JS j):∀ (m i j:Nat),i+m=js.length -> m<j ->
  Y3 k g3 j ((now,ap,ts,bs,ru,ha,hi,(js.take i).map (fun j=>zk j s)++js.drop i,T,w),ev) b s e f h (js.length:Int) (i:Int)=g3 ((now,ap,ts,bs,ru,ha,hi,js.map (fun j=>zk j s),T,w),ev) b e f (IntKind.i64.wrap (h+1))
 | 0,i,j,hi,hj=>by
  obtain ⟨j,rfl⟩:∃ i,j=i+1:=⟨j - 1,by omega⟩
  rw [aaJ,Y2,Sd (by omega),drop_nil (by omega),List.take_of_length_le (by omega),List.append_nil]
 | m+1,i,j,hi2,hjj=>by
  obtain ⟨j,rfl⟩:∃ i,j=i+1:=⟨j - 1,by omega⟩
  have hi':i<js.length:=by omega
  have hlen:i<((js.take i).map (fun j=>zk j s)++js.drop i).length:=by rw [YJ (by omega)];exact hi'
  have ih:=af5 hk (g3:=g3) (now:=now) (ap:=ap) (ts:=ts) (bs:=bs) (ru:=ru) (ha:=ha) (hi:=hi) (T:=T) (w:=w) (ev:=ev) (b:=b) (s:=s) (e:=e) (f:=f) (h:=h) hl hj m (i+1) j (by omega) (by omega)
  rw [aaJ,Y2,Sc (by omega)]
  simp only
  rw [Qo hlen,Qp,RG ay hi',YG hk (hj _ (jm hi')),Option.bind_some,Qo hlen,Mj,Mi (by omega)]
  simp only
  rw [MG (f:=fun j=>zk j s) ay hi']
  exact ih
theorem aku {k:Nat} (hk:1000 <= k) {l:List Nat} (h:l.length <= 900) (v:Int):ab9 k (p9 l) v=some ((qm (fun x=>v==x) (p9 l),()),()):=by
 have hl:=qx l
 unfold ab9
 refine sw (fun j i=>ES k j (p9 l) v ((p9 l).length:Int) i) (p9 l) 0 _ (fun j i hi=>?_) (fun j=>?_) k (by omega)
 ·show ES k (j+1) (p9 l) v ((p9 l).length:Int) (i:Int)=_
  rw [LH,NG,Sc (by omega),Qo hi,Mi (by omega),Qp]
 ·show ES k (j+1) (p9 l) v ((p9 l).length:Int) ((p9 l).length:Int)=_
  rw [LH,NG,Sd (by omega)]
theorem af6 {k:Nat} (hk:1000 <= k) {g3:jg -> List (List Int) -> List Int -> Int -> Int -> Option (Unit×(Int×Int×List iw×List WB×Bool×Bool×Bool×List jc×List Int×List Bool×List Th×List Int×List Bool×List je×Unit)×Unit)} {K:jd} {b:List (List Int)} {a:Int} {e:List Int} {f h:Int} {w:List Int} (hT:K.2.2.2.2.2.2.2.2.1.2.length <= 100) (hl:K.2.2.2.2.2.2.2.1.length <= 800) (hj:∀ j∈K.2.2.2.2.2.2.2.1,JS j) (hw:w.length <= 900):∀ (m i j:Nat) (ev:List je),i+m=w.length -> m<j -> ev.length <= 990000+i ->
  aeM k g3 j (K,ev) b a e f h w (w.length:Int) (i:Int)=g3 (let v:=(w.drop i).foldl MH (K,ev);let s:=qm (fun x=>a==x) (p9 (jr K.2.2.2.2.2.2.2.2.1));bif decide (s≥0) then (w7 v.1 (v.1.2.2.2.2.2.2.2.1.map fun j=>zk j s),v.2) else v) b e f (IntKind.i64.wrap (h+1))
 | 0,i,j,ev,hi,hjj,he=>by
  obtain ⟨j,rfl⟩:∃ i,j=i+1:=⟨j - 1,by omega⟩
  have hs:=wo K.2.2.2.2.2.2.2.2.1
  rw [aeN,aeL,Sd (by omega),MB hk hT,Option.bind_some,drop_nil (by omega)]
  simp only
  rw [aku hk (by omega),Option.bind_some]
  simp only [List.foldl_nil]
  cases decide (qm (fun x=>a==x) (p9 (jr K.2.2.2.2.2.2.2.2.1))≥0) with
  | false=>rfl
  | true =>
   simp only [cond_true]
   obtain ⟨now,ap,ts,bs,ru,ha,hi,js,T,w⟩:=K
   have hl2:js.length <= 800:=hl
   exact af5 hk hl2 hj js.length 0 k (by omega) (by omega)
 | m+1,i,j,ev,hi,hjj,he=>by
  obtain ⟨j,rfl⟩:∃ i,j=i+1:=⟨j - 1,by omega⟩
  have hi':i<w.length:=by omega
  rw [aeN,aeL,Sc (by omega),Qo hi',CV (by show ev.length <= _;omega),Option.bind_some,Mi (by omega),drop_cons 0 hi',List.foldl_cons]
  simp only [YW]
  exact af6 hk hT hl hj hw m (i+1) j (ev++[_]) (by omega) (by omega) (by simp only [List.length_append,List.length_cons,List.length_nil];omega)
theorem af7 {k:Nat} {l:List Th} (hl:∀ x∈l,Wo x):∀ (m i:Nat) (s:List Th×List Int×List (List Int)),(∀ w∈s.2.2,w.length <= 200) -> i+m=l.length -> ∀ w∈(YX k l m i s).2.2,w.length <= 200
 | 0,_,s,h,_=>h
 | m+1,i,s,h,hi=>by
  rw [YX]
  refine af7 hl m (i+1) _ ?_ (by omega)
  split
  ·intro w hw
   rcases List.mem_append.1 hw with q | q
   ·exact h w q
   ·rw [List.mem_singleton] at q
    obtain ⟨_,h2,h3⟩:=hl _ (jm (z:=j5) (show i<l.length by omega))
    rw [q];unfold xq
    rw [List.length_append,List.length_map];omega
  ·exact h
theorem YL {k:Nat} {T:Tb} (h:yh T):yh (T.1,(um k T).1) /\ (um k T).1.length=T.2.length /\ jr (T.1,(um k T).1)=jr T /\ (um k T).2.2.length=(um k T).2.1.length /\ (∀ w∈(um k T).2.2,w.length <= 200) /\ (um k T).2.1.length <= T.2.length /\
  ∀ i,i<T.2.length -> (um k T).1.getD i j5=if trn k (T.2.getD i j5)=true then frT k (T.2.getD i j5) else T.2.getD i j5:=by
 have ha:=apm k T.2
 have hg:∀ i,i<T.2.length -> (um k T).1.getD i j5=if trn k (T.2.getD i j5)=true then frT k (T.2.getD i j5) else T.2.getD i j5:=fun i hi=>by
  split
  ·rename_i q;exact (ha.told i hi q).2.2.1
  ·rename_i q;exact ha.kept i (.inr (by simpa using q))
 have hlen:(um k T).1.length=T.2.length:=ha.len
 have hc:∀ n,KH k T.2 n <= n:=fun n=>by induction n with | zero=>exact Nat.le_refl _ | succ n ih=>rw [KH];split <;> omega
 refine ⟨⟨⟨h.1.1,h.1.2.1,by show (um k T).1.length <= 100;rw [hlen];exact h.1.2.2⟩,fun x hx=>?_⟩,hlen,Q0 hlen (fun i hi=>?_),by unfold um;rw [ha.len1,ha.len2],af7 h.2 _ _ _ (by simp) (by omega),by unfold um;rw [ha.len1];exact hc _,hg⟩
 ·obtain ⟨i,hi,e⟩:=u7 j5 hx
  have hi2:i<T.2.length:=by rw [<- hlen];exact hi
  rw [<- e,show ((T.1,(um k T).1):Tb).2.getD i j5=(um k T).1.getD i j5 from rfl,hg i hi2]
  split
  ·unfold frT zw;exact ⟨by simp,by simp,by simp⟩
  ·exact h.2 _ (jm hi2)
 ·show ((um k T).1.getD i j5).1=_
  rw [hg i hi];split <;> rfl
theorem apy {k:Nat} (hk:1000 <= k) {u:jg} (hT:yh u.1.2.2.2.2.2.2.2.2.1) (hl:u.1.2.2.2.2.2.2.2.1.length <= 800) (hj:∀ j∈u.1.2.2.2.2.2.2.2.1,JS j) (he:u.2.length <= 900000):S80 k u=some ((),zq (aby k u),()):=by
 have hle:=hT.1.2.2
 obtain ⟨a1,a2,a3,a4,a5,a6,_⟩:=YL (k:=k) hT
 have key:∀ (m i j:Nat) (c:List Int) (b:List (List Int)) (v:jg),i+m=c.length -> m<j -> b.length=c.length -> c.length <= 100 -> (∀ w∈b,w.length <= 200) -> v.1.2.2.2.2.2.2.2.2.1.2.length <= 100 -> v.1.2.2.2.2.2.2.2.1.length <= 800 -> (∀ j∈v.1.2.2.2.2.2.2.2.1,JS j) -> v.2.length <= 900000+201 * i ->
   aaK k j v b c (c.length:Int) (i:Int)=some ((),zq (KO (c.drop i) (b.drop i) v),()):=by
  intro m
  induction m with
  | zero =>
   intro i j c b v hi hj hb hc hw h1 h2 h3 h4
   obtain ⟨j,rfl⟩:∃ i,j=i+1:=⟨j - 1,by omega⟩
   rw [aeP,aeO,Sd (by omega),drop_nil (by omega)];rfl
  | succ m ih =>
   intro i j c b v hi hj hb hc hw h1 h2 h3 h4
   obtain ⟨j,rfl⟩:∃ i,j=i+1:=⟨j - 1,by omega⟩
   have hi':i<c.length:=by omega
   have hib:i<b.length:=by omega
   have hwl:=hw _ (jm (z:=[]) hib)
   rw [aeP,aeO,Sc (by omega),Qo hi',CV (by omega),Option.bind_some,Qo hib,Qp,Qp,drop_cons 0 hi',drop_cons [] hib]
   simp only [YW]
   rw [KO]
   have hf:=ahb (b.getD i []) (j4 v (0,11,0,c.getD i 0,0,0))
   have e:=af6 (K:=v.1) (b:=b) (a:=c.getD i 0) (e:=c) (f:=(c.length:Int)) (h:=(i:Int)) (w:=b.getD i []) (g3:=fun a b c e f=>aaK k j a b c e f) hk h1 h2 h3 (by omega) (b.getD i []).length 0 k (v.2++[(v.1.1,11,0,c.getD i 0,0,0)]) (by omega) (by omega) (by simp only [List.length_append,List.length_cons,List.length_nil];omega)
   refine Eq.trans e ?_
   rw [Mi (by omega),List.drop_zero]
   refine ih (i+1) j c b (abx v (c.getD i 0) (b.getD i [])) (by omega) (by omega) hb hc hw ?_ ?_ ?_ ?_
   all_goals unfold abx
   all_goals simp only
   all_goals cases decide (qm (fun x=>c.getD i 0==x) (p9 (jr v.1.2.2.2.2.2.2.2.2.1))≥0)
   all_goals simp only [cond_true,cond_false]
   ·rw [hf.1];exact h1
   ·show ((_:jd).2.2.2.2.2.2.2.2.1.2.length <= 100);rw [hf.1];exact h1
   ·rw [hf.1];exact h2
   ·show ((List.map _ _).length <= 800);rw [List.length_map,hf.1];exact h2
   ·rw [hf.1];exact h3
   ·intro x hx
    obtain ⟨y,hy,rfl⟩:=List.mem_map.1 (show x∈List.map _ _ from hx)
    rw [hf.1] at hy
    exact WJ (h3 y hy) _
   ·rw [hf.2];simp only [j4,List.length_append,List.length_cons,List.length_nil];omega
   ·show (List.foldl MH (j4 v (0,11,0,c.getD i 0,0,0)) (b.getD i [])).2.length <= _
    rw [hf.2];simp only [j4,List.length_append,List.length_cons,List.length_nil];omega
 unfold S80
 rw [amy hk hT,Option.bind_some]
 have:=key (um k u.1.2.2.2.2.2.2.2.2.1).2.1.length 0 k (um k u.1.2.2.2.2.2.2.2.2.1).2.1 (um k u.1.2.2.2.2.2.2.2.2.1).2.2 (w8 u.1 (u.1.2.2.2.2.2.2.2.2.1.1,(um k u.1.2.2.2.2.2.2.2.2.1).1),u.2) (by omega) (by omega) a4 (by omega) a5 (by show (um k u.1.2.2.2.2.2.2.2.2.1).1.length <= 100;omega) hl hj (by show u.2.length <= _;omega)
 rw [List.drop_zero,List.drop_zero] at this
 exact this
def pq (l:List I4) (m:gy):I4:=l.getD m.1.toNat i0
def stepM (l:List I4) (m:gy):gy:=((go (pq l m) (m.1.toNat:Int) m.2.1 m.2.2.1.reverse).1,V5 (pq l m) m.2.1,(go (pq l m) (m.1.toNat:Int) m.2.1 m.2.2.1.reverse).2.reverse,(pq l m).1==0)
structure MOK (l:List I4) (m:gy):Prop where
 len:l.length <= 900
 pc:0 <= m.1 /\ m.1.toNat<l.length
 may:l5 (pq l m)=true
 aqO:m.2.2.1.length <= 10
 bound:∀ r∈m.2.2.1,r.2.2 <= 1000
 mem:inM m.2.1
 on:m.2.2.2=false
theorem akv {k:Nat} (hk:1000 <= k) {l:List I4} {m:gy} (h:MOK l m):ajx k l m=some ((stepM l m,pq l m,true,()),()):=by
 obtain ⟨pc,mem,rs,ov⟩:=m
 obtain ⟨n,rfl⟩:∃ n:Nat,pc=(n:Int):=⟨pc.toNat,by have:0 <= pc:=h.pc.1;omega⟩
 have ho:ov=false:=h.on
 subst ho
 have e:=amt hk (l:=l) (n:=n) (mem:=mem) (R:=rs.reverse) h.len (by have:(n:Int).toNat<l.length:=h.pc.2;omega) h.may (by rw [List.length_reverse];have:rs.length <= 10:=h.aqO;omega) (fun r hr=>h.bound r (List.mem_reverse.1 hr)) h.mem
 rw [List.reverse_reverse] at e
 exact e
theorem UH {l:List I4} {m:gy} (h:MOK l m):(stepM l m).2.2.1.length <= m.2.2.1.length+1:=by
 have hg:∀ (R:List gu) (pc:Int),(uh pc R).2.length <= R.length:=fun R=>by
  induction R with
  | nil=>intro pc;simp [uh]
  | cons r R ih =>
   intro pc
   rw [uh]
   by_cases a:r.2.1<pc
   ·rw [if_pos a]
    by_cases b:r.2.2>0
    ·rw [if_pos b];simp
    ·rw [if_neg b];have:=ih pc;simp only [List.length_cons];omega
   ·rw [if_neg a];exact Nat.le_refl _
 have hn:∀ (x:I4) (pc:Int) (mem:Mem) (R:List gu),(gU x pc mem R).2.length <= R.length+1:=fun x pc mem R=>by
  unfold gU;split;· simp
  ·split;· split <;> simp
   ·split <;> simp
 unfold stepM
 rw [List.length_reverse]
 unfold go
 have h1:=hg (gU (pq l m) (m.1.toNat:Int) m.2.1 m.2.2.1.reverse).2 (gU (pq l m) (m.1.toNat:Int) m.2.1 m.2.2.1.reverse).1
 have h2:=hn (pq l m) (m.1.toNat:Int) m.2.1 m.2.2.1.reverse
 rw [List.length_reverse] at h2
 omega
def qj (t:iw) (p:Int):List I4:=bif p==0 then t.2.2.2.1 else bif p==1 then t.2.2.2.2.1 else t.2.2.2.2.2
theorem am3 {k:Nat} {t:iw} (ht:zi t) {j:jc} (hp:0 <= j.2.2.2.1 /\ j.2.2.2.1 <= 2):alN k t j=some ((qj t j.2.2.2.1,()),()):=by
 unfold alN
 obtain ⟨a,b,c,p,r⟩:=j
 have hp':p=0 \/ p=1 \/ p=2:=by have:0 <= p /\ p <= 2:=hp;omega
 rcases hp' with rfl | rfl | rfl
 ·rw [show Us (.int .i64) (.sl _ (.pair (.int .i64) (.pair (.int .i64) (.pair (.int .i64) (.int .i64))))) (0:Int) _ ([]:List I4)=t.2.2.2.1 from rfl,JC ht.1,Option.bind_some];rfl
 ·rw [show Us (.int .i64) (.sl _ (.pair (.int .i64) (.pair (.int .i64) (.pair (.int .i64) (.int .i64))))) (1:Int) _ ([]:List I4)=t.2.2.2.2.1 from rfl,JC ht.2.1,Option.bind_some];rfl
 ·rw [show Us (.int .i64) (.sl _ (.pair (.int .i64) (.pair (.int .i64) (.pair (.int .i64) (.int .i64))))) (2:Int) _ ([]:List I4)=t.2.2.2.2.2 from rfl,JC ht.2.2,Option.bind_some];rfl
theorem RH {k:Nat} {m:gy} (h:m.2.2.1.length <= 900):aaN k m=some ((m,()),()):=by
 unfold aaN
 rw [acE h,Option.bind_some]
theorem YM {k:Nat} {j:jc} (h:JS j):agL k j=some ((j,()),()):=by
 unfold agL
 rw [RH (by have:=h.m;omega),Option.bind_some,RH (by have:=h.kept;omega),Option.bind_some,UC (by have:=h.held;omega),Option.bind_some]
 rfl
def unl (a:Int) (l:List Int):Nat -> List Int
 | 0=>l
 | n+1=>if l.getD n 0=a then l.take n++l.drop (n+1) else unl a l n
theorem YN (a:Int) (l:List Int):∀ n,(∀ x∈unl a l n,x∈l) /\ (unl a l n).length <= l.length /\ ∀ x∈l,x≠a -> x∈unl a l n
 | 0=>⟨fun x h=>h,Nat.le_refl _,fun x h _=>h⟩
 | n+1=>by
  rw [unl]
  split
  ·rename_i q
   refine ⟨fun x h=>?_,by simp only [List.length_append,List.length_take,List.length_drop];omega,fun x h hx=>?_⟩
   ·rcases List.mem_append.1 h with h | h
    ·exact List.mem_of_mem_take h
    ·exact List.mem_of_mem_drop h
   ·obtain ⟨i,hi,e⟩:=List.mem_iff_getElem.1 h
    rw [List.mem_append]
    by_cases h1:i<n
    ·exact .inl (List.mem_iff_getElem.2 ⟨i,by rw [List.length_take];omega,by rw [List.getElem_take];exact e⟩)
    ·by_cases h2:i=n
     ·subst h2;rw [getD_in hi,e] at q;exact absurd q hx
     ·exact .inr (List.mem_iff_getElem.2 ⟨i - (n+1),by rw [List.length_drop];omega,by rw [List.getElem_drop];rw [<- e];congr 1;omega⟩)
  ·exact YN a l n
def I5 (x:I4) (l:List Int):List Int:=bif x.1==9 then l++[x.2.1] else bif x.1==10 then unl x.2.1 l l.length else l
def y5 (t:iw) (j:jc):jc :=
 let x:=pq (qj t j.2.2.2.1) j.2.2.2.2.1
 let m:=stepM (qj t j.2.2.2.1) j.2.2.2.2.1
 (j.1,j.2.1,j.2.2.1,j.2.2.2.1,m,(bif x.1==11 then m else j.2.2.2.2.2.1),I5 x j.2.2.2.2.2.2.1,j.2.2.2.2.2.2.2)
theorem akw {k:Nat} {x:jc} {a b c e:Int} (hl:x.2.2.2.2.2.2.1.length <= 900):∀ (n j:Nat),n<j -> n <= x.2.2.2.2.2.2.1.length -> QV k j x a b c e ((n:Int) - 1)=some ((w6 x (unl b x.2.2.2.2.2.2.1 n),(a,b,c,e),true,()),())
 | 0,j,hj,hn=>by
  obtain ⟨j,rfl⟩:∃ i,j=i+1:=⟨j - 1,by omega⟩
  rw [VI,QT,Sd (by omega),unl];rfl
 | n+1,j,hj,hn=>by
  obtain ⟨j,rfl⟩:∃ i,j=i+1:=⟨j - 1,by omega⟩
  rw [show ((n+1:Nat):Int) - 1=(n:Int) by omega,VI,QT,Sc (by omega),Qo (by omega),Qp,unl]
  by_cases q:x.2.2.2.2.2.2.1.getD n 0=b
  ·rw [if_pos q,show (x.2.2.2.2.2.2.1.getD n 0==b)=true from beq_iff_eq.2 q,cond_true,Mi (by omega)]
   have e1:ao6 k x.2.2.2.2.2.2.1 (n:Int) ((n+1:Nat):Int)=some ((x.2.2.2.2.2.2.1.take n++x.2.2.2.2.2.2.1.drop (n+1),()),()):=by
    unfold ao6 Jk
    refine (if_pos ?_).trans ?_
    ·simp only [Bool.and_eq_true]
     exact ⟨decide_eq_true (by show (0:Int) <= (n:Int);omega),decide_eq_true (by show (n:Int) <= ((n+1:Nat):Int);omega),decide_eq_true (by show ((n+1:Nat):Int) <= (x.2.2.2.2.2.2.1.length:Int);omega)⟩
    ·rfl
   rw [e1,Option.bind_some]
  ·rw [if_neg q,show (x.2.2.2.2.2.2.1.getD n 0==b)=false from beq_eq_false_iff_ne.2 q,cond_false,Uu (by omega) (by omega)]
   exact akw hl n j (by omega) (by omega)
theorem am4 {k:Nat} (hk:1000 <= k) {t:iw} {j:jc} (ht:zi t) (hs:JS j) (hp:0 <= j.2.2.2.1 /\ j.2.2.2.1 <= 2) (h:MOK (qj t j.2.2.2.1) j.2.2.2.2.1) :
  alR k t j=some ((y5 t j,pq (qj t j.2.2.2.1) j.2.2.2.2.1,true,()),()):=by
 have h1:=UH h
 have h2:=h.aqO
 have h3:=hs.held
 unfold alR y5 I5
 rw [YM hs,Option.bind_some,am3 ht hp,Option.bind_some]
 simp only
 rw [akv hk h,Option.bind_some]
 simp only [Bool.not_true,cond_false]
 generalize pq (qj t j.2.2.2.1) j.2.2.2.2.1=x
 generalize stepM (qj t j.2.2.2.1) j.2.2.2.2.1=m at h1
 by_cases e11:x.1=11
 ·rw [show (x.1==11)=true from beq_iff_eq.2 e11,cond_true,RH (by omega),Option.bind_some,beq_eq_false_iff_ne.2 (show x.1≠9 by omega),beq_eq_false_iff_ne.2 (show x.1≠10 by omega)]
  rfl
 ·rw [beq_eq_false_iff_ne.2 e11,cond_false,cond_false]
  by_cases e9:x.1=9
  ·rw [show (x.1==9)=true from beq_iff_eq.2 e9,cond_true,Rz (by simp only [List.length_cons,List.length_nil];omega)]
   rfl
  ·rw [beq_eq_false_iff_ne.2 e9,cond_false,cond_false]
   by_cases e10:x.1=10
   ·rw [show (x.1==10)=true from beq_iff_eq.2 e10,cond_true,Uu (by omega) (by omega)]
    exact akw (x:=w4 j m) (by show j.2.2.2.2.2.2.1.length <= 900;omega) j.2.2.2.2.2.2.1.length k (by omega) (Nat.le_refl _)
   ·rw [beq_eq_false_iff_ne.2 e10,cond_false];rfl
def abz (l:List jf) (s t:Int):List jf:=if 0 <= s /\ s<(l.length:Int) /\ (rd l s s0).2=0 then upd l s ((rd l s s0).1,t+1) else l
def akx (l:List jf) (s t:Int):List jf:=if holdsV l s t=true then upd l s ((rd l s s0).1,0) else l
theorem am5 {k:Nat} {l:List jf} (hl:l.length <= 900) {s t:Int} (ht:0 <= t /\ t <= 1000):∃ b,alS k l s t=some ((abz l s t,b,()),()):=by
 unfold alS ajd abz
 rw [YE hl,Option.bind_some]
 by_cases h1:s≥0
 ·rw [Sc h1,Option.bind_some]
  by_cases h2:s<(l.length:Int)
  ·simp only
   rw [decide_eq_true h2]
   simp only [Bool.not_true,cond_false]
   rw [Lj h1 h2]
   by_cases h3:(rd l s s0).2=0
   ·rw [if_pos ⟨h1,h2,h3⟩,show ((rd l s (0,0)).2 != 0)=false by simpa using h3,cond_false,Lj h1 h2,Uu (by omega) (by omega)]
    exact ⟨true,rfl⟩
   ·rw [if_neg (fun q=>h3 q.2.2),show ((rd l s (0,0)).2 != 0)=true by simpa using h3,cond_true]
    exact ⟨false,rfl⟩
  ·simp only
   rw [decide_eq_false h2,if_neg (fun q=>h2 q.2.1)]
   exact ⟨false,rfl⟩
 ·rw [Sd h1,Option.bind_some,if_neg (fun q=>h1 q.1)]
  exact ⟨false,rfl⟩
theorem am6 {k:Nat} {l:List jf} (hl:l.length <= 900) {s t:Int} (ht:t <= 1000):∃ b,alT k l s t=some ((akx l s t,b,()),()):=by
 unfold alT akx
 rw [YE hl,Option.bind_some,YI ht,Option.bind_some]
 cases h:holdsV l s t with
 | false=>exact ⟨false,rfl⟩
 | true =>
  unfold holdsV at h
  simp only [Bool.and_eq_true,decide_eq_true_eq] at h
  simp only [Bool.not_true,cond_false,if_true]
  rw [Lj h.1 h.2.1]
  exact ⟨true,rfl⟩
theorem ahc (l:List jf) (s t:Int):(abz l s t).length=l.length:=by unfold abz;split <;> simp [upd]
theorem aky (l:List jf) (s t:Int):(akx l s t).length=l.length:=by unfold akx;split <;> simp [upd]
def Vf (a:Int):gy:=(0,(a,0,0,0,0,0,0,0),[],false)
def acH (j:jc):jc:=(j.1,j.2.1,j.2.2.1,2,Vf j.2.2.2.2.1.2.1.1,Vf j.2.2.2.2.1.2.1.1,[],false)
theorem am7 {k:Nat} {j:jc} (h:JS j):alU k j=some ((acH j,()),()):=by
 unfold alU V9
 rw [YM h];rfl
theorem am8 {k:Nat} {w:List Int×List Bool} {n:Nat} (h1:w.1.length <= 900) (h2:w.2.length <= 900) (h:n<w.1.length):ab4 k w (n:Int)=some (((w.1.set n 0,w.2),()),()):=by
 obtain ⟨r,o⟩:=w
 simp only at h1 h2 h
 unfold ab4 agD
 simp only
 rw [UC h1,Option.bind_some,YD h2,Option.bind_some,Option.bind_some,Sc (by omega),Sc (by simp only;omega),Qo h,Mj]
abbrev MI:Type:=Bool×jg×jc
def af8 (u:jg) (n:Nat):jg:=(z9 u.1 (u.1.2.2.2.2.2.2.2.2.2.1.set n 0,u.1.2.2.2.2.2.2.2.2.2.2),u.2)
def sj (u:jg) (j:jc):MI :=
 bif j.2.2.2.1==2 then (true,j4 u (0,4,j.1,0,j.2.2.2.2.1.2.1.1,0),j)
 else ((((u.1.2.2.1.getD j.1.toNat bg).2.2.2.2.2.length:Int)==0),af8 (bif (j.2.2.2.1==0)&&decide (((u.1.2.2.1.getD j.1.toNat bg).2.2.2.2.1.length:Int)>0) then j4 (j4 u (0,3,j.1,0,j.2.2.2.2.1.2.1.1,0)) (0,8,j.1,0,0,0) else j4 u (0,3,j.1,0,j.2.2.2.2.1.2.1.1,0)) j.1.toNat,acH j)
theorem am9 {k:Nat} (hk:1000 <= k) {u:jg} {j:jc} (hj:JS j) (h:0 <= j.1 /\ j.1<(u.1.2.2.1.length:Int)) (hr:u.1.2.2.2.2.2.2.2.2.2.1.length=u.1.2.2.1.length) (ho:u.1.2.2.2.2.2.2.2.2.2.2.length <= 900) (ht:u.1.2.2.1.length <= 900) (he:u.2.length <= 990000) :
  alW k u j=some (((sj u j).1,()),zq (sj u j).2.1,trJ (sj u j).2.2,()):=by
 obtain ⟨n,hn⟩:∃ n:Nat,j.1=(n:Int):=⟨j.1.toNat,by omega⟩
 have fin:∀ v:jg,v.1=u.1 -> NT k v j=some (((((u.1.2.2.1.getD j.1.toNat bg).2.2.2.2.2.length:Int)==0),()),zq (af8 v j.1.toNat),trJ (acH j),()):=fun v hv=>by
  unfold NT
  have e:=am8 (k:=k) (w:=v.1.2.2.2.2.2.2.2.2.2) (n:=n) (by rw [hv];omega) (by rw [hv];exact ho) (by rw [hv];omega)
  rw [hn,e,Option.bind_some,am7 hj,Option.bind_some]
  simp only
  rw [show (acH j).1=(n:Int) from hn,hv,Qo (by omega),Qp,Int.toNat_natCast]
  rw [<- hv]
  rfl
 unfold alW sj
 cases hp:j.2.2.2.1==2 with
 | true =>
  rw [cond_true,CV (by omega),Option.bind_some]
  rfl
 | false =>
  rw [cond_false,cond_false,CV (by omega),Option.bind_some]
  simp only [YW]
  cases hp0:j.2.2.2.1==0 with
  | false =>
   rw [cond_false]
   exact fin _ rfl
  | true =>
   rw [cond_true,Bool.true_and]
   have ei:∀ {R:Type} (x:Option R),ix (j4 u (0,3,j.1,0,j.2.2.2.2.1.2.1.1,0)).1.2.2.1 j.1 x=x:=fun x=>Lj h.1 h.2
   rw [ei]
   show (bif decide (((u.1.2.2.1.getD j.1.toNat bg).2.2.2.2.1.length:Int)>0) then _ else _)=_
   cases decide (((u.1.2.2.1.getD j.1.toNat bg).2.2.2.2.1.length:Int)>0) with
   | false=>exact fin _ rfl
   | true =>
    rw [cond_true,CV (by simp [j4];omega),Option.bind_some]
    simp only [YW]
    exact fin _ rfl
noncomputable def K5 (k:Nat) (u:jg) (j:jc):MI :=
 let t:=u.1.2.2.1.getD j.1.toNat bg
 let x:=pq (qj t j.2.2.2.1) j.2.2.2.2.1
 let v:=bif x.1==9 then (EI k u.1 (abz (j6 u.1.2.2.2.2.2.2.2.2.1) x.2.1 j.1),u.2) else bif x.1==10 then (EI k u.1 (akx (j6 u.1.2.2.2.2.2.2.2.2.1) x.2.1 j.1),u.2) else u
 bif (y5 t j).2.2.2.2.1.2.2.2 then sj v (y5 t j) else (false,v,y5 t j)
structure GO (K:jd) (j:jc):Prop where
 js:JS j
 few:j.2.2.2.2.1.2.2.1.length <= 10 /\ j.2.2.2.2.2.1.2.2.1.length <= 10
 held:j.2.2.2.2.2.2.1.length <= 90
 task:0 <= j.1 /\ j.1<(K.2.2.1.length:Int)
 phase:0 <= j.2.2.2.1 /\ j.2.2.2.1 <= 2
 m:MOK (qj (K.2.2.1.getD j.1.toNat bg) j.2.2.2.1) j.2.2.2.2.1
theorem apz {K:jd} {j:jc} (h:GO K j):JS (y5 (K.2.2.1.getD j.1.toNat bg) j):=by
 have h1:=UH h.m
 have h2:=h.few
 have h3:=h.held
 refine ⟨by show (stepM _ _).2.2.1.length <= 100;omega,?_,?_,?_⟩
 ·show (bif _ then stepM _ _ else _).2.2.1.length <= 100
  cases (pq (qj (K.2.2.1.getD j.1.toNat bg) j.2.2.2.1) j.2.2.2.2.1).1==11 with
  | true=>rw [cond_true];omega
  | false=>rw [cond_false];omega
 ·show (I5 _ _).length <= 100
  unfold I5
  generalize pq (qj (K.2.2.1.getD j.1.toNat bg) j.2.2.2.1) j.2.2.2.2.1=x
  have:=(YN x.2.1 j.2.2.2.2.2.2.1 j.2.2.2.2.2.2.1.length).2.1
  cases x.1==9 <;> cases x.1==10 <;> simp <;> omega
 ·intro y hy
  have hm:=h.m.may
  have hy':y∈I5 (pq (qj (K.2.2.1.getD j.1.toNat bg) j.2.2.2.1) j.2.2.2.2.1) j.2.2.2.2.2.2.1:=hy
  generalize pq (qj (K.2.2.1.getD j.1.toNat bg) j.2.2.2.1) j.2.2.2.2.1=x at hy' hm
  unfold I5 at hy'
  cases e9:x.1==9 with
  | true =>
   rw [e9,cond_true,List.mem_append,List.mem_singleton] at hy'
   rcases hy' with q | q
   ·exact h.js.pos y q
   ·rw [q]
    obtain ⟨a,b,c,d⟩:=x
    have h9':a=9:=by simpa using e9
    subst h9'
    unfold l5 at hm
    simp [AY] at hm
    exact hm.1.1
  | false =>
   rw [e9,cond_false] at hy'
   cases e10:x.1==10 with
   | true=>rw [e10,cond_true] at hy';exact h.js.pos y ((YN _ _ _).1 y hy')
   | false=>rw [e10,cond_false] at hy';exact h.js.pos y hy'
theorem ana {k:Nat} (hk:1000 <= k) {u:jg} {j:jc} (hL:p8 u.1.2.2.1) (hT:yh u.1.2.2.2.2.2.2.2.2.1) (h:GO u.1 j) (hr:u.1.2.2.2.2.2.2.2.2.2.1.length=u.1.2.2.1.length) (ho:u.1.2.2.2.2.2.2.2.2.2.2.length <= 900) (he:u.2.length <= 980000) :
  alX k u j=some (((K5 k u j).1,()),zq (K5 k u j).2.1,trJ (K5 k u j).2.2,()):=by
 have htk:=h.task
 have hts:=hL.1
 have hle:=hT.1.2.2
 have hsl:=wo u.1.2.2.2.2.2.2.2.2.1
 have hll:=JD u.1.2.2.2.2.2.2.2.2.1
 have hlt:=(hL.2 _ (jm (z:=bg) (show j.1.toNat<u.1.2.2.1.length by omega))).1
 have fin:∀ v:jg,v.1.2.2.1=u.1.2.2.1 -> v.1.2.2.2.2.2.2.2.2.2=u.1.2.2.2.2.2.2.2.2.2 -> v.2=u.2 -> IL k v (y5 (u.1.2.2.1.getD j.1.toNat bg) j)=some ((((bif (y5 (u.1.2.2.1.getD j.1.toNat bg) j).2.2.2.2.1.2.2.2 then sj v (y5 (u.1.2.2.1.getD j.1.toNat bg) j) else (false,v,y5 (u.1.2.2.1.getD j.1.toNat bg) j)):MI).1,()),zq ((bif (y5 (u.1.2.2.1.getD j.1.toNat bg) j).2.2.2.2.1.2.2.2 then sj v (y5 (u.1.2.2.1.getD j.1.toNat bg) j) else (false,v,y5 (u.1.2.2.1.getD j.1.toNat bg) j)):MI).2.1,trJ ((bif (y5 (u.1.2.2.1.getD j.1.toNat bg) j).2.2.2.2.1.2.2.2 then sj v (y5 (u.1.2.2.1.getD j.1.toNat bg) j) else (false,v,y5 (u.1.2.2.1.getD j.1.toNat bg) j)):MI).2.2,()):=fun v h1 h2 h3=>by
  unfold IL
  cases (y5 (u.1.2.2.1.getD j.1.toNat bg) j).2.2.2.2.1.2.2.2 with
  | false=>rfl
  | true =>
   rw [cond_true,am9 hk (apz h) (by rw [h1];exact htk) (by rw [h1,show v.1.2.2.2.2.2.2.2.2.2.1=u.1.2.2.2.2.2.2.2.2.2.1 by rw [h2]];exact hr) (by rw [h2];exact ho) (by rw [h1];omega) (by rw [h3];omega),Option.bind_some]
   rfl
 unfold alX K5
 rw [Lj htk.1 htk.2,show rd u.1.2.2.1 j.1 bg=u.1.2.2.1.getD j.1.toNat bg from rfl,am4 hk hlt h.js h.phase h.m,Option.bind_some]
 simp only [Bool.not_true,cond_false]
 generalize hx:pq (qj (u.1.2.2.1.getD j.1.toNat bg) j.2.2.2.1) j.2.2.2.2.1=x
 have hq:(y5 (u.1.2.2.1.getD j.1.toNat bg) j).1=j.1:=rfl
 cases e9:x.1==9 with
 | true =>
  obtain ⟨b,eb⟩:=am5 (k:=k) (l:=j6 u.1.2.2.2.2.2.2.2.2.1) (s:=x.2.1) (t:=j.1) (by omega) (by omega)
  rw [cond_true,cond_true,OH hk hle,Option.bind_some,hq,eb,Option.bind_some,YH hk hT (by rw [ahc];omega),Option.bind_some]
  simp only [YW]
  exact fin _ rfl rfl rfl
 | false =>
  rw [cond_false,cond_false]
  cases e10:x.1==10 with
  | true =>
   obtain ⟨b,eb⟩:=am6 (k:=k) (l:=j6 u.1.2.2.2.2.2.2.2.2.1) (s:=x.2.1) (t:=j.1) (by omega) (by omega)
   rw [cond_true,cond_true,OH hk hle,Option.bind_some,hq,eb,Option.bind_some,YH hk hT (by rw [aky];omega),Option.bind_some]
   simp only [YW]
   exact fin _ rfl rfl rfl
  | false =>
   rw [cond_false,cond_false]
   exact fin _ rfl rfl rfl
def MJ (t:iw) (j:jc):jc :=
 bif (j.2.2.2.1==0)&&decide ((t.2.2.2.2.1.length:Int)>0) then (j.1,j.2.1,j.2.2.1,1,Vf j.2.2.1,Vf j.2.2.1,[],j.2.2.2.2.2.2.2)
 else (j.1,j.2.1,j.2.2.1,j.2.2.2.1,j.2.2.2.2.2.1,j.2.2.2.2.2.1,[],j.2.2.2.2.2.2.2)
def ahd (t:iw) (j:jc):jc×Int:=bif j.2.2.2.1==2 then (j,13) else (MJ t j,bif (j.2.2.2.1==0)&&decide ((t.2.2.2.2.1.length:Int)>0) then 7 else 6)
theorem anb {k:Nat} {t:iw} {j:jc} (h:JS j):alK k t j=some ((MJ t j,()),()):=by
 unfold alK V9 MJ
 have hm:=RH (k:=k) (m:=j.2.2.2.2.2.1) (by have:=h.kept;omega)
 rw [YM h,Option.bind_some,hm]
 cases j.2.2.2.1==0 with
 | false=>rfl
 | true=>rw [Bool.true_and,cond_true];cases decide ((t.2.2.2.2.1.length:Int)>0) <;> rfl
theorem anc {k:Nat} (hk:1000 <= k) {t:iw} {j:jc} (h:JS j) (ht:j.1 <= 1000) {l:List jf} (hl:l.length <= 900):alL k t j l=some (((ahd t j).1,MF l j.1,(ahd t j).2,()),()):=by
 unfold alL ahd
 rw [anb h,Option.bind_some,af4 hk hl ht,Option.bind_some]
 cases hp:j.2.2.2.1==2 with
 | true =>
  rw [cond_true,YG hk h,Option.bind_some,UD h];rfl
 | false =>
  simp only [cond_false]
  unfold MJ
  cases hp0:j.2.2.2.1==0 with
  | false=>simp
  | true =>
   have:j.2.2.2.1=0:=by simpa using hp0
   cases decide ((t.2.2.2.2.1.length:Int)>0) with
   | true=>simp [this]
   | false=>simp
noncomputable def MK (k:Nat) (u:jg) (j:jc):MI :=
 let r:=ahd (u.1.2.2.1.getD j.1.toNat bg) j
 (r.2==13,j4 (EI k u.1 (MF (j6 u.1.2.2.2.2.2.2.2.2.1) j.1),u.2) (0,r.2,r.1.1,0,0,0),r.1)
theorem ane {k:Nat} (hk:1000 <= k) {u:jg} {j:jc} (hts:u.1.2.2.1.length <= 900) (hT:yh u.1.2.2.2.2.2.2.2.2.1) (h:JS j) (htk:0 <= j.1 /\ j.1<(u.1.2.2.1.length:Int)) (he:u.2.length <= 980000) :
  alM k u j=some (((MK k u j).1,()),zq (MK k u j).2.1,trJ (MK k u j).2.2,()):=by
 have hle:=hT.1.2.2
 have hsl:=wo u.1.2.2.2.2.2.2.2.2.1
 have hll:=JD u.1.2.2.2.2.2.2.2.2.1
 unfold alM MK
 rw [Lj htk.1 htk.2,OH hk hle,Option.bind_some]
 simp only
 rw [anc hk h (by omega) (by omega),Option.bind_some]
 simp only
 rw [YH hk hT (by rw [YK];omega),Option.bind_some]
 simp only [YW]
 rw [CV (by show u.2.length <= _;omega),Option.bind_some]
 rfl
def OI (l:List jf) (t:Int) (s:Int×Bool) (x:Int):Int×Bool:=bif holdsV l x t&&(!s.2||decide ((rd l x s0).1<s.1)) then ((rd l x s0).1,true) else s
def ahe (l:List jf) (held:List Int) (t:Int):Int×Bool:=held.foldl (OI l t) (0,false)
theorem akz (f:List (Int×Bool)) (x y:Int):Us (.int .i64) .bool x (vL (.int .i64) .bool y true f) false=(x==y||Us (.int .i64) .bool x f false):=by
 unfold Us
 rw [KI (tk:=.int .i64) (tv:=.bool) (fun a b=>by simp [fC]) y x true f]
 by_cases e:x=y
 ·subst e;rw [if_pos (by simp [fC])];simp
 ·rw [if_neg (by simp [fC,e]),beq_eq_false_iff_ne.2 e,Bool.false_or]
theorem anf {k:Nat} (hk:1000 <= k) {l:List jf} {held:List Int} (hl:held.length <= 900) {t:Int} (ht:t <= 1000):ajn k l held t=some (((ahe l held t).1,(ahe l held t).2,()),()):=by
 have key:∀ (m i j:Nat) (s:Int×Bool) (f:List (Int×Bool)),i+m=held.length -> m<j -> (∀ x,Us (.int .i64) .bool x f false=true -> s.2=true /\ s.1 <= (rd l x s0).1) ->
   Y5 k j l t s.1 s.2 f held (held.length:Int) (i:Int)=some ((((held.drop i).foldl (OI l t) s).1,((held.drop i).foldl (OI l t) s).2,()),()):=by
  intro m
  induction m with
  | zero =>
   intro i j s f hi hj hf
   obtain ⟨j,rfl⟩:∃ i,j=i+1:=⟨j - 1,by omega⟩
   rw [aaL,Y4,Sd (by omega),drop_nil (by omega)];rfl
  | succ m ih =>
   intro i j s f hi hj hf
   obtain ⟨j,rfl⟩:∃ i,j=i+1:=⟨j - 1,by omega⟩
   have hi':i<held.length:=by omega
   rw [aaL,Y4,Sc (by omega),Qo hi',Qp,YI ht,Option.bind_some,Mi (by omega),drop_cons 0 hi',List.foldl_cons]
   generalize held.getD i 0=x
   simp only
   cases hh:holdsV l x t with
   | false =>
    rw [Bool.not_false,cond_true,show OI l t s x=s by unfold OI;rw [hh];rfl]
    exact ih (i+1) j s f (by omega) (by omega) hf
   | true =>
    have hin:0 <= x /\ x<(l.length:Int):=by
     unfold holdsV at hh
     simp only [Bool.and_eq_true,decide_eq_true_eq] at hh
     exact ⟨hh.1,hh.2.1⟩
    rw [Bool.not_true,cond_false]
    cases hs:Us (.int .i64) .bool x f false with
    | true =>
     obtain ⟨q1,q2⟩:=hf x hs
     rw [cond_true,show OI l t s x=s by unfold OI;rw [hh,q1,decide_eq_false (by omega)];rfl]
     exact ih (i+1) j s f (by omega) (by omega) hf
    | false =>
     rw [cond_false]
     have nf:∀ s2:Int×Bool,s2.2=true -> s2.1 <= (rd l x s0).1 -> (s.2=true -> s2.1 <= s.1) -> ∀ y,Us (.int .i64) .bool y (vL (.int .i64) .bool x true f) false=true -> s2.2=true /\ s2.1 <= (rd l y s0).1:=fun s2 h1 h2 h3 y hy=>by
      rw [akz,Bool.or_eq_true,beq_iff_eq] at hy
      rcases hy with q | q
      ·rw [q];exact ⟨h1,h2⟩
      ·obtain ⟨q1,q2⟩:=hf y q
       exact ⟨h1,by have:=h3 q1;omega⟩
     cases hb:s.2 with
     | false =>
      rw [Bool.not_false,cond_true,Lj hin.1 hin.2,show OI l t s x=((rd l x s0).1,true) by unfold OI;rw [hh,hb];rfl]
      exact ih (i+1) j ((rd l x s0).1,true) _ (by omega) (by omega) (nf _ rfl (Int.le_refl _) (fun h=>by rw [hb] at h;cases h))
     | true =>
      rw [Bool.not_true,cond_false,Lj hin.1 hin.2]
      by_cases hc:(rd l x s0).1<s.1
      ·rw [Sc hc,Lj hin.1 hin.2,show OI l t s x=((rd l x s0).1,true) by unfold OI;rw [hh,hb,decide_eq_true hc];rfl]
       exact ih (i+1) j ((rd l x s0).1,true) _ (by omega) (by omega) (nf _ rfl (Int.le_refl _) (fun _=>by show (rd l x s0).1 <= _;omega))
      ·rw [Sd hc,show OI l t s x=s by unfold OI;rw [hh,hb,decide_eq_false hc];rfl]
       have e:=ih (i+1) j s (vL (.int .i64) .bool x true f) (by omega) (by omega) (nf s hb (by omega) (fun _=>Int.le_refl _))
       rw [hb] at e;exact e
 unfold ajn
 exact key held.length 0 k (0,false) [] (by omega) (by omega) (fun x h=>by simp [Us,jB] at h)
abbrev Pk3:Type:=Int×Int×Int
abbrev pk0:Pk3:=(0,0,0)
def af9 (n:Int) (j:jc):Int:=bif j.2.2.2.1==2 then n+n+j.1 else bif j.2.2.2.2.2.2.2 then j.1 else n+j.1
def FM (n:Int) (l:List jf) (j:jc):Pk3:=(bif (ahe l j.2.2.2.2.2.2.1 j.1).2 then mn (af9 n j) (ahe l j.2.2.2.2.2.2.1 j.1).1 else af9 n j,bif (ahe l j.2.2.2.2.2.2.1 j.1).2 then 0 else 1,j.1)
def KP (a b:Int):Int:=bif decide (a<b) then -1 else bif decide (a>b) then 1 else 0
def UJ (p q:Pk3):Int:=bif KP p.1 q.1 != 0 then KP p.1 q.1 else bif KP p.2.1 q.2.1 != 0 then KP p.2.1 q.2.1 else KP p.2.2 q.2.2
theorem YO (k:Nat) (a b:Int):agJ k a b=some ((KP a b,()),()):=by
 unfold agJ alH KP
 simp only [Option.bind_some,bne_self_eq_false,cond_false]
 cases decide (a<b) with
 | true=>rfl
 | false=>cases decide (a>b) <;> rfl
theorem aga {k:Nat} (hk:1000 <= k) (p q:Pk3):agK k p q=some ((UJ p q,()),()):=by
 unfold agK UJ
 rw [YO,Option.bind_some,YO,Option.bind_some,YO,Option.bind_some]
 simp only
 generalize KP p.1 q.1=a
 generalize KP p.2.1 q.2.1=b
 generalize KP p.2.2 q.2.2=c
 unfold ao2
 obtain ⟨k,rfl⟩:∃ m,k=m+4:=⟨k - 4,by omega⟩
 rw [LM,NM,Sc (by simp),Lj (by omega) (by simp)]
 show Option.bind (bif a != 0 then _ else _) _=_
 cases a != 0 with
 | true=>rfl
 | false =>
  rw [cond_false,cond_false,show IntKind.i64.wrap ((0:Int)+1)=1 from rfl,LM,NM,Sc (by simp),Lj (by omega) (by simp)]
  show Option.bind (bif b != 0 then _ else _) _=_
  cases b != 0 with
  | true=>rfl
  | false =>
   rw [cond_false,cond_false,show IntKind.i64.wrap ((1:Int)+1)=2 from rfl,LM,NM,Sc (by simp),Lj (by omega) (by simp)]
   show Option.bind (bif c != 0 then _ else _) _=_
   cases hc:c != 0 with
   | true=>rfl
   | false =>
    have:c=0:=by simpa using hc
    subst this
    rw [cond_false,show IntKind.i64.wrap ((2:Int)+1)=3 from rfl,LM,NM,Sd (by simp)]
    rfl
theorem ang {k:Nat} (hk:1000 <= k) {j:jc} (h:JS j) {n:Int} (hn:0 <= n /\ n <= 1000) (ht:0 <= j.1 /\ j.1 <= 1000) (l:List jf):alG k j n l=some ((FM n l j,()),()):=by
 have hh:=h.held
 have hb:ajo k j n=some ((af9 n j,()),()):=by
  unfold ajo af9
  cases j.2.2.2.1==2 with
  | true=>simp only [cond_true];rw [Uu (n:=n+n) (by omega) (by omega),Uu (by omega) (by omega)]
  | false =>
   simp only [cond_false]
   cases j.2.2.2.2.2.2.2 with
   | true=>rfl
   | false=>simp only [cond_false];rw [Uu (by omega) (by omega)]
 unfold alG ao1 FM
 rw [anf hk (by omega) ht.2,Option.bind_some,hb]
 simp only
 cases (ahe l j.2.2.2.2.2.2.1 j.1).2 <;> rfl
theorem agb {k:Nat} {i:Nat} (hi:i<8):ajq k 0 (i:Int)=some ((((2 ^ i:Nat):Int),()),()):=by
 have:i=0 \/ i=1 \/ i=2 \/ i=3 \/ i=4 \/ i=5 \/ i=6 \/ i=7:=by omega
 rcases this with rfl | rfl | rfl | rfl | rfl | rfl | rfl | rfl <;> (show _=_;kernel_rfl)
theorem ahf {k:Nat} (hk:1000 <= k) {i:Nat} (hi:i<8):ao5 k ((2 ^ i:Nat):Int)=some (((i:Int),true,()),()):=by
 have:i=0 \/ i=1 \/ i=2 \/ i=3 \/ i=4 \/ i=5 \/ i=6 \/ i=7:=by omega
 obtain ⟨k,rfl⟩:∃ m,k=m+1000:=⟨k - 1000,by omega⟩
 rcases this with rfl | rfl | rfl | rfl | rfl | rfl | rfl | rfl <;> (show _=_;kernel_rfl)
def YP (l:List Pk3):Nat -> Nat -> Nat -> Nat
 | 0,_,m=>m
 | d+1,i,m=>YP l d (i+1) (if UJ (l.getD i pk0) (l.getD m pk0)<0 then i else m)
theorem YQ {l:List Pk3}:∀ (d i m:Nat),i+d=l.length -> m<l.length -> YP l d i m<l.length
 | 0,_,m,_,h=>h
 | d+1,i,m,h,hm=>by
  rw [YP]
  exact YQ d (i+1) _ (by omega) (by split <;> omega)
theorem OJ {k:Nat} (hk:1000 <= k) {l:List Pk3} (hl:l.length <= 8) (hd:∀ a b,a<l.length -> b<l.length -> a≠b -> UJ (l.getD a pk0) (l.getD b pk0)≠0):∀ (d i j m:Nat),i+d=l.length -> d<j -> m<i ->
  NP k j (l.getD m pk0).1 (l.getD m pk0).2.1 (l.getD m pk0).2.2 ((2 ^ m:Nat):Int) l (l.length:Int) (i:Int)=some ((((YP l d i m:Nat):Int),()),())
 | 0,i,j,m,h,hjj,hm=>by
  obtain ⟨j',rfl⟩:∃ j',j=j'+1:=⟨j - 1,by omega⟩
  rw [TD,TB,Sd (by omega),ahf hk (by omega)]
  rfl
 | d+1,i,j,m,h,hjj,hm=>by
  obtain ⟨j',rfl⟩:∃ j',j=j'+1:=⟨j - 1,by omega⟩
  have hi:i<l.length:=by omega
  have hne:=hd i m hi (by omega) (by omega)
  rw [TD,TB,Sc (by omega),Qo hi,Qp,show ((l.getD m pk0).1,(l.getD m pk0).2.1,(l.getD m pk0).2.2)=l.getD m pk0 from rfl,aga hk,Option.bind_some,YP,Mi (by omega)]
  simp only
  by_cases hc:UJ (l.getD i pk0) (l.getD m pk0)<0
  ·rw [Sc hc,if_pos hc,agb (by omega),Option.bind_some]
   exact OJ hk hl hd d (i+1) j' i (by omega) (by omega) (by omega)
  ·rw [Sd hc,if_neg hc,beq_eq_false_iff_ne.2 hne,cond_false]
   exact OJ hk hl hd d (i+1) j' m (by omega) (by omega) (by omega)
theorem WK (p:Pk3):UJ p p=0:=by
 unfold UJ KP
 simp
theorem anh {k:Nat} (hk:1000 <= k) {l:List Pk3} (hl:l.length <= 8) (h0:0<l.length) (hd:∀ a b,a<l.length -> b<l.length -> a≠b -> UJ (l.getD a pk0) (l.getD b pk0)≠0):alI k l=some ((((YP l l.length 0 0:Nat):Int),()),()):=by
 unfold alI
 obtain ⟨d,hdd⟩:∃ d,l.length=d+1:=⟨l.length - 1,by omega⟩
 obtain ⟨j,hj⟩:∃ j,k=j+1:=⟨k - 1,by omega⟩
 rw [Lj (by omega) (by omega)]
 conv=>lhs;rw [show ∀ a b c r l n i,NP k k a b c r l n i=NP k (j+1) a b c r l n i from fun a b c r l n i=>by rw [<- hj]]
 rw [TD,TB,Sc (by omega),Lj (by omega) (by omega)]
 show Option.bind (agK k (l.getD 0 pk0) (l.getD 0 pk0)) _=_
 rw [aga hk,WK,Option.bind_some]
 simp only [beq_self_eq_true,cond_true]
 rw [Sd (by omega)]
 have:=agb (k:=k) (i:=0) (by omega)
 rw [show ajq k 0 0=_ from this,Option.bind_some,hdd,YP,if_neg (by rw [WK];omega)]
 have e:=OJ hk hl hd d 1 j 0 (by omega) (by omega) (by omega)
 rw [hdd] at e
 exact e
theorem WL {k:Nat} (hk:1000 <= k) {n:Int} (hn:0 <= n /\ n <= 1000) {l:List jf} {js:List jc} (hl:js.length <= 900) (hj:∀ j∈js,JS j /\ 0 <= j.1 /\ j.1 <= 1000):∀ (d i j:Nat),i+d=js.length -> d<j ->
  Y7 k j n l 0 false ((js.take i).map (FM n l)) js (js.length:Int) (i:Int)=NQ k k 0 false (js.map (FM n l)) 0
 | 0,i,j,h,hjj=>by
  obtain ⟨j',rfl⟩:∃ j',j=j'+1:=⟨j - 1,by omega⟩
  rw [aaM,Y6,Sd (by omega),List.take_of_length_le (by omega)]
 | d+1,i,j,h,hjj=>by
  obtain ⟨j',rfl⟩:∃ j',j=j'+1:=⟨j - 1,by omega⟩
  have hi:i<js.length:=by omega
  have hh:=hj _ (jm (z:=ay) hi)
  rw [aaM,Y6,Sc (by omega),Qo hi,Qp,ang hk hh.1 hn hh.2 l,Option.bind_some,Rz (by simp;omega),Mi (by omega)]
  have e:(js.take i).map (FM n l)++[FM n l (js.getD i ay)]=(js.take (i+1)).map (FM n l):=by
   rw [List.take_succ_eq_append_getElem hi,List.map_append,getD_in hi];rfl
  rw [e]
  exact WL hk hn hl hj d (i+1) j' (by omega) (by omega)
def I6 (js:List jc) (n:Int) (l:List jf):Nat:=YP (js.map (FM n l)) js.length 0 0
def aoj (js:List jc) (n:Int) (l:List jf):Prop:=∀ a b,a<js.length -> b<js.length -> a≠b -> UJ (FM n l (js.getD a ay)) (FM n l (js.getD b ay))≠0
theorem ML {α β:Type} {f:α -> β} {l:List α} {i:Nat} (z:α) (w:β) (h:i<l.length):(l.map f).getD i w=f (l.getD i z):=by
 rw [getD_in (by rw [List.length_map];exact h),getD_in h,List.getElem_map]
theorem ani {k:Nat} (hk:1000 <= k) {n:Int} (hn:0 <= n /\ n <= 1000) {l:List jf} {js:List jc} (hl:js.length <= 8) (hj:∀ j∈js,JS j /\ 0 <= j.1 /\ j.1 <= 1000) (hd:aoj js n l) :
  alJ k js n l=some ((((I6 js n l:Nat):Int),!(js.isEmpty),()),()):=by
 unfold alJ
 have e:=WL (l:=l) hk hn (by omega) hj js.length 0 k (by omega) (by omega)
 rw [List.take_zero,List.map_nil] at e
 refine e.trans ?_
 have hlen:(js.map (FM n l)).length=js.length:=List.length_map _
 by_cases h0:js.length=0
 ·have:js=[]:=List.eq_nil_of_length_eq_zero h0
  subst this
  obtain ⟨k,rfl⟩:∃ m,k=m+1:=⟨k - 1,by omega⟩
  rw [TG,TF,Sd (by simp)]
  rfl
 ·obtain ⟨j,hjk⟩:∃ j,k=j+2:=⟨k - 2,by omega⟩
  have hf:=anh hk (l:=js.map (FM n l)) (by omega) (by omega) (fun a b ha hb hab=>by
   rw [ML ay _ (by omega),ML ay _ (by omega)]
   exact hd a b (by omega) (by omega) hab)
  have hsub:sub (js.map (FM n l)) 0 (mn (IntKind.i64.wrap (0+64)) ((js.map (FM n l)).length:Int))=js.map (FM n l):=by
   have hm:mn (IntKind.i64.wrap (0+64)) ((js.map (FM n l)).length:Int)=(js.length:Int):=by
    rw [Sg,Uu (by omega) (by omega)];omega
   rw [hm]
   unfold sub
   rw [List.take_of_length_le (by rw [hlen];omega)];rfl
  have hmin:=YQ (l:=js.map (FM n l)) js.length 0 0 (by omega) (by omega)
  have hem:js.isEmpty=false:=by cases js with | nil=>simp at h0 | cons a l=>rfl
  conv=>lhs;rw [show ∀ a b c d,NQ k k a b c d=NQ k (j+1+1) a b c d from fun a b c d=>by rw [<- hjk]]
  rw [TG,TF,Sc (by omega),Rx (by omega) (by rw [Sg,Uu (by omega) (by omega)];omega) (by rw [Sg];omega),hsub,hf,Option.bind_some]
  simp only [Bool.not_false,cond_true]
  rw [TG,TF,Sd (by rw [Uu (by omega) (by omega)];omega),hlen,hem,Uu (n:=0+((YP (js.map (FM n l)) js.length 0 0:Nat):Int)) (by omega) (by omega),Int.zero_add]
  rfl
theorem ahg {a b:Int}:KP a b=0↔a=b:=by
 unfold KP
 by_cases h:a<b
 ·rw [Sc h];constructor <;> intro h2 <;> omega
 ·rw [Sd h]
  by_cases h3:a>b
  ·rw [Sc h3];constructor <;> intro h2 <;> omega
  ·rw [Sd h3];constructor
   ·intro _;omega
   ·intro _;rfl
theorem ahh {p q:Pk3} (h:UJ p q=0):p.2.2=q.2.2:=by
 unfold UJ at h
 cases h1:KP p.1 q.1 != 0 with
 | true=>rw [h1,cond_true] at h;simp [h] at h1
 | false =>
  rw [h1,cond_false] at h
  cases h2:KP p.2.1 q.2.1 != 0 with
  | true=>rw [h2,cond_true] at h;simp [h] at h2
  | false=>rw [h2,cond_false] at h;exact ahg.1 h
def rising (js:List jc):Prop:=js.Pairwise (fun a b=>a.1<b.1)
theorem OL {js:List jc} (h:rising js) {a b:Nat} (ha:a<js.length) (hb:b<js.length) (hab:a≠b):(js.getD a ay).1≠(js.getD b ay).1:=by
 rw [getD_in ha,getD_in hb]
 have:=List.pairwise_iff_getElem.1 h
 rcases Nat.lt_or_gt_of_ne hab with hl | hl
 ·have:=this a b ha hb hl;omega
 ·have:=this b a hb ha hl;omega
theorem abB {js:List jc} (h:rising js) (n:Int) (l:List jf):aoj js n l:=fun a b ha hb hab e=>OL h ha hb hab (ahh e)
theorem CX:∀ {js:List jc} {lo n:Int},rising js -> (∀ j∈js,lo <= j.1 /\ j.1<n) -> lo <= n -> (js.length:Int) <= n - lo
 | [],lo,n,_,_,h=>by simp;omega
 | a::js,lo,n,h,hb,hl=>by
  have h1:=List.pairwise_cons.1 h
  have ha:=hb a List.mem_cons_self
  have:=CX (lo:=a.1+1) h1.2 (fun j hj=>⟨by have:=h1.1 j hj;omega,(hb j (List.mem_cons_of_mem _ hj)).2⟩) (by omega)
  simp only [List.length_cons];omega
theorem rising_map {f:jc -> jc} (hf:∀ j,(f j).1=j.1) {js:List jc} (h:rising js):rising (js.map f):=by
 unfold rising
 rw [List.pairwise_map]
 exact List.Pairwise.imp (fun {a b} hab=>by rw [hf,hf];exact hab) h
theorem agc {k:Nat} {js:List jc} {i:Nat} {x:jc} (h:i<js.length) (hl:js.length <= 900):S72 k (upd js (i:Int) x) (i:Int) (IntKind.i64.wrap ((i:Int)+1))=some ((js.take i++js.drop (i+1),()),()):=by
 unfold S72 Jk
 rw [Mi (by omega),Mj]
 refine (if_pos ?_).trans ?_
 ·simp only [Bool.and_eq_true]
  refine ⟨decide_eq_true (by show (0:Int) <= (i:Int);omega),decide_eq_true (by show (i:Int) <= ((i+1:Nat):Int);omega),decide_eq_true ?_⟩
  show ((i+1:Nat):Int) <= ((js.set i x).length:Int)
  rw [List.length_set];omega
 ·show some (((js.set i x).take (i:Int).toNat++(js.set i x).drop ((i+1:Nat):Int).toNat,()),())=_
  rw [Int.toNat_natCast,Int.toNat_natCast,List.take_set_of_le (by omega),List.drop_set_of_lt (by omega)]
theorem acI (u:jg) (j:jc):(sj u j).2.1.1=u.1 \/ ∃ w,(sj u j).2.1.1=z9 u.1 w /\ w.1.length=u.1.2.2.2.2.2.2.2.2.2.1.length /\ w.2=u.1.2.2.2.2.2.2.2.2.2.2:=by
 unfold sj
 cases j.2.2.2.1==2 with
 | true=>exact .inl rfl
 | false =>
  refine .inr ⟨(u.1.2.2.2.2.2.2.2.2.2.1.set j.1.toNat 0,u.1.2.2.2.2.2.2.2.2.2.2),?_,by simp,rfl⟩
  rw [cond_false]
  cases (j.2.2.2.1==0)&&decide (((u.1.2.2.1.getD j.1.toNat bg).2.2.2.2.1.length:Int)>0) <;> rfl
def CH (K K2:jd):Prop:=∃ T w,K2=w8 (z9 K w) T /\ (yh K.2.2.2.2.2.2.2.2.1 -> yh T) /\ T.2.length=K.2.2.2.2.2.2.2.2.1.2.length /\ (yh K.2.2.2.2.2.2.2.2.1 -> jr T=jr K.2.2.2.2.2.2.2.2.1) /\ w.1.length=K.2.2.2.2.2.2.2.2.2.1.length /\ w.2.length=K.2.2.2.2.2.2.2.2.2.2.length
theorem CH.refl (K:jd):CH K K:=⟨_,_,rfl,id,rfl,fun _=>rfl,rfl,rfl⟩
theorem CH.lock {K:jd} (h:yh K.2.2.2.2.2.2.2.2.1) (k:Nat) (l:List jf):CH K (EI k K l):=by
 obtain ⟨g1,g2,g3,g4,_⟩:=UG (k:=k) h l
 exact ⟨_,_,rfl,fun _=>g1,g2,fun _=>g3,rfl,rfl⟩
theorem CH.done {K:jd} {u:jg} (h:CH K u.1) (j:jc):CH K (sj u j).2.1.1:=by
 obtain ⟨T,w,e,h1,h2,h3,h4,h5⟩:=h
 rcases acI u j with q | ⟨w2,q,q1,q2⟩
 ·rw [q];exact ⟨T,w,e,h1,h2,h3,h4,h5⟩
 ·rw [q,e]
  rw [e] at q1 q2
  exact ⟨T,w2,rfl,h1,h2,h3,q1.trans h4,by rw [q2];exact h5⟩
theorem CH.goes {u:jg} (h:yh u.1.2.2.2.2.2.2.2.2.1) (k:Nat) (j:jc):CH u.1 (K5 k u j).2.1.1:=by
 unfold K5
 simp only
 generalize pq (qj (u.1.2.2.1.getD j.1.toNat bg) j.2.2.2.1) j.2.2.2.2.1=x
 have fin:∀ v:jg,CH u.1 v.1 -> CH u.1 ((bif (y5 (u.1.2.2.1.getD j.1.toNat bg) j).2.2.2.2.1.2.2.2 then sj v (y5 (u.1.2.2.1.getD j.1.toNat bg) j) else (false,v,y5 (u.1.2.2.1.getD j.1.toNat bg) j)):MI).2.1.1:=fun v hv=>by
  cases (y5 (u.1.2.2.1.getD j.1.toNat bg) j).2.2.2.2.1.2.2.2 with
  | false=>exact hv
  | true=>exact hv.done _
 cases x.1==9 with
 | true=>exact fin _ (CH.lock h k _)
 | false =>
  cases x.1==10 with
  | true=>exact fin _ (CH.lock h k _)
  | false=>exact fin _ (CH.refl _)
theorem CH.hits {u:jg} (h:yh u.1.2.2.2.2.2.2.2.2.1) (k:Nat) (j:jc):CH u.1 (MK k u j).2.1.1:=CH.lock h k _
noncomputable def GK (k:Nat) (u:jg) (j:jc):MI:=bif u.1.2.2.2.2.2.2.1 then MK k (j4 u (0,2,j.1,0,0,0)) j else K5 k (j4 u (0,2,j.1,0,0,0)) j
theorem CH.run {u:jg} (h:yh u.1.2.2.2.2.2.2.2.2.1) (k:Nat) (j:jc):CH u.1 (GK k u j).2.1.1:=by
 unfold GK
 cases u.1.2.2.2.2.2.2.1 with
 | true=>exact CH.hits (u:=j4 u (0,2,j.1,0,0,0)) h k j
 | false=>exact CH.goes (u:=j4 u (0,2,j.1,0,0,0)) h k j
noncomputable def zm (k:Nat) (u:jg):jg :=
 bif u.1.2.2.2.2.2.1||u.1.2.2.2.2.2.2.2.1.isEmpty then u
 else
  let i:=I6 u.1.2.2.2.2.2.2.2.1 (u.1.2.2.1.length:Int) (j6 u.1.2.2.2.2.2.2.2.2.1)
  let r:=GK k u (u.1.2.2.2.2.2.2.2.1.getD i ay)
  (w7 r.2.1.1 (bif r.1 then u.1.2.2.2.2.2.2.2.1.take i++u.1.2.2.2.2.2.2.2.1.drop (i+1) else u.1.2.2.2.2.2.2.2.1.set i r.2.2),r.2.1.2)
theorem next_lt {js:List jc} (h:js.isEmpty=false) (n:Int) (l:List jf):I6 js n l<js.length:=by
 have h0:0<js.length:=by cases js with | nil=>simp at h | cons a l=>simp
 have:=YQ (l:=js.map (FM n l)) js.length 0 0 (by simp) (by simpa using h0)
 simpa [I6] using this
theorem apB {k:Nat} (hk:1000 <= k) {u:jg} (hL:p8 u.1.2.2.1) (h8:u.1.2.2.1.length <= 8) (hT:yh u.1.2.2.2.2.2.2.2.2.1) (hj:∀ j∈u.1.2.2.2.2.2.2.2.1,GO u.1 j) (hris:rising u.1.2.2.2.2.2.2.2.1) (hr:u.1.2.2.2.2.2.2.2.2.2.1.length=u.1.2.2.1.length) (ho:u.1.2.2.2.2.2.2.2.2.2.2.length <= 900) (he:u.2.length <= 970000) :
  S81 k u=some ((),zq (zm k u),()):=by
 have hlen:=CX hris (fun j h=>(hj j h).task) (by omega)
 have hle:=hT.1.2.2
 unfold S81 zm
 rw [OH hk hle,Option.bind_some]
 simp only
 rw [ani hk ⟨by omega,by omega⟩ (by omega) (fun j h=>⟨(hj j h).js,by have:=(hj j h).task;omega⟩) (abB hris _ _),Option.bind_some]
 simp only
 cases hh:u.1.2.2.2.2.2.1 with
 | true=>rfl
 | false =>
  rw [cond_false,Bool.false_or]
  cases hem:u.1.2.2.2.2.2.2.2.1.isEmpty with
  | true=>rfl
  | false =>
   have hmin:=next_lt hem (u.1.2.2.1.length:Int) (j6 u.1.2.2.2.2.2.2.2.2.1)
   generalize I6 u.1.2.2.2.2.2.2.2.1 (u.1.2.2.1.length:Int) (j6 u.1.2.2.2.2.2.2.2.2.1)=i at hmin ⊢
   have hin:=hj _ (jm (z:=ay) hmin)
   simp only [Bool.not_false,Bool.not_true,cond_false]
   rw [Qo hmin,Qp,CV (by omega),Option.bind_some]
   simp only [YW]
   generalize u.1.2.2.2.2.2.2.2.1.getD i ay=j at hin ⊢
   have tail:∀ r:MI,CH u.1 r.2.1.1 -> (ix r.2.1.1.2.2.2.2.2.2.2.1 (i:Int) (bif r.1 then (S72 k (upd r.2.1.1.2.2.2.2.2.2.2.1 (i:Int) r.2.2) (i:Int) (IntKind.i64.wrap ((i:Int)+1))).bind (fun q=>some ((),zq (w7 r.2.1.1 q.1.1,r.2.1.2),())) else some ((),zq (w7 r.2.1.1 (upd r.2.1.1.2.2.2.2.2.2.2.1 (i:Int) r.2.2),r.2.1.2),())):Option (Unit×(Int×Int×List iw×List WB×Bool×Bool×Bool×List jc×List Int×List Bool×List Th×List Int×List Bool×List je×Unit)×Unit))=some ((),zq (w7 r.2.1.1 (bif r.1 then u.1.2.2.2.2.2.2.2.1.take i++u.1.2.2.2.2.2.2.2.1.drop (i+1) else u.1.2.2.2.2.2.2.2.1.set i r.2.2),r.2.1.2),()):=fun r hc=>by
    have ejs:r.2.1.1.2.2.2.2.2.2.2.1=u.1.2.2.2.2.2.2.2.1:=by obtain ⟨T,w,e,_⟩:=hc;rw [e];rfl
    rw [ejs,Qo hmin,agc hmin (by omega),Option.bind_some,Mj]
    cases r.1 <;> rfl
   have hc:=CH.run (u:=u) hT k j
   unfold GK at hc ⊢
   rw [show (j4 u (0,2,j.1,0,0,0)).1.2.2.2.2.2.2.1=u.1.2.2.2.2.2.2.1 from rfl]
   have het:(j4 u (0,2,j.1,0,0,0)).2.length <= 980000:=by simp [j4];omega
   cases hhi:u.1.2.2.2.2.2.2.1 with
   | true =>
    rw [hhi,cond_true] at hc
    rw [cond_true,cond_true,ane (u:=j4 u (0,2,j.1,0,0,0)) hk (by show u.1.2.2.1.length <= 900;omega) hT hin.js hin.task het,Option.bind_some]
    simp only [YW,vrJ]
    exact tail _ hc
   | false =>
    rw [hhi,cond_false] at hc
    rw [cond_false,cond_false,ana (u:=j4 u (0,2,j.1,0,0,0)) hk hL hT hin hr ho het,Option.bind_some]
    simp only [YW,vrJ]
    exact tail _ hc
structure KJ (K:jd):Prop where
 ji:JI K
 EK:K.2.2.1.length <= 8
 go:∀ j∈K.2.2.2.2.2.2.2.1,GO K j
 MQ:rising K.2.2.2.2.2.2.2.1
theorem KJ.len {K:jd} (h:KJ K):K.2.2.2.2.2.2.2.1.length <= 8:=by
 have:=CX h.MQ (fun j hj=>(h.go j hj).task) (by omega)
 have:=h.EK
 omega
theorem GO.congr {K K2:jd} {j:jc} (h:GO K j) (e:K2.2.2.1=K.2.2.1):GO K2 j:=⟨h.js,h.few,h.held,by rw [e];exact h.task,h.phase,by rw [e];exact h.m⟩
theorem UK {K:jd} {k:Nat}:∀ (js:List jc) (s:jg×List jc),UI K s.1 -> UI K (js.foldl (BO k) s).1 /\ (js.foldl (BO k) s).1.2.length <= s.1.2.length+3 * js.length /\ ∃ l,l.Sublist js /\ (js.foldl (BO k) s).2=s.2++l
 | [],s,h=>⟨h,by simp,[],List.Sublist.refl _,by simp⟩
 | j::js,s,h=>by
  obtain ⟨g1,g2,g3⟩:=h.end_ (k:=k) j
  obtain ⟨f1,f2,l,f3,f4⟩:=UK (k:=k) js (BO k s j) g1
  rw [List.foldl_cons]
  refine ⟨f1,by simp only [List.length_cons];omega,?_⟩
  have:(BO k s j).2=s.2++[j] \/ (BO k s j).2=s.2:=by
   unfold BO
   cases IntKind.i64.wrap (s.1.1.1 - j.2.1) != (s.1.1.2.2.1.getD j.1.toNat bg).2.2.1 with
   | true=>exact .inl rfl
   | false=>cases j.2.2.2.1==2 <;> exact .inr rfl
  rcases this with q | q
  ·exact ⟨j::l,f3.cons_cons j,by rw [f4,q];simp⟩
  ·exact ⟨l,f3.cons j,by rw [f4,q]⟩
theorem MN (now:Int) (bs:List WB) (j:jc):uq now bs j=j \/ uq now bs j=z7 j true:=by
 unfold uq
 cases j.2.2.2.1 != 2 with
 | false=>exact .inl rfl
 | true =>
  rw [cond_true]
  cases decide (IntKind.i64.wrap (now - j.2.1)≥(bs.getD j.1.toNat bd0).2.2.2.2) with
  | false=>exact .inl rfl
  | true=>exact .inr rfl
theorem GO.prom {K:jd} {j:jc} (h:GO K j) (now:Int) (bs:List WB):GO K (uq now bs j):=by
 rcases MN now bs j with e | e <;> rw [e]
 ·exact h
 ·exact ⟨⟨h.js.m,h.js.kept,h.js.held,h.js.pos⟩,h.few,h.held,h.task,h.phase,h.m⟩
theorem GO.loses {K:jd} {j:jc} (h:GO K j) (s:Int):GO K (zk j s):=by
 have hl:=List.length_filter_le (fun x=>!(x==s)) j.2.2.2.2.2.2.1
 exact ⟨WJ h.js s,h.few,by have:=h.held;show (DN _ _).length <= 90;unfold DN;omega,h.task,h.phase,h.m⟩
def uw (T:Tb) (ps:List Int) (j:jc):jc:=ps.foldl (fun j a=>bif decide (qm (fun x=>a==x) (p9 (jr T))≥0) then zk j (qm (fun x=>a==x) (p9 (jr T))) else j) j
def GA (now:Int):List Int -> List (List Int) -> List je
 | a::l,w=>[(now,11,0,a,0,0)]++(w.headD []).map (fun c=>(now,12,0,c,0,15))++GA now l w.tail
 | [],_=>[]
theorem OM {now:Int}:∀ (l:List Int) (w:List (List Int)),(∀ x∈w,x.length <= 200) -> (GA now l w).length <= 201 * l.length
 | [],w,_=>by simp [GA]
 | a::l,[],h=>by have:=OM (now:=now) l [] (by simp);simp only [GA,List.length_append,List.length_cons,List.length_nil,List.tail_nil,List.headD_nil,List.map_nil];omega
 | a::l,x::w,h=>by
  have:=OM (now:=now) l w (fun y hy=>h y (by simp [hy]))
  have hx:=h x (by simp)
  simp only [GA,List.length_append,List.length_cons,List.length_nil,List.tail_cons,List.headD_cons,List.length_map];omega
theorem abC {T:Tb}:∀ (ps:List Int) (w:List (List Int)) (u:jg),u.1.2.2.2.2.2.2.2.2.1=T -> KO ps w u=(w7 u.1 (u.1.2.2.2.2.2.2.2.1.map (uw T ps)),u.2++GA u.1.1 ps w)
 | [],w,u,h=>by
  unfold KO uw GA
  simp only [List.foldl_nil,List.map_id',List.append_nil];rfl
 | a::l,w,u,h=>by
  have hf:∀ (w:List Int) (u:jg),w.foldl MH u=(u.1,u.2++w.map (fun c=>(u.1.1,12,0,c,0,15))):=fun w=>by
   induction w with
   | nil=>intro u;simp
   | cons c w ih=>intro u;rw [List.foldl_cons,ih];simp [MH,j4]
  have e:abx u a (w.headD [])=(w7 u.1 (u.1.2.2.2.2.2.2.2.1.map fun j=>bif decide (qm (fun x=>a==x) (p9 (jr T))≥0) then zk j (qm (fun x=>a==x) (p9 (jr T))) else j),u.2++([(u.1.1,11,0,a,0,0)]++(w.headD []).map (fun c=>(u.1.1,12,0,c,0,15)))):=by
   unfold abx
   simp only
   rw [hf,h]
   cases decide (qm (fun x=>a==x) (p9 (jr T))≥0) with
   | true=>simp only [cond_true,j4,List.append_assoc]
   | false=>simp only [cond_false,j4,List.append_assoc,List.map_id'];rfl
  rw [KO,e,abC l w.tail _ (by exact h)]
  unfold uw
  simp only [List.foldl_cons,GA,List.append_assoc]
  refine Prod.ext ?_ rfl
  show w7 (w7 u.1 _) (List.map _ (List.map _ _))=_
  rw [List.map_map]
  rfl
theorem UL (k:Nat) (u:jg) (hT:yh u.1.2.2.2.2.2.2.2.2.1):aby k u=(w7 (w8 u.1 (u.1.2.2.2.2.2.2.2.2.1.1,(um k u.1.2.2.2.2.2.2.2.2.1).1)) (u.1.2.2.2.2.2.2.2.1.map (uw u.1.2.2.2.2.2.2.2.2.1 (um k u.1.2.2.2.2.2.2.2.2.1).2.1)),u.2++GA u.1.1 (um k u.1.2.2.2.2.2.2.2.2.1).2.1 (um k u.1.2.2.2.2.2.2.2.2.1).2.2):=by
 have h3:=(YL (k:=k) hT).2.2.1
 have e:∀ (T T2:Tb) (ps:List Int),jr T2=jr T -> uw T2 ps=uw T ps:=fun T T2 ps h=>by funext j;unfold uw;rw [h]
 unfold aby
 rw [abC (T:=(u.1.2.2.2.2.2.2.2.2.1.1,(um k u.1.2.2.2.2.2.2.2.2.1).1)) _ _ _ rfl,e _ _ _ h3]
 rfl
theorem EL {T:Tb}:∀ (ps:List Int) (j:jc),(uw T ps j=w6 j (uw T ps j).2.2.2.2.2.2.1) /\ (∀ x∈(uw T ps j).2.2.2.2.2.2.1,x∈j.2.2.2.2.2.2.1) /\ ∀ K:jd,GO K j -> GO K (uw T ps j)
 | [],j=>⟨rfl,fun x h=>h,fun K h=>h⟩
 | a::ps,j=>by
  unfold uw
  rw [List.foldl_cons]
  cases decide (qm (fun x=>a==x) (p9 (jr T))≥0) with
  | false=>exact EL ps j
  | true =>
   rw [cond_true]
   obtain ⟨h1,h2,h3⟩:=EL (T:=T) ps (zk j (qm (fun x=>a==x) (p9 (jr T))))
   exact ⟨h1,fun x hx=>(List.mem_filter.1 (h2 x hx)).1,fun K h=>h3 K (h.loses _)⟩
structure TI (K:jd) (u:jg):Prop where
 same:∃ h T w js,u.1=w7 (chg K h T w) js
 tab:yh u.1.2.2.2.2.2.2.2.2.1
 sem:jr u.1.2.2.2.2.2.2.2.2.1=jr K.2.2.2.2.2.2.2.2.1
 row:u.1.2.2.2.2.2.2.2.2.2.1.length=K.2.2.1.length
 of:u.1.2.2.2.2.2.2.2.2.2.2.length=K.2.2.1.length
 go:∀ j∈u.1.2.2.2.2.2.2.2.1,GO K j
 MQ:rising u.1.2.2.2.2.2.2.2.1
 ev:u.2.length <= 100000
theorem TI.tasks {K:jd} {u:jg} (h:TI K u):u.1.2.2.1=K.2.2.1 /\ u.1.2.2.2.1=K.2.2.2.1 /\ u.1.1=K.1 /\ u.1.2.2.2.2.2.2.1=K.2.2.2.2.2.2.1:=by obtain ⟨a,b,c,d,e⟩:=h.same;rw [e];exact ⟨rfl,rfl,rfl,rfl⟩
theorem TI.len {K:jd} {u:jg} (h:TI K u) (h8:K.2.2.1.length <= 8):u.1.2.2.2.2.2.2.2.1.length <= 8:=by
 have:=CX h.MQ (fun j hj=>(h.go j hj).task) (by omega)
 omega
theorem TI.ends {K:jd} (h:KJ K) (k:Nat):TI K (qb k (K,[])) /\ (qb k (K,[])).2.length <= 24:=by
 obtain ⟨⟨a,T,w,e,g1,g2,g3,g4,g5⟩,f2,l,f3,f4⟩:=UK (K:=K) (k:=k) K.2.2.2.2.2.2.2.1 ((K,[]),[]) (UI.start h.ji.ks.tab [])
 have h1:=h.ji.row
 have h2:=h.ji.of
 have hl:=h.len
 have hev:(qb k (K,[])).2.length <= 24:=by
  show (List.foldl (BO k) ((K,[]),[]) K.2.2.2.2.2.2.2.1).1.2.length <= _
  simp only [List.length_nil] at f2;omega
 have ek:(qb k (K,[])).1=w7 (chg K a T w) l:=by
  show w7 (List.foldl (BO k) ((K,[]),[]) K.2.2.2.2.2.2.2.1).1.1 (List.foldl (BO k) ((K,[]),[]) K.2.2.2.2.2.2.2.1).2=_
  rw [e,f4];rfl
 exact ⟨⟨⟨a,T,w,l,ek⟩,by rw [ek];exact g1,by rw [ek];exact g3,by rw [ek];exact g4.trans h1,by rw [ek];exact g5.trans h2,by rw [ek];exact fun j hj=>h.go j (f3.subset hj),by rw [ek];exact List.Pairwise.sublist f3 h.MQ,by omega⟩,hev⟩
theorem TI.prom {K:jd} {u:jg} (h:TI K u):TI K (BH u):=by
 obtain ⟨a,b,c,d,e⟩:=h.same
 refine ⟨⟨a,b,c,d.map (uq K.1 K.2.2.2.1),by unfold BH;rw [e];rfl⟩,h.tab,h.sem,h.row,h.of,fun j hj=>?_,rising_map (fun j=>by rcases MN u.1.1 u.1.2.2.2.1 j with q | q <;> rw [q] <;> rfl) h.MQ,h.ev⟩
 obtain ⟨x,hx,rfl⟩:=List.mem_map.1 (show j∈List.map _ _ from hj)
 exact (h.go x hx).prom _ _
theorem TI.apC {K:jd} {u:jg} (h:TI K u) (he:u.2.length <= 24) (k:Nat):TI K (aby k u):=by
 obtain ⟨a1,a2,a3,a4,a5,a6,_⟩:=YL (k:=k) h.tab
 obtain ⟨a,b,c,d,e⟩:=h.same
 have hT:=h.tab.1.2.2
 have hw:=OM (now:=u.1.1) (um k u.1.2.2.2.2.2.2.2.2.1).2.1 (um k u.1.2.2.2.2.2.2.2.2.1).2.2 a5
 rw [UL k u h.tab]
 refine ⟨⟨a,(u.1.2.2.2.2.2.2.2.2.1.1,(um k u.1.2.2.2.2.2.2.2.2.1).1),c,u.1.2.2.2.2.2.2.2.1.map (uw u.1.2.2.2.2.2.2.2.2.1 (um k u.1.2.2.2.2.2.2.2.2.1).2.1),by rw [e];rfl⟩,a1,a3.trans h.sem,h.row,h.of,fun j hj=>?_,rising_map (fun j=>by rw [(EL _ j).1];rfl) h.MQ,by simp only [List.length_append];omega⟩
 obtain ⟨x,hx,rfl⟩:=List.mem_map.1 (show j∈List.map _ _ from hj)
 exact (EL _ x).2.2 K (h.go x hx)
noncomputable def oo (k:Nat) (K:jd):jg:=aby k (BH (qb k (K,[])))
noncomputable def lu (k:Nat) (K:jd):jd×List je :=
 bif K.2.2.2.2.1&&!K.2.2.2.2.2.1 then (w6 (w0 (zm k (oo k K)).1 (IntKind.i64.wrap ((zm k (oo k K)).1.1+1))) false,(zm k (oo k K)).2)
 else (w6 (w0 K (IntKind.i64.wrap (K.1+1))) false,[])
theorem KJ.ahead {K:jd} (h:KJ K) (k:Nat):TI K (oo k K):=by
 obtain ⟨t1,he1⟩:=TI.ends h k
 exact t1.prom.apC he1 k
theorem apD {k:Nat} (hk:1000 <= k) {K:jd} (h:KJ K):S33 k K=some (((lu k K).1,(lu k K).2,()),()):=by
 unfold S33 lu oo
 rw [UE hk h.ji.ks,Option.bind_some]
 simp only
 cases K.2.2.2.2.1 with
 | false=>rfl
 | true =>
  cases K.2.2.2.2.2.1 with
  | true=>rfl
  | false =>
   obtain ⟨t1,he1⟩:=TI.ends h k
   have h8:=h.EK
   have l1:=t1.len h8
   have t2:=t1.prom
   have l2:=t2.len h8
   have t3:=t2.apC he1 k
   have hb:=h.ji.bnd
   simp only [cond_true,Bool.not_false,Bool.and_self]
   rw [apw hk h.ji,Option.bind_some]
   simp only [YW]
   rw [apx hk (by omega) (fun j hj=>by rw [t1.tasks.2.1,hb];exact (t1.go j hj).task),Option.bind_some]
   simp only [YW]
   rw [apy hk t2.tab (by omega) (fun j hj=>(t2.go j hj).js) (by have:=t2.ev;omega),Option.bind_some]
   simp only [YW]
   rw [apB hk (by rw [t3.tasks.1];exact h.ji.ks.tasks) (by rw [t3.tasks.1];exact h8) t3.tab (fun j hj=>(t3.go j hj).congr t3.tasks.1) t3.MQ (by rw [t3.tasks.1];exact t3.row) (by have:=t3.of;omega) (by have:=t3.ev;omega),Option.bind_some]
   simp only [YW]
def ng (p:Int):List jc -> Nat
 | []=>0
 | j::l=>bif decide (j.1<p) then ng p l+1 else 0
theorem Q5 (p:Int):∀ (l:List jc) (n:Nat),n <= l.length -> (∀ a,a<n -> (l.getD a ay).1<p) -> (n<l.length -> ¬ (l.getD n ay).1<p) -> ng p l=n
 | [],n,h,_,_=>by simp at h;rw [h];rfl
 | x::l,0,_,_,h2=>by
  have h3:¬ x.1<p:=h2 (by simp)
  rw [ng,decide_eq_false h3,cond_false]
 | x::l,n+1,h,h1,h2=>by
  have h3:x.1<p:=h1 0 (by omega)
  rw [ng,decide_eq_true h3,cond_true,Q5 p l n (by simpa using h) (fun a ha=>h1 (a+1) (by omega)) (fun hn=>h2 (by simpa using hn))]
theorem YR (p:Int):∀ l:List jc,ng p l <= l.length
 | []=>Nat.le_refl _
 | x::l=>by
  rw [ng]
  cases decide (x.1<p) with
  | true=>rw [cond_true,List.length_cons];have:=YR p l;omega
  | false=>rw [cond_false];omega
theorem apE:∀ n:Fin 17,IntKind.i64.wrap (Ul .u64 (IntKind.u64.wrap (IntKind.i64.wrap ((n.1:Nat):Int))) 1)=((n.1 / 2:Nat):Int):=by decide
theorem akA {a b:Nat} (h:a+b <= 16):IntKind.i64.wrap (Ul .u64 (IntKind.u64.wrap (IntKind.i64.wrap ((a:Int)+(b:Int)))) 1)=(((a+b) / 2:Nat):Int):=by
 have:=apE ⟨a+b,by omega⟩
 simpa using this
theorem OO {k:Nat} {js:List jc} {p:Int} (hl:js.length <= 8) (hp:0 <= p /\ p <= 1000) (ht:∀ j∈js,0 <= j.1 /\ j.1 <= 1000) (hr:rising js):∀ (m fu a b:Nat),b - a <= m -> m<fu -> a <= b -> b <= js.length -> (∀ c,c<a -> (js.getD c ay).1<p) -> (∀ c,b <= c -> c<js.length -> p <= (js.getD c ay).1) ->
  SF k fu js p (js.length:Int) (a:Int) (b:Int)=some ((((ng p js:Nat):Int),decide (ng p js<js.length)&&(js.getD (ng p js) ay).1==p,()),())
 | m,fu,a,b,hm,hf,hab,hb,h1,h2=>by
  obtain ⟨f,rfl⟩:∃ f,fu=f+1:=⟨fu - 1,by omega⟩
  rw [aiB,ab5]
  by_cases h:a<b
  ·obtain ⟨m',rfl⟩:∃ m',m=m'+1:=⟨m - 1,by omega⟩
   have hc:(a+b) / 2<js.length:=by omega
   have hb2:=ht _ (jm (z:=ay) hc)
   rw [Sc (by omega),akA (by omega),Qo hc,Qp]
   unfold aiz
   rw [Option.bind_some,Uu (by omega) (by omega)]
   simp only
   have hmono:∀ x y,x<y -> y<js.length -> (js.getD x ay).1<(js.getD y ay).1:=fun x y hxy hy=>by
    rw [getD_in (by omega),getD_in hy];exact List.pairwise_iff_getElem.1 hr x y (by omega) hy hxy
   by_cases e:(js.getD ((a+b) / 2) ay).1 - p<0
   ·rw [Sc e,Mi (by omega)]
    exact OO hl hp ht hr m' f ((a+b) / 2+1) b (by omega) (by omega) (by omega) hb (fun c hc2=>by
     by_cases e2:c=(a+b) / 2
     ·subst e2;omega
     ·have:=hmono c ((a+b) / 2) (by omega) hc;omega) h2
   ·rw [Sd e]
    exact OO hl hp ht hr m' f a ((a+b) / 2) (by omega) (by omega) (by omega) (by omega) h1 (fun c hc2 hc3=>by
     by_cases e2:c=(a+b) / 2
     ·subst e2;omega
     ·have:=hmono ((a+b) / 2) c (by omega) hc3;omega)
  ·have hba:b=a:=by omega
   subst hba
   have hpos:ng p js=b:=Q5 p js b hb h1 (fun hn=>by have:=h2 b (by omega) hn;omega)
   rw [Sd (by omega),hpos]
   by_cases h3:b<js.length
   ·have hb2:=ht _ (jm (z:=ay) h3)
    rw [Sc (by omega),Qo h3,Qp]
    unfold aiz
    rw [Option.bind_some,Uu (by omega) (by omega),decide_eq_true h3,Bool.true_and]
    simp only
    congr 3
    by_cases e:(js.getD b ay).1=p
    ·rw [e];simp
    ·rw [beq_eq_false_iff_ne.2 e,beq_eq_false_iff_ne.2 (by omega)]
   ·rw [Sd (by omega),decide_eq_false h3];rfl
def FN (p now a:Int):jc:=(p,now,a,0,Vf a,Vf a,[],false)
def tq (K:jd) (p a:Int):jd×List je×Int :=
 bif !K.2.2.2.2.1 then (K,[],8)
 else bif K.2.2.2.2.2.1 then (K,[],17)
 else bif decide (p<0)||decide (p≥(K.2.2.1.length:Int)) then (K,[],3)
 else bif K.2.2.2.2.2.2.2.2.2.2.getD p.toNat false then (K,[],6)
 else
  let js:=K.2.2.2.2.2.2.2.1
  let i:=ng p js
  bif decide (i<js.length)&&(js.getD i ay).1==p then
   (bif (js.getD i ay).2.2.2.1 != 2 then (K,[],5)
       else (w7 K (js.take i++[FN p K.1 a]++js.drop (i+1)),[(K.1,13,p,0,0,0),(K.1,1,p,0,a,0)],0))
  else (w7 K (js.take i++[FN p K.1 a]++js.drop i),[(K.1,1,p,0,a,0)],0)
theorem apF {k:Nat} {js:List jc} {i:Nat} {x:jc} (h:i <= js.length) (hl:js.length <= 900):S73 k js (i:Int) [x]=some ((js.take i++[x]++js.drop i,()),()):=by
 unfold S73 Jg
 refine if_pos ?_
 simp only [Bool.and_eq_true]
 refine ⟨decide_eq_true (Int.natCast_nonneg i),decide_eq_true (Int.ofNat_le.2 h),decide_eq_true ?_⟩
 show (js.length+1) * _ <= _
 omega
theorem apG {k:Nat} {js:List jc} {i:Nat} (h:i<js.length) (hl:js.length <= 900):S72 k js (i:Int) (IntKind.i64.wrap ((i:Int)+1))=some ((js.take i++js.drop (i+1),()),()):=by
 have:=agc (k:=k) (x:=js.getD i ay) h hl
 rwa [Mj,HY] at this
theorem WM {k:Nat} {p a:Int} {K:jd} {e f:Int} {h i l:Bool} {ev:List je} {n:Nat} (hn:n <= K.2.2.2.2.2.2.2.1.length) (hl:K.2.2.2.2.2.2.2.1.length <= 900) (he:ev.length <= 10) :
  SH k p a K e f h i l ev (n:Int)=some ((w7 K (K.2.2.2.2.2.2.2.1.take n++[FN p K.1 a]++K.2.2.2.2.2.2.2.1.drop n),ev++[(K.1,1,p,0,a,0)],0,()),()):=by
 unfold SH S74 V9
 simp only [Option.bind_some]
 have e:=apF (k:=k) (x:=FN p K.1 a) hn hl
 unfold FN Vf at e ⊢
 rw [e,Option.bind_some,Rz (by simp;omega)]
theorem apH {k:Nat} (hk:1000 <= k) {K:jd} (h:KJ K) (p a:Int):S30 k K p a=some (((tq K p a).1,(tq K p a).2.1,(tq K p a).2.2,()),()):=by
 have h8:=h.len
 have h2:=h.EK
 have h5:=h.ji.of
 unfold S30 tq
 rw [UE hk h.ji.ks,Option.bind_some]
 simp only
 cases K.2.2.2.2.1 with
 | false=>rfl
 | true =>
  cases K.2.2.2.2.2.1 with
  | true=>rfl
  | false =>
   simp only [Bool.not_true,cond_false]
   by_cases hp1:p<0
   ·rw [Sc hp1,decide_eq_true hp1];rfl
   ·rw [Sd hp1,decide_eq_false hp1,Bool.false_or]
    by_cases hp2:p≥(K.2.2.1.length:Int)
    ·rw [Sc hp2,decide_eq_true hp2];rfl
    ·obtain ⟨n,rfl⟩:∃ n:Nat,p=(n:Int):=⟨p.toNat,by omega⟩
     rw [Sd hp2,decide_eq_false hp2,cond_false,Sc (by omega),Qo (by omega),Qp,Int.toNat_natCast]
     cases K.2.2.2.2.2.2.2.2.2.2.getD n false with
     | true=>rfl
     | false =>
      simp only [cond_false]
      have hfind:=OO (k:=k) (p:=(n:Int)) h8 (by omega) (fun j hj=>by have:=(h.go j hj).task;omega) h.MQ K.2.2.2.2.2.2.2.1.length k 0 K.2.2.2.2.2.2.2.1.length (by omega) (by omega) (by omega) (by omega) (fun c hc=>by omega) (fun c hc hc2=>by omega)
      have hle:=YR (n:Int) K.2.2.2.2.2.2.2.1
      unfold XF S71 aoL
      simp only
      rw [show SF k k K.2.2.2.2.2.2.2.1 (n:Int) (K.2.2.2.2.2.2.2.1.length:Int) 0 (K.2.2.2.2.2.2.2.1.length:Int)=_ from hfind]
      simp only [Option.bind_some]
      cases hc:decide (ng (n:Int) K.2.2.2.2.2.2.2.1<K.2.2.2.2.2.2.2.1.length)&&(K.2.2.2.2.2.2.2.1.getD (ng (n:Int) K.2.2.2.2.2.2.2.1) ay).1==(n:Int) with
      | false =>
       simp only [cond_false]
       rw [WM hle (by omega) (by simp)]
       rfl
      | true =>
       have hlt:ng (n:Int) K.2.2.2.2.2.2.2.1<K.2.2.2.2.2.2.2.1.length:=by
        rw [Bool.and_eq_true] at hc;exact of_decide_eq_true hc.1
       simp only [cond_true]
       rw [Qo hlt,Qp]
       cases (K.2.2.2.2.2.2.2.1.getD (ng (n:Int) K.2.2.2.2.2.2.2.1) ay).2.2.2.1 != 2 with
       | true=>rfl
       | false =>
        simp only [cond_false]
        rw [Rz (by simp),apG hlt (by omega),Option.bind_some]
        simp only [List.nil_append]
        have hx:(w7 K (K.2.2.2.2.2.2.2.1.take (ng (n:Int) K.2.2.2.2.2.2.2.1)++K.2.2.2.2.2.2.2.1.drop (ng (n:Int) K.2.2.2.2.2.2.2.1+1))).2.2.2.2.2.2.2.1=K.2.2.2.2.2.2.2.1.take (ng (n:Int) K.2.2.2.2.2.2.2.1)++K.2.2.2.2.2.2.2.1.drop (ng (n:Int) K.2.2.2.2.2.2.2.1+1):=rfl
        rw [WM (by rw [hx];simp;omega) (by rw [hx];simp;omega) (by simp),hx]
        generalize ng (n:Int) K.2.2.2.2.2.2.2.1=q at hlt
        generalize K.2.2.2.2.2.2.2.1=js at hlt
        have ht:(js.take q++js.drop (q+1)).take q=js.take q:=by
         rw [List.take_append_of_le_length (by simp;omega),List.take_take,Nat.min_self]
        have hd:(js.take q++js.drop (q+1)).drop q=js.drop (q+1):=by
         rw [List.drop_append_of_le_length (by simp;omega),List.drop_eq_nil_of_le (by simp;omega),List.nil_append]
        rw [ht,hd]
        rfl
def akB (n:Nat) (x:I4):Bool:=x.1==9&&decide (x.2.1≥(n:Int))
def I7 (n:Nat) (t:iw):Bool:=(t.2.2.2.1++t.2.2.2.2.1).any (akB n)
theorem akC {k:Nat} (hk:1000 <= k) {s:List I4} (h:s.length <= 900) (l:List jf):ad4 k s l=some ((qm (akB l.length) s,()),()):=by
 unfold ad4
 refine sw (fun j i=>IK k j s l (s.length:Int) i) s i0 _ (fun j i hi=>?_) (fun j=>?_) k (by omega)
 ·show IK k (j+1) s l (s.length:Int) (i:Int)=_
  rw [VA,QS,Sc (by omega),Qo hi,Mi (by omega),Qp]
  unfold S59 akB
  cases (s.getD i i0).1==9 <;> rfl
 ·show IK k (j+1) s l (s.length:Int) (s.length:Int)=_
  rw [VA,QS,Sd (by omega)]
def agd (ts:List iw) (l:List jf):List jf:=(List.range l.length).map (fun s:Nat=>(w9 ts (s:Int),(l.getD s s0).2))
noncomputable def uf (k:Nat) (K:jd):jd×Int :=
 bif K.2.2.2.2.1 then (K,7)
 else bif K.2.2.1.any (I7 (j6 K.2.2.2.2.2.2.2.2.1).length) then (K,4)
 else (w4 (EI k K (agd K.2.2.1 (j6 K.2.2.2.2.2.2.2.2.1))) true,0)
theorem apI {k:Nat} (hk:1000 <= k) {K:jd} (h:KS K):S23 k K=some (((uf k K).1,(uf k K).2,()),()):=by
 have hT:=h.tab
 have hle:=hT.1.2.2
 have hsl:=wo K.2.2.2.2.2.2.2.2.1
 have hll:=JD K.2.2.2.2.2.2.2.2.1
 have hL:=h.tasks
 unfold S23 uf
 rw [UE hk h,Option.bind_some]
 simp only
 cases hru:K.2.2.2.2.1 with
 | true=>rfl
 | false =>
  rw [cond_false,cond_false,OH hk hle,Option.bind_some]
  simp only
  generalize hlv:j6 K.2.2.2.2.2.2.2.2.1=l at hll
  have key2:∀ (m i j:Nat),i+m=l.length -> m<j -> XM k j K 0 0 false false false (((List.range i).map (fun s:Nat=>(w9 K.2.2.1 (s:Int),(l.getD s s0).2)))++l.drop i) (l.length:Int) (i:Int)=some ((w4 (EI k K (agd K.2.2.1 l)) true,0,()),()):=by
   intro m
   induction m with
   | zero =>
    intro i j hi hj
    obtain ⟨j,rfl⟩:∃ i,j=i+1:=⟨j - 1,by omega⟩
    rw [aaw,XL,Sd (by omega),drop_nil (by omega),List.append_nil,apv hk hT (by simp;omega),Option.bind_some]
    simp only [vrK]
    rw [show i=l.length by omega];rfl
   | succ m ih =>
    intro i j hi hj
    obtain ⟨j,rfl⟩:∃ i,j=i+1:=⟨j - 1,by omega⟩
    have hi':i<l.length:=by omega
    have hlen:i<((List.range i).map (fun s:Nat=>(w9 K.2.2.1 (s:Int),(l.getD s s0).2))++l.drop i).length:=by simp;omega
    have hg:((List.range i).map (fun s:Nat=>(w9 K.2.2.1 (s:Int),(l.getD s s0).2))++l.drop i).getD i s0=l.getD i s0:=by
     rw [lg (by simp),drop_cons s0 hi',show i - ((List.range i).map (fun s:Nat=>(w9 K.2.2.1 (s:Int),(l.getD s s0).2))).length=0 by simp];rfl
    have ih:=ih (i+1) j (by omega) (by omega)
    rw [aaw,XL,Sc (by omega),akp hk hL,Option.bind_some,Qo hlen,Mj,Qp,hg,Mi (by omega)]
    simp only
    rw [List.set_append_right _ _ (by simp),show i - ((List.range i).map (fun s:Nat=>(w9 K.2.2.1 (s:Int),(l.getD s s0).2))).length=0 by simp,drop_cons s0 hi',List.set_cons_zero]
    rw [List.range_succ,List.map_append,List.append_assoc] at ih
    exact ih
  have key:∀ (m i j:Nat),i+m=K.2.2.1.length -> m<j -> ad9 k j K 0 0 false false false l K.2.2.1 (K.2.2.1.length:Int) (i:Int)=bif (K.2.2.1.drop i).any (I7 l.length) then some ((K,4,()),()) else some ((w4 (EI k K (agd K.2.2.1 l)) true,0,()),()):=by
   intro m
   induction m with
   | zero =>
    intro i j hi hj
    obtain ⟨j,rfl⟩:∃ i,j=i+1:=⟨j - 1,by omega⟩
    have:=key2 l.length 0 k (by omega) (by omega)
    rw [aea,ad8,Sd (by omega),drop_nil (by omega)]
    exact this
   | succ m ih =>
    intro i j hi hj
    obtain ⟨j,rfl⟩:∃ i,j=i+1:=⟨j - 1,by omega⟩
    have hi':i<K.2.2.1.length:=by omega
    have hl:=hL.2 _ (jm (z:=bg) hi')
    rw [aea,ad8,Sc (by omega),Qo hi',Qp,akn hk hl.1.1 hl.1.2.1,Option.bind_some]
    unfold aoQ
    rw [akC hk hl.2]
    simp only [Option.bind_some,DR]
    rw [drop_cons bg hi',List.any_cons,Mi (by have:=hL.1;omega),ih (i+1) j (by omega) (by omega)]
    show (bif I7 l.length (K.2.2.1.getD i bg) then _ else _)=_
    cases I7 l.length (K.2.2.1.getD i bg) <;> rfl
  have:=key K.2.2.1.length 0 k (by omega) (by have:=hL.1;omega)
  rw [List.drop_zero] at this
  refine Eq.trans this ?_
  cases K.2.2.1.any (I7 l.length) <;> rfl
structure LV (l:List I4) (m:gy) (tr:List I4) (fin:Mem) (H:List Int):Prop where
 len:l.length <= 900
 ins:∀ x∈l,l5 x=true
 mem:inM m.2.1
 on:m.2.2.2=false
 run:∃ n n2:Nat,m.1=(n:Int) /\ Run l n m.2.1 m.2.2.1.reverse tr n2 fin [] /\ n2<l.length /\ (l.getD n2 i0).1=0
 hld:hld H tr=some []
theorem LV.mok {l:List I4} {m:gy} {tr:List I4} {fin:Mem} {H:List Int} (h:LV l m tr fin H):MOK l m /\ m.2.2.1.length <= 2:=by
 obtain ⟨n,n2,e,hr,h2,h0⟩:=h.run
 obtain ⟨pc,mem,rs,ov⟩:=m
 have e':pc=(n:Int):=e
 subst e'
 have key:n<l.length /\ rs.length <= 2 /\ ∀ r∈rs,r.2.2 <= 1000:=by
  have hr':Run l n mem rs.reverse tr n2 fin []:=hr
  generalize hR:rs.reverse=R at hr'
  have hrs:rs=R.reverse:=by rw [<- hR,List.reverse_reverse]
  subst hrs
  cases hr' with
  | nil=>exact ⟨h2,by simp,by simp⟩
  | cons a b c d f g i r=>exact ⟨a,by rw [List.length_reverse];exact d,fun r hr=>f r (List.mem_reverse.1 hr)⟩
 have hx:=h.ins _ (jm (z:=i0) key.1)
 exact ⟨⟨h.len,⟨by show (0:Int) <= (n:Int);omega,by show (n:Int).toNat<_;rw [Int.toNat_natCast];exact key.1⟩,hx,by have:=key.2.1;show rs.length <= 10;omega,key.2.2,h.mem,h.on⟩,key.2.1⟩
theorem LV.last {l:List I4} {m:gy} {fin:Mem} {H:List Int} (h:LV l m [] fin H):(pq l m).1=0 /\ (stepM l m).2.2.2=true /\ (stepM l m).2.1=fin /\ H=[]:=by
 have hH:=h.hld
 obtain ⟨n,n2,e,hr,h2,h0⟩:=h.run
 obtain ⟨pc,mem,rs,ov⟩:=m
 have e':pc=(n:Int):=e
 subst e'
 have hr':Run l n mem rs.reverse [] n2 fin []:=hr
 generalize hR:rs.reverse=R at hr'
 cases hr' with
 | nil =>
  have hx:∀ mm:Mem,(pq l ((n:Int),mm,rs,ov)).1=0:=fun mm=>by unfold pq;exact h0
  refine ⟨hx _,?_,?_,by simpa [Go.Proofs.YtjjjbcmjmkcedaaGreat.Ab.hld] using hH⟩
  ·unfold stepM
   simp only
   rw [hx];rfl
  ·unfold stepM
   simp only
   unfold V5
   rw [hx];rfl
def I8 (x:I4) (H:List Int):List Int:=bif x.1==9 then H++[x.2.1] else bif x.1==10 then H.dropLast else H
theorem UM {x:I4} {tr:List I4} {H:List Int} (h:hld H (x::tr)=some []):hld (I8 x H) tr=some [] /\ (x.1=9 -> H.length<2 /\ x.2.1 ∉ H) /\ (x.1=10 -> H.getLast? = some x.2.1) /\ (x.1=11 -> H=[]):=by
 rw [hld] at h
 unfold I8
 by_cases e9:x.1=9
 ·rw [if_pos e9] at h
  split at h
  ·rename_i q
   exact ⟨by rw [show (x.1==9)=true from beq_iff_eq.2 e9,cond_true];exact h,fun _=>q,fun e=>by omega,fun e=>by omega⟩
  ·cases h
 ·rw [if_neg e9] at h
  rw [beq_eq_false_iff_ne.2 e9,cond_false]
  by_cases e10:x.1=10
  ·rw [if_pos e10] at h
   split at h
   ·rename_i q
    exact ⟨by rw [show (x.1==10)=true from beq_iff_eq.2 e10,cond_true];exact h,fun e=>absurd e e9,fun _=>q,fun e=>by omega⟩
   ·cases h
  ·rw [if_neg e10] at h
   rw [beq_eq_false_iff_ne.2 e10,cond_false]
   by_cases e11:x.1=11
   ·rw [if_pos e11] at h
    split at h
    ·rename_i q
     exact ⟨h,fun e=>absurd e e9,fun e=>absurd e e10,fun _=>q⟩
    ·cases h
   ·rw [if_neg e11] at h
    exact ⟨h,fun e=>absurd e e9,fun e=>absurd e e10,fun e=>absurd e e11⟩
theorem LV.step {l:List I4} {m:gy} {x:I4} {tr:List I4} {fin:Mem} {H:List Int} (h:LV l m (x::tr) fin H):pq l m=x /\ (stepM l m).2.2.2=false /\ LV l (stepM l m) tr fin (I8 x H):=by
 have hH:=(UM h.hld).1
 obtain ⟨n,n2,e,hr,h2,h0⟩:=h.run
 obtain ⟨pc,mem,rs,ov⟩:=m
 have e':pc=(n:Int):=e
 subst e'
 have hr':Run l n mem rs.reverse (x::tr) n2 fin []:=hr
 generalize hR:rs.reverse=R at hr'
 cases hr' with
 | cons a b c d f g i r =>
  rename_i n1 R1
  have hx:pq l ((n:Int),mem,rs,ov)=x:=by unfold pq;exact b
  have hov:(stepM l ((n:Int),mem,rs,ov)).2.2.2=false:=by
   unfold stepM
   simp only
   rw [hx];exact beq_eq_false_iff_ne.2 c
  have hxm:=h.ins _ (jm (z:=i0) a)
  rw [b] at hxm
  have e1:stepM l ((n:Int),mem,rs,ov)=((n1:Int),V5 x mem,R1.reverse,false):=by
   unfold stepM
   simp only
   rw [hx,hR,Int.toNat_natCast,g,beq_eq_false_iff_ne.2 c]
  refine ⟨hx,hov,?_⟩
  rw [e1]
  exact ⟨h.len,h.ins,aj7 hxm h.mem,rfl,⟨n1,n2,rfl,by show Run l n1 (V5 x mem) R1.reverse.reverse tr n2 fin [];rw [List.reverse_reverse];exact r,h2,h0⟩,hH⟩
theorem ahi (t:Tr):(t.prog.getD t.len i0).1=0:=by
 unfold Tr.prog
 rw [lg (by rw [jv];omega),jv,Nat.sub_self];rfl
def abD (l:List I4) (a:Int) (fin:Mem):Prop:=∃ t:Tr,l=t.prog /\ Ok 0 [] false t /\ t.len<24 /\ fin=(DF t (amo a)).2
theorem LV.new {l:List I4} (h:yw l=true) {a:Int} (ha:GI a):∃ tr fin,LV l (Vf a) tr fin [] /\ abD l a fin:=by
 obtain ⟨t,h1,rfl,h2⟩:=M5 h
 have hm:∀ x∈t.prog,l5 x=true:=aa1 h1
 exact ⟨_,_,⟨by rw [xw];omega,hm,amq a ha,rfl,⟨0,t.len,rfl,aj8 h1 (amo a),by rw [xw];omega,ahi t⟩,DI (amo a) h1⟩,t,rfl,h1,h2,rfl⟩
theorem akD {h H:List Int} {a:Int} (hs:h.Sublist (H++[a])):h.Sublist H \/ ∃ r,h=r++[a] /\ r.Sublist H:=by
 obtain ⟨l1,l2,e,h1,h2⟩:=List.sublist_append_iff.1 hs
 cases l2 with
 | nil=>rw [e,List.append_nil];exact .inl h1
 | cons b r =>
  have hl:=h2.length_le
  have hr:r=[]:=by cases r with | nil=>rfl | cons c d=>simp at hl
  subst hr
  have hb:b=a:=by have:=h2.subset (List.mem_cons_self (a:=b));simpa using this
  exact .inr ⟨l1,by rw [e,hb],h1⟩
theorem abE {a:Int} {l:List Int} (h:a ∉ l):∀ n,n <= l.length -> unl a l n=l
 | 0,_=>rfl
 | n+1,hn=>by
  rw [unl,if_neg (fun e=>h (by rw [<- e];exact jm (by omega)))]
  exact abE h n (by omega)
theorem ahj {x:I4} {h H:List Int} {tr:List I4} (hs:h.Sublist H) (hn:H.Nodup) (hh:hld H (x::tr)=some []):(I5 x h).Sublist (I8 x H) /\ (I8 x H).Nodup:=by
 obtain ⟨_,a1,a2,_⟩:=UM hh
 unfold I5 I8
 by_cases e9:x.1=9
 ·rw [show (x.1==9)=true from beq_iff_eq.2 e9,cond_true,cond_true]
  refine ⟨List.Sublist.append hs (List.Sublist.refl _),?_⟩
  rw [List.nodup_append]
  refine ⟨hn,by simp,fun y hy z hz=>?_⟩
  rw [List.mem_singleton] at hz
  rw [hz];exact fun e=>(a1 e9).2 (by rw [<- e];exact hy)
 ·rw [beq_eq_false_iff_ne.2 e9,cond_false,cond_false]
  by_cases e10:x.1=10
  ·rw [show (x.1==10)=true from beq_iff_eq.2 e10,cond_true,cond_true]
   have hl:=a2 e10
   rcases List.eq_nil_or_concat H with rfl | ⟨r,y,rfl⟩
   ·cases hl
   ·rw [List.concat_eq_append] at *
    simp only [List.getLast?_append,List.getLast?_singleton,Option.some_or,Option.some.injEq] at hl
    subst hl
    rw [List.dropLast_concat]
    rw [List.nodup_append] at hn
    have hnr:x.2.1 ∉ r:=fun q=>hn.2.2 _ q _ (List.mem_singleton.2 rfl) rfl
    refine ⟨?_,hn.1⟩
    rcases akD hs with q | ⟨w,q,hw⟩
    ·rw [abE (fun m=>hnr (q.subset m)) _ (Nat.le_refl _)];exact q
    ·subst q
     rw [List.length_append,List.length_singleton,unl,if_pos (by rw [lg (Nat.le_refl _),Nat.sub_self];rfl)]
     simpa using hw
  ·rw [beq_eq_false_iff_ne.2 e10,cond_false,cond_false]
   exact ⟨hs,hn⟩
structure TW (t:iw):Prop where
 light:zi t /\ (t.2.2.2.1++t.2.2.2.2.1).length <= 900
 may:GJ t=0
theorem TW.code {t:iw} (h:TW t):yw t.2.2.2.1=true /\ (t.2.2.2.2.1=[] \/ yw t.2.2.2.2.1=true) /\ (t.2.2.2.2.2=[] \/ yw t.2.2.2.2.2=true) /\ amH t.2.2.2.2.2=false:=by
 obtain ⟨_,_,_,z4,z5,z6,z7,_⟩:=EF.1 h.may
 exact ⟨z4,z5,z6,z7⟩
structure JW (ts:List iw) (a:Int) (j:jc):Prop where
 task:0 <= j.1 /\ j.1<(ts.length:Int)
 phase:0 <= j.2.2.2.1 /\ j.2.2.2.1 <= 2
 arg:GI j.2.2.1
 own:j.2.2.2.1≠2 -> a=j.2.2.1
 m:∃ tr fin H,LV (qj (ts.getD j.1.toNat bg) j.2.2.2.1) j.2.2.2.2.1 tr fin H /\ abD (qj (ts.getD j.1.toNat bg) j.2.2.2.1) a fin /\ H.Nodup /\ H.length <= 2 /\ (∀ x∈H,0 <= x /\ x <= 3) /\ j.2.2.2.2.2.2.1.Sublist H
 kept:∃ tr fin,LV (qj (ts.getD j.1.toNat bg) j.2.2.2.1) j.2.2.2.2.2.1 tr fin [] /\ abD (qj (ts.getD j.1.toNat bg) j.2.2.2.1) a fin
theorem JW.go {K:jd} {a:Int} {j:jc} (h:JW K.2.2.1 a j):GO K j /\ j.2.2.2.2.2.2.1.length <= 2 /\ ∀ x∈j.2.2.2.2.2.2.1,0 <= x /\ x <= 3:=by
 obtain ⟨tr,fin,H,h1,_,_,h3,h4,h5⟩:=h.m
 obtain ⟨tr2,asY,h6,_⟩:=h.kept
 have m1:=h1.mok
 have m2:=h6.mok
 have hl:=h5.length_le
 exact ⟨⟨⟨by omega,by omega,by omega,fun x hx=>(h4 x (h5.subset hx)).1⟩,by omega,by omega,h.task,h.phase,m1.1⟩,by omega,fun x hx=>h4 x (h5.subset hx)⟩
theorem JW.same {ts:List iw} {a:Int} {j j2:jc} (h:JW ts a j) (e1:j2.1=j.1) (e2:j2.2.2.1=j.2.2.1) (e3:j2.2.2.2.1=j.2.2.2.1) (e4:j2.2.2.2.2.1=j.2.2.2.2.1) (e5:j2.2.2.2.2.2.1=j.2.2.2.2.2.1) (e6:j2.2.2.2.2.2.2.1.Sublist j.2.2.2.2.2.2.1):JW ts a j2:=by
 obtain ⟨tr,fin,H,h1,h2,h3,h4,h5,h6⟩:=h.m
 refine ⟨by rw [e1];exact h.task,by rw [e3];exact h.phase,by rw [e2];exact h.arg,by rw [e2,e3];exact h.own,⟨tr,fin,H,?_,?_,h3,h4,h5,e6.trans h6⟩,?_⟩
 ·rw [e1,e3,e4];exact h1
 ·rw [e1,e3];exact h2
 ·rw [e1,e3,e5];exact h.kept
theorem JW.prom {ts:List iw} {a:Int} {j:jc} (h:JW ts a j) (now:Int) (bs:List WB):JW ts a (uq now bs j):=by
 rcases MN now bs j with e | e <;> rw [e]
 ·exact h
 ·exact h.same rfl rfl rfl rfl rfl (List.Sublist.refl _)
theorem OQ {T:Tb}:∀ (ps:List Int) (j:jc),(uw T ps j).2.2.2.2.2.2.1.Sublist j.2.2.2.2.2.2.1
 | [],j=>List.Sublist.refl _
 | a::ps,j=>by
  unfold uw
  rw [List.foldl_cons]
  cases decide (qm (fun x=>a==x) (p9 (jr T))≥0) with
  | false=>exact OQ ps j
  | true=>exact (OQ ps _).trans List.filter_sublist
theorem JW.loss {ts:List iw} {a:Int} {j:jc} (h:JW ts a j) (T:Tb) (ps:List Int):JW ts a (uw T ps j):=by
 have e:=(EL (T:=T) ps j).1
 have hs:=OQ (T:=T) ps j
 refine h.same ?_ ?_ ?_ ?_ ?_ hs
 all_goals rw [e];rfl
theorem JW.goes {ts:List iw} {a:Int} {j:jc} (h:JW ts a j):((y5 (ts.getD j.1.toNat bg) j).2.2.2.2.1.2.2.2=false -> JW ts a (y5 (ts.getD j.1.toNat bg) j)) /\ ((y5 (ts.getD j.1.toNat bg) j).2.2.2.2.1.2.2.2=true -> j.2.2.2.2.2.2.1=[] /\ (y5 (ts.getD j.1.toNat bg) j).2.2.2.2.2.2.1=[] /\ abD (qj (ts.getD j.1.toNat bg) j.2.2.2.1) a (y5 (ts.getD j.1.toNat bg) j).2.2.2.2.1.2.1 /\ (pq (qj (ts.getD j.1.toNat bg) j.2.2.2.1) j.2.2.2.2.1).1=0) /\ inM (y5 (ts.getD j.1.toNat bg) j).2.2.2.2.1.2.1:=by
 obtain ⟨tr,fin,H,h1,h2,h3,h4,h5,h6⟩:=h.m
 cases tr with
 | nil =>
  obtain ⟨l1,l2,l3,l4⟩:=h1.last
  have hz:j.2.2.2.2.2.2.1=[]:=by rw [l4] at h6;exact List.sublist_nil.1 h6
  refine ⟨fun e=>absurd (l2.symm.trans e) (by decide),fun _=>⟨hz,?_,?_,l1⟩,?_⟩
  ·show I5 (pq _ _) j.2.2.2.2.2.2.1=[]
   unfold I5
   rw [l1,hz];rfl
  ·show abD _ a (stepM _ _).2.1
   rw [l3];exact h2
  ·exact aj7 h1.mok.1.may h1.mem
 | cons x tr =>
  obtain ⟨e1,e2,e3⟩:=h1.step
  have hH:=UM h1.hld
  have hst:=ahj h6 h3 h1.hld
  refine ⟨fun _=>⟨h.task,h.phase,h.arg,h.own,⟨tr,fin,I8 x H,e3,h2,hst.2,?_,?_,?_⟩,?_⟩,fun e=>absurd (e2.symm.trans e) (by decide),e3.mem⟩
  ·unfold I8
   by_cases e9:x.1=9
   ·rw [show (x.1==9)=true from beq_iff_eq.2 e9,cond_true,List.length_append];have:=(hH.2.1 e9).1;simp only [List.length_singleton];omega
   ·rw [beq_eq_false_iff_ne.2 e9,cond_false]
    cases x.1==10 with
    | true=>rw [cond_true,List.length_dropLast];omega
    | false=>rw [cond_false];exact h4
  ·intro y hy
   unfold I8 at hy
   by_cases e9:x.1=9
   ·rw [show (x.1==9)=true from beq_iff_eq.2 e9,cond_true,List.mem_append,List.mem_singleton] at hy
    rcases hy with q | q
    ·exact h5 y q
    ·have hxm:=h1.mok.1.may
     rw [e1] at hxm
     rw [q];exact (amn hxm (.inl e9)).1
   ·rw [beq_eq_false_iff_ne.2 e9,cond_false] at hy
    cases e10:x.1==10 with
    | true=>rw [e10,cond_true] at hy;exact h5 y (List.dropLast_subset _ hy)
    | false=>rw [e10,cond_false] at hy;exact h5 y hy
  ·show (I5 (pq _ _) _).Sublist _
   rw [e1];exact hst.1
  ·show ∃ tr fin,LV _ (bif (pq (qj (ts.getD j.1.toNat bg) j.2.2.2.1) j.2.2.2.2.1).1==11 then stepM (qj (ts.getD j.1.toNat bg) j.2.2.2.1) j.2.2.2.2.1 else j.2.2.2.2.2.1) tr fin [] /\ _
   rw [e1]
   by_cases e11:x.1=11
   ·rw [show (x.1==11)=true from beq_iff_eq.2 e11,cond_true]
    have e:I8 x H=[]:=by
     unfold I8
     rw [e11];exact hH.2.2.2 e11
    rw [e] at e3
    exact ⟨tr,fin,e3,h2⟩
   ·rw [beq_eq_false_iff_ne.2 e11,cond_false];exact h.kept
theorem JW.begin {ts:List iw} {a:Int} (ha:GI a) {j:jc} (h:0 <= j.1 /\ j.1<(ts.length:Int)) (hp:0 <= j.2.2.2.1 /\ j.2.2.2.1 <= 2) (hi:GI j.2.2.1) (ho:j.2.2.2.1≠2 -> a=j.2.2.1) (hm:yw (qj (ts.getD j.1.toNat bg) j.2.2.2.1)=true) (e1:j.2.2.2.2.1=Vf a) (e2:j.2.2.2.2.2.1=Vf a) (e3:j.2.2.2.2.2.2.1=[]):JW ts a j:=by
 obtain ⟨tr,fin,h1,h2⟩:=LV.new hm ha
 exact ⟨h,hp,hi,ho,⟨tr,fin,[],by rw [e1];exact h1,h2,by simp,by simp,by simp,by rw [e3];exact List.Sublist.refl _⟩,⟨tr,fin,by rw [e2];exact h1,h2⟩⟩
theorem JW.opt {ts:List iw} {j:jc} (h:0 <= j.1 /\ j.1<(ts.length:Int)) (hi:GI j.2.2.1) (hm:inM j.2.2.2.2.1.2.1) (ht:TW (ts.getD j.1.toNat bg)) (hne:((ts.getD j.1.toNat bg).2.2.2.2.2.length:Int)≠0):JW ts j.2.2.2.2.1.2.1.1 (acH j):=by
 refine JW.begin (hm _ (by simp [Gv])) h ⟨by show (0:Int) <= 2;omega,by show (2:Int) <= 2;omega⟩ hi (fun e=>absurd rfl e) ?_ rfl rfl rfl
 rcases ht.code.2.2.1 with q | q
 ·rw [q] at hne;simp at hne
 ·exact q
theorem JW.back {ts:List iw} {a:Int} {j:jc} (h:JW ts a j) (ht:TW (ts.getD j.1.toNat bg)):JW ts a (MJ (ts.getD j.1.toNat bg) j):=by
 unfold MJ
 cases hc:(j.2.2.2.1==0)&&decide (((ts.getD j.1.toNat bg).2.2.2.2.1.length:Int)>0) with
 | false =>
  obtain ⟨tr,fin,h1,h2⟩:=h.kept
  exact ⟨h.task,h.phase,h.arg,h.own,⟨tr,fin,[],h1,h2,by simp,by simp,by simp,List.Sublist.refl _⟩,⟨tr,fin,h1,h2⟩⟩
 | true =>
  rw [Bool.and_eq_true] at hc
  have hw:=of_decide_eq_true hc.2
  have ea:a=j.2.2.1:=h.own (by rw [eq_of_beq hc.1];decide)
  rw [ea]
  refine JW.begin h.arg h.task ⟨by show (0:Int) <= 1;omega,by show (1:Int) <= 2;omega⟩ h.arg (fun _=>rfl) ?_ rfl rfl rfl
  rcases ht.code.2.1 with q | q
  ·rw [q] at hw;simp at hw
  ·exact q
theorem JW.FN {ts:List iw} {p now a:Int} (hp:0 <= p /\ p<(ts.length:Int)) (ha:GI a) (ht:TW (ts.getD p.toNat bg)):JW ts a (FN p now a) :=
 JW.begin ha hp ⟨by show (0:Int) <= 0;omega,by show (0:Int) <= 2;omega⟩ ha (fun _=>rfl) ht.code.1 rfl rfl rfl
structure KW (K:jd):Prop where
 EK:K.2.2.1.length <= 8
 task:∀ t∈K.2.2.1,TW t
 bnd:K.2.2.2.1.length=K.2.2.1.length
 tab:yh K.2.2.2.2.2.2.2.2.1
 job:∀ j∈K.2.2.2.2.2.2.2.1,∃ a,JW K.2.2.1 a j
 MQ:rising K.2.2.2.2.2.2.2.1
 row:K.2.2.2.2.1=true -> K.2.2.2.2.2.2.2.2.2.1.length=K.2.2.1.length /\ K.2.2.2.2.2.2.2.2.2.2.length=K.2.2.1.length
 off:K.2.2.2.2.1=false -> K.2.2.2.2.2.2.2.1=[] /\ K.2.2.2.2.2.2.2.2.2.1=[] /\ K.2.2.2.2.2.2.2.2.2.2=[]
theorem KW.light {K:jd} (h:KW K):p8 K.2.2.1:=⟨by have:=h.EK;omega,fun t ht=>(h.task t ht).light⟩
theorem KW.len {K:jd} (h:KW K):K.2.2.2.2.2.2.2.1.length <= 8:=by
 have:=CX h.MQ (fun j hj=>(h.job j hj).elim fun a q=>q.task) (by omega)
 have:=h.EK
 omega
theorem KW.ks {K:jd} (h:KW K):KS K:=by
 have h8:=h.EK
 have hb:=h.bnd
 have hl:=h.len
 refine ⟨h.light,by omega,by omega,fun j hj=>(h.job j hj).elim fun a q=>q.go.1.js,h.tab,?_,?_⟩
 ·cases hr:K.2.2.2.2.1 with
  | true=>have:=(h.row hr).1;omega
  | false=>rw [(h.off hr).2.1];simp
 ·cases hr:K.2.2.2.2.1 with
  | true=>have:=(h.row hr).2;omega
  | false=>rw [(h.off hr).2.2];simp
theorem KW.kj {K:jd} (h:KW K) (hr:K.2.2.2.2.1=true):KJ K :=
 ⟨⟨h.ks,h.bnd,(h.row hr).1,(h.row hr).2,fun j hj=>(h.job j hj).elim fun a q=>q.task⟩,h.EK,fun j hj=>(h.job j hj).elim fun a q=>q.go.1,h.MQ⟩
theorem agf {k:Nat} (hk:1000 <= k) {K:jd} (h:KW K):S33 k K=some (((lu k K).1,(lu k K).2,()),()):=by
 cases hr:K.2.2.2.2.1 with
 | true=>exact apD hk (h.kj hr)
 | false =>
  unfold S33 lu
  rw [UE hk h.ks,Option.bind_some]
  simp only
  rw [hr];rfl
theorem akE {k:Nat} (hk:1000 <= k) {K:jd} (h:KW K) (p a:Int):S30 k K p a=some (((tq K p a).1,(tq K p a).2.1,(tq K p a).2.2,()),()):=by
 cases hr:K.2.2.2.2.1 with
 | true=>exact apH hk (h.kj hr) p a
 | false =>
  unfold S30 tq
  rw [UE hk h.ks,Option.bind_some]
  simp only
  rw [hr];rfl
theorem KQ (u:jg):(BH u).1.2.2.2.2.2.2.2.1=u.1.2.2.2.2.2.2.2.1.map (uq u.1.1 u.1.2.2.2.1):=rfl
theorem KR (k:Nat) (K:jd):(qb k (K,[])).1.2.2.2.2.2.2.2.1=(K.2.2.2.2.2.2.2.1.foldl (BO k) ((K,[]),[])).2:=rfl
theorem FP (T:Tb) (ps:List Int) (j:jc):(uw T ps j).1=j.1 /\ (uw T ps j).2.1=j.2.1 /\ (uw T ps j).2.2.1=j.2.2.1 /\ (uw T ps j).2.2.2.1=j.2.2.2.1:=by
 have e:=(EL (T:=T) ps j).1
 generalize uw T ps j=x at e
 rw [e];exact ⟨rfl,rfl,rfl,rfl⟩
theorem FQ (now:Int) (bs:List WB) (j:jc):(uq now bs j).1=j.1 /\ (uq now bs j).2.1=j.2.1 /\ (uq now bs j).2.2.1=j.2.2.1 /\ (uq now bs j).2.2.2.1=j.2.2.2.1:=by
 rcases MN now bs j with e | e <;> rw [e] <;> exact ⟨rfl,rfl,rfl,rfl⟩
theorem anj (K:jd) (x:List jc):(w7 K x).2.2.2.2.2.2.2.1=x:=rfl
theorem ahk {k:Nat} {K:jd} (h:KJ K) {j:jc} (hj:j∈(oo k K).1.2.2.2.2.2.2.2.1):∃ x∈K.2.2.2.2.2.2.2.1,(∀ ts a,JW ts a x -> JW ts a j) /\ j.1=x.1 /\ j.2.1=x.2.1 /\ j.2.2.1=x.2.2.1 /\ j.2.2.2.1=x.2.2.2.1:=by
 obtain ⟨t1,he1⟩:=TI.ends h k
 have t2:=t1.prom
 unfold oo at hj
 rw [UL k _ t2.tab] at hj
 simp only [anj,KQ] at hj
 obtain ⟨y,hy,rfl⟩:=List.mem_map.1 hj
 obtain ⟨x,hx,rfl⟩:=List.mem_map.1 hy
 rw [KR] at hx
 obtain ⟨_,_,l,f3,f4⟩:=UK (K:=K) (k:=k) K.2.2.2.2.2.2.2.1 ((K,[]),[]) (UI.start h.ji.ks.tab [])
 rw [f4,List.nil_append] at hx
 have hx2:x∈K.2.2.2.2.2.2.2.1:=f3.subset hx
 have hp:∀ ts a,JW ts a x -> JW ts a (uq (qb k (K,[])).1.1 (qb k (K,[])).1.2.2.2.1 x):=fun ts a q=>q.prom _ _
 obtain ⟨a1,a2,a3,a4⟩:=FQ (qb k (K,[])).1.1 (qb k (K,[])).1.2.2.2.1 x
 generalize uq (qb k (K,[])).1.1 (qb k (K,[])).1.2.2.2.1 x=y at a1 a2 a3 a4 hp ⊢
 obtain ⟨b1,b2,b3,b4⟩:=FP (BH (qb k (K,[]))).1.2.2.2.2.2.2.2.2.1 (um k (BH (qb k (K,[]))).1.2.2.2.2.2.2.2.2.1).2.1 y
 exact ⟨x,hx2,fun ts a q=>(hp ts a q).loss _ _,b1.trans a1,b2.trans a2,b3.trans a3,b4.trans a4⟩
theorem apJ {k:Nat} {u:jg} {j:jc} {a:Int} (h:JW u.1.2.2.1 a j) (ht:∀ t∈u.1.2.2.1,TW t):(GK k u j).2.2.1=j.1 /\ ((GK k u j).1=false -> ∃ b,JW u.1.2.2.1 b (GK k u j).2.2):=by
 have htk:=h.task
 have Lx:=ht _ (jm (z:=bg) (show j.1.toNat<u.1.2.2.1.length by omega))
 unfold GK
 cases u.1.2.2.2.2.2.2.1 with
 | true =>
  rw [cond_true]
  unfold MK ahd
  simp only
  rw [show (j4 u (0,2,j.1,0,0,0)).1.2.2.1=u.1.2.2.1 from rfl]
  cases j.2.2.2.1==2 with
  | true=>exact ⟨rfl,fun e=>absurd e (by simp)⟩
  | false =>
   have hb:=h.back Lx
   refine ⟨?_,fun _=>⟨a,hb⟩⟩
   show (MJ _ j).1=j.1
   unfold MJ
   cases (j.2.2.2.1==0)&&decide (((u.1.2.2.1.getD j.1.toNat bg).2.2.2.2.1.length:Int)>0) <;> rfl
 | false =>
  rw [cond_false]
  obtain ⟨g1,g2,g3⟩:=h.goes
  unfold K5
  simp only
  rw [show (j4 u (0,2,j.1,0,0,0)).1.2.2.1=u.1.2.2.1 from rfl]
  have fin:∀ v:jg,v.1.2.2.1=u.1.2.2.1 -> ((bif (y5 (u.1.2.2.1.getD j.1.toNat bg) j).2.2.2.2.1.2.2.2 then sj v (y5 (u.1.2.2.1.getD j.1.toNat bg) j) else (false,v,y5 (u.1.2.2.1.getD j.1.toNat bg) j)):MI).2.2.1=j.1 /\ (((bif (y5 (u.1.2.2.1.getD j.1.toNat bg) j).2.2.2.2.1.2.2.2 then sj v (y5 (u.1.2.2.1.getD j.1.toNat bg) j) else (false,v,y5 (u.1.2.2.1.getD j.1.toNat bg) j)):MI).1=false -> ∃ b,JW u.1.2.2.1 b ((bif (y5 (u.1.2.2.1.getD j.1.toNat bg) j).2.2.2.2.1.2.2.2 then sj v (y5 (u.1.2.2.1.getD j.1.toNat bg) j) else (false,v,y5 (u.1.2.2.1.getD j.1.toNat bg) j)):MI).2.2):=fun v hv=>by
   cases ho:(y5 (u.1.2.2.1.getD j.1.toNat bg) j).2.2.2.2.1.2.2.2 with
   | false=>exact ⟨rfl,fun _=>⟨a,g1 ho⟩⟩
   | true =>
    rw [cond_true]
    unfold sj
    cases (y5 (u.1.2.2.1.getD j.1.toNat bg) j).2.2.2.1==2 with
    | true=>exact ⟨rfl,fun e=>absurd e (by simp)⟩
    | false =>
     refine ⟨rfl,fun e=>?_⟩
     rw [hv] at e
     exact ⟨_,JW.opt (j:=y5 (u.1.2.2.1.getD j.1.toNat bg) j) h.task h.arg g3 Lx (by
      intro q
      rw [cond_false] at e
      rw [show ((y5 (u.1.2.2.1.getD j.1.toNat bg) j).1)=j.1 from rfl] at e q
      rw [q] at e;exact absurd (show (true:Bool)=false from e) (by decide))⟩
  generalize pq (qj (u.1.2.2.1.getD j.1.toNat bg) j.2.2.2.1) j.2.2.2.2.1=x
  cases x.1==9 with
  | true=>exact fin _ rfl
  | false =>
   cases x.1==10 with
   | true=>exact fin _ rfl
   | false=>exact fin _ rfl
theorem acJ {js:List jc}:rising js↔(js.map (fun j=>j.1)).Pairwise (·<·):=by
 unfold rising;rw [List.pairwise_map]
theorem acK {js:List jc} (h:rising js) {i:Nat} {x:jc} (hx:x.1=(js.getD i ay).1):rising (js.set i x):=by
 rw [acJ] at h ⊢
 rw [List.map_set]
 by_cases hi:i<js.length
 ·have e:(js.map (fun j=>j.1)).set i x.1=js.map (fun j=>j.1):=by
   rw [hx,<- ML (f:=fun j:jc=>j.1) ay 0 hi];exact HY
  rw [e];exact h
 ·rw [List.set_eq_of_length_le (by rw [List.length_map];omega)];exact h
theorem ank {k:Nat} {K:jd} {u:jg} (t:TI K u) (hK:KJ K) (hr:K.2.2.2.2.1=true) (ht:∀ t∈K.2.2.1,TW t) (hj:∀ j∈u.1.2.2.2.2.2.2.2.1,∃ a,JW K.2.2.1 a j) :
  ∃ h T w js,(zm k u).1=w7 (chg K h T w) js /\ yh T /\ jr T=jr K.2.2.2.2.2.2.2.2.1 /\ w.1.length=K.2.2.1.length /\ w.2.length=K.2.2.1.length /\ (∀ j∈js,∃ a,JW K.2.2.1 a j) /\ rising js:=by
 obtain ⟨h,T,w,js,e⟩:=t.same
 have e3:=t.tasks.1
 have hT:yh T:=by have:=t.tab;rw [e] at this;exact this
 have hS:jr T=jr K.2.2.2.2.2.2.2.2.1:=by have:=t.sem;rw [e] at this;exact this
 have hw1:w.1.length=K.2.2.1.length:=by have:=t.row;rw [e] at this;exact this
 have hw2:w.2.length=K.2.2.1.length:=by have:=t.of;rw [e] at this;exact this
 have ejs:u.1.2.2.2.2.2.2.2.1=js:=by rw [e];rfl
 have hris:rising js:=by rw [<- ejs];exact t.MQ
 unfold zm
 cases hc:u.1.2.2.2.2.2.1||u.1.2.2.2.2.2.2.2.1.isEmpty with
 | true=>exact ⟨h,T,w,js,e,hT,hS,hw1,hw2,by rw [<- ejs];exact hj,hris⟩
 | false =>
  rw [cond_false]
  rw [Bool.or_eq_false_iff] at hc
  have hmin:=next_lt hc.2 (u.1.2.2.1.length:Int) (j6 u.1.2.2.2.2.2.2.2.2.1)
  simp only
  generalize I6 u.1.2.2.2.2.2.2.2.1 (u.1.2.2.1.length:Int) (j6 u.1.2.2.2.2.2.2.2.2.1)=i at hmin ⊢
  obtain ⟨a,ha⟩:=hj _ (jm (z:=ay) hmin)
  rw [<- e3] at ha
  obtain ⟨g1,g2⟩:=apJ (k:=k) ha (by rw [e3];exact ht)
  obtain ⟨T2,w2,q,q1,q2,q3,q4,q5⟩:=CH.run t.tab k (u.1.2.2.2.2.2.2.2.1.getD i ay)
  generalize GK k u (u.1.2.2.2.2.2.2.2.1.getD i ay)=r at g1 g2 q ⊢
  have hsm:=t.tab
  have Lv:T2.2.length=T.2.length /\ jr T2=jr T /\ w2.1.length=w.1.length /\ w2.2.length=w.2.length:=by
   rw [e] at q2 q3 q4 q5 hsm
   exact ⟨q2,q3 hsm,q4,q5⟩
  refine ⟨h,T2,w2,(bif r.1 then u.1.2.2.2.2.2.2.2.1.take i++u.1.2.2.2.2.2.2.2.1.drop (i+1) else u.1.2.2.2.2.2.2.2.1.set i r.2.2),?_,q1 hsm,Lv.2.1.trans hS,Lv.2.2.1.trans hw1,Lv.2.2.2.trans hw2,?_⟩
  ·generalize (bif r.1 then u.1.2.2.2.2.2.2.2.1.take i++u.1.2.2.2.2.2.2.2.1.drop (i+1) else u.1.2.2.2.2.2.2.2.1.set i r.2.2)=l
   rw [q,e];rfl
  cases hb:r.1 with
  | true =>
   rw [cond_true]
   have hsub:(u.1.2.2.2.2.2.2.2.1.take i++u.1.2.2.2.2.2.2.2.1.drop (i+1)).Sublist u.1.2.2.2.2.2.2.2.1:=by rw [<- List.eraseIdx_eq_take_drop_succ];exact List.eraseIdx_sublist _ _
   exact ⟨fun j hm=>hj j (hsub.subset hm),List.Pairwise.sublist hsub t.MQ⟩
  | false =>
   rw [cond_false]
   refine ⟨fun j hm=>?_,acK t.MQ g1⟩
   rcases List.mem_or_eq_of_mem_set hm with q | q
   ·exact hj j q
   ·rw [q];have:=g2 hb;rw [e3] at this;exact this
theorem FT {k:Nat} {K:jd} (h:KW K):KW (lu k K).1 /\ (lu k K).1.2.2.1=K.2.2.1 /\ (lu k K).1.2.2.2.1=K.2.2.2.1 /\ (lu k K).1.2.2.2.2.1=K.2.2.2.2.1 /\ (lu k K).1.1=IntKind.i64.wrap (K.1+1) /\ (lu k K).1.2.1=K.2.1 /\ (lu k K).1.2.2.2.2.2.2.1=false /\ jr (lu k K).1.2.2.2.2.2.2.2.2.1=jr K.2.2.2.2.2.2.2.2.1:=by
 unfold lu
 cases hc:K.2.2.2.2.1&&!K.2.2.2.2.2.1 with
 | false=>exact ⟨⟨h.EK,h.task,h.bnd,h.tab,h.job,h.MQ,h.row,h.off⟩,rfl,rfl,rfl,rfl,rfl,rfl,rfl⟩
 | true =>
  rw [Bool.and_eq_true] at hc
  have hkj:=h.kj hc.1
  obtain ⟨b,T,w,js,e,g1,g2,g3,g4,g5,g6⟩:=ank (k:=k) (hkj.ahead k) hkj hc.1 h.task (fun j hj=>by
   obtain ⟨x,hx,q,_⟩:=ahk hkj hj
   obtain ⟨a,ha⟩:=h.job x hx
   exact ⟨a,q _ _ ha⟩)
  rw [cond_true,e]
  exact ⟨⟨h.EK,h.task,h.bnd,g1,g5,g6,fun _=>⟨g3,g4⟩,fun q=>absurd (hc.1.symm.trans q) (by decide)⟩,rfl,rfl,rfl,rfl,rfl,rfl,g2⟩
theorem OT (p:Int):∀ l:List jc,∀ a,a<ng p l -> (l.getD a ay).1<p
 | [],a,h=>by simp [ng] at h
 | x::l,a,h=>by
  rw [ng] at h
  by_cases hx:x.1<p
  ·rw [decide_eq_true hx,cond_true] at h
   cases a with
   | zero=>exact hx
   | succ a=>exact OT p l a (by omega)
  ·rw [decide_eq_false hx,cond_false] at h;omega
theorem WO (p:Int):∀ l:List jc,ng p l<l.length -> ¬ (l.getD (ng p l) ay).1<p
 | [],h=>by simp at h
 | x::l,h=>by
  by_cases hx:x.1<p
  ·have e:ng p (x::l)=ng p l+1:=by rw [ng,decide_eq_true hx,cond_true]
   rw [e] at h ⊢
   exact WO p l (by simp only [List.length_cons] at h;omega)
  ·have e:ng p (x::l)=0:=by rw [ng,decide_eq_false hx,cond_false]
   rw [e];exact hx
theorem UN {js:List jc} (h:rising js) {p:Int} {x:jc} (hx:x.1=p) {n:Nat} (hn:ng p js <= n) (hs:n <= js.length) (ha:∀ a,n <= a -> a<js.length -> p<(js.getD a ay).1):rising (js.take (ng p js)++[x]++js.drop n):=by
 unfold rising at h ⊢
 have hat:∀ y∈js.take (ng p js),y.1<p:=fun y hy=>by
  obtain ⟨a,ha,e⟩:=List.mem_iff_getElem.1 hy
  rw [List.length_take] at ha
  rw [List.getElem_take] at e
  have:=OT p js a (by omega)
  rw [getD_in (by omega),e] at this
  exact this
 have hdr:∀ y∈js.drop n,p<y.1:=fun y hy=>by
  obtain ⟨a,hb,e⟩:=List.mem_iff_getElem.1 hy
  rw [List.length_drop] at hb
  rw [List.getElem_drop] at e
  have:=ha (n+a) (by omega) (by omega)
  rw [getD_in (by omega),e] at this
  exact this
 rw [List.append_assoc,List.pairwise_append]
 refine ⟨List.Pairwise.sublist (List.take_sublist _ _) h,?_,?_⟩
 ·rw [List.singleton_append,List.pairwise_cons]
  exact ⟨fun y hy=>by rw [hx];exact hdr y hy,List.Pairwise.sublist (List.drop_sublist _ _) h⟩
 ·intro a ha b hb
  rw [List.singleton_append,List.mem_cons] at hb
  have:=hat a ha
  rcases hb with q | q
  ·rw [q,hx];exact this
  ·have:=hdr b q;omega
theorem JE {K:jd} (hr:rising K.2.2.2.2.2.2.2.1) (p a:Int):((tq K p a).1=K /\ (tq K p a).2.1=[] /\ (tq K p a).2.2≠0) \/
  (K.2.2.2.2.1=true /\ K.2.2.2.2.2.1=false /\ (0 <= p /\ p<(K.2.2.1.length:Int)) /\ (tq K p a).2.2=0 /\ ∃ n,ng p K.2.2.2.2.2.2.2.1 <= n /\ n <= K.2.2.2.2.2.2.2.1.length /\ (tq K p a).1=w7 K (K.2.2.2.2.2.2.2.1.take (ng p K.2.2.2.2.2.2.2.1)++[FN p K.1 a]++K.2.2.2.2.2.2.2.1.drop n) /\
   rising (K.2.2.2.2.2.2.2.1.take (ng p K.2.2.2.2.2.2.2.1)++[FN p K.1 a]++K.2.2.2.2.2.2.2.1.drop n) /\
   ((n=ng p K.2.2.2.2.2.2.2.1 /\ (∀ j∈K.2.2.2.2.2.2.2.1,j.1≠p) /\ (tq K p a).2.1=[(K.1,1,p,0,a,0)]) \/
       (n=ng p K.2.2.2.2.2.2.2.1+1 /\ (K.2.2.2.2.2.2.2.1.getD (ng p K.2.2.2.2.2.2.2.1) ay).1=p /\ (K.2.2.2.2.2.2.2.1.getD (ng p K.2.2.2.2.2.2.2.1) ay).2.2.2.1=2 /\ (tq K p a).2.1=[(K.1,13,p,0,0,0),(K.1,1,p,0,a,0)]))):=by
 cases hru:K.2.2.2.2.1 with
 | false=>exact .inl (by unfold tq;rw [hru];exact ⟨rfl,rfl,(show (8:Int)≠0 by decide)⟩)
 | true =>
  cases hha:K.2.2.2.2.2.1 with
  | true=>exact .inl (by unfold tq;rw [hru,hha];exact ⟨rfl,rfl,(show (17:Int)≠0 by decide)⟩)
  | false =>
   cases hp:decide (p<0)||decide (p≥(K.2.2.1.length:Int)) with
   | true=>exact .inl (by unfold tq;rw [hru,hha,hp];exact ⟨rfl,rfl,(show (3:Int)≠0 by decide)⟩)
   | false =>
    have hp':=hp
    rw [Bool.or_eq_false_iff] at hp
    have p1:=of_decide_eq_false hp.1
    have p2:=of_decide_eq_false hp.2
    cases hof:K.2.2.2.2.2.2.2.2.2.2.getD p.toNat false with
    | true=>exact .inl (by unfold tq;rw [hru,hha,hp',hof];exact ⟨rfl,rfl,(show (6:Int)≠0 by decide)⟩)
    | false =>
     have hle:=YR p K.2.2.2.2.2.2.2.1
     have hstop:=WO p K.2.2.2.2.2.2.2.1
     have mono:∀ x y,x<y -> y<K.2.2.2.2.2.2.2.1.length -> (K.2.2.2.2.2.2.2.1.getD x ay).1<(K.2.2.2.2.2.2.2.1.getD y ay).1:=fun x y hxy hy=>by
      rw [getD_in (by omega),getD_in hy];exact List.pairwise_iff_getElem.1 hr x y (by omega) hy hxy
     cases hc:decide (ng p K.2.2.2.2.2.2.2.1<K.2.2.2.2.2.2.2.1.length)&&(K.2.2.2.2.2.2.2.1.getD (ng p K.2.2.2.2.2.2.2.1) ay).1==p with
     | true =>
      have hc':=hc
      rw [Bool.and_eq_true] at hc
      have c1:=of_decide_eq_true hc.1
      have c2:=eq_of_beq hc.2
      cases hph:(K.2.2.2.2.2.2.2.1.getD (ng p K.2.2.2.2.2.2.2.1) ay).2.2.2.1 != 2 with
      | true=>exact .inl (by unfold tq;rw [hru,hha,hp',hof];simp only [Bool.not_true,cond_false];rw [hc',hph];exact ⟨rfl,rfl,(show (5:Int)≠0 by decide)⟩)
      | false =>
       have e:tq K p a=(w7 K (K.2.2.2.2.2.2.2.1.take (ng p K.2.2.2.2.2.2.2.1)++[FN p K.1 a]++K.2.2.2.2.2.2.2.1.drop (ng p K.2.2.2.2.2.2.2.1+1)),[(K.1,13,p,0,0,0),(K.1,1,p,0,a,0)],0):=by unfold tq;rw [hru,hha,hp',hof];simp only [Bool.not_true,cond_false];rw [hc',hph];rfl
       rw [e]
       refine .inr ⟨rfl,rfl,⟨by omega,by omega⟩,rfl,ng p K.2.2.2.2.2.2.2.1+1,by omega,by omega,rfl,UN (p:=p) (x:=FN p K.1 a) hr rfl (by omega) (by omega) (fun b h1 h2=>?_),.inr ⟨rfl,c2,by simpa using hph,rfl⟩⟩
       have:=mono (ng p K.2.2.2.2.2.2.2.1) b (by omega) h2
       omega
     | false =>
      have e:tq K p a=(w7 K (K.2.2.2.2.2.2.2.1.take (ng p K.2.2.2.2.2.2.2.1)++[FN p K.1 a]++K.2.2.2.2.2.2.2.1.drop (ng p K.2.2.2.2.2.2.2.1)),[(K.1,1,p,0,a,0)],0):=by unfold tq;rw [hru,hha,hp',hof];simp only [Bool.not_true,cond_false];rw [hc];rfl
      rw [e]
      have hgt:∀ b,ng p K.2.2.2.2.2.2.2.1 <= b -> b<K.2.2.2.2.2.2.2.1.length -> p<(K.2.2.2.2.2.2.2.1.getD b ay).1:=fun b h1 h2=>by
       have c0:=hstop (by omega)
       have c1:(K.2.2.2.2.2.2.2.1.getD (ng p K.2.2.2.2.2.2.2.1) ay).1≠p:=fun e=>by
        rw [e,decide_eq_true (show ng p K.2.2.2.2.2.2.2.1<K.2.2.2.2.2.2.2.1.length by omega)] at hc
        simp at hc
       by_cases e:b=ng p K.2.2.2.2.2.2.2.1
       ·rw [e];omega
       ·have:=mono (ng p K.2.2.2.2.2.2.2.1) b (by omega) h2
        omega
      refine .inr ⟨rfl,rfl,⟨by omega,by omega⟩,rfl,ng p K.2.2.2.2.2.2.2.1,Nat.le_refl _,hle,rfl,UN (p:=p) (x:=FN p K.1 a) hr rfl (Nat.le_refl _) hle hgt,.inl ⟨rfl,fun j hj e=>?_,rfl⟩⟩
      obtain ⟨b,hb,eb⟩:=u7 ay hj
      by_cases q:b<ng p K.2.2.2.2.2.2.2.1
      ·have:=OT p _ b q;rw [eb] at this;omega
      ·have:=hgt b (by omega) hb;rw [eb] at this;omega
theorem apK {K:jd} (h:KW K) {p a:Int} (ha:GI a):KW (tq K p a).1:=by
 rcases JE h.MQ p a with ⟨e,_⟩ | ⟨hru,hha,hp,_,n,h1,h2,e,hris,_⟩
 ·rw [e];exact h
 ·rw [e]
  refine ⟨h.EK,h.task,h.bnd,h.tab,fun j hj=>?_,hris,h.row,fun q=>absurd (hru.symm.trans q) (by decide)⟩
  have Lx:=h.task _ (jm (z:=bg) (show p.toNat<K.2.2.1.length by omega))
  rcases List.mem_append.1 (show j∈_++_ from hj) with hj | hj
  ·rcases List.mem_append.1 hj with hj | hj
   ·exact h.job j (List.mem_of_mem_take hj)
   ·rw [List.mem_singleton] at hj;rw [hj];exact ⟨a,JW.FN hp ha Lx⟩
  ·exact h.job j (List.mem_of_mem_drop hj)
abbrev Stp:Type:=Int×(Int×iw×(Int×Int)×Int×Int×Int)×Int×Int
def stp (kd:Int) (t:iw):Stp:=(1,(kd,t,(0,0),0,0,0),0,0)
abbrev zt:iw:=(0,0,0,[],[],[])
def opS (b:Bool) (kd:Int):List Stp:=bif b then [stp kd zt] else []
theorem abF {k:Nat} (hk:1000 <= k) {p:List Int} {lo:Int} (hl:0 <= lo /\ lo <= 4):∀ (m j:Nat) (n:Int) (l:List Stp),m<j -> l.length+m <= 10 -> xg p n ->
  ∃ (tl:List iw) (bx fl:Bool) (n':Int),aaV k j p n l lo (m:Int)=some ((l++tl.map (stp 1)++opS bx 3++opS fl 4++[stp 5 zt],()),(p,n',()),()) /\ xg p n' /\ tl.length=m /\ ∀ t∈tl,∃ r,MT lo r t
 | 0,j,n,l,hj,hm,hp=>by
  obtain ⟨j',rfl⟩:∃ j',j=j'+1:=⟨j - 1,by omega⟩
  obtain ⟨v,n1,e1,hv,hp1⟩:=l6 k hp (show (0:Int)<3 by omega)
  obtain ⟨w,n2,e2,hw,hp2⟩:=l6 k hp1 (show (0:Int)<3 by omega)
  rw [ae6,ae5,Sd (by omega),e1,Option.bind_some]
  simp only
  have tail:∀ l2:List Stp,l2.length <= 20 -> TH k p n1 l2=some ((l2++opS (w==0) 4++[stp 5 zt],()),(p,n2,()),()):=fun l2 hl2=>by
   unfold TH
   rw [e2,Option.bind_some]
   simp only
   unfold Yi Q8 opS stp
   cases w==0 with
   | true =>
    simp only [cond_true,Option.bind_some]
    rw [Rz (by simp only [List.length_cons,List.length_nil];omega),Rz (by simp only [List.length_append,List.length_cons,List.length_nil];omega)]
   | false =>
    simp only [cond_false,Option.bind_some,List.append_nil]
    rw [Rz (by simp only [List.length_cons,List.length_nil];omega)]
  refine ⟨[],v==0,w==0,n2,?_,hp2,rfl,fun t h=>by cases h⟩
  cases v==0 with
  | true =>
   rw [cond_true]
   unfold Q8
   rw [Option.bind_some,Rz (by simp only [List.length_cons,List.length_nil];omega),tail _ (by simp only [List.length_append,List.length_cons,List.length_nil];omega)]
   simp [opS,stp]
  | false =>
   rw [cond_false,tail _ (by omega)]
   simp [opS]
 | m+1,j,n,l,hj,hm,hp=>by
  obtain ⟨j',rfl⟩:∃ j',j=j'+1:=⟨j - 1,by omega⟩
  obtain ⟨v,n1,e1,hv,hp1⟩:=l6 k hp (show (0:Int)<3 by omega)
  rw [ae6,ae5,Sc (by omega),e1,Option.bind_some]
  simp only
  obtain ⟨t,n2,e2,hp2,ht⟩:=akj hk (rank:=IntKind.i64.wrap (IntKind.i64.wrap (3 * ((m+1:Nat):Int))+v)) hl hp1
  rw [e2,Option.bind_some]
  simp only
  unfold Q8
  rw [Option.bind_some,Rz (by simp only [List.length_cons,List.length_nil];omega),Uu (n:=((m+1:Nat):Int) - 1) (by omega) (by omega),show ((m+1:Nat):Int) - 1=(m:Int) by omega]
  obtain ⟨tl,bx,fl,n',q1,q2,q3,q4⟩:=abF hk hl m j' n2 (l++[stp 1 t]) (by omega) (by simp only [List.length_append,List.length_cons,List.length_nil];omega) hp2
  refine ⟨t::tl,bx,fl,n',?_,q2,by simp [q3],fun x hx=>?_⟩
  ·show aaV k j' p n2 (l++[stp 1 t]) lo (m:Int)=_
   rw [q1];simp
  ·rcases List.mem_cons.1 hx with rfl | h
   ·exact ⟨_,ht⟩
   ·exact q4 x h
theorem abG {k:Nat} (hk:1000 <= k) {p:List Int} {lo:Nat} (hl:lo <= 4):∀ (d i j:Nat) (n:Int) ,i+d=lo -> d<j -> xg p n ->
  ∃ (tl:List iw) (bx fl:Bool) (n':Int),ae8 k j p n (List.replicate i (stp 2 zt)) (lo:Int) (i:Int)=some ((List.replicate lo (stp 2 zt)++tl.map (stp 1)++opS bx 3++opS fl 4++[stp 5 zt],()),(p,n',()),()) /\ xg p n' /\ tl.length <= 4 /\ ∀ t∈tl,∃ r,MT lo r t
 | 0,i,j,n,h,hj,hp=>by
  obtain ⟨j',rfl⟩:∃ j',j=j'+1:=⟨j - 1,by omega⟩
  obtain ⟨v,n1,e1,hv,hp1⟩:=l6 k hp (show (0:Int)<4 by omega)
  rw [ae9,ae7,Sd (by omega),e1,Option.bind_some]
  simp only
  rw [Uu (n:=v+1) (by omega) (by omega),show v+1=(((v+1).toNat:Nat):Int) by omega]
  obtain ⟨tl,bx,fl,n',q1,q2,q3,q4⟩:=abF hk (lo:=lo) (by omega) (v+1).toNat k n1 (List.replicate i (stp 2 zt)) (by omega) (by rw [List.length_replicate];omega) hp1
  have:i=lo:=by omega
  subst this
  exact ⟨tl,bx,fl,n',q1,q2,by omega,q4⟩
 | d+1,i,j,n,h,hj,hp=>by
  obtain ⟨j',rfl⟩:∃ j',j=j'+1:=⟨j - 1,by omega⟩
  rw [ae9,ae7,Sc (by omega)]
  unfold Q8
  rw [Option.bind_some,Rz (by simp only [List.length_replicate,List.length_cons,List.length_nil];omega),Mi (by omega)]
  obtain ⟨tl,bx,fl,n',q1,q2⟩:=abG hk hl d (i+1) j' n (by omega) (by omega) hp
  rw [List.replicate_succ'] at q1
  exact ⟨tl,bx,fl,n',q1,q2⟩
theorem apL {k:Nat} (hk:1000 <= k) {p:List Int} {n:Int} (hp:xg p n) :
  ∃ (lo:Nat) (tl:List iw) (bx fl:Bool) (n':Int),S17 k p n=some ((List.replicate lo (stp 2 zt)++tl.map (stp 1)++opS bx 3++opS fl 4++[stp 5 zt],()),(p,n',()),()) /\ xg p n' /\ lo <= 3 /\ tl.length <= 4 /\ ∀ t∈tl,∃ r,MT lo r t:=by
 obtain ⟨v,n1,e1,hv,hp1⟩:=l6 k hp (show (0:Int)<4 by omega)
 obtain ⟨m,rfl⟩:∃ m:Nat,v=(m:Int):=⟨v.toNat,by omega⟩
 obtain ⟨tl,bx,fl,n',q1,q2,q3,q4⟩:=abG hk (lo:=m) (by omega) m 0 k n1 (by omega) (by omega) hp1
 refine ⟨m,tl,bx,fl,n',?_,q2,by omega,q3,q4⟩
 unfold S17
 rw [e1,Option.bind_some]
 exact q1
structure SW (s:Stp):Prop where
 light:zi s.2.1.2.1 /\ (s.2.1.2.1.2.2.2.1++s.2.1.2.1.2.2.2.2.1).length <= 900
 arg:GI s.2.1.2.2.2.2.1
theorem SW.zero (a:Int) (b:Int) (h:Int×Int) (c d e:Int) (f:Int×Int) (hd:GI d):SW (a,(b,bg,h,c,d,e),f):=⟨⟨⟨by simp,by simp,by simp⟩,by simp⟩,hd⟩
theorem MT.cat {jy rank:Int} {t:iw} (h:MT jy rank t):(t.2.2.2.1++t.2.2.2.2.1).length <= 900:=by
 obtain ⟨m,e,_,hm⟩:=h.main
 rw [List.length_append,e,xw]
 rcases h.way with q | q | q <;> rw [q] <;> simp <;> omega
theorem akF {k:Nat} (hk:1000 <= k) {p:List Int} {n:Int} (hp:xg p n):∃ (l:List Stp) (n':Int),S17 k p n=some ((l,()),(p,n',()),()) /\ xg p n' /\ (∀ s∈l,SW s) /\ l.length <= 10:=by
 obtain ⟨lo,tl,bx,fl,n',e,hp2,hlo,has,hm⟩:=apL (k:=k) hk hp
 have i0:GI 0:=⟨by omega,by omega⟩
 have o:∀ (b:Bool) (n:Int),(opS b n).length <= 1 /\ ∀ s∈opS b n,SW s:=fun b n=>by
  cases b with
  | false=>exact ⟨by simp [opS],fun s h=>by cases h⟩
  | true=>exact ⟨by simp [opS],fun s h=>by rw [opS,cond_true,List.mem_singleton] at h;rw [h];exact SW.zero _ _ _ _ _ _ _ i0⟩
 have o1:=o bx 3
 have o2:=o fl 4
 refine ⟨_,n',e,hp2,fun s hs=>?_,by simp only [List.length_append,List.length_replicate,List.length_map,List.length_cons,List.length_nil];omega⟩
 simp only [List.mem_append,List.mem_replicate,List.mem_map,List.mem_singleton] at hs
 rcases hs with (((⟨_,rfl⟩ | ⟨t,ht,rfl⟩) | q) | q) | rfl
 ·exact SW.zero _ _ _ _ _ _ _ i0
 ·obtain ⟨r,hr⟩:=hm t ht
  exact ⟨⟨hr.light,hr.cat⟩,i0⟩
 ·exact o1.2 s q
 ·exact o2.2 s q
 ·exact SW.zero _ _ _ _ _ _ _ i0
theorem apM {k:Nat} (hk:1000 <= k) {p:List Int} {n:Int} (hp:xg p n):∃ (s:Stp) (n':Int),S38 k p n=some ((s,()),(p,n',()),()) /\ xg p n' /\ SW s:=by
 obtain ⟨a,n1,e1,h1,hp1⟩:=l6 k hp (show (0:Int)<8 by omega)
 obtain ⟨b,n2,e2,h2,hp2⟩:=l6 k hp1 (show (0:Int)<5 by omega)
 obtain ⟨v,n3,e3,h3,hp3⟩:=l6 k hp2 (show (0:Int)<24 by omega)
 have i0:GI 0:=⟨by omega,by omega⟩
 unfold S38 Q8
 rw [e1,Option.bind_some]
 simp only
 rw [e2,Option.bind_some]
 simp only
 rw [e3,Option.bind_some]
 simp only
 have rel:∃ (s:Stp) (n':Int),((AX k p n3 6).bind fun q3=>(AX k q3.2.1.1 q3.2.1.2.1 9).bind fun q4=>(some (((1,(6,bg,(0,0),q3.1.1,IntKind.i64.wrap (q4.1.1 - 4),0),0,0),()),()):Option ((Stp×Unit)×Unit)).bind fun q5=>some ((q5.1.1,()),q4.2.1,()))=some ((s,()),(p,n',()),()) /\ xg p n' /\ SW s:=by
  obtain ⟨x,m1,f1,g1,r1⟩:=l6 k hp3 (show (0:Int)<6 by omega)
  obtain ⟨y,m2,f2,g2,r2⟩:=l6 k r1 (show (0:Int)<9 by omega)
  rw [f1,Option.bind_some]
  simp only
  rw [f2,Option.bind_some,Uu (n:=y - 4) (by omega) (by omega)]
  exact ⟨_,m2,rfl,r2,SW.zero _ _ _ _ _ _ _ ⟨by omega,by omega⟩⟩
 have one:∀ (m:Int) (hm:0<m) (f:Int -> Stp),(∀ x,0 <= x /\ x<m -> SW (f x)) -> ∃ (s:Stp) (n':Int),((AX k p n3 m).bind fun q=>some ((f q.1.1,()),q.2.1,()))=some ((s,()),(p,n',()),()) /\ xg p n' /\ SW s:=fun m hm f hf=>by
  obtain ⟨x,m1,f1,g1,r1⟩:=l6 k hp3 hm
  rw [f1,Option.bind_some]
  exact ⟨_,m1,rfl,r1,hf x g1⟩
 cases v==0 with
 | true=>exact rel
 | false =>
 cases v==1 with
 | true=>exact rel
 | false =>
 cases v==2 with
 | true=>exact rel
 | false =>
 cases v==3 with
 | true=>exact rel
 | false =>
 cases v==4 with
 | true=>exact rel
 | false =>
 cases v==5 with
 | true=>exact ⟨_,n3,rfl,hp3,SW.zero _ _ _ _ _ _ _ i0⟩
 | false =>
 cases v==6 with
 | true=>exact one 9 (by omega) (fun x=>(4,bn,x,0)) (fun x _=>SW.zero _ _ _ _ _ _ _ i0)
 | false =>
 cases v==7 with
 | true=>exact one 99 (by omega) (fun x=>(1,(7,bg,(a,IntKind.i64.wrap (1+IntKind.i64.wrap (Int.tdiv b 4))),0,x,0),0,0)) (fun x hx=>SW.zero _ _ _ _ _ _ _ ⟨by omega,by omega⟩)
 | false =>
 cases v==8 with
 | true=>exact one 4 (by omega) (fun x=>(1,(8,bg,(a,IntKind.i64.wrap (1+IntKind.i64.wrap (Int.tdiv b 4))),x,0,0),0,0)) (fun x hx=>SW.zero _ _ _ _ _ _ _ i0)
 | false =>
 cases v==9 with
 | true=>exact one 16 (by omega) (fun x=>(1,(9,bg,(a,IntKind.i64.wrap (1+IntKind.i64.wrap (Int.tdiv b 4))),0,0,IntKind.u32.wrap x),0,0)) (fun x hx=>SW.zero _ _ _ _ _ _ _ i0)
 | false =>
 cases v==10 with
 | true =>
  simp only [cond_true,cond_false]
  obtain ⟨x,m1,f1,g1,r1⟩:=l6 k hp3 (show (0:Int)<4 by omega)
  obtain ⟨y,m2,f2,g2,r2⟩:=l6 k r1 (show (0:Int)<16 by omega)
  rw [f1,Option.bind_some]
  simp only
  rw [f2,Option.bind_some]
  exact ⟨_,m2,rfl,r2,SW.zero _ _ _ _ _ _ _ i0⟩
 | false =>
 cases v==11 with
 | true =>
  simp only [cond_true,cond_false]
  obtain ⟨x,m1,f1,g1,r1⟩:=l6 k hp3 (show (0:Int)<12 by omega)
  obtain ⟨y,m2,f2,g2,r2⟩:=l6 k r1 (show (0:Int)<6 by omega)
  obtain ⟨z,m3,f3,g3,r3⟩:=l6 k r2 (show (0:Int)<9 by omega)
  obtain ⟨t,m4,f4,r4,ht⟩:=akj hk (rank:=z) (jy:=2) ⟨by omega,by omega⟩ r3
  rw [f1,Option.bind_some]
  simp only
  rw [f2,Option.bind_some]
  simp only
  rw [f3,Option.bind_some]
  simp only
  rw [f4,Option.bind_some]
  exact ⟨_,m4,rfl,r4,⟨⟨ht.light,ht.cat⟩,i0⟩⟩
 | false =>
 cases v==12 with
 | true=>exact one 30 (by omega) (fun x=>(5,bn,0,IntKind.i64.wrap (1+x))) (fun x _=>SW.zero _ _ _ _ _ _ _ i0)
 | false =>
 cases v==13 with
 | true=>exact one 30 (by omega) (fun x=>(5,bn,0,IntKind.i64.wrap (1+x))) (fun x _=>SW.zero _ _ _ _ _ _ _ i0)
 | false=>exact ⟨_,n3,rfl,hp3,SW.zero _ _ _ _ _ _ _ i0⟩
theorem abH {k:Nat} (hk:1000 <= k) {p:List Int} {c:Nat} (hc:c <= 500):∀ (m i j:Nat) (n:Int) (l:List Stp),i+m=c -> m<j -> xg p n -> (∀ s∈l,SW s) -> l.length <= 10+i ->
  ∃ (l':List Stp) (n':Int),afb k j p n (c:Int) l (i:Int)=some ((l',()),(p,n',()),()) /\ xg p n' /\ (∀ s∈l',SW s) /\ l'.length <= 10+c
 | 0,i,j,n,l,hi,hj,hp,hl,hn=>by
  obtain ⟨j,rfl⟩:∃ i,j=i+1:=⟨j - 1,by omega⟩
  rw [afc,afa,Sd (by omega)]
  exact ⟨l,n,rfl,hp,hl,by omega⟩
 | m+1,i,j,n,l,hi,hj,hp,hl,hn=>by
  obtain ⟨j,rfl⟩:∃ i,j=i+1:=⟨j - 1,by omega⟩
  rw [afc,afa,Sc (by omega)]
  unfold S28
  rw [Option.bind_some]
  simp only
  cases decide (n≥(p.length:Int)) with
  | true=>exact ⟨l,n,rfl,hp,hl,by omega⟩
  | false =>
   obtain ⟨s,n',e,hp',hs⟩:=apM hk hp
   rw [Bool.not_false,cond_true,e,Option.bind_some]
   simp only
   rw [Rz (by simp only [List.length_cons,List.length_nil];omega),Mi (by omega)]
   exact abH hk hc m (i+1) j n' (l++[s]) (by omega) (by omega) hp' (fun x hx=>by
    rcases List.mem_append.1 hx with q | q
    ·exact hl x q
    ·rw [List.mem_singleton] at q;rw [q];exact hs) (by simp;omega)
theorem apN {k:Nat} (hk:1000 <= k) {p:List Int} {n:Int} (hp:xg p n) {c:Nat} (hc:c <= 500):∃ (l:List Stp) (n':Int),S18 k p n (c:Int)=some ((l,()),(p,n',()),()) /\ xg p n' /\ (∀ s∈l,SW s) /\ l.length <= 10+c:=by
 obtain ⟨l,n1,e,hp1,hl,hn⟩:=akF hk hp
 unfold S18
 rw [e,Option.bind_some]
 exact abH hk hc c 0 k n1 l (by omega) (by omega) hp1 hl (by omega)
def takeB (b:List Int×List Int) (c:Int):(List Int×List Int)×Int×Bool×Bool :=
 bif decide (c<1) then (b,0,false,false)
 else bif decide ((b.1.length:Int)>0) then ((b.1.drop 1,b.2),b.1.getD 0 0,true,true)
 else bif b.2.any (fun x=>c==x) then (b,0,false,false)
 else bif decide ((b.2.length:Int)≥4) then (b,0,false,false) else ((b.1,b.2++[c]),0,false,true)
def BI (b:List Int×List Int) (v:Int):(List Int×List Int)×Int×Bool :=
 bif decide ((b.2.length:Int)>0) then ((b.1,b.2.drop 1),b.2.getD 0 0,true)
 else bif decide ((b.1.length:Int)≥4) then (b,0,false) else ((b.1++[v],b.2),0,true)
theorem aqP {k:Nat} {xs:List Int} (h:xs.length <= 900):GV k xs=some ((xs,()),()):=by
 unfold GV;exact Ll (by omega)
theorem akG {k:Nat} {xs:List Int} (h:xs.length <= 900):aaf k xs=some ((xs,()),()):=by
 unfold aaf;exact Ll (by omega)
theorem ar6 {k:Nat} {xs:List (Int×Int)} (h:xs.length <= 900):aag k xs=some ((xs,()),()):=by
 unfold aag;exact Ll (by omega)
theorem sub_one {l:List Int}:sub l 1 (l.length:Int)=l.drop 1:=by
 unfold sub
 rw [Int.toNat_natCast,List.take_length];rfl
theorem anl {k:Nat} (hk:1000 <= k) {s:List Int} {v:Int} (h:s.length <= 900):ab9 k s v=some ((qm (fun b=>v==b) s,()),()):=by
 unfold ab9
 refine sw (fun j i=>ES k j s v (s.length:Int) i) s 0 _ (fun j i hi=>?_) (fun j=>?_) k (by omega)
 ·show ES k (j+1) s v (s.length:Int) (i:Int)=_
  rw [LH,NG,Sc (by omega),Qo hi,Mi (by omega),Qp]
 ·show ES k (j+1) s v (s.length:Int) (s.length:Int)=_
  rw [LH,NG,Sd (by omega)]
theorem anm {k:Nat} (hk:1000 <= k) {b:List Int×List Int} (h1:b.1.length <= 100) (h2:b.2.length <= 100) (c:Int):aiS k b c=some (((takeB b c).1,(takeB b c).2.1,(takeB b c).2.2.1,(takeB b c).2.2.2,()),()):=by
 unfold aiS aiO takeB
 rw [akG (by omega),Option.bind_some,aqP (by omega),Option.bind_some,Option.bind_some]
 simp only
 by_cases hc:c<1
 ·rw [Sc hc,Sc hc]
 ·rw [Sd hc,Sd hc]
  by_cases hl:(b.1.length:Int)>0
  ·rw [Sc hl,Sc hl,Lj (by omega) (by omega),Rx (by omega) (by omega) (by omega),sub_one]
   rfl
  ·rw [Sd hl,Sd hl]
   unfold aoS
   rw [anl hk (by omega)]
   simp only [Option.bind_some,DR]
   cases b.2.any (fun x=>c==x) with
   | true=>rfl
   | false =>
    rw [cond_false,cond_false]
    by_cases h4:(b.2.length:Int)≥4
    ·rw [Sc h4,Sc h4]
    ·rw [Sd h4,Sd h4,Rz (by simp;omega)]
theorem ano {k:Nat} (hk:1000 <= k) {b:List Int×List Int} (h1:b.1.length <= 100) (h2:b.2.length <= 100) (v:Int):aiP k b v=some (((BI b v).1,(BI b v).2.1,(BI b v).2.2,()),()):=by
 unfold aiP aiO BI
 rw [akG (by omega),Option.bind_some,aqP (by omega),Option.bind_some,Option.bind_some]
 simp only
 by_cases hl:(b.2.length:Int)>0
 ·rw [Sc hl,Sc hl,Lj (by omega) (by omega),Rx (by omega) (by omega) (by omega),sub_one]
  rfl
 ·rw [Sd hl,Sd hl]
  by_cases h4:(b.1.length:Int)≥4
  ·rw [Sc h4,Sc h4]
  ·rw [Sd h4,Sd h4,Rz (by simp;omega)]
def BP (f:Int×List (Int×Int)) (c m:Int):(Int×List (Int×Int))×Int×Bool :=
 bif decide (c<1) then (f,0,false)
 else bif m==0 then (f,0,false)
 else bif Um .u32 f.1 m != 0 then ((Ru .u32 f.1 (Um .u32 f.1 m),f.2),Um .u32 f.1 m,true)
 else bif decide ((f.2.length:Int)≥4) then (f,0,false)
 else bif f.2.any (fun w=>w.1==c) then (f,0,false) else ((f.1,f.2++[(c,m)]),0,true)
theorem anp {k:Nat} (hk:1000 <= k) {s:List (Int×Int)} {c:Int} (h:s.length <= 900):alr k s c=some ((qm (fun w:Int×Int=>w.1==c) s,()),()):=by
 unfold alr
 refine sw (fun j i=>NH k j s c (s.length:Int) i) s (0,0) _ (fun j i hi=>?_) (fun j=>?_) k (by omega)
 ·show NH k (j+1) s c (s.length:Int) (i:Int)=_
  rw [aaC,XU,Sc (by omega),Qo hi,Mi (by omega),Qp]
  unfold aoW
  rfl
 ·show NH k (j+1) s c (s.length:Int) (s.length:Int)=_
  rw [aaC,XU,Sd (by omega)]
theorem anq {k:Nat} (hk:1000 <= k) {f:Int×List (Int×Int)} (h2:f.2.length <= 100) (c m:Int):ai8 k f c m=some (((BP f c m).1,(BP f c m).2.1,(BP f c m).2.2,()),()):=by
 unfold ai8 BP
 rw [ar6 (by omega),Option.bind_some]
 by_cases hc:c<1
 ·rw [Sc hc,Sc hc]
 ·rw [Sd hc,Sd hc]
  cases m==0 with
  | true=>rfl
  | false =>
   rw [cond_false,cond_false]
   cases Um .u32 f.1 m != 0 with
   | true=>rfl
   | false =>
    rw [cond_false,cond_false]
    by_cases h4:(f.2.length:Int)≥4
    ·rw [Sc h4,Sc h4]
    ·rw [Sd h4,Sd h4]
     unfold aoX
     rw [anp hk (by omega)]
     simp only [Option.bind_some,DR]
     cases f.2.any (fun w=>w.1==c) with
     | true=>rfl
     | false=>rw [cond_false,cond_false,Rz (by simp;omega)]
theorem akH {k:Nat} (hk:1000 <= k) {t:Tb} {h:Int×Int} (ht:yh t) (hf:DK t h=true) (hc:(rd t.2 h.1 j5).1≠1):aaF k t h=some ((Wt t h,xq (rd t.2 h.1 j5),true,()),()):=by
 unfold aaF Wt
 rw [FI hk ht,Option.bind_some,RA hk ht,Option.bind_some,hf]
 have hf':=hf
 unfold DK at hf'
 rw [Bool.and_eq_true] at hf'
 obtain ⟨h0,h1,h2⟩:=DJ hf'.2
 simp only [Bool.not_true,cond_false,if_true,true_and]
 rw [Lj h0 h1,show ((rd t.2 h.1 j5).1==1)=false by simpa using hc,cond_false,if_pos hc]
 have hfree:als k t.1 h=some (((t.1.1,upd t.1.2 h.1 false),true,()),()):=by
  unfold als aiC
  simp only [GV,V7]
  rw [Ll (by have:=ht.1.1;omega),Option.bind_some,Ll (by have:=ht.1.2.1;omega),Option.bind_some,Option.bind_some]
  simp only
  have e0:((t.1.1,t.1.2):iq)=t.1:=rfl
  rw [e0,afQ hk ht.1.1 ht.1.2.1,Option.bind_some,hf'.1]
  have hh:=hf'.1
  unfold akh at hh
  simp only [Bool.and_eq_true,decide_eq_true_eq] at hh
  simp only [Bool.not_true,cond_false]
  rw [Lj h0 (by omega)]
 rw [hfree,Option.bind_some,Lj h0 h1,Lj h0 h1,afK hk (ht.2 _ (OC h0 h1)),Option.bind_some]
def CY (s:(Int×List (Int×Int))×List (Int×Int)) (w:Int×Int):(Int×List (Int×Int))×List (Int×Int) :=
 bif Um .u32 s.1.1 w.2==0 then ((s.1.1,s.1.2++[w]),s.2) else ((Ru .u32 s.1.1 (Um .u32 s.1.1 w.2),s.1.2),s.2++[(w.1,Um .u32 s.1.1 w.2)])
def I9 (f:Int×List (Int×Int)) (m:Int):(Int×List (Int×Int))×List (Int×Int):=f.2.foldl CY ((Uz .u32 f.1 m,[]),[])
theorem OU:∀ (l:List (Int×Int)) (s:(Int×List (Int×Int))×List (Int×Int)),(l.foldl CY s).1.2.length <= s.1.2.length+l.length /\ (l.foldl CY s).2.length <= s.2.length+l.length
 | [],s=>⟨by simp,by simp⟩
 | w::l,s=>by
  rw [List.foldl_cons]
  obtain ⟨a,b⟩:=OU l (CY s w)
  have:(CY s w).1.2.length <= s.1.2.length+1 /\ (CY s w).2.length <= s.2.length+1:=by
   unfold CY
   cases Um .u32 s.1.1 w.2==0 <;> simp
  simp only [List.length_cons];omega
theorem anr {k:Nat} (hk:1000 <= k) {f:Int×List (Int×Int)} (h:f.2.length <= 100) (m:Int):aiU k f m=some (((I9 f m).1,(I9 f m).2,()),()):=by
 have key:∀ (d i j:Nat) (s:(Int×List (Int×Int))×List (Int×Int)),i+d=f.2.length -> d<j -> s.1.2.length <= i -> s.2.length <= i ->
   XR k j s.1.1 s.1.2 s.2 f.2 (f.2.length:Int) (i:Int)=some ((((f.2.drop i).foldl CY s).1,((f.2.drop i).foldl CY s).2,()),()):=by
  intro d
  induction d with
  | zero =>
   intro i j s hi hj h1 h2
   obtain ⟨j,rfl⟩:∃ i,j=i+1:=⟨j - 1,by omega⟩
   rw [aay,XQ,Sd (by omega),drop_nil (by omega)];rfl
  | succ d ih =>
   intro i j s hi hj h1 h2
   obtain ⟨j,rfl⟩:∃ i,j=i+1:=⟨j - 1,by omega⟩
   have hi':i<f.2.length:=by omega
   have hl:=OU [f.2.getD i (0,0)] s
   simp only [List.foldl_cons,List.foldl_nil,List.length_cons,List.length_nil] at hl
   have ih:=ih (i+1) j (CY s (f.2.getD i (0,0))) (by omega) (by omega) (by omega) (by omega)
   rw [aay,XQ,Sc (by omega),Qo hi',Qp,Mi (by omega),drop_cons (0,0) hi',List.foldl_cons]
   refine Eq.trans ?_ ih
   unfold CY
   cases Um .u32 s.1.1 (f.2.getD i (0,0)).2==0 with
   | true=>rw [cond_true,cond_true,Rz (by simp only [List.length_cons,List.length_nil];omega)]
   | false=>rw [cond_false,cond_false,Rz (by simp only [List.length_cons,List.length_nil];omega)]
 unfold aiU I9
 exact key f.2.length 0 k ((Uz .u32 f.1 m,[]),[]) (by omega) (by omega) (by simp) (by simp)
abbrev Cl:Type:=Int×iw×(Int×Int)×Int×Int×Int
abbrev Rly:Type:=Int×(Int×Int)×Int
abbrev CR:Type:=jd×List je×Rly
def err (K:jd) (e:Int):CR:=(K,[],e,(0,0),0)
def yt (K:jd) (T:Tb):jd:=w8 K T
noncomputable def KT (K:jd) (c:Cl):CR:=bif K.2.2.2.2.1 then err K 7 else bif (inT K.2.2.1 c.2.1 K.2.1).2.2==0 then err (K.1,K.2.1,(inT K.2.2.1 c.2.1 K.2.1).1,(inT K.2.2.1 c.2.1 K.2.1).2.1,K.2.2.2.2) 0 else err K (inT K.2.2.1 c.2.1 K.2.1).2.2
noncomputable def zn (k:Nat) (K:jd) (c:Cl):CR:=bif (c.1==2)&&K.2.2.2.2.1 then err K 7 else bif (BD k K.2.2.2.2.2.2.2.2.1 (c.1 - 1)).2.2 then (yt K (BD k K.2.2.2.2.2.2.2.2.1 (c.1 - 1)).1,[],0,(BD k K.2.2.2.2.2.2.2.2.1 (c.1 - 1)).2.1,0) else err K 4
def aqQ (K:jd):jd:=z9 K (List.replicate K.2.2.1.length 0,List.replicate K.2.2.1.length false)
noncomputable def IB (k:Nat) (K:jd):CR:=bif (uf k K).2==0 then err (aqQ (uf k K).1) 0 else err K (uf k K).2
def ant (K:jd) (c:Cl):CR:=((tq K c.2.2.2.1 c.2.2.2.2.1).1,(tq K c.2.2.2.1 c.2.2.2.2.1).2.1,(tq K c.2.2.2.1 c.2.2.2.2.1).2.2,(0,0),0)
def MO (T:Tb) (h:Int×Int) (kd:Int):Bool:=DK T h&&(rd T.2 h.1 j5).1==kd
noncomputable def UO (k:Nat) (K:jd) (c:Cl):CR :=
 let T:=K.2.2.2.2.2.2.2.2.1
 let x:=rd T.2 c.2.2.1.1 j5
 let b:=BI x.2.2.2.1 c.2.2.2.2.1
 bif !MO T c.2.2.1 2 then err K 3 else bif !b.2.2 then err K 4
 else (yt K (KG k T c.2.2.1.1 (w3 x b.1)),bif decide (b.2.1>0) then [(K.1,12,0,b.2.1,c.2.2.2.2.1,0)] else [],0,(0,0),0)
noncomputable def UQ (k:Nat) (K:jd) (c:Cl):CR :=
 let T:=K.2.2.2.2.2.2.2.2.1
 let x:=rd T.2 c.2.2.1.1 j5
 let b:=takeB x.2.2.2.1 c.2.2.2.1
 bif !MO T c.2.2.1 2 then err K 3 else bif !b.2.2.2 then err K 1
 else (yt K (KG k T c.2.2.1.1 (w3 x b.1)),[],bif b.2.2.1 then 0 else 16,(0,0),bif b.2.2.1 then b.2.1 else 0)
def abI (now:Int) (l:List (Int×Int)):List je:=l.map fun w=>(now,12,0,w.1,IntKind.i64.wrap w.2,0)
noncomputable def KU (k:Nat) (K:jd) (c:Cl):CR :=
 let T:=K.2.2.2.2.2.2.2.2.1
 let x:=rd T.2 c.2.2.1.1 j5
 let b:=I9 x.2.2.2.2.1 c.2.2.2.2.2
 bif !MO T c.2.2.1 3 then err K 3
 else (yt K (KG k T c.2.2.1.1 (w4 x b.1)),abI K.1 b.2,0,(0,0),0)
noncomputable def KV (k:Nat) (K:jd) (c:Cl):CR :=
 let T:=K.2.2.2.2.2.2.2.2.1
 let x:=rd T.2 c.2.2.1.1 j5
 let b:=BP x.2.2.2.2.1 c.2.2.2.1 c.2.2.2.2.2
 bif !MO T c.2.2.1 3 then err K 3 else bif !b.2.2 then err K 1
 else (yt K (KG k T c.2.2.1.1 (w4 x b.1)),[],bif b.2.1==0 then 16 else 0,(0,0),IntKind.i64.wrap b.2.1)
def acN (T:Tb) (h:Int×Int):Bool:=DK T h&&(rd T.2 h.1 j5).1 != 1
def UR (K:jd) (c:Cl):CR :=
 let T:=K.2.2.2.2.2.2.2.2.1
 bif !acN T c.2.2.1 then err K 3
 else (yt K (Wt T c.2.2.1),(xq (rd T.2 c.2.2.1.1 j5)).map (fun w=>(K.1,12,0,w,0,15)),0,(0,0),0)
noncomputable def zo (k:Nat) (K:jd) (c:Cl):CR :=
 bif c.1==1 then KT K c else bif c.1==2 then zn k K c else bif c.1==3 then zn k K c else bif c.1==4 then zn k K c
 else bif c.1==5 then IB k K else bif c.1==6 then ant K c else bif c.1==7 then UO k K c else bif c.1==8 then UQ k K c
 else bif c.1==9 then KU k K c else bif c.1==10 then KV k K c else bif c.1==11 then UR K c else err K 1
def KX (K:jd) (c:Cl):jd×Cl×List je×Rly:=(K,c,[],0,(0,0),0)
def asR (c:Cl) (r:CR):jd×Cl×List je×Rly:=(r.1,c,r.2.1,r.2.2)
theorem MP {k:Nat} (hk:1000 <= k) {K:jd} (hT:yh K.2.2.2.2.2.2.2.2.1) {c:Cl} (kd:Int):ab8 k (KX K c) kd=some ((bif MO K.2.2.2.2.2.2.2.2.1 c.2.2.1 kd then (c.2.2.1.1,rd K.2.2.2.2.2.2.2.2.1.2 c.2.2.1.1 j5,true,()) else (0,bf,false,())),(bif MO K.2.2.2.2.2.2.2.2.1 c.2.2.1 kd then BR (KX K c) else BR (asR c (err K 3))),()):=by
 unfold ab8 MO
 have e:agF k K.2.2.2.2.2.2.2.2.1 c.2.2.1=_:=RA hk hT
 cases hf:DK K.2.2.2.2.2.2.2.2.1 c.2.2.1 with
 | false =>
  rw [hf] at e
  refine (congrArg (fun x=>Option.bind x _) e).trans ?_
  rfl
 | true =>
  rw [hf,if_pos rfl] at e
  have hf':=hf
  unfold DK at hf'
  rw [Bool.and_eq_true] at hf'
  obtain ⟨h0,h1,h2⟩:=DJ hf'.2
  have ei:∀ {R:Type} (x:Option R),ix (KX K c).1.2.2.2.2.2.2.2.2.1.2 c.2.2.1.1 x=x:=fun x=>Lj h0 h1
  refine (congrArg (fun x=>Option.bind x _) e).trans ?_
  simp only [Option.bind_some,Bool.not_true,cond_false,Bool.true_and]
  rw [ei,ei]
  by_cases q:(rd K.2.2.2.2.2.2.2.2.1.2 c.2.2.1.1 j5).1=kd
  ·rw [show ((rd (KX K c).1.2.2.2.2.2.2.2.2.1.2 c.2.2.1.1 bf).1 != kd)=false by simpa [KX] using q,show ((rd K.2.2.2.2.2.2.2.2.1.2 c.2.2.1.1 j5).1==kd)=true from beq_iff_eq.2 q]
   rfl
  ·rw [show ((rd (KX K c).1.2.2.2.2.2.2.2.2.1.2 c.2.2.1.1 bf).1 != kd)=true by simpa [KX] using q,beq_eq_false_iff_ne.2 q]
   rfl
theorem FU {T:Tb} (hT:yh T) {h:Int×Int} {kd:Int} (hx:MO T h kd=true):Wo (rd T.2 h.1 j5):=by
 unfold MO DK at hx
 simp only [Bool.and_eq_true] at hx
 obtain ⟨h0,h1,h2⟩:=DJ hx.1.2
 exact hT.2 _ (OC h0 h1)
theorem YS {k:Nat} {a:jd×Cl×List je×Rly} (h:a.2.2.1.length <= 1000) (b c e:Int):aiQ k a b c e=some ((),BR (a.1,a.2.1,a.2.2.1++[(a.1.1,12,0,b,c,e)],a.2.2.2),()) /\ aex k a b c e=some ((),BR (a.1,a.2.1,a.2.2.1++[(a.1.1,12,0,b,c,e)],a.2.2.2),()):=by
 unfold aiQ aex
 rw [Rz (by simp only [List.length_cons,List.length_nil];omega)]
 exact ⟨rfl,rfl⟩
theorem WQ {b:List Int×List Int} (h:b.1.length <= 100 /\ b.2.length <= 100) (v:Int):(BI b v).1.1.length <= 100 /\ (BI b v).1.2.length <= 100:=by
 unfold BI
 by_cases h1:(b.2.length:Int)>0
 ·rw [Sc h1];exact ⟨h.1,by simp only [List.length_drop];omega⟩
 ·rw [Sd h1]
  by_cases h2:(b.1.length:Int)≥4
  ·rw [Sc h2];exact h
  ·rw [Sd h2];exact ⟨by simp only [List.length_append,List.length_cons,List.length_nil];omega,h.2⟩
theorem WR {b:List Int×List Int} (h:b.1.length <= 100 /\ b.2.length <= 100) (c:Int):(takeB b c).1.1.length <= 100 /\ (takeB b c).1.2.length <= 100:=by
 unfold takeB
 by_cases h0:c<1
 ·rw [Sc h0];exact h
 ·rw [Sd h0]
  by_cases h1:(b.1.length:Int)>0
  ·rw [Sc h1];exact ⟨by simp only [List.length_drop];omega,h.2⟩
  ·rw [Sd h1]
   cases b.2.any (fun x=>c==x) with
   | true=>exact h
   | false =>
    rw [cond_false]
    by_cases h2:(b.2.length:Int)≥4
    ·rw [Sc h2];exact h
    ·rw [Sd h2];exact ⟨h.1,by simp only [List.length_append,List.length_cons,List.length_nil];omega⟩
theorem UU {f:Int×List (Int×Int)} (h:f.2.length <= 100) (c m:Int):(BP f c m).1.2.length <= 100:=by
 unfold BP
 by_cases h0:c<1
 ·rw [Sc h0];exact h
 ·rw [Sd h0]
  cases m==0 with
  | true=>exact h
  | false =>
   rw [cond_false]
   cases Um .u32 f.1 m != 0 with
   | true=>exact h
   | false =>
    rw [cond_false]
    by_cases h2:(f.2.length:Int)≥4
    ·rw [Sc h2];exact h
    ·rw [Sd h2]
     cases f.2.any (fun w=>w.1==c) with
     | true=>exact h
     | false=>simp only [cond_false,List.length_append,List.length_cons,List.length_nil];omega
theorem KY {f:Int×List (Int×Int)} (h:f.2.length <= 100) (m:Int):(I9 f m).1.2.length <= 100 /\ (I9 f m).2.length <= 100:=by
 have:=OU f.2 ((Uz .u32 f.1 m,[]),[])
 simp only [List.length_nil] at this
 unfold I9
 omega
theorem ahm (c:Int) (h:c=2 \/ c=3 \/ c=4):Us (.int .i64) (.int .i64) c (vL (.int .i64) (.int .i64) 4 3 (vL (.int .i64) (.int .i64) 3 2 (vL (.int .i64) (.int .i64) 2 1 ([]:List (Int×Int))))) 0=c - 1:=by
 rcases h with rfl | rfl | rfl <;> rfl
theorem UW {k:Nat} (hk:1000 <= k) {K:jd} (hT:yh K.2.2.2.2.2.2.2.2.1) {c:Cl} (hc:c.1=2 \/ c.1=3 \/ c.1=4):S90 k (KX K c)=some ((),BR (asR c (zn k K c)),()):=by
 have key:aas k (KX K c) (vL (.int .i64) (.int .i64) 4 3 (vL (.int .i64) (.int .i64) 3 2 (vL (.int .i64) (.int .i64) 2 1 ([]:List (Int×Int)))))=some ((),BR (asR c (bif (BD k K.2.2.2.2.2.2.2.2.1 (c.1 - 1)).2.2 then (yt K (BD k K.2.2.2.2.2.2.2.2.1 (c.1 - 1)).1,[],0,(BD k K.2.2.2.2.2.2.2.2.1 (c.1 - 1)).2.1,0) else err K 4)),()):=by
  unfold aas
  rw [show (KX K c).2.1.1=c.1 from rfl,ahm c.1 hc]
  have e:=amB hk (t:=K.2.2.2.2.2.2.2.2.1) (c:=c.1 - 1) hT (by omega)
  refine (congrArg (fun x=>Option.bind x _) e).trans ?_
  rw [Option.bind_some]
  simp only
  cases (BD k K.2.2.2.2.2.2.2.2.1 (c.1 - 1)).2.2 <;> rfl
 unfold S90 zn
 rw [key,show (KX K c).2.1.1=c.1 from rfl,show (KX K c).1.2.2.2.2.1=K.2.2.2.2.1 from rfl]
 cases c.1==2 with
 | false=>rfl
 | true=>cases K.2.2.2.2.1 <;> rfl
theorem ahn {k:Nat} {n:Nat} (h:n <= 100):S87 k (n:Int)=some (((List.replicate n 0,List.replicate n false),()),()):=by
 have e:mn (mx (n:Int) 0) 65536=(n:Int):=by unfold mn mx;split <;> split <;> omega
 unfold S87 mk
 rw [e,if_pos rfl,if_pos (by simp;omega),if_pos rfl,if_pos (by simp;omega)]
 rfl
theorem start_eq {k:Nat} (hk:1000 <= k) {K:jd} (h:KW K) {c:Cl}:S91 k (KX K c)=some ((),BR (asR c (IB k K)),()):=by
 unfold S91 IB
 have e:S23 k (KX K c).1=_:=apI hk h.ks
 rw [e,Option.bind_some]
 simp only
 have h8:=h.EK
 have ht:(uf k K).1.2.2.1=K.2.2.1:=by
  unfold uf
  cases K.2.2.2.2.1 with
  | true=>rfl
  | false=>cases K.2.2.1.any (I7 (j6 K.2.2.2.2.2.2.2.2.1).length) <;> rfl
 show (bif (uf k K).2==0 then (S87 k ((uf k K).1.2.2.1.length:Int)).bind fun q=>some ((),BR (z9 (uf k K).1 q.1.1,c,[],(uf k K).2,(0,0),0),()) else some ((),BR (asR c (err K (uf k K).2)),()))=_
 cases hz:(uf k K).2==0 with
 | true =>
  rw [cond_true,cond_true,ht,ahn (by omega),Option.bind_some,eq_of_beq hz]
  unfold aqQ
  rw [ht];rfl
 | false=>rfl
theorem agh {k:Nat} {c:Cl} {r:Rly} {K:jd} {w:List Int} (hw:w.length <= 900):∀ (m i j:Nat) (ev:List je),i+m=w.length -> m<j -> ev.length <= i -> aez k j (K,c,ev,r) w (w.length:Int) (i:Int)=some ((),BR (K,c,ev++(w.drop i).map (fun w=>(K.1,12,0,w,0,15)),r),())
 | 0,i,j,ev,hi,hj,he=>by
  obtain ⟨j,rfl⟩:∃ i,j=i+1:=⟨j - 1,by omega⟩
  rw [aeA,aey,Sd (by omega),drop_nil (by omega),List.map_nil,List.append_nil]
 | m+1,i,j,ev,hi,hj,he=>by
  obtain ⟨j,rfl⟩:∃ i,j=i+1:=⟨j - 1,by omega⟩
  have hi':i<w.length:=by omega
  have ih:=agh (k:=k) (c:=c) (r:=r) (K:=K) hw m (i+1) j (ev++[(K.1,12,0,w.getD i 0,0,15)]) (by omega) (by omega) (by simp;omega)
  rw [aeA,aey,Sc (by omega),Qo hi',Qp,(YS (by show ev.length <= _;omega) _ _ _).2,Option.bind_some,Mi (by omega),drop_cons 0 hi',List.map_cons]
  simp only [vrA]
  rw [ih,List.append_assoc,List.singleton_append]
theorem abJ {k:Nat} {c:Cl} {r:Rly} {K:jd} {h:Int} {x:Th} {F:Int×List (Int×Int)} {o:Int} {os:List (Int×Int)} {w:List (Int×Int)} (hk:1000 <= k) (hT:yh K.2.2.2.2.2.2.2.2.1) (hx:Wo (w4 x F)) (hw:w.length <= 900):∀ (m i j:Nat) (ev:List je),i+m=w.length -> m<j -> ev.length <= i ->
  aep k j (K,c,ev,r) h x.1 x.2.1.1 x.2.1.2 x.2.2.1.1 x.2.2.1.2 x.2.2.2.1.1 x.2.2.2.1.2 o os x.2.2.2.2.2 F.1 F.2 w (w.length:Int) (i:Int)=some ((),BR (yt K (KG k K.2.2.2.2.2.2.2.2.1 h (w4 x F)),c,ev++abI K.1 (w.drop i),r),())
 | 0,i,j,ev,hi,hj,he=>by
  obtain ⟨j,rfl⟩:∃ i,j=i+1:=⟨j - 1,by omega⟩
  have e:=JA hk (i:=h) hT hx
  rw [aer,aeo,Sd (by omega),drop_nil (by omega)]
  refine (congrArg (fun x=>Option.bind x _) e).trans ?_
  unfold abI
  rw [Option.bind_some,List.map_nil,List.append_nil];rfl
 | m+1,i,j,ev,hi,hj,he=>by
  obtain ⟨j,rfl⟩:∃ i,j=i+1:=⟨j - 1,by omega⟩
  have hi':i<w.length:=by omega
  have ih:=abJ (k:=k) (c:=c) (r:=r) (K:=K) (h:=h) (x:=x) (F:=F) (o:=o) (os:=os) hk hT hx hw m (i+1) j (ev++[(K.1,12,0,(w.getD i (0,0)).1,IntKind.i64.wrap (w.getD i (0,0)).2,0)]) (by omega) (by omega) (by simp;omega)
  rw [aer,aeo,Sc (by omega),Qo hi',Qp,(YS (by show ev.length <= _;omega) _ _ _).1,Option.bind_some,Mi (by omega),drop_cons (0,0) hi']
  simp only [vrA]
  rw [ih]
  unfold abI
  rw [List.map_cons,List.append_assoc,List.singleton_append]
theorem post_eq {k:Nat} (hk:1000 <= k) {K:jd} (hT:yh K.2.2.2.2.2.2.2.2.1) {c:Cl}:S93 k (KX K c)=some ((),BR (asR c (UO k K c)),()):=by
 unfold S93 UO
 rw [MP hk hT,Option.bind_some]
 dsimp only
 cases hx:MO K.2.2.2.2.2.2.2.2.1 c.2.2.1 2 with
 | false=>rfl
 | true =>
  have hs:=FU hT hx
  generalize hxe:rd K.2.2.2.2.2.2.2.2.1.2 c.2.2.1.1 j5=x at hs
  simp only [cond_true,Bool.not_true,cond_false,vrA]
  have e:aiP k x.2.2.2.1 (KX K c).2.1.2.2.2.2.1=_:=ano hk hs.1 hs.2.1 c.2.2.2.2.1
  rw [e,Option.bind_some]
  simp only
  have hp:=WQ ⟨hs.1,hs.2.1⟩ c.2.2.2.2.1
  generalize BI x.2.2.2.1 c.2.2.2.2.1=b at hp
  cases b.2.2 with
  | false=>rfl
  | true =>
   simp only [Bool.not_true,cond_false]
   have ep:=JA hk (t:=K.2.2.2.2.2.2.2.2.1) (i:=c.2.2.1.1) (x:=w3 x b.1) hT ⟨hp.1,hp.2,hs.2.2⟩
   cases decide (b.2.1>0) with
   | true =>
    rw [cond_true,cond_true,(YS (by simp [KX]) _ _ _).1,Option.bind_some]
    simp only [vrA]
    refine (congrArg (fun x=>Option.bind x _) ep).trans ?_
    rfl
   | false =>
    rw [cond_false,cond_false]
    refine (congrArg (fun x=>Option.bind x _) ep).trans ?_
    rfl
theorem anu {k:Nat} (hk:1000 <= k) {K:jd} (hT:yh K.2.2.2.2.2.2.2.2.1) {c:Cl}:S94 k (KX K c)=some ((),BR (asR c (UQ k K c)),()):=by
 unfold S94 UQ
 rw [MP hk hT,Option.bind_some]
 dsimp only
 cases hx:MO K.2.2.2.2.2.2.2.2.1 c.2.2.1 2 with
 | false=>rfl
 | true =>
  have hs:=FU hT hx
  generalize hxe:rd K.2.2.2.2.2.2.2.2.1.2 c.2.2.1.1 j5=x at hs
  simp only [cond_true,Bool.not_true,cond_false,vrA]
  have e:aiS k x.2.2.2.1 (KX K c).2.1.2.2.2.1=_:=anm hk hs.1 hs.2.1 c.2.2.2.1
  rw [e,Option.bind_some]
  simp only
  have hp:=WR ⟨hs.1,hs.2.1⟩ c.2.2.2.1
  generalize takeB x.2.2.2.1 c.2.2.2.1=b at hp
  cases b.2.2.2 with
  | false=>rfl
  | true =>
   simp only [Bool.not_true,cond_false]
   have ep:=JA hk (t:=K.2.2.2.2.2.2.2.2.1) (i:=c.2.2.1.1) (x:=w3 x b.1) hT ⟨hp.1,hp.2,hs.2.2⟩
   cases b.2.2.1 with
   | true =>
    rw [cond_true,cond_true,cond_true]
    refine (congrArg (fun x=>Option.bind x _) ep).trans ?_
    rfl
   | false =>
    rw [cond_false,cond_false,cond_false]
    refine (congrArg (fun x=>Option.bind x _) ep).trans ?_
    rfl
theorem akI {k:Nat} (hk:1000 <= k) {K:jd} (hT:yh K.2.2.2.2.2.2.2.2.1) {c:Cl}:S96 k (KX K c)=some ((),BR (asR c (KV k K c)),()):=by
 unfold S96 KV
 rw [MP hk hT,Option.bind_some]
 dsimp only
 cases hx:MO K.2.2.2.2.2.2.2.2.1 c.2.2.1 3 with
 | false=>rfl
 | true =>
  have hs:=FU hT hx
  generalize hxe:rd K.2.2.2.2.2.2.2.2.1.2 c.2.2.1.1 j5=x at hs
  simp only [cond_true,Bool.not_true,cond_false,vrA]
  have e:ai8 k x.2.2.2.2.1 (KX K c).2.1.2.2.2.1 (KX K c).2.1.2.2.2.2.2=_:=anq hk hs.2.2 c.2.2.2.1 c.2.2.2.2.2
  rw [e,Option.bind_some]
  simp only
  have hp:=UU hs.2.2 c.2.2.2.1 c.2.2.2.2.2
  generalize BP x.2.2.2.2.1 c.2.2.2.1 c.2.2.2.2.2=b at hp
  cases b.2.2 with
  | false=>rfl
  | true =>
   simp only [Bool.not_true,cond_false]
   have ep:=JA hk (t:=K.2.2.2.2.2.2.2.2.1) (i:=c.2.2.1.1) (x:=w4 x b.1) hT ⟨hs.1,hs.2.1,hp⟩
   cases b.2.1==0 with
   | true =>
    rw [cond_true,cond_true]
    refine (congrArg (fun x=>Option.bind x _) ep).trans ?_
    rfl
   | false =>
    rw [cond_false,cond_false]
    refine (congrArg (fun x=>Option.bind x _) ep).trans ?_
    rfl
theorem akJ {k:Nat} (hk:1000 <= k) {K:jd} (hT:yh K.2.2.2.2.2.2.2.2.1) {c:Cl}:S95 k (KX K c)=some ((),BR (asR c (KU k K c)),()):=by
 unfold S95 KU
 rw [MP hk hT,Option.bind_some]
 dsimp only
 cases hx:MO K.2.2.2.2.2.2.2.2.1 c.2.2.1 3 with
 | false=>rfl
 | true =>
  have hs:=FU hT hx
  generalize hxe:rd K.2.2.2.2.2.2.2.2.1.2 c.2.2.1.1 j5=x at hs
  simp only [cond_true,Bool.not_true,cond_false,vrA]
  have e:aiU k x.2.2.2.2.1 (KX K c).2.1.2.2.2.2.2=_:=anr hk hs.2.2 c.2.2.2.2.2
  rw [e,Option.bind_some]
  have hp:=KY hs.2.2 c.2.2.2.2.2
  generalize I9 x.2.2.2.2.1 c.2.2.2.2.2=b at hp
  exact abJ (F:=b.1) (w:=b.2) hk hT ⟨hs.1,hs.2.1,hp.1⟩ (by omega) b.2.length 0 k [] (by omega) (by omega) (by simp)
theorem free_eq {k:Nat} (hk:1000 <= k) {K:jd} (hT:yh K.2.2.2.2.2.2.2.2.1) {c:Cl}:S97 k (KX K c)=some ((),BR (asR c (UR K c)),()):=by
 unfold S97 UR acN
 dsimp only
 cases hf:DK K.2.2.2.2.2.2.2.2.1 c.2.2.1 with
 | false =>
  have e:aaF k (KX K c).1.2.2.2.2.2.2.2.2.1 (KX K c).2.1.2.2.1=some ((K.2.2.2.2.2.2.2.2.1,[],false,()),()):=by
   unfold aaF
   show Option.bind (V8 k K.2.2.2.2.2.2.2.2.1) _=_
   rw [FI hk hT,Option.bind_some]
   have ef:=RA hk (h:=c.2.2.1) hT
   refine (congrArg (fun x=>Option.bind x _) ef).trans ?_
   rw [Option.bind_some,hf];rfl
  rw [e,Option.bind_some];rfl
 | true =>
  have hf':=hf
  unfold DK at hf'
  rw [Bool.and_eq_true] at hf'
  obtain ⟨h0,h1,h2⟩:=DJ hf'.2
  by_cases q:(rd K.2.2.2.2.2.2.2.2.1.2 c.2.2.1.1 j5).1=1
  ·have e:aaF k (KX K c).1.2.2.2.2.2.2.2.2.1 (KX K c).2.1.2.2.1=some ((K.2.2.2.2.2.2.2.2.1,[],false,()),()):=by
    unfold aaF
    show Option.bind (V8 k K.2.2.2.2.2.2.2.2.1) _=_
    rw [FI hk hT,Option.bind_some]
    have ef:=RA hk (h:=c.2.2.1) hT
    refine (congrArg (fun x=>Option.bind x _) ef).trans ?_
    rw [Option.bind_some,hf]
    simp only [Bool.not_true,cond_false,if_true]
    have ei:∀ {R:Type} (x:Option R),ix (KX K c).1.2.2.2.2.2.2.2.2.1.2 c.2.2.1.1 x=x:=fun x=>Lj h0 h1
    rw [ei,show ((rd (KX K c).1.2.2.2.2.2.2.2.2.1.2 c.2.2.1.1 bf).1==1)=true from beq_iff_eq.2 q];rfl
   rw [e,Option.bind_some,q];rfl
  ·have e:=akH hk hT hf q
   refine (congrArg (fun x=>Option.bind x _) e).trans ?_
   rw [Option.bind_some,show ((rd K.2.2.2.2.2.2.2.2.1.2 c.2.2.1.1 j5).1 != 1)=true from bne_iff_ne.2 q]
   simp only [Bool.not_true,cond_false,Bool.and_self]
   have hs:=hT.2 _ (OC h0 h1)
   have hw:(xq (rd K.2.2.2.2.2.2.2.2.1.2 c.2.2.1.1 j5)).length <= 900:=by unfold xq;rw [List.length_append,List.length_map];have:=hs.2.1;have:=hs.2.2;omega
   exact agh (K:=yt K (Wt K.2.2.2.2.2.2.2.2.1 c.2.2.1)) (c:=c) (r:=(0,(0,0),0)) hw (xq (rd K.2.2.2.2.2.2.2.2.1.2 c.2.2.1.1 j5)).length 0 k [] (by omega) (by omega) (by simp)
end Go.Proofs.YtjjjbcmjmkcedaaGreat.Ab
