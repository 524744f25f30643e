import Derived.Test.YtmmagcjlfcicfaaGreatQZAbK0
import Derived.KernelRfl
/- The plain law, and what it hangs on. -/
namespace Go.Proofs.YtmmagcjlfcicfaaGreat.Ab
open Go.RowKit
set_option linter.unusedSimpArgs false
set_option linter.unusedVariables false
open Tr
abbrev vo:Type:=PN Int 5
noncomputable def gq (l:List fq) (ap:Int) (i:Nat):vo:=((j5 (l.getD i t0)).1,(j5 (l.getD i t0)).2.1,byT l (i:Int),(l7 l (i:Int) ap).1,(l.getD i t0).2.2.1 - (l7 l (i:Int) ap).1)
noncomputable def KY (l:List fq) (ap:Int):Nat -> Nat -> List vo -> List vo×Int
 | 0,_,out=>(out,0)
 | d+1,i,out=>if (l7 l (i:Int) ap).2.2=0 then KY l ap d (i+1) (out++[gq l ap i]) else ([],(l7 l (i:Int) ap).2.2)
noncomputable def allT (l:List fq) (ap:Int):List vo×Int:=if ap<1 then ([],1) else KY l ap l.length 0 []
theorem Xr {l:List fq} (hL:jl l) (hl:l.length <= 10) {i:Nat} {ap:Int} (h:(l7 l (i:Int) ap).2.2=0):zi l=true /\ i<l.length /\ 1 <= ap /\ 1 <= (l7 l (i:Int) ap).1 /\ firstT l i <= (l7 l (i:Int) ap).1 /\ (l7 l (i:Int) ap).1 <= (l.getD i t0).2.2.1 /\ ql l i ap (l7 l (i:Int) ap).1=(l7 l (i:Int) ap).1:=by
 by_cases hc:zi l=true /\ 0 <= (i:Int) /\ (i:Int)<(l.length:Int) /\ 1 <= ap
 ·obtain ⟨h1,_,h3,h4⟩:=hc
  have hi:i<l.length:=by omega
  have hR:=O8 h1 hL hl
  obtain ⟨y,hy⟩:=JY hR hi h4
  have hf:=hR.first hi
  rw [O9 h1 hi h4 hy] at h ⊢
  rcases OB (GR hR h4) 20000 (firstT l i) 1 y (by omega) (hR.right hi h4 (by omega)).1 (by have:=(hR.right hi h4 (r:=firstT l i) (by omega)).1;omega) hy with ⟨e,_⟩ | ⟨a1,a2,a3,a4,_⟩
  ·rw [e] at h;exact absurd h (by decide)
  ·exact ⟨h1,hi,h4,by omega,a3,a4,a2⟩
 ·unfold l7 at h
  rw [if_neg hc] at h
  exact absurd h (by decide)
theorem Xt {k:Nat} (hk:20000 <= k) {l:List fq} (hL:jl l) (hl:l.length <= 10) {ap:Int}:∀ (d i j:Nat) (out:List vo),i+d=l.length -> d<j -> out.length <= i ->
  Zr k j l ap out (i:Int)=some (((KY l ap d i out).1,(KY l ap d i out).2,()),())
 | 0,i,j,out,h,hj,ho=>by
  obtain ⟨j',rfl⟩:∃ j',j=j'+1:=⟨j - 1,by omega⟩
  rw [Zt,Zq,Rk (by omega),KY]
 | d+1,i,j,out,h,hj,ho=>by
  obtain ⟨j',rfl⟩:∃ j',j=j'+1:=⟨j - 1,by omega⟩
  have hi:i<l.length:=by omega
  have ht:=(hL.2 _ (iq (z:=t0) hi)).1
  rw [Zt,Zq,Rj (by omega),ajO hk hL hl,Option.bind_some,KY]
  simp only
  by_cases he:(l7 l (i:Int) ap).2.2=0
  ·obtain ⟨h1,_,h3,h4,h5,h6,h7⟩:=Xr hL hl he
   have hc:=(O8 h1 hL hl).co _ (iq (z:=t0) hi)
   have:=hc.en;have:=hc.per
   rw [if_pos he,he]
   simp only [bne_self_eq_false,cond_false]
   rw [Pw hi,Px,show l.getD i (0,0,0,[],[],[])=l.getD i t0 from rfl,UO (by omega) ht,Option.bind_some,acn (by omega) hL,Option.bind_some,Pw hi,Rh (by simp only [List.length_cons,List.length_nil];omega),Me (by omega),Ua (by omega) (by omega)]
   exact Xt hk hL hl d (i+1) j' _ (by omega) (by omega) (by simp only [List.length_append,List.length_cons,List.length_nil];omega)
  ·rw [if_neg he,show ((l7 l (i:Int) ap).2.2 != 0)=true by rw [bne_iff_ne];exact he,cond_true]
theorem ant {k:Nat} (hk:20000 <= k) {l:List fq} (hL:jl l) (hl:l.length <= 10) (ap:Int):S69 k l ap=some (((allT l ap).1,(allT l ap).2,()),()):=by
 unfold S69 allT
 rw [acv (by omega) hL,Option.bind_some]
 simp only
 cases hr:zi l with
 | false =>
  rw [Bool.not_false,cond_true]
  by_cases h:ap<1
  ·rw [if_pos h]
  ·rw [if_neg h]
   cases l with
   | nil=>exact absurd hr (by unfold zi;decide)
   | cons t r =>
    have:l7 (t::r) ((0:Nat):Int) ap=(0,0,1):=by unfold l7;rw [if_neg (fun q=>by rw [hr] at q;cases q.1)]
    rw [List.length_cons,KY,this,if_neg (by decide)]
 | true =>
  rw [Bool.not_true,cond_false]
  by_cases h:ap<1
  ·rw [Rj h,if_pos h]
  ·rw [Rk h,if_neg h]
   exact Xt hk hL hl l.length 0 k [] (by omega) (by omega) (by simp)
def xu (r:Int):List fq -> Nat
 | []=>0
 | x::l=>bif decide (x.1<r) then xu r l+1 else 0
theorem LY (r:Int):∀ l:List fq,xu r l <= l.length
 | []=>Nat.le_refl _
 | x::l=>by
  rw [xu]
  cases decide (x.1<r) with
  | true=>rw [cond_true,List.length_cons];have:=LY r l;omega
  | false=>rw [cond_false];omega
theorem KV (r:Int):∀ (l:List fq) (n:Nat),n <= l.length -> (∀ a,a<n -> (l.getD a t0).1<r) -> (n<l.length -> ¬ (l.getD n t0).1<r) -> xu r l=n
 | [],n,h,_,_=>by simp at h;rw [h];rfl
 | x::l,0,_,_,h2=>by
  have h3:¬ x.1<r:=h2 (by simp)
  rw [xu,decide_eq_false h3,cond_false]
 | x::l,n+1,h,h1,h2=>by
  have h3:x.1<r:=h1 0 (by omega)
  rw [xu,decide_eq_true h3,cond_true,KV r l n (by simpa using h) (fun a ha=>h1 (a+1) (by omega)) (fun hn=>h2 (by simpa using hn))]
noncomputable def AL (l:List fq) (t:fq):List fq:=l.take (xu t.1 l)++[t]++l.drop (xu t.1 l)
theorem II (l:List fq) (t:fq):(AL l t).length=l.length+1:=by
 have:=LY t.1 l
 unfold AL
 simp only [List.length_append,List.length_take,List.length_drop,List.length_cons,List.length_nil];omega
theorem OC {l:List fq} {t:fq} (h:jl l) (hl:l.length <= 50) (ht:BX t /\ (t.2.2.2.1++t.2.2.2.2.1).length <= 900):jl (AL l t):=⟨by rw [II];omega,fun x hx=>by
 unfold AL at hx
 simp only [List.mem_append,List.mem_singleton] at hx
 rcases hx with (hx | hx) | hx
 ·exact h.2 x (List.mem_of_mem_take hx)
 ·rw [hx];exact ht
 ·exact h.2 x (List.mem_of_mem_drop hx)⟩
noncomputable def inT (l:List fq) (t:fq) (ap:Int):List fq×List vo×Int :=
 if BJ t≠0 then ([],[],BJ t) else if l.any (fun x=>x.1==t.1)=true then ([],[],11) else if 8 <= l.length then ([],[],4)
 else if (allT (AL l t) ap).2≠0 then ([],[],(allT (AL l t) ap).2) else (AL l t,(allT (AL l t) ap).1,0)
structure ajP (l:List fq) (t:fq):Prop where
 light:jl l
 len:l.length <= 9
 one:BX t /\ (t.2.2.2.1++t.2.2.2.2.1).length <= 900
def UU (l:List fq):Prop:=∀ a b,a<b -> b<l.length -> (l.getD a t0).1<(l.getD b t0).1
theorem RB {l:List fq} (h:zi l=true):UU l:=fun a b hab hb=>by
 rw [row_iff] at h
 induction b with
 | zero=>omega
 | succ b ih =>
  have h1:=(h (b+1) hb).2 (by omega)
  rw [show b+1 - 1=b by omega] at h1
  by_cases e:a=b
  ·rw [e];exact h1
  ·have:=ih (by omega) (by omega);omega
theorem OD {k:Nat} (hk:20000 <= k) {l:List fq} {t:fq} (h:ajP l t) (hr:UU l) {ap:Int}:∀ (d n p j:Nat),n+d=l.length -> d<j -> p <= n -> (l.take n).any (fun x=>x.1==t.1)=false -> (∀ a,a<p -> (l.getD a t0).1<t.1) -> (∀ a,p <= a -> a<n -> ¬ (l.getD a t0).1<t.1) ->
  Zv k j l ap t.1 t.2.1 t.2.2.1 t.2.2.2.1 t.2.2.2.2.1 t.2.2.2.2.2 (p:Int) (n:Int)=some ((if l.any (fun x=>x.1==t.1)=true then ([],[],11,()) else if 8 <= l.length then ([],[],4,()) else if (allT (AL l t) ap).2≠0 then ([],[],(allT (AL l t) ap).2,()) else (AL l t,(allT (AL l t) ap).1,0,())),())
 | 0,n,p,j,h1,hj,hp,ha,q1,q2=>by
  obtain ⟨j',rfl⟩:∃ j',j=j'+1:=⟨j - 1,by omega⟩
  have hl:=h.len
  have hn:n=l.length:=by omega
  subst hn
  rw [List.take_length] at ha
  have hpos:=KV t.1 l p hp q1 (fun hh=>q2 p (Nat.le_refl _) hh)
  have hpl:=OC h.light (by omega) h.one
  have hpn:=II l t
  rw [Zw,Zu,Rk (by omega),ha,if_neg (by simp)]
  by_cases h8:8 <= l.length
  ·rw [if_pos h8,Rj (by omega)]
  ·rw [if_neg h8,Rk (by omega),Rc (by omega) (by omega) (by omega),Rh (by simp only [List.length_nil,sub,List.length_drop,List.length_take];omega),Rh (by simp only [List.length_append,List.length_cons,List.length_nil,sub,List.length_drop,List.length_take];omega),Rc (by omega) (by omega) (by omega),Rh (by simp only [List.length_append,List.length_cons,List.length_nil,sub,List.length_drop,List.length_take];omega)]
   rw [show []++sub l 0 (p:Int)++[(t.1,t.2.1,t.2.2.1,t.2.2.2.1,t.2.2.2.2.1,t.2.2.2.2.2)]++sub l (p:Int) (l.length:Int)=AL l t by
    unfold AL;rw [hpos];simp [sub],ant hk hpl (by omega),Option.bind_some]
   simp only
   by_cases he:(allT (AL l t) ap).2=0
   ·rw [he,if_neg (by simp)];rfl
   ·rw [if_pos he,show ((allT (AL l t) ap).2 != 0)=true by rw [bne_iff_ne];exact he,cond_true]
 | d+1,n,p,j,h1,hj,hp,ha,q1,q2=>by
  obtain ⟨j',rfl⟩:∃ j',j=j'+1:=⟨j - 1,by omega⟩
  have hl:=h.len
  have hn:n<l.length:=by omega
  rw [Zw,Zu,Rj (by omega),Pw hn,Px,show l.getD n (0,0,0,[],[],[])=l.getD n t0 from rfl,Me (by omega)]
  cases he:(l.getD n t0).1==t.1 with
  | true =>
   have:l.any (fun x=>x.1==t.1)=true:=List.any_eq_true.2 ⟨_,iq (z:=t0) hn,he⟩
   rw [this,if_pos rfl,cond_true]
  | false =>
   have ha2:(l.take (n+1)).any (fun x=>x.1==t.1)=false:=by rw [JZ hn,List.any_append,ha,List.any_cons,he];rfl
   rw [cond_false,Pw hn]
   by_cases hlt:(l.getD n t0).1<t.1
   ·rw [Rj hlt]
    exact OD hk h hr d (n+1) (n+1) j' (by omega) (by omega) (Nat.le_refl _) ha2 (fun a ha=>by
     by_cases e:a=n
     ·rw [e];exact hlt
     ·have:=hr a n (by omega) hn;omega) (fun a h2 h3=>by omega)
   ·rw [Rk hlt]
    exact OD hk h hr d (n+1) p j' (by omega) (by omega) (by omega) ha2 q1 (fun a h2 h3=>by
     by_cases e:a=n
     ·rw [e];exact hlt
     ·exact q2 a h2 (by omega))
theorem anu {k:Nat} (hk:20000 <= k) {l:List fq} {t:fq} (h:ajP l t) (hr:UU l) (ap:Int):S28 k l t ap=some (((inT l t ap).1,(inT l t ap).2.1,(inT l t ap).2.2,()),()):=by
 have hl:=h.len
 unfold S28 inT
 rw [Yu (by omega) h.one.1,Option.bind_some]
 simp only
 by_cases hz:BJ t=0
 ·rw [if_neg (by omega),hz]
  simp only [bne_self_eq_false,cond_false]
  refine (OD hk h hr (ap:=ap) l.length 0 0 k (by omega) (by omega) (Nat.le_refl _) (by simp) (fun a ha=>by omega) (fun a h1 h2=>by omega)).trans ?_
  split
  ·rfl
  ·split
   ·rfl
   ·split <;> rfl
 ·rw [if_pos hz,show (BJ t != 0)=true by rw [bne_iff_ne];exact hz,cond_true]
theorem UW {k:Nat} (hk:1000 <= k) {a:List I4} (ha:a.length <= 900):ac0 k a a=some ((true,()),()):=by
 unfold ac0
 simp only [bne_self_eq_false,cond_false]
 have key:∀ (d i j:Nat),i+d=a.length -> d<j -> Ur k j a a (i:Int)=some ((true,()),()):=by
  intro d
  induction d with
  | zero =>
   intro i j h hj
   obtain ⟨j',rfl⟩:∃ j',j=j'+1:=⟨j - 1,by omega⟩
   rw [WY,Uq,Rk (by omega)]
  | succ d ih =>
   intro i j h hj
   obtain ⟨j',rfl⟩:∃ j',j=j'+1:=⟨j - 1,by omega⟩
   rw [WY,Uq,Rj (by omega),Pw (by omega),Pw (by omega),Me (by omega)]
   have:∀ x:I4,fC (.pair (.int .i64) (.pair (.int .i64) (.pair (.int .i64) (.int .i64)))) x x=true:=fun x=>by simp [fC]
   rw [this,Bool.not_true,cond_false]
   exact ih (i+1) j' (by omega) (by omega)
 exact key a.length 0 k (by omega) (by omega)
theorem anv {k:Nat} (hk:1000 <= k) {t:fq} (h:BX t):S90 k t t=some ((true,()),()):=by
 unfold S90
 simp only [beq_self_eq_true,cond_true,UW hk h.1,UW hk h.2.1,UW hk h.2.2,Option.bind_some]
theorem anw {k:Nat} (hk:1000 <= k) {l:List fq} (h:jl l):S44 k l l=some ((true,()),()):=by
 have hl:=h.1
 unfold S44
 simp only [bne_self_eq_false,cond_false]
 have key:∀ (d i j:Nat),i+d=l.length -> d<j -> abG k j l l (i:Int)=some ((true,()),()):=by
  intro d
  induction d with
  | zero =>
   intro i j h hj
   obtain ⟨j',rfl⟩:∃ j',j=j'+1:=⟨j - 1,by omega⟩
   rw [abH,abF,Rk (by omega)]
  | succ d ih =>
   intro i j h1 hj
   obtain ⟨j',rfl⟩:∃ j',j=j'+1:=⟨j - 1,by omega⟩
   have ht:=(h.2 _ (iq (z:=t0) (show i<l.length by omega))).1
   rw [abH,abF,Rj (by omega),Pw (by omega),Pw (by omega),Px,show l.getD i (0,0,0,[],[],[])=l.getD i t0 from rfl,anv hk ht,Option.bind_some,Me (by omega)]
   exact ih (i+1) j' (by omega) (by omega)
 exact key l.length 0 k (by omega) (by omega)
theorem anx {k:Nat} (hk:1000 <= k) {l:List vo} (h:l.length <= 900):S45 k l l=some ((true,()),()):=by
 unfold S45
 simp only [bne_self_eq_false,cond_false]
 have key:∀ (d i j:Nat),i+d=l.length -> d<j -> abJ k j l l (i:Int)=some ((true,()),()):=by
  intro d
  induction d with
  | zero =>
   intro i j h hj
   obtain ⟨j',rfl⟩:∃ j',j=j'+1:=⟨j - 1,by omega⟩
   rw [abK,abI,Rk (by omega)]
  | succ d ih =>
   intro i j h1 hj
   obtain ⟨j',rfl⟩:∃ j',j=j'+1:=⟨j - 1,by omega⟩
   rw [abK,abI,Rj (by omega),Pw (by omega),Pw (by omega),Me (by omega)]
   have:∀ x:vo,fC (Am 5 (.int .i64)) x x=true:=fun x=>by simp [fC,Am]
   rw [this,Bool.not_true,cond_false]
   exact ih (i+1) j' (by omega) (by omega)
 exact key l.length 0 k (by omega) (by omega)
abbrev gu:Type:=Int×Int×Int×Int×d9×d9×List Int×Bool
abbrev RF:Type:=Int×(Int×Int)×(Int×Int)×((List Int)×List Int)×(Int×List (Int×Int))×Int
abbrev YA:Type:=(List Int×List Bool)×List RF
abbrev gy:Type:=Int×Int×List fq×List vo×Bool×Bool×Bool×List gu×YA×List Int×List Bool
abbrev m0:d9:=(0,Pv (α:=Int) 8 0,[],false)
abbrev j0:gu:=(0,0,0,0,m0,m0,[],false)
abbrev jh:YA:=((List.replicate 12 0,List.replicate 12 false),List.replicate 12 (0,(0,0),(0,0),([],[]),(0,[]),0))
structure OY (j:gu):Prop where
 held:j.2.2.2.2.2.2.1=[]
 m:j.2.2.2.2.1.2.2.1.length <= 100
 kept:j.2.2.2.2.2.1.2.2.1.length <= 100
theorem FL {k:Nat} {xs:List I4} (h:xs.length <= 900):S80 k xs=some ((xs,()),()):=by
 unfold S80
 exact Lg (by omega)
theorem ajQ {k:Nat} {xs:List fq} (h:xs.length <= 900):S77 k xs=some ((xs,()),()):=by
 unfold S77
 exact Lg (by omega)
theorem adf {k:Nat} {xs:List vo} (h:xs.length <= 900):S78 k xs=some ((xs,()),()):=by
 unfold S78
 exact Lg (by omega)
theorem anz {k:Nat} {xs:List gu} (h:xs.length <= 900):S79 k xs=some ((xs,()),()):=by
 unfold S79
 exact Lg (by omega)
theorem YB {k:Nat} {xs:List dz} (h:xs.length <= 900):XO k xs=some ((xs,()),()):=by
 unfold XO
 exact Lg (by omega)
theorem OE {k:Nat} {xs:List Int} (h:xs.length <= 900):VJ k xs=some ((xs,()),()):=by
 unfold VJ
 exact Lg (by omega)
theorem UY {k:Nat} {xs:List Bool} (h:xs.length <= 900):aib k xs=some ((xs,()),()):=by
 unfold aib
 exact Lg (by omega)
theorem ahn {k:Nat} (hk:1000 <= k) (s:Int):aia k [] s=some (([],()),()):=by
 obtain ⟨k,rfl⟩:∃ m,k=m+1:=⟨k - 1,by omega⟩
 unfold aia alu
 rw [aej,XP,Rk (by simp),Option.bind_some]
 rfl
theorem aho {k:Nat} (hk:1000 <= k) {j:gu} (h:OY j) (s:Int):S81 k j s=some ((j,()),()):=by
 obtain ⟨t,a,i,p,m,kp,hd,up⟩:=j
 have h1:hd=[]:=h.held
 have h2:m.2.2.1.length <= 100:=h.m
 have h3:kp.2.2.1.length <= 100:=h.kept
 subst h1
 unfold S81
 simp only
 rw [YB (by omega),Option.bind_some,YB (by omega),Option.bind_some,OE (by simp),Option.bind_some]
 simp only
 rw [ahn hk,Option.bind_some]
theorem ajR {k:Nat} (hk:1000 <= k) (x:RF):S82 k jh (-1) x=some ((jh,()),()):=by
 obtain ⟨k,rfl⟩:∃ m,k=m+1000:=⟨k - 1000,by omega⟩
 kernel_rfl
theorem adg {k:Nat} {r:List Int} {o:List Bool} (h1:r.length <= 900) (h2:o.length <= 900):S83 k (r,o) (-1)=some (((r,o),()),()):=by
 unfold S83 acK
 simp only
 rw [OE h1,Option.bind_some,UY h2,Option.bind_some,Option.bind_some]
 rfl
theorem zu {α:Type} {l:List α} {n:Nat} {z:α}:l.set n (l.getD n z)=l:=by
 by_cases h:n<l.length
 ·rw [getD_in h];exact List.set_getElem_self h
 ·exact List.set_eq_of_length_le (by omega)
theorem Xu {k:Nat} (hk:1000 <= k) {now ap:Int} {ts:List fq} {bs:List vo} {ru ha hi:Bool} {js:List gu} {rows:List Int} {off:List Bool} {x1 x2:Int} {x3 x4 x5:Bool} (hr:rows.length <= 900) (ho:off.length <= 900) (hjl:js.length <= 900) (hj:∀ j∈js,OY j):∀ (d i j:Nat),i+d=js.length -> d<j ->
  ZG k j now ap ts bs ru ha hi js jh.1.1 jh.1.2 jh.2 rows off x1 x2 x3 x4 x5 (js.length:Int) (i:Int)=some (((now,ap,ts,bs,ru,ha,hi,js,jh,rows,off),()),())
 | 0,i,j,h,hjj=>by
  obtain ⟨j',rfl⟩:∃ j',j=j'+1:=⟨j - 1,by omega⟩
  rw [ZH,ZF,Rk (by omega),ajR hk,Option.bind_some,adg hr ho,Option.bind_some]
 | d+1,i,j,h,hjj=>by
  obtain ⟨j',rfl⟩:∃ j',j=j'+1:=⟨j - 1,by omega⟩
  have hi':i<js.length:=by omega
  rw [ZH,ZF,Rj (by omega),Pw hi',Px,aho hk (hj _ (iq hi')),Option.bind_some,Pw hi',Mf,Me (by omega)]
  simp only
  rw [zu]
  exact Xu hk hr ho hjl hj d (i+1) j' (by omega) (by omega)
theorem Xv {k:Nat} (hk:1000 <= k) {now ap:Int} {ts:List fq} {bs:List vo} {ru ha hi:Bool} {js:List gu} {rows:List Int} {off:List Bool} {x1 x2:Int} {x3 x4 x5:Bool} (hr:rows.length <= 900) (ho:off.length <= 900) (hjl:js.length <= 900) (hj:∀ j∈js,OY j) (ht:jl ts):∀ (d i j:Nat),i+d=ts.length -> d<j ->
  ZJ k j now ap ts bs ru ha hi js jh.1.1 jh.1.2 jh.2 rows off x1 x2 x3 x4 x5 (ts.length:Int) (i:Int)=some (((now,ap,ts,bs,ru,ha,hi,js,jh,rows,off),()),())
 | 0,i,j,h,hjj=>by
  obtain ⟨j',rfl⟩:∃ j',j=j'+1:=⟨j - 1,by omega⟩
  rw [ZK,ZI,Rk (by omega)]
  exact Xu hk hr ho hjl hj js.length 0 k (by omega) (by omega)
 | d+1,i,j,h,hjj=>by
  obtain ⟨j',rfl⟩:∃ j',j=j'+1:=⟨j - 1,by omega⟩
  have hi':i<ts.length:=by omega
  have hl:=(ht.2 _ (iq (z:=t0) hi')).1
  rw [ZK,ZI,Rj (by omega),Pw hi',Px,FL hl.1,Option.bind_some,FL hl.2.1,Option.bind_some,FL hl.2.2,Option.bind_some,Pw hi',Mf]
  rw [show (ts.set i (ts.getD i (0,0,0,[],[],[])))=ts from zu,Pw hi',Px,Mf]
  simp only
  rw [show (ts.set i (ts.getD i (0,0,0,[],[],[])))=ts from zu,Pw hi',Px,Mf,show (ts.set i (ts.getD i (0,0,0,[],[],[])))=ts from zu,Me (by have:=ht.1;omega)]
  exact Xv hk hr ho hjl hj ht d (i+1) j' (by omega) (by omega)
structure KOK (K:gy):Prop where
 tab:K.2.2.2.2.2.2.2.2.1=jh
 tasks:jl K.2.2.1
 bounds:K.2.2.2.1.length <= 900
 jobs:K.2.2.2.2.2.2.2.1.length <= 800
 job:∀ j∈K.2.2.2.2.2.2.2.1,OY j
 rows:K.2.2.2.2.2.2.2.2.2.1.length <= 900
 off:K.2.2.2.2.2.2.2.2.2.2.length <= 900
theorem YC {k:Nat} (hk:1000 <= k) {K:gy} (h:KOK K):S34 k K=some ((K,()),()):=by
 obtain ⟨now,ap,ts,bs,ru,ha,hi,js,T,rows,off⟩:=K
 have e:T=jh:=h.tab
 subst e
 unfold S34
 simp only
 have h1:ts.length <= 100:=h.tasks.1
 have h2:js.length <= 800:=h.jobs
 rw [ajQ (by omega),Option.bind_some,adf h.bounds,Option.bind_some,anz (by omega),Option.bind_some]
 exact Xv (ts:=ts) (js:=js) hk h.rows h.off (by omega) h.job h.tasks ts.length 0 k (by omega) (by omega)
abbrev ig:Type:=PN Int 6
theorem FM {k:Nat} (hk:1000 <= k):S73 k jh=some (([],()),()):=by
 obtain ⟨k,rfl⟩:∃ m,k=m+1000:=⟨k - 1000,by omega⟩
 kernel_rfl
theorem adh {k:Nat} (hk:1000 <= k):aiy k jh=some ((jh,[],[],()),()):=by
 obtain ⟨k,rfl⟩:∃ m,k=m+1000:=⟨k - 1000,by omega⟩
 kernel_rfl
theorem ahp {k:Nat} {now ap:Int} {ts:List fq} {bs:List vo} {ru ha hi:Bool} {js:List gu} {s:List Int} {i:List Bool} {l:List RF} {rows:List Int} {off:List Bool} (j:Nat) (hj:0<j) :
  ZL k j now ap ts bs ru ha hi js s i l rows off [] [] 0 0=some (([],()),()):=by
 obtain ⟨j',rfl⟩:∃ j',j=j'+1:=⟨j - 1,by omega⟩
 rw [aii,aew,Rk (by omega)]
theorem FN {k:Nat} (hk:1000 <= k) {now ap:Int} {ts:List fq} {bs:List vo} {ru ha hi:Bool} {js:List gu} {rows:List Int} {off:List Bool}:S30 k (now,ap,ts,bs,ru,ha,hi,js,jh,rows,off)=some (([],()),()):=by
 unfold S30
 rw [show S73 k (now,ap,ts,bs,ru,ha,hi,js,jh,rows,off).2.2.2.2.2.2.2.2.1=_ from FM hk,Option.bind_some]
 exact ahp k (by omega)
theorem anA {k:Nat} (hk:1000 <= k) {now ap:Int} {ts:List fq} {bs:List vo} {ru ha hi:Bool} {js:List gu} {rows:List Int} {off:List Bool} {l:List (Int×Int)} :
  S39 k now ap ts bs ru ha hi js jh.1.1 jh.1.2 jh.2 rows off l=some ((),(now,ap,ts,bs,ru,ha,hi,js,jh.1.1,jh.1.2,jh.2,rows,off,()),()):=by
 unfold S39
 obtain ⟨k,rfl⟩:∃ m,k=m+1:=⟨k - 1,by omega⟩
 rw [show S73 (k+1) ((jh.1.1,jh.1.2),jh.2)=_ from FM hk,Option.bind_some,aij,aeD,Rk (by simp)]
theorem ajS {k:Nat} (hk:1000 <= k) {now ap:Int} {ts:List fq} {bs:List vo} {ru ha hi:Bool} {js:List gu} {rows:List Int} {off:List Bool} {ev:List ig} {l:List (Int×Int)} :
  aiq k now ap ts bs ru ha hi js jh.1.1 jh.1.2 jh.2 rows off ev l=some ((),(now,ap,ts,bs,ru,ha,hi,js,jh.1.1,jh.1.2,jh.2,rows,off,ev,()),()):=by
 unfold aiq
 obtain ⟨k,rfl⟩:∃ m,k=m+1:=⟨k - 1,by omega⟩
 rw [show S73 (k+1) ((jh.1.1,jh.1.2),jh.2)=_ from FM hk,Option.bind_some,aeO,XZ,Rk (by simp)]
theorem ajT {k:Nat} (hk:1000 <= k) {now ap:Int} {ts:List fq} {bs:List vo} {ru ha hi:Bool} {js:List gu} {rows:List Int} {off:List Bool} {ev:List ig} {l:List (Int×Int)} :
  acQ k now ap ts bs ru ha hi js jh.1.1 jh.1.2 jh.2 rows off ev l=some ((),(now,ap,ts,bs,ru,ha,hi,js,jh.1.1,jh.1.2,jh.2,rows,off,ev,()),()):=by
 unfold acQ
 obtain ⟨k,rfl⟩:∃ m,k=m+1:=⟨k - 1,by omega⟩
 rw [show S73 (k+1) ((jh.1.1,jh.1.2),jh.2)=_ from FM hk,Option.bind_some,afk,Y7,Rk (by simp)]
def OG (x:I4):Bool:=bif x.1==9 then decide (x.2.1≥0) else false
def qy (t:fq):Bool:=(t.2.2.2.1++t.2.2.2.2.1).any OG
theorem anB {k:Nat} (hk:1000 <= k) {s:List I4} (h:s.length <= 900):S84 k s []=some ((JK OG s,()),()):=by
 unfold S84
 refine Ut (fun j i=>PS k j s [] (s.length:Int) i) s i0 _ (fun j i hi=>?_) (fun j=>?_) k (by omega)
 ·show PS k (j+1) s [] (s.length:Int) (i:Int)=_
  rw [ZP,ZO,Rj (by omega),Pw hi,Me (by omega),Px]
  unfold S37 OG
  cases (s.getD i i0).1==9 <;> rfl
 ·show PS k (j+1) s [] (s.length:Int) (s.length:Int)=_
  rw [ZP,ZO,Rk (by omega)]
theorem Xw {k:Nat} (hk:1000 <= k) {now ap:Int} {ts:List fq} {bs:List vo} {ru ha hi:Bool} {js:List gu} {rows:List Int} {off:List Bool} {x1 x2:Int} {x3 x4 x5:Bool} (ht:jl ts):∀ (d i j:Nat),i+d=ts.length -> d<j ->
  ZU k j now ap ts bs ru ha hi js jh.1.1 jh.1.2 jh.2 rows off x1 x2 x3 x4 x5 [] ts (ts.length:Int) (i:Int)=bif (ts.drop i).any qy then some (((now,ap,ts,bs,ru,ha,hi,js,jh,rows,off),4,()),()) else some (((now,ap,ts,bs,true,ha,hi,js,jh,rows,off),0,()),())
 | 0,i,j,h,hjj=>by
  obtain ⟨j',rfl⟩:∃ j',j=j'+1:=⟨j - 1,by omega⟩
  rw [ZV,ZT,Rk (by omega),drop_nil (by omega)]
  obtain ⟨k,rfl⟩:∃ m,k=m+1:=⟨k - 1,by omega⟩
  rw [aeG,XR,Rk (by simp),anA hk,Option.bind_some]
  rfl
 | d+1,i,j,h,hjj=>by
  obtain ⟨j',rfl⟩:∃ j',j=j'+1:=⟨j - 1,by omega⟩
  have hi':i<ts.length:=by omega
  have hl:=ht.2 _ (iq (z:=t0) hi')
  rw [ZV,ZT,Rj (by omega),Pw hi',Px,anq hk hl.1.1 hl.1.2.1,Option.bind_some]
  unfold S35
  rw [anB hk hl.2]
  simp only [Option.bind_some,agS]
  rw [drop_cons t0 hi',List.any_cons,Me (by have:=ht.1;omega),Xw hk ht d (i+1) j' (by omega) (by omega)]
  show (bif qy (ts.getD i t0) then _ else _)=_
  cases qy (ts.getD i t0) <;> rfl
theorem adi {k:Nat} (hk:1000 <= k) {now ap:Int} {ts:List fq} {bs:List vo} {ha hi:Bool} {js:List gu} {rows:List Int} {off:List Bool} (h:KOK (now,ap,ts,bs,false,ha,hi,js,jh,rows,off)) :
  S12 k (now,ap,ts,bs,false,ha,hi,js,jh,rows,off)=some (((now,ap,ts,bs,!ts.any qy,ha,hi,js,jh,rows,off),(bif ts.any qy then 4 else 0),()),()):=by
 unfold S12
 rw [YC hk h,Option.bind_some]
 simp only [cond_false]
 have ht:jl ts:=h.tasks
 rw [FN hk,Option.bind_some]
 have e:=Xw (now:=now) (ap:=ap) (bs:=bs) (ru:=false) (ha:=ha) (hi:=hi) (js:=js) (rows:=rows) (off:=off) (x1:=0) (x2:=0) (x3:=false) (x4:=false) (x5:=false) hk ht ts.length 0 k (by omega) (by have:=ht.1;omega)
 rw [List.drop_zero] at e
 refine e.trans ?_
 cases ts.any qy <;> rfl
theorem IJ {k:Nat} {now ap:Int} {ts:List fq} {bs:List vo} {ru ha hi:Bool} {js:List gu} {s:List Int} {i:List Bool} {l:List RF} {rows:List Int} {off:List Bool} {ev:List ig} {e:ig} (he:ev.length <= 100000) :
  XV k now ap ts bs ru ha hi js s i l rows off ev e=some ((),(now,ap,ts,bs,ru,ha,hi,js,s,i,l,rows,off,ev++[(now,e.2)],()),()):=by
 unfold XV
 rw [Rh (by simp only [List.length_cons,List.length_nil];omega)]
theorem EO {k:Nat} {now ap:Int} {ts:List fq} {bs:List vo} {ru ha hi:Bool} {js:List gu} {s:List Int} {i:List Bool} {l:List RF} {rows:List Int} {off:List Bool} {ev:List ig} {e:ig} (he:ev.length <= 100000) :
  FY k now ap ts bs ru ha hi js s i l rows off ev e=some ((),(now,ap,ts,bs,ru,ha,hi,js,s,i,l,rows,off,ev++[(now,e.2)],()),()):=by
 unfold FY
 rw [Rh (by simp only [List.length_cons,List.length_nil];omega)]
theorem all_nil {k:Nat} (hk:1000 <= k) (t:Int):aeM k [] t=some (([],()),()):=by
 obtain ⟨k,rfl⟩:∃ m,k=m+1:=⟨k - 1,by omega⟩
 unfold aeM aio
 rw [Lg (by simp),Option.bind_some]
 rw [aeL,XW,Rk (by simp)]
theorem apF {k:Nat} (hk:20000 <= k):S9 k=some ((true,()),()):=by
 obtain ⟨k,rfl⟩:∃ m,k=m+20000:=⟨k - 20000,by omega⟩
 kernel_rfl
theorem apG (k:Nat) {ap:Int} (h1:1 <= ap) (h2:ap <= 4611686018427387904):S25 (k+1000) ap=some (((0,ap,[],[],false,false,false,[],((List.replicate 12 0,List.replicate 12 false),List.replicate 12 (0,(0,0),(0,0),([],[]),(0,[]),0)),[],[]),true,()),()):=by
 unfold S25
 rw [Rk (by omega),Rk (by omega)]
 kernel_rfl
theorem RG {k:Nat} (hk:1000 <= k):S11 k jh=some ((jh,()),()):=by
 obtain ⟨k,rfl⟩:∃ m,k=m+1000:=⟨k - 1000,by omega⟩
 kernel_rfl
def kr (rows:List Int) (off:List Bool) (n:Nat):(List Int×List Bool)×Bool×Bool :=
 bif (IntKind.i64.wrap (rows.getD n 0+1) != 2)||off.getD n false then ((rows.set n (IntKind.i64.wrap (rows.getD n 0+1)),off),false,false)
 else ((rows.set n (IntKind.i64.wrap (rows.getD n 0+1)),off.set n true),true,!(off.set n true).any (fun b=>false==b))
theorem ajU {k:Nat} {s:List Bool} {v:Bool} (h:s.length <= 900) (hk:1000 <= k):air k s v=some ((JK (fun b=>v==b) s,()),()):=by
 unfold air
 refine Ut (fun j i=>J7 k j s v (s.length:Int) i) s false _ (fun j i hi=>?_) (fun j=>?_) k (by omega)
 ·show J7 k (j+1) s v (s.length:Int) (i:Int)=_
  rw [VU,TS,Rj (by omega),Pw hi,Me (by omega),Px]
 ·show J7 k (j+1) s v (s.length:Int) (s.length:Int)=_
  rw [VU,TS,Rk (by omega)]
theorem ajV {k:Nat} (hk:1000 <= k) {rows:List Int} {off:List Bool} {n:Nat} (h1:n<rows.length) (h2:n<off.length) (h3:rows.length <= 900) (h4:off.length <= 900) :
  ais k (rows,off) (n:Int)=some (((kr rows off n).1,(kr rows off n).2.1,(kr rows off n).2.2,()),()):=by
 unfold ais acK alS
 simp only
 rw [OE h3,Option.bind_some,UY h4,Option.bind_some,Option.bind_some,Rj (by omega),Option.bind_some]
 simp only
 rw [decide_eq_true (show (n:Int)<mn (rows.length:Int) (off.length:Int) by rw [Rl];omega)]
 simp only [Bool.not_true,cond_false]
 have hs:∀ v:Int,n<(rows.set n v).length:=fun v=>by rw [List.length_set];exact h1
 rw [Pw h1,Pw h1,Px,Mf,Pw (hs _),Px,oz,if_pos ⟨rfl,h1⟩,Pw h2,Px]
 unfold kr
 cases hb:(IntKind.i64.wrap (rows.getD n 0+1) != 2) with
 | true=>rfl
 | false =>
  rw [Bool.false_or,cond_false]
  cases off.getD n false with
  | true=>rfl
  | false =>
   rw [cond_false,cond_false,Pw h2,Mf]
   unfold alT
   rw [ajU (by rw [List.length_set];exact h4) hk]
   simp only [Option.bind_some,agS]
theorem K3 (rows:List Int) (off:List Bool) (n:Nat):(kr rows off n).1.1.length=rows.length /\ (kr rows off n).1.2.length=off.length:=by
 unfold kr
 cases (IntKind.i64.wrap (rows.getD n 0+1) != 2)||off.getD n false <;> simp
def GA (now t:Int) (b:Bool×Bool):List ig:=[(now,5,t,0,0,0)]++((bif b.1 then [(now,9,t,0,0,0)] else [])++(bif b.2 then [(now,10,0,0,0,0)] else []))
theorem ajW {k:Nat} (hk:1000 <= k) {now ap:Int} {ts:List fq} {bs:List vo} {ru ha hi:Bool} {js:List gu} {rows:List Int} {off:List Bool} {ev:List ig} {j:gu} {n:Nat} (hn:j.1=(n:Int)) (he:ev.length <= 10000) (h1:n<rows.length) (h2:n<off.length) (h3:rows.length <= 900) (h4:off.length <= 900) :
  aiu k now ap ts bs ru ha hi js jh.1.1 jh.1.2 jh.2 rows off ev j=some ((),(now,ap,ts,bs,ru,ha||(kr rows off n).2.2,hi,js,jh.1.1,jh.1.2,jh.2,(kr rows off n).1.1,(kr rows off n).1.2,ev++GA now n (kr rows off n).2,()),()):=by
 unfold aiu
 rw [hn,IJ (by omega),Option.bind_some]
 simp only
 have hl:S30 k (now,ap,ts,bs,ru,ha,hi,js,((jh.1.1,jh.1.2),jh.2),rows,off)=some (([],()),()):=FN hk
 rw [hl,Option.bind_some]
 simp only
 rw [all_nil hk,Option.bind_some,ajS hk,Option.bind_some]
 simp only
 rw [ajV hk h1 h2 h3 h4,Option.bind_some]
 simp only
 unfold GA
 cases (kr rows off n).2.1 with
 | true =>
  rw [cond_true,IJ (by simp;omega),Option.bind_some]
  simp only
  unfold MJ
  cases (kr rows off n).2.2 with
  | true =>
   rw [cond_true,IJ (by simp;omega),Option.bind_some]
   simp
  | false=>simp
 | false =>
  rw [cond_false]
  unfold MJ
  cases (kr rows off n).2.2 with
  | true =>
   rw [cond_true,IJ (by simp;omega),Option.bind_some]
   simp
  | false=>simp
abbrev adj:Type:=List gu×List ig×List Int×List Bool×Bool
def uo (now:Int) (ts:List fq) (s:adj) (j:gu):adj :=
 bif IntKind.i64.wrap (now - j.2.1) != (ts.getD j.1.toNat t0).2.2.1 then (s.1++[j],s.2.1,s.2.2.1,s.2.2.2.1,s.2.2.2.2)
 else bif j.2.2.2.1==2 then (s.1,s.2.1++[(now,13,j.1,0,0,0)],s.2.2.1,s.2.2.2.1,s.2.2.2.2)
 else (s.1,s.2.1++GA now j.1 (kr s.2.2.1 s.2.2.2.1 j.1.toNat).2,(kr s.2.2.1 s.2.2.2.1 j.1.toNat).1.1,(kr s.2.2.1 s.2.2.2.1 j.1.toNat).1.2,s.2.2.2.2||(kr s.2.2.1 s.2.2.2.1 j.1.toNat).2.2)
theorem K4 (now t:Int) (b:Bool×Bool):(GA now t b).length <= 3:=by
 obtain ⟨a,b⟩:=b
 unfold GA
 cases a <;> cases b <;> simp
theorem IK {k:Nat} (hk:1000 <= k) {now ap:Int} {ts:List fq} {bs:List vo} {ru hi:Bool} {js0 js:List gu} (hl:js.length <= 800) (hjs:∀ j∈js,0 <= j.1 /\ j.1<(ts.length:Int)) (hts:ts.length <= 900) :
  ∀ (d i j:Nat) (s:adj),i+d=js.length -> d<j -> s.1.length <= i -> s.2.1.length <= 3 * i -> s.2.2.1.length=ts.length -> s.2.2.2.1.length=ts.length ->
  aad k j now ap ts bs ru s.2.2.2.2 hi js0 jh.1.1 jh.1.2 jh.2 s.2.2.1 s.2.2.2.1 s.2.1 s.1 js (js.length:Int) (i:Int) =
   some ((),(now,ap,ts,bs,ru,((js.drop i).foldl (uo now ts) s).2.2.2.2,hi,((js.drop i).foldl (uo now ts) s).1,jh.1.1,jh.1.2,jh.2,((js.drop i).foldl (uo now ts) s).2.2.1,((js.drop i).foldl (uo now ts) s).2.2.2.1,((js.drop i).foldl (uo now ts) s).2.1,()),())
 | 0,i,j,s,h,hjj,h1,h2,h3,h4=>by
  obtain ⟨j',rfl⟩:∃ j',j=j'+1:=⟨j - 1,by omega⟩
  rw [aae,aac,Rk (by omega),drop_nil (by omega)]
  rfl
 | d+1,i,j,s,h,hjj,h1,h2,h3,h4=>by
  obtain ⟨j',rfl⟩:∃ j',j=j'+1:=⟨j - 1,by omega⟩
  have hi':i<js.length:=by omega
  have hb:=hjs _ (iq (z:=j0) hi')
  obtain ⟨n,hn⟩:∃ n:Nat,(js.getD i j0).1=(n:Int):=⟨(js.getD i j0).1.toNat,by omega⟩
  have hn2:n<ts.length:=by omega
  have htn:(js.getD i j0).1.toNat=n:=by omega
  rw [aae,aac,Rj (by omega),Pw hi',Px,show js.getD i (0,0,0,0,(0,Pv (α:=Int) 8 0,[],false),(0,Pv (α:=Int) 8 0,[],false),[],false)=js.getD i j0 from rfl,hn,Pw hn2,Px,drop_cons j0 hi',List.foldl_cons,Me (by omega)]
  have hw:=K3 s.2.2.1 s.2.2.2.1 n
  cases hc:IntKind.i64.wrap (now - (js.getD i j0).2.1) != (ts.getD n t0).2.2.1 with
  | true =>
   have e:uo now ts s (js.getD i j0)=(s.1++[js.getD i j0],s.2.1,s.2.2.1,s.2.2.2.1,s.2.2.2.2):=by unfold uo;rw [htn,hc,cond_true]
   rw [cond_true,Rh (by simp only [List.length_cons,List.length_nil];omega),e]
   exact IK hk hl hjs hts d (i+1) j' (s.1++[js.getD i j0],s.2.1,s.2.2.1,s.2.2.2.1,s.2.2.2.2) (by omega) (by omega) (by simp only [List.length_append,List.length_cons,List.length_nil];omega) (by simp only;omega) h3 h4
  | false =>
   rw [cond_false]
   cases hp:(js.getD i j0).2.2.2.1==2 with
   | true =>
    have e:uo now ts s (js.getD i j0)=(s.1,s.2.1++[(now,13,(n:Int),0,0,0)],s.2.2.1,s.2.2.2.1,s.2.2.2.2):=by unfold uo;rw [htn,hc,cond_false,hp,cond_true,hn]
    rw [cond_true,IJ (by omega),Option.bind_some,e]
    exact IK hk hl hjs hts d (i+1) j' (s.1,s.2.1++[(now,13,(n:Int),0,0,0)],s.2.2.1,s.2.2.2.1,s.2.2.2.2) (by omega) (by omega) (by simp only;omega) (by simp;omega) h3 h4
   | false =>
    have e:uo now ts s (js.getD i j0)=(s.1,s.2.1++GA now n (kr s.2.2.1 s.2.2.2.1 n).2,(kr s.2.2.1 s.2.2.2.1 n).1.1,(kr s.2.2.1 s.2.2.2.1 n).1.2,s.2.2.2.2||(kr s.2.2.1 s.2.2.2.1 n).2.2):=by unfold uo;rw [htn,hc,cond_false,hp,cond_false,hn]
    have hm:=K4 now n (kr s.2.2.1 s.2.2.2.1 n).2
    rw [cond_false,ajW hk hn (by omega) (by omega) (by omega) (by omega) (by omega),Option.bind_some,e]
    exact IK hk hl hjs hts d (i+1) j' (s.1,s.2.1++GA now n (kr s.2.2.1 s.2.2.2.1 n).2,(kr s.2.2.1 s.2.2.2.1 n).1.1,(kr s.2.2.1 s.2.2.2.1 n).1.2,s.2.2.2.2||(kr s.2.2.1 s.2.2.2.1 n).2.2) (by omega) (by omega) (by simp only;omega) (by simp only [List.length_append];omega) (by simp only;omega) (by simp only;omega)
def xw (now:Int) (ts:List fq) (js:List gu) (rows:List Int) (off:List Bool) (ha:Bool):adj:=js.foldl (uo now ts) ([],[],rows,off,ha)
theorem anC {k:Nat} (hk:1000 <= k) {now ap:Int} {ts:List fq} {bs:List vo} {ru ha hi:Bool} {js:List gu} {rows:List Int} {off:List Bool} (hl:js.length <= 800) (hjs:∀ j∈js,0 <= j.1 /\ j.1<(ts.length:Int)) (hts:ts.length <= 900) (hr:rows.length=ts.length) (ho:off.length=ts.length) :
  S56 k now ap ts bs ru ha hi js jh.1.1 jh.1.2 jh.2 rows off []=some ((),(now,ap,ts,bs,ru,(xw now ts js rows off ha).2.2.2.2,hi,(xw now ts js rows off ha).1,jh.1.1,jh.1.2,jh.2,(xw now ts js rows off ha).2.2.1,(xw now ts js rows off ha).2.2.2.1,(xw now ts js rows off ha).2.1,()),()):=by
 unfold S56
 have e:=IK (ap:=ap) (bs:=bs) (ru:=ru) (hi:=hi) (js0:=js) (now:=now) hk hl hjs hts js.length 0 k ([],[],rows,off,ha) (by omega) (by omega) (by simp) (by simp) hr ho
 rw [List.drop_zero] at e
 exact e
def jk (now:Int) (bs:List vo) (j:gu):gu :=
 bif j.2.2.2.1 != 2 then (bif decide (IntKind.i64.wrap (now - j.2.1)≥(bs.getD j.1.toNat (Pv (α:=Int) 5 0)).2.2.2.2) then (j.1,j.2.1,j.2.2.1,j.2.2.2.1,j.2.2.2.2.1,j.2.2.2.2.2.1,j.2.2.2.2.2.2.1,true) else j) else j
theorem Xy {α:Type} {f:α -> α} {l:List α} {i:Nat} (z:α) (h:i<l.length):((l.take i).map f++l.drop i).set i (f (l.getD i z))=(l.take (i+1)).map f++l.drop (i+1):=by
 have e:i - ((l.take i).map f).length=0:=by simp;omega
 rw [List.set_append_right _ _ (by simp;omega),e,drop_cons z h,List.set_cons_zero,List.take_succ_eq_append_getElem h,List.map_append,List.append_assoc,getD_in h]
 rfl
theorem LZ {α:Type} {f:α -> α} {l:List α} {i:Nat} (z:α) (h:i<l.length):((l.take i).map f++l.drop i).getD i z=l.getD i z:=by
 have e:i - ((l.take i).map f).length=0:=by simp;omega
 rw [jq (by simp;omega),e,drop_cons z h]
 rfl
theorem UZ {α:Type} {f:α -> α} {l:List α} {i:Nat} (h:i <= l.length):((l.take i).map f++l.drop i).length=l.length:=by simp;omega
theorem Xz {k:Nat} {now ap:Int} {ts:List fq} {bs:List vo} {ru ha hi:Bool} {js:List gu} {g:List Int} {l:List Bool} {u:List RF} {rows:List Int} {off:List Bool} {ev:List ig} (hl:js.length <= 800) (hjs:∀ j∈js,0 <= j.1 /\ j.1<(bs.length:Int)) :
  ∀ (d i j:Nat),i+d=js.length -> d<j ->
  aag k j now ap ts bs ru ha hi ((js.take i).map (jk now bs)++js.drop i) g l u rows off ev (js.length:Int) (i:Int) =
   some ((),(now,ap,ts,bs,ru,ha,hi,js.map (jk now bs),g,l,u,rows,off,ev,()),())
 | 0,i,j,h,hjj=>by
  obtain ⟨j',rfl⟩:∃ j',j=j'+1:=⟨j - 1,by omega⟩
  rw [aah,aaf,Rk (by omega),drop_nil (by omega),List.take_of_length_le (by omega),List.append_nil]
 | d+1,i,j,h,hjj=>by
  obtain ⟨j',rfl⟩:∃ j',j=j'+1:=⟨j - 1,by omega⟩
  have hi':i<js.length:=by omega
  have hb:=hjs _ (iq (z:=j0) hi')
  obtain ⟨n,hn⟩:∃ n:Nat,(js.getD i j0).1=(n:Int):=⟨(js.getD i j0).1.toNat,by omega⟩
  have hn2:n<bs.length:=by omega
  have htn:(js.getD i j0).1.toNat=n:=by omega
  have hlen:((js.take i).map (jk now bs)++js.drop i).length=js.length:=UZ (by omega)
  have hg:((js.take i).map (jk now bs)++js.drop i).getD i (0,0,0,0,(0,Pv (α:=Int) 8 0,[],false),(0,Pv (α:=Int) 8 0,[],false),[],false)=js.getD i j0:=LZ j0 hi'
  have hst:=Xy (f:=jk now bs) j0 hi'
  have ih:=Xz (k:=k) (now:=now) (ap:=ap) (ts:=ts) (bs:=bs) (ru:=ru) (ha:=ha) (hi:=hi) (js:=js) (g:=g) (l:=l) (u:=u) (rows:=rows) (off:=off) (ev:=ev) hl hjs d (i+1) j' (by omega) (by omega)
  have hsame:jk now bs (js.getD i j0)=js.getD i j0 -> (js.take i).map (jk now bs)++js.drop i=(js.take (i+1)).map (jk now bs)++js.drop (i+1):=fun e=>by
   rw [<- hst,e]
   exact (by have:=zu (l:=(js.take i).map (jk now bs)++js.drop i) (n:=i) (z:=j0);rw [LZ j0 hi'] at this;exact this.symm)
  rw [aah,aaf,Rj (by omega),Pw (by omega),Px,hg,hn,Pw hn2,Px,Me (by omega)]
  cases hp:(js.getD i j0).2.2.2.1 != 2 with
  | false =>
   rw [cond_false,hsame (by unfold jk;rw [hp,cond_false]),ih]
  | true =>
   rw [cond_true]
   by_cases hq:IntKind.i64.wrap (now - (js.getD i j0).2.1)≥(bs.getD n (Pv (α:=Int) 5 0)).2.2.2.2
   ·rw [Rj hq,Pw (by omega),Mf]
    have e:jk now bs (js.getD i j0)=((n:Int),(js.getD i j0).2.1,(js.getD i j0).2.2.1,(js.getD i j0).2.2.2.1,(js.getD i j0).2.2.2.2.1,(js.getD i j0).2.2.2.2.2.1,(js.getD i j0).2.2.2.2.2.2.1,true):=by unfold jk;rw [hp,cond_true,htn,Rj hq,hn]
    rw [<- e,hst,ih]
   ·rw [Rk hq,hsame (by unfold jk;rw [hp,cond_true,htn,Rk hq]),ih]
theorem anD {k:Nat} (hk:1000 <= k) {now ap:Int} {ts:List fq} {bs:List vo} {ru ha hi:Bool} {js:List gu} {g:List Int} {l:List Bool} {u:List RF} {rows:List Int} {off:List Bool} {ev:List ig} (hl:js.length <= 800) (hjs:∀ j∈js,0 <= j.1 /\ j.1<(bs.length:Int)) :
  S57 k now ap ts bs ru ha hi js g l u rows off ev=some ((),(now,ap,ts,bs,ru,ha,hi,js.map (jk now bs),g,l,u,rows,off,ev,()),()):=by
 unfold S57
 exact Xz hl hjs js.length 0 k (by omega) (by omega)
theorem anE {k:Nat} (hk:1000 <= k) {now ap:Int} {ts:List fq} {bs:List vo} {ru ha hi:Bool} {js:List gu} {rows:List Int} {off:List Bool} {ev:List ig} :
  S58 k now ap ts bs ru ha hi js jh.1.1 jh.1.2 jh.2 rows off ev=some ((),(now,ap,ts,bs,ru,ha,hi,js,jh.1.1,jh.1.2,jh.2,rows,off,ev,()),()):=by
 unfold S58
 rw [show aiy k ((jh.1.1,jh.1.2),jh.2)=_ from adh hk,Option.bind_some]
 obtain ⟨k,rfl⟩:∃ m,k=m+1:=⟨k - 1,by omega⟩
 simp only
 rw [aiz,ae7,Rk (by simp)]
def o8 (l:List I4) (m:d9):I4:=l.getD m.1.toNat i0
def stepM (l:List I4) (m:d9):d9:=((go (o8 l m) (m.1.toNat:Int) m.2.1 m.2.2.1.reverse).1,NY (o8 l m) m.2.1,(go (o8 l m) (m.1.toNat:Int) m.2.1 m.2.2.1.reverse).2.reverse,(o8 l m).1==0)
structure MOK (l:List I4) (m:d9):Prop where
 len:l.length <= 900
 pc:0 <= m.1 /\ m.1.toNat<l.length
 may:jm (o8 l m)=true
 anF:m.2.2.1.length <= 100
 bound:∀ r∈m.2.2.1,r.2.2 <= 1000
 mem:inM m.2.1
 on:m.2.2.2=false
 plain:(o8 l m).1≠9 /\ (o8 l m).1≠10
theorem ahq {k:Nat} (hk:1000 <= k) {l:List I4} {m:d9} (h:MOK l m):afn k l m=some ((stepM l m,o8 l m,true,()),()):=by
 obtain ⟨pc,mem,rs,ov⟩:=m
 obtain ⟨n,rfl⟩:∃ n:Nat,pc=(n:Int):=⟨pc.toNat,by have:0 <= pc:=h.pc.1;omega⟩
 have ho:ov=false:=h.on
 subst ho
 have e:=ajJ hk (l:=l) (n:=n) (mem:=mem) (R:=rs.reverse) h.len (by have:(n:Int).toNat<l.length:=h.pc.2;omega) h.may (by rw [List.length_reverse];exact h.anF) (fun r hr=>h.bound r (List.mem_reverse.1 hr)) h.mem
 rw [List.reverse_reverse] at e
 exact e
def zw (t:fq) (p:Int):List I4:=bif p==0 then t.2.2.2.1 else bif p==1 then t.2.2.2.2.1 else t.2.2.2.2.2
theorem ajX {k:Nat} {t:fq} (ht:BX t) {j:gu} (hp:0 <= j.2.2.2.1 /\ j.2.2.2.1 <= 2):aiH k t j=some ((zw t j.2.2.2.1,()),()):=by
 unfold aiH
 obtain ⟨a,b,c,p,r⟩:=j
 have hp':p=0 \/ p=1 \/ p=2:=by have:0 <= p /\ p <= 2:=hp;omega
 rcases hp' with rfl | rfl | rfl
 ·rw [show Tx (.int .i64) (.sl _ (.pair (.int .i64) (.pair (.int .i64) (.pair (.int .i64) (.int .i64))))) (0:Int) _ ([]:List I4)=t.2.2.2.1 from rfl,FL ht.1,Option.bind_some];rfl
 ·rw [show Tx (.int .i64) (.sl _ (.pair (.int .i64) (.pair (.int .i64) (.pair (.int .i64) (.int .i64))))) (1:Int) _ ([]:List I4)=t.2.2.2.2.1 from rfl,FL ht.2.1,Option.bind_some];rfl
 ·rw [show Tx (.int .i64) (.sl _ (.pair (.int .i64) (.pair (.int .i64) (.pair (.int .i64) (.int .i64))))) (2:Int) _ ([]:List I4)=t.2.2.2.2.2 from rfl,FL ht.2.2,Option.bind_some];rfl
theorem M0 {k:Nat} {m:d9} (h:m.2.2.1.length <= 900):Ww k m=some ((m,()),()):=by
 unfold Ww
 rw [YB h,Option.bind_some]
theorem V3 {k:Nat} {j:gu} (h:OY j):Y6 k j=some ((j,()),()):=by
 unfold Y6
 rw [M0 (by have:=h.m;omega),Option.bind_some,M0 (by have:=h.kept;omega),Option.bind_some,OE (by rw [h.held];simp),Option.bind_some]
structure XA (ts:List fq) (j:gu):Prop where
 ok:OY j
 task:0 <= j.1 /\ j.1<(ts.length:Int)
 phase:0 <= j.2.2.2.1 /\ j.2.2.2.1 <= 2
 m:MOK (zw (ts.getD j.1.toNat t0) j.2.2.2.1) j.2.2.2.2.1
def OP (t:fq) (j:gu):gu:=(j.1,j.2.1,j.2.2.1,j.2.2.2.1,stepM (zw t j.2.2.2.1) j.2.2.2.2.1,(bif (o8 (zw t j.2.2.2.1) j.2.2.2.2.1).1==11 then stepM (zw t j.2.2.2.1) j.2.2.2.2.1 else j.2.2.2.2.2.1),j.2.2.2.2.2.2)
theorem adk {l:List I4} {m:d9} (h:MOK l m):(stepM l m).2.2.1.length <= 900:=by
 have hg:∀ (R:List dz) (pc:Int),(ni pc R).2.length <= R.length:=fun R=>by
  induction R with
  | nil=>intro pc;simp [ni]
  | cons r R ih =>
   intro pc
   rw [ni]
   by_cases a:r.2.1<pc
   ·rw [if_pos a]
    by_cases b:r.2.2>0
    ·rw [if_pos b];simp
    ·rw [if_neg b];have:=ih pc;simp only [List.length_cons];omega
   ·rw [if_neg a];exact Nat.le_refl _
 have hn:∀ (x:I4) (pc:Int) (mem:Mem) (R:List dz),(gU x pc mem R).2.length <= R.length+1:=fun x pc mem R=>by
  unfold gU;split;· simp
  ·split;· split <;> simp
   ·split <;> simp
 unfold stepM
 rw [List.length_reverse]
 unfold go
 have h1:=hg (gU (o8 l m) (m.1.toNat:Int) m.2.1 m.2.2.1.reverse).2 (gU (o8 l m) (m.1.toNat:Int) m.2.1 m.2.2.1.reverse).1
 have h2:=hn (o8 l m) (m.1.toNat:Int) m.2.1 m.2.2.1.reverse
 rw [List.length_reverse] at h2
 have:=h.anF
 omega
theorem ajY {k:Nat} (hk:1000 <= k) {ts:List fq} {j:gu} (ht:BX (ts.getD j.1.toNat t0)) (h:XA ts j) :
  afo k (ts.getD j.1.toNat t0) j=some ((OP (ts.getD j.1.toNat t0) j,o8 (zw (ts.getD j.1.toNat t0) j.2.2.2.1) j.2.2.2.2.1,true,()),()):=by
 unfold afo
 rw [V3 h.ok,Option.bind_some,ajX ht h.phase,Option.bind_some,ahq hk h.m,Option.bind_some]
 simp only [Bool.not_true,cond_false]
 have hp:=h.m.plain
 unfold OP
 cases e:(o8 (zw (ts.getD j.1.toNat t0) j.2.2.2.1) j.2.2.2.2.1).1==11 with
 | true=>rw [cond_true,cond_true,M0 (adk h.m),Option.bind_some]
 | false =>
  rw [cond_false,cond_false,beq_eq_false_iff_ne.2 hp.1,cond_false,beq_eq_false_iff_ne.2 hp.2,cond_false]
theorem ajZ {k:Nat} {r:List Int} {o:List Bool} {n:Nat} (h1:r.length <= 900) (h2:o.length <= 900) (h:n<r.length):S83 k (r,o) (n:Int)=some (((r.set n 0,o),()),()):=by
 unfold S83 acK
 simp only
 rw [OE h1,Option.bind_some,UY h2,Option.bind_some,Option.bind_some,Rj (by omega),Rj (by simp only;omega),Pw h,Mf]
def OH (a:Int):d9:=(0,(a,0,0,0,0,0,0,0),[],false)
def OI (j:gu):gu:=(j.1,j.2.1,j.2.2.1,2,OH j.2.2.2.2.1.2.1.1,OH j.2.2.2.2.1.2.1.1,[],false)
def flJ (j:gu):Int×Int×Int×Int×Int×Int×Int×Int×Int×Int×Int×Int×Int×List dz×Bool×Int×Int×Int×Int×Int×Int×Int×Int×Int×List dz×Bool×List Int×Bool×Unit:=(j.1,j.2.1,j.2.2.1,j.2.2.2.1,j.2.2.2.2.1.1,j.2.2.2.2.1.2.1.1,j.2.2.2.2.1.2.1.2.1,j.2.2.2.2.1.2.1.2.2.1,j.2.2.2.2.1.2.1.2.2.2.1,j.2.2.2.2.1.2.1.2.2.2.2.1,j.2.2.2.2.1.2.1.2.2.2.2.2.1,j.2.2.2.2.1.2.1.2.2.2.2.2.2.1,j.2.2.2.2.1.2.1.2.2.2.2.2.2.2,j.2.2.2.2.1.2.2.1,j.2.2.2.2.1.2.2.2,j.2.2.2.2.2.1.1,j.2.2.2.2.2.1.2.1.1,j.2.2.2.2.2.1.2.1.2.1,j.2.2.2.2.2.1.2.1.2.2.1,j.2.2.2.2.2.1.2.1.2.2.2.1,j.2.2.2.2.2.1.2.1.2.2.2.2.1,j.2.2.2.2.2.1.2.1.2.2.2.2.2.1,j.2.2.2.2.2.1.2.1.2.2.2.2.2.2.1,j.2.2.2.2.2.1.2.1.2.2.2.2.2.2.2,j.2.2.2.2.2.1.2.2.1,j.2.2.2.2.2.1.2.2.2,j.2.2.2.2.2.2.1,j.2.2.2.2.2.2.2,())
abbrev RunT:Type:=gu×Bool×List ig×List Int
def IL (now:Int) (t:fq) (j:gu) (rows:List Int):RunT :=
 bif j.2.2.2.1==2 then (j,true,[(now,4,j.1,0,j.2.2.2.2.1.2.1.1,0)],rows)
 else (OI j,(t.2.2.2.2.2.length:Int)==0,[(now,3,j.1,0,j.2.2.2.2.1.2.1.1,0)]++(bif (j.2.2.2.1==0)&&decide ((t.2.2.2.2.1.length:Int)>0) then [(now,8,j.1,0,0,0)] else []),rows.set j.1.toNat 0)
theorem RH {k:Nat} (hk:1000 <= k) {now ap:Int} {ts:List fq} {bs:List vo} {ru ha hi:Bool} {js:List gu} {rows:List Int} {off:List Bool} {ev:List ig} {j:gu} (hj:OY j) (h:0 <= j.1 /\ j.1<(ts.length:Int)) (hr:rows.length=ts.length) (ho:off.length <= 900) (ht:ts.length <= 900) :
  JF k now ap ts bs ru ha hi js jh.1.1 jh.1.2 jh.2 rows off ev j.1 j.2.1 j.2.2.1 j.2.2.2.1 j.2.2.2.2.1.1 j.2.2.2.2.1.2.1.1 j.2.2.2.2.1.2.1.2.1 j.2.2.2.2.1.2.1.2.2.1 j.2.2.2.2.1.2.1.2.2.2.1 j.2.2.2.2.1.2.1.2.2.2.2.1 j.2.2.2.2.1.2.1.2.2.2.2.2.1 j.2.2.2.2.1.2.1.2.2.2.2.2.2.1 j.2.2.2.2.1.2.1.2.2.2.2.2.2.2 j.2.2.2.2.1.2.2.1 j.2.2.2.2.1.2.2.2 j.2.2.2.2.2.1.1 j.2.2.2.2.2.1.2.1.1 j.2.2.2.2.2.1.2.1.2.1 j.2.2.2.2.2.1.2.1.2.2.1 j.2.2.2.2.2.1.2.1.2.2.2.1 j.2.2.2.2.2.1.2.1.2.2.2.2.1 j.2.2.2.2.2.1.2.1.2.2.2.2.2.1 j.2.2.2.2.2.1.2.1.2.2.2.2.2.2.1 j.2.2.2.2.2.1.2.1.2.2.2.2.2.2.2 j.2.2.2.2.2.1.2.2.1 j.2.2.2.2.2.1.2.2.2 j.2.2.2.2.2.2.1 j.2.2.2.2.2.2.2=some (((((ts.getD j.1.toNat t0).2.2.2.2.2.length:Int)==0),()),(now,ap,ts,bs,ru,ha,hi,js,jh.1.1,jh.1.2,jh.2,rows.set j.1.toNat 0,off,ev,()),flJ (OI j),()):=by
 obtain ⟨n,hn⟩:∃ n:Nat,j.1=(n:Int):=⟨j.1.toNat,by omega⟩
 unfold JF amd S99
 rw [show Y6 k (j.1,j.2.1,j.2.2.1,j.2.2.2.1,(j.2.2.2.2.1.1,(j.2.2.2.2.1.2.1.1,j.2.2.2.2.1.2.1.2.1,j.2.2.2.2.1.2.1.2.2.1,j.2.2.2.2.1.2.1.2.2.2.1,j.2.2.2.2.1.2.1.2.2.2.2.1,j.2.2.2.2.1.2.1.2.2.2.2.2.1,j.2.2.2.2.1.2.1.2.2.2.2.2.2.1,j.2.2.2.2.1.2.1.2.2.2.2.2.2.2),j.2.2.2.2.1.2.2.1,j.2.2.2.2.1.2.2.2),(j.2.2.2.2.2.1.1,(j.2.2.2.2.2.1.2.1.1,j.2.2.2.2.2.1.2.1.2.1,j.2.2.2.2.2.1.2.1.2.2.1,j.2.2.2.2.2.1.2.1.2.2.2.1,j.2.2.2.2.2.1.2.1.2.2.2.2.1,j.2.2.2.2.2.1.2.1.2.2.2.2.2.1,j.2.2.2.2.2.1.2.1.2.2.2.2.2.2.1,j.2.2.2.2.2.1.2.1.2.2.2.2.2.2.2),j.2.2.2.2.2.1.2.2.1,j.2.2.2.2.2.1.2.2.2),j.2.2.2.2.2.2.1,j.2.2.2.2.2.2.2)=some ((j,()),()) from V3 hj,hn,ajZ (by omega) ho (by omega)]
 simp only [Option.bind_some]
 rw [hn,Pw (by omega),Px,Int.toNat_natCast]
 unfold flJ OI OH
 simp only [hn]
theorem aj0 {k:Nat} (hk:1000 <= k) {now ap:Int} {ts:List fq} {bs:List vo} {ru ha hi:Bool} {js:List gu} {rows:List Int} {off:List Bool} {ev:List ig} {j:gu} (hj:OY j) (h:0 <= j.1 /\ j.1<(ts.length:Int)) (hr:rows.length=ts.length) (ho:off.length <= 900) (ht:ts.length <= 900) (he:ev.length <= 10000) :
  aiP k now ap ts bs ru ha hi js jh.1.1 jh.1.2 jh.2 rows off ev j.1 j.2.1 j.2.2.1 j.2.2.2.1 j.2.2.2.2.1.1 j.2.2.2.2.1.2.1.1 j.2.2.2.2.1.2.1.2.1 j.2.2.2.2.1.2.1.2.2.1 j.2.2.2.2.1.2.1.2.2.2.1 j.2.2.2.2.1.2.1.2.2.2.2.1 j.2.2.2.2.1.2.1.2.2.2.2.2.1 j.2.2.2.2.1.2.1.2.2.2.2.2.2.1 j.2.2.2.2.1.2.1.2.2.2.2.2.2.2 j.2.2.2.2.1.2.2.1 j.2.2.2.2.1.2.2.2 j.2.2.2.2.2.1.1 j.2.2.2.2.2.1.2.1.1 j.2.2.2.2.2.1.2.1.2.1 j.2.2.2.2.2.1.2.1.2.2.1 j.2.2.2.2.2.1.2.1.2.2.2.1 j.2.2.2.2.2.1.2.1.2.2.2.2.1 j.2.2.2.2.2.1.2.1.2.2.2.2.2.1 j.2.2.2.2.2.1.2.1.2.2.2.2.2.2.1 j.2.2.2.2.2.1.2.1.2.2.2.2.2.2.2 j.2.2.2.2.2.1.2.2.1 j.2.2.2.2.2.1.2.2.2 j.2.2.2.2.2.2.1 j.2.2.2.2.2.2.2=some (((IL now (ts.getD j.1.toNat t0) j rows).2.1,()),(now,ap,ts,bs,ru,ha,hi,js,jh.1.1,jh.1.2,jh.2,(IL now (ts.getD j.1.toNat t0) j rows).2.2.2,off,ev++(IL now (ts.getD j.1.toNat t0) j rows).2.2.1,()),flJ (IL now (ts.getD j.1.toNat t0) j rows).1,()):=by
 obtain ⟨n,hn⟩:∃ n:Nat,j.1=(n:Int):=⟨j.1.toNat,by omega⟩
 unfold aiP IL
 cases hp:j.2.2.2.1==2 with
 | true =>
  simp only [cond_true]
  rw [EO (by omega),Option.bind_some]
  rfl
 | false =>
  simp only [cond_false]
  rw [EO (by omega),Option.bind_some]
  simp only
  cases hp0:j.2.2.2.1==0 with
  | false =>
   simp only [cond_false,Bool.false_and,List.append_nil]
   exact RH hk hj h hr ho ht
  | true =>
   simp only [cond_true,Bool.true_and]
   rw [hn,Pw (by omega),Px,<- hn,show ts.getD n (0,0,0,[],[],[])=ts.getD n t0 from rfl]
   have e:=fun ev:List ig=>RH (now:=now) (ap:=ap) (bs:=bs) (ru:=ru) (ha:=ha) (hi:=hi) (js:=js) (off:=off) (ev:=ev) hk hj h hr ho ht
   rw [show j.1.toNat=n by omega] at e ⊢
   cases hw:decide (((ts.getD n t0).2.2.2.2.1.length:Int)>0) with
   | false =>
    simp only [cond_false,List.append_nil]
    exact e _
   | true =>
    simp only [cond_true]
    rw [EO (by simp;omega),Option.bind_some]
    simp only
    rw [<- List.append_assoc]
    exact e _
def BK (now:Int) (t:fq) (j:gu) (rows:List Int):RunT :=
 bif (OP t j).2.2.2.2.1.2.2.2 then IL now t (OP t j) rows else (OP t j,false,[],rows)
theorem YD {l:List I4} {m:d9} (h:MOK l m):(stepM l m).2.2.1.length <= m.2.2.1.length+1:=by
 have hg:∀ (R:List dz) (pc:Int),(ni pc R).2.length <= R.length:=fun R=>by
  induction R with
  | nil=>intro pc;simp [ni]
  | cons r R ih =>
   intro pc
   rw [ni]
   by_cases a:r.2.1<pc
   ·rw [if_pos a]
    by_cases b:r.2.2>0
    ·rw [if_pos b];simp
    ·rw [if_neg b];have:=ih pc;simp only [List.length_cons];omega
   ·rw [if_neg a];exact Nat.le_refl _
 have hn:∀ (x:I4) (pc:Int) (mem:Mem) (R:List dz),(gU x pc mem R).2.length <= R.length+1:=fun x pc mem R=>by
  unfold gU;split;· simp
  ·split;· split <;> simp
   ·split <;> simp
 unfold stepM
 rw [List.length_reverse]
 unfold go
 have h1:=hg (gU (o8 l m) (m.1.toNat:Int) m.2.1 m.2.2.1.reverse).2 (gU (o8 l m) (m.1.toNat:Int) m.2.1 m.2.2.1.reverse).1
 have h2:=hn (o8 l m) (m.1.toNat:Int) m.2.1 m.2.2.1.reverse
 rw [List.length_reverse] at h2
 omega
def few (j:gu):Prop:=j.2.2.2.2.1.2.2.1.length <= 10 /\ j.2.2.2.2.2.1.2.2.1.length <= 10
theorem anG {ts:List fq} {j:gu} (h:XA ts j) (hf:few j):OY (OP (ts.getD j.1.toNat t0) j):=by
 have h1:=YD h.m
 have h2:=hf.1
 have h3:=hf.2
 refine ⟨h.ok.held,?_,?_⟩
 ·show (stepM _ _).2.2.1.length <= 100
  omega
 ·show (bif _ then stepM _ _ else _).2.2.1.length <= 100
  cases (o8 (zw (ts.getD j.1.toNat t0) j.2.2.2.1) j.2.2.2.2.1).1==11 with
  | true=>rw [cond_true];omega
  | false=>rw [cond_false];omega
theorem aj1 {k:Nat} (hk:1000 <= k) {now ap:Int} {ts:List fq} {bs:List vo} {ru ha hi:Bool} {js:List gu} {rows:List Int} {off:List Bool} {ev:List ig} {j:gu} (hL:jl ts) (hj:XA ts j) (hf:few j) (hr:rows.length=ts.length) (ho:off.length <= 900) (he:ev.length <= 10000) :
  aiQ k now ap ts bs ru ha hi js jh.1.1 jh.1.2 jh.2 rows off ev j.1 j.2.1 j.2.2.1 j.2.2.2.1 j.2.2.2.2.1.1 j.2.2.2.2.1.2.1.1 j.2.2.2.2.1.2.1.2.1 j.2.2.2.2.1.2.1.2.2.1 j.2.2.2.2.1.2.1.2.2.2.1 j.2.2.2.2.1.2.1.2.2.2.2.1 j.2.2.2.2.1.2.1.2.2.2.2.2.1 j.2.2.2.2.1.2.1.2.2.2.2.2.2.1 j.2.2.2.2.1.2.1.2.2.2.2.2.2.2 j.2.2.2.2.1.2.2.1 j.2.2.2.2.1.2.2.2 j.2.2.2.2.2.1.1 j.2.2.2.2.2.1.2.1.1 j.2.2.2.2.2.1.2.1.2.1 j.2.2.2.2.2.1.2.1.2.2.1 j.2.2.2.2.2.1.2.1.2.2.2.1 j.2.2.2.2.2.1.2.1.2.2.2.2.1 j.2.2.2.2.2.1.2.1.2.2.2.2.2.1 j.2.2.2.2.2.1.2.1.2.2.2.2.2.2.1 j.2.2.2.2.2.1.2.1.2.2.2.2.2.2.2 j.2.2.2.2.2.1.2.2.1 j.2.2.2.2.2.1.2.2.2 j.2.2.2.2.2.2.1 j.2.2.2.2.2.2.2=some (((BK now (ts.getD j.1.toNat t0) j rows).2.1,()),(now,ap,ts,bs,ru,ha,hi,js,jh.1.1,jh.1.2,jh.2,(BK now (ts.getD j.1.toNat t0) j rows).2.2.2,off,ev++(BK now (ts.getD j.1.toNat t0) j rows).2.2.1,()),flJ (BK now (ts.getD j.1.toNat t0) j rows).1,()):=by
 have h:=hj.task
 have hl:=hL.1
 have ht:=(hL.2 _ (iq (z:=t0) (l:=ts) (i:=j.1.toNat) (by omega))).1
 have hok:=anG hj hf
 have hp:=hj.m.plain
 have eg:afo k (rd ts j.1 (0,0,0,[],[],[])) j=_:=ajY hk ht hj
 unfold aiQ
 rw [Lf h.1 h.2]
 refine (congrArg (fun x=>Option.bind x _) eg).trans ?_
 simp only [Option.bind_some,Bool.not_true,cond_false]
 rw [beq_eq_false_iff_ne.2 hp.1,cond_false,beq_eq_false_iff_ne.2 hp.2,cond_false]
 unfold I6 BK
 cases e:(OP (ts.getD j.1.toNat t0) j).2.2.2.2.1.2.2.2 with
 | true =>
  simp only [cond_true]
  have ed:=aj0 (now:=now) (ap:=ap) (bs:=bs) (ru:=ru) (ha:=ha) (hi:=hi) (js:=js) (rows:=rows) (off:=off) (ev:=ev) (j:=OP (ts.getD j.1.toNat t0) j) hk hok h hr ho (by omega) he
  rw [e] at ed
  rw [ed,Option.bind_some]
  rfl
 | false =>
  simp only [cond_false,List.append_nil]
  unfold flJ
  rw [e]
def EP (t:fq) (j:gu):gu :=
 bif (j.2.2.2.1==0)&&decide ((t.2.2.2.2.1.length:Int)>0) then (j.1,j.2.1,j.2.2.1,1,OH j.2.2.1,OH j.2.2.1,[],j.2.2.2.2.2.2.2)
 else (j.1,j.2.1,j.2.2.1,j.2.2.2.1,j.2.2.2.2.2.1,j.2.2.2.2.2.1,[],j.2.2.2.2.2.2.2)
def yj (now:Int) (t:fq) (j:gu) (rows:List Int):RunT :=
 bif j.2.2.2.1==2 then (j,true,[(now,13,j.1,0,0,0)],rows)
 else bif (j.2.2.2.1==0)&&decide ((t.2.2.2.2.1.length:Int)>0) then (EP t j,false,[(now,7,j.1,0,0,0)],rows)
 else (EP t j,false,[(now,6,j.1,0,0,0)],rows)
theorem aj2 {k:Nat} {t:fq} {j:gu} (h:OY j):aiF k t j=some ((EP t j,()),()):=by
 unfold aiF S99 EP
 rw [V3 h,Option.bind_some]
 simp only [Option.bind_some]
 have hm:=M0 (k:=k) (m:=j.2.2.2.2.2.1) (by have:=h.kept;omega)
 rw [hm]
 simp only [Option.bind_some]
 cases j.2.2.2.1==0 with
 | false=>rfl
 | true=>rw [Bool.true_and,cond_true];cases decide ((t.2.2.2.2.1.length:Int)>0) <;> rfl
theorem aj3 {k:Nat} (hk:1000 <= k) {t:fq} {j:gu} (h:OY j) (now:Int) (rows:List Int):afi k t j []=some (((yj now t j rows).1,[],(bif j.2.2.2.1==2 then 13 else bif (j.2.2.2.1==0)&&decide ((t.2.2.2.2.1.length:Int)>0) then 7 else 6),()),()):=by
 unfold afi yj
 rw [aj2 h,Option.bind_some,all_nil hk,Option.bind_some,aho hk h]
 cases hp:j.2.2.2.1==2 with
 | true=>simp
 | false =>
  simp only [cond_false,Option.bind_some]
  unfold EP
  cases hp0:j.2.2.2.1==0 with
  | false=>simp
  | true =>
   have:j.2.2.2.1=0:=by simpa using hp0
   cases decide ((t.2.2.2.2.1.length:Int)>0) with
   | true=>simp [this]
   | false=>simp
theorem aj4 {k:Nat} (hk:1000 <= k) {now ap:Int} {ts:List fq} {bs:List vo} {ru ha hi:Bool} {js:List gu} {rows:List Int} {off:List Bool} {ev:List ig} {j:gu} (hj:OY j) (h:0 <= j.1 /\ j.1<(ts.length:Int)) (he:ev.length <= 10000) :
  aiG k now ap ts bs ru ha hi js jh.1.1 jh.1.2 jh.2 rows off ev j.1 j.2.1 j.2.2.1 j.2.2.2.1 j.2.2.2.2.1.1 j.2.2.2.2.1.2.1.1 j.2.2.2.2.1.2.1.2.1 j.2.2.2.2.1.2.1.2.2.1 j.2.2.2.2.1.2.1.2.2.2.1 j.2.2.2.2.1.2.1.2.2.2.2.1 j.2.2.2.2.1.2.1.2.2.2.2.2.1 j.2.2.2.2.1.2.1.2.2.2.2.2.2.1 j.2.2.2.2.1.2.1.2.2.2.2.2.2.2 j.2.2.2.2.1.2.2.1 j.2.2.2.2.1.2.2.2 j.2.2.2.2.2.1.1 j.2.2.2.2.2.1.2.1.1 j.2.2.2.2.2.1.2.1.2.1 j.2.2.2.2.2.1.2.1.2.2.1 j.2.2.2.2.2.1.2.1.2.2.2.1 j.2.2.2.2.2.1.2.1.2.2.2.2.1 j.2.2.2.2.2.1.2.1.2.2.2.2.2.1 j.2.2.2.2.2.1.2.1.2.2.2.2.2.2.1 j.2.2.2.2.2.1.2.1.2.2.2.2.2.2.2 j.2.2.2.2.2.1.2.2.1 j.2.2.2.2.2.1.2.2.2 j.2.2.2.2.2.2.1 j.2.2.2.2.2.2.2=some (((yj now (ts.getD j.1.toNat t0) j rows).2.1,()),(now,ap,ts,bs,ru,ha,hi,js,jh.1.1,jh.1.2,jh.2,rows,off,ev++(yj now (ts.getD j.1.toNat t0) j rows).2.2.1,()),flJ (yj now (ts.getD j.1.toNat t0) j rows).1,()):=by
 unfold aiG
 rw [Lf h.1 h.2]
 have hl:S30 k (now,ap,ts,bs,ru,ha,hi,js,((jh.1.1,jh.1.2),jh.2),rows,off)=some (([],()),()):=FN hk
 rw [hl,Option.bind_some]
 have eg:afi k (rd ts j.1 (0,0,0,[],[],[])) j []=_:=aj3 hk hj now rows
 refine (congrArg (fun x=>Option.bind x _) eg).trans ?_
 simp only [Option.bind_some]
 rw [ajT hk,Option.bind_some]
 simp only
 rw [EO (by omega),Option.bind_some]
 simp only
 show _=some (((yj now (rd ts j.1 (0,0,0,[],[],[])) j rows).2.1,()),(now,ap,ts,bs,ru,ha,hi,js,jh.1.1,jh.1.2,jh.2,rows,off,ev++(yj now (rd ts j.1 (0,0,0,[],[],[])) j rows).2.2.1,()),flJ (yj now (rd ts j.1 (0,0,0,[],[],[])) j rows).1,())
 generalize rd ts j.1 (0,0,0,[],[],[])=t
 have h1:(yj now t j rows).1.1=j.1:=by
  unfold yj EP
  cases j.2.2.2.1==2 <;> cases (j.2.2.2.1==0)&&decide ((t.2.2.2.2.1.length:Int)>0) <;> rfl
 unfold flJ
 have h2:((bif j.2.2.2.1==2 then 13 else bif (j.2.2.2.1==0)&&decide ((t.2.2.2.2.1.length:Int)>0) then 7 else 6:Int)==13)=(yj now t j rows).2.1:=by
  unfold yj
  cases j.2.2.2.1==2 <;> cases (j.2.2.2.1==0)&&decide ((t.2.2.2.2.1.length:Int)>0) <;> rfl
 have h3:[(now,(bif j.2.2.2.1==2 then 13 else bif (j.2.2.2.1==0)&&decide ((t.2.2.2.2.1.length:Int)>0) then 7 else 6:Int),j.1,0,0,0)]=(yj now t j rows).2.2.1:=by
  unfold yj
  cases j.2.2.2.1==2 <;> cases (j.2.2.2.1==0)&&decide ((t.2.2.2.2.1.length:Int)>0) <;> rfl
 rw [h1,h2,h3]
abbrev Pk3:Type:=Int×Int×Int
abbrev XB:Pk3:=(0,0,0)
def qz (n:Int) (j:gu):Pk3:=(bif j.2.2.2.1==2 then n+n+j.1 else bif j.2.2.2.2.2.2.2 then j.1 else n+j.1,1,j.1)
def DX (a b:Int):Int:=bif decide (a<b) then -1 else bif decide (a>b) then 1 else 0
def IQ (p q:Pk3):Int:=bif DX p.1 q.1 != 0 then DX p.1 q.1 else bif DX p.2.1 q.2.1 != 0 then DX p.2.1 q.2.1 else DX p.2.2 q.2.2
theorem V4 (k:Nat) (a b:Int):acO k a b=some ((DX a b,()),()):=by
 unfold acO aiC DX
 simp only [Option.bind_some,bne_self_eq_false,cond_false]
 cases decide (a<b) with
 | true=>rfl
 | false=>cases decide (a>b) <;> rfl
theorem acy {k:Nat} (hk:1000 <= k) (p q:Pk3):acP k p q=some ((IQ p q,()),()):=by
 unfold acP IQ
 rw [V4,Option.bind_some,V4,Option.bind_some,V4,Option.bind_some]
 simp only
 generalize DX p.1 q.1=a
 generalize DX p.2.1 q.2.1=b
 generalize DX p.2.2 q.2.2=c
 unfold al8
 obtain ⟨k,rfl⟩:∃ m,k=m+4:=⟨k - 4,by omega⟩
 rw [HZ,JA,Rj (by simp),Lf (by omega) (by simp)]
 show Option.bind (bif a != 0 then _ else _) _=_
 cases a != 0 with
 | true=>rfl
 | false =>
  rw [cond_false,cond_false,show IntKind.i64.wrap ((0:Int)+1)=1 from rfl,HZ,JA,Rj (by simp),Lf (by omega) (by simp)]
  show Option.bind (bif b != 0 then _ else _) _=_
  cases b != 0 with
  | true=>rfl
  | false =>
   rw [cond_false,cond_false,show IntKind.i64.wrap ((1:Int)+1)=2 from rfl,HZ,JA,Rj (by simp),Lf (by omega) (by simp)]
   show Option.bind (bif c != 0 then _ else _) _=_
   cases hc:c != 0 with
   | true=>rfl
   | false =>
    have:c=0:=by simpa using hc
    subst this
    rw [cond_false,show IntKind.i64.wrap ((2:Int)+1)=3 from rfl,HZ,JA,Rk (by simp)]
    rfl
theorem aj5 {k:Nat} (hk:1000 <= k) (s:List (Int×Int)) (t:Int):afb k s [] t=some ((0,false,()),()):=by
 obtain ⟨k,rfl⟩:∃ m,k=m+1:=⟨k - 1,by omega⟩
 unfold afb
 rw [afa,Y3,Rk (by simp)]
theorem aj6 {k:Nat} (hk:1000 <= k) {j:gu} (h:OY j) {n:Int} (hn:0 <= n /\ n <= 1000) (ht:0 <= j.1 /\ j.1 <= 1000):aiB k j n []=some ((qz n j,()),()):=by
 unfold aiB al7 aiA qz
 rw [h.held,aj5 hk,Option.bind_some]
 simp only [cond_false,Option.bind_some]
 cases j.2.2.2.1==2 with
 | true =>
  simp only [cond_true,Option.bind_some]
  rw [Ua (n:=n+n) (by omega) (by omega),Ua (by omega) (by omega)]
 | false =>
  simp only [cond_false]
  cases j.2.2.2.2.2.2.2 with
  | true=>rfl
  | false =>
   simp only [cond_false,Option.bind_some]
   rw [Ua (by omega) (by omega)]
theorem acz {k:Nat} {i:Nat} (hi:i<8):afd k 0 (i:Int)=some ((((2 ^ i:Nat):Int),()),()):=by
 have:i=0 \/ i=1 \/ i=2 \/ i=3 \/ i=4 \/ i=5 \/ i=6 \/ i=7:=by omega
 rcases this with rfl | rfl | rfl | rfl | rfl | rfl | rfl | rfl <;> (show _=_;kernel_rfl)
theorem adl {k:Nat} (hk:1000 <= k) {i:Nat} (hi:i<8):amb k ((2 ^ i:Nat):Int)=some (((i:Int),true,()),()):=by
 have:i=0 \/ i=1 \/ i=2 \/ i=3 \/ i=4 \/ i=5 \/ i=6 \/ i=7:=by omega
 obtain ⟨k,rfl⟩:∃ m,k=m+1000:=⟨k - 1000,by omega⟩
 rcases this with rfl | rfl | rfl | rfl | rfl | rfl | rfl | rfl <;> (show _=_;kernel_rfl)
def K5 (l:List Pk3):Nat -> Nat -> Nat -> Nat
 | 0,_,m=>m
 | d+1,i,m=>K5 l d (i+1) (if IQ (l.getD i XB) (l.getD m XB)<0 then i else m)
theorem IU {l:List Pk3}:∀ (d i m:Nat),i+d=l.length -> m<l.length -> K5 l d i m<l.length
 | 0,_,m,_,h=>h
 | d+1,i,m,h,hm=>by
  rw [K5]
  exact IU d (i+1) _ (by omega) (by split <;> omega)
theorem K6 {k:Nat} (hk:1000 <= k) {l:List Pk3} (hl:l.length <= 8) (hd:∀ a b,a<l.length -> b<l.length -> a≠b -> IQ (l.getD a XB) (l.getD b XB)≠0):∀ (d i j m:Nat),i+d=l.length -> d<j -> m<i ->
  JB k j (l.getD m XB).1 (l.getD m XB).2.1 (l.getD m XB).2.2 ((2 ^ m:Nat):Int) l (l.length:Int) (i:Int)=some ((((K5 l d i m:Nat):Int),()),())
 | 0,i,j,m,h,hjj,hm=>by
  obtain ⟨j',rfl⟩:∃ j',j=j'+1:=⟨j - 1,by omega⟩
  rw [MO,MN,Rk (by omega),adl hk (by omega)]
  rfl
 | d+1,i,j,m,h,hjj,hm=>by
  obtain ⟨j',rfl⟩:∃ j',j=j'+1:=⟨j - 1,by omega⟩
  have hi:i<l.length:=by omega
  have hne:=hd i m hi (by omega) (by omega)
  rw [MO,MN,Rj (by omega),Pw hi,Px,show ((l.getD m XB).1,(l.getD m XB).2.1,(l.getD m XB).2.2)=l.getD m XB from rfl,acy hk,Option.bind_some,K5,Me (by omega)]
  simp only
  by_cases hc:IQ (l.getD i XB) (l.getD m XB)<0
  ·rw [Rj hc,if_pos hc,acz (by omega),Option.bind_some]
   exact K6 hk hl hd d (i+1) j' i (by omega) (by omega) (by omega)
  ·rw [Rk hc,if_neg hc,beq_eq_false_iff_ne.2 hne,cond_false]
   exact K6 hk hl hd d (i+1) j' m (by omega) (by omega) (by omega)
theorem K7 (p:Pk3):IQ p p=0:=by
 unfold IQ DX
 simp
theorem aj7 {k:Nat} (hk:1000 <= k) {l:List Pk3} (hl:l.length <= 8) (h0:0<l.length) (hd:∀ a b,a<l.length -> b<l.length -> a≠b -> IQ (l.getD a XB) (l.getD b XB)≠0):aiD k l=some ((((K5 l l.length 0 0:Nat):Int),()),()):=by
 unfold aiD
 obtain ⟨d,hdd⟩:∃ d,l.length=d+1:=⟨l.length - 1,by omega⟩
 obtain ⟨j,hj⟩:∃ j,k=j+1:=⟨k - 1,by omega⟩
 rw [Lf (by omega) (by omega)]
 conv=>lhs;rw [show ∀ a b c r l n i,JB k k a b c r l n i=JB k (j+1) a b c r l n i from fun a b c r l n i=>by rw [<- hj]]
 rw [MO,MN,Rj (by omega),Lf (by omega) (by omega)]
 show Option.bind (acP k (l.getD 0 XB) (l.getD 0 XB)) _=_
 rw [acy hk,K7,Option.bind_some]
 simp only [beq_self_eq_true,cond_true]
 rw [Rk (by omega)]
 have:=acz (k:=k) (i:=0) (by omega)
 rw [show afd k 0 0=_ from this,Option.bind_some,hdd,K5,if_neg (by rw [K7];omega)]
 have e:=K6 hk hl hd d 1 j 0 (by omega) (by omega) (by omega)
 rw [hdd] at e
 exact e
theorem RI {k:Nat} (hk:1000 <= k) {n:Int} (hn:0 <= n /\ n <= 1000) {js:List gu} (hl:js.length <= 900) (hj:∀ j∈js,OY j /\ 0 <= j.1 /\ j.1 <= 1000):∀ (d i j:Nat),i+d=js.length -> d<j ->
  TV k j n [] 0 false ((js.take i).map (qz n)) js (js.length:Int) (i:Int)=JC k k 0 false (js.map (qz n)) 0
 | 0,i,j,h,hjj=>by
  obtain ⟨j',rfl⟩:∃ j',j=j'+1:=⟨j - 1,by omega⟩
  rw [Wv,TU,Rk (by omega),List.take_of_length_le (by omega)]
 | d+1,i,j,h,hjj=>by
  obtain ⟨j',rfl⟩:∃ j',j=j'+1:=⟨j - 1,by omega⟩
  have hi:i<js.length:=by omega
  have hh:=hj _ (iq (z:=j0) hi)
  rw [Wv,TU,Rj (by omega),Pw hi,Px,show js.getD i (0,0,0,0,(0,Pv (α:=Int) 8 0,[],false),(0,Pv (α:=Int) 8 0,[],false),[],false)=js.getD i j0 from rfl,aj6 hk hh.1 hn hh.2,Option.bind_some,Rh (by simp;omega),Me (by omega)]
  have e:(js.take i).map (qz n)++[qz n (js.getD i j0)]=(js.take (i+1)).map (qz n):=by
   rw [List.take_succ_eq_append_getElem hi,List.map_append,getD_in hi];rfl
  rw [e]
  exact RI hk hn hl hj d (i+1) j' (by omega) (by omega)
def sj (js:List gu) (n:Int):Nat:=K5 (js.map (qz n)) js.length 0 0
def alm (js:List gu) (n:Int):Prop:=∀ a b,a<js.length -> b<js.length -> a≠b -> IQ (qz n (js.getD a j0)) (qz n (js.getD b j0))≠0
theorem ER {α β:Type} {f:α -> β} {l:List α} {i:Nat} (z:α) (w:β) (h:i<l.length):(l.map f).getD i w=f (l.getD i z):=by
 rw [getD_in (by rw [List.length_map];exact h),getD_in h,List.getElem_map]
theorem aj8 {k:Nat} (hk:1000 <= k) {n:Int} (hn:0 <= n /\ n <= 1000) {js:List gu} (hl:js.length <= 8) (hj:∀ j∈js,OY j /\ 0 <= j.1 /\ j.1 <= 1000) (hd:alm js n) :
  aiE k js n []=some ((((sj js n:Nat):Int),!(js.isEmpty),()),()):=by
 unfold aiE
 have e:=RI hk hn (by omega) hj js.length 0 k (by omega) (by omega)
 rw [List.take_zero,List.map_nil] at e
 refine e.trans ?_
 have hlen:(js.map (qz n)).length=js.length:=List.length_map _
 by_cases h0:js.length=0
 ·have:js=[]:=List.eq_nil_of_length_eq_zero h0
  subst this
  obtain ⟨k,rfl⟩:∃ m,k=m+1:=⟨k - 1,by omega⟩
  rw [MQ,MP,Rk (by simp)]
  rfl
 ·obtain ⟨j,hjk⟩:∃ j,k=j+2:=⟨k - 2,by omega⟩
  have hf:=aj7 hk (l:=js.map (qz n)) (by omega) (by omega) (fun a b ha hb hab=>by
   rw [ER j0 _ (by omega),ER j0 _ (by omega)]
   exact hd a b (by omega) (by omega) hab)
  have hsub:sub (js.map (qz n)) 0 (mn (IntKind.i64.wrap (0+64)) ((js.map (qz n)).length:Int))=js.map (qz n):=by
   have hm:mn (IntKind.i64.wrap (0+64)) ((js.map (qz n)).length:Int)=(js.length:Int):=by
    rw [Rl,Ua (by omega) (by omega)];omega
   rw [hm]
   unfold sub
   rw [List.take_of_length_le (by rw [hlen];omega)];rfl
  have hmin:=IU (l:=js.map (qz n)) js.length 0 0 (by omega) (by omega)
  have hem:js.isEmpty=false:=by cases js with | nil=>simp at h0 | cons a l=>rfl
  conv=>lhs;rw [show ∀ a b c d,JC k k a b c d=JC k (j+1+1) a b c d from fun a b c d=>by rw [<- hjk]]
  rw [MQ,MP,Rj (by omega),Rc (by omega) (by rw [Rl,Ua (by omega) (by omega)];omega) (by rw [Rl];omega),hsub,hf,Option.bind_some]
  simp only [Bool.not_false,cond_true]
  rw [MQ,MP,Rk (by rw [Ua (by omega) (by omega)];omega),hlen,hem,Ua (n:=0+((K5 (js.map (qz n)) js.length 0 0:Nat):Int)) (by omega) (by omega),Int.zero_add]
  rfl
theorem RJ {a b:Int}:DX a b=0↔a=b:=by
 unfold DX
 by_cases h:a<b
 ·rw [Rj h];constructor <;> intro h2 <;> omega
 ·rw [Rk h]
  by_cases h3:a>b
  ·rw [Rj h3];constructor <;> intro h2 <;> omega
  ·rw [Rk h3];constructor
   ·intro _;omega
   ·intro _;rfl
theorem adn {p q:Pk3} (h:IQ p q=0):p.2.2=q.2.2:=by
 unfold IQ at h
 cases h1:DX p.1 q.1 != 0 with
 | true=>rw [h1,cond_true] at h;simp [h] at h1
 | false =>
  rw [h1,cond_false] at h
  cases h2:DX p.2.1 q.2.1 != 0 with
  | true=>rw [h2,cond_true] at h;simp [h] at h2
  | false=>rw [h2,cond_false] at h;exact RJ.1 h
def rising (js:List gu):Prop:=js.Pairwise (fun a b=>a.1<b.1)
theorem ado {js:List gu} (h:rising js) {a b:Nat} (ha:a<js.length) (hb:b<js.length) (hab:a≠b):(js.getD a j0).1≠(js.getD b j0).1:=by
 rw [getD_in ha,getD_in hb]
 have:=List.pairwise_iff_getElem.1 h
 rcases Nat.lt_or_gt_of_ne hab with hl | hl
 ·have:=this a b ha hb hl;omega
 ·have:=this b a hb ha hl;omega
theorem XC {js:List gu} (h:rising js) (n:Int):alm js n:=fun a b ha hb hab e=>ado h ha hb hab (adn e)
theorem GU:∀ {js:List gu} {lo n:Int},rising js -> (∀ j∈js,lo <= j.1 /\ j.1<n) -> lo <= n -> (js.length:Int) <= n - lo
 | [],lo,n,_,_,h=>by simp;omega
 | a::js,lo,n,h,hb,hl=>by
  have h1:=List.pairwise_cons.1 h
  have ha:=hb a List.mem_cons_self
  have:=GU (lo:=a.1+1) h1.2 (fun j hj=>⟨by have:=h1.1 j hj;omega,(hb j (List.mem_cons_of_mem _ hj)).2⟩) (by omega)
  simp only [List.length_cons];omega
theorem CS (now:Int) (ts:List fq):∀ (js:List gu) (s:adj),∃ l,l.Sublist js /\ (js.foldl (uo now ts) s).1=s.1++l /\ (js.foldl (uo now ts) s).2.2.1.length=s.2.2.1.length /\ (js.foldl (uo now ts) s).2.2.2.1.length=s.2.2.2.1.length /\ (js.foldl (uo now ts) s).2.1.length <= s.2.1.length+3 * js.length
 | [],s=>⟨[],List.Sublist.refl _,by simp,rfl,rfl,by simp⟩
 | j::js,s=>by
  rw [List.foldl_cons]
  obtain ⟨l,h1,h2,h3,h4,h5⟩:=CS now ts js (uo now ts s j)
  have hw:=K3 s.2.2.1 s.2.2.2.1 j.1.toNat
  have hm:=K4 now j.1 (kr s.2.2.1 s.2.2.2.1 j.1.toNat).2
  unfold uo at h2 h3 h4 h5 ⊢
  cases hc:IntKind.i64.wrap (now - j.2.1) != (ts.getD j.1.toNat t0).2.2.1 with
  | true =>
   simp only [hc,cond_true] at h2 h3 h4 h5 ⊢
   exact ⟨j::l,h1.cons_cons j,by rw [h2];simp,h3,h4,by simp only [List.length_cons];omega⟩
  | false =>
   cases hp:j.2.2.2.1==2 with
   | true =>
    simp only [hc,hp,cond_true,cond_false] at h2 h3 h4 h5 ⊢
    exact ⟨l,h1.cons j,h2,h3,h4,by simp only [List.length_append,List.length_cons,List.length_nil] at h5 ⊢;omega⟩
   | false =>
    simp only [hc,hp,cond_false] at h2 h3 h4 h5 ⊢
    exact ⟨l,h1.cons j,h2,by omega,by omega,by simp only [List.length_append,List.length_cons] at h5 ⊢;omega⟩
def vv (now:Int) (ts:List fq) (js:List gu) (rows:List Int) (hi:Bool):List gu×List ig×List Int :=
 let i:=sj js (ts.length:Int)
 let r:=bif hi then yj now (ts.getD (js.getD i j0).1.toNat t0) (js.getD i j0) rows else BK now (ts.getD (js.getD i j0).1.toNat t0) (js.getD i j0) rows
 ((bif r.2.1 then js.take i++js.drop (i+1) else js.set i r.1),(now,2,(js.getD i j0).1,0,0,0)::r.2.2.1,r.2.2.2)
theorem OJ (now:Int) (t:fq) (j:gu) (rows:List Int):(yj now t j rows).2.2.2.length=rows.length /\ (yj now t j rows).2.2.1.length <= 3:=by
 unfold yj
 cases j.2.2.2.1==2 <;> cases (j.2.2.2.1==0)&&decide ((t.2.2.2.2.1.length:Int)>0) <;> simp
theorem K8 (now:Int) (t:fq) (j:gu) (rows:List Int):(BK now t j rows).2.2.2.length=rows.length /\ (BK now t j rows).2.2.1.length <= 3:=by
 unfold BK IL
 cases (OP t j).2.2.2.2.1.2.2.2 with
 | false=>simp
 | true =>
  rw [cond_true]
  cases (OP t j).2.2.2.1==2 with
  | true=>simp
  | false=>cases ((OP t j).2.2.2.1==0)&&decide ((t.2.2.2.2.1.length:Int)>0) <;> simp
theorem acA {k:Nat} {js:List gu} {i:Nat} {x:gu} (h:i<js.length) (hl:js.length <= 900):S50 k (upd js (i:Int) x) (i:Int) (IntKind.i64.wrap ((i:Int)+1))=some ((js.take i++js.drop (i+1),()),()):=by
 unfold S50 Jg
 rw [Me (by omega),Mf]
 refine (if_pos ?_).trans ?_
 ·simp only [Bool.and_eq_true]
  refine ⟨decide_eq_true (by show (0:Int) <= (i:Int);omega),decide_eq_true (by show (i:Int) <= ((i+1:Nat):Int);omega),decide_eq_true ?_⟩
  show ((i+1:Nat):Int) <= ((js.set i x).length:Int)
  rw [List.length_set];omega
 ·show some (((js.set i x).take (i:Int).toNat++(js.set i x).drop ((i+1:Nat):Int).toNat,()),())=_
  rw [Int.toNat_natCast,Int.toNat_natCast,List.take_set_of_le (by omega),List.drop_set_of_lt (by omega)]
theorem anH {k:Nat} (hk:1000 <= k) {now ap:Int} {ts:List fq} {bs:List vo} {ru ha hi:Bool} {js:List gu} {rows:List Int} {off:List Bool} {ev:List ig} (hL:jl ts) (h8:ts.length <= 8) (hj:∀ j∈js,XA ts j /\ few j) (hris:rising js) (hr:rows.length=ts.length) (ho:off.length <= 900) (he:ev.length <= 5000) :
  S59 k now ap ts bs ru ha hi js jh.1.1 jh.1.2 jh.2 rows off ev=some ((),(now,ap,ts,bs,ru,ha,hi,(bif ha||js.isEmpty then js else (vv now ts js rows hi).1),jh.1.1,jh.1.2,jh.2,(bif ha||js.isEmpty then rows else (vv now ts js rows hi).2.2),off,ev++(bif ha||js.isEmpty then [] else (vv now ts js rows hi).2.1),()),()):=by
 have hlen:(js.length:Int) <= (ts.length:Int) - 0:=GU hris (fun j h=>(hj j h).1.task) (by omega)
 unfold S59
 have hl:S30 k (now,ap,ts,bs,ru,ha,hi,js,((jh.1.1,jh.1.2),jh.2),rows,off)=some (([],()),()):=FN hk
 rw [hl,Option.bind_some]
 simp only
 rw [aj8 hk ⟨by omega,by omega⟩ (by omega) (fun j h=>⟨(hj j h).1.ok,by have:=(hj j h).1.task;omega⟩) (XC hris _),Option.bind_some]
 simp only
 cases ha with
 | true=>simp
 | false =>
  cases hem:js.isEmpty with
  | true=>simp
  | false =>
   have h0:0<js.length:=by cases js with | nil=>simp at hem | cons a l=>simp
   have hmin:sj js (ts.length:Int)<js.length:=by
    have:=IU (l:=js.map (qz (ts.length:Int))) js.length 0 0 (by simp) (by simpa using h0)
    simpa [sj] using this
   have hin:=hj _ (iq (z:=j0) hmin)
   simp only [Bool.not_false,Bool.not_true,cond_false,Bool.or_false]
   rw [Pw hmin,Px,show js.getD (sj js (ts.length:Int)) (0,0,0,0,(0,Pv (α:=Int) 8 0,[],false),(0,Pv (α:=Int) 8 0,[],false),[],false)=js.getD (sj js (ts.length:Int)) j0 from rfl,EO (by omega),Option.bind_some]
   simp only
   unfold vv
   simp only
   generalize sj js (ts.length:Int)=i at hmin hin ⊢
   generalize js.getD i j0=j at hin ⊢
   have apH:(ev++[(now,((2:Int),j.1,(0:Int),(0:Int),(0:Int)))]).length <= 10000:=by simp;omega
   have tail:∀ r:RunT,(ix js (i:Int) (bif r.2.1 then (S50 k (upd js (i:Int) r.1) (i:Int) (IntKind.i64.wrap ((i:Int)+1))).bind (fun q=>some ((),(now,ap,ts,bs,ru,false,hi,q.1.1,jh.1.1,jh.1.2,jh.2,r.2.2.2,off,(ev++[(now,((2:Int),j.1,(0:Int),(0:Int),(0:Int)))])++r.2.2.1,()),())) else some ((),(now,ap,ts,bs,ru,false,hi,upd js (i:Int) r.1,jh.1.1,jh.1.2,jh.2,r.2.2.2,off,(ev++[(now,((2:Int),j.1,(0:Int),(0:Int),(0:Int)))])++r.2.2.1,()),())):Option (Unit×(Int×Int×List fq×List vo×Bool×Bool×Bool×List gu×List Int×List Bool×List RF×List Int×List Bool×List ig×Unit)×Unit)) =
     some ((),(now,ap,ts,bs,ru,false,hi,(bif r.2.1 then js.take i++js.drop (i+1) else js.set i r.1),jh.1.1,jh.1.2,jh.2,r.2.2.2,off,ev++((now,2,j.1,0,0,0)::r.2.2.1),()),()):=fun r=>by
    rw [Pw hmin,acA hmin (by omega),Option.bind_some,Mf,List.append_assoc]
    cases r.2.1 <;> rfl
   cases hi with
   | true =>
    simp only [cond_true]
    rw [aj4 hk hin.1.ok hin.1.task apH,Option.bind_some]
    have hr2:(yj now (ts.getD j.1.toNat t0) j rows).2.2.2=rows:=by
     unfold yj
     cases j.2.2.2.1==2 <;> cases (j.2.2.2.1==0)&&decide (((ts.getD j.1.toNat t0).2.2.2.2.1.length:Int)>0) <;> rfl
    have ht:=tail (yj now (ts.getD j.1.toNat t0) j rows)
    rw [hr2] at ht
    rw [hr2]
    exact ht
   | false =>
    simp only [cond_false]
    rw [aj1 hk hL hin.1 hin.2 hr ho apH,Option.bind_some]
    exact tail (BK now (ts.getD j.1.toNat t0) j rows)
def ES (K:gy):gy×List ig :=
 bif K.2.2.2.2.1&&!K.2.2.2.2.2.1 then
  let E:=xw K.1 K.2.2.1 K.2.2.2.2.2.2.2.1 K.2.2.2.2.2.2.2.2.2.1 K.2.2.2.2.2.2.2.2.2.2 K.2.2.2.2.2.1
  let js:=E.1.map (jk K.1 K.2.2.2.1)
  let R:=bif E.2.2.2.2||js.isEmpty then (js,[],E.2.2.1) else vv K.1 K.2.2.1 js E.2.2.1 K.2.2.2.2.2.2.1
  ((IntKind.i64.wrap (K.1+1),K.2.1,K.2.2.1,K.2.2.2.1,K.2.2.2.2.1,E.2.2.2.2,false,R.1,K.2.2.2.2.2.2.2.2.1,R.2.2,E.2.2.2.1),E.2.1++R.2.1)
 else ((IntKind.i64.wrap (K.1+1),K.2.1,K.2.2.1,K.2.2.2.1,K.2.2.2.2.1,K.2.2.2.2.2.1,false,K.2.2.2.2.2.2.2),[])
structure KI (K:gy):Prop where
 tab:K.2.2.2.2.2.2.2.2.1=jh
 tasks:jl K.2.2.1
 GV:K.2.2.1.length <= 8
 bounds:K.2.2.2.1.length=K.2.2.1.length
 rows:K.2.2.2.2.2.2.2.2.2.1.length=K.2.2.1.length
 off:K.2.2.2.2.2.2.2.2.2.2.length=K.2.2.1.length
 job:∀ j∈K.2.2.2.2.2.2.2.1,XA K.2.2.1 j /\ few j
 ris:rising K.2.2.2.2.2.2.2.1
theorem KI.len {K:gy} (h:KI K):K.2.2.2.2.2.2.2.1.length <= 8:=by
 have:=GU h.ris (fun j hj=>(h.job j hj).1.task) (by omega)
 have:=h.GV
 omega
theorem KI.kok {K:gy} (h:KI K):KOK K:=⟨h.tab,h.tasks,by have:=h.bounds;have:=h.GV;omega,by have:=h.len;omega,fun j hj=>(h.job j hj).1.ok,by have:=h.rows;have:=h.GV;omega,by have:=h.off;have:=h.GV;omega⟩
theorem DF (now:Int) (bs:List vo) (j:gu):(jk now bs j).1=j.1 /\ (jk now bs j).2.1=j.2.1 /\ (jk now bs j).2.2.1=j.2.2.1 /\ (jk now bs j).2.2.2.1=j.2.2.2.1 /\ (jk now bs j).2.2.2.2.1=j.2.2.2.2.1 /\ (jk now bs j).2.2.2.2.2.1=j.2.2.2.2.2.1 /\ (jk now bs j).2.2.2.2.2.2.1=j.2.2.2.2.2.2.1:=by
 unfold jk
 cases j.2.2.2.1 != 2 with
 | false=>simp
 | true=>rw [cond_true];cases decide (IntKind.i64.wrap (now - j.2.1)≥(bs.getD j.1.toNat (Pv (α:=Int) 5 0)).2.2.2.2) <;> simp
theorem XD {ts:List fq} {now:Int} {bs:List vo} {j:gu} (h:XA ts j /\ few j):XA ts (jk now bs j) /\ few (jk now bs j):=by
 obtain ⟨e1,e2,e3,e4,e5,e6,e7⟩:=DF now bs j
 refine ⟨⟨⟨by rw [e7];exact h.1.ok.held,by rw [e5];exact h.1.ok.m,by rw [e6];exact h.1.ok.kept⟩,by rw [e1];exact h.1.task,by rw [e4];exact h.1.phase,by rw [e1,e4,e5];exact h.1.m⟩,?_⟩
 unfold few
 rw [e5,e6];exact h.2
theorem rising_map {f:gu -> gu} (hf:∀ j,(f j).1=j.1) {js:List gu} (h:rising js):rising (js.map f):=by
 unfold rising
 rw [List.pairwise_map]
 exact List.Pairwise.imp (fun {a b} hab=>by rw [hf,hf];exact hab) h
theorem anI {k:Nat} (hk:1000 <= k) {K:gy} (h:KI K):S23 k K=some (((ES K).1,(ES K).2,()),()):=by
 have ahr:=h.kok
 have hl8:=h.len
 obtain ⟨now,ap,ts,bs,ru,ha,hi,js,T,rows,off⟩:=K
 have e:T=jh:=h.tab
 subst e
 have h1:jl ts:=h.tasks
 have h2:ts.length <= 8:=h.GV
 have h3:bs.length=ts.length:=h.bounds
 have h4:rows.length=ts.length:=h.rows
 have h5:off.length=ts.length:=h.off
 have h6:∀ j∈js,XA ts j /\ few j:=h.job
 have h7:rising js:=h.ris
 have h8:js.length <= 8:=hl8
 unfold S23 ES
 rw [YC hk ahr,Option.bind_some]
 simp only
 cases ru with
 | false=>rfl
 | true =>
  cases ha with
  | true=>rfl
  | false =>
   simp only [cond_true,Bool.not_false,Bool.and_self]
   rw [anC hk (by omega) (fun j hj=>(h6 j hj).1.task) (by omega) h4 h5,Option.bind_some]
   simp only
   obtain ⟨l,g1,g2,g3,g4,g5⟩:=CS now ts js ([],[],rows,off,false)
   rw [show js.foldl (uo now ts) ([],[],rows,off,false)=xw now ts js rows off false from rfl] at g2 g3 g4 g5
   simp only [List.nil_append,List.length_nil] at g2 g3 g4 g5
   generalize xw now ts js rows off false=E at g2 g3 g4 g5 ⊢
   have hE:∀ j∈E.1,XA ts j /\ few j:=fun j hj=>h6 j (g1.subset (by rw [<- g2];exact hj))
   have hEr:rising E.1:=by rw [g2];exact List.Pairwise.sublist g1 h7
   have hEl:E.1.length <= 8:=by rw [g2];have:=g1.length_le;omega
   rw [anD hk (by omega) (fun j hj=>by rw [h3];exact (hE j hj).1.task),Option.bind_some]
   simp only
   rw [anE hk,Option.bind_some]
   simp only
   rw [anH hk h1 h2 (fun j hj=>by
    obtain ⟨x,hx,rfl⟩:=List.mem_map.1 hj
    exact XD (hE x hx)) (rising_map (fun j=>(DF now bs j).1) hEr) (by omega) (by omega) (by omega),Option.bind_some]
   simp only
   cases E.2.2.2.2||(E.1.map (jk now bs)).isEmpty <;> rfl
def jg (p:Int):List gu -> Nat
 | []=>0
 | j::l=>bif decide (j.1<p) then jg p l+1 else 0
theorem ET (p:Int):∀ (l:List gu) (n:Nat),n <= l.length -> (∀ a,a<n -> (l.getD a j0).1<p) -> (n<l.length -> ¬ (l.getD n j0).1<p) -> jg p l=n
 | [],n,h,_,_=>by simp at h;rw [h];rfl
 | x::l,0,_,_,h2=>by
  have h3:¬ x.1<p:=h2 (by simp)
  rw [jg,decide_eq_false h3,cond_false]
 | x::l,n+1,h,h1,h2=>by
  have h3:x.1<p:=h1 0 (by omega)
  rw [jg,decide_eq_true h3,cond_true,ET p l n (by simpa using h) (fun a ha=>h1 (a+1) (by omega)) (fun hn=>h2 (by simpa using hn))]
theorem FP (p:Int):∀ l:List gu,jg p l <= l.length
 | []=>Nat.le_refl _
 | x::l=>by
  rw [jg]
  cases decide (x.1<p) with
  | true=>rw [cond_true,List.length_cons];have:=FP p l;omega
  | false=>rw [cond_false];omega
theorem anJ:∀ n:Fin 17,IntKind.i64.wrap (Tn .u64 (IntKind.u64.wrap (IntKind.i64.wrap ((n.1:Nat):Int))) 1)=((n.1 / 2:Nat):Int):=by decide
theorem ahs {a b:Nat} (h:a+b <= 16):IntKind.i64.wrap (Tn .u64 (IntKind.u64.wrap (IntKind.i64.wrap ((a:Int)+(b:Int)))) 1)=(((a+b) / 2:Nat):Int):=by
 have:=anJ ⟨a+b,by omega⟩
 simpa using this
theorem OL {k:Nat} {js:List gu} {p:Int} (hl:js.length <= 8) (hp:0 <= p /\ p <= 1000) (ht:∀ j∈js,0 <= j.1 /\ j.1 <= 1000) (hr:rising js):∀ (m fu a b:Nat),b - a <= m -> m<fu -> a <= b -> b <= js.length -> (∀ c,c<a -> (js.getD c j0).1<p) -> (∀ c,b <= c -> c<js.length -> p <= (js.getD c j0).1) ->
  VN k fu js p (js.length:Int) (a:Int) (b:Int)=some ((((jg p js:Nat):Int),decide (jg p js<js.length)&&(js.getD (jg p js) j0).1==p,()),())
 | m,fu,a,b,hm,hf,hab,hb,h1,h2=>by
  obtain ⟨f,rfl⟩:∃ f,fu=f+1:=⟨fu - 1,by omega⟩
  rw [aik,aeJ]
  by_cases h:a<b
  ·obtain ⟨m',rfl⟩:∃ m',m=m'+1:=⟨m - 1,by omega⟩
   have hc:(a+b) / 2<js.length:=by omega
   have hb2:=ht _ (iq (z:=j0) hc)
   rw [Rj (by omega),ahs (by omega),Pw hc,Px,show js.getD ((a+b) / 2) (0,0,0,0,(0,Pv (α:=Int) 8 0,[],false),(0,Pv (α:=Int) 8 0,[],false),[],false)=js.getD ((a+b) / 2) j0 from rfl]
   unfold S96
   rw [Option.bind_some,Ua (by omega) (by omega)]
   simp only
   have hmono:∀ x y,x<y -> y<js.length -> (js.getD x j0).1<(js.getD y j0).1:=fun x y hxy hy=>by
    rw [getD_in (by omega),getD_in hy];exact List.pairwise_iff_getElem.1 hr x y (by omega) hy hxy
   by_cases e:(js.getD ((a+b) / 2) j0).1 - p<0
   ·rw [Rj e,Me (by omega)]
    exact OL hl hp ht hr m' f ((a+b) / 2+1) b (by omega) (by omega) (by omega) hb (fun c hc2=>by
     by_cases e2:c=(a+b) / 2
     ·subst e2;omega
     ·have:=hmono c ((a+b) / 2) (by omega) hc;omega) h2
   ·rw [Rk e]
    exact OL hl hp ht hr m' f a ((a+b) / 2) (by omega) (by omega) (by omega) (by omega) h1 (fun c hc2 hc3=>by
     by_cases e2:c=(a+b) / 2
     ·subst e2;omega
     ·have:=hmono ((a+b) / 2) c (by omega) hc3;omega)
  ·have hba:b=a:=by omega
   subst hba
   have hpos:jg p js=b:=ET p js b hb h1 (fun hn=>by have:=h2 b (by omega) hn;omega)
   rw [Rk (by omega),hpos]
   by_cases h3:b<js.length
   ·have hb2:=ht _ (iq (z:=j0) h3)
    rw [Rj (by omega),Pw h3,Px,show js.getD b (0,0,0,0,(0,Pv (α:=Int) 8 0,[],false),(0,Pv (α:=Int) 8 0,[],false),[],false)=js.getD b j0 from rfl]
    unfold S96
    rw [Option.bind_some,Ua (by omega) (by omega),decide_eq_true h3,Bool.true_and]
    simp only
    congr 3
    by_cases e:(js.getD b j0).1=p
    ·rw [e];simp
    ·rw [beq_eq_false_iff_ne.2 e,beq_eq_false_iff_ne.2 (by omega)]
   ·rw [Rk (by omega),decide_eq_false h3];rfl
def OZ (p now a:Int):gu:=(p,now,a,0,OH a,OH a,[],false)
def XE (K:gy) (js:List gu):gy:=(K.1,K.2.1,K.2.2.1,K.2.2.2.1,K.2.2.2.2.1,K.2.2.2.2.2.1,K.2.2.2.2.2.2.1,js,K.2.2.2.2.2.2.2.2)
def IV (K:gy) (p a:Int):gy×List ig×Int :=
 bif !K.2.2.2.2.1 then (K,[],8)
 else bif K.2.2.2.2.2.1 then (K,[],17)
 else bif decide (p<0)||decide (p≥(K.2.2.1.length:Int)) then (K,[],3)
 else bif K.2.2.2.2.2.2.2.2.2.2.getD p.toNat false then (K,[],6)
 else
  let js:=K.2.2.2.2.2.2.2.1
  let i:=jg p js
  bif decide (i<js.length)&&(js.getD i j0).1==p then
   (bif (js.getD i j0).2.2.2.1 != 2 then (K,[],5)
       else (XE K (js.take i++[OZ p K.1 a]++js.drop (i+1)),[(K.1,13,p,0,0,0),(K.1,1,p,0,a,0)],0))
  else (XE K (js.take i++[OZ p K.1 a]++js.drop i),[(K.1,1,p,0,a,0)],0)
theorem anK {k:Nat} {js:List gu} {i:Nat} {x:gu} (h:i <= js.length) (hl:js.length <= 900):S51 k js (i:Int) [x]=some ((js.take i++[x]++js.drop i,()),()):=by
 unfold S51 Jc
 refine if_pos ?_
 simp only [Bool.and_eq_true]
 refine ⟨decide_eq_true (Int.natCast_nonneg i),decide_eq_true (Int.ofNat_le.2 h),decide_eq_true ?_⟩
 show (js.length+1) * _ <= _
 omega
theorem anL {k:Nat} {js:List gu} {i:Nat} (h:i<js.length) (hl:js.length <= 900):S50 k js (i:Int) (IntKind.i64.wrap ((i:Int)+1))=some ((js.take i++js.drop (i+1),()),()):=by
 have:=acA (k:=k) (x:=js.getD i j0) h hl
 rwa [Mf,zu] at this
theorem RL {k:Nat} {p a now ap:Int} {ts:List fq} {bs:List vo} {ru ha hi:Bool} {js:List gu} {g:List Int} {l:List Bool} {u:List RF} {rows:List Int} {off:List Bool} {x1 x2:Int} {x3 x4 x5:Bool} {ev:List ig} {i:Nat} (h:i <= js.length) (hl:js.length <= 900) (he:ev.length <= 10) :
  MI k p a now ap ts bs ru ha hi js g l u rows off x1 x2 x3 x4 x5 ev (i:Int)=some (((now,ap,ts,bs,ru,ha,hi,js.take i++[OZ p now a]++js.drop i,((g,l),u),rows,off),ev++[(now,1,p,0,a,0)],0,()),()):=by
 unfold MI S52 S99
 simp only [Option.bind_some]
 have e:=anK (k:=k) (x:=OZ p now a) h hl
 unfold OZ OH at e ⊢
 rw [e,Option.bind_some,Rh (by simp;omega)]
theorem aht {k:Nat} (hk:1000 <= k) {K:gy} (h:KI K) (p a:Int):S20 k K p a=some (((IV K p a).1,(IV K p a).2.1,(IV K p a).2.2,()),()):=by
 have ahr:=h.kok
 have hl8:=h.len
 obtain ⟨now,ap,ts,bs,ru,ha,hi,js,T,rows,off⟩:=K
 have e:T=jh:=h.tab
 subst e
 have h2:ts.length <= 8:=h.GV
 have h5:off.length=ts.length:=h.off
 have h6:∀ j∈js,XA ts j /\ few j:=h.job
 have h7:rising js:=h.ris
 have h8:js.length <= 8:=hl8
 unfold S20 IV
 rw [YC hk ahr,Option.bind_some]
 simp only
 cases ru with
 | false=>rfl
 | true =>
  cases ha with
  | true=>rfl
  | false =>
   simp only [Bool.not_true,cond_false]
   by_cases hp1:p<0
   ·rw [Rj hp1,decide_eq_true hp1];rfl
   ·rw [Rk hp1,decide_eq_false hp1,Bool.false_or]
    by_cases hp2:p≥(ts.length:Int)
    ·rw [Rj hp2,decide_eq_true hp2];rfl
    ·obtain ⟨n,rfl⟩:∃ n:Nat,p=(n:Int):=⟨p.toNat,by omega⟩
     rw [Rk hp2,decide_eq_false hp2,cond_false,Rj (by omega),Pw (by omega),Px,Int.toNat_natCast]
     cases off.getD n false with
     | true=>rfl
     | false =>
      simp only [cond_false]
      have hfind:=OL (k:=k) (p:=(n:Int)) h8 (by omega) (fun j hj=>by have:=(h6 j hj).1.task;omega) h7 js.length k 0 js.length (by omega) (by omega) (by omega) (by omega) (fun c hc=>by omega) (fun c hc hc2=>by omega)
      have hle:=FP (n:Int) js
      unfold TR S49 S95
      simp only
      rw [show VN k k js (n:Int) (js.length:Int) 0 (js.length:Int)=_ from hfind]
      simp only [Option.bind_some]
      cases hc:decide (jg (n:Int) js<js.length)&&(js.getD (jg (n:Int) js) j0).1==(n:Int) with
      | false =>
       simp only [cond_false]
       rw [RL hle (by omega) (by simp)]
       rfl
      | true =>
       have hlt:jg (n:Int) js<js.length:=by
        rw [Bool.and_eq_true] at hc;exact of_decide_eq_true hc.1
       simp only [cond_true]
       rw [Pw hlt,Px,show js.getD (jg (n:Int) js) (0,0,0,0,(0,Pv (α:=Int) 8 0,[],false),(0,Pv (α:=Int) 8 0,[],false),[],false)=js.getD (jg (n:Int) js) j0 from rfl]
       cases (js.getD (jg (n:Int) js) j0).2.2.2.1 != 2 with
       | true=>rfl
       | false =>
        simp only [cond_false]
        rw [Rh (by simp),anL hlt (by omega),Option.bind_some]
        simp only [List.nil_append]
        rw [RL (by simp;omega) (by simp;omega) (by simp)]
        have ht:(js.take (jg (n:Int) js)++js.drop (jg (n:Int) js+1)).take (jg (n:Int) js)=js.take (jg (n:Int) js):=by
         rw [List.take_append_of_le_length (by simp;omega),List.take_take,Nat.min_self]
        have hd:(js.take (jg (n:Int) js)++js.drop (jg (n:Int) js+1)).drop (jg (n:Int) js)=js.drop (jg (n:Int) js+1):=by
         rw [List.drop_append_of_le_length (by simp;omega),List.drop_eq_nil_of_le (by simp;omega),List.nil_append]
        rw [ht,hd]
        rfl
structure IW (l:List I4) (m:d9) (tr:List I4) (fin:Mem):Prop where
 len:l.length <= 900
 ins:∀ x∈l,jm x=true /\ x.1≠9 /\ x.1≠10
 mem:inM m.2.1
 on:m.2.2.2=false
 run:∃ n n2:Nat,m.1=(n:Int) /\ Run l n m.2.1 m.2.2.1.reverse tr n2 fin [] /\ n2<l.length /\ (l.getD n2 i0).1=0
theorem IW.mok {l:List I4} {m:d9} {tr:List I4} {fin:Mem} (h:IW l m tr fin):MOK l m /\ m.2.2.1.length <= 2:=by
 obtain ⟨n,n2,e,hr,h2,h0⟩:=h.run
 obtain ⟨pc,mem,rs,ov⟩:=m
 have e':pc=(n:Int):=e
 subst e'
 have key:n<l.length /\ rs.length <= 2 /\ ∀ r∈rs,r.2.2 <= 1000:=by
  have hr':Run l n mem rs.reverse tr n2 fin []:=hr
  generalize hR:rs.reverse=R at hr'
  have hrs:rs=R.reverse:=by rw [<- hR,List.reverse_reverse]
  subst hrs
  cases hr' with
  | nil=>exact ⟨h2,by simp,by simp⟩
  | cons a b c d f g i r=>exact ⟨a,by rw [List.length_reverse];exact d,fun r hr=>f r (List.mem_reverse.1 hr)⟩
 have hx:=h.ins _ (iq (z:=i0) key.1)
 exact ⟨⟨h.len,⟨by show (0:Int) <= (n:Int);omega,by show (n:Int).toNat<_;rw [Int.toNat_natCast];exact key.1⟩,hx.1,by have:=key.2.1;show rs.length <= 100;omega,key.2.2,h.mem,h.on,hx.2⟩,key.2.1⟩
theorem IW.last {l:List I4} {m:d9} {fin:Mem} (h:IW l m [] fin):(o8 l m).1=0 /\ (stepM l m).2.2.2=true /\ (stepM l m).2.1=fin:=by
 obtain ⟨n,n2,e,hr,h2,h0⟩:=h.run
 obtain ⟨pc,mem,rs,ov⟩:=m
 have e':pc=(n:Int):=e
 subst e'
 have hr':Run l n mem rs.reverse [] n2 fin []:=hr
 generalize hR:rs.reverse=R at hr'
 cases hr' with
 | nil =>
  have hx:∀ mm:Mem,(o8 l ((n:Int),mm,rs,ov)).1=0:=fun mm=>by unfold o8;exact h0
  refine ⟨hx _,?_,?_⟩
  ·unfold stepM
   simp only
   rw [hx];rfl
  ·unfold stepM
   simp only
   unfold NY
   rw [hx];rfl
theorem IW.step {l:List I4} {m:d9} {x:I4} {tr:List I4} {fin:Mem} (h:IW l m (x::tr) fin):o8 l m=x /\ (stepM l m).2.2.2=false /\ IW l (stepM l m) tr fin:=by
 obtain ⟨n,n2,e,hr,h2,h0⟩:=h.run
 obtain ⟨pc,mem,rs,ov⟩:=m
 have e':pc=(n:Int):=e
 subst e'
 have hr':Run l n mem rs.reverse (x::tr) n2 fin []:=hr
 generalize hR:rs.reverse=R at hr'
 cases hr' with
 | cons a b c d f g i r =>
  rename_i n1 R1
  have hx:o8 l ((n:Int),mem,rs,ov)=x:=by unfold o8;exact b
  have hov:(stepM l ((n:Int),mem,rs,ov)).2.2.2=false:=by
   unfold stepM
   simp only
   rw [hx];exact beq_eq_false_iff_ne.2 c
  have hxm:=(h.ins _ (iq (z:=i0) a)).1
  rw [b] at hxm
  have e1:stepM l ((n:Int),mem,rs,ov)=((n1:Int),NY x mem,R1.reverse,false):=by
   unfold stepM
   simp only
   rw [hx,hR,Int.toNat_natCast,g,beq_eq_false_iff_ne.2 c]
  refine ⟨hx,hov,?_⟩
  rw [e1]
  exact ⟨h.len,h.ins,ag9 hxm h.mem,rfl,n1,n2,rfl,by show Run l n1 (NY x mem) R1.reverse.reverse tr n2 fin [];rw [List.reverse_reverse];exact r,h2,h0⟩
theorem aj9:∀ {t:Tr} {d:Nat} {hs:List Int} {ia:Bool},Ok d hs ia t -> (∀ x∈t.flat,x.1≠9) -> ∀ x∈t.flat,x.1≠10
 | .nil,_,_,_,_,_=>fun x hx=>by simp [Tr.flat] at hx
 | .one y r,d,hs,ia,h,h9=>fun x hx=>by
  rw [Tr.flat,List.mem_cons] at hx
  rcases hx with rfl | hx
  ·exact h.2.1.2.2.2.2
  ·exact aj9 h.2.2.2 (fun z hz=>h9 z (by rw [Tr.flat];exact List.mem_cons_of_mem _ hz)) x hx
 | .lk a b r,_,_,_,_,h9=>absurd rfl (h9 (9,a,0,0) (by rw [Tr.flat];exact List.mem_cons_self))
 | .ar y b r,d,hs,ia,h,h9=>fun x hx=>by
  rw [Tr.flat,List.mem_cons,List.mem_append] at hx
  rcases hx with rfl | hx | hx
  ·have:=h.1.2.1
   unfold isA at this
   simp only [Bool.or_eq_true,beq_iff_eq] at this
   omega
  ·exact aj9 h.2.2.1 (fun z hz=>h9 z (by rw [Tr.flat];simp [hz])) x hx
  ·exact aj9 h.2.2.2 (fun z hz=>h9 z (by rw [Tr.flat];simp [hz])) x hx
def GD (l:List I4):Prop:=∃ t:Tr,l=t.prog /\ Ok 0 [] false t /\ t.len<24 /\ ∀ x∈t.flat,x.1≠9
theorem GD.ins {l:List I4} (h:GD l):l.length <= 900 /\ ∀ x∈l,jm x=true /\ x.1≠9 /\ x.1≠10:=by
 obtain ⟨t,rfl,h1,h2,h3⟩:=h
 refine ⟨by rw [xk];omega,fun x hx=>?_⟩
 unfold Tr.prog at hx
 rw [List.mem_append] at hx
 rcases hx with hx | hx
 ·exact ⟨GL h1 x hx,h3 x hx,aj9 h1 h3 x hx⟩
 ·rw [List.mem_singleton] at hx
  rw [hx];exact ⟨by decide,by decide,by decide⟩
theorem adp (t:Tr):(t.prog.getD t.len i0).1=0:=by
 unfold Tr.prog
 rw [jq (by rw [iw];omega),iw,Nat.sub_self];rfl
theorem ahu {t:Tr} (h1:Ok 0 [] false t) (h2:t.len<24) (h3:∀ x∈t.flat,x.1≠9) {a:Int} (ha:DT a):IW t.prog (OH a) (CP t (ajF a)).1 (CP t (ajF a)).2:=by
 have hi:=GD.ins ⟨t,rfl,h1,h2,h3⟩
 exact ⟨hi.1,hi.2,ajG a ha,rfl,0,t.len,rfl,ahb h1 (ajF a),by rw [xk];omega,adp t⟩
structure Emb (s l:List fq) (f:Nat -> Nat):Prop where
 lt:∀ a,a<s.length -> f a<l.length
 eq:∀ a,a<s.length -> s.getD a t0=l.getD (f a) t0
 mono:∀ a b,a<b -> b<s.length -> f a<f b
theorem RN {a b c:Int}:mx a b <= c↔a <= c /\ b <= c:=by unfold mx;split <;> omega
theorem GX {l:List fq} {i b:Int}:∀ (sp:List (Int×Int)) (m:Int),spF l i m sp <= b↔m <= b /\ ∀ e∈sp,A9 l e.1 <= i -> e.2 <= b
 | [],m=>by simp [spF]
 | e::r,m=>by
  rw [spF,GX r]
  simp only [List.mem_cons,forall_eq_or_imp]
  by_cases h:A9 l e.1 <= i
  ·rw [decide_eq_true h,cond_true,RN]
   exact ⟨fun q=>⟨q.1.1,fun _=>q.1.2,q.2⟩,fun q=>⟨⟨q.1,q.2.1 h⟩,q.2.2⟩⟩
  ·rw [decide_eq_false h,cond_false]
   exact ⟨fun q=>⟨q.1,fun h2=>absurd h2 h,q.2⟩,fun q=>⟨q.1,q.2.2⟩⟩
theorem GY {l:List fq} {i b:Int}:∀ (r:List fq) (n:Nat) (m:Int),byG l i r n m <= b↔m <= b /\ ∀ j,j<r.length -> ((n+j:Nat):Int)≠i -> ∀ e∈(j5 (r.getD j t0)).2.2,A9 l e.1 <= i -> e.2 <= b
 | [],n,m=>by simp [byG]
 | t::r,n,m=>by
  rw [byG,GY r]
  constructor
  ·intro ⟨h1,h2⟩
   cases hc:((n:Int)==i) with
   | true =>
    rw [hc,cond_true] at h1
    refine ⟨h1,fun j hj hne=>?_⟩
    cases j with
    | zero=>exact absurd (eq_of_beq hc) hne
    | succ j=>exact h2 j (by simpa using hj) (by rw [show n+1+j=n+(j+1) by omega];exact hne)
   | false =>
    rw [hc,cond_false,GX] at h1
    refine ⟨h1.1,fun j hj hne=>?_⟩
    cases j with
    | zero=>exact h1.2
    | succ j=>exact h2 j (by simpa using hj) (by rw [show n+1+j=n+(j+1) by omega];exact hne)
  ·intro ⟨h1,h2⟩
   refine ⟨?_,fun j hj hne=>h2 (j+1) (by simpa using hj) (by rw [show n+(j+1)=n+1+j by omega];exact hne)⟩
   cases hc:((n:Int)==i) with
   | true=>exact h1
   | false =>
    rw [cond_false,GX]
    exact ⟨h1,h2 0 (by simp) (by rw [beq_eq_false_iff_ne] at hc;exact hc)⟩
theorem DI {b:Int}:∀ (r:List fq) (m:Int),uf m r <= b↔m <= b /\ ∀ t∈r,(j5 t).2.1 <= b
 | [],m=>by simp [uf]
 | t::r,m=>by
  rw [uf,DI r,RN]
  simp only [List.mem_cons,forall_eq_or_imp]
  exact and_assoc
theorem IX (x:Int):∀ a b:List (Int×Int),zk x (a++b)=zk x a+zk x b
 | [],b=>by simp [zk]
 | p::a,b=>by rw [List.cons_append,zk,zk,IX x a b];omega
section
variable {s l:List fq} {f:Nat -> Nat} (h:Emb s l f)
include h
theorem Emb.ceil {i:Nat} (hi:i<s.length) (h8:s.length <= 8) {e:Int} (hc:A9 s e <= (i:Int)):A9 l e <= ((f i:Nat):Int):=by
 unfold A9 at hc ⊢
 rcases O6 e s 0 with ⟨q,_⟩ | ⟨n,hn,q,hl⟩
 ·omega
 ·rw [h.eq n hn] at hl
  have:=Xm e l 0 (f n) (h.lt n hn) hl
  have h2:f n <= f i:=by
   by_cases e:n=i
   ·rw [e];exact Nat.le_refl _
   ·exact Nat.le_of_lt (h.mono n i (by omega) hi)
  omega
theorem Emb.by {i:Nat} (hi:i<s.length) (h8:s.length <= 8):byT s (i:Int) <= byT l ((f i:Nat):Int):=by
 unfold byT
 rw [GY]
 obtain ⟨h1,h2⟩:=(GY (l:=l) (i:=((f i:Nat):Int)) l 0 0).1 (Int.le_refl _)
 refine ⟨h1,fun j hj hne e he hc=>?_⟩
 rw [Nat.zero_add] at hne
 have ar5:f j≠f i:=by
  rcases Nat.lt_or_gt_of_ne (show j≠i from fun e=>hne (by rw [e])) with q | q
  ·exact Nat.ne_of_lt (h.mono j i q hi)
  ·exact Nat.ne_of_gt (h.mono i j q hj)
 exact h2 (f j) (h.lt j hj) (by rw [Nat.zero_add];omega) e (by rw [<- h.eq j hj];exact he) (h.ceil hi h8 hc)
theorem Emb.lost {i:Nat} (hi:i<s.length):uf 0 (s.take (i+1)) <= uf 0 (l.take (f i+1)):=by
 rw [DI]
 obtain ⟨h1,h2⟩:=(DI (l.take (f i+1)) 0).1 (Int.le_refl _)
 refine ⟨h1,fun t ht=>h2 t ?_⟩
 obtain ⟨a,ha,e⟩:=List.mem_iff_getElem.1 ht
 rw [List.length_take] at ha
 have e1:t=s.getD a t0:=by rw [<- e,List.getElem_take,List.getD_eq_getElem?_getD,List.getElem?_eq_getElem (by omega)];rfl
 have hfa:f a <= f i:=by
  by_cases e:a=i
  ·rw [e];exact Nat.le_refl _
  ·exact Nat.le_of_lt (h.mono a i (by omega) hi)
 have hla:=h.lt a (by omega)
 rw [e1,h.eq a (by omega)]
 rw [List.getD_eq_getElem?_getD,List.getElem?_eq_getElem hla,List.mem_iff_getElem]
 exact ⟨f a,by rw [List.length_take];omega,by rw [List.getElem_take];rfl⟩
theorem Emb.sum (hco:∀ t∈l,CoS t) {x:Int} (hx:0 <= x):∀ a,a <= s.length -> ∀ n,n <= l.length -> (∀ b,b<a -> f b<n) -> zk x ((s.take a).map pc1) <= zk x ((l.take n).map pc1)
 | 0,_,n,hn,_=>by
  rw [List.take_zero]
  exact zq hx (fun y hy=>by
   obtain ⟨t,ht,rfl⟩:=List.mem_map.1 hy
   have q:=hco t (List.mem_of_mem_take ht)
   have:=q.cost;have:=q.per
   unfold pc1;simp only;omega)
 | a+1,ha,n,hn,hb=>by
  have hfa:=hb a (by omega)
  have hla:f a<l.length:=h.lt a (by omega)
  have ih:=Emb.sum hco hx a (by omega) (f a) (by omega) (fun b hb=>h.mono b a hb (by omega))
  rw [JZ (show a<s.length by omega),List.map_append,IX,h.eq a (by omega)]
  have e:l.take n=l.take (f a)++[l.getD (f a) t0]++(l.take n).drop (f a+1):=by
   rw [<- JZ hla]
   have:=(List.take_append_drop (f a+1) (l.take n)).symm
   rwa [List.take_take,Nat.min_eq_left (by omega)] at this
  rw [e,List.map_append,List.map_append,IX,IX]
  have:0 <= zk x (((l.take n).drop (f a+1)).map pc1):=zq hx (fun y hy=>by
   obtain ⟨t,ht,rfl⟩:=List.mem_map.1 hy
   have q:=hco t (List.mem_of_mem_take (List.mem_of_mem_drop ht))
   have:=q.cost;have:=q.per
   unfold pc1;simp only;omega)
  omega
theorem Emb.right (hco:RS l) {i:Nat} (hi:i<s.length) (h8:s.length <= 8) {ap x:Int} (ha:1 <= ap) (hx:0 <= x):firstT s i <= firstT l (f i) /\ ql s i ap x <= ql l (f i) ap x:=by
 have h1:=h.by hi h8
 have h2:=h.lost hi
 have h3:=h.sum hco.co hx i (by omega) (f i) (Nat.le_of_lt (h.lt i hi)) (fun b hb=>h.mono b i hb hi)
 have h4:=Int.mul_le_mul_of_nonneg_left h2 (R6 hx ha).1
 have hf:firstT s i <= firstT l (f i):=by unfold firstT;rw [h.eq i hi];omega
 refine ⟨hf,?_⟩
 unfold ql;omega
theorem Emb.row (hr:zi l=true):zi s=true:=by
 have hri:=RB hr
 rw [row_iff] at hr ⊢
 intro n hn
 rw [h.eq n hn]
 refine ⟨(hr _ (h.lt n hn)).1,fun h0=>?_⟩
 rw [h.eq (n - 1) (by omega)]
 exact hri _ _ (h.mono (n - 1) n (by omega) hn) (h.lt n hn)
theorem Emb.light (hL:jl l) (hs:s.length <= 100):jl s:=⟨hs,fun t ht=>by
 obtain ⟨a,ha,e⟩:=List.mem_iff_getElem.1 ht
 have e1:t=s.getD a t0:=by rw [<- e,List.getD_eq_getElem?_getD,List.getElem?_eq_getElem ha];rfl
 rw [e1,h.eq a ha]
 exact hL.2 _ (iq (h.lt a ha))⟩
theorem Emb.resp (hL:jl l) (hl:l.length <= 10) (h8:s.length <= 8) {i:Nat} (hi:i<s.length) {ap:Int} (he:(l7 l ((f i:Nat):Int) ap).2.2=0):(l7 s (i:Int) ap).2.2=0 /\ (l7 s (i:Int) ap).1 <= (l7 l ((f i:Nat):Int) ap).1:=by
 obtain ⟨h1,h2,h3,h4,h5,h6,h7⟩:=Xr hL hl he
 have hR:=O8 h1 hL hl
 have hs:=O8 (h.row h1) (h.light hL (by omega)) (by omega)
 obtain ⟨q1,q2⟩:=h.right hR hi h8 (ap:=ap) (x:=(l7 l ((f i:Nat):Int) ap).1) h3 (by omega)
 exact Xq (h.row h1) hs hi h3 (by omega) (by omega) (by rw [h.eq i hi];exact h6)
end
theorem acB {l:List fq} {ap:Int}:∀ (d i:Nat) (out:List vo),(∀ a,i <= a -> a<i+d -> (l7 l (a:Int) ap).2.2=0) -> KY l ap d i out=(out++(List.range' i d).map (gq l ap),0)
 | 0,i,out,_=>by rw [KY];simp
 | d+1,i,out,h=>by
  rw [KY,if_pos (h i (Nat.le_refl _) (by omega)),acB d (i+1) _ (fun a h1 h2=>h a (by omega) (by omega)),List.range'_succ,List.map_cons,List.append_assoc];rfl
theorem RO {l:List fq} {ap:Int}:∀ (d i:Nat) (out:List vo),(KY l ap d i out).2=0 -> ∀ a,i <= a -> a<i+d -> (l7 l (a:Int) ap).2.2=0
 | 0,i,out,_,a,h1,h2=>by omega
 | d+1,i,out,h,a,h1,h2=>by
  rw [KY] at h
  by_cases he:(l7 l (i:Int) ap).2.2=0
  ·rw [if_pos he] at h
   by_cases e:a=i
   ·rw [e];exact he
   ·exact RO d (i+1) _ h a (by omega) (by omega)
  ·rw [if_neg he] at h;exact absurd h he
theorem acC {l:List fq} {ap:Int} (ha:1 <= ap) (h:∀ i,i<l.length -> (l7 l (i:Int) ap).2.2=0):allT l ap=((List.range l.length).map (gq l ap),0):=by
 unfold allT
 rw [if_neg (by omega),acB l.length 0 [] (fun a _ h2=>h a (by omega)),List.nil_append,<- List.range_eq_range']
theorem RP {l:List fq} {ap:Int} (h:(allT l ap).2=0):1 <= ap /\ ∀ i,i<l.length -> (l7 l (i:Int) ap).2.2=0:=by
 unfold allT at h
 by_cases ha:ap<1
 ·rw [if_pos ha] at h;exact absurd h (by decide)
 ·rw [if_neg ha] at h
  exact ⟨by omega,fun i hi=>RO l.length 0 [] h i (by omega) (by omega)⟩
theorem Emb.all {s l:List fq} {f:Nat -> Nat} (h:Emb s l f) (hL:jl l) (hl:l.length <= 10) (h8:s.length <= 8) {ap:Int} (he:(allT l ap).2=0):allT s ap=((List.range s.length).map (gq s ap),0):=by
 obtain ⟨h1,h2⟩:=RP he
 exact acC h1 (fun i hi=>(h.resp hL hl h8 hi (h2 _ (h.lt i hi))).1)
theorem RQ (r:Int):∀ l:List fq,∀ a,a<xu r l -> (l.getD a t0).1<r
 | [],a,h=>by simp [xu] at h
 | x::l,a,h=>by
  rw [xu] at h
  by_cases hx:x.1<r
  ·rw [decide_eq_true hx,cond_true] at h
   cases a with
   | zero=>exact hx
   | succ a=>exact RQ r l a (by omega)
  ·rw [decide_eq_false hx,cond_false] at h;omega
theorem OM {l:List fq} {t:fq} {i:Nat} (hi:i<l.length+1):(AL l t).getD i t0=if i<xu t.1 l then l.getD i t0 else if i=xu t.1 l then t else l.getD (i - 1) t0:=by
 have hp:=LY t.1 l
 unfold AL
 split
 ·rename_i h
  rw [List.append_assoc,mo (by rw [List.length_take];omega),List.getD_eq_getElem?_getD,List.getElem?_take,if_pos h,List.getD_eq_getElem?_getD]
 ·rename_i h
  split
  ·rename_i e
   rw [List.append_assoc,jq (by rw [List.length_take];omega),List.length_take,e,show xu t.1 l - min (xu t.1 l) l.length=0 by omega];rfl
  ·rename_i e
   rw [jq (by simp only [List.length_append,List.length_take,List.length_cons,List.length_nil];omega)]
   simp only [List.length_append,List.length_take,List.length_cons,List.length_nil]
   rw [List.getD_eq_getElem?_getD,List.getElem?_drop,List.getD_eq_getElem?_getD]
   congr 2;omega
theorem anM {l:List fq} {t:fq} {ap:Int} (h:(inT l t ap).2.2=0):(inT l t ap).1=AL l t /\ (inT l t ap).2.1=(allT (AL l t) ap).1 /\ (allT (AL l t) ap).2=0 /\ l.any (fun x=>x.1==t.1)=false:=by
 unfold inT at h ⊢
 split at h
 ·rename_i q;exact absurd h q
 ·rename_i q
  rw [if_neg q]
  split at h
  ·exact absurd h (by decide)
  ·rename_i q2
   rw [if_neg q2]
   split at h
   ·exact absurd h (by decide)
   ·rename_i q3
    rw [if_neg q3]
    split at h
    ·rename_i q4;exact absurd h q4
    ·rename_i q4
     rw [if_neg q4]
     exact ⟨rfl,rfl,by simpa using q4,Bool.eq_false_iff.2 q2⟩
structure GT (t:fq):Prop where
 main:GD t.2.2.2.1
 way:t.2.2.2.2.1=[] \/ GD t.2.2.2.2.1
 opt:t.2.2.2.2.2=[] \/ GD t.2.2.2.2.2
def acD (l:List I4) (m:d9):Prop:=∃ tr fin,IW l m tr fin
theorem GD.begins {l:List I4} (h:GD l) {a:Int} (ha:DT a):acD l (OH a):=by
 obtain ⟨t,rfl,h1,h2,h3⟩:=h
 exact ⟨_,_,ahu h1 h2 h3 ha⟩
structure JG (ts:List fq) (j:gu):Prop where
 task:0 <= j.1 /\ j.1<(ts.length:Int)
 held:j.2.2.2.2.2.2.1=[]
 phase:0 <= j.2.2.2.1 /\ j.2.2.2.1 <= 2
 arg:DT j.2.2.1
 m:acD (zw (ts.getD j.1.toNat t0) j.2.2.2.1) j.2.2.2.2.1
 kept:acD (zw (ts.getD j.1.toNat t0) j.2.2.2.1) j.2.2.2.2.2.1
theorem JG.gok {ts:List fq} {j:gu} (h:JG ts j):XA ts j /\ few j:=by
 obtain ⟨tr,fin,h1⟩:=h.m
 obtain ⟨tr2,ar8,h2⟩:=h.kept
 have h1:=h1.mok
 have h2:=h2.mok
 exact ⟨⟨⟨h.held,by omega,by omega⟩,h.task,h.phase,h1.1⟩,by unfold few;omega⟩
theorem JG.prom {ts:List fq} {j:gu} (h:JG ts j) (now:Int) (bs:List vo):JG ts (jk now bs j):=by
 obtain ⟨e1,e2,e3,e4,e5,e6,e7⟩:=DF now bs j
 exact ⟨by rw [e1];exact h.task,by rw [e7];exact h.held,by rw [e4];exact h.phase,by rw [e3];exact h.arg,by rw [e1,e4,e5];exact h.m,by rw [e1,e4,e6];exact h.kept⟩
theorem JG.go {ts:List fq} {j:gu} (h:JG ts j):((OP (ts.getD j.1.toNat t0) j).2.2.2.2.1.2.2.2=false -> JG ts (OP (ts.getD j.1.toNat t0) j)) /\ DT (OP (ts.getD j.1.toNat t0) j).2.2.2.2.1.2.1.1:=by
 obtain ⟨tr,fin,h1⟩:=h.m
 cases tr with
 | nil =>
  obtain ⟨l1,l2,l3⟩:=h1.last
  refine ⟨fun e=>absurd (l2.symm.trans e) (by decide),?_⟩
  have hm:=ag9 h1.mok.1.may h1.mem
  exact hm _ (List.mem_cons_self)
 | cons x tr =>
  obtain ⟨e1,e2,e3⟩:=h1.step
  refine ⟨fun _=>⟨h.task,h.held,h.phase,h.arg,⟨tr,fin,e3⟩,?_⟩,e3.mem _ List.mem_cons_self⟩
  show acD _ (bif (o8 (zw (ts.getD j.1.toNat t0) j.2.2.2.1) j.2.2.2.2.1).1==11 then stepM (zw (ts.getD j.1.toNat t0) j.2.2.2.1) j.2.2.2.2.1 else j.2.2.2.2.2.1)
  cases (o8 (zw (ts.getD j.1.toNat t0) j.2.2.2.1) j.2.2.2.2.1).1==11 with
  | true=>exact ⟨tr,fin,e3⟩
  | false=>exact h.kept
theorem JG.opts {ts:List fq} {j:gu} (h:0 <= j.1 /\ j.1<(ts.length:Int)) (ha:DT j.2.2.1) (hm:DT j.2.2.2.2.1.2.1.1) (ho:GD (ts.getD j.1.toNat t0).2.2.2.2.2):JG ts (OI j) :=
 ⟨h,rfl,by show (0:Int) <= 2 /\ (2:Int) <= 2;omega,ha,ho.begins hm,ho.begins hm⟩
theorem JG.goes {ts:List fq} (hg:∀ t∈ts,GT t) {j:gu} (h:JG ts j) (now:Int) (rows:List Int):(BK now (ts.getD j.1.toNat t0) j rows).1.1=j.1 /\ ((BK now (ts.getD j.1.toNat t0) j rows).2.1=false -> JG ts (BK now (ts.getD j.1.toNat t0) j rows).1):=by
 obtain ⟨g1,g2⟩:=h.go
 have ht:=hg _ (iq (z:=t0) (l:=ts) (i:=j.1.toNat) (by have:=h.task;omega))
 unfold BK
 cases ho:(OP (ts.getD j.1.toNat t0) j).2.2.2.2.1.2.2.2 with
 | false=>exact ⟨rfl,fun _=>g1 ho⟩
 | true =>
  rw [cond_true]
  unfold IL
  cases (OP (ts.getD j.1.toNat t0) j).2.2.2.1==2 with
  | true=>exact ⟨rfl,fun e=>absurd e (by simp)⟩
  | false =>
   refine ⟨rfl,fun e=>?_⟩
   rcases ht.opt with q | q
   ·rw [q] at e;exact absurd e (by simp)
   ·exact JG.opts (j:=OP (ts.getD j.1.toNat t0) j) h.task h.arg g2 q
theorem JG.hits {ts:List fq} (hg:∀ t∈ts,GT t) {j:gu} (h:JG ts j) (now:Int) (rows:List Int):(yj now (ts.getD j.1.toNat t0) j rows).1.1=j.1 /\ ((yj now (ts.getD j.1.toNat t0) j rows).2.1=false -> JG ts (yj now (ts.getD j.1.toNat t0) j rows).1):=by
 have ht:=hg _ (iq (z:=t0) (l:=ts) (i:=j.1.toNat) (by have:=h.task;omega))
 have hb:JG ts (EP (ts.getD j.1.toNat t0) j) /\ (EP (ts.getD j.1.toNat t0) j).1=j.1:=by
  unfold EP
  cases hc:(j.2.2.2.1==0)&&decide (((ts.getD j.1.toNat t0).2.2.2.2.1.length:Int)>0) with
  | false=>exact ⟨⟨h.task,rfl,h.phase,h.arg,h.kept,h.kept⟩,rfl⟩
  | true =>
   rw [Bool.and_eq_true] at hc
   have hw:=of_decide_eq_true hc.2
   rcases ht.way with q | q
   ·rw [q] at hw;simp at hw
   ·exact ⟨⟨h.task,rfl,by show (0:Int) <= 1 /\ (1:Int) <= 2;omega,h.arg,q.begins h.arg,q.begins h.arg⟩,rfl⟩
 unfold yj
 cases j.2.2.2.1==2 with
 | true=>exact ⟨rfl,fun e=>absurd e (by simp)⟩
 | false =>
  rw [cond_false]
  cases (j.2.2.2.1==0)&&decide (((ts.getD j.1.toNat t0).2.2.2.2.1.length:Int)>0) with
  | true=>exact ⟨hb.2,fun _=>hb.1⟩
  | false=>exact ⟨hb.2,fun _=>hb.1⟩
theorem YE {js:List gu}:rising js↔(js.map (fun j=>j.1)).Pairwise (·<·):=by
 unfold rising;rw [List.pairwise_map]
theorem YF {js:List gu} (h:rising js) {i:Nat} {x:gu} (hx:x.1=(js.getD i j0).1):rising (js.set i x):=by
 rw [YE] at h ⊢
 rw [List.map_set]
 by_cases hi:i<js.length
 ·have e:(js.map (fun j=>j.1)).set i x.1=js.map (fun j=>j.1):=by
   rw [hx,<- ER (f:=fun j:gu=>j.1) j0 0 hi];exact zu
  rw [e];exact h
 ·rw [List.set_eq_of_length_le (by rw [List.length_map];omega)];exact h
structure KG (K:gy):Prop where
 tab:K.2.2.2.2.2.2.2.2.1=jh
 tasks:jl K.2.2.1
 GV:K.2.2.1.length <= 8
 bounds:K.2.2.2.1.length=K.2.2.1.length
 rows:K.2.2.2.2.2.2.2.2.2.1.length=K.2.2.1.length
 off:K.2.2.2.2.2.2.2.2.2.2.length=K.2.2.1.length
 good:∀ t∈K.2.2.1,GT t
 job:∀ j∈K.2.2.2.2.2.2.2.1,JG K.2.2.1 j
 ris:rising K.2.2.2.2.2.2.2.1
theorem KG.ki {K:gy} (h:KG K):KI K:=⟨h.tab,h.tasks,h.GV,h.bounds,h.rows,h.off,fun j hj=>(h.job j hj).gok,h.ris⟩
theorem akb {ts:List fq} (hg:∀ t∈ts,GT t) {js:List gu} (hj:∀ j∈js,JG ts j) (hr:rising js) (hne:js.isEmpty=false) (h8:ts.length <= 8) (now:Int) (rows:List Int) (hi:Bool) :
  (∀ j∈(vv now ts js rows hi).1,JG ts j) /\ rising (vv now ts js rows hi).1 /\ (vv now ts js rows hi).2.2.length=rows.length:=by
 have h0:0<js.length:=by cases js with | nil=>simp at hne | cons a l=>simp
 have hmin:sj js (ts.length:Int)<js.length:=by
  have:=IU (l:=js.map (qz (ts.length:Int))) js.length 0 0 (by simp) (by simpa using h0)
  simpa [sj] using this
 have hin:=hj _ (iq (z:=j0) hmin)
 unfold vv
 simp only
 generalize sj js (ts.length:Int)=i at hmin hin ⊢
 have key:∀ r:RunT,r.1.1=(js.getD i j0).1 -> (r.2.1=false -> JG ts r.1) -> r.2.2.2.length=rows.length ->
   (∀ j∈(bif r.2.1 then js.take i++js.drop (i+1) else js.set i r.1),JG ts j) /\ rising (bif r.2.1 then js.take i++js.drop (i+1) else js.set i r.1) /\ r.2.2.2.length=rows.length:=fun r h1 h2 h3=>by
  cases hb:r.2.1 with
  | true =>
   simp only [cond_true]
   have hsub:(js.take i++js.drop (i+1)).Sublist js:=by rw [<- List.eraseIdx_eq_take_drop_succ];exact List.eraseIdx_sublist _ _
   exact ⟨fun j hm=>hj j (hsub.subset hm),List.Pairwise.sublist hsub hr,h3⟩
  | false =>
   simp only [cond_false]
   refine ⟨fun j hm=>?_,YF hr h1,h3⟩
   rcases List.mem_or_eq_of_mem_set hm with q | q
   ·exact hj j q
   ·rw [q];exact h2 hb
 cases hi with
 | true =>
  obtain ⟨a,b⟩:=hin.hits hg now rows
  exact key _ a b (OJ _ _ _ _).1
 | false =>
  obtain ⟨a,b⟩:=hin.goes hg now rows
  exact key _ a b (K8 _ _ _ _).1
theorem akc {K:gy} (h:KG K):KG (ES K).1:=by
 obtain ⟨now,ap,ts,bs,ru,ha,hi,js,T,rows,off⟩:=K
 have h1:jl ts:=h.tasks
 have h2:ts.length <= 8:=h.GV
 have h4:rows.length=ts.length:=h.rows
 have h5:off.length=ts.length:=h.off
 have h6:∀ j∈js,JG ts j:=h.job
 have h7:rising js:=h.ris
 have h9:∀ t∈ts,GT t:=h.good
 unfold ES
 simp only
 cases hc:ru&&!ha with
 | false=>exact ⟨h.tab,h.tasks,h.GV,h.bounds,h.rows,h.off,h.good,h.job,h.ris⟩
 | true =>
  simp only [cond_true]
  obtain ⟨l,g1,g2,g3,g4,g5⟩:=CS now ts js ([],[],rows,off,ha)
  rw [show js.foldl (uo now ts) ([],[],rows,off,ha)=xw now ts js rows off ha from rfl] at g2 g3 g4 g5
  simp only [List.nil_append] at g2 g3 g4 g5
  generalize xw now ts js rows off ha=E at g2 g3 g4 g5 ⊢
  have hE:∀ j∈E.1.map (jk now bs),JG ts j:=fun j hj=>by
   obtain ⟨x,hx,rfl⟩:=List.mem_map.1 hj
   exact (h6 x (g1.subset (by rw [<- g2];exact hx))).prom now bs
  have hEr:rising (E.1.map (jk now bs)):=rising_map (fun j=>(DF now bs j).1) (by rw [g2];exact List.Pairwise.sublist g1 h7)
  cases he:E.2.2.2.2||(E.1.map (jk now bs)).isEmpty with
  | true =>
   simp only [cond_true]
   exact ⟨h.tab,h.tasks,h.GV,h.bounds,by simp only;omega,by simp only;omega,h.good,hE,hEr⟩
  | false =>
   simp only [cond_false]
   rw [Bool.or_eq_false_iff] at he
   obtain ⟨r1,r2,r3⟩:=akb h9 hE hEr he.2 h2 now E.2.2.1 hi
   exact ⟨h.tab,h.tasks,h.GV,h.bounds,by simp only;omega,by simp only;omega,h.good,r1,r2⟩
theorem AP (p:Int):∀ l:List gu,∀ a,a<jg p l -> (l.getD a j0).1<p
 | [],a,h=>by simp [jg] at h
 | x::l,a,h=>by
  rw [jg] at h
  by_cases hx:x.1<p
  ·rw [decide_eq_true hx,cond_true] at h
   cases a with
   | zero=>exact hx
   | succ a=>exact AP p l a (by omega)
  ·rw [decide_eq_false hx,cond_false] at h;omega
theorem FQ (p:Int):∀ l:List gu,jg p l<l.length -> ¬ (l.getD (jg p l) j0).1<p
 | [],h=>by simp at h
 | x::l,h=>by
  by_cases hx:x.1<p
  ·have e:jg p (x::l)=jg p l+1:=by rw [jg,decide_eq_true hx,cond_true]
   rw [e] at h ⊢
   exact FQ p l (by simp only [List.length_cons] at h;omega)
  ·have e:jg p (x::l)=0:=by rw [jg,decide_eq_false hx,cond_false]
   rw [e];exact hx
theorem YG {js:List gu} (h:rising js) {p:Int} {x:gu} (hx:x.1=p) {n:Nat} (hn:jg p js <= n) (hs:n <= js.length) (ha:∀ a,n <= a -> a<js.length -> p<(js.getD a j0).1):rising (js.take (jg p js)++[x]++js.drop n):=by
 unfold rising at h ⊢
 have hat:∀ y∈js.take (jg p js),y.1<p:=fun y hy=>by
  obtain ⟨a,ha,e⟩:=List.mem_iff_getElem.1 hy
  rw [List.length_take] at ha
  rw [List.getElem_take] at e
  have:=AP p js a (by omega)
  rw [getD_in (by omega),e] at this
  exact this
 have hdr:∀ y∈js.drop n,p<y.1:=fun y hy=>by
  obtain ⟨a,hb,e⟩:=List.mem_iff_getElem.1 hy
  rw [List.length_drop] at hb
  rw [List.getElem_drop] at e
  have:=ha (n+a) (by omega) (by omega)
  rw [getD_in (by omega),e] at this
  exact this
 rw [List.append_assoc,List.pairwise_append]
 refine ⟨List.Pairwise.sublist (List.take_sublist _ _) h,?_,?_⟩
 ·rw [List.singleton_append,List.pairwise_cons]
  exact ⟨fun y hy=>by rw [hx];exact hdr y hy,List.Pairwise.sublist (List.drop_sublist _ _) h⟩
 ·intro a ha b hb
  rw [List.singleton_append,List.mem_cons] at hb
  have:=hat a ha
  rcases hb with q | q
  ·rw [q,hx];exact this
  ·have:=hdr b q;omega
theorem ahv {K:gy} (h:KG K) {p a:Int} (ha:DT a):KG (IV K p a).1:=by
 have h7:rising K.2.2.2.2.2.2.2.1:=h.ris
 unfold IV
 cases !K.2.2.2.2.1 with
 | true=>exact h
 | false =>
  simp only [cond_false]
  cases K.2.2.2.2.2.1 with
  | true=>exact h
  | false =>
   simp only [cond_false]
   cases hp:decide (p<0)||decide (p≥(K.2.2.1.length:Int)) with
   | true=>exact h
   | false =>
    simp only [cond_false]
    rw [Bool.or_eq_false_iff] at hp
    have p1:=of_decide_eq_false hp.1
    have p2:=of_decide_eq_false hp.2
    cases K.2.2.2.2.2.2.2.2.2.2.getD p.toNat false with
    | true=>exact h
    | false =>
     simp only [cond_false]
     have hle:=FP p K.2.2.2.2.2.2.2.1
     have hstop:=FQ p K.2.2.2.2.2.2.2.1
     have hgt:=h.good _ (iq (z:=t0) (l:=K.2.2.1) (i:=p.toNat) (by omega))
     have hnew:JG K.2.2.1 (OZ p K.1 a):=⟨⟨by show 0 <= p;omega,by show p<_;omega⟩,rfl,by show (0:Int) <= 0 /\ (0:Int) <= 2;omega,ha,hgt.main.begins ha,hgt.main.begins ha⟩
     have fin:∀ n,jg p K.2.2.2.2.2.2.2.1 <= n -> n <= K.2.2.2.2.2.2.2.1.length -> (∀ b,n <= b -> b<K.2.2.2.2.2.2.2.1.length -> p<(K.2.2.2.2.2.2.2.1.getD b j0).1) -> KG (XE K (K.2.2.2.2.2.2.2.1.take (jg p K.2.2.2.2.2.2.2.1)++[OZ p K.1 a]++K.2.2.2.2.2.2.2.1.drop n)):=fun n hn hs hb =>
      ⟨h.tab,h.tasks,h.GV,h.bounds,h.rows,h.off,h.good,fun j hj=>by
       rcases List.mem_append.1 hj with hj | hj
       ·rcases List.mem_append.1 hj with hj | hj
        ·exact h.job j (List.mem_of_mem_take hj)
        ·rw [List.mem_singleton] at hj;rw [hj];exact hnew
       ·exact h.job j (List.mem_of_mem_drop hj),YG (p:=p) (x:=OZ p K.1 a) h7 rfl hn hs hb⟩
     have mono:∀ x y,x<y -> y<K.2.2.2.2.2.2.2.1.length -> (K.2.2.2.2.2.2.2.1.getD x j0).1<(K.2.2.2.2.2.2.2.1.getD y j0).1:=fun x y hxy hy=>by
      rw [getD_in (by omega),getD_in hy];exact List.pairwise_iff_getElem.1 h7 x y (by omega) hy hxy
     cases hc:decide (jg p K.2.2.2.2.2.2.2.1<K.2.2.2.2.2.2.2.1.length)&&(K.2.2.2.2.2.2.2.1.getD (jg p K.2.2.2.2.2.2.2.1) j0).1==p with
     | true =>
      simp only [cond_true]
      rw [Bool.and_eq_true] at hc
      have c1:=of_decide_eq_true hc.1
      have c2:=eq_of_beq hc.2
      cases (K.2.2.2.2.2.2.2.1.getD (jg p K.2.2.2.2.2.2.2.1) j0).2.2.2.1 != 2 with
      | true=>exact h
      | false =>
       simp only [cond_false]
       refine fin _ (by omega) (by omega) (fun b h1 h2=>?_)
       have:=mono (jg p K.2.2.2.2.2.2.2.1) b (by omega) h2
       omega
     | false =>
      simp only [cond_false]
      refine fin _ (Nat.le_refl _) hle (fun b h1 h2=>?_)
      have c0:=hstop (by omega)
      have c1:(K.2.2.2.2.2.2.2.1.getD (jg p K.2.2.2.2.2.2.2.1) j0).1≠p:=fun e=>by
       rw [e,decide_eq_true (show jg p K.2.2.2.2.2.2.2.1<K.2.2.2.2.2.2.2.1.length by omega)] at hc
       simp at hc
      by_cases e:b=jg p K.2.2.2.2.2.2.2.1
      ·rw [e];omega
      ·have:=mono (jg p K.2.2.2.2.2.2.2.1) b (by omega) h2
       omega
theorem RU (r:Int):∀ l:List fq,xu r l<l.length -> ¬ (l.getD (xu r l) t0).1<r
 | [],h=>by simp at h
 | x::l,h=>by
  by_cases hx:x.1<r
  ·have e:xu r (x::l)=xu r l+1:=by rw [xu,decide_eq_true hx,cond_true]
   rw [e] at h ⊢
   exact RU r l (by simp only [List.length_cons] at h;omega)
  ·have e:xu r (x::l)=0:=by rw [xu,decide_eq_false hx,cond_false]
   rw [e];exact hx
theorem akd {l:List fq} {t:fq} (h:zi l=true) (ht:BJ t=0) (ha:l.any (fun x=>x.1==t.1)=false):zi (AL l t)=true:=by
 have hp:=LY t.1 l
 have hne:∀ a,a<l.length -> (l.getD a t0).1≠t.1:=fun a h1 e=>by
  rw [List.any_eq_false] at ha
  exact ha _ (iq (z:=t0) h1) (by rw [e];exact beq_self_eq_true _)
 rw [row_iff] at h ⊢
 intro n hn
 rw [II] at hn
 refine ⟨?_,fun h0=>?_⟩
 ·rw [OM hn]
  split
  ·exact (h n (by omega)).1
  ·split
   ·exact ht
   ·exact (h (n - 1) (by omega)).1
 ·rw [OM hn,OM (show n - 1<l.length+1 by omega)]
  by_cases c1:n<xu t.1 l
  ·rw [if_pos c1,if_pos (show n - 1<xu t.1 l by omega)]
   exact (h n (by omega)).2 h0
  ·rw [if_neg c1]
   by_cases c2:n=xu t.1 l
   ·rw [if_pos c2,if_pos (show n - 1<xu t.1 l by omega)]
    exact RQ t.1 l (n - 1) (by omega)
   ·rw [if_neg c2,if_neg (show ¬ n - 1<xu t.1 l by omega)]
    by_cases c3:n - 1=xu t.1 l
    ·rw [if_pos c3,c3]
     have h1:=RU t.1 l (by omega)
     have h2:=hne (xu t.1 l) (by omega)
     omega
    ·rw [if_neg c3]
     exact (h (n - 1) (by omega)).2 (by omega)
abbrev Stp:Type:=Int×(Int×fq×(Int×Int)×Int×Int×Int)×Int×Int
def DY (kd:Int) (t:fq):Stp:=(1,(kd,t,(0,0),0,0,0),0,0)
abbrev zt:fq:=(0,0,0,[],[],[])
def RV (b:Bool) (kd:Int):List Stp:=bif b then [DY kd zt] else []
theorem XF {k:Nat} (hk:1000 <= k) {p:List Int} {lo:Int} (hl:0 <= lo /\ lo <= 4):∀ (m j:Nat) (n:Int) (l:List Stp),m<j -> l.length+m <= 10 -> yh p n ->
  ∃ (tl:List fq) (bx fl:Bool) (n':Int),WB k j p n l lo (m:Int)=some ((l++tl.map (DY 1)++RV bx 3++RV fl 4++[DY 5 zt],()),(p,n',()),()) /\ yh p n' /\ tl.length=m /\ ∀ t∈tl,∃ r,MT lo r t
 | 0,j,n,l,hj,hm,hp=>by
  obtain ⟨j',rfl⟩:∃ j',j=j'+1:=⟨j - 1,by omega⟩
  obtain ⟨v,n1,e1,hv,hp1⟩:=oo k hp (show (0:Int)<3 by omega)
  obtain ⟨w,n2,e2,hw,hp2⟩:=oo k hp1 (show (0:Int)<3 by omega)
  rw [aaM,aaL,Rk (by omega),e1,Option.bind_some]
  simp only
  have tail:∀ l2:List Stp,l2.length <= 20 -> MU k p n1 l2=some ((l2++RV (w==0) 4++[DY 5 zt],()),(p,n2,()),()):=fun l2 hl2=>by
   unfold MU
   rw [e2,Option.bind_some]
   simp only
   unfold U4 S74 RV DY
   cases w==0 with
   | true =>
    simp only [cond_true,Option.bind_some]
    rw [Rh (by simp only [List.length_cons,List.length_nil];omega),Rh (by simp only [List.length_append,List.length_cons,List.length_nil];omega)]
   | false =>
    simp only [cond_false,Option.bind_some,List.append_nil]
    rw [Rh (by simp only [List.length_cons,List.length_nil];omega)]
  refine ⟨[],v==0,w==0,n2,?_,hp2,rfl,fun t h=>by cases h⟩
  cases v==0 with
  | true =>
   rw [cond_true]
   unfold S74
   rw [Option.bind_some,Rh (by simp only [List.length_cons,List.length_nil];omega),tail _ (by simp only [List.length_append,List.length_cons,List.length_nil];omega)]
   simp [RV,DY]
  | false =>
   rw [cond_false,tail _ (by omega)]
   simp [RV]
 | m+1,j,n,l,hj,hm,hp=>by
  obtain ⟨j',rfl⟩:∃ j',j=j'+1:=⟨j - 1,by omega⟩
  obtain ⟨v,n1,e1,hv,hp1⟩:=oo k hp (show (0:Int)<3 by omega)
  rw [aaM,aaL,Rj (by omega),e1,Option.bind_some]
  simp only
  obtain ⟨t,n2,e2,hp2,ht⟩:=anp hk (rank:=IntKind.i64.wrap (IntKind.i64.wrap (3 * ((m+1:Nat):Int))+v)) hl hp1
  rw [e2,Option.bind_some]
  simp only
  unfold S74
  rw [Option.bind_some,Rh (by simp only [List.length_cons,List.length_nil];omega),Ua (n:=((m+1:Nat):Int) - 1) (by omega) (by omega),show ((m+1:Nat):Int) - 1=(m:Int) by omega]
  obtain ⟨tl,bx,fl,n',q1,q2,q3,q4⟩:=XF hk hl m j' n2 (l++[DY 1 t]) (by omega) (by simp only [List.length_append,List.length_cons,List.length_nil];omega) hp2
  refine ⟨t::tl,bx,fl,n',?_,q2,by simp [q3],fun x hx=>?_⟩
  ·show WB k j' p n2 (l++[DY 1 t]) lo (m:Int)=_
   rw [q1];simp
  ·rcases List.mem_cons.1 hx with rfl | h
   ·exact ⟨_,ht⟩
   ·exact q4 x h
theorem XG {k:Nat} (hk:1000 <= k) {p:List Int} {lo:Nat} (hl:lo <= 4):∀ (d i j:Nat) (n:Int) ,i+d=lo -> d<j -> yh p n ->
  ∃ (tl:List fq) (bx fl:Bool) (n':Int),aaO k j p n (List.replicate i (DY 2 zt)) (lo:Int) (i:Int)=some ((List.replicate lo (DY 2 zt)++tl.map (DY 1)++RV bx 3++RV fl 4++[DY 5 zt],()),(p,n',()),()) /\ yh p n' /\ tl.length <= 4 /\ ∀ t∈tl,∃ r,MT lo r t
 | 0,i,j,n,h,hj,hp=>by
  obtain ⟨j',rfl⟩:∃ j',j=j'+1:=⟨j - 1,by omega⟩
  obtain ⟨v,n1,e1,hv,hp1⟩:=oo k hp (show (0:Int)<4 by omega)
  rw [aaP,aaN,Rk (by omega),e1,Option.bind_some]
  simp only
  rw [Ua (n:=v+1) (by omega) (by omega),show v+1=(((v+1).toNat:Nat):Int) by omega]
  obtain ⟨tl,bx,fl,n',q1,q2,q3,q4⟩:=XF hk (lo:=lo) (by omega) (v+1).toNat k n1 (List.replicate i (DY 2 zt)) (by omega) (by rw [List.length_replicate];omega) hp1
  have:i=lo:=by omega
  subst this
  exact ⟨tl,bx,fl,n',q1,q2,by omega,q4⟩
 | d+1,i,j,n,h,hj,hp=>by
  obtain ⟨j',rfl⟩:∃ j',j=j'+1:=⟨j - 1,by omega⟩
  rw [aaP,aaN,Rj (by omega)]
  unfold S74
  rw [Option.bind_some,Rh (by simp only [List.length_replicate,List.length_cons,List.length_nil];omega),Me (by omega)]
  obtain ⟨tl,bx,fl,n',q1,q2⟩:=XG hk hl d (i+1) j' n (by omega) (by omega) hp
  rw [List.replicate_succ'] at q1
  exact ⟨tl,bx,fl,n',q1,q2⟩
theorem anN {k:Nat} (hk:1000 <= k) {p:List Int} {n:Int} (hp:yh p n) :
  ∃ (lo:Nat) (tl:List fq) (bx fl:Bool) (n':Int),S31 k p n=some ((List.replicate lo (DY 2 zt)++tl.map (DY 1)++RV bx 3++RV fl 4++[DY 5 zt],()),(p,n',()),()) /\ yh p n' /\ lo <= 3 /\ tl.length <= 4 /\ ∀ t∈tl,∃ r,MT lo r t:=by
 obtain ⟨v,n1,e1,hv,hp1⟩:=oo k hp (show (0:Int)<4 by omega)
 obtain ⟨m,rfl⟩:∃ m:Nat,v=(m:Int):=⟨v.toNat,by omega⟩
 obtain ⟨tl,bx,fl,n',q1,q2,q3,q4⟩:=XG hk (lo:=m) (by omega) m 0 k n1 (by omega) (by omega) hp1
 refine ⟨m,tl,bx,fl,n',?_,q2,by omega,q3,q4⟩
 unfold S31
 rw [e1,Option.bind_some]
 exact q1
def thN (kd i c s:Int):RF:=(kd,(i,1),(c,0),([],[]),(0,[]),s)
def KZ (l:List RF):YA:=((List.replicate l.length 1++List.replicate (12 - l.length) 0,List.replicate l.length true++List.replicate (12 - l.length) false),l++List.replicate (12 - l.length) (0,(0,0),(0,0),([],[]),(0,[]),0))
def K9 (s:Nat):List RF:=[thN 1 0 8 2300351877,thN 1 1 8 2299827589,thN 1 2 8 2299303301].take s
def adq (s:Nat):List RF:=K9 s++[thN 2 s 0 ([2434569669,2434045381,2433521093,2432996805].getD s 0)]
def apJ (l:List RF):List RF:=l++[thN 3 l.length 0 ([2568787397,2568263109,2567738821,2567214533,2570884549].getD l.length 0)]
theorem ahw {k s:Nat} (hk:1000 <= k) (h:s<3):Yc k (KZ (K9 s)) 1=some ((KZ (K9 (s+1)),((s:Int),1),true,()),()):=by
 obtain ⟨k,rfl⟩:∃ m,k=m+1000:=⟨k - 1000,by omega⟩
 have:s=0 \/ s=1 \/ s=2:=by omega
 rcases this with rfl | rfl | rfl <;> (show _=_;kernel_rfl)
theorem ahx {k s:Nat} (hk:1000 <= k) (h:s <= 3):Yc k (KZ (K9 s)) 2=some ((KZ (adq s),((s:Int),1),true,()),()):=by
 obtain ⟨k,rfl⟩:∃ m,k=m+1000:=⟨k - 1000,by omega⟩
 have:s=0 \/ s=1 \/ s=2 \/ s=3:=by omega
 rcases this with rfl | rfl | rfl | rfl <;> (show _=_;kernel_rfl)
theorem adr {k s:Nat} (hk:1000 <= k) (h:s <= 3) (b:Bool):Yc k (KZ (bif b then adq s else K9 s)) 3=some ((KZ (apJ (bif b then adq s else K9 s)),(((bif b then adq s else K9 s).length:Int),1),true,()),()):=by
 obtain ⟨k,rfl⟩:∃ m,k=m+1000:=⟨k - 1000,by omega⟩
 have:s=0 \/ s=1 \/ s=2 \/ s=3:=by omega
 rcases this with rfl | rfl | rfl | rfl <;> cases b <;> (show _=_;kernel_rfl)
def yc (ap:Int) (ts:List fq) (bs:List vo) (T:YA):gy:=(0,ap,ts,bs,false,false,false,[],T,[],[])
theorem V5 {k:Nat} {ap kd:Int} {ts:List fq} {bs:List vo} {T T2:YA} {h:Int×Int} (hkd:kd=2 \/ kd=3 \/ kd=4) (e:Yc k T (kd - 1)=some ((T2,h,true,()),())) :
  ∃ r:Int×(Int×Int)×Int,S32 k (yc ap ts bs T) (DY kd zt)=some ((yc ap ts bs T2,[],r,()),()):=by
 have e':Yc k ((T.1.1,T.1.2),T.2) (IntKind.i64.wrap ((IntKind.i64.wrap (kd - 2))+1))=some ((T2,h,true,()),()):=by
  rw [Ua (n:=kd - 2) (by omega) (by omega),Ua (by omega) (by omega),show kd - 2+1=kd - 1 by omega];exact e
 unfold S32 S75 DY yc
 rcases hkd with rfl | rfl | rfl <;>
 ·refine ⟨(0,h,0),?_⟩
  simp only [Int.reduceBEq,cond_true,cond_false]
  unfold EI
  rw [e']
  rfl
theorem ahy {k:Nat} (hk:20000 <= k) {ap:Int} {ts:List fq} {bs:List vo} {T:YA} {t:fq} (h:ajP ts t) (hr:UU ts) :
  ∃ r:Int×(Int×Int)×Int,S32 k (yc ap ts bs T) (DY 1 t)=some ((bif (inT ts t ap).2.2==0 then yc ap (inT ts t ap).1 (inT ts t ap).2.1 T else yc ap ts bs T,[],r,()),()):=by
 unfold S32 S75 DY yc
 refine ⟨((inT ts t ap).2.2,(0,0),0),?_⟩
 simp only [Int.reduceBEq,cond_true,cond_false]
 rw [anu hk h hr,Option.bind_some]
 simp only
 cases (inT ts t ap).2.2==0 <;> rfl
inductive Goes (k:Nat):List Stp -> gy -> gy -> Prop
 | nil (r:gy):Goes k [] r r
 | start (t:fq) (l:List Stp) (r r2:gy):Goes k l r r2 -> Goes k (DY 5 t::l) r r2
 | one (kd:Int) (t:fq) (l:List Stp) (r r1 r2:gy) (ev:List ig) (q:Int×(Int×Int)×Int):kd≠5 -> S32 k r (DY kd t)=some ((r1,ev,q,()),()) -> Goes k l r1 r2 -> Goes k (DY kd t::l) r r2
theorem Goes.app {k:Nat} {a b:List Stp} {r r1 r2:gy} (h:Goes k a r r1) (h2:Goes k b r1 r2):Goes k (a++b) r r2:=by
 induction h with
 | nil r=>exact h2
 | start t l r r2 _ ih=>exact .start t _ _ _ (ih h2)
 | one kd t l r r1 r2 ev q a b _ ih=>exact .one kd t _ _ _ _ ev q a b (ih h2)
theorem RX {k:Nat} (hk:1000 <= k) {ap:Int} {ts:List fq} {bs:List vo}:∀ (d s:Nat),s+d <= 3 -> Goes k (List.replicate d (DY 2 zt)) (yc ap ts bs (KZ (K9 s))) (yc ap ts bs (KZ (K9 (s+d))))
 | 0,s,h=>.nil _
 | d+1,s,h=>by
  obtain ⟨r,e⟩:=V5 (ap:=ap) (kd:=2) (ts:=ts) (bs:=bs) (.inl rfl) (ahw hk (show s<3 by omega))
  rw [List.replicate_succ]
  refine .one 2 zt _ _ _ _ _ _ (by decide) e ?_
  rw [show s+(d+1)=s+1+d by omega]
  exact RX hk d (s+1) (by omega)
theorem EU {k:Nat} (hk:20000 <= k) {ap lo:Int} {T:YA}:∀ (tl ts:List fq) (bs:List vo),(∀ t∈tl,∃ r,MT lo r t) -> jl ts -> ts.length+tl.length <= 8 -> zi ts=true -> bs.length=ts.length ->
  ∃ ts2 bs2,Goes k (tl.map (DY 1)) (yc ap ts bs T) (yc ap ts2 bs2 T) /\ jl ts2 /\ ts2.length <= ts.length+tl.length /\ zi ts2=true /\ bs2.length=ts2.length
 | [],ts,bs,_,h1,h2,h3,h4=>⟨ts,bs,.nil _,h1,by simp,h3,h4⟩
 | t::tl,ts,bs,h,h1,h2,h3,h4=>by
  obtain ⟨r0,hm⟩:=h t (by simp)
  simp only [List.length_cons] at h2
  have hc:=hm.code
  have ho:ajP ts t:=⟨h1,by omega,hm.light,by omega⟩
  obtain ⟨r,e⟩:=ahy hk (ap:=ap) (bs:=bs) (T:=T) ho (RB h3)
  by_cases hz:(inT ts t ap).2.2=0
  ·obtain ⟨g1,g2,g3,g4⟩:=anM hz
   have hlen:=II ts t
   have hmay:BJ t=0:=by
    by_cases q:BJ t=0
    ·exact q
    ·unfold inT at hz;rw [if_pos q] at hz;exact absurd hz q
   have hrow:=akd h3 hmay g4
   have hL:=OC h1 (by omega) ho.one
   have hga:=RP g3
   have hall:=acC hga.1 hga.2
   rw [hz,beq_self_eq_true,cond_true,g1,g2] at e
   obtain ⟨ts2,bs2,q1,q2,q3,q4,q5⟩:=EU (T:=T) hk tl (AL ts t) (allT (AL ts t) ap).1 (fun x hx=>h x (by simp [hx])) hL (by omega) hrow (by rw [hall];simp)
   exact ⟨ts2,bs2,.one 1 t _ _ _ _ _ _ (by decide) e q1,q2,by simp only [List.length_cons];omega,q4,q5⟩
  ·rw [show ((inT ts t ap).2.2==0)=false from beq_eq_false_iff_ne.2 hz,cond_false] at e
   obtain ⟨ts2,bs2,q1,q2,q3,q4,q5⟩:=EU (T:=T) hk tl ts bs (fun x hx=>h x (by simp [hx])) h1 (by omega) h3 h4
   exact ⟨ts2,bs2,.one 1 t _ _ _ _ _ _ (by decide) e q1,q2,by simp only [List.length_cons];omega,q4,q5⟩
theorem ahz {k:Nat} (hk:20000 <= k) {ap:Int} {lo:Nat} (hlo:lo <= 3) {tl:List fq} (has:tl.length <= 4) (hm:∀ t∈tl,∃ r,MT lo r t) (bx fl:Bool) :
  ∃ ts bs T,Goes k (List.replicate lo (DY 2 zt)++tl.map (DY 1)++RV bx 3++RV fl 4++[DY 5 zt]) (yc ap [] [] jh) (yc ap ts bs T) /\ jl ts /\ ts.length <= 4 /\ zi ts=true /\ bs.length=ts.length:=by
 have h0:=RX (k:=k) (by omega) (ap:=ap) (ts:=[]) (bs:=[]) lo 0 (by omega)
 rw [Nat.zero_add] at h0
 obtain ⟨ts,bs,q1,q2,q3,q4,q5⟩:=EU (ap:=ap) (T:=KZ (K9 lo)) hk tl [] [] hm ⟨by simp,fun t h=>by cases h⟩ (by simp;omega) (row_iff.2 (fun n hn=>by simp at hn)) rfl
 have h3:Goes k (RV bx 3) (yc ap ts bs (KZ (K9 lo))) (yc ap ts bs (KZ (bif bx then adq lo else K9 lo))):=by
  unfold RV
  cases bx with
  | false=>exact .nil _
  | true =>
   obtain ⟨r,e⟩:=V5 (ap:=ap) (kd:=3) (ts:=ts) (bs:=bs) (.inr (.inl rfl)) (ahx (k:=k) (by omega) hlo)
   exact .one 3 zt _ _ _ _ _ _ (by decide) e (.nil _)
 have h4:∃ T,Goes k (RV fl 4) (yc ap ts bs (KZ (bif bx then adq lo else K9 lo))) (yc ap ts bs T):=by
  unfold RV
  cases fl with
  | false=>exact ⟨_,.nil _⟩
  | true =>
   obtain ⟨r,e⟩:=V5 (ap:=ap) (kd:=4) (ts:=ts) (bs:=bs) (.inr (.inr rfl)) (adr (k:=k) (by omega) hlo bx)
   exact ⟨_,.one 4 zt _ _ _ _ _ _ (by decide) e (.nil _)⟩
 obtain ⟨T,h4⟩:=h4
 exact ⟨ts,bs,T,(((Goes.app h0 q1).app h3).app h4).app (.start zt _ _ _ (.nil _)),q2,by simp only [List.length_nil] at q3;omega,q4,q5⟩
theorem apK (k:Nat) {ap:Int} (h1:1 <= ap) (h2:ap <= 4611686018427387904):S26 (k+1000) ap=some ((yc ap [] [] jh,true,()),()):=by
 unfold S26 yc
 rw [Rk (by omega),Rk (by omega)]
 kernel_rfl
theorem ahA {k:Nat} {K:gy} {x1 x2 x6 x7:Int} {x3 x4 x5 x8 x9 x10:Bool} {all:List Stp} (hall:all.length <= 1000):∀ (l:List Stp) (i j:Nat) (r r2:gy),Goes k l r r2 -> all.drop i=l -> i+l.length=all.length -> l.length<j ->
  abD k j x1 x2 x3 x4 x5 x6 x7 x8 x9 x10 K.1 K.2.1 K.2.2.1 K.2.2.2.1 K.2.2.2.2.1 K.2.2.2.2.2.1 K.2.2.2.2.2.2.1 K.2.2.2.2.2.2.2.1 K.2.2.2.2.2.2.2.2.1.1.1 K.2.2.2.2.2.2.2.2.1.1.2 K.2.2.2.2.2.2.2.2.1.2 K.2.2.2.2.2.2.2.2.2.1 K.2.2.2.2.2.2.2.2.2.2
   r.1 r.2.1 r.2.2.1 r.2.2.2.1 r.2.2.2.2.1 r.2.2.2.2.2.1 r.2.2.2.2.2.2.1 r.2.2.2.2.2.2.2.1 r.2.2.2.2.2.2.2.2.1.1.1 r.2.2.2.2.2.2.2.2.1.1.2 r.2.2.2.2.2.2.2.2.1.2 r.2.2.2.2.2.2.2.2.2.1 r.2.2.2.2.2.2.2.2.2.2 (i:Int) all =
   some (((K.1,K.2.1,r2.2.2.1,r2.2.2.2.1,K.2.2.2.2),r2,true,()),()):=by
 intro l i j r r2 h
 induction h generalizing i j with
 | nil r =>
  intro h1 h2 h3
  obtain ⟨j',rfl⟩:∃ j',j=j'+1:=⟨j - 1,by omega⟩
  rw [Uo,WX,Rk (by simp only [List.length_nil] at h2;omega)]
 | start t l r r2 _ ih =>
  intro h1 h2 h3
  obtain ⟨j',rfl⟩:∃ j',j=j'+1:=⟨j - 1,by omega⟩
  simp only [List.length_cons] at h2 h3
  have hi:i<all.length:=by omega
  have hd:=drop_cons (DY 0 zt) hi
  rw [h1] at hd
  injection hd with d1 d2
  rw [Uo,WX,Rj (by omega),Pw hi,Px,Me (by omega)]
  rw [show all.getD i (0,(0,(0,0,0,[],[],[]),(0,0),0,0,0),0,0)=DY 5 t by rw [d1,getD_in hi,getD_in hi]]
  exact ih (i+1) j' d2.symm (by omega) (by omega)
 | one kd t l r r1 r2 ev q a b _ ih =>
  intro h1 h2 h3
  obtain ⟨j',rfl⟩:∃ j',j=j'+1:=⟨j - 1,by omega⟩
  simp only [List.length_cons] at h2 h3
  have hi:i<all.length:=by omega
  have hd:=drop_cons (DY 0 zt) hi
  rw [h1] at hd
  injection hd with d1 d2
  rw [Uo,WX,Rj (by omega),Pw hi,Pw hi,Px,Me (by omega)]
  rw [show all.getD i (0,(0,(0,0,0,[],[],[]),(0,0),0,0,0),0,0)=DY kd t by rw [d1,getD_in hi,getD_in hi]]
  rw [show ((DY kd t).2.1.1==5)=false from beq_eq_false_iff_ne.2 a,cond_false]
  refine (congrArg (fun x=>Option.bind x _) b).trans ?_
  exact ih (i+1) j' d2.symm (by omega) (by omega)
theorem anO {k:Nat} (hk:20000 <= k) {p:List Int} (hp:yh p 0) {ap:Int} (h1:1 <= ap) (h2:ap <= 4611686018427387904) :
  ∃ ts bs T,S10 k p ap=some ((yc ap ts bs jh,yc ap ts bs T,true,()),()) /\ jl ts /\ ts.length <= 4 /\ zi ts=true /\ bs.length=ts.length:=by
 obtain ⟨lo,tl,bx,fl,n',e,hp2,hlo,has,hm⟩:=anN (k:=k) (by omega) hp
 obtain ⟨ts,bs,T,q1,q2,q3,q4,q5⟩:=ahz (ap:=ap) hk hlo has hm bx fl
 have hlen:(List.replicate lo (DY 2 zt)++tl.map (DY 1)++RV bx 3++RV fl 4++[DY 5 zt]).length <= 100:=by
  have o:∀ (b:Bool) (n:Int),(RV b n).length <= 1:=fun b n=>by cases b <;> simp [RV]
  have:=o bx 3
  have:=o fl 4
  simp only [List.length_append,List.length_replicate,List.length_map,List.length_cons,List.length_nil];omega
 have hL:=ahA (k:=k) (K:=yc ap [] [] jh) (x1:=0) (x2:=0) (x3:=false) (x4:=false) (x5:=false) (x6:=0) (x7:=0) (x8:=false) (x9:=false) (x10:=false) (by omega) _ 0 k _ _ q1 (List.drop_zero ..) (by omega) (by omega)
 have n1:S25 k ap=some ((yc ap [] [] jh,true,()),()):=by
  obtain ⟨k,rfl⟩:∃ m,k=m+1000:=⟨k - 1000,by omega⟩
  exact apG k h1 h2
 have n2:S26 k ap=some ((yc ap [] [] jh,true,()),()):=by
  obtain ⟨k,rfl⟩:∃ m,k=m+1000:=⟨k - 1000,by omega⟩
  exact apK k h1 h2
 refine ⟨ts,bs,T,?_,q2,q3,q4,q5⟩
 unfold S10 S17
 rw [n1,n2]
 simp only [Option.bind_some,Bool.not_true,cond_false]
 rw [e]
 exact hL
theorem ads {x:I4} (h:jm x=true) (h9:x.1=9):0 <= x.2.1:=by
 obtain ⟨a,b,c,d⟩:=x
 have h9':a=9:=h9
 subst h9'
 unfold jm at h
 simp [yg] at h
 exact h.1.1
theorem V6 {l:List I4} (h:qw l=true) (h9:∀ x∈l,x.1≠9):GD l:=by
 obtain ⟨t,h1,rfl,h2⟩:=IE h
 exact ⟨t,rfl,h1,h2,fun x hx=>h9 x (by unfold Tr.prog;rw [List.mem_append];exact .inl hx)⟩
theorem apL {t:fq} (hm:BJ t=0) (hz:qy t=false):GT t:=by
 obtain ⟨_,_,_,z4,z5,z6,z7,_⟩:=JW.1 hm
 unfold qy at hz
 rw [List.any_append,Bool.or_eq_false_iff] at hz
 have no:∀ l:List I4,qw l=true -> l.any OG=false -> ∀ x∈l,x.1≠9:=fun l hl hz x hx h9=>by
  obtain ⟨ps,g⟩:=uy.1 hl
  have h1:=ads (g.may x hx) h9
  rw [List.any_eq_false] at hz
  refine hz x hx ?_
  unfold OG
  rw [h9]
  simpa using h1
 refine ⟨V6 z4 (no _ z4 hz.1),?_,?_⟩
 ·rcases z5 with q | q
  ·exact .inl q
  ·exact .inr (V6 q (no _ q hz.2))
 ·rcases z6 with q | q
  ·exact .inl q
  ·refine .inr (V6 q fun x hx h9=>?_)
   unfold Yt at z7
   rw [List.any_eq_false] at z7
   exact z7 x hx (by rw [h9];rfl)
theorem anP {ts:List fq} (hr:zi ts=true) (hz:ts.any qy=false):∀ t∈ts,GT t:=fun t ht=>by
 rw [List.any_eq_false] at hz
 exact apL (UR hr t ht) (by simpa using hz t ht)
def runK (ap:Int) (ts:List fq) (bs:List vo) (js:List gu):gy:=(0,ap,ts,bs,true,false,false,js,jh,List.replicate ts.length 0,List.replicate ts.length false)
theorem akf {ap:Int} {ts:List fq} {bs:List vo} (hL:jl ts) (h8:ts.length <= 8) (hb:bs.length=ts.length) (hg:∀ t∈ts,GT t):KG (runK ap ts bs []) :=
 ⟨rfl,hL,h8,hb,by simp [runK],by simp [runK],hg,(fun j h=>by cases h),List.Pairwise.nil⟩
theorem ahB {ap:Int} {ts:List fq} {bs:List vo} (hL:jl ts) (h8:ts.length <= 8) (hb:bs.length=ts.length):KOK (yc ap ts bs jh) :=
 ⟨rfl,hL,by show bs.length <= 900;omega,by simp [yc],(fun j h=>by cases h),by simp [yc],by simp [yc]⟩
theorem AQ {R:Type} {L:Nat -> Int -> Option R} {n:Nat} {v:Option R} (hs:∀ (j i:Nat),i<n -> L (j+1) (i:Int)=L j ((i+1:Nat):Int)) (he:∀ j:Nat,L (j+1) (n:Int)=v):∀ (d i j:Nat),i+d=n -> d<j -> L j (i:Int)=v
 | 0,i,j,h,hj=>by
  obtain ⟨j',rfl⟩:∃ j',j=j'+1:=⟨j - 1,by omega⟩
  rw [show i=n by omega];exact he j'
 | d+1,i,j,h,hj=>by
  obtain ⟨j',rfl⟩:∃ j',j=j'+1:=⟨j - 1,by omega⟩
  rw [hs j' i (by omega)]
  exact AQ hs he d (i+1) j' (by omega) (by omega)
theorem RY {k:Nat} (hk:1000 <= k) {l:List Int} (h:l.length <= 900):S94 k l l=some ((true,()),()):=by
 unfold S94
 rw [bne_self_eq_false,cond_false]
 refine AQ (n:=l.length) (L:=fun j i=>QA k j l l i) (fun j i hi=>?_) (fun j=>?_) l.length 0 k (by omega) (by omega)
 ·show QA k (j+1) l l (i:Int)=_
  rw [abN,abM,Rj (by omega),Pw hi,Pw hi,bne_self_eq_false,cond_false,Me (by omega)]
 ·show QA k (j+1) l l (l.length:Int)=_
  rw [abN,abM,Rk (by omega)]
theorem acE {k:Nat} (hk:1000 <= k) {m:d9} (h:m.2.2.1.length <= 900):agG k m m=some ((true,()),()):=by
 unfold agG
 have e:∀ x:Mem,fC (Am 8 (.int .i64)) x x=true:=fun x=>by simp [fC,Am]
 rw [bne_self_eq_false,cond_false,e,beq_self_eq_true,bne_self_eq_false]
 simp only [Bool.not_true,cond_false]
 have e2:∀ x:dz,fC (.pair (.int .i64) (.pair (.int .i64) (.int .i64))) x x=true:=fun x=>by simp [fC]
 refine AQ (n:=m.2.2.1.length) (L:=fun j i=>JJ k j m.1 m.2.1.1 m.2.1.2.1 m.2.1.2.2.1 m.2.1.2.2.2.1 m.2.1.2.2.2.2.1 m.2.1.2.2.2.2.2.1 m.2.1.2.2.2.2.2.2.1 m.2.1.2.2.2.2.2.2.2 m.2.2.1 m.2.2.2 m.1 m.2.1.1 m.2.1.2.1 m.2.1.2.2.1 m.2.1.2.2.2.1 m.2.1.2.2.2.2.1 m.2.1.2.2.2.2.2.1 m.2.1.2.2.2.2.2.2.1 m.2.1.2.2.2.2.2.2.2 m.2.2.1 m.2.2.2 i) (fun j i hi=>?_) (fun j=>?_) m.2.2.1.length 0 k (by omega) (by omega)
 ·show JJ k (j+1) _ _ _ _ _ _ _ _ _ _ _ _ _ _ _ _ _ _ _ _ _ _ (i:Int)=_
  rw [WZ,Us,Rj (by omega),Pw hi,Pw hi,e2,Bool.not_true,cond_false,Me (by omega)]
 ·show JJ k (j+1) _ _ _ _ _ _ _ _ _ _ _ _ _ _ _ _ _ _ _ _ _ _ _=_
  rw [WZ,Us,Rk (by omega)]
theorem ahC {k:Nat} (hk:1000 <= k) {j:gu} (h:OY j):S91 k j j=some ((true,()),()):=by
 have h1:=h.m
 have h2:=h.kept
 unfold S91
 rw [beq_self_eq_true,beq_self_eq_true,beq_self_eq_true,beq_self_eq_true,beq_self_eq_true,acE hk (by omega),acE hk (by omega),RY hk (by rw [h.held];simp)]
 rfl
theorem adt {k:Nat} (hk:1000 <= k) {l:List gu} (h:l.length <= 900) (hj:∀ j∈l,OY j):S46 k l l=some ((true,()),()):=by
 unfold S46
 rw [bne_self_eq_false,cond_false]
 refine AQ (n:=l.length) (L:=fun j i=>QB k j l l i) (fun j i hi=>?_) (fun j=>?_) l.length 0 k (by omega) (by omega)
 ·show QB k (j+1) l l (i:Int)=_
  rw [abP,abO,Rj (by omega),Pw hi,Pw hi,Px,show l.getD i (0,0,0,0,(0,Pv (α:=Int) 8 0,[],false),(0,Pv (α:=Int) 8 0,[],false),[],false)=l.getD i j0 from rfl,ahC hk (hj _ (iq hi)),Option.bind_some,Me (by omega)]
  rfl
 ·show QB k (j+1) l l (l.length:Int)=_
  rw [abP,abO,Rk (by omega)]
theorem YH {k:Nat} (hk:1000 <= k) {r:List Int} {o:List Bool} (h1:r.length <= 900) (h2:o.length <= 900):S48 k (r,o) (r,o)=some ((true,()),()):=by
 unfold S48
 simp only [bne_self_eq_false,cond_false]
 rw [RY hk h1,Option.bind_some]
 simp only [Bool.not_true,cond_false]
 refine AQ (n:=o.length) (L:=fun j i=>QC k j r o r o i) (fun j i hi=>?_) (fun j=>?_) o.length 0 k (by omega) (by omega)
 ·show QC k (j+1) r o r o (i:Int)=_
  rw [abU,abT,Rj (by omega),Pw hi,Pw hi,beq_self_eq_true,Bool.not_true,cond_false,Me (by omega)]
 ·show QC k (j+1) r o r o (o.length:Int)=_
  rw [abU,abT,Rk (by omega)]
theorem ahD {k:Nat} (hk:1000 <= k):S47 k jh jh=some ((true,()),()):=by
 obtain ⟨k,rfl⟩:∃ m,k=m+1000:=⟨k - 1000,by omega⟩
 kernel_rfl
theorem V7 {k:Nat} (hk:1000 <= k) {l:List ig} (h:l.length <= 900):S22 k l l=some ((true,()),()):=by
 unfold S22
 rw [bne_self_eq_false,cond_false]
 have e:∀ x:ig,fC (Am 6 (.int .i64)) x x=true:=fun x=>by simp [fC,Am]
 refine AQ (n:=l.length) (L:=fun j i=>QD k j l l i) (fun j i hi=>?_) (fun j=>?_) l.length 0 k (by omega) (by omega)
 ·show QD k (j+1) l l (i:Int)=_
  rw [abW,abV,Rj (by omega),Pw hi,Pw hi,e,Bool.not_true,cond_false,Me (by omega)]
 ·show QD k (j+1) l l (l.length:Int)=_
  rw [abW,abV,Rk (by omega)]
theorem KW {k:Nat} (hk:1000 <= k) {K:gy} (h:KOK K):S14 k K K=some ((true,()),()):=by
 have h1:=h.jobs
 have h2:=YH hk h.rows h.off
 unfold S14
 rw [beq_self_eq_true,beq_self_eq_true,beq_self_eq_true,beq_self_eq_true,beq_self_eq_true,anw hk h.tasks,anx hk h.bounds,adt hk (by omega) h.job,h.tab,ahD hk,show S48 k K.2.2.2.2.2.2.2.2.2 K.2.2.2.2.2.2.2.2.2=_ from h2]
 rfl
theorem RZ {k:Nat} (hk:1000 <= k) {K:gy} (h:K.2.2.2.2.2.2.2.2.1=jh):S15 k K=some ((K,()),()):=by
 obtain ⟨now,ap,ts,bs,ru,ha,hi,js,T,w⟩:=K
 have e:T=jh:=h
 subst e
 unfold S15
 simp only
 rw [RG hk,Option.bind_some]
theorem BL {k:Nat} {js:List gu} {i:Nat} (h:i<js.length) (hl:js.length <= 900):S54 k js (i:Int)=some ((js.take i++js.drop (i+1),()),()):=by
 unfold S54
 rw [Rc (by omega) (by omega) (by omega),Rh (by simp [sub];omega),Me (by omega),Rc (by omega) (by omega) (by omega),Rh (by simp [sub];omega)]
 congr 3
 simp [sub]
theorem put_eq {k:Nat} {js:List gu} {i:Nat} {x:gu} (h:i<js.length) (hl:js.length <= 900):S61 k js (i:Int) x=some ((js.set i x,()),()):=by
 unfold S61
 rw [Rh (by simp;omega),List.nil_append,Pw h,Mf]
theorem DJ {k:Nat} (hk:1000 <= k):S40 k jh=some (([],()),()):=by
 obtain ⟨k,rfl⟩:∃ m,k=m+1000:=⟨k - 1000,by omega⟩
 kernel_rfl
theorem YI {k:Nat} (hk:1000 <= k):amW k jh=some ((jh,[],[],()),()):=by
 obtain ⟨k,rfl⟩:∃ m,k=m+1000:=⟨k - 1000,by omega⟩
 kernel_rfl
theorem GZ {k:Nat} (hk:1000 <= k) {now ap:Int} {ts:List fq} {bs:List vo} {ru ha hi:Bool} {js:List gu} {w:List Int×List Bool}:S42 k (now,ap,ts,bs,ru,ha,hi,js,jh,w)=some (([],()),()):=by
 unfold S42
 simp only
 rw [DJ hk,Option.bind_some]
 obtain ⟨k,rfl⟩:∃ m,k=m+1:=⟨k - 1,by omega⟩
 simp only
 rw [aiU,afD,Rk (by simp)]
theorem FR {k:Nat} (hk:1000 <= k) {now ap:Int} {ts:List fq} {bs:List vo} {ru ha hi:Bool} {js:List gu} {w:List Int×List Bool} (l:List (Int×Int)):S43 k (now,ap,ts,bs,ru,ha,hi,js,jh,w) l=some (((now,ap,ts,bs,ru,ha,hi,js,jh,w),()),()):=by
 unfold S43
 simp only
 rw [DJ hk,Option.bind_some]
 obtain ⟨k,rfl⟩:∃ m,k=m+1:=⟨k - 1,by omega⟩
 simp only
 rw [aiV,afH,Rk (by simp)]
theorem XH {k:Nat} (hk:1000 <= k) (t:Int):af9 k [] t=some (([],()),()):=by
 unfold af9
 rw [Rh (by simp)]
 obtain ⟨k,rfl⟩:∃ m,k=m+1:=⟨k - 1,by omega⟩
 rw [af8,Yg,Rk (by simp)]
 rfl
theorem OO {k:Nat} (hk:1000 <= k) (s:List (Int×Int)) (t:Int):acW k s [] t=some ((0,false,()),()):=by
 unfold acW
 obtain ⟨k,rfl⟩:∃ m,k=m+1:=⟨k - 1,by omega⟩
 rw [agp,Yi,Rk (by simp)]
theorem ahE {k:Nat} {j:gu} {n:Int} (hn:0 <= n /\ n <= 1000) (ht:0 <= j.1 /\ j.1 <= 1000):acX k j n=some (((qz n j).1,()),()):=by
 unfold acX qz
 cases j.2.2.2.1==2 with
 | true =>
  simp only [cond_true]
  rw [Ua (n:=2 * n) (by omega) (by omega),Ua (by omega) (by omega),show 2 * n=n+n by omega]
 | false =>
  simp only [cond_false]
  cases j.2.2.2.2.2.2.2 with
  | true=>rfl
  | false =>
   simp only [cond_false]
   rw [Ua (by omega) (by omega)]
theorem XI {k:Nat} (hk:1000 <= k) {j:gu} (h:OY j) {n:Int} (hn:0 <= n /\ n <= 1000) (ht:0 <= j.1 /\ j.1 <= 1000):agq k j n []=some (((qz n j).1,()),()):=by
 unfold agq
 rw [h.held,OO hk,Option.bind_some]
 simp only [cond_false]
 rw [ahE hn ht,Option.bind_some]
theorem adu {k:Nat} (hk:1000 <= k) {a b:gu} (h1:OY a) (h2:OY b) {n:Int} (hn:0 <= n /\ n <= 1000) (ht:0 <= a.1 /\ a.1 <= 1000) (ht2:0 <= b.1 /\ b.1 <= 1000):ai9 k a b n []=some ((decide (IQ (qz n a) (qz n b)<0),()),()):=by
 unfold ai9
 rw [XI hk h1 hn ht,XI hk h2 hn ht2,h1.held,h2.held,OO hk,OO hk]
 simp only [Option.bind_some,beq_self_eq_true,Bool.not_true,cond_false]
 have c:∀ x y:Int,(DX x y != 0)=(x != y):=fun x y=>by
  rw [Bool.eq_iff_iff,bne_iff_ne,bne_iff_ne,ne_eq,ne_eq,RJ]
 have lt:∀ x y:Int,decide (DX x y<0)=decide (x<y):=fun x y=>by
  unfold DX
  by_cases q:x<y
  ·rw [Rj q];simp [q]
  ·rw [Rk q]
   by_cases q2:x>y
   ·rw [Rj q2];simp [q]
   ·rw [Rk q2];simp [q]
 unfold IQ
 rw [c,c]
 show (bif (qz n a).1 != (qz n b).1 then _ else _)=_
 cases (qz n a).1 != (qz n b).1 with
 | true=>rw [cond_true,cond_true,lt]
 | false =>
  rw [cond_false,cond_false,show ((qz n a).2.1 != (qz n b).2.1)=false from rfl,cond_false,lt];rfl
theorem ahF {k:Nat} (hk:1000 <= k) {n:Int} (hn:0 <= n /\ n <= 1000) {js:List gu} (hl:js.length <= 900) (hj:∀ j∈js,OY j /\ 0 <= j.1 /\ j.1 <= 1000):aja k js n []=some ((((sj js n:Nat):Int),!(js.isEmpty),()),()):=by
 have key:∀ (d i j m:Nat),i+d=js.length -> d<j -> m<i -> JH k j js n [] (m:Int) (i:Int)=some ((((K5 (js.map (qz n)) d i m:Nat):Int),true,()),()):=by
  intro d
  induction d with
  | zero =>
   intro i j m h hj2 hm
   obtain ⟨j',rfl⟩:∃ j',j=j'+1:=⟨j - 1,by omega⟩
   rw [NG,ND,Rk (by omega),K5,show mx (m:Int) 0=(m:Int) by unfold mx;split <;> omega,decide_eq_true (show (m:Int)≥0 by omega)]
  | succ d ih =>
   intro i j m h hj2 hm
   obtain ⟨j',rfl⟩:∃ j',j=j'+1:=⟨j - 1,by omega⟩
   have hi:i<js.length:=by omega
   have hm2:m<js.length:=by omega
   have a1:=hj _ (iq (z:=j0) hi)
   have a2:=hj _ (iq (z:=j0) hm2)
   rw [NG,ND,Rj (by omega),Rk (by omega),Pw hi,Pw hm2,Px,Px,show js.getD i (0,0,0,0,(0,Pv (α:=Int) 8 0,[],false),(0,Pv (α:=Int) 8 0,[],false),[],false)=js.getD i j0 from rfl,show js.getD m (0,0,0,0,(0,Pv (α:=Int) 8 0,[],false),(0,Pv (α:=Int) 8 0,[],false),[],false)=js.getD m j0 from rfl,adu hk a1.1 a2.1 hn a1.2 a2.2,Option.bind_some,Me (by omega),K5,ER j0 _ hi,ER j0 _ hm2]
   simp only
   by_cases c:IQ (qz n (js.getD i j0)) (qz n (js.getD m j0))<0
   ·rw [decide_eq_true c,cond_true,if_pos c];exact ih (i+1) j' i (by omega) (by omega) (by omega)
   ·rw [decide_eq_false c,cond_false,if_neg c];exact ih (i+1) j' m (by omega) (by omega) (by omega)
 unfold aja sj
 obtain ⟨k',hk'⟩:∃ m,k=m+1:=⟨k - 1,by omega⟩
 conv=>lhs;rw [show ∀ a b c d e,JH k k a b c d e=JH k (k'+1) a b c d e from fun a b c d e=>by rw [<- hk']]
 rw [NG,ND]
 cases js with
 | nil=>rfl
 | cons x l =>
  rw [Rj (by simp only [List.length_cons];omega),Rj (by omega)]
  have:=key l.length 1 k' 0 (by simp only [List.length_cons];omega) (by simp only [List.length_cons] at hl;omega) (by omega)
  refine Eq.trans this ?_
  rw [show (x::l).length=l.length+1 from rfl,K5,if_neg (by rw [K7];omega)]
  rfl
theorem ahG {k:Nat} (hk:1000 <= k) {rows:List Int} {off:List Bool} {n:Nat} (h1:n<rows.length) (h2:n<off.length) (h3:rows.length <= 900) (h4:off.length <= 900) :
  ai4 k (rows,off) (n:Int)=some (((kr rows off n).1,(kr rows off n).2.1,(kr rows off n).2.2,()),()):=by
 have key:∀ (x:List Int) (a:List Bool),a.length <= 900 -> NC k k x a 0=some (((x,a),true,!a.any (fun b=>false==b),()),()):=fun x a ha=>by
  have go:∀ (d i j:Nat),i+d=a.length -> d<j -> NC k j x a (i:Int)=some (((x,a),true,!(a.drop i).any (fun b=>false==b),()),()):=by
   intro d
   induction d with
   | zero =>
    intro i j h hj
    obtain ⟨j',rfl⟩:∃ j',j=j'+1:=⟨j - 1,by omega⟩
    rw [WS,U7,Rk (by omega),drop_nil (by omega)];rfl
   | succ d ih =>
    intro i j h hj
    obtain ⟨j',rfl⟩:∃ j',j=j'+1:=⟨j - 1,by omega⟩
    have hi:i<a.length:=by omega
    rw [WS,U7,Rj (by omega),Pw hi,Px,Me (by omega),drop_cons false hi,List.any_cons,ih (i+1) j' (by omega) (by omega)]
    cases a.getD i false <;> rfl
  have:=go a.length 0 k (by omega) (by omega)
  rwa [List.drop_zero] at this
 have hs:∀ v:Int,n<(rows.set n v).length:=fun v=>by rw [List.length_set];exact h1
 unfold ai4
 simp only
 rw [Rh (by simp;omega),Rh (by simp;omega),List.nil_append,List.nil_append,Rk (by omega),Rk (by omega),Rk (by omega),Pw h1,Pw h1,Px,Mf,Pw (hs _),Px,oz,if_pos ⟨rfl,h1⟩,Pw h2,Px,Pw h2,Mf,key _ _ (by rw [List.length_set];omega)]
 unfold kr
 cases (IntKind.i64.wrap (rows.getD n 0+1) != 2) with
 | true=>rfl
 | false=>cases off.getD n false <;> rfl
theorem IY {k:Nat} (hk:1000 <= k) {now ap:Int} {ts:List fq} {bs:List vo} {ru hi:Bool} (hts:ts.length <= 900):∀ (rest:List gu) (j:Nat) (s:adj),rest.length<j -> s.1.length+rest.length <= 800 -> (∀ x∈rest,0 <= x.1 /\ x.1<(ts.length:Int)) -> s.2.1.length+3 * rest.length <= 3000 -> s.2.2.1.length=ts.length -> s.2.2.2.1.length=ts.length ->
  abk k j now ap ts bs ru s.2.2.2.2 hi (s.1++rest) jh.1.1 jh.1.2 jh.2 s.2.2.1 s.2.2.2.1 0 0 false false false s.2.1 (s.1.length:Int) =
   some (((now,ap,ts,bs,ru,(rest.foldl (uo now ts) s).2.2.2.2,hi,(rest.foldl (uo now ts) s).1,jh,(rest.foldl (uo now ts) s).2.2.1,(rest.foldl (uo now ts) s).2.2.2.1),(rest.foldl (uo now ts) s).2.1,()),())
 | [],j,s,hj,h1,hb,h2,h3,h4=>by
  obtain ⟨j',rfl⟩:∃ j',j=j'+1:=⟨j - 1,by omega⟩
  rw [abl,abj,Rk (by simp),List.append_nil]
  rfl
 | x::rest,j,s,hj,h1,hb,h2,h3,h4=>by
  obtain ⟨j',rfl⟩:∃ j',j=j'+1:=⟨j - 1,by omega⟩
  simp only [List.length_cons] at hj h1 h2
  have hbx:=hb x (by simp)
  have hbr:∀ y∈rest,0 <= y.1 /\ y.1<(ts.length:Int):=fun y hy=>hb y (by simp [hy])
  obtain ⟨n,hn⟩:∃ n:Nat,x.1=(n:Int):=⟨x.1.toNat,by omega⟩
  have htn:x.1.toNat=n:=by omega
  have hn2:n<ts.length:=by omega
  have hlen:s.1.length<(s.1++x::rest).length:=by simp
  have hx:rd (s.1++x::rest) (s.1.length:Int) (0,0,0,0,(0,Pv (α:=Int) 8 0,[],false),(0,Pv (α:=Int) 8 0,[],false),[],false)=x:=by
   rw [Px,jq (Nat.le_refl _),Nat.sub_self];rfl
  have hw:S54 k (s.1++x::rest) (s.1.length:Int)=some ((s.1++rest,()),()):=by
   rw [BL hlen (by simp;omega)]
   simp
  have hmw:=K3 s.2.2.1 s.2.2.2.1 n
  rw [abl,abj,Rj (by omega),Pw hlen,List.foldl_cons]
  simp only [hx]
  rw [hn,Pw hn2,Px,show ts.getD n (0,0,0,[],[],[])=ts.getD n t0 from rfl,Me (by omega),hw]
  cases hc:IntKind.i64.wrap (now - x.2.1) != (ts.getD n t0).2.2.1 with
  | true =>
   have e:uo now ts s x=(s.1++[x],s.2):=by unfold uo;rw [htn,hc,cond_true]
   rw [cond_true,e]
   have ih:=IY hk (ap:=ap) (bs:=bs) (ru:=ru) (hi:=hi) (now:=now) hts rest j' (s.1++[x],s.2) (by omega) (by simp only [List.length_append,List.length_cons,List.length_nil];omega) hbr (by simp only;omega) h3 h4
   rw [List.append_assoc,List.singleton_append,show (s.1++[x]).length=s.1.length+1 by simp] at ih
   exact ih
  | false =>
   rw [cond_false,Option.bind_some]
   cases hp:x.2.2.2.1==2 with
   | true =>
    have e:uo now ts s x=(s.1,s.2.1++[(now,13,(n:Int),0,0,0)],s.2.2.1,s.2.2.2.1,s.2.2.2.2):=by unfold uo;rw [htn,hc,cond_false,hp,cond_true,hn]
    rw [cond_true,Rh (by simp only [List.length_cons,List.length_nil];omega),e]
    exact IY hk hts rest j' (s.1,s.2.1++[(now,13,(n:Int),0,0,0)],s.2.2.1,s.2.2.2.1,s.2.2.2.2) (by omega) (by simp only;omega) hbr (by simp only [List.length_append,List.length_cons,List.length_nil];omega) h3 h4
   | false =>
    have e:uo now ts s x=(s.1,s.2.1++GA now n (kr s.2.2.1 s.2.2.2.1 n).2,(kr s.2.2.1 s.2.2.2.1 n).1.1,(kr s.2.2.1 s.2.2.2.1 n).1.2,s.2.2.2.2||(kr s.2.2.1 s.2.2.2.1 n).2.2):=by unfold uo;rw [htn,hc,cond_false,hp,cond_false,hn]
    have hm:=K4 now n (kr s.2.2.1 s.2.2.2.1 n).2
    have hl:S42 k (now,ap,ts,bs,ru,s.2.2.2.2,hi,s.1++rest,((jh.1.1,jh.1.2),jh.2),s.2.2.1,s.2.2.2.1)=some (([],()),()):=GZ hk
    have hwl:S43 k (now,ap,ts,bs,ru,s.2.2.2.2,hi,s.1++rest,((jh.1.1,jh.1.2),jh.2),s.2.2.1,s.2.2.2.1) []=_:=FR hk []
    rw [cond_false,Rh (by simp only [List.length_cons,List.length_nil];omega),hl,Option.bind_some]
    simp only
    rw [XH hk,Option.bind_some]
    simp only
    rw [hwl,Option.bind_some]
    simp only
    rw [ahG hk (by omega) (by omega) (by omega) (by omega),Option.bind_some,e]
    have ih:=IY hk (ap:=ap) (bs:=bs) (ru:=ru) (hi:=hi) (now:=now) hts rest j' (s.1,s.2.1++GA now n (kr s.2.2.1 s.2.2.2.1 n).2,(kr s.2.2.1 s.2.2.2.1 n).1.1,(kr s.2.2.1 s.2.2.2.1 n).1.2,s.2.2.2.2||(kr s.2.2.1 s.2.2.2.1 n).2.2) (by omega) (by simp only;omega) hbr (by simp only [List.length_append];omega) (by simp only;omega) (by simp only;omega)
    refine Eq.trans ?_ ih
    unfold GA U8
    simp only
    cases (kr s.2.2.1 s.2.2.2.1 n).2.1 with
    | true =>
     rw [cond_true,Rh (by simp only [List.length_append,List.length_cons,List.length_nil];omega)]
     cases (kr s.2.2.1 s.2.2.2.1 n).2.2 with
     | true =>
      rw [cond_true,Rh (by simp only [List.length_append,List.length_cons,List.length_nil];omega)]
      simp
     | false=>simp
    | false =>
     rw [cond_false]
     cases (kr s.2.2.1 s.2.2.2.1 n).2.2 with
     | true =>
      rw [cond_true,Rh (by simp only [List.length_append,List.length_cons,List.length_nil];omega)]
      simp
     | false=>simp
theorem ahH {k:Nat} (hk:1000 <= k) {now ap:Int} {ts:List fq} {bs:List vo} {ru ha hi:Bool} {js:List gu} {rows:List Int} {off:List Bool} (hl:js.length <= 800) (hjs:∀ j∈js,0 <= j.1 /\ j.1<(ts.length:Int)) (hts:ts.length <= 900) (hr:rows.length=ts.length) (ho:off.length=ts.length) :
  S60 k (now,ap,ts,bs,ru,ha,hi,js,jh,rows,off)=some (((now,ap,ts,bs,ru,(xw now ts js rows off ha).2.2.2.2,hi,(xw now ts js rows off ha).1,jh,(xw now ts js rows off ha).2.2.1,(xw now ts js rows off ha).2.2.2.1),(xw now ts js rows off ha).2.1,()),()):=by
 unfold S60
 exact IY hk (ap:=ap) (bs:=bs) (ru:=ru) (hi:=hi) (now:=now) hts js k ([],[],rows,off,ha) (by omega) (by simp;omega) hjs (by simp;omega) hr ho
theorem adv {k:Nat} (hk:1000 <= k) {now ap:Int} {ts:List fq} {bs:List vo} {ru ha hi:Bool} {js:List gu} {rows:List Int} {off:List Bool}:S62 k (now,ap,ts,bs,ru,ha,hi,js,jh,rows,off)=some (((now,ap,ts,bs,ru,ha,hi,js,jh,rows,off),[],()),()):=by
 unfold S62
 simp only
 rw [DJ hk,Option.bind_some,YI hk,Option.bind_some]
 obtain ⟨k,rfl⟩:∃ m,k=m+1:=⟨k - 1,by omega⟩
 simp only
 rw [ai6,agl,Rk (by simp)]
theorem ahI {k:Nat} {t:fq} {j:gu}:acY k t j=some ((EP t j,()),()):=by
 unfold acY S71 EP
 cases j.2.2.2.1==0 with
 | false=>rfl
 | true=>cases decide ((t.2.2.2.2.1.length:Int)>0) <;> rfl
theorem akg {k:Nat} (hk:1000 <= k) {t:fq} {j:gu} (now:Int) (rows:List Int):ajb k t j []=some (((yj now t j rows).1,[],(bif j.2.2.2.1==2 then 13 else bif (j.2.2.2.1==0)&&decide ((t.2.2.2.2.1.length:Int)>0) then 7 else 6),()),()):=by
 unfold ajb yj
 rw [XH hk,ahI]
 cases j.2.2.2.1==2 with
 | true=>rfl
 | false =>
  cases j.2.2.2.1==0 with
  | false=>rfl
  | true=>cases decide ((t.2.2.2.2.1.length:Int)>0) <;> rfl
theorem ahJ {k:Nat} (hk:1000 <= k) {l:List I4} {m:d9} (h:MOK l m):S72 k l m=some ((stepM l m,o8 l m,true,()),()):=by
 obtain ⟨pc,mem,rs,ov⟩:=m
 obtain ⟨n,rfl⟩:∃ n:Nat,pc=(n:Int):=⟨pc.toNat,by have:0 <= pc:=h.pc.1;omega⟩
 have ho:ov=false:=h.on
 subst ho
 have e:=anl hk (l:=l) (n:=n) (mem:=mem) (R:=rs.reverse) h.len (by have:(n:Int).toNat<l.length:=h.pc.2;omega) h.may (by rw [List.length_reverse];exact h.anF) (fun r hr=>h.bound r (List.mem_reverse.1 hr)) h.mem
 rw [List.reverse_reverse] at e
 exact e
theorem ahK {k:Nat} {t:fq} {j:gu} (hp:0 <= j.2.2.2.1 /\ j.2.2.2.1 <= 2):ajc k t j=some ((zw t j.2.2.2.1,()),()):=by
 unfold ajc zw
 by_cases h0:j.2.2.2.1=0
 ·rw [h0];rfl
 ·rw [beq_eq_false_iff_ne.2 h0,cond_false,cond_false]
  by_cases h1:j.2.2.2.1=1
  ·rw [h1];rfl
  ·rw [beq_eq_false_iff_ne.2 h1,cond_false,cond_false,show j.2.2.2.1=2 by omega];rfl
theorem anQ {k:Nat} (hk:1000 <= k) {ts:List fq} {j:gu} (h:XA ts j) :
  ajh k (ts.getD j.1.toNat t0) j=some ((OP (ts.getD j.1.toNat t0) j,o8 (zw (ts.getD j.1.toNat t0) j.2.2.2.1) j.2.2.2.2.1,true,()),()):=by
 have hp:=h.m.plain
 unfold ajh
 rw [ahK h.phase,Option.bind_some,ahJ hk h.m,Option.bind_some]
 simp only [Bool.not_true,cond_false]
 rw [h.ok.held,Rh (by simp)]
 rw [beq_eq_false_iff_ne.2 hp.1,beq_eq_false_iff_ne.2 hp.2,cond_false,cond_false]
 unfold OP
 have hh:=h.ok.held
 cases (o8 (zw (ts.getD j.1.toNat t0) j.2.2.2.1) j.2.2.2.2.1).1==11 with
 | true =>
  rw [cond_true,cond_true,List.nil_append,show j.2.2.2.2.2.2=(j.2.2.2.2.2.2.1,j.2.2.2.2.2.2.2) from rfl,hh]
 | false =>
  rw [cond_false,cond_false,List.nil_append,show j.2.2.2.2.2.2=(j.2.2.2.2.2.2.1,j.2.2.2.2.2.2.2) from rfl,hh]
theorem ahL {k:Nat} {r:List Int} {o:List Bool} {n:Nat} (h1:r.length <= 900) (h2:o.length <= 900) (h:n<r.length):agw k (r,o) (n:Int)=some (((r.set n 0,o),()),()):=by
 unfold agw
 simp only
 rw [Rh (by simp;omega),Rh (by simp;omega),List.nil_append,List.nil_append,Rj (by omega),Rj (by omega),Pw h,Mf]
theorem akh {k:Nat} {j:gu}:agx k j=some ((OI j,()),()):=by
 unfold agx S71 OI OH
 rfl
theorem GH {α:Type} {l:List α} {i:Nat} {x:α}:(l.set i x).take i++(l.set i x).drop (i+1)=l.take i++l.drop (i+1):=by
 rw [List.take_set_of_le (by omega),List.drop_set_of_lt (by omega)]
theorem ahM {k:Nat} (hk:1000 <= k) {now ap:Int} {ts:List fq} {bs:List vo} {ru ha hi:Bool} {js:List gu} {rows:List Int} {off:List Bool} (h8:ts.length <= 8) (hj:∀ j∈js,XA ts j) (hl:js.length <= 8) (hr:rows.length=ts.length) (ho:off.length <= 900) :
  S63 k (now,ap,ts,bs,ru,ha,hi,js,jh,rows,off)=some (((now,ap,ts,bs,ru,ha,hi,(bif js.isEmpty then js else (vv now ts js rows hi).1),jh,(bif js.isEmpty then rows else (vv now ts js rows hi).2.2),off),(bif js.isEmpty then [] else (vv now ts js rows hi).2.1),()),()):=by
 have hlk:S42 k (now,ap,ts,bs,ru,ha,hi,js,jh,rows,off)=some (([],()),()):=GZ hk
 unfold S63
 rw [hlk,Option.bind_some]
 simp only
 rw [ahF hk ⟨by omega,by omega⟩ (by omega) (fun j h=>⟨(hj j h).ok,by have:=(hj j h).task;omega⟩),Option.bind_some]
 simp only
 cases hem:js.isEmpty with
 | true=>rfl
 | false =>
  have h0:0<js.length:=by cases js with | nil=>simp at hem | cons a l=>simp
  have hmin:sj js (ts.length:Int)<js.length:=by
   have:=IU (l:=js.map (qz (ts.length:Int))) js.length 0 0 (by simp) (by simpa using h0)
   simpa [sj] using this
  have hin:=hj _ (iq (z:=j0) hmin)
  simp only [Bool.not_false,Bool.not_true,cond_false]
  unfold vv
  simp only
  generalize sj js (ts.length:Int)=i at hmin hin ⊢
  rw [Pw hmin]
  rw [show rd js (i:Int) (0,0,0,0,(0,Pv (α:=Int) 8 0,[],false),(0,Pv (α:=Int) 8 0,[],false),[],false)=js.getD i j0 from rfl]
  generalize js.getD i j0=j at hin ⊢
  have ht:=hin.task
  rw [Lf ht.1 ht.2]
  rw [show rd ts j.1 (0,0,0,[],[],[])=ts.getD j.1.toNat t0 from rfl]
  have hg:=anQ hk hin
  have hp:=hin.m.plain
  obtain ⟨n,hn⟩:∃ n:Nat,j.1=(n:Int):=⟨j.1.toNat,by omega⟩
  cases hi with
  | true =>
   simp only [cond_true]
   rw [Option.bind_some]
   simp only
   rw [akg hk now rows,Option.bind_some]
   simp only
   rw [FR hk,Option.bind_some]
   simp only
   rw [BL hmin (by omega),put_eq hmin (by omega),Option.bind_some,Option.bind_some]
   generalize ts.getD j.1.toNat t0=t
   unfold yj
   cases hph:j.2.2.2.1==2 with
   | true =>
    simp only [cond_true]
    rw [show ((13:Int)==13)=true from rfl,cond_true,Rh (by simp)]
    rfl
   | false =>
    simp only [cond_false]
    cases (j.2.2.2.1==0)&&decide ((t.2.2.2.2.1.length:Int)>0) with
    | true =>
     simp only [cond_true]
     rw [show ((7:Int)==13)=false from rfl,cond_false,Rh (by simp)]
     rfl
    | false =>
     simp only [cond_false]
     rw [show ((6:Int)==13)=false from rfl,cond_false,Rh (by simp)]
     rfl
  | false =>
   simp only [cond_false]
   rw [hg,Option.bind_some]
   simp only
   rw [Option.bind_some]
   simp only
   rw [beq_eq_false_iff_ne.2 hp.1,cond_false]
   unfold Un
   rw [beq_eq_false_iff_ne.2 hp.2,cond_false]
   unfold Um
   have hwl:S43 k (now,ap,ts,bs,ru,ha,false,js,((jh.1.1,jh.1.2),jh.2),rows,off) []=_:=FR hk []
   rw [hwl,Option.bind_some]
   simp only
   have hget:(ts.getD j.1.toNat t0)=ts.getD n t0:=by rw [hn,Int.toNat_natCast]
   have hgt:(OP (ts.getD j.1.toNat t0) j).1=j.1 /\ (OP (ts.getD j.1.toNat t0) j).2.2.2.1=j.2.2.2.1:=⟨rfl,rfl⟩
   generalize hx:OP (ts.getD j.1.toNat t0) j=x at hgt ⊢
   have hput:S61 k js (i:Int) (x.1,x.2.1,x.2.2.1,x.2.2.2.1,(x.2.2.2.2.1.1,(x.2.2.2.2.1.2.1.1,x.2.2.2.2.1.2.1.2.1,x.2.2.2.2.1.2.1.2.2.1,x.2.2.2.2.1.2.1.2.2.2.1,x.2.2.2.2.1.2.1.2.2.2.2.1,x.2.2.2.2.1.2.1.2.2.2.2.2.1,x.2.2.2.2.1.2.1.2.2.2.2.2.2.1,x.2.2.2.2.1.2.1.2.2.2.2.2.2.2),x.2.2.2.2.1.2.2.1,x.2.2.2.2.1.2.2.2),(x.2.2.2.2.2.1.1,(x.2.2.2.2.2.1.2.1.1,x.2.2.2.2.2.1.2.1.2.1,x.2.2.2.2.2.1.2.1.2.2.1,x.2.2.2.2.2.1.2.1.2.2.2.1,x.2.2.2.2.2.1.2.1.2.2.2.2.1,x.2.2.2.2.2.1.2.1.2.2.2.2.2.1,x.2.2.2.2.2.1.2.1.2.2.2.2.2.2.1,x.2.2.2.2.2.1.2.1.2.2.2.2.2.2.2),x.2.2.2.2.2.1.2.2.1,x.2.2.2.2.2.1.2.2.2),x.2.2.2.2.2.2.1,x.2.2.2.2.2.2.2)=some ((js.set i x,()),()):=put_eq hmin (by omega)
   rw [hput,Option.bind_some]
   simp only
   unfold BK
   rw [hx]
   cases hov:x.2.2.2.2.1.2.2.2 with
   | false=>rfl
   | true =>
    simp only [Bool.not_true,cond_false,cond_true]
    have hset:i<(js.set i x).length:=by rw [List.length_set];exact hmin
    have hsl:(js.set i x).length <= 900:=by rw [List.length_set];omega
    unfold IL
    rw [hgt.2]
    cases hph:j.2.2.2.1==2 with
    | true =>
     simp only [cond_true]
     rw [BL hset hsl,Option.bind_some,Rh (by simp),GH,hgt.1]
     rfl
    | false =>
     simp only [cond_false]
     rw [Rh (by simp)]
     have last:∀ ev:List ig,JI k now ap ts bs ru ha false (js.set i x) jh.1.1 jh.1.2 jh.2 rows off 0 0 false false false (i:Int) j.1 j.2.1 j.2.2.1 j.2.2.2.1 j.2.2.2.2.1.1 j.2.2.2.2.1.2.1.1 j.2.2.2.2.1.2.1.2.1 j.2.2.2.2.1.2.1.2.2.1 j.2.2.2.2.1.2.1.2.2.2.1 j.2.2.2.2.1.2.1.2.2.2.2.1 j.2.2.2.2.1.2.1.2.2.2.2.2.1 j.2.2.2.2.1.2.1.2.2.2.2.2.2.1 j.2.2.2.2.1.2.1.2.2.2.2.2.2.2 j.2.2.2.2.1.2.2.1 j.2.2.2.2.1.2.2.2 j.2.2.2.2.2.1.1 j.2.2.2.2.2.1.2.1.1 j.2.2.2.2.2.1.2.1.2.1 j.2.2.2.2.2.1.2.1.2.2.1 j.2.2.2.2.2.1.2.1.2.2.2.1 j.2.2.2.2.2.1.2.1.2.2.2.2.1 j.2.2.2.2.2.1.2.1.2.2.2.2.2.1 j.2.2.2.2.2.1.2.1.2.2.2.2.2.2.1 j.2.2.2.2.2.1.2.1.2.2.2.2.2.2.2 j.2.2.2.2.2.1.2.2.1 j.2.2.2.2.2.1.2.2.2 j.2.2.2.2.2.2.1 j.2.2.2.2.2.2.2 (ts.getD j.1.toNat t0).1 (ts.getD j.1.toNat t0).2.1 (ts.getD j.1.toNat t0).2.2.1 (ts.getD j.1.toNat t0).2.2.2.1 (ts.getD j.1.toNat t0).2.2.2.2.1 (ts.getD j.1.toNat t0).2.2.2.2.2 ev j.1 x.2.1 x.2.2.1 j.2.2.2.1 x.2.2.2.2.1.1 x.2.2.2.2.1.2.1.1 x.2.2.2.2.1.2.1.2.1 x.2.2.2.2.1.2.1.2.2.1 x.2.2.2.2.1.2.1.2.2.2.1 x.2.2.2.2.1.2.1.2.2.2.2.1 x.2.2.2.2.1.2.1.2.2.2.2.2.1 x.2.2.2.2.1.2.1.2.2.2.2.2.2.1 x.2.2.2.2.1.2.1.2.2.2.2.2.2.2 x.2.2.2.2.1.2.2.1 true x.2.2.2.2.2.1.1 x.2.2.2.2.2.1.2.1.1 x.2.2.2.2.2.1.2.1.2.1 x.2.2.2.2.2.1.2.1.2.2.1 x.2.2.2.2.2.1.2.1.2.2.2.1 x.2.2.2.2.2.1.2.1.2.2.2.2.1 x.2.2.2.2.2.1.2.1.2.2.2.2.2.1 x.2.2.2.2.2.1.2.1.2.2.2.2.2.2.1 x.2.2.2.2.2.1.2.1.2.2.2.2.2.2.2 x.2.2.2.2.2.1.2.2.1 x.2.2.2.2.2.1.2.2.2 x.2.2.2.2.2.2.1 x.2.2.2.2.2.2.2 =
       some (((now,ap,ts,bs,ru,ha,false,(bif ((ts.getD j.1.toNat t0).2.2.2.2.2.length:Int)==0 then js.take i++js.drop (i+1) else js.set i (OI x)),jh,rows.set j.1.toNat 0,off),ev,()),()):=fun ev=>by
      unfold JI
      have hgd:agw k (rows,off) j.1=some (((rows.set j.1.toNat 0,off),()),()):=by
       rw [hn,Int.toNat_natCast];exact ahL (by omega) ho (by omega)
      have aq9:agx k (j.1,x.2.1,x.2.2.1,j.2.2.2.1,x.2.2.2.2)=some ((OI x,()),()):=by
       rw [akh]
       unfold OI
       rw [hgt.1]
      rw [hgd,Option.bind_some]
      simp only
      generalize ts.getD j.1.toNat t0=t
      by_cases hop:(t.2.2.2.2.2.length:Int)>0
      ·rw [Rj hop,beq_eq_false_iff_ne.2 (by omega),cond_false]
       refine (congrArg (fun y=>Option.bind y _) aq9).trans ?_
       rw [Option.bind_some]
       simp only
       have hp2:S61 k (js.set i x) (i:Int) (OI x)=some (((js.set i x).set i (OI x),()),()):=put_eq hset hsl
       refine (congrArg (fun y=>Option.bind y _) hp2).trans ?_
       rw [Option.bind_some,List.set_set]
      ·rw [Rk hop,show ((t.2.2.2.2.2.length:Int)==0)=true by rw [beq_iff_eq];omega,cond_true,BL hset hsl,Option.bind_some,GH]
     have hwy:decide (((ts.getD j.1.toNat t0).2.2.2.2.1.length:Int)>0)=decide (((ts.getD j.1.toNat t0).2.2.2.2.1.length:Int)>0):=rfl
     rw [hgt.1]
     cases hw:decide (((ts.getD j.1.toNat t0).2.2.2.2.1.length:Int)>0) with
     | false =>
      rw [Bool.and_false]
      simp only [cond_false]
      refine (last _).trans ?_
      rfl
     | true =>
      simp only [cond_true,Bool.and_true]
      cases hp0:j.2.2.2.1==0 with
      | false =>
       simp only [cond_false]
       refine (last _).trans ?_
       rfl
      | true =>
       simp only [cond_true]
       rw [Rh (by simp)]
       refine (last _).trans ?_
       rfl
theorem XJ {k:Nat} (hk:1000 <= k) {a b:Int} {c:List fq} {e:List vo} {f h i:Bool} {l:List gu} {m:List Int} {n:List Bool} {o:List RF} {p:List Int} {s:List Bool} {t u:Int} {v w y:Bool} {now ap:Int} {ts:List fq} {bs:List vo} {ru ha hi:Bool} {js:List gu} {rows:List Int} {off:List Bool} {ev:List ig} (h8:ts.length <= 8) (hb:bs.length=ts.length) (hj:∀ j∈js,XA ts j /\ few j) (hl:js.length <= 8) (hr:rows.length=ts.length) (ho:off.length <= 900) (he:ev.length <= 10000):∀ (d x j:Nat),x+d=js.length -> d<j ->
  abA k j a b c e f h i l m n o p s t u v w y now ap ts bs ru ha hi ((js.take x).map (jk now bs)++js.drop x) jh.1.1 jh.1.2 jh.2 rows off ev (x:Int) =
   some (((IntKind.i64.wrap (now+1),ap,ts,bs,ru,ha,false,(bif ha||(js.map (jk now bs)).isEmpty then js.map (jk now bs) else (vv now ts (js.map (jk now bs)) rows hi).1),jh,(bif ha||(js.map (jk now bs)).isEmpty then rows else (vv now ts (js.map (jk now bs)) rows hi).2.2),off),ev++(bif ha||(js.map (jk now bs)).isEmpty then [] else (vv now ts (js.map (jk now bs)) rows hi).2.1),()),())
 | 0,x,j,hd,hjj=>by
  obtain ⟨j,rfl⟩:∃ i,j=i+1:=⟨j - 1,by omega⟩
  have ara:S62 k (now,ap,ts,bs,ru,ha,hi,js.map (jk now bs),((jh.1.1,jh.1.2),jh.2),rows,off)=_:=adv hk
  have hj2:∀ j∈js.map (jk now bs),XA ts j:=fun j hm=>by
   obtain ⟨z,hz,rfl⟩:=List.mem_map.1 hm
   exact (XD (hj z hz)).1
  have arb:=ahM (k:=k) (now:=now) (ap:=ap) (bs:=bs) (ru:=ru) (ha:=ha) (hi:=hi) hk h8 hj2 (by rw [List.length_map];exact hl) hr ho
  have hrl:(bif (js.map (jk now bs)).isEmpty then [] else (vv now ts (js.map (jk now bs)) rows hi).2.1).length <= 1000:=by
   cases (js.map (jk now bs)).isEmpty with
   | true=>simp
   | false =>
    rw [cond_false]
    unfold vv
    simp only
    cases hi with
    | true=>have:=(OJ now (ts.getD ((js.map (jk now bs)).getD (sj (js.map (jk now bs)) (ts.length:Int)) j0).1.toNat t0) ((js.map (jk now bs)).getD (sj (js.map (jk now bs)) (ts.length:Int)) j0) rows).2;simp only [List.length_cons,cond_true];omega
    | false=>have:=(K8 now (ts.getD ((js.map (jk now bs)).getD (sj (js.map (jk now bs)) (ts.length:Int)) j0).1.toNat t0) ((js.map (jk now bs)).getD (sj (js.map (jk now bs)) (ts.length:Int)) j0) rows).2;simp only [List.length_cons,cond_false];omega
  rw [abB,abz,Rk (by rw [UZ (by omega)];omega),drop_nil (by omega),List.take_of_length_le (by omega),List.append_nil,ara,Option.bind_some]
  simp only
  rw [Rh (by simp;omega),List.append_nil]
  cases ha with
  | true=>simp
  | false =>
   simp only [Bool.not_false,cond_true,Bool.false_or]
   rw [arb,Option.bind_some]
   simp only
   rw [Rh (by omega)]
 | d+1,x,j,hd,hjj=>by
  obtain ⟨j,rfl⟩:∃ i,j=i+1:=⟨j - 1,by omega⟩
  have hi':x<js.length:=by omega
  have htk:=(hj _ (iq (z:=j0) hi')).1.task
  obtain ⟨q,hq⟩:∃ q:Nat,(js.getD x j0).1=(q:Int):=⟨(js.getD x j0).1.toNat,by omega⟩
  have hn2:q<bs.length:=by omega
  have htn:(js.getD x j0).1.toNat=q:=by omega
  have hlen:((js.take x).map (jk now bs)++js.drop x).length=js.length:=UZ (by omega)
  have hg:((js.take x).map (jk now bs)++js.drop x).getD x (0,0,0,0,(0,Pv (α:=Int) 8 0,[],false),(0,Pv (α:=Int) 8 0,[],false),[],false)=js.getD x j0:=LZ j0 hi'
  have hst:=Xy (f:=jk now bs) j0 hi'
  have ih:=XJ hk (a:=a) (b:=b) (c:=c) (e:=e) (f:=f) (h:=h) (i:=i) (l:=l) (m:=m) (n:=n) (o:=o) (p:=p) (s:=s) (t:=t) (u:=u) (v:=v) (w:=w) (y:=y) (now:=now) (ap:=ap) (bs:=bs) (ru:=ru) (ha:=ha) (hi:=hi) h8 hb hj hl hr ho he d (x+1) j (by omega) (by omega)
  have hsame:jk now bs (js.getD x j0)=js.getD x j0 -> (js.take x).map (jk now bs)++js.drop x=(js.take (x+1)).map (jk now bs)++js.drop (x+1):=fun e=>by
   rw [<- hst,e]
   exact (by have:=zu (l:=(js.take x).map (jk now bs)++js.drop x) (n:=x) (z:=j0);rw [LZ j0 hi'] at this;exact this.symm)
  rw [abB,abz,Rj (by omega),Pw (by omega),Px,hg,hq,Pw hn2,Px,Me (by omega)]
  cases hp:(js.getD x j0).2.2.2.1 != 2 with
  | false=>rw [cond_false,hsame (by unfold jk;rw [hp,cond_false]),ih]
  | true =>
   rw [cond_true]
   by_cases hq2:IntKind.i64.wrap (now - (js.getD x j0).2.1)≥(bs.getD q (Pv (α:=Int) 5 0)).2.2.2.2
   ·have ep:jk now bs (js.getD x j0)=((q:Int),(js.getD x j0).2.1,(js.getD x j0).2.2.1,(js.getD x j0).2.2.2.1,(js.getD x j0).2.2.2.2.1,(js.getD x j0).2.2.2.2.2.1,(js.getD x j0).2.2.2.2.2.2.1,true):=by unfold jk;rw [hp,cond_true,htn,Rj hq2,hq]
    rw [Rj hq2,<- ep,put_eq (by omega) (by omega),Option.bind_some,hst]
    exact ih
   ·rw [Rk hq2,hsame (by unfold jk;rw [hp,cond_true,htn,Rk hq2]),ih]
theorem ahN {k:Nat} (hk:1000 <= k) {K:gy} (h:KI K):S24 k K=some (((ES K).1,(ES K).2,()),()):=by
 have hl8:=h.len
 obtain ⟨now,ap,ts,bs,ru,ha,hi,js,T,rows,off⟩:=K
 have e:T=jh:=h.tab
 subst e
 have h2:ts.length <= 8:=h.GV
 have h3:bs.length=ts.length:=h.bounds
 have h4:rows.length=ts.length:=h.rows
 have h5:off.length=ts.length:=h.off
 have h6:∀ j∈js,XA ts j /\ few j:=h.job
 have h8:js.length <= 8:=hl8
 unfold S24 ES
 simp only
 cases ru with
 | false=>rfl
 | true =>
  cases ha with
  | true=>rfl
  | false =>
   simp only [cond_true,Bool.not_false,Bool.and_self]
   rw [ahH hk (by omega) (fun j hj=>(h6 j hj).1.task) (by omega) h4 h5,Option.bind_some]
   simp only
   obtain ⟨l,g1,g2,g3,g4,g5⟩:=CS now ts js ([],[],rows,off,false)
   rw [show js.foldl (uo now ts) ([],[],rows,off,false)=xw now ts js rows off false from rfl] at g2 g3 g4 g5
   simp only [List.nil_append,List.length_nil] at g2 g3 g4 g5
   generalize xw now ts js rows off false=E at g2 g3 g4 g5 ⊢
   have hE:∀ j∈E.1,XA ts j /\ few j:=fun j hj=>h6 j (g1.subset (by rw [<- g2];exact hj))
   have hEl:E.1.length <= 8:=by rw [g2];have:=g1.length_le;omega
   have e:=XJ (k:=k) hk (a:=now) (b:=ap) (c:=ts) (e:=bs) (f:=true) (h:=false) (i:=hi) (l:=js) (m:=jh.1.1) (n:=jh.1.2) (o:=jh.2) (p:=rows) (s:=off) (t:=0) (u:=0) (v:=false) (w:=false) (y:=false) (now:=now) (ap:=ap) (ts:=ts) (bs:=bs) (ru:=true) (ha:=E.2.2.2.2) (hi:=hi) (js:=E.1) (rows:=E.2.2.1) (off:=E.2.2.2.1) (ev:=E.2.1) h2 h3 hE hEl (by omega) (by omega) (by omega) E.1.length 0 k (by omega) (by omega)
   rw [List.take_zero,List.map_nil,List.nil_append,List.drop_zero] at e
   refine Eq.trans e ?_
   cases E.2.2.2.2||(E.1.map (jk now bs)).isEmpty <;> rfl
theorem ahO {k:Nat} (hk:1000 <= k) {K:gy} (h:K.2.2.2.2.2.2.2.1.length <= 900) (p:Int):S53 k K p=some ((JK (fun j:gu=>j.1==p) K.2.2.2.2.2.2.2.1,()),()):=by
 unfold S53
 refine Ut (fun j i=>Q5 k j p K.1 K.2.1 K.2.2.1 K.2.2.2.1 K.2.2.2.2.1 K.2.2.2.2.2.1 K.2.2.2.2.2.2.1 K.2.2.2.2.2.2.2.1 K.2.2.2.2.2.2.2.2.1.1.1 K.2.2.2.2.2.2.2.2.1.1.2 K.2.2.2.2.2.2.2.2.1.2 K.2.2.2.2.2.2.2.2.2.1 K.2.2.2.2.2.2.2.2.2.2 i) K.2.2.2.2.2.2.2.1 j0 _ (fun j i hi=>?_) (fun j=>?_) k (by omega)
 ·show Q5 k (j+1) _ _ _ _ _ _ _ _ _ _ _ _ _ _ (i:Int)=_
  rw [aa1,aa0,Rj (by omega),Pw hi,Me (by omega),Px]
 ·show Q5 k (j+1) _ _ _ _ _ _ _ _ _ _ _ _ _ _ (K.2.2.2.2.2.2.2.1.length:Int)=_
  rw [aa1,aa0,Rk (by omega)]
theorem ahP {js:List gu} (hr:rising js) (p:Int):JK (fun j:gu=>j.1==p) js=bif decide (jg p js<js.length)&&(js.getD (jg p js) j0).1==p then ((jg p js:Nat):Int) else -1:=by
 have mono:∀ x y,x<y -> y<js.length -> (js.getD x j0).1<(js.getD y j0).1:=fun x y hxy hy=>by
  rw [getD_in (by omega),getD_in hy];exact List.pairwise_iff_getElem.1 hr x y (by omega) hy hxy
 have hle:=FP p js
 cases hc:decide (jg p js<js.length)&&(js.getD (jg p js) j0).1==p with
 | true =>
  rw [Bool.and_eq_true] at hc
  have c1:=of_decide_eq_true hc.1
  unfold JK
  have:js.findIdx? (fun j:gu=>j.1==p)=some (jg p js):=by
   rw [List.findIdx?_eq_some_iff_getElem]
   refine ⟨c1,by rw [<- getD_in (z:=j0) c1];exact hc.2,fun x hx=>?_⟩
   have:=AP p js x hx
   rw [getD_in (by omega)] at this
   intro q
   have:=eq_of_beq q
   omega
  rw [this];rfl
 | false =>
  unfold JK
  have:js.findIdx? (fun j:gu=>j.1==p)=none:=by
   rw [List.findIdx?_eq_none_iff]
   intro x hx
   obtain ⟨b,hb,eb⟩:=BD j0 hx
   rw [beq_eq_false_iff_ne]
   intro q
   rw [<- eb] at q
   by_cases h1:b<jg p js
   ·have:=AP p js b h1;omega
   ·have hs:=FQ p js (by omega)
    by_cases h2:b=jg p js
    ·rw [h2] at q hb
     rw [decide_eq_true hb,q] at hc
     simp at hc
    ·have:=mono (jg p js) b (by omega) hb;omega
  rw [this];rfl
theorem acF {k:Nat} (hk:1000 <= k) {p a:Int} {c e:Int} {f:List fq} {h:List vo} {i l m:Bool} {n:List gu} {o:List Int} {P:List Bool} {s:List RF} {t:List Int} {u:List Bool} {v w:Int} {y z A:Bool} {ev:List ig} {now ap:Int} {ts:List fq} {bs:List vo} {ru ha hi:Bool} {js:List gu} {g:List Int} {G:List Bool} {U:List RF} {rows:List Int} {off:List Bool} (hl:js.length <= 900) (he:ev.length <= 10):∀ (d x j:Nat),x+d=jg p js -> d<j ->
  MW k j p a c e f h i l m n o P s t u v w y z A ev now ap ts bs ru ha hi js g G U rows off (x:Int)=some (((now,ap,ts,bs,ru,ha,hi,js.take (jg p js)++[OZ p c a]++js.drop (jg p js),((g,G),U),rows,off),ev++[(c,1,p,0,a,0)],0,()),()):=by
 have hle:=FP p js
 have fin:MV k p a c e f h i l m n o P s t u v w y z A ev now ap ts bs ru ha hi js g G U rows off ((jg p js:Nat):Int)=some (((now,ap,ts,bs,ru,ha,hi,js.take (jg p js)++[OZ p c a]++js.drop (jg p js),((g,G),U),rows,off),ev++[(c,1,p,0,a,0)],0,()),()):=by
  unfold MV S55 S71
  have s1:sub js 0 ((jg p js:Nat):Int)=js.take (jg p js):=by simp [sub]
  have s2:sub js ((jg p js:Nat):Int) (js.length:Int)=js.drop (jg p js):=by simp [sub]
  rw [Rc (by omega) (by omega) (by omega),s1,Rh (by simp;omega),List.nil_append]
  simp only [Option.bind_some]
  rw [Rh (by simp;omega),Rc (by omega) (by omega) (by omega),s2,Rh (by simp;omega),Rh (by simp;omega)]
  rfl
 intro d
 induction d with
 | zero =>
  intro x j hx hj
  obtain ⟨j,rfl⟩:∃ i,j=i+1:=⟨j - 1,by omega⟩
  have hx:x=jg p js:=by omega
  subst hx
  rw [WC,U5,fin]
  by_cases q:jg p js<js.length
  ·have hs:=FQ p js q
   rw [Rj (by omega),Pw q,Px,show js.getD (jg p js) (0,0,0,0,(0,Pv (α:=Int) 8 0,[],false),(0,Pv (α:=Int) 8 0,[],false),[],false)=js.getD (jg p js) j0 from rfl,Rk hs]
  ·rw [Rk (by omega)]
 | succ d ih =>
  intro x j hx hj
  obtain ⟨j,rfl⟩:∃ i,j=i+1:=⟨j - 1,by omega⟩
  have hs:=AP p js x (by omega)
  rw [WC,U5,Rj (by omega),Pw (by omega),Px,show js.getD x (0,0,0,0,(0,Pv (α:=Int) 8 0,[],false),(0,Pv (α:=Int) 8 0,[],false),[],false)=js.getD x j0 from rfl,Rj hs,Me (by omega)]
  exact ih (x+1) j (by omega) (by omega)
theorem acG {k:Nat} (hk:1000 <= k) {K:gy} (h:KI K) (p a:Int):S21 k K p a=some (((IV K p a).1,(IV K p a).2.1,(IV K p a).2.2,()),()):=by
 have hl8:=h.len
 have h5:K.2.2.2.2.2.2.2.2.2.2.length=K.2.2.1.length:=h.off
 have h7:rising K.2.2.2.2.2.2.2.1:=h.ris
 unfold S21 IV
 cases hru:K.2.2.2.2.1 with
 | false=>rfl
 | true =>
  cases hha:K.2.2.2.2.2.1 with
  | true=>rfl
  | false =>
   simp only [Bool.not_true,cond_false]
   by_cases hp1:p<0
   ·rw [Rj hp1,decide_eq_true hp1];rfl
   ·rw [Rk hp1,decide_eq_false hp1,Bool.false_or]
    by_cases hp2:p≥(K.2.2.1.length:Int)
    ·rw [Rj hp2,decide_eq_true hp2];rfl
    ·obtain ⟨n,rfl⟩:∃ n:Nat,p=(n:Int):=⟨p.toNat,by omega⟩
     rw [Rk hp2,decide_eq_false hp2,cond_false,Pw (by omega),Px,Int.toNat_natCast]
     cases K.2.2.2.2.2.2.2.2.2.2.getD n false with
     | true=>rfl
     | false =>
      simp only [cond_false]
      have hle:=FP (n:Int) K.2.2.2.2.2.2.2.1
      rw [ahO hk (by omega),Option.bind_some,ahP h7]
      simp only
      unfold U6
      cases hc:decide (jg (n:Int) K.2.2.2.2.2.2.2.1<K.2.2.2.2.2.2.2.1.length)&&(K.2.2.2.2.2.2.2.1.getD (jg (n:Int) K.2.2.2.2.2.2.2.1) j0).1==(n:Int) with
      | false =>
       simp only [cond_false]
       rw [Rk (by omega),Rk (by omega)]
       refine Eq.trans (acF hk (by omega) (by simp) (jg (n:Int) K.2.2.2.2.2.2.2.1) 0 k (by omega) (by omega)) ?_
       unfold XE
       rw [hru,hha];rfl
      | true =>
       have hlt:jg (n:Int) K.2.2.2.2.2.2.2.1<K.2.2.2.2.2.2.2.1.length:=by
        rw [Bool.and_eq_true] at hc;exact of_decide_eq_true hc.1
       have hjp:(K.2.2.2.2.2.2.2.1.getD (jg (n:Int) K.2.2.2.2.2.2.2.1) j0).1=(n:Int):=by
        rw [Bool.and_eq_true] at hc;exact eq_of_beq hc.2
       simp only [cond_true]
       rw [Rj (by omega),Pw hlt,Px,show K.2.2.2.2.2.2.2.1.getD (jg (n:Int) K.2.2.2.2.2.2.2.1) (0,0,0,0,(0,Pv (α:=Int) 8 0,[],false),(0,Pv (α:=Int) 8 0,[],false),[],false)=K.2.2.2.2.2.2.2.1.getD (jg (n:Int) K.2.2.2.2.2.2.2.1) j0 from rfl]
       cases (K.2.2.2.2.2.2.2.1.getD (jg (n:Int) K.2.2.2.2.2.2.2.1) j0).2.2.2.1 != 2 with
       | true=>rfl
       | false =>
        simp only [cond_false]
        have mono:∀ x y,x<y -> y<K.2.2.2.2.2.2.2.1.length -> (K.2.2.2.2.2.2.2.1.getD x j0).1<(K.2.2.2.2.2.2.2.1.getD y j0).1:=fun x y hxy hy=>by
         rw [getD_in (by omega),getD_in hy];exact List.pairwise_iff_getElem.1 h7 x y (by omega) hy hxy
        rw [Rj (by omega),Rh (by simp),BL hlt (by omega),Option.bind_some]
        simp only [List.nil_append]
        have wE:(K.2.2.2.2.2.2.2.1.take (jg (n:Int) K.2.2.2.2.2.2.2.1)++K.2.2.2.2.2.2.2.1.drop (jg (n:Int) K.2.2.2.2.2.2.2.1+1)).length=K.2.2.2.2.2.2.2.1.length - 1:=by simp;omega
        have htl:(K.2.2.2.2.2.2.2.1.take (jg (n:Int) K.2.2.2.2.2.2.2.1)).length=jg (n:Int) K.2.2.2.2.2.2.2.1:=by rw [List.length_take];omega
        have hpos:jg (n:Int) (K.2.2.2.2.2.2.2.1.take (jg (n:Int) K.2.2.2.2.2.2.2.1)++K.2.2.2.2.2.2.2.1.drop (jg (n:Int) K.2.2.2.2.2.2.2.1+1))=jg (n:Int) K.2.2.2.2.2.2.2.1:=by
         refine ET _ _ _ (by omega) (fun b hb=>?_) (fun hb=>?_)
         ·rw [mo (by omega),getD_in (by omega),List.getElem_take,<- getD_in (z:=j0)]
          exact AP _ _ b hb
         ·rw [jq (by omega),htl,Nat.sub_self,getD_in (by rw [List.length_drop];omega),List.getElem_drop]
          have:=mono (jg (n:Int) K.2.2.2.2.2.2.2.1) (jg (n:Int) K.2.2.2.2.2.2.2.1+1) (by omega) (by omega)
          rw [hjp,getD_in (by omega)] at this
          simp only [Nat.add_zero]
          omega
        have e:=acF (k:=k) hk (p:=(n:Int)) (a:=a) (c:=K.1) (e:=K.2.1) (f:=K.2.2.1) (h:=K.2.2.2.1) (i:=true) (l:=false) (m:=K.2.2.2.2.2.2.1) (n:=K.2.2.2.2.2.2.2.1) (o:=K.2.2.2.2.2.2.2.2.1.1.1) (P:=K.2.2.2.2.2.2.2.2.1.1.2) (s:=K.2.2.2.2.2.2.2.2.1.2) (t:=K.2.2.2.2.2.2.2.2.2.1) (u:=K.2.2.2.2.2.2.2.2.2.2) (v:=0) (w:=0) (y:=false) (z:=false) (A:=false) (ev:=[(K.1,13,(n:Int),0,0,0)]) (now:=K.1) (ap:=K.2.1) (ts:=K.2.2.1) (bs:=K.2.2.2.1) (ru:=true) (ha:=false) (hi:=K.2.2.2.2.2.2.1) (js:=K.2.2.2.2.2.2.2.1.take (jg (n:Int) K.2.2.2.2.2.2.2.1)++K.2.2.2.2.2.2.2.1.drop (jg (n:Int) K.2.2.2.2.2.2.2.1+1)) (g:=K.2.2.2.2.2.2.2.2.1.1.1) (G:=K.2.2.2.2.2.2.2.2.1.1.2) (U:=K.2.2.2.2.2.2.2.2.1.2) (rows:=K.2.2.2.2.2.2.2.2.2.1) (off:=K.2.2.2.2.2.2.2.2.2.2) (by omega) (by simp) (jg (n:Int) K.2.2.2.2.2.2.2.1) 0 k (by omega) (by omega)
        have ht:(K.2.2.2.2.2.2.2.1.take (jg (n:Int) K.2.2.2.2.2.2.2.1)++K.2.2.2.2.2.2.2.1.drop (jg (n:Int) K.2.2.2.2.2.2.2.1+1)).take (jg (n:Int) K.2.2.2.2.2.2.2.1)=K.2.2.2.2.2.2.2.1.take (jg (n:Int) K.2.2.2.2.2.2.2.1):=by
         rw [List.take_append_of_le_length (by omega),List.take_take,Nat.min_self]
        have hd:(K.2.2.2.2.2.2.2.1.take (jg (n:Int) K.2.2.2.2.2.2.2.1)++K.2.2.2.2.2.2.2.1.drop (jg (n:Int) K.2.2.2.2.2.2.2.1+1)).drop (jg (n:Int) K.2.2.2.2.2.2.2.1)=K.2.2.2.2.2.2.2.1.drop (jg (n:Int) K.2.2.2.2.2.2.2.1+1):=by
         rw [List.drop_append_of_le_length (by omega),List.drop_eq_nil_of_le (by omega),List.nil_append]
        rw [hpos,ht,hd] at e
        refine Eq.trans e ?_
        unfold XE
        rw [hru,hha];rfl
theorem adw {ts:List fq} (hm:∀ t∈ts,BJ t=0) (h8:ts.length <= 8):(List.range' 0 4).any (fun z=>decide (A9 ts (z:Int)<8))=ts.any qy:=by
 have hc:∀ s:Int,decide (A9 ts s<8)=ts.any (um s):=fun s=>by
  unfold A9
  rw [QX]
  cases e:ts.findIdx? (um s) with
  | none =>
   rw [List.findIdx?_eq_none_iff] at e
   rw [show ts.any (um s)=false from by rw [List.any_eq_false];exact fun x hx=>by rw [e x hx];decide]
   rfl
  | some n =>
   rw [List.findIdx?_eq_some_iff_getElem] at e
   obtain ⟨h1,h2,_⟩:=e
   rw [show ts.any (um s)=true from List.any_eq_true.2 ⟨_,List.getElem_mem h1,h2⟩]
   exact decide_eq_true (show ((0+n:Nat):Int)<8 by omega)
 rw [Bool.eq_iff_iff,List.any_eq_true,List.any_eq_true]
 constructor
 ·rintro ⟨z,_,hz⟩
  rw [hc,List.any_eq_true] at hz
  obtain ⟨t,ht,hl⟩:=hz
  refine ⟨t,ht,?_⟩
  unfold um at hl
  unfold qy
  rw [List.any_eq_true] at hl ⊢
  obtain ⟨x,hx,hl⟩:=hl
  refine ⟨x,hx,?_⟩
  unfold O5 at hl
  unfold OG
  cases e:x.1==9 with
  | false=>rw [e] at hl;cases hl
  | true =>
   rw [e,cond_true] at hl
   rw [cond_true]
   exact decide_eq_true (by have:=eq_of_beq hl;omega)
 ·rintro ⟨t,ht,hz⟩
  obtain ⟨_,_,_,z4,z5,_⟩:=JW.1 (hm t ht)
  unfold qy at hz
  rw [List.any_eq_true] at hz
  obtain ⟨x,hx,hl⟩:=hz
  have hmx:jm x=true:=by
   rcases List.mem_append.1 hx with q | q
   ·obtain ⟨ps,g⟩:=uy.1 z4
    exact g.may x q
   ·rcases z5 with w | w
    ·rw [w] at q;cases q
    ·obtain ⟨ps,g⟩:=uy.1 w
     exact g.may x q
  unfold OG at hl
  cases e:x.1==9 with
  | false=>rw [e] at hl;cases hl
  | true =>
   have h9:=(ajE hmx (.inl (eq_of_beq e))).1
   refine ⟨x.2.1.toNat,by rw [List.mem_range'_1];omega,?_⟩
   rw [hc,List.any_eq_true]
   refine ⟨t,ht,?_⟩
   unfold um
   rw [List.any_eq_true]
   refine ⟨x,hx,?_⟩
   unfold O5
   rw [e,cond_true,beq_iff_eq];omega
theorem SA {k:Nat} (hk:1000 <= k) {now ap:Int} {ts:List fq} {bs:List vo} {ru ha hi:Bool} {js:List gu} {rows:List Int} {off:List Bool} {t u:Int} {v w y:Bool} (hL:jl ts):∀ (d z j:Nat),z+d=4 -> d<j ->
  aaY k j now ap ts bs ru ha hi js jh.1.1 jh.1.2 jh.2 rows off t u v w y (z:Int)=bif (List.range' z d).any (fun z=>decide (A9 ts (z:Int)<8)) then some (((now,ap,ts,bs,ru,ha,hi,js,jh,rows,off),4,()),()) else some (((now,ap,ts,bs,true,ha,hi,js,jh,rows,off),0,()),())
 | 0,z,j,hd,hj=>by
  obtain ⟨j,rfl⟩:∃ i,j=i+1:=⟨j - 1,by omega⟩
  have hlk:S42 k (now,ap,ts,bs,ru,ha,hi,js,((jh.1.1,jh.1.2),jh.2),rows,off)=some (([],()),()):=GZ hk
  have hwl:S43 k (now,ap,ts,bs,ru,ha,hi,js,((jh.1.1,jh.1.2),jh.2),rows,off) []=_:=FR hk []
  rw [aaZ,aaX,Rk (by omega),hlk,Option.bind_some]
  obtain ⟨q,rfl⟩:∃ m,k=m+1:=⟨k - 1,by omega⟩
  rw [afK,Yd,Rk (by simp),hwl,Option.bind_some]
  rfl
 | d+1,z,j,hd,hj=>by
  obtain ⟨j,rfl⟩:∃ i,j=i+1:=⟨j - 1,by omega⟩
  rw [aaZ,aaX,Rj (by omega),ahi hk hL,Option.bind_some,Me (by omega),SA hk hL d (z+1) j (by omega) (by omega),List.range'_succ,List.any_cons]
  cases decide (A9 ts (z:Int)<8) <;> rfl
theorem YJ {k:Nat} (hk:1000 <= k) {now ap:Int} {ts:List fq} {bs:List vo} {ha hi:Bool} {js:List gu} {rows:List Int} {off:List Bool} (hL:jl ts) (hm:∀ t∈ts,BJ t=0) (h8:ts.length <= 8) :
  S13 k (now,ap,ts,bs,false,ha,hi,js,jh,rows,off)=some (((now,ap,ts,bs,!ts.any qy,ha,hi,js,jh,rows,off),(bif ts.any qy then 4 else 0),()),()):=by
 unfold S13
 simp only [cond_false]
 rw [DJ hk,Option.bind_some]
 refine Eq.trans (SA hk (now:=now) (ap:=ap) (bs:=bs) (ru:=false) (ha:=ha) (hi:=hi) (js:=js) (rows:=rows) (off:=off) (t:=0) (u:=0) (v:=false) (w:=false) (y:=false) hL 4 0 k (by omega) (by omega)) ?_
 rw [adw hm h8]
 cases ts.any qy <;> rfl
theorem EW (k:Nat) {p:List Int} {n m:Int} (h:yh p n) (hm:0<m):∃ v n',FT k p n m=some ((v,()),(p,n',()),()) /\ (0 <= v /\ v<m) /\ yh p n' /\ n <= n' /\ (n<(p.length:Int) -> n<n'):=by
 obtain ⟨⟨h1,h2,h3⟩,h4⟩:=h
 unfold FT
 by_cases e:n≥(p.length:Int)
 ·rw [Rj e];exact ⟨0,n,rfl,by omega,⟨⟨h1,h2,h3⟩,h4⟩,by omega,by omega⟩
 ·rw [Rk e,Ua (n:=n+1) (by omega) (by omega),show n+1 - 1=n by omega,Ua (n:=n) (by omega) (by omega),Lf h2 (by omega),Ri (by omega)]
  obtain ⟨j,rfl⟩:∃ j:Nat,n=(j:Int):=⟨n.toNat,by omega⟩
  rw [Px]
  have:=h4 _ (iq (z:=0) (l:=p) (i:=j) (by omega))
  rw [Ua (by omega) (by omega)]
  exact ⟨_,_,rfl,⟨Int.tmod_nonneg _ this.1,Int.tmod_lt_of_pos _ hm⟩,⟨⟨h1,by omega,by omega⟩,h4⟩,by omega,by omega⟩
theorem XK (K:gy) (p a:Int):(IV K p a).2.1.length <= 2:=by
 unfold IV
 cases K.2.2.2.2.1 with
 | false=>simp
 | true =>
 cases K.2.2.2.2.2.1 with
 | true=>simp
 | false =>
 simp only [Bool.not_true,cond_false]
 cases decide (p<0)||decide (p≥(K.2.2.1.length:Int)) with
 | true=>simp
 | false =>
 simp only [cond_false]
 cases K.2.2.2.2.2.2.2.2.2.2.getD p.toNat false with
 | true=>simp
 | false =>
 simp only [cond_false]
 cases decide (jg p K.2.2.2.2.2.2.2.1<K.2.2.2.2.2.2.2.1.length)&&(K.2.2.2.2.2.2.2.1.getD (jg p K.2.2.2.2.2.2.2.1) j0).1==p with
 | false=>simp
 | true =>
 simp only [cond_true]
 cases (K.2.2.2.2.2.2.2.1.getD (jg p K.2.2.2.2.2.2.2.1) j0).2.2.2.1 != 2 <;> simp
theorem adx {K:gy} (h:K.2.2.2.2.2.2.2.1.length <= 8):(ES K).2.length <= 900:=by
 unfold ES
 cases K.2.2.2.2.1&&!K.2.2.2.2.2.1 with
 | false=>simp
 | true =>
  simp only [cond_true]
  obtain ⟨l,g1,g2,g3,g4,g5⟩:=CS K.1 K.2.2.1 K.2.2.2.2.2.2.2.1 ([],[],K.2.2.2.2.2.2.2.2.2.1,K.2.2.2.2.2.2.2.2.2.2,K.2.2.2.2.2.1)
  rw [show K.2.2.2.2.2.2.2.1.foldl (uo K.1 K.2.2.1) ([],[],K.2.2.2.2.2.2.2.2.2.1,K.2.2.2.2.2.2.2.2.2.2,K.2.2.2.2.2.1)=xw K.1 K.2.2.1 K.2.2.2.2.2.2.2.1 K.2.2.2.2.2.2.2.2.2.1 K.2.2.2.2.2.2.2.2.2.2 K.2.2.2.2.2.1 from rfl] at g5
  generalize xw K.1 K.2.2.1 K.2.2.2.2.2.2.2.1 K.2.2.2.2.2.2.2.2.2.1 K.2.2.2.2.2.2.2.2.2.2 K.2.2.2.2.2.1=E at g5 ⊢
  have hrl:∀ (js:List gu),(vv K.1 K.2.2.1 js E.2.2.1 K.2.2.2.2.2.2.1).2.1.length <= 4:=fun js=>by
   unfold vv
   simp only
   cases K.2.2.2.2.2.2.1 with
   | true=>have:=(OJ K.1 (K.2.2.1.getD (js.getD (sj js (K.2.2.1.length:Int)) j0).1.toNat t0) (js.getD (sj js (K.2.2.1.length:Int)) j0) E.2.2.1).2;simp only [List.length_cons,cond_true];omega
   | false=>have:=(K8 K.1 (K.2.2.1.getD (js.getD (sj js (K.2.2.1.length:Int)) j0).1.toNat t0) (js.getD (sj js (K.2.2.1.length:Int)) j0) E.2.2.1).2;simp only [List.length_cons,cond_false];omega
  have:=hrl (E.1.map (jk K.1 K.2.2.2.1))
  simp only [List.length_nil] at g5
  rw [List.length_append]
  cases E.2.2.2.2||(E.1.map (jk K.1 K.2.2.2.1)).isEmpty with
  | true=>simp only [cond_true,List.length_nil];omega
  | false=>simp only [cond_false];omega
abbrev GT6:Type:=Int -> Int -> List fq -> List vo -> Bool -> Bool -> Bool -> List gu -> List Int -> List Bool -> List RF -> List Int -> List Bool -> Int -> Int -> List fq -> List vo -> Bool -> Bool -> Bool -> List gu -> List Int -> List Bool -> List RF -> List Int -> List Bool -> List Int -> Int -> Option ((Bool×Unit)×Unit)
theorem ady {k:Nat} (hk:1000 <= k) {g:GT6} {K:gy} (h:KI K) {q:List Int} {n:Int}:KS k g K.1 K.2.1 K.2.2.1 K.2.2.2.1 K.2.2.2.2.1 K.2.2.2.2.2.1 K.2.2.2.2.2.2.1 K.2.2.2.2.2.2.2.1 K.2.2.2.2.2.2.2.2.1.1.1 K.2.2.2.2.2.2.2.2.1.1.2 K.2.2.2.2.2.2.2.2.1.2 K.2.2.2.2.2.2.2.2.2.1 K.2.2.2.2.2.2.2.2.2.2 K.1 K.2.1 K.2.2.1 K.2.2.2.1 K.2.2.2.2.1 K.2.2.2.2.2.1 K.2.2.2.2.2.2.1 K.2.2.2.2.2.2.2.1 K.2.2.2.2.2.2.2.2.1.1.1 K.2.2.2.2.2.2.2.2.1.1.2 K.2.2.2.2.2.2.2.2.1.2 K.2.2.2.2.2.2.2.2.2.1 K.2.2.2.2.2.2.2.2.2.2 q n =
  g K.1 K.2.1 K.2.2.1 K.2.2.2.1 K.2.2.2.2.1 K.2.2.2.2.2.1 K.2.2.2.2.2.2.1 K.2.2.2.2.2.2.2.1 K.2.2.2.2.2.2.2.2.1.1.1 K.2.2.2.2.2.2.2.2.1.1.2 K.2.2.2.2.2.2.2.2.1.2 K.2.2.2.2.2.2.2.2.2.1 K.2.2.2.2.2.2.2.2.2.2 K.1 K.2.1 K.2.2.1 K.2.2.2.1 K.2.2.2.2.1 K.2.2.2.2.2.1 K.2.2.2.2.2.2.1 K.2.2.2.2.2.2.2.1 K.2.2.2.2.2.2.2.2.1.1.1 K.2.2.2.2.2.2.2.2.1.1.2 K.2.2.2.2.2.2.2.2.1.2 K.2.2.2.2.2.2.2.2.2.1 K.2.2.2.2.2.2.2.2.2.2 q n:=by
 have e1:=RZ (k:=k) hk h.tab
 have e2:=KW (k:=k) hk h.kok
 unfold KS
 refine (congrArg (fun x=>Option.bind x _) e1).trans ?_
 rw [Option.bind_some]
 refine (congrArg (fun x=>Option.bind x _) e2).trans ?_
 rfl
theorem ahQ {k:Nat} (hk:20000 <= k) {q:List Int}:∀ (d j:Nat) (n:Int) (K:gy),(q.length:Int) - n <= (d:Int) -> d<j -> yh q n -> KG K ->
  X0 k j K.1 K.2.1 K.2.2.1 K.2.2.2.1 K.2.2.2.2.1 K.2.2.2.2.2.1 K.2.2.2.2.2.2.1 K.2.2.2.2.2.2.2.1 K.2.2.2.2.2.2.2.2.1.1.1 K.2.2.2.2.2.2.2.2.1.1.2 K.2.2.2.2.2.2.2.2.1.2 K.2.2.2.2.2.2.2.2.2.1 K.2.2.2.2.2.2.2.2.2.2 K.1 K.2.1 K.2.2.1 K.2.2.2.1 K.2.2.2.2.1 K.2.2.2.2.2.1 K.2.2.2.2.2.2.1 K.2.2.2.2.2.2.2.1 K.2.2.2.2.2.2.2.2.1.1.1 K.2.2.2.2.2.2.2.2.1.1.2 K.2.2.2.2.2.2.2.2.1.2 K.2.2.2.2.2.2.2.2.2.1 K.2.2.2.2.2.2.2.2.2.2 q n=some ((true,()),()):=by
 intro d
 induction d with
 | zero =>
  intro j n K hd hj hp h
  obtain ⟨j,rfl⟩:∃ i,j=i+1:=⟨j - 1,by omega⟩
  rw [abY,abX]
  unfold S18
  rw [Option.bind_some]
  simp only
  rw [decide_eq_true (show n≥(q.length:Int) by omega)]
  rfl
 | succ d ih =>
  intro j n K hd hj hp h
  obtain ⟨j,rfl⟩:∃ i,j=i+1:=⟨j - 1,by omega⟩
  rw [abY,abX]
  unfold S18
  rw [Option.bind_some]
  simp only
  by_cases ho:n≥(q.length:Int)
  ·rw [decide_eq_true ho];rfl
  ·rw [decide_eq_false ho]
   obtain ⟨v,n1,e1,hv,hp1,hle1,hlt1⟩:=EW k hp (show (0:Int)<8 by omega)
   have hn1:=hlt1 (by omega)
   rw [Bool.not_false,cond_true,e1,Option.bind_some]
   simp only
   have next:∀ (K2:gy) (n2:Int),KG K2 -> yh q n2 -> n1 <= n2 -> KS k (X0 k j) K2.1 K2.2.1 K2.2.2.1 K2.2.2.2.1 K2.2.2.2.2.1 K2.2.2.2.2.2.1 K2.2.2.2.2.2.2.1 K2.2.2.2.2.2.2.2.1 K2.2.2.2.2.2.2.2.2.1.1.1 K2.2.2.2.2.2.2.2.2.1.1.2 K2.2.2.2.2.2.2.2.2.1.2 K2.2.2.2.2.2.2.2.2.2.1 K2.2.2.2.2.2.2.2.2.2.2 K2.1 K2.2.1 K2.2.2.1 K2.2.2.2.1 K2.2.2.2.2.1 K2.2.2.2.2.2.1 K2.2.2.2.2.2.2.1 K2.2.2.2.2.2.2.2.1 K2.2.2.2.2.2.2.2.2.1.1.1 K2.2.2.2.2.2.2.2.2.1.1.2 K2.2.2.2.2.2.2.2.2.1.2 K2.2.2.2.2.2.2.2.2.2.1 K2.2.2.2.2.2.2.2.2.2.2 q n2=some ((true,()),()):=fun K2 n2 hk2 hp2 hle=>by
    rw [ady (by omega) hk2.ki]
    exact ih j n2 K2 (by omega) (by omega) hp2 hk2
   by_cases h0:v=0
   ·subst h0
    rw [show ((0:Int)==0)=true from rfl,cond_true]
    obtain ⟨v1,n2,e2,hv1,hp2,hle2,_⟩:=EW k hp1 (show (0:Int)<6 by omega)
    rw [e2,Option.bind_some]
    simp only
    obtain ⟨v2,n3,e3,hv2,hp3,hle3,_⟩:=EW k hp2 (show (0:Int)<9 by omega)
    rw [e3,Option.bind_some]
    simp only
    have er:=aht (k:=k) (by omega) h.ki (IntKind.i64.wrap (v1 - 1)) v2
    have er2:=acG (k:=k) (by omega) h.ki (IntKind.i64.wrap (v1 - 1)) v2
    have hkg:=ahv h (p:=IntKind.i64.wrap (v1 - 1)) (a:=v2) ⟨by omega,by omega⟩
    have hlen:=XK K (IntKind.i64.wrap (v1 - 1)) v2
    generalize IV K (IntKind.i64.wrap (v1 - 1)) v2=r at er er2 hkg hlen
    refine (congrArg (fun x=>Option.bind x _) er).trans ?_
    rw [Option.bind_some]
    refine (congrArg (fun x=>Option.bind x _) er2).trans ?_
    rw [Option.bind_some]
    show (bif r.2.2 != r.2.2 then _ else (S22 k r.2.1 r.2.1).bind _)=_
    rw [bne_self_eq_false,cond_false,V7 (by omega) (by omega),Option.bind_some]
    exact next r.1 n3 hkg hp3 (by omega)
   ·rw [beq_eq_false_iff_ne.2 h0,cond_false]
    by_cases h1:v=1
    ·subst h1
     rw [show ((1:Int)==1)=true from rfl,cond_true]
     obtain ⟨v1,n2,e2,hv1,hp2,hle2,_⟩:=EW k hp1 (show (0:Int)<6 by omega)
     rw [e2,Option.bind_some]
     simp only
     obtain ⟨v2,n3,e3,hv2,hp3,hle3,_⟩:=EW k hp2 (show (0:Int)<9 by omega)
     rw [e3,Option.bind_some]
     simp only
     have er:=aht (k:=k) (by omega) h.ki (IntKind.i64.wrap (v1 - 1)) v2
     have er2:=acG (k:=k) (by omega) h.ki (IntKind.i64.wrap (v1 - 1)) v2
     have hkg:=ahv h (p:=IntKind.i64.wrap (v1 - 1)) (a:=v2) ⟨by omega,by omega⟩
     have hlen:=XK K (IntKind.i64.wrap (v1 - 1)) v2
     generalize IV K (IntKind.i64.wrap (v1 - 1)) v2=r at er er2 hkg hlen
     refine (congrArg (fun x=>Option.bind x _) er).trans ?_
     rw [Option.bind_some]
     refine (congrArg (fun x=>Option.bind x _) er2).trans ?_
     rw [Option.bind_some]
     show (bif r.2.2 != r.2.2 then _ else (S22 k r.2.1 r.2.1).bind _)=_
     rw [bne_self_eq_false,cond_false,V7 (by omega) (by omega),Option.bind_some]
     exact next r.1 n3 hkg hp3 (by omega)
    ·rw [beq_eq_false_iff_ne.2 h1,cond_false]
     by_cases h2:v=2
     ·subst h2
      rw [show ((2:Int)==2)=true from rfl,cond_true]
      exact next (K.1,K.2.1,K.2.2.1,K.2.2.2.1,K.2.2.2.2.1,K.2.2.2.2.2.1,true,K.2.2.2.2.2.2.2) n1 ⟨h.tab,h.tasks,h.GV,h.bounds,h.rows,h.off,h.good,h.job,h.ris⟩ hp1 (by omega)
     ·rw [beq_eq_false_iff_ne.2 h2,cond_false]
      have er:=anI (k:=k) (by omega) h.ki
      have er2:=ahN (k:=k) (by omega) h.ki
      have hkg:=akc h
      have hlen:=adx (K:=K) h.ki.len
      generalize ES K=r at er er2 hkg hlen
      refine (congrArg (fun x=>Option.bind x _) er).trans ?_
      rw [Option.bind_some]
      refine (congrArg (fun x=>Option.bind x _) er2).trans ?_
      rw [Option.bind_some]
      show (S22 k r.2 r.2).bind _=_
      rw [V7 (by omega) (by omega),Option.bind_some]
      exact next r.1 n1 hkg hp1 (by omega)
theorem kernTicks_pure {p s:List Int} {t:Int} {e e2:TypeId} (hp:Ty.fine (.sl e (.int .u8)) p) (hs:Ty.fine (.sl e2 (.int .u8)) s) (ht:0 <= t /\ t <= 255) {k:Nat} (hk:20000 <= k):S3 k p s t=some ((true,()),()):=by
 unfold S3
 rw [apF hk]
 simp only [Option.bind_some,Bool.not_true,cond_false]
 by_cases h:(p.length:Int)>200
 ·rw [Rj h]
 ·rw [Rk h]
  by_cases h2:(s.length:Int)>250
  ·rw [Rj h2]
  ·rw [Rk h2,Ua (n:=t) (by omega) (by omega),Ua (n:=1+t) (by omega) (by omega)]
   obtain ⟨ts,bs,T,e1,hL,h4,hr,hbl⟩:=anO hk (Xa hp (show p.length <= 1000 by omega)) (show (1:Int) <= 1+t by omega) (show 1+t <= 4611686018427387904 by omega)
   rw [e1,Option.bind_some]
   have hst:=adi (k:=k) (by omega) (ahB (ap:=1+t) hL (by omega) hbl)
   have ard:=YJ (k:=k) (now:=0) (ap:=1+t) (bs:=bs) (ha:=false) (hi:=false) (js:=[]) (rows:=[]) (off:=[]) (by omega) hL (UR hr) (by omega)
   unfold yc
   simp only [Bool.not_true,cond_false]
   rw [RG (by omega),Option.bind_some]
   simp only
   rw [hst,Option.bind_some]
   simp only
   rw [ard,Option.bind_some]
   simp only [bne_self_eq_false,cond_false]
   have ahr:KOK (0,1+t,ts,bs,!ts.any qy,false,false,[],jh,[],[]):=⟨rfl,hL,by show bs.length <= 900;omega,by simp,(fun j h=>by cases h),by simp,by simp⟩
   rw [RZ (by omega) rfl,Option.bind_some]
   simp only
   rw [KW (by omega) ahr,Option.bind_some]
   simp only [Bool.not_true,cond_false]
   cases hz:ts.any qy with
   | true=>rfl
   | false =>
    simp only [cond_false,bne_self_eq_false]
    unfold S16 S17
    have emx:mx (ts.length:Int) 0=(ts.length:Int):=by unfold mx;split <;> omega
    rw [emx,Rf (by omega) (by simp only [Int.toNat_natCast];omega),Rf (by omega) (by simp only [Int.toNat_natCast];omega)]
    simp only [Option.bind_some]
    rw [Rf (by omega) (by simp only [Int.toNat_natCast];omega),Rf (by omega) (by simp only [Int.toNat_natCast];omega),Int.toNat_natCast]
    have hkg:KG (runK (1+t) ts bs []):=akf hL (by omega) hbl (anP hr hz)
    exact ahQ hk s.length k 0 (runK (1+t) ts bs []) (by omega) (by omega) (Xa hs (show s.length <= 1000 by omega)) hkg
theorem kernTicks_law {e e2:TypeId} (p s:List Int) (t:Int) (hp:Ty.fine (.sl e (.int .u8)) p) (hs:Ty.fine (.sl e2 (.int .u8)) s) (ht:Ty.fine (.int .u8) t):∃ k,S3 k p s t=some ((true,()),()):=⟨20000,kernTicks_pure hp hs (anr ht) (by omega)⟩
end Go.Proofs.YtmmagcjlfcicfaaGreat.Ab
