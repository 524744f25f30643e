import Derived.Test.YtmmagcjlfcicfaaGreatQZAbU0
import Derived.KernelRfl
/- The plain law, and what it hangs on. -/
namespace Go.Proofs.YtmmagcjlfcicfaaGreat.Ab
open Go.RowKit
set_option linter.unusedSimpArgs false
set_option linter.unusedVariables false
open Tr
abbrev gu:Type:=Int×Int×Int×Int×d9×d9×List Int×Bool
abbrev VI:Type:=Int×(Int×Int)×(Int×Int)×((List Int)×List Int)×(Int×List (Int×Int))×Int
abbrev X9:Type:=(List Int×List Bool)×List VI
abbrev gy:Type:=Int×Int×List fq×List wm×Bool×Bool×Bool×List gu×X9×List Int×List Bool
abbrev m0:d9:=(0,Pv (α:=Int) 8 0,[],false)
abbrev j0:gu:=(0,0,0,0,m0,m0,[],false)
abbrev jk:X9:=((List.replicate 12 0,List.replicate 12 false),List.replicate 12 (0,(0,0),(0,0),([],[]),(0,[]),0))
structure Xa (j:gu):Prop where
 held:j.2.2.2.2.2.2.1=[]
 m:j.2.2.2.2.1.2.2.1.length <= 100
 kept:j.2.2.2.2.2.1.2.2.1.length <= 100
theorem ES {k:Nat} {xs:List I4} (h:xs.length <= 900):S80 k xs=some ((xs,()),()):=by
 unfold S80
 exact Lg (by omega)
theorem agR {k:Nat} {xs:List fq} (h:xs.length <= 900):S77 k xs=some ((xs,()),()):=by
 unfold S77
 exact Lg (by omega)
theorem aa9 {k:Nat} {xs:List wm} (h:xs.length <= 900):S78 k xs=some ((xs,()),()):=by
 unfold S78
 exact Lg (by omega)
theorem aku {k:Nat} {xs:List gu} (h:xs.length <= 900):S79 k xs=some ((xs,()),()):=by
 unfold S79
 exact Lg (by omega)
theorem Xb {k:Nat} {xs:List dz} (h:xs.length <= 900):Wh k xs=some ((xs,()),()):=by
 unfold Wh
 exact Lg (by omega)
theorem MN {k:Nat} {xs:List Int} (h:xs.length <= 900):Um k xs=some ((xs,()),()):=by
 unfold Um
 exact Lg (by omega)
theorem SN {k:Nat} {xs:List Bool} (h:xs.length <= 900):afn k xs=some ((xs,()),()):=by
 unfold afn
 exact Lg (by omega)
theorem aeP {k:Nat} (hk:1000 <= k) (s:Int):afm k [] s=some (([],()),()):=by
 obtain ⟨k,rfl⟩:∃ m,k=m+1:=⟨k - 1,by omega⟩
 unfold afm aiq
 rw [acd,Wi,Rk (by simp),Option.bind_some]
 rfl
theorem aeQ {k:Nat} (hk:1000 <= k) {j:gu} (h:Xa j) (s:Int):S81 k j s=some ((j,()),()):=by
 obtain ⟨t,a,i,p,m,kp,hd,up⟩:=j
 have h1:hd=[]:=h.held
 have h2:m.2.2.1.length <= 100:=h.m
 have h3:kp.2.2.1.length <= 100:=h.kept
 subst h1
 unfold S81
 simp only
 rw [Xb (by omega),Option.bind_some,Xb (by omega),Option.bind_some,MN (by simp),Option.bind_some]
 simp only
 rw [aeP hk,Option.bind_some]
theorem agS {k:Nat} (hk:1000 <= k) (x:VI):S82 k jk (-1) x=some ((jk,()),()):=by
 obtain ⟨k,rfl⟩:∃ m,k=m+1000:=⟨k - 1000,by omega⟩
 kernel_rfl
theorem abb {k:Nat} {r:List Int} {o:List Bool} (h1:r.length <= 900) (h2:o.length <= 900):S83 k (r,o) (-1)=some (((r,o),()),()):=by
 unfold S83 aaK
 simp only
 rw [MN h1,Option.bind_some,SN h2,Option.bind_some,Option.bind_some]
 rfl
theorem AB {α:Type} {l:List α} {n:Nat} {z:α}:l.set n (l.getD n z)=l:=by
 by_cases h:n<l.length
 ·rw [getD_in h];exact List.set_getElem_self h
 ·exact List.set_eq_of_length_le (by omega)
theorem VJ {k:Nat} (hk:1000 <= k) {now ap:Int} {ts:List fq} {bs:List wm} {ru ha hi:Bool} {js:List gu} {rows:List Int} {off:List Bool} {x1 x2:Int} {x3 x4 x5:Bool} (hr:rows.length <= 900) (ho:off.length <= 900) (hjl:js.length <= 900) (hj:∀ j∈js,Xa j):∀ (d i j:Nat),i+d=js.length -> d<j ->
  Yc k j now ap ts bs ru ha hi js jk.1.1 jk.1.2 jk.2 rows off x1 x2 x3 x4 x5 (js.length:Int) (i:Int)=some (((now,ap,ts,bs,ru,ha,hi,js,jk,rows,off),()),())
 | 0,i,j,h,hjj=>by
  obtain ⟨j',rfl⟩:∃ j',j=j'+1:=⟨j - 1,by omega⟩
  rw [Yd,Yb,Rk (by omega),agS hk,Option.bind_some,abb hr ho,Option.bind_some]
 | d+1,i,j,h,hjj=>by
  obtain ⟨j',rfl⟩:∃ j',j=j'+1:=⟨j - 1,by omega⟩
  have hi':i<js.length:=by omega
  rw [Yd,Yb,Rj (by omega),Pw hi',Px,aeQ hk (hj _ (iq hi')),Option.bind_some,Pw hi',Mf,Me (by omega)]
  simp only
  rw [AB]
  exact VJ hk hr ho hjl hj d (i+1) j' (by omega) (by omega)
theorem VK {k:Nat} (hk:1000 <= k) {now ap:Int} {ts:List fq} {bs:List wm} {ru ha hi:Bool} {js:List gu} {rows:List Int} {off:List Bool} {x1 x2:Int} {x3 x4 x5:Bool} (hr:rows.length <= 900) (ho:off.length <= 900) (hjl:js.length <= 900) (hj:∀ j∈js,Xa j) (ht:jg ts):∀ (d i j:Nat),i+d=ts.length -> d<j ->
  Yf k j now ap ts bs ru ha hi js jk.1.1 jk.1.2 jk.2 rows off x1 x2 x3 x4 x5 (ts.length:Int) (i:Int)=some (((now,ap,ts,bs,ru,ha,hi,js,jk,rows,off),()),())
 | 0,i,j,h,hjj=>by
  obtain ⟨j',rfl⟩:∃ j',j=j'+1:=⟨j - 1,by omega⟩
  rw [Yg,Ye,Rk (by omega)]
  exact VJ hk hr ho hjl hj js.length 0 k (by omega) (by omega)
 | d+1,i,j,h,hjj=>by
  obtain ⟨j',rfl⟩:∃ j',j=j'+1:=⟨j - 1,by omega⟩
  have hi':i<ts.length:=by omega
  have hl:=(ht.2 _ (iq (z:=t0) hi')).1
  rw [Yg,Ye,Rj (by omega),Pw hi',Px,ES hl.1,Option.bind_some,ES hl.2.1,Option.bind_some,ES hl.2.2,Option.bind_some,Pw hi',Mf]
  rw [show (ts.set i (ts.getD i (0,0,0,[],[],[])))=ts from AB,Pw hi',Px,Mf]
  simp only
  rw [show (ts.set i (ts.getD i (0,0,0,[],[],[])))=ts from AB,Pw hi',Px,Mf,show (ts.set i (ts.getD i (0,0,0,[],[],[])))=ts from AB,Me (by have:=ht.1;omega)]
  exact VK hk hr ho hjl hj ht d (i+1) j' (by omega) (by omega)
structure KOK (K:gy):Prop where
 tab:K.2.2.2.2.2.2.2.2.1=jk
 tasks:jg K.2.2.1
 bounds:K.2.2.2.1.length <= 900
 jobs:K.2.2.2.2.2.2.2.1.length <= 800
 job:∀ j∈K.2.2.2.2.2.2.2.1,Xa j
 rows:K.2.2.2.2.2.2.2.2.2.1.length <= 900
 off:K.2.2.2.2.2.2.2.2.2.2.length <= 900
theorem Xc {k:Nat} (hk:1000 <= k) {K:gy} (h:KOK K):S34 k K=some ((K,()),()):=by
 obtain ⟨now,ap,ts,bs,ru,ha,hi,js,T,rows,off⟩:=K
 have e:T=jk:=h.tab
 subst e
 unfold S34
 simp only
 have h1:ts.length <= 100:=h.tasks.1
 have h2:js.length <= 800:=h.jobs
 rw [agR (by omega),Option.bind_some,aa9 h.bounds,Option.bind_some,aku (by omega),Option.bind_some]
 exact VK (ts:=ts) (js:=js) hk h.rows h.off (by omega) h.job h.tasks ts.length 0 k (by omega) (by omega)
abbrev ig:Type:=PN Int 6
theorem ET {k:Nat} (hk:1000 <= k):S73 k jk=some (([],()),()):=by
 obtain ⟨k,rfl⟩:∃ m,k=m+1000:=⟨k - 1000,by omega⟩
 kernel_rfl
theorem abd {k:Nat} (hk:1000 <= k):afG k jk=some ((jk,[],[],()),()):=by
 obtain ⟨k,rfl⟩:∃ m,k=m+1000:=⟨k - 1000,by omega⟩
 kernel_rfl
theorem aeR {k:Nat} {now ap:Int} {ts:List fq} {bs:List wm} {ru ha hi:Bool} {js:List gu} {s:List Int} {i:List Bool} {l:List VI} {rows:List Int} {off:List Bool} (j:Nat) (hj:0<j) :
  Yh k j now ap ts bs ru ha hi js s i l rows off [] [] 0 0=some (([],()),()):=by
 obtain ⟨j',rfl⟩:∃ j',j=j'+1:=⟨j - 1,by omega⟩
 rw [afr,acs,Rk (by omega)]
theorem EU {k:Nat} (hk:1000 <= k) {now ap:Int} {ts:List fq} {bs:List wm} {ru ha hi:Bool} {js:List gu} {rows:List Int} {off:List Bool}:S30 k (now,ap,ts,bs,ru,ha,hi,js,jk,rows,off)=some (([],()),()):=by
 unfold S30
 rw [show S73 k (now,ap,ts,bs,ru,ha,hi,js,jk,rows,off).2.2.2.2.2.2.2.2.1=_ from ET hk,Option.bind_some]
 exact aeR k (by omega)
theorem akv {k:Nat} (hk:1000 <= k) {now ap:Int} {ts:List fq} {bs:List wm} {ru ha hi:Bool} {js:List gu} {rows:List Int} {off:List Bool} {l:List (Int×Int)} :
  S39 k now ap ts bs ru ha hi js jk.1.1 jk.1.2 jk.2 rows off l=some ((),(now,ap,ts,bs,ru,ha,hi,js,jk.1.1,jk.1.2,jk.2,rows,off,()),()):=by
 unfold S39
 obtain ⟨k,rfl⟩:∃ m,k=m+1:=⟨k - 1,by omega⟩
 rw [show S73 (k+1) ((jk.1.1,jk.1.2),jk.2)=_ from ET hk,Option.bind_some,afs,acB,Rk (by simp)]
theorem agT {k:Nat} (hk:1000 <= k) {now ap:Int} {ts:List fq} {bs:List wm} {ru ha hi:Bool} {js:List gu} {rows:List Int} {off:List Bool} {ev:List ig} {l:List (Int×Int)} :
  afy k now ap ts bs ru ha hi js jk.1.1 jk.1.2 jk.2 rows off ev l=some ((),(now,ap,ts,bs,ru,ha,hi,js,jk.1.1,jk.1.2,jk.2,rows,off,ev,()),()):=by
 unfold afy
 obtain ⟨k,rfl⟩:∃ m,k=m+1:=⟨k - 1,by omega⟩
 rw [show S73 (k+1) ((jk.1.1,jk.1.2),jk.2)=_ from ET hk,Option.bind_some,acM,Wt,Rk (by simp)]
theorem agU {k:Nat} (hk:1000 <= k) {now ap:Int} {ts:List fq} {bs:List wm} {ru ha hi:Bool} {js:List gu} {rows:List Int} {off:List Bool} {ev:List ig} {l:List (Int×Int)} :
  aaQ k now ap ts bs ru ha hi js jk.1.1 jk.1.2 jk.2 rows off ev l=some ((),(now,ap,ts,bs,ru,ha,hi,js,jk.1.1,jk.1.2,jk.2,rows,off,ev,()),()):=by
 unfold aaQ
 obtain ⟨k,rfl⟩:∃ m,k=m+1:=⟨k - 1,by omega⟩
 rw [show S73 (k+1) ((jk.1.1,jk.1.2),jk.2)=_ from ET hk,Option.bind_some,adk,WB,Rk (by simp)]
def VL (x:I4):Bool:=bif x.1==9 then decide (x.2.1≥0) else false
def BD (t:fq):Bool:=(t.2.2.2.1++t.2.2.2.2.1).any VL
theorem akw {k:Nat} (hk:1000 <= k) {s:List I4} (h:s.length <= 900):S84 k s []=some ((RL VL s,()),()):=by
 unfold S84
 refine ZY (fun j i=>NP k j s [] (s.length:Int) i) s i0 _ (fun j i hi=>?_) (fun j=>?_) k (by omega)
 ·show NP k (j+1) s [] (s.length:Int) (i:Int)=_
  rw [Yl,Yk,Rj (by omega),Pw hi,Me (by omega),Px]
  unfold S37 VL
  cases (s.getD i i0).1==9 <;> rfl
 ·show NP k (j+1) s [] (s.length:Int) (s.length:Int)=_
  rw [Yl,Yk,Rk (by omega)]
theorem VN {k:Nat} (hk:1000 <= k) {now ap:Int} {ts:List fq} {bs:List wm} {ru ha hi:Bool} {js:List gu} {rows:List Int} {off:List Bool} {x1 x2:Int} {x3 x4 x5:Bool} (ht:jg ts):∀ (d i j:Nat),i+d=ts.length -> d<j ->
  Yp k j now ap ts bs ru ha hi js jk.1.1 jk.1.2 jk.2 rows off x1 x2 x3 x4 x5 [] ts (ts.length:Int) (i:Int)=bif (ts.drop i).any BD then some (((now,ap,ts,bs,ru,ha,hi,js,jk,rows,off),4,()),()) else some (((now,ap,ts,bs,true,ha,hi,js,jk,rows,off),0,()),())
 | 0,i,j,h,hjj=>by
  obtain ⟨j',rfl⟩:∃ j',j=j'+1:=⟨j - 1,by omega⟩
  rw [Yq,Yo,Rk (by omega),drop_nil (by omega)]
  obtain ⟨k,rfl⟩:∃ m,k=m+1:=⟨k - 1,by omega⟩
  rw [acE,Wm,Rk (by simp),akv hk,Option.bind_some]
  rfl
 | d+1,i,j,h,hjj=>by
  obtain ⟨j',rfl⟩:∃ j',j=j'+1:=⟨j - 1,by omega⟩
  have hi':i<ts.length:=by omega
  have hl:=ht.2 _ (iq (z:=t0) hi')
  rw [Yq,Yo,Rj (by omega),Pw hi',Px,akp hk hl.1.1 hl.1.2.1,Option.bind_some]
  unfold S35
  rw [akw hk hl.2]
  simp only [Option.bind_some,aeh]
  rw [drop_cons t0 hi',List.any_cons,Me (by have:=ht.1;omega),VN hk ht d (i+1) j' (by omega) (by omega)]
  show (bif BD (ts.getD i t0) then _ else _)=_
  cases BD (ts.getD i t0) <;> rfl
theorem abe {k:Nat} (hk:1000 <= k) {now ap:Int} {ts:List fq} {bs:List wm} {ha hi:Bool} {js:List gu} {rows:List Int} {off:List Bool} (h:KOK (now,ap,ts,bs,false,ha,hi,js,jk,rows,off)) :
  S12 k (now,ap,ts,bs,false,ha,hi,js,jk,rows,off)=some (((now,ap,ts,bs,!ts.any BD,ha,hi,js,jk,rows,off),(bif ts.any BD then 4 else 0),()),()):=by
 unfold S12
 rw [Xc hk h,Option.bind_some]
 simp only [cond_false]
 have ht:jg ts:=h.tasks
 rw [EU hk,Option.bind_some]
 have e:=VN (now:=now) (ap:=ap) (bs:=bs) (ru:=false) (ha:=ha) (hi:=hi) (js:=js) (rows:=rows) (off:=off) (x1:=0) (x2:=0) (x3:=false) (x4:=false) (x5:=false) hk ht ts.length 0 k (by omega) (by have:=ht.1;omega)
 rw [List.drop_zero] at e
 refine e.trans ?_
 cases ts.any BD <;> rfl
theorem H7 {k:Nat} {now ap:Int} {ts:List fq} {bs:List wm} {ru ha hi:Bool} {js:List gu} {s:List Int} {i:List Bool} {l:List VI} {rows:List Int} {off:List Bool} {ev:List ig} {e:ig} (he:ev.length <= 100000) :
  Wp k now ap ts bs ru ha hi js s i l rows off ev e=some ((),(now,ap,ts,bs,ru,ha,hi,js,s,i,l,rows,off,ev++[(now,e.2)],()),()):=by
 unfold Wp
 rw [Rh (by simp only [List.length_cons,List.length_nil];omega)]
theorem E9 {k:Nat} {now ap:Int} {ts:List fq} {bs:List wm} {ru ha hi:Bool} {js:List gu} {s:List Int} {i:List Bool} {l:List VI} {rows:List Int} {off:List Bool} {ev:List ig} {e:ig} (he:ev.length <= 100000) :
  FC k now ap ts bs ru ha hi js s i l rows off ev e=some ((),(now,ap,ts,bs,ru,ha,hi,js,s,i,l,rows,off,ev++[(now,e.2)],()),()):=by
 unfold FC
 rw [Rh (by simp only [List.length_cons,List.length_nil];omega)]
theorem all_nil {k:Nat} (hk:1000 <= k) (t:Int):acK k [] t=some (([],()),()):=by
 obtain ⟨k,rfl⟩:∃ m,k=m+1:=⟨k - 1,by omega⟩
 unfold acK afw
 rw [Lg (by simp),Option.bind_some]
 rw [acJ,Wq,Rk (by simp)]
theorem amI {k:Nat} (hk:20000 <= k):S9 k=some ((true,()),()):=by
 obtain ⟨k,rfl⟩:∃ m,k=m+20000:=⟨k - 20000,by omega⟩
 kernel_rfl
theorem amJ (k:Nat) {ap:Int} (h1:1 <= ap) (h2:ap <= 4611686018427387904):S25 (k+1000) ap=some (((0,ap,[],[],false,false,false,[],((List.replicate 12 0,List.replicate 12 false),List.replicate 12 (0,(0,0),(0,0),([],[]),(0,[]),0)),[],[]),true,()),()):=by
 unfold S25
 rw [Rk (by omega),Rk (by omega)]
 kernel_rfl
def oq (rows:List Int) (off:List Bool) (n:Nat):(List Int×List Bool)×Bool×Bool :=
 bif (IntKind.i64.wrap (rows.getD n 0+1) != 2)||off.getD n false then ((rows.set n (IntKind.i64.wrap (rows.getD n 0+1)),off),false,false)
 else ((rows.set n (IntKind.i64.wrap (rows.getD n 0+1)),off.set n true),true,!(off.set n true).any (fun b=>false==b))
theorem agV {k:Nat} {s:List Bool} {v:Bool} (h:s.length <= 900) (hk:1000 <= k):afz k s v=some ((RL (fun b=>v==b) s,()),()):=by
 unfold afz
 refine ZY (fun j i=>IE k j s v (s.length:Int) i) s false _ (fun j i hi=>?_) (fun j=>?_) k (by omega)
 ·show IE k (j+1) s v (s.length:Int) (i:Int)=_
  rw [Uv,QX,Rj (by omega),Pw hi,Me (by omega),Px]
 ·show IE k (j+1) s v (s.length:Int) (s.length:Int)=_
  rw [Uv,QX,Rk (by omega)]
theorem agW {k:Nat} (hk:1000 <= k) {rows:List Int} {off:List Bool} {n:Nat} (h1:n<rows.length) (h2:n<off.length) (h3:rows.length <= 900) (h4:off.length <= 900) :
  afA k (rows,off) (n:Int)=some (((oq rows off n).1,(oq rows off n).2.1,(oq rows off n).2.2,()),()):=by
 unfold afA aaK aiM
 simp only
 rw [MN h3,Option.bind_some,SN h4,Option.bind_some,Option.bind_some,Rj (by omega),Option.bind_some]
 simp only
 rw [decide_eq_true (show (n:Int)<mn (rows.length:Int) (off.length:Int) by rw [Rl];omega)]
 simp only [Bool.not_true,cond_false]
 have hs:∀ v:Int,n<(rows.set n v).length:=fun v=>by rw [List.length_set];exact h1
 rw [Pw h1,Pw h1,Px,Mf,Pw (hs _),Px,oh,if_pos ⟨rfl,h1⟩,Pw h2,Px]
 unfold oq
 cases hb:(IntKind.i64.wrap (rows.getD n 0+1) != 2) with
 | true=>rfl
 | false =>
  rw [Bool.false_or,cond_false]
  cases off.getD n false with
  | true=>rfl
  | false =>
   rw [cond_false,cond_false,Pw h2,Mf]
   unfold aiN
   rw [agV (by rw [List.length_set];exact h4) hk]
   simp only [Option.bind_some,aeh]
theorem OW (rows:List Int) (off:List Bool) (n:Nat):(oq rows off n).1.1.length=rows.length /\ (oq rows off n).1.2.length=off.length:=by
 unfold oq
 cases (IntKind.i64.wrap (rows.getD n 0+1) != 2)||off.getD n false <;> simp
def JQ (now t:Int) (b:Bool×Bool):List ig:=[(now,5,t,0,0,0)]++((bif b.1 then [(now,9,t,0,0,0)] else [])++(bif b.2 then [(now,10,0,0,0,0)] else []))
theorem agX {k:Nat} (hk:1000 <= k) {now ap:Int} {ts:List fq} {bs:List wm} {ru ha hi:Bool} {js:List gu} {rows:List Int} {off:List Bool} {ev:List ig} {j:gu} {n:Nat} (hn:j.1=(n:Int)) (he:ev.length <= 10000) (h1:n<rows.length) (h2:n<off.length) (h3:rows.length <= 900) (h4:off.length <= 900) :
  afC k now ap ts bs ru ha hi js jk.1.1 jk.1.2 jk.2 rows off ev j=some ((),(now,ap,ts,bs,ru,ha||(oq rows off n).2.2,hi,js,jk.1.1,jk.1.2,jk.2,(oq rows off n).1.1,(oq rows off n).1.2,ev++JQ now n (oq rows off n).2,()),()):=by
 unfold afC
 rw [hn,H7 (by omega),Option.bind_some]
 simp only
 have hl:S30 k (now,ap,ts,bs,ru,ha,hi,js,((jk.1.1,jk.1.2),jk.2),rows,off)=some (([],()),()):=EU hk
 rw [hl,Option.bind_some]
 simp only
 rw [all_nil hk,Option.bind_some,agT hk,Option.bind_some]
 simp only
 rw [agW hk h1 h2 h3 h4,Option.bind_some]
 simp only
 unfold JQ
 cases (oq rows off n).2.1 with
 | true =>
  rw [cond_true,H7 (by simp;omega),Option.bind_some]
  simp only
  unfold LA
  cases (oq rows off n).2.2 with
  | true =>
   rw [cond_true,H7 (by simp;omega),Option.bind_some]
   simp
  | false=>simp
 | false =>
  rw [cond_false]
  unfold LA
  cases (oq rows off n).2.2 with
  | true =>
   rw [cond_true,H7 (by simp;omega),Option.bind_some]
   simp
  | false=>simp
abbrev abf:Type:=List gu×List ig×List Int×List Bool×Bool
def uq (now:Int) (ts:List fq) (s:abf) (j:gu):abf :=
 bif IntKind.i64.wrap (now - j.2.1) != (ts.getD j.1.toNat t0).2.2.1 then (s.1++[j],s.2.1,s.2.2.1,s.2.2.2.1,s.2.2.2.2)
 else bif j.2.2.2.1==2 then (s.1,s.2.1++[(now,13,j.1,0,0,0)],s.2.2.1,s.2.2.2.1,s.2.2.2.2)
 else (s.1,s.2.1++JQ now j.1 (oq s.2.2.1 s.2.2.2.1 j.1.toNat).2,(oq s.2.2.1 s.2.2.2.1 j.1.toNat).1.1,(oq s.2.2.1 s.2.2.2.1 j.1.toNat).1.2,s.2.2.2.2||(oq s.2.2.1 s.2.2.2.1 j.1.toNat).2.2)
theorem OX (now t:Int) (b:Bool×Bool):(JQ now t b).length <= 3:=by
 obtain ⟨a,b⟩:=b
 unfold JQ
 cases a <;> cases b <;> simp
theorem H8 {k:Nat} (hk:1000 <= k) {now ap:Int} {ts:List fq} {bs:List wm} {ru hi:Bool} {js0 js:List gu} (hl:js.length <= 800) (hjs:∀ j∈js,0 <= j.1 /\ j.1<(ts.length:Int)) (hts:ts.length <= 900) :
  ∀ (d i j:Nat) (s:abf),i+d=js.length -> d<j -> s.1.length <= i -> s.2.1.length <= 3 * i -> s.2.2.1.length=ts.length -> s.2.2.2.1.length=ts.length ->
  Yw k j now ap ts bs ru s.2.2.2.2 hi js0 jk.1.1 jk.1.2 jk.2 s.2.2.1 s.2.2.2.1 s.2.1 s.1 js (js.length:Int) (i:Int) =
   some ((),(now,ap,ts,bs,ru,((js.drop i).foldl (uq now ts) s).2.2.2.2,hi,((js.drop i).foldl (uq now ts) s).1,jk.1.1,jk.1.2,jk.2,((js.drop i).foldl (uq now ts) s).2.2.1,((js.drop i).foldl (uq now ts) s).2.2.2.1,((js.drop i).foldl (uq now ts) s).2.1,()),())
 | 0,i,j,s,h,hjj,h1,h2,h3,h4=>by
  obtain ⟨j',rfl⟩:∃ j',j=j'+1:=⟨j - 1,by omega⟩
  rw [Yx,Yv,Rk (by omega),drop_nil (by omega)]
  rfl
 | d+1,i,j,s,h,hjj,h1,h2,h3,h4=>by
  obtain ⟨j',rfl⟩:∃ j',j=j'+1:=⟨j - 1,by omega⟩
  have hi':i<js.length:=by omega
  have hb:=hjs _ (iq (z:=j0) hi')
  obtain ⟨n,hn⟩:∃ n:Nat,(js.getD i j0).1=(n:Int):=⟨(js.getD i j0).1.toNat,by omega⟩
  have hn2:n<ts.length:=by omega
  have htn:(js.getD i j0).1.toNat=n:=by omega
  rw [Yx,Yv,Rj (by omega),Pw hi',Px,show js.getD i (0,0,0,0,(0,Pv (α:=Int) 8 0,[],false),(0,Pv (α:=Int) 8 0,[],false),[],false)=js.getD i j0 from rfl,hn,Pw hn2,Px,drop_cons j0 hi',List.foldl_cons,Me (by omega)]
  have hw:=OW s.2.2.1 s.2.2.2.1 n
  cases hc:IntKind.i64.wrap (now - (js.getD i j0).2.1) != (ts.getD n t0).2.2.1 with
  | true =>
   have e:uq now ts s (js.getD i j0)=(s.1++[js.getD i j0],s.2.1,s.2.2.1,s.2.2.2.1,s.2.2.2.2):=by unfold uq;rw [htn,hc,cond_true]
   rw [cond_true,Rh (by simp only [List.length_cons,List.length_nil];omega),e]
   exact H8 hk hl hjs hts d (i+1) j' (s.1++[js.getD i j0],s.2.1,s.2.2.1,s.2.2.2.1,s.2.2.2.2) (by omega) (by omega) (by simp only [List.length_append,List.length_cons,List.length_nil];omega) (by simp only;omega) h3 h4
  | false =>
   rw [cond_false]
   cases hp:(js.getD i j0).2.2.2.1==2 with
   | true =>
    have e:uq now ts s (js.getD i j0)=(s.1,s.2.1++[(now,13,(n:Int),0,0,0)],s.2.2.1,s.2.2.2.1,s.2.2.2.2):=by unfold uq;rw [htn,hc,cond_false,hp,cond_true,hn]
    rw [cond_true,H7 (by omega),Option.bind_some,e]
    exact H8 hk hl hjs hts d (i+1) j' (s.1,s.2.1++[(now,13,(n:Int),0,0,0)],s.2.2.1,s.2.2.2.1,s.2.2.2.2) (by omega) (by omega) (by simp only;omega) (by simp;omega) h3 h4
   | false =>
    have e:uq now ts s (js.getD i j0)=(s.1,s.2.1++JQ now n (oq s.2.2.1 s.2.2.2.1 n).2,(oq s.2.2.1 s.2.2.2.1 n).1.1,(oq s.2.2.1 s.2.2.2.1 n).1.2,s.2.2.2.2||(oq s.2.2.1 s.2.2.2.1 n).2.2):=by unfold uq;rw [htn,hc,cond_false,hp,cond_false,hn]
    have hm:=OX now n (oq s.2.2.1 s.2.2.2.1 n).2
    rw [cond_false,agX hk hn (by omega) (by omega) (by omega) (by omega) (by omega),Option.bind_some,e]
    exact H8 hk hl hjs hts d (i+1) j' (s.1,s.2.1++JQ now n (oq s.2.2.1 s.2.2.2.1 n).2,(oq s.2.2.1 s.2.2.2.1 n).1.1,(oq s.2.2.1 s.2.2.2.1 n).1.2,s.2.2.2.2||(oq s.2.2.1 s.2.2.2.1 n).2.2) (by omega) (by omega) (by simp only;omega) (by simp only [List.length_append];omega) (by simp only;omega) (by simp only;omega)
def D5 (now:Int) (ts:List fq) (js:List gu) (rows:List Int) (off:List Bool) (ha:Bool):abf:=js.foldl (uq now ts) ([],[],rows,off,ha)
theorem akx {k:Nat} (hk:1000 <= k) {now ap:Int} {ts:List fq} {bs:List wm} {ru ha hi:Bool} {js:List gu} {rows:List Int} {off:List Bool} (hl:js.length <= 800) (hjs:∀ j∈js,0 <= j.1 /\ j.1<(ts.length:Int)) (hts:ts.length <= 900) (hr:rows.length=ts.length) (ho:off.length=ts.length) :
  S56 k now ap ts bs ru ha hi js jk.1.1 jk.1.2 jk.2 rows off []=some ((),(now,ap,ts,bs,ru,(D5 now ts js rows off ha).2.2.2.2,hi,(D5 now ts js rows off ha).1,jk.1.1,jk.1.2,jk.2,(D5 now ts js rows off ha).2.2.1,(D5 now ts js rows off ha).2.2.2.1,(D5 now ts js rows off ha).2.1,()),()):=by
 unfold S56
 have e:=H8 (ap:=ap) (bs:=bs) (ru:=ru) (hi:=hi) (js0:=js) (now:=now) hk hl hjs hts js.length 0 k ([],[],rows,off,ha) (by omega) (by omega) (by simp) (by simp) hr ho
 rw [List.drop_zero] at e
 exact e
def l9 (now:Int) (bs:List wm) (j:gu):gu :=
 bif j.2.2.2.1 != 2 then (bif decide (IntKind.i64.wrap (now - j.2.1)≥(bs.getD j.1.toNat (Pv (α:=Int) 5 0)).2.2.2.2) then (j.1,j.2.1,j.2.2.1,j.2.2.2.1,j.2.2.2.2.1,j.2.2.2.2.2.1,j.2.2.2.2.2.2.1,true) else j) else j
theorem aeS {α:Type} {f:α -> α} {l:List α} {i:Nat} (z:α) (h:i<l.length):((l.take i).map f++l.drop i).set i (f (l.getD i z))=(l.take (i+1)).map f++l.drop (i+1):=by
 have e:i - ((l.take i).map f).length=0:=by simp;omega
 rw [List.set_append_right _ _ (by simp;omega),e,drop_cons z h,List.set_cons_zero,List.take_succ_eq_append_getElem h,List.map_append,List.append_assoc,getD_in h]
 rfl
theorem aay {α:Type} {f:α -> α} {l:List α} {i:Nat} (z:α) (h:i<l.length):((l.take i).map f++l.drop i).getD i z=l.getD i z:=by
 have e:i - ((l.take i).map f).length=0:=by simp;omega
 rw [j6 (by simp;omega),e,drop_cons z h]
 rfl
theorem agY {α:Type} {f:α -> α} {l:List α} {i:Nat} (h:i <= l.length):((l.take i).map f++l.drop i).length=l.length:=by simp;omega
theorem VO {k:Nat} {now ap:Int} {ts:List fq} {bs:List wm} {ru ha hi:Bool} {js:List gu} {g:List Int} {l:List Bool} {u:List VI} {rows:List Int} {off:List Bool} {ev:List ig} (hl:js.length <= 800) (hjs:∀ j∈js,0 <= j.1 /\ j.1<(bs.length:Int)) :
  ∀ (d i j:Nat),i+d=js.length -> d<j ->
  Yz k j now ap ts bs ru ha hi ((js.take i).map (l9 now bs)++js.drop i) g l u rows off ev (js.length:Int) (i:Int) =
   some ((),(now,ap,ts,bs,ru,ha,hi,js.map (l9 now bs),g,l,u,rows,off,ev,()),())
 | 0,i,j,h,hjj=>by
  obtain ⟨j',rfl⟩:∃ j',j=j'+1:=⟨j - 1,by omega⟩
  rw [YA,Yy,Rk (by omega),drop_nil (by omega),List.take_of_length_le (by omega),List.append_nil]
 | d+1,i,j,h,hjj=>by
  obtain ⟨j',rfl⟩:∃ j',j=j'+1:=⟨j - 1,by omega⟩
  have hi':i<js.length:=by omega
  have hb:=hjs _ (iq (z:=j0) hi')
  obtain ⟨n,hn⟩:∃ n:Nat,(js.getD i j0).1=(n:Int):=⟨(js.getD i j0).1.toNat,by omega⟩
  have hn2:n<bs.length:=by omega
  have htn:(js.getD i j0).1.toNat=n:=by omega
  have hlen:((js.take i).map (l9 now bs)++js.drop i).length=js.length:=agY (by omega)
  have hg:((js.take i).map (l9 now bs)++js.drop i).getD i (0,0,0,0,(0,Pv (α:=Int) 8 0,[],false),(0,Pv (α:=Int) 8 0,[],false),[],false)=js.getD i j0:=aay j0 hi'
  have hst:=aeS (f:=l9 now bs) j0 hi'
  have ih:=VO (k:=k) (now:=now) (ap:=ap) (ts:=ts) (bs:=bs) (ru:=ru) (ha:=ha) (hi:=hi) (js:=js) (g:=g) (l:=l) (u:=u) (rows:=rows) (off:=off) (ev:=ev) hl hjs d (i+1) j' (by omega) (by omega)
  have hsame:l9 now bs (js.getD i j0)=js.getD i j0 -> (js.take i).map (l9 now bs)++js.drop i=(js.take (i+1)).map (l9 now bs)++js.drop (i+1):=fun e=>by
   rw [<- hst,e]
   exact (by have:=AB (l:=(js.take i).map (l9 now bs)++js.drop i) (n:=i) (z:=j0);rw [aay j0 hi'] at this;exact this.symm)
  rw [YA,Yy,Rj (by omega),Pw (by omega),Px,hg,hn,Pw hn2,Px,Me (by omega)]
  cases hp:(js.getD i j0).2.2.2.1 != 2 with
  | false =>
   rw [cond_false,hsame (by unfold l9;rw [hp,cond_false]),ih]
  | true =>
   rw [cond_true]
   by_cases hq:IntKind.i64.wrap (now - (js.getD i j0).2.1)≥(bs.getD n (Pv (α:=Int) 5 0)).2.2.2.2
   ·rw [Rj hq,Pw (by omega),Mf]
    have e:l9 now bs (js.getD i j0)=((n:Int),(js.getD i j0).2.1,(js.getD i j0).2.2.1,(js.getD i j0).2.2.2.1,(js.getD i j0).2.2.2.2.1,(js.getD i j0).2.2.2.2.2.1,(js.getD i j0).2.2.2.2.2.2.1,true):=by unfold l9;rw [hp,cond_true,htn,Rj hq,hn]
    rw [<- e,hst,ih]
   ·rw [Rk hq,hsame (by unfold l9;rw [hp,cond_true,htn,Rk hq]),ih]
theorem aky {k:Nat} (hk:1000 <= k) {now ap:Int} {ts:List fq} {bs:List wm} {ru ha hi:Bool} {js:List gu} {g:List Int} {l:List Bool} {u:List VI} {rows:List Int} {off:List Bool} {ev:List ig} (hl:js.length <= 800) (hjs:∀ j∈js,0 <= j.1 /\ j.1<(bs.length:Int)) :
  S57 k now ap ts bs ru ha hi js g l u rows off ev=some ((),(now,ap,ts,bs,ru,ha,hi,js.map (l9 now bs),g,l,u,rows,off,ev,()),()):=by
 unfold S57
 exact VO hl hjs js.length 0 k (by omega) (by omega)
theorem akz {k:Nat} (hk:1000 <= k) {now ap:Int} {ts:List fq} {bs:List wm} {ru ha hi:Bool} {js:List gu} {rows:List Int} {off:List Bool} {ev:List ig} :
  S58 k now ap ts bs ru ha hi js jk.1.1 jk.1.2 jk.2 rows off ev=some ((),(now,ap,ts,bs,ru,ha,hi,js,jk.1.1,jk.1.2,jk.2,rows,off,ev,()),()):=by
 unfold S58
 rw [show afG k ((jk.1.1,jk.1.2),jk.2)=_ from abd hk,Option.bind_some]
 obtain ⟨k,rfl⟩:∃ m,k=m+1:=⟨k - 1,by omega⟩
 simp only
 rw [afH,ac5,Rk (by simp)]
def qd (l:List I4) (m:d9):I4:=l.getD m.1.toNat i0
def stepM (l:List I4) (m:d9):d9:=((go (qd l m) (m.1.toNat:Int) m.2.1 m.2.2.1.reverse).1,N7 (qd l m) m.2.1,(go (qd l m) (m.1.toNat:Int) m.2.1 m.2.2.1.reverse).2.reverse,(qd l m).1==0)
structure MOK (l:List I4) (m:d9):Prop where
 len:l.length <= 900
 pc:0 <= m.1 /\ m.1.toNat<l.length
 may:ji (qd l m)=true
 amL:m.2.2.1.length <= 100
 bound:∀ r∈m.2.2.1,r.2.2 <= 1000
 mem:inM m.2.1
 on:m.2.2.2=false
 plain:(qd l m).1≠9 /\ (qd l m).1≠10
theorem aeT {k:Nat} (hk:1000 <= k) {l:List I4} {m:d9} (h:MOK l m):ado k l m=some ((stepM l m,qd l m,true,()),()):=by
 obtain ⟨pc,mem,rs,ov⟩:=m
 obtain ⟨n,rfl⟩:∃ n:Nat,pc=(n:Int):=⟨pc.toNat,by have:0 <= pc:=h.pc.1;omega⟩
 have ho:ov=false:=h.on
 subst ho
 have e:=agK hk (l:=l) (n:=n) (mem:=mem) (R:=rs.reverse) h.len (by have:(n:Int).toNat<l.length:=h.pc.2;omega) h.may (by rw [List.length_reverse];exact h.amL) (fun r hr=>h.bound r (List.mem_reverse.1 hr)) h.mem
 rw [List.reverse_reverse] at e
 exact e
def BP (t:fq) (p:Int):List I4:=bif p==0 then t.2.2.2.1 else bif p==1 then t.2.2.2.2.1 else t.2.2.2.2.2
theorem agZ {k:Nat} {t:fq} (ht:CP t) {j:gu} (hp:0 <= j.2.2.2.1 /\ j.2.2.2.1 <= 2):afP k t j=some ((BP t j.2.2.2.1,()),()):=by
 unfold afP
 obtain ⟨a,b,c,p,r⟩:=j
 have hp':p=0 \/ p=1 \/ p=2:=by have:0 <= p /\ p <= 2:=hp;omega
 rcases hp' with rfl | rfl | rfl
 ·rw [show Tx (.int .i64) (.sl _ (.pair (.int .i64) (.pair (.int .i64) (.pair (.int .i64) (.int .i64))))) (0:Int) _ ([]:List I4)=t.2.2.2.1 from rfl,ES ht.1,Option.bind_some];rfl
 ·rw [show Tx (.int .i64) (.sl _ (.pair (.int .i64) (.pair (.int .i64) (.pair (.int .i64) (.int .i64))))) (1:Int) _ ([]:List I4)=t.2.2.2.2.1 from rfl,ES ht.2.1,Option.bind_some];rfl
 ·rw [show Tx (.int .i64) (.sl _ (.pair (.int .i64) (.pair (.int .i64) (.pair (.int .i64) (.int .i64))))) (2:Int) _ ([]:List I4)=t.2.2.2.2.2 from rfl,ES ht.2.2,Option.bind_some];rfl
theorem KO {k:Nat} {m:d9} (h:m.2.2.1.length <= 900):UR k m=some ((m,()),()):=by
 unfold UR
 rw [Xb h,Option.bind_some]
theorem SQ {k:Nat} {j:gu} (h:Xa j):WA k j=some ((j,()),()):=by
 unfold WA
 rw [KO (by have:=h.m;omega),Option.bind_some,KO (by have:=h.kept;omega),Option.bind_some,MN (by rw [h.held];simp),Option.bind_some]
structure GOK (ts:List fq) (j:gu):Prop where
 ok:Xa j
 task:0 <= j.1 /\ j.1<(ts.length:Int)
 phase:0 <= j.2.2.2.1 /\ j.2.2.2.1 <= 2
 m:MOK (BP (ts.getD j.1.toNat t0) j.2.2.2.1) j.2.2.2.2.1
def N8 (t:fq) (j:gu):gu:=(j.1,j.2.1,j.2.2.1,j.2.2.2.1,stepM (BP t j.2.2.2.1) j.2.2.2.2.1,(bif (qd (BP t j.2.2.2.1) j.2.2.2.2.1).1==11 then stepM (BP t j.2.2.2.1) j.2.2.2.2.1 else j.2.2.2.2.2.1),j.2.2.2.2.2.2)
theorem abg {l:List I4} {m:d9} (h:MOK l m):(stepM l m).2.2.1.length <= 900:=by
 have hg:∀ (R:List dz) (pc:Int),(o9 pc R).2.length <= R.length:=fun R=>by
  induction R with
  | nil=>intro pc;simp [o9]
  | cons r R ih =>
   intro pc
   rw [o9]
   by_cases a:r.2.1<pc
   ·rw [if_pos a]
    by_cases b:r.2.2>0
    ·rw [if_pos b];simp
    ·rw [if_neg b];have:=ih pc;simp only [List.length_cons];omega
   ·rw [if_neg a];exact Nat.le_refl _
 have hn:∀ (x:I4) (pc:Int) (mem:Mem) (R:List dz),(gU x pc mem R).2.length <= R.length+1:=fun x pc mem R=>by
  unfold gU;split;· simp
  ·split;· split <;> simp
   ·split <;> simp
 unfold stepM
 rw [List.length_reverse]
 unfold go
 have h1:=hg (gU (qd l m) (m.1.toNat:Int) m.2.1 m.2.2.1.reverse).2 (gU (qd l m) (m.1.toNat:Int) m.2.1 m.2.2.1.reverse).1
 have h2:=hn (qd l m) (m.1.toNat:Int) m.2.1 m.2.2.1.reverse
 rw [List.length_reverse] at h2
 have:=h.amL
 omega
theorem ag0 {k:Nat} (hk:1000 <= k) {ts:List fq} {j:gu} (ht:CP (ts.getD j.1.toNat t0)) (h:GOK ts j) :
  adp k (ts.getD j.1.toNat t0) j=some ((N8 (ts.getD j.1.toNat t0) j,qd (BP (ts.getD j.1.toNat t0) j.2.2.2.1) j.2.2.2.2.1,true,()),()):=by
 unfold adp
 rw [SQ h.ok,Option.bind_some,agZ ht h.phase,Option.bind_some,aeT hk h.m,Option.bind_some]
 simp only [Bool.not_true,cond_false]
 have hp:=h.m.plain
 unfold N8
 cases e:(qd (BP (ts.getD j.1.toNat t0) j.2.2.2.1) j.2.2.2.2.1).1==11 with
 | true=>rw [cond_true,cond_true,KO (abg h.m),Option.bind_some]
 | false =>
  rw [cond_false,cond_false,beq_eq_false_iff_ne.2 hp.1,cond_false,beq_eq_false_iff_ne.2 hp.2,cond_false]
theorem ag1 {k:Nat} {r:List Int} {o:List Bool} {n:Nat} (h1:r.length <= 900) (h2:o.length <= 900) (h:n<r.length):S83 k (r,o) (n:Int)=some (((r.set n 0,o),()),()):=by
 unfold S83 aaK
 simp only
 rw [MN h1,Option.bind_some,SN h2,Option.bind_some,Option.bind_some,Rj (by omega),Rj (by simp only;omega),Pw h,Mf]
def N9 (a:Int):d9:=(0,(a,0,0,0,0,0,0,0),[],false)
def ag2 (j:gu):gu:=(j.1,j.2.1,j.2.2.1,2,N9 j.2.2.2.2.1.2.1.1,N9 j.2.2.2.2.1.2.1.1,[],false)
def flJ (j:gu):Int×Int×Int×Int×Int×Int×Int×Int×Int×Int×Int×Int×Int×List dz×Bool×Int×Int×Int×Int×Int×Int×Int×Int×Int×List dz×Bool×List Int×Bool×Unit:=(j.1,j.2.1,j.2.2.1,j.2.2.2.1,j.2.2.2.2.1.1,j.2.2.2.2.1.2.1.1,j.2.2.2.2.1.2.1.2.1,j.2.2.2.2.1.2.1.2.2.1,j.2.2.2.2.1.2.1.2.2.2.1,j.2.2.2.2.1.2.1.2.2.2.2.1,j.2.2.2.2.1.2.1.2.2.2.2.2.1,j.2.2.2.2.1.2.1.2.2.2.2.2.2.1,j.2.2.2.2.1.2.1.2.2.2.2.2.2.2,j.2.2.2.2.1.2.2.1,j.2.2.2.2.1.2.2.2,j.2.2.2.2.2.1.1,j.2.2.2.2.2.1.2.1.1,j.2.2.2.2.2.1.2.1.2.1,j.2.2.2.2.2.1.2.1.2.2.1,j.2.2.2.2.2.1.2.1.2.2.2.1,j.2.2.2.2.2.1.2.1.2.2.2.2.1,j.2.2.2.2.2.1.2.1.2.2.2.2.2.1,j.2.2.2.2.2.1.2.1.2.2.2.2.2.2.1,j.2.2.2.2.2.1.2.1.2.2.2.2.2.2.2,j.2.2.2.2.2.1.2.2.1,j.2.2.2.2.2.1.2.2.2,j.2.2.2.2.2.2.1,j.2.2.2.2.2.2.2,())
abbrev RunT:Type:=gu×Bool×List ig×List Int
def H9 (now:Int) (t:fq) (j:gu) (rows:List Int):RunT :=
 bif j.2.2.2.1==2 then (j,true,[(now,4,j.1,0,j.2.2.2.2.1.2.1.1,0)],rows)
 else (ag2 j,(t.2.2.2.2.2.length:Int)==0,[(now,3,j.1,0,j.2.2.2.2.1.2.1.1,0)]++(bif (j.2.2.2.1==0)&&decide ((t.2.2.2.2.1.length:Int)>0) then [(now,8,j.1,0,0,0)] else []),rows.set j.1.toNat 0)
theorem OY {k:Nat} (hk:1000 <= k) {now ap:Int} {ts:List fq} {bs:List wm} {ru ha hi:Bool} {js:List gu} {rows:List Int} {off:List Bool} {ev:List ig} {j:gu} (hj:Xa j) (h:0 <= j.1 /\ j.1<(ts.length:Int)) (hr:rows.length=ts.length) (ho:off.length <= 900) (ht:ts.length <= 900) :
  IV k now ap ts bs ru ha hi js jk.1.1 jk.1.2 jk.2 rows off ev j.1 j.2.1 j.2.2.1 j.2.2.2.1 j.2.2.2.2.1.1 j.2.2.2.2.1.2.1.1 j.2.2.2.2.1.2.1.2.1 j.2.2.2.2.1.2.1.2.2.1 j.2.2.2.2.1.2.1.2.2.2.1 j.2.2.2.2.1.2.1.2.2.2.2.1 j.2.2.2.2.1.2.1.2.2.2.2.2.1 j.2.2.2.2.1.2.1.2.2.2.2.2.2.1 j.2.2.2.2.1.2.1.2.2.2.2.2.2.2 j.2.2.2.2.1.2.2.1 j.2.2.2.2.1.2.2.2 j.2.2.2.2.2.1.1 j.2.2.2.2.2.1.2.1.1 j.2.2.2.2.2.1.2.1.2.1 j.2.2.2.2.2.1.2.1.2.2.1 j.2.2.2.2.2.1.2.1.2.2.2.1 j.2.2.2.2.2.1.2.1.2.2.2.2.1 j.2.2.2.2.2.1.2.1.2.2.2.2.2.1 j.2.2.2.2.2.1.2.1.2.2.2.2.2.2.1 j.2.2.2.2.2.1.2.1.2.2.2.2.2.2.2 j.2.2.2.2.2.1.2.2.1 j.2.2.2.2.2.1.2.2.2 j.2.2.2.2.2.2.1 j.2.2.2.2.2.2.2=some (((((ts.getD j.1.toNat t0).2.2.2.2.2.length:Int)==0),()),(now,ap,ts,bs,ru,ha,hi,js,jk.1.1,jk.1.2,jk.2,rows.set j.1.toNat 0,off,ev,()),flJ (ag2 j),()):=by
 obtain ⟨n,hn⟩:∃ n:Nat,j.1=(n:Int):=⟨j.1.toNat,by omega⟩
 unfold IV ai7 S99
 rw [show WA k (j.1,j.2.1,j.2.2.1,j.2.2.2.1,(j.2.2.2.2.1.1,(j.2.2.2.2.1.2.1.1,j.2.2.2.2.1.2.1.2.1,j.2.2.2.2.1.2.1.2.2.1,j.2.2.2.2.1.2.1.2.2.2.1,j.2.2.2.2.1.2.1.2.2.2.2.1,j.2.2.2.2.1.2.1.2.2.2.2.2.1,j.2.2.2.2.1.2.1.2.2.2.2.2.2.1,j.2.2.2.2.1.2.1.2.2.2.2.2.2.2),j.2.2.2.2.1.2.2.1,j.2.2.2.2.1.2.2.2),(j.2.2.2.2.2.1.1,(j.2.2.2.2.2.1.2.1.1,j.2.2.2.2.2.1.2.1.2.1,j.2.2.2.2.2.1.2.1.2.2.1,j.2.2.2.2.2.1.2.1.2.2.2.1,j.2.2.2.2.2.1.2.1.2.2.2.2.1,j.2.2.2.2.2.1.2.1.2.2.2.2.2.1,j.2.2.2.2.2.1.2.1.2.2.2.2.2.2.1,j.2.2.2.2.2.1.2.1.2.2.2.2.2.2.2),j.2.2.2.2.2.1.2.2.1,j.2.2.2.2.2.1.2.2.2),j.2.2.2.2.2.2.1,j.2.2.2.2.2.2.2)=some ((j,()),()) from SQ hj,hn,ag1 (by omega) ho (by omega)]
 simp only [Option.bind_some]
 rw [hn,Pw (by omega),Px,Int.toNat_natCast]
 unfold flJ ag2 N9
 simp only [hn]
theorem ag3 {k:Nat} (hk:1000 <= k) {now ap:Int} {ts:List fq} {bs:List wm} {ru ha hi:Bool} {js:List gu} {rows:List Int} {off:List Bool} {ev:List ig} {j:gu} (hj:Xa j) (h:0 <= j.1 /\ j.1<(ts.length:Int)) (hr:rows.length=ts.length) (ho:off.length <= 900) (ht:ts.length <= 900) (he:ev.length <= 10000) :
  afX k now ap ts bs ru ha hi js jk.1.1 jk.1.2 jk.2 rows off ev j.1 j.2.1 j.2.2.1 j.2.2.2.1 j.2.2.2.2.1.1 j.2.2.2.2.1.2.1.1 j.2.2.2.2.1.2.1.2.1 j.2.2.2.2.1.2.1.2.2.1 j.2.2.2.2.1.2.1.2.2.2.1 j.2.2.2.2.1.2.1.2.2.2.2.1 j.2.2.2.2.1.2.1.2.2.2.2.2.1 j.2.2.2.2.1.2.1.2.2.2.2.2.2.1 j.2.2.2.2.1.2.1.2.2.2.2.2.2.2 j.2.2.2.2.1.2.2.1 j.2.2.2.2.1.2.2.2 j.2.2.2.2.2.1.1 j.2.2.2.2.2.1.2.1.1 j.2.2.2.2.2.1.2.1.2.1 j.2.2.2.2.2.1.2.1.2.2.1 j.2.2.2.2.2.1.2.1.2.2.2.1 j.2.2.2.2.2.1.2.1.2.2.2.2.1 j.2.2.2.2.2.1.2.1.2.2.2.2.2.1 j.2.2.2.2.2.1.2.1.2.2.2.2.2.2.1 j.2.2.2.2.2.1.2.1.2.2.2.2.2.2.2 j.2.2.2.2.2.1.2.2.1 j.2.2.2.2.2.1.2.2.2 j.2.2.2.2.2.2.1 j.2.2.2.2.2.2.2=some (((H9 now (ts.getD j.1.toNat t0) j rows).2.1,()),(now,ap,ts,bs,ru,ha,hi,js,jk.1.1,jk.1.2,jk.2,(H9 now (ts.getD j.1.toNat t0) j rows).2.2.2,off,ev++(H9 now (ts.getD j.1.toNat t0) j rows).2.2.1,()),flJ (H9 now (ts.getD j.1.toNat t0) j rows).1,()):=by
 obtain ⟨n,hn⟩:∃ n:Nat,j.1=(n:Int):=⟨j.1.toNat,by omega⟩
 unfold afX H9
 cases hp:j.2.2.2.1==2 with
 | true =>
  simp only [cond_true]
  rw [E9 (by omega),Option.bind_some]
  rfl
 | false =>
  simp only [cond_false]
  rw [E9 (by omega),Option.bind_some]
  simp only
  cases hp0:j.2.2.2.1==0 with
  | false =>
   simp only [cond_false,Bool.false_and,List.append_nil]
   exact OY hk hj h hr ho ht
  | true =>
   simp only [cond_true,Bool.true_and]
   rw [hn,Pw (by omega),Px,<- hn,show ts.getD n (0,0,0,[],[],[])=ts.getD n t0 from rfl]
   have e:=fun ev:List ig=>OY (now:=now) (ap:=ap) (bs:=bs) (ru:=ru) (ha:=ha) (hi:=hi) (js:=js) (off:=off) (ev:=ev) hk hj h hr ho ht
   rw [show j.1.toNat=n by omega] at e ⊢
   cases hw:decide (((ts.getD n t0).2.2.2.2.1.length:Int)>0) with
   | false =>
    simp only [cond_false,List.append_nil]
    exact e _
   | true =>
    simp only [cond_true]
    rw [E9 (by simp;omega),Option.bind_some]
    simp only
    rw [<- List.append_assoc]
    exact e _
def AJ (now:Int) (t:fq) (j:gu) (rows:List Int):RunT :=
 bif (N8 t j).2.2.2.2.1.2.2.2 then H9 now t (N8 t j) rows else (N8 t j,false,[],rows)
theorem Xd {l:List I4} {m:d9} (h:MOK l m):(stepM l m).2.2.1.length <= m.2.2.1.length+1:=by
 have hg:∀ (R:List dz) (pc:Int),(o9 pc R).2.length <= R.length:=fun R=>by
  induction R with
  | nil=>intro pc;simp [o9]
  | cons r R ih =>
   intro pc
   rw [o9]
   by_cases a:r.2.1<pc
   ·rw [if_pos a]
    by_cases b:r.2.2>0
    ·rw [if_pos b];simp
    ·rw [if_neg b];have:=ih pc;simp only [List.length_cons];omega
   ·rw [if_neg a];exact Nat.le_refl _
 have hn:∀ (x:I4) (pc:Int) (mem:Mem) (R:List dz),(gU x pc mem R).2.length <= R.length+1:=fun x pc mem R=>by
  unfold gU;split;· simp
  ·split;· split <;> simp
   ·split <;> simp
 unfold stepM
 rw [List.length_reverse]
 unfold go
 have h1:=hg (gU (qd l m) (m.1.toNat:Int) m.2.1 m.2.2.1.reverse).2 (gU (qd l m) (m.1.toNat:Int) m.2.1 m.2.2.1.reverse).1
 have h2:=hn (qd l m) (m.1.toNat:Int) m.2.1 m.2.2.1.reverse
 rw [List.length_reverse] at h2
 omega
def few (j:gu):Prop:=j.2.2.2.2.1.2.2.1.length <= 10 /\ j.2.2.2.2.2.1.2.2.1.length <= 10
theorem akA {ts:List fq} {j:gu} (h:GOK ts j) (hf:few j):Xa (N8 (ts.getD j.1.toNat t0) j):=by
 have h1:=Xd h.m
 have h2:=hf.1
 have h3:=hf.2
 refine ⟨h.ok.held,?_,?_⟩
 ·show (stepM _ _).2.2.1.length <= 100
  omega
 ·show (bif _ then stepM _ _ else _).2.2.1.length <= 100
  cases (qd (BP (ts.getD j.1.toNat t0) j.2.2.2.1) j.2.2.2.2.1).1==11 with
  | true=>rw [cond_true];omega
  | false=>rw [cond_false];omega
theorem ag4 {k:Nat} (hk:1000 <= k) {now ap:Int} {ts:List fq} {bs:List wm} {ru ha hi:Bool} {js:List gu} {rows:List Int} {off:List Bool} {ev:List ig} {j:gu} (hL:jg ts) (hj:GOK ts j) (hf:few j) (hr:rows.length=ts.length) (ho:off.length <= 900) (he:ev.length <= 10000) :
  afY k now ap ts bs ru ha hi js jk.1.1 jk.1.2 jk.2 rows off ev j.1 j.2.1 j.2.2.1 j.2.2.2.1 j.2.2.2.2.1.1 j.2.2.2.2.1.2.1.1 j.2.2.2.2.1.2.1.2.1 j.2.2.2.2.1.2.1.2.2.1 j.2.2.2.2.1.2.1.2.2.2.1 j.2.2.2.2.1.2.1.2.2.2.2.1 j.2.2.2.2.1.2.1.2.2.2.2.2.1 j.2.2.2.2.1.2.1.2.2.2.2.2.2.1 j.2.2.2.2.1.2.1.2.2.2.2.2.2.2 j.2.2.2.2.1.2.2.1 j.2.2.2.2.1.2.2.2 j.2.2.2.2.2.1.1 j.2.2.2.2.2.1.2.1.1 j.2.2.2.2.2.1.2.1.2.1 j.2.2.2.2.2.1.2.1.2.2.1 j.2.2.2.2.2.1.2.1.2.2.2.1 j.2.2.2.2.2.1.2.1.2.2.2.2.1 j.2.2.2.2.2.1.2.1.2.2.2.2.2.1 j.2.2.2.2.2.1.2.1.2.2.2.2.2.2.1 j.2.2.2.2.2.1.2.1.2.2.2.2.2.2.2 j.2.2.2.2.2.1.2.2.1 j.2.2.2.2.2.1.2.2.2 j.2.2.2.2.2.2.1 j.2.2.2.2.2.2.2=some (((AJ now (ts.getD j.1.toNat t0) j rows).2.1,()),(now,ap,ts,bs,ru,ha,hi,js,jk.1.1,jk.1.2,jk.2,(AJ now (ts.getD j.1.toNat t0) j rows).2.2.2,off,ev++(AJ now (ts.getD j.1.toNat t0) j rows).2.2.1,()),flJ (AJ now (ts.getD j.1.toNat t0) j rows).1,()):=by
 have h:=hj.task
 have hl:=hL.1
 have ht:=(hL.2 _ (iq (z:=t0) (l:=ts) (i:=j.1.toNat) (by omega))).1
 have hok:=akA hj hf
 have hp:=hj.m.plain
 have eg:adp k (rd ts j.1 (0,0,0,[],[],[])) j=_:=ag0 hk ht hj
 unfold afY
 rw [Lf h.1 h.2]
 refine (congrArg (fun x=>Option.bind x _) eg).trans ?_
 simp only [Option.bind_some,Bool.not_true,cond_false]
 rw [beq_eq_false_iff_ne.2 hp.1,cond_false,beq_eq_false_iff_ne.2 hp.2,cond_false]
 unfold GK AJ
 cases e:(N8 (ts.getD j.1.toNat t0) j).2.2.2.2.1.2.2.2 with
 | true =>
  simp only [cond_true]
  have ed:=ag3 (now:=now) (ap:=ap) (bs:=bs) (ru:=ru) (ha:=ha) (hi:=hi) (js:=js) (rows:=rows) (off:=off) (ev:=ev) (j:=N8 (ts.getD j.1.toNat t0) j) hk hok h hr ho (by omega) he
  rw [e] at ed
  rw [ed,Option.bind_some]
  rfl
 | false =>
  simp only [cond_false,List.append_nil]
  unfold flJ
  rw [e]
def HV (t:fq) (j:gu):gu :=
 bif (j.2.2.2.1==0)&&decide ((t.2.2.2.2.1.length:Int)>0) then (j.1,j.2.1,j.2.2.1,1,N9 j.2.2.1,N9 j.2.2.1,[],j.2.2.2.2.2.2.2)
 else (j.1,j.2.1,j.2.2.1,j.2.2.2.1,j.2.2.2.2.2.1,j.2.2.2.2.2.1,[],j.2.2.2.2.2.2.2)
def ze (now:Int) (t:fq) (j:gu) (rows:List Int):RunT :=
 bif j.2.2.2.1==2 then (j,true,[(now,13,j.1,0,0,0)],rows)
 else bif (j.2.2.2.1==0)&&decide ((t.2.2.2.2.1.length:Int)>0) then (HV t j,false,[(now,7,j.1,0,0,0)],rows)
 else (HV t j,false,[(now,6,j.1,0,0,0)],rows)
theorem ag5 {k:Nat} {t:fq} {j:gu} (h:Xa j):afN k t j=some ((HV t j,()),()):=by
 unfold afN S99 HV
 rw [SQ h,Option.bind_some]
 simp only [Option.bind_some]
 have hm:=KO (k:=k) (m:=j.2.2.2.2.2.1) (by have:=h.kept;omega)
 rw [hm]
 simp only [Option.bind_some]
 cases j.2.2.2.1==0 with
 | false=>rfl
 | true=>rw [Bool.true_and,cond_true];cases decide ((t.2.2.2.2.1.length:Int)>0) <;> rfl
theorem ag6 {k:Nat} (hk:1000 <= k) {t:fq} {j:gu} (h:Xa j) (now:Int) (rows:List Int):adi k t j []=some (((ze now t j rows).1,[],(bif j.2.2.2.1==2 then 13 else bif (j.2.2.2.1==0)&&decide ((t.2.2.2.2.1.length:Int)>0) then 7 else 6),()),()):=by
 unfold adi ze
 rw [ag5 h,Option.bind_some,all_nil hk,Option.bind_some,aeQ hk h]
 cases hp:j.2.2.2.1==2 with
 | true=>simp
 | false =>
  simp only [cond_false,Option.bind_some]
  unfold HV
  cases hp0:j.2.2.2.1==0 with
  | false=>simp
  | true =>
   have:j.2.2.2.1=0:=by simpa using hp0
   cases decide ((t.2.2.2.2.1.length:Int)>0) with
   | true=>simp [this]
   | false=>simp
theorem ag7 {k:Nat} (hk:1000 <= k) {now ap:Int} {ts:List fq} {bs:List wm} {ru ha hi:Bool} {js:List gu} {rows:List Int} {off:List Bool} {ev:List ig} {j:gu} (hj:Xa j) (h:0 <= j.1 /\ j.1<(ts.length:Int)) (he:ev.length <= 10000) :
  afO k now ap ts bs ru ha hi js jk.1.1 jk.1.2 jk.2 rows off ev j.1 j.2.1 j.2.2.1 j.2.2.2.1 j.2.2.2.2.1.1 j.2.2.2.2.1.2.1.1 j.2.2.2.2.1.2.1.2.1 j.2.2.2.2.1.2.1.2.2.1 j.2.2.2.2.1.2.1.2.2.2.1 j.2.2.2.2.1.2.1.2.2.2.2.1 j.2.2.2.2.1.2.1.2.2.2.2.2.1 j.2.2.2.2.1.2.1.2.2.2.2.2.2.1 j.2.2.2.2.1.2.1.2.2.2.2.2.2.2 j.2.2.2.2.1.2.2.1 j.2.2.2.2.1.2.2.2 j.2.2.2.2.2.1.1 j.2.2.2.2.2.1.2.1.1 j.2.2.2.2.2.1.2.1.2.1 j.2.2.2.2.2.1.2.1.2.2.1 j.2.2.2.2.2.1.2.1.2.2.2.1 j.2.2.2.2.2.1.2.1.2.2.2.2.1 j.2.2.2.2.2.1.2.1.2.2.2.2.2.1 j.2.2.2.2.2.1.2.1.2.2.2.2.2.2.1 j.2.2.2.2.2.1.2.1.2.2.2.2.2.2.2 j.2.2.2.2.2.1.2.2.1 j.2.2.2.2.2.1.2.2.2 j.2.2.2.2.2.2.1 j.2.2.2.2.2.2.2=some (((ze now (ts.getD j.1.toNat t0) j rows).2.1,()),(now,ap,ts,bs,ru,ha,hi,js,jk.1.1,jk.1.2,jk.2,rows,off,ev++(ze now (ts.getD j.1.toNat t0) j rows).2.2.1,()),flJ (ze now (ts.getD j.1.toNat t0) j rows).1,()):=by
 unfold afO
 rw [Lf h.1 h.2]
 have hl:S30 k (now,ap,ts,bs,ru,ha,hi,js,((jk.1.1,jk.1.2),jk.2),rows,off)=some (([],()),()):=EU hk
 rw [hl,Option.bind_some]
 have eg:adi k (rd ts j.1 (0,0,0,[],[],[])) j []=_:=ag6 hk hj now rows
 refine (congrArg (fun x=>Option.bind x _) eg).trans ?_
 simp only [Option.bind_some]
 rw [agU hk,Option.bind_some]
 simp only
 rw [E9 (by omega),Option.bind_some]
 simp only
 show _=some (((ze now (rd ts j.1 (0,0,0,[],[],[])) j rows).2.1,()),(now,ap,ts,bs,ru,ha,hi,js,jk.1.1,jk.1.2,jk.2,rows,off,ev++(ze now (rd ts j.1 (0,0,0,[],[],[])) j rows).2.2.1,()),flJ (ze now (rd ts j.1 (0,0,0,[],[],[])) j rows).1,())
 generalize rd ts j.1 (0,0,0,[],[],[])=t
 have h1:(ze now t j rows).1.1=j.1:=by
  unfold ze HV
  cases j.2.2.2.1==2 <;> cases (j.2.2.2.1==0)&&decide ((t.2.2.2.2.1.length:Int)>0) <;> rfl
 unfold flJ
 have h2:((bif j.2.2.2.1==2 then 13 else bif (j.2.2.2.1==0)&&decide ((t.2.2.2.2.1.length:Int)>0) then 7 else 6:Int)==13)=(ze now t j rows).2.1:=by
  unfold ze
  cases j.2.2.2.1==2 <;> cases (j.2.2.2.1==0)&&decide ((t.2.2.2.2.1.length:Int)>0) <;> rfl
 have h3:[(now,(bif j.2.2.2.1==2 then 13 else bif (j.2.2.2.1==0)&&decide ((t.2.2.2.2.1.length:Int)>0) then 7 else 6:Int),j.1,0,0,0)]=(ze now t j rows).2.2.1:=by
  unfold ze
  cases j.2.2.2.1==2 <;> cases (j.2.2.2.1==0)&&decide ((t.2.2.2.2.1.length:Int)>0) <;> rfl
 rw [h1,h2,h3]
abbrev Pk3:Type:=Int×Int×Int
abbrev VP:Pk3:=(0,0,0)
def BF (n:Int) (j:gu):Pk3:=(bif j.2.2.2.1==2 then n+n+j.1 else bif j.2.2.2.2.2.2.2 then j.1 else n+j.1,1,j.1)
def FY (a b:Int):Int:=bif decide (a<b) then -1 else bif decide (a>b) then 1 else 0
def MO (p q:Pk3):Int:=bif FY p.1 q.1 != 0 then FY p.1 q.1 else bif FY p.2.1 q.2.1 != 0 then FY p.2.1 q.2.1 else FY p.2.2 q.2.2
theorem SS (k:Nat) (a b:Int):aaO k a b=some ((FY a b,()),()):=by
 unfold aaO afK FY
 simp only [Option.bind_some,bne_self_eq_false,cond_false]
 cases decide (a<b) with
 | true=>rfl
 | false=>cases decide (a>b) <;> rfl
theorem aaz {k:Nat} (hk:1000 <= k) (p q:Pk3):aaP k p q=some ((MO p q,()),()):=by
 unfold aaP MO
 rw [SS,Option.bind_some,SS,Option.bind_some,SS,Option.bind_some]
 simp only
 generalize FY p.1 q.1=a
 generalize FY p.2.1 q.2.1=b
 generalize FY p.2.2 q.2.2=c
 unfold ai2
 obtain ⟨k,rfl⟩:∃ m,k=m+4:=⟨k - 4,by omega⟩
 rw [GI,IJ,Rj (by simp),Lf (by omega) (by simp)]
 show Option.bind (bif a != 0 then _ else _) _=_
 cases a != 0 with
 | true=>rfl
 | false =>
  rw [cond_false,cond_false,show IntKind.i64.wrap ((0:Int)+1)=1 from rfl,GI,IJ,Rj (by simp),Lf (by omega) (by simp)]
  show Option.bind (bif b != 0 then _ else _) _=_
  cases b != 0 with
  | true=>rfl
  | false =>
   rw [cond_false,cond_false,show IntKind.i64.wrap ((1:Int)+1)=2 from rfl,GI,IJ,Rj (by simp),Lf (by omega) (by simp)]
   show Option.bind (bif c != 0 then _ else _) _=_
   cases hc:c != 0 with
   | true=>rfl
   | false =>
    have:c=0:=by simpa using hc
    subst this
    rw [cond_false,show IntKind.i64.wrap ((2:Int)+1)=3 from rfl,GI,IJ,Rk (by simp)]
    rfl
theorem ag8 {k:Nat} (hk:1000 <= k) (s:List (Int×Int)) (t:Int):ac9 k s [] t=some ((0,false,()),()):=by
 obtain ⟨k,rfl⟩:∃ m,k=m+1:=⟨k - 1,by omega⟩
 unfold ac9
 rw [ac8,Wx,Rk (by simp)]
theorem ag9 {k:Nat} (hk:1000 <= k) {j:gu} (h:Xa j) {n:Int} (hn:0 <= n /\ n <= 1000) (ht:0 <= j.1 /\ j.1 <= 1000):afJ k j n []=some ((BF n j,()),()):=by
 unfold afJ ai1 afI BF
 rw [h.held,ag8 hk,Option.bind_some]
 simp only [cond_false,Option.bind_some]
 cases j.2.2.2.1==2 with
 | true =>
  simp only [cond_true,Option.bind_some]
  rw [Ua (n:=n+n) (by omega) (by omega),Ua (by omega) (by omega)]
 | false =>
  simp only [cond_false]
  cases j.2.2.2.2.2.2.2 with
  | true=>rfl
  | false =>
   simp only [cond_false,Option.bind_some]
   rw [Ua (by omega) (by omega)]
theorem aaA {k:Nat} {i:Nat} (hi:i<8):adb k 0 (i:Int)=some ((((2 ^ i:Nat):Int),()),()):=by
 have:i=0 \/ i=1 \/ i=2 \/ i=3 \/ i=4 \/ i=5 \/ i=6 \/ i=7:=by omega
 rcases this with rfl | rfl | rfl | rfl | rfl | rfl | rfl | rfl <;> (show _=_;kernel_rfl)
theorem abh {k:Nat} (hk:1000 <= k) {i:Nat} (hi:i<8):ai5 k ((2 ^ i:Nat):Int)=some (((i:Int),true,()),()):=by
 have:i=0 \/ i=1 \/ i=2 \/ i=3 \/ i=4 \/ i=5 \/ i=6 \/ i=7:=by omega
 obtain ⟨k,rfl⟩:∃ m,k=m+1000:=⟨k - 1000,by omega⟩
 rcases this with rfl | rfl | rfl | rfl | rfl | rfl | rfl | rfl <;> (show _=_;kernel_rfl)
def SV (l:List Pk3):Nat -> Nat -> Nat -> Nat
 | 0,_,m=>m
 | d+1,i,m=>SV l d (i+1) (if MO (l.getD i VP) (l.getD m VP)<0 then i else m)
theorem HY {l:List Pk3}:∀ (d i m:Nat),i+d=l.length -> m<l.length -> SV l d i m<l.length
 | 0,_,m,_,h=>h
 | d+1,i,m,h,hm=>by
  rw [SV]
  exact HY d (i+1) _ (by omega) (by split <;> omega)
theorem J8 {k:Nat} (hk:1000 <= k) {l:List Pk3} (hl:l.length <= 8) (hd:∀ a b,a<l.length -> b<l.length -> a≠b -> MO (l.getD a VP) (l.getD b VP)≠0):∀ (d i j m:Nat),i+d=l.length -> d<j -> m<i ->
  IK k j (l.getD m VP).1 (l.getD m VP).2.1 (l.getD m VP).2.2 ((2 ^ m:Nat):Int) l (l.length:Int) (i:Int)=some ((((SV l d i m:Nat):Int),()),())
 | 0,i,j,m,h,hjj,hm=>by
  obtain ⟨j',rfl⟩:∃ j',j=j'+1:=⟨j - 1,by omega⟩
  rw [LG,LD,Rk (by omega),abh hk (by omega)]
  rfl
 | d+1,i,j,m,h,hjj,hm=>by
  obtain ⟨j',rfl⟩:∃ j',j=j'+1:=⟨j - 1,by omega⟩
  have hi:i<l.length:=by omega
  have hne:=hd i m hi (by omega) (by omega)
  rw [LG,LD,Rj (by omega),Pw hi,Px,show ((l.getD m VP).1,(l.getD m VP).2.1,(l.getD m VP).2.2)=l.getD m VP from rfl,aaz hk,Option.bind_some,SV,Me (by omega)]
  simp only
  by_cases hc:MO (l.getD i VP) (l.getD m VP)<0
  ·rw [Rj hc,if_pos hc,aaA (by omega),Option.bind_some]
   exact J8 hk hl hd d (i+1) j' i (by omega) (by omega) (by omega)
  ·rw [Rk hc,if_neg hc,beq_eq_false_iff_ne.2 hne,cond_false]
   exact J8 hk hl hd d (i+1) j' m (by omega) (by omega) (by omega)
theorem OZ (p:Pk3):MO p p=0:=by
 unfold MO FY
 simp
theorem aha {k:Nat} (hk:1000 <= k) {l:List Pk3} (hl:l.length <= 8) (h0:0<l.length) (hd:∀ a b,a<l.length -> b<l.length -> a≠b -> MO (l.getD a VP) (l.getD b VP)≠0):afL k l=some ((((SV l l.length 0 0:Nat):Int),()),()):=by
 unfold afL
 obtain ⟨d,hdd⟩:∃ d,l.length=d+1:=⟨l.length - 1,by omega⟩
 obtain ⟨j,hj⟩:∃ j,k=j+1:=⟨k - 1,by omega⟩
 rw [Lf (by omega) (by omega)]
 conv=>lhs;rw [show ∀ a b c r l n i,IK k k a b c r l n i=IK k (j+1) a b c r l n i from fun a b c r l n i=>by rw [<- hj]]
 rw [LG,LD,Rj (by omega),Lf (by omega) (by omega)]
 show Option.bind (aaP k (l.getD 0 VP) (l.getD 0 VP)) _=_
 rw [aaz hk,OZ,Option.bind_some]
 simp only [beq_self_eq_true,cond_true]
 rw [Rk (by omega)]
 have:=aaA (k:=k) (i:=0) (by omega)
 rw [show adb k 0 0=_ from this,Option.bind_some,hdd,SV,if_neg (by rw [OZ];omega)]
 have e:=J8 hk hl hd d 1 j 0 (by omega) (by omega) (by omega)
 rw [hdd] at e
 exact e
theorem P7 {k:Nat} (hk:1000 <= k) {n:Int} (hn:0 <= n /\ n <= 1000) {js:List gu} (hl:js.length <= 900) (hj:∀ j∈js,Xa j /\ 0 <= j.1 /\ j.1 <= 1000):∀ (d i j:Nat),i+d=js.length -> d<j ->
  R6 k j n [] 0 false ((js.take i).map (BF n)) js (js.length:Int) (i:Int)=IL k k 0 false (js.map (BF n)) 0
 | 0,i,j,h,hjj=>by
  obtain ⟨j',rfl⟩:∃ j',j=j'+1:=⟨j - 1,by omega⟩
  rw [UQ,QZ,Rk (by omega),List.take_of_length_le (by omega)]
 | d+1,i,j,h,hjj=>by
  obtain ⟨j',rfl⟩:∃ j',j=j'+1:=⟨j - 1,by omega⟩
  have hi:i<js.length:=by omega
  have hh:=hj _ (iq (z:=j0) hi)
  rw [UQ,QZ,Rj (by omega),Pw hi,Px,show js.getD i (0,0,0,0,(0,Pv (α:=Int) 8 0,[],false),(0,Pv (α:=Int) 8 0,[],false),[],false)=js.getD i j0 from rfl,ag9 hk hh.1 hn hh.2,Option.bind_some,Rh (by simp;omega),Me (by omega)]
  have e:(js.take i).map (BF n)++[BF n (js.getD i j0)]=(js.take (i+1)).map (BF n):=by
   rw [List.take_succ_eq_append_getElem hi,List.map_append,getD_in hi];rfl
  rw [e]
  exact P7 hk hn hl hj d (i+1) j' (by omega) (by omega)
def BQ (js:List gu) (n:Int):Nat:=SV (js.map (BF n)) js.length 0 0
def aij (js:List gu) (n:Int):Prop:=∀ a b,a<js.length -> b<js.length -> a≠b -> MO (BF n (js.getD a j0)) (BF n (js.getD b j0))≠0
theorem MP {α β:Type} {f:α -> β} {l:List α} {i:Nat} (z:α) (w:β) (h:i<l.length):(l.map f).getD i w=f (l.getD i z):=by
 rw [getD_in (by rw [List.length_map];exact h),getD_in h,List.getElem_map]
theorem ahb {k:Nat} (hk:1000 <= k) {n:Int} (hn:0 <= n /\ n <= 1000) {js:List gu} (hl:js.length <= 8) (hj:∀ j∈js,Xa j /\ 0 <= j.1 /\ j.1 <= 1000) (hd:aij js n) :
  afM k js n []=some ((((BQ js n:Nat):Int),!(js.isEmpty),()),()):=by
 unfold afM
 have e:=P7 hk hn (by omega) hj js.length 0 k (by omega) (by omega)
 rw [List.take_zero,List.map_nil] at e
 refine e.trans ?_
 have hlen:(js.map (BF n)).length=js.length:=List.length_map _
 by_cases h0:js.length=0
 ·have:js=[]:=List.eq_nil_of_length_eq_zero h0
  subst this
  obtain ⟨k,rfl⟩:∃ m,k=m+1:=⟨k - 1,by omega⟩
  rw [LJ,LH,Rk (by simp)]
  rfl
 ·obtain ⟨j,hjk⟩:∃ j,k=j+2:=⟨k - 2,by omega⟩
  have hf:=aha hk (l:=js.map (BF n)) (by omega) (by omega) (fun a b ha hb hab=>by
   rw [MP j0 _ (by omega),MP j0 _ (by omega)]
   exact hd a b (by omega) (by omega) hab)
  have hsub:sub (js.map (BF n)) 0 (mn (IntKind.i64.wrap (0+64)) ((js.map (BF n)).length:Int))=js.map (BF n):=by
   have hm:mn (IntKind.i64.wrap (0+64)) ((js.map (BF n)).length:Int)=(js.length:Int):=by
    rw [Rl,Ua (by omega) (by omega)];omega
   rw [hm]
   unfold sub
   rw [List.take_of_length_le (by rw [hlen];omega)];rfl
  have hmin:=HY (l:=js.map (BF n)) js.length 0 0 (by omega) (by omega)
  have hem:js.isEmpty=false:=by cases js with | nil=>simp at h0 | cons a l=>rfl
  conv=>lhs;rw [show ∀ a b c d,IL k k a b c d=IL k (j+1+1) a b c d from fun a b c d=>by rw [<- hjk]]
  rw [LJ,LH,Rj (by omega),Rc (by omega) (by rw [Rl,Ua (by omega) (by omega)];omega) (by rw [Rl];omega),hsub,hf,Option.bind_some]
  simp only [Bool.not_false,cond_true]
  rw [LJ,LH,Rk (by rw [Ua (by omega) (by omega)];omega),hlen,hem,Ua (n:=0+((SV (js.map (BF n)) js.length 0 0:Nat):Int)) (by omega) (by omega),Int.zero_add]
  rfl
theorem abj {a b:Int}:FY a b=0↔a=b:=by
 unfold FY
 by_cases h:a<b
 ·rw [Rj h];constructor <;> intro h2 <;> omega
 ·rw [Rk h]
  by_cases h3:a>b
  ·rw [Rj h3];constructor <;> intro h2 <;> omega
  ·rw [Rk h3];constructor
   ·intro _;omega
   ·intro _;rfl
theorem abk {p q:Pk3} (h:MO p q=0):p.2.2=q.2.2:=by
 unfold MO at h
 cases h1:FY p.1 q.1 != 0 with
 | true=>rw [h1,cond_true] at h;simp [h] at h1
 | false =>
  rw [h1,cond_false] at h
  cases h2:FY p.2.1 q.2.1 != 0 with
  | true=>rw [h2,cond_true] at h;simp [h] at h2
  | false=>rw [h2,cond_false] at h;exact abj.1 h
def rising (js:List gu):Prop:=js.Pairwise (fun a b=>a.1<b.1)
theorem abl {js:List gu} (h:rising js) {a b:Nat} (ha:a<js.length) (hb:b<js.length) (hab:a≠b):(js.getD a j0).1≠(js.getD b j0).1:=by
 rw [getD_in ha,getD_in hb]
 have:=List.pairwise_iff_getElem.1 h
 rcases Nat.lt_or_gt_of_ne hab with hl | hl
 ·have:=this a b ha hb hl;omega
 ·have:=this b a hb ha hl;omega
theorem VQ {js:List gu} (h:rising js) (n:Int):aij js n:=fun a b ha hb hab e=>abl h ha hb hab (abk e)
theorem FZ:∀ {js:List gu} {lo n:Int},rising js -> (∀ j∈js,lo <= j.1 /\ j.1<n) -> lo <= n -> (js.length:Int) <= n - lo
 | [],lo,n,_,_,h=>by simp;omega
 | a::js,lo,n,h,hb,hl=>by
  have h1:=List.pairwise_cons.1 h
  have ha:=hb a List.mem_cons_self
  have:=FZ (lo:=a.1+1) h1.2 (fun j hj=>⟨by have:=h1.1 j hj;omega,(hb j (List.mem_cons_of_mem _ hj)).2⟩) (by omega)
  simp only [List.length_cons];omega
theorem EW (now:Int) (ts:List fq):∀ (js:List gu) (s:abf),∃ l,l.Sublist js /\ (js.foldl (uq now ts) s).1=s.1++l /\ (js.foldl (uq now ts) s).2.2.1.length=s.2.2.1.length /\ (js.foldl (uq now ts) s).2.2.2.1.length=s.2.2.2.1.length /\ (js.foldl (uq now ts) s).2.1.length <= s.2.1.length+3 * js.length
 | [],s=>⟨[],List.Sublist.refl _,by simp,rfl,rfl,by simp⟩
 | j::js,s=>by
  rw [List.foldl_cons]
  obtain ⟨l,h1,h2,h3,h4,h5⟩:=EW now ts js (uq now ts s j)
  have hw:=OW s.2.2.1 s.2.2.2.1 j.1.toNat
  have hm:=OX now j.1 (oq s.2.2.1 s.2.2.2.1 j.1.toNat).2
  unfold uq at h2 h3 h4 h5 ⊢
  cases hc:IntKind.i64.wrap (now - j.2.1) != (ts.getD j.1.toNat t0).2.2.1 with
  | true =>
   simp only [hc,cond_true] at h2 h3 h4 h5 ⊢
   exact ⟨j::l,h1.cons_cons j,by rw [h2];simp,h3,h4,by simp only [List.length_cons];omega⟩
  | false =>
   cases hp:j.2.2.2.1==2 with
   | true =>
    simp only [hc,hp,cond_true,cond_false] at h2 h3 h4 h5 ⊢
    exact ⟨l,h1.cons j,h2,h3,h4,by simp only [List.length_append,List.length_cons,List.length_nil] at h5 ⊢;omega⟩
   | false =>
    simp only [hc,hp,cond_false] at h2 h3 h4 h5 ⊢
    exact ⟨l,h1.cons j,h2,by omega,by omega,by simp only [List.length_append,List.length_cons] at h5 ⊢;omega⟩
def D6 (now:Int) (ts:List fq) (js:List gu) (rows:List Int) (hi:Bool):List gu×List ig×List Int :=
 let i:=BQ js (ts.length:Int)
 let r:=bif hi then ze now (ts.getD (js.getD i j0).1.toNat t0) (js.getD i j0) rows else AJ now (ts.getD (js.getD i j0).1.toNat t0) (js.getD i j0) rows
 ((bif r.2.1 then js.take i++js.drop (i+1) else js.set i r.1),(now,2,(js.getD i j0).1,0,0,0)::r.2.2.1,r.2.2.2)
theorem aeV (now:Int) (t:fq) (j:gu) (rows:List Int):(ze now t j rows).2.2.2.length=rows.length /\ (ze now t j rows).2.2.1.length <= 3:=by
 unfold ze
 cases j.2.2.2.1==2 <;> cases (j.2.2.2.1==0)&&decide ((t.2.2.2.2.1.length:Int)>0) <;> simp
theorem abm (now:Int) (t:fq) (j:gu) (rows:List Int):(AJ now t j rows).2.2.2.length=rows.length /\ (AJ now t j rows).2.2.1.length <= 3:=by
 unfold AJ H9
 cases (N8 t j).2.2.2.2.1.2.2.2 with
 | false=>simp
 | true =>
  rw [cond_true]
  cases (N8 t j).2.2.2.1==2 with
  | true=>simp
  | false=>cases ((N8 t j).2.2.2.1==0)&&decide ((t.2.2.2.2.1.length:Int)>0) <;> simp
theorem aaB {k:Nat} {js:List gu} {i:Nat} {x:gu} (h:i<js.length) (hl:js.length <= 900):S50 k (upd js (i:Int) x) (i:Int) (IntKind.i64.wrap ((i:Int)+1))=some ((js.take i++js.drop (i+1),()),()):=by
 unfold S50 Jg
 rw [Me (by omega),Mf]
 refine (if_pos ?_).trans ?_
 ·simp only [Bool.and_eq_true]
  refine ⟨decide_eq_true (by show (0:Int) <= (i:Int);omega),decide_eq_true (by show (i:Int) <= ((i+1:Nat):Int);omega),decide_eq_true ?_⟩
  show ((i+1:Nat):Int) <= ((js.set i x).length:Int)
  rw [List.length_set];omega
 ·show some (((js.set i x).take (i:Int).toNat++(js.set i x).drop ((i+1:Nat):Int).toNat,()),())=_
  rw [Int.toNat_natCast,Int.toNat_natCast,List.take_set_of_le (by omega),List.drop_set_of_lt (by omega)]
theorem akB {k:Nat} (hk:1000 <= k) {now ap:Int} {ts:List fq} {bs:List wm} {ru ha hi:Bool} {js:List gu} {rows:List Int} {off:List Bool} {ev:List ig} (hL:jg ts) (h8:ts.length <= 8) (hj:∀ j∈js,GOK ts j /\ few j) (hris:rising js) (hr:rows.length=ts.length) (ho:off.length <= 900) (he:ev.length <= 5000) :
  S59 k now ap ts bs ru ha hi js jk.1.1 jk.1.2 jk.2 rows off ev=some ((),(now,ap,ts,bs,ru,ha,hi,(bif ha||js.isEmpty then js else (D6 now ts js rows hi).1),jk.1.1,jk.1.2,jk.2,(bif ha||js.isEmpty then rows else (D6 now ts js rows hi).2.2),off,ev++(bif ha||js.isEmpty then [] else (D6 now ts js rows hi).2.1),()),()):=by
 have hlen:(js.length:Int) <= (ts.length:Int) - 0:=FZ hris (fun j h=>(hj j h).1.task) (by omega)
 unfold S59
 have hl:S30 k (now,ap,ts,bs,ru,ha,hi,js,((jk.1.1,jk.1.2),jk.2),rows,off)=some (([],()),()):=EU hk
 rw [hl,Option.bind_some]
 simp only
 rw [ahb hk ⟨by omega,by omega⟩ (by omega) (fun j h=>⟨(hj j h).1.ok,by have:=(hj j h).1.task;omega⟩) (VQ hris _),Option.bind_some]
 simp only
 cases ha with
 | true=>simp
 | false =>
  cases hem:js.isEmpty with
  | true=>simp
  | false =>
   have h0:0<js.length:=by cases js with | nil=>simp at hem | cons a l=>simp
   have hmin:BQ js (ts.length:Int)<js.length:=by
    have:=HY (l:=js.map (BF (ts.length:Int))) js.length 0 0 (by simp) (by simpa using h0)
    simpa [BQ] using this
   have hin:=hj _ (iq (z:=j0) hmin)
   simp only [Bool.not_false,Bool.not_true,cond_false,Bool.or_false]
   rw [Pw hmin,Px,show js.getD (BQ js (ts.length:Int)) (0,0,0,0,(0,Pv (α:=Int) 8 0,[],false),(0,Pv (α:=Int) 8 0,[],false),[],false)=js.getD (BQ js (ts.length:Int)) j0 from rfl,E9 (by omega),Option.bind_some]
   simp only
   unfold D6
   simp only
   generalize BQ js (ts.length:Int)=i at hmin hin ⊢
   generalize js.getD i j0=j at hin ⊢
   have amM:(ev++[(now,((2:Int),j.1,(0:Int),(0:Int),(0:Int)))]).length <= 10000:=by simp;omega
   have tail:∀ r:RunT,(ix js (i:Int) (bif r.2.1 then (S50 k (upd js (i:Int) r.1) (i:Int) (IntKind.i64.wrap ((i:Int)+1))).bind (fun q=>some ((),(now,ap,ts,bs,ru,false,hi,q.1.1,jk.1.1,jk.1.2,jk.2,r.2.2.2,off,(ev++[(now,((2:Int),j.1,(0:Int),(0:Int),(0:Int)))])++r.2.2.1,()),())) else some ((),(now,ap,ts,bs,ru,false,hi,upd js (i:Int) r.1,jk.1.1,jk.1.2,jk.2,r.2.2.2,off,(ev++[(now,((2:Int),j.1,(0:Int),(0:Int),(0:Int)))])++r.2.2.1,()),())):Option (Unit×(Int×Int×List fq×List wm×Bool×Bool×Bool×List gu×List Int×List Bool×List VI×List Int×List Bool×List ig×Unit)×Unit)) =
     some ((),(now,ap,ts,bs,ru,false,hi,(bif r.2.1 then js.take i++js.drop (i+1) else js.set i r.1),jk.1.1,jk.1.2,jk.2,r.2.2.2,off,ev++((now,2,j.1,0,0,0)::r.2.2.1),()),()):=fun r=>by
    rw [Pw hmin,aaB hmin (by omega),Option.bind_some,Mf,List.append_assoc]
    cases r.2.1 <;> rfl
   cases hi with
   | true =>
    simp only [cond_true]
    rw [ag7 hk hin.1.ok hin.1.task amM,Option.bind_some]
    have hr2:(ze now (ts.getD j.1.toNat t0) j rows).2.2.2=rows:=by
     unfold ze
     cases j.2.2.2.1==2 <;> cases (j.2.2.2.1==0)&&decide (((ts.getD j.1.toNat t0).2.2.2.2.1.length:Int)>0) <;> rfl
    have ht:=tail (ze now (ts.getD j.1.toNat t0) j rows)
    rw [hr2] at ht
    rw [hr2]
    exact ht
   | false =>
    simp only [cond_false]
    rw [ag4 hk hL hin.1 hin.2 hr ho amM,Option.bind_some]
    exact tail (AJ now (ts.getD j.1.toNat t0) j rows)
def EA (K:gy):gy×List ig :=
 bif K.2.2.2.2.1&&!K.2.2.2.2.2.1 then
  let E:=D5 K.1 K.2.2.1 K.2.2.2.2.2.2.2.1 K.2.2.2.2.2.2.2.2.2.1 K.2.2.2.2.2.2.2.2.2.2 K.2.2.2.2.2.1
  let js:=E.1.map (l9 K.1 K.2.2.2.1)
  let R:=bif E.2.2.2.2||js.isEmpty then (js,[],E.2.2.1) else D6 K.1 K.2.2.1 js E.2.2.1 K.2.2.2.2.2.2.1
  ((IntKind.i64.wrap (K.1+1),K.2.1,K.2.2.1,K.2.2.2.1,K.2.2.2.2.1,E.2.2.2.2,false,R.1,K.2.2.2.2.2.2.2.2.1,R.2.2,E.2.2.2.1),E.2.1++R.2.1)
 else ((IntKind.i64.wrap (K.1+1),K.2.1,K.2.2.1,K.2.2.2.1,K.2.2.2.2.1,K.2.2.2.2.2.1,false,K.2.2.2.2.2.2.2),[])
structure KI (K:gy):Prop where
 tab:K.2.2.2.2.2.2.2.2.1=jk
 tasks:jg K.2.2.1
 J9:K.2.2.1.length <= 8
 bounds:K.2.2.2.1.length=K.2.2.1.length
 rows:K.2.2.2.2.2.2.2.2.2.1.length=K.2.2.1.length
 off:K.2.2.2.2.2.2.2.2.2.2.length=K.2.2.1.length
 job:∀ j∈K.2.2.2.2.2.2.2.1,GOK K.2.2.1 j /\ few j
 ris:rising K.2.2.2.2.2.2.2.1
theorem KI.len {K:gy} (h:KI K):K.2.2.2.2.2.2.2.1.length <= 8:=by
 have:=FZ h.ris (fun j hj=>(h.job j hj).1.task) (by omega)
 have:=h.J9
 omega
theorem KI.kok {K:gy} (h:KI K):KOK K:=⟨h.tab,h.tasks,by have:=h.bounds;have:=h.J9;omega,by have:=h.len;omega,fun j hj=>(h.job j hj).1.ok,by have:=h.rows;have:=h.J9;omega,by have:=h.off;have:=h.J9;omega⟩
theorem yu (now:Int) (bs:List wm) (j:gu):(l9 now bs j).1=j.1 /\ (l9 now bs j).2.1=j.2.1 /\ (l9 now bs j).2.2.1=j.2.2.1 /\ (l9 now bs j).2.2.2.1=j.2.2.2.1 /\ (l9 now bs j).2.2.2.2.1=j.2.2.2.2.1 /\ (l9 now bs j).2.2.2.2.2.1=j.2.2.2.2.2.1 /\ (l9 now bs j).2.2.2.2.2.2.1=j.2.2.2.2.2.2.1:=by
 unfold l9
 cases j.2.2.2.1 != 2 with
 | false=>simp
 | true=>rw [cond_true];cases decide (IntKind.i64.wrap (now - j.2.1)≥(bs.getD j.1.toNat (Pv (α:=Int) 5 0)).2.2.2.2) <;> simp
theorem aeW {ts:List fq} {now:Int} {bs:List wm} {j:gu} (h:GOK ts j /\ few j):GOK ts (l9 now bs j) /\ few (l9 now bs j):=by
 obtain ⟨e1,e2,e3,e4,e5,e6,e7⟩:=yu now bs j
 refine ⟨⟨⟨by rw [e7];exact h.1.ok.held,by rw [e5];exact h.1.ok.m,by rw [e6];exact h.1.ok.kept⟩,by rw [e1];exact h.1.task,by rw [e4];exact h.1.phase,by rw [e1,e4,e5];exact h.1.m⟩,?_⟩
 unfold few
 rw [e5,e6];exact h.2
theorem rising_map {f:gu -> gu} (hf:∀ j,(f j).1=j.1) {js:List gu} (h:rising js):rising (js.map f):=by
 unfold rising
 rw [List.pairwise_map]
 exact List.Pairwise.imp (fun {a b} hab=>by rw [hf,hf];exact hab) h
theorem akC {k:Nat} (hk:1000 <= k) {K:gy} (h:KI K):S23 k K=some (((EA K).1,(EA K).2,()),()):=by
 have akD:=h.kok
 have hl8:=h.len
 obtain ⟨now,ap,ts,bs,ru,ha,hi,js,T,rows,off⟩:=K
 have e:T=jk:=h.tab
 subst e
 have h1:jg ts:=h.tasks
 have h2:ts.length <= 8:=h.J9
 have h3:bs.length=ts.length:=h.bounds
 have h4:rows.length=ts.length:=h.rows
 have h5:off.length=ts.length:=h.off
 have h6:∀ j∈js,GOK ts j /\ few j:=h.job
 have h7:rising js:=h.ris
 have h8:js.length <= 8:=hl8
 unfold S23 EA
 rw [Xc hk akD,Option.bind_some]
 simp only
 cases ru with
 | false=>rfl
 | true =>
  cases ha with
  | true=>rfl
  | false =>
   simp only [cond_true,Bool.not_false,Bool.and_self]
   rw [akx hk (by omega) (fun j hj=>(h6 j hj).1.task) (by omega) h4 h5,Option.bind_some]
   simp only
   obtain ⟨l,g1,g2,g3,g4,g5⟩:=EW now ts js ([],[],rows,off,false)
   rw [show js.foldl (uq now ts) ([],[],rows,off,false)=D5 now ts js rows off false from rfl] at g2 g3 g4 g5
   simp only [List.nil_append,List.length_nil] at g2 g3 g4 g5
   generalize D5 now ts js rows off false=E at g2 g3 g4 g5 ⊢
   have hE:∀ j∈E.1,GOK ts j /\ few j:=fun j hj=>h6 j (g1.subset (by rw [<- g2];exact hj))
   have hEr:rising E.1:=by rw [g2];exact List.Pairwise.sublist g1 h7
   have hEl:E.1.length <= 8:=by rw [g2];have:=g1.length_le;omega
   rw [aky hk (by omega) (fun j hj=>by rw [h3];exact (hE j hj).1.task),Option.bind_some]
   simp only
   rw [akz hk,Option.bind_some]
   simp only
   rw [akB hk h1 h2 (fun j hj=>by
    obtain ⟨x,hx,rfl⟩:=List.mem_map.1 hj
    exact aeW (hE x hx)) (rising_map (fun j=>(yu now bs j).1) hEr) (by omega) (by omega) (by omega),Option.bind_some]
   simp only
   cases E.2.2.2.2||(E.1.map (l9 now bs)).isEmpty <;> rfl
def mq (p:Int):List gu -> Nat
 | []=>0
 | j::l=>bif decide (j.1<p) then mq p l+1 else 0
theorem EB (p:Int):∀ (l:List gu) (n:Nat),n <= l.length -> (∀ a,a<n -> (l.getD a j0).1<p) -> (n<l.length -> ¬ (l.getD n j0).1<p) -> mq p l=n
 | [],n,h,_,_=>by simp at h;rw [h];rfl
 | x::l,0,_,_,h2=>by
  have h3:¬ x.1<p:=h2 (by simp)
  rw [mq,decide_eq_false h3,cond_false]
 | x::l,n+1,h,h1,h2=>by
  have h3:x.1<p:=h1 0 (by omega)
  rw [mq,decide_eq_true h3,cond_true,EB p l n (by simpa using h) (fun a ha=>h1 (a+1) (by omega)) (fun hn=>h2 (by simpa using hn))]
theorem SX (p:Int):∀ l:List gu,mq p l <= l.length
 | []=>Nat.le_refl _
 | x::l=>by
  rw [mq]
  cases decide (x.1<p) with
  | true=>rw [cond_true,List.length_cons];have:=SX p l;omega
  | false=>rw [cond_false];omega
theorem akE:∀ n:Fin 17,IntKind.i64.wrap (Tn .u64 (IntKind.u64.wrap (IntKind.i64.wrap ((n.1:Nat):Int))) 1)=((n.1 / 2:Nat):Int):=by decide
theorem aeX {a b:Nat} (h:a+b <= 16):IntKind.i64.wrap (Tn .u64 (IntKind.u64.wrap (IntKind.i64.wrap ((a:Int)+(b:Int)))) 1)=(((a+b) / 2:Nat):Int):=by
 have:=akE ⟨a+b,by omega⟩
 simpa using this
theorem MQ {k:Nat} {js:List gu} {p:Int} (hl:js.length <= 8) (hp:0 <= p /\ p <= 1000) (ht:∀ j∈js,0 <= j.1 /\ j.1 <= 1000) (hr:rising js):∀ (m fu a b:Nat),b - a <= m -> m<fu -> a <= b -> b <= js.length -> (∀ c,c<a -> (js.getD c j0).1<p) -> (∀ c,b <= c -> c<js.length -> p <= (js.getD c j0).1) ->
  Uq k fu js p (js.length:Int) (a:Int) (b:Int)=some ((((mq p js:Nat):Int),decide (mq p js<js.length)&&(js.getD (mq p js) j0).1==p,()),())
 | m,fu,a,b,hm,hf,hab,hb,h1,h2=>by
  obtain ⟨f,rfl⟩:∃ f,fu=f+1:=⟨fu - 1,by omega⟩
  rw [aft,acH]
  by_cases h:a<b
  ·obtain ⟨m',rfl⟩:∃ m',m=m'+1:=⟨m - 1,by omega⟩
   have hc:(a+b) / 2<js.length:=by omega
   have hb2:=ht _ (iq (z:=j0) hc)
   rw [Rj (by omega),aeX (by omega),Pw hc,Px,show js.getD ((a+b) / 2) (0,0,0,0,(0,Pv (α:=Int) 8 0,[],false),(0,Pv (α:=Int) 8 0,[],false),[],false)=js.getD ((a+b) / 2) j0 from rfl]
   unfold S96
   rw [Option.bind_some,Ua (by omega) (by omega)]
   simp only
   have hmono:∀ x y,x<y -> y<js.length -> (js.getD x j0).1<(js.getD y j0).1:=fun x y hxy hy=>by
    rw [getD_in (by omega),getD_in hy];exact List.pairwise_iff_getElem.1 hr x y (by omega) hy hxy
   by_cases e:(js.getD ((a+b) / 2) j0).1 - p<0
   ·rw [Rj e,Me (by omega)]
    exact MQ hl hp ht hr m' f ((a+b) / 2+1) b (by omega) (by omega) (by omega) hb (fun c hc2=>by
     by_cases e2:c=(a+b) / 2
     ·subst e2;omega
     ·have:=hmono c ((a+b) / 2) (by omega) hc;omega) h2
   ·rw [Rk e]
    exact MQ hl hp ht hr m' f a ((a+b) / 2) (by omega) (by omega) (by omega) (by omega) h1 (fun c hc2 hc3=>by
     by_cases e2:c=(a+b) / 2
     ·subst e2;omega
     ·have:=hmono ((a+b) / 2) c (by omega) hc3;omega)
  ·have hba:b=a:=by omega
   subst hba
   have hpos:mq p js=b:=EB p js b hb h1 (fun hn=>by have:=h2 b (by omega) hn;omega)
   rw [Rk (by omega),hpos]
   by_cases h3:b<js.length
   ·have hb2:=ht _ (iq (z:=j0) h3)
    rw [Rj (by omega),Pw h3,Px,show js.getD b (0,0,0,0,(0,Pv (α:=Int) 8 0,[],false),(0,Pv (α:=Int) 8 0,[],false),[],false)=js.getD b j0 from rfl]
    unfold S96
    rw [Option.bind_some,Ua (by omega) (by omega),decide_eq_true h3,Bool.true_and]
    simp only
    congr 3
    by_cases e:(js.getD b j0).1=p
    ·rw [e];simp
    ·rw [beq_eq_false_iff_ne.2 e,beq_eq_false_iff_ne.2 (by omega)]
   ·rw [Rk (by omega),decide_eq_false h3];rfl
def JW (p now a:Int):gu:=(p,now,a,0,N9 a,N9 a,[],false)
def aaC (K:gy) (js:List gu):gy:=(K.1,K.2.1,K.2.2.1,K.2.2.2.1,K.2.2.2.2.1,K.2.2.2.2.2.1,K.2.2.2.2.2.2.1,js,K.2.2.2.2.2.2.2.2)
def VR (K:gy) (p a:Int):gy×List ig×Int :=
 bif !K.2.2.2.2.1 then (K,[],8)
 else bif K.2.2.2.2.2.1 then (K,[],17)
 else bif decide (p<0)||decide (p≥(K.2.2.1.length:Int)) then (K,[],3)
 else bif K.2.2.2.2.2.2.2.2.2.2.getD p.toNat false then (K,[],6)
 else
  let js:=K.2.2.2.2.2.2.2.1
  let i:=mq p js
  bif decide (i<js.length)&&(js.getD i j0).1==p then
   (bif (js.getD i j0).2.2.2.1 != 2 then (K,[],5)
       else (aaC K (js.take i++[JW p K.1 a]++js.drop (i+1)),[(K.1,13,p,0,0,0),(K.1,1,p,0,a,0)],0))
  else (aaC K (js.take i++[JW p K.1 a]++js.drop i),[(K.1,1,p,0,a,0)],0)
theorem akF {k:Nat} {js:List gu} {i:Nat} {x:gu} (h:i <= js.length) (hl:js.length <= 900):S51 k js (i:Int) [x]=some ((js.take i++[x]++js.drop i,()),()):=by
 unfold S51 Jc
 refine if_pos ?_
 simp only [Bool.and_eq_true]
 refine ⟨decide_eq_true (Int.natCast_nonneg i),decide_eq_true (Int.ofNat_le.2 h),decide_eq_true ?_⟩
 show (js.length+1) * _ <= _
 omega
theorem akG {k:Nat} {js:List gu} {i:Nat} (h:i<js.length) (hl:js.length <= 900):S50 k js (i:Int) (IntKind.i64.wrap ((i:Int)+1))=some ((js.take i++js.drop (i+1),()),()):=by
 have:=aaB (k:=k) (x:=js.getD i j0) h hl
 rwa [Mf,AB] at this
theorem P8 {k:Nat} {p a now ap:Int} {ts:List fq} {bs:List wm} {ru ha hi:Bool} {js:List gu} {g:List Int} {l:List Bool} {u:List VI} {rows:List Int} {off:List Bool} {x1 x2:Int} {x3 x4 x5:Bool} {ev:List ig} {i:Nat} (h:i <= js.length) (hl:js.length <= 900) (he:ev.length <= 10) :
  L9 k p a now ap ts bs ru ha hi js g l u rows off x1 x2 x3 x4 x5 ev (i:Int)=some (((now,ap,ts,bs,ru,ha,hi,js.take i++[JW p now a]++js.drop i,((g,l),u),rows,off),ev++[(now,1,p,0,a,0)],0,()),()):=by
 unfold L9 S52 S99
 simp only [Option.bind_some]
 have e:=akF (k:=k) (x:=JW p now a) h hl
 unfold JW N9 at e ⊢
 rw [e,Option.bind_some,Rh (by simp;omega)]
theorem akH {k:Nat} (hk:1000 <= k) {K:gy} (h:KI K) (p a:Int):S20 k K p a=some (((VR K p a).1,(VR K p a).2.1,(VR K p a).2.2,()),()):=by
 have akD:=h.kok
 have hl8:=h.len
 obtain ⟨now,ap,ts,bs,ru,ha,hi,js,T,rows,off⟩:=K
 have e:T=jk:=h.tab
 subst e
 have h2:ts.length <= 8:=h.J9
 have h5:off.length=ts.length:=h.off
 have h6:∀ j∈js,GOK ts j /\ few j:=h.job
 have h7:rising js:=h.ris
 have h8:js.length <= 8:=hl8
 unfold S20 VR
 rw [Xc hk akD,Option.bind_some]
 simp only
 cases ru with
 | false=>rfl
 | true =>
  cases ha with
  | true=>rfl
  | false =>
   simp only [Bool.not_true,cond_false]
   by_cases hp1:p<0
   ·rw [Rj hp1,decide_eq_true hp1];rfl
   ·rw [Rk hp1,decide_eq_false hp1,Bool.false_or]
    by_cases hp2:p≥(ts.length:Int)
    ·rw [Rj hp2,decide_eq_true hp2];rfl
    ·obtain ⟨n,rfl⟩:∃ n:Nat,p=(n:Int):=⟨p.toNat,by omega⟩
     rw [Rk hp2,decide_eq_false hp2,cond_false,Rj (by omega),Pw (by omega),Px,Int.toNat_natCast]
     cases off.getD n false with
     | true=>rfl
     | false =>
      simp only [cond_false]
      have hfind:=MQ (k:=k) (p:=(n:Int)) h8 (by omega) (fun j hj=>by have:=(h6 j hj).1.task;omega) h7 js.length k 0 js.length (by omega) (by omega) (by omega) (by omega) (fun c hc=>by omega) (fun c hc hc2=>by omega)
      have hle:=SX (n:Int) js
      unfold QW S49 S95
      simp only
      rw [show Uq k k js (n:Int) (js.length:Int) 0 (js.length:Int)=_ from hfind]
      simp only [Option.bind_some]
      cases hc:decide (mq (n:Int) js<js.length)&&(js.getD (mq (n:Int) js) j0).1==(n:Int) with
      | false =>
       simp only [cond_false]
       rw [P8 hle (by omega) (by simp)]
       rfl
      | true =>
       have hlt:mq (n:Int) js<js.length:=by
        rw [Bool.and_eq_true] at hc;exact of_decide_eq_true hc.1
       simp only [cond_true]
       rw [Pw hlt,Px,show js.getD (mq (n:Int) js) (0,0,0,0,(0,Pv (α:=Int) 8 0,[],false),(0,Pv (α:=Int) 8 0,[],false),[],false)=js.getD (mq (n:Int) js) j0 from rfl]
       cases (js.getD (mq (n:Int) js) j0).2.2.2.1 != 2 with
       | true=>rfl
       | false =>
        simp only [cond_false]
        rw [Rh (by simp),akG hlt (by omega),Option.bind_some]
        simp only [List.nil_append]
        rw [P8 (by simp;omega) (by simp;omega) (by simp)]
        have ht:(js.take (mq (n:Int) js)++js.drop (mq (n:Int) js+1)).take (mq (n:Int) js)=js.take (mq (n:Int) js):=by
         rw [List.take_append_of_le_length (by simp;omega),List.take_take,Nat.min_self]
        have hd:(js.take (mq (n:Int) js)++js.drop (mq (n:Int) js+1)).drop (mq (n:Int) js)=js.drop (mq (n:Int) js+1):=by
         rw [List.drop_append_of_le_length (by simp;omega),List.drop_eq_nil_of_le (by simp;omega),List.nil_append]
        rw [ht,hd]
        rfl
structure HZ (l:List I4) (m:d9) (tr:List I4) (fin:Mem):Prop where
 len:l.length <= 900
 ins:∀ x∈l,ji x=true /\ x.1≠9 /\ x.1≠10
 mem:inM m.2.1
 on:m.2.2.2=false
 run:∃ n n2:Nat,m.1=(n:Int) /\ Run l n m.2.1 m.2.2.1.reverse tr n2 fin [] /\ n2<l.length /\ (l.getD n2 i0).1=0
theorem HZ.mok {l:List I4} {m:d9} {tr:List I4} {fin:Mem} (h:HZ l m tr fin):MOK l m /\ m.2.2.1.length <= 2:=by
 obtain ⟨n,n2,e,hr,h2,h0⟩:=h.run
 obtain ⟨pc,mem,rs,ov⟩:=m
 have e':pc=(n:Int):=e
 subst e'
 have key:n<l.length /\ rs.length <= 2 /\ ∀ r∈rs,r.2.2 <= 1000:=by
  have hr':Run l n mem rs.reverse tr n2 fin []:=hr
  generalize hR:rs.reverse=R at hr'
  have hrs:rs=R.reverse:=by rw [<- hR,List.reverse_reverse]
  subst hrs
  cases hr' with
  | nil=>exact ⟨h2,by simp,by simp⟩
  | cons a b c d f g i r=>exact ⟨a,by rw [List.length_reverse];exact d,fun r hr=>f r (List.mem_reverse.1 hr)⟩
 have hx:=h.ins _ (iq (z:=i0) key.1)
 exact ⟨⟨h.len,⟨by show (0:Int) <= (n:Int);omega,by show (n:Int).toNat<_;rw [Int.toNat_natCast];exact key.1⟩,hx.1,by have:=key.2.1;show rs.length <= 100;omega,key.2.2,h.mem,h.on,hx.2⟩,key.2.1⟩
theorem HZ.last {l:List I4} {m:d9} {fin:Mem} (h:HZ l m [] fin):(qd l m).1=0 /\ (stepM l m).2.2.2=true /\ (stepM l m).2.1=fin:=by
 obtain ⟨n,n2,e,hr,h2,h0⟩:=h.run
 obtain ⟨pc,mem,rs,ov⟩:=m
 have e':pc=(n:Int):=e
 subst e'
 have hr':Run l n mem rs.reverse [] n2 fin []:=hr
 generalize hR:rs.reverse=R at hr'
 cases hr' with
 | nil =>
  have hx:∀ mm:Mem,(qd l ((n:Int),mm,rs,ov)).1=0:=fun mm=>by unfold qd;exact h0
  refine ⟨hx _,?_,?_⟩
  ·unfold stepM
   simp only
   rw [hx];rfl
  ·unfold stepM
   simp only
   unfold N7
   rw [hx];rfl
theorem HZ.step {l:List I4} {m:d9} {x:I4} {tr:List I4} {fin:Mem} (h:HZ l m (x::tr) fin):qd l m=x /\ (stepM l m).2.2.2=false /\ HZ l (stepM l m) tr fin:=by
 obtain ⟨n,n2,e,hr,h2,h0⟩:=h.run
 obtain ⟨pc,mem,rs,ov⟩:=m
 have e':pc=(n:Int):=e
 subst e'
 have hr':Run l n mem rs.reverse (x::tr) n2 fin []:=hr
 generalize hR:rs.reverse=R at hr'
 cases hr' with
 | cons a b c d f g i r =>
  rename_i n1 R1
  have hx:qd l ((n:Int),mem,rs,ov)=x:=by unfold qd;exact b
  have hov:(stepM l ((n:Int),mem,rs,ov)).2.2.2=false:=by
   unfold stepM
   simp only
   rw [hx];exact beq_eq_false_iff_ne.2 c
  have hxm:=(h.ins _ (iq (z:=i0) a)).1
  rw [b] at hxm
  have e1:stepM l ((n:Int),mem,rs,ov)=((n1:Int),N7 x mem,R1.reverse,false):=by
   unfold stepM
   simp only
   rw [hx,hR,Int.toNat_natCast,g,beq_eq_false_iff_ne.2 c]
  refine ⟨hx,hov,?_⟩
  rw [e1]
  exact ⟨h.len,h.ins,aeC hxm h.mem,rfl,n1,n2,rfl,by show Run l n1 (N7 x mem) R1.reverse.reverse tr n2 fin [];rw [List.reverse_reverse];exact r,h2,h0⟩
theorem ahd:∀ {t:Tr} {d:Nat} {hs:List Int} {ia:Bool},Ok d hs ia t -> (∀ x∈t.flat,x.1≠9) -> ∀ x∈t.flat,x.1≠10
 | .nil,_,_,_,_,_=>fun x hx=>by simp [Tr.flat] at hx
 | .one y r,d,hs,ia,h,h9=>fun x hx=>by
  rw [Tr.flat,List.mem_cons] at hx
  rcases hx with rfl | hx
  ·exact h.2.1.2.2.2.2
  ·exact ahd h.2.2.2 (fun z hz=>h9 z (by rw [Tr.flat];exact List.mem_cons_of_mem _ hz)) x hx
 | .lk a b r,_,_,_,_,h9=>absurd rfl (h9 (9,a,0,0) (by rw [Tr.flat];exact List.mem_cons_self))
 | .ar y b r,d,hs,ia,h,h9=>fun x hx=>by
  rw [Tr.flat,List.mem_cons,List.mem_append] at hx
  rcases hx with rfl | hx | hx
  ·have:=h.1.2.1
   unfold isA at this
   simp only [Bool.or_eq_true,beq_iff_eq] at this
   omega
  ·exact ahd h.2.2.1 (fun z hz=>h9 z (by rw [Tr.flat];simp [hz])) x hx
  ·exact ahd h.2.2.2 (fun z hz=>h9 z (by rw [Tr.flat];simp [hz])) x hx
def FM (l:List I4):Prop:=∃ t:Tr,l=t.prog /\ Ok 0 [] false t /\ t.len<24 /\ ∀ x∈t.flat,x.1≠9
theorem FM.ins {l:List I4} (h:FM l):l.length <= 900 /\ ∀ x∈l,ji x=true /\ x.1≠9 /\ x.1≠10:=by
 obtain ⟨t,rfl,h1,h2,h3⟩:=h
 refine ⟨by rw [vo];omega,fun x hx=>?_⟩
 unfold Tr.prog at hx
 rw [List.mem_append] at hx
 rcases hx with hx | hx
 ·exact ⟨FR h1 x hx,h3 x hx,ahd h1 h3 x hx⟩
 ·rw [List.mem_singleton] at hx
  rw [hx];exact ⟨by decide,by decide,by decide⟩
theorem abn (t:Tr):(t.prog.getD t.len i0).1=0:=by
 unfold Tr.prog
 rw [j6 (by rw [iw];omega),iw,Nat.sub_self];rfl
theorem aeY {t:Tr} (h1:Ok 0 [] false t) (h2:t.len<24) (h3:∀ x∈t.flat,x.1≠9) {a:Int} (ha:JU a):HZ t.prog (N9 a) (BN t (agG a)).1 (BN t (agG a)).2:=by
 have hi:=FM.ins ⟨t,rfl,h1,h2,h3⟩
 exact ⟨hi.1,hi.2,agH a ha,rfl,0,t.len,rfl,aeE h1 (agG a),by rw [vo];omega,abn t⟩
structure Emb (s l:List fq) (f:Nat -> Nat):Prop where
 lt:∀ a,a<s.length -> f a<l.length
 eq:∀ a,a<s.length -> s.getD a t0=l.getD (f a) t0
 mono:∀ a b,a<b -> b<s.length -> f a<f b
theorem P9 {a b c:Int}:mx a b <= c↔a <= c /\ b <= c:=by unfold mx;split <;> omega
theorem G5 {l:List fq} {i b:Int}:∀ (sp:List (Int×Int)) (m:Int),spF l i m sp <= b↔m <= b /\ ∀ e∈sp,E8 l e.1 <= i -> e.2 <= b
 | [],m=>by simp [spF]
 | e::r,m=>by
  rw [spF,G5 r]
  simp only [List.mem_cons,forall_eq_or_imp]
  by_cases h:E8 l e.1 <= i
  ·rw [decide_eq_true h,cond_true,P9]
   exact ⟨fun q=>⟨q.1.1,fun _=>q.1.2,q.2⟩,fun q=>⟨⟨q.1,q.2.1 h⟩,q.2.2⟩⟩
  ·rw [decide_eq_false h,cond_false]
   exact ⟨fun q=>⟨q.1,fun h2=>absurd h2 h,q.2⟩,fun q=>⟨q.1,q.2.2⟩⟩
theorem G6 {l:List fq} {i b:Int}:∀ (r:List fq) (n:Nat) (m:Int),byG l i r n m <= b↔m <= b /\ ∀ j,j<r.length -> ((n+j:Nat):Int)≠i -> ∀ e∈(jr (r.getD j t0)).2.2,E8 l e.1 <= i -> e.2 <= b
 | [],n,m=>by simp [byG]
 | t::r,n,m=>by
  rw [byG,G6 r]
  constructor
  ·intro ⟨h1,h2⟩
   cases hc:((n:Int)==i) with
   | true =>
    rw [hc,cond_true] at h1
    refine ⟨h1,fun j hj hne=>?_⟩
    cases j with
    | zero=>exact absurd (eq_of_beq hc) hne
    | succ j=>exact h2 j (by simpa using hj) (by rw [show n+1+j=n+(j+1) by omega];exact hne)
   | false =>
    rw [hc,cond_false,G5] at h1
    refine ⟨h1.1,fun j hj hne=>?_⟩
    cases j with
    | zero=>exact h1.2
    | succ j=>exact h2 j (by simpa using hj) (by rw [show n+1+j=n+(j+1) by omega];exact hne)
  ·intro ⟨h1,h2⟩
   refine ⟨?_,fun j hj hne=>h2 (j+1) (by simpa using hj) (by rw [show n+(j+1)=n+1+j by omega];exact hne)⟩
   cases hc:((n:Int)==i) with
   | true=>exact h1
   | false =>
    rw [cond_false,G5]
    exact ⟨h1,h2 0 (by simp) (by rw [beq_eq_false_iff_ne] at hc;exact hc)⟩
theorem CQ {b:Int}:∀ (r:List fq) (m:Int),qy m r <= b↔m <= b /\ ∀ t∈r,(jr t).2.1 <= b
 | [],m=>by simp [qy]
 | t::r,m=>by
  rw [qy,CQ r,P9]
  simp only [List.mem_cons,forall_eq_or_imp]
  exact and_assoc
theorem I5 (x:Int):∀ a b:List (Int×Int),yt x (a++b)=yt x a+yt x b
 | [],b=>by simp [yt]
 | p::a,b=>by rw [List.cons_append,yt,yt,I5 x a b];omega
section
variable {s l:List fq} {f:Nat -> Nat} (h:Emb s l f)
include h
theorem Emb.ceil {i:Nat} (hi:i<s.length) (h8:s.length <= 8) {e:Int} (hc:E8 s e <= (i:Int)):E8 l e <= ((f i:Nat):Int):=by
 unfold E8 at hc ⊢
 rcases ME e s 0 with ⟨q,_⟩ | ⟨n,hn,q,hl⟩
 ·omega
 ·rw [h.eq n hn] at hl
  have:=VA e l 0 (f n) (h.lt n hn) hl
  have h2:f n <= f i:=by
   by_cases e:n=i
   ·rw [e];exact Nat.le_refl _
   ·exact Nat.le_of_lt (h.mono n i (by omega) hi)
  omega
theorem Emb.by {i:Nat} (hi:i<s.length) (h8:s.length <= 8):byT s (i:Int) <= byT l ((f i:Nat):Int):=by
 unfold byT
 rw [G6]
 obtain ⟨h1,h2⟩:=(G6 (l:=l) (i:=((f i:Nat):Int)) l 0 0).1 (Int.le_refl _)
 refine ⟨h1,fun j hj hne e he hc=>?_⟩
 rw [Nat.zero_add] at hne
 have apm:f j≠f i:=by
  rcases Nat.lt_or_gt_of_ne (show j≠i from fun e=>hne (by rw [e])) with q | q
  ·exact Nat.ne_of_lt (h.mono j i q hi)
  ·exact Nat.ne_of_gt (h.mono i j q hj)
 exact h2 (f j) (h.lt j hj) (by rw [Nat.zero_add];omega) e (by rw [<- h.eq j hj];exact he) (h.ceil hi h8 hc)
theorem Emb.lost {i:Nat} (hi:i<s.length):qy 0 (s.take (i+1)) <= qy 0 (l.take (f i+1)):=by
 rw [CQ]
 obtain ⟨h1,h2⟩:=(CQ (l.take (f i+1)) 0).1 (Int.le_refl _)
 refine ⟨h1,fun t ht=>h2 t ?_⟩
 obtain ⟨a,ha,e⟩:=List.mem_iff_getElem.1 ht
 rw [List.length_take] at ha
 have e1:t=s.getD a t0:=by rw [<- e,List.getElem_take,List.getD_eq_getElem?_getD,List.getElem?_eq_getElem (by omega)];rfl
 have hfa:f a <= f i:=by
  by_cases e:a=i
  ·rw [e];exact Nat.le_refl _
  ·exact Nat.le_of_lt (h.mono a i (by omega) hi)
 have hla:=h.lt a (by omega)
 rw [e1,h.eq a (by omega)]
 rw [List.getD_eq_getElem?_getD,List.getElem?_eq_getElem hla,List.mem_iff_getElem]
 exact ⟨f a,by rw [List.length_take];omega,by rw [List.getElem_take];rfl⟩
theorem Emb.sum (hco:∀ t∈l,CoS t) {x:Int} (hx:0 <= x):∀ a,a <= s.length -> ∀ n,n <= l.length -> (∀ b,b<a -> f b<n) -> yt x ((s.take a).map pc1) <= yt x ((l.take n).map pc1)
 | 0,_,n,hn,_=>by
  rw [List.take_zero]
  exact za hx (fun y hy=>by
   obtain ⟨t,ht,rfl⟩:=List.mem_map.1 hy
   have q:=hco t (List.mem_of_mem_take ht)
   have:=q.cost;have:=q.per
   unfold pc1;simp only;omega)
 | a+1,ha,n,hn,hb=>by
  have hfa:=hb a (by omega)
  have hla:f a<l.length:=h.lt a (by omega)
  have ih:=Emb.sum hco hx a (by omega) (f a) (by omega) (fun b hb=>h.mono b a hb (by omega))
  rw [J7 (show a<s.length by omega),List.map_append,I5,h.eq a (by omega)]
  have e:l.take n=l.take (f a)++[l.getD (f a) t0]++(l.take n).drop (f a+1):=by
   rw [<- J7 hla]
   have:=(List.take_append_drop (f a+1) (l.take n)).symm
   rwa [List.take_take,Nat.min_eq_left (by omega)] at this
  rw [e,List.map_append,List.map_append,I5,I5]
  have:0 <= yt x (((l.take n).drop (f a+1)).map pc1):=za hx (fun y hy=>by
   obtain ⟨t,ht,rfl⟩:=List.mem_map.1 hy
   have q:=hco t (List.mem_of_mem_take (List.mem_of_mem_drop ht))
   have:=q.cost;have:=q.per
   unfold pc1;simp only;omega)
  omega
theorem Emb.right (hco:RS l) {i:Nat} (hi:i<s.length) (h8:s.length <= 8) {ap x:Int} (ha:1 <= ap) (hx:0 <= x):firstT s i <= firstT l (f i) /\ qj s i ap x <= qj l (f i) ap x:=by
 have h1:=h.by hi h8
 have h2:=h.lost hi
 have h3:=h.sum hco.co hx i (by omega) (f i) (Nat.le_of_lt (h.lt i hi)) (fun b hb=>h.mono b i hb hi)
 have h4:=Int.mul_le_mul_of_nonneg_left h2 (OO hx ha).1
 have hf:firstT s i <= firstT l (f i):=by unfold firstT;rw [h.eq i hi];omega
 refine ⟨hf,?_⟩
 unfold qj;omega
theorem Emb.row (hr:yj l=true):yj s=true:=by
 have hri:=OV hr
 rw [row_iff] at hr ⊢
 intro n hn
 rw [h.eq n hn]
 refine ⟨(hr _ (h.lt n hn)).1,fun h0=>?_⟩
 rw [h.eq (n - 1) (by omega)]
 exact hri _ _ (h.mono (n - 1) n (by omega) hn) (h.lt n hn)
theorem Emb.light (hL:jg l) (hs:s.length <= 100):jg s:=⟨hs,fun t ht=>by
 obtain ⟨a,ha,e⟩:=List.mem_iff_getElem.1 ht
 have e1:t=s.getD a t0:=by rw [<- e,List.getD_eq_getElem?_getD,List.getElem?_eq_getElem ha];rfl
 rw [e1,h.eq a ha]
 exact hL.2 _ (iq (h.lt a ha))⟩
theorem Emb.resp (hL:jg l) (hl:l.length <= 10) (h8:s.length <= 8) {i:Nat} (hi:i<s.length) {ap:Int} (he:(lq l ((f i:Nat):Int) ap).2.2=0):(lq s (i:Int) ap).2.2=0 /\ (lq s (i:Int) ap).1 <= (lq l ((f i:Nat):Int) ap).1:=by
 obtain ⟨h1,h2,h3,h4,h5,h6,h7⟩:=VG hL hl he
 have hR:=MG h1 hL hl
 have hs:=MG (h.row h1) (h.light hL (by omega)) (by omega)
 obtain ⟨q1,q2⟩:=h.right hR hi h8 (ap:=ap) (x:=(lq l ((f i:Nat):Int) ap).1) h3 (by omega)
 exact VF (h.row h1) hs hi h3 (by omega) (by omega) (by rw [h.eq i hi];exact h6)
end
theorem aaD {l:List fq} {ap:Int}:∀ (d i:Nat) (out:List wm),(∀ a,i <= a -> a<i+d -> (lq l (a:Int) ap).2.2=0) -> JV l ap d i out=(out++(List.range' i d).map (gq l ap),0)
 | 0,i,out,_=>by rw [JV];simp
 | d+1,i,out,h=>by
  rw [JV,if_pos (h i (Nat.le_refl _) (by omega)),aaD d (i+1) _ (fun a h1 h2=>h a (by omega) (by omega)),List.range'_succ,List.map_cons,List.append_assoc];rfl
theorem PE {l:List fq} {ap:Int}:∀ (d i:Nat) (out:List wm),(JV l ap d i out).2=0 -> ∀ a,i <= a -> a<i+d -> (lq l (a:Int) ap).2.2=0
 | 0,i,out,_,a,h1,h2=>by omega
 | d+1,i,out,h,a,h1,h2=>by
  rw [JV] at h
  by_cases he:(lq l (i:Int) ap).2.2=0
  ·rw [if_pos he] at h
   by_cases e:a=i
   ·rw [e];exact he
   ·exact PE d (i+1) _ h a (by omega) (by omega)
  ·rw [if_neg he] at h;exact absurd h he
theorem aaE {l:List fq} {ap:Int} (ha:1 <= ap) (h:∀ i,i<l.length -> (lq l (i:Int) ap).2.2=0):allT l ap=((List.range l.length).map (gq l ap),0):=by
 unfold allT
 rw [if_neg (by omega),aaD l.length 0 [] (fun a _ h2=>h a (by omega)),List.nil_append,<- List.range_eq_range']
theorem PG {l:List fq} {ap:Int} (h:(allT l ap).2=0):1 <= ap /\ ∀ i,i<l.length -> (lq l (i:Int) ap).2.2=0:=by
 unfold allT at h
 by_cases ha:ap<1
 ·rw [if_pos ha] at h;exact absurd h (by decide)
 ·rw [if_neg ha] at h
  exact ⟨by omega,fun i hi=>PE l.length 0 [] h i (by omega) (by omega)⟩
theorem Emb.all {s l:List fq} {f:Nat -> Nat} (h:Emb s l f) (hL:jg l) (hl:l.length <= 10) (h8:s.length <= 8) {ap:Int} (he:(allT l ap).2=0):allT s ap=((List.range s.length).map (gq s ap),0):=by
 obtain ⟨h1,h2⟩:=PG he
 exact aaE h1 (fun i hi=>(h.resp hL hl h8 hi (h2 _ (h.lt i hi))).1)
theorem PI (r:Int):∀ l:List fq,∀ a,a<wh r l -> (l.getD a t0).1<r
 | [],a,h=>by simp [wh] at h
 | x::l,a,h=>by
  rw [wh] at h
  by_cases hx:x.1<r
  ·rw [decide_eq_true hx,cond_true] at h
   cases a with
   | zero=>exact hx
   | succ a=>exact PI r l a (by omega)
  ·rw [decide_eq_false hx,cond_false] at h;omega
theorem MR {l:List fq} {t:fq} {i:Nat} (hi:i<l.length+1):(zl l t).getD i t0=if i<wh t.1 l then l.getD i t0 else if i=wh t.1 l then t else l.getD (i - 1) t0:=by
 have hp:=KN t.1 l
 unfold zl
 split
 ·rename_i h
  rw [List.append_assoc,mh (by rw [List.length_take];omega),List.getD_eq_getElem?_getD,List.getElem?_take,if_pos h,List.getD_eq_getElem?_getD]
 ·rename_i h
  split
  ·rename_i e
   rw [List.append_assoc,j6 (by rw [List.length_take];omega),List.length_take,e,show wh t.1 l - min (wh t.1 l) l.length=0 by omega];rfl
  ·rename_i e
   rw [j6 (by simp only [List.length_append,List.length_take,List.length_cons,List.length_nil];omega)]
   simp only [List.length_append,List.length_take,List.length_cons,List.length_nil]
   rw [List.getD_eq_getElem?_getD,List.getElem?_drop,List.getD_eq_getElem?_getD]
   congr 2;omega
theorem akI {l:List fq} {t:fq} {ap:Int} (h:(inT l t ap).2.2=0):(inT l t ap).1=zl l t /\ (inT l t ap).2.1=(allT (zl l t) ap).1 /\ (allT (zl l t) ap).2=0 /\ l.any (fun x=>x.1==t.1)=false:=by
 unfold inT at h ⊢
 split at h
 ·rename_i q;exact absurd h q
 ·rename_i q
  rw [if_neg q]
  split at h
  ·exact absurd h (by decide)
  ·rename_i q2
   rw [if_neg q2]
   split at h
   ·exact absurd h (by decide)
   ·rename_i q3
    rw [if_neg q3]
    split at h
    ·rename_i q4;exact absurd h q4
    ·rename_i q4
     rw [if_neg q4]
     exact ⟨rfl,rfl,by simpa using q4,Bool.eq_false_iff.2 q2⟩
structure GT (t:fq):Prop where
 main:FM t.2.2.2.1
 way:t.2.2.2.2.1=[] \/ FM t.2.2.2.2.1
 opt:t.2.2.2.2.2=[] \/ FM t.2.2.2.2.2
def aaF (l:List I4) (m:d9):Prop:=∃ tr fin,HZ l m tr fin
theorem FM.begins {l:List I4} (h:FM l) {a:Int} (ha:JU a):aaF l (N9 a):=by
 obtain ⟨t,rfl,h1,h2,h3⟩:=h
 exact ⟨_,_,aeY h1 h2 h3 ha⟩
structure JG (ts:List fq) (j:gu):Prop where
 task:0 <= j.1 /\ j.1<(ts.length:Int)
 held:j.2.2.2.2.2.2.1=[]
 phase:0 <= j.2.2.2.1 /\ j.2.2.2.1 <= 2
 arg:JU j.2.2.1
 m:aaF (BP (ts.getD j.1.toNat t0) j.2.2.2.1) j.2.2.2.2.1
 kept:aaF (BP (ts.getD j.1.toNat t0) j.2.2.2.1) j.2.2.2.2.2.1
theorem JG.gok {ts:List fq} {j:gu} (h:JG ts j):GOK ts j /\ few j:=by
 obtain ⟨tr,fin,h1⟩:=h.m
 obtain ⟨tr2,apq,h2⟩:=h.kept
 have h1:=h1.mok
 have h2:=h2.mok
 exact ⟨⟨⟨h.held,by omega,by omega⟩,h.task,h.phase,h1.1⟩,by unfold few;omega⟩
theorem JG.prom {ts:List fq} {j:gu} (h:JG ts j) (now:Int) (bs:List wm):JG ts (l9 now bs j):=by
 obtain ⟨e1,e2,e3,e4,e5,e6,e7⟩:=yu now bs j
 exact ⟨by rw [e1];exact h.task,by rw [e7];exact h.held,by rw [e4];exact h.phase,by rw [e3];exact h.arg,by rw [e1,e4,e5];exact h.m,by rw [e1,e4,e6];exact h.kept⟩
theorem JG.go {ts:List fq} {j:gu} (h:JG ts j):((N8 (ts.getD j.1.toNat t0) j).2.2.2.2.1.2.2.2=false -> JG ts (N8 (ts.getD j.1.toNat t0) j)) /\ JU (N8 (ts.getD j.1.toNat t0) j).2.2.2.2.1.2.1.1:=by
 obtain ⟨tr,fin,h1⟩:=h.m
 cases tr with
 | nil =>
  obtain ⟨l1,l2,l3⟩:=h1.last
  refine ⟨fun e=>absurd (l2.symm.trans e) (by decide),?_⟩
  have hm:=aeC h1.mok.1.may h1.mem
  exact hm _ (List.mem_cons_self)
 | cons x tr =>
  obtain ⟨e1,e2,e3⟩:=h1.step
  refine ⟨fun _=>⟨h.task,h.held,h.phase,h.arg,⟨tr,fin,e3⟩,?_⟩,e3.mem _ List.mem_cons_self⟩
  show aaF _ (bif (qd (BP (ts.getD j.1.toNat t0) j.2.2.2.1) j.2.2.2.2.1).1==11 then stepM (BP (ts.getD j.1.toNat t0) j.2.2.2.1) j.2.2.2.2.1 else j.2.2.2.2.2.1)
  cases (qd (BP (ts.getD j.1.toNat t0) j.2.2.2.1) j.2.2.2.2.1).1==11 with
  | true=>exact ⟨tr,fin,e3⟩
  | false=>exact h.kept
theorem JG.opts {ts:List fq} {j:gu} (h:0 <= j.1 /\ j.1<(ts.length:Int)) (ha:JU j.2.2.1) (hm:JU j.2.2.2.2.1.2.1.1) (ho:FM (ts.getD j.1.toNat t0).2.2.2.2.2):JG ts (ag2 j) :=
 ⟨h,rfl,by show (0:Int) <= 2 /\ (2:Int) <= 2;omega,ha,ho.begins hm,ho.begins hm⟩
theorem JG.goes {ts:List fq} (hg:∀ t∈ts,GT t) {j:gu} (h:JG ts j) (now:Int) (rows:List Int):(AJ now (ts.getD j.1.toNat t0) j rows).1.1=j.1 /\ ((AJ now (ts.getD j.1.toNat t0) j rows).2.1=false -> JG ts (AJ now (ts.getD j.1.toNat t0) j rows).1):=by
 obtain ⟨g1,g2⟩:=h.go
 have ht:=hg _ (iq (z:=t0) (l:=ts) (i:=j.1.toNat) (by have:=h.task;omega))
 unfold AJ
 cases ho:(N8 (ts.getD j.1.toNat t0) j).2.2.2.2.1.2.2.2 with
 | false=>exact ⟨rfl,fun _=>g1 ho⟩
 | true =>
  rw [cond_true]
  unfold H9
  cases (N8 (ts.getD j.1.toNat t0) j).2.2.2.1==2 with
  | true=>exact ⟨rfl,fun e=>absurd e (by simp)⟩
  | false =>
   refine ⟨rfl,fun e=>?_⟩
   rcases ht.opt with q | q
   ·rw [q] at e;exact absurd e (by simp)
   ·exact JG.opts (j:=N8 (ts.getD j.1.toNat t0) j) h.task h.arg g2 q
theorem JG.hits {ts:List fq} (hg:∀ t∈ts,GT t) {j:gu} (h:JG ts j) (now:Int) (rows:List Int):(ze now (ts.getD j.1.toNat t0) j rows).1.1=j.1 /\ ((ze now (ts.getD j.1.toNat t0) j rows).2.1=false -> JG ts (ze now (ts.getD j.1.toNat t0) j rows).1):=by
 have ht:=hg _ (iq (z:=t0) (l:=ts) (i:=j.1.toNat) (by have:=h.task;omega))
 have hb:JG ts (HV (ts.getD j.1.toNat t0) j) /\ (HV (ts.getD j.1.toNat t0) j).1=j.1:=by
  unfold HV
  cases hc:(j.2.2.2.1==0)&&decide (((ts.getD j.1.toNat t0).2.2.2.2.1.length:Int)>0) with
  | false=>exact ⟨⟨h.task,rfl,h.phase,h.arg,h.kept,h.kept⟩,rfl⟩
  | true =>
   rw [Bool.and_eq_true] at hc
   have hw:=of_decide_eq_true hc.2
   rcases ht.way with q | q
   ·rw [q] at hw;simp at hw
   ·exact ⟨⟨h.task,rfl,by show (0:Int) <= 1 /\ (1:Int) <= 2;omega,h.arg,q.begins h.arg,q.begins h.arg⟩,rfl⟩
 unfold ze
 cases j.2.2.2.1==2 with
 | true=>exact ⟨rfl,fun e=>absurd e (by simp)⟩
 | false =>
  rw [cond_false]
  cases (j.2.2.2.1==0)&&decide (((ts.getD j.1.toNat t0).2.2.2.2.1.length:Int)>0) with
  | true=>exact ⟨hb.2,fun _=>hb.1⟩
  | false=>exact ⟨hb.2,fun _=>hb.1⟩
theorem Xe {js:List gu}:rising js↔(js.map (fun j=>j.1)).Pairwise (·<·):=by
 unfold rising;rw [List.pairwise_map]
theorem Xf {js:List gu} (h:rising js) {i:Nat} {x:gu} (hx:x.1=(js.getD i j0).1):rising (js.set i x):=by
 rw [Xe] at h ⊢
 rw [List.map_set]
 by_cases hi:i<js.length
 ·have e:(js.map (fun j=>j.1)).set i x.1=js.map (fun j=>j.1):=by
   rw [hx,<- MP (f:=fun j:gu=>j.1) j0 0 hi];exact AB
  rw [e];exact h
 ·rw [List.set_eq_of_length_le (by rw [List.length_map];omega)];exact h
structure KG (K:gy):Prop where
 tab:K.2.2.2.2.2.2.2.2.1=jk
 tasks:jg K.2.2.1
 J9:K.2.2.1.length <= 8
 bounds:K.2.2.2.1.length=K.2.2.1.length
 rows:K.2.2.2.2.2.2.2.2.2.1.length=K.2.2.1.length
 off:K.2.2.2.2.2.2.2.2.2.2.length=K.2.2.1.length
 good:∀ t∈K.2.2.1,GT t
 job:∀ j∈K.2.2.2.2.2.2.2.1,JG K.2.2.1 j
 ris:rising K.2.2.2.2.2.2.2.1
theorem KG.ki {K:gy} (h:KG K):KI K:=⟨h.tab,h.tasks,h.J9,h.bounds,h.rows,h.off,fun j hj=>(h.job j hj).gok,h.ris⟩
theorem ahe {ts:List fq} (hg:∀ t∈ts,GT t) {js:List gu} (hj:∀ j∈js,JG ts j) (hr:rising js) (hne:js.isEmpty=false) (h8:ts.length <= 8) (now:Int) (rows:List Int) (hi:Bool) :
  (∀ j∈(D6 now ts js rows hi).1,JG ts j) /\ rising (D6 now ts js rows hi).1 /\ (D6 now ts js rows hi).2.2.length=rows.length:=by
 have h0:0<js.length:=by cases js with | nil=>simp at hne | cons a l=>simp
 have hmin:BQ js (ts.length:Int)<js.length:=by
  have:=HY (l:=js.map (BF (ts.length:Int))) js.length 0 0 (by simp) (by simpa using h0)
  simpa [BQ] using this
 have hin:=hj _ (iq (z:=j0) hmin)
 unfold D6
 simp only
 generalize BQ js (ts.length:Int)=i at hmin hin ⊢
 have key:∀ r:RunT,r.1.1=(js.getD i j0).1 -> (r.2.1=false -> JG ts r.1) -> r.2.2.2.length=rows.length ->
   (∀ j∈(bif r.2.1 then js.take i++js.drop (i+1) else js.set i r.1),JG ts j) /\ rising (bif r.2.1 then js.take i++js.drop (i+1) else js.set i r.1) /\ r.2.2.2.length=rows.length:=fun r h1 h2 h3=>by
  cases hb:r.2.1 with
  | true =>
   simp only [cond_true]
   have hsub:(js.take i++js.drop (i+1)).Sublist js:=by rw [<- List.eraseIdx_eq_take_drop_succ];exact List.eraseIdx_sublist _ _
   exact ⟨fun j hm=>hj j (hsub.subset hm),List.Pairwise.sublist hsub hr,h3⟩
  | false =>
   simp only [cond_false]
   refine ⟨fun j hm=>?_,Xf hr h1,h3⟩
   rcases List.mem_or_eq_of_mem_set hm with q | q
   ·exact hj j q
   ·rw [q];exact h2 hb
 cases hi with
 | true =>
  obtain ⟨a,b⟩:=hin.hits hg now rows
  exact key _ a b (aeV _ _ _ _).1
 | false =>
  obtain ⟨a,b⟩:=hin.goes hg now rows
  exact key _ a b (abm _ _ _ _).1
theorem ahf {K:gy} (h:KG K):KG (EA K).1:=by
 obtain ⟨now,ap,ts,bs,ru,ha,hi,js,T,rows,off⟩:=K
 have h1:jg ts:=h.tasks
 have h2:ts.length <= 8:=h.J9
 have h4:rows.length=ts.length:=h.rows
 have h5:off.length=ts.length:=h.off
 have h6:∀ j∈js,JG ts j:=h.job
 have h7:rising js:=h.ris
 have h9:∀ t∈ts,GT t:=h.good
 unfold EA
 simp only
 cases hc:ru&&!ha with
 | false=>exact ⟨h.tab,h.tasks,h.J9,h.bounds,h.rows,h.off,h.good,h.job,h.ris⟩
 | true =>
  simp only [cond_true]
  obtain ⟨l,g1,g2,g3,g4,g5⟩:=EW now ts js ([],[],rows,off,ha)
  rw [show js.foldl (uq now ts) ([],[],rows,off,ha)=D5 now ts js rows off ha from rfl] at g2 g3 g4 g5
  simp only [List.nil_append] at g2 g3 g4 g5
  generalize D5 now ts js rows off ha=E at g2 g3 g4 g5 ⊢
  have hE:∀ j∈E.1.map (l9 now bs),JG ts j:=fun j hj=>by
   obtain ⟨x,hx,rfl⟩:=List.mem_map.1 hj
   exact (h6 x (g1.subset (by rw [<- g2];exact hx))).prom now bs
  have hEr:rising (E.1.map (l9 now bs)):=rising_map (fun j=>(yu now bs j).1) (by rw [g2];exact List.Pairwise.sublist g1 h7)
  cases he:E.2.2.2.2||(E.1.map (l9 now bs)).isEmpty with
  | true =>
   simp only [cond_true]
   exact ⟨h.tab,h.tasks,h.J9,h.bounds,by simp only;omega,by simp only;omega,h.good,hE,hEr⟩
  | false =>
   simp only [cond_false]
   rw [Bool.or_eq_false_iff] at he
   obtain ⟨r1,r2,r3⟩:=ahe h9 hE hEr he.2 h2 now E.2.2.1 hi
   exact ⟨h.tab,h.tasks,h.J9,h.bounds,by simp only;omega,by simp only;omega,h.good,r1,r2⟩
theorem PK (p:Int):∀ l:List gu,∀ a,a<mq p l -> (l.getD a j0).1<p
 | [],a,h=>by simp [mq] at h
 | x::l,a,h=>by
  rw [mq] at h
  by_cases hx:x.1<p
  ·rw [decide_eq_true hx,cond_true] at h
   cases a with
   | zero=>exact hx
   | succ a=>exact PK p l a (by omega)
  ·rw [decide_eq_false hx,cond_false] at h;omega
theorem PL (p:Int):∀ l:List gu,mq p l<l.length -> ¬ (l.getD (mq p l) j0).1<p
 | [],h=>by simp at h
 | x::l,h=>by
  by_cases hx:x.1<p
  ·have e:mq p (x::l)=mq p l+1:=by rw [mq,decide_eq_true hx,cond_true]
   rw [e] at h ⊢
   exact PL p l (by simp only [List.length_cons] at h;omega)
  ·have e:mq p (x::l)=0:=by rw [mq,decide_eq_false hx,cond_false]
   rw [e];exact hx
theorem Xg {js:List gu} (h:rising js) {p:Int} {x:gu} (hx:x.1=p) {n:Nat} (hn:mq p js <= n) (hs:n <= js.length) (ha:∀ a,n <= a -> a<js.length -> p<(js.getD a j0).1):rising (js.take (mq p js)++[x]++js.drop n):=by
 unfold rising at h ⊢
 have hat:∀ y∈js.take (mq p js),y.1<p:=fun y hy=>by
  obtain ⟨a,ha,e⟩:=List.mem_iff_getElem.1 hy
  rw [List.length_take] at ha
  rw [List.getElem_take] at e
  have:=PK p js a (by omega)
  rw [getD_in (by omega),e] at this
  exact this
 have hdr:∀ y∈js.drop n,p<y.1:=fun y hy=>by
  obtain ⟨a,hb,e⟩:=List.mem_iff_getElem.1 hy
  rw [List.length_drop] at hb
  rw [List.getElem_drop] at e
  have:=ha (n+a) (by omega) (by omega)
  rw [getD_in (by omega),e] at this
  exact this
 rw [List.append_assoc,List.pairwise_append]
 refine ⟨List.Pairwise.sublist (List.take_sublist _ _) h,?_,?_⟩
 ·rw [List.singleton_append,List.pairwise_cons]
  exact ⟨fun y hy=>by rw [hx];exact hdr y hy,List.Pairwise.sublist (List.drop_sublist _ _) h⟩
 ·intro a ha b hb
  rw [List.singleton_append,List.mem_cons] at hb
  have:=hat a ha
  rcases hb with q | q
  ·rw [q,hx];exact this
  ·have:=hdr b q;omega
theorem akJ {K:gy} (h:KG K) {p a:Int} (ha:JU a):KG (VR K p a).1:=by
 have h7:rising K.2.2.2.2.2.2.2.1:=h.ris
 unfold VR
 cases !K.2.2.2.2.1 with
 | true=>exact h
 | false =>
  simp only [cond_false]
  cases K.2.2.2.2.2.1 with
  | true=>exact h
  | false =>
   simp only [cond_false]
   cases hp:decide (p<0)||decide (p≥(K.2.2.1.length:Int)) with
   | true=>exact h
   | false =>
    simp only [cond_false]
    rw [Bool.or_eq_false_iff] at hp
    have p1:=of_decide_eq_false hp.1
    have p2:=of_decide_eq_false hp.2
    cases K.2.2.2.2.2.2.2.2.2.2.getD p.toNat false with
    | true=>exact h
    | false =>
     simp only [cond_false]
     have hle:=SX p K.2.2.2.2.2.2.2.1
     have hstop:=PL p K.2.2.2.2.2.2.2.1
     have hgt:=h.good _ (iq (z:=t0) (l:=K.2.2.1) (i:=p.toNat) (by omega))
     have hnew:JG K.2.2.1 (JW p K.1 a):=⟨⟨by show 0 <= p;omega,by show p<_;omega⟩,rfl,by show (0:Int) <= 0 /\ (0:Int) <= 2;omega,ha,hgt.main.begins ha,hgt.main.begins ha⟩
     have fin:∀ n,mq p K.2.2.2.2.2.2.2.1 <= n -> n <= K.2.2.2.2.2.2.2.1.length -> (∀ b,n <= b -> b<K.2.2.2.2.2.2.2.1.length -> p<(K.2.2.2.2.2.2.2.1.getD b j0).1) -> KG (aaC K (K.2.2.2.2.2.2.2.1.take (mq p K.2.2.2.2.2.2.2.1)++[JW p K.1 a]++K.2.2.2.2.2.2.2.1.drop n)):=fun n hn hs hb =>
      ⟨h.tab,h.tasks,h.J9,h.bounds,h.rows,h.off,h.good,fun j hj=>by
       rcases List.mem_append.1 hj with hj | hj
       ·rcases List.mem_append.1 hj with hj | hj
        ·exact h.job j (List.mem_of_mem_take hj)
        ·rw [List.mem_singleton] at hj;rw [hj];exact hnew
       ·exact h.job j (List.mem_of_mem_drop hj),Xg (p:=p) (x:=JW p K.1 a) h7 rfl hn hs hb⟩
     have mono:∀ x y,x<y -> y<K.2.2.2.2.2.2.2.1.length -> (K.2.2.2.2.2.2.2.1.getD x j0).1<(K.2.2.2.2.2.2.2.1.getD y j0).1:=fun x y hxy hy=>by
      rw [getD_in (by omega),getD_in hy];exact List.pairwise_iff_getElem.1 h7 x y (by omega) hy hxy
     cases hc:decide (mq p K.2.2.2.2.2.2.2.1<K.2.2.2.2.2.2.2.1.length)&&(K.2.2.2.2.2.2.2.1.getD (mq p K.2.2.2.2.2.2.2.1) j0).1==p with
     | true =>
      simp only [cond_true]
      rw [Bool.and_eq_true] at hc
      have c1:=of_decide_eq_true hc.1
      have c2:=eq_of_beq hc.2
      cases (K.2.2.2.2.2.2.2.1.getD (mq p K.2.2.2.2.2.2.2.1) j0).2.2.2.1 != 2 with
      | true=>exact h
      | false =>
       simp only [cond_false]
       refine fin _ (by omega) (by omega) (fun b h1 h2=>?_)
       have:=mono (mq p K.2.2.2.2.2.2.2.1) b (by omega) h2
       omega
     | false =>
      simp only [cond_false]
      refine fin _ (Nat.le_refl _) hle (fun b h1 h2=>?_)
      have c0:=hstop (by omega)
      have c1:(K.2.2.2.2.2.2.2.1.getD (mq p K.2.2.2.2.2.2.2.1) j0).1≠p:=fun e=>by
       rw [e,decide_eq_true (show mq p K.2.2.2.2.2.2.2.1<K.2.2.2.2.2.2.2.1.length by omega)] at hc
       simp at hc
      by_cases e:b=mq p K.2.2.2.2.2.2.2.1
      ·rw [e];omega
      ·have:=mono (mq p K.2.2.2.2.2.2.2.1) b (by omega) h2
       omega
theorem PO (r:Int):∀ l:List fq,wh r l<l.length -> ¬ (l.getD (wh r l) t0).1<r
 | [],h=>by simp at h
 | x::l,h=>by
  by_cases hx:x.1<r
  ·have e:wh r (x::l)=wh r l+1:=by rw [wh,decide_eq_true hx,cond_true]
   rw [e] at h ⊢
   exact PO r l (by simp only [List.length_cons] at h;omega)
  ·have e:wh r (x::l)=0:=by rw [wh,decide_eq_false hx,cond_false]
   rw [e];exact hx
theorem ahg {l:List fq} {t:fq} (h:yj l=true) (ht:BA t=0) (ha:l.any (fun x=>x.1==t.1)=false):yj (zl l t)=true:=by
 have hp:=KN t.1 l
 have hne:∀ a,a<l.length -> (l.getD a t0).1≠t.1:=fun a h1 e=>by
  rw [List.any_eq_false] at ha
  exact ha _ (iq (z:=t0) h1) (by rw [e];exact beq_self_eq_true _)
 rw [row_iff] at h ⊢
 intro n hn
 rw [H6] at hn
 refine ⟨?_,fun h0=>?_⟩
 ·rw [MR hn]
  split
  ·exact (h n (by omega)).1
  ·split
   ·exact ht
   ·exact (h (n - 1) (by omega)).1
 ·rw [MR hn,MR (show n - 1<l.length+1 by omega)]
  by_cases c1:n<wh t.1 l
  ·rw [if_pos c1,if_pos (show n - 1<wh t.1 l by omega)]
   exact (h n (by omega)).2 h0
  ·rw [if_neg c1]
   by_cases c2:n=wh t.1 l
   ·rw [if_pos c2,if_pos (show n - 1<wh t.1 l by omega)]
    exact PI t.1 l (n - 1) (by omega)
   ·rw [if_neg c2,if_neg (show ¬ n - 1<wh t.1 l by omega)]
    by_cases c3:n - 1=wh t.1 l
    ·rw [if_pos c3,c3]
     have h1:=PO t.1 l (by omega)
     have h2:=hne (wh t.1 l) (by omega)
     omega
    ·rw [if_neg c3]
     exact (h (n - 1) (by omega)).2 (by omega)
abbrev Stp:Type:=Int×(Int×fq×(Int×Int)×Int×Int×Int)×Int×Int
def D8 (kd:Int) (t:fq):Stp:=(1,(kd,t,(0,0),0,0,0),0,0)
abbrev zt:fq:=(0,0,0,[],[],[])
def PS (b:Bool) (kd:Int):List Stp:=bif b then [D8 kd zt] else []
theorem VU {k:Nat} (hk:1000 <= k) {p:List Int} {lo:Int} (hl:0 <= lo /\ lo <= 4):∀ (m j:Nat) (n:Int) (l:List Stp),m<j -> l.length+m <= 10 -> zk p n ->
  ∃ (tl:List fq) (bx fl:Bool) (n':Int),V3 k j p n l lo (m:Int)=some ((l++tl.map (D8 1)++PS bx 3++PS fl 4++[D8 5 zt],()),(p,n',()),()) /\ zk p n' /\ tl.length=m /\ ∀ t∈tl,∃ r,MT lo r t
 | 0,j,n,l,hj,hm,hp=>by
  obtain ⟨j',rfl⟩:∃ j',j=j'+1:=⟨j - 1,by omega⟩
  obtain ⟨v,n1,e1,hv,hp1⟩:=ny k hp (show (0:Int)<3 by omega)
  obtain ⟨w,n2,e2,hw,hp2⟩:=ny k hp1 (show (0:Int)<3 by omega)
  rw [Z9,Z8,Rk (by omega),e1,Option.bind_some]
  simp only
  have tail:∀ l2:List Stp,l2.length <= 20 -> LM k p n1 l2=some ((l2++PS (w==0) 4++[D8 5 zt],()),(p,n2,()),()):=fun l2 hl2=>by
   unfold LM
   rw [e2,Option.bind_some]
   simp only
   unfold RG S74 PS D8
   cases w==0 with
   | true =>
    simp only [cond_true,Option.bind_some]
    rw [Rh (by simp only [List.length_cons,List.length_nil];omega),Rh (by simp only [List.length_append,List.length_cons,List.length_nil];omega)]
   | false =>
    simp only [cond_false,Option.bind_some,List.append_nil]
    rw [Rh (by simp only [List.length_cons,List.length_nil];omega)]
  refine ⟨[],v==0,w==0,n2,?_,hp2,rfl,fun t h=>by cases h⟩
  cases v==0 with
  | true =>
   rw [cond_true]
   unfold S74
   rw [Option.bind_some,Rh (by simp only [List.length_cons,List.length_nil];omega),tail _ (by simp only [List.length_append,List.length_cons,List.length_nil];omega)]
   simp [PS,D8]
  | false =>
   rw [cond_false,tail _ (by omega)]
   simp [PS]
 | m+1,j,n,l,hj,hm,hp=>by
  obtain ⟨j',rfl⟩:∃ j',j=j'+1:=⟨j - 1,by omega⟩
  obtain ⟨v,n1,e1,hv,hp1⟩:=ny k hp (show (0:Int)<3 by omega)
  rw [Z9,Z8,Rj (by omega),e1,Option.bind_some]
  simp only
  obtain ⟨t,n2,e2,hp2,ht⟩:=ako hk (rank:=IntKind.i64.wrap (IntKind.i64.wrap (3 * ((m+1:Nat):Int))+v)) hl hp1
  rw [e2,Option.bind_some]
  simp only
  unfold S74
  rw [Option.bind_some,Rh (by simp only [List.length_cons,List.length_nil];omega),Ua (n:=((m+1:Nat):Int) - 1) (by omega) (by omega),show ((m+1:Nat):Int) - 1=(m:Int) by omega]
  obtain ⟨tl,bx,fl,n',q1,q2,q3,q4⟩:=VU hk hl m j' n2 (l++[D8 1 t]) (by omega) (by simp only [List.length_append,List.length_cons,List.length_nil];omega) hp2
  refine ⟨t::tl,bx,fl,n',?_,q2,by simp [q3],fun x hx=>?_⟩
  ·show V3 k j' p n2 (l++[D8 1 t]) lo (m:Int)=_
   rw [q1];simp
  ·rcases List.mem_cons.1 hx with rfl | h
   ·exact ⟨_,ht⟩
   ·exact q4 x h
theorem VW {k:Nat} (hk:1000 <= k) {p:List Int} {lo:Nat} (hl:lo <= 4):∀ (d i j:Nat) (n:Int) ,i+d=lo -> d<j -> zk p n ->
  ∃ (tl:List fq) (bx fl:Bool) (n':Int),Zb k j p n (List.replicate i (D8 2 zt)) (lo:Int) (i:Int)=some ((List.replicate lo (D8 2 zt)++tl.map (D8 1)++PS bx 3++PS fl 4++[D8 5 zt],()),(p,n',()),()) /\ zk p n' /\ tl.length <= 4 /\ ∀ t∈tl,∃ r,MT lo r t
 | 0,i,j,n,h,hj,hp=>by
  obtain ⟨j',rfl⟩:∃ j',j=j'+1:=⟨j - 1,by omega⟩
  obtain ⟨v,n1,e1,hv,hp1⟩:=ny k hp (show (0:Int)<4 by omega)
  rw [Zc,Za,Rk (by omega),e1,Option.bind_some]
  simp only
  rw [Ua (n:=v+1) (by omega) (by omega),show v+1=(((v+1).toNat:Nat):Int) by omega]
  obtain ⟨tl,bx,fl,n',q1,q2,q3,q4⟩:=VU hk (lo:=lo) (by omega) (v+1).toNat k n1 (List.replicate i (D8 2 zt)) (by omega) (by rw [List.length_replicate];omega) hp1
  have:i=lo:=by omega
  subst this
  exact ⟨tl,bx,fl,n',q1,q2,by omega,q4⟩
 | d+1,i,j,n,h,hj,hp=>by
  obtain ⟨j',rfl⟩:∃ j',j=j'+1:=⟨j - 1,by omega⟩
  rw [Zc,Za,Rj (by omega)]
  unfold S74
  rw [Option.bind_some,Rh (by simp only [List.length_replicate,List.length_cons,List.length_nil];omega),Me (by omega)]
  obtain ⟨tl,bx,fl,n',q1,q2⟩:=VW hk hl d (i+1) j' n (by omega) (by omega) hp
  rw [List.replicate_succ'] at q1
  exact ⟨tl,bx,fl,n',q1,q2⟩
theorem akK {k:Nat} (hk:1000 <= k) {p:List Int} {n:Int} (hp:zk p n) :
  ∃ (lo:Nat) (tl:List fq) (bx fl:Bool) (n':Int),S31 k p n=some ((List.replicate lo (D8 2 zt)++tl.map (D8 1)++PS bx 3++PS fl 4++[D8 5 zt],()),(p,n',()),()) /\ zk p n' /\ lo <= 3 /\ tl.length <= 4 /\ ∀ t∈tl,∃ r,MT lo r t:=by
 obtain ⟨v,n1,e1,hv,hp1⟩:=ny k hp (show (0:Int)<4 by omega)
 obtain ⟨m,rfl⟩:∃ m:Nat,v=(m:Int):=⟨v.toNat,by omega⟩
 obtain ⟨tl,bx,fl,n',q1,q2,q3,q4⟩:=VW hk (lo:=m) (by omega) m 0 k n1 (by omega) (by omega) hp1
 refine ⟨m,tl,bx,fl,n',?_,q2,by omega,q3,q4⟩
 unfold S31
 rw [e1,Option.bind_some]
 exact q1
def thN (kd i c s:Int):VI:=(kd,(i,1),(c,0),([],[]),(0,[]),s)
def JX (l:List VI):X9:=((List.replicate l.length 1++List.replicate (12 - l.length) 0,List.replicate l.length true++List.replicate (12 - l.length) false),l++List.replicate (12 - l.length) (0,(0,0),(0,0),([],[]),(0,[]),0))
def JA (s:Nat):List VI:=[thN 1 0 8 2300351877,thN 1 1 8 2299827589,thN 1 2 8 2299303301].take s
def abo (s:Nat):List VI:=JA s++[thN 2 s 0 ([2434569669,2434045381,2433521093,2432996805].getD s 0)]
def amO (l:List VI):List VI:=l++[thN 3 l.length 0 ([2568787397,2568263109,2567738821,2567214533,2570884549].getD l.length 0)]
theorem aeZ {k s:Nat} (hk:1000 <= k) (h:s<3):WI k (JX (JA s)) 1=some ((JX (JA (s+1)),((s:Int),1),true,()),()):=by
 obtain ⟨k,rfl⟩:∃ m,k=m+1000:=⟨k - 1000,by omega⟩
 have:s=0 \/ s=1 \/ s=2:=by omega
 rcases this with rfl | rfl | rfl <;> (show _=_;kernel_rfl)
theorem ae0 {k s:Nat} (hk:1000 <= k) (h:s <= 3):WI k (JX (JA s)) 2=some ((JX (abo s),((s:Int),1),true,()),()):=by
 obtain ⟨k,rfl⟩:∃ m,k=m+1000:=⟨k - 1000,by omega⟩
 have:s=0 \/ s=1 \/ s=2 \/ s=3:=by omega
 rcases this with rfl | rfl | rfl | rfl <;> (show _=_;kernel_rfl)
theorem abp {k s:Nat} (hk:1000 <= k) (h:s <= 3) (b:Bool):WI k (JX (bif b then abo s else JA s)) 3=some ((JX (amO (bif b then abo s else JA s)),(((bif b then abo s else JA s).length:Int),1),true,()),()):=by
 obtain ⟨k,rfl⟩:∃ m,k=m+1000:=⟨k - 1000,by omega⟩
 have:s=0 \/ s=1 \/ s=2 \/ s=3:=by omega
 rcases this with rfl | rfl | rfl | rfl <;> cases b <;> (show _=_;kernel_rfl)
def uw (ap:Int) (ts:List fq) (bs:List wm) (T:X9):gy:=(0,ap,ts,bs,false,false,false,[],T,[],[])
theorem SY {k:Nat} {ap kd:Int} {ts:List fq} {bs:List wm} {T T2:X9} {h:Int×Int} (hkd:kd=2 \/ kd=3 \/ kd=4) (e:WI k T (kd - 1)=some ((T2,h,true,()),())) :
  ∃ r:Int×(Int×Int)×Int,S32 k (uw ap ts bs T) (D8 kd zt)=some ((uw ap ts bs T2,[],r,()),()):=by
 have e':WI k ((T.1.1,T.1.2),T.2) (IntKind.i64.wrap ((IntKind.i64.wrap (kd - 2))+1))=some ((T2,h,true,()),()):=by
  rw [Ua (n:=kd - 2) (by omega) (by omega),Ua (by omega) (by omega),show kd - 2+1=kd - 1 by omega];exact e
 unfold S32 S75 D8 uw
 rcases hkd with rfl | rfl | rfl <;>
 ·refine ⟨(0,h,0),?_⟩
  simp only [Int.reduceBEq,cond_true,cond_false]
  unfold DV
  rw [e']
  rfl
theorem ae1 {k:Nat} (hk:20000 <= k) {ap:Int} {ts:List fq} {bs:List wm} {T:X9} {t:fq} (h:agQ ts t) (hr:SL ts) :
  ∃ r:Int×(Int×Int)×Int,S32 k (uw ap ts bs T) (D8 1 t)=some ((bif (inT ts t ap).2.2==0 then uw ap (inT ts t ap).1 (inT ts t ap).2.1 T else uw ap ts bs T,[],r,()),()):=by
 unfold S32 S75 D8 uw
 refine ⟨((inT ts t ap).2.2,(0,0),0),?_⟩
 simp only [Int.reduceBEq,cond_true,cond_false]
 rw [akt hk h hr,Option.bind_some]
 simp only
 cases (inT ts t ap).2.2==0 <;> rfl
inductive Goes (k:Nat):List Stp -> gy -> gy -> Prop
 | nil (r:gy):Goes k [] r r
 | start (t:fq) (l:List Stp) (r r2:gy):Goes k l r r2 -> Goes k (D8 5 t::l) r r2
 | one (kd:Int) (t:fq) (l:List Stp) (r r1 r2:gy) (ev:List ig) (q:Int×(Int×Int)×Int):kd≠5 -> S32 k r (D8 kd t)=some ((r1,ev,q,()),()) -> Goes k l r1 r2 -> Goes k (D8 kd t::l) r r2
theorem Goes.app {k:Nat} {a b:List Stp} {r r1 r2:gy} (h:Goes k a r r1) (h2:Goes k b r1 r2):Goes k (a++b) r r2:=by
 induction h with
 | nil r=>exact h2
 | start t l r r2 _ ih=>exact .start t _ _ _ (ih h2)
 | one kd t l r r1 r2 ev q a b _ ih=>exact .one kd t _ _ _ _ ev q a b (ih h2)
theorem PU {k:Nat} (hk:1000 <= k) {ap:Int} {ts:List fq} {bs:List wm}:∀ (d s:Nat),s+d <= 3 -> Goes k (List.replicate d (D8 2 zt)) (uw ap ts bs (JX (JA s))) (uw ap ts bs (JX (JA (s+d))))
 | 0,s,h=>.nil _
 | d+1,s,h=>by
  obtain ⟨r,e⟩:=SY (ap:=ap) (kd:=2) (ts:=ts) (bs:=bs) (.inl rfl) (aeZ hk (show s<3 by omega))
  rw [List.replicate_succ]
  refine .one 2 zt _ _ _ _ _ _ (by decide) e ?_
  rw [show s+(d+1)=s+1+d by omega]
  exact PU hk d (s+1) (by omega)
theorem EC {k:Nat} (hk:20000 <= k) {ap lo:Int} {T:X9}:∀ (tl ts:List fq) (bs:List wm),(∀ t∈tl,∃ r,MT lo r t) -> jg ts -> ts.length+tl.length <= 8 -> yj ts=true -> bs.length=ts.length ->
  ∃ ts2 bs2,Goes k (tl.map (D8 1)) (uw ap ts bs T) (uw ap ts2 bs2 T) /\ jg ts2 /\ ts2.length <= ts.length+tl.length /\ yj ts2=true /\ bs2.length=ts2.length
 | [],ts,bs,_,h1,h2,h3,h4=>⟨ts,bs,.nil _,h1,by simp,h3,h4⟩
 | t::tl,ts,bs,h,h1,h2,h3,h4=>by
  obtain ⟨r0,hm⟩:=h t (by simp)
  simp only [List.length_cons] at h2
  have hc:=hm.code
  have ho:agQ ts t:=⟨h1,by omega,hm.light,by omega⟩
  obtain ⟨r,e⟩:=ae1 hk (ap:=ap) (bs:=bs) (T:=T) ho (OV h3)
  by_cases hz:(inT ts t ap).2.2=0
  ·obtain ⟨g1,g2,g3,g4⟩:=akI hz
   have hlen:=H6 ts t
   have hmay:BA t=0:=by
    by_cases q:BA t=0
    ·exact q
    ·unfold inT at hz;rw [if_pos q] at hz;exact absurd hz q
   have hrow:=ahg h3 hmay g4
   have hL:=MK h1 (by omega) ho.one
   have hga:=PG g3
   have hall:=aaE hga.1 hga.2
   rw [hz,beq_self_eq_true,cond_true,g1,g2] at e
   obtain ⟨ts2,bs2,q1,q2,q3,q4,q5⟩:=EC (T:=T) hk tl (zl ts t) (allT (zl ts t) ap).1 (fun x hx=>h x (by simp [hx])) hL (by omega) hrow (by rw [hall];simp)
   exact ⟨ts2,bs2,.one 1 t _ _ _ _ _ _ (by decide) e q1,q2,by simp only [List.length_cons];omega,q4,q5⟩
  ·rw [show ((inT ts t ap).2.2==0)=false from beq_eq_false_iff_ne.2 hz,cond_false] at e
   obtain ⟨ts2,bs2,q1,q2,q3,q4,q5⟩:=EC (T:=T) hk tl ts bs (fun x hx=>h x (by simp [hx])) h1 (by omega) h3 h4
   exact ⟨ts2,bs2,.one 1 t _ _ _ _ _ _ (by decide) e q1,q2,by simp only [List.length_cons];omega,q4,q5⟩
theorem ae2 {k:Nat} (hk:20000 <= k) {ap:Int} {lo:Nat} (hlo:lo <= 3) {tl:List fq} (has:tl.length <= 4) (hm:∀ t∈tl,∃ r,MT lo r t) (bx fl:Bool) :
  ∃ ts bs T,Goes k (List.replicate lo (D8 2 zt)++tl.map (D8 1)++PS bx 3++PS fl 4++[D8 5 zt]) (uw ap [] [] jk) (uw ap ts bs T) /\ jg ts /\ ts.length <= 4 /\ yj ts=true /\ bs.length=ts.length:=by
 have h0:=PU (k:=k) (by omega) (ap:=ap) (ts:=[]) (bs:=[]) lo 0 (by omega)
 rw [Nat.zero_add] at h0
 obtain ⟨ts,bs,q1,q2,q3,q4,q5⟩:=EC (ap:=ap) (T:=JX (JA lo)) hk tl [] [] hm ⟨by simp,fun t h=>by cases h⟩ (by simp;omega) (row_iff.2 (fun n hn=>by simp at hn)) rfl
 have h3:Goes k (PS bx 3) (uw ap ts bs (JX (JA lo))) (uw ap ts bs (JX (bif bx then abo lo else JA lo))):=by
  unfold PS
  cases bx with
  | false=>exact .nil _
  | true =>
   obtain ⟨r,e⟩:=SY (ap:=ap) (kd:=3) (ts:=ts) (bs:=bs) (.inr (.inl rfl)) (ae0 (k:=k) (by omega) hlo)
   exact .one 3 zt _ _ _ _ _ _ (by decide) e (.nil _)
 have h4:∃ T,Goes k (PS fl 4) (uw ap ts bs (JX (bif bx then abo lo else JA lo))) (uw ap ts bs T):=by
  unfold PS
  cases fl with
  | false=>exact ⟨_,.nil _⟩
  | true =>
   obtain ⟨r,e⟩:=SY (ap:=ap) (kd:=4) (ts:=ts) (bs:=bs) (.inr (.inr rfl)) (abp (k:=k) (by omega) hlo bx)
   exact ⟨_,.one 4 zt _ _ _ _ _ _ (by decide) e (.nil _)⟩
 obtain ⟨T,h4⟩:=h4
 exact ⟨ts,bs,T,(((Goes.app h0 q1).app h3).app h4).app (.start zt _ _ _ (.nil _)),q2,by simp only [List.length_nil] at q3;omega,q4,q5⟩
theorem amP (k:Nat) {ap:Int} (h1:1 <= ap) (h2:ap <= 4611686018427387904):S26 (k+1000) ap=some ((uw ap [] [] jk,true,()),()):=by
 unfold S26 uw
 rw [Rk (by omega),Rk (by omega)]
 kernel_rfl
theorem ae3 {k:Nat} {K:gy} {x1 x2 x6 x7:Int} {x3 x4 x5 x8 x9 x10:Bool} {all:List Stp} (hall:all.length <= 1000):∀ (l:List Stp) (i j:Nat) (r r2:gy),Goes k l r r2 -> all.drop i=l -> i+l.length=all.length -> l.length<j ->
  ZM k j x1 x2 x3 x4 x5 x6 x7 x8 x9 x10 K.1 K.2.1 K.2.2.1 K.2.2.2.1 K.2.2.2.2.1 K.2.2.2.2.2.1 K.2.2.2.2.2.2.1 K.2.2.2.2.2.2.2.1 K.2.2.2.2.2.2.2.2.1.1.1 K.2.2.2.2.2.2.2.2.1.1.2 K.2.2.2.2.2.2.2.2.1.2 K.2.2.2.2.2.2.2.2.2.1 K.2.2.2.2.2.2.2.2.2.2
   r.1 r.2.1 r.2.2.1 r.2.2.2.1 r.2.2.2.2.1 r.2.2.2.2.2.1 r.2.2.2.2.2.2.1 r.2.2.2.2.2.2.2.1 r.2.2.2.2.2.2.2.2.1.1.1 r.2.2.2.2.2.2.2.2.1.1.2 r.2.2.2.2.2.2.2.2.1.2 r.2.2.2.2.2.2.2.2.2.1 r.2.2.2.2.2.2.2.2.2.2 (i:Int) all =
   some (((K.1,K.2.1,r2.2.2.1,r2.2.2.2.1,K.2.2.2.2),r2,true,()),()):=by
 intro l i j r r2 h
 induction h generalizing i j with
 | nil r =>
  intro h1 h2 h3
  obtain ⟨j',rfl⟩:∃ j',j=j'+1:=⟨j - 1,by omega⟩
  rw [RJ,Vg,Rk (by simp only [List.length_nil] at h2;omega)]
 | start t l r r2 _ ih =>
  intro h1 h2 h3
  obtain ⟨j',rfl⟩:∃ j',j=j'+1:=⟨j - 1,by omega⟩
  simp only [List.length_cons] at h2 h3
  have hi:i<all.length:=by omega
  have hd:=drop_cons (D8 0 zt) hi
  rw [h1] at hd
  injection hd with d1 d2
  rw [RJ,Vg,Rj (by omega),Pw hi,Px,Me (by omega)]
  rw [show all.getD i (0,(0,(0,0,0,[],[],[]),(0,0),0,0,0),0,0)=D8 5 t by rw [d1,getD_in hi,getD_in hi]]
  exact ih (i+1) j' d2.symm (by omega) (by omega)
 | one kd t l r r1 r2 ev q a b _ ih =>
  intro h1 h2 h3
  obtain ⟨j',rfl⟩:∃ j',j=j'+1:=⟨j - 1,by omega⟩
  simp only [List.length_cons] at h2 h3
  have hi:i<all.length:=by omega
  have hd:=drop_cons (D8 0 zt) hi
  rw [h1] at hd
  injection hd with d1 d2
  rw [RJ,Vg,Rj (by omega),Pw hi,Pw hi,Px,Me (by omega)]
  rw [show all.getD i (0,(0,(0,0,0,[],[],[]),(0,0),0,0,0),0,0)=D8 kd t by rw [d1,getD_in hi,getD_in hi]]
  rw [show ((D8 kd t).2.1.1==5)=false from beq_eq_false_iff_ne.2 a,cond_false]
  refine (congrArg (fun x=>Option.bind x _) b).trans ?_
  exact ih (i+1) j' d2.symm (by omega) (by omega)
theorem akL {k:Nat} (hk:20000 <= k) {p:List Int} (hp:zk p 0) {ap:Int} (h1:1 <= ap) (h2:ap <= 4611686018427387904) :
  ∃ ts bs T,S10 k p ap=some ((uw ap ts bs jk,uw ap ts bs T,true,()),()) /\ jg ts /\ ts.length <= 4 /\ yj ts=true /\ bs.length=ts.length:=by
 obtain ⟨lo,tl,bx,fl,n',e,hp2,hlo,has,hm⟩:=akK (k:=k) (by omega) hp
 obtain ⟨ts,bs,T,q1,q2,q3,q4,q5⟩:=ae2 (ap:=ap) hk hlo has hm bx fl
 have hlen:(List.replicate lo (D8 2 zt)++tl.map (D8 1)++PS bx 3++PS fl 4++[D8 5 zt]).length <= 100:=by
  have o:∀ (b:Bool) (n:Int),(PS b n).length <= 1:=fun b n=>by cases b <;> simp [PS]
  have:=o bx 3
  have:=o fl 4
  simp only [List.length_append,List.length_replicate,List.length_map,List.length_cons,List.length_nil];omega
 have hL:=ae3 (k:=k) (K:=uw ap [] [] jk) (x1:=0) (x2:=0) (x3:=false) (x4:=false) (x5:=false) (x6:=0) (x7:=0) (x8:=false) (x9:=false) (x10:=false) (by omega) _ 0 k _ _ q1 (List.drop_zero ..) (by omega) (by omega)
 have n1:S25 k ap=some ((uw ap [] [] jk,true,()),()):=by
  obtain ⟨k,rfl⟩:∃ m,k=m+1000:=⟨k - 1000,by omega⟩
  exact amJ k h1 h2
 have n2:S26 k ap=some ((uw ap [] [] jk,true,()),()):=by
  obtain ⟨k,rfl⟩:∃ m,k=m+1000:=⟨k - 1000,by omega⟩
  exact amP k h1 h2
 refine ⟨ts,bs,T,?_,q2,q3,q4,q5⟩
 unfold S10 S17
 rw [n1,n2]
 simp only [Option.bind_some,Bool.not_true,cond_false]
 rw [e]
 exact hL
theorem abq {x:I4} (h:ji x=true) (h9:x.1=9):0 <= x.2.1:=by
 obtain ⟨a,b,c,d⟩:=x
 have h9':a=9:=h9
 subst h9'
 unfold ji at h
 simp [xg] at h
 exact h.1.1
theorem TA {l:List I4} (h:qo l=true) (h9:∀ x∈l,x.1≠9):FM l:=by
 obtain ⟨t,h1,rfl,h2⟩:=GY h
 exact ⟨t,rfl,h1,h2,fun x hx=>h9 x (by unfold Tr.prog;rw [List.mem_append];exact .inl hx)⟩
theorem amQ {t:fq} (hm:BA t=0) (hz:BD t=false):GT t:=by
 obtain ⟨_,_,_,z4,z5,z6,z7,_⟩:=OJ.1 hm
 unfold BD at hz
 rw [List.any_append,Bool.or_eq_false_iff] at hz
 have no:∀ l:List I4,qo l=true -> l.any VL=false -> ∀ x∈l,x.1≠9:=fun l hl hz x hx h9=>by
  obtain ⟨ps,g⟩:=y7.1 hl
  have h1:=abq (g.may x hx) h9
  rw [List.any_eq_false] at hz
  refine hz x hx ?_
  unfold VL
  rw [h9]
  simpa using h1
 refine ⟨TA z4 (no _ z4 hz.1),?_,?_⟩
 ·rcases z5 with q | q
  ·exact .inl q
  ·exact .inr (TA q (no _ q hz.2))
 ·rcases z6 with q | q
  ·exact .inl q
  ·refine .inr (TA q fun x hx h9=>?_)
   unfold X0 at z7
   rw [List.any_eq_false] at z7
   exact z7 x hx (by rw [h9];rfl)
theorem akM {ts:List fq} (hr:yj ts=true) (hz:ts.any BD=false):∀ t∈ts,GT t:=fun t ht=>by
 rw [List.any_eq_false] at hz
 exact amQ (aax hr t ht) (by simpa using hz t ht)
def runK (ap:Int) (ts:List fq) (bs:List wm) (js:List gu):gy:=(0,ap,ts,bs,true,false,false,js,jk,List.replicate ts.length 0,List.replicate ts.length false)
theorem ahi {ap:Int} {ts:List fq} {bs:List wm} (hL:jg ts) (h8:ts.length <= 8) (hb:bs.length=ts.length) (hg:∀ t∈ts,GT t):KG (runK ap ts bs []) :=
 ⟨rfl,hL,h8,hb,by simp [runK],by simp [runK],hg,(fun j h=>by cases h),List.Pairwise.nil⟩
theorem ae4 {ap:Int} {ts:List fq} {bs:List wm} (hL:jg ts) (h8:ts.length <= 8) (hb:bs.length=ts.length):KOK (uw ap ts bs jk) :=
 ⟨rfl,hL,by show bs.length <= 900;omega,by simp [uw],(fun j h=>by cases h),by simp [uw],by simp [uw]⟩
def ED (c:Nat):List gu:=(List.range c).map fun i=>JW ((i:Nat):Int) 0 5
theorem EF (c:Nat):(ED c).length=c:=by simp [ED]
theorem ae5 {c i:Nat} (h:i<c):(ED c).getD i j0=JW (i:Int) 0 5:=by
 unfold ED;rw [getD_in (by simpa using h)];simp
theorem ae6 {ap:Int} {ts:List fq} {bs:List wm} {c:Nat} (h:c<ts.length):∃ ev,VR (runK ap ts bs (ED c)) (c:Int) 5=(runK ap ts bs (ED (c+1)),ev,0):=by
 have hpos:mq (c:Int) (ED c)=c:=EB _ _ _ (by rw [EF];omega) (fun a ha=>by rw [ae5 ha];show (a:Int)<(c:Int);omega) (fun hn=>by rw [EF] at hn;omega)
 refine ⟨[(0,1,(c:Int),0,5,0)],?_⟩
 unfold VR runK
 simp only [Bool.not_true,cond_false]
 rw [decide_eq_false (show ¬ (c:Int)<0 by omega),decide_eq_false (show ¬ (c:Int)≥(ts.length:Int) by omega),Bool.or_false,cond_false,hpos,EF,decide_eq_false (show ¬ c<c by omega),Bool.false_and,cond_false]
 rw [show (List.replicate ts.length false).getD (c:Int).toNat false=false by rw [getD_in (by rw [List.length_replicate];omega),List.getElem_replicate],cond_false]
 rw [List.take_of_length_le (by rw [EF];omega),List.drop_eq_nil_of_le (by rw [EF];omega),List.append_nil]
 unfold aaC
 simp only
 rw [show ED c++[JW (c:Int) 0 5]=ED (c+1) by unfold ED;rw [List.range_succ,List.map_append];rfl]
def MS (bs:List wm) (t:Int) (j:gu):Prop:=j.2.1=0 /\ (j.2.2.2.1=2 -> j.2.2.2.2.2.2.2=false) /\ (j.2.2.2.1≠2 -> j.2.2.2.2.2.2.2=decide (t≥(bs.getD j.1.toNat (Pv (α:=Int) 5 0)).2.2.2.2))
structure UpI (bs:List wm) (K:gy) (t:Int):Prop where
 kg:KG K
 bnd:K.2.2.2.1=bs
 now:K.1=t
 ru:K.2.2.2.2.1=true
 ha:K.2.2.2.2.2.1=false
 hi:K.2.2.2.2.2.2.1=false
 job:∀ j∈K.2.2.2.2.2.2.2.1,j.2.1=0 /\ (j.2.2.2.1=2 -> j.2.2.2.2.2.2.2=false) /\ (j.2.2.2.2.2.2.2=true -> (bs.getD j.1.toNat (Pv (α:=Int) 5 0)).2.2.2.2 <= t)
 rw_:∀ j∈K.2.2.2.2.2.2.2.1,j.2.2.2.1≠2 -> K.2.2.2.2.2.2.2.2.2.1.getD j.1.toNat 0=0
theorem KP {now:Int} {ts:List fq}:∀ (js:List gu) (s:abf),rising (s.1++js) -> (∀ j∈s.1++js,0 <= j.1) -> s.2.2.2.2=false -> (∀ j∈s.1++js,j.2.2.2.1≠2 -> s.2.2.1.getD j.1.toNat 0=0) ->
  (js.foldl (uq now ts) s).2.2.2.2=false /\ ∀ j∈(js.foldl (uq now ts) s).1,j.2.2.2.1≠2 -> (js.foldl (uq now ts) s).2.2.1.getD j.1.toNat 0=0
 | [],s,hr,h0,hh,h=>⟨hh,fun j hj=>h j (by simpa using hj)⟩
 | x::js,s,hr,h0,hh,h=>by
  rw [List.foldl_cons]
  have hsub:(s.1++js).Sublist (s.1++x::js):=List.Sublist.append (List.Sublist.refl _) (List.sublist_cons_self _ _)
  cases hc:IntKind.i64.wrap (now - x.2.1) != (ts.getD x.1.toNat t0).2.2.1 with
  | true =>
   have e:uq now ts s x=(s.1++[x],s.2):=by unfold uq;rw [hc,cond_true]
   rw [e]
   exact KP js (s.1++[x],s.2) (by simpa using hr) (fun j hj=>h0 j (by simpa using hj)) hh (fun j hj=>h j (by simpa using hj))
  | false =>
   cases hp:x.2.2.2.1==2 with
   | true =>
    have e:uq now ts s x=(s.1,s.2.1++[(now,13,x.1,0,0,0)],s.2.2.1,s.2.2.2.1,s.2.2.2.2):=by unfold uq;rw [hc,cond_false,hp,cond_true]
    rw [e]
    exact KP js _ (List.Pairwise.sublist hsub hr) (fun j hj=>h0 j (hsub.subset hj)) hh (fun j hj=>h j (hsub.subset hj))
   | false =>
    have hx0:s.2.2.1.getD x.1.toNat 0=0:=h x (by simp) (by simpa using hp)
    have hm:oq s.2.2.1 s.2.2.2.1 x.1.toNat=((s.2.2.1.set x.1.toNat 1,s.2.2.2.1),false,false):=by
     unfold oq
     rw [hx0]
     rfl
    have e:uq now ts s x=(s.1,s.2.1++JQ now x.1 (false,false),s.2.2.1.set x.1.toNat 1,s.2.2.2.1,s.2.2.2.2||false):=by unfold uq;rw [hc,cond_false,hp,cond_false,hm]
    rw [e]
    refine KP js _ (List.Pairwise.sublist hsub hr) (fun j hj=>h0 j (hsub.subset hj)) (by simp only [hh,Bool.or_self]) (fun j hj hj2=>?_)
    have hj':j∈s.1++js:=hj
    have hne:j.1≠x.1:=by
     have hr2:=List.pairwise_append.1 hr
     rcases List.mem_append.1 hj' with q | q
     ·have:=hr2.2.2 j q x (by simp);omega
     ·have:=(List.pairwise_cons.1 hr2.2.1).1 j q;omega
    have hjn:=h0 j (hsub.subset hj')
    have hxn:=h0 x (by simp)
    show (s.2.2.1.set x.1.toNat 1).getD j.1.toNat 0=0
    rw [oh,if_neg (by omega)]
    exact h j (hsub.subset hj') hj2
theorem ahj {bs:List wm} {t:Int} (ht:0 <= t /\ t <= 1000) {j:gu} (h1:j.2.1=0) (h2:j.2.2.2.1=2 -> j.2.2.2.2.2.2.2=false) (h3:j.2.2.2.2.2.2.2=true -> (bs.getD j.1.toNat (Pv (α:=Int) 5 0)).2.2.2.2 <= t):MS bs t (l9 t bs j):=by
 obtain ⟨e1,e2,e3,e4,e5,e6,e7⟩:=yu t bs j
 unfold MS
 rw [e1,e2,e4]
 refine ⟨h1,fun e=>?_,fun e=>?_⟩
 ·unfold l9
  rw [show (j.2.2.2.1 != 2)=false by rw [e];rfl,cond_false]
  exact h2 e
 ·unfold l9
  rw [bne_iff_ne.2 e,cond_true,h1,Ua (n:=t - 0) (by omega) (by omega),show t - 0=t by omega]
  by_cases c:t≥(bs.getD j.1.toNat (Pv (α:=Int) 5 0)).2.2.2.2
  ·rw [Rj c,decide_eq_true c]
  ·rw [Rk c,decide_eq_false c]
   cases hu:j.2.2.2.2.2.2.2 with
   | false=>rfl
   | true=>exact absurd (h3 hu) (by omega)
theorem ahk {ts:List fq} {bs:List wm} {t now:Int} {js:List gu} (hne:js.isEmpty=false) {rows:List Int} (h:∀ j∈js,MS bs t j) (hr:∀ j∈js,j.2.2.2.1≠2 -> rows.getD j.1.toNat 0=0) :
  ∀ j∈(D6 now ts js rows false).1,MS bs t j /\ (j.2.2.2.1≠2 -> (D6 now ts js rows false).2.2.getD j.1.toNat 0=0):=by
 have h0:0<js.length:=by cases js with | nil=>simp at hne | cons a l=>simp
 have hmin:BQ js (ts.length:Int)<js.length:=by
  have:=HY (l:=js.map (BF (ts.length:Int))) js.length 0 0 (by simp) (by simpa using h0)
  simpa [BQ] using this
 have hin:=iq (z:=j0) hmin
 unfold D6
 simp only [cond_false]
 generalize BQ js (ts.length:Int)=i at hmin hin ⊢
 generalize hx:js.getD i j0=x at hin ⊢
 have hz:∀ n m:Nat,rows.getD m 0=0 -> (rows.set n 0).getD m 0=0:=fun n m e=>by
  rw [oh];split
  ·rfl
  ·exact e
 have hgo:MS bs t (N8 (ts.getD x.1.toNat t0) x):=h x hin
 intro j hj
 unfold AJ at hj ⊢
 cases ho:(N8 (ts.getD x.1.toNat t0) x).2.2.2.2.1.2.2.2 with
 | false =>
  rw [ho] at hj
  simp only [cond_false] at hj ⊢
  rcases List.mem_or_eq_of_mem_set hj with q | q
  ·exact ⟨h j q,hr j q⟩
  ·rw [q];exact ⟨hgo,hr x hin⟩
 | true =>
  rw [ho] at hj
  simp only [cond_true] at hj ⊢
  unfold H9 at hj ⊢
  cases hp:(N8 (ts.getD x.1.toNat t0) x).2.2.2.1==2 with
  | true =>
   rw [hp] at hj
   simp only [cond_true] at hj ⊢
   have hsub:(js.take i++js.drop (i+1)).Sublist js:=by rw [<- List.eraseIdx_eq_take_drop_succ];exact List.eraseIdx_sublist _ _
   exact ⟨h j (hsub.subset hj),hr j (hsub.subset hj)⟩
  | false =>
   rw [hp] at hj
   simp only [cond_false] at hj ⊢
   have old:j∈js -> MS bs t j /\ (j.2.2.2.1≠2 -> (rows.set (N8 (ts.getD x.1.toNat t0) x).1.toNat 0).getD j.1.toNat 0=0):=fun q=>⟨h j q,fun e=>hz _ _ (hr j q e)⟩
   cases hb:((ts.getD x.1.toNat t0).2.2.2.2.2.length:Int)==0 with
   | true =>
    rw [hb] at hj
    simp only [cond_true] at hj
    have hsub:(js.take i++js.drop (i+1)).Sublist js:=by rw [<- List.eraseIdx_eq_take_drop_succ];exact List.eraseIdx_sublist _ _
    exact old (hsub.subset hj)
   | false =>
    rw [hb] at hj
    simp only [cond_false] at hj
    rcases List.mem_or_eq_of_mem_set hj with q | q
    ·exact old q
    ·rw [q]
     exact ⟨⟨hgo.1,fun _=>rfl,fun e=>absurd rfl e⟩,fun e=>absurd rfl e⟩
theorem ahl {bs:List wm} {K:gy} {t:Int} (ht:0 <= t /\ t <= 1000) (h:UpI bs K t):UpI bs (EA K).1 (t+1) /\ ∀ j∈(EA K).1.2.2.2.2.2.2.2.1,MS bs t j:=by
 have hkg:=ahf h.kg
 obtain ⟨now,ap,ts,bs',ru,ha,hi,js,T,rows,off⟩:=K
 have e1:now=t:=h.now
 have e2:ru=true:=h.ru
 have e3:ha=false:=h.ha
 have e4:hi=false:=h.hi
 have e5:bs'=bs:=h.bnd
 subst e1;subst e2;subst e3;subst e4;subst e5
 have hj:∀ j∈js,JG ts j:=h.kg.job
 have hris:rising js:=h.kg.ris
 have hup:=h.job
 have hrw:=h.rw_
 simp only at hup hrw
 obtain ⟨f1,f2⟩:=KP (now:=now) (ts:=ts) js ([],[],rows,off,false) (by simpa using hris) (fun j hm=>(hj j (by simpa using hm)).task.1) rfl (fun j hm=>hrw j (by simpa using hm))
 obtain ⟨l,g1,g2,_⟩:=EW now ts js ([],[],rows,off,false)
 rw [show js.foldl (uq now ts) ([],[],rows,off,false)=D5 now ts js rows off false from rfl] at f1 f2 g2
 simp only [List.nil_append] at g2
 unfold EA at hkg ⊢
 simp only [Bool.not_false,Bool.and_self,cond_true] at hkg ⊢
 generalize D5 now ts js rows off false=E at hkg f1 f2 g2 ⊢
 have hE:∀ j∈E.1,j∈js:=fun j hm=>g1.subset (by rw [<- g2];exact hm)
 have p1:∀ j∈E.1.map (l9 now bs'),MS bs' now j:=fun j hm=>by
  obtain ⟨x,hx,rfl⟩:=List.mem_map.1 hm
  obtain ⟨a,b,c⟩:=hup x (hE x hx)
  exact ahj ht a b c
 have p2:∀ j∈E.1.map (l9 now bs'),j.2.2.2.1≠2 -> E.2.2.1.getD j.1.toNat 0=0:=fun j hm hne=>by
  obtain ⟨x,hx,rfl⟩:=List.mem_map.1 hm
  obtain ⟨e1,e2,e3,e4,_⟩:=yu now bs' x
  rw [e1];rw [e4] at hne
  exact f2 x hx hne
 have fin:∀ (js2:List gu) (aaG:List Int),(∀ j∈js2,MS bs' now j /\ (j.2.2.2.1≠2 -> aaG.getD j.1.toNat 0=0)) -> KG (IntKind.i64.wrap (now+1),ap,ts,bs',true,E.2.2.2.2,false,js2,T,aaG,E.2.2.2.1) -> UpI bs' (IntKind.i64.wrap (now+1),ap,ts,bs',true,E.2.2.2.2,false,js2,T,aaG,E.2.2.2.1) (now+1) /\ ∀ j∈js2,MS bs' now j:=fun js2 aaG q hk=>by
  refine ⟨⟨hk,rfl,Ua (by omega) (by omega),rfl,f1,rfl,fun j hm=>?_,fun j hm=>(q j hm).2⟩,fun j hm=>(q j hm).1⟩
  obtain ⟨a,b,c⟩:=(q j hm).1
  refine ⟨a,b,fun hu=>?_⟩
  by_cases hp:j.2.2.2.1=2
  ·rw [b hp] at hu;exact absurd hu (by decide)
  ·have:=c hp
   rw [hu] at this
   have:=of_decide_eq_true this.symm
   exact Int.le_trans this (by omega)
 cases he:E.2.2.2.2||(E.1.map (l9 now bs')).isEmpty with
 | true =>
  rw [he] at hkg
  simp only [cond_true] at hkg ⊢
  exact fin _ _ (fun j hm=>⟨p1 j hm,p2 j hm⟩) hkg
 | false =>
  rw [he] at hkg
  simp only [cond_false] at hkg ⊢
  rw [Bool.or_eq_false_iff] at he
  exact fin _ _ (ahk he.2 p1 p2) hkg
theorem VX {k:Nat} {g:Int -> Int -> Int -> List fq -> List wm -> Bool -> Bool -> Bool -> List gu -> List Int -> List Bool -> List VI -> List Int -> List Bool -> Int -> Int -> List fq -> List wm -> Bool -> Bool -> Bool -> List gu -> List Int -> List Bool -> List VI -> List Int -> List Bool -> Int -> Option ((Bool×Unit)×Unit)} {n t:Int} {O R X:gy} {bs:List wm} (hb:R.2.2.2.1=bs) (hl:X.2.2.2.2.2.2.2.1.length <= 1000) (hj:∀ j∈X.2.2.2.2.2.2.2.1,(0 <= j.1 /\ j.1<(bs.length:Int)) /\ MS bs t j):∀ (d i j:Nat),i+d=X.2.2.2.2.2.2.2.1.length -> d<j ->
  ZO k g j n O.1 O.2.1 O.2.2.1 O.2.2.2.1 O.2.2.2.2.1 O.2.2.2.2.2.1 O.2.2.2.2.2.2.1 O.2.2.2.2.2.2.2.1 O.2.2.2.2.2.2.2.2.1.1.1 O.2.2.2.2.2.2.2.2.1.1.2 O.2.2.2.2.2.2.2.2.1.2 O.2.2.2.2.2.2.2.2.2.1 O.2.2.2.2.2.2.2.2.2.2 R.1 R.2.1 R.2.2.1 R.2.2.2.1 R.2.2.2.2.1 R.2.2.2.2.2.1 R.2.2.2.2.2.2.1 R.2.2.2.2.2.2.2.1 R.2.2.2.2.2.2.2.2.1.1.1 R.2.2.2.2.2.2.2.2.1.1.2 R.2.2.2.2.2.2.2.2.1.2 R.2.2.2.2.2.2.2.2.2.1 R.2.2.2.2.2.2.2.2.2.2 t
   X.1 X.2.1 X.2.2.1 X.2.2.2.1 X.2.2.2.2.1 X.2.2.2.2.2.1 X.2.2.2.2.2.2.1 X.2.2.2.2.2.2.2.1 X.2.2.2.2.2.2.2.2.1.1.1 X.2.2.2.2.2.2.2.2.1.1.2 X.2.2.2.2.2.2.2.2.1.2 X.2.2.2.2.2.2.2.2.2.1 X.2.2.2.2.2.2.2.2.2.2 (i:Int) =
  g n X.1 X.2.1 X.2.2.1 X.2.2.2.1 X.2.2.2.2.1 X.2.2.2.2.2.1 X.2.2.2.2.2.2.1 X.2.2.2.2.2.2.2.1 X.2.2.2.2.2.2.2.2.1.1.1 X.2.2.2.2.2.2.2.2.1.1.2 X.2.2.2.2.2.2.2.2.1.2 X.2.2.2.2.2.2.2.2.2.1 X.2.2.2.2.2.2.2.2.2.2 R.1 R.2.1 R.2.2.1 R.2.2.2.1 R.2.2.2.2.1 R.2.2.2.2.2.1 R.2.2.2.2.2.2.1 R.2.2.2.2.2.2.2.1 R.2.2.2.2.2.2.2.2.1.1.1 R.2.2.2.2.2.2.2.2.1.1.2 R.2.2.2.2.2.2.2.2.1.2 R.2.2.2.2.2.2.2.2.2.1 R.2.2.2.2.2.2.2.2.2.2 (IntKind.i64.wrap (t+1))
 | 0,i,j,h,hjj=>by
  obtain ⟨j',rfl⟩:∃ j',j=j'+1:=⟨j - 1,by omega⟩
  rw [ZP,ZN,Rk (by omega)]
 | d+1,i,j,h,hjj=>by
  obtain ⟨j',rfl⟩:∃ j',j=j'+1:=⟨j - 1,by omega⟩
  have hi:i<X.2.2.2.2.2.2.2.1.length:=by omega
  obtain ⟨h1,h2,h3,h4⟩:=hj _ (iq (z:=j0) hi)
  have ih:=VX (k:=k) (g:=g) (n:=n) (O:=O) hb hl hj d (i+1) j' (by omega) (by omega)
  rw [ZP,ZN,Rj (by omega),Pw hi,Me (by omega),ih,hb]
  rw [show rd X.2.2.2.2.2.2.2.1 (i:Int) (0,0,0,0,(0,Pv (α:=Int) 8 0,[],false),(0,Pv (α:=Int) 8 0,[],false),[],false)=X.2.2.2.2.2.2.2.1.getD i j0 from rfl]
  generalize X.2.2.2.2.2.2.2.1.getD i j0=x at h1 h2 h3 h4 ⊢
  rw [Rk (show ¬ x.1<0 by omega),Rk (show ¬ x.1≥(bs.length:Int) by omega)]
  by_cases hp:x.2.2.2.1=2
  ·rw [hp,h3 hp];rfl
  ·rw [bne_iff_ne.2 hp,cond_true,Lf h1.1 h1.2,h4 hp,show rd bs x.1 (Pv (α:=Int) 5 0)=bs.getD x.1.toNat (Pv (α:=Int) 5 0) from rfl,beq_self_eq_true,Bool.not_true,cond_false,beq_eq_false_iff_ne.2 hp,cond_false]
theorem VY {k:Nat} (hk:20000 <= k) {n:Int} (hn:0 <= n /\ n <= 255) {R:gy} {bs:List wm} (hb:R.2.2.2.1=bs):∀ (d j:Nat) (t:Int) (K:gy),t+d=n -> 0 <= t -> d<j -> UpI bs K t ->
  Vh k j n K.1 K.2.1 K.2.2.1 K.2.2.2.1 K.2.2.2.2.1 K.2.2.2.2.2.1 K.2.2.2.2.2.2.1 K.2.2.2.2.2.2.2.1 K.2.2.2.2.2.2.2.2.1.1.1 K.2.2.2.2.2.2.2.2.1.1.2 K.2.2.2.2.2.2.2.2.1.2 K.2.2.2.2.2.2.2.2.2.1 K.2.2.2.2.2.2.2.2.2.2 R.1 R.2.1 R.2.2.1 R.2.2.2.1 R.2.2.2.2.1 R.2.2.2.2.2.1 R.2.2.2.2.2.2.1 R.2.2.2.2.2.2.2.1 R.2.2.2.2.2.2.2.2.1.1.1 R.2.2.2.2.2.2.2.2.1.1.2 R.2.2.2.2.2.2.2.2.1.2 R.2.2.2.2.2.2.2.2.2.1 R.2.2.2.2.2.2.2.2.2.2 t=some ((true,()),())
 | 0,j,t,K,h,h0,hj,hu=>by
  obtain ⟨j',rfl⟩:∃ j',j=j'+1:=⟨j - 1,by omega⟩
  rw [ZR,ZQ,Ua (n:=n) (by omega) (by omega),Rk (by omega)]
 | d+1,j,t,K,h,h0,hj,hu=>by
  obtain ⟨j',rfl⟩:∃ j',j=j'+1:=⟨j - 1,by omega⟩
  obtain ⟨u1,u2⟩:=ahl (by omega) hu
  have e:S23 k (K.1,K.2.1,K.2.2.1,K.2.2.2.1,K.2.2.2.2.1,K.2.2.2.2.2.1,K.2.2.2.2.2.2.1,K.2.2.2.2.2.2.2.1,((K.2.2.2.2.2.2.2.2.1.1.1,K.2.2.2.2.2.2.2.2.1.1.2),K.2.2.2.2.2.2.2.2.1.2),K.2.2.2.2.2.2.2.2.2.1,K.2.2.2.2.2.2.2.2.2.2)=_:=akC (k:=k) (by omega) hu.kg.ki
  rw [ZR,ZQ,Ua (n:=n) (by omega) (by omega),Rj (by omega),e,Option.bind_some]
  have h2:=VX (k:=k) (g:=Vh k j') (n:=n) (t:=t) (O:=K) (R:=R) (X:=(EA K).1) hb (by have:=u1.kg.ki.len;omega) (fun j hm=>⟨by have:=(u1.kg.job j hm).task;have:=u1.kg.bounds;rw [u1.bnd] at this;omega,u2 j hm⟩) (EA K).1.2.2.2.2.2.2.2.1.length 0 k (by omega) (by have:=u1.kg.ki.len;omega)
  refine Eq.trans h2 ?_
  rw [Ua (n:=t+1) (by omega) (by omega)]
  exact VY hk hn hb d j' (t+1) (EA K).1 (by omega) (by omega) (by omega) u1
theorem VZ {k:Nat} (hk:20000 <= k) {n:Int} (hn:0 <= n /\ n <= 255) {R:gy} {ap:Int} {ts:List fq} {bs:List wm} (hb:R.2.2.2.1=bs) (h8:ts.length <= 8) (hbl:bs.length=ts.length):∀ (d c j:Nat),c+d=ts.length -> d<j -> KG (runK ap ts bs (ED c)) ->
  ZU k j n 0 ap ts bs true false false (ED c) jk.1.1 jk.1.2 jk.2 (List.replicate ts.length 0) (List.replicate ts.length false) R.1 R.2.1 R.2.2.1 R.2.2.2.1 R.2.2.2.2.1 R.2.2.2.2.2.1 R.2.2.2.2.2.2.1 R.2.2.2.2.2.2.2.1 R.2.2.2.2.2.2.2.2.1.1.1 R.2.2.2.2.2.2.2.2.1.1.2 R.2.2.2.2.2.2.2.2.1.2 R.2.2.2.2.2.2.2.2.2.1 R.2.2.2.2.2.2.2.2.2.2 (c:Int)=some ((true,()),())
 | 0,c,j,h,hj,hkg=>by
  obtain ⟨j',rfl⟩:∃ j',j=j'+1:=⟨j - 1,by omega⟩
  rw [ZV,ZT,Rk (by omega)]
  refine VY hk hn hb n.toNat k 0 (runK ap ts bs (ED c)) (by omega) (by omega) (by omega) ⟨hkg,rfl,rfl,rfl,rfl,rfl,fun x hx=>?_,fun x hx _=>?_⟩
  ·obtain ⟨i,_,rfl⟩:=List.mem_map.1 hx
   exact ⟨rfl,fun _=>rfl,fun e=>absurd e (by simp [JW])⟩
  ·show (List.replicate ts.length (0:Int)).getD x.1.toNat 0=0
   rw [List.getD_eq_getElem?_getD,List.getElem?_replicate]
   split <;> rfl
 | d+1,c,j,h,hj,hkg=>by
  obtain ⟨j',rfl⟩:∃ j',j=j'+1:=⟨j - 1,by omega⟩
  obtain ⟨ev,er⟩:=ae6 (ap:=ap) (ts:=ts) (bs:=bs) (c:=c) (by omega)
  have hk2:KG (runK ap ts bs (ED (c+1))):=by
   have:=akJ hkg (p:=(c:Int)) (a:=5) ⟨by omega,by omega⟩
   rw [er] at this
   exact this
  have e:S20 k (0,ap,ts,bs,true,false,false,ED c,((jk.1.1,jk.1.2),jk.2),List.replicate ts.length 0,List.replicate ts.length false) (c:Int) 5=some ((runK ap ts bs (ED (c+1)),ev,0,()),()):=by
   have:=akH (k:=k) (by omega) hkg.ki (c:Int) 5
   rw [er] at this
   exact this
  rw [ZV,ZT,Rj (by omega),e,Option.bind_some,Me (by omega)]
  exact VZ hk hn hb h8 hbl d (c+1) j' (by omega) (by omega) hk2
theorem kernUp_pure {p:List Int} {n:Int} {e:TypeId} (hp:Ty.fine (.sl e (.int .u8)) p) (hn:0 <= n /\ n <= 255) {k:Nat} (hk:20000 <= k):S8 k p n=some ((true,()),()):=by
 unfold S8
 rw [amI hk]
 simp only [Option.bind_some,Bool.not_true,cond_false]
 by_cases h:(p.length:Int)>200
 ·rw [Rj h]
 ·rw [Rk h]
  obtain ⟨ts,bs,T,e1,hL,h4,hr,hbl⟩:=akL hk (aew hp (show p.length <= 1000 by omega)) (show (1:Int) <= 500 by omega) (show (500:Int) <= 4611686018427387904 by omega)
  rw [e1,Option.bind_some]
  have hst:=abe (k:=k) (by omega) (ae4 (ap:=500) hL (by omega) hbl)
  unfold uw
  simp only [Bool.not_true,cond_false]
  rw [hst,Option.bind_some]
  simp only
  cases hz:ts.any BD with
  | true=>simp
  | false =>
   simp only [cond_false,bne_self_eq_false]
   rw [Rf (by omega) (by simp only [Int.toNat_natCast];omega),Rf (by omega) (by simp only [Int.toNat_natCast];omega),Int.toNat_natCast]
   have hkg:KG (runK 500 ts bs (ED 0)):=ahi hL (by omega) hbl (akM hr hz)
   exact VZ (R:=uw 500 ts bs T) hk hn rfl (by omega) hbl ts.length 0 k (by omega) (by omega) hkg
theorem kernUp_law {e:TypeId} (p:List Int) (n:Int) (hp:Ty.fine (.sl e (.int .u8)) p) (hn:Ty.fine (.int .u8) n):∃ k,S8 k p n=some ((true,()),()):=⟨20000,kernUp_pure hp (akr hn) (by omega)⟩
end Go.Proofs.YtmmagcjlfcicfaaGreat.Ab
