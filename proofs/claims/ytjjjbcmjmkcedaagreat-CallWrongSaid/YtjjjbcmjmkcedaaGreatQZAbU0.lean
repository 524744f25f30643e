import Derived.Test.YtjjjbcmjmkcedaaGreatPbC
import Derived.Test.YtjjjbcmjmkcedaaGreatAbU0
import Derived.Test.YtjjjbcmjmkcedaaGreatAbU1
import Derived.Test.YtjjjbcmjmkcedaaGreatAbU2
import Derived.KernelRfl
/- The plain law, and what it hangs on. -/
namespace Go.Proofs.YtjjjbcmjmkcedaaGreat.Ab
open Go.RowKit
set_option linter.unusedSimpArgs false
set_option linter.unusedVariables false
section
variable {σ R α:Type}
abbrev I4:Type:=Int×Int×Int×Int
abbrev i0:I4:=(0,0,0,0)
theorem agK {c x y:Bool}:(bif c then some ((x,()),()) else some ((y,()),()):Option ((Bool×Unit)×Unit))=some ((bif c then x else y,()),()):=by cases c <;> rfl
theorem abV {c x:Bool}:(bif c then x else false)=(c&&x):=by cases c <;> rfl
theorem getD_in {l:List α} {n:Nat} {z:α} (h:n<l.length):l.getD n z=l[n]:=by
 simp [List.getD_eq_getElem?_getD,List.getElem?_eq_getElem h]
theorem K5 {l:List α} {n:Nat} {z:α} (h:l.length <= n):l.getD n z=z:=by
 simp [List.getD_eq_getElem?_getD,List.getElem?_eq_none h]
theorem nk {l:List α} {x y:Nat} {v z:α}:(l.set x v).getD y z=if x=y /\ y<l.length then v else l.getD y z:=by
 simp only [List.getD_eq_getElem?_getD,List.getElem?_set]
 by_cases h:x=y
 ·subst h
  by_cases h2:x<l.length
  ·simp [h2]
  ·simp [h2]
 ·simp [h]
theorem ny {u w:List α} {n:Nat} {z:α} (h:n<u.length):(u++w).getD n z=u.getD n z:=by
 simp [List.getD_eq_getElem?_getD,List.getElem?_append_left h]
theorem j6 {u w:List α} {n:Nat} {z:α} (h:u.length <= n):(u++w).getD n z=w.getD (n - u.length) z:=by
 simp [List.getD_eq_getElem?_getD,List.getElem?_append_right h]
theorem drop_cons {l:List α} {i:Nat} (z:α) (h:i<l.length):l.drop i=l.getD i z::l.drop (i+1):=by
 rw [List.drop_eq_getElem_cons h,getD_in h]
theorem drop_nil {l:List α} {i:Nat} (h:i=l.length):l.drop i=[]:=List.drop_eq_nil_of_le (by omega)
theorem jh {l:List α} {i:Nat} {z:α} (h:i<l.length):l.getD i z∈l:=by rw [getD_in h];exact List.getElem_mem h
theorem CY {l:List α} {x:α} (z:α) (h:x∈l):∃ i,i<l.length /\ l.getD i z=x:=by
 obtain ⟨i,hi,rfl⟩:=List.getElem_of_mem h
 exact ⟨i,hi,getD_in hi⟩
def goF (f:Nat -> σ -> σ):Nat -> Nat -> σ -> σ
 | 0,_,s=>s
 | m+1,i,s=>goF f m (i+1) (f i s)
theorem Vb {L:Nat -> σ -> Int -> Option R} {n:Nat} (inv:Nat -> σ -> Prop) (f:Nat -> σ -> σ) (fin:σ -> Option R)
  (hs:∀ j i s,i<n -> inv i s -> L (j+1) s (i:Int)=L j (f i s) ((i+1:Nat):Int))
  (hi:∀ i s,i<n -> inv i s -> inv (i+1) (f i s))
  (he:∀ j s,inv n s -> L (j+1) s (n:Int)=fin s) :
  ∀ (m i j:Nat) (s:σ),i+m=n -> m<j -> inv i s -> L j s i=fin (goF f m i s)
 | 0,i,j,s,h,hj,hv=>by
  obtain ⟨j',rfl⟩:∃ j',j=j'+1:=⟨j - 1,by omega⟩
  have:i=n:=by omega
  subst this;exact he j' s hv
 | m+1,i,j,s,h,hj,hv=>by
  obtain ⟨j',rfl⟩:∃ j',j=j'+1:=⟨j - 1,by omega⟩
  rw [hs j' i s (by omega) hv,goF]
  exact Vb inv f fin hs hi he m (i+1) j' _ (by omega) (by omega) (hi i s (by omega) hv)
theorem GJ {inv:Nat -> σ -> Prop} {f:Nat -> σ -> σ} {n:Nat} (hi:∀ i s,i<n -> inv i s -> inv (i+1) (f i s)):∀ (m i:Nat) (s:σ),i+m=n -> inv i s -> inv n (goF f m i s)
 | 0,i,s,h,hv=>by
  have:i=n:=by omega
  subst this;exact hv
 | m+1,i,s,h,hv=>GJ hi m (i+1) _ (by omega) (hi i s (by omega) hv)
def qb (f:α -> Bool) (xs:List α):Int:=match xs.findIdx? f with | some n=>(n:Int) | none=>-1
theorem aff (L:Nat -> Int -> Option ((Int×Unit)×Unit)) (xs:List α) (z:α) (f:α -> Bool)
  (hs:∀ (j n:Nat),n<xs.length -> L (j+1) (n:Int)=bif f (xs.getD n z) then some (((n:Int),()),()) else L j ((n+1:Nat):Int))
  (he:∀ j,L (j+1) (xs.length:Int)=some ((-1,()),())):∀ (m i j:Nat),i+m=xs.length -> m<j ->
   L j i=some (((match (xs.drop i).findIdx? f with | some n=>((i+n:Nat):Int) | none=>-1),()),())
 | 0,i,j,h,hj=>by
  obtain ⟨j',rfl⟩:∃ j',j=j'+1:=⟨j - 1,by omega⟩
  have:i=xs.length:=by omega
  subst this;rw [he,List.drop_length];rfl
 | m+1,i,j,h,hj=>by
  obtain ⟨j',rfl⟩:∃ j',j=j'+1:=⟨j - 1,by omega⟩
  have hlt:i<xs.length:=by omega
  rw [hs j' i hlt,drop_cons z hlt,List.findIdx?_cons,aff L xs z f hs he m (i+1) j' (by omega) (by omega)]
  cases f (xs.getD i z) with
  | true=>simp
  | false =>
   simp only [cond_false,Bool.false_eq_true,if_false]
   cases (xs.drop (i+1)).findIdx? f with
   | none=>rfl
   | some n=>simp only [Option.map_some];congr 4;omega
theorem ql (L:Nat -> Int -> Option ((Int×Unit)×Unit)) (xs:List α) (z:α) (f:α -> Bool)
  (hs:∀ (j n:Nat),n<xs.length -> L (j+1) (n:Int)=bif f (xs.getD n z) then some (((n:Int),()),()) else L j ((n+1:Nat):Int))
  (he:∀ j,L (j+1) (xs.length:Int)=some ((-1,()),())) (j:Nat) (hj:xs.length<j):L j 0=some ((qb f xs,()),()):=by
 have:=aff L xs z f hs he xs.length 0 j (by omega) hj
 rw [List.drop_zero] at this
 simpa [qb] using this
theorem CJ (f:α -> Bool) (s:List α):decide (qb f s≥0)=s.any f:=by
 unfold qb
 cases h:s.findIdx? f with
 | none=>rw [List.findIdx?_eq_none_iff] at h;simp;intro x hx;simpa using h x hx
 | some n =>
  have h2:=List.findIdx?_isSome (xs:=s) (p:=f)
  rw [h] at h2
  rw [<- h2];simp
def K6 (f:Nat -> Bool):Nat -> Nat -> Bool
 | 0,_=>false
 | m+1,i=>f i||K6 f m (i+1)
theorem RG (f:Nat -> Bool):∀ (m i:Nat),K6 f m i=true↔∃ n,i <= n /\ n<i+m /\ f n=true
 | 0,i=>⟨fun h=>by simp [K6] at h,fun ⟨n,h1,h2,_⟩=>by omega⟩
 | m+1,i=>by
  rw [K6,Bool.or_eq_true,RG f m (i+1)]
  constructor
  ·rintro (h | ⟨n,h1,h2,h3⟩)
   ·exact ⟨i,by omega,by omega,h⟩
   ·exact ⟨n,by omega,by omega,h3⟩
  ·rintro ⟨n,h1,h2,h3⟩
   by_cases e:n=i
   ·subst e;exact .inl h3
   ·exact .inr ⟨n,by omega,by omega,h3⟩
theorem qy (f:Nat -> Bool) (m i:Nat):K6 f m i=false↔∀ n,i <= n -> n<i+m -> f n=false:=by
 constructor
 ·intro h n h1 h2
  cases hf:f n with
  | false=>rfl
  | true=>rw [(RG f m i).2 ⟨n,h1,h2,hf⟩] at h;cases h
 ·intro h
  cases ha:K6 f m i with
  | false=>rfl
  | true=>obtain ⟨n,h1,h2,h3⟩:=(RG f m i).1 ha;rw [h n h1 h2] at h3;cases h3
theorem XY {L:Nat -> Int -> Option R} {n:Nat} (f:Nat -> Bool) (yes no:Option R)
  (hs:∀ (j i:Nat),i<n -> L (j+1) (i:Int)=bif f i then yes else L j ((i+1:Nat):Int))
  (he:∀ j,L (j+1) (n:Int)=no):∀ (m i j:Nat),i+m=n -> m<j -> L j i=bif K6 f m i then yes else no
 | 0,i,j,h,hj=>by
  obtain ⟨j',rfl⟩:∃ j',j=j'+1:=⟨j - 1,by omega⟩
  have:i=n:=by omega
  subst this;rw [he];rfl
 | m+1,i,j,h,hj=>by
  obtain ⟨j',rfl⟩:∃ j',j=j'+1:=⟨j - 1,by omega⟩
  rw [hs j' i (by omega),K6,XY f yes no hs he m (i+1) j' (by omega) (by omega)]
  cases f i <;> rfl
theorem AQ:∀ (n:Nat) (x:PN α n),(Gv n x).length=n
 | 0,_=>rfl
 | 1,_=>rfl
 | n+2,x=>by simp only [Gv,List.length_cons];rw [AQ (n+1) x.2]
theorem DY:∀ (n:Nat) (v:α),Gv n (Qn n v)=List.replicate n v
 | 0,_=>rfl
 | 1,_=>rfl
 | n+2,v=>by simp only [Gv,Qn];rw [DY (n+1) v];rfl
theorem MC:∀ (n:Nat) (x y:PN α n),Gv n x=Gv n y -> x=y
 | 0,_,_,_=>rfl
 | 1,x,y,h=>by simpa [Gv] using h
 | n+2,x,y,h=>by
  simp only [Gv,List.cons.injEq] at h
  exact Prod.ext h.1 (MC (n+1) x.2 y.2 h.2)
theorem RH:∀ (n i:Nat) (x:PN α n) (j:Nat) (v:α),i <= j -> Gv n (Gw n i x (j:Int) v)=(Gv n x).set (j - i) v
 | 0,_,_,_,_,_=>rfl
 | 1,i,x,j,v,h=>by
  simp only [Gv,Gw]
  by_cases e:j=i
  ·subst e;simp
  ·rw [if_neg (by omega)]
   have:j - i=(j - i - 1)+1:=by omega
   rw [this];rfl
 | n+2,i,x,j,v,h=>by
  simp only [Gv,Gw]
  by_cases e:j=i
  ·subst e
   simp only [if_true,Nat.sub_self,List.set_cons_zero,List.cons.injEq,true_and]
   exact II (n+1) (j+1) x.2 j v (by omega)
  ·rw [if_neg (by omega),RH (n+1) (i+1) x.2 j v (by omega),show j - i=(j - (i+1))+1 by omega,List.set_cons_succ]
where II:∀ (n i:Nat) (x:PN α n) (j:Nat) (v:α),j<i -> Gv n (Gw n i x (j:Int) v)=Gv n x
 | 0,_,_,_,_,_=>rfl
 | 1,i,x,j,v,h=>by simp only [Gv,Gw];rw [if_neg (by omega)]
 | n+2,i,x,j,v,h=>by simp only [Gv,Gw];rw [if_neg (by omega),II (n+1) (i+1) x.2 j v (by omega)]
theorem Vd {n:Nat} {x:PN α n} {j:Nat} {v:α}:Gv n (Ur n x (j:Int) v)=(Gv n x).set j v:=by
 unfold Ur;rw [RH n 0 x j v (by omega)];rfl
end
def CK (a:Int):Bool:=decide (a≥0)&&decide (a<8)
def zo (v a b:Int):Bool:=decide (v≥a)&&decide (v <= b)
def kr (i:I4):Bool :=
 bif i.1==0 then (i.2.1==0&&(i.2.2.1==0&&i.2.2.2==0))
 else bif i.1==11 then (i.2.1==0&&(i.2.2.1==0&&i.2.2.2==0))
 else bif i.1==1 then (CK i.2.1&&(i.2.2.1==0&&zo i.2.2.2 (-2147483648) 2147483647))
 else bif i.1==2 then (CK i.2.1&&(CK i.2.2.1&&i.2.2.2==0))
 else bif i.1==3 then (CK i.2.1&&(CK i.2.2.1&&i.2.2.2==0))
 else bif i.1==4 then (CK i.2.1&&(CK i.2.2.1&&i.2.2.2==0))
 else bif i.1==5 then (CK i.2.1&&(i.2.2.1==0&&zo i.2.2.2 (-63) 63))
 else bif i.1==6 then (CK i.2.1&&(i.2.2.1==0&&zo i.2.2.2 1 64))
 else bif i.1==7 then (CK i.2.1&&(i.2.2.1==0&&zo i.2.2.2 1 24))
 else bif i.1==8 then (i.2.1==0&&(zo i.2.2.1 1 24&&zo i.2.2.2 1 20))
 else bif i.1==9 then (zo i.2.1 0 3&&(i.2.2.1==0&&i.2.2.2==0))
 else bif i.1==10 then (zo i.2.1 0 3&&(i.2.2.1==0&&i.2.2.2==0))
 else false
theorem amr (k:Nat) (a:Int):KX k a=some ((CK a,()),()):=by unfold KX CK;rw [agK,abV]
theorem ams (k:Nat) (v a b:Int):Q7 k v a b=some ((zo v a b,()),()):=by unfold Q7 zo;rw [agK,abV]
theorem afg (k:Nat) (i:I4):ahF k i=some ((kr i,()),()):=by
 unfold kr ahF
 simp only [amr,ams,Option.bind_some,agK,abV]
theorem amt {k:Nat} (hk:1000 <= k) {s:List I4} (h:s.length <= 900):alj k s=some ((qb (fun i=>!kr i) s,()),()):=by
 unfold alj
 refine ql (fun j i=>KY k j s (s.length:Int) i) s i0 _ (fun j i hi=>?_) (fun j=>?_) k (by omega)
 ·show KY k (j+1) s (s.length:Int) (i:Int)=_
  rw [Z0,Wn,Sc (by omega),Qo hi,Mi (by omega)]
  simp only [aoP,afg,Option.bind_some,Qp]
 ·show KY k (j+1) s (s.length:Int) (s.length:Int)=_
  rw [Z0,Wn,Sd (by omega)]
theorem apH {k:Nat} (hk:1000 <= k) {s:List I4} (h:s.length <= 900):S57 k s=some ((s.any (fun i=>!kr i),()),()):=by
 unfold S57;rw [amt hk h];simp only [Option.bind_some,CJ]
theorem aj2 {k:Nat} (hk:1000 <= k) {s:List I4} (h:s.length <= 900):acG k s=some ((qb (fun i=>i.1==0) s,()),()):=by
 unfold acG
 refine ql (fun j i=>G7 k j s (s.length:Int) i) s i0 _ (fun j i hi=>?_) (fun j=>?_) k (by omega)
 ·show G7 k (j+1) s (s.length:Int) (i:Int)=_
  rw [UF,OE,Sc (by omega),Qo hi,Mi (by omega)]
  simp only [aoQ,Option.bind_some,Qp]
 ·show G7 k (j+1) s (s.length:Int) (s.length:Int)=_
  rw [UF,OE,Sd (by omega)]
theorem amu {k:Nat} (hk:1000 <= k) {s:List Int} (h:s.length <= 900):alk k s=some ((qb (fun i=>decide (i>2)) s,()),()):=by
 unfold alk
 refine ql (fun j i=>L6 k j s (s.length:Int) i) s 0 _ (fun j i hi=>?_) (fun j=>?_) k (by omega)
 ·show L6 k (j+1) s (s.length:Int) (i:Int)=_
  rw [Z7,Wp,Sc (by omega),Qo hi,Mi (by omega)]
  simp only [aoR,Option.bind_some,Qp]
  rfl
 ·show L6 k (j+1) s (s.length:Int) (s.length:Int)=_
  rw [Z7,Wp,Sd (by omega)]
theorem amv {k:Nat} (hk:1000 <= k) {s:List Int} (h:s.length <= 900):alm k s=some ((s.any (fun i=>decide (i>2)),()),()):=by
 unfold alm;rw [amu hk h];simp only [Option.bind_some,CJ]
theorem aj3 {k:Nat} (hk:1000 <= k) {s:List Int} {x:Int} (h:s.length <= 900):acS k s x=some ((s.any (fun e=>decide (e>x)),()),()):=by
 unfold acS ahV
 rw [show DR k k s x (s.length:Int) 0=some ((qb (fun e=>decide (e>x)) s,()),()) from
  ql (fun j i=>DR k j s x (s.length:Int) i) s 0 _ (fun j i hi=>by
   show DR k (j+1) s x (s.length:Int) (i:Int)=_
   rw [UH,OH,Sc (by omega),Qo hi,Mi (by omega)]
   simp only [aoT,Option.bind_some,Qp]
   rfl) (fun j=>by
   show DR k (j+1) s x (s.length:Int) (s.length:Int)=_
   rw [UH,OH,Sd (by omega)]) k (by omega)]
 simp only [Option.bind_some,CJ]
def NS (l:List I4) (open_:List Int) (x:Int):Bool:=open_.any (fun i=>(rd l i i0).2.1==(rd l x i0).2.1)
theorem aj4 {k:Nat} (hk:1000 <= k) {s:List Int} {l:List I4} {x:Int} (h:s.length <= 900) (hs:∀ i∈s,0 <= i /\ i<(l.length:Int)) (hx:0 <= x /\ x<(l.length:Int)):acP k s l x=some ((NS l s x,()),()):=by
 unfold acP ahS
 rw [show DN k k s l x (s.length:Int) 0=some ((qb (fun i=>(rd l i i0).2.1==(rd l x i0).2.1) s,()),()) from
  ql (fun j i=>DN k j s l x (s.length:Int) i) s 0 _ (fun j i hi=>by
   show DN k (j+1) s l x (s.length:Int) (i:Int)=_
   have:=hs _ (jh (z:=0) hi)
   rw [UG,OG,Sc (by omega),Qo hi,Mi (by omega),Qp,aoS,Lj this.1 this.2,Lj hx.1 hx.2]
   rfl) (fun j=>by
   show DN k (j+1) s l x (s.length:Int) (s.length:Int)=_
   rw [UG,OG,Sd (by omega)]) k (by omega)]
 simp only [Option.bind_some,CJ,NS]
def pc (i:Nat) (x:I4):List (Int×Int×Int×Bool) :=
 bif x.1==8 then [(((i+1:Nat):Int),IntKind.i64.wrap ((i:Int)+x.2.2.1),(i:Int),true)]
 else bif x.1==7 then [(((i+1:Nat):Int),IntKind.i64.wrap ((i:Int)+x.2.2.2),(i:Int),false)] else []
def mh:Nat -> List (I4) -> List (Int×Int×Int×Bool)
 | _,[]=>[]
 | i,x::r=>pc i x++mh (i+1) r
theorem aj5 (i:Nat) (x:I4):(pc i x).length <= 1:=by unfold pc;cases x.1==8 <;> cases x.1==7 <;> simp
theorem GK:∀ (l:List (I4)) (i:Nat),(mh i l).length <= l.length
 | [],_=>by simp [mh]
 | x::r,i=>by have:=aj5 i x;have:=GK r (i+1);simp only [mh,List.length_append,List.length_cons];omega
theorem Ve (l:List (I4)) (hl:l.length <= 900) (L:Nat -> List (Int×Int×Int×Bool) -> Int -> Option ((List (Int×Int×Int×Bool)×Unit)×Unit))
  (hs:∀ j out (i:Nat),i<l.length -> out.length <= i -> L (j+1) out i=L j (out++pc i (l.getD i (0,0,0,0))) ((i+1:Nat):Int))
  (he:∀ j out,L (j+1) out (l.length:Int)=some ((out,()),())):∀ (m i j:Nat) (out:List (Int×Int×Int×Bool)),i+m=l.length -> m<j -> out.length <= i -> L j out i=some ((out++mh i (l.drop i),()),())
 | 0,i,j,out,h,hj,ho=>by
  obtain ⟨j',rfl⟩:∃ j',j=j'+1:=⟨j - 1,by omega⟩
  have:i=l.length:=by omega
  subst this
  rw [he,List.drop_length]
  simp [mh]
 | m+1,i,j,out,h,hj,ho=>by
  obtain ⟨j',rfl⟩:∃ j',j=j'+1:=⟨j - 1,by omega⟩
  have hlt:i<l.length:=by omega
  have hp:=aj5 i (l.getD i (0,0,0,0))
  rw [hs j' out i hlt ho,Ve l hl L hs he m (i+1) j' _ (by omega) (by omega) (by simp only [List.length_append];omega),List.drop_eq_getElem_cons hlt]
  have:l.getD i (0,0,0,0)=l[i]:=by simp [List.getD_eq_getElem?_getD,hlt]
  rw [this,mh,List.append_assoc]
theorem afh {k:Nat} {l:List (I4)} (hk:1000 <= k) (h:l.length <= 900):ahJ k l=some ((mh 0 l,()),()):=by
 have:=Ve l h (fun j out i=>KZ k j out l (l.length:Int) i)
  (fun j out i hi ho=>by
   show KZ k (j+1) out l (l.length:Int) (i:Int)=_
   rw [Z5,Wo,Sc (by omega),Qo hi,Mi (by omega),Qp,pc]
   cases h8:(l.getD i (0,0,0,0)).1==8 with
   | true=>simp only [cond_true];rw [Rz (by simp only [List.length_cons,List.length_nil];omega)]
   | false =>
    cases h7:(l.getD i (0,0,0,0)).1==7 with
    | true=>simp only [cond_true,cond_false];rw [Rz (by simp only [List.length_cons,List.length_nil];omega)]
    | false=>simp only [cond_false,List.append_nil])
  (fun j out=>by
   show KZ k (j+1) out l (l.length:Int) (l.length:Int)=_
   rw [Z5,Wo,Sd (by omega)])
  l.length 0 k [] (by omega) (by omega) (by simp)
 unfold ahJ
 simpa using this
abbrev fq:Type:=Int×Int×Int×Bool
def ow (p:fq) (i:Int):Bool:=decide (p.1 <= i)&&decide (i <= p.2.1)
def inA (p q:fq):Bool:=ow q p.1&&ow q p.2.1
def apA (p q:fq):Bool:=decide (p.2.1<q.1)||decide (q.2.1<p.1)
def I8 (p q:fq):Bool:=(ow q p.2.2.1&&!inA p q)||(!apA p q&&(!inA p q&&!inA q p))
theorem XZ (k:Nat) (p:fq) (i:Int):abH k p i=some ((ow p i,()),()):=by
 unfold abH ow;rw [agK];cases h:decide (p.1 <= i) <;> simp_all
theorem amw (k:Nat) (p q:fq):Z6 k p q=some ((inA p q,()),()):=by
 unfold Z6 inA;simp only [XZ,Option.bind_some,agK];cases ow q p.1 <;> rfl
theorem amx (k:Nat) (p q:fq):ahK k p q=some ((apA p q,()),()):=by
 unfold ahK apA;simp only [agK];cases decide (p.2.1<q.1) <;> rfl
theorem Vf {k:Nat} {g4:List (I4) -> List fq -> List Int -> List fq -> Int -> Int -> Option ((Bool×Unit)×Unit)} {l:List (I4)} {all1 all:List fq} {ar:List Int} {p:fq} {t15:List fq} {t16 t17:Int} (hl:all.length <= 900) :
  ∀ (m i j:Nat),i+m=all.length -> m<j -> Ws k g4 j l all1 ar p.1 p.2.1 p.2.2.1 p.2.2.2 t15 t16 t17 all (all.length:Int) i =
   bif (all.drop i).any (I8 p) then some ((false,()),()) else G8 k g4 k l all1 ar p.1 p.2.1 p.2.2.1 p.2.2.2 p.1 t15 t16 t17
 | 0,i,j,h,hj=>by
  obtain ⟨j',rfl⟩:∃ j',j=j'+1:=⟨j - 1,by omega⟩
  have:i=all.length:=by omega
  subst this
  rw [Z9,Wq,Sd (by omega),List.drop_length]
  rfl
 | m+1,i,j,h,hj=>by
  obtain ⟨j',rfl⟩:∃ j',j=j'+1:=⟨j - 1,by omega⟩
  have hi:i<all.length:=by omega
  rw [Z9,Wq,Sc (by omega),Qo hi,Mi (by omega),Qp,Vf hl m (i+1) j' (by omega) (by omega),List.drop_eq_getElem_cons hi,List.any_cons]
  have:all.getD i (0,0,0,false)=all[i]:=by simp [List.getD_eq_getElem?_getD,hi]
  rw [this]
  simp only [XZ,amw,amx,Option.bind_some,I8]
  cases ow all[i] p.2.2.1 <;> cases inA p all[i] <;> cases apA p all[i] <;> cases inA all[i] p <;> rfl
def bumps:List Int -> Nat -> Nat -> List Int
 | ar,_,0=>ar
 | ar,i,m+1=>bumps (ar.set i (IntKind.i64.wrap (ar.getD i 0+1))) (i+1) m
theorem agL {k:Nat} {g4:List (I4) -> List fq -> List Int -> List fq -> Int -> Int -> Option ((Bool×Unit)×Unit)} {l:List (I4)} {all:List fq} {ar:List Int} {p4 p5 p6:Int} {t15:List fq} {t16 t17 i:Int} (j:Nat) (hj:1 <= j) :
  G8 k g4 j l all ar p4 p5 p6 false i t15 t16 t17=g4 l all ar t15 t16 (IntKind.i64.wrap (t17+1)):=by
 obtain ⟨j',rfl⟩:∃ j',j=j'+1:=⟨j - 1,by omega⟩
 rw [L8,JH];rfl
theorem Vg {k:Nat} {g4:List (I4) -> List fq -> List Int -> List fq -> Int -> Int -> Option ((Bool×Unit)×Unit)} {l:List (I4)} {all:List fq} {p4 p5 p6:Int} {t15:List fq} {t16 t17:Int} :
  ∀ (m i j:Nat) (ar:List Int),((p5+1=(i:Int)+m) \/ (m=0 /\ p5<i)) -> i+m <= ar.length -> ar.length <= 900 -> m<j ->
   G8 k g4 j l all ar p4 p5 p6 true i t15 t16 t17=g4 l all (bumps ar i m) t15 t16 (IntKind.i64.wrap (t17+1))
 | 0,i,j,ar,h,hl,hl9,hj=>by
  obtain ⟨j',rfl⟩:∃ j',j=j'+1:=⟨j - 1,by omega⟩
  rw [L8,JH,Sd (by omega)]
  rfl
 | m+1,i,j,ar,h,hl,hl9,hj=>by
  obtain ⟨j',rfl⟩:∃ j',j=j'+1:=⟨j - 1,by omega⟩
  have hi:i<ar.length:=by omega
  rw [L8,JH,Sc (by omega),Qo hi,Qo hi,Mi (by omega),Qp,Mj,Vg m (i+1) j' _ (by omega) (by simp only [List.length_set];omega) (by simp only [List.length_set];omega) (by omega)]
  rfl
def nest (L1:Int) (all:List fq):List fq -> List Int -> Bool
 | [],ar=>!ar.any (fun i=>decide (i>2))
 | p::r,ar=>bif decide (p.2.1≥L1) then false else bif all.any (I8 p) then false else nest L1 all r (bif p.2.2.2 then bumps ar p.1.toNat (p.2.1+1 - p.1).toNat else ar)
theorem ME:∀ (m i:Nat) (ar:List Int),(bumps ar i m).length=ar.length
 | 0,_,_=>rfl
 | m+1,i,ar=>by rw [bumps,ME m];simp
theorem MF {k:Nat} (hk:1000 <= k) {l:List (I4)} {all:List fq} (hl:l.length <= 900) (ha:all.length <= 900) (hp:∀ p∈all,0 <= p.1 /\ p.1 <= l.length):∀ (m i j:Nat) (ar:List Int),i+m=all.length -> m<j -> ar.length=l.length ->
  Q8 k j l all ar all (all.length:Int) i=some ((nest (IntKind.i64.wrap ((l.length:Int) - 1)) all (all.drop i) ar,()),())
 | 0,i,j,ar,h,hj,har=>by
  obtain ⟨j',rfl⟩:∃ j',j=j'+1:=⟨j - 1,by omega⟩
  have:i=all.length:=by omega
  subst this
  rw [Za,Wt,Sd (by omega),List.drop_length,amv hk (by omega)]
  rfl
 | m+1,i,j,ar,h,hj,har=>by
  obtain ⟨j',rfl⟩:∃ j',j=j'+1:=⟨j - 1,by omega⟩
  have hi:i<all.length:=by omega
  have hq:all.getD i (0,0,0,false)=all[i]:=by simp [List.getD_eq_getElem?_getD,hi]
  rw [Za,Wt,Sc (by omega),Qo hi,Qp,hq,List.drop_eq_getElem_cons hi,nest]
  have hb:=hp all[i] (List.getElem_mem hi)
  cases h1:decide (all[i].2.1≥IntKind.i64.wrap ((l.length:Int) - 1)) with
  | true=>rfl
  | false =>
   have h1':=of_decide_eq_false h1
   rw [Uu (by omega) (by omega)] at h1'
   have h9:=Vf (k:=k) (g4:=Q8 k j') (l:=l) (all1:=all) (all:=all) (ar:=ar) (p:=all[i]) (t15:=all) (t16:=(all.length:Int)) (t17:=(i:Int)) ha all.length 0 k (by omega) (by omega)
   simp only [cond_false]
   refine Eq.trans h9 ?_
   rw [List.drop_zero]
   cases h2:all.any (I8 all[i]) with
   | true=>rfl
   | false =>
    simp only [cond_false]
    cases h3:all[i].2.2.2 with
    | false =>
     rw [agL k (by omega),Mi (by omega),MF hk hl ha hp m (i+1) j' ar (by omega) (by omega) har]
     rfl
    | true =>
     obtain ⟨n,hn⟩:∃ n:Nat,all[i].1=(n:Int):=⟨all[i].1.toNat,by omega⟩
     rw [hn,Vg (all[i].2.1+1 - (n:Int)).toNat n k ar (by omega) (by omega) (by omega) (by omega),Mi (by omega),MF hk hl ha hp m (i+1) j' _ (by omega) (by omega) (by rw [ME];exact har)]
     rfl
theorem afi:∀ (l:List (I4)) (i:Nat) (p:fq),p∈mh i l -> ∃ n:Nat,i <= n /\ n<i+l.length /\ p.2.2.1=(n:Int) /\ p.1=((n+1:Nat):Int) /\ ∃ x,l[n - i]? = some x /\ p∈pc n x
 | [],_,_,h=>by cases h
 | x::r,i,p,h=>by
  rw [mh] at h
  rcases List.mem_append.1 h with h | h
  ·refine ⟨i,by omega,by simp,?_,?_,x,by simp,h⟩
   all_goals
    unfold pc at h
    cases h8:x.1==8 <;> cases h7:x.1==7 <;> simp only [h8,h7,cond_true,cond_false,List.mem_singleton,List.not_mem_nil] at h <;> first | (subst h;rfl) | exact h.elim
  ·obtain ⟨n,h1,h2,h3,h4,y,h5,h6⟩:=afi r (i+1) p h
   refine ⟨n,by omega,by simp only [List.length_cons];omega,h3,h4,y,?_,h6⟩
   rw [show n - i=(n - (i+1))+1 by omega,List.getElem?_cons_succ]
   exact h5
theorem amy {k:Nat} (hk:1000 <= k) {l:List (I4)} (hl:l.length <= 900):aln k l=some ((nest (IntKind.i64.wrap ((l.length:Int) - 1)) (mh 0 l) (mh 0 l) (List.replicate l.length 0),()),()):=by
 unfold aln
 have h1:=GK l 0
 rw [afh hk hl,Option.bind_some,Ry (by omega) (by simp;omega)]
 have:=MF hk (l:=l) (all:=mh 0 l) hl (by omega) (fun p hp=>by
  obtain ⟨n,_,h2,_,h4,_⟩:=afi l 0 p hp
  omega) (mh 0 l).length 0 k (List.replicate l.length 0) (by omega) (by omega) (by simp)
 rw [List.drop_zero] at this
 exact this
def marks (n:Nat) (p:fq):List (PN Bool 24) -> Nat -> Nat -> List (PN Bool 24)
 | out,_,0=>out
 | out,i,m+1=>marks n p (bif ow p (i:Int) then out.set i (Ur (α:=Bool) 24 (out.getD i (Qn (α:=Bool) 24 false)) (n:Int) true) else out) (i+1) m
theorem MG {k:Nat} {g3:List (I4) -> List (PN Bool 24) -> List fq -> Int -> Int -> Option ((List (PN Bool 24)×Unit)×Unit)} {l:List (I4)} {n:Nat} {p:fq} {t11:List fq} {t12 t13:Int} {len:Nat} (hn:n<24) (hl:len <= 900) :
  ∀ (m i j:Nat) (out:List (PN Bool 24)),i+m=len -> m<j -> out.length=len ->
   Wv k g3 j l out (n:Int) p.1 p.2.1 p.2.2.1 p.2.2.2 t11 t12 t13 (len:Int) i=g3 l (marks n p out i m) t11 t12 (IntKind.i64.wrap (t13+1))
 | 0,i,j,out,h,hj,ho=>by
  obtain ⟨j',rfl⟩:∃ j',j=j'+1:=⟨j - 1,by omega⟩
  rw [Zb,Wu,Sd (by omega)]
  rfl
 | m+1,i,j,out,h,hj,ho=>by
  obtain ⟨j',rfl⟩:∃ j',j=j'+1:=⟨j - 1,by omega⟩
  rw [Zb,Wu,Sc (by omega),Sc (by omega),Mi (by omega),marks]
  have:(p.1,p.2.1,p.2.2.1,p.2.2.2)=p:=rfl
  rw [this,XZ,Option.bind_some]
  cases hh:ow p (i:Int) with
  | true =>
   simp only [cond_true]
   rw [Qo (by omega),Rw (by omega) (by omega),Mj,Qp,MG hn hl m (i+1) j' _ (by omega) (by omega) (by simp only [List.length_set];exact ho)]
  | false =>
   simp only [cond_false]
   rw [MG hn hl m (i+1) j' _ (by omega) (by omega) ho]
theorem GL (n:Nat) (p:fq):∀ (m i:Nat) (out:List (PN Bool 24)),(marks n p out i m).length=out.length
 | 0,_,_=>rfl
 | m+1,i,out=>by rw [marks,GL n p m];cases ow p (i:Int) <;> simp
def IJ (len:Nat):Nat -> List fq -> List (PN Bool 24) -> List (PN Bool 24)
 | _,[],out=>out
 | n,p::r,out=>IJ len (n+1) r (marks n p out 0 len)
theorem Vh {k:Nat} (hk:1000 <= k) {l:List (I4)} {all:List fq} (hl:l.length <= 900) (ha:all.length <= 24):∀ (m n j:Nat) (out:List (PN Bool 24)),n+m=all.length -> m<j -> out.length=l.length ->
  Q9 k j l out all (all.length:Int) n=some ((IJ l.length n (all.drop n) out,()),())
 | 0,n,j,out,h,hj,ho=>by
  obtain ⟨j',rfl⟩:∃ j',j=j'+1:=⟨j - 1,by omega⟩
  have:n=all.length:=by omega
  subst this
  rw [Zc,Ww,Sd (by omega),List.drop_length]
  rfl
 | m+1,n,j,out,h,hj,ho=>by
  obtain ⟨j',rfl⟩:∃ j',j=j'+1:=⟨j - 1,by omega⟩
  have hi:n<all.length:=by omega
  have hq:all.getD n (0,0,0,false)=all[n]:=by simp [List.getD_eq_getElem?_getD,hi]
  rw [Zc,Ww,Sc (by omega),Qo hi,Qp,hq,List.drop_eq_getElem_cons hi,IJ]
  refine Eq.trans (MG (k:=k) (g3:=Q9 k j') (p:=all[n]) (t11:=all) (t12:=(all.length:Int)) (t13:=(n:Int)) (by omega) hl l.length 0 k out (by omega) (by omega) ho) ?_
  rw [Mi (by omega),Vh hk hl ha m (n+1) j' _ (by omega) (by omega) (by rw [GL];exact ho)]
theorem afj {k:Nat} (hk:1000 <= k) {l:List (I4)} (hl:l.length <= 24):ahR k l=some ((IJ l.length 0 (mh 0 l) (List.replicate l.length (Qn (α:=Bool) 24 false)),()),()):=by
 unfold ahR
 have h1:=GK l 0
 rw [Ry (by omega) (by simp;omega),afh hk (by omega),Option.bind_some]
 have:=Vh hk (l:=l) (all:=mh 0 l) (by omega) (by omega) (mh 0 l).length 0 k (List.replicate l.length (Qn (α:=Bool) 24 false)) (by omega) (by omega) (by simp)
 rw [List.drop_zero] at this
 exact this
abbrev z24:PN Bool 24:=Qn (α:=Bool) 24 false
def BZ (out:List (PN Bool 24)) (j n:Nat):Bool:=(Gv 24 (out.getD j z24)).getD n false
theorem abW (m j n:Nat):BZ (List.replicate m z24) j n=false:=by
 unfold BZ
 have:(List.replicate m z24).getD j z24=z24:=by
  rw [List.getD_eq_getElem?_getD,List.getElem?_replicate];split <;> rfl
 rw [this,DY,List.getD_eq_getElem?_getD,List.getElem?_replicate];split <;> rfl
theorem agM {out:List (PN Bool 24)} {i j n n':Nat} (hi:i<out.length) (hn:n<24) :
  BZ (out.set i (Ur (α:=Bool) 24 (out.getD i z24) (n:Int) true)) j n'=(decide (i=j /\ n=n')||BZ out j n'):=by
 unfold BZ
 rw [nk]
 by_cases h:i=j
 ·subst h
  rw [if_pos ⟨rfl,hi⟩,Vd,nk,AQ]
  by_cases h2:n=n'
  ·subst h2;simp [hn]
  ·simp [h2]
 ·rw [if_neg (fun h2=>h h2.1)];simp [h]
theorem NT {n:Nat} {p:fq} (hn:n<24):∀ (m i:Nat) (out:List (PN Bool 24)) (j n':Nat),i+m <= out.length ->
  BZ (marks n p out i m) j n'=(decide (i <= j /\ j<i+m /\ n=n')&&ow p (j:Int)||BZ out j n')
 | 0,i,out,j,n',_=>by
  rw [marks]
  have:decide (i <= j /\ j<i+0 /\ n=n')=false:=decide_eq_false (by omega)
  rw [this];rfl
 | m+1,i,out,j,n',h=>by
  rw [marks]
  have hlen:(bif ow p (i:Int) then out.set i (Ur (α:=Bool) 24 (out.getD i z24) (n:Int) true) else out).length=out.length:=by cases ow p (i:Int) <;> simp
  rw [NT hn m (i+1) _ j n' (by rw [hlen];omega)]
  cases hh:ow p (i:Int) with
  | true =>
   simp only [cond_true]
   rw [agM (by omega) hn]
   by_cases e:i=j
   ·subst e
    by_cases e2:n=n'
    ·subst e2;simp [hh]
    ·simp [e2]
   ·have e1:decide (i=j /\ n=n')=false:=decide_eq_false (fun h=>e h.1)
    have e2:decide (i+1 <= j /\ j<i+1+m /\ n=n')=decide (i <= j /\ j<i+(m+1) /\ n=n'):=by congr 1;exact propext ⟨fun h=>by omega,fun h=>by omega⟩
    rw [e1,e2];simp
  | false =>
   simp only [cond_false]
   by_cases e:i=j
   ·subst e
    simp only [hh,Bool.and_false]
   ·have e2:decide (i+1 <= j /\ j<i+1+m /\ n=n')=decide (i <= j /\ j<i+(m+1) /\ n=n'):=by congr 1;exact propext ⟨fun h=>by omega,fun h=>by omega⟩
    rw [e2]
theorem NU {len:Nat}:∀ (ps:List fq) (n:Nat) (out:List (PN Bool 24)) (j n':Nat),out.length=len -> n+ps.length <= 24 -> j<len ->
  BZ (IJ len n ps out) j n'=(decide (n <= n' /\ n'<n+ps.length)&&ow (ps.getD (n' - n) (0,0,0,false)) (j:Int)||BZ out j n')
 | [],n,out,j,n',_,_,_=>by
  rw [IJ]
  have:decide (n <= n' /\ n'<n+([]:List fq).length)=false:=decide_eq_false (by simp)
  rw [this];rfl
 | p::r,n,out,j,n',ho,hn,hj=>by
  simp only [List.length_cons] at hn
  rw [IJ,NU r (n+1) _ j n' (by rw [GL];exact ho) (by omega) hj,NT (by omega) _ _ _ _ _ (by omega)]
  by_cases e:n=n'
  ·subst e
   have e1:decide (n+1 <= n /\ n<n+1+r.length)=false:=decide_eq_false (by omega)
   have e2:decide (0 <= j /\ j<0+len /\ n=n)=true:=decide_eq_true ⟨by omega,by omega,rfl⟩
   have e3:decide (n <= n /\ n<n+(p::r).length)=true:=decide_eq_true ⟨by omega,by simp⟩
   rw [e1,e2,e3];simp
  ·have e2:decide (0 <= j /\ j<0+len /\ n=n')=false:=decide_eq_false (fun h=>e h.2.2)
   rw [e2]
   by_cases h:n+1 <= n'
   ·have:n' - n=(n' - (n+1))+1:=by omega
    rw [this,List.getD_cons_succ]
    have e3:decide (n+1 <= n' /\ n'<n+1+r.length)=decide (n <= n' /\ n'<n+(p::r).length):=by congr 1;exact propext ⟨fun h=>by simp only [List.length_cons];omega,fun h=>by simp only [List.length_cons] at h;omega⟩
    rw [e3];simp
   ·have e3:decide (n+1 <= n' /\ n'<n+1+r.length)=false:=decide_eq_false (by omega)
    have e4:decide (n <= n' /\ n'<n+(p::r).length)=false:=decide_eq_false (by omega)
    rw [e3,e4];simp
def AI (l:List I4):List (PN Bool 24):=IJ l.length 0 (mh 0 l) (List.replicate l.length z24)
theorem Vi (len:Nat):∀ (ps:List fq) (n:Nat) (out:List (PN Bool 24)),(IJ len n ps out).length=out.length
 | [],_,_=>rfl
 | p::r,n,out=>by rw [IJ,Vi len r,GL]
theorem Y0 (l:List I4):(AI l).length=l.length:=by unfold AI;rw [Vi];simp
theorem MH {l:List I4} (hl:l.length <= 24) {j n:Nat} (hj:j<l.length):BZ (AI l) j n=(decide (n<(mh 0 l).length)&&ow ((mh 0 l).getD n (0,0,0,false)) (j:Int)):=by
 unfold AI
 have:=GK l 0
 rw [NU _ 0 _ j n (by simp) (by omega) hj,abW,Bool.or_false]
 congr 2
 simp
def FM (l:List I4) (i j:Int):Bool:=(mh 0 l).any (fun p=>ow p i != ow p j)
theorem aqY {l:List I4} (hl:l.length <= 24) {i j:Nat} (hi:i<l.length) (hj:j<l.length):((AI l).getD i z24=(AI l).getD j z24)↔FM l i j=false:=by
 constructor
 ·intro h
  unfold FM
  rw [List.any_eq_false]
  intro p hp
  obtain ⟨n,hn,rfl⟩:=CY (0,0,0,false) hp
  have h1:=MH hl hi (n:=n)
  have h2:=MH hl hj (n:=n)
  unfold BZ at h1 h2
  rw [h] at h1
  rw [h1] at h2
  simp only [hn,decide_true,Bool.true_and] at h2
  rw [h2];simp
 ·intro h
  unfold FM at h
  rw [List.any_eq_false] at h
  apply MC
  apply List.ext_getElem (by rw [AQ,AQ])
  intro n h1 h2
  have e1:=MH hl hi (n:=n)
  have e2:=MH hl hj (n:=n)
  unfold BZ at e1 e2
  rw [getD_in h1] at e1
  rw [getD_in h2] at e2
  rw [e1,e2]
  by_cases hn:n<(mh 0 l).length
  ·have:=h _ (jh (z:=(0,0,0,false)) hn)
   simp only [bne_iff_ne,ne_eq,Decidable.not_not] at this
   rw [this]
  ·simp [hn]
theorem amA {l:List I4} (hl:l.length <= 24) {i:Nat} (hi:i<l.length):((AI l).getD i z24=z24)↔(mh 0 l).any (fun p=>ow p i)=false:=by
 constructor
 ·intro h
  rw [List.any_eq_false]
  intro p hp
  obtain ⟨n,hn,rfl⟩:=CY (0,0,0,false) hp
  have h1:=MH hl hi (n:=n)
  unfold BZ at h1
  rw [h,DY] at h1
  simp only [hn,decide_true,Bool.true_and] at h1
  rw [<- h1,List.getD_eq_getElem?_getD,List.getElem?_replicate];split <;> simp
 ·intro h
  rw [List.any_eq_false] at h
  apply MC
  apply List.ext_getElem (by rw [AQ,AQ])
  intro n h1 h2
  have e1:=MH hl hi (n:=n)
  unfold BZ at e1
  rw [getD_in h1] at e1
  have e2:(Gv 24 z24)[n]=false:=by
   have:Gv 24 z24=List.replicate 24 false:=DY 24 false
   rw [List.getElem_of_eq this,List.getElem_replicate]
  rw [e1,e2]
  by_cases hn:n<(mh 0 l).length
  ·have:=h _ (jh (z:=(0,0,0,false)) hn)
   simpa [hn] using this
  ·simp [hn]
theorem AU:∀ (n:Nat) (a b:(Am n .bool).D),fC (Am n .bool) a b=true↔a=b
 | 0,_,_=>⟨fun _=>rfl,fun _=>rfl⟩
 | 1,a,b=>by
  show (a==b)=true↔a=b
  exact beq_iff_eq
 | n+2,a,b=>by
  show (a.1==b.1&&fC (Am (n+1) .bool) a.2 b.2)=true↔a=b
  rw [Bool.and_eq_true,AU (n+1) a.2 b.2,beq_iff_eq]
  exact ⟨fun h=>Prod.ext h.1 h.2,fun h=>by subst h;exact ⟨rfl,rfl⟩⟩
section
variable {tk tv:Ty} (hb:∀ a b:tk.D,fC tk a b=true↔a=b)
include hb
theorem AX (d e:tk.D) (v:tv.D):∀ (es:List (tk.D×tv.D)),jB tk tv e (vL tk tv d v es)=if fC tk e d=true then some v else jB tk tv e es
 | []=>by
  simp only [vL,jB]
  cases fC tk e d <;> rfl
 | x::r=>by
  simp only [vL]
  cases h:fC tk d x.1 with
  | true =>
   have:=(hb _ _).1 h
   simp only [jB]
   rw [<- this]
   cases fC tk e d <;> rfl
  | false =>
   simp only [jB]
   rw [AX d e v r]
   cases h2:fC tk e x.1 with
   | true =>
    have h3:=(hb _ _).1 h2
    subst h3
    cases h4:fC tk x.1 d with
    | true =>
     have h5:=(hb _ _).1 h4
     rw [<- h5,(hb _ _).2 rfl] at h
     cases h
    | false=>rfl
   | false=>rfl
end
def kg (l:List I4) (i:Nat) (s:List Int×List Int):Option (List Int×List Int) :=
 if (l.getD i i0).1=9 then (if 2 <= s.2.length \/ NS l s.2 i=true then none else some (s.1,s.2++[(i:Int)]))
 else if (l.getD i i0).1=10 then
  (match s.2.getLast? with
  | none=>none
  | some k=>if (rd l k i0).2.1≠(l.getD i i0).2.1 \/ FM l k.toNat i=true then none else some (upd s.1 k i,s.2.dropLast))
 else some s
def vv (l:List I4):Nat -> Nat -> List Int×List Int -> Option (List Int×List Int)
 | 0,_,s=>some s
 | m+1,i,s=>(kg l i s).bind (vv l m (i+1))
def prs (l:List I4):Option (List Int):=match vv l l.length 0 (List.replicate l.length 0,[]) with
 | some (out,[])=>some out
 | _=>none
def afk:Option (List Int) -> Option ((List Int×Bool×Unit)×Unit)
 | some out=>some ((out,true,()),())
 | none=>some (([],false,()),())
def aj7 (l:List I4) (i:Nat) (s:List Int×List Int):Prop:=s.1.length=l.length /\ s.2.length <= 2 /\ ∀ k∈s.2,0 <= k /\ k<(i:Int)
theorem IW {l:List I4} {i:Nat} {s s':List Int×List Int} (hv:aj7 l i s) (h:kg l i s=some s'):aj7 l (i+1) s':=by
 obtain ⟨h1,h2,h3⟩:=hv
 unfold kg at h
 split at h
 ·split at h
  ·cases h
  ·rename_i hn
   injection h with h;subst h
   refine ⟨h1,?_,?_⟩
   ·simp only [List.length_append,List.length_cons,List.length_nil];omega
   ·intro k hk
    rcases List.mem_append.1 hk with hk | hk
    ·have:=h3 k hk;omega
    ·have:=List.mem_singleton.1 hk;omega
 ·split at h
  ·split at h
   ·cases h
   ·split at h
    ·cases h
    ·injection h with h;subst h
     refine ⟨by rw [Mk];exact h1,?_,?_⟩
     ·simp only [List.length_dropLast];omega
     ·intro k hk
      have:=h3 k ((List.dropLast_sublist _).subset hk);omega
  ·injection h with h;subst h
   exact ⟨h1,h2,fun k hk=>by have:=h3 k hk;omega⟩
def afl (l:List I4) (i:Nat) (same:List (PN Bool 24×Int)):Prop :=
 (∀ key v,jB (Am 24 .bool) (.int .i64) key same=some v -> ∃ j:Nat,j<i /\ v=(j:Int) /\ (AI l).getD j z24=key) /\
 ∀ j,j<i -> ∃ v,jB (Am 24 .bool) (.int .i64) ((AI l).getD j z24) same=some v
def DZ (l:List I4) (i:Nat) (same:List (PN Bool 24×Int)):List (PN Bool 24×Int) :=
 bif !(Ut (Am 24 .bool) (.int .i64) ((AI l).getD i z24) same) then vL (Am 24 .bool) (.int .i64) ((AI l).getD i z24) (i:Int) same else same
theorem abX {l:List I4} {i:Nat} {same:List (PN Bool 24×Int)} (h:afl l i same):afl l (i+1) (DZ l i same):=by
 obtain ⟨h1,h2⟩:=h
 unfold DZ Ut
 cases hl:jB (Am 24 .bool) (.int .i64) ((AI l).getD i z24) same with
 | some v =>
  simp only [isNone,Bool.not_false,Bool.not_true,cond_false]
  refine ⟨fun key v hk=>?_,fun j hj=>?_⟩
  ·obtain ⟨j,h3,h4⟩:=h1 key v hk
   exact ⟨j,by omega,h4⟩
  ·by_cases e:j=i
   ·subst e;exact ⟨v,hl⟩
   ·exact h2 j (by omega)
 | none =>
  simp only [isNone,Bool.not_true,Bool.not_false,cond_true]
  refine ⟨fun key v hk=>?_,fun j hj=>?_⟩
  ·rw [AX (AU 24)] at hk
   split at hk
   ·rename_i hb
    injection hk with hk
    exact ⟨i,by omega,hk.symm,((AU 24 _ _).1 hb).symm⟩
   ·obtain ⟨j,h3,h4⟩:=h1 key v hk
    exact ⟨j,by omega,h4⟩
  ·rw [AX (AU 24)]
   split
   ·exact ⟨_,rfl⟩
   ·rename_i hb
    by_cases e:j=i
    ·subst e;exact absurd ((AU 24 _ _).2 rfl) hb
    ·exact h2 j (by omega)
theorem aqZ {l:List I4} (hl:l.length <= 24) {i k n:Nat} {same:List (PN Bool 24×Int)} (h:afl l n same) (hi:i<n) (hk:k<n) (hn:n <= l.length) :
  (Us (Am 24 .bool) (.int .i64) ((AI l).getD k z24) same 0 != Us (Am 24 .bool) (.int .i64) ((AI l).getD i z24) same 0)=FM l k i:=by
 obtain ⟨h1,h2⟩:=h
 obtain ⟨v,hv⟩:=h2 k hk
 obtain ⟨w,hw⟩:=h2 i hi
 obtain ⟨a,ha,rfl,ha2⟩:=h1 _ _ hv
 obtain ⟨b,hb,rfl,hb2⟩:=h1 _ _ hw
 unfold Us
 rw [hv,hw]
 have:=aqY hl (i:=k) (j:=i) (by omega) (by omega)
 cases hs:FM l k i with
 | false =>
  have e:=this.2 hs
  rw [e,hw] at hv
  injection hv with hv
  simp [hv]
 | true =>
  simp only [bne_iff_ne,ne_eq]
  intro e
  have e:(a:Int)=(b:Int):=e
  have e:a=b:=by omega
  subst e
  rw [ha2] at hb2
  rw [this.1 hb2] at hs
  cases hs
theorem Vj {k:Nat} (hk:1000 <= k) {l:List I4} (hl:l.length <= 24):∀ (m i j:Nat) (s:List Int×List Int) (same:List (PN Bool 24×Int)),i+m=l.length -> m<j -> aj7 l i s -> afl l i same ->
  L9 k j l s.1 s.2 same (AI l) (AI l) (l.length:Int) i=afk (match vv l m i s with | some (out,[])=>some out | _=>none)
 | 0,i,j,s,same,h,hj,hv,hm=>by
  obtain ⟨j',rfl⟩:∃ j',j=j'+1:=⟨j - 1,by omega⟩
  obtain ⟨out,open_⟩:=s
  rw [Ze,Wx,Sd (by omega)]
  cases open_ with
  | nil=>rfl
  | cons x r=>rw [Sc (by simp only [List.length_cons];omega)];rfl
 | m+1,i,j,s,same,h,hj,hv,hm=>by
  obtain ⟨j',rfl⟩:∃ j',j=j'+1:=⟨j - 1,by omega⟩
  have hi:i<l.length:=by omega
  have hm':=abX hm
  have ih:=Vj hk hl m (i+1) j'
  have key:L9 k (j'+1) l s.1 s.2 same (AI l) (AI l) (l.length:Int) i=QA k (fun l_1 out open_ same all t20 t21 t22=>L9 k j' l_1 out open_ same all t20 t21 t22) l s.1 s.2 (DZ l i same) (AI l) (i:Int)
   ((AI l).getD i z24).1 ((AI l).getD i z24).2.1 ((AI l).getD i z24).2.2.1 ((AI l).getD i z24).2.2.2.1 ((AI l).getD i z24).2.2.2.2.1 ((AI l).getD i z24).2.2.2.2.2.1 ((AI l).getD i z24).2.2.2.2.2.2.1 ((AI l).getD i z24).2.2.2.2.2.2.2.1 ((AI l).getD i z24).2.2.2.2.2.2.2.2.1 ((AI l).getD i z24).2.2.2.2.2.2.2.2.2.1 ((AI l).getD i z24).2.2.2.2.2.2.2.2.2.2.1 ((AI l).getD i z24).2.2.2.2.2.2.2.2.2.2.2.1 ((AI l).getD i z24).2.2.2.2.2.2.2.2.2.2.2.2.1 ((AI l).getD i z24).2.2.2.2.2.2.2.2.2.2.2.2.2.1 ((AI l).getD i z24).2.2.2.2.2.2.2.2.2.2.2.2.2.2.1 ((AI l).getD i z24).2.2.2.2.2.2.2.2.2.2.2.2.2.2.2.1 ((AI l).getD i z24).2.2.2.2.2.2.2.2.2.2.2.2.2.2.2.2.1 ((AI l).getD i z24).2.2.2.2.2.2.2.2.2.2.2.2.2.2.2.2.2.1 ((AI l).getD i z24).2.2.2.2.2.2.2.2.2.2.2.2.2.2.2.2.2.2.1 ((AI l).getD i z24).2.2.2.2.2.2.2.2.2.2.2.2.2.2.2.2.2.2.2.1 ((AI l).getD i z24).2.2.2.2.2.2.2.2.2.2.2.2.2.2.2.2.2.2.2.2.1 ((AI l).getD i z24).2.2.2.2.2.2.2.2.2.2.2.2.2.2.2.2.2.2.2.2.2.1 ((AI l).getD i z24).2.2.2.2.2.2.2.2.2.2.2.2.2.2.2.2.2.2.2.2.2.2.1 ((AI l).getD i z24).2.2.2.2.2.2.2.2.2.2.2.2.2.2.2.2.2.2.2.2.2.2.2 (AI l) (l.length:Int) (i:Int):=by
   rw [Ze,Wx,Sc (by omega),Qo (by rw [Y0];omega),Qp]
   unfold DZ
   cases Ut (Am 24 .bool) (.int .i64) ((AI l).getD i z24) same <;> rfl
  rw [key,QA]
  obtain ⟨out,open_⟩:=s
  obtain ⟨hv1,hv2,hv3⟩:=hv
  simp only at hv1 hv2 hv3 ⊢
  rw [Qo hi,Qp,vv]
  cases h9:(l.getD i i0).1==9 with
  | true =>
   have h9':=eq_of_beq h9
   by_cases h2:2 <= open_.length
   ·have:kg l i (out,open_)=none:=by unfold kg;rw [if_pos h9',if_pos (.inl h2)]
    rw [this,cond_true,Sc (by omega)];rfl
   ·rw [cond_true,Sd (by omega),aj4 hk (by omega) (fun k hk=>by have:=hv3 k hk;omega) (by omega),Option.bind_some]
    cases hs:NS l open_ i with
    | true =>
     have:kg l i (out,open_)=none:=by unfold kg;rw [if_pos h9',if_pos (.inr hs)]
     rw [this];rfl
    | false =>
     have hp:kg l i (out,open_)=some (out,open_++[(i:Int)]):=by unfold kg;rw [if_pos h9',if_neg (by rw [hs];simp;omega)]
     have:=ih (out,open_++[(i:Int)]) (DZ l i same) (by omega) (by omega) (IW ⟨hv1,hv2,hv3⟩ hp) hm'
     rw [hp,Option.bind_some,<- this]
     simp only [cond_false]
     rw [Rz (by simp only [List.length_cons,List.length_nil];omega),Mi (by omega)]
  | false =>
   have h9':(l.getD i i0).1≠9:=by intro e;rw [e] at h9;cases h9
   simp only [cond_false]
   cases h10:(l.getD i i0).1==10 with
   | true =>
    have agN:=eq_of_beq h10
    simp only [cond_true]
    have hstep:kg l i (out,open_)=(match open_.getLast? with
     | none=>none
     | some k=>if (rd l k i0).2.1≠(l.getD i i0).2.1 \/ FM l k.toNat i=true then none else some (upd out k i,open_.dropLast)):=by
     unfold kg;rw [if_neg h9',if_pos agN]
    rw [Uu (by omega) (by omega)]
    rcases List.eq_nil_or_concat open_ with rfl | ⟨r,x,rfl⟩
    ·rw [hstep];rfl
    ·rw [List.concat_eq_append] at *
     have hlast:(r++[x]).getLast? = some x:=by simp
     rw [hlast] at hstep
     have hx:=hv3 x (by simp)
     obtain ⟨n,rfl⟩:∃ n:Nat,x=(n:Int):=⟨x.toNat,by omega⟩
     have hlen:(((r++[(n:Int)]).length:Int) - 1)=(r.length:Int):=by simp only [List.length_append,List.length_cons,List.length_nil];omega
     have hrd:rd (r++[(n:Int)]) (r.length:Int) 0=(n:Int):=by rw [Qp,List.getD_eq_getElem?_getD];simp
     rw [hlen,Sd (by omega),Lj (by omega) (by simp only [List.length_append,List.length_cons,List.length_nil];omega),hrd,Qo (by omega),Qo hi,Qp]
     simp only [Qp,Int.toNat_natCast] at hstep
     cases hA:(l.getD n i0).2.1 != (l.getD i i0).2.1 with
     | true =>
      have hp:kg l i (out,r++[(n:Int)])=none:=by rw [hstep];exact if_pos (.inl (by simpa using hA))
      rw [hp];rfl
     | false =>
      rw [cond_false,Lj (by omega) (by simp only [List.length_append,List.length_cons,List.length_nil];omega),Qo (by rw [Y0];omega),Qp]
      have hmp:=aqZ hl hm' (i:=i) (k:=n) (by omega) (by omega) (by omega)
      have hA':¬ (l.getD n i0).2.1≠(l.getD i i0).2.1:=by simpa using hA
      rw [show (Us (Am 24 .bool) (.int .i64) ((AI l).getD n z24) (DZ l i same) 0 != Us (Am 24 .bool) (.int .i64) (((AI l).getD i z24).1,((AI l).getD i z24).2) (DZ l i same) 0)=FM l n i from hmp]
      cases hs:FM l n i with
      | true =>
       have hp:kg l i (out,r++[(n:Int)])=none:=by rw [hstep];exact if_pos (.inr hs)
       rw [hp];rfl
      | false =>
       have hp:kg l i (out,r++[(n:Int)])=some (upd out (n:Int) (i:Int),r):=by rw [hstep];refine (if_neg ?_).trans (by simp);rintro (h | h);exact hA' h;rw [show FM l n i=true from h] at hs;cases hs
       have:=ih (upd out (n:Int) (i:Int),r) (DZ l i same) (by omega) (by omega) (IW ⟨hv1,hv2,hv3⟩ hp) hm'
       rw [hp,Option.bind_some,<- this,cond_false,Lj (by omega) (by simp only [List.length_append,List.length_cons,List.length_nil];omega),Qo (by omega),Rx (by omega) (by omega) (by simp only [List.length_append,List.length_cons,List.length_nil];omega),Mi (by omega)]
       have:(r++[(n:Int)]).take (r.length:Int).toNat=r:=by simp
       rw [this]
   | false =>
    have agN:(l.getD i i0).1≠10:=by intro e;rw [e] at h10;cases h10
    have hp:kg l i (out,open_)=some (out,open_):=by unfold kg;rw [if_neg h9',if_neg agN]
    have:=ih (out,open_) (DZ l i same) (by omega) (by omega) (IW ⟨hv1,hv2,hv3⟩ hp) hm'
    rw [hp,Option.bind_some,<- this,cond_false,Mi (by omega)]
theorem afm {k:Nat} (hk:1000 <= k) {l:List I4} (hl:l.length <= 24):ahU k l=afk (prs l):=by
 unfold ahU
 rw [Ry (by omega) (by omega),afj hk hl,Option.bind_some]
 have:=Vj hk hl l.length 0 k (List.replicate l.length 0,[]) [] (by omega) (by omega) ⟨by simp,by simp,by simp⟩ ⟨fun key v h=>by simp [jB] at h,fun j h=>absurd h (by omega)⟩
 unfold prs
 rw [<- this]
 have:(AI l).length=l.length:=Y0 l
 unfold AI at this ⊢
 simp only [this,Int.toNat_natCast]
 rfl
def NV (l:List I4) (ps:List Int) (i:Nat):Bool:=(l.getD i i0).1==11&&((mh 0 l).any (fun p=>ow p i)||(ps.take i).any (fun e=>decide (e>(i:Int))))
def xg (l:List I4):Bool :=
 decide (1 <= l.length)&&(decide (l.length <= 24)&&(!l.any (fun i=>!kr i)&&(qb (fun i=>i.1==0) l==(l.length:Int) - 1 &&
  (nest ((l.length:Int) - 1) (mh 0 l) (mh 0 l) (List.replicate l.length 0) &&
  (match prs l with | none=>false | some ps=>!K6 (NV l ps) l.length 0)))))
theorem aaT {l:List I4}:∀ (m i:Nat) (s s':List Int×List Int),vv l m i s=some s' -> s'.1.length=s.1.length
 | 0,i,s,s',h=>by injection h with h;subst h;rfl
 | m+1,i,s,s',h=>by
  rw [vv,Option.bind_eq_some_iff] at h
  obtain ⟨t,h1,h2⟩:=h
  rw [aaT m (i+1) t s' h2]
  unfold kg at h1
  split at h1
  ·split at h1
   ·cases h1
   ·injection h1 with h1;subst h1;rfl
  ·split at h1
   ·split at h1
    ·cases h1
    ·split at h1
     ·cases h1
     ·injection h1 with h1;subst h1;simp only [Mk]
   ·injection h1 with h1;subst h1;rfl
theorem abY {l:List I4} {ps:List Int} (h:prs l=some ps):vv l l.length 0 (List.replicate l.length 0,[])=some (ps,[]):=by
 unfold prs at h
 split at h
 ·rename_i out hg;injection h with h;subst h;exact hg
 ·cases h
theorem P9 {l:List I4} {ps:List Int} (h:prs l=some ps):ps.length=l.length:=by
 have:=aaT _ _ _ _ (abY h)
 simpa using this
theorem abZ {k:Nat} (hk:1000 <= k) {l:List I4} (hl:l.length <= 24) {ps:List Int} (hp:ps.length=l.length) :
  DT k k ps (AI l) l (l.length:Int) 0=some ((!K6 (NV l ps) l.length 0,()),()):=by
 have:=XY (L:=fun j i=>DT k j ps (AI l) l (l.length:Int) i) (n:=l.length) (NV l ps) (some ((false,()),())) (some ((true,()),())) (fun j i hi=>by
  show DT k (j+1) ps (AI l) l (l.length:Int) (i:Int)=_
  rw [UJ,OI,Sc (by omega),Qo hi,Qp,Mi (by omega)]
  unfold NV
  cases h11:(l.getD i i0).1==11 with
  | false =>
   have:((l.getD i i0).1 != 11)=true:=by simp only [bne,h11];rfl
   rw [this];rfl
  | true =>
   have:((l.getD i i0).1 != 11)=false:=by simp only [bne,h11];rfl
   rw [this,cond_false,Qo (by rw [Y0];exact hi),Qp]
   have hz:fC (Am 24 .bool) ((AI l).getD i z24) z24 = !(mh 0 l).any (fun p=>ow p i):=by
    have h1:=amA hl hi
    have h2:=AU 24 ((AI l).getD i z24) z24
    cases hb:fC (Am 24 .bool) ((AI l).getD i z24) z24 with
    | true=>rw [h1.1 (h2.1 hb)];rfl
    | false =>
     cases ha:(mh 0 l).any (fun p=>ow p i) with
     | true=>rfl
     | false=>rw [h2.2 (h1.2 ha)] at hb;cases hb
   have hz':fC (Am 24 .bool) ((AI l).getD i z24) (false,false,false,false,false,false,false,false,false,false,false,false,false,false,false,false,false,false,false,false,false,false,false,false) = !(mh 0 l).any (fun p=>ow p i):=hz
   rw [hz']
   cases ha:(mh 0 l).any (fun p=>ow p i) with
   | true=>rfl
   | false =>
    simp only [Bool.not_false,Bool.not_true,cond_false,Bool.false_or,Bool.true_and]
    rw [Rx (by omega) (by omega) (by omega)]
    have:sub ps 0 (i:Int)=ps.take i:=by simp [sub]
    rw [this,aj3 hk (by simp;omega),Option.bind_some])
  (fun j=>by
   show DT k (j+1) ps (AI l) l (l.length:Int) (l.length:Int)=_
   rw [UJ,OI,Sd (by omega)]) l.length 0 k (by omega) (by omega)
 refine Eq.trans this ?_
 cases K6 (NV l ps) l.length 0 <;> rfl
theorem Y1 {k:Nat} (hk:1000 <= k) {l:List I4} (hl:l.length <= 900):agj k l=some ((xg l,()),()):=by
 unfold agj xg
 by_cases h1:1 <= l.length
 ·rw [Sd (by omega),decide_eq_true h1]
  by_cases h2:l.length <= 24
  ·rw [Sd (by omega),decide_eq_true h2,apH hk hl,Option.bind_some]
   cases h3:l.any (fun i=>!kr i) with
   | true=>rfl
   | false =>
    simp only [cond_false]
    rw [aj2 hk hl,Option.bind_some,Uu (by omega) (by omega)]
    cases h4:qb (fun i=>i.1==0) l==(l.length:Int) - 1 with
    | false=>simp only [bne,h4];rfl
    | true =>
     simp only [bne,h4,Bool.not_true,cond_false]
     rw [amy hk hl,Option.bind_some,Uu (by omega) (by omega)]
     cases h5:nest ((l.length:Int) - 1) (mh 0 l) (mh 0 l) (List.replicate l.length 0) with
     | false=>rfl
     | true =>
      simp only [Bool.not_true,cond_false]
      rw [afm hk h2]
      cases h6:prs l with
      | none=>rfl
      | some ps =>
       simp only [afk,Option.bind_some,Bool.not_true,cond_false]
       rw [afj hk h2,Option.bind_some]
       have:=abZ hk h2 (P9 h6)
       unfold AI at this
       rw [this];rfl
  ·rw [Sc (by omega),decide_eq_false h2];rfl
 ·rw [Sc (by omega),decide_eq_false h1];rfl
abbrev a0:fq:=(0,0,0,false)
def wd (x:I4):Nat:=(bif x.1==8 then x.2.2.1 else bif x.1==7 then x.2.2.2 else 0).toNat
def isA (x:I4):Bool:=x.1==8||x.1==7
theorem afn (v a b:Int):zo v a b=true↔a <= v /\ v <= b:=by simp [zo]
theorem ab0 {x:I4} (h:kr x=true) (e:x.1=8):x.2.1=0 /\ (1 <= x.2.2.1 /\ x.2.2.1 <= 24) /\ 1 <= x.2.2.2 /\ x.2.2.2 <= 20:=by
 simpa [kr,e,afn] using h
theorem asa {x:I4} (h:kr x=true) (e:x.1=7):(0 <= x.2.1 /\ x.2.1<8) /\ x.2.2.1=0 /\ 1 <= x.2.2.2 /\ x.2.2.2 <= 24:=by
 simpa [kr,e,afn,CK] using h
theorem ug {x:I4} (h:isA x=false):wd x=0:=by
 simp only [isA,Bool.or_eq_false_iff] at h
 simp [wd,h.1,h.2]
theorem yh {x:I4} (h:kr x=true) (ha:isA x=true):1 <= wd x /\ wd x <= 24 /\ (x.1=8 -> x.2.2.1=(wd x:Int)) /\ (x.1=7 -> x.2.2.2=(wd x:Int)):=by
 simp only [isA,Bool.or_eq_true,beq_iff_eq] at ha
 rcases ha with e | e
 ·have:=ab0 h e
  have w:wd x=x.2.2.1.toNat:=by simp [wd,e]
  rw [w];refine ⟨by omega,by omega,fun _=>by omega,fun e2=>by omega⟩
 ·have:=asa h e
  have w:wd x=x.2.2.2.toNat:=by simp [wd,e]
  rw [w];refine ⟨by omega,by omega,fun e2=>by omega,fun _=>by omega⟩
def l9 (i:Nat) (x:I4):fq:=(((i+1:Nat):Int),((i+wd x:Nat):Int),(i:Int),x.1==8)
theorem IX {x:I4} (h:kr x=true) {i:Nat} (hi:i <= 9000):pc i x=if isA x=true then [l9 i x] else []:=by
 unfold pc
 cases h8:x.1==8 with
 | true =>
  have e:=eq_of_beq h8
  have ha:isA x=true:=by simp [isA,e]
  have:=yh h ha
  rw [if_pos ha,cond_true,this.2.2.1 e,Uu (by omega) (by omega),l9,h8]
  congr 3
 | false =>
  cases h7:x.1==7 with
  | true =>
   have e:=eq_of_beq h7
   have ha:isA x=true:=by simp [isA,e]
   have:=yh h ha
   rw [if_pos ha,cond_true,cond_false,this.2.2.2 e,Uu (by omega) (by omega),l9,h8]
   congr 3
  | false =>
   rw [if_neg (by simp [isA,h8,h7])];rfl
theorem l6:∀ (l:List I4) (i:Nat) (p:fq),(∀ x∈l,kr x=true) -> i+l.length <= 9000 -> (p∈mh i l↔∃ n,n<l.length /\ isA (l.getD n i0)=true /\ p=l9 (i+n) (l.getD n i0))
 | [],i,p,_,_=>by simp [mh]
 | x::r,i,p,hm,hl=>by
  simp only [List.length_cons] at hl
  rw [mh,List.mem_append,IX (hm x List.mem_cons_self) (by omega),l6 r (i+1) p (fun y hy=>hm y (List.mem_cons_of_mem _ hy)) (by omega)]
  constructor
  ·rintro (h | ⟨n,h1,h2,h3⟩)
   ·split at h
    ·rename_i ha
     have:=List.mem_singleton.1 h
     exact ⟨0,by simp,by simpa using ha,by simpa using this⟩
    ·cases h
   ·exact ⟨n+1,by simp only [List.length_cons];omega,by simpa using h2,by rw [List.getD_cons_succ,h3];congr 1;omega⟩
  ·rintro ⟨n,h1,h2,h3⟩
   cases n with
   | zero =>
    rw [List.getD_cons_zero] at h2 h3
    left;rw [if_pos h2];exact List.mem_singleton.2 h3
   | succ n =>
    rw [List.getD_cons_succ] at h2 h3
    right;exact ⟨n,by simp only [List.length_cons] at h1;omega,h2,by rw [h3];congr 1;omega⟩
def gq (j:Int) (ps:List fq):Nat:=ps.countP (fun p=>p.2.2.2&&ow p j)
theorem Vk:∀ (m i:Nat) (ar:List Int) (j:Nat),i+m <= ar.length -> (bumps ar i m).getD j 0=if i <= j /\ j<i+m then IntKind.i64.wrap (ar.getD j 0+1) else ar.getD j 0
 | 0,i,ar,j,_=>by rw [bumps,if_neg (by omega)]
 | m+1,i,ar,j,h=>by
  rw [bumps,Vk m (i+1) _ j (by simp only [List.length_set];omega),nk]
  by_cases e:i=j
  ·subst e
   rw [if_neg (by omega),if_pos ⟨rfl,by omega⟩,if_pos (by omega)]
  ·rw [if_neg (fun h:i=j /\ j<ar.length=>e h.1)]
   by_cases e2:i+1 <= j /\ j<i+1+m
   ·rw [if_pos e2,if_pos (by omega)]
   ·rw [if_neg e2,if_neg (by omega)]
theorem RI {len:Nat} {all:List fq} (hlen:len <= 900):∀ (ps:List fq) (ar:List Int),ar.length=len -> (∀ p∈ps,p.1=p.2.2.1+1 /\ 0 <= p.2.2.1 /\ p.1 <= p.2.1) -> (∀ j,j<len -> 0 <= ar.getD j 0 /\ ar.getD j 0+ps.length <= 900) ->
  (nest ((len:Int) - 1) all ps ar=true↔(∀ p∈ps,p.2.1<(len:Int) - 1 /\ all.any (I8 p)=false) /\ ∀ j,j<len -> ar.getD j 0+(gq j ps:Int) <= 2)
 | [],ar,ha,_,_=>by
  rw [nest,Bool.not_eq_true',List.any_eq_false]
  constructor
  ·intro h
   refine ⟨fun p hp=>(by cases hp),fun j hj=>?_⟩
   have:=h _ (jh (z:=0) (l:=ar) (i:=j) (by omega))
   simp only [gq,List.countP_nil]
   have:=of_decide_eq_false (Bool.not_eq_true _ ▸ this)
   omega
  ·rintro ⟨_,h⟩ x hx
   obtain ⟨j,hj,rfl⟩:=CY 0 hx
   have:=h j (by omega)
   simp only [gq,List.countP_nil] at this
   rw [Bool.not_eq_true]
   exact decide_eq_false (by omega)
 | p::r,ar,ha,hp,hb=>by
  rw [nest]
  have hp1:=hp p List.mem_cons_self
  by_cases h1:p.2.1≥(len:Int) - 1
  ·rw [Sc h1]
   exact ⟨fun h=>(by cases h),fun h=>absurd (h.1 p List.mem_cons_self).1 (by omega)⟩
  ·rw [Sd h1]
   cases h2:all.any (I8 p) with
   | true=>exact ⟨fun h=>(by cases h),fun h=>(by rw [(h.1 p List.mem_cons_self).2] at h2;cases h2)⟩
   | false =>
    rw [cond_false]
    have hget:∀ j,j<len -> (bif p.2.2.2 then bumps ar p.1.toNat (p.2.1+1 - p.1).toNat else ar).getD j 0=ar.getD j 0+(if (p.2.2.2&&ow p j)=true then 1 else 0):=by
     intro j hj
     cases h3:p.2.2.2 with
     | false=>simp
     | true =>
      rw [cond_true,Vk _ _ _ _ (by omega)]
      have:=hb j hj
      simp only [List.length_cons] at this
      by_cases h4:ow p j=true
      ·have h5:p.1 <= (j:Int) /\ (j:Int) <= p.2.1:=by simpa [ow] using h4
       rw [if_pos (by omega),if_pos (by simp [h4]),Uu (by omega) (by omega)]
      ·have h5:¬ (p.1 <= (j:Int) /\ (j:Int) <= p.2.1):=by simpa [ow] using h4
       rw [if_neg (by omega),if_neg (by simp [h4])];omega
    have wD:(bif p.2.2.2 then bumps ar p.1.toNat (p.2.1+1 - p.1).toNat else ar).length=len:=by
     cases p.2.2.2
     ·exact ha
     ·rw [cond_true,ME];exact ha
    rw [RI hlen r _ wD (fun q hq=>hp q (List.mem_cons_of_mem _ hq)) (fun j hj=>by
     rw [hget j hj]
     have:=hb j hj
     simp only [List.length_cons] at this
     split <;> omega)]
    constructor
    ·rintro ⟨h3,h4⟩
     refine ⟨fun q hq=>?_,fun j hj=>?_⟩
     ·rcases List.mem_cons.1 hq with rfl | hq
      ·exact ⟨by omega,h2⟩
      ·exact h3 q hq
     ·have:=h4 j hj
      rw [hget j hj] at this
      rw [gq,List.countP_cons]
      rw [gq] at this
      cases h5:(p.2.2.2&&ow p j) <;> simp only [h5,if_true,Bool.false_eq_true,if_false] at this ⊢ <;> omega
    ·rintro ⟨h3,h4⟩
     refine ⟨fun q hq=>h3 q (List.mem_cons_of_mem _ hq),fun j hj=>?_⟩
     have:=h4 j hj
     rw [hget j hj]
     rw [gq,List.countP_cons] at this
     rw [gq]
     cases h5:(p.2.2.2&&ow p j) <;> simp only [h5,if_true,Bool.false_eq_true,if_false] at this ⊢ <;> omega
structure BI (l:List I4) (ps:List Int):Prop where
 len1:1 <= l.length
 len2:l.length <= 24
 may:∀ x∈l,kr x=true
 end_ : ∀ i, i < l.length -> ((l.getD i i0).1 = 0 ↔ i + 1 = l.length)
 last:∀ p∈mh 0 l,p.2.1<(l.length:Int) - 1
 bad:∀ p∈mh 0 l,∀ q∈mh 0 l,I8 p q=false
 bodies:∀ j,j<l.length -> gq (j:Int) (mh 0 l) <= 2
 pairs:prs l=some ps
 marks:∀ i,i<l.length -> (l.getD i i0).1=11 -> (mh 0 l).any (fun p=>ow p i)=false /\ ∀ k,k<i -> ps.getD k 0 <= (i:Int)
theorem Vl {l:List I4} (hm:∀ x∈l,kr x=true) (hl:l.length <= 900) {p:fq} (hp:p∈mh 0 l):p.1=p.2.2.1+1 /\ 0 <= p.2.2.1 /\ p.1 <= p.2.1 /\ p.2.2.1<(l.length:Int):=by
 obtain ⟨n,h1,h2,rfl⟩:=(l6 l 0 p hm (by omega)).1 hp
 have:=yh (hm _ (jh h1)) h2
 simp only [l9]
 omega
theorem afo {l:List I4}:l.any (fun i=>!kr i)=false↔∀ x∈l,kr x=true:=by
 rw [List.any_eq_false]
 exact ⟨fun h x hx=>by simpa using h x hx,fun h x hx=>by simp [h x hx]⟩
theorem afp {l:List I4} (h1:1 <= l.length):(qb (fun i=>i.1==0) l==(l.length:Int) - 1)=true↔∀ i,i<l.length -> ((l.getD i i0).1=0↔i+1=l.length):=by
 rw [beq_iff_eq]
 unfold qb
 cases h:l.findIdx? (fun i=>i.1==0) with
 | none =>
  rw [List.findIdx?_eq_none_iff] at h
  constructor
  ·intro e;simp only at e;omega
  ·intro e
   have e1:=(e (l.length - 1) (by omega)).2 (by omega)
   have:=h _ (jh (z:=i0) (l:=l) (i:=l.length - 1) (by omega))
   rw [e1] at this
   exact absurd this (by decide)
 | some n =>
  rw [List.findIdx?_eq_some_iff_getElem] at h
  obtain ⟨hn,hn1,hn2⟩:=h
  simp only
  constructor
  ·intro e i hi
   have:n+1=l.length:=by omega
   constructor
   ·intro e2
    by_cases hlt:i<n
    ·have:=hn2 i hlt
     rw [getD_in hi] at e2
     simp [e2] at this
    ·omega
   ·intro e2
    have:i=n:=by omega
    subst this
    rw [getD_in hi];simpa using hn1
  ·intro e
   have:=(e n hn).1 (by rw [getD_in hn];simpa using hn1)
   omega
theorem RJ {l:List I4} {ps:List Int} (hp:ps.length=l.length):K6 (NV l ps) l.length 0=false↔∀ i,i<l.length -> (l.getD i i0).1=11 -> (mh 0 l).any (fun p=>ow p i)=false /\ ∀ k,k<i -> ps.getD k 0 <= (i:Int):=by
 rw [qy]
 constructor
 ·intro h i hi e
  have:=h i (by omega) (by omega)
  unfold NV at this
  simp only [e,beq_self_eq_true,Bool.true_and,Bool.or_eq_false_iff] at this
  refine ⟨this.1,fun k hk=>?_⟩
  have h2:=this.2
  rw [List.any_eq_false] at h2
  have h3:ps.getD k 0∈ps.take i:=by
   rw [getD_in (by omega),List.mem_take_iff_getElem]
   exact ⟨k,by omega,rfl⟩
  have:=h2 _ h3
  simp only [decide_eq_true_eq] at this
  omega
 ·intro h i _ hi
  unfold NV
  cases h11:(l.getD i i0).1==11 with
  | false=>rfl
  | true =>
   obtain ⟨h1,h2⟩:=h i (by omega) (eq_of_beq h11)
   rw [h1,Bool.true_and,Bool.false_or,List.any_eq_false]
   intro x hx
   rw [List.mem_take_iff_getElem] at hx
   obtain ⟨k,hk,rfl⟩:=hx
   have:=h2 k (by omega)
   rw [getD_in (by omega)] at this
   simp only [decide_eq_true_eq]
   omega
theorem K7 {l:List I4}:xg l=true↔∃ ps,BI l ps:=by
 unfold xg
 simp only [Bool.and_eq_true,decide_eq_true_eq,Bool.not_eq_true']
 constructor
 ·rintro ⟨h1,h2,h3,h4,h5,h6⟩
  have h3:=afo.1 h3
  have hpl:=GK l 0
  cases hps:prs l with
  | none=>rw [hps] at h6;cases h6
  | some ps =>
   rw [hps] at h6
   simp only [Bool.not_eq_true'] at h6
   have h5:=(RI (all:=mh 0 l) (by omega) (mh 0 l) (List.replicate l.length 0) (by simp) (fun p hp=>by have:=Vl h3 (by omega) hp;omega) (fun j hj=>by
    rw [List.getD_eq_getElem?_getD,List.getElem?_replicate,if_pos hj];simp;omega)).1 h5
   exact ⟨ps,⟨h1,h2,h3,(afp h1).1 h4,fun p hp=>(h5.1 p hp).1,fun p hp q hq=>by
    have:=(h5.1 p hp).2
    rw [List.any_eq_false] at this
    simpa using this q hq,fun j hj=>by
    have:=h5.2 j hj
    rw [List.getD_eq_getElem?_getD,List.getElem?_replicate,if_pos hj] at this
    simp at this;omega,hps,(RJ (P9 hps)).1 h6⟩⟩
 ·rintro ⟨ps,g⟩
  have hpl:=GK l 0
  have:=g.len2
  refine ⟨g.len1,g.len2,afo.2 g.may,(afp g.len1).2 g.end_,?_,?_⟩
  ·refine (RI (all:=mh 0 l) (by omega) (mh 0 l) (List.replicate l.length 0) (by simp) (fun p hp=>by have:=Vl g.may (by omega) hp;omega) (fun j hj=>by
    rw [List.getD_eq_getElem?_getD,List.getElem?_replicate,if_pos hj];simp;omega)).2 ⟨fun p hp=>⟨g.last p hp,?_⟩,fun j hj=>?_⟩
   ·rw [List.any_eq_false];intro q hq;simp [g.bad p hp q hq]
   ·rw [List.getD_eq_getElem?_getD,List.getElem?_replicate,if_pos hj]
    have:=g.bodies j hj
    simp;omega
  ·rw [g.pairs]
   simp only [Bool.not_eq_true']
   exact (RJ (P9 g.pairs)).2 g.marks
theorem aj8 {p:fq} (h:p.1=p.2.2.1+1 /\ p.1 <= p.2.1):I8 p p=false:=by
 unfold I8 inA apA ow
 have e1:decide (p.1 <= p.2.2.1)=false:=decide_eq_false (by omega)
 have e2:decide (p.1 <= p.1)=true:=decide_eq_true (by omega)
 have e3:decide (p.1 <= p.2.1)=true:=decide_eq_true (by omega)
 have e4:decide (p.2.1 <= p.2.1)=true:=decide_eq_true (by omega)
 rw [e1,e2,e3,e4];simp
inductive Tr where
 | nil
 | one (x:I4) (r:Tr)
 | lk (a:Int) (b r:Tr)
 | ar (x:I4) (b r:Tr)
namespace Tr
def flat:Tr -> List I4
 | nil=>[]
 | one x r=>x::flat r
 | lk a b r=>(9,a,0,0)::(flat b++((10,a,0,0)::flat r))
 | ar x b r=>x::(flat b++flat r)
def len:Tr -> Nat
 | nil=>0
 | one _ r=>len r+1
 | lk _ b r=>len b+len r+2
 | ar _ b r=>len b+len r+1
theorem jo:∀ t:Tr,t.flat.length=t.len
 | nil=>rfl
 | one x r=>by simp only [flat,len,List.length_cons,jo r]
 | lk a b r=>by simp only [flat,len,List.length_cons,List.length_append,jo b,jo r];omega
 | ar x b r=>by simp only [flat,len,List.length_cons,List.length_append,jo b,jo r]
def plain (x:I4):Prop:=x.1≠0 /\ x.1≠7 /\ x.1≠8 /\ x.1≠9 /\ x.1≠10
def Ok:Nat -> List Int -> Bool -> Tr -> Prop
 | _,_,_,nil=>True
 | d,hs,ia,one x r=>kr x=true /\ plain x /\ (x.1=11 -> ia=false /\ hs=[]) /\ Ok d hs ia r
 | d,hs,ia,lk a b r=>(0 <= a /\ a <= 3) /\ (a ∉ hs /\ hs.length<2) /\ Ok d (hs++[a]) ia b /\ Ok d hs ia r
 | d,hs,ia,ar x b r=>(kr x=true /\ isA x=true /\ wd x=b.len) /\ (x.1=8 -> d<2) /\ Ok (bif x.1==8 then d+1 else d) hs true b /\ Ok d hs ia r
def app:Tr -> Tr -> Tr
 | nil,u=>u
 | one x r,u=>one x (app r u)
 | lk a b r,u=>lk a b (app r u)
 | ar x b r,u=>ar x b (app r u)
theorem zq:∀ (t u:Tr),(app t u).flat=t.flat++u.flat
 | nil,u=>rfl
 | one x r,u=>by simp only [app,flat,zq r u,List.cons_append]
 | lk a b r,u=>by simp only [app,flat,zq r u,List.cons_append,List.append_assoc]
 | ar x b r,u=>by simp only [app,flat,zq r u,List.cons_append,List.append_assoc]
theorem PE (t u:Tr):(app t u).len=t.len+u.len:=by rw [<- jo,zq,List.length_append,jo,jo]
theorem MI {d:Nat} {hs:List Int} {ia:Bool}:∀ {t u:Tr},Ok d hs ia t -> Ok d hs ia u -> Ok d hs ia (app t u)
 | nil,u,_,h=>h
 | one x r,u,⟨h1,h2,h3,h4⟩,h=>⟨h1,h2,h3,MI h4 h⟩
 | lk a b r,u,⟨h1,h2,h3,h4⟩,h=>⟨h1,h2,h3,MI h4 h⟩
 | ar x b r,u,⟨h1,h2,h3,h4⟩,h=>⟨h1,h2,h3,MI h4 h⟩
end Tr
open Tr
theorem PG {x:I4} (h:plain x):isA x=false:=by
 obtain ⟨_,h7,h8,_⟩:=h
 simp [isA,h7,h8]
theorem aj9 {a:Int} (h:0 <= a /\ a <= 3):kr (9,a,0,0)=true:=by simp [kr,zo,h]
theorem akb {a:Int} (h:0 <= a /\ a <= 3):kr (10,a,0,0)=true:=by simp [kr,zo,h]
theorem MJ:∀ {t:Tr} {d:Nat} {hs:List Int} {ia:Bool},Ok d hs ia t -> ∀ x∈t.flat,kr x=true
 | .nil,_,_,_,_,x,hx=>by cases hx
 | .one y r,_,_,_,⟨h1,_,_,h4⟩,x,hx=>by
  rcases List.mem_cons.1 hx with rfl | hx
  ·exact h1
  ·exact MJ h4 x hx
 | .lk a b r,_,_,_,⟨h1,_,h3,h4⟩,x,hx=>by
  rcases List.mem_cons.1 hx with rfl | hx
  ·exact aj9 h1
  ·rcases List.mem_append.1 hx with hx | hx
   ·exact MJ h3 x hx
   ·rcases List.mem_cons.1 hx with rfl | hx
    ·exact akb h1
    ·exact MJ h4 x hx
 | .ar y b r,_,_,_,⟨h1,_,h3,h4⟩,x,hx=>by
  rcases List.mem_cons.1 hx with rfl | hx
  ·exact h1.1
  ·rcases List.mem_append.1 hx with hx | hx
   ·exact MJ h3 x hx
   ·exact MJ h4 x hx
theorem Vm:∀ {t:Tr} {d:Nat} {hs:List Int} {ia:Bool},Ok d hs ia t -> ∀ x∈t.flat,x.1≠0
 | .nil,_,_,_,_,x,hx=>by cases hx
 | .one y r,_,_,_,⟨_,h2,_,h4⟩,x,hx=>by
  rcases List.mem_cons.1 hx with rfl | hx
  ·exact h2.1
  ·exact Vm h4 x hx
 | .lk a b r,_,_,_,⟨_,_,h3,h4⟩,x,hx=>by
  rcases List.mem_cons.1 hx with rfl | hx
  ·exact (by decide:(9:Int)≠0)
  ·rcases List.mem_append.1 hx with hx | hx
   ·exact Vm h3 x hx
   ·rcases List.mem_cons.1 hx with rfl | hx
    ·exact (by decide:(10:Int)≠0)
    ·exact Vm h4 x hx
 | .ar y b r,_,_,_,⟨h1,_,h3,h4⟩,x,hx=>by
  rcases List.mem_cons.1 hx with rfl | hx
  ·intro e;have:=h1.2.1;simp [isA,e] at this
  ·rcases List.mem_append.1 hx with hx | hx
   ·exact Vm h3 x hx
   ·exact Vm h4 x hx
theorem E5:∀ (u w:List I4) (o:Nat),mh o (u++w)=mh o u++mh (o+u.length) w
 | [],w,o=>by simp [mh]
 | x::u,w,o=>by
  simp only [List.cons_append,mh,List.append_assoc,List.length_cons]
  rw [E5 u w (o+1),show o+1+u.length=o+(u.length+1) by omega]
theorem GN {x:I4} (h1:kr x=true) (h2:isA x=false) {o:Nat} (r:List I4) (ho:o <= 9000):mh o (x::r)=mh (o+1) r:=by
 rw [mh,IX h1 ho,if_neg (by simp [h2])];rfl
theorem akc {x:I4} (h1:kr x=true) (h2:isA x=true) {o:Nat} (r:List I4) (ho:o <= 9000):mh o (x::r)=l9 o x::mh (o+1) r:=by
 rw [mh,IX h1 ho,if_pos h2];rfl
theorem PI {x:I4} {r:Tr} (h1:kr x=true) (h2:plain x) {o:Nat} (ho:o <= 9000):mh o (Tr.one x r).flat=mh (o+1) r.flat:=GN h1 (PG h2) _ ho
theorem Y2 {a:Int} {b r:Tr} (h1:0 <= a /\ a <= 3) {o:Nat} (ho:o+b.len+1 <= 9000):mh o (Tr.lk a b r).flat=mh (o+1) b.flat++mh (o+b.len+2) r.flat:=by
 rw [Tr.flat,GN (aj9 h1) rfl _ (by omega),E5,jo,GN (akb h1) rfl _ (by omega),show o+1+b.len+1=o+b.len+2 by omega]
theorem Y3 {x:I4} {b r:Tr} (h1:kr x=true) (h2:isA x=true) {o:Nat} (ho:o <= 9000):mh o (Tr.ar x b r).flat=l9 o x::(mh (o+1) b.flat++mh (o+b.len+1) r.flat):=by
 rw [Tr.flat,akc h1 h2 _ ho,E5,jo,show o+1+b.len=o+b.len+1 by omega]
theorem qc:∀ {t:Tr} {d:Nat} {hs:List Int} {ia:Bool} {o:Nat},Ok d hs ia t -> o+t.len <= 9000 -> ∀ p∈mh o t.flat,(o:Int)<p.1 /\ p.1=p.2.2.1+1 /\ p.1 <= p.2.1 /\ p.2.1<((o+t.len:Nat):Int)
 | .nil,_,_,_,_,_,_,p,hp=>by simp [Tr.flat,mh] at hp
 | .one x r,_,_,_,o,⟨h1,h2,_,h4⟩,ho,p,hp=>by
  simp only [Tr.len] at ho ⊢
  rw [PI h1 h2 (by omega)] at hp
  have:=qc h4 (by omega) p hp
  omega
 | .lk a b r,_,_,_,o,⟨h1,_,h3,h4⟩,ho,p,hp=>by
  simp only [Tr.len] at ho ⊢
  rw [Y2 h1 (by omega)] at hp
  rcases List.mem_append.1 hp with hp | hp
  ·have:=qc h3 (by omega) p hp;omega
  ·have:=qc h4 (by omega) p hp;omega
 | .ar x b r,_,_,_,o,⟨⟨h1,h2,h3⟩,_,h5,h6⟩,ho,p,hp=>by
  simp only [Tr.len] at ho ⊢
  rw [Y3 h1 h2 (by omega)] at hp
  rcases List.mem_cons.1 hp with rfl | hp
  ·have:=yh h1 h2
   simp only [l9];omega
  ·rcases List.mem_append.1 hp with hp | hp
   ·have:=qc h5 (by omega) p hp;omega
   ·have:=qc h6 (by omega) p hp;omega
theorem GQ {p q:fq} (hp:p.1=p.2.2.1+1 /\ p.1 <= p.2.1) (hq:q.1=q.2.2.1+1 /\ q.1 <= q.2.1) (h:p.2.1<q.1 - 1 \/ q.2.1<p.1 - 1):I8 p q=false:=by
 unfold I8 inA apA ow
 rw [<- Bool.not_eq_true]
 simp only [Bool.or_eq_true,Bool.and_eq_true,Bool.not_eq_true',decide_eq_true_eq,Bool.or_eq_false_iff,Bool.and_eq_false_iff,decide_eq_false_iff_not]
 omega
theorem akd {p q:fq} (hp:p.1=p.2.2.1+1 /\ p.1 <= p.2.1) (hq:q.1=q.2.2.1+1 /\ q.1 <= q.2.1) (h:q.1 <= p.1 - 1 /\ p.2.1 <= q.2.1):I8 p q=false /\ I8 q p=false:=by
 unfold I8 inA apA ow
 rw [<- Bool.not_eq_true,<- Bool.not_eq_true]
 simp only [Bool.or_eq_true,Bool.and_eq_true,Bool.not_eq_true',decide_eq_true_eq,Bool.or_eq_false_iff,Bool.and_eq_false_iff,decide_eq_false_iff_not]
 omega
theorem MK:∀ {t:Tr} {d:Nat} {hs:List Int} {ia:Bool} {o:Nat},Ok d hs ia t -> o+t.len <= 9000 -> ∀ p∈mh o t.flat,∀ q∈mh o t.flat,I8 p q=false
 | .nil,_,_,_,_,_,_,p,hp=>by simp [Tr.flat,mh] at hp
 | .one x r,_,_,_,o,⟨h1,h2,_,h4⟩,ho,p,hp=>by
  simp only [Tr.len] at ho
  rw [PI h1 h2 (by omega)] at hp ⊢
  exact MK h4 (by omega) p hp
 | .lk a b r,_,_,_,o,⟨h1,_,h3,h4⟩,ho,p,hp=>by
  simp only [Tr.len] at ho
  rw [Y2 h1 (by omega)] at hp ⊢
  intro q hq
  rcases List.mem_append.1 hp with hp | hp <;> rcases List.mem_append.1 hq with hq | hq
  ·exact MK h3 (by omega) p hp q hq
  ·have:=qc h3 (by omega) p hp;have:=qc h4 (by omega) q hq
   exact GQ (by omega) (by omega) (by omega)
  ·have:=qc h4 (by omega) p hp;have:=qc h3 (by omega) q hq
   exact GQ (by omega) (by omega) (by omega)
  ·exact MK h4 (by omega) p hp q hq
 | .ar x b r,_,_,_,o,⟨⟨h1,h2,h3⟩,_,h5,h6⟩,ho,p,hp=>by
  simp only [Tr.len] at ho
  rw [Y3 h1 h2 (by omega)] at hp ⊢
  intro q hq
  have hw:=yh h1 h2
  have e1:(l9 o x).1=((o+1:Nat):Int):=rfl
  have e2:(l9 o x).2.1=((o+wd x:Nat):Int):=rfl
  have e3:(l9 o x).2.2.1=(o:Int):=rfl
  rcases List.mem_cons.1 hp with rfl | hp <;> rcases List.mem_cons.1 hq with rfl | hq
  ·exact aj8 (by omega)
  ·rcases List.mem_append.1 hq with hq | hq
   ·have:=qc h5 (by omega) q hq
    exact (akd (by omega) (by omega) (by omega)).2
   ·have:=qc h6 (by omega) q hq
    exact GQ (by omega) (by omega) (by omega)
  ·rcases List.mem_append.1 hp with hp | hp
   ·have:=qc h5 (by omega) p hp
    exact (akd (by omega) (by omega) (by omega)).1
   ·have:=qc h6 (by omega) p hp
    exact GQ (by omega) (by omega) (by omega)
  ·rcases List.mem_append.1 hp with hp | hp <;> rcases List.mem_append.1 hq with hq | hq
   ·exact MK h5 (by omega) p hp q hq
   ·have:=qc h5 (by omega) p hp;have:=qc h6 (by omega) q hq
    exact GQ (by omega) (by omega) (by omega)
   ·have:=qc h6 (by omega) p hp;have:=qc h5 (by omega) q hq
    exact GQ (by omega) (by omega) (by omega)
   ·exact MK h6 (by omega) p hp q hq
theorem ou {p:fq} {j:Int}:ow p j=true↔p.1 <= j /\ j <= p.2.1:=by simp [ow]
theorem ML (j:Int) (a b:List fq):gq j (a++b)=gq j a+gq j b:=List.countP_append
theorem PK {j:Int} {a:List fq} (h:∀ p∈a,¬ (p.1 <= j /\ j <= p.2.1)):gq j a=0:=by
 rw [gq,List.countP_eq_zero]
 intro p hp
 rw [Bool.not_eq_true,Bool.and_eq_false_iff]
 right
 rw [<- Bool.not_eq_true,ou]
 exact h p hp
theorem y9:∀ {t:Tr} {d:Nat} {hs:List Int} {ia:Bool} {o:Nat},Ok d hs ia t -> o+t.len <= 9000 -> d <= 2 -> ∀ j:Int,gq j (mh o t.flat)+d <= 2
 | .nil,_,_,_,_,_,_,hd,j=>by simp [Tr.flat,mh,gq];exact hd
 | .one x r,_,_,_,o,⟨h1,h2,_,h4⟩,ho,hd,j=>by
  simp only [Tr.len] at ho
  rw [PI h1 h2 (by omega)]
  exact y9 h4 (by omega) hd j
 | .lk a b r,_,_,_,o,⟨h1,_,h3,h4⟩,ho,hd,j=>by
  simp only [Tr.len] at ho
  rw [Y2 h1 (by omega),ML]
  have i1:=y9 (o:=o+1) h3 (by omega) hd j
  have i2:=y9 (o:=o+b.len+2) h4 (by omega) hd j
  by_cases hj:j<((o+1+b.len:Nat):Int)
  ·rw [PK (a:=mh (o+b.len+2) r.flat) (fun p hp=>by have:=qc h4 (by omega) p hp;omega)];omega
  ·rw [PK (a:=mh (o+1) b.flat) (fun p hp=>by have:=qc h3 (by omega) p hp;omega)];omega
 | .ar x b r,d,_,_,o,⟨⟨h1,h2,h3⟩,h4,h5,h6⟩,ho,hd,j=>by
  simp only [Tr.len] at ho
  have hw:=yh h1 h2
  rw [Y3 h1 h2 (by omega),show ∀ a:fq,∀ l,a::l=[a]++l from fun _ _=>rfl,ML,ML]
  have i2:=y9 (o:=o+b.len+1) h6 (by omega) hd j
  have e:gq j [l9 o x]=if (x.1==8&&ow (l9 o x) j)=true then 1 else 0:=by
   rw [gq,List.countP_cons,List.countP_nil];simp [l9]
  by_cases hj:j<((o+1+b.len:Nat):Int)
  ·rw [PK (a:=mh (o+b.len+1) r.flat) (fun p hp=>by have:=qc h6 (by omega) p hp;omega),e]
   cases h8:x.1==8 with
   | true =>
    have:=h4 (eq_of_beq h8)
    have i1:=y9 (o:=o+1) h5 (by omega) (by rw [h8,cond_true];omega) j
    rw [h8,cond_true] at i1
    split <;> omega
   | false =>
    have i1:=y9 (o:=o+1) h5 (by omega) (by rw [h8,cond_false];omega) j
    rw [h8,cond_false] at i1
    simp only [Bool.false_and,Bool.false_eq_true,if_false]
    omega
  ·rw [PK (a:=mh (o+1) b.flat) (fun p hp=>by have:=qc h5 (by omega) p hp;omega),e,if_neg]
   ·omega
   ·rw [Bool.and_eq_true,ou]
    have e1:(l9 o x).2.1=((o+wd x:Nat):Int):=rfl
    omega
open Tr
def At (l:List I4) (o:Nat) (w:List I4):Prop:=o+w.length <= l.length /\ ∀ j,j<w.length -> l.getD (o+j) i0=w.getD j i0
theorem l7 {l:List I4} {o:Nat} {x:I4} {w:List I4} (h:At l o (x::w)):o<l.length /\ l.getD o i0=x /\ At l (o+1) w:=by
 obtain ⟨h1,h2⟩:=h
 simp only [List.length_cons] at h1 h2
 refine ⟨by omega,by simpa using h2 0 (by omega),by omega,fun j hj=>?_⟩
 have:=h2 (j+1) (by omega)
 rw [List.getD_cons_succ] at this
 rw [<- this];congr 1;omega
theorem za {l:List I4} {o:Nat} {u w:List I4} (h:At l o (u++w)):At l o u /\ At l (o+u.length) w:=by
 obtain ⟨h1,h2⟩:=h
 simp only [List.length_append] at h1 h2
 refine ⟨⟨by omega,fun j hj=>?_⟩,by omega,fun j hj=>?_⟩
 ·rw [h2 j (by omega),ny hj]
 ·rw [show o+u.length+j=o+(u.length+j) by omega,h2 _ (by omega),j6 (by omega)]
  congr 1;omega
theorem amB (l:List I4):At l 0 l:=⟨by omega,fun j _=>by rw [Nat.zero_add]⟩
def EX:Tr -> Nat -> List Int -> List Int
 | .nil,_,out=>out
 | .one _ r,o,out=>EX r (o+1) out
 | .lk _ b r,o,out=>EX r (o+b.len+2) ((EX b (o+1) out).set o ((o+b.len+1:Nat):Int))
 | .ar _ b r,o,out=>EX r (o+b.len+1) (EX b (o+1) out)
theorem E8:∀ (t:Tr) (o:Nat) (out:List Int),(EX t o out).length=out.length
 | .nil,_,_=>rfl
 | .one _ r,o,out=>by rw [EX,E8 r]
 | .lk _ b r,o,out=>by rw [EX,E8 r,List.length_set,E8 b]
 | .ar _ b r,o,out=>by rw [EX,E8 r,E8 b]
theorem yj:∀ (t:Tr) (o:Nat) (out:List Int) (k:Nat),k<o \/ o+t.len <= k -> (EX t o out).getD k 0=out.getD k 0
 | .nil,_,_,_,_=>rfl
 | .one _ r,o,out,k,h=>by simp only [Tr.len] at h;rw [EX,yj r _ _ k (by omega)]
 | .lk _ b r,o,out,k,h=>by
  simp only [Tr.len] at h
  rw [EX,yj r _ _ k (by omega),nk,if_neg (by omega),yj b _ _ k (by omega)]
 | .ar _ b r,o,out,k,h=>by
  simp only [Tr.len] at h
  rw [EX,yj r _ _ k (by omega),yj b _ _ k (by omega)]
theorem IY:∀ (t:Tr) (o:Nat) (out:List Int) (k:Nat) (m:Nat),o+t.len <= m -> out.getD k 0<(m:Int) -> (EX t o out).getD k 0<(m:Int)
 | .nil,_,_,_,_,_,h=>h
 | .one _ r,o,out,k,m,h1,h2=>by simp only [Tr.len] at h1;rw [EX];exact IY r _ _ k m (by omega) h2
 | .lk _ b r,o,out,k,m,h1,h2=>by
  simp only [Tr.len] at h1
  rw [EX]
  refine IY r _ _ k m (by omega) ?_
  rw [nk]
  split
  ·omega
  ·exact IY b _ _ k m (by omega) h2
 | .ar _ b r,o,out,k,m,h1,h2=>by
  simp only [Tr.len] at h1
  rw [EX]
  exact IY r _ _ k m (by omega) (IY b _ _ k m (by omega) h2)
def asb (l:List I4) (o len:Nat):Prop:=∀ n,n<o -> o+len <= n+wd (l.getD n i0)+1 \/ n+wd (l.getD n i0)<o
theorem IK:∀ {t:Tr} {d:Nat} {hs:List Int} {ia:Bool} {l:List I4} {o:Nat},Ok d hs ia t -> At l o t.flat -> ∀ n,o <= n -> n<o+t.len -> n+wd (l.getD n i0)<o+t.len
 | .nil,_,_,_,_,_,_,_,n,h1,h2=>by simp only [Tr.len] at h2;omega
 | .one x r,_,_,_,l,o,⟨h1,h2,_,h4⟩,ha,n,hn1,hn2=>by
  simp only [Tr.len] at hn2 ⊢
  obtain ⟨a1,a2,a3⟩:=l7 ha
  by_cases e:n=o
  ·subst e;rw [a2,ug (PG h2)];omega
  ·have:=IK h4 a3 n (by omega) (by omega);omega
 | .lk a b r,_,_,_,l,o,⟨h1,_,h3,h4⟩,ha,n,hn1,hn2=>by
  simp only [Tr.len] at hn2 ⊢
  obtain ⟨a1,a2,a3⟩:=l7 ha
  obtain ⟨a4,a5⟩:=za a3
  obtain ⟨a6,a7,a8⟩:=l7 a5
  rw [jo] at a6 a7 a8
  by_cases e:n=o
  ·subst e;rw [a2,ug rfl];omega
  ·by_cases e2:n<o+1+b.len
   ·have:=IK h3 a4 n (by omega) (by omega);omega
   ·by_cases e3:n=o+1+b.len
    ·subst e3;rw [a7,ug rfl];omega
    ·have:=IK h4 a8 n (by omega) (by omega);omega
 | .ar x b r,_,_,_,l,o,⟨⟨h1,h2,h3⟩,_,h5,h6⟩,ha,n,hn1,hn2=>by
  simp only [Tr.len] at hn2 ⊢
  obtain ⟨a1,a2,a3⟩:=l7 ha
  obtain ⟨a4,a5⟩:=za a3
  rw [jo] at a5
  by_cases e:n=o
  ·subst e;rw [a2,h3];omega
  ·by_cases e2:n<o+1+b.len
   ·have:=IK h5 a4 n (by omega) (by omega);omega
   ·have:=IK h6 a5 n (by omega) (by omega);omega
theorem GR {l:List I4} (hm:∀ x∈l,kr x=true) (hl:l.length <= 900) {i j:Nat}:FM l i j=false↔∀ n,n<l.length -> isA (l.getD n i0)=true -> ((n<i /\ i <= n+wd (l.getD n i0))↔(n<j /\ j <= n+wd (l.getD n i0))):=by
 unfold FM
 rw [List.any_eq_false]
 have hh:∀ (n k:Nat),ow (l9 n (l.getD n i0)) (k:Int)=true↔n<k /\ k <= n+wd (l.getD n i0):=fun n k=>by
  rw [ou];simp only [l9];omega
 constructor
 ·intro h n hn ha
  have:=h (l9 n (l.getD n i0)) ((l6 l 0 _ hm (by omega)).2 ⟨n,hn,ha,by rw [Nat.zero_add]⟩)
  simp only [bne_iff_ne,ne_eq,Decidable.not_not] at this
  rw [Bool.eq_iff_iff,hh,hh] at this
  exact this
 ·intro h p hp
  obtain ⟨n,hn,ha,rfl⟩:=(l6 l 0 p hm (by omega)).1 hp
  rw [Nat.zero_add]
  simp only [bne_iff_ne,ne_eq,Decidable.not_not]
  rw [Bool.eq_iff_iff,hh,hh]
  exact h n hn ha
theorem AY {l:List I4} (hm:∀ x∈l,kr x=true) (hl:l.length <= 900):∀ {t:Tr} {d:Nat} {hs:List Int} {ia:Bool} {o:Nat} (m:Nat) (out open_:List Int),Ok d hs ia t -> At l o t.flat -> asb l o t.len -> open_.map (fun k=>(rd l k i0).2.1)=hs -> (∀ k∈open_,0 <= k /\ k<(o:Int)) ->
  vv l (t.len+m) o (out,open_)=vv l m (o+t.len) (EX t o out,open_)
 | .nil,_,_,_,_,m,out,open_,_,_,_,_,_=>by simp only [Tr.len,Nat.zero_add,Nat.add_zero,EX]
 | .one x r,_,_,_,o,m,out,open_,⟨h1,h2,_,h4⟩,ha,ho,hs,hk=>by
  simp only [Tr.len] at ho ⊢
  obtain ⟨a1,a2,a3⟩:=l7 ha
  rw [show r.len+1+m=(r.len+m)+1 by omega,vv]
  have hp:kg l o (out,open_)=some (out,open_):=by
   unfold kg;rw [a2,if_neg h2.2.2.2.1,if_neg h2.2.2.2.2]
  rw [hp,Option.bind_some,AY hm hl m out open_ h4 a3 (fun n hn=>by
   by_cases e:n=o
   ·subst e;right;rw [a2,ug (PG h2)];omega
   ·have:=ho n (by omega);omega) hs (fun k hk'=>by have:=hk k hk';omega),EX]
  congr 1;omega
 | .lk a b r,_,hs,_,o,m,out,open_,⟨h1,h2,h3,h4⟩,ha,ho,hhs,hk=>by
  simp only [Tr.len] at ho ⊢
  obtain ⟨a1,a2,a3⟩:=l7 ha
  obtain ⟨a4,a5⟩:=za a3
  obtain ⟨a6,a7,a8⟩:=l7 a5
  rw [jo] at a6 a7 a8
  have hlen:open_.length=hs.length:=by rw [<- hhs,List.length_map]
  have hsame:NS l open_ o=false:=by
   unfold NS
   rw [List.any_eq_false]
   intro k hk'
   rw [Qp,a2]
   have:(rd l k i0).2.1∈hs:=by rw [<- hhs];exact List.mem_map.2 ⟨k,hk',rfl⟩
   intro e
   have e:=eq_of_beq e
   simp only at e
   rw [e] at this
   exact h2.1 this
  have hp:kg l o (out,open_)=some (out,open_++[(o:Int)]):=by
   unfold kg
   rw [a2,if_pos rfl,if_neg]
   rintro (h | h)
   ·simp only at h;omega
   ·rw [show NS l open_ (o:Int)=true from h] at hsame;cases hsame
  rw [show b.len+r.len+2+m=(b.len+(r.len+m+1))+1 by omega,vv,hp,Option.bind_some]
  rw [AY hm hl (r.len+m+1) out (open_++[(o:Int)]) h3 a4 (fun n hn=>by
   by_cases e:n=o
   ·subst e;right;rw [a2,ug rfl];omega
   ·have:=ho n (by omega);omega) (by rw [List.map_append,hhs,List.map_cons,List.map_nil,Qp,a2]) (fun k hk'=>by
   rcases List.mem_append.1 hk' with hk' | hk'
   ·have:=hk k hk';omega
   ·have:=List.mem_singleton.1 hk';omega)]
  have hsep:FM l o (o+1+b.len:Nat)=false:=by
   rw [GR hm hl]
   intro n hn hA
   by_cases e:n<o
   ·have:=ho n e;omega
   ·by_cases e2:n=o
    ·subst e2;rw [a2] at hA;exact absurd hA (by simp [isA])
    ·by_cases e3:n<o+1+b.len
     ·have:=IK h3 a4 n (by omega) e3;omega
     ·omega
  have hp2:kg l (o+1+b.len) (EX b (o+1) out,open_++[(o:Int)])=some ((EX b (o+1) out).set o ((o+b.len+1:Nat):Int),open_):=by
   unfold kg
   rw [a7,if_neg (by simp),if_pos rfl,show (EX b (o+1) out,open_++[(o:Int)]).2.getLast? = some (o:Int) by simp]
   simp only
   rw [if_neg]
   ·simp only [List.dropLast_concat,Mj]
    congr 3;congr 1;omega
   ·rintro (h | h)
    ·rw [Qp,a2] at h;exact h rfl
    ·rw [show FM l (((o:Int).toNat:Nat):Int) ((o+1+b.len:Nat):Int)=false from hsep] at h;cases h
  rw [vv,hp2,Option.bind_some,show o+1+b.len+1=o+b.len+2 by omega]
  rw [show o+1+b.len+1=o+b.len+2 by omega] at a8
  rw [AY hm hl m _ open_ h4 a8 (fun n hn=>by
   by_cases e:n<o
   ·have:=ho n e;omega
   ·by_cases e2:n=o
    ·subst e2;right;rw [a2,ug rfl];omega
    ·by_cases e3:n<o+1+b.len
     ·have:=IK h3 a4 n (by omega) e3;omega
     ·have:n=o+1+b.len:=by omega
      subst this;right;rw [a7,ug rfl];omega) hhs (fun k hk'=>by have:=hk k hk';omega),EX]
  congr 1;omega
 | .ar x b r,_,hs,_,o,m,out,open_,⟨⟨h1,h2,h3⟩,_,h5,h6⟩,ha,ho,hhs,hk=>by
  simp only [Tr.len] at ho ⊢
  obtain ⟨a1,a2,a3⟩:=l7 ha
  obtain ⟨a4,a5⟩:=za a3
  rw [jo] at a5
  have h9:x.1≠9:=fun e=>by simp [isA,e] at h2
  have h10:x.1≠10:=fun e=>by simp [isA,e] at h2
  have hp:kg l o (out,open_)=some (out,open_):=by
   unfold kg;rw [a2,if_neg h9,if_neg h10]
  rw [show b.len+r.len+1+m=(b.len+(r.len+m))+1 by omega,vv,hp,Option.bind_some]
  rw [AY hm hl (r.len+m) out open_ h5 a4 (fun n hn=>by
   by_cases e:n=o
   ·subst e;left;rw [a2,h3];omega
   ·have:=ho n (by omega);omega) hhs (fun k hk'=>by have:=hk k hk';omega)]
  rw [show o+1+b.len=o+b.len+1 by omega] at a5 ⊢
  rw [AY hm hl m _ open_ h6 a5 (fun n hn=>by
   by_cases e:n<o
   ·have:=ho n e;omega
   ·by_cases e2:n=o
    ·subst e2;right;rw [a2,h3];omega
    ·have:=IK h5 a4 n (by omega) (by omega);omega) hhs (fun k hk'=>by have:=hk k hk';omega),EX]
  congr 1;omega
theorem E9:∀ {t:Tr} {d:Nat} {hs:List Int} {ia:Bool} {l:List I4} {o:Nat},Ok d hs ia t -> At l o t.flat -> ∀ i,o <= i -> i<o+t.len -> (l.getD i i0).1=11 -> ia=false /\ hs=[] /\ (∀ n,o <= n -> n<i -> n+wd (l.getD n i0)<i) /\ ∀ (out:List Int) (k:Nat),o <= k -> k<i -> out.getD k 0<(i:Int) -> (EX t o out).getD k 0<(i:Int)
 | .nil,_,_,_,_,_,_,_,i,h1,h2,_=>by simp only [Tr.len] at h2;omega
 | .one x r,_,_,_,l,o,⟨h1,h2,h3,h4⟩,ha,i,hi1,hi2,he=>by
  simp only [Tr.len] at hi2
  obtain ⟨a1,a2,a3⟩:=l7 ha
  by_cases e:i=o
  ·subst e;rw [a2] at he
   exact ⟨(h3 he).1,(h3 he).2,fun n _ _=>by omega,fun _ k _ _=>by omega⟩
  ·obtain ⟨i1,i2,i3,i4⟩:=E9 h4 a3 i (by omega) (by omega) he
   refine ⟨i1,i2,fun n hn1 hn2=>?_,fun out k hk1 hk2 hk3=>?_⟩
   ·by_cases e2:n=o
    ·subst e2;rw [a2,ug (PG h2)];omega
    ·exact i3 n (by omega) hn2
   ·rw [EX]
    by_cases e2:k=o
    ·rw [yj r _ _ k (by omega)];exact hk3
    ·exact i4 out k (by omega) hk2 hk3
 | .lk a b r,_,hs,_,l,o,⟨h1,_,h3,h4⟩,ha,i,hi1,hi2,he=>by
  simp only [Tr.len] at hi2
  obtain ⟨a1,a2,a3⟩:=l7 ha
  obtain ⟨a4,a5⟩:=za a3
  obtain ⟨a6,a7,a8⟩:=l7 a5
  rw [jo] at a6 a7 a8
  by_cases e:i=o
  ·subst e;rw [a2] at he;exact absurd he (by decide:(9:Int)≠11)
  ·by_cases e2:i<o+1+b.len
   ·have:=(E9 h3 a4 i (by omega) e2 he).2.1
    simp at this
   ·by_cases e3:i=o+1+b.len
    ·subst e3;rw [a7] at he;exact absurd he (by decide:(10:Int)≠11)
    ·obtain ⟨i1,i2,i3,i4⟩:=E9 h4 a8 i (by omega) (by omega) he
     refine ⟨i1,i2,fun n hn1 hn2=>?_,fun out k hk1 hk2 hk3=>?_⟩
     ·by_cases f1:n=o
      ·subst f1;rw [a2,ug rfl];omega
      ·by_cases f2:n<o+1+b.len
       ·have:=IK h3 a4 n (by omega) f2;omega
       ·by_cases f3:n=o+1+b.len
        ·subst f3;rw [a7,ug rfl];omega
        ·exact i3 n (by omega) hn2
     ·rw [EX,show o+b.len+2=o+1+b.len+1 by omega]
      have key:((EX b (o+1) out).set o ((o+b.len+1:Nat):Int)).getD k 0<(i:Int):=by
       rw [nk]
       split
       ·omega
       ·exact IY b _ _ k i (by omega) hk3
      by_cases f:o+1+b.len+1 <= k
      ·exact i4 _ k f hk2 key
      ·rw [yj r _ _ k (by omega)];exact key
 | .ar x b r,_,_,_,l,o,⟨⟨h1,h2,h3⟩,_,h5,h6⟩,ha,i,hi1,hi2,he=>by
  simp only [Tr.len] at hi2
  obtain ⟨a1,a2,a3⟩:=l7 ha
  obtain ⟨a4,a5⟩:=za a3
  rw [jo] at a5
  by_cases e:i=o
  ·subst e;rw [a2] at he;simp [isA,he] at h2
  ·by_cases e2:i<o+1+b.len
   ·have:=(E9 h5 a4 i (by omega) e2 he).1
    cases this
   ·obtain ⟨i1,i2,i3,i4⟩:=E9 h6 a5 i (by omega) (by omega) he
    refine ⟨i1,i2,fun n hn1 hn2=>?_,fun out k hk1 hk2 hk3=>?_⟩
    ·by_cases f1:n=o
     ·subst f1;rw [a2,h3];omega
     ·by_cases f2:n<o+1+b.len
      ·have:=IK h5 a4 n (by omega) f2;omega
      ·exact i3 n (by omega) hn2
    ·rw [EX,show o+b.len+1=o+1+b.len by omega]
     have key:(EX b (o+1) out).getD k 0<(i:Int):=IY b _ _ k i (by omega) hk3
     by_cases f:o+1+b.len <= k
     ·exact i4 _ k f hk2 key
     ·rw [yj r _ _ k (by omega)];exact key
def Tr.prog (t:Tr):List I4:=t.flat++[i0]
theorem u7 (t:Tr):t.prog.length=t.len+1:=by unfold Tr.prog;rw [List.length_append,jo];rfl
theorem aaU {t:Tr} (h:Ok 0 [] false t):∀ x∈t.prog,kr x=true:=by
 intro x hx
 rcases List.mem_append.1 hx with hx | hx
 ·exact MJ h x hx
 ·rw [List.mem_singleton.1 hx];rfl
theorem GU (t:Tr):At t.prog 0 t.flat:=(za (amB t.prog)).1
theorem CZ (t:Tr):t.prog.getD t.len i0=i0:=by
 unfold Tr.prog
 rw [j6 (by rw [jo];omega),jo,Nat.sub_self];rfl
theorem aaV {t:Tr} (hl:t.len <= 900):mh 0 t.prog=mh 0 t.flat:=by
 unfold Tr.prog
 rw [E5,GN rfl rfl _ (by rw [jo];omega)]
 simp [mh]
theorem Vn {t:Tr} (h:Ok 0 [] false t) (hl:t.len<24):BI t.prog (EX t 0 (List.replicate (t.len+1) 0)):=by
 have hm:=aaU h
 have hpl:=u7 t
 have hpc:=aaV (t:=t) (by omega)
 have hin:=fun p hp=>qc (o:=0) h (by omega) p hp
 have asc:prs t.prog=some (EX t 0 (List.replicate (t.len+1) 0)):=by
  have:=AY hm (by omega) (o:=0) 1 (List.replicate t.prog.length 0) [] h (GU t) (fun n hn=>by omega) rfl (fun k hk=>by cases hk)
  unfold prs
  rw [hpl] at this ⊢
  rw [this,vv,Nat.zero_add]
  unfold kg
  rw [CZ,if_neg (by decide),if_neg (by decide)]
  rfl
 refine ⟨by omega,by omega,hm,fun i hi=>?_,fun p hp=>?_,fun p hp q hq=>?_,fun j hj=>?_,asc,fun i hi e=>⟨?_,fun k hk=>?_⟩⟩
 ·by_cases e:i<t.len
  ·have:(t.prog.getD i i0).1≠0:=by
    unfold Tr.prog
    rw [ny (by rw [jo];exact e)]
    exact Vm h _ (jh (by rw [jo];exact e))
   exact ⟨fun h=>absurd h this,fun h=>by omega⟩
  ·have:i=t.len:=by omega
   subst this
   rw [CZ]
   exact ⟨fun _=>by omega,fun _=>rfl⟩
 ·rw [hpc] at hp
  have:=hin p hp;omega
 ·rw [hpc] at hp hq
  exact MK h (by omega) p hp q hq
 ·rw [hpc]
  have:=y9 (o:=0) h (by omega) (by omega) (j:Int);omega
 ·have hlt:i<t.len:=by
   by_cases e2:i<t.len
   ·exact e2
   ·have:i=t.len:=by omega
    subst this;rw [CZ] at e;exact absurd e (by decide)
  obtain ⟨_,_,i3,_⟩:=E9 h (GU t) i (by omega) (by omega) e
  rw [List.any_eq_false]
  intro p hp
  obtain ⟨n,hn,ha,rfl⟩:=(l6 t.prog 0 p hm (by omega)).1 hp
  rw [ou]
  simp only [l9]
  rintro ⟨h1,h2⟩
  have:=i3 n (by omega) (by omega)
  omega
 ·have hlt:i<t.len:=by
   by_cases e2:i<t.len
   ·exact e2
   ·have:i=t.len:=by omega
    subst this;rw [CZ] at e;exact absurd e (by decide)
  obtain ⟨_,_,_,i4⟩:=E9 h (GU t) i (by omega) (by omega) e
  have:=i4 (List.replicate (t.len+1) 0) k (by omega) hk (by
   rw [List.getD_eq_getElem?_getD,List.getElem?_replicate];split <;> simp <;> omega)
  omega
def xk (p:List Int) (n:Int):Prop:=(p.length <= 1000 /\ 0 <= n /\ n <= (p.length:Int)) /\ ∀ x∈p,0 <= x /\ x <= 255
theorem lg (k:Nat) {p:List Int} {n m:Int} (h:xk p n) (hm:0<m):∃ v n',zn k p n m=some ((v,()),(p,n',()),()) /\ (0 <= v /\ v<m) /\ xk p n':=by
 obtain ⟨⟨h1,h2,h3⟩,h4⟩:=h
 unfold zn
 by_cases e:n≥(p.length:Int)
 ·rw [Sc e];exact ⟨0,n,rfl,by omega,⟨h1,h2,h3⟩,h4⟩
 ·rw [Sd e,Uu (n:=n+1) (by omega) (by omega),show n+1 - 1=n by omega,Uu (n:=n) (by omega) (by omega),Lj h2 (by omega),Sb (by omega)]
  obtain ⟨j,rfl⟩:∃ j:Nat,n=(j:Int):=⟨n.toNat,by omega⟩
  rw [Qp]
  have:=h4 _ (jh (z:=0) (l:=p) (i:=j) (by omega))
  rw [Uu (by omega) (by omega)]
  exact ⟨_,_,rfl,⟨Int.tmod_nonneg _ this.1,Int.tmod_lt_of_pos _ hm⟩,⟨h1,by omega,by omega⟩,h4⟩
theorem mem3 {a:Int} (h:0 <= a /\ a<3):CK a=true:=by simp [CK];omega
theorem Y4 (k:Nat) {p:List Int} {n:Int} (h:xk p n):∃ x n',agz k p n=some ((x,()),(p,n',()),()) /\ (kr x=true /\ 1 <= x.1 /\ x.1 <= 6 /\ x.2.1<3) /\ xk p n':=by
 unfold agz
 obtain ⟨a,n1,e1,ha,h1⟩:=lg k (m:=3) h (by omega)
 rw [e1,Option.bind_some]
 obtain ⟨b,n2,e2,hb,h2⟩:=lg k (m:=3) h1 (by omega)
 simp only
 rw [e2,Option.bind_some]
 obtain ⟨c,n3,e3,hc,h3⟩:=lg k (m:=6) h2 (by omega)
 simp only
 rw [e3,Option.bind_some]
 simp only
 have ma:=mem3 ha
 have mb:=mem3 hb
 have hc6:c=0 \/ c=1 \/ c=2 \/ c=3 \/ c=4 \/ c=5:=by omega
 rcases hc6 with rfl | rfl | rfl | rfl | rfl | rfl
 ·obtain ⟨d,n4,e4,hd,h4⟩:=lg k (m:=9) h3 (by omega)
  rw [show ((0:Int)==0)=true from rfl,cond_true,e4,Option.bind_some]
  simp only
  rw [Uu (by omega) (by omega)]
  exact ⟨_,_,rfl,⟨by simp [kr,ma,zo];omega,by simp,by simp,ha.2⟩,h4⟩
 ·exact ⟨_,_,rfl,⟨by simp [kr,ma,mb],by simp,by simp,ha.2⟩,h3⟩
 ·exact ⟨_,_,rfl,⟨by simp [kr,ma,mb],by simp,by simp,ha.2⟩,h3⟩
 ·exact ⟨_,_,rfl,⟨by simp [kr,ma,mb],by simp,by simp,ha.2⟩,h3⟩
 ·obtain ⟨d,n4,e4,hd,h4⟩:=lg k (m:=7) h3 (by omega)
  rw [show ((4:Int)==0)=false from rfl,show ((4:Int)==1)=false from rfl,show ((4:Int)==2)=false from rfl,show ((4:Int)==3)=false from rfl,show ((4:Int)==4)=true from rfl,cond_false,cond_false,cond_false,cond_false,cond_true,e4,Option.bind_some]
  simp only
  rw [Uu (by omega) (by omega)]
  exact ⟨_,_,rfl,⟨by simp [kr,ma,zo];omega,by simp,by simp,ha.2⟩,h4⟩
 ·obtain ⟨d,n4,e4,hd,h4⟩:=lg k (m:=64) h3 (by omega)
  rw [show ((5:Int)==0)=false from rfl,show ((5:Int)==1)=false from rfl,show ((5:Int)==2)=false from rfl,show ((5:Int)==3)=false from rfl,show ((5:Int)==4)=false from rfl,cond_false,cond_false,cond_false,cond_false,cond_false,e4,Option.bind_some]
  simp only
  rw [Uu (by omega) (by omega)]
  exact ⟨_,_,rfl,⟨by simp [kr,ma,zo];omega,by simp,by simp,ha.2⟩,h4⟩
theorem aaW {x:I4} (h:1 <= x.1 /\ x.1 <= 6 /\ x.2.1<3):plain x /\ x.1≠11:=by unfold plain;omega
def U2 (n:Int):Tr -> Prop
 | .nil=>True
 | .one _ r=>U2 n r
 | .lk a b r=>(0 <= a /\ a<n) /\ U2 n b /\ U2 n r
 | .ar _ b r=>U2 n b /\ U2 n r
def C8:Tr -> Prop
 | .nil=>True
 | .one x r=>(1 <= x.1 /\ x.1 <= 6 /\ x.2.1<3) /\ C8 r
 | .lk _ b r=>C8 b /\ C8 r
 | .ar _ _ _=>False
theorem D5 {n:Int}:∀ {t u:Tr},U2 n t -> U2 n u -> U2 n (t.app u)
 | .nil,_,_,h=>h
 | .one _ r,_,h1,h=>D5 (t:=r) h1 h
 | .lk _ _ _,_,h1,h=>⟨h1.1,h1.2.1,D5 h1.2.2 h⟩
 | .ar _ b r,_,h1,h=>⟨h1.1,D5 h1.2 h⟩
theorem EA:∀ {t u:Tr},C8 t -> C8 u -> C8 (t.app u)
 | .nil,_,_,h=>h
 | .one _ r,_,h1,h=>⟨h1.1,EA h1.2 h⟩
 | .lk _ b r,_,h1,h=>⟨h1.1,EA h1.2 h⟩
 | .ar _ _ _,_,h1,_=>h1.elim
def U3:Tr -> Prop
 | .nil=>True
 | .one x r=>(x.1 <= 6 -> x.2.1<3) /\ U3 r
 | .lk _ b r=>U3 b /\ U3 r
 | .ar _ b r=>U3 b /\ U3 r
theorem ze:∀ {t:Tr},C8 t -> U3 t
 | .nil,_=>trivial
 | .one _ r,h=>⟨fun _=>h.1.2.2,ze h.2⟩
 | .lk _ b r,h=>⟨ze h.1,ze h.2⟩
 | .ar _ _ _,h=>h.elim
theorem PL:∀ {t u:Tr},U3 t -> U3 u -> U3 (t.app u)
 | .nil,_,_,h=>h
 | .one _ r,_,h1,h=>⟨h1.1,PL h1.2 h⟩
 | .lk _ b r,_,h1,h=>⟨h1.1,PL h1.2 h⟩
 | .ar _ b r,_,h1,h=>⟨h1.1,PL h1.2 h⟩
structure Pc (jq:Int) (t:Tr):Prop where
 ok:∀ d ia,Ok d [] ia t
 simple:C8 t
 free:U2 jq t
theorem apK (jq:Int):Pc jq .nil:=⟨fun _ _=>trivial,trivial,trivial⟩
theorem ake {jq:Int} {t:Tr} {x:I4} (h:Pc jq t) (hx:kr x=true /\ 1 <= x.1 /\ x.1 <= 6 /\ x.2.1<3):Pc jq (t.app (.one x .nil)) :=
 have hp:=aaW hx.2
 ⟨fun d ia=>MI (h.ok d ia) ⟨hx.1,hp.1,fun e=>absurd e hp.2,trivial⟩,EA h.simple ⟨hx.2,trivial⟩,D5 h.free trivial⟩
theorem aq0 {jq:Int} {t:Tr} {x:I4} {a:Int} (h:Pc jq t) (hx:kr x=true /\ 1 <= x.1 /\ x.1 <= 6 /\ x.2.1<3) (ha:0 <= a /\ a<jq) (hl:jq <= 4):Pc jq (t.app (.lk a (.one x .nil) .nil)) :=
 have hp:=aaW hx.2
 ⟨fun d ia=>MI (h.ok d ia) ⟨by omega,⟨by simp,by simp⟩,⟨hx.1,hp.1,fun e=>absurd e hp.2,trivial⟩,trivial⟩,EA h.simple ⟨⟨hx.2,trivial⟩,trivial⟩,D5 h.free ⟨ha,trivial,trivial⟩⟩
theorem Vo {k:Nat} (hk:1000 <= k) {p:List Int} {jq:Int} (hl:0 <= jq /\ jq <= 4):∀ (m j:Nat) (n:Int) (t:Tr),m<j -> m <= 100 -> xk p n -> Pc jq t -> t.len+3 * m <= 1000 ->
  ∃ t' n',Xt k j p n jq t.flat (m:Int)=some ((t'.flat,()),(p,n',()),()) /\ xk p n' /\ Pc jq t' /\ t.len+m <= t'.len /\ t'.len <= t.len+3 * m
 | 0,j,n,t,hj,_,hp,ht,_=>by
  obtain ⟨j',rfl⟩:∃ j',j=j'+1:=⟨j - 1,by omega⟩
  rw [aas,Xr,Sd (by omega)]
  exact ⟨t,n,rfl,hp,ht,by omega,by omega⟩
 | m+1,j,n,t,hj,hm,hp,ht,htl=>by
  obtain ⟨j',rfl⟩:∃ j',j=j'+1:=⟨j - 1,by omega⟩
  rw [aas,Xr,Sc (by omega)]
  have hw:IntKind.i64.wrap (((m+1:Nat):Int) - 1)=(m:Int):=by rw [Uu (by omega) (by omega)];omega
  have ih:=Vo hk (p:=p) hl m j'
  have hfl:=jo t
  by_cases e:jq>0
  ·rw [Sc e]
   obtain ⟨a,n1,e1,ha,h1⟩:=lg k (m:=4) hp (by omega)
   rw [e1,Option.bind_some]
   simp only
   cases h0:a==0 with
   | true =>
    obtain ⟨b,n2,e2,hb,h2⟩:=lg k (m:=jq) h1 e
    rw [cond_true,e2,Option.bind_some]
    simp only
    rw [Rz (by simp only [List.length_cons,List.length_nil];omega)]
    obtain ⟨x,n3,e3,hx,h3⟩:=Y4 k h2
    rw [e3,Option.bind_some]
    simp only
    rw [Rz (by simp only [List.length_append,List.length_cons,List.length_nil];omega),Rz (by simp only [List.length_append,List.length_cons,List.length_nil];omega),hw]
    have hl1:(t.app (.lk b (.one x .nil) .nil)).len=t.len+3:=by rw [PE];rfl
    obtain ⟨t',n',h5,h6,h7,h8,h9⟩:=ih n3 (t.app (.lk b (.one x .nil) .nil)) (by omega) (by omega) h3 (aq0 ht hx hb hl.2) (by omega)
    rw [zq] at h5
    refine ⟨t',n',?_,h6,h7,by omega,by omega⟩
    rw [<- h5]
    simp only [Tr.flat,List.append_assoc,List.cons_append,List.nil_append]
   | false =>
    obtain ⟨x,n3,e3,hx,h3⟩:=Y4 k h1
    rw [cond_false,e3,Option.bind_some]
    simp only
    rw [Rz (by simp only [List.length_cons,List.length_nil];omega),hw]
    have hl1:(t.app (.one x .nil)).len=t.len+1:=by rw [PE];rfl
    obtain ⟨t',n',h5,h6,h7,h8,h9⟩:=ih n3 (t.app (.one x .nil)) (by omega) (by omega) h3 (ake ht hx) (by omega)
    rw [zq] at h5
    exact ⟨t',n',h5,h6,h7,by omega,by omega⟩
  ·rw [Sd e]
   obtain ⟨x,n3,e3,hx,h3⟩:=Y4 k hp
   rw [e3,Option.bind_some]
   simp only
   rw [Rz (by simp only [List.length_cons,List.length_nil];omega),hw]
   have hl1:(t.app (.one x .nil)).len=t.len+1:=by rw [PE];rfl
   obtain ⟨t',n',h5,h6,h7,h8,h9⟩:=ih n3 (t.app (.one x .nil)) (by omega) (by omega) h3 (ake ht hx) (by omega)
   rw [zq] at h5
   exact ⟨t',n',h5,h6,h7,by omega,by omega⟩
theorem Y5 {k:Nat} (hk:1000 <= k) {p:List Int} {n jq:Int} (hl:0 <= jq /\ jq <= 4) (hp:xk p n):∃ t n',agA k p n 2 jq=some ((Tr.flat t,()),(p,n',()),()) /\ xk p n' /\ Pc jq t /\ 1 <= t.len /\ t.len <= 6:=by
 unfold agA
 obtain ⟨a,n1,e1,ha,h1⟩:=lg k (m:=2) hp (by omega)
 rw [e1,Option.bind_some]
 simp only
 rw [Uu (by omega) (by omega)]
 obtain ⟨m,hm⟩:∃ m:Nat,a+1=(m:Int):=⟨(a+1).toNat,by omega⟩
 rw [hm]
 obtain ⟨t',n',h5,h6,h7,h8,h9⟩:=Vo hk (p:=p) hl m k n1 .nil (by omega) (by omega) h1 (apK jq) (by simp only [Tr.len];omega)
 simp only [Tr.len,Nat.zero_add] at h8 h9
 exact ⟨t',n',h5,h6,h7,by omega,by omega⟩
structure Mp (jq:Int) (t:Tr):Prop where
 ok:Ok 0 [] false t
 free:U2 jq t
 low:U3 t
theorem apL {jq:Int} {t u:Tr} (h:Mp jq t) (hu:Mp jq u):Mp jq (t.app u):=⟨MI h.ok hu.ok,D5 h.free hu.free,PL h.low hu.low⟩
theorem EB {k:Nat} {p:List Int} {jq n:Int} {t u:Tr} {m:Nat} {g3:List Int -> Int -> Int -> List I4 -> Int -> Option ((List I4×Unit)×(List Int×Int×Unit)×Unit)} (hu:u.len <= 900) (ht:t.len <= 22) (hm:m <= 900) (ht':Mp jq t) (hu':Mp jq u) :
  ∃ t',DW k g3 p n jq t.flat ((m+1:Nat):Int) u.flat=g3 p n jq (Tr.flat t') (m:Int) /\ t'.len <= 22 /\ Mp jq t':=by
 unfold DW
 have h1:=jo t
 have h2:=jo u
 rw [Uu (by omega) (by omega),Uu (by omega) (by omega),show ((m+1:Nat):Int) - 1=(m:Int) by omega]
 by_cases e:((t.flat.length:Int)+(u.flat.length:Int))<23
 ·rw [Sc e,Rz (by omega)]
  exact ⟨t.app u,by rw [zq],by rw [PE];omega,apL ht' hu'⟩
 ·rw [Sd e];exact ⟨t,rfl,ht,ht'⟩
theorem Vp {k:Nat} (hk:1000 <= k) {p:List Int} {jq:Int} (hl:0 <= jq /\ jq <= 4):∀ (m j:Nat) (n:Int) (t:Tr),m<j -> m <= 100 -> xk p n -> Mp jq t -> t.len <= 22 ->
  ∃ t' n',FL k j p n jq t.flat (m:Int)=some ((Tr.prog t',()),(p,n',()),()) /\ xk p n' /\ Mp jq t' /\ t'.len <= 22
 | 0,j,n,t,hj,_,hp,ht,htl=>by
  obtain ⟨j',rfl⟩:∃ j',j=j'+1:=⟨j - 1,by omega⟩
  have hfl:=jo t
  rw [aat,Xu,Sd (by omega),Rz (by simp only [List.length_cons,List.length_nil];omega)]
  exact ⟨t,n,rfl,hp,ht,htl⟩
 | m+1,j,n,t,hj,hm,hp,ht,htl=>by
  obtain ⟨j',rfl⟩:∃ j',j=j'+1:=⟨j - 1,by omega⟩
  rw [aat,Xu,Sc (by omega)]
  have ih:=Vp hk (p:=p) hl m j'
  obtain ⟨a,n1,e1,ha,h1⟩:=lg k (m:=5) hp (by omega)
  rw [e1,Option.bind_some]
  simp only
  cases h0:a==0 with
  | true =>
   obtain ⟨b,n2,e2,h2,hb,hb1,hb2⟩:=Y5 hk hl h1
   rw [cond_true,e2,Option.bind_some]
   simp only
   obtain ⟨c,n3,e3,hc,h3⟩:=lg k (m:=3) h2 (by omega)
   have hbl:=jo b
   rw [e3,Option.bind_some,Rz (by simp only [List.length_cons,List.length_nil];omega)]
   simp only
   rw [Uu (by omega) (by omega)]
   have hx:kr (8,0,(b.flat.length:Int),1+c)=true:=by simp [kr,zo];omega
   have hwd:wd (8,0,(b.flat.length:Int),1+c)=b.len:=by simp [wd,hbl]
   obtain ⟨t',h5,h6,h7⟩:=EB (k:=k) (p:=p) (jq:=jq) (n:=n3) (t:=t) (u:=.ar (8,0,(b.flat.length:Int),1+c) b .nil) (m:=m) (g3:=fun p2 p3 DX l_ i=>FL k j' p2 p3 DX l_ i) (by simp only [Tr.len];omega) htl (by omega) ht ⟨⟨⟨hx,rfl,hwd⟩,fun _=>by omega,hb.ok _ _,trivial⟩,⟨hb.free,trivial⟩,⟨ze hb.simple,trivial⟩⟩
   obtain ⟨t2,n',h8,h9,h10,h11⟩:=ih n3 t' (by omega) (by omega) h3 h7 h6
   refine ⟨t2,n',?_,h9,h10,h11⟩
   rw [<- h8,<- h5]
   simp only [Tr.flat,List.append_nil,List.cons_append,List.nil_append]
  | false =>
   rw [cond_false]
   cases h0:a==1 with
   | true =>
    obtain ⟨b,n2,e2,h2,hb,hb1,hb2⟩:=Y5 hk hl h1
    rw [cond_true,e2,Option.bind_some]
    simp only
    obtain ⟨c,n3,e3,hc,h3⟩:=lg k (m:=3) h2 (by omega)
    have hbl:=jo b
    rw [e3,Option.bind_some,Rz (by simp only [List.length_cons,List.length_nil];omega)]
    simp only
    have hx:kr (7,c,0,(b.flat.length:Int))=true:=by simp [kr,zo,CK];omega
    have hwd:wd (7,c,0,(b.flat.length:Int))=b.len:=by simp [wd,hbl]
    obtain ⟨t',h5,h6,h7⟩:=EB (k:=k) (p:=p) (jq:=jq) (n:=n3) (t:=t) (u:=.ar (7,c,0,(b.flat.length:Int)) b .nil) (m:=m) (g3:=fun p2 p3 DX l_ i=>FL k j' p2 p3 DX l_ i) (by simp only [Tr.len];omega) htl (by omega) ht ⟨⟨⟨hx,rfl,hwd⟩,fun _=>by omega,hb.ok _ _,trivial⟩,⟨hb.free,trivial⟩,⟨ze hb.simple,trivial⟩⟩
    obtain ⟨t2,n',h8,h9,h10,h11⟩:=ih n3 t' (by omega) (by omega) h3 h7 h6
    refine ⟨t2,n',?_,h9,h10,h11⟩
    rw [<- h8,<- h5]
    simp only [Tr.flat,List.append_nil,List.cons_append,List.nil_append]
   | false =>
    rw [cond_false]
    cases h0:a==2 with
    | true =>
     rw [cond_true]
     obtain ⟨t',h5,h6,h7⟩:=EB (k:=k) (p:=p) (jq:=jq) (n:=n1) (t:=t) (u:=.one (11,0,0,0) .nil) (m:=m) (g3:=fun p2 p3 DX l_ i=>FL k j' p2 p3 DX l_ i) (by simp [Tr.len]) htl (by omega) ht ⟨⟨rfl,by simp [plain],fun _=>⟨rfl,rfl⟩,trivial⟩,trivial,⟨fun e=>absurd e (by decide),trivial⟩⟩
     obtain ⟨t2,n',h8,h9,h10,h11⟩:=ih n1 t' (by omega) (by omega) h1 h7 h6
     exact ⟨t2,n',by rw [<- h8,<- h5];rfl,h9,h10,h11⟩
    | false =>
     obtain ⟨b,n2,e2,h2,hb,hb1,hb2⟩:=Y5 hk hl h1
     rw [cond_false,e2,Option.bind_some]
     simp only
     obtain ⟨t',h5,h6,h7⟩:=EB (k:=k) (p:=p) (jq:=jq) (n:=n2) (t:=t) (u:=b) (m:=m) (g3:=fun p2 p3 DX l_ i=>FL k j' p2 p3 DX l_ i) (by omega) htl (by omega) ht ⟨hb.ok _ _,hb.free,ze hb.simple⟩
     obtain ⟨t2,n',h8,h9,h10,h11⟩:=ih n2 t' (by omega) (by omega) h2 h7 h6
     exact ⟨t2,n',by rw [<- h8,<- h5],h9,h10,h11⟩
theorem afq {k:Nat} (hk:1000 <= k) {p:List Int} {n jq:Int} (hl:0 <= jq /\ jq <= 4) (hp:xk p n):∃ t n',ajh k p n jq=some ((Tr.prog t,()),(p,n',()),()) /\ xk p n' /\ Mp jq t /\ t.len <= 22:=by
 unfold ajh
 obtain ⟨a,n1,e1,ha,h1⟩:=lg k (m:=4) hp (by omega)
 rw [e1,Option.bind_some]
 simp only
 rw [Uu (by omega) (by omega)]
 obtain ⟨m,hm⟩:∃ m:Nat,a+1=(m:Int):=⟨(a+1).toNat,by omega⟩
 rw [hm]
 exact Vp hk (p:=p) hl m k n1 .nil (by omega) (by omega) h1 ⟨trivial,trivial,trivial⟩ (by simp [Tr.len])
theorem wf_u8 {n:Int} (h:(Lit.int .u8 n).wf=true):0 <= n /\ n <= 255:=by
 simp [Lit.wf,IntKind.min,IntKind.max,IntKind.signed,IntKind.bits] at h
 omega
theorem aaX {p:List Int} {e:TypeId} (h:Ty.fine (.sl e (.int .u8)) p) (hl:p.length <= 1000):xk p 0 :=
 ⟨⟨hl,by omega,by omega⟩,fun x hx=>wf_u8 (h.2 x hx)⟩
def uq (l:List I4) (c:Int) (n:Nat):Prop:=(l.getD n i0).1=c
abbrev wu (l:List I4) (n:Nat):Int:=(l.getD n i0).2.1
def K8 (l:List I4) (c:Int):Nat -> Nat
 | 0=>0
 | n+1=>K8 l c n+(if (l.getD n i0).1=c then 1 else 0)
structure PrI (l:List I4) (i:Nat) (out open_:List Int):Prop where
 len:out.length=l.length
 sorted:open_.Pairwise (·<·)
 small:∀ k∈open_,0 <= k /\ k<(i:Int)
 lock:∀ k:Nat,(k:Int)∈open_ -> uq l 9 k
 closed:∀ k,k<i -> uq l 9 k -> (k:Int) ∉ open_ -> ∃ u:Nat,out.getD k 0=(u:Int) /\ k<u /\ u<i /\ uq l 10 u /\ wu l u=wu l k
 dist:∀ k j,k<j -> j<i -> uq l 9 k -> uq l 9 j -> (k:Int)∈open_ -> wu l k≠wu l j
 nest:∀ k j,k<j -> j<i -> uq l 9 k -> uq l 9 j -> (k:Int) ∉ open_ -> (j:Int)<out.getD k 0 -> (j:Int) ∉ open_ /\ out.getD j 0<out.getD k 0 /\ wu l k≠wu l j
 cnt:K8 l 9 i=K8 l 10 i+open_.length
theorem FN {l:List I4} {i:Nat} {s s':List Int×List Int} (hi:i<l.length) (h:PrI l i s.1 s.2) (hs:kg l i s=some s'):PrI l (i+1) s'.1 s'.2:=by
 unfold kg at hs
 have lt1:∀ k,k<i+1 -> k≠i -> k<i:=fun k h1 h2=>by omega
 have asF:((i:Nat):Int) ∉ s.2:=fun h1=>by have:=h.small _ h1;omega
 split at hs
 ·rename_i h9
  split at hs
  ·cases hs
  ·rename_i hn
   injection hs with hs;subst hs
   have hmem:∀ k:Nat,((k:Int)∈s.2++[(i:Int)])↔((k:Int)∈s.2 \/ k=i):=fun k=>by
    rw [List.mem_append,List.mem_singleton]
    exact ⟨fun h=>h.imp id (fun h=>by omega),fun h=>h.imp id (fun h=>by omega)⟩
   refine ⟨h.len,?_,?_,?_,?_,?_,?_,?_⟩
   ·rw [List.pairwise_append]
    exact ⟨h.sorted,List.pairwise_singleton _ _,fun a ha b hb=>by rw [List.mem_singleton.1 hb];exact (h.small a ha).2⟩
   ·intro k hk
    rcases List.mem_append.1 hk with hk | hk
    ·have:=h.small k hk;omega
    ·rw [List.mem_singleton.1 hk];omega
   ·intro k hk
    rcases (hmem k).1 hk with hk | rfl
    ·exact h.lock k hk
    ·exact h9
   ·intro k hk1 hk2 hk3
    have hk3:=fun e=>hk3 ((hmem k).2 e)
    obtain ⟨u,h1,h2,h3,h4⟩:=h.closed k (lt1 k hk1 (fun e=>hk3 (.inr e))) hk2 (fun e=>hk3 (.inl e))
    exact ⟨u,h1,h2,by omega,h4⟩
   ·intro k j hkj hj h1 h2 h3
    by_cases e:j=i
    ·subst e
     rcases (hmem k).1 h3 with h3 | e
     ·intro e
      apply hn;right
      unfold NS
      rw [List.any_eq_true]
      exact ⟨(k:Int),h3,by rw [Qp,Qp];exact beq_iff_eq.2 e⟩
     ·omega
    ·rcases (hmem k).1 h3 with h3 | e2
     ·exact h.dist k j hkj (lt1 j hj e) h1 h2 h3
     ·omega
   ·intro k j hkj hj h1 h2 h3 h4
    have h3':=fun e=>h3 ((hmem k).2 e)
    obtain ⟨u,g1,g2,g3,_⟩:=h.closed k (by omega) h1 (fun e=>h3' (.inl e))
    have h4':(j:Int)<s.1.getD k 0:=h4
    by_cases e:j=i
    ·subst e;omega
    ·obtain ⟨q1,q2⟩:=h.nest k j hkj (lt1 j hj e) h1 h2 (fun e=>h3' (.inl e)) h4
     exact ⟨fun h5=>((hmem j).1 h5).elim q1 e,q2⟩
   ·rw [K8,K8,if_pos h9,if_neg (by rw [h9];decide),h.cnt]
    simp only [List.length_append,List.length_cons,List.length_nil];omega
 ·rename_i h9
  split at hs
  ·rename_i h10
   split at hs
   ·cases hs
   ·rename_i x hx
    split at hs
    ·cases hs
    ·rename_i hn
     injection hs with hs;subst hs
     obtain ⟨r,hr⟩:∃ r,s.2=r++[x]:=by
      rcases List.eq_nil_or_concat s.2 with e | ⟨r,y,e⟩
      ·rw [e] at hx;cases hx
      ·rw [List.concat_eq_append] at e
       rw [e] at hx
       simp at hx
       subst hx
       exact ⟨r,e⟩
     have hxm:=h.small x (by rw [hr];simp)
     obtain ⟨n,rfl⟩:∃ n:Nat,x=(n:Int):=⟨x.toNat,by omega⟩
     have hsort:=h.sorted
     rw [hr,List.pairwise_append] at hsort
     have hdl:s.2.dropLast=r:=by rw [hr];simp
     have hmem:∀ k:Nat,(k:Int)∈s.2↔((k:Int)∈r \/ k=n):=fun k=>by
      rw [hr,List.mem_append,List.mem_singleton]
      exact ⟨fun h=>h.imp id (fun h=>by omega),fun h=>h.imp id (fun h=>by omega)⟩
     have hnr:(n:Int) ∉ r:=fun e=>by have:=hsort.2.2 _ e (n:Int) (by simp);omega
     have hge:∀ k:Nat,(k:Int)∈r -> k<n:=fun k e=>by have:=hsort.2.2 _ e (n:Int) (by simp);omega
     have hln:=h.lock n ((hmem n).2 (.inr rfl))
     have hA:wu l n=wu l i:=by
      by_cases e:wu l n=wu l i
      ·exact e
      ·exact absurd (.inl (by rw [Qp];exact e)) hn
     have hget:∀ k:Nat,(s.1.set n (i:Int)).getD k 0=if n=k /\ k<s.1.length then (i:Int) else s.1.getD k 0:=fun k=>nk
     have hlen:=h.len
     have hnl:n<s.1.length:=by omega
     simp only
     rw [hdl,Mj]
     refine ⟨by rw [List.length_set];exact h.len,hsort.1,fun k hk=>by have:=h.small k (by rw [hr];simp [hk]);omega,fun k hk=>h.lock k ((hmem k).2 (.inl hk)),?_,?_,?_,?_⟩
     ·intro k hk1 hk2 hk3
      rw [hget]
      by_cases e:n=k
      ·subst e
       rw [if_pos ⟨rfl,hnl⟩]
       exact ⟨i,rfl,by omega,by omega,h10,hA.symm⟩
      ·rw [if_neg (fun q=>e q.1)]
       have:k≠i:=fun e=>by subst e;exact h9 hk2
       obtain ⟨u,h1,h2,h3,h4⟩:=h.closed k (by omega) hk2 (fun q=>((hmem k).1 q).elim hk3 (fun q=>e q.symm))
       exact ⟨u,h1,h2,by omega,h4⟩
     ·intro k j hkj hj h1 h2 h3
      have:j≠i:=fun e=>by subst e;exact h9 h2
      exact h.dist k j hkj (by omega) h1 h2 ((hmem k).2 (.inl h3))
     ·intro k j hkj hj h1 h2 h3 h4
      have hji:j≠i:=fun e=>by subst e;exact h9 h2
      rw [hget k] at h4
      rw [hget k,hget j]
      by_cases e:n=k
      ·subst e
       rw [if_pos ⟨rfl,hnl⟩] at h4
       rw [if_pos (show n=n /\ n<s.1.length from ⟨rfl,hnl⟩)]
       have hjr:(j:Int) ∉ r:=fun q=>by have:=hge j q;omega
       have hjo:(j:Int) ∉ s.2:=fun q=>((hmem j).1 q).elim hjr (fun q=>by omega)
       obtain ⟨u,g1,g2,g3,_⟩:=h.closed j (by omega) h2 hjo
       rw [if_neg (show ¬ (n=j /\ j<s.1.length) by omega)]
       exact ⟨hjr,by omega,h.dist n j hkj (by omega) h1 h2 ((hmem n).2 (.inr rfl))⟩
      ·rw [if_neg (fun q=>e q.1)] at h4
       rw [if_neg (show ¬ (n=k /\ k<s.1.length) from fun q=>e q.1)]
       have hko:(k:Int) ∉ s.2:=fun q=>((hmem k).1 q).elim h3 (fun q=>e q.symm)
       obtain ⟨q1,q2,q3⟩:=h.nest k j hkj (by omega) h1 h2 hko h4
       have hjn:n≠j:=fun e=>q1 (e ▸ (hmem n).2 (.inr rfl))
       rw [if_neg (show ¬ (n=j /\ j<s.1.length) from fun q=>hjn q.1)]
       exact ⟨fun q=>q1 ((hmem j).2 (.inl q)),q2,q3⟩
     ·rw [K8,K8,if_pos h10,if_neg h9,h.cnt,hr]
      simp only [List.length_append,List.length_cons,List.length_nil];omega
  ·rename_i h10
   injection hs with hs;subst hs
   have ne:∀ j,uq l 9 j -> j≠i:=fun j q e=>by subst e;exact h9 q
   refine ⟨h.len,h.sorted,fun k hk=>by have:=h.small k hk;omega,h.lock,?_,?_,?_,?_⟩
   ·intro k hk1 hk2 hk3
    have:=ne k hk2
    obtain ⟨u,h1,h2,h3,h4⟩:=h.closed k (by omega) hk2 hk3
    exact ⟨u,h1,h2,by omega,h4⟩
   ·intro k j hkj hj h1 h2 h3
    have:=ne j h2
    exact h.dist k j hkj (by omega) h1 h2 h3
   ·intro k j hkj hj h1 h2 h3 h4
    have:=ne j h2
    exact h.nest k j hkj (by omega) h1 h2 h3 h4
   ·rw [K8,K8,if_neg h10,if_neg h9,h.cnt];omega
theorem akf {l:List I4}:∀ (m i:Nat) (s s':List Int×List Int),i+m=l.length -> PrI l i s.1 s.2 -> vv l m i s=some s' -> PrI l l.length s'.1 s'.2
 | 0,i,s,s',hm,h,hg=>by
  injection hg with hg;subst hg
  have:i=l.length:=by omega
  subst this;exact h
 | m+1,i,s,s',hm,h,hg=>by
  rw [vv,Option.bind_eq_some_iff] at hg
  obtain ⟨t,h1,h2⟩:=hg
  exact akf m (i+1) t s' (by omega) (FN (by omega) h h1) h2
theorem Y6 {l:List I4} {ps:List Int} (h:prs l=some ps):PrI l l.length ps [] :=
 akf _ _ _ _ (by omega) ⟨by simp,List.Pairwise.nil,(fun _ h=>by cases h),(fun _ h=>by cases h),fun _ h=>by omega,fun _ _ _ h=>by omega,fun _ _ _ h=>by omega,rfl⟩ (abY h)
theorem u64 {n:Int} (h1:0 <= n) (h2:n<18446744073709551616):IntKind.u64.wrap n=n:=by
 unfold IntKind.wrap
 have e1:(2 ^ IntKind.u64.bits:Int)=18446744073709551616:=by decide
 simp only [e1,IntKind.signed,Bool.false_and,Bool.false_eq_true,if_false]
 omega
theorem RL (n:Int):IntKind.u64.wrap n=n % 18446744073709551616:=by
 unfold IntKind.wrap
 have e1:(2 ^ IntKind.u64.bits:Int)=18446744073709551616:=by decide
 simp only [e1,IntKind.signed,Bool.false_and,Bool.false_eq_true,if_false]
theorem akg (n:Int):IntKind.u32.wrap n=n % 4294967296:=by
 unfold IntKind.wrap
 have e1:(2 ^ IntKind.u32.bits:Int)=4294967296:=by decide
 simp only [e1,IntKind.signed,Bool.false_and,Bool.false_eq_true,if_false]
theorem akh (x:BitVec 64):IntKind.i64.wrap (x.toNat:Int)=x.toInt:=by
 have hx:=x.isLt
 unfold IntKind.wrap
 have e1:(2 ^ IntKind.i64.bits:Int)=18446744073709551616:=by decide
 have e2:(2 ^ (IntKind.i64.bits - 1):Int)=9223372036854775808:=by decide
 simp only [e1,e2,IntKind.signed,Bool.true_and,decide_eq_true_eq,BitVec.toInt_eq_toNat_cond]
 have:(2:Nat) ^ 64=18446744073709551616:=by decide
 rw [this] at hx ⊢
 split <;> split <;> omega
theorem aki (x:BitVec 64):BitVec.ofInt 64 x.toInt=x:=BitVec.ofInt_toInt
theorem aaY (a b:Int):Un .i64 a b=(BitVec.ofInt 64 a ^^^ BitVec.ofInt 64 b).toInt:=akh _
theorem akj (a b:Int):Um .i64 a b=(BitVec.ofInt 64 a &&& BitVec.ofInt 64 b).toInt:=akh _
theorem IZ {a:Int} (h1:0 <= a) (h2:a <= 9223372036854775807):(BitVec.ofInt 64 a).msb=false:=by
 have:(BitVec.ofInt 64 a).toInt=a:=by rw [BitVec.toInt_ofInt];exact Int.bmod_eq_of_le (by omega) (by omega)
 rw [BitVec.msb_eq_toInt,this];exact decide_eq_false (by omega)
theorem msb_neg {a:Int} (h1:-9223372036854775808 <= a) (h2:a<0):(BitVec.ofInt 64 a).msb=true:=by
 have:(BitVec.ofInt 64 a).toInt=a:=by rw [BitVec.toInt_ofInt];exact Int.bmod_eq_of_le (by omega) (by omega)
 rw [BitVec.msb_eq_toInt,this];exact decide_eq_true (by omega)
theorem akk {a b s:Int} (ha:0 <= a /\ a <= 9223372036854775807) (hb:0 <= b /\ b <= 9223372036854775807) (hs:-9223372036854775808 <= s /\ s <= 9223372036854775807) :
  decide (Um .i64 (Un .i64 a s) (Un .i64 b s)<0)=decide (s<0):=by
 rw [akj,aaY,aaY,aki,aki,<- BitVec.msb_eq_toInt,BitVec.msb_and,BitVec.msb_xor,BitVec.msb_xor,IZ ha.1 ha.2,IZ hb.1 hb.2]
 by_cases h:s<0
 ·rw [msb_neg hs.1 h,decide_eq_true h];rfl
 ·rw [IZ (by omega) hs.2,decide_eq_false h];rfl
def aaZ (n:Int):Int×Bool:=if n <= 9223372036854775807 then (n,true) else (9223372036854775807,false)
theorem amC (k:Nat) {a b:Int} (ha:0 <= a /\ a <= 9223372036854775807) (hb:0 <= b /\ b <= 9223372036854775807):agm k a b=some (((aaZ (a+b)).1,(aaZ (a+b)).2,()),()):=by
 unfold agm
 rw [u64 ha.1 (by omega),u64 hb.1 (by omega),u64 (n:=a+b) (by omega) (by omega)]
 have hs:IntKind.i64.wrap (a+b)=if a+b <= 9223372036854775807 then a+b else a+b - 18446744073709551616:=by
  unfold IntKind.wrap
  have e1:(2 ^ IntKind.i64.bits:Int)=18446744073709551616:=by decide
  have e2:(2 ^ (IntKind.i64.bits - 1):Int)=9223372036854775808:=by decide
  simp only [e1,e2,IntKind.signed,Bool.true_and,decide_eq_true_eq]
  split <;> split <;> omega
 rw [akk ha hb (by rw [hs];split <;> omega),hs]
 unfold aaZ agk
 by_cases h:a+b <= 9223372036854775807
 ·rw [if_pos h,if_pos h,Sd (by omega)]
 ·rw [if_neg h,if_neg h,Sc (by omega),Sd (by omega)];rfl
theorem afs (k:Nat) {a b:Int} (ha:0 <= a) (hb:0 <= b) (h:a+b <= 9223372036854775807):agm k a b=some ((a+b,true,()),()):=by
 rw [amC k ⟨ha,by omega⟩ ⟨hb,by omega⟩];unfold aaZ;rw [if_pos h]
theorem amD {a:Int}:Ul .u64 a 32=a / 4294967296:=by
 unfold Ul
 show a.fdiv (2 ^ 32)=_
 rw [show ((2:Int) ^ 32)=4294967296 by decide,Int.fdiv_eq_ediv_of_nonneg _ (by omega)]
theorem amE {a:Int} (h1:0 <= a) (h2:a<4294967296):Uk .u64 a 32=a * 4294967296:=by
 unfold Uk
 show IntKind.u64.wrap (a * 2 ^ 32)=_
 rw [show ((2:Int) ^ 32)=4294967296 by decide,u64 (by omega) (by omega)]
theorem aq1 {a:Int} (h1:0 <= a) (h2:a<18446744073709551616):Uz .u64 a 0=a:=by
 unfold Uz
 show IntKind.u64.wrap (((BitVec.ofInt 64 a ||| BitVec.ofInt 64 0).toNat:Nat):Int)=a
 rw [show BitVec.ofInt 64 0=0#64 from rfl,BitVec.or_zero,BitVec.toNat_ofInt,u64 (by omega) (by omega)]
 omega
theorem aq2 {a:Int} (h1:0 <= a) (h2:a<18446744073709551616):Uz .u64 0 a=a:=by
 unfold Uz
 show IntKind.u64.wrap (((BitVec.ofInt 64 0 ||| BitVec.ofInt 64 a).toNat:Nat):Int)=a
 rw [show BitVec.ofInt 64 0=0#64 from rfl,BitVec.zero_or,BitVec.toNat_ofInt,u64 (by omega) (by omega)]
 omega
theorem amF (k:Nat) {a b:Int} (ha:0 <= a /\ a <= 9223372036854775807) (hb:0 <= b /\ b <= 9223372036854775807) :
  ∃ p,alr k a b=some ((p,decide (a * b<18446744073709551616),()),()) /\ (a * b<18446744073709551616 -> p=a * b):=by
 unfold alr
 simp only [amD,akg]
 have A1:a=a / 4294967296 * 4294967296+a % 4294967296:=by omega
 have B1:b=b / 4294967296 * 4294967296+b % 4294967296:=by omega
 have ah0:0 <= a / 4294967296 /\ a / 4294967296<2147483648:=by omega
 have bh0:0 <= b / 4294967296 /\ b / 4294967296<2147483648:=by omega
 have al0:0 <= a % 4294967296 /\ a % 4294967296<4294967296:=by omega
 have bl0:0 <= b % 4294967296 /\ b % 4294967296<4294967296:=by omega
 generalize a / 4294967296=x at *
 generalize b / 4294967296=y at *
 generalize a % 4294967296=u at *
 generalize b % 4294967296=v at *
 have hab:a * b=x * y * 18446744073709551616+(x * v+u * y) * 4294967296+u * v:=by
  rw [A1,B1];grind
 have huv:0 <= u * v /\ u * v<18446744073709551616:=by
  constructor
  ·exact Int.mul_nonneg al0.1 bl0.1
  ·have:u * v <= 4294967295 * 4294967295:=Int.mul_le_mul (by omega) (by omega) bl0.1 (by omega)
   omega
 have hxv:0 <= x * v /\ x * v<9223372036854775808:=by
  constructor
  ·exact Int.mul_nonneg ah0.1 bl0.1
  ·have:x * v <= 2147483647 * 4294967295:=Int.mul_le_mul (by omega) (by omega) bl0.1 (by omega)
   omega
 have huy:0 <= u * y /\ u * y<9223372036854775808:=by
  constructor
  ·exact Int.mul_nonneg al0.1 bh0.1
  ·have:u * y <= 4294967295 * 2147483647:=Int.mul_le_mul (by omega) (by omega) bh0.1 (by omega)
   omega
 have hxy:0 <= x * y:=Int.mul_nonneg ah0.1 bh0.1
 rw [u64 (n:=u) (by omega) (by omega),u64 (n:=v) (by omega) (by omega),u64 (n:=x * v) (by omega) (by omega),u64 (n:=u * y) (by omega) (by omega),u64 (n:=u * v) (by omega) (by omega)]
 have mid:x=0 \/ y=0 -> Uz .u64 (x * v) (u * y)=x * v+u * y:=by
  rintro (rfl | rfl)
  ·rw [Int.zero_mul,aq2 (by omega) (by omega)];omega
  ·rw [Int.mul_zero,aq1 (by omega) (by omega)];omega
 have tail:x=0 \/ y=0 -> ∃ p,(bif decide (Uz .u64 (x * v) (u * y) / 4294967296>0) then some ((0,false,()),()) else
   some ((IntKind.u64.wrap (u * v+Uk .u64 (Uz .u64 (x * v) (u * y)) 32),decide (IntKind.u64.wrap (u * v+Uk .u64 (Uz .u64 (x * v) (u * y)) 32)≥u * v),()),()):Option ((Int×Bool×Unit)×Unit))=some ((p,decide (a * b<18446744073709551616),()),()) /\ (a * b<18446744073709551616 -> p=a * b):=by
  intro h0
  have asg:x * y=0:=by rcases h0 with rfl | rfl <;> simp
  rw [asg] at hab
  rw [mid h0]
  have hm0:0 <= x * v+u * y:=by omega
  clear mid
  generalize x * v+u * y=m at hab hm0 ⊢
  by_cases h:m / 4294967296>0
  ·rw [Sc h]
   exact ⟨0,by rw [decide_eq_false (by omega)],fun h2=>by omega⟩
  ·rw [Sd h,amE hm0 (by omega)]
   refine ⟨_,by
    rw [show decide (IntKind.u64.wrap (u * v+m * 4294967296)≥u * v)=decide (a * b<18446744073709551616) from ?_]
    rw [RL]
    by_cases h2:a * b<18446744073709551616
    ·rw [decide_eq_true h2];exact decide_eq_true (by omega)
    ·rw [decide_eq_false h2];exact decide_eq_false (by omega),fun h2=>?_⟩
   rw [RL];omega
 by_cases h1:x>0
 ·rw [Sc h1]
  by_cases h2:y>0
  ·rw [Sc h2]
   have:1 <= x * y:=by
    have:1 * 1 <= x * y:=Int.mul_le_mul (by omega) (by omega) (by omega) (by omega)
    omega
   exact ⟨0,by rw [decide_eq_false (by omega)],fun h=>by omega⟩
  ·rw [Sd h2];exact tail (.inr (by omega))
 ·rw [Sd h1];exact tail (.inl (by omega))
theorem aft (k:Nat) {a:Int} (ha:0 <= a /\ a <= 9223372036854775807):ahX k a=some ((a,()),()):=by
 unfold ahX
 rw [Sd (by omega),u64 ha.1 (by omega)]
theorem amG (k:Nat) {a b:Int} (ha:0 <= a /\ a <= 9223372036854775807) (hb:0 <= b /\ b <= 9223372036854775807):agl k a b=some (((aaZ (a * b)).1,(aaZ (a * b)).2,()),()):=by
 unfold agl
 rw [decide_eq_false (p:=a<0) (by omega),decide_eq_false (p:=b<0) (by omega)]
 simp only [beq_self_eq_true,Bool.not_true,cond_false]
 unfold Wy
 obtain ⟨p,h1,h2⟩:=amF k ha hb
 have hab:0 <= a * b:=Int.mul_nonneg ha.1 hb.1
 rw [aft k ha,aft k hb]
 simp only [Option.bind_some]
 rw [h1,Option.bind_some]
 unfold aaZ agk
 by_cases h:a * b<18446744073709551616
 ·rw [h2 h,decide_eq_true h]
  simp only [Bool.not_true,cond_false]
  by_cases h3:a * b <= 9223372036854775807
  ·rw [Sd (by omega),if_pos h3,Uu (by omega) h3]
  ·rw [Sc (by omega),if_neg h3];rfl
 ·rw [decide_eq_false h,if_neg (by omega)];rfl
theorem afu (k:Nat) {a b:Int} (ha:0 <= a /\ a <= 9223372036854775807) (hb:0 <= b /\ b <= 9223372036854775807) (h:a * b <= 9223372036854775807):agl k a b=some ((a * b,true,()),()):=by
 rw [amG k ha hb];unfold aaZ;rw [if_pos h]
def JF (l:List I4) (j:Int):List fq -> Int -> Int
 | [],acc=>acc
 | p::r,acc=>JF l j r (bif p.2.2.2&&ow p j then acc * (rd l p.2.2.1 i0).2.2.2 else acc)
theorem GV (l:List I4) (j:Int):∀ (a b:List fq) (acc:Int),JF l j (a++b) acc=JF l j b (JF l j a acc)
 | [],_,_=>rfl
 | p::a,b,acc=>by rw [List.cons_append,JF,JF,GV l j a b]
theorem BJ (l:List I4) (j:Int):∀ (a:List fq) (acc:Int),(∀ p∈a,ow p j=false) -> JF l j a acc=acc
 | [],_,_=>rfl
 | p::a,acc,h=>by rw [JF,h p List.mem_cons_self,Bool.and_false,cond_false,BJ l j a acc (fun q hq=>h q (List.mem_cons_of_mem _ hq))]
theorem MN (l:List I4) (j:Int):∀ (a:List fq) (acc:Int),1 <= acc -> (∀ p∈a,p.2.2.2=true -> 1 <= (rd l p.2.2.1 i0).2.2.2 /\ (rd l p.2.2.1 i0).2.2.2 <= 20) -> 1 <= JF l j a acc /\ JF l j a acc <= acc * 20 ^ gq j a
 | [],acc,h,_=>by rw [JF];simp [gq];exact h
 | p::a,acc,h,hb=>by
  rw [JF,gq,List.countP_cons,<- gq]
  have ih:=fun acc h=>MN l j a acc h (fun q hq=>hb q (List.mem_cons_of_mem _ hq))
  cases e:(p.2.2.2&&ow p j) with
  | false=>simp only [cond_false,Bool.false_eq_true,if_false,Nat.add_zero];exact ih acc h
  | true =>
   rw [Bool.and_eq_true] at e
   have h1:=hb p List.mem_cons_self e.1
   simp only [cond_true,if_true]
   have h2:1 * 1 <= acc * (rd l p.2.2.1 i0).2.2.2:=Int.mul_le_mul h h1.1 (by omega) (by omega)
   obtain ⟨i1,i2⟩:=ih (acc * (rd l p.2.2.1 i0).2.2.2) (by omega)
   refine ⟨i1,Int.le_trans i2 ?_⟩
   rw [Int.pow_succ,Int.mul_comm (20 ^ gq j a) 20,<- Int.mul_assoc]
   refine Int.mul_le_mul_of_nonneg_right ?_ (Int.pow_nonneg (by omega))
   exact Int.mul_le_mul_of_nonneg_left h1.2 (by omega)
def tms (l:List I4):List Int:=(List.range l.length).map (fun (j:Nat)=>JF l (j:Int) (mh 0 l) 1)
theorem yt (l:List I4):(tms l).length=l.length:=by simp [tms]
theorem Y7 {l:List I4} {j:Nat} (h:j<l.length):(tms l).getD j 0=JF l (j:Int) (mh 0 l) 1:=by
 rw [getD_in (by rw [yt];exact h)];simp [tms]
theorem aa0 {l:List I4} {ps:List Int} (g:BI l ps):∀ p∈mh 0 l,p.2.2.2=true -> 1 <= (rd l p.2.2.1 i0).2.2.2 /\ (rd l p.2.2.1 i0).2.2.2 <= 20:=by
 intro p hp hb
 have:=g.len2
 obtain ⟨n,h1,h2,rfl⟩:=(l6 l 0 p g.may (by omega)).1 hp
 have h3:=ab0 (g.may _ (jh (z:=i0) h1)) (eq_of_beq hb)
 have:rd l (l9 (0+n) (l.getD n i0)).2.2.1 i0=l.getD n i0:=by rw [Nat.zero_add];exact Qp
 rw [this];exact h3.2.2
theorem Vq {l:List I4} {ps:List Int} (g:BI l ps) {j:Nat} (h:j<l.length):1 <= (tms l).getD j 0 /\ (tms l).getD j 0 <= 400:=by
 rw [Y7 h]
 have h1:=MN l (j:Int) (mh 0 l) 1 (by omega) (aa0 g)
 have h2:=g.bodies j h
 refine ⟨h1.1,Int.le_trans h1.2 ?_⟩
 have:gq (j:Int) (mh 0 l)=0 \/ gq (j:Int) (mh 0 l)=1 \/ gq (j:Int) (mh 0 l)=2:=by omega
 rcases this with e | e | e <;> rw [e] <;> decide
def mulR (c:Int):List Int -> Nat -> Nat -> List Int
 | out,_,0=>out
 | out,i,m+1=>mulR c (out.set i (out.getD i 0 * c)) (i+1) m
theorem aa1 (c:Int):∀ (m i:Nat) (out:List Int),(mulR c out i m).length=out.length
 | 0,_,_=>rfl
 | m+1,i,out=>by rw [mulR,aa1 c m,List.length_set]
theorem aa2 (c:Int):∀ (m i:Nat) (out:List Int) (j:Nat),i+m <= out.length -> (mulR c out i m).getD j 0=if i <= j /\ j<i+m then out.getD j 0 * c else out.getD j 0
 | 0,i,out,j,_=>by rw [mulR,if_neg (by omega)]
 | m+1,i,out,j,h=>by
  rw [mulR,aa2 c m (i+1) _ j (by simp only [List.length_set];omega),nk]
  by_cases e:i=j
  ·subst e
   rw [if_neg (by omega),if_pos ⟨rfl,by omega⟩,if_pos (by omega)]
  ·rw [if_neg (fun h:i=j /\ j<out.length=>e h.1)]
   by_cases e2:i+1 <= j /\ j<i+1+m
   ·rw [if_pos e2,if_pos (by omega)]
   ·rw [if_neg e2,if_neg (by omega)]
theorem RN {k:Nat} {g8:List Int -> List I4 -> Int -> Int -> Option ((List Int×Unit)×Unit)} {i x x1 x2 c t21 t22:Int} {t20:List I4} (hc:1 <= c /\ c <= 20):∀ (m n j:Nat) (out:List Int),i+x2+1=((n+m:Nat):Int) -> n+m <= out.length -> out.length <= 900 -> m<j -> (∀ j,n <= j -> j<n+m -> 1 <= out.getD j 0 /\ out.getD j 0 * c <= 400) ->
  OM k g8 j out i x x1 x2 c n t20 t21 t22=g8 (mulR c out n m) t20 t21 (IntKind.i64.wrap (t22+1))
 | 0,n,j,out,h,ho,hl,hj,hb=>by
  obtain ⟨j',rfl⟩:∃ j',j=j'+1:=⟨j - 1,by omega⟩
  rw [UL,OL,Uu (by omega) (by omega),Sd (by omega),mulR]
 | m+1,n,j,out,h,ho,hl,hj,hb=>by
  obtain ⟨j',rfl⟩:∃ j',j=j'+1:=⟨j - 1,by omega⟩
  have h1:=hb n (by omega) (by omega)
  have h2:out.getD n 0 <= 400:=by
   have:=Int.mul_le_mul_of_nonneg_left hc.1 (show 0 <= out.getD n 0 by omega)
   omega
  rw [UL,OL,Uu (by omega) (by omega),Sc (by omega),Qo (by omega),Qp,afu k (by omega) (by omega) (by omega),Option.bind_some,Qo (by omega),Mi (by omega),Mj,mulR]
  refine RN hc m (n+1) j' _ (by omega) (by simp only [List.length_set];omega) (by simp only [List.length_set];omega) (by omega) (fun j hj1 hj2=>?_)
  rw [nk,if_neg (by omega)]
  exact hb j (by omega) (by omega)
theorem RO {l:List I4} {i:Nat} (hi:i<l.length):mh 0 (l.take (i+1))=mh 0 (l.take i)++pc i (l.getD i i0):=by
 have:l.take (i+1)=l.take i++[l.getD i i0]:=by rw [List.take_add_one,getD_in hi,List.getElem?_eq_getElem hi];rfl
 rw [this,E5,List.length_take,Nat.zero_add,show min i l.length=i by omega]
 simp [mh]
theorem Vr {l:List I4} {i:Nat} (hi:i <= l.length):mh 0 l=mh 0 (l.take i)++mh i (l.drop i):=by
 have:=E5 (l.take i) (l.drop i) 0
 rw [List.take_append_drop,List.length_take,Nat.zero_add,show min i l.length=i by omega] at this
 exact this
theorem amH {k:Nat} (hk:1000 <= k) {l:List I4} {ps:List Int} (g:BI l ps):alu k l=some ((tms l,()),()):=by
 unfold alu
 have hl2:=g.len2
 rw [Ry (by omega) (by omega),List.length_replicate,Int.toNat_natCast]
 have h1:=Vb (L:=fun j (out:List Int) i=>LA k j l out (l.length:Int) i) (n:=l.length)
  (fun i out=>out.length=l.length /\ ∀ j,j<i -> out.getD j 0=1)
  (fun i out=>out.set i 1) (fun out=>IQ k k out l (l.length:Int) 0)
  (fun j i out hi hv=>by
   show LA k (j+1) l out (l.length:Int) (i:Int)=_
   rw [Zk,WA,Sc (by omega),Qo (by omega),Mj,Mi (by omega)])
  (fun i out hi hv=>by
   refine ⟨by rw [List.length_set];exact hv.1,fun j hj=>?_⟩
   rw [nk]
   by_cases e:i=j
   ·subst e;rw [if_pos ⟨rfl,by omega⟩]
   ·rw [if_neg (fun h=>e h.1)];exact hv.2 j (by omega))
  (fun j out hv=>by
   show LA k (j+1) l out (l.length:Int) (l.length:Int)=_
   rw [Zk,WA,Sd (by omega)])
  l.length 0 k (List.replicate l.length 0) (by omega) (by omega) ⟨by simp,fun j hj=>by omega⟩
 refine Eq.trans h1 ?_
 have hv:=GJ (inv:=fun i (out:List Int)=>out.length=l.length /\ ∀ j,j<i -> out.getD j 0=1) (f:=fun i out=>out.set i 1) (n:=l.length) (fun i out hi hv=>by
   refine ⟨by rw [List.length_set];exact hv.1,fun j hj=>?_⟩
   rw [nk]
   by_cases e:i=j
   ·subst e;rw [if_pos ⟨rfl,by have:=hv.1;omega⟩]
   ·rw [if_neg (fun h=>e h.1)];exact hv.2 j (by omega)) l.length 0 (List.replicate l.length 0) (by omega) ⟨by simp,fun j hj=>by omega⟩
 generalize goF (fun i (out:List Int)=>out.set i 1) l.length 0 (List.replicate l.length 0)=apM at hv ⊢
 have hinv:∀ i (out:List Int),i<l.length -> (out.length=l.length /\ ∀ j,j<l.length -> out.getD j 0=JF l (j:Int) (mh 0 (l.take i)) 1) -> ((if (l.getD i i0).1=8 then mulR (l.getD i i0).2.2.2 out (i+1) (wd (l.getD i i0)) else out).length=l.length /\ ∀ j,j<l.length -> (if (l.getD i i0).1=8 then mulR (l.getD i i0).2.2.2 out (i+1) (wd (l.getD i i0)) else out).getD j 0=JF l (j:Int) (mh 0 (l.take (i+1))) 1):=by
  intro i out hi ⟨h2,h3⟩
  have hm:=g.may _ (jh (z:=i0) hi)
  by_cases e:(l.getD i i0).1=8
  ·have hA:isA (l.getD i i0)=true:=by simp only [isA,e];rfl
   have hw:=yh hm hA
   have hlast:=g.last (l9 i (l.getD i i0)) ((l6 l 0 _ g.may (by omega)).2 ⟨i,hi,hA,by rw [Nat.zero_add]⟩)
   have e2:(l9 i (l.getD i i0)).2.1=((i+wd (l.getD i i0):Nat):Int):=rfl
   rw [if_pos e]
   refine ⟨by rw [aa1];exact h2,fun j hj=>?_⟩
   rw [aa2 _ _ _ _ _ (by omega),RO hi,GV,<- h3 j hj,IX hm (by omega),if_pos hA,JF,JF]
   have e3:(l9 i (l.getD i i0)).2.2.2=true:=by simp only [l9,e];rfl
   have e4:(l9 i (l.getD i i0)).2.2.1=(i:Int):=rfl
   rw [e3,e4,Qp,Bool.true_and]
   by_cases h5:i+1 <= j /\ j<i+1+wd (l.getD i i0)
   ·rw [if_pos h5,show ow (l9 i (l.getD i i0)) (j:Int)=true by rw [ou];simp only [l9];omega];rfl
   ·rw [if_neg h5,show ow (l9 i (l.getD i i0)) (j:Int)=false by rw [<- Bool.not_eq_true,ou];simp only [l9];omega];rfl
  ·rw [if_neg e]
   refine ⟨h2,fun j hj=>?_⟩
   rw [RO hi,GV,<- h3 j hj,IX hm (by omega)]
   split
   ·have e3:(l9 i (l.getD i i0)).2.2.2=false:=by simp only [l9];simpa using e
    rw [JF,JF,e3];rfl
   ·rfl
 have h2:=Vb (L:=fun j (out:List Int) i=>IQ k j out l (l.length:Int) i) (n:=l.length)
  (fun i out=>out.length=l.length /\ ∀ j,j<l.length -> out.getD j 0=JF l (j:Int) (mh 0 (l.take i)) 1)
  (fun i out=>if (l.getD i i0).1=8 then mulR (l.getD i i0).2.2.2 out (i+1) (wd (l.getD i i0)) else out) (fun out=>some ((out,()),()))
  (fun j i out hi hv=>by
   show IQ k (j+1) out l (l.length:Int) (i:Int)=_
   rw [Zj,Wz,Sc (by omega),Qo hi,Qp,Mi (by omega)]
   have hm:=g.may _ (jh (z:=i0) hi)
   by_cases e:(l.getD i i0).1=8
   ·have hA:isA (l.getD i i0)=true:=by simp only [isA,e];rfl
    have hw:=yh hm hA
    have hlast:=g.last (l9 i (l.getD i i0)) ((l6 l 0 _ g.may (by omega)).2 ⟨i,hi,hA,by rw [Nat.zero_add]⟩)
    have e2:(l9 i (l.getD i i0)).2.1=((i+wd (l.getD i i0):Nat):Int):=rfl
    have e3:(l9 i (l.getD i i0)).2.2.2=true:=by simp only [l9,e];rfl
    have hN:=(ab0 hm e).2.2
    have hpm:l9 i (l.getD i i0)∈mh 0 l:=(l6 l 0 _ g.may (by omega)).2 ⟨i,hi,hA,by rw [Nat.zero_add]⟩
    rw [if_pos e,show ((l.getD i i0).1 != 8)=false by rw [e];rfl,cond_false]
    refine (RN (x2:=(l.getD i i0).2.2.1) hN (wd (l.getD i i0)) (i+1) k out (by have:=hw.2.2.1 e;omega) (by omega) (by omega) (by omega) (fun j hj1 hj2=>?_)).trans (by rw [Mi (by omega)])
    rw [hv.2 j (by omega)]
    have hsplit:=Vr (l:=l) (i:=i) (by omega)
    have hb:=g.bodies j (by omega)
    have hcb:gq (j:Int) (mh 0 (l.take i))+1 <= 2:=by
     have hs2:=Vr (l:=l) (i:=i+1) (by omega)
     rw [hs2,RO hi,ML,ML,IX hm (by omega),if_pos hA] at hb
     have:gq (j:Int) [l9 i (l.getD i i0)]=1:=by
      rw [gq,List.countP_cons,List.countP_nil,e3,show ow (l9 i (l.getD i i0)) (j:Int)=true by rw [ou];simp only [l9];omega];rfl
     omega
    have hbd:=MN l (j:Int) (mh 0 (l.take i)) 1 (by omega) (fun p hp=>aa0 g p (by rw [hsplit];exact List.mem_append_left _ hp))
    refine ⟨hbd.1,?_⟩
    have h20:JF l (j:Int) (mh 0 (l.take i)) 1 <= 20:=by
     refine Int.le_trans hbd.2 ?_
     have:gq (j:Int) (mh 0 (l.take i))=0 \/ gq (j:Int) (mh 0 (l.take i))=1:=by omega
     rcases this with e | e <;> rw [e] <;> decide
    have:=Int.mul_le_mul h20 hN.2 (by omega) (by omega)
    omega
   ·rw [if_neg e,show ((l.getD i i0).1 != 8)=true by simpa using e,cond_true])
  hinv
  (fun j out hv=>by
   show IQ k (j+1) out l (l.length:Int) (l.length:Int)=_
   rw [Zj,Wz,Sd (by omega)])
  l.length 0 k apM (by omega) (by omega) ⟨hv.1,fun j hj=>by rw [hv.2 j hj];rfl⟩
 refine Eq.trans h2 ?_
 have hv2:=GJ (n:=l.length) hinv l.length 0 apM (by omega) ⟨hv.1,fun j hj=>by rw [hv.2 j hj];rfl⟩
 generalize goF (fun i (out:List Int)=>if (l.getD i i0).1=8 then mulR (l.getD i i0).2.2.2 out (i+1) (wd (l.getD i i0)) else out) l.length 0 apM=abI at hv2 ⊢
 rw [List.take_length] at hv2
 have:abI=tms l:=by
  apply List.ext_getElem (by rw [hv2.1,yt])
  intro n h1 h2
  rw [yt] at h2
  rw [<- getD_in (z:=0) h1,<- getD_in (z:=0) (by rw [yt];exact h2),Y7 h2,hv2.2 n h2]
 rw [this]
def sm:List Int -> Int
 | []=>0
 | x::r=>x+sm r
theorem J2:∀ a b:List Int,sm (a++b)=sm a+sm b
 | [],b=>by simp [sm]
 | x::a,b=>by rw [List.cons_append,sm,sm,J2 a b];omega
theorem aa3 {c:Int}:∀ (a:List Int),(∀ x∈a,0 <= x /\ x <= c) -> 0 <= sm a /\ sm a <= a.length * c
 | [],_=>by simp [sm]
 | x::a,h=>by
  have h1:=h x List.mem_cons_self
  have h2:=aa3 a (fun y hy=>h y (List.mem_cons_of_mem _ hy))
  rw [sm,List.length_cons]
  refine ⟨by omega,?_⟩
  have:((a.length+1:Nat):Int) * c=(a.length:Int) * c+c:=by rw [show ((a.length+1:Nat):Int)=(a.length:Int)+1 by omega,Int.add_mul,Int.one_mul]
  omega
theorem Vs:∀ (a:List Int),(∀ x∈a,0 <= x) -> 0 <= sm a
 | [],_=>by simp [sm]
 | x::a,h=>by
  have h1:=h x List.mem_cons_self
  have h2:=Vs a (fun y hy=>h y (List.mem_cons_of_mem _ hy))
  rw [sm];omega
theorem Vt {k:Nat} {l:List Int} (hl:l.length <= 900) (hb:∀ x∈l,0 <= x):∀ (m i j:Nat) (s:Int),i+m=l.length -> m<j -> 0 <= s -> s+sm (l.drop i) <= 9223372036854775807 -> WC k j s l (l.length:Int) i=some ((s+sm (l.drop i),()),())
 | 0,i,j,s,h,hj,h0,h1=>by
  obtain ⟨j',rfl⟩:∃ j',j=j'+1:=⟨j - 1,by omega⟩
  rw [Zl,WB,Sd (by omega),drop_nil (by omega),sm,Int.add_zero]
 | m+1,i,j,s,h,hj,h0,h1=>by
  obtain ⟨j',rfl⟩:∃ j',j=j'+1:=⟨j - 1,by omega⟩
  have hx:=hb _ (jh (z:=0) (l:=l) (i:=i) (by omega))
  have hr:=Vs (l.drop (i+1)) (fun x hx=>hb x (List.mem_of_mem_drop hx))
  rw [drop_cons 0 (show i<l.length by omega),sm] at h1 ⊢
  rw [Zl,WB,Sc (by omega),Qo (by omega),Qp,afs k h0 hx (by omega),Option.bind_some,Mi (by omega)]
  dsimp only
  rw [Vt hl hb m (i+1) j' _ (by omega) (by omega) (by omega) (by omega)]
  congr 3;omega
theorem amI {k:Nat} (hk:1000 <= k) {l:List Int} (hl:l.length <= 900) (hb:∀ x∈l,0 <= x) (hs:sm l <= 9223372036854775807):Zm k l=some ((sm l,()),()):=by
 unfold Zm
 have:=Vt (k:=k) hl hb l.length 0 k 0 (by omega) (by omega) (by omega) (by rw [List.drop_zero];omega)
 rw [List.drop_zero,Int.zero_add] at this
 exact this
def cg (l:List I4) (ts ps:List Int):Nat -> Nat -> Int -> List (Int×Int) -> Int -> Int×List (Int×Int)
 | 0,_,c1,c2,_=>(c1,c2)
 | m+1,i,c1,c2,p =>
  if (l.getD i i0).1=11 \/ (l.getD i i0).1=0 then cg l ts ps m (i+1) (max c1 (p+ts.getD i 0)) c2 0
  else if (l.getD i i0).1=9 then cg l ts ps m (i+1) c1 (c2++[((l.getD i i0).2.1,Int.tdiv (sm (sub ts ((i+1:Nat):Int) (ps.getD i 0+1))) (ts.getD i 0))]) (p+ts.getD i 0)
  else cg l ts ps m (i+1) c1 c2 (p+ts.getD i 0)
def afv (l:List I4) (ps:List Int):Int×Int×List (Int×Int):=(sm (tms l),cg l (tms l) ps l.length 0 0 [] 0)
theorem akl {xs:List Int} {f i:Nat} (hf:f <= i) (hi:i<xs.length):sub xs (f:Int) ((i+1:Nat):Int)=sub xs (f:Int) (i:Int)++[xs.getD i 0]:=by
 simp only [sub,Int.toNat_natCast]
 have:xs.take (i+1)=xs.take i++[xs.getD i 0]:=by rw [List.take_add_one,getD_in hi,List.getElem?_eq_getElem hi];rfl
 rw [this,List.drop_append_of_le_length (by rw [List.length_take];omega)]
theorem afw {xs:List Int} {a b:Int} {x:Int} (h:x∈sub xs a b):x∈xs:=List.mem_of_mem_take (List.mem_of_mem_drop h)
theorem afx {xs:List Int} {a b:Int}:(sub xs a b).length <= xs.length:=by
 simp only [sub,List.length_drop,List.length_take];omega
theorem afy {l:List I4} {ps:List Int} (g:BI l ps):∀ x∈tms l,1 <= x /\ x <= 400:=fun x hx=>by
 obtain ⟨j,hj,rfl⟩:=CY 0 hx
 exact Vq g (by rw [yt] at hj;exact hj)
theorem ab1 {l:List I4} {ps:List Int} (g:BI l ps) (a b:Int):0 <= sm (sub (tms l) a b) /\ sm (sub (tms l) a b) <= 9600:=by
 have:=aa3 (c:=400) (sub (tms l) a b) (fun x hx=>by have:=afy g x (afw hx);omega)
 have h2:(sub (tms l) a b).length <= l.length:=by rw [<- yt l];exact afx
 have h3:=g.len2
 refine ⟨this.1,?_⟩
 have h4:((sub (tms l) a b).length:Int) * 400 <= 24 * 400:=Int.mul_le_mul_of_nonneg_right (by omega) (by omega)
 omega
theorem K9 {k:Nat} (hk:1000 <= k) {l:List I4} {ps:List Int} (g:BI l ps) (a b:Int):Zm k (sub (tms l) a b)=some ((sm (sub (tms l) a b),()),()):=by
 have h2:(sub (tms l) a b).length <= l.length:=by rw [<- yt l];exact afx
 have h3:=g.len2
 have h4:=ab1 g a b
 exact amI hk (by omega) (fun x hx=>by have:=afy g x (afw hx);omega) (by omega)
theorem amJ {l:List I4} {ps:List Int} (g:BI l ps) {i:Nat} (hi:i<l.length) (h9:(l.getD i i0).1=9):∃ u:Nat,ps.getD i 0=(u:Int) /\ i<u /\ u<l.length:=by
 obtain ⟨u,h1,h2,h3,_⟩:=(Y6 g.pairs).closed i hi h9 (by simp)
 exact ⟨u,h1,h2,h3⟩
theorem GX {k:Nat} (hk:1000 <= k) {l:List I4} {ps:List Int} (g:BI l ps) {c:Int}:∀ (m i j f:Nat) (c1:Int) (c2:List (Int×Int)),i+m=l.length -> m<j -> f <= i -> c2.length <= i ->
  QB k j c c1 c2 (tms l) (f:Int) ps l (l.length:Int) (i:Int)=some (((c,cg l (tms l) ps m i c1 c2 (sm (sub (tms l) f i))),true,()),())
 | 0,i,j,f,c1,c2,h,hj,hf,hc=>by
  obtain ⟨j',rfl⟩:∃ j',j=j'+1:=⟨j - 1,by omega⟩
  rw [Zn,WE,Sd (by omega),cg]
 | m+1,i,j,f,c1,c2,h,hj,hf,hc=>by
  obtain ⟨j',rfl⟩:∃ j',j=j'+1:=⟨j - 1,by omega⟩
  have hl2:=g.len2
  have htl:=yt l
  have hpl:=P9 g.pairs
  have hi:i<l.length:=by omega
  have hsn:sm (sub (tms l) (f:Int) ((i+1:Nat):Int))=sm (sub (tms l) f i)+(tms l).getD i 0:=by rw [akl hf (by omega),J2,sm,sm];omega
  have h0:sm (sub (tms l) ((i+1:Nat):Int) ((i+1:Nat):Int))=0:=by
   have:sub (tms l) ((i+1:Nat):Int) ((i+1:Nat):Int)=[]:=by simp [sub]
   rw [this];rfl
  rw [Zn,WE,Sc (by omega),Qo hi,Qp,Mi (by omega),cg]
  have mark:QB k j' c (mx c1 (sm (sub (tms l) (f:Int) ((i+1:Nat):Int)))) c2 (tms l) ((i+1:Nat):Int) ps l (l.length:Int) ((i+1:Nat):Int)=some (((c,cg l (tms l) ps m (i+1) (max c1 (sm (sub (tms l) f i)+(tms l).getD i 0)) c2 0),true,()),()):=by
   rw [GX hk g m (i+1) j' (i+1) _ _ (by omega) (by omega) (by omega) (by omega),h0,hsn,Si]
  cases h11:(l.getD i i0).1==11 with
  | true =>
   have e:=eq_of_beq h11
   rw [if_pos (.inl e),cond_true,Rx (by omega) (by omega) (by omega),K9 hk g,Option.bind_some]
   exact mark
  | false =>
   rw [cond_false]
   have e11:(l.getD i i0).1≠11:=by intro e;rw [e] at h11;cases h11
   cases h00:(l.getD i i0).1==0 with
   | true =>
    have e:=eq_of_beq h00
    rw [if_pos (.inr e),cond_true,Rx (by omega) (by omega) (by omega),K9 hk g,Option.bind_some]
    exact mark
   | false =>
    rw [cond_false]
    have e00:(l.getD i i0).1≠0:=by intro e;rw [e] at h00;cases h00
    rw [if_neg (by rintro (h | h);exact e11 h;exact e00 h)]
    cases h9:(l.getD i i0).1==9 with
    | true =>
     have e:=eq_of_beq h9
     obtain ⟨u,h1,h2,h3⟩:=amJ g hi e
     have ht:=Vq g hi
     rw [if_pos e,cond_true,Qo (by omega),Qp,h1,Mi (by omega),Rx (by omega) (by omega) (by omega),K9 hk g,Option.bind_some]
     dsimp only
     rw [Qo (by omega),Qp,Sb (by omega),Rz (by simp only [List.length_cons,List.length_nil];omega)]
     have hs:=ab1 g ((i+1:Nat):Int) ((u+1:Nat):Int)
     have hd:0 <= Int.tdiv (sm (sub (tms l) ((i+1:Nat):Int) ((u+1:Nat):Int))) ((tms l).getD i 0) /\ Int.tdiv (sm (sub (tms l) ((i+1:Nat):Int) ((u+1:Nat):Int))) ((tms l).getD i 0) <= 9600:=by
      rw [Int.tdiv_eq_ediv_of_nonneg hs.1]
      exact ⟨Int.ediv_nonneg hs.1 (by omega),Int.le_trans (Int.ediv_le_self _ hs.1) hs.2⟩
     rw [Uu (by omega) (by omega),GX hk g m (i+1) j' f _ _ (by omega) (by omega) (by omega) (by simp only [List.length_append,List.length_cons,List.length_nil];omega),hsn,show ((u:Int)+1)=((u+1:Nat):Int) by omega]
    | false =>
     have e9:(l.getD i i0).1≠9:=by intro e;rw [e] at h9;cases h9
     rw [cond_false,if_neg e9,GX hk g m (i+1) j' f _ _ (by omega) (by omega) (by omega) (by omega),hsn]
theorem afz (l:List Int):sub l ((0:Nat):Int) (l.length:Int)=l:=by simp [sub]
def aoD (l:List I4) (c:Option (Int×Int×List (Int×Int))):Option (((Int×Int×List (Int×Int))×Bool×Unit)×Unit):=match c with | some c=>some ((c,true,()),()) | none=>some (((0,0,[]),false,()),())
noncomputable def zf (l:List I4):Option (Int×Int×List (Int×Int)):=if xg l=true then some (afv l ((prs l).getD [])) else none
theorem NW {l:List I4} {ps:List Int} (g:BI l ps):zf l=some (afv l ps):=by
 unfold zf;rw [if_pos (K7.2 ⟨ps,g⟩),g.pairs];rfl
theorem Y8 {k:Nat} (hk:1000 <= k) {l:List I4} (hl:l.length <= 900):agn k l=aoD l (zf l):=by
 unfold agn
 rw [Y1 hk hl,Option.bind_some]
 cases hm:xg l with
 | false =>
  have:zf l=none:=by unfold zf;rw [hm];rfl
  rw [this];rfl
 | true =>
  obtain ⟨ps,g⟩:=K7.1 hm
  have hl2:=g.len2
  simp only [Bool.not_true,cond_false]
  rw [amH hk g,Option.bind_some,afm hk g.len2,g.pairs]
  simp only [afk,Option.bind_some]
  have h1:=K9 hk g ((0:Nat):Int) ((tms l).length:Int)
  rw [afz] at h1
  rw [h1,Option.bind_some,NW g]
  have:=GX hk g (c:=sm (tms l)) l.length 0 k 0 0 [] (by omega) (by omega) (by omega) (by simp)
  have h0:sm (sub (tms l) ((0:Nat):Int) ((0:Nat):Int))=0:=by simp [sub,sm]
  rw [h0] at this
  exact this
theorem Y9 {l:List I4} {ts ps:List Int}:∀ (m i:Nat) (c1 p:Int) (c2:List (Int×Int)),(cg l ts ps m i c1 c2 p).2.length <= c2.length+m
 | 0,_,_,_,c2=>by simp [cg]
 | m+1,i,c1,p,c2=>by
  rw [cg]
  split
  ·have:=Y9 (l:=l) (ts:=ts) (ps:=ps) m (i+1) (max c1 (p+ts.getD i 0)) 0 c2;omega
  ·split
   ·have:=Y9 (l:=l) (ts:=ts) (ps:=ps) m (i+1) c1 (p+ts.getD i 0) (c2++[((l.getD i i0).2.1,Int.tdiv (sm (sub ts ((i+1:Nat):Int) (ps.getD i 0+1))) (ts.getD i 0))])
    simp only [List.length_append,List.length_cons,List.length_nil] at this;omega
   ·have:=Y9 (l:=l) (ts:=ts) (ps:=ps) m (i+1) c1 (p+ts.getD i 0) c2;omega
theorem ab2 {l:List I4} {c:Int×Int×List (Int×Int)} (h:zf l=some c):c.2.2.length <= 24:=by
 unfold zf at h
 split at h
 ·rename_i hm
  injection h with h;subst h
  obtain ⟨ps,g⟩:=K7.1 hm
  have h1:=g.len2
  have h2:=Y9 (l:=l) (ts:=tms l) (ps:=(prs l).getD []) l.length 0 0 0 []
  simp only [afv]
  simp only [List.length_nil] at h2
  omega
 ·cases h
def zu (x:I4):Int:=if x.1=8 then x.2.2.2 else 1
theorem GY {x:I4} (h:kr x=true):1 <= zu x /\ zu x <= 20:=by
 unfold zu
 split
 ·rename_i e;exact (ab0 h e).2.2
 ·omega
namespace Tr
def cost:Tr -> Int
 | .nil=>0
 | .one _ r=>1+cost r
 | .lk _ b r=>2+cost b+cost r
 | .ar x b r=>1+zu x * cost b+cost r
def ts:Int -> Tr -> List Int
 | _,.nil=>[]
 | M,.one _ r=>M::ts M r
 | M,.lk _ b r=>M::(ts M b++(M::ts M r))
 | M,.ar x b r=>M::(ts (M * zu x) b++ts M r)
def spans:Tr -> List (Int×Int)
 | .nil=>[]
 | .one _ r=>spans r
 | .lk a b r=>(a,cost b+1)::(spans b++spans r)
 | .ar _ b r=>spans b++spans r
def piece:Int -> Tr -> Int×Int -> Int×Int
 | _,.nil,s=>s
 | M,.one x r,s=>piece M r (if x.1=11 then (max s.1 (s.2+M),0) else (s.1,s.2+M))
 | M,.lk _ b r,s=>piece M r ((piece M b (s.1,s.2+M)).1,(piece M b (s.1,s.2+M)).2+M)
 | M,.ar x b r,s=>piece M r (piece (M * zu x) b (s.1,s.2+M))
end Tr
theorem qg:∀ (t:Tr) (M:Int),(t.ts M).length=t.len
 | .nil,_=>rfl
 | .one _ r,M=>by simp only [Tr.ts,Tr.len,List.length_cons,qg r]
 | .lk _ b r,M=>by simp only [Tr.ts,Tr.len,List.length_cons,List.length_append,qg b,qg r];omega
 | .ar _ b r,M=>by simp only [Tr.ts,Tr.len,List.length_cons,List.length_append,qg b,qg r]
theorem FP:∀ (t:Tr) (M:Int),sm (t.ts M)=M * t.cost
 | .nil,M=>by simp [Tr.ts,Tr.cost,sm]
 | .one _ r,M=>by simp only [Tr.ts,Tr.cost,sm,FP r M];grind
 | .lk _ b r,M=>by simp only [Tr.ts,Tr.cost,sm,J2,FP b M,FP r M];grind
 | .ar x b r,M=>by simp only [Tr.ts,Tr.cost,sm,J2,FP b,FP r M];grind
theorem j4:∀ {t:Tr} {d:Nat} {hs:List Int} {ia:Bool},Ok d hs ia t -> 0 <= t.cost
 | .nil,_,_,_,_=>by simp [Tr.cost]
 | .one x r,_,_,_,⟨_,_,_,h4⟩=>by have:=j4 h4;simp only [Tr.cost];omega
 | .lk a b r,_,_,_,⟨_,_,h3,h4⟩=>by have:=j4 h3;have:=j4 h4;simp only [Tr.cost];omega
 | .ar x b r,_,_,_,⟨h1,_,h3,h4⟩=>by
  have h5:=j4 h3;have:=j4 h4
  have:=Int.mul_nonneg (show 0 <= zu x by have:=GY h1.1;omega) h5
  simp only [Tr.cost];omega
theorem D6:∀ {t:Tr} {d:Nat} {hs:List Int} {ia:Bool} {l:List I4} {o:Nat} (M:Int),Ok d hs ia t -> At l o t.flat -> o+t.len <= 9000 -> ∀ j,j<t.len -> JF l ((o+j:Nat):Int) (mh o t.flat) M=(t.ts M).getD j 0
 | .nil,_,_,_,_,_,_,_,_,_,j,hj=>by simp only [Tr.len] at hj;omega
 | .one x r,_,_,_,l,o,M,⟨h1,h2,_,h4⟩,ha,ho,j,hj=>by
  simp only [Tr.len] at hj ho
  obtain ⟨a1,a2,a3⟩:=l7 ha
  rw [PI h1 h2 (by omega),Tr.ts]
  cases j with
  | zero =>
   rw [List.getD_cons_zero,BJ]
   intro p hp
   have:=qc h4 (by omega) p hp
   rw [<- Bool.not_eq_true,ou];omega
  | succ j =>
   rw [List.getD_cons_succ,<- D6 M h4 a3 (by omega) j (by omega)]
   congr 2;omega
 | .lk a b r,_,_,_,l,o,M,⟨h1,_,h3,h4⟩,ha,ho,j,hj=>by
  simp only [Tr.len] at hj ho
  obtain ⟨a1,a2,a3⟩:=l7 ha
  obtain ⟨a4,a5⟩:=za a3
  obtain ⟨a6,a7,a8⟩:=l7 a5
  rw [jo] at a6 a7 a8
  rw [show o+1+b.len+1=o+b.len+2 by omega] at a8
  have nb:∀ k:Nat,k <= o \/ o+b.len+1 <= k -> ∀ M',JF l (k:Int) (mh (o+1) b.flat) M'=M':=fun k hk M'=>BJ l _ _ _ (fun p hp=>by
   have:=qc h3 (by omega) p hp
   rw [<- Bool.not_eq_true,ou];omega)
  have nr:∀ k:Nat,k <= o+b.len+2 -> ∀ M',JF l (k:Int) (mh (o+b.len+2) r.flat) M'=M':=fun k hk M'=>BJ l _ _ _ (fun p hp=>by
   have:=qc h4 (by omega) p hp
   rw [<- Bool.not_eq_true,ou];omega)
  rw [Y2 h1 (by omega),GV,Tr.ts]
  cases j with
  | zero=>rw [List.getD_cons_zero,nb _ (by omega),nr _ (by omega)]
  | succ j =>
   rw [List.getD_cons_succ]
   by_cases e:j<b.len
   ·rw [ny (by rw [qg];exact e),nr _ (by omega),<- D6 M h3 a4 (by omega) j e]
    congr 2;omega
   ·rw [j6 (by rw [qg];omega),qg,nb _ (by omega)]
    by_cases e2:j=b.len
    ·subst e2;rw [Nat.sub_self,List.getD_cons_zero,nr _ (by omega)]
    ·obtain ⟨n,hn⟩:∃ n,j - b.len=n+1:=⟨j - b.len - 1,by omega⟩
     rw [hn,List.getD_cons_succ,<- D6 M h4 a8 (by omega) n (by omega)]
     congr 2;omega
 | .ar x b r,_,_,_,l,o,M,⟨⟨h1,h2,h3⟩,_,h5,h6⟩,ha,ho,j,hj=>by
  simp only [Tr.len] at hj ho
  obtain ⟨a1,a2,a3⟩:=l7 ha
  obtain ⟨a4,a5⟩:=za a3
  rw [jo,show o+1+b.len=o+b.len+1 by omega] at a5
  have nb:∀ k:Nat,k <= o \/ o+b.len+1 <= k -> ∀ M',JF l (k:Int) (mh (o+1) b.flat) M'=M':=fun k hk M'=>BJ l _ _ _ (fun p hp=>by
   have:=qc h5 (by omega) p hp
   rw [<- Bool.not_eq_true,ou];omega)
  have nr:∀ k:Nat,k <= o+b.len+1 -> ∀ M',JF l (k:Int) (mh (o+b.len+1) r.flat) M'=M':=fun k hk M'=>BJ l _ _ _ (fun p hp=>by
   have:=qc h6 (by omega) p hp
   rw [<- Bool.not_eq_true,ou];omega)
  have hd:∀ k:Nat,JF l (k:Int) [l9 o x] M=if o<k /\ k <= o+b.len then M * zu x else M:=fun k=>by
   rw [JF,JF]
   have e4:(l9 o x).2.2.1=(o:Int):=rfl
   have e5:(l9 o x).2.2.2=(x.1==8):=rfl
   rw [e4,Qp,a2,e5]
   unfold zu
   by_cases h8:x.1=8
   ·rw [if_pos h8,show (x.1==8)=true by rw [h8];rfl,Bool.true_and]
    by_cases e:o<k /\ k <= o+b.len
    ·rw [if_pos e,show ow (l9 o x) (k:Int)=true by rw [ou];simp only [l9];omega];rfl
    ·rw [if_neg e,show ow (l9 o x) (k:Int)=false by rw [<- Bool.not_eq_true,ou];simp only [l9];omega];rfl
   ·rw [if_neg h8,show (x.1==8)=false by simpa using h8,Bool.false_and,Int.mul_one];simp
  rw [Y3 h1 h2 (by omega),show ∀ a:fq,∀ l,a::l=[a]++l from fun _ _=>rfl,GV,GV,hd,Tr.ts]
  cases j with
  | zero=>rw [List.getD_cons_zero,if_neg (by omega),nb _ (by omega),nr _ (by omega)]
  | succ j =>
   rw [List.getD_cons_succ]
   by_cases e:j<b.len
   ·rw [ny (by rw [qg];exact e),if_pos (by omega),nr _ (by omega),<- D6 _ h5 a4 (by omega) j e]
    congr 2;omega
   ·rw [j6 (by rw [qg];omega),qg,if_neg (by omega),nb _ (by omega),<- D6 M h6 a5 (by omega) (j - b.len) (by omega)]
    congr 2;omega
theorem aa4 {t:Tr} (h:Ok 0 [] false t) (hl:t.len<24):tms t.prog=t.ts 1++[1]:=by
 have hpl:=u7 t
 apply List.ext_getElem (by rw [yt,List.length_append,qg];simp;omega)
 intro n h1 h2
 rw [yt] at h1
 rw [<- getD_in (z:=0) (by rw [yt];exact h1),<- getD_in (z:=0) h2,Y7 h1,aaV (by omega)]
 by_cases e:n<t.len
 ·rw [ny (by rw [qg];exact e),<- D6 (o:=0) 1 h (GU t) (by omega) n e,Nat.zero_add]
 ·have:n=t.len:=by omega
  subst this
  rw [j6 (by rw [qg];omega),qg,Nat.sub_self]
  exact BJ _ _ _ _ (fun p hp=>by
   have:=qc (o:=0) h (by omega) p hp
   rw [<- Bool.not_eq_true,ou];omega)
def Ya (ps:List Int):Tr -> Nat -> Prop
 | .nil,_=>True
 | .one _ r,o=>Ya ps r (o+1)
 | .lk _ b r,o=>ps.getD o 0=((o+b.len+1:Nat):Int) /\ Ya ps b (o+1) /\ Ya ps r (o+b.len+2)
 | .ar _ b r,o=>Ya ps b (o+1) /\ Ya ps r (o+b.len+1)
theorem wh {ps qs:List Int}:∀ (t:Tr) (o:Nat),(∀ k,o <= k -> k<o+t.len -> ps.getD k 0=qs.getD k 0) -> Ya ps t o -> Ya qs t o
 | .nil,_,_,_=>trivial
 | .one _ r,o,h,hp=>wh r (o+1) (fun k h1 h2=>h k (by omega) (by simp only [Tr.len];omega)) hp
 | .lk _ b r,o,h,⟨h1,h2,h3⟩=>⟨by rw [<- h o (by omega) (by simp only [Tr.len];omega)];exact h1,wh b (o+1) (fun k g1 g2=>h k (by omega) (by simp only [Tr.len];omega)) h2,wh r (o+b.len+2) (fun k g1 g2=>h k (by omega) (by simp only [Tr.len];omega)) h3⟩
 | .ar _ b r,o,h,⟨h2,h3⟩=>⟨wh b (o+1) (fun k g1 g2=>h k (by omega) (by simp only [Tr.len];omega)) h2,wh r (o+b.len+1) (fun k g1 g2=>h k (by omega) (by simp only [Tr.len];omega)) h3⟩
theorem D7:∀ (t:Tr) (o:Nat) (out:List Int),o+t.len <= out.length -> Ya (EX t o out) t o
 | .nil,_,_,_=>trivial
 | .one _ r,o,out,h=>D7 r (o+1) out (by simp only [Tr.len] at h;omega)
 | .lk a b r,o,out,h=>by
  simp only [Tr.len] at h
  rw [EX]
  have hb:=E8 b (o+1) out
  refine ⟨?_,?_,D7 r _ _ (by rw [List.length_set];omega)⟩
  ·rw [yj r _ _ o (by omega),nk,if_pos ⟨rfl,by omega⟩]
  ·refine wh b (o+1) (fun k h1 h2=>?_) (D7 b (o+1) out (by omega))
   rw [yj r _ _ k (by omega),nk,if_neg (by omega)]
 | .ar x b r,o,out,h=>by
  simp only [Tr.len] at h
  rw [EX]
  have hb:=E8 b (o+1) out
  refine ⟨?_,D7 r _ _ (by omega)⟩
  refine wh b (o+1) (fun k h1 h2=>?_) (D7 b (o+1) out (by omega))
  rw [yj r _ _ k (by omega)]
def AtI (l:List Int) (o:Nat) (w:List Int):Prop:=o+w.length <= l.length /\ ∀ j,j<w.length -> l.getD (o+j) 0=w.getD j 0
theorem KA {l:List Int} {o:Nat} {x:Int} {w:List Int} (h:AtI l o (x::w)):o<l.length /\ l.getD o 0=x /\ AtI l (o+1) w:=by
 obtain ⟨h1,h2⟩:=h
 simp only [List.length_cons] at h1 h2
 refine ⟨by omega,by simpa using h2 0 (by omega),by omega,fun j hj=>?_⟩
 have:=h2 (j+1) (by omega)
 rw [List.getD_cons_succ] at this
 rw [<- this];congr 1;omega
theorem afA {l:List Int} {o:Nat} {u w:List Int} (h:AtI l o (u++w)):AtI l o u /\ AtI l (o+u.length) w:=by
 obtain ⟨h1,h2⟩:=h
 simp only [List.length_append] at h1 h2
 refine ⟨⟨by omega,fun j hj=>?_⟩,by omega,fun j hj=>?_⟩
 ·rw [h2 j (by omega),ny hj]
 ·rw [show o+u.length+j=o+(u.length+j) by omega,h2 _ (by omega),j6 (by omega)]
  congr 1;omega
theorem amL {l w:List Int} {o:Nat} (h:AtI l o w):sub l (o:Int) ((o+w.length:Nat):Int)=w:=by
 obtain ⟨h1,h2⟩:=h
 simp only [sub,Int.toNat_natCast]
 apply List.ext_getElem (by rw [List.length_drop,List.length_take];omega)
 intro n g1 g2
 rw [List.getElem_drop,List.getElem_take]
 have:=h2 n g2
 rw [getD_in (by omega),getD_in g2] at this
 exact this
theorem EC:∀ {t:Tr} {d:Nat} {hs:List Int} {ia:Bool} {l:List I4} {ts ps:List Int} {o:Nat} {M:Int} (m:Nat) (c1 p:Int) (c2:List (Int×Int)),Ok d hs ia t -> At l o t.flat -> AtI ts o (t.ts M) -> Ya ps t o -> 1 <= M ->
  cg l ts ps (t.len+m) o c1 c2 p=cg l ts ps m (o+t.len) (t.piece M (c1,p)).1 (c2++t.spans) (t.piece M (c1,p)).2
 | .nil,_,_,_,_,_,_,_,_,m,c1,p,c2,_,_,_,_,_=>by simp only [Tr.len,Nat.zero_add,Nat.add_zero,Tr.piece,Tr.spans,List.append_nil]
 | .one x r,_,_,_,l,ts,ps,o,M,m,c1,p,c2,⟨h1,h2,_,h4⟩,ha,ht,hp,hM=>by
  simp only [Tr.len,Tr.ts] at ht ⊢
  obtain ⟨a1,a2,a3⟩:=l7 ha
  obtain ⟨t1,t2,t3⟩:=KA ht
  rw [show r.len+1+m=(r.len+m)+1 by omega,cg,a2,t2,Tr.spans,Tr.piece]
  by_cases e:x.1=11
  ·rw [if_pos (.inl e),if_pos e,EC m _ _ _ h4 a3 t3 hp hM]
   congr 1;omega
  ·rw [if_neg (by rintro (q | q);exact e q;exact h2.1 q),if_neg h2.2.2.2.1,if_neg e,EC m _ _ _ h4 a3 t3 hp hM]
   congr 1;omega
 | .lk a b r,_,_,_,l,ts,ps,o,M,m,c1,p,c2,⟨h1,_,h3,h4⟩,ha,ht,⟨p1,p2,p3⟩,hM=>by
  simp only [Tr.len,Tr.ts] at ht ⊢
  obtain ⟨a1,a2,a3⟩:=l7 ha
  obtain ⟨a4,a5⟩:=za a3
  obtain ⟨a6,a7,a8⟩:=l7 a5
  obtain ⟨t1,t2,t3⟩:=KA ht
  obtain ⟨t4,t5⟩:=afA t3
  obtain ⟨t6,t7,t8⟩:=KA t5
  rw [jo] at a6 a7 a8
  rw [qg] at t6 t7 t8
  have hsub:sub ts ((o+1:Nat):Int) (ps.getD o 0+1)=b.ts M++[M]:=by
   have:AtI ts (o+1) (b.ts M++[M]):=by
    obtain ⟨q1,q2⟩:=t3
    refine ⟨by simp only [List.length_append,List.length_cons,List.length_nil] at q1 ⊢;omega,fun j hj=>?_⟩
    simp only [List.length_append,List.length_cons,List.length_nil] at hj
    rw [q2 j (by simp only [List.length_append,List.length_cons];omega)]
    by_cases e:j<(b.ts M).length
    ·rw [ny e,ny e]
    ·rw [j6 (by omega),j6 (by omega),show j - (b.ts M).length=0 by omega];rfl
   have h:=amL this
   rw [List.length_append,qg] at h
   rw [p1,<- h]
   congr 1
   simp only [List.length_cons,List.length_nil];omega
  have hc:=j4 h3
  have hdiv:Int.tdiv (M * b.cost+M) M=b.cost+1:=by
   rw [show M * b.cost+M=M * (b.cost+1) by grind,Int.mul_tdiv_cancel_left _ (by omega)]
  rw [show b.len+r.len+2+m=(b.len+(r.len+m+1))+1 by omega,cg,a2,t2,if_neg (by simp),if_pos rfl,hsub,J2,FP,sm,sm,Int.add_zero,hdiv]
  rw [EC (r.len+m+1) _ _ _ h3 a4 t4 p2 hM,cg,a7,t7,if_neg (by simp),if_neg (by simp)]
  rw [show o+1+b.len+1=o+b.len+2 by omega] at a8 t8 ⊢
  rw [EC m _ _ _ h4 a8 t8 p3 hM,Tr.spans,Tr.piece]
  congr 1
  ·omega
  ·simp only [List.append_assoc,List.cons_append,List.nil_append]
 | .ar x b r,_,_,_,l,ts,ps,o,M,m,c1,p,c2,⟨⟨h1,h2,h3⟩,_,h5,h6⟩,ha,ht,⟨p2,p3⟩,hM=>by
  simp only [Tr.len,Tr.ts] at ht ⊢
  obtain ⟨a1,a2,a3⟩:=l7 ha
  obtain ⟨a4,a5⟩:=za a3
  obtain ⟨t1,t2,t3⟩:=KA ht
  obtain ⟨t4,t5⟩:=afA t3
  rw [jo,show o+1+b.len=o+b.len+1 by omega] at a5
  rw [qg,show o+1+b.len=o+b.len+1 by omega] at t5
  have e11:¬ (x.1=11 \/ x.1=0):=by rintro (e | e) <;> simp [isA,e] at h2
  have e9:x.1≠9:=by intro e;simp [isA,e] at h2
  have hM2:1 * 1 <= M * zu x:=Int.mul_le_mul hM (GY h1).1 (by omega) (by omega)
  rw [show b.len+r.len+1+m=(b.len+(r.len+m))+1 by omega,cg,a2,t2,if_neg e11,if_neg e9,EC (r.len+m) _ _ _ h5 a4 t4 p2 (by omega)]
  rw [show o+1+b.len=o+b.len+1 by omega,EC m _ _ _ h6 a5 t5 p3 hM,Tr.spans,Tr.piece]
  congr 1
  ·omega
  ·rw [List.append_assoc]
theorem agO {t:Tr} (h:Ok 0 [] false t) (hl:t.len<24):zf t.prog=some (t.cost+1,max (t.piece 1 (0,0)).1 ((t.piece 1 (0,0)).2+1),t.spans):=by
 have g:=Vn h hl
 have ht:=aa4 h hl
 rw [NW g]
 unfold afv
 have hA:AtI (tms t.prog) 0 (t.ts 1):=by
  rw [ht]
  exact ⟨by rw [List.length_append];omega,fun j hj=>by rw [Nat.zero_add,ny hj]⟩
 have h1:=EC (ts:=tms t.prog) (ps:=EX t 0 (List.replicate (t.len+1) 0)) (o:=0) (M:=1) 1 0 0 [] h (GU t) hA (D7 t 0 _ (by simp)) (by omega)
 rw [u7,h1,Nat.zero_add,cg,CZ,if_pos (.inr rfl),cg,List.nil_append]
 have h2:sm (tms t.prog)=t.cost+1:=by rw [ht,J2,FP,sm,sm];omega
 have h3:(tms t.prog).getD t.len 0=1:=by
  rw [ht,j6 (by rw [qg];omega),qg,Nat.sub_self];rfl
 rw [h2,h3]
theorem tq:∀ {t:Tr} {d:Nat} {hs:List Int} {ia:Bool} (M:Int) (s:Int×Int),Ok d hs ia t -> 1 <= M -> 0 <= s.1 -> 0 <= s.2 -> 0 <= (t.piece M s).1 /\ 0 <= (t.piece M s).2 /\ (t.piece M s).1 <= max s.1 (s.2+M * t.cost) /\ (t.piece M s).2 <= s.2+M * t.cost
 | .nil,_,_,_,M,s,_,_,h1,h2=>by simp only [Tr.piece,Tr.cost,Int.mul_zero];omega
 | .one x r,_,_,_,M,s,⟨_,_,_,h4⟩,hM,h1,h2=>by
  have hc:=Int.mul_nonneg (show 0 <= M by omega) (j4 h4)
  rw [Tr.piece,Tr.cost,Int.mul_add,Int.mul_one]
  split
  ·have:=tq (t:=r) M (max s.1 (s.2+M),0) h4 hM (by simp only;omega) (by simp only;omega)
   simp only at this
   omega
  ·have:=tq (t:=r) M (s.1,s.2+M) h4 hM h1 (by simp only;omega)
   simp only at this
   omega
 | .lk a b r,_,_,_,M,s,⟨_,_,h3,h4⟩,hM,h1,h2=>by
  have hc:=Int.mul_nonneg (show 0 <= M by omega) (j4 h4)
  have hcb:=Int.mul_nonneg (show 0 <= M by omega) (j4 h3)
  rw [Tr.piece,Tr.cost,show M * (2+b.cost+r.cost)=M+M+M * b.cost+M * r.cost by grind]
  have q:=tq (t:=b) M (s.1,s.2+M) h3 hM h1 (by simp only;omega)
  simp only at q
  have:=tq (t:=r) M ((b.piece M (s.1,s.2+M)).1,(b.piece M (s.1,s.2+M)).2+M) h4 hM q.1 (by simp only;omega)
  simp only at this
  omega
 | .ar x b r,_,_,_,M,s,⟨hx,_,h3,h4⟩,hM,h1,h2=>by
  have hr:=GY hx.1
  have hM2:1 * 1 <= M * zu x:=Int.mul_le_mul hM hr.1 (by omega) (by omega)
  have hc:=Int.mul_nonneg (show 0 <= M by omega) (j4 h4)
  have hcb:=Int.mul_nonneg (show 0 <= M * zu x by omega) (j4 h3)
  rw [Tr.piece,Tr.cost,show M * (1+zu x * b.cost+r.cost)=M+M * zu x * b.cost+M * r.cost by grind]
  have q:=tq (t:=b) (M * zu x) (s.1,s.2+M) h3 (by omega) h1 (by simp only;omega)
  simp only at q
  have:=tq (t:=r) M (b.piece (M * zu x) (s.1,s.2+M)) h4 hM q.1 q.2.1
  omega
theorem ab3 {t:Tr} (h:Ok 0 [] false t) (hl:t.len<24):0 <= t.cost /\ t.cost+1 <= 9600:=by
 have g:=Vn h hl
 have hs:=ab1 g ((0:Nat):Int) ((tms t.prog).length:Int)
 rw [afz,aa4 h hl,J2,FP,sm,sm] at hs
 have:=j4 h
 omega
def EY (v:Int):Prop:=-9223372036854775808 <= v /\ v <= 9223372036854775807
theorem ED (v:Int):EY (IntKind.i64.wrap v):=by
 unfold IntKind.wrap EY
 have e1:(2 ^ IntKind.i64.bits:Int)=18446744073709551616:=by decide
 have e2:(2 ^ (IntKind.i64.bits - 1):Int)=9223372036854775808:=by decide
 simp only [e1,e2,IntKind.signed,Bool.true_and,decide_eq_true_eq]
 split <;> omega
theorem RP (v:Int):∃ q:Int,IntKind.i64.wrap v=v+q * 18446744073709551616:=by
 unfold IntKind.wrap
 have e1:(2 ^ IntKind.i64.bits:Int)=18446744073709551616:=by decide
 have e2:(2 ^ (IntKind.i64.bits - 1):Int)=9223372036854775808:=by decide
 simp only [e1,e2,IntKind.signed,Bool.true_and,decide_eq_true_eq]
 split
 ·exact ⟨-(v / 18446744073709551616) - 1,by omega⟩
 ·exact ⟨-(v / 18446744073709551616),by omega⟩
theorem amM {v u:Int} (h:EY u) (q:Int) (e:u=v+q * 18446744073709551616):IntKind.i64.wrap v=u:=by
 obtain ⟨q2,h2⟩:=RP v
 have:=ED v
 unfold EY at *
 omega
def RQ (v n:Int):Int:=if n=0 then v else if 0<n then IntKind.i64.wrap (v * 2 ^ n.toNat) else v.fdiv (2 ^ (-n).toNat)
def KC (v n:Int):Int:=if (v % 2 ^ n.toNat) * 2≥2 ^ n.toNat then v % 2 ^ n.toNat - 2 ^ n.toNat else v % 2 ^ n.toNat
theorem Vu {n:Nat} (h:1 <= n):(2:Int) ^ n=2 * 2 ^ (n - 1):=by
 obtain ⟨m,rfl⟩:∃ m,n=m+1:=⟨n - 1,by omega⟩
 rw [Int.pow_succ,Nat.add_sub_cancel];omega
theorem akm {n:Nat} (h:n <= 64):(18446744073709551616:Int)=2 ^ n * 2 ^ (64 - n):=by
 rw [<- Int.pow_add,show n+(64 - n)=64 by omega];decide
abbrev gu:Type:=Int×Int×Int
abbrev Mem:Type:=PN Int 8
abbrev gy:Type:=Int×Mem×List gu×Bool
def mg (mem:Mem) (a:Int):Int:=Uq (α:=Int) 8 mem a 0
def inM (mem:Mem):Prop:=∀ x∈Gv 8 mem,EY x
theorem aoE {mem:Mem} (h:inM mem) (a:Int):EY (mg mem a):=by
 unfold mg Uq
 by_cases e:a.toNat<(Gv 8 mem).length
 ·exact h _ (jh e)
 ·rw [K5 (by omega)];unfold EY;omega
theorem GZ {mem:Mem} (h:inM mem) {a v:Int} (ha:0 <= a) (hv:EY v):inM (Ur (α:=Int) 8 mem a v):=by
 obtain ⟨n,rfl⟩:∃ n:Nat,a=(n:Int):=⟨a.toNat,by omega⟩
 intro x hx
 rw [Vd] at hx
 rcases List.mem_or_eq_of_mem_set hx with h1 | h1
 ·exact h x h1
 ·rw [h1];exact hv
def TV (x:I4) (mem:Mem):Mem :=
 if x.1=1 then Ur (α:=Int) 8 mem x.2.1 x.2.2.2
 else if x.1=2 then Ur (α:=Int) 8 mem x.2.1 (IntKind.i64.wrap (mg mem x.2.1+mg mem x.2.2.1))
 else if x.1=3 then Ur (α:=Int) 8 mem x.2.1 (IntKind.i64.wrap (mg mem x.2.1 - mg mem x.2.2.1))
 else if x.1=4 then Ur (α:=Int) 8 mem x.2.1 (IntKind.i64.wrap (mg mem x.2.1 * mg mem x.2.2.1))
 else if x.1=5 then Ur (α:=Int) 8 mem x.2.1 (RQ (mg mem x.2.1) x.2.2.2)
 else if x.1=6 then Ur (α:=Int) 8 mem x.2.1 (KC (mg mem x.2.1) x.2.2.2)
 else mem
theorem ako {v n:Int} (h:EY v):EY (RQ v n):=by
 unfold RQ
 split
 ·exact h
 ·split
  ·exact ED _
  ·have p:(0:Int)<2 ^ (-n).toNat:=Int.pow_pos (by omega)
   unfold EY at *
   rw [Int.fdiv_eq_ediv_of_nonneg _ (by omega)]
   refine ⟨?_,?_⟩
   ·have h1:-9223372036854775808 * 2 ^ (-n).toNat <= v:=by
     have:(-9223372036854775808:Int) * 2 ^ (-n).toNat <= -9223372036854775808 * 1:=Int.mul_le_mul_of_nonpos_left (by omega) (by omega)
     omega
    exact Int.le_ediv_of_mul_le p h1
   ·by_cases hv:0 <= v
    ·exact Int.le_trans (Int.ediv_le_self _ hv) h.2
    ·have:=Int.ediv_neg_of_neg_of_pos (show v<0 by omega) p
     omega
theorem agP {v n:Int} (h1:1 <= n) (h2:n <= 64):EY (KC v n):=by
 obtain ⟨m,rfl⟩:∃ m:Nat,n=(m:Int):=⟨n.toNat,by omega⟩
 unfold KC
 rw [Int.toNat_natCast]
 have hp0:(0:Int)<2 ^ m:=Int.pow_pos (by omega)
 have hh:=Vu (n:=m) (by omega)
 have hr0:=Int.emod_nonneg v (show (2:Int) ^ m≠0 by omega)
 have hr1:=Int.emod_lt_of_pos v hp0
 have hmax:(2:Int) ^ m <= 18446744073709551616:=by
  have:(2:Nat) ^ m <= 2 ^ 64:=Nat.pow_le_pow_right (by omega) (by omega)
  have h2:((2 ^ m:Nat):Int)=(2:Int) ^ m:=by simp
  have h3:(2:Nat) ^ 64=18446744073709551616:=by decide
  omega
 unfold EY
 split <;> omega
theorem afB {x:I4} (h:kr x=true) (e:x.1=1):(0 <= x.2.1 /\ x.2.1<8) /\ x.2.2.1=0 /\ -2147483648 <= x.2.2.2 /\ x.2.2.2 <= 2147483647:=by
 simpa [kr,e,zo,CK] using h
theorem EF {x:I4} (h:kr x=true) (e:x.1=2 \/ x.1=3 \/ x.1=4):(0 <= x.2.1 /\ x.2.1<8) /\ (0 <= x.2.2.1 /\ x.2.2.1<8) /\ x.2.2.2=0:=by
 rcases e with e | e | e <;> simpa [kr,e,zo,CK] using h
theorem MO {x:I4} (h:kr x=true) (e:x.1=5):(0 <= x.2.1 /\ x.2.1<8) /\ x.2.2.1=0 /\ -63 <= x.2.2.2 /\ x.2.2.2 <= 63:=by
 simpa [kr,e,zo,CK] using h
theorem J3 {x:I4} (h:kr x=true) (e:x.1=6):(0 <= x.2.1 /\ x.2.1<8) /\ x.2.2.1=0 /\ 1 <= x.2.2.2 /\ x.2.2.2 <= 64:=by
 simpa [kr,e,zo,CK] using h
theorem aa5 {x:I4} (h:kr x=true) (e:x.1=7):(0 <= x.2.1 /\ x.2.1<8) /\ x.2.2.1=0 /\ 1 <= x.2.2.2 /\ x.2.2.2 <= 24:=by
 simpa [kr,e,zo,CK] using h
theorem akp {x:I4} {mem:Mem} (hx:kr x=true) (h:inM mem):inM (TV x mem):=by
 unfold TV
 split
 ·rename_i e;have:=afB hx e;exact GZ h this.1.1 (by unfold EY;omega)
 ·split
  ·rename_i e;exact GZ h (EF hx (.inl e)).1.1 (ED _)
  ·split
   ·rename_i e;exact GZ h (EF hx (.inr (.inl e))).1.1 (ED _)
   ·split
    ·rename_i e;exact GZ h (EF hx (.inr (.inr e))).1.1 (ED _)
    ·split
     ·rename_i e;exact GZ h (MO hx e).1.1 (ako (aoE h _))
     ·split
      ·rename_i e;have:=J3 hx e;exact GZ h this.1.1 (agP this.2.2.1 this.2.2.2)
      ·exact h
def qp (pc:Int):List gu -> Int×List gu
 | []=>(pc,[])
 | r::rest=>if r.2.1<pc then (if r.2.2>0 then (r.1,(r.1,r.2.1,r.2.2 - 1)::rest) else qp pc rest) else (pc,r::rest)
def gU (x:I4) (pc:Int) (mem:Mem) (R:List gu):Int×List gu :=
 if x.1=0 then (pc,R)
 else if x.1=7 then (if mg mem x.2.1=0 then (pc+1+x.2.2.2,R) else (pc+1,R))
 else if x.1=8 then (pc+1,(pc+1,pc+x.2.2.1,x.2.2.2 - 1)::R)
 else (pc+1,R)
def go (x:I4) (pc:Int) (mem:Mem) (R:List gu):Int×List gu:=qp (gU x pc mem R).1 (gU x pc mem R).2
inductive Run (l:List I4):Nat -> Mem -> List gu -> List I4 -> Nat -> Mem -> List gu -> Prop
 | nil (n:Nat) (mem:Mem) (R:List gu):Run l n mem R [] n mem R
 | cons {n:Nat} {mem:Mem} {R:List gu} {x:I4} {n1:Nat} {R1:List gu} {tr:List I4} {n2:Nat} {mem2:Mem} {R2:List gu}:n<l.length -> l.getD n i0=x -> x.1≠0 -> R.length <= 2 -> (∀ r∈R,r.2.2 <= 1000) -> go x n mem R=((n1:Int),R1) -> (x.1=11 -> R1=[]) ->
   Run l n1 (TV x mem) R1 tr n2 mem2 R2 -> Run l n mem R (x::tr) n2 mem2 R2
theorem Run.app {l:List I4} {n:Nat} {mem:Mem} {R:List gu} {t1:List I4} {n1:Nat} {mem1:Mem} {R1:List gu} {t2:List I4} {n2:Nat} {mem2:Mem} {R2:List gu} (h1:Run l n mem R t1 n1 mem1 R1) (h2:Run l n1 mem1 R1 t2 n2 mem2 R2):Run l n mem R (t1++t2) n2 mem2 R2:=by
 induction h1 with
 | nil=>exact h2
 | cons a b c d e f g _ ih=>exact .cons a b c d e f g (ih h2)
def rpt (f:Mem -> List I4×Mem):Nat -> Mem -> List I4×Mem
 | 0,m=>([],m)
 | n+1,m=>((f m).1++(rpt f n (f m).2).1,(rpt f n (f m).2).2)
def C9:Tr -> Mem -> List I4×Mem
 | .nil,m=>([],m)
 | .one x r,m=>(x::(C9 r (TV x m)).1,(C9 r (TV x m)).2)
 | .lk a b r,m=>((9,a,0,0)::((C9 b m).1++((10,a,0,0)::(C9 r (C9 b m).2).1)),(C9 r (C9 b m).2).2)
 | .ar x b r,m =>
  let p:=if x.1=7 then (if mg m x.2.1=0 then ([],m) else C9 b m) else rpt (C9 b) x.2.2.2.toNat m
  (x::(p.1++(C9 r p.2).1),(C9 r p.2).2)
def zh (l:List I4) (o:Nat) (mem:Mem) (R:List gu) (tr:List I4) (o2:Nat) (mem2:Mem) (R2:List gu):Prop :=
 ∀ (n1:Nat) (R1:List gu),qp (o:Int) R=((n1:Int),R1) -> ∃ (n2:Nat) (R3:List gu),qp (o2:Int) R2=((n2:Int),R3) /\ Run l n1 mem R1 tr n2 mem2 R3
theorem zh.nil {l:List I4} {o:Nat} {mem:Mem} {R:List gu}:zh l o mem R [] o mem R:=fun n1 R1 h=>⟨n1,R1,h,.nil _ _ _⟩
theorem zh.app {l:List I4} {o:Nat} {mem:Mem} {R:List gu} {t1:List I4} {o1:Nat} {mem1:Mem} {R1:List gu} {t2:List I4} {o2:Nat} {mem2:Mem} {R2:List gu} (h1:zh l o mem R t1 o1 mem1 R1) (h2:zh l o1 mem1 R1 t2 o2 mem2 R2):zh l o mem R (t1++t2) o2 mem2 R2:=fun n1 R3 h=>by
 obtain ⟨n2,R4,g1,g2⟩:=h1 n1 R3 h
 obtain ⟨n3,R5,g3,g4⟩:=h2 n2 R4 g1
 exact ⟨n3,R5,g3,g2.app g4⟩
def Cov (R:List gu) (e:Nat):Prop:=∀ r∈R.head?,(e:Int) <= r.2.1+1
theorem agR {R:List gu} {o:Nat} (h:Cov R (o+1)):qp (o:Int) R=((o:Int),R):=by
 cases R with
 | nil=>rfl
 | cons r R=>rw [qp,if_neg];have:=h r (by simp);omega
theorem zi {R:List gu} {a b:Nat} (h:Cov R a) (hb:b <= a):Cov R b:=fun r hr=>by have:=h r hr;omega
def Few (d:Nat) (ia:Bool) (R:List gu):Prop:=(R.length <= d /\ d <= 2) /\ (∀ r∈R,r.2.2 <= 1000) /\ (ia=false -> R=[]) /\ ∀ r∈R,0 <= r.1
theorem zh.step {l:List I4} {o:Nat} {mem:Mem} {R:List gu} {x:I4} {o1:Nat} {R1:List gu} (hn:o<l.length) (hx:l.getD o i0=x) (h0:x.1≠0) (hR:R.length <= 2) (hb:∀ r∈R,r.2.2 <= 1000) (hc:Cov R (o+1)) (hnx:gU x o mem R=((o1:Int),R1)) (hm:x.1=11 -> (qp (o1:Int) R1).2=[]) (hpos:0 <= (qp (o1:Int) R1).1) :
  zh l o mem R [x] o1 (TV x mem) R1:=fun n1 R2 h=>by
 rw [agR hc] at h
 injection h with h1 h2
 subst h2
 have:n1=o:=by omega
 subst this
 refine ⟨(qp (o1:Int) R1).1.toNat,(qp (o1:Int) R1).2,?_,?_⟩
 ·exact Prod.ext (by simp only;omega) rfl
 ·refine .cons hn hx h0 hR hb ?_ hm (.nil _ _ _)
  unfold go
  rw [hnx]
  exact Prod.ext (by simp only;omega) rfl
theorem BK:∀ {R:List gu} {pc:Int},0 <= pc -> (∀ r∈R,0 <= r.1) -> 0 <= (qp pc R).1
 | [],_,h,_=>h
 | r::R,pc,h,hr=>by
  rw [qp]
  split
  ·split
   ·exact hr r List.mem_cons_self
   ·exact BK h (fun q hq=>hr q (List.mem_cons_of_mem _ hq))
  ·exact h
theorem zh.congr {l:List I4} {o:Nat} {mem:Mem} {R:List gu} {tr:List I4} {o2:Nat} {mem2:Mem} {R2:List gu} {o3:Nat} {R3:List gu} (h:zh l o mem R tr o2 mem2 R2) (e:qp (o2:Int) R2=qp (o3:Int) R3):zh l o mem R tr o3 mem2 R3:=fun n1 R1 g=>by
 obtain ⟨n2,R4,g1,g2⟩:=h n1 R1 g
 exact ⟨n2,R4,by rw [<- e];exact g1,g2⟩
theorem afC {l:List I4} {o:Nat} {R:List gu} {b:Tr} (hlen:1 <= b.len)
  (hb:∀ (mem:Mem) (m:Nat),m <= 20 -> zh l (o+1) mem ((((o+1:Nat):Int),((o+b.len:Nat):Int),(m:Int))::R) (C9 b mem).1 (o+1+b.len) (C9 b mem).2 ((((o+1:Nat):Int),((o+b.len:Nat):Int),(m:Int))::R)) :
  ∀ (m:Nat) (mem:Mem),m <= 20 -> zh l (o+1) mem ((((o+1:Nat):Int),((o+b.len:Nat):Int),(m:Int))::R) (rpt (C9 b) (m+1) mem).1 (o+1+b.len) (rpt (C9 b) (m+1) mem).2 R
 | 0,mem,hm=>by
  have h1:=hb mem 0 hm
  have h2:=h1.congr (o3:=o+1+b.len) (R3:=R) (by rw [qp,if_pos (by simp only;omega),if_neg (by simp)])
  simp only [rpt,List.append_nil]
  exact h2
 | m+1,mem,hm=>by
  have h1:=hb mem (m+1) hm
  have h2:=h1.congr (o3:=o+1) (R3:=(((o+1:Nat):Int),((o+b.len:Nat):Int),(m:Int))::R) (by
   rw [qp,if_pos (by simp only;omega),if_pos (by simp only;omega),qp,if_neg (by simp only;omega)]
   simp only [Prod.mk.injEq,List.cons.injEq,true_and,and_true];omega)
  have h3:=afC hlen hb m (C9 b mem).2 (by omega)
  have:=h2.app h3
  rw [rpt];exact this
theorem yu:∀ {t:Tr} {d:Nat} {hs:List Int} {ia:Bool} {l:List I4} {o:Nat} (mem:Mem) (R:List gu),Ok d hs ia t -> At l o t.flat -> Cov R (o+t.len) -> Few d ia R -> zh l o mem R (C9 t mem).1 (o+t.len) (C9 t mem).2 R
 | .nil,_,_,_,_,_,mem,R,_,_,_,_=>zh.nil
 | .one x r,d,_,ia,l,o,mem,R,⟨h1,h2,h3,h4⟩,ha,hc,hf=>by
  simp only [Tr.len] at hc ⊢
  obtain ⟨a1,a2,a3⟩:=l7 ha
  have ih:=yu (TV x mem) R h4 a3 (zi hc (by omega)) hf
  have hst:zh l o mem R [x] (o+1) (TV x mem) R:=zh.step a1 a2 h2.1 (by have:=hf.1;omega) hf.2.1 (zi hc (by omega)) (by
   unfold gU;rw [if_neg h2.1,if_neg h2.2.1,if_neg h2.2.2.1];congr 1) (fun e=>by rw [hf.2.2.1 (h3 e).1];rfl) (BK (by omega) hf.2.2.2)
  rw [show o+(r.len+1)=o+1+r.len by omega]
  exact hst.app ih
 | .lk a b r,d,_,ia,l,o,mem,R,⟨h1,h2,h3,h4⟩,ha,hc,hf=>by
  simp only [Tr.len] at hc ⊢
  obtain ⟨a1,a2,a3⟩:=l7 ha
  obtain ⟨a4,a5⟩:=za a3
  obtain ⟨a6,a7,a8⟩:=l7 a5
  rw [jo] at a6 a7 a8
  have s1:zh l o mem R [(9,a,0,0)] (o+1) mem R:=zh.step a1 a2 (by simp) (by have:=hf.1;omega) hf.2.1 (zi hc (by omega)) (by
   unfold gU;rw [if_neg (by simp),if_neg (by simp),if_neg (by simp)];congr 1) (fun e=>by simp at e) (BK (by omega) hf.2.2.2)
  have s2:=yu mem R h3 a4 (zi hc (by omega)) hf
  have s3:zh l (o+1+b.len) (C9 b mem).2 R [(10,a,0,0)] (o+1+b.len+1) (C9 b mem).2 R:=zh.step a6 a7 (by simp) (by have:=hf.1;omega) hf.2.1 (zi hc (by omega)) (by
   unfold gU;rw [if_neg (by simp),if_neg (by simp),if_neg (by simp)];congr 1) (fun e=>by simp at e) (BK (by omega) hf.2.2.2)
  have s4:=yu (C9 b mem).2 R h4 a8 (zi hc (by omega)) hf
  rw [show o+(b.len+r.len+2)=o+1+b.len+1+r.len by omega]
  have:=s1.app (s2.app (s3.app s4))
  exact this
 | .ar x b r,d,hs,ia,l,o,mem,R,⟨⟨h1,h2,h3⟩,h4,h5,h6⟩,ha,hc,hf=>by
  simp only [Tr.len] at hc ⊢
  obtain ⟨a1,a2,a3⟩:=l7 ha
  obtain ⟨a4,a5⟩:=za a3
  rw [jo] at a5
  have hw:=yh h1 h2
  have x0:x.1≠0:=fun e=>by simp [isA,e] at h2
  have x11:x.1≠11:=fun e=>by simp [isA,e] at h2
  rw [show o+(b.len+r.len+1)=o+1+b.len+r.len by omega]
  by_cases e7:x.1=7
  ·have heff:TV x mem=mem:=by
    unfold TV;rw [if_neg (by omega),if_neg (by omega),if_neg (by omega),if_neg (by omega),if_neg (by omega),if_neg (by omega)]
   have e8:(x.1==8)=false:=by rw [e7];rfl
   rw [e8,cond_false] at h5
   have hN:=hw.2.2.2 e7
   have htr:C9 (.ar x b r) mem=(x::((if mg mem x.2.1=0 then (([]:List I4),mem) else C9 b mem).1++(C9 r (if mg mem x.2.1=0 then (([]:List I4),mem) else C9 b mem).2).1),(C9 r (if mg mem x.2.1=0 then (([]:List I4),mem) else C9 b mem).2).2):=by
    simp only [C9,if_pos e7]
   rw [htr]
   by_cases em:mg mem x.2.1=0
   ·simp only [if_pos em]
    have s1:zh l o mem R [x] (o+1+b.len) (TV x mem) R:=zh.step a1 a2 x0 (by have:=hf.1;omega) hf.2.1 (zi hc (by omega)) (by
     unfold gU;rw [if_neg x0,if_pos e7,if_pos em];congr 1;omega) (fun e=>absurd e x11) (BK (by omega) hf.2.2.2)
    rw [heff] at s1
    have s4:=yu mem R h6 a5 (zi hc (by omega)) hf
    exact s1.app s4
   ·simp only [if_neg em]
    have s1:zh l o mem R [x] (o+1) (TV x mem) R:=zh.step a1 a2 x0 (by have:=hf.1;omega) hf.2.1 (zi hc (by omega)) (by
     unfold gU;rw [if_neg x0,if_pos e7,if_neg em];congr 1) (fun e=>absurd e x11) (BK (by omega) hf.2.2.2)
    rw [heff] at s1
    have hf2:Few d true R:=⟨hf.1,hf.2.1,fun e=>by (cases e),hf.2.2.2⟩
    have s2:=yu mem R h5 a4 (zi hc (by omega)) hf2
    have s4:=yu (C9 b mem).2 R h6 a5 (zi hc (by omega)) hf
    exact s1.app (s2.app s4)
  ·have e8:x.1=8:=by simp only [isA,Bool.or_eq_true,beq_iff_eq] at h2;omega
   have heff:TV x mem=mem:=by
    unfold TV;rw [if_neg (by omega),if_neg (by omega),if_neg (by omega),if_neg (by omega),if_neg (by omega),if_neg (by omega)]
   have e8':(x.1==8)=true:=by rw [e8];rfl
   rw [e8',cond_true] at h5
   have hN:=ab0 h1 e8
   have hB:=hw.2.2.1 e8
   have hd:=h4 e8
   have htr:C9 (.ar x b r) mem=(x::((rpt (C9 b) x.2.2.2.toNat mem).1++(C9 r (rpt (C9 b) x.2.2.2.toNat mem).2).1),(C9 r (rpt (C9 b) x.2.2.2.toNat mem).2).2):=by
    simp only [C9,if_neg e7]
   rw [htr]
   have aq4:∀ m:Nat,m <= 20 -> Few (d+1) true ((((o+1:Nat):Int),((o+b.len:Nat):Int),(m:Int))::R):=fun m hm=>by
    obtain ⟨q1,q2,q3,q4⟩:=hf
    refine ⟨⟨by simp only [List.length_cons];omega,by omega⟩,fun r hr=>?_,fun e=>by (cases e),fun r hr=>?_⟩
    ·rcases List.mem_cons.1 hr with rfl | hr
     ·simp only;omega
     ·exact q2 r hr
    ·rcases List.mem_cons.1 hr with rfl | hr
     ·simp only;omega
     ·exact q4 r hr
   have s1:zh l o mem R [x] (o+1) (TV x mem) ((((o+1:Nat):Int),((o+b.len:Nat):Int),((x.2.2.2.toNat - 1:Nat):Int))::R):=zh.step a1 a2 x0 (by have:=hf.1;omega) hf.2.1 (zi hc (by omega)) (by
    unfold gU;rw [if_neg x0,if_neg e7,if_pos e8]
    simp only [Prod.mk.injEq,List.cons.injEq,and_true];omega) (fun e=>absurd e x11) (BK (by omega) (aq4 (x.2.2.2.toNat - 1) (by omega)).2.2.2)
   rw [heff] at s1
   have s2:=afC (l:=l) (o:=o) (R:=R) (b:=b) (by omega) (fun mem m hm=>yu mem _ h5 a4 (fun r hr=>by
    simp only [List.head?_cons,Option.mem_def,Option.some.injEq] at hr
    subst hr;simp only;omega) (aq4 m hm)) (x.2.2.2.toNat - 1) mem (by omega)
   rw [show x.2.2.2.toNat - 1+1=x.2.2.2.toNat by omega] at s2
   have s4:=yu (rpt (C9 b) x.2.2.2.toNat mem).2 R h6 a5 (zi hc (by omega)) hf
   exact s1.app (s2.app s4)
theorem akq {t:Tr} (h:Ok 0 [] false t) (mem:Mem):Run t.prog 0 mem [] (C9 t mem).1 t.len (C9 t mem).2 []:=by
 have:=yu (o:=0) mem [] h (GU t) (fun r hr=>by (cases hr)) ⟨⟨by simp,by omega⟩,by simp,fun _=>rfl,by simp⟩
 obtain ⟨n2,R3,h1,h2⟩:=this 0 [] rfl
 rw [Nat.zero_add] at h1
 injection h1 with h3 h4
 subst h4
 have:n2=t.len:=by omega
 subst this
 exact h2
def hld:List Int -> List I4 -> Option (List Int)
 | hs,[]=>some hs
 | hs,x::r=>if x.1=9 then (if hs.length<2 /\ x.2.1 ∉ hs then hld (hs++[x.2.1]) r else none)
  else if x.1=10 then (if hs.getLast? = some x.2.1 then hld hs.dropLast r else none)
  else if x.1=11 then (if hs=[] then hld hs r else none)
  else hld hs r
theorem EG:∀ (a b:List I4) (hs:List Int),hld hs (a++b)=(hld hs a).bind (fun hs=>hld hs b)
 | [],b,hs=>rfl
 | x::a,b,hs=>by
  rw [List.cons_append,hld,hld]
  split
  ·split
   ·exact EG a b _
   ·rfl
  ·split
   ·split
    ·exact EG a b _
    ·rfl
   ·split
    ·split
     ·exact EG a b _
     ·rfl
    ·exact EG a b _
theorem afD {f:Mem -> List I4×Mem} {hs:List Int} (hf:∀ m,hld hs (f m).1=some hs):∀ (n:Nat) (m:Mem),hld hs (rpt f n m).1=some hs
 | 0,m=>rfl
 | n+1,m=>by rw [rpt,EG,hf m,Option.bind_some,afD hf n]
theorem CB:∀ {t:Tr} {d:Nat} {hs:List Int} {ia:Bool} (mem:Mem),Ok d hs ia t -> hld hs (C9 t mem).1=some hs
 | .nil,_,_,_,mem,_=>rfl
 | .one x r,_,_,_,mem,⟨_,h2,h3,h4⟩=>by
  simp only [C9]
  rw [hld,if_neg h2.2.2.2.1,if_neg h2.2.2.2.2]
  have:=CB (TV x mem) h4
  by_cases e:x.1=11
  ·rw [if_pos e,if_pos (h3 e).2];exact this
  ·rw [if_neg e];exact this
 | .lk a b r,_,hs,_,mem,⟨_,h2,h3,h4⟩=>by
  simp only [C9]
  rw [hld,if_pos rfl,if_pos ⟨h2.2,h2.1⟩,EG,CB mem h3,Option.bind_some,hld,if_neg (by simp),if_pos rfl,if_pos (by simp)]
  simp only [List.dropLast_concat]
  exact CB _ h4
 | .ar x b r,_,hs,_,mem,⟨h1,_,h3,h4⟩=>by
  have hA:=h1.2.1
  have e9:x.1≠9:=fun e=>by simp [isA,e] at hA
  have e10:x.1≠10:=fun e=>by simp [isA,e] at hA
  have e11:x.1≠11:=fun e=>by simp [isA,e] at hA
  have hb:=fun m=>CB m h3
  simp only [C9]
  rw [hld,if_neg e9,if_neg e10,if_neg e11,EG]
  split
  ·split
   ·rw [hld,Option.bind_some];exact CB _ h4
   ·rw [hb,Option.bind_some];exact CB _ h4
  ·rw [afD hb,Option.bind_some];exact CB _ h4
theorem RU {l:List I4}:∀ (a b i:Nat) (s:List Int×List Int),vv l (a+b) i s=(vv l a i s).bind (vv l b (i+a))
 | 0,b,i,s=>by rw [Nat.zero_add,vv];rfl
 | a+1,b,i,s=>by
  rw [show a+1+b=(a+b)+1 by omega,vv,vv]
  cases h:kg l i s with
  | none=>rfl
  | some t=>rw [Option.bind_some,Option.bind_some,RU a b (i+1) t,show i+1+a=i+(a+1) by omega]
theorem aa6 {l:List I4} {i:Nat} {s s':List Int×List Int} (hi:PrI l i s.1 s.2) (h:kg l i s=some s'):∀ k:Nat,k<i -> uq l 9 k -> (k:Int) ∉ s.2 -> s'.1.getD k 0=s.1.getD k 0 /\ (k:Int) ∉ s'.2:=by
 intro k hk h9 ho
 unfold kg at h
 split at h
 ·split at h
  ·cases h
  ·injection h with h;subst h
   refine ⟨rfl,fun h2=>?_⟩
   rcases List.mem_append.1 h2 with h2 | h2
   ·exact ho h2
   ·have:=List.mem_singleton.1 h2;omega
 ·split at h
  ·split at h
   ·cases h
   ·rename_i x hx
    split at h
    ·cases h
    ·injection h with h;subst h
     have hxm:=List.mem_of_getLast? hx
     have:=hi.small x hxm
     obtain ⟨n,rfl⟩:∃ n:Nat,x=(n:Int):=⟨x.toNat,by omega⟩
     refine ⟨?_,fun h2=>ho ((List.dropLast_sublist _).subset h2)⟩
     show (upd s.1 (n:Int) (i:Int)).getD k 0=_
     rw [Mj,nk,if_neg]
     rintro ⟨rfl,_⟩
     exact ho hxm
  ·injection h with h;subst h;exact ⟨rfl,ho⟩
theorem H6 {l:List I4}:∀ (m i:Nat) (s s':List Int×List Int),i+m <= l.length -> PrI l i s.1 s.2 -> vv l m i s=some s' -> ∀ k:Nat,k<i -> uq l 9 k -> (k:Int) ∉ s.2 -> s'.1.getD k 0=s.1.getD k 0
 | 0,i,s,s',_,_,h,k,_,_,_=>by injection h with h;subst h;rfl
 | m+1,i,s,s',hm,hi,h,k,hk,h9,ho=>by
  rw [vv,Option.bind_eq_some_iff] at h
  obtain ⟨t,h1,h2⟩:=h
  have:=aa6 hi h1 k hk h9 ho
  rw [H6 m (i+1) t s' (by omega) (FN (by omega) hi h1) h2 k (by omega) h9 this.2,this.1]
theorem aq5 {l:List I4} {ps:List Int} (h:prs l=some ps) {n:Nat} (hn:n <= l.length):∃ s:List Int×List Int,PrI l n s.1 s.2 /\ vv l (l.length - n) n s=some (ps,[]) /\ ∀ k,k<n -> uq l 9 k -> ((k:Int)∈s.2↔(n:Int) <= ps.getD k 0):=by
 have hg:=abY h
 have h0:PrI l 0 (List.replicate l.length 0) []:=⟨by simp,List.Pairwise.nil,(fun _ h=>by cases h),(fun _ h=>by cases h),fun _ h=>by omega,fun _ _ _ h=>by omega,fun _ _ _ h=>by omega,rfl⟩
 rw [show l.length=n+(l.length - n) by omega,RU,Nat.zero_add,Option.bind_eq_some_iff] at hg
 obtain ⟨s,h1,h2⟩:=hg
 have hinv:∀ (m i:Nat) (s s':List Int×List Int),i+m <= l.length -> PrI l i s.1 s.2 -> vv l m i s=some s' -> PrI l (i+m) s'.1 s'.2:=by
  intro m
  induction m with
  | zero=>intro i s s' _ hi h;injection h with h;subst h;exact hi
  | succ m ih =>
   intro i s s' hm hi h
   rw [vv,Option.bind_eq_some_iff] at h
   obtain ⟨t,h1,h2⟩:=h
   have:=ih (i+1) t s' (by omega) (FN (by omega) hi h1) h2
   rw [show i+(m+1)=i+1+m by omega];exact this
 have hln:n+(l.length - n)=l.length:=by omega
 rw [hln] at h1
 have hs:=hinv n 0 _ s (by omega) h0 h1
 rw [Nat.zero_add] at hs
 refine ⟨s,hs,h2,fun k hk h9=>?_⟩
 constructor
 ·intro ho
  -- it is closed behind
  have hfin:=Y6 h
  obtain ⟨u,g1,g2,g3,_⟩:=hfin.closed k (by omega) h9 (by simp)
  rw [g1]
  have key:∀ (m i:Nat) (s s':List Int×List Int),i+m <= l.length -> PrI l i s.1 s.2 -> vv l m i s=some s' -> (k:Int)∈s.2 -> (k:Int)∈s'.2 \/ (i:Int) <= s'.1.getD k 0:=by
   intro m
   induction m with
   | zero=>intro i s s' _ _ h ho;injection h with h;subst h;exact .inl ho
   | succ m ih =>
    intro i s s' hm hi h ho
    rw [vv,Option.bind_eq_some_iff] at h
    obtain ⟨t,h1,h2⟩:=h
    have hi':=FN (by omega) hi h1
    by_cases e:(k:Int)∈t.2
    ·rcases ih (i+1) t s' (by omega) hi' h2 e with q | q
     ·exact .inl q
     ·exact .inr (by omega)
    ·right
     have hkl:=hi.small _ ho
     rw [H6 m (i+1) t s' (by omega) hi' h2 k (by omega) h9 e]
     -- it was closed at i
     unfold kg at h1
     split at h1
     ·split at h1
      ·cases h1
      ·injection h1 with h1;subst h1
       exact absurd (List.mem_append_left _ ho) e
     ·split at h1
      ·split at h1
       ·cases h1
       ·rename_i x hx
        split at h1
        ·cases h1
        ·injection h1 with h1;subst h1
         have hxm:=hi.small x (List.mem_of_getLast? hx)
         obtain ⟨n',rfl⟩:∃ n':Nat,x=(n':Int):=⟨x.toNat,by omega⟩
         have hlen:=hi.len
         show (i:Int) <= (upd s.1 (n':Int) (i:Int)).getD k 0
         have hkn:n'=k:=by
          by_cases hq:n'=k
          ·exact hq
          ·exfalso;apply e
           obtain ⟨r,hr⟩:∃ r,s.2=r++[(n':Int)]:=by
            rcases List.eq_nil_or_concat s.2 with e | ⟨r,y,e⟩
            ·rw [e] at hx;cases hx
            ·rw [List.concat_eq_append] at e
             rw [e] at hx;simp at hx;subst hx;exact ⟨r,e⟩
           show (k:Int)∈s.2.dropLast
           rw [hr] at ho ⊢
           rw [List.dropLast_concat]
           rcases List.mem_append.1 ho with h | h
           ·exact h
           ·have:=List.mem_singleton.1 h;omega
         rw [Mj,nk,if_pos ⟨hkn,by omega⟩];omega
      ·injection h1 with h1;subst h1;exact absurd ho e
  rcases key (l.length - n) n s (ps,[]) (by omega) hs h2 ho with q | q
  ·cases q
  ·simp only at q;omega
 ·intro hge
  by_cases ho:(k:Int)∈s.2
  ·exact ho
  ·obtain ⟨u,g1,g2,g3,_⟩:=hs.closed k hk h9 ho
   have:=H6 (l.length - n) n s (ps,[]) (by omega) hs h2 k hk h9 ho
   simp only at this
   omega
structure Prs (l:List I4) (ps:List Int):Prop where
 lock:∀ n,n<l.length -> uq l 9 n -> ∃ u:Nat,ps.getD n 0=(u:Int) /\ n<u /\ u<l.length /\ uq l 10 u /\ wu l u=wu l n
 nest:∀ k j,k<j -> j<l.length -> uq l 9 k -> uq l 9 j -> (j:Int)<ps.getD k 0 -> ps.getD j 0<ps.getD k 0 /\ wu l k≠wu l j
 two:∀ a b n,a<b -> b<n -> n<l.length -> uq l 9 a -> uq l 9 b -> uq l 9 n -> (n:Int)<ps.getD a 0 -> (n:Int)<ps.getD b 0 -> False
 unlock:∀ u,u<l.length -> uq l 10 u -> ∃ n,n<u /\ uq l 9 n /\ ps.getD n 0=(u:Int)
 area:∀ n,n<l.length -> uq l 9 n -> ∀ u:Nat,ps.getD n 0=(u:Int) -> FM l n u=false
theorem agS {l:List I4} {ps:List Int} (h:prs l=some ps):Prs l ps:=by
 have hf:=Y6 h
 have akr:∀ n,n<l.length -> ∃ s t:List Int×List Int,PrI l n s.1 s.2 /\ kg l n s=some t /\ PrI l (n+1) t.1 t.2 /\ vv l (l.length - (n+1)) (n+1) t=some (ps,[]) /\ ∀ k,k<n -> uq l 9 k -> ((k:Int)∈s.2↔(n:Int) <= ps.getD k 0):=fun n hn=>by
  obtain ⟨s,h1,h2,h3⟩:=aq5 h (n:=n) (by omega)
  rw [show l.length - n=(l.length - (n+1))+1 by omega,vv,Option.bind_eq_some_iff] at h2
  obtain ⟨t,h4,h5⟩:=h2
  exact ⟨s,t,h1,h4,FN hn h1 h4,h5,h3⟩
 have unl:∀ u,u<l.length -> uq l 10 u -> ∃ n,n<u /\ uq l 9 n /\ ps.getD n 0=(u:Int) /\ FM l n u=false:=fun u hu h10=>by
  obtain ⟨s,t,h1,h2,h3,h4,h5⟩:=akr u hu
  have agN:(l.getD u i0).1=10:=h10
  unfold kg at h2
  rw [if_neg (by rw [agN];decide),if_pos agN] at h2
  split at h2
  ·cases h2
  ·rename_i x hx
   split at h2
   ·cases h2
   ·rename_i hc
    injection h2 with h2;subst h2
    have hxm:=List.mem_of_getLast? hx
    have hsm:=h1.small x hxm
    obtain ⟨n,rfl⟩:∃ n:Nat,x=(n:Int):=⟨x.toNat,by omega⟩
    have hl:=h1.lock n hxm
    have hlen:=h1.len
    refine ⟨n,by omega,hl,?_,?_⟩
    ·have hno:(n:Int) ∉ s.2.dropLast:=by
      have hsort:=h1.sorted
      obtain ⟨r,hr⟩:∃ r,s.2=r++[(n:Int)]:=by
       rcases List.eq_nil_or_concat s.2 with e | ⟨r,y,e⟩
       ·rw [e] at hx;cases hx
       ·rw [List.concat_eq_append] at e
        rw [e] at hx;simp at hx;subst hx;exact ⟨r,e⟩
      rw [hr,List.pairwise_append] at hsort
      rw [hr,List.dropLast_concat]
      intro e
      have:=hsort.2.2 _ e (n:Int) (by simp);omega
     have:=H6 (l.length - (u+1)) (u+1) (upd s.1 (n:Int) (u:Int),s.2.dropLast) (ps,[]) (by omega) h3 h4 n (by omega) hl hno
     simp only at this
     rw [this,Mj,nk,if_pos ⟨rfl,by omega⟩]
    ·cases hs:FM l n u with
     | false=>rfl
     | true=>exact absurd (.inr (by rw [Int.toNat_natCast];exact hs)) hc
 refine ⟨fun n hn h9=>?_,fun k j hkj hj h1 h2 h3=>?_,fun a b n hab hbn hn h1 h2 h3 h4 h5=>?_,fun u hu h10=>?_,fun n hn h9 u hu=>?_⟩
 ·exact hf.closed n hn h9 (by simp)
 ·obtain ⟨_,q2,q3⟩:=hf.nest k j hkj hj h1 h2 (by simp) h3
  exact ⟨q2,q3⟩
 ·obtain ⟨s,t,g1,g2,_,_,g5⟩:=akr n hn
  have ha:=(g5 a (by omega) h1).2 (by omega)
  have hb:=(g5 b hbn h2).2 (by omega)
  have h9:(l.getD n i0).1=9:=h3
  unfold kg at g2
  rw [if_pos h9] at g2
  split at g2
  ·cases g2
  ·rename_i hc
   have hlt:s.2.length<2:=by
    by_cases e:s.2.length<2
    ·exact e
    ·exact absurd (.inl (by omega)) hc
   match hs:s.2,ha,hb,hlt with
   | [],ha,_,_=>cases ha
   | [y],ha,hb,_ =>
    have e1:=List.mem_singleton.1 ha
    have e2:=List.mem_singleton.1 hb
    omega
   | y::z::r,_,_,hlt=>simp only [List.length_cons] at hlt;omega
 ·obtain ⟨n,q1,q2,q3,_⟩:=unl u hu h10
  exact ⟨n,q1,q2,q3⟩
 ·obtain ⟨u',g1,g2,g3,g4,_⟩:=hf.closed n hn h9 (by simp)
  have:u'=u:=by omega
  subst this
  obtain ⟨n',q1,q2,q3,q4⟩:=unl u' g3 g4
  by_cases e:n'=n
  ·subst e;exact q4
  ·exfalso
   by_cases lt:n'<n
   ·have:=(hf.nest n' n lt hn q2 h9 (by simp) (by omega)).2.1;omega
   ·have:=(hf.nest n n' (by omega) (by omega) h9 q2 (by simp) (by omega)).2.1;omega
theorem Yb {l:List I4} (hm:∀ x∈l,kr x=true) (hl:l.length <= 900) {a b c:Nat} {j:Int} (hab:a<b) (hbc:b<c) (hc:c<l.length) (h:∀ n,n=a \/ n=b \/ n=c -> (l.getD n i0).1=8 /\ (n:Int)<j /\ j <= n+wd (l.getD n i0)):3 <= gq j (mh 0 l):=by
 have one:∀ n,n=a \/ n=b \/ n=c -> gq j (pc n (l.getD n i0))=1:=fun n hn=>by
  obtain ⟨h8,h1,h2⟩:=h n hn
  have hlt:n<l.length:=by omega
  have hA:isA (l.getD n i0)=true:=by simp only [isA,h8];rfl
  rw [IX (hm _ (jh hlt)) (by omega),if_pos hA,gq,List.countP_cons,List.countP_nil]
  have e3:(l9 n (l.getD n i0)).2.2.2=true:=by simp only [l9,h8];rfl
  rw [e3,show ow (l9 n (l.getD n i0)) j=true by rw [ou];simp only [l9];omega];rfl
 have up:∀ n,n<l.length -> gq j (mh 0 (l.take (n+1)))=gq j (mh 0 (l.take n))+gq j (pc n (l.getD n i0)):=fun n hn=>by
  have:l.take (n+1)=l.take n++[l.getD n i0]:=by rw [List.take_add_one,getD_in hn,List.getElem?_eq_getElem hn];rfl
  rw [this,E5,ML,List.length_take,Nat.zero_add,show min n l.length=n by omega]
  simp [mh]
 have mono:∀ d n,n+d <= l.length -> gq j (mh 0 (l.take n)) <= gq j (mh 0 (l.take (n+d))):=fun d=>by
  induction d with
  | zero=>intro n _;simp
  | succ d ih=>intro n hn;have:=ih n (by omega);rw [show n+(d+1)=n+d+1 by omega,up (n+d) (by omega)];omega
 have h1:=up a (by omega)
 have h2:=up b (by omega)
 have h3:=up c (by omega)
 rw [one a (.inl rfl)] at h1
 rw [one b (.inr (.inl rfl))] at h2
 rw [one c (.inr (.inr rfl))] at h3
 have m1:=mono (b - (a+1)) (a+1) (by omega)
 have m2:=mono (c - (b+1)) (b+1) (by omega)
 have m3:=mono (l.length - (c+1)) (c+1) (by omega)
 rw [show a+1+(b - (a+1))=b by omega] at m1
 rw [show b+1+(c - (b+1))=c by omega] at m2
 rw [show c+1+(l.length - (c+1))=l.length by omega,List.take_length] at m3
 omega
def ig (l:List I4) (o e:Nat):Nat -> Prop
 | 0=>True
 | 1=>∃ a,a<o /\ uq l 8 a /\ e <= a+wd (l.getD a i0)+1
 | 2=>∃ a b,a<b /\ b<o /\ uq l 8 a /\ uq l 8 b /\ e <= a+wd (l.getD a i0)+1 /\ e <= b+wd (l.getD b i0)+1
 | _+3=>False
def Hd (l:List I4) (ps:List Int) (o e:Nat) (hs:List Int):Prop:=∃ H:List Nat,hs=H.map (wu l) /\ H.Pairwise (·<·) /\ ∀ k∈H,k<o /\ uq l 9 k /\ (e:Int) <= ps.getD k 0
theorem MP {l:List I4} {o e o' e':Nat} (ho:o <= o') (he:e' <= e):∀ {d:Nat},ig l o e d -> ig l o' e' d
 | 0,_=>trivial
 | 1,⟨a,h1,h2,h3⟩=>⟨a,by omega,h2,by omega⟩
 | 2,⟨a,b,h1,h2,h3,h4,h5,h6⟩=>⟨a,b,h1,by omega,h3,h4,by omega,by omega⟩
 | _+3,h=>h.elim
theorem MQ {l:List I4} {ps:List Int} {o e o' e':Nat} {hs:List Int} (ho:o <= o') (he:e' <= e) (h:Hd l ps o e hs):Hd l ps o' e' hs:=by
 obtain ⟨H,h1,h2,h3⟩:=h
 exact ⟨H,h1,h2,fun k hk=>by obtain ⟨q1,q2,q3⟩:=h3 k hk;exact ⟨by omega,q2,by omega⟩⟩
theorem RV {l:List I4} {o:Nat} {x:I4} {w:List I4} (hx:l.getD o i0=x) (hl:o<l.length) (h:At l (o+1) w):At l o (x::w):=by
 obtain ⟨h1,h2⟩:=h
 refine ⟨by simp only [List.length_cons];omega,fun j hj=>?_⟩
 cases j with
 | zero=>simpa using hx
 | succ j =>
  simp only [List.length_cons] at hj
  rw [List.getD_cons_succ,<- h2 j (by omega)];congr 1;omega
theorem ab5 {l:List I4} {o:Nat} {u w:List I4} (h1:At l o u) (h2:At l (o+u.length) w):At l o (u++w):=by
 obtain ⟨a1,a2⟩:=h1
 obtain ⟨b1,b2⟩:=h2
 refine ⟨by simp only [List.length_append];omega,fun j hj=>?_⟩
 simp only [List.length_append] at hj
 by_cases e:j<u.length
 ·rw [ny e,a2 j e]
 ·rw [j6 (by omega),<- b2 (j - u.length) (by omega)];congr 1;omega
theorem aks {x:I4} (h:kr x=true):x.1=0 \/ x.1=7 \/ x.1=8 \/ x.1=9 \/ x.1=10 \/ plain x:=by unfold plain;omega
theorem amN {x:I4} (h:kr x=true) (e:x.1=9 \/ x.1=10):(0 <= x.2.1 /\ x.2.1 <= 3) /\ x.2.2.1=0 /\ x.2.2.2=0:=by
 rcases e with e | e <;> simpa [kr,e,zo] using h
theorem parse {l:List I4} {ps:List Int} (g:BI l ps) (P:Prs l ps):∀ (len o d:Nat) (hs:List Int) (ia:Bool),o+len<l.length -> (∀ n,o <= n -> n<o+len -> n+wd (l.getD n i0)<o+len) ->
  (∀ n,o <= n -> n<o+len -> uq l 9 n -> ps.getD n 0<((o+len:Nat):Int)) -> (∀ n u:Nat,o <= u -> u<o+len -> uq l 9 n -> ps.getD n 0=(u:Int) -> o <= n) ->
  ig l o (o+len) d -> Hd l ps o (o+len) hs -> (ia=true -> ∃ a,a<o /\ isA (l.getD a i0)=true /\ o+len <= a+wd (l.getD a i0)+1) ->
  ∃ t:Tr,t.len=len /\ At l o t.flat /\ Ok d hs ia t:=by
 have hl2:=g.len2
 intro len
 induction len using Nat.strongRecOn with
 | _ len ih =>
 intro o d hs ia hlen S1 S2 S3 hB hH hI
 match len,ih,hlen,S1,S2,S3,hB,hH,hI with
 | 0,_,_,_,_,_,_,_,_=>exact ⟨.nil,rfl,⟨by simp [Tr.flat];omega,by simp [Tr.flat]⟩,trivial⟩
 | len+1,ih,hlen,S1,S2,S3,hB,hH,hI =>
 have hol:o<l.length:=by omega
 have hm:=g.may _ (jh (z:=i0) hol)
 rcases aks hm with e | e | e | e | e | e
 ·exact absurd ((g.end_ o hol).1 e) (by omega)
 ·-- a reach
  have hA:isA (l.getD o i0)=true:=by simp only [isA,e];rfl
  have hw:=yh hm hA
  have h1:=S1 o (by omega) (by omega)
  obtain ⟨n,hn⟩:∃ n,n=wd (l.getD o i0):=⟨_,rfl⟩
  rw [<- hn] at h1 hw
  have inb:∀ n',o<n' -> n' <= o+n -> n'+wd (l.getD n' i0) <= o+n:=fun n' q1 q2=>(by have:=afE g hA (n:=n') (by omega) (by rw [<- hn];exact ⟨q1,q2⟩);omega)
  obtain ⟨b,b1,b2,b3⟩:=ih n (by omega) (o+1) d hs true (by omega) (fun n' q1 q2=>by have:=inb n' (by omega) (by omega);omega)
   (fun n' q1 q2 q3=>(by have:=H7 g P hA (n:=n') (by omega) q3 (by omega) (by omega);omega))
   (fun n' u q1 q2 q3 q4=>FQ g P hA q3 q4 (by omega) (by omega))
   (MP (by omega) (by omega) hB) (MQ (by omega) (by omega) hH) (fun _=>⟨o,by omega,hA,by omega⟩)
  obtain ⟨r,r1,r2,r3⟩:=ih (len - n) (by omega) (o+1+n) d hs ia (by omega) (fun n' q1 q2=>by have:=S1 n' (by omega) (by omega);omega)
   (fun n' q1 q2 q3=>by have:=S2 n' (by omega) (by omega) q3;omega)
   (fun n' u q1 q2 q3 q4=>by
    have:=S3 n' u (by omega) (by omega) q3 q4
    by_cases f:n'=o
    ·subst f;exact absurd (show (l.getD n' i0).1=9 from q3) (by omega)
    ·by_cases f2:n' <= o+n
     ·have:=H7 g P hA (by omega) q3 (show o<n' by omega) (by omega);omega
     ·omega)
   (MP (by omega) (by omega) hB) (MQ (by omega) (by omega) hH) (fun q=>by obtain ⟨a,a1,a2,a3⟩:=hI q;exact ⟨a,by omega,a2,by omega⟩)
  refine ⟨.ar (l.getD o i0) b r,by simp only [Tr.len];omega,?_,⟨hm,hA,by omega⟩,fun e2=>by omega,?_,r3⟩
  ·simp only [Tr.flat]
   exact RV rfl hol (ab5 b2 (by rw [jo,b1];exact r2))
  ·rw [show ((l.getD o i0).1==8)=false by rw [e];rfl];exact b3
 ·-- a body
  have hA:isA (l.getD o i0)=true:=by simp only [isA,e];rfl
  have hw:=yh hm hA
  have h1:=S1 o (by omega) (by omega)
  obtain ⟨n,hn⟩:∃ n,n=wd (l.getD o i0):=⟨_,rfl⟩
  rw [<- hn] at h1 hw
  have inb:∀ n',o<n' -> n' <= o+n -> n'+wd (l.getD n' i0) <= o+n:=fun n' q1 q2=>(by have:=afE g hA (n:=n') (by omega) (by rw [<- hn];exact ⟨q1,q2⟩);omega)
  have hd:d<2 /\ ig l (o+1) (o+1+n) (d+1):=by
   match d,hB with
   | 0,_=>exact ⟨by omega,o,by omega,e,by omega⟩
   | 1,⟨a,a1,a2,a3⟩=>exact ⟨by omega,a,o,a1,by omega,a2,e,by omega,by omega⟩
   | 2,⟨a,b,a1,a2,a3,a4,a5,a6⟩ =>
    have:=Yb g.may (by omega) (a:=a) (b:=b) (c:=o) (j:=((o+1:Nat):Int)) a1 a2 hol (fun n' hn'=>by
     rcases hn' with rfl | rfl | rfl
     ·exact ⟨a3,by omega,by omega⟩
     ·exact ⟨a4,by omega,by omega⟩
     ·exact ⟨e,by omega,by omega⟩)
    have:=g.bodies (o+1) (by omega)
    omega
   | _+3,h=>exact h.elim
  obtain ⟨b,b1,b2,b3⟩:=ih n (by omega) (o+1) (d+1) hs true (by omega) (fun n' q1 q2=>by have:=inb n' (by omega) (by omega);omega)
   (fun n' q1 q2 q3=>(by have:=H7 g P hA (n:=n') (by omega) q3 (by omega) (by omega);omega))
   (fun n' u q1 q2 q3 q4=>FQ g P hA q3 q4 (by omega) (by omega))
   hd.2 (MQ (by omega) (by omega) hH) (fun _=>⟨o,by omega,hA,by omega⟩)
  obtain ⟨r,r1,r2,r3⟩:=ih (len - n) (by omega) (o+1+n) d hs ia (by omega) (fun n' q1 q2=>by have:=S1 n' (by omega) (by omega);omega)
   (fun n' q1 q2 q3=>by have:=S2 n' (by omega) (by omega) q3;omega)
   (fun n' u q1 q2 q3 q4=>by
    have:=S3 n' u (by omega) (by omega) q3 q4
    by_cases f:n'=o
    ·subst f;exact absurd (show (l.getD n' i0).1=9 from q3) (by omega)
    ·by_cases f2:n' <= o+n
     ·have:=H7 g P hA (by omega) q3 (show o<n' by omega) (by omega);omega
     ·omega)
   (MP (by omega) (by omega) hB) (MQ (by omega) (by omega) hH) (fun q=>by obtain ⟨a,a1,a2,a3⟩:=hI q;exact ⟨a,by omega,a2,by omega⟩)
  refine ⟨.ar (l.getD o i0) b r,by simp only [Tr.len];omega,?_,⟨hm,hA,by omega⟩,fun _=>hd.1,?_,r3⟩
  ·simp only [Tr.flat]
   exact RV rfl hol (ab5 b2 (by rw [jo,b1];exact r2))
  ·rw [show ((l.getD o i0).1==8)=true by rw [e];rfl];exact b3
 ·-- a pair
  obtain ⟨u,u1,u2,u3,u4,u5⟩:=P.lock o hol e
  have hu:=S2 o (by omega) (by omega) e
  rw [u1] at hu
  have h9:=amN hm (.inl e)
  have hmu:=amN (g.may _ (jh (z:=i0) u3)) (.inr u4)
  have hxo:l.getD o i0=(9,wu l o,0,0):=Prod.ext e (Prod.ext rfl (Prod.ext h9.2.1 h9.2.2))
  have hxu:l.getD u i0=(10,wu l o,0,0):=Prod.ext u4 (Prod.ext u5 (Prod.ext hmu.2.1 hmu.2.2))
  have hsep:=(GR g.may (by omega)).1 (P.area o hol e u u1)
  obtain ⟨H,H1,H2,H3⟩:=hH
  have hnot:wu l o ∉ hs:=by
   rw [H1];intro hq
   obtain ⟨k,k1,k2⟩:=List.mem_map.1 hq
   obtain ⟨k3,k4,k5⟩:=H3 k k1
   exact (P.nest k o k3 hol k4 e (by omega)).2 k2
  have asl:hs.length<2:=by
   rw [H1,List.length_map]
   match H,H2,H3 with
   | [],_,_=>simp
   | [a],_,_=>simp
   | a::b::q,H2,H3 =>
    exfalso
    obtain ⟨a1,a2,a3⟩:=H3 a (by simp)
    obtain ⟨b1,b2,b3⟩:=H3 b (by simp)
    have hab:a<b:=(List.pairwise_cons.1 H2).1 b (by simp)
    exact P.two a b o hab b1 hol a2 b2 e (by omega) (by omega)
  obtain ⟨b,b1,b2,b3⟩:=ih (u - (o+1)) (by omega) (o+1) d (hs++[wu l o]) ia (by omega) (fun n' q1 q2=>by
    by_cases hA:isA (l.getD n' i0)=true
    ·have:=hsep n' (by omega) hA
     by_cases f:n'+wd (l.getD n' i0)<o+1+(u - (o+1))
     ·exact f
     ·have:=this.2 ⟨by omega,by omega⟩;omega
    ·rw [ug (by simpa using hA)];omega)
   (fun n' q1 q2 q3=>by have:=(P.nest o n' (by omega) (by omega) e q3 (by omega)).1;omega)
   (fun n' v q1 q2 q3 q4=>by
    have:=S3 n' v (by omega) (by omega) q3 q4
    by_cases f:n'=o
    ·subst f;omega
    ·omega)
   (MP (by omega) (by omega) hB) ⟨H++[o],by rw [H1,List.map_append];rfl,by
    rw [List.pairwise_append]
    exact ⟨H2,List.pairwise_singleton _ _,fun a ha b hb=>by rw [List.mem_singleton.1 hb];exact (H3 a ha).1⟩,fun k hk=>by
    rcases List.mem_append.1 hk with hk | hk
    ·obtain ⟨k1,k2,k3⟩:=H3 k hk;exact ⟨by omega,k2,by omega⟩
    ·rw [List.mem_singleton.1 hk];exact ⟨by omega,e,by omega⟩⟩ (fun q=>by obtain ⟨a,a1,a2,a3⟩:=hI q;exact ⟨a,by omega,a2,by omega⟩)
  obtain ⟨r,r1,r2,r3⟩:=ih (o+len - u) (by omega) (u+1) d hs ia (by omega) (fun n' q1 q2=>by have:=S1 n' (by omega) (by omega);omega)
   (fun n' q1 q2 q3=>by have:=S2 n' (by omega) (by omega) q3;omega)
   (fun n' v q1 q2 q3 q4=>by
    have:=S3 n' v (by omega) (by omega) q3 q4
    by_cases f:n'=o
    ·subst f;omega
    ·by_cases f2:n'<u
     ·have:=(P.nest o n' (by omega) (by omega) e q3 (by omega)).1;omega
     ·by_cases f3:n'=u
      ·subst f3;exact absurd (show (l.getD n' i0).1=9 from q3) (by rw [show (l.getD n' i0).1=10 from u4];decide)
      ·omega)
   (MP (by omega) (by omega) hB) (MQ (by omega) (by omega) ⟨H,H1,H2,H3⟩) (fun q=>by obtain ⟨a,a1,a2,a3⟩:=hI q;exact ⟨a,by omega,a2,by omega⟩)
  refine ⟨.lk (wu l o) b r,by simp only [Tr.len];omega,?_,h9.1,⟨hnot,asl⟩,b3,r3⟩
  simp only [Tr.flat]
  refine RV hxo hol (ab5 b2 ?_)
  rw [jo,b1,show o+1+(u - (o+1))=u by omega]
  exact RV hxu u3 r2
 ·-- an unlock whose lock stands ahead of all
  obtain ⟨n',q1,q2,q3⟩:=P.unlock o hol e
  have:=S3 n' o (by omega) (by omega) q2 q3
  omega
 ·-- a plain one
  obtain ⟨r,r1,r2,r3⟩:=ih len (by omega) (o+1) d hs ia (by omega) (fun n' q1 q2=>by have:=S1 n' (by omega) (by omega);omega)
   (fun n' q1 q2 q3=>by have:=S2 n' (by omega) (by omega) q3;omega)
   (fun n' v q1 q2 q3 q4=>by
    have:=S3 n' v (by omega) (by omega) q3 q4
    by_cases f:n'=o
    ·subst f;exact absurd q3 e.2.2.2.1
    ·omega)
   (MP (by omega) (by omega) hB) (MQ (by omega) (by omega) hH) (fun q=>by obtain ⟨a,a1,a2,a3⟩:=hI q;exact ⟨a,by omega,a2,by omega⟩)
  refine ⟨.one (l.getD o i0) r,by simp only [Tr.len];omega,RV rfl hol r2,hm,e,fun e11=>?_,r3⟩
  obtain ⟨m1,m2⟩:=g.marks o hol e11
  constructor
  ·cases ia with
   | false=>rfl
   | true =>
    exfalso
    obtain ⟨a,a1,a2,a3⟩:=hI rfl
    rw [List.any_eq_false] at m1
    have:=m1 (l9 a (l.getD a i0)) ((l6 l 0 _ g.may (by omega)).2 ⟨a,by omega,a2,by rw [Nat.zero_add]⟩)
    rw [ou] at this
    simp only [l9] at this
    omega
  ·obtain ⟨H,H1,H2,H3⟩:=hH
   cases H with
   | nil=>exact H1
   | cons k q =>
    exfalso
    obtain ⟨k1,k2,k3⟩:=H3 k (by simp)
    have:=m2 k k1
    omega
where
 afE {l:List I4} {ps:List Int} (g:BI l ps) {o n:Nat} (hA:isA (l.getD o i0)=true) (hn:n<l.length) (h:o<n /\ n <= o+wd (l.getD o i0)):n+wd (l.getD n i0) <= o+wd (l.getD o i0):=by
  have hl2:=g.len2
  by_cases hB:isA (l.getD n i0)=true
  ·have:=g.bad (l9 n (l.getD n i0)) ((l6 l 0 _ g.may (by omega)).2 ⟨n,hn,hB,by rw [Nat.zero_add]⟩) (l9 o (l.getD o i0)) ((l6 l 0 _ g.may (by omega)).2 ⟨o,by omega,hA,by rw [Nat.zero_add]⟩)
   unfold I8 at this
   rw [Bool.or_eq_false_iff] at this
   have h2:=this.1
   have hq:ow (l9 o (l.getD o i0)) (l9 n (l.getD n i0)).2.2.1=true:=ou.2 (by simp only [l9];omega)
   rw [hq,Bool.true_and,Bool.not_eq_false'] at h2
   unfold inA at h2
   rw [Bool.and_eq_true,ou,ou] at h2
   simp only [l9] at h2
   omega
  ·rw [ug (by simpa using hB)];omega
 H7 {l:List I4} {ps:List Int} (g:BI l ps) (P:Prs l ps) {o n:Nat} (hA:isA (l.getD o i0)=true) (hn:n<l.length) (h9:uq l 9 n) (h1:o<n) (h2:n <= o+wd (l.getD o i0)):ps.getD n 0<((o+wd (l.getD o i0)+1:Nat):Int):=by
  have hl2:=g.len2
  obtain ⟨u,u1,_⟩:=P.lock n hn h9
  have:=(GR g.may (by omega)).1 (P.area n hn h9 u u1) o (by omega) hA
  have:=this.1 ⟨h1,h2⟩
  omega
 FQ {l:List I4} {ps:List Int} (g:BI l ps) (P:Prs l ps) {o n u:Nat} (hA:isA (l.getD o i0)=true) (h9:uq l 9 n) (hu:ps.getD n 0=(u:Int)) (h1:o+1 <= u) (h2:u <= o+wd (l.getD o i0)):o+1 <= n:=by
  have hl2:=g.len2
  have hn:n<l.length:=by
   by_cases f:n<l.length
   ·exact f
   ·have:l.getD n i0=i0:=K5 (by omega)
    unfold uq at h9;rw [this] at h9;exact absurd h9 (by decide)
  have hol:o<l.length:=by
   by_cases f:o<l.length
   ·exact f
   ·rw [K5 (by omega)] at hA;exact absurd hA (by decide)
  have:=(GR g.may (by omega)).1 (P.area n hn h9 u hu) o hol hA
  have:=this.2 ⟨by omega,h2⟩
  omega
theorem KD {l:List I4} (h:xg l=true):∃ t:Tr,Ok 0 [] false t /\ l=t.prog /\ t.len<24:=by
 obtain ⟨ps,g⟩:=K7.1 h
 have hl1:=g.len1
 have hl2:=g.len2
 have P:=agS g.pairs
 have hlast:(l.getD (l.length - 1) i0).1=0:=(g.end_ (l.length - 1) (by omega)).2 (by omega)
 obtain ⟨t,t1,t2,t3⟩:=parse g P (l.length - 1) 0 0 [] false (by omega) (fun n h1 h2=>by
   by_cases hA:isA (l.getD n i0)=true
   ·have:=g.last (l9 n (l.getD n i0)) ((l6 l 0 _ g.may (by omega)).2 ⟨n,by omega,hA,by rw [Nat.zero_add]⟩)
    have e:(l9 n (l.getD n i0)).2.1=((n+wd (l.getD n i0):Nat):Int):=rfl
    omega
   ·rw [ug (by simpa using hA)];omega)
  (fun n h1 h2 h9=>by
   obtain ⟨u,u1,u2,u3,u4,_⟩:=P.lock n (by omega) h9
   have:u≠l.length - 1:=fun e=>by
    subst e
    rw [show (l.getD (l.length - 1) i0).1=10 from u4] at hlast;exact absurd hlast (by decide)
   omega) (fun n u _ _ _ _=>by omega) trivial ⟨[],rfl,List.Pairwise.nil,fun k hk=>by cases hk⟩ (fun e=>by cases e)
 have hz:l.getD (l.length - 1) i0=i0:=by
  have:=g.may _ (jh (z:=i0) (l:=l) (i:=l.length - 1) (by omega))
  have h3:(l.getD (l.length - 1) i0).2.1=0 /\ (l.getD (l.length - 1) i0).2.2.1=0 /\ (l.getD (l.length - 1) i0).2.2.2=0:=by
   generalize l.getD (l.length - 1) i0=x at this hlast
   simpa [kr,hlast] using this
  exact Prod.ext hlast (Prod.ext h3.1 (Prod.ext h3.2.1 h3.2.2))
 refine ⟨t,t3,?_,by omega⟩
 have hpl:=u7 t
 apply List.ext_getElem (by omega)
 intro n h1 h2
 rw [<- getD_in (z:=i0) h1,<- getD_in (z:=i0) h2]
 by_cases e:n<t.len
 ·have:=t2.2 n (by rw [jo];exact e)
  rw [Nat.zero_add] at this
  rw [this]
  unfold Tr.prog
  rw [ny (by rw [jo];exact e)]
 ·have:n=l.length - 1:=by omega
  subst this
  rw [hz,show l.length - 1=t.len by omega,CZ]
abbrev amO (a:Int):Mem:=(a,0,0,0,0,0,0,0)
theorem amP (a:Int) (h:EY a):inM (amO a):=by
 intro x hx
 simp only [Gv,List.mem_cons,List.not_mem_nil,or_false] at hx
 rcases hx with rfl | rfl | rfl | rfl | rfl | rfl | rfl | rfl
 ·exact h
 all_goals exact ⟨by omega,by omega⟩
theorem wf_i64 {n:Int} (h:(Lit.int .i64 n).wf=true):EY n:=by
 simp [Lit.wf,IntKind.min,IntKind.max,IntKind.signed,IntKind.bits] at h
 unfold EY;omega
theorem BL {x y:Int} (q:Int) (h:x=y+q * 18446744073709551616):IntKind.i64.wrap x=IntKind.i64.wrap y:=by
 obtain ⟨q2,h2⟩:=RP y
 refine amM (ED _) (q2 - q) ?_
 rw [h2,h];grind
theorem NY (x:Int):∃ q:Int,IntKind.u64.wrap x=x+q * 18446744073709551616:=⟨-(x / 18446744073709551616),by rw [RL];omega⟩
theorem w_u (x:Int):IntKind.i64.wrap (IntKind.u64.wrap x)=IntKind.i64.wrap x:=by
 obtain ⟨q,h⟩:=NY x
 exact BL q h
theorem aq6 (a b:Int):IntKind.i64.wrap (IntKind.u64.wrap (IntKind.u64.wrap a+IntKind.u64.wrap b))=IntKind.i64.wrap (a+b):=by
 rw [w_u]
 obtain ⟨q1,h1⟩:=NY a
 obtain ⟨q2,h2⟩:=NY b
 exact BL (q1+q2) (by rw [h1,h2];grind)
theorem aq7 (a b:Int):IntKind.i64.wrap (IntKind.u64.wrap (IntKind.u64.wrap a - IntKind.u64.wrap b))=IntKind.i64.wrap (a - b):=by
 rw [w_u]
 obtain ⟨q1,h1⟩:=NY a
 obtain ⟨q2,h2⟩:=NY b
 exact BL (q1 - q2) (by rw [h1,h2];grind)
theorem aq8 (a b:Int):IntKind.i64.wrap (IntKind.u64.wrap (IntKind.u64.wrap a * IntKind.u64.wrap b))=IntKind.i64.wrap (a * b):=by
 rw [w_u]
 obtain ⟨q1,h1⟩:=NY a
 obtain ⟨q2,h2⟩:=NY b
 exact BL (q1 * b+q2 * a+q1 * q2 * 18446744073709551616) (by rw [h1,h2];grind)
theorem apN (a c:Int):IntKind.i64.wrap (IntKind.u64.wrap (IntKind.u64.wrap a * c))=IntKind.i64.wrap (a * c):=by
 rw [w_u]
 obtain ⟨q1,h1⟩:=NY a
 exact BL (q1 * c) (by rw [h1];grind)
theorem asn {v:Int} (h:EY v):IntKind.i64.wrap v=v:=Uu h.1 h.2
theorem PO {R:Type} {b:Int} {x:Option R} (h:0 <= b):Uj b x=x:=by unfold Uj;rw [if_neg (by omega)]
theorem amQ (k:Nat) {v n:Int} (hv:EY v) (h1:-63 <= n) (h2:n <= 63):al8 k v n=some ((RQ v n,()),()):=by
 unfold al8 RQ
 rw [Sd (by omega),Sd (by omega)]
 by_cases e:n<0
 ·rw [Sc e,if_neg (by omega),if_neg (by omega),Uu (n:=0 - n) (by omega) (by omega),PO (by omega)]
  unfold Ul
  have:min (0 - n).toNat IntKind.i64.bits=(-n).toNat:=by
   have:IntKind.i64.bits=64:=rfl
   omega
  rw [this]
 ·rw [Sd e,PO (by omega)]
  unfold Uk
  have:min n.toNat IntKind.u64.bits=n.toNat:=by
   have:IntKind.u64.bits=64:=rfl
   omega
  rw [this,apN]
  by_cases e0:n=0
  ·subst e0;rw [if_pos rfl];simp [asn hv]
  ·rw [if_neg e0,if_pos (by omega)]
theorem agT {n:Nat} (h1:1 <= n) (h:n <= 64):(9223372036854775808:Int)=2 ^ (n - 1) * 2 ^ (64 - n):=by
 rw [<- Int.pow_add,show n - 1+(64 - n)=63 by omega];decide
theorem amR (k:Nat) {v n:Int} (h1:1 <= n) (h2:n <= 64):al9 k v n=some ((KC v n,()),()):=by
 unfold al9
 rw [Sd (by omega),Sd (by omega),Uu (n:=64 - n) (by omega) (by omega),PO (by omega),PO (by omega)]
 obtain ⟨m,rfl⟩:∃ m:Nat,n=(m:Int):=⟨n.toNat,by omega⟩
 unfold Ul Uk KC
 have e:min ((64:Int) - (m:Int)).toNat IntKind.i64.bits=64 - m:=by
  have:IntKind.i64.bits=64:=rfl
  omega
 rw [e,Int.toNat_natCast]
 obtain ⟨q,hq⟩:=RP (v * 2 ^ (64 - m))
 have hin:=ED (v * 2 ^ (64 - m))
 rw [hq] at hin ⊢
 have hs0:(0:Int)<2 ^ (64 - m):=Int.pow_pos (by omega)
 have hn0:(0:Int)<2 ^ m:=Int.pow_pos (by omega)
 have hh:=Vu (n:=m) (by omega)
 have hp:=agT (n:=m) (by omega) (by omega)
 have hd:=akm (n:=m) (by omega)
 have aso:v * 2 ^ (64 - m)+q * 18446744073709551616=(v+q * 2 ^ m) * 2 ^ (64 - m):=by rw [hd];grind
 rw [aso] at hin ⊢
 rw [Int.fdiv_eq_ediv_of_nonneg _ (by omega),Int.mul_ediv_cancel _ (by omega)]
 have hmod:v % 2 ^ m=(v+q * 2 ^ m) % 2 ^ m:=by rw [Int.add_mul_emod_self_right]
 rw [hmod]
 generalize v+q * 2 ^ m=r at *
 unfold EY at hin
 have hr1:r<2 ^ (m - 1):=by
  by_cases f:r<2 ^ (m - 1)
  ·exact f
  ·have:=Int.mul_le_mul_of_nonneg_right (show (2:Int) ^ (m - 1) <= r by omega) (show (0:Int) <= 2 ^ (64 - m) by omega)
   omega
 have hr2:-(2 ^ (m - 1)) <= r:=by
  by_cases f:-(2 ^ (m - 1)) <= r
  ·exact f
  ·have h3:=Int.mul_le_mul_of_nonneg_right (show r <= -(2 ^ (m - 1)) - 1 by omega) (show (0:Int) <= 2 ^ (64 - m) by omega)
   have h4:(-(2 ^ (m - 1)) - 1) * (2:Int) ^ (64 - m) = -(2 ^ (m - 1) * 2 ^ (64 - m)) - 2 ^ (64 - m):=by grind
   omega
 congr 3
 by_cases f:0 <= r
 ·rw [Int.emod_eq_of_lt f (by omega),if_neg (by omega)]
 ·have:r % 2 ^ m=r+2 ^ m:=by
   rw [<- Int.add_emod_right,Int.emod_eq_of_lt (by omega) (by omega)]
  rw [this,if_pos (by omega)];omega
theorem Vv {k:Nat} {pc a b c d e f g h:Int} {ov:Bool} {t1 t2 t3 t4 t5 t6 t7 t8 t9:Int} {t10:Bool}:∀ (R:List gu) (j:Nat),R.length<j -> R.length <= 900 -> (∀ r∈R,r.2.2 <= 1000) ->
  XJ k j pc a b c d e f g h R.reverse ov t1 t2 t3 t4 t5 t6 t7 t8 t9 t10 (R.length:Int)=some ((((qp pc R).1,(a,b,c,d,e,f,g,h),(qp pc R).2.reverse,ov),()),())
 | [],j,hj,_,_=>by
  obtain ⟨j',rfl⟩:∃ j',j=j'+1:=⟨j - 1,by omega⟩
  rw [aaF,XI,Sd (by simp)]
  rfl
 | r::R,j,hj,hl,hb=>by
  obtain ⟨j',rfl⟩:∃ j',j=j'+1:=⟨j - 1,by omega⟩
  simp only [List.length_cons] at hj hl
  have hlen:((R.reverse++[r]).length:Int)=(R.length:Int)+1:=by simp
  have hw:IntKind.i64.wrap (((r::R).length:Int) - 1)=(R.length:Int):=by simp only [List.length_cons];rw [Uu (by omega) (by omega)];omega
  have hrd:rd (R.reverse++[r]) (R.length:Int) (0,0,0)=r:=by rw [Qp,j6 (by simp)];simp
  have htk:(R.reverse++[r]).take (R.length:Int).toNat=R.reverse:=by
   rw [Int.toNat_natCast,List.take_append_of_le_length (by simp)];exact List.take_of_length_le (by simp)
  have hup:∀ q:gu,upd (R.reverse++[r]) (R.length:Int) q=R.reverse++[q]:=fun q=>by
   rw [Mj,List.set_append_right _ _ (by simp)];simp
  have hr:=hb r List.mem_cons_self
  rw [List.reverse_cons,aaF,XI,hw,Sc (by simp only [List.length_cons];omega),Lj (by omega) (by omega),hrd,htk,qp]
  by_cases e1:r.2.1<pc
  ·rw [Sc e1,if_pos e1,Lj (by omega) (by omega),Rx (by omega) (by omega) (by omega),hup]
   by_cases e2:r.2.2>0
   ·rw [Sc e2,if_pos e2,Uu (by omega) (by omega),List.reverse_cons]
   ·rw [Sd e2,if_neg e2,List.length_reverse]
    exact Vv R j' (by omega) (by omega) (fun q hq=>hb q (List.mem_cons_of_mem _ hq))
  ·rw [Sd e1,if_neg e1,List.reverse_cons]
theorem apO {x:I4} (h:kr x=true):(0 <= x.2.1 /\ x.2.1<8) /\ 0 <= x.2.2.1:=by
 have h0:x.1=0 \/ x.1=11 -> x.2.1=0 /\ x.2.2.1=0:=fun e=>by
  rcases e with e | e <;> (have:x.2.1=0 /\ x.2.2.1=0 /\ x.2.2.2=0:=by simpa [kr,e] using h) <;> exact ⟨this.1,this.2.1⟩
 by_cases e0:x.1=0 \/ x.1=11
 ·have:=h0 e0;omega
 by_cases e1:x.1=1
 ·have:=afB h e1;omega
 by_cases e2:x.1=2 \/ x.1=3 \/ x.1=4
 ·have:=EF h e2;omega
 by_cases e5:x.1=5
 ·have:=MO h e5;omega
 by_cases e6:x.1=6
 ·have:=J3 h e6;omega
 by_cases e7:x.1=7
 ·have:=aa5 h e7;omega
 by_cases e8:x.1=8
 ·have:=ab0 h e8;omega
 by_cases e9:x.1=9 \/ x.1=10
 ·have:=amN h e9;omega
 exfalso
 have a0:(x.1==0)=false:=by rw [beq_eq_false_iff_ne];omega
 have a1:(x.1==11)=false:=by rw [beq_eq_false_iff_ne];omega
 have a2:(x.1==1)=false:=by rw [beq_eq_false_iff_ne];omega
 have a3:(x.1==2)=false:=by rw [beq_eq_false_iff_ne];omega
 have a4:(x.1==3)=false:=by rw [beq_eq_false_iff_ne];omega
 have a5:(x.1==4)=false:=by rw [beq_eq_false_iff_ne];omega
 have a6:(x.1==5)=false:=by rw [beq_eq_false_iff_ne];omega
 have a7:(x.1==6)=false:=by rw [beq_eq_false_iff_ne];omega
 have a8:(x.1==7)=false:=by rw [beq_eq_false_iff_ne];omega
 have a9:(x.1==8)=false:=by rw [beq_eq_false_iff_ne];omega
 have b0:(x.1==9)=false:=by rw [beq_eq_false_iff_ne];omega
 have b1:(x.1==10)=false:=by rw [beq_eq_false_iff_ne];omega
 simp [kr,a0,a1,a2,a3,a4,a5,a6,a7,a8,a9,b0,b1] at h
theorem amS {k:Nat} (hk:1000 <= k) {l:List I4} {n:Nat} {mem:Mem} {R:List gu} (hl:l.length <= 900) (hn:n<l.length) (hx:kr (l.getD n i0)=true) (hR:R.length <= 100) (hb:∀ r∈R,r.2.2 <= 1000) (hm:inM mem) :
  ajF k l ((n:Int),mem,R.reverse,false)=some ((((go (l.getD n i0) n mem R).1,TV (l.getD n i0) mem,(go (l.getD n i0) n mem R).2.reverse,(l.getD n i0).1==0),l.getD n i0,true,()),()):=by
 unfold ajF abU abJ
 simp only
 rw [cond_false,Sd (by omega),Sd (by omega),Qo hn,Qp,afg,Option.bind_some,hx]
 simp only [Bool.not_true,cond_false]
 rw [Ll (by simp only [List.length_reverse];omega)]
 simp only [Option.bind_some]
 rw [Qo hn,Qp]
 generalize l.getD n i0=x at hx ⊢
 have hab:=apO hx
 have htp:0 <= Int.tmod x.2.2.1 8 /\ Int.tmod x.2.2.1 8<((8:Nat):Int):=⟨Int.tmod_nonneg _ hab.2,Int.tmod_lt_of_pos _ (by omega)⟩
 rw [Rw hab.1.1 hab.1.2,Rw htp.1 htp.2]
 have key:∀ (pc:Int) (mem':Mem) (R':List gu) (ov:Bool),R'.length <= 900 -> (∀ r∈R',r.2.2 <= 1000) -> ((K4 k pc mem'.1 mem'.2.1 mem'.2.2.1 mem'.2.2.2.1 mem'.2.2.2.2.1 mem'.2.2.2.2.2.1 mem'.2.2.2.2.2.2.1 mem'.2.2.2.2.2.2.2 R'.reverse ov).bind fun q=>some ((q.1.1,x,true,()),()))=some ((((qp pc R').1,mem',(qp pc R').2.reverse,ov),x,true,()),()):=fun pc mem' R' ov h1 h2=>by
  unfold K4
  rw [List.length_reverse,Vv R' k (by omega) h1 h2]
  rfl
 have htm:0 <= x.2.2.1 /\ x.2.2.1<8 -> Int.tmod x.2.2.1 8=x.2.2.1:=fun h=>Int.tmod_eq_of_lt h.1 h.2
 unfold go gU TV
 rw [Uu (n:=(n:Int)+1) (by omega) (by omega)]
 by_cases e0:x.1=0
 ·rw [show (x.1==0)=true by rw [e0];rfl,cond_true,if_pos e0,if_neg (by omega),if_neg (by omega),if_neg (by omega),if_neg (by omega),if_neg (by omega),if_neg (by omega)]
  exact key _ _ _ _ (by omega) hb
 rw [show (x.1==0)=false by simpa using e0,cond_false,if_neg e0]
 by_cases e1:x.1=1
 ·rw [show (x.1==1)=true by rw [e1];rfl,cond_true,if_neg (by omega),if_neg (by omega),if_pos e1]
  exact key _ _ _ _ (by omega) hb
 rw [show (x.1==1)=false by simpa using e1,cond_false,if_neg e1]
 by_cases e2:x.1=2
 ·have:=EF hx (.inl e2)
  rw [show (x.1==2)=true by rw [e2];rfl,cond_true,if_neg (by omega),if_neg (by omega),if_pos e2,htm this.2.1,aq6]
  exact key _ _ _ _ (by omega) hb
 rw [show (x.1==2)=false by simpa using e2,cond_false,if_neg e2]
 by_cases e3:x.1=3
 ·have:=EF hx (.inr (.inl e3))
  rw [show (x.1==3)=true by rw [e3];rfl,cond_true,if_neg (by omega),if_neg (by omega),if_pos e3,htm this.2.1,aq7]
  exact key _ _ _ _ (by omega) hb
 rw [show (x.1==3)=false by simpa using e3,cond_false,if_neg e3]
 by_cases e4:x.1=4
 ·have:=EF hx (.inr (.inr e4))
  rw [show (x.1==4)=true by rw [e4];rfl,cond_true,if_neg (by omega),if_neg (by omega),if_pos e4,htm this.2.1,aq8]
  exact key _ _ _ _ (by omega) hb
 rw [show (x.1==4)=false by simpa using e4,cond_false,if_neg e4]
 by_cases e5:x.1=5
 ·have:=MO hx e5
  rw [show (x.1==5)=true by rw [e5];rfl,cond_true,show Uq (α:=Int) 8 mem x.2.1 0=mg mem x.2.1 from rfl,amQ k (aoE hm _) this.2.2.1 this.2.2.2,Option.bind_some,if_neg (by omega),if_neg (by omega),if_pos e5]
  exact key _ _ _ _ (by omega) hb
 rw [show (x.1==5)=false by simpa using e5,cond_false,if_neg e5]
 by_cases e6:x.1=6
 ·have:=J3 hx e6
  rw [show (x.1==6)=true by rw [e6];rfl,cond_true,show Uq (α:=Int) 8 mem x.2.1 0=mg mem x.2.1 from rfl,amR k this.2.2.1 this.2.2.2,Option.bind_some,if_neg (by omega),if_neg (by omega),if_pos e6]
  exact key _ _ _ _ (by omega) hb
 rw [show (x.1==6)=false by simpa using e6,cond_false,if_neg e6]
 by_cases e7:x.1=7
 ·have:=aa5 hx e7
  rw [show (x.1==7)=true by rw [e7];rfl,cond_true,show Uq (α:=Int) 8 mem x.2.1 0=mg mem x.2.1 from rfl,if_pos e7]
  by_cases e:mg mem x.2.1=0
  ·rw [show (mg mem x.2.1==0)=true by rw [e];rfl,cond_true,if_pos e,Uu (by omega) (by omega)]
   exact key _ _ _ _ (by omega) hb
  ·rw [show (mg mem x.2.1==0)=false by simpa using e,cond_false,if_neg e]
   exact key _ _ _ _ (by omega) hb
 rw [show (x.1==7)=false by simpa using e7,cond_false,if_neg e7]
 by_cases e8:x.1=8
 ·have h8:=ab0 hx e8
  rw [show (x.1==8)=true by rw [e8];rfl,cond_true,if_pos e8,Rz (by simp only [List.length_reverse,List.length_cons,List.length_nil];omega),Uu (n:=(n:Int)+x.2.2.1) (by omega) (by omega),Uu (n:=x.2.2.2 - 1) (by omega) (by omega),<- List.reverse_cons]
  exact key _ _ _ _ (by simp only [List.length_cons];omega) (fun r hr=>by
   rcases List.mem_cons.1 hr with rfl | hr
   ·simp only;omega
   ·exact hb r hr)
 rw [show (x.1==8)=false by simpa using e8,cond_false,if_neg e8]
 exact key _ _ _ _ (by omega) hb
abbrev Th:Type:=Int×(Int×Int)×(Int×Int)×(List Int×List Int)×(Int×List (Int×Int))×Int
abbrev jw:Th:=(0,(0,0),(0,0),([],[]),(0,[]),0)
abbrev Tb:Type:=(List Int×List Bool)×List Th
def Vw (x:Th):Prop:=x.2.2.2.1.1.length <= 100 /\ x.2.2.2.1.2.length <= 100 /\ x.2.2.2.2.1.2.length <= 100
def wz (t:Tb):Prop:=(t.1.1.length <= 100 /\ t.1.2.length <= 100 /\ t.2.length <= 100) /\ ∀ x∈t.2,Vw x
theorem afF {k:Nat} {x:Th} (h:Vw x):aiq k x=some ((x,()),()):=by
 obtain ⟨h1,h2,h3⟩:=h
 unfold aiq
 simp only [FH,U0,ZI,ZJ]
 rw [Ll (by omega),Option.bind_some,Ll (by omega),Option.bind_some,Ll (by omega),Option.bind_some]
 try rfl
theorem H8 {k:Nat} (hk:1000 <= k) {t:Tb} (h:wz t):X3 k t=some ((t,()),()):=by
 obtain ⟨⟨h1,h2,h3⟩,h4⟩:=h
 unfold X3
 simp only [FH,U0,ZI,ZJ]
 rw [Ll (by omega),Option.bind_some,Ll (by omega),Option.bind_some]
 have:=Vb (L:=fun j (out:List Th) i=>LD k j t.1.1 t.1.2 out t.2 (t.2.length:Int) i) (n:=t.2.length) (fun i out=>out=t.2.take i)
  (fun i out=>out++[t.2.getD i jw]) (fun out=>some ((((t.1.1,t.1.2),out),()),()))
  (fun j i out hi hv=>by
   show LD k (j+1) t.1.1 t.1.2 out t.2 (t.2.length:Int) (i:Int)=_
   have hl:out.length <= 100:=by rw [hv,List.length_take];omega
   rw [ZK,X0,Sc (by omega),Qo hi,Qp,afF (h4 _ (jh hi)),Option.bind_some,Rz (by simp only [List.length_cons,List.length_nil];omega),Mi (by omega)])
  (fun i out hi hv=>by rw [hv,List.take_add_one,getD_in hi,List.getElem?_eq_getElem hi];rfl)
  (fun j out hv=>by
   show LD k (j+1) t.1.1 t.1.2 out t.2 (t.2.length:Int) (t.2.length:Int)=_
   rw [ZK,X0,Sd (by omega)]) t.2.length 0 k [] (by omega) (by omega) (by simp)
 have hg:=GJ (inv:=fun i (out:List Th)=>out=t.2.take i) (f:=fun i out=>out++[t.2.getD i jw]) (n:=t.2.length) (fun i out hi hv=>by rw [hv,List.take_add_one,getD_in hi,List.getElem?_eq_getElem hi];rfl) t.2.length 0 [] (by omega) (by simp)
 refine Eq.trans this ?_
 rw [hg,List.take_length]
def akt (x:Th):List Int:=([x.1,x.2.1.1,x.2.1.2,x.2.2.1.1,x.2.2.1.2,(x.2.2.2.1.1.length:Int)]++x.2.2.2.1.1++[(x.2.2.2.1.2.length:Int)]++x.2.2.2.1.2++[IntKind.i64.wrap x.2.2.2.2.1.1])++x.2.2.2.2.1.2.flatMap (fun w=>[w.1,IntKind.i64.wrap w.2])
theorem agU (l:List (Int×Int)):(l.flatMap (fun w=>[w.1,IntKind.i64.wrap w.2])).length=2 * l.length:=by
 induction l with
 | nil=>rfl
 | cons x r ih=>simp only [List.flatMap_cons,List.length_append,ih,List.length_cons,List.length_nil];omega
theorem RX {k:Nat} {ws:List (Int×Int)} (hw:ws.length <= 100):∀ (m i j:Nat) (l:List Int),i+m=ws.length -> m<j -> l.length <= 1002+2 * i -> OY k j l ws (ws.length:Int) (i:Int)=X7 k (l++(ws.drop i).flatMap (fun w=>[w.1,IntKind.i64.wrap w.2]))
 | 0,i,j,l,h,hj,hl=>by
  obtain ⟨j',rfl⟩:∃ j',j=j'+1:=⟨j - 1,by omega⟩
  rw [UU,OX,Sd (by omega),drop_nil (by omega),List.flatMap_nil,List.append_nil]
  cases X7 k l <;> rfl
 | m+1,i,j,l,h,hj,hl=>by
  obtain ⟨j',rfl⟩:∃ j',j=j'+1:=⟨j - 1,by omega⟩
  rw [UU,OX,Sc (by omega),Qo (by omega),Qp,Rz (by simp only [List.length_cons,List.length_nil];omega),Mi (by omega),drop_cons (0,0) (show i<ws.length by omega),List.flatMap_cons,<- List.append_assoc]
  exact RX hw m (i+1) j' _ (by omega) (by omega) (by simp only [List.length_append,List.length_cons,List.length_nil];omega)
theorem Vx {k:Nat} (hk:1000 <= k) {x1 x2 x3 x4 x5 x8 x10:Int} {x6 x7:List Int} {ws:List (Int×Int)} {tw:List Int} (hw:ws.length <= 100) (ht:tw.length <= 100):∀ (m i j:Nat) (l:List Int),i+m=tw.length -> m<j -> l.length <= 500+i ->
  X9 k j x1 x2 x3 x4 x5 x6 x7 x8 ws x10 l tw (tw.length:Int) (i:Int)=X7 k (l++tw.drop i++[IntKind.i64.wrap x8]++ws.flatMap (fun w=>[w.1,IntKind.i64.wrap w.2]))
 | 0,i,j,l,h,hj,hl=>by
  obtain ⟨j',rfl⟩:∃ j',j=j'+1:=⟨j - 1,by omega⟩
  rw [ZO,X8,Sd (by omega),drop_nil (by omega),List.append_nil,Rz (by simp only [List.length_cons,List.length_nil];omega)]
  have:=RX (k:=k) hw ws.length 0 k (l++[IntKind.i64.wrap x8]) (by omega) (by omega) (by simp only [List.length_append,List.length_cons,List.length_nil];omega)
  rw [List.drop_zero] at this
  exact this
 | m+1,i,j,l,h,hj,hl=>by
  obtain ⟨j',rfl⟩:∃ j',j=j'+1:=⟨j - 1,by omega⟩
  rw [ZO,X8,Sc (by omega),Qo (by omega),Qp,Rz (by simp only [List.length_cons,List.length_nil];omega),Mi (by omega),Vx hk hw ht m (i+1) j' _ (by omega) (by omega) (by simp only [List.length_append,List.length_cons,List.length_nil];omega),drop_cons 0 (show i<tw.length by omega)]
  simp only [List.append_assoc,List.cons_append,List.nil_append]
theorem agV {k:Nat} (hk:1000 <= k) {x:Th} (h:Vw x):abK k x=X7 k (akt x):=by
 obtain ⟨h1,h2,h3⟩:=h
 unfold abK
 rw [Rz (by simp only [List.length_cons,List.length_nil];omega),Rz (by simp only [List.length_append,List.length_cons,List.length_nil];omega)]
 have:=Vx hk (x1:=x.1) (x2:=x.2.1.1) (x3:=x.2.1.2) (x4:=x.2.2.1.1) (x5:=x.2.2.1.2) (x8:=x.2.2.2.2.1.1) (x10:=x.2.2.2.2.2) (x6:=x.2.2.2.1.1) (x7:=x.2.2.2.1.2) h3 h2 x.2.2.2.1.2.length 0 k ([x.1,x.2.1.1,x.2.1.2,x.2.2.1.1,x.2.2.1.2,(x.2.2.2.1.1.length:Int)]++x.2.2.2.1.1++[(x.2.2.2.1.2.length:Int)]) (by omega) (by omega) (by simp only [List.length_append,List.length_cons,List.length_nil];omega)
 rw [List.drop_zero] at this
 exact this
theorem NZ {k:Nat} {g3:Int -> List Int -> Int -> Int -> Option ((Int×Unit)×Unit)} {l:List Int} {n i:Int}:∀ (m a j:Nat) (h u:Int),a+m=8 -> m<j -> ∃ v,X5 k g3 j h u (a:Int) l n i=g3 v l n (IntKind.i64.wrap (i+1))
 | 0,a,j,h,u,ha,hj=>by
  obtain ⟨j',rfl⟩:∃ j',j=j'+1:=⟨j - 1,by omega⟩
  rw [ZL,X4,Sd (by omega)]
  exact ⟨h,rfl⟩
 | m+1,a,j,h,u,ha,hj=>by
  obtain ⟨j',rfl⟩:∃ j',j=j'+1:=⟨j - 1,by omega⟩
  rw [ZL,X4,Sc (by omega),Mi (by omega)]
  exact NZ m (a+1) j' _ _ (by omega) (by omega)
theorem O1 {k:Nat} (hk:1000 <= k) {l:List Int} (hl:l.length <= 100000):∀ (m i j:Nat) (h:Int),i+m=l.length -> m<j -> ∃ v,LG k j h l (l.length:Int) (i:Int)=some ((v,()),())
 | 0,i,j,h,ha,hj=>by
  obtain ⟨j',rfl⟩:∃ j',j=j'+1:=⟨j - 1,by omega⟩
  rw [ZM,X6,Sd (by omega)]
  exact ⟨h,rfl⟩
 | m+1,i,j,h,ha,hj=>by
  obtain ⟨j',rfl⟩:∃ j',j=j'+1:=⟨j - 1,by omega⟩
  rw [ZM,X6,Sc (by omega),Qo (by omega)]
  obtain ⟨v,hv⟩:=NZ (k:=k) (g3:=fun h t8 t9 t10=>LG k j' h t8 t9 t10) (l:=l) (n:=(l.length:Int)) (i:=(i:Int)) 8 0 k h (IntKind.u64.wrap (rd l (i:Int) 0)) (by omega) (by omega)
  obtain ⟨w,hw⟩:=O1 hk hl m (i+1) j' v (by omega) (by omega)
  refine ⟨w,Eq.trans hv ?_⟩
  show LG k j' v l (l.length:Int) (IntKind.i64.wrap ((i:Int)+1))=_
  rw [Mi (by omega)];exact hw
theorem agW {k:Nat} (hk:1000 <= k) {l:List Int} (hl:l.length<k) (hl2:l.length <= 100000):∃ v,X7 k l=some ((v,()),()):=by
 unfold X7
 exact O1 hk hl2 l.length 0 k _ (by omega) (by omega)
theorem aku {x:Th} (h:Vw x):(akt x).length <= 500:=by
 obtain ⟨h1,h2,h3⟩:=h
 have:=agU x.2.2.2.2.1.2
 unfold akt
 simp only [List.length_append,List.length_cons,List.length_nil] at this ⊢
 omega
noncomputable def RY (k:Nat) (x:Th):Int:=match X7 k (akt x) with | some q=>q.1.1 | none=>0
theorem Yc {k:Nat} (hk:1000 <= k) {x:Th} (h:Vw x):abK k x=some ((RY k x,()),()):=by
 rw [agV hk h]
 have hl:=aku h
 obtain ⟨v,hv⟩:=agW hk (l:=akt x) (by omega) (by omega)
 unfold RY;rw [hv]
noncomputable def y8 (k:Nat) (x:Th):Th:=(x.1,x.2.1,x.2.2.1,x.2.2.2.1,x.2.2.2.2.1,RY k x)
theorem Yd {k:Nat} (hk:1000 <= k) {x:Th} (h:Vw x):abL k x=some ((y8 k x,()),()):=by
 unfold abL;rw [Yc hk h];rfl
def OC (t:Tb) (i:Int):Bool:=decide (0 <= i)&&(decide (i<(t.2.length:Int))&&(rd t.2 i jw).1 != 0)
theorem Ye {k:Nat} {t:Tb} {i:Int}:agu k t i=some ((OC t i,()),()):=by
 unfold agu OC
 by_cases h:0 <= i
 ·rw [Sc h,decide_eq_true h]
  by_cases h2:i<(t.2.length:Int)
  ·rw [Sc h2,decide_eq_true h2,Lj h h2];rfl
  ·rw [Sd h2,decide_eq_false h2];rfl
 ·rw [Sd h,decide_eq_false h];rfl
noncomputable def agX (k:Nat) (w x:Th):Th :=
 if w.2.2.2.2.2=RY k w then y8 k (w.1,w.2.1,x.2.2) else ((y8 k (w.1,w.2.1,x.2.2)).1,(y8 k (w.1,w.2.1,x.2.2)).2.1,(y8 k (w.1,w.2.1,x.2.2)).2.2.1,(y8 k (w.1,w.2.1,x.2.2)).2.2.2.1,(y8 k (w.1,w.2.1,x.2.2)).2.2.2.2.1,Uo .u32 (y8 k (w.1,w.2.1,x.2.2)).2.2.2.2.2)
noncomputable def J4 (k:Nat) (t:Tb) (i:Int) (x:Th):Tb:=if OC t i=true then (t.1,upd t.2 i (agX k (rd t.2 i jw) x)) else t
theorem KE {t:Tb} {i:Int} (h:OC t i=true):0 <= i /\ i<(t.2.length:Int) /\ (rd t.2 i jw).1≠0:=by
 unfold OC at h
 simp only [Bool.and_eq_true,decide_eq_true_eq,bne_iff_ne,ne_eq] at h
 exact ⟨h.1,h.2.1,h.2.2⟩
theorem Yf {t:List Th} {i:Int} (h0:0 <= i) (h1:i<(t.length:Int)):rd t i jw∈t:=by
 obtain ⟨n,rfl⟩:∃ n:Nat,i=(n:Int):=⟨i.toNat,by omega⟩
 rw [Qp];exact jh (by omega)
theorem H9 {k:Nat} (hk:1000 <= k) {t:Tb} {i:Int} {x:Th} (ht:wz t) (hx:Vw x):I6 k t i x=some ((J4 k t i x,()),()):=by
 unfold I6 J4
 rw [H8 hk ht,Option.bind_some,Ye,Option.bind_some]
 cases h:OC t i with
 | false=>rfl
 | true =>
  obtain ⟨h0,h1,h2⟩:=KE h
  have hw:Vw (rd t.2 i jw):=ht.2 _ (Yf h0 h1)
  simp only [Bool.not_true,cond_false,if_true]
  rw [Lj h0 h1,afF (x:=((rd t.2 i jw).1,(rd t.2 i jw).2.1,x.2.2)) hx,Option.bind_some]
  simp only
  rw [Yd hk (x:=((rd t.2 i jw).1,(rd t.2 i jw).2.1,x.2.2)) hx,Option.bind_some,Yc hk hw,Option.bind_some,Lj h0 h1,Lj h0 h1]
  unfold agX
  by_cases e:(rd t.2 i jw).2.2.2.2.2=RY k (rd t.2 i jw)
  ·rw [if_pos e,show ((rd t.2 i jw).2.2.2.2.2 != RY k (rd t.2 i jw))=false by simpa using e,cond_false]
   try rfl
  ·rw [if_neg e,show ((rd t.2 i jw).2.2.2.2.2 != RY k (rd t.2 i jw))=true by simpa using e,cond_true]
   try rfl
def wm (x:Th):List Int:=x.2.2.2.1.2++x.2.2.2.2.1.2.map (·.1)
theorem amT {k:Nat} (hk:1000 <= k) {f:Int×List (Int×Int)} (h:f.2.length <= 100):alO k f=some (((0,[]),f.2.map (·.1),()),()):=by
 unfold alO
 have:=Vb (L:=fun j (who:List Int) i=>LP k j 0 who f.2 (f.2.length:Int) i) (n:=f.2.length) (fun i who=>who=(f.2.take i).map (·.1))
  (fun i who=>who++[(f.2.getD i (0,0)).1]) (fun who=>some ((((0,[]),who,()),())))
  (fun j i who hi hv=>by
   show LP k (j+1) 0 who f.2 (f.2.length:Int) (i:Int)=_
   have hl:who.length <= 100:=by rw [hv,List.length_map,List.length_take];omega
   rw [aap,Xp,Sc (by omega),Qo hi,Qp,Rz (by simp only [List.length_cons,List.length_nil];omega),Mi (by omega)])
  (fun i who hi hv=>by rw [hv,List.take_add_one,getD_in hi,List.getElem?_eq_getElem hi,List.map_append];rfl)
  (fun j who hv=>by
   show LP k (j+1) 0 who f.2 (f.2.length:Int) (f.2.length:Int)=_
   rw [aap,Xp,Sd (by omega)]) f.2.length 0 k [] (by omega) (by omega) (by simp)
 have hg:=GJ (inv:=fun i (who:List Int)=>who=(f.2.take i).map (·.1)) (f:=fun i who=>who++[(f.2.getD i (0,0)).1]) (n:=f.2.length) (fun i who hi hv=>by rw [hv,List.take_add_one,getD_in hi,List.getElem?_eq_getElem hi,List.map_append];rfl) f.2.length 0 [] (by omega) (by simp)
 refine Eq.trans this ?_
 rw [hg,List.take_length]
theorem amU {k:Nat} {b:List Int×List Int} (h:b.2.length <= 100):alN k b=some ((([],[]),b.2,()),()):=by
 unfold alN
 simp only [FH,U0,ZI,ZJ]
 rw [Ll (by omega)];rfl
theorem amV {k:Nat} {n:Int} (h0:0 <= n) (h1:n <= 100000):alP k n=some (([],()),()):=by
 unfold alP
 rw [Sd (by omega),Uu (by omega) (by omega)]
 by_cases e:n - 0>0
 ·rw [Sc e]
  unfold az
  rw [if_pos]
  ·dsimp only
   rw [Rx (by omega) (by omega) (by omega)];simp
  ·simp only [Bool.and_eq_true,decide_eq_true_eq,List.length_nil];omega
 ·rw [Sd e]
theorem akv {k:Nat} (hk:1000 <= k) {a b:List Int} (ha:a.length <= 1000) (hb:b.length <= 1000):alQ k [a,b]=some ((a++b,()),()):=by
 unfold alQ
 obtain ⟨k',rfl⟩:∃ k',k=k'+3:=⟨k - 3,by omega⟩
 have e0:rd [a,b] 0 []=a:=rfl
 have e1:rd [a,b] 1 []=b:=rfl
 have w1:IntKind.i64.wrap (0+1)=1:=rfl
 have w2:IntKind.i64.wrap (1+1)=2:=rfl
 have hlen:(([a,b]:List (List Int)).length:Int)=2:=rfl
 rw [hlen,QX,QW,Sc (by omega),Lj (by omega) (by omega),e0,w1,Uu (by omega) (by omega),Sd (by omega),QX,QW,Sc (by omega),Lj (by omega) (by omega),e1,w2,Uu (by omega) (by omega),Sd (by omega),QX,QW,Sd (by omega),amV (by omega) (by omega),Option.bind_some,hlen]
 simp only
 rw [LQ,JZ,Sc (by omega),Lj (by omega) (by omega),e0,w1,Rz (by simp only [List.length_nil];omega),LQ,JZ,Sc (by omega),Lj (by omega) (by omega),e1,w2,Rz (by simp only [List.nil_append];omega),LQ,JZ,Sd (by omega),List.nil_append]
theorem afG {k:Nat} (hk:1000 <= k) {x:Th} (h:Vw x):agy k x=some ((wm x,()),()):=by
 obtain ⟨h1,h2,h3⟩:=h
 unfold agy wm
 rw [amU h2,Option.bind_some,amT hk h3,Option.bind_some]
 simp only
 rw [akv hk (by omega) (by rw [List.length_map];omega)];rfl
noncomputable def trn (k:Nat) (x:Th):Bool:=x.1 != 0&&x.2.2.2.2.2 != RY k x
noncomputable def frT (k:Nat) (x:Th):Th:=y8 k (x.1,x.2.1,(if x.1=1 then x.2.2.1.1 else 0,0),([],[]),(0,[]),0)
noncomputable def YF (k:Nat) (l:List Th):Nat -> Nat -> List Th×List Int×List (List Int) -> List Th×List Int×List (List Int)
 | 0,_,s=>s
 | m+1,i,s=>YF k l m (i+1) (if trn k (l.getD i jw)=true then (s.1.set i (frT k (l.getD i jw)),s.2.1++[(i:Int)],s.2.2++[wm (l.getD i jw)]) else s)
theorem Vy {k:Nat} (hk:1000 <= k) {t:Tb} (ht:wz t):∀ (m i j:Nat) (s:List Th×List Int×List (List Int)),i+m=t.2.length -> m<j -> s.1.length=t.2.length -> s.2.1.length <= i -> s.2.2.length <= i ->
  R8 k j t.1.1 t.1.2 t.2 t.1.1 t.1.2 s.1 s.2.1 s.2.2 t.2 (t.2.length:Int) (i:Int)=some (((t.1,(YF k t.2 m i s).1),(YF k t.2 m i s).2.1,(YF k t.2 m i s).2.2,()),())
 | 0,i,j,s,h,hj,h1,h2,h3=>by
  obtain ⟨j',rfl⟩:∃ j',j=j'+1:=⟨j - 1,by omega⟩
  rw [aay,XA,Sd (by omega),YF]
 | m+1,i,j,s,h,hj,h1,h2,h3=>by
  obtain ⟨j',rfl⟩:∃ j',j=j'+1:=⟨j - 1,by omega⟩
  obtain ⟨⟨hl1,hl2,hl3⟩,hsm⟩:=ht
  have hi:i<t.2.length:=by omega
  have hx:=hsm _ (jh (z:=jw) hi)
  have ih:=Vy hk ⟨⟨hl1,hl2,hl3⟩,hsm⟩ m (i+1) j'
  have hth:OC ((t.1.1,t.1.2),t.2) (i:Int)=((t.2.getD i jw).1 != 0):=by
   unfold OC;rw [decide_eq_true (show (0:Int) <= (i:Int) by omega),decide_eq_true (show (i:Int)<(t.2.length:Int) by omega),Qp];rfl
  rw [aay,XA,Sc (by omega),Qo hi,Ye,Option.bind_some,hth,Qp,Mi (by omega),YF]
  unfold trn
  cases h0:(t.2.getD i jw).1 != 0 with
  | false =>
   simp only [Bool.not_false,cond_true,Bool.false_and,Bool.false_eq_true,if_false]
   exact ih s (by omega) (by omega) h1 (by omega) (by omega)
  | true =>
   simp only [Bool.not_true,cond_false,Bool.true_and]
   rw [Yc hk hx,Option.bind_some]
   simp only
   by_cases e:(t.2.getD i jw).2.2.2.2.2=RY k (t.2.getD i jw)
   ·rw [show ((t.2.getD i jw).2.2.2.2.2==RY k (t.2.getD i jw))=true by simpa using e,cond_true,if_neg (by simpa using e)]
    exact ih s (by omega) (by omega) h1 (by omega) (by omega)
   ·rw [show ((t.2.getD i jw).2.2.2.2.2==RY k (t.2.getD i jw))=false by simpa using e,cond_false,if_pos (by simpa using e)]
    have fin:∀ y:Th,Vw y -> y=(( t.2.getD i jw).1,(t.2.getD i jw).2.1,(if (t.2.getD i jw).1=1 then (t.2.getD i jw).2.2.1.1 else 0,0),([],[]),(0,[]),0) ->
      R7 k (fun t1 t2 t3 out abI apu places who t11 t12 t13=>R8 k j' t1 t2 t3 out abI apu places who t11 t12 t13) t.1.1 t.1.2 t.2 t.1.1 t.1.2 s.1 s.2.1 s.2.2 (i:Int) (t.2.getD i jw).1 (t.2.getD i jw).2.1.1 (t.2.getD i jw).2.1.2 (t.2.getD i jw).2.2.1.1 (t.2.getD i jw).2.2.1.2 (t.2.getD i jw).2.2.2.1.1 (t.2.getD i jw).2.2.2.1.2 (t.2.getD i jw).2.2.2.2.1.1 (t.2.getD i jw).2.2.2.2.1.2 (t.2.getD i jw).2.2.2.2.2 y.1 y.2.1.1 y.2.1.2 y.2.2.1.1 y.2.2.1.2 y.2.2.2.1.1 y.2.2.2.1.2 y.2.2.2.2.1.1 y.2.2.2.2.1.2 y.2.2.2.2.2 t.2 (t.2.length:Int) (i:Int) =
      some (((t.1,(YF k t.2 m (i+1) (s.1.set i (frT k (t.2.getD i jw)),s.2.1++[(i:Int)],s.2.2++[wm (t.2.getD i jw)])).1),(YF k t.2 m (i+1) (s.1.set i (frT k (t.2.getD i jw)),s.2.1++[(i:Int)],s.2.2++[wm (t.2.getD i jw)])).2.1,(YF k t.2 m (i+1) (s.1.set i (frT k (t.2.getD i jw)),s.2.1++[(i:Int)],s.2.2++[wm (t.2.getD i jw)])).2.2,()),()):=fun y hy hye=>by
     unfold R7
     have e1:abL k (y.1,(y.2.1.1,y.2.1.2),(y.2.2.1.1,y.2.2.1.2),(y.2.2.2.1.1,y.2.2.2.1.2),(y.2.2.2.2.1.1,y.2.2.2.2.1.2),y.2.2.2.2.2)=some ((y8 k y,()),()):=Yd hk hy
     rw [e1,Option.bind_some,Qo (by omega),Rz (by simp only [List.length_cons,List.length_nil];omega)]
     have e2:agy k ((t.2.getD i jw).1,((t.2.getD i jw).2.1.1,(t.2.getD i jw).2.1.2),((t.2.getD i jw).2.2.1.1,(t.2.getD i jw).2.2.1.2),((t.2.getD i jw).2.2.2.1.1,(t.2.getD i jw).2.2.2.1.2),((t.2.getD i jw).2.2.2.2.1.1,(t.2.getD i jw).2.2.2.2.1.2),(t.2.getD i jw).2.2.2.2.2)=some ((wm (t.2.getD i jw),()),()):=afG hk hx
     rw [e2,Option.bind_some,Rz (by simp only [List.length_cons,List.length_nil];omega),Mi (by omega),Mj]
     have e3:y8 k y=frT k (t.2.getD i jw):=by rw [hye];rfl
     simp only
     rw [e3]
     exact ih (s.1.set i (frT k (t.2.getD i jw)),s.2.1++[(i:Int)],s.2.2++[wm (t.2.getD i jw)]) (by omega) (by omega) (by simp only [List.length_set];exact h1) (by simp only [List.length_append,List.length_cons,List.length_nil];omega) (by simp only [List.length_append,List.length_cons,List.length_nil];omega)
    unfold agw
    by_cases e1:(t.2.getD i jw).1=1
    ·rw [show ((t.2.getD i jw).1==1)=true by rw [e1];rfl,cond_true,Option.bind_some]
     simp only [cond_true]
     exact fin ((t.2.getD i jw).1,(t.2.getD i jw).2.1,((t.2.getD i jw).2.2.1.1,0),([],[]),(0,[]),0) ⟨by simp,by simp,by simp⟩ (by rw [if_pos e1])
    ·rw [show ((t.2.getD i jw).1==1)=false by simpa using e1,cond_false,Option.bind_some]
     simp only [cond_false]
     exact fin ((t.2.getD i jw).1,(t.2.getD i jw).2.1,(0,0),([],[]),(0,[]),0) ⟨by simp,by simp,by simp⟩ (by rw [if_neg e1])
theorem amW {k:Nat} (hk:1000 <= k) {t:Tb} (ht:wz t):alY k t=some (((t.1,(YF k t.2 t.2.length 0 (t.2,[],[])).1),(YF k t.2 t.2.length 0 (t.2,[],[])).2.1,(YF k t.2 t.2.length 0 (t.2,[],[])).2.2,()),()):=by
 unfold alY
 rw [H8 hk ht,Option.bind_some]
 have:=ht.1
 exact Vy hk ht t.2.length 0 k (t.2,[],[]) (by omega) (by omega) rfl (by simp) (by simp)
theorem apP {k:Nat} (hk:1000 <= k) {t:Tb} (h:t.2.length <= 100):S22 k t=some ((t,()),()):=by
 unfold S22
 have:=Vb (L:=fun j (out:List Th) i=>V7 k j t.1.1 t.1.2 t.2 t.1.1 t.1.2 out i) (n:=t.2.length) (fun i out=>out=t.2.take i)
  (fun i out=>out++[t.2.getD i jw]) (fun out=>some ((((t.1.1,t.1.2),out),()),()))
  (fun j i out hi hv=>by
   show V7 k (j+1) t.1.1 t.1.2 t.2 t.1.1 t.1.2 out (i:Int)=_
   have hl:out.length <= 100:=by rw [hv,List.length_take];omega
   rw [aeL,aeK,Sc (by omega),Qo hi,Qp,S55,Option.bind_some,Rz (by simp only [List.length_cons,List.length_nil];omega),Mi (by omega)])
  (fun i out hi hv=>by rw [hv,List.take_add_one,getD_in hi,List.getElem?_eq_getElem hi];rfl)
  (fun j out hv=>by
   show V7 k (j+1) t.1.1 t.1.2 t.2 t.1.1 t.1.2 out (t.2.length:Int)=_
   rw [aeL,aeK,Sd (by omega)]) t.2.length 0 k [] (by omega) (by omega) (by simp)
 have hg:=GJ (inv:=fun i (out:List Th)=>out=t.2.take i) (f:=fun i out=>out++[t.2.getD i jw]) (n:=t.2.length) (fun i out hi hv=>by rw [hv,List.take_add_one,getD_in hi,List.getElem?_eq_getElem hi];rfl) t.2.length 0 [] (by omega) (by simp)
 refine Eq.trans this ?_
 rw [hg,List.take_length]
theorem agY {k:Nat} (hk:1000 <= k) {b:List Int×List Int} (h1:b.1.length <= 100) (h2:b.2.length <= 100):aml k b b=some ((true,()),()):=by
 unfold aml
 rw [bne_self_eq_false,bne_self_eq_false,cond_false,cond_false]
 have r2:=XY (L:=fun j i=>M9 k j b.1 b.2 b.1 b.2 i) (n:=b.2.length) (fun _=>false) none (some ((true,()),())) (fun j i hi=>by
  show M9 k (j+1) b.1 b.2 b.1 b.2 (i:Int)=_
  rw [aaM,XU,Sc (by omega),Qo hi,Qo hi,bne_self_eq_false,cond_false,Mi (by omega)];rfl) (fun j=>by
  show M9 k (j+1) b.1 b.2 b.1 b.2 (b.2.length:Int)=_
  rw [aaM,XU,Sd (by omega)]) b.2.length 0 k (by omega) (by omega)
 rw [(qy _ _ _).2 (fun _ _ _=>rfl),cond_false] at r2
 have r1:=XY (L:=fun j i=>MB k j b.1 b.2 b.1 b.2 i) (n:=b.1.length) (fun _=>false) none (some ((true,()),())) (fun j i hi=>by
  show MB k (j+1) b.1 b.2 b.1 b.2 (i:Int)=_
  rw [aaN,XV,Sc (by omega),Qo hi,Qo hi,bne_self_eq_false,cond_false,Mi (by omega)];rfl) (fun j=>by
  show MB k (j+1) b.1 b.2 b.1 b.2 (b.1.length:Int)=_
  rw [aaN,XV,Sd (by omega)];exact r2) b.1.length 0 k (by omega) (by omega)
 rw [(qy _ _ _).2 (fun _ _ _=>rfl),cond_false] at r1
 exact r1
theorem MR (a:Int×Int) {k1 k2:IntKind}:fC (.pair (.int k1) (.int k2)) a a=true:=by simp [fC]
theorem agZ {k:Nat} (hk:1000 <= k) {f:Int×List (Int×Int)} (h:f.2.length <= 100):amm k f f=some ((true,()),()):=by
 unfold amm apC
 rw [beq_self_eq_true,cond_true,bne_self_eq_false,cond_false]
 have r1:=XY (L:=fun j i=>IV k j f.2 f.2 i) (n:=f.2.length) (fun _=>false) none (some ((true,()),())) (fun j i hi=>by
  show IV k (j+1) f.2 f.2 (i:Int)=_
  rw [aaO,XW,Sc (by omega),Qo hi,Qo hi,MR,Bool.not_true,cond_false,Mi (by omega)];rfl) (fun j=>by
  show IV k (j+1) f.2 f.2 (f.2.length:Int)=_
  rw [aaO,XW,Sd (by omega)]) f.2.length 0 k (by omega) (by omega)
 rw [(qy _ _ _).2 (fun _ _ _=>rfl),cond_false] at r1
 rw [show IV k k f.2 f.2 0=some ((true,()),()) from r1];rfl
theorem ag0 {k:Nat} (hk:1000 <= k) {x:Th} (h:Vw x):amn k x x=some ((true,()),()):=by
 unfold amn
 rw [beq_self_eq_true,beq_self_eq_true,MR,MR,cond_true,cond_true,cond_true,cond_true,agY hk h.1 h.2.1,Option.bind_some,cond_true,agZ hk h.2.2];rfl
abbrev iq:Type:=List Int×List Bool
def O4 (s:iq):Int:=qb (fun b=>b==false) (s.2.take (min s.1.length s.2.length))
def qw (s:iq):iq×(Int×Int)×Bool :=
 if O4 s<0 then (s,(0,0),false)
 else ((s.1.set (O4 s).toNat (IntKind.i64.wrap (s.1.getD (O4 s).toNat 0+1)),s.2.set (O4 s).toNat true),(O4 s,IntKind.i64.wrap (s.1.getD (O4 s).toNat 0+1)),true)
theorem ab6 {α:Type} (f:α -> Bool) (xs:List α):qb f xs = -1 \/ ∃ n:Nat,n<xs.length /\ qb f xs=(n:Int):=by
 unfold qb
 cases h:xs.findIdx? f with
 | none=>exact .inl rfl
 | some n =>
  rw [List.findIdx?_eq_some_iff_getElem] at h
  obtain ⟨hn,_⟩:=h
  exact .inr ⟨n,hn,rfl⟩
theorem afH {k:Nat} (hk:1000 <= k) {s:List Bool} (h:s.length <= 900):aiD k s false=some ((qb (fun b=>b==false) s,()),()):=by
 unfold aiD
 refine ql (fun j i=>LH k j s false (s.length:Int) i) s false _ (fun j i hi=>?_) (fun j=>?_) k (by omega)
 ·show LH k (j+1) s false (s.length:Int) (i:Int)=_
  rw [ZU,Xc,Sc (by omega),Qo hi,Mi (by omega),Qp]
  cases s.getD i false <;> rfl
 ·show LH k (j+1) s false (s.length:Int) (s.length:Int)=_
  rw [ZU,Xc,Sd (by omega)]
theorem amX {k:Nat} (hk:1000 <= k) {s:iq} (h1:s.1.length <= 100) (h2:s.2.length <= 100):alH k s=some (((qw s).1,(qw s).2.1,(qw s).2.2,()),()):=by
 unfold alH aiA aiB
 simp only [FH,U0,ZI,ZJ]
 rw [Ll (by omega),Option.bind_some,Ll (by omega),Option.bind_some,Option.bind_some,Option.bind_some,Sg]
 simp only
 have hm:min (s.1.length:Int) (s.2.length:Int)=((min s.1.length s.2.length:Nat):Int):=by omega
 have hsub:sub s.2 0 ((min s.1.length s.2.length:Nat):Int)=s.2.take (min s.1.length s.2.length):=by simp [sub]
 rw [hm,Rx (by omega) (by omega) (by omega),hsub,afH hk (by rw [List.length_take];omega),Option.bind_some]
 unfold qw
 rcases ab6 (fun b=>b==false) (s.2.take (min s.1.length s.2.length)) with e | ⟨n,hn,e⟩
 ·have hf:O4 s = -1:=e
  rw [hf,if_pos (by omega)]
  simp only [e]
  rw [Sc (by omega)]
 ·have hf:O4 s=(n:Int):=e
  rw [List.length_take] at hn
  rw [hf,if_neg (by omega)]
  simp only [e]
  rw [Sd (by omega),Qo (by omega),Qo (by omega),Qo (by omega),Lj (by omega) (by rw [Mk];omega)]
  simp only [Qp,Mj,Int.toNat_natCast]
  rw [nk,if_pos ⟨rfl,by omega⟩]
def O5 (c:Int) (l:List Th):Nat:=l.countP (fun x=>x.1==c)
def CO (c:Int) (h:Int×Int):Th:=(c,h,(if c=1 then 8 else 0,0),([],[]),(0,[]),0)
noncomputable def BM (k:Nat) (t:Tb) (c:Int):Tb×(Int×Int)×Bool :=
 if 4 <= O5 c t.2 \/ (qw t.1).2.2=false \/ (t.2.length:Int) <= (qw t.1).2.1.1 then (t,(0,0),false)
 else (((qw t.1).1,upd t.2 (qw t.1).2.1.1 (y8 k (CO c (qw t.1).2.1))),(qw t.1).2.1,true)
theorem akw (s:iq):0 <= (qw s).2.1.1:=by
 unfold qw
 split
 ·simp
 ·rename_i h;simp only;omega
theorem Vz {k:Nat} (hk:1000 <= k) {c a b:Int} {mo:List (Int×Int)} {t:Tb} (hmo:Us (.int .i64) (.int .i64) c mo 0=4) (h1:t.1.1.length <= 100) (h2:t.1.2.length <= 100) (h3:t.2.length <= 100):∀ (m i j n:Nat),i+m=t.2.length -> m<j -> n <= i ->
  Xe k j c a b mo t.1.1 t.1.2 t.2 (n:Int) t.2 (t.2.length:Int) (i:Int) =
   (if 4 <= n+O5 c (t.2.drop i) \/ (qw t.1).2.2=false \/ (t.2.length:Int) <= (qw t.1).2.1.1 then some ((t,(0,0),false,()),()) else some ((((qw t.1).1,upd t.2 (qw t.1).2.1.1 (y8 k (CO c (qw t.1).2.1))),(qw t.1).2.1,true,()),()))
 | 0,i,j,n,h,hj,hn=>by
  obtain ⟨j',rfl⟩:∃ j',j=j'+1:=⟨j - 1,by omega⟩
  rw [ZV,Xd,Sd (by omega),amX hk h1 h2,Option.bind_some,drop_nil (by omega),hmo]
  have hma:O5 c []=0:=rfl
  rw [hma,Nat.add_zero]
  simp only
  have e0:((t.1.1,t.1.2):iq)=t.1:=rfl
  rw [e0]
  by_cases e:4 <= n
  ·rw [Sc (by omega),if_pos (.inl e)]
  ·rw [Sd (by omega)]
   cases hok:(qw t.1).2.2 with
   | false=>rw [if_pos (.inr (.inl rfl))];rfl
   | true =>
    rw [Bool.not_true,cond_false]
    by_cases e2:(t.2.length:Int) <= (qw t.1).2.1.1
    ·rw [Sc (by omega),if_pos (.inr (.inr e2))]
    ·have hat:=akw t.1
     rw [Sd (by omega),if_neg (by rintro (q | q | q);exact e q;cases q;exact e2 q)]
     have hfr:agw k c (qw t.1).2.1=some ((CO c (qw t.1).2.1,()),()):=by
      unfold agw CO
      by_cases e3:c=1
      ·rw [show (c==1)=true by rw [e3];rfl,cond_true,if_pos e3]
      ·rw [show (c==1)=false by simpa using e3,cond_false,if_neg e3]
     rw [hfr,Option.bind_some,Yd hk ⟨by simp [CO],by simp [CO],by simp [CO]⟩,Option.bind_some,Lj hat (by omega)]
 | m+1,i,j,n,h,hj,hn=>by
  obtain ⟨j',rfl⟩:∃ j',j=j'+1:=⟨j - 1,by omega⟩
  have hi:i<t.2.length:=by omega
  have ih:=Vz hk (c:=c) (a:=a) (b:=b) hmo h1 h2 h3 m (i+1) j'
  have hc:O5 c (t.2.getD i jw::t.2.drop (i+1))=O5 c (t.2.drop (i+1))+(if ((t.2.getD i jw).1==c)=true then 1 else 0):=by unfold O5;rw [List.countP_cons]
  rw [ZV,Xd,Sc (by omega),Qo hi,Qp,Mi (by omega),Mi (by omega),drop_cons jw hi,hc]
  cases e:(t.2.getD i jw).1==c with
  | true =>
   simp only [cond_true,if_true]
   rw [ih (n+1) (by omega) (by omega) (by omega),show n+(O5 c (t.2.drop (i+1))+1)=n+1+O5 c (t.2.drop (i+1)) by omega]
  | false =>
   simp only [cond_false,Bool.false_eq_true,if_false,Nat.add_zero]
   exact ih n (by omega) (by omega) (by omega)
theorem amY {k:Nat} (hk:1000 <= k) {t:Tb} {c:Int} (ht:wz t) (hc:c=1 \/ c=2 \/ c=3):alI k t c=some (((BM k t c).1,(BM k t c).2.1,(BM k t c).2.2,()),()):=by
 unfold alI
 rw [H8 hk ht,Option.bind_some]
 obtain ⟨⟨h1,h2,h3⟩,_⟩:=ht
 have hmo:Us (.int .i64) (.int .i64) c (vL (.int .i64) (.int .i64) 3 4 (vL (.int .i64) (.int .i64) 2 4 (vL (.int .i64) (.int .i64) 1 4 ([]:List (Int×Int))))) 0=4:=by
  rcases hc with rfl | rfl | rfl <;> rfl
 have:=Vz hk (c:=c) (a:=0) (b:=0) hmo h1 h2 h3 t.2.length 0 k 0 (by omega) (by omega) (by omega)
 rw [List.drop_zero,Nat.zero_add] at this
 refine Eq.trans this ?_
 unfold BM
 split <;> rfl
def newT:Tb:=((List.replicate 12 0,List.replicate 12 false),List.replicate 12 jw)
theorem afI:Vw jw:=⟨by simp,by simp,by simp⟩
theorem amZ:wz newT:=⟨⟨by simp [newT],by simp [newT],by simp [newT]⟩,fun x hx=>by
 rw [List.eq_of_mem_replicate hx];exact afI⟩
theorem ag1 {k:Nat} (hk:1000 <= k) {s:iq} (h1:s.1.length <= 100) (h2:s.2.length <= 100):amk k s s=some ((true,()),()):=by
 unfold amk
 rw [bne_self_eq_false,bne_self_eq_false,cond_false,cond_false]
 have r2:=XY (L:=fun j i=>M7 k j s.1 s.2 s.1 s.2 i) (n:=s.2.length) (fun _=>false) none (some ((true,()),())) (fun j i hi=>by
  show M7 k (j+1) s.1 s.2 s.1 s.2 (i:Int)=_
  rw [aaK,XR,Sc (by omega),Qo hi,Qo hi,beq_self_eq_true,Bool.not_true,cond_false,Mi (by omega)];rfl) (fun j=>by
  show M7 k (j+1) s.1 s.2 s.1 s.2 (s.2.length:Int)=_
  rw [aaK,XR,Sd (by omega)]) s.2.length 0 k (by omega) (by omega)
 rw [(qy _ _ _).2 (fun _ _ _=>rfl),cond_false] at r2
 have r1:=XY (L:=fun j i=>M8 k j s.1 s.2 s.1 s.2 i) (n:=s.1.length) (fun _=>false) none (some ((true,()),())) (fun j i hi=>by
  show M8 k (j+1) s.1 s.2 s.1 s.2 (i:Int)=_
  rw [aaL,XT,Sc (by omega),Qo hi,Qo hi,bne_self_eq_false,cond_false,Mi (by omega)];rfl) (fun j=>by
  show M8 k (j+1) s.1 s.2 s.1 s.2 (s.1.length:Int)=_
  rw [aaL,XT,Sd (by omega)];exact r2) s.1.length 0 k (by omega) (by omega)
 rw [(qy _ _ _).2 (fun _ _ _=>rfl),cond_false] at r1
 exact r1
theorem akx {k:Nat} (hk:1000 <= k) {t:Tb} (h:wz t):S69 k t t=some ((true,()),()):=by
 obtain ⟨⟨h1,h2,h3⟩,h4⟩:=h
 unfold S69
 rw [bne_self_eq_false,cond_false,ag1 hk h1 h2,Option.bind_some]
 simp only [Bool.not_true,cond_false]
 have r1:=XY (L:=fun j i=>V9 k j t.1.1 t.1.2 t.2 t.1.1 t.1.2 t.2 i) (n:=t.2.length) (fun _=>false) none (some ((true,()),())) (fun j i hi=>by
  show V9 k (j+1) t.1.1 t.1.2 t.2 t.1.1 t.1.2 t.2 (i:Int)=_
  rw [ae3,ae2,Sc (by omega),Qo hi,Qo hi,Qp,ag0 hk (h4 _ (jh hi)),Option.bind_some,Mi (by omega)];rfl) (fun j=>by
  show V9 k (j+1) t.1.1 t.1.2 t.2 t.1.1 t.1.2 t.2 (t.2.length:Int)=_
  rw [ae3,ae2,Sd (by omega)]) t.2.length 0 k (by omega) (by omega)
 rw [(qy _ _ _).2 (fun _ _ _=>rfl),cond_false] at r1
 exact r1
theorem am0 {t:Tb} {i:Int} {x:Th} (ht:wz t) (hx:Vw x):wz (t.1,upd t.2 i x):=by
 obtain ⟨⟨h1,h2,h3⟩,h4⟩:=ht
 refine ⟨⟨h1,h2,by rw [Mk];exact h3⟩,fun y hy=>?_⟩
 rcases List.mem_or_eq_of_mem_set hy with q | q
 ·exact h4 y q
 ·rw [q];exact hx
noncomputable def J5 (k:Nat) (l:List Th):Nat -> Nat
 | 0=>0
 | i+1=>J5 k l i+(if trn k (l.getD i jw)=true then 1 else 0)
structure apQ (k:Nat) (l:List Th) (i:Nat) (s:List Th×List Int×List (List Int)):Prop where
 len:s.1.length=l.length
 len1:s.2.1.length=J5 k l i
 len2:s.2.2.length=J5 k l i
 told:∀ j,j<i -> trn k (l.getD j jw)=true -> s.2.1.getD (J5 k l j) 0=(j:Int) /\ s.2.2.getD (J5 k l j) []=wm (l.getD j jw) /\ s.1.getD j jw=frT k (l.getD j jw) /\ J5 k l j<J5 k l i
 kept:∀ j,(i <= j \/ trn k (l.getD j jw)=false) -> s.1.getD j jw=l.getD j jw
theorem afJ {k:Nat} {l:List Th}:∀ (m i:Nat) (s:List Th×List Int×List (List Int)),i+m=l.length -> apQ k l i s -> apQ k l l.length (YF k l m i s)
 | 0,i,s,h,hi=>by
  have:i=l.length:=by omega
  subst this;exact hi
 | m+1,i,s,h,hi=>by
  rw [YF]
  refine afJ m (i+1) _ (by omega) ?_
  obtain ⟨h1,h2,h3,h4,h5⟩:=hi
  by_cases e:trn k (l.getD i jw)=true
  ·rw [if_pos e]
   have hc:J5 k l (i+1)=J5 k l i+1:=by rw [J5,if_pos e]
   refine ⟨by rw [List.length_set];exact h1,by rw [hc,List.length_append,h2];rfl,by rw [hc,List.length_append,h3];rfl,fun j hj ht=>?_,fun j hj=>?_⟩
   ·by_cases ej:j=i
    ·subst ej
     simp only
     rw [j6 (by omega),j6 (by omega),h2,h3,Nat.sub_self,nk,if_pos ⟨rfl,by omega⟩]
     exact ⟨rfl,rfl,rfl,by omega⟩
    ·obtain ⟨q1,q2,q3,q4⟩:=h4 j (by omega) ht
     simp only
     rw [ny (by omega),ny (by omega),nk,if_neg (by omega)]
     exact ⟨q1,q2,q3,by omega⟩
   ·simp only
    rw [nk,if_neg]
    ·exact h5 j (hj.imp (fun q=>(by omega)) id)
    ·rintro ⟨rfl,_⟩
     rcases hj with q | q
     ·omega
     ·rw [e] at q;cases q
  ·rw [if_neg e]
   have hc:J5 k l (i+1)=J5 k l i:=by rw [J5,if_neg e];rfl
   refine ⟨h1,by rw [hc];exact h2,by rw [hc];exact h3,fun j hj ht=>?_,fun j hj=>h5 j (hj.imp (fun q=>(by omega)) id)⟩
   by_cases ej:j=i
   ·subst ej;exact absurd ht e
   ·rw [hc];exact h4 j (by omega) ht
theorem apR (k:Nat) (l:List Th):apQ k l l.length (YF k l l.length 0 (l,[],[])) :=
 afJ l.length 0 (l,[],[]) (by omega) ⟨rfl,rfl,rfl,fun j hj=>by omega,fun j _=>rfl⟩
theorem ag2 (s:iq):(qw s).1.1.length=s.1.length /\ (qw s).1.2.length=s.2.length:=by
 unfold qw
 split
 ·exact ⟨rfl,rfl⟩
 ·simp
theorem am1 {l:List Th} {i:Int} {x:Th} {j:Nat} (hi:0 <= i):(upd l i x).getD j jw=if i.toNat=j /\ j<l.length then x else l.getD j jw:=by unfold upd;rw [nk]
theorem aky {t:Tb} {i:Nat} (h:i<t.2.length):OC t (i:Int)=((t.2.getD i jw).1 != 0):=by
 unfold OC;rw [decide_eq_true (show (0:Int) <= (i:Int) by omega),decide_eq_true (show (i:Int)<(t.2.length:Int) by omega),Qp];rfl
theorem am2 {k:Nat} {w x:Th} (h:Vw x):Vw (agX k w x):=by unfold agX;split <;> exact h
theorem am3 {k:Nat} {t:Tb} {i j:Nat} {x:Th} (hi:i<t.2.length):(J4 k t i x).2.getD j jw=if i=j /\ (t.2.getD i jw).1≠0 then agX k (t.2.getD i jw) x else t.2.getD j jw:=by
 unfold J4
 rw [aky hi]
 by_cases e:(t.2.getD i jw).1=0
 ·rw [if_neg (by rw [e];simp),if_neg (fun q=>q.2 e)]
 ·rw [if_pos (bne_iff_ne.2 e)]
  simp only
  rw [am1 (by omega),Int.toNat_natCast,Qp]
  by_cases ej:i=j
  ·subst ej;rw [if_pos ⟨rfl,hi⟩,if_pos ⟨rfl,e⟩]
  ·rw [if_neg (fun q=>ej q.1),if_neg (fun q=>ej q.1)]
theorem RZ {k:Nat} {t:Tb} {i:Int} {x:Th} (h:wz t) (hx:Vw x):wz (J4 k t i x):=by
 unfold J4;split
 ·exact am0 h (am2 hx)
 ·exact h
theorem am4 {k:Nat} {t:Tb} {i:Int} {x:Th}:(J4 k t i x).2.length=t.2.length:=by
 unfold J4;split
 ·simp only;rw [Mk]
 ·rfl
theorem J6 {tk tv:Ty} (hb:∀ a b:tk.D,fC tk a b=true↔a=b) (d e:tk.D) (v:tv.D):∀ (es:List (tk.D×tv.D)),jB tk tv e (vL tk tv d v es)=if fC tk e d=true then some v else jB tk tv e es
 | []=>by
  simp only [vL,jB]
  cases fC tk e d <;> rfl
 | x::r=>by
  simp only [vL]
  cases h:fC tk d x.1 with
  | true =>
   have:=(hb _ _).1 h
   simp only [jB]
   rw [<- this]
   cases fC tk e d <;> rfl
  | false =>
   simp only [jB]
   rw [J6 hb d e v r]
   cases h2:fC tk e x.1 with
   | true =>
    have h3:=(hb _ _).1 h2
    subst h3
    cases h4:fC tk x.1 d with
    | true =>
     have h5:=(hb _ _).1 h4
     rw [<- h5,(hb _ _).2 rfl] at h
     cases h
    | false=>rfl
   | false=>rfl
abbrev HT:Ty:=.pair (.int .i64) (.int .i64)
theorem KF (a b:HT.D):fC HT a b=true↔a=b:=by
 show (a.1==b.1&&a.2==b.2)=true↔a=b
 rw [Bool.and_eq_true,beq_iff_eq,beq_iff_eq]
 exact ⟨fun h=>Prod.ext h.1 h.2,fun h=>by subst h;exact ⟨rfl,rfl⟩⟩
def akz (s:iq) (h:Int×Int):Bool:=decide (0 <= h.1)&&(decide (h.1<(min s.1.length s.2.length:Nat))&&(rd s.2 h.1 false&&(rd s.1 h.1 0==h.2)))
theorem MS {k:Nat} {s:iq} (h1:s.1.length <= 100) (h2:s.2.length <= 100) (h:Int×Int):∀ (m i j:Nat) (es:List ((Int×Int)×Bool)),i+m=min s.1.length s.2.length -> m<j ->
  (jB HT .bool h es=if ∃ n:Nat,n<i /\ s.2.getD n false=true /\ h=((n:Int),s.1.getD n 0) then some true else none) ->
  ∃ es',Xk k j s.1 s.2 es ((min s.1.length s.2.length:Nat):Int) (i:Int)=some ((es',()),()) /\ (jB HT .bool h es'=if ∃ n:Nat,n<min s.1.length s.2.length /\ s.2.getD n false=true /\ h=((n:Int),s.1.getD n 0) then some true else none)
 | 0,i,j,es,hi,hj,he=>by
  obtain ⟨j',rfl⟩:∃ j',j=j'+1:=⟨j - 1,by omega⟩
  have:i=min s.1.length s.2.length:=by omega
  subst this
  rw [aae,Xj,Sd (by omega)]
  exact ⟨es,rfl,he⟩
 | m+1,i,j,es,hi,hj,he=>by
  obtain ⟨j',rfl⟩:∃ j',j=j'+1:=⟨j - 1,by omega⟩
  rw [aae,Xj,Sc (by omega),Qo (by omega),Qp,Mi (by omega)]
  cases e:s.2.getD i false with
  | false =>
   rw [cond_false]
   refine MS h1 h2 h m (i+1) j' es (by omega) (by omega) ?_
   rw [he]
   congr 1
   refine propext ⟨fun ⟨n,q1,q2⟩=>⟨n,by omega,q2⟩,fun ⟨n,q1,q2,q3⟩=>?_⟩
   by_cases en:n=i
   ·subst en;rw [e] at q2;cases q2
   ·exact ⟨n,by omega,q2,q3⟩
  | true =>
   rw [cond_true,Qo (by omega),Qp]
   refine MS h1 h2 h m (i+1) j' _ (by omega) (by omega) ?_
   rw [J6 KF,he]
   by_cases c:fC HT h ((i:Int),s.1.getD i 0)=true
   ·have c':=(KF _ _).1 c
    rw [if_pos c,if_pos ⟨i,by omega,e,c'⟩]
   ·rw [if_neg c]
    congr 1
    refine propext ⟨fun ⟨n,q1,q2⟩=>⟨n,by omega,q2⟩,fun ⟨n,q1,q2,q3⟩=>?_⟩
    by_cases en:n=i
    ·subst en;exact absurd ((KF _ _).2 q3) c
    ·exact ⟨n,by omega,q2,q3⟩
theorem afK {k:Nat} (hk:1000 <= k) {s:iq} {h:Int×Int} (h1:s.1.length <= 100) (h2:s.2.length <= 100):aiL k s h=some ((akz s h,()),()):=by
 unfold aiL apg aiB
 rw [Option.bind_some,Sg]
 simp only
 have hm:min (s.1.length:Int) (s.2.length:Int)=((min s.1.length s.2.length:Nat):Int):=by omega
 obtain ⟨es,g1,g2⟩:=MS (k:=k) h1 h2 h (min s.1.length s.2.length) 0 k [] (by omega) (by omega) (by
  rw [if_neg (by rintro ⟨n,q,_⟩;omega)];rfl)
 rw [hm,show (0:Int)=((0:Nat):Int) from rfl,g1,Option.bind_some]
 unfold Us
 rw [g2]
 unfold akz
 by_cases c:∃ n:Nat,n<min s.1.length s.2.length /\ s.2.getD n false=true /\ h=((n:Int),s.1.getD n 0)
 ·rw [if_pos c]
  obtain ⟨n,q1,q2,rfl⟩:=c
  simp only
  rw [decide_eq_true (show (0:Int) <= (n:Int) by omega),decide_eq_true (show (n:Int)<((min s.1.length s.2.length:Nat):Int) by omega),Qp,Qp,q2,beq_self_eq_true];rfl
 ·rw [if_neg c]
  cases e:decide (0 <= h.1) with
  | false=>rfl
  | true =>
   have e1:=of_decide_eq_true e
   cases f:decide (h.1<((min s.1.length s.2.length:Nat):Int)) with
   | false=>rfl
   | true =>
    have f1:=of_decide_eq_true f
    obtain ⟨n,hn⟩:∃ n:Nat,h.1=(n:Int):=⟨h.1.toNat,by omega⟩
    rw [hn,Qp,Qp]
    cases g:s.2.getD n false with
    | false=>rfl
    | true =>
     cases q:s.1.getD n 0==h.2 with
     | false=>rfl
     | true=>exact absurd ⟨n,by omega,g,Prod.ext hn (eq_of_beq q).symm⟩ c
def D8 (t:Tb) (h:Int×Int):Bool:=akz t.1 h&&OC t h.1
theorem PS {k:Nat} (hk:1000 <= k) {t:Tb} {h:Int×Int} (ht:wz t):agx k t h=some (((if D8 t h=true then h.1 else 0),D8 t h,()),()):=by
 unfold agx D8
 rw [afK hk ht.1.1 ht.1.2.1,Option.bind_some]
 cases akz t.1 h with
 | false=>rfl
 | true =>
  simp only [Bool.not_true,cond_false,Bool.true_and]
  rw [Ye,Option.bind_some]
  cases OC t h.1 <;> rfl
def VA (t:Tb) (h:Int×Int):Tb:=if D8 t h=true /\ (rd t.2 h.1 jw).1≠1 then ((t.1.1,upd t.1.2 h.1 false),upd t.2 h.1 jw) else t
end Go.Proofs.YtjjjbcmjmkcedaaGreat.Ab
