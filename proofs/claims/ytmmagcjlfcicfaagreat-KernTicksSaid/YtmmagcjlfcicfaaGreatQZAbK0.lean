import Derived.Test.YtmmagcjlfcicfaaGreatPbC
import Derived.Test.YtmmagcjlfcicfaaGreatAbK0
import Derived.Test.YtmmagcjlfcicfaaGreatAbK1
import Derived.Test.YtmmagcjlfcicfaaGreatAbK2
import Derived.KernelRfl
/- The plain law, and what it hangs on. -/
namespace Go.Proofs.YtmmagcjlfcicfaaGreat.Ab
open Go.RowKit
set_option linter.unusedSimpArgs false
set_option linter.unusedVariables false
section
variable {σ R α:Type}
abbrev I4:Type:=Int×Int×Int×Int
abbrev i0:I4:=(0,0,0,0)
theorem ac1 {c x y:Bool}:(bif c then some ((x,()),()) else some ((y,()),()):Option ((Bool×Unit)×Unit))=some ((bif c then x else y,()),()):=by cases c <;> rfl
theorem NJ {c x:Bool}:(bif c then x else false)=(c&&x):=by cases c <;> rfl
theorem ang {a b c:Bool}:(bif (bif a then b else false) then c else false)=bif a then (bif b then c else false) else false:=by cases a <;> rfl
theorem ald (n a b:Int) (h:b=a+1):decide (n <= a)=decide (n<b):=by subst h;congr 1;exact propext ⟨fun _=>by omega,fun _=>by omega⟩
theorem getD_in {l:List α} {n:Nat} {z:α} (h:n<l.length):l.getD n z=l[n]:=by
 simp [List.getD_eq_getElem?_getD,List.getElem?_eq_getElem h]
theorem NK {l:List α} {n:Nat} {z:α} (h:l.length <= n):l.getD n z=z:=by
 simp [List.getD_eq_getElem?_getD,List.getElem?_eq_none h]
theorem oz {l:List α} {x y:Nat} {v z:α}:(l.set x v).getD y z=if x=y /\ y<l.length then v else l.getD y z:=by
 simp only [List.getD_eq_getElem?_getD,List.getElem?_set]
 by_cases h:x=y
 ·subst h
  by_cases h2:x<l.length
  ·simp [h2]
  ·simp [h2]
 ·simp [h]
theorem mo {u w:List α} {n:Nat} {z:α} (h:n<u.length):(u++w).getD n z=u.getD n z:=by
 simp [List.getD_eq_getElem?_getD,List.getElem?_append_left h]
theorem jq {u w:List α} {n:Nat} {z:α} (h:u.length <= n):(u++w).getD n z=w.getD (n - u.length) z:=by
 simp [List.getD_eq_getElem?_getD,List.getElem?_append_right h]
theorem drop_cons {l:List α} {i:Nat} (z:α) (h:i<l.length):l.drop i=l.getD i z::l.drop (i+1):=by
 rw [List.drop_eq_getElem_cons h,getD_in h]
theorem drop_nil {l:List α} {i:Nat} (h:i=l.length):l.drop i=[]:=List.drop_eq_nil_of_le (by omega)
theorem iq {l:List α} {i:Nat} {z:α} (h:i<l.length):l.getD i z∈l:=by rw [getD_in h];exact List.getElem_mem h
theorem BD {l:List α} {x:α} (z:α) (h:x∈l):∃ i,i<l.length /\ l.getD i z=x:=by
 obtain ⟨i,hi,rfl⟩:=List.getElem_of_mem h
 exact ⟨i,hi,getD_in hi⟩
def goF (f:Nat -> σ -> σ):Nat -> Nat -> σ -> σ
 | 0,_,s=>s
 | m+1,i,s=>goF f m (i+1) (f i s)
theorem ale {L:Nat -> σ -> Int -> Option R} {n:Nat} (inv:Nat -> σ -> Prop) (f:Nat -> σ -> σ) (fin:σ -> Option R)
  (hs:∀ j i s,i<n -> inv i s -> L (j+1) s (i:Int)=L j (f i s) ((i+1:Nat):Int))
  (hi:∀ i s,i<n -> inv i s -> inv (i+1) (f i s))
  (he:∀ j s,inv n s -> L (j+1) s (n:Int)=fin s) :
  ∀ (m i j:Nat) (s:σ),i+m=n -> m<j -> inv i s -> L j s i=fin (goF f m i s)
 | 0,i,j,s,h,hj,hv=>by
  obtain ⟨j',rfl⟩:∃ j',j=j'+1:=⟨j - 1,by omega⟩
  have:i=n:=by omega
  subst this;exact he j' s hv
 | m+1,i,j,s,h,hj,hv=>by
  obtain ⟨j',rfl⟩:∃ j',j=j'+1:=⟨j - 1,by omega⟩
  rw [hs j' i s (by omega) hv,goF]
  exact ale inv f fin hs hi he m (i+1) j' _ (by omega) (by omega) (hi i s (by omega) hv)
theorem abZ {inv:Nat -> σ -> Prop} {f:Nat -> σ -> σ} {n:Nat} (hi:∀ i s,i<n -> inv i s -> inv (i+1) (f i s)):∀ (m i:Nat) (s:σ),i+m=n -> inv i s -> inv n (goF f m i s)
 | 0,i,s,h,hv=>by
  have:i=n:=by omega
  subst this;exact hv
 | m+1,i,s,h,hv=>abZ hi m (i+1) _ (by omega) (hi i s (by omega) hv)
def JK (f:α -> Bool) (xs:List α):Int:=match xs.findIdx? f with | some n=>(n:Int) | none=>-1
theorem ab0 (L:Nat -> Int -> Option ((Int×Unit)×Unit)) (xs:List α) (z:α) (f:α -> Bool)
  (hs:∀ (j n:Nat),n<xs.length -> L (j+1) (n:Int)=bif f (xs.getD n z) then some (((n:Int),()),()) else L j ((n+1:Nat):Int))
  (he:∀ j,L (j+1) (xs.length:Int)=some ((-1,()),())):∀ (m i j:Nat),i+m=xs.length -> m<j ->
   L j i=some (((match (xs.drop i).findIdx? f with | some n=>((i+n:Nat):Int) | none=>-1),()),())
 | 0,i,j,h,hj=>by
  obtain ⟨j',rfl⟩:∃ j',j=j'+1:=⟨j - 1,by omega⟩
  have:i=xs.length:=by omega
  subst this;rw [he,List.drop_length];rfl
 | m+1,i,j,h,hj=>by
  obtain ⟨j',rfl⟩:∃ j',j=j'+1:=⟨j - 1,by omega⟩
  have hlt:i<xs.length:=by omega
  rw [hs j' i hlt,drop_cons z hlt,List.findIdx?_cons,ab0 L xs z f hs he m (i+1) j' (by omega) (by omega)]
  cases f (xs.getD i z) with
  | true=>simp
  | false =>
   simp only [cond_false,Bool.false_eq_true,if_false]
   cases (xs.drop (i+1)).findIdx? f with
   | none=>rfl
   | some n=>simp only [Option.map_some];congr 4;omega
theorem Ut (L:Nat -> Int -> Option ((Int×Unit)×Unit)) (xs:List α) (z:α) (f:α -> Bool)
  (hs:∀ (j n:Nat),n<xs.length -> L (j+1) (n:Int)=bif f (xs.getD n z) then some (((n:Int),()),()) else L j ((n+1:Nat):Int))
  (he:∀ j,L (j+1) (xs.length:Int)=some ((-1,()),())) (j:Nat) (hj:xs.length<j):L j 0=some ((JK f xs,()),()):=by
 have:=ab0 L xs z f hs he xs.length 0 j (by omega) hj
 rw [List.drop_zero] at this
 simpa [JK] using this
theorem agS (f:α -> Bool) (s:List α):decide (JK f s≥0)=s.any f:=by
 unfold JK
 cases h:s.findIdx? f with
 | none=>rw [List.findIdx?_eq_none_iff] at h;simp;intro x hx;simpa using h x hx
 | some n =>
  have h2:=List.findIdx?_isSome (xs:=s) (p:=f)
  rw [h] at h2
  rw [<- h2];simp
theorem ab1 (L:Nat -> Int -> Option R) (xs:List α) (z:α) (f:α -> Bool) (yes no:Option R)
  (hs:∀ (j n:Nat),n<xs.length -> L (j+1) (n:Int)=bif f (xs.getD n z) then yes else L j ((n+1:Nat):Int))
  (he:∀ j,L (j+1) (xs.length:Int)=no):∀ (m i j:Nat),i+m=xs.length -> m<j -> L j i=bif (xs.drop i).any f then yes else no
 | 0,i,j,h,hj=>by
  obtain ⟨j',rfl⟩:∃ j',j=j'+1:=⟨j - 1,by omega⟩
  have:i=xs.length:=by omega
  subst this;rw [he,List.drop_length];rfl
 | m+1,i,j,h,hj=>by
  obtain ⟨j',rfl⟩:∃ j',j=j'+1:=⟨j - 1,by omega⟩
  have hlt:i<xs.length:=by omega
  rw [hs j' i hlt,drop_cons z hlt,List.any_cons,ab1 L xs z f yes no hs he m (i+1) j' (by omega) (by omega)]
  cases f (xs.getD i z) <;> rfl
theorem LH (L:Nat -> Int -> Option R) (xs:List α) (z:α) (f:α -> Bool) (yes no:Option R)
  (hs:∀ (j n:Nat),n<xs.length -> L (j+1) (n:Int)=bif f (xs.getD n z) then yes else L j ((n+1:Nat):Int))
  (he:∀ j,L (j+1) (xs.length:Int)=no) (j:Nat) (hj:xs.length<j):L j 0=bif xs.any f then yes else no:=by
 have:=ab1 L xs z f yes no hs he xs.length 0 j (by omega) hj
 rwa [List.drop_zero] at this
def w9 (f:Nat -> Bool):Nat -> Nat -> Bool
 | 0,_=>false
 | m+1,i=>f i||w9 f m (i+1)
theorem NM (f:Nat -> Bool):∀ (m i:Nat),w9 f m i=true↔∃ n,i <= n /\ n<i+m /\ f n=true
 | 0,i=>⟨fun h=>by simp [w9] at h,fun ⟨n,h1,h2,_⟩=>by omega⟩
 | m+1,i=>by
  rw [w9,Bool.or_eq_true,NM f m (i+1)]
  constructor
  ·rintro (h | ⟨n,h1,h2,h3⟩)
   ·exact ⟨i,by omega,by omega,h⟩
   ·exact ⟨n,by omega,by omega,h3⟩
  ·rintro ⟨n,h1,h2,h3⟩
   by_cases e:n=i
   ·subst e;exact .inl h3
   ·exact .inr ⟨n,by omega,by omega,h3⟩
theorem oh (f:Nat -> Bool) (m i:Nat):w9 f m i=false↔∀ n,i <= n -> n<i+m -> f n=false:=by
 constructor
 ·intro h n h1 h2
  cases hf:f n with
  | false=>rfl
  | true=>rw [(NM f m i).2 ⟨n,h1,h2,hf⟩] at h;cases h
 ·intro h
  cases ha:w9 f m i with
  | false=>rfl
  | true=>obtain ⟨n,h1,h2,h3⟩:=(NM f m i).1 ha;rw [h n h1 h2] at h3;cases h3
theorem ac2 {L:Nat -> Int -> Option R} {n:Nat} (f:Nat -> Bool) (yes no:Option R)
  (hs:∀ (j i:Nat),i<n -> L (j+1) (i:Int)=bif f i then yes else L j ((i+1:Nat):Int))
  (he:∀ j,L (j+1) (n:Int)=no):∀ (m i j:Nat),i+m=n -> m<j -> L j i=bif w9 f m i then yes else no
 | 0,i,j,h,hj=>by
  obtain ⟨j',rfl⟩:∃ j',j=j'+1:=⟨j - 1,by omega⟩
  have:i=n:=by omega
  subst this;rw [he];rfl
 | m+1,i,j,h,hj=>by
  obtain ⟨j',rfl⟩:∃ j',j=j'+1:=⟨j - 1,by omega⟩
  rw [hs j' i (by omega),w9,ac2 f yes no hs he m (i+1) j' (by omega) (by omega)]
  cases f i <;> rfl
theorem NP:∀ (n i:Nat) (x:PN α n) (j:Nat) (v:α),i <= j -> Gr n (Gs n i x (j:Int) v)=(Gr n x).set (j - i) v
 | 0,_,_,_,_,_=>rfl
 | 1,i,x,j,v,h=>by
  simp only [Gr,Gs]
  by_cases e:j=i
  ·subst e;simp
  ·rw [if_neg (by omega)]
   have:j - i=(j - i - 1)+1:=by omega
   rw [this];rfl
 | n+2,i,x,j,v,h=>by
  simp only [Gr,Gs]
  by_cases e:j=i
  ·subst e
   simp only [if_true,Nat.sub_self,List.set_cons_zero,List.cons.injEq,true_and]
   exact G8 (n+1) (j+1) x.2 j v (by omega)
  ·rw [if_neg (by omega),NP (n+1) (i+1) x.2 j v (by omega),show j - i=(j - (i+1))+1 by omega,List.set_cons_succ]
where G8:∀ (n i:Nat) (x:PN α n) (j:Nat) (v:α),j<i -> Gr n (Gs n i x (j:Int) v)=Gr n x
 | 0,_,_,_,_,_=>rfl
 | 1,i,x,j,v,h=>by simp only [Gr,Gs];rw [if_neg (by omega)]
 | n+2,i,x,j,v,h=>by simp only [Gr,Gs];rw [if_neg (by omega),G8 (n+1) (i+1) x.2 j v (by omega)]
theorem ac3 {n:Nat} {x:PN α n} {j:Nat} {v:α}:Gr n (Tw n x (j:Int) v)=(Gr n x).set j v:=by
 unfold Tw;rw [NP n 0 x j v (by omega)];rfl
end
def BF (a:Int):Bool:=decide (a≥0)&&decide (a<8)
def yg (v a b:Int):Bool:=decide (v≥a)&&decide (v <= b)
def jm (i:I4):Bool :=
 bif i.1==0 then (i.2.1==0&&(i.2.2.1==0&&i.2.2.2==0))
 else bif i.1==11 then (i.2.1==0&&(i.2.2.1==0&&i.2.2.2==0))
 else bif i.1==1 then (BF i.2.1&&(i.2.2.1==0&&yg i.2.2.2 (-2147483648) 2147483647))
 else bif i.1==2 then (BF i.2.1&&(BF i.2.2.1&&i.2.2.2==0))
 else bif i.1==3 then (BF i.2.1&&(BF i.2.2.1&&i.2.2.2==0))
 else bif i.1==4 then (BF i.2.1&&(BF i.2.2.1&&i.2.2.2==0))
 else bif i.1==5 then (BF i.2.1&&(i.2.2.1==0&&yg i.2.2.2 (-63) 63))
 else bif i.1==6 then (BF i.2.1&&(i.2.2.1==0&&yg i.2.2.2 1 64))
 else bif i.1==7 then (BF i.2.1&&(i.2.2.1==0&&yg i.2.2.2 1 24))
 else bif i.1==8 then (i.2.1==0&&(yg i.2.2.1 1 24&&yg i.2.2.2 1 20))
 else bif i.1==9 then (yg i.2.1 0 3&&(i.2.2.1==0&&i.2.2.2==0))
 else bif i.1==10 then (yg i.2.1 0 3&&(i.2.2.1==0&&i.2.2.2==0))
 else false
theorem ajm (k:Nat) (a:Int):JD k a=some ((BF a,()),()):=by unfold JD BF;rw [ac1,NJ]
theorem ajn (k:Nat) (a:Int):IZ k 8 a=some ((BF a,()),()):=by unfold IZ BF;rw [ac1,NJ]
theorem ajo (k:Nat) (v a b:Int):MR k v a b=some ((yg v a b,()),()):=by unfold MR yg;rw [ac1,NJ]
theorem ajp (k:Nat) (i:I4):aiI k i=some ((jm i,()),()):=by
 unfold jm aiI
 simp only [ajm,ajo,Option.bind_some,ac1,NJ]
theorem ab2 (k:Nat) (i:I4):adO k i=some ((jm i,()),()):=by
 unfold jm adO yg
 simp only [ajn,Option.bind_some,ac1,NJ,ang,Bool.and_assoc,ald _ 2147483647 2147483648 rfl,ald _ 3 4 rfl]
def NQ (l:List I4) (open_:List Int) (x:Int):Bool:=open_.any (fun i=>(rd l i i0).2.1==(rd l x i0).2.1)
def pc (i:Nat) (x:I4):List (Int×Int×Int×Bool) :=
 bif x.1==8 then [(((i+1:Nat):Int),IntKind.i64.wrap ((i:Int)+x.2.2.1),(i:Int),true)]
 else bif x.1==7 then [(((i+1:Nat):Int),IntKind.i64.wrap ((i:Int)+x.2.2.2),(i:Int),false)] else []
def ko:Nat -> List (I4) -> List (Int×Int×Int×Bool)
 | _,[]=>[]
 | i,x::r=>pc i x++ko (i+1) r
theorem agT (i:Nat) (x:I4):(pc i x).length <= 1:=by unfold pc;cases x.1==8 <;> cases x.1==7 <;> simp
theorem BP:∀ (l:List (I4)) (i:Nat),(ko i l).length <= l.length
 | [],_=>by simp [ko]
 | x::r,i=>by have:=agT i x;have:=BP r (i+1);simp only [ko,List.length_append,List.length_cons];omega
theorem QE (l:List (I4)) (hl:l.length <= 900) (L:Nat -> List (Int×Int×Int×Bool) -> Int -> Option ((List (Int×Int×Int×Bool)×Unit)×Unit))
  (hs:∀ j out (i:Nat),i<l.length -> out.length <= i -> L (j+1) out i=L j (out++pc i (l.getD i (0,0,0,0))) ((i+1:Nat):Int))
  (he:∀ j out,L (j+1) out (l.length:Int)=some ((out,()),())):∀ (m i j:Nat) (out:List (Int×Int×Int×Bool)),i+m=l.length -> m<j -> out.length <= i -> L j out i=some ((out++ko i (l.drop i),()),())
 | 0,i,j,out,h,hj,ho=>by
  obtain ⟨j',rfl⟩:∃ j',j=j'+1:=⟨j - 1,by omega⟩
  have:i=l.length:=by omega
  subst this
  rw [he,List.drop_length]
  simp [ko]
 | m+1,i,j,out,h,hj,ho=>by
  obtain ⟨j',rfl⟩:∃ j',j=j'+1:=⟨j - 1,by omega⟩
  have hlt:i<l.length:=by omega
  have hp:=agT i (l.getD i (0,0,0,0))
  rw [hs j' out i hlt ho,QE l hl L hs he m (i+1) j' _ (by omega) (by omega) (by simp only [List.length_append];omega),List.drop_eq_getElem_cons hlt]
  have:l.getD i (0,0,0,0)=l[i]:=by simp [List.getD_eq_getElem?_getD,hlt]
  rw [this,ko,List.append_assoc]
theorem Uu {k:Nat} {l:List (I4)} (hk:1000 <= k) (h:l.length <= 900):acH k l=some ((ko 0 l,()),()):=by
 have:=QE l h (fun j out i=>J2 k j l out i)
  (fun j out i hi ho=>by
   show J2 k (j+1) l out (i:Int)=_
   rw [Vo,SE,Rj (by omega),Pw hi,Me (by omega),Px,pc]
   cases h8:(l.getD i (0,0,0,0)).1==8 with
   | true =>
    have h7:((l.getD i (0,0,0,0)).1==7)=false:=by rw [eq_of_beq h8];rfl
    rw [h7]
    simp only [cond_true,cond_false]
    rw [Pw hi,Rh (by simp only [List.length_cons,List.length_nil];omega)]
   | false =>
    cases h7:(l.getD i (0,0,0,0)).1==7 with
    | true=>simp only [cond_true,cond_false];rw [Pw hi,Rh (by simp only [List.length_cons,List.length_nil];omega)]
    | false=>simp only [cond_false,List.append_nil])
  (fun j out=>by
   show J2 k (j+1) l out (l.length:Int)=_
   rw [Vo,SE,Rk (by omega)])
  l.length 0 k [] (by omega) (by omega) (by simp)
 unfold acH
 simpa using this
abbrev dw:Type:=Int×Int×Int×Bool
def ou (p:dw) (i:Int):Bool:=decide (p.1 <= i)&&decide (i <= p.2.1)
def inA (p q:dw):Bool:=ou q p.1&&ou q p.2.1
def apA (p q:dw):Bool:=decide (p.2.1<q.1)||decide (q.2.1<p.1)
def GJ (p q:dw):Bool:=(ou q p.2.2.1&&!inA p q)||(!apA p q&&(!inA p q&&!inA q p))
theorem LJ (k:Nat) (p:dw) (i:Int):SF k p i=some ((ou p i,()),()):=by
 unfold SF ou;rw [ac1];cases h:decide (p.1 <= i) <;> simp_all
def bumps:List Int -> Nat -> Nat -> List Int
 | ar,_,0=>ar
 | ar,i,m+1=>bumps (ar.set i (IntKind.i64.wrap (ar.getD i 0+1))) (i+1) m
def nest (L1:Int) (all:List dw):List dw -> List Int -> Bool
 | [],ar=>!ar.any (fun i=>decide (i>2))
 | p::r,ar=>bif decide (p.2.1≥L1) then false else bif all.any (GJ p) then false else nest L1 all r (bif p.2.2.2 then bumps ar p.1.toNat (p.2.1+1 - p.1).toNat else ar)
theorem QF:∀ (m i:Nat) (ar:List Int),(bumps ar i m).length=ar.length
 | 0,_,_=>rfl
 | m+1,i,ar=>by rw [bumps,QF m];simp
def KX (l:List I4) (i j:Int):Bool:=(ko 0 l).any (fun p=>ou p i != ou p j)
section
variable {tk tv:Ty} (hb:∀ a b:tk.D,fC tk a b=true↔a=b)
include hb
end
def jv (l:List I4) (i:Nat) (s:List Int×List Int):Option (List Int×List Int) :=
 if (l.getD i i0).1=9 then (if 2 <= s.2.length \/ NQ l s.2 i=true then none else some (s.1,s.2++[(i:Int)]))
 else if (l.getD i i0).1=10 then
  (match s.2.getLast? with
  | none=>none
  | some k=>if (rd l k i0).2.1≠(l.getD i i0).2.1 \/ KX l k.toNat i=true then none else some (upd s.1 k i,s.2.dropLast))
 else some s
def uh (l:List I4):Nat -> Nat -> List Int×List Int -> Option (List Int×List Int)
 | 0,_,s=>some s
 | m+1,i,s=>(jv l i s).bind (uh l m (i+1))
def OT (l:List I4):Option (List Int):=match uh l l.length 0 (List.replicate l.length 0,[]) with
 | some (out,[])=>some out
 | _=>none
def ab3:Option (List Int) -> Option ((List Int×Bool×Unit)×Unit)
 | some out=>some ((out,true,()),())
 | none=>some (([],false,()),())
def agU (l:List I4) (i:Nat) (s:List Int×List Int):Prop:=s.1.length=l.length /\ s.2.length <= 2 /\ ∀ k∈s.2,0 <= k /\ k<(i:Int)
theorem GK {l:List I4} {i:Nat} {s s':List Int×List Int} (hv:agU l i s) (h:jv l i s=some s'):agU l (i+1) s':=by
 obtain ⟨h1,h2,h3⟩:=hv
 unfold jv at h
 split at h
 ·split at h
  ·cases h
  ·rename_i hn
   injection h with h;subst h
   refine ⟨h1,?_,?_⟩
   ·simp only [List.length_append,List.length_cons,List.length_nil];omega
   ·intro k hk
    rcases List.mem_append.1 hk with hk | hk
    ·have:=h3 k hk;omega
    ·have:=List.mem_singleton.1 hk;omega
 ·split at h
  ·split at h
   ·cases h
   ·split at h
    ·cases h
    ·injection h with h;subst h
     refine ⟨by rw [Mg];exact h1,?_,?_⟩
     ·simp only [List.length_dropLast];omega
     ·intro k hk
      have:=h3 k ((List.dropLast_sublist _).subset hk);omega
  ·injection h with h;subst h
   exact ⟨h1,h2,fun k hk=>by have:=h3 k hk;omega⟩
def ab4 (l:List I4) (ps:List Int) (i:Nat):Bool:=(l.getD i i0).1==11&&((ko 0 l).any (fun p=>ou p i)||(ps.take i).any (fun e=>decide (e>(i:Int))))
def qw (l:List I4):Bool :=
 decide (1 <= l.length)&&(decide (l.length <= 24)&&(!l.any (fun i=>!jm i)&&(JK (fun i=>i.1==0) l==(l.length:Int) - 1 &&
  (nest ((l.length:Int) - 1) (ko 0 l) (ko 0 l) (List.replicate l.length 0) &&
  (match OT l with | none=>false | some ps=>!w9 (ab4 l ps) l.length 0)))))
theorem X3 {l:List I4}:∀ (m i:Nat) (s s':List Int×List Int),uh l m i s=some s' -> s'.1.length=s.1.length
 | 0,i,s,s',h=>by injection h with h;subst h;rfl
 | m+1,i,s,s',h=>by
  rw [uh,Option.bind_eq_some_iff] at h
  obtain ⟨t,h1,h2⟩:=h
  rw [X3 m (i+1) t s' h2]
  unfold jv at h1
  split at h1
  ·split at h1
   ·cases h1
   ·injection h1 with h1;subst h1;rfl
  ·split at h1
   ·split at h1
    ·cases h1
    ·split at h1
     ·cases h1
     ·injection h1 with h1;subst h1;simp only [Mg]
   ·injection h1 with h1;subst h1;rfl
theorem Uv {l:List I4} {ps:List Int} (h:OT l=some ps):uh l l.length 0 (List.replicate l.length 0,[])=some (ps,[]):=by
 unfold OT at h
 split at h
 ·rename_i out hg;injection h with h;subst h;exact hg
 ·cases h
theorem BQ {l:List I4} {ps:List Int} (h:OT l=some ps):ps.length=l.length:=by
 have:=X3 _ _ _ _ (Uv h)
 simpa using this
abbrev a0:dw:=(0,0,0,false)
theorem Yk {k:Nat} {g5:List I4 -> List Int -> List Int -> List dw -> Int -> Option ((List Int×Bool×Unit)×Unit)} {l:List I4} {out open_:List Int} {a:List dw} {i:Nat} (hi:i<l.length) (ho:open_.length <= 900) (hs:∀ i∈open_,0 <= i /\ i<(l.length:Int)) (hl:l.length <= 900) (j:Nat) (hj:open_.length<j) :
  CU k g5 j l out open_ a (i:Int) 0=bif NQ l open_ i then some (([],false,()),()) else
   bif decide (((open_.length:Int)+1)>2) then some (([],false,()),()) else g5 l out (open_++[(i:Int)]) a ((i+1:Nat):Int):=by
 refine LH (fun j k'=>CU k g5 j l out open_ a (i:Int) k') open_ 0 (fun x=>(rd l x i0).2.1==(rd l i i0).2.1) _ _ (fun j n hn=>?_) (fun j=>?_) j hj
 ·show CU k g5 (j+1) l out open_ a (i:Int) (n:Int)=_
  have:=hs _ (iq (z:=0) hn)
  rw [PE,L6,Rj (by omega),Pw hn,Px,Lf this.1 this.2,Pw hi,Me (by omega)]
 ·show CU k g5 (j+1) l out open_ a (i:Int) (open_.length:Int)=_
  rw [PE,L6,Rk (by omega),Rh (by simp only [List.length_cons,List.length_nil];omega),Me (by omega)]
  have:((open_++[(i:Int)]).length:Int)=(open_.length:Int)+1:=by simp
  rw [this]
theorem Yl {k:Nat} {g5:List I4 -> List Int -> List Int -> List dw -> Int -> Option ((List Int×Bool×Unit)×Unit)} {l:List I4} {out open_:List Int} {a:List dw} {i n:Nat} (hn:n<out.length) (hi:i <= 900) (ha:a.length <= 900) (j:Nat) (hj:a.length<j) :
  CV k g5 j l out open_ a (i:Int) (n:Int) 0=bif a.any (fun p=>ou p n != ou p i) then some (([],false,()),()) else g5 l (upd out n i) open_ a ((i+1:Nat):Int):=by
 refine LH (fun j k'=>CV k g5 j l out open_ a (i:Int) (n:Int) k') a a0 _ _ _ (fun j m hm=>?_) (fun j=>?_) j hj
 ·show CV k g5 (j+1) l out open_ a (i:Int) (n:Int) (m:Int)=_
  rw [PG,L8,Rj (by omega),Pw hm,Px,Me (by omega)]
  simp only [LJ,Option.bind_some]
  rw [Pw hm];rfl
 ·show CV k g5 (j+1) l out open_ a (i:Int) (n:Int) (a.length:Int)=_
  rw [PG,L8,Rk (by omega),Pw hn,Me (by omega)]
theorem QG {k:Nat} (hk:1000 <= k) {l:List I4} (hl:l.length <= 900):∀ (m i j:Nat) (s:List Int×List Int),i+m=l.length -> m<j -> agU l i s ->
  SH k j l s.1 s.2 (ko 0 l) i=ab3 (match uh l m i s with | some (out,[])=>some out | _=>none)
 | 0,i,j,s,h,hj,hv=>by
  obtain ⟨j',rfl⟩:∃ j',j=j'+1:=⟨j - 1,by omega⟩
  obtain ⟨out,open_⟩:=s
  rw [Vr,SG,Rk (by omega)]
  cases open_ with
  | nil=>rfl
  | cons x r=>rw [Rj (by simp only [List.length_cons];omega)];rfl
 | m+1,i,j,s,h,hj,hv=>by
  obtain ⟨j',rfl⟩:∃ j',j=j'+1:=⟨j - 1,by omega⟩
  have hi:i<l.length:=by omega
  have ih:=QG hk hl m (i+1) j'
  have hpl:=BP l 0
  rw [Vr,SG,Rj (by omega)]
  obtain ⟨out,open_⟩:=s
  obtain ⟨hv1,hv2,hv3⟩:=hv
  simp only at hv1 hv2 hv3 ⊢
  rw [Pw hi,Px,uh]
  cases h9:(l.getD i i0).1==9 with
  | true =>
   have h9':=eq_of_beq h9
   rw [cond_true]
   refine (Yk hi (by omega) (fun k hk=>by have:=hv3 k hk;omega) hl k (by omega)).trans ?_
   cases hs:NQ l open_ i with
   | true =>
    have:jv l i (out,open_)=none:=by unfold jv;rw [if_pos h9',if_pos (.inr hs)]
    rw [this];rfl
   | false =>
    rw [cond_false]
    by_cases h2:2 <= open_.length
    ·have:jv l i (out,open_)=none:=by unfold jv;rw [if_pos h9',if_pos (.inl h2)]
     rw [this,Rj (by omega)];rfl
    ·have hp:jv l i (out,open_)=some (out,open_++[(i:Int)]):=by unfold jv;rw [if_pos h9',if_neg (by rw [hs];simp;omega)]
     rw [hp,Option.bind_some,Rk (by omega)]
     exact ih (out,open_++[(i:Int)]) (by omega) (by omega) (GK ⟨hv1,hv2,hv3⟩ hp)
  | false =>
   have h9':(l.getD i i0).1≠9:=by intro e;rw [e] at h9;cases h9
   simp only [cond_false]
   cases h10:(l.getD i i0).1==10 with
   | true =>
    have ac4:=eq_of_beq h10
    simp only [cond_true]
    have hstep:jv l i (out,open_)=(match open_.getLast? with
     | none=>none
     | some k=>if (rd l k i0).2.1≠(l.getD i i0).2.1 \/ KX l k.toNat i=true then none else some (upd out k i,open_.dropLast)):=by
     unfold jv;exact (if_neg h9').trans (if_pos ac4)
    rw [Ua (by omega) (by omega)]
    rcases List.eq_nil_or_concat open_ with rfl | ⟨r,x,rfl⟩
    ·rw [hstep];rfl
    ·rw [List.concat_eq_append] at *
     have hlast:(r++[x]).getLast? = some x:=by simp
     rw [hlast] at hstep
     have hx:=hv3 x (by simp)
     obtain ⟨n,rfl⟩:∃ n:Nat,x=(n:Int):=⟨x.toNat,by omega⟩
     have hlen:(((r++[(n:Int)]).length:Int) - 1)=(r.length:Int):=by simp only [List.length_append,List.length_cons,List.length_nil];omega
     have hlen1:(((r++[(n:Int)]).length:Int)==0)=false:=by
      have:((r++[(n:Int)]).length:Int)≠0:=by simp only [List.length_append,List.length_cons,List.length_nil];omega
      simpa using this
     have hrd:rd (r++[(n:Int)]) (r.length:Int) 0=(n:Int):=by rw [Px,List.getD_eq_getElem?_getD];simp
     rw [hlen,hlen1,cond_false,Lf (by omega) (by simp only [List.length_append,List.length_cons,List.length_nil];omega),hrd,Pw (by omega),Pw hi,Px]
     simp only [Px,Int.toNat_natCast] at hstep
     cases hA:(l.getD n i0).2.1 != (l.getD i i0).2.1 with
     | true =>
      have hp:jv l i (out,r++[(n:Int)])=none:=by rw [hstep];exact if_pos (.inl (by simpa using hA))
      rw [hp];rfl
     | false =>
      have hA':¬ (l.getD n i0).2.1≠(l.getD i i0).2.1:=by simpa using hA
      rw [cond_false,Lf (by omega) (by simp only [List.length_append,List.length_cons,List.length_nil];omega),Rc (by omega) (by omega) (by simp only [List.length_append,List.length_cons,List.length_nil];omega)]
      have htk:(r++[(n:Int)]).take (r.length:Int).toNat=r:=by simp
      rw [htk]
      refine (Yl (by omega) (by omega) (by omega) k (by omega)).trans ?_
      rw [show (ko 0 l).any (fun p=>ou p n != ou p i)=KX l n i from rfl]
      cases hs:KX l n i with
      | true =>
       have hp:jv l i (out,r++[(n:Int)])=none:=by rw [hstep];exact if_pos (.inr hs)
       rw [hp];rfl
      | false =>
       have hp:jv l i (out,r++[(n:Int)])=some (upd out (n:Int) (i:Int),r):=by rw [hstep];refine (if_neg ?_).trans (by simp);rintro (h | h);exact hA' h;rw [show KX l n i=true from h] at hs;cases hs
       rw [hp,Option.bind_some,cond_false]
       exact ih (upd out (n:Int) (i:Int),r) (by omega) (by omega) (GK ⟨hv1,hv2,hv3⟩ hp)
   | false =>
    have ac4:(l.getD i i0).1≠10:=by intro e;rw [e] at h10;cases h10
    have hp:jv l i (out,open_)=some (out,open_):=by unfold jv;rw [if_neg h9',if_neg ac4]
    rw [hp,Option.bind_some,cond_false,Me (by omega)]
    exact ih (out,open_) (by omega) (by omega) (GK ⟨hv1,hv2,hv3⟩ hp)
theorem ab5 {k:Nat} (hk:1000 <= k) {l:List I4} (hl:l.length <= 900):adR k l=ab3 (OT l):=by
 unfold adR
 rw [Rf (by omega) (by omega),Uu hk hl,Option.bind_some]
 exact QG hk hl l.length 0 k (List.replicate l.length 0,[]) (by omega) (by omega) ⟨by simp,by simp,by simp⟩
def BR (l:List I4) (ps:List Int) (i:Int):Nat -> Nat -> Int -> Int
 | 0,_,n=>n
 | m+1,k,n=>BR l ps i m (k+1) (bif ((l.getD k i0).1==9&&(decide ((k:Int)<i)&&decide (i<ps.getD k 0))) then n+1 else n)
theorem X4 (l:List I4) (ps:List Int) (i:Int):∀ (m k:Nat) (n:Int),n <= BR l ps i m k n
 | 0,_,n=>by simp [BR]
 | m+1,k,n=>by
  rw [BR]
  have:=X4 l ps i m (k+1) (bif ((l.getD k i0).1==9&&(decide ((k:Int)<i)&&decide (i<ps.getD k 0))) then n+1 else n)
  revert this
  cases ((l.getD k i0).1==9&&(decide ((k:Int)<i)&&decide (i<ps.getD k 0))) <;> simp only [cond_true,cond_false] <;> omega
theorem JL (l:List I4) (ps:List Int) (i:Int):∀ (m k:Nat) (n:Int),decide (BR l ps i m k n>n)=w9 (fun k=>(l.getD k i0).1==9&&(decide ((k:Int)<i)&&decide (i<ps.getD k 0))) m k
 | 0,_,n=>by simp [BR,w9]
 | m+1,k,n=>by
  rw [BR,w9]
  cases h:((l.getD k i0).1==9&&(decide ((k:Int)<i)&&decide (i<ps.getD k 0))) with
  | true =>
   have:=X4 l ps i m (k+1) (n+1)
   rw [cond_true,Bool.true_or]
   exact decide_eq_true (by omega)
  | false=>rw [cond_false,Bool.false_or];exact JL l ps i m (k+1) n
theorem JM {k:Nat} {l:List I4} {ps:List Int} {i:Nat} (hl:l.length <= 900) (hp:ps.length=l.length):∀ (m n j:Nat) (s:Int),n+m=l.length -> m<j -> 0 <= s -> s <= n ->
  SK k j l ps (i:Int) s n=some ((BR l ps i m n s,()),())
 | 0,n,j,s,h,hj,h0,h1=>by
  obtain ⟨j',rfl⟩:∃ j',j=j'+1:=⟨j - 1,by omega⟩
  rw [Vs,SI,Rk (by omega)];rfl
 | m+1,n,j,s,h,hj,h0,h1=>by
  obtain ⟨j',rfl⟩:∃ j',j=j'+1:=⟨j - 1,by omega⟩
  rw [Vs,SI,Rj (by omega),Pw (by omega),Pw (by omega),Px,Px,Me (by omega),Ua (by omega) (by omega),BR]
  have i1:=JM (k:=k) (i:=i) hl hp m (n+1) j' (s+1) (by omega) (by omega) (by omega) (by omega)
  have i2:=JM (k:=k) (i:=i) hl hp m (n+1) j' s (by omega) (by omega) (by omega) (by omega)
  rw [i1,i2]
  cases (l.getD n i0).1==9 <;> cases decide ((n:Int)<(i:Int)) <;> cases decide ((i:Int)<ps.getD n 0) <;> rfl
theorem ajq {k:Nat} (hk:1000 <= k) {l:List I4} {ps:List Int} {i:Nat} (hl:l.length <= 900) (hp:ps.length=l.length):ah0 k l ps (i:Int)=some ((BR l ps i l.length 0 0,()),()):=by
 unfold ah0
 exact JM hl hp l.length 0 k 0 (by omega) (by omega) (by omega) (by omega)
def agV (p q:dw):Bool:=(!apA p q&&!((decide (p.1 <= q.1)&&decide (q.2.1 <= p.2.1))||(decide (q.1 <= p.1)&&decide (p.2.1 <= q.2.1))))||(ou p q.2.2.1&&decide (q.2.1>p.2.1))
def OU (i:Int):List dw -> Int×Int -> Int×Int
 | [],s=>s
 | p::r,s=>OU i r (bif ou p i then (bif p.2.2.2 then (s.1+1,s.2+1) else (s.1,s.2+1)) else s)
def EJ (l:List I4) (ps:List Int) (i:Nat):Bool :=
 decide ((OU i (ko 0 l) (0,0)).1>2)||((l.getD i i0).1==11&&(decide ((OU i (ko 0 l) (0,0)).2>0)||decide (BR l ps i l.length 0 0>0)))
def I8 (l:List I4) (a:List dw) (i:Nat):Bool:=decide ((a.getD i a0).2.1≥(l.length:Int) - 1)||w9 (fun k=>!(i==k)&&agV (a.getD i a0) (a.getD k a0)) a.length 0
def agW (l:List I4):Bool :=
 decide (1 <= l.length)&&(decide (l.length <= 24)&&(!w9 (fun i=>!(jm (l.getD i i0)&&((l.getD i i0).1==0)==((i:Int)==(l.length:Int) - 1))) l.length 0 &&
  (!w9 (I8 l (ko 0 l)) (ko 0 l).length 0&&(match OT l with | none=>false | some ps=>!w9 (EJ l ps) l.length 0))))
theorem Ym {k:Nat} {g10:List I4 -> List dw -> Int -> Option ((Bool×Unit)×Unit)} {l:List I4} {a:List dw} {i:Nat} (hi:i<a.length) (ha:a.length <= 900) (j:Nat) (hj:a.length<j) :
  CX k g10 j l a (i:Int) 0=bif w9 (fun k=>!(i==k)&&agV (a.getD i a0) (a.getD k a0)) a.length 0 then some ((false,()),()) else g10 l a ((i+1:Nat):Int):=by
 refine ac2 (L:=fun j k'=>CX k g10 j l a (i:Int) k') (n:=a.length) _ _ _ (fun j n hn=>?_) (fun j=>?_) a.length 0 j (by omega) hj
 ·show CX k g10 (j+1) l a (i:Int) (n:Int)=_
  rw [PI,LA,Rj (by omega),Me (by omega)]
  by_cases e:i=n
  ·subst e;simp
  ·have e1:((i:Int)==(n:Int))=false:=by simp;omega
   have e2:(i==n)=false:=by simpa using e
   rw [e1,e2,cond_false,Pw hi,Pw hn,Pw hn,Pw hi,show a.getD i a0=rd a (i:Int) (0,0,0,false) from rfl,show a.getD n a0=rd a (n:Int) (0,0,0,false) from rfl]
   unfold L9 CW agV apA
   simp only [Pw hi,Pw hn,LJ,Option.bind_some,Me (show n<9223372036854775807 by omega)]
   generalize rd a (i:Int) (0,0,0,false)=p
   generalize rd a (n:Int) (0,0,0,false)=q
   generalize decide (p.2.1<q.1)=b1
   generalize decide (q.2.1<p.1)=b2
   generalize decide (p.1 <= q.1)=b3
   generalize decide (q.2.1 <= p.2.1)=b4
   generalize decide (q.1 <= p.1)=b5
   generalize decide (p.2.1 <= q.2.1)=b6
   generalize decide (q.2.1>p.2.1)=b7
   generalize ou p q.2.2.1=b8
   cases b1 <;> cases b2 <;> cases b3 <;> cases b4 <;> cases b5 <;> cases b6 <;> cases b7 <;> cases b8 <;> rfl
 ·show CX k g10 (j+1) l a (i:Int) (a.length:Int)=_
  rw [PI,LA,Rk (by omega),Me (by omega)]
theorem NR {k:Nat} (hk:1000 <= k) {SL:List I4 -> List dw -> List Int -> Int -> Option ((Bool×Unit)×Unit)} {l:List I4} {a:List dw} {ps:List Int} {i:Nat} (hi:i<l.length) (ha:a.length <= 900) (hl:l.length <= 900) (hp:ps.length=l.length):∀ (m n j:Nat) (s:Int×Int),n+m=a.length -> m<j -> 0 <= s.1 -> s.1 <= n -> 0 <= s.2 -> s.2 <= n ->
  LC k SL j l a ps (i:Int) s.1 s.2 n=bif decide ((OU i (a.drop n) s).1>2)||((l.getD i i0).1==11&&(decide ((OU i (a.drop n) s).2>0)||decide (BR l ps i l.length 0 0>0))) then some ((false,()),()) else SL l a ps ((i+1:Nat):Int)
 | 0,n,j,s,h,hj,h0,h1,h2,h3=>by
  obtain ⟨j',rfl⟩:∃ j',j=j'+1:=⟨j - 1,by omega⟩
  rw [PK,LB,Rk (by omega),drop_nil (by omega),Pw hi,Px,ajq hk hl hp,Me (by omega)]
  rw [Option.bind_some,show OU i [] s=s from rfl]
  cases decide (s.1>2) <;> cases (l.getD i i0).1==11 <;> cases decide (s.2>0) <;> cases decide (BR l ps i l.length 0 0>0) <;> rfl
 | m+1,n,j,s,h,hj,h0,h1,h2,h3=>by
  obtain ⟨j',rfl⟩:∃ j',j=j'+1:=⟨j - 1,by omega⟩
  rw [PK,LB,Rj (by omega),Pw (by omega),Px,LJ,Option.bind_some,drop_cons a0 (by omega),OU,Me (by omega),Ua (by omega) (by omega),Ua (by omega) (by omega)]
  have ih:=NR hk (SL:=SL) hi ha hl hp m (n+1) j'
  cases ou (a.getD n a0) (i:Int) with
  | false=>exact ih s (by omega) (by omega) (by omega) (by omega) (by omega) (by omega)
  | true =>
   simp only [cond_true]
   rw [Pw (by omega)]
   cases (a.getD n a0).2.2.2 with
   | false=>exact ih (s.1,s.2+1) (by omega) (by omega) (by simp only;omega) (by simp only;omega) (by simp only;omega) (by simp only;omega)
   | true=>exact ih (s.1+1,s.2+1) (by omega) (by omega) (by simp only;omega) (by simp only;omega) (by simp only;omega) (by simp only;omega)
theorem Yn {k:Nat} (hk:1000 <= k) {l:List I4} {ps:List Int} (hl:l.length <= 900) (hp:ps.length=l.length) :
  CY k k l (ko 0 l) ps 0=bif w9 (EJ l ps) l.length 0 then some ((false,()),()) else some ((true,()),()):=by
 have hpl:=BP l 0
 refine ac2 (L:=fun j i=>CY k j l (ko 0 l) ps i) (n:=l.length) _ _ _ (fun j i hi=>?_) (fun j=>?_) l.length 0 k (by omega) (by omega)
 ·show CY k (j+1) l (ko 0 l) ps (i:Int)=_
  rw [PL,LD,Rj (by omega)]
  refine (NR hk hi (by omega) hl hp (ko 0 l).length 0 k (0,0) (by omega) (by omega) (by simp) (by simp) (by simp) (by simp)).trans ?_
  rw [List.drop_zero];rfl
 ·show CY k (j+1) l (ko 0 l) ps (l.length:Int)=_
  rw [PL,LD,Rk (by omega)]
theorem Yo {k:Nat} (hk:1000 <= k) {l:List I4} (hl:l.length <= 900) :
  CZ k k l (ko 0 l) 0=some ((!w9 (I8 l (ko 0 l)) (ko 0 l).length 0&&(match OT l with | none=>false | some ps=>!w9 (EJ l ps) l.length 0),()),()):=by
 have hpl:=BP l 0
 have:=ac2 (L:=fun j i=>CZ k j l (ko 0 l) i) (n:=(ko 0 l).length) (I8 l (ko 0 l)) (some ((false,()),())) (some ((match OT l with | none=>false | some ps=>!w9 (EJ l ps) l.length 0,()),())) (fun j i hi=>by
  show CZ k (j+1) l (ko 0 l) (i:Int)=_
  rw [PO,LG,Rj (by omega),Pw hi,Px,Ua (by omega) (by omega)]
  unfold I8
  cases decide (((ko 0 l).getD i a0).2.1≥(l.length:Int) - 1) with
  | true=>rfl
  | false =>
   rw [cond_false,Bool.false_or]
   exact Ym hi (by omega) k (by omega)) (fun j=>by
  show CZ k (j+1) l (ko 0 l) ((ko 0 l).length:Int)=_
  rw [PO,LG,Rk (by omega),ab5 hk hl]
  cases h6:OT l with
  | none=>rfl
  | some ps =>
   simp only [ab3,Option.bind_some,Bool.not_true,cond_false]
   rw [Yn hk hl (BQ h6)]
   cases w9 (EJ l ps) l.length 0 <;> rfl) (ko 0 l).length 0 k (by omega) (by omega)
 refine Eq.trans this ?_
 cases w9 (I8 l (ko 0 l)) (ko 0 l).length 0 <;> rfl
theorem ajr {k:Nat} (hk:1000 <= k) {l:List I4} (hl:l.length <= 900):ah1 k l=some ((agW l,()),()):=by
 unfold ah1 agW
 by_cases h1:1 <= l.length
 ·rw [Rk (by omega),decide_eq_true h1]
  by_cases h2:l.length <= 24
  ·rw [Rk (by omega),decide_eq_true h2]
   have:=ac2 (L:=fun j i=>J3 k j l i) (n:=l.length) (fun i=>!(jm (l.getD i i0)&&((l.getD i i0).1==0)==((i:Int)==(l.length:Int) - 1))) (some ((false,()),())) (some ((!w9 (I8 l (ko 0 l)) (ko 0 l).length 0&&(match OT l with | none=>false | some ps=>!w9 (EJ l ps) l.length 0),()),())) (fun j i hi=>by
    show J3 k (j+1) l (i:Int)=_
    rw [Vx,SN,Rj (by omega),Pw hi,Px,ab2,Option.bind_some,Pw hi,Ua (by omega) (by omega),Me (by omega)]
    cases jm (l.getD i i0) <;> cases ((l.getD i i0).1==0)==((i:Int)==(l.length:Int) - 1) <;> rfl) (fun j=>by
    show J3 k (j+1) l (l.length:Int)=_
    rw [Vx,SN,Rk (by omega),Uu hk hl,Option.bind_some]
    exact Yo hk hl) l.length 0 k (by omega) (by omega)
   refine Eq.trans this ?_
   cases w9 (fun i=>!(jm (l.getD i i0)&&((l.getD i i0).1==0)==((i:Int)==(l.length:Int) - 1))) l.length 0 <;> rfl
  ·rw [Rj (by omega),decide_eq_false h2];rfl
 ·rw [Rj (by omega),decide_eq_false h1];rfl
def wd (x:I4):Nat:=(bif x.1==8 then x.2.2.1 else bif x.1==7 then x.2.2.2 else 0).toNat
def isA (x:I4):Bool:=x.1==8||x.1==7
theorem ab6 (v a b:Int):yg v a b=true↔a <= v /\ v <= b:=by simp [yg]
theorem ac5 {x:I4} (h:jm x=true) (e:x.1=8):x.2.1=0 /\ (1 <= x.2.2.1 /\ x.2.2.1 <= 24) /\ 1 <= x.2.2.2 /\ x.2.2.2 <= 20:=by
 simpa [jm,e,ab6] using h
theorem aqW {x:I4} (h:jm x=true) (e:x.1=7):(0 <= x.2.1 /\ x.2.1<8) /\ x.2.2.1=0 /\ 1 <= x.2.2.2 /\ x.2.2.2 <= 24:=by
 simpa [jm,e,ab6,BF] using h
theorem su {x:I4} (h:isA x=false):wd x=0:=by
 simp only [isA,Bool.or_eq_false_iff] at h
 simp [wd,h.1,h.2]
theorem AA {x:I4} (h:jm x=true) (ha:isA x=true):1 <= wd x /\ wd x <= 24 /\ (x.1=8 -> x.2.2.1=(wd x:Int)) /\ (x.1=7 -> x.2.2.2=(wd x:Int)):=by
 simp only [isA,Bool.or_eq_true,beq_iff_eq] at ha
 rcases ha with e | e
 ·have:=ac5 h e
  have w:wd x=x.2.2.1.toNat:=by simp [wd,e]
  rw [w];refine ⟨by omega,by omega,fun _=>by omega,fun e2=>by omega⟩
 ·have:=aqW h e
  have w:wd x=x.2.2.2.toNat:=by simp [wd,e]
  rw [w];refine ⟨by omega,by omega,fun e2=>by omega,fun _=>by omega⟩
def p9 (i:Nat) (x:I4):dw:=(((i+1:Nat):Int),((i+wd x:Nat):Int),(i:Int),x.1==8)
theorem Uw {x:I4} (h:jm x=true) {i:Nat} (hi:i <= 9000):pc i x=if isA x=true then [p9 i x] else []:=by
 unfold pc
 cases h8:x.1==8 with
 | true =>
  have e:=eq_of_beq h8
  have ha:isA x=true:=by simp [isA,e]
  have:=AA h ha
  rw [if_pos ha,cond_true,this.2.2.1 e,Ua (by omega) (by omega),p9,h8]
  congr 3
 | false =>
  cases h7:x.1==7 with
  | true =>
   have e:=eq_of_beq h7
   have ha:isA x=true:=by simp [isA,e]
   have:=AA h ha
   rw [if_pos ha,cond_true,cond_false,this.2.2.2 e,Ua (by omega) (by omega),p9,h8]
   congr 3
  | false =>
   rw [if_neg (by simp [isA,h8,h7])];rfl
theorem ny:∀ (l:List I4) (i:Nat) (p:dw),(∀ x∈l,jm x=true) -> i+l.length <= 9000 -> (p∈ko i l↔∃ n,n<l.length /\ isA (l.getD n i0)=true /\ p=p9 (i+n) (l.getD n i0))
 | [],i,p,_,_=>by simp [ko]
 | x::r,i,p,hm,hl=>by
  simp only [List.length_cons] at hl
  rw [ko,List.mem_append,Uw (hm x List.mem_cons_self) (by omega),ny r (i+1) p (fun y hy=>hm y (List.mem_cons_of_mem _ hy)) (by omega)]
  constructor
  ·rintro (h | ⟨n,h1,h2,h3⟩)
   ·split at h
    ·rename_i ha
     have:=List.mem_singleton.1 h
     exact ⟨0,by simp,by simpa using ha,by simpa using this⟩
    ·cases h
   ·exact ⟨n+1,by simp only [List.length_cons];omega,by simpa using h2,by rw [List.getD_cons_succ,h3];congr 1;omega⟩
  ·rintro ⟨n,h1,h2,h3⟩
   cases n with
   | zero =>
    rw [List.getD_cons_zero] at h2 h3
    left;rw [if_pos h2];exact List.mem_singleton.2 h3
   | succ n =>
    rw [List.getD_cons_succ] at h2 h3
    right;exact ⟨n,by simp only [List.length_cons] at h1;omega,h2,by rw [h3];congr 1;omega⟩
def dx (j:Int) (ps:List dw):Nat:=ps.countP (fun p=>p.2.2.2&&ou p j)
theorem Ux (j:Int):∀ (ps:List dw) (s:Int×Int),OU j ps s=(s.1+(dx j ps:Int),s.2+((ps.countP (fun p=>ou p j):Nat):Int))
 | [],s=>by simp [OU,dx]
 | p::r,s=>by
  rw [OU,Ux j r,dx,dx,List.countP_cons,List.countP_cons]
  cases h1:ou p j <;> cases h2:p.2.2.2 <;> simp [h1,h2] <;> (try constructor) <;> omega
theorem QH:∀ (m i:Nat) (ar:List Int) (j:Nat),i+m <= ar.length -> (bumps ar i m).getD j 0=if i <= j /\ j<i+m then IntKind.i64.wrap (ar.getD j 0+1) else ar.getD j 0
 | 0,i,ar,j,_=>by rw [bumps,if_neg (by omega)]
 | m+1,i,ar,j,h=>by
  rw [bumps,QH m (i+1) _ j (by simp only [List.length_set];omega),oz]
  by_cases e:i=j
  ·subst e
   rw [if_neg (by omega),if_pos ⟨rfl,by omega⟩,if_pos (by omega)]
  ·rw [if_neg (fun h:i=j /\ j<ar.length=>e h.1)]
   by_cases e2:i+1 <= j /\ j<i+1+m
   ·rw [if_pos e2,if_pos (by omega)]
   ·rw [if_neg e2,if_neg (by omega)]
theorem NS {len:Nat} {all:List dw} (hlen:len <= 900):∀ (ps:List dw) (ar:List Int),ar.length=len -> (∀ p∈ps,p.1=p.2.2.1+1 /\ 0 <= p.2.2.1 /\ p.1 <= p.2.1) -> (∀ j,j<len -> 0 <= ar.getD j 0 /\ ar.getD j 0+ps.length <= 900) ->
  (nest ((len:Int) - 1) all ps ar=true↔(∀ p∈ps,p.2.1<(len:Int) - 1 /\ all.any (GJ p)=false) /\ ∀ j,j<len -> ar.getD j 0+(dx j ps:Int) <= 2)
 | [],ar,ha,_,_=>by
  rw [nest,Bool.not_eq_true',List.any_eq_false]
  constructor
  ·intro h
   refine ⟨fun p hp=>(by cases hp),fun j hj=>?_⟩
   have:=h _ (iq (z:=0) (l:=ar) (i:=j) (by omega))
   simp only [dx,List.countP_nil]
   have:=of_decide_eq_false (Bool.not_eq_true _ ▸ this)
   omega
  ·rintro ⟨_,h⟩ x hx
   obtain ⟨j,hj,rfl⟩:=BD 0 hx
   have:=h j (by omega)
   simp only [dx,List.countP_nil] at this
   rw [Bool.not_eq_true]
   exact decide_eq_false (by omega)
 | p::r,ar,ha,hp,hb=>by
  rw [nest]
  have hp1:=hp p List.mem_cons_self
  by_cases h1:p.2.1≥(len:Int) - 1
  ·rw [Rj h1]
   exact ⟨fun h=>(by cases h),fun h=>absurd (h.1 p List.mem_cons_self).1 (by omega)⟩
  ·rw [Rk h1]
   cases h2:all.any (GJ p) with
   | true=>exact ⟨fun h=>(by cases h),fun h=>(by rw [(h.1 p List.mem_cons_self).2] at h2;cases h2)⟩
   | false =>
    rw [cond_false]
    have hget:∀ j,j<len -> (bif p.2.2.2 then bumps ar p.1.toNat (p.2.1+1 - p.1).toNat else ar).getD j 0=ar.getD j 0+(if (p.2.2.2&&ou p j)=true then 1 else 0):=by
     intro j hj
     cases h3:p.2.2.2 with
     | false=>simp
     | true =>
      rw [cond_true,QH _ _ _ _ (by omega)]
      have:=hb j hj
      simp only [List.length_cons] at this
      by_cases h4:ou p j=true
      ·have h5:p.1 <= (j:Int) /\ (j:Int) <= p.2.1:=by simpa [ou] using h4
       rw [if_pos (by omega),if_pos (by simp [h4]),Ua (by omega) (by omega)]
      ·have h5:¬ (p.1 <= (j:Int) /\ (j:Int) <= p.2.1):=by simpa [ou] using h4
       rw [if_neg (by omega),if_neg (by simp [h4])];omega
    have wE:(bif p.2.2.2 then bumps ar p.1.toNat (p.2.1+1 - p.1).toNat else ar).length=len:=by
     cases p.2.2.2
     ·exact ha
     ·rw [cond_true,QF];exact ha
    rw [NS hlen r _ wE (fun q hq=>hp q (List.mem_cons_of_mem _ hq)) (fun j hj=>by
     rw [hget j hj]
     have:=hb j hj
     simp only [List.length_cons] at this
     split <;> omega)]
    constructor
    ·rintro ⟨h3,h4⟩
     refine ⟨fun q hq=>?_,fun j hj=>?_⟩
     ·rcases List.mem_cons.1 hq with rfl | hq
      ·exact ⟨by omega,h2⟩
      ·exact h3 q hq
     ·have:=h4 j hj
      rw [hget j hj] at this
      rw [dx,List.countP_cons]
      rw [dx] at this
      cases h5:(p.2.2.2&&ou p j) <;> simp only [h5,if_true,Bool.false_eq_true,if_false] at this ⊢ <;> omega
    ·rintro ⟨h3,h4⟩
     refine ⟨fun q hq=>h3 q (List.mem_cons_of_mem _ hq),fun j hj=>?_⟩
     have:=h4 j hj
     rw [hget j hj]
     rw [dx,List.countP_cons] at this
     rw [dx]
     cases h5:(p.2.2.2&&ou p j) <;> simp only [h5,if_true,Bool.false_eq_true,if_false] at this ⊢ <;> omega
structure y5 (l:List I4) (ps:List Int):Prop where
 len1:1 <= l.length
 len2:l.length <= 24
 may:∀ x∈l,jm x=true
 end_ : ∀ i, i < l.length -> ((l.getD i i0).1 = 0 ↔ i + 1 = l.length)
 last:∀ p∈ko 0 l,p.2.1<(l.length:Int) - 1
 bad:∀ p∈ko 0 l,∀ q∈ko 0 l,GJ p q=false
 bodies:∀ j,j<l.length -> dx (j:Int) (ko 0 l) <= 2
 pairs:OT l=some ps
 marks:∀ i,i<l.length -> (l.getD i i0).1=11 -> (ko 0 l).any (fun p=>ou p i)=false /\ ∀ k,k<i -> ps.getD k 0 <= (i:Int)
theorem y7 {l:List I4} (hm:∀ x∈l,jm x=true) (hl:l.length <= 900) {p:dw} (hp:p∈ko 0 l):p.1=p.2.2.1+1 /\ 0 <= p.2.2.1 /\ p.1 <= p.2.1 /\ p.2.2.1<(l.length:Int):=by
 obtain ⟨n,h1,h2,rfl⟩:=(ny l 0 p hm (by omega)).1 hp
 have:=AA (hm _ (iq h1)) h2
 simp only [p9]
 omega
theorem ab7 {l:List I4}:l.any (fun i=>!jm i)=false↔∀ x∈l,jm x=true:=by
 rw [List.any_eq_false]
 exact ⟨fun h x hx=>by simpa using h x hx,fun h x hx=>by simp [h x hx]⟩
theorem ab8 {l:List I4} (h1:1 <= l.length):(JK (fun i=>i.1==0) l==(l.length:Int) - 1)=true↔∀ i,i<l.length -> ((l.getD i i0).1=0↔i+1=l.length):=by
 rw [beq_iff_eq]
 unfold JK
 cases h:l.findIdx? (fun i=>i.1==0) with
 | none =>
  rw [List.findIdx?_eq_none_iff] at h
  constructor
  ·intro e;simp only at e;omega
  ·intro e
   have e1:=(e (l.length - 1) (by omega)).2 (by omega)
   have:=h _ (iq (z:=i0) (l:=l) (i:=l.length - 1) (by omega))
   rw [e1] at this
   exact absurd this (by decide)
 | some n =>
  rw [List.findIdx?_eq_some_iff_getElem] at h
  obtain ⟨hn,hn1,hn2⟩:=h
  simp only
  constructor
  ·intro e i hi
   have:n+1=l.length:=by omega
   constructor
   ·intro e2
    by_cases hlt:i<n
    ·have:=hn2 i hlt
     rw [getD_in hi] at e2
     simp [e2] at this
    ·omega
   ·intro e2
    have:i=n:=by omega
    subst this
    rw [getD_in hi];simpa using hn1
  ·intro e
   have:=(e n hn).1 (by rw [getD_in hn];simpa using hn1)
   omega
theorem NT {l:List I4} {ps:List Int} (hp:ps.length=l.length):w9 (ab4 l ps) l.length 0=false↔∀ i,i<l.length -> (l.getD i i0).1=11 -> (ko 0 l).any (fun p=>ou p i)=false /\ ∀ k,k<i -> ps.getD k 0 <= (i:Int):=by
 rw [oh]
 constructor
 ·intro h i hi e
  have:=h i (by omega) (by omega)
  unfold ab4 at this
  simp only [e,beq_self_eq_true,Bool.true_and,Bool.or_eq_false_iff] at this
  refine ⟨this.1,fun k hk=>?_⟩
  have h2:=this.2
  rw [List.any_eq_false] at h2
  have h3:ps.getD k 0∈ps.take i:=by
   rw [getD_in (by omega),List.mem_take_iff_getElem]
   exact ⟨k,by omega,rfl⟩
  have:=h2 _ h3
  simp only [decide_eq_true_eq] at this
  omega
 ·intro h i _ hi
  unfold ab4
  cases h11:(l.getD i i0).1==11 with
  | false=>rfl
  | true =>
   obtain ⟨h1,h2⟩:=h i (by omega) (eq_of_beq h11)
   rw [h1,Bool.true_and,Bool.false_or,List.any_eq_false]
   intro x hx
   rw [List.mem_take_iff_getElem] at hx
   obtain ⟨k,hk,rfl⟩:=hx
   have:=h2 k (by omega)
   rw [getD_in (by omega)] at this
   simp only [decide_eq_true_eq]
   omega
theorem uy {l:List I4}:qw l=true↔∃ ps,y5 l ps:=by
 unfold qw
 simp only [Bool.and_eq_true,decide_eq_true_eq,Bool.not_eq_true']
 constructor
 ·rintro ⟨h1,h2,h3,h4,h5,h6⟩
  have h3:=ab7.1 h3
  have hpl:=BP l 0
  cases hps:OT l with
  | none=>rw [hps] at h6;cases h6
  | some ps =>
   rw [hps] at h6
   simp only [Bool.not_eq_true'] at h6
   have h5:=(NS (all:=ko 0 l) (by omega) (ko 0 l) (List.replicate l.length 0) (by simp) (fun p hp=>by have:=y7 h3 (by omega) hp;omega) (fun j hj=>by
    rw [List.getD_eq_getElem?_getD,List.getElem?_replicate,if_pos hj];simp;omega)).1 h5
   exact ⟨ps,⟨h1,h2,h3,(ab8 h1).1 h4,fun p hp=>(h5.1 p hp).1,fun p hp q hq=>by
    have:=(h5.1 p hp).2
    rw [List.any_eq_false] at this
    simpa using this q hq,fun j hj=>by
    have:=h5.2 j hj
    rw [List.getD_eq_getElem?_getD,List.getElem?_replicate,if_pos hj] at this
    simp at this;omega,hps,(NT (BQ hps)).1 h6⟩⟩
 ·rintro ⟨ps,g⟩
  have hpl:=BP l 0
  have:=g.len2
  refine ⟨g.len1,g.len2,ab7.2 g.may,(ab8 g.len1).2 g.end_,?_,?_⟩
  ·refine (NS (all:=ko 0 l) (by omega) (ko 0 l) (List.replicate l.length 0) (by simp) (fun p hp=>by have:=y7 g.may (by omega) hp;omega) (fun j hj=>by
    rw [List.getD_eq_getElem?_getD,List.getElem?_replicate,if_pos hj];simp;omega)).2 ⟨fun p hp=>⟨g.last p hp,?_⟩,fun j hj=>?_⟩
   ·rw [List.any_eq_false];intro q hq;simp [g.bad p hp q hq]
   ·rw [List.getD_eq_getElem?_getD,List.getElem?_replicate,if_pos hj]
    have:=g.bodies j hj
    simp;omega
  ·rw [g.pairs]
   simp only [Bool.not_eq_true']
   exact (NT (BQ g.pairs)).2 g.marks
theorem X5 {p:dw} (h:p.1=p.2.2.1+1 /\ p.1 <= p.2.1):GJ p p=false:=by
 unfold GJ inA apA ou
 have e1:decide (p.1 <= p.2.2.1)=false:=decide_eq_false (by omega)
 have e2:decide (p.1 <= p.1)=true:=decide_eq_true (by omega)
 have e3:decide (p.1 <= p.2.1)=true:=decide_eq_true (by omega)
 have e4:decide (p.2.1 <= p.2.1)=true:=decide_eq_true (by omega)
 rw [e1,e2,e3,e4];simp
theorem X6 {p q:dw} (hp:p.1=p.2.2.1+1 /\ p.1 <= p.2.1) (hq:q.1=q.2.2.1+1 /\ q.1 <= q.2.1):agV p q=GJ q p:=by
 unfold agV GJ inA apA ou
 rw [Bool.eq_iff_iff]
 simp only [Bool.or_eq_true,Bool.and_eq_true,Bool.not_eq_true',decide_eq_true_eq,Bool.or_eq_false_iff,Bool.and_eq_false_iff,decide_eq_false_iff_not]
 omega
theorem EX {l:List I4}:∀ (m i:Nat) (s s':List Int×List Int),uh l m i s=some s' -> (∀ k∈s.2,∃ n:Nat,k=(n:Int) /\ (l.getD n i0).1=9) -> ∀ k,(l.getD k i0).1≠9 -> s'.1.getD k 0=s.1.getD k 0
 | 0,i,s,s',h,_,k,_=>by injection h with h;subst h;rfl
 | m+1,i,s,s',h,ho,k,hk=>by
  rw [uh,Option.bind_eq_some_iff] at h
  obtain ⟨t,h1,h2⟩:=h
  unfold jv at h1
  split at h1
  ·rename_i h9
   split at h1
   ·cases h1
   ·injection h1 with h1;subst h1
    exact EX m (i+1) _ s' h2 (fun x hx=>by
     rcases List.mem_append.1 hx with hx | hx
     ·exact ho x hx
     ·exact ⟨i,List.mem_singleton.1 hx,h9⟩) k hk
  ·split at h1
   ·split at h1
    ·cases h1
    ·rename_i x hx
     split at h1
     ·cases h1
     ·injection h1 with h1;subst h1
      rw [EX m (i+1) _ s' h2 (fun y hy=>ho y ((List.dropLast_sublist _).subset hy)) k hk]
      obtain ⟨n,rfl,hn⟩:=ho x (List.mem_of_getLast? hx)
      show (upd s.1 (n:Int) (i:Int)).getD k 0=_
      rw [Mf,oz,if_neg]
      rintro ⟨rfl,_⟩
      exact hk hn
   ·injection h1 with h1;subst h1
    exact EX m (i+1) _ s' h2 ho k hk
theorem ac6 {l:List I4} {ps:List Int} (h:OT l=some ps) {k:Nat} (hk:k<l.length) (h9:(l.getD k i0).1≠9):ps.getD k 0=0:=by
 have:=EX _ _ _ _ (Uv h) (fun k hk=>by cases hk) k h9
 rw [this,List.getD_eq_getElem?_getD,List.getElem?_replicate,if_pos hk];rfl
theorem agX {l:List I4}:agW l=true↔∃ ps,y5 l ps:=by
 unfold agW
 simp only [Bool.and_eq_true,decide_eq_true_eq,Bool.not_eq_true']
 constructor
 ·rintro ⟨h1,h2,h3,h4,h5⟩
  rw [oh] at h3 h4
  have h3':∀ i,i<l.length -> jm (l.getD i i0)=true /\ ((l.getD i i0).1=0↔i+1=l.length):=fun i hi=>by
   have:=h3 i (by omega) (by omega)
   rw [Bool.not_eq_false',Bool.and_eq_true] at this
   have h6:=eq_of_beq this.2
   rw [Bool.eq_iff_iff,beq_iff_eq,beq_iff_eq] at h6
   exact ⟨this.1,h6.trans ⟨fun h=>by omega,fun h=>by omega⟩⟩
  have hm:∀ x∈l,jm x=true:=fun x hx=>by obtain ⟨i,hi,rfl⟩:=BD i0 hx;exact (h3' i hi).1
  cases hps:OT l with
  | none=>rw [hps] at h5;cases h5
  | some ps =>
   rw [hps] at h5
   simp only [Bool.not_eq_true',oh] at h5
   have hpl:=BQ hps
   have h5':∀ i,i<l.length -> dx (i:Int) (ko 0 l) <= 2 /\ ((l.getD i i0).1=11 -> (ko 0 l).countP (fun p=>ou p i)=0 /\ decide (BR l ps i l.length 0 0>0)=false):=fun i hi=>by
    have:=h5 i (by omega) (by omega)
    unfold EJ at this
    rw [Ux] at this
    simp only [Bool.or_eq_false_iff,decide_eq_false_iff_not,Bool.and_eq_false_iff,beq_eq_false_iff_ne] at this
    refine ⟨by omega,fun e=>?_⟩
    rcases this.2 with h | ⟨h6,h7⟩
    ·exact absurd e h
    ·exact ⟨by omega,decide_eq_false h7⟩
   refine ⟨ps,⟨h1,h2,hm,fun i hi=>(h3' i hi).2,fun p hp=>?_,fun p hp q hq=>?_,fun j hj=>(h5' j hj).1,hps,fun i hi e=>⟨?_,fun k hk=>?_⟩⟩⟩
   ·obtain ⟨i,hi,rfl⟩:=BD a0 hp
    have:=h4 i (by omega) (by omega)
    simp only [I8,Bool.or_eq_false_iff,decide_eq_false_iff_not] at this
    omega
   ·obtain ⟨i,hi,rfl⟩:=BD a0 hp
    obtain ⟨k,hk,rfl⟩:=BD a0 hq
    have s1:=y7 hm (by omega) hp
    have s2:=y7 hm (by omega) hq
    by_cases e:k=i
    ·subst e;exact X5 ⟨s1.1,s1.2.2.1⟩
    ·have:=h4 k (by omega) (by omega)
     simp only [I8,Bool.or_eq_false_iff,oh] at this
     have:=this.2 i (by omega) (by omega)
     rw [show (k==i)=false by simpa using e,Bool.not_false,Bool.true_and,X6 ⟨s2.1,s2.2.2.1⟩ ⟨s1.1,s1.2.2.1⟩] at this
     exact this
   ·have:=((h5' i hi).2 e).1
    rw [List.countP_eq_zero] at this
    rw [List.any_eq_false];exact this
   ·have:=((h5' i hi).2 e).2
    rw [JL,oh] at this
    have h6:=this k (by omega) (by omega)
    have hlt:decide ((k:Int)<(i:Int))=true:=decide_eq_true (by omega)
    rw [hlt,Bool.true_and] at h6
    simp only [Bool.and_eq_false_iff,decide_eq_false_iff_not] at h6
    rcases h6 with h6 | h6
    ·-- what is no lock has no pair
     have h7:(l.getD k i0).1≠9:=fun e=>by rw [e] at h6;exact absurd h6 (by decide)
     rw [ac6 hps (by omega) h7];omega
    ·omega
 ·rintro ⟨ps,g⟩
  have h2:=g.len2
  have hpl:=BQ g.pairs
  refine ⟨g.len1,g.len2,?_,?_,?_⟩
  ·rw [oh]
   intro i _ hi
   have e:=g.end_ i (by omega)
   rw [g.may _ (iq (by omega)),Bool.true_and,Bool.not_eq_false',beq_iff_eq,Bool.eq_iff_iff,beq_iff_eq,beq_iff_eq,e]
   omega
  ·rw [oh]
   intro i _ hi
   have hp:=iq (z:=a0) (l:=ko 0 l) (i:=i) (by omega)
   have s1:=y7 g.may (by omega) hp
   unfold I8
   rw [decide_eq_false (by have:=g.last _ hp;omega),Bool.false_or,oh]
   intro k _ hk
   have hq:=iq (z:=a0) (l:=ko 0 l) (i:=k) (by omega)
   have s2:=y7 g.may (by omega) hq
   rw [X6 ⟨s1.1,s1.2.2.1⟩ ⟨s2.1,s2.2.2.1⟩,g.bad _ hq _ hp,Bool.and_false]
  ·rw [g.pairs]
   simp only [Bool.not_eq_true',oh]
   intro i _ hi
   unfold EJ
   rw [Ux]
   have h3:=g.bodies i (by omega)
   rw [decide_eq_false (by simp only;omega),Bool.false_or]
   cases h11:(l.getD i i0).1==11 with
   | false=>rfl
   | true =>
    obtain ⟨h4,h5⟩:=g.marks i (by omega) (eq_of_beq h11)
    have h6:(ko 0 l).countP (fun p=>ou p i)=0:=by
     rw [List.countP_eq_zero];rw [List.any_eq_false] at h4;exact h4
    rw [h6,JL,Bool.true_and]
    rw [show decide ((0:Int)+((0:Nat):Int)>0)=false from rfl,Bool.false_or,oh]
    intro k _ hk
    by_cases hki:k<i
    ·have:=h5 k hki
     have:decide ((i:Int)<ps.getD k 0)=false:=decide_eq_false (by omega)
     rw [this,Bool.and_false,Bool.and_false]
    ·have:decide ((k:Int)<(i:Int))=false:=decide_eq_false (by omega)
     rw [this,Bool.false_and,Bool.and_false]
theorem ajs (l:List I4):agW l=qw l:=by rw [Bool.eq_iff_iff,agX,uy]
inductive Tr where
 | nil
 | one (x:I4) (r:Tr)
 | lk (a:Int) (b r:Tr)
 | ar (x:I4) (b r:Tr)
namespace Tr
def flat:Tr -> List I4
 | nil=>[]
 | one x r=>x::flat r
 | lk a b r=>(9,a,0,0)::(flat b++((10,a,0,0)::flat r))
 | ar x b r=>x::(flat b++flat r)
def len:Tr -> Nat
 | nil=>0
 | one _ r=>len r+1
 | lk _ b r=>len b+len r+2
 | ar _ b r=>len b+len r+1
theorem iw:∀ t:Tr,t.flat.length=t.len
 | nil=>rfl
 | one x r=>by simp only [flat,len,List.length_cons,iw r]
 | lk a b r=>by simp only [flat,len,List.length_cons,List.length_append,iw b,iw r];omega
 | ar x b r=>by simp only [flat,len,List.length_cons,List.length_append,iw b,iw r]
def plain (x:I4):Prop:=x.1≠0 /\ x.1≠7 /\ x.1≠8 /\ x.1≠9 /\ x.1≠10
def Ok:Nat -> List Int -> Bool -> Tr -> Prop
 | _,_,_,nil=>True
 | d,hs,ia,one x r=>jm x=true /\ plain x /\ (x.1=11 -> ia=false /\ hs=[]) /\ Ok d hs ia r
 | d,hs,ia,lk a b r=>(0 <= a /\ a <= 3) /\ (a ∉ hs /\ hs.length<2) /\ Ok d (hs++[a]) ia b /\ Ok d hs ia r
 | d,hs,ia,ar x b r=>(jm x=true /\ isA x=true /\ wd x=b.len) /\ (x.1=8 -> d<2) /\ Ok (bif x.1==8 then d+1 else d) hs true b /\ Ok d hs ia r
def app:Tr -> Tr -> Tr
 | nil,u=>u
 | one x r,u=>one x (app r u)
 | lk a b r,u=>lk a b (app r u)
 | ar x b r,u=>ar x b (app r u)
theorem zn:∀ (t u:Tr),(app t u).flat=t.flat++u.flat
 | nil,u=>rfl
 | one x r,u=>by simp only [app,flat,zn r u,List.cons_append]
 | lk a b r,u=>by simp only [app,flat,zn r u,List.cons_append,List.append_assoc]
 | ar x b r,u=>by simp only [app,flat,zn r u,List.cons_append,List.append_assoc]
theorem LK (t u:Tr):(app t u).len=t.len+u.len:=by rw [<- iw,zn,List.length_append,iw,iw]
theorem JN {d:Nat} {hs:List Int} {ia:Bool}:∀ {t u:Tr},Ok d hs ia t -> Ok d hs ia u -> Ok d hs ia (app t u)
 | nil,u,_,h=>h
 | one x r,u,⟨h1,h2,h3,h4⟩,h=>⟨h1,h2,h3,JN h4 h⟩
 | lk a b r,u,⟨h1,h2,h3,h4⟩,h=>⟨h1,h2,h3,JN h4 h⟩
 | ar x b r,u,⟨h1,h2,h3,h4⟩,h=>⟨h1,h2,h3,JN h4 h⟩
end Tr
open Tr
theorem LM {x:I4} (h:plain x):isA x=false:=by
 obtain ⟨_,h7,h8,_⟩:=h
 simp [isA,h7,h8]
theorem agY {a:Int} (h:0 <= a /\ a <= 3):jm (9,a,0,0)=true:=by simp [jm,yg,h]
theorem agZ {a:Int} (h:0 <= a /\ a <= 3):jm (10,a,0,0)=true:=by simp [jm,yg,h]
theorem GL:∀ {t:Tr} {d:Nat} {hs:List Int} {ia:Bool},Ok d hs ia t -> ∀ x∈t.flat,jm x=true
 | .nil,_,_,_,_,x,hx=>by cases hx
 | .one y r,_,_,_,⟨h1,_,_,h4⟩,x,hx=>by
  rcases List.mem_cons.1 hx with rfl | hx
  ·exact h1
  ·exact GL h4 x hx
 | .lk a b r,_,_,_,⟨h1,_,h3,h4⟩,x,hx=>by
  rcases List.mem_cons.1 hx with rfl | hx
  ·exact agY h1
  ·rcases List.mem_append.1 hx with hx | hx
   ·exact GL h3 x hx
   ·rcases List.mem_cons.1 hx with rfl | hx
    ·exact agZ h1
    ·exact GL h4 x hx
 | .ar y b r,_,_,_,⟨h1,_,h3,h4⟩,x,hx=>by
  rcases List.mem_cons.1 hx with rfl | hx
  ·exact h1.1
  ·rcases List.mem_append.1 hx with hx | hx
   ·exact GL h3 x hx
   ·exact GL h4 x hx
theorem QI:∀ {t:Tr} {d:Nat} {hs:List Int} {ia:Bool},Ok d hs ia t -> ∀ x∈t.flat,x.1≠0
 | .nil,_,_,_,_,x,hx=>by cases hx
 | .one y r,_,_,_,⟨_,h2,_,h4⟩,x,hx=>by
  rcases List.mem_cons.1 hx with rfl | hx
  ·exact h2.1
  ·exact QI h4 x hx
 | .lk a b r,_,_,_,⟨_,_,h3,h4⟩,x,hx=>by
  rcases List.mem_cons.1 hx with rfl | hx
  ·exact (by decide:(9:Int)≠0)
  ·rcases List.mem_append.1 hx with hx | hx
   ·exact QI h3 x hx
   ·rcases List.mem_cons.1 hx with rfl | hx
    ·exact (by decide:(10:Int)≠0)
    ·exact QI h4 x hx
 | .ar y b r,_,_,_,⟨h1,_,h3,h4⟩,x,hx=>by
  rcases List.mem_cons.1 hx with rfl | hx
  ·intro e;have:=h1.2.1;simp [isA,e] at this
  ·rcases List.mem_append.1 hx with hx | hx
   ·exact QI h3 x hx
   ·exact QI h4 x hx
theorem I9:∀ (u w:List I4) (o:Nat),ko o (u++w)=ko o u++ko (o+u.length) w
 | [],w,o=>by simp [ko]
 | x::u,w,o=>by
  simp only [List.cons_append,ko,List.append_assoc,List.length_cons]
  rw [I9 u w (o+1),show o+1+u.length=o+(u.length+1) by omega]
theorem EY {x:I4} (h1:jm x=true) (h2:isA x=false) {o:Nat} (r:List I4) (ho:o <= 9000):ko o (x::r)=ko (o+1) r:=by
 rw [ko,Uw h1 ho,if_neg (by simp [h2])];rfl
theorem ag0 {x:I4} (h1:jm x=true) (h2:isA x=true) {o:Nat} (r:List I4) (ho:o <= 9000):ko o (x::r)=p9 o x::ko (o+1) r:=by
 rw [ko,Uw h1 ho,if_pos h2];rfl
theorem LP {x:I4} {r:Tr} (h1:jm x=true) (h2:plain x) {o:Nat} (ho:o <= 9000):ko o (Tr.one x r).flat=ko (o+1) r.flat:=EY h1 (LM h2) _ ho
theorem Uy {a:Int} {b r:Tr} (h1:0 <= a /\ a <= 3) {o:Nat} (ho:o+b.len+1 <= 9000):ko o (Tr.lk a b r).flat=ko (o+1) b.flat++ko (o+b.len+2) r.flat:=by
 rw [Tr.flat,EY (agY h1) rfl _ (by omega),I9,iw,EY (agZ h1) rfl _ (by omega),show o+1+b.len+1=o+b.len+2 by omega]
theorem Uz {x:I4} {b r:Tr} (h1:jm x=true) (h2:isA x=true) {o:Nat} (ho:o <= 9000):ko o (Tr.ar x b r).flat=p9 o x::(ko (o+1) b.flat++ko (o+b.len+1) r.flat):=by
 rw [Tr.flat,ag0 h1 h2 _ ho,I9,iw,show o+1+b.len=o+b.len+1 by omega]
theorem pq:∀ {t:Tr} {d:Nat} {hs:List Int} {ia:Bool} {o:Nat},Ok d hs ia t -> o+t.len <= 9000 -> ∀ p∈ko o t.flat,(o:Int)<p.1 /\ p.1=p.2.2.1+1 /\ p.1 <= p.2.1 /\ p.2.1<((o+t.len:Nat):Int)
 | .nil,_,_,_,_,_,_,p,hp=>by simp [Tr.flat,ko] at hp
 | .one x r,_,_,_,o,⟨h1,h2,_,h4⟩,ho,p,hp=>by
  simp only [Tr.len] at ho ⊢
  rw [LP h1 h2 (by omega)] at hp
  have:=pq h4 (by omega) p hp
  omega
 | .lk a b r,_,_,_,o,⟨h1,_,h3,h4⟩,ho,p,hp=>by
  simp only [Tr.len] at ho ⊢
  rw [Uy h1 (by omega)] at hp
  rcases List.mem_append.1 hp with hp | hp
  ·have:=pq h3 (by omega) p hp;omega
  ·have:=pq h4 (by omega) p hp;omega
 | .ar x b r,_,_,_,o,⟨⟨h1,h2,h3⟩,_,h5,h6⟩,ho,p,hp=>by
  simp only [Tr.len] at ho ⊢
  rw [Uz h1 h2 (by omega)] at hp
  rcases List.mem_cons.1 hp with rfl | hp
  ·have:=AA h1 h2
   simp only [p9];omega
  ·rcases List.mem_append.1 hp with hp | hp
   ·have:=pq h5 (by omega) p hp;omega
   ·have:=pq h6 (by omega) p hp;omega
theorem EZ {p q:dw} (hp:p.1=p.2.2.1+1 /\ p.1 <= p.2.1) (hq:q.1=q.2.2.1+1 /\ q.1 <= q.2.1) (h:p.2.1<q.1 - 1 \/ q.2.1<p.1 - 1):GJ p q=false:=by
 unfold GJ inA apA ou
 rw [<- Bool.not_eq_true]
 simp only [Bool.or_eq_true,Bool.and_eq_true,Bool.not_eq_true',decide_eq_true_eq,Bool.or_eq_false_iff,Bool.and_eq_false_iff,decide_eq_false_iff_not]
 omega
theorem ag1 {p q:dw} (hp:p.1=p.2.2.1+1 /\ p.1 <= p.2.1) (hq:q.1=q.2.2.1+1 /\ q.1 <= q.2.1) (h:q.1 <= p.1 - 1 /\ p.2.1 <= q.2.1):GJ p q=false /\ GJ q p=false:=by
 unfold GJ inA apA ou
 rw [<- Bool.not_eq_true,<- Bool.not_eq_true]
 simp only [Bool.or_eq_true,Bool.and_eq_true,Bool.not_eq_true',decide_eq_true_eq,Bool.or_eq_false_iff,Bool.and_eq_false_iff,decide_eq_false_iff_not]
 omega
theorem JO:∀ {t:Tr} {d:Nat} {hs:List Int} {ia:Bool} {o:Nat},Ok d hs ia t -> o+t.len <= 9000 -> ∀ p∈ko o t.flat,∀ q∈ko o t.flat,GJ p q=false
 | .nil,_,_,_,_,_,_,p,hp=>by simp [Tr.flat,ko] at hp
 | .one x r,_,_,_,o,⟨h1,h2,_,h4⟩,ho,p,hp=>by
  simp only [Tr.len] at ho
  rw [LP h1 h2 (by omega)] at hp ⊢
  exact JO h4 (by omega) p hp
 | .lk a b r,_,_,_,o,⟨h1,_,h3,h4⟩,ho,p,hp=>by
  simp only [Tr.len] at ho
  rw [Uy h1 (by omega)] at hp ⊢
  intro q hq
  rcases List.mem_append.1 hp with hp | hp <;> rcases List.mem_append.1 hq with hq | hq
  ·exact JO h3 (by omega) p hp q hq
  ·have:=pq h3 (by omega) p hp;have:=pq h4 (by omega) q hq
   exact EZ (by omega) (by omega) (by omega)
  ·have:=pq h4 (by omega) p hp;have:=pq h3 (by omega) q hq
   exact EZ (by omega) (by omega) (by omega)
  ·exact JO h4 (by omega) p hp q hq
 | .ar x b r,_,_,_,o,⟨⟨h1,h2,h3⟩,_,h5,h6⟩,ho,p,hp=>by
  simp only [Tr.len] at ho
  rw [Uz h1 h2 (by omega)] at hp ⊢
  intro q hq
  have hw:=AA h1 h2
  have e1:(p9 o x).1=((o+1:Nat):Int):=rfl
  have e2:(p9 o x).2.1=((o+wd x:Nat):Int):=rfl
  have e3:(p9 o x).2.2.1=(o:Int):=rfl
  rcases List.mem_cons.1 hp with rfl | hp <;> rcases List.mem_cons.1 hq with rfl | hq
  ·exact X5 (by omega)
  ·rcases List.mem_append.1 hq with hq | hq
   ·have:=pq h5 (by omega) q hq
    exact (ag1 (by omega) (by omega) (by omega)).2
   ·have:=pq h6 (by omega) q hq
    exact EZ (by omega) (by omega) (by omega)
  ·rcases List.mem_append.1 hp with hp | hp
   ·have:=pq h5 (by omega) p hp
    exact (ag1 (by omega) (by omega) (by omega)).1
   ·have:=pq h6 (by omega) p hp
    exact EZ (by omega) (by omega) (by omega)
  ·rcases List.mem_append.1 hp with hp | hp <;> rcases List.mem_append.1 hq with hq | hq
   ·exact JO h5 (by omega) p hp q hq
   ·have:=pq h5 (by omega) p hp;have:=pq h6 (by omega) q hq
    exact EZ (by omega) (by omega) (by omega)
   ·have:=pq h6 (by omega) p hp;have:=pq h5 (by omega) q hq
    exact EZ (by omega) (by omega) (by omega)
   ·exact JO h6 (by omega) p hp q hq
theorem o7 {p:dw} {j:Int}:ou p j=true↔p.1 <= j /\ j <= p.2.1:=by simp [ou]
theorem UA (j:Int) (a b:List dw):dx j (a++b)=dx j a+dx j b:=List.countP_append
theorem LQ {j:Int} {a:List dw} (h:∀ p∈a,¬ (p.1 <= j /\ j <= p.2.1)):dx j a=0:=by
 rw [dx,List.countP_eq_zero]
 intro p hp
 rw [Bool.not_eq_true,Bool.and_eq_false_iff]
 right
 rw [<- Bool.not_eq_true,o7]
 exact h p hp
theorem y8:∀ {t:Tr} {d:Nat} {hs:List Int} {ia:Bool} {o:Nat},Ok d hs ia t -> o+t.len <= 9000 -> d <= 2 -> ∀ j:Int,dx j (ko o t.flat)+d <= 2
 | .nil,_,_,_,_,_,_,hd,j=>by simp [Tr.flat,ko,dx];exact hd
 | .one x r,_,_,_,o,⟨h1,h2,_,h4⟩,ho,hd,j=>by
  simp only [Tr.len] at ho
  rw [LP h1 h2 (by omega)]
  exact y8 h4 (by omega) hd j
 | .lk a b r,_,_,_,o,⟨h1,_,h3,h4⟩,ho,hd,j=>by
  simp only [Tr.len] at ho
  rw [Uy h1 (by omega),UA]
  have i1:=y8 (o:=o+1) h3 (by omega) hd j
  have i2:=y8 (o:=o+b.len+2) h4 (by omega) hd j
  by_cases hj:j<((o+1+b.len:Nat):Int)
  ·rw [LQ (a:=ko (o+b.len+2) r.flat) (fun p hp=>by have:=pq h4 (by omega) p hp;omega)];omega
  ·rw [LQ (a:=ko (o+1) b.flat) (fun p hp=>by have:=pq h3 (by omega) p hp;omega)];omega
 | .ar x b r,d,_,_,o,⟨⟨h1,h2,h3⟩,h4,h5,h6⟩,ho,hd,j=>by
  simp only [Tr.len] at ho
  have hw:=AA h1 h2
  rw [Uz h1 h2 (by omega),show ∀ a:dw,∀ l,a::l=[a]++l from fun _ _=>rfl,UA,UA]
  have i2:=y8 (o:=o+b.len+1) h6 (by omega) hd j
  have e:dx j [p9 o x]=if (x.1==8&&ou (p9 o x) j)=true then 1 else 0:=by
   rw [dx,List.countP_cons,List.countP_nil];simp [p9]
  by_cases hj:j<((o+1+b.len:Nat):Int)
  ·rw [LQ (a:=ko (o+b.len+1) r.flat) (fun p hp=>by have:=pq h6 (by omega) p hp;omega),e]
   cases h8:x.1==8 with
   | true =>
    have:=h4 (eq_of_beq h8)
    have i1:=y8 (o:=o+1) h5 (by omega) (by rw [h8,cond_true];omega) j
    rw [h8,cond_true] at i1
    split <;> omega
   | false =>
    have i1:=y8 (o:=o+1) h5 (by omega) (by rw [h8,cond_false];omega) j
    rw [h8,cond_false] at i1
    simp only [Bool.false_and,Bool.false_eq_true,if_false]
    omega
  ·rw [LQ (a:=ko (o+1) b.flat) (fun p hp=>by have:=pq h5 (by omega) p hp;omega),e,if_neg]
   ·omega
   ·rw [Bool.and_eq_true,o7]
    have e1:(p9 o x).2.1=((o+wd x:Nat):Int):=rfl
    omega
open Tr
def At (l:List I4) (o:Nat) (w:List I4):Prop:=o+w.length <= l.length /\ ∀ j,j<w.length -> l.getD (o+j) i0=w.getD j i0
theorem l5 {l:List I4} {o:Nat} {x:I4} {w:List I4} (h:At l o (x::w)):o<l.length /\ l.getD o i0=x /\ At l (o+1) w:=by
 obtain ⟨h1,h2⟩:=h
 simp only [List.length_cons] at h1 h2
 refine ⟨by omega,by simpa using h2 0 (by omega),by omega,fun j hj=>?_⟩
 have:=h2 (j+1) (by omega)
 rw [List.getD_cons_succ] at this
 rw [<- this];congr 1;omega
theorem y9 {l:List I4} {o:Nat} {u w:List I4} (h:At l o (u++w)):At l o u /\ At l (o+u.length) w:=by
 obtain ⟨h1,h2⟩:=h
 simp only [List.length_append] at h1 h2
 refine ⟨⟨by omega,fun j hj=>?_⟩,by omega,fun j hj=>?_⟩
 ·rw [h2 j (by omega),mo hj]
 ·rw [show o+u.length+j=o+(u.length+j) by omega,h2 _ (by omega),jq (by omega)]
  congr 1;omega
theorem ajt (l:List I4):At l 0 l:=⟨by omega,fun j _=>by rw [Nat.zero_add]⟩
def DW:Tr -> Nat -> List Int -> List Int
 | .nil,_,out=>out
 | .one _ r,o,out=>DW r (o+1) out
 | .lk _ b r,o,out=>DW r (o+b.len+2) ((DW b (o+1) out).set o ((o+b.len+1:Nat):Int))
 | .ar _ b r,o,out=>DW r (o+b.len+1) (DW b (o+1) out)
theorem D6:∀ (t:Tr) (o:Nat) (out:List Int),(DW t o out).length=out.length
 | .nil,_,_=>rfl
 | .one _ r,o,out=>by rw [DW,D6 r]
 | .lk _ b r,o,out=>by rw [DW,D6 r,List.length_set,D6 b]
 | .ar _ b r,o,out=>by rw [DW,D6 r,D6 b]
theorem xg:∀ (t:Tr) (o:Nat) (out:List Int) (k:Nat),k<o \/ o+t.len <= k -> (DW t o out).getD k 0=out.getD k 0
 | .nil,_,_,_,_=>rfl
 | .one _ r,o,out,k,h=>by simp only [Tr.len] at h;rw [DW,xg r _ _ k (by omega)]
 | .lk _ b r,o,out,k,h=>by
  simp only [Tr.len] at h
  rw [DW,xg r _ _ k (by omega),oz,if_neg (by omega),xg b _ _ k (by omega)]
 | .ar _ b r,o,out,k,h=>by
  simp only [Tr.len] at h
  rw [DW,xg r _ _ k (by omega),xg b _ _ k (by omega)]
theorem GN:∀ (t:Tr) (o:Nat) (out:List Int) (k:Nat) (m:Nat),o+t.len <= m -> out.getD k 0<(m:Int) -> (DW t o out).getD k 0<(m:Int)
 | .nil,_,_,_,_,_,h=>h
 | .one _ r,o,out,k,m,h1,h2=>by simp only [Tr.len] at h1;rw [DW];exact GN r _ _ k m (by omega) h2
 | .lk _ b r,o,out,k,m,h1,h2=>by
  simp only [Tr.len] at h1
  rw [DW]
  refine GN r _ _ k m (by omega) ?_
  rw [oz]
  split
  ·omega
  ·exact GN b _ _ k m (by omega) h2
 | .ar _ b r,o,out,k,m,h1,h2=>by
  simp only [Tr.len] at h1
  rw [DW]
  exact GN r _ _ k m (by omega) (GN b _ _ k m (by omega) h2)
def aqX (l:List I4) (o len:Nat):Prop:=∀ n,n<o -> o+len <= n+wd (l.getD n i0)+1 \/ n+wd (l.getD n i0)<o
theorem G9:∀ {t:Tr} {d:Nat} {hs:List Int} {ia:Bool} {l:List I4} {o:Nat},Ok d hs ia t -> At l o t.flat -> ∀ n,o <= n -> n<o+t.len -> n+wd (l.getD n i0)<o+t.len
 | .nil,_,_,_,_,_,_,_,n,h1,h2=>by simp only [Tr.len] at h2;omega
 | .one x r,_,_,_,l,o,⟨h1,h2,_,h4⟩,ha,n,hn1,hn2=>by
  simp only [Tr.len] at hn2 ⊢
  obtain ⟨a1,a2,a3⟩:=l5 ha
  by_cases e:n=o
  ·subst e;rw [a2,su (LM h2)];omega
  ·have:=G9 h4 a3 n (by omega) (by omega);omega
 | .lk a b r,_,_,_,l,o,⟨h1,_,h3,h4⟩,ha,n,hn1,hn2=>by
  simp only [Tr.len] at hn2 ⊢
  obtain ⟨a1,a2,a3⟩:=l5 ha
  obtain ⟨a4,a5⟩:=y9 a3
  obtain ⟨a6,a7,a8⟩:=l5 a5
  rw [iw] at a6 a7 a8
  by_cases e:n=o
  ·subst e;rw [a2,su rfl];omega
  ·by_cases e2:n<o+1+b.len
   ·have:=G9 h3 a4 n (by omega) (by omega);omega
   ·by_cases e3:n=o+1+b.len
    ·subst e3;rw [a7,su rfl];omega
    ·have:=G9 h4 a8 n (by omega) (by omega);omega
 | .ar x b r,_,_,_,l,o,⟨⟨h1,h2,h3⟩,_,h5,h6⟩,ha,n,hn1,hn2=>by
  simp only [Tr.len] at hn2 ⊢
  obtain ⟨a1,a2,a3⟩:=l5 ha
  obtain ⟨a4,a5⟩:=y9 a3
  rw [iw] at a5
  by_cases e:n=o
  ·subst e;rw [a2,h3];omega
  ·by_cases e2:n<o+1+b.len
   ·have:=G9 h5 a4 n (by omega) (by omega);omega
   ·have:=G9 h6 a5 n (by omega) (by omega);omega
theorem F6 {l:List I4} (hm:∀ x∈l,jm x=true) (hl:l.length <= 900) {i j:Nat}:KX l i j=false↔∀ n,n<l.length -> isA (l.getD n i0)=true -> ((n<i /\ i <= n+wd (l.getD n i0))↔(n<j /\ j <= n+wd (l.getD n i0))):=by
 unfold KX
 rw [List.any_eq_false]
 have hh:∀ (n k:Nat),ou (p9 n (l.getD n i0)) (k:Int)=true↔n<k /\ k <= n+wd (l.getD n i0):=fun n k=>by
  rw [o7];simp only [p9];omega
 constructor
 ·intro h n hn ha
  have:=h (p9 n (l.getD n i0)) ((ny l 0 _ hm (by omega)).2 ⟨n,hn,ha,by rw [Nat.zero_add]⟩)
  simp only [bne_iff_ne,ne_eq,Decidable.not_not] at this
  rw [Bool.eq_iff_iff,hh,hh] at this
  exact this
 ·intro h p hp
  obtain ⟨n,hn,ha,rfl⟩:=(ny l 0 p hm (by omega)).1 hp
  rw [Nat.zero_add]
  simp only [bne_iff_ne,ne_eq,Decidable.not_not]
  rw [Bool.eq_iff_iff,hh,hh]
  exact h n hn ha
theorem AO {l:List I4} (hm:∀ x∈l,jm x=true) (hl:l.length <= 900):∀ {t:Tr} {d:Nat} {hs:List Int} {ia:Bool} {o:Nat} (m:Nat) (out open_:List Int),Ok d hs ia t -> At l o t.flat -> aqX l o t.len -> open_.map (fun k=>(rd l k i0).2.1)=hs -> (∀ k∈open_,0 <= k /\ k<(o:Int)) ->
  uh l (t.len+m) o (out,open_)=uh l m (o+t.len) (DW t o out,open_)
 | .nil,_,_,_,_,m,out,open_,_,_,_,_,_=>by simp only [Tr.len,Nat.zero_add,Nat.add_zero,DW]
 | .one x r,_,_,_,o,m,out,open_,⟨h1,h2,_,h4⟩,ha,ho,hs,hk=>by
  simp only [Tr.len] at ho ⊢
  obtain ⟨a1,a2,a3⟩:=l5 ha
  rw [show r.len+1+m=(r.len+m)+1 by omega,uh]
  have hp:jv l o (out,open_)=some (out,open_):=by
   unfold jv;rw [a2,if_neg h2.2.2.2.1,if_neg h2.2.2.2.2]
  rw [hp,Option.bind_some,AO hm hl m out open_ h4 a3 (fun n hn=>by
   by_cases e:n=o
   ·subst e;right;rw [a2,su (LM h2)];omega
   ·have:=ho n (by omega);omega) hs (fun k hk'=>by have:=hk k hk';omega),DW]
  congr 1;omega
 | .lk a b r,_,hs,_,o,m,out,open_,⟨h1,h2,h3,h4⟩,ha,ho,hhs,hk=>by
  simp only [Tr.len] at ho ⊢
  obtain ⟨a1,a2,a3⟩:=l5 ha
  obtain ⟨a4,a5⟩:=y9 a3
  obtain ⟨a6,a7,a8⟩:=l5 a5
  rw [iw] at a6 a7 a8
  have hlen:open_.length=hs.length:=by rw [<- hhs,List.length_map]
  have hsame:NQ l open_ o=false:=by
   unfold NQ
   rw [List.any_eq_false]
   intro k hk'
   rw [Px,a2]
   have:(rd l k i0).2.1∈hs:=by rw [<- hhs];exact List.mem_map.2 ⟨k,hk',rfl⟩
   intro e
   have e:=eq_of_beq e
   simp only at e
   rw [e] at this
   exact h2.1 this
  have hp:jv l o (out,open_)=some (out,open_++[(o:Int)]):=by
   unfold jv
   rw [a2,if_pos rfl,if_neg]
   rintro (h | h)
   ·simp only at h;omega
   ·rw [show NQ l open_ (o:Int)=true from h] at hsame;cases hsame
  rw [show b.len+r.len+2+m=(b.len+(r.len+m+1))+1 by omega,uh,hp,Option.bind_some]
  rw [AO hm hl (r.len+m+1) out (open_++[(o:Int)]) h3 a4 (fun n hn=>by
   by_cases e:n=o
   ·subst e;right;rw [a2,su rfl];omega
   ·have:=ho n (by omega);omega) (by rw [List.map_append,hhs,List.map_cons,List.map_nil,Px,a2]) (fun k hk'=>by
   rcases List.mem_append.1 hk' with hk' | hk'
   ·have:=hk k hk';omega
   ·have:=List.mem_singleton.1 hk';omega)]
  have hsep:KX l o (o+1+b.len:Nat)=false:=by
   rw [F6 hm hl]
   intro n hn hA
   by_cases e:n<o
   ·have:=ho n e;omega
   ·by_cases e2:n=o
    ·subst e2;rw [a2] at hA;exact absurd hA (by simp [isA])
    ·by_cases e3:n<o+1+b.len
     ·have:=G9 h3 a4 n (by omega) e3;omega
     ·omega
  have hp2:jv l (o+1+b.len) (DW b (o+1) out,open_++[(o:Int)])=some ((DW b (o+1) out).set o ((o+b.len+1:Nat):Int),open_):=by
   unfold jv
   rw [a7,if_neg (by simp),if_pos rfl,show (DW b (o+1) out,open_++[(o:Int)]).2.getLast? = some (o:Int) by simp]
   simp only
   rw [if_neg]
   ·simp only [List.dropLast_concat,Mf]
    congr 3;congr 1;omega
   ·rintro (h | h)
    ·rw [Px,a2] at h;exact h rfl
    ·rw [show KX l (((o:Int).toNat:Nat):Int) ((o+1+b.len:Nat):Int)=false from hsep] at h;cases h
  rw [uh,hp2,Option.bind_some,show o+1+b.len+1=o+b.len+2 by omega]
  rw [show o+1+b.len+1=o+b.len+2 by omega] at a8
  rw [AO hm hl m _ open_ h4 a8 (fun n hn=>by
   by_cases e:n<o
   ·have:=ho n e;omega
   ·by_cases e2:n=o
    ·subst e2;right;rw [a2,su rfl];omega
    ·by_cases e3:n<o+1+b.len
     ·have:=G9 h3 a4 n (by omega) e3;omega
     ·have:n=o+1+b.len:=by omega
      subst this;right;rw [a7,su rfl];omega) hhs (fun k hk'=>by have:=hk k hk';omega),DW]
  congr 1;omega
 | .ar x b r,_,hs,_,o,m,out,open_,⟨⟨h1,h2,h3⟩,_,h5,h6⟩,ha,ho,hhs,hk=>by
  simp only [Tr.len] at ho ⊢
  obtain ⟨a1,a2,a3⟩:=l5 ha
  obtain ⟨a4,a5⟩:=y9 a3
  rw [iw] at a5
  have h9:x.1≠9:=fun e=>by simp [isA,e] at h2
  have h10:x.1≠10:=fun e=>by simp [isA,e] at h2
  have hp:jv l o (out,open_)=some (out,open_):=by
   unfold jv;rw [a2,if_neg h9,if_neg h10]
  rw [show b.len+r.len+1+m=(b.len+(r.len+m))+1 by omega,uh,hp,Option.bind_some]
  rw [AO hm hl (r.len+m) out open_ h5 a4 (fun n hn=>by
   by_cases e:n=o
   ·subst e;left;rw [a2,h3];omega
   ·have:=ho n (by omega);omega) hhs (fun k hk'=>by have:=hk k hk';omega)]
  rw [show o+1+b.len=o+b.len+1 by omega] at a5 ⊢
  rw [AO hm hl m _ open_ h6 a5 (fun n hn=>by
   by_cases e:n<o
   ·have:=ho n e;omega
   ·by_cases e2:n=o
    ·subst e2;right;rw [a2,h3];omega
    ·have:=G9 h5 a4 n (by omega) (by omega);omega) hhs (fun k hk'=>by have:=hk k hk';omega),DW]
  congr 1;omega
theorem D7:∀ {t:Tr} {d:Nat} {hs:List Int} {ia:Bool} {l:List I4} {o:Nat},Ok d hs ia t -> At l o t.flat -> ∀ i,o <= i -> i<o+t.len -> (l.getD i i0).1=11 -> ia=false /\ hs=[] /\ (∀ n,o <= n -> n<i -> n+wd (l.getD n i0)<i) /\ ∀ (out:List Int) (k:Nat),o <= k -> k<i -> out.getD k 0<(i:Int) -> (DW t o out).getD k 0<(i:Int)
 | .nil,_,_,_,_,_,_,_,i,h1,h2,_=>by simp only [Tr.len] at h2;omega
 | .one x r,_,_,_,l,o,⟨h1,h2,h3,h4⟩,ha,i,hi1,hi2,he=>by
  simp only [Tr.len] at hi2
  obtain ⟨a1,a2,a3⟩:=l5 ha
  by_cases e:i=o
  ·subst e;rw [a2] at he
   exact ⟨(h3 he).1,(h3 he).2,fun n _ _=>by omega,fun _ k _ _=>by omega⟩
  ·obtain ⟨i1,i2,i3,i4⟩:=D7 h4 a3 i (by omega) (by omega) he
   refine ⟨i1,i2,fun n hn1 hn2=>?_,fun out k hk1 hk2 hk3=>?_⟩
   ·by_cases e2:n=o
    ·subst e2;rw [a2,su (LM h2)];omega
    ·exact i3 n (by omega) hn2
   ·rw [DW]
    by_cases e2:k=o
    ·rw [xg r _ _ k (by omega)];exact hk3
    ·exact i4 out k (by omega) hk2 hk3
 | .lk a b r,_,hs,_,l,o,⟨h1,_,h3,h4⟩,ha,i,hi1,hi2,he=>by
  simp only [Tr.len] at hi2
  obtain ⟨a1,a2,a3⟩:=l5 ha
  obtain ⟨a4,a5⟩:=y9 a3
  obtain ⟨a6,a7,a8⟩:=l5 a5
  rw [iw] at a6 a7 a8
  by_cases e:i=o
  ·subst e;rw [a2] at he;exact absurd he (by decide:(9:Int)≠11)
  ·by_cases e2:i<o+1+b.len
   ·have:=(D7 h3 a4 i (by omega) e2 he).2.1
    simp at this
   ·by_cases e3:i=o+1+b.len
    ·subst e3;rw [a7] at he;exact absurd he (by decide:(10:Int)≠11)
    ·obtain ⟨i1,i2,i3,i4⟩:=D7 h4 a8 i (by omega) (by omega) he
     refine ⟨i1,i2,fun n hn1 hn2=>?_,fun out k hk1 hk2 hk3=>?_⟩
     ·by_cases f1:n=o
      ·subst f1;rw [a2,su rfl];omega
      ·by_cases f2:n<o+1+b.len
       ·have:=G9 h3 a4 n (by omega) f2;omega
       ·by_cases f3:n=o+1+b.len
        ·subst f3;rw [a7,su rfl];omega
        ·exact i3 n (by omega) hn2
     ·rw [DW,show o+b.len+2=o+1+b.len+1 by omega]
      have key:((DW b (o+1) out).set o ((o+b.len+1:Nat):Int)).getD k 0<(i:Int):=by
       rw [oz]
       split
       ·omega
       ·exact GN b _ _ k i (by omega) hk3
      by_cases f:o+1+b.len+1 <= k
      ·exact i4 _ k f hk2 key
      ·rw [xg r _ _ k (by omega)];exact key
 | .ar x b r,_,_,_,l,o,⟨⟨h1,h2,h3⟩,_,h5,h6⟩,ha,i,hi1,hi2,he=>by
  simp only [Tr.len] at hi2
  obtain ⟨a1,a2,a3⟩:=l5 ha
  obtain ⟨a4,a5⟩:=y9 a3
  rw [iw] at a5
  by_cases e:i=o
  ·subst e;rw [a2] at he;simp [isA,he] at h2
  ·by_cases e2:i<o+1+b.len
   ·have:=(D7 h5 a4 i (by omega) e2 he).1
    cases this
   ·obtain ⟨i1,i2,i3,i4⟩:=D7 h6 a5 i (by omega) (by omega) he
    refine ⟨i1,i2,fun n hn1 hn2=>?_,fun out k hk1 hk2 hk3=>?_⟩
    ·by_cases f1:n=o
     ·subst f1;rw [a2,h3];omega
     ·by_cases f2:n<o+1+b.len
      ·have:=G9 h5 a4 n (by omega) f2;omega
      ·exact i3 n (by omega) hn2
    ·rw [DW,show o+b.len+1=o+1+b.len by omega]
     have key:(DW b (o+1) out).getD k 0<(i:Int):=GN b _ _ k i (by omega) hk3
     by_cases f:o+1+b.len <= k
     ·exact i4 _ k f hk2 key
     ·rw [xg r _ _ k (by omega)];exact key
def Tr.prog (t:Tr):List I4:=t.flat++[i0]
theorem xk (t:Tr):t.prog.length=t.len+1:=by unfold Tr.prog;rw [List.length_append,iw];rfl
theorem ag2 {t:Tr} (h:Ok 0 [] false t):∀ x∈t.prog,jm x=true:=by
 intro x hx
 rcases List.mem_append.1 hx with hx | hx
 ·exact GL h x hx
 ·rw [List.mem_singleton.1 hx];rfl
theorem F8 (t:Tr):At t.prog 0 t.flat:=(y9 (ajt t.prog)).1
theorem CF (t:Tr):t.prog.getD t.len i0=i0:=by
 unfold Tr.prog
 rw [jq (by rw [iw];omega),iw,Nat.sub_self];rfl
theorem X7 {t:Tr} (hl:t.len <= 900):ko 0 t.prog=ko 0 t.flat:=by
 unfold Tr.prog
 rw [I9,EY rfl rfl _ (by rw [iw];omega)]
 simp [ko]
theorem QJ {t:Tr} (h:Ok 0 [] false t) (hl:t.len<24):y5 t.prog (DW t 0 (List.replicate (t.len+1) 0)):=by
 have hm:=ag2 h
 have hpl:=xk t
 have hpc:=X7 (t:=t) (by omega)
 have hin:=fun p hp=>pq (o:=0) h (by omega) p hp
 have aqY:OT t.prog=some (DW t 0 (List.replicate (t.len+1) 0)):=by
  have:=AO hm (by omega) (o:=0) 1 (List.replicate t.prog.length 0) [] h (F8 t) (fun n hn=>by omega) rfl (fun k hk=>by cases hk)
  unfold OT
  rw [hpl] at this ⊢
  rw [this,uh,Nat.zero_add]
  unfold jv
  rw [CF,if_neg (by decide),if_neg (by decide)]
  rfl
 refine ⟨by omega,by omega,hm,fun i hi=>?_,fun p hp=>?_,fun p hp q hq=>?_,fun j hj=>?_,aqY,fun i hi e=>⟨?_,fun k hk=>?_⟩⟩
 ·by_cases e:i<t.len
  ·have:(t.prog.getD i i0).1≠0:=by
    unfold Tr.prog
    rw [mo (by rw [iw];exact e)]
    exact QI h _ (iq (by rw [iw];exact e))
   exact ⟨fun h=>absurd h this,fun h=>by omega⟩
  ·have:i=t.len:=by omega
   subst this
   rw [CF]
   exact ⟨fun _=>by omega,fun _=>rfl⟩
 ·rw [hpc] at hp
  have:=hin p hp;omega
 ·rw [hpc] at hp hq
  exact JO h (by omega) p hp q hq
 ·rw [hpc]
  have:=y8 (o:=0) h (by omega) (by omega) (j:Int);omega
 ·have hlt:i<t.len:=by
   by_cases e2:i<t.len
   ·exact e2
   ·have:i=t.len:=by omega
    subst this;rw [CF] at e;exact absurd e (by decide)
  obtain ⟨_,_,i3,_⟩:=D7 h (F8 t) i (by omega) (by omega) e
  rw [List.any_eq_false]
  intro p hp
  obtain ⟨n,hn,ha,rfl⟩:=(ny t.prog 0 p hm (by omega)).1 hp
  rw [o7]
  simp only [p9]
  rintro ⟨h1,h2⟩
  have:=i3 n (by omega) (by omega)
  omega
 ·have hlt:i<t.len:=by
   by_cases e2:i<t.len
   ·exact e2
   ·have:i=t.len:=by omega
    subst this;rw [CF] at e;exact absurd e (by decide)
  obtain ⟨_,_,_,i4⟩:=D7 h (F8 t) i (by omega) (by omega) e
  have:=i4 (List.replicate (t.len+1) 0) k (by omega) hk (by
   rw [List.getD_eq_getElem?_getD,List.getElem?_replicate];split <;> simp <;> omega)
  omega
def yh (p:List Int) (n:Int):Prop:=(p.length <= 1000 /\ 0 <= n /\ n <= (p.length:Int)) /\ ∀ x∈p,0 <= x /\ x <= 255
theorem oo (k:Nat) {p:List Int} {n m:Int} (h:yh p n) (hm:0<m):∃ v n',FT k p n m=some ((v,()),(p,n',()),()) /\ (0 <= v /\ v<m) /\ yh p n':=by
 obtain ⟨⟨h1,h2,h3⟩,h4⟩:=h
 unfold FT
 by_cases e:n≥(p.length:Int)
 ·rw [Rj e];exact ⟨0,n,rfl,by omega,⟨h1,h2,h3⟩,h4⟩
 ·rw [Rk e,Ua (n:=n+1) (by omega) (by omega),show n+1 - 1=n by omega,Ua (n:=n) (by omega) (by omega),Lf h2 (by omega),Ri (by omega)]
  obtain ⟨j,rfl⟩:∃ j:Nat,n=(j:Int):=⟨n.toNat,by omega⟩
  rw [Px]
  have:=h4 _ (iq (z:=0) (l:=p) (i:=j) (by omega))
  rw [Ua (by omega) (by omega)]
  exact ⟨_,_,rfl,⟨Int.tmod_nonneg _ this.1,Int.tmod_lt_of_pos _ hm⟩,⟨h1,by omega,by omega⟩,h4⟩
theorem mem3 {a:Int} (h:0 <= a /\ a<3):BF a=true:=by simp [BF];omega
theorem UC (k:Nat) {p:List Int} {n:Int} (h:yh p n):∃ x n',acR k p n=some ((x,()),(p,n',()),()) /\ (jm x=true /\ 1 <= x.1 /\ x.1 <= 6 /\ x.2.1<3) /\ yh p n':=by
 unfold acR
 obtain ⟨a,n1,e1,ha,h1⟩:=oo k (m:=3) h (by omega)
 rw [e1,Option.bind_some]
 obtain ⟨b,n2,e2,hb,h2⟩:=oo k (m:=3) h1 (by omega)
 simp only
 rw [e2,Option.bind_some]
 obtain ⟨c,n3,e3,hc,h3⟩:=oo k (m:=6) h2 (by omega)
 simp only
 rw [e3,Option.bind_some]
 simp only
 have ma:=mem3 ha
 have mb:=mem3 hb
 have hc6:c=0 \/ c=1 \/ c=2 \/ c=3 \/ c=4 \/ c=5:=by omega
 rcases hc6 with rfl | rfl | rfl | rfl | rfl | rfl
 ·obtain ⟨d,n4,e4,hd,h4⟩:=oo k (m:=9) h3 (by omega)
  rw [show ((0:Int)==0)=true from rfl,cond_true,e4,Option.bind_some]
  simp only
  rw [Ua (by omega) (by omega)]
  exact ⟨_,_,rfl,⟨by simp [jm,ma,yg];omega,by simp,by simp,ha.2⟩,h4⟩
 ·exact ⟨_,_,rfl,⟨by simp [jm,ma,mb],by simp,by simp,ha.2⟩,h3⟩
 ·exact ⟨_,_,rfl,⟨by simp [jm,ma,mb],by simp,by simp,ha.2⟩,h3⟩
 ·exact ⟨_,_,rfl,⟨by simp [jm,ma,mb],by simp,by simp,ha.2⟩,h3⟩
 ·obtain ⟨d,n4,e4,hd,h4⟩:=oo k (m:=7) h3 (by omega)
  rw [show ((4:Int)==0)=false from rfl,show ((4:Int)==1)=false from rfl,show ((4:Int)==2)=false from rfl,show ((4:Int)==3)=false from rfl,show ((4:Int)==4)=true from rfl,cond_false,cond_false,cond_false,cond_false,cond_true,e4,Option.bind_some]
  simp only
  rw [Ua (by omega) (by omega)]
  exact ⟨_,_,rfl,⟨by simp [jm,ma,yg];omega,by simp,by simp,ha.2⟩,h4⟩
 ·obtain ⟨d,n4,e4,hd,h4⟩:=oo k (m:=64) h3 (by omega)
  rw [show ((5:Int)==0)=false from rfl,show ((5:Int)==1)=false from rfl,show ((5:Int)==2)=false from rfl,show ((5:Int)==3)=false from rfl,show ((5:Int)==4)=false from rfl,cond_false,cond_false,cond_false,cond_false,cond_false,e4,Option.bind_some]
  simp only
  rw [Ua (by omega) (by omega)]
  exact ⟨_,_,rfl,⟨by simp [jm,ma,yg];omega,by simp,by simp,ha.2⟩,h4⟩
theorem X8 {x:I4} (h:1 <= x.1 /\ x.1 <= 6 /\ x.2.1<3):plain x /\ x.1≠11:=by unfold plain;omega
def OV (n:Int):Tr -> Prop
 | .nil=>True
 | .one _ r=>OV n r
 | .lk a b r=>(0 <= a /\ a<n) /\ OV n b /\ OV n r
 | .ar _ b r=>OV n b /\ OV n r
def BS:Tr -> Prop
 | .nil=>True
 | .one x r=>(1 <= x.1 /\ x.1 <= 6 /\ x.2.1<3) /\ BS r
 | .lk _ b r=>BS b /\ BS r
 | .ar _ _ _=>False
theorem CG {n:Int}:∀ {t u:Tr},OV n t -> OV n u -> OV n (t.app u)
 | .nil,_,_,h=>h
 | .one _ r,_,h1,h=>CG (t:=r) h1 h
 | .lk _ _ _,_,h1,h=>⟨h1.1,h1.2.1,CG h1.2.2 h⟩
 | .ar _ b r,_,h1,h=>⟨h1.1,CG h1.2 h⟩
theorem D8:∀ {t u:Tr},BS t -> BS u -> BS (t.app u)
 | .nil,_,_,h=>h
 | .one _ r,_,h1,h=>⟨h1.1,D8 h1.2 h⟩
 | .lk _ b r,_,h1,h=>⟨h1.1,D8 h1.2 h⟩
 | .ar _ _ _,_,h1,_=>h1.elim
def OW:Tr -> Prop
 | .nil=>True
 | .one x r=>(x.1 <= 6 -> x.2.1<3) /\ OW r
 | .lk _ b r=>OW b /\ OW r
 | .ar _ b r=>OW b /\ OW r
theorem za:∀ {t:Tr},BS t -> OW t
 | .nil,_=>trivial
 | .one _ r,h=>⟨fun _=>h.1.2.2,za h.2⟩
 | .lk _ b r,h=>⟨za h.1,za h.2⟩
 | .ar _ _ _,h=>h.elim
theorem LU:∀ {t u:Tr},OW t -> OW u -> OW (t.app u)
 | .nil,_,_,h=>h
 | .one _ r,_,h1,h=>⟨h1.1,LU h1.2 h⟩
 | .lk _ b r,_,h1,h=>⟨h1.1,LU h1.2 h⟩
 | .ar _ b r,_,h1,h=>⟨h1.1,LU h1.2 h⟩
structure Pc (jc:Int) (t:Tr):Prop where
 ok:∀ d ia,Ok d [] ia t
 simple:BS t
 free:OV jc t
theorem anj (jc:Int):Pc jc .nil:=⟨fun _ _=>trivial,trivial,trivial⟩
theorem ag3 {jc:Int} {t:Tr} {x:I4} (h:Pc jc t) (hx:jm x=true /\ 1 <= x.1 /\ x.1 <= 6 /\ x.2.1<3):Pc jc (t.app (.one x .nil)) :=
 have hp:=X8 hx.2
 ⟨fun d ia=>JN (h.ok d ia) ⟨hx.1,hp.1,fun e=>absurd e hp.2,trivial⟩,D8 h.simple ⟨hx.2,trivial⟩,CG h.free trivial⟩
theorem apw {jc:Int} {t:Tr} {x:I4} {a:Int} (h:Pc jc t) (hx:jm x=true /\ 1 <= x.1 /\ x.1 <= 6 /\ x.2.1<3) (ha:0 <= a /\ a<jc) (hl:jc <= 4):Pc jc (t.app (.lk a (.one x .nil) .nil)) :=
 have hp:=X8 hx.2
 ⟨fun d ia=>JN (h.ok d ia) ⟨by omega,⟨by simp,by simp⟩,⟨hx.1,hp.1,fun e=>absurd e hp.2,trivial⟩,trivial⟩,D8 h.simple ⟨⟨hx.2,trivial⟩,trivial⟩,CG h.free ⟨ha,trivial,trivial⟩⟩
theorem QK {k:Nat} (hk:1000 <= k) {p:List Int} {jc:Int} (hl:0 <= jc /\ jc <= 4):∀ (m j:Nat) (n:Int) (t:Tr),m<j -> m <= 100 -> yh p n -> Pc jc t -> t.len+3 * m <= 1000 ->
  ∃ t' n',U3 k j p n jc t.flat (m:Int)=some ((t'.flat,()),(p,n',()),()) /\ yh p n' /\ Pc jc t' /\ t.len+m <= t'.len /\ t'.len <= t.len+3 * m
 | 0,j,n,t,hj,_,hp,ht,_=>by
  obtain ⟨j',rfl⟩:∃ j',j=j'+1:=⟨j - 1,by omega⟩
  rw [Wz,U2,Rk (by omega)]
  exact ⟨t,n,rfl,hp,ht,by omega,by omega⟩
 | m+1,j,n,t,hj,hm,hp,ht,htl=>by
  obtain ⟨j',rfl⟩:∃ j',j=j'+1:=⟨j - 1,by omega⟩
  rw [Wz,U2,Rj (by omega)]
  have hw:IntKind.i64.wrap (((m+1:Nat):Int) - 1)=(m:Int):=by rw [Ua (by omega) (by omega)];omega
  have ih:=QK hk (p:=p) hl m j'
  have hfl:=iw t
  by_cases e:jc>0
  ·rw [Rj e]
   obtain ⟨a,n1,e1,ha,h1⟩:=oo k (m:=4) hp (by omega)
   rw [e1,Option.bind_some]
   simp only
   cases h0:a==0 with
   | true =>
    obtain ⟨b,n2,e2,hb,h2⟩:=oo k (m:=jc) h1 e
    rw [cond_true,e2,Option.bind_some]
    simp only
    rw [Rh (by simp only [List.length_cons,List.length_nil];omega)]
    obtain ⟨x,n3,e3,hx,h3⟩:=UC k h2
    rw [e3,Option.bind_some]
    simp only
    rw [Rh (by simp only [List.length_append,List.length_cons,List.length_nil];omega),Rh (by simp only [List.length_append,List.length_cons,List.length_nil];omega),hw]
    have hl1:(t.app (.lk b (.one x .nil) .nil)).len=t.len+3:=by rw [LK];rfl
    obtain ⟨t',n',h5,h6,h7,h8,h9⟩:=ih n3 (t.app (.lk b (.one x .nil) .nil)) (by omega) (by omega) h3 (apw ht hx hb hl.2) (by omega)
    rw [zn] at h5
    refine ⟨t',n',?_,h6,h7,by omega,by omega⟩
    rw [<- h5]
    simp only [Tr.flat,List.append_assoc,List.cons_append,List.nil_append]
   | false =>
    obtain ⟨x,n3,e3,hx,h3⟩:=UC k h1
    rw [cond_false,e3,Option.bind_some]
    simp only
    rw [Rh (by simp only [List.length_cons,List.length_nil];omega),hw]
    have hl1:(t.app (.one x .nil)).len=t.len+1:=by rw [LK];rfl
    obtain ⟨t',n',h5,h6,h7,h8,h9⟩:=ih n3 (t.app (.one x .nil)) (by omega) (by omega) h3 (ag3 ht hx) (by omega)
    rw [zn] at h5
    exact ⟨t',n',h5,h6,h7,by omega,by omega⟩
  ·rw [Rk e]
   obtain ⟨x,n3,e3,hx,h3⟩:=UC k hp
   rw [e3,Option.bind_some]
   simp only
   rw [Rh (by simp only [List.length_cons,List.length_nil];omega),hw]
   have hl1:(t.app (.one x .nil)).len=t.len+1:=by rw [LK];rfl
   obtain ⟨t',n',h5,h6,h7,h8,h9⟩:=ih n3 (t.app (.one x .nil)) (by omega) (by omega) h3 (ag3 ht hx) (by omega)
   rw [zn] at h5
   exact ⟨t',n',h5,h6,h7,by omega,by omega⟩
theorem UD {k:Nat} (hk:1000 <= k) {p:List Int} {n jc:Int} (hl:0 <= jc /\ jc <= 4) (hp:yh p n):∃ t n',acS k p n 2 jc=some ((Tr.flat t,()),(p,n',()),()) /\ yh p n' /\ Pc jc t /\ 1 <= t.len /\ t.len <= 6:=by
 unfold acS
 obtain ⟨a,n1,e1,ha,h1⟩:=oo k (m:=2) hp (by omega)
 rw [e1,Option.bind_some]
 simp only
 rw [Ua (by omega) (by omega)]
 obtain ⟨m,hm⟩:∃ m:Nat,a+1=(m:Int):=⟨(a+1).toNat,by omega⟩
 rw [hm]
 obtain ⟨t',n',h5,h6,h7,h8,h9⟩:=QK hk (p:=p) hl m k n1 .nil (by omega) (by omega) h1 (anj jc) (by simp only [Tr.len];omega)
 simp only [Tr.len,Nat.zero_add] at h8 h9
 exact ⟨t',n',h5,h6,h7,by omega,by omega⟩
structure Mp (jc:Int) (t:Tr):Prop where
 ok:Ok 0 [] false t
 free:OV jc t
 low:OW t
theorem ank {jc:Int} {t u:Tr} (h:Mp jc t) (hu:Mp jc u):Mp jc (t.app u):=⟨JN h.ok hu.ok,CG h.free hu.free,LU h.low hu.low⟩
theorem FB {k:Nat} {p:List Int} {jc n:Int} {t u:Tr} {m:Nat} {g3:List Int -> Int -> Int -> List I4 -> Int -> Option ((List I4×Unit)×(List Int×Int×Unit)×Unit)} (hu:u.len <= 900) (ht:t.len <= 22) (hm:m <= 900) (ht':Mp jc t) (hu':Mp jc u) :
  ∃ t',GI k g3 p n jc t.flat ((m+1:Nat):Int) u.flat=g3 p n jc (Tr.flat t') (m:Int) /\ t'.len <= 22 /\ Mp jc t':=by
 unfold GI
 have h1:=iw t
 have h2:=iw u
 rw [Ua (by omega) (by omega),Ua (by omega) (by omega),show ((m+1:Nat):Int) - 1=(m:Int) by omega]
 by_cases e:((t.flat.length:Int)+(u.flat.length:Int))<23
 ·rw [Rj e,Rh (by omega)]
  exact ⟨t.app u,by rw [zn],by rw [LK];omega,ank ht' hu'⟩
 ·rw [Rk e];exact ⟨t,rfl,ht,ht'⟩
theorem X9 {k:Nat} (hk:1000 <= k) {p:List Int} {jc:Int} (hl:0 <= jc /\ jc <= 4):∀ (m j:Nat) (n:Int) (t:Tr),m<j -> m <= 100 -> yh p n -> Mp jc t -> t.len <= 22 ->
  ∃ t' n',KH k j p n jc t.flat (m:Int)=some ((Tr.prog t',()),(p,n',()),()) /\ yh p n' /\ Mp jc t' /\ t'.len <= 22
 | 0,j,n,t,hj,_,hp,ht,htl=>by
  obtain ⟨j',rfl⟩:∃ j',j=j'+1:=⟨j - 1,by omega⟩
  have hfl:=iw t
  rw [aaK,aaJ,Rk (by omega),Rh (by simp only [List.length_cons,List.length_nil];omega)]
  exact ⟨t,n,rfl,hp,ht,htl⟩
 | m+1,j,n,t,hj,hm,hp,ht,htl=>by
  obtain ⟨j',rfl⟩:∃ j',j=j'+1:=⟨j - 1,by omega⟩
  rw [aaK,aaJ,Rj (by omega)]
  have ih:=X9 hk (p:=p) hl m j'
  obtain ⟨a,n1,e1,ha,h1⟩:=oo k (m:=5) hp (by omega)
  rw [e1,Option.bind_some]
  simp only
  cases h0:a==0 with
  | true =>
   obtain ⟨b,n2,e2,h2,hb,hb1,hb2⟩:=UD hk hl h1
   rw [cond_true,e2,Option.bind_some]
   simp only
   obtain ⟨c,n3,e3,hc,h3⟩:=oo k (m:=3) h2 (by omega)
   have hbl:=iw b
   rw [e3,Option.bind_some,Rh (by simp only [List.length_cons,List.length_nil];omega)]
   simp only
   rw [Ua (by omega) (by omega)]
   have hx:jm (8,0,(b.flat.length:Int),1+c)=true:=by simp [jm,yg];omega
   have hwd:wd (8,0,(b.flat.length:Int),1+c)=b.len:=by simp [wd,hbl]
   obtain ⟨t',h5,h6,h7⟩:=FB (k:=k) (p:=p) (jc:=jc) (n:=n3) (t:=t) (u:=.ar (8,0,(b.flat.length:Int),1+c) b .nil) (m:=m) (g3:=fun p2 p3 D5 l_ i=>KH k j' p2 p3 D5 l_ i) (by simp only [Tr.len];omega) htl (by omega) ht ⟨⟨⟨hx,rfl,hwd⟩,fun _=>by omega,hb.ok _ _,trivial⟩,⟨hb.free,trivial⟩,⟨za hb.simple,trivial⟩⟩
   obtain ⟨t2,n',h8,h9,h10,h11⟩:=ih n3 t' (by omega) (by omega) h3 h7 h6
   refine ⟨t2,n',?_,h9,h10,h11⟩
   rw [<- h8,<- h5]
   simp only [Tr.flat,List.append_nil,List.cons_append,List.nil_append]
  | false =>
   rw [cond_false]
   cases h0:a==1 with
   | true =>
    obtain ⟨b,n2,e2,h2,hb,hb1,hb2⟩:=UD hk hl h1
    rw [cond_true,e2,Option.bind_some]
    simp only
    obtain ⟨c,n3,e3,hc,h3⟩:=oo k (m:=3) h2 (by omega)
    have hbl:=iw b
    rw [e3,Option.bind_some,Rh (by simp only [List.length_cons,List.length_nil];omega)]
    simp only
    have hx:jm (7,c,0,(b.flat.length:Int))=true:=by simp [jm,yg,BF];omega
    have hwd:wd (7,c,0,(b.flat.length:Int))=b.len:=by simp [wd,hbl]
    obtain ⟨t',h5,h6,h7⟩:=FB (k:=k) (p:=p) (jc:=jc) (n:=n3) (t:=t) (u:=.ar (7,c,0,(b.flat.length:Int)) b .nil) (m:=m) (g3:=fun p2 p3 D5 l_ i=>KH k j' p2 p3 D5 l_ i) (by simp only [Tr.len];omega) htl (by omega) ht ⟨⟨⟨hx,rfl,hwd⟩,fun _=>by omega,hb.ok _ _,trivial⟩,⟨hb.free,trivial⟩,⟨za hb.simple,trivial⟩⟩
    obtain ⟨t2,n',h8,h9,h10,h11⟩:=ih n3 t' (by omega) (by omega) h3 h7 h6
    refine ⟨t2,n',?_,h9,h10,h11⟩
    rw [<- h8,<- h5]
    simp only [Tr.flat,List.append_nil,List.cons_append,List.nil_append]
   | false =>
    rw [cond_false]
    cases h0:a==2 with
    | true =>
     rw [cond_true]
     obtain ⟨t',h5,h6,h7⟩:=FB (k:=k) (p:=p) (jc:=jc) (n:=n1) (t:=t) (u:=.one (11,0,0,0) .nil) (m:=m) (g3:=fun p2 p3 D5 l_ i=>KH k j' p2 p3 D5 l_ i) (by simp [Tr.len]) htl (by omega) ht ⟨⟨rfl,by simp [plain],fun _=>⟨rfl,rfl⟩,trivial⟩,trivial,⟨fun e=>absurd e (by decide),trivial⟩⟩
     obtain ⟨t2,n',h8,h9,h10,h11⟩:=ih n1 t' (by omega) (by omega) h1 h7 h6
     exact ⟨t2,n',by rw [<- h8,<- h5];rfl,h9,h10,h11⟩
    | false =>
     obtain ⟨b,n2,e2,h2,hb,hb1,hb2⟩:=UD hk hl h1
     rw [cond_false,e2,Option.bind_some]
     simp only
     obtain ⟨t',h5,h6,h7⟩:=FB (k:=k) (p:=p) (jc:=jc) (n:=n2) (t:=t) (u:=b) (m:=m) (g3:=fun p2 p3 D5 l_ i=>KH k j' p2 p3 D5 l_ i) (by omega) htl (by omega) ht ⟨hb.ok _ _,hb.free,za hb.simple⟩
     obtain ⟨t2,n',h8,h9,h10,h11⟩:=ih n2 t' (by omega) (by omega) h2 h7 h6
     exact ⟨t2,n',by rw [<- h8,<- h5],h9,h10,h11⟩
theorem ag4 {k:Nat} (hk:1000 <= k) {p:List Int} {n jc:Int} (hl:0 <= jc /\ jc <= 4) (hp:yh p n):∃ t n',S67 k p n jc=some ((Tr.prog t,()),(p,n',()),()) /\ yh p n' /\ Mp jc t /\ t.len <= 22:=by
 unfold S67
 obtain ⟨a,n1,e1,ha,h1⟩:=oo k (m:=4) hp (by omega)
 rw [e1,Option.bind_some]
 simp only
 rw [Ua (by omega) (by omega)]
 obtain ⟨m,hm⟩:∃ m:Nat,a+1=(m:Int):=⟨(a+1).toNat,by omega⟩
 rw [hm]
 exact X9 hk (p:=p) hl m k n1 .nil (by omega) (by omega) h1 ⟨trivial,trivial,trivial⟩ (by simp [Tr.len])
theorem wf_u8 {n:Int} (h:(Lit.int .u8 n).wf=true):0 <= n /\ n <= 255:=by
 simp [Lit.wf,IntKind.min,IntKind.max,IntKind.signed,IntKind.bits] at h
 omega
theorem Xa {p:List Int} {e:TypeId} (h:Ty.fine (.sl e (.int .u8)) p) (hl:p.length <= 1000):yh p 0 :=
 ⟨⟨hl,by omega,by omega⟩,fun x hx=>wf_u8 (h.2 x hx)⟩
def uj (l:List I4) (c:Int) (n:Nat):Prop:=(l.getD n i0).1=c
abbrev vk (l:List I4) (n:Nat):Int:=(l.getD n i0).2.1
def IB (l:List I4) (c:Int):Nat -> Nat
 | 0=>0
 | n+1=>IB l c n+(if (l.getD n i0).1=c then 1 else 0)
structure PrI (l:List I4) (i:Nat) (out open_:List Int):Prop where
 len:out.length=l.length
 sorted:open_.Pairwise (·<·)
 small:∀ k∈open_,0 <= k /\ k<(i:Int)
 lock:∀ k:Nat,(k:Int)∈open_ -> uj l 9 k
 closed:∀ k,k<i -> uj l 9 k -> (k:Int) ∉ open_ -> ∃ u:Nat,out.getD k 0=(u:Int) /\ k<u /\ u<i /\ uj l 10 u /\ vk l u=vk l k
 dist:∀ k j,k<j -> j<i -> uj l 9 k -> uj l 9 j -> (k:Int)∈open_ -> vk l k≠vk l j
 nest:∀ k j,k<j -> j<i -> uj l 9 k -> uj l 9 j -> (k:Int) ∉ open_ -> (j:Int)<out.getD k 0 -> (j:Int) ∉ open_ /\ out.getD j 0<out.getD k 0 /\ vk l k≠vk l j
 cnt:IB l 9 i=IB l 10 i+open_.length
theorem EK {l:List I4} {i:Nat} {s s':List Int×List Int} (hi:i<l.length) (h:PrI l i s.1 s.2) (hs:jv l i s=some s'):PrI l (i+1) s'.1 s'.2:=by
 unfold jv at hs
 have lt1:∀ k,k<i+1 -> k≠i -> k<i:=fun k h1 h2=>by omega
 have arv:((i:Nat):Int) ∉ s.2:=fun h1=>by have:=h.small _ h1;omega
 split at hs
 ·rename_i h9
  split at hs
  ·cases hs
  ·rename_i hn
   injection hs with hs;subst hs
   have hmem:∀ k:Nat,((k:Int)∈s.2++[(i:Int)])↔((k:Int)∈s.2 \/ k=i):=fun k=>by
    rw [List.mem_append,List.mem_singleton]
    exact ⟨fun h=>h.imp id (fun h=>by omega),fun h=>h.imp id (fun h=>by omega)⟩
   refine ⟨h.len,?_,?_,?_,?_,?_,?_,?_⟩
   ·rw [List.pairwise_append]
    exact ⟨h.sorted,List.pairwise_singleton _ _,fun a ha b hb=>by rw [List.mem_singleton.1 hb];exact (h.small a ha).2⟩
   ·intro k hk
    rcases List.mem_append.1 hk with hk | hk
    ·have:=h.small k hk;omega
    ·rw [List.mem_singleton.1 hk];omega
   ·intro k hk
    rcases (hmem k).1 hk with hk | rfl
    ·exact h.lock k hk
    ·exact h9
   ·intro k hk1 hk2 hk3
    have hk3:=fun e=>hk3 ((hmem k).2 e)
    obtain ⟨u,h1,h2,h3,h4⟩:=h.closed k (lt1 k hk1 (fun e=>hk3 (.inr e))) hk2 (fun e=>hk3 (.inl e))
    exact ⟨u,h1,h2,by omega,h4⟩
   ·intro k j hkj hj h1 h2 h3
    by_cases e:j=i
    ·subst e
     rcases (hmem k).1 h3 with h3 | e
     ·intro e
      apply hn;right
      unfold NQ
      rw [List.any_eq_true]
      exact ⟨(k:Int),h3,by rw [Px,Px];exact beq_iff_eq.2 e⟩
     ·omega
    ·rcases (hmem k).1 h3 with h3 | e2
     ·exact h.dist k j hkj (lt1 j hj e) h1 h2 h3
     ·omega
   ·intro k j hkj hj h1 h2 h3 h4
    have h3':=fun e=>h3 ((hmem k).2 e)
    obtain ⟨u,g1,g2,g3,_⟩:=h.closed k (by omega) h1 (fun e=>h3' (.inl e))
    have h4':(j:Int)<s.1.getD k 0:=h4
    by_cases e:j=i
    ·subst e;omega
    ·obtain ⟨q1,q2⟩:=h.nest k j hkj (lt1 j hj e) h1 h2 (fun e=>h3' (.inl e)) h4
     exact ⟨fun h5=>((hmem j).1 h5).elim q1 e,q2⟩
   ·rw [IB,IB,if_pos h9,if_neg (by rw [h9];decide),h.cnt]
    simp only [List.length_append,List.length_cons,List.length_nil];omega
 ·rename_i h9
  split at hs
  ·rename_i h10
   split at hs
   ·cases hs
   ·rename_i x hx
    split at hs
    ·cases hs
    ·rename_i hn
     injection hs with hs;subst hs
     obtain ⟨r,hr⟩:∃ r,s.2=r++[x]:=by
      rcases List.eq_nil_or_concat s.2 with e | ⟨r,y,e⟩
      ·rw [e] at hx;cases hx
      ·rw [List.concat_eq_append] at e
       rw [e] at hx
       simp at hx
       subst hx
       exact ⟨r,e⟩
     have hxm:=h.small x (by rw [hr];simp)
     obtain ⟨n,rfl⟩:∃ n:Nat,x=(n:Int):=⟨x.toNat,by omega⟩
     have hsort:=h.sorted
     rw [hr,List.pairwise_append] at hsort
     have hdl:s.2.dropLast=r:=by rw [hr];simp
     have hmem:∀ k:Nat,(k:Int)∈s.2↔((k:Int)∈r \/ k=n):=fun k=>by
      rw [hr,List.mem_append,List.mem_singleton]
      exact ⟨fun h=>h.imp id (fun h=>by omega),fun h=>h.imp id (fun h=>by omega)⟩
     have hnr:(n:Int) ∉ r:=fun e=>by have:=hsort.2.2 _ e (n:Int) (by simp);omega
     have hge:∀ k:Nat,(k:Int)∈r -> k<n:=fun k e=>by have:=hsort.2.2 _ e (n:Int) (by simp);omega
     have hln:=h.lock n ((hmem n).2 (.inr rfl))
     have hA:vk l n=vk l i:=by
      by_cases e:vk l n=vk l i
      ·exact e
      ·exact absurd (.inl (by rw [Px];exact e)) hn
     have hget:∀ k:Nat,(s.1.set n (i:Int)).getD k 0=if n=k /\ k<s.1.length then (i:Int) else s.1.getD k 0:=fun k=>oz
     have hlen:=h.len
     have hnl:n<s.1.length:=by omega
     simp only
     rw [hdl,Mf]
     refine ⟨by rw [List.length_set];exact h.len,hsort.1,fun k hk=>by have:=h.small k (by rw [hr];simp [hk]);omega,fun k hk=>h.lock k ((hmem k).2 (.inl hk)),?_,?_,?_,?_⟩
     ·intro k hk1 hk2 hk3
      rw [hget]
      by_cases e:n=k
      ·subst e
       rw [if_pos ⟨rfl,hnl⟩]
       exact ⟨i,rfl,by omega,by omega,h10,hA.symm⟩
      ·rw [if_neg (fun q=>e q.1)]
       have:k≠i:=fun e=>by subst e;exact h9 hk2
       obtain ⟨u,h1,h2,h3,h4⟩:=h.closed k (by omega) hk2 (fun q=>((hmem k).1 q).elim hk3 (fun q=>e q.symm))
       exact ⟨u,h1,h2,by omega,h4⟩
     ·intro k j hkj hj h1 h2 h3
      have:j≠i:=fun e=>by subst e;exact h9 h2
      exact h.dist k j hkj (by omega) h1 h2 ((hmem k).2 (.inl h3))
     ·intro k j hkj hj h1 h2 h3 h4
      have hji:j≠i:=fun e=>by subst e;exact h9 h2
      rw [hget k] at h4
      rw [hget k,hget j]
      by_cases e:n=k
      ·subst e
       rw [if_pos ⟨rfl,hnl⟩] at h4
       rw [if_pos (show n=n /\ n<s.1.length from ⟨rfl,hnl⟩)]
       have hjr:(j:Int) ∉ r:=fun q=>by have:=hge j q;omega
       have hjo:(j:Int) ∉ s.2:=fun q=>((hmem j).1 q).elim hjr (fun q=>by omega)
       obtain ⟨u,g1,g2,g3,_⟩:=h.closed j (by omega) h2 hjo
       rw [if_neg (show ¬ (n=j /\ j<s.1.length) by omega)]
       exact ⟨hjr,by omega,h.dist n j hkj (by omega) h1 h2 ((hmem n).2 (.inr rfl))⟩
      ·rw [if_neg (fun q=>e q.1)] at h4
       rw [if_neg (show ¬ (n=k /\ k<s.1.length) from fun q=>e q.1)]
       have hko:(k:Int) ∉ s.2:=fun q=>((hmem k).1 q).elim h3 (fun q=>e q.symm)
       obtain ⟨q1,q2,q3⟩:=h.nest k j hkj (by omega) h1 h2 hko h4
       have hjn:n≠j:=fun e=>q1 (e ▸ (hmem n).2 (.inr rfl))
       rw [if_neg (show ¬ (n=j /\ j<s.1.length) from fun q=>hjn q.1)]
       exact ⟨fun q=>q1 ((hmem j).2 (.inl q)),q2,q3⟩
     ·rw [IB,IB,if_pos h10,if_neg h9,h.cnt,hr]
      simp only [List.length_append,List.length_cons,List.length_nil];omega
  ·rename_i h10
   injection hs with hs;subst hs
   have ne:∀ j,uj l 9 j -> j≠i:=fun j q e=>by subst e;exact h9 q
   refine ⟨h.len,h.sorted,fun k hk=>by have:=h.small k hk;omega,h.lock,?_,?_,?_,?_⟩
   ·intro k hk1 hk2 hk3
    have:=ne k hk2
    obtain ⟨u,h1,h2,h3,h4⟩:=h.closed k (by omega) hk2 hk3
    exact ⟨u,h1,h2,by omega,h4⟩
   ·intro k j hkj hj h1 h2 h3
    have:=ne j h2
    exact h.dist k j hkj (by omega) h1 h2 h3
   ·intro k j hkj hj h1 h2 h3 h4
    have:=ne j h2
    exact h.nest k j hkj (by omega) h1 h2 h3 h4
   ·rw [IB,IB,if_neg h10,if_neg h9,h.cnt];omega
theorem ag5 {l:List I4}:∀ (m i:Nat) (s s':List Int×List Int),i+m=l.length -> PrI l i s.1 s.2 -> uh l m i s=some s' -> PrI l l.length s'.1 s'.2
 | 0,i,s,s',hm,h,hg=>by
  injection hg with hg;subst hg
  have:i=l.length:=by omega
  subst this;exact h
 | m+1,i,s,s',hm,h,hg=>by
  rw [uh,Option.bind_eq_some_iff] at hg
  obtain ⟨t,h1,h2⟩:=hg
  exact ag5 m (i+1) t s' (by omega) (EK (by omega) h h1) h2
theorem UE {l:List I4} {ps:List Int} (h:OT l=some ps):PrI l l.length ps [] :=
 ag5 _ _ _ _ (by omega) ⟨by simp,List.Pairwise.nil,(fun _ h=>by cases h),(fun _ h=>by cases h),fun _ h=>by omega,fun _ _ _ h=>by omega,fun _ _ _ h=>by omega,rfl⟩ (Uv h)
theorem u64 {n:Int} (h1:0 <= n) (h2:n<18446744073709551616):IntKind.u64.wrap n=n:=by
 unfold IntKind.wrap
 have e1:(2 ^ IntKind.u64.bits:Int)=18446744073709551616:=by decide
 simp only [e1,IntKind.signed,Bool.false_and,Bool.false_eq_true,if_false]
 omega
theorem NU (n:Int):IntKind.u64.wrap n=n % 18446744073709551616:=by
 unfold IntKind.wrap
 have e1:(2 ^ IntKind.u64.bits:Int)=18446744073709551616:=by decide
 simp only [e1,IntKind.signed,Bool.false_and,Bool.false_eq_true,if_false]
def H6 (l:List I4) (j:Int):List dw -> Int -> Int
 | [],acc=>acc
 | p::r,acc=>H6 l j r (bif p.2.2.2&&ou p j then acc * (rd l p.2.2.1 i0).2.2.2 else acc)
theorem LV (l:List I4) (j:Int):∀ (a b:List dw) (acc:Int),H6 l j (a++b) acc=H6 l j b (H6 l j a acc)
 | [],_,_=>rfl
 | p::a,b,acc=>by rw [List.cons_append,H6,H6,LV l j a b]
theorem BG (l:List I4) (j:Int):∀ (a:List dw) (acc:Int),(∀ p∈a,ou p j=false) -> H6 l j a acc=acc
 | [],_,_=>rfl
 | p::a,acc,h=>by rw [H6,h p List.mem_cons_self,Bool.and_false,cond_false,BG l j a acc (fun q hq=>h q (List.mem_cons_of_mem _ hq))]
theorem QL (l:List I4) (j:Int):∀ (a:List dw) (acc:Int),1 <= acc -> (∀ p∈a,p.2.2.2=true -> 1 <= (rd l p.2.2.1 i0).2.2.2 /\ (rd l p.2.2.1 i0).2.2.2 <= 20) -> 1 <= H6 l j a acc /\ H6 l j a acc <= acc * 20 ^ dx j a
 | [],acc,h,_=>by rw [H6];simp [dx];exact h
 | p::a,acc,h,hb=>by
  rw [H6,dx,List.countP_cons,<- dx]
  have ih:=fun acc h=>QL l j a acc h (fun q hq=>hb q (List.mem_cons_of_mem _ hq))
  cases e:(p.2.2.2&&ou p j) with
  | false=>simp only [cond_false,Bool.false_eq_true,if_false,Nat.add_zero];exact ih acc h
  | true =>
   rw [Bool.and_eq_true] at e
   have h1:=hb p List.mem_cons_self e.1
   simp only [cond_true,if_true]
   have h2:1 * 1 <= acc * (rd l p.2.2.1 i0).2.2.2:=Int.mul_le_mul h h1.1 (by omega) (by omega)
   obtain ⟨i1,i2⟩:=ih (acc * (rd l p.2.2.1 i0).2.2.2) (by omega)
   refine ⟨i1,Int.le_trans i2 ?_⟩
   rw [Int.pow_succ,Int.mul_comm (20 ^ dx j a) 20,<- Int.mul_assoc]
   refine Int.mul_le_mul_of_nonneg_right ?_ (Int.pow_nonneg (by omega))
   exact Int.mul_le_mul_of_nonneg_left h1.2 (by omega)
def tms (l:List I4):List Int:=(List.range l.length).map (fun (j:Nat)=>H6 l (j:Int) (ko 0 l) 1)
theorem sw (l:List I4):(tms l).length=l.length:=by simp [tms]
theorem UF {l:List I4} {j:Nat} (h:j<l.length):(tms l).getD j 0=H6 l (j:Int) (ko 0 l) 1:=by
 rw [getD_in (by rw [sw];exact h)];simp [tms]
theorem Xb {l:List I4} {ps:List Int} (g:y5 l ps):∀ p∈ko 0 l,p.2.2.2=true -> 1 <= (rd l p.2.2.1 i0).2.2.2 /\ (rd l p.2.2.1 i0).2.2.2 <= 20:=by
 intro p hp hb
 have:=g.len2
 obtain ⟨n,h1,h2,rfl⟩:=(ny l 0 p g.may (by omega)).1 hp
 have h3:=ac5 (g.may _ (iq (z:=i0) h1)) (eq_of_beq hb)
 have:rd l (p9 (0+n) (l.getD n i0)).2.2.1 i0=l.getD n i0:=by rw [Nat.zero_add];exact Px
 rw [this];exact h3.2.2
theorem FC {l:List I4} {ps:List Int} (g:y5 l ps) {j:Nat} (h:j<l.length):1 <= (tms l).getD j 0 /\ (tms l).getD j 0 <= 400:=by
 rw [UF h]
 have h1:=QL l (j:Int) (ko 0 l) 1 (by omega) (Xb g)
 have h2:=g.bodies j h
 refine ⟨h1.1,Int.le_trans h1.2 ?_⟩
 have:dx (j:Int) (ko 0 l)=0 \/ dx (j:Int) (ko 0 l)=1 \/ dx (j:Int) (ko 0 l)=2:=by omega
 rcases this with e | e | e <;> rw [e] <;> decide
theorem QM {k:Nat} {g4:List I4 -> List Int -> List dw -> Int -> Option ((List Int×Unit)×Unit)} {l:List I4} {ps:List Int} (g:y5 l ps) {i:Nat} (hi:i<l.length):∀ (m n j:Nat) (out:List Int),n+m=(ko 0 l).length -> m<j -> out.length=l.length -> 1 <= out.getD i 0 -> out.getD i 0 * 20 ^ dx i ((ko 0 l).drop n) <= 400 ->
  SS k g4 j l out (ko 0 l) (i:Int) n=g4 l (out.set i (H6 l i ((ko 0 l).drop n) (out.getD i 0))) (ko 0 l) ((i+1:Nat):Int)
 | 0,n,j,out,h,hj,ho,h1,h2=>by
  obtain ⟨j',rfl⟩:∃ j',j=j'+1:=⟨j - 1,by omega⟩
  have:=g.len2
  rw [Vy,SQ,Rk (by omega),drop_nil (by omega),H6,Me (by omega)]
  have:out.set i (out.getD i 0)=out:=by rw [getD_in (by omega)];simp
  rw [this]
 | m+1,n,j,out,h,hj,ho,h1,h2=>by
  obtain ⟨j',rfl⟩:∃ j',j=j'+1:=⟨j - 1,by omega⟩
  have hl2:=g.len2
  have hpl:=BP l 0
  have ih:=QM (k:=k) (g4:=g4) g hi m (n+1) j'
  have hn:n<(ko 0 l).length:=by omega
  have hp:=iq (z:=a0) hn
  have hsh:=y7 g.may (by omega) hp
  have hrp:=Xb g _ hp
  rw [drop_cons a0 hn] at h2 ⊢
  rw [Vy,SQ,Rj (by omega),Pw hn,Px,Me (by omega),H6]
  generalize (ko 0 l).getD n a0=p at hsh hrp h2 ⊢
  rw [dx,List.countP_cons,<- dx] at h2
  cases hb:p.2.2.2 with
  | false =>
   rw [hb] at h2
   simp only [Bool.false_and,Bool.false_eq_true,if_false,Nat.add_zero] at h2
   exact ih out (by omega) (by omega) ho h1 h2
  | true =>
   rw [cond_true,Pw hn,LJ,Option.bind_some,Bool.true_and]
   rw [hb,Bool.true_and] at h2
   cases hh:ou p i with
   | false =>
    rw [hh] at h2
    simp only [Bool.false_eq_true,if_false,Nat.add_zero] at h2
    exact ih out (by omega) (by omega) ho h1 h2
   | true =>
    rw [hh] at h2
    simp only [if_true] at h2
    have hr:=hrp hb
    simp only [cond_true]
    rw [Pw (by omega),Pw hn,Lf (by omega) (by omega),Pw (by omega),Px,Mf]
    have hset:(out.set i (out.getD i 0 * (rd l p.2.2.1 i0).2.2.2)).getD i 0=out.getD i 0 * (rd l p.2.2.1 i0).2.2.2:=by rw [oz,if_pos ⟨rfl,by omega⟩]
    have hge:1 * 1 <= out.getD i 0 * (rd l p.2.2.1 i0).2.2.2:=Int.mul_le_mul h1 hr.1 (by omega) (by omega)
    have hle:out.getD i 0 * (rd l p.2.2.1 i0).2.2.2 * 20 ^ dx i ((ko 0 l).drop (n+1)) <= 400:=by
     refine Int.le_trans ?_ h2
     rw [Int.pow_succ,Int.mul_comm (20 ^ dx (i:Int) ((ko 0 l).drop (n+1))) 20,<- Int.mul_assoc]
     refine Int.mul_le_mul_of_nonneg_right ?_ (Int.pow_nonneg (by omega))
     exact Int.mul_le_mul_of_nonneg_left hr.2 (by omega)
    have hsmall:out.getD i 0 * (rd l p.2.2.1 i0).2.2.2 <= 400:=by
     refine Int.le_trans ?_ hle
     have:(1:Int) <= 20 ^ dx (i:Int) ((ko 0 l).drop (n+1)):=(Int.pow_pos (by omega):(0:Int)<20 ^ dx (i:Int) ((ko 0 l).drop (n+1)))
     have:=Int.mul_le_mul_of_nonneg_left this (show 0 <= out.getD i 0 * (rd l p.2.2.1 i0).2.2.2 by omega)
     omega
    rw [Ua (n:=out.getD i 0 * (rd l p.2.2.1 i0).2.2.2) (by omega) (by omega)]
    have:=ih (out.set i (out.getD i 0 * (rd l p.2.2.1 i0).2.2.2)) (by omega) (by omega) (by rw [List.length_set];exact ho) (by rw [hset];omega) (by rw [hset];exact hle)
    rw [hset,List.set_set] at this
    exact this
theorem aju {k:Nat} (hk:1000 <= k) {l:List I4} {ps:List Int} (g:y5 l ps):ah2 k l=some ((tms l,()),()):=by
 unfold ah2
 have hl2:=g.len2
 have hpl:=BP l 0
 rw [Rf (by omega) (by omega),Uu hk (by omega),Option.bind_some]
 have:=ale (L:=fun j (out:List Int) i=>J4 k j l out (ko 0 l) i) (n:=l.length)
  (fun i out=>out.length=l.length /\ ∀ j,j<i -> out.getD j 0=H6 l (j:Int) (ko 0 l) 1)
  (fun i out=>out.set i (H6 l (i:Int) (ko 0 l) 1)) (fun out=>some ((out,()),()))
  (fun j i out hi hv=>by
   show J4 k (j+1) l out (ko 0 l) (i:Int)=_
   rw [Vz,SV,Rj (by omega),Pw (by omega),Mf]
   have hset:(out.set i 1).getD i 0=1:=by rw [oz,if_pos ⟨rfl,by omega⟩]
   have hb:=g.bodies i hi
   refine (QM g hi (ko 0 l).length 0 k (out.set i 1) (by omega) (by omega) (by rw [List.length_set];exact hv.1) (by rw [hset];omega) (by
    rw [hset,List.drop_zero]
    have:dx (i:Int) (ko 0 l)=0 \/ dx (i:Int) (ko 0 l)=1 \/ dx (i:Int) (ko 0 l)=2:=by omega
    rcases this with e | e | e <;> rw [e] <;> decide)).trans ?_
   rw [hset,List.set_set,List.drop_zero])
  (fun i out hi hv=>by
   refine ⟨by rw [List.length_set];exact hv.1,fun j hj=>?_⟩
   rw [oz]
   by_cases e:i=j
   ·subst e;rw [if_pos ⟨rfl,by omega⟩]
   ·rw [if_neg (fun h=>e h.1)];exact hv.2 j (by omega))
  (fun j out hv=>by
   show J4 k (j+1) l out (ko 0 l) (l.length:Int)=_
   rw [Vz,SV,Rk (by omega)])
  l.length 0 k (List.replicate l.length 0) (by omega) (by omega) ⟨by simp,fun j hj=>by omega⟩
 refine Eq.trans this ?_
 have hv:=abZ (inv:=fun i (out:List Int)=>out.length=l.length /\ ∀ j,j<i -> out.getD j 0=H6 l (j:Int) (ko 0 l) 1) (f:=fun i out=>out.set i (H6 l (i:Int) (ko 0 l) 1)) (n:=l.length) (fun i out hi hv=>by
   refine ⟨by rw [List.length_set];exact hv.1,fun j hj=>?_⟩
   rw [oz]
   by_cases e:i=j
   ·subst e;rw [if_pos ⟨rfl,by have:=hv.1;omega⟩]
   ·rw [if_neg (fun h=>e h.1)];exact hv.2 j (by omega)) l.length 0 (List.replicate l.length 0) (by omega) ⟨by simp,fun j hj=>by omega⟩
 have:goF (fun i (out:List Int)=>out.set i (H6 l (i:Int) (ko 0 l) 1)) l.length 0 (List.replicate l.length 0)=tms l:=by
  apply List.ext_getElem (by rw [hv.1,sw])
  intro n h1 h2
  rw [<- getD_in (z:=0) h1,<- getD_in (z:=0) h2,UF (by rw [sw] at h2;exact h2),hv.2 n (by rw [sw] at h2;exact h2)]
 rw [this]
def sm:List Int -> Int
 | []=>0
 | x::r=>x+sm r
theorem GQ:∀ a b:List Int,sm (a++b)=sm a+sm b
 | [],b=>by simp [sm]
 | x::a,b=>by rw [List.cons_append,sm,sm,GQ a b];omega
theorem Xc {c:Int}:∀ (a:List Int),(∀ x∈a,0 <= x /\ x <= c) -> 0 <= sm a /\ sm a <= a.length * c
 | [],_=>by simp [sm]
 | x::a,h=>by
  have h1:=h x List.mem_cons_self
  have h2:=Xc a (fun y hy=>h y (List.mem_cons_of_mem _ hy))
  rw [sm,List.length_cons]
  refine ⟨by omega,?_⟩
  have:((a.length+1:Nat):Int) * c=(a.length:Int) * c+c:=by rw [show ((a.length+1:Nat):Int)=(a.length:Int)+1 by omega,Int.add_mul,Int.one_mul]
  omega
theorem QN:∀ (a:List Int),(∀ x∈a,0 <= x) -> 0 <= sm a
 | [],_=>by simp [sm]
 | x::a,h=>by
  have h1:=h x List.mem_cons_self
  have h2:=QN a (fun y hy=>h y (List.mem_cons_of_mem _ hy))
  rw [sm];omega
def cg (l:List I4) (ts ps:List Int):Nat -> Nat -> Int -> List (Int×Int) -> Int -> Int×List (Int×Int)
 | 0,_,c1,c2,_=>(c1,c2)
 | m+1,i,c1,c2,p =>
  if (l.getD i i0).1=11 \/ (l.getD i i0).1=0 then cg l ts ps m (i+1) (max c1 (p+ts.getD i 0)) c2 0
  else if (l.getD i i0).1=9 then cg l ts ps m (i+1) c1 (c2++[((l.getD i i0).2.1,Int.tdiv (sm (sub ts ((i+1:Nat):Int) (ps.getD i 0+1))) (ts.getD i 0))]) (p+ts.getD i 0)
  else cg l ts ps m (i+1) c1 c2 (p+ts.getD i 0)
def Xd (l:List I4) (ps:List Int):Int×Int×List (Int×Int):=(sm (tms l),cg l (tms l) ps l.length 0 0 [] 0)
theorem ag6 {xs:List Int} {f i:Nat} (hf:f <= i) (hi:i<xs.length):sub xs (f:Int) ((i+1:Nat):Int)=sub xs (f:Int) (i:Int)++[xs.getD i 0]:=by
 simp only [sub,Int.toNat_natCast]
 have:xs.take (i+1)=xs.take i++[xs.getD i 0]:=by rw [List.take_add_one,getD_in hi,List.getElem?_eq_getElem hi];rfl
 rw [this,List.drop_append_of_le_length (by rw [List.length_take];omega)]
theorem ajv {xs:List Int} {a b:Int} {x:Int} (h:x∈sub xs a b):x∈xs:=List.mem_of_mem_take (List.mem_of_mem_drop h)
theorem ajw {xs:List Int} {a b:Int}:(sub xs a b).length <= xs.length:=by
 simp only [sub,List.length_drop,List.length_take];omega
theorem acd {l:List I4} {ps:List Int} (g:y5 l ps):∀ x∈tms l,1 <= x /\ x <= 400:=fun x hx=>by
 obtain ⟨j,hj,rfl⟩:=BD 0 hx
 exact FC g (by rw [sw] at hj;exact hj)
theorem NV {l:List I4} {ps:List Int} (g:y5 l ps) (a b:Int):0 <= sm (sub (tms l) a b) /\ sm (sub (tms l) a b) <= 9600:=by
 have:=Xc (c:=400) (sub (tms l) a b) (fun x hx=>by have:=acd g x (ajv hx);omega)
 have h2:(sub (tms l) a b).length <= l.length:=by rw [<- sw l];exact ajw
 have h3:=g.len2
 refine ⟨this.1,?_⟩
 have h4:((sub (tms l) a b).length:Int) * 400 <= 24 * 400:=Int.mul_le_mul_of_nonneg_right (by omega) (by omega)
 omega
theorem ajx {l:List I4} {ps:List Int} (g:y5 l ps) {i:Nat} (hi:i<l.length) (h9:(l.getD i i0).1=9):∃ u:Nat,ps.getD i 0=(u:Int) /\ i<u /\ u<l.length:=by
 obtain ⟨u,h1,h2,h3,_⟩:=(UE g.pairs).closed i hi h9 (by simp)
 exact ⟨u,h1,h2,h3⟩
theorem UG (l:List Int):sub l ((0:Nat):Int) (l.length:Int)=l:=by simp [sub]
def alh (l:List I4) (c:Option (Int×Int×List (Int×Int))):Option (((Int×Int×List (Int×Int))×Bool×Unit)×Unit):=match c with | some c=>some ((c,true,()),()) | none=>some (((0,0,[]),false,()),())
noncomputable def ze (l:List I4):Option (Int×Int×List (Int×Int)):=if qw l=true then some (Xd l ((OT l).getD [])) else none
theorem EL {l:List I4} {ps:List Int} (g:y5 l ps):ze l=some (Xd l ps):=by
 unfold ze;rw [if_pos (uy.2 ⟨ps,g⟩),g.pairs];rfl
theorem QO {k:Nat} {g8:List I4 -> Int -> Int -> Int -> Int -> List (Int×Int) -> List Int -> List Int -> Int -> Int -> Option (((Int×Int×List (Int×Int))×Bool×Unit)×Unit)} {l:List I4} {ps:List Int} (g:y5 l ps) {y1 y2 c c1 p:Int} {c2:List (Int×Int)} {i u:Nat} (hu:ps.getD i 0=(u:Int)) (hiu:i<u) (hul:u<l.length) (hc:c2.length <= 900):∀ (m n j:Nat) (s:Int),n+m=u+1 -> m<j -> i<n -> s=sm (sub (tms l) ((i+1:Nat):Int) (n:Int)) ->
  SY k g8 j l y1 y2 c c1 c2 (tms l) ps p (i:Int) s (n:Int)=g8 l y1 y2 c c1 (c2++[((l.getD i i0).2.1,Int.tdiv (sm (sub (tms l) ((i+1:Nat):Int) ((u:Int)+1))) ((tms l).getD i 0))]) (tms l) ps p ((i+1:Nat):Int)
 | 0,n,j,s,h,hj,hin,hs=>by
  obtain ⟨j',rfl⟩:∃ j',j=j'+1:=⟨j - 1,by omega⟩
  have hl2:=g.len2
  have hpl:=BQ g.pairs
  have htl:=sw l
  have ht:=FC g (j:=i) (by omega)
  have hsb:=NV g ((i+1:Nat):Int) ((u+1:Nat):Int)
  have hd:0 <= Int.tdiv (sm (sub (tms l) ((i+1:Nat):Int) ((u+1:Nat):Int))) ((tms l).getD i 0) /\ Int.tdiv (sm (sub (tms l) ((i+1:Nat):Int) ((u+1:Nat):Int))) ((tms l).getD i 0) <= 9600:=by
   rw [Int.tdiv_eq_ediv_of_nonneg hsb.1]
   exact ⟨Int.ediv_nonneg hsb.1 (by omega),Int.le_trans (Int.ediv_le_self _ hsb.1) hsb.2⟩
  have hnu:n=u+1:=by omega
  subst hnu
  rw [VA,SX,Pw (by omega),Px,hu,Rk (by omega),Pw (by omega),Pw (by omega),Px,Ri (by omega),hs,Rh (by simp only [List.length_cons,List.length_nil];omega),Ua (by omega) (by omega),Me (by omega),Px]
  rfl
 | m+1,n,j,s,h,hj,hin,hs=>by
  obtain ⟨j',rfl⟩:∃ j',j=j'+1:=⟨j - 1,by omega⟩
  have hl2:=g.len2
  have hpl:=BQ g.pairs
  have htl:=sw l
  have ht:=FC g (j:=n) (by omega)
  have hsb:=NV g ((i+1:Nat):Int) (n:Int)
  rw [VA,SX,Pw (by omega),Px,hu,Rj (by omega),Pw (by omega),Px,Me (by omega),Ua (by omega) (by omega)]
  refine QO g hu hiu hul hc m (n+1) j' _ (by omega) (by omega) (by omega) ?_
  rw [ag6 (by omega) (by omega),GQ,<- hs,sm,sm];omega
theorem Xe {k:Nat} (hk:1000 <= k) {l:List I4} {ps:List Int} (g:y5 l ps) {y1 y2:Int}:∀ (m i j:Nat) (c c1 p:Int) (c2:List (Int×Int)),i+m=l.length -> m<j -> c2.length <= i -> 0 <= c -> c+sm ((tms l).drop i) <= 1000000 -> 0 <= p -> p+sm ((tms l).drop i) <= 1000000 ->
  VB k j l y1 y2 c c1 c2 (tms l) ps p (i:Int)=some (((c+sm ((tms l).drop i),cg l (tms l) ps m i c1 c2 p),true,()),())
 | 0,i,j,c,c1,p,c2,h,hj,hc,_,_,_,_=>by
  obtain ⟨j',rfl⟩:∃ j',j=j'+1:=⟨j - 1,by omega⟩
  have htl:=sw l
  rw [Zd,Zc,Rk (by omega),cg,drop_nil (by omega),sm,Int.add_zero]
 | m+1,i,j,c,c1,p,c2,h,hj,hc,b1,b2,b3,b4=>by
  obtain ⟨j',rfl⟩:∃ j',j=j'+1:=⟨j - 1,by omega⟩
  have hl2:=g.len2
  have htl:=sw l
  have hpl:=BQ g.pairs
  have hi:i<l.length:=by omega
  have ht:=FC g hi
  have ih:=Xe hk g (y1:=y1) (y2:=y2) m (i+1) j'
  have hr:=QN ((tms l).drop (i+1)) (fun x hx=>by have:=acd g x (List.mem_of_mem_drop hx);omega)
  rw [drop_cons 0 (show i<(tms l).length by omega),sm] at b2 b4
  rw [Zd,Zc,Rj (by omega),Pw (by omega),Pw (by omega),Pw hi,Px,Pw hi,Px,Ua (by omega) (by omega),Ua (by omega) (by omega),cg,drop_cons 0 (show i<(tms l).length by omega),sm,Rm]
  unfold M9
  rw [Pw hi,Pw hi,Px,Me (by omega)]
  have fin:∀ (c1' p':Int) (c2':List (Int×Int)),c2'.length <= i+1 -> 0 <= p' -> p'+sm ((tms l).drop (i+1)) <= 1000000 -> VB k j' l y1 y2 (c+(tms l).getD i 0) c1' c2' (tms l) ps p' ((i+1:Nat):Int)=some (((c+((tms l).getD i 0+sm ((tms l).drop (i+1))),cg l (tms l) ps m (i+1) c1' c2' p'),true,()),()):=fun c1' p' c2' h1 h2 h3=>by
   rw [ih _ _ _ _ (by omega) (by omega) h1 (by omega) (by omega) h2 h3]
   congr 4;omega
  cases h11:(l.getD i i0).1==11 with
  | true =>
   have e:=eq_of_beq h11
   rw [cond_true,if_pos (.inl e),show ((l.getD i i0).1==9)=false by rw [e];rfl,cond_false]
   exact fin _ _ _ (by omega) (by omega) (by omega)
  | false =>
   rw [cond_false]
   have e11:(l.getD i i0).1≠11:=by intro e;rw [e] at h11;cases h11
   cases h00:(l.getD i i0).1==0 with
   | true =>
    have e:=eq_of_beq h00
    rw [cond_true,if_pos (.inr e),show ((l.getD i i0).1==9)=false by rw [e];rfl,cond_false]
    exact fin _ _ _ (by omega) (by omega) (by omega)
   | false =>
    rw [cond_false]
    have e00:(l.getD i i0).1≠0:=by intro e;rw [e] at h00;cases h00
    rw [if_neg (by rintro (h | h);exact e11 h;exact e00 h)]
    cases h9:(l.getD i i0).1==9 with
    | true =>
     have e:=eq_of_beq h9
     obtain ⟨u,h1,h2,h3⟩:=ajx g hi e
     rw [if_pos e,cond_true,h1]
     refine (QO g h1 h2 h3 (by omega) (u - i) (i+1) k 0 (by omega) (by omega) (by omega) (by simp [sub,sm])).trans ?_
     exact fin _ _ _ (by simp only [List.length_append,List.length_cons,List.length_nil];omega) (by omega) (by omega)
    | false =>
     have e9:(l.getD i i0).1≠9:=by intro e;rw [e] at h9;cases h9
     rw [cond_false,if_neg e9]
     exact fin _ _ _ (by omega) (by omega) (by omega)
theorem NW {k:Nat} (hk:1000 <= k) {l:List I4} (hl:l.length <= 900):S70 k l=alh l (ze l):=by
 unfold S70
 rw [ajr hk hl,Option.bind_some,ajs]
 cases hm:qw l with
 | false =>
  have:ze l=none:=by unfold ze;rw [hm];rfl
  rw [this];rfl
 | true =>
  obtain ⟨ps,g⟩:=uy.1 hm
  have hl2:=g.len2
  simp only [Bool.not_true,cond_false]
  rw [aju hk g,Option.bind_some,ab5 hk hl,g.pairs]
  simp only [ab3,Option.bind_some]
  rw [EL g]
  have hs:=NV g ((0:Nat):Int) ((tms l).length:Int)
  rw [UG] at hs
  have:=Xe hk g (y1:=0) (y2:=0) l.length 0 k 0 0 0 [] (by omega) (by omega) (by simp) (by omega) (by rw [List.drop_zero];omega) (by omega) (by rw [List.drop_zero];omega)
  rw [Int.zero_add,List.drop_zero] at this
  exact this
theorem UH {l:List I4} {ts ps:List Int}:∀ (m i:Nat) (c1 p:Int) (c2:List (Int×Int)),(cg l ts ps m i c1 c2 p).2.length <= c2.length+m
 | 0,_,_,_,c2=>by simp [cg]
 | m+1,i,c1,p,c2=>by
  rw [cg]
  split
  ·have:=UH (l:=l) (ts:=ts) (ps:=ps) m (i+1) (max c1 (p+ts.getD i 0)) 0 c2;omega
  ·split
   ·have:=UH (l:=l) (ts:=ts) (ps:=ps) m (i+1) c1 (p+ts.getD i 0) (c2++[((l.getD i i0).2.1,Int.tdiv (sm (sub ts ((i+1:Nat):Int) (ps.getD i 0+1))) (ts.getD i 0))])
    simp only [List.length_append,List.length_cons,List.length_nil] at this;omega
   ·have:=UH (l:=l) (ts:=ts) (ps:=ps) m (i+1) c1 (p+ts.getD i 0) c2;omega
theorem Yp {l:List I4} {c:Int×Int×List (Int×Int)} (h:ze l=some c):c.2.2.length <= 24:=by
 unfold ze at h
 split at h
 ·rename_i hm
  injection h with h;subst h
  obtain ⟨ps,g⟩:=uy.1 hm
  have h1:=g.len2
  have h2:=UH (l:=l) (ts:=tms l) (ps:=(OT l).getD []) l.length 0 0 0 []
  simp only [Xd]
  simp only [List.length_nil] at h2
  omega
 ·cases h
def zo (x:I4):Int:=if x.1=8 then x.2.2.2 else 1
theorem FD {x:I4} (h:jm x=true):1 <= zo x /\ zo x <= 20:=by
 unfold zo
 split
 ·rename_i e;exact (ac5 h e).2.2
 ·omega
namespace Tr
def cost:Tr -> Int
 | .nil=>0
 | .one _ r=>1+cost r
 | .lk _ b r=>2+cost b+cost r
 | .ar x b r=>1+zo x * cost b+cost r
def ts:Int -> Tr -> List Int
 | _,.nil=>[]
 | M,.one _ r=>M::ts M r
 | M,.lk _ b r=>M::(ts M b++(M::ts M r))
 | M,.ar x b r=>M::(ts (M * zo x) b++ts M r)
def spans:Tr -> List (Int×Int)
 | .nil=>[]
 | .one _ r=>spans r
 | .lk a b r=>(a,cost b+1)::(spans b++spans r)
 | .ar _ b r=>spans b++spans r
def piece:Int -> Tr -> Int×Int -> Int×Int
 | _,.nil,s=>s
 | M,.one x r,s=>piece M r (if x.1=11 then (max s.1 (s.2+M),0) else (s.1,s.2+M))
 | M,.lk _ b r,s=>piece M r ((piece M b (s.1,s.2+M)).1,(piece M b (s.1,s.2+M)).2+M)
 | M,.ar x b r,s=>piece M r (piece (M * zo x) b (s.1,s.2+M))
end Tr
theorem qb:∀ (t:Tr) (M:Int),(t.ts M).length=t.len
 | .nil,_=>rfl
 | .one _ r,M=>by simp only [Tr.ts,Tr.len,List.length_cons,qb r]
 | .lk _ b r,M=>by simp only [Tr.ts,Tr.len,List.length_cons,List.length_append,qb b,qb r];omega
 | .ar _ b r,M=>by simp only [Tr.ts,Tr.len,List.length_cons,List.length_append,qb b,qb r]
theorem EM:∀ (t:Tr) (M:Int),sm (t.ts M)=M * t.cost
 | .nil,M=>by simp [Tr.ts,Tr.cost,sm]
 | .one _ r,M=>by simp only [Tr.ts,Tr.cost,sm,EM r M];grind
 | .lk _ b r,M=>by simp only [Tr.ts,Tr.cost,sm,GQ,EM b M,EM r M];grind
 | .ar x b r,M=>by simp only [Tr.ts,Tr.cost,sm,GQ,EM b,EM r M];grind
theorem jo:∀ {t:Tr} {d:Nat} {hs:List Int} {ia:Bool},Ok d hs ia t -> 0 <= t.cost
 | .nil,_,_,_,_=>by simp [Tr.cost]
 | .one x r,_,_,_,⟨_,_,_,h4⟩=>by have:=jo h4;simp only [Tr.cost];omega
 | .lk a b r,_,_,_,⟨_,_,h3,h4⟩=>by have:=jo h3;have:=jo h4;simp only [Tr.cost];omega
 | .ar x b r,_,_,_,⟨h1,_,h3,h4⟩=>by
  have h5:=jo h3;have:=jo h4
  have:=Int.mul_nonneg (show 0 <= zo x by have:=FD h1.1;omega) h5
  simp only [Tr.cost];omega
theorem CJ:∀ {t:Tr} {d:Nat} {hs:List Int} {ia:Bool} {l:List I4} {o:Nat} (M:Int),Ok d hs ia t -> At l o t.flat -> o+t.len <= 9000 -> ∀ j,j<t.len -> H6 l ((o+j:Nat):Int) (ko o t.flat) M=(t.ts M).getD j 0
 | .nil,_,_,_,_,_,_,_,_,_,j,hj=>by simp only [Tr.len] at hj;omega
 | .one x r,_,_,_,l,o,M,⟨h1,h2,_,h4⟩,ha,ho,j,hj=>by
  simp only [Tr.len] at hj ho
  obtain ⟨a1,a2,a3⟩:=l5 ha
  rw [LP h1 h2 (by omega),Tr.ts]
  cases j with
  | zero =>
   rw [List.getD_cons_zero,BG]
   intro p hp
   have:=pq h4 (by omega) p hp
   rw [<- Bool.not_eq_true,o7];omega
  | succ j =>
   rw [List.getD_cons_succ,<- CJ M h4 a3 (by omega) j (by omega)]
   congr 2;omega
 | .lk a b r,_,_,_,l,o,M,⟨h1,_,h3,h4⟩,ha,ho,j,hj=>by
  simp only [Tr.len] at hj ho
  obtain ⟨a1,a2,a3⟩:=l5 ha
  obtain ⟨a4,a5⟩:=y9 a3
  obtain ⟨a6,a7,a8⟩:=l5 a5
  rw [iw] at a6 a7 a8
  rw [show o+1+b.len+1=o+b.len+2 by omega] at a8
  have nb:∀ k:Nat,k <= o \/ o+b.len+1 <= k -> ∀ M',H6 l (k:Int) (ko (o+1) b.flat) M'=M':=fun k hk M'=>BG l _ _ _ (fun p hp=>by
   have:=pq h3 (by omega) p hp
   rw [<- Bool.not_eq_true,o7];omega)
  have nr:∀ k:Nat,k <= o+b.len+2 -> ∀ M',H6 l (k:Int) (ko (o+b.len+2) r.flat) M'=M':=fun k hk M'=>BG l _ _ _ (fun p hp=>by
   have:=pq h4 (by omega) p hp
   rw [<- Bool.not_eq_true,o7];omega)
  rw [Uy h1 (by omega),LV,Tr.ts]
  cases j with
  | zero=>rw [List.getD_cons_zero,nb _ (by omega),nr _ (by omega)]
  | succ j =>
   rw [List.getD_cons_succ]
   by_cases e:j<b.len
   ·rw [mo (by rw [qb];exact e),nr _ (by omega),<- CJ M h3 a4 (by omega) j e]
    congr 2;omega
   ·rw [jq (by rw [qb];omega),qb,nb _ (by omega)]
    by_cases e2:j=b.len
    ·subst e2;rw [Nat.sub_self,List.getD_cons_zero,nr _ (by omega)]
    ·obtain ⟨n,hn⟩:∃ n,j - b.len=n+1:=⟨j - b.len - 1,by omega⟩
     rw [hn,List.getD_cons_succ,<- CJ M h4 a8 (by omega) n (by omega)]
     congr 2;omega
 | .ar x b r,_,_,_,l,o,M,⟨⟨h1,h2,h3⟩,_,h5,h6⟩,ha,ho,j,hj=>by
  simp only [Tr.len] at hj ho
  obtain ⟨a1,a2,a3⟩:=l5 ha
  obtain ⟨a4,a5⟩:=y9 a3
  rw [iw,show o+1+b.len=o+b.len+1 by omega] at a5
  have nb:∀ k:Nat,k <= o \/ o+b.len+1 <= k -> ∀ M',H6 l (k:Int) (ko (o+1) b.flat) M'=M':=fun k hk M'=>BG l _ _ _ (fun p hp=>by
   have:=pq h5 (by omega) p hp
   rw [<- Bool.not_eq_true,o7];omega)
  have nr:∀ k:Nat,k <= o+b.len+1 -> ∀ M',H6 l (k:Int) (ko (o+b.len+1) r.flat) M'=M':=fun k hk M'=>BG l _ _ _ (fun p hp=>by
   have:=pq h6 (by omega) p hp
   rw [<- Bool.not_eq_true,o7];omega)
  have hd:∀ k:Nat,H6 l (k:Int) [p9 o x] M=if o<k /\ k <= o+b.len then M * zo x else M:=fun k=>by
   rw [H6,H6]
   have e4:(p9 o x).2.2.1=(o:Int):=rfl
   have e5:(p9 o x).2.2.2=(x.1==8):=rfl
   rw [e4,Px,a2,e5]
   unfold zo
   by_cases h8:x.1=8
   ·rw [if_pos h8,show (x.1==8)=true by rw [h8];rfl,Bool.true_and]
    by_cases e:o<k /\ k <= o+b.len
    ·rw [if_pos e,show ou (p9 o x) (k:Int)=true by rw [o7];simp only [p9];omega];rfl
    ·rw [if_neg e,show ou (p9 o x) (k:Int)=false by rw [<- Bool.not_eq_true,o7];simp only [p9];omega];rfl
   ·rw [if_neg h8,show (x.1==8)=false by simpa using h8,Bool.false_and,Int.mul_one];simp
  rw [Uz h1 h2 (by omega),show ∀ a:dw,∀ l,a::l=[a]++l from fun _ _=>rfl,LV,LV,hd,Tr.ts]
  cases j with
  | zero=>rw [List.getD_cons_zero,if_neg (by omega),nb _ (by omega),nr _ (by omega)]
  | succ j =>
   rw [List.getD_cons_succ]
   by_cases e:j<b.len
   ·rw [mo (by rw [qb];exact e),if_pos (by omega),nr _ (by omega),<- CJ _ h5 a4 (by omega) j e]
    congr 2;omega
   ·rw [jq (by rw [qb];omega),qb,if_neg (by omega),nb _ (by omega),<- CJ M h6 a5 (by omega) (j - b.len) (by omega)]
    congr 2;omega
theorem Xf {t:Tr} (h:Ok 0 [] false t) (hl:t.len<24):tms t.prog=t.ts 1++[1]:=by
 have hpl:=xk t
 apply List.ext_getElem (by rw [sw,List.length_append,qb];simp;omega)
 intro n h1 h2
 rw [sw] at h1
 rw [<- getD_in (z:=0) (by rw [sw];exact h1),<- getD_in (z:=0) h2,UF h1,X7 (by omega)]
 by_cases e:n<t.len
 ·rw [mo (by rw [qb];exact e),<- CJ (o:=0) 1 h (F8 t) (by omega) n e,Nat.zero_add]
 ·have:n=t.len:=by omega
  subst this
  rw [jq (by rw [qb];omega),qb,Nat.sub_self]
  exact BG _ _ _ _ (fun p hp=>by
   have:=pq (o:=0) h (by omega) p hp
   rw [<- Bool.not_eq_true,o7];omega)
def UJ (ps:List Int):Tr -> Nat -> Prop
 | .nil,_=>True
 | .one _ r,o=>UJ ps r (o+1)
 | .lk _ b r,o=>ps.getD o 0=((o+b.len+1:Nat):Int) /\ UJ ps b (o+1) /\ UJ ps r (o+b.len+2)
 | .ar _ b r,o=>UJ ps b (o+1) /\ UJ ps r (o+b.len+1)
theorem u6 {ps qs:List Int}:∀ (t:Tr) (o:Nat),(∀ k,o <= k -> k<o+t.len -> ps.getD k 0=qs.getD k 0) -> UJ ps t o -> UJ qs t o
 | .nil,_,_,_=>trivial
 | .one _ r,o,h,hp=>u6 r (o+1) (fun k h1 h2=>h k (by omega) (by simp only [Tr.len];omega)) hp
 | .lk _ b r,o,h,⟨h1,h2,h3⟩=>⟨by rw [<- h o (by omega) (by simp only [Tr.len];omega)];exact h1,u6 b (o+1) (fun k g1 g2=>h k (by omega) (by simp only [Tr.len];omega)) h2,u6 r (o+b.len+2) (fun k g1 g2=>h k (by omega) (by simp only [Tr.len];omega)) h3⟩
 | .ar _ b r,o,h,⟨h2,h3⟩=>⟨u6 b (o+1) (fun k g1 g2=>h k (by omega) (by simp only [Tr.len];omega)) h2,u6 r (o+b.len+1) (fun k g1 g2=>h k (by omega) (by simp only [Tr.len];omega)) h3⟩
theorem CK:∀ (t:Tr) (o:Nat) (out:List Int),o+t.len <= out.length -> UJ (DW t o out) t o
 | .nil,_,_,_=>trivial
 | .one _ r,o,out,h=>CK r (o+1) out (by simp only [Tr.len] at h;omega)
 | .lk a b r,o,out,h=>by
  simp only [Tr.len] at h
  rw [DW]
  have hb:=D6 b (o+1) out
  refine ⟨?_,?_,CK r _ _ (by rw [List.length_set];omega)⟩
  ·rw [xg r _ _ o (by omega),oz,if_pos ⟨rfl,by omega⟩]
  ·refine u6 b (o+1) (fun k h1 h2=>?_) (CK b (o+1) out (by omega))
   rw [xg r _ _ k (by omega),oz,if_neg (by omega)]
 | .ar x b r,o,out,h=>by
  simp only [Tr.len] at h
  rw [DW]
  have hb:=D6 b (o+1) out
  refine ⟨?_,CK r _ _ (by omega)⟩
  refine u6 b (o+1) (fun k h1 h2=>?_) (CK b (o+1) out (by omega))
  rw [xg r _ _ k (by omega)]
def AtI (l:List Int) (o:Nat) (w:List Int):Prop:=o+w.length <= l.length /\ ∀ j,j<w.length -> l.getD (o+j) 0=w.getD j 0
theorem IC {l:List Int} {o:Nat} {x:Int} {w:List Int} (h:AtI l o (x::w)):o<l.length /\ l.getD o 0=x /\ AtI l (o+1) w:=by
 obtain ⟨h1,h2⟩:=h
 simp only [List.length_cons] at h1 h2
 refine ⟨by omega,by simpa using h2 0 (by omega),by omega,fun j hj=>?_⟩
 have:=h2 (j+1) (by omega)
 rw [List.getD_cons_succ] at this
 rw [<- this];congr 1;omega
theorem ace {l:List Int} {o:Nat} {u w:List Int} (h:AtI l o (u++w)):AtI l o u /\ AtI l (o+u.length) w:=by
 obtain ⟨h1,h2⟩:=h
 simp only [List.length_append] at h1 h2
 refine ⟨⟨by omega,fun j hj=>?_⟩,by omega,fun j hj=>?_⟩
 ·rw [h2 j (by omega),mo hj]
 ·rw [show o+u.length+j=o+(u.length+j) by omega,h2 _ (by omega),jq (by omega)]
  congr 1;omega
theorem ajz {l w:List Int} {o:Nat} (h:AtI l o w):sub l (o:Int) ((o+w.length:Nat):Int)=w:=by
 obtain ⟨h1,h2⟩:=h
 simp only [sub,Int.toNat_natCast]
 apply List.ext_getElem (by rw [List.length_drop,List.length_take];omega)
 intro n g1 g2
 rw [List.getElem_drop,List.getElem_take]
 have:=h2 n g2
 rw [getD_in (by omega),getD_in g2] at this
 exact this
theorem D9:∀ {t:Tr} {d:Nat} {hs:List Int} {ia:Bool} {l:List I4} {ts ps:List Int} {o:Nat} {M:Int} (m:Nat) (c1 p:Int) (c2:List (Int×Int)),Ok d hs ia t -> At l o t.flat -> AtI ts o (t.ts M) -> UJ ps t o -> 1 <= M ->
  cg l ts ps (t.len+m) o c1 c2 p=cg l ts ps m (o+t.len) (t.piece M (c1,p)).1 (c2++t.spans) (t.piece M (c1,p)).2
 | .nil,_,_,_,_,_,_,_,_,m,c1,p,c2,_,_,_,_,_=>by simp only [Tr.len,Nat.zero_add,Nat.add_zero,Tr.piece,Tr.spans,List.append_nil]
 | .one x r,_,_,_,l,ts,ps,o,M,m,c1,p,c2,⟨h1,h2,_,h4⟩,ha,ht,hp,hM=>by
  simp only [Tr.len,Tr.ts] at ht ⊢
  obtain ⟨a1,a2,a3⟩:=l5 ha
  obtain ⟨t1,t2,t3⟩:=IC ht
  rw [show r.len+1+m=(r.len+m)+1 by omega,cg,a2,t2,Tr.spans,Tr.piece]
  by_cases e:x.1=11
  ·rw [if_pos (.inl e),if_pos e,D9 m _ _ _ h4 a3 t3 hp hM]
   congr 1;omega
  ·rw [if_neg (by rintro (q | q);exact e q;exact h2.1 q),if_neg h2.2.2.2.1,if_neg e,D9 m _ _ _ h4 a3 t3 hp hM]
   congr 1;omega
 | .lk a b r,_,_,_,l,ts,ps,o,M,m,c1,p,c2,⟨h1,_,h3,h4⟩,ha,ht,⟨p1,p2,p3⟩,hM=>by
  simp only [Tr.len,Tr.ts] at ht ⊢
  obtain ⟨a1,a2,a3⟩:=l5 ha
  obtain ⟨a4,a5⟩:=y9 a3
  obtain ⟨a6,a7,a8⟩:=l5 a5
  obtain ⟨t1,t2,t3⟩:=IC ht
  obtain ⟨t4,t5⟩:=ace t3
  obtain ⟨t6,t7,t8⟩:=IC t5
  rw [iw] at a6 a7 a8
  rw [qb] at t6 t7 t8
  have hsub:sub ts ((o+1:Nat):Int) (ps.getD o 0+1)=b.ts M++[M]:=by
   have:AtI ts (o+1) (b.ts M++[M]):=by
    obtain ⟨q1,q2⟩:=t3
    refine ⟨by simp only [List.length_append,List.length_cons,List.length_nil] at q1 ⊢;omega,fun j hj=>?_⟩
    simp only [List.length_append,List.length_cons,List.length_nil] at hj
    rw [q2 j (by simp only [List.length_append,List.length_cons];omega)]
    by_cases e:j<(b.ts M).length
    ·rw [mo e,mo e]
    ·rw [jq (by omega),jq (by omega),show j - (b.ts M).length=0 by omega];rfl
   have h:=ajz this
   rw [List.length_append,qb] at h
   rw [p1,<- h]
   congr 1
   simp only [List.length_cons,List.length_nil];omega
  have hc:=jo h3
  have hdiv:Int.tdiv (M * b.cost+M) M=b.cost+1:=by
   rw [show M * b.cost+M=M * (b.cost+1) by grind,Int.mul_tdiv_cancel_left _ (by omega)]
  rw [show b.len+r.len+2+m=(b.len+(r.len+m+1))+1 by omega,cg,a2,t2,if_neg (by simp),if_pos rfl,hsub,GQ,EM,sm,sm,Int.add_zero,hdiv]
  rw [D9 (r.len+m+1) _ _ _ h3 a4 t4 p2 hM,cg,a7,t7,if_neg (by simp),if_neg (by simp)]
  rw [show o+1+b.len+1=o+b.len+2 by omega] at a8 t8 ⊢
  rw [D9 m _ _ _ h4 a8 t8 p3 hM,Tr.spans,Tr.piece]
  congr 1
  ·omega
  ·simp only [List.append_assoc,List.cons_append,List.nil_append]
 | .ar x b r,_,_,_,l,ts,ps,o,M,m,c1,p,c2,⟨⟨h1,h2,h3⟩,_,h5,h6⟩,ha,ht,⟨p2,p3⟩,hM=>by
  simp only [Tr.len,Tr.ts] at ht ⊢
  obtain ⟨a1,a2,a3⟩:=l5 ha
  obtain ⟨a4,a5⟩:=y9 a3
  obtain ⟨t1,t2,t3⟩:=IC ht
  obtain ⟨t4,t5⟩:=ace t3
  rw [iw,show o+1+b.len=o+b.len+1 by omega] at a5
  rw [qb,show o+1+b.len=o+b.len+1 by omega] at t5
  have e11:¬ (x.1=11 \/ x.1=0):=by rintro (e | e) <;> simp [isA,e] at h2
  have e9:x.1≠9:=by intro e;simp [isA,e] at h2
  have hM2:1 * 1 <= M * zo x:=Int.mul_le_mul hM (FD h1).1 (by omega) (by omega)
  rw [show b.len+r.len+1+m=(b.len+(r.len+m))+1 by omega,cg,a2,t2,if_neg e11,if_neg e9,D9 (r.len+m) _ _ _ h5 a4 t4 p2 (by omega)]
  rw [show o+1+b.len=o+b.len+1 by omega,D9 m _ _ _ h6 a5 t5 p3 hM,Tr.spans,Tr.piece]
  congr 1
  ·omega
  ·rw [List.append_assoc]
theorem ac7 {t:Tr} (h:Ok 0 [] false t) (hl:t.len<24):ze t.prog=some (t.cost+1,max (t.piece 1 (0,0)).1 ((t.piece 1 (0,0)).2+1),t.spans):=by
 have g:=QJ h hl
 have ht:=Xf h hl
 rw [EL g]
 unfold Xd
 have hA:AtI (tms t.prog) 0 (t.ts 1):=by
  rw [ht]
  exact ⟨by rw [List.length_append];omega,fun j hj=>by rw [Nat.zero_add,mo hj]⟩
 have h1:=D9 (ts:=tms t.prog) (ps:=DW t 0 (List.replicate (t.len+1) 0)) (o:=0) (M:=1) 1 0 0 [] h (F8 t) hA (CK t 0 _ (by simp)) (by omega)
 rw [xk,h1,Nat.zero_add,cg,CF,if_pos (.inr rfl),cg,List.nil_append]
 have h2:sm (tms t.prog)=t.cost+1:=by rw [ht,GQ,EM,sm,sm];omega
 have h3:(tms t.prog).getD t.len 0=1:=by
  rw [ht,jq (by rw [qb];omega),qb,Nat.sub_self];rfl
 rw [h2,h3]
theorem qx:∀ {t:Tr} {d:Nat} {hs:List Int} {ia:Bool} (M:Int) (s:Int×Int),Ok d hs ia t -> 1 <= M -> 0 <= s.1 -> 0 <= s.2 -> 0 <= (t.piece M s).1 /\ 0 <= (t.piece M s).2 /\ (t.piece M s).1 <= max s.1 (s.2+M * t.cost) /\ (t.piece M s).2 <= s.2+M * t.cost
 | .nil,_,_,_,M,s,_,_,h1,h2=>by simp only [Tr.piece,Tr.cost,Int.mul_zero];omega
 | .one x r,_,_,_,M,s,⟨_,_,_,h4⟩,hM,h1,h2=>by
  have hc:=Int.mul_nonneg (show 0 <= M by omega) (jo h4)
  rw [Tr.piece,Tr.cost,Int.mul_add,Int.mul_one]
  split
  ·have:=qx (t:=r) M (max s.1 (s.2+M),0) h4 hM (by simp only;omega) (by simp only;omega)
   simp only at this
   omega
  ·have:=qx (t:=r) M (s.1,s.2+M) h4 hM h1 (by simp only;omega)
   simp only at this
   omega
 | .lk a b r,_,_,_,M,s,⟨_,_,h3,h4⟩,hM,h1,h2=>by
  have hc:=Int.mul_nonneg (show 0 <= M by omega) (jo h4)
  have hcb:=Int.mul_nonneg (show 0 <= M by omega) (jo h3)
  rw [Tr.piece,Tr.cost,show M * (2+b.cost+r.cost)=M+M+M * b.cost+M * r.cost by grind]
  have q:=qx (t:=b) M (s.1,s.2+M) h3 hM h1 (by simp only;omega)
  simp only at q
  have:=qx (t:=r) M ((b.piece M (s.1,s.2+M)).1,(b.piece M (s.1,s.2+M)).2+M) h4 hM q.1 (by simp only;omega)
  simp only at this
  omega
 | .ar x b r,_,_,_,M,s,⟨hx,_,h3,h4⟩,hM,h1,h2=>by
  have hr:=FD hx.1
  have hM2:1 * 1 <= M * zo x:=Int.mul_le_mul hM hr.1 (by omega) (by omega)
  have hc:=Int.mul_nonneg (show 0 <= M by omega) (jo h4)
  have hcb:=Int.mul_nonneg (show 0 <= M * zo x by omega) (jo h3)
  rw [Tr.piece,Tr.cost,show M * (1+zo x * b.cost+r.cost)=M+M * zo x * b.cost+M * r.cost by grind]
  have q:=qx (t:=b) (M * zo x) (s.1,s.2+M) h3 (by omega) h1 (by simp only;omega)
  simp only at q
  have:=qx (t:=r) M (b.piece (M * zo x) (s.1,s.2+M)) h4 hM q.1 q.2.1
  omega
theorem Yq {t:Tr} (h:Ok 0 [] false t) (hl:t.len<24):0 <= t.cost /\ t.cost+1 <= 9600:=by
 have g:=QJ h hl
 have hs:=NV g ((0:Nat):Int) ((tms t.prog).length:Int)
 rw [UG,Xf h hl,GQ,EM,sm,sm] at hs
 have:=jo h
 omega
def DT (v:Int):Prop:=-9223372036854775808 <= v /\ v <= 9223372036854775807
theorem AB (v:Int):DT (IntKind.i64.wrap v):=by
 unfold IntKind.wrap DT
 have e1:(2 ^ IntKind.i64.bits:Int)=18446744073709551616:=by decide
 have e2:(2 ^ (IntKind.i64.bits - 1):Int)=9223372036854775808:=by decide
 simp only [e1,e2,IntKind.signed,Bool.true_and,decide_eq_true_eq]
 split <;> omega
theorem CO (v:Int):∃ q:Int,IntKind.i64.wrap v=v+q * 18446744073709551616:=by
 unfold IntKind.wrap
 have e1:(2 ^ IntKind.i64.bits:Int)=18446744073709551616:=by decide
 have e2:(2 ^ (IntKind.i64.bits - 1):Int)=9223372036854775808:=by decide
 simp only [e1,e2,IntKind.signed,Bool.true_and,decide_eq_true_eq]
 split
 ·exact ⟨-(v / 18446744073709551616) - 1,by omega⟩
 ·exact ⟨-(v / 18446744073709551616),by omega⟩
theorem UK {v u:Int} (h:DT u) (q:Int) (e:u=v+q * 18446744073709551616):IntKind.i64.wrap v=u:=by
 obtain ⟨q2,h2⟩:=CO v
 have:=AB v
 unfold DT at *
 omega
theorem OX (v c:Int):IntKind.i64.wrap (IntKind.i64.wrap v * c)=IntKind.i64.wrap (v * c):=by
 obtain ⟨q,h⟩:=CO v
 obtain ⟨q2,h2⟩:=CO (v * c)
 refine UK (AB _) (q2 - q * c) ?_
 rw [h2,h];grind
def BU (v n:Int):Int:=if n=0 then v else if 0<n then IntKind.i64.wrap (v * 2 ^ n.toNat) else v.fdiv (2 ^ (-n).toNat)
def AJ (v n:Int):Int:=if (v % 2 ^ n.toNat) * 2≥2 ^ n.toNat then v % 2 ^ n.toNat - 2 ^ n.toNat else v % 2 ^ n.toNat
theorem ajA {v:Int} (h:DT v):v.fdiv 2=(if v<0 /\ v.tmod 2≠0 then IntKind.i64.wrap (IntKind.i64.wrap (v.tdiv 2) - 1) else IntKind.i64.wrap (v.tdiv 2)):=by
 unfold DT at h
 rw [Int.fdiv_eq_ediv_of_nonneg _ (by omega)]
 have h1:v.tdiv 2=if 0 <= v then v / 2 else -((-v) / 2):=by
  split
  ·exact Int.tdiv_eq_ediv_of_nonneg (by assumption)
  ·have:=Int.neg_tdiv (a:=-v) (b:=2)
   rw [Int.neg_neg] at this
   rw [this,Int.tdiv_eq_ediv_of_nonneg (by omega)]
 have h2:v.tmod 2=v - 2 * v.tdiv 2:=by have:=Int.mul_tdiv_add_tmod v 2;omega
 rw [h2,h1]
 split
 ·split
  ·omega
  ·rw [Ua (by omega) (by omega)]
 ·split
  ·rw [Ua (n:=-(-v / 2)) (by omega) (by omega),Ua (by omega) (by omega)];omega
  ·rw [Ua (by omega) (by omega)];omega
theorem ajB {v:Int} (h:DT v):DT (v.fdiv 2):=by
 unfold DT at *
 rw [Int.fdiv_eq_ediv_of_nonneg _ (by omega)];omega
theorem JQ {k:Nat}:∀ (m j:Nat) (v:Int),m<j -> m <= 100 -> DT v -> Uh k j v (-(m:Int))=some ((v.fdiv (2 ^ m),()),())
 | 0,j,v,hj,_,hv=>by
  obtain ⟨j',rfl⟩:∃ j',j=j'+1:=⟨j - 1,by omega⟩
  rw [WT,Ug,Rk (by omega)]
  simp [Int.fdiv_one]
 | m+1,j,v,hj,hm,hv=>by
  obtain ⟨j',rfl⟩:∃ j',j=j'+1:=⟨j - 1,by omega⟩
  have hw:IntKind.i64.wrap (-((m+1:Nat):Int)+1) = -(m:Int):=by rw [Ua (by omega) (by omega)];omega
  have ih:=JQ (k:=k) m j' (v.fdiv 2) (by omega) (by omega) (ajB hv)
  have hd:(v.fdiv 2).fdiv (2 ^ m)=v.fdiv (2 ^ (m+1)):=by
   have p1:(0:Int) <= 2 ^ m:=Int.pow_nonneg (by omega)
   have p2:(0:Int) <= 2 ^ (m+1):=Int.pow_nonneg (by omega)
   rw [Int.fdiv_eq_ediv_of_nonneg v (b:=2) (by omega),Int.fdiv_eq_ediv_of_nonneg (v / 2) p1,Int.fdiv_eq_ediv_of_nonneg v p2,Int.ediv_ediv_of_nonneg (by omega),Int.pow_succ,Int.mul_comm]
  rw [WT,Ug,Rj (by omega),hw]
  rw [<- hd,<- ih]
  have h2:=ajA hv
  by_cases e:v<0
  ·rw [Rj e]
   by_cases e2:v.tmod 2=0
   ·rw [show (v.tmod 2 != 0)=false by simpa using e2,cond_false,h2,if_neg (fun h=>h.2 e2)]
   ·rw [show (v.tmod 2 != 0)=true by simpa using e2,cond_true,h2,if_pos ⟨e,e2⟩]
  ·rw [Rk e,h2,if_neg (fun h=>e h.1)]
theorem QS {k:Nat} (hk:1000 <= k):∀ (m j:Nat) (v:Int),m<j -> m <= 100 -> DT v -> Ui k j v (m:Int)=some ((BU v m,()),())
 | 0,j,v,hj,_,hv=>by
  obtain ⟨j',rfl⟩:∃ j',j=j'+1:=⟨j - 1,by omega⟩
  rw [NI,NH,Rk (by omega)]
  have:=JQ (k:=k) 0 k v (by omega) (by omega) hv
  rw [show -((0:Nat):Int)=((0:Nat):Int) from rfl] at this
  rw [this];simp [BU,Int.fdiv_one]
 | m+1,j,v,hj,hm,hv=>by
  obtain ⟨j',rfl⟩:∃ j',j=j'+1:=⟨j - 1,by omega⟩
  have hw:IntKind.i64.wrap (((m+1:Nat):Int) - 1)=(m:Int):=by rw [Ua (by omega) (by omega)];omega
  rw [NI,NH,Rj (by omega),hw,QS hk m j' _ (by omega) (by omega) (AB _)]
  congr 3
  unfold BU
  rw [if_neg (show ¬ ((m+1:Nat):Int)=0 by omega),if_pos (show 0<((m+1:Nat):Int) by omega)]
  have e:(2:Int) ^ ((m+1:Nat):Int).toNat=2 ^ m * 2:=by rw [Int.toNat_natCast,Int.pow_succ]
  rw [e]
  by_cases h0:m=0
  ·subst h0;rw [if_pos (show ((0:Nat):Int)=0 from rfl)];simp
  ·rw [if_neg (by omega),if_pos (by omega),Int.toNat_natCast,OX]
   congr 1;grind
theorem ajC {k:Nat} (hk:1000 <= k) {v n:Int} (hv:DT v) (h1:-63 <= n) (h2:n <= 63):ajd k v n=some ((BU v n,()),()):=by
 unfold ajd
 rw [Rk (by omega),Rk (by omega)]
 by_cases e:0 <= n
 ·obtain ⟨m,rfl⟩:∃ m:Nat,n=(m:Int):=⟨n.toNat,by omega⟩
  exact QS hk m k v (by omega) (by omega) hv
 ·obtain ⟨m,rfl⟩:∃ m:Nat,n = -(m:Int):=⟨(-n).toNat,by omega⟩
  obtain ⟨k',rfl⟩:∃ k',k=k'+1:=⟨k - 1,by omega⟩
  rw [NI,NH,Rk (by omega),JQ m (k'+1) v (by omega) (by omega) hv]
  unfold BU
  rw [if_neg (by omega),if_neg (by omega),Int.neg_neg,Int.toNat_natCast]
theorem QT {k:Nat}:∀ (m j:Nat) (v:Int),m<j -> m <= 100 -> 0 <= v -> v * 2 ^ m<18446744073709551616 -> Uk k j (m:Int) v=some ((v * 2 ^ m,()),())
 | 0,j,v,hj,_,_,_=>by
  obtain ⟨j',rfl⟩:∃ j',j=j'+1:=⟨j - 1,by omega⟩
  rw [WU,Uj,Rk (by omega)];simp
 | m+1,j,v,hj,hm,hv,hb=>by
  obtain ⟨j',rfl⟩:∃ j',j=j'+1:=⟨j - 1,by omega⟩
  have hw:IntKind.i64.wrap (((m+1:Nat):Int) - 1)=(m:Int):=by rw [Ua (by omega) (by omega)];omega
  have e:v * 2 ^ (m+1)=2 * v * 2 ^ m:=by rw [Int.pow_succ];grind
  rw [e] at hb
  have hp:(1:Int) <= 2 ^ m:=(Int.pow_pos (by omega):(0:Int)<2 ^ m)
  have:2 * v * 1 <= 2 * v * 2 ^ m:=Int.mul_le_mul_of_nonneg_left hp (by omega)
  rw [WU,Uj,Rj (by omega),hw,u64 (by omega) (by omega),QT m j' (2 * v) (by omega) (by omega) (by omega) hb,e]
theorem acf {n:Nat} (h:n <= 63):(2:Int) ^ n<18446744073709551616:=by
 have:(2:Nat) ^ n <= 2 ^ 63:=Nat.pow_le_pow_right (by omega) h
 have h2:((2 ^ n:Nat):Int)=(2:Int) ^ n:=by simp
 have h3:(2:Nat) ^ 63=9223372036854775808:=by decide
 omega
theorem acg {k:Nat} (hk:1000 <= k) {n:Nat} (h:n <= 63):acZ k (n:Int)=some ((2 ^ n,()),()):=by
 unfold acZ
 have hp:=acf h
 have:=QT (k:=k) n k 1 (by omega) (by omega) (by omega) (by omega)
 rw [Int.one_mul] at this
 exact this
theorem ag7 {v:Int} (hv:DT v):AJ v 64=v:=by
 unfold DT at hv
 unfold AJ
 rw [show (2:Int) ^ (64:Int).toNat=18446744073709551616 by decide]
 split <;> omega
theorem JR {n:Nat} (h:1 <= n):(2:Int) ^ n=2 * 2 ^ (n - 1):=by
 obtain ⟨m,rfl⟩:∃ m,n=m+1:=⟨n - 1,by omega⟩
 rw [Int.pow_succ,Nat.add_sub_cancel];omega
theorem Xg {n:Nat} (h:n <= 64):(18446744073709551616:Int)=2 ^ n * 2 ^ (64 - n):=by
 rw [<- Int.pow_add,show n+(64 - n)=64 by omega];decide
theorem Xh (v:Int) {n:Nat} (h:n <= 64):IntKind.u64.wrap v % 2 ^ n=v % 2 ^ n:=by
 rw [NU,Xg h,Int.emod_emod_of_dvd _ (Int.dvd_mul_right _ _)]
theorem ajD {k:Nat} (hk:1000 <= k) {v n:Int} (hv:DT v) (h1:1 <= n) (h2:n <= 64):aje k v n=some ((AJ v n,()),()):=by
 unfold aje
 rw [Rk (by omega)]
 by_cases e:n>63
 ·have:n=64:=by omega
  subst this
  rw [Rj e,ag7 hv]
 ·obtain ⟨m,rfl⟩:∃ m:Nat,n=(m:Int):=⟨n.toNat,by omega⟩
  have hp:=acf (n:=m) (by omega)
  have hp0:(0:Int)<2 ^ m:=Int.pow_pos (by omega)
  have hw:IntKind.i64.wrap ((m:Int) - 1)=((m - 1:Nat):Int):=by rw [Ua (by omega) (by omega)];omega
  rw [Rk e,acg hk (by omega)]
  simp only [Option.bind_some]
  rw [Ri (by omega),hw,acg hk (by omega)]
  simp only [Option.bind_some]
  have hu:=NU v
  have hu0:0 <= IntKind.u64.wrap v:=by omega
  rw [Int.tmod_eq_emod_of_nonneg hu0,Xh v (by omega)]
  have hh:=JR (n:=m) (by omega)
  have hr0:=Int.emod_nonneg v (show (2:Int) ^ m≠0 by omega)
  have hr1:=Int.emod_lt_of_pos v hp0
  unfold AJ
  rw [Int.toNat_natCast]
  generalize v % 2 ^ m=r at *
  have hmax:(2:Int) ^ m <= 9223372036854775808:=by
   have:(2:Nat) ^ m <= 2 ^ 63:=Nat.pow_le_pow_right (by omega) (by omega)
   have h2:((2 ^ m:Nat):Int)=(2:Int) ^ m:=by simp
   have h3:(2:Nat) ^ 63=9223372036854775808:=by decide
   omega
  by_cases h5:r≥2 ^ (m - 1)
  ·rw [Rj h5,if_pos (by omega),u64 (by omega) (by omega)]
   rw [show IntKind.i64.wrap (0 - IntKind.i64.wrap (2 ^ m - r))=r - 2 ^ m from ?_]
   have h6:DT (r - 2 ^ m):=by unfold DT;omega
   obtain ⟨q,hq⟩:=CO (2 ^ m - r)
   refine UK h6 q ?_
   rw [hq];omega
  ·rw [Rk h5,if_neg (by omega),Ua (by omega) (by omega)]
abbrev dz:Type:=Int×Int×Int
abbrev Mem:Type:=PN Int 8
abbrev d9:Type:=Int×Mem×List dz×Bool
def mg (mem:Mem) (a:Int):Int:=Tv (α:=Int) 8 mem a 0
def inM (mem:Mem):Prop:=∀ x∈Gr 8 mem,DT x
theorem ach {mem:Mem} (h:inM mem) (a:Int):DT (mg mem a):=by
 unfold mg Tv
 by_cases e:a.toNat<(Gr 8 mem).length
 ·exact h _ (iq e)
 ·rw [NK (by omega)];unfold DT;omega
theorem FE {mem:Mem} (h:inM mem) {a v:Int} (ha:0 <= a) (hv:DT v):inM (Tw (α:=Int) 8 mem a v):=by
 obtain ⟨n,rfl⟩:∃ n:Nat,a=(n:Int):=⟨a.toNat,by omega⟩
 intro x hx
 rw [ac3] at hx
 rcases List.mem_or_eq_of_mem_set hx with h1 | h1
 ·exact h x h1
 ·rw [h1];exact hv
def NY (x:I4) (mem:Mem):Mem :=
 if x.1=1 then Tw (α:=Int) 8 mem x.2.1 x.2.2.2
 else if x.1=2 then Tw (α:=Int) 8 mem x.2.1 (IntKind.i64.wrap (mg mem x.2.1+mg mem x.2.2.1))
 else if x.1=3 then Tw (α:=Int) 8 mem x.2.1 (IntKind.i64.wrap (mg mem x.2.1 - mg mem x.2.2.1))
 else if x.1=4 then Tw (α:=Int) 8 mem x.2.1 (IntKind.i64.wrap (mg mem x.2.1 * mg mem x.2.2.1))
 else if x.1=5 then Tw (α:=Int) 8 mem x.2.1 (BU (mg mem x.2.1) x.2.2.2)
 else if x.1=6 then Tw (α:=Int) 8 mem x.2.1 (AJ (mg mem x.2.1) x.2.2.2)
 else mem
theorem ag8 {v n:Int} (h:DT v):DT (BU v n):=by
 unfold BU
 split
 ·exact h
 ·split
  ·exact AB _
  ·have p:(0:Int)<2 ^ (-n).toNat:=Int.pow_pos (by omega)
   unfold DT at *
   rw [Int.fdiv_eq_ediv_of_nonneg _ (by omega)]
   refine ⟨?_,?_⟩
   ·have h1:-9223372036854775808 * 2 ^ (-n).toNat <= v:=by
     have:(-9223372036854775808:Int) * 2 ^ (-n).toNat <= -9223372036854775808 * 1:=Int.mul_le_mul_of_nonpos_left (by omega) (by omega)
     omega
    exact Int.le_ediv_of_mul_le p h1
   ·by_cases hv:0 <= v
    ·exact Int.le_trans (Int.ediv_le_self _ hv) h.2
    ·have:=Int.ediv_neg_of_neg_of_pos (show v<0 by omega) p
     omega
theorem ac8 {v n:Int} (h1:1 <= n) (h2:n <= 64):DT (AJ v n):=by
 obtain ⟨m,rfl⟩:∃ m:Nat,n=(m:Int):=⟨n.toNat,by omega⟩
 unfold AJ
 rw [Int.toNat_natCast]
 have hp0:(0:Int)<2 ^ m:=Int.pow_pos (by omega)
 have hh:=JR (n:=m) (by omega)
 have hr0:=Int.emod_nonneg v (show (2:Int) ^ m≠0 by omega)
 have hr1:=Int.emod_lt_of_pos v hp0
 have hmax:(2:Int) ^ m <= 18446744073709551616:=by
  have:(2:Nat) ^ m <= 2 ^ 64:=Nat.pow_le_pow_right (by omega) (by omega)
  have h2:((2 ^ m:Nat):Int)=(2:Int) ^ m:=by simp
  have h3:(2:Nat) ^ 64=18446744073709551616:=by decide
  omega
 unfold DT
 split <;> omega
theorem UL {x:I4} (h:jm x=true) (e:x.1=1):(0 <= x.2.1 /\ x.2.1<8) /\ x.2.2.1=0 /\ -2147483648 <= x.2.2.2 /\ x.2.2.2 <= 2147483647:=by
 simpa [jm,e,yg,BF] using h
theorem zl {x:I4} (h:jm x=true) (e:x.1=2 \/ x.1=3 \/ x.1=4):(0 <= x.2.1 /\ x.2.1<8) /\ (0 <= x.2.2.1 /\ x.2.2.1<8) /\ x.2.2.2=0:=by
 rcases e with e | e | e <;> simpa [jm,e,yg,BF] using h
theorem FH {x:I4} (h:jm x=true) (e:x.1=5):(0 <= x.2.1 /\ x.2.1<8) /\ x.2.2.1=0 /\ -63 <= x.2.2.2 /\ x.2.2.2 <= 63:=by
 simpa [jm,e,yg,BF] using h
theorem DC {x:I4} (h:jm x=true) (e:x.1=6):(0 <= x.2.1 /\ x.2.1<8) /\ x.2.2.1=0 /\ 1 <= x.2.2.2 /\ x.2.2.2 <= 64:=by
 simpa [jm,e,yg,BF] using h
theorem NZ {x:I4} (h:jm x=true) (e:x.1=7):(0 <= x.2.1 /\ x.2.1<8) /\ x.2.2.1=0 /\ 1 <= x.2.2.2 /\ x.2.2.2 <= 24:=by
 simpa [jm,e,yg,BF] using h
theorem ag9 {x:I4} {mem:Mem} (hx:jm x=true) (h:inM mem):inM (NY x mem):=by
 unfold NY
 split
 ·rename_i e;have:=UL hx e;exact FE h this.1.1 (by unfold DT;omega)
 ·split
  ·rename_i e;exact FE h (zl hx (.inl e)).1.1 (AB _)
  ·split
   ·rename_i e;exact FE h (zl hx (.inr (.inl e))).1.1 (AB _)
   ·split
    ·rename_i e;exact FE h (zl hx (.inr (.inr e))).1.1 (AB _)
    ·split
     ·rename_i e;exact FE h (FH hx e).1.1 (ag8 (ach h _))
     ·split
      ·rename_i e;have:=DC hx e;exact FE h this.1.1 (ac8 this.2.2.1 this.2.2.2)
      ·exact h
def ni (pc:Int):List dz -> Int×List dz
 | []=>(pc,[])
 | r::rest=>if r.2.1<pc then (if r.2.2>0 then (r.1,(r.1,r.2.1,r.2.2 - 1)::rest) else ni pc rest) else (pc,r::rest)
def gU (x:I4) (pc:Int) (mem:Mem) (R:List dz):Int×List dz :=
 if x.1=0 then (pc,R)
 else if x.1=7 then (if mg mem x.2.1=0 then (pc+1+x.2.2.2,R) else (pc+1,R))
 else if x.1=8 then (pc+1,(pc+1,pc+x.2.2.1,x.2.2.2 - 1)::R)
 else (pc+1,R)
def go (x:I4) (pc:Int) (mem:Mem) (R:List dz):Int×List dz:=ni (gU x pc mem R).1 (gU x pc mem R).2
theorem QU {k:Nat} {pc a b c d e f g h:Int} {ov:Bool} {t1 t2 t3 t4 t5 t6 t7 t8 t9:Int} {t10:Bool} {u1 u2 u3 u4 i1 i2 i3 i4:Int}:∀ (R:List dz) (j:Nat),R.length<j -> R.length <= 900 -> (∀ r∈R,r.2.2 <= 1000) ->
  uz k j pc a b c d e f g h R.reverse ov t1 t2 t3 t4 t5 t6 t7 t8 t9 t10 u1 u2 u3 u4 i1 i2 i3 i4=some ((((ni pc R).1,(a,b,c,d,e,f,g,h),(ni pc R).2.reverse,ov),(i1,i2,i3,i4),true,()),())
 | [],j,hj,_,_=>by
  obtain ⟨j',rfl⟩:∃ j',j=j'+1:=⟨j - 1,by omega⟩
  rw [WV,Ul,Rk (by simp)]
  rfl
 | r::R,j,hj,hl,hb=>by
  obtain ⟨j',rfl⟩:∃ j',j=j'+1:=⟨j - 1,by omega⟩
  simp only [List.length_cons] at hj hl
  have hlen:((R.reverse++[r]).length:Int)=(R.length:Int)+1:=by simp
  have hw:IntKind.i64.wrap ((R.length:Int)+1 - 1)=(R.length:Int):=by rw [Ua (by omega) (by omega)];omega
  have hrd:rd (R.reverse++[r]) (R.length:Int) (0,0,0)=r:=by rw [Px,jq (by simp)];simp
  have htk:(R.reverse++[r]).take (R.length:Int).toNat=R.reverse:=by
   rw [Int.toNat_natCast,List.take_append_of_le_length (by simp)];exact List.take_of_length_le (by simp)
  have hr:=hb r List.mem_cons_self
  rw [List.reverse_cons,WV,Ul,hlen,hw,Rj (by omega),Lf (by omega) (by omega),hrd,htk,ni]
  by_cases e1:r.2.1<pc
  ·rw [Rj e1,if_pos e1,Lf (by omega) (by omega),Rc (by omega) (by omega) (by omega)]
   by_cases e2:r.2.2>0
   ·rw [Rj e2,if_pos e2,Rh (by simp only [List.length_reverse,List.length_cons,List.length_nil];omega),Ua (by omega) (by omega),List.reverse_cons]
   ·rw [Rk e2,if_neg e2]
    exact QU R j' (by omega) (by omega) (fun q hq=>hb q (List.mem_cons_of_mem _ hq))
  ·rw [Rk e1,if_neg e1,List.reverse_cons]
theorem anl {k:Nat} (hk:1000 <= k) {l:List I4} {n:Nat} {mem:Mem} {R:List dz} (hl:l.length <= 900) (hn:n<l.length) (hx:jm (l.getD n i0)=true) (hR:R.length <= 100) (hb:∀ r∈R,r.2.2 <= 1000) (hm:inM mem) :
  S72 k l ((n:Int),mem,R.reverse,false)=some ((((go (l.getD n i0) n mem R).1,NY (l.getD n i0) mem,(go (l.getD n i0) n mem R).2.reverse,(l.getD n i0).1==0),l.getD n i0,true,()),()):=by
 unfold S72
 simp only
 rw [Rh (by simp only [List.length_nil,List.length_reverse];omega),List.nil_append,cond_false,Rk (by omega),Rk (by omega),Pw hn,Px,ab2,Option.bind_some,hx]
 simp only [Bool.not_true,cond_false]
 rw [Pw hn]
 generalize l.getD n i0=x at hx ⊢
 have key:∀ (pc:Int) (mem':Mem) (R':List dz) (ov:Bool),R'.length <= 900 -> (∀ r∈R',r.2.2 <= 1000) -> uz k k pc mem'.1 mem'.2.1 mem'.2.2.1 mem'.2.2.2.1 mem'.2.2.2.2.1 mem'.2.2.2.2.2.1 mem'.2.2.2.2.2.2.1 mem'.2.2.2.2.2.2.2 R'.reverse ov 0 0 0 0 0 0 0 0 0 false 0 0 0 0 x.1 x.2.1 x.2.2.1 x.2.2.2=some ((((ni pc R').1,mem',(ni pc R').2.reverse,ov),x,true,()),()):=fun pc mem' R' ov h1 h2=>QU R' k (by omega) h1 h2
 unfold go gU NY
 rw [Ua (n:=(n:Int)+1) (by omega) (by omega)]
 by_cases e0:x.1=0
 ·rw [show (x.1==0)=true by rw [e0];rfl,cond_true,if_pos e0,if_neg (by omega),if_neg (by omega),if_neg (by omega),if_neg (by omega),if_neg (by omega),if_neg (by omega)]
  exact key _ _ _ _ (by omega) hb
 rw [show (x.1==0)=false by simpa using e0,cond_false,if_neg e0]
 by_cases e1:x.1=1
 ·have:=UL hx e1
  rw [show (x.1==1)=true by rw [e1];rfl,cond_true,Rb this.1.1 this.1.2,if_neg (by omega),if_neg (by omega),if_pos e1]
  exact key _ _ _ _ (by omega) hb
 rw [show (x.1==1)=false by simpa using e1,cond_false,if_neg e1]
 by_cases e2:x.1=2
 ·have:=zl hx (.inl e2)
  rw [show (x.1==2)=true by rw [e2];rfl,cond_true,Rb this.1.1 this.1.2,Rb this.2.1.1 this.2.1.2,Rb this.1.1 this.1.2,if_neg (by omega),if_neg (by omega),if_pos e2]
  exact key _ _ _ _ (by omega) hb
 rw [show (x.1==2)=false by simpa using e2,cond_false,if_neg e2]
 by_cases e3:x.1=3
 ·have:=zl hx (.inr (.inl e3))
  rw [show (x.1==3)=true by rw [e3];rfl,cond_true,Rb this.1.1 this.1.2,Rb this.2.1.1 this.2.1.2,Rb this.1.1 this.1.2,if_neg (by omega),if_neg (by omega),if_pos e3]
  exact key _ _ _ _ (by omega) hb
 rw [show (x.1==3)=false by simpa using e3,cond_false,if_neg e3]
 by_cases e4:x.1=4
 ·have:=zl hx (.inr (.inr e4))
  rw [show (x.1==4)=true by rw [e4];rfl,cond_true,Rb this.1.1 this.1.2,Rb this.2.1.1 this.2.1.2,Rb this.1.1 this.1.2,if_neg (by omega),if_neg (by omega),if_pos e4]
  exact key _ _ _ _ (by omega) hb
 rw [show (x.1==4)=false by simpa using e4,cond_false,if_neg e4]
 by_cases e5:x.1=5
 ·have:=FH hx e5
  rw [show (x.1==5)=true by rw [e5];rfl,cond_true,Rb this.1.1 this.1.2,show Tv (α:=Int) 8 mem x.2.1 0=mg mem x.2.1 from rfl,ajC hk (ach hm _) this.2.2.1 this.2.2.2,Option.bind_some,Rb this.1.1 this.1.2,if_neg (by omega),if_neg (by omega),if_pos e5]
  exact key _ _ _ _ (by omega) hb
 rw [show (x.1==5)=false by simpa using e5,cond_false,if_neg e5]
 by_cases e6:x.1=6
 ·have:=DC hx e6
  rw [show (x.1==6)=true by rw [e6];rfl,cond_true,Rb this.1.1 this.1.2,show Tv (α:=Int) 8 mem x.2.1 0=mg mem x.2.1 from rfl,ajD hk (ach hm _) this.2.2.1 this.2.2.2,Option.bind_some,Rb this.1.1 this.1.2,if_neg (by omega),if_neg (by omega),if_pos e6]
  exact key _ _ _ _ (by omega) hb
 rw [show (x.1==6)=false by simpa using e6,cond_false,if_neg e6]
 by_cases e7:x.1=7
 ·have:=NZ hx e7
  rw [show (x.1==7)=true by rw [e7];rfl,cond_true,Rb this.1.1 this.1.2,show Tv (α:=Int) 8 mem x.2.1 0=mg mem x.2.1 from rfl,if_pos e7]
  by_cases e:mg mem x.2.1=0
  ·rw [show (mg mem x.2.1==0)=true by rw [e];rfl,cond_true,if_pos e,Ua (by omega) (by omega)]
   exact key _ _ _ _ (by omega) hb
  ·rw [show (mg mem x.2.1==0)=false by simpa using e,cond_false,if_neg e]
   exact key _ _ _ _ (by omega) hb
 rw [show (x.1==7)=false by simpa using e7,cond_false,if_neg e7]
 by_cases e8:x.1=8
 ·have h8:x.2.1=0 /\ (1 <= x.2.2.1 /\ x.2.2.1 <= 24) /\ 1 <= x.2.2.2 /\ x.2.2.2 <= 20:=by simpa [jm,e8,yg] using hx
  rw [show (x.1==8)=true by rw [e8];rfl,cond_true,if_pos e8,Rh (by simp only [List.length_reverse,List.length_cons,List.length_nil];omega),Ua (n:=(n:Int)+x.2.2.1) (by omega) (by omega),Ua (n:=x.2.2.2 - 1) (by omega) (by omega),<- List.reverse_cons]
  exact key _ _ _ _ (by simp only [List.length_cons];omega) (fun r hr=>by
   rcases List.mem_cons.1 hr with rfl | hr
   ·simp only;omega
   ·exact hb r hr)
 rw [show (x.1==8)=false by simpa using e8,cond_false,if_neg e8]
 exact key _ _ _ _ (by omega) hb
inductive Run (l:List I4):Nat -> Mem -> List dz -> List I4 -> Nat -> Mem -> List dz -> Prop
 | nil (n:Nat) (mem:Mem) (R:List dz):Run l n mem R [] n mem R
 | cons {n:Nat} {mem:Mem} {R:List dz} {x:I4} {n1:Nat} {R1:List dz} {tr:List I4} {n2:Nat} {mem2:Mem} {R2:List dz}:n<l.length -> l.getD n i0=x -> x.1≠0 -> R.length <= 2 -> (∀ r∈R,r.2.2 <= 1000) -> go x n mem R=((n1:Int),R1) -> (x.1=11 -> R1=[]) ->
   Run l n1 (NY x mem) R1 tr n2 mem2 R2 -> Run l n mem R (x::tr) n2 mem2 R2
theorem Run.app {l:List I4} {n:Nat} {mem:Mem} {R:List dz} {t1:List I4} {n1:Nat} {mem1:Mem} {R1:List dz} {t2:List I4} {n2:Nat} {mem2:Mem} {R2:List dz} (h1:Run l n mem R t1 n1 mem1 R1) (h2:Run l n1 mem1 R1 t2 n2 mem2 R2):Run l n mem R (t1++t2) n2 mem2 R2:=by
 induction h1 with
 | nil=>exact h2
 | cons a b c d e f g _ ih=>exact .cons a b c d e f g (ih h2)
def rpt (f:Mem -> List I4×Mem):Nat -> Mem -> List I4×Mem
 | 0,m=>([],m)
 | n+1,m=>((f m).1++(rpt f n (f m).2).1,(rpt f n (f m).2).2)
def CP:Tr -> Mem -> List I4×Mem
 | .nil,m=>([],m)
 | .one x r,m=>(x::(CP r (NY x m)).1,(CP r (NY x m)).2)
 | .lk a b r,m=>((9,a,0,0)::((CP b m).1++((10,a,0,0)::(CP r (CP b m).2).1)),(CP r (CP b m).2).2)
 | .ar x b r,m =>
  let p:=if x.1=7 then (if mg m x.2.1=0 then ([],m) else CP b m) else rpt (CP b) x.2.2.2.toNat m
  (x::(p.1++(CP r p.2).1),(CP r p.2).2)
def zf (l:List I4) (o:Nat) (mem:Mem) (R:List dz) (tr:List I4) (o2:Nat) (mem2:Mem) (R2:List dz):Prop :=
 ∀ (n1:Nat) (R1:List dz),ni (o:Int) R=((n1:Int),R1) -> ∃ (n2:Nat) (R3:List dz),ni (o2:Int) R2=((n2:Int),R3) /\ Run l n1 mem R1 tr n2 mem2 R3
theorem zf.nil {l:List I4} {o:Nat} {mem:Mem} {R:List dz}:zf l o mem R [] o mem R:=fun n1 R1 h=>⟨n1,R1,h,.nil _ _ _⟩
theorem zf.app {l:List I4} {o:Nat} {mem:Mem} {R:List dz} {t1:List I4} {o1:Nat} {mem1:Mem} {R1:List dz} {t2:List I4} {o2:Nat} {mem2:Mem} {R2:List dz} (h1:zf l o mem R t1 o1 mem1 R1) (h2:zf l o1 mem1 R1 t2 o2 mem2 R2):zf l o mem R (t1++t2) o2 mem2 R2:=fun n1 R3 h=>by
 obtain ⟨n2,R4,g1,g2⟩:=h1 n1 R3 h
 obtain ⟨n3,R5,g3,g4⟩:=h2 n2 R4 g1
 exact ⟨n3,R5,g3,g2.app g4⟩
def Cov (R:List dz) (e:Nat):Prop:=∀ r∈R.head?,(e:Int) <= r.2.1+1
theorem ac9 {R:List dz} {o:Nat} (h:Cov R (o+1)):ni (o:Int) R=((o:Int),R):=by
 cases R with
 | nil=>rfl
 | cons r R=>rw [ni,if_neg];have:=h r (by simp);omega
theorem zh {R:List dz} {a b:Nat} (h:Cov R a) (hb:b <= a):Cov R b:=fun r hr=>by have:=h r hr;omega
def Few (d:Nat) (ia:Bool) (R:List dz):Prop:=(R.length <= d /\ d <= 2) /\ (∀ r∈R,r.2.2 <= 1000) /\ (ia=false -> R=[]) /\ ∀ r∈R,0 <= r.1
theorem zf.step {l:List I4} {o:Nat} {mem:Mem} {R:List dz} {x:I4} {o1:Nat} {R1:List dz} (hn:o<l.length) (hx:l.getD o i0=x) (h0:x.1≠0) (hR:R.length <= 2) (hb:∀ r∈R,r.2.2 <= 1000) (hc:Cov R (o+1)) (hnx:gU x o mem R=((o1:Int),R1)) (hm:x.1=11 -> (ni (o1:Int) R1).2=[]) (hpos:0 <= (ni (o1:Int) R1).1) :
  zf l o mem R [x] o1 (NY x mem) R1:=fun n1 R2 h=>by
 rw [ac9 hc] at h
 injection h with h1 h2
 subst h2
 have:n1=o:=by omega
 subst this
 refine ⟨(ni (o1:Int) R1).1.toNat,(ni (o1:Int) R1).2,?_,?_⟩
 ·exact Prod.ext (by simp only;omega) rfl
 ·refine .cons hn hx h0 hR hb ?_ hm (.nil _ _ _)
  unfold go
  rw [hnx]
  exact Prod.ext (by simp only;omega) rfl
theorem BH:∀ {R:List dz} {pc:Int},0 <= pc -> (∀ r∈R,0 <= r.1) -> 0 <= (ni pc R).1
 | [],_,h,_=>h
 | r::R,pc,h,hr=>by
  rw [ni]
  split
  ·split
   ·exact hr r List.mem_cons_self
   ·exact BH h (fun q hq=>hr q (List.mem_cons_of_mem _ hq))
  ·exact h
theorem zf.congr {l:List I4} {o:Nat} {mem:Mem} {R:List dz} {tr:List I4} {o2:Nat} {mem2:Mem} {R2:List dz} {o3:Nat} {R3:List dz} (h:zf l o mem R tr o2 mem2 R2) (e:ni (o2:Int) R2=ni (o3:Int) R3):zf l o mem R tr o3 mem2 R3:=fun n1 R1 g=>by
 obtain ⟨n2,R4,g1,g2⟩:=h n1 R1 g
 exact ⟨n2,R4,by rw [<- e];exact g1,g2⟩
theorem aci {l:List I4} {o:Nat} {R:List dz} {b:Tr} (hlen:1 <= b.len)
  (hb:∀ (mem:Mem) (m:Nat),m <= 20 -> zf l (o+1) mem ((((o+1:Nat):Int),((o+b.len:Nat):Int),(m:Int))::R) (CP b mem).1 (o+1+b.len) (CP b mem).2 ((((o+1:Nat):Int),((o+b.len:Nat):Int),(m:Int))::R)) :
  ∀ (m:Nat) (mem:Mem),m <= 20 -> zf l (o+1) mem ((((o+1:Nat):Int),((o+b.len:Nat):Int),(m:Int))::R) (rpt (CP b) (m+1) mem).1 (o+1+b.len) (rpt (CP b) (m+1) mem).2 R
 | 0,mem,hm=>by
  have h1:=hb mem 0 hm
  have h2:=h1.congr (o3:=o+1+b.len) (R3:=R) (by rw [ni,if_pos (by simp only;omega),if_neg (by simp)])
  simp only [rpt,List.append_nil]
  exact h2
 | m+1,mem,hm=>by
  have h1:=hb mem (m+1) hm
  have h2:=h1.congr (o3:=o+1) (R3:=(((o+1:Nat):Int),((o+b.len:Nat):Int),(m:Int))::R) (by
   rw [ni,if_pos (by simp only;omega),if_pos (by simp only;omega),ni,if_neg (by simp only;omega)]
   simp only [Prod.mk.injEq,List.cons.injEq,true_and,and_true];omega)
  have h3:=aci hlen hb m (CP b mem).2 (by omega)
  have:=h2.app h3
  rw [rpt];exact this
theorem xq:∀ {t:Tr} {d:Nat} {hs:List Int} {ia:Bool} {l:List I4} {o:Nat} (mem:Mem) (R:List dz),Ok d hs ia t -> At l o t.flat -> Cov R (o+t.len) -> Few d ia R -> zf l o mem R (CP t mem).1 (o+t.len) (CP t mem).2 R
 | .nil,_,_,_,_,_,mem,R,_,_,_,_=>zf.nil
 | .one x r,d,_,ia,l,o,mem,R,⟨h1,h2,h3,h4⟩,ha,hc,hf=>by
  simp only [Tr.len] at hc ⊢
  obtain ⟨a1,a2,a3⟩:=l5 ha
  have ih:=xq (NY x mem) R h4 a3 (zh hc (by omega)) hf
  have hst:zf l o mem R [x] (o+1) (NY x mem) R:=zf.step a1 a2 h2.1 (by have:=hf.1;omega) hf.2.1 (zh hc (by omega)) (by
   unfold gU;rw [if_neg h2.1,if_neg h2.2.1,if_neg h2.2.2.1];congr 1) (fun e=>by rw [hf.2.2.1 (h3 e).1];rfl) (BH (by omega) hf.2.2.2)
  rw [show o+(r.len+1)=o+1+r.len by omega]
  exact hst.app ih
 | .lk a b r,d,_,ia,l,o,mem,R,⟨h1,h2,h3,h4⟩,ha,hc,hf=>by
  simp only [Tr.len] at hc ⊢
  obtain ⟨a1,a2,a3⟩:=l5 ha
  obtain ⟨a4,a5⟩:=y9 a3
  obtain ⟨a6,a7,a8⟩:=l5 a5
  rw [iw] at a6 a7 a8
  have s1:zf l o mem R [(9,a,0,0)] (o+1) mem R:=zf.step a1 a2 (by simp) (by have:=hf.1;omega) hf.2.1 (zh hc (by omega)) (by
   unfold gU;rw [if_neg (by simp),if_neg (by simp),if_neg (by simp)];congr 1) (fun e=>by simp at e) (BH (by omega) hf.2.2.2)
  have s2:=xq mem R h3 a4 (zh hc (by omega)) hf
  have s3:zf l (o+1+b.len) (CP b mem).2 R [(10,a,0,0)] (o+1+b.len+1) (CP b mem).2 R:=zf.step a6 a7 (by simp) (by have:=hf.1;omega) hf.2.1 (zh hc (by omega)) (by
   unfold gU;rw [if_neg (by simp),if_neg (by simp),if_neg (by simp)];congr 1) (fun e=>by simp at e) (BH (by omega) hf.2.2.2)
  have s4:=xq (CP b mem).2 R h4 a8 (zh hc (by omega)) hf
  rw [show o+(b.len+r.len+2)=o+1+b.len+1+r.len by omega]
  have:=s1.app (s2.app (s3.app s4))
  exact this
 | .ar x b r,d,hs,ia,l,o,mem,R,⟨⟨h1,h2,h3⟩,h4,h5,h6⟩,ha,hc,hf=>by
  simp only [Tr.len] at hc ⊢
  obtain ⟨a1,a2,a3⟩:=l5 ha
  obtain ⟨a4,a5⟩:=y9 a3
  rw [iw] at a5
  have hw:=AA h1 h2
  have x0:x.1≠0:=fun e=>by simp [isA,e] at h2
  have x11:x.1≠11:=fun e=>by simp [isA,e] at h2
  rw [show o+(b.len+r.len+1)=o+1+b.len+r.len by omega]
  by_cases e7:x.1=7
  ·have heff:NY x mem=mem:=by
    unfold NY;rw [if_neg (by omega),if_neg (by omega),if_neg (by omega),if_neg (by omega),if_neg (by omega),if_neg (by omega)]
   have e8:(x.1==8)=false:=by rw [e7];rfl
   rw [e8,cond_false] at h5
   have hN:=hw.2.2.2 e7
   have htr:CP (.ar x b r) mem=(x::((if mg mem x.2.1=0 then (([]:List I4),mem) else CP b mem).1++(CP r (if mg mem x.2.1=0 then (([]:List I4),mem) else CP b mem).2).1),(CP r (if mg mem x.2.1=0 then (([]:List I4),mem) else CP b mem).2).2):=by
    simp only [CP,if_pos e7]
   rw [htr]
   by_cases em:mg mem x.2.1=0
   ·simp only [if_pos em]
    have s1:zf l o mem R [x] (o+1+b.len) (NY x mem) R:=zf.step a1 a2 x0 (by have:=hf.1;omega) hf.2.1 (zh hc (by omega)) (by
     unfold gU;rw [if_neg x0,if_pos e7,if_pos em];congr 1;omega) (fun e=>absurd e x11) (BH (by omega) hf.2.2.2)
    rw [heff] at s1
    have s4:=xq mem R h6 a5 (zh hc (by omega)) hf
    exact s1.app s4
   ·simp only [if_neg em]
    have s1:zf l o mem R [x] (o+1) (NY x mem) R:=zf.step a1 a2 x0 (by have:=hf.1;omega) hf.2.1 (zh hc (by omega)) (by
     unfold gU;rw [if_neg x0,if_pos e7,if_neg em];congr 1) (fun e=>absurd e x11) (BH (by omega) hf.2.2.2)
    rw [heff] at s1
    have hf2:Few d true R:=⟨hf.1,hf.2.1,fun e=>by (cases e),hf.2.2.2⟩
    have s2:=xq mem R h5 a4 (zh hc (by omega)) hf2
    have s4:=xq (CP b mem).2 R h6 a5 (zh hc (by omega)) hf
    exact s1.app (s2.app s4)
  ·have e8:x.1=8:=by simp only [isA,Bool.or_eq_true,beq_iff_eq] at h2;omega
   have heff:NY x mem=mem:=by
    unfold NY;rw [if_neg (by omega),if_neg (by omega),if_neg (by omega),if_neg (by omega),if_neg (by omega),if_neg (by omega)]
   have e8':(x.1==8)=true:=by rw [e8];rfl
   rw [e8',cond_true] at h5
   have hN:=ac5 h1 e8
   have hB:=hw.2.2.1 e8
   have hd:=h4 e8
   have htr:CP (.ar x b r) mem=(x::((rpt (CP b) x.2.2.2.toNat mem).1++(CP r (rpt (CP b) x.2.2.2.toNat mem).2).1),(CP r (rpt (CP b) x.2.2.2.toNat mem).2).2):=by
    simp only [CP,if_neg e7]
   rw [htr]
   have apy:∀ m:Nat,m <= 20 -> Few (d+1) true ((((o+1:Nat):Int),((o+b.len:Nat):Int),(m:Int))::R):=fun m hm=>by
    obtain ⟨q1,q2,q3,q4⟩:=hf
    refine ⟨⟨by simp only [List.length_cons];omega,by omega⟩,fun r hr=>?_,fun e=>by (cases e),fun r hr=>?_⟩
    ·rcases List.mem_cons.1 hr with rfl | hr
     ·simp only;omega
     ·exact q2 r hr
    ·rcases List.mem_cons.1 hr with rfl | hr
     ·simp only;omega
     ·exact q4 r hr
   have s1:zf l o mem R [x] (o+1) (NY x mem) ((((o+1:Nat):Int),((o+b.len:Nat):Int),((x.2.2.2.toNat - 1:Nat):Int))::R):=zf.step a1 a2 x0 (by have:=hf.1;omega) hf.2.1 (zh hc (by omega)) (by
    unfold gU;rw [if_neg x0,if_neg e7,if_pos e8]
    simp only [Prod.mk.injEq,List.cons.injEq,and_true];omega) (fun e=>absurd e x11) (BH (by omega) (apy (x.2.2.2.toNat - 1) (by omega)).2.2.2)
   rw [heff] at s1
   have s2:=aci (l:=l) (o:=o) (R:=R) (b:=b) (by omega) (fun mem m hm=>xq mem _ h5 a4 (fun r hr=>by
    simp only [List.head?_cons,Option.mem_def,Option.some.injEq] at hr
    subst hr;simp only;omega) (apy m hm)) (x.2.2.2.toNat - 1) mem (by omega)
   rw [show x.2.2.2.toNat - 1+1=x.2.2.2.toNat by omega] at s2
   have s4:=xq (rpt (CP b) x.2.2.2.toNat mem).2 R h6 a5 (zh hc (by omega)) hf
   exact s1.app (s2.app s4)
theorem ahb {t:Tr} (h:Ok 0 [] false t) (mem:Mem):Run t.prog 0 mem [] (CP t mem).1 t.len (CP t mem).2 []:=by
 have:=xq (o:=0) mem [] h (F8 t) (fun r hr=>by (cases hr)) ⟨⟨by simp,by omega⟩,by simp,fun _=>rfl,by simp⟩
 obtain ⟨n2,R3,h1,h2⟩:=this 0 [] rfl
 rw [Nat.zero_add] at h1
 injection h1 with h3 h4
 subst h4
 have:n2=t.len:=by omega
 subst this
 exact h2
theorem O1 {l:List I4}:∀ (a b i:Nat) (s:List Int×List Int),uh l (a+b) i s=(uh l a i s).bind (uh l b (i+a))
 | 0,b,i,s=>by rw [Nat.zero_add,uh];rfl
 | a+1,b,i,s=>by
  rw [show a+1+b=(a+b)+1 by omega,uh,uh]
  cases h:jv l i s with
  | none=>rfl
  | some t=>rw [Option.bind_some,Option.bind_some,O1 a b (i+1) t,show i+1+a=i+(a+1) by omega]
theorem Xi {l:List I4} {i:Nat} {s s':List Int×List Int} (hi:PrI l i s.1 s.2) (h:jv l i s=some s'):∀ k:Nat,k<i -> uj l 9 k -> (k:Int) ∉ s.2 -> s'.1.getD k 0=s.1.getD k 0 /\ (k:Int) ∉ s'.2:=by
 intro k hk h9 ho
 unfold jv at h
 split at h
 ·split at h
  ·cases h
  ·injection h with h;subst h
   refine ⟨rfl,fun h2=>?_⟩
   rcases List.mem_append.1 h2 with h2 | h2
   ·exact ho h2
   ·have:=List.mem_singleton.1 h2;omega
 ·split at h
  ·split at h
   ·cases h
   ·rename_i x hx
    split at h
    ·cases h
    ·injection h with h;subst h
     have hxm:=List.mem_of_getLast? hx
     have:=hi.small x hxm
     obtain ⟨n,rfl⟩:∃ n:Nat,x=(n:Int):=⟨x.toNat,by omega⟩
     refine ⟨?_,fun h2=>ho ((List.dropLast_sublist _).subset h2)⟩
     show (upd s.1 (n:Int) (i:Int)).getD k 0=_
     rw [Mf,oz,if_neg]
     rintro ⟨rfl,_⟩
     exact ho hxm
  ·injection h with h;subst h;exact ⟨rfl,ho⟩
theorem FI {l:List I4}:∀ (m i:Nat) (s s':List Int×List Int),i+m <= l.length -> PrI l i s.1 s.2 -> uh l m i s=some s' -> ∀ k:Nat,k<i -> uj l 9 k -> (k:Int) ∉ s.2 -> s'.1.getD k 0=s.1.getD k 0
 | 0,i,s,s',_,_,h,k,_,_,_=>by injection h with h;subst h;rfl
 | m+1,i,s,s',hm,hi,h,k,hk,h9,ho=>by
  rw [uh,Option.bind_eq_some_iff] at h
  obtain ⟨t,h1,h2⟩:=h
  have:=Xi hi h1 k hk h9 ho
  rw [FI m (i+1) t s' (by omega) (EK (by omega) hi h1) h2 k (by omega) h9 this.2,this.1]
theorem apz {l:List I4} {ps:List Int} (h:OT l=some ps) {n:Nat} (hn:n <= l.length):∃ s:List Int×List Int,PrI l n s.1 s.2 /\ uh l (l.length - n) n s=some (ps,[]) /\ ∀ k,k<n -> uj l 9 k -> ((k:Int)∈s.2↔(n:Int) <= ps.getD k 0):=by
 have hg:=Uv h
 have h0:PrI l 0 (List.replicate l.length 0) []:=⟨by simp,List.Pairwise.nil,(fun _ h=>by cases h),(fun _ h=>by cases h),fun _ h=>by omega,fun _ _ _ h=>by omega,fun _ _ _ h=>by omega,rfl⟩
 rw [show l.length=n+(l.length - n) by omega,O1,Nat.zero_add,Option.bind_eq_some_iff] at hg
 obtain ⟨s,h1,h2⟩:=hg
 have hinv:∀ (m i:Nat) (s s':List Int×List Int),i+m <= l.length -> PrI l i s.1 s.2 -> uh l m i s=some s' -> PrI l (i+m) s'.1 s'.2:=by
  intro m
  induction m with
  | zero=>intro i s s' _ hi h;injection h with h;subst h;exact hi
  | succ m ih =>
   intro i s s' hm hi h
   rw [uh,Option.bind_eq_some_iff] at h
   obtain ⟨t,h1,h2⟩:=h
   have:=ih (i+1) t s' (by omega) (EK (by omega) hi h1) h2
   rw [show i+(m+1)=i+1+m by omega];exact this
 have hln:n+(l.length - n)=l.length:=by omega
 rw [hln] at h1
 have hs:=hinv n 0 _ s (by omega) h0 h1
 rw [Nat.zero_add] at hs
 refine ⟨s,hs,h2,fun k hk h9=>?_⟩
 constructor
 ·intro ho
  -- it is closed behind
  have hfin:=UE h
  obtain ⟨u,g1,g2,g3,_⟩:=hfin.closed k (by omega) h9 (by simp)
  rw [g1]
  have key:∀ (m i:Nat) (s s':List Int×List Int),i+m <= l.length -> PrI l i s.1 s.2 -> uh l m i s=some s' -> (k:Int)∈s.2 -> (k:Int)∈s'.2 \/ (i:Int) <= s'.1.getD k 0:=by
   intro m
   induction m with
   | zero=>intro i s s' _ _ h ho;injection h with h;subst h;exact .inl ho
   | succ m ih =>
    intro i s s' hm hi h ho
    rw [uh,Option.bind_eq_some_iff] at h
    obtain ⟨t,h1,h2⟩:=h
    have hi':=EK (by omega) hi h1
    by_cases e:(k:Int)∈t.2
    ·rcases ih (i+1) t s' (by omega) hi' h2 e with q | q
     ·exact .inl q
     ·exact .inr (by omega)
    ·right
     have hkl:=hi.small _ ho
     rw [FI m (i+1) t s' (by omega) hi' h2 k (by omega) h9 e]
     -- it was closed at i
     unfold jv at h1
     split at h1
     ·split at h1
      ·cases h1
      ·injection h1 with h1;subst h1
       exact absurd (List.mem_append_left _ ho) e
     ·split at h1
      ·split at h1
       ·cases h1
       ·rename_i x hx
        split at h1
        ·cases h1
        ·injection h1 with h1;subst h1
         have hxm:=hi.small x (List.mem_of_getLast? hx)
         obtain ⟨n',rfl⟩:∃ n':Nat,x=(n':Int):=⟨x.toNat,by omega⟩
         have hlen:=hi.len
         show (i:Int) <= (upd s.1 (n':Int) (i:Int)).getD k 0
         have hkn:n'=k:=by
          by_cases hq:n'=k
          ·exact hq
          ·exfalso;apply e
           obtain ⟨r,hr⟩:∃ r,s.2=r++[(n':Int)]:=by
            rcases List.eq_nil_or_concat s.2 with e | ⟨r,y,e⟩
            ·rw [e] at hx;cases hx
            ·rw [List.concat_eq_append] at e
             rw [e] at hx;simp at hx;subst hx;exact ⟨r,e⟩
           show (k:Int)∈s.2.dropLast
           rw [hr] at ho ⊢
           rw [List.dropLast_concat]
           rcases List.mem_append.1 ho with h | h
           ·exact h
           ·have:=List.mem_singleton.1 h;omega
         rw [Mf,oz,if_pos ⟨hkn,by omega⟩];omega
      ·injection h1 with h1;subst h1;exact absurd ho e
  rcases key (l.length - n) n s (ps,[]) (by omega) hs h2 ho with q | q
  ·cases q
  ·simp only at q;omega
 ·intro hge
  by_cases ho:(k:Int)∈s.2
  ·exact ho
  ·obtain ⟨u,g1,g2,g3,_⟩:=hs.closed k hk h9 ho
   have:=FI (l.length - n) n s (ps,[]) (by omega) hs h2 k hk h9 ho
   simp only at this
   omega
structure Prs (l:List I4) (ps:List Int):Prop where
 lock:∀ n,n<l.length -> uj l 9 n -> ∃ u:Nat,ps.getD n 0=(u:Int) /\ n<u /\ u<l.length /\ uj l 10 u /\ vk l u=vk l n
 nest:∀ k j,k<j -> j<l.length -> uj l 9 k -> uj l 9 j -> (j:Int)<ps.getD k 0 -> ps.getD j 0<ps.getD k 0 /\ vk l k≠vk l j
 two:∀ a b n,a<b -> b<n -> n<l.length -> uj l 9 a -> uj l 9 b -> uj l 9 n -> (n:Int)<ps.getD a 0 -> (n:Int)<ps.getD b 0 -> False
 unlock:∀ u,u<l.length -> uj l 10 u -> ∃ n,n<u /\ uj l 9 n /\ ps.getD n 0=(u:Int)
 area:∀ n,n<l.length -> uj l 9 n -> ∀ u:Nat,ps.getD n 0=(u:Int) -> KX l n u=false
theorem ada {l:List I4} {ps:List Int} (h:OT l=some ps):Prs l ps:=by
 have hf:=UE h
 have ahc:∀ n,n<l.length -> ∃ s t:List Int×List Int,PrI l n s.1 s.2 /\ jv l n s=some t /\ PrI l (n+1) t.1 t.2 /\ uh l (l.length - (n+1)) (n+1) t=some (ps,[]) /\ ∀ k,k<n -> uj l 9 k -> ((k:Int)∈s.2↔(n:Int) <= ps.getD k 0):=fun n hn=>by
  obtain ⟨s,h1,h2,h3⟩:=apz h (n:=n) (by omega)
  rw [show l.length - n=(l.length - (n+1))+1 by omega,uh,Option.bind_eq_some_iff] at h2
  obtain ⟨t,h4,h5⟩:=h2
  exact ⟨s,t,h1,h4,EK hn h1 h4,h5,h3⟩
 have unl:∀ u,u<l.length -> uj l 10 u -> ∃ n,n<u /\ uj l 9 n /\ ps.getD n 0=(u:Int) /\ KX l n u=false:=fun u hu h10=>by
  obtain ⟨s,t,h1,h2,h3,h4,h5⟩:=ahc u hu
  have ac4:(l.getD u i0).1=10:=h10
  unfold jv at h2
  rw [if_neg (by rw [ac4];decide),if_pos ac4] at h2
  split at h2
  ·cases h2
  ·rename_i x hx
   split at h2
   ·cases h2
   ·rename_i hc
    injection h2 with h2;subst h2
    have hxm:=List.mem_of_getLast? hx
    have hsm:=h1.small x hxm
    obtain ⟨n,rfl⟩:∃ n:Nat,x=(n:Int):=⟨x.toNat,by omega⟩
    have hl:=h1.lock n hxm
    have hlen:=h1.len
    refine ⟨n,by omega,hl,?_,?_⟩
    ·have hno:(n:Int) ∉ s.2.dropLast:=by
      have hsort:=h1.sorted
      obtain ⟨r,hr⟩:∃ r,s.2=r++[(n:Int)]:=by
       rcases List.eq_nil_or_concat s.2 with e | ⟨r,y,e⟩
       ·rw [e] at hx;cases hx
       ·rw [List.concat_eq_append] at e
        rw [e] at hx;simp at hx;subst hx;exact ⟨r,e⟩
      rw [hr,List.pairwise_append] at hsort
      rw [hr,List.dropLast_concat]
      intro e
      have:=hsort.2.2 _ e (n:Int) (by simp);omega
     have:=FI (l.length - (u+1)) (u+1) (upd s.1 (n:Int) (u:Int),s.2.dropLast) (ps,[]) (by omega) h3 h4 n (by omega) hl hno
     simp only at this
     rw [this,Mf,oz,if_pos ⟨rfl,by omega⟩]
    ·cases hs:KX l n u with
     | false=>rfl
     | true=>exact absurd (.inr (by rw [Int.toNat_natCast];exact hs)) hc
 refine ⟨fun n hn h9=>?_,fun k j hkj hj h1 h2 h3=>?_,fun a b n hab hbn hn h1 h2 h3 h4 h5=>?_,fun u hu h10=>?_,fun n hn h9 u hu=>?_⟩
 ·exact hf.closed n hn h9 (by simp)
 ·obtain ⟨_,q2,q3⟩:=hf.nest k j hkj hj h1 h2 (by simp) h3
  exact ⟨q2,q3⟩
 ·obtain ⟨s,t,g1,g2,_,_,g5⟩:=ahc n hn
  have ha:=(g5 a (by omega) h1).2 (by omega)
  have hb:=(g5 b hbn h2).2 (by omega)
  have h9:(l.getD n i0).1=9:=h3
  unfold jv at g2
  rw [if_pos h9] at g2
  split at g2
  ·cases g2
  ·rename_i hc
   have hlt:s.2.length<2:=by
    by_cases e:s.2.length<2
    ·exact e
    ·exact absurd (.inl (by omega)) hc
   match hs:s.2,ha,hb,hlt with
   | [],ha,_,_=>cases ha
   | [y],ha,hb,_ =>
    have e1:=List.mem_singleton.1 ha
    have e2:=List.mem_singleton.1 hb
    omega
   | y::z::r,_,_,hlt=>simp only [List.length_cons] at hlt;omega
 ·obtain ⟨n,q1,q2,q3,_⟩:=unl u hu h10
  exact ⟨n,q1,q2,q3⟩
 ·obtain ⟨u',g1,g2,g3,g4,_⟩:=hf.closed n hn h9 (by simp)
  have:u'=u:=by omega
  subst this
  obtain ⟨n',q1,q2,q3,q4⟩:=unl u' g3 g4
  by_cases e:n'=n
  ·subst e;exact q4
  ·exfalso
   by_cases lt:n'<n
   ·have:=(hf.nest n' n lt hn q2 h9 (by simp) (by omega)).2.1;omega
   ·have:=(hf.nest n n' (by omega) (by omega) h9 q2 (by simp) (by omega)).2.1;omega
theorem UM {l:List I4} (hm:∀ x∈l,jm x=true) (hl:l.length <= 900) {a b c:Nat} {j:Int} (hab:a<b) (hbc:b<c) (hc:c<l.length) (h:∀ n,n=a \/ n=b \/ n=c -> (l.getD n i0).1=8 /\ (n:Int)<j /\ j <= n+wd (l.getD n i0)):3 <= dx j (ko 0 l):=by
 have one:∀ n,n=a \/ n=b \/ n=c -> dx j (pc n (l.getD n i0))=1:=fun n hn=>by
  obtain ⟨h8,h1,h2⟩:=h n hn
  have hlt:n<l.length:=by omega
  have hA:isA (l.getD n i0)=true:=by simp only [isA,h8];rfl
  rw [Uw (hm _ (iq hlt)) (by omega),if_pos hA,dx,List.countP_cons,List.countP_nil]
  have e3:(p9 n (l.getD n i0)).2.2.2=true:=by simp only [p9,h8];rfl
  rw [e3,show ou (p9 n (l.getD n i0)) j=true by rw [o7];simp only [p9];omega];rfl
 have up:∀ n,n<l.length -> dx j (ko 0 (l.take (n+1)))=dx j (ko 0 (l.take n))+dx j (pc n (l.getD n i0)):=fun n hn=>by
  have:l.take (n+1)=l.take n++[l.getD n i0]:=by rw [List.take_add_one,getD_in hn,List.getElem?_eq_getElem hn];rfl
  rw [this,I9,UA,List.length_take,Nat.zero_add,show min n l.length=n by omega]
  simp [ko]
 have mono:∀ d n,n+d <= l.length -> dx j (ko 0 (l.take n)) <= dx j (ko 0 (l.take (n+d))):=fun d=>by
  induction d with
  | zero=>intro n _;simp
  | succ d ih=>intro n hn;have:=ih n (by omega);rw [show n+(d+1)=n+d+1 by omega,up (n+d) (by omega)];omega
 have h1:=up a (by omega)
 have h2:=up b (by omega)
 have h3:=up c (by omega)
 rw [one a (.inl rfl)] at h1
 rw [one b (.inr (.inl rfl))] at h2
 rw [one c (.inr (.inr rfl))] at h3
 have m1:=mono (b - (a+1)) (a+1) (by omega)
 have m2:=mono (c - (b+1)) (b+1) (by omega)
 have m3:=mono (l.length - (c+1)) (c+1) (by omega)
 rw [show a+1+(b - (a+1))=b by omega] at m1
 rw [show b+1+(c - (b+1))=c by omega] at m2
 rw [show c+1+(l.length - (c+1))=l.length by omega,List.take_length] at m3
 omega
def eu (l:List I4) (o e:Nat):Nat -> Prop
 | 0=>True
 | 1=>∃ a,a<o /\ uj l 8 a /\ e <= a+wd (l.getD a i0)+1
 | 2=>∃ a b,a<b /\ b<o /\ uj l 8 a /\ uj l 8 b /\ e <= a+wd (l.getD a i0)+1 /\ e <= b+wd (l.getD b i0)+1
 | _+3=>False
def Hd (l:List I4) (ps:List Int) (o e:Nat) (hs:List Int):Prop:=∃ H:List Nat,hs=H.map (vk l) /\ H.Pairwise (·<·) /\ ∀ k∈H,k<o /\ uj l 9 k /\ (e:Int) <= ps.getD k 0
theorem JU {l:List I4} {o e o' e':Nat} (ho:o <= o') (he:e' <= e):∀ {d:Nat},eu l o e d -> eu l o' e' d
 | 0,_=>trivial
 | 1,⟨a,h1,h2,h3⟩=>⟨a,by omega,h2,by omega⟩
 | 2,⟨a,b,h1,h2,h3,h4,h5,h6⟩=>⟨a,b,h1,by omega,h3,h4,by omega,by omega⟩
 | _+3,h=>h.elim
theorem JV {l:List I4} {ps:List Int} {o e o' e':Nat} {hs:List Int} (ho:o <= o') (he:e' <= e) (h:Hd l ps o e hs):Hd l ps o' e' hs:=by
 obtain ⟨H,h1,h2,h3⟩:=h
 exact ⟨H,h1,h2,fun k hk=>by obtain ⟨q1,q2,q3⟩:=h3 k hk;exact ⟨by omega,q2,by omega⟩⟩
theorem O4 {l:List I4} {o:Nat} {x:I4} {w:List I4} (hx:l.getD o i0=x) (hl:o<l.length) (h:At l (o+1) w):At l o (x::w):=by
 obtain ⟨h1,h2⟩:=h
 refine ⟨by simp only [List.length_cons];omega,fun j hj=>?_⟩
 cases j with
 | zero=>simpa using hx
 | succ j =>
  simp only [List.length_cons] at hj
  rw [List.getD_cons_succ,<- h2 j (by omega)];congr 1;omega
theorem Yr {l:List I4} {o:Nat} {u w:List I4} (h1:At l o u) (h2:At l (o+u.length) w):At l o (u++w):=by
 obtain ⟨a1,a2⟩:=h1
 obtain ⟨b1,b2⟩:=h2
 refine ⟨by simp only [List.length_append];omega,fun j hj=>?_⟩
 simp only [List.length_append] at hj
 by_cases e:j<u.length
 ·rw [mo e,a2 j e]
 ·rw [jq (by omega),<- b2 (j - u.length) (by omega)];congr 1;omega
theorem ahd {x:I4} (h:jm x=true):x.1=0 \/ x.1=7 \/ x.1=8 \/ x.1=9 \/ x.1=10 \/ plain x:=by unfold plain;omega
theorem ajE {x:I4} (h:jm x=true) (e:x.1=9 \/ x.1=10):(0 <= x.2.1 /\ x.2.1 <= 3) /\ x.2.2.1=0 /\ x.2.2.2=0:=by
 rcases e with e | e <;> simpa [jm,e,yg] using h
theorem parse {l:List I4} {ps:List Int} (g:y5 l ps) (P:Prs l ps):∀ (len o d:Nat) (hs:List Int) (ia:Bool),o+len<l.length -> (∀ n,o <= n -> n<o+len -> n+wd (l.getD n i0)<o+len) ->
  (∀ n,o <= n -> n<o+len -> uj l 9 n -> ps.getD n 0<((o+len:Nat):Int)) -> (∀ n u:Nat,o <= u -> u<o+len -> uj l 9 n -> ps.getD n 0=(u:Int) -> o <= n) ->
  eu l o (o+len) d -> Hd l ps o (o+len) hs -> (ia=true -> ∃ a,a<o /\ isA (l.getD a i0)=true /\ o+len <= a+wd (l.getD a i0)+1) ->
  ∃ t:Tr,t.len=len /\ At l o t.flat /\ Ok d hs ia t:=by
 have hl2:=g.len2
 intro len
 induction len using Nat.strongRecOn with
 | _ len ih =>
 intro o d hs ia hlen S1 S2 S3 hB hH hI
 match len,ih,hlen,S1,S2,S3,hB,hH,hI with
 | 0,_,_,_,_,_,_,_,_=>exact ⟨.nil,rfl,⟨by simp [Tr.flat];omega,by simp [Tr.flat]⟩,trivial⟩
 | len+1,ih,hlen,S1,S2,S3,hB,hH,hI =>
 have hol:o<l.length:=by omega
 have hm:=g.may _ (iq (z:=i0) hol)
 rcases ahd hm with e | e | e | e | e | e
 ·exact absurd ((g.end_ o hol).1 e) (by omega)
 ·-- a reach
  have hA:isA (l.getD o i0)=true:=by simp only [isA,e];rfl
  have hw:=AA hm hA
  have h1:=S1 o (by omega) (by omega)
  obtain ⟨n,hn⟩:∃ n,n=wd (l.getD o i0):=⟨_,rfl⟩
  rw [<- hn] at h1 hw
  have inb:∀ n',o<n' -> n' <= o+n -> n'+wd (l.getD n' i0) <= o+n:=fun n' q1 q2=>(by have:=acj g hA (n:=n') (by omega) (by rw [<- hn];exact ⟨q1,q2⟩);omega)
  obtain ⟨b,b1,b2,b3⟩:=ih n (by omega) (o+1) d hs true (by omega) (fun n' q1 q2=>by have:=inb n' (by omega) (by omega);omega)
   (fun n' q1 q2 q3=>(by have:=FJ g P hA (n:=n') (by omega) q3 (by omega) (by omega);omega))
   (fun n' u q1 q2 q3 q4=>EN g P hA q3 q4 (by omega) (by omega))
   (JU (by omega) (by omega) hB) (JV (by omega) (by omega) hH) (fun _=>⟨o,by omega,hA,by omega⟩)
  obtain ⟨r,r1,r2,r3⟩:=ih (len - n) (by omega) (o+1+n) d hs ia (by omega) (fun n' q1 q2=>by have:=S1 n' (by omega) (by omega);omega)
   (fun n' q1 q2 q3=>by have:=S2 n' (by omega) (by omega) q3;omega)
   (fun n' u q1 q2 q3 q4=>by
    have:=S3 n' u (by omega) (by omega) q3 q4
    by_cases f:n'=o
    ·subst f;exact absurd (show (l.getD n' i0).1=9 from q3) (by omega)
    ·by_cases f2:n' <= o+n
     ·have:=FJ g P hA (by omega) q3 (show o<n' by omega) (by omega);omega
     ·omega)
   (JU (by omega) (by omega) hB) (JV (by omega) (by omega) hH) (fun q=>by obtain ⟨a,a1,a2,a3⟩:=hI q;exact ⟨a,by omega,a2,by omega⟩)
  refine ⟨.ar (l.getD o i0) b r,by simp only [Tr.len];omega,?_,⟨hm,hA,by omega⟩,fun e2=>by omega,?_,r3⟩
  ·simp only [Tr.flat]
   exact O4 rfl hol (Yr b2 (by rw [iw,b1];exact r2))
  ·rw [show ((l.getD o i0).1==8)=false by rw [e];rfl];exact b3
 ·-- a body
  have hA:isA (l.getD o i0)=true:=by simp only [isA,e];rfl
  have hw:=AA hm hA
  have h1:=S1 o (by omega) (by omega)
  obtain ⟨n,hn⟩:∃ n,n=wd (l.getD o i0):=⟨_,rfl⟩
  rw [<- hn] at h1 hw
  have inb:∀ n',o<n' -> n' <= o+n -> n'+wd (l.getD n' i0) <= o+n:=fun n' q1 q2=>(by have:=acj g hA (n:=n') (by omega) (by rw [<- hn];exact ⟨q1,q2⟩);omega)
  have hd:d<2 /\ eu l (o+1) (o+1+n) (d+1):=by
   match d,hB with
   | 0,_=>exact ⟨by omega,o,by omega,e,by omega⟩
   | 1,⟨a,a1,a2,a3⟩=>exact ⟨by omega,a,o,a1,by omega,a2,e,by omega,by omega⟩
   | 2,⟨a,b,a1,a2,a3,a4,a5,a6⟩ =>
    have:=UM g.may (by omega) (a:=a) (b:=b) (c:=o) (j:=((o+1:Nat):Int)) a1 a2 hol (fun n' hn'=>by
     rcases hn' with rfl | rfl | rfl
     ·exact ⟨a3,by omega,by omega⟩
     ·exact ⟨a4,by omega,by omega⟩
     ·exact ⟨e,by omega,by omega⟩)
    have:=g.bodies (o+1) (by omega)
    omega
   | _+3,h=>exact h.elim
  obtain ⟨b,b1,b2,b3⟩:=ih n (by omega) (o+1) (d+1) hs true (by omega) (fun n' q1 q2=>by have:=inb n' (by omega) (by omega);omega)
   (fun n' q1 q2 q3=>(by have:=FJ g P hA (n:=n') (by omega) q3 (by omega) (by omega);omega))
   (fun n' u q1 q2 q3 q4=>EN g P hA q3 q4 (by omega) (by omega))
   hd.2 (JV (by omega) (by omega) hH) (fun _=>⟨o,by omega,hA,by omega⟩)
  obtain ⟨r,r1,r2,r3⟩:=ih (len - n) (by omega) (o+1+n) d hs ia (by omega) (fun n' q1 q2=>by have:=S1 n' (by omega) (by omega);omega)
   (fun n' q1 q2 q3=>by have:=S2 n' (by omega) (by omega) q3;omega)
   (fun n' u q1 q2 q3 q4=>by
    have:=S3 n' u (by omega) (by omega) q3 q4
    by_cases f:n'=o
    ·subst f;exact absurd (show (l.getD n' i0).1=9 from q3) (by omega)
    ·by_cases f2:n' <= o+n
     ·have:=FJ g P hA (by omega) q3 (show o<n' by omega) (by omega);omega
     ·omega)
   (JU (by omega) (by omega) hB) (JV (by omega) (by omega) hH) (fun q=>by obtain ⟨a,a1,a2,a3⟩:=hI q;exact ⟨a,by omega,a2,by omega⟩)
  refine ⟨.ar (l.getD o i0) b r,by simp only [Tr.len];omega,?_,⟨hm,hA,by omega⟩,fun _=>hd.1,?_,r3⟩
  ·simp only [Tr.flat]
   exact O4 rfl hol (Yr b2 (by rw [iw,b1];exact r2))
  ·rw [show ((l.getD o i0).1==8)=true by rw [e];rfl];exact b3
 ·-- a pair
  obtain ⟨u,u1,u2,u3,u4,u5⟩:=P.lock o hol e
  have hu:=S2 o (by omega) (by omega) e
  rw [u1] at hu
  have h9:=ajE hm (.inl e)
  have hmu:=ajE (g.may _ (iq (z:=i0) u3)) (.inr u4)
  have hxo:l.getD o i0=(9,vk l o,0,0):=Prod.ext e (Prod.ext rfl (Prod.ext h9.2.1 h9.2.2))
  have hxu:l.getD u i0=(10,vk l o,0,0):=Prod.ext u4 (Prod.ext u5 (Prod.ext hmu.2.1 hmu.2.2))
  have hsep:=(F6 g.may (by omega)).1 (P.area o hol e u u1)
  obtain ⟨H,H1,H2,H3⟩:=hH
  have hnot:vk l o ∉ hs:=by
   rw [H1];intro hq
   obtain ⟨k,k1,k2⟩:=List.mem_map.1 hq
   obtain ⟨k3,k4,k5⟩:=H3 k k1
   exact (P.nest k o k3 hol k4 e (by omega)).2 k2
  have aq3:hs.length<2:=by
   rw [H1,List.length_map]
   match H,H2,H3 with
   | [],_,_=>simp
   | [a],_,_=>simp
   | a::b::q,H2,H3 =>
    exfalso
    obtain ⟨a1,a2,a3⟩:=H3 a (by simp)
    obtain ⟨b1,b2,b3⟩:=H3 b (by simp)
    have hab:a<b:=(List.pairwise_cons.1 H2).1 b (by simp)
    exact P.two a b o hab b1 hol a2 b2 e (by omega) (by omega)
  obtain ⟨b,b1,b2,b3⟩:=ih (u - (o+1)) (by omega) (o+1) d (hs++[vk l o]) ia (by omega) (fun n' q1 q2=>by
    by_cases hA:isA (l.getD n' i0)=true
    ·have:=hsep n' (by omega) hA
     by_cases f:n'+wd (l.getD n' i0)<o+1+(u - (o+1))
     ·exact f
     ·have:=this.2 ⟨by omega,by omega⟩;omega
    ·rw [su (by simpa using hA)];omega)
   (fun n' q1 q2 q3=>by have:=(P.nest o n' (by omega) (by omega) e q3 (by omega)).1;omega)
   (fun n' v q1 q2 q3 q4=>by
    have:=S3 n' v (by omega) (by omega) q3 q4
    by_cases f:n'=o
    ·subst f;omega
    ·omega)
   (JU (by omega) (by omega) hB) ⟨H++[o],by rw [H1,List.map_append];rfl,by
    rw [List.pairwise_append]
    exact ⟨H2,List.pairwise_singleton _ _,fun a ha b hb=>by rw [List.mem_singleton.1 hb];exact (H3 a ha).1⟩,fun k hk=>by
    rcases List.mem_append.1 hk with hk | hk
    ·obtain ⟨k1,k2,k3⟩:=H3 k hk;exact ⟨by omega,k2,by omega⟩
    ·rw [List.mem_singleton.1 hk];exact ⟨by omega,e,by omega⟩⟩ (fun q=>by obtain ⟨a,a1,a2,a3⟩:=hI q;exact ⟨a,by omega,a2,by omega⟩)
  obtain ⟨r,r1,r2,r3⟩:=ih (o+len - u) (by omega) (u+1) d hs ia (by omega) (fun n' q1 q2=>by have:=S1 n' (by omega) (by omega);omega)
   (fun n' q1 q2 q3=>by have:=S2 n' (by omega) (by omega) q3;omega)
   (fun n' v q1 q2 q3 q4=>by
    have:=S3 n' v (by omega) (by omega) q3 q4
    by_cases f:n'=o
    ·subst f;omega
    ·by_cases f2:n'<u
     ·have:=(P.nest o n' (by omega) (by omega) e q3 (by omega)).1;omega
     ·by_cases f3:n'=u
      ·subst f3;exact absurd (show (l.getD n' i0).1=9 from q3) (by rw [show (l.getD n' i0).1=10 from u4];decide)
      ·omega)
   (JU (by omega) (by omega) hB) (JV (by omega) (by omega) ⟨H,H1,H2,H3⟩) (fun q=>by obtain ⟨a,a1,a2,a3⟩:=hI q;exact ⟨a,by omega,a2,by omega⟩)
  refine ⟨.lk (vk l o) b r,by simp only [Tr.len];omega,?_,h9.1,⟨hnot,aq3⟩,b3,r3⟩
  simp only [Tr.flat]
  refine O4 hxo hol (Yr b2 ?_)
  rw [iw,b1,show o+1+(u - (o+1))=u by omega]
  exact O4 hxu u3 r2
 ·-- an unlock whose lock stands ahead of all
  obtain ⟨n',q1,q2,q3⟩:=P.unlock o hol e
  have:=S3 n' o (by omega) (by omega) q2 q3
  omega
 ·-- a plain one
  obtain ⟨r,r1,r2,r3⟩:=ih len (by omega) (o+1) d hs ia (by omega) (fun n' q1 q2=>by have:=S1 n' (by omega) (by omega);omega)
   (fun n' q1 q2 q3=>by have:=S2 n' (by omega) (by omega) q3;omega)
   (fun n' v q1 q2 q3 q4=>by
    have:=S3 n' v (by omega) (by omega) q3 q4
    by_cases f:n'=o
    ·subst f;exact absurd q3 e.2.2.2.1
    ·omega)
   (JU (by omega) (by omega) hB) (JV (by omega) (by omega) hH) (fun q=>by obtain ⟨a,a1,a2,a3⟩:=hI q;exact ⟨a,by omega,a2,by omega⟩)
  refine ⟨.one (l.getD o i0) r,by simp only [Tr.len];omega,O4 rfl hol r2,hm,e,fun e11=>?_,r3⟩
  obtain ⟨m1,m2⟩:=g.marks o hol e11
  constructor
  ·cases ia with
   | false=>rfl
   | true =>
    exfalso
    obtain ⟨a,a1,a2,a3⟩:=hI rfl
    rw [List.any_eq_false] at m1
    have:=m1 (p9 a (l.getD a i0)) ((ny l 0 _ g.may (by omega)).2 ⟨a,by omega,a2,by rw [Nat.zero_add]⟩)
    rw [o7] at this
    simp only [p9] at this
    omega
  ·obtain ⟨H,H1,H2,H3⟩:=hH
   cases H with
   | nil=>exact H1
   | cons k q =>
    exfalso
    obtain ⟨k1,k2,k3⟩:=H3 k (by simp)
    have:=m2 k k1
    omega
where
 acj {l:List I4} {ps:List Int} (g:y5 l ps) {o n:Nat} (hA:isA (l.getD o i0)=true) (hn:n<l.length) (h:o<n /\ n <= o+wd (l.getD o i0)):n+wd (l.getD n i0) <= o+wd (l.getD o i0):=by
  have hl2:=g.len2
  by_cases hB:isA (l.getD n i0)=true
  ·have:=g.bad (p9 n (l.getD n i0)) ((ny l 0 _ g.may (by omega)).2 ⟨n,hn,hB,by rw [Nat.zero_add]⟩) (p9 o (l.getD o i0)) ((ny l 0 _ g.may (by omega)).2 ⟨o,by omega,hA,by rw [Nat.zero_add]⟩)
   unfold GJ at this
   rw [Bool.or_eq_false_iff] at this
   have h2:=this.1
   have hq:ou (p9 o (l.getD o i0)) (p9 n (l.getD n i0)).2.2.1=true:=o7.2 (by simp only [p9];omega)
   rw [hq,Bool.true_and,Bool.not_eq_false'] at h2
   unfold inA at h2
   rw [Bool.and_eq_true,o7,o7] at h2
   simp only [p9] at h2
   omega
  ·rw [su (by simpa using hB)];omega
 FJ {l:List I4} {ps:List Int} (g:y5 l ps) (P:Prs l ps) {o n:Nat} (hA:isA (l.getD o i0)=true) (hn:n<l.length) (h9:uj l 9 n) (h1:o<n) (h2:n <= o+wd (l.getD o i0)):ps.getD n 0<((o+wd (l.getD o i0)+1:Nat):Int):=by
  have hl2:=g.len2
  obtain ⟨u,u1,_⟩:=P.lock n hn h9
  have:=(F6 g.may (by omega)).1 (P.area n hn h9 u u1) o (by omega) hA
  have:=this.1 ⟨h1,h2⟩
  omega
 EN {l:List I4} {ps:List Int} (g:y5 l ps) (P:Prs l ps) {o n u:Nat} (hA:isA (l.getD o i0)=true) (h9:uj l 9 n) (hu:ps.getD n 0=(u:Int)) (h1:o+1 <= u) (h2:u <= o+wd (l.getD o i0)):o+1 <= n:=by
  have hl2:=g.len2
  have hn:n<l.length:=by
   by_cases f:n<l.length
   ·exact f
   ·have:l.getD n i0=i0:=NK (by omega)
    unfold uj at h9;rw [this] at h9;exact absurd h9 (by decide)
  have hol:o<l.length:=by
   by_cases f:o<l.length
   ·exact f
   ·rw [NK (by omega)] at hA;exact absurd hA (by decide)
  have:=(F6 g.may (by omega)).1 (P.area n hn h9 u hu) o hol hA
  have:=this.2 ⟨by omega,h2⟩
  omega
theorem IE {l:List I4} (h:qw l=true):∃ t:Tr,Ok 0 [] false t /\ l=t.prog /\ t.len<24:=by
 obtain ⟨ps,g⟩:=uy.1 h
 have hl1:=g.len1
 have hl2:=g.len2
 have P:=ada g.pairs
 have hlast:(l.getD (l.length - 1) i0).1=0:=(g.end_ (l.length - 1) (by omega)).2 (by omega)
 obtain ⟨t,t1,t2,t3⟩:=parse g P (l.length - 1) 0 0 [] false (by omega) (fun n h1 h2=>by
   by_cases hA:isA (l.getD n i0)=true
   ·have:=g.last (p9 n (l.getD n i0)) ((ny l 0 _ g.may (by omega)).2 ⟨n,by omega,hA,by rw [Nat.zero_add]⟩)
    have e:(p9 n (l.getD n i0)).2.1=((n+wd (l.getD n i0):Nat):Int):=rfl
    omega
   ·rw [su (by simpa using hA)];omega)
  (fun n h1 h2 h9=>by
   obtain ⟨u,u1,u2,u3,u4,_⟩:=P.lock n (by omega) h9
   have:u≠l.length - 1:=fun e=>by
    subst e
    rw [show (l.getD (l.length - 1) i0).1=10 from u4] at hlast;exact absurd hlast (by decide)
   omega) (fun n u _ _ _ _=>by omega) trivial ⟨[],rfl,List.Pairwise.nil,fun k hk=>by cases hk⟩ (fun e=>by cases e)
 have hz:l.getD (l.length - 1) i0=i0:=by
  have:=g.may _ (iq (z:=i0) (l:=l) (i:=l.length - 1) (by omega))
  have h3:(l.getD (l.length - 1) i0).2.1=0 /\ (l.getD (l.length - 1) i0).2.2.1=0 /\ (l.getD (l.length - 1) i0).2.2.2=0:=by
   generalize l.getD (l.length - 1) i0=x at this hlast
   simpa [jm,hlast] using this
  exact Prod.ext hlast (Prod.ext h3.1 (Prod.ext h3.2.1 h3.2.2))
 refine ⟨t,t3,?_,by omega⟩
 have hpl:=xk t
 apply List.ext_getElem (by omega)
 intro n h1 h2
 rw [<- getD_in (z:=i0) h1,<- getD_in (z:=i0) h2]
 by_cases e:n<t.len
 ·have:=t2.2 n (by rw [iw];exact e)
  rw [Nat.zero_add] at this
  rw [this]
  unfold Tr.prog
  rw [mo (by rw [iw];exact e)]
 ·have:n=l.length - 1:=by omega
  subst this
  rw [hz,show l.length - 1=t.len by omega,CF]
abbrev ajF (a:Int):Mem:=(a,0,0,0,0,0,0,0)
theorem ajG (a:Int) (h:DT a):inM (ajF a):=by
 intro x hx
 simp only [Gr,List.mem_cons,List.not_mem_nil,or_false] at hx
 rcases hx with rfl | rfl | rfl | rfl | rfl | rfl | rfl | rfl
 ·exact h
 all_goals exact ⟨by omega,by omega⟩
theorem BI {x y:Int} (q:Int) (h:x=y+q * 18446744073709551616):IntKind.i64.wrap x=IntKind.i64.wrap y:=by
 obtain ⟨q2,h2⟩:=CO y
 refine UK (AB _) (q2 - q) ?_
 rw [h2,h];grind
theorem KT (x:Int):∃ q:Int,IntKind.u64.wrap x=x+q * 18446744073709551616:=⟨-(x / 18446744073709551616),by rw [NU];omega⟩
theorem w_u (x:Int):IntKind.i64.wrap (IntKind.u64.wrap x)=IntKind.i64.wrap x:=by
 obtain ⟨q,h⟩:=KT x
 exact BI q h
theorem apB (a b:Int):IntKind.i64.wrap (IntKind.u64.wrap (IntKind.u64.wrap a+IntKind.u64.wrap b))=IntKind.i64.wrap (a+b):=by
 rw [w_u]
 obtain ⟨q1,h1⟩:=KT a
 obtain ⟨q2,h2⟩:=KT b
 exact BI (q1+q2) (by rw [h1,h2];grind)
theorem apC (a b:Int):IntKind.i64.wrap (IntKind.u64.wrap (IntKind.u64.wrap a - IntKind.u64.wrap b))=IntKind.i64.wrap (a - b):=by
 rw [w_u]
 obtain ⟨q1,h1⟩:=KT a
 obtain ⟨q2,h2⟩:=KT b
 exact BI (q1 - q2) (by rw [h1,h2];grind)
theorem apD (a b:Int):IntKind.i64.wrap (IntKind.u64.wrap (IntKind.u64.wrap a * IntKind.u64.wrap b))=IntKind.i64.wrap (a * b):=by
 rw [w_u]
 obtain ⟨q1,h1⟩:=KT a
 obtain ⟨q2,h2⟩:=KT b
 exact BI (q1 * b+q2 * a+q1 * q2 * 18446744073709551616) (by rw [h1,h2];grind)
theorem anm (a c:Int):IntKind.i64.wrap (IntKind.u64.wrap (IntKind.u64.wrap a * c))=IntKind.i64.wrap (a * c):=by
 rw [w_u]
 obtain ⟨q1,h1⟩:=KT a
 exact BI (q1 * c) (by rw [h1];grind)
theorem aq4 {v:Int} (h:DT v):IntKind.i64.wrap v=v:=Ua h.1 h.2
theorem LW {R:Type} {b:Int} {x:Option R} (h:0 <= b):Tk b x=x:=by unfold Tk;rw [if_neg (by omega)]
theorem ajH (k:Nat) {v n:Int} (hv:DT v) (h1:-63 <= n) (h2:n <= 63):aiJ k v n=some ((BU v n,()),()):=by
 unfold aiJ BU
 rw [Rk (by omega),Rk (by omega)]
 by_cases e:n<0
 ·rw [Rj e,if_neg (by omega),if_neg (by omega),Ua (n:=0 - n) (by omega) (by omega),LW (by omega)]
  unfold Tn
  have:min (0 - n).toNat IntKind.i64.bits=(-n).toNat:=by
   have:IntKind.i64.bits=64:=rfl
   omega
  rw [this]
 ·rw [Rk e,LW (by omega)]
  unfold Tm
  have:min n.toNat IntKind.u64.bits=n.toNat:=by
   have:IntKind.u64.bits=64:=rfl
   omega
  rw [this,anm]
  by_cases e0:n=0
  ·subst e0;rw [if_pos rfl];simp [aq4 hv]
  ·rw [if_neg e0,if_pos (by omega)]
theorem adb {n:Nat} (h1:1 <= n) (h:n <= 64):(9223372036854775808:Int)=2 ^ (n - 1) * 2 ^ (64 - n):=by
 rw [<- Int.pow_add,show n - 1+(64 - n)=63 by omega];decide
theorem ajI (k:Nat) {v n:Int} (h1:1 <= n) (h2:n <= 64):aiK k v n=some ((AJ v n,()),()):=by
 unfold aiK
 rw [Rk (by omega),Rk (by omega),Ua (n:=64 - n) (by omega) (by omega),LW (by omega),LW (by omega)]
 obtain ⟨m,rfl⟩:∃ m:Nat,n=(m:Int):=⟨n.toNat,by omega⟩
 unfold Tn Tm AJ
 have e:min ((64:Int) - (m:Int)).toNat IntKind.i64.bits=64 - m:=by
  have:IntKind.i64.bits=64:=rfl
  omega
 rw [e,Int.toNat_natCast]
 obtain ⟨q,hq⟩:=CO (v * 2 ^ (64 - m))
 have hin:=AB (v * 2 ^ (64 - m))
 rw [hq] at hin ⊢
 have hs0:(0:Int)<2 ^ (64 - m):=Int.pow_pos (by omega)
 have hn0:(0:Int)<2 ^ m:=Int.pow_pos (by omega)
 have hh:=JR (n:=m) (by omega)
 have hp:=adb (n:=m) (by omega) (by omega)
 have hd:=Xg (n:=m) (by omega)
 have aq5:v * 2 ^ (64 - m)+q * 18446744073709551616=(v+q * 2 ^ m) * 2 ^ (64 - m):=by rw [hd];grind
 rw [aq5] at hin ⊢
 rw [Int.fdiv_eq_ediv_of_nonneg _ (by omega),Int.mul_ediv_cancel _ (by omega)]
 have hmod:v % 2 ^ m=(v+q * 2 ^ m) % 2 ^ m:=by rw [Int.add_mul_emod_self_right]
 rw [hmod]
 generalize v+q * 2 ^ m=r at *
 unfold DT at hin
 have hr1:r<2 ^ (m - 1):=by
  by_cases f:r<2 ^ (m - 1)
  ·exact f
  ·have:=Int.mul_le_mul_of_nonneg_right (show (2:Int) ^ (m - 1) <= r by omega) (show (0:Int) <= 2 ^ (64 - m) by omega)
   omega
 have hr2:-(2 ^ (m - 1)) <= r:=by
  by_cases f:-(2 ^ (m - 1)) <= r
  ·exact f
  ·have h3:=Int.mul_le_mul_of_nonneg_right (show r <= -(2 ^ (m - 1)) - 1 by omega) (show (0:Int) <= 2 ^ (64 - m) by omega)
   have h4:(-(2 ^ (m - 1)) - 1) * (2:Int) ^ (64 - m) = -(2 ^ (m - 1) * 2 ^ (64 - m)) - 2 ^ (64 - m):=by grind
   omega
 congr 3
 by_cases f:0 <= r
 ·rw [Int.emod_eq_of_lt f (by omega),if_neg (by omega)]
 ·have:r % 2 ^ m=r+2 ^ m:=by
   rw [<- Int.add_emod_right,Int.emod_eq_of_lt (by omega) (by omega)]
  rw [this,if_pos (by omega)];omega
theorem QV {k:Nat} {pc a b c d e f g h:Int} {ov:Bool} {t1 t2 t3 t4 t5 t6 t7 t8 t9:Int} {t10:Bool}:∀ (R:List dz) (j:Nat),R.length<j -> R.length <= 900 -> (∀ r∈R,r.2.2 <= 1000) ->
  TY k j pc a b c d e f g h R.reverse ov t1 t2 t3 t4 t5 t6 t7 t8 t9 t10 (R.length:Int)=some ((((ni pc R).1,(a,b,c,d,e,f,g,h),(ni pc R).2.reverse,ov),()),())
 | [],j,hj,_,_=>by
  obtain ⟨j',rfl⟩:∃ j',j=j'+1:=⟨j - 1,by omega⟩
  rw [Wx,TW,Rk (by simp)]
  rfl
 | r::R,j,hj,hl,hb=>by
  obtain ⟨j',rfl⟩:∃ j',j=j'+1:=⟨j - 1,by omega⟩
  simp only [List.length_cons] at hj hl
  have hlen:((R.reverse++[r]).length:Int)=(R.length:Int)+1:=by simp
  have hw:IntKind.i64.wrap (((r::R).length:Int) - 1)=(R.length:Int):=by simp only [List.length_cons];rw [Ua (by omega) (by omega)];omega
  have hrd:rd (R.reverse++[r]) (R.length:Int) (0,0,0)=r:=by rw [Px,jq (by simp)];simp
  have htk:(R.reverse++[r]).take (R.length:Int).toNat=R.reverse:=by
   rw [Int.toNat_natCast,List.take_append_of_le_length (by simp)];exact List.take_of_length_le (by simp)
  have hup:∀ q:dz,upd (R.reverse++[r]) (R.length:Int) q=R.reverse++[q]:=fun q=>by
   rw [Mf,List.set_append_right _ _ (by simp)];simp
  have hr:=hb r List.mem_cons_self
  rw [List.reverse_cons,Wx,TW,hw,Rj (by simp only [List.length_cons];omega),Lf (by omega) (by omega),hrd,htk,ni]
  by_cases e1:r.2.1<pc
  ·rw [Rj e1,if_pos e1,Lf (by omega) (by omega),Rc (by omega) (by omega) (by omega),hup]
   by_cases e2:r.2.2>0
   ·rw [Rj e2,if_pos e2,Ua (by omega) (by omega),List.reverse_cons]
   ·rw [Rk e2,if_neg e2,List.length_reverse]
    exact QV R j' (by omega) (by omega) (fun q hq=>hb q (List.mem_cons_of_mem _ hq))
  ·rw [Rk e1,if_neg e1,List.reverse_cons]
theorem ano {x:I4} (h:jm x=true):(0 <= x.2.1 /\ x.2.1<8) /\ 0 <= x.2.2.1:=by
 have h0:x.1=0 \/ x.1=11 -> x.2.1=0 /\ x.2.2.1=0:=fun e=>by
  rcases e with e | e <;> (have:x.2.1=0 /\ x.2.2.1=0 /\ x.2.2.2=0:=by simpa [jm,e] using h) <;> exact ⟨this.1,this.2.1⟩
 by_cases e0:x.1=0 \/ x.1=11
 ·have:=h0 e0;omega
 by_cases e1:x.1=1
 ·have:=UL h e1;omega
 by_cases e2:x.1=2 \/ x.1=3 \/ x.1=4
 ·have:=zl h e2;omega
 by_cases e5:x.1=5
 ·have:=FH h e5;omega
 by_cases e6:x.1=6
 ·have:=DC h e6;omega
 by_cases e7:x.1=7
 ·have:=NZ h e7;omega
 by_cases e8:x.1=8
 ·have:=ac5 h e8;omega
 by_cases e9:x.1=9 \/ x.1=10
 ·have:=ajE h e9;omega
 exfalso
 have a0:(x.1==0)=false:=by rw [beq_eq_false_iff_ne];omega
 have a1:(x.1==11)=false:=by rw [beq_eq_false_iff_ne];omega
 have a2:(x.1==1)=false:=by rw [beq_eq_false_iff_ne];omega
 have a3:(x.1==2)=false:=by rw [beq_eq_false_iff_ne];omega
 have a4:(x.1==3)=false:=by rw [beq_eq_false_iff_ne];omega
 have a5:(x.1==4)=false:=by rw [beq_eq_false_iff_ne];omega
 have a6:(x.1==5)=false:=by rw [beq_eq_false_iff_ne];omega
 have a7:(x.1==6)=false:=by rw [beq_eq_false_iff_ne];omega
 have a8:(x.1==7)=false:=by rw [beq_eq_false_iff_ne];omega
 have a9:(x.1==8)=false:=by rw [beq_eq_false_iff_ne];omega
 have b0:(x.1==9)=false:=by rw [beq_eq_false_iff_ne];omega
 have b1:(x.1==10)=false:=by rw [beq_eq_false_iff_ne];omega
 simp [jm,a0,a1,a2,a3,a4,a5,a6,a7,a8,a9,b0,b1] at h
theorem ajJ {k:Nat} (hk:1000 <= k) {l:List I4} {n:Nat} {mem:Mem} {R:List dz} (hl:l.length <= 900) (hn:n<l.length) (hx:jm (l.getD n i0)=true) (hR:R.length <= 100) (hb:∀ r∈R,r.2.2 <= 1000) (hm:inM mem) :
  afn k l ((n:Int),mem,R.reverse,false)=some ((((go (l.getD n i0) n mem R).1,NY (l.getD n i0) mem,(go (l.getD n i0) n mem R).2.reverse,(l.getD n i0).1==0),l.getD n i0,true,()),()):=by
 unfold afn Y9 XO
 simp only
 rw [cond_false,Rk (by omega),Rk (by omega),Pw hn,Px,ajp,Option.bind_some,hx]
 simp only [Bool.not_true,cond_false]
 rw [Lg (by simp only [List.length_reverse];omega)]
 simp only [Option.bind_some]
 rw [Pw hn,Px]
 generalize l.getD n i0=x at hx ⊢
 have hab:=ano hx
 have htp:0 <= Int.tmod x.2.2.1 8 /\ Int.tmod x.2.2.1 8<((8:Nat):Int):=⟨Int.tmod_nonneg _ hab.2,Int.tmod_lt_of_pos _ (by omega)⟩
 rw [Rb hab.1.1 hab.1.2,Rb htp.1 htp.2]
 have key:∀ (pc:Int) (mem':Mem) (R':List dz) (ov:Bool),R'.length <= 900 -> (∀ r∈R',r.2.2 <= 1000) -> ((I5 k pc mem'.1 mem'.2.1 mem'.2.2.1 mem'.2.2.2.1 mem'.2.2.2.2.1 mem'.2.2.2.2.2.1 mem'.2.2.2.2.2.2.1 mem'.2.2.2.2.2.2.2 R'.reverse ov).bind fun q=>some ((q.1.1,x,true,()),()))=some ((((ni pc R').1,mem',(ni pc R').2.reverse,ov),x,true,()),()):=fun pc mem' R' ov h1 h2=>by
  unfold I5
  rw [List.length_reverse,QV R' k (by omega) h1 h2]
  rfl
 have htm:0 <= x.2.2.1 /\ x.2.2.1<8 -> Int.tmod x.2.2.1 8=x.2.2.1:=fun h=>Int.tmod_eq_of_lt h.1 h.2
 unfold go gU NY
 rw [Ua (n:=(n:Int)+1) (by omega) (by omega)]
 by_cases e0:x.1=0
 ·rw [show (x.1==0)=true by rw [e0];rfl,cond_true,if_pos e0,if_neg (by omega),if_neg (by omega),if_neg (by omega),if_neg (by omega),if_neg (by omega),if_neg (by omega)]
  exact key _ _ _ _ (by omega) hb
 rw [show (x.1==0)=false by simpa using e0,cond_false,if_neg e0]
 by_cases e1:x.1=1
 ·rw [show (x.1==1)=true by rw [e1];rfl,cond_true,if_neg (by omega),if_neg (by omega),if_pos e1]
  exact key _ _ _ _ (by omega) hb
 rw [show (x.1==1)=false by simpa using e1,cond_false,if_neg e1]
 by_cases e2:x.1=2
 ·have:=zl hx (.inl e2)
  rw [show (x.1==2)=true by rw [e2];rfl,cond_true,if_neg (by omega),if_neg (by omega),if_pos e2,htm this.2.1,apB]
  exact key _ _ _ _ (by omega) hb
 rw [show (x.1==2)=false by simpa using e2,cond_false,if_neg e2]
 by_cases e3:x.1=3
 ·have:=zl hx (.inr (.inl e3))
  rw [show (x.1==3)=true by rw [e3];rfl,cond_true,if_neg (by omega),if_neg (by omega),if_pos e3,htm this.2.1,apC]
  exact key _ _ _ _ (by omega) hb
 rw [show (x.1==3)=false by simpa using e3,cond_false,if_neg e3]
 by_cases e4:x.1=4
 ·have:=zl hx (.inr (.inr e4))
  rw [show (x.1==4)=true by rw [e4];rfl,cond_true,if_neg (by omega),if_neg (by omega),if_pos e4,htm this.2.1,apD]
  exact key _ _ _ _ (by omega) hb
 rw [show (x.1==4)=false by simpa using e4,cond_false,if_neg e4]
 by_cases e5:x.1=5
 ·have:=FH hx e5
  rw [show (x.1==5)=true by rw [e5];rfl,cond_true,show Tv (α:=Int) 8 mem x.2.1 0=mg mem x.2.1 from rfl,ajH k (ach hm _) this.2.2.1 this.2.2.2,Option.bind_some,if_neg (by omega),if_neg (by omega),if_pos e5]
  exact key _ _ _ _ (by omega) hb
 rw [show (x.1==5)=false by simpa using e5,cond_false,if_neg e5]
 by_cases e6:x.1=6
 ·have:=DC hx e6
  rw [show (x.1==6)=true by rw [e6];rfl,cond_true,show Tv (α:=Int) 8 mem x.2.1 0=mg mem x.2.1 from rfl,ajI k this.2.2.1 this.2.2.2,Option.bind_some,if_neg (by omega),if_neg (by omega),if_pos e6]
  exact key _ _ _ _ (by omega) hb
 rw [show (x.1==6)=false by simpa using e6,cond_false,if_neg e6]
 by_cases e7:x.1=7
 ·have:=NZ hx e7
  rw [show (x.1==7)=true by rw [e7];rfl,cond_true,show Tv (α:=Int) 8 mem x.2.1 0=mg mem x.2.1 from rfl,if_pos e7]
  by_cases e:mg mem x.2.1=0
  ·rw [show (mg mem x.2.1==0)=true by rw [e];rfl,cond_true,if_pos e,Ua (by omega) (by omega)]
   exact key _ _ _ _ (by omega) hb
  ·rw [show (mg mem x.2.1==0)=false by simpa using e,cond_false,if_neg e]
   exact key _ _ _ _ (by omega) hb
 rw [show (x.1==7)=false by simpa using e7,cond_false,if_neg e7]
 by_cases e8:x.1=8
 ·have h8:=ac5 hx e8
  rw [show (x.1==8)=true by rw [e8];rfl,cond_true,if_pos e8,Rh (by simp only [List.length_reverse,List.length_cons,List.length_nil];omega),Ua (n:=(n:Int)+x.2.2.1) (by omega) (by omega),Ua (n:=x.2.2.2 - 1) (by omega) (by omega),<- List.reverse_cons]
  exact key _ _ _ _ (by simp only [List.length_cons];omega) (fun r hr=>by
   rcases List.mem_cons.1 hr with rfl | hr
   ·simp only;omega
   ·exact hb r hr)
 rw [show (x.1==8)=false by simpa using e8,cond_false,if_neg e8]
 exact key _ _ _ _ (by omega) hb
abbrev fq:=Int×Int×Int×List I4×List I4×List I4
noncomputable def cst (l:List I4):Int×Int×List (Int×Int):=(ze l).getD (0,0,[])
def Yt (l:List I4):Bool:=l.any fun i=>i.1==9
theorem QW (l:List I4):alh l (ze l)=some ((cst l,qw l,()),()):=by
 unfold cst ze
 cases h:qw l with
 | false=>rfl
 | true=>rfl
theorem Xj:qw []=false:=by
 cases h:qw [] with
 | false=>rfl
 | true=>obtain ⟨ps,g⟩:=uy.1 h;exact absurd g.len1 (by simp)
theorem UN {l:List I4} (h:qw l=false):cst l=(0,0,[]):=by unfold cst ze;rw [h];rfl
theorem ahe {l:List I4} {ps:List Int} (g:y5 l ps):cst l=Xd l ps:=by unfold cst;rw [EL g];rfl
theorem ajK (l:List I4):0 <= (cst l).1 /\ (cst l).1 <= 9600:=by
 cases h:qw l with
 | false=>rw [UN h];simp
 | true =>
  obtain ⟨ps,g⟩:=uy.1 h
  have:=NV g ((0:Nat):Int) ((tms l).length:Int)
  rw [UG] at this
  rw [ahe g];exact this
theorem LX (l:List I4):(cst l).2.2.length <= 24:=by
 unfold cst
 cases h:ze l with
 | none=>simp
 | some c=>exact Yp h
theorem ajL {k:Nat} (hk:1000 <= k) {l:List I4} (hl:l.length <= 900):ad3 k l=some ((Yt l,()),()):=by
 unfold ad3
 have:=LH (fun j i=>J5 k j l i) l i0 (fun i=>i.1==9) (some ((true,()),())) (some ((false,()),())) (fun j n hn=>by
  show J5 k (j+1) l (n:Int)=_
  rw [VD,TA,Rj (by omega),Pw hn,Me (by omega),Px]) (fun j=>by
  show J5 k (j+1) l (l.length:Int)=_
  rw [VD,TA,Rk (by omega)]) k (by omega)
 refine Eq.trans this ?_
 unfold Yt
 cases l.any fun i=>i.1==9 <;> rfl
noncomputable def BJ (t:fq):Int :=
 bif decide (t.1<0) then 1 else bif decide (t.1>63) then 1 else bif decide (t.2.1<1) then 9 else bif decide (t.2.1>16384) then 9 else
 bif decide (t.2.2.1<1) then 9 else bif decide (t.2.2.1>t.2.1) then 9 else
 bif !qw t.2.2.2.1 then 2 else bif !(((t.2.2.2.2.1.length:Int)==0)||qw t.2.2.2.2.1) then 2 else bif !(((t.2.2.2.2.2.length:Int)==0)||qw t.2.2.2.2.2) then 2 else
 bif Yt t.2.2.2.2.2 then 2 else bif decide ((cst t.2.2.2.1).1>t.2.2.1) then 10 else bif decide ((cst t.2.2.2.2.1).1>(cst t.2.2.2.1).1) then 12 else 0
theorem apE {α:Type} {c:Bool} {a b:α}:(bif c then some ((a,()),()) else some ((b,()),()))=some (((bif c then a else b),()),()):=by cases c <;> rfl
def BX (t:fq):Prop:=t.2.2.2.1.length <= 900 /\ t.2.2.2.2.1.length <= 900 /\ t.2.2.2.2.2.length <= 900
theorem Yu {k:Nat} (hk:1000 <= k) {t:fq} (h:BX t):S68 k t=some ((BJ t,()),()):=by
 unfold S68 BJ
 simp only [NW hk h.1,NW hk h.2.1,NW hk h.2.2,ajL hk h.2.2,QW,Option.bind_some,apE]
 obtain ⟨r,p,e,m,w,o⟩:=t
 simp only
 congr 3
 cases decide (r<0) with | true=>rfl | false =>
 cases decide (r>63) with | true=>rfl | false =>
 cases decide (p<1) with | true=>rfl | false =>
 cases decide (p>16384) with | true=>rfl | false =>
 cases decide (e<1) with | true=>rfl | false =>
 cases decide (e>p) with | true=>rfl | false =>
 cases qw m with | false=>rfl | true =>
 simp only [cond_false,cond_true,Bool.not_true,Bool.not_false]
 have hm:=(ajK m).1
 have hw:(decide ((w.length:Int)>0)) = !((w.length:Int)==0):=by
  rw [Bool.eq_iff_iff,Bool.not_eq_true',decide_eq_true_iff,beq_eq_false_iff_ne];omega
 have ho:(decide ((o.length:Int)>0)) = !((o.length:Int)==0):=by
  rw [Bool.eq_iff_iff,Bool.not_eq_true',decide_eq_true_iff,beq_eq_false_iff_ne];omega
 rw [hw,ho]
 have fin:∀ x:Bool,((w.length:Int)==0)=x -> (x=true -> decide ((cst w).1>(cst m).1)=false):=fun x e hx=>by
  subst hx
  have:w=[]:=List.length_eq_zero_iff.1 (by have:=eq_of_beq e;omega)
  rw [this,UN Xj];exact decide_eq_false (by simp only;omega)
 have fo:∀ x:Bool,((o.length:Int)==0)=x -> (x=true -> Yt o=false):=fun x e hx=>by
  subst hx
  have:o=[]:=List.length_eq_zero_iff.1 (by have:=eq_of_beq e;omega)
  rw [this];rfl
 have fin:=fin _ rfl
 have fo:=fo _ rfl
 revert fin fo
 generalize ((w.length:Int)==0)=a1
 generalize ((o.length:Int)==0)=a2
 generalize qw w=a3
 generalize qw o=a4
 generalize Yt o=a5
 generalize decide ((cst m).1>e)=a6
 generalize decide ((cst w).1>(cst m).1)=a7
 intro fin fo
 cases a1 <;> cases a2 <;> cases a3 <;> cases a4 <;> cases a5 <;> cases a6 <;> cases a7 <;> first | rfl | (cases fin rfl;done) | (cases fo rfl;done)
noncomputable def j5 (t:fq):Int×Int×List (Int×Int) :=
 if BJ t=0 then ((cst t.2.2.2.1).1,bif qw t.2.2.2.2.1 then (cst t.2.2.2.2.1).1 else (cst t.2.2.2.1).2.1,(cst t.2.2.2.1).2.2++(cst t.2.2.2.2.1).2.2) else (0,0,[])
theorem UO {k:Nat} (hk:1000 <= k) {t:fq} (h:BX t):acI k t=some (((j5 t).1,(j5 t).2.1,(j5 t).2.2,()),()):=by
 have h1:=LX t.2.2.2.1
 have h2:=LX t.2.2.2.2.1
 unfold acI j5
 rw [Yu hk h,Option.bind_some]
 by_cases hm:BJ t=0
 ·have hw:decide ((t.2.2.2.2.1.length:Int)>0)=qw t.2.2.2.2.1:=by
   have:(((t.2.2.2.2.1.length:Int)==0)||qw t.2.2.2.2.1)=true:=by
    cases hc:(((t.2.2.2.2.1.length:Int)==0)||qw t.2.2.2.2.1) with
    | true=>rfl
    | false =>
     exfalso
     unfold BJ at hm
     rw [hc] at hm
     revert hm
     cases decide (t.1<0) <;> cases decide (t.1>63) <;> cases decide (t.2.1<1) <;> cases decide (t.2.1>16384) <;> cases decide (t.2.2.1<1) <;> cases decide (t.2.2.1>t.2.1) <;> cases qw t.2.2.2.1 <;> simp
   rw [Bool.or_eq_true,beq_iff_eq] at this
   rw [Bool.eq_iff_iff,decide_eq_true_iff]
   constructor
   ·intro h;rcases this with e | e
    ·omega
    ·exact e
   ·intro e
    rcases Nat.eq_zero_or_pos t.2.2.2.2.1.length with e2 | e2
    ·rw [List.length_eq_zero_iff.1 e2,Xj] at e;cases e
    ·omega
  rw [if_pos hm]
  simp only [hm,bne_self_eq_false,cond_false,NW hk h.1,NW hk h.2.1,QW,Option.bind_some,hw]
  unfold TD
  cases qw t.2.2.2.2.1 <;> (simp only [cond_true,cond_false];rw [Rh (by simp only [List.length_nil];omega),Rh (by simp only [List.nil_append];omega)];rfl)
 ·rw [if_neg hm]
  simp only [bne_iff_ne.2 hm,cond_true]
structure MT (jc rank:Int) (t:fq):Prop where
 rank:t.1=rank
 per:20 <= t.2.1 /\ t.2.1 <= 130
 en:t.2.1 - 9 <= t.2.2.1 /\ t.2.2.1 <= t.2.1
 main:∃ m,t.2.2.2.1=Tr.prog m /\ Mp jc m /\ m.len <= 22
 way:t.2.2.2.2.1=[] \/ t.2.2.2.2.1=[(1,0,0,99),(0,0,0,0)] \/ t.2.2.2.2.1=[(0,0,0,0)]
 opt:t.2.2.2.2.2=[] \/ ∃ o,t.2.2.2.2.2=Tr.prog o /\ Mp 0 o /\ o.len <= 22
theorem MT.light {jc rank:Int} {t:fq} (h:MT jc rank t):BX t:=by
 obtain ⟨m,e,_,hm⟩:=h.main
 refine ⟨by rw [e,xk];omega,?_,?_⟩
 ·rcases h.way with e | e | e <;> rw [e] <;> simp
 ·rcases h.opt with e | ⟨o,e,_,ho⟩
  ·rw [e];simp
  ·rw [e,xk];omega
theorem Xk {k:Nat} (hk:1000 <= k) {p:List Int} {n r pe e:Int} (a b c:Int) {m w:List I4} {jc:Int} (hp:yh p n) (h1:20 <= pe /\ pe <= 130) (h2:pe - 9 <= e /\ e <= pe) (h3:∃ t,m=Tr.prog t /\ Mp jc t /\ t.len <= 22) (h4:w=[] \/ w=[(1,0,0,99),(0,0,0,0)] \/ w=[(0,0,0,0)]) :
  ∃ t n',WA k p n a b c r pe e m w []=some ((t,()),(p,n',()),()) /\ yh p n' /\ MT jc r t:=by
 unfold WA
 obtain ⟨v,n1,e1,hv,hp1⟩:=oo k hp (show (0:Int)<3 by omega)
 rw [e1,Option.bind_some]
 simp only
 cases v==0 with
 | false=>exact ⟨_,_,rfl,hp1,⟨rfl,h1,h2,h3,h4,.inl rfl⟩⟩
 | true =>
  obtain ⟨o,n2,e2,hp2,ho,hol⟩:=ag4 hk (jc:=0) (by omega) hp1
  rw [cond_true,e2,Option.bind_some]
  exact ⟨_,_,rfl,hp2,⟨rfl,h1,h2,h3,h4,.inr ⟨o,rfl,ho,hol⟩⟩⟩
theorem anp {k:Nat} (hk:1000 <= k) {p:List Int} {n rank jc:Int} (hl:0 <= jc /\ jc <= 4) (hp:yh p n):∃ t n',S27 k p n rank jc=some ((t,()),(p,n',()),()) /\ yh p n' /\ MT jc rank t:=by
 unfold S27
 obtain ⟨t,n1,e1,hp1,ht,htl⟩:=ag4 hk hl hp
 rw [e1,Option.bind_some]
 simp only
 obtain ⟨v2,n2,e2,hv2,hp2⟩:=oo k hp1 (show (0:Int)<12 by omega)
 rw [e2,Option.bind_some]
 simp only
 obtain ⟨v3,n3,e3,hv3,hp3⟩:=oo k hp2 (show (0:Int)<10 by omega)
 rw [e3,Option.bind_some]
 simp only
 obtain ⟨v4,n4,e4,hv4,hp4⟩:=oo k hp3 (show (0:Int)<3 by omega)
 rw [e4,Option.bind_some]
 simp only
 rw [Ua (n:=10 * v2) (by omega) (by omega),Ua (n:=20+10 * v2) (by omega) (by omega),Ua (n:=20+10 * v2 - v3) (by omega) (by omega)]
 cases v4==0 with
 | false=>exact Xk hk 0 0 0 hp4 (by omega) (by omega) ⟨t,rfl,ht,htl⟩ (.inl rfl)
 | true =>
  obtain ⟨v5,n5,e5,hv5,hp5⟩:=oo k hp4 (show (0:Int)<2 by omega)
  rw [cond_true,e5,Option.bind_some]
  simp only
  rw [Rc (by omega) (by simp only [List.length_cons,List.length_nil];omega) (by omega)]
  have:v5=0 \/ v5=1:=by omega
  refine Xk hk 0 0 0 hp5 (by omega) (by omega) ⟨t,rfl,ht,htl⟩ (.inr ?_)
  rcases this with e | e
  ·subst e;exact .inl rfl
  ·subst e;exact .inr rfl
theorem Yv (t:fq):(j5 t).2.2.length <= 48:=by
 unfold j5
 split
 ·have:=LX t.2.2.2.1
  have:=LX t.2.2.2.2.1
  simp only [List.length_append];omega
 ·simp
theorem b0 {c:Bool} {a b:Int} (h:a≠0):(bif c then a else b)=0↔c=false /\ b=0:=by cases c <;> simp [h]
theorem JW {t:fq}:BJ t=0↔(0 <= t.1 /\ t.1 <= 63) /\ (1 <= t.2.1 /\ t.2.1 <= 16384) /\ (1 <= t.2.2.1 /\ t.2.2.1 <= t.2.1) /\ qw t.2.2.2.1=true /\ (t.2.2.2.2.1=[] \/ qw t.2.2.2.2.1=true) /\ (t.2.2.2.2.2=[] \/ qw t.2.2.2.2.2=true) /\ Yt t.2.2.2.2.2=false /\ (cst t.2.2.2.1).1 <= t.2.2.1 /\ (cst t.2.2.2.2.1).1 <= (cst t.2.2.2.1).1:=by
 have e:∀ l:List I4,((l.length:Int)=0 \/ qw l=true)↔(l=[] \/ qw l=true):=fun l=>by
  rw [show ((l.length:Int)=0)↔l=[] by rw [<- List.length_eq_zero_iff];omega]
 unfold BJ
 rw [b0 (by decide),b0 (by decide),b0 (by decide),b0 (by decide),b0 (by decide),b0 (by decide),b0 (by decide),b0 (by decide),b0 (by decide),b0 (by decide),b0 (by decide),b0 (by decide)]
 rw [Bool.not_eq_false',Bool.not_eq_false',Bool.not_eq_false',Bool.or_eq_true,Bool.or_eq_true,beq_iff_eq,beq_iff_eq,e,e,decide_eq_false_iff_not,decide_eq_false_iff_not,decide_eq_false_iff_not,decide_eq_false_iff_not,decide_eq_false_iff_not,decide_eq_false_iff_not,decide_eq_false_iff_not,decide_eq_false_iff_not]
 constructor
 ·rintro ⟨a1,a2,a3,a4,a5,a6,a7,a8,a9,b1,b2,b3,_⟩
  exact ⟨by omega,by omega,by omega,a7,a8,a9,b1,by omega,by omega⟩
 ·rintro ⟨a1,a2,a3,a7,a8,a9,b1,b2,b3⟩
  exact ⟨by omega,by omega,by omega,by omega,by omega,by omega,a7,a8,a9,b1,by omega,by omega,rfl⟩
theorem CQ:∀ {t:Tr} {d:Nat} {hs:List Int} {ia:Bool},Ok d hs ia t -> ∀ e∈t.spans,1 <= e.2 /\ e.2 <= t.cost
 | .nil,_,_,_,_,e,h=>by simp [Tr.spans] at h
 | .one x r,_,_,_,⟨_,_,_,h4⟩,e,h=>by have:=CQ h4 e h;simp only [Tr.cost];omega
 | .lk a b r,_,_,_,⟨_,_,h3,h4⟩,e,h=>by
  have c1:=jo h3;have c2:=jo h4
  simp only [Tr.spans,List.mem_cons,List.mem_append] at h
  simp only [Tr.cost]
  rcases h with q | q | q
  ·subst q;simp only;omega
  ·have:=CQ h3 e q;omega
  ·have:=CQ h4 e q;omega
 | .ar x b r,_,_,_,⟨hx,_,h3,h4⟩,e,h=>by
  have c1:=jo h3;have c2:=jo h4
  have hr:=FD hx.1
  have hm:1 * b.cost <= zo x * b.cost:=Int.mul_le_mul_of_nonneg_right hr.1 c1
  simp only [Tr.spans,List.mem_append] at h
  simp only [Tr.cost]
  rcases h with q | q
  ·have:=CQ h3 e q;omega
  ·have:=CQ h4 e q;omega
theorem ahf {t:Tr} (h:Ok 0 [] false t) (hl:t.len<24):cst t.prog=(t.cost+1,max (t.piece 1 (0,0)).1 ((t.piece 1 (0,0)).2+1),t.spans):=by unfold cst;rw [ac7 h hl];rfl
abbrev t0:fq:=(0,0,0,[],[],[])
def O5 (s:Int) (x:I4):Bool:=bif x.1==9 then x.2.1==s else false
def um (s:Int) (t:fq):Bool:=(t.2.2.2.1++t.2.2.2.2.1).any (O5 s)
def DU (s:Int):List fq -> Nat -> Int
 | [],_=>8
 | t::r,i=>bif um s t then (i:Int) else DU s r (i+1)
def A9 (l:List fq) (s:Int):Int:=DU s l 0
theorem QX (s:Int):∀ (l:List fq) (i:Nat),DU s l i=match l.findIdx? (um s) with | some n=>((i+n:Nat):Int) | none=>8
 | [],i=>rfl
 | t::r,i=>by
  rw [DU,List.findIdx?_cons]
  cases um s t with
  | true=>rfl
  | false =>
   rw [cond_false,QX s r (i+1)]
   simp only [Bool.false_eq_true,if_false]
   cases r.findIdx? (um s) with
   | none=>rfl
   | some n=>simp only [Option.map_some];congr 1;omega
theorem ahg {k:Nat} (hk:1000 <= k) {a b:List I4} (ha:a.length <= 900) (hb:b.length <= 900) (j:Nat):ZN k (j+3) [a,b] 0 [a,b] 2 0=some ((a++b,()),()):=by
 have e1:MF k k ([]:List I4) [a,b] 2 0=some ((a++b,()),()):=by
  have:∀ j,MF k (j+3) ([]:List I4) [a,b] 2 0=some ((a++b,()),()):=fun j=>by
   rw [MG,ME,Rj (by omega),Lf (by omega) (by simp),show rd [a,b] 0 []=a from rfl,Rh (by simp only [List.length_nil];omega),Ua (by omega) (by omega),List.nil_append]
   rw [MG,ME,Rj (by omega),Lf (by omega) (by simp),show rd [a,b] (0+1) []=b from rfl,Rh (by omega),Ua (by omega) (by omega)]
   rw [MG,ME,Rk (by omega)]
  have:=this (k - 3)
  rwa [show k - 3+3=k by omega] at this
 rw [TP,VL,Rj (by omega),Lf (by omega) (by simp),show rd [a,b] 0 []=a from rfl,Ua (n:=0+(a.length:Int)) (by omega) (by omega),Rk (by omega),Ua (by omega) (by omega)]
 rw [TP,VL,Rj (by omega),Lf (by omega) (by simp),show rd [a,b] (0+1) []=b from rfl,Ua (n:=0+(a.length:Int)+(b.length:Int)) (by omega) (by omega),Rk (by omega),Ua (by omega) (by omega)]
 rw [TP,VL,Rk (by omega)]
 unfold S85
 rw [Rk (by omega),Ua (n:=0+(a.length:Int)+(b.length:Int) - 0) (by omega) (by omega)]
 by_cases h0:0+(a.length:Int)+(b.length:Int) - 0>0
 ·rw [Rj h0]
  unfold az
  rw [if_pos (by rw [Bool.and_eq_true];exact ⟨decide_eq_true (by omega),decide_eq_true (by simp only [List.length_nil];omega)⟩)]
  dsimp only
  rw [Rc (by omega) (by omega) (by omega),Option.bind_some]
  exact e1
 ·rw [Rk h0,Option.bind_some];exact e1
theorem anq {k:Nat} (hk:1000 <= k) {a b:List I4} (ha:a.length <= 900) (hb:b.length <= 900):S36 k [a,b]=some ((a++b,()),()):=by
 unfold S36
 have:=ahg hk ha hb (k - 3)
 rwa [show k - 3+3=k by omega] at this
def jl (l:List fq):Prop:=l.length <= 100 /\ ∀ t∈l,BX t /\ (t.2.2.2.1++t.2.2.2.2.1).length <= 900
theorem ahh {k:Nat} {g:List fq -> Int -> Int -> Option ((Int×Unit)×Unit)} {l:List fq} {s:Int} {i:Nat} (hi:i <= 100) {code:List I4} (hc:code.length <= 900) (j:Nat) (hj:code.length<j) :
  MB k g j l s (i:Int) code 0=bif code.any (O5 s) then some (((i:Int),()),()) else g l s ((i+1:Nat):Int):=by
 exact LH (fun j n=>MB k g j l s (i:Int) code n) code i0 (O5 s) (some (((i:Int),()),())) (g l s ((i+1:Nat):Int)) (fun j n hn=>by
  show MB k g (j+1) l s (i:Int) code (n:Int)=_
  rw [Zh,Zg,Rj (by omega),Pw hn,Pw hn,Px,Me (by omega)]
  unfold O5
  cases (code.getD n i0).1==9 with
  | true=>cases (code.getD n i0).2.1==s <;> rfl
  | false=>rfl) (fun j=>by
  show MB k g (j+1) l s (i:Int) code (code.length:Int)=_
  rw [Zh,Zg,Rk (by omega),Me (by omega)]) j hj
theorem Xl {k:Nat} (hk:1000 <= k) {l:List fq} (h:jl l) {s:Int}:∀ (d i j:Nat),i+d=l.length -> d<j -> Zj k j l s (i:Int)=some ((DU s (l.drop i) i,()),())
 | 0,i,j,h1,hj=>by
  obtain ⟨j',rfl⟩:∃ j',j=j'+1:=⟨j - 1,by omega⟩
  rw [Zk,Zi,Rk (by omega),drop_nil (by omega),DU]
 | d+1,i,j,h1,hj=>by
  obtain ⟨j',rfl⟩:∃ j',j=j'+1:=⟨j - 1,by omega⟩
  have ih:=Xl hk h (s:=s) d (i+1) j' (by omega) (by omega)
  have ht:=h.2 _ (iq (z:=t0) (l:=l) (i:=i) (by omega))
  have hl:=h.1
  have hlt:=ht.1
  unfold BX at hlt
  have e:l.getD i (0,0,0,[],[],[])=l.getD i t0:=rfl
  rw [Zk,Zi,Rj (by omega),Pw (by omega),Px,e,Rh (by simp only [List.length_nil];omega),Pw (by omega),List.nil_append,Rh (by omega),ahh (by omega) ht.2 k (by omega),drop_cons t0 (show i<l.length by omega),DU,ih]
  unfold um
  cases ((l.getD i t0).2.2.2.1++(l.getD i t0).2.2.2.2.1).any (O5 s) <;> rfl
theorem ahi {k:Nat} (hk:1000 <= k) {l:List fq} (h:jl l) (s:Int):S41 k l s=some ((A9 l s,()),()):=by
 have:=h.1
 exact Xl hk h l.length 0 k (by omega) (by omega)
def spF (l:List fq) (i:Int):Int -> List (Int×Int) -> Int
 | m,[]=>m
 | m,e::r=>spF l i (bif decide (A9 l e.1 <= i) then mx m e.2 else m) r
noncomputable def byG (l:List fq) (i:Int):List fq -> Nat -> Int -> Int
 | [],_,m=>m
 | t::r,n,m=>byG l i r (n+1) (bif (n:Int)==i then m else spF l i m (j5 t).2.2)
noncomputable def byT (l:List fq) (i:Int):Int:=byG l i l 0 0
theorem QY {k:Nat} (hk:1000 <= k) {g:List fq -> Int -> Int -> Int -> Option ((Int×Unit)×Unit)} {l:List fq} (h:jl l) {i:Int} {n:Nat} (hn:n <= 100) {sp:List (Int×Int)} (hs:sp.length <= 900):∀ (d a j:Nat) (m:Int),a+d=sp.length -> d<j ->
  TG k g j l i m (n:Int) sp (a:Int)=g l i (spF l i m (sp.drop a)) ((n+1:Nat):Int)
 | 0,a,j,m,h1,hj=>by
  obtain ⟨j',rfl⟩:∃ j',j=j'+1:=⟨j - 1,by omega⟩
  rw [VF,TF,Rk (by omega),drop_nil (by omega),spF,Me (by omega)]
 | d+1,a,j,m,h1,hj=>by
  obtain ⟨j',rfl⟩:∃ j',j=j'+1:=⟨j - 1,by omega⟩
  have ih:=fun m=>QY hk (g:=g) h (i:=i) hn hs d (a+1) j' m (by omega) (by omega)
  rw [VF,TF,Rj (by omega),Pw (by omega),Px,ahi hk h,Option.bind_some,Me (by omega),drop_cons (0,0) (show a<sp.length by omega),spF]
  simp only
  cases decide (A9 l (sp.getD a (0,0)).1 <= i) with
  | true=>rw [cond_true,cond_true,Pw (by omega),ih]
  | false=>rw [cond_false,cond_false,ih]
theorem QZ {k:Nat} (hk:1000 <= k) {l:List fq} (h:jl l) {i:Int}:∀ (d n j:Nat) (m:Int),n+d=l.length -> d<j -> TI k j l i m (n:Int)=some ((byG l i (l.drop n) n m,()),())
 | 0,n,j,m,h1,hj=>by
  obtain ⟨j',rfl⟩:∃ j',j=j'+1:=⟨j - 1,by omega⟩
  rw [VG,TH,Rk (by omega),drop_nil (by omega),byG]
 | d+1,n,j,m,h1,hj=>by
  obtain ⟨j',rfl⟩:∃ j',j=j'+1:=⟨j - 1,by omega⟩
  have ih:=fun m=>QZ hk h (i:=i) d (n+1) j' m (by omega) (by omega)
  have ht:=h.2 _ (iq (z:=t0) (l:=l) (i:=n) (by omega))
  have hl:=h.1
  have hcl:=Yv (l.getD n t0)
  rw [VG,TH,Rj (by omega),Me (by omega),drop_cons t0 (show n<l.length by omega),byG]
  cases (n:Int)==i with
  | true=>rw [cond_true,cond_true,ih]
  | false =>
   rw [cond_false,cond_false,Pw (by omega),Px,show l.getD n (0,0,0,[],[],[])=l.getD n t0 from rfl,UO hk ht.1,Option.bind_some]
   exact (QY hk h (by omega) (sp:=(j5 (l.getD n t0)).2.2) (by omega) _ 0 k m (Nat.zero_add _) (by omega)).trans (ih _)
theorem acn {k:Nat} (hk:1000 <= k) {l:List fq} (h:jl l) (i:Int):ah5 k l i=some ((byT l i,()),()):=by
 have:=h.1
 exact QZ hk h l.length 0 k 0 (by omega) (by omega)
structure aco (jc:Int) (l:List fq):Prop where
 mt:∀ j,j<l.length -> ∃ r,MT jc r (l.getD j t0) /\ 3 * (j:Int) <= r /\ r <= 3 * (j:Int)+2
 may:∀ j,j<l.length -> BJ (l.getD j t0)=0
theorem MT.code {jc rank:Int} {t:fq} (h:MT jc rank t):(t.2.2.2.1++t.2.2.2.2.1).length <= 30:=by
 obtain ⟨m,e,_,hm⟩:=h.main
 rw [List.length_append,e,xk]
 rcases h.way with e | e | e <;> rw [e] <;> simp <;> omega
theorem aco.light {jc:Int} {l:List fq} (h:aco jc l) (hl:l.length <= 100):jl l:=⟨hl,fun t ht=>by
 obtain ⟨j,hj,e⟩:=List.mem_iff_getElem.1 ht
 obtain ⟨r,hm,_⟩:=h.mt j hj
 have e2:l.getD j t0=t:=by rw [<- e,List.getD_eq_getElem?_getD,List.getElem?_eq_getElem hj];rfl
 rw [e2] at hm
 exact ⟨hm.light,by have:=hm.code;omega⟩⟩
theorem O6 (s:Int):∀ (l:List fq) (i:Nat),DU s l i=8 /\ (∀ n,n<l.length -> um s (l.getD n t0)=false) \/ ∃ n,n<l.length /\ DU s l i=((i+n:Nat):Int) /\ um s (l.getD n t0)=true
 | [],i=>.inl ⟨rfl,fun n h=>by simp at h⟩
 | t::r,i=>by
  rw [DU]
  cases h:um s t with
  | true=>exact .inr ⟨0,by simp,rfl,h⟩
  | false =>
   rw [cond_false]
   rcases O6 s r (i+1) with ⟨e,q⟩ | ⟨n,h1,h2,h3⟩
   ·refine .inl ⟨e,fun n hn=>?_⟩
    cases n with
    | zero=>exact h
    | succ n=>exact q n (by simp only [List.length_cons] at hn;omega)
   ·exact .inr ⟨n+1,by simp only [List.length_cons];omega,by rw [h2];congr 1;omega,h3⟩
theorem Xm (s:Int):∀ (l:List fq) (i n:Nat),n<l.length -> um s (l.getD n t0)=true -> DU s l i <= ((i+n:Nat):Int)
 | [],i,n,h,_=>by simp at h
 | t::r,i,n,h,hl=>by
  rw [DU]
  cases ht:um s t with
  | true=>rw [cond_true];omega
  | false =>
   rw [cond_false]
   cases n with
   | zero=>rw [show (t::r).getD 0 t0=t from rfl,ht] at hl;cases hl
   | succ n =>
    have:=Xm s r (i+1) n (by simp only [List.length_cons] at h;omega) hl
    omega
theorem ali (a b:Int):a <= mx a b:=by unfold mx;split <;> omega
theorem Yw {l:List fq} {i:Int}:∀ (sp:List (Int×Int)) (m:Int),m <= spF l i m sp
 | [],m=>Int.le_refl _
 | e::r,m=>by
  rw [spF]
  cases decide (A9 l e.1 <= i) with
  | true=>exact Int.le_trans (ali m e.2) (Yw r _)
  | false=>exact Yw r m
theorem Yx {l:List fq} {i:Int}:∀ (r:List fq) (n:Nat) (m:Int),m <= byG l i r n m
 | [],n,m=>Int.le_refl _
 | t::r,n,m=>by
  rw [byG]
  cases (n:Int)==i with
  | true=>exact Yx r _ m
  | false=>exact Int.le_trans (Yw _ m) (Yx r _ _)
def up (r v:Int):Int:=(r+v - 1) / v
theorem up_tdiv {r v:Int} (hr:0 <= r) (hv:1 <= v):(if Int.tmod r v>0 then Int.tdiv r v+1 else Int.tdiv r v)=up r v:=by
 rw [Int.tdiv_eq_ediv_of_nonneg hr,Int.tmod_eq_emod_of_nonneg hr]
 unfold up
 have h1:=Int.emod_nonneg r (show v≠0 by omega)
 have h2:=Int.emod_lt_of_pos r (show 0<v by omega)
 have h3:=Int.mul_ediv_add_emod r v
 split
 ·rename_i h
  have:r+v - 1=(r % v - 1)+v * (r / v+1):=by rw [Int.mul_add,Int.mul_one];omega
  rw [this,Int.add_mul_ediv_left _ _ (by omega),Int.ediv_eq_zero_of_lt (a:=r % v - 1) (b:=v) (by omega) (by omega)];omega
 ·have:r+v - 1=(v - 1)+v * (r / v):=by omega
  rw [this,Int.add_mul_ediv_left _ _ (by omega),Int.ediv_eq_zero_of_lt (a:=v - 1) (b:=v) (by omega) (by omega)];omega
theorem R6 {r v:Int} (hr:0 <= r) (hv:1 <= v):0 <= up r v /\ up r v <= r:=by
 unfold up
 refine ⟨Int.ediv_nonneg (by omega) (by omega),?_⟩
 rw [<- Int.lt_add_one_iff]
 refine Int.ediv_lt_of_lt_mul (by omega) ?_
 have:(r+1) * 1 <= (r+1) * v:=Int.mul_le_mul_of_nonneg_left hv (by omega)
 have:r * 1 <= r * v:=Int.mul_le_mul_of_nonneg_left hv hr
 rw [Int.add_mul];omega
theorem acp {r s v:Int} (h:r <= s) (hv:1 <= v):up r v <= up s v:=Int.ediv_le_ediv (by omega) (by omega)
theorem acr {r v:Int} (hr:0 <= r) (hv:1 <= v):0 <= Int.tdiv r v /\ Int.tdiv r v <= r:=by
 rw [Int.tdiv_eq_ediv_of_nonneg hr]
 exact ⟨Int.ediv_nonneg hr (by omega),Int.ediv_le_self _ hr⟩
theorem acs (k:Nat) {a b:Int} (ha:0 <= a /\ a <= 4611686018427387904) (hb:1 <= b):aeb k a b=some ((up a b,true,()),()):=by
 have h:=acr ha.1 hb
 have e:=up_tdiv ha.1 hb
 unfold aeb
 rw [Rk (by omega),Rk (by omega),Ri (by omega),Ri (by omega),Ua (n:=Int.tdiv a b) (by omega) (by omega),Ua (n:=Int.tdiv a b+1) (by omega) (by omega),<- e]
 split
 ·rename_i h1;rw [Rj h1]
 ·rename_i h1;rw [Rk h1]
theorem UQ (k:Nat) {a b:Int} (ha:0 <= a) (hb:0 <= b) (h:a+b <= 4611686018427387904):acJ k a b=some ((a+b,true,()),()):=by
 unfold acJ
 rw [Ua (n:=9223372036854775807 - b) (by omega) (by omega),Rk (by omega),Ua (by omega) (by omega)]
theorem acu (k:Nat) {a b:Int} (ha:0 <= a /\ a <= 4611686018427387904) (hb:0 <= b /\ b <= 4611686018427387904) (h:a * b <= 4611686018427387904):aec k a b=some ((a * b,true,()),()):=by
 have h0:=Int.mul_nonneg ha.1 hb.1
 unfold aec
 rw [Ua (n:=a * b) (by omega) (by omega)]
 by_cases hp:a>0
 ·have hd:=acr (r:=9223372036854775807) (v:=a) (by omega) (by omega)
  have hle:b <= Int.tdiv 9223372036854775807 a:=by
   rw [Int.tdiv_eq_ediv_of_nonneg (by omega)]
   exact (Int.le_ediv_iff_mul_le hp).2 (by rw [Int.mul_comm];omega)
  rw [Rj hp,Ri (by omega),Ua (n:=Int.tdiv 9223372036854775807 a) (by omega) (by omega),Rk (by omega)]
 ·rw [Rk hp]
noncomputable def Xn (l:List fq) (i:Nat):Bool:=(BJ (l.getD i t0) != 0)||(decide ((i:Int)>0)&&decide ((l.getD (i - 1) t0).1≥(l.getD i t0).1))
noncomputable def zi (l:List fq):Bool:=!w9 (Xn l) l.length 0
theorem acv {k:Nat} (hk:1000 <= k) {l:List fq} (h:jl l):ad5 k l=some ((zi l,()),()):=by
 have hl:=h.1
 unfold ad5
 have:=ac2 (L:=fun j i=>J6 k j l i) (n:=l.length) (Xn l) (some ((false,()),())) (some ((true,()),())) (fun j i hi=>by
  have ht:=h.2 _ (iq (z:=t0) hi)
  show J6 k (j+1) l (i:Int)=_
  rw [VE,TB,Rj (by omega),Pw hi,Px,show l.getD i (0,0,0,[],[],[])=l.getD i t0 from rfl,Yu hk ht.1,Option.bind_some,Me (by omega)]
  unfold Xn
  simp only
  cases BJ (l.getD i t0) != 0 with
  | true=>rfl
  | false =>
   rw [cond_false,Bool.false_or]
   by_cases h0:(i:Int)>0
   ·rw [Rj h0,Ua (n:=(i:Int) - 1) (by omega) (by omega),show (i:Int) - 1=((i - 1:Nat):Int) by omega,Pw hi,Pw (by omega),Px,decide_eq_true h0,Bool.true_and]
   ·rw [Rk h0,decide_eq_false h0,Bool.false_and,cond_false]) (fun j=>by
  show J6 k (j+1) l (l.length:Int)=_
  rw [VE,TB,Rk (by omega)]) l.length 0 k (by omega) (by omega)
 refine Eq.trans this ?_
 unfold zi
 cases w9 (Xn l) l.length 0 <;> rfl
theorem JX {l:List I4} (h:qw l=true):(1 <= (cst l).1 /\ (cst l).1 <= 9600) /\ (1 <= (cst l).2.1 /\ (cst l).2.1 <= (cst l).1) /\ ∀ e∈(cst l).2.2,1 <= e.2 /\ e.2<(cst l).1:=by
 obtain ⟨t,ht,rfl,hl⟩:=IE h
 have hc:=Yq ht hl
 obtain ⟨b1,b2,b3,b4⟩:=qx 1 (0,0) ht (by omega) (by simp) (by simp)
 simp only [Int.one_mul,Int.zero_add] at b3 b4
 rw [ahf ht hl]
 refine ⟨by simp only;omega,by simp only;omega,fun e he=>?_⟩
 have:=CQ ht e he
 simp only;omega
structure CoS (t:fq):Prop where
 per:1 <= t.2.1 /\ t.2.1 <= 16384
 en:1 <= t.2.2.1 /\ t.2.2.1 <= t.2.1
 cost:1 <= (j5 t).1 /\ (j5 t).1 <= t.2.2.1
 lost:1 <= (j5 t).2.1 /\ (j5 t).2.1 <= (j5 t).1
 spans:∀ e∈(j5 t).2.2,1 <= e.2 /\ e.2<(j5 t).1
theorem Xo {t:fq} (hz:BJ t=0):CoS t:=by
 obtain ⟨_,z2,z3,z4,z5,z6,z7,z8,z9⟩:=JW.1 hz
 obtain ⟨m1,m2,m3⟩:=JX z4
 have Yy:j5 t=((cst t.2.2.2.1).1,bif qw t.2.2.2.2.1 then (cst t.2.2.2.2.1).1 else (cst t.2.2.2.1).2.1,(cst t.2.2.2.1).2.2++(cst t.2.2.2.2.1).2.2):=by unfold j5;rw [if_pos hz]
 refine ⟨z2,z3,by rw [Yy];simp only;omega,?_,fun e he=>?_⟩
 ·rw [Yy]
  simp only
  cases h:qw t.2.2.2.2.1 with
  | false=>rw [cond_false];omega
  | true=>have:=JX h;rw [cond_true];omega
 ·rw [Yy] at he ⊢
  simp only [List.mem_append] at he ⊢
  rcases he with q | q
  ·exact m3 e q
  ·cases h:qw t.2.2.2.2.1 with
   | false=>rw [UN h] at q;cases q
   | true=>have:=(JX h).2.2 e q;omega
theorem alj {a b c:Int} (h1:a <= c) (h2:b <= c):mx a b <= c:=by unfold mx;split <;> omega
theorem ahj {l:List fq} {i b:Int}:∀ (sp:List (Int×Int)) (m:Int),m <= b -> (∀ e∈sp,e.2 <= b) -> spF l i m sp <= b
 | [],m,h,_=>h
 | e::r,m,h,hs=>by
  rw [spF]
  refine ahj r _ ?_ (fun x hx=>hs x (by simp [hx]))
  cases decide (A9 l e.1 <= i) with
  | true=>exact alj h (hs e (by simp))
  | false=>exact h
theorem ahk {l:List fq} {i b:Int}:∀ (r:List fq) (n:Nat) (m:Int),m <= b -> (∀ t∈r,∀ e∈(j5 t).2.2,e.2 <= b) -> byG l i r n m <= b
 | [],n,m,h,_=>h
 | t::r,n,m,h,hs=>by
  rw [byG]
  refine ahk r _ _ ?_ (fun x hx=>hs x (by simp [hx]))
  cases (n:Int)==i with
  | true=>exact h
  | false=>exact ahj _ m h (hs t (by simp))
theorem ahl {l:List fq} (h:∀ t∈l,CoS t) (i:Int):0 <= byT l i /\ byT l i <= 16384 :=
 ⟨Yx l 0 0,ahk l 0 0 (by omega) (fun t ht e he=>by have q:=h t ht;have:=q.spans e he;have:=q.cost;have:=q.en;have:=q.per;omega)⟩
def zk (r:Int):List (Int×Int) -> Int
 | []=>0
 | x::l=>up r x.1 * x.2+zk r l
noncomputable def pc1 (t:fq):Int×Int:=(t.2.1,(j5 t).1)
noncomputable def uf:Int -> List fq -> Int
 | m,[]=>m
 | m,t::r=>uf (mx m (j5 t).2.1) r
noncomputable def firstT (l:List fq) (i:Nat):Int:=(j5 (l.getD i t0)).1+byT l (i:Int)
noncomputable def ql (l:List fq) (i:Nat) (apart r:Int):Int:=firstT l i+up r apart * uf 0 (l.take (i+1))+zk r ((l.take i).map pc1)
def DV (en:Int) (right:Int -> Int):Nat -> Int -> Int -> Option (Int×Int×Int)
 | 0,_,_=>none
 | f+1,r,n=>if right r>en then some (0,0,14) else if right r=r then some (r,n,0) else DV en right f (right r) (n+1)
theorem zq {r:Int} (hr:0 <= r):∀ {l:List (Int×Int)},(∀ x∈l,1 <= x.1 /\ 0 <= x.2) -> 0 <= zk r l
 | [],_=>Int.le_refl _
 | x::l,h=>by
  have hx:=h x (by simp)
  have:=zq hr (l:=l) (fun y hy=>h y (by simp [hy]))
  have:=Int.mul_nonneg (R6 hr hx.1).1 hx.2
  rw [zk];omega
theorem R7 {r s:Int} (h:r <= s):∀ {l:List (Int×Int)},(∀ x∈l,1 <= x.1 /\ 0 <= x.2) -> zk r l <= zk s l
 | [],_=>Int.le_refl _
 | x::l,hl=>by
  have hx:=hl x (by simp)
  have:=R7 h (l:=l) (fun y hy=>hl y (by simp [hy]))
  have:=Int.mul_le_mul_of_nonneg_right (acp h hx.1) hx.2
  rw [zk,zk];omega
theorem acw {r b:Int} (hr:0 <= r) (hb:0 <= b):∀ {l:List (Int×Int)},(∀ x∈l,1 <= x.1 /\ 0 <= x.2 /\ x.2 <= b) -> zk r l <= (l.length:Int) * (r * b)
 | [],_=>by simp [zk]
 | x::l,h=>by
  have hx:=h x (by simp)
  have h1:=acw hr hb (l:=l) (fun y hy=>h y (by simp [hy]))
  have hu:=R6 hr hx.1
  have h2:up r x.1 * x.2 <= r * b:=Int.mul_le_mul hu.2 hx.2.2 hx.2.1 hr
  rw [zk,List.length_cons,show ((l.length+1:Nat):Int)=(l.length:Int)+1 by omega,Int.add_mul,Int.one_mul];omega
theorem O7 {en:Int} {right:Int -> Int} (hm:∀ a b,0 <= a -> a <= b -> right a <= right b):∀ (f:Nat) (r n:Int),0 <= r -> r <= right r -> en - r<(f:Int) -> 0<f -> ∃ x,DV en right f r n=some x
 | 0,r,n,_,_,_,h=>absurd h (by omega)
 | f+1,r,n,h0,h1,h2,_=>by
  rw [DV]
  split
  ·exact ⟨_,rfl⟩
  ·split
   ·exact ⟨_,rfl⟩
   ·rename_i h3 h4
    exact O7 hm f (right r) (n+1) (by omega) (hm r (right r) h0 h1) (by omega) (by omega)
structure RS (l:List fq):Prop where
 light:jl l
 len:l.length <= 10
 co:∀ t∈l,CoS t
theorem Xp {b:Int}:∀ (r:List fq) (m:Int),0 <= m -> m <= b -> (∀ t∈r,(j5 t).2.1 <= b) -> 0 <= uf m r /\ uf m r <= b
 | [],m,h0,h,_=>⟨h0,h⟩
 | t::r,m,h0,h,hs=>by
  rw [uf]
  exact Xp r _ (Int.le_trans h0 (ali _ _)) (alj h (hs t (by simp))) (fun x hx=>hs x (by simp [hx]))
theorem RS.first {l:List fq} (h:RS l) {i:Nat} (hi:i<l.length):1 <= firstT l i /\ firstT l i <= 32768:=by
 have hc:=h.co _ (iq (z:=t0) hi)
 have hb:=ahl h.co (i:Int)
 have:=hc.cost;have:=hc.en;have:=hc.per
 unfold firstT;omega
theorem RS.lost {l:List fq} (h:RS l) (i:Nat):0 <= uf 0 (l.take i) /\ uf 0 (l.take i) <= 16384 :=
 Xp _ 0 (by omega) (by omega) (fun t ht=>by have q:=h.co t (List.mem_of_mem_take ht);have:=q.lost;have:=q.cost;have:=q.en;have:=q.per;omega)
theorem RS.ko {l:List fq} (h:RS l) (i:Nat):∀ x∈(l.take i).map pc1,1 <= x.1 /\ 0 <= x.2 /\ x.2 <= 16384:=fun x hx=>by
 obtain ⟨t,ht,rfl⟩:=List.mem_map.1 hx
 have q:=h.co t (List.mem_of_mem_take ht)
 have:=q.cost;have:=q.en;have:=q.per
 unfold pc1;simp only;omega
theorem RS.loss {l:List fq} (h:RS l) {i:Nat} {apart r:Int} (ha:1 <= apart) (hr:0 <= r /\ r <= 50000):0 <= up r apart * uf 0 (l.take (i+1)) /\ up r apart * uf 0 (l.take (i+1)) <= 819200000:=by
 have hl:=h.lost (i+1)
 have hu:=R6 hr.1 ha
 have:=Int.mul_nonneg hu.1 hl.1
 have:up r apart * uf 0 (l.take (i+1)) <= 50000 * 16384:=Int.mul_le_mul (by omega) hl.2 hl.1 (by omega)
 omega
theorem RS.sum {l:List fq} (h:RS l) {i:Nat} {r:Int} (hr:0 <= r /\ r <= 50000):0 <= zk r ((l.take i).map pc1) /\ zk r ((l.take i).map pc1) <= 8192000000:=by
 have h0:=zq hr.1 (l:=(l.take i).map pc1) (fun x hx=>⟨(h.ko i x hx).1,(h.ko i x hx).2.1⟩)
 have h1:=acw hr.1 (show (0:Int) <= 16384 by omega) (h.ko i)
 have hl:((l.take i).map pc1).length <= 10:=by rw [List.length_map,List.length_take];have:=h.len;omega
 have h2:(((l.take i).map pc1).length:Int) * (r * 16384) <= 10 * (r * 16384):=Int.mul_le_mul_of_nonneg_right (by omega) (by omega)
 omega
theorem RS.right {l:List fq} (h:RS l) {i:Nat} (hi:i<l.length) {apart r:Int} (ha:1 <= apart) (hr:0 <= r /\ r <= 50000):firstT l i <= ql l i apart r /\ ql l i apart r <= 100000000000:=by
 have h1:=h.first hi;have h2:=h.loss (i:=i) ha hr;have h3:=h.sum (i:=i) hr
 unfold ql;omega
theorem GR {l:List fq} (h:RS l) {i:Nat} {apart:Int} (ha:1 <= apart):∀ a b,0 <= a -> a <= b -> ql l i apart a <= ql l i apart b:=fun a b h0 hab=>by
 have h1:=Int.mul_le_mul_of_nonneg_right (acp hab ha) (h.lost (i+1)).1
 have h2:=R7 hab (l:=(l.take i).map pc1) (fun x hx=>⟨(h.ko i x hx).1,(h.ko i x hx).2.1⟩)
 unfold ql;omega
theorem UR {l:List fq} (h:zi l=true):∀ t∈l,BJ t=0:=fun t ht=>by
 obtain ⟨j,hj,e⟩:=List.mem_iff_getElem.1 ht
 have e2:l.getD j t0=t:=by rw [<- e,List.getD_eq_getElem?_getD,List.getElem?_eq_getElem hj];rfl
 unfold zi at h
 rw [Bool.not_eq_true',oh] at h
 have:=h j (by omega) (by omega)
 unfold Xn at this
 rw [Bool.or_eq_false_iff,e2] at this
 simpa using this.1
theorem O8 {l:List fq} (h:zi l=true) (hL:jl l) (hl:l.length <= 10):RS l:=⟨hL,hl,fun t ht=>Xo (UR h t ht)⟩
noncomputable def l7 (l:List fq) (i apart:Int):Int×Int×Int :=
 if zi l=true /\ 0 <= i /\ i<(l.length:Int) /\ 1 <= apart then (DV (l.getD i.toNat t0).2.2.1 (ql l i.toNat apart) 20000 (firstT l i.toNat) 1).getD (0,0,0) else (0,0,1)
theorem JY {l:List fq} (h:RS l) {i:Nat} (hi:i<l.length) {apart:Int} (ha:1 <= apart):∃ y,DV (l.getD i t0).2.2.1 (ql l i apart) 20000 (firstT l i) 1=some y:=by
 have hf:=h.first hi
 have hen:=(h.co _ (iq (z:=t0) hi)).en
 have ahm:=(h.co _ (iq (z:=t0) hi)).per
 exact O7 (GR h ha) 20000 _ 1 (by omega) (h.right hi ha (by omega)).1 (by omega) (by omega)
theorem O9 {l:List fq} (hr:zi l=true) {i:Nat} (hi:i<l.length) {apart:Int} (ha:1 <= apart) {y:Int×Int×Int} (hy:DV (l.getD i t0).2.2.1 (ql l i apart) 20000 (firstT l i) 1=some y):l7 l (i:Int) apart=y:=by
 unfold l7
 rw [if_pos ⟨hr,by omega,by omega,ha⟩,Int.toNat_natCast,hy];rfl
noncomputable def OA (t:fq):Int:=(j5 t).1
def Yz (t:fq):Int:=t.2.1
theorem R8 {k:Nat} (hk:1000 <= k) {l:List fq} (hL:jl l) {i:Nat} (hi:i<l.length) {a b x2:Int}:∀ (d n j:Nat) (x:List Int) (x1:Int) (x3:List Int),n+d=i+1 -> d<j -> x.length <= n -> x3.length <= n ->
  TK k j l (i:Int) a b x x1 x2 x3 (n:Int)=some (((x++((l.take (i+1)).drop n).map OA,uf x1 ((l.take (i+1)).drop n),x2,x3++((l.take (i+1)).drop n).map Yz),()),())
 | 0,n,j,x,x1,x3,h,hj,h1,h3=>by
  obtain ⟨j',rfl⟩:∃ j',j=j'+1:=⟨j - 1,by omega⟩
  rw [VH,TJ,Rk (by omega),drop_nil (by rw [List.length_take];omega),List.map_nil,List.map_nil,List.append_nil,List.append_nil,uf]
 | d+1,n,j,x,x1,x3,h,hj,h1,h3=>by
  obtain ⟨j',rfl⟩:∃ j',j=j'+1:=⟨j - 1,by omega⟩
  have hll:=hL.1
  have hn:n<(l.take (i+1)).length:=by rw [List.length_take];omega
  have hg:(l.take (i+1)).getD n t0=l.getD n t0:=by
   rw [List.getD_eq_getElem?_getD,List.getD_eq_getElem?_getD,List.getElem?_take,if_pos (by omega)]
  have ht:=(hL.2 _ (iq (z:=t0) (show n<l.length by omega))).1
  have ih:=R8 hk hL hi (a:=a) (b:=b) (x2:=x2) d (n+1) j' (x++[(j5 (l.getD n t0)).1]) (mx x1 (j5 (l.getD n t0)).2.1) (x3++[(l.getD n t0).2.1]) (by omega) (by omega) (by simp;omega) (by simp;omega)
  rw [VH,TJ,Rj (by omega),Pw (by omega),Px,show l.getD n (0,0,0,[],[],[])=l.getD n t0 from rfl,UO hk ht,Option.bind_some,Rh (by simp only [List.length_cons,List.length_nil];omega),Pw (by omega),Rh (by simp only [List.length_cons,List.length_nil];omega),Me (by omega),drop_cons t0 hn,List.map_cons,List.map_cons,uf,hg]
  refine Eq.trans ih ?_
  rw [List.append_assoc,List.append_assoc];rfl
theorem ajM {k:Nat} (hk:1000 <= k) {l:List fq} (hL:jl l) {i:Nat} (hi:i<l.length):ah6 k l (i:Int)=some ((((l.take (i+1)).map OA,uf 0 (l.take (i+1)),byT l (i:Int),(l.take (i+1)).map Yz),()),()):=by
 have:=hL.1
 unfold ah6
 rw [acn hk hL,Option.bind_some]
 refine (R8 hk hL hi (i+1) 0 k [] 0 [] (by omega) (by omega) (by simp) (by simp)).trans ?_
 rw [List.drop_zero,List.nil_append,List.nil_append]
theorem IG {f:fq -> Int} {l:List fq} {i n:Nat} (hn:n<i+1) (hi:i<l.length):((l.take (i+1)).map f).getD n 0=f (l.getD n t0):=by
 rw [List.getD_eq_getElem?_getD,List.getElem?_map,List.getElem?_take,if_pos hn,List.getD_eq_getElem?_getD,List.getElem?_eq_getElem (by omega)];rfl
theorem R9 {k:Nat} {l:List fq} (h:RS l) {i:Nat} (hi:i<l.length) {r y1 y2:Int} (hr:0 <= r /\ r <= 50000):∀ (d n j:Nat) (x:Int),n+d=i -> d<j -> 0 <= x -> x+zk r (((l.take i).drop n).map pc1) <= 100000000000 ->
  MC k j r ((l.take (i+1)).map OA) y1 y2 ((l.take (i+1)).map Yz) (i:Int) x true (n:Int)=some ((x+zk r (((l.take i).drop n).map pc1),true,()),())
 | 0,n,j,x,h1,hj,hx,hb=>by
  obtain ⟨j',rfl⟩:∃ j',j=j'+1:=⟨j - 1,by omega⟩
  rw [VI,TL,Rk (by omega),drop_nil (by rw [List.length_take];omega)]
  simp [zk]
 | d+1,n,j,x,h1,hj,hx,hb=>by
  obtain ⟨j',rfl⟩:∃ j',j=j'+1:=⟨j - 1,by omega⟩
  have hll:=h.len
  have hn:n<(l.take i).length:=by rw [List.length_take];omega
  have hg:(l.take i).getD n t0=l.getD n t0:=by
   rw [List.getD_eq_getElem?_getD,List.getD_eq_getElem?_getD,List.getElem?_take,if_pos (by omega)]
  have hc:=h.co _ (iq (z:=t0) (show n<l.length by omega))
  have ahm:=hc.per;have hco:=hc.cost;have hen:=hc.en
  have hu:=R6 hr.1 ahm.1
  have hmul:=Int.mul_nonneg hu.1 (show 0 <= (j5 (l.getD n t0)).1 by omega)
  have hrest:0 <= zk r (((l.take i).drop (n+1)).map pc1):=zq hr.1 (fun y hy=>by
   obtain ⟨t,ht,rfl⟩:=List.mem_map.1 hy
   have q:=h.co t (List.mem_of_mem_take (List.mem_of_mem_drop ht))
   have:=q.cost;have:=q.per
   unfold pc1;simp only;omega)
  have hlen:((l.take (i+1)).map Yz).length=i+1:=by rw [List.length_map,List.length_take];omega
  have wE:((l.take (i+1)).map OA).length=i+1:=by rw [List.length_map,List.length_take];omega
  have ih:=R9 (k:=k) h hi (y1:=y1) (y2:=y2) hr d (n+1) j' (x+up r (l.getD n t0).2.1 * (j5 (l.getD n t0)).1) (by omega) (by omega) (by omega)
  rw [drop_cons t0 hn,List.map_cons,zk,hg] at hb ⊢
  have e1:(pc1 (l.getD n t0)).1=(l.getD n t0).2.1:=rfl
  have e2:(pc1 (l.getD n t0)).2=(j5 (l.getD n t0)).1:=rfl
  rw [e1,e2] at hb ⊢
  have ih:=ih (by omega)
  rw [VI,TL,Rj (by omega),cond_true,Pw (by omega),Px,IG (by omega) hi,show Yz (l.getD n t0)=(l.getD n t0).2.1 from rfl,acs k (by omega) ahm.1,Option.bind_some,Pw (by omega),Px,IG (by omega) hi,show OA (l.getD n t0)=(j5 (l.getD n t0)).1 from rfl]
  simp only
  rw [acu k (by omega) (by omega) (by omega),Option.bind_some]
  simp only [cond_true]
  rw [UQ k hx hmul (by omega),Option.bind_some,Me (by omega),<- Int.add_assoc]
  exact ih
theorem ajN {k:Nat} (hk:1000 <= k) {l:List fq} (h:RS l) {i:Nat} (hi:i<l.length) {apart r:Int} (ha:1 <= apart) (hr:0 <= r /\ r <= 50000):ah8 k ((l.take (i+1)).map OA,uf 0 (l.take (i+1)),byT l (i:Int),(l.take (i+1)).map Yz) apart r=some ((ql l i apart r,true,()),()):=by
 have hll:=h.len
 have wE:((l.take (i+1)).map OA).length=i+1:=by rw [List.length_map,List.length_take];omega
 have hb:=ahl h.co (i:Int)
 have hc:=h.co _ (iq (z:=t0) hi)
 have ahm:=hc.per;have hco:=hc.cost;have hen:=hc.en
 have hls:=h.lost (i+1)
 have hlo:=h.loss (i:=i) ha hr
 have hsu:=h.sum (i:=i) hr
 have hu:=R6 hr.1 ha
 have hfi:=h.first hi
 unfold ah8
 simp only
 rw [wE,Ua (n:=((i+1:Nat):Int) - 1) (by omega) (by omega),show ((i+1:Nat):Int) - 1=(i:Int) by omega,Pw (by omega),Px,IG (by omega) hi,show OA (l.getD i t0)=(j5 (l.getD i t0)).1 from rfl,UQ k (by omega) (by omega) (by omega),Option.bind_some,acs k (by omega) ha,Option.bind_some]
 simp only
 rw [acu k (by omega) (by omega) (by omega),Option.bind_some]
 simp only [cond_true]
 unfold TM
 rw [cond_true,show (j5 (l.getD i t0)).1+byT l (i:Int)=firstT l i from rfl,UQ k (by omega) (by omega) (by omega),Option.bind_some]
 refine (R9 h hi hr i 0 k (firstT l i+up r apart * uf 0 (l.take (i+1))) (by omega) (by omega) (by omega) (by rw [List.drop_zero];omega)).trans ?_
 rw [List.drop_zero];rfl
theorem RA {k:Nat} (hk:1000 <= k) {l:List fq} (h:RS l) {i:Nat} (hi:i<l.length) {apart:Int} (ha:1 <= apart):∀ (f j:Nat) (r n:Int) (y:Int×Int×Int),f <= j -> 0 <= r -> r <= 50000 -> 1 <= n -> n+f <= 1000000 -> DV (l.getD i t0).2.2.1 (ql l i apart) f r n=some y ->
  TN k j l (i:Int) apart ((l.take (i+1)).map OA) (uf 0 (l.take (i+1))) (byT l (i:Int)) ((l.take (i+1)).map Yz) r n=some ((y.1,y.2.1,y.2.2,()),())
 | 0,j,r,n,y,_,_,_,_,_,e=>by cases e
 | f+1,j,r,n,y,hj,h0,h1,hn,hf,e=>by
  obtain ⟨j',rfl⟩:∃ j',j=j'+1:=⟨j - 1,by omega⟩
  have hen:=(h.co _ (iq (z:=t0) hi)).en
  have ahm:=(h.co _ (iq (z:=t0) hi)).per
  have hfi:=h.first hi
  rw [aef,XM,ajN hk h hi ha ⟨h0,h1⟩,Option.bind_some]
  simp only [Bool.not_true,cond_false]
  rw [Pw hi,Px,show l.getD i (0,0,0,[],[],[])=l.getD i t0 from rfl]
  rw [DV] at e
  split at e
  ·rename_i q
   injection e with e;subst e
   rw [Rj q]
  ·rename_i q
   rw [Rk q]
   split at e
   ·rename_i q2
    injection e with e;subst e
    rw [q2,beq_self_eq_true,cond_true]
   ·rename_i q2
    have hr:=h.right hi ha ⟨h0,h1⟩
    rw [show (ql l i apart r==r)=false by rw [beq_eq_false_iff_ne];exact q2,cond_false,Ua (n:=n+1) (by omega) (by omega)]
    exact RA hk h hi ha f j' (ql l i apart r) (n+1) y (by omega) (by omega) (by omega) (by omega) (by omega) e
theorem ajO {k:Nat} (hk:20000 <= k) {l:List fq} (hL:jl l) (hl:l.length <= 10) (i apart:Int):ah9 k l i apart=some (((l7 l i apart).1,(l7 l i apart).2.1,(l7 l i apart).2.2,()),()):=by
 unfold ah9
 rw [acv (by omega) hL,Option.bind_some]
 simp only
 cases hr:zi l with
 | false =>
  have:l7 l i apart=(0,0,1):=by unfold l7;rw [if_neg (fun q=>by rw [hr] at q;cases q.1)]
  rw [this];rfl
 | true =>
  rw [Bool.not_true,cond_false]
  by_cases h1:i<0
  ·have:l7 l i apart=(0,0,1):=by unfold l7;rw [if_neg (fun q=>by omega)]
   rw [Rj h1,this]
  ·rw [Rk h1]
   by_cases h2:i≥(l.length:Int)
   ·have:l7 l i apart=(0,0,1):=by unfold l7;rw [if_neg (fun q=>by omega)]
    rw [Rj h2,this]
   ·rw [Rk h2]
    by_cases h3:apart<1
    ·have:l7 l i apart=(0,0,1):=by unfold l7;rw [if_neg (fun q=>by omega)]
     rw [Rj h3,this]
    ·rw [Rk h3]
     obtain ⟨n,rfl⟩:∃ n:Nat,i=(n:Int):=⟨i.toNat,by omega⟩
     have hn:n<l.length:=by omega
     have hRS:=O8 hr hL hl
     have hfi:=hRS.first hn
     have wE:((l.take (n+1)).map OA).length=n+1:=by rw [List.length_map,List.length_take];omega
     obtain ⟨y,hy⟩:=JY hRS hn (show 1 <= apart by omega)
     rw [ajM (by omega) hL hn,Option.bind_some]
     simp only
     rw [Pw (by omega),Px,IG (by omega) hn,show OA (l.getD n t0)+byT l (n:Int)=firstT l n from rfl,Ua (n:=firstT l n) (by omega) (by omega),O9 hr hn (by omega) hy]
     exact RA (by omega) hRS hn (by omega) 20000 k _ 1 y (by omega) (by omega) (by omega) (by omega) (by omega) hy
theorem OB {en:Int} {right:Int -> Int} (hm:∀ a b,0 <= a -> a <= b -> right a <= right b):∀ (f:Nat) (r n:Int) (y:Int×Int×Int),0 <= r -> r <= right r -> r <= en \/ right r>en -> DV en right f r n=some y ->
  (y=(0,0,14) /\ ∀ x,r <= x -> x <= en -> right x≠x) \/ (y.2.2=0 /\ right y.1=y.1 /\ r <= y.1 /\ y.1 <= en /\ n <= y.2.1 /\ y.2.1 - n <= y.1 - r /\ (right r≠r -> n+1 <= y.2.1) /\ ∀ x,r <= x -> right x=x -> y.1 <= x)
 | 0,r,n,y,_,_,_,e=>by cases e
 | f+1,r,n,y,h0,h1,h2,e=>by
  rw [DV] at e
  split at e
  ·rename_i q
   injection e with e;subst e
   refine .inl ⟨rfl,fun x hx hxe hf=>?_⟩
   have:=hm r x h0 hx
   omega
  ·rename_i q
   split at e
   ·rename_i q2
    injection e with e;subst e
    refine .inr ⟨rfl,q2,Int.le_refl _,by omega,Int.le_refl _,by simp only;omega,fun h=>absurd q2 h,fun x hx _=>hx⟩
   ·rename_i q2
    have hr:=hm r (right r) h0 h1
    rcases OB hm f (right r) (n+1) y (by omega) hr (.inl (by omega)) e with ⟨a,b⟩ | ⟨a1,a2,a3,a4,a5,a6,a7,a8⟩
    ·refine .inl ⟨a,fun x hx hxe hf=>?_⟩
     have:=hm r x h0 hx
     exact b x (by omega) hxe hf
    ·refine .inr ⟨a1,a2,by omega,a4,by omega,by omega,fun _=>by omega,fun x hx hf=>?_⟩
     have:=hm r x h0 hx
     exact a8 x (by omega) hf
theorem aco.row {jc:Int} {l:List fq} (h:aco jc l):zi l=true:=by
 unfold zi
 rw [Bool.not_eq_true',oh]
 intro n _ hn
 unfold Xn
 rw [h.may n (by omega),bne_self_eq_false,Bool.false_or,Bool.and_eq_false_iff]
 by_cases h0:(n:Int)>0
 ·right
  obtain ⟨r,m1,m2,m3⟩:=h.mt n (by omega)
  obtain ⟨r2,p1,p2,p3⟩:=h.mt (n - 1) (by omega)
  have e1:=m1.rank
  have e2:=p1.rank
  exact decide_eq_false (by rw [e1,e2];omega)
 ·left;exact decide_eq_false h0
theorem JZ {l:List fq} {i:Nat} (hi:i<l.length):l.take (i+1)=l.take i++[l.getD i t0]:=by
 rw [List.take_add_one,List.getElem?_eq_getElem hi,List.getD_eq_getElem?_getD,List.getElem?_eq_getElem hi];rfl
theorem KU {en z:Int} {right:Int -> Int} (hm:∀ a b,0 <= a -> a <= b -> right a <= right b) (h2:right z <= z) (h3:z <= en):∀ (f:Nat) (r n:Int) (y:Int×Int×Int),0 <= r -> r <= z -> r <= right r -> DV en right f r n=some y -> y.2.2=0 /\ y.1 <= z
 | 0,r,n,y,_,_,_,e=>by cases e
 | f+1,r,n,y,h0,h1,hr,e=>by
  have:=hm r z h0 h1
  rw [DV,if_neg (by omega)] at e
  split at e
  ·injection e with e;subst e;exact ⟨rfl,h1⟩
  ·exact KU hm h2 h3 f (right r) (n+1) y (by omega) (by omega) (hm r _ h0 hr) e
theorem Xq {l:List fq} (hr:zi l=true) (h:RS l) {i:Nat} (hi:i<l.length) {apart z:Int} (ha:1 <= apart) (h1:firstT l i <= z) (h2:ql l i apart z <= z) (h3:z <= (l.getD i t0).2.2.1):(l7 l (i:Int) apart).2.2=0 /\ (l7 l (i:Int) apart).1 <= z:=by
 obtain ⟨y,hy⟩:=JY h hi ha
 have hf:=h.first hi
 rw [O9 hr hi ha hy]
 exact KU (GR h ha) h2 h3 _ _ _ _ (by omega) h1 (h.right hi ha (by omega)).1 hy
theorem row_iff {l:List fq}:zi l=true↔∀ n,n<l.length -> BJ (l.getD n t0)=0 /\ (0<n -> (l.getD (n - 1) t0).1<(l.getD n t0).1):=by
 unfold zi
 rw [Bool.not_eq_true',oh]
 constructor
 ·intro h n hn
  have:=h n (by omega) (by omega)
  unfold Xn at this
  rw [Bool.or_eq_false_iff,Bool.and_eq_false_iff] at this
  refine ⟨by simpa using this.1,fun h0=>?_⟩
  rcases this.2 with q | q
  ·exact absurd (of_decide_eq_false q) (by omega)
  ·have:=of_decide_eq_false q;omega
 ·intro h n _ hn
  obtain ⟨a,b⟩:=h n (by omega)
  unfold Xn
  rw [a,bne_self_eq_false,Bool.false_or,Bool.and_eq_false_iff]
  by_cases h0:0<n
  ·right;exact decide_eq_false (by have:=b h0;omega)
  ·left;exact decide_eq_false (by omega)
theorem anr {n:Int} (h:(Lit.int .u8 n).wf=true):0 <= n /\ n <= 255:=by
 simp [Lit.wf,IntKind.min,IntKind.max,IntKind.signed,IntKind.bits] at h
 omega
end Go.Proofs.YtmmagcjlfcicfaaGreat.Ab
