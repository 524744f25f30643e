import Derived.Test.YtmmagcjlfcicfaaGreatPbC
import Derived.Test.YtmmagcjlfcicfaaGreatAbU0
import Derived.Test.YtmmagcjlfcicfaaGreatAbU1
import Derived.Test.YtmmagcjlfcicfaaGreatAbU2
import Derived.KernelRfl
/- The plain law, and what it hangs on. -/
namespace Go.Proofs.YtmmagcjlfcicfaaGreat.Ab
open Go.RowKit
set_option linter.unusedSimpArgs false
set_option linter.unusedVariables false
section
variable {σ R α:Type}
abbrev I4:Type:=Int×Int×Int×Int
abbrev i0:I4:=(0,0,0,0)
theorem aaX {c x y:Bool}:(bif c then some ((x,()),()) else some ((y,()),()):Option ((Bool×Unit)×Unit))=some ((bif c then x else y,()),()):=by cases c <;> rfl
theorem LV {c x:Bool}:(bif c then x else false)=(c&&x):=by cases c <;> rfl
theorem akg {a b c:Bool}:(bif (bif a then b else false) then c else false)=bif a then (bif b then c else false) else false:=by cases a <;> rfl
theorem ah7 (n a b:Int) (h:b=a+1):decide (n <= a)=decide (n<b):=by subst h;congr 1;exact propext ⟨fun _=>by omega,fun _=>by omega⟩
theorem getD_in {l:List α} {n:Nat} {z:α} (h:n<l.length):l.getD n z=l[n]:=by
 simp [List.getD_eq_getElem?_getD,List.getElem?_eq_getElem h]
theorem LW {l:List α} {n:Nat} {z:α} (h:l.length <= n):l.getD n z=z:=by
 simp [List.getD_eq_getElem?_getD,List.getElem?_eq_none h]
theorem oh {l:List α} {x y:Nat} {v z:α}:(l.set x v).getD y z=if x=y /\ y<l.length then v else l.getD y z:=by
 simp only [List.getD_eq_getElem?_getD,List.getElem?_set]
 by_cases h:x=y
 ·subst h
  by_cases h2:x<l.length
  ·simp [h2]
  ·simp [h2]
 ·simp [h]
theorem mh {u w:List α} {n:Nat} {z:α} (h:n<u.length):(u++w).getD n z=u.getD n z:=by
 simp [List.getD_eq_getElem?_getD,List.getElem?_append_left h]
theorem j6 {u w:List α} {n:Nat} {z:α} (h:u.length <= n):(u++w).getD n z=w.getD (n - u.length) z:=by
 simp [List.getD_eq_getElem?_getD,List.getElem?_append_right h]
theorem drop_cons {l:List α} {i:Nat} (z:α) (h:i<l.length):l.drop i=l.getD i z::l.drop (i+1):=by
 rw [List.drop_eq_getElem_cons h,getD_in h]
theorem drop_nil {l:List α} {i:Nat} (h:i=l.length):l.drop i=[]:=List.drop_eq_nil_of_le (by omega)
theorem iq {l:List α} {i:Nat} {z:α} (h:i<l.length):l.getD i z∈l:=by rw [getD_in h];exact List.getElem_mem h
theorem BI {l:List α} {x:α} (z:α) (h:x∈l):∃ i,i<l.length /\ l.getD i z=x:=by
 obtain ⟨i,hi,rfl⟩:=List.getElem_of_mem h
 exact ⟨i,hi,getD_in hi⟩
def goF (f:Nat -> σ -> σ):Nat -> Nat -> σ -> σ
 | 0,_,s=>s
 | m+1,i,s=>goF f m (i+1) (f i s)
theorem ah8 {L:Nat -> σ -> Int -> Option R} {n:Nat} (inv:Nat -> σ -> Prop) (f:Nat -> σ -> σ) (fin:σ -> Option R)
  (hs:∀ j i s,i<n -> inv i s -> L (j+1) s (i:Int)=L j (f i s) ((i+1:Nat):Int))
  (hi:∀ i s,i<n -> inv i s -> inv (i+1) (f i s))
  (he:∀ j s,inv n s -> L (j+1) s (n:Int)=fin s) :
  ∀ (m i j:Nat) (s:σ),i+m=n -> m<j -> inv i s -> L j s i=fin (goF f m i s)
 | 0,i,j,s,h,hj,hv=>by
  obtain ⟨j',rfl⟩:∃ j',j=j'+1:=⟨j - 1,by omega⟩
  have:i=n:=by omega
  subst this;exact he j' s hv
 | m+1,i,j,s,h,hj,hv=>by
  obtain ⟨j',rfl⟩:∃ j',j=j'+1:=⟨j - 1,by omega⟩
  rw [hs j' i s (by omega) hv,goF]
  exact ah8 inv f fin hs hi he m (i+1) j' _ (by omega) (by omega) (hi i s (by omega) hv)
theorem ZW {inv:Nat -> σ -> Prop} {f:Nat -> σ -> σ} {n:Nat} (hi:∀ i s,i<n -> inv i s -> inv (i+1) (f i s)):∀ (m i:Nat) (s:σ),i+m=n -> inv i s -> inv n (goF f m i s)
 | 0,i,s,h,hv=>by
  have:i=n:=by omega
  subst this;exact hv
 | m+1,i,s,h,hv=>ZW hi m (i+1) _ (by omega) (hi i s (by omega) hv)
def RL (f:α -> Bool) (xs:List α):Int:=match xs.findIdx? f with | some n=>(n:Int) | none=>-1
theorem ZX (L:Nat -> Int -> Option ((Int×Unit)×Unit)) (xs:List α) (z:α) (f:α -> Bool)
  (hs:∀ (j n:Nat),n<xs.length -> L (j+1) (n:Int)=bif f (xs.getD n z) then some (((n:Int),()),()) else L j ((n+1:Nat):Int))
  (he:∀ j,L (j+1) (xs.length:Int)=some ((-1,()),())):∀ (m i j:Nat),i+m=xs.length -> m<j ->
   L j i=some (((match (xs.drop i).findIdx? f with | some n=>((i+n:Nat):Int) | none=>-1),()),())
 | 0,i,j,h,hj=>by
  obtain ⟨j',rfl⟩:∃ j',j=j'+1:=⟨j - 1,by omega⟩
  have:i=xs.length:=by omega
  subst this;rw [he,List.drop_length];rfl
 | m+1,i,j,h,hj=>by
  obtain ⟨j',rfl⟩:∃ j',j=j'+1:=⟨j - 1,by omega⟩
  have hlt:i<xs.length:=by omega
  rw [hs j' i hlt,drop_cons z hlt,List.findIdx?_cons,ZX L xs z f hs he m (i+1) j' (by omega) (by omega)]
  cases f (xs.getD i z) with
  | true=>simp
  | false =>
   simp only [cond_false,Bool.false_eq_true,if_false]
   cases (xs.drop (i+1)).findIdx? f with
   | none=>rfl
   | some n=>simp only [Option.map_some];congr 4;omega
theorem ZY (L:Nat -> Int -> Option ((Int×Unit)×Unit)) (xs:List α) (z:α) (f:α -> Bool)
  (hs:∀ (j n:Nat),n<xs.length -> L (j+1) (n:Int)=bif f (xs.getD n z) then some (((n:Int),()),()) else L j ((n+1:Nat):Int))
  (he:∀ j,L (j+1) (xs.length:Int)=some ((-1,()),())) (j:Nat) (hj:xs.length<j):L j 0=some ((RL f xs,()),()):=by
 have:=ZX L xs z f hs he xs.length 0 j (by omega) hj
 rw [List.drop_zero] at this
 simpa [RL] using this
theorem aeh (f:α -> Bool) (s:List α):decide (RL f s≥0)=s.any f:=by
 unfold RL
 cases h:s.findIdx? f with
 | none=>rw [List.findIdx?_eq_none_iff] at h;simp;intro x hx;simpa using h x hx
 | some n =>
  have h2:=List.findIdx?_isSome (xs:=s) (p:=f)
  rw [h] at h2
  rw [<- h2];simp
theorem aac (L:Nat -> Int -> Option R) (xs:List α) (z:α) (f:α -> Bool) (yes no:Option R)
  (hs:∀ (j n:Nat),n<xs.length -> L (j+1) (n:Int)=bif f (xs.getD n z) then yes else L j ((n+1:Nat):Int))
  (he:∀ j,L (j+1) (xs.length:Int)=no):∀ (m i j:Nat),i+m=xs.length -> m<j -> L j i=bif (xs.drop i).any f then yes else no
 | 0,i,j,h,hj=>by
  obtain ⟨j',rfl⟩:∃ j',j=j'+1:=⟨j - 1,by omega⟩
  have:i=xs.length:=by omega
  subst this;rw [he,List.drop_length];rfl
 | m+1,i,j,h,hj=>by
  obtain ⟨j',rfl⟩:∃ j',j=j'+1:=⟨j - 1,by omega⟩
  have hlt:i<xs.length:=by omega
  rw [hs j' i hlt,drop_cons z hlt,List.any_cons,aac L xs z f yes no hs he m (i+1) j' (by omega) (by omega)]
  cases f (xs.getD i z) <;> rfl
theorem K9 (L:Nat -> Int -> Option R) (xs:List α) (z:α) (f:α -> Bool) (yes no:Option R)
  (hs:∀ (j n:Nat),n<xs.length -> L (j+1) (n:Int)=bif f (xs.getD n z) then yes else L j ((n+1:Nat):Int))
  (he:∀ j,L (j+1) (xs.length:Int)=no) (j:Nat) (hj:xs.length<j):L j 0=bif xs.any f then yes else no:=by
 have:=aac L xs z f yes no hs he xs.length 0 j (by omega) hj
 rwa [List.drop_zero] at this
def vg (f:Nat -> Bool):Nat -> Nat -> Bool
 | 0,_=>false
 | m+1,i=>f i||vg f m (i+1)
theorem LX (f:Nat -> Bool):∀ (m i:Nat),vg f m i=true↔∃ n,i <= n /\ n<i+m /\ f n=true
 | 0,i=>⟨fun h=>by simp [vg] at h,fun ⟨n,h1,h2,_⟩=>by omega⟩
 | m+1,i=>by
  rw [vg,Bool.or_eq_true,LX f m (i+1)]
  constructor
  ·rintro (h | ⟨n,h1,h2,h3⟩)
   ·exact ⟨i,by omega,by omega,h⟩
   ·exact ⟨n,by omega,by omega,h3⟩
  ·rintro ⟨n,h1,h2,h3⟩
   by_cases e:n=i
   ·subst e;exact .inl h3
   ·exact .inr ⟨n,by omega,by omega,h3⟩
theorem nk (f:Nat -> Bool) (m i:Nat):vg f m i=false↔∀ n,i <= n -> n<i+m -> f n=false:=by
 constructor
 ·intro h n h1 h2
  cases hf:f n with
  | false=>rfl
  | true=>rw [(LX f m i).2 ⟨n,h1,h2,hf⟩] at h;cases h
 ·intro h
  cases ha:vg f m i with
  | false=>rfl
  | true=>obtain ⟨n,h1,h2,h3⟩:=(LX f m i).1 ha;rw [h n h1 h2] at h3;cases h3
theorem aaY {L:Nat -> Int -> Option R} {n:Nat} (f:Nat -> Bool) (yes no:Option R)
  (hs:∀ (j i:Nat),i<n -> L (j+1) (i:Int)=bif f i then yes else L j ((i+1:Nat):Int))
  (he:∀ j,L (j+1) (n:Int)=no):∀ (m i j:Nat),i+m=n -> m<j -> L j i=bif vg f m i then yes else no
 | 0,i,j,h,hj=>by
  obtain ⟨j',rfl⟩:∃ j',j=j'+1:=⟨j - 1,by omega⟩
  have:i=n:=by omega
  subst this;rw [he];rfl
 | m+1,i,j,h,hj=>by
  obtain ⟨j',rfl⟩:∃ j',j=j'+1:=⟨j - 1,by omega⟩
  rw [hs j' i (by omega),vg,aaY f yes no hs he m (i+1) j' (by omega) (by omega)]
  cases f i <;> rfl
theorem LY:∀ (n i:Nat) (x:PN α n) (j:Nat) (v:α),i <= j -> Gr n (Gs n i x (j:Int) v)=(Gr n x).set (j - i) v
 | 0,_,_,_,_,_=>rfl
 | 1,i,x,j,v,h=>by
  simp only [Gr,Gs]
  by_cases e:j=i
  ·subst e;simp
  ·rw [if_neg (by omega)]
   have:j - i=(j - i - 1)+1:=by omega
   rw [this];rfl
 | n+2,i,x,j,v,h=>by
  simp only [Gr,Gs]
  by_cases e:j=i
  ·subst e
   simp only [if_true,Nat.sub_self,List.set_cons_zero,List.cons.injEq,true_and]
   exact FI (n+1) (j+1) x.2 j v (by omega)
  ·rw [if_neg (by omega),LY (n+1) (i+1) x.2 j v (by omega),show j - i=(j - (i+1))+1 by omega,List.set_cons_succ]
where FI:∀ (n i:Nat) (x:PN α n) (j:Nat) (v:α),j<i -> Gr n (Gs n i x (j:Int) v)=Gr n x
 | 0,_,_,_,_,_=>rfl
 | 1,i,x,j,v,h=>by simp only [Gr,Gs];rw [if_neg (by omega)]
 | n+2,i,x,j,v,h=>by simp only [Gr,Gs];rw [if_neg (by omega),FI (n+1) (i+1) x.2 j v (by omega)]
theorem aaZ {n:Nat} {x:PN α n} {j:Nat} {v:α}:Gr n (Tw n x (j:Int) v)=(Gr n x).set j v:=by
 unfold Tw;rw [LY n 0 x j v (by omega)];rfl
end
def zy (a:Int):Bool:=decide (a≥0)&&decide (a<8)
def xg (v a b:Int):Bool:=decide (v≥a)&&decide (v <= b)
def ji (i:I4):Bool :=
 bif i.1==0 then (i.2.1==0&&(i.2.2.1==0&&i.2.2.2==0))
 else bif i.1==11 then (i.2.1==0&&(i.2.2.1==0&&i.2.2.2==0))
 else bif i.1==1 then (zy i.2.1&&(i.2.2.1==0&&xg i.2.2.2 (-2147483648) 2147483647))
 else bif i.1==2 then (zy i.2.1&&(zy i.2.2.1&&i.2.2.2==0))
 else bif i.1==3 then (zy i.2.1&&(zy i.2.2.1&&i.2.2.2==0))
 else bif i.1==4 then (zy i.2.1&&(zy i.2.2.1&&i.2.2.2==0))
 else bif i.1==5 then (zy i.2.1&&(i.2.2.1==0&&xg i.2.2.2 (-63) 63))
 else bif i.1==6 then (zy i.2.1&&(i.2.2.1==0&&xg i.2.2.2 1 64))
 else bif i.1==7 then (zy i.2.1&&(i.2.2.1==0&&xg i.2.2.2 1 24))
 else bif i.1==8 then (i.2.1==0&&(xg i.2.2.1 1 24&&xg i.2.2.2 1 20))
 else bif i.1==9 then (xg i.2.1 0 3&&(i.2.2.1==0&&i.2.2.2==0))
 else bif i.1==10 then (xg i.2.1 0 3&&(i.2.2.1==0&&i.2.2.2==0))
 else false
theorem agp (k:Nat) (a:Int):IQ k a=some ((zy a,()),()):=by unfold IQ zy;rw [aaX,LV]
theorem agq (k:Nat) (a:Int):I6 k 8 a=some ((zy a,()),()):=by unfold I6 zy;rw [aaX,LV]
theorem agr (k:Nat) (v a b:Int):LK k v a b=some ((xg v a b,()),()):=by unfold LK xg;rw [aaX,LV]
theorem ags (k:Nat) (i:I4):afQ k i=some ((ji i,()),()):=by
 unfold ji afQ
 simp only [agp,agr,Option.bind_some,aaX,LV]
theorem agt (k:Nat) (i:I4):abG k i=some ((ji i,()),()):=by
 unfold ji abG xg
 simp only [agq,Option.bind_some,aaX,LV,akg,Bool.and_assoc,ah7 _ 2147483647 2147483648 rfl,ah7 _ 3 4 rfl]
def LZ (l:List I4) (open_:List Int) (x:Int):Bool:=open_.any (fun i=>(rd l i i0).2.1==(rd l x i0).2.1)
def pc (i:Nat) (x:I4):List (Int×Int×Int×Bool) :=
 bif x.1==8 then [(((i+1:Nat):Int),IntKind.i64.wrap ((i:Int)+x.2.2.1),(i:Int),true)]
 else bif x.1==7 then [(((i+1:Nat):Int),IntKind.i64.wrap ((i:Int)+x.2.2.2),(i:Int),false)] else []
def jw:Nat -> List (I4) -> List (Int×Int×Int×Bool)
 | _,[]=>[]
 | i,x::r=>pc i x++jw (i+1) r
theorem aei (i:Nat) (x:I4):(pc i x).length <= 1:=by unfold pc;cases x.1==8 <;> cases x.1==7 <;> simp
theorem AU:∀ (l:List (I4)) (i:Nat),(jw i l).length <= l.length
 | [],_=>by simp [jw]
 | x::r,i=>by have:=aei i x;have:=AU r (i+1);simp only [jw,List.length_append,List.length_cons];omega
theorem O4 (l:List (I4)) (hl:l.length <= 900) (L:Nat -> List (Int×Int×Int×Bool) -> Int -> Option ((List (Int×Int×Int×Bool)×Unit)×Unit))
  (hs:∀ j out (i:Nat),i<l.length -> out.length <= i -> L (j+1) out i=L j (out++pc i (l.getD i (0,0,0,0))) ((i+1:Nat):Int))
  (he:∀ j out,L (j+1) out (l.length:Int)=some ((out,()),())):∀ (m i j:Nat) (out:List (Int×Int×Int×Bool)),i+m=l.length -> m<j -> out.length <= i -> L j out i=some ((out++jw i (l.drop i),()),())
 | 0,i,j,out,h,hj,ho=>by
  obtain ⟨j',rfl⟩:∃ j',j=j'+1:=⟨j - 1,by omega⟩
  have:i=l.length:=by omega
  subst this
  rw [he,List.drop_length]
  simp [jw]
 | m+1,i,j,out,h,hj,ho=>by
  obtain ⟨j',rfl⟩:∃ j',j=j'+1:=⟨j - 1,by omega⟩
  have hlt:i<l.length:=by omega
  have hp:=aei i (l.getD i (0,0,0,0))
  rw [hs j' out i hlt ho,O4 l hl L hs he m (i+1) j' _ (by omega) (by omega) (by simp only [List.length_append];omega),List.drop_eq_getElem_cons hlt]
  have:l.getD i (0,0,0,0)=l[i]:=by simp [List.getD_eq_getElem?_getD,hlt]
  rw [this,jw,List.append_assoc]
theorem RN {k:Nat} {l:List (I4)} (hk:1000 <= k) (h:l.length <= 900):aaH k l=some ((jw 0 l,()),()):=by
 have:=O4 l h (fun j out i=>I7 k j l out i)
  (fun j out i hi ho=>by
   show I7 k (j+1) l out (i:Int)=_
   rw [TU,PY,Rj (by omega),Pw hi,Me (by omega),Px,pc]
   cases h8:(l.getD i (0,0,0,0)).1==8 with
   | true =>
    have h7:((l.getD i (0,0,0,0)).1==7)=false:=by rw [eq_of_beq h8];rfl
    rw [h7]
    simp only [cond_true,cond_false]
    rw [Pw hi,Rh (by simp only [List.length_cons,List.length_nil];omega)]
   | false =>
    cases h7:(l.getD i (0,0,0,0)).1==7 with
    | true=>simp only [cond_true,cond_false];rw [Pw hi,Rh (by simp only [List.length_cons,List.length_nil];omega)]
    | false=>simp only [cond_false,List.append_nil])
  (fun j out=>by
   show I7 k (j+1) l out (l.length:Int)=_
   rw [TU,PY,Rk (by omega)])
  l.length 0 k [] (by omega) (by omega) (by simp)
 unfold aaH
 simpa using this
abbrev dw:Type:=Int×Int×Int×Bool
def ou (p:dw) (i:Int):Bool:=decide (p.1 <= i)&&decide (i <= p.2.1)
def inA (p q:dw):Bool:=ou q p.1&&ou q p.2.1
def apA (p q:dw):Bool:=decide (p.2.1<q.1)||decide (q.2.1<p.1)
def FP (p q:dw):Bool:=(ou q p.2.2.1&&!inA p q)||(!apA p q&&(!inA p q&&!inA q p))
theorem KA (k:Nat) (p:dw) (i:Int):PZ k p i=some ((ou p i,()),()):=by
 unfold PZ ou;rw [aaX];cases h:decide (p.1 <= i) <;> simp_all
def bumps:List Int -> Nat -> Nat -> List Int
 | ar,_,0=>ar
 | ar,i,m+1=>bumps (ar.set i (IntKind.i64.wrap (ar.getD i 0+1))) (i+1) m
def nest (L1:Int) (all:List dw):List dw -> List Int -> Bool
 | [],ar=>!ar.any (fun i=>decide (i>2))
 | p::r,ar=>bif decide (p.2.1≥L1) then false else bif all.any (FP p) then false else nest L1 all r (bif p.2.2.2 then bumps ar p.1.toNat (p.2.1+1 - p.1).toNat else ar)
theorem O5:∀ (m i:Nat) (ar:List Int),(bumps ar i m).length=ar.length
 | 0,_,_=>rfl
 | m+1,i,ar=>by rw [bumps,O5 m];simp
def JR (l:List I4) (i j:Int):Bool:=(jw 0 l).any (fun p=>ou p i != ou p j)
section
variable {tk tv:Ty} (hb:∀ a b:tk.D,fC tk a b=true↔a=b)
include hb
end
def jm (l:List I4) (i:Nat) (s:List Int×List Int):Option (List Int×List Int) :=
 if (l.getD i i0).1=9 then (if 2 <= s.2.length \/ LZ l s.2 i=true then none else some (s.1,s.2++[(i:Int)]))
 else if (l.getD i i0).1=10 then
  (match s.2.getLast? with
  | none=>none
  | some k=>if (rd l k i0).2.1≠(l.getD i i0).2.1 \/ JR l k.toNat i=true then none else some (upd s.1 k i,s.2.dropLast))
 else some s
def sj (l:List I4):Nat -> Nat -> List Int×List Int -> Option (List Int×List Int)
 | 0,_,s=>some s
 | m+1,i,s=>(jm l i s).bind (sj l m (i+1))
def MV (l:List I4):Option (List Int):=match sj l l.length 0 (List.replicate l.length 0,[]) with
 | some (out,[])=>some out
 | _=>none
def aad:Option (List Int) -> Option ((List Int×Bool×Unit)×Unit)
 | some out=>some ((out,true,()),())
 | none=>some (([],false,()),())
def aej (l:List I4) (i:Nat) (s:List Int×List Int):Prop:=s.1.length=l.length /\ s.2.length <= 2 /\ ∀ k∈s.2,0 <= k /\ k<(i:Int)
theorem FQ {l:List I4} {i:Nat} {s s':List Int×List Int} (hv:aej l i s) (h:jm l i s=some s'):aej l (i+1) s':=by
 obtain ⟨h1,h2,h3⟩:=hv
 unfold jm at h
 split at h
 ·split at h
  ·cases h
  ·rename_i hn
   injection h with h;subst h
   refine ⟨h1,?_,?_⟩
   ·simp only [List.length_append,List.length_cons,List.length_nil];omega
   ·intro k hk
    rcases List.mem_append.1 hk with hk | hk
    ·have:=h3 k hk;omega
    ·have:=List.mem_singleton.1 hk;omega
 ·split at h
  ·split at h
   ·cases h
   ·split at h
    ·cases h
    ·injection h with h;subst h
     refine ⟨by rw [Mg];exact h1,?_,?_⟩
     ·simp only [List.length_dropLast];omega
     ·intro k hk
      have:=h3 k ((List.dropLast_sublist _).subset hk);omega
  ·injection h with h;subst h
   exact ⟨h1,h2,fun k hk=>by have:=h3 k hk;omega⟩
def aae (l:List I4) (ps:List Int) (i:Nat):Bool:=(l.getD i i0).1==11&&((jw 0 l).any (fun p=>ou p i)||(ps.take i).any (fun e=>decide (e>(i:Int))))
def qo (l:List I4):Bool :=
 decide (1 <= l.length)&&(decide (l.length <= 24)&&(!l.any (fun i=>!ji i)&&(RL (fun i=>i.1==0) l==(l.length:Int) - 1 &&
  (nest ((l.length:Int) - 1) (jw 0 l) (jw 0 l) (List.replicate l.length 0) &&
  (match MV l with | none=>false | some ps=>!vg (aae l ps) l.length 0)))))
theorem Vi {l:List I4}:∀ (m i:Nat) (s s':List Int×List Int),sj l m i s=some s' -> s'.1.length=s.1.length
 | 0,i,s,s',h=>by injection h with h;subst h;rfl
 | m+1,i,s,s',h=>by
  rw [sj,Option.bind_eq_some_iff] at h
  obtain ⟨t,h1,h2⟩:=h
  rw [Vi m (i+1) t s' h2]
  unfold jm at h1
  split at h1
  ·split at h1
   ·cases h1
   ·injection h1 with h1;subst h1;rfl
  ·split at h1
   ·split at h1
    ·cases h1
    ·split at h1
     ·cases h1
     ·injection h1 with h1;subst h1;simp only [Mg]
   ·injection h1 with h1;subst h1;rfl
theorem RO {l:List I4} {ps:List Int} (h:MV l=some ps):sj l l.length 0 (List.replicate l.length 0,[])=some (ps,[]):=by
 unfold MV at h
 split at h
 ·rename_i out hg;injection h with h;subst h;exact hg
 ·cases h
theorem AX {l:List I4} {ps:List Int} (h:MV l=some ps):ps.length=l.length:=by
 have:=Vi _ _ _ _ (RO h)
 simpa using this
abbrev a0:dw:=(0,0,0,false)
theorem WS {k:Nat} {g5:List I4 -> List Int -> List Int -> List dw -> Int -> Option ((List Int×Bool×Unit)×Unit)} {l:List I4} {out open_:List Int} {a:List dw} {i:Nat} (hi:i<l.length) (ho:open_.length <= 900) (hs:∀ i∈open_,0 <= i /\ i<(l.length:Int)) (hl:l.length <= 900) (j:Nat) (hj:open_.length<j) :
  BR k g5 j l out open_ a (i:Int) 0=bif LZ l open_ i then some (([],false,()),()) else
   bif decide (((open_.length:Int)+1)>2) then some (([],false,()),()) else g5 l out (open_++[(i:Int)]) a ((i+1:Nat):Int):=by
 refine K9 (fun j k'=>BR k g5 j l out open_ a (i:Int) k') open_ 0 (fun x=>(rd l x i0).2.1==(rd l i i0).2.1) _ _ (fun j n hn=>?_) (fun j=>?_) j hj
 ·show BR k g5 (j+1) l out open_ a (i:Int) (n:Int)=_
  have:=hs _ (iq (z:=0) hn)
  rw [NG,JY,Rj (by omega),Pw hn,Px,Lf this.1 this.2,Pw hi,Me (by omega)]
 ·show BR k g5 (j+1) l out open_ a (i:Int) (open_.length:Int)=_
  rw [NG,JY,Rk (by omega),Rh (by simp only [List.length_cons,List.length_nil];omega),Me (by omega)]
  have:((open_++[(i:Int)]).length:Int)=(open_.length:Int)+1:=by simp
  rw [this]
theorem WT {k:Nat} {g5:List I4 -> List Int -> List Int -> List dw -> Int -> Option ((List Int×Bool×Unit)×Unit)} {l:List I4} {out open_:List Int} {a:List dw} {i n:Nat} (hn:n<out.length) (hi:i <= 900) (ha:a.length <= 900) (j:Nat) (hj:a.length<j) :
  BS k g5 j l out open_ a (i:Int) (n:Int) 0=bif a.any (fun p=>ou p n != ou p i) then some (([],false,()),()) else g5 l (upd out n i) open_ a ((i+1:Nat):Int):=by
 refine K9 (fun j k'=>BS k g5 j l out open_ a (i:Int) (n:Int) k') a a0 _ _ _ (fun j m hm=>?_) (fun j=>?_) j hj
 ·show BS k g5 (j+1) l out open_ a (i:Int) (n:Int) (m:Int)=_
  rw [NH,JZ,Rj (by omega),Pw hm,Px,Me (by omega)]
  simp only [KA,Option.bind_some]
  rw [Pw hm];rfl
 ·show BS k g5 (j+1) l out open_ a (i:Int) (n:Int) (a.length:Int)=_
  rw [NH,JZ,Rk (by omega),Pw hn,Me (by omega)]
theorem O6 {k:Nat} (hk:1000 <= k) {l:List I4} (hl:l.length <= 900):∀ (m i j:Nat) (s:List Int×List Int),i+m=l.length -> m<j -> aej l i s ->
  Q5 k j l s.1 s.2 (jw 0 l) i=aad (match sj l m i s with | some (out,[])=>some out | _=>none)
 | 0,i,j,s,h,hj,hv=>by
  obtain ⟨j',rfl⟩:∃ j',j=j'+1:=⟨j - 1,by omega⟩
  obtain ⟨out,open_⟩:=s
  rw [TY,Q0,Rk (by omega)]
  cases open_ with
  | nil=>rfl
  | cons x r=>rw [Rj (by simp only [List.length_cons];omega)];rfl
 | m+1,i,j,s,h,hj,hv=>by
  obtain ⟨j',rfl⟩:∃ j',j=j'+1:=⟨j - 1,by omega⟩
  have hi:i<l.length:=by omega
  have ih:=O6 hk hl m (i+1) j'
  have hpl:=AU l 0
  rw [TY,Q0,Rj (by omega)]
  obtain ⟨out,open_⟩:=s
  obtain ⟨hv1,hv2,hv3⟩:=hv
  simp only at hv1 hv2 hv3 ⊢
  rw [Pw hi,Px,sj]
  cases h9:(l.getD i i0).1==9 with
  | true =>
   have h9':=eq_of_beq h9
   rw [cond_true]
   refine (WS hi (by omega) (fun k hk=>by have:=hv3 k hk;omega) hl k (by omega)).trans ?_
   cases hs:LZ l open_ i with
   | true =>
    have:jm l i (out,open_)=none:=by unfold jm;rw [if_pos h9',if_pos (.inr hs)]
    rw [this];rfl
   | false =>
    rw [cond_false]
    by_cases h2:2 <= open_.length
    ·have:jm l i (out,open_)=none:=by unfold jm;rw [if_pos h9',if_pos (.inl h2)]
     rw [this,Rj (by omega)];rfl
    ·have hp:jm l i (out,open_)=some (out,open_++[(i:Int)]):=by unfold jm;rw [if_pos h9',if_neg (by rw [hs];simp;omega)]
     rw [hp,Option.bind_some,Rk (by omega)]
     exact ih (out,open_++[(i:Int)]) (by omega) (by omega) (FQ ⟨hv1,hv2,hv3⟩ hp)
  | false =>
   have h9':(l.getD i i0).1≠9:=by intro e;rw [e] at h9;cases h9
   simp only [cond_false]
   cases h10:(l.getD i i0).1==10 with
   | true =>
    have aa0:=eq_of_beq h10
    simp only [cond_true]
    have hstep:jm l i (out,open_)=(match open_.getLast? with
     | none=>none
     | some k=>if (rd l k i0).2.1≠(l.getD i i0).2.1 \/ JR l k.toNat i=true then none else some (upd out k i,open_.dropLast)):=by
     unfold jm;exact (if_neg h9').trans (if_pos aa0)
    rw [Ua (by omega) (by omega)]
    rcases List.eq_nil_or_concat open_ with rfl | ⟨r,x,rfl⟩
    ·rw [hstep];rfl
    ·rw [List.concat_eq_append] at *
     have hlast:(r++[x]).getLast? = some x:=by simp
     rw [hlast] at hstep
     have hx:=hv3 x (by simp)
     obtain ⟨n,rfl⟩:∃ n:Nat,x=(n:Int):=⟨x.toNat,by omega⟩
     have hlen:(((r++[(n:Int)]).length:Int) - 1)=(r.length:Int):=by simp only [List.length_append,List.length_cons,List.length_nil];omega
     have hlen1:(((r++[(n:Int)]).length:Int)==0)=false:=by
      have:((r++[(n:Int)]).length:Int)≠0:=by simp only [List.length_append,List.length_cons,List.length_nil];omega
      simpa using this
     have hrd:rd (r++[(n:Int)]) (r.length:Int) 0=(n:Int):=by rw [Px,List.getD_eq_getElem?_getD];simp
     rw [hlen,hlen1,cond_false,Lf (by omega) (by simp only [List.length_append,List.length_cons,List.length_nil];omega),hrd,Pw (by omega),Pw hi,Px]
     simp only [Px,Int.toNat_natCast] at hstep
     cases hA:(l.getD n i0).2.1 != (l.getD i i0).2.1 with
     | true =>
      have hp:jm l i (out,r++[(n:Int)])=none:=by rw [hstep];exact if_pos (.inl (by simpa using hA))
      rw [hp];rfl
     | false =>
      have hA':¬ (l.getD n i0).2.1≠(l.getD i i0).2.1:=by simpa using hA
      rw [cond_false,Lf (by omega) (by simp only [List.length_append,List.length_cons,List.length_nil];omega),Rc (by omega) (by omega) (by simp only [List.length_append,List.length_cons,List.length_nil];omega)]
      have htk:(r++[(n:Int)]).take (r.length:Int).toNat=r:=by simp
      rw [htk]
      refine (WT (by omega) (by omega) (by omega) k (by omega)).trans ?_
      rw [show (jw 0 l).any (fun p=>ou p n != ou p i)=JR l n i from rfl]
      cases hs:JR l n i with
      | true =>
       have hp:jm l i (out,r++[(n:Int)])=none:=by rw [hstep];exact if_pos (.inr hs)
       rw [hp];rfl
      | false =>
       have hp:jm l i (out,r++[(n:Int)])=some (upd out (n:Int) (i:Int),r):=by rw [hstep];refine (if_neg ?_).trans (by simp);rintro (h | h);exact hA' h;rw [show JR l n i=true from h] at hs;cases hs
       rw [hp,Option.bind_some,cond_false]
       exact ih (upd out (n:Int) (i:Int),r) (by omega) (by omega) (FQ ⟨hv1,hv2,hv3⟩ hp)
   | false =>
    have aa0:(l.getD i i0).1≠10:=by intro e;rw [e] at h10;cases h10
    have hp:jm l i (out,open_)=some (out,open_):=by unfold jm;rw [if_neg h9',if_neg aa0]
    rw [hp,Option.bind_some,cond_false,Me (by omega)]
    exact ih (out,open_) (by omega) (by omega) (FQ ⟨hv1,hv2,hv3⟩ hp)
theorem aaf {k:Nat} (hk:1000 <= k) {l:List I4} (hl:l.length <= 900):abJ k l=aad (MV l):=by
 unfold abJ
 rw [Rf (by omega) (by omega),RN hk hl,Option.bind_some]
 exact O6 hk hl l.length 0 k (List.replicate l.length 0,[]) (by omega) (by omega) ⟨by simp,by simp,by simp⟩
def AY (l:List I4) (ps:List Int) (i:Int):Nat -> Nat -> Int -> Int
 | 0,_,n=>n
 | m+1,k,n=>AY l ps i m (k+1) (bif ((l.getD k i0).1==9&&(decide ((k:Int)<i)&&decide (i<ps.getD k 0))) then n+1 else n)
theorem Vj (l:List I4) (ps:List Int) (i:Int):∀ (m k:Nat) (n:Int),n <= AY l ps i m k n
 | 0,_,n=>by simp [AY]
 | m+1,k,n=>by
  rw [AY]
  have:=Vj l ps i m (k+1) (bif ((l.getD k i0).1==9&&(decide ((k:Int)<i)&&decide (i<ps.getD k 0))) then n+1 else n)
  revert this
  cases ((l.getD k i0).1==9&&(decide ((k:Int)<i)&&decide (i<ps.getD k 0))) <;> simp only [cond_true,cond_false] <;> omega
theorem IW (l:List I4) (ps:List Int) (i:Int):∀ (m k:Nat) (n:Int),decide (AY l ps i m k n>n)=vg (fun k=>(l.getD k i0).1==9&&(decide ((k:Int)<i)&&decide (i<ps.getD k 0))) m k
 | 0,_,n=>by simp [AY,vg]
 | m+1,k,n=>by
  rw [AY,vg]
  cases h:((l.getD k i0).1==9&&(decide ((k:Int)<i)&&decide (i<ps.getD k 0))) with
  | true =>
   have:=Vj l ps i m (k+1) (n+1)
   rw [cond_true,Bool.true_or]
   exact decide_eq_true (by omega)
  | false=>rw [cond_false,Bool.false_or];exact IW l ps i m (k+1) n
theorem IX {k:Nat} {l:List I4} {ps:List Int} {i:Nat} (hl:l.length <= 900) (hp:ps.length=l.length):∀ (m n j:Nat) (s:Int),n+m=l.length -> m<j -> 0 <= s -> s <= n ->
  Q7 k j l ps (i:Int) s n=some ((AY l ps i m n s,()),())
 | 0,n,j,s,h,hj,h0,h1=>by
  obtain ⟨j',rfl⟩:∃ j',j=j'+1:=⟨j - 1,by omega⟩
  rw [U0,Q6,Rk (by omega)];rfl
 | m+1,n,j,s,h,hj,h0,h1=>by
  obtain ⟨j',rfl⟩:∃ j',j=j'+1:=⟨j - 1,by omega⟩
  rw [U0,Q6,Rj (by omega),Pw (by omega),Pw (by omega),Px,Px,Me (by omega),Ua (by omega) (by omega),AY]
  have i1:=IX (k:=k) (i:=i) hl hp m (n+1) j' (s+1) (by omega) (by omega) (by omega) (by omega)
  have i2:=IX (k:=k) (i:=i) hl hp m (n+1) j' s (by omega) (by omega) (by omega) (by omega)
  rw [i1,i2]
  cases (l.getD n i0).1==9 <;> cases decide ((n:Int)<(i:Int)) <;> cases decide ((i:Int)<ps.getD n 0) <;> rfl
theorem agu {k:Nat} (hk:1000 <= k) {l:List I4} {ps:List Int} {i:Nat} (hl:l.length <= 900) (hp:ps.length=l.length):afc k l ps (i:Int)=some ((AY l ps i l.length 0 0,()),()):=by
 unfold afc
 exact IX hl hp l.length 0 k 0 (by omega) (by omega) (by omega) (by omega)
def aek (p q:dw):Bool:=(!apA p q&&!((decide (p.1 <= q.1)&&decide (q.2.1 <= p.2.1))||(decide (q.1 <= p.1)&&decide (p.2.1 <= q.2.1))))||(ou p q.2.2.1&&decide (q.2.1>p.2.1))
def MW (i:Int):List dw -> Int×Int -> Int×Int
 | [],s=>s
 | p::r,s=>MW i r (bif ou p i then (bif p.2.2.2 then (s.1+1,s.2+1) else (s.1,s.2+1)) else s)
def DW (l:List I4) (ps:List Int) (i:Nat):Bool :=
 decide ((MW i (jw 0 l) (0,0)).1>2)||((l.getD i i0).1==11&&(decide ((MW i (jw 0 l) (0,0)).2>0)||decide (AY l ps i l.length 0 0>0)))
def GQ (l:List I4) (a:List dw) (i:Nat):Bool:=decide ((a.getD i a0).2.1≥(l.length:Int) - 1)||vg (fun k=>!(i==k)&&aek (a.getD i a0) (a.getD k a0)) a.length 0
def ael (l:List I4):Bool :=
 decide (1 <= l.length)&&(decide (l.length <= 24)&&(!vg (fun i=>!(ji (l.getD i i0)&&((l.getD i i0).1==0)==((i:Int)==(l.length:Int) - 1))) l.length 0 &&
  (!vg (GQ l (jw 0 l)) (jw 0 l).length 0&&(match MV l with | none=>false | some ps=>!vg (DW l ps) l.length 0))))
theorem WU {k:Nat} {g10:List I4 -> List dw -> Int -> Option ((Bool×Unit)×Unit)} {l:List I4} {a:List dw} {i:Nat} (hi:i<a.length) (ha:a.length <= 900) (j:Nat) (hj:a.length<j) :
  BX k g10 j l a (i:Int) 0=bif vg (fun k=>!(i==k)&&aek (a.getD i a0) (a.getD k a0)) a.length 0 then some ((false,()),()) else g10 l a ((i+1:Nat):Int):=by
 refine aaY (L:=fun j k'=>BX k g10 j l a (i:Int) k') (n:=a.length) _ _ _ (fun j n hn=>?_) (fun j=>?_) a.length 0 j (by omega) hj
 ·show BX k g10 (j+1) l a (i:Int) (n:Int)=_
  rw [NI,K4,Rj (by omega),Me (by omega)]
  by_cases e:i=n
  ·subst e;simp
  ·have e1:((i:Int)==(n:Int))=false:=by simp;omega
   have e2:(i==n)=false:=by simpa using e
   rw [e1,e2,cond_false,Pw hi,Pw hn,Pw hn,Pw hi,show a.getD i a0=rd a (i:Int) (0,0,0,false) from rfl,show a.getD n a0=rd a (n:Int) (0,0,0,false) from rfl]
   unfold K3 BU aek apA
   simp only [Pw hi,Pw hn,KA,Option.bind_some,Me (show n<9223372036854775807 by omega)]
   generalize rd a (i:Int) (0,0,0,false)=p
   generalize rd a (n:Int) (0,0,0,false)=q
   generalize decide (p.2.1<q.1)=b1
   generalize decide (q.2.1<p.1)=b2
   generalize decide (p.1 <= q.1)=b3
   generalize decide (q.2.1 <= p.2.1)=b4
   generalize decide (q.1 <= p.1)=b5
   generalize decide (p.2.1 <= q.2.1)=b6
   generalize decide (q.2.1>p.2.1)=b7
   generalize ou p q.2.2.1=b8
   cases b1 <;> cases b2 <;> cases b3 <;> cases b4 <;> cases b5 <;> cases b6 <;> cases b7 <;> cases b8 <;> rfl
 ·show BX k g10 (j+1) l a (i:Int) (a.length:Int)=_
  rw [NI,K4,Rk (by omega),Me (by omega)]
theorem M0 {k:Nat} (hk:1000 <= k) {Q8:List I4 -> List dw -> List Int -> Int -> Option ((Bool×Unit)×Unit)} {l:List I4} {a:List dw} {ps:List Int} {i:Nat} (hi:i<l.length) (ha:a.length <= 900) (hl:l.length <= 900) (hp:ps.length=l.length):∀ (m n j:Nat) (s:Int×Int),n+m=a.length -> m<j -> 0 <= s.1 -> s.1 <= n -> 0 <= s.2 -> s.2 <= n ->
  K6 k Q8 j l a ps (i:Int) s.1 s.2 n=bif decide ((MW i (a.drop n) s).1>2)||((l.getD i i0).1==11&&(decide ((MW i (a.drop n) s).2>0)||decide (AY l ps i l.length 0 0>0))) then some ((false,()),()) else Q8 l a ps ((i+1:Nat):Int)
 | 0,n,j,s,h,hj,h0,h1,h2,h3=>by
  obtain ⟨j',rfl⟩:∃ j',j=j'+1:=⟨j - 1,by omega⟩
  rw [NJ,K5,Rk (by omega),drop_nil (by omega),Pw hi,Px,agu hk hl hp,Me (by omega)]
  rw [Option.bind_some,show MW i [] s=s from rfl]
  cases decide (s.1>2) <;> cases (l.getD i i0).1==11 <;> cases decide (s.2>0) <;> cases decide (AY l ps i l.length 0 0>0) <;> rfl
 | m+1,n,j,s,h,hj,h0,h1,h2,h3=>by
  obtain ⟨j',rfl⟩:∃ j',j=j'+1:=⟨j - 1,by omega⟩
  rw [NJ,K5,Rj (by omega),Pw (by omega),Px,KA,Option.bind_some,drop_cons a0 (by omega),MW,Me (by omega),Ua (by omega) (by omega),Ua (by omega) (by omega)]
  have ih:=M0 hk (Q8:=Q8) hi ha hl hp m (n+1) j'
  cases ou (a.getD n a0) (i:Int) with
  | false=>exact ih s (by omega) (by omega) (by omega) (by omega) (by omega) (by omega)
  | true =>
   simp only [cond_true]
   rw [Pw (by omega)]
   cases (a.getD n a0).2.2.2 with
   | false=>exact ih (s.1,s.2+1) (by omega) (by omega) (by simp only;omega) (by simp only;omega) (by simp only;omega) (by simp only;omega)
   | true=>exact ih (s.1+1,s.2+1) (by omega) (by omega) (by simp only;omega) (by simp only;omega) (by simp only;omega) (by simp only;omega)
theorem WV {k:Nat} (hk:1000 <= k) {l:List I4} {ps:List Int} (hl:l.length <= 900) (hp:ps.length=l.length) :
  BZ k k l (jw 0 l) ps 0=bif vg (DW l ps) l.length 0 then some ((false,()),()) else some ((true,()),()):=by
 have hpl:=AU l 0
 refine aaY (L:=fun j i=>BZ k j l (jw 0 l) ps i) (n:=l.length) _ _ _ (fun j i hi=>?_) (fun j=>?_) l.length 0 k (by omega) (by omega)
 ·show BZ k (j+1) l (jw 0 l) ps (i:Int)=_
  rw [NK,K7,Rj (by omega)]
  refine (M0 hk hi (by omega) hl hp (jw 0 l).length 0 k (0,0) (by omega) (by omega) (by simp) (by simp) (by simp) (by simp)).trans ?_
  rw [List.drop_zero];rfl
 ·show BZ k (j+1) l (jw 0 l) ps (l.length:Int)=_
  rw [NK,K7,Rk (by omega)]
theorem WW {k:Nat} (hk:1000 <= k) {l:List I4} (hl:l.length <= 900) :
  C8 k k l (jw 0 l) 0=some ((!vg (GQ l (jw 0 l)) (jw 0 l).length 0&&(match MV l with | none=>false | some ps=>!vg (DW l ps) l.length 0),()),()):=by
 have hpl:=AU l 0
 have:=aaY (L:=fun j i=>C8 k j l (jw 0 l) i) (n:=(jw 0 l).length) (GQ l (jw 0 l)) (some ((false,()),())) (some ((match MV l with | none=>false | some ps=>!vg (DW l ps) l.length 0,()),())) (fun j i hi=>by
  show C8 k (j+1) l (jw 0 l) (i:Int)=_
  rw [NM,K8,Rj (by omega),Pw hi,Px,Ua (by omega) (by omega)]
  unfold GQ
  cases decide (((jw 0 l).getD i a0).2.1≥(l.length:Int) - 1) with
  | true=>rfl
  | false =>
   rw [cond_false,Bool.false_or]
   exact WU hi (by omega) k (by omega)) (fun j=>by
  show C8 k (j+1) l (jw 0 l) ((jw 0 l).length:Int)=_
  rw [NM,K8,Rk (by omega),aaf hk hl]
  cases h6:MV l with
  | none=>rfl
  | some ps =>
   simp only [aad,Option.bind_some,Bool.not_true,cond_false]
   rw [WV hk hl (AX h6)]
   cases vg (DW l ps) l.length 0 <;> rfl) (jw 0 l).length 0 k (by omega) (by omega)
 refine Eq.trans this ?_
 cases vg (GQ l (jw 0 l)) (jw 0 l).length 0 <;> rfl
theorem agv {k:Nat} (hk:1000 <= k) {l:List I4} (hl:l.length <= 900):afd k l=some ((ael l,()),()):=by
 unfold afd ael
 by_cases h1:1 <= l.length
 ·rw [Rk (by omega),decide_eq_true h1]
  by_cases h2:l.length <= 24
  ·rw [Rk (by omega),decide_eq_true h2]
   have:=aaY (L:=fun j i=>I8 k j l i) (n:=l.length) (fun i=>!(ji (l.getD i i0)&&((l.getD i i0).1==0)==((i:Int)==(l.length:Int) - 1))) (some ((false,()),())) (some ((!vg (GQ l (jw 0 l)) (jw 0 l).length 0&&(match MV l with | none=>false | some ps=>!vg (DW l ps) l.length 0),()),())) (fun j i hi=>by
    show I8 k (j+1) l (i:Int)=_
    rw [U5,Q9,Rj (by omega),Pw hi,Px,agt,Option.bind_some,Pw hi,Ua (by omega) (by omega),Me (by omega)]
    cases ji (l.getD i i0) <;> cases ((l.getD i i0).1==0)==((i:Int)==(l.length:Int) - 1) <;> rfl) (fun j=>by
    show I8 k (j+1) l (l.length:Int)=_
    rw [U5,Q9,Rk (by omega),RN hk hl,Option.bind_some]
    exact WW hk hl) l.length 0 k (by omega) (by omega)
   refine Eq.trans this ?_
   cases vg (fun i=>!(ji (l.getD i i0)&&((l.getD i i0).1==0)==((i:Int)==(l.length:Int) - 1))) l.length 0 <;> rfl
  ·rw [Rj (by omega),decide_eq_false h2];rfl
 ·rw [Rj (by omega),decide_eq_false h1];rfl
def wd (x:I4):Nat:=(bif x.1==8 then x.2.2.1 else bif x.1==7 then x.2.2.2 else 0).toNat
def isA (x:I4):Bool:=x.1==8||x.1==7
theorem aag (v a b:Int):xg v a b=true↔a <= v /\ v <= b:=by simp [xg]
theorem aa1 {x:I4} (h:ji x=true) (e:x.1=8):x.2.1=0 /\ (1 <= x.2.2.1 /\ x.2.2.1 <= 24) /\ 1 <= x.2.2.2 /\ x.2.2.2 <= 20:=by
 simpa [ji,e,aag] using h
theorem aol {x:I4} (h:ji x=true) (e:x.1=7):(0 <= x.2.1 /\ x.2.1<8) /\ x.2.2.1=0 /\ 1 <= x.2.2.2 /\ x.2.2.2 <= 24:=by
 simpa [ji,e,aag,zy] using h
theorem qw {x:I4} (h:isA x=false):wd x=0:=by
 simp only [isA,Bool.or_eq_false_iff] at h
 simp [wd,h.1,h.2]
theorem zi {x:I4} (h:ji x=true) (ha:isA x=true):1 <= wd x /\ wd x <= 24 /\ (x.1=8 -> x.2.2.1=(wd x:Int)) /\ (x.1=7 -> x.2.2.2=(wd x:Int)):=by
 simp only [isA,Bool.or_eq_true,beq_iff_eq] at ha
 rcases ha with e | e
 ·have:=aa1 h e
  have w:wd x=x.2.2.1.toNat:=by simp [wd,e]
  rw [w];refine ⟨by omega,by omega,fun _=>by omega,fun e2=>by omega⟩
 ·have:=aol h e
  have w:wd x=x.2.2.2.toNat:=by simp [wd,e]
  rw [w];refine ⟨by omega,by omega,fun e2=>by omega,fun _=>by omega⟩
def p8 (i:Nat) (x:I4):dw:=(((i+1:Nat):Int),((i+wd x:Nat):Int),(i:Int),x.1==8)
theorem RP {x:I4} (h:ji x=true) {i:Nat} (hi:i <= 9000):pc i x=if isA x=true then [p8 i x] else []:=by
 unfold pc
 cases h8:x.1==8 with
 | true =>
  have e:=eq_of_beq h8
  have ha:isA x=true:=by simp [isA,e]
  have:=zi h ha
  rw [if_pos ha,cond_true,this.2.2.1 e,Ua (by omega) (by omega),p8,h8]
  congr 3
 | false =>
  cases h7:x.1==7 with
  | true =>
   have e:=eq_of_beq h7
   have ha:isA x=true:=by simp [isA,e]
   have:=zi h ha
   rw [if_pos ha,cond_true,cond_false,this.2.2.2 e,Ua (by omega) (by omega),p8,h8]
   congr 3
  | false =>
   rw [if_neg (by simp [isA,h8,h7])];rfl
theorem ni:∀ (l:List I4) (i:Nat) (p:dw),(∀ x∈l,ji x=true) -> i+l.length <= 9000 -> (p∈jw i l↔∃ n,n<l.length /\ isA (l.getD n i0)=true /\ p=p8 (i+n) (l.getD n i0))
 | [],i,p,_,_=>by simp [jw]
 | x::r,i,p,hm,hl=>by
  simp only [List.length_cons] at hl
  rw [jw,List.mem_append,RP (hm x List.mem_cons_self) (by omega),ni r (i+1) p (fun y hy=>hm y (List.mem_cons_of_mem _ hy)) (by omega)]
  constructor
  ·rintro (h | ⟨n,h1,h2,h3⟩)
   ·split at h
    ·rename_i ha
     have:=List.mem_singleton.1 h
     exact ⟨0,by simp,by simpa using ha,by simpa using this⟩
    ·cases h
   ·exact ⟨n+1,by simp only [List.length_cons];omega,by simpa using h2,by rw [List.getD_cons_succ,h3];congr 1;omega⟩
  ·rintro ⟨n,h1,h2,h3⟩
   cases n with
   | zero =>
    rw [List.getD_cons_zero] at h2 h3
    left;rw [if_pos h2];exact List.mem_singleton.2 h3
   | succ n =>
    rw [List.getD_cons_succ] at h2 h3
    right;exact ⟨n,by simp only [List.length_cons] at h1;omega,h2,by rw [h3];congr 1;omega⟩
def dx (j:Int) (ps:List dw):Nat:=ps.countP (fun p=>p.2.2.2&&ou p j)
theorem RQ (j:Int):∀ (ps:List dw) (s:Int×Int),MW j ps s=(s.1+(dx j ps:Int),s.2+((ps.countP (fun p=>ou p j):Nat):Int))
 | [],s=>by simp [MW,dx]
 | p::r,s=>by
  rw [MW,RQ j r,dx,dx,List.countP_cons,List.countP_cons]
  cases h1:ou p j <;> cases h2:p.2.2.2 <;> simp [h1,h2] <;> (try constructor) <;> omega
theorem O7:∀ (m i:Nat) (ar:List Int) (j:Nat),i+m <= ar.length -> (bumps ar i m).getD j 0=if i <= j /\ j<i+m then IntKind.i64.wrap (ar.getD j 0+1) else ar.getD j 0
 | 0,i,ar,j,_=>by rw [bumps,if_neg (by omega)]
 | m+1,i,ar,j,h=>by
  rw [bumps,O7 m (i+1) _ j (by simp only [List.length_set];omega),oh]
  by_cases e:i=j
  ·subst e
   rw [if_neg (by omega),if_pos ⟨rfl,by omega⟩,if_pos (by omega)]
  ·rw [if_neg (fun h:i=j /\ j<ar.length=>e h.1)]
   by_cases e2:i+1 <= j /\ j<i+1+m
   ·rw [if_pos e2,if_pos (by omega)]
   ·rw [if_neg e2,if_neg (by omega)]
theorem M4 {len:Nat} {all:List dw} (hlen:len <= 900):∀ (ps:List dw) (ar:List Int),ar.length=len -> (∀ p∈ps,p.1=p.2.2.1+1 /\ 0 <= p.2.2.1 /\ p.1 <= p.2.1) -> (∀ j,j<len -> 0 <= ar.getD j 0 /\ ar.getD j 0+ps.length <= 900) ->
  (nest ((len:Int) - 1) all ps ar=true↔(∀ p∈ps,p.2.1<(len:Int) - 1 /\ all.any (FP p)=false) /\ ∀ j,j<len -> ar.getD j 0+(dx j ps:Int) <= 2)
 | [],ar,ha,_,_=>by
  rw [nest,Bool.not_eq_true',List.any_eq_false]
  constructor
  ·intro h
   refine ⟨fun p hp=>(by cases hp),fun j hj=>?_⟩
   have:=h _ (iq (z:=0) (l:=ar) (i:=j) (by omega))
   simp only [dx,List.countP_nil]
   have:=of_decide_eq_false (Bool.not_eq_true _ ▸ this)
   omega
  ·rintro ⟨_,h⟩ x hx
   obtain ⟨j,hj,rfl⟩:=BI 0 hx
   have:=h j (by omega)
   simp only [dx,List.countP_nil] at this
   rw [Bool.not_eq_true]
   exact decide_eq_false (by omega)
 | p::r,ar,ha,hp,hb=>by
  rw [nest]
  have hp1:=hp p List.mem_cons_self
  by_cases h1:p.2.1≥(len:Int) - 1
  ·rw [Rj h1]
   exact ⟨fun h=>(by cases h),fun h=>absurd (h.1 p List.mem_cons_self).1 (by omega)⟩
  ·rw [Rk h1]
   cases h2:all.any (FP p) with
   | true=>exact ⟨fun h=>(by cases h),fun h=>(by rw [(h.1 p List.mem_cons_self).2] at h2;cases h2)⟩
   | false =>
    rw [cond_false]
    have hget:∀ j,j<len -> (bif p.2.2.2 then bumps ar p.1.toNat (p.2.1+1 - p.1).toNat else ar).getD j 0=ar.getD j 0+(if (p.2.2.2&&ou p j)=true then 1 else 0):=by
     intro j hj
     cases h3:p.2.2.2 with
     | false=>simp
     | true =>
      rw [cond_true,O7 _ _ _ _ (by omega)]
      have:=hb j hj
      simp only [List.length_cons] at this
      by_cases h4:ou p j=true
      ·have h5:p.1 <= (j:Int) /\ (j:Int) <= p.2.1:=by simpa [ou] using h4
       rw [if_pos (by omega),if_pos (by simp [h4]),Ua (by omega) (by omega)]
      ·have h5:¬ (p.1 <= (j:Int) /\ (j:Int) <= p.2.1):=by simpa [ou] using h4
       rw [if_neg (by omega),if_neg (by simp [h4])];omega
    have wE:(bif p.2.2.2 then bumps ar p.1.toNat (p.2.1+1 - p.1).toNat else ar).length=len:=by
     cases p.2.2.2
     ·exact ha
     ·rw [cond_true,O5];exact ha
    rw [M4 hlen r _ wE (fun q hq=>hp q (List.mem_cons_of_mem _ hq)) (fun j hj=>by
     rw [hget j hj]
     have:=hb j hj
     simp only [List.length_cons] at this
     split <;> omega)]
    constructor
    ·rintro ⟨h3,h4⟩
     refine ⟨fun q hq=>?_,fun j hj=>?_⟩
     ·rcases List.mem_cons.1 hq with rfl | hq
      ·exact ⟨by omega,h2⟩
      ·exact h3 q hq
     ·have:=h4 j hj
      rw [hget j hj] at this
      rw [dx,List.countP_cons]
      rw [dx] at this
      cases h5:(p.2.2.2&&ou p j) <;> simp only [h5,if_true,Bool.false_eq_true,if_false] at this ⊢ <;> omega
    ·rintro ⟨h3,h4⟩
     refine ⟨fun q hq=>h3 q (List.mem_cons_of_mem _ hq),fun j hj=>?_⟩
     have:=h4 j hj
     rw [hget j hj]
     rw [dx,List.countP_cons] at this
     rw [dx]
     cases h5:(p.2.2.2&&ou p j) <;> simp only [h5,if_true,Bool.false_eq_true,if_false] at this ⊢ <;> omega
structure w9 (l:List I4) (ps:List Int):Prop where
 len1:1 <= l.length
 len2:l.length <= 24
 may:∀ x∈l,ji x=true
 end_ : ∀ i, i < l.length -> ((l.getD i i0).1 = 0 ↔ i + 1 = l.length)
 last:∀ p∈jw 0 l,p.2.1<(l.length:Int) - 1
 bad:∀ p∈jw 0 l,∀ q∈jw 0 l,FP p q=false
 bodies:∀ j,j<l.length -> dx (j:Int) (jw 0 l) <= 2
 pairs:MV l=some ps
 marks:∀ i,i<l.length -> (l.getD i i0).1=11 -> (jw 0 l).any (fun p=>ou p i)=false /\ ∀ k,k<i -> ps.getD k 0 <= (i:Int)
theorem xk {l:List I4} (hm:∀ x∈l,ji x=true) (hl:l.length <= 900) {p:dw} (hp:p∈jw 0 l):p.1=p.2.2.1+1 /\ 0 <= p.2.2.1 /\ p.1 <= p.2.1 /\ p.2.2.1<(l.length:Int):=by
 obtain ⟨n,h1,h2,rfl⟩:=(ni l 0 p hm (by omega)).1 hp
 have:=zi (hm _ (iq h1)) h2
 simp only [p8]
 omega
theorem aah {l:List I4}:l.any (fun i=>!ji i)=false↔∀ x∈l,ji x=true:=by
 rw [List.any_eq_false]
 exact ⟨fun h x hx=>by simpa using h x hx,fun h x hx=>by simp [h x hx]⟩
theorem aai {l:List I4} (h1:1 <= l.length):(RL (fun i=>i.1==0) l==(l.length:Int) - 1)=true↔∀ i,i<l.length -> ((l.getD i i0).1=0↔i+1=l.length):=by
 rw [beq_iff_eq]
 unfold RL
 cases h:l.findIdx? (fun i=>i.1==0) with
 | none =>
  rw [List.findIdx?_eq_none_iff] at h
  constructor
  ·intro e;simp only at e;omega
  ·intro e
   have e1:=(e (l.length - 1) (by omega)).2 (by omega)
   have:=h _ (iq (z:=i0) (l:=l) (i:=l.length - 1) (by omega))
   rw [e1] at this
   exact absurd this (by decide)
 | some n =>
  rw [List.findIdx?_eq_some_iff_getElem] at h
  obtain ⟨hn,hn1,hn2⟩:=h
  simp only
  constructor
  ·intro e i hi
   have:n+1=l.length:=by omega
   constructor
   ·intro e2
    by_cases hlt:i<n
    ·have:=hn2 i hlt
     rw [getD_in hi] at e2
     simp [e2] at this
    ·omega
   ·intro e2
    have:i=n:=by omega
    subst this
    rw [getD_in hi];simpa using hn1
  ·intro e
   have:=(e n hn).1 (by rw [getD_in hn];simpa using hn1)
   omega
theorem M5 {l:List I4} {ps:List Int} (hp:ps.length=l.length):vg (aae l ps) l.length 0=false↔∀ i,i<l.length -> (l.getD i i0).1=11 -> (jw 0 l).any (fun p=>ou p i)=false /\ ∀ k,k<i -> ps.getD k 0 <= (i:Int):=by
 rw [nk]
 constructor
 ·intro h i hi e
  have:=h i (by omega) (by omega)
  unfold aae at this
  simp only [e,beq_self_eq_true,Bool.true_and,Bool.or_eq_false_iff] at this
  refine ⟨this.1,fun k hk=>?_⟩
  have h2:=this.2
  rw [List.any_eq_false] at h2
  have h3:ps.getD k 0∈ps.take i:=by
   rw [getD_in (by omega),List.mem_take_iff_getElem]
   exact ⟨k,by omega,rfl⟩
  have:=h2 _ h3
  simp only [decide_eq_true_eq] at this
  omega
 ·intro h i _ hi
  unfold aae
  cases h11:(l.getD i i0).1==11 with
  | false=>rfl
  | true =>
   obtain ⟨h1,h2⟩:=h i (by omega) (eq_of_beq h11)
   rw [h1,Bool.true_and,Bool.false_or,List.any_eq_false]
   intro x hx
   rw [List.mem_take_iff_getElem] at hx
   obtain ⟨k,hk,rfl⟩:=hx
   have:=h2 k (by omega)
   rw [getD_in (by omega)] at this
   simp only [decide_eq_true_eq]
   omega
theorem y7 {l:List I4}:qo l=true↔∃ ps,w9 l ps:=by
 unfold qo
 simp only [Bool.and_eq_true,decide_eq_true_eq,Bool.not_eq_true']
 constructor
 ·rintro ⟨h1,h2,h3,h4,h5,h6⟩
  have h3:=aah.1 h3
  have hpl:=AU l 0
  cases hps:MV l with
  | none=>rw [hps] at h6;cases h6
  | some ps =>
   rw [hps] at h6
   simp only [Bool.not_eq_true'] at h6
   have h5:=(M4 (all:=jw 0 l) (by omega) (jw 0 l) (List.replicate l.length 0) (by simp) (fun p hp=>by have:=xk h3 (by omega) hp;omega) (fun j hj=>by
    rw [List.getD_eq_getElem?_getD,List.getElem?_replicate,if_pos hj];simp;omega)).1 h5
   exact ⟨ps,⟨h1,h2,h3,(aai h1).1 h4,fun p hp=>(h5.1 p hp).1,fun p hp q hq=>by
    have:=(h5.1 p hp).2
    rw [List.any_eq_false] at this
    simpa using this q hq,fun j hj=>by
    have:=h5.2 j hj
    rw [List.getD_eq_getElem?_getD,List.getElem?_replicate,if_pos hj] at this
    simp at this;omega,hps,(M5 (AX hps)).1 h6⟩⟩
 ·rintro ⟨ps,g⟩
  have hpl:=AU l 0
  have:=g.len2
  refine ⟨g.len1,g.len2,aah.2 g.may,(aai g.len1).2 g.end_,?_,?_⟩
  ·refine (M4 (all:=jw 0 l) (by omega) (jw 0 l) (List.replicate l.length 0) (by simp) (fun p hp=>by have:=xk g.may (by omega) hp;omega) (fun j hj=>by
    rw [List.getD_eq_getElem?_getD,List.getElem?_replicate,if_pos hj];simp;omega)).2 ⟨fun p hp=>⟨g.last p hp,?_⟩,fun j hj=>?_⟩
   ·rw [List.any_eq_false];intro q hq;simp [g.bad p hp q hq]
   ·rw [List.getD_eq_getElem?_getD,List.getElem?_replicate,if_pos hj]
    have:=g.bodies j hj
    simp;omega
  ·rw [g.pairs]
   simp only [Bool.not_eq_true']
   exact (M5 (AX g.pairs)).2 g.marks
theorem Vk {p:dw} (h:p.1=p.2.2.1+1 /\ p.1 <= p.2.1):FP p p=false:=by
 unfold FP inA apA ou
 have e1:decide (p.1 <= p.2.2.1)=false:=decide_eq_false (by omega)
 have e2:decide (p.1 <= p.1)=true:=decide_eq_true (by omega)
 have e3:decide (p.1 <= p.2.1)=true:=decide_eq_true (by omega)
 have e4:decide (p.2.1 <= p.2.1)=true:=decide_eq_true (by omega)
 rw [e1,e2,e3,e4];simp
theorem Vl {p q:dw} (hp:p.1=p.2.2.1+1 /\ p.1 <= p.2.1) (hq:q.1=q.2.2.1+1 /\ q.1 <= q.2.1):aek p q=FP q p:=by
 unfold aek FP inA apA ou
 rw [Bool.eq_iff_iff]
 simp only [Bool.or_eq_true,Bool.and_eq_true,Bool.not_eq_true',decide_eq_true_eq,Bool.or_eq_false_iff,Bool.and_eq_false_iff,decide_eq_false_iff_not]
 omega
theorem EG {l:List I4}:∀ (m i:Nat) (s s':List Int×List Int),sj l m i s=some s' -> (∀ k∈s.2,∃ n:Nat,k=(n:Int) /\ (l.getD n i0).1=9) -> ∀ k,(l.getD k i0).1≠9 -> s'.1.getD k 0=s.1.getD k 0
 | 0,i,s,s',h,_,k,_=>by injection h with h;subst h;rfl
 | m+1,i,s,s',h,ho,k,hk=>by
  rw [sj,Option.bind_eq_some_iff] at h
  obtain ⟨t,h1,h2⟩:=h
  unfold jm at h1
  split at h1
  ·rename_i h9
   split at h1
   ·cases h1
   ·injection h1 with h1;subst h1
    exact EG m (i+1) _ s' h2 (fun x hx=>by
     rcases List.mem_append.1 hx with hx | hx
     ·exact ho x hx
     ·exact ⟨i,List.mem_singleton.1 hx,h9⟩) k hk
  ·split at h1
   ·split at h1
    ·cases h1
    ·rename_i x hx
     split at h1
     ·cases h1
     ·injection h1 with h1;subst h1
      rw [EG m (i+1) _ s' h2 (fun y hy=>ho y ((List.dropLast_sublist _).subset hy)) k hk]
      obtain ⟨n,rfl,hn⟩:=ho x (List.mem_of_getLast? hx)
      show (upd s.1 (n:Int) (i:Int)).getD k 0=_
      rw [Mf,oh,if_neg]
      rintro ⟨rfl,_⟩
      exact hk hn
   ·injection h1 with h1;subst h1
    exact EG m (i+1) _ s' h2 ho k hk
theorem aa2 {l:List I4} {ps:List Int} (h:MV l=some ps) {k:Nat} (hk:k<l.length) (h9:(l.getD k i0).1≠9):ps.getD k 0=0:=by
 have:=EG _ _ _ _ (RO h) (fun k hk=>by cases hk) k h9
 rw [this,List.getD_eq_getElem?_getD,List.getElem?_replicate,if_pos hk];rfl
theorem aem {l:List I4}:ael l=true↔∃ ps,w9 l ps:=by
 unfold ael
 simp only [Bool.and_eq_true,decide_eq_true_eq,Bool.not_eq_true']
 constructor
 ·rintro ⟨h1,h2,h3,h4,h5⟩
  rw [nk] at h3 h4
  have h3':∀ i,i<l.length -> ji (l.getD i i0)=true /\ ((l.getD i i0).1=0↔i+1=l.length):=fun i hi=>by
   have:=h3 i (by omega) (by omega)
   rw [Bool.not_eq_false',Bool.and_eq_true] at this
   have h6:=eq_of_beq this.2
   rw [Bool.eq_iff_iff,beq_iff_eq,beq_iff_eq] at h6
   exact ⟨this.1,h6.trans ⟨fun h=>by omega,fun h=>by omega⟩⟩
  have hm:∀ x∈l,ji x=true:=fun x hx=>by obtain ⟨i,hi,rfl⟩:=BI i0 hx;exact (h3' i hi).1
  cases hps:MV l with
  | none=>rw [hps] at h5;cases h5
  | some ps =>
   rw [hps] at h5
   simp only [Bool.not_eq_true',nk] at h5
   have hpl:=AX hps
   have h5':∀ i,i<l.length -> dx (i:Int) (jw 0 l) <= 2 /\ ((l.getD i i0).1=11 -> (jw 0 l).countP (fun p=>ou p i)=0 /\ decide (AY l ps i l.length 0 0>0)=false):=fun i hi=>by
    have:=h5 i (by omega) (by omega)
    unfold DW at this
    rw [RQ] at this
    simp only [Bool.or_eq_false_iff,decide_eq_false_iff_not,Bool.and_eq_false_iff,beq_eq_false_iff_ne] at this
    refine ⟨by omega,fun e=>?_⟩
    rcases this.2 with h | ⟨h6,h7⟩
    ·exact absurd e h
    ·exact ⟨by omega,decide_eq_false h7⟩
   refine ⟨ps,⟨h1,h2,hm,fun i hi=>(h3' i hi).2,fun p hp=>?_,fun p hp q hq=>?_,fun j hj=>(h5' j hj).1,hps,fun i hi e=>⟨?_,fun k hk=>?_⟩⟩⟩
   ·obtain ⟨i,hi,rfl⟩:=BI a0 hp
    have:=h4 i (by omega) (by omega)
    simp only [GQ,Bool.or_eq_false_iff,decide_eq_false_iff_not] at this
    omega
   ·obtain ⟨i,hi,rfl⟩:=BI a0 hp
    obtain ⟨k,hk,rfl⟩:=BI a0 hq
    have s1:=xk hm (by omega) hp
    have s2:=xk hm (by omega) hq
    by_cases e:k=i
    ·subst e;exact Vk ⟨s1.1,s1.2.2.1⟩
    ·have:=h4 k (by omega) (by omega)
     simp only [GQ,Bool.or_eq_false_iff,nk] at this
     have:=this.2 i (by omega) (by omega)
     rw [show (k==i)=false by simpa using e,Bool.not_false,Bool.true_and,Vl ⟨s2.1,s2.2.2.1⟩ ⟨s1.1,s1.2.2.1⟩] at this
     exact this
   ·have:=((h5' i hi).2 e).1
    rw [List.countP_eq_zero] at this
    rw [List.any_eq_false];exact this
   ·have:=((h5' i hi).2 e).2
    rw [IW,nk] at this
    have h6:=this k (by omega) (by omega)
    have hlt:decide ((k:Int)<(i:Int))=true:=decide_eq_true (by omega)
    rw [hlt,Bool.true_and] at h6
    simp only [Bool.and_eq_false_iff,decide_eq_false_iff_not] at h6
    rcases h6 with h6 | h6
    ·-- what is no lock has no pair
     have h7:(l.getD k i0).1≠9:=fun e=>by rw [e] at h6;exact absurd h6 (by decide)
     rw [aa2 hps (by omega) h7];omega
    ·omega
 ·rintro ⟨ps,g⟩
  have h2:=g.len2
  have hpl:=AX g.pairs
  refine ⟨g.len1,g.len2,?_,?_,?_⟩
  ·rw [nk]
   intro i _ hi
   have e:=g.end_ i (by omega)
   rw [g.may _ (iq (by omega)),Bool.true_and,Bool.not_eq_false',beq_iff_eq,Bool.eq_iff_iff,beq_iff_eq,beq_iff_eq,e]
   omega
  ·rw [nk]
   intro i _ hi
   have hp:=iq (z:=a0) (l:=jw 0 l) (i:=i) (by omega)
   have s1:=xk g.may (by omega) hp
   unfold GQ
   rw [decide_eq_false (by have:=g.last _ hp;omega),Bool.false_or,nk]
   intro k _ hk
   have hq:=iq (z:=a0) (l:=jw 0 l) (i:=k) (by omega)
   have s2:=xk g.may (by omega) hq
   rw [Vl ⟨s1.1,s1.2.2.1⟩ ⟨s2.1,s2.2.2.1⟩,g.bad _ hq _ hp,Bool.and_false]
  ·rw [g.pairs]
   simp only [Bool.not_eq_true',nk]
   intro i _ hi
   unfold DW
   rw [RQ]
   have h3:=g.bodies i (by omega)
   rw [decide_eq_false (by simp only;omega),Bool.false_or]
   cases h11:(l.getD i i0).1==11 with
   | false=>rfl
   | true =>
    obtain ⟨h4,h5⟩:=g.marks i (by omega) (eq_of_beq h11)
    have h6:(jw 0 l).countP (fun p=>ou p i)=0:=by
     rw [List.countP_eq_zero];rw [List.any_eq_false] at h4;exact h4
    rw [h6,IW,Bool.true_and]
    rw [show decide ((0:Int)+((0:Nat):Int)>0)=false from rfl,Bool.false_or,nk]
    intro k _ hk
    by_cases hki:k<i
    ·have:=h5 k hki
     have:decide ((i:Int)<ps.getD k 0)=false:=decide_eq_false (by omega)
     rw [this,Bool.and_false,Bool.and_false]
    ·have:decide ((k:Int)<(i:Int))=false:=decide_eq_false (by omega)
     rw [this,Bool.false_and,Bool.and_false]
theorem agw (l:List I4):ael l=qo l:=by rw [Bool.eq_iff_iff,aem,y7]
inductive Tr where
 | nil
 | one (x:I4) (r:Tr)
 | lk (a:Int) (b r:Tr)
 | ar (x:I4) (b r:Tr)
namespace Tr
def flat:Tr -> List I4
 | nil=>[]
 | one x r=>x::flat r
 | lk a b r=>(9,a,0,0)::(flat b++((10,a,0,0)::flat r))
 | ar x b r=>x::(flat b++flat r)
def len:Tr -> Nat
 | nil=>0
 | one _ r=>len r+1
 | lk _ b r=>len b+len r+2
 | ar _ b r=>len b+len r+1
theorem iw:∀ t:Tr,t.flat.length=t.len
 | nil=>rfl
 | one x r=>by simp only [flat,len,List.length_cons,iw r]
 | lk a b r=>by simp only [flat,len,List.length_cons,List.length_append,iw b,iw r];omega
 | ar x b r=>by simp only [flat,len,List.length_cons,List.length_append,iw b,iw r]
def plain (x:I4):Prop:=x.1≠0 /\ x.1≠7 /\ x.1≠8 /\ x.1≠9 /\ x.1≠10
def Ok:Nat -> List Int -> Bool -> Tr -> Prop
 | _,_,_,nil=>True
 | d,hs,ia,one x r=>ji x=true /\ plain x /\ (x.1=11 -> ia=false /\ hs=[]) /\ Ok d hs ia r
 | d,hs,ia,lk a b r=>(0 <= a /\ a <= 3) /\ (a ∉ hs /\ hs.length<2) /\ Ok d (hs++[a]) ia b /\ Ok d hs ia r
 | d,hs,ia,ar x b r=>(ji x=true /\ isA x=true /\ wd x=b.len) /\ (x.1=8 -> d<2) /\ Ok (bif x.1==8 then d+1 else d) hs true b /\ Ok d hs ia r
def app:Tr -> Tr -> Tr
 | nil,u=>u
 | one x r,u=>one x (app r u)
 | lk a b r,u=>lk a b (app r u)
 | ar x b r,u=>ar x b (app r u)
theorem y8:∀ (t u:Tr),(app t u).flat=t.flat++u.flat
 | nil,u=>rfl
 | one x r,u=>by simp only [app,flat,y8 r u,List.cons_append]
 | lk a b r,u=>by simp only [app,flat,y8 r u,List.cons_append,List.append_assoc]
 | ar x b r,u=>by simp only [app,flat,y8 r u,List.cons_append,List.append_assoc]
theorem KC (t u:Tr):(app t u).len=t.len+u.len:=by rw [<- iw,y8,List.length_append,iw,iw]
theorem IY {d:Nat} {hs:List Int} {ia:Bool}:∀ {t u:Tr},Ok d hs ia t -> Ok d hs ia u -> Ok d hs ia (app t u)
 | nil,u,_,h=>h
 | one x r,u,⟨h1,h2,h3,h4⟩,h=>⟨h1,h2,h3,IY h4 h⟩
 | lk a b r,u,⟨h1,h2,h3,h4⟩,h=>⟨h1,h2,h3,IY h4 h⟩
 | ar x b r,u,⟨h1,h2,h3,h4⟩,h=>⟨h1,h2,h3,IY h4 h⟩
end Tr
open Tr
theorem KD {x:I4} (h:plain x):isA x=false:=by
 obtain ⟨_,h7,h8,_⟩:=h
 simp [isA,h7,h8]
theorem aen {a:Int} (h:0 <= a /\ a <= 3):ji (9,a,0,0)=true:=by simp [ji,xg,h]
theorem aeo {a:Int} (h:0 <= a /\ a <= 3):ji (10,a,0,0)=true:=by simp [ji,xg,h]
theorem FR:∀ {t:Tr} {d:Nat} {hs:List Int} {ia:Bool},Ok d hs ia t -> ∀ x∈t.flat,ji x=true
 | .nil,_,_,_,_,x,hx=>by cases hx
 | .one y r,_,_,_,⟨h1,_,_,h4⟩,x,hx=>by
  rcases List.mem_cons.1 hx with rfl | hx
  ·exact h1
  ·exact FR h4 x hx
 | .lk a b r,_,_,_,⟨h1,_,h3,h4⟩,x,hx=>by
  rcases List.mem_cons.1 hx with rfl | hx
  ·exact aen h1
  ·rcases List.mem_append.1 hx with hx | hx
   ·exact FR h3 x hx
   ·rcases List.mem_cons.1 hx with rfl | hx
    ·exact aeo h1
    ·exact FR h4 x hx
 | .ar y b r,_,_,_,⟨h1,_,h3,h4⟩,x,hx=>by
  rcases List.mem_cons.1 hx with rfl | hx
  ·exact h1.1
  ·rcases List.mem_append.1 hx with hx | hx
   ·exact FR h3 x hx
   ·exact FR h4 x hx
theorem O8:∀ {t:Tr} {d:Nat} {hs:List Int} {ia:Bool},Ok d hs ia t -> ∀ x∈t.flat,x.1≠0
 | .nil,_,_,_,_,x,hx=>by cases hx
 | .one y r,_,_,_,⟨_,h2,_,h4⟩,x,hx=>by
  rcases List.mem_cons.1 hx with rfl | hx
  ·exact h2.1
  ·exact O8 h4 x hx
 | .lk a b r,_,_,_,⟨_,_,h3,h4⟩,x,hx=>by
  rcases List.mem_cons.1 hx with rfl | hx
  ·exact (by decide:(9:Int)≠0)
  ·rcases List.mem_append.1 hx with hx | hx
   ·exact O8 h3 x hx
   ·rcases List.mem_cons.1 hx with rfl | hx
    ·exact (by decide:(10:Int)≠0)
    ·exact O8 h4 x hx
 | .ar y b r,_,_,_,⟨h1,_,h3,h4⟩,x,hx=>by
  rcases List.mem_cons.1 hx with rfl | hx
  ·intro e;have:=h1.2.1;simp [isA,e] at this
  ·rcases List.mem_append.1 hx with hx | hx
   ·exact O8 h3 x hx
   ·exact O8 h4 x hx
theorem GR:∀ (u w:List I4) (o:Nat),jw o (u++w)=jw o u++jw (o+u.length) w
 | [],w,o=>by simp [jw]
 | x::u,w,o=>by
  simp only [List.cons_append,jw,List.append_assoc,List.length_cons]
  rw [GR u w (o+1),show o+1+u.length=o+(u.length+1) by omega]
theorem EH {x:I4} (h1:ji x=true) (h2:isA x=false) {o:Nat} (r:List I4) (ho:o <= 9000):jw o (x::r)=jw (o+1) r:=by
 rw [jw,RP h1 ho,if_neg (by simp [h2])];rfl
theorem aep {x:I4} (h1:ji x=true) (h2:isA x=true) {o:Nat} (r:List I4) (ho:o <= 9000):jw o (x::r)=p8 o x::jw (o+1) r:=by
 rw [jw,RP h1 ho,if_pos h2];rfl
theorem KE {x:I4} {r:Tr} (h1:ji x=true) (h2:plain x) {o:Nat} (ho:o <= 9000):jw o (Tr.one x r).flat=jw (o+1) r.flat:=EH h1 (KD h2) _ ho
theorem RU {a:Int} {b r:Tr} (h1:0 <= a /\ a <= 3) {o:Nat} (ho:o+b.len+1 <= 9000):jw o (Tr.lk a b r).flat=jw (o+1) b.flat++jw (o+b.len+2) r.flat:=by
 rw [Tr.flat,EH (aen h1) rfl _ (by omega),GR,iw,EH (aeo h1) rfl _ (by omega),show o+1+b.len+1=o+b.len+2 by omega]
theorem RV {x:I4} {b r:Tr} (h1:ji x=true) (h2:isA x=true) {o:Nat} (ho:o <= 9000):jw o (Tr.ar x b r).flat=p8 o x::(jw (o+1) b.flat++jw (o+b.len+1) r.flat):=by
 rw [Tr.flat,aep h1 h2 _ ho,GR,iw,show o+1+b.len=o+b.len+1 by omega]
theorem o8:∀ {t:Tr} {d:Nat} {hs:List Int} {ia:Bool} {o:Nat},Ok d hs ia t -> o+t.len <= 9000 -> ∀ p∈jw o t.flat,(o:Int)<p.1 /\ p.1=p.2.2.1+1 /\ p.1 <= p.2.1 /\ p.2.1<((o+t.len:Nat):Int)
 | .nil,_,_,_,_,_,_,p,hp=>by simp [Tr.flat,jw] at hp
 | .one x r,_,_,_,o,⟨h1,h2,_,h4⟩,ho,p,hp=>by
  simp only [Tr.len] at ho ⊢
  rw [KE h1 h2 (by omega)] at hp
  have:=o8 h4 (by omega) p hp
  omega
 | .lk a b r,_,_,_,o,⟨h1,_,h3,h4⟩,ho,p,hp=>by
  simp only [Tr.len] at ho ⊢
  rw [RU h1 (by omega)] at hp
  rcases List.mem_append.1 hp with hp | hp
  ·have:=o8 h3 (by omega) p hp;omega
  ·have:=o8 h4 (by omega) p hp;omega
 | .ar x b r,_,_,_,o,⟨⟨h1,h2,h3⟩,_,h5,h6⟩,ho,p,hp=>by
  simp only [Tr.len] at ho ⊢
  rw [RV h1 h2 (by omega)] at hp
  rcases List.mem_cons.1 hp with rfl | hp
  ·have:=zi h1 h2
   simp only [p8];omega
  ·rcases List.mem_append.1 hp with hp | hp
   ·have:=o8 h5 (by omega) p hp;omega
   ·have:=o8 h6 (by omega) p hp;omega
theorem EI {p q:dw} (hp:p.1=p.2.2.1+1 /\ p.1 <= p.2.1) (hq:q.1=q.2.2.1+1 /\ q.1 <= q.2.1) (h:p.2.1<q.1 - 1 \/ q.2.1<p.1 - 1):FP p q=false:=by
 unfold FP inA apA ou
 rw [<- Bool.not_eq_true]
 simp only [Bool.or_eq_true,Bool.and_eq_true,Bool.not_eq_true',decide_eq_true_eq,Bool.or_eq_false_iff,Bool.and_eq_false_iff,decide_eq_false_iff_not]
 omega
theorem aer {p q:dw} (hp:p.1=p.2.2.1+1 /\ p.1 <= p.2.1) (hq:q.1=q.2.2.1+1 /\ q.1 <= q.2.1) (h:q.1 <= p.1 - 1 /\ p.2.1 <= q.2.1):FP p q=false /\ FP q p=false:=by
 unfold FP inA apA ou
 rw [<- Bool.not_eq_true,<- Bool.not_eq_true]
 simp only [Bool.or_eq_true,Bool.and_eq_true,Bool.not_eq_true',decide_eq_true_eq,Bool.or_eq_false_iff,Bool.and_eq_false_iff,decide_eq_false_iff_not]
 omega
theorem IZ:∀ {t:Tr} {d:Nat} {hs:List Int} {ia:Bool} {o:Nat},Ok d hs ia t -> o+t.len <= 9000 -> ∀ p∈jw o t.flat,∀ q∈jw o t.flat,FP p q=false
 | .nil,_,_,_,_,_,_,p,hp=>by simp [Tr.flat,jw] at hp
 | .one x r,_,_,_,o,⟨h1,h2,_,h4⟩,ho,p,hp=>by
  simp only [Tr.len] at ho
  rw [KE h1 h2 (by omega)] at hp ⊢
  exact IZ h4 (by omega) p hp
 | .lk a b r,_,_,_,o,⟨h1,_,h3,h4⟩,ho,p,hp=>by
  simp only [Tr.len] at ho
  rw [RU h1 (by omega)] at hp ⊢
  intro q hq
  rcases List.mem_append.1 hp with hp | hp <;> rcases List.mem_append.1 hq with hq | hq
  ·exact IZ h3 (by omega) p hp q hq
  ·have:=o8 h3 (by omega) p hp;have:=o8 h4 (by omega) q hq
   exact EI (by omega) (by omega) (by omega)
  ·have:=o8 h4 (by omega) p hp;have:=o8 h3 (by omega) q hq
   exact EI (by omega) (by omega) (by omega)
  ·exact IZ h4 (by omega) p hp q hq
 | .ar x b r,_,_,_,o,⟨⟨h1,h2,h3⟩,_,h5,h6⟩,ho,p,hp=>by
  simp only [Tr.len] at ho
  rw [RV h1 h2 (by omega)] at hp ⊢
  intro q hq
  have hw:=zi h1 h2
  have e1:(p8 o x).1=((o+1:Nat):Int):=rfl
  have e2:(p8 o x).2.1=((o+wd x:Nat):Int):=rfl
  have e3:(p8 o x).2.2.1=(o:Int):=rfl
  rcases List.mem_cons.1 hp with rfl | hp <;> rcases List.mem_cons.1 hq with rfl | hq
  ·exact Vk (by omega)
  ·rcases List.mem_append.1 hq with hq | hq
   ·have:=o8 h5 (by omega) q hq
    exact (aer (by omega) (by omega) (by omega)).2
   ·have:=o8 h6 (by omega) q hq
    exact EI (by omega) (by omega) (by omega)
  ·rcases List.mem_append.1 hp with hp | hp
   ·have:=o8 h5 (by omega) p hp
    exact (aer (by omega) (by omega) (by omega)).1
   ·have:=o8 h6 (by omega) p hp
    exact EI (by omega) (by omega) (by omega)
  ·rcases List.mem_append.1 hp with hp | hp <;> rcases List.mem_append.1 hq with hq | hq
   ·exact IZ h5 (by omega) p hp q hq
   ·have:=o8 h5 (by omega) p hp;have:=o8 h6 (by omega) q hq
    exact EI (by omega) (by omega) (by omega)
   ·have:=o8 h6 (by omega) p hp;have:=o8 h5 (by omega) q hq
    exact EI (by omega) (by omega) (by omega)
   ·exact IZ h6 (by omega) p hp q hq
theorem oz {p:dw} {j:Int}:ou p j=true↔p.1 <= j /\ j <= p.2.1:=by simp [ou]
theorem RX (j:Int) (a b:List dw):dx j (a++b)=dx j a+dx j b:=List.countP_append
theorem KF {j:Int} {a:List dw} (h:∀ p∈a,¬ (p.1 <= j /\ j <= p.2.1)):dx j a=0:=by
 rw [dx,List.countP_eq_zero]
 intro p hp
 rw [Bool.not_eq_true,Bool.and_eq_false_iff]
 right
 rw [<- Bool.not_eq_true,oz]
 exact h p hp
theorem xq:∀ {t:Tr} {d:Nat} {hs:List Int} {ia:Bool} {o:Nat},Ok d hs ia t -> o+t.len <= 9000 -> d <= 2 -> ∀ j:Int,dx j (jw o t.flat)+d <= 2
 | .nil,_,_,_,_,_,_,hd,j=>by simp [Tr.flat,jw,dx];exact hd
 | .one x r,_,_,_,o,⟨h1,h2,_,h4⟩,ho,hd,j=>by
  simp only [Tr.len] at ho
  rw [KE h1 h2 (by omega)]
  exact xq h4 (by omega) hd j
 | .lk a b r,_,_,_,o,⟨h1,_,h3,h4⟩,ho,hd,j=>by
  simp only [Tr.len] at ho
  rw [RU h1 (by omega),RX]
  have i1:=xq (o:=o+1) h3 (by omega) hd j
  have i2:=xq (o:=o+b.len+2) h4 (by omega) hd j
  by_cases hj:j<((o+1+b.len:Nat):Int)
  ·rw [KF (a:=jw (o+b.len+2) r.flat) (fun p hp=>by have:=o8 h4 (by omega) p hp;omega)];omega
  ·rw [KF (a:=jw (o+1) b.flat) (fun p hp=>by have:=o8 h3 (by omega) p hp;omega)];omega
 | .ar x b r,d,_,_,o,⟨⟨h1,h2,h3⟩,h4,h5,h6⟩,ho,hd,j=>by
  simp only [Tr.len] at ho
  have hw:=zi h1 h2
  rw [RV h1 h2 (by omega),show ∀ a:dw,∀ l,a::l=[a]++l from fun _ _=>rfl,RX,RX]
  have i2:=xq (o:=o+b.len+1) h6 (by omega) hd j
  have e:dx j [p8 o x]=if (x.1==8&&ou (p8 o x) j)=true then 1 else 0:=by
   rw [dx,List.countP_cons,List.countP_nil];simp [p8]
  by_cases hj:j<((o+1+b.len:Nat):Int)
  ·rw [KF (a:=jw (o+b.len+1) r.flat) (fun p hp=>by have:=o8 h6 (by omega) p hp;omega),e]
   cases h8:x.1==8 with
   | true =>
    have:=h4 (eq_of_beq h8)
    have i1:=xq (o:=o+1) h5 (by omega) (by rw [h8,cond_true];omega) j
    rw [h8,cond_true] at i1
    split <;> omega
   | false =>
    have i1:=xq (o:=o+1) h5 (by omega) (by rw [h8,cond_false];omega) j
    rw [h8,cond_false] at i1
    simp only [Bool.false_and,Bool.false_eq_true,if_false]
    omega
  ·rw [KF (a:=jw (o+1) b.flat) (fun p hp=>by have:=o8 h5 (by omega) p hp;omega),e,if_neg]
   ·omega
   ·rw [Bool.and_eq_true,oz]
    have e1:(p8 o x).2.1=((o+wd x:Nat):Int):=rfl
    omega
open Tr
def At (l:List I4) (o:Nat) (w:List I4):Prop:=o+w.length <= l.length /\ ∀ j,j<w.length -> l.getD (o+j) i0=w.getD j i0
theorem kr {l:List I4} {o:Nat} {x:I4} {w:List I4} (h:At l o (x::w)):o<l.length /\ l.getD o i0=x /\ At l (o+1) w:=by
 obtain ⟨h1,h2⟩:=h
 simp only [List.length_cons] at h1 h2
 refine ⟨by omega,by simpa using h2 0 (by omega),by omega,fun j hj=>?_⟩
 have:=h2 (j+1) (by omega)
 rw [List.getD_cons_succ] at this
 rw [<- this];congr 1;omega
theorem xu {l:List I4} {o:Nat} {u w:List I4} (h:At l o (u++w)):At l o u /\ At l (o+u.length) w:=by
 obtain ⟨h1,h2⟩:=h
 simp only [List.length_append] at h1 h2
 refine ⟨⟨by omega,fun j hj=>?_⟩,by omega,fun j hj=>?_⟩
 ·rw [h2 j (by omega),mh hj]
 ·rw [show o+u.length+j=o+(u.length+j) by omega,h2 _ (by omega),j6 (by omega)]
  congr 1;omega
theorem agx (l:List I4):At l 0 l:=⟨by omega,fun j _=>by rw [Nat.zero_add]⟩
def D7:Tr -> Nat -> List Int -> List Int
 | .nil,_,out=>out
 | .one _ r,o,out=>D7 r (o+1) out
 | .lk _ b r,o,out=>D7 r (o+b.len+2) ((D7 b (o+1) out).set o ((o+b.len+1:Nat):Int))
 | .ar _ b r,o,out=>D7 r (o+b.len+1) (D7 b (o+1) out)
theorem CB:∀ (t:Tr) (o:Nat) (out:List Int),(D7 t o out).length=out.length
 | .nil,_,_=>rfl
 | .one _ r,o,out=>by rw [D7,CB r]
 | .lk _ b r,o,out=>by rw [D7,CB r,List.length_set,CB b]
 | .ar _ b r,o,out=>by rw [D7,CB r,CB b]
theorem vk:∀ (t:Tr) (o:Nat) (out:List Int) (k:Nat),k<o \/ o+t.len <= k -> (D7 t o out).getD k 0=out.getD k 0
 | .nil,_,_,_,_=>rfl
 | .one _ r,o,out,k,h=>by simp only [Tr.len] at h;rw [D7,vk r _ _ k (by omega)]
 | .lk _ b r,o,out,k,h=>by
  simp only [Tr.len] at h
  rw [D7,vk r _ _ k (by omega),oh,if_neg (by omega),vk b _ _ k (by omega)]
 | .ar _ b r,o,out,k,h=>by
  simp only [Tr.len] at h
  rw [D7,vk r _ _ k (by omega),vk b _ _ k (by omega)]
theorem FT:∀ (t:Tr) (o:Nat) (out:List Int) (k:Nat) (m:Nat),o+t.len <= m -> out.getD k 0<(m:Int) -> (D7 t o out).getD k 0<(m:Int)
 | .nil,_,_,_,_,_,h=>h
 | .one _ r,o,out,k,m,h1,h2=>by simp only [Tr.len] at h1;rw [D7];exact FT r _ _ k m (by omega) h2
 | .lk _ b r,o,out,k,m,h1,h2=>by
  simp only [Tr.len] at h1
  rw [D7]
  refine FT r _ _ k m (by omega) ?_
  rw [oh]
  split
  ·omega
  ·exact FT b _ _ k m (by omega) h2
 | .ar _ b r,o,out,k,m,h1,h2=>by
  simp only [Tr.len] at h1
  rw [D7]
  exact FT r _ _ k m (by omega) (FT b _ _ k m (by omega) h2)
def aom (l:List I4) (o len:Nat):Prop:=∀ n,n<o -> o+len <= n+wd (l.getD n i0)+1 \/ n+wd (l.getD n i0)<o
theorem FJ:∀ {t:Tr} {d:Nat} {hs:List Int} {ia:Bool} {l:List I4} {o:Nat},Ok d hs ia t -> At l o t.flat -> ∀ n,o <= n -> n<o+t.len -> n+wd (l.getD n i0)<o+t.len
 | .nil,_,_,_,_,_,_,_,n,h1,h2=>by simp only [Tr.len] at h2;omega
 | .one x r,_,_,_,l,o,⟨h1,h2,_,h4⟩,ha,n,hn1,hn2=>by
  simp only [Tr.len] at hn2 ⊢
  obtain ⟨a1,a2,a3⟩:=kr ha
  by_cases e:n=o
  ·subst e;rw [a2,qw (KD h2)];omega
  ·have:=FJ h4 a3 n (by omega) (by omega);omega
 | .lk a b r,_,_,_,l,o,⟨h1,_,h3,h4⟩,ha,n,hn1,hn2=>by
  simp only [Tr.len] at hn2 ⊢
  obtain ⟨a1,a2,a3⟩:=kr ha
  obtain ⟨a4,a5⟩:=xu a3
  obtain ⟨a6,a7,a8⟩:=kr a5
  rw [iw] at a6 a7 a8
  by_cases e:n=o
  ·subst e;rw [a2,qw rfl];omega
  ·by_cases e2:n<o+1+b.len
   ·have:=FJ h3 a4 n (by omega) (by omega);omega
   ·by_cases e3:n=o+1+b.len
    ·subst e3;rw [a7,qw rfl];omega
    ·have:=FJ h4 a8 n (by omega) (by omega);omega
 | .ar x b r,_,_,_,l,o,⟨⟨h1,h2,h3⟩,_,h5,h6⟩,ha,n,hn1,hn2=>by
  simp only [Tr.len] at hn2 ⊢
  obtain ⟨a1,a2,a3⟩:=kr ha
  obtain ⟨a4,a5⟩:=xu a3
  rw [iw] at a5
  by_cases e:n=o
  ·subst e;rw [a2,h3];omega
  ·by_cases e2:n<o+1+b.len
   ·have:=FJ h5 a4 n (by omega) (by omega);omega
   ·have:=FJ h6 a5 n (by omega) (by omega);omega
theorem EJ {l:List I4} (hm:∀ x∈l,ji x=true) (hl:l.length <= 900) {i j:Nat}:JR l i j=false↔∀ n,n<l.length -> isA (l.getD n i0)=true -> ((n<i /\ i <= n+wd (l.getD n i0))↔(n<j /\ j <= n+wd (l.getD n i0))):=by
 unfold JR
 rw [List.any_eq_false]
 have hh:∀ (n k:Nat),ou (p8 n (l.getD n i0)) (k:Int)=true↔n<k /\ k <= n+wd (l.getD n i0):=fun n k=>by
  rw [oz];simp only [p8];omega
 constructor
 ·intro h n hn ha
  have:=h (p8 n (l.getD n i0)) ((ni l 0 _ hm (by omega)).2 ⟨n,hn,ha,by rw [Nat.zero_add]⟩)
  simp only [bne_iff_ne,ne_eq,Decidable.not_not] at this
  rw [Bool.eq_iff_iff,hh,hh] at this
  exact this
 ·intro h p hp
  obtain ⟨n,hn,ha,rfl⟩:=(ni l 0 p hm (by omega)).1 hp
  rw [Nat.zero_add]
  simp only [bne_iff_ne,ne_eq,Decidable.not_not]
  rw [Bool.eq_iff_iff,hh,hh]
  exact h n hn ha
theorem zm {l:List I4} (hm:∀ x∈l,ji x=true) (hl:l.length <= 900):∀ {t:Tr} {d:Nat} {hs:List Int} {ia:Bool} {o:Nat} (m:Nat) (out open_:List Int),Ok d hs ia t -> At l o t.flat -> aom l o t.len -> open_.map (fun k=>(rd l k i0).2.1)=hs -> (∀ k∈open_,0 <= k /\ k<(o:Int)) ->
  sj l (t.len+m) o (out,open_)=sj l m (o+t.len) (D7 t o out,open_)
 | .nil,_,_,_,_,m,out,open_,_,_,_,_,_=>by simp only [Tr.len,Nat.zero_add,Nat.add_zero,D7]
 | .one x r,_,_,_,o,m,out,open_,⟨h1,h2,_,h4⟩,ha,ho,hs,hk=>by
  simp only [Tr.len] at ho ⊢
  obtain ⟨a1,a2,a3⟩:=kr ha
  rw [show r.len+1+m=(r.len+m)+1 by omega,sj]
  have hp:jm l o (out,open_)=some (out,open_):=by
   unfold jm;rw [a2,if_neg h2.2.2.2.1,if_neg h2.2.2.2.2]
  rw [hp,Option.bind_some,zm hm hl m out open_ h4 a3 (fun n hn=>by
   by_cases e:n=o
   ·subst e;right;rw [a2,qw (KD h2)];omega
   ·have:=ho n (by omega);omega) hs (fun k hk'=>by have:=hk k hk';omega),D7]
  congr 1;omega
 | .lk a b r,_,hs,_,o,m,out,open_,⟨h1,h2,h3,h4⟩,ha,ho,hhs,hk=>by
  simp only [Tr.len] at ho ⊢
  obtain ⟨a1,a2,a3⟩:=kr ha
  obtain ⟨a4,a5⟩:=xu a3
  obtain ⟨a6,a7,a8⟩:=kr a5
  rw [iw] at a6 a7 a8
  have hlen:open_.length=hs.length:=by rw [<- hhs,List.length_map]
  have hsame:LZ l open_ o=false:=by
   unfold LZ
   rw [List.any_eq_false]
   intro k hk'
   rw [Px,a2]
   have:(rd l k i0).2.1∈hs:=by rw [<- hhs];exact List.mem_map.2 ⟨k,hk',rfl⟩
   intro e
   have e:=eq_of_beq e
   simp only at e
   rw [e] at this
   exact h2.1 this
  have hp:jm l o (out,open_)=some (out,open_++[(o:Int)]):=by
   unfold jm
   rw [a2,if_pos rfl,if_neg]
   rintro (h | h)
   ·simp only at h;omega
   ·rw [show LZ l open_ (o:Int)=true from h] at hsame;cases hsame
  rw [show b.len+r.len+2+m=(b.len+(r.len+m+1))+1 by omega,sj,hp,Option.bind_some]
  rw [zm hm hl (r.len+m+1) out (open_++[(o:Int)]) h3 a4 (fun n hn=>by
   by_cases e:n=o
   ·subst e;right;rw [a2,qw rfl];omega
   ·have:=ho n (by omega);omega) (by rw [List.map_append,hhs,List.map_cons,List.map_nil,Px,a2]) (fun k hk'=>by
   rcases List.mem_append.1 hk' with hk' | hk'
   ·have:=hk k hk';omega
   ·have:=List.mem_singleton.1 hk';omega)]
  have hsep:JR l o (o+1+b.len:Nat)=false:=by
   rw [EJ hm hl]
   intro n hn hA
   by_cases e:n<o
   ·have:=ho n e;omega
   ·by_cases e2:n=o
    ·subst e2;rw [a2] at hA;exact absurd hA (by simp [isA])
    ·by_cases e3:n<o+1+b.len
     ·have:=FJ h3 a4 n (by omega) e3;omega
     ·omega
  have hp2:jm l (o+1+b.len) (D7 b (o+1) out,open_++[(o:Int)])=some ((D7 b (o+1) out).set o ((o+b.len+1:Nat):Int),open_):=by
   unfold jm
   rw [a7,if_neg (by simp),if_pos rfl,show (D7 b (o+1) out,open_++[(o:Int)]).2.getLast? = some (o:Int) by simp]
   simp only
   rw [if_neg]
   ·simp only [List.dropLast_concat,Mf]
    congr 3;congr 1;omega
   ·rintro (h | h)
    ·rw [Px,a2] at h;exact h rfl
    ·rw [show JR l (((o:Int).toNat:Nat):Int) ((o+1+b.len:Nat):Int)=false from hsep] at h;cases h
  rw [sj,hp2,Option.bind_some,show o+1+b.len+1=o+b.len+2 by omega]
  rw [show o+1+b.len+1=o+b.len+2 by omega] at a8
  rw [zm hm hl m _ open_ h4 a8 (fun n hn=>by
   by_cases e:n<o
   ·have:=ho n e;omega
   ·by_cases e2:n=o
    ·subst e2;right;rw [a2,qw rfl];omega
    ·by_cases e3:n<o+1+b.len
     ·have:=FJ h3 a4 n (by omega) e3;omega
     ·have:n=o+1+b.len:=by omega
      subst this;right;rw [a7,qw rfl];omega) hhs (fun k hk'=>by have:=hk k hk';omega),D7]
  congr 1;omega
 | .ar x b r,_,hs,_,o,m,out,open_,⟨⟨h1,h2,h3⟩,_,h5,h6⟩,ha,ho,hhs,hk=>by
  simp only [Tr.len] at ho ⊢
  obtain ⟨a1,a2,a3⟩:=kr ha
  obtain ⟨a4,a5⟩:=xu a3
  rw [iw] at a5
  have h9:x.1≠9:=fun e=>by simp [isA,e] at h2
  have h10:x.1≠10:=fun e=>by simp [isA,e] at h2
  have hp:jm l o (out,open_)=some (out,open_):=by
   unfold jm;rw [a2,if_neg h9,if_neg h10]
  rw [show b.len+r.len+1+m=(b.len+(r.len+m))+1 by omega,sj,hp,Option.bind_some]
  rw [zm hm hl (r.len+m) out open_ h5 a4 (fun n hn=>by
   by_cases e:n=o
   ·subst e;left;rw [a2,h3];omega
   ·have:=ho n (by omega);omega) hhs (fun k hk'=>by have:=hk k hk';omega)]
  rw [show o+1+b.len=o+b.len+1 by omega] at a5 ⊢
  rw [zm hm hl m _ open_ h6 a5 (fun n hn=>by
   by_cases e:n<o
   ·have:=ho n e;omega
   ·by_cases e2:n=o
    ·subst e2;right;rw [a2,h3];omega
    ·have:=FJ h5 a4 n (by omega) (by omega);omega) hhs (fun k hk'=>by have:=hk k hk';omega),D7]
  congr 1;omega
theorem CF:∀ {t:Tr} {d:Nat} {hs:List Int} {ia:Bool} {l:List I4} {o:Nat},Ok d hs ia t -> At l o t.flat -> ∀ i,o <= i -> i<o+t.len -> (l.getD i i0).1=11 -> ia=false /\ hs=[] /\ (∀ n,o <= n -> n<i -> n+wd (l.getD n i0)<i) /\ ∀ (out:List Int) (k:Nat),o <= k -> k<i -> out.getD k 0<(i:Int) -> (D7 t o out).getD k 0<(i:Int)
 | .nil,_,_,_,_,_,_,_,i,h1,h2,_=>by simp only [Tr.len] at h2;omega
 | .one x r,_,_,_,l,o,⟨h1,h2,h3,h4⟩,ha,i,hi1,hi2,he=>by
  simp only [Tr.len] at hi2
  obtain ⟨a1,a2,a3⟩:=kr ha
  by_cases e:i=o
  ·subst e;rw [a2] at he
   exact ⟨(h3 he).1,(h3 he).2,fun n _ _=>by omega,fun _ k _ _=>by omega⟩
  ·obtain ⟨i1,i2,i3,i4⟩:=CF h4 a3 i (by omega) (by omega) he
   refine ⟨i1,i2,fun n hn1 hn2=>?_,fun out k hk1 hk2 hk3=>?_⟩
   ·by_cases e2:n=o
    ·subst e2;rw [a2,qw (KD h2)];omega
    ·exact i3 n (by omega) hn2
   ·rw [D7]
    by_cases e2:k=o
    ·rw [vk r _ _ k (by omega)];exact hk3
    ·exact i4 out k (by omega) hk2 hk3
 | .lk a b r,_,hs,_,l,o,⟨h1,_,h3,h4⟩,ha,i,hi1,hi2,he=>by
  simp only [Tr.len] at hi2
  obtain ⟨a1,a2,a3⟩:=kr ha
  obtain ⟨a4,a5⟩:=xu a3
  obtain ⟨a6,a7,a8⟩:=kr a5
  rw [iw] at a6 a7 a8
  by_cases e:i=o
  ·subst e;rw [a2] at he;exact absurd he (by decide:(9:Int)≠11)
  ·by_cases e2:i<o+1+b.len
   ·have:=(CF h3 a4 i (by omega) e2 he).2.1
    simp at this
   ·by_cases e3:i=o+1+b.len
    ·subst e3;rw [a7] at he;exact absurd he (by decide:(10:Int)≠11)
    ·obtain ⟨i1,i2,i3,i4⟩:=CF h4 a8 i (by omega) (by omega) he
     refine ⟨i1,i2,fun n hn1 hn2=>?_,fun out k hk1 hk2 hk3=>?_⟩
     ·by_cases f1:n=o
      ·subst f1;rw [a2,qw rfl];omega
      ·by_cases f2:n<o+1+b.len
       ·have:=FJ h3 a4 n (by omega) f2;omega
       ·by_cases f3:n=o+1+b.len
        ·subst f3;rw [a7,qw rfl];omega
        ·exact i3 n (by omega) hn2
     ·rw [D7,show o+b.len+2=o+1+b.len+1 by omega]
      have key:((D7 b (o+1) out).set o ((o+b.len+1:Nat):Int)).getD k 0<(i:Int):=by
       rw [oh]
       split
       ·omega
       ·exact FT b _ _ k i (by omega) hk3
      by_cases f:o+1+b.len+1 <= k
      ·exact i4 _ k f hk2 key
      ·rw [vk r _ _ k (by omega)];exact key
 | .ar x b r,_,_,_,l,o,⟨⟨h1,h2,h3⟩,_,h5,h6⟩,ha,i,hi1,hi2,he=>by
  simp only [Tr.len] at hi2
  obtain ⟨a1,a2,a3⟩:=kr ha
  obtain ⟨a4,a5⟩:=xu a3
  rw [iw] at a5
  by_cases e:i=o
  ·subst e;rw [a2] at he;simp [isA,he] at h2
  ·by_cases e2:i<o+1+b.len
   ·have:=(CF h5 a4 i (by omega) e2 he).1
    cases this
   ·obtain ⟨i1,i2,i3,i4⟩:=CF h6 a5 i (by omega) (by omega) he
    refine ⟨i1,i2,fun n hn1 hn2=>?_,fun out k hk1 hk2 hk3=>?_⟩
    ·by_cases f1:n=o
     ·subst f1;rw [a2,h3];omega
     ·by_cases f2:n<o+1+b.len
      ·have:=FJ h5 a4 n (by omega) f2;omega
      ·exact i3 n (by omega) hn2
    ·rw [D7,show o+b.len+1=o+1+b.len by omega]
     have key:(D7 b (o+1) out).getD k 0<(i:Int):=FT b _ _ k i (by omega) hk3
     by_cases f:o+1+b.len <= k
     ·exact i4 _ k f hk2 key
     ·rw [vk r _ _ k (by omega)];exact key
def Tr.prog (t:Tr):List I4:=t.flat++[i0]
theorem vo (t:Tr):t.prog.length=t.len+1:=by unfold Tr.prog;rw [List.length_append,iw];rfl
theorem aes {t:Tr} (h:Ok 0 [] false t):∀ x∈t.prog,ji x=true:=by
 intro x hx
 rcases List.mem_append.1 hx with hx | hx
 ·exact FR h x hx
 ·rw [List.mem_singleton.1 hx];rfl
theorem EK (t:Tr):At t.prog 0 t.flat:=(xu (agx t.prog)).1
theorem BJ (t:Tr):t.prog.getD t.len i0=i0:=by
 unfold Tr.prog
 rw [j6 (by rw [iw];omega),iw,Nat.sub_self];rfl
theorem Vm {t:Tr} (hl:t.len <= 900):jw 0 t.prog=jw 0 t.flat:=by
 unfold Tr.prog
 rw [GR,EH rfl rfl _ (by rw [iw];omega)]
 simp [jw]
theorem O9 {t:Tr} (h:Ok 0 [] false t) (hl:t.len<24):w9 t.prog (D7 t 0 (List.replicate (t.len+1) 0)):=by
 have hm:=aes h
 have hpl:=vo t
 have hpc:=Vm (t:=t) (by omega)
 have hin:=fun p hp=>o8 (o:=0) h (by omega) p hp
 have aon:MV t.prog=some (D7 t 0 (List.replicate (t.len+1) 0)):=by
  have:=zm hm (by omega) (o:=0) 1 (List.replicate t.prog.length 0) [] h (EK t) (fun n hn=>by omega) rfl (fun k hk=>by cases hk)
  unfold MV
  rw [hpl] at this ⊢
  rw [this,sj,Nat.zero_add]
  unfold jm
  rw [BJ,if_neg (by decide),if_neg (by decide)]
  rfl
 refine ⟨by omega,by omega,hm,fun i hi=>?_,fun p hp=>?_,fun p hp q hq=>?_,fun j hj=>?_,aon,fun i hi e=>⟨?_,fun k hk=>?_⟩⟩
 ·by_cases e:i<t.len
  ·have:(t.prog.getD i i0).1≠0:=by
    unfold Tr.prog
    rw [mh (by rw [iw];exact e)]
    exact O8 h _ (iq (by rw [iw];exact e))
   exact ⟨fun h=>absurd h this,fun h=>by omega⟩
  ·have:i=t.len:=by omega
   subst this
   rw [BJ]
   exact ⟨fun _=>by omega,fun _=>rfl⟩
 ·rw [hpc] at hp
  have:=hin p hp;omega
 ·rw [hpc] at hp hq
  exact IZ h (by omega) p hp q hq
 ·rw [hpc]
  have:=xq (o:=0) h (by omega) (by omega) (j:Int);omega
 ·have hlt:i<t.len:=by
   by_cases e2:i<t.len
   ·exact e2
   ·have:i=t.len:=by omega
    subst this;rw [BJ] at e;exact absurd e (by decide)
  obtain ⟨_,_,i3,_⟩:=CF h (EK t) i (by omega) (by omega) e
  rw [List.any_eq_false]
  intro p hp
  obtain ⟨n,hn,ha,rfl⟩:=(ni t.prog 0 p hm (by omega)).1 hp
  rw [oz]
  simp only [p8]
  rintro ⟨h1,h2⟩
  have:=i3 n (by omega) (by omega)
  omega
 ·have hlt:i<t.len:=by
   by_cases e2:i<t.len
   ·exact e2
   ·have:i=t.len:=by omega
    subst this;rw [BJ] at e;exact absurd e (by decide)
  obtain ⟨_,_,_,i4⟩:=CF h (EK t) i (by omega) (by omega) e
  have:=i4 (List.replicate (t.len+1) 0) k (by omega) hk (by
   rw [List.getD_eq_getElem?_getD,List.getElem?_replicate];split <;> simp <;> omega)
  omega
def zk (p:List Int) (n:Int):Prop:=(p.length <= 1000 /\ 0 <= n /\ n <= (p.length:Int)) /\ ∀ x∈p,0 <= x /\ x <= 255
theorem ny (k:Nat) {p:List Int} {n m:Int} (h:zk p n) (hm:0<m):∃ v n',JH k p n m=some ((v,()),(p,n',()),()) /\ (0 <= v /\ v<m) /\ zk p n':=by
 obtain ⟨⟨h1,h2,h3⟩,h4⟩:=h
 unfold JH
 by_cases e:n≥(p.length:Int)
 ·rw [Rj e];exact ⟨0,n,rfl,by omega,⟨h1,h2,h3⟩,h4⟩
 ·rw [Rk e,Ua (n:=n+1) (by omega) (by omega),show n+1 - 1=n by omega,Ua (n:=n) (by omega) (by omega),Lf h2 (by omega),Ri (by omega)]
  obtain ⟨j,rfl⟩:∃ j:Nat,n=(j:Int):=⟨n.toNat,by omega⟩
  rw [Px]
  have:=h4 _ (iq (z:=0) (l:=p) (i:=j) (by omega))
  rw [Ua (by omega) (by omega)]
  exact ⟨_,_,rfl,⟨Int.tmod_nonneg _ this.1,Int.tmod_lt_of_pos _ hm⟩,⟨h1,by omega,by omega⟩,h4⟩
theorem mem3 {a:Int} (h:0 <= a /\ a<3):zy a=true:=by simp [zy];omega
theorem RY (k:Nat) {p:List Int} {n:Int} (h:zk p n):∃ x n',aaR k p n=some ((x,()),(p,n',()),()) /\ (ji x=true /\ 1 <= x.1 /\ x.1 <= 6 /\ x.2.1<3) /\ zk p n':=by
 unfold aaR
 obtain ⟨a,n1,e1,ha,h1⟩:=ny k (m:=3) h (by omega)
 rw [e1,Option.bind_some]
 obtain ⟨b,n2,e2,hb,h2⟩:=ny k (m:=3) h1 (by omega)
 simp only
 rw [e2,Option.bind_some]
 obtain ⟨c,n3,e3,hc,h3⟩:=ny k (m:=6) h2 (by omega)
 simp only
 rw [e3,Option.bind_some]
 simp only
 have ma:=mem3 ha
 have mb:=mem3 hb
 have hc6:c=0 \/ c=1 \/ c=2 \/ c=3 \/ c=4 \/ c=5:=by omega
 rcases hc6 with rfl | rfl | rfl | rfl | rfl | rfl
 ·obtain ⟨d,n4,e4,hd,h4⟩:=ny k (m:=9) h3 (by omega)
  rw [show ((0:Int)==0)=true from rfl,cond_true,e4,Option.bind_some]
  simp only
  rw [Ua (by omega) (by omega)]
  exact ⟨_,_,rfl,⟨by simp [ji,ma,xg];omega,by simp,by simp,ha.2⟩,h4⟩
 ·exact ⟨_,_,rfl,⟨by simp [ji,ma,mb],by simp,by simp,ha.2⟩,h3⟩
 ·exact ⟨_,_,rfl,⟨by simp [ji,ma,mb],by simp,by simp,ha.2⟩,h3⟩
 ·exact ⟨_,_,rfl,⟨by simp [ji,ma,mb],by simp,by simp,ha.2⟩,h3⟩
 ·obtain ⟨d,n4,e4,hd,h4⟩:=ny k (m:=7) h3 (by omega)
  rw [show ((4:Int)==0)=false from rfl,show ((4:Int)==1)=false from rfl,show ((4:Int)==2)=false from rfl,show ((4:Int)==3)=false from rfl,show ((4:Int)==4)=true from rfl,cond_false,cond_false,cond_false,cond_false,cond_true,e4,Option.bind_some]
  simp only
  rw [Ua (by omega) (by omega)]
  exact ⟨_,_,rfl,⟨by simp [ji,ma,xg];omega,by simp,by simp,ha.2⟩,h4⟩
 ·obtain ⟨d,n4,e4,hd,h4⟩:=ny k (m:=64) h3 (by omega)
  rw [show ((5:Int)==0)=false from rfl,show ((5:Int)==1)=false from rfl,show ((5:Int)==2)=false from rfl,show ((5:Int)==3)=false from rfl,show ((5:Int)==4)=false from rfl,cond_false,cond_false,cond_false,cond_false,cond_false,e4,Option.bind_some]
  simp only
  rw [Ua (by omega) (by omega)]
  exact ⟨_,_,rfl,⟨by simp [ji,ma,xg];omega,by simp,by simp,ha.2⟩,h4⟩
theorem Vn {x:I4} (h:1 <= x.1 /\ x.1 <= 6 /\ x.2.1<3):plain x /\ x.1≠11:=by unfold plain;omega
def MX (n:Int):Tr -> Prop
 | .nil=>True
 | .one _ r=>MX n r
 | .lk a b r=>(0 <= a /\ a<n) /\ MX n b /\ MX n r
 | .ar _ b r=>MX n b /\ MX n r
def AZ:Tr -> Prop
 | .nil=>True
 | .one x r=>(1 <= x.1 /\ x.1 <= 6 /\ x.2.1<3) /\ AZ r
 | .lk _ b r=>AZ b /\ AZ r
 | .ar _ _ _=>False
theorem BK {n:Int}:∀ {t u:Tr},MX n t -> MX n u -> MX n (t.app u)
 | .nil,_,_,h=>h
 | .one _ r,_,h1,h=>BK (t:=r) h1 h
 | .lk _ _ _,_,h1,h=>⟨h1.1,h1.2.1,BK h1.2.2 h⟩
 | .ar _ b r,_,h1,h=>⟨h1.1,BK h1.2 h⟩
theorem CG:∀ {t u:Tr},AZ t -> AZ u -> AZ (t.app u)
 | .nil,_,_,h=>h
 | .one _ r,_,h1,h=>⟨h1.1,CG h1.2 h⟩
 | .lk _ b r,_,h1,h=>⟨h1.1,CG h1.2 h⟩
 | .ar _ _ _,_,h1,_=>h1.elim
def MZ:Tr -> Prop
 | .nil=>True
 | .one x r=>(x.1 <= 6 -> x.2.1<3) /\ MZ r
 | .lk _ b r=>MZ b /\ MZ r
 | .ar _ b r=>MZ b /\ MZ r
theorem xw:∀ {t:Tr},AZ t -> MZ t
 | .nil,_=>trivial
 | .one _ r,h=>⟨fun _=>h.1.2.2,xw h.2⟩
 | .lk _ b r,h=>⟨xw h.1,xw h.2⟩
 | .ar _ _ _,h=>h.elim
theorem KH:∀ {t u:Tr},MZ t -> MZ u -> MZ (t.app u)
 | .nil,_,_,h=>h
 | .one _ r,_,h1,h=>⟨h1.1,KH h1.2 h⟩
 | .lk _ b r,_,h1,h=>⟨h1.1,KH h1.2 h⟩
 | .ar _ b r,_,h1,h=>⟨h1.1,KH h1.2 h⟩
structure Pc (iy:Int) (t:Tr):Prop where
 ok:∀ d ia,Ok d [] ia t
 simple:AZ t
 free:MX iy t
theorem akj (iy:Int):Pc iy .nil:=⟨fun _ _=>trivial,trivial,trivial⟩
theorem aeu {iy:Int} {t:Tr} {x:I4} (h:Pc iy t) (hx:ji x=true /\ 1 <= x.1 /\ x.1 <= 6 /\ x.2.1<3):Pc iy (t.app (.one x .nil)) :=
 have hp:=Vn hx.2
 ⟨fun d ia=>IY (h.ok d ia) ⟨hx.1,hp.1,fun e=>absurd e hp.2,trivial⟩,CG h.simple ⟨hx.2,trivial⟩,BK h.free trivial⟩
theorem amA {iy:Int} {t:Tr} {x:I4} {a:Int} (h:Pc iy t) (hx:ji x=true /\ 1 <= x.1 /\ x.1 <= 6 /\ x.2.1<3) (ha:0 <= a /\ a<iy) (hl:iy <= 4):Pc iy (t.app (.lk a (.one x .nil) .nil)) :=
 have hp:=Vn hx.2
 ⟨fun d ia=>IY (h.ok d ia) ⟨by omega,⟨by simp,by simp⟩,⟨hx.1,hp.1,fun e=>absurd e hp.2,trivial⟩,trivial⟩,CG h.simple ⟨⟨hx.2,trivial⟩,trivial⟩,BK h.free ⟨ha,trivial,trivial⟩⟩
theorem OA {k:Nat} (hk:1000 <= k) {p:List Int} {iy:Int} (hl:0 <= iy /\ iy <= 4):∀ (m j:Nat) (n:Int) (t:Tr),m<j -> m <= 100 -> zk p n -> Pc iy t -> t.len+3 * m <= 1000 ->
  ∃ t' n',RF k j p n iy t.flat (m:Int)=some ((t'.flat,()),(p,n',()),()) /\ zk p n' /\ Pc iy t' /\ t.len+m <= t'.len /\ t'.len <= t.len+3 * m
 | 0,j,n,t,hj,_,hp,ht,_=>by
  obtain ⟨j',rfl⟩:∃ j',j=j'+1:=⟨j - 1,by omega⟩
  rw [UY,RB,Rk (by omega)]
  exact ⟨t,n,rfl,hp,ht,by omega,by omega⟩
 | m+1,j,n,t,hj,hm,hp,ht,htl=>by
  obtain ⟨j',rfl⟩:∃ j',j=j'+1:=⟨j - 1,by omega⟩
  rw [UY,RB,Rj (by omega)]
  have hw:IntKind.i64.wrap (((m+1:Nat):Int) - 1)=(m:Int):=by rw [Ua (by omega) (by omega)];omega
  have ih:=OA hk (p:=p) hl m j'
  have hfl:=iw t
  by_cases e:iy>0
  ·rw [Rj e]
   obtain ⟨a,n1,e1,ha,h1⟩:=ny k (m:=4) hp (by omega)
   rw [e1,Option.bind_some]
   simp only
   cases h0:a==0 with
   | true =>
    obtain ⟨b,n2,e2,hb,h2⟩:=ny k (m:=iy) h1 e
    rw [cond_true,e2,Option.bind_some]
    simp only
    rw [Rh (by simp only [List.length_cons,List.length_nil];omega)]
    obtain ⟨x,n3,e3,hx,h3⟩:=RY k h2
    rw [e3,Option.bind_some]
    simp only
    rw [Rh (by simp only [List.length_append,List.length_cons,List.length_nil];omega),Rh (by simp only [List.length_append,List.length_cons,List.length_nil];omega),hw]
    have hl1:(t.app (.lk b (.one x .nil) .nil)).len=t.len+3:=by rw [KC];rfl
    obtain ⟨t',n',h5,h6,h7,h8,h9⟩:=ih n3 (t.app (.lk b (.one x .nil) .nil)) (by omega) (by omega) h3 (amA ht hx hb hl.2) (by omega)
    rw [y8] at h5
    refine ⟨t',n',?_,h6,h7,by omega,by omega⟩
    rw [<- h5]
    simp only [Tr.flat,List.append_assoc,List.cons_append,List.nil_append]
   | false =>
    obtain ⟨x,n3,e3,hx,h3⟩:=RY k h1
    rw [cond_false,e3,Option.bind_some]
    simp only
    rw [Rh (by simp only [List.length_cons,List.length_nil];omega),hw]
    have hl1:(t.app (.one x .nil)).len=t.len+1:=by rw [KC];rfl
    obtain ⟨t',n',h5,h6,h7,h8,h9⟩:=ih n3 (t.app (.one x .nil)) (by omega) (by omega) h3 (aeu ht hx) (by omega)
    rw [y8] at h5
    exact ⟨t',n',h5,h6,h7,by omega,by omega⟩
  ·rw [Rk e]
   obtain ⟨x,n3,e3,hx,h3⟩:=RY k hp
   rw [e3,Option.bind_some]
   simp only
   rw [Rh (by simp only [List.length_cons,List.length_nil];omega),hw]
   have hl1:(t.app (.one x .nil)).len=t.len+1:=by rw [KC];rfl
   obtain ⟨t',n',h5,h6,h7,h8,h9⟩:=ih n3 (t.app (.one x .nil)) (by omega) (by omega) h3 (aeu ht hx) (by omega)
   rw [y8] at h5
   exact ⟨t',n',h5,h6,h7,by omega,by omega⟩
theorem RZ {k:Nat} (hk:1000 <= k) {p:List Int} {n iy:Int} (hl:0 <= iy /\ iy <= 4) (hp:zk p n):∃ t n',aaS k p n 2 iy=some ((Tr.flat t,()),(p,n',()),()) /\ zk p n' /\ Pc iy t /\ 1 <= t.len /\ t.len <= 6:=by
 unfold aaS
 obtain ⟨a,n1,e1,ha,h1⟩:=ny k (m:=2) hp (by omega)
 rw [e1,Option.bind_some]
 simp only
 rw [Ua (by omega) (by omega)]
 obtain ⟨m,hm⟩:∃ m:Nat,a+1=(m:Int):=⟨(a+1).toNat,by omega⟩
 rw [hm]
 obtain ⟨t',n',h5,h6,h7,h8,h9⟩:=OA hk (p:=p) hl m k n1 .nil (by omega) (by omega) h1 (akj iy) (by simp only [Tr.len];omega)
 simp only [Tr.len,Nat.zero_add] at h8 h9
 exact ⟨t',n',h5,h6,h7,by omega,by omega⟩
structure Mp (iy:Int) (t:Tr):Prop where
 ok:Ok 0 [] false t
 free:MX iy t
 low:MZ t
theorem akk {iy:Int} {t u:Tr} (h:Mp iy t) (hu:Mp iy u):Mp iy (t.app u):=⟨IY h.ok hu.ok,BK h.free hu.free,KH h.low hu.low⟩
theorem EL {k:Nat} {p:List Int} {iy n:Int} {t u:Tr} {m:Nat} {g3:List Int -> Int -> Int -> List I4 -> Int -> Option ((List I4×Unit)×(List Int×Int×Unit)×Unit)} (hu:u.len <= 900) (ht:t.len <= 22) (hm:m <= 900) (ht':Mp iy t) (hu':Mp iy u) :
  ∃ t',FN k g3 p n iy t.flat ((m+1:Nat):Int) u.flat=g3 p n iy (Tr.flat t') (m:Int) /\ t'.len <= 22 /\ Mp iy t':=by
 unfold FN
 have h1:=iw t
 have h2:=iw u
 rw [Ua (by omega) (by omega),Ua (by omega) (by omega),show ((m+1:Nat):Int) - 1=(m:Int) by omega]
 by_cases e:((t.flat.length:Int)+(u.flat.length:Int))<23
 ·rw [Rj e,Rh (by omega)]
  exact ⟨t.app u,by rw [y8],by rw [KC];omega,akk ht' hu'⟩
 ·rw [Rk e];exact ⟨t,rfl,ht,ht'⟩
theorem Vo {k:Nat} (hk:1000 <= k) {p:List Int} {iy:Int} (hl:0 <= iy /\ iy <= 4):∀ (m j:Nat) (n:Int) (t:Tr),m<j -> m <= 100 -> zk p n -> Mp iy t -> t.len <= 22 ->
  ∃ t' n',JI k j p n iy t.flat (m:Int)=some ((Tr.prog t',()),(p,n',()),()) /\ zk p n' /\ Mp iy t' /\ t'.len <= 22
 | 0,j,n,t,hj,_,hp,ht,htl=>by
  obtain ⟨j',rfl⟩:∃ j',j=j'+1:=⟨j - 1,by omega⟩
  have hfl:=iw t
  rw [Z7,Z6,Rk (by omega),Rh (by simp only [List.length_cons,List.length_nil];omega)]
  exact ⟨t,n,rfl,hp,ht,htl⟩
 | m+1,j,n,t,hj,hm,hp,ht,htl=>by
  obtain ⟨j',rfl⟩:∃ j',j=j'+1:=⟨j - 1,by omega⟩
  rw [Z7,Z6,Rj (by omega)]
  have ih:=Vo hk (p:=p) hl m j'
  obtain ⟨a,n1,e1,ha,h1⟩:=ny k (m:=5) hp (by omega)
  rw [e1,Option.bind_some]
  simp only
  cases h0:a==0 with
  | true =>
   obtain ⟨b,n2,e2,h2,hb,hb1,hb2⟩:=RZ hk hl h1
   rw [cond_true,e2,Option.bind_some]
   simp only
   obtain ⟨c,n3,e3,hc,h3⟩:=ny k (m:=3) h2 (by omega)
   have hbl:=iw b
   rw [e3,Option.bind_some,Rh (by simp only [List.length_cons,List.length_nil];omega)]
   simp only
   rw [Ua (by omega) (by omega)]
   have hx:ji (8,0,(b.flat.length:Int),1+c)=true:=by simp [ji,xg];omega
   have hwd:wd (8,0,(b.flat.length:Int),1+c)=b.len:=by simp [wd,hbl]
   obtain ⟨t',h5,h6,h7⟩:=EL (k:=k) (p:=p) (iy:=iy) (n:=n3) (t:=t) (u:=.ar (8,0,(b.flat.length:Int),1+c) b .nil) (m:=m) (g3:=fun p2 p3 C9 l_ i=>JI k j' p2 p3 C9 l_ i) (by simp only [Tr.len];omega) htl (by omega) ht ⟨⟨⟨hx,rfl,hwd⟩,fun _=>by omega,hb.ok _ _,trivial⟩,⟨hb.free,trivial⟩,⟨xw hb.simple,trivial⟩⟩
   obtain ⟨t2,n',h8,h9,h10,h11⟩:=ih n3 t' (by omega) (by omega) h3 h7 h6
   refine ⟨t2,n',?_,h9,h10,h11⟩
   rw [<- h8,<- h5]
   simp only [Tr.flat,List.append_nil,List.cons_append,List.nil_append]
  | false =>
   rw [cond_false]
   cases h0:a==1 with
   | true =>
    obtain ⟨b,n2,e2,h2,hb,hb1,hb2⟩:=RZ hk hl h1
    rw [cond_true,e2,Option.bind_some]
    simp only
    obtain ⟨c,n3,e3,hc,h3⟩:=ny k (m:=3) h2 (by omega)
    have hbl:=iw b
    rw [e3,Option.bind_some,Rh (by simp only [List.length_cons,List.length_nil];omega)]
    simp only
    have hx:ji (7,c,0,(b.flat.length:Int))=true:=by simp [ji,xg,zy];omega
    have hwd:wd (7,c,0,(b.flat.length:Int))=b.len:=by simp [wd,hbl]
    obtain ⟨t',h5,h6,h7⟩:=EL (k:=k) (p:=p) (iy:=iy) (n:=n3) (t:=t) (u:=.ar (7,c,0,(b.flat.length:Int)) b .nil) (m:=m) (g3:=fun p2 p3 C9 l_ i=>JI k j' p2 p3 C9 l_ i) (by simp only [Tr.len];omega) htl (by omega) ht ⟨⟨⟨hx,rfl,hwd⟩,fun _=>by omega,hb.ok _ _,trivial⟩,⟨hb.free,trivial⟩,⟨xw hb.simple,trivial⟩⟩
    obtain ⟨t2,n',h8,h9,h10,h11⟩:=ih n3 t' (by omega) (by omega) h3 h7 h6
    refine ⟨t2,n',?_,h9,h10,h11⟩
    rw [<- h8,<- h5]
    simp only [Tr.flat,List.append_nil,List.cons_append,List.nil_append]
   | false =>
    rw [cond_false]
    cases h0:a==2 with
    | true =>
     rw [cond_true]
     obtain ⟨t',h5,h6,h7⟩:=EL (k:=k) (p:=p) (iy:=iy) (n:=n1) (t:=t) (u:=.one (11,0,0,0) .nil) (m:=m) (g3:=fun p2 p3 C9 l_ i=>JI k j' p2 p3 C9 l_ i) (by simp [Tr.len]) htl (by omega) ht ⟨⟨rfl,by simp [plain],fun _=>⟨rfl,rfl⟩,trivial⟩,trivial,⟨fun e=>absurd e (by decide),trivial⟩⟩
     obtain ⟨t2,n',h8,h9,h10,h11⟩:=ih n1 t' (by omega) (by omega) h1 h7 h6
     exact ⟨t2,n',by rw [<- h8,<- h5];rfl,h9,h10,h11⟩
    | false =>
     obtain ⟨b,n2,e2,h2,hb,hb1,hb2⟩:=RZ hk hl h1
     rw [cond_false,e2,Option.bind_some]
     simp only
     obtain ⟨t',h5,h6,h7⟩:=EL (k:=k) (p:=p) (iy:=iy) (n:=n2) (t:=t) (u:=b) (m:=m) (g3:=fun p2 p3 C9 l_ i=>JI k j' p2 p3 C9 l_ i) (by omega) htl (by omega) ht ⟨hb.ok _ _,hb.free,xw hb.simple⟩
     obtain ⟨t2,n',h8,h9,h10,h11⟩:=ih n2 t' (by omega) (by omega) h2 h7 h6
     exact ⟨t2,n',by rw [<- h8,<- h5],h9,h10,h11⟩
theorem aev {k:Nat} (hk:1000 <= k) {p:List Int} {n iy:Int} (hl:0 <= iy /\ iy <= 4) (hp:zk p n):∃ t n',S67 k p n iy=some ((Tr.prog t,()),(p,n',()),()) /\ zk p n' /\ Mp iy t /\ t.len <= 22:=by
 unfold S67
 obtain ⟨a,n1,e1,ha,h1⟩:=ny k (m:=4) hp (by omega)
 rw [e1,Option.bind_some]
 simp only
 rw [Ua (by omega) (by omega)]
 obtain ⟨m,hm⟩:∃ m:Nat,a+1=(m:Int):=⟨(a+1).toNat,by omega⟩
 rw [hm]
 exact Vo hk (p:=p) hl m k n1 .nil (by omega) (by omega) h1 ⟨trivial,trivial,trivial⟩ (by simp [Tr.len])
theorem wf_u8 {n:Int} (h:(Lit.int .u8 n).wf=true):0 <= n /\ n <= 255:=by
 simp [Lit.wf,IntKind.min,IntKind.max,IntKind.signed,IntKind.bits] at h
 omega
theorem aew {p:List Int} {e:TypeId} (h:Ty.fine (.sl e (.int .u8)) p) (hl:p.length <= 1000):zk p 0 :=
 ⟨⟨hl,by omega,by omega⟩,fun x hx=>wf_u8 (h.2 x hx)⟩
def su (l:List I4) (c:Int) (n:Nat):Prop:=(l.getD n i0).1=c
abbrev um (l:List I4) (n:Nat):Int:=(l.getD n i0).2.1
def GU (l:List I4) (c:Int):Nat -> Nat
 | 0=>0
 | n+1=>GU l c n+(if (l.getD n i0).1=c then 1 else 0)
structure PrI (l:List I4) (i:Nat) (out open_:List Int):Prop where
 len:out.length=l.length
 sorted:open_.Pairwise (·<·)
 small:∀ k∈open_,0 <= k /\ k<(i:Int)
 lock:∀ k:Nat,(k:Int)∈open_ -> su l 9 k
 closed:∀ k,k<i -> su l 9 k -> (k:Int) ∉ open_ -> ∃ u:Nat,out.getD k 0=(u:Int) /\ k<u /\ u<i /\ su l 10 u /\ um l u=um l k
 dist:∀ k j,k<j -> j<i -> su l 9 k -> su l 9 j -> (k:Int)∈open_ -> um l k≠um l j
 nest:∀ k j,k<j -> j<i -> su l 9 k -> su l 9 j -> (k:Int) ∉ open_ -> (j:Int)<out.getD k 0 -> (j:Int) ∉ open_ /\ out.getD j 0<out.getD k 0 /\ um l k≠um l j
 cnt:GU l 9 i=GU l 10 i+open_.length
theorem DX {l:List I4} {i:Nat} {s s':List Int×List Int} (hi:i<l.length) (h:PrI l i s.1 s.2) (hs:jm l i s=some s'):PrI l (i+1) s'.1 s'.2:=by
 unfold jm at hs
 have lt1:∀ k,k<i+1 -> k≠i -> k<i:=fun k h1 h2=>by omega
 have aoP:((i:Nat):Int) ∉ s.2:=fun h1=>by have:=h.small _ h1;omega
 split at hs
 ·rename_i h9
  split at hs
  ·cases hs
  ·rename_i hn
   injection hs with hs;subst hs
   have hmem:∀ k:Nat,((k:Int)∈s.2++[(i:Int)])↔((k:Int)∈s.2 \/ k=i):=fun k=>by
    rw [List.mem_append,List.mem_singleton]
    exact ⟨fun h=>h.imp id (fun h=>by omega),fun h=>h.imp id (fun h=>by omega)⟩
   refine ⟨h.len,?_,?_,?_,?_,?_,?_,?_⟩
   ·rw [List.pairwise_append]
    exact ⟨h.sorted,List.pairwise_singleton _ _,fun a ha b hb=>by rw [List.mem_singleton.1 hb];exact (h.small a ha).2⟩
   ·intro k hk
    rcases List.mem_append.1 hk with hk | hk
    ·have:=h.small k hk;omega
    ·rw [List.mem_singleton.1 hk];omega
   ·intro k hk
    rcases (hmem k).1 hk with hk | rfl
    ·exact h.lock k hk
    ·exact h9
   ·intro k hk1 hk2 hk3
    have hk3:=fun e=>hk3 ((hmem k).2 e)
    obtain ⟨u,h1,h2,h3,h4⟩:=h.closed k (lt1 k hk1 (fun e=>hk3 (.inr e))) hk2 (fun e=>hk3 (.inl e))
    exact ⟨u,h1,h2,by omega,h4⟩
   ·intro k j hkj hj h1 h2 h3
    by_cases e:j=i
    ·subst e
     rcases (hmem k).1 h3 with h3 | e
     ·intro e
      apply hn;right
      unfold LZ
      rw [List.any_eq_true]
      exact ⟨(k:Int),h3,by rw [Px,Px];exact beq_iff_eq.2 e⟩
     ·omega
    ·rcases (hmem k).1 h3 with h3 | e2
     ·exact h.dist k j hkj (lt1 j hj e) h1 h2 h3
     ·omega
   ·intro k j hkj hj h1 h2 h3 h4
    have h3':=fun e=>h3 ((hmem k).2 e)
    obtain ⟨u,g1,g2,g3,_⟩:=h.closed k (by omega) h1 (fun e=>h3' (.inl e))
    have h4':(j:Int)<s.1.getD k 0:=h4
    by_cases e:j=i
    ·subst e;omega
    ·obtain ⟨q1,q2⟩:=h.nest k j hkj (lt1 j hj e) h1 h2 (fun e=>h3' (.inl e)) h4
     exact ⟨fun h5=>((hmem j).1 h5).elim q1 e,q2⟩
   ·rw [GU,GU,if_pos h9,if_neg (by rw [h9];decide),h.cnt]
    simp only [List.length_append,List.length_cons,List.length_nil];omega
 ·rename_i h9
  split at hs
  ·rename_i h10
   split at hs
   ·cases hs
   ·rename_i x hx
    split at hs
    ·cases hs
    ·rename_i hn
     injection hs with hs;subst hs
     obtain ⟨r,hr⟩:∃ r,s.2=r++[x]:=by
      rcases List.eq_nil_or_concat s.2 with e | ⟨r,y,e⟩
      ·rw [e] at hx;cases hx
      ·rw [List.concat_eq_append] at e
       rw [e] at hx
       simp at hx
       subst hx
       exact ⟨r,e⟩
     have hxm:=h.small x (by rw [hr];simp)
     obtain ⟨n,rfl⟩:∃ n:Nat,x=(n:Int):=⟨x.toNat,by omega⟩
     have hsort:=h.sorted
     rw [hr,List.pairwise_append] at hsort
     have hdl:s.2.dropLast=r:=by rw [hr];simp
     have hmem:∀ k:Nat,(k:Int)∈s.2↔((k:Int)∈r \/ k=n):=fun k=>by
      rw [hr,List.mem_append,List.mem_singleton]
      exact ⟨fun h=>h.imp id (fun h=>by omega),fun h=>h.imp id (fun h=>by omega)⟩
     have hnr:(n:Int) ∉ r:=fun e=>by have:=hsort.2.2 _ e (n:Int) (by simp);omega
     have hge:∀ k:Nat,(k:Int)∈r -> k<n:=fun k e=>by have:=hsort.2.2 _ e (n:Int) (by simp);omega
     have hln:=h.lock n ((hmem n).2 (.inr rfl))
     have hA:um l n=um l i:=by
      by_cases e:um l n=um l i
      ·exact e
      ·exact absurd (.inl (by rw [Px];exact e)) hn
     have hget:∀ k:Nat,(s.1.set n (i:Int)).getD k 0=if n=k /\ k<s.1.length then (i:Int) else s.1.getD k 0:=fun k=>oh
     have hlen:=h.len
     have hnl:n<s.1.length:=by omega
     simp only
     rw [hdl,Mf]
     refine ⟨by rw [List.length_set];exact h.len,hsort.1,fun k hk=>by have:=h.small k (by rw [hr];simp [hk]);omega,fun k hk=>h.lock k ((hmem k).2 (.inl hk)),?_,?_,?_,?_⟩
     ·intro k hk1 hk2 hk3
      rw [hget]
      by_cases e:n=k
      ·subst e
       rw [if_pos ⟨rfl,hnl⟩]
       exact ⟨i,rfl,by omega,by omega,h10,hA.symm⟩
      ·rw [if_neg (fun q=>e q.1)]
       have:k≠i:=fun e=>by subst e;exact h9 hk2
       obtain ⟨u,h1,h2,h3,h4⟩:=h.closed k (by omega) hk2 (fun q=>((hmem k).1 q).elim hk3 (fun q=>e q.symm))
       exact ⟨u,h1,h2,by omega,h4⟩
     ·intro k j hkj hj h1 h2 h3
      have:j≠i:=fun e=>by subst e;exact h9 h2
      exact h.dist k j hkj (by omega) h1 h2 ((hmem k).2 (.inl h3))
     ·intro k j hkj hj h1 h2 h3 h4
      have hji:j≠i:=fun e=>by subst e;exact h9 h2
      rw [hget k] at h4
      rw [hget k,hget j]
      by_cases e:n=k
      ·subst e
       rw [if_pos ⟨rfl,hnl⟩] at h4
       rw [if_pos (show n=n /\ n<s.1.length from ⟨rfl,hnl⟩)]
       have hjr:(j:Int) ∉ r:=fun q=>by have:=hge j q;omega
       have hjo:(j:Int) ∉ s.2:=fun q=>((hmem j).1 q).elim hjr (fun q=>by omega)
       obtain ⟨u,g1,g2,g3,_⟩:=h.closed j (by omega) h2 hjo
       rw [if_neg (show ¬ (n=j /\ j<s.1.length) by omega)]
       exact ⟨hjr,by omega,h.dist n j hkj (by omega) h1 h2 ((hmem n).2 (.inr rfl))⟩
      ·rw [if_neg (fun q=>e q.1)] at h4
       rw [if_neg (show ¬ (n=k /\ k<s.1.length) from fun q=>e q.1)]
       have hko:(k:Int) ∉ s.2:=fun q=>((hmem k).1 q).elim h3 (fun q=>e q.symm)
       obtain ⟨q1,q2,q3⟩:=h.nest k j hkj (by omega) h1 h2 hko h4
       have hjn:n≠j:=fun e=>q1 (e ▸ (hmem n).2 (.inr rfl))
       rw [if_neg (show ¬ (n=j /\ j<s.1.length) from fun q=>hjn q.1)]
       exact ⟨fun q=>q1 ((hmem j).2 (.inl q)),q2,q3⟩
     ·rw [GU,GU,if_pos h10,if_neg h9,h.cnt,hr]
      simp only [List.length_append,List.length_cons,List.length_nil];omega
  ·rename_i h10
   injection hs with hs;subst hs
   have ne:∀ j,su l 9 j -> j≠i:=fun j q e=>by subst e;exact h9 q
   refine ⟨h.len,h.sorted,fun k hk=>by have:=h.small k hk;omega,h.lock,?_,?_,?_,?_⟩
   ·intro k hk1 hk2 hk3
    have:=ne k hk2
    obtain ⟨u,h1,h2,h3,h4⟩:=h.closed k (by omega) hk2 hk3
    exact ⟨u,h1,h2,by omega,h4⟩
   ·intro k j hkj hj h1 h2 h3
    have:=ne j h2
    exact h.dist k j hkj (by omega) h1 h2 h3
   ·intro k j hkj hj h1 h2 h3 h4
    have:=ne j h2
    exact h.nest k j hkj (by omega) h1 h2 h3 h4
   ·rw [GU,GU,if_neg h10,if_neg h9,h.cnt];omega
theorem aex {l:List I4}:∀ (m i:Nat) (s s':List Int×List Int),i+m=l.length -> PrI l i s.1 s.2 -> sj l m i s=some s' -> PrI l l.length s'.1 s'.2
 | 0,i,s,s',hm,h,hg=>by
  injection hg with hg;subst hg
  have:i=l.length:=by omega
  subst this;exact h
 | m+1,i,s,s',hm,h,hg=>by
  rw [sj,Option.bind_eq_some_iff] at hg
  obtain ⟨t,h1,h2⟩:=hg
  exact aex m (i+1) t s' (by omega) (DX (by omega) h h1) h2
theorem SA {l:List I4} {ps:List Int} (h:MV l=some ps):PrI l l.length ps [] :=
 aex _ _ _ _ (by omega) ⟨by simp,List.Pairwise.nil,(fun _ h=>by cases h),(fun _ h=>by cases h),fun _ h=>by omega,fun _ _ _ h=>by omega,fun _ _ _ h=>by omega,rfl⟩ (RO h)
theorem aey (n:Int):IntKind.u64.wrap n=n % 18446744073709551616:=by
 unfold IntKind.wrap
 have e1:(2 ^ IntKind.u64.bits:Int)=18446744073709551616:=by decide
 simp only [e1,IntKind.signed,Bool.false_and,Bool.false_eq_true,if_false]
def G7 (l:List I4) (j:Int):List dw -> Int -> Int
 | [],acc=>acc
 | p::r,acc=>G7 l j r (bif p.2.2.2&&ou p j then acc * (rd l p.2.2.1 i0).2.2.2 else acc)
theorem KJ (l:List I4) (j:Int):∀ (a b:List dw) (acc:Int),G7 l j (a++b) acc=G7 l j b (G7 l j a acc)
 | [],_,_=>rfl
 | p::a,b,acc=>by rw [List.cons_append,G7,G7,KJ l j a b]
theorem A8 (l:List I4) (j:Int):∀ (a:List dw) (acc:Int),(∀ p∈a,ou p j=false) -> G7 l j a acc=acc
 | [],_,_=>rfl
 | p::a,acc,h=>by rw [G7,h p List.mem_cons_self,Bool.and_false,cond_false,A8 l j a acc (fun q hq=>h q (List.mem_cons_of_mem _ hq))]
theorem OB (l:List I4) (j:Int):∀ (a:List dw) (acc:Int),1 <= acc -> (∀ p∈a,p.2.2.2=true -> 1 <= (rd l p.2.2.1 i0).2.2.2 /\ (rd l p.2.2.1 i0).2.2.2 <= 20) -> 1 <= G7 l j a acc /\ G7 l j a acc <= acc * 20 ^ dx j a
 | [],acc,h,_=>by rw [G7];simp [dx];exact h
 | p::a,acc,h,hb=>by
  rw [G7,dx,List.countP_cons,<- dx]
  have ih:=fun acc h=>OB l j a acc h (fun q hq=>hb q (List.mem_cons_of_mem _ hq))
  cases e:(p.2.2.2&&ou p j) with
  | false=>simp only [cond_false,Bool.false_eq_true,if_false,Nat.add_zero];exact ih acc h
  | true =>
   rw [Bool.and_eq_true] at e
   have h1:=hb p List.mem_cons_self e.1
   simp only [cond_true,if_true]
   have h2:1 * 1 <= acc * (rd l p.2.2.1 i0).2.2.2:=Int.mul_le_mul h h1.1 (by omega) (by omega)
   obtain ⟨i1,i2⟩:=ih (acc * (rd l p.2.2.1 i0).2.2.2) (by omega)
   refine ⟨i1,Int.le_trans i2 ?_⟩
   rw [Int.pow_succ,Int.mul_comm (20 ^ dx j a) 20,<- Int.mul_assoc]
   refine Int.mul_le_mul_of_nonneg_right ?_ (Int.pow_nonneg (by omega))
   exact Int.mul_le_mul_of_nonneg_left h1.2 (by omega)
def tms (l:List I4):List Int:=(List.range l.length).map (fun (j:Nat)=>G7 l (j:Int) (jw 0 l) 1)
theorem qx (l:List I4):(tms l).length=l.length:=by simp [tms]
theorem SB {l:List I4} {j:Nat} (h:j<l.length):(tms l).getD j 0=G7 l (j:Int) (jw 0 l) 1:=by
 rw [getD_in (by rw [qx];exact h)];simp [tms]
theorem Vp {l:List I4} {ps:List Int} (g:w9 l ps):∀ p∈jw 0 l,p.2.2.2=true -> 1 <= (rd l p.2.2.1 i0).2.2.2 /\ (rd l p.2.2.1 i0).2.2.2 <= 20:=by
 intro p hp hb
 have:=g.len2
 obtain ⟨n,h1,h2,rfl⟩:=(ni l 0 p g.may (by omega)).1 hp
 have h3:=aa1 (g.may _ (iq (z:=i0) h1)) (eq_of_beq hb)
 have:rd l (p8 (0+n) (l.getD n i0)).2.2.1 i0=l.getD n i0:=by rw [Nat.zero_add];exact Px
 rw [this];exact h3.2.2
theorem EM {l:List I4} {ps:List Int} (g:w9 l ps) {j:Nat} (h:j<l.length):1 <= (tms l).getD j 0 /\ (tms l).getD j 0 <= 400:=by
 rw [SB h]
 have h1:=OB l (j:Int) (jw 0 l) 1 (by omega) (Vp g)
 have h2:=g.bodies j h
 refine ⟨h1.1,Int.le_trans h1.2 ?_⟩
 have:dx (j:Int) (jw 0 l)=0 \/ dx (j:Int) (jw 0 l)=1 \/ dx (j:Int) (jw 0 l)=2:=by omega
 rcases this with e | e | e <;> rw [e] <;> decide
theorem OC {k:Nat} {g4:List I4 -> List Int -> List dw -> Int -> Option ((List Int×Unit)×Unit)} {l:List I4} {ps:List Int} (g:w9 l ps) {i:Nat} (hi:i<l.length):∀ (m n j:Nat) (out:List Int),n+m=(jw 0 l).length -> m<j -> out.length=l.length -> 1 <= out.getD i 0 -> out.getD i 0 * 20 ^ dx i ((jw 0 l).drop n) <= 400 ->
  QB k g4 j l out (jw 0 l) (i:Int) n=g4 l (out.set i (G7 l i ((jw 0 l).drop n) (out.getD i 0))) (jw 0 l) ((i+1:Nat):Int)
 | 0,n,j,out,h,hj,ho,h1,h2=>by
  obtain ⟨j',rfl⟩:∃ j',j=j'+1:=⟨j - 1,by omega⟩
  have:=g.len2
  rw [U6,QA,Rk (by omega),drop_nil (by omega),G7,Me (by omega)]
  have:out.set i (out.getD i 0)=out:=by rw [getD_in (by omega)];simp
  rw [this]
 | m+1,n,j,out,h,hj,ho,h1,h2=>by
  obtain ⟨j',rfl⟩:∃ j',j=j'+1:=⟨j - 1,by omega⟩
  have hl2:=g.len2
  have hpl:=AU l 0
  have ih:=OC (k:=k) (g4:=g4) g hi m (n+1) j'
  have hn:n<(jw 0 l).length:=by omega
  have hp:=iq (z:=a0) hn
  have hsh:=xk g.may (by omega) hp
  have hrp:=Vp g _ hp
  rw [drop_cons a0 hn] at h2 ⊢
  rw [U6,QA,Rj (by omega),Pw hn,Px,Me (by omega),G7]
  generalize (jw 0 l).getD n a0=p at hsh hrp h2 ⊢
  rw [dx,List.countP_cons,<- dx] at h2
  cases hb:p.2.2.2 with
  | false =>
   rw [hb] at h2
   simp only [Bool.false_and,Bool.false_eq_true,if_false,Nat.add_zero] at h2
   exact ih out (by omega) (by omega) ho h1 h2
  | true =>
   rw [cond_true,Pw hn,KA,Option.bind_some,Bool.true_and]
   rw [hb,Bool.true_and] at h2
   cases hh:ou p i with
   | false =>
    rw [hh] at h2
    simp only [Bool.false_eq_true,if_false,Nat.add_zero] at h2
    exact ih out (by omega) (by omega) ho h1 h2
   | true =>
    rw [hh] at h2
    simp only [if_true] at h2
    have hr:=hrp hb
    simp only [cond_true]
    rw [Pw (by omega),Pw hn,Lf (by omega) (by omega),Pw (by omega),Px,Mf]
    have hset:(out.set i (out.getD i 0 * (rd l p.2.2.1 i0).2.2.2)).getD i 0=out.getD i 0 * (rd l p.2.2.1 i0).2.2.2:=by rw [oh,if_pos ⟨rfl,by omega⟩]
    have hge:1 * 1 <= out.getD i 0 * (rd l p.2.2.1 i0).2.2.2:=Int.mul_le_mul h1 hr.1 (by omega) (by omega)
    have hle:out.getD i 0 * (rd l p.2.2.1 i0).2.2.2 * 20 ^ dx i ((jw 0 l).drop (n+1)) <= 400:=by
     refine Int.le_trans ?_ h2
     rw [Int.pow_succ,Int.mul_comm (20 ^ dx (i:Int) ((jw 0 l).drop (n+1))) 20,<- Int.mul_assoc]
     refine Int.mul_le_mul_of_nonneg_right ?_ (Int.pow_nonneg (by omega))
     exact Int.mul_le_mul_of_nonneg_left hr.2 (by omega)
    have hsmall:out.getD i 0 * (rd l p.2.2.1 i0).2.2.2 <= 400:=by
     refine Int.le_trans ?_ hle
     have:(1:Int) <= 20 ^ dx (i:Int) ((jw 0 l).drop (n+1)):=(Int.pow_pos (by omega):(0:Int)<20 ^ dx (i:Int) ((jw 0 l).drop (n+1)))
     have:=Int.mul_le_mul_of_nonneg_left this (show 0 <= out.getD i 0 * (rd l p.2.2.1 i0).2.2.2 by omega)
     omega
    rw [Ua (n:=out.getD i 0 * (rd l p.2.2.1 i0).2.2.2) (by omega) (by omega)]
    have:=ih (out.set i (out.getD i 0 * (rd l p.2.2.1 i0).2.2.2)) (by omega) (by omega) (by rw [List.length_set];exact ho) (by rw [hset];omega) (by rw [hset];exact hle)
    rw [hset,List.set_set] at this
    exact this
theorem agy {k:Nat} (hk:1000 <= k) {l:List I4} {ps:List Int} (g:w9 l ps):afe k l=some ((tms l,()),()):=by
 unfold afe
 have hl2:=g.len2
 have hpl:=AU l 0
 rw [Rf (by omega) (by omega),RN hk (by omega),Option.bind_some]
 have:=ah8 (L:=fun j (out:List Int) i=>I9 k j l out (jw 0 l) i) (n:=l.length)
  (fun i out=>out.length=l.length /\ ∀ j,j<i -> out.getD j 0=G7 l (j:Int) (jw 0 l) 1)
  (fun i out=>out.set i (G7 l (i:Int) (jw 0 l) 1)) (fun out=>some ((out,()),()))
  (fun j i out hi hv=>by
   show I9 k (j+1) l out (jw 0 l) (i:Int)=_
   rw [U7,QC,Rj (by omega),Pw (by omega),Mf]
   have hset:(out.set i 1).getD i 0=1:=by rw [oh,if_pos ⟨rfl,by omega⟩]
   have hb:=g.bodies i hi
   refine (OC g hi (jw 0 l).length 0 k (out.set i 1) (by omega) (by omega) (by rw [List.length_set];exact hv.1) (by rw [hset];omega) (by
    rw [hset,List.drop_zero]
    have:dx (i:Int) (jw 0 l)=0 \/ dx (i:Int) (jw 0 l)=1 \/ dx (i:Int) (jw 0 l)=2:=by omega
    rcases this with e | e | e <;> rw [e] <;> decide)).trans ?_
   rw [hset,List.set_set,List.drop_zero])
  (fun i out hi hv=>by
   refine ⟨by rw [List.length_set];exact hv.1,fun j hj=>?_⟩
   rw [oh]
   by_cases e:i=j
   ·subst e;rw [if_pos ⟨rfl,by omega⟩]
   ·rw [if_neg (fun h=>e h.1)];exact hv.2 j (by omega))
  (fun j out hv=>by
   show I9 k (j+1) l out (jw 0 l) (l.length:Int)=_
   rw [U7,QC,Rk (by omega)])
  l.length 0 k (List.replicate l.length 0) (by omega) (by omega) ⟨by simp,fun j hj=>by omega⟩
 refine Eq.trans this ?_
 have hv:=ZW (inv:=fun i (out:List Int)=>out.length=l.length /\ ∀ j,j<i -> out.getD j 0=G7 l (j:Int) (jw 0 l) 1) (f:=fun i out=>out.set i (G7 l (i:Int) (jw 0 l) 1)) (n:=l.length) (fun i out hi hv=>by
   refine ⟨by rw [List.length_set];exact hv.1,fun j hj=>?_⟩
   rw [oh]
   by_cases e:i=j
   ·subst e;rw [if_pos ⟨rfl,by have:=hv.1;omega⟩]
   ·rw [if_neg (fun h=>e h.1)];exact hv.2 j (by omega)) l.length 0 (List.replicate l.length 0) (by omega) ⟨by simp,fun j hj=>by omega⟩
 have:goF (fun i (out:List Int)=>out.set i (G7 l (i:Int) (jw 0 l) 1)) l.length 0 (List.replicate l.length 0)=tms l:=by
  apply List.ext_getElem (by rw [hv.1,qx])
  intro n h1 h2
  rw [<- getD_in (z:=0) h1,<- getD_in (z:=0) h2,SB (by rw [qx] at h2;exact h2),hv.2 n (by rw [qx] at h2;exact h2)]
 rw [this]
def sm:List Int -> Int
 | []=>0
 | x::r=>x+sm r
theorem FU:∀ a b:List Int,sm (a++b)=sm a+sm b
 | [],b=>by simp [sm]
 | x::a,b=>by rw [List.cons_append,sm,sm,FU a b];omega
theorem Vq {c:Int}:∀ (a:List Int),(∀ x∈a,0 <= x /\ x <= c) -> 0 <= sm a /\ sm a <= a.length * c
 | [],_=>by simp [sm]
 | x::a,h=>by
  have h1:=h x List.mem_cons_self
  have h2:=Vq a (fun y hy=>h y (List.mem_cons_of_mem _ hy))
  rw [sm,List.length_cons]
  refine ⟨by omega,?_⟩
  have:((a.length+1:Nat):Int) * c=(a.length:Int) * c+c:=by rw [show ((a.length+1:Nat):Int)=(a.length:Int)+1 by omega,Int.add_mul,Int.one_mul]
  omega
theorem OD:∀ (a:List Int),(∀ x∈a,0 <= x) -> 0 <= sm a
 | [],_=>by simp [sm]
 | x::a,h=>by
  have h1:=h x List.mem_cons_self
  have h2:=OD a (fun y hy=>h y (List.mem_cons_of_mem _ hy))
  rw [sm];omega
def cg (l:List I4) (ts ps:List Int):Nat -> Nat -> Int -> List (Int×Int) -> Int -> Int×List (Int×Int)
 | 0,_,c1,c2,_=>(c1,c2)
 | m+1,i,c1,c2,p =>
  if (l.getD i i0).1=11 \/ (l.getD i i0).1=0 then cg l ts ps m (i+1) (max c1 (p+ts.getD i 0)) c2 0
  else if (l.getD i i0).1=9 then cg l ts ps m (i+1) c1 (c2++[((l.getD i i0).2.1,Int.tdiv (sm (sub ts ((i+1:Nat):Int) (ps.getD i 0+1))) (ts.getD i 0))]) (p+ts.getD i 0)
  else cg l ts ps m (i+1) c1 c2 (p+ts.getD i 0)
def Vr (l:List I4) (ps:List Int):Int×Int×List (Int×Int):=(sm (tms l),cg l (tms l) ps l.length 0 0 [] 0)
theorem aez {xs:List Int} {f i:Nat} (hf:f <= i) (hi:i<xs.length):sub xs (f:Int) ((i+1:Nat):Int)=sub xs (f:Int) (i:Int)++[xs.getD i 0]:=by
 simp only [sub,Int.toNat_natCast]
 have:xs.take (i+1)=xs.take i++[xs.getD i 0]:=by rw [List.take_add_one,getD_in hi,List.getElem?_eq_getElem hi];rfl
 rw [this,List.drop_append_of_le_length (by rw [List.length_take];omega)]
theorem agz {xs:List Int} {a b:Int} {x:Int} (h:x∈sub xs a b):x∈xs:=List.mem_of_mem_take (List.mem_of_mem_drop h)
theorem agA {xs:List Int} {a b:Int}:(sub xs a b).length <= xs.length:=by
 simp only [sub,List.length_drop,List.length_take];omega
theorem aak {l:List I4} {ps:List Int} (g:w9 l ps):∀ x∈tms l,1 <= x /\ x <= 400:=fun x hx=>by
 obtain ⟨j,hj,rfl⟩:=BI 0 hx
 exact EM g (by rw [qx] at hj;exact hj)
theorem M6 {l:List I4} {ps:List Int} (g:w9 l ps) (a b:Int):0 <= sm (sub (tms l) a b) /\ sm (sub (tms l) a b) <= 9600:=by
 have:=Vq (c:=400) (sub (tms l) a b) (fun x hx=>by have:=aak g x (agz hx);omega)
 have h2:(sub (tms l) a b).length <= l.length:=by rw [<- qx l];exact agA
 have h3:=g.len2
 refine ⟨this.1,?_⟩
 have h4:((sub (tms l) a b).length:Int) * 400 <= 24 * 400:=Int.mul_le_mul_of_nonneg_right (by omega) (by omega)
 omega
theorem agB {l:List I4} {ps:List Int} (g:w9 l ps) {i:Nat} (hi:i<l.length) (h9:(l.getD i i0).1=9):∃ u:Nat,ps.getD i 0=(u:Int) /\ i<u /\ u<l.length:=by
 obtain ⟨u,h1,h2,h3,_⟩:=(SA g.pairs).closed i hi h9 (by simp)
 exact ⟨u,h1,h2,h3⟩
theorem SC (l:List Int):sub l ((0:Nat):Int) (l.length:Int)=l:=by simp [sub]
def aib (l:List I4) (c:Option (Int×Int×List (Int×Int))):Option (((Int×Int×List (Int×Int))×Bool×Unit)×Unit):=match c with | some c=>some ((c,true,()),()) | none=>some (((0,0,[]),false,()),())
noncomputable def yc (l:List I4):Option (Int×Int×List (Int×Int)):=if qo l=true then some (Vr l ((MV l).getD [])) else none
theorem DY {l:List I4} {ps:List Int} (g:w9 l ps):yc l=some (Vr l ps):=by
 unfold yc;rw [if_pos (y7.2 ⟨ps,g⟩),g.pairs];rfl
theorem OE {k:Nat} {g8:List I4 -> Int -> Int -> Int -> Int -> List (Int×Int) -> List Int -> List Int -> Int -> Int -> Option (((Int×Int×List (Int×Int))×Bool×Unit)×Unit)} {l:List I4} {ps:List Int} (g:w9 l ps) {y1 y2 c c1 p:Int} {c2:List (Int×Int)} {i u:Nat} (hu:ps.getD i 0=(u:Int)) (hiu:i<u) (hul:u<l.length) (hc:c2.length <= 900):∀ (m n j:Nat) (s:Int),n+m=u+1 -> m<j -> i<n -> s=sm (sub (tms l) ((i+1:Nat):Int) (n:Int)) ->
  QE k g8 j l y1 y2 c c1 c2 (tms l) ps p (i:Int) s (n:Int)=g8 l y1 y2 c c1 (c2++[((l.getD i i0).2.1,Int.tdiv (sm (sub (tms l) ((i+1:Nat):Int) ((u:Int)+1))) ((tms l).getD i 0))]) (tms l) ps p ((i+1:Nat):Int)
 | 0,n,j,s,h,hj,hin,hs=>by
  obtain ⟨j',rfl⟩:∃ j',j=j'+1:=⟨j - 1,by omega⟩
  have hl2:=g.len2
  have hpl:=AX g.pairs
  have htl:=qx l
  have ht:=EM g (j:=i) (by omega)
  have hsb:=M6 g ((i+1:Nat):Int) ((u+1:Nat):Int)
  have hd:0 <= Int.tdiv (sm (sub (tms l) ((i+1:Nat):Int) ((u+1:Nat):Int))) ((tms l).getD i 0) /\ Int.tdiv (sm (sub (tms l) ((i+1:Nat):Int) ((u+1:Nat):Int))) ((tms l).getD i 0) <= 9600:=by
   rw [Int.tdiv_eq_ediv_of_nonneg hsb.1]
   exact ⟨Int.ediv_nonneg hsb.1 (by omega),Int.le_trans (Int.ediv_le_self _ hsb.1) hsb.2⟩
  have hnu:n=u+1:=by omega
  subst hnu
  rw [U8,QD,Pw (by omega),Px,hu,Rk (by omega),Pw (by omega),Pw (by omega),Px,Ri (by omega),hs,Rh (by simp only [List.length_cons,List.length_nil];omega),Ua (by omega) (by omega),Me (by omega),Px]
  rfl
 | m+1,n,j,s,h,hj,hin,hs=>by
  obtain ⟨j',rfl⟩:∃ j',j=j'+1:=⟨j - 1,by omega⟩
  have hl2:=g.len2
  have hpl:=AX g.pairs
  have htl:=qx l
  have ht:=EM g (j:=n) (by omega)
  have hsb:=M6 g ((i+1:Nat):Int) (n:Int)
  rw [U8,QD,Pw (by omega),Px,hu,Rj (by omega),Pw (by omega),Px,Me (by omega),Ua (by omega) (by omega)]
  refine OE g hu hiu hul hc m (n+1) j' _ (by omega) (by omega) (by omega) ?_
  rw [aez (by omega) (by omega),FU,<- hs,sm,sm];omega
theorem Vs {k:Nat} (hk:1000 <= k) {l:List I4} {ps:List Int} (g:w9 l ps) {y1 y2:Int}:∀ (m i j:Nat) (c c1 p:Int) (c2:List (Int×Int)),i+m=l.length -> m<j -> c2.length <= i -> 0 <= c -> c+sm ((tms l).drop i) <= 1000000 -> 0 <= p -> p+sm ((tms l).drop i) <= 1000000 ->
  U9 k j l y1 y2 c c1 c2 (tms l) ps p (i:Int)=some (((c+sm ((tms l).drop i),cg l (tms l) ps m i c1 c2 p),true,()),())
 | 0,i,j,c,c1,p,c2,h,hj,hc,_,_,_,_=>by
  obtain ⟨j',rfl⟩:∃ j',j=j'+1:=⟨j - 1,by omega⟩
  have htl:=qx l
  rw [XI,XH,Rk (by omega),cg,drop_nil (by omega),sm,Int.add_zero]
 | m+1,i,j,c,c1,p,c2,h,hj,hc,b1,b2,b3,b4=>by
  obtain ⟨j',rfl⟩:∃ j',j=j'+1:=⟨j - 1,by omega⟩
  have hl2:=g.len2
  have htl:=qx l
  have hpl:=AX g.pairs
  have hi:i<l.length:=by omega
  have ht:=EM g hi
  have ih:=Vs hk g (y1:=y1) (y2:=y2) m (i+1) j'
  have hr:=OD ((tms l).drop (i+1)) (fun x hx=>by have:=aak g x (List.mem_of_mem_drop hx);omega)
  rw [drop_cons 0 (show i<(tms l).length by omega),sm] at b2 b4
  rw [XI,XH,Rj (by omega),Pw (by omega),Pw (by omega),Pw hi,Px,Pw hi,Px,Ua (by omega) (by omega),Ua (by omega) (by omega),cg,drop_cons 0 (show i<(tms l).length by omega),sm,Rm]
  unfold KV
  rw [Pw hi,Pw hi,Px,Me (by omega)]
  have fin:∀ (c1' p':Int) (c2':List (Int×Int)),c2'.length <= i+1 -> 0 <= p' -> p'+sm ((tms l).drop (i+1)) <= 1000000 -> U9 k j' l y1 y2 (c+(tms l).getD i 0) c1' c2' (tms l) ps p' ((i+1:Nat):Int)=some (((c+((tms l).getD i 0+sm ((tms l).drop (i+1))),cg l (tms l) ps m (i+1) c1' c2' p'),true,()),()):=fun c1' p' c2' h1 h2 h3=>by
   rw [ih _ _ _ _ (by omega) (by omega) h1 (by omega) (by omega) h2 h3]
   congr 4;omega
  cases h11:(l.getD i i0).1==11 with
  | true =>
   have e:=eq_of_beq h11
   rw [cond_true,if_pos (.inl e),show ((l.getD i i0).1==9)=false by rw [e];rfl,cond_false]
   exact fin _ _ _ (by omega) (by omega) (by omega)
  | false =>
   rw [cond_false]
   have e11:(l.getD i i0).1≠11:=by intro e;rw [e] at h11;cases h11
   cases h00:(l.getD i i0).1==0 with
   | true =>
    have e:=eq_of_beq h00
    rw [cond_true,if_pos (.inr e),show ((l.getD i i0).1==9)=false by rw [e];rfl,cond_false]
    exact fin _ _ _ (by omega) (by omega) (by omega)
   | false =>
    rw [cond_false]
    have e00:(l.getD i i0).1≠0:=by intro e;rw [e] at h00;cases h00
    rw [if_neg (by rintro (h | h);exact e11 h;exact e00 h)]
    cases h9:(l.getD i i0).1==9 with
    | true =>
     have e:=eq_of_beq h9
     obtain ⟨u,h1,h2,h3⟩:=agB g hi e
     rw [if_pos e,cond_true,h1]
     refine (OE g h1 h2 h3 (by omega) (u - i) (i+1) k 0 (by omega) (by omega) (by omega) (by simp [sub,sm])).trans ?_
     exact fin _ _ _ (by simp only [List.length_append,List.length_cons,List.length_nil];omega) (by omega) (by omega)
    | false =>
     have e9:(l.getD i i0).1≠9:=by intro e;rw [e] at h9;cases h9
     rw [cond_false,if_neg e9]
     exact fin _ _ _ (by omega) (by omega) (by omega)
theorem M7 {k:Nat} (hk:1000 <= k) {l:List I4} (hl:l.length <= 900):S70 k l=aib l (yc l):=by
 unfold S70
 rw [agv hk hl,Option.bind_some,agw]
 cases hm:qo l with
 | false =>
  have:yc l=none:=by unfold yc;rw [hm];rfl
  rw [this];rfl
 | true =>
  obtain ⟨ps,g⟩:=y7.1 hm
  have hl2:=g.len2
  simp only [Bool.not_true,cond_false]
  rw [agy hk g,Option.bind_some,aaf hk hl,g.pairs]
  simp only [aad,Option.bind_some]
  rw [DY g]
  have hs:=M6 g ((0:Nat):Int) ((tms l).length:Int)
  rw [SC] at hs
  have:=Vs hk g (y1:=0) (y2:=0) l.length 0 k 0 0 0 [] (by omega) (by omega) (by simp) (by omega) (by rw [List.drop_zero];omega) (by omega) (by rw [List.drop_zero];omega)
  rw [Int.zero_add,List.drop_zero] at this
  exact this
theorem SE {l:List I4} {ts ps:List Int}:∀ (m i:Nat) (c1 p:Int) (c2:List (Int×Int)),(cg l ts ps m i c1 c2 p).2.length <= c2.length+m
 | 0,_,_,_,c2=>by simp [cg]
 | m+1,i,c1,p,c2=>by
  rw [cg]
  split
  ·have:=SE (l:=l) (ts:=ts) (ps:=ps) m (i+1) (max c1 (p+ts.getD i 0)) 0 c2;omega
  ·split
   ·have:=SE (l:=l) (ts:=ts) (ps:=ps) m (i+1) c1 (p+ts.getD i 0) (c2++[((l.getD i i0).2.1,Int.tdiv (sm (sub ts ((i+1:Nat):Int) (ps.getD i 0+1))) (ts.getD i 0))])
    simp only [List.length_append,List.length_cons,List.length_nil] at this;omega
   ·have:=SE (l:=l) (ts:=ts) (ps:=ps) m (i+1) c1 (p+ts.getD i 0) c2;omega
theorem WX {l:List I4} {c:Int×Int×List (Int×Int)} (h:yc l=some c):c.2.2.length <= 24:=by
 unfold yc at h
 split at h
 ·rename_i hm
  injection h with h;subst h
  obtain ⟨ps,g⟩:=y7.1 hm
  have h1:=g.len2
  have h2:=SE (l:=l) (ts:=tms l) (ps:=(MV l).getD []) l.length 0 0 0 []
  simp only [Vr]
  simp only [List.length_nil] at h2
  omega
 ·cases h
def y9 (x:I4):Int:=if x.1=8 then x.2.2.2 else 1
theorem EN {x:I4} (h:ji x=true):1 <= y9 x /\ y9 x <= 20:=by
 unfold y9
 split
 ·rename_i e;exact (aa1 h e).2.2
 ·omega
namespace Tr
def cost:Tr -> Int
 | .nil=>0
 | .one _ r=>1+cost r
 | .lk _ b r=>2+cost b+cost r
 | .ar x b r=>1+y9 x * cost b+cost r
def ts:Int -> Tr -> List Int
 | _,.nil=>[]
 | M,.one _ r=>M::ts M r
 | M,.lk _ b r=>M::(ts M b++(M::ts M r))
 | M,.ar x b r=>M::(ts (M * y9 x) b++ts M r)
def spans:Tr -> List (Int×Int)
 | .nil=>[]
 | .one _ r=>spans r
 | .lk a b r=>(a,cost b+1)::(spans b++spans r)
 | .ar _ b r=>spans b++spans r
def piece:Int -> Tr -> Int×Int -> Int×Int
 | _,.nil,s=>s
 | M,.one x r,s=>piece M r (if x.1=11 then (max s.1 (s.2+M),0) else (s.1,s.2+M))
 | M,.lk _ b r,s=>piece M r ((piece M b (s.1,s.2+M)).1,(piece M b (s.1,s.2+M)).2+M)
 | M,.ar x b r,s=>piece M r (piece (M * y9 x) b (s.1,s.2+M))
end Tr
theorem p9:∀ (t:Tr) (M:Int),(t.ts M).length=t.len
 | .nil,_=>rfl
 | .one _ r,M=>by simp only [Tr.ts,Tr.len,List.length_cons,p9 r]
 | .lk _ b r,M=>by simp only [Tr.ts,Tr.len,List.length_cons,List.length_append,p9 b,p9 r];omega
 | .ar _ b r,M=>by simp only [Tr.ts,Tr.len,List.length_cons,List.length_append,p9 b,p9 r]
theorem DZ:∀ (t:Tr) (M:Int),sm (t.ts M)=M * t.cost
 | .nil,M=>by simp [Tr.ts,Tr.cost,sm]
 | .one _ r,M=>by simp only [Tr.ts,Tr.cost,sm,DZ r M];grind
 | .lk _ b r,M=>by simp only [Tr.ts,Tr.cost,sm,FU,DZ b M,DZ r M];grind
 | .ar x b r,M=>by simp only [Tr.ts,Tr.cost,sm,FU,DZ b,DZ r M];grind
theorem jh:∀ {t:Tr} {d:Nat} {hs:List Int} {ia:Bool},Ok d hs ia t -> 0 <= t.cost
 | .nil,_,_,_,_=>by simp [Tr.cost]
 | .one x r,_,_,_,⟨_,_,_,h4⟩=>by have:=jh h4;simp only [Tr.cost];omega
 | .lk a b r,_,_,_,⟨_,_,h3,h4⟩=>by have:=jh h3;have:=jh h4;simp only [Tr.cost];omega
 | .ar x b r,_,_,_,⟨h1,_,h3,h4⟩=>by
  have h5:=jh h3;have:=jh h4
  have:=Int.mul_nonneg (show 0 <= y9 x by have:=EN h1.1;omega) h5
  simp only [Tr.cost];omega
theorem BL:∀ {t:Tr} {d:Nat} {hs:List Int} {ia:Bool} {l:List I4} {o:Nat} (M:Int),Ok d hs ia t -> At l o t.flat -> o+t.len <= 9000 -> ∀ j,j<t.len -> G7 l ((o+j:Nat):Int) (jw o t.flat) M=(t.ts M).getD j 0
 | .nil,_,_,_,_,_,_,_,_,_,j,hj=>by simp only [Tr.len] at hj;omega
 | .one x r,_,_,_,l,o,M,⟨h1,h2,_,h4⟩,ha,ho,j,hj=>by
  simp only [Tr.len] at hj ho
  obtain ⟨a1,a2,a3⟩:=kr ha
  rw [KE h1 h2 (by omega),Tr.ts]
  cases j with
  | zero =>
   rw [List.getD_cons_zero,A8]
   intro p hp
   have:=o8 h4 (by omega) p hp
   rw [<- Bool.not_eq_true,oz];omega
  | succ j =>
   rw [List.getD_cons_succ,<- BL M h4 a3 (by omega) j (by omega)]
   congr 2;omega
 | .lk a b r,_,_,_,l,o,M,⟨h1,_,h3,h4⟩,ha,ho,j,hj=>by
  simp only [Tr.len] at hj ho
  obtain ⟨a1,a2,a3⟩:=kr ha
  obtain ⟨a4,a5⟩:=xu a3
  obtain ⟨a6,a7,a8⟩:=kr a5
  rw [iw] at a6 a7 a8
  rw [show o+1+b.len+1=o+b.len+2 by omega] at a8
  have nb:∀ k:Nat,k <= o \/ o+b.len+1 <= k -> ∀ M',G7 l (k:Int) (jw (o+1) b.flat) M'=M':=fun k hk M'=>A8 l _ _ _ (fun p hp=>by
   have:=o8 h3 (by omega) p hp
   rw [<- Bool.not_eq_true,oz];omega)
  have nr:∀ k:Nat,k <= o+b.len+2 -> ∀ M',G7 l (k:Int) (jw (o+b.len+2) r.flat) M'=M':=fun k hk M'=>A8 l _ _ _ (fun p hp=>by
   have:=o8 h4 (by omega) p hp
   rw [<- Bool.not_eq_true,oz];omega)
  rw [RU h1 (by omega),KJ,Tr.ts]
  cases j with
  | zero=>rw [List.getD_cons_zero,nb _ (by omega),nr _ (by omega)]
  | succ j =>
   rw [List.getD_cons_succ]
   by_cases e:j<b.len
   ·rw [mh (by rw [p9];exact e),nr _ (by omega),<- BL M h3 a4 (by omega) j e]
    congr 2;omega
   ·rw [j6 (by rw [p9];omega),p9,nb _ (by omega)]
    by_cases e2:j=b.len
    ·subst e2;rw [Nat.sub_self,List.getD_cons_zero,nr _ (by omega)]
    ·obtain ⟨n,hn⟩:∃ n,j - b.len=n+1:=⟨j - b.len - 1,by omega⟩
     rw [hn,List.getD_cons_succ,<- BL M h4 a8 (by omega) n (by omega)]
     congr 2;omega
 | .ar x b r,_,_,_,l,o,M,⟨⟨h1,h2,h3⟩,_,h5,h6⟩,ha,ho,j,hj=>by
  simp only [Tr.len] at hj ho
  obtain ⟨a1,a2,a3⟩:=kr ha
  obtain ⟨a4,a5⟩:=xu a3
  rw [iw,show o+1+b.len=o+b.len+1 by omega] at a5
  have nb:∀ k:Nat,k <= o \/ o+b.len+1 <= k -> ∀ M',G7 l (k:Int) (jw (o+1) b.flat) M'=M':=fun k hk M'=>A8 l _ _ _ (fun p hp=>by
   have:=o8 h5 (by omega) p hp
   rw [<- Bool.not_eq_true,oz];omega)
  have nr:∀ k:Nat,k <= o+b.len+1 -> ∀ M',G7 l (k:Int) (jw (o+b.len+1) r.flat) M'=M':=fun k hk M'=>A8 l _ _ _ (fun p hp=>by
   have:=o8 h6 (by omega) p hp
   rw [<- Bool.not_eq_true,oz];omega)
  have hd:∀ k:Nat,G7 l (k:Int) [p8 o x] M=if o<k /\ k <= o+b.len then M * y9 x else M:=fun k=>by
   rw [G7,G7]
   have e4:(p8 o x).2.2.1=(o:Int):=rfl
   have e5:(p8 o x).2.2.2=(x.1==8):=rfl
   rw [e4,Px,a2,e5]
   unfold y9
   by_cases h8:x.1=8
   ·rw [if_pos h8,show (x.1==8)=true by rw [h8];rfl,Bool.true_and]
    by_cases e:o<k /\ k <= o+b.len
    ·rw [if_pos e,show ou (p8 o x) (k:Int)=true by rw [oz];simp only [p8];omega];rfl
    ·rw [if_neg e,show ou (p8 o x) (k:Int)=false by rw [<- Bool.not_eq_true,oz];simp only [p8];omega];rfl
   ·rw [if_neg h8,show (x.1==8)=false by simpa using h8,Bool.false_and,Int.mul_one];simp
  rw [RV h1 h2 (by omega),show ∀ a:dw,∀ l,a::l=[a]++l from fun _ _=>rfl,KJ,KJ,hd,Tr.ts]
  cases j with
  | zero=>rw [List.getD_cons_zero,if_neg (by omega),nb _ (by omega),nr _ (by omega)]
  | succ j =>
   rw [List.getD_cons_succ]
   by_cases e:j<b.len
   ·rw [mh (by rw [p9];exact e),if_pos (by omega),nr _ (by omega),<- BL _ h5 a4 (by omega) j e]
    congr 2;omega
   ·rw [j6 (by rw [p9];omega),p9,if_neg (by omega),nb _ (by omega),<- BL M h6 a5 (by omega) (j - b.len) (by omega)]
    congr 2;omega
theorem Vt {t:Tr} (h:Ok 0 [] false t) (hl:t.len<24):tms t.prog=t.ts 1++[1]:=by
 have hpl:=vo t
 apply List.ext_getElem (by rw [qx,List.length_append,p9];simp;omega)
 intro n h1 h2
 rw [qx] at h1
 rw [<- getD_in (z:=0) (by rw [qx];exact h1),<- getD_in (z:=0) h2,SB h1,Vm (by omega)]
 by_cases e:n<t.len
 ·rw [mh (by rw [p9];exact e),<- BL (o:=0) 1 h (EK t) (by omega) n e,Nat.zero_add]
 ·have:n=t.len:=by omega
  subst this
  rw [j6 (by rw [p9];omega),p9,Nat.sub_self]
  exact A8 _ _ _ _ (fun p hp=>by
   have:=o8 (o:=0) h (by omega) p hp
   rw [<- Bool.not_eq_true,oz];omega)
def SF (ps:List Int):Tr -> Nat -> Prop
 | .nil,_=>True
 | .one _ r,o=>SF ps r (o+1)
 | .lk _ b r,o=>ps.getD o 0=((o+b.len+1:Nat):Int) /\ SF ps b (o+1) /\ SF ps r (o+b.len+2)
 | .ar _ b r,o=>SF ps b (o+1) /\ SF ps r (o+b.len+1)
theorem uh {ps qs:List Int}:∀ (t:Tr) (o:Nat),(∀ k,o <= k -> k<o+t.len -> ps.getD k 0=qs.getD k 0) -> SF ps t o -> SF qs t o
 | .nil,_,_,_=>trivial
 | .one _ r,o,h,hp=>uh r (o+1) (fun k h1 h2=>h k (by omega) (by simp only [Tr.len];omega)) hp
 | .lk _ b r,o,h,⟨h1,h2,h3⟩=>⟨by rw [<- h o (by omega) (by simp only [Tr.len];omega)];exact h1,uh b (o+1) (fun k g1 g2=>h k (by omega) (by simp only [Tr.len];omega)) h2,uh r (o+b.len+2) (fun k g1 g2=>h k (by omega) (by simp only [Tr.len];omega)) h3⟩
 | .ar _ b r,o,h,⟨h2,h3⟩=>⟨uh b (o+1) (fun k g1 g2=>h k (by omega) (by simp only [Tr.len];omega)) h2,uh r (o+b.len+1) (fun k g1 g2=>h k (by omega) (by simp only [Tr.len];omega)) h3⟩
theorem BM:∀ (t:Tr) (o:Nat) (out:List Int),o+t.len <= out.length -> SF (D7 t o out) t o
 | .nil,_,_,_=>trivial
 | .one _ r,o,out,h=>BM r (o+1) out (by simp only [Tr.len] at h;omega)
 | .lk a b r,o,out,h=>by
  simp only [Tr.len] at h
  rw [D7]
  have hb:=CB b (o+1) out
  refine ⟨?_,?_,BM r _ _ (by rw [List.length_set];omega)⟩
  ·rw [vk r _ _ o (by omega),oh,if_pos ⟨rfl,by omega⟩]
  ·refine uh b (o+1) (fun k h1 h2=>?_) (BM b (o+1) out (by omega))
   rw [vk r _ _ k (by omega),oh,if_neg (by omega)]
 | .ar x b r,o,out,h=>by
  simp only [Tr.len] at h
  rw [D7]
  have hb:=CB b (o+1) out
  refine ⟨?_,BM r _ _ (by omega)⟩
  refine uh b (o+1) (fun k h1 h2=>?_) (BM b (o+1) out (by omega))
  rw [vk r _ _ k (by omega)]
def AtI (l:List Int) (o:Nat) (w:List Int):Prop:=o+w.length <= l.length /\ ∀ j,j<w.length -> l.getD (o+j) 0=w.getD j 0
theorem GV {l:List Int} {o:Nat} {x:Int} {w:List Int} (h:AtI l o (x::w)):o<l.length /\ l.getD o 0=x /\ AtI l (o+1) w:=by
 obtain ⟨h1,h2⟩:=h
 simp only [List.length_cons] at h1 h2
 refine ⟨by omega,by simpa using h2 0 (by omega),by omega,fun j hj=>?_⟩
 have:=h2 (j+1) (by omega)
 rw [List.getD_cons_succ] at this
 rw [<- this];congr 1;omega
theorem aal {l:List Int} {o:Nat} {u w:List Int} (h:AtI l o (u++w)):AtI l o u /\ AtI l (o+u.length) w:=by
 obtain ⟨h1,h2⟩:=h
 simp only [List.length_append] at h1 h2
 refine ⟨⟨by omega,fun j hj=>?_⟩,by omega,fun j hj=>?_⟩
 ·rw [h2 j (by omega),mh hj]
 ·rw [show o+u.length+j=o+(u.length+j) by omega,h2 _ (by omega),j6 (by omega)]
  congr 1;omega
theorem agD {l w:List Int} {o:Nat} (h:AtI l o w):sub l (o:Int) ((o+w.length:Nat):Int)=w:=by
 obtain ⟨h1,h2⟩:=h
 simp only [sub,Int.toNat_natCast]
 apply List.ext_getElem (by rw [List.length_drop,List.length_take];omega)
 intro n g1 g2
 rw [List.getElem_drop,List.getElem_take]
 have:=h2 n g2
 rw [getD_in (by omega),getD_in g2] at this
 exact this
theorem CJ:∀ {t:Tr} {d:Nat} {hs:List Int} {ia:Bool} {l:List I4} {ts ps:List Int} {o:Nat} {M:Int} (m:Nat) (c1 p:Int) (c2:List (Int×Int)),Ok d hs ia t -> At l o t.flat -> AtI ts o (t.ts M) -> SF ps t o -> 1 <= M ->
  cg l ts ps (t.len+m) o c1 c2 p=cg l ts ps m (o+t.len) (t.piece M (c1,p)).1 (c2++t.spans) (t.piece M (c1,p)).2
 | .nil,_,_,_,_,_,_,_,_,m,c1,p,c2,_,_,_,_,_=>by simp only [Tr.len,Nat.zero_add,Nat.add_zero,Tr.piece,Tr.spans,List.append_nil]
 | .one x r,_,_,_,l,ts,ps,o,M,m,c1,p,c2,⟨h1,h2,_,h4⟩,ha,ht,hp,hM=>by
  simp only [Tr.len,Tr.ts] at ht ⊢
  obtain ⟨a1,a2,a3⟩:=kr ha
  obtain ⟨t1,t2,t3⟩:=GV ht
  rw [show r.len+1+m=(r.len+m)+1 by omega,cg,a2,t2,Tr.spans,Tr.piece]
  by_cases e:x.1=11
  ·rw [if_pos (.inl e),if_pos e,CJ m _ _ _ h4 a3 t3 hp hM]
   congr 1;omega
  ·rw [if_neg (by rintro (q | q);exact e q;exact h2.1 q),if_neg h2.2.2.2.1,if_neg e,CJ m _ _ _ h4 a3 t3 hp hM]
   congr 1;omega
 | .lk a b r,_,_,_,l,ts,ps,o,M,m,c1,p,c2,⟨h1,_,h3,h4⟩,ha,ht,⟨p1,p2,p3⟩,hM=>by
  simp only [Tr.len,Tr.ts] at ht ⊢
  obtain ⟨a1,a2,a3⟩:=kr ha
  obtain ⟨a4,a5⟩:=xu a3
  obtain ⟨a6,a7,a8⟩:=kr a5
  obtain ⟨t1,t2,t3⟩:=GV ht
  obtain ⟨t4,t5⟩:=aal t3
  obtain ⟨t6,t7,t8⟩:=GV t5
  rw [iw] at a6 a7 a8
  rw [p9] at t6 t7 t8
  have hsub:sub ts ((o+1:Nat):Int) (ps.getD o 0+1)=b.ts M++[M]:=by
   have:AtI ts (o+1) (b.ts M++[M]):=by
    obtain ⟨q1,q2⟩:=t3
    refine ⟨by simp only [List.length_append,List.length_cons,List.length_nil] at q1 ⊢;omega,fun j hj=>?_⟩
    simp only [List.length_append,List.length_cons,List.length_nil] at hj
    rw [q2 j (by simp only [List.length_append,List.length_cons];omega)]
    by_cases e:j<(b.ts M).length
    ·rw [mh e,mh e]
    ·rw [j6 (by omega),j6 (by omega),show j - (b.ts M).length=0 by omega];rfl
   have h:=agD this
   rw [List.length_append,p9] at h
   rw [p1,<- h]
   congr 1
   simp only [List.length_cons,List.length_nil];omega
  have hc:=jh h3
  have hdiv:Int.tdiv (M * b.cost+M) M=b.cost+1:=by
   rw [show M * b.cost+M=M * (b.cost+1) by grind,Int.mul_tdiv_cancel_left _ (by omega)]
  rw [show b.len+r.len+2+m=(b.len+(r.len+m+1))+1 by omega,cg,a2,t2,if_neg (by simp),if_pos rfl,hsub,FU,DZ,sm,sm,Int.add_zero,hdiv]
  rw [CJ (r.len+m+1) _ _ _ h3 a4 t4 p2 hM,cg,a7,t7,if_neg (by simp),if_neg (by simp)]
  rw [show o+1+b.len+1=o+b.len+2 by omega] at a8 t8 ⊢
  rw [CJ m _ _ _ h4 a8 t8 p3 hM,Tr.spans,Tr.piece]
  congr 1
  ·omega
  ·simp only [List.append_assoc,List.cons_append,List.nil_append]
 | .ar x b r,_,_,_,l,ts,ps,o,M,m,c1,p,c2,⟨⟨h1,h2,h3⟩,_,h5,h6⟩,ha,ht,⟨p2,p3⟩,hM=>by
  simp only [Tr.len,Tr.ts] at ht ⊢
  obtain ⟨a1,a2,a3⟩:=kr ha
  obtain ⟨a4,a5⟩:=xu a3
  obtain ⟨t1,t2,t3⟩:=GV ht
  obtain ⟨t4,t5⟩:=aal t3
  rw [iw,show o+1+b.len=o+b.len+1 by omega] at a5
  rw [p9,show o+1+b.len=o+b.len+1 by omega] at t5
  have e11:¬ (x.1=11 \/ x.1=0):=by rintro (e | e) <;> simp [isA,e] at h2
  have e9:x.1≠9:=by intro e;simp [isA,e] at h2
  have hM2:1 * 1 <= M * y9 x:=Int.mul_le_mul hM (EN h1).1 (by omega) (by omega)
  rw [show b.len+r.len+1+m=(b.len+(r.len+m))+1 by omega,cg,a2,t2,if_neg e11,if_neg e9,CJ (r.len+m) _ _ _ h5 a4 t4 p2 (by omega)]
  rw [show o+1+b.len=o+b.len+1 by omega,CJ m _ _ _ h6 a5 t5 p3 hM,Tr.spans,Tr.piece]
  congr 1
  ·omega
  ·rw [List.append_assoc]
theorem aa3 {t:Tr} (h:Ok 0 [] false t) (hl:t.len<24):yc t.prog=some (t.cost+1,max (t.piece 1 (0,0)).1 ((t.piece 1 (0,0)).2+1),t.spans):=by
 have g:=O9 h hl
 have ht:=Vt h hl
 rw [DY g]
 unfold Vr
 have hA:AtI (tms t.prog) 0 (t.ts 1):=by
  rw [ht]
  exact ⟨by rw [List.length_append];omega,fun j hj=>by rw [Nat.zero_add,mh hj]⟩
 have h1:=CJ (ts:=tms t.prog) (ps:=D7 t 0 (List.replicate (t.len+1) 0)) (o:=0) (M:=1) 1 0 0 [] h (EK t) hA (BM t 0 _ (by simp)) (by omega)
 rw [vo,h1,Nat.zero_add,cg,BJ,if_pos (.inr rfl),cg,List.nil_append]
 have h2:sm (tms t.prog)=t.cost+1:=by rw [ht,FU,DZ,sm,sm];omega
 have h3:(tms t.prog).getD t.len 0=1:=by
  rw [ht,j6 (by rw [p9];omega),p9,Nat.sub_self];rfl
 rw [h2,h3]
theorem qp:∀ {t:Tr} {d:Nat} {hs:List Int} {ia:Bool} (M:Int) (s:Int×Int),Ok d hs ia t -> 1 <= M -> 0 <= s.1 -> 0 <= s.2 -> 0 <= (t.piece M s).1 /\ 0 <= (t.piece M s).2 /\ (t.piece M s).1 <= max s.1 (s.2+M * t.cost) /\ (t.piece M s).2 <= s.2+M * t.cost
 | .nil,_,_,_,M,s,_,_,h1,h2=>by simp only [Tr.piece,Tr.cost,Int.mul_zero];omega
 | .one x r,_,_,_,M,s,⟨_,_,_,h4⟩,hM,h1,h2=>by
  have hc:=Int.mul_nonneg (show 0 <= M by omega) (jh h4)
  rw [Tr.piece,Tr.cost,Int.mul_add,Int.mul_one]
  split
  ·have:=qp (t:=r) M (max s.1 (s.2+M),0) h4 hM (by simp only;omega) (by simp only;omega)
   simp only at this
   omega
  ·have:=qp (t:=r) M (s.1,s.2+M) h4 hM h1 (by simp only;omega)
   simp only at this
   omega
 | .lk a b r,_,_,_,M,s,⟨_,_,h3,h4⟩,hM,h1,h2=>by
  have hc:=Int.mul_nonneg (show 0 <= M by omega) (jh h4)
  have hcb:=Int.mul_nonneg (show 0 <= M by omega) (jh h3)
  rw [Tr.piece,Tr.cost,show M * (2+b.cost+r.cost)=M+M+M * b.cost+M * r.cost by grind]
  have q:=qp (t:=b) M (s.1,s.2+M) h3 hM h1 (by simp only;omega)
  simp only at q
  have:=qp (t:=r) M ((b.piece M (s.1,s.2+M)).1,(b.piece M (s.1,s.2+M)).2+M) h4 hM q.1 (by simp only;omega)
  simp only at this
  omega
 | .ar x b r,_,_,_,M,s,⟨hx,_,h3,h4⟩,hM,h1,h2=>by
  have hr:=EN hx.1
  have hM2:1 * 1 <= M * y9 x:=Int.mul_le_mul hM hr.1 (by omega) (by omega)
  have hc:=Int.mul_nonneg (show 0 <= M by omega) (jh h4)
  have hcb:=Int.mul_nonneg (show 0 <= M * y9 x by omega) (jh h3)
  rw [Tr.piece,Tr.cost,show M * (1+y9 x * b.cost+r.cost)=M+M * y9 x * b.cost+M * r.cost by grind]
  have q:=qp (t:=b) (M * y9 x) (s.1,s.2+M) h3 (by omega) h1 (by simp only;omega)
  simp only at q
  have:=qp (t:=r) M (b.piece (M * y9 x) (s.1,s.2+M)) h4 hM q.1 q.2.1
  omega
theorem WY {t:Tr} (h:Ok 0 [] false t) (hl:t.len<24):0 <= t.cost /\ t.cost+1 <= 9600:=by
 have g:=O9 h hl
 have hs:=M6 g ((0:Nat):Int) ((tms t.prog).length:Int)
 rw [SC,Vt h hl,FU,DZ,sm,sm] at hs
 have:=jh h
 omega
def JU (v:Int):Prop:=-9223372036854775808 <= v /\ v <= 9223372036854775807
theorem CK (v:Int):JU (IntKind.i64.wrap v):=by
 unfold IntKind.wrap JU
 have e1:(2 ^ IntKind.i64.bits:Int)=18446744073709551616:=by decide
 have e2:(2 ^ (IntKind.i64.bits - 1):Int)=9223372036854775808:=by decide
 simp only [e1,e2,IntKind.signed,Bool.true_and,decide_eq_true_eq]
 split <;> omega
theorem M8 (v:Int):∃ q:Int,IntKind.i64.wrap v=v+q * 18446744073709551616:=by
 unfold IntKind.wrap
 have e1:(2 ^ IntKind.i64.bits:Int)=18446744073709551616:=by decide
 have e2:(2 ^ (IntKind.i64.bits - 1):Int)=9223372036854775808:=by decide
 simp only [e1,e2,IntKind.signed,Bool.true_and,decide_eq_true_eq]
 split
 ·exact ⟨-(v / 18446744073709551616) - 1,by omega⟩
 ·exact ⟨-(v / 18446744073709551616),by omega⟩
theorem agE {v u:Int} (h:JU u) (q:Int) (e:u=v+q * 18446744073709551616):IntKind.i64.wrap v=u:=by
 obtain ⟨q2,h2⟩:=M8 v
 have:=CK v
 unfold JU at *
 omega
def M9 (v n:Int):Int:=if n=0 then v else if 0<n then IntKind.i64.wrap (v * 2 ^ n.toNat) else v.fdiv (2 ^ (-n).toNat)
def GX (v n:Int):Int:=if (v % 2 ^ n.toNat) * 2≥2 ^ n.toNat then v % 2 ^ n.toNat - 2 ^ n.toNat else v % 2 ^ n.toNat
theorem OG {n:Nat} (h:1 <= n):(2:Int) ^ n=2 * 2 ^ (n - 1):=by
 obtain ⟨m,rfl⟩:∃ m,n=m+1:=⟨n - 1,by omega⟩
 rw [Int.pow_succ,Nat.add_sub_cancel];omega
theorem aeA {n:Nat} (h:n <= 64):(18446744073709551616:Int)=2 ^ n * 2 ^ (64 - n):=by
 rw [<- Int.pow_add,show n+(64 - n)=64 by omega];decide
abbrev dz:Type:=Int×Int×Int
abbrev Mem:Type:=PN Int 8
abbrev d9:Type:=Int×Mem×List dz×Bool
def mg (mem:Mem) (a:Int):Int:=Tv (α:=Int) 8 mem a 0
def inM (mem:Mem):Prop:=∀ x∈Gr 8 mem,JU x
theorem aic {mem:Mem} (h:inM mem) (a:Int):JU (mg mem a):=by
 unfold mg Tv
 by_cases e:a.toNat<(Gr 8 mem).length
 ·exact h _ (iq e)
 ·rw [LW (by omega)];unfold JU;omega
theorem EO {mem:Mem} (h:inM mem) {a v:Int} (ha:0 <= a) (hv:JU v):inM (Tw (α:=Int) 8 mem a v):=by
 obtain ⟨n,rfl⟩:∃ n:Nat,a=(n:Int):=⟨a.toNat,by omega⟩
 intro x hx
 rw [aaZ] at hx
 rcases List.mem_or_eq_of_mem_set hx with h1 | h1
 ·exact h x h1
 ·rw [h1];exact hv
def N7 (x:I4) (mem:Mem):Mem :=
 if x.1=1 then Tw (α:=Int) 8 mem x.2.1 x.2.2.2
 else if x.1=2 then Tw (α:=Int) 8 mem x.2.1 (IntKind.i64.wrap (mg mem x.2.1+mg mem x.2.2.1))
 else if x.1=3 then Tw (α:=Int) 8 mem x.2.1 (IntKind.i64.wrap (mg mem x.2.1 - mg mem x.2.2.1))
 else if x.1=4 then Tw (α:=Int) 8 mem x.2.1 (IntKind.i64.wrap (mg mem x.2.1 * mg mem x.2.2.1))
 else if x.1=5 then Tw (α:=Int) 8 mem x.2.1 (M9 (mg mem x.2.1) x.2.2.2)
 else if x.1=6 then Tw (α:=Int) 8 mem x.2.1 (GX (mg mem x.2.1) x.2.2.2)
 else mem
theorem aeB {v n:Int} (h:JU v):JU (M9 v n):=by
 unfold M9
 split
 ·exact h
 ·split
  ·exact CK _
  ·have p:(0:Int)<2 ^ (-n).toNat:=Int.pow_pos (by omega)
   unfold JU at *
   rw [Int.fdiv_eq_ediv_of_nonneg _ (by omega)]
   refine ⟨?_,?_⟩
   ·have h1:-9223372036854775808 * 2 ^ (-n).toNat <= v:=by
     have:(-9223372036854775808:Int) * 2 ^ (-n).toNat <= -9223372036854775808 * 1:=Int.mul_le_mul_of_nonpos_left (by omega) (by omega)
     omega
    exact Int.le_ediv_of_mul_le p h1
   ·by_cases hv:0 <= v
    ·exact Int.le_trans (Int.ediv_le_self _ hv) h.2
    ·have:=Int.ediv_neg_of_neg_of_pos (show v<0 by omega) p
     omega
theorem aa4 {v n:Int} (h1:1 <= n) (h2:n <= 64):JU (GX v n):=by
 obtain ⟨m,rfl⟩:∃ m:Nat,n=(m:Int):=⟨n.toNat,by omega⟩
 unfold GX
 rw [Int.toNat_natCast]
 have hp0:(0:Int)<2 ^ m:=Int.pow_pos (by omega)
 have hh:=OG (n:=m) (by omega)
 have hr0:=Int.emod_nonneg v (show (2:Int) ^ m≠0 by omega)
 have hr1:=Int.emod_lt_of_pos v hp0
 have hmax:(2:Int) ^ m <= 18446744073709551616:=by
  have:(2:Nat) ^ m <= 2 ^ 64:=Nat.pow_le_pow_right (by omega) (by omega)
  have h2:((2 ^ m:Nat):Int)=(2:Int) ^ m:=by simp
  have h3:(2:Nat) ^ 64=18446744073709551616:=by decide
  omega
 unfold JU
 split <;> omega
theorem aam {x:I4} (h:ji x=true) (e:x.1=1):(0 <= x.2.1 /\ x.2.1<8) /\ x.2.2.1=0 /\ -2147483648 <= x.2.2.2 /\ x.2.2.2 <= 2147483647:=by
 simpa [ji,e,xg,zy] using h
theorem CO {x:I4} (h:ji x=true) (e:x.1=2 \/ x.1=3 \/ x.1=4):(0 <= x.2.1 /\ x.2.1<8) /\ (0 <= x.2.2.1 /\ x.2.2.1<8) /\ x.2.2.2=0:=by
 rcases e with e | e | e <;> simpa [ji,e,xg,zy] using h
theorem J2 {x:I4} (h:ji x=true) (e:x.1=5):(0 <= x.2.1 /\ x.2.1<8) /\ x.2.2.1=0 /\ -63 <= x.2.2.2 /\ x.2.2.2 <= 63:=by
 simpa [ji,e,xg,zy] using h
theorem FV {x:I4} (h:ji x=true) (e:x.1=6):(0 <= x.2.1 /\ x.2.1<8) /\ x.2.2.1=0 /\ 1 <= x.2.2.2 /\ x.2.2.2 <= 64:=by
 simpa [ji,e,xg,zy] using h
theorem Vu {x:I4} (h:ji x=true) (e:x.1=7):(0 <= x.2.1 /\ x.2.1<8) /\ x.2.2.1=0 /\ 1 <= x.2.2.2 /\ x.2.2.2 <= 24:=by
 simpa [ji,e,xg,zy] using h
theorem aeC {x:I4} {mem:Mem} (hx:ji x=true) (h:inM mem):inM (N7 x mem):=by
 unfold N7
 split
 ·rename_i e;have:=aam hx e;exact EO h this.1.1 (by unfold JU;omega)
 ·split
  ·rename_i e;exact EO h (CO hx (.inl e)).1.1 (CK _)
  ·split
   ·rename_i e;exact EO h (CO hx (.inr (.inl e))).1.1 (CK _)
   ·split
    ·rename_i e;exact EO h (CO hx (.inr (.inr e))).1.1 (CK _)
    ·split
     ·rename_i e;exact EO h (J2 hx e).1.1 (aeB (aic h _))
     ·split
      ·rename_i e;have:=FV hx e;exact EO h this.1.1 (aa4 this.2.2.1 this.2.2.2)
      ·exact h
def o9 (pc:Int):List dz -> Int×List dz
 | []=>(pc,[])
 | r::rest=>if r.2.1<pc then (if r.2.2>0 then (r.1,(r.1,r.2.1,r.2.2 - 1)::rest) else o9 pc rest) else (pc,r::rest)
def gU (x:I4) (pc:Int) (mem:Mem) (R:List dz):Int×List dz :=
 if x.1=0 then (pc,R)
 else if x.1=7 then (if mg mem x.2.1=0 then (pc+1+x.2.2.2,R) else (pc+1,R))
 else if x.1=8 then (pc+1,(pc+1,pc+x.2.2.1,x.2.2.2 - 1)::R)
 else (pc+1,R)
def go (x:I4) (pc:Int) (mem:Mem) (R:List dz):Int×List dz:=o9 (gU x pc mem R).1 (gU x pc mem R).2
inductive Run (l:List I4):Nat -> Mem -> List dz -> List I4 -> Nat -> Mem -> List dz -> Prop
 | nil (n:Nat) (mem:Mem) (R:List dz):Run l n mem R [] n mem R
 | cons {n:Nat} {mem:Mem} {R:List dz} {x:I4} {n1:Nat} {R1:List dz} {tr:List I4} {n2:Nat} {mem2:Mem} {R2:List dz}:n<l.length -> l.getD n i0=x -> x.1≠0 -> R.length <= 2 -> (∀ r∈R,r.2.2 <= 1000) -> go x n mem R=((n1:Int),R1) -> (x.1=11 -> R1=[]) ->
   Run l n1 (N7 x mem) R1 tr n2 mem2 R2 -> Run l n mem R (x::tr) n2 mem2 R2
theorem Run.app {l:List I4} {n:Nat} {mem:Mem} {R:List dz} {t1:List I4} {n1:Nat} {mem1:Mem} {R1:List dz} {t2:List I4} {n2:Nat} {mem2:Mem} {R2:List dz} (h1:Run l n mem R t1 n1 mem1 R1) (h2:Run l n1 mem1 R1 t2 n2 mem2 R2):Run l n mem R (t1++t2) n2 mem2 R2:=by
 induction h1 with
 | nil=>exact h2
 | cons a b c d e f g _ ih=>exact .cons a b c d e f g (ih h2)
def rpt (f:Mem -> List I4×Mem):Nat -> Mem -> List I4×Mem
 | 0,m=>([],m)
 | n+1,m=>((f m).1++(rpt f n (f m).2).1,(rpt f n (f m).2).2)
def BN:Tr -> Mem -> List I4×Mem
 | .nil,m=>([],m)
 | .one x r,m=>(x::(BN r (N7 x m)).1,(BN r (N7 x m)).2)
 | .lk a b r,m=>((9,a,0,0)::((BN b m).1++((10,a,0,0)::(BN r (BN b m).2).1)),(BN r (BN b m).2).2)
 | .ar x b r,m =>
  let p:=if x.1=7 then (if mg m x.2.1=0 then ([],m) else BN b m) else rpt (BN b) x.2.2.2.toNat m
  (x::(p.1++(BN r p.2).1),(BN r p.2).2)
def yg (l:List I4) (o:Nat) (mem:Mem) (R:List dz) (tr:List I4) (o2:Nat) (mem2:Mem) (R2:List dz):Prop :=
 ∀ (n1:Nat) (R1:List dz),o9 (o:Int) R=((n1:Int),R1) -> ∃ (n2:Nat) (R3:List dz),o9 (o2:Int) R2=((n2:Int),R3) /\ Run l n1 mem R1 tr n2 mem2 R3
theorem yg.nil {l:List I4} {o:Nat} {mem:Mem} {R:List dz}:yg l o mem R [] o mem R:=fun n1 R1 h=>⟨n1,R1,h,.nil _ _ _⟩
theorem yg.app {l:List I4} {o:Nat} {mem:Mem} {R:List dz} {t1:List I4} {o1:Nat} {mem1:Mem} {R1:List dz} {t2:List I4} {o2:Nat} {mem2:Mem} {R2:List dz} (h1:yg l o mem R t1 o1 mem1 R1) (h2:yg l o1 mem1 R1 t2 o2 mem2 R2):yg l o mem R (t1++t2) o2 mem2 R2:=fun n1 R3 h=>by
 obtain ⟨n2,R4,g1,g2⟩:=h1 n1 R3 h
 obtain ⟨n3,R5,g3,g4⟩:=h2 n2 R4 g1
 exact ⟨n3,R5,g3,g2.app g4⟩
def Cov (R:List dz) (e:Nat):Prop:=∀ r∈R.head?,(e:Int) <= r.2.1+1
theorem aa5 {R:List dz} {o:Nat} (h:Cov R (o+1)):o9 (o:Int) R=((o:Int),R):=by
 cases R with
 | nil=>rfl
 | cons r R=>rw [o9,if_neg];have:=h r (by simp);omega
theorem yh {R:List dz} {a b:Nat} (h:Cov R a) (hb:b <= a):Cov R b:=fun r hr=>by have:=h r hr;omega
def Few (d:Nat) (ia:Bool) (R:List dz):Prop:=(R.length <= d /\ d <= 2) /\ (∀ r∈R,r.2.2 <= 1000) /\ (ia=false -> R=[]) /\ ∀ r∈R,0 <= r.1
theorem yg.step {l:List I4} {o:Nat} {mem:Mem} {R:List dz} {x:I4} {o1:Nat} {R1:List dz} (hn:o<l.length) (hx:l.getD o i0=x) (h0:x.1≠0) (hR:R.length <= 2) (hb:∀ r∈R,r.2.2 <= 1000) (hc:Cov R (o+1)) (hnx:gU x o mem R=((o1:Int),R1)) (hm:x.1=11 -> (o9 (o1:Int) R1).2=[]) (hpos:0 <= (o9 (o1:Int) R1).1) :
  yg l o mem R [x] o1 (N7 x mem) R1:=fun n1 R2 h=>by
 rw [aa5 hc] at h
 injection h with h1 h2
 subst h2
 have:n1=o:=by omega
 subst this
 refine ⟨(o9 (o1:Int) R1).1.toNat,(o9 (o1:Int) R1).2,?_,?_⟩
 ·exact Prod.ext (by simp only;omega) rfl
 ·refine .cons hn hx h0 hR hb ?_ hm (.nil _ _ _)
  unfold go
  rw [hnx]
  exact Prod.ext (by simp only;omega) rfl
theorem A9:∀ {R:List dz} {pc:Int},0 <= pc -> (∀ r∈R,0 <= r.1) -> 0 <= (o9 pc R).1
 | [],_,h,_=>h
 | r::R,pc,h,hr=>by
  rw [o9]
  split
  ·split
   ·exact hr r List.mem_cons_self
   ·exact A9 h (fun q hq=>hr q (List.mem_cons_of_mem _ hq))
  ·exact h
theorem yg.congr {l:List I4} {o:Nat} {mem:Mem} {R:List dz} {tr:List I4} {o2:Nat} {mem2:Mem} {R2:List dz} {o3:Nat} {R3:List dz} (h:yg l o mem R tr o2 mem2 R2) (e:o9 (o2:Int) R2=o9 (o3:Int) R3):yg l o mem R tr o3 mem2 R3:=fun n1 R1 g=>by
 obtain ⟨n2,R4,g1,g2⟩:=h n1 R1 g
 exact ⟨n2,R4,by rw [<- e];exact g1,g2⟩
theorem aan {l:List I4} {o:Nat} {R:List dz} {b:Tr} (hlen:1 <= b.len)
  (hb:∀ (mem:Mem) (m:Nat),m <= 20 -> yg l (o+1) mem ((((o+1:Nat):Int),((o+b.len:Nat):Int),(m:Int))::R) (BN b mem).1 (o+1+b.len) (BN b mem).2 ((((o+1:Nat):Int),((o+b.len:Nat):Int),(m:Int))::R)) :
  ∀ (m:Nat) (mem:Mem),m <= 20 -> yg l (o+1) mem ((((o+1:Nat):Int),((o+b.len:Nat):Int),(m:Int))::R) (rpt (BN b) (m+1) mem).1 (o+1+b.len) (rpt (BN b) (m+1) mem).2 R
 | 0,mem,hm=>by
  have h1:=hb mem 0 hm
  have h2:=h1.congr (o3:=o+1+b.len) (R3:=R) (by rw [o9,if_pos (by simp only;omega),if_neg (by simp)])
  simp only [rpt,List.append_nil]
  exact h2
 | m+1,mem,hm=>by
  have h1:=hb mem (m+1) hm
  have h2:=h1.congr (o3:=o+1) (R3:=(((o+1:Nat):Int),((o+b.len:Nat):Int),(m:Int))::R) (by
   rw [o9,if_pos (by simp only;omega),if_pos (by simp only;omega),o9,if_neg (by simp only;omega)]
   simp only [Prod.mk.injEq,List.cons.injEq,true_and,and_true];omega)
  have h3:=aan hlen hb m (BN b mem).2 (by omega)
  have:=h2.app h3
  rw [rpt];exact this
theorem vv:∀ {t:Tr} {d:Nat} {hs:List Int} {ia:Bool} {l:List I4} {o:Nat} (mem:Mem) (R:List dz),Ok d hs ia t -> At l o t.flat -> Cov R (o+t.len) -> Few d ia R -> yg l o mem R (BN t mem).1 (o+t.len) (BN t mem).2 R
 | .nil,_,_,_,_,_,mem,R,_,_,_,_=>yg.nil
 | .one x r,d,_,ia,l,o,mem,R,⟨h1,h2,h3,h4⟩,ha,hc,hf=>by
  simp only [Tr.len] at hc ⊢
  obtain ⟨a1,a2,a3⟩:=kr ha
  have ih:=vv (N7 x mem) R h4 a3 (yh hc (by omega)) hf
  have hst:yg l o mem R [x] (o+1) (N7 x mem) R:=yg.step a1 a2 h2.1 (by have:=hf.1;omega) hf.2.1 (yh hc (by omega)) (by
   unfold gU;rw [if_neg h2.1,if_neg h2.2.1,if_neg h2.2.2.1];congr 1) (fun e=>by rw [hf.2.2.1 (h3 e).1];rfl) (A9 (by omega) hf.2.2.2)
  rw [show o+(r.len+1)=o+1+r.len by omega]
  exact hst.app ih
 | .lk a b r,d,_,ia,l,o,mem,R,⟨h1,h2,h3,h4⟩,ha,hc,hf=>by
  simp only [Tr.len] at hc ⊢
  obtain ⟨a1,a2,a3⟩:=kr ha
  obtain ⟨a4,a5⟩:=xu a3
  obtain ⟨a6,a7,a8⟩:=kr a5
  rw [iw] at a6 a7 a8
  have s1:yg l o mem R [(9,a,0,0)] (o+1) mem R:=yg.step a1 a2 (by simp) (by have:=hf.1;omega) hf.2.1 (yh hc (by omega)) (by
   unfold gU;rw [if_neg (by simp),if_neg (by simp),if_neg (by simp)];congr 1) (fun e=>by simp at e) (A9 (by omega) hf.2.2.2)
  have s2:=vv mem R h3 a4 (yh hc (by omega)) hf
  have s3:yg l (o+1+b.len) (BN b mem).2 R [(10,a,0,0)] (o+1+b.len+1) (BN b mem).2 R:=yg.step a6 a7 (by simp) (by have:=hf.1;omega) hf.2.1 (yh hc (by omega)) (by
   unfold gU;rw [if_neg (by simp),if_neg (by simp),if_neg (by simp)];congr 1) (fun e=>by simp at e) (A9 (by omega) hf.2.2.2)
  have s4:=vv (BN b mem).2 R h4 a8 (yh hc (by omega)) hf
  rw [show o+(b.len+r.len+2)=o+1+b.len+1+r.len by omega]
  have:=s1.app (s2.app (s3.app s4))
  exact this
 | .ar x b r,d,hs,ia,l,o,mem,R,⟨⟨h1,h2,h3⟩,h4,h5,h6⟩,ha,hc,hf=>by
  simp only [Tr.len] at hc ⊢
  obtain ⟨a1,a2,a3⟩:=kr ha
  obtain ⟨a4,a5⟩:=xu a3
  rw [iw] at a5
  have hw:=zi h1 h2
  have x0:x.1≠0:=fun e=>by simp [isA,e] at h2
  have x11:x.1≠11:=fun e=>by simp [isA,e] at h2
  rw [show o+(b.len+r.len+1)=o+1+b.len+r.len by omega]
  by_cases e7:x.1=7
  ·have heff:N7 x mem=mem:=by
    unfold N7;rw [if_neg (by omega),if_neg (by omega),if_neg (by omega),if_neg (by omega),if_neg (by omega),if_neg (by omega)]
   have e8:(x.1==8)=false:=by rw [e7];rfl
   rw [e8,cond_false] at h5
   have hN:=hw.2.2.2 e7
   have htr:BN (.ar x b r) mem=(x::((if mg mem x.2.1=0 then (([]:List I4),mem) else BN b mem).1++(BN r (if mg mem x.2.1=0 then (([]:List I4),mem) else BN b mem).2).1),(BN r (if mg mem x.2.1=0 then (([]:List I4),mem) else BN b mem).2).2):=by
    simp only [BN,if_pos e7]
   rw [htr]
   by_cases em:mg mem x.2.1=0
   ·simp only [if_pos em]
    have s1:yg l o mem R [x] (o+1+b.len) (N7 x mem) R:=yg.step a1 a2 x0 (by have:=hf.1;omega) hf.2.1 (yh hc (by omega)) (by
     unfold gU;rw [if_neg x0,if_pos e7,if_pos em];congr 1;omega) (fun e=>absurd e x11) (A9 (by omega) hf.2.2.2)
    rw [heff] at s1
    have s4:=vv mem R h6 a5 (yh hc (by omega)) hf
    exact s1.app s4
   ·simp only [if_neg em]
    have s1:yg l o mem R [x] (o+1) (N7 x mem) R:=yg.step a1 a2 x0 (by have:=hf.1;omega) hf.2.1 (yh hc (by omega)) (by
     unfold gU;rw [if_neg x0,if_pos e7,if_neg em];congr 1) (fun e=>absurd e x11) (A9 (by omega) hf.2.2.2)
    rw [heff] at s1
    have hf2:Few d true R:=⟨hf.1,hf.2.1,fun e=>by (cases e),hf.2.2.2⟩
    have s2:=vv mem R h5 a4 (yh hc (by omega)) hf2
    have s4:=vv (BN b mem).2 R h6 a5 (yh hc (by omega)) hf
    exact s1.app (s2.app s4)
  ·have e8:x.1=8:=by simp only [isA,Bool.or_eq_true,beq_iff_eq] at h2;omega
   have heff:N7 x mem=mem:=by
    unfold N7;rw [if_neg (by omega),if_neg (by omega),if_neg (by omega),if_neg (by omega),if_neg (by omega),if_neg (by omega)]
   have e8':(x.1==8)=true:=by rw [e8];rfl
   rw [e8',cond_true] at h5
   have hN:=aa1 h1 e8
   have hB:=hw.2.2.1 e8
   have hd:=h4 e8
   have htr:BN (.ar x b r) mem=(x::((rpt (BN b) x.2.2.2.toNat mem).1++(BN r (rpt (BN b) x.2.2.2.toNat mem).2).1),(BN r (rpt (BN b) x.2.2.2.toNat mem).2).2):=by
    simp only [BN,if_neg e7]
   rw [htr]
   have amC:∀ m:Nat,m <= 20 -> Few (d+1) true ((((o+1:Nat):Int),((o+b.len:Nat):Int),(m:Int))::R):=fun m hm=>by
    obtain ⟨q1,q2,q3,q4⟩:=hf
    refine ⟨⟨by simp only [List.length_cons];omega,by omega⟩,fun r hr=>?_,fun e=>by (cases e),fun r hr=>?_⟩
    ·rcases List.mem_cons.1 hr with rfl | hr
     ·simp only;omega
     ·exact q2 r hr
    ·rcases List.mem_cons.1 hr with rfl | hr
     ·simp only;omega
     ·exact q4 r hr
   have s1:yg l o mem R [x] (o+1) (N7 x mem) ((((o+1:Nat):Int),((o+b.len:Nat):Int),((x.2.2.2.toNat - 1:Nat):Int))::R):=yg.step a1 a2 x0 (by have:=hf.1;omega) hf.2.1 (yh hc (by omega)) (by
    unfold gU;rw [if_neg x0,if_neg e7,if_pos e8]
    simp only [Prod.mk.injEq,List.cons.injEq,and_true];omega) (fun e=>absurd e x11) (A9 (by omega) (amC (x.2.2.2.toNat - 1) (by omega)).2.2.2)
   rw [heff] at s1
   have s2:=aan (l:=l) (o:=o) (R:=R) (b:=b) (by omega) (fun mem m hm=>vv mem _ h5 a4 (fun r hr=>by
    simp only [List.head?_cons,Option.mem_def,Option.some.injEq] at hr
    subst hr;simp only;omega) (amC m hm)) (x.2.2.2.toNat - 1) mem (by omega)
   rw [show x.2.2.2.toNat - 1+1=x.2.2.2.toNat by omega] at s2
   have s4:=vv (rpt (BN b) x.2.2.2.toNat mem).2 R h6 a5 (yh hc (by omega)) hf
   exact s1.app (s2.app s4)
theorem aeE {t:Tr} (h:Ok 0 [] false t) (mem:Mem):Run t.prog 0 mem [] (BN t mem).1 t.len (BN t mem).2 []:=by
 have:=vv (o:=0) mem [] h (EK t) (fun r hr=>by (cases hr)) ⟨⟨by simp,by omega⟩,by simp,fun _=>rfl,by simp⟩
 obtain ⟨n2,R3,h1,h2⟩:=this 0 [] rfl
 rw [Nat.zero_add] at h1
 injection h1 with h3 h4
 subst h4
 have:n2=t.len:=by omega
 subst this
 exact h2
theorem MB {l:List I4}:∀ (a b i:Nat) (s:List Int×List Int),sj l (a+b) i s=(sj l a i s).bind (sj l b (i+a))
 | 0,b,i,s=>by rw [Nat.zero_add,sj];rfl
 | a+1,b,i,s=>by
  rw [show a+1+b=(a+b)+1 by omega,sj,sj]
  cases h:jm l i s with
  | none=>rfl
  | some t=>rw [Option.bind_some,Option.bind_some,MB a b (i+1) t,show i+1+a=i+(a+1) by omega]
theorem Vv {l:List I4} {i:Nat} {s s':List Int×List Int} (hi:PrI l i s.1 s.2) (h:jm l i s=some s'):∀ k:Nat,k<i -> su l 9 k -> (k:Int) ∉ s.2 -> s'.1.getD k 0=s.1.getD k 0 /\ (k:Int) ∉ s'.2:=by
 intro k hk h9 ho
 unfold jm at h
 split at h
 ·split at h
  ·cases h
  ·injection h with h;subst h
   refine ⟨rfl,fun h2=>?_⟩
   rcases List.mem_append.1 h2 with h2 | h2
   ·exact ho h2
   ·have:=List.mem_singleton.1 h2;omega
 ·split at h
  ·split at h
   ·cases h
   ·rename_i x hx
    split at h
    ·cases h
    ·injection h with h;subst h
     have hxm:=List.mem_of_getLast? hx
     have:=hi.small x hxm
     obtain ⟨n,rfl⟩:∃ n:Nat,x=(n:Int):=⟨x.toNat,by omega⟩
     refine ⟨?_,fun h2=>ho ((List.dropLast_sublist _).subset h2)⟩
     show (upd s.1 (n:Int) (i:Int)).getD k 0=_
     rw [Mf,oh,if_neg]
     rintro ⟨rfl,_⟩
     exact ho hxm
  ·injection h with h;subst h;exact ⟨rfl,ho⟩
theorem EP {l:List I4}:∀ (m i:Nat) (s s':List Int×List Int),i+m <= l.length -> PrI l i s.1 s.2 -> sj l m i s=some s' -> ∀ k:Nat,k<i -> su l 9 k -> (k:Int) ∉ s.2 -> s'.1.getD k 0=s.1.getD k 0
 | 0,i,s,s',_,_,h,k,_,_,_=>by injection h with h;subst h;rfl
 | m+1,i,s,s',hm,hi,h,k,hk,h9,ho=>by
  rw [sj,Option.bind_eq_some_iff] at h
  obtain ⟨t,h1,h2⟩:=h
  have:=Vv hi h1 k hk h9 ho
  rw [EP m (i+1) t s' (by omega) (DX (by omega) hi h1) h2 k (by omega) h9 this.2,this.1]
theorem amD {l:List I4} {ps:List Int} (h:MV l=some ps) {n:Nat} (hn:n <= l.length):∃ s:List Int×List Int,PrI l n s.1 s.2 /\ sj l (l.length - n) n s=some (ps,[]) /\ ∀ k,k<n -> su l 9 k -> ((k:Int)∈s.2↔(n:Int) <= ps.getD k 0):=by
 have hg:=RO h
 have h0:PrI l 0 (List.replicate l.length 0) []:=⟨by simp,List.Pairwise.nil,(fun _ h=>by cases h),(fun _ h=>by cases h),fun _ h=>by omega,fun _ _ _ h=>by omega,fun _ _ _ h=>by omega,rfl⟩
 rw [show l.length=n+(l.length - n) by omega,MB,Nat.zero_add,Option.bind_eq_some_iff] at hg
 obtain ⟨s,h1,h2⟩:=hg
 have hinv:∀ (m i:Nat) (s s':List Int×List Int),i+m <= l.length -> PrI l i s.1 s.2 -> sj l m i s=some s' -> PrI l (i+m) s'.1 s'.2:=by
  intro m
  induction m with
  | zero=>intro i s s' _ hi h;injection h with h;subst h;exact hi
  | succ m ih =>
   intro i s s' hm hi h
   rw [sj,Option.bind_eq_some_iff] at h
   obtain ⟨t,h1,h2⟩:=h
   have:=ih (i+1) t s' (by omega) (DX (by omega) hi h1) h2
   rw [show i+(m+1)=i+1+m by omega];exact this
 have hln:n+(l.length - n)=l.length:=by omega
 rw [hln] at h1
 have hs:=hinv n 0 _ s (by omega) h0 h1
 rw [Nat.zero_add] at hs
 refine ⟨s,hs,h2,fun k hk h9=>?_⟩
 constructor
 ·intro ho
  -- it is closed behind
  have hfin:=SA h
  obtain ⟨u,g1,g2,g3,_⟩:=hfin.closed k (by omega) h9 (by simp)
  rw [g1]
  have key:∀ (m i:Nat) (s s':List Int×List Int),i+m <= l.length -> PrI l i s.1 s.2 -> sj l m i s=some s' -> (k:Int)∈s.2 -> (k:Int)∈s'.2 \/ (i:Int) <= s'.1.getD k 0:=by
   intro m
   induction m with
   | zero=>intro i s s' _ _ h ho;injection h with h;subst h;exact .inl ho
   | succ m ih =>
    intro i s s' hm hi h ho
    rw [sj,Option.bind_eq_some_iff] at h
    obtain ⟨t,h1,h2⟩:=h
    have hi':=DX (by omega) hi h1
    by_cases e:(k:Int)∈t.2
    ·rcases ih (i+1) t s' (by omega) hi' h2 e with q | q
     ·exact .inl q
     ·exact .inr (by omega)
    ·right
     have hkl:=hi.small _ ho
     rw [EP m (i+1) t s' (by omega) hi' h2 k (by omega) h9 e]
     -- it was closed at i
     unfold jm at h1
     split at h1
     ·split at h1
      ·cases h1
      ·injection h1 with h1;subst h1
       exact absurd (List.mem_append_left _ ho) e
     ·split at h1
      ·split at h1
       ·cases h1
       ·rename_i x hx
        split at h1
        ·cases h1
        ·injection h1 with h1;subst h1
         have hxm:=hi.small x (List.mem_of_getLast? hx)
         obtain ⟨n',rfl⟩:∃ n':Nat,x=(n':Int):=⟨x.toNat,by omega⟩
         have hlen:=hi.len
         show (i:Int) <= (upd s.1 (n':Int) (i:Int)).getD k 0
         have hkn:n'=k:=by
          by_cases hq:n'=k
          ·exact hq
          ·exfalso;apply e
           obtain ⟨r,hr⟩:∃ r,s.2=r++[(n':Int)]:=by
            rcases List.eq_nil_or_concat s.2 with e | ⟨r,y,e⟩
            ·rw [e] at hx;cases hx
            ·rw [List.concat_eq_append] at e
             rw [e] at hx;simp at hx;subst hx;exact ⟨r,e⟩
           show (k:Int)∈s.2.dropLast
           rw [hr] at ho ⊢
           rw [List.dropLast_concat]
           rcases List.mem_append.1 ho with h | h
           ·exact h
           ·have:=List.mem_singleton.1 h;omega
         rw [Mf,oh,if_pos ⟨hkn,by omega⟩];omega
      ·injection h1 with h1;subst h1;exact absurd ho e
  rcases key (l.length - n) n s (ps,[]) (by omega) hs h2 ho with q | q
  ·cases q
  ·simp only at q;omega
 ·intro hge
  by_cases ho:(k:Int)∈s.2
  ·exact ho
  ·obtain ⟨u,g1,g2,g3,_⟩:=hs.closed k hk h9 ho
   have:=EP (l.length - n) n s (ps,[]) (by omega) hs h2 k hk h9 ho
   simp only at this
   omega
structure Prs (l:List I4) (ps:List Int):Prop where
 lock:∀ n,n<l.length -> su l 9 n -> ∃ u:Nat,ps.getD n 0=(u:Int) /\ n<u /\ u<l.length /\ su l 10 u /\ um l u=um l n
 nest:∀ k j,k<j -> j<l.length -> su l 9 k -> su l 9 j -> (j:Int)<ps.getD k 0 -> ps.getD j 0<ps.getD k 0 /\ um l k≠um l j
 two:∀ a b n,a<b -> b<n -> n<l.length -> su l 9 a -> su l 9 b -> su l 9 n -> (n:Int)<ps.getD a 0 -> (n:Int)<ps.getD b 0 -> False
 unlock:∀ u,u<l.length -> su l 10 u -> ∃ n,n<u /\ su l 9 n /\ ps.getD n 0=(u:Int)
 area:∀ n,n<l.length -> su l 9 n -> ∀ u:Nat,ps.getD n 0=(u:Int) -> JR l n u=false
theorem aa6 {l:List I4} {ps:List Int} (h:MV l=some ps):Prs l ps:=by
 have hf:=SA h
 have aeF:∀ n,n<l.length -> ∃ s t:List Int×List Int,PrI l n s.1 s.2 /\ jm l n s=some t /\ PrI l (n+1) t.1 t.2 /\ sj l (l.length - (n+1)) (n+1) t=some (ps,[]) /\ ∀ k,k<n -> su l 9 k -> ((k:Int)∈s.2↔(n:Int) <= ps.getD k 0):=fun n hn=>by
  obtain ⟨s,h1,h2,h3⟩:=amD h (n:=n) (by omega)
  rw [show l.length - n=(l.length - (n+1))+1 by omega,sj,Option.bind_eq_some_iff] at h2
  obtain ⟨t,h4,h5⟩:=h2
  exact ⟨s,t,h1,h4,DX hn h1 h4,h5,h3⟩
 have unl:∀ u,u<l.length -> su l 10 u -> ∃ n,n<u /\ su l 9 n /\ ps.getD n 0=(u:Int) /\ JR l n u=false:=fun u hu h10=>by
  obtain ⟨s,t,h1,h2,h3,h4,h5⟩:=aeF u hu
  have aa0:(l.getD u i0).1=10:=h10
  unfold jm at h2
  rw [if_neg (by rw [aa0];decide),if_pos aa0] at h2
  split at h2
  ·cases h2
  ·rename_i x hx
   split at h2
   ·cases h2
   ·rename_i hc
    injection h2 with h2;subst h2
    have hxm:=List.mem_of_getLast? hx
    have hsm:=h1.small x hxm
    obtain ⟨n,rfl⟩:∃ n:Nat,x=(n:Int):=⟨x.toNat,by omega⟩
    have hl:=h1.lock n hxm
    have hlen:=h1.len
    refine ⟨n,by omega,hl,?_,?_⟩
    ·have hno:(n:Int) ∉ s.2.dropLast:=by
      have hsort:=h1.sorted
      obtain ⟨r,hr⟩:∃ r,s.2=r++[(n:Int)]:=by
       rcases List.eq_nil_or_concat s.2 with e | ⟨r,y,e⟩
       ·rw [e] at hx;cases hx
       ·rw [List.concat_eq_append] at e
        rw [e] at hx;simp at hx;subst hx;exact ⟨r,e⟩
      rw [hr,List.pairwise_append] at hsort
      rw [hr,List.dropLast_concat]
      intro e
      have:=hsort.2.2 _ e (n:Int) (by simp);omega
     have:=EP (l.length - (u+1)) (u+1) (upd s.1 (n:Int) (u:Int),s.2.dropLast) (ps,[]) (by omega) h3 h4 n (by omega) hl hno
     simp only at this
     rw [this,Mf,oh,if_pos ⟨rfl,by omega⟩]
    ·cases hs:JR l n u with
     | false=>rfl
     | true=>exact absurd (.inr (by rw [Int.toNat_natCast];exact hs)) hc
 refine ⟨fun n hn h9=>?_,fun k j hkj hj h1 h2 h3=>?_,fun a b n hab hbn hn h1 h2 h3 h4 h5=>?_,fun u hu h10=>?_,fun n hn h9 u hu=>?_⟩
 ·exact hf.closed n hn h9 (by simp)
 ·obtain ⟨_,q2,q3⟩:=hf.nest k j hkj hj h1 h2 (by simp) h3
  exact ⟨q2,q3⟩
 ·obtain ⟨s,t,g1,g2,_,_,g5⟩:=aeF n hn
  have ha:=(g5 a (by omega) h1).2 (by omega)
  have hb:=(g5 b hbn h2).2 (by omega)
  have h9:(l.getD n i0).1=9:=h3
  unfold jm at g2
  rw [if_pos h9] at g2
  split at g2
  ·cases g2
  ·rename_i hc
   have hlt:s.2.length<2:=by
    by_cases e:s.2.length<2
    ·exact e
    ·exact absurd (.inl (by omega)) hc
   match hs:s.2,ha,hb,hlt with
   | [],ha,_,_=>cases ha
   | [y],ha,hb,_ =>
    have e1:=List.mem_singleton.1 ha
    have e2:=List.mem_singleton.1 hb
    omega
   | y::z::r,_,_,hlt=>simp only [List.length_cons] at hlt;omega
 ·obtain ⟨n,q1,q2,q3,_⟩:=unl u hu h10
  exact ⟨n,q1,q2,q3⟩
 ·obtain ⟨u',g1,g2,g3,g4,_⟩:=hf.closed n hn h9 (by simp)
  have:u'=u:=by omega
  subst this
  obtain ⟨n',q1,q2,q3,q4⟩:=unl u' g3 g4
  by_cases e:n'=n
  ·subst e;exact q4
  ·exfalso
   by_cases lt:n'<n
   ·have:=(hf.nest n' n lt hn q2 h9 (by simp) (by omega)).2.1;omega
   ·have:=(hf.nest n n' (by omega) (by omega) h9 q2 (by simp) (by omega)).2.1;omega
theorem SG {l:List I4} (hm:∀ x∈l,ji x=true) (hl:l.length <= 900) {a b c:Nat} {j:Int} (hab:a<b) (hbc:b<c) (hc:c<l.length) (h:∀ n,n=a \/ n=b \/ n=c -> (l.getD n i0).1=8 /\ (n:Int)<j /\ j <= n+wd (l.getD n i0)):3 <= dx j (jw 0 l):=by
 have one:∀ n,n=a \/ n=b \/ n=c -> dx j (pc n (l.getD n i0))=1:=fun n hn=>by
  obtain ⟨h8,h1,h2⟩:=h n hn
  have hlt:n<l.length:=by omega
  have hA:isA (l.getD n i0)=true:=by simp only [isA,h8];rfl
  rw [RP (hm _ (iq hlt)) (by omega),if_pos hA,dx,List.countP_cons,List.countP_nil]
  have e3:(p8 n (l.getD n i0)).2.2.2=true:=by simp only [p8,h8];rfl
  rw [e3,show ou (p8 n (l.getD n i0)) j=true by rw [oz];simp only [p8];omega];rfl
 have up:∀ n,n<l.length -> dx j (jw 0 (l.take (n+1)))=dx j (jw 0 (l.take n))+dx j (pc n (l.getD n i0)):=fun n hn=>by
  have:l.take (n+1)=l.take n++[l.getD n i0]:=by rw [List.take_add_one,getD_in hn,List.getElem?_eq_getElem hn];rfl
  rw [this,GR,RX,List.length_take,Nat.zero_add,show min n l.length=n by omega]
  simp [jw]
 have mono:∀ d n,n+d <= l.length -> dx j (jw 0 (l.take n)) <= dx j (jw 0 (l.take (n+d))):=fun d=>by
  induction d with
  | zero=>intro n _;simp
  | succ d ih=>intro n hn;have:=ih n (by omega);rw [show n+(d+1)=n+d+1 by omega,up (n+d) (by omega)];omega
 have h1:=up a (by omega)
 have h2:=up b (by omega)
 have h3:=up c (by omega)
 rw [one a (.inl rfl)] at h1
 rw [one b (.inr (.inl rfl))] at h2
 rw [one c (.inr (.inr rfl))] at h3
 have m1:=mono (b - (a+1)) (a+1) (by omega)
 have m2:=mono (c - (b+1)) (b+1) (by omega)
 have m3:=mono (l.length - (c+1)) (c+1) (by omega)
 rw [show a+1+(b - (a+1))=b by omega] at m1
 rw [show b+1+(c - (b+1))=c by omega] at m2
 rw [show c+1+(l.length - (c+1))=l.length by omega,List.take_length] at m3
 omega
def eu (l:List I4) (o e:Nat):Nat -> Prop
 | 0=>True
 | 1=>∃ a,a<o /\ su l 8 a /\ e <= a+wd (l.getD a i0)+1
 | 2=>∃ a b,a<b /\ b<o /\ su l 8 a /\ su l 8 b /\ e <= a+wd (l.getD a i0)+1 /\ e <= b+wd (l.getD b i0)+1
 | _+3=>False
def Hd (l:List I4) (ps:List Int) (o e:Nat) (hs:List Int):Prop:=∃ H:List Nat,hs=H.map (um l) /\ H.Pairwise (·<·) /\ ∀ k∈H,k<o /\ su l 9 k /\ (e:Int) <= ps.getD k 0
theorem J3 {l:List I4} {o e o' e':Nat} (ho:o <= o') (he:e' <= e):∀ {d:Nat},eu l o e d -> eu l o' e' d
 | 0,_=>trivial
 | 1,⟨a,h1,h2,h3⟩=>⟨a,by omega,h2,by omega⟩
 | 2,⟨a,b,h1,h2,h3,h4,h5,h6⟩=>⟨a,b,h1,by omega,h3,h4,by omega,by omega⟩
 | _+3,h=>h.elim
theorem J4 {l:List I4} {ps:List Int} {o e o' e':Nat} {hs:List Int} (ho:o <= o') (he:e' <= e) (h:Hd l ps o e hs):Hd l ps o' e' hs:=by
 obtain ⟨H,h1,h2,h3⟩:=h
 exact ⟨H,h1,h2,fun k hk=>by obtain ⟨q1,q2,q3⟩:=h3 k hk;exact ⟨by omega,q2,by omega⟩⟩
theorem MC {l:List I4} {o:Nat} {x:I4} {w:List I4} (hx:l.getD o i0=x) (hl:o<l.length) (h:At l (o+1) w):At l o (x::w):=by
 obtain ⟨h1,h2⟩:=h
 refine ⟨by simp only [List.length_cons];omega,fun j hj=>?_⟩
 cases j with
 | zero=>simpa using hx
 | succ j =>
  simp only [List.length_cons] at hj
  rw [List.getD_cons_succ,<- h2 j (by omega)];congr 1;omega
theorem WZ {l:List I4} {o:Nat} {u w:List I4} (h1:At l o u) (h2:At l (o+u.length) w):At l o (u++w):=by
 obtain ⟨a1,a2⟩:=h1
 obtain ⟨b1,b2⟩:=h2
 refine ⟨by simp only [List.length_append];omega,fun j hj=>?_⟩
 simp only [List.length_append] at hj
 by_cases e:j<u.length
 ·rw [mh e,a2 j e]
 ·rw [j6 (by omega),<- b2 (j - u.length) (by omega)];congr 1;omega
theorem aeG {x:I4} (h:ji x=true):x.1=0 \/ x.1=7 \/ x.1=8 \/ x.1=9 \/ x.1=10 \/ plain x:=by unfold plain;omega
theorem akl {x:I4} (h:ji x=true) (e:x.1=9 \/ x.1=10):(0 <= x.2.1 /\ x.2.1 <= 3) /\ x.2.2.1=0 /\ x.2.2.2=0:=by
 rcases e with e | e <;> simpa [ji,e,xg] using h
theorem parse {l:List I4} {ps:List Int} (g:w9 l ps) (P:Prs l ps):∀ (len o d:Nat) (hs:List Int) (ia:Bool),o+len<l.length -> (∀ n,o <= n -> n<o+len -> n+wd (l.getD n i0)<o+len) ->
  (∀ n,o <= n -> n<o+len -> su l 9 n -> ps.getD n 0<((o+len:Nat):Int)) -> (∀ n u:Nat,o <= u -> u<o+len -> su l 9 n -> ps.getD n 0=(u:Int) -> o <= n) ->
  eu l o (o+len) d -> Hd l ps o (o+len) hs -> (ia=true -> ∃ a,a<o /\ isA (l.getD a i0)=true /\ o+len <= a+wd (l.getD a i0)+1) ->
  ∃ t:Tr,t.len=len /\ At l o t.flat /\ Ok d hs ia t:=by
 have hl2:=g.len2
 intro len
 induction len using Nat.strongRecOn with
 | _ len ih =>
 intro o d hs ia hlen S1 S2 S3 hB hH hI
 match len,ih,hlen,S1,S2,S3,hB,hH,hI with
 | 0,_,_,_,_,_,_,_,_=>exact ⟨.nil,rfl,⟨by simp [Tr.flat];omega,by simp [Tr.flat]⟩,trivial⟩
 | len+1,ih,hlen,S1,S2,S3,hB,hH,hI =>
 have hol:o<l.length:=by omega
 have hm:=g.may _ (iq (z:=i0) hol)
 rcases aeG hm with e | e | e | e | e | e
 ·exact absurd ((g.end_ o hol).1 e) (by omega)
 ·-- a reach
  have hA:isA (l.getD o i0)=true:=by simp only [isA,e];rfl
  have hw:=zi hm hA
  have h1:=S1 o (by omega) (by omega)
  obtain ⟨n,hn⟩:∃ n,n=wd (l.getD o i0):=⟨_,rfl⟩
  rw [<- hn] at h1 hw
  have inb:∀ n',o<n' -> n' <= o+n -> n'+wd (l.getD n' i0) <= o+n:=fun n' q1 q2=>(by have:=aao g hA (n:=n') (by omega) (by rw [<- hn];exact ⟨q1,q2⟩);omega)
  obtain ⟨b,b1,b2,b3⟩:=ih n (by omega) (o+1) d hs true (by omega) (fun n' q1 q2=>by have:=inb n' (by omega) (by omega);omega)
   (fun n' q1 q2 q3=>(by have:=ER g P hA (n:=n') (by omega) q3 (by omega) (by omega);omega))
   (fun n' u q1 q2 q3 q4=>E5 g P hA q3 q4 (by omega) (by omega))
   (J3 (by omega) (by omega) hB) (J4 (by omega) (by omega) hH) (fun _=>⟨o,by omega,hA,by omega⟩)
  obtain ⟨r,r1,r2,r3⟩:=ih (len - n) (by omega) (o+1+n) d hs ia (by omega) (fun n' q1 q2=>by have:=S1 n' (by omega) (by omega);omega)
   (fun n' q1 q2 q3=>by have:=S2 n' (by omega) (by omega) q3;omega)
   (fun n' u q1 q2 q3 q4=>by
    have:=S3 n' u (by omega) (by omega) q3 q4
    by_cases f:n'=o
    ·subst f;exact absurd (show (l.getD n' i0).1=9 from q3) (by omega)
    ·by_cases f2:n' <= o+n
     ·have:=ER g P hA (by omega) q3 (show o<n' by omega) (by omega);omega
     ·omega)
   (J3 (by omega) (by omega) hB) (J4 (by omega) (by omega) hH) (fun q=>by obtain ⟨a,a1,a2,a3⟩:=hI q;exact ⟨a,by omega,a2,by omega⟩)
  refine ⟨.ar (l.getD o i0) b r,by simp only [Tr.len];omega,?_,⟨hm,hA,by omega⟩,fun e2=>by omega,?_,r3⟩
  ·simp only [Tr.flat]
   exact MC rfl hol (WZ b2 (by rw [iw,b1];exact r2))
  ·rw [show ((l.getD o i0).1==8)=false by rw [e];rfl];exact b3
 ·-- a body
  have hA:isA (l.getD o i0)=true:=by simp only [isA,e];rfl
  have hw:=zi hm hA
  have h1:=S1 o (by omega) (by omega)
  obtain ⟨n,hn⟩:∃ n,n=wd (l.getD o i0):=⟨_,rfl⟩
  rw [<- hn] at h1 hw
  have inb:∀ n',o<n' -> n' <= o+n -> n'+wd (l.getD n' i0) <= o+n:=fun n' q1 q2=>(by have:=aao g hA (n:=n') (by omega) (by rw [<- hn];exact ⟨q1,q2⟩);omega)
  have hd:d<2 /\ eu l (o+1) (o+1+n) (d+1):=by
   match d,hB with
   | 0,_=>exact ⟨by omega,o,by omega,e,by omega⟩
   | 1,⟨a,a1,a2,a3⟩=>exact ⟨by omega,a,o,a1,by omega,a2,e,by omega,by omega⟩
   | 2,⟨a,b,a1,a2,a3,a4,a5,a6⟩ =>
    have:=SG g.may (by omega) (a:=a) (b:=b) (c:=o) (j:=((o+1:Nat):Int)) a1 a2 hol (fun n' hn'=>by
     rcases hn' with rfl | rfl | rfl
     ·exact ⟨a3,by omega,by omega⟩
     ·exact ⟨a4,by omega,by omega⟩
     ·exact ⟨e,by omega,by omega⟩)
    have:=g.bodies (o+1) (by omega)
    omega
   | _+3,h=>exact h.elim
  obtain ⟨b,b1,b2,b3⟩:=ih n (by omega) (o+1) (d+1) hs true (by omega) (fun n' q1 q2=>by have:=inb n' (by omega) (by omega);omega)
   (fun n' q1 q2 q3=>(by have:=ER g P hA (n:=n') (by omega) q3 (by omega) (by omega);omega))
   (fun n' u q1 q2 q3 q4=>E5 g P hA q3 q4 (by omega) (by omega))
   hd.2 (J4 (by omega) (by omega) hH) (fun _=>⟨o,by omega,hA,by omega⟩)
  obtain ⟨r,r1,r2,r3⟩:=ih (len - n) (by omega) (o+1+n) d hs ia (by omega) (fun n' q1 q2=>by have:=S1 n' (by omega) (by omega);omega)
   (fun n' q1 q2 q3=>by have:=S2 n' (by omega) (by omega) q3;omega)
   (fun n' u q1 q2 q3 q4=>by
    have:=S3 n' u (by omega) (by omega) q3 q4
    by_cases f:n'=o
    ·subst f;exact absurd (show (l.getD n' i0).1=9 from q3) (by omega)
    ·by_cases f2:n' <= o+n
     ·have:=ER g P hA (by omega) q3 (show o<n' by omega) (by omega);omega
     ·omega)
   (J3 (by omega) (by omega) hB) (J4 (by omega) (by omega) hH) (fun q=>by obtain ⟨a,a1,a2,a3⟩:=hI q;exact ⟨a,by omega,a2,by omega⟩)
  refine ⟨.ar (l.getD o i0) b r,by simp only [Tr.len];omega,?_,⟨hm,hA,by omega⟩,fun _=>hd.1,?_,r3⟩
  ·simp only [Tr.flat]
   exact MC rfl hol (WZ b2 (by rw [iw,b1];exact r2))
  ·rw [show ((l.getD o i0).1==8)=true by rw [e];rfl];exact b3
 ·-- a pair
  obtain ⟨u,u1,u2,u3,u4,u5⟩:=P.lock o hol e
  have hu:=S2 o (by omega) (by omega) e
  rw [u1] at hu
  have h9:=akl hm (.inl e)
  have hmu:=akl (g.may _ (iq (z:=i0) u3)) (.inr u4)
  have hxo:l.getD o i0=(9,um l o,0,0):=Prod.ext e (Prod.ext rfl (Prod.ext h9.2.1 h9.2.2))
  have hxu:l.getD u i0=(10,um l o,0,0):=Prod.ext u4 (Prod.ext u5 (Prod.ext hmu.2.1 hmu.2.2))
  have hsep:=(EJ g.may (by omega)).1 (P.area o hol e u u1)
  obtain ⟨H,H1,H2,H3⟩:=hH
  have hnot:um l o ∉ hs:=by
   rw [H1];intro hq
   obtain ⟨k,k1,k2⟩:=List.mem_map.1 hq
   obtain ⟨k3,k4,k5⟩:=H3 k k1
   exact (P.nest k o k3 hol k4 e (by omega)).2 k2
  have aos:hs.length<2:=by
   rw [H1,List.length_map]
   match H,H2,H3 with
   | [],_,_=>simp
   | [a],_,_=>simp
   | a::b::q,H2,H3 =>
    exfalso
    obtain ⟨a1,a2,a3⟩:=H3 a (by simp)
    obtain ⟨b1,b2,b3⟩:=H3 b (by simp)
    have hab:a<b:=(List.pairwise_cons.1 H2).1 b (by simp)
    exact P.two a b o hab b1 hol a2 b2 e (by omega) (by omega)
  obtain ⟨b,b1,b2,b3⟩:=ih (u - (o+1)) (by omega) (o+1) d (hs++[um l o]) ia (by omega) (fun n' q1 q2=>by
    by_cases hA:isA (l.getD n' i0)=true
    ·have:=hsep n' (by omega) hA
     by_cases f:n'+wd (l.getD n' i0)<o+1+(u - (o+1))
     ·exact f
     ·have:=this.2 ⟨by omega,by omega⟩;omega
    ·rw [qw (by simpa using hA)];omega)
   (fun n' q1 q2 q3=>by have:=(P.nest o n' (by omega) (by omega) e q3 (by omega)).1;omega)
   (fun n' v q1 q2 q3 q4=>by
    have:=S3 n' v (by omega) (by omega) q3 q4
    by_cases f:n'=o
    ·subst f;omega
    ·omega)
   (J3 (by omega) (by omega) hB) ⟨H++[o],by rw [H1,List.map_append];rfl,by
    rw [List.pairwise_append]
    exact ⟨H2,List.pairwise_singleton _ _,fun a ha b hb=>by rw [List.mem_singleton.1 hb];exact (H3 a ha).1⟩,fun k hk=>by
    rcases List.mem_append.1 hk with hk | hk
    ·obtain ⟨k1,k2,k3⟩:=H3 k hk;exact ⟨by omega,k2,by omega⟩
    ·rw [List.mem_singleton.1 hk];exact ⟨by omega,e,by omega⟩⟩ (fun q=>by obtain ⟨a,a1,a2,a3⟩:=hI q;exact ⟨a,by omega,a2,by omega⟩)
  obtain ⟨r,r1,r2,r3⟩:=ih (o+len - u) (by omega) (u+1) d hs ia (by omega) (fun n' q1 q2=>by have:=S1 n' (by omega) (by omega);omega)
   (fun n' q1 q2 q3=>by have:=S2 n' (by omega) (by omega) q3;omega)
   (fun n' v q1 q2 q3 q4=>by
    have:=S3 n' v (by omega) (by omega) q3 q4
    by_cases f:n'=o
    ·subst f;omega
    ·by_cases f2:n'<u
     ·have:=(P.nest o n' (by omega) (by omega) e q3 (by omega)).1;omega
     ·by_cases f3:n'=u
      ·subst f3;exact absurd (show (l.getD n' i0).1=9 from q3) (by rw [show (l.getD n' i0).1=10 from u4];decide)
      ·omega)
   (J3 (by omega) (by omega) hB) (J4 (by omega) (by omega) ⟨H,H1,H2,H3⟩) (fun q=>by obtain ⟨a,a1,a2,a3⟩:=hI q;exact ⟨a,by omega,a2,by omega⟩)
  refine ⟨.lk (um l o) b r,by simp only [Tr.len];omega,?_,h9.1,⟨hnot,aos⟩,b3,r3⟩
  simp only [Tr.flat]
  refine MC hxo hol (WZ b2 ?_)
  rw [iw,b1,show o+1+(u - (o+1))=u by omega]
  exact MC hxu u3 r2
 ·-- an unlock whose lock stands ahead of all
  obtain ⟨n',q1,q2,q3⟩:=P.unlock o hol e
  have:=S3 n' o (by omega) (by omega) q2 q3
  omega
 ·-- a plain one
  obtain ⟨r,r1,r2,r3⟩:=ih len (by omega) (o+1) d hs ia (by omega) (fun n' q1 q2=>by have:=S1 n' (by omega) (by omega);omega)
   (fun n' q1 q2 q3=>by have:=S2 n' (by omega) (by omega) q3;omega)
   (fun n' v q1 q2 q3 q4=>by
    have:=S3 n' v (by omega) (by omega) q3 q4
    by_cases f:n'=o
    ·subst f;exact absurd q3 e.2.2.2.1
    ·omega)
   (J3 (by omega) (by omega) hB) (J4 (by omega) (by omega) hH) (fun q=>by obtain ⟨a,a1,a2,a3⟩:=hI q;exact ⟨a,by omega,a2,by omega⟩)
  refine ⟨.one (l.getD o i0) r,by simp only [Tr.len];omega,MC rfl hol r2,hm,e,fun e11=>?_,r3⟩
  obtain ⟨m1,m2⟩:=g.marks o hol e11
  constructor
  ·cases ia with
   | false=>rfl
   | true =>
    exfalso
    obtain ⟨a,a1,a2,a3⟩:=hI rfl
    rw [List.any_eq_false] at m1
    have:=m1 (p8 a (l.getD a i0)) ((ni l 0 _ g.may (by omega)).2 ⟨a,by omega,a2,by rw [Nat.zero_add]⟩)
    rw [oz] at this
    simp only [p8] at this
    omega
  ·obtain ⟨H,H1,H2,H3⟩:=hH
   cases H with
   | nil=>exact H1
   | cons k q =>
    exfalso
    obtain ⟨k1,k2,k3⟩:=H3 k (by simp)
    have:=m2 k k1
    omega
where
 aao {l:List I4} {ps:List Int} (g:w9 l ps) {o n:Nat} (hA:isA (l.getD o i0)=true) (hn:n<l.length) (h:o<n /\ n <= o+wd (l.getD o i0)):n+wd (l.getD n i0) <= o+wd (l.getD o i0):=by
  have hl2:=g.len2
  by_cases hB:isA (l.getD n i0)=true
  ·have:=g.bad (p8 n (l.getD n i0)) ((ni l 0 _ g.may (by omega)).2 ⟨n,hn,hB,by rw [Nat.zero_add]⟩) (p8 o (l.getD o i0)) ((ni l 0 _ g.may (by omega)).2 ⟨o,by omega,hA,by rw [Nat.zero_add]⟩)
   unfold FP at this
   rw [Bool.or_eq_false_iff] at this
   have h2:=this.1
   have hq:ou (p8 o (l.getD o i0)) (p8 n (l.getD n i0)).2.2.1=true:=oz.2 (by simp only [p8];omega)
   rw [hq,Bool.true_and,Bool.not_eq_false'] at h2
   unfold inA at h2
   rw [Bool.and_eq_true,oz,oz] at h2
   simp only [p8] at h2
   omega
  ·rw [qw (by simpa using hB)];omega
 ER {l:List I4} {ps:List Int} (g:w9 l ps) (P:Prs l ps) {o n:Nat} (hA:isA (l.getD o i0)=true) (hn:n<l.length) (h9:su l 9 n) (h1:o<n) (h2:n <= o+wd (l.getD o i0)):ps.getD n 0<((o+wd (l.getD o i0)+1:Nat):Int):=by
  have hl2:=g.len2
  obtain ⟨u,u1,_⟩:=P.lock n hn h9
  have:=(EJ g.may (by omega)).1 (P.area n hn h9 u u1) o (by omega) hA
  have:=this.1 ⟨h1,h2⟩
  omega
 E5 {l:List I4} {ps:List Int} (g:w9 l ps) (P:Prs l ps) {o n u:Nat} (hA:isA (l.getD o i0)=true) (h9:su l 9 n) (hu:ps.getD n 0=(u:Int)) (h1:o+1 <= u) (h2:u <= o+wd (l.getD o i0)):o+1 <= n:=by
  have hl2:=g.len2
  have hn:n<l.length:=by
   by_cases f:n<l.length
   ·exact f
   ·have:l.getD n i0=i0:=LW (by omega)
    unfold su at h9;rw [this] at h9;exact absurd h9 (by decide)
  have hol:o<l.length:=by
   by_cases f:o<l.length
   ·exact f
   ·rw [LW (by omega)] at hA;exact absurd hA (by decide)
  have:=(EJ g.may (by omega)).1 (P.area n hn h9 u hu) o hol hA
  have:=this.2 ⟨by omega,h2⟩
  omega
theorem GY {l:List I4} (h:qo l=true):∃ t:Tr,Ok 0 [] false t /\ l=t.prog /\ t.len<24:=by
 obtain ⟨ps,g⟩:=y7.1 h
 have hl1:=g.len1
 have hl2:=g.len2
 have P:=aa6 g.pairs
 have hlast:(l.getD (l.length - 1) i0).1=0:=(g.end_ (l.length - 1) (by omega)).2 (by omega)
 obtain ⟨t,t1,t2,t3⟩:=parse g P (l.length - 1) 0 0 [] false (by omega) (fun n h1 h2=>by
   by_cases hA:isA (l.getD n i0)=true
   ·have:=g.last (p8 n (l.getD n i0)) ((ni l 0 _ g.may (by omega)).2 ⟨n,by omega,hA,by rw [Nat.zero_add]⟩)
    have e:(p8 n (l.getD n i0)).2.1=((n+wd (l.getD n i0):Nat):Int):=rfl
    omega
   ·rw [qw (by simpa using hA)];omega)
  (fun n h1 h2 h9=>by
   obtain ⟨u,u1,u2,u3,u4,_⟩:=P.lock n (by omega) h9
   have:u≠l.length - 1:=fun e=>by
    subst e
    rw [show (l.getD (l.length - 1) i0).1=10 from u4] at hlast;exact absurd hlast (by decide)
   omega) (fun n u _ _ _ _=>by omega) trivial ⟨[],rfl,List.Pairwise.nil,fun k hk=>by cases hk⟩ (fun e=>by cases e)
 have hz:l.getD (l.length - 1) i0=i0:=by
  have:=g.may _ (iq (z:=i0) (l:=l) (i:=l.length - 1) (by omega))
  have h3:(l.getD (l.length - 1) i0).2.1=0 /\ (l.getD (l.length - 1) i0).2.2.1=0 /\ (l.getD (l.length - 1) i0).2.2.2=0:=by
   generalize l.getD (l.length - 1) i0=x at this hlast
   simpa [ji,hlast] using this
  exact Prod.ext hlast (Prod.ext h3.1 (Prod.ext h3.2.1 h3.2.2))
 refine ⟨t,t3,?_,by omega⟩
 have hpl:=vo t
 apply List.ext_getElem (by omega)
 intro n h1 h2
 rw [<- getD_in (z:=i0) h1,<- getD_in (z:=i0) h2]
 by_cases e:n<t.len
 ·have:=t2.2 n (by rw [iw];exact e)
  rw [Nat.zero_add] at this
  rw [this]
  unfold Tr.prog
  rw [mh (by rw [iw];exact e)]
 ·have:n=l.length - 1:=by omega
  subst this
  rw [hz,show l.length - 1=t.len by omega,BJ]
abbrev agG (a:Int):Mem:=(a,0,0,0,0,0,0,0)
theorem agH (a:Int) (h:JU a):inM (agG a):=by
 intro x hx
 simp only [Gr,List.mem_cons,List.not_mem_nil,or_false] at hx
 rcases hx with rfl | rfl | rfl | rfl | rfl | rfl | rfl | rfl
 ·exact h
 all_goals exact ⟨by omega,by omega⟩
theorem AA {x y:Int} (q:Int) (h:x=y+q * 18446744073709551616):IntKind.i64.wrap x=IntKind.i64.wrap y:=by
 obtain ⟨q2,h2⟩:=M8 y
 refine agE (CK _) (q2 - q) ?_
 rw [h2,h];grind
theorem JM (x:Int):∃ q:Int,IntKind.u64.wrap x=x+q * 18446744073709551616:=⟨-(x / 18446744073709551616),by rw [aey];omega⟩
theorem w_u (x:Int):IntKind.i64.wrap (IntKind.u64.wrap x)=IntKind.i64.wrap x:=by
 obtain ⟨q,h⟩:=JM x
 exact AA q h
theorem amE (a b:Int):IntKind.i64.wrap (IntKind.u64.wrap (IntKind.u64.wrap a+IntKind.u64.wrap b))=IntKind.i64.wrap (a+b):=by
 rw [w_u]
 obtain ⟨q1,h1⟩:=JM a
 obtain ⟨q2,h2⟩:=JM b
 exact AA (q1+q2) (by rw [h1,h2];grind)
theorem amF (a b:Int):IntKind.i64.wrap (IntKind.u64.wrap (IntKind.u64.wrap a - IntKind.u64.wrap b))=IntKind.i64.wrap (a - b):=by
 rw [w_u]
 obtain ⟨q1,h1⟩:=JM a
 obtain ⟨q2,h2⟩:=JM b
 exact AA (q1 - q2) (by rw [h1,h2];grind)
theorem amG (a b:Int):IntKind.i64.wrap (IntKind.u64.wrap (IntKind.u64.wrap a * IntKind.u64.wrap b))=IntKind.i64.wrap (a * b):=by
 rw [w_u]
 obtain ⟨q1,h1⟩:=JM a
 obtain ⟨q2,h2⟩:=JM b
 exact AA (q1 * b+q2 * a+q1 * q2 * 18446744073709551616) (by rw [h1,h2];grind)
theorem akm (a c:Int):IntKind.i64.wrap (IntKind.u64.wrap (IntKind.u64.wrap a * c))=IntKind.i64.wrap (a * c):=by
 rw [w_u]
 obtain ⟨q1,h1⟩:=JM a
 exact AA (q1 * c) (by rw [h1];grind)
theorem aot {v:Int} (h:JU v):IntKind.i64.wrap v=v:=Ua h.1 h.2
theorem KL {R:Type} {b:Int} {x:Option R} (h:0 <= b):Tk b x=x:=by unfold Tk;rw [if_neg (by omega)]
theorem agI (k:Nat) {v n:Int} (hv:JU v) (h1:-63 <= n) (h2:n <= 63):afR k v n=some ((M9 v n,()),()):=by
 unfold afR M9
 rw [Rk (by omega),Rk (by omega)]
 by_cases e:n<0
 ·rw [Rj e,if_neg (by omega),if_neg (by omega),Ua (n:=0 - n) (by omega) (by omega),KL (by omega)]
  unfold Tn
  have:min (0 - n).toNat IntKind.i64.bits=(-n).toNat:=by
   have:IntKind.i64.bits=64:=rfl
   omega
  rw [this]
 ·rw [Rk e,KL (by omega)]
  unfold Tm
  have:min n.toNat IntKind.u64.bits=n.toNat:=by
   have:IntKind.u64.bits=64:=rfl
   omega
  rw [this,akm]
  by_cases e0:n=0
  ·subst e0;rw [if_pos rfl];simp [aot hv]
  ·rw [if_neg e0,if_pos (by omega)]
theorem aa7 {n:Nat} (h1:1 <= n) (h:n <= 64):(9223372036854775808:Int)=2 ^ (n - 1) * 2 ^ (64 - n):=by
 rw [<- Int.pow_add,show n - 1+(64 - n)=63 by omega];decide
theorem agJ (k:Nat) {v n:Int} (h1:1 <= n) (h2:n <= 64):afS k v n=some ((GX v n,()),()):=by
 unfold afS
 rw [Rk (by omega),Rk (by omega),Ua (n:=64 - n) (by omega) (by omega),KL (by omega),KL (by omega)]
 obtain ⟨m,rfl⟩:∃ m:Nat,n=(m:Int):=⟨n.toNat,by omega⟩
 unfold Tn Tm GX
 have e:min ((64:Int) - (m:Int)).toNat IntKind.i64.bits=64 - m:=by
  have:IntKind.i64.bits=64:=rfl
  omega
 rw [e,Int.toNat_natCast]
 obtain ⟨q,hq⟩:=M8 (v * 2 ^ (64 - m))
 have hin:=CK (v * 2 ^ (64 - m))
 rw [hq] at hin ⊢
 have hs0:(0:Int)<2 ^ (64 - m):=Int.pow_pos (by omega)
 have hn0:(0:Int)<2 ^ m:=Int.pow_pos (by omega)
 have hh:=OG (n:=m) (by omega)
 have hp:=aa7 (n:=m) (by omega) (by omega)
 have hd:=aeA (n:=m) (by omega)
 have aou:v * 2 ^ (64 - m)+q * 18446744073709551616=(v+q * 2 ^ m) * 2 ^ (64 - m):=by rw [hd];grind
 rw [aou] at hin ⊢
 rw [Int.fdiv_eq_ediv_of_nonneg _ (by omega),Int.mul_ediv_cancel _ (by omega)]
 have hmod:v % 2 ^ m=(v+q * 2 ^ m) % 2 ^ m:=by rw [Int.add_mul_emod_self_right]
 rw [hmod]
 generalize v+q * 2 ^ m=r at *
 unfold JU at hin
 have hr1:r<2 ^ (m - 1):=by
  by_cases f:r<2 ^ (m - 1)
  ·exact f
  ·have:=Int.mul_le_mul_of_nonneg_right (show (2:Int) ^ (m - 1) <= r by omega) (show (0:Int) <= 2 ^ (64 - m) by omega)
   omega
 have hr2:-(2 ^ (m - 1)) <= r:=by
  by_cases f:-(2 ^ (m - 1)) <= r
  ·exact f
  ·have h3:=Int.mul_le_mul_of_nonneg_right (show r <= -(2 ^ (m - 1)) - 1 by omega) (show (0:Int) <= 2 ^ (64 - m) by omega)
   have h4:(-(2 ^ (m - 1)) - 1) * (2:Int) ^ (64 - m) = -(2 ^ (m - 1) * 2 ^ (64 - m)) - 2 ^ (64 - m):=by grind
   omega
 congr 3
 by_cases f:0 <= r
 ·rw [Int.emod_eq_of_lt f (by omega),if_neg (by omega)]
 ·have:r % 2 ^ m=r+2 ^ m:=by
   rw [<- Int.add_emod_right,Int.emod_eq_of_lt (by omega) (by omega)]
  rw [this,if_pos (by omega)];omega
theorem OH {k:Nat} {pc a b c d e f g h:Int} {ov:Bool} {t1 t2 t3 t4 t5 t6 t7 t8 t9:Int} {t10:Bool}:∀ (R:List dz) (j:Nat),R.length<j -> R.length <= 900 -> (∀ r∈R,r.2.2 <= 1000) ->
  R8 k j pc a b c d e f g h R.reverse ov t1 t2 t3 t4 t5 t6 t7 t8 t9 t10 (R.length:Int)=some ((((o9 pc R).1,(a,b,c,d,e,f,g,h),(o9 pc R).2.reverse,ov),()),())
 | [],j,hj,_,_=>by
  obtain ⟨j',rfl⟩:∃ j',j=j'+1:=⟨j - 1,by omega⟩
  rw [UU,R7,Rk (by simp)]
  rfl
 | r::R,j,hj,hl,hb=>by
  obtain ⟨j',rfl⟩:∃ j',j=j'+1:=⟨j - 1,by omega⟩
  simp only [List.length_cons] at hj hl
  have hlen:((R.reverse++[r]).length:Int)=(R.length:Int)+1:=by simp
  have hw:IntKind.i64.wrap (((r::R).length:Int) - 1)=(R.length:Int):=by simp only [List.length_cons];rw [Ua (by omega) (by omega)];omega
  have hrd:rd (R.reverse++[r]) (R.length:Int) (0,0,0)=r:=by rw [Px,j6 (by simp)];simp
  have htk:(R.reverse++[r]).take (R.length:Int).toNat=R.reverse:=by
   rw [Int.toNat_natCast,List.take_append_of_le_length (by simp)];exact List.take_of_length_le (by simp)
  have hup:∀ q:dz,upd (R.reverse++[r]) (R.length:Int) q=R.reverse++[q]:=fun q=>by
   rw [Mf,List.set_append_right _ _ (by simp)];simp
  have hr:=hb r List.mem_cons_self
  rw [List.reverse_cons,UU,R7,hw,Rj (by simp only [List.length_cons];omega),Lf (by omega) (by omega),hrd,htk,o9]
  by_cases e1:r.2.1<pc
  ·rw [Rj e1,if_pos e1,Lf (by omega) (by omega),Rc (by omega) (by omega) (by omega),hup]
   by_cases e2:r.2.2>0
   ·rw [Rj e2,if_pos e2,Ua (by omega) (by omega),List.reverse_cons]
   ·rw [Rk e2,if_neg e2,List.length_reverse]
    exact OH R j' (by omega) (by omega) (fun q hq=>hb q (List.mem_cons_of_mem _ hq))
  ·rw [Rk e1,if_neg e1,List.reverse_cons]
theorem akn {x:I4} (h:ji x=true):(0 <= x.2.1 /\ x.2.1<8) /\ 0 <= x.2.2.1:=by
 have h0:x.1=0 \/ x.1=11 -> x.2.1=0 /\ x.2.2.1=0:=fun e=>by
  rcases e with e | e <;> (have:x.2.1=0 /\ x.2.2.1=0 /\ x.2.2.2=0:=by simpa [ji,e] using h) <;> exact ⟨this.1,this.2.1⟩
 by_cases e0:x.1=0 \/ x.1=11
 ·have:=h0 e0;omega
 by_cases e1:x.1=1
 ·have:=aam h e1;omega
 by_cases e2:x.1=2 \/ x.1=3 \/ x.1=4
 ·have:=CO h e2;omega
 by_cases e5:x.1=5
 ·have:=J2 h e5;omega
 by_cases e6:x.1=6
 ·have:=FV h e6;omega
 by_cases e7:x.1=7
 ·have:=Vu h e7;omega
 by_cases e8:x.1=8
 ·have:=aa1 h e8;omega
 by_cases e9:x.1=9 \/ x.1=10
 ·have:=akl h e9;omega
 exfalso
 have a0:(x.1==0)=false:=by rw [beq_eq_false_iff_ne];omega
 have a1:(x.1==11)=false:=by rw [beq_eq_false_iff_ne];omega
 have a2:(x.1==1)=false:=by rw [beq_eq_false_iff_ne];omega
 have a3:(x.1==2)=false:=by rw [beq_eq_false_iff_ne];omega
 have a4:(x.1==3)=false:=by rw [beq_eq_false_iff_ne];omega
 have a5:(x.1==4)=false:=by rw [beq_eq_false_iff_ne];omega
 have a6:(x.1==5)=false:=by rw [beq_eq_false_iff_ne];omega
 have a7:(x.1==6)=false:=by rw [beq_eq_false_iff_ne];omega
 have a8:(x.1==7)=false:=by rw [beq_eq_false_iff_ne];omega
 have a9:(x.1==8)=false:=by rw [beq_eq_false_iff_ne];omega
 have b0:(x.1==9)=false:=by rw [beq_eq_false_iff_ne];omega
 have b1:(x.1==10)=false:=by rw [beq_eq_false_iff_ne];omega
 simp [ji,a0,a1,a2,a3,a4,a5,a6,a7,a8,a9,b0,b1] at h
theorem agK {k:Nat} (hk:1000 <= k) {l:List I4} {n:Nat} {mem:Mem} {R:List dz} (hl:l.length <= 900) (hn:n<l.length) (hx:ji (l.getD n i0)=true) (hR:R.length <= 100) (hb:∀ r∈R,r.2.2 <= 1000) (hm:inM mem) :
  ado k l ((n:Int),mem,R.reverse,false)=some ((((go (l.getD n i0) n mem R).1,N7 (l.getD n i0) mem,(go (l.getD n i0) n mem R).2.reverse,(l.getD n i0).1==0),l.getD n i0,true,()),()):=by
 unfold ado WE Wh
 simp only
 rw [cond_false,Rk (by omega),Rk (by omega),Pw hn,Px,ags,Option.bind_some,hx]
 simp only [Bool.not_true,cond_false]
 rw [Lg (by simp only [List.length_reverse];omega)]
 simp only [Option.bind_some]
 rw [Pw hn,Px]
 generalize l.getD n i0=x at hx ⊢
 have hab:=akn hx
 have htp:0 <= Int.tmod x.2.2.1 8 /\ Int.tmod x.2.2.1 8<((8:Nat):Int):=⟨Int.tmod_nonneg _ hab.2,Int.tmod_lt_of_pos _ (by omega)⟩
 rw [Rb hab.1.1 hab.1.2,Rb htp.1 htp.2]
 have key:∀ (pc:Int) (mem':Mem) (R':List dz) (ov:Bool),R'.length <= 900 -> (∀ r∈R',r.2.2 <= 1000) -> ((GJ k pc mem'.1 mem'.2.1 mem'.2.2.1 mem'.2.2.2.1 mem'.2.2.2.2.1 mem'.2.2.2.2.2.1 mem'.2.2.2.2.2.2.1 mem'.2.2.2.2.2.2.2 R'.reverse ov).bind fun q=>some ((q.1.1,x,true,()),()))=some ((((o9 pc R').1,mem',(o9 pc R').2.reverse,ov),x,true,()),()):=fun pc mem' R' ov h1 h2=>by
  unfold GJ
  rw [List.length_reverse,OH R' k (by omega) h1 h2]
  rfl
 have htm:0 <= x.2.2.1 /\ x.2.2.1<8 -> Int.tmod x.2.2.1 8=x.2.2.1:=fun h=>Int.tmod_eq_of_lt h.1 h.2
 unfold go gU N7
 rw [Ua (n:=(n:Int)+1) (by omega) (by omega)]
 by_cases e0:x.1=0
 ·rw [show (x.1==0)=true by rw [e0];rfl,cond_true,if_pos e0,if_neg (by omega),if_neg (by omega),if_neg (by omega),if_neg (by omega),if_neg (by omega),if_neg (by omega)]
  exact key _ _ _ _ (by omega) hb
 rw [show (x.1==0)=false by simpa using e0,cond_false,if_neg e0]
 by_cases e1:x.1=1
 ·rw [show (x.1==1)=true by rw [e1];rfl,cond_true,if_neg (by omega),if_neg (by omega),if_pos e1]
  exact key _ _ _ _ (by omega) hb
 rw [show (x.1==1)=false by simpa using e1,cond_false,if_neg e1]
 by_cases e2:x.1=2
 ·have:=CO hx (.inl e2)
  rw [show (x.1==2)=true by rw [e2];rfl,cond_true,if_neg (by omega),if_neg (by omega),if_pos e2,htm this.2.1,amE]
  exact key _ _ _ _ (by omega) hb
 rw [show (x.1==2)=false by simpa using e2,cond_false,if_neg e2]
 by_cases e3:x.1=3
 ·have:=CO hx (.inr (.inl e3))
  rw [show (x.1==3)=true by rw [e3];rfl,cond_true,if_neg (by omega),if_neg (by omega),if_pos e3,htm this.2.1,amF]
  exact key _ _ _ _ (by omega) hb
 rw [show (x.1==3)=false by simpa using e3,cond_false,if_neg e3]
 by_cases e4:x.1=4
 ·have:=CO hx (.inr (.inr e4))
  rw [show (x.1==4)=true by rw [e4];rfl,cond_true,if_neg (by omega),if_neg (by omega),if_pos e4,htm this.2.1,amG]
  exact key _ _ _ _ (by omega) hb
 rw [show (x.1==4)=false by simpa using e4,cond_false,if_neg e4]
 by_cases e5:x.1=5
 ·have:=J2 hx e5
  rw [show (x.1==5)=true by rw [e5];rfl,cond_true,show Tv (α:=Int) 8 mem x.2.1 0=mg mem x.2.1 from rfl,agI k (aic hm _) this.2.2.1 this.2.2.2,Option.bind_some,if_neg (by omega),if_neg (by omega),if_pos e5]
  exact key _ _ _ _ (by omega) hb
 rw [show (x.1==5)=false by simpa using e5,cond_false,if_neg e5]
 by_cases e6:x.1=6
 ·have:=FV hx e6
  rw [show (x.1==6)=true by rw [e6];rfl,cond_true,show Tv (α:=Int) 8 mem x.2.1 0=mg mem x.2.1 from rfl,agJ k this.2.2.1 this.2.2.2,Option.bind_some,if_neg (by omega),if_neg (by omega),if_pos e6]
  exact key _ _ _ _ (by omega) hb
 rw [show (x.1==6)=false by simpa using e6,cond_false,if_neg e6]
 by_cases e7:x.1=7
 ·have:=Vu hx e7
  rw [show (x.1==7)=true by rw [e7];rfl,cond_true,show Tv (α:=Int) 8 mem x.2.1 0=mg mem x.2.1 from rfl,if_pos e7]
  by_cases e:mg mem x.2.1=0
  ·rw [show (mg mem x.2.1==0)=true by rw [e];rfl,cond_true,if_pos e,Ua (by omega) (by omega)]
   exact key _ _ _ _ (by omega) hb
  ·rw [show (mg mem x.2.1==0)=false by simpa using e,cond_false,if_neg e]
   exact key _ _ _ _ (by omega) hb
 rw [show (x.1==7)=false by simpa using e7,cond_false,if_neg e7]
 by_cases e8:x.1=8
 ·have h8:=aa1 hx e8
  rw [show (x.1==8)=true by rw [e8];rfl,cond_true,if_pos e8,Rh (by simp only [List.length_reverse,List.length_cons,List.length_nil];omega),Ua (n:=(n:Int)+x.2.2.1) (by omega) (by omega),Ua (n:=x.2.2.2 - 1) (by omega) (by omega),<- List.reverse_cons]
  exact key _ _ _ _ (by simp only [List.length_cons];omega) (fun r hr=>by
   rcases List.mem_cons.1 hr with rfl | hr
   ·simp only;omega
   ·exact hb r hr)
 rw [show (x.1==8)=false by simpa using e8,cond_false,if_neg e8]
 exact key _ _ _ _ (by omega) hb
abbrev fq:=Int×Int×Int×List I4×List I4×List I4
noncomputable def cst (l:List I4):Int×Int×List (Int×Int):=(yc l).getD (0,0,[])
def X0 (l:List I4):Bool:=l.any fun i=>i.1==9
theorem OI (l:List I4):aib l (yc l)=some ((cst l,qo l,()),()):=by
 unfold cst yc
 cases h:qo l with
 | false=>rfl
 | true=>rfl
theorem Vw:qo []=false:=by
 cases h:qo [] with
 | false=>rfl
 | true=>obtain ⟨ps,g⟩:=y7.1 h;exact absurd g.len1 (by simp)
theorem SH {l:List I4} (h:qo l=false):cst l=(0,0,[]):=by unfold cst yc;rw [h];rfl
theorem aeH {l:List I4} {ps:List Int} (g:w9 l ps):cst l=Vr l ps:=by unfold cst;rw [DY g];rfl
theorem agL (l:List I4):0 <= (cst l).1 /\ (cst l).1 <= 9600:=by
 cases h:qo l with
 | false=>rw [SH h];simp
 | true =>
  obtain ⟨ps,g⟩:=y7.1 h
  have:=M6 g ((0:Nat):Int) ((tms l).length:Int)
  rw [SC] at this
  rw [aeH g];exact this
theorem KM (l:List I4):(cst l).2.2.length <= 24:=by
 unfold cst
 cases h:yc l with
 | none=>simp
 | some c=>exact WX h
theorem agM {k:Nat} (hk:1000 <= k) {l:List I4} (hl:l.length <= 900):abU k l=some ((X0 l,()),()):=by
 unfold abU
 have:=K9 (fun j i=>IB k j l i) l i0 (fun i=>i.1==9) (some ((true,()),())) (some ((false,()),())) (fun j n hn=>by
  show IB k (j+1) l (n:Int)=_
  rw [Ug,QF,Rj (by omega),Pw hn,Me (by omega),Px]) (fun j=>by
  show IB k (j+1) l (l.length:Int)=_
  rw [Ug,QF,Rk (by omega)]) k (by omega)
 refine Eq.trans this ?_
 unfold X0
 cases l.any fun i=>i.1==9 <;> rfl
noncomputable def BA (t:fq):Int :=
 bif decide (t.1<0) then 1 else bif decide (t.1>63) then 1 else bif decide (t.2.1<1) then 9 else bif decide (t.2.1>16384) then 9 else
 bif decide (t.2.2.1<1) then 9 else bif decide (t.2.2.1>t.2.1) then 9 else
 bif !qo t.2.2.2.1 then 2 else bif !(((t.2.2.2.2.1.length:Int)==0)||qo t.2.2.2.2.1) then 2 else bif !(((t.2.2.2.2.2.length:Int)==0)||qo t.2.2.2.2.2) then 2 else
 bif X0 t.2.2.2.2.2 then 2 else bif decide ((cst t.2.2.2.1).1>t.2.2.1) then 10 else bif decide ((cst t.2.2.2.2.1).1>(cst t.2.2.2.1).1) then 12 else 0
theorem amH {α:Type} {c:Bool} {a b:α}:(bif c then some ((a,()),()) else some ((b,()),()))=some (((bif c then a else b),()),()):=by cases c <;> rfl
def CP (t:fq):Prop:=t.2.2.2.1.length <= 900 /\ t.2.2.2.2.1.length <= 900 /\ t.2.2.2.2.2.length <= 900
theorem X3 {k:Nat} (hk:1000 <= k) {t:fq} (h:CP t):S68 k t=some ((BA t,()),()):=by
 unfold S68 BA
 simp only [M7 hk h.1,M7 hk h.2.1,M7 hk h.2.2,agM hk h.2.2,OI,Option.bind_some,amH]
 obtain ⟨r,p,e,m,w,o⟩:=t
 simp only
 congr 3
 cases decide (r<0) with | true=>rfl | false =>
 cases decide (r>63) with | true=>rfl | false =>
 cases decide (p<1) with | true=>rfl | false =>
 cases decide (p>16384) with | true=>rfl | false =>
 cases decide (e<1) with | true=>rfl | false =>
 cases decide (e>p) with | true=>rfl | false =>
 cases qo m with | false=>rfl | true =>
 simp only [cond_false,cond_true,Bool.not_true,Bool.not_false]
 have hm:=(agL m).1
 have hw:(decide ((w.length:Int)>0)) = !((w.length:Int)==0):=by
  rw [Bool.eq_iff_iff,Bool.not_eq_true',decide_eq_true_iff,beq_eq_false_iff_ne];omega
 have ho:(decide ((o.length:Int)>0)) = !((o.length:Int)==0):=by
  rw [Bool.eq_iff_iff,Bool.not_eq_true',decide_eq_true_iff,beq_eq_false_iff_ne];omega
 rw [hw,ho]
 have fin:∀ x:Bool,((w.length:Int)==0)=x -> (x=true -> decide ((cst w).1>(cst m).1)=false):=fun x e hx=>by
  subst hx
  have:w=[]:=List.length_eq_zero_iff.1 (by have:=eq_of_beq e;omega)
  rw [this,SH Vw];exact decide_eq_false (by simp only;omega)
 have fo:∀ x:Bool,((o.length:Int)==0)=x -> (x=true -> X0 o=false):=fun x e hx=>by
  subst hx
  have:o=[]:=List.length_eq_zero_iff.1 (by have:=eq_of_beq e;omega)
  rw [this];rfl
 have fin:=fin _ rfl
 have fo:=fo _ rfl
 revert fin fo
 generalize ((w.length:Int)==0)=a1
 generalize ((o.length:Int)==0)=a2
 generalize qo w=a3
 generalize qo o=a4
 generalize X0 o=a5
 generalize decide ((cst m).1>e)=a6
 generalize decide ((cst w).1>(cst m).1)=a7
 intro fin fo
 cases a1 <;> cases a2 <;> cases a3 <;> cases a4 <;> cases a5 <;> cases a6 <;> cases a7 <;> first | rfl | (cases fin rfl;done) | (cases fo rfl;done)
noncomputable def jr (t:fq):Int×Int×List (Int×Int) :=
 if BA t=0 then ((cst t.2.2.2.1).1,bif qo t.2.2.2.2.1 then (cst t.2.2.2.2.1).1 else (cst t.2.2.2.1).2.1,(cst t.2.2.2.1).2.2++(cst t.2.2.2.2.1).2.2) else (0,0,[])
theorem SI {k:Nat} (hk:1000 <= k) {t:fq} (h:CP t):aaI k t=some (((jr t).1,(jr t).2.1,(jr t).2.2,()),()):=by
 have h1:=KM t.2.2.2.1
 have h2:=KM t.2.2.2.2.1
 unfold aaI jr
 rw [X3 hk h,Option.bind_some]
 by_cases hm:BA t=0
 ·have hw:decide ((t.2.2.2.2.1.length:Int)>0)=qo t.2.2.2.2.1:=by
   have:(((t.2.2.2.2.1.length:Int)==0)||qo t.2.2.2.2.1)=true:=by
    cases hc:(((t.2.2.2.2.1.length:Int)==0)||qo t.2.2.2.2.1) with
    | true=>rfl
    | false =>
     exfalso
     unfold BA at hm
     rw [hc] at hm
     revert hm
     cases decide (t.1<0) <;> cases decide (t.1>63) <;> cases decide (t.2.1<1) <;> cases decide (t.2.1>16384) <;> cases decide (t.2.2.1<1) <;> cases decide (t.2.2.1>t.2.1) <;> cases qo t.2.2.2.1 <;> simp
   rw [Bool.or_eq_true,beq_iff_eq] at this
   rw [Bool.eq_iff_iff,decide_eq_true_iff]
   constructor
   ·intro h;rcases this with e | e
    ·omega
    ·exact e
   ·intro e
    rcases Nat.eq_zero_or_pos t.2.2.2.2.1.length with e2 | e2
    ·rw [List.length_eq_zero_iff.1 e2,Vw] at e;cases e
    ·omega
  rw [if_pos hm]
  simp only [hm,bne_self_eq_false,cond_false,M7 hk h.1,M7 hk h.2.1,OI,Option.bind_some,hw]
  unfold QH
  cases qo t.2.2.2.2.1 <;> (simp only [cond_true,cond_false];rw [Rh (by simp only [List.length_nil];omega),Rh (by simp only [List.nil_append];omega)];rfl)
 ·rw [if_neg hm]
  simp only [bne_iff_ne.2 hm,cond_true]
structure MT (iy rank:Int) (t:fq):Prop where
 rank:t.1=rank
 per:20 <= t.2.1 /\ t.2.1 <= 130
 en:t.2.1 - 9 <= t.2.2.1 /\ t.2.2.1 <= t.2.1
 main:∃ m,t.2.2.2.1=Tr.prog m /\ Mp iy m /\ m.len <= 22
 way:t.2.2.2.2.1=[] \/ t.2.2.2.2.1=[(1,0,0,99),(0,0,0,0)] \/ t.2.2.2.2.1=[(0,0,0,0)]
 opt:t.2.2.2.2.2=[] \/ ∃ o,t.2.2.2.2.2=Tr.prog o /\ Mp 0 o /\ o.len <= 22
theorem MT.light {iy rank:Int} {t:fq} (h:MT iy rank t):CP t:=by
 obtain ⟨m,e,_,hm⟩:=h.main
 refine ⟨by rw [e,vo];omega,?_,?_⟩
 ·rcases h.way with e | e | e <;> rw [e] <;> simp
 ·rcases h.opt with e | ⟨o,e,_,ho⟩
  ·rw [e];simp
  ·rw [e,vo];omega
theorem Vx {k:Nat} (hk:1000 <= k) {p:List Int} {n r pe e:Int} (a b c:Int) {m w:List I4} {iy:Int} (hp:zk p n) (h1:20 <= pe /\ pe <= 130) (h2:pe - 9 <= e /\ e <= pe) (h3:∃ t,m=Tr.prog t /\ Mp iy t /\ t.len <= 22) (h4:w=[] \/ w=[(1,0,0,99),(0,0,0,0)] \/ w=[(0,0,0,0)]) :
  ∃ t n',UZ k p n a b c r pe e m w []=some ((t,()),(p,n',()),()) /\ zk p n' /\ MT iy r t:=by
 unfold UZ
 obtain ⟨v,n1,e1,hv,hp1⟩:=ny k hp (show (0:Int)<3 by omega)
 rw [e1,Option.bind_some]
 simp only
 cases v==0 with
 | false=>exact ⟨_,_,rfl,hp1,⟨rfl,h1,h2,h3,h4,.inl rfl⟩⟩
 | true =>
  obtain ⟨o,n2,e2,hp2,ho,hol⟩:=aev hk (iy:=0) (by omega) hp1
  rw [cond_true,e2,Option.bind_some]
  exact ⟨_,_,rfl,hp2,⟨rfl,h1,h2,h3,h4,.inr ⟨o,rfl,ho,hol⟩⟩⟩
theorem ako {k:Nat} (hk:1000 <= k) {p:List Int} {n rank iy:Int} (hl:0 <= iy /\ iy <= 4) (hp:zk p n):∃ t n',S27 k p n rank iy=some ((t,()),(p,n',()),()) /\ zk p n' /\ MT iy rank t:=by
 unfold S27
 obtain ⟨t,n1,e1,hp1,ht,htl⟩:=aev hk hl hp
 rw [e1,Option.bind_some]
 simp only
 obtain ⟨v2,n2,e2,hv2,hp2⟩:=ny k hp1 (show (0:Int)<12 by omega)
 rw [e2,Option.bind_some]
 simp only
 obtain ⟨v3,n3,e3,hv3,hp3⟩:=ny k hp2 (show (0:Int)<10 by omega)
 rw [e3,Option.bind_some]
 simp only
 obtain ⟨v4,n4,e4,hv4,hp4⟩:=ny k hp3 (show (0:Int)<3 by omega)
 rw [e4,Option.bind_some]
 simp only
 rw [Ua (n:=10 * v2) (by omega) (by omega),Ua (n:=20+10 * v2) (by omega) (by omega),Ua (n:=20+10 * v2 - v3) (by omega) (by omega)]
 cases v4==0 with
 | false=>exact Vx hk 0 0 0 hp4 (by omega) (by omega) ⟨t,rfl,ht,htl⟩ (.inl rfl)
 | true =>
  obtain ⟨v5,n5,e5,hv5,hp5⟩:=ny k hp4 (show (0:Int)<2 by omega)
  rw [cond_true,e5,Option.bind_some]
  simp only
  rw [Rc (by omega) (by simp only [List.length_cons,List.length_nil];omega) (by omega)]
  have:v5=0 \/ v5=1:=by omega
  refine Vx hk 0 0 0 hp5 (by omega) (by omega) ⟨t,rfl,ht,htl⟩ (.inr ?_)
  rcases this with e | e
  ·subst e;exact .inl rfl
  ·subst e;exact .inr rfl
theorem X4 (t:fq):(jr t).2.2.length <= 48:=by
 unfold jr
 split
 ·have:=KM t.2.2.2.1
  have:=KM t.2.2.2.2.1
  simp only [List.length_append];omega
 ·simp
theorem b0 {c:Bool} {a b:Int} (h:a≠0):(bif c then a else b)=0↔c=false /\ b=0:=by cases c <;> simp [h]
theorem OJ {t:fq}:BA t=0↔(0 <= t.1 /\ t.1 <= 63) /\ (1 <= t.2.1 /\ t.2.1 <= 16384) /\ (1 <= t.2.2.1 /\ t.2.2.1 <= t.2.1) /\ qo t.2.2.2.1=true /\ (t.2.2.2.2.1=[] \/ qo t.2.2.2.2.1=true) /\ (t.2.2.2.2.2=[] \/ qo t.2.2.2.2.2=true) /\ X0 t.2.2.2.2.2=false /\ (cst t.2.2.2.1).1 <= t.2.2.1 /\ (cst t.2.2.2.2.1).1 <= (cst t.2.2.2.1).1:=by
 have e:∀ l:List I4,((l.length:Int)=0 \/ qo l=true)↔(l=[] \/ qo l=true):=fun l=>by
  rw [show ((l.length:Int)=0)↔l=[] by rw [<- List.length_eq_zero_iff];omega]
 unfold BA
 rw [b0 (by decide),b0 (by decide),b0 (by decide),b0 (by decide),b0 (by decide),b0 (by decide),b0 (by decide),b0 (by decide),b0 (by decide),b0 (by decide),b0 (by decide),b0 (by decide)]
 rw [Bool.not_eq_false',Bool.not_eq_false',Bool.not_eq_false',Bool.or_eq_true,Bool.or_eq_true,beq_iff_eq,beq_iff_eq,e,e,decide_eq_false_iff_not,decide_eq_false_iff_not,decide_eq_false_iff_not,decide_eq_false_iff_not,decide_eq_false_iff_not,decide_eq_false_iff_not,decide_eq_false_iff_not,decide_eq_false_iff_not]
 constructor
 ·rintro ⟨a1,a2,a3,a4,a5,a6,a7,a8,a9,b1,b2,b3,_⟩
  exact ⟨by omega,by omega,by omega,a7,a8,a9,b1,by omega,by omega⟩
 ·rintro ⟨a1,a2,a3,a7,a8,a9,b1,b2,b3⟩
  exact ⟨by omega,by omega,by omega,by omega,by omega,by omega,a7,a8,a9,b1,by omega,by omega,rfl⟩
theorem BO:∀ {t:Tr} {d:Nat} {hs:List Int} {ia:Bool},Ok d hs ia t -> ∀ e∈t.spans,1 <= e.2 /\ e.2 <= t.cost
 | .nil,_,_,_,_,e,h=>by simp [Tr.spans] at h
 | .one x r,_,_,_,⟨_,_,_,h4⟩,e,h=>by have:=BO h4 e h;simp only [Tr.cost];omega
 | .lk a b r,_,_,_,⟨_,_,h3,h4⟩,e,h=>by
  have c1:=jh h3;have c2:=jh h4
  simp only [Tr.spans,List.mem_cons,List.mem_append] at h
  simp only [Tr.cost]
  rcases h with q | q | q
  ·subst q;simp only;omega
  ·have:=BO h3 e q;omega
  ·have:=BO h4 e q;omega
 | .ar x b r,_,_,_,⟨hx,_,h3,h4⟩,e,h=>by
  have c1:=jh h3;have c2:=jh h4
  have hr:=EN hx.1
  have hm:1 * b.cost <= y9 x * b.cost:=Int.mul_le_mul_of_nonneg_right hr.1 c1
  simp only [Tr.spans,List.mem_append] at h
  simp only [Tr.cost]
  rcases h with q | q
  ·have:=BO h3 e q;omega
  ·have:=BO h4 e q;omega
theorem aeI {t:Tr} (h:Ok 0 [] false t) (hl:t.len<24):cst t.prog=(t.cost+1,max (t.piece 1 (0,0)).1 ((t.piece 1 (0,0)).2+1),t.spans):=by unfold cst;rw [aa3 h hl];rfl
abbrev t0:fq:=(0,0,0,[],[],[])
def Vy (s:Int) (x:I4):Bool:=bif x.1==9 then x.2.1==s else false
def FW (s:Int) (t:fq):Bool:=(t.2.2.2.1++t.2.2.2.2.1).any (Vy s)
def FL (s:Int):List fq -> Nat -> Int
 | [],_=>8
 | t::r,i=>bif FW s t then (i:Int) else FL s r (i+1)
def E8 (l:List fq) (s:Int):Int:=FL s l 0
theorem aeJ {k:Nat} (hk:1000 <= k) {a b:List I4} (ha:a.length <= 900) (hb:b.length <= 900) (j:Nat):Yj k (j+3) [a,b] 0 [a,b] 2 0=some ((a++b,()),()):=by
 have e1:KZ k k ([]:List I4) [a,b] 2 0=some ((a++b,()),()):=by
  have:∀ j,KZ k (j+3) ([]:List I4) [a,b] 2 0=some ((a++b,()),()):=fun j=>by
   rw [L6,KY,Rj (by omega),Lf (by omega) (by simp),show rd [a,b] 0 []=a from rfl,Rh (by simp only [List.length_nil];omega),Ua (by omega) (by omega),List.nil_append]
   rw [L6,KY,Rj (by omega),Lf (by omega) (by simp),show rd [a,b] (0+1) []=b from rfl,Rh (by omega),Ua (by omega) (by omega)]
   rw [L6,KY,Rk (by omega)]
  have:=this (k - 3)
  rwa [show k - 3+3=k by omega] at this
 rw [QU,Uo,Rj (by omega),Lf (by omega) (by simp),show rd [a,b] 0 []=a from rfl,Ua (n:=0+(a.length:Int)) (by omega) (by omega),Rk (by omega),Ua (by omega) (by omega)]
 rw [QU,Uo,Rj (by omega),Lf (by omega) (by simp),show rd [a,b] (0+1) []=b from rfl,Ua (n:=0+(a.length:Int)+(b.length:Int)) (by omega) (by omega),Rk (by omega),Ua (by omega) (by omega)]
 rw [QU,Uo,Rk (by omega)]
 unfold S85
 rw [Rk (by omega),Ua (n:=0+(a.length:Int)+(b.length:Int) - 0) (by omega) (by omega)]
 by_cases h0:0+(a.length:Int)+(b.length:Int) - 0>0
 ·rw [Rj h0]
  unfold az
  rw [if_pos (by rw [Bool.and_eq_true];exact ⟨decide_eq_true (by omega),decide_eq_true (by simp only [List.length_nil];omega)⟩)]
  dsimp only
  rw [Rc (by omega) (by omega) (by omega),Option.bind_some]
  exact e1
 ·rw [Rk h0,Option.bind_some];exact e1
theorem akp {k:Nat} (hk:1000 <= k) {a b:List I4} (ha:a.length <= 900) (hb:b.length <= 900):S36 k [a,b]=some ((a++b,()),()):=by
 unfold S36
 have:=aeJ hk ha hb (k - 3)
 rwa [show k - 3+3=k by omega] at this
def jg (l:List fq):Prop:=l.length <= 100 /\ ∀ t∈l,CP t /\ (t.2.2.2.1++t.2.2.2.2.1).length <= 900
theorem aeK {k:Nat} {g:List fq -> Int -> Int -> Option ((Int×Unit)×Unit)} {l:List fq} {s:Int} {i:Nat} (hi:i <= 100) {code:List I4} (hc:code.length <= 900) (j:Nat) (hj:code.length<j) :
  KW k g j l s (i:Int) code 0=bif code.any (Vy s) then some (((i:Int),()),()) else g l s ((i+1:Nat):Int):=by
 exact K9 (fun j n=>KW k g j l s (i:Int) code n) code i0 (Vy s) (some (((i:Int),()),())) (g l s ((i+1:Nat):Int)) (fun j n hn=>by
  show KW k g (j+1) l s (i:Int) code (n:Int)=_
  rw [XM,XL,Rj (by omega),Pw hn,Pw hn,Px,Me (by omega)]
  unfold Vy
  cases (code.getD n i0).1==9 with
  | true=>cases (code.getD n i0).2.1==s <;> rfl
  | false=>rfl) (fun j=>by
  show KW k g (j+1) l s (i:Int) code (code.length:Int)=_
  rw [XM,XL,Rk (by omega),Me (by omega)]) j hj
theorem Vz {k:Nat} (hk:1000 <= k) {l:List fq} (h:jg l) {s:Int}:∀ (d i j:Nat),i+d=l.length -> d<j -> XP k j l s (i:Int)=some ((FL s (l.drop i) i,()),())
 | 0,i,j,h1,hj=>by
  obtain ⟨j',rfl⟩:∃ j',j=j'+1:=⟨j - 1,by omega⟩
  rw [XQ,XO,Rk (by omega),drop_nil (by omega),FL]
 | d+1,i,j,h1,hj=>by
  obtain ⟨j',rfl⟩:∃ j',j=j'+1:=⟨j - 1,by omega⟩
  have ih:=Vz hk h (s:=s) d (i+1) j' (by omega) (by omega)
  have ht:=h.2 _ (iq (z:=t0) (l:=l) (i:=i) (by omega))
  have hl:=h.1
  have hlt:=ht.1
  unfold CP at hlt
  have e:l.getD i (0,0,0,[],[],[])=l.getD i t0:=rfl
  rw [XQ,XO,Rj (by omega),Pw (by omega),Px,e,Rh (by simp only [List.length_nil];omega),Pw (by omega),List.nil_append,Rh (by omega),aeK (by omega) ht.2 k (by omega),drop_cons t0 (show i<l.length by omega),FL,ih]
  unfold FW
  cases ((l.getD i t0).2.2.2.1++(l.getD i t0).2.2.2.2.1).any (Vy s) <;> rfl
theorem akq {k:Nat} (hk:1000 <= k) {l:List fq} (h:jg l) (s:Int):S41 k l s=some ((E8 l s,()),()):=by
 have:=h.1
 exact Vz hk h l.length 0 k (by omega) (by omega)
def spF (l:List fq) (i:Int):Int -> List (Int×Int) -> Int
 | m,[]=>m
 | m,e::r=>spF l i (bif decide (E8 l e.1 <= i) then mx m e.2 else m) r
noncomputable def byG (l:List fq) (i:Int):List fq -> Nat -> Int -> Int
 | [],_,m=>m
 | t::r,n,m=>byG l i r (n+1) (bif (n:Int)==i then m else spF l i m (jr t).2.2)
noncomputable def byT (l:List fq) (i:Int):Int:=byG l i l 0 0
theorem OL {k:Nat} (hk:1000 <= k) {g:List fq -> Int -> Int -> Int -> Option ((Int×Unit)×Unit)} {l:List fq} (h:jg l) {i:Int} {n:Nat} (hn:n <= 100) {sp:List (Int×Int)} (hs:sp.length <= 900):∀ (d a j:Nat) (m:Int),a+d=sp.length -> d<j ->
  QJ k g j l i m (n:Int) sp (a:Int)=g l i (spF l i m (sp.drop a)) ((n+1:Nat):Int)
 | 0,a,j,m,h1,hj=>by
  obtain ⟨j',rfl⟩:∃ j',j=j'+1:=⟨j - 1,by omega⟩
  rw [Ui,QI,Rk (by omega),drop_nil (by omega),spF,Me (by omega)]
 | d+1,a,j,m,h1,hj=>by
  obtain ⟨j',rfl⟩:∃ j',j=j'+1:=⟨j - 1,by omega⟩
  have ih:=fun m=>OL hk (g:=g) h (i:=i) hn hs d (a+1) j' m (by omega) (by omega)
  rw [Ui,QI,Rj (by omega),Pw (by omega),Px,akq hk h,Option.bind_some,Me (by omega),drop_cons (0,0) (show a<sp.length by omega),spF]
  simp only
  cases decide (E8 l (sp.getD a (0,0)).1 <= i) with
  | true=>rw [cond_true,cond_true,Pw (by omega),ih]
  | false=>rw [cond_false,cond_false,ih]
theorem OM {k:Nat} (hk:1000 <= k) {l:List fq} (h:jg l) {i:Int}:∀ (d n j:Nat) (m:Int),n+d=l.length -> d<j -> QL k j l i m (n:Int)=some ((byG l i (l.drop n) n m,()),())
 | 0,n,j,m,h1,hj=>by
  obtain ⟨j',rfl⟩:∃ j',j=j'+1:=⟨j - 1,by omega⟩
  rw [Uj,QK,Rk (by omega),drop_nil (by omega),byG]
 | d+1,n,j,m,h1,hj=>by
  obtain ⟨j',rfl⟩:∃ j',j=j'+1:=⟨j - 1,by omega⟩
  have ih:=fun m=>OM hk h (i:=i) d (n+1) j' m (by omega) (by omega)
  have ht:=h.2 _ (iq (z:=t0) (l:=l) (i:=n) (by omega))
  have hl:=h.1
  have hcl:=X4 (l.getD n t0)
  rw [Uj,QK,Rj (by omega),Me (by omega),drop_cons t0 (show n<l.length by omega),byG]
  cases (n:Int)==i with
  | true=>rw [cond_true,cond_true,ih]
  | false =>
   rw [cond_false,cond_false,Pw (by omega),Px,show l.getD n (0,0,0,[],[],[])=l.getD n t0 from rfl,SI hk ht.1,Option.bind_some]
   exact (OL hk h (by omega) (sp:=(jr (l.getD n t0)).2.2) (by omega) _ 0 k m (Nat.zero_add _) (by omega)).trans (ih _)
theorem aap {k:Nat} (hk:1000 <= k) {l:List fq} (h:jg l) (i:Int):afh k l i=some ((byT l i,()),()):=by
 have:=h.1
 exact OM hk h l.length 0 k 0 (by omega) (by omega)
structure aaq (iy:Int) (l:List fq):Prop where
 mt:∀ j,j<l.length -> ∃ r,MT iy r (l.getD j t0) /\ 3 * (j:Int) <= r /\ r <= 3 * (j:Int)+2
 may:∀ j,j<l.length -> BA (l.getD j t0)=0
theorem MT.code {iy rank:Int} {t:fq} (h:MT iy rank t):(t.2.2.2.1++t.2.2.2.2.1).length <= 30:=by
 obtain ⟨m,e,_,hm⟩:=h.main
 rw [List.length_append,e,vo]
 rcases h.way with e | e | e <;> rw [e] <;> simp <;> omega
theorem aaq.light {iy:Int} {l:List fq} (h:aaq iy l) (hl:l.length <= 100):jg l:=⟨hl,fun t ht=>by
 obtain ⟨j,hj,e⟩:=List.mem_iff_getElem.1 ht
 obtain ⟨r,hm,_⟩:=h.mt j hj
 have e2:l.getD j t0=t:=by rw [<- e,List.getD_eq_getElem?_getD,List.getElem?_eq_getElem hj];rfl
 rw [e2] at hm
 exact ⟨hm.light,by have:=hm.code;omega⟩⟩
theorem ME (s:Int):∀ (l:List fq) (i:Nat),FL s l i=8 /\ (∀ n,n<l.length -> FW s (l.getD n t0)=false) \/ ∃ n,n<l.length /\ FL s l i=((i+n:Nat):Int) /\ FW s (l.getD n t0)=true
 | [],i=>.inl ⟨rfl,fun n h=>by simp at h⟩
 | t::r,i=>by
  rw [FL]
  cases h:FW s t with
  | true=>exact .inr ⟨0,by simp,rfl,h⟩
  | false =>
   rw [cond_false]
   rcases ME s r (i+1) with ⟨e,q⟩ | ⟨n,h1,h2,h3⟩
   ·refine .inl ⟨e,fun n hn=>?_⟩
    cases n with
    | zero=>exact h
    | succ n=>exact q n (by simp only [List.length_cons] at hn;omega)
   ·exact .inr ⟨n+1,by simp only [List.length_cons];omega,by rw [h2];congr 1;omega,h3⟩
theorem VA (s:Int):∀ (l:List fq) (i n:Nat),n<l.length -> FW s (l.getD n t0)=true -> FL s l i <= ((i+n:Nat):Int)
 | [],i,n,h,_=>by simp at h
 | t::r,i,n,h,hl=>by
  rw [FL]
  cases ht:FW s t with
  | true=>rw [cond_true];omega
  | false =>
   rw [cond_false]
   cases n with
   | zero=>rw [show (t::r).getD 0 t0=t from rfl,ht] at hl;cases hl
   | succ n =>
    have:=VA s r (i+1) n (by simp only [List.length_cons] at h;omega) hl
    omega
theorem aie (a b:Int):a <= mx a b:=by unfold mx;split <;> omega
theorem X5 {l:List fq} {i:Int}:∀ (sp:List (Int×Int)) (m:Int),m <= spF l i m sp
 | [],m=>Int.le_refl _
 | e::r,m=>by
  rw [spF]
  cases decide (E8 l e.1 <= i) with
  | true=>exact Int.le_trans (aie m e.2) (X5 r _)
  | false=>exact X5 r m
theorem X6 {l:List fq} {i:Int}:∀ (r:List fq) (n:Nat) (m:Int),m <= byG l i r n m
 | [],n,m=>Int.le_refl _
 | t::r,n,m=>by
  rw [byG]
  cases (n:Int)==i with
  | true=>exact X6 r _ m
  | false=>exact Int.le_trans (X5 _ m) (X6 r _ _)
def up (r v:Int):Int:=(r+v - 1) / v
theorem up_tdiv {r v:Int} (hr:0 <= r) (hv:1 <= v):(if Int.tmod r v>0 then Int.tdiv r v+1 else Int.tdiv r v)=up r v:=by
 rw [Int.tdiv_eq_ediv_of_nonneg hr,Int.tmod_eq_emod_of_nonneg hr]
 unfold up
 have h1:=Int.emod_nonneg r (show v≠0 by omega)
 have h2:=Int.emod_lt_of_pos r (show 0<v by omega)
 have h3:=Int.mul_ediv_add_emod r v
 split
 ·rename_i h
  have:r+v - 1=(r % v - 1)+v * (r / v+1):=by rw [Int.mul_add,Int.mul_one];omega
  rw [this,Int.add_mul_ediv_left _ _ (by omega),Int.ediv_eq_zero_of_lt (a:=r % v - 1) (b:=v) (by omega) (by omega)];omega
 ·have:r+v - 1=(v - 1)+v * (r / v):=by omega
  rw [this,Int.add_mul_ediv_left _ _ (by omega),Int.ediv_eq_zero_of_lt (a:=v - 1) (b:=v) (by omega) (by omega)];omega
theorem OO {r v:Int} (hr:0 <= r) (hv:1 <= v):0 <= up r v /\ up r v <= r:=by
 unfold up
 refine ⟨Int.ediv_nonneg (by omega) (by omega),?_⟩
 rw [<- Int.lt_add_one_iff]
 refine Int.ediv_lt_of_lt_mul (by omega) ?_
 have:(r+1) * 1 <= (r+1) * v:=Int.mul_le_mul_of_nonneg_left hv (by omega)
 have:r * 1 <= r * v:=Int.mul_le_mul_of_nonneg_left hv hr
 rw [Int.add_mul];omega
theorem aar {r s v:Int} (h:r <= s) (hv:1 <= v):up r v <= up s v:=Int.ediv_le_ediv (by omega) (by omega)
theorem aas {r v:Int} (hr:0 <= r) (hv:1 <= v):0 <= Int.tdiv r v /\ Int.tdiv r v <= r:=by
 rw [Int.tdiv_eq_ediv_of_nonneg hr]
 exact ⟨Int.ediv_nonneg hr (by omega),Int.ediv_le_self _ hr⟩
theorem aat (k:Nat) {a b:Int} (ha:0 <= a /\ a <= 4611686018427387904) (hb:1 <= b):ab2 k a b=some ((up a b,true,()),()):=by
 have h:=aas ha.1 hb
 have e:=up_tdiv ha.1 hb
 unfold ab2
 rw [Rk (by omega),Rk (by omega),Ri (by omega),Ri (by omega),Ua (n:=Int.tdiv a b) (by omega) (by omega),Ua (n:=Int.tdiv a b+1) (by omega) (by omega),<- e]
 split
 ·rename_i h1;rw [Rj h1]
 ·rename_i h1;rw [Rk h1]
theorem SK (k:Nat) {a b:Int} (ha:0 <= a) (hb:0 <= b) (h:a+b <= 4611686018427387904):aaJ k a b=some ((a+b,true,()),()):=by
 unfold aaJ
 rw [Ua (n:=9223372036854775807 - b) (by omega) (by omega),Rk (by omega),Ua (by omega) (by omega)]
theorem aau (k:Nat) {a b:Int} (ha:0 <= a /\ a <= 4611686018427387904) (hb:0 <= b /\ b <= 4611686018427387904) (h:a * b <= 4611686018427387904):ab3 k a b=some ((a * b,true,()),()):=by
 have h0:=Int.mul_nonneg ha.1 hb.1
 unfold ab3
 rw [Ua (n:=a * b) (by omega) (by omega)]
 by_cases hp:a>0
 ·have hd:=aas (r:=9223372036854775807) (v:=a) (by omega) (by omega)
  have hle:b <= Int.tdiv 9223372036854775807 a:=by
   rw [Int.tdiv_eq_ediv_of_nonneg (by omega)]
   exact (Int.le_ediv_iff_mul_le hp).2 (by rw [Int.mul_comm];omega)
  rw [Rj hp,Ri (by omega),Ua (n:=Int.tdiv 9223372036854775807 a) (by omega) (by omega),Rk (by omega)]
 ·rw [Rk hp]
noncomputable def VB (l:List fq) (i:Nat):Bool:=(BA (l.getD i t0) != 0)||(decide ((i:Int)>0)&&decide ((l.getD (i - 1) t0).1≥(l.getD i t0).1))
noncomputable def yj (l:List fq):Bool:=!vg (VB l) l.length 0
theorem aav {k:Nat} (hk:1000 <= k) {l:List fq} (h:jg l):abW k l=some ((yj l,()),()):=by
 have hl:=h.1
 unfold abW
 have:=aaY (L:=fun j i=>IC k j l i) (n:=l.length) (VB l) (some ((false,()),())) (some ((true,()),())) (fun j i hi=>by
  have ht:=h.2 _ (iq (z:=t0) hi)
  show IC k (j+1) l (i:Int)=_
  rw [Uh,QG,Rj (by omega),Pw hi,Px,show l.getD i (0,0,0,[],[],[])=l.getD i t0 from rfl,X3 hk ht.1,Option.bind_some,Me (by omega)]
  unfold VB
  simp only
  cases BA (l.getD i t0) != 0 with
  | true=>rfl
  | false =>
   rw [cond_false,Bool.false_or]
   by_cases h0:(i:Int)>0
   ·rw [Rj h0,Ua (n:=(i:Int) - 1) (by omega) (by omega),show (i:Int) - 1=((i - 1:Nat):Int) by omega,Pw hi,Pw (by omega),Px,decide_eq_true h0,Bool.true_and]
   ·rw [Rk h0,decide_eq_false h0,Bool.false_and,cond_false]) (fun j=>by
  show IC k (j+1) l (l.length:Int)=_
  rw [Uh,QG,Rk (by omega)]) l.length 0 k (by omega) (by omega)
 refine Eq.trans this ?_
 unfold yj
 cases vg (VB l) l.length 0 <;> rfl
theorem J5 {l:List I4} (h:qo l=true):(1 <= (cst l).1 /\ (cst l).1 <= 9600) /\ (1 <= (cst l).2.1 /\ (cst l).2.1 <= (cst l).1) /\ ∀ e∈(cst l).2.2,1 <= e.2 /\ e.2<(cst l).1:=by
 obtain ⟨t,ht,rfl,hl⟩:=GY h
 have hc:=WY ht hl
 obtain ⟨b1,b2,b3,b4⟩:=qp 1 (0,0) ht (by omega) (by simp) (by simp)
 simp only [Int.one_mul,Int.zero_add] at b3 b4
 rw [aeI ht hl]
 refine ⟨by simp only;omega,by simp only;omega,fun e he=>?_⟩
 have:=BO ht e he
 simp only;omega
structure CoS (t:fq):Prop where
 per:1 <= t.2.1 /\ t.2.1 <= 16384
 en:1 <= t.2.2.1 /\ t.2.2.1 <= t.2.1
 cost:1 <= (jr t).1 /\ (jr t).1 <= t.2.2.1
 lost:1 <= (jr t).2.1 /\ (jr t).2.1 <= (jr t).1
 spans:∀ e∈(jr t).2.2,1 <= e.2 /\ e.2<(jr t).1
theorem VD {t:fq} (hz:BA t=0):CoS t:=by
 obtain ⟨_,z2,z3,z4,z5,z6,z7,z8,z9⟩:=OJ.1 hz
 obtain ⟨m1,m2,m3⟩:=J5 z4
 have X7:jr t=((cst t.2.2.2.1).1,bif qo t.2.2.2.2.1 then (cst t.2.2.2.2.1).1 else (cst t.2.2.2.1).2.1,(cst t.2.2.2.1).2.2++(cst t.2.2.2.2.1).2.2):=by unfold jr;rw [if_pos hz]
 refine ⟨z2,z3,by rw [X7];simp only;omega,?_,fun e he=>?_⟩
 ·rw [X7]
  simp only
  cases h:qo t.2.2.2.2.1 with
  | false=>rw [cond_false];omega
  | true=>have:=J5 h;rw [cond_true];omega
 ·rw [X7] at he ⊢
  simp only [List.mem_append] at he ⊢
  rcases he with q | q
  ·exact m3 e q
  ·cases h:qo t.2.2.2.2.1 with
   | false=>rw [SH h] at q;cases q
   | true=>have:=(J5 h).2.2 e q;omega
theorem aif {a b c:Int} (h1:a <= c) (h2:b <= c):mx a b <= c:=by unfold mx;split <;> omega
theorem aeL {l:List fq} {i b:Int}:∀ (sp:List (Int×Int)) (m:Int),m <= b -> (∀ e∈sp,e.2 <= b) -> spF l i m sp <= b
 | [],m,h,_=>h
 | e::r,m,h,hs=>by
  rw [spF]
  refine aeL r _ ?_ (fun x hx=>hs x (by simp [hx]))
  cases decide (E8 l e.1 <= i) with
  | true=>exact aif h (hs e (by simp))
  | false=>exact h
theorem aeM {l:List fq} {i b:Int}:∀ (r:List fq) (n:Nat) (m:Int),m <= b -> (∀ t∈r,∀ e∈(jr t).2.2,e.2 <= b) -> byG l i r n m <= b
 | [],n,m,h,_=>h
 | t::r,n,m,h,hs=>by
  rw [byG]
  refine aeM r _ _ ?_ (fun x hx=>hs x (by simp [hx]))
  cases (n:Int)==i with
  | true=>exact h
  | false=>exact aeL _ m h (hs t (by simp))
theorem aeN {l:List fq} (h:∀ t∈l,CoS t) (i:Int):0 <= byT l i /\ byT l i <= 16384 :=
 ⟨X6 l 0 0,aeM l 0 0 (by omega) (fun t ht e he=>by have q:=h t ht;have:=q.spans e he;have:=q.cost;have:=q.en;have:=q.per;omega)⟩
def yt (r:Int):List (Int×Int) -> Int
 | []=>0
 | x::l=>up r x.1 * x.2+yt r l
noncomputable def pc1 (t:fq):Int×Int:=(t.2.1,(jr t).1)
noncomputable def qy:Int -> List fq -> Int
 | m,[]=>m
 | m,t::r=>qy (mx m (jr t).2.1) r
noncomputable def firstT (l:List fq) (i:Nat):Int:=(jr (l.getD i t0)).1+byT l (i:Int)
noncomputable def qj (l:List fq) (i:Nat) (apart r:Int):Int:=firstT l i+up r apart * qy 0 (l.take (i+1))+yt r ((l.take i).map pc1)
def CZ (en:Int) (right:Int -> Int):Nat -> Int -> Int -> Option (Int×Int×Int)
 | 0,_,_=>none
 | f+1,r,n=>if right r>en then some (0,0,14) else if right r=r then some (r,n,0) else CZ en right f (right r) (n+1)
theorem za {r:Int} (hr:0 <= r):∀ {l:List (Int×Int)},(∀ x∈l,1 <= x.1 /\ 0 <= x.2) -> 0 <= yt r l
 | [],_=>Int.le_refl _
 | x::l,h=>by
  have hx:=h x (by simp)
  have:=za hr (l:=l) (fun y hy=>h y (by simp [hy]))
  have:=Int.mul_nonneg (OO hr hx.1).1 hx.2
  rw [yt];omega
theorem OP {r s:Int} (h:r <= s):∀ {l:List (Int×Int)},(∀ x∈l,1 <= x.1 /\ 0 <= x.2) -> yt r l <= yt s l
 | [],_=>Int.le_refl _
 | x::l,hl=>by
  have hx:=hl x (by simp)
  have:=OP h (l:=l) (fun y hy=>hl y (by simp [hy]))
  have:=Int.mul_le_mul_of_nonneg_right (aar h hx.1) hx.2
  rw [yt,yt];omega
theorem aaw {r b:Int} (hr:0 <= r) (hb:0 <= b):∀ {l:List (Int×Int)},(∀ x∈l,1 <= x.1 /\ 0 <= x.2 /\ x.2 <= b) -> yt r l <= (l.length:Int) * (r * b)
 | [],_=>by simp [yt]
 | x::l,h=>by
  have hx:=h x (by simp)
  have h1:=aaw hr hb (l:=l) (fun y hy=>h y (by simp [hy]))
  have hu:=OO hr hx.1
  have h2:up r x.1 * x.2 <= r * b:=Int.mul_le_mul hu.2 hx.2.2 hx.2.1 hr
  rw [yt,List.length_cons,show ((l.length+1:Nat):Int)=(l.length:Int)+1 by omega,Int.add_mul,Int.one_mul];omega
theorem MF {en:Int} {right:Int -> Int} (hm:∀ a b,0 <= a -> a <= b -> right a <= right b):∀ (f:Nat) (r n:Int),0 <= r -> r <= right r -> en - r<(f:Int) -> 0<f -> ∃ x,CZ en right f r n=some x
 | 0,r,n,_,_,_,h=>absurd h (by omega)
 | f+1,r,n,h0,h1,h2,_=>by
  rw [CZ]
  split
  ·exact ⟨_,rfl⟩
  ·split
   ·exact ⟨_,rfl⟩
   ·rename_i h3 h4
    exact MF hm f (right r) (n+1) (by omega) (hm r (right r) h0 h1) (by omega) (by omega)
structure RS (l:List fq):Prop where
 light:jg l
 len:l.length <= 10
 co:∀ t∈l,CoS t
theorem VE {b:Int}:∀ (r:List fq) (m:Int),0 <= m -> m <= b -> (∀ t∈r,(jr t).2.1 <= b) -> 0 <= qy m r /\ qy m r <= b
 | [],m,h0,h,_=>⟨h0,h⟩
 | t::r,m,h0,h,hs=>by
  rw [qy]
  exact VE r _ (Int.le_trans h0 (aie _ _)) (aif h (hs t (by simp))) (fun x hx=>hs x (by simp [hx]))
theorem RS.first {l:List fq} (h:RS l) {i:Nat} (hi:i<l.length):1 <= firstT l i /\ firstT l i <= 32768:=by
 have hc:=h.co _ (iq (z:=t0) hi)
 have hb:=aeN h.co (i:Int)
 have:=hc.cost;have:=hc.en;have:=hc.per
 unfold firstT;omega
theorem RS.lost {l:List fq} (h:RS l) (i:Nat):0 <= qy 0 (l.take i) /\ qy 0 (l.take i) <= 16384 :=
 VE _ 0 (by omega) (by omega) (fun t ht=>by have q:=h.co t (List.mem_of_mem_take ht);have:=q.lost;have:=q.cost;have:=q.en;have:=q.per;omega)
theorem RS.jw {l:List fq} (h:RS l) (i:Nat):∀ x∈(l.take i).map pc1,1 <= x.1 /\ 0 <= x.2 /\ x.2 <= 16384:=fun x hx=>by
 obtain ⟨t,ht,rfl⟩:=List.mem_map.1 hx
 have q:=h.co t (List.mem_of_mem_take ht)
 have:=q.cost;have:=q.en;have:=q.per
 unfold pc1;simp only;omega
theorem RS.loss {l:List fq} (h:RS l) {i:Nat} {apart r:Int} (ha:1 <= apart) (hr:0 <= r /\ r <= 50000):0 <= up r apart * qy 0 (l.take (i+1)) /\ up r apart * qy 0 (l.take (i+1)) <= 819200000:=by
 have hl:=h.lost (i+1)
 have hu:=OO hr.1 ha
 have:=Int.mul_nonneg hu.1 hl.1
 have:up r apart * qy 0 (l.take (i+1)) <= 50000 * 16384:=Int.mul_le_mul (by omega) hl.2 hl.1 (by omega)
 omega
theorem RS.sum {l:List fq} (h:RS l) {i:Nat} {r:Int} (hr:0 <= r /\ r <= 50000):0 <= yt r ((l.take i).map pc1) /\ yt r ((l.take i).map pc1) <= 8192000000:=by
 have h0:=za hr.1 (l:=(l.take i).map pc1) (fun x hx=>⟨(h.jw i x hx).1,(h.jw i x hx).2.1⟩)
 have h1:=aaw hr.1 (show (0:Int) <= 16384 by omega) (h.jw i)
 have hl:((l.take i).map pc1).length <= 10:=by rw [List.length_map,List.length_take];have:=h.len;omega
 have h2:(((l.take i).map pc1).length:Int) * (r * 16384) <= 10 * (r * 16384):=Int.mul_le_mul_of_nonneg_right (by omega) (by omega)
 omega
theorem RS.right {l:List fq} (h:RS l) {i:Nat} (hi:i<l.length) {apart r:Int} (ha:1 <= apart) (hr:0 <= r /\ r <= 50000):firstT l i <= qj l i apart r /\ qj l i apart r <= 100000000000:=by
 have h1:=h.first hi;have h2:=h.loss (i:=i) ha hr;have h3:=h.sum (i:=i) hr
 unfold qj;omega
theorem FX {l:List fq} (h:RS l) {i:Nat} {apart:Int} (ha:1 <= apart):∀ a b,0 <= a -> a <= b -> qj l i apart a <= qj l i apart b:=fun a b h0 hab=>by
 have h1:=Int.mul_le_mul_of_nonneg_right (aar hab ha) (h.lost (i+1)).1
 have h2:=OP hab (l:=(l.take i).map pc1) (fun x hx=>⟨(h.jw i x hx).1,(h.jw i x hx).2.1⟩)
 unfold qj;omega
theorem aax {l:List fq} (h:yj l=true):∀ t∈l,BA t=0:=fun t ht=>by
 obtain ⟨j,hj,e⟩:=List.mem_iff_getElem.1 ht
 have e2:l.getD j t0=t:=by rw [<- e,List.getD_eq_getElem?_getD,List.getElem?_eq_getElem hj];rfl
 unfold yj at h
 rw [Bool.not_eq_true',nk] at h
 have:=h j (by omega) (by omega)
 unfold VB at this
 rw [Bool.or_eq_false_iff,e2] at this
 simpa using this.1
theorem MG {l:List fq} (h:yj l=true) (hL:jg l) (hl:l.length <= 10):RS l:=⟨hL,hl,fun t ht=>VD (aax h t ht)⟩
noncomputable def lq (l:List fq) (i apart:Int):Int×Int×Int :=
 if yj l=true /\ 0 <= i /\ i<(l.length:Int) /\ 1 <= apart then (CZ (l.getD i.toNat t0).2.2.1 (qj l i.toNat apart) 20000 (firstT l i.toNat) 1).getD (0,0,0) else (0,0,1)
theorem J6 {l:List fq} (h:RS l) {i:Nat} (hi:i<l.length) {apart:Int} (ha:1 <= apart):∃ y,CZ (l.getD i t0).2.2.1 (qj l i apart) 20000 (firstT l i) 1=some y:=by
 have hf:=h.first hi
 have hen:=(h.co _ (iq (z:=t0) hi)).en
 have aeO:=(h.co _ (iq (z:=t0) hi)).per
 exact MF (FX h ha) 20000 _ 1 (by omega) (h.right hi ha (by omega)).1 (by omega) (by omega)
theorem MH {l:List fq} (hr:yj l=true) {i:Nat} (hi:i<l.length) {apart:Int} (ha:1 <= apart) {y:Int×Int×Int} (hy:CZ (l.getD i t0).2.2.1 (qj l i apart) 20000 (firstT l i) 1=some y):lq l (i:Int) apart=y:=by
 unfold lq
 rw [if_pos ⟨hr,by omega,by omega,ha⟩,Int.toNat_natCast,hy];rfl
noncomputable def MI (t:fq):Int:=(jr t).1
def X8 (t:fq):Int:=t.2.1
theorem OQ {k:Nat} (hk:1000 <= k) {l:List fq} (hL:jg l) {i:Nat} (hi:i<l.length) {a b x2:Int}:∀ (d n j:Nat) (x:List Int) (x1:Int) (x3:List Int),n+d=i+1 -> d<j -> x.length <= n -> x3.length <= n ->
  QN k j l (i:Int) a b x x1 x2 x3 (n:Int)=some (((x++((l.take (i+1)).drop n).map MI,qy x1 ((l.take (i+1)).drop n),x2,x3++((l.take (i+1)).drop n).map X8),()),())
 | 0,n,j,x,x1,x3,h,hj,h1,h3=>by
  obtain ⟨j',rfl⟩:∃ j',j=j'+1:=⟨j - 1,by omega⟩
  rw [Uk,QM,Rk (by omega),drop_nil (by rw [List.length_take];omega),List.map_nil,List.map_nil,List.append_nil,List.append_nil,qy]
 | d+1,n,j,x,x1,x3,h,hj,h1,h3=>by
  obtain ⟨j',rfl⟩:∃ j',j=j'+1:=⟨j - 1,by omega⟩
  have hll:=hL.1
  have hn:n<(l.take (i+1)).length:=by rw [List.length_take];omega
  have hg:(l.take (i+1)).getD n t0=l.getD n t0:=by
   rw [List.getD_eq_getElem?_getD,List.getD_eq_getElem?_getD,List.getElem?_take,if_pos (by omega)]
  have ht:=(hL.2 _ (iq (z:=t0) (show n<l.length by omega))).1
  have ih:=OQ hk hL hi (a:=a) (b:=b) (x2:=x2) d (n+1) j' (x++[(jr (l.getD n t0)).1]) (mx x1 (jr (l.getD n t0)).2.1) (x3++[(l.getD n t0).2.1]) (by omega) (by omega) (by simp;omega) (by simp;omega)
  rw [Uk,QM,Rj (by omega),Pw (by omega),Px,show l.getD n (0,0,0,[],[],[])=l.getD n t0 from rfl,SI hk ht,Option.bind_some,Rh (by simp only [List.length_cons,List.length_nil];omega),Pw (by omega),Rh (by simp only [List.length_cons,List.length_nil];omega),Me (by omega),drop_cons t0 hn,List.map_cons,List.map_cons,qy,hg]
  refine Eq.trans ih ?_
  rw [List.append_assoc,List.append_assoc];rfl
theorem agN {k:Nat} (hk:1000 <= k) {l:List fq} (hL:jg l) {i:Nat} (hi:i<l.length):afi k l (i:Int)=some ((((l.take (i+1)).map MI,qy 0 (l.take (i+1)),byT l (i:Int),(l.take (i+1)).map X8),()),()):=by
 have:=hL.1
 unfold afi
 rw [aap hk hL,Option.bind_some]
 refine (OQ hk hL hi (i+1) 0 k [] 0 [] (by omega) (by omega) (by simp) (by simp)).trans ?_
 rw [List.drop_zero,List.nil_append,List.nil_append]
theorem GZ {f:fq -> Int} {l:List fq} {i n:Nat} (hn:n<i+1) (hi:i<l.length):((l.take (i+1)).map f).getD n 0=f (l.getD n t0):=by
 rw [List.getD_eq_getElem?_getD,List.getElem?_map,List.getElem?_take,if_pos hn,List.getD_eq_getElem?_getD,List.getElem?_eq_getElem (by omega)];rfl
theorem OT {k:Nat} {l:List fq} (h:RS l) {i:Nat} (hi:i<l.length) {r y1 y2:Int} (hr:0 <= r /\ r <= 50000):∀ (d n j:Nat) (x:Int),n+d=i -> d<j -> 0 <= x -> x+yt r (((l.take i).drop n).map pc1) <= 100000000000 ->
  KX k j r ((l.take (i+1)).map MI) y1 y2 ((l.take (i+1)).map X8) (i:Int) x true (n:Int)=some ((x+yt r (((l.take i).drop n).map pc1),true,()),())
 | 0,n,j,x,h1,hj,hx,hb=>by
  obtain ⟨j',rfl⟩:∃ j',j=j'+1:=⟨j - 1,by omega⟩
  rw [Ul,QO,Rk (by omega),drop_nil (by rw [List.length_take];omega)]
  simp [yt]
 | d+1,n,j,x,h1,hj,hx,hb=>by
  obtain ⟨j',rfl⟩:∃ j',j=j'+1:=⟨j - 1,by omega⟩
  have hll:=h.len
  have hn:n<(l.take i).length:=by rw [List.length_take];omega
  have hg:(l.take i).getD n t0=l.getD n t0:=by
   rw [List.getD_eq_getElem?_getD,List.getD_eq_getElem?_getD,List.getElem?_take,if_pos (by omega)]
  have hc:=h.co _ (iq (z:=t0) (show n<l.length by omega))
  have aeO:=hc.per;have hco:=hc.cost;have hen:=hc.en
  have hu:=OO hr.1 aeO.1
  have hmul:=Int.mul_nonneg hu.1 (show 0 <= (jr (l.getD n t0)).1 by omega)
  have hrest:0 <= yt r (((l.take i).drop (n+1)).map pc1):=za hr.1 (fun y hy=>by
   obtain ⟨t,ht,rfl⟩:=List.mem_map.1 hy
   have q:=h.co t (List.mem_of_mem_take (List.mem_of_mem_drop ht))
   have:=q.cost;have:=q.per
   unfold pc1;simp only;omega)
  have hlen:((l.take (i+1)).map X8).length=i+1:=by rw [List.length_map,List.length_take];omega
  have wE:((l.take (i+1)).map MI).length=i+1:=by rw [List.length_map,List.length_take];omega
  have ih:=OT (k:=k) h hi (y1:=y1) (y2:=y2) hr d (n+1) j' (x+up r (l.getD n t0).2.1 * (jr (l.getD n t0)).1) (by omega) (by omega) (by omega)
  rw [drop_cons t0 hn,List.map_cons,yt,hg] at hb ⊢
  have e1:(pc1 (l.getD n t0)).1=(l.getD n t0).2.1:=rfl
  have e2:(pc1 (l.getD n t0)).2=(jr (l.getD n t0)).1:=rfl
  rw [e1,e2] at hb ⊢
  have ih:=ih (by omega)
  rw [Ul,QO,Rj (by omega),cond_true,Pw (by omega),Px,GZ (by omega) hi,show X8 (l.getD n t0)=(l.getD n t0).2.1 from rfl,aat k (by omega) aeO.1,Option.bind_some,Pw (by omega),Px,GZ (by omega) hi,show MI (l.getD n t0)=(jr (l.getD n t0)).1 from rfl]
  simp only
  rw [aau k (by omega) (by omega) (by omega),Option.bind_some]
  simp only [cond_true]
  rw [SK k hx hmul (by omega),Option.bind_some,Me (by omega),<- Int.add_assoc]
  exact ih
theorem agO {k:Nat} (hk:1000 <= k) {l:List fq} (h:RS l) {i:Nat} (hi:i<l.length) {apart r:Int} (ha:1 <= apart) (hr:0 <= r /\ r <= 50000):afk k ((l.take (i+1)).map MI,qy 0 (l.take (i+1)),byT l (i:Int),(l.take (i+1)).map X8) apart r=some ((qj l i apart r,true,()),()):=by
 have hll:=h.len
 have wE:((l.take (i+1)).map MI).length=i+1:=by rw [List.length_map,List.length_take];omega
 have hb:=aeN h.co (i:Int)
 have hc:=h.co _ (iq (z:=t0) hi)
 have aeO:=hc.per;have hco:=hc.cost;have hen:=hc.en
 have hls:=h.lost (i+1)
 have hlo:=h.loss (i:=i) ha hr
 have hsu:=h.sum (i:=i) hr
 have hu:=OO hr.1 ha
 have hfi:=h.first hi
 unfold afk
 simp only
 rw [wE,Ua (n:=((i+1:Nat):Int) - 1) (by omega) (by omega),show ((i+1:Nat):Int) - 1=(i:Int) by omega,Pw (by omega),Px,GZ (by omega) hi,show MI (l.getD i t0)=(jr (l.getD i t0)).1 from rfl,SK k (by omega) (by omega) (by omega),Option.bind_some,aat k (by omega) ha,Option.bind_some]
 simp only
 rw [aau k (by omega) (by omega) (by omega),Option.bind_some]
 simp only [cond_true]
 unfold QS
 rw [cond_true,show (jr (l.getD i t0)).1+byT l (i:Int)=firstT l i from rfl,SK k (by omega) (by omega) (by omega),Option.bind_some]
 refine (OT h hi hr i 0 k (firstT l i+up r apart * qy 0 (l.take (i+1))) (by omega) (by omega) (by omega) (by rw [List.drop_zero];omega)).trans ?_
 rw [List.drop_zero];rfl
theorem OU {k:Nat} (hk:1000 <= k) {l:List fq} (h:RS l) {i:Nat} (hi:i<l.length) {apart:Int} (ha:1 <= apart):∀ (f j:Nat) (r n:Int) (y:Int×Int×Int),f <= j -> 0 <= r -> r <= 50000 -> 1 <= n -> n+f <= 1000000 -> CZ (l.getD i t0).2.2.1 (qj l i apart) f r n=some y ->
  QT k j l (i:Int) apart ((l.take (i+1)).map MI) (qy 0 (l.take (i+1))) (byT l (i:Int)) ((l.take (i+1)).map X8) r n=some ((y.1,y.2.1,y.2.2,()),())
 | 0,j,r,n,y,_,_,_,_,_,e=>by cases e
 | f+1,j,r,n,y,hj,h0,h1,hn,hf,e=>by
  obtain ⟨j',rfl⟩:∃ j',j=j'+1:=⟨j - 1,by omega⟩
  have hen:=(h.co _ (iq (z:=t0) hi)).en
  have aeO:=(h.co _ (iq (z:=t0) hi)).per
  have hfi:=h.first hi
  rw [ab6,Wd,agO hk h hi ha ⟨h0,h1⟩,Option.bind_some]
  simp only [Bool.not_true,cond_false]
  rw [Pw hi,Px,show l.getD i (0,0,0,[],[],[])=l.getD i t0 from rfl]
  rw [CZ] at e
  split at e
  ·rename_i q
   injection e with e;subst e
   rw [Rj q]
  ·rename_i q
   rw [Rk q]
   split at e
   ·rename_i q2
    injection e with e;subst e
    rw [q2,beq_self_eq_true,cond_true]
   ·rename_i q2
    have hr:=h.right hi ha ⟨h0,h1⟩
    rw [show (qj l i apart r==r)=false by rw [beq_eq_false_iff_ne];exact q2,cond_false,Ua (n:=n+1) (by omega) (by omega)]
    exact OU hk h hi ha f j' (qj l i apart r) (n+1) y (by omega) (by omega) (by omega) (by omega) (by omega) e
theorem agP {k:Nat} (hk:20000 <= k) {l:List fq} (hL:jg l) (hl:l.length <= 10) (i apart:Int):afl k l i apart=some (((lq l i apart).1,(lq l i apart).2.1,(lq l i apart).2.2,()),()):=by
 unfold afl
 rw [aav (by omega) hL,Option.bind_some]
 simp only
 cases hr:yj l with
 | false =>
  have:lq l i apart=(0,0,1):=by unfold lq;rw [if_neg (fun q=>by rw [hr] at q;cases q.1)]
  rw [this];rfl
 | true =>
  rw [Bool.not_true,cond_false]
  by_cases h1:i<0
  ·have:lq l i apart=(0,0,1):=by unfold lq;rw [if_neg (fun q=>by omega)]
   rw [Rj h1,this]
  ·rw [Rk h1]
   by_cases h2:i≥(l.length:Int)
   ·have:lq l i apart=(0,0,1):=by unfold lq;rw [if_neg (fun q=>by omega)]
    rw [Rj h2,this]
   ·rw [Rk h2]
    by_cases h3:apart<1
    ·have:lq l i apart=(0,0,1):=by unfold lq;rw [if_neg (fun q=>by omega)]
     rw [Rj h3,this]
    ·rw [Rk h3]
     obtain ⟨n,rfl⟩:∃ n:Nat,i=(n:Int):=⟨i.toNat,by omega⟩
     have hn:n<l.length:=by omega
     have hRS:=MG hr hL hl
     have hfi:=hRS.first hn
     have wE:((l.take (n+1)).map MI).length=n+1:=by rw [List.length_map,List.length_take];omega
     obtain ⟨y,hy⟩:=J6 hRS hn (show 1 <= apart by omega)
     rw [agN (by omega) hL hn,Option.bind_some]
     simp only
     rw [Pw (by omega),Px,GZ (by omega) hn,show MI (l.getD n t0)+byT l (n:Int)=firstT l n from rfl,Ua (n:=firstT l n) (by omega) (by omega),MH hr hn (by omega) hy]
     exact OU (by omega) hRS hn (by omega) 20000 k _ 1 y (by omega) (by omega) (by omega) (by omega) (by omega) hy
theorem MJ {en:Int} {right:Int -> Int} (hm:∀ a b,0 <= a -> a <= b -> right a <= right b):∀ (f:Nat) (r n:Int) (y:Int×Int×Int),0 <= r -> r <= right r -> r <= en \/ right r>en -> CZ en right f r n=some y ->
  (y=(0,0,14) /\ ∀ x,r <= x -> x <= en -> right x≠x) \/ (y.2.2=0 /\ right y.1=y.1 /\ r <= y.1 /\ y.1 <= en /\ n <= y.2.1 /\ y.2.1 - n <= y.1 - r /\ (right r≠r -> n+1 <= y.2.1) /\ ∀ x,r <= x -> right x=x -> y.1 <= x)
 | 0,r,n,y,_,_,_,e=>by cases e
 | f+1,r,n,y,h0,h1,h2,e=>by
  rw [CZ] at e
  split at e
  ·rename_i q
   injection e with e;subst e
   refine .inl ⟨rfl,fun x hx hxe hf=>?_⟩
   have:=hm r x h0 hx
   omega
  ·rename_i q
   split at e
   ·rename_i q2
    injection e with e;subst e
    refine .inr ⟨rfl,q2,Int.le_refl _,by omega,Int.le_refl _,by simp only;omega,fun h=>absurd q2 h,fun x hx _=>hx⟩
   ·rename_i q2
    have hr:=hm r (right r) h0 h1
    rcases MJ hm f (right r) (n+1) y (by omega) hr (.inl (by omega)) e with ⟨a,b⟩ | ⟨a1,a2,a3,a4,a5,a6,a7,a8⟩
    ·refine .inl ⟨a,fun x hx hxe hf=>?_⟩
     have:=hm r x h0 hx
     exact b x (by omega) hxe hf
    ·refine .inr ⟨a1,a2,by omega,a4,by omega,by omega,fun _=>by omega,fun x hx hf=>?_⟩
     have:=hm r x h0 hx
     exact a8 x (by omega) hf
theorem aaq.row {iy:Int} {l:List fq} (h:aaq iy l):yj l=true:=by
 unfold yj
 rw [Bool.not_eq_true',nk]
 intro n _ hn
 unfold VB
 rw [h.may n (by omega),bne_self_eq_false,Bool.false_or,Bool.and_eq_false_iff]
 by_cases h0:(n:Int)>0
 ·right
  obtain ⟨r,m1,m2,m3⟩:=h.mt n (by omega)
  obtain ⟨r2,p1,p2,p3⟩:=h.mt (n - 1) (by omega)
  have e1:=m1.rank
  have e2:=p1.rank
  exact decide_eq_false (by rw [e1,e2];omega)
 ·left;exact decide_eq_false h0
theorem J7 {l:List fq} {i:Nat} (hi:i<l.length):l.take (i+1)=l.take i++[l.getD i t0]:=by
 rw [List.take_add_one,List.getElem?_eq_getElem hi,List.getD_eq_getElem?_getD,List.getElem?_eq_getElem hi];rfl
theorem JN {en z:Int} {right:Int -> Int} (hm:∀ a b,0 <= a -> a <= b -> right a <= right b) (h2:right z <= z) (h3:z <= en):∀ (f:Nat) (r n:Int) (y:Int×Int×Int),0 <= r -> r <= z -> r <= right r -> CZ en right f r n=some y -> y.2.2=0 /\ y.1 <= z
 | 0,r,n,y,_,_,_,e=>by cases e
 | f+1,r,n,y,h0,h1,hr,e=>by
  have:=hm r z h0 h1
  rw [CZ,if_neg (by omega)] at e
  split at e
  ·injection e with e;subst e;exact ⟨rfl,h1⟩
  ·exact JN hm h2 h3 f (right r) (n+1) y (by omega) (by omega) (hm r _ h0 hr) e
theorem VF {l:List fq} (hr:yj l=true) (h:RS l) {i:Nat} (hi:i<l.length) {apart z:Int} (ha:1 <= apart) (h1:firstT l i <= z) (h2:qj l i apart z <= z) (h3:z <= (l.getD i t0).2.2.1):(lq l (i:Int) apart).2.2=0 /\ (lq l (i:Int) apart).1 <= z:=by
 obtain ⟨y,hy⟩:=J6 h hi ha
 have hf:=h.first hi
 rw [MH hr hi ha hy]
 exact JN (FX h ha) h2 h3 _ _ _ _ (by omega) h1 (h.right hi ha (by omega)).1 hy
theorem row_iff {l:List fq}:yj l=true↔∀ n,n<l.length -> BA (l.getD n t0)=0 /\ (0<n -> (l.getD (n - 1) t0).1<(l.getD n t0).1):=by
 unfold yj
 rw [Bool.not_eq_true',nk]
 constructor
 ·intro h n hn
  have:=h n (by omega) (by omega)
  unfold VB at this
  rw [Bool.or_eq_false_iff,Bool.and_eq_false_iff] at this
  refine ⟨by simpa using this.1,fun h0=>?_⟩
  rcases this.2 with q | q
  ·exact absurd (of_decide_eq_false q) (by omega)
  ·have:=of_decide_eq_false q;omega
 ·intro h n _ hn
  obtain ⟨a,b⟩:=h n (by omega)
  unfold VB
  rw [a,bne_self_eq_false,Bool.false_or,Bool.and_eq_false_iff]
  by_cases h0:0<n
  ·right;exact decide_eq_false (by have:=b h0;omega)
  ·left;exact decide_eq_false (by omega)
theorem akr {n:Int} (h:(Lit.int .u8 n).wf=true):0 <= n /\ n <= 255:=by
 simp [Lit.wf,IntKind.min,IntKind.max,IntKind.signed,IntKind.bits] at h
 omega
abbrev wm:Type:=PN Int 5
noncomputable def gq (l:List fq) (ap:Int) (i:Nat):wm:=((jr (l.getD i t0)).1,(jr (l.getD i t0)).2.1,byT l (i:Int),(lq l (i:Int) ap).1,(l.getD i t0).2.2.1 - (lq l (i:Int) ap).1)
noncomputable def JV (l:List fq) (ap:Int):Nat -> Nat -> List wm -> List wm×Int
 | 0,_,out=>(out,0)
 | d+1,i,out=>if (lq l (i:Int) ap).2.2=0 then JV l ap d (i+1) (out++[gq l ap i]) else ([],(lq l (i:Int) ap).2.2)
noncomputable def allT (l:List fq) (ap:Int):List wm×Int:=if ap<1 then ([],1) else JV l ap l.length 0 []
theorem VG {l:List fq} (hL:jg l) (hl:l.length <= 10) {i:Nat} {ap:Int} (h:(lq l (i:Int) ap).2.2=0):yj l=true /\ i<l.length /\ 1 <= ap /\ 1 <= (lq l (i:Int) ap).1 /\ firstT l i <= (lq l (i:Int) ap).1 /\ (lq l (i:Int) ap).1 <= (l.getD i t0).2.2.1 /\ qj l i ap (lq l (i:Int) ap).1=(lq l (i:Int) ap).1:=by
 by_cases hc:yj l=true /\ 0 <= (i:Int) /\ (i:Int)<(l.length:Int) /\ 1 <= ap
 ·obtain ⟨h1,_,h3,h4⟩:=hc
  have hi:i<l.length:=by omega
  have hR:=MG h1 hL hl
  obtain ⟨y,hy⟩:=J6 hR hi h4
  have hf:=hR.first hi
  rw [MH h1 hi h4 hy] at h ⊢
  rcases MJ (FX hR h4) 20000 (firstT l i) 1 y (by omega) (hR.right hi h4 (by omega)).1 (by have:=(hR.right hi h4 (r:=firstT l i) (by omega)).1;omega) hy with ⟨e,_⟩ | ⟨a1,a2,a3,a4,_⟩
  ·rw [e] at h;exact absurd h (by decide)
  ·exact ⟨h1,hi,h4,by omega,a3,a4,a2⟩
 ·unfold lq at h
  rw [if_neg hc] at h
  exact absurd h (by decide)
theorem VH {k:Nat} (hk:20000 <= k) {l:List fq} (hL:jg l) (hl:l.length <= 10) {ap:Int}:∀ (d i j:Nat) (out:List wm),i+d=l.length -> d<j -> out.length <= i ->
  XZ k j l ap out (i:Int)=some (((JV l ap d i out).1,(JV l ap d i out).2,()),())
 | 0,i,j,out,h,hj,ho=>by
  obtain ⟨j',rfl⟩:∃ j',j=j'+1:=⟨j - 1,by omega⟩
  rw [Y0,XY,Rk (by omega),JV]
 | d+1,i,j,out,h,hj,ho=>by
  obtain ⟨j',rfl⟩:∃ j',j=j'+1:=⟨j - 1,by omega⟩
  have hi:i<l.length:=by omega
  have ht:=(hL.2 _ (iq (z:=t0) hi)).1
  rw [Y0,XY,Rj (by omega),agP hk hL hl,Option.bind_some,JV]
  simp only
  by_cases he:(lq l (i:Int) ap).2.2=0
  ·obtain ⟨h1,_,h3,h4,h5,h6,h7⟩:=VG hL hl he
   have hc:=(MG h1 hL hl).co _ (iq (z:=t0) hi)
   have:=hc.en;have:=hc.per
   rw [if_pos he,he]
   simp only [bne_self_eq_false,cond_false]
   rw [Pw hi,Px,show l.getD i (0,0,0,[],[],[])=l.getD i t0 from rfl,SI (by omega) ht,Option.bind_some,aap (by omega) hL,Option.bind_some,Pw hi,Rh (by simp only [List.length_cons,List.length_nil];omega),Me (by omega),Ua (by omega) (by omega)]
   exact VH hk hL hl d (i+1) j' _ (by omega) (by omega) (by simp only [List.length_append,List.length_cons,List.length_nil];omega)
  ·rw [if_neg he,show ((lq l (i:Int) ap).2.2 != 0)=true by rw [bne_iff_ne];exact he,cond_true]
theorem aks {k:Nat} (hk:20000 <= k) {l:List fq} (hL:jg l) (hl:l.length <= 10) (ap:Int):S69 k l ap=some (((allT l ap).1,(allT l ap).2,()),()):=by
 unfold S69 allT
 rw [aav (by omega) hL,Option.bind_some]
 simp only
 cases hr:yj l with
 | false =>
  rw [Bool.not_false,cond_true]
  by_cases h:ap<1
  ·rw [if_pos h]
  ·rw [if_neg h]
   cases l with
   | nil=>exact absurd hr (by unfold yj;decide)
   | cons t r =>
    have:lq (t::r) ((0:Nat):Int) ap=(0,0,1):=by unfold lq;rw [if_neg (fun q=>by rw [hr] at q;cases q.1)]
    rw [List.length_cons,JV,this,if_neg (by decide)]
 | true =>
  rw [Bool.not_true,cond_false]
  by_cases h:ap<1
  ·rw [Rj h,if_pos h]
  ·rw [Rk h,if_neg h]
   exact VH hk hL hl l.length 0 k [] (by omega) (by omega) (by simp)
def wh (r:Int):List fq -> Nat
 | []=>0
 | x::l=>bif decide (x.1<r) then wh r l+1 else 0
theorem KN (r:Int):∀ l:List fq,wh r l <= l.length
 | []=>Nat.le_refl _
 | x::l=>by
  rw [wh]
  cases decide (x.1<r) with
  | true=>rw [cond_true,List.length_cons];have:=KN r l;omega
  | false=>rw [cond_false];omega
theorem JO (r:Int):∀ (l:List fq) (n:Nat),n <= l.length -> (∀ a,a<n -> (l.getD a t0).1<r) -> (n<l.length -> ¬ (l.getD n t0).1<r) -> wh r l=n
 | [],n,h,_,_=>by simp at h;rw [h];rfl
 | x::l,0,_,_,h2=>by
  have h3:¬ x.1<r:=h2 (by simp)
  rw [wh,decide_eq_false h3,cond_false]
 | x::l,n+1,h,h1,h2=>by
  have h3:x.1<r:=h1 0 (by omega)
  rw [wh,decide_eq_true h3,cond_true,JO r l n (by simpa using h) (fun a ha=>h1 (a+1) (by omega)) (fun hn=>h2 (by simpa using hn))]
noncomputable def zl (l:List fq) (t:fq):List fq:=l.take (wh t.1 l)++[t]++l.drop (wh t.1 l)
theorem H6 (l:List fq) (t:fq):(zl l t).length=l.length+1:=by
 have:=KN t.1 l
 unfold zl
 simp only [List.length_append,List.length_take,List.length_drop,List.length_cons,List.length_nil];omega
theorem MK {l:List fq} {t:fq} (h:jg l) (hl:l.length <= 50) (ht:CP t /\ (t.2.2.2.1++t.2.2.2.2.1).length <= 900):jg (zl l t):=⟨by rw [H6];omega,fun x hx=>by
 unfold zl at hx
 simp only [List.mem_append,List.mem_singleton] at hx
 rcases hx with (hx | hx) | hx
 ·exact h.2 x (List.mem_of_mem_take hx)
 ·rw [hx];exact ht
 ·exact h.2 x (List.mem_of_mem_drop hx)⟩
noncomputable def inT (l:List fq) (t:fq) (ap:Int):List fq×List wm×Int :=
 if BA t≠0 then ([],[],BA t) else if l.any (fun x=>x.1==t.1)=true then ([],[],11) else if 8 <= l.length then ([],[],4)
 else if (allT (zl l t) ap).2≠0 then ([],[],(allT (zl l t) ap).2) else (zl l t,(allT (zl l t) ap).1,0)
structure agQ (l:List fq) (t:fq):Prop where
 light:jg l
 len:l.length <= 9
 one:CP t /\ (t.2.2.2.1++t.2.2.2.2.1).length <= 900
def SL (l:List fq):Prop:=∀ a b,a<b -> b<l.length -> (l.getD a t0).1<(l.getD b t0).1
theorem OV {l:List fq} (h:yj l=true):SL l:=fun a b hab hb=>by
 rw [row_iff] at h
 induction b with
 | zero=>omega
 | succ b ih =>
  have h1:=(h (b+1) hb).2 (by omega)
  rw [show b+1 - 1=b by omega] at h1
  by_cases e:a=b
  ·rw [e];exact h1
  ·have:=ih (by omega) (by omega);omega
theorem ML {k:Nat} (hk:20000 <= k) {l:List fq} {t:fq} (h:agQ l t) (hr:SL l) {ap:Int}:∀ (d n p j:Nat),n+d=l.length -> d<j -> p <= n -> (l.take n).any (fun x=>x.1==t.1)=false -> (∀ a,a<p -> (l.getD a t0).1<t.1) -> (∀ a,p <= a -> a<n -> ¬ (l.getD a t0).1<t.1) ->
  Y2 k j l ap t.1 t.2.1 t.2.2.1 t.2.2.2.1 t.2.2.2.2.1 t.2.2.2.2.2 (p:Int) (n:Int)=some ((if l.any (fun x=>x.1==t.1)=true then ([],[],11,()) else if 8 <= l.length then ([],[],4,()) else if (allT (zl l t) ap).2≠0 then ([],[],(allT (zl l t) ap).2,()) else (zl l t,(allT (zl l t) ap).1,0,())),())
 | 0,n,p,j,h1,hj,hp,ha,q1,q2=>by
  obtain ⟨j',rfl⟩:∃ j',j=j'+1:=⟨j - 1,by omega⟩
  have hl:=h.len
  have hn:n=l.length:=by omega
  subst hn
  rw [List.take_length] at ha
  have hpos:=JO t.1 l p hp q1 (fun hh=>q2 p (Nat.le_refl _) hh)
  have hpl:=MK h.light (by omega) h.one
  have hpn:=H6 l t
  rw [Y3,Y1,Rk (by omega),ha,if_neg (by simp)]
  by_cases h8:8 <= l.length
  ·rw [if_pos h8,Rj (by omega)]
  ·rw [if_neg h8,Rk (by omega),Rc (by omega) (by omega) (by omega),Rh (by simp only [List.length_nil,sub,List.length_drop,List.length_take];omega),Rh (by simp only [List.length_append,List.length_cons,List.length_nil,sub,List.length_drop,List.length_take];omega),Rc (by omega) (by omega) (by omega),Rh (by simp only [List.length_append,List.length_cons,List.length_nil,sub,List.length_drop,List.length_take];omega)]
   rw [show []++sub l 0 (p:Int)++[(t.1,t.2.1,t.2.2.1,t.2.2.2.1,t.2.2.2.2.1,t.2.2.2.2.2)]++sub l (p:Int) (l.length:Int)=zl l t by
    unfold zl;rw [hpos];simp [sub],aks hk hpl (by omega),Option.bind_some]
   simp only
   by_cases he:(allT (zl l t) ap).2=0
   ·rw [he,if_neg (by simp)];rfl
   ·rw [if_pos he,show ((allT (zl l t) ap).2 != 0)=true by rw [bne_iff_ne];exact he,cond_true]
 | d+1,n,p,j,h1,hj,hp,ha,q1,q2=>by
  obtain ⟨j',rfl⟩:∃ j',j=j'+1:=⟨j - 1,by omega⟩
  have hl:=h.len
  have hn:n<l.length:=by omega
  rw [Y3,Y1,Rj (by omega),Pw hn,Px,show l.getD n (0,0,0,[],[],[])=l.getD n t0 from rfl,Me (by omega)]
  cases he:(l.getD n t0).1==t.1 with
  | true =>
   have:l.any (fun x=>x.1==t.1)=true:=List.any_eq_true.2 ⟨_,iq (z:=t0) hn,he⟩
   rw [this,if_pos rfl,cond_true]
  | false =>
   have ha2:(l.take (n+1)).any (fun x=>x.1==t.1)=false:=by rw [J7 hn,List.any_append,ha,List.any_cons,he];rfl
   rw [cond_false,Pw hn]
   by_cases hlt:(l.getD n t0).1<t.1
   ·rw [Rj hlt]
    exact ML hk h hr d (n+1) (n+1) j' (by omega) (by omega) (Nat.le_refl _) ha2 (fun a ha=>by
     by_cases e:a=n
     ·rw [e];exact hlt
     ·have:=hr a n (by omega) hn;omega) (fun a h2 h3=>by omega)
   ·rw [Rk hlt]
    exact ML hk h hr d (n+1) p j' (by omega) (by omega) (by omega) ha2 q1 (fun a h2 h3=>by
     by_cases e:a=n
     ·rw [e];exact hlt
     ·exact q2 a h2 (by omega))
theorem akt {k:Nat} (hk:20000 <= k) {l:List fq} {t:fq} (h:agQ l t) (hr:SL l) (ap:Int):S28 k l t ap=some (((inT l t ap).1,(inT l t ap).2.1,(inT l t ap).2.2,()),()):=by
 have hl:=h.len
 unfold S28 inT
 rw [X3 (by omega) h.one.1,Option.bind_some]
 simp only
 by_cases hz:BA t=0
 ·rw [if_neg (by omega),hz]
  simp only [bne_self_eq_false,cond_false]
  refine (ML hk h hr (ap:=ap) l.length 0 0 k (by omega) (by omega) (Nat.le_refl _) (by simp) (fun a ha=>by omega) (fun a h1 h2=>by omega)).trans ?_
  split
  ·rfl
  ·split
   ·rfl
   ·split <;> rfl
 ·rw [if_pos hz,show (BA t != 0)=true by rw [bne_iff_ne];exact hz,cond_true]
end Go.Proofs.YtmmagcjlfcicfaaGreat.Ab
