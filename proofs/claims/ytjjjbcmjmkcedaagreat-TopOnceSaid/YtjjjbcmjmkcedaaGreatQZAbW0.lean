import Derived.Test.YtjjjbcmjmkcedaaGreatPbC
import Derived.Test.YtjjjbcmjmkcedaaGreatAbW0
import Derived.Test.YtjjjbcmjmkcedaaGreatAbW1
import Derived.KernelRfl
/- The plain law, and what it hangs on. -/
namespace Go.Proofs.YtjjjbcmjmkcedaaGreat.Ab
open Go.RowKit
set_option linter.unusedSimpArgs false
set_option linter.unusedVariables false
section
variable {σ R α:Type}
abbrev I4:Type:=Int×Int×Int×Int
abbrev i0:I4:=(0,0,0,0)
theorem agP {c x y:Bool}:(bif c then some ((x,()),()) else some ((y,()),()):Option ((Bool×Unit)×Unit))=some ((bif c then x else y,()),()):=by cases c <;> rfl
theorem ach {c x:Bool}:(bif c then x else false)=(c&&x):=by cases c <;> rfl
theorem getD_in {l:List α} {n:Nat} {z:α} (h:n<l.length):l.getD n z=l[n]:=by
 simp [List.getD_eq_getElem?_getD,List.getElem?_eq_getElem h]
theorem LQ {l:List α} {n:Nat} {z:α} (h:l.length <= n):l.getD n z=z:=by
 simp [List.getD_eq_getElem?_getD,List.getElem?_eq_none h]
theorem mh {l:List α} {x y:Nat} {v z:α}:(l.set x v).getD y z=if x=y /\ y<l.length then v else l.getD y z:=by
 simp only [List.getD_eq_getElem?_getD,List.getElem?_set]
 by_cases h:x=y
 ·subst h
  by_cases h2:x<l.length
  ·simp [h2]
  ·simp [h2]
 ·simp [h]
theorem ow {u w:List α} {n:Nat} {z:α} (h:n<u.length):(u++w).getD n z=u.getD n z:=by
 simp [List.getD_eq_getElem?_getD,List.getElem?_append_left h]
theorem lg {u w:List α} {n:Nat} {z:α} (h:u.length <= n):(u++w).getD n z=w.getD (n - u.length) z:=by
 simp [List.getD_eq_getElem?_getD,List.getElem?_append_right h]
theorem drop_cons {l:List α} {i:Nat} (z:α) (h:i<l.length):l.drop i=l.getD i z::l.drop (i+1):=by
 rw [List.drop_eq_getElem_cons h,getD_in h]
theorem drop_nil {l:List α} {i:Nat} (h:i=l.length):l.drop i=[]:=List.drop_eq_nil_of_le (by omega)
theorem jm {l:List α} {i:Nat} {z:α} (h:i<l.length):l.getD i z∈l:=by rw [getD_in h];exact List.getElem_mem h
theorem u7 {l:List α} {x:α} (z:α) (h:x∈l):∃ i,i<l.length /\ l.getD i z=x:=by
 obtain ⟨i,hi,rfl⟩:=List.getElem_of_mem h
 exact ⟨i,hi,getD_in hi⟩
def goF (f:Nat -> σ -> σ):Nat -> Nat -> σ -> σ
 | 0,_,s=>s
 | m+1,i,s=>goF f m (i+1) (f i s)
theorem aaZ {L:Nat -> σ -> Int -> Option R} {n:Nat} (inv:Nat -> σ -> Prop) (f:Nat -> σ -> σ) (fin:σ -> Option R)
  (hs:∀ j i s,i<n -> inv i s -> L (j+1) s (i:Int)=L j (f i s) ((i+1:Nat):Int))
  (hi:∀ i s,i<n -> inv i s -> inv (i+1) (f i s))
  (he:∀ j s,inv n s -> L (j+1) s (n:Int)=fin s) :
  ∀ (m i j:Nat) (s:σ),i+m=n -> m<j -> inv i s -> L j s i=fin (goF f m i s)
 | 0,i,j,s,h,hj,hv=>by
  obtain ⟨j',rfl⟩:∃ j',j=j'+1:=⟨j - 1,by omega⟩
  have:i=n:=by omega
  subst this;exact he j' s hv
 | m+1,i,j,s,h,hj,hv=>by
  obtain ⟨j',rfl⟩:∃ j',j=j'+1:=⟨j - 1,by omega⟩
  rw [hs j' i s (by omega) hv,goF]
  exact aaZ inv f fin hs hi he m (i+1) j' _ (by omega) (by omega) (hi i s (by omega) hv)
theorem LU {inv:Nat -> σ -> Prop} {f:Nat -> σ -> σ} {n:Nat} (hi:∀ i s,i<n -> inv i s -> inv (i+1) (f i s)):∀ (m i:Nat) (s:σ),i+m=n -> inv i s -> inv n (goF f m i s)
 | 0,i,s,h,hv=>by
  have:i=n:=by omega
  subst this;exact hv
 | m+1,i,s,h,hv=>LU hi m (i+1) _ (by omega) (hi i s (by omega) hv)
def qm (f:α -> Bool) (xs:List α):Int:=match xs.findIdx? f with | some n=>(n:Int) | none=>-1
theorem afj (L:Nat -> Int -> Option ((Int×Unit)×Unit)) (xs:List α) (z:α) (f:α -> Bool)
  (hs:∀ (j n:Nat),n<xs.length -> L (j+1) (n:Int)=bif f (xs.getD n z) then some (((n:Int),()),()) else L j ((n+1:Nat):Int))
  (he:∀ j,L (j+1) (xs.length:Int)=some ((-1,()),())):∀ (m i j:Nat),i+m=xs.length -> m<j ->
   L j i=some (((match (xs.drop i).findIdx? f with | some n=>((i+n:Nat):Int) | none=>-1),()),())
 | 0,i,j,h,hj=>by
  obtain ⟨j',rfl⟩:∃ j',j=j'+1:=⟨j - 1,by omega⟩
  have:i=xs.length:=by omega
  subst this;rw [he,List.drop_length];rfl
 | m+1,i,j,h,hj=>by
  obtain ⟨j',rfl⟩:∃ j',j=j'+1:=⟨j - 1,by omega⟩
  have hlt:i<xs.length:=by omega
  rw [hs j' i hlt,drop_cons z hlt,List.findIdx?_cons,afj L xs z f hs he m (i+1) j' (by omega) (by omega)]
  cases f (xs.getD i z) with
  | true=>simp
  | false =>
   simp only [cond_false,Bool.false_eq_true,if_false]
   cases (xs.drop (i+1)).findIdx? f with
   | none=>rfl
   | some n=>simp only [Option.map_some];congr 4;omega
theorem sw (L:Nat -> Int -> Option ((Int×Unit)×Unit)) (xs:List α) (z:α) (f:α -> Bool)
  (hs:∀ (j n:Nat),n<xs.length -> L (j+1) (n:Int)=bif f (xs.getD n z) then some (((n:Int),()),()) else L j ((n+1:Nat):Int))
  (he:∀ j,L (j+1) (xs.length:Int)=some ((-1,()),())) (j:Nat) (hj:xs.length<j):L j 0=some ((qm f xs,()),()):=by
 have:=afj L xs z f hs he xs.length 0 j (by omega) hj
 rw [List.drop_zero] at this
 simpa [qm] using this
theorem DR (f:α -> Bool) (s:List α):decide (qm f s≥0)=s.any f:=by
 unfold qm
 cases h:s.findIdx? f with
 | none=>rw [List.findIdx?_eq_none_iff] at h;simp;intro x hx;simpa using h x hx
 | some n =>
  have h2:=List.findIdx?_isSome (xs:=s) (p:=f)
  rw [h] at h2
  rw [<- h2];simp
def LW (f:Nat -> Bool):Nat -> Nat -> Bool
 | 0,_=>false
 | m+1,i=>f i||LW f m (i+1)
theorem TJ (f:Nat -> Bool):∀ (m i:Nat),LW f m i=true↔∃ n,i <= n /\ n<i+m /\ f n=true
 | 0,i=>⟨fun h=>by simp [LW] at h,fun ⟨n,h1,h2,_⟩=>by omega⟩
 | m+1,i=>by
  rw [LW,Bool.or_eq_true,TJ f m (i+1)]
  constructor
  ·rintro (h | ⟨n,h1,h2,h3⟩)
   ·exact ⟨i,by omega,by omega,h⟩
   ·exact ⟨n,by omega,by omega,h3⟩
  ·rintro ⟨n,h1,h2,h3⟩
   by_cases e:n=i
   ·subst e;exact .inl h3
   ·exact .inr ⟨n,by omega,by omega,h3⟩
theorem IQ (f:Nat -> Bool) (m i:Nat):LW f m i=false↔∀ n,i <= n -> n<i+m -> f n=false:=by
 constructor
 ·intro h n h1 h2
  cases hf:f n with
  | false=>rfl
  | true=>rw [(TJ f m i).2 ⟨n,h1,h2,hf⟩] at h;cases h
 ·intro h
  cases ha:LW f m i with
  | false=>rfl
  | true=>obtain ⟨n,h1,h2,h3⟩:=(TJ f m i).1 ha;rw [h n h1 h2] at h3;cases h3
theorem apb {L:Nat -> Int -> Option R} {n:Nat} (f:Nat -> Bool) (yes no:Option R)
  (hs:∀ (j i:Nat),i<n -> L (j+1) (i:Int)=bif f i then yes else L j ((i+1:Nat):Int))
  (he:∀ j,L (j+1) (n:Int)=no):∀ (m i j:Nat),i+m=n -> m<j -> L j i=bif LW f m i then yes else no
 | 0,i,j,h,hj=>by
  obtain ⟨j',rfl⟩:∃ j',j=j'+1:=⟨j - 1,by omega⟩
  have:i=n:=by omega
  subst this;rw [he];rfl
 | m+1,i,j,h,hj=>by
  obtain ⟨j',rfl⟩:∃ j',j=j'+1:=⟨j - 1,by omega⟩
  rw [hs j' i (by omega),LW,apb f yes no hs he m (i+1) j' (by omega) (by omega)]
  cases f i <;> rfl
theorem BU:∀ (n:Nat) (x:PN α n),(Gv n x).length=n
 | 0,_=>rfl
 | 1,_=>rfl
 | n+2,x=>by simp only [Gv,List.length_cons];rw [BU (n+1) x.2]
theorem EX:∀ (n:Nat) (v:α),Gv n (Qn n v)=List.replicate n v
 | 0,_=>rfl
 | 1,_=>rfl
 | n+2,v=>by simp only [Gv,Qn];rw [EX (n+1) v];rfl
theorem NU:∀ (n:Nat) (x y:PN α n),Gv n x=Gv n y -> x=y
 | 0,_,_,_=>rfl
 | 1,x,y,h=>by simpa [Gv] using h
 | n+2,x,y,h=>by
  simp only [Gv,List.cons.injEq] at h
  exact Prod.ext h.1 (NU (n+1) x.2 y.2 h.2)
theorem TK:∀ (n i:Nat) (x:PN α n) (j:Nat) (v:α),i <= j -> Gv n (Gw n i x (j:Int) v)=(Gv n x).set (j - i) v
 | 0,_,_,_,_,_=>rfl
 | 1,i,x,j,v,h=>by
  simp only [Gv,Gw]
  by_cases e:j=i
  ·subst e;simp
  ·rw [if_neg (by omega)]
   have:j - i=(j - i - 1)+1:=by omega
   rw [this];rfl
 | n+2,i,x,j,v,h=>by
  simp only [Gv,Gw]
  by_cases e:j=i
  ·subst e
   simp only [if_true,Nat.sub_self,List.set_cons_zero,List.cons.injEq,true_and]
   exact JY (n+1) (j+1) x.2 j v (by omega)
  ·rw [if_neg (by omega),TK (n+1) (i+1) x.2 j v (by omega),show j - i=(j - (i+1))+1 by omega,List.set_cons_succ]
where JY:∀ (n i:Nat) (x:PN α n) (j:Nat) (v:α),j<i -> Gv n (Gw n i x (j:Int) v)=Gv n x
 | 0,_,_,_,_,_=>rfl
 | 1,i,x,j,v,h=>by simp only [Gv,Gw];rw [if_neg (by omega)]
 | n+2,i,x,j,v,h=>by simp only [Gv,Gw];rw [if_neg (by omega),JY (n+1) (i+1) x.2 j v (by omega)]
theorem VK {n:Nat} {x:PN α n} {j:Nat} {v:α}:Gv n (Ur n x (j:Int) v)=(Gv n x).set j v:=by
 unfold Ur;rw [TK n 0 x j v (by omega)];rfl
end
def DT (a:Int):Bool:=decide (a≥0)&&decide (a<8)
def AY (v a b:Int):Bool:=decide (v≥a)&&decide (v <= b)
def l5 (i:I4):Bool :=
 bif i.1==0 then (i.2.1==0&&(i.2.2.1==0&&i.2.2.2==0))
 else bif i.1==11 then (i.2.1==0&&(i.2.2.1==0&&i.2.2.2==0))
 else bif i.1==1 then (DT i.2.1&&(i.2.2.1==0&&AY i.2.2.2 (-2147483648) 2147483647))
 else bif i.1==2 then (DT i.2.1&&(DT i.2.2.1&&i.2.2.2==0))
 else bif i.1==3 then (DT i.2.1&&(DT i.2.2.1&&i.2.2.2==0))
 else bif i.1==4 then (DT i.2.1&&(DT i.2.2.1&&i.2.2.2==0))
 else bif i.1==5 then (DT i.2.1&&(i.2.2.1==0&&AY i.2.2.2 (-63) 63))
 else bif i.1==6 then (DT i.2.1&&(i.2.2.1==0&&AY i.2.2.2 1 64))
 else bif i.1==7 then (DT i.2.1&&(i.2.2.1==0&&AY i.2.2.2 1 24))
 else bif i.1==8 then (i.2.1==0&&(AY i.2.2.1 1 24&&AY i.2.2.2 1 20))
 else bif i.1==9 then (AY i.2.1 0 3&&(i.2.2.1==0&&i.2.2.2==0))
 else bif i.1==10 then (AY i.2.1 0 3&&(i.2.2.1==0&&i.2.2.2==0))
 else false
theorem al2 (k:Nat) (a:Int):MS k a=some ((DT a,()),()):=by unfold MS DT;rw [agP,ach]
theorem al3 (k:Nat) (v a b:Int):RO k v a b=some ((AY v a b,()),()):=by unfold RO AY;rw [agP,ach]
theorem afk (k:Nat) (i:I4):ahH k i=some ((l5 i,()),()):=by
 unfold l5 ahH
 simp only [al2,al3,Option.bind_some,agP,ach]
theorem al4 {k:Nat} (hk:1000 <= k) {s:List I4} (h:s.length <= 900):ak3 k s=some ((qm (fun i=>!l5 i) s,()),()):=by
 unfold ak3
 refine sw (fun j i=>MU k j s (s.length:Int) i) s i0 _ (fun j i hi=>?_) (fun j=>?_) k (by omega)
 ·show MU k (j+1) s (s.length:Int) (i:Int)=_
  rw [Zm,WW,Sc (by omega),Qo hi,Mi (by omega)]
  simp only [aoq,afk,Option.bind_some,Qp]
 ·show MU k (j+1) s (s.length:Int) (s.length:Int)=_
  rw [Zm,WW,Sd (by omega)]
theorem apc {k:Nat} (hk:1000 <= k) {s:List I4} (h:s.length <= 900):S57 k s=some ((s.any (fun i=>!l5 i),()),()):=by
 unfold S57;rw [al4 hk h];simp only [Option.bind_some,DR]
theorem ajL {k:Nat} (hk:1000 <= k) {s:List I4} (h:s.length <= 900):ac2 k s=some ((qm (fun i=>i.1==0) s,()),()):=by
 unfold ac2
 refine sw (fun j i=>IC k j s (s.length:Int) i) s i0 _ (fun j i hi=>?_) (fun j=>?_) k (by omega)
 ·show IC k (j+1) s (s.length:Int) (i:Int)=_
  rw [Vo,Q9,Sc (by omega),Qo hi,Mi (by omega)]
  simp only [aor,Option.bind_some,Qp]
 ·show IC k (j+1) s (s.length:Int) (s.length:Int)=_
  rw [Vo,Q9,Sd (by omega)]
theorem al5 {k:Nat} (hk:1000 <= k) {s:List Int} (h:s.length <= 900):ak4 k s=some ((qm (fun i=>decide (i>2)) s,()),()):=by
 unfold ak4
 refine sw (fun j i=>MW k j s (s.length:Int) i) s 0 _ (fun j i hi=>?_) (fun j=>?_) k (by omega)
 ·show MW k (j+1) s (s.length:Int) (i:Int)=_
  rw [Zq,WY,Sc (by omega),Qo hi,Mi (by omega)]
  simp only [aos,Option.bind_some,Qp]
  rfl
 ·show MW k (j+1) s (s.length:Int) (s.length:Int)=_
  rw [Zq,WY,Sd (by omega)]
theorem al6 {k:Nat} (hk:1000 <= k) {s:List Int} (h:s.length <= 900):ak5 k s=some ((s.any (fun i=>decide (i>2)),()),()):=by
 unfold ak5;rw [al5 hk h];simp only [Option.bind_some,DR]
theorem ajM {k:Nat} (hk:1000 <= k) {s:List Int} {x:Int} (h:s.length <= 900):adg k s x=some ((s.any (fun e=>decide (e>x)),()),()):=by
 unfold adg ahX
 rw [show EO k k s x (s.length:Int) 0=some ((qm (fun e=>decide (e>x)) s,()),()) from
  sw (fun j i=>EO k j s x (s.length:Int) i) s 0 _ (fun j i hi=>by
   show EO k (j+1) s x (s.length:Int) (i:Int)=_
   rw [Vq,QB,Sc (by omega),Qo hi,Mi (by omega)]
   simp only [aou,Option.bind_some,Qp]
   rfl) (fun j=>by
   show EO k (j+1) s x (s.length:Int) (s.length:Int)=_
   rw [Vq,QB,Sd (by omega)]) k (by omega)]
 simp only [Option.bind_some,DR]
def PG (l:List I4) (open_:List Int) (x:Int):Bool:=open_.any (fun i=>(rd l i i0).2.1==(rd l x i0).2.1)
theorem ajN {k:Nat} (hk:1000 <= k) {s:List Int} {l:List I4} {x:Int} (h:s.length <= 900) (hs:∀ i∈s,0 <= i /\ i<(l.length:Int)) (hx:0 <= x /\ x<(l.length:Int)):adb k s l x=some ((PG l s x,()),()):=by
 unfold adb ahU
 rw [show EN k k s l x (s.length:Int) 0=some ((qm (fun i=>(rd l i i0).2.1==(rd l x i0).2.1) s,()),()) from
  sw (fun j i=>EN k j s l x (s.length:Int) i) s 0 _ (fun j i hi=>by
   show EN k (j+1) s l x (s.length:Int) (i:Int)=_
   have:=hs _ (jm (z:=0) hi)
   rw [Vp,QA,Sc (by omega),Qo hi,Mi (by omega),Qp,aot,Lj this.1 this.2,Lj hx.1 hx.2]
   rfl) (fun j=>by
   show EN k (j+1) s l x (s.length:Int) (s.length:Int)=_
   rw [Vp,QA,Sd (by omega)]) k (by omega)]
 simp only [Option.bind_some,DR,PG]
def pc (i:Nat) (x:I4):List (Int×Int×Int×Bool) :=
 bif x.1==8 then [(((i+1:Nat):Int),IntKind.i64.wrap ((i:Int)+x.2.2.1),(i:Int),true)]
 else bif x.1==7 then [(((i+1:Nat):Int),IntKind.i64.wrap ((i:Int)+x.2.2.2),(i:Int),false)] else []
def ny:Nat -> List (I4) -> List (Int×Int×Int×Bool)
 | _,[]=>[]
 | i,x::r=>pc i x++ny (i+1) r
theorem ajO (i:Nat) (x:I4):(pc i x).length <= 1:=by unfold pc;cases x.1==8 <;> cases x.1==7 <;> simp
theorem IU:∀ (l:List (I4)) (i:Nat),(ny i l).length <= l.length
 | [],_=>by simp [ny]
 | x::r,i=>by have:=ajO i x;have:=IU r (i+1);simp only [ny,List.length_append,List.length_cons];omega
theorem VL (l:List (I4)) (hl:l.length <= 900) (L:Nat -> List (Int×Int×Int×Bool) -> Int -> Option ((List (Int×Int×Int×Bool)×Unit)×Unit))
  (hs:∀ j out (i:Nat),i<l.length -> out.length <= i -> L (j+1) out i=L j (out++pc i (l.getD i (0,0,0,0))) ((i+1:Nat):Int))
  (he:∀ j out,L (j+1) out (l.length:Int)=some ((out,()),())):∀ (m i j:Nat) (out:List (Int×Int×Int×Bool)),i+m=l.length -> m<j -> out.length <= i -> L j out i=some ((out++ny i (l.drop i),()),())
 | 0,i,j,out,h,hj,ho=>by
  obtain ⟨j',rfl⟩:∃ j',j=j'+1:=⟨j - 1,by omega⟩
  have:i=l.length:=by omega
  subst this
  rw [he,List.drop_length]
  simp [ny]
 | m+1,i,j,out,h,hj,ho=>by
  obtain ⟨j',rfl⟩:∃ j',j=j'+1:=⟨j - 1,by omega⟩
  have hlt:i<l.length:=by omega
  have hp:=ajO i (l.getD i (0,0,0,0))
  rw [hs j' out i hlt ho,VL l hl L hs he m (i+1) j' _ (by omega) (by omega) (by simp only [List.length_append];omega),List.drop_eq_getElem_cons hlt]
  have:l.getD i (0,0,0,0)=l[i]:=by simp [List.getD_eq_getElem?_getD,hlt]
  rw [this,ny,List.append_assoc]
theorem afl {k:Nat} {l:List (I4)} (hk:1000 <= k) (h:l.length <= 900):ahL k l=some ((ny 0 l,()),()):=by
 have:=VL l h (fun j out i=>MV k j out l (l.length:Int) i)
  (fun j out i hi ho=>by
   show MV k (j+1) out l (l.length:Int) (i:Int)=_
   rw [Zo,WX,Sc (by omega),Qo hi,Mi (by omega),Qp,pc]
   cases h8:(l.getD i (0,0,0,0)).1==8 with
   | true=>simp only [cond_true];rw [Rz (by simp only [List.length_cons,List.length_nil];omega)]
   | false =>
    cases h7:(l.getD i (0,0,0,0)).1==7 with
    | true=>simp only [cond_true,cond_false];rw [Rz (by simp only [List.length_cons,List.length_nil];omega)]
    | false=>simp only [cond_false,List.append_nil])
  (fun j out=>by
   show MV k (j+1) out l (l.length:Int) (l.length:Int)=_
   rw [Zo,WX,Sd (by omega)])
  l.length 0 k [] (by omega) (by omega) (by simp)
 unfold ahL
 simpa using this
abbrev fq:Type:=Int×Int×Int×Bool
def o9 (p:fq) (i:Int):Bool:=decide (p.1 <= i)&&decide (i <= p.2.1)
def inA (p q:fq):Bool:=o9 q p.1&&o9 q p.2.1
def apA (p q:fq):Bool:=decide (p.2.1<q.1)||decide (q.2.1<p.1)
def JH (p q:fq):Bool:=(o9 q p.2.2.1&&!inA p q)||(!apA p q&&(!inA p q&&!inA q p))
theorem Yj (k:Nat) (p:fq) (i:Int):abY k p i=some ((o9 p i,()),()):=by
 unfold abY o9;rw [agP];cases h:decide (p.1 <= i) <;> simp_all
theorem al7 (k:Nat) (p q:fq):Zp k p q=some ((inA p q,()),()):=by
 unfold Zp inA;simp only [Yj,Option.bind_some,agP];cases o9 q p.1 <;> rfl
theorem al8 (k:Nat) (p q:fq):ahM k p q=some ((apA p q,()),()):=by
 unfold ahM apA;simp only [agP];cases decide (p.2.1<q.1) <;> rfl
theorem VN {k:Nat} {g4:List (I4) -> List fq -> List Int -> List fq -> Int -> Int -> Option ((Bool×Unit)×Unit)} {l:List (I4)} {all1 all:List fq} {ar:List Int} {p:fq} {t15:List fq} {t16 t17:Int} (hl:all.length <= 900) :
  ∀ (m i j:Nat),i+m=all.length -> m<j -> X0 k g4 j l all1 ar p.1 p.2.1 p.2.2.1 p.2.2.2 t15 t16 t17 all (all.length:Int) i =
   bif (all.drop i).any (JH p) then some ((false,()),()) else IE k g4 k l all1 ar p.1 p.2.1 p.2.2.1 p.2.2.2 p.1 t15 t16 t17
 | 0,i,j,h,hj=>by
  obtain ⟨j',rfl⟩:∃ j',j=j'+1:=⟨j - 1,by omega⟩
  have:i=all.length:=by omega
  subst this
  rw [Zt,WZ,Sd (by omega),List.drop_length]
  rfl
 | m+1,i,j,h,hj=>by
  obtain ⟨j',rfl⟩:∃ j',j=j'+1:=⟨j - 1,by omega⟩
  have hi:i<all.length:=by omega
  rw [Zt,WZ,Sc (by omega),Qo hi,Mi (by omega),Qp,VN hl m (i+1) j' (by omega) (by omega),List.drop_eq_getElem_cons hi,List.any_cons]
  have:all.getD i (0,0,0,false)=all[i]:=by simp [List.getD_eq_getElem?_getD,hi]
  rw [this]
  simp only [Yj,al7,al8,Option.bind_some,JH]
  cases o9 all[i] p.2.2.1 <;> cases inA p all[i] <;> cases apA p all[i] <;> cases inA all[i] p <;> rfl
def bumps:List Int -> Nat -> Nat -> List Int
 | ar,_,0=>ar
 | ar,i,m+1=>bumps (ar.set i (IntKind.i64.wrap (ar.getD i 0+1))) (i+1) m
theorem agQ {k:Nat} {g4:List (I4) -> List fq -> List Int -> List fq -> Int -> Int -> Option ((Bool×Unit)×Unit)} {l:List (I4)} {all:List fq} {ar:List Int} {p4 p5 p6:Int} {t15:List fq} {t16 t17 i:Int} (j:Nat) (hj:1 <= j) :
  IE k g4 j l all ar p4 p5 p6 false i t15 t16 t17=g4 l all ar t15 t16 (IntKind.i64.wrap (t17+1)):=by
 obtain ⟨j',rfl⟩:∃ j',j=j'+1:=⟨j - 1,by omega⟩
 rw [MX,L8];rfl
theorem VO {k:Nat} {g4:List (I4) -> List fq -> List Int -> List fq -> Int -> Int -> Option ((Bool×Unit)×Unit)} {l:List (I4)} {all:List fq} {p4 p5 p6:Int} {t15:List fq} {t16 t17:Int} :
  ∀ (m i j:Nat) (ar:List Int),((p5+1=(i:Int)+m) \/ (m=0 /\ p5<i)) -> i+m <= ar.length -> ar.length <= 900 -> m<j ->
   IE k g4 j l all ar p4 p5 p6 true i t15 t16 t17=g4 l all (bumps ar i m) t15 t16 (IntKind.i64.wrap (t17+1))
 | 0,i,j,ar,h,hl,hl9,hj=>by
  obtain ⟨j',rfl⟩:∃ j',j=j'+1:=⟨j - 1,by omega⟩
  rw [MX,L8,Sd (by omega)]
  rfl
 | m+1,i,j,ar,h,hl,hl9,hj=>by
  obtain ⟨j',rfl⟩:∃ j',j=j'+1:=⟨j - 1,by omega⟩
  have hi:i<ar.length:=by omega
  rw [MX,L8,Sc (by omega),Qo hi,Qo hi,Mi (by omega),Qp,Mj,VO m (i+1) j' _ (by omega) (by simp only [List.length_set];omega) (by simp only [List.length_set];omega) (by omega)]
  rfl
def nest (L1:Int) (all:List fq):List fq -> List Int -> Bool
 | [],ar=>!ar.any (fun i=>decide (i>2))
 | p::r,ar=>bif decide (p.2.1≥L1) then false else bif all.any (JH p) then false else nest L1 all r (bif p.2.2.2 then bumps ar p.1.toNat (p.2.1+1 - p.1).toNat else ar)
theorem NV:∀ (m i:Nat) (ar:List Int),(bumps ar i m).length=ar.length
 | 0,_,_=>rfl
 | m+1,i,ar=>by rw [bumps,NV m];simp
theorem NY {k:Nat} (hk:1000 <= k) {l:List (I4)} {all:List fq} (hl:l.length <= 900) (ha:all.length <= 900) (hp:∀ p∈all,0 <= p.1 /\ p.1 <= l.length):∀ (m i j:Nat) (ar:List Int),i+m=all.length -> m<j -> ar.length=l.length ->
  RP k j l all ar all (all.length:Int) i=some ((nest (IntKind.i64.wrap ((l.length:Int) - 1)) all (all.drop i) ar,()),())
 | 0,i,j,ar,h,hj,har=>by
  obtain ⟨j',rfl⟩:∃ j',j=j'+1:=⟨j - 1,by omega⟩
  have:i=all.length:=by omega
  subst this
  rw [Zu,X3,Sd (by omega),List.drop_length,al6 hk (by omega)]
  rfl
 | m+1,i,j,ar,h,hj,har=>by
  obtain ⟨j',rfl⟩:∃ j',j=j'+1:=⟨j - 1,by omega⟩
  have hi:i<all.length:=by omega
  have hq:all.getD i (0,0,0,false)=all[i]:=by simp [List.getD_eq_getElem?_getD,hi]
  rw [Zu,X3,Sc (by omega),Qo hi,Qp,hq,List.drop_eq_getElem_cons hi,nest]
  have hb:=hp all[i] (List.getElem_mem hi)
  cases h1:decide (all[i].2.1≥IntKind.i64.wrap ((l.length:Int) - 1)) with
  | true=>rfl
  | false =>
   have h1':=of_decide_eq_false h1
   rw [Uu (by omega) (by omega)] at h1'
   have h9:=VN (k:=k) (g4:=RP k j') (l:=l) (all1:=all) (all:=all) (ar:=ar) (p:=all[i]) (t15:=all) (t16:=(all.length:Int)) (t17:=(i:Int)) ha all.length 0 k (by omega) (by omega)
   simp only [cond_false]
   refine Eq.trans h9 ?_
   rw [List.drop_zero]
   cases h2:all.any (JH all[i]) with
   | true=>rfl
   | false =>
    simp only [cond_false]
    cases h3:all[i].2.2.2 with
    | false =>
     rw [agQ k (by omega),Mi (by omega),NY hk hl ha hp m (i+1) j' ar (by omega) (by omega) har]
     rfl
    | true =>
     obtain ⟨n,hn⟩:∃ n:Nat,all[i].1=(n:Int):=⟨all[i].1.toNat,by omega⟩
     rw [hn,VO (all[i].2.1+1 - (n:Int)).toNat n k ar (by omega) (by omega) (by omega) (by omega),Mi (by omega),NY hk hl ha hp m (i+1) j' _ (by omega) (by omega) (by rw [NV];exact har)]
     rfl
theorem afm:∀ (l:List (I4)) (i:Nat) (p:fq),p∈ny i l -> ∃ n:Nat,i <= n /\ n<i+l.length /\ p.2.2.1=(n:Int) /\ p.1=((n+1:Nat):Int) /\ ∃ x,l[n - i]? = some x /\ p∈pc n x
 | [],_,_,h=>by cases h
 | x::r,i,p,h=>by
  rw [ny] at h
  rcases List.mem_append.1 h with h | h
  ·refine ⟨i,by omega,by simp,?_,?_,x,by simp,h⟩
   all_goals
    unfold pc at h
    cases h8:x.1==8 <;> cases h7:x.1==7 <;> simp only [h8,h7,cond_true,cond_false,List.mem_singleton,List.not_mem_nil] at h <;> first | (subst h;rfl) | exact h.elim
  ·obtain ⟨n,h1,h2,h3,h4,y,h5,h6⟩:=afm r (i+1) p h
   refine ⟨n,by omega,by simp only [List.length_cons];omega,h3,h4,y,?_,h6⟩
   rw [show n - i=(n - (i+1))+1 by omega,List.getElem?_cons_succ]
   exact h5
theorem al9 {k:Nat} (hk:1000 <= k) {l:List (I4)} (hl:l.length <= 900):ak6 k l=some ((nest (IntKind.i64.wrap ((l.length:Int) - 1)) (ny 0 l) (ny 0 l) (List.replicate l.length 0),()),()):=by
 unfold ak6
 have h1:=IU l 0
 rw [afl hk hl,Option.bind_some,Ry (by omega) (by simp;omega)]
 have:=NY hk (l:=l) (all:=ny 0 l) hl (by omega) (fun p hp=>by
  obtain ⟨n,_,h2,_,h4,_⟩:=afm l 0 p hp
  omega) (ny 0 l).length 0 k (List.replicate l.length 0) (by omega) (by omega) (by simp)
 rw [List.drop_zero] at this
 exact this
def marks (n:Nat) (p:fq):List (PN Bool 24) -> Nat -> Nat -> List (PN Bool 24)
 | out,_,0=>out
 | out,i,m+1=>marks n p (bif o9 p (i:Int) then out.set i (Ur (α:=Bool) 24 (out.getD i (Qn (α:=Bool) 24 false)) (n:Int) true) else out) (i+1) m
theorem NZ {k:Nat} {g3:List (I4) -> List (PN Bool 24) -> List fq -> Int -> Int -> Option ((List (PN Bool 24)×Unit)×Unit)} {l:List (I4)} {n:Nat} {p:fq} {t11:List fq} {t12 t13:Int} {len:Nat} (hn:n<24) (hl:len <= 900) :
  ∀ (m i j:Nat) (out:List (PN Bool 24)),i+m=len -> m<j -> out.length=len ->
   X5 k g3 j l out (n:Int) p.1 p.2.1 p.2.2.1 p.2.2.2 t11 t12 t13 (len:Int) i=g3 l (marks n p out i m) t11 t12 (IntKind.i64.wrap (t13+1))
 | 0,i,j,out,h,hj,ho=>by
  obtain ⟨j',rfl⟩:∃ j',j=j'+1:=⟨j - 1,by omega⟩
  rw [Zv,X4,Sd (by omega)]
  rfl
 | m+1,i,j,out,h,hj,ho=>by
  obtain ⟨j',rfl⟩:∃ j',j=j'+1:=⟨j - 1,by omega⟩
  rw [Zv,X4,Sc (by omega),Sc (by omega),Mi (by omega),marks]
  have:(p.1,p.2.1,p.2.2.1,p.2.2.2)=p:=rfl
  rw [this,Yj,Option.bind_some]
  cases hh:o9 p (i:Int) with
  | true =>
   simp only [cond_true]
   rw [Qo (by omega),Rw (by omega) (by omega),Mj,Qp,NZ hn hl m (i+1) j' _ (by omega) (by omega) (by simp only [List.length_set];exact ho)]
  | false =>
   simp only [cond_false]
   rw [NZ hn hl m (i+1) j' _ (by omega) (by omega) ho]
theorem IW (n:Nat) (p:fq):∀ (m i:Nat) (out:List (PN Bool 24)),(marks n p out i m).length=out.length
 | 0,_,_=>rfl
 | m+1,i,out=>by rw [marks,IW n p m];cases o9 p (i:Int) <;> simp
def JZ (len:Nat):Nat -> List fq -> List (PN Bool 24) -> List (PN Bool 24)
 | _,[],out=>out
 | n,p::r,out=>JZ len (n+1) r (marks n p out 0 len)
theorem VP {k:Nat} (hk:1000 <= k) {l:List (I4)} {all:List fq} (hl:l.length <= 900) (ha:all.length <= 24):∀ (m n j:Nat) (out:List (PN Bool 24)),n+m=all.length -> m<j -> out.length=l.length ->
  RQ k j l out all (all.length:Int) n=some ((JZ l.length n (all.drop n) out,()),())
 | 0,n,j,out,h,hj,ho=>by
  obtain ⟨j',rfl⟩:∃ j',j=j'+1:=⟨j - 1,by omega⟩
  have:n=all.length:=by omega
  subst this
  rw [Zw,X6,Sd (by omega),List.drop_length]
  rfl
 | m+1,n,j,out,h,hj,ho=>by
  obtain ⟨j',rfl⟩:∃ j',j=j'+1:=⟨j - 1,by omega⟩
  have hi:n<all.length:=by omega
  have hq:all.getD n (0,0,0,false)=all[n]:=by simp [List.getD_eq_getElem?_getD,hi]
  rw [Zw,X6,Sc (by omega),Qo hi,Qp,hq,List.drop_eq_getElem_cons hi,JZ]
  refine Eq.trans (NZ (k:=k) (g3:=RQ k j') (p:=all[n]) (t11:=all) (t12:=(all.length:Int)) (t13:=(n:Int)) (by omega) hl l.length 0 k out (by omega) (by omega) ho) ?_
  rw [Mi (by omega),VP hk hl ha m (n+1) j' _ (by omega) (by omega) (by rw [IW];exact ho)]
theorem afn {k:Nat} (hk:1000 <= k) {l:List (I4)} (hl:l.length <= 24):ahT k l=some ((JZ l.length 0 (ny 0 l) (List.replicate l.length (Qn (α:=Bool) 24 false)),()),()):=by
 unfold ahT
 have h1:=IU l 0
 rw [Ry (by omega) (by simp;omega),afl hk (by omega),Option.bind_some]
 have:=VP hk (l:=l) (all:=ny 0 l) (by omega) (by omega) (ny 0 l).length 0 k (List.replicate l.length (Qn (α:=Bool) 24 false)) (by omega) (by omega) (by simp)
 rw [List.drop_zero] at this
 exact this
abbrev z24:PN Bool 24:=Qn (α:=Bool) 24 false
def D9 (out:List (PN Bool 24)) (j n:Nat):Bool:=(Gv 24 (out.getD j z24)).getD n false
theorem aci (m j n:Nat):D9 (List.replicate m z24) j n=false:=by
 unfold D9
 have:(List.replicate m z24).getD j z24=z24:=by
  rw [List.getD_eq_getElem?_getD,List.getElem?_replicate];split <;> rfl
 rw [this,EX,List.getD_eq_getElem?_getD,List.getElem?_replicate];split <;> rfl
theorem agR {out:List (PN Bool 24)} {i j n n':Nat} (hi:i<out.length) (hn:n<24) :
  D9 (out.set i (Ur (α:=Bool) 24 (out.getD i z24) (n:Int) true)) j n'=(decide (i=j /\ n=n')||D9 out j n'):=by
 unfold D9
 rw [mh]
 by_cases h:i=j
 ·subst h
  rw [if_pos ⟨rfl,hi⟩,VK,mh,BU]
  by_cases h2:n=n'
  ·subst h2;simp [hn]
  ·simp [h2]
 ·rw [if_neg (fun h2=>h h2.1)];simp [h]
theorem PI {n:Nat} {p:fq} (hn:n<24):∀ (m i:Nat) (out:List (PN Bool 24)) (j n':Nat),i+m <= out.length ->
  D9 (marks n p out i m) j n'=(decide (i <= j /\ j<i+m /\ n=n')&&o9 p (j:Int)||D9 out j n')
 | 0,i,out,j,n',_=>by
  rw [marks]
  have:decide (i <= j /\ j<i+0 /\ n=n')=false:=decide_eq_false (by omega)
  rw [this];rfl
 | m+1,i,out,j,n',h=>by
  rw [marks]
  have hlen:(bif o9 p (i:Int) then out.set i (Ur (α:=Bool) 24 (out.getD i z24) (n:Int) true) else out).length=out.length:=by cases o9 p (i:Int) <;> simp
  rw [PI hn m (i+1) _ j n' (by rw [hlen];omega)]
  cases hh:o9 p (i:Int) with
  | true =>
   simp only [cond_true]
   rw [agR (by omega) hn]
   by_cases e:i=j
   ·subst e
    by_cases e2:n=n'
    ·subst e2;simp [hh]
    ·simp [e2]
   ·have e1:decide (i=j /\ n=n')=false:=decide_eq_false (fun h=>e h.1)
    have e2:decide (i+1 <= j /\ j<i+1+m /\ n=n')=decide (i <= j /\ j<i+(m+1) /\ n=n'):=by congr 1;exact propext ⟨fun h=>by omega,fun h=>by omega⟩
    rw [e1,e2];simp
  | false =>
   simp only [cond_false]
   by_cases e:i=j
   ·subst e
    simp only [hh,Bool.and_false]
   ·have e2:decide (i+1 <= j /\ j<i+1+m /\ n=n')=decide (i <= j /\ j<i+(m+1) /\ n=n'):=by congr 1;exact propext ⟨fun h=>by omega,fun h=>by omega⟩
    rw [e2]
theorem PK {len:Nat}:∀ (ps:List fq) (n:Nat) (out:List (PN Bool 24)) (j n':Nat),out.length=len -> n+ps.length <= 24 -> j<len ->
  D9 (JZ len n ps out) j n'=(decide (n <= n' /\ n'<n+ps.length)&&o9 (ps.getD (n' - n) (0,0,0,false)) (j:Int)||D9 out j n')
 | [],n,out,j,n',_,_,_=>by
  rw [JZ]
  have:decide (n <= n' /\ n'<n+([]:List fq).length)=false:=decide_eq_false (by simp)
  rw [this];rfl
 | p::r,n,out,j,n',ho,hn,hj=>by
  simp only [List.length_cons] at hn
  rw [JZ,PK r (n+1) _ j n' (by rw [IW];exact ho) (by omega) hj,PI (by omega) _ _ _ _ _ (by omega)]
  by_cases e:n=n'
  ·subst e
   have e1:decide (n+1 <= n /\ n<n+1+r.length)=false:=decide_eq_false (by omega)
   have e2:decide (0 <= j /\ j<0+len /\ n=n)=true:=decide_eq_true ⟨by omega,by omega,rfl⟩
   have e3:decide (n <= n /\ n<n+(p::r).length)=true:=decide_eq_true ⟨by omega,by simp⟩
   rw [e1,e2,e3];simp
  ·have e2:decide (0 <= j /\ j<0+len /\ n=n')=false:=decide_eq_false (fun h=>e h.2.2)
   rw [e2]
   by_cases h:n+1 <= n'
   ·have:n' - n=(n' - (n+1))+1:=by omega
    rw [this,List.getD_cons_succ]
    have e3:decide (n+1 <= n' /\ n'<n+1+r.length)=decide (n <= n' /\ n'<n+(p::r).length):=by congr 1;exact propext ⟨fun h=>by simp only [List.length_cons];omega,fun h=>by simp only [List.length_cons] at h;omega⟩
    rw [e3];simp
   ·have e3:decide (n+1 <= n' /\ n'<n+1+r.length)=false:=decide_eq_false (by omega)
    have e4:decide (n <= n' /\ n'<n+(p::r).length)=false:=decide_eq_false (by omega)
    rw [e3,e4];simp
def AI (l:List I4):List (PN Bool 24):=JZ l.length 0 (ny 0 l) (List.replicate l.length z24)
theorem VQ (len:Nat):∀ (ps:List fq) (n:Nat) (out:List (PN Bool 24)),(JZ len n ps out).length=out.length
 | [],_,_=>rfl
 | p::r,n,out=>by rw [JZ,VQ len r,IW]
theorem Yk (l:List I4):(AI l).length=l.length:=by unfold AI;rw [VQ];simp
theorem O1 {l:List I4} (hl:l.length <= 24) {j n:Nat} (hj:j<l.length):D9 (AI l) j n=(decide (n<(ny 0 l).length)&&o9 ((ny 0 l).getD n (0,0,0,false)) (j:Int)):=by
 unfold AI
 have:=IU l 0
 rw [PK _ 0 _ j n (by simp) (by omega) hj,aci,Bool.or_false]
 congr 2
 simp
def H6 (l:List I4) (i j:Int):Bool:=(ny 0 l).any (fun p=>o9 p i != o9 p j)
theorem aqA {l:List I4} (hl:l.length <= 24) {i j:Nat} (hi:i<l.length) (hj:j<l.length):((AI l).getD i z24=(AI l).getD j z24)↔H6 l i j=false:=by
 constructor
 ·intro h
  unfold H6
  rw [List.any_eq_false]
  intro p hp
  obtain ⟨n,hn,rfl⟩:=u7 (0,0,0,false) hp
  have h1:=O1 hl hi (n:=n)
  have h2:=O1 hl hj (n:=n)
  unfold D9 at h1 h2
  rw [h] at h1
  rw [h1] at h2
  simp only [hn,decide_true,Bool.true_and] at h2
  rw [h2];simp
 ·intro h
  unfold H6 at h
  rw [List.any_eq_false] at h
  apply NU
  apply List.ext_getElem (by rw [BU,BU])
  intro n h1 h2
  have e1:=O1 hl hi (n:=n)
  have e2:=O1 hl hj (n:=n)
  unfold D9 at e1 e2
  rw [getD_in h1] at e1
  rw [getD_in h2] at e2
  rw [e1,e2]
  by_cases hn:n<(ny 0 l).length
  ·have:=h _ (jm (z:=(0,0,0,false)) hn)
   simp only [bne_iff_ne,ne_eq,Decidable.not_not] at this
   rw [this]
  ·simp [hn]
theorem ama {l:List I4} (hl:l.length <= 24) {i:Nat} (hi:i<l.length):((AI l).getD i z24=z24)↔(ny 0 l).any (fun p=>o9 p i)=false:=by
 constructor
 ·intro h
  rw [List.any_eq_false]
  intro p hp
  obtain ⟨n,hn,rfl⟩:=u7 (0,0,0,false) hp
  have h1:=O1 hl hi (n:=n)
  unfold D9 at h1
  rw [h,EX] at h1
  simp only [hn,decide_true,Bool.true_and] at h1
  rw [<- h1,List.getD_eq_getElem?_getD,List.getElem?_replicate];split <;> simp
 ·intro h
  rw [List.any_eq_false] at h
  apply NU
  apply List.ext_getElem (by rw [BU,BU])
  intro n h1 h2
  have e1:=O1 hl hi (n:=n)
  unfold D9 at e1
  rw [getD_in h1] at e1
  have e2:(Gv 24 z24)[n]=false:=by
   have:Gv 24 z24=List.replicate 24 false:=EX 24 false
   rw [List.getElem_of_eq this,List.getElem_replicate]
  rw [e1,e2]
  by_cases hn:n<(ny 0 l).length
  ·have:=h _ (jm (z:=(0,0,0,false)) hn)
   simpa [hn] using this
  ·simp [hn]
theorem BX:∀ (n:Nat) (a b:(Am n .bool).D),fC (Am n .bool) a b=true↔a=b
 | 0,_,_=>⟨fun _=>rfl,fun _=>rfl⟩
 | 1,a,b=>by
  show (a==b)=true↔a=b
  exact beq_iff_eq
 | n+2,a,b=>by
  show (a.1==b.1&&fC (Am (n+1) .bool) a.2 b.2)=true↔a=b
  rw [Bool.and_eq_true,BX (n+1) a.2 b.2,beq_iff_eq]
  exact ⟨fun h=>Prod.ext h.1 h.2,fun h=>by subst h;exact ⟨rfl,rfl⟩⟩
section
variable {tk tv:Ty} (hb:∀ a b:tk.D,fC tk a b=true↔a=b)
include hb
theorem BZ (d e:tk.D) (v:tv.D):∀ (es:List (tk.D×tv.D)),jB tk tv e (vL tk tv d v es)=if fC tk e d=true then some v else jB tk tv e es
 | []=>by
  simp only [vL,jB]
  cases fC tk e d <;> rfl
 | x::r=>by
  simp only [vL]
  cases h:fC tk d x.1 with
  | true =>
   have:=(hb _ _).1 h
   simp only [jB]
   rw [<- this]
   cases fC tk e d <;> rfl
  | false =>
   simp only [jB]
   rw [BZ d e v r]
   cases h2:fC tk e x.1 with
   | true =>
    have h3:=(hb _ _).1 h2
    subst h3
    cases h4:fC tk x.1 d with
    | true =>
     have h5:=(hb _ _).1 h4
     rw [<- h5,(hb _ _).2 rfl] at h
     cases h
    | false=>rfl
   | false=>rfl
end
def lq (l:List I4) (i:Nat) (s:List Int×List Int):Option (List Int×List Int) :=
 if (l.getD i i0).1=9 then (if 2 <= s.2.length \/ PG l s.2 i=true then none else some (s.1,s.2++[(i:Int)]))
 else if (l.getD i i0).1=10 then
  (match s.2.getLast? with
  | none=>none
  | some k=>if (rd l k i0).2.1≠(l.getD i i0).2.1 \/ H6 l k.toNat i=true then none else some (upd s.1 k i,s.2.dropLast))
 else some s
def yc (l:List I4):Nat -> Nat -> List Int×List Int -> Option (List Int×List Int)
 | 0,_,s=>some s
 | m+1,i,s=>(lq l i s).bind (yc l m (i+1))
def prs (l:List I4):Option (List Int):=match yc l l.length 0 (List.replicate l.length 0,[]) with
 | some (out,[])=>some out
 | _=>none
def afo:Option (List Int) -> Option ((List Int×Bool×Unit)×Unit)
 | some out=>some ((out,true,()),())
 | none=>some (([],false,()),())
def ajQ (l:List I4) (i:Nat) (s:List Int×List Int):Prop:=s.1.length=l.length /\ s.2.length <= 2 /\ ∀ k∈s.2,0 <= k /\ k<(i:Int)
theorem K9 {l:List I4} {i:Nat} {s s':List Int×List Int} (hv:ajQ l i s) (h:lq l i s=some s'):ajQ l (i+1) s':=by
 obtain ⟨h1,h2,h3⟩:=hv
 unfold lq at h
 split at h
 ·split at h
  ·cases h
  ·rename_i hn
   injection h with h;subst h
   refine ⟨h1,?_,?_⟩
   ·simp only [List.length_append,List.length_cons,List.length_nil];omega
   ·intro k hk
    rcases List.mem_append.1 hk with hk | hk
    ·have:=h3 k hk;omega
    ·have:=List.mem_singleton.1 hk;omega
 ·split at h
  ·split at h
   ·cases h
   ·split at h
    ·cases h
    ·injection h with h;subst h
     refine ⟨by rw [Mk];exact h1,?_,?_⟩
     ·simp only [List.length_dropLast];omega
     ·intro k hk
      have:=h3 k ((List.dropLast_sublist _).subset hk);omega
  ·injection h with h;subst h
   exact ⟨h1,h2,fun k hk=>by have:=h3 k hk;omega⟩
def afp (l:List I4) (i:Nat) (same:List (PN Bool 24×Int)):Prop :=
 (∀ key v,jB (Am 24 .bool) (.int .i64) key same=some v -> ∃ j:Nat,j<i /\ v=(j:Int) /\ (AI l).getD j z24=key) /\
 ∀ j,j<i -> ∃ v,jB (Am 24 .bool) (.int .i64) ((AI l).getD j z24) same=some v
def EY (l:List I4) (i:Nat) (same:List (PN Bool 24×Int)):List (PN Bool 24×Int) :=
 bif !(Ut (Am 24 .bool) (.int .i64) ((AI l).getD i z24) same) then vL (Am 24 .bool) (.int .i64) ((AI l).getD i z24) (i:Int) same else same
theorem acj {l:List I4} {i:Nat} {same:List (PN Bool 24×Int)} (h:afp l i same):afp l (i+1) (EY l i same):=by
 obtain ⟨h1,h2⟩:=h
 unfold EY Ut
 cases hl:jB (Am 24 .bool) (.int .i64) ((AI l).getD i z24) same with
 | some v =>
  simp only [isNone,Bool.not_false,Bool.not_true,cond_false]
  refine ⟨fun key v hk=>?_,fun j hj=>?_⟩
  ·obtain ⟨j,h3,h4⟩:=h1 key v hk
   exact ⟨j,by omega,h4⟩
  ·by_cases e:j=i
   ·subst e;exact ⟨v,hl⟩
   ·exact h2 j (by omega)
 | none =>
  simp only [isNone,Bool.not_true,Bool.not_false,cond_true]
  refine ⟨fun key v hk=>?_,fun j hj=>?_⟩
  ·rw [BZ (BX 24)] at hk
   split at hk
   ·rename_i hb
    injection hk with hk
    exact ⟨i,by omega,hk.symm,((BX 24 _ _).1 hb).symm⟩
   ·obtain ⟨j,h3,h4⟩:=h1 key v hk
    exact ⟨j,by omega,h4⟩
  ·rw [BZ (BX 24)]
   split
   ·exact ⟨_,rfl⟩
   ·rename_i hb
    by_cases e:j=i
    ·subst e;exact absurd ((BX 24 _ _).2 rfl) hb
    ·exact h2 j (by omega)
theorem aqB {l:List I4} (hl:l.length <= 24) {i k n:Nat} {same:List (PN Bool 24×Int)} (h:afp l n same) (hi:i<n) (hk:k<n) (hn:n <= l.length) :
  (Us (Am 24 .bool) (.int .i64) ((AI l).getD k z24) same 0 != Us (Am 24 .bool) (.int .i64) ((AI l).getD i z24) same 0)=H6 l k i:=by
 obtain ⟨h1,h2⟩:=h
 obtain ⟨v,hv⟩:=h2 k hk
 obtain ⟨w,hw⟩:=h2 i hi
 obtain ⟨a,ha,rfl,ha2⟩:=h1 _ _ hv
 obtain ⟨b,hb,rfl,hb2⟩:=h1 _ _ hw
 unfold Us
 rw [hv,hw]
 have:=aqA hl (i:=k) (j:=i) (by omega) (by omega)
 cases hs:H6 l k i with
 | false =>
  have e:=this.2 hs
  rw [e,hw] at hv
  injection hv with hv
  simp [hv]
 | true =>
  simp only [bne_iff_ne,ne_eq]
  intro e
  have e:(a:Int)=(b:Int):=e
  have e:a=b:=by omega
  subst e
  rw [ha2] at hb2
  rw [this.1 hb2] at hs
  cases hs
theorem VR {k:Nat} (hk:1000 <= k) {l:List I4} (hl:l.length <= 24):∀ (m i j:Nat) (s:List Int×List Int) (same:List (PN Bool 24×Int)),i+m=l.length -> m<j -> ajQ l i s -> afp l i same ->
  MZ k j l s.1 s.2 same (AI l) (AI l) (l.length:Int) i=afo (match yc l m i s with | some (out,[])=>some out | _=>none)
 | 0,i,j,s,same,h,hj,hv,hm=>by
  obtain ⟨j',rfl⟩:∃ j',j=j'+1:=⟨j - 1,by omega⟩
  obtain ⟨out,open_⟩:=s
  rw [Zy,X7,Sd (by omega)]
  cases open_ with
  | nil=>rfl
  | cons x r=>rw [Sc (by simp only [List.length_cons];omega)];rfl
 | m+1,i,j,s,same,h,hj,hv,hm=>by
  obtain ⟨j',rfl⟩:∃ j',j=j'+1:=⟨j - 1,by omega⟩
  have hi:i<l.length:=by omega
  have hm':=acj hm
  have ih:=VR hk hl m (i+1) j'
  have key:MZ k (j'+1) l s.1 s.2 same (AI l) (AI l) (l.length:Int) i=RU k (fun l_1 out open_ same all t20 t21 t22=>MZ k j' l_1 out open_ same all t20 t21 t22) l s.1 s.2 (EY l i same) (AI l) (i:Int)
   ((AI l).getD i z24).1 ((AI l).getD i z24).2.1 ((AI l).getD i z24).2.2.1 ((AI l).getD i z24).2.2.2.1 ((AI l).getD i z24).2.2.2.2.1 ((AI l).getD i z24).2.2.2.2.2.1 ((AI l).getD i z24).2.2.2.2.2.2.1 ((AI l).getD i z24).2.2.2.2.2.2.2.1 ((AI l).getD i z24).2.2.2.2.2.2.2.2.1 ((AI l).getD i z24).2.2.2.2.2.2.2.2.2.1 ((AI l).getD i z24).2.2.2.2.2.2.2.2.2.2.1 ((AI l).getD i z24).2.2.2.2.2.2.2.2.2.2.2.1 ((AI l).getD i z24).2.2.2.2.2.2.2.2.2.2.2.2.1 ((AI l).getD i z24).2.2.2.2.2.2.2.2.2.2.2.2.2.1 ((AI l).getD i z24).2.2.2.2.2.2.2.2.2.2.2.2.2.2.1 ((AI l).getD i z24).2.2.2.2.2.2.2.2.2.2.2.2.2.2.2.1 ((AI l).getD i z24).2.2.2.2.2.2.2.2.2.2.2.2.2.2.2.2.1 ((AI l).getD i z24).2.2.2.2.2.2.2.2.2.2.2.2.2.2.2.2.2.1 ((AI l).getD i z24).2.2.2.2.2.2.2.2.2.2.2.2.2.2.2.2.2.2.1 ((AI l).getD i z24).2.2.2.2.2.2.2.2.2.2.2.2.2.2.2.2.2.2.2.1 ((AI l).getD i z24).2.2.2.2.2.2.2.2.2.2.2.2.2.2.2.2.2.2.2.2.1 ((AI l).getD i z24).2.2.2.2.2.2.2.2.2.2.2.2.2.2.2.2.2.2.2.2.2.1 ((AI l).getD i z24).2.2.2.2.2.2.2.2.2.2.2.2.2.2.2.2.2.2.2.2.2.2.1 ((AI l).getD i z24).2.2.2.2.2.2.2.2.2.2.2.2.2.2.2.2.2.2.2.2.2.2.2 (AI l) (l.length:Int) (i:Int):=by
   rw [Zy,X7,Sc (by omega),Qo (by rw [Yk];omega),Qp]
   unfold EY
   cases Ut (Am 24 .bool) (.int .i64) ((AI l).getD i z24) same <;> rfl
  rw [key,RU]
  obtain ⟨out,open_⟩:=s
  obtain ⟨hv1,hv2,hv3⟩:=hv
  simp only at hv1 hv2 hv3 ⊢
  rw [Qo hi,Qp,yc]
  cases h9:(l.getD i i0).1==9 with
  | true =>
   have h9':=eq_of_beq h9
   by_cases h2:2 <= open_.length
   ·have:lq l i (out,open_)=none:=by unfold lq;rw [if_pos h9',if_pos (.inl h2)]
    rw [this,cond_true,Sc (by omega)];rfl
   ·rw [cond_true,Sd (by omega),ajN hk (by omega) (fun k hk=>by have:=hv3 k hk;omega) (by omega),Option.bind_some]
    cases hs:PG l open_ i with
    | true =>
     have:lq l i (out,open_)=none:=by unfold lq;rw [if_pos h9',if_pos (.inr hs)]
     rw [this];rfl
    | false =>
     have hp:lq l i (out,open_)=some (out,open_++[(i:Int)]):=by unfold lq;rw [if_pos h9',if_neg (by rw [hs];simp;omega)]
     have:=ih (out,open_++[(i:Int)]) (EY l i same) (by omega) (by omega) (K9 ⟨hv1,hv2,hv3⟩ hp) hm'
     rw [hp,Option.bind_some,<- this]
     simp only [cond_false]
     rw [Rz (by simp only [List.length_cons,List.length_nil];omega),Mi (by omega)]
  | false =>
   have h9':(l.getD i i0).1≠9:=by intro e;rw [e] at h9;cases h9
   simp only [cond_false]
   cases h10:(l.getD i i0).1==10 with
   | true =>
    have agS:=eq_of_beq h10
    simp only [cond_true]
    have hstep:lq l i (out,open_)=(match open_.getLast? with
     | none=>none
     | some k=>if (rd l k i0).2.1≠(l.getD i i0).2.1 \/ H6 l k.toNat i=true then none else some (upd out k i,open_.dropLast)):=by
     unfold lq;rw [if_neg h9',if_pos agS]
    rw [Uu (by omega) (by omega)]
    rcases List.eq_nil_or_concat open_ with rfl | ⟨r,x,rfl⟩
    ·rw [hstep];rfl
    ·rw [List.concat_eq_append] at *
     have hlast:(r++[x]).getLast? = some x:=by simp
     rw [hlast] at hstep
     have hx:=hv3 x (by simp)
     obtain ⟨n,rfl⟩:∃ n:Nat,x=(n:Int):=⟨x.toNat,by omega⟩
     have hlen:(((r++[(n:Int)]).length:Int) - 1)=(r.length:Int):=by simp only [List.length_append,List.length_cons,List.length_nil];omega
     have hrd:rd (r++[(n:Int)]) (r.length:Int) 0=(n:Int):=by rw [Qp,List.getD_eq_getElem?_getD];simp
     rw [hlen,Sd (by omega),Lj (by omega) (by simp only [List.length_append,List.length_cons,List.length_nil];omega),hrd,Qo (by omega),Qo hi,Qp]
     simp only [Qp,Int.toNat_natCast] at hstep
     cases hA:(l.getD n i0).2.1 != (l.getD i i0).2.1 with
     | true =>
      have hp:lq l i (out,r++[(n:Int)])=none:=by rw [hstep];exact if_pos (.inl (by simpa using hA))
      rw [hp];rfl
     | false =>
      rw [cond_false,Lj (by omega) (by simp only [List.length_append,List.length_cons,List.length_nil];omega),Qo (by rw [Yk];omega),Qp]
      have hmp:=aqB hl hm' (i:=i) (k:=n) (by omega) (by omega) (by omega)
      have hA':¬ (l.getD n i0).2.1≠(l.getD i i0).2.1:=by simpa using hA
      rw [show (Us (Am 24 .bool) (.int .i64) ((AI l).getD n z24) (EY l i same) 0 != Us (Am 24 .bool) (.int .i64) (((AI l).getD i z24).1,((AI l).getD i z24).2) (EY l i same) 0)=H6 l n i from hmp]
      cases hs:H6 l n i with
      | true =>
       have hp:lq l i (out,r++[(n:Int)])=none:=by rw [hstep];exact if_pos (.inr hs)
       rw [hp];rfl
      | false =>
       have hp:lq l i (out,r++[(n:Int)])=some (upd out (n:Int) (i:Int),r):=by rw [hstep];refine (if_neg ?_).trans (by simp);rintro (h | h);exact hA' h;rw [show H6 l n i=true from h] at hs;cases hs
       have:=ih (upd out (n:Int) (i:Int),r) (EY l i same) (by omega) (by omega) (K9 ⟨hv1,hv2,hv3⟩ hp) hm'
       rw [hp,Option.bind_some,<- this,cond_false,Lj (by omega) (by simp only [List.length_append,List.length_cons,List.length_nil];omega),Qo (by omega),Rx (by omega) (by omega) (by simp only [List.length_append,List.length_cons,List.length_nil];omega),Mi (by omega)]
       have:(r++[(n:Int)]).take (r.length:Int).toNat=r:=by simp
       rw [this]
   | false =>
    have agS:(l.getD i i0).1≠10:=by intro e;rw [e] at h10;cases h10
    have hp:lq l i (out,open_)=some (out,open_):=by unfold lq;rw [if_neg h9',if_neg agS]
    have:=ih (out,open_) (EY l i same) (by omega) (by omega) (K9 ⟨hv1,hv2,hv3⟩ hp) hm'
    rw [hp,Option.bind_some,<- this,cond_false,Mi (by omega)]
theorem afq {k:Nat} (hk:1000 <= k) {l:List I4} (hl:l.length <= 24):ahW k l=afo (prs l):=by
 unfold ahW
 rw [Ry (by omega) (by omega),afn hk hl,Option.bind_some]
 have:=VR hk hl l.length 0 k (List.replicate l.length 0,[]) [] (by omega) (by omega) ⟨by simp,by simp,by simp⟩ ⟨fun key v h=>by simp [jB] at h,fun j h=>absurd h (by omega)⟩
 unfold prs
 rw [<- this]
 have:(AI l).length=l.length:=Yk l
 unfold AI at this ⊢
 simp only [this,Int.toNat_natCast]
 rfl
def PL (l:List I4) (ps:List Int) (i:Nat):Bool:=(l.getD i i0).1==11&&((ny 0 l).any (fun p=>o9 p i)||(ps.take i).any (fun e=>decide (e>(i:Int))))
def yw (l:List I4):Bool :=
 decide (1 <= l.length)&&(decide (l.length <= 24)&&(!l.any (fun i=>!l5 i)&&(qm (fun i=>i.1==0) l==(l.length:Int) - 1 &&
  (nest ((l.length:Int) - 1) (ny 0 l) (ny 0 l) (List.replicate l.length 0) &&
  (match prs l with | none=>false | some ps=>!LW (PL l ps) l.length 0)))))
theorem aa0 {l:List I4}:∀ (m i:Nat) (s s':List Int×List Int),yc l m i s=some s' -> s'.1.length=s.1.length
 | 0,i,s,s',h=>by injection h with h;subst h;rfl
 | m+1,i,s,s',h=>by
  rw [yc,Option.bind_eq_some_iff] at h
  obtain ⟨t,h1,h2⟩:=h
  rw [aa0 m (i+1) t s' h2]
  unfold lq at h1
  split at h1
  ·split at h1
   ·cases h1
   ·injection h1 with h1;subst h1;rfl
  ·split at h1
   ·split at h1
    ·cases h1
    ·split at h1
     ·cases h1
     ·injection h1 with h1;subst h1;simp only [Mk]
   ·injection h1 with h1;subst h1;rfl
theorem acn {l:List I4} {ps:List Int} (h:prs l=some ps):yc l l.length 0 (List.replicate l.length 0,[])=some (ps,[]):=by
 unfold prs at h
 split at h
 ·rename_i out hg;injection h with h;subst h;exact hg
 ·cases h
theorem QW {l:List I4} {ps:List Int} (h:prs l=some ps):ps.length=l.length:=by
 have:=aa0 _ _ _ _ (acn h)
 simpa using this
theorem aco {k:Nat} (hk:1000 <= k) {l:List I4} (hl:l.length <= 24) {ps:List Int} (hp:ps.length=l.length) :
  EP k k ps (AI l) l (l.length:Int) 0=some ((!LW (PL l ps) l.length 0,()),()):=by
 have:=apb (L:=fun j i=>EP k j ps (AI l) l (l.length:Int) i) (n:=l.length) (PL l ps) (some ((false,()),())) (some ((true,()),())) (fun j i hi=>by
  show EP k (j+1) ps (AI l) l (l.length:Int) (i:Int)=_
  rw [Vr,QC,Sc (by omega),Qo hi,Qp,Mi (by omega)]
  unfold PL
  cases h11:(l.getD i i0).1==11 with
  | false =>
   have:((l.getD i i0).1 != 11)=true:=by simp only [bne,h11];rfl
   rw [this];rfl
  | true =>
   have:((l.getD i i0).1 != 11)=false:=by simp only [bne,h11];rfl
   rw [this,cond_false,Qo (by rw [Yk];exact hi),Qp]
   have hz:fC (Am 24 .bool) ((AI l).getD i z24) z24 = !(ny 0 l).any (fun p=>o9 p i):=by
    have h1:=ama hl hi
    have h2:=BX 24 ((AI l).getD i z24) z24
    cases hb:fC (Am 24 .bool) ((AI l).getD i z24) z24 with
    | true=>rw [h1.1 (h2.1 hb)];rfl
    | false =>
     cases ha:(ny 0 l).any (fun p=>o9 p i) with
     | true=>rfl
     | false=>rw [h2.2 (h1.2 ha)] at hb;cases hb
   have hz':fC (Am 24 .bool) ((AI l).getD i z24) (false,false,false,false,false,false,false,false,false,false,false,false,false,false,false,false,false,false,false,false,false,false,false,false) = !(ny 0 l).any (fun p=>o9 p i):=hz
   rw [hz']
   cases ha:(ny 0 l).any (fun p=>o9 p i) with
   | true=>rfl
   | false =>
    simp only [Bool.not_false,Bool.not_true,cond_false,Bool.false_or,Bool.true_and]
    rw [Rx (by omega) (by omega) (by omega)]
    have:sub ps 0 (i:Int)=ps.take i:=by simp [sub]
    rw [this,ajM hk (by simp;omega),Option.bind_some])
  (fun j=>by
   show EP k (j+1) ps (AI l) l (l.length:Int) (l.length:Int)=_
   rw [Vr,QC,Sd (by omega)]) l.length 0 k (by omega) (by omega)
 refine Eq.trans this ?_
 cases LW (PL l ps) l.length 0 <;> rfl
theorem Yl {k:Nat} (hk:1000 <= k) {l:List I4} (hl:l.length <= 900):agt k l=some ((yw l,()),()):=by
 unfold agt yw
 by_cases h1:1 <= l.length
 ·rw [Sd (by omega),decide_eq_true h1]
  by_cases h2:l.length <= 24
  ·rw [Sd (by omega),decide_eq_true h2,apc hk hl,Option.bind_some]
   cases h3:l.any (fun i=>!l5 i) with
   | true=>rfl
   | false =>
    simp only [cond_false]
    rw [ajL hk hl,Option.bind_some,Uu (by omega) (by omega)]
    cases h4:qm (fun i=>i.1==0) l==(l.length:Int) - 1 with
    | false=>simp only [bne,h4];rfl
    | true =>
     simp only [bne,h4,Bool.not_true,cond_false]
     rw [al9 hk hl,Option.bind_some,Uu (by omega) (by omega)]
     cases h5:nest ((l.length:Int) - 1) (ny 0 l) (ny 0 l) (List.replicate l.length 0) with
     | false=>rfl
     | true =>
      simp only [Bool.not_true,cond_false]
      rw [afq hk h2]
      cases h6:prs l with
      | none=>rfl
      | some ps =>
       simp only [afo,Option.bind_some,Bool.not_true,cond_false]
       rw [afn hk h2,Option.bind_some]
       have:=aco hk h2 (QW h6)
       unfold AI at this
       rw [this];rfl
  ·rw [Sc (by omega),decide_eq_false h2];rfl
 ·rw [Sc (by omega),decide_eq_false h1];rfl
abbrev a0:fq:=(0,0,0,false)
def wd (x:I4):Nat:=(bif x.1==8 then x.2.2.1 else bif x.1==7 then x.2.2.2 else 0).toNat
def isA (x:I4):Bool:=x.1==8||x.1==7
theorem afr (v a b:Int):AY v a b=true↔a <= v /\ v <= b:=by simp [AY]
theorem acp {x:I4} (h:l5 x=true) (e:x.1=8):x.2.1=0 /\ (1 <= x.2.2.1 /\ x.2.2.1 <= 24) /\ 1 <= x.2.2.2 /\ x.2.2.2 <= 20:=by
 simpa [l5,e,afr] using h
theorem arS {x:I4} (h:l5 x=true) (e:x.1=7):(0 <= x.2.1 /\ x.2.1<8) /\ x.2.2.1=0 /\ 1 <= x.2.2.2 /\ x.2.2.2 <= 24:=by
 simpa [l5,e,afr,DT] using h
theorem wm {x:I4} (h:isA x=false):wd x=0:=by
 simp only [isA,Bool.or_eq_false_iff] at h
 simp [wd,h.1,h.2]
theorem za {x:I4} (h:l5 x=true) (ha:isA x=true):1 <= wd x /\ wd x <= 24 /\ (x.1=8 -> x.2.2.1=(wd x:Int)) /\ (x.1=7 -> x.2.2.2=(wd x:Int)):=by
 simp only [isA,Bool.or_eq_true,beq_iff_eq] at ha
 rcases ha with e | e
 ·have:=acp h e
  have w:wd x=x.2.2.1.toNat:=by simp [wd,e]
  rw [w];refine ⟨by omega,by omega,fun _=>by omega,fun e2=>by omega⟩
 ·have:=arS h e
  have w:wd x=x.2.2.2.toNat:=by simp [wd,e]
  rw [w];refine ⟨by omega,by omega,fun e2=>by omega,fun _=>by omega⟩
def ni (i:Nat) (x:I4):fq:=(((i+1:Nat):Int),((i+wd x:Nat):Int),(i:Int),x.1==8)
theorem KA {x:I4} (h:l5 x=true) {i:Nat} (hi:i <= 9000):pc i x=if isA x=true then [ni i x] else []:=by
 unfold pc
 cases h8:x.1==8 with
 | true =>
  have e:=eq_of_beq h8
  have ha:isA x=true:=by simp [isA,e]
  have:=za h ha
  rw [if_pos ha,cond_true,this.2.2.1 e,Uu (by omega) (by omega),ni,h8]
  congr 3
 | false =>
  cases h7:x.1==7 with
  | true =>
   have e:=eq_of_beq h7
   have ha:isA x=true:=by simp [isA,e]
   have:=za h ha
   rw [if_pos ha,cond_true,cond_false,this.2.2.2 e,Uu (by omega) (by omega),ni,h8]
   congr 3
  | false =>
   rw [if_neg (by simp [isA,h8,h7])];rfl
theorem l8:∀ (l:List I4) (i:Nat) (p:fq),(∀ x∈l,l5 x=true) -> i+l.length <= 9000 -> (p∈ny i l↔∃ n,n<l.length /\ isA (l.getD n i0)=true /\ p=ni (i+n) (l.getD n i0))
 | [],i,p,_,_=>by simp [ny]
 | x::r,i,p,hm,hl=>by
  simp only [List.length_cons] at hl
  rw [ny,List.mem_append,KA (hm x List.mem_cons_self) (by omega),l8 r (i+1) p (fun y hy=>hm y (List.mem_cons_of_mem _ hy)) (by omega)]
  constructor
  ·rintro (h | ⟨n,h1,h2,h3⟩)
   ·split at h
    ·rename_i ha
     have:=List.mem_singleton.1 h
     exact ⟨0,by simp,by simpa using ha,by simpa using this⟩
    ·cases h
   ·exact ⟨n+1,by simp only [List.length_cons];omega,by simpa using h2,by rw [List.getD_cons_succ,h3];congr 1;omega⟩
  ·rintro ⟨n,h1,h2,h3⟩
   cases n with
   | zero =>
    rw [List.getD_cons_zero] at h2 h3
    left;rw [if_pos h2];exact List.mem_singleton.2 h3
   | succ n =>
    rw [List.getD_cons_succ] at h2 h3
    right;exact ⟨n,by simp only [List.length_cons] at h1;omega,h2,by rw [h3];congr 1;omega⟩
def gq (j:Int) (ps:List fq):Nat:=ps.countP (fun p=>p.2.2.2&&o9 p j)
theorem VU:∀ (m i:Nat) (ar:List Int) (j:Nat),i+m <= ar.length -> (bumps ar i m).getD j 0=if i <= j /\ j<i+m then IntKind.i64.wrap (ar.getD j 0+1) else ar.getD j 0
 | 0,i,ar,j,_=>by rw [bumps,if_neg (by omega)]
 | m+1,i,ar,j,h=>by
  rw [bumps,VU m (i+1) _ j (by simp only [List.length_set];omega),mh]
  by_cases e:i=j
  ·subst e
   rw [if_neg (by omega),if_pos ⟨rfl,by omega⟩,if_pos (by omega)]
  ·rw [if_neg (fun h:i=j /\ j<ar.length=>e h.1)]
   by_cases e2:i+1 <= j /\ j<i+1+m
   ·rw [if_pos e2,if_pos (by omega)]
   ·rw [if_neg e2,if_neg (by omega)]
theorem TL {len:Nat} {all:List fq} (hlen:len <= 900):∀ (ps:List fq) (ar:List Int),ar.length=len -> (∀ p∈ps,p.1=p.2.2.1+1 /\ 0 <= p.2.2.1 /\ p.1 <= p.2.1) -> (∀ j,j<len -> 0 <= ar.getD j 0 /\ ar.getD j 0+ps.length <= 900) ->
  (nest ((len:Int) - 1) all ps ar=true↔(∀ p∈ps,p.2.1<(len:Int) - 1 /\ all.any (JH p)=false) /\ ∀ j,j<len -> ar.getD j 0+(gq j ps:Int) <= 2)
 | [],ar,ha,_,_=>by
  rw [nest,Bool.not_eq_true',List.any_eq_false]
  constructor
  ·intro h
   refine ⟨fun p hp=>(by cases hp),fun j hj=>?_⟩
   have:=h _ (jm (z:=0) (l:=ar) (i:=j) (by omega))
   simp only [gq,List.countP_nil]
   have:=of_decide_eq_false (Bool.not_eq_true _ ▸ this)
   omega
  ·rintro ⟨_,h⟩ x hx
   obtain ⟨j,hj,rfl⟩:=u7 0 hx
   have:=h j (by omega)
   simp only [gq,List.countP_nil] at this
   rw [Bool.not_eq_true]
   exact decide_eq_false (by omega)
 | p::r,ar,ha,hp,hb=>by
  rw [nest]
  have hp1:=hp p List.mem_cons_self
  by_cases h1:p.2.1≥(len:Int) - 1
  ·rw [Sc h1]
   exact ⟨fun h=>(by cases h),fun h=>absurd (h.1 p List.mem_cons_self).1 (by omega)⟩
  ·rw [Sd h1]
   cases h2:all.any (JH p) with
   | true=>exact ⟨fun h=>(by cases h),fun h=>(by rw [(h.1 p List.mem_cons_self).2] at h2;cases h2)⟩
   | false =>
    rw [cond_false]
    have hget:∀ j,j<len -> (bif p.2.2.2 then bumps ar p.1.toNat (p.2.1+1 - p.1).toNat else ar).getD j 0=ar.getD j 0+(if (p.2.2.2&&o9 p j)=true then 1 else 0):=by
     intro j hj
     cases h3:p.2.2.2 with
     | false=>simp
     | true =>
      rw [cond_true,VU _ _ _ _ (by omega)]
      have:=hb j hj
      simp only [List.length_cons] at this
      by_cases h4:o9 p j=true
      ·have h5:p.1 <= (j:Int) /\ (j:Int) <= p.2.1:=by simpa [o9] using h4
       rw [if_pos (by omega),if_pos (by simp [h4]),Uu (by omega) (by omega)]
      ·have h5:¬ (p.1 <= (j:Int) /\ (j:Int) <= p.2.1):=by simpa [o9] using h4
       rw [if_neg (by omega),if_neg (by simp [h4])];omega
    have wD:(bif p.2.2.2 then bumps ar p.1.toNat (p.2.1+1 - p.1).toNat else ar).length=len:=by
     cases p.2.2.2
     ·exact ha
     ·rw [cond_true,NV];exact ha
    rw [TL hlen r _ wD (fun q hq=>hp q (List.mem_cons_of_mem _ hq)) (fun j hj=>by
     rw [hget j hj]
     have:=hb j hj
     simp only [List.length_cons] at this
     split <;> omega)]
    constructor
    ·rintro ⟨h3,h4⟩
     refine ⟨fun q hq=>?_,fun j hj=>?_⟩
     ·rcases List.mem_cons.1 hq with rfl | hq
      ·exact ⟨by omega,h2⟩
      ·exact h3 q hq
     ·have:=h4 j hj
      rw [hget j hj] at this
      rw [gq,List.countP_cons]
      rw [gq] at this
      cases h5:(p.2.2.2&&o9 p j) <;> simp only [h5,if_true,Bool.false_eq_true,if_false] at this ⊢ <;> omega
    ·rintro ⟨h3,h4⟩
     refine ⟨fun q hq=>h3 q (List.mem_cons_of_mem _ hq),fun j hj=>?_⟩
     have:=h4 j hj
     rw [hget j hj]
     rw [gq,List.countP_cons] at this
     rw [gq]
     cases h5:(p.2.2.2&&o9 p j) <;> simp only [h5,if_true,Bool.false_eq_true,if_false] at this ⊢ <;> omega
structure CO (l:List I4) (ps:List Int):Prop where
 len1:1 <= l.length
 len2:l.length <= 24
 may:∀ x∈l,l5 x=true
 end_ : ∀ i, i < l.length -> ((l.getD i i0).1 = 0 ↔ i + 1 = l.length)
 last:∀ p∈ny 0 l,p.2.1<(l.length:Int) - 1
 bad:∀ p∈ny 0 l,∀ q∈ny 0 l,JH p q=false
 bodies:∀ j,j<l.length -> gq (j:Int) (ny 0 l) <= 2
 pairs:prs l=some ps
 marks:∀ i,i<l.length -> (l.getD i i0).1=11 -> (ny 0 l).any (fun p=>o9 p i)=false /\ ∀ k,k<i -> ps.getD k 0 <= (i:Int)
theorem VW {l:List I4} (hm:∀ x∈l,l5 x=true) (hl:l.length <= 900) {p:fq} (hp:p∈ny 0 l):p.1=p.2.2.1+1 /\ 0 <= p.2.2.1 /\ p.1 <= p.2.1 /\ p.2.2.1<(l.length:Int):=by
 obtain ⟨n,h1,h2,rfl⟩:=(l8 l 0 p hm (by omega)).1 hp
 have:=za (hm _ (jm h1)) h2
 simp only [ni]
 omega
theorem afs {l:List I4}:l.any (fun i=>!l5 i)=false↔∀ x∈l,l5 x=true:=by
 rw [List.any_eq_false]
 exact ⟨fun h x hx=>by simpa using h x hx,fun h x hx=>by simp [h x hx]⟩
theorem aft {l:List I4} (h1:1 <= l.length):(qm (fun i=>i.1==0) l==(l.length:Int) - 1)=true↔∀ i,i<l.length -> ((l.getD i i0).1=0↔i+1=l.length):=by
 rw [beq_iff_eq]
 unfold qm
 cases h:l.findIdx? (fun i=>i.1==0) with
 | none =>
  rw [List.findIdx?_eq_none_iff] at h
  constructor
  ·intro e;simp only at e;omega
  ·intro e
   have e1:=(e (l.length - 1) (by omega)).2 (by omega)
   have:=h _ (jm (z:=i0) (l:=l) (i:=l.length - 1) (by omega))
   rw [e1] at this
   exact absurd this (by decide)
 | some n =>
  rw [List.findIdx?_eq_some_iff_getElem] at h
  obtain ⟨hn,hn1,hn2⟩:=h
  simp only
  constructor
  ·intro e i hi
   have:n+1=l.length:=by omega
   constructor
   ·intro e2
    by_cases hlt:i<n
    ·have:=hn2 i hlt
     rw [getD_in hi] at e2
     simp [e2] at this
    ·omega
   ·intro e2
    have:i=n:=by omega
    subst this
    rw [getD_in hi];simpa using hn1
  ·intro e
   have:=(e n hn).1 (by rw [getD_in hn];simpa using hn1)
   omega
theorem TM {l:List I4} {ps:List Int} (hp:ps.length=l.length):LW (PL l ps) l.length 0=false↔∀ i,i<l.length -> (l.getD i i0).1=11 -> (ny 0 l).any (fun p=>o9 p i)=false /\ ∀ k,k<i -> ps.getD k 0 <= (i:Int):=by
 rw [IQ]
 constructor
 ·intro h i hi e
  have:=h i (by omega) (by omega)
  unfold PL at this
  simp only [e,beq_self_eq_true,Bool.true_and,Bool.or_eq_false_iff] at this
  refine ⟨this.1,fun k hk=>?_⟩
  have h2:=this.2
  rw [List.any_eq_false] at h2
  have h3:ps.getD k 0∈ps.take i:=by
   rw [getD_in (by omega),List.mem_take_iff_getElem]
   exact ⟨k,by omega,rfl⟩
  have:=h2 _ h3
  simp only [decide_eq_true_eq] at this
  omega
 ·intro h i _ hi
  unfold PL
  cases h11:(l.getD i i0).1==11 with
  | false=>rfl
  | true =>
   obtain ⟨h1,h2⟩:=h i (by omega) (eq_of_beq h11)
   rw [h1,Bool.true_and,Bool.false_or,List.any_eq_false]
   intro x hx
   rw [List.mem_take_iff_getElem] at hx
   obtain ⟨k,hk,rfl⟩:=hx
   have:=h2 k (by omega)
   rw [getD_in (by omega)] at this
   simp only [decide_eq_true_eq]
   omega
theorem LX {l:List I4}:yw l=true↔∃ ps,CO l ps:=by
 unfold yw
 simp only [Bool.and_eq_true,decide_eq_true_eq,Bool.not_eq_true']
 constructor
 ·rintro ⟨h1,h2,h3,h4,h5,h6⟩
  have h3:=afs.1 h3
  have hpl:=IU l 0
  cases hps:prs l with
  | none=>rw [hps] at h6;cases h6
  | some ps =>
   rw [hps] at h6
   simp only [Bool.not_eq_true'] at h6
   have h5:=(TL (all:=ny 0 l) (by omega) (ny 0 l) (List.replicate l.length 0) (by simp) (fun p hp=>by have:=VW h3 (by omega) hp;omega) (fun j hj=>by
    rw [List.getD_eq_getElem?_getD,List.getElem?_replicate,if_pos hj];simp;omega)).1 h5
   exact ⟨ps,⟨h1,h2,h3,(aft h1).1 h4,fun p hp=>(h5.1 p hp).1,fun p hp q hq=>by
    have:=(h5.1 p hp).2
    rw [List.any_eq_false] at this
    simpa using this q hq,fun j hj=>by
    have:=h5.2 j hj
    rw [List.getD_eq_getElem?_getD,List.getElem?_replicate,if_pos hj] at this
    simp at this;omega,hps,(TM (QW hps)).1 h6⟩⟩
 ·rintro ⟨ps,g⟩
  have hpl:=IU l 0
  have:=g.len2
  refine ⟨g.len1,g.len2,afs.2 g.may,(aft g.len1).2 g.end_,?_,?_⟩
  ·refine (TL (all:=ny 0 l) (by omega) (ny 0 l) (List.replicate l.length 0) (by simp) (fun p hp=>by have:=VW g.may (by omega) hp;omega) (fun j hj=>by
    rw [List.getD_eq_getElem?_getD,List.getElem?_replicate,if_pos hj];simp;omega)).2 ⟨fun p hp=>⟨g.last p hp,?_⟩,fun j hj=>?_⟩
   ·rw [List.any_eq_false];intro q hq;simp [g.bad p hp q hq]
   ·rw [List.getD_eq_getElem?_getD,List.getElem?_replicate,if_pos hj]
    have:=g.bodies j hj
    simp;omega
  ·rw [g.pairs]
   simp only [Bool.not_eq_true']
   exact (TM (QW g.pairs)).2 g.marks
theorem ajR {p:fq} (h:p.1=p.2.2.1+1 /\ p.1 <= p.2.1):JH p p=false:=by
 unfold JH inA apA o9
 have e1:decide (p.1 <= p.2.2.1)=false:=decide_eq_false (by omega)
 have e2:decide (p.1 <= p.1)=true:=decide_eq_true (by omega)
 have e3:decide (p.1 <= p.2.1)=true:=decide_eq_true (by omega)
 have e4:decide (p.2.1 <= p.2.1)=true:=decide_eq_true (by omega)
 rw [e1,e2,e3,e4];simp
inductive Tr where
 | nil
 | one (x:I4) (r:Tr)
 | lk (a:Int) (b r:Tr)
 | ar (x:I4) (b r:Tr)
namespace Tr
def flat:Tr -> List I4
 | nil=>[]
 | one x r=>x::flat r
 | lk a b r=>(9,a,0,0)::(flat b++((10,a,0,0)::flat r))
 | ar x b r=>x::(flat b++flat r)
def len:Tr -> Nat
 | nil=>0
 | one _ r=>len r+1
 | lk _ b r=>len b+len r+2
 | ar _ b r=>len b+len r+1
theorem jv:∀ t:Tr,t.flat.length=t.len
 | nil=>rfl
 | one x r=>by simp only [flat,len,List.length_cons,jv r]
 | lk a b r=>by simp only [flat,len,List.length_cons,List.length_append,jv b,jv r];omega
 | ar x b r=>by simp only [flat,len,List.length_cons,List.length_append,jv b,jv r]
def plain (x:I4):Prop:=x.1≠0 /\ x.1≠7 /\ x.1≠8 /\ x.1≠9 /\ x.1≠10
def Ok:Nat -> List Int -> Bool -> Tr -> Prop
 | _,_,_,nil=>True
 | d,hs,ia,one x r=>l5 x=true /\ plain x /\ (x.1=11 -> ia=false /\ hs=[]) /\ Ok d hs ia r
 | d,hs,ia,lk a b r=>(0 <= a /\ a <= 3) /\ (a ∉ hs /\ hs.length<2) /\ Ok d (hs++[a]) ia b /\ Ok d hs ia r
 | d,hs,ia,ar x b r=>(l5 x=true /\ isA x=true /\ wd x=b.len) /\ (x.1=8 -> d<2) /\ Ok (bif x.1==8 then d+1 else d) hs true b /\ Ok d hs ia r
def app:Tr -> Tr -> Tr
 | nil,u=>u
 | one x r,u=>one x (app r u)
 | lk a b r,u=>lk a b (app r u)
 | ar x b r,u=>ar x b (app r u)
theorem AZ:∀ (t u:Tr),(app t u).flat=t.flat++u.flat
 | nil,u=>rfl
 | one x r,u=>by simp only [app,flat,AZ r u,List.cons_append]
 | lk a b r,u=>by simp only [app,flat,AZ r u,List.cons_append,List.append_assoc]
 | ar x b r,u=>by simp only [app,flat,AZ r u,List.cons_append,List.append_assoc]
theorem QX (t u:Tr):(app t u).len=t.len+u.len:=by rw [<- jv,AZ,List.length_append,jv,jv]
theorem O4 {d:Nat} {hs:List Int} {ia:Bool}:∀ {t u:Tr},Ok d hs ia t -> Ok d hs ia u -> Ok d hs ia (app t u)
 | nil,u,_,h=>h
 | one x r,u,⟨h1,h2,h3,h4⟩,h=>⟨h1,h2,h3,O4 h4 h⟩
 | lk a b r,u,⟨h1,h2,h3,h4⟩,h=>⟨h1,h2,h3,O4 h4 h⟩
 | ar x b r,u,⟨h1,h2,h3,h4⟩,h=>⟨h1,h2,h3,O4 h4 h⟩
end Tr
open Tr
theorem QY {x:I4} (h:plain x):isA x=false:=by
 obtain ⟨_,h7,h8,_⟩:=h
 simp [isA,h7,h8]
theorem ajS {a:Int} (h:0 <= a /\ a <= 3):l5 (9,a,0,0)=true:=by simp [l5,AY,h]
theorem ajT {a:Int} (h:0 <= a /\ a <= 3):l5 (10,a,0,0)=true:=by simp [l5,AY,h]
theorem O5:∀ {t:Tr} {d:Nat} {hs:List Int} {ia:Bool},Ok d hs ia t -> ∀ x∈t.flat,l5 x=true
 | .nil,_,_,_,_,x,hx=>by cases hx
 | .one y r,_,_,_,⟨h1,_,_,h4⟩,x,hx=>by
  rcases List.mem_cons.1 hx with rfl | hx
  ·exact h1
  ·exact O5 h4 x hx
 | .lk a b r,_,_,_,⟨h1,_,h3,h4⟩,x,hx=>by
  rcases List.mem_cons.1 hx with rfl | hx
  ·exact ajS h1
  ·rcases List.mem_append.1 hx with hx | hx
   ·exact O5 h3 x hx
   ·rcases List.mem_cons.1 hx with rfl | hx
    ·exact ajT h1
    ·exact O5 h4 x hx
 | .ar y b r,_,_,_,⟨h1,_,h3,h4⟩,x,hx=>by
  rcases List.mem_cons.1 hx with rfl | hx
  ·exact h1.1
  ·rcases List.mem_append.1 hx with hx | hx
   ·exact O5 h3 x hx
   ·exact O5 h4 x hx
theorem VX:∀ {t:Tr} {d:Nat} {hs:List Int} {ia:Bool},Ok d hs ia t -> ∀ x∈t.flat,x.1≠0
 | .nil,_,_,_,_,x,hx=>by cases hx
 | .one y r,_,_,_,⟨_,h2,_,h4⟩,x,hx=>by
  rcases List.mem_cons.1 hx with rfl | hx
  ·exact h2.1
  ·exact VX h4 x hx
 | .lk a b r,_,_,_,⟨_,_,h3,h4⟩,x,hx=>by
  rcases List.mem_cons.1 hx with rfl | hx
  ·exact (by decide:(9:Int)≠0)
  ·rcases List.mem_append.1 hx with hx | hx
   ·exact VX h3 x hx
   ·rcases List.mem_cons.1 hx with rfl | hx
    ·exact (by decide:(10:Int)≠0)
    ·exact VX h4 x hx
 | .ar y b r,_,_,_,⟨h1,_,h3,h4⟩,x,hx=>by
  rcases List.mem_cons.1 hx with rfl | hx
  ·intro e;have:=h1.2.1;simp [isA,e] at this
  ·rcases List.mem_append.1 hx with hx | hx
   ·exact VX h3 x hx
   ·exact VX h4 x hx
theorem EZ:∀ (u w:List I4) (o:Nat),ny o (u++w)=ny o u++ny (o+u.length) w
 | [],w,o=>by simp [ny]
 | x::u,w,o=>by
  simp only [List.cons_append,ny,List.append_assoc,List.length_cons]
  rw [EZ u w (o+1),show o+1+u.length=o+(u.length+1) by omega]
theorem IX {x:I4} (h1:l5 x=true) (h2:isA x=false) {o:Nat} (r:List I4) (ho:o <= 9000):ny o (x::r)=ny (o+1) r:=by
 rw [ny,KA h1 ho,if_neg (by simp [h2])];rfl
theorem ajU {x:I4} (h1:l5 x=true) (h2:isA x=true) {o:Nat} (r:List I4) (ho:o <= 9000):ny o (x::r)=ni o x::ny (o+1) r:=by
 rw [ny,KA h1 ho,if_pos h2];rfl
theorem QZ {x:I4} {r:Tr} (h1:l5 x=true) (h2:plain x) {o:Nat} (ho:o <= 9000):ny o (Tr.one x r).flat=ny (o+1) r.flat:=IX h1 (QY h2) _ ho
theorem Ym {a:Int} {b r:Tr} (h1:0 <= a /\ a <= 3) {o:Nat} (ho:o+b.len+1 <= 9000):ny o (Tr.lk a b r).flat=ny (o+1) b.flat++ny (o+b.len+2) r.flat:=by
 rw [Tr.flat,IX (ajS h1) rfl _ (by omega),EZ,jv,IX (ajT h1) rfl _ (by omega),show o+1+b.len+1=o+b.len+2 by omega]
theorem Yn {x:I4} {b r:Tr} (h1:l5 x=true) (h2:isA x=true) {o:Nat} (ho:o <= 9000):ny o (Tr.ar x b r).flat=ni o x::(ny (o+1) b.flat++ny (o+b.len+1) r.flat):=by
 rw [Tr.flat,ajU h1 h2 _ ho,EZ,jv,show o+1+b.len=o+b.len+1 by omega]
theorem qo:∀ {t:Tr} {d:Nat} {hs:List Int} {ia:Bool} {o:Nat},Ok d hs ia t -> o+t.len <= 9000 -> ∀ p∈ny o t.flat,(o:Int)<p.1 /\ p.1=p.2.2.1+1 /\ p.1 <= p.2.1 /\ p.2.1<((o+t.len:Nat):Int)
 | .nil,_,_,_,_,_,_,p,hp=>by simp [Tr.flat,ny] at hp
 | .one x r,_,_,_,o,⟨h1,h2,_,h4⟩,ho,p,hp=>by
  simp only [Tr.len] at ho ⊢
  rw [QZ h1 h2 (by omega)] at hp
  have:=qo h4 (by omega) p hp
  omega
 | .lk a b r,_,_,_,o,⟨h1,_,h3,h4⟩,ho,p,hp=>by
  simp only [Tr.len] at ho ⊢
  rw [Ym h1 (by omega)] at hp
  rcases List.mem_append.1 hp with hp | hp
  ·have:=qo h3 (by omega) p hp;omega
  ·have:=qo h4 (by omega) p hp;omega
 | .ar x b r,_,_,_,o,⟨⟨h1,h2,h3⟩,_,h5,h6⟩,ho,p,hp=>by
  simp only [Tr.len] at ho ⊢
  rw [Yn h1 h2 (by omega)] at hp
  rcases List.mem_cons.1 hp with rfl | hp
  ·have:=za h1 h2
   simp only [ni];omega
  ·rcases List.mem_append.1 hp with hp | hp
   ·have:=qo h5 (by omega) p hp;omega
   ·have:=qo h6 (by omega) p hp;omega
theorem IY {p q:fq} (hp:p.1=p.2.2.1+1 /\ p.1 <= p.2.1) (hq:q.1=q.2.2.1+1 /\ q.1 <= q.2.1) (h:p.2.1<q.1 - 1 \/ q.2.1<p.1 - 1):JH p q=false:=by
 unfold JH inA apA o9
 rw [<- Bool.not_eq_true]
 simp only [Bool.or_eq_true,Bool.and_eq_true,Bool.not_eq_true',decide_eq_true_eq,Bool.or_eq_false_iff,Bool.and_eq_false_iff,decide_eq_false_iff_not]
 omega
theorem ajV {p q:fq} (hp:p.1=p.2.2.1+1 /\ p.1 <= p.2.1) (hq:q.1=q.2.2.1+1 /\ q.1 <= q.2.1) (h:q.1 <= p.1 - 1 /\ p.2.1 <= q.2.1):JH p q=false /\ JH q p=false:=by
 unfold JH inA apA o9
 rw [<- Bool.not_eq_true,<- Bool.not_eq_true]
 simp only [Bool.or_eq_true,Bool.and_eq_true,Bool.not_eq_true',decide_eq_true_eq,Bool.or_eq_false_iff,Bool.and_eq_false_iff,decide_eq_false_iff_not]
 omega
theorem O6:∀ {t:Tr} {d:Nat} {hs:List Int} {ia:Bool} {o:Nat},Ok d hs ia t -> o+t.len <= 9000 -> ∀ p∈ny o t.flat,∀ q∈ny o t.flat,JH p q=false
 | .nil,_,_,_,_,_,_,p,hp=>by simp [Tr.flat,ny] at hp
 | .one x r,_,_,_,o,⟨h1,h2,_,h4⟩,ho,p,hp=>by
  simp only [Tr.len] at ho
  rw [QZ h1 h2 (by omega)] at hp ⊢
  exact O6 h4 (by omega) p hp
 | .lk a b r,_,_,_,o,⟨h1,_,h3,h4⟩,ho,p,hp=>by
  simp only [Tr.len] at ho
  rw [Ym h1 (by omega)] at hp ⊢
  intro q hq
  rcases List.mem_append.1 hp with hp | hp <;> rcases List.mem_append.1 hq with hq | hq
  ·exact O6 h3 (by omega) p hp q hq
  ·have:=qo h3 (by omega) p hp;have:=qo h4 (by omega) q hq
   exact IY (by omega) (by omega) (by omega)
  ·have:=qo h4 (by omega) p hp;have:=qo h3 (by omega) q hq
   exact IY (by omega) (by omega) (by omega)
  ·exact O6 h4 (by omega) p hp q hq
 | .ar x b r,_,_,_,o,⟨⟨h1,h2,h3⟩,_,h5,h6⟩,ho,p,hp=>by
  simp only [Tr.len] at ho
  rw [Yn h1 h2 (by omega)] at hp ⊢
  intro q hq
  have hw:=za h1 h2
  have e1:(ni o x).1=((o+1:Nat):Int):=rfl
  have e2:(ni o x).2.1=((o+wd x:Nat):Int):=rfl
  have e3:(ni o x).2.2.1=(o:Int):=rfl
  rcases List.mem_cons.1 hp with rfl | hp <;> rcases List.mem_cons.1 hq with rfl | hq
  ·exact ajR (by omega)
  ·rcases List.mem_append.1 hq with hq | hq
   ·have:=qo h5 (by omega) q hq
    exact (ajV (by omega) (by omega) (by omega)).2
   ·have:=qo h6 (by omega) q hq
    exact IY (by omega) (by omega) (by omega)
  ·rcases List.mem_append.1 hp with hp | hp
   ·have:=qo h5 (by omega) p hp
    exact (ajV (by omega) (by omega) (by omega)).1
   ·have:=qo h6 (by omega) p hp
    exact IY (by omega) (by omega) (by omega)
  ·rcases List.mem_append.1 hp with hp | hp <;> rcases List.mem_append.1 hq with hq | hq
   ·exact O6 h5 (by omega) p hp q hq
   ·have:=qo h5 (by omega) p hp;have:=qo h6 (by omega) q hq
    exact IY (by omega) (by omega) (by omega)
   ·have:=qo h6 (by omega) p hp;have:=qo h5 (by omega) q hq
    exact IY (by omega) (by omega) (by omega)
   ·exact O6 h6 (by omega) p hp q hq
theorem o8 {p:fq} {j:Int}:o9 p j=true↔p.1 <= j /\ j <= p.2.1:=by simp [o9]
theorem O7 (j:Int) (a b:List fq):gq j (a++b)=gq j a+gq j b:=List.countP_append
theorem R6 {j:Int} {a:List fq} (h:∀ p∈a,¬ (p.1 <= j /\ j <= p.2.1)):gq j a=0:=by
 rw [gq,List.countP_eq_zero]
 intro p hp
 rw [Bool.not_eq_true,Bool.and_eq_false_iff]
 right
 rw [<- Bool.not_eq_true,o8]
 exact h p hp
theorem zy:∀ {t:Tr} {d:Nat} {hs:List Int} {ia:Bool} {o:Nat},Ok d hs ia t -> o+t.len <= 9000 -> d <= 2 -> ∀ j:Int,gq j (ny o t.flat)+d <= 2
 | .nil,_,_,_,_,_,_,hd,j=>by simp [Tr.flat,ny,gq];exact hd
 | .one x r,_,_,_,o,⟨h1,h2,_,h4⟩,ho,hd,j=>by
  simp only [Tr.len] at ho
  rw [QZ h1 h2 (by omega)]
  exact zy h4 (by omega) hd j
 | .lk a b r,_,_,_,o,⟨h1,_,h3,h4⟩,ho,hd,j=>by
  simp only [Tr.len] at ho
  rw [Ym h1 (by omega),O7]
  have i1:=zy (o:=o+1) h3 (by omega) hd j
  have i2:=zy (o:=o+b.len+2) h4 (by omega) hd j
  by_cases hj:j<((o+1+b.len:Nat):Int)
  ·rw [R6 (a:=ny (o+b.len+2) r.flat) (fun p hp=>by have:=qo h4 (by omega) p hp;omega)];omega
  ·rw [R6 (a:=ny (o+1) b.flat) (fun p hp=>by have:=qo h3 (by omega) p hp;omega)];omega
 | .ar x b r,d,_,_,o,⟨⟨h1,h2,h3⟩,h4,h5,h6⟩,ho,hd,j=>by
  simp only [Tr.len] at ho
  have hw:=za h1 h2
  rw [Yn h1 h2 (by omega),show ∀ a:fq,∀ l,a::l=[a]++l from fun _ _=>rfl,O7,O7]
  have i2:=zy (o:=o+b.len+1) h6 (by omega) hd j
  have e:gq j [ni o x]=if (x.1==8&&o9 (ni o x) j)=true then 1 else 0:=by
   rw [gq,List.countP_cons,List.countP_nil];simp [ni]
  by_cases hj:j<((o+1+b.len:Nat):Int)
  ·rw [R6 (a:=ny (o+b.len+1) r.flat) (fun p hp=>by have:=qo h6 (by omega) p hp;omega),e]
   cases h8:x.1==8 with
   | true =>
    have:=h4 (eq_of_beq h8)
    have i1:=zy (o:=o+1) h5 (by omega) (by rw [h8,cond_true];omega) j
    rw [h8,cond_true] at i1
    split <;> omega
   | false =>
    have i1:=zy (o:=o+1) h5 (by omega) (by rw [h8,cond_false];omega) j
    rw [h8,cond_false] at i1
    simp only [Bool.false_and,Bool.false_eq_true,if_false]
    omega
  ·rw [R6 (a:=ny (o+1) b.flat) (fun p hp=>by have:=qo h5 (by omega) p hp;omega),e,if_neg]
   ·omega
   ·rw [Bool.and_eq_true,o8]
    have e1:(ni o x).2.1=((o+wd x:Nat):Int):=rfl
    omega
open Tr
def At (l:List I4) (o:Nat) (w:List I4):Prop:=o+w.length <= l.length /\ ∀ j,j<w.length -> l.getD (o+j) i0=w.getD j i0
theorem mq {l:List I4} {o:Nat} {x:I4} {w:List I4} (h:At l o (x::w)):o<l.length /\ l.getD o i0=x /\ At l (o+1) w:=by
 obtain ⟨h1,h2⟩:=h
 simp only [List.length_cons] at h1 h2
 refine ⟨by omega,by simpa using h2 0 (by omega),by omega,fun j hj=>?_⟩
 have:=h2 (j+1) (by omega)
 rw [List.getD_cons_succ] at this
 rw [<- this];congr 1;omega
theorem A9 {l:List I4} {o:Nat} {u w:List I4} (h:At l o (u++w)):At l o u /\ At l (o+u.length) w:=by
 obtain ⟨h1,h2⟩:=h
 simp only [List.length_append] at h1 h2
 refine ⟨⟨by omega,fun j hj=>?_⟩,by omega,fun j hj=>?_⟩
 ·rw [h2 j (by omega),ow hj]
 ·rw [show o+u.length+j=o+(u.length+j) by omega,h2 _ (by omega),lg (by omega)]
  congr 1;omega
theorem amb (l:List I4):At l 0 l:=⟨by omega,fun j _=>by rw [Nat.zero_add]⟩
def GH:Tr -> Nat -> List Int -> List Int
 | .nil,_,out=>out
 | .one _ r,o,out=>GH r (o+1) out
 | .lk _ b r,o,out=>GH r (o+b.len+2) ((GH b (o+1) out).set o ((o+b.len+1:Nat):Int))
 | .ar _ b r,o,out=>GH r (o+b.len+1) (GH b (o+1) out)
theorem F6:∀ (t:Tr) (o:Nat) (out:List Int),(GH t o out).length=out.length
 | .nil,_,_=>rfl
 | .one _ r,o,out=>by rw [GH,F6 r]
 | .lk _ b r,o,out=>by rw [GH,F6 r,List.length_set,F6 b]
 | .ar _ b r,o,out=>by rw [GH,F6 r,F6 b]
theorem ze:∀ (t:Tr) (o:Nat) (out:List Int) (k:Nat),k<o \/ o+t.len <= k -> (GH t o out).getD k 0=out.getD k 0
 | .nil,_,_,_,_=>rfl
 | .one _ r,o,out,k,h=>by simp only [Tr.len] at h;rw [GH,ze r _ _ k (by omega)]
 | .lk _ b r,o,out,k,h=>by
  simp only [Tr.len] at h
  rw [GH,ze r _ _ k (by omega),mh,if_neg (by omega),ze b _ _ k (by omega)]
 | .ar _ b r,o,out,k,h=>by
  simp only [Tr.len] at h
  rw [GH,ze r _ _ k (by omega),ze b _ _ k (by omega)]
theorem KC:∀ (t:Tr) (o:Nat) (out:List Int) (k:Nat) (m:Nat),o+t.len <= m -> out.getD k 0<(m:Int) -> (GH t o out).getD k 0<(m:Int)
 | .nil,_,_,_,_,_,h=>h
 | .one _ r,o,out,k,m,h1,h2=>by simp only [Tr.len] at h1;rw [GH];exact KC r _ _ k m (by omega) h2
 | .lk _ b r,o,out,k,m,h1,h2=>by
  simp only [Tr.len] at h1
  rw [GH]
  refine KC r _ _ k m (by omega) ?_
  rw [mh]
  split
  ·omega
  ·exact KC b _ _ k m (by omega) h2
 | .ar _ b r,o,out,k,m,h1,h2=>by
  simp only [Tr.len] at h1
  rw [GH]
  exact KC r _ _ k m (by omega) (KC b _ _ k m (by omega) h2)
def arT (l:List I4) (o len:Nat):Prop:=∀ n,n<o -> o+len <= n+wd (l.getD n i0)+1 \/ n+wd (l.getD n i0)<o
theorem K3:∀ {t:Tr} {d:Nat} {hs:List Int} {ia:Bool} {l:List I4} {o:Nat},Ok d hs ia t -> At l o t.flat -> ∀ n,o <= n -> n<o+t.len -> n+wd (l.getD n i0)<o+t.len
 | .nil,_,_,_,_,_,_,_,n,h1,h2=>by simp only [Tr.len] at h2;omega
 | .one x r,_,_,_,l,o,⟨h1,h2,_,h4⟩,ha,n,hn1,hn2=>by
  simp only [Tr.len] at hn2 ⊢
  obtain ⟨a1,a2,a3⟩:=mq ha
  by_cases e:n=o
  ·subst e;rw [a2,wm (QY h2)];omega
  ·have:=K3 h4 a3 n (by omega) (by omega);omega
 | .lk a b r,_,_,_,l,o,⟨h1,_,h3,h4⟩,ha,n,hn1,hn2=>by
  simp only [Tr.len] at hn2 ⊢
  obtain ⟨a1,a2,a3⟩:=mq ha
  obtain ⟨a4,a5⟩:=A9 a3
  obtain ⟨a6,a7,a8⟩:=mq a5
  rw [jv] at a6 a7 a8
  by_cases e:n=o
  ·subst e;rw [a2,wm rfl];omega
  ·by_cases e2:n<o+1+b.len
   ·have:=K3 h3 a4 n (by omega) (by omega);omega
   ·by_cases e3:n=o+1+b.len
    ·subst e3;rw [a7,wm rfl];omega
    ·have:=K3 h4 a8 n (by omega) (by omega);omega
 | .ar x b r,_,_,_,l,o,⟨⟨h1,h2,h3⟩,_,h5,h6⟩,ha,n,hn1,hn2=>by
  simp only [Tr.len] at hn2 ⊢
  obtain ⟨a1,a2,a3⟩:=mq ha
  obtain ⟨a4,a5⟩:=A9 a3
  rw [jv] at a5
  by_cases e:n=o
  ·subst e;rw [a2,h3];omega
  ·by_cases e2:n<o+1+b.len
   ·have:=K3 h5 a4 n (by omega) (by omega);omega
   ·have:=K3 h6 a5 n (by omega) (by omega);omega
theorem IZ {l:List I4} (hm:∀ x∈l,l5 x=true) (hl:l.length <= 900) {i j:Nat}:H6 l i j=false↔∀ n,n<l.length -> isA (l.getD n i0)=true -> ((n<i /\ i <= n+wd (l.getD n i0))↔(n<j /\ j <= n+wd (l.getD n i0))):=by
 unfold H6
 rw [List.any_eq_false]
 have hh:∀ (n k:Nat),o9 (ni n (l.getD n i0)) (k:Int)=true↔n<k /\ k <= n+wd (l.getD n i0):=fun n k=>by
  rw [o8];simp only [ni];omega
 constructor
 ·intro h n hn ha
  have:=h (ni n (l.getD n i0)) ((l8 l 0 _ hm (by omega)).2 ⟨n,hn,ha,by rw [Nat.zero_add]⟩)
  simp only [bne_iff_ne,ne_eq,Decidable.not_not] at this
  rw [Bool.eq_iff_iff,hh,hh] at this
  exact this
 ·intro h p hp
  obtain ⟨n,hn,ha,rfl⟩:=(l8 l 0 p hm (by omega)).1 hp
  rw [Nat.zero_add]
  simp only [bne_iff_ne,ne_eq,Decidable.not_not]
  rw [Bool.eq_iff_iff,hh,hh]
  exact h n hn ha
theorem C8 {l:List I4} (hm:∀ x∈l,l5 x=true) (hl:l.length <= 900):∀ {t:Tr} {d:Nat} {hs:List Int} {ia:Bool} {o:Nat} (m:Nat) (out open_:List Int),Ok d hs ia t -> At l o t.flat -> arT l o t.len -> open_.map (fun k=>(rd l k i0).2.1)=hs -> (∀ k∈open_,0 <= k /\ k<(o:Int)) ->
  yc l (t.len+m) o (out,open_)=yc l m (o+t.len) (GH t o out,open_)
 | .nil,_,_,_,_,m,out,open_,_,_,_,_,_=>by simp only [Tr.len,Nat.zero_add,Nat.add_zero,GH]
 | .one x r,_,_,_,o,m,out,open_,⟨h1,h2,_,h4⟩,ha,ho,hs,hk=>by
  simp only [Tr.len] at ho ⊢
  obtain ⟨a1,a2,a3⟩:=mq ha
  rw [show r.len+1+m=(r.len+m)+1 by omega,yc]
  have hp:lq l o (out,open_)=some (out,open_):=by
   unfold lq;rw [a2,if_neg h2.2.2.2.1,if_neg h2.2.2.2.2]
  rw [hp,Option.bind_some,C8 hm hl m out open_ h4 a3 (fun n hn=>by
   by_cases e:n=o
   ·subst e;right;rw [a2,wm (QY h2)];omega
   ·have:=ho n (by omega);omega) hs (fun k hk'=>by have:=hk k hk';omega),GH]
  congr 1;omega
 | .lk a b r,_,hs,_,o,m,out,open_,⟨h1,h2,h3,h4⟩,ha,ho,hhs,hk=>by
  simp only [Tr.len] at ho ⊢
  obtain ⟨a1,a2,a3⟩:=mq ha
  obtain ⟨a4,a5⟩:=A9 a3
  obtain ⟨a6,a7,a8⟩:=mq a5
  rw [jv] at a6 a7 a8
  have hlen:open_.length=hs.length:=by rw [<- hhs,List.length_map]
  have hsame:PG l open_ o=false:=by
   unfold PG
   rw [List.any_eq_false]
   intro k hk'
   rw [Qp,a2]
   have:(rd l k i0).2.1∈hs:=by rw [<- hhs];exact List.mem_map.2 ⟨k,hk',rfl⟩
   intro e
   have e:=eq_of_beq e
   simp only at e
   rw [e] at this
   exact h2.1 this
  have hp:lq l o (out,open_)=some (out,open_++[(o:Int)]):=by
   unfold lq
   rw [a2,if_pos rfl,if_neg]
   rintro (h | h)
   ·simp only at h;omega
   ·rw [show PG l open_ (o:Int)=true from h] at hsame;cases hsame
  rw [show b.len+r.len+2+m=(b.len+(r.len+m+1))+1 by omega,yc,hp,Option.bind_some]
  rw [C8 hm hl (r.len+m+1) out (open_++[(o:Int)]) h3 a4 (fun n hn=>by
   by_cases e:n=o
   ·subst e;right;rw [a2,wm rfl];omega
   ·have:=ho n (by omega);omega) (by rw [List.map_append,hhs,List.map_cons,List.map_nil,Qp,a2]) (fun k hk'=>by
   rcases List.mem_append.1 hk' with hk' | hk'
   ·have:=hk k hk';omega
   ·have:=List.mem_singleton.1 hk';omega)]
  have hsep:H6 l o (o+1+b.len:Nat)=false:=by
   rw [IZ hm hl]
   intro n hn hA
   by_cases e:n<o
   ·have:=ho n e;omega
   ·by_cases e2:n=o
    ·subst e2;rw [a2] at hA;exact absurd hA (by simp [isA])
    ·by_cases e3:n<o+1+b.len
     ·have:=K3 h3 a4 n (by omega) e3;omega
     ·omega
  have hp2:lq l (o+1+b.len) (GH b (o+1) out,open_++[(o:Int)])=some ((GH b (o+1) out).set o ((o+b.len+1:Nat):Int),open_):=by
   unfold lq
   rw [a7,if_neg (by simp),if_pos rfl,show (GH b (o+1) out,open_++[(o:Int)]).2.getLast? = some (o:Int) by simp]
   simp only
   rw [if_neg]
   ·simp only [List.dropLast_concat,Mj]
    congr 3;congr 1;omega
   ·rintro (h | h)
    ·rw [Qp,a2] at h;exact h rfl
    ·rw [show H6 l (((o:Int).toNat:Nat):Int) ((o+1+b.len:Nat):Int)=false from hsep] at h;cases h
  rw [yc,hp2,Option.bind_some,show o+1+b.len+1=o+b.len+2 by omega]
  rw [show o+1+b.len+1=o+b.len+2 by omega] at a8
  rw [C8 hm hl m _ open_ h4 a8 (fun n hn=>by
   by_cases e:n<o
   ·have:=ho n e;omega
   ·by_cases e2:n=o
    ·subst e2;right;rw [a2,wm rfl];omega
    ·by_cases e3:n<o+1+b.len
     ·have:=K3 h3 a4 n (by omega) e3;omega
     ·have:n=o+1+b.len:=by omega
      subst this;right;rw [a7,wm rfl];omega) hhs (fun k hk'=>by have:=hk k hk';omega),GH]
  congr 1;omega
 | .ar x b r,_,hs,_,o,m,out,open_,⟨⟨h1,h2,h3⟩,_,h5,h6⟩,ha,ho,hhs,hk=>by
  simp only [Tr.len] at ho ⊢
  obtain ⟨a1,a2,a3⟩:=mq ha
  obtain ⟨a4,a5⟩:=A9 a3
  rw [jv] at a5
  have h9:x.1≠9:=fun e=>by simp [isA,e] at h2
  have h10:x.1≠10:=fun e=>by simp [isA,e] at h2
  have hp:lq l o (out,open_)=some (out,open_):=by
   unfold lq;rw [a2,if_neg h9,if_neg h10]
  rw [show b.len+r.len+1+m=(b.len+(r.len+m))+1 by omega,yc,hp,Option.bind_some]
  rw [C8 hm hl (r.len+m) out open_ h5 a4 (fun n hn=>by
   by_cases e:n=o
   ·subst e;left;rw [a2,h3];omega
   ·have:=ho n (by omega);omega) hhs (fun k hk'=>by have:=hk k hk';omega)]
  rw [show o+1+b.len=o+b.len+1 by omega] at a5 ⊢
  rw [C8 hm hl m _ open_ h6 a5 (fun n hn=>by
   by_cases e:n<o
   ·have:=ho n e;omega
   ·by_cases e2:n=o
    ·subst e2;right;rw [a2,h3];omega
    ·have:=K3 h5 a4 n (by omega) (by omega);omega) hhs (fun k hk'=>by have:=hk k hk';omega),GH]
  congr 1;omega
theorem F8:∀ {t:Tr} {d:Nat} {hs:List Int} {ia:Bool} {l:List I4} {o:Nat},Ok d hs ia t -> At l o t.flat -> ∀ i,o <= i -> i<o+t.len -> (l.getD i i0).1=11 -> ia=false /\ hs=[] /\ (∀ n,o <= n -> n<i -> n+wd (l.getD n i0)<i) /\ ∀ (out:List Int) (k:Nat),o <= k -> k<i -> out.getD k 0<(i:Int) -> (GH t o out).getD k 0<(i:Int)
 | .nil,_,_,_,_,_,_,_,i,h1,h2,_=>by simp only [Tr.len] at h2;omega
 | .one x r,_,_,_,l,o,⟨h1,h2,h3,h4⟩,ha,i,hi1,hi2,he=>by
  simp only [Tr.len] at hi2
  obtain ⟨a1,a2,a3⟩:=mq ha
  by_cases e:i=o
  ·subst e;rw [a2] at he
   exact ⟨(h3 he).1,(h3 he).2,fun n _ _=>by omega,fun _ k _ _=>by omega⟩
  ·obtain ⟨i1,i2,i3,i4⟩:=F8 h4 a3 i (by omega) (by omega) he
   refine ⟨i1,i2,fun n hn1 hn2=>?_,fun out k hk1 hk2 hk3=>?_⟩
   ·by_cases e2:n=o
    ·subst e2;rw [a2,wm (QY h2)];omega
    ·exact i3 n (by omega) hn2
   ·rw [GH]
    by_cases e2:k=o
    ·rw [ze r _ _ k (by omega)];exact hk3
    ·exact i4 out k (by omega) hk2 hk3
 | .lk a b r,_,hs,_,l,o,⟨h1,_,h3,h4⟩,ha,i,hi1,hi2,he=>by
  simp only [Tr.len] at hi2
  obtain ⟨a1,a2,a3⟩:=mq ha
  obtain ⟨a4,a5⟩:=A9 a3
  obtain ⟨a6,a7,a8⟩:=mq a5
  rw [jv] at a6 a7 a8
  by_cases e:i=o
  ·subst e;rw [a2] at he;exact absurd he (by decide:(9:Int)≠11)
  ·by_cases e2:i<o+1+b.len
   ·have:=(F8 h3 a4 i (by omega) e2 he).2.1
    simp at this
   ·by_cases e3:i=o+1+b.len
    ·subst e3;rw [a7] at he;exact absurd he (by decide:(10:Int)≠11)
    ·obtain ⟨i1,i2,i3,i4⟩:=F8 h4 a8 i (by omega) (by omega) he
     refine ⟨i1,i2,fun n hn1 hn2=>?_,fun out k hk1 hk2 hk3=>?_⟩
     ·by_cases f1:n=o
      ·subst f1;rw [a2,wm rfl];omega
      ·by_cases f2:n<o+1+b.len
       ·have:=K3 h3 a4 n (by omega) f2;omega
       ·by_cases f3:n=o+1+b.len
        ·subst f3;rw [a7,wm rfl];omega
        ·exact i3 n (by omega) hn2
     ·rw [GH,show o+b.len+2=o+1+b.len+1 by omega]
      have key:((GH b (o+1) out).set o ((o+b.len+1:Nat):Int)).getD k 0<(i:Int):=by
       rw [mh]
       split
       ·omega
       ·exact KC b _ _ k i (by omega) hk3
      by_cases f:o+1+b.len+1 <= k
      ·exact i4 _ k f hk2 key
      ·rw [ze r _ _ k (by omega)];exact key
 | .ar x b r,_,_,_,l,o,⟨⟨h1,h2,h3⟩,_,h5,h6⟩,ha,i,hi1,hi2,he=>by
  simp only [Tr.len] at hi2
  obtain ⟨a1,a2,a3⟩:=mq ha
  obtain ⟨a4,a5⟩:=A9 a3
  rw [jv] at a5
  by_cases e:i=o
  ·subst e;rw [a2] at he;simp [isA,he] at h2
  ·by_cases e2:i<o+1+b.len
   ·have:=(F8 h5 a4 i (by omega) e2 he).1
    cases this
   ·obtain ⟨i1,i2,i3,i4⟩:=F8 h6 a5 i (by omega) (by omega) he
    refine ⟨i1,i2,fun n hn1 hn2=>?_,fun out k hk1 hk2 hk3=>?_⟩
    ·by_cases f1:n=o
     ·subst f1;rw [a2,h3];omega
     ·by_cases f2:n<o+1+b.len
      ·have:=K3 h5 a4 n (by omega) f2;omega
      ·exact i3 n (by omega) hn2
    ·rw [GH,show o+b.len+1=o+1+b.len by omega]
     have key:(GH b (o+1) out).getD k 0<(i:Int):=KC b _ _ k i (by omega) hk3
     by_cases f:o+1+b.len <= k
     ·exact i4 _ k f hk2 key
     ·rw [ze r _ _ k (by omega)];exact key
def Tr.prog (t:Tr):List I4:=t.flat++[i0]
theorem xw (t:Tr):t.prog.length=t.len+1:=by unfold Tr.prog;rw [List.length_append,jv];rfl
theorem aa1 {t:Tr} (h:Ok 0 [] false t):∀ x∈t.prog,l5 x=true:=by
 intro x hx
 rcases List.mem_append.1 hx with hx | hx
 ·exact O5 h x hx
 ·rw [List.mem_singleton.1 hx];rfl
theorem J3 (t:Tr):At t.prog 0 t.flat:=(A9 (amb t.prog)).1
theorem E9 (t:Tr):t.prog.getD t.len i0=i0:=by
 unfold Tr.prog
 rw [lg (by rw [jv];omega),jv,Nat.sub_self];rfl
theorem aa2 {t:Tr} (hl:t.len <= 900):ny 0 t.prog=ny 0 t.flat:=by
 unfold Tr.prog
 rw [EZ,IX rfl rfl _ (by rw [jv];omega)]
 simp [ny]
theorem VY {t:Tr} (h:Ok 0 [] false t) (hl:t.len<24):CO t.prog (GH t 0 (List.replicate (t.len+1) 0)):=by
 have hm:=aa1 h
 have hpl:=xw t
 have hpc:=aa2 (t:=t) (by omega)
 have hin:=fun p hp=>qo (o:=0) h (by omega) p hp
 have arU:prs t.prog=some (GH t 0 (List.replicate (t.len+1) 0)):=by
  have:=C8 hm (by omega) (o:=0) 1 (List.replicate t.prog.length 0) [] h (J3 t) (fun n hn=>by omega) rfl (fun k hk=>by cases hk)
  unfold prs
  rw [hpl] at this ⊢
  rw [this,yc,Nat.zero_add]
  unfold lq
  rw [E9,if_neg (by decide),if_neg (by decide)]
  rfl
 refine ⟨by omega,by omega,hm,fun i hi=>?_,fun p hp=>?_,fun p hp q hq=>?_,fun j hj=>?_,arU,fun i hi e=>⟨?_,fun k hk=>?_⟩⟩
 ·by_cases e:i<t.len
  ·have:(t.prog.getD i i0).1≠0:=by
    unfold Tr.prog
    rw [ow (by rw [jv];exact e)]
    exact VX h _ (jm (by rw [jv];exact e))
   exact ⟨fun h=>absurd h this,fun h=>by omega⟩
  ·have:i=t.len:=by omega
   subst this
   rw [E9]
   exact ⟨fun _=>by omega,fun _=>rfl⟩
 ·rw [hpc] at hp
  have:=hin p hp;omega
 ·rw [hpc] at hp hq
  exact O6 h (by omega) p hp q hq
 ·rw [hpc]
  have:=zy (o:=0) h (by omega) (by omega) (j:Int);omega
 ·have hlt:i<t.len:=by
   by_cases e2:i<t.len
   ·exact e2
   ·have:i=t.len:=by omega
    subst this;rw [E9] at e;exact absurd e (by decide)
  obtain ⟨_,_,i3,_⟩:=F8 h (J3 t) i (by omega) (by omega) e
  rw [List.any_eq_false]
  intro p hp
  obtain ⟨n,hn,ha,rfl⟩:=(l8 t.prog 0 p hm (by omega)).1 hp
  rw [o8]
  simp only [ni]
  rintro ⟨h1,h2⟩
  have:=i3 n (by omega) (by omega)
  omega
 ·have hlt:i<t.len:=by
   by_cases e2:i<t.len
   ·exact e2
   ·have:i=t.len:=by omega
    subst this;rw [E9] at e;exact absurd e (by decide)
  obtain ⟨_,_,_,i4⟩:=F8 h (J3 t) i (by omega) (by omega) e
  have:=i4 (List.replicate (t.len+1) 0) k (by omega) hk (by
   rw [List.getD_eq_getElem?_getD,List.getElem?_replicate];split <;> simp <;> omega)
  omega
def xg (p:List Int) (n:Int):Prop:=(p.length <= 1000 /\ 0 <= n /\ n <= (p.length:Int)) /\ ∀ x∈p,0 <= x /\ x <= 255
theorem l6 (k:Nat) {p:List Int} {n m:Int} (h:xg p n) (hm:0<m):∃ v n',AX k p n m=some ((v,()),(p,n',()),()) /\ (0 <= v /\ v<m) /\ xg p n':=by
 obtain ⟨⟨h1,h2,h3⟩,h4⟩:=h
 unfold AX
 by_cases e:n≥(p.length:Int)
 ·rw [Sc e];exact ⟨0,n,rfl,by omega,⟨h1,h2,h3⟩,h4⟩
 ·rw [Sd e,Uu (n:=n+1) (by omega) (by omega),show n+1 - 1=n by omega,Uu (n:=n) (by omega) (by omega),Lj h2 (by omega),Sb (by omega)]
  obtain ⟨j,rfl⟩:∃ j:Nat,n=(j:Int):=⟨n.toNat,by omega⟩
  rw [Qp]
  have:=h4 _ (jm (z:=0) (l:=p) (i:=j) (by omega))
  rw [Uu (by omega) (by omega)]
  exact ⟨_,_,rfl,⟨Int.tmod_nonneg _ this.1,Int.tmod_lt_of_pos _ hm⟩,⟨h1,by omega,by omega⟩,h4⟩
theorem mem3 {a:Int} (h:0 <= a /\ a<3):DT a=true:=by simp [DT];omega
theorem Yo (k:Nat) {p:List Int} {n:Int} (h:xg p n):∃ x n',agN k p n=some ((x,()),(p,n',()),()) /\ (l5 x=true /\ 1 <= x.1 /\ x.1 <= 6 /\ x.2.1<3) /\ xg p n':=by
 unfold agN
 obtain ⟨a,n1,e1,ha,h1⟩:=l6 k (m:=3) h (by omega)
 rw [e1,Option.bind_some]
 obtain ⟨b,n2,e2,hb,h2⟩:=l6 k (m:=3) h1 (by omega)
 simp only
 rw [e2,Option.bind_some]
 obtain ⟨c,n3,e3,hc,h3⟩:=l6 k (m:=6) h2 (by omega)
 simp only
 rw [e3,Option.bind_some]
 simp only
 have ma:=mem3 ha
 have mb:=mem3 hb
 have hc6:c=0 \/ c=1 \/ c=2 \/ c=3 \/ c=4 \/ c=5:=by omega
 rcases hc6 with rfl | rfl | rfl | rfl | rfl | rfl
 ·obtain ⟨d,n4,e4,hd,h4⟩:=l6 k (m:=9) h3 (by omega)
  rw [show ((0:Int)==0)=true from rfl,cond_true,e4,Option.bind_some]
  simp only
  rw [Uu (by omega) (by omega)]
  exact ⟨_,_,rfl,⟨by simp [l5,ma,AY];omega,by simp,by simp,ha.2⟩,h4⟩
 ·exact ⟨_,_,rfl,⟨by simp [l5,ma,mb],by simp,by simp,ha.2⟩,h3⟩
 ·exact ⟨_,_,rfl,⟨by simp [l5,ma,mb],by simp,by simp,ha.2⟩,h3⟩
 ·exact ⟨_,_,rfl,⟨by simp [l5,ma,mb],by simp,by simp,ha.2⟩,h3⟩
 ·obtain ⟨d,n4,e4,hd,h4⟩:=l6 k (m:=7) h3 (by omega)
  rw [show ((4:Int)==0)=false from rfl,show ((4:Int)==1)=false from rfl,show ((4:Int)==2)=false from rfl,show ((4:Int)==3)=false from rfl,show ((4:Int)==4)=true from rfl,cond_false,cond_false,cond_false,cond_false,cond_true,e4,Option.bind_some]
  simp only
  rw [Uu (by omega) (by omega)]
  exact ⟨_,_,rfl,⟨by simp [l5,ma,AY];omega,by simp,by simp,ha.2⟩,h4⟩
 ·obtain ⟨d,n4,e4,hd,h4⟩:=l6 k (m:=64) h3 (by omega)
  rw [show ((5:Int)==0)=false from rfl,show ((5:Int)==1)=false from rfl,show ((5:Int)==2)=false from rfl,show ((5:Int)==3)=false from rfl,show ((5:Int)==4)=false from rfl,cond_false,cond_false,cond_false,cond_false,cond_false,e4,Option.bind_some]
  simp only
  rw [Uu (by omega) (by omega)]
  exact ⟨_,_,rfl,⟨by simp [l5,ma,AY];omega,by simp,by simp,ha.2⟩,h4⟩
theorem aa3 {x:I4} (h:1 <= x.1 /\ x.1 <= 6 /\ x.2.1<3):plain x /\ x.1≠11:=by unfold plain;omega
def Vb (n:Int):Tr -> Prop
 | .nil=>True
 | .one _ r=>Vb n r
 | .lk a b r=>(0 <= a /\ a<n) /\ Vb n b /\ Vb n r
 | .ar _ b r=>Vb n b /\ Vb n r
def DC:Tr -> Prop
 | .nil=>True
 | .one x r=>(1 <= x.1 /\ x.1 <= 6 /\ x.2.1<3) /\ DC r
 | .lk _ b r=>DC b /\ DC r
 | .ar _ _ _=>False
theorem EA {n:Int}:∀ {t u:Tr},Vb n t -> Vb n u -> Vb n (t.app u)
 | .nil,_,_,h=>h
 | .one _ r,_,h1,h=>EA (t:=r) h1 h
 | .lk _ _ _,_,h1,h=>⟨h1.1,h1.2.1,EA h1.2.2 h⟩
 | .ar _ b r,_,h1,h=>⟨h1.1,EA h1.2 h⟩
theorem F9:∀ {t u:Tr},DC t -> DC u -> DC (t.app u)
 | .nil,_,_,h=>h
 | .one _ r,_,h1,h=>⟨h1.1,F9 h1.2 h⟩
 | .lk _ b r,_,h1,h=>⟨h1.1,F9 h1.2 h⟩
 | .ar _ _ _,_,h1,_=>h1.elim
def Vd:Tr -> Prop
 | .nil=>True
 | .one x r=>(x.1 <= 6 -> x.2.1<3) /\ Vd r
 | .lk _ b r=>Vd b /\ Vd r
 | .ar _ b r=>Vd b /\ Vd r
theorem AA:∀ {t:Tr},DC t -> Vd t
 | .nil,_=>trivial
 | .one _ r,h=>⟨fun _=>h.1.2.2,AA h.2⟩
 | .lk _ b r,h=>⟨AA h.1,AA h.2⟩
 | .ar _ _ _,h=>h.elim
theorem R7:∀ {t u:Tr},Vd t -> Vd u -> Vd (t.app u)
 | .nil,_,_,h=>h
 | .one _ r,_,h1,h=>⟨h1.1,R7 h1.2 h⟩
 | .lk _ b r,_,h1,h=>⟨h1.1,R7 h1.2 h⟩
 | .ar _ b r,_,h1,h=>⟨h1.1,R7 h1.2 h⟩
structure Pc (jy:Int) (t:Tr):Prop where
 ok:∀ d ia,Ok d [] ia t
 simple:DC t
 free:Vb jy t
theorem apf (jy:Int):Pc jy .nil:=⟨fun _ _=>trivial,trivial,trivial⟩
theorem ajW {jy:Int} {t:Tr} {x:I4} (h:Pc jy t) (hx:l5 x=true /\ 1 <= x.1 /\ x.1 <= 6 /\ x.2.1<3):Pc jy (t.app (.one x .nil)) :=
 have hp:=aa3 hx.2
 ⟨fun d ia=>O4 (h.ok d ia) ⟨hx.1,hp.1,fun e=>absurd e hp.2,trivial⟩,F9 h.simple ⟨hx.2,trivial⟩,EA h.free trivial⟩
theorem aqC {jy:Int} {t:Tr} {x:I4} {a:Int} (h:Pc jy t) (hx:l5 x=true /\ 1 <= x.1 /\ x.1 <= 6 /\ x.2.1<3) (ha:0 <= a /\ a<jy) (hl:jy <= 4):Pc jy (t.app (.lk a (.one x .nil) .nil)) :=
 have hp:=aa3 hx.2
 ⟨fun d ia=>O4 (h.ok d ia) ⟨by omega,⟨by simp,by simp⟩,⟨hx.1,hp.1,fun e=>absurd e hp.2,trivial⟩,trivial⟩,F9 h.simple ⟨⟨hx.2,trivial⟩,trivial⟩,EA h.free ⟨ha,trivial,trivial⟩⟩
theorem VZ {k:Nat} (hk:1000 <= k) {p:List Int} {jy:Int} (hl:0 <= jy /\ jy <= 4):∀ (m j:Nat) (n:Int) (t:Tr),m<j -> m <= 100 -> xg p n -> Pc jy t -> t.len+3 * m <= 1000 ->
  ∃ t' n',Yg k j p n jy t.flat (m:Int)=some ((t'.flat,()),(p,n',()),()) /\ xg p n' /\ Pc jy t' /\ t.len+m <= t'.len /\ t'.len <= t.len+3 * m
 | 0,j,n,t,hj,_,hp,ht,_=>by
  obtain ⟨j',rfl⟩:∃ j',j=j'+1:=⟨j - 1,by omega⟩
  rw [aaS,Yf,Sd (by omega)]
  exact ⟨t,n,rfl,hp,ht,by omega,by omega⟩
 | m+1,j,n,t,hj,hm,hp,ht,htl=>by
  obtain ⟨j',rfl⟩:∃ j',j=j'+1:=⟨j - 1,by omega⟩
  rw [aaS,Yf,Sc (by omega)]
  have hw:IntKind.i64.wrap (((m+1:Nat):Int) - 1)=(m:Int):=by rw [Uu (by omega) (by omega)];omega
  have ih:=VZ hk (p:=p) hl m j'
  have hfl:=jv t
  by_cases e:jy>0
  ·rw [Sc e]
   obtain ⟨a,n1,e1,ha,h1⟩:=l6 k (m:=4) hp (by omega)
   rw [e1,Option.bind_some]
   simp only
   cases h0:a==0 with
   | true =>
    obtain ⟨b,n2,e2,hb,h2⟩:=l6 k (m:=jy) h1 e
    rw [cond_true,e2,Option.bind_some]
    simp only
    rw [Rz (by simp only [List.length_cons,List.length_nil];omega)]
    obtain ⟨x,n3,e3,hx,h3⟩:=Yo k h2
    rw [e3,Option.bind_some]
    simp only
    rw [Rz (by simp only [List.length_append,List.length_cons,List.length_nil];omega),Rz (by simp only [List.length_append,List.length_cons,List.length_nil];omega),hw]
    have hl1:(t.app (.lk b (.one x .nil) .nil)).len=t.len+3:=by rw [QX];rfl
    obtain ⟨t',n',h5,h6,h7,h8,h9⟩:=ih n3 (t.app (.lk b (.one x .nil) .nil)) (by omega) (by omega) h3 (aqC ht hx hb hl.2) (by omega)
    rw [AZ] at h5
    refine ⟨t',n',?_,h6,h7,by omega,by omega⟩
    rw [<- h5]
    simp only [Tr.flat,List.append_assoc,List.cons_append,List.nil_append]
   | false =>
    obtain ⟨x,n3,e3,hx,h3⟩:=Yo k h1
    rw [cond_false,e3,Option.bind_some]
    simp only
    rw [Rz (by simp only [List.length_cons,List.length_nil];omega),hw]
    have hl1:(t.app (.one x .nil)).len=t.len+1:=by rw [QX];rfl
    obtain ⟨t',n',h5,h6,h7,h8,h9⟩:=ih n3 (t.app (.one x .nil)) (by omega) (by omega) h3 (ajW ht hx) (by omega)
    rw [AZ] at h5
    exact ⟨t',n',h5,h6,h7,by omega,by omega⟩
  ·rw [Sd e]
   obtain ⟨x,n3,e3,hx,h3⟩:=Yo k hp
   rw [e3,Option.bind_some]
   simp only
   rw [Rz (by simp only [List.length_cons,List.length_nil];omega),hw]
   have hl1:(t.app (.one x .nil)).len=t.len+1:=by rw [QX];rfl
   obtain ⟨t',n',h5,h6,h7,h8,h9⟩:=ih n3 (t.app (.one x .nil)) (by omega) (by omega) h3 (ajW ht hx) (by omega)
   rw [AZ] at h5
   exact ⟨t',n',h5,h6,h7,by omega,by omega⟩
theorem Yp {k:Nat} (hk:1000 <= k) {p:List Int} {n jy:Int} (hl:0 <= jy /\ jy <= 4) (hp:xg p n):∃ t n',agO k p n 2 jy=some ((Tr.flat t,()),(p,n',()),()) /\ xg p n' /\ Pc jy t /\ 1 <= t.len /\ t.len <= 6:=by
 unfold agO
 obtain ⟨a,n1,e1,ha,h1⟩:=l6 k (m:=2) hp (by omega)
 rw [e1,Option.bind_some]
 simp only
 rw [Uu (by omega) (by omega)]
 obtain ⟨m,hm⟩:∃ m:Nat,a+1=(m:Int):=⟨(a+1).toNat,by omega⟩
 rw [hm]
 obtain ⟨t',n',h5,h6,h7,h8,h9⟩:=VZ hk (p:=p) hl m k n1 .nil (by omega) (by omega) h1 (apf jy) (by simp only [Tr.len];omega)
 simp only [Tr.len,Nat.zero_add] at h8 h9
 exact ⟨t',n',h5,h6,h7,by omega,by omega⟩
structure Mp (jy:Int) (t:Tr):Prop where
 ok:Ok 0 [] false t
 free:Vb jy t
 low:Vd t
theorem apg {jy:Int} {t u:Tr} (h:Mp jy t) (hu:Mp jy u):Mp jy (t.app u):=⟨O4 h.ok hu.ok,EA h.free hu.free,R7 h.low hu.low⟩
theorem FB {k:Nat} {p:List Int} {jy n:Int} {t u:Tr} {m:Nat} {g3:List Int -> Int -> Int -> List I4 -> Int -> Option ((List I4×Unit)×(List Int×Int×Unit)×Unit)} (hu:u.len <= 900) (ht:t.len <= 22) (hm:m <= 900) (ht':Mp jy t) (hu':Mp jy u) :
  ∃ t',EU k g3 p n jy t.flat ((m+1:Nat):Int) u.flat=g3 p n jy (Tr.flat t') (m:Int) /\ t'.len <= 22 /\ Mp jy t':=by
 unfold EU
 have h1:=jv t
 have h2:=jv u
 rw [Uu (by omega) (by omega),Uu (by omega) (by omega),show ((m+1:Nat):Int) - 1=(m:Int) by omega]
 by_cases e:((t.flat.length:Int)+(u.flat.length:Int))<23
 ·rw [Sc e,Rz (by omega)]
  exact ⟨t.app u,by rw [AZ],by rw [QX];omega,apg ht' hu'⟩
 ·rw [Sd e];exact ⟨t,rfl,ht,ht'⟩
theorem W9 {k:Nat} (hk:1000 <= k) {p:List Int} {jy:Int} (hl:0 <= jy /\ jy <= 4):∀ (m j:Nat) (n:Int) (t:Tr),m<j -> m <= 100 -> xg p n -> Mp jy t -> t.len <= 22 ->
  ∃ t' n',GZ k j p n jy t.flat (m:Int)=some ((Tr.prog t',()),(p,n',()),()) /\ xg p n' /\ Mp jy t' /\ t'.len <= 22
 | 0,j,n,t,hj,_,hp,ht,htl=>by
  obtain ⟨j',rfl⟩:∃ j',j=j'+1:=⟨j - 1,by omega⟩
  have hfl:=jv t
  rw [aaT,Yh,Sd (by omega),Rz (by simp only [List.length_cons,List.length_nil];omega)]
  exact ⟨t,n,rfl,hp,ht,htl⟩
 | m+1,j,n,t,hj,hm,hp,ht,htl=>by
  obtain ⟨j',rfl⟩:∃ j',j=j'+1:=⟨j - 1,by omega⟩
  rw [aaT,Yh,Sc (by omega)]
  have ih:=W9 hk (p:=p) hl m j'
  obtain ⟨a,n1,e1,ha,h1⟩:=l6 k (m:=5) hp (by omega)
  rw [e1,Option.bind_some]
  simp only
  cases h0:a==0 with
  | true =>
   obtain ⟨b,n2,e2,h2,hb,hb1,hb2⟩:=Yp hk hl h1
   rw [cond_true,e2,Option.bind_some]
   simp only
   obtain ⟨c,n3,e3,hc,h3⟩:=l6 k (m:=3) h2 (by omega)
   have hbl:=jv b
   rw [e3,Option.bind_some,Rz (by simp only [List.length_cons,List.length_nil];omega)]
   simp only
   rw [Uu (by omega) (by omega)]
   have hx:l5 (8,0,(b.flat.length:Int),1+c)=true:=by simp [l5,AY];omega
   have hwd:wd (8,0,(b.flat.length:Int),1+c)=b.len:=by simp [wd,hbl]
   obtain ⟨t',h5,h6,h7⟩:=FB (k:=k) (p:=p) (jy:=jy) (n:=n3) (t:=t) (u:=.ar (8,0,(b.flat.length:Int),1+c) b .nil) (m:=m) (g3:=fun p2 p3 EW l_ i=>GZ k j' p2 p3 EW l_ i) (by simp only [Tr.len];omega) htl (by omega) ht ⟨⟨⟨hx,rfl,hwd⟩,fun _=>by omega,hb.ok _ _,trivial⟩,⟨hb.free,trivial⟩,⟨AA hb.simple,trivial⟩⟩
   obtain ⟨t2,n',h8,h9,h10,h11⟩:=ih n3 t' (by omega) (by omega) h3 h7 h6
   refine ⟨t2,n',?_,h9,h10,h11⟩
   rw [<- h8,<- h5]
   simp only [Tr.flat,List.append_nil,List.cons_append,List.nil_append]
  | false =>
   rw [cond_false]
   cases h0:a==1 with
   | true =>
    obtain ⟨b,n2,e2,h2,hb,hb1,hb2⟩:=Yp hk hl h1
    rw [cond_true,e2,Option.bind_some]
    simp only
    obtain ⟨c,n3,e3,hc,h3⟩:=l6 k (m:=3) h2 (by omega)
    have hbl:=jv b
    rw [e3,Option.bind_some,Rz (by simp only [List.length_cons,List.length_nil];omega)]
    simp only
    have hx:l5 (7,c,0,(b.flat.length:Int))=true:=by simp [l5,AY,DT];omega
    have hwd:wd (7,c,0,(b.flat.length:Int))=b.len:=by simp [wd,hbl]
    obtain ⟨t',h5,h6,h7⟩:=FB (k:=k) (p:=p) (jy:=jy) (n:=n3) (t:=t) (u:=.ar (7,c,0,(b.flat.length:Int)) b .nil) (m:=m) (g3:=fun p2 p3 EW l_ i=>GZ k j' p2 p3 EW l_ i) (by simp only [Tr.len];omega) htl (by omega) ht ⟨⟨⟨hx,rfl,hwd⟩,fun _=>by omega,hb.ok _ _,trivial⟩,⟨hb.free,trivial⟩,⟨AA hb.simple,trivial⟩⟩
    obtain ⟨t2,n',h8,h9,h10,h11⟩:=ih n3 t' (by omega) (by omega) h3 h7 h6
    refine ⟨t2,n',?_,h9,h10,h11⟩
    rw [<- h8,<- h5]
    simp only [Tr.flat,List.append_nil,List.cons_append,List.nil_append]
   | false =>
    rw [cond_false]
    cases h0:a==2 with
    | true =>
     rw [cond_true]
     obtain ⟨t',h5,h6,h7⟩:=FB (k:=k) (p:=p) (jy:=jy) (n:=n1) (t:=t) (u:=.one (11,0,0,0) .nil) (m:=m) (g3:=fun p2 p3 EW l_ i=>GZ k j' p2 p3 EW l_ i) (by simp [Tr.len]) htl (by omega) ht ⟨⟨rfl,by simp [plain],fun _=>⟨rfl,rfl⟩,trivial⟩,trivial,⟨fun e=>absurd e (by decide),trivial⟩⟩
     obtain ⟨t2,n',h8,h9,h10,h11⟩:=ih n1 t' (by omega) (by omega) h1 h7 h6
     exact ⟨t2,n',by rw [<- h8,<- h5];rfl,h9,h10,h11⟩
    | false =>
     obtain ⟨b,n2,e2,h2,hb,hb1,hb2⟩:=Yp hk hl h1
     rw [cond_false,e2,Option.bind_some]
     simp only
     obtain ⟨t',h5,h6,h7⟩:=FB (k:=k) (p:=p) (jy:=jy) (n:=n2) (t:=t) (u:=b) (m:=m) (g3:=fun p2 p3 EW l_ i=>GZ k j' p2 p3 EW l_ i) (by omega) htl (by omega) ht ⟨hb.ok _ _,hb.free,AA hb.simple⟩
     obtain ⟨t2,n',h8,h9,h10,h11⟩:=ih n2 t' (by omega) (by omega) h2 h7 h6
     exact ⟨t2,n',by rw [<- h8,<- h5],h9,h10,h11⟩
theorem afu {k:Nat} (hk:1000 <= k) {p:List Int} {n jy:Int} (hl:0 <= jy /\ jy <= 4) (hp:xg p n):∃ t n',ajE k p n jy=some ((Tr.prog t,()),(p,n',()),()) /\ xg p n' /\ Mp jy t /\ t.len <= 22:=by
 unfold ajE
 obtain ⟨a,n1,e1,ha,h1⟩:=l6 k (m:=4) hp (by omega)
 rw [e1,Option.bind_some]
 simp only
 rw [Uu (by omega) (by omega)]
 obtain ⟨m,hm⟩:∃ m:Nat,a+1=(m:Int):=⟨(a+1).toNat,by omega⟩
 rw [hm]
 exact W9 hk (p:=p) hl m k n1 .nil (by omega) (by omega) h1 ⟨trivial,trivial,trivial⟩ (by simp [Tr.len])
theorem wf_u8 {n:Int} (h:(Lit.int .u8 n).wf=true):0 <= n /\ n <= 255:=by
 simp [Lit.wf,IntKind.min,IntKind.max,IntKind.signed,IntKind.bits] at h
 omega
theorem aa4 {p:List Int} {e:TypeId} (h:Ty.fine (.sl e (.int .u8)) p) (hl:p.length <= 1000):xg p 0 :=
 ⟨⟨hl,by omega,by omega⟩,fun x hx=>wf_u8 (h.2 x hx)⟩
def xk (l:List I4) (c:Int) (n:Nat):Prop:=(l.getD n i0).1=c
abbrev yj (l:List I4) (n:Nat):Int:=(l.getD n i0).2.1
def LY (l:List I4) (c:Int):Nat -> Nat
 | 0=>0
 | n+1=>LY l c n+(if (l.getD n i0).1=c then 1 else 0)
structure PrI (l:List I4) (i:Nat) (out open_:List Int):Prop where
 len:out.length=l.length
 sorted:open_.Pairwise (·<·)
 small:∀ k∈open_,0 <= k /\ k<(i:Int)
 lock:∀ k:Nat,(k:Int)∈open_ -> xk l 9 k
 closed:∀ k,k<i -> xk l 9 k -> (k:Int) ∉ open_ -> ∃ u:Nat,out.getD k 0=(u:Int) /\ k<u /\ u<i /\ xk l 10 u /\ yj l u=yj l k
 dist:∀ k j,k<j -> j<i -> xk l 9 k -> xk l 9 j -> (k:Int)∈open_ -> yj l k≠yj l j
 nest:∀ k j,k<j -> j<i -> xk l 9 k -> xk l 9 j -> (k:Int) ∉ open_ -> (j:Int)<out.getD k 0 -> (j:Int) ∉ open_ /\ out.getD j 0<out.getD k 0 /\ yj l k≠yj l j
 cnt:LY l 9 i=LY l 10 i+open_.length
theorem H7 {l:List I4} {i:Nat} {s s':List Int×List Int} (hi:i<l.length) (h:PrI l i s.1 s.2) (hs:lq l i s=some s'):PrI l (i+1) s'.1 s'.2:=by
 unfold lq at hs
 have lt1:∀ k,k<i+1 -> k≠i -> k<i:=fun k h1 h2=>by omega
 have asi:((i:Nat):Int) ∉ s.2:=fun h1=>by have:=h.small _ h1;omega
 split at hs
 ·rename_i h9
  split at hs
  ·cases hs
  ·rename_i hn
   injection hs with hs;subst hs
   have hmem:∀ k:Nat,((k:Int)∈s.2++[(i:Int)])↔((k:Int)∈s.2 \/ k=i):=fun k=>by
    rw [List.mem_append,List.mem_singleton]
    exact ⟨fun h=>h.imp id (fun h=>by omega),fun h=>h.imp id (fun h=>by omega)⟩
   refine ⟨h.len,?_,?_,?_,?_,?_,?_,?_⟩
   ·rw [List.pairwise_append]
    exact ⟨h.sorted,List.pairwise_singleton _ _,fun a ha b hb=>by rw [List.mem_singleton.1 hb];exact (h.small a ha).2⟩
   ·intro k hk
    rcases List.mem_append.1 hk with hk | hk
    ·have:=h.small k hk;omega
    ·rw [List.mem_singleton.1 hk];omega
   ·intro k hk
    rcases (hmem k).1 hk with hk | rfl
    ·exact h.lock k hk
    ·exact h9
   ·intro k hk1 hk2 hk3
    have hk3:=fun e=>hk3 ((hmem k).2 e)
    obtain ⟨u,h1,h2,h3,h4⟩:=h.closed k (lt1 k hk1 (fun e=>hk3 (.inr e))) hk2 (fun e=>hk3 (.inl e))
    exact ⟨u,h1,h2,by omega,h4⟩
   ·intro k j hkj hj h1 h2 h3
    by_cases e:j=i
    ·subst e
     rcases (hmem k).1 h3 with h3 | e
     ·intro e
      apply hn;right
      unfold PG
      rw [List.any_eq_true]
      exact ⟨(k:Int),h3,by rw [Qp,Qp];exact beq_iff_eq.2 e⟩
     ·omega
    ·rcases (hmem k).1 h3 with h3 | e2
     ·exact h.dist k j hkj (lt1 j hj e) h1 h2 h3
     ·omega
   ·intro k j hkj hj h1 h2 h3 h4
    have h3':=fun e=>h3 ((hmem k).2 e)
    obtain ⟨u,g1,g2,g3,_⟩:=h.closed k (by omega) h1 (fun e=>h3' (.inl e))
    have h4':(j:Int)<s.1.getD k 0:=h4
    by_cases e:j=i
    ·subst e;omega
    ·obtain ⟨q1,q2⟩:=h.nest k j hkj (lt1 j hj e) h1 h2 (fun e=>h3' (.inl e)) h4
     exact ⟨fun h5=>((hmem j).1 h5).elim q1 e,q2⟩
   ·rw [LY,LY,if_pos h9,if_neg (by rw [h9];decide),h.cnt]
    simp only [List.length_append,List.length_cons,List.length_nil];omega
 ·rename_i h9
  split at hs
  ·rename_i h10
   split at hs
   ·cases hs
   ·rename_i x hx
    split at hs
    ·cases hs
    ·rename_i hn
     injection hs with hs;subst hs
     obtain ⟨r,hr⟩:∃ r,s.2=r++[x]:=by
      rcases List.eq_nil_or_concat s.2 with e | ⟨r,y,e⟩
      ·rw [e] at hx;cases hx
      ·rw [List.concat_eq_append] at e
       rw [e] at hx
       simp at hx
       subst hx
       exact ⟨r,e⟩
     have hxm:=h.small x (by rw [hr];simp)
     obtain ⟨n,rfl⟩:∃ n:Nat,x=(n:Int):=⟨x.toNat,by omega⟩
     have hsort:=h.sorted
     rw [hr,List.pairwise_append] at hsort
     have hdl:s.2.dropLast=r:=by rw [hr];simp
     have hmem:∀ k:Nat,(k:Int)∈s.2↔((k:Int)∈r \/ k=n):=fun k=>by
      rw [hr,List.mem_append,List.mem_singleton]
      exact ⟨fun h=>h.imp id (fun h=>by omega),fun h=>h.imp id (fun h=>by omega)⟩
     have hnr:(n:Int) ∉ r:=fun e=>by have:=hsort.2.2 _ e (n:Int) (by simp);omega
     have hge:∀ k:Nat,(k:Int)∈r -> k<n:=fun k e=>by have:=hsort.2.2 _ e (n:Int) (by simp);omega
     have hln:=h.lock n ((hmem n).2 (.inr rfl))
     have hA:yj l n=yj l i:=by
      by_cases e:yj l n=yj l i
      ·exact e
      ·exact absurd (.inl (by rw [Qp];exact e)) hn
     have hget:∀ k:Nat,(s.1.set n (i:Int)).getD k 0=if n=k /\ k<s.1.length then (i:Int) else s.1.getD k 0:=fun k=>mh
     have hlen:=h.len
     have hnl:n<s.1.length:=by omega
     simp only
     rw [hdl,Mj]
     refine ⟨by rw [List.length_set];exact h.len,hsort.1,fun k hk=>by have:=h.small k (by rw [hr];simp [hk]);omega,fun k hk=>h.lock k ((hmem k).2 (.inl hk)),?_,?_,?_,?_⟩
     ·intro k hk1 hk2 hk3
      rw [hget]
      by_cases e:n=k
      ·subst e
       rw [if_pos ⟨rfl,hnl⟩]
       exact ⟨i,rfl,by omega,by omega,h10,hA.symm⟩
      ·rw [if_neg (fun q=>e q.1)]
       have:k≠i:=fun e=>by subst e;exact h9 hk2
       obtain ⟨u,h1,h2,h3,h4⟩:=h.closed k (by omega) hk2 (fun q=>((hmem k).1 q).elim hk3 (fun q=>e q.symm))
       exact ⟨u,h1,h2,by omega,h4⟩
     ·intro k j hkj hj h1 h2 h3
      have:j≠i:=fun e=>by subst e;exact h9 h2
      exact h.dist k j hkj (by omega) h1 h2 ((hmem k).2 (.inl h3))
     ·intro k j hkj hj h1 h2 h3 h4
      have hji:j≠i:=fun e=>by subst e;exact h9 h2
      rw [hget k] at h4
      rw [hget k,hget j]
      by_cases e:n=k
      ·subst e
       rw [if_pos ⟨rfl,hnl⟩] at h4
       rw [if_pos (show n=n /\ n<s.1.length from ⟨rfl,hnl⟩)]
       have hjr:(j:Int) ∉ r:=fun q=>by have:=hge j q;omega
       have hjo:(j:Int) ∉ s.2:=fun q=>((hmem j).1 q).elim hjr (fun q=>by omega)
       obtain ⟨u,g1,g2,g3,_⟩:=h.closed j (by omega) h2 hjo
       rw [if_neg (show ¬ (n=j /\ j<s.1.length) by omega)]
       exact ⟨hjr,by omega,h.dist n j hkj (by omega) h1 h2 ((hmem n).2 (.inr rfl))⟩
      ·rw [if_neg (fun q=>e q.1)] at h4
       rw [if_neg (show ¬ (n=k /\ k<s.1.length) from fun q=>e q.1)]
       have hko:(k:Int) ∉ s.2:=fun q=>((hmem k).1 q).elim h3 (fun q=>e q.symm)
       obtain ⟨q1,q2,q3⟩:=h.nest k j hkj (by omega) h1 h2 hko h4
       have hjn:n≠j:=fun e=>q1 (e ▸ (hmem n).2 (.inr rfl))
       rw [if_neg (show ¬ (n=j /\ j<s.1.length) from fun q=>hjn q.1)]
       exact ⟨fun q=>q1 ((hmem j).2 (.inl q)),q2,q3⟩
     ·rw [LY,LY,if_pos h10,if_neg h9,h.cnt,hr]
      simp only [List.length_append,List.length_cons,List.length_nil];omega
  ·rename_i h10
   injection hs with hs;subst hs
   have ne:∀ j,xk l 9 j -> j≠i:=fun j q e=>by subst e;exact h9 q
   refine ⟨h.len,h.sorted,fun k hk=>by have:=h.small k hk;omega,h.lock,?_,?_,?_,?_⟩
   ·intro k hk1 hk2 hk3
    have:=ne k hk2
    obtain ⟨u,h1,h2,h3,h4⟩:=h.closed k (by omega) hk2 hk3
    exact ⟨u,h1,h2,by omega,h4⟩
   ·intro k j hkj hj h1 h2 h3
    have:=ne j h2
    exact h.dist k j hkj (by omega) h1 h2 h3
   ·intro k j hkj hj h1 h2 h3 h4
    have:=ne j h2
    exact h.nest k j hkj (by omega) h1 h2 h3 h4
   ·rw [LY,LY,if_neg h10,if_neg h9,h.cnt];omega
theorem ajX {l:List I4}:∀ (m i:Nat) (s s':List Int×List Int),i+m=l.length -> PrI l i s.1 s.2 -> yc l m i s=some s' -> PrI l l.length s'.1 s'.2
 | 0,i,s,s',hm,h,hg=>by
  injection hg with hg;subst hg
  have:i=l.length:=by omega
  subst this;exact h
 | m+1,i,s,s',hm,h,hg=>by
  rw [yc,Option.bind_eq_some_iff] at hg
  obtain ⟨t,h1,h2⟩:=hg
  exact ajX m (i+1) t s' (by omega) (H7 (by omega) h h1) h2
theorem Yq {l:List I4} {ps:List Int} (h:prs l=some ps):PrI l l.length ps [] :=
 ajX _ _ _ _ (by omega) ⟨by simp,List.Pairwise.nil,(fun _ h=>by cases h),(fun _ h=>by cases h),fun _ h=>by omega,fun _ _ _ h=>by omega,fun _ _ _ h=>by omega,rfl⟩ (acn h)
theorem u64 {n:Int} (h1:0 <= n) (h2:n<18446744073709551616):IntKind.u64.wrap n=n:=by
 unfold IntKind.wrap
 have e1:(2 ^ IntKind.u64.bits:Int)=18446744073709551616:=by decide
 simp only [e1,IntKind.signed,Bool.false_and,Bool.false_eq_true,if_false]
 omega
theorem TN (n:Int):IntKind.u64.wrap n=n % 18446744073709551616:=by
 unfold IntKind.wrap
 have e1:(2 ^ IntKind.u64.bits:Int)=18446744073709551616:=by decide
 simp only [e1,IntKind.signed,Bool.false_and,Bool.false_eq_true,if_false]
theorem ajY (n:Int):IntKind.u32.wrap n=n % 4294967296:=by
 unfold IntKind.wrap
 have e1:(2 ^ IntKind.u32.bits:Int)=4294967296:=by decide
 simp only [e1,IntKind.signed,Bool.false_and,Bool.false_eq_true,if_false]
theorem ajZ (x:BitVec 64):IntKind.i64.wrap (x.toNat:Int)=x.toInt:=by
 have hx:=x.isLt
 unfold IntKind.wrap
 have e1:(2 ^ IntKind.i64.bits:Int)=18446744073709551616:=by decide
 have e2:(2 ^ (IntKind.i64.bits - 1):Int)=9223372036854775808:=by decide
 simp only [e1,e2,IntKind.signed,Bool.true_and,decide_eq_true_eq,BitVec.toInt_eq_toNat_cond]
 have:(2:Nat) ^ 64=18446744073709551616:=by decide
 rw [this] at hx ⊢
 split <;> split <;> omega
theorem aj0 (x:BitVec 64):BitVec.ofInt 64 x.toInt=x:=BitVec.ofInt_toInt
theorem aa5 (a b:Int):Un .i64 a b=(BitVec.ofInt 64 a ^^^ BitVec.ofInt 64 b).toInt:=ajZ _
theorem aj1 (a b:Int):Um .i64 a b=(BitVec.ofInt 64 a &&& BitVec.ofInt 64 b).toInt:=ajZ _
theorem KD {a:Int} (h1:0 <= a) (h2:a <= 9223372036854775807):(BitVec.ofInt 64 a).msb=false:=by
 have:(BitVec.ofInt 64 a).toInt=a:=by rw [BitVec.toInt_ofInt];exact Int.bmod_eq_of_le (by omega) (by omega)
 rw [BitVec.msb_eq_toInt,this];exact decide_eq_false (by omega)
theorem msb_neg {a:Int} (h1:-9223372036854775808 <= a) (h2:a<0):(BitVec.ofInt 64 a).msb=true:=by
 have:(BitVec.ofInt 64 a).toInt=a:=by rw [BitVec.toInt_ofInt];exact Int.bmod_eq_of_le (by omega) (by omega)
 rw [BitVec.msb_eq_toInt,this];exact decide_eq_true (by omega)
theorem aj2 {a b s:Int} (ha:0 <= a /\ a <= 9223372036854775807) (hb:0 <= b /\ b <= 9223372036854775807) (hs:-9223372036854775808 <= s /\ s <= 9223372036854775807) :
  decide (Um .i64 (Un .i64 a s) (Un .i64 b s)<0)=decide (s<0):=by
 rw [aj1,aa5,aa5,aj0,aj0,<- BitVec.msb_eq_toInt,BitVec.msb_and,BitVec.msb_xor,BitVec.msb_xor,KD ha.1 ha.2,KD hb.1 hb.2]
 by_cases h:s<0
 ·rw [msb_neg hs.1 h,decide_eq_true h];rfl
 ·rw [KD (by omega) hs.2,decide_eq_false h];rfl
def aa6 (n:Int):Int×Bool:=if n <= 9223372036854775807 then (n,true) else (9223372036854775807,false)
theorem amc (k:Nat) {a b:Int} (ha:0 <= a /\ a <= 9223372036854775807) (hb:0 <= b /\ b <= 9223372036854775807):agw k a b=some (((aa6 (a+b)).1,(aa6 (a+b)).2,()),()):=by
 unfold agw
 rw [u64 ha.1 (by omega),u64 hb.1 (by omega),u64 (n:=a+b) (by omega) (by omega)]
 have hs:IntKind.i64.wrap (a+b)=if a+b <= 9223372036854775807 then a+b else a+b - 18446744073709551616:=by
  unfold IntKind.wrap
  have e1:(2 ^ IntKind.i64.bits:Int)=18446744073709551616:=by decide
  have e2:(2 ^ (IntKind.i64.bits - 1):Int)=9223372036854775808:=by decide
  simp only [e1,e2,IntKind.signed,Bool.true_and,decide_eq_true_eq]
  split <;> split <;> omega
 rw [aj2 ha hb (by rw [hs];split <;> omega),hs]
 unfold aa6 agu
 by_cases h:a+b <= 9223372036854775807
 ·rw [if_pos h,if_pos h,Sd (by omega)]
 ·rw [if_neg h,if_neg h,Sc (by omega),Sd (by omega)];rfl
theorem afw (k:Nat) {a b:Int} (ha:0 <= a) (hb:0 <= b) (h:a+b <= 9223372036854775807):agw k a b=some ((a+b,true,()),()):=by
 rw [amc k ⟨ha,by omega⟩ ⟨hb,by omega⟩];unfold aa6;rw [if_pos h]
theorem amd {a:Int}:Ul .u64 a 32=a / 4294967296:=by
 unfold Ul
 show a.fdiv (2 ^ 32)=_
 rw [show ((2:Int) ^ 32)=4294967296 by decide,Int.fdiv_eq_ediv_of_nonneg _ (by omega)]
theorem ame {a:Int} (h1:0 <= a) (h2:a<4294967296):Uk .u64 a 32=a * 4294967296:=by
 unfold Uk
 show IntKind.u64.wrap (a * 2 ^ 32)=_
 rw [show ((2:Int) ^ 32)=4294967296 by decide,u64 (by omega) (by omega)]
theorem aqD {a:Int} (h1:0 <= a) (h2:a<18446744073709551616):Uz .u64 a 0=a:=by
 unfold Uz
 show IntKind.u64.wrap (((BitVec.ofInt 64 a ||| BitVec.ofInt 64 0).toNat:Nat):Int)=a
 rw [show BitVec.ofInt 64 0=0#64 from rfl,BitVec.or_zero,BitVec.toNat_ofInt,u64 (by omega) (by omega)]
 omega
theorem aqE {a:Int} (h1:0 <= a) (h2:a<18446744073709551616):Uz .u64 0 a=a:=by
 unfold Uz
 show IntKind.u64.wrap (((BitVec.ofInt 64 0 ||| BitVec.ofInt 64 a).toNat:Nat):Int)=a
 rw [show BitVec.ofInt 64 0=0#64 from rfl,BitVec.zero_or,BitVec.toNat_ofInt,u64 (by omega) (by omega)]
 omega
theorem amf (k:Nat) {a b:Int} (ha:0 <= a /\ a <= 9223372036854775807) (hb:0 <= b /\ b <= 9223372036854775807) :
  ∃ p,ala k a b=some ((p,decide (a * b<18446744073709551616),()),()) /\ (a * b<18446744073709551616 -> p=a * b):=by
 unfold ala
 simp only [amd,ajY]
 have A1:a=a / 4294967296 * 4294967296+a % 4294967296:=by omega
 have B1:b=b / 4294967296 * 4294967296+b % 4294967296:=by omega
 have ah0:0 <= a / 4294967296 /\ a / 4294967296<2147483648:=by omega
 have bh0:0 <= b / 4294967296 /\ b / 4294967296<2147483648:=by omega
 have al0:0 <= a % 4294967296 /\ a % 4294967296<4294967296:=by omega
 have bl0:0 <= b % 4294967296 /\ b % 4294967296<4294967296:=by omega
 generalize a / 4294967296=x at *
 generalize b / 4294967296=y at *
 generalize a % 4294967296=u at *
 generalize b % 4294967296=v at *
 have hab:a * b=x * y * 18446744073709551616+(x * v+u * y) * 4294967296+u * v:=by
  rw [A1,B1];grind
 have huv:0 <= u * v /\ u * v<18446744073709551616:=by
  constructor
  ·exact Int.mul_nonneg al0.1 bl0.1
  ·have:u * v <= 4294967295 * 4294967295:=Int.mul_le_mul (by omega) (by omega) bl0.1 (by omega)
   omega
 have hxv:0 <= x * v /\ x * v<9223372036854775808:=by
  constructor
  ·exact Int.mul_nonneg ah0.1 bl0.1
  ·have:x * v <= 2147483647 * 4294967295:=Int.mul_le_mul (by omega) (by omega) bl0.1 (by omega)
   omega
 have huy:0 <= u * y /\ u * y<9223372036854775808:=by
  constructor
  ·exact Int.mul_nonneg al0.1 bh0.1
  ·have:u * y <= 4294967295 * 2147483647:=Int.mul_le_mul (by omega) (by omega) bh0.1 (by omega)
   omega
 have hxy:0 <= x * y:=Int.mul_nonneg ah0.1 bh0.1
 rw [u64 (n:=u) (by omega) (by omega),u64 (n:=v) (by omega) (by omega),u64 (n:=x * v) (by omega) (by omega),u64 (n:=u * y) (by omega) (by omega),u64 (n:=u * v) (by omega) (by omega)]
 have mid:x=0 \/ y=0 -> Uz .u64 (x * v) (u * y)=x * v+u * y:=by
  rintro (rfl | rfl)
  ·rw [Int.zero_mul,aqE (by omega) (by omega)];omega
  ·rw [Int.mul_zero,aqD (by omega) (by omega)];omega
 have tail:x=0 \/ y=0 -> ∃ p,(bif decide (Uz .u64 (x * v) (u * y) / 4294967296>0) then some ((0,false,()),()) else
   some ((IntKind.u64.wrap (u * v+Uk .u64 (Uz .u64 (x * v) (u * y)) 32),decide (IntKind.u64.wrap (u * v+Uk .u64 (Uz .u64 (x * v) (u * y)) 32)≥u * v),()),()):Option ((Int×Bool×Unit)×Unit))=some ((p,decide (a * b<18446744073709551616),()),()) /\ (a * b<18446744073709551616 -> p=a * b):=by
  intro h0
  have arX:x * y=0:=by rcases h0 with rfl | rfl <;> simp
  rw [arX] at hab
  rw [mid h0]
  have hm0:0 <= x * v+u * y:=by omega
  clear mid
  generalize x * v+u * y=m at hab hm0 ⊢
  by_cases h:m / 4294967296>0
  ·rw [Sc h]
   exact ⟨0,by rw [decide_eq_false (by omega)],fun h2=>by omega⟩
  ·rw [Sd h,ame hm0 (by omega)]
   refine ⟨_,by
    rw [show decide (IntKind.u64.wrap (u * v+m * 4294967296)≥u * v)=decide (a * b<18446744073709551616) from ?_]
    rw [TN]
    by_cases h2:a * b<18446744073709551616
    ·rw [decide_eq_true h2];exact decide_eq_true (by omega)
    ·rw [decide_eq_false h2];exact decide_eq_false (by omega),fun h2=>?_⟩
   rw [TN];omega
 by_cases h1:x>0
 ·rw [Sc h1]
  by_cases h2:y>0
  ·rw [Sc h2]
   have:1 <= x * y:=by
    have:1 * 1 <= x * y:=Int.mul_le_mul (by omega) (by omega) (by omega) (by omega)
    omega
   exact ⟨0,by rw [decide_eq_false (by omega)],fun h=>by omega⟩
  ·rw [Sd h2];exact tail (.inr (by omega))
 ·rw [Sd h1];exact tail (.inl (by omega))
theorem afx (k:Nat) {a:Int} (ha:0 <= a /\ a <= 9223372036854775807):ahZ k a=some ((a,()),()):=by
 unfold ahZ
 rw [Sd (by omega),u64 ha.1 (by omega)]
theorem amg (k:Nat) {a b:Int} (ha:0 <= a /\ a <= 9223372036854775807) (hb:0 <= b /\ b <= 9223372036854775807):agv k a b=some (((aa6 (a * b)).1,(aa6 (a * b)).2,()),()):=by
 unfold agv
 rw [decide_eq_false (p:=a<0) (by omega),decide_eq_false (p:=b<0) (by omega)]
 simp only [beq_self_eq_true,Bool.not_true,cond_false]
 unfold X8
 obtain ⟨p,h1,h2⟩:=amf k ha hb
 have hab:0 <= a * b:=Int.mul_nonneg ha.1 hb.1
 rw [afx k ha,afx k hb]
 simp only [Option.bind_some]
 rw [h1,Option.bind_some]
 unfold aa6 agu
 by_cases h:a * b<18446744073709551616
 ·rw [h2 h,decide_eq_true h]
  simp only [Bool.not_true,cond_false]
  by_cases h3:a * b <= 9223372036854775807
  ·rw [Sd (by omega),if_pos h3,Uu (by omega) h3]
  ·rw [Sc (by omega),if_neg h3];rfl
 ·rw [decide_eq_false h,if_neg (by omega)];rfl
theorem afy (k:Nat) {a b:Int} (ha:0 <= a /\ a <= 9223372036854775807) (hb:0 <= b /\ b <= 9223372036854775807) (h:a * b <= 9223372036854775807):agv k a b=some ((a * b,true,()),()):=by
 rw [amg k ha hb];unfold aa6;rw [if_pos h]
def KZ (l:List I4) (j:Int):List fq -> Int -> Int
 | [],acc=>acc
 | p::r,acc=>KZ l j r (bif p.2.2.2&&o9 p j then acc * (rd l p.2.2.1 i0).2.2.2 else acc)
theorem J4 (l:List I4) (j:Int):∀ (a b:List fq) (acc:Int),KZ l j (a++b) acc=KZ l j b (KZ l j a acc)
 | [],_,_=>rfl
 | p::a,b,acc=>by rw [List.cons_append,KZ,KZ,J4 l j a b]
theorem CP (l:List I4) (j:Int):∀ (a:List fq) (acc:Int),(∀ p∈a,o9 p j=false) -> KZ l j a acc=acc
 | [],_,_=>rfl
 | p::a,acc,h=>by rw [KZ,h p List.mem_cons_self,Bool.and_false,cond_false,CP l j a acc (fun q hq=>h q (List.mem_cons_of_mem _ hq))]
theorem O8 (l:List I4) (j:Int):∀ (a:List fq) (acc:Int),1 <= acc -> (∀ p∈a,p.2.2.2=true -> 1 <= (rd l p.2.2.1 i0).2.2.2 /\ (rd l p.2.2.1 i0).2.2.2 <= 20) -> 1 <= KZ l j a acc /\ KZ l j a acc <= acc * 20 ^ gq j a
 | [],acc,h,_=>by rw [KZ];simp [gq];exact h
 | p::a,acc,h,hb=>by
  rw [KZ,gq,List.countP_cons,<- gq]
  have ih:=fun acc h=>O8 l j a acc h (fun q hq=>hb q (List.mem_cons_of_mem _ hq))
  cases e:(p.2.2.2&&o9 p j) with
  | false=>simp only [cond_false,Bool.false_eq_true,if_false,Nat.add_zero];exact ih acc h
  | true =>
   rw [Bool.and_eq_true] at e
   have h1:=hb p List.mem_cons_self e.1
   simp only [cond_true,if_true]
   have h2:1 * 1 <= acc * (rd l p.2.2.1 i0).2.2.2:=Int.mul_le_mul h h1.1 (by omega) (by omega)
   obtain ⟨i1,i2⟩:=ih (acc * (rd l p.2.2.1 i0).2.2.2) (by omega)
   refine ⟨i1,Int.le_trans i2 ?_⟩
   rw [Int.pow_succ,Int.mul_comm (20 ^ gq j a) 20,<- Int.mul_assoc]
   refine Int.mul_le_mul_of_nonneg_right ?_ (Int.pow_nonneg (by omega))
   exact Int.mul_le_mul_of_nonneg_left h1.2 (by omega)
def tms (l:List I4):List Int:=(List.range l.length).map (fun (j:Nat)=>KZ l (j:Int) (ny 0 l) 1)
theorem zf (l:List I4):(tms l).length=l.length:=by simp [tms]
theorem Yr {l:List I4} {j:Nat} (h:j<l.length):(tms l).getD j 0=KZ l (j:Int) (ny 0 l) 1:=by
 rw [getD_in (by rw [zf];exact h)];simp [tms]
theorem aa7 {l:List I4} {ps:List Int} (g:CO l ps):∀ p∈ny 0 l,p.2.2.2=true -> 1 <= (rd l p.2.2.1 i0).2.2.2 /\ (rd l p.2.2.1 i0).2.2.2 <= 20:=by
 intro p hp hb
 have:=g.len2
 obtain ⟨n,h1,h2,rfl⟩:=(l8 l 0 p g.may (by omega)).1 hp
 have h3:=acp (g.may _ (jm (z:=i0) h1)) (eq_of_beq hb)
 have:rd l (ni (0+n) (l.getD n i0)).2.2.1 i0=l.getD n i0:=by rw [Nat.zero_add];exact Qp
 rw [this];exact h3.2.2
theorem Wd {l:List I4} {ps:List Int} (g:CO l ps) {j:Nat} (h:j<l.length):1 <= (tms l).getD j 0 /\ (tms l).getD j 0 <= 400:=by
 rw [Yr h]
 have h1:=O8 l (j:Int) (ny 0 l) 1 (by omega) (aa7 g)
 have h2:=g.bodies j h
 refine ⟨h1.1,Int.le_trans h1.2 ?_⟩
 have:gq (j:Int) (ny 0 l)=0 \/ gq (j:Int) (ny 0 l)=1 \/ gq (j:Int) (ny 0 l)=2:=by omega
 rcases this with e | e | e <;> rw [e] <;> decide
def mulR (c:Int):List Int -> Nat -> Nat -> List Int
 | out,_,0=>out
 | out,i,m+1=>mulR c (out.set i (out.getD i 0 * c)) (i+1) m
theorem aa8 (c:Int):∀ (m i:Nat) (out:List Int),(mulR c out i m).length=out.length
 | 0,_,_=>rfl
 | m+1,i,out=>by rw [mulR,aa8 c m,List.length_set]
theorem aa9 (c:Int):∀ (m i:Nat) (out:List Int) (j:Nat),i+m <= out.length -> (mulR c out i m).getD j 0=if i <= j /\ j<i+m then out.getD j 0 * c else out.getD j 0
 | 0,i,out,j,_=>by rw [mulR,if_neg (by omega)]
 | m+1,i,out,j,h=>by
  rw [mulR,aa9 c m (i+1) _ j (by simp only [List.length_set];omega),mh]
  by_cases e:i=j
  ·subst e
   rw [if_neg (by omega),if_pos ⟨rfl,by omega⟩,if_pos (by omega)]
  ·rw [if_neg (fun h:i=j /\ j<out.length=>e h.1)]
   by_cases e2:i+1 <= j /\ j<i+1+m
   ·rw [if_pos e2,if_pos (by omega)]
   ·rw [if_neg e2,if_neg (by omega)]
theorem TP {k:Nat} {g8:List Int -> List I4 -> Int -> Int -> Option ((List Int×Unit)×Unit)} {i x x1 x2 c t21 t22:Int} {t20:List I4} (hc:1 <= c /\ c <= 20):∀ (m n j:Nat) (out:List Int),i+x2+1=((n+m:Nat):Int) -> n+m <= out.length -> out.length <= 900 -> m<j -> (∀ j,n <= j -> j<n+m -> 1 <= out.getD j 0 /\ out.getD j 0 * c <= 400) ->
  QF k g8 j out i x x1 x2 c n t20 t21 t22=g8 (mulR c out n m) t20 t21 (IntKind.i64.wrap (t22+1))
 | 0,n,j,out,h,ho,hl,hj,hb=>by
  obtain ⟨j',rfl⟩:∃ j',j=j'+1:=⟨j - 1,by omega⟩
  rw [Vt,QE,Uu (by omega) (by omega),Sd (by omega),mulR]
 | m+1,n,j,out,h,ho,hl,hj,hb=>by
  obtain ⟨j',rfl⟩:∃ j',j=j'+1:=⟨j - 1,by omega⟩
  have h1:=hb n (by omega) (by omega)
  have h2:out.getD n 0 <= 400:=by
   have:=Int.mul_le_mul_of_nonneg_left hc.1 (show 0 <= out.getD n 0 by omega)
   omega
  rw [Vt,QE,Uu (by omega) (by omega),Sc (by omega),Qo (by omega),Qp,afy k (by omega) (by omega) (by omega),Option.bind_some,Qo (by omega),Mi (by omega),Mj,mulR]
  refine TP hc m (n+1) j' _ (by omega) (by simp only [List.length_set];omega) (by simp only [List.length_set];omega) (by omega) (fun j hj1 hj2=>?_)
  rw [mh,if_neg (by omega)]
  exact hb j (by omega) (by omega)
theorem TQ {l:List I4} {i:Nat} (hi:i<l.length):ny 0 (l.take (i+1))=ny 0 (l.take i)++pc i (l.getD i i0):=by
 have:l.take (i+1)=l.take i++[l.getD i i0]:=by rw [List.take_add_one,getD_in hi,List.getElem?_eq_getElem hi];rfl
 rw [this,EZ,List.length_take,Nat.zero_add,show min i l.length=i by omega]
 simp [ny]
theorem Wh {l:List I4} {i:Nat} (hi:i <= l.length):ny 0 l=ny 0 (l.take i)++ny i (l.drop i):=by
 have:=EZ (l.take i) (l.drop i) 0
 rw [List.take_append_drop,List.length_take,Nat.zero_add,show min i l.length=i by omega] at this
 exact this
theorem amh {k:Nat} (hk:1000 <= k) {l:List I4} {ps:List Int} (g:CO l ps):alc k l=some ((tms l,()),()):=by
 unfold alc
 have hl2:=g.len2
 rw [Ry (by omega) (by omega),List.length_replicate,Int.toNat_natCast]
 have h1:=aaZ (L:=fun j (out:List Int) i=>N7 k j l out (l.length:Int) i) (n:=l.length)
  (fun i out=>out.length=l.length /\ ∀ j,j<i -> out.getD j 0=1)
  (fun i out=>out.set i 1) (fun out=>K7 k k out l (l.length:Int) 0)
  (fun j i out hi hv=>by
   show N7 k (j+1) l out (l.length:Int) (i:Int)=_
   rw [ZF,Xa,Sc (by omega),Qo (by omega),Mj,Mi (by omega)])
  (fun i out hi hv=>by
   refine ⟨by rw [List.length_set];exact hv.1,fun j hj=>?_⟩
   rw [mh]
   by_cases e:i=j
   ·subst e;rw [if_pos ⟨rfl,by omega⟩]
   ·rw [if_neg (fun h=>e h.1)];exact hv.2 j (by omega))
  (fun j out hv=>by
   show N7 k (j+1) l out (l.length:Int) (l.length:Int)=_
   rw [ZF,Xa,Sd (by omega)])
  l.length 0 k (List.replicate l.length 0) (by omega) (by omega) ⟨by simp,fun j hj=>by omega⟩
 refine Eq.trans h1 ?_
 have hv:=LU (inv:=fun i (out:List Int)=>out.length=l.length /\ ∀ j,j<i -> out.getD j 0=1) (f:=fun i out=>out.set i 1) (n:=l.length) (fun i out hi hv=>by
   refine ⟨by rw [List.length_set];exact hv.1,fun j hj=>?_⟩
   rw [mh]
   by_cases e:i=j
   ·subst e;rw [if_pos ⟨rfl,by have:=hv.1;omega⟩]
   ·rw [if_neg (fun h=>e h.1)];exact hv.2 j (by omega)) l.length 0 (List.replicate l.length 0) (by omega) ⟨by simp,fun j hj=>by omega⟩
 generalize goF (fun i (out:List Int)=>out.set i 1) l.length 0 (List.replicate l.length 0)=aph at hv ⊢
 have hinv:∀ i (out:List Int),i<l.length -> (out.length=l.length /\ ∀ j,j<l.length -> out.getD j 0=KZ l (j:Int) (ny 0 (l.take i)) 1) -> ((if (l.getD i i0).1=8 then mulR (l.getD i i0).2.2.2 out (i+1) (wd (l.getD i i0)) else out).length=l.length /\ ∀ j,j<l.length -> (if (l.getD i i0).1=8 then mulR (l.getD i i0).2.2.2 out (i+1) (wd (l.getD i i0)) else out).getD j 0=KZ l (j:Int) (ny 0 (l.take (i+1))) 1):=by
  intro i out hi ⟨h2,h3⟩
  have hm:=g.may _ (jm (z:=i0) hi)
  by_cases e:(l.getD i i0).1=8
  ·have hA:isA (l.getD i i0)=true:=by simp only [isA,e];rfl
   have hw:=za hm hA
   have hlast:=g.last (ni i (l.getD i i0)) ((l8 l 0 _ g.may (by omega)).2 ⟨i,hi,hA,by rw [Nat.zero_add]⟩)
   have e2:(ni i (l.getD i i0)).2.1=((i+wd (l.getD i i0):Nat):Int):=rfl
   rw [if_pos e]
   refine ⟨by rw [aa8];exact h2,fun j hj=>?_⟩
   rw [aa9 _ _ _ _ _ (by omega),TQ hi,J4,<- h3 j hj,KA hm (by omega),if_pos hA,KZ,KZ]
   have e3:(ni i (l.getD i i0)).2.2.2=true:=by simp only [ni,e];rfl
   have e4:(ni i (l.getD i i0)).2.2.1=(i:Int):=rfl
   rw [e3,e4,Qp,Bool.true_and]
   by_cases h5:i+1 <= j /\ j<i+1+wd (l.getD i i0)
   ·rw [if_pos h5,show o9 (ni i (l.getD i i0)) (j:Int)=true by rw [o8];simp only [ni];omega];rfl
   ·rw [if_neg h5,show o9 (ni i (l.getD i i0)) (j:Int)=false by rw [<- Bool.not_eq_true,o8];simp only [ni];omega];rfl
  ·rw [if_neg e]
   refine ⟨h2,fun j hj=>?_⟩
   rw [TQ hi,J4,<- h3 j hj,KA hm (by omega)]
   split
   ·have e3:(ni i (l.getD i i0)).2.2.2=false:=by simp only [ni];simpa using e
    rw [KZ,KZ,e3];rfl
   ·rfl
 have h2:=aaZ (L:=fun j (out:List Int) i=>K7 k j out l (l.length:Int) i) (n:=l.length)
  (fun i out=>out.length=l.length /\ ∀ j,j<l.length -> out.getD j 0=KZ l (j:Int) (ny 0 (l.take i)) 1)
  (fun i out=>if (l.getD i i0).1=8 then mulR (l.getD i i0).2.2.2 out (i+1) (wd (l.getD i i0)) else out) (fun out=>some ((out,()),()))
  (fun j i out hi hv=>by
   show K7 k (j+1) out l (l.length:Int) (i:Int)=_
   rw [ZE,X9,Sc (by omega),Qo hi,Qp,Mi (by omega)]
   have hm:=g.may _ (jm (z:=i0) hi)
   by_cases e:(l.getD i i0).1=8
   ·have hA:isA (l.getD i i0)=true:=by simp only [isA,e];rfl
    have hw:=za hm hA
    have hlast:=g.last (ni i (l.getD i i0)) ((l8 l 0 _ g.may (by omega)).2 ⟨i,hi,hA,by rw [Nat.zero_add]⟩)
    have e2:(ni i (l.getD i i0)).2.1=((i+wd (l.getD i i0):Nat):Int):=rfl
    have e3:(ni i (l.getD i i0)).2.2.2=true:=by simp only [ni,e];rfl
    have hN:=(acp hm e).2.2
    have hpm:ni i (l.getD i i0)∈ny 0 l:=(l8 l 0 _ g.may (by omega)).2 ⟨i,hi,hA,by rw [Nat.zero_add]⟩
    rw [if_pos e,show ((l.getD i i0).1 != 8)=false by rw [e];rfl,cond_false]
    refine (TP (x2:=(l.getD i i0).2.2.1) hN (wd (l.getD i i0)) (i+1) k out (by have:=hw.2.2.1 e;omega) (by omega) (by omega) (by omega) (fun j hj1 hj2=>?_)).trans (by rw [Mi (by omega)])
    rw [hv.2 j (by omega)]
    have hsplit:=Wh (l:=l) (i:=i) (by omega)
    have hb:=g.bodies j (by omega)
    have hcb:gq (j:Int) (ny 0 (l.take i))+1 <= 2:=by
     have hs2:=Wh (l:=l) (i:=i+1) (by omega)
     rw [hs2,TQ hi,O7,O7,KA hm (by omega),if_pos hA] at hb
     have:gq (j:Int) [ni i (l.getD i i0)]=1:=by
      rw [gq,List.countP_cons,List.countP_nil,e3,show o9 (ni i (l.getD i i0)) (j:Int)=true by rw [o8];simp only [ni];omega];rfl
     omega
    have hbd:=O8 l (j:Int) (ny 0 (l.take i)) 1 (by omega) (fun p hp=>aa7 g p (by rw [hsplit];exact List.mem_append_left _ hp))
    refine ⟨hbd.1,?_⟩
    have h20:KZ l (j:Int) (ny 0 (l.take i)) 1 <= 20:=by
     refine Int.le_trans hbd.2 ?_
     have:gq (j:Int) (ny 0 (l.take i))=0 \/ gq (j:Int) (ny 0 (l.take i))=1:=by omega
     rcases this with e | e <;> rw [e] <;> decide
    have:=Int.mul_le_mul h20 hN.2 (by omega) (by omega)
    omega
   ·rw [if_neg e,show ((l.getD i i0).1 != 8)=true by simpa using e,cond_true])
  hinv
  (fun j out hv=>by
   show K7 k (j+1) out l (l.length:Int) (l.length:Int)=_
   rw [ZE,X9,Sd (by omega)])
  l.length 0 k aph (by omega) (by omega) ⟨hv.1,fun j hj=>by rw [hv.2 j hj];rfl⟩
 refine Eq.trans h2 ?_
 have hv2:=LU (n:=l.length) hinv l.length 0 aph (by omega) ⟨hv.1,fun j hj=>by rw [hv.2 j hj];rfl⟩
 generalize goF (fun i (out:List Int)=>if (l.getD i i0).1=8 then mulR (l.getD i i0).2.2.2 out (i+1) (wd (l.getD i i0)) else out) l.length 0 aph=abZ at hv2 ⊢
 rw [List.take_length] at hv2
 have:abZ=tms l:=by
  apply List.ext_getElem (by rw [hv2.1,zf])
  intro n h1 h2
  rw [zf] at h2
  rw [<- getD_in (z:=0) h1,<- getD_in (z:=0) (by rw [zf];exact h2),Yr h2,hv2.2 n h2]
 rw [this]
def sm:List Int -> Int
 | []=>0
 | x::r=>x+sm r
theorem KE:∀ a b:List Int,sm (a++b)=sm a+sm b
 | [],b=>by simp [sm]
 | x::a,b=>by rw [List.cons_append,sm,sm,KE a b];omega
theorem abb {c:Int}:∀ (a:List Int),(∀ x∈a,0 <= x /\ x <= c) -> 0 <= sm a /\ sm a <= a.length * c
 | [],_=>by simp [sm]
 | x::a,h=>by
  have h1:=h x List.mem_cons_self
  have h2:=abb a (fun y hy=>h y (List.mem_cons_of_mem _ hy))
  rw [sm,List.length_cons]
  refine ⟨by omega,?_⟩
  have:((a.length+1:Nat):Int) * c=(a.length:Int) * c+c:=by rw [show ((a.length+1:Nat):Int)=(a.length:Int)+1 by omega,Int.add_mul,Int.one_mul]
  omega
theorem Wi:∀ (a:List Int),(∀ x∈a,0 <= x) -> 0 <= sm a
 | [],_=>by simp [sm]
 | x::a,h=>by
  have h1:=h x List.mem_cons_self
  have h2:=Wi a (fun y hy=>h y (List.mem_cons_of_mem _ hy))
  rw [sm];omega
theorem Wj {k:Nat} {l:List Int} (hl:l.length <= 900) (hb:∀ x∈l,0 <= x):∀ (m i j:Nat) (s:Int),i+m=l.length -> m<j -> 0 <= s -> s+sm (l.drop i) <= 9223372036854775807 -> Xc k j s l (l.length:Int) i=some ((s+sm (l.drop i),()),())
 | 0,i,j,s,h,hj,h0,h1=>by
  obtain ⟨j',rfl⟩:∃ j',j=j'+1:=⟨j - 1,by omega⟩
  rw [ZG,Xb,Sd (by omega),drop_nil (by omega),sm,Int.add_zero]
 | m+1,i,j,s,h,hj,h0,h1=>by
  obtain ⟨j',rfl⟩:∃ j',j=j'+1:=⟨j - 1,by omega⟩
  have hx:=hb _ (jm (z:=0) (l:=l) (i:=i) (by omega))
  have hr:=Wi (l.drop (i+1)) (fun x hx=>hb x (List.mem_of_mem_drop hx))
  rw [drop_cons 0 (show i<l.length by omega),sm] at h1 ⊢
  rw [ZG,Xb,Sc (by omega),Qo (by omega),Qp,afw k h0 hx (by omega),Option.bind_some,Mi (by omega)]
  dsimp only
  rw [Wj hl hb m (i+1) j' _ (by omega) (by omega) (by omega) (by omega)]
  congr 3;omega
theorem ami {k:Nat} (hk:1000 <= k) {l:List Int} (hl:l.length <= 900) (hb:∀ x∈l,0 <= x) (hs:sm l <= 9223372036854775807):ZH k l=some ((sm l,()),()):=by
 unfold ZH
 have:=Wj (k:=k) hl hb l.length 0 k 0 (by omega) (by omega) (by omega) (by rw [List.drop_zero];omega)
 rw [List.drop_zero,Int.zero_add] at this
 exact this
def cg (l:List I4) (ts ps:List Int):Nat -> Nat -> Int -> List (Int×Int) -> Int -> Int×List (Int×Int)
 | 0,_,c1,c2,_=>(c1,c2)
 | m+1,i,c1,c2,p =>
  if (l.getD i i0).1=11 \/ (l.getD i i0).1=0 then cg l ts ps m (i+1) (max c1 (p+ts.getD i 0)) c2 0
  else if (l.getD i i0).1=9 then cg l ts ps m (i+1) c1 (c2++[((l.getD i i0).2.1,Int.tdiv (sm (sub ts ((i+1:Nat):Int) (ps.getD i 0+1))) (ts.getD i 0))]) (p+ts.getD i 0)
  else cg l ts ps m (i+1) c1 c2 (p+ts.getD i 0)
def afz (l:List I4) (ps:List Int):Int×Int×List (Int×Int):=(sm (tms l),cg l (tms l) ps l.length 0 0 [] 0)
theorem aj3 {xs:List Int} {f i:Nat} (hf:f <= i) (hi:i<xs.length):sub xs (f:Int) ((i+1:Nat):Int)=sub xs (f:Int) (i:Int)++[xs.getD i 0]:=by
 simp only [sub,Int.toNat_natCast]
 have:xs.take (i+1)=xs.take i++[xs.getD i 0]:=by rw [List.take_add_one,getD_in hi,List.getElem?_eq_getElem hi];rfl
 rw [this,List.drop_append_of_le_length (by rw [List.length_take];omega)]
theorem afA {xs:List Int} {a b:Int} {x:Int} (h:x∈sub xs a b):x∈xs:=List.mem_of_mem_take (List.mem_of_mem_drop h)
theorem afB {xs:List Int} {a b:Int}:(sub xs a b).length <= xs.length:=by
 simp only [sub,List.length_drop,List.length_take];omega
theorem afC {l:List I4} {ps:List Int} (g:CO l ps):∀ x∈tms l,1 <= x /\ x <= 400:=fun x hx=>by
 obtain ⟨j,hj,rfl⟩:=u7 0 hx
 exact Wd g (by rw [zf] at hj;exact hj)
theorem acr {l:List I4} {ps:List Int} (g:CO l ps) (a b:Int):0 <= sm (sub (tms l) a b) /\ sm (sub (tms l) a b) <= 9600:=by
 have:=abb (c:=400) (sub (tms l) a b) (fun x hx=>by have:=afC g x (afA hx);omega)
 have h2:(sub (tms l) a b).length <= l.length:=by rw [<- zf l];exact afB
 have h3:=g.len2
 refine ⟨this.1,?_⟩
 have h4:((sub (tms l) a b).length:Int) * 400 <= 24 * 400:=Int.mul_le_mul_of_nonneg_right (by omega) (by omega)
 omega
theorem LZ {k:Nat} (hk:1000 <= k) {l:List I4} {ps:List Int} (g:CO l ps) (a b:Int):ZH k (sub (tms l) a b)=some ((sm (sub (tms l) a b),()),()):=by
 have h2:(sub (tms l) a b).length <= l.length:=by rw [<- zf l];exact afB
 have h3:=g.len2
 have h4:=acr g a b
 exact ami hk (by omega) (fun x hx=>by have:=afC g x (afA hx);omega) (by omega)
theorem amj {l:List I4} {ps:List Int} (g:CO l ps) {i:Nat} (hi:i<l.length) (h9:(l.getD i i0).1=9):∃ u:Nat,ps.getD i 0=(u:Int) /\ i<u /\ u<l.length:=by
 obtain ⟨u,h1,h2,h3,_⟩:=(Yq g.pairs).closed i hi h9 (by simp)
 exact ⟨u,h1,h2,h3⟩
theorem J5 {k:Nat} (hk:1000 <= k) {l:List I4} {ps:List Int} (g:CO l ps) {c:Int}:∀ (m i j f:Nat) (c1:Int) (c2:List (Int×Int)),i+m=l.length -> m<j -> f <= i -> c2.length <= i ->
  RV k j c c1 c2 (tms l) (f:Int) ps l (l.length:Int) (i:Int)=some (((c,cg l (tms l) ps m i c1 c2 (sm (sub (tms l) f i))),true,()),())
 | 0,i,j,f,c1,c2,h,hj,hf,hc=>by
  obtain ⟨j',rfl⟩:∃ j',j=j'+1:=⟨j - 1,by omega⟩
  rw [ZI,Xd,Sd (by omega),cg]
 | m+1,i,j,f,c1,c2,h,hj,hf,hc=>by
  obtain ⟨j',rfl⟩:∃ j',j=j'+1:=⟨j - 1,by omega⟩
  have hl2:=g.len2
  have htl:=zf l
  have hpl:=QW g.pairs
  have hi:i<l.length:=by omega
  have hsn:sm (sub (tms l) (f:Int) ((i+1:Nat):Int))=sm (sub (tms l) f i)+(tms l).getD i 0:=by rw [aj3 hf (by omega),KE,sm,sm];omega
  have h0:sm (sub (tms l) ((i+1:Nat):Int) ((i+1:Nat):Int))=0:=by
   have:sub (tms l) ((i+1:Nat):Int) ((i+1:Nat):Int)=[]:=by simp [sub]
   rw [this];rfl
  rw [ZI,Xd,Sc (by omega),Qo hi,Qp,Mi (by omega),cg]
  have mark:RV k j' c (mx c1 (sm (sub (tms l) (f:Int) ((i+1:Nat):Int)))) c2 (tms l) ((i+1:Nat):Int) ps l (l.length:Int) ((i+1:Nat):Int)=some (((c,cg l (tms l) ps m (i+1) (max c1 (sm (sub (tms l) f i)+(tms l).getD i 0)) c2 0),true,()),()):=by
   rw [J5 hk g m (i+1) j' (i+1) _ _ (by omega) (by omega) (by omega) (by omega),h0,hsn,Si]
  cases h11:(l.getD i i0).1==11 with
  | true =>
   have e:=eq_of_beq h11
   rw [if_pos (.inl e),cond_true,Rx (by omega) (by omega) (by omega),LZ hk g,Option.bind_some]
   exact mark
  | false =>
   rw [cond_false]
   have e11:(l.getD i i0).1≠11:=by intro e;rw [e] at h11;cases h11
   cases h00:(l.getD i i0).1==0 with
   | true =>
    have e:=eq_of_beq h00
    rw [if_pos (.inr e),cond_true,Rx (by omega) (by omega) (by omega),LZ hk g,Option.bind_some]
    exact mark
   | false =>
    rw [cond_false]
    have e00:(l.getD i i0).1≠0:=by intro e;rw [e] at h00;cases h00
    rw [if_neg (by rintro (h | h);exact e11 h;exact e00 h)]
    cases h9:(l.getD i i0).1==9 with
    | true =>
     have e:=eq_of_beq h9
     obtain ⟨u,h1,h2,h3⟩:=amj g hi e
     have ht:=Wd g hi
     rw [if_pos e,cond_true,Qo (by omega),Qp,h1,Mi (by omega),Rx (by omega) (by omega) (by omega),LZ hk g,Option.bind_some]
     dsimp only
     rw [Qo (by omega),Qp,Sb (by omega),Rz (by simp only [List.length_cons,List.length_nil];omega)]
     have hs:=acr g ((i+1:Nat):Int) ((u+1:Nat):Int)
     have hd:0 <= Int.tdiv (sm (sub (tms l) ((i+1:Nat):Int) ((u+1:Nat):Int))) ((tms l).getD i 0) /\ Int.tdiv (sm (sub (tms l) ((i+1:Nat):Int) ((u+1:Nat):Int))) ((tms l).getD i 0) <= 9600:=by
      rw [Int.tdiv_eq_ediv_of_nonneg hs.1]
      exact ⟨Int.ediv_nonneg hs.1 (by omega),Int.le_trans (Int.ediv_le_self _ hs.1) hs.2⟩
     rw [Uu (by omega) (by omega),J5 hk g m (i+1) j' f _ _ (by omega) (by omega) (by omega) (by simp only [List.length_append,List.length_cons,List.length_nil];omega),hsn,show ((u:Int)+1)=((u+1:Nat):Int) by omega]
    | false =>
     have e9:(l.getD i i0).1≠9:=by intro e;rw [e] at h9;cases h9
     rw [cond_false,if_neg e9,J5 hk g m (i+1) j' f _ _ (by omega) (by omega) (by omega) (by omega),hsn]
theorem afD (l:List Int):sub l ((0:Nat):Int) (l.length:Int)=l:=by simp [sub]
def aoa (l:List I4) (c:Option (Int×Int×List (Int×Int))):Option (((Int×Int×List (Int×Int))×Bool×Unit)×Unit):=match c with | some c=>some ((c,true,()),()) | none=>some (((0,0,[]),false,()),())
noncomputable def AB (l:List I4):Option (Int×Int×List (Int×Int)):=if yw l=true then some (afz l ((prs l).getD [])) else none
theorem PO {l:List I4} {ps:List Int} (g:CO l ps):AB l=some (afz l ps):=by
 unfold AB;rw [if_pos (LX.2 ⟨ps,g⟩),g.pairs];rfl
theorem Yt {k:Nat} (hk:1000 <= k) {l:List I4} (hl:l.length <= 900):agx k l=aoa l (AB l):=by
 unfold agx
 rw [Yl hk hl,Option.bind_some]
 cases hm:yw l with
 | false =>
  have:AB l=none:=by unfold AB;rw [hm];rfl
  rw [this];rfl
 | true =>
  obtain ⟨ps,g⟩:=LX.1 hm
  have hl2:=g.len2
  simp only [Bool.not_true,cond_false]
  rw [amh hk g,Option.bind_some,afq hk g.len2,g.pairs]
  simp only [afo,Option.bind_some]
  have h1:=LZ hk g ((0:Nat):Int) ((tms l).length:Int)
  rw [afD] at h1
  rw [h1,Option.bind_some,PO g]
  have:=J5 hk g (c:=sm (tms l)) l.length 0 k 0 0 [] (by omega) (by omega) (by omega) (by simp)
  have h0:sm (sub (tms l) ((0:Nat):Int) ((0:Nat):Int))=0:=by simp [sub,sm]
  rw [h0] at this
  exact this
theorem Yu {l:List I4} {ts ps:List Int}:∀ (m i:Nat) (c1 p:Int) (c2:List (Int×Int)),(cg l ts ps m i c1 c2 p).2.length <= c2.length+m
 | 0,_,_,_,c2=>by simp [cg]
 | m+1,i,c1,p,c2=>by
  rw [cg]
  split
  ·have:=Yu (l:=l) (ts:=ts) (ps:=ps) m (i+1) (max c1 (p+ts.getD i 0)) 0 c2;omega
  ·split
   ·have:=Yu (l:=l) (ts:=ts) (ps:=ps) m (i+1) c1 (p+ts.getD i 0) (c2++[((l.getD i i0).2.1,Int.tdiv (sm (sub ts ((i+1:Nat):Int) (ps.getD i 0+1))) (ts.getD i 0))])
    simp only [List.length_append,List.length_cons,List.length_nil] at this;omega
   ·have:=Yu (l:=l) (ts:=ts) (ps:=ps) m (i+1) c1 (p+ts.getD i 0) c2;omega
theorem acs {l:List I4} {c:Int×Int×List (Int×Int)} (h:AB l=some c):c.2.2.length <= 24:=by
 unfold AB at h
 split at h
 ·rename_i hm
  injection h with h;subst h
  obtain ⟨ps,g⟩:=LX.1 hm
  have h1:=g.len2
  have h2:=Yu (l:=l) (ts:=tms l) (ps:=(prs l).getD []) l.length 0 0 0 []
  simp only [afz]
  simp only [List.length_nil] at h2
  omega
 ·cases h
def BA (x:I4):Int:=if x.1=8 then x.2.2.2 else 1
theorem J6 {x:I4} (h:l5 x=true):1 <= BA x /\ BA x <= 20:=by
 unfold BA
 split
 ·rename_i e;exact (acp h e).2.2
 ·omega
namespace Tr
def cost:Tr -> Int
 | .nil=>0
 | .one _ r=>1+cost r
 | .lk _ b r=>2+cost b+cost r
 | .ar x b r=>1+BA x * cost b+cost r
def ts:Int -> Tr -> List Int
 | _,.nil=>[]
 | M,.one _ r=>M::ts M r
 | M,.lk _ b r=>M::(ts M b++(M::ts M r))
 | M,.ar x b r=>M::(ts (M * BA x) b++ts M r)
def spans:Tr -> List (Int×Int)
 | .nil=>[]
 | .one _ r=>spans r
 | .lk a b r=>(a,cost b+1)::(spans b++spans r)
 | .ar _ b r=>spans b++spans r
def piece:Int -> Tr -> Int×Int -> Int×Int
 | _,.nil,s=>s
 | M,.one x r,s=>piece M r (if x.1=11 then (max s.1 (s.2+M),0) else (s.1,s.2+M))
 | M,.lk _ b r,s=>piece M r ((piece M b (s.1,s.2+M)).1,(piece M b (s.1,s.2+M)).2+M)
 | M,.ar x b r,s=>piece M r (piece (M * BA x) b (s.1,s.2+M))
end Tr
theorem qw:∀ (t:Tr) (M:Int),(t.ts M).length=t.len
 | .nil,_=>rfl
 | .one _ r,M=>by simp only [Tr.ts,Tr.len,List.length_cons,qw r]
 | .lk _ b r,M=>by simp only [Tr.ts,Tr.len,List.length_cons,List.length_append,qw b,qw r];omega
 | .ar _ b r,M=>by simp only [Tr.ts,Tr.len,List.length_cons,List.length_append,qw b,qw r]
theorem H8:∀ (t:Tr) (M:Int),sm (t.ts M)=M * t.cost
 | .nil,M=>by simp [Tr.ts,Tr.cost,sm]
 | .one _ r,M=>by simp only [Tr.ts,Tr.cost,sm,H8 r M];grind
 | .lk _ b r,M=>by simp only [Tr.ts,Tr.cost,sm,KE,H8 b M,H8 r M];grind
 | .ar x b r,M=>by simp only [Tr.ts,Tr.cost,sm,KE,H8 b,H8 r M];grind
theorem kr:∀ {t:Tr} {d:Nat} {hs:List Int} {ia:Bool},Ok d hs ia t -> 0 <= t.cost
 | .nil,_,_,_,_=>by simp [Tr.cost]
 | .one x r,_,_,_,⟨_,_,_,h4⟩=>by have:=kr h4;simp only [Tr.cost];omega
 | .lk a b r,_,_,_,⟨_,_,h3,h4⟩=>by have:=kr h3;have:=kr h4;simp only [Tr.cost];omega
 | .ar x b r,_,_,_,⟨h1,_,h3,h4⟩=>by
  have h5:=kr h3;have:=kr h4
  have:=Int.mul_nonneg (show 0 <= BA x by have:=J6 h1.1;omega) h5
  simp only [Tr.cost];omega
theorem EB:∀ {t:Tr} {d:Nat} {hs:List Int} {ia:Bool} {l:List I4} {o:Nat} (M:Int),Ok d hs ia t -> At l o t.flat -> o+t.len <= 9000 -> ∀ j,j<t.len -> KZ l ((o+j:Nat):Int) (ny o t.flat) M=(t.ts M).getD j 0
 | .nil,_,_,_,_,_,_,_,_,_,j,hj=>by simp only [Tr.len] at hj;omega
 | .one x r,_,_,_,l,o,M,⟨h1,h2,_,h4⟩,ha,ho,j,hj=>by
  simp only [Tr.len] at hj ho
  obtain ⟨a1,a2,a3⟩:=mq ha
  rw [QZ h1 h2 (by omega),Tr.ts]
  cases j with
  | zero =>
   rw [List.getD_cons_zero,CP]
   intro p hp
   have:=qo h4 (by omega) p hp
   rw [<- Bool.not_eq_true,o8];omega
  | succ j =>
   rw [List.getD_cons_succ,<- EB M h4 a3 (by omega) j (by omega)]
   congr 2;omega
 | .lk a b r,_,_,_,l,o,M,⟨h1,_,h3,h4⟩,ha,ho,j,hj=>by
  simp only [Tr.len] at hj ho
  obtain ⟨a1,a2,a3⟩:=mq ha
  obtain ⟨a4,a5⟩:=A9 a3
  obtain ⟨a6,a7,a8⟩:=mq a5
  rw [jv] at a6 a7 a8
  rw [show o+1+b.len+1=o+b.len+2 by omega] at a8
  have nb:∀ k:Nat,k <= o \/ o+b.len+1 <= k -> ∀ M',KZ l (k:Int) (ny (o+1) b.flat) M'=M':=fun k hk M'=>CP l _ _ _ (fun p hp=>by
   have:=qo h3 (by omega) p hp
   rw [<- Bool.not_eq_true,o8];omega)
  have nr:∀ k:Nat,k <= o+b.len+2 -> ∀ M',KZ l (k:Int) (ny (o+b.len+2) r.flat) M'=M':=fun k hk M'=>CP l _ _ _ (fun p hp=>by
   have:=qo h4 (by omega) p hp
   rw [<- Bool.not_eq_true,o8];omega)
  rw [Ym h1 (by omega),J4,Tr.ts]
  cases j with
  | zero=>rw [List.getD_cons_zero,nb _ (by omega),nr _ (by omega)]
  | succ j =>
   rw [List.getD_cons_succ]
   by_cases e:j<b.len
   ·rw [ow (by rw [qw];exact e),nr _ (by omega),<- EB M h3 a4 (by omega) j e]
    congr 2;omega
   ·rw [lg (by rw [qw];omega),qw,nb _ (by omega)]
    by_cases e2:j=b.len
    ·subst e2;rw [Nat.sub_self,List.getD_cons_zero,nr _ (by omega)]
    ·obtain ⟨n,hn⟩:∃ n,j - b.len=n+1:=⟨j - b.len - 1,by omega⟩
     rw [hn,List.getD_cons_succ,<- EB M h4 a8 (by omega) n (by omega)]
     congr 2;omega
 | .ar x b r,_,_,_,l,o,M,⟨⟨h1,h2,h3⟩,_,h5,h6⟩,ha,ho,j,hj=>by
  simp only [Tr.len] at hj ho
  obtain ⟨a1,a2,a3⟩:=mq ha
  obtain ⟨a4,a5⟩:=A9 a3
  rw [jv,show o+1+b.len=o+b.len+1 by omega] at a5
  have nb:∀ k:Nat,k <= o \/ o+b.len+1 <= k -> ∀ M',KZ l (k:Int) (ny (o+1) b.flat) M'=M':=fun k hk M'=>CP l _ _ _ (fun p hp=>by
   have:=qo h5 (by omega) p hp
   rw [<- Bool.not_eq_true,o8];omega)
  have nr:∀ k:Nat,k <= o+b.len+1 -> ∀ M',KZ l (k:Int) (ny (o+b.len+1) r.flat) M'=M':=fun k hk M'=>CP l _ _ _ (fun p hp=>by
   have:=qo h6 (by omega) p hp
   rw [<- Bool.not_eq_true,o8];omega)
  have hd:∀ k:Nat,KZ l (k:Int) [ni o x] M=if o<k /\ k <= o+b.len then M * BA x else M:=fun k=>by
   rw [KZ,KZ]
   have e4:(ni o x).2.2.1=(o:Int):=rfl
   have e5:(ni o x).2.2.2=(x.1==8):=rfl
   rw [e4,Qp,a2,e5]
   unfold BA
   by_cases h8:x.1=8
   ·rw [if_pos h8,show (x.1==8)=true by rw [h8];rfl,Bool.true_and]
    by_cases e:o<k /\ k <= o+b.len
    ·rw [if_pos e,show o9 (ni o x) (k:Int)=true by rw [o8];simp only [ni];omega];rfl
    ·rw [if_neg e,show o9 (ni o x) (k:Int)=false by rw [<- Bool.not_eq_true,o8];simp only [ni];omega];rfl
   ·rw [if_neg h8,show (x.1==8)=false by simpa using h8,Bool.false_and,Int.mul_one];simp
  rw [Yn h1 h2 (by omega),show ∀ a:fq,∀ l,a::l=[a]++l from fun _ _=>rfl,J4,J4,hd,Tr.ts]
  cases j with
  | zero=>rw [List.getD_cons_zero,if_neg (by omega),nb _ (by omega),nr _ (by omega)]
  | succ j =>
   rw [List.getD_cons_succ]
   by_cases e:j<b.len
   ·rw [ow (by rw [qw];exact e),if_pos (by omega),nr _ (by omega),<- EB _ h5 a4 (by omega) j e]
    congr 2;omega
   ·rw [lg (by rw [qw];omega),qw,if_neg (by omega),nb _ (by omega),<- EB M h6 a5 (by omega) (j - b.len) (by omega)]
    congr 2;omega
theorem abd {t:Tr} (h:Ok 0 [] false t) (hl:t.len<24):tms t.prog=t.ts 1++[1]:=by
 have hpl:=xw t
 apply List.ext_getElem (by rw [zf,List.length_append,qw];simp;omega)
 intro n h1 h2
 rw [zf] at h1
 rw [<- getD_in (z:=0) (by rw [zf];exact h1),<- getD_in (z:=0) h2,Yr h1,aa2 (by omega)]
 by_cases e:n<t.len
 ·rw [ow (by rw [qw];exact e),<- EB (o:=0) 1 h (J3 t) (by omega) n e,Nat.zero_add]
 ·have:n=t.len:=by omega
  subst this
  rw [lg (by rw [qw];omega),qw,Nat.sub_self]
  exact CP _ _ _ _ (fun p hp=>by
   have:=qo (o:=0) h (by omega) p hp
   rw [<- Bool.not_eq_true,o8];omega)
def Yv (ps:List Int):Tr -> Nat -> Prop
 | .nil,_=>True
 | .one _ r,o=>Yv ps r (o+1)
 | .lk _ b r,o=>ps.getD o 0=((o+b.len+1:Nat):Int) /\ Yv ps b (o+1) /\ Yv ps r (o+b.len+2)
 | .ar _ b r,o=>Yv ps b (o+1) /\ Yv ps r (o+b.len+1)
theorem yg {ps qs:List Int}:∀ (t:Tr) (o:Nat),(∀ k,o <= k -> k<o+t.len -> ps.getD k 0=qs.getD k 0) -> Yv ps t o -> Yv qs t o
 | .nil,_,_,_=>trivial
 | .one _ r,o,h,hp=>yg r (o+1) (fun k h1 h2=>h k (by omega) (by simp only [Tr.len];omega)) hp
 | .lk _ b r,o,h,⟨h1,h2,h3⟩=>⟨by rw [<- h o (by omega) (by simp only [Tr.len];omega)];exact h1,yg b (o+1) (fun k g1 g2=>h k (by omega) (by simp only [Tr.len];omega)) h2,yg r (o+b.len+2) (fun k g1 g2=>h k (by omega) (by simp only [Tr.len];omega)) h3⟩
 | .ar _ b r,o,h,⟨h2,h3⟩=>⟨yg b (o+1) (fun k g1 g2=>h k (by omega) (by simp only [Tr.len];omega)) h2,yg r (o+b.len+1) (fun k g1 g2=>h k (by omega) (by simp only [Tr.len];omega)) h3⟩
theorem EC:∀ (t:Tr) (o:Nat) (out:List Int),o+t.len <= out.length -> Yv (GH t o out) t o
 | .nil,_,_,_=>trivial
 | .one _ r,o,out,h=>EC r (o+1) out (by simp only [Tr.len] at h;omega)
 | .lk a b r,o,out,h=>by
  simp only [Tr.len] at h
  rw [GH]
  have hb:=F6 b (o+1) out
  refine ⟨?_,?_,EC r _ _ (by rw [List.length_set];omega)⟩
  ·rw [ze r _ _ o (by omega),mh,if_pos ⟨rfl,by omega⟩]
  ·refine yg b (o+1) (fun k h1 h2=>?_) (EC b (o+1) out (by omega))
   rw [ze r _ _ k (by omega),mh,if_neg (by omega)]
 | .ar x b r,o,out,h=>by
  simp only [Tr.len] at h
  rw [GH]
  have hb:=F6 b (o+1) out
  refine ⟨?_,EC r _ _ (by omega)⟩
  refine yg b (o+1) (fun k h1 h2=>?_) (EC b (o+1) out (by omega))
  rw [ze r _ _ k (by omega)]
def AtI (l:List Int) (o:Nat) (w:List Int):Prop:=o+w.length <= l.length /\ ∀ j,j<w.length -> l.getD (o+j) 0=w.getD j 0
theorem M0 {l:List Int} {o:Nat} {x:Int} {w:List Int} (h:AtI l o (x::w)):o<l.length /\ l.getD o 0=x /\ AtI l (o+1) w:=by
 obtain ⟨h1,h2⟩:=h
 simp only [List.length_cons] at h1 h2
 refine ⟨by omega,by simpa using h2 0 (by omega),by omega,fun j hj=>?_⟩
 have:=h2 (j+1) (by omega)
 rw [List.getD_cons_succ] at this
 rw [<- this];congr 1;omega
theorem afE {l:List Int} {o:Nat} {u w:List Int} (h:AtI l o (u++w)):AtI l o u /\ AtI l (o+u.length) w:=by
 obtain ⟨h1,h2⟩:=h
 simp only [List.length_append] at h1 h2
 refine ⟨⟨by omega,fun j hj=>?_⟩,by omega,fun j hj=>?_⟩
 ·rw [h2 j (by omega),ow hj]
 ·rw [show o+u.length+j=o+(u.length+j) by omega,h2 _ (by omega),lg (by omega)]
  congr 1;omega
theorem aml {l w:List Int} {o:Nat} (h:AtI l o w):sub l (o:Int) ((o+w.length:Nat):Int)=w:=by
 obtain ⟨h1,h2⟩:=h
 simp only [sub,Int.toNat_natCast]
 apply List.ext_getElem (by rw [List.length_drop,List.length_take];omega)
 intro n g1 g2
 rw [List.getElem_drop,List.getElem_take]
 have:=h2 n g2
 rw [getD_in (by omega),getD_in g2] at this
 exact this
theorem FC:∀ {t:Tr} {d:Nat} {hs:List Int} {ia:Bool} {l:List I4} {ts ps:List Int} {o:Nat} {M:Int} (m:Nat) (c1 p:Int) (c2:List (Int×Int)),Ok d hs ia t -> At l o t.flat -> AtI ts o (t.ts M) -> Yv ps t o -> 1 <= M ->
  cg l ts ps (t.len+m) o c1 c2 p=cg l ts ps m (o+t.len) (t.piece M (c1,p)).1 (c2++t.spans) (t.piece M (c1,p)).2
 | .nil,_,_,_,_,_,_,_,_,m,c1,p,c2,_,_,_,_,_=>by simp only [Tr.len,Nat.zero_add,Nat.add_zero,Tr.piece,Tr.spans,List.append_nil]
 | .one x r,_,_,_,l,ts,ps,o,M,m,c1,p,c2,⟨h1,h2,_,h4⟩,ha,ht,hp,hM=>by
  simp only [Tr.len,Tr.ts] at ht ⊢
  obtain ⟨a1,a2,a3⟩:=mq ha
  obtain ⟨t1,t2,t3⟩:=M0 ht
  rw [show r.len+1+m=(r.len+m)+1 by omega,cg,a2,t2,Tr.spans,Tr.piece]
  by_cases e:x.1=11
  ·rw [if_pos (.inl e),if_pos e,FC m _ _ _ h4 a3 t3 hp hM]
   congr 1;omega
  ·rw [if_neg (by rintro (q | q);exact e q;exact h2.1 q),if_neg h2.2.2.2.1,if_neg e,FC m _ _ _ h4 a3 t3 hp hM]
   congr 1;omega
 | .lk a b r,_,_,_,l,ts,ps,o,M,m,c1,p,c2,⟨h1,_,h3,h4⟩,ha,ht,⟨p1,p2,p3⟩,hM=>by
  simp only [Tr.len,Tr.ts] at ht ⊢
  obtain ⟨a1,a2,a3⟩:=mq ha
  obtain ⟨a4,a5⟩:=A9 a3
  obtain ⟨a6,a7,a8⟩:=mq a5
  obtain ⟨t1,t2,t3⟩:=M0 ht
  obtain ⟨t4,t5⟩:=afE t3
  obtain ⟨t6,t7,t8⟩:=M0 t5
  rw [jv] at a6 a7 a8
  rw [qw] at t6 t7 t8
  have hsub:sub ts ((o+1:Nat):Int) (ps.getD o 0+1)=b.ts M++[M]:=by
   have:AtI ts (o+1) (b.ts M++[M]):=by
    obtain ⟨q1,q2⟩:=t3
    refine ⟨by simp only [List.length_append,List.length_cons,List.length_nil] at q1 ⊢;omega,fun j hj=>?_⟩
    simp only [List.length_append,List.length_cons,List.length_nil] at hj
    rw [q2 j (by simp only [List.length_append,List.length_cons];omega)]
    by_cases e:j<(b.ts M).length
    ·rw [ow e,ow e]
    ·rw [lg (by omega),lg (by omega),show j - (b.ts M).length=0 by omega];rfl
   have h:=aml this
   rw [List.length_append,qw] at h
   rw [p1,<- h]
   congr 1
   simp only [List.length_cons,List.length_nil];omega
  have hc:=kr h3
  have hdiv:Int.tdiv (M * b.cost+M) M=b.cost+1:=by
   rw [show M * b.cost+M=M * (b.cost+1) by grind,Int.mul_tdiv_cancel_left _ (by omega)]
  rw [show b.len+r.len+2+m=(b.len+(r.len+m+1))+1 by omega,cg,a2,t2,if_neg (by simp),if_pos rfl,hsub,KE,H8,sm,sm,Int.add_zero,hdiv]
  rw [FC (r.len+m+1) _ _ _ h3 a4 t4 p2 hM,cg,a7,t7,if_neg (by simp),if_neg (by simp)]
  rw [show o+1+b.len+1=o+b.len+2 by omega] at a8 t8 ⊢
  rw [FC m _ _ _ h4 a8 t8 p3 hM,Tr.spans,Tr.piece]
  congr 1
  ·omega
  ·simp only [List.append_assoc,List.cons_append,List.nil_append]
 | .ar x b r,_,_,_,l,ts,ps,o,M,m,c1,p,c2,⟨⟨h1,h2,h3⟩,_,h5,h6⟩,ha,ht,⟨p2,p3⟩,hM=>by
  simp only [Tr.len,Tr.ts] at ht ⊢
  obtain ⟨a1,a2,a3⟩:=mq ha
  obtain ⟨a4,a5⟩:=A9 a3
  obtain ⟨t1,t2,t3⟩:=M0 ht
  obtain ⟨t4,t5⟩:=afE t3
  rw [jv,show o+1+b.len=o+b.len+1 by omega] at a5
  rw [qw,show o+1+b.len=o+b.len+1 by omega] at t5
  have e11:¬ (x.1=11 \/ x.1=0):=by rintro (e | e) <;> simp [isA,e] at h2
  have e9:x.1≠9:=by intro e;simp [isA,e] at h2
  have hM2:1 * 1 <= M * BA x:=Int.mul_le_mul hM (J6 h1).1 (by omega) (by omega)
  rw [show b.len+r.len+1+m=(b.len+(r.len+m))+1 by omega,cg,a2,t2,if_neg e11,if_neg e9,FC (r.len+m) _ _ _ h5 a4 t4 p2 (by omega)]
  rw [show o+1+b.len=o+b.len+1 by omega,FC m _ _ _ h6 a5 t5 p3 hM,Tr.spans,Tr.piece]
  congr 1
  ·omega
  ·rw [List.append_assoc]
theorem agT {t:Tr} (h:Ok 0 [] false t) (hl:t.len<24):AB t.prog=some (t.cost+1,max (t.piece 1 (0,0)).1 ((t.piece 1 (0,0)).2+1),t.spans):=by
 have g:=VY h hl
 have ht:=abd h hl
 rw [PO g]
 unfold afz
 have hA:AtI (tms t.prog) 0 (t.ts 1):=by
  rw [ht]
  exact ⟨by rw [List.length_append];omega,fun j hj=>by rw [Nat.zero_add,ow hj]⟩
 have h1:=FC (ts:=tms t.prog) (ps:=GH t 0 (List.replicate (t.len+1) 0)) (o:=0) (M:=1) 1 0 0 [] h (J3 t) hA (EC t 0 _ (by simp)) (by omega)
 rw [xw,h1,Nat.zero_add,cg,E9,if_pos (.inr rfl),cg,List.nil_append]
 have h2:sm (tms t.prog)=t.cost+1:=by rw [ht,KE,H8,sm,sm];omega
 have h3:(tms t.prog).getD t.len 0=1:=by
  rw [ht,lg (by rw [qw];omega),qw,Nat.sub_self];rfl
 rw [h2,h3]
theorem vg:∀ {t:Tr} {d:Nat} {hs:List Int} {ia:Bool} (M:Int) (s:Int×Int),Ok d hs ia t -> 1 <= M -> 0 <= s.1 -> 0 <= s.2 -> 0 <= (t.piece M s).1 /\ 0 <= (t.piece M s).2 /\ (t.piece M s).1 <= max s.1 (s.2+M * t.cost) /\ (t.piece M s).2 <= s.2+M * t.cost
 | .nil,_,_,_,M,s,_,_,h1,h2=>by simp only [Tr.piece,Tr.cost,Int.mul_zero];omega
 | .one x r,_,_,_,M,s,⟨_,_,_,h4⟩,hM,h1,h2=>by
  have hc:=Int.mul_nonneg (show 0 <= M by omega) (kr h4)
  rw [Tr.piece,Tr.cost,Int.mul_add,Int.mul_one]
  split
  ·have:=vg (t:=r) M (max s.1 (s.2+M),0) h4 hM (by simp only;omega) (by simp only;omega)
   simp only at this
   omega
  ·have:=vg (t:=r) M (s.1,s.2+M) h4 hM h1 (by simp only;omega)
   simp only at this
   omega
 | .lk a b r,_,_,_,M,s,⟨_,_,h3,h4⟩,hM,h1,h2=>by
  have hc:=Int.mul_nonneg (show 0 <= M by omega) (kr h4)
  have hcb:=Int.mul_nonneg (show 0 <= M by omega) (kr h3)
  rw [Tr.piece,Tr.cost,show M * (2+b.cost+r.cost)=M+M+M * b.cost+M * r.cost by grind]
  have q:=vg (t:=b) M (s.1,s.2+M) h3 hM h1 (by simp only;omega)
  simp only at q
  have:=vg (t:=r) M ((b.piece M (s.1,s.2+M)).1,(b.piece M (s.1,s.2+M)).2+M) h4 hM q.1 (by simp only;omega)
  simp only at this
  omega
 | .ar x b r,_,_,_,M,s,⟨hx,_,h3,h4⟩,hM,h1,h2=>by
  have hr:=J6 hx.1
  have hM2:1 * 1 <= M * BA x:=Int.mul_le_mul hM hr.1 (by omega) (by omega)
  have hc:=Int.mul_nonneg (show 0 <= M by omega) (kr h4)
  have hcb:=Int.mul_nonneg (show 0 <= M * BA x by omega) (kr h3)
  rw [Tr.piece,Tr.cost,show M * (1+BA x * b.cost+r.cost)=M+M * BA x * b.cost+M * r.cost by grind]
  have q:=vg (t:=b) (M * BA x) (s.1,s.2+M) h3 (by omega) h1 (by simp only;omega)
  simp only at q
  have:=vg (t:=r) M (b.piece (M * BA x) (s.1,s.2+M)) h4 hM q.1 q.2.1
  omega
theorem acu {t:Tr} (h:Ok 0 [] false t) (hl:t.len<24):0 <= t.cost /\ t.cost+1 <= 9600:=by
 have g:=VY h hl
 have hs:=acr g ((0:Nat):Int) ((tms t.prog).length:Int)
 rw [afD,abd h hl,KE,H8,sm,sm] at hs
 have:=kr h
 omega
def GI (v:Int):Prop:=-9223372036854775808 <= v /\ v <= 9223372036854775807
theorem FD (v:Int):GI (IntKind.i64.wrap v):=by
 unfold IntKind.wrap GI
 have e1:(2 ^ IntKind.i64.bits:Int)=18446744073709551616:=by decide
 have e2:(2 ^ (IntKind.i64.bits - 1):Int)=9223372036854775808:=by decide
 simp only [e1,e2,IntKind.signed,Bool.true_and,decide_eq_true_eq]
 split <;> omega
theorem TR (v:Int):∃ q:Int,IntKind.i64.wrap v=v+q * 18446744073709551616:=by
 unfold IntKind.wrap
 have e1:(2 ^ IntKind.i64.bits:Int)=18446744073709551616:=by decide
 have e2:(2 ^ (IntKind.i64.bits - 1):Int)=9223372036854775808:=by decide
 simp only [e1,e2,IntKind.signed,Bool.true_and,decide_eq_true_eq]
 split
 ·exact ⟨-(v / 18446744073709551616) - 1,by omega⟩
 ·exact ⟨-(v / 18446744073709551616),by omega⟩
theorem amm {v u:Int} (h:GI u) (q:Int) (e:u=v+q * 18446744073709551616):IntKind.i64.wrap v=u:=by
 obtain ⟨q2,h2⟩:=TR v
 have:=FD v
 unfold GI at *
 omega
def TS (v n:Int):Int:=if n=0 then v else if 0<n then IntKind.i64.wrap (v * 2 ^ n.toNat) else v.fdiv (2 ^ (-n).toNat)
def M4 (v n:Int):Int:=if (v % 2 ^ n.toNat) * 2≥2 ^ n.toNat then v % 2 ^ n.toNat - 2 ^ n.toNat else v % 2 ^ n.toNat
theorem Wm {n:Nat} (h:1 <= n):(2:Int) ^ n=2 * 2 ^ (n - 1):=by
 obtain ⟨m,rfl⟩:∃ m,n=m+1:=⟨n - 1,by omega⟩
 rw [Int.pow_succ,Nat.add_sub_cancel];omega
theorem aj4 {n:Nat} (h:n <= 64):(18446744073709551616:Int)=2 ^ n * 2 ^ (64 - n):=by
 rw [<- Int.pow_add,show n+(64 - n)=64 by omega];decide
abbrev gu:Type:=Int×Int×Int
abbrev Mem:Type:=PN Int 8
abbrev gy:Type:=Int×Mem×List gu×Bool
def mg (mem:Mem) (a:Int):Int:=Uq (α:=Int) 8 mem a 0
def inM (mem:Mem):Prop:=∀ x∈Gv 8 mem,GI x
theorem aob {mem:Mem} (h:inM mem) (a:Int):GI (mg mem a):=by
 unfold mg Uq
 by_cases e:a.toNat<(Gv 8 mem).length
 ·exact h _ (jm e)
 ·rw [LQ (by omega)];unfold GI;omega
theorem J7 {mem:Mem} (h:inM mem) {a v:Int} (ha:0 <= a) (hv:GI v):inM (Ur (α:=Int) 8 mem a v):=by
 obtain ⟨n,rfl⟩:∃ n:Nat,a=(n:Int):=⟨a.toNat,by omega⟩
 intro x hx
 rw [VK] at hx
 rcases List.mem_or_eq_of_mem_set hx with h1 | h1
 ·exact h x h1
 ·rw [h1];exact hv
def V5 (x:I4) (mem:Mem):Mem :=
 if x.1=1 then Ur (α:=Int) 8 mem x.2.1 x.2.2.2
 else if x.1=2 then Ur (α:=Int) 8 mem x.2.1 (IntKind.i64.wrap (mg mem x.2.1+mg mem x.2.2.1))
 else if x.1=3 then Ur (α:=Int) 8 mem x.2.1 (IntKind.i64.wrap (mg mem x.2.1 - mg mem x.2.2.1))
 else if x.1=4 then Ur (α:=Int) 8 mem x.2.1 (IntKind.i64.wrap (mg mem x.2.1 * mg mem x.2.2.1))
 else if x.1=5 then Ur (α:=Int) 8 mem x.2.1 (TS (mg mem x.2.1) x.2.2.2)
 else if x.1=6 then Ur (α:=Int) 8 mem x.2.1 (M4 (mg mem x.2.1) x.2.2.2)
 else mem
theorem aj6 {v n:Int} (h:GI v):GI (TS v n):=by
 unfold TS
 split
 ·exact h
 ·split
  ·exact FD _
  ·have p:(0:Int)<2 ^ (-n).toNat:=Int.pow_pos (by omega)
   unfold GI at *
   rw [Int.fdiv_eq_ediv_of_nonneg _ (by omega)]
   refine ⟨?_,?_⟩
   ·have h1:-9223372036854775808 * 2 ^ (-n).toNat <= v:=by
     have:(-9223372036854775808:Int) * 2 ^ (-n).toNat <= -9223372036854775808 * 1:=Int.mul_le_mul_of_nonpos_left (by omega) (by omega)
     omega
    exact Int.le_ediv_of_mul_le p h1
   ·by_cases hv:0 <= v
    ·exact Int.le_trans (Int.ediv_le_self _ hv) h.2
    ·have:=Int.ediv_neg_of_neg_of_pos (show v<0 by omega) p
     omega
theorem agU {v n:Int} (h1:1 <= n) (h2:n <= 64):GI (M4 v n):=by
 obtain ⟨m,rfl⟩:∃ m:Nat,n=(m:Int):=⟨n.toNat,by omega⟩
 unfold M4
 rw [Int.toNat_natCast]
 have hp0:(0:Int)<2 ^ m:=Int.pow_pos (by omega)
 have hh:=Wm (n:=m) (by omega)
 have hr0:=Int.emod_nonneg v (show (2:Int) ^ m≠0 by omega)
 have hr1:=Int.emod_lt_of_pos v hp0
 have hmax:(2:Int) ^ m <= 18446744073709551616:=by
  have:(2:Nat) ^ m <= 2 ^ 64:=Nat.pow_le_pow_right (by omega) (by omega)
  have h2:((2 ^ m:Nat):Int)=(2:Int) ^ m:=by simp
  have h3:(2:Nat) ^ 64=18446744073709551616:=by decide
  omega
 unfold GI
 split <;> omega
theorem afF {x:I4} (h:l5 x=true) (e:x.1=1):(0 <= x.2.1 /\ x.2.1<8) /\ x.2.2.1=0 /\ -2147483648 <= x.2.2.2 /\ x.2.2.2 <= 2147483647:=by
 simpa [l5,e,AY,DT] using h
theorem FE {x:I4} (h:l5 x=true) (e:x.1=2 \/ x.1=3 \/ x.1=4):(0 <= x.2.1 /\ x.2.1<8) /\ (0 <= x.2.2.1 /\ x.2.2.1<8) /\ x.2.2.2=0:=by
 rcases e with e | e | e <;> simpa [l5,e,AY,DT] using h
theorem O9 {x:I4} (h:l5 x=true) (e:x.1=5):(0 <= x.2.1 /\ x.2.1<8) /\ x.2.2.1=0 /\ -63 <= x.2.2.2 /\ x.2.2.2 <= 63:=by
 simpa [l5,e,AY,DT] using h
theorem KF {x:I4} (h:l5 x=true) (e:x.1=6):(0 <= x.2.1 /\ x.2.1<8) /\ x.2.2.1=0 /\ 1 <= x.2.2.2 /\ x.2.2.2 <= 64:=by
 simpa [l5,e,AY,DT] using h
theorem abe {x:I4} (h:l5 x=true) (e:x.1=7):(0 <= x.2.1 /\ x.2.1<8) /\ x.2.2.1=0 /\ 1 <= x.2.2.2 /\ x.2.2.2 <= 24:=by
 simpa [l5,e,AY,DT] using h
theorem aj7 {x:I4} {mem:Mem} (hx:l5 x=true) (h:inM mem):inM (V5 x mem):=by
 unfold V5
 split
 ·rename_i e;have:=afF hx e;exact J7 h this.1.1 (by unfold GI;omega)
 ·split
  ·rename_i e;exact J7 h (FE hx (.inl e)).1.1 (FD _)
  ·split
   ·rename_i e;exact J7 h (FE hx (.inr (.inl e))).1.1 (FD _)
   ·split
    ·rename_i e;exact J7 h (FE hx (.inr (.inr e))).1.1 (FD _)
    ·split
     ·rename_i e;exact J7 h (O9 hx e).1.1 (aj6 (aob h _))
     ·split
      ·rename_i e;have:=KF hx e;exact J7 h this.1.1 (agU this.2.2.1 this.2.2.2)
      ·exact h
def uh (pc:Int):List gu -> Int×List gu
 | []=>(pc,[])
 | r::rest=>if r.2.1<pc then (if r.2.2>0 then (r.1,(r.1,r.2.1,r.2.2 - 1)::rest) else uh pc rest) else (pc,r::rest)
def gU (x:I4) (pc:Int) (mem:Mem) (R:List gu):Int×List gu :=
 if x.1=0 then (pc,R)
 else if x.1=7 then (if mg mem x.2.1=0 then (pc+1+x.2.2.2,R) else (pc+1,R))
 else if x.1=8 then (pc+1,(pc+1,pc+x.2.2.1,x.2.2.2 - 1)::R)
 else (pc+1,R)
def go (x:I4) (pc:Int) (mem:Mem) (R:List gu):Int×List gu:=uh (gU x pc mem R).1 (gU x pc mem R).2
inductive Run (l:List I4):Nat -> Mem -> List gu -> List I4 -> Nat -> Mem -> List gu -> Prop
 | nil (n:Nat) (mem:Mem) (R:List gu):Run l n mem R [] n mem R
 | cons {n:Nat} {mem:Mem} {R:List gu} {x:I4} {n1:Nat} {R1:List gu} {tr:List I4} {n2:Nat} {mem2:Mem} {R2:List gu}:n<l.length -> l.getD n i0=x -> x.1≠0 -> R.length <= 2 -> (∀ r∈R,r.2.2 <= 1000) -> go x n mem R=((n1:Int),R1) -> (x.1=11 -> R1=[]) ->
   Run l n1 (V5 x mem) R1 tr n2 mem2 R2 -> Run l n mem R (x::tr) n2 mem2 R2
theorem Run.app {l:List I4} {n:Nat} {mem:Mem} {R:List gu} {t1:List I4} {n1:Nat} {mem1:Mem} {R1:List gu} {t2:List I4} {n2:Nat} {mem2:Mem} {R2:List gu} (h1:Run l n mem R t1 n1 mem1 R1) (h2:Run l n1 mem1 R1 t2 n2 mem2 R2):Run l n mem R (t1++t2) n2 mem2 R2:=by
 induction h1 with
 | nil=>exact h2
 | cons a b c d e f g _ ih=>exact .cons a b c d e f g (ih h2)
def rpt (f:Mem -> List I4×Mem):Nat -> Mem -> List I4×Mem
 | 0,m=>([],m)
 | n+1,m=>((f m).1++(rpt f n (f m).2).1,(rpt f n (f m).2).2)
def DF:Tr -> Mem -> List I4×Mem
 | .nil,m=>([],m)
 | .one x r,m=>(x::(DF r (V5 x m)).1,(DF r (V5 x m)).2)
 | .lk a b r,m=>((9,a,0,0)::((DF b m).1++((10,a,0,0)::(DF r (DF b m).2).1)),(DF r (DF b m).2).2)
 | .ar x b r,m =>
  let p:=if x.1=7 then (if mg m x.2.1=0 then ([],m) else DF b m) else rpt (DF b) x.2.2.2.toNat m
  (x::(p.1++(DF r p.2).1),(DF r p.2).2)
def AJ (l:List I4) (o:Nat) (mem:Mem) (R:List gu) (tr:List I4) (o2:Nat) (mem2:Mem) (R2:List gu):Prop :=
 ∀ (n1:Nat) (R1:List gu),uh (o:Int) R=((n1:Int),R1) -> ∃ (n2:Nat) (R3:List gu),uh (o2:Int) R2=((n2:Int),R3) /\ Run l n1 mem R1 tr n2 mem2 R3
theorem AJ.nil {l:List I4} {o:Nat} {mem:Mem} {R:List gu}:AJ l o mem R [] o mem R:=fun n1 R1 h=>⟨n1,R1,h,.nil _ _ _⟩
theorem AJ.app {l:List I4} {o:Nat} {mem:Mem} {R:List gu} {t1:List I4} {o1:Nat} {mem1:Mem} {R1:List gu} {t2:List I4} {o2:Nat} {mem2:Mem} {R2:List gu} (h1:AJ l o mem R t1 o1 mem1 R1) (h2:AJ l o1 mem1 R1 t2 o2 mem2 R2):AJ l o mem R (t1++t2) o2 mem2 R2:=fun n1 R3 h=>by
 obtain ⟨n2,R4,g1,g2⟩:=h1 n1 R3 h
 obtain ⟨n3,R5,g3,g4⟩:=h2 n2 R4 g1
 exact ⟨n3,R5,g3,g2.app g4⟩
def Cov (R:List gu) (e:Nat):Prop:=∀ r∈R.head?,(e:Int) <= r.2.1+1
theorem agW {R:List gu} {o:Nat} (h:Cov R (o+1)):uh (o:Int) R=((o:Int),R):=by
 cases R with
 | nil=>rfl
 | cons r R=>rw [uh,if_neg];have:=h r (by simp);omega
theorem AO {R:List gu} {a b:Nat} (h:Cov R a) (hb:b <= a):Cov R b:=fun r hr=>by have:=h r hr;omega
def Few (d:Nat) (ia:Bool) (R:List gu):Prop:=(R.length <= d /\ d <= 2) /\ (∀ r∈R,r.2.2 <= 1000) /\ (ia=false -> R=[]) /\ ∀ r∈R,0 <= r.1
theorem AJ.step {l:List I4} {o:Nat} {mem:Mem} {R:List gu} {x:I4} {o1:Nat} {R1:List gu} (hn:o<l.length) (hx:l.getD o i0=x) (h0:x.1≠0) (hR:R.length <= 2) (hb:∀ r∈R,r.2.2 <= 1000) (hc:Cov R (o+1)) (hnx:gU x o mem R=((o1:Int),R1)) (hm:x.1=11 -> (uh (o1:Int) R1).2=[]) (hpos:0 <= (uh (o1:Int) R1).1) :
  AJ l o mem R [x] o1 (V5 x mem) R1:=fun n1 R2 h=>by
 rw [agW hc] at h
 injection h with h1 h2
 subst h2
 have:n1=o:=by omega
 subst this
 refine ⟨(uh (o1:Int) R1).1.toNat,(uh (o1:Int) R1).2,?_,?_⟩
 ·exact Prod.ext (by simp only;omega) rfl
 ·refine .cons hn hx h0 hR hb ?_ hm (.nil _ _ _)
  unfold go
  rw [hnx]
  exact Prod.ext (by simp only;omega) rfl
theorem CQ:∀ {R:List gu} {pc:Int},0 <= pc -> (∀ r∈R,0 <= r.1) -> 0 <= (uh pc R).1
 | [],_,h,_=>h
 | r::R,pc,h,hr=>by
  rw [uh]
  split
  ·split
   ·exact hr r List.mem_cons_self
   ·exact CQ h (fun q hq=>hr q (List.mem_cons_of_mem _ hq))
  ·exact h
theorem AJ.congr {l:List I4} {o:Nat} {mem:Mem} {R:List gu} {tr:List I4} {o2:Nat} {mem2:Mem} {R2:List gu} {o3:Nat} {R3:List gu} (h:AJ l o mem R tr o2 mem2 R2) (e:uh (o2:Int) R2=uh (o3:Int) R3):AJ l o mem R tr o3 mem2 R3:=fun n1 R1 g=>by
 obtain ⟨n2,R4,g1,g2⟩:=h n1 R1 g
 exact ⟨n2,R4,by rw [<- e];exact g1,g2⟩
theorem afG {l:List I4} {o:Nat} {R:List gu} {b:Tr} (hlen:1 <= b.len)
  (hb:∀ (mem:Mem) (m:Nat),m <= 20 -> AJ l (o+1) mem ((((o+1:Nat):Int),((o+b.len:Nat):Int),(m:Int))::R) (DF b mem).1 (o+1+b.len) (DF b mem).2 ((((o+1:Nat):Int),((o+b.len:Nat):Int),(m:Int))::R)) :
  ∀ (m:Nat) (mem:Mem),m <= 20 -> AJ l (o+1) mem ((((o+1:Nat):Int),((o+b.len:Nat):Int),(m:Int))::R) (rpt (DF b) (m+1) mem).1 (o+1+b.len) (rpt (DF b) (m+1) mem).2 R
 | 0,mem,hm=>by
  have h1:=hb mem 0 hm
  have h2:=h1.congr (o3:=o+1+b.len) (R3:=R) (by rw [uh,if_pos (by simp only;omega),if_neg (by simp)])
  simp only [rpt,List.append_nil]
  exact h2
 | m+1,mem,hm=>by
  have h1:=hb mem (m+1) hm
  have h2:=h1.congr (o3:=o+1) (R3:=(((o+1:Nat):Int),((o+b.len:Nat):Int),(m:Int))::R) (by
   rw [uh,if_pos (by simp only;omega),if_pos (by simp only;omega),uh,if_neg (by simp only;omega)]
   simp only [Prod.mk.injEq,List.cons.injEq,true_and,and_true];omega)
  have h3:=afG hlen hb m (DF b mem).2 (by omega)
  have:=h2.app h3
  rw [rpt];exact this
theorem zh:∀ {t:Tr} {d:Nat} {hs:List Int} {ia:Bool} {l:List I4} {o:Nat} (mem:Mem) (R:List gu),Ok d hs ia t -> At l o t.flat -> Cov R (o+t.len) -> Few d ia R -> AJ l o mem R (DF t mem).1 (o+t.len) (DF t mem).2 R
 | .nil,_,_,_,_,_,mem,R,_,_,_,_=>AJ.nil
 | .one x r,d,_,ia,l,o,mem,R,⟨h1,h2,h3,h4⟩,ha,hc,hf=>by
  simp only [Tr.len] at hc ⊢
  obtain ⟨a1,a2,a3⟩:=mq ha
  have ih:=zh (V5 x mem) R h4 a3 (AO hc (by omega)) hf
  have hst:AJ l o mem R [x] (o+1) (V5 x mem) R:=AJ.step a1 a2 h2.1 (by have:=hf.1;omega) hf.2.1 (AO hc (by omega)) (by
   unfold gU;rw [if_neg h2.1,if_neg h2.2.1,if_neg h2.2.2.1];congr 1) (fun e=>by rw [hf.2.2.1 (h3 e).1];rfl) (CQ (by omega) hf.2.2.2)
  rw [show o+(r.len+1)=o+1+r.len by omega]
  exact hst.app ih
 | .lk a b r,d,_,ia,l,o,mem,R,⟨h1,h2,h3,h4⟩,ha,hc,hf=>by
  simp only [Tr.len] at hc ⊢
  obtain ⟨a1,a2,a3⟩:=mq ha
  obtain ⟨a4,a5⟩:=A9 a3
  obtain ⟨a6,a7,a8⟩:=mq a5
  rw [jv] at a6 a7 a8
  have s1:AJ l o mem R [(9,a,0,0)] (o+1) mem R:=AJ.step a1 a2 (by simp) (by have:=hf.1;omega) hf.2.1 (AO hc (by omega)) (by
   unfold gU;rw [if_neg (by simp),if_neg (by simp),if_neg (by simp)];congr 1) (fun e=>by simp at e) (CQ (by omega) hf.2.2.2)
  have s2:=zh mem R h3 a4 (AO hc (by omega)) hf
  have s3:AJ l (o+1+b.len) (DF b mem).2 R [(10,a,0,0)] (o+1+b.len+1) (DF b mem).2 R:=AJ.step a6 a7 (by simp) (by have:=hf.1;omega) hf.2.1 (AO hc (by omega)) (by
   unfold gU;rw [if_neg (by simp),if_neg (by simp),if_neg (by simp)];congr 1) (fun e=>by simp at e) (CQ (by omega) hf.2.2.2)
  have s4:=zh (DF b mem).2 R h4 a8 (AO hc (by omega)) hf
  rw [show o+(b.len+r.len+2)=o+1+b.len+1+r.len by omega]
  have:=s1.app (s2.app (s3.app s4))
  exact this
 | .ar x b r,d,hs,ia,l,o,mem,R,⟨⟨h1,h2,h3⟩,h4,h5,h6⟩,ha,hc,hf=>by
  simp only [Tr.len] at hc ⊢
  obtain ⟨a1,a2,a3⟩:=mq ha
  obtain ⟨a4,a5⟩:=A9 a3
  rw [jv] at a5
  have hw:=za h1 h2
  have x0:x.1≠0:=fun e=>by simp [isA,e] at h2
  have x11:x.1≠11:=fun e=>by simp [isA,e] at h2
  rw [show o+(b.len+r.len+1)=o+1+b.len+r.len by omega]
  by_cases e7:x.1=7
  ·have heff:V5 x mem=mem:=by
    unfold V5;rw [if_neg (by omega),if_neg (by omega),if_neg (by omega),if_neg (by omega),if_neg (by omega),if_neg (by omega)]
   have e8:(x.1==8)=false:=by rw [e7];rfl
   rw [e8,cond_false] at h5
   have hN:=hw.2.2.2 e7
   have htr:DF (.ar x b r) mem=(x::((if mg mem x.2.1=0 then (([]:List I4),mem) else DF b mem).1++(DF r (if mg mem x.2.1=0 then (([]:List I4),mem) else DF b mem).2).1),(DF r (if mg mem x.2.1=0 then (([]:List I4),mem) else DF b mem).2).2):=by
    simp only [DF,if_pos e7]
   rw [htr]
   by_cases em:mg mem x.2.1=0
   ·simp only [if_pos em]
    have s1:AJ l o mem R [x] (o+1+b.len) (V5 x mem) R:=AJ.step a1 a2 x0 (by have:=hf.1;omega) hf.2.1 (AO hc (by omega)) (by
     unfold gU;rw [if_neg x0,if_pos e7,if_pos em];congr 1;omega) (fun e=>absurd e x11) (CQ (by omega) hf.2.2.2)
    rw [heff] at s1
    have s4:=zh mem R h6 a5 (AO hc (by omega)) hf
    exact s1.app s4
   ·simp only [if_neg em]
    have s1:AJ l o mem R [x] (o+1) (V5 x mem) R:=AJ.step a1 a2 x0 (by have:=hf.1;omega) hf.2.1 (AO hc (by omega)) (by
     unfold gU;rw [if_neg x0,if_pos e7,if_neg em];congr 1) (fun e=>absurd e x11) (CQ (by omega) hf.2.2.2)
    rw [heff] at s1
    have hf2:Few d true R:=⟨hf.1,hf.2.1,fun e=>by (cases e),hf.2.2.2⟩
    have s2:=zh mem R h5 a4 (AO hc (by omega)) hf2
    have s4:=zh (DF b mem).2 R h6 a5 (AO hc (by omega)) hf
    exact s1.app (s2.app s4)
  ·have e8:x.1=8:=by simp only [isA,Bool.or_eq_true,beq_iff_eq] at h2;omega
   have heff:V5 x mem=mem:=by
    unfold V5;rw [if_neg (by omega),if_neg (by omega),if_neg (by omega),if_neg (by omega),if_neg (by omega),if_neg (by omega)]
   have e8':(x.1==8)=true:=by rw [e8];rfl
   rw [e8',cond_true] at h5
   have hN:=acp h1 e8
   have hB:=hw.2.2.1 e8
   have hd:=h4 e8
   have htr:DF (.ar x b r) mem=(x::((rpt (DF b) x.2.2.2.toNat mem).1++(DF r (rpt (DF b) x.2.2.2.toNat mem).2).1),(DF r (rpt (DF b) x.2.2.2.toNat mem).2).2):=by
    simp only [DF,if_neg e7]
   rw [htr]
   have aqG:∀ m:Nat,m <= 20 -> Few (d+1) true ((((o+1:Nat):Int),((o+b.len:Nat):Int),(m:Int))::R):=fun m hm=>by
    obtain ⟨q1,q2,q3,q4⟩:=hf
    refine ⟨⟨by simp only [List.length_cons];omega,by omega⟩,fun r hr=>?_,fun e=>by (cases e),fun r hr=>?_⟩
    ·rcases List.mem_cons.1 hr with rfl | hr
     ·simp only;omega
     ·exact q2 r hr
    ·rcases List.mem_cons.1 hr with rfl | hr
     ·simp only;omega
     ·exact q4 r hr
   have s1:AJ l o mem R [x] (o+1) (V5 x mem) ((((o+1:Nat):Int),((o+b.len:Nat):Int),((x.2.2.2.toNat - 1:Nat):Int))::R):=AJ.step a1 a2 x0 (by have:=hf.1;omega) hf.2.1 (AO hc (by omega)) (by
    unfold gU;rw [if_neg x0,if_neg e7,if_pos e8]
    simp only [Prod.mk.injEq,List.cons.injEq,and_true];omega) (fun e=>absurd e x11) (CQ (by omega) (aqG (x.2.2.2.toNat - 1) (by omega)).2.2.2)
   rw [heff] at s1
   have s2:=afG (l:=l) (o:=o) (R:=R) (b:=b) (by omega) (fun mem m hm=>zh mem _ h5 a4 (fun r hr=>by
    simp only [List.head?_cons,Option.mem_def,Option.some.injEq] at hr
    subst hr;simp only;omega) (aqG m hm)) (x.2.2.2.toNat - 1) mem (by omega)
   rw [show x.2.2.2.toNat - 1+1=x.2.2.2.toNat by omega] at s2
   have s4:=zh (rpt (DF b) x.2.2.2.toNat mem).2 R h6 a5 (AO hc (by omega)) hf
   exact s1.app (s2.app s4)
theorem aj8 {t:Tr} (h:Ok 0 [] false t) (mem:Mem):Run t.prog 0 mem [] (DF t mem).1 t.len (DF t mem).2 []:=by
 have:=zh (o:=0) mem [] h (J3 t) (fun r hr=>by (cases hr)) ⟨⟨by simp,by omega⟩,by simp,fun _=>rfl,by simp⟩
 obtain ⟨n2,R3,h1,h2⟩:=this 0 [] rfl
 rw [Nat.zero_add] at h1
 injection h1 with h3 h4
 subst h4
 have:n2=t.len:=by omega
 subst this
 exact h2
def hld:List Int -> List I4 -> Option (List Int)
 | hs,[]=>some hs
 | hs,x::r=>if x.1=9 then (if hs.length<2 /\ x.2.1 ∉ hs then hld (hs++[x.2.1]) r else none)
  else if x.1=10 then (if hs.getLast? = some x.2.1 then hld hs.dropLast r else none)
  else if x.1=11 then (if hs=[] then hld hs r else none)
  else hld hs r
theorem FH:∀ (a b:List I4) (hs:List Int),hld hs (a++b)=(hld hs a).bind (fun hs=>hld hs b)
 | [],b,hs=>rfl
 | x::a,b,hs=>by
  rw [List.cons_append,hld,hld]
  split
  ·split
   ·exact FH a b _
   ·rfl
  ·split
   ·split
    ·exact FH a b _
    ·rfl
   ·split
    ·split
     ·exact FH a b _
     ·rfl
    ·exact FH a b _
theorem afH {f:Mem -> List I4×Mem} {hs:List Int} (hf:∀ m,hld hs (f m).1=some hs):∀ (n:Nat) (m:Mem),hld hs (rpt f n m).1=some hs
 | 0,m=>rfl
 | n+1,m=>by rw [rpt,FH,hf m,Option.bind_some,afH hf n]
theorem DI:∀ {t:Tr} {d:Nat} {hs:List Int} {ia:Bool} (mem:Mem),Ok d hs ia t -> hld hs (DF t mem).1=some hs
 | .nil,_,_,_,mem,_=>rfl
 | .one x r,_,_,_,mem,⟨_,h2,h3,h4⟩=>by
  simp only [DF]
  rw [hld,if_neg h2.2.2.2.1,if_neg h2.2.2.2.2]
  have:=DI (V5 x mem) h4
  by_cases e:x.1=11
  ·rw [if_pos e,if_pos (h3 e).2];exact this
  ·rw [if_neg e];exact this
 | .lk a b r,_,hs,_,mem,⟨_,h2,h3,h4⟩=>by
  simp only [DF]
  rw [hld,if_pos rfl,if_pos ⟨h2.2,h2.1⟩,FH,DI mem h3,Option.bind_some,hld,if_neg (by simp),if_pos rfl,if_pos (by simp)]
  simp only [List.dropLast_concat]
  exact DI _ h4
 | .ar x b r,_,hs,_,mem,⟨h1,_,h3,h4⟩=>by
  have hA:=h1.2.1
  have e9:x.1≠9:=fun e=>by simp [isA,e] at hA
  have e10:x.1≠10:=fun e=>by simp [isA,e] at hA
  have e11:x.1≠11:=fun e=>by simp [isA,e] at hA
  have hb:=fun m=>DI m h3
  simp only [DF]
  rw [hld,if_neg e9,if_neg e10,if_neg e11,FH]
  split
  ·split
   ·rw [hld,Option.bind_some];exact DI _ h4
   ·rw [hb,Option.bind_some];exact DI _ h4
  ·rw [afH hb,Option.bind_some];exact DI _ h4
theorem TT {l:List I4}:∀ (a b i:Nat) (s:List Int×List Int),yc l (a+b) i s=(yc l a i s).bind (yc l b (i+a))
 | 0,b,i,s=>by rw [Nat.zero_add,yc];rfl
 | a+1,b,i,s=>by
  rw [show a+1+b=(a+b)+1 by omega,yc,yc]
  cases h:lq l i s with
  | none=>rfl
  | some t=>rw [Option.bind_some,Option.bind_some,TT a b (i+1) t,show i+1+a=i+(a+1) by omega]
theorem abf {l:List I4} {i:Nat} {s s':List Int×List Int} (hi:PrI l i s.1 s.2) (h:lq l i s=some s'):∀ k:Nat,k<i -> xk l 9 k -> (k:Int) ∉ s.2 -> s'.1.getD k 0=s.1.getD k 0 /\ (k:Int) ∉ s'.2:=by
 intro k hk h9 ho
 unfold lq at h
 split at h
 ·split at h
  ·cases h
  ·injection h with h;subst h
   refine ⟨rfl,fun h2=>?_⟩
   rcases List.mem_append.1 h2 with h2 | h2
   ·exact ho h2
   ·have:=List.mem_singleton.1 h2;omega
 ·split at h
  ·split at h
   ·cases h
   ·rename_i x hx
    split at h
    ·cases h
    ·injection h with h;subst h
     have hxm:=List.mem_of_getLast? hx
     have:=hi.small x hxm
     obtain ⟨n,rfl⟩:∃ n:Nat,x=(n:Int):=⟨x.toNat,by omega⟩
     refine ⟨?_,fun h2=>ho ((List.dropLast_sublist _).subset h2)⟩
     show (upd s.1 (n:Int) (i:Int)).getD k 0=_
     rw [Mj,mh,if_neg]
     rintro ⟨rfl,_⟩
     exact ho hxm
  ·injection h with h;subst h;exact ⟨rfl,ho⟩
theorem J8 {l:List I4}:∀ (m i:Nat) (s s':List Int×List Int),i+m <= l.length -> PrI l i s.1 s.2 -> yc l m i s=some s' -> ∀ k:Nat,k<i -> xk l 9 k -> (k:Int) ∉ s.2 -> s'.1.getD k 0=s.1.getD k 0
 | 0,i,s,s',_,_,h,k,_,_,_=>by injection h with h;subst h;rfl
 | m+1,i,s,s',hm,hi,h,k,hk,h9,ho=>by
  rw [yc,Option.bind_eq_some_iff] at h
  obtain ⟨t,h1,h2⟩:=h
  have:=abf hi h1 k hk h9 ho
  rw [J8 m (i+1) t s' (by omega) (H7 (by omega) hi h1) h2 k (by omega) h9 this.2,this.1]
theorem aqH {l:List I4} {ps:List Int} (h:prs l=some ps) {n:Nat} (hn:n <= l.length):∃ s:List Int×List Int,PrI l n s.1 s.2 /\ yc l (l.length - n) n s=some (ps,[]) /\ ∀ k,k<n -> xk l 9 k -> ((k:Int)∈s.2↔(n:Int) <= ps.getD k 0):=by
 have hg:=acn h
 have h0:PrI l 0 (List.replicate l.length 0) []:=⟨by simp,List.Pairwise.nil,(fun _ h=>by cases h),(fun _ h=>by cases h),fun _ h=>by omega,fun _ _ _ h=>by omega,fun _ _ _ h=>by omega,rfl⟩
 rw [show l.length=n+(l.length - n) by omega,TT,Nat.zero_add,Option.bind_eq_some_iff] at hg
 obtain ⟨s,h1,h2⟩:=hg
 have hinv:∀ (m i:Nat) (s s':List Int×List Int),i+m <= l.length -> PrI l i s.1 s.2 -> yc l m i s=some s' -> PrI l (i+m) s'.1 s'.2:=by
  intro m
  induction m with
  | zero=>intro i s s' _ hi h;injection h with h;subst h;exact hi
  | succ m ih =>
   intro i s s' hm hi h
   rw [yc,Option.bind_eq_some_iff] at h
   obtain ⟨t,h1,h2⟩:=h
   have:=ih (i+1) t s' (by omega) (H7 (by omega) hi h1) h2
   rw [show i+(m+1)=i+1+m by omega];exact this
 have hln:n+(l.length - n)=l.length:=by omega
 rw [hln] at h1
 have hs:=hinv n 0 _ s (by omega) h0 h1
 rw [Nat.zero_add] at hs
 refine ⟨s,hs,h2,fun k hk h9=>?_⟩
 constructor
 ·intro ho
  -- it is closed behind
  have hfin:=Yq h
  obtain ⟨u,g1,g2,g3,_⟩:=hfin.closed k (by omega) h9 (by simp)
  rw [g1]
  have key:∀ (m i:Nat) (s s':List Int×List Int),i+m <= l.length -> PrI l i s.1 s.2 -> yc l m i s=some s' -> (k:Int)∈s.2 -> (k:Int)∈s'.2 \/ (i:Int) <= s'.1.getD k 0:=by
   intro m
   induction m with
   | zero=>intro i s s' _ _ h ho;injection h with h;subst h;exact .inl ho
   | succ m ih =>
    intro i s s' hm hi h ho
    rw [yc,Option.bind_eq_some_iff] at h
    obtain ⟨t,h1,h2⟩:=h
    have hi':=H7 (by omega) hi h1
    by_cases e:(k:Int)∈t.2
    ·rcases ih (i+1) t s' (by omega) hi' h2 e with q | q
     ·exact .inl q
     ·exact .inr (by omega)
    ·right
     have hkl:=hi.small _ ho
     rw [J8 m (i+1) t s' (by omega) hi' h2 k (by omega) h9 e]
     -- it was closed at i
     unfold lq at h1
     split at h1
     ·split at h1
      ·cases h1
      ·injection h1 with h1;subst h1
       exact absurd (List.mem_append_left _ ho) e
     ·split at h1
      ·split at h1
       ·cases h1
       ·rename_i x hx
        split at h1
        ·cases h1
        ·injection h1 with h1;subst h1
         have hxm:=hi.small x (List.mem_of_getLast? hx)
         obtain ⟨n',rfl⟩:∃ n':Nat,x=(n':Int):=⟨x.toNat,by omega⟩
         have hlen:=hi.len
         show (i:Int) <= (upd s.1 (n':Int) (i:Int)).getD k 0
         have hkn:n'=k:=by
          by_cases hq:n'=k
          ·exact hq
          ·exfalso;apply e
           obtain ⟨r,hr⟩:∃ r,s.2=r++[(n':Int)]:=by
            rcases List.eq_nil_or_concat s.2 with e | ⟨r,y,e⟩
            ·rw [e] at hx;cases hx
            ·rw [List.concat_eq_append] at e
             rw [e] at hx;simp at hx;subst hx;exact ⟨r,e⟩
           show (k:Int)∈s.2.dropLast
           rw [hr] at ho ⊢
           rw [List.dropLast_concat]
           rcases List.mem_append.1 ho with h | h
           ·exact h
           ·have:=List.mem_singleton.1 h;omega
         rw [Mj,mh,if_pos ⟨hkn,by omega⟩];omega
      ·injection h1 with h1;subst h1;exact absurd ho e
  rcases key (l.length - n) n s (ps,[]) (by omega) hs h2 ho with q | q
  ·cases q
  ·simp only at q;omega
 ·intro hge
  by_cases ho:(k:Int)∈s.2
  ·exact ho
  ·obtain ⟨u,g1,g2,g3,_⟩:=hs.closed k hk h9 ho
   have:=J8 (l.length - n) n s (ps,[]) (by omega) hs h2 k hk h9 ho
   simp only at this
   omega
structure Prs (l:List I4) (ps:List Int):Prop where
 lock:∀ n,n<l.length -> xk l 9 n -> ∃ u:Nat,ps.getD n 0=(u:Int) /\ n<u /\ u<l.length /\ xk l 10 u /\ yj l u=yj l n
 nest:∀ k j,k<j -> j<l.length -> xk l 9 k -> xk l 9 j -> (j:Int)<ps.getD k 0 -> ps.getD j 0<ps.getD k 0 /\ yj l k≠yj l j
 two:∀ a b n,a<b -> b<n -> n<l.length -> xk l 9 a -> xk l 9 b -> xk l 9 n -> (n:Int)<ps.getD a 0 -> (n:Int)<ps.getD b 0 -> False
 unlock:∀ u,u<l.length -> xk l 10 u -> ∃ n,n<u /\ xk l 9 n /\ ps.getD n 0=(u:Int)
 area:∀ n,n<l.length -> xk l 9 n -> ∀ u:Nat,ps.getD n 0=(u:Int) -> H6 l n u=false
theorem agX {l:List I4} {ps:List Int} (h:prs l=some ps):Prs l ps:=by
 have hf:=Yq h
 have aj9:∀ n,n<l.length -> ∃ s t:List Int×List Int,PrI l n s.1 s.2 /\ lq l n s=some t /\ PrI l (n+1) t.1 t.2 /\ yc l (l.length - (n+1)) (n+1) t=some (ps,[]) /\ ∀ k,k<n -> xk l 9 k -> ((k:Int)∈s.2↔(n:Int) <= ps.getD k 0):=fun n hn=>by
  obtain ⟨s,h1,h2,h3⟩:=aqH h (n:=n) (by omega)
  rw [show l.length - n=(l.length - (n+1))+1 by omega,yc,Option.bind_eq_some_iff] at h2
  obtain ⟨t,h4,h5⟩:=h2
  exact ⟨s,t,h1,h4,H7 hn h1 h4,h5,h3⟩
 have unl:∀ u,u<l.length -> xk l 10 u -> ∃ n,n<u /\ xk l 9 n /\ ps.getD n 0=(u:Int) /\ H6 l n u=false:=fun u hu h10=>by
  obtain ⟨s,t,h1,h2,h3,h4,h5⟩:=aj9 u hu
  have agS:(l.getD u i0).1=10:=h10
  unfold lq at h2
  rw [if_neg (by rw [agS];decide),if_pos agS] at h2
  split at h2
  ·cases h2
  ·rename_i x hx
   split at h2
   ·cases h2
   ·rename_i hc
    injection h2 with h2;subst h2
    have hxm:=List.mem_of_getLast? hx
    have hsm:=h1.small x hxm
    obtain ⟨n,rfl⟩:∃ n:Nat,x=(n:Int):=⟨x.toNat,by omega⟩
    have hl:=h1.lock n hxm
    have hlen:=h1.len
    refine ⟨n,by omega,hl,?_,?_⟩
    ·have hno:(n:Int) ∉ s.2.dropLast:=by
      have hsort:=h1.sorted
      obtain ⟨r,hr⟩:∃ r,s.2=r++[(n:Int)]:=by
       rcases List.eq_nil_or_concat s.2 with e | ⟨r,y,e⟩
       ·rw [e] at hx;cases hx
       ·rw [List.concat_eq_append] at e
        rw [e] at hx;simp at hx;subst hx;exact ⟨r,e⟩
      rw [hr,List.pairwise_append] at hsort
      rw [hr,List.dropLast_concat]
      intro e
      have:=hsort.2.2 _ e (n:Int) (by simp);omega
     have:=J8 (l.length - (u+1)) (u+1) (upd s.1 (n:Int) (u:Int),s.2.dropLast) (ps,[]) (by omega) h3 h4 n (by omega) hl hno
     simp only at this
     rw [this,Mj,mh,if_pos ⟨rfl,by omega⟩]
    ·cases hs:H6 l n u with
     | false=>rfl
     | true=>exact absurd (.inr (by rw [Int.toNat_natCast];exact hs)) hc
 refine ⟨fun n hn h9=>?_,fun k j hkj hj h1 h2 h3=>?_,fun a b n hab hbn hn h1 h2 h3 h4 h5=>?_,fun u hu h10=>?_,fun n hn h9 u hu=>?_⟩
 ·exact hf.closed n hn h9 (by simp)
 ·obtain ⟨_,q2,q3⟩:=hf.nest k j hkj hj h1 h2 (by simp) h3
  exact ⟨q2,q3⟩
 ·obtain ⟨s,t,g1,g2,_,_,g5⟩:=aj9 n hn
  have ha:=(g5 a (by omega) h1).2 (by omega)
  have hb:=(g5 b hbn h2).2 (by omega)
  have h9:(l.getD n i0).1=9:=h3
  unfold lq at g2
  rw [if_pos h9] at g2
  split at g2
  ·cases g2
  ·rename_i hc
   have hlt:s.2.length<2:=by
    by_cases e:s.2.length<2
    ·exact e
    ·exact absurd (.inl (by omega)) hc
   match hs:s.2,ha,hb,hlt with
   | [],ha,_,_=>cases ha
   | [y],ha,hb,_ =>
    have e1:=List.mem_singleton.1 ha
    have e2:=List.mem_singleton.1 hb
    omega
   | y::z::r,_,_,hlt=>simp only [List.length_cons] at hlt;omega
 ·obtain ⟨n,q1,q2,q3,_⟩:=unl u hu h10
  exact ⟨n,q1,q2,q3⟩
 ·obtain ⟨u',g1,g2,g3,g4,_⟩:=hf.closed n hn h9 (by simp)
  have:u'=u:=by omega
  subst this
  obtain ⟨n',q1,q2,q3,q4⟩:=unl u' g3 g4
  by_cases e:n'=n
  ·subst e;exact q4
  ·exfalso
   by_cases lt:n'<n
   ·have:=(hf.nest n' n lt hn q2 h9 (by simp) (by omega)).2.1;omega
   ·have:=(hf.nest n n' (by omega) (by omega) h9 q2 (by simp) (by omega)).2.1;omega
theorem Yw {l:List I4} (hm:∀ x∈l,l5 x=true) (hl:l.length <= 900) {a b c:Nat} {j:Int} (hab:a<b) (hbc:b<c) (hc:c<l.length) (h:∀ n,n=a \/ n=b \/ n=c -> (l.getD n i0).1=8 /\ (n:Int)<j /\ j <= n+wd (l.getD n i0)):3 <= gq j (ny 0 l):=by
 have one:∀ n,n=a \/ n=b \/ n=c -> gq j (pc n (l.getD n i0))=1:=fun n hn=>by
  obtain ⟨h8,h1,h2⟩:=h n hn
  have hlt:n<l.length:=by omega
  have hA:isA (l.getD n i0)=true:=by simp only [isA,h8];rfl
  rw [KA (hm _ (jm hlt)) (by omega),if_pos hA,gq,List.countP_cons,List.countP_nil]
  have e3:(ni n (l.getD n i0)).2.2.2=true:=by simp only [ni,h8];rfl
  rw [e3,show o9 (ni n (l.getD n i0)) j=true by rw [o8];simp only [ni];omega];rfl
 have up:∀ n,n<l.length -> gq j (ny 0 (l.take (n+1)))=gq j (ny 0 (l.take n))+gq j (pc n (l.getD n i0)):=fun n hn=>by
  have:l.take (n+1)=l.take n++[l.getD n i0]:=by rw [List.take_add_one,getD_in hn,List.getElem?_eq_getElem hn];rfl
  rw [this,EZ,O7,List.length_take,Nat.zero_add,show min n l.length=n by omega]
  simp [ny]
 have mono:∀ d n,n+d <= l.length -> gq j (ny 0 (l.take n)) <= gq j (ny 0 (l.take (n+d))):=fun d=>by
  induction d with
  | zero=>intro n _;simp
  | succ d ih=>intro n hn;have:=ih n (by omega);rw [show n+(d+1)=n+d+1 by omega,up (n+d) (by omega)];omega
 have h1:=up a (by omega)
 have h2:=up b (by omega)
 have h3:=up c (by omega)
 rw [one a (.inl rfl)] at h1
 rw [one b (.inr (.inl rfl))] at h2
 rw [one c (.inr (.inr rfl))] at h3
 have m1:=mono (b - (a+1)) (a+1) (by omega)
 have m2:=mono (c - (b+1)) (b+1) (by omega)
 have m3:=mono (l.length - (c+1)) (c+1) (by omega)
 rw [show a+1+(b - (a+1))=b by omega] at m1
 rw [show b+1+(c - (b+1))=c by omega] at m2
 rw [show c+1+(l.length - (c+1))=l.length by omega,List.take_length] at m3
 omega
def ig (l:List I4) (o e:Nat):Nat -> Prop
 | 0=>True
 | 1=>∃ a,a<o /\ xk l 8 a /\ e <= a+wd (l.getD a i0)+1
 | 2=>∃ a b,a<b /\ b<o /\ xk l 8 a /\ xk l 8 b /\ e <= a+wd (l.getD a i0)+1 /\ e <= b+wd (l.getD b i0)+1
 | _+3=>False
def Hd (l:List I4) (ps:List Int) (o e:Nat) (hs:List Int):Prop:=∃ H:List Nat,hs=H.map (yj l) /\ H.Pairwise (·<·) /\ ∀ k∈H,k<o /\ xk l 9 k /\ (e:Int) <= ps.getD k 0
theorem OA {l:List I4} {o e o' e':Nat} (ho:o <= o') (he:e' <= e):∀ {d:Nat},ig l o e d -> ig l o' e' d
 | 0,_=>trivial
 | 1,⟨a,h1,h2,h3⟩=>⟨a,by omega,h2,by omega⟩
 | 2,⟨a,b,h1,h2,h3,h4,h5,h6⟩=>⟨a,b,h1,by omega,h3,h4,by omega,by omega⟩
 | _+3,h=>h.elim
theorem OB {l:List I4} {ps:List Int} {o e o' e':Nat} {hs:List Int} (ho:o <= o') (he:e' <= e) (h:Hd l ps o e hs):Hd l ps o' e' hs:=by
 obtain ⟨H,h1,h2,h3⟩:=h
 exact ⟨H,h1,h2,fun k hk=>by obtain ⟨q1,q2,q3⟩:=h3 k hk;exact ⟨by omega,q2,by omega⟩⟩
theorem TU {l:List I4} {o:Nat} {x:I4} {w:List I4} (hx:l.getD o i0=x) (hl:o<l.length) (h:At l (o+1) w):At l o (x::w):=by
 obtain ⟨h1,h2⟩:=h
 refine ⟨by simp only [List.length_cons];omega,fun j hj=>?_⟩
 cases j with
 | zero=>simpa using hx
 | succ j =>
  simp only [List.length_cons] at hj
  rw [List.getD_cons_succ,<- h2 j (by omega)];congr 1;omega
theorem acw {l:List I4} {o:Nat} {u w:List I4} (h1:At l o u) (h2:At l (o+u.length) w):At l o (u++w):=by
 obtain ⟨a1,a2⟩:=h1
 obtain ⟨b1,b2⟩:=h2
 refine ⟨by simp only [List.length_append];omega,fun j hj=>?_⟩
 simp only [List.length_append] at hj
 by_cases e:j<u.length
 ·rw [ow e,a2 j e]
 ·rw [lg (by omega),<- b2 (j - u.length) (by omega)];congr 1;omega
theorem akb {x:I4} (h:l5 x=true):x.1=0 \/ x.1=7 \/ x.1=8 \/ x.1=9 \/ x.1=10 \/ plain x:=by unfold plain;omega
theorem amn {x:I4} (h:l5 x=true) (e:x.1=9 \/ x.1=10):(0 <= x.2.1 /\ x.2.1 <= 3) /\ x.2.2.1=0 /\ x.2.2.2=0:=by
 rcases e with e | e <;> simpa [l5,e,AY] using h
theorem parse {l:List I4} {ps:List Int} (g:CO l ps) (P:Prs l ps):∀ (len o d:Nat) (hs:List Int) (ia:Bool),o+len<l.length -> (∀ n,o <= n -> n<o+len -> n+wd (l.getD n i0)<o+len) ->
  (∀ n,o <= n -> n<o+len -> xk l 9 n -> ps.getD n 0<((o+len:Nat):Int)) -> (∀ n u:Nat,o <= u -> u<o+len -> xk l 9 n -> ps.getD n 0=(u:Int) -> o <= n) ->
  ig l o (o+len) d -> Hd l ps o (o+len) hs -> (ia=true -> ∃ a,a<o /\ isA (l.getD a i0)=true /\ o+len <= a+wd (l.getD a i0)+1) ->
  ∃ t:Tr,t.len=len /\ At l o t.flat /\ Ok d hs ia t:=by
 have hl2:=g.len2
 intro len
 induction len using Nat.strongRecOn with
 | _ len ih =>
 intro o d hs ia hlen S1 S2 S3 hB hH hI
 match len,ih,hlen,S1,S2,S3,hB,hH,hI with
 | 0,_,_,_,_,_,_,_,_=>exact ⟨.nil,rfl,⟨by simp [Tr.flat];omega,by simp [Tr.flat]⟩,trivial⟩
 | len+1,ih,hlen,S1,S2,S3,hB,hH,hI =>
 have hol:o<l.length:=by omega
 have hm:=g.may _ (jm (z:=i0) hol)
 rcases akb hm with e | e | e | e | e | e
 ·exact absurd ((g.end_ o hol).1 e) (by omega)
 ·-- a reach
  have hA:isA (l.getD o i0)=true:=by simp only [isA,e];rfl
  have hw:=za hm hA
  have h1:=S1 o (by omega) (by omega)
  obtain ⟨n,hn⟩:∃ n,n=wd (l.getD o i0):=⟨_,rfl⟩
  rw [<- hn] at h1 hw
  have inb:∀ n',o<n' -> n' <= o+n -> n'+wd (l.getD n' i0) <= o+n:=fun n' q1 q2=>(by have:=afI g hA (n:=n') (by omega) (by rw [<- hn];exact ⟨q1,q2⟩);omega)
  obtain ⟨b,b1,b2,b3⟩:=ih n (by omega) (o+1) d hs true (by omega) (fun n' q1 q2=>by have:=inb n' (by omega) (by omega);omega)
   (fun n' q1 q2 q3=>(by have:=J9 g P hA (n:=n') (by omega) q3 (by omega) (by omega);omega))
   (fun n' u q1 q2 q3 q4=>H9 g P hA q3 q4 (by omega) (by omega))
   (OA (by omega) (by omega) hB) (OB (by omega) (by omega) hH) (fun _=>⟨o,by omega,hA,by omega⟩)
  obtain ⟨r,r1,r2,r3⟩:=ih (len - n) (by omega) (o+1+n) d hs ia (by omega) (fun n' q1 q2=>by have:=S1 n' (by omega) (by omega);omega)
   (fun n' q1 q2 q3=>by have:=S2 n' (by omega) (by omega) q3;omega)
   (fun n' u q1 q2 q3 q4=>by
    have:=S3 n' u (by omega) (by omega) q3 q4
    by_cases f:n'=o
    ·subst f;exact absurd (show (l.getD n' i0).1=9 from q3) (by omega)
    ·by_cases f2:n' <= o+n
     ·have:=J9 g P hA (by omega) q3 (show o<n' by omega) (by omega);omega
     ·omega)
   (OA (by omega) (by omega) hB) (OB (by omega) (by omega) hH) (fun q=>by obtain ⟨a,a1,a2,a3⟩:=hI q;exact ⟨a,by omega,a2,by omega⟩)
  refine ⟨.ar (l.getD o i0) b r,by simp only [Tr.len];omega,?_,⟨hm,hA,by omega⟩,fun e2=>by omega,?_,r3⟩
  ·simp only [Tr.flat]
   exact TU rfl hol (acw b2 (by rw [jv,b1];exact r2))
  ·rw [show ((l.getD o i0).1==8)=false by rw [e];rfl];exact b3
 ·-- a body
  have hA:isA (l.getD o i0)=true:=by simp only [isA,e];rfl
  have hw:=za hm hA
  have h1:=S1 o (by omega) (by omega)
  obtain ⟨n,hn⟩:∃ n,n=wd (l.getD o i0):=⟨_,rfl⟩
  rw [<- hn] at h1 hw
  have inb:∀ n',o<n' -> n' <= o+n -> n'+wd (l.getD n' i0) <= o+n:=fun n' q1 q2=>(by have:=afI g hA (n:=n') (by omega) (by rw [<- hn];exact ⟨q1,q2⟩);omega)
  have hd:d<2 /\ ig l (o+1) (o+1+n) (d+1):=by
   match d,hB with
   | 0,_=>exact ⟨by omega,o,by omega,e,by omega⟩
   | 1,⟨a,a1,a2,a3⟩=>exact ⟨by omega,a,o,a1,by omega,a2,e,by omega,by omega⟩
   | 2,⟨a,b,a1,a2,a3,a4,a5,a6⟩ =>
    have:=Yw g.may (by omega) (a:=a) (b:=b) (c:=o) (j:=((o+1:Nat):Int)) a1 a2 hol (fun n' hn'=>by
     rcases hn' with rfl | rfl | rfl
     ·exact ⟨a3,by omega,by omega⟩
     ·exact ⟨a4,by omega,by omega⟩
     ·exact ⟨e,by omega,by omega⟩)
    have:=g.bodies (o+1) (by omega)
    omega
   | _+3,h=>exact h.elim
  obtain ⟨b,b1,b2,b3⟩:=ih n (by omega) (o+1) (d+1) hs true (by omega) (fun n' q1 q2=>by have:=inb n' (by omega) (by omega);omega)
   (fun n' q1 q2 q3=>(by have:=J9 g P hA (n:=n') (by omega) q3 (by omega) (by omega);omega))
   (fun n' u q1 q2 q3 q4=>H9 g P hA q3 q4 (by omega) (by omega))
   hd.2 (OB (by omega) (by omega) hH) (fun _=>⟨o,by omega,hA,by omega⟩)
  obtain ⟨r,r1,r2,r3⟩:=ih (len - n) (by omega) (o+1+n) d hs ia (by omega) (fun n' q1 q2=>by have:=S1 n' (by omega) (by omega);omega)
   (fun n' q1 q2 q3=>by have:=S2 n' (by omega) (by omega) q3;omega)
   (fun n' u q1 q2 q3 q4=>by
    have:=S3 n' u (by omega) (by omega) q3 q4
    by_cases f:n'=o
    ·subst f;exact absurd (show (l.getD n' i0).1=9 from q3) (by omega)
    ·by_cases f2:n' <= o+n
     ·have:=J9 g P hA (by omega) q3 (show o<n' by omega) (by omega);omega
     ·omega)
   (OA (by omega) (by omega) hB) (OB (by omega) (by omega) hH) (fun q=>by obtain ⟨a,a1,a2,a3⟩:=hI q;exact ⟨a,by omega,a2,by omega⟩)
  refine ⟨.ar (l.getD o i0) b r,by simp only [Tr.len];omega,?_,⟨hm,hA,by omega⟩,fun _=>hd.1,?_,r3⟩
  ·simp only [Tr.flat]
   exact TU rfl hol (acw b2 (by rw [jv,b1];exact r2))
  ·rw [show ((l.getD o i0).1==8)=true by rw [e];rfl];exact b3
 ·-- a pair
  obtain ⟨u,u1,u2,u3,u4,u5⟩:=P.lock o hol e
  have hu:=S2 o (by omega) (by omega) e
  rw [u1] at hu
  have h9:=amn hm (.inl e)
  have hmu:=amn (g.may _ (jm (z:=i0) u3)) (.inr u4)
  have hxo:l.getD o i0=(9,yj l o,0,0):=Prod.ext e (Prod.ext rfl (Prod.ext h9.2.1 h9.2.2))
  have hxu:l.getD u i0=(10,yj l o,0,0):=Prod.ext u4 (Prod.ext u5 (Prod.ext hmu.2.1 hmu.2.2))
  have hsep:=(IZ g.may (by omega)).1 (P.area o hol e u u1)
  obtain ⟨H,H1,H2,H3⟩:=hH
  have hnot:yj l o ∉ hs:=by
   rw [H1];intro hq
   obtain ⟨k,k1,k2⟩:=List.mem_map.1 hq
   obtain ⟨k3,k4,k5⟩:=H3 k k1
   exact (P.nest k o k3 hol k4 e (by omega)).2 k2
  have ar1:hs.length<2:=by
   rw [H1,List.length_map]
   match H,H2,H3 with
   | [],_,_=>simp
   | [a],_,_=>simp
   | a::b::q,H2,H3 =>
    exfalso
    obtain ⟨a1,a2,a3⟩:=H3 a (by simp)
    obtain ⟨b1,b2,b3⟩:=H3 b (by simp)
    have hab:a<b:=(List.pairwise_cons.1 H2).1 b (by simp)
    exact P.two a b o hab b1 hol a2 b2 e (by omega) (by omega)
  obtain ⟨b,b1,b2,b3⟩:=ih (u - (o+1)) (by omega) (o+1) d (hs++[yj l o]) ia (by omega) (fun n' q1 q2=>by
    by_cases hA:isA (l.getD n' i0)=true
    ·have:=hsep n' (by omega) hA
     by_cases f:n'+wd (l.getD n' i0)<o+1+(u - (o+1))
     ·exact f
     ·have:=this.2 ⟨by omega,by omega⟩;omega
    ·rw [wm (by simpa using hA)];omega)
   (fun n' q1 q2 q3=>by have:=(P.nest o n' (by omega) (by omega) e q3 (by omega)).1;omega)
   (fun n' v q1 q2 q3 q4=>by
    have:=S3 n' v (by omega) (by omega) q3 q4
    by_cases f:n'=o
    ·subst f;omega
    ·omega)
   (OA (by omega) (by omega) hB) ⟨H++[o],by rw [H1,List.map_append];rfl,by
    rw [List.pairwise_append]
    exact ⟨H2,List.pairwise_singleton _ _,fun a ha b hb=>by rw [List.mem_singleton.1 hb];exact (H3 a ha).1⟩,fun k hk=>by
    rcases List.mem_append.1 hk with hk | hk
    ·obtain ⟨k1,k2,k3⟩:=H3 k hk;exact ⟨by omega,k2,by omega⟩
    ·rw [List.mem_singleton.1 hk];exact ⟨by omega,e,by omega⟩⟩ (fun q=>by obtain ⟨a,a1,a2,a3⟩:=hI q;exact ⟨a,by omega,a2,by omega⟩)
  obtain ⟨r,r1,r2,r3⟩:=ih (o+len - u) (by omega) (u+1) d hs ia (by omega) (fun n' q1 q2=>by have:=S1 n' (by omega) (by omega);omega)
   (fun n' q1 q2 q3=>by have:=S2 n' (by omega) (by omega) q3;omega)
   (fun n' v q1 q2 q3 q4=>by
    have:=S3 n' v (by omega) (by omega) q3 q4
    by_cases f:n'=o
    ·subst f;omega
    ·by_cases f2:n'<u
     ·have:=(P.nest o n' (by omega) (by omega) e q3 (by omega)).1;omega
     ·by_cases f3:n'=u
      ·subst f3;exact absurd (show (l.getD n' i0).1=9 from q3) (by rw [show (l.getD n' i0).1=10 from u4];decide)
      ·omega)
   (OA (by omega) (by omega) hB) (OB (by omega) (by omega) ⟨H,H1,H2,H3⟩) (fun q=>by obtain ⟨a,a1,a2,a3⟩:=hI q;exact ⟨a,by omega,a2,by omega⟩)
  refine ⟨.lk (yj l o) b r,by simp only [Tr.len];omega,?_,h9.1,⟨hnot,ar1⟩,b3,r3⟩
  simp only [Tr.flat]
  refine TU hxo hol (acw b2 ?_)
  rw [jv,b1,show o+1+(u - (o+1))=u by omega]
  exact TU hxu u3 r2
 ·-- an unlock whose lock stands ahead of all
  obtain ⟨n',q1,q2,q3⟩:=P.unlock o hol e
  have:=S3 n' o (by omega) (by omega) q2 q3
  omega
 ·-- a plain one
  obtain ⟨r,r1,r2,r3⟩:=ih len (by omega) (o+1) d hs ia (by omega) (fun n' q1 q2=>by have:=S1 n' (by omega) (by omega);omega)
   (fun n' q1 q2 q3=>by have:=S2 n' (by omega) (by omega) q3;omega)
   (fun n' v q1 q2 q3 q4=>by
    have:=S3 n' v (by omega) (by omega) q3 q4
    by_cases f:n'=o
    ·subst f;exact absurd q3 e.2.2.2.1
    ·omega)
   (OA (by omega) (by omega) hB) (OB (by omega) (by omega) hH) (fun q=>by obtain ⟨a,a1,a2,a3⟩:=hI q;exact ⟨a,by omega,a2,by omega⟩)
  refine ⟨.one (l.getD o i0) r,by simp only [Tr.len];omega,TU rfl hol r2,hm,e,fun e11=>?_,r3⟩
  obtain ⟨m1,m2⟩:=g.marks o hol e11
  constructor
  ·cases ia with
   | false=>rfl
   | true =>
    exfalso
    obtain ⟨a,a1,a2,a3⟩:=hI rfl
    rw [List.any_eq_false] at m1
    have:=m1 (ni a (l.getD a i0)) ((l8 l 0 _ g.may (by omega)).2 ⟨a,by omega,a2,by rw [Nat.zero_add]⟩)
    rw [o8] at this
    simp only [ni] at this
    omega
  ·obtain ⟨H,H1,H2,H3⟩:=hH
   cases H with
   | nil=>exact H1
   | cons k q =>
    exfalso
    obtain ⟨k1,k2,k3⟩:=H3 k (by simp)
    have:=m2 k k1
    omega
where
 afI {l:List I4} {ps:List Int} (g:CO l ps) {o n:Nat} (hA:isA (l.getD o i0)=true) (hn:n<l.length) (h:o<n /\ n <= o+wd (l.getD o i0)):n+wd (l.getD n i0) <= o+wd (l.getD o i0):=by
  have hl2:=g.len2
  by_cases hB:isA (l.getD n i0)=true
  ·have:=g.bad (ni n (l.getD n i0)) ((l8 l 0 _ g.may (by omega)).2 ⟨n,hn,hB,by rw [Nat.zero_add]⟩) (ni o (l.getD o i0)) ((l8 l 0 _ g.may (by omega)).2 ⟨o,by omega,hA,by rw [Nat.zero_add]⟩)
   unfold JH at this
   rw [Bool.or_eq_false_iff] at this
   have h2:=this.1
   have hq:o9 (ni o (l.getD o i0)) (ni n (l.getD n i0)).2.2.1=true:=o8.2 (by simp only [ni];omega)
   rw [hq,Bool.true_and,Bool.not_eq_false'] at h2
   unfold inA at h2
   rw [Bool.and_eq_true,o8,o8] at h2
   simp only [ni] at h2
   omega
  ·rw [wm (by simpa using hB)];omega
 J9 {l:List I4} {ps:List Int} (g:CO l ps) (P:Prs l ps) {o n:Nat} (hA:isA (l.getD o i0)=true) (hn:n<l.length) (h9:xk l 9 n) (h1:o<n) (h2:n <= o+wd (l.getD o i0)):ps.getD n 0<((o+wd (l.getD o i0)+1:Nat):Int):=by
  have hl2:=g.len2
  obtain ⟨u,u1,_⟩:=P.lock n hn h9
  have:=(IZ g.may (by omega)).1 (P.area n hn h9 u u1) o (by omega) hA
  have:=this.1 ⟨h1,h2⟩
  omega
 H9 {l:List I4} {ps:List Int} (g:CO l ps) (P:Prs l ps) {o n u:Nat} (hA:isA (l.getD o i0)=true) (h9:xk l 9 n) (hu:ps.getD n 0=(u:Int)) (h1:o+1 <= u) (h2:u <= o+wd (l.getD o i0)):o+1 <= n:=by
  have hl2:=g.len2
  have hn:n<l.length:=by
   by_cases f:n<l.length
   ·exact f
   ·have:l.getD n i0=i0:=LQ (by omega)
    unfold xk at h9;rw [this] at h9;exact absurd h9 (by decide)
  have hol:o<l.length:=by
   by_cases f:o<l.length
   ·exact f
   ·rw [LQ (by omega)] at hA;exact absurd hA (by decide)
  have:=(IZ g.may (by omega)).1 (P.area n hn h9 u hu) o hol hA
  have:=this.2 ⟨by omega,h2⟩
  omega
theorem M5 {l:List I4} (h:yw l=true):∃ t:Tr,Ok 0 [] false t /\ l=t.prog /\ t.len<24:=by
 obtain ⟨ps,g⟩:=LX.1 h
 have hl1:=g.len1
 have hl2:=g.len2
 have P:=agX g.pairs
 have hlast:(l.getD (l.length - 1) i0).1=0:=(g.end_ (l.length - 1) (by omega)).2 (by omega)
 obtain ⟨t,t1,t2,t3⟩:=parse g P (l.length - 1) 0 0 [] false (by omega) (fun n h1 h2=>by
   by_cases hA:isA (l.getD n i0)=true
   ·have:=g.last (ni n (l.getD n i0)) ((l8 l 0 _ g.may (by omega)).2 ⟨n,by omega,hA,by rw [Nat.zero_add]⟩)
    have e:(ni n (l.getD n i0)).2.1=((n+wd (l.getD n i0):Nat):Int):=rfl
    omega
   ·rw [wm (by simpa using hA)];omega)
  (fun n h1 h2 h9=>by
   obtain ⟨u,u1,u2,u3,u4,_⟩:=P.lock n (by omega) h9
   have:u≠l.length - 1:=fun e=>by
    subst e
    rw [show (l.getD (l.length - 1) i0).1=10 from u4] at hlast;exact absurd hlast (by decide)
   omega) (fun n u _ _ _ _=>by omega) trivial ⟨[],rfl,List.Pairwise.nil,fun k hk=>by cases hk⟩ (fun e=>by cases e)
 have hz:l.getD (l.length - 1) i0=i0:=by
  have:=g.may _ (jm (z:=i0) (l:=l) (i:=l.length - 1) (by omega))
  have h3:(l.getD (l.length - 1) i0).2.1=0 /\ (l.getD (l.length - 1) i0).2.2.1=0 /\ (l.getD (l.length - 1) i0).2.2.2=0:=by
   generalize l.getD (l.length - 1) i0=x at this hlast
   simpa [l5,hlast] using this
  exact Prod.ext hlast (Prod.ext h3.1 (Prod.ext h3.2.1 h3.2.2))
 refine ⟨t,t3,?_,by omega⟩
 have hpl:=xw t
 apply List.ext_getElem (by omega)
 intro n h1 h2
 rw [<- getD_in (z:=i0) h1,<- getD_in (z:=i0) h2]
 by_cases e:n<t.len
 ·have:=t2.2 n (by rw [jv];exact e)
  rw [Nat.zero_add] at this
  rw [this]
  unfold Tr.prog
  rw [ow (by rw [jv];exact e)]
 ·have:n=l.length - 1:=by omega
  subst this
  rw [hz,show l.length - 1=t.len by omega,E9]
abbrev amo (a:Int):Mem:=(a,0,0,0,0,0,0,0)
theorem amq (a:Int) (h:GI a):inM (amo a):=by
 intro x hx
 simp only [Gv,List.mem_cons,List.not_mem_nil,or_false] at hx
 rcases hx with rfl | rfl | rfl | rfl | rfl | rfl | rfl | rfl
 ·exact h
 all_goals exact ⟨by omega,by omega⟩
theorem CU {x y:Int} (q:Int) (h:x=y+q * 18446744073709551616):IntKind.i64.wrap x=IntKind.i64.wrap y:=by
 obtain ⟨q2,h2⟩:=TR y
 refine amm (FD _) (q2 - q) ?_
 rw [h2,h];grind
theorem PS (x:Int):∃ q:Int,IntKind.u64.wrap x=x+q * 18446744073709551616:=⟨-(x / 18446744073709551616),by rw [TN];omega⟩
theorem w_u (x:Int):IntKind.i64.wrap (IntKind.u64.wrap x)=IntKind.i64.wrap x:=by
 obtain ⟨q,h⟩:=PS x
 exact CU q h
theorem aqI (a b:Int):IntKind.i64.wrap (IntKind.u64.wrap (IntKind.u64.wrap a+IntKind.u64.wrap b))=IntKind.i64.wrap (a+b):=by
 rw [w_u]
 obtain ⟨q1,h1⟩:=PS a
 obtain ⟨q2,h2⟩:=PS b
 exact CU (q1+q2) (by rw [h1,h2];grind)
theorem aqJ (a b:Int):IntKind.i64.wrap (IntKind.u64.wrap (IntKind.u64.wrap a - IntKind.u64.wrap b))=IntKind.i64.wrap (a - b):=by
 rw [w_u]
 obtain ⟨q1,h1⟩:=PS a
 obtain ⟨q2,h2⟩:=PS b
 exact CU (q1 - q2) (by rw [h1,h2];grind)
theorem aqK (a b:Int):IntKind.i64.wrap (IntKind.u64.wrap (IntKind.u64.wrap a * IntKind.u64.wrap b))=IntKind.i64.wrap (a * b):=by
 rw [w_u]
 obtain ⟨q1,h1⟩:=PS a
 obtain ⟨q2,h2⟩:=PS b
 exact CU (q1 * b+q2 * a+q1 * q2 * 18446744073709551616) (by rw [h1,h2];grind)
theorem apj (a c:Int):IntKind.i64.wrap (IntKind.u64.wrap (IntKind.u64.wrap a * c))=IntKind.i64.wrap (a * c):=by
 rw [w_u]
 obtain ⟨q1,h1⟩:=PS a
 exact CU (q1 * c) (by rw [h1];grind)
theorem ar2 {v:Int} (h:GI v):IntKind.i64.wrap v=v:=Uu h.1 h.2
theorem R8 {R:Type} {b:Int} {x:Option R} (h:0 <= b):Uj b x=x:=by unfold Uj;rw [if_neg (by omega)]
theorem amr (k:Nat) {v n:Int} (hv:GI v) (h1:-63 <= n) (h2:n <= 63):alO k v n=some ((TS v n,()),()):=by
 unfold alO TS
 rw [Sd (by omega),Sd (by omega)]
 by_cases e:n<0
 ·rw [Sc e,if_neg (by omega),if_neg (by omega),Uu (n:=0 - n) (by omega) (by omega),R8 (by omega)]
  unfold Ul
  have:min (0 - n).toNat IntKind.i64.bits=(-n).toNat:=by
   have:IntKind.i64.bits=64:=rfl
   omega
  rw [this]
 ·rw [Sd e,R8 (by omega)]
  unfold Uk
  have:min n.toNat IntKind.u64.bits=n.toNat:=by
   have:IntKind.u64.bits=64:=rfl
   omega
  rw [this,apj]
  by_cases e0:n=0
  ·subst e0;rw [if_pos rfl];simp [ar2 hv]
  ·rw [if_neg e0,if_pos (by omega)]
theorem agY {n:Nat} (h1:1 <= n) (h:n <= 64):(9223372036854775808:Int)=2 ^ (n - 1) * 2 ^ (64 - n):=by
 rw [<- Int.pow_add,show n - 1+(64 - n)=63 by omega];decide
theorem ams (k:Nat) {v n:Int} (h1:1 <= n) (h2:n <= 64):alP k v n=some ((M4 v n,()),()):=by
 unfold alP
 rw [Sd (by omega),Sd (by omega),Uu (n:=64 - n) (by omega) (by omega),R8 (by omega),R8 (by omega)]
 obtain ⟨m,rfl⟩:∃ m:Nat,n=(m:Int):=⟨n.toNat,by omega⟩
 unfold Ul Uk M4
 have e:min ((64:Int) - (m:Int)).toNat IntKind.i64.bits=64 - m:=by
  have:IntKind.i64.bits=64:=rfl
  omega
 rw [e,Int.toNat_natCast]
 obtain ⟨q,hq⟩:=TR (v * 2 ^ (64 - m))
 have hin:=FD (v * 2 ^ (64 - m))
 rw [hq] at hin ⊢
 have hs0:(0:Int)<2 ^ (64 - m):=Int.pow_pos (by omega)
 have hn0:(0:Int)<2 ^ m:=Int.pow_pos (by omega)
 have hh:=Wm (n:=m) (by omega)
 have hp:=agY (n:=m) (by omega) (by omega)
 have hd:=aj4 (n:=m) (by omega)
 have ar3:v * 2 ^ (64 - m)+q * 18446744073709551616=(v+q * 2 ^ m) * 2 ^ (64 - m):=by rw [hd];grind
 rw [ar3] at hin ⊢
 rw [Int.fdiv_eq_ediv_of_nonneg _ (by omega),Int.mul_ediv_cancel _ (by omega)]
 have hmod:v % 2 ^ m=(v+q * 2 ^ m) % 2 ^ m:=by rw [Int.add_mul_emod_self_right]
 rw [hmod]
 generalize v+q * 2 ^ m=r at *
 unfold GI at hin
 have hr1:r<2 ^ (m - 1):=by
  by_cases f:r<2 ^ (m - 1)
  ·exact f
  ·have:=Int.mul_le_mul_of_nonneg_right (show (2:Int) ^ (m - 1) <= r by omega) (show (0:Int) <= 2 ^ (64 - m) by omega)
   omega
 have hr2:-(2 ^ (m - 1)) <= r:=by
  by_cases f:-(2 ^ (m - 1)) <= r
  ·exact f
  ·have h3:=Int.mul_le_mul_of_nonneg_right (show r <= -(2 ^ (m - 1)) - 1 by omega) (show (0:Int) <= 2 ^ (64 - m) by omega)
   have h4:(-(2 ^ (m - 1)) - 1) * (2:Int) ^ (64 - m) = -(2 ^ (m - 1) * 2 ^ (64 - m)) - 2 ^ (64 - m):=by grind
   omega
 congr 3
 by_cases f:0 <= r
 ·rw [Int.emod_eq_of_lt f (by omega),if_neg (by omega)]
 ·have:r % 2 ^ m=r+2 ^ m:=by
   rw [<- Int.add_emod_right,Int.emod_eq_of_lt (by omega) (by omega)]
  rw [this,if_pos (by omega)];omega
theorem Wn {k:Nat} {pc a b c d e f g h:Int} {ov:Bool} {t1 t2 t3 t4 t5 t6 t7 t8 t9:Int} {t10:Bool}:∀ (R:List gu) (j:Nat),R.length<j -> R.length <= 900 -> (∀ r∈R,r.2.2 <= 1000) ->
  Ya k j pc a b c d e f g h R.reverse ov t1 t2 t3 t4 t5 t6 t7 t8 t9 t10 (R.length:Int)=some ((((uh pc R).1,(a,b,c,d,e,f,g,h),(uh pc R).2.reverse,ov),()),())
 | [],j,hj,_,_=>by
  obtain ⟨j',rfl⟩:∃ j',j=j'+1:=⟨j - 1,by omega⟩
  rw [aaP,Y9,Sd (by simp)]
  rfl
 | r::R,j,hj,hl,hb=>by
  obtain ⟨j',rfl⟩:∃ j',j=j'+1:=⟨j - 1,by omega⟩
  simp only [List.length_cons] at hj hl
  have hlen:((R.reverse++[r]).length:Int)=(R.length:Int)+1:=by simp
  have hw:IntKind.i64.wrap (((r::R).length:Int) - 1)=(R.length:Int):=by simp only [List.length_cons];rw [Uu (by omega) (by omega)];omega
  have hrd:rd (R.reverse++[r]) (R.length:Int) (0,0,0)=r:=by rw [Qp,lg (by simp)];simp
  have htk:(R.reverse++[r]).take (R.length:Int).toNat=R.reverse:=by
   rw [Int.toNat_natCast,List.take_append_of_le_length (by simp)];exact List.take_of_length_le (by simp)
  have hup:∀ q:gu,upd (R.reverse++[r]) (R.length:Int) q=R.reverse++[q]:=fun q=>by
   rw [Mj,List.set_append_right _ _ (by simp)];simp
  have hr:=hb r List.mem_cons_self
  rw [List.reverse_cons,aaP,Y9,hw,Sc (by simp only [List.length_cons];omega),Lj (by omega) (by omega),hrd,htk,uh]
  by_cases e1:r.2.1<pc
  ·rw [Sc e1,if_pos e1,Lj (by omega) (by omega),Rx (by omega) (by omega) (by omega),hup]
   by_cases e2:r.2.2>0
   ·rw [Sc e2,if_pos e2,Uu (by omega) (by omega),List.reverse_cons]
   ·rw [Sd e2,if_neg e2,List.length_reverse]
    exact Wn R j' (by omega) (by omega) (fun q hq=>hb q (List.mem_cons_of_mem _ hq))
  ·rw [Sd e1,if_neg e1,List.reverse_cons]
theorem apk {x:I4} (h:l5 x=true):(0 <= x.2.1 /\ x.2.1<8) /\ 0 <= x.2.2.1:=by
 have h0:x.1=0 \/ x.1=11 -> x.2.1=0 /\ x.2.2.1=0:=fun e=>by
  rcases e with e | e <;> (have:x.2.1=0 /\ x.2.2.1=0 /\ x.2.2.2=0:=by simpa [l5,e] using h) <;> exact ⟨this.1,this.2.1⟩
 by_cases e0:x.1=0 \/ x.1=11
 ·have:=h0 e0;omega
 by_cases e1:x.1=1
 ·have:=afF h e1;omega
 by_cases e2:x.1=2 \/ x.1=3 \/ x.1=4
 ·have:=FE h e2;omega
 by_cases e5:x.1=5
 ·have:=O9 h e5;omega
 by_cases e6:x.1=6
 ·have:=KF h e6;omega
 by_cases e7:x.1=7
 ·have:=abe h e7;omega
 by_cases e8:x.1=8
 ·have:=acp h e8;omega
 by_cases e9:x.1=9 \/ x.1=10
 ·have:=amn h e9;omega
 exfalso
 have a0:(x.1==0)=false:=by rw [beq_eq_false_iff_ne];omega
 have a1:(x.1==11)=false:=by rw [beq_eq_false_iff_ne];omega
 have a2:(x.1==1)=false:=by rw [beq_eq_false_iff_ne];omega
 have a3:(x.1==2)=false:=by rw [beq_eq_false_iff_ne];omega
 have a4:(x.1==3)=false:=by rw [beq_eq_false_iff_ne];omega
 have a5:(x.1==4)=false:=by rw [beq_eq_false_iff_ne];omega
 have a6:(x.1==5)=false:=by rw [beq_eq_false_iff_ne];omega
 have a7:(x.1==6)=false:=by rw [beq_eq_false_iff_ne];omega
 have a8:(x.1==7)=false:=by rw [beq_eq_false_iff_ne];omega
 have a9:(x.1==8)=false:=by rw [beq_eq_false_iff_ne];omega
 have b0:(x.1==9)=false:=by rw [beq_eq_false_iff_ne];omega
 have b1:(x.1==10)=false:=by rw [beq_eq_false_iff_ne];omega
 simp [l5,a0,a1,a2,a3,a4,a5,a6,a7,a8,a9,b0,b1] at h
theorem amt {k:Nat} (hk:1000 <= k) {l:List I4} {n:Nat} {mem:Mem} {R:List gu} (hl:l.length <= 900) (hn:n<l.length) (hx:l5 (l.getD n i0)=true) (hR:R.length <= 100) (hb:∀ r∈R,r.2.2 <= 1000) (hm:inM mem) :
  ajx k l ((n:Int),mem,R.reverse,false)=some ((((go (l.getD n i0) n mem R).1,V5 (l.getD n i0) mem,(go (l.getD n i0) n mem R).2.reverse,(l.getD n i0).1==0),l.getD n i0,true,()),()):=by
 unfold ajx acg ab0
 simp only
 rw [cond_false,Sd (by omega),Sd (by omega),Qo hn,Qp,afk,Option.bind_some,hx]
 simp only [Bool.not_true,cond_false]
 rw [Ll (by simp only [List.length_reverse];omega)]
 simp only [Option.bind_some]
 rw [Qo hn,Qp]
 generalize l.getD n i0=x at hx ⊢
 have hab:=apk hx
 have htp:0 <= Int.tmod x.2.2.1 8 /\ Int.tmod x.2.2.1 8<((8:Nat):Int):=⟨Int.tmod_nonneg _ hab.2,Int.tmod_lt_of_pos _ (by omega)⟩
 rw [Rw hab.1.1 hab.1.2,Rw htp.1 htp.2]
 have key:∀ (pc:Int) (mem':Mem) (R':List gu) (ov:Bool),R'.length <= 900 -> (∀ r∈R',r.2.2 <= 1000) -> ((LP k pc mem'.1 mem'.2.1 mem'.2.2.1 mem'.2.2.2.1 mem'.2.2.2.2.1 mem'.2.2.2.2.2.1 mem'.2.2.2.2.2.2.1 mem'.2.2.2.2.2.2.2 R'.reverse ov).bind fun q=>some ((q.1.1,x,true,()),()))=some ((((uh pc R').1,mem',(uh pc R').2.reverse,ov),x,true,()),()):=fun pc mem' R' ov h1 h2=>by
  unfold LP
  rw [List.length_reverse,Wn R' k (by omega) h1 h2]
  rfl
 have htm:0 <= x.2.2.1 /\ x.2.2.1<8 -> Int.tmod x.2.2.1 8=x.2.2.1:=fun h=>Int.tmod_eq_of_lt h.1 h.2
 unfold go gU V5
 rw [Uu (n:=(n:Int)+1) (by omega) (by omega)]
 by_cases e0:x.1=0
 ·rw [show (x.1==0)=true by rw [e0];rfl,cond_true,if_pos e0,if_neg (by omega),if_neg (by omega),if_neg (by omega),if_neg (by omega),if_neg (by omega),if_neg (by omega)]
  exact key _ _ _ _ (by omega) hb
 rw [show (x.1==0)=false by simpa using e0,cond_false,if_neg e0]
 by_cases e1:x.1=1
 ·rw [show (x.1==1)=true by rw [e1];rfl,cond_true,if_neg (by omega),if_neg (by omega),if_pos e1]
  exact key _ _ _ _ (by omega) hb
 rw [show (x.1==1)=false by simpa using e1,cond_false,if_neg e1]
 by_cases e2:x.1=2
 ·have:=FE hx (.inl e2)
  rw [show (x.1==2)=true by rw [e2];rfl,cond_true,if_neg (by omega),if_neg (by omega),if_pos e2,htm this.2.1,aqI]
  exact key _ _ _ _ (by omega) hb
 rw [show (x.1==2)=false by simpa using e2,cond_false,if_neg e2]
 by_cases e3:x.1=3
 ·have:=FE hx (.inr (.inl e3))
  rw [show (x.1==3)=true by rw [e3];rfl,cond_true,if_neg (by omega),if_neg (by omega),if_pos e3,htm this.2.1,aqJ]
  exact key _ _ _ _ (by omega) hb
 rw [show (x.1==3)=false by simpa using e3,cond_false,if_neg e3]
 by_cases e4:x.1=4
 ·have:=FE hx (.inr (.inr e4))
  rw [show (x.1==4)=true by rw [e4];rfl,cond_true,if_neg (by omega),if_neg (by omega),if_pos e4,htm this.2.1,aqK]
  exact key _ _ _ _ (by omega) hb
 rw [show (x.1==4)=false by simpa using e4,cond_false,if_neg e4]
 by_cases e5:x.1=5
 ·have:=O9 hx e5
  rw [show (x.1==5)=true by rw [e5];rfl,cond_true,show Uq (α:=Int) 8 mem x.2.1 0=mg mem x.2.1 from rfl,amr k (aob hm _) this.2.2.1 this.2.2.2,Option.bind_some,if_neg (by omega),if_neg (by omega),if_pos e5]
  exact key _ _ _ _ (by omega) hb
 rw [show (x.1==5)=false by simpa using e5,cond_false,if_neg e5]
 by_cases e6:x.1=6
 ·have:=KF hx e6
  rw [show (x.1==6)=true by rw [e6];rfl,cond_true,show Uq (α:=Int) 8 mem x.2.1 0=mg mem x.2.1 from rfl,ams k this.2.2.1 this.2.2.2,Option.bind_some,if_neg (by omega),if_neg (by omega),if_pos e6]
  exact key _ _ _ _ (by omega) hb
 rw [show (x.1==6)=false by simpa using e6,cond_false,if_neg e6]
 by_cases e7:x.1=7
 ·have:=abe hx e7
  rw [show (x.1==7)=true by rw [e7];rfl,cond_true,show Uq (α:=Int) 8 mem x.2.1 0=mg mem x.2.1 from rfl,if_pos e7]
  by_cases e:mg mem x.2.1=0
  ·rw [show (mg mem x.2.1==0)=true by rw [e];rfl,cond_true,if_pos e,Uu (by omega) (by omega)]
   exact key _ _ _ _ (by omega) hb
  ·rw [show (mg mem x.2.1==0)=false by simpa using e,cond_false,if_neg e]
   exact key _ _ _ _ (by omega) hb
 rw [show (x.1==7)=false by simpa using e7,cond_false,if_neg e7]
 by_cases e8:x.1=8
 ·have h8:=acp hx e8
  rw [show (x.1==8)=true by rw [e8];rfl,cond_true,if_pos e8,Rz (by simp only [List.length_reverse,List.length_cons,List.length_nil];omega),Uu (n:=(n:Int)+x.2.2.1) (by omega) (by omega),Uu (n:=x.2.2.2 - 1) (by omega) (by omega),<- List.reverse_cons]
  exact key _ _ _ _ (by simp only [List.length_cons];omega) (fun r hr=>by
   rcases List.mem_cons.1 hr with rfl | hr
   ·simp only;omega
   ·exact hb r hr)
 rw [show (x.1==8)=false by simpa using e8,cond_false,if_neg e8]
 exact key _ _ _ _ (by omega) hb
abbrev Th:Type:=Int×(Int×Int)×(Int×Int)×(List Int×List Int)×(Int×List (Int×Int))×Int
abbrev j5:Th:=(0,(0,0),(0,0),([],[]),(0,[]),0)
abbrev Tb:Type:=(List Int×List Bool)×List Th
def Wo (x:Th):Prop:=x.2.2.2.1.1.length <= 100 /\ x.2.2.2.1.2.length <= 100 /\ x.2.2.2.2.1.2.length <= 100
def yh (t:Tb):Prop:=(t.1.1.length <= 100 /\ t.1.2.length <= 100 /\ t.2.length <= 100) /\ ∀ x∈t.2,Wo x
theorem afJ {k:Nat} {x:Th} (h:Wo x):ais k x=some ((x,()),()):=by
 obtain ⟨h1,h2,h3⟩:=h
 unfold ais
 simp only [GV,V7,aaf,aag]
 rw [Ll (by omega),Option.bind_some,Ll (by omega),Option.bind_some,Ll (by omega),Option.bind_some]
 try rfl
theorem FI {k:Nat} (hk:1000 <= k) {t:Tb} (h:yh t):V8 k t=some ((t,()),()):=by
 obtain ⟨⟨h1,h2,h3⟩,h4⟩:=h
 unfold V8
 simp only [GV,V7,aaf,aag]
 rw [Ll (by omega),Option.bind_some,Ll (by omega),Option.bind_some]
 have:=aaZ (L:=fun j (out:List Th) i=>NA k j t.1.1 t.1.2 out t.2 (t.2.length:Int) i) (n:=t.2.length) (fun i out=>out=t.2.take i)
  (fun i out=>out++[t.2.getD i j5]) (fun out=>some ((((t.1.1,t.1.2),out),()),()))
  (fun j i out hi hv=>by
   show NA k (j+1) t.1.1 t.1.2 out t.2 (t.2.length:Int) (i:Int)=_
   have hl:out.length <= 100:=by rw [hv,List.length_take];omega
   rw [aah,Xw,Sc (by omega),Qo hi,Qp,afJ (h4 _ (jm hi)),Option.bind_some,Rz (by simp only [List.length_cons,List.length_nil];omega),Mi (by omega)])
  (fun i out hi hv=>by rw [hv,List.take_add_one,getD_in hi,List.getElem?_eq_getElem hi];rfl)
  (fun j out hv=>by
   show NA k (j+1) t.1.1 t.1.2 out t.2 (t.2.length:Int) (t.2.length:Int)=_
   rw [aah,Xw,Sd (by omega)]) t.2.length 0 k [] (by omega) (by omega) (by simp)
 have hg:=LU (inv:=fun i (out:List Th)=>out=t.2.take i) (f:=fun i out=>out++[t.2.getD i j5]) (n:=t.2.length) (fun i out hi hv=>by rw [hv,List.take_add_one,getD_in hi,List.getElem?_eq_getElem hi];rfl) t.2.length 0 [] (by omega) (by simp)
 refine Eq.trans this ?_
 rw [hg,List.take_length]
def akc (x:Th):List Int:=([x.1,x.2.1.1,x.2.1.2,x.2.2.1.1,x.2.2.1.2,(x.2.2.2.1.1.length:Int)]++x.2.2.2.1.1++[(x.2.2.2.1.2.length:Int)]++x.2.2.2.1.2++[IntKind.i64.wrap x.2.2.2.2.1.1])++x.2.2.2.2.1.2.flatMap (fun w=>[w.1,IntKind.i64.wrap w.2])
theorem agZ (l:List (Int×Int)):(l.flatMap (fun w=>[w.1,IntKind.i64.wrap w.2])).length=2 * l.length:=by
 induction l with
 | nil=>rfl
 | cons x r ih=>simp only [List.flatMap_cons,List.length_append,ih,List.length_cons,List.length_nil];omega
theorem TV {k:Nat} {ws:List (Int×Int)} (hw:ws.length <= 100):∀ (m i j:Nat) (l:List Int),i+m=ws.length -> m<j -> l.length <= 1002+2 * i -> QO k j l ws (ws.length:Int) (i:Int)=XB k (l++(ws.drop i).flatMap (fun w=>[w.1,IntKind.i64.wrap w.2]))
 | 0,i,j,l,h,hj,hl=>by
  obtain ⟨j',rfl⟩:∃ j',j=j'+1:=⟨j - 1,by omega⟩
  rw [Vz,QN,Sd (by omega),drop_nil (by omega),List.flatMap_nil,List.append_nil]
  cases XB k l <;> rfl
 | m+1,i,j,l,h,hj,hl=>by
  obtain ⟨j',rfl⟩:∃ j',j=j'+1:=⟨j - 1,by omega⟩
  rw [Vz,QN,Sc (by omega),Qo (by omega),Qp,Rz (by simp only [List.length_cons,List.length_nil];omega),Mi (by omega),drop_cons (0,0) (show i<ws.length by omega),List.flatMap_cons,<- List.append_assoc]
  exact TV hw m (i+1) j' _ (by omega) (by omega) (by simp only [List.length_append,List.length_cons,List.length_nil];omega)
theorem Wp {k:Nat} (hk:1000 <= k) {x1 x2 x3 x4 x5 x8 x10:Int} {x6 x7:List Int} {ws:List (Int×Int)} {tw:List Int} (hw:ws.length <= 100) (ht:tw.length <= 100):∀ (m i j:Nat) (l:List Int),i+m=tw.length -> m<j -> l.length <= 500+i ->
  XD k j x1 x2 x3 x4 x5 x6 x7 x8 ws x10 l tw (tw.length:Int) (i:Int)=XB k (l++tw.drop i++[IntKind.i64.wrap x8]++ws.flatMap (fun w=>[w.1,IntKind.i64.wrap w.2]))
 | 0,i,j,l,h,hj,hl=>by
  obtain ⟨j',rfl⟩:∃ j',j=j'+1:=⟨j - 1,by omega⟩
  rw [aal,XC,Sd (by omega),drop_nil (by omega),List.append_nil,Rz (by simp only [List.length_cons,List.length_nil];omega)]
  have:=TV (k:=k) hw ws.length 0 k (l++[IntKind.i64.wrap x8]) (by omega) (by omega) (by simp only [List.length_append,List.length_cons,List.length_nil];omega)
  rw [List.drop_zero] at this
  exact this
 | m+1,i,j,l,h,hj,hl=>by
  obtain ⟨j',rfl⟩:∃ j',j=j'+1:=⟨j - 1,by omega⟩
  rw [aal,XC,Sc (by omega),Qo (by omega),Qp,Rz (by simp only [List.length_cons,List.length_nil];omega),Mi (by omega),Wp hk hw ht m (i+1) j' _ (by omega) (by omega) (by simp only [List.length_append,List.length_cons,List.length_nil];omega),drop_cons 0 (show i<tw.length by omega)]
  simp only [List.append_assoc,List.cons_append,List.nil_append]
theorem ag0 {k:Nat} (hk:1000 <= k) {x:Th} (h:Wo x):ab2 k x=XB k (akc x):=by
 obtain ⟨h1,h2,h3⟩:=h
 unfold ab2
 rw [Rz (by simp only [List.length_cons,List.length_nil];omega),Rz (by simp only [List.length_append,List.length_cons,List.length_nil];omega)]
 have:=Wp hk (x1:=x.1) (x2:=x.2.1.1) (x3:=x.2.1.2) (x4:=x.2.2.1.1) (x5:=x.2.2.1.2) (x8:=x.2.2.2.2.1.1) (x10:=x.2.2.2.2.2) (x6:=x.2.2.2.1.1) (x7:=x.2.2.2.1.2) h3 h2 x.2.2.2.1.2.length 0 k ([x.1,x.2.1.1,x.2.1.2,x.2.2.1.1,x.2.2.1.2,(x.2.2.2.1.1.length:Int)]++x.2.2.2.1.1++[(x.2.2.2.1.2.length:Int)]) (by omega) (by omega) (by simp only [List.length_append,List.length_cons,List.length_nil];omega)
 rw [List.drop_zero] at this
 exact this
theorem PU {k:Nat} {g3:Int -> List Int -> Int -> Int -> Option ((Int×Unit)×Unit)} {l:List Int} {n i:Int}:∀ (m a j:Nat) (h u:Int),a+m=8 -> m<j -> ∃ v,Xz k g3 j h u (a:Int) l n i=g3 v l n (IntKind.i64.wrap (i+1))
 | 0,a,j,h,u,ha,hj=>by
  obtain ⟨j',rfl⟩:∃ j',j=j'+1:=⟨j - 1,by omega⟩
  rw [aai,Xy,Sd (by omega)]
  exact ⟨h,rfl⟩
 | m+1,a,j,h,u,ha,hj=>by
  obtain ⟨j',rfl⟩:∃ j',j=j'+1:=⟨j - 1,by omega⟩
  rw [aai,Xy,Sc (by omega),Mi (by omega)]
  exact PU m (a+1) j' _ _ (by omega) (by omega)
theorem PW {k:Nat} (hk:1000 <= k) {l:List Int} (hl:l.length <= 100000):∀ (m i j:Nat) (h:Int),i+m=l.length -> m<j -> ∃ v,NC k j h l (l.length:Int) (i:Int)=some ((v,()),())
 | 0,i,j,h,ha,hj=>by
  obtain ⟨j',rfl⟩:∃ j',j=j'+1:=⟨j - 1,by omega⟩
  rw [aaj,XA,Sd (by omega)]
  exact ⟨h,rfl⟩
 | m+1,i,j,h,ha,hj=>by
  obtain ⟨j',rfl⟩:∃ j',j=j'+1:=⟨j - 1,by omega⟩
  rw [aaj,XA,Sc (by omega),Qo (by omega)]
  obtain ⟨v,hv⟩:=PU (k:=k) (g3:=fun h t8 t9 t10=>NC k j' h t8 t9 t10) (l:=l) (n:=(l.length:Int)) (i:=(i:Int)) 8 0 k h (IntKind.u64.wrap (rd l (i:Int) 0)) (by omega) (by omega)
  obtain ⟨w,hw⟩:=PW hk hl m (i+1) j' v (by omega) (by omega)
  refine ⟨w,Eq.trans hv ?_⟩
  show NC k j' v l (l.length:Int) (IntKind.i64.wrap ((i:Int)+1))=_
  rw [Mi (by omega)];exact hw
theorem ag1 {k:Nat} (hk:1000 <= k) {l:List Int} (hl:l.length<k) (hl2:l.length <= 100000):∃ v,XB k l=some ((v,()),()):=by
 unfold XB
 exact PW hk hl2 l.length 0 k _ (by omega) (by omega)
theorem akd {x:Th} (h:Wo x):(akc x).length <= 500:=by
 obtain ⟨h1,h2,h3⟩:=h
 have:=agZ x.2.2.2.2.1.2
 unfold akc
 simp only [List.length_append,List.length_cons,List.length_nil] at this ⊢
 omega
noncomputable def TY (k:Nat) (x:Th):Int:=match XB k (akc x) with | some q=>q.1.1 | none=>0
theorem Yx {k:Nat} (hk:1000 <= k) {x:Th} (h:Wo x):ab2 k x=some ((TY k x,()),()):=by
 rw [ag0 hk h]
 have hl:=akd h
 obtain ⟨v,hv⟩:=ag1 hk (l:=akc x) (by omega) (by omega)
 unfold TY;rw [hv]
noncomputable def zw (k:Nat) (x:Th):Th:=(x.1,x.2.1,x.2.2.1,x.2.2.2.1,x.2.2.2.2.1,TY k x)
theorem Yy {k:Nat} (hk:1000 <= k) {x:Th} (h:Wo x):ab3 k x=some ((zw k x,()),()):=by
 unfold ab3;rw [Yx hk h];rfl
def ED (t:Tb) (i:Int):Bool:=decide (0 <= i)&&(decide (i<(t.2.length:Int))&&(rd t.2 i j5).1 != 0)
theorem R9 {k:Nat} {t:Tb} {i:Int}:ab1 k t i=some ((ED t i,()),()):=by
 unfold ab1 ED
 by_cases h:0 <= i
 ·rw [Sc h,decide_eq_true h]
  by_cases h2:i<(t.2.length:Int)
  ·rw [Sc h2,decide_eq_true h2,Lj h h2];rfl
  ·rw [Sd h2,decide_eq_false h2];rfl
 ·rw [Sd h,decide_eq_false h];rfl
noncomputable def ag2 (k:Nat) (w x:Th):Th :=
 if w.2.2.2.2.2=TY k w then zw k (w.1,w.2.1,x.2.2) else ((zw k (w.1,w.2.1,x.2.2)).1,(zw k (w.1,w.2.1,x.2.2)).2.1,(zw k (w.1,w.2.1,x.2.2)).2.2.1,(zw k (w.1,w.2.1,x.2.2)).2.2.2.1,(zw k (w.1,w.2.1,x.2.2)).2.2.2.2.1,Uo .u32 (zw k (w.1,w.2.1,x.2.2)).2.2.2.2.2)
noncomputable def KG (k:Nat) (t:Tb) (i:Int) (x:Th):Tb:=if ED t i=true then (t.1,upd t.2 i (ag2 k (rd t.2 i j5) x)) else t
theorem DJ {t:Tb} {i:Int} (h:ED t i=true):0 <= i /\ i<(t.2.length:Int) /\ (rd t.2 i j5).1≠0:=by
 unfold ED at h
 simp only [Bool.and_eq_true,decide_eq_true_eq,bne_iff_ne,ne_eq] at h
 exact ⟨h.1,h.2.1,h.2.2⟩
theorem OC {t:List Th} {i:Int} (h0:0 <= i) (h1:i<(t.length:Int)):rd t i j5∈t:=by
 obtain ⟨n,rfl⟩:∃ n:Nat,i=(n:Int):=⟨i.toNat,by omega⟩
 rw [Qp];exact jm (by omega)
theorem JA {k:Nat} (hk:1000 <= k) {t:Tb} {i:Int} {x:Th} (ht:yh t) (hx:Wo x):JG k t i x=some ((KG k t i x,()),()):=by
 unfold JG KG
 rw [FI hk ht,Option.bind_some,R9,Option.bind_some]
 cases h:ED t i with
 | false=>rfl
 | true =>
  obtain ⟨h0,h1,h2⟩:=DJ h
  have hw:Wo (rd t.2 i j5):=ht.2 _ (OC h0 h1)
  simp only [Bool.not_true,cond_false,if_true]
  rw [Lj h0 h1,afJ (x:=((rd t.2 i j5).1,(rd t.2 i j5).2.1,x.2.2)) hx,Option.bind_some]
  simp only
  rw [Yy hk (x:=((rd t.2 i j5).1,(rd t.2 i j5).2.1,x.2.2)) hx,Option.bind_some,Yx hk hw,Option.bind_some,Lj h0 h1,Lj h0 h1]
  unfold ag2
  by_cases e:(rd t.2 i j5).2.2.2.2.2=TY k (rd t.2 i j5)
  ·rw [if_pos e,show ((rd t.2 i j5).2.2.2.2.2 != TY k (rd t.2 i j5))=false by simpa using e,cond_false]
   try rfl
  ·rw [if_neg e,show ((rd t.2 i j5).2.2.2.2.2 != TY k (rd t.2 i j5))=true by simpa using e,cond_true]
   try rfl
def aoc (x:Th):Th:=(x.1,x.2.1,x.2.2.1,x.2.2.2.1,x.2.2.2.2.1,Uo .u32 x.2.2.2.2.2)
def abg (t:Tb) (i:Int):Tb:=if ED t i=true then (t.1,upd t.2 i (aoc (rd t.2 i j5))) else t
theorem amu {k:Nat} (hk:1000 <= k) {t:Tb} {i:Int} (ht:yh t):alY k t i=some ((abg t i,ED t i,()),()):=by
 unfold alY abg
 rw [FI hk ht,Option.bind_some,R9,Option.bind_some]
 cases h:ED t i with
 | false=>rfl
 | true =>
  obtain ⟨h0,h1,h2⟩:=DJ h
  simp only [Bool.not_true,cond_false,if_true]
  rw [Lj h0 h1,Lj h0 h1];rfl
def xq (x:Th):List Int:=x.2.2.2.1.2++x.2.2.2.2.1.2.map (·.1)
theorem amv {k:Nat} (hk:1000 <= k) {f:Int×List (Int×Int)} (h:f.2.length <= 100):alv k f=some (((0,[]),f.2.map (·.1),()),()):=by
 unfold alv
 have:=aaZ (L:=fun j (who:List Int) i=>NI k j 0 who f.2 (f.2.length:Int) i) (n:=f.2.length) (fun i who=>who=(f.2.take i).map (·.1))
  (fun i who=>who++[(f.2.getD i (0,0)).1]) (fun who=>some ((((0,[]),who,()),())))
  (fun j i who hi hv=>by
   show NI k (j+1) 0 who f.2 (f.2.length:Int) (i:Int)=_
   have hl:who.length <= 100:=by rw [hv,List.length_map,List.length_take];omega
   rw [aaD,XV,Sc (by omega),Qo hi,Qp,Rz (by simp only [List.length_cons,List.length_nil];omega),Mi (by omega)])
  (fun i who hi hv=>by rw [hv,List.take_add_one,getD_in hi,List.getElem?_eq_getElem hi,List.map_append];rfl)
  (fun j who hv=>by
   show NI k (j+1) 0 who f.2 (f.2.length:Int) (f.2.length:Int)=_
   rw [aaD,XV,Sd (by omega)]) f.2.length 0 k [] (by omega) (by omega) (by simp)
 have hg:=LU (inv:=fun i (who:List Int)=>who=(f.2.take i).map (·.1)) (f:=fun i who=>who++[(f.2.getD i (0,0)).1]) (n:=f.2.length) (fun i who hi hv=>by rw [hv,List.take_add_one,getD_in hi,List.getElem?_eq_getElem hi,List.map_append];rfl) f.2.length 0 [] (by omega) (by simp)
 refine Eq.trans this ?_
 rw [hg,List.take_length]
theorem amw {k:Nat} {b:List Int×List Int} (h:b.2.length <= 100):alu k b=some ((([],[]),b.2,()),()):=by
 unfold alu
 simp only [GV,V7,aaf,aag]
 rw [Ll (by omega)];rfl
theorem amx {k:Nat} {n:Int} (h0:0 <= n) (h1:n <= 100000):alx k n=some (([],()),()):=by
 unfold alx
 rw [Sd (by omega),Uu (by omega) (by omega)]
 by_cases e:n - 0>0
 ·rw [Sc e]
  unfold az
  rw [if_pos]
  ·dsimp only
   rw [Rx (by omega) (by omega) (by omega)];simp
  ·simp only [Bool.and_eq_true,decide_eq_true_eq,List.length_nil];omega
 ·rw [Sd e]
theorem ake {k:Nat} (hk:1000 <= k) {a b:List Int} (ha:a.length <= 1000) (hb:b.length <= 1000):aly k [a,b]=some ((a++b,()),()):=by
 unfold aly
 obtain ⟨k',rfl⟩:∃ k',k=k'+3:=⟨k - 3,by omega⟩
 have e0:rd [a,b] 0 []=a:=rfl
 have e1:rd [a,b] 1 []=b:=rfl
 have w1:IntKind.i64.wrap (0+1)=1:=rfl
 have w2:IntKind.i64.wrap (1+1)=2:=rfl
 have hlen:(([a,b]:List (List Int)).length:Int)=2:=rfl
 rw [hlen,SV,SS,Sc (by omega),Lj (by omega) (by omega),e0,w1,Uu (by omega) (by omega),Sd (by omega),SV,SS,Sc (by omega),Lj (by omega) (by omega),e1,w2,Uu (by omega) (by omega),Sd (by omega),SV,SS,Sd (by omega),amx (by omega) (by omega),Option.bind_some,hlen]
 simp only
 rw [NJ,LK,Sc (by omega),Lj (by omega) (by omega),e0,w1,Rz (by simp only [List.length_nil];omega),NJ,LK,Sc (by omega),Lj (by omega) (by omega),e1,w2,Rz (by simp only [List.nil_append];omega),NJ,LK,Sd (by omega),List.nil_append]
theorem afK {k:Nat} (hk:1000 <= k) {x:Th} (h:Wo x):agG k x=some ((xq x,()),()):=by
 obtain ⟨h1,h2,h3⟩:=h
 unfold agG xq
 rw [amw h2,Option.bind_some,amv hk h3,Option.bind_some]
 simp only
 rw [ake hk (by omega) (by rw [List.length_map];omega)];rfl
noncomputable def trn (k:Nat) (x:Th):Bool:=x.1 != 0&&x.2.2.2.2.2 != TY k x
noncomputable def frT (k:Nat) (x:Th):Th:=zw k (x.1,x.2.1,(if x.1=1 then x.2.2.1.1 else 0,0),([],[]),(0,[]),0)
noncomputable def YX (k:Nat) (l:List Th):Nat -> Nat -> List Th×List Int×List (List Int) -> List Th×List Int×List (List Int)
 | 0,_,s=>s
 | m+1,i,s=>YX k l m (i+1) (if trn k (l.getD i j5)=true then (s.1.set i (frT k (l.getD i j5)),s.2.1++[(i:Int)],s.2.2++[xq (l.getD i j5)]) else s)
theorem Wq {k:Nat} (hk:1000 <= k) {t:Tb} (ht:yh t):∀ (m i j:Nat) (s:List Th×List Int×List (List Int)),i+m=t.2.length -> m<j -> s.1.length=t.2.length -> s.2.1.length <= i -> s.2.2.length <= i ->
  TA k j t.1.1 t.1.2 t.2 t.1.1 t.1.2 s.1 s.2.1 s.2.2 t.2 (t.2.length:Int) (i:Int)=some (((t.1,(YX k t.2 m i s).1),(YX k t.2 m i s).2.1,(YX k t.2 m i s).2.2,()),())
 | 0,i,j,s,h,hj,h1,h2,h3=>by
  obtain ⟨j',rfl⟩:∃ j',j=j'+1:=⟨j - 1,by omega⟩
  rw [aaI,Y1,Sd (by omega),YX]
 | m+1,i,j,s,h,hj,h1,h2,h3=>by
  obtain ⟨j',rfl⟩:∃ j',j=j'+1:=⟨j - 1,by omega⟩
  obtain ⟨⟨hl1,hl2,hl3⟩,hsm⟩:=ht
  have hi:i<t.2.length:=by omega
  have hx:=hsm _ (jm (z:=j5) hi)
  have ih:=Wq hk ⟨⟨hl1,hl2,hl3⟩,hsm⟩ m (i+1) j'
  have hth:ED ((t.1.1,t.1.2),t.2) (i:Int)=((t.2.getD i j5).1 != 0):=by
   unfold ED;rw [decide_eq_true (show (0:Int) <= (i:Int) by omega),decide_eq_true (show (i:Int)<(t.2.length:Int) by omega),Qp];rfl
  rw [aaI,Y1,Sc (by omega),Qo hi,R9,Option.bind_some,hth,Qp,Mi (by omega),YX]
  unfold trn
  cases h0:(t.2.getD i j5).1 != 0 with
  | false =>
   simp only [Bool.not_false,cond_true,Bool.false_and,Bool.false_eq_true,if_false]
   exact ih s (by omega) (by omega) h1 (by omega) (by omega)
  | true =>
   simp only [Bool.not_true,cond_false,Bool.true_and]
   rw [Yx hk hx,Option.bind_some]
   simp only
   by_cases e:(t.2.getD i j5).2.2.2.2.2=TY k (t.2.getD i j5)
   ·rw [show ((t.2.getD i j5).2.2.2.2.2==TY k (t.2.getD i j5))=true by simpa using e,cond_true,if_neg (by simpa using e)]
    exact ih s (by omega) (by omega) h1 (by omega) (by omega)
   ·rw [show ((t.2.getD i j5).2.2.2.2.2==TY k (t.2.getD i j5))=false by simpa using e,cond_false,if_pos (by simpa using e)]
    have fin:∀ y:Th,Wo y -> y=(( t.2.getD i j5).1,(t.2.getD i j5).2.1,(if (t.2.getD i j5).1=1 then (t.2.getD i j5).2.2.1.1 else 0,0),([],[]),(0,[]),0) ->
      SY k (fun t1 t2 t3 out abZ ao0 places who t11 t12 t13=>TA k j' t1 t2 t3 out abZ ao0 places who t11 t12 t13) t.1.1 t.1.2 t.2 t.1.1 t.1.2 s.1 s.2.1 s.2.2 (i:Int) (t.2.getD i j5).1 (t.2.getD i j5).2.1.1 (t.2.getD i j5).2.1.2 (t.2.getD i j5).2.2.1.1 (t.2.getD i j5).2.2.1.2 (t.2.getD i j5).2.2.2.1.1 (t.2.getD i j5).2.2.2.1.2 (t.2.getD i j5).2.2.2.2.1.1 (t.2.getD i j5).2.2.2.2.1.2 (t.2.getD i j5).2.2.2.2.2 y.1 y.2.1.1 y.2.1.2 y.2.2.1.1 y.2.2.1.2 y.2.2.2.1.1 y.2.2.2.1.2 y.2.2.2.2.1.1 y.2.2.2.2.1.2 y.2.2.2.2.2 t.2 (t.2.length:Int) (i:Int) =
      some (((t.1,(YX k t.2 m (i+1) (s.1.set i (frT k (t.2.getD i j5)),s.2.1++[(i:Int)],s.2.2++[xq (t.2.getD i j5)])).1),(YX k t.2 m (i+1) (s.1.set i (frT k (t.2.getD i j5)),s.2.1++[(i:Int)],s.2.2++[xq (t.2.getD i j5)])).2.1,(YX k t.2 m (i+1) (s.1.set i (frT k (t.2.getD i j5)),s.2.1++[(i:Int)],s.2.2++[xq (t.2.getD i j5)])).2.2,()),()):=fun y hy hye=>by
     unfold SY
     have e1:ab3 k (y.1,(y.2.1.1,y.2.1.2),(y.2.2.1.1,y.2.2.1.2),(y.2.2.2.1.1,y.2.2.2.1.2),(y.2.2.2.2.1.1,y.2.2.2.2.1.2),y.2.2.2.2.2)=some ((zw k y,()),()):=Yy hk hy
     rw [e1,Option.bind_some,Qo (by omega),Rz (by simp only [List.length_cons,List.length_nil];omega)]
     have e2:agG k ((t.2.getD i j5).1,((t.2.getD i j5).2.1.1,(t.2.getD i j5).2.1.2),((t.2.getD i j5).2.2.1.1,(t.2.getD i j5).2.2.1.2),((t.2.getD i j5).2.2.2.1.1,(t.2.getD i j5).2.2.2.1.2),((t.2.getD i j5).2.2.2.2.1.1,(t.2.getD i j5).2.2.2.2.1.2),(t.2.getD i j5).2.2.2.2.2)=some ((xq (t.2.getD i j5),()),()):=afK hk hx
     rw [e2,Option.bind_some,Rz (by simp only [List.length_cons,List.length_nil];omega),Mi (by omega),Mj]
     have e3:zw k y=frT k (t.2.getD i j5):=by rw [hye];rfl
     simp only
     rw [e3]
     exact ih (s.1.set i (frT k (t.2.getD i j5)),s.2.1++[(i:Int)],s.2.2++[xq (t.2.getD i j5)]) (by omega) (by omega) (by simp only [List.length_set];exact h1) (by simp only [List.length_append,List.length_cons,List.length_nil];omega) (by simp only [List.length_append,List.length_cons,List.length_nil];omega)
    unfold agE
    by_cases e1:(t.2.getD i j5).1=1
    ·rw [show ((t.2.getD i j5).1==1)=true by rw [e1];rfl,cond_true,Option.bind_some]
     simp only [cond_true]
     exact fin ((t.2.getD i j5).1,(t.2.getD i j5).2.1,((t.2.getD i j5).2.2.1.1,0),([],[]),(0,[]),0) ⟨by simp,by simp,by simp⟩ (by rw [if_pos e1])
    ·rw [show ((t.2.getD i j5).1==1)=false by simpa using e1,cond_false,Option.bind_some]
     simp only [cond_false]
     exact fin ((t.2.getD i j5).1,(t.2.getD i j5).2.1,(0,0),([],[]),(0,[]),0) ⟨by simp,by simp,by simp⟩ (by rw [if_neg e1])
theorem amy {k:Nat} (hk:1000 <= k) {t:Tb} (ht:yh t):alF k t=some (((t.1,(YX k t.2 t.2.length 0 (t.2,[],[])).1),(YX k t.2 t.2.length 0 (t.2,[],[])).2.1,(YX k t.2 t.2.length 0 (t.2,[],[])).2.2,()),()):=by
 unfold alF
 rw [FI hk ht,Option.bind_some]
 have:=ht.1
 exact Wq hk ht t.2.length 0 k (t.2,[],[]) (by omega) (by omega) rfl (by simp) (by simp)
abbrev iq:Type:=List Int×List Bool
def PX (s:iq):Int:=qm (fun b=>b==false) (s.2.take (min s.1.length s.2.length))
def uj (s:iq):iq×(Int×Int)×Bool :=
 if PX s<0 then (s,(0,0),false)
 else ((s.1.set (PX s).toNat (IntKind.i64.wrap (s.1.getD (PX s).toNat 0+1)),s.2.set (PX s).toNat true),(PX s,IntKind.i64.wrap (s.1.getD (PX s).toNat 0+1)),true)
theorem acy {α:Type} (f:α -> Bool) (xs:List α):qm f xs = -1 \/ ∃ n:Nat,n<xs.length /\ qm f xs=(n:Int):=by
 unfold qm
 cases h:xs.findIdx? f with
 | none=>exact .inl rfl
 | some n =>
  rw [List.findIdx?_eq_some_iff_getElem] at h
  obtain ⟨hn,_⟩:=h
  exact .inr ⟨n,hn,rfl⟩
theorem afL {k:Nat} (hk:1000 <= k) {s:List Bool} (h:s.length <= 900):aiF k s false=some ((qm (fun b=>b==false) s,()),()):=by
 unfold aiF
 refine sw (fun j i=>ND k j s false (s.length:Int) i) s false _ (fun j i hi=>?_) (fun j=>?_) k (by omega)
 ·show ND k (j+1) s false (s.length:Int) (i:Int)=_
  rw [aaq,XG,Sc (by omega),Qo hi,Mi (by omega),Qp]
  cases s.getD i false <;> rfl
 ·show ND k (j+1) s false (s.length:Int) (s.length:Int)=_
  rw [aaq,XG,Sd (by omega)]
theorem amA {k:Nat} (hk:1000 <= k) {s:iq} (h1:s.1.length <= 100) (h2:s.2.length <= 100):alo k s=some (((uj s).1,(uj s).2.1,(uj s).2.2,()),()):=by
 unfold alo aiC aiD
 simp only [GV,V7,aaf,aag]
 rw [Ll (by omega),Option.bind_some,Ll (by omega),Option.bind_some,Option.bind_some,Option.bind_some,Sg]
 simp only
 have hm:min (s.1.length:Int) (s.2.length:Int)=((min s.1.length s.2.length:Nat):Int):=by omega
 have hsub:sub s.2 0 ((min s.1.length s.2.length:Nat):Int)=s.2.take (min s.1.length s.2.length):=by simp [sub]
 rw [hm,Rx (by omega) (by omega) (by omega),hsub,afL hk (by rw [List.length_take];omega),Option.bind_some]
 unfold uj
 rcases acy (fun b=>b==false) (s.2.take (min s.1.length s.2.length)) with e | ⟨n,hn,e⟩
 ·have hf:PX s = -1:=e
  rw [hf,if_pos (by omega)]
  simp only [e]
  rw [Sc (by omega)]
 ·have hf:PX s=(n:Int):=e
  rw [List.length_take] at hn
  rw [hf,if_neg (by omega)]
  simp only [e]
  rw [Sd (by omega),Qo (by omega),Qo (by omega),Qo (by omega),Lj (by omega) (by rw [Mk];omega)]
  simp only [Qp,Mj,Int.toNat_natCast]
  rw [mh,if_pos ⟨rfl,by omega⟩]
def PY (c:Int) (l:List Th):Nat:=l.countP (fun x=>x.1==c)
def DU (c:Int) (h:Int×Int):Th:=(c,h,(if c=1 then 8 else 0,0),([],[]),(0,[]),0)
noncomputable def BD (k:Nat) (t:Tb) (c:Int):Tb×(Int×Int)×Bool :=
 if 4 <= PY c t.2 \/ (uj t.1).2.2=false \/ (t.2.length:Int) <= (uj t.1).2.1.1 then (t,(0,0),false)
 else (((uj t.1).1,upd t.2 (uj t.1).2.1.1 (zw k (DU c (uj t.1).2.1))),(uj t.1).2.1,true)
theorem akf (s:iq):0 <= (uj s).2.1.1:=by
 unfold uj
 split
 ·simp
 ·rename_i h;simp only;omega
theorem Ws {k:Nat} (hk:1000 <= k) {c a b:Int} {mo:List (Int×Int)} {t:Tb} (hmo:Us (.int .i64) (.int .i64) c mo 0=4) (h1:t.1.1.length <= 100) (h2:t.1.2.length <= 100) (h3:t.2.length <= 100):∀ (m i j n:Nat),i+m=t.2.length -> m<j -> n <= i ->
  XI k j c a b mo t.1.1 t.1.2 t.2 (n:Int) t.2 (t.2.length:Int) (i:Int) =
   (if 4 <= n+PY c (t.2.drop i) \/ (uj t.1).2.2=false \/ (t.2.length:Int) <= (uj t.1).2.1.1 then some ((t,(0,0),false,()),()) else some ((((uj t.1).1,upd t.2 (uj t.1).2.1.1 (zw k (DU c (uj t.1).2.1))),(uj t.1).2.1,true,()),()))
 | 0,i,j,n,h,hj,hn=>by
  obtain ⟨j',rfl⟩:∃ j',j=j'+1:=⟨j - 1,by omega⟩
  rw [aar,XH,Sd (by omega),amA hk h1 h2,Option.bind_some,drop_nil (by omega),hmo]
  have hma:PY c []=0:=rfl
  rw [hma,Nat.add_zero]
  simp only
  have e0:((t.1.1,t.1.2):iq)=t.1:=rfl
  rw [e0]
  by_cases e:4 <= n
  ·rw [Sc (by omega),if_pos (.inl e)]
  ·rw [Sd (by omega)]
   cases hok:(uj t.1).2.2 with
   | false=>rw [if_pos (.inr (.inl rfl))];rfl
   | true =>
    rw [Bool.not_true,cond_false]
    by_cases e2:(t.2.length:Int) <= (uj t.1).2.1.1
    ·rw [Sc (by omega),if_pos (.inr (.inr e2))]
    ·have hat:=akf t.1
     rw [Sd (by omega),if_neg (by rintro (q | q | q);exact e q;cases q;exact e2 q)]
     have hfr:agE k c (uj t.1).2.1=some ((DU c (uj t.1).2.1,()),()):=by
      unfold agE DU
      by_cases e3:c=1
      ·rw [show (c==1)=true by rw [e3];rfl,cond_true,if_pos e3]
      ·rw [show (c==1)=false by simpa using e3,cond_false,if_neg e3]
     rw [hfr,Option.bind_some,Yy hk ⟨by simp [DU],by simp [DU],by simp [DU]⟩,Option.bind_some,Lj hat (by omega)]
 | m+1,i,j,n,h,hj,hn=>by
  obtain ⟨j',rfl⟩:∃ j',j=j'+1:=⟨j - 1,by omega⟩
  have hi:i<t.2.length:=by omega
  have ih:=Ws hk (c:=c) (a:=a) (b:=b) hmo h1 h2 h3 m (i+1) j'
  have hc:PY c (t.2.getD i j5::t.2.drop (i+1))=PY c (t.2.drop (i+1))+(if ((t.2.getD i j5).1==c)=true then 1 else 0):=by unfold PY;rw [List.countP_cons]
  rw [aar,XH,Sc (by omega),Qo hi,Qp,Mi (by omega),Mi (by omega),drop_cons j5 hi,hc]
  cases e:(t.2.getD i j5).1==c with
  | true =>
   simp only [cond_true,if_true]
   rw [ih (n+1) (by omega) (by omega) (by omega),show n+(PY c (t.2.drop (i+1))+1)=n+1+PY c (t.2.drop (i+1)) by omega]
  | false =>
   simp only [cond_false,Bool.false_eq_true,if_false,Nat.add_zero]
   exact ih n (by omega) (by omega) (by omega)
theorem amB {k:Nat} (hk:1000 <= k) {t:Tb} {c:Int} (ht:yh t) (hc:c=1 \/ c=2 \/ c=3):alp k t c=some (((BD k t c).1,(BD k t c).2.1,(BD k t c).2.2,()),()):=by
 unfold alp
 rw [FI hk ht,Option.bind_some]
 obtain ⟨⟨h1,h2,h3⟩,_⟩:=ht
 have hmo:Us (.int .i64) (.int .i64) c (vL (.int .i64) (.int .i64) 3 4 (vL (.int .i64) (.int .i64) 2 4 (vL (.int .i64) (.int .i64) 1 4 ([]:List (Int×Int))))) 0=4:=by
  rcases hc with rfl | rfl | rfl <;> rfl
 have:=Ws hk (c:=c) (a:=0) (b:=0) hmo h1 h2 h3 t.2.length 0 k 0 (by omega) (by omega) (by omega)
 rw [List.drop_zero,Nat.zero_add] at this
 refine Eq.trans this ?_
 unfold BD
 split <;> rfl
def newT:Tb:=((List.replicate 12 0,List.replicate 12 false),List.replicate 12 j5)
theorem afM:Wo j5:=⟨by simp,by simp,by simp⟩
theorem amC:yh newT:=⟨⟨by simp [newT],by simp [newT],by simp [newT]⟩,fun x hx=>by
 rw [List.eq_of_mem_replicate hx];exact afM⟩
theorem afN {t:Tb} {i:Int} {x:Th} (ht:yh t) (hx:Wo x):yh (t.1,upd t.2 i x):=by
 obtain ⟨⟨h1,h2,h3⟩,h4⟩:=ht
 refine ⟨⟨h1,h2,by rw [Mk];exact h3⟩,fun y hy=>?_⟩
 rcases List.mem_or_eq_of_mem_set hy with q | q
 ·exact h4 y q
 ·rw [q];exact hx
noncomputable def KH (k:Nat) (l:List Th):Nat -> Nat
 | 0=>0
 | i+1=>KH k l i+(if trn k (l.getD i j5)=true then 1 else 0)
structure apl (k:Nat) (l:List Th) (i:Nat) (s:List Th×List Int×List (List Int)):Prop where
 len:s.1.length=l.length
 len1:s.2.1.length=KH k l i
 len2:s.2.2.length=KH k l i
 told:∀ j,j<i -> trn k (l.getD j j5)=true -> s.2.1.getD (KH k l j) 0=(j:Int) /\ s.2.2.getD (KH k l j) []=xq (l.getD j j5) /\ s.1.getD j j5=frT k (l.getD j j5) /\ KH k l j<KH k l i
 kept:∀ j,(i <= j \/ trn k (l.getD j j5)=false) -> s.1.getD j j5=l.getD j j5
theorem afO {k:Nat} {l:List Th}:∀ (m i:Nat) (s:List Th×List Int×List (List Int)),i+m=l.length -> apl k l i s -> apl k l l.length (YX k l m i s)
 | 0,i,s,h,hi=>by
  have:i=l.length:=by omega
  subst this;exact hi
 | m+1,i,s,h,hi=>by
  rw [YX]
  refine afO m (i+1) _ (by omega) ?_
  obtain ⟨h1,h2,h3,h4,h5⟩:=hi
  by_cases e:trn k (l.getD i j5)=true
  ·rw [if_pos e]
   have hc:KH k l (i+1)=KH k l i+1:=by rw [KH,if_pos e]
   refine ⟨by rw [List.length_set];exact h1,by rw [hc,List.length_append,h2];rfl,by rw [hc,List.length_append,h3];rfl,fun j hj ht=>?_,fun j hj=>?_⟩
   ·by_cases ej:j=i
    ·subst ej
     simp only
     rw [lg (by omega),lg (by omega),h2,h3,Nat.sub_self,mh,if_pos ⟨rfl,by omega⟩]
     exact ⟨rfl,rfl,rfl,by omega⟩
    ·obtain ⟨q1,q2,q3,q4⟩:=h4 j (by omega) ht
     simp only
     rw [ow (by omega),ow (by omega),mh,if_neg (by omega)]
     exact ⟨q1,q2,q3,by omega⟩
   ·simp only
    rw [mh,if_neg]
    ·exact h5 j (hj.imp (fun q=>(by omega)) id)
    ·rintro ⟨rfl,_⟩
     rcases hj with q | q
     ·omega
     ·rw [e] at q;cases q
  ·rw [if_neg e]
   have hc:KH k l (i+1)=KH k l i:=by rw [KH,if_neg e];rfl
   refine ⟨h1,by rw [hc];exact h2,by rw [hc];exact h3,fun j hj ht=>?_,fun j hj=>h5 j (hj.imp (fun q=>(by omega)) id)⟩
   by_cases ej:j=i
   ·subst ej;exact absurd ht e
   ·rw [hc];exact h4 j (by omega) ht
theorem apm (k:Nat) (l:List Th):apl k l l.length (YX k l l.length 0 (l,[],[])) :=
 afO l.length 0 (l,[],[]) (by omega) ⟨rfl,rfl,rfl,fun j hj=>by omega,fun j _=>rfl⟩
theorem ag3 (s:iq):(uj s).1.1.length=s.1.length /\ (uj s).1.2.length=s.2.length:=by
 unfold uj
 split
 ·exact ⟨rfl,rfl⟩
 ·simp
theorem amD {l:List Th} {i:Int} {x:Th} {j:Nat} (hi:0 <= i):(upd l i x).getD j j5=if i.toNat=j /\ j<l.length then x else l.getD j j5:=by unfold upd;rw [mh]
theorem akg {t:Tb} {i:Nat} (h:i<t.2.length):ED t (i:Int)=((t.2.getD i j5).1 != 0):=by
 unfold ED;rw [decide_eq_true (show (0:Int) <= (i:Int) by omega),decide_eq_true (show (i:Int)<(t.2.length:Int) by omega),Qp];rfl
theorem amE {k:Nat} {w x:Th} (h:Wo x):Wo (ag2 k w x):=by unfold ag2;split <;> exact h
theorem amF {k:Nat} {t:Tb} {i j:Nat} {x:Th} (hi:i<t.2.length):(KG k t i x).2.getD j j5=if i=j /\ (t.2.getD i j5).1≠0 then ag2 k (t.2.getD i j5) x else t.2.getD j j5:=by
 unfold KG
 rw [akg hi]
 by_cases e:(t.2.getD i j5).1=0
 ·rw [if_neg (by rw [e];simp),if_neg (fun q=>q.2 e)]
 ·rw [if_pos (bne_iff_ne.2 e)]
  simp only
  rw [amD (by omega),Int.toNat_natCast,Qp]
  by_cases ej:i=j
  ·subst ej;rw [if_pos ⟨rfl,hi⟩,if_pos ⟨rfl,e⟩]
  ·rw [if_neg (fun q=>ej q.1),if_neg (fun q=>ej q.1)]
theorem U0 {k:Nat} {t:Tb} {i:Int} {x:Th} (h:yh t) (hx:Wo x):yh (KG k t i x):=by
 unfold KG;split
 ·exact afN h (amE hx)
 ·exact h
theorem amG {k:Nat} {t:Tb} {i:Int} {x:Th}:(KG k t i x).2.length=t.2.length:=by
 unfold KG;split
 ·simp only;rw [Mk]
 ·rfl
theorem afP {t:Tb} {i:Int} (h:yh t):yh (abg t i):=by
 unfold abg;split
 ·rename_i e
  obtain ⟨h0,h1,_⟩:=DJ e
  have hq:Wo (rd t.2 i j5):=h.2 _ (OC h0 h1)
  exact afN h (x:=aoc (rd t.2 i j5)) hq
 ·exact h
theorem KI {tk tv:Ty} (hb:∀ a b:tk.D,fC tk a b=true↔a=b) (d e:tk.D) (v:tv.D):∀ (es:List (tk.D×tv.D)),jB tk tv e (vL tk tv d v es)=if fC tk e d=true then some v else jB tk tv e es
 | []=>by
  simp only [vL,jB]
  cases fC tk e d <;> rfl
 | x::r=>by
  simp only [vL]
  cases h:fC tk d x.1 with
  | true =>
   have:=(hb _ _).1 h
   simp only [jB]
   rw [<- this]
   cases fC tk e d <;> rfl
  | false =>
   simp only [jB]
   rw [KI hb d e v r]
   cases h2:fC tk e x.1 with
   | true =>
    have h3:=(hb _ _).1 h2
    subst h3
    cases h4:fC tk x.1 d with
    | true =>
     have h5:=(hb _ _).1 h4
     rw [<- h5,(hb _ _).2 rfl] at h
     cases h
    | false=>rfl
   | false=>rfl
abbrev HT:Ty:=.pair (.int .i64) (.int .i64)
theorem M6 (a b:HT.D):fC HT a b=true↔a=b:=by
 show (a.1==b.1&&a.2==b.2)=true↔a=b
 rw [Bool.and_eq_true,beq_iff_eq,beq_iff_eq]
 exact ⟨fun h=>Prod.ext h.1 h.2,fun h=>by subst h;exact ⟨rfl,rfl⟩⟩
def akh (s:iq) (h:Int×Int):Bool:=decide (0 <= h.1)&&(decide (h.1<(min s.1.length s.2.length:Nat))&&(rd s.2 h.1 false&&(rd s.1 h.1 0==h.2)))
theorem OD {k:Nat} {s:iq} (h1:s.1.length <= 100) (h2:s.2.length <= 100) (h:Int×Int):∀ (m i j:Nat) (es:List ((Int×Int)×Bool)),i+m=min s.1.length s.2.length -> m<j ->
  (jB HT .bool h es=if ∃ n:Nat,n<i /\ s.2.getD n false=true /\ h=((n:Int),s.1.getD n 0) then some true else none) ->
  ∃ es',XP k j s.1 s.2 es ((min s.1.length s.2.length:Nat):Int) (i:Int)=some ((es',()),()) /\ (jB HT .bool h es'=if ∃ n:Nat,n<min s.1.length s.2.length /\ s.2.getD n false=true /\ h=((n:Int),s.1.getD n 0) then some true else none)
 | 0,i,j,es,hi,hj,he=>by
  obtain ⟨j',rfl⟩:∃ j',j=j'+1:=⟨j - 1,by omega⟩
  have:i=min s.1.length s.2.length:=by omega
  subst this
  rw [aax,XO,Sd (by omega)]
  exact ⟨es,rfl,he⟩
 | m+1,i,j,es,hi,hj,he=>by
  obtain ⟨j',rfl⟩:∃ j',j=j'+1:=⟨j - 1,by omega⟩
  rw [aax,XO,Sc (by omega),Qo (by omega),Qp,Mi (by omega)]
  cases e:s.2.getD i false with
  | false =>
   rw [cond_false]
   refine OD h1 h2 h m (i+1) j' es (by omega) (by omega) ?_
   rw [he]
   congr 1
   refine propext ⟨fun ⟨n,q1,q2⟩=>⟨n,by omega,q2⟩,fun ⟨n,q1,q2,q3⟩=>?_⟩
   by_cases en:n=i
   ·subst en;rw [e] at q2;cases q2
   ·exact ⟨n,by omega,q2,q3⟩
  | true =>
   rw [cond_true,Qo (by omega),Qp]
   refine OD h1 h2 h m (i+1) j' _ (by omega) (by omega) ?_
   rw [KI M6,he]
   by_cases c:fC HT h ((i:Int),s.1.getD i 0)=true
   ·have c':=(M6 _ _).1 c
    rw [if_pos c,if_pos ⟨i,by omega,e,c'⟩]
   ·rw [if_neg c]
    congr 1
    refine propext ⟨fun ⟨n,q1,q2⟩=>⟨n,by omega,q2⟩,fun ⟨n,q1,q2,q3⟩=>?_⟩
    by_cases en:n=i
    ·subst en;exact absurd ((M6 _ _).2 q3) c
    ·exact ⟨n,by omega,q2,q3⟩
theorem afQ {k:Nat} (hk:1000 <= k) {s:iq} {h:Int×Int} (h1:s.1.length <= 100) (h2:s.2.length <= 100):aiN k s h=some ((akh s h,()),()):=by
 unfold aiN aoR aiD
 rw [Option.bind_some,Sg]
 simp only
 have hm:min (s.1.length:Int) (s.2.length:Int)=((min s.1.length s.2.length:Nat):Int):=by omega
 obtain ⟨es,g1,g2⟩:=OD (k:=k) h1 h2 h (min s.1.length s.2.length) 0 k [] (by omega) (by omega) (by
  rw [if_neg (by rintro ⟨n,q,_⟩;omega)];rfl)
 rw [hm,show (0:Int)=((0:Nat):Int) from rfl,g1,Option.bind_some]
 unfold Us
 rw [g2]
 unfold akh
 by_cases c:∃ n:Nat,n<min s.1.length s.2.length /\ s.2.getD n false=true /\ h=((n:Int),s.1.getD n 0)
 ·rw [if_pos c]
  obtain ⟨n,q1,q2,rfl⟩:=c
  simp only
  rw [decide_eq_true (show (0:Int) <= (n:Int) by omega),decide_eq_true (show (n:Int)<((min s.1.length s.2.length:Nat):Int) by omega),Qp,Qp,q2,beq_self_eq_true];rfl
 ·rw [if_neg c]
  cases e:decide (0 <= h.1) with
  | false=>rfl
  | true =>
   have e1:=of_decide_eq_true e
   cases f:decide (h.1<((min s.1.length s.2.length:Nat):Int)) with
   | false=>rfl
   | true =>
    have f1:=of_decide_eq_true f
    obtain ⟨n,hn⟩:∃ n:Nat,h.1=(n:Int):=⟨h.1.toNat,by omega⟩
    rw [hn,Qp,Qp]
    cases g:s.2.getD n false with
    | false=>rfl
    | true =>
     cases q:s.1.getD n 0==h.2 with
     | false=>rfl
     | true=>exact absurd ⟨n,by omega,g,Prod.ext hn (eq_of_beq q).symm⟩ c
def DK (t:Tb) (h:Int×Int):Bool:=akh t.1 h&&ED t h.1
theorem RA {k:Nat} (hk:1000 <= k) {t:Tb} {h:Int×Int} (ht:yh t):agF k t h=some (((if DK t h=true then h.1 else 0),DK t h,()),()):=by
 unfold agF DK
 rw [afQ hk ht.1.1 ht.1.2.1,Option.bind_some]
 cases akh t.1 h with
 | false=>rfl
 | true =>
  simp only [Bool.not_true,cond_false,Bool.true_and]
  rw [R9,Option.bind_some]
  cases ED t h.1 <;> rfl
def Wt (t:Tb) (h:Int×Int):Tb:=if DK t h=true /\ (rd t.2 h.1 j5).1≠1 then ((t.1.1,upd t.1.2 h.1 false),upd t.2 h.1 j5) else t
abbrev iw:=Int×Int×Int×List I4×List I4×List I4
noncomputable def cst (l:List I4):Int×Int×List (Int×Int):=(AB l).getD (0,0,[])
def amH (l:List I4):Bool:=l.any fun i=>i.1==9
theorem Wu (l:List I4):aoa l (AB l)=some ((cst l,yw l,()),()):=by
 unfold cst AB
 cases h:yw l with
 | false=>rfl
 | true=>rfl
theorem amI {l:List I4} (h:yw l=false):cst l=(0,0,[]):=by unfold cst AB;rw [h];rfl
theorem RB (l:List I4):(cst l).2.2.length <= 24:=by
 unfold cst
 cases h:AB l with
 | none=>simp
 | some c=>exact acs h
theorem afR {k:Nat} (hk:1000 <= k) {l:List I4} (hl:l.length <= 900):ahY k l=some ((((l.length:Int)==0)||yw l,()),()):=by
 unfold ahY
 cases (l.length:Int)==0 with
 | true=>rfl
 | false=>rw [cond_false,Yl hk hl,Option.bind_some];rfl
theorem aki {k:Nat} (hk:1000 <= k) {s:List I4} (h:s.length <= 900):adj k s=some ((qm (fun i=>i.1==9) s,()),()):=by
 unfold adj
 refine sw (fun j i=>IG k j s (s.length:Int) i) s i0 _ (fun j i hi=>?_) (fun j=>?_) k (by omega)
 ·show IG k (j+1) s (s.length:Int) (i:Int)=_
  rw [Vs,QD,Sc (by omega),Qo hi,Mi (by omega)]
  simp only [aov,Option.bind_some,Qp]
 ·show IG k (j+1) s (s.length:Int) (s.length:Int)=_
  rw [Vs,QD,Sd (by omega)]
theorem amJ {k:Nat} (hk:1000 <= k) {s:List I4} (h:s.length <= 900):ak9 k s=some ((amH s,()),()):=by
 unfold ak9 aow
 rw [aki hk h];simp only [Option.bind_some,DR];rfl
theorem afS {k:Nat} (hk:1000 <= k) {l:List I4} (hl:l.length <= 900):agy k l=some (((cst l).1,()),()):=by
 unfold agy
 rw [Yt hk hl,Wu,Option.bind_some]
noncomputable def GJ (t:iw):Int :=
 bif decide (t.1<0) then 1 else bif decide (t.1>63) then 1 else bif decide (t.2.1<1) then 9 else bif decide (t.2.1>16384) then 9 else
 bif decide (t.2.2.1<1) then 9 else bif decide (t.2.2.1>t.2.1) then 9 else
 bif !yw t.2.2.2.1 then 2 else bif !(((t.2.2.2.2.1.length:Int)==0)||yw t.2.2.2.2.1) then 2 else bif !(((t.2.2.2.2.2.length:Int)==0)||yw t.2.2.2.2.2) then 2 else
 bif amH t.2.2.2.2.2 then 2 else bif decide ((cst t.2.2.2.1).1>t.2.2.1) then 10 else bif decide ((cst t.2.2.2.2.1).1>(cst t.2.2.2.1).1) then 12 else 0
theorem aqL {α:Type} {c:Bool} {a b:α}:(bif c then some ((a,()),()) else some ((b,()),()))=some (((bif c then a else b),()),()):=by cases c <;> rfl
def zi (t:iw):Prop:=t.2.2.2.1.length <= 900 /\ t.2.2.2.2.1.length <= 900 /\ t.2.2.2.2.2.length <= 900
theorem Yz {k:Nat} (hk:1000 <= k) {t:iw} (h:zi t):agz k t=some ((GJ t,()),()):=by
 unfold agz
 simp only [Yl hk h.1,afR hk h.2.1,afR hk h.2.2,amJ hk h.2.2,afS hk h.1,afS hk h.2.1,Option.bind_some,aqL]
 rfl
noncomputable def oh (t:iw):Int×Int×List (Int×Int) :=
 if GJ t=0 then ((cst t.2.2.2.1).1,bif yw t.2.2.2.2.1 then (cst t.2.2.2.2.1).1 else (cst t.2.2.2.1).2.1,(cst t.2.2.2.1).2.2++(cst t.2.2.2.2.1).2.2) else (0,0,[])
theorem ag4 {k:Nat} (hk:1000 <= k) {a b:List (Int×Int)} (ha:a.length <= 900) (hb:b.length <= 900) (j:Nat):Xi k (j+3) [a,b] 0 [a,b] 2 0=some ((a++b,()),()):=by
 have e1:LA k k ([]:List (Int×Int)) [a,b] 2 0=some ((a++b,()),()):=by
  obtain ⟨k',hk'⟩:∃ k',k=k'+3:=⟨k - 3,by omega⟩
  have:∀ j,LA k (j+3) ([]:List (Int×Int)) [a,b] 2 0=some ((a++b,()),()):=fun j=>by
   rw [N9,L9,Sc (by omega),Lj (by omega) (by simp),show rd [a,b] 0 []=a from rfl,Rz (by simp only [List.length_nil];omega),Uu (by omega) (by omega),List.nil_append]
   rw [N9,L9,Sc (by omega),Lj (by omega) (by simp),show rd [a,b] (0+1) []=b from rfl,Rz (by omega),Uu (by omega) (by omega)]
   rw [N9,L9,Sd (by omega)]
  have:=this (k - 3)
  rwa [show k - 3+3=k by omega] at this
 rw [RZ,RY,Sc (by omega),Lj (by omega) (by simp),show rd [a,b] 0 []=a from rfl,Uu (n:=0+(a.length:Int)) (by omega) (by omega),Sd (by omega),Uu (by omega) (by omega)]
 rw [RZ,RY,Sc (by omega),Lj (by omega) (by simp),show rd [a,b] (0+1) []=b from rfl,Uu (n:=0+(a.length:Int)+(b.length:Int)) (by omega) (by omega),Sd (by omega),Uu (by omega) (by omega)]
 rw [RZ,RY,Sd (by omega)]
 unfold aoA
 rw [Sd (by omega),Uu (n:=0+(a.length:Int)+(b.length:Int) - 0) (by omega) (by omega)]
 by_cases h0:0+(a.length:Int)+(b.length:Int) - 0>0
 ·rw [Sc h0]
  unfold az
  rw [if_pos (by rw [Bool.and_eq_true];exact ⟨decide_eq_true (by omega),decide_eq_true (by simp only [List.length_nil];omega)⟩)]
  dsimp only
  rw [Rx (by omega) (by omega) (by omega),Option.bind_some]
  exact e1
 ·rw [Sd h0,Option.bind_some];exact e1
theorem amK {k:Nat} (hk:1000 <= k) {a b:List (Int×Int)} (ha:a.length <= 900) (hb:b.length <= 900):ah9 k [a,b]=some ((a++b,()),()):=by
 unfold ah9
 have:=ag4 hk ha hb (k - 3)
 rwa [show k - 3+3=k by omega] at this
theorem M7 {k:Nat} (hk:1000 <= k) {t:iw} (h:zi t):ZN k t=some (((oh t).1,(oh t).2.1,(oh t).2.2,()),()):=by
 have h1:=RB t.2.2.2.1
 have h2:=RB t.2.2.2.2.1
 unfold ZN oh
 rw [Yz hk h,Option.bind_some]
 by_cases hm:GJ t=0
 ·rw [if_pos hm]
  simp only [hm,bne_self_eq_false,cond_false,Yt hk h.1,Yt hk h.2.1,Wu,Option.bind_some,amK hk (show (cst t.2.2.2.1).2.2.length <= 900 by omega) (show (cst t.2.2.2.2.1).2.2.length <= 900 by omega)]
  cases yw t.2.2.2.2.1 <;> rfl
 ·rw [if_neg hm]
  simp only [bne_iff_ne.2 hm,cond_true]
end Go.Proofs.YtjjjbcmjmkcedaaGreat.Ab
