import Derived.Test.YtjjjbcmjmkcedaaGreatPbC
import Derived.Test.YtjjjbcmjmkcedaaGreatAbV0
import Derived.Test.YtjjjbcmjmkcedaaGreatAbV1
import Derived.Test.YtjjjbcmjmkcedaaGreatAbV2
import Derived.KernelRfl
/- The plain law, and what it hangs on. -/
namespace Go.Proofs.YtjjjbcmjmkcedaaGreat.Ab
open Go.RowKit
set_option linter.unusedSimpArgs false
set_option linter.unusedVariables false
section
variable {σ R α:Type}
abbrev I4:Type:=Int×Int×Int×Int
abbrev i0:I4:=(0,0,0,0)
theorem agG {c x y:Bool}:(bif c then some ((x,()),()) else some ((y,()),()):Option ((Bool×Unit)×Unit))=some ((bif c then x else y,()),()):=by cases c <;> rfl
theorem ach {c x:Bool}:(bif c then x else false)=(c&&x):=by cases c <;> rfl
theorem getD_in {l:List α} {n:Nat} {z:α} (h:n<l.length):l.getD n z=l[n]:=by
 simp [List.getD_eq_getElem?_getD,List.getElem?_eq_getElem h]
theorem DT {l:List α} {n:Nat} {z:α} (h:l.length <= n):l.getD n z=z:=by
 simp [List.getD_eq_getElem?_getD,List.getElem?_eq_none h]
theorem ko {l:List α} {x y:Nat} {v z:α}:(l.set x v).getD y z=if x=y /\ y<l.length then v else l.getD y z:=by
 simp only [List.getD_eq_getElem?_getD,List.getElem?_set]
 by_cases h:x=y
 ·subst h
  by_cases h2:x<l.length
  ·simp [h2]
  ·simp [h2]
 ·simp [h]
theorem oo {u w:List α} {n:Nat} {z:α} (h:n<u.length):(u++w).getD n z=u.getD n z:=by
 simp [List.getD_eq_getElem?_getD,List.getElem?_append_left h]
theorem lg {u w:List α} {n:Nat} {z:α} (h:u.length <= n):(u++w).getD n z=w.getD (n - u.length) z:=by
 simp [List.getD_eq_getElem?_getD,List.getElem?_append_right h]
theorem drop_cons {l:List α} {i:Nat} (z:α) (h:i<l.length):l.drop i=l.getD i z::l.drop (i+1):=by
 rw [List.drop_eq_getElem_cons h,getD_in h]
theorem drop_nil {l:List α} {i:Nat} (h:i=l.length):l.drop i=[]:=List.drop_eq_nil_of_le (by omega)
theorem jl {l:List α} {i:Nat} {z:α} (h:i<l.length):l.getD i z∈l:=by rw [getD_in h];exact List.getElem_mem h
theorem qy {l:List α} {x:α} (z:α) (h:x∈l):∃ i,i<l.length /\ l.getD i z=x:=by
 obtain ⟨i,hi,rfl⟩:=List.getElem_of_mem h
 exact ⟨i,hi,getD_in hi⟩
def goF (f:Nat -> σ -> σ):Nat -> Nat -> σ -> σ
 | 0,_,s=>s
 | m+1,i,s=>goF f m (i+1) (f i s)
theorem aa7 {L:Nat -> σ -> Int -> Option R} {n:Nat} (inv:Nat -> σ -> Prop) (f:Nat -> σ -> σ) (fin:σ -> Option R)
  (hs:∀ j i s,i<n -> inv i s -> L (j+1) s (i:Int)=L j (f i s) ((i+1:Nat):Int))
  (hi:∀ i s,i<n -> inv i s -> inv (i+1) (f i s))
  (he:∀ j s,inv n s -> L (j+1) s (n:Int)=fin s) :
  ∀ (m i j:Nat) (s:σ),i+m=n -> m<j -> inv i s -> L j s i=fin (goF f m i s)
 | 0,i,j,s,h,hj,hv=>by
  obtain ⟨j',rfl⟩:∃ j',j=j'+1:=⟨j - 1,by omega⟩
  have:i=n:=by omega
  subst this;exact he j' s hv
 | m+1,i,j,s,h,hj,hv=>by
  obtain ⟨j',rfl⟩:∃ j',j=j'+1:=⟨j - 1,by omega⟩
  rw [hs j' i s (by omega) hv,goF]
  exact aa7 inv f fin hs hi he m (i+1) j' _ (by omega) (by omega) (hi i s (by omega) hv)
theorem L6 {inv:Nat -> σ -> Prop} {f:Nat -> σ -> σ} {n:Nat} (hi:∀ i s,i<n -> inv i s -> inv (i+1) (f i s)):∀ (m i:Nat) (s:σ),i+m=n -> inv i s -> inv n (goF f m i s)
 | 0,i,s,h,hv=>by
  have:i=n:=by omega
  subst this;exact hv
 | m+1,i,s,h,hv=>L6 hi m (i+1) _ (by omega) (hi i s (by omega) hv)
def pq (f:α -> Bool) (xs:List α):Int:=match xs.findIdx? f with | some n=>(n:Int) | none=>-1
theorem ae8 (L:Nat -> Int -> Option ((Int×Unit)×Unit)) (xs:List α) (z:α) (f:α -> Bool)
  (hs:∀ (j n:Nat),n<xs.length -> L (j+1) (n:Int)=bif f (xs.getD n z) then some (((n:Int),()),()) else L j ((n+1:Nat):Int))
  (he:∀ j,L (j+1) (xs.length:Int)=some ((-1,()),())):∀ (m i j:Nat),i+m=xs.length -> m<j ->
   L j i=some (((match (xs.drop i).findIdx? f with | some n=>((i+n:Nat):Int) | none=>-1),()),())
 | 0,i,j,h,hj=>by
  obtain ⟨j',rfl⟩:∃ j',j=j'+1:=⟨j - 1,by omega⟩
  have:i=xs.length:=by omega
  subst this;rw [he,List.drop_length];rfl
 | m+1,i,j,h,hj=>by
  obtain ⟨j',rfl⟩:∃ j',j=j'+1:=⟨j - 1,by omega⟩
  have hlt:i<xs.length:=by omega
  rw [hs j' i hlt,drop_cons z hlt,List.findIdx?_cons,ae8 L xs z f hs he m (i+1) j' (by omega) (by omega)]
  cases f (xs.getD i z) with
  | true=>simp
  | false =>
   simp only [cond_false,Bool.false_eq_true,if_false]
   cases (xs.drop (i+1)).findIdx? f with
   | none=>rfl
   | some n=>simp only [Option.map_some];congr 4;omega
theorem tq (L:Nat -> Int -> Option ((Int×Unit)×Unit)) (xs:List α) (z:α) (f:α -> Bool)
  (hs:∀ (j n:Nat),n<xs.length -> L (j+1) (n:Int)=bif f (xs.getD n z) then some (((n:Int),()),()) else L j ((n+1:Nat):Int))
  (he:∀ j,L (j+1) (xs.length:Int)=some ((-1,()),())) (j:Nat) (hj:xs.length<j):L j 0=some ((pq f xs,()),()):=by
 have:=ae8 L xs z f hs he xs.length 0 j (by omega) hj
 rw [List.drop_zero] at this
 simpa [pq] using this
theorem D9 (f:α -> Bool) (s:List α):decide (pq f s≥0)=s.any f:=by
 unfold pq
 cases h:s.findIdx? f with
 | none=>rw [List.findIdx?_eq_none_iff] at h;simp;intro x hx;simpa using h x hx
 | some n =>
  have h2:=List.findIdx?_isSome (xs:=s) (p:=f)
  rw [h] at h2
  rw [<- h2];simp
def L8 (f:Nat -> Bool):Nat -> Nat -> Bool
 | 0,_=>false
 | m+1,i=>f i||L8 f m (i+1)
theorem TJ (f:Nat -> Bool):∀ (m i:Nat),L8 f m i=true↔∃ n,i <= n /\ n<i+m /\ f n=true
 | 0,i=>⟨fun h=>by simp [L8] at h,fun ⟨n,h1,h2,_⟩=>by omega⟩
 | m+1,i=>by
  rw [L8,Bool.or_eq_true,TJ f m (i+1)]
  constructor
  ·rintro (h | ⟨n,h1,h2,h3⟩)
   ·exact ⟨i,by omega,by omega,h⟩
   ·exact ⟨n,by omega,by omega,h3⟩
  ·rintro ⟨n,h1,h2,h3⟩
   by_cases e:n=i
   ·subst e;exact .inl h3
   ·exact .inr ⟨n,by omega,by omega,h3⟩
theorem I9 (f:Nat -> Bool) (m i:Nat):L8 f m i=false↔∀ n,i <= n -> n<i+m -> f n=false:=by
 constructor
 ·intro h n h1 h2
  cases hf:f n with
  | false=>rfl
  | true=>rw [(TJ f m i).2 ⟨n,h1,h2,hf⟩] at h;cases h
 ·intro h
  cases ha:L8 f m i with
  | false=>rfl
  | true=>obtain ⟨n,h1,h2,h3⟩:=(TJ f m i).1 ha;rw [h n h1 h2] at h3;cases h3
theorem aoY {L:Nat -> Int -> Option R} {n:Nat} (f:Nat -> Bool) (yes no:Option R)
  (hs:∀ (j i:Nat),i<n -> L (j+1) (i:Int)=bif f i then yes else L j ((i+1:Nat):Int))
  (he:∀ j,L (j+1) (n:Int)=no):∀ (m i j:Nat),i+m=n -> m<j -> L j i=bif L8 f m i then yes else no
 | 0,i,j,h,hj=>by
  obtain ⟨j',rfl⟩:∃ j',j=j'+1:=⟨j - 1,by omega⟩
  have:i=n:=by omega
  subst this;rw [he];rfl
 | m+1,i,j,h,hj=>by
  obtain ⟨j',rfl⟩:∃ j',j=j'+1:=⟨j - 1,by omega⟩
  rw [hs j' i (by omega),L8,aoY f yes no hs he m (i+1) j' (by omega) (by omega)]
  cases f i <;> rfl
theorem BL:∀ (n:Nat) (x:PN α n),(Gv n x).length=n
 | 0,_=>rfl
 | 1,_=>rfl
 | n+2,x=>by simp only [Gv,List.length_cons];rw [BL (n+1) x.2]
theorem EL:∀ (n:Nat) (v:α),Gv n (Qn n v)=List.replicate n v
 | 0,_=>rfl
 | 1,_=>rfl
 | n+2,v=>by simp only [Gv,Qn];rw [EL (n+1) v];rfl
theorem N9:∀ (n:Nat) (x y:PN α n),Gv n x=Gv n y -> x=y
 | 0,_,_,_=>rfl
 | 1,x,y,h=>by simpa [Gv] using h
 | n+2,x,y,h=>by
  simp only [Gv,List.cons.injEq] at h
  exact Prod.ext h.1 (N9 (n+1) x.2 y.2 h.2)
theorem TK:∀ (n i:Nat) (x:PN α n) (j:Nat) (v:α),i <= j -> Gv n (Gw n i x (j:Int) v)=(Gv n x).set (j - i) v
 | 0,_,_,_,_,_=>rfl
 | 1,i,x,j,v,h=>by
  simp only [Gv,Gw]
  by_cases e:j=i
  ·subst e;simp
  ·rw [if_neg (by omega)]
   have:j - i=(j - i - 1)+1:=by omega
   rw [this];rfl
 | n+2,i,x,j,v,h=>by
  simp only [Gv,Gw]
  by_cases e:j=i
  ·subst e
   simp only [if_true,Nat.sub_self,List.set_cons_zero,List.cons.injEq,true_and]
   exact JG (n+1) (j+1) x.2 j v (by omega)
  ·rw [if_neg (by omega),TK (n+1) (i+1) x.2 j v (by omega),show j - i=(j - (i+1))+1 by omega,List.set_cons_succ]
where JG:∀ (n i:Nat) (x:PN α n) (j:Nat) (v:α),j<i -> Gv n (Gw n i x (j:Int) v)=Gv n x
 | 0,_,_,_,_,_=>rfl
 | 1,i,x,j,v,h=>by simp only [Gv,Gw];rw [if_neg (by omega)]
 | n+2,i,x,j,v,h=>by simp only [Gv,Gw];rw [if_neg (by omega),JG (n+1) (i+1) x.2 j v (by omega)]
theorem VK {n:Nat} {x:PN α n} {j:Nat} {v:α}:Gv n (Ur n x (j:Int) v)=(Gv n x).set j v:=by
 unfold Ur;rw [TK n 0 x j v (by omega)];rfl
end
def DC (a:Int):Bool:=decide (a≥0)&&decide (a<8)
def AL (v a b:Int):Bool:=decide (v≥a)&&decide (v <= b)
def lu (i:I4):Bool :=
 bif i.1==0 then (i.2.1==0&&(i.2.2.1==0&&i.2.2.2==0))
 else bif i.1==11 then (i.2.1==0&&(i.2.2.1==0&&i.2.2.2==0))
 else bif i.1==1 then (DC i.2.1&&(i.2.2.1==0&&AL i.2.2.2 (-2147483648) 2147483647))
 else bif i.1==2 then (DC i.2.1&&(DC i.2.2.1&&i.2.2.2==0))
 else bif i.1==3 then (DC i.2.1&&(DC i.2.2.1&&i.2.2.2==0))
 else bif i.1==4 then (DC i.2.1&&(DC i.2.2.1&&i.2.2.2==0))
 else bif i.1==5 then (DC i.2.1&&(i.2.2.1==0&&AL i.2.2.2 (-63) 63))
 else bif i.1==6 then (DC i.2.1&&(i.2.2.1==0&&AL i.2.2.2 1 64))
 else bif i.1==7 then (DC i.2.1&&(i.2.2.1==0&&AL i.2.2.2 1 24))
 else bif i.1==8 then (i.2.1==0&&(AL i.2.2.1 1 24&&AL i.2.2.2 1 20))
 else bif i.1==9 then (AL i.2.1 0 3&&(i.2.2.1==0&&i.2.2.2==0))
 else bif i.1==10 then (AL i.2.1 0 3&&(i.2.2.1==0&&i.2.2.2==0))
 else false
theorem alU (k:Nat) (a:Int):M9 k a=some ((DC a,()),()):=by unfold M9 DC;rw [agG,ach]
theorem alV (k:Nat) (v a b:Int):RI k v a b=some ((AL v a b,()),()):=by unfold RI AL;rw [agG,ach]
theorem ae9 (k:Nat) (i:I4):ahx k i=some ((lu i,()),()):=by
 unfold lu ahx
 simp only [alU,alV,Option.bind_some,agG,ach]
theorem alW {k:Nat} (hk:1000 <= k) {s:List I4} (h:s.length <= 900):akW k s=some ((pq (fun i=>!lu i) s,()),()):=by
 unfold akW
 refine tq (fun j i=>MB k j s (s.length:Int) i) s i0 _ (fun j i hi=>?_) (fun j=>?_) k (by omega)
 ·show MB k (j+1) s (s.length:Int) (i:Int)=_
  rw [Zr,X0,Sc (by omega),Qo hi,Mi (by omega)]
  simp only [aoc,ae9,Option.bind_some,Qp]
 ·show MB k (j+1) s (s.length:Int) (s.length:Int)=_
  rw [Zr,X0,Sd (by omega)]
theorem aoZ {k:Nat} (hk:1000 <= k) {s:List I4} (h:s.length <= 900):S57 k s=some ((s.any (fun i=>!lu i),()),()):=by
 unfold S57;rw [alW hk h];simp only [Option.bind_some,D9]
theorem ajG {k:Nat} (hk:1000 <= k) {s:List I4} (h:s.length <= 900):acV k s=some ((pq (fun i=>i.1==0) s,()),()):=by
 unfold acV
 refine tq (fun j i=>HV k j s (s.length:Int) i) s i0 _ (fun j i hi=>?_) (fun j=>?_) k (by omega)
 ·show HV k (j+1) s (s.length:Int) (i:Int)=_
  rw [Vp,PU,Sc (by omega),Qo hi,Mi (by omega)]
  simp only [aod,Option.bind_some,Qp]
 ·show HV k (j+1) s (s.length:Int) (s.length:Int)=_
  rw [Vp,PU,Sd (by omega)]
theorem alX {k:Nat} (hk:1000 <= k) {s:List Int} (h:s.length <= 900):akX k s=some ((pq (fun i=>decide (i>2)) s,()),()):=by
 unfold akX
 refine tq (fun j i=>ME k j s (s.length:Int) i) s 0 _ (fun j i hi=>?_) (fun j=>?_) k (by omega)
 ·show ME k (j+1) s (s.length:Int) (i:Int)=_
  rw [Zw,X4,Sc (by omega),Qo hi,Mi (by omega)]
  simp only [aoe,Option.bind_some,Qp]
  rfl
 ·show ME k (j+1) s (s.length:Int) (s.length:Int)=_
  rw [Zw,X4,Sd (by omega)]
theorem alY {k:Nat} (hk:1000 <= k) {s:List Int} (h:s.length <= 900):akY k s=some ((s.any (fun i=>decide (i>2)),()),()):=by
 unfold akY;rw [alX hk h];simp only [Option.bind_some,D9]
theorem ajH {k:Nat} (hk:1000 <= k) {s:List Int} {x:Int} (h:s.length <= 900):ac7 k s x=some ((s.any (fun e=>decide (e>x)),()),()):=by
 unfold ac7 ahN
 rw [show EF k k s x (s.length:Int) 0=some ((pq (fun e=>decide (e>x)) s,()),()) from
  tq (fun j i=>EF k j s x (s.length:Int) i) s 0 _ (fun j i hi=>by
   show EF k (j+1) s x (s.length:Int) (i:Int)=_
   rw [Vr,PX,Sc (by omega),Qo hi,Mi (by omega)]
   simp only [aog,Option.bind_some,Qp]
   rfl) (fun j=>by
   show EF k (j+1) s x (s.length:Int) (s.length:Int)=_
   rw [Vr,PX,Sd (by omega)]) k (by omega)]
 simp only [Option.bind_some,D9]
def OU (l:List I4) (open_:List Int) (x:Int):Bool:=open_.any (fun i=>(rd l i i0).2.1==(rd l x i0).2.1)
theorem ajI {k:Nat} (hk:1000 <= k) {s:List Int} {l:List I4} {x:Int} (h:s.length <= 900) (hs:∀ i∈s,0 <= i /\ i<(l.length:Int)) (hx:0 <= x /\ x<(l.length:Int)):ac4 k s l x=some ((OU l s x,()),()):=by
 unfold ac4 ahK
 rw [show ED k k s l x (s.length:Int) 0=some ((pq (fun i=>(rd l i i0).2.1==(rd l x i0).2.1) s,()),()) from
  tq (fun j i=>ED k j s l x (s.length:Int) i) s 0 _ (fun j i hi=>by
   show ED k (j+1) s l x (s.length:Int) (i:Int)=_
   have:=hs _ (jl (z:=0) hi)
   rw [Vq,PW,Sc (by omega),Qo hi,Mi (by omega),Qp,aof,Lj this.1 this.2,Lj hx.1 hx.2]
   rfl) (fun j=>by
   show ED k (j+1) s l x (s.length:Int) (s.length:Int)=_
   rw [Vq,PW,Sd (by omega)]) k (by omega)]
 simp only [Option.bind_some,D9,OU]
def pc (i:Nat) (x:I4):List (Int×Int×Int×Bool) :=
 bif x.1==8 then [(((i+1:Nat):Int),IntKind.i64.wrap ((i:Int)+x.2.2.1),(i:Int),true)]
 else bif x.1==7 then [(((i+1:Nat):Int),IntKind.i64.wrap ((i:Int)+x.2.2.2),(i:Int),false)] else []
def mq:Nat -> List (I4) -> List (Int×Int×Int×Bool)
 | _,[]=>[]
 | i,x::r=>pc i x++mq (i+1) r
theorem ajJ (i:Nat) (x:I4):(pc i x).length <= 1:=by unfold pc;cases x.1==8 <;> cases x.1==7 <;> simp
theorem IB:∀ (l:List (I4)) (i:Nat),(mq i l).length <= l.length
 | [],_=>by simp [mq]
 | x::r,i=>by have:=ajJ i x;have:=IB r (i+1);simp only [mq,List.length_append,List.length_cons];omega
theorem VL (l:List (I4)) (hl:l.length <= 900) (L:Nat -> List (Int×Int×Int×Bool) -> Int -> Option ((List (Int×Int×Int×Bool)×Unit)×Unit))
  (hs:∀ j out (i:Nat),i<l.length -> out.length <= i -> L (j+1) out i=L j (out++pc i (l.getD i (0,0,0,0))) ((i+1:Nat):Int))
  (he:∀ j out,L (j+1) out (l.length:Int)=some ((out,()),())):∀ (m i j:Nat) (out:List (Int×Int×Int×Bool)),i+m=l.length -> m<j -> out.length <= i -> L j out i=some ((out++mq i (l.drop i),()),())
 | 0,i,j,out,h,hj,ho=>by
  obtain ⟨j',rfl⟩:∃ j',j=j'+1:=⟨j - 1,by omega⟩
  have:i=l.length:=by omega
  subst this
  rw [he,List.drop_length]
  simp [mq]
 | m+1,i,j,out,h,hj,ho=>by
  obtain ⟨j',rfl⟩:∃ j',j=j'+1:=⟨j - 1,by omega⟩
  have hlt:i<l.length:=by omega
  have hp:=ajJ i (l.getD i (0,0,0,0))
  rw [hs j' out i hlt ho,VL l hl L hs he m (i+1) j' _ (by omega) (by omega) (by simp only [List.length_append];omega),List.drop_eq_getElem_cons hlt]
  have:l.getD i (0,0,0,0)=l[i]:=by simp [List.getD_eq_getElem?_getD,hlt]
  rw [this,mq,List.append_assoc]
theorem afa {k:Nat} {l:List (I4)} (hk:1000 <= k) (h:l.length <= 900):ahB k l=some ((mq 0 l,()),()):=by
 have:=VL l h (fun j out i=>MC k j out l (l.length:Int) i)
  (fun j out i hi ho=>by
   show MC k (j+1) out l (l.length:Int) (i:Int)=_
   rw [Zu,X3,Sc (by omega),Qo hi,Mi (by omega),Qp,pc]
   cases h8:(l.getD i (0,0,0,0)).1==8 with
   | true=>simp only [cond_true];rw [Rz (by simp only [List.length_cons,List.length_nil];omega)]
   | false =>
    cases h7:(l.getD i (0,0,0,0)).1==7 with
    | true=>simp only [cond_true,cond_false];rw [Rz (by simp only [List.length_cons,List.length_nil];omega)]
    | false=>simp only [cond_false,List.append_nil])
  (fun j out=>by
   show MC k (j+1) out l (l.length:Int) (l.length:Int)=_
   rw [Zu,X3,Sd (by omega)])
  l.length 0 k [] (by omega) (by omega) (by simp)
 unfold ahB
 simpa using this
abbrev fq:Type:=Int×Int×Int×Bool
def o9 (p:fq) (i:Int):Bool:=decide (p.1 <= i)&&decide (i <= p.2.1)
def inA (p q:fq):Bool:=o9 q p.1&&o9 q p.2.1
def apA (p q:fq):Bool:=decide (p.2.1<q.1)||decide (q.2.1<p.1)
def J7 (p q:fq):Bool:=(o9 q p.2.2.1&&!inA p q)||(!apA p q&&(!inA p q&&!inA q p))
theorem Yu (k:Nat) (p:fq) (i:Int):abY k p i=some ((o9 p i,()),()):=by
 unfold abY o9;rw [agG];cases h:decide (p.1 <= i) <;> simp_all
theorem alZ (k:Nat) (p q:fq):Zv k p q=some ((inA p q,()),()):=by
 unfold Zv inA;simp only [Yu,Option.bind_some,agG];cases o9 q p.1 <;> rfl
theorem al1 (k:Nat) (p q:fq):ahC k p q=some ((apA p q,()),()):=by
 unfold ahC apA;simp only [agG];cases decide (p.2.1<q.1) <;> rfl
theorem VN {k:Nat} {g4:List (I4) -> List fq -> List Int -> List fq -> Int -> Int -> Option ((Bool×Unit)×Unit)} {l:List (I4)} {all1 all:List fq} {ar:List Int} {p:fq} {t15:List fq} {t16 t17:Int} (hl:all.length <= 900) :
  ∀ (m i j:Nat),i+m=all.length -> m<j -> X6 k g4 j l all1 ar p.1 p.2.1 p.2.2.1 p.2.2.2 t15 t16 t17 all (all.length:Int) i =
   bif (all.drop i).any (J7 p) then some ((false,()),()) else HY k g4 k l all1 ar p.1 p.2.1 p.2.2.1 p.2.2.2 p.1 t15 t16 t17
 | 0,i,j,h,hj=>by
  obtain ⟨j',rfl⟩:∃ j',j=j'+1:=⟨j - 1,by omega⟩
  have:i=all.length:=by omega
  subst this
  rw [Zy,X5,Sd (by omega),List.drop_length]
  rfl
 | m+1,i,j,h,hj=>by
  obtain ⟨j',rfl⟩:∃ j',j=j'+1:=⟨j - 1,by omega⟩
  have hi:i<all.length:=by omega
  rw [Zy,X5,Sc (by omega),Qo hi,Mi (by omega),Qp,VN hl m (i+1) j' (by omega) (by omega),List.drop_eq_getElem_cons hi,List.any_cons]
  have:all.getD i (0,0,0,false)=all[i]:=by simp [List.getD_eq_getElem?_getD,hi]
  rw [this]
  simp only [Yu,alZ,al1,Option.bind_some,J7]
  cases o9 all[i] p.2.2.1 <;> cases inA p all[i] <;> cases apA p all[i] <;> cases inA all[i] p <;> rfl
def bumps:List Int -> Nat -> Nat -> List Int
 | ar,_,0=>ar
 | ar,i,m+1=>bumps (ar.set i (IntKind.i64.wrap (ar.getD i 0+1))) (i+1) m
theorem agH {k:Nat} {g4:List (I4) -> List fq -> List Int -> List fq -> Int -> Int -> Option ((Bool×Unit)×Unit)} {l:List (I4)} {all:List fq} {ar:List Int} {p4 p5 p6:Int} {t15:List fq} {t16 t17 i:Int} (j:Nat) (hj:1 <= j) :
  HY k g4 j l all ar p4 p5 p6 false i t15 t16 t17=g4 l all ar t15 t16 (IntKind.i64.wrap (t17+1)):=by
 obtain ⟨j',rfl⟩:∃ j',j=j'+1:=⟨j - 1,by omega⟩
 rw [MF,KH];rfl
theorem VO {k:Nat} {g4:List (I4) -> List fq -> List Int -> List fq -> Int -> Int -> Option ((Bool×Unit)×Unit)} {l:List (I4)} {all:List fq} {p4 p5 p6:Int} {t15:List fq} {t16 t17:Int} :
  ∀ (m i j:Nat) (ar:List Int),((p5+1=(i:Int)+m) \/ (m=0 /\ p5<i)) -> i+m <= ar.length -> ar.length <= 900 -> m<j ->
   HY k g4 j l all ar p4 p5 p6 true i t15 t16 t17=g4 l all (bumps ar i m) t15 t16 (IntKind.i64.wrap (t17+1))
 | 0,i,j,ar,h,hl,hl9,hj=>by
  obtain ⟨j',rfl⟩:∃ j',j=j'+1:=⟨j - 1,by omega⟩
  rw [MF,KH,Sd (by omega)]
  rfl
 | m+1,i,j,ar,h,hl,hl9,hj=>by
  obtain ⟨j',rfl⟩:∃ j',j=j'+1:=⟨j - 1,by omega⟩
  have hi:i<ar.length:=by omega
  rw [MF,KH,Sc (by omega),Qo hi,Qo hi,Mi (by omega),Qp,Mj,VO m (i+1) j' _ (by omega) (by simp only [List.length_set];omega) (by simp only [List.length_set];omega) (by omega)]
  rfl
def nest (L1:Int) (all:List fq):List fq -> List Int -> Bool
 | [],ar=>!ar.any (fun i=>decide (i>2))
 | p::r,ar=>bif decide (p.2.1≥L1) then false else bif all.any (J7 p) then false else nest L1 all r (bif p.2.2.2 then bumps ar p.1.toNat (p.2.1+1 - p.1).toNat else ar)
theorem NA:∀ (m i:Nat) (ar:List Int),(bumps ar i m).length=ar.length
 | 0,_,_=>rfl
 | m+1,i,ar=>by rw [bumps,NA m];simp
theorem NC {k:Nat} (hk:1000 <= k) {l:List (I4)} {all:List fq} (hl:l.length <= 900) (ha:all.length <= 900) (hp:∀ p∈all,0 <= p.1 /\ p.1 <= l.length):∀ (m i j:Nat) (ar:List Int),i+m=all.length -> m<j -> ar.length=l.length ->
  RJ k j l all ar all (all.length:Int) i=some ((nest (IntKind.i64.wrap ((l.length:Int) - 1)) all (all.drop i) ar,()),())
 | 0,i,j,ar,h,hj,har=>by
  obtain ⟨j',rfl⟩:∃ j',j=j'+1:=⟨j - 1,by omega⟩
  have:i=all.length:=by omega
  subst this
  rw [Zz,X7,Sd (by omega),List.drop_length,alY hk (by omega)]
  rfl
 | m+1,i,j,ar,h,hj,har=>by
  obtain ⟨j',rfl⟩:∃ j',j=j'+1:=⟨j - 1,by omega⟩
  have hi:i<all.length:=by omega
  have hq:all.getD i (0,0,0,false)=all[i]:=by simp [List.getD_eq_getElem?_getD,hi]
  rw [Zz,X7,Sc (by omega),Qo hi,Qp,hq,List.drop_eq_getElem_cons hi,nest]
  have hb:=hp all[i] (List.getElem_mem hi)
  cases h1:decide (all[i].2.1≥IntKind.i64.wrap ((l.length:Int) - 1)) with
  | true=>rfl
  | false =>
   have h1':=of_decide_eq_false h1
   rw [Uu (by omega) (by omega)] at h1'
   have h9:=VN (k:=k) (g4:=RJ k j') (l:=l) (all1:=all) (all:=all) (ar:=ar) (p:=all[i]) (t15:=all) (t16:=(all.length:Int)) (t17:=(i:Int)) ha all.length 0 k (by omega) (by omega)
   simp only [cond_false]
   refine Eq.trans h9 ?_
   rw [List.drop_zero]
   cases h2:all.any (J7 all[i]) with
   | true=>rfl
   | false =>
    simp only [cond_false]
    cases h3:all[i].2.2.2 with
    | false =>
     rw [agH k (by omega),Mi (by omega),NC hk hl ha hp m (i+1) j' ar (by omega) (by omega) har]
     rfl
    | true =>
     obtain ⟨n,hn⟩:∃ n:Nat,all[i].1=(n:Int):=⟨all[i].1.toNat,by omega⟩
     rw [hn,VO (all[i].2.1+1 - (n:Int)).toNat n k ar (by omega) (by omega) (by omega) (by omega),Mi (by omega),NC hk hl ha hp m (i+1) j' _ (by omega) (by omega) (by rw [NA];exact har)]
     rfl
theorem afb:∀ (l:List (I4)) (i:Nat) (p:fq),p∈mq i l -> ∃ n:Nat,i <= n /\ n<i+l.length /\ p.2.2.1=(n:Int) /\ p.1=((n+1:Nat):Int) /\ ∃ x,l[n - i]? = some x /\ p∈pc n x
 | [],_,_,h=>by cases h
 | x::r,i,p,h=>by
  rw [mq] at h
  rcases List.mem_append.1 h with h | h
  ·refine ⟨i,by omega,by simp,?_,?_,x,by simp,h⟩
   all_goals
    unfold pc at h
    cases h8:x.1==8 <;> cases h7:x.1==7 <;> simp only [h8,h7,cond_true,cond_false,List.mem_singleton,List.not_mem_nil] at h <;> first | (subst h;rfl) | exact h.elim
  ·obtain ⟨n,h1,h2,h3,h4,y,h5,h6⟩:=afb r (i+1) p h
   refine ⟨n,by omega,by simp only [List.length_cons];omega,h3,h4,y,?_,h6⟩
   rw [show n - i=(n - (i+1))+1 by omega,List.getElem?_cons_succ]
   exact h5
theorem al2 {k:Nat} (hk:1000 <= k) {l:List (I4)} (hl:l.length <= 900):akZ k l=some ((nest (IntKind.i64.wrap ((l.length:Int) - 1)) (mq 0 l) (mq 0 l) (List.replicate l.length 0),()),()):=by
 unfold akZ
 have h1:=IB l 0
 rw [afa hk hl,Option.bind_some,Ry (by omega) (by simp;omega)]
 have:=NC hk (l:=l) (all:=mq 0 l) hl (by omega) (fun p hp=>by
  obtain ⟨n,_,h2,_,h4,_⟩:=afb l 0 p hp
  omega) (mq 0 l).length 0 k (List.replicate l.length 0) (by omega) (by omega) (by simp)
 rw [List.drop_zero] at this
 exact this
def marks (n:Nat) (p:fq):List (PN Bool 24) -> Nat -> Nat -> List (PN Bool 24)
 | out,_,0=>out
 | out,i,m+1=>marks n p (bif o9 p (i:Int) then out.set i (Ur (α:=Bool) 24 (out.getD i (Qn (α:=Bool) 24 false)) (n:Int) true) else out) (i+1) m
theorem ND {k:Nat} {g3:List (I4) -> List (PN Bool 24) -> List fq -> Int -> Int -> Option ((List (PN Bool 24)×Unit)×Unit)} {l:List (I4)} {n:Nat} {p:fq} {t11:List fq} {t12 t13:Int} {len:Nat} (hn:n<24) (hl:len <= 900) :
  ∀ (m i j:Nat) (out:List (PN Bool 24)),i+m=len -> m<j -> out.length=len ->
   X9 k g3 j l out (n:Int) p.1 p.2.1 p.2.2.1 p.2.2.2 t11 t12 t13 (len:Int) i=g3 l (marks n p out i m) t11 t12 (IntKind.i64.wrap (t13+1))
 | 0,i,j,out,h,hj,ho=>by
  obtain ⟨j',rfl⟩:∃ j',j=j'+1:=⟨j - 1,by omega⟩
  rw [ZA,X8,Sd (by omega)]
  rfl
 | m+1,i,j,out,h,hj,ho=>by
  obtain ⟨j',rfl⟩:∃ j',j=j'+1:=⟨j - 1,by omega⟩
  rw [ZA,X8,Sc (by omega),Sc (by omega),Mi (by omega),marks]
  have:(p.1,p.2.1,p.2.2.1,p.2.2.2)=p:=rfl
  rw [this,Yu,Option.bind_some]
  cases hh:o9 p (i:Int) with
  | true =>
   simp only [cond_true]
   rw [Qo (by omega),Rw (by omega) (by omega),Mj,Qp,ND hn hl m (i+1) j' _ (by omega) (by omega) (by simp only [List.length_set];exact ho)]
  | false =>
   simp only [cond_false]
   rw [ND hn hl m (i+1) j' _ (by omega) (by omega) ho]
theorem IC (n:Nat) (p:fq):∀ (m i:Nat) (out:List (PN Bool 24)),(marks n p out i m).length=out.length
 | 0,_,_=>rfl
 | m+1,i,out=>by rw [marks,IC n p m];cases o9 p (i:Int) <;> simp
def JH (len:Nat):Nat -> List fq -> List (PN Bool 24) -> List (PN Bool 24)
 | _,[],out=>out
 | n,p::r,out=>JH len (n+1) r (marks n p out 0 len)
theorem VP {k:Nat} (hk:1000 <= k) {l:List (I4)} {all:List fq} (hl:l.length <= 900) (ha:all.length <= 24):∀ (m n j:Nat) (out:List (PN Bool 24)),n+m=all.length -> m<j -> out.length=l.length ->
  RL k j l out all (all.length:Int) n=some ((JH l.length n (all.drop n) out,()),())
 | 0,n,j,out,h,hj,ho=>by
  obtain ⟨j',rfl⟩:∃ j',j=j'+1:=⟨j - 1,by omega⟩
  have:n=all.length:=by omega
  subst this
  rw [ZB,Xa,Sd (by omega),List.drop_length]
  rfl
 | m+1,n,j,out,h,hj,ho=>by
  obtain ⟨j',rfl⟩:∃ j',j=j'+1:=⟨j - 1,by omega⟩
  have hi:n<all.length:=by omega
  have hq:all.getD n (0,0,0,false)=all[n]:=by simp [List.getD_eq_getElem?_getD,hi]
  rw [ZB,Xa,Sc (by omega),Qo hi,Qp,hq,List.drop_eq_getElem_cons hi,JH]
  refine Eq.trans (ND (k:=k) (g3:=RL k j') (p:=all[n]) (t11:=all) (t12:=(all.length:Int)) (t13:=(n:Int)) (by omega) hl l.length 0 k out (by omega) (by omega) ho) ?_
  rw [Mi (by omega),VP hk hl ha m (n+1) j' _ (by omega) (by omega) (by rw [IC];exact ho)]
theorem afc {k:Nat} (hk:1000 <= k) {l:List (I4)} (hl:l.length <= 24):ahJ k l=some ((JH l.length 0 (mq 0 l) (List.replicate l.length (Qn (α:=Bool) 24 false)),()),()):=by
 unfold ahJ
 have h1:=IB l 0
 rw [Ry (by omega) (by simp;omega),afa hk (by omega),Option.bind_some]
 have:=VP hk (l:=l) (all:=mq 0 l) (by omega) (by omega) (mq 0 l).length 0 k (List.replicate l.length (Qn (α:=Bool) 24 false)) (by omega) (by omega) (by simp)
 rw [List.drop_zero] at this
 exact this
abbrev z24:PN Bool 24:=Qn (α:=Bool) 24 false
def D5 (out:List (PN Bool 24)) (j n:Nat):Bool:=(Gv 24 (out.getD j z24)).getD n false
theorem aci (m j n:Nat):D5 (List.replicate m z24) j n=false:=by
 unfold D5
 have:(List.replicate m z24).getD j z24=z24:=by
  rw [List.getD_eq_getElem?_getD,List.getElem?_replicate];split <;> rfl
 rw [this,EL,List.getD_eq_getElem?_getD,List.getElem?_replicate];split <;> rfl
theorem agI {out:List (PN Bool 24)} {i j n n':Nat} (hi:i<out.length) (hn:n<24) :
  D5 (out.set i (Ur (α:=Bool) 24 (out.getD i z24) (n:Int) true)) j n'=(decide (i=j /\ n=n')||D5 out j n'):=by
 unfold D5
 rw [ko]
 by_cases h:i=j
 ·subst h
  rw [if_pos ⟨rfl,hi⟩,VK,ko,BL]
  by_cases h2:n=n'
  ·subst h2;simp [hn]
  ·simp [h2]
 ·rw [if_neg (fun h2=>h h2.1)];simp [h]
theorem OV {n:Nat} {p:fq} (hn:n<24):∀ (m i:Nat) (out:List (PN Bool 24)) (j n':Nat),i+m <= out.length ->
  D5 (marks n p out i m) j n'=(decide (i <= j /\ j<i+m /\ n=n')&&o9 p (j:Int)||D5 out j n')
 | 0,i,out,j,n',_=>by
  rw [marks]
  have:decide (i <= j /\ j<i+0 /\ n=n')=false:=decide_eq_false (by omega)
  rw [this];rfl
 | m+1,i,out,j,n',h=>by
  rw [marks]
  have hlen:(bif o9 p (i:Int) then out.set i (Ur (α:=Bool) 24 (out.getD i z24) (n:Int) true) else out).length=out.length:=by cases o9 p (i:Int) <;> simp
  rw [OV hn m (i+1) _ j n' (by rw [hlen];omega)]
  cases hh:o9 p (i:Int) with
  | true =>
   simp only [cond_true]
   rw [agI (by omega) hn]
   by_cases e:i=j
   ·subst e
    by_cases e2:n=n'
    ·subst e2;simp [hh]
    ·simp [e2]
   ·have e1:decide (i=j /\ n=n')=false:=decide_eq_false (fun h=>e h.1)
    have e2:decide (i+1 <= j /\ j<i+1+m /\ n=n')=decide (i <= j /\ j<i+(m+1) /\ n=n'):=by congr 1;exact propext ⟨fun h=>by omega,fun h=>by omega⟩
    rw [e1,e2];simp
  | false =>
   simp only [cond_false]
   by_cases e:i=j
   ·subst e
    simp only [hh,Bool.and_false]
   ·have e2:decide (i+1 <= j /\ j<i+1+m /\ n=n')=decide (i <= j /\ j<i+(m+1) /\ n=n'):=by congr 1;exact propext ⟨fun h=>by omega,fun h=>by omega⟩
    rw [e2]
theorem OW {len:Nat}:∀ (ps:List fq) (n:Nat) (out:List (PN Bool 24)) (j n':Nat),out.length=len -> n+ps.length <= 24 -> j<len ->
  D5 (JH len n ps out) j n'=(decide (n <= n' /\ n'<n+ps.length)&&o9 (ps.getD (n' - n) (0,0,0,false)) (j:Int)||D5 out j n')
 | [],n,out,j,n',_,_,_=>by
  rw [JH]
  have:decide (n <= n' /\ n'<n+([]:List fq).length)=false:=decide_eq_false (by simp)
  rw [this];rfl
 | p::r,n,out,j,n',ho,hn,hj=>by
  simp only [List.length_cons] at hn
  rw [JH,OW r (n+1) _ j n' (by rw [IC];exact ho) (by omega) hj,OV (by omega) _ _ _ _ _ (by omega)]
  by_cases e:n=n'
  ·subst e
   have e1:decide (n+1 <= n /\ n<n+1+r.length)=false:=decide_eq_false (by omega)
   have e2:decide (0 <= j /\ j<0+len /\ n=n)=true:=decide_eq_true ⟨by omega,by omega,rfl⟩
   have e3:decide (n <= n /\ n<n+(p::r).length)=true:=decide_eq_true ⟨by omega,by simp⟩
   rw [e1,e2,e3];simp
  ·have e2:decide (0 <= j /\ j<0+len /\ n=n')=false:=decide_eq_false (fun h=>e h.2.2)
   rw [e2]
   by_cases h:n+1 <= n'
   ·have:n' - n=(n' - (n+1))+1:=by omega
    rw [this,List.getD_cons_succ]
    have e3:decide (n+1 <= n' /\ n'<n+1+r.length)=decide (n <= n' /\ n'<n+(p::r).length):=by congr 1;exact propext ⟨fun h=>by simp only [List.length_cons];omega,fun h=>by simp only [List.length_cons] at h;omega⟩
    rw [e3];simp
   ·have e3:decide (n+1 <= n' /\ n'<n+1+r.length)=false:=decide_eq_false (by omega)
    have e4:decide (n <= n' /\ n'<n+(p::r).length)=false:=decide_eq_false (by omega)
    rw [e3,e4];simp
def AI (l:List I4):List (PN Bool 24):=JH l.length 0 (mq 0 l) (List.replicate l.length z24)
theorem VQ (len:Nat):∀ (ps:List fq) (n:Nat) (out:List (PN Bool 24)),(JH len n ps out).length=out.length
 | [],_,_=>rfl
 | p::r,n,out=>by rw [JH,VQ len r,IC]
theorem Yv (l:List I4):(AI l).length=l.length:=by unfold AI;rw [VQ];simp
theorem NG {l:List I4} (hl:l.length <= 24) {j n:Nat} (hj:j<l.length):D5 (AI l) j n=(decide (n<(mq 0 l).length)&&o9 ((mq 0 l).getD n (0,0,0,false)) (j:Int)):=by
 unfold AI
 have:=IB l 0
 rw [OW _ 0 _ j n (by simp) (by omega) hj,aci,Bool.or_false]
 congr 2
 simp
def GK (l:List I4) (i j:Int):Bool:=(mq 0 l).any (fun p=>o9 p i != o9 p j)
theorem aqj {l:List I4} (hl:l.length <= 24) {i j:Nat} (hi:i<l.length) (hj:j<l.length):((AI l).getD i z24=(AI l).getD j z24)↔GK l i j=false:=by
 constructor
 ·intro h
  unfold GK
  rw [List.any_eq_false]
  intro p hp
  obtain ⟨n,hn,rfl⟩:=qy (0,0,0,false) hp
  have h1:=NG hl hi (n:=n)
  have h2:=NG hl hj (n:=n)
  unfold D5 at h1 h2
  rw [h] at h1
  rw [h1] at h2
  simp only [hn,decide_true,Bool.true_and] at h2
  rw [h2];simp
 ·intro h
  unfold GK at h
  rw [List.any_eq_false] at h
  apply N9
  apply List.ext_getElem (by rw [BL,BL])
  intro n h1 h2
  have e1:=NG hl hi (n:=n)
  have e2:=NG hl hj (n:=n)
  unfold D5 at e1 e2
  rw [getD_in h1] at e1
  rw [getD_in h2] at e2
  rw [e1,e2]
  by_cases hn:n<(mq 0 l).length
  ·have:=h _ (jl (z:=(0,0,0,false)) hn)
   simp only [bne_iff_ne,ne_eq,Decidable.not_not] at this
   rw [this]
  ·simp [hn]
theorem al3 {l:List I4} (hl:l.length <= 24) {i:Nat} (hi:i<l.length):((AI l).getD i z24=z24)↔(mq 0 l).any (fun p=>o9 p i)=false:=by
 constructor
 ·intro h
  rw [List.any_eq_false]
  intro p hp
  obtain ⟨n,hn,rfl⟩:=qy (0,0,0,false) hp
  have h1:=NG hl hi (n:=n)
  unfold D5 at h1
  rw [h,EL] at h1
  simp only [hn,decide_true,Bool.true_and] at h1
  rw [<- h1,List.getD_eq_getElem?_getD,List.getElem?_replicate];split <;> simp
 ·intro h
  rw [List.any_eq_false] at h
  apply N9
  apply List.ext_getElem (by rw [BL,BL])
  intro n h1 h2
  have e1:=NG hl hi (n:=n)
  unfold D5 at e1
  rw [getD_in h1] at e1
  have e2:(Gv 24 z24)[n]=false:=by
   have:Gv 24 z24=List.replicate 24 false:=EL 24 false
   rw [List.getElem_of_eq this,List.getElem_replicate]
  rw [e1,e2]
  by_cases hn:n<(mq 0 l).length
  ·have:=h _ (jl (z:=(0,0,0,false)) hn)
   simpa [hn] using this
  ·simp [hn]
theorem BM:∀ (n:Nat) (a b:(Am n .bool).D),fC (Am n .bool) a b=true↔a=b
 | 0,_,_=>⟨fun _=>rfl,fun _=>rfl⟩
 | 1,a,b=>by
  show (a==b)=true↔a=b
  exact beq_iff_eq
 | n+2,a,b=>by
  show (a.1==b.1&&fC (Am (n+1) .bool) a.2 b.2)=true↔a=b
  rw [Bool.and_eq_true,BM (n+1) a.2 b.2,beq_iff_eq]
  exact ⟨fun h=>Prod.ext h.1 h.2,fun h=>by subst h;exact ⟨rfl,rfl⟩⟩
section
variable {tk tv:Ty} (hb:∀ a b:tk.D,fC tk a b=true↔a=b)
include hb
theorem BN (d e:tk.D) (v:tv.D):∀ (es:List (tk.D×tv.D)),jB tk tv e (vL tk tv d v es)=if fC tk e d=true then some v else jB tk tv e es
 | []=>by
  simp only [vL,jB]
  cases fC tk e d <;> rfl
 | x::r=>by
  simp only [vL]
  cases h:fC tk d x.1 with
  | true =>
   have:=(hb _ _).1 h
   simp only [jB]
   rw [<- this]
   cases fC tk e d <;> rfl
  | false =>
   simp only [jB]
   rw [BN d e v r]
   cases h2:fC tk e x.1 with
   | true =>
    have h3:=(hb _ _).1 h2
    subst h3
    cases h4:fC tk x.1 d with
    | true =>
     have h5:=(hb _ _).1 h4
     rw [<- h5,(hb _ _).2 rfl] at h
     cases h
    | false=>rfl
   | false=>rfl
end
def lq (l:List I4) (i:Nat) (s:List Int×List Int):Option (List Int×List Int) :=
 if (l.getD i i0).1=9 then (if 2 <= s.2.length \/ OU l s.2 i=true then none else some (s.1,s.2++[(i:Int)]))
 else if (l.getD i i0).1=10 then
  (match s.2.getLast? with
  | none=>none
  | some k=>if (rd l k i0).2.1≠(l.getD i i0).2.1 \/ GK l k.toNat i=true then none else some (upd s.1 k i,s.2.dropLast))
 else some s
def xu (l:List I4):Nat -> Nat -> List Int×List Int -> Option (List Int×List Int)
 | 0,_,s=>some s
 | m+1,i,s=>(lq l i s).bind (xu l m (i+1))
def prs (l:List I4):Option (List Int):=match xu l l.length 0 (List.replicate l.length 0,[]) with
 | some (out,[])=>some out
 | _=>none
def afd:Option (List Int) -> Option ((List Int×Bool×Unit)×Unit)
 | some out=>some ((out,true,()),())
 | none=>some (([],false,()),())
def ajL (l:List I4) (i:Nat) (s:List Int×List Int):Prop:=s.1.length=l.length /\ s.2.length <= 2 /\ ∀ k∈s.2,0 <= k /\ k<(i:Int)
theorem JO {l:List I4} {i:Nat} {s s':List Int×List Int} (hv:ajL l i s) (h:lq l i s=some s'):ajL l (i+1) s':=by
 obtain ⟨h1,h2,h3⟩:=hv
 unfold lq at h
 split at h
 ·split at h
  ·cases h
  ·rename_i hn
   injection h with h;subst h
   refine ⟨h1,?_,?_⟩
   ·simp only [List.length_append,List.length_cons,List.length_nil];omega
   ·intro k hk
    rcases List.mem_append.1 hk with hk | hk
    ·have:=h3 k hk;omega
    ·have:=List.mem_singleton.1 hk;omega
 ·split at h
  ·split at h
   ·cases h
   ·split at h
    ·cases h
    ·injection h with h;subst h
     refine ⟨by rw [Mk];exact h1,?_,?_⟩
     ·simp only [List.length_dropLast];omega
     ·intro k hk
      have:=h3 k ((List.dropLast_sublist _).subset hk);omega
  ·injection h with h;subst h
   exact ⟨h1,h2,fun k hk=>by have:=h3 k hk;omega⟩
def afe (l:List I4) (i:Nat) (same:List (PN Bool 24×Int)):Prop :=
 (∀ key v,jB (Am 24 .bool) (.int .i64) key same=some v -> ∃ j:Nat,j<i /\ v=(j:Int) /\ (AI l).getD j z24=key) /\
 ∀ j,j<i -> ∃ v,jB (Am 24 .bool) (.int .i64) ((AI l).getD j z24) same=some v
def EM (l:List I4) (i:Nat) (same:List (PN Bool 24×Int)):List (PN Bool 24×Int) :=
 bif !(Ut (Am 24 .bool) (.int .i64) ((AI l).getD i z24) same) then vL (Am 24 .bool) (.int .i64) ((AI l).getD i z24) (i:Int) same else same
theorem acj {l:List I4} {i:Nat} {same:List (PN Bool 24×Int)} (h:afe l i same):afe l (i+1) (EM l i same):=by
 obtain ⟨h1,h2⟩:=h
 unfold EM Ut
 cases hl:jB (Am 24 .bool) (.int .i64) ((AI l).getD i z24) same with
 | some v =>
  simp only [isNone,Bool.not_false,Bool.not_true,cond_false]
  refine ⟨fun key v hk=>?_,fun j hj=>?_⟩
  ·obtain ⟨j,h3,h4⟩:=h1 key v hk
   exact ⟨j,by omega,h4⟩
  ·by_cases e:j=i
   ·subst e;exact ⟨v,hl⟩
   ·exact h2 j (by omega)
 | none =>
  simp only [isNone,Bool.not_true,Bool.not_false,cond_true]
  refine ⟨fun key v hk=>?_,fun j hj=>?_⟩
  ·rw [BN (BM 24)] at hk
   split at hk
   ·rename_i hb
    injection hk with hk
    exact ⟨i,by omega,hk.symm,((BM 24 _ _).1 hb).symm⟩
   ·obtain ⟨j,h3,h4⟩:=h1 key v hk
    exact ⟨j,by omega,h4⟩
  ·rw [BN (BM 24)]
   split
   ·exact ⟨_,rfl⟩
   ·rename_i hb
    by_cases e:j=i
    ·subst e;exact absurd ((BM 24 _ _).2 rfl) hb
    ·exact h2 j (by omega)
theorem aqk {l:List I4} (hl:l.length <= 24) {i k n:Nat} {same:List (PN Bool 24×Int)} (h:afe l n same) (hi:i<n) (hk:k<n) (hn:n <= l.length) :
  (Us (Am 24 .bool) (.int .i64) ((AI l).getD k z24) same 0 != Us (Am 24 .bool) (.int .i64) ((AI l).getD i z24) same 0)=GK l k i:=by
 obtain ⟨h1,h2⟩:=h
 obtain ⟨v,hv⟩:=h2 k hk
 obtain ⟨w,hw⟩:=h2 i hi
 obtain ⟨a,ha,rfl,ha2⟩:=h1 _ _ hv
 obtain ⟨b,hb,rfl,hb2⟩:=h1 _ _ hw
 unfold Us
 rw [hv,hw]
 have:=aqj hl (i:=k) (j:=i) (by omega) (by omega)
 cases hs:GK l k i with
 | false =>
  have e:=this.2 hs
  rw [e,hw] at hv
  injection hv with hv
  simp [hv]
 | true =>
  simp only [bne_iff_ne,ne_eq]
  intro e
  have e:(a:Int)=(b:Int):=e
  have e:a=b:=by omega
  subst e
  rw [ha2] at hb2
  rw [this.1 hb2] at hs
  cases hs
theorem VR {k:Nat} (hk:1000 <= k) {l:List I4} (hl:l.length <= 24):∀ (m i j:Nat) (s:List Int×List Int) (same:List (PN Bool 24×Int)),i+m=l.length -> m<j -> ajL l i s -> afe l i same ->
  MG k j l s.1 s.2 same (AI l) (AI l) (l.length:Int) i=afd (match xu l m i s with | some (out,[])=>some out | _=>none)
 | 0,i,j,s,same,h,hj,hv,hm=>by
  obtain ⟨j',rfl⟩:∃ j',j=j'+1:=⟨j - 1,by omega⟩
  obtain ⟨out,open_⟩:=s
  rw [ZE,Xb,Sd (by omega)]
  cases open_ with
  | nil=>rfl
  | cons x r=>rw [Sc (by simp only [List.length_cons];omega)];rfl
 | m+1,i,j,s,same,h,hj,hv,hm=>by
  obtain ⟨j',rfl⟩:∃ j',j=j'+1:=⟨j - 1,by omega⟩
  have hi:i<l.length:=by omega
  have hm':=acj hm
  have ih:=VR hk hl m (i+1) j'
  have key:MG k (j'+1) l s.1 s.2 same (AI l) (AI l) (l.length:Int) i=RN k (fun l_1 out open_ same all t20 t21 t22=>MG k j' l_1 out open_ same all t20 t21 t22) l s.1 s.2 (EM l i same) (AI l) (i:Int)
   ((AI l).getD i z24).1 ((AI l).getD i z24).2.1 ((AI l).getD i z24).2.2.1 ((AI l).getD i z24).2.2.2.1 ((AI l).getD i z24).2.2.2.2.1 ((AI l).getD i z24).2.2.2.2.2.1 ((AI l).getD i z24).2.2.2.2.2.2.1 ((AI l).getD i z24).2.2.2.2.2.2.2.1 ((AI l).getD i z24).2.2.2.2.2.2.2.2.1 ((AI l).getD i z24).2.2.2.2.2.2.2.2.2.1 ((AI l).getD i z24).2.2.2.2.2.2.2.2.2.2.1 ((AI l).getD i z24).2.2.2.2.2.2.2.2.2.2.2.1 ((AI l).getD i z24).2.2.2.2.2.2.2.2.2.2.2.2.1 ((AI l).getD i z24).2.2.2.2.2.2.2.2.2.2.2.2.2.1 ((AI l).getD i z24).2.2.2.2.2.2.2.2.2.2.2.2.2.2.1 ((AI l).getD i z24).2.2.2.2.2.2.2.2.2.2.2.2.2.2.2.1 ((AI l).getD i z24).2.2.2.2.2.2.2.2.2.2.2.2.2.2.2.2.1 ((AI l).getD i z24).2.2.2.2.2.2.2.2.2.2.2.2.2.2.2.2.2.1 ((AI l).getD i z24).2.2.2.2.2.2.2.2.2.2.2.2.2.2.2.2.2.2.1 ((AI l).getD i z24).2.2.2.2.2.2.2.2.2.2.2.2.2.2.2.2.2.2.2.1 ((AI l).getD i z24).2.2.2.2.2.2.2.2.2.2.2.2.2.2.2.2.2.2.2.2.1 ((AI l).getD i z24).2.2.2.2.2.2.2.2.2.2.2.2.2.2.2.2.2.2.2.2.2.1 ((AI l).getD i z24).2.2.2.2.2.2.2.2.2.2.2.2.2.2.2.2.2.2.2.2.2.2.1 ((AI l).getD i z24).2.2.2.2.2.2.2.2.2.2.2.2.2.2.2.2.2.2.2.2.2.2.2 (AI l) (l.length:Int) (i:Int):=by
   rw [ZE,Xb,Sc (by omega),Qo (by rw [Yv];omega),Qp]
   unfold EM
   cases Ut (Am 24 .bool) (.int .i64) ((AI l).getD i z24) same <;> rfl
  rw [key,RN]
  obtain ⟨out,open_⟩:=s
  obtain ⟨hv1,hv2,hv3⟩:=hv
  simp only at hv1 hv2 hv3 ⊢
  rw [Qo hi,Qp,xu]
  cases h9:(l.getD i i0).1==9 with
  | true =>
   have h9':=eq_of_beq h9
   by_cases h2:2 <= open_.length
   ·have:lq l i (out,open_)=none:=by unfold lq;rw [if_pos h9',if_pos (.inl h2)]
    rw [this,cond_true,Sc (by omega)];rfl
   ·rw [cond_true,Sd (by omega),ajI hk (by omega) (fun k hk=>by have:=hv3 k hk;omega) (by omega),Option.bind_some]
    cases hs:OU l open_ i with
    | true =>
     have:lq l i (out,open_)=none:=by unfold lq;rw [if_pos h9',if_pos (.inr hs)]
     rw [this];rfl
    | false =>
     have hp:lq l i (out,open_)=some (out,open_++[(i:Int)]):=by unfold lq;rw [if_pos h9',if_neg (by rw [hs];simp;omega)]
     have:=ih (out,open_++[(i:Int)]) (EM l i same) (by omega) (by omega) (JO ⟨hv1,hv2,hv3⟩ hp) hm'
     rw [hp,Option.bind_some,<- this]
     simp only [cond_false]
     rw [Rz (by simp only [List.length_cons,List.length_nil];omega),Mi (by omega)]
  | false =>
   have h9':(l.getD i i0).1≠9:=by intro e;rw [e] at h9;cases h9
   simp only [cond_false]
   cases h10:(l.getD i i0).1==10 with
   | true =>
    have agJ:=eq_of_beq h10
    simp only [cond_true]
    have hstep:lq l i (out,open_)=(match open_.getLast? with
     | none=>none
     | some k=>if (rd l k i0).2.1≠(l.getD i i0).2.1 \/ GK l k.toNat i=true then none else some (upd out k i,open_.dropLast)):=by
     unfold lq;rw [if_neg h9',if_pos agJ]
    rw [Uu (by omega) (by omega)]
    rcases List.eq_nil_or_concat open_ with rfl | ⟨r,x,rfl⟩
    ·rw [hstep];rfl
    ·rw [List.concat_eq_append] at *
     have hlast:(r++[x]).getLast? = some x:=by simp
     rw [hlast] at hstep
     have hx:=hv3 x (by simp)
     obtain ⟨n,rfl⟩:∃ n:Nat,x=(n:Int):=⟨x.toNat,by omega⟩
     have hlen:(((r++[(n:Int)]).length:Int) - 1)=(r.length:Int):=by simp only [List.length_append,List.length_cons,List.length_nil];omega
     have hrd:rd (r++[(n:Int)]) (r.length:Int) 0=(n:Int):=by rw [Qp,List.getD_eq_getElem?_getD];simp
     rw [hlen,Sd (by omega),Lj (by omega) (by simp only [List.length_append,List.length_cons,List.length_nil];omega),hrd,Qo (by omega),Qo hi,Qp]
     simp only [Qp,Int.toNat_natCast] at hstep
     cases hA:(l.getD n i0).2.1 != (l.getD i i0).2.1 with
     | true =>
      have hp:lq l i (out,r++[(n:Int)])=none:=by rw [hstep];exact if_pos (.inl (by simpa using hA))
      rw [hp];rfl
     | false =>
      rw [cond_false,Lj (by omega) (by simp only [List.length_append,List.length_cons,List.length_nil];omega),Qo (by rw [Yv];omega),Qp]
      have hmp:=aqk hl hm' (i:=i) (k:=n) (by omega) (by omega) (by omega)
      have hA':¬ (l.getD n i0).2.1≠(l.getD i i0).2.1:=by simpa using hA
      rw [show (Us (Am 24 .bool) (.int .i64) ((AI l).getD n z24) (EM l i same) 0 != Us (Am 24 .bool) (.int .i64) (((AI l).getD i z24).1,((AI l).getD i z24).2) (EM l i same) 0)=GK l n i from hmp]
      cases hs:GK l n i with
      | true =>
       have hp:lq l i (out,r++[(n:Int)])=none:=by rw [hstep];exact if_pos (.inr hs)
       rw [hp];rfl
      | false =>
       have hp:lq l i (out,r++[(n:Int)])=some (upd out (n:Int) (i:Int),r):=by rw [hstep];refine (if_neg ?_).trans (by simp);rintro (h | h);exact hA' h;rw [show GK l n i=true from h] at hs;cases hs
       have:=ih (upd out (n:Int) (i:Int),r) (EM l i same) (by omega) (by omega) (JO ⟨hv1,hv2,hv3⟩ hp) hm'
       rw [hp,Option.bind_some,<- this,cond_false,Lj (by omega) (by simp only [List.length_append,List.length_cons,List.length_nil];omega),Qo (by omega),Rx (by omega) (by omega) (by simp only [List.length_append,List.length_cons,List.length_nil];omega),Mi (by omega)]
       have:(r++[(n:Int)]).take (r.length:Int).toNat=r:=by simp
       rw [this]
   | false =>
    have agJ:(l.getD i i0).1≠10:=by intro e;rw [e] at h10;cases h10
    have hp:lq l i (out,open_)=some (out,open_):=by unfold lq;rw [if_neg h9',if_neg agJ]
    have:=ih (out,open_) (EM l i same) (by omega) (by omega) (JO ⟨hv1,hv2,hv3⟩ hp) hm'
    rw [hp,Option.bind_some,<- this,cond_false,Mi (by omega)]
theorem aff {k:Nat} (hk:1000 <= k) {l:List I4} (hl:l.length <= 24):ahM k l=afd (prs l):=by
 unfold ahM
 rw [Ry (by omega) (by omega),afc hk hl,Option.bind_some]
 have:=VR hk hl l.length 0 k (List.replicate l.length 0,[]) [] (by omega) (by omega) ⟨by simp,by simp,by simp⟩ ⟨fun key v h=>by simp [jB] at h,fun j h=>absurd h (by omega)⟩
 unfold prs
 rw [<- this]
 have:(AI l).length=l.length:=Yv l
 unfold AI at this ⊢
 simp only [this,Int.toNat_natCast]
 rfl
def OX (l:List I4) (ps:List Int) (i:Nat):Bool:=(l.getD i i0).1==11&&((mq 0 l).any (fun p=>o9 p i)||(ps.take i).any (fun e=>decide (e>(i:Int))))
def yj (l:List I4):Bool :=
 decide (1 <= l.length)&&(decide (l.length <= 24)&&(!l.any (fun i=>!lu i)&&(pq (fun i=>i.1==0) l==(l.length:Int) - 1 &&
  (nest ((l.length:Int) - 1) (mq 0 l) (mq 0 l) (List.replicate l.length 0) &&
  (match prs l with | none=>false | some ps=>!L8 (OX l ps) l.length 0)))))
theorem aa8 {l:List I4}:∀ (m i:Nat) (s s':List Int×List Int),xu l m i s=some s' -> s'.1.length=s.1.length
 | 0,i,s,s',h=>by injection h with h;subst h;rfl
 | m+1,i,s,s',h=>by
  rw [xu,Option.bind_eq_some_iff] at h
  obtain ⟨t,h1,h2⟩:=h
  rw [aa8 m (i+1) t s' h2]
  unfold lq at h1
  split at h1
  ·split at h1
   ·cases h1
   ·injection h1 with h1;subst h1;rfl
  ·split at h1
   ·split at h1
    ·cases h1
    ·split at h1
     ·cases h1
     ·injection h1 with h1;subst h1;simp only [Mk]
   ·injection h1 with h1;subst h1;rfl
theorem acn {l:List I4} {ps:List Int} (h:prs l=some ps):xu l l.length 0 (List.replicate l.length 0,[])=some (ps,[]):=by
 unfold prs at h
 split at h
 ·rename_i out hg;injection h with h;subst h;exact hg
 ·cases h
theorem QI {l:List I4} {ps:List Int} (h:prs l=some ps):ps.length=l.length:=by
 have:=aa8 _ _ _ _ (acn h)
 simpa using this
theorem aco {k:Nat} (hk:1000 <= k) {l:List I4} (hl:l.length <= 24) {ps:List Int} (hp:ps.length=l.length) :
  EG k k ps (AI l) l (l.length:Int) 0=some ((!L8 (OX l ps) l.length 0,()),()):=by
 have:=aoY (L:=fun j i=>EG k j ps (AI l) l (l.length:Int) i) (n:=l.length) (OX l ps) (some ((false,()),())) (some ((true,()),())) (fun j i hi=>by
  show EG k (j+1) ps (AI l) l (l.length:Int) (i:Int)=_
  rw [Vs,PY,Sc (by omega),Qo hi,Qp,Mi (by omega)]
  unfold OX
  cases h11:(l.getD i i0).1==11 with
  | false =>
   have:((l.getD i i0).1 != 11)=true:=by simp only [bne,h11];rfl
   rw [this];rfl
  | true =>
   have:((l.getD i i0).1 != 11)=false:=by simp only [bne,h11];rfl
   rw [this,cond_false,Qo (by rw [Yv];exact hi),Qp]
   have hz:fC (Am 24 .bool) ((AI l).getD i z24) z24 = !(mq 0 l).any (fun p=>o9 p i):=by
    have h1:=al3 hl hi
    have h2:=BM 24 ((AI l).getD i z24) z24
    cases hb:fC (Am 24 .bool) ((AI l).getD i z24) z24 with
    | true=>rw [h1.1 (h2.1 hb)];rfl
    | false =>
     cases ha:(mq 0 l).any (fun p=>o9 p i) with
     | true=>rfl
     | false=>rw [h2.2 (h1.2 ha)] at hb;cases hb
   have hz':fC (Am 24 .bool) ((AI l).getD i z24) (false,false,false,false,false,false,false,false,false,false,false,false,false,false,false,false,false,false,false,false,false,false,false,false) = !(mq 0 l).any (fun p=>o9 p i):=hz
   rw [hz']
   cases ha:(mq 0 l).any (fun p=>o9 p i) with
   | true=>rfl
   | false =>
    simp only [Bool.not_false,Bool.not_true,cond_false,Bool.false_or,Bool.true_and]
    rw [Rx (by omega) (by omega) (by omega)]
    have:sub ps 0 (i:Int)=ps.take i:=by simp [sub]
    rw [this,ajH hk (by simp;omega),Option.bind_some])
  (fun j=>by
   show EG k (j+1) ps (AI l) l (l.length:Int) (l.length:Int)=_
   rw [Vs,PY,Sd (by omega)]) l.length 0 k (by omega) (by omega)
 refine Eq.trans this ?_
 cases L8 (OX l ps) l.length 0 <;> rfl
theorem Yw {k:Nat} (hk:1000 <= k) {l:List I4} (hl:l.length <= 900):agh k l=some ((yj l,()),()):=by
 unfold agh yj
 by_cases h1:1 <= l.length
 ·rw [Sd (by omega),decide_eq_true h1]
  by_cases h2:l.length <= 24
  ·rw [Sd (by omega),decide_eq_true h2,aoZ hk hl,Option.bind_some]
   cases h3:l.any (fun i=>!lu i) with
   | true=>rfl
   | false =>
    simp only [cond_false]
    rw [ajG hk hl,Option.bind_some,Uu (by omega) (by omega)]
    cases h4:pq (fun i=>i.1==0) l==(l.length:Int) - 1 with
    | false=>simp only [bne,h4];rfl
    | true =>
     simp only [bne,h4,Bool.not_true,cond_false]
     rw [al2 hk hl,Option.bind_some,Uu (by omega) (by omega)]
     cases h5:nest ((l.length:Int) - 1) (mq 0 l) (mq 0 l) (List.replicate l.length 0) with
     | false=>rfl
     | true =>
      simp only [Bool.not_true,cond_false]
      rw [aff hk h2]
      cases h6:prs l with
      | none=>rfl
      | some ps =>
       simp only [afd,Option.bind_some,Bool.not_true,cond_false]
       rw [afc hk h2,Option.bind_some]
       have:=aco hk h2 (QI h6)
       unfold AI at this
       rw [this];rfl
  ·rw [Sc (by omega),decide_eq_false h2];rfl
 ·rw [Sc (by omega),decide_eq_false h1];rfl
abbrev a0:fq:=(0,0,0,false)
def wd (x:I4):Nat:=(bif x.1==8 then x.2.2.1 else bif x.1==7 then x.2.2.2 else 0).toNat
def isA (x:I4):Bool:=x.1==8||x.1==7
theorem afg (v a b:Int):AL v a b=true↔a <= v /\ v <= b:=by simp [AL]
theorem acp {x:I4} (h:lu x=true) (e:x.1=8):x.2.1=0 /\ (1 <= x.2.2.1 /\ x.2.2.1 <= 24) /\ 1 <= x.2.2.2 /\ x.2.2.2 <= 20:=by
 simpa [lu,e,afg] using h
theorem aru {x:I4} (h:lu x=true) (e:x.1=7):(0 <= x.2.1 /\ x.2.1<8) /\ x.2.2.1=0 /\ 1 <= x.2.2.2 /\ x.2.2.2 <= 24:=by
 simpa [lu,e,afg,DC] using h
theorem vk {x:I4} (h:isA x=false):wd x=0:=by
 simp only [isA,Bool.or_eq_false_iff] at h
 simp [wd,h.1,h.2]
theorem y5 {x:I4} (h:lu x=true) (ha:isA x=true):1 <= wd x /\ wd x <= 24 /\ (x.1=8 -> x.2.2.1=(wd x:Int)) /\ (x.1=7 -> x.2.2.2=(wd x:Int)):=by
 simp only [isA,Bool.or_eq_true,beq_iff_eq] at ha
 rcases ha with e | e
 ·have:=acp h e
  have w:wd x=x.2.2.1.toNat:=by simp [wd,e]
  rw [w];refine ⟨by omega,by omega,fun _=>by omega,fun e2=>by omega⟩
 ·have:=aru h e
  have w:wd x=x.2.2.2.toNat:=by simp [wd,e]
  rw [w];refine ⟨by omega,by omega,fun e2=>by omega,fun _=>by omega⟩
def mh (i:Nat) (x:I4):fq:=(((i+1:Nat):Int),((i+wd x:Nat):Int),(i:Int),x.1==8)
theorem JQ {x:I4} (h:lu x=true) {i:Nat} (hi:i <= 9000):pc i x=if isA x=true then [mh i x] else []:=by
 unfold pc
 cases h8:x.1==8 with
 | true =>
  have e:=eq_of_beq h8
  have ha:isA x=true:=by simp [isA,e]
  have:=y5 h ha
  rw [if_pos ha,cond_true,this.2.2.1 e,Uu (by omega) (by omega),mh,h8]
  congr 3
 | false =>
  cases h7:x.1==7 with
  | true =>
   have e:=eq_of_beq h7
   have ha:isA x=true:=by simp [isA,e]
   have:=y5 h ha
   rw [if_pos ha,cond_true,cond_false,this.2.2.2 e,Uu (by omega) (by omega),mh,h8]
   congr 3
  | false =>
   rw [if_neg (by simp [isA,h8,h7])];rfl
theorem l7:∀ (l:List I4) (i:Nat) (p:fq),(∀ x∈l,lu x=true) -> i+l.length <= 9000 -> (p∈mq i l↔∃ n,n<l.length /\ isA (l.getD n i0)=true /\ p=mh (i+n) (l.getD n i0))
 | [],i,p,_,_=>by simp [mq]
 | x::r,i,p,hm,hl=>by
  simp only [List.length_cons] at hl
  rw [mq,List.mem_append,JQ (hm x List.mem_cons_self) (by omega),l7 r (i+1) p (fun y hy=>hm y (List.mem_cons_of_mem _ hy)) (by omega)]
  constructor
  ·rintro (h | ⟨n,h1,h2,h3⟩)
   ·split at h
    ·rename_i ha
     have:=List.mem_singleton.1 h
     exact ⟨0,by simp,by simpa using ha,by simpa using this⟩
    ·cases h
   ·exact ⟨n+1,by simp only [List.length_cons];omega,by simpa using h2,by rw [List.getD_cons_succ,h3];congr 1;omega⟩
  ·rintro ⟨n,h1,h2,h3⟩
   cases n with
   | zero =>
    rw [List.getD_cons_zero] at h2 h3
    left;rw [if_pos h2];exact List.mem_singleton.2 h3
   | succ n =>
    rw [List.getD_cons_succ] at h2 h3
    right;exact ⟨n,by simp only [List.length_cons] at h1;omega,h2,by rw [h3];congr 1;omega⟩
def gq (j:Int) (ps:List fq):Nat:=ps.countP (fun p=>p.2.2.2&&o9 p j)
theorem VU:∀ (m i:Nat) (ar:List Int) (j:Nat),i+m <= ar.length -> (bumps ar i m).getD j 0=if i <= j /\ j<i+m then IntKind.i64.wrap (ar.getD j 0+1) else ar.getD j 0
 | 0,i,ar,j,_=>by rw [bumps,if_neg (by omega)]
 | m+1,i,ar,j,h=>by
  rw [bumps,VU m (i+1) _ j (by simp only [List.length_set];omega),ko]
  by_cases e:i=j
  ·subst e
   rw [if_neg (by omega),if_pos ⟨rfl,by omega⟩,if_pos (by omega)]
  ·rw [if_neg (fun h:i=j /\ j<ar.length=>e h.1)]
   by_cases e2:i+1 <= j /\ j<i+1+m
   ·rw [if_pos e2,if_pos (by omega)]
   ·rw [if_neg e2,if_neg (by omega)]
theorem TL {len:Nat} {all:List fq} (hlen:len <= 900):∀ (ps:List fq) (ar:List Int),ar.length=len -> (∀ p∈ps,p.1=p.2.2.1+1 /\ 0 <= p.2.2.1 /\ p.1 <= p.2.1) -> (∀ j,j<len -> 0 <= ar.getD j 0 /\ ar.getD j 0+ps.length <= 900) ->
  (nest ((len:Int) - 1) all ps ar=true↔(∀ p∈ps,p.2.1<(len:Int) - 1 /\ all.any (J7 p)=false) /\ ∀ j,j<len -> ar.getD j 0+(gq j ps:Int) <= 2)
 | [],ar,ha,_,_=>by
  rw [nest,Bool.not_eq_true',List.any_eq_false]
  constructor
  ·intro h
   refine ⟨fun p hp=>(by cases hp),fun j hj=>?_⟩
   have:=h _ (jl (z:=0) (l:=ar) (i:=j) (by omega))
   simp only [gq,List.countP_nil]
   have:=of_decide_eq_false (Bool.not_eq_true _ ▸ this)
   omega
  ·rintro ⟨_,h⟩ x hx
   obtain ⟨j,hj,rfl⟩:=qy 0 hx
   have:=h j (by omega)
   simp only [gq,List.countP_nil] at this
   rw [Bool.not_eq_true]
   exact decide_eq_false (by omega)
 | p::r,ar,ha,hp,hb=>by
  rw [nest]
  have hp1:=hp p List.mem_cons_self
  by_cases h1:p.2.1≥(len:Int) - 1
  ·rw [Sc h1]
   exact ⟨fun h=>(by cases h),fun h=>absurd (h.1 p List.mem_cons_self).1 (by omega)⟩
  ·rw [Sd h1]
   cases h2:all.any (J7 p) with
   | true=>exact ⟨fun h=>(by cases h),fun h=>(by rw [(h.1 p List.mem_cons_self).2] at h2;cases h2)⟩
   | false =>
    rw [cond_false]
    have hget:∀ j,j<len -> (bif p.2.2.2 then bumps ar p.1.toNat (p.2.1+1 - p.1).toNat else ar).getD j 0=ar.getD j 0+(if (p.2.2.2&&o9 p j)=true then 1 else 0):=by
     intro j hj
     cases h3:p.2.2.2 with
     | false=>simp
     | true =>
      rw [cond_true,VU _ _ _ _ (by omega)]
      have:=hb j hj
      simp only [List.length_cons] at this
      by_cases h4:o9 p j=true
      ·have h5:p.1 <= (j:Int) /\ (j:Int) <= p.2.1:=by simpa [o9] using h4
       rw [if_pos (by omega),if_pos (by simp [h4]),Uu (by omega) (by omega)]
      ·have h5:¬ (p.1 <= (j:Int) /\ (j:Int) <= p.2.1):=by simpa [o9] using h4
       rw [if_neg (by omega),if_neg (by simp [h4])];omega
    have wD:(bif p.2.2.2 then bumps ar p.1.toNat (p.2.1+1 - p.1).toNat else ar).length=len:=by
     cases p.2.2.2
     ·exact ha
     ·rw [cond_true,NA];exact ha
    rw [TL hlen r _ wD (fun q hq=>hp q (List.mem_cons_of_mem _ hq)) (fun j hj=>by
     rw [hget j hj]
     have:=hb j hj
     simp only [List.length_cons] at this
     split <;> omega)]
    constructor
    ·rintro ⟨h3,h4⟩
     refine ⟨fun q hq=>?_,fun j hj=>?_⟩
     ·rcases List.mem_cons.1 hq with rfl | hq
      ·exact ⟨by omega,h2⟩
      ·exact h3 q hq
     ·have:=h4 j hj
      rw [hget j hj] at this
      rw [gq,List.countP_cons]
      rw [gq] at this
      cases h5:(p.2.2.2&&o9 p j) <;> simp only [h5,if_true,Bool.false_eq_true,if_false] at this ⊢ <;> omega
    ·rintro ⟨h3,h4⟩
     refine ⟨fun q hq=>h3 q (List.mem_cons_of_mem _ hq),fun j hj=>?_⟩
     have:=h4 j hj
     rw [hget j hj]
     rw [gq,List.countP_cons] at this
     rw [gq]
     cases h5:(p.2.2.2&&o9 p j) <;> simp only [h5,if_true,Bool.false_eq_true,if_false] at this ⊢ <;> omega
structure C9 (l:List I4) (ps:List Int):Prop where
 len1:1 <= l.length
 len2:l.length <= 24
 may:∀ x∈l,lu x=true
 end_ : ∀ i, i < l.length -> ((l.getD i i0).1 = 0 ↔ i + 1 = l.length)
 last:∀ p∈mq 0 l,p.2.1<(l.length:Int) - 1
 bad:∀ p∈mq 0 l,∀ q∈mq 0 l,J7 p q=false
 bodies:∀ j,j<l.length -> gq (j:Int) (mq 0 l) <= 2
 pairs:prs l=some ps
 marks:∀ i,i<l.length -> (l.getD i i0).1=11 -> (mq 0 l).any (fun p=>o9 p i)=false /\ ∀ k,k<i -> ps.getD k 0 <= (i:Int)
theorem VW {l:List I4} (hm:∀ x∈l,lu x=true) (hl:l.length <= 900) {p:fq} (hp:p∈mq 0 l):p.1=p.2.2.1+1 /\ 0 <= p.2.2.1 /\ p.1 <= p.2.1 /\ p.2.2.1<(l.length:Int):=by
 obtain ⟨n,h1,h2,rfl⟩:=(l7 l 0 p hm (by omega)).1 hp
 have:=y5 (hm _ (jl h1)) h2
 simp only [mh]
 omega
theorem afh {l:List I4}:l.any (fun i=>!lu i)=false↔∀ x∈l,lu x=true:=by
 rw [List.any_eq_false]
 exact ⟨fun h x hx=>by simpa using h x hx,fun h x hx=>by simp [h x hx]⟩
theorem afi {l:List I4} (h1:1 <= l.length):(pq (fun i=>i.1==0) l==(l.length:Int) - 1)=true↔∀ i,i<l.length -> ((l.getD i i0).1=0↔i+1=l.length):=by
 rw [beq_iff_eq]
 unfold pq
 cases h:l.findIdx? (fun i=>i.1==0) with
 | none =>
  rw [List.findIdx?_eq_none_iff] at h
  constructor
  ·intro e;simp only at e;omega
  ·intro e
   have e1:=(e (l.length - 1) (by omega)).2 (by omega)
   have:=h _ (jl (z:=i0) (l:=l) (i:=l.length - 1) (by omega))
   rw [e1] at this
   exact absurd this (by decide)
 | some n =>
  rw [List.findIdx?_eq_some_iff_getElem] at h
  obtain ⟨hn,hn1,hn2⟩:=h
  simp only
  constructor
  ·intro e i hi
   have:n+1=l.length:=by omega
   constructor
   ·intro e2
    by_cases hlt:i<n
    ·have:=hn2 i hlt
     rw [getD_in hi] at e2
     simp [e2] at this
    ·omega
   ·intro e2
    have:i=n:=by omega
    subst this
    rw [getD_in hi];simpa using hn1
  ·intro e
   have:=(e n hn).1 (by rw [getD_in hn];simpa using hn1)
   omega
theorem TM {l:List I4} {ps:List Int} (hp:ps.length=l.length):L8 (OX l ps) l.length 0=false↔∀ i,i<l.length -> (l.getD i i0).1=11 -> (mq 0 l).any (fun p=>o9 p i)=false /\ ∀ k,k<i -> ps.getD k 0 <= (i:Int):=by
 rw [I9]
 constructor
 ·intro h i hi e
  have:=h i (by omega) (by omega)
  unfold OX at this
  simp only [e,beq_self_eq_true,Bool.true_and,Bool.or_eq_false_iff] at this
  refine ⟨this.1,fun k hk=>?_⟩
  have h2:=this.2
  rw [List.any_eq_false] at h2
  have h3:ps.getD k 0∈ps.take i:=by
   rw [getD_in (by omega),List.mem_take_iff_getElem]
   exact ⟨k,by omega,rfl⟩
  have:=h2 _ h3
  simp only [decide_eq_true_eq] at this
  omega
 ·intro h i _ hi
  unfold OX
  cases h11:(l.getD i i0).1==11 with
  | false=>rfl
  | true =>
   obtain ⟨h1,h2⟩:=h i (by omega) (eq_of_beq h11)
   rw [h1,Bool.true_and,Bool.false_or,List.any_eq_false]
   intro x hx
   rw [List.mem_take_iff_getElem] at hx
   obtain ⟨k,hk,rfl⟩:=hx
   have:=h2 k (by omega)
   rw [getD_in (by omega)] at this
   simp only [decide_eq_true_eq]
   omega
theorem L9 {l:List I4}:yj l=true↔∃ ps,C9 l ps:=by
 unfold yj
 simp only [Bool.and_eq_true,decide_eq_true_eq,Bool.not_eq_true']
 constructor
 ·rintro ⟨h1,h2,h3,h4,h5,h6⟩
  have h3:=afh.1 h3
  have hpl:=IB l 0
  cases hps:prs l with
  | none=>rw [hps] at h6;cases h6
  | some ps =>
   rw [hps] at h6
   simp only [Bool.not_eq_true'] at h6
   have h5:=(TL (all:=mq 0 l) (by omega) (mq 0 l) (List.replicate l.length 0) (by simp) (fun p hp=>by have:=VW h3 (by omega) hp;omega) (fun j hj=>by
    rw [List.getD_eq_getElem?_getD,List.getElem?_replicate,if_pos hj];simp;omega)).1 h5
   exact ⟨ps,⟨h1,h2,h3,(afi h1).1 h4,fun p hp=>(h5.1 p hp).1,fun p hp q hq=>by
    have:=(h5.1 p hp).2
    rw [List.any_eq_false] at this
    simpa using this q hq,fun j hj=>by
    have:=h5.2 j hj
    rw [List.getD_eq_getElem?_getD,List.getElem?_replicate,if_pos hj] at this
    simp at this;omega,hps,(TM (QI hps)).1 h6⟩⟩
 ·rintro ⟨ps,g⟩
  have hpl:=IB l 0
  have:=g.len2
  refine ⟨g.len1,g.len2,afh.2 g.may,(afi g.len1).2 g.end_,?_,?_⟩
  ·refine (TL (all:=mq 0 l) (by omega) (mq 0 l) (List.replicate l.length 0) (by simp) (fun p hp=>by have:=VW g.may (by omega) hp;omega) (fun j hj=>by
    rw [List.getD_eq_getElem?_getD,List.getElem?_replicate,if_pos hj];simp;omega)).2 ⟨fun p hp=>⟨g.last p hp,?_⟩,fun j hj=>?_⟩
   ·rw [List.any_eq_false];intro q hq;simp [g.bad p hp q hq]
   ·rw [List.getD_eq_getElem?_getD,List.getElem?_replicate,if_pos hj]
    have:=g.bodies j hj
    simp;omega
  ·rw [g.pairs]
   simp only [Bool.not_eq_true']
   exact (TM (QI g.pairs)).2 g.marks
theorem ajM {p:fq} (h:p.1=p.2.2.1+1 /\ p.1 <= p.2.1):J7 p p=false:=by
 unfold J7 inA apA o9
 have e1:decide (p.1 <= p.2.2.1)=false:=decide_eq_false (by omega)
 have e2:decide (p.1 <= p.1)=true:=decide_eq_true (by omega)
 have e3:decide (p.1 <= p.2.1)=true:=decide_eq_true (by omega)
 have e4:decide (p.2.1 <= p.2.1)=true:=decide_eq_true (by omega)
 rw [e1,e2,e3,e4];simp
inductive Tr where
 | nil
 | one (x:I4) (r:Tr)
 | lk (a:Int) (b r:Tr)
 | ar (x:I4) (b r:Tr)
namespace Tr
def flat:Tr -> List I4
 | nil=>[]
 | one x r=>x::flat r
 | lk a b r=>(9,a,0,0)::(flat b++((10,a,0,0)::flat r))
 | ar x b r=>x::(flat b++flat r)
def len:Tr -> Nat
 | nil=>0
 | one _ r=>len r+1
 | lk _ b r=>len b+len r+2
 | ar _ b r=>len b+len r+1
theorem jv:∀ t:Tr,t.flat.length=t.len
 | nil=>rfl
 | one x r=>by simp only [flat,len,List.length_cons,jv r]
 | lk a b r=>by simp only [flat,len,List.length_cons,List.length_append,jv b,jv r];omega
 | ar x b r=>by simp only [flat,len,List.length_cons,List.length_append,jv b,jv r]
def plain (x:I4):Prop:=x.1≠0 /\ x.1≠7 /\ x.1≠8 /\ x.1≠9 /\ x.1≠10
def Ok:Nat -> List Int -> Bool -> Tr -> Prop
 | _,_,_,nil=>True
 | d,hs,ia,one x r=>lu x=true /\ plain x /\ (x.1=11 -> ia=false /\ hs=[]) /\ Ok d hs ia r
 | d,hs,ia,lk a b r=>(0 <= a /\ a <= 3) /\ (a ∉ hs /\ hs.length<2) /\ Ok d (hs++[a]) ia b /\ Ok d hs ia r
 | d,hs,ia,ar x b r=>(lu x=true /\ isA x=true /\ wd x=b.len) /\ (x.1=8 -> d<2) /\ Ok (bif x.1==8 then d+1 else d) hs true b /\ Ok d hs ia r
def app:Tr -> Tr -> Tr
 | nil,u=>u
 | one x r,u=>one x (app r u)
 | lk a b r,u=>lk a b (app r u)
 | ar x b r,u=>ar x b (app r u)
theorem AO:∀ (t u:Tr),(app t u).flat=t.flat++u.flat
 | nil,u=>rfl
 | one x r,u=>by simp only [app,flat,AO r u,List.cons_append]
 | lk a b r,u=>by simp only [app,flat,AO r u,List.cons_append,List.append_assoc]
 | ar x b r,u=>by simp only [app,flat,AO r u,List.cons_append,List.append_assoc]
theorem QJ (t u:Tr):(app t u).len=t.len+u.len:=by rw [<- jv,AO,List.length_append,jv,jv]
theorem NH {d:Nat} {hs:List Int} {ia:Bool}:∀ {t u:Tr},Ok d hs ia t -> Ok d hs ia u -> Ok d hs ia (app t u)
 | nil,u,_,h=>h
 | one x r,u,⟨h1,h2,h3,h4⟩,h=>⟨h1,h2,h3,NH h4 h⟩
 | lk a b r,u,⟨h1,h2,h3,h4⟩,h=>⟨h1,h2,h3,NH h4 h⟩
 | ar x b r,u,⟨h1,h2,h3,h4⟩,h=>⟨h1,h2,h3,NH h4 h⟩
end Tr
open Tr
theorem QK {x:I4} (h:plain x):isA x=false:=by
 obtain ⟨_,h7,h8,_⟩:=h
 simp [isA,h7,h8]
theorem ajN {a:Int} (h:0 <= a /\ a <= 3):lu (9,a,0,0)=true:=by simp [lu,AL,h]
theorem ajO {a:Int} (h:0 <= a /\ a <= 3):lu (10,a,0,0)=true:=by simp [lu,AL,h]
theorem NI:∀ {t:Tr} {d:Nat} {hs:List Int} {ia:Bool},Ok d hs ia t -> ∀ x∈t.flat,lu x=true
 | .nil,_,_,_,_,x,hx=>by cases hx
 | .one y r,_,_,_,⟨h1,_,_,h4⟩,x,hx=>by
  rcases List.mem_cons.1 hx with rfl | hx
  ·exact h1
  ·exact NI h4 x hx
 | .lk a b r,_,_,_,⟨h1,_,h3,h4⟩,x,hx=>by
  rcases List.mem_cons.1 hx with rfl | hx
  ·exact ajN h1
  ·rcases List.mem_append.1 hx with hx | hx
   ·exact NI h3 x hx
   ·rcases List.mem_cons.1 hx with rfl | hx
    ·exact ajO h1
    ·exact NI h4 x hx
 | .ar y b r,_,_,_,⟨h1,_,h3,h4⟩,x,hx=>by
  rcases List.mem_cons.1 hx with rfl | hx
  ·exact h1.1
  ·rcases List.mem_append.1 hx with hx | hx
   ·exact NI h3 x hx
   ·exact NI h4 x hx
theorem VX:∀ {t:Tr} {d:Nat} {hs:List Int} {ia:Bool},Ok d hs ia t -> ∀ x∈t.flat,x.1≠0
 | .nil,_,_,_,_,x,hx=>by cases hx
 | .one y r,_,_,_,⟨_,h2,_,h4⟩,x,hx=>by
  rcases List.mem_cons.1 hx with rfl | hx
  ·exact h2.1
  ·exact VX h4 x hx
 | .lk a b r,_,_,_,⟨_,_,h3,h4⟩,x,hx=>by
  rcases List.mem_cons.1 hx with rfl | hx
  ·exact (by decide:(9:Int)≠0)
  ·rcases List.mem_append.1 hx with hx | hx
   ·exact VX h3 x hx
   ·rcases List.mem_cons.1 hx with rfl | hx
    ·exact (by decide:(10:Int)≠0)
    ·exact VX h4 x hx
 | .ar y b r,_,_,_,⟨h1,_,h3,h4⟩,x,hx=>by
  rcases List.mem_cons.1 hx with rfl | hx
  ·intro e;have:=h1.2.1;simp [isA,e] at this
  ·rcases List.mem_append.1 hx with hx | hx
   ·exact VX h3 x hx
   ·exact VX h4 x hx
theorem EN:∀ (u w:List I4) (o:Nat),mq o (u++w)=mq o u++mq (o+u.length) w
 | [],w,o=>by simp [mq]
 | x::u,w,o=>by
  simp only [List.cons_append,mq,List.append_assoc,List.length_cons]
  rw [EN u w (o+1),show o+1+u.length=o+(u.length+1) by omega]
theorem IE {x:I4} (h1:lu x=true) (h2:isA x=false) {o:Nat} (r:List I4) (ho:o <= 9000):mq o (x::r)=mq (o+1) r:=by
 rw [mq,JQ h1 ho,if_neg (by simp [h2])];rfl
theorem ajP {x:I4} (h1:lu x=true) (h2:isA x=true) {o:Nat} (r:List I4) (ho:o <= 9000):mq o (x::r)=mh o x::mq (o+1) r:=by
 rw [mq,JQ h1 ho,if_pos h2];rfl
theorem QL {x:I4} {r:Tr} (h1:lu x=true) (h2:plain x) {o:Nat} (ho:o <= 9000):mq o (Tr.one x r).flat=mq (o+1) r.flat:=IE h1 (QK h2) _ ho
theorem Yx {a:Int} {b r:Tr} (h1:0 <= a /\ a <= 3) {o:Nat} (ho:o+b.len+1 <= 9000):mq o (Tr.lk a b r).flat=mq (o+1) b.flat++mq (o+b.len+2) r.flat:=by
 rw [Tr.flat,IE (ajN h1) rfl _ (by omega),EN,jv,IE (ajO h1) rfl _ (by omega),show o+1+b.len+1=o+b.len+2 by omega]
theorem Yy {x:I4} {b r:Tr} (h1:lu x=true) (h2:isA x=true) {o:Nat} (ho:o <= 9000):mq o (Tr.ar x b r).flat=mh o x::(mq (o+1) b.flat++mq (o+b.len+1) r.flat):=by
 rw [Tr.flat,ajP h1 h2 _ ho,EN,jv,show o+1+b.len=o+b.len+1 by omega]
theorem qo:∀ {t:Tr} {d:Nat} {hs:List Int} {ia:Bool} {o:Nat},Ok d hs ia t -> o+t.len <= 9000 -> ∀ p∈mq o t.flat,(o:Int)<p.1 /\ p.1=p.2.2.1+1 /\ p.1 <= p.2.1 /\ p.2.1<((o+t.len:Nat):Int)
 | .nil,_,_,_,_,_,_,p,hp=>by simp [Tr.flat,mq] at hp
 | .one x r,_,_,_,o,⟨h1,h2,_,h4⟩,ho,p,hp=>by
  simp only [Tr.len] at ho ⊢
  rw [QL h1 h2 (by omega)] at hp
  have:=qo h4 (by omega) p hp
  omega
 | .lk a b r,_,_,_,o,⟨h1,_,h3,h4⟩,ho,p,hp=>by
  simp only [Tr.len] at ho ⊢
  rw [Yx h1 (by omega)] at hp
  rcases List.mem_append.1 hp with hp | hp
  ·have:=qo h3 (by omega) p hp;omega
  ·have:=qo h4 (by omega) p hp;omega
 | .ar x b r,_,_,_,o,⟨⟨h1,h2,h3⟩,_,h5,h6⟩,ho,p,hp=>by
  simp only [Tr.len] at ho ⊢
  rw [Yy h1 h2 (by omega)] at hp
  rcases List.mem_cons.1 hp with rfl | hp
  ·have:=y5 h1 h2
   simp only [mh];omega
  ·rcases List.mem_append.1 hp with hp | hp
   ·have:=qo h5 (by omega) p hp;omega
   ·have:=qo h6 (by omega) p hp;omega
theorem IG {p q:fq} (hp:p.1=p.2.2.1+1 /\ p.1 <= p.2.1) (hq:q.1=q.2.2.1+1 /\ q.1 <= q.2.1) (h:p.2.1<q.1 - 1 \/ q.2.1<p.1 - 1):J7 p q=false:=by
 unfold J7 inA apA o9
 rw [<- Bool.not_eq_true]
 simp only [Bool.or_eq_true,Bool.and_eq_true,Bool.not_eq_true',decide_eq_true_eq,Bool.or_eq_false_iff,Bool.and_eq_false_iff,decide_eq_false_iff_not]
 omega
theorem ajQ {p q:fq} (hp:p.1=p.2.2.1+1 /\ p.1 <= p.2.1) (hq:q.1=q.2.2.1+1 /\ q.1 <= q.2.1) (h:q.1 <= p.1 - 1 /\ p.2.1 <= q.2.1):J7 p q=false /\ J7 q p=false:=by
 unfold J7 inA apA o9
 rw [<- Bool.not_eq_true,<- Bool.not_eq_true]
 simp only [Bool.or_eq_true,Bool.and_eq_true,Bool.not_eq_true',decide_eq_true_eq,Bool.or_eq_false_iff,Bool.and_eq_false_iff,decide_eq_false_iff_not]
 omega
theorem NJ:∀ {t:Tr} {d:Nat} {hs:List Int} {ia:Bool} {o:Nat},Ok d hs ia t -> o+t.len <= 9000 -> ∀ p∈mq o t.flat,∀ q∈mq o t.flat,J7 p q=false
 | .nil,_,_,_,_,_,_,p,hp=>by simp [Tr.flat,mq] at hp
 | .one x r,_,_,_,o,⟨h1,h2,_,h4⟩,ho,p,hp=>by
  simp only [Tr.len] at ho
  rw [QL h1 h2 (by omega)] at hp ⊢
  exact NJ h4 (by omega) p hp
 | .lk a b r,_,_,_,o,⟨h1,_,h3,h4⟩,ho,p,hp=>by
  simp only [Tr.len] at ho
  rw [Yx h1 (by omega)] at hp ⊢
  intro q hq
  rcases List.mem_append.1 hp with hp | hp <;> rcases List.mem_append.1 hq with hq | hq
  ·exact NJ h3 (by omega) p hp q hq
  ·have:=qo h3 (by omega) p hp;have:=qo h4 (by omega) q hq
   exact IG (by omega) (by omega) (by omega)
  ·have:=qo h4 (by omega) p hp;have:=qo h3 (by omega) q hq
   exact IG (by omega) (by omega) (by omega)
  ·exact NJ h4 (by omega) p hp q hq
 | .ar x b r,_,_,_,o,⟨⟨h1,h2,h3⟩,_,h5,h6⟩,ho,p,hp=>by
  simp only [Tr.len] at ho
  rw [Yy h1 h2 (by omega)] at hp ⊢
  intro q hq
  have hw:=y5 h1 h2
  have e1:(mh o x).1=((o+1:Nat):Int):=rfl
  have e2:(mh o x).2.1=((o+wd x:Nat):Int):=rfl
  have e3:(mh o x).2.2.1=(o:Int):=rfl
  rcases List.mem_cons.1 hp with rfl | hp <;> rcases List.mem_cons.1 hq with rfl | hq
  ·exact ajM (by omega)
  ·rcases List.mem_append.1 hq with hq | hq
   ·have:=qo h5 (by omega) q hq
    exact (ajQ (by omega) (by omega) (by omega)).2
   ·have:=qo h6 (by omega) q hq
    exact IG (by omega) (by omega) (by omega)
  ·rcases List.mem_append.1 hp with hp | hp
   ·have:=qo h5 (by omega) p hp
    exact (ajQ (by omega) (by omega) (by omega)).1
   ·have:=qo h6 (by omega) p hp
    exact IG (by omega) (by omega) (by omega)
  ·rcases List.mem_append.1 hp with hp | hp <;> rcases List.mem_append.1 hq with hq | hq
   ·exact NJ h5 (by omega) p hp q hq
   ·have:=qo h5 (by omega) p hp;have:=qo h6 (by omega) q hq
    exact IG (by omega) (by omega) (by omega)
   ·have:=qo h6 (by omega) p hp;have:=qo h5 (by omega) q hq
    exact IG (by omega) (by omega) (by omega)
   ·exact NJ h6 (by omega) p hp q hq
theorem o7 {p:fq} {j:Int}:o9 p j=true↔p.1 <= j /\ j <= p.2.1:=by simp [o9]
theorem NK (j:Int) (a b:List fq):gq j (a++b)=gq j a+gq j b:=List.countP_append
theorem QM {j:Int} {a:List fq} (h:∀ p∈a,¬ (p.1 <= j /\ j <= p.2.1)):gq j a=0:=by
 rw [gq,List.countP_eq_zero]
 intro p hp
 rw [Bool.not_eq_true,Bool.and_eq_false_iff]
 right
 rw [<- Bool.not_eq_true,o7]
 exact h p hp
theorem zo:∀ {t:Tr} {d:Nat} {hs:List Int} {ia:Bool} {o:Nat},Ok d hs ia t -> o+t.len <= 9000 -> d <= 2 -> ∀ j:Int,gq j (mq o t.flat)+d <= 2
 | .nil,_,_,_,_,_,_,hd,j=>by simp [Tr.flat,mq,gq];exact hd
 | .one x r,_,_,_,o,⟨h1,h2,_,h4⟩,ho,hd,j=>by
  simp only [Tr.len] at ho
  rw [QL h1 h2 (by omega)]
  exact zo h4 (by omega) hd j
 | .lk a b r,_,_,_,o,⟨h1,_,h3,h4⟩,ho,hd,j=>by
  simp only [Tr.len] at ho
  rw [Yx h1 (by omega),NK]
  have i1:=zo (o:=o+1) h3 (by omega) hd j
  have i2:=zo (o:=o+b.len+2) h4 (by omega) hd j
  by_cases hj:j<((o+1+b.len:Nat):Int)
  ·rw [QM (a:=mq (o+b.len+2) r.flat) (fun p hp=>by have:=qo h4 (by omega) p hp;omega)];omega
  ·rw [QM (a:=mq (o+1) b.flat) (fun p hp=>by have:=qo h3 (by omega) p hp;omega)];omega
 | .ar x b r,d,_,_,o,⟨⟨h1,h2,h3⟩,h4,h5,h6⟩,ho,hd,j=>by
  simp only [Tr.len] at ho
  have hw:=y5 h1 h2
  rw [Yy h1 h2 (by omega),show ∀ a:fq,∀ l,a::l=[a]++l from fun _ _=>rfl,NK,NK]
  have i2:=zo (o:=o+b.len+1) h6 (by omega) hd j
  have e:gq j [mh o x]=if (x.1==8&&o9 (mh o x) j)=true then 1 else 0:=by
   rw [gq,List.countP_cons,List.countP_nil];simp [mh]
  by_cases hj:j<((o+1+b.len:Nat):Int)
  ·rw [QM (a:=mq (o+b.len+1) r.flat) (fun p hp=>by have:=qo h6 (by omega) p hp;omega),e]
   cases h8:x.1==8 with
   | true =>
    have:=h4 (eq_of_beq h8)
    have i1:=zo (o:=o+1) h5 (by omega) (by rw [h8,cond_true];omega) j
    rw [h8,cond_true] at i1
    split <;> omega
   | false =>
    have i1:=zo (o:=o+1) h5 (by omega) (by rw [h8,cond_false];omega) j
    rw [h8,cond_false] at i1
    simp only [Bool.false_and,Bool.false_eq_true,if_false]
    omega
  ·rw [QM (a:=mq (o+1) b.flat) (fun p hp=>by have:=qo h5 (by omega) p hp;omega),e,if_neg]
   ·omega
   ·rw [Bool.and_eq_true,o7]
    have e1:(mh o x).2.1=((o+wd x:Nat):Int):=rfl
    omega
open Tr
def At (l:List I4) (o:Nat) (w:List I4):Prop:=o+w.length <= l.length /\ ∀ j,j<w.length -> l.getD (o+j) i0=w.getD j i0
theorem l9 {l:List I4} {o:Nat} {x:I4} {w:List I4} (h:At l o (x::w)):o<l.length /\ l.getD o i0=x /\ At l (o+1) w:=by
 obtain ⟨h1,h2⟩:=h
 simp only [List.length_cons] at h1 h2
 refine ⟨by omega,by simpa using h2 0 (by omega),by omega,fun j hj=>?_⟩
 have:=h2 (j+1) (by omega)
 rw [List.getD_cons_succ] at this
 rw [<- this];congr 1;omega
theorem zq {l:List I4} {o:Nat} {u w:List I4} (h:At l o (u++w)):At l o u /\ At l (o+u.length) w:=by
 obtain ⟨h1,h2⟩:=h
 simp only [List.length_append] at h1 h2
 refine ⟨⟨by omega,fun j hj=>?_⟩,by omega,fun j hj=>?_⟩
 ·rw [h2 j (by omega),oo hj]
 ·rw [show o+u.length+j=o+(u.length+j) by omega,h2 _ (by omega),lg (by omega)]
  congr 1;omega
theorem al4 (l:List I4):At l 0 l:=⟨by omega,fun j _=>by rw [Nat.zero_add]⟩
def FW:Tr -> Nat -> List Int -> List Int
 | .nil,_,out=>out
 | .one _ r,o,out=>FW r (o+1) out
 | .lk _ b r,o,out=>FW r (o+b.len+2) ((FW b (o+1) out).set o ((o+b.len+1:Nat):Int))
 | .ar _ b r,o,out=>FW r (o+b.len+1) (FW b (o+1) out)
theorem EO:∀ (t:Tr) (o:Nat) (out:List Int),(FW t o out).length=out.length
 | .nil,_,_=>rfl
 | .one _ r,o,out=>by rw [FW,EO r]
 | .lk _ b r,o,out=>by rw [FW,EO r,List.length_set,EO b]
 | .ar _ b r,o,out=>by rw [FW,EO r,EO b]
theorem y7:∀ (t:Tr) (o:Nat) (out:List Int) (k:Nat),k<o \/ o+t.len <= k -> (FW t o out).getD k 0=out.getD k 0
 | .nil,_,_,_,_=>rfl
 | .one _ r,o,out,k,h=>by simp only [Tr.len] at h;rw [FW,y7 r _ _ k (by omega)]
 | .lk _ b r,o,out,k,h=>by
  simp only [Tr.len] at h
  rw [FW,y7 r _ _ k (by omega),ko,if_neg (by omega),y7 b _ _ k (by omega)]
 | .ar _ b r,o,out,k,h=>by
  simp only [Tr.len] at h
  rw [FW,y7 r _ _ k (by omega),y7 b _ _ k (by omega)]
theorem JR:∀ (t:Tr) (o:Nat) (out:List Int) (k:Nat) (m:Nat),o+t.len <= m -> out.getD k 0<(m:Int) -> (FW t o out).getD k 0<(m:Int)
 | .nil,_,_,_,_,_,h=>h
 | .one _ r,o,out,k,m,h1,h2=>by simp only [Tr.len] at h1;rw [FW];exact JR r _ _ k m (by omega) h2
 | .lk _ b r,o,out,k,m,h1,h2=>by
  simp only [Tr.len] at h1
  rw [FW]
  refine JR r _ _ k m (by omega) ?_
  rw [ko]
  split
  ·omega
  ·exact JR b _ _ k m (by omega) h2
 | .ar _ b r,o,out,k,m,h1,h2=>by
  simp only [Tr.len] at h1
  rw [FW]
  exact JR r _ _ k m (by omega) (JR b _ _ k m (by omega) h2)
def arv (l:List I4) (o len:Nat):Prop:=∀ n,n<o -> o+len <= n+wd (l.getD n i0)+1 \/ n+wd (l.getD n i0)<o
theorem JJ:∀ {t:Tr} {d:Nat} {hs:List Int} {ia:Bool} {l:List I4} {o:Nat},Ok d hs ia t -> At l o t.flat -> ∀ n,o <= n -> n<o+t.len -> n+wd (l.getD n i0)<o+t.len
 | .nil,_,_,_,_,_,_,_,n,h1,h2=>by simp only [Tr.len] at h2;omega
 | .one x r,_,_,_,l,o,⟨h1,h2,_,h4⟩,ha,n,hn1,hn2=>by
  simp only [Tr.len] at hn2 ⊢
  obtain ⟨a1,a2,a3⟩:=l9 ha
  by_cases e:n=o
  ·subst e;rw [a2,vk (QK h2)];omega
  ·have:=JJ h4 a3 n (by omega) (by omega);omega
 | .lk a b r,_,_,_,l,o,⟨h1,_,h3,h4⟩,ha,n,hn1,hn2=>by
  simp only [Tr.len] at hn2 ⊢
  obtain ⟨a1,a2,a3⟩:=l9 ha
  obtain ⟨a4,a5⟩:=zq a3
  obtain ⟨a6,a7,a8⟩:=l9 a5
  rw [jv] at a6 a7 a8
  by_cases e:n=o
  ·subst e;rw [a2,vk rfl];omega
  ·by_cases e2:n<o+1+b.len
   ·have:=JJ h3 a4 n (by omega) (by omega);omega
   ·by_cases e3:n=o+1+b.len
    ·subst e3;rw [a7,vk rfl];omega
    ·have:=JJ h4 a8 n (by omega) (by omega);omega
 | .ar x b r,_,_,_,l,o,⟨⟨h1,h2,h3⟩,_,h5,h6⟩,ha,n,hn1,hn2=>by
  simp only [Tr.len] at hn2 ⊢
  obtain ⟨a1,a2,a3⟩:=l9 ha
  obtain ⟨a4,a5⟩:=zq a3
  rw [jv] at a5
  by_cases e:n=o
  ·subst e;rw [a2,h3];omega
  ·by_cases e2:n<o+1+b.len
   ·have:=JJ h5 a4 n (by omega) (by omega);omega
   ·have:=JJ h6 a5 n (by omega) (by omega);omega
theorem II {l:List I4} (hm:∀ x∈l,lu x=true) (hl:l.length <= 900) {i j:Nat}:GK l i j=false↔∀ n,n<l.length -> isA (l.getD n i0)=true -> ((n<i /\ i <= n+wd (l.getD n i0))↔(n<j /\ j <= n+wd (l.getD n i0))):=by
 unfold GK
 rw [List.any_eq_false]
 have hh:∀ (n k:Nat),o9 (mh n (l.getD n i0)) (k:Int)=true↔n<k /\ k <= n+wd (l.getD n i0):=fun n k=>by
  rw [o7];simp only [mh];omega
 constructor
 ·intro h n hn ha
  have:=h (mh n (l.getD n i0)) ((l7 l 0 _ hm (by omega)).2 ⟨n,hn,ha,by rw [Nat.zero_add]⟩)
  simp only [bne_iff_ne,ne_eq,Decidable.not_not] at this
  rw [Bool.eq_iff_iff,hh,hh] at this
  exact this
 ·intro h p hp
  obtain ⟨n,hn,ha,rfl⟩:=(l7 l 0 p hm (by omega)).1 hp
  rw [Nat.zero_add]
  simp only [bne_iff_ne,ne_eq,Decidable.not_not]
  rw [Bool.eq_iff_iff,hh,hh]
  exact h n hn ha
theorem BO {l:List I4} (hm:∀ x∈l,lu x=true) (hl:l.length <= 900):∀ {t:Tr} {d:Nat} {hs:List Int} {ia:Bool} {o:Nat} (m:Nat) (out open_:List Int),Ok d hs ia t -> At l o t.flat -> arv l o t.len -> open_.map (fun k=>(rd l k i0).2.1)=hs -> (∀ k∈open_,0 <= k /\ k<(o:Int)) ->
  xu l (t.len+m) o (out,open_)=xu l m (o+t.len) (FW t o out,open_)
 | .nil,_,_,_,_,m,out,open_,_,_,_,_,_=>by simp only [Tr.len,Nat.zero_add,Nat.add_zero,FW]
 | .one x r,_,_,_,o,m,out,open_,⟨h1,h2,_,h4⟩,ha,ho,hs,hk=>by
  simp only [Tr.len] at ho ⊢
  obtain ⟨a1,a2,a3⟩:=l9 ha
  rw [show r.len+1+m=(r.len+m)+1 by omega,xu]
  have hp:lq l o (out,open_)=some (out,open_):=by
   unfold lq;rw [a2,if_neg h2.2.2.2.1,if_neg h2.2.2.2.2]
  rw [hp,Option.bind_some,BO hm hl m out open_ h4 a3 (fun n hn=>by
   by_cases e:n=o
   ·subst e;right;rw [a2,vk (QK h2)];omega
   ·have:=ho n (by omega);omega) hs (fun k hk'=>by have:=hk k hk';omega),FW]
  congr 1;omega
 | .lk a b r,_,hs,_,o,m,out,open_,⟨h1,h2,h3,h4⟩,ha,ho,hhs,hk=>by
  simp only [Tr.len] at ho ⊢
  obtain ⟨a1,a2,a3⟩:=l9 ha
  obtain ⟨a4,a5⟩:=zq a3
  obtain ⟨a6,a7,a8⟩:=l9 a5
  rw [jv] at a6 a7 a8
  have hlen:open_.length=hs.length:=by rw [<- hhs,List.length_map]
  have hsame:OU l open_ o=false:=by
   unfold OU
   rw [List.any_eq_false]
   intro k hk'
   rw [Qp,a2]
   have:(rd l k i0).2.1∈hs:=by rw [<- hhs];exact List.mem_map.2 ⟨k,hk',rfl⟩
   intro e
   have e:=eq_of_beq e
   simp only at e
   rw [e] at this
   exact h2.1 this
  have hp:lq l o (out,open_)=some (out,open_++[(o:Int)]):=by
   unfold lq
   rw [a2,if_pos rfl,if_neg]
   rintro (h | h)
   ·simp only at h;omega
   ·rw [show OU l open_ (o:Int)=true from h] at hsame;cases hsame
  rw [show b.len+r.len+2+m=(b.len+(r.len+m+1))+1 by omega,xu,hp,Option.bind_some]
  rw [BO hm hl (r.len+m+1) out (open_++[(o:Int)]) h3 a4 (fun n hn=>by
   by_cases e:n=o
   ·subst e;right;rw [a2,vk rfl];omega
   ·have:=ho n (by omega);omega) (by rw [List.map_append,hhs,List.map_cons,List.map_nil,Qp,a2]) (fun k hk'=>by
   rcases List.mem_append.1 hk' with hk' | hk'
   ·have:=hk k hk';omega
   ·have:=List.mem_singleton.1 hk';omega)]
  have hsep:GK l o (o+1+b.len:Nat)=false:=by
   rw [II hm hl]
   intro n hn hA
   by_cases e:n<o
   ·have:=ho n e;omega
   ·by_cases e2:n=o
    ·subst e2;rw [a2] at hA;exact absurd hA (by simp [isA])
    ·by_cases e3:n<o+1+b.len
     ·have:=JJ h3 a4 n (by omega) e3;omega
     ·omega
  have hp2:lq l (o+1+b.len) (FW b (o+1) out,open_++[(o:Int)])=some ((FW b (o+1) out).set o ((o+b.len+1:Nat):Int),open_):=by
   unfold lq
   rw [a7,if_neg (by simp),if_pos rfl,show (FW b (o+1) out,open_++[(o:Int)]).2.getLast? = some (o:Int) by simp]
   simp only
   rw [if_neg]
   ·simp only [List.dropLast_concat,Mj]
    congr 3;congr 1;omega
   ·rintro (h | h)
    ·rw [Qp,a2] at h;exact h rfl
    ·rw [show GK l (((o:Int).toNat:Nat):Int) ((o+1+b.len:Nat):Int)=false from hsep] at h;cases h
  rw [xu,hp2,Option.bind_some,show o+1+b.len+1=o+b.len+2 by omega]
  rw [show o+1+b.len+1=o+b.len+2 by omega] at a8
  rw [BO hm hl m _ open_ h4 a8 (fun n hn=>by
   by_cases e:n<o
   ·have:=ho n e;omega
   ·by_cases e2:n=o
    ·subst e2;right;rw [a2,vk rfl];omega
    ·by_cases e3:n<o+1+b.len
     ·have:=JJ h3 a4 n (by omega) e3;omega
     ·have:n=o+1+b.len:=by omega
      subst this;right;rw [a7,vk rfl];omega) hhs (fun k hk'=>by have:=hk k hk';omega),FW]
  congr 1;omega
 | .ar x b r,_,hs,_,o,m,out,open_,⟨⟨h1,h2,h3⟩,_,h5,h6⟩,ha,ho,hhs,hk=>by
  simp only [Tr.len] at ho ⊢
  obtain ⟨a1,a2,a3⟩:=l9 ha
  obtain ⟨a4,a5⟩:=zq a3
  rw [jv] at a5
  have h9:x.1≠9:=fun e=>by simp [isA,e] at h2
  have h10:x.1≠10:=fun e=>by simp [isA,e] at h2
  have hp:lq l o (out,open_)=some (out,open_):=by
   unfold lq;rw [a2,if_neg h9,if_neg h10]
  rw [show b.len+r.len+1+m=(b.len+(r.len+m))+1 by omega,xu,hp,Option.bind_some]
  rw [BO hm hl (r.len+m) out open_ h5 a4 (fun n hn=>by
   by_cases e:n=o
   ·subst e;left;rw [a2,h3];omega
   ·have:=ho n (by omega);omega) hhs (fun k hk'=>by have:=hk k hk';omega)]
  rw [show o+1+b.len=o+b.len+1 by omega] at a5 ⊢
  rw [BO hm hl m _ open_ h6 a5 (fun n hn=>by
   by_cases e:n<o
   ·have:=ho n e;omega
   ·by_cases e2:n=o
    ·subst e2;right;rw [a2,h3];omega
    ·have:=JJ h5 a4 n (by omega) (by omega);omega) hhs (fun k hk'=>by have:=hk k hk';omega),FW]
  congr 1;omega
theorem EP:∀ {t:Tr} {d:Nat} {hs:List Int} {ia:Bool} {l:List I4} {o:Nat},Ok d hs ia t -> At l o t.flat -> ∀ i,o <= i -> i<o+t.len -> (l.getD i i0).1=11 -> ia=false /\ hs=[] /\ (∀ n,o <= n -> n<i -> n+wd (l.getD n i0)<i) /\ ∀ (out:List Int) (k:Nat),o <= k -> k<i -> out.getD k 0<(i:Int) -> (FW t o out).getD k 0<(i:Int)
 | .nil,_,_,_,_,_,_,_,i,h1,h2,_=>by simp only [Tr.len] at h2;omega
 | .one x r,_,_,_,l,o,⟨h1,h2,h3,h4⟩,ha,i,hi1,hi2,he=>by
  simp only [Tr.len] at hi2
  obtain ⟨a1,a2,a3⟩:=l9 ha
  by_cases e:i=o
  ·subst e;rw [a2] at he
   exact ⟨(h3 he).1,(h3 he).2,fun n _ _=>by omega,fun _ k _ _=>by omega⟩
  ·obtain ⟨i1,i2,i3,i4⟩:=EP h4 a3 i (by omega) (by omega) he
   refine ⟨i1,i2,fun n hn1 hn2=>?_,fun out k hk1 hk2 hk3=>?_⟩
   ·by_cases e2:n=o
    ·subst e2;rw [a2,vk (QK h2)];omega
    ·exact i3 n (by omega) hn2
   ·rw [FW]
    by_cases e2:k=o
    ·rw [y7 r _ _ k (by omega)];exact hk3
    ·exact i4 out k (by omega) hk2 hk3
 | .lk a b r,_,hs,_,l,o,⟨h1,_,h3,h4⟩,ha,i,hi1,hi2,he=>by
  simp only [Tr.len] at hi2
  obtain ⟨a1,a2,a3⟩:=l9 ha
  obtain ⟨a4,a5⟩:=zq a3
  obtain ⟨a6,a7,a8⟩:=l9 a5
  rw [jv] at a6 a7 a8
  by_cases e:i=o
  ·subst e;rw [a2] at he;exact absurd he (by decide:(9:Int)≠11)
  ·by_cases e2:i<o+1+b.len
   ·have:=(EP h3 a4 i (by omega) e2 he).2.1
    simp at this
   ·by_cases e3:i=o+1+b.len
    ·subst e3;rw [a7] at he;exact absurd he (by decide:(10:Int)≠11)
    ·obtain ⟨i1,i2,i3,i4⟩:=EP h4 a8 i (by omega) (by omega) he
     refine ⟨i1,i2,fun n hn1 hn2=>?_,fun out k hk1 hk2 hk3=>?_⟩
     ·by_cases f1:n=o
      ·subst f1;rw [a2,vk rfl];omega
      ·by_cases f2:n<o+1+b.len
       ·have:=JJ h3 a4 n (by omega) f2;omega
       ·by_cases f3:n=o+1+b.len
        ·subst f3;rw [a7,vk rfl];omega
        ·exact i3 n (by omega) hn2
     ·rw [FW,show o+b.len+2=o+1+b.len+1 by omega]
      have key:((FW b (o+1) out).set o ((o+b.len+1:Nat):Int)).getD k 0<(i:Int):=by
       rw [ko]
       split
       ·omega
       ·exact JR b _ _ k i (by omega) hk3
      by_cases f:o+1+b.len+1 <= k
      ·exact i4 _ k f hk2 key
      ·rw [y7 r _ _ k (by omega)];exact key
 | .ar x b r,_,_,_,l,o,⟨⟨h1,h2,h3⟩,_,h5,h6⟩,ha,i,hi1,hi2,he=>by
  simp only [Tr.len] at hi2
  obtain ⟨a1,a2,a3⟩:=l9 ha
  obtain ⟨a4,a5⟩:=zq a3
  rw [jv] at a5
  by_cases e:i=o
  ·subst e;rw [a2] at he;simp [isA,he] at h2
  ·by_cases e2:i<o+1+b.len
   ·have:=(EP h5 a4 i (by omega) e2 he).1
    cases this
   ·obtain ⟨i1,i2,i3,i4⟩:=EP h6 a5 i (by omega) (by omega) he
    refine ⟨i1,i2,fun n hn1 hn2=>?_,fun out k hk1 hk2 hk3=>?_⟩
    ·by_cases f1:n=o
     ·subst f1;rw [a2,h3];omega
     ·by_cases f2:n<o+1+b.len
      ·have:=JJ h5 a4 n (by omega) f2;omega
      ·exact i3 n (by omega) hn2
    ·rw [FW,show o+b.len+1=o+1+b.len by omega]
     have key:(FW b (o+1) out).getD k 0<(i:Int):=JR b _ _ k i (by omega) hk3
     by_cases f:o+1+b.len <= k
     ·exact i4 _ k f hk2 key
     ·rw [y7 r _ _ k (by omega)];exact key
def Tr.prog (t:Tr):List I4:=t.flat++[i0]
theorem xg (t:Tr):t.prog.length=t.len+1:=by unfold Tr.prog;rw [List.length_append,jv];rfl
theorem aa9 {t:Tr} (h:Ok 0 [] false t):∀ x∈t.prog,lu x=true:=by
 intro x hx
 rcases List.mem_append.1 hx with hx | hx
 ·exact NI h x hx
 ·rw [List.mem_singleton.1 hx];rfl
theorem IJ (t:Tr):At t.prog 0 t.flat:=(zq (al4 t.prog)).1
theorem DU (t:Tr):t.prog.getD t.len i0=i0:=by
 unfold Tr.prog
 rw [lg (by rw [jv];omega),jv,Nat.sub_self];rfl
theorem abb {t:Tr} (hl:t.len <= 900):mq 0 t.prog=mq 0 t.flat:=by
 unfold Tr.prog
 rw [EN,IE rfl rfl _ (by rw [jv];omega)]
 simp [mq]
theorem VY {t:Tr} (h:Ok 0 [] false t) (hl:t.len<24):C9 t.prog (FW t 0 (List.replicate (t.len+1) 0)):=by
 have hm:=aa9 h
 have hpl:=xg t
 have hpc:=abb (t:=t) (by omega)
 have hin:=fun p hp=>qo (o:=0) h (by omega) p hp
 have arw:prs t.prog=some (FW t 0 (List.replicate (t.len+1) 0)):=by
  have:=BO hm (by omega) (o:=0) 1 (List.replicate t.prog.length 0) [] h (IJ t) (fun n hn=>by omega) rfl (fun k hk=>by cases hk)
  unfold prs
  rw [hpl] at this ⊢
  rw [this,xu,Nat.zero_add]
  unfold lq
  rw [DU,if_neg (by decide),if_neg (by decide)]
  rfl
 refine ⟨by omega,by omega,hm,fun i hi=>?_,fun p hp=>?_,fun p hp q hq=>?_,fun j hj=>?_,arw,fun i hi e=>⟨?_,fun k hk=>?_⟩⟩
 ·by_cases e:i<t.len
  ·have:(t.prog.getD i i0).1≠0:=by
    unfold Tr.prog
    rw [oo (by rw [jv];exact e)]
    exact VX h _ (jl (by rw [jv];exact e))
   exact ⟨fun h=>absurd h this,fun h=>by omega⟩
  ·have:i=t.len:=by omega
   subst this
   rw [DU]
   exact ⟨fun _=>by omega,fun _=>rfl⟩
 ·rw [hpc] at hp
  have:=hin p hp;omega
 ·rw [hpc] at hp hq
  exact NJ h (by omega) p hp q hq
 ·rw [hpc]
  have:=zo (o:=0) h (by omega) (by omega) (j:Int);omega
 ·have hlt:i<t.len:=by
   by_cases e2:i<t.len
   ·exact e2
   ·have:i=t.len:=by omega
    subst this;rw [DU] at e;exact absurd e (by decide)
  obtain ⟨_,_,i3,_⟩:=EP h (IJ t) i (by omega) (by omega) e
  rw [List.any_eq_false]
  intro p hp
  obtain ⟨n,hn,ha,rfl⟩:=(l7 t.prog 0 p hm (by omega)).1 hp
  rw [o7]
  simp only [mh]
  rintro ⟨h1,h2⟩
  have:=i3 n (by omega) (by omega)
  omega
 ·have hlt:i<t.len:=by
   by_cases e2:i<t.len
   ·exact e2
   ·have:i=t.len:=by omega
    subst this;rw [DU] at e;exact absurd e (by decide)
  obtain ⟨_,_,_,i4⟩:=EP h (IJ t) i (by omega) (by omega) e
  have:=i4 (List.replicate (t.len+1) 0) k (by omega) hk (by
   rw [List.getD_eq_getElem?_getD,List.getElem?_replicate];split <;> simp <;> omega)
  omega
def wh (p:List Int) (n:Int):Prop:=(p.length <= 1000 /\ 0 <= n /\ n <= (p.length:Int)) /\ ∀ x∈p,0 <= x /\ x <= 255
theorem l5 (k:Nat) {p:List Int} {n m:Int} (h:wh p n) (hm:0<m):∃ v n',AB k p n m=some ((v,()),(p,n',()),()) /\ (0 <= v /\ v<m) /\ wh p n':=by
 obtain ⟨⟨h1,h2,h3⟩,h4⟩:=h
 unfold AB
 by_cases e:n≥(p.length:Int)
 ·rw [Sc e];exact ⟨0,n,rfl,by omega,⟨h1,h2,h3⟩,h4⟩
 ·rw [Sd e,Uu (n:=n+1) (by omega) (by omega),show n+1 - 1=n by omega,Uu (n:=n) (by omega) (by omega),Lj h2 (by omega),Sb (by omega)]
  obtain ⟨j,rfl⟩:∃ j:Nat,n=(j:Int):=⟨n.toNat,by omega⟩
  rw [Qp]
  have:=h4 _ (jl (z:=0) (l:=p) (i:=j) (by omega))
  rw [Uu (by omega) (by omega)]
  exact ⟨_,_,rfl,⟨Int.tmod_nonneg _ this.1,Int.tmod_lt_of_pos _ hm⟩,⟨h1,by omega,by omega⟩,h4⟩
theorem mem3 {a:Int} (h:0 <= a /\ a<3):DC a=true:=by simp [DC];omega
theorem Yz (k:Nat) {p:List Int} {n:Int} (h:wh p n):∃ x n',agD k p n=some ((x,()),(p,n',()),()) /\ (lu x=true /\ 1 <= x.1 /\ x.1 <= 6 /\ x.2.1<3) /\ wh p n':=by
 unfold agD
 obtain ⟨a,n1,e1,ha,h1⟩:=l5 k (m:=3) h (by omega)
 rw [e1,Option.bind_some]
 obtain ⟨b,n2,e2,hb,h2⟩:=l5 k (m:=3) h1 (by omega)
 simp only
 rw [e2,Option.bind_some]
 obtain ⟨c,n3,e3,hc,h3⟩:=l5 k (m:=6) h2 (by omega)
 simp only
 rw [e3,Option.bind_some]
 simp only
 have ma:=mem3 ha
 have mb:=mem3 hb
 have hc6:c=0 \/ c=1 \/ c=2 \/ c=3 \/ c=4 \/ c=5:=by omega
 rcases hc6 with rfl | rfl | rfl | rfl | rfl | rfl
 ·obtain ⟨d,n4,e4,hd,h4⟩:=l5 k (m:=9) h3 (by omega)
  rw [show ((0:Int)==0)=true from rfl,cond_true,e4,Option.bind_some]
  simp only
  rw [Uu (by omega) (by omega)]
  exact ⟨_,_,rfl,⟨by simp [lu,ma,AL];omega,by simp,by simp,ha.2⟩,h4⟩
 ·exact ⟨_,_,rfl,⟨by simp [lu,ma,mb],by simp,by simp,ha.2⟩,h3⟩
 ·exact ⟨_,_,rfl,⟨by simp [lu,ma,mb],by simp,by simp,ha.2⟩,h3⟩
 ·exact ⟨_,_,rfl,⟨by simp [lu,ma,mb],by simp,by simp,ha.2⟩,h3⟩
 ·obtain ⟨d,n4,e4,hd,h4⟩:=l5 k (m:=7) h3 (by omega)
  rw [show ((4:Int)==0)=false from rfl,show ((4:Int)==1)=false from rfl,show ((4:Int)==2)=false from rfl,show ((4:Int)==3)=false from rfl,show ((4:Int)==4)=true from rfl,cond_false,cond_false,cond_false,cond_false,cond_true,e4,Option.bind_some]
  simp only
  rw [Uu (by omega) (by omega)]
  exact ⟨_,_,rfl,⟨by simp [lu,ma,AL];omega,by simp,by simp,ha.2⟩,h4⟩
 ·obtain ⟨d,n4,e4,hd,h4⟩:=l5 k (m:=64) h3 (by omega)
  rw [show ((5:Int)==0)=false from rfl,show ((5:Int)==1)=false from rfl,show ((5:Int)==2)=false from rfl,show ((5:Int)==3)=false from rfl,show ((5:Int)==4)=false from rfl,cond_false,cond_false,cond_false,cond_false,cond_false,e4,Option.bind_some]
  simp only
  rw [Uu (by omega) (by omega)]
  exact ⟨_,_,rfl,⟨by simp [lu,ma,AL];omega,by simp,by simp,ha.2⟩,h4⟩
theorem abd {x:I4} (h:1 <= x.1 /\ x.1 <= 6 /\ x.2.1<3):plain x /\ x.1≠11:=by unfold plain;omega
def Ve (n:Int):Tr -> Prop
 | .nil=>True
 | .one _ r=>Ve n r
 | .lk a b r=>(0 <= a /\ a<n) /\ Ve n b /\ Ve n r
 | .ar _ b r=>Ve n b /\ Ve n r
def D6:Tr -> Prop
 | .nil=>True
 | .one x r=>(1 <= x.1 /\ x.1 <= 6 /\ x.2.1<3) /\ D6 r
 | .lk _ b r=>D6 b /\ D6 r
 | .ar _ _ _=>False
theorem DV {n:Int}:∀ {t u:Tr},Ve n t -> Ve n u -> Ve n (t.app u)
 | .nil,_,_,h=>h
 | .one _ r,_,h1,h=>DV (t:=r) h1 h
 | .lk _ _ _,_,h1,h=>⟨h1.1,h1.2.1,DV h1.2.2 h⟩
 | .ar _ b r,_,h1,h=>⟨h1.1,DV h1.2 h⟩
theorem ER:∀ {t u:Tr},D6 t -> D6 u -> D6 (t.app u)
 | .nil,_,_,h=>h
 | .one _ r,_,h1,h=>⟨h1.1,ER h1.2 h⟩
 | .lk _ b r,_,h1,h=>⟨h1.1,ER h1.2 h⟩
 | .ar _ _ _,_,h1,_=>h1.elim
def Vf:Tr -> Prop
 | .nil=>True
 | .one x r=>(x.1 <= 6 -> x.2.1<3) /\ Vf r
 | .lk _ b r=>Vf b /\ Vf r
 | .ar _ b r=>Vf b /\ Vf r
theorem zu:∀ {t:Tr},D6 t -> Vf t
 | .nil,_=>trivial
 | .one _ r,h=>⟨fun _=>h.1.2.2,zu h.2⟩
 | .lk _ b r,h=>⟨zu h.1,zu h.2⟩
 | .ar _ _ _,h=>h.elim
theorem QN:∀ {t u:Tr},Vf t -> Vf u -> Vf (t.app u)
 | .nil,_,_,h=>h
 | .one _ r,_,h1,h=>⟨h1.1,QN h1.2 h⟩
 | .lk _ b r,_,h1,h=>⟨h1.1,QN h1.2 h⟩
 | .ar _ b r,_,h1,h=>⟨h1.1,QN h1.2 h⟩
structure Pc (jw:Int) (t:Tr):Prop where
 ok:∀ d ia,Ok d [] ia t
 simple:D6 t
 free:Ve jw t
theorem ao2 (jw:Int):Pc jw .nil:=⟨fun _ _=>trivial,trivial,trivial⟩
theorem ajR {jw:Int} {t:Tr} {x:I4} (h:Pc jw t) (hx:lu x=true /\ 1 <= x.1 /\ x.1 <= 6 /\ x.2.1<3):Pc jw (t.app (.one x .nil)) :=
 have hp:=abd hx.2
 ⟨fun d ia=>NH (h.ok d ia) ⟨hx.1,hp.1,fun e=>absurd e hp.2,trivial⟩,ER h.simple ⟨hx.2,trivial⟩,DV h.free trivial⟩
theorem aql {jw:Int} {t:Tr} {x:I4} {a:Int} (h:Pc jw t) (hx:lu x=true /\ 1 <= x.1 /\ x.1 <= 6 /\ x.2.1<3) (ha:0 <= a /\ a<jw) (hl:jw <= 4):Pc jw (t.app (.lk a (.one x .nil) .nil)) :=
 have hp:=abd hx.2
 ⟨fun d ia=>NH (h.ok d ia) ⟨by omega,⟨by simp,by simp⟩,⟨hx.1,hp.1,fun e=>absurd e hp.2,trivial⟩,trivial⟩,ER h.simple ⟨⟨hx.2,trivial⟩,trivial⟩,DV h.free ⟨ha,trivial,trivial⟩⟩
theorem VZ {k:Nat} (hk:1000 <= k) {p:List Int} {jw:Int} (hl:0 <= jw /\ jw <= 4):∀ (m j:Nat) (n:Int) (t:Tr),m<j -> m <= 100 -> wh p n -> Pc jw t -> t.len+3 * m <= 1000 ->
  ∃ t' n',Yk k j p n jw t.flat (m:Int)=some ((t'.flat,()),(p,n',()),()) /\ wh p n' /\ Pc jw t' /\ t.len+m <= t'.len /\ t'.len <= t.len+3 * m
 | 0,j,n,t,hj,_,hp,ht,_=>by
  obtain ⟨j',rfl⟩:∃ j',j=j'+1:=⟨j - 1,by omega⟩
  rw [aaX,Yj,Sd (by omega)]
  exact ⟨t,n,rfl,hp,ht,by omega,by omega⟩
 | m+1,j,n,t,hj,hm,hp,ht,htl=>by
  obtain ⟨j',rfl⟩:∃ j',j=j'+1:=⟨j - 1,by omega⟩
  rw [aaX,Yj,Sc (by omega)]
  have hw:IntKind.i64.wrap (((m+1:Nat):Int) - 1)=(m:Int):=by rw [Uu (by omega) (by omega)];omega
  have ih:=VZ hk (p:=p) hl m j'
  have hfl:=jv t
  by_cases e:jw>0
  ·rw [Sc e]
   obtain ⟨a,n1,e1,ha,h1⟩:=l5 k (m:=4) hp (by omega)
   rw [e1,Option.bind_some]
   simp only
   cases h0:a==0 with
   | true =>
    obtain ⟨b,n2,e2,hb,h2⟩:=l5 k (m:=jw) h1 e
    rw [cond_true,e2,Option.bind_some]
    simp only
    rw [Rz (by simp only [List.length_cons,List.length_nil];omega)]
    obtain ⟨x,n3,e3,hx,h3⟩:=Yz k h2
    rw [e3,Option.bind_some]
    simp only
    rw [Rz (by simp only [List.length_append,List.length_cons,List.length_nil];omega),Rz (by simp only [List.length_append,List.length_cons,List.length_nil];omega),hw]
    have hl1:(t.app (.lk b (.one x .nil) .nil)).len=t.len+3:=by rw [QJ];rfl
    obtain ⟨t',n',h5,h6,h7,h8,h9⟩:=ih n3 (t.app (.lk b (.one x .nil) .nil)) (by omega) (by omega) h3 (aql ht hx hb hl.2) (by omega)
    rw [AO] at h5
    refine ⟨t',n',?_,h6,h7,by omega,by omega⟩
    rw [<- h5]
    simp only [Tr.flat,List.append_assoc,List.cons_append,List.nil_append]
   | false =>
    obtain ⟨x,n3,e3,hx,h3⟩:=Yz k h1
    rw [cond_false,e3,Option.bind_some]
    simp only
    rw [Rz (by simp only [List.length_cons,List.length_nil];omega),hw]
    have hl1:(t.app (.one x .nil)).len=t.len+1:=by rw [QJ];rfl
    obtain ⟨t',n',h5,h6,h7,h8,h9⟩:=ih n3 (t.app (.one x .nil)) (by omega) (by omega) h3 (ajR ht hx) (by omega)
    rw [AO] at h5
    exact ⟨t',n',h5,h6,h7,by omega,by omega⟩
  ·rw [Sd e]
   obtain ⟨x,n3,e3,hx,h3⟩:=Yz k hp
   rw [e3,Option.bind_some]
   simp only
   rw [Rz (by simp only [List.length_cons,List.length_nil];omega),hw]
   have hl1:(t.app (.one x .nil)).len=t.len+1:=by rw [QJ];rfl
   obtain ⟨t',n',h5,h6,h7,h8,h9⟩:=ih n3 (t.app (.one x .nil)) (by omega) (by omega) h3 (ajR ht hx) (by omega)
   rw [AO] at h5
   exact ⟨t',n',h5,h6,h7,by omega,by omega⟩
theorem YA {k:Nat} (hk:1000 <= k) {p:List Int} {n jw:Int} (hl:0 <= jw /\ jw <= 4) (hp:wh p n):∃ t n',agE k p n 2 jw=some ((Tr.flat t,()),(p,n',()),()) /\ wh p n' /\ Pc jw t /\ 1 <= t.len /\ t.len <= 6:=by
 unfold agE
 obtain ⟨a,n1,e1,ha,h1⟩:=l5 k (m:=2) hp (by omega)
 rw [e1,Option.bind_some]
 simp only
 rw [Uu (by omega) (by omega)]
 obtain ⟨m,hm⟩:∃ m:Nat,a+1=(m:Int):=⟨(a+1).toNat,by omega⟩
 rw [hm]
 obtain ⟨t',n',h5,h6,h7,h8,h9⟩:=VZ hk (p:=p) hl m k n1 .nil (by omega) (by omega) h1 (ao2 jw) (by simp only [Tr.len];omega)
 simp only [Tr.len,Nat.zero_add] at h8 h9
 exact ⟨t',n',h5,h6,h7,by omega,by omega⟩
structure Mp (jw:Int) (t:Tr):Prop where
 ok:Ok 0 [] false t
 free:Ve jw t
 low:Vf t
theorem ao3 {jw:Int} {t u:Tr} (h:Mp jw t) (hu:Mp jw u):Mp jw (t.app u):=⟨NH h.ok hu.ok,DV h.free hu.free,QN h.low hu.low⟩
theorem ES {k:Nat} {p:List Int} {jw n:Int} {t u:Tr} {m:Nat} {g3:List Int -> Int -> Int -> List I4 -> Int -> Option ((List I4×Unit)×(List Int×Int×Unit)×Unit)} (hu:u.len <= 900) (ht:t.len <= 22) (hm:m <= 900) (ht':Mp jw t) (hu':Mp jw u) :
  ∃ t',EJ k g3 p n jw t.flat ((m+1:Nat):Int) u.flat=g3 p n jw (Tr.flat t') (m:Int) /\ t'.len <= 22 /\ Mp jw t':=by
 unfold EJ
 have h1:=jv t
 have h2:=jv u
 rw [Uu (by omega) (by omega),Uu (by omega) (by omega),show ((m+1:Nat):Int) - 1=(m:Int) by omega]
 by_cases e:((t.flat.length:Int)+(u.flat.length:Int))<23
 ·rw [Sc e,Rz (by omega)]
  exact ⟨t.app u,by rw [AO],by rw [QJ];omega,ao3 ht' hu'⟩
 ·rw [Sd e];exact ⟨t,rfl,ht,ht'⟩
theorem W9 {k:Nat} (hk:1000 <= k) {p:List Int} {jw:Int} (hl:0 <= jw /\ jw <= 4):∀ (m j:Nat) (n:Int) (t:Tr),m<j -> m <= 100 -> wh p n -> Mp jw t -> t.len <= 22 ->
  ∃ t' n',GJ k j p n jw t.flat (m:Int)=some ((Tr.prog t',()),(p,n',()),()) /\ wh p n' /\ Mp jw t' /\ t'.len <= 22
 | 0,j,n,t,hj,_,hp,ht,htl=>by
  obtain ⟨j',rfl⟩:∃ j',j=j'+1:=⟨j - 1,by omega⟩
  have hfl:=jv t
  rw [aaY,Yl,Sd (by omega),Rz (by simp only [List.length_cons,List.length_nil];omega)]
  exact ⟨t,n,rfl,hp,ht,htl⟩
 | m+1,j,n,t,hj,hm,hp,ht,htl=>by
  obtain ⟨j',rfl⟩:∃ j',j=j'+1:=⟨j - 1,by omega⟩
  rw [aaY,Yl,Sc (by omega)]
  have ih:=W9 hk (p:=p) hl m j'
  obtain ⟨a,n1,e1,ha,h1⟩:=l5 k (m:=5) hp (by omega)
  rw [e1,Option.bind_some]
  simp only
  cases h0:a==0 with
  | true =>
   obtain ⟨b,n2,e2,h2,hb,hb1,hb2⟩:=YA hk hl h1
   rw [cond_true,e2,Option.bind_some]
   simp only
   obtain ⟨c,n3,e3,hc,h3⟩:=l5 k (m:=3) h2 (by omega)
   have hbl:=jv b
   rw [e3,Option.bind_some,Rz (by simp only [List.length_cons,List.length_nil];omega)]
   simp only
   rw [Uu (by omega) (by omega)]
   have hx:lu (8,0,(b.flat.length:Int),1+c)=true:=by simp [lu,AL];omega
   have hwd:wd (8,0,(b.flat.length:Int),1+c)=b.len:=by simp [wd,hbl]
   obtain ⟨t',h5,h6,h7⟩:=ES (k:=k) (p:=p) (jw:=jw) (n:=n3) (t:=t) (u:=.ar (8,0,(b.flat.length:Int),1+c) b .nil) (m:=m) (g3:=fun p2 p3 EK l_ i=>GJ k j' p2 p3 EK l_ i) (by simp only [Tr.len];omega) htl (by omega) ht ⟨⟨⟨hx,rfl,hwd⟩,fun _=>by omega,hb.ok _ _,trivial⟩,⟨hb.free,trivial⟩,⟨zu hb.simple,trivial⟩⟩
   obtain ⟨t2,n',h8,h9,h10,h11⟩:=ih n3 t' (by omega) (by omega) h3 h7 h6
   refine ⟨t2,n',?_,h9,h10,h11⟩
   rw [<- h8,<- h5]
   simp only [Tr.flat,List.append_nil,List.cons_append,List.nil_append]
  | false =>
   rw [cond_false]
   cases h0:a==1 with
   | true =>
    obtain ⟨b,n2,e2,h2,hb,hb1,hb2⟩:=YA hk hl h1
    rw [cond_true,e2,Option.bind_some]
    simp only
    obtain ⟨c,n3,e3,hc,h3⟩:=l5 k (m:=3) h2 (by omega)
    have hbl:=jv b
    rw [e3,Option.bind_some,Rz (by simp only [List.length_cons,List.length_nil];omega)]
    simp only
    have hx:lu (7,c,0,(b.flat.length:Int))=true:=by simp [lu,AL,DC];omega
    have hwd:wd (7,c,0,(b.flat.length:Int))=b.len:=by simp [wd,hbl]
    obtain ⟨t',h5,h6,h7⟩:=ES (k:=k) (p:=p) (jw:=jw) (n:=n3) (t:=t) (u:=.ar (7,c,0,(b.flat.length:Int)) b .nil) (m:=m) (g3:=fun p2 p3 EK l_ i=>GJ k j' p2 p3 EK l_ i) (by simp only [Tr.len];omega) htl (by omega) ht ⟨⟨⟨hx,rfl,hwd⟩,fun _=>by omega,hb.ok _ _,trivial⟩,⟨hb.free,trivial⟩,⟨zu hb.simple,trivial⟩⟩
    obtain ⟨t2,n',h8,h9,h10,h11⟩:=ih n3 t' (by omega) (by omega) h3 h7 h6
    refine ⟨t2,n',?_,h9,h10,h11⟩
    rw [<- h8,<- h5]
    simp only [Tr.flat,List.append_nil,List.cons_append,List.nil_append]
   | false =>
    rw [cond_false]
    cases h0:a==2 with
    | true =>
     rw [cond_true]
     obtain ⟨t',h5,h6,h7⟩:=ES (k:=k) (p:=p) (jw:=jw) (n:=n1) (t:=t) (u:=.one (11,0,0,0) .nil) (m:=m) (g3:=fun p2 p3 EK l_ i=>GJ k j' p2 p3 EK l_ i) (by simp [Tr.len]) htl (by omega) ht ⟨⟨rfl,by simp [plain],fun _=>⟨rfl,rfl⟩,trivial⟩,trivial,⟨fun e=>absurd e (by decide),trivial⟩⟩
     obtain ⟨t2,n',h8,h9,h10,h11⟩:=ih n1 t' (by omega) (by omega) h1 h7 h6
     exact ⟨t2,n',by rw [<- h8,<- h5];rfl,h9,h10,h11⟩
    | false =>
     obtain ⟨b,n2,e2,h2,hb,hb1,hb2⟩:=YA hk hl h1
     rw [cond_false,e2,Option.bind_some]
     simp only
     obtain ⟨t',h5,h6,h7⟩:=ES (k:=k) (p:=p) (jw:=jw) (n:=n2) (t:=t) (u:=b) (m:=m) (g3:=fun p2 p3 EK l_ i=>GJ k j' p2 p3 EK l_ i) (by omega) htl (by omega) ht ⟨hb.ok _ _,hb.free,zu hb.simple⟩
     obtain ⟨t2,n',h8,h9,h10,h11⟩:=ih n2 t' (by omega) (by omega) h2 h7 h6
     exact ⟨t2,n',by rw [<- h8,<- h5],h9,h10,h11⟩
theorem afj {k:Nat} (hk:1000 <= k) {p:List Int} {n jw:Int} (hl:0 <= jw /\ jw <= 4) (hp:wh p n):∃ t n',ajt k p n jw=some ((Tr.prog t,()),(p,n',()),()) /\ wh p n' /\ Mp jw t /\ t.len <= 22:=by
 unfold ajt
 obtain ⟨a,n1,e1,ha,h1⟩:=l5 k (m:=4) hp (by omega)
 rw [e1,Option.bind_some]
 simp only
 rw [Uu (by omega) (by omega)]
 obtain ⟨m,hm⟩:∃ m:Nat,a+1=(m:Int):=⟨(a+1).toNat,by omega⟩
 rw [hm]
 exact W9 hk (p:=p) hl m k n1 .nil (by omega) (by omega) h1 ⟨trivial,trivial,trivial⟩ (by simp [Tr.len])
theorem wf_u8 {n:Int} (h:(Lit.int .u8 n).wf=true):0 <= n /\ n <= 255:=by
 simp [Lit.wf,IntKind.min,IntKind.max,IntKind.signed,IntKind.bits] at h
 omega
theorem abe {p:List Int} {e:TypeId} (h:Ty.fine (.sl e (.int .u8)) p) (hl:p.length <= 1000):wh p 0 :=
 ⟨⟨hl,by omega,by omega⟩,fun x hx=>wf_u8 (h.2 x hx)⟩
def wm (l:List I4) (c:Int) (n:Nat):Prop:=(l.getD n i0).1=c
abbrev yc (l:List I4) (n:Nat):Int:=(l.getD n i0).2.1
def LA (l:List I4) (c:Int):Nat -> Nat
 | 0=>0
 | n+1=>LA l c n+(if (l.getD n i0).1=c then 1 else 0)
structure PrI (l:List I4) (i:Nat) (out open_:List Int):Prop where
 len:out.length=l.length
 sorted:open_.Pairwise (·<·)
 small:∀ k∈open_,0 <= k /\ k<(i:Int)
 lock:∀ k:Nat,(k:Int)∈open_ -> wm l 9 k
 closed:∀ k,k<i -> wm l 9 k -> (k:Int) ∉ open_ -> ∃ u:Nat,out.getD k 0=(u:Int) /\ k<u /\ u<i /\ wm l 10 u /\ yc l u=yc l k
 dist:∀ k j,k<j -> j<i -> wm l 9 k -> wm l 9 j -> (k:Int)∈open_ -> yc l k≠yc l j
 nest:∀ k j,k<j -> j<i -> wm l 9 k -> wm l 9 j -> (k:Int) ∉ open_ -> (j:Int)<out.getD k 0 -> (j:Int) ∉ open_ /\ out.getD j 0<out.getD k 0 /\ yc l k≠yc l j
 cnt:LA l 9 i=LA l 10 i+open_.length
theorem GL {l:List I4} {i:Nat} {s s':List Int×List Int} (hi:i<l.length) (h:PrI l i s.1 s.2) (hs:lq l i s=some s'):PrI l (i+1) s'.1 s'.2:=by
 unfold lq at hs
 have lt1:∀ k,k<i+1 -> k≠i -> k<i:=fun k h1 h2=>by omega
 have arU:((i:Nat):Int) ∉ s.2:=fun h1=>by have:=h.small _ h1;omega
 split at hs
 ·rename_i h9
  split at hs
  ·cases hs
  ·rename_i hn
   injection hs with hs;subst hs
   have hmem:∀ k:Nat,((k:Int)∈s.2++[(i:Int)])↔((k:Int)∈s.2 \/ k=i):=fun k=>by
    rw [List.mem_append,List.mem_singleton]
    exact ⟨fun h=>h.imp id (fun h=>by omega),fun h=>h.imp id (fun h=>by omega)⟩
   refine ⟨h.len,?_,?_,?_,?_,?_,?_,?_⟩
   ·rw [List.pairwise_append]
    exact ⟨h.sorted,List.pairwise_singleton _ _,fun a ha b hb=>by rw [List.mem_singleton.1 hb];exact (h.small a ha).2⟩
   ·intro k hk
    rcases List.mem_append.1 hk with hk | hk
    ·have:=h.small k hk;omega
    ·rw [List.mem_singleton.1 hk];omega
   ·intro k hk
    rcases (hmem k).1 hk with hk | rfl
    ·exact h.lock k hk
    ·exact h9
   ·intro k hk1 hk2 hk3
    have hk3:=fun e=>hk3 ((hmem k).2 e)
    obtain ⟨u,h1,h2,h3,h4⟩:=h.closed k (lt1 k hk1 (fun e=>hk3 (.inr e))) hk2 (fun e=>hk3 (.inl e))
    exact ⟨u,h1,h2,by omega,h4⟩
   ·intro k j hkj hj h1 h2 h3
    by_cases e:j=i
    ·subst e
     rcases (hmem k).1 h3 with h3 | e
     ·intro e
      apply hn;right
      unfold OU
      rw [List.any_eq_true]
      exact ⟨(k:Int),h3,by rw [Qp,Qp];exact beq_iff_eq.2 e⟩
     ·omega
    ·rcases (hmem k).1 h3 with h3 | e2
     ·exact h.dist k j hkj (lt1 j hj e) h1 h2 h3
     ·omega
   ·intro k j hkj hj h1 h2 h3 h4
    have h3':=fun e=>h3 ((hmem k).2 e)
    obtain ⟨u,g1,g2,g3,_⟩:=h.closed k (by omega) h1 (fun e=>h3' (.inl e))
    have h4':(j:Int)<s.1.getD k 0:=h4
    by_cases e:j=i
    ·subst e;omega
    ·obtain ⟨q1,q2⟩:=h.nest k j hkj (lt1 j hj e) h1 h2 (fun e=>h3' (.inl e)) h4
     exact ⟨fun h5=>((hmem j).1 h5).elim q1 e,q2⟩
   ·rw [LA,LA,if_pos h9,if_neg (by rw [h9];decide),h.cnt]
    simp only [List.length_append,List.length_cons,List.length_nil];omega
 ·rename_i h9
  split at hs
  ·rename_i h10
   split at hs
   ·cases hs
   ·rename_i x hx
    split at hs
    ·cases hs
    ·rename_i hn
     injection hs with hs;subst hs
     obtain ⟨r,hr⟩:∃ r,s.2=r++[x]:=by
      rcases List.eq_nil_or_concat s.2 with e | ⟨r,y,e⟩
      ·rw [e] at hx;cases hx
      ·rw [List.concat_eq_append] at e
       rw [e] at hx
       simp at hx
       subst hx
       exact ⟨r,e⟩
     have hxm:=h.small x (by rw [hr];simp)
     obtain ⟨n,rfl⟩:∃ n:Nat,x=(n:Int):=⟨x.toNat,by omega⟩
     have hsort:=h.sorted
     rw [hr,List.pairwise_append] at hsort
     have hdl:s.2.dropLast=r:=by rw [hr];simp
     have hmem:∀ k:Nat,(k:Int)∈s.2↔((k:Int)∈r \/ k=n):=fun k=>by
      rw [hr,List.mem_append,List.mem_singleton]
      exact ⟨fun h=>h.imp id (fun h=>by omega),fun h=>h.imp id (fun h=>by omega)⟩
     have hnr:(n:Int) ∉ r:=fun e=>by have:=hsort.2.2 _ e (n:Int) (by simp);omega
     have hge:∀ k:Nat,(k:Int)∈r -> k<n:=fun k e=>by have:=hsort.2.2 _ e (n:Int) (by simp);omega
     have hln:=h.lock n ((hmem n).2 (.inr rfl))
     have hA:yc l n=yc l i:=by
      by_cases e:yc l n=yc l i
      ·exact e
      ·exact absurd (.inl (by rw [Qp];exact e)) hn
     have hget:∀ k:Nat,(s.1.set n (i:Int)).getD k 0=if n=k /\ k<s.1.length then (i:Int) else s.1.getD k 0:=fun k=>ko
     have hlen:=h.len
     have hnl:n<s.1.length:=by omega
     simp only
     rw [hdl,Mj]
     refine ⟨by rw [List.length_set];exact h.len,hsort.1,fun k hk=>by have:=h.small k (by rw [hr];simp [hk]);omega,fun k hk=>h.lock k ((hmem k).2 (.inl hk)),?_,?_,?_,?_⟩
     ·intro k hk1 hk2 hk3
      rw [hget]
      by_cases e:n=k
      ·subst e
       rw [if_pos ⟨rfl,hnl⟩]
       exact ⟨i,rfl,by omega,by omega,h10,hA.symm⟩
      ·rw [if_neg (fun q=>e q.1)]
       have:k≠i:=fun e=>by subst e;exact h9 hk2
       obtain ⟨u,h1,h2,h3,h4⟩:=h.closed k (by omega) hk2 (fun q=>((hmem k).1 q).elim hk3 (fun q=>e q.symm))
       exact ⟨u,h1,h2,by omega,h4⟩
     ·intro k j hkj hj h1 h2 h3
      have:j≠i:=fun e=>by subst e;exact h9 h2
      exact h.dist k j hkj (by omega) h1 h2 ((hmem k).2 (.inl h3))
     ·intro k j hkj hj h1 h2 h3 h4
      have hji:j≠i:=fun e=>by subst e;exact h9 h2
      rw [hget k] at h4
      rw [hget k,hget j]
      by_cases e:n=k
      ·subst e
       rw [if_pos ⟨rfl,hnl⟩] at h4
       rw [if_pos (show n=n /\ n<s.1.length from ⟨rfl,hnl⟩)]
       have hjr:(j:Int) ∉ r:=fun q=>by have:=hge j q;omega
       have hjo:(j:Int) ∉ s.2:=fun q=>((hmem j).1 q).elim hjr (fun q=>by omega)
       obtain ⟨u,g1,g2,g3,_⟩:=h.closed j (by omega) h2 hjo
       rw [if_neg (show ¬ (n=j /\ j<s.1.length) by omega)]
       exact ⟨hjr,by omega,h.dist n j hkj (by omega) h1 h2 ((hmem n).2 (.inr rfl))⟩
      ·rw [if_neg (fun q=>e q.1)] at h4
       rw [if_neg (show ¬ (n=k /\ k<s.1.length) from fun q=>e q.1)]
       have hko:(k:Int) ∉ s.2:=fun q=>((hmem k).1 q).elim h3 (fun q=>e q.symm)
       obtain ⟨q1,q2,q3⟩:=h.nest k j hkj (by omega) h1 h2 hko h4
       have hjn:n≠j:=fun e=>q1 (e ▸ (hmem n).2 (.inr rfl))
       rw [if_neg (show ¬ (n=j /\ j<s.1.length) from fun q=>hjn q.1)]
       exact ⟨fun q=>q1 ((hmem j).2 (.inl q)),q2,q3⟩
     ·rw [LA,LA,if_pos h10,if_neg h9,h.cnt,hr]
      simp only [List.length_append,List.length_cons,List.length_nil];omega
  ·rename_i h10
   injection hs with hs;subst hs
   have ne:∀ j,wm l 9 j -> j≠i:=fun j q e=>by subst e;exact h9 q
   refine ⟨h.len,h.sorted,fun k hk=>by have:=h.small k hk;omega,h.lock,?_,?_,?_,?_⟩
   ·intro k hk1 hk2 hk3
    have:=ne k hk2
    obtain ⟨u,h1,h2,h3,h4⟩:=h.closed k (by omega) hk2 hk3
    exact ⟨u,h1,h2,by omega,h4⟩
   ·intro k j hkj hj h1 h2 h3
    have:=ne j h2
    exact h.dist k j hkj (by omega) h1 h2 h3
   ·intro k j hkj hj h1 h2 h3 h4
    have:=ne j h2
    exact h.nest k j hkj (by omega) h1 h2 h3 h4
   ·rw [LA,LA,if_neg h10,if_neg h9,h.cnt];omega
theorem ajS {l:List I4}:∀ (m i:Nat) (s s':List Int×List Int),i+m=l.length -> PrI l i s.1 s.2 -> xu l m i s=some s' -> PrI l l.length s'.1 s'.2
 | 0,i,s,s',hm,h,hg=>by
  injection hg with hg;subst hg
  have:i=l.length:=by omega
  subst this;exact h
 | m+1,i,s,s',hm,h,hg=>by
  rw [xu,Option.bind_eq_some_iff] at hg
  obtain ⟨t,h1,h2⟩:=hg
  exact ajS m (i+1) t s' (by omega) (GL (by omega) h h1) h2
theorem YB {l:List I4} {ps:List Int} (h:prs l=some ps):PrI l l.length ps [] :=
 ajS _ _ _ _ (by omega) ⟨by simp,List.Pairwise.nil,(fun _ h=>by cases h),(fun _ h=>by cases h),fun _ h=>by omega,fun _ _ _ h=>by omega,fun _ _ _ h=>by omega,rfl⟩ (acn h)
theorem u64 {n:Int} (h1:0 <= n) (h2:n<18446744073709551616):IntKind.u64.wrap n=n:=by
 unfold IntKind.wrap
 have e1:(2 ^ IntKind.u64.bits:Int)=18446744073709551616:=by decide
 simp only [e1,IntKind.signed,Bool.false_and,Bool.false_eq_true,if_false]
 omega
theorem TN (n:Int):IntKind.u64.wrap n=n % 18446744073709551616:=by
 unfold IntKind.wrap
 have e1:(2 ^ IntKind.u64.bits:Int)=18446744073709551616:=by decide
 simp only [e1,IntKind.signed,Bool.false_and,Bool.false_eq_true,if_false]
theorem ajT (n:Int):IntKind.u32.wrap n=n % 4294967296:=by
 unfold IntKind.wrap
 have e1:(2 ^ IntKind.u32.bits:Int)=4294967296:=by decide
 simp only [e1,IntKind.signed,Bool.false_and,Bool.false_eq_true,if_false]
theorem ajU (x:BitVec 64):IntKind.i64.wrap (x.toNat:Int)=x.toInt:=by
 have hx:=x.isLt
 unfold IntKind.wrap
 have e1:(2 ^ IntKind.i64.bits:Int)=18446744073709551616:=by decide
 have e2:(2 ^ (IntKind.i64.bits - 1):Int)=9223372036854775808:=by decide
 simp only [e1,e2,IntKind.signed,Bool.true_and,decide_eq_true_eq,BitVec.toInt_eq_toNat_cond]
 have:(2:Nat) ^ 64=18446744073709551616:=by decide
 rw [this] at hx ⊢
 split <;> split <;> omega
theorem ajV (x:BitVec 64):BitVec.ofInt 64 x.toInt=x:=BitVec.ofInt_toInt
theorem abf (a b:Int):Un .i64 a b=(BitVec.ofInt 64 a ^^^ BitVec.ofInt 64 b).toInt:=ajU _
theorem ajW (a b:Int):Um .i64 a b=(BitVec.ofInt 64 a &&& BitVec.ofInt 64 b).toInt:=ajU _
theorem JU {a:Int} (h1:0 <= a) (h2:a <= 9223372036854775807):(BitVec.ofInt 64 a).msb=false:=by
 have:(BitVec.ofInt 64 a).toInt=a:=by rw [BitVec.toInt_ofInt];exact Int.bmod_eq_of_le (by omega) (by omega)
 rw [BitVec.msb_eq_toInt,this];exact decide_eq_false (by omega)
theorem msb_neg {a:Int} (h1:-9223372036854775808 <= a) (h2:a<0):(BitVec.ofInt 64 a).msb=true:=by
 have:(BitVec.ofInt 64 a).toInt=a:=by rw [BitVec.toInt_ofInt];exact Int.bmod_eq_of_le (by omega) (by omega)
 rw [BitVec.msb_eq_toInt,this];exact decide_eq_true (by omega)
theorem ajX {a b s:Int} (ha:0 <= a /\ a <= 9223372036854775807) (hb:0 <= b /\ b <= 9223372036854775807) (hs:-9223372036854775808 <= s /\ s <= 9223372036854775807) :
  decide (Um .i64 (Un .i64 a s) (Un .i64 b s)<0)=decide (s<0):=by
 rw [ajW,abf,abf,ajV,ajV,<- BitVec.msb_eq_toInt,BitVec.msb_and,BitVec.msb_xor,BitVec.msb_xor,JU ha.1 ha.2,JU hb.1 hb.2]
 by_cases h:s<0
 ·rw [msb_neg hs.1 h,decide_eq_true h];rfl
 ·rw [JU (by omega) hs.2,decide_eq_false h];rfl
def abg (n:Int):Int×Bool:=if n <= 9223372036854775807 then (n,true) else (9223372036854775807,false)
theorem al5 (k:Nat) {a b:Int} (ha:0 <= a /\ a <= 9223372036854775807) (hb:0 <= b /\ b <= 9223372036854775807):agk k a b=some (((abg (a+b)).1,(abg (a+b)).2,()),()):=by
 unfold agk
 rw [u64 ha.1 (by omega),u64 hb.1 (by omega),u64 (n:=a+b) (by omega) (by omega)]
 have hs:IntKind.i64.wrap (a+b)=if a+b <= 9223372036854775807 then a+b else a+b - 18446744073709551616:=by
  unfold IntKind.wrap
  have e1:(2 ^ IntKind.i64.bits:Int)=18446744073709551616:=by decide
  have e2:(2 ^ (IntKind.i64.bits - 1):Int)=9223372036854775808:=by decide
  simp only [e1,e2,IntKind.signed,Bool.true_and,decide_eq_true_eq]
  split <;> split <;> omega
 rw [ajX ha hb (by rw [hs];split <;> omega),hs]
 unfold abg agi
 by_cases h:a+b <= 9223372036854775807
 ·rw [if_pos h,if_pos h,Sd (by omega)]
 ·rw [if_neg h,if_neg h,Sc (by omega),Sd (by omega)];rfl
theorem afl (k:Nat) {a b:Int} (ha:0 <= a) (hb:0 <= b) (h:a+b <= 9223372036854775807):agk k a b=some ((a+b,true,()),()):=by
 rw [al5 k ⟨ha,by omega⟩ ⟨hb,by omega⟩];unfold abg;rw [if_pos h]
theorem al6 {a:Int}:Ul .u64 a 32=a / 4294967296:=by
 unfold Ul
 show a.fdiv (2 ^ 32)=_
 rw [show ((2:Int) ^ 32)=4294967296 by decide,Int.fdiv_eq_ediv_of_nonneg _ (by omega)]
theorem al7 {a:Int} (h1:0 <= a) (h2:a<4294967296):Uk .u64 a 32=a * 4294967296:=by
 unfold Uk
 show IntKind.u64.wrap (a * 2 ^ 32)=_
 rw [show ((2:Int) ^ 32)=4294967296 by decide,u64 (by omega) (by omega)]
theorem aqm {a:Int} (h1:0 <= a) (h2:a<18446744073709551616):Uz .u64 a 0=a:=by
 unfold Uz
 show IntKind.u64.wrap (((BitVec.ofInt 64 a ||| BitVec.ofInt 64 0).toNat:Nat):Int)=a
 rw [show BitVec.ofInt 64 0=0#64 from rfl,BitVec.or_zero,BitVec.toNat_ofInt,u64 (by omega) (by omega)]
 omega
theorem aqn {a:Int} (h1:0 <= a) (h2:a<18446744073709551616):Uz .u64 0 a=a:=by
 unfold Uz
 show IntKind.u64.wrap (((BitVec.ofInt 64 0 ||| BitVec.ofInt 64 a).toNat:Nat):Int)=a
 rw [show BitVec.ofInt 64 0=0#64 from rfl,BitVec.zero_or,BitVec.toNat_ofInt,u64 (by omega) (by omega)]
 omega
theorem al8 (k:Nat) {a b:Int} (ha:0 <= a /\ a <= 9223372036854775807) (hb:0 <= b /\ b <= 9223372036854775807) :
  ∃ p,ak3 k a b=some ((p,decide (a * b<18446744073709551616),()),()) /\ (a * b<18446744073709551616 -> p=a * b):=by
 unfold ak3
 simp only [al6,ajT]
 have A1:a=a / 4294967296 * 4294967296+a % 4294967296:=by omega
 have B1:b=b / 4294967296 * 4294967296+b % 4294967296:=by omega
 have ah0:0 <= a / 4294967296 /\ a / 4294967296<2147483648:=by omega
 have bh0:0 <= b / 4294967296 /\ b / 4294967296<2147483648:=by omega
 have al0:0 <= a % 4294967296 /\ a % 4294967296<4294967296:=by omega
 have bl0:0 <= b % 4294967296 /\ b % 4294967296<4294967296:=by omega
 generalize a / 4294967296=x at *
 generalize b / 4294967296=y at *
 generalize a % 4294967296=u at *
 generalize b % 4294967296=v at *
 have hab:a * b=x * y * 18446744073709551616+(x * v+u * y) * 4294967296+u * v:=by
  rw [A1,B1];grind
 have huv:0 <= u * v /\ u * v<18446744073709551616:=by
  constructor
  ·exact Int.mul_nonneg al0.1 bl0.1
  ·have:u * v <= 4294967295 * 4294967295:=Int.mul_le_mul (by omega) (by omega) bl0.1 (by omega)
   omega
 have hxv:0 <= x * v /\ x * v<9223372036854775808:=by
  constructor
  ·exact Int.mul_nonneg ah0.1 bl0.1
  ·have:x * v <= 2147483647 * 4294967295:=Int.mul_le_mul (by omega) (by omega) bl0.1 (by omega)
   omega
 have huy:0 <= u * y /\ u * y<9223372036854775808:=by
  constructor
  ·exact Int.mul_nonneg al0.1 bh0.1
  ·have:u * y <= 4294967295 * 2147483647:=Int.mul_le_mul (by omega) (by omega) bh0.1 (by omega)
   omega
 have hxy:0 <= x * y:=Int.mul_nonneg ah0.1 bh0.1
 rw [u64 (n:=u) (by omega) (by omega),u64 (n:=v) (by omega) (by omega),u64 (n:=x * v) (by omega) (by omega),u64 (n:=u * y) (by omega) (by omega),u64 (n:=u * v) (by omega) (by omega)]
 have mid:x=0 \/ y=0 -> Uz .u64 (x * v) (u * y)=x * v+u * y:=by
  rintro (rfl | rfl)
  ·rw [Int.zero_mul,aqn (by omega) (by omega)];omega
  ·rw [Int.mul_zero,aqm (by omega) (by omega)];omega
 have tail:x=0 \/ y=0 -> ∃ p,(bif decide (Uz .u64 (x * v) (u * y) / 4294967296>0) then some ((0,false,()),()) else
   some ((IntKind.u64.wrap (u * v+Uk .u64 (Uz .u64 (x * v) (u * y)) 32),decide (IntKind.u64.wrap (u * v+Uk .u64 (Uz .u64 (x * v) (u * y)) 32)≥u * v),()),()):Option ((Int×Bool×Unit)×Unit))=some ((p,decide (a * b<18446744073709551616),()),()) /\ (a * b<18446744073709551616 -> p=a * b):=by
  intro h0
  have arA:x * y=0:=by rcases h0 with rfl | rfl <;> simp
  rw [arA] at hab
  rw [mid h0]
  have hm0:0 <= x * v+u * y:=by omega
  clear mid
  generalize x * v+u * y=m at hab hm0 ⊢
  by_cases h:m / 4294967296>0
  ·rw [Sc h]
   exact ⟨0,by rw [decide_eq_false (by omega)],fun h2=>by omega⟩
  ·rw [Sd h,al7 hm0 (by omega)]
   refine ⟨_,by
    rw [show decide (IntKind.u64.wrap (u * v+m * 4294967296)≥u * v)=decide (a * b<18446744073709551616) from ?_]
    rw [TN]
    by_cases h2:a * b<18446744073709551616
    ·rw [decide_eq_true h2];exact decide_eq_true (by omega)
    ·rw [decide_eq_false h2];exact decide_eq_false (by omega),fun h2=>?_⟩
   rw [TN];omega
 by_cases h1:x>0
 ·rw [Sc h1]
  by_cases h2:y>0
  ·rw [Sc h2]
   have:1 <= x * y:=by
    have:1 * 1 <= x * y:=Int.mul_le_mul (by omega) (by omega) (by omega) (by omega)
    omega
   exact ⟨0,by rw [decide_eq_false (by omega)],fun h=>by omega⟩
  ·rw [Sd h2];exact tail (.inr (by omega))
 ·rw [Sd h1];exact tail (.inl (by omega))
theorem afm (k:Nat) {a:Int} (ha:0 <= a /\ a <= 9223372036854775807):ahP k a=some ((a,()),()):=by
 unfold ahP
 rw [Sd (by omega),u64 ha.1 (by omega)]
theorem al9 (k:Nat) {a b:Int} (ha:0 <= a /\ a <= 9223372036854775807) (hb:0 <= b /\ b <= 9223372036854775807):agj k a b=some (((abg (a * b)).1,(abg (a * b)).2,()),()):=by
 unfold agj
 rw [decide_eq_false (p:=a<0) (by omega),decide_eq_false (p:=b<0) (by omega)]
 simp only [beq_self_eq_true,Bool.not_true,cond_false]
 unfold Xc
 obtain ⟨p,h1,h2⟩:=al8 k ha hb
 have hab:0 <= a * b:=Int.mul_nonneg ha.1 hb.1
 rw [afm k ha,afm k hb]
 simp only [Option.bind_some]
 rw [h1,Option.bind_some]
 unfold abg agi
 by_cases h:a * b<18446744073709551616
 ·rw [h2 h,decide_eq_true h]
  simp only [Bool.not_true,cond_false]
  by_cases h3:a * b <= 9223372036854775807
  ·rw [Sd (by omega),if_pos h3,Uu (by omega) h3]
  ·rw [Sc (by omega),if_neg h3];rfl
 ·rw [decide_eq_false h,if_neg (by omega)];rfl
theorem afn (k:Nat) {a b:Int} (ha:0 <= a /\ a <= 9223372036854775807) (hb:0 <= b /\ b <= 9223372036854775807) (h:a * b <= 9223372036854775807):agj k a b=some ((a * b,true,()),()):=by
 rw [al9 k ha hb];unfold abg;rw [if_pos h]
def KE (l:List I4) (j:Int):List fq -> Int -> Int
 | [],acc=>acc
 | p::r,acc=>KE l j r (bif p.2.2.2&&o9 p j then acc * (rd l p.2.2.1 i0).2.2.2 else acc)
theorem IK (l:List I4) (j:Int):∀ (a b:List fq) (acc:Int),KE l j (a++b) acc=KE l j b (KE l j a acc)
 | [],_,_=>rfl
 | p::a,b,acc=>by rw [List.cons_append,KE,KE,IK l j a b]
theorem CB (l:List I4) (j:Int):∀ (a:List fq) (acc:Int),(∀ p∈a,o9 p j=false) -> KE l j a acc=acc
 | [],_,_=>rfl
 | p::a,acc,h=>by rw [KE,h p List.mem_cons_self,Bool.and_false,cond_false,CB l j a acc (fun q hq=>h q (List.mem_cons_of_mem _ hq))]
theorem NM (l:List I4) (j:Int):∀ (a:List fq) (acc:Int),1 <= acc -> (∀ p∈a,p.2.2.2=true -> 1 <= (rd l p.2.2.1 i0).2.2.2 /\ (rd l p.2.2.1 i0).2.2.2 <= 20) -> 1 <= KE l j a acc /\ KE l j a acc <= acc * 20 ^ gq j a
 | [],acc,h,_=>by rw [KE];simp [gq];exact h
 | p::a,acc,h,hb=>by
  rw [KE,gq,List.countP_cons,<- gq]
  have ih:=fun acc h=>NM l j a acc h (fun q hq=>hb q (List.mem_cons_of_mem _ hq))
  cases e:(p.2.2.2&&o9 p j) with
  | false=>simp only [cond_false,Bool.false_eq_true,if_false,Nat.add_zero];exact ih acc h
  | true =>
   rw [Bool.and_eq_true] at e
   have h1:=hb p List.mem_cons_self e.1
   simp only [cond_true,if_true]
   have h2:1 * 1 <= acc * (rd l p.2.2.1 i0).2.2.2:=Int.mul_le_mul h h1.1 (by omega) (by omega)
   obtain ⟨i1,i2⟩:=ih (acc * (rd l p.2.2.1 i0).2.2.2) (by omega)
   refine ⟨i1,Int.le_trans i2 ?_⟩
   rw [Int.pow_succ,Int.mul_comm (20 ^ gq j a) 20,<- Int.mul_assoc]
   refine Int.mul_le_mul_of_nonneg_right ?_ (Int.pow_nonneg (by omega))
   exact Int.mul_le_mul_of_nonneg_left h1.2 (by omega)
def tms (l:List I4):List Int:=(List.range l.length).map (fun (j:Nat)=>KE l (j:Int) (mq 0 l) 1)
theorem y8 (l:List I4):(tms l).length=l.length:=by simp [tms]
theorem YC {l:List I4} {j:Nat} (h:j<l.length):(tms l).getD j 0=KE l (j:Int) (mq 0 l) 1:=by
 rw [getD_in (by rw [y8];exact h)];simp [tms]
theorem abh {l:List I4} {ps:List Int} (g:C9 l ps):∀ p∈mq 0 l,p.2.2.2=true -> 1 <= (rd l p.2.2.1 i0).2.2.2 /\ (rd l p.2.2.1 i0).2.2.2 <= 20:=by
 intro p hp hb
 have:=g.len2
 obtain ⟨n,h1,h2,rfl⟩:=(l7 l 0 p g.may (by omega)).1 hp
 have h3:=acp (g.may _ (jl (z:=i0) h1)) (eq_of_beq hb)
 have:rd l (mh (0+n) (l.getD n i0)).2.2.1 i0=l.getD n i0:=by rw [Nat.zero_add];exact Qp
 rw [this];exact h3.2.2
theorem Wd {l:List I4} {ps:List Int} (g:C9 l ps) {j:Nat} (h:j<l.length):1 <= (tms l).getD j 0 /\ (tms l).getD j 0 <= 400:=by
 rw [YC h]
 have h1:=NM l (j:Int) (mq 0 l) 1 (by omega) (abh g)
 have h2:=g.bodies j h
 refine ⟨h1.1,Int.le_trans h1.2 ?_⟩
 have:gq (j:Int) (mq 0 l)=0 \/ gq (j:Int) (mq 0 l)=1 \/ gq (j:Int) (mq 0 l)=2:=by omega
 rcases this with e | e | e <;> rw [e] <;> decide
def mulR (c:Int):List Int -> Nat -> Nat -> List Int
 | out,_,0=>out
 | out,i,m+1=>mulR c (out.set i (out.getD i 0 * c)) (i+1) m
theorem abj (c:Int):∀ (m i:Nat) (out:List Int),(mulR c out i m).length=out.length
 | 0,_,_=>rfl
 | m+1,i,out=>by rw [mulR,abj c m,List.length_set]
theorem abk (c:Int):∀ (m i:Nat) (out:List Int) (j:Nat),i+m <= out.length -> (mulR c out i m).getD j 0=if i <= j /\ j<i+m then out.getD j 0 * c else out.getD j 0
 | 0,i,out,j,_=>by rw [mulR,if_neg (by omega)]
 | m+1,i,out,j,h=>by
  rw [mulR,abk c m (i+1) _ j (by simp only [List.length_set];omega),ko]
  by_cases e:i=j
  ·subst e
   rw [if_neg (by omega),if_pos ⟨rfl,by omega⟩,if_pos (by omega)]
  ·rw [if_neg (fun h:i=j /\ j<out.length=>e h.1)]
   by_cases e2:i+1 <= j /\ j<i+1+m
   ·rw [if_pos e2,if_pos (by omega)]
   ·rw [if_neg e2,if_neg (by omega)]
theorem TP {k:Nat} {g8:List Int -> List I4 -> Int -> Int -> Option ((List Int×Unit)×Unit)} {i x x1 x2 c t21 t22:Int} {t20:List I4} (hc:1 <= c /\ c <= 20):∀ (m n j:Nat) (out:List Int),i+x2+1=((n+m:Nat):Int) -> n+m <= out.length -> out.length <= 900 -> m<j -> (∀ j,n <= j -> j<n+m -> 1 <= out.getD j 0 /\ out.getD j 0 * c <= 400) ->
  Q5 k g8 j out i x x1 x2 c n t20 t21 t22=g8 (mulR c out n m) t20 t21 (IntKind.i64.wrap (t22+1))
 | 0,n,j,out,h,ho,hl,hj,hb=>by
  obtain ⟨j',rfl⟩:∃ j',j=j'+1:=⟨j - 1,by omega⟩
  rw [Vu,Q0,Uu (by omega) (by omega),Sd (by omega),mulR]
 | m+1,n,j,out,h,ho,hl,hj,hb=>by
  obtain ⟨j',rfl⟩:∃ j',j=j'+1:=⟨j - 1,by omega⟩
  have h1:=hb n (by omega) (by omega)
  have h2:out.getD n 0 <= 400:=by
   have:=Int.mul_le_mul_of_nonneg_left hc.1 (show 0 <= out.getD n 0 by omega)
   omega
  rw [Vu,Q0,Uu (by omega) (by omega),Sc (by omega),Qo (by omega),Qp,afn k (by omega) (by omega) (by omega),Option.bind_some,Qo (by omega),Mi (by omega),Mj,mulR]
  refine TP hc m (n+1) j' _ (by omega) (by simp only [List.length_set];omega) (by simp only [List.length_set];omega) (by omega) (fun j hj1 hj2=>?_)
  rw [ko,if_neg (by omega)]
  exact hb j (by omega) (by omega)
theorem TQ {l:List I4} {i:Nat} (hi:i<l.length):mq 0 (l.take (i+1))=mq 0 (l.take i)++pc i (l.getD i i0):=by
 have:l.take (i+1)=l.take i++[l.getD i i0]:=by rw [List.take_add_one,getD_in hi,List.getElem?_eq_getElem hi];rfl
 rw [this,EN,List.length_take,Nat.zero_add,show min i l.length=i by omega]
 simp [mq]
theorem Wh {l:List I4} {i:Nat} (hi:i <= l.length):mq 0 l=mq 0 (l.take i)++mq i (l.drop i):=by
 have:=EN (l.take i) (l.drop i) 0
 rw [List.take_append_drop,List.length_take,Nat.zero_add,show min i l.length=i by omega] at this
 exact this
theorem ama {k:Nat} (hk:1000 <= k) {l:List I4} {ps:List Int} (g:C9 l ps):ak5 k l=some ((tms l,()),()):=by
 unfold ak5
 have hl2:=g.len2
 rw [Ry (by omega) (by omega),List.length_replicate,Int.toNat_natCast]
 have h1:=aa7 (L:=fun j (out:List Int) i=>MH k j l out (l.length:Int) i) (n:=l.length)
  (fun i out=>out.length=l.length /\ ∀ j,j<i -> out.getD j 0=1)
  (fun i out=>out.set i 1) (fun out=>JM k k out l (l.length:Int) 0)
  (fun j i out hi hv=>by
   show MH k (j+1) l out (l.length:Int) (i:Int)=_
   rw [ZK,Xe,Sc (by omega),Qo (by omega),Mj,Mi (by omega)])
  (fun i out hi hv=>by
   refine ⟨by rw [List.length_set];exact hv.1,fun j hj=>?_⟩
   rw [ko]
   by_cases e:i=j
   ·subst e;rw [if_pos ⟨rfl,by omega⟩]
   ·rw [if_neg (fun h=>e h.1)];exact hv.2 j (by omega))
  (fun j out hv=>by
   show MH k (j+1) l out (l.length:Int) (l.length:Int)=_
   rw [ZK,Xe,Sd (by omega)])
  l.length 0 k (List.replicate l.length 0) (by omega) (by omega) ⟨by simp,fun j hj=>by omega⟩
 refine Eq.trans h1 ?_
 have hv:=L6 (inv:=fun i (out:List Int)=>out.length=l.length /\ ∀ j,j<i -> out.getD j 0=1) (f:=fun i out=>out.set i 1) (n:=l.length) (fun i out hi hv=>by
   refine ⟨by rw [List.length_set];exact hv.1,fun j hj=>?_⟩
   rw [ko]
   by_cases e:i=j
   ·subst e;rw [if_pos ⟨rfl,by have:=hv.1;omega⟩]
   ·rw [if_neg (fun h=>e h.1)];exact hv.2 j (by omega)) l.length 0 (List.replicate l.length 0) (by omega) ⟨by simp,fun j hj=>by omega⟩
 generalize goF (fun i (out:List Int)=>out.set i 1) l.length 0 (List.replicate l.length 0)=ao4 at hv ⊢
 have hinv:∀ i (out:List Int),i<l.length -> (out.length=l.length /\ ∀ j,j<l.length -> out.getD j 0=KE l (j:Int) (mq 0 (l.take i)) 1) -> ((if (l.getD i i0).1=8 then mulR (l.getD i i0).2.2.2 out (i+1) (wd (l.getD i i0)) else out).length=l.length /\ ∀ j,j<l.length -> (if (l.getD i i0).1=8 then mulR (l.getD i i0).2.2.2 out (i+1) (wd (l.getD i i0)) else out).getD j 0=KE l (j:Int) (mq 0 (l.take (i+1))) 1):=by
  intro i out hi ⟨h2,h3⟩
  have hm:=g.may _ (jl (z:=i0) hi)
  by_cases e:(l.getD i i0).1=8
  ·have hA:isA (l.getD i i0)=true:=by simp only [isA,e];rfl
   have hw:=y5 hm hA
   have hlast:=g.last (mh i (l.getD i i0)) ((l7 l 0 _ g.may (by omega)).2 ⟨i,hi,hA,by rw [Nat.zero_add]⟩)
   have e2:(mh i (l.getD i i0)).2.1=((i+wd (l.getD i i0):Nat):Int):=rfl
   rw [if_pos e]
   refine ⟨by rw [abj];exact h2,fun j hj=>?_⟩
   rw [abk _ _ _ _ _ (by omega),TQ hi,IK,<- h3 j hj,JQ hm (by omega),if_pos hA,KE,KE]
   have e3:(mh i (l.getD i i0)).2.2.2=true:=by simp only [mh,e];rfl
   have e4:(mh i (l.getD i i0)).2.2.1=(i:Int):=rfl
   rw [e3,e4,Qp,Bool.true_and]
   by_cases h5:i+1 <= j /\ j<i+1+wd (l.getD i i0)
   ·rw [if_pos h5,show o9 (mh i (l.getD i i0)) (j:Int)=true by rw [o7];simp only [mh];omega];rfl
   ·rw [if_neg h5,show o9 (mh i (l.getD i i0)) (j:Int)=false by rw [<- Bool.not_eq_true,o7];simp only [mh];omega];rfl
  ·rw [if_neg e]
   refine ⟨h2,fun j hj=>?_⟩
   rw [TQ hi,IK,<- h3 j hj,JQ hm (by omega)]
   split
   ·have e3:(mh i (l.getD i i0)).2.2.2=false:=by simp only [mh];simpa using e
    rw [KE,KE,e3];rfl
   ·rfl
 have h2:=aa7 (L:=fun j (out:List Int) i=>JM k j out l (l.length:Int) i) (n:=l.length)
  (fun i out=>out.length=l.length /\ ∀ j,j<l.length -> out.getD j 0=KE l (j:Int) (mq 0 (l.take i)) 1)
  (fun i out=>if (l.getD i i0).1=8 then mulR (l.getD i i0).2.2.2 out (i+1) (wd (l.getD i i0)) else out) (fun out=>some ((out,()),()))
  (fun j i out hi hv=>by
   show JM k (j+1) out l (l.length:Int) (i:Int)=_
   rw [ZJ,Xd,Sc (by omega),Qo hi,Qp,Mi (by omega)]
   have hm:=g.may _ (jl (z:=i0) hi)
   by_cases e:(l.getD i i0).1=8
   ·have hA:isA (l.getD i i0)=true:=by simp only [isA,e];rfl
    have hw:=y5 hm hA
    have hlast:=g.last (mh i (l.getD i i0)) ((l7 l 0 _ g.may (by omega)).2 ⟨i,hi,hA,by rw [Nat.zero_add]⟩)
    have e2:(mh i (l.getD i i0)).2.1=((i+wd (l.getD i i0):Nat):Int):=rfl
    have e3:(mh i (l.getD i i0)).2.2.2=true:=by simp only [mh,e];rfl
    have hN:=(acp hm e).2.2
    have hpm:mh i (l.getD i i0)∈mq 0 l:=(l7 l 0 _ g.may (by omega)).2 ⟨i,hi,hA,by rw [Nat.zero_add]⟩
    rw [if_pos e,show ((l.getD i i0).1 != 8)=false by rw [e];rfl,cond_false]
    refine (TP (x2:=(l.getD i i0).2.2.1) hN (wd (l.getD i i0)) (i+1) k out (by have:=hw.2.2.1 e;omega) (by omega) (by omega) (by omega) (fun j hj1 hj2=>?_)).trans (by rw [Mi (by omega)])
    rw [hv.2 j (by omega)]
    have hsplit:=Wh (l:=l) (i:=i) (by omega)
    have hb:=g.bodies j (by omega)
    have hcb:gq (j:Int) (mq 0 (l.take i))+1 <= 2:=by
     have hs2:=Wh (l:=l) (i:=i+1) (by omega)
     rw [hs2,TQ hi,NK,NK,JQ hm (by omega),if_pos hA] at hb
     have:gq (j:Int) [mh i (l.getD i i0)]=1:=by
      rw [gq,List.countP_cons,List.countP_nil,e3,show o9 (mh i (l.getD i i0)) (j:Int)=true by rw [o7];simp only [mh];omega];rfl
     omega
    have hbd:=NM l (j:Int) (mq 0 (l.take i)) 1 (by omega) (fun p hp=>abh g p (by rw [hsplit];exact List.mem_append_left _ hp))
    refine ⟨hbd.1,?_⟩
    have h20:KE l (j:Int) (mq 0 (l.take i)) 1 <= 20:=by
     refine Int.le_trans hbd.2 ?_
     have:gq (j:Int) (mq 0 (l.take i))=0 \/ gq (j:Int) (mq 0 (l.take i))=1:=by omega
     rcases this with e | e <;> rw [e] <;> decide
    have:=Int.mul_le_mul h20 hN.2 (by omega) (by omega)
    omega
   ·rw [if_neg e,show ((l.getD i i0).1 != 8)=true by simpa using e,cond_true])
  hinv
  (fun j out hv=>by
   show JM k (j+1) out l (l.length:Int) (l.length:Int)=_
   rw [ZJ,Xd,Sd (by omega)])
  l.length 0 k ao4 (by omega) (by omega) ⟨hv.1,fun j hj=>by rw [hv.2 j hj];rfl⟩
 refine Eq.trans h2 ?_
 have hv2:=L6 (n:=l.length) hinv l.length 0 ao4 (by omega) ⟨hv.1,fun j hj=>by rw [hv.2 j hj];rfl⟩
 generalize goF (fun i (out:List Int)=>if (l.getD i i0).1=8 then mulR (l.getD i i0).2.2.2 out (i+1) (wd (l.getD i i0)) else out) l.length 0 ao4=abZ at hv2 ⊢
 rw [List.take_length] at hv2
 have:abZ=tms l:=by
  apply List.ext_getElem (by rw [hv2.1,y8])
  intro n h1 h2
  rw [y8] at h2
  rw [<- getD_in (z:=0) h1,<- getD_in (z:=0) (by rw [y8];exact h2),YC h2,hv2.2 n h2]
 rw [this]
def sm:List Int -> Int
 | []=>0
 | x::r=>x+sm r
theorem JV:∀ a b:List Int,sm (a++b)=sm a+sm b
 | [],b=>by simp [sm]
 | x::a,b=>by rw [List.cons_append,sm,sm,JV a b];omega
theorem abl {c:Int}:∀ (a:List Int),(∀ x∈a,0 <= x /\ x <= c) -> 0 <= sm a /\ sm a <= a.length * c
 | [],_=>by simp [sm]
 | x::a,h=>by
  have h1:=h x List.mem_cons_self
  have h2:=abl a (fun y hy=>h y (List.mem_cons_of_mem _ hy))
  rw [sm,List.length_cons]
  refine ⟨by omega,?_⟩
  have:((a.length+1:Nat):Int) * c=(a.length:Int) * c+c:=by rw [show ((a.length+1:Nat):Int)=(a.length:Int)+1 by omega,Int.add_mul,Int.one_mul]
  omega
theorem Wi:∀ (a:List Int),(∀ x∈a,0 <= x) -> 0 <= sm a
 | [],_=>by simp [sm]
 | x::a,h=>by
  have h1:=h x List.mem_cons_self
  have h2:=Wi a (fun y hy=>h y (List.mem_cons_of_mem _ hy))
  rw [sm];omega
theorem Wj {k:Nat} {l:List Int} (hl:l.length <= 900) (hb:∀ x∈l,0 <= x):∀ (m i j:Nat) (s:Int),i+m=l.length -> m<j -> 0 <= s -> s+sm (l.drop i) <= 9223372036854775807 -> Xg k j s l (l.length:Int) i=some ((s+sm (l.drop i),()),())
 | 0,i,j,s,h,hj,h0,h1=>by
  obtain ⟨j',rfl⟩:∃ j',j=j'+1:=⟨j - 1,by omega⟩
  rw [ZL,Xf,Sd (by omega),drop_nil (by omega),sm,Int.add_zero]
 | m+1,i,j,s,h,hj,h0,h1=>by
  obtain ⟨j',rfl⟩:∃ j',j=j'+1:=⟨j - 1,by omega⟩
  have hx:=hb _ (jl (z:=0) (l:=l) (i:=i) (by omega))
  have hr:=Wi (l.drop (i+1)) (fun x hx=>hb x (List.mem_of_mem_drop hx))
  rw [drop_cons 0 (show i<l.length by omega),sm] at h1 ⊢
  rw [ZL,Xf,Sc (by omega),Qo (by omega),Qp,afl k h0 hx (by omega),Option.bind_some,Mi (by omega)]
  dsimp only
  rw [Wj hl hb m (i+1) j' _ (by omega) (by omega) (by omega) (by omega)]
  congr 3;omega
theorem amb {k:Nat} (hk:1000 <= k) {l:List Int} (hl:l.length <= 900) (hb:∀ x∈l,0 <= x) (hs:sm l <= 9223372036854775807):ZM k l=some ((sm l,()),()):=by
 unfold ZM
 have:=Wj (k:=k) hl hb l.length 0 k 0 (by omega) (by omega) (by omega) (by rw [List.drop_zero];omega)
 rw [List.drop_zero,Int.zero_add] at this
 exact this
def cg (l:List I4) (ts ps:List Int):Nat -> Nat -> Int -> List (Int×Int) -> Int -> Int×List (Int×Int)
 | 0,_,c1,c2,_=>(c1,c2)
 | m+1,i,c1,c2,p =>
  if (l.getD i i0).1=11 \/ (l.getD i i0).1=0 then cg l ts ps m (i+1) (max c1 (p+ts.getD i 0)) c2 0
  else if (l.getD i i0).1=9 then cg l ts ps m (i+1) c1 (c2++[((l.getD i i0).2.1,Int.tdiv (sm (sub ts ((i+1:Nat):Int) (ps.getD i 0+1))) (ts.getD i 0))]) (p+ts.getD i 0)
  else cg l ts ps m (i+1) c1 c2 (p+ts.getD i 0)
def afo (l:List I4) (ps:List Int):Int×Int×List (Int×Int):=(sm (tms l),cg l (tms l) ps l.length 0 0 [] 0)
theorem ajY {xs:List Int} {f i:Nat} (hf:f <= i) (hi:i<xs.length):sub xs (f:Int) ((i+1:Nat):Int)=sub xs (f:Int) (i:Int)++[xs.getD i 0]:=by
 simp only [sub,Int.toNat_natCast]
 have:xs.take (i+1)=xs.take i++[xs.getD i 0]:=by rw [List.take_add_one,getD_in hi,List.getElem?_eq_getElem hi];rfl
 rw [this,List.drop_append_of_le_length (by rw [List.length_take];omega)]
theorem afp {xs:List Int} {a b:Int} {x:Int} (h:x∈sub xs a b):x∈xs:=List.mem_of_mem_take (List.mem_of_mem_drop h)
theorem afq {xs:List Int} {a b:Int}:(sub xs a b).length <= xs.length:=by
 simp only [sub,List.length_drop,List.length_take];omega
theorem afr {l:List I4} {ps:List Int} (g:C9 l ps):∀ x∈tms l,1 <= x /\ x <= 400:=fun x hx=>by
 obtain ⟨j,hj,rfl⟩:=qy 0 hx
 exact Wd g (by rw [y8] at hj;exact hj)
theorem acr {l:List I4} {ps:List Int} (g:C9 l ps) (a b:Int):0 <= sm (sub (tms l) a b) /\ sm (sub (tms l) a b) <= 9600:=by
 have:=abl (c:=400) (sub (tms l) a b) (fun x hx=>by have:=afr g x (afp hx);omega)
 have h2:(sub (tms l) a b).length <= l.length:=by rw [<- y8 l];exact afq
 have h3:=g.len2
 refine ⟨this.1,?_⟩
 have h4:((sub (tms l) a b).length:Int) * 400 <= 24 * 400:=Int.mul_le_mul_of_nonneg_right (by omega) (by omega)
 omega
theorem LB {k:Nat} (hk:1000 <= k) {l:List I4} {ps:List Int} (g:C9 l ps) (a b:Int):ZM k (sub (tms l) a b)=some ((sm (sub (tms l) a b),()),()):=by
 have h2:(sub (tms l) a b).length <= l.length:=by rw [<- y8 l];exact afq
 have h3:=g.len2
 have h4:=acr g a b
 exact amb hk (by omega) (fun x hx=>by have:=afr g x (afp hx);omega) (by omega)
theorem amc {l:List I4} {ps:List Int} (g:C9 l ps) {i:Nat} (hi:i<l.length) (h9:(l.getD i i0).1=9):∃ u:Nat,ps.getD i 0=(u:Int) /\ i<u /\ u<l.length:=by
 obtain ⟨u,h1,h2,h3,_⟩:=(YB g.pairs).closed i hi h9 (by simp)
 exact ⟨u,h1,h2,h3⟩
theorem IL {k:Nat} (hk:1000 <= k) {l:List I4} {ps:List Int} (g:C9 l ps) {c:Int}:∀ (m i j f:Nat) (c1:Int) (c2:List (Int×Int)),i+m=l.length -> m<j -> f <= i -> c2.length <= i ->
  RO k j c c1 c2 (tms l) (f:Int) ps l (l.length:Int) (i:Int)=some (((c,cg l (tms l) ps m i c1 c2 (sm (sub (tms l) f i))),true,()),())
 | 0,i,j,f,c1,c2,h,hj,hf,hc=>by
  obtain ⟨j',rfl⟩:∃ j',j=j'+1:=⟨j - 1,by omega⟩
  rw [ZN,Xh,Sd (by omega),cg]
 | m+1,i,j,f,c1,c2,h,hj,hf,hc=>by
  obtain ⟨j',rfl⟩:∃ j',j=j'+1:=⟨j - 1,by omega⟩
  have hl2:=g.len2
  have htl:=y8 l
  have hpl:=QI g.pairs
  have hi:i<l.length:=by omega
  have hsn:sm (sub (tms l) (f:Int) ((i+1:Nat):Int))=sm (sub (tms l) f i)+(tms l).getD i 0:=by rw [ajY hf (by omega),JV,sm,sm];omega
  have h0:sm (sub (tms l) ((i+1:Nat):Int) ((i+1:Nat):Int))=0:=by
   have:sub (tms l) ((i+1:Nat):Int) ((i+1:Nat):Int)=[]:=by simp [sub]
   rw [this];rfl
  rw [ZN,Xh,Sc (by omega),Qo hi,Qp,Mi (by omega),cg]
  have mark:RO k j' c (mx c1 (sm (sub (tms l) (f:Int) ((i+1:Nat):Int)))) c2 (tms l) ((i+1:Nat):Int) ps l (l.length:Int) ((i+1:Nat):Int)=some (((c,cg l (tms l) ps m (i+1) (max c1 (sm (sub (tms l) f i)+(tms l).getD i 0)) c2 0),true,()),()):=by
   rw [IL hk g m (i+1) j' (i+1) _ _ (by omega) (by omega) (by omega) (by omega),h0,hsn,Si]
  cases h11:(l.getD i i0).1==11 with
  | true =>
   have e:=eq_of_beq h11
   rw [if_pos (.inl e),cond_true,Rx (by omega) (by omega) (by omega),LB hk g,Option.bind_some]
   exact mark
  | false =>
   rw [cond_false]
   have e11:(l.getD i i0).1≠11:=by intro e;rw [e] at h11;cases h11
   cases h00:(l.getD i i0).1==0 with
   | true =>
    have e:=eq_of_beq h00
    rw [if_pos (.inr e),cond_true,Rx (by omega) (by omega) (by omega),LB hk g,Option.bind_some]
    exact mark
   | false =>
    rw [cond_false]
    have e00:(l.getD i i0).1≠0:=by intro e;rw [e] at h00;cases h00
    rw [if_neg (by rintro (h | h);exact e11 h;exact e00 h)]
    cases h9:(l.getD i i0).1==9 with
    | true =>
     have e:=eq_of_beq h9
     obtain ⟨u,h1,h2,h3⟩:=amc g hi e
     have ht:=Wd g hi
     rw [if_pos e,cond_true,Qo (by omega),Qp,h1,Mi (by omega),Rx (by omega) (by omega) (by omega),LB hk g,Option.bind_some]
     dsimp only
     rw [Qo (by omega),Qp,Sb (by omega),Rz (by simp only [List.length_cons,List.length_nil];omega)]
     have hs:=acr g ((i+1:Nat):Int) ((u+1:Nat):Int)
     have hd:0 <= Int.tdiv (sm (sub (tms l) ((i+1:Nat):Int) ((u+1:Nat):Int))) ((tms l).getD i 0) /\ Int.tdiv (sm (sub (tms l) ((i+1:Nat):Int) ((u+1:Nat):Int))) ((tms l).getD i 0) <= 9600:=by
      rw [Int.tdiv_eq_ediv_of_nonneg hs.1]
      exact ⟨Int.ediv_nonneg hs.1 (by omega),Int.le_trans (Int.ediv_le_self _ hs.1) hs.2⟩
     rw [Uu (by omega) (by omega),IL hk g m (i+1) j' f _ _ (by omega) (by omega) (by omega) (by simp only [List.length_append,List.length_cons,List.length_nil];omega),hsn,show ((u:Int)+1)=((u+1:Nat):Int) by omega]
    | false =>
     have e9:(l.getD i i0).1≠9:=by intro e;rw [e] at h9;cases h9
     rw [cond_false,if_neg e9,IL hk g m (i+1) j' f _ _ (by omega) (by omega) (by omega) (by omega),hsn]
theorem afs (l:List Int):sub l ((0:Nat):Int) (l.length:Int)=l:=by simp [sub]
def an2 (l:List I4) (c:Option (Int×Int×List (Int×Int))):Option (((Int×Int×List (Int×Int))×Bool×Unit)×Unit):=match c with | some c=>some ((c,true,()),()) | none=>some (((0,0,[]),false,()),())
noncomputable def zw (l:List I4):Option (Int×Int×List (Int×Int)):=if yj l=true then some (afo l ((prs l).getD [])) else none
theorem OY {l:List I4} {ps:List Int} (g:C9 l ps):zw l=some (afo l ps):=by
 unfold zw;rw [if_pos (L9.2 ⟨ps,g⟩),g.pairs];rfl
theorem YD {k:Nat} (hk:1000 <= k) {l:List I4} (hl:l.length <= 900):agl k l=an2 l (zw l):=by
 unfold agl
 rw [Yw hk hl,Option.bind_some]
 cases hm:yj l with
 | false =>
  have:zw l=none:=by unfold zw;rw [hm];rfl
  rw [this];rfl
 | true =>
  obtain ⟨ps,g⟩:=L9.1 hm
  have hl2:=g.len2
  simp only [Bool.not_true,cond_false]
  rw [ama hk g,Option.bind_some,aff hk g.len2,g.pairs]
  simp only [afd,Option.bind_some]
  have h1:=LB hk g ((0:Nat):Int) ((tms l).length:Int)
  rw [afs] at h1
  rw [h1,Option.bind_some,OY g]
  have:=IL hk g (c:=sm (tms l)) l.length 0 k 0 0 [] (by omega) (by omega) (by omega) (by simp)
  have h0:sm (sub (tms l) ((0:Nat):Int) ((0:Nat):Int))=0:=by simp [sub,sm]
  rw [h0] at this
  exact this
theorem YE {l:List I4} {ts ps:List Int}:∀ (m i:Nat) (c1 p:Int) (c2:List (Int×Int)),(cg l ts ps m i c1 c2 p).2.length <= c2.length+m
 | 0,_,_,_,c2=>by simp [cg]
 | m+1,i,c1,p,c2=>by
  rw [cg]
  split
  ·have:=YE (l:=l) (ts:=ts) (ps:=ps) m (i+1) (max c1 (p+ts.getD i 0)) 0 c2;omega
  ·split
   ·have:=YE (l:=l) (ts:=ts) (ps:=ps) m (i+1) c1 (p+ts.getD i 0) (c2++[((l.getD i i0).2.1,Int.tdiv (sm (sub ts ((i+1:Nat):Int) (ps.getD i 0+1))) (ts.getD i 0))])
    simp only [List.length_append,List.length_cons,List.length_nil] at this;omega
   ·have:=YE (l:=l) (ts:=ts) (ps:=ps) m (i+1) c1 (p+ts.getD i 0) c2;omega
theorem acs {l:List I4} {c:Int×Int×List (Int×Int)} (h:zw l=some c):c.2.2.length <= 24:=by
 unfold zw at h
 split at h
 ·rename_i hm
  injection h with h;subst h
  obtain ⟨ps,g⟩:=L9.1 hm
  have h1:=g.len2
  have h2:=YE (l:=l) (ts:=tms l) (ps:=(prs l).getD []) l.length 0 0 0 []
  simp only [afo]
  simp only [List.length_nil] at h2
  omega
 ·cases h
def AP (x:I4):Int:=if x.1=8 then x.2.2.2 else 1
theorem IQ {x:I4} (h:lu x=true):1 <= AP x /\ AP x <= 20:=by
 unfold AP
 split
 ·rename_i e;exact (acp h e).2.2
 ·omega
namespace Tr
def cost:Tr -> Int
 | .nil=>0
 | .one _ r=>1+cost r
 | .lk _ b r=>2+cost b+cost r
 | .ar x b r=>1+AP x * cost b+cost r
def ts:Int -> Tr -> List Int
 | _,.nil=>[]
 | M,.one _ r=>M::ts M r
 | M,.lk _ b r=>M::(ts M b++(M::ts M r))
 | M,.ar x b r=>M::(ts (M * AP x) b++ts M r)
def spans:Tr -> List (Int×Int)
 | .nil=>[]
 | .one _ r=>spans r
 | .lk a b r=>(a,cost b+1)::(spans b++spans r)
 | .ar _ b r=>spans b++spans r
def piece:Int -> Tr -> Int×Int -> Int×Int
 | _,.nil,s=>s
 | M,.one x r,s=>piece M r (if x.1=11 then (max s.1 (s.2+M),0) else (s.1,s.2+M))
 | M,.lk _ b r,s=>piece M r ((piece M b (s.1,s.2+M)).1,(piece M b (s.1,s.2+M)).2+M)
 | M,.ar x b r,s=>piece M r (piece (M * AP x) b (s.1,s.2+M))
end Tr
theorem qz:∀ (t:Tr) (M:Int),(t.ts M).length=t.len
 | .nil,_=>rfl
 | .one _ r,M=>by simp only [Tr.ts,Tr.len,List.length_cons,qz r]
 | .lk _ b r,M=>by simp only [Tr.ts,Tr.len,List.length_cons,List.length_append,qz b,qz r];omega
 | .ar _ b r,M=>by simp only [Tr.ts,Tr.len,List.length_cons,List.length_append,qz b,qz r]
theorem GN:∀ (t:Tr) (M:Int),sm (t.ts M)=M * t.cost
 | .nil,M=>by simp [Tr.ts,Tr.cost,sm]
 | .one _ r,M=>by simp only [Tr.ts,Tr.cost,sm,GN r M];grind
 | .lk _ b r,M=>by simp only [Tr.ts,Tr.cost,sm,JV,GN b M,GN r M];grind
 | .ar x b r,M=>by simp only [Tr.ts,Tr.cost,sm,JV,GN b,GN r M];grind
theorem kg:∀ {t:Tr} {d:Nat} {hs:List Int} {ia:Bool},Ok d hs ia t -> 0 <= t.cost
 | .nil,_,_,_,_=>by simp [Tr.cost]
 | .one x r,_,_,_,⟨_,_,_,h4⟩=>by have:=kg h4;simp only [Tr.cost];omega
 | .lk a b r,_,_,_,⟨_,_,h3,h4⟩=>by have:=kg h3;have:=kg h4;simp only [Tr.cost];omega
 | .ar x b r,_,_,_,⟨h1,_,h3,h4⟩=>by
  have h5:=kg h3;have:=kg h4
  have:=Int.mul_nonneg (show 0 <= AP x by have:=IQ h1.1;omega) h5
  simp only [Tr.cost];omega
theorem DW:∀ {t:Tr} {d:Nat} {hs:List Int} {ia:Bool} {l:List I4} {o:Nat} (M:Int),Ok d hs ia t -> At l o t.flat -> o+t.len <= 9000 -> ∀ j,j<t.len -> KE l ((o+j:Nat):Int) (mq o t.flat) M=(t.ts M).getD j 0
 | .nil,_,_,_,_,_,_,_,_,_,j,hj=>by simp only [Tr.len] at hj;omega
 | .one x r,_,_,_,l,o,M,⟨h1,h2,_,h4⟩,ha,ho,j,hj=>by
  simp only [Tr.len] at hj ho
  obtain ⟨a1,a2,a3⟩:=l9 ha
  rw [QL h1 h2 (by omega),Tr.ts]
  cases j with
  | zero =>
   rw [List.getD_cons_zero,CB]
   intro p hp
   have:=qo h4 (by omega) p hp
   rw [<- Bool.not_eq_true,o7];omega
  | succ j =>
   rw [List.getD_cons_succ,<- DW M h4 a3 (by omega) j (by omega)]
   congr 2;omega
 | .lk a b r,_,_,_,l,o,M,⟨h1,_,h3,h4⟩,ha,ho,j,hj=>by
  simp only [Tr.len] at hj ho
  obtain ⟨a1,a2,a3⟩:=l9 ha
  obtain ⟨a4,a5⟩:=zq a3
  obtain ⟨a6,a7,a8⟩:=l9 a5
  rw [jv] at a6 a7 a8
  rw [show o+1+b.len+1=o+b.len+2 by omega] at a8
  have nb:∀ k:Nat,k <= o \/ o+b.len+1 <= k -> ∀ M',KE l (k:Int) (mq (o+1) b.flat) M'=M':=fun k hk M'=>CB l _ _ _ (fun p hp=>by
   have:=qo h3 (by omega) p hp
   rw [<- Bool.not_eq_true,o7];omega)
  have nr:∀ k:Nat,k <= o+b.len+2 -> ∀ M',KE l (k:Int) (mq (o+b.len+2) r.flat) M'=M':=fun k hk M'=>CB l _ _ _ (fun p hp=>by
   have:=qo h4 (by omega) p hp
   rw [<- Bool.not_eq_true,o7];omega)
  rw [Yx h1 (by omega),IK,Tr.ts]
  cases j with
  | zero=>rw [List.getD_cons_zero,nb _ (by omega),nr _ (by omega)]
  | succ j =>
   rw [List.getD_cons_succ]
   by_cases e:j<b.len
   ·rw [oo (by rw [qz];exact e),nr _ (by omega),<- DW M h3 a4 (by omega) j e]
    congr 2;omega
   ·rw [lg (by rw [qz];omega),qz,nb _ (by omega)]
    by_cases e2:j=b.len
    ·subst e2;rw [Nat.sub_self,List.getD_cons_zero,nr _ (by omega)]
    ·obtain ⟨n,hn⟩:∃ n,j - b.len=n+1:=⟨j - b.len - 1,by omega⟩
     rw [hn,List.getD_cons_succ,<- DW M h4 a8 (by omega) n (by omega)]
     congr 2;omega
 | .ar x b r,_,_,_,l,o,M,⟨⟨h1,h2,h3⟩,_,h5,h6⟩,ha,ho,j,hj=>by
  simp only [Tr.len] at hj ho
  obtain ⟨a1,a2,a3⟩:=l9 ha
  obtain ⟨a4,a5⟩:=zq a3
  rw [jv,show o+1+b.len=o+b.len+1 by omega] at a5
  have nb:∀ k:Nat,k <= o \/ o+b.len+1 <= k -> ∀ M',KE l (k:Int) (mq (o+1) b.flat) M'=M':=fun k hk M'=>CB l _ _ _ (fun p hp=>by
   have:=qo h5 (by omega) p hp
   rw [<- Bool.not_eq_true,o7];omega)
  have nr:∀ k:Nat,k <= o+b.len+1 -> ∀ M',KE l (k:Int) (mq (o+b.len+1) r.flat) M'=M':=fun k hk M'=>CB l _ _ _ (fun p hp=>by
   have:=qo h6 (by omega) p hp
   rw [<- Bool.not_eq_true,o7];omega)
  have hd:∀ k:Nat,KE l (k:Int) [mh o x] M=if o<k /\ k <= o+b.len then M * AP x else M:=fun k=>by
   rw [KE,KE]
   have e4:(mh o x).2.2.1=(o:Int):=rfl
   have e5:(mh o x).2.2.2=(x.1==8):=rfl
   rw [e4,Qp,a2,e5]
   unfold AP
   by_cases h8:x.1=8
   ·rw [if_pos h8,show (x.1==8)=true by rw [h8];rfl,Bool.true_and]
    by_cases e:o<k /\ k <= o+b.len
    ·rw [if_pos e,show o9 (mh o x) (k:Int)=true by rw [o7];simp only [mh];omega];rfl
    ·rw [if_neg e,show o9 (mh o x) (k:Int)=false by rw [<- Bool.not_eq_true,o7];simp only [mh];omega];rfl
   ·rw [if_neg h8,show (x.1==8)=false by simpa using h8,Bool.false_and,Int.mul_one];simp
  rw [Yy h1 h2 (by omega),show ∀ a:fq,∀ l,a::l=[a]++l from fun _ _=>rfl,IK,IK,hd,Tr.ts]
  cases j with
  | zero=>rw [List.getD_cons_zero,if_neg (by omega),nb _ (by omega),nr _ (by omega)]
  | succ j =>
   rw [List.getD_cons_succ]
   by_cases e:j<b.len
   ·rw [oo (by rw [qz];exact e),if_pos (by omega),nr _ (by omega),<- DW _ h5 a4 (by omega) j e]
    congr 2;omega
   ·rw [lg (by rw [qz];omega),qz,if_neg (by omega),nb _ (by omega),<- DW M h6 a5 (by omega) (j - b.len) (by omega)]
    congr 2;omega
theorem abm {t:Tr} (h:Ok 0 [] false t) (hl:t.len<24):tms t.prog=t.ts 1++[1]:=by
 have hpl:=xg t
 apply List.ext_getElem (by rw [y8,List.length_append,qz];simp;omega)
 intro n h1 h2
 rw [y8] at h1
 rw [<- getD_in (z:=0) (by rw [y8];exact h1),<- getD_in (z:=0) h2,YC h1,abb (by omega)]
 by_cases e:n<t.len
 ·rw [oo (by rw [qz];exact e),<- DW (o:=0) 1 h (IJ t) (by omega) n e,Nat.zero_add]
 ·have:n=t.len:=by omega
  subst this
  rw [lg (by rw [qz];omega),qz,Nat.sub_self]
  exact CB _ _ _ _ (fun p hp=>by
   have:=qo (o:=0) h (by omega) p hp
   rw [<- Bool.not_eq_true,o7];omega)
def YF (ps:List Int):Tr -> Nat -> Prop
 | .nil,_=>True
 | .one _ r,o=>YF ps r (o+1)
 | .lk _ b r,o=>ps.getD o 0=((o+b.len+1:Nat):Int) /\ YF ps b (o+1) /\ YF ps r (o+b.len+2)
 | .ar _ b r,o=>YF ps b (o+1) /\ YF ps r (o+b.len+1)
theorem xw {ps qs:List Int}:∀ (t:Tr) (o:Nat),(∀ k,o <= k -> k<o+t.len -> ps.getD k 0=qs.getD k 0) -> YF ps t o -> YF qs t o
 | .nil,_,_,_=>trivial
 | .one _ r,o,h,hp=>xw r (o+1) (fun k h1 h2=>h k (by omega) (by simp only [Tr.len];omega)) hp
 | .lk _ b r,o,h,⟨h1,h2,h3⟩=>⟨by rw [<- h o (by omega) (by simp only [Tr.len];omega)];exact h1,xw b (o+1) (fun k g1 g2=>h k (by omega) (by simp only [Tr.len];omega)) h2,xw r (o+b.len+2) (fun k g1 g2=>h k (by omega) (by simp only [Tr.len];omega)) h3⟩
 | .ar _ b r,o,h,⟨h2,h3⟩=>⟨xw b (o+1) (fun k g1 g2=>h k (by omega) (by simp only [Tr.len];omega)) h2,xw r (o+b.len+1) (fun k g1 g2=>h k (by omega) (by simp only [Tr.len];omega)) h3⟩
theorem DX:∀ (t:Tr) (o:Nat) (out:List Int),o+t.len <= out.length -> YF (FW t o out) t o
 | .nil,_,_,_=>trivial
 | .one _ r,o,out,h=>DX r (o+1) out (by simp only [Tr.len] at h;omega)
 | .lk a b r,o,out,h=>by
  simp only [Tr.len] at h
  rw [FW]
  have hb:=EO b (o+1) out
  refine ⟨?_,?_,DX r _ _ (by rw [List.length_set];omega)⟩
  ·rw [y7 r _ _ o (by omega),ko,if_pos ⟨rfl,by omega⟩]
  ·refine xw b (o+1) (fun k h1 h2=>?_) (DX b (o+1) out (by omega))
   rw [y7 r _ _ k (by omega),ko,if_neg (by omega)]
 | .ar x b r,o,out,h=>by
  simp only [Tr.len] at h
  rw [FW]
  have hb:=EO b (o+1) out
  refine ⟨?_,DX r _ _ (by omega)⟩
  refine xw b (o+1) (fun k h1 h2=>?_) (DX b (o+1) out (by omega))
  rw [y7 r _ _ k (by omega)]
def AtI (l:List Int) (o:Nat) (w:List Int):Prop:=o+w.length <= l.length /\ ∀ j,j<w.length -> l.getD (o+j) 0=w.getD j 0
theorem LC {l:List Int} {o:Nat} {x:Int} {w:List Int} (h:AtI l o (x::w)):o<l.length /\ l.getD o 0=x /\ AtI l (o+1) w:=by
 obtain ⟨h1,h2⟩:=h
 simp only [List.length_cons] at h1 h2
 refine ⟨by omega,by simpa using h2 0 (by omega),by omega,fun j hj=>?_⟩
 have:=h2 (j+1) (by omega)
 rw [List.getD_cons_succ] at this
 rw [<- this];congr 1;omega
theorem aft {l:List Int} {o:Nat} {u w:List Int} (h:AtI l o (u++w)):AtI l o u /\ AtI l (o+u.length) w:=by
 obtain ⟨h1,h2⟩:=h
 simp only [List.length_append] at h1 h2
 refine ⟨⟨by omega,fun j hj=>?_⟩,by omega,fun j hj=>?_⟩
 ·rw [h2 j (by omega),oo hj]
 ·rw [show o+u.length+j=o+(u.length+j) by omega,h2 _ (by omega),lg (by omega)]
  congr 1;omega
theorem ame {l w:List Int} {o:Nat} (h:AtI l o w):sub l (o:Int) ((o+w.length:Nat):Int)=w:=by
 obtain ⟨h1,h2⟩:=h
 simp only [sub,Int.toNat_natCast]
 apply List.ext_getElem (by rw [List.length_drop,List.length_take];omega)
 intro n g1 g2
 rw [List.getElem_drop,List.getElem_take]
 have:=h2 n g2
 rw [getD_in (by omega),getD_in g2] at this
 exact this
theorem ET:∀ {t:Tr} {d:Nat} {hs:List Int} {ia:Bool} {l:List I4} {ts ps:List Int} {o:Nat} {M:Int} (m:Nat) (c1 p:Int) (c2:List (Int×Int)),Ok d hs ia t -> At l o t.flat -> AtI ts o (t.ts M) -> YF ps t o -> 1 <= M ->
  cg l ts ps (t.len+m) o c1 c2 p=cg l ts ps m (o+t.len) (t.piece M (c1,p)).1 (c2++t.spans) (t.piece M (c1,p)).2
 | .nil,_,_,_,_,_,_,_,_,m,c1,p,c2,_,_,_,_,_=>by simp only [Tr.len,Nat.zero_add,Nat.add_zero,Tr.piece,Tr.spans,List.append_nil]
 | .one x r,_,_,_,l,ts,ps,o,M,m,c1,p,c2,⟨h1,h2,_,h4⟩,ha,ht,hp,hM=>by
  simp only [Tr.len,Tr.ts] at ht ⊢
  obtain ⟨a1,a2,a3⟩:=l9 ha
  obtain ⟨t1,t2,t3⟩:=LC ht
  rw [show r.len+1+m=(r.len+m)+1 by omega,cg,a2,t2,Tr.spans,Tr.piece]
  by_cases e:x.1=11
  ·rw [if_pos (.inl e),if_pos e,ET m _ _ _ h4 a3 t3 hp hM]
   congr 1;omega
  ·rw [if_neg (by rintro (q | q);exact e q;exact h2.1 q),if_neg h2.2.2.2.1,if_neg e,ET m _ _ _ h4 a3 t3 hp hM]
   congr 1;omega
 | .lk a b r,_,_,_,l,ts,ps,o,M,m,c1,p,c2,⟨h1,_,h3,h4⟩,ha,ht,⟨p1,p2,p3⟩,hM=>by
  simp only [Tr.len,Tr.ts] at ht ⊢
  obtain ⟨a1,a2,a3⟩:=l9 ha
  obtain ⟨a4,a5⟩:=zq a3
  obtain ⟨a6,a7,a8⟩:=l9 a5
  obtain ⟨t1,t2,t3⟩:=LC ht
  obtain ⟨t4,t5⟩:=aft t3
  obtain ⟨t6,t7,t8⟩:=LC t5
  rw [jv] at a6 a7 a8
  rw [qz] at t6 t7 t8
  have hsub:sub ts ((o+1:Nat):Int) (ps.getD o 0+1)=b.ts M++[M]:=by
   have:AtI ts (o+1) (b.ts M++[M]):=by
    obtain ⟨q1,q2⟩:=t3
    refine ⟨by simp only [List.length_append,List.length_cons,List.length_nil] at q1 ⊢;omega,fun j hj=>?_⟩
    simp only [List.length_append,List.length_cons,List.length_nil] at hj
    rw [q2 j (by simp only [List.length_append,List.length_cons];omega)]
    by_cases e:j<(b.ts M).length
    ·rw [oo e,oo e]
    ·rw [lg (by omega),lg (by omega),show j - (b.ts M).length=0 by omega];rfl
   have h:=ame this
   rw [List.length_append,qz] at h
   rw [p1,<- h]
   congr 1
   simp only [List.length_cons,List.length_nil];omega
  have hc:=kg h3
  have hdiv:Int.tdiv (M * b.cost+M) M=b.cost+1:=by
   rw [show M * b.cost+M=M * (b.cost+1) by grind,Int.mul_tdiv_cancel_left _ (by omega)]
  rw [show b.len+r.len+2+m=(b.len+(r.len+m+1))+1 by omega,cg,a2,t2,if_neg (by simp),if_pos rfl,hsub,JV,GN,sm,sm,Int.add_zero,hdiv]
  rw [ET (r.len+m+1) _ _ _ h3 a4 t4 p2 hM,cg,a7,t7,if_neg (by simp),if_neg (by simp)]
  rw [show o+1+b.len+1=o+b.len+2 by omega] at a8 t8 ⊢
  rw [ET m _ _ _ h4 a8 t8 p3 hM,Tr.spans,Tr.piece]
  congr 1
  ·omega
  ·simp only [List.append_assoc,List.cons_append,List.nil_append]
 | .ar x b r,_,_,_,l,ts,ps,o,M,m,c1,p,c2,⟨⟨h1,h2,h3⟩,_,h5,h6⟩,ha,ht,⟨p2,p3⟩,hM=>by
  simp only [Tr.len,Tr.ts] at ht ⊢
  obtain ⟨a1,a2,a3⟩:=l9 ha
  obtain ⟨a4,a5⟩:=zq a3
  obtain ⟨t1,t2,t3⟩:=LC ht
  obtain ⟨t4,t5⟩:=aft t3
  rw [jv,show o+1+b.len=o+b.len+1 by omega] at a5
  rw [qz,show o+1+b.len=o+b.len+1 by omega] at t5
  have e11:¬ (x.1=11 \/ x.1=0):=by rintro (e | e) <;> simp [isA,e] at h2
  have e9:x.1≠9:=by intro e;simp [isA,e] at h2
  have hM2:1 * 1 <= M * AP x:=Int.mul_le_mul hM (IQ h1).1 (by omega) (by omega)
  rw [show b.len+r.len+1+m=(b.len+(r.len+m))+1 by omega,cg,a2,t2,if_neg e11,if_neg e9,ET (r.len+m) _ _ _ h5 a4 t4 p2 (by omega)]
  rw [show o+1+b.len=o+b.len+1 by omega,ET m _ _ _ h6 a5 t5 p3 hM,Tr.spans,Tr.piece]
  congr 1
  ·omega
  ·rw [List.append_assoc]
theorem agK {t:Tr} (h:Ok 0 [] false t) (hl:t.len<24):zw t.prog=some (t.cost+1,max (t.piece 1 (0,0)).1 ((t.piece 1 (0,0)).2+1),t.spans):=by
 have g:=VY h hl
 have ht:=abm h hl
 rw [OY g]
 unfold afo
 have hA:AtI (tms t.prog) 0 (t.ts 1):=by
  rw [ht]
  exact ⟨by rw [List.length_append];omega,fun j hj=>by rw [Nat.zero_add,oo hj]⟩
 have h1:=ET (ts:=tms t.prog) (ps:=FW t 0 (List.replicate (t.len+1) 0)) (o:=0) (M:=1) 1 0 0 [] h (IJ t) hA (DX t 0 _ (by simp)) (by omega)
 rw [xg,h1,Nat.zero_add,cg,DU,if_pos (.inr rfl),cg,List.nil_append]
 have h2:sm (tms t.prog)=t.cost+1:=by rw [ht,JV,GN,sm,sm];omega
 have h3:(tms t.prog).getD t.len 0=1:=by
  rw [ht,lg (by rw [qz];omega),qz,Nat.sub_self];rfl
 rw [h2,h3]
theorem uw:∀ {t:Tr} {d:Nat} {hs:List Int} {ia:Bool} (M:Int) (s:Int×Int),Ok d hs ia t -> 1 <= M -> 0 <= s.1 -> 0 <= s.2 -> 0 <= (t.piece M s).1 /\ 0 <= (t.piece M s).2 /\ (t.piece M s).1 <= max s.1 (s.2+M * t.cost) /\ (t.piece M s).2 <= s.2+M * t.cost
 | .nil,_,_,_,M,s,_,_,h1,h2=>by simp only [Tr.piece,Tr.cost,Int.mul_zero];omega
 | .one x r,_,_,_,M,s,⟨_,_,_,h4⟩,hM,h1,h2=>by
  have hc:=Int.mul_nonneg (show 0 <= M by omega) (kg h4)
  rw [Tr.piece,Tr.cost,Int.mul_add,Int.mul_one]
  split
  ·have:=uw (t:=r) M (max s.1 (s.2+M),0) h4 hM (by simp only;omega) (by simp only;omega)
   simp only at this
   omega
  ·have:=uw (t:=r) M (s.1,s.2+M) h4 hM h1 (by simp only;omega)
   simp only at this
   omega
 | .lk a b r,_,_,_,M,s,⟨_,_,h3,h4⟩,hM,h1,h2=>by
  have hc:=Int.mul_nonneg (show 0 <= M by omega) (kg h4)
  have hcb:=Int.mul_nonneg (show 0 <= M by omega) (kg h3)
  rw [Tr.piece,Tr.cost,show M * (2+b.cost+r.cost)=M+M+M * b.cost+M * r.cost by grind]
  have q:=uw (t:=b) M (s.1,s.2+M) h3 hM h1 (by simp only;omega)
  simp only at q
  have:=uw (t:=r) M ((b.piece M (s.1,s.2+M)).1,(b.piece M (s.1,s.2+M)).2+M) h4 hM q.1 (by simp only;omega)
  simp only at this
  omega
 | .ar x b r,_,_,_,M,s,⟨hx,_,h3,h4⟩,hM,h1,h2=>by
  have hr:=IQ hx.1
  have hM2:1 * 1 <= M * AP x:=Int.mul_le_mul hM hr.1 (by omega) (by omega)
  have hc:=Int.mul_nonneg (show 0 <= M by omega) (kg h4)
  have hcb:=Int.mul_nonneg (show 0 <= M * AP x by omega) (kg h3)
  rw [Tr.piece,Tr.cost,show M * (1+AP x * b.cost+r.cost)=M+M * AP x * b.cost+M * r.cost by grind]
  have q:=uw (t:=b) (M * AP x) (s.1,s.2+M) h3 (by omega) h1 (by simp only;omega)
  simp only at q
  have:=uw (t:=r) M (b.piece (M * AP x) (s.1,s.2+M)) h4 hM q.1 q.2.1
  omega
theorem acu {t:Tr} (h:Ok 0 [] false t) (hl:t.len<24):0 <= t.cost /\ t.cost+1 <= 9600:=by
 have g:=VY h hl
 have hs:=acr g ((0:Nat):Int) ((tms t.prog).length:Int)
 rw [afs,abm h hl,JV,GN,sm,sm] at hs
 have:=kg h
 omega
def KF (v:Int):Prop:=-9223372036854775808 <= v /\ v <= 9223372036854775807
theorem EU (v:Int):KF (IntKind.i64.wrap v):=by
 unfold IntKind.wrap KF
 have e1:(2 ^ IntKind.i64.bits:Int)=18446744073709551616:=by decide
 have e2:(2 ^ (IntKind.i64.bits - 1):Int)=9223372036854775808:=by decide
 simp only [e1,e2,IntKind.signed,Bool.true_and,decide_eq_true_eq]
 split <;> omega
theorem TR (v:Int):∃ q:Int,IntKind.i64.wrap v=v+q * 18446744073709551616:=by
 unfold IntKind.wrap
 have e1:(2 ^ IntKind.i64.bits:Int)=18446744073709551616:=by decide
 have e2:(2 ^ (IntKind.i64.bits - 1):Int)=9223372036854775808:=by decide
 simp only [e1,e2,IntKind.signed,Bool.true_and,decide_eq_true_eq]
 split
 ·exact ⟨-(v / 18446744073709551616) - 1,by omega⟩
 ·exact ⟨-(v / 18446744073709551616),by omega⟩
theorem amf {v u:Int} (h:KF u) (q:Int) (e:u=v+q * 18446744073709551616):IntKind.i64.wrap v=u:=by
 obtain ⟨q2,h2⟩:=TR v
 have:=EU v
 unfold KF at *
 omega
def TS (v n:Int):Int:=if n=0 then v else if 0<n then IntKind.i64.wrap (v * 2 ^ n.toNat) else v.fdiv (2 ^ (-n).toNat)
def LD (v n:Int):Int:=if (v % 2 ^ n.toNat) * 2≥2 ^ n.toNat then v % 2 ^ n.toNat - 2 ^ n.toNat else v % 2 ^ n.toNat
theorem Wm {n:Nat} (h:1 <= n):(2:Int) ^ n=2 * 2 ^ (n - 1):=by
 obtain ⟨m,rfl⟩:∃ m,n=m+1:=⟨n - 1,by omega⟩
 rw [Int.pow_succ,Nat.add_sub_cancel];omega
theorem ajZ {n:Nat} (h:n <= 64):(18446744073709551616:Int)=2 ^ n * 2 ^ (64 - n):=by
 rw [<- Int.pow_add,show n+(64 - n)=64 by omega];decide
abbrev gu:Type:=Int×Int×Int
abbrev Mem:Type:=PN Int 8
abbrev gy:Type:=Int×Mem×List gu×Bool
def mg (mem:Mem) (a:Int):Int:=Uq (α:=Int) 8 mem a 0
def inM (mem:Mem):Prop:=∀ x∈Gv 8 mem,KF x
theorem an3 {mem:Mem} (h:inM mem) (a:Int):KF (mg mem a):=by
 unfold mg Uq
 by_cases e:a.toNat<(Gv 8 mem).length
 ·exact h _ (jl e)
 ·rw [DT (by omega)];unfold KF;omega
theorem IU {mem:Mem} (h:inM mem) {a v:Int} (ha:0 <= a) (hv:KF v):inM (Ur (α:=Int) 8 mem a v):=by
 obtain ⟨n,rfl⟩:∃ n:Nat,a=(n:Int):=⟨a.toNat,by omega⟩
 intro x hx
 rw [VK] at hx
 rcases List.mem_or_eq_of_mem_set hx with h1 | h1
 ·exact h x h1
 ·rw [h1];exact hv
def V5 (x:I4) (mem:Mem):Mem :=
 if x.1=1 then Ur (α:=Int) 8 mem x.2.1 x.2.2.2
 else if x.1=2 then Ur (α:=Int) 8 mem x.2.1 (IntKind.i64.wrap (mg mem x.2.1+mg mem x.2.2.1))
 else if x.1=3 then Ur (α:=Int) 8 mem x.2.1 (IntKind.i64.wrap (mg mem x.2.1 - mg mem x.2.2.1))
 else if x.1=4 then Ur (α:=Int) 8 mem x.2.1 (IntKind.i64.wrap (mg mem x.2.1 * mg mem x.2.2.1))
 else if x.1=5 then Ur (α:=Int) 8 mem x.2.1 (TS (mg mem x.2.1) x.2.2.2)
 else if x.1=6 then Ur (α:=Int) 8 mem x.2.1 (LD (mg mem x.2.1) x.2.2.2)
 else mem
theorem aj1 {v n:Int} (h:KF v):KF (TS v n):=by
 unfold TS
 split
 ·exact h
 ·split
  ·exact EU _
  ·have p:(0:Int)<2 ^ (-n).toNat:=Int.pow_pos (by omega)
   unfold KF at *
   rw [Int.fdiv_eq_ediv_of_nonneg _ (by omega)]
   refine ⟨?_,?_⟩
   ·have h1:-9223372036854775808 * 2 ^ (-n).toNat <= v:=by
     have:(-9223372036854775808:Int) * 2 ^ (-n).toNat <= -9223372036854775808 * 1:=Int.mul_le_mul_of_nonpos_left (by omega) (by omega)
     omega
    exact Int.le_ediv_of_mul_le p h1
   ·by_cases hv:0 <= v
    ·exact Int.le_trans (Int.ediv_le_self _ hv) h.2
    ·have:=Int.ediv_neg_of_neg_of_pos (show v<0 by omega) p
     omega
theorem agL {v n:Int} (h1:1 <= n) (h2:n <= 64):KF (LD v n):=by
 obtain ⟨m,rfl⟩:∃ m:Nat,n=(m:Int):=⟨n.toNat,by omega⟩
 unfold LD
 rw [Int.toNat_natCast]
 have hp0:(0:Int)<2 ^ m:=Int.pow_pos (by omega)
 have hh:=Wm (n:=m) (by omega)
 have hr0:=Int.emod_nonneg v (show (2:Int) ^ m≠0 by omega)
 have hr1:=Int.emod_lt_of_pos v hp0
 have hmax:(2:Int) ^ m <= 18446744073709551616:=by
  have:(2:Nat) ^ m <= 2 ^ 64:=Nat.pow_le_pow_right (by omega) (by omega)
  have h2:((2 ^ m:Nat):Int)=(2:Int) ^ m:=by simp
  have h3:(2:Nat) ^ 64=18446744073709551616:=by decide
  omega
 unfold KF
 split <;> omega
theorem afu {x:I4} (h:lu x=true) (e:x.1=1):(0 <= x.2.1 /\ x.2.1<8) /\ x.2.2.1=0 /\ -2147483648 <= x.2.2.2 /\ x.2.2.2 <= 2147483647:=by
 simpa [lu,e,AL,DC] using h
theorem EW {x:I4} (h:lu x=true) (e:x.1=2 \/ x.1=3 \/ x.1=4):(0 <= x.2.1 /\ x.2.1<8) /\ (0 <= x.2.2.1 /\ x.2.2.1<8) /\ x.2.2.2=0:=by
 rcases e with e | e | e <;> simpa [lu,e,AL,DC] using h
theorem NP {x:I4} (h:lu x=true) (e:x.1=5):(0 <= x.2.1 /\ x.2.1<8) /\ x.2.2.1=0 /\ -63 <= x.2.2.2 /\ x.2.2.2 <= 63:=by
 simpa [lu,e,AL,DC] using h
theorem JX {x:I4} (h:lu x=true) (e:x.1=6):(0 <= x.2.1 /\ x.2.1<8) /\ x.2.2.1=0 /\ 1 <= x.2.2.2 /\ x.2.2.2 <= 64:=by
 simpa [lu,e,AL,DC] using h
theorem abn {x:I4} (h:lu x=true) (e:x.1=7):(0 <= x.2.1 /\ x.2.1<8) /\ x.2.2.1=0 /\ 1 <= x.2.2.2 /\ x.2.2.2 <= 24:=by
 simpa [lu,e,AL,DC] using h
theorem aj2 {x:I4} {mem:Mem} (hx:lu x=true) (h:inM mem):inM (V5 x mem):=by
 unfold V5
 split
 ·rename_i e;have:=afu hx e;exact IU h this.1.1 (by unfold KF;omega)
 ·split
  ·rename_i e;exact IU h (EW hx (.inl e)).1.1 (EU _)
  ·split
   ·rename_i e;exact IU h (EW hx (.inr (.inl e))).1.1 (EU _)
   ·split
    ·rename_i e;exact IU h (EW hx (.inr (.inr e))).1.1 (EU _)
    ·split
     ·rename_i e;exact IU h (NP hx e).1.1 (aj1 (an3 h _))
     ·split
      ·rename_i e;have:=JX hx e;exact IU h this.1.1 (agL this.2.2.1 this.2.2.2)
      ·exact h
def uf (pc:Int):List gu -> Int×List gu
 | []=>(pc,[])
 | r::rest=>if r.2.1<pc then (if r.2.2>0 then (r.1,(r.1,r.2.1,r.2.2 - 1)::rest) else uf pc rest) else (pc,r::rest)
def gU (x:I4) (pc:Int) (mem:Mem) (R:List gu):Int×List gu :=
 if x.1=0 then (pc,R)
 else if x.1=7 then (if mg mem x.2.1=0 then (pc+1+x.2.2.2,R) else (pc+1,R))
 else if x.1=8 then (pc+1,(pc+1,pc+x.2.2.1,x.2.2.2 - 1)::R)
 else (pc+1,R)
def go (x:I4) (pc:Int) (mem:Mem) (R:List gu):Int×List gu:=uf (gU x pc mem R).1 (gU x pc mem R).2
inductive Run (l:List I4):Nat -> Mem -> List gu -> List I4 -> Nat -> Mem -> List gu -> Prop
 | nil (n:Nat) (mem:Mem) (R:List gu):Run l n mem R [] n mem R
 | cons {n:Nat} {mem:Mem} {R:List gu} {x:I4} {n1:Nat} {R1:List gu} {tr:List I4} {n2:Nat} {mem2:Mem} {R2:List gu}:n<l.length -> l.getD n i0=x -> x.1≠0 -> R.length <= 2 -> (∀ r∈R,r.2.2 <= 1000) -> go x n mem R=((n1:Int),R1) -> (x.1=11 -> R1=[]) ->
   Run l n1 (V5 x mem) R1 tr n2 mem2 R2 -> Run l n mem R (x::tr) n2 mem2 R2
theorem Run.app {l:List I4} {n:Nat} {mem:Mem} {R:List gu} {t1:List I4} {n1:Nat} {mem1:Mem} {R1:List gu} {t2:List I4} {n2:Nat} {mem2:Mem} {R2:List gu} (h1:Run l n mem R t1 n1 mem1 R1) (h2:Run l n1 mem1 R1 t2 n2 mem2 R2):Run l n mem R (t1++t2) n2 mem2 R2:=by
 induction h1 with
 | nil=>exact h2
 | cons a b c d e f g _ ih=>exact .cons a b c d e f g (ih h2)
def rpt (f:Mem -> List I4×Mem):Nat -> Mem -> List I4×Mem
 | 0,m=>([],m)
 | n+1,m=>((f m).1++(rpt f n (f m).2).1,(rpt f n (f m).2).2)
def D7:Tr -> Mem -> List I4×Mem
 | .nil,m=>([],m)
 | .one x r,m=>(x::(D7 r (V5 x m)).1,(D7 r (V5 x m)).2)
 | .lk a b r,m=>((9,a,0,0)::((D7 b m).1++((10,a,0,0)::(D7 r (D7 b m).2).1)),(D7 r (D7 b m).2).2)
 | .ar x b r,m =>
  let p:=if x.1=7 then (if mg m x.2.1=0 then ([],m) else D7 b m) else rpt (D7 b) x.2.2.2.toNat m
  (x::(p.1++(D7 r p.2).1),(D7 r p.2).2)
def zx (l:List I4) (o:Nat) (mem:Mem) (R:List gu) (tr:List I4) (o2:Nat) (mem2:Mem) (R2:List gu):Prop :=
 ∀ (n1:Nat) (R1:List gu),uf (o:Int) R=((n1:Int),R1) -> ∃ (n2:Nat) (R3:List gu),uf (o2:Int) R2=((n2:Int),R3) /\ Run l n1 mem R1 tr n2 mem2 R3
theorem zx.nil {l:List I4} {o:Nat} {mem:Mem} {R:List gu}:zx l o mem R [] o mem R:=fun n1 R1 h=>⟨n1,R1,h,.nil _ _ _⟩
theorem zx.app {l:List I4} {o:Nat} {mem:Mem} {R:List gu} {t1:List I4} {o1:Nat} {mem1:Mem} {R1:List gu} {t2:List I4} {o2:Nat} {mem2:Mem} {R2:List gu} (h1:zx l o mem R t1 o1 mem1 R1) (h2:zx l o1 mem1 R1 t2 o2 mem2 R2):zx l o mem R (t1++t2) o2 mem2 R2:=fun n1 R3 h=>by
 obtain ⟨n2,R4,g1,g2⟩:=h1 n1 R3 h
 obtain ⟨n3,R5,g3,g4⟩:=h2 n2 R4 g1
 exact ⟨n3,R5,g3,g2.app g4⟩
def Cov (R:List gu) (e:Nat):Prop:=∀ r∈R.head?,(e:Int) <= r.2.1+1
theorem agN {R:List gu} {o:Nat} (h:Cov R (o+1)):uf (o:Int) R=((o:Int),R):=by
 cases R with
 | nil=>rfl
 | cons r R=>rw [uf,if_neg];have:=h r (by simp);omega
theorem zy {R:List gu} {a b:Nat} (h:Cov R a) (hb:b <= a):Cov R b:=fun r hr=>by have:=h r hr;omega
def Few (d:Nat) (ia:Bool) (R:List gu):Prop:=(R.length <= d /\ d <= 2) /\ (∀ r∈R,r.2.2 <= 1000) /\ (ia=false -> R=[]) /\ ∀ r∈R,0 <= r.1
theorem zx.step {l:List I4} {o:Nat} {mem:Mem} {R:List gu} {x:I4} {o1:Nat} {R1:List gu} (hn:o<l.length) (hx:l.getD o i0=x) (h0:x.1≠0) (hR:R.length <= 2) (hb:∀ r∈R,r.2.2 <= 1000) (hc:Cov R (o+1)) (hnx:gU x o mem R=((o1:Int),R1)) (hm:x.1=11 -> (uf (o1:Int) R1).2=[]) (hpos:0 <= (uf (o1:Int) R1).1) :
  zx l o mem R [x] o1 (V5 x mem) R1:=fun n1 R2 h=>by
 rw [agN hc] at h
 injection h with h1 h2
 subst h2
 have:n1=o:=by omega
 subst this
 refine ⟨(uf (o1:Int) R1).1.toNat,(uf (o1:Int) R1).2,?_,?_⟩
 ·exact Prod.ext (by simp only;omega) rfl
 ·refine .cons hn hx h0 hR hb ?_ hm (.nil _ _ _)
  unfold go
  rw [hnx]
  exact Prod.ext (by simp only;omega) rfl
theorem CF:∀ {R:List gu} {pc:Int},0 <= pc -> (∀ r∈R,0 <= r.1) -> 0 <= (uf pc R).1
 | [],_,h,_=>h
 | r::R,pc,h,hr=>by
  rw [uf]
  split
  ·split
   ·exact hr r List.mem_cons_self
   ·exact CF h (fun q hq=>hr q (List.mem_cons_of_mem _ hq))
  ·exact h
theorem zx.congr {l:List I4} {o:Nat} {mem:Mem} {R:List gu} {tr:List I4} {o2:Nat} {mem2:Mem} {R2:List gu} {o3:Nat} {R3:List gu} (h:zx l o mem R tr o2 mem2 R2) (e:uf (o2:Int) R2=uf (o3:Int) R3):zx l o mem R tr o3 mem2 R3:=fun n1 R1 g=>by
 obtain ⟨n2,R4,g1,g2⟩:=h n1 R1 g
 exact ⟨n2,R4,by rw [<- e];exact g1,g2⟩
theorem afv {l:List I4} {o:Nat} {R:List gu} {b:Tr} (hlen:1 <= b.len)
  (hb:∀ (mem:Mem) (m:Nat),m <= 20 -> zx l (o+1) mem ((((o+1:Nat):Int),((o+b.len:Nat):Int),(m:Int))::R) (D7 b mem).1 (o+1+b.len) (D7 b mem).2 ((((o+1:Nat):Int),((o+b.len:Nat):Int),(m:Int))::R)) :
  ∀ (m:Nat) (mem:Mem),m <= 20 -> zx l (o+1) mem ((((o+1:Nat):Int),((o+b.len:Nat):Int),(m:Int))::R) (rpt (D7 b) (m+1) mem).1 (o+1+b.len) (rpt (D7 b) (m+1) mem).2 R
 | 0,mem,hm=>by
  have h1:=hb mem 0 hm
  have h2:=h1.congr (o3:=o+1+b.len) (R3:=R) (by rw [uf,if_pos (by simp only;omega),if_neg (by simp)])
  simp only [rpt,List.append_nil]
  exact h2
 | m+1,mem,hm=>by
  have h1:=hb mem (m+1) hm
  have h2:=h1.congr (o3:=o+1) (R3:=(((o+1:Nat):Int),((o+b.len:Nat):Int),(m:Int))::R) (by
   rw [uf,if_pos (by simp only;omega),if_pos (by simp only;omega),uf,if_neg (by simp only;omega)]
   simp only [Prod.mk.injEq,List.cons.injEq,true_and,and_true];omega)
  have h3:=afv hlen hb m (D7 b mem).2 (by omega)
  have:=h2.app h3
  rw [rpt];exact this
theorem y9:∀ {t:Tr} {d:Nat} {hs:List Int} {ia:Bool} {l:List I4} {o:Nat} (mem:Mem) (R:List gu),Ok d hs ia t -> At l o t.flat -> Cov R (o+t.len) -> Few d ia R -> zx l o mem R (D7 t mem).1 (o+t.len) (D7 t mem).2 R
 | .nil,_,_,_,_,_,mem,R,_,_,_,_=>zx.nil
 | .one x r,d,_,ia,l,o,mem,R,⟨h1,h2,h3,h4⟩,ha,hc,hf=>by
  simp only [Tr.len] at hc ⊢
  obtain ⟨a1,a2,a3⟩:=l9 ha
  have ih:=y9 (V5 x mem) R h4 a3 (zy hc (by omega)) hf
  have hst:zx l o mem R [x] (o+1) (V5 x mem) R:=zx.step a1 a2 h2.1 (by have:=hf.1;omega) hf.2.1 (zy hc (by omega)) (by
   unfold gU;rw [if_neg h2.1,if_neg h2.2.1,if_neg h2.2.2.1];congr 1) (fun e=>by rw [hf.2.2.1 (h3 e).1];rfl) (CF (by omega) hf.2.2.2)
  rw [show o+(r.len+1)=o+1+r.len by omega]
  exact hst.app ih
 | .lk a b r,d,_,ia,l,o,mem,R,⟨h1,h2,h3,h4⟩,ha,hc,hf=>by
  simp only [Tr.len] at hc ⊢
  obtain ⟨a1,a2,a3⟩:=l9 ha
  obtain ⟨a4,a5⟩:=zq a3
  obtain ⟨a6,a7,a8⟩:=l9 a5
  rw [jv] at a6 a7 a8
  have s1:zx l o mem R [(9,a,0,0)] (o+1) mem R:=zx.step a1 a2 (by simp) (by have:=hf.1;omega) hf.2.1 (zy hc (by omega)) (by
   unfold gU;rw [if_neg (by simp),if_neg (by simp),if_neg (by simp)];congr 1) (fun e=>by simp at e) (CF (by omega) hf.2.2.2)
  have s2:=y9 mem R h3 a4 (zy hc (by omega)) hf
  have s3:zx l (o+1+b.len) (D7 b mem).2 R [(10,a,0,0)] (o+1+b.len+1) (D7 b mem).2 R:=zx.step a6 a7 (by simp) (by have:=hf.1;omega) hf.2.1 (zy hc (by omega)) (by
   unfold gU;rw [if_neg (by simp),if_neg (by simp),if_neg (by simp)];congr 1) (fun e=>by simp at e) (CF (by omega) hf.2.2.2)
  have s4:=y9 (D7 b mem).2 R h4 a8 (zy hc (by omega)) hf
  rw [show o+(b.len+r.len+2)=o+1+b.len+1+r.len by omega]
  have:=s1.app (s2.app (s3.app s4))
  exact this
 | .ar x b r,d,hs,ia,l,o,mem,R,⟨⟨h1,h2,h3⟩,h4,h5,h6⟩,ha,hc,hf=>by
  simp only [Tr.len] at hc ⊢
  obtain ⟨a1,a2,a3⟩:=l9 ha
  obtain ⟨a4,a5⟩:=zq a3
  rw [jv] at a5
  have hw:=y5 h1 h2
  have x0:x.1≠0:=fun e=>by simp [isA,e] at h2
  have x11:x.1≠11:=fun e=>by simp [isA,e] at h2
  rw [show o+(b.len+r.len+1)=o+1+b.len+r.len by omega]
  by_cases e7:x.1=7
  ·have heff:V5 x mem=mem:=by
    unfold V5;rw [if_neg (by omega),if_neg (by omega),if_neg (by omega),if_neg (by omega),if_neg (by omega),if_neg (by omega)]
   have e8:(x.1==8)=false:=by rw [e7];rfl
   rw [e8,cond_false] at h5
   have hN:=hw.2.2.2 e7
   have htr:D7 (.ar x b r) mem=(x::((if mg mem x.2.1=0 then (([]:List I4),mem) else D7 b mem).1++(D7 r (if mg mem x.2.1=0 then (([]:List I4),mem) else D7 b mem).2).1),(D7 r (if mg mem x.2.1=0 then (([]:List I4),mem) else D7 b mem).2).2):=by
    simp only [D7,if_pos e7]
   rw [htr]
   by_cases em:mg mem x.2.1=0
   ·simp only [if_pos em]
    have s1:zx l o mem R [x] (o+1+b.len) (V5 x mem) R:=zx.step a1 a2 x0 (by have:=hf.1;omega) hf.2.1 (zy hc (by omega)) (by
     unfold gU;rw [if_neg x0,if_pos e7,if_pos em];congr 1;omega) (fun e=>absurd e x11) (CF (by omega) hf.2.2.2)
    rw [heff] at s1
    have s4:=y9 mem R h6 a5 (zy hc (by omega)) hf
    exact s1.app s4
   ·simp only [if_neg em]
    have s1:zx l o mem R [x] (o+1) (V5 x mem) R:=zx.step a1 a2 x0 (by have:=hf.1;omega) hf.2.1 (zy hc (by omega)) (by
     unfold gU;rw [if_neg x0,if_pos e7,if_neg em];congr 1) (fun e=>absurd e x11) (CF (by omega) hf.2.2.2)
    rw [heff] at s1
    have hf2:Few d true R:=⟨hf.1,hf.2.1,fun e=>by (cases e),hf.2.2.2⟩
    have s2:=y9 mem R h5 a4 (zy hc (by omega)) hf2
    have s4:=y9 (D7 b mem).2 R h6 a5 (zy hc (by omega)) hf
    exact s1.app (s2.app s4)
  ·have e8:x.1=8:=by simp only [isA,Bool.or_eq_true,beq_iff_eq] at h2;omega
   have heff:V5 x mem=mem:=by
    unfold V5;rw [if_neg (by omega),if_neg (by omega),if_neg (by omega),if_neg (by omega),if_neg (by omega),if_neg (by omega)]
   have e8':(x.1==8)=true:=by rw [e8];rfl
   rw [e8',cond_true] at h5
   have hN:=acp h1 e8
   have hB:=hw.2.2.1 e8
   have hd:=h4 e8
   have htr:D7 (.ar x b r) mem=(x::((rpt (D7 b) x.2.2.2.toNat mem).1++(D7 r (rpt (D7 b) x.2.2.2.toNat mem).2).1),(D7 r (rpt (D7 b) x.2.2.2.toNat mem).2).2):=by
    simp only [D7,if_neg e7]
   rw [htr]
   have aqp:∀ m:Nat,m <= 20 -> Few (d+1) true ((((o+1:Nat):Int),((o+b.len:Nat):Int),(m:Int))::R):=fun m hm=>by
    obtain ⟨q1,q2,q3,q4⟩:=hf
    refine ⟨⟨by simp only [List.length_cons];omega,by omega⟩,fun r hr=>?_,fun e=>by (cases e),fun r hr=>?_⟩
    ·rcases List.mem_cons.1 hr with rfl | hr
     ·simp only;omega
     ·exact q2 r hr
    ·rcases List.mem_cons.1 hr with rfl | hr
     ·simp only;omega
     ·exact q4 r hr
   have s1:zx l o mem R [x] (o+1) (V5 x mem) ((((o+1:Nat):Int),((o+b.len:Nat):Int),((x.2.2.2.toNat - 1:Nat):Int))::R):=zx.step a1 a2 x0 (by have:=hf.1;omega) hf.2.1 (zy hc (by omega)) (by
    unfold gU;rw [if_neg x0,if_neg e7,if_pos e8]
    simp only [Prod.mk.injEq,List.cons.injEq,and_true];omega) (fun e=>absurd e x11) (CF (by omega) (aqp (x.2.2.2.toNat - 1) (by omega)).2.2.2)
   rw [heff] at s1
   have s2:=afv (l:=l) (o:=o) (R:=R) (b:=b) (by omega) (fun mem m hm=>y9 mem _ h5 a4 (fun r hr=>by
    simp only [List.head?_cons,Option.mem_def,Option.some.injEq] at hr
    subst hr;simp only;omega) (aqp m hm)) (x.2.2.2.toNat - 1) mem (by omega)
   rw [show x.2.2.2.toNat - 1+1=x.2.2.2.toNat by omega] at s2
   have s4:=y9 (rpt (D7 b) x.2.2.2.toNat mem).2 R h6 a5 (zy hc (by omega)) hf
   exact s1.app (s2.app s4)
theorem aj3 {t:Tr} (h:Ok 0 [] false t) (mem:Mem):Run t.prog 0 mem [] (D7 t mem).1 t.len (D7 t mem).2 []:=by
 have:=y9 (o:=0) mem [] h (IJ t) (fun r hr=>by (cases hr)) ⟨⟨by simp,by omega⟩,by simp,fun _=>rfl,by simp⟩
 obtain ⟨n2,R3,h1,h2⟩:=this 0 [] rfl
 rw [Nat.zero_add] at h1
 injection h1 with h3 h4
 subst h4
 have:n2=t.len:=by omega
 subst this
 exact h2
def hld:List Int -> List I4 -> Option (List Int)
 | hs,[]=>some hs
 | hs,x::r=>if x.1=9 then (if hs.length<2 /\ x.2.1 ∉ hs then hld (hs++[x.2.1]) r else none)
  else if x.1=10 then (if hs.getLast? = some x.2.1 then hld hs.dropLast r else none)
  else if x.1=11 then (if hs=[] then hld hs r else none)
  else hld hs r
theorem EX:∀ (a b:List I4) (hs:List Int),hld hs (a++b)=(hld hs a).bind (fun hs=>hld hs b)
 | [],b,hs=>rfl
 | x::a,b,hs=>by
  rw [List.cons_append,hld,hld]
  split
  ·split
   ·exact EX a b _
   ·rfl
  ·split
   ·split
    ·exact EX a b _
    ·rfl
   ·split
    ·split
     ·exact EX a b _
     ·rfl
    ·exact EX a b _
theorem afw {f:Mem -> List I4×Mem} {hs:List Int} (hf:∀ m,hld hs (f m).1=some hs):∀ (n:Nat) (m:Mem),hld hs (rpt f n m).1=some hs
 | 0,m=>rfl
 | n+1,m=>by rw [rpt,EX,hf m,Option.bind_some,afw hf n]
theorem D8:∀ {t:Tr} {d:Nat} {hs:List Int} {ia:Bool} (mem:Mem),Ok d hs ia t -> hld hs (D7 t mem).1=some hs
 | .nil,_,_,_,mem,_=>rfl
 | .one x r,_,_,_,mem,⟨_,h2,h3,h4⟩=>by
  simp only [D7]
  rw [hld,if_neg h2.2.2.2.1,if_neg h2.2.2.2.2]
  have:=D8 (V5 x mem) h4
  by_cases e:x.1=11
  ·rw [if_pos e,if_pos (h3 e).2];exact this
  ·rw [if_neg e];exact this
 | .lk a b r,_,hs,_,mem,⟨_,h2,h3,h4⟩=>by
  simp only [D7]
  rw [hld,if_pos rfl,if_pos ⟨h2.2,h2.1⟩,EX,D8 mem h3,Option.bind_some,hld,if_neg (by simp),if_pos rfl,if_pos (by simp)]
  simp only [List.dropLast_concat]
  exact D8 _ h4
 | .ar x b r,_,hs,_,mem,⟨h1,_,h3,h4⟩=>by
  have hA:=h1.2.1
  have e9:x.1≠9:=fun e=>by simp [isA,e] at hA
  have e10:x.1≠10:=fun e=>by simp [isA,e] at hA
  have e11:x.1≠11:=fun e=>by simp [isA,e] at hA
  have hb:=fun m=>D8 m h3
  simp only [D7]
  rw [hld,if_neg e9,if_neg e10,if_neg e11,EX]
  split
  ·split
   ·rw [hld,Option.bind_some];exact D8 _ h4
   ·rw [hb,Option.bind_some];exact D8 _ h4
  ·rw [afw hb,Option.bind_some];exact D8 _ h4
theorem TT {l:List I4}:∀ (a b i:Nat) (s:List Int×List Int),xu l (a+b) i s=(xu l a i s).bind (xu l b (i+a))
 | 0,b,i,s=>by rw [Nat.zero_add,xu];rfl
 | a+1,b,i,s=>by
  rw [show a+1+b=(a+b)+1 by omega,xu,xu]
  cases h:lq l i s with
  | none=>rfl
  | some t=>rw [Option.bind_some,Option.bind_some,TT a b (i+1) t,show i+1+a=i+(a+1) by omega]
theorem abo {l:List I4} {i:Nat} {s s':List Int×List Int} (hi:PrI l i s.1 s.2) (h:lq l i s=some s'):∀ k:Nat,k<i -> wm l 9 k -> (k:Int) ∉ s.2 -> s'.1.getD k 0=s.1.getD k 0 /\ (k:Int) ∉ s'.2:=by
 intro k hk h9 ho
 unfold lq at h
 split at h
 ·split at h
  ·cases h
  ·injection h with h;subst h
   refine ⟨rfl,fun h2=>?_⟩
   rcases List.mem_append.1 h2 with h2 | h2
   ·exact ho h2
   ·have:=List.mem_singleton.1 h2;omega
 ·split at h
  ·split at h
   ·cases h
   ·rename_i x hx
    split at h
    ·cases h
    ·injection h with h;subst h
     have hxm:=List.mem_of_getLast? hx
     have:=hi.small x hxm
     obtain ⟨n,rfl⟩:∃ n:Nat,x=(n:Int):=⟨x.toNat,by omega⟩
     refine ⟨?_,fun h2=>ho ((List.dropLast_sublist _).subset h2)⟩
     show (upd s.1 (n:Int) (i:Int)).getD k 0=_
     rw [Mj,ko,if_neg]
     rintro ⟨rfl,_⟩
     exact ho hxm
  ·injection h with h;subst h;exact ⟨rfl,ho⟩
theorem IV {l:List I4}:∀ (m i:Nat) (s s':List Int×List Int),i+m <= l.length -> PrI l i s.1 s.2 -> xu l m i s=some s' -> ∀ k:Nat,k<i -> wm l 9 k -> (k:Int) ∉ s.2 -> s'.1.getD k 0=s.1.getD k 0
 | 0,i,s,s',_,_,h,k,_,_,_=>by injection h with h;subst h;rfl
 | m+1,i,s,s',hm,hi,h,k,hk,h9,ho=>by
  rw [xu,Option.bind_eq_some_iff] at h
  obtain ⟨t,h1,h2⟩:=h
  have:=abo hi h1 k hk h9 ho
  rw [IV m (i+1) t s' (by omega) (GL (by omega) hi h1) h2 k (by omega) h9 this.2,this.1]
theorem aqr {l:List I4} {ps:List Int} (h:prs l=some ps) {n:Nat} (hn:n <= l.length):∃ s:List Int×List Int,PrI l n s.1 s.2 /\ xu l (l.length - n) n s=some (ps,[]) /\ ∀ k,k<n -> wm l 9 k -> ((k:Int)∈s.2↔(n:Int) <= ps.getD k 0):=by
 have hg:=acn h
 have h0:PrI l 0 (List.replicate l.length 0) []:=⟨by simp,List.Pairwise.nil,(fun _ h=>by cases h),(fun _ h=>by cases h),fun _ h=>by omega,fun _ _ _ h=>by omega,fun _ _ _ h=>by omega,rfl⟩
 rw [show l.length=n+(l.length - n) by omega,TT,Nat.zero_add,Option.bind_eq_some_iff] at hg
 obtain ⟨s,h1,h2⟩:=hg
 have hinv:∀ (m i:Nat) (s s':List Int×List Int),i+m <= l.length -> PrI l i s.1 s.2 -> xu l m i s=some s' -> PrI l (i+m) s'.1 s'.2:=by
  intro m
  induction m with
  | zero=>intro i s s' _ hi h;injection h with h;subst h;exact hi
  | succ m ih =>
   intro i s s' hm hi h
   rw [xu,Option.bind_eq_some_iff] at h
   obtain ⟨t,h1,h2⟩:=h
   have:=ih (i+1) t s' (by omega) (GL (by omega) hi h1) h2
   rw [show i+(m+1)=i+1+m by omega];exact this
 have hln:n+(l.length - n)=l.length:=by omega
 rw [hln] at h1
 have hs:=hinv n 0 _ s (by omega) h0 h1
 rw [Nat.zero_add] at hs
 refine ⟨s,hs,h2,fun k hk h9=>?_⟩
 constructor
 ·intro ho
  -- it is closed behind
  have hfin:=YB h
  obtain ⟨u,g1,g2,g3,_⟩:=hfin.closed k (by omega) h9 (by simp)
  rw [g1]
  have key:∀ (m i:Nat) (s s':List Int×List Int),i+m <= l.length -> PrI l i s.1 s.2 -> xu l m i s=some s' -> (k:Int)∈s.2 -> (k:Int)∈s'.2 \/ (i:Int) <= s'.1.getD k 0:=by
   intro m
   induction m with
   | zero=>intro i s s' _ _ h ho;injection h with h;subst h;exact .inl ho
   | succ m ih =>
    intro i s s' hm hi h ho
    rw [xu,Option.bind_eq_some_iff] at h
    obtain ⟨t,h1,h2⟩:=h
    have hi':=GL (by omega) hi h1
    by_cases e:(k:Int)∈t.2
    ·rcases ih (i+1) t s' (by omega) hi' h2 e with q | q
     ·exact .inl q
     ·exact .inr (by omega)
    ·right
     have hkl:=hi.small _ ho
     rw [IV m (i+1) t s' (by omega) hi' h2 k (by omega) h9 e]
     -- it was closed at i
     unfold lq at h1
     split at h1
     ·split at h1
      ·cases h1
      ·injection h1 with h1;subst h1
       exact absurd (List.mem_append_left _ ho) e
     ·split at h1
      ·split at h1
       ·cases h1
       ·rename_i x hx
        split at h1
        ·cases h1
        ·injection h1 with h1;subst h1
         have hxm:=hi.small x (List.mem_of_getLast? hx)
         obtain ⟨n',rfl⟩:∃ n':Nat,x=(n':Int):=⟨x.toNat,by omega⟩
         have hlen:=hi.len
         show (i:Int) <= (upd s.1 (n':Int) (i:Int)).getD k 0
         have hkn:n'=k:=by
          by_cases hq:n'=k
          ·exact hq
          ·exfalso;apply e
           obtain ⟨r,hr⟩:∃ r,s.2=r++[(n':Int)]:=by
            rcases List.eq_nil_or_concat s.2 with e | ⟨r,y,e⟩
            ·rw [e] at hx;cases hx
            ·rw [List.concat_eq_append] at e
             rw [e] at hx;simp at hx;subst hx;exact ⟨r,e⟩
           show (k:Int)∈s.2.dropLast
           rw [hr] at ho ⊢
           rw [List.dropLast_concat]
           rcases List.mem_append.1 ho with h | h
           ·exact h
           ·have:=List.mem_singleton.1 h;omega
         rw [Mj,ko,if_pos ⟨hkn,by omega⟩];omega
      ·injection h1 with h1;subst h1;exact absurd ho e
  rcases key (l.length - n) n s (ps,[]) (by omega) hs h2 ho with q | q
  ·cases q
  ·simp only at q;omega
 ·intro hge
  by_cases ho:(k:Int)∈s.2
  ·exact ho
  ·obtain ⟨u,g1,g2,g3,_⟩:=hs.closed k hk h9 ho
   have:=IV (l.length - n) n s (ps,[]) (by omega) hs h2 k hk h9 ho
   simp only at this
   omega
structure Prs (l:List I4) (ps:List Int):Prop where
 lock:∀ n,n<l.length -> wm l 9 n -> ∃ u:Nat,ps.getD n 0=(u:Int) /\ n<u /\ u<l.length /\ wm l 10 u /\ yc l u=yc l n
 nest:∀ k j,k<j -> j<l.length -> wm l 9 k -> wm l 9 j -> (j:Int)<ps.getD k 0 -> ps.getD j 0<ps.getD k 0 /\ yc l k≠yc l j
 two:∀ a b n,a<b -> b<n -> n<l.length -> wm l 9 a -> wm l 9 b -> wm l 9 n -> (n:Int)<ps.getD a 0 -> (n:Int)<ps.getD b 0 -> False
 unlock:∀ u,u<l.length -> wm l 10 u -> ∃ n,n<u /\ wm l 9 n /\ ps.getD n 0=(u:Int)
 area:∀ n,n<l.length -> wm l 9 n -> ∀ u:Nat,ps.getD n 0=(u:Int) -> GK l n u=false
theorem agO {l:List I4} {ps:List Int} (h:prs l=some ps):Prs l ps:=by
 have hf:=YB h
 have aj4:∀ n,n<l.length -> ∃ s t:List Int×List Int,PrI l n s.1 s.2 /\ lq l n s=some t /\ PrI l (n+1) t.1 t.2 /\ xu l (l.length - (n+1)) (n+1) t=some (ps,[]) /\ ∀ k,k<n -> wm l 9 k -> ((k:Int)∈s.2↔(n:Int) <= ps.getD k 0):=fun n hn=>by
  obtain ⟨s,h1,h2,h3⟩:=aqr h (n:=n) (by omega)
  rw [show l.length - n=(l.length - (n+1))+1 by omega,xu,Option.bind_eq_some_iff] at h2
  obtain ⟨t,h4,h5⟩:=h2
  exact ⟨s,t,h1,h4,GL hn h1 h4,h5,h3⟩
 have unl:∀ u,u<l.length -> wm l 10 u -> ∃ n,n<u /\ wm l 9 n /\ ps.getD n 0=(u:Int) /\ GK l n u=false:=fun u hu h10=>by
  obtain ⟨s,t,h1,h2,h3,h4,h5⟩:=aj4 u hu
  have agJ:(l.getD u i0).1=10:=h10
  unfold lq at h2
  rw [if_neg (by rw [agJ];decide),if_pos agJ] at h2
  split at h2
  ·cases h2
  ·rename_i x hx
   split at h2
   ·cases h2
   ·rename_i hc
    injection h2 with h2;subst h2
    have hxm:=List.mem_of_getLast? hx
    have hsm:=h1.small x hxm
    obtain ⟨n,rfl⟩:∃ n:Nat,x=(n:Int):=⟨x.toNat,by omega⟩
    have hl:=h1.lock n hxm
    have hlen:=h1.len
    refine ⟨n,by omega,hl,?_,?_⟩
    ·have hno:(n:Int) ∉ s.2.dropLast:=by
      have hsort:=h1.sorted
      obtain ⟨r,hr⟩:∃ r,s.2=r++[(n:Int)]:=by
       rcases List.eq_nil_or_concat s.2 with e | ⟨r,y,e⟩
       ·rw [e] at hx;cases hx
       ·rw [List.concat_eq_append] at e
        rw [e] at hx;simp at hx;subst hx;exact ⟨r,e⟩
      rw [hr,List.pairwise_append] at hsort
      rw [hr,List.dropLast_concat]
      intro e
      have:=hsort.2.2 _ e (n:Int) (by simp);omega
     have:=IV (l.length - (u+1)) (u+1) (upd s.1 (n:Int) (u:Int),s.2.dropLast) (ps,[]) (by omega) h3 h4 n (by omega) hl hno
     simp only at this
     rw [this,Mj,ko,if_pos ⟨rfl,by omega⟩]
    ·cases hs:GK l n u with
     | false=>rfl
     | true=>exact absurd (.inr (by rw [Int.toNat_natCast];exact hs)) hc
 refine ⟨fun n hn h9=>?_,fun k j hkj hj h1 h2 h3=>?_,fun a b n hab hbn hn h1 h2 h3 h4 h5=>?_,fun u hu h10=>?_,fun n hn h9 u hu=>?_⟩
 ·exact hf.closed n hn h9 (by simp)
 ·obtain ⟨_,q2,q3⟩:=hf.nest k j hkj hj h1 h2 (by simp) h3
  exact ⟨q2,q3⟩
 ·obtain ⟨s,t,g1,g2,_,_,g5⟩:=aj4 n hn
  have ha:=(g5 a (by omega) h1).2 (by omega)
  have hb:=(g5 b hbn h2).2 (by omega)
  have h9:(l.getD n i0).1=9:=h3
  unfold lq at g2
  rw [if_pos h9] at g2
  split at g2
  ·cases g2
  ·rename_i hc
   have hlt:s.2.length<2:=by
    by_cases e:s.2.length<2
    ·exact e
    ·exact absurd (.inl (by omega)) hc
   match hs:s.2,ha,hb,hlt with
   | [],ha,_,_=>cases ha
   | [y],ha,hb,_ =>
    have e1:=List.mem_singleton.1 ha
    have e2:=List.mem_singleton.1 hb
    omega
   | y::z::r,_,_,hlt=>simp only [List.length_cons] at hlt;omega
 ·obtain ⟨n,q1,q2,q3,_⟩:=unl u hu h10
  exact ⟨n,q1,q2,q3⟩
 ·obtain ⟨u',g1,g2,g3,g4,_⟩:=hf.closed n hn h9 (by simp)
  have:u'=u:=by omega
  subst this
  obtain ⟨n',q1,q2,q3,q4⟩:=unl u' g3 g4
  by_cases e:n'=n
  ·subst e;exact q4
  ·exfalso
   by_cases lt:n'<n
   ·have:=(hf.nest n' n lt hn q2 h9 (by simp) (by omega)).2.1;omega
   ·have:=(hf.nest n n' (by omega) (by omega) h9 q2 (by simp) (by omega)).2.1;omega
theorem YG {l:List I4} (hm:∀ x∈l,lu x=true) (hl:l.length <= 900) {a b c:Nat} {j:Int} (hab:a<b) (hbc:b<c) (hc:c<l.length) (h:∀ n,n=a \/ n=b \/ n=c -> (l.getD n i0).1=8 /\ (n:Int)<j /\ j <= n+wd (l.getD n i0)):3 <= gq j (mq 0 l):=by
 have one:∀ n,n=a \/ n=b \/ n=c -> gq j (pc n (l.getD n i0))=1:=fun n hn=>by
  obtain ⟨h8,h1,h2⟩:=h n hn
  have hlt:n<l.length:=by omega
  have hA:isA (l.getD n i0)=true:=by simp only [isA,h8];rfl
  rw [JQ (hm _ (jl hlt)) (by omega),if_pos hA,gq,List.countP_cons,List.countP_nil]
  have e3:(mh n (l.getD n i0)).2.2.2=true:=by simp only [mh,h8];rfl
  rw [e3,show o9 (mh n (l.getD n i0)) j=true by rw [o7];simp only [mh];omega];rfl
 have up:∀ n,n<l.length -> gq j (mq 0 (l.take (n+1)))=gq j (mq 0 (l.take n))+gq j (pc n (l.getD n i0)):=fun n hn=>by
  have:l.take (n+1)=l.take n++[l.getD n i0]:=by rw [List.take_add_one,getD_in hn,List.getElem?_eq_getElem hn];rfl
  rw [this,EN,NK,List.length_take,Nat.zero_add,show min n l.length=n by omega]
  simp [mq]
 have mono:∀ d n,n+d <= l.length -> gq j (mq 0 (l.take n)) <= gq j (mq 0 (l.take (n+d))):=fun d=>by
  induction d with
  | zero=>intro n _;simp
  | succ d ih=>intro n hn;have:=ih n (by omega);rw [show n+(d+1)=n+d+1 by omega,up (n+d) (by omega)];omega
 have h1:=up a (by omega)
 have h2:=up b (by omega)
 have h3:=up c (by omega)
 rw [one a (.inl rfl)] at h1
 rw [one b (.inr (.inl rfl))] at h2
 rw [one c (.inr (.inr rfl))] at h3
 have m1:=mono (b - (a+1)) (a+1) (by omega)
 have m2:=mono (c - (b+1)) (b+1) (by omega)
 have m3:=mono (l.length - (c+1)) (c+1) (by omega)
 rw [show a+1+(b - (a+1))=b by omega] at m1
 rw [show b+1+(c - (b+1))=c by omega] at m2
 rw [show c+1+(l.length - (c+1))=l.length by omega,List.take_length] at m3
 omega
def ig (l:List I4) (o e:Nat):Nat -> Prop
 | 0=>True
 | 1=>∃ a,a<o /\ wm l 8 a /\ e <= a+wd (l.getD a i0)+1
 | 2=>∃ a b,a<b /\ b<o /\ wm l 8 a /\ wm l 8 b /\ e <= a+wd (l.getD a i0)+1 /\ e <= b+wd (l.getD b i0)+1
 | _+3=>False
def Hd (l:List I4) (ps:List Int) (o e:Nat) (hs:List Int):Prop:=∃ H:List Nat,hs=H.map (yc l) /\ H.Pairwise (·<·) /\ ∀ k∈H,k<o /\ wm l 9 k /\ (e:Int) <= ps.getD k 0
theorem NQ {l:List I4} {o e o' e':Nat} (ho:o <= o') (he:e' <= e):∀ {d:Nat},ig l o e d -> ig l o' e' d
 | 0,_=>trivial
 | 1,⟨a,h1,h2,h3⟩=>⟨a,by omega,h2,by omega⟩
 | 2,⟨a,b,h1,h2,h3,h4,h5,h6⟩=>⟨a,b,h1,by omega,h3,h4,by omega,by omega⟩
 | _+3,h=>h.elim
theorem NR {l:List I4} {ps:List Int} {o e o' e':Nat} {hs:List Int} (ho:o <= o') (he:e' <= e) (h:Hd l ps o e hs):Hd l ps o' e' hs:=by
 obtain ⟨H,h1,h2,h3⟩:=h
 exact ⟨H,h1,h2,fun k hk=>by obtain ⟨q1,q2,q3⟩:=h3 k hk;exact ⟨by omega,q2,by omega⟩⟩
theorem TU {l:List I4} {o:Nat} {x:I4} {w:List I4} (hx:l.getD o i0=x) (hl:o<l.length) (h:At l (o+1) w):At l o (x::w):=by
 obtain ⟨h1,h2⟩:=h
 refine ⟨by simp only [List.length_cons];omega,fun j hj=>?_⟩
 cases j with
 | zero=>simpa using hx
 | succ j =>
  simp only [List.length_cons] at hj
  rw [List.getD_cons_succ,<- h2 j (by omega)];congr 1;omega
theorem acw {l:List I4} {o:Nat} {u w:List I4} (h1:At l o u) (h2:At l (o+u.length) w):At l o (u++w):=by
 obtain ⟨a1,a2⟩:=h1
 obtain ⟨b1,b2⟩:=h2
 refine ⟨by simp only [List.length_append];omega,fun j hj=>?_⟩
 simp only [List.length_append] at hj
 by_cases e:j<u.length
 ·rw [oo e,a2 j e]
 ·rw [lg (by omega),<- b2 (j - u.length) (by omega)];congr 1;omega
theorem aj5 {x:I4} (h:lu x=true):x.1=0 \/ x.1=7 \/ x.1=8 \/ x.1=9 \/ x.1=10 \/ plain x:=by unfold plain;omega
theorem amg {x:I4} (h:lu x=true) (e:x.1=9 \/ x.1=10):(0 <= x.2.1 /\ x.2.1 <= 3) /\ x.2.2.1=0 /\ x.2.2.2=0:=by
 rcases e with e | e <;> simpa [lu,e,AL] using h
theorem parse {l:List I4} {ps:List Int} (g:C9 l ps) (P:Prs l ps):∀ (len o d:Nat) (hs:List Int) (ia:Bool),o+len<l.length -> (∀ n,o <= n -> n<o+len -> n+wd (l.getD n i0)<o+len) ->
  (∀ n,o <= n -> n<o+len -> wm l 9 n -> ps.getD n 0<((o+len:Nat):Int)) -> (∀ n u:Nat,o <= u -> u<o+len -> wm l 9 n -> ps.getD n 0=(u:Int) -> o <= n) ->
  ig l o (o+len) d -> Hd l ps o (o+len) hs -> (ia=true -> ∃ a,a<o /\ isA (l.getD a i0)=true /\ o+len <= a+wd (l.getD a i0)+1) ->
  ∃ t:Tr,t.len=len /\ At l o t.flat /\ Ok d hs ia t:=by
 have hl2:=g.len2
 intro len
 induction len using Nat.strongRecOn with
 | _ len ih =>
 intro o d hs ia hlen S1 S2 S3 hB hH hI
 match len,ih,hlen,S1,S2,S3,hB,hH,hI with
 | 0,_,_,_,_,_,_,_,_=>exact ⟨.nil,rfl,⟨by simp [Tr.flat];omega,by simp [Tr.flat]⟩,trivial⟩
 | len+1,ih,hlen,S1,S2,S3,hB,hH,hI =>
 have hol:o<l.length:=by omega
 have hm:=g.may _ (jl (z:=i0) hol)
 rcases aj5 hm with e | e | e | e | e | e
 ·exact absurd ((g.end_ o hol).1 e) (by omega)
 ·-- a reach
  have hA:isA (l.getD o i0)=true:=by simp only [isA,e];rfl
  have hw:=y5 hm hA
  have h1:=S1 o (by omega) (by omega)
  obtain ⟨n,hn⟩:∃ n,n=wd (l.getD o i0):=⟨_,rfl⟩
  rw [<- hn] at h1 hw
  have inb:∀ n',o<n' -> n' <= o+n -> n'+wd (l.getD n' i0) <= o+n:=fun n' q1 q2=>(by have:=afx g hA (n:=n') (by omega) (by rw [<- hn];exact ⟨q1,q2⟩);omega)
  obtain ⟨b,b1,b2,b3⟩:=ih n (by omega) (o+1) d hs true (by omega) (fun n' q1 q2=>by have:=inb n' (by omega) (by omega);omega)
   (fun n' q1 q2 q3=>(by have:=IW g P hA (n:=n') (by omega) q3 (by omega) (by omega);omega))
   (fun n' u q1 q2 q3 q4=>GQ g P hA q3 q4 (by omega) (by omega))
   (NQ (by omega) (by omega) hB) (NR (by omega) (by omega) hH) (fun _=>⟨o,by omega,hA,by omega⟩)
  obtain ⟨r,r1,r2,r3⟩:=ih (len - n) (by omega) (o+1+n) d hs ia (by omega) (fun n' q1 q2=>by have:=S1 n' (by omega) (by omega);omega)
   (fun n' q1 q2 q3=>by have:=S2 n' (by omega) (by omega) q3;omega)
   (fun n' u q1 q2 q3 q4=>by
    have:=S3 n' u (by omega) (by omega) q3 q4
    by_cases f:n'=o
    ·subst f;exact absurd (show (l.getD n' i0).1=9 from q3) (by omega)
    ·by_cases f2:n' <= o+n
     ·have:=IW g P hA (by omega) q3 (show o<n' by omega) (by omega);omega
     ·omega)
   (NQ (by omega) (by omega) hB) (NR (by omega) (by omega) hH) (fun q=>by obtain ⟨a,a1,a2,a3⟩:=hI q;exact ⟨a,by omega,a2,by omega⟩)
  refine ⟨.ar (l.getD o i0) b r,by simp only [Tr.len];omega,?_,⟨hm,hA,by omega⟩,fun e2=>by omega,?_,r3⟩
  ·simp only [Tr.flat]
   exact TU rfl hol (acw b2 (by rw [jv,b1];exact r2))
  ·rw [show ((l.getD o i0).1==8)=false by rw [e];rfl];exact b3
 ·-- a body
  have hA:isA (l.getD o i0)=true:=by simp only [isA,e];rfl
  have hw:=y5 hm hA
  have h1:=S1 o (by omega) (by omega)
  obtain ⟨n,hn⟩:∃ n,n=wd (l.getD o i0):=⟨_,rfl⟩
  rw [<- hn] at h1 hw
  have inb:∀ n',o<n' -> n' <= o+n -> n'+wd (l.getD n' i0) <= o+n:=fun n' q1 q2=>(by have:=afx g hA (n:=n') (by omega) (by rw [<- hn];exact ⟨q1,q2⟩);omega)
  have hd:d<2 /\ ig l (o+1) (o+1+n) (d+1):=by
   match d,hB with
   | 0,_=>exact ⟨by omega,o,by omega,e,by omega⟩
   | 1,⟨a,a1,a2,a3⟩=>exact ⟨by omega,a,o,a1,by omega,a2,e,by omega,by omega⟩
   | 2,⟨a,b,a1,a2,a3,a4,a5,a6⟩ =>
    have:=YG g.may (by omega) (a:=a) (b:=b) (c:=o) (j:=((o+1:Nat):Int)) a1 a2 hol (fun n' hn'=>by
     rcases hn' with rfl | rfl | rfl
     ·exact ⟨a3,by omega,by omega⟩
     ·exact ⟨a4,by omega,by omega⟩
     ·exact ⟨e,by omega,by omega⟩)
    have:=g.bodies (o+1) (by omega)
    omega
   | _+3,h=>exact h.elim
  obtain ⟨b,b1,b2,b3⟩:=ih n (by omega) (o+1) (d+1) hs true (by omega) (fun n' q1 q2=>by have:=inb n' (by omega) (by omega);omega)
   (fun n' q1 q2 q3=>(by have:=IW g P hA (n:=n') (by omega) q3 (by omega) (by omega);omega))
   (fun n' u q1 q2 q3 q4=>GQ g P hA q3 q4 (by omega) (by omega))
   hd.2 (NR (by omega) (by omega) hH) (fun _=>⟨o,by omega,hA,by omega⟩)
  obtain ⟨r,r1,r2,r3⟩:=ih (len - n) (by omega) (o+1+n) d hs ia (by omega) (fun n' q1 q2=>by have:=S1 n' (by omega) (by omega);omega)
   (fun n' q1 q2 q3=>by have:=S2 n' (by omega) (by omega) q3;omega)
   (fun n' u q1 q2 q3 q4=>by
    have:=S3 n' u (by omega) (by omega) q3 q4
    by_cases f:n'=o
    ·subst f;exact absurd (show (l.getD n' i0).1=9 from q3) (by omega)
    ·by_cases f2:n' <= o+n
     ·have:=IW g P hA (by omega) q3 (show o<n' by omega) (by omega);omega
     ·omega)
   (NQ (by omega) (by omega) hB) (NR (by omega) (by omega) hH) (fun q=>by obtain ⟨a,a1,a2,a3⟩:=hI q;exact ⟨a,by omega,a2,by omega⟩)
  refine ⟨.ar (l.getD o i0) b r,by simp only [Tr.len];omega,?_,⟨hm,hA,by omega⟩,fun _=>hd.1,?_,r3⟩
  ·simp only [Tr.flat]
   exact TU rfl hol (acw b2 (by rw [jv,b1];exact r2))
  ·rw [show ((l.getD o i0).1==8)=true by rw [e];rfl];exact b3
 ·-- a pair
  obtain ⟨u,u1,u2,u3,u4,u5⟩:=P.lock o hol e
  have hu:=S2 o (by omega) (by omega) e
  rw [u1] at hu
  have h9:=amg hm (.inl e)
  have hmu:=amg (g.may _ (jl (z:=i0) u3)) (.inr u4)
  have hxo:l.getD o i0=(9,yc l o,0,0):=Prod.ext e (Prod.ext rfl (Prod.ext h9.2.1 h9.2.2))
  have hxu:l.getD u i0=(10,yc l o,0,0):=Prod.ext u4 (Prod.ext u5 (Prod.ext hmu.2.1 hmu.2.2))
  have hsep:=(II g.may (by omega)).1 (P.area o hol e u u1)
  obtain ⟨H,H1,H2,H3⟩:=hH
  have hnot:yc l o ∉ hs:=by
   rw [H1];intro hq
   obtain ⟨k,k1,k2⟩:=List.mem_map.1 hq
   obtain ⟨k3,k4,k5⟩:=H3 k k1
   exact (P.nest k o k3 hol k4 e (by omega)).2 k2
  have arE:hs.length<2:=by
   rw [H1,List.length_map]
   match H,H2,H3 with
   | [],_,_=>simp
   | [a],_,_=>simp
   | a::b::q,H2,H3 =>
    exfalso
    obtain ⟨a1,a2,a3⟩:=H3 a (by simp)
    obtain ⟨b1,b2,b3⟩:=H3 b (by simp)
    have hab:a<b:=(List.pairwise_cons.1 H2).1 b (by simp)
    exact P.two a b o hab b1 hol a2 b2 e (by omega) (by omega)
  obtain ⟨b,b1,b2,b3⟩:=ih (u - (o+1)) (by omega) (o+1) d (hs++[yc l o]) ia (by omega) (fun n' q1 q2=>by
    by_cases hA:isA (l.getD n' i0)=true
    ·have:=hsep n' (by omega) hA
     by_cases f:n'+wd (l.getD n' i0)<o+1+(u - (o+1))
     ·exact f
     ·have:=this.2 ⟨by omega,by omega⟩;omega
    ·rw [vk (by simpa using hA)];omega)
   (fun n' q1 q2 q3=>by have:=(P.nest o n' (by omega) (by omega) e q3 (by omega)).1;omega)
   (fun n' v q1 q2 q3 q4=>by
    have:=S3 n' v (by omega) (by omega) q3 q4
    by_cases f:n'=o
    ·subst f;omega
    ·omega)
   (NQ (by omega) (by omega) hB) ⟨H++[o],by rw [H1,List.map_append];rfl,by
    rw [List.pairwise_append]
    exact ⟨H2,List.pairwise_singleton _ _,fun a ha b hb=>by rw [List.mem_singleton.1 hb];exact (H3 a ha).1⟩,fun k hk=>by
    rcases List.mem_append.1 hk with hk | hk
    ·obtain ⟨k1,k2,k3⟩:=H3 k hk;exact ⟨by omega,k2,by omega⟩
    ·rw [List.mem_singleton.1 hk];exact ⟨by omega,e,by omega⟩⟩ (fun q=>by obtain ⟨a,a1,a2,a3⟩:=hI q;exact ⟨a,by omega,a2,by omega⟩)
  obtain ⟨r,r1,r2,r3⟩:=ih (o+len - u) (by omega) (u+1) d hs ia (by omega) (fun n' q1 q2=>by have:=S1 n' (by omega) (by omega);omega)
   (fun n' q1 q2 q3=>by have:=S2 n' (by omega) (by omega) q3;omega)
   (fun n' v q1 q2 q3 q4=>by
    have:=S3 n' v (by omega) (by omega) q3 q4
    by_cases f:n'=o
    ·subst f;omega
    ·by_cases f2:n'<u
     ·have:=(P.nest o n' (by omega) (by omega) e q3 (by omega)).1;omega
     ·by_cases f3:n'=u
      ·subst f3;exact absurd (show (l.getD n' i0).1=9 from q3) (by rw [show (l.getD n' i0).1=10 from u4];decide)
      ·omega)
   (NQ (by omega) (by omega) hB) (NR (by omega) (by omega) ⟨H,H1,H2,H3⟩) (fun q=>by obtain ⟨a,a1,a2,a3⟩:=hI q;exact ⟨a,by omega,a2,by omega⟩)
  refine ⟨.lk (yc l o) b r,by simp only [Tr.len];omega,?_,h9.1,⟨hnot,arE⟩,b3,r3⟩
  simp only [Tr.flat]
  refine TU hxo hol (acw b2 ?_)
  rw [jv,b1,show o+1+(u - (o+1))=u by omega]
  exact TU hxu u3 r2
 ·-- an unlock whose lock stands ahead of all
  obtain ⟨n',q1,q2,q3⟩:=P.unlock o hol e
  have:=S3 n' o (by omega) (by omega) q2 q3
  omega
 ·-- a plain one
  obtain ⟨r,r1,r2,r3⟩:=ih len (by omega) (o+1) d hs ia (by omega) (fun n' q1 q2=>by have:=S1 n' (by omega) (by omega);omega)
   (fun n' q1 q2 q3=>by have:=S2 n' (by omega) (by omega) q3;omega)
   (fun n' v q1 q2 q3 q4=>by
    have:=S3 n' v (by omega) (by omega) q3 q4
    by_cases f:n'=o
    ·subst f;exact absurd q3 e.2.2.2.1
    ·omega)
   (NQ (by omega) (by omega) hB) (NR (by omega) (by omega) hH) (fun q=>by obtain ⟨a,a1,a2,a3⟩:=hI q;exact ⟨a,by omega,a2,by omega⟩)
  refine ⟨.one (l.getD o i0) r,by simp only [Tr.len];omega,TU rfl hol r2,hm,e,fun e11=>?_,r3⟩
  obtain ⟨m1,m2⟩:=g.marks o hol e11
  constructor
  ·cases ia with
   | false=>rfl
   | true =>
    exfalso
    obtain ⟨a,a1,a2,a3⟩:=hI rfl
    rw [List.any_eq_false] at m1
    have:=m1 (mh a (l.getD a i0)) ((l7 l 0 _ g.may (by omega)).2 ⟨a,by omega,a2,by rw [Nat.zero_add]⟩)
    rw [o7] at this
    simp only [mh] at this
    omega
  ·obtain ⟨H,H1,H2,H3⟩:=hH
   cases H with
   | nil=>exact H1
   | cons k q =>
    exfalso
    obtain ⟨k1,k2,k3⟩:=H3 k (by simp)
    have:=m2 k k1
    omega
where
 afx {l:List I4} {ps:List Int} (g:C9 l ps) {o n:Nat} (hA:isA (l.getD o i0)=true) (hn:n<l.length) (h:o<n /\ n <= o+wd (l.getD o i0)):n+wd (l.getD n i0) <= o+wd (l.getD o i0):=by
  have hl2:=g.len2
  by_cases hB:isA (l.getD n i0)=true
  ·have:=g.bad (mh n (l.getD n i0)) ((l7 l 0 _ g.may (by omega)).2 ⟨n,hn,hB,by rw [Nat.zero_add]⟩) (mh o (l.getD o i0)) ((l7 l 0 _ g.may (by omega)).2 ⟨o,by omega,hA,by rw [Nat.zero_add]⟩)
   unfold J7 at this
   rw [Bool.or_eq_false_iff] at this
   have h2:=this.1
   have hq:o9 (mh o (l.getD o i0)) (mh n (l.getD n i0)).2.2.1=true:=o7.2 (by simp only [mh];omega)
   rw [hq,Bool.true_and,Bool.not_eq_false'] at h2
   unfold inA at h2
   rw [Bool.and_eq_true,o7,o7] at h2
   simp only [mh] at h2
   omega
  ·rw [vk (by simpa using hB)];omega
 IW {l:List I4} {ps:List Int} (g:C9 l ps) (P:Prs l ps) {o n:Nat} (hA:isA (l.getD o i0)=true) (hn:n<l.length) (h9:wm l 9 n) (h1:o<n) (h2:n <= o+wd (l.getD o i0)):ps.getD n 0<((o+wd (l.getD o i0)+1:Nat):Int):=by
  have hl2:=g.len2
  obtain ⟨u,u1,_⟩:=P.lock n hn h9
  have:=(II g.may (by omega)).1 (P.area n hn h9 u u1) o (by omega) hA
  have:=this.1 ⟨h1,h2⟩
  omega
 GQ {l:List I4} {ps:List Int} (g:C9 l ps) (P:Prs l ps) {o n u:Nat} (hA:isA (l.getD o i0)=true) (h9:wm l 9 n) (hu:ps.getD n 0=(u:Int)) (h1:o+1 <= u) (h2:u <= o+wd (l.getD o i0)):o+1 <= n:=by
  have hl2:=g.len2
  have hn:n<l.length:=by
   by_cases f:n<l.length
   ·exact f
   ·have:l.getD n i0=i0:=DT (by omega)
    unfold wm at h9;rw [this] at h9;exact absurd h9 (by decide)
  have hol:o<l.length:=by
   by_cases f:o<l.length
   ·exact f
   ·rw [DT (by omega)] at hA;exact absurd hA (by decide)
  have:=(II g.may (by omega)).1 (P.area n hn h9 u hu) o hol hA
  have:=this.2 ⟨by omega,h2⟩
  omega
theorem LG {l:List I4} (h:yj l=true):∃ t:Tr,Ok 0 [] false t /\ l=t.prog /\ t.len<24:=by
 obtain ⟨ps,g⟩:=L9.1 h
 have hl1:=g.len1
 have hl2:=g.len2
 have P:=agO g.pairs
 have hlast:(l.getD (l.length - 1) i0).1=0:=(g.end_ (l.length - 1) (by omega)).2 (by omega)
 obtain ⟨t,t1,t2,t3⟩:=parse g P (l.length - 1) 0 0 [] false (by omega) (fun n h1 h2=>by
   by_cases hA:isA (l.getD n i0)=true
   ·have:=g.last (mh n (l.getD n i0)) ((l7 l 0 _ g.may (by omega)).2 ⟨n,by omega,hA,by rw [Nat.zero_add]⟩)
    have e:(mh n (l.getD n i0)).2.1=((n+wd (l.getD n i0):Nat):Int):=rfl
    omega
   ·rw [vk (by simpa using hA)];omega)
  (fun n h1 h2 h9=>by
   obtain ⟨u,u1,u2,u3,u4,_⟩:=P.lock n (by omega) h9
   have:u≠l.length - 1:=fun e=>by
    subst e
    rw [show (l.getD (l.length - 1) i0).1=10 from u4] at hlast;exact absurd hlast (by decide)
   omega) (fun n u _ _ _ _=>by omega) trivial ⟨[],rfl,List.Pairwise.nil,fun k hk=>by cases hk⟩ (fun e=>by cases e)
 have hz:l.getD (l.length - 1) i0=i0:=by
  have:=g.may _ (jl (z:=i0) (l:=l) (i:=l.length - 1) (by omega))
  have h3:(l.getD (l.length - 1) i0).2.1=0 /\ (l.getD (l.length - 1) i0).2.2.1=0 /\ (l.getD (l.length - 1) i0).2.2.2=0:=by
   generalize l.getD (l.length - 1) i0=x at this hlast
   simpa [lu,hlast] using this
  exact Prod.ext hlast (Prod.ext h3.1 (Prod.ext h3.2.1 h3.2.2))
 refine ⟨t,t3,?_,by omega⟩
 have hpl:=xg t
 apply List.ext_getElem (by omega)
 intro n h1 h2
 rw [<- getD_in (z:=i0) h1,<- getD_in (z:=i0) h2]
 by_cases e:n<t.len
 ·have:=t2.2 n (by rw [jv];exact e)
  rw [Nat.zero_add] at this
  rw [this]
  unfold Tr.prog
  rw [oo (by rw [jv];exact e)]
 ·have:n=l.length - 1:=by omega
  subst this
  rw [hz,show l.length - 1=t.len by omega,DU]
abbrev amh (a:Int):Mem:=(a,0,0,0,0,0,0,0)
theorem ami (a:Int) (h:KF a):inM (amh a):=by
 intro x hx
 simp only [Gv,List.mem_cons,List.not_mem_nil,or_false] at hx
 rcases hx with rfl | rfl | rfl | rfl | rfl | rfl | rfl | rfl
 ·exact h
 all_goals exact ⟨by omega,by omega⟩
theorem CG {x y:Int} (q:Int) (h:x=y+q * 18446744073709551616):IntKind.i64.wrap x=IntKind.i64.wrap y:=by
 obtain ⟨q2,h2⟩:=TR y
 refine amf (EU _) (q2 - q) ?_
 rw [h2,h];grind
theorem OZ (x:Int):∃ q:Int,IntKind.u64.wrap x=x+q * 18446744073709551616:=⟨-(x / 18446744073709551616),by rw [TN];omega⟩
theorem w_u (x:Int):IntKind.i64.wrap (IntKind.u64.wrap x)=IntKind.i64.wrap x:=by
 obtain ⟨q,h⟩:=OZ x
 exact CG q h
theorem aqs (a b:Int):IntKind.i64.wrap (IntKind.u64.wrap (IntKind.u64.wrap a+IntKind.u64.wrap b))=IntKind.i64.wrap (a+b):=by
 rw [w_u]
 obtain ⟨q1,h1⟩:=OZ a
 obtain ⟨q2,h2⟩:=OZ b
 exact CG (q1+q2) (by rw [h1,h2];grind)
theorem aqt (a b:Int):IntKind.i64.wrap (IntKind.u64.wrap (IntKind.u64.wrap a - IntKind.u64.wrap b))=IntKind.i64.wrap (a - b):=by
 rw [w_u]
 obtain ⟨q1,h1⟩:=OZ a
 obtain ⟨q2,h2⟩:=OZ b
 exact CG (q1 - q2) (by rw [h1,h2];grind)
theorem aqu (a b:Int):IntKind.i64.wrap (IntKind.u64.wrap (IntKind.u64.wrap a * IntKind.u64.wrap b))=IntKind.i64.wrap (a * b):=by
 rw [w_u]
 obtain ⟨q1,h1⟩:=OZ a
 obtain ⟨q2,h2⟩:=OZ b
 exact CG (q1 * b+q2 * a+q1 * q2 * 18446744073709551616) (by rw [h1,h2];grind)
theorem ao5 (a c:Int):IntKind.i64.wrap (IntKind.u64.wrap (IntKind.u64.wrap a * c))=IntKind.i64.wrap (a * c):=by
 rw [w_u]
 obtain ⟨q1,h1⟩:=OZ a
 exact CG (q1 * c) (by rw [h1];grind)
theorem arF {v:Int} (h:KF v):IntKind.i64.wrap v=v:=Uu h.1 h.2
theorem QO {R:Type} {b:Int} {x:Option R} (h:0 <= b):Uj b x=x:=by unfold Uj;rw [if_neg (by omega)]
theorem amj (k:Nat) {v n:Int} (hv:KF v) (h1:-63 <= n) (h2:n <= 63):alH k v n=some ((TS v n,()),()):=by
 unfold alH TS
 rw [Sd (by omega),Sd (by omega)]
 by_cases e:n<0
 ·rw [Sc e,if_neg (by omega),if_neg (by omega),Uu (n:=0 - n) (by omega) (by omega),QO (by omega)]
  unfold Ul
  have:min (0 - n).toNat IntKind.i64.bits=(-n).toNat:=by
   have:IntKind.i64.bits=64:=rfl
   omega
  rw [this]
 ·rw [Sd e,QO (by omega)]
  unfold Uk
  have:min n.toNat IntKind.u64.bits=n.toNat:=by
   have:IntKind.u64.bits=64:=rfl
   omega
  rw [this,ao5]
  by_cases e0:n=0
  ·subst e0;rw [if_pos rfl];simp [arF hv]
  ·rw [if_neg e0,if_pos (by omega)]
theorem agP {n:Nat} (h1:1 <= n) (h:n <= 64):(9223372036854775808:Int)=2 ^ (n - 1) * 2 ^ (64 - n):=by
 rw [<- Int.pow_add,show n - 1+(64 - n)=63 by omega];decide
theorem amk (k:Nat) {v n:Int} (h1:1 <= n) (h2:n <= 64):alI k v n=some ((LD v n,()),()):=by
 unfold alI
 rw [Sd (by omega),Sd (by omega),Uu (n:=64 - n) (by omega) (by omega),QO (by omega),QO (by omega)]
 obtain ⟨m,rfl⟩:∃ m:Nat,n=(m:Int):=⟨n.toNat,by omega⟩
 unfold Ul Uk LD
 have e:min ((64:Int) - (m:Int)).toNat IntKind.i64.bits=64 - m:=by
  have:IntKind.i64.bits=64:=rfl
  omega
 rw [e,Int.toNat_natCast]
 obtain ⟨q,hq⟩:=TR (v * 2 ^ (64 - m))
 have hin:=EU (v * 2 ^ (64 - m))
 rw [hq] at hin ⊢
 have hs0:(0:Int)<2 ^ (64 - m):=Int.pow_pos (by omega)
 have hn0:(0:Int)<2 ^ m:=Int.pow_pos (by omega)
 have hh:=Wm (n:=m) (by omega)
 have hp:=agP (n:=m) (by omega) (by omega)
 have hd:=ajZ (n:=m) (by omega)
 have arG:v * 2 ^ (64 - m)+q * 18446744073709551616=(v+q * 2 ^ m) * 2 ^ (64 - m):=by rw [hd];grind
 rw [arG] at hin ⊢
 rw [Int.fdiv_eq_ediv_of_nonneg _ (by omega),Int.mul_ediv_cancel _ (by omega)]
 have hmod:v % 2 ^ m=(v+q * 2 ^ m) % 2 ^ m:=by rw [Int.add_mul_emod_self_right]
 rw [hmod]
 generalize v+q * 2 ^ m=r at *
 unfold KF at hin
 have hr1:r<2 ^ (m - 1):=by
  by_cases f:r<2 ^ (m - 1)
  ·exact f
  ·have:=Int.mul_le_mul_of_nonneg_right (show (2:Int) ^ (m - 1) <= r by omega) (show (0:Int) <= 2 ^ (64 - m) by omega)
   omega
 have hr2:-(2 ^ (m - 1)) <= r:=by
  by_cases f:-(2 ^ (m - 1)) <= r
  ·exact f
  ·have h3:=Int.mul_le_mul_of_nonneg_right (show r <= -(2 ^ (m - 1)) - 1 by omega) (show (0:Int) <= 2 ^ (64 - m) by omega)
   have h4:(-(2 ^ (m - 1)) - 1) * (2:Int) ^ (64 - m) = -(2 ^ (m - 1) * 2 ^ (64 - m)) - 2 ^ (64 - m):=by grind
   omega
 congr 3
 by_cases f:0 <= r
 ·rw [Int.emod_eq_of_lt f (by omega),if_neg (by omega)]
 ·have:r % 2 ^ m=r+2 ^ m:=by
   rw [<- Int.add_emod_right,Int.emod_eq_of_lt (by omega) (by omega)]
  rw [this,if_pos (by omega)];omega
theorem Wn {k:Nat} {pc a b c d e f g h:Int} {ov:Bool} {t1 t2 t3 t4 t5 t6 t7 t8 t9:Int} {t10:Bool}:∀ (R:List gu) (j:Nat),R.length<j -> R.length <= 900 -> (∀ r∈R,r.2.2 <= 1000) ->
  Ye k j pc a b c d e f g h R.reverse ov t1 t2 t3 t4 t5 t6 t7 t8 t9 t10 (R.length:Int)=some ((((uf pc R).1,(a,b,c,d,e,f,g,h),(uf pc R).2.reverse,ov),()),())
 | [],j,hj,_,_=>by
  obtain ⟨j',rfl⟩:∃ j',j=j'+1:=⟨j - 1,by omega⟩
  rw [aaU,Yd,Sd (by simp)]
  rfl
 | r::R,j,hj,hl,hb=>by
  obtain ⟨j',rfl⟩:∃ j',j=j'+1:=⟨j - 1,by omega⟩
  simp only [List.length_cons] at hj hl
  have hlen:((R.reverse++[r]).length:Int)=(R.length:Int)+1:=by simp
  have hw:IntKind.i64.wrap (((r::R).length:Int) - 1)=(R.length:Int):=by simp only [List.length_cons];rw [Uu (by omega) (by omega)];omega
  have hrd:rd (R.reverse++[r]) (R.length:Int) (0,0,0)=r:=by rw [Qp,lg (by simp)];simp
  have htk:(R.reverse++[r]).take (R.length:Int).toNat=R.reverse:=by
   rw [Int.toNat_natCast,List.take_append_of_le_length (by simp)];exact List.take_of_length_le (by simp)
  have hup:∀ q:gu,upd (R.reverse++[r]) (R.length:Int) q=R.reverse++[q]:=fun q=>by
   rw [Mj,List.set_append_right _ _ (by simp)];simp
  have hr:=hb r List.mem_cons_self
  rw [List.reverse_cons,aaU,Yd,hw,Sc (by simp only [List.length_cons];omega),Lj (by omega) (by omega),hrd,htk,uf]
  by_cases e1:r.2.1<pc
  ·rw [Sc e1,if_pos e1,Lj (by omega) (by omega),Rx (by omega) (by omega) (by omega),hup]
   by_cases e2:r.2.2>0
   ·rw [Sc e2,if_pos e2,Uu (by omega) (by omega),List.reverse_cons]
   ·rw [Sd e2,if_neg e2,List.length_reverse]
    exact Wn R j' (by omega) (by omega) (fun q hq=>hb q (List.mem_cons_of_mem _ hq))
  ·rw [Sd e1,if_neg e1,List.reverse_cons]
theorem ao6 {x:I4} (h:lu x=true):(0 <= x.2.1 /\ x.2.1<8) /\ 0 <= x.2.2.1:=by
 have h0:x.1=0 \/ x.1=11 -> x.2.1=0 /\ x.2.2.1=0:=fun e=>by
  rcases e with e | e <;> (have:x.2.1=0 /\ x.2.2.1=0 /\ x.2.2.2=0:=by simpa [lu,e] using h) <;> exact ⟨this.1,this.2.1⟩
 by_cases e0:x.1=0 \/ x.1=11
 ·have:=h0 e0;omega
 by_cases e1:x.1=1
 ·have:=afu h e1;omega
 by_cases e2:x.1=2 \/ x.1=3 \/ x.1=4
 ·have:=EW h e2;omega
 by_cases e5:x.1=5
 ·have:=NP h e5;omega
 by_cases e6:x.1=6
 ·have:=JX h e6;omega
 by_cases e7:x.1=7
 ·have:=abn h e7;omega
 by_cases e8:x.1=8
 ·have:=acp h e8;omega
 by_cases e9:x.1=9 \/ x.1=10
 ·have:=amg h e9;omega
 exfalso
 have a0:(x.1==0)=false:=by rw [beq_eq_false_iff_ne];omega
 have a1:(x.1==11)=false:=by rw [beq_eq_false_iff_ne];omega
 have a2:(x.1==1)=false:=by rw [beq_eq_false_iff_ne];omega
 have a3:(x.1==2)=false:=by rw [beq_eq_false_iff_ne];omega
 have a4:(x.1==3)=false:=by rw [beq_eq_false_iff_ne];omega
 have a5:(x.1==4)=false:=by rw [beq_eq_false_iff_ne];omega
 have a6:(x.1==5)=false:=by rw [beq_eq_false_iff_ne];omega
 have a7:(x.1==6)=false:=by rw [beq_eq_false_iff_ne];omega
 have a8:(x.1==7)=false:=by rw [beq_eq_false_iff_ne];omega
 have a9:(x.1==8)=false:=by rw [beq_eq_false_iff_ne];omega
 have b0:(x.1==9)=false:=by rw [beq_eq_false_iff_ne];omega
 have b1:(x.1==10)=false:=by rw [beq_eq_false_iff_ne];omega
 simp [lu,a0,a1,a2,a3,a4,a5,a6,a7,a8,a9,b0,b1] at h
theorem aml {k:Nat} (hk:1000 <= k) {l:List I4} {n:Nat} {mem:Mem} {R:List gu} (hl:l.length <= 900) (hn:n<l.length) (hx:lu (l.getD n i0)=true) (hR:R.length <= 100) (hb:∀ r∈R,r.2.2 <= 1000) (hm:inM mem) :
  ajm k l ((n:Int),mem,R.reverse,false)=some ((((go (l.getD n i0) n mem R).1,V5 (l.getD n i0) mem,(go (l.getD n i0) n mem R).2.reverse,(l.getD n i0).1==0),l.getD n i0,true,()),()):=by
 unfold ajm acg ab0
 simp only
 rw [cond_false,Sd (by omega),Sd (by omega),Qo hn,Qp,ae9,Option.bind_some,hx]
 simp only [Bool.not_true,cond_false]
 rw [Ll (by simp only [List.length_reverse];omega)]
 simp only [Option.bind_some]
 rw [Qo hn,Qp]
 generalize l.getD n i0=x at hx ⊢
 have hab:=ao6 hx
 have htp:0 <= Int.tmod x.2.2.1 8 /\ Int.tmod x.2.2.1 8<((8:Nat):Int):=⟨Int.tmod_nonneg _ hab.2,Int.tmod_lt_of_pos _ (by omega)⟩
 rw [Rw hab.1.1 hab.1.2,Rw htp.1 htp.2]
 have key:∀ (pc:Int) (mem':Mem) (R':List gu) (ov:Bool),R'.length <= 900 -> (∀ r∈R',r.2.2 <= 1000) -> ((KY k pc mem'.1 mem'.2.1 mem'.2.2.1 mem'.2.2.2.1 mem'.2.2.2.2.1 mem'.2.2.2.2.2.1 mem'.2.2.2.2.2.2.1 mem'.2.2.2.2.2.2.2 R'.reverse ov).bind fun q=>some ((q.1.1,x,true,()),()))=some ((((uf pc R').1,mem',(uf pc R').2.reverse,ov),x,true,()),()):=fun pc mem' R' ov h1 h2=>by
  unfold KY
  rw [List.length_reverse,Wn R' k (by omega) h1 h2]
  rfl
 have htm:0 <= x.2.2.1 /\ x.2.2.1<8 -> Int.tmod x.2.2.1 8=x.2.2.1:=fun h=>Int.tmod_eq_of_lt h.1 h.2
 unfold go gU V5
 rw [Uu (n:=(n:Int)+1) (by omega) (by omega)]
 by_cases e0:x.1=0
 ·rw [show (x.1==0)=true by rw [e0];rfl,cond_true,if_pos e0,if_neg (by omega),if_neg (by omega),if_neg (by omega),if_neg (by omega),if_neg (by omega),if_neg (by omega)]
  exact key _ _ _ _ (by omega) hb
 rw [show (x.1==0)=false by simpa using e0,cond_false,if_neg e0]
 by_cases e1:x.1=1
 ·rw [show (x.1==1)=true by rw [e1];rfl,cond_true,if_neg (by omega),if_neg (by omega),if_pos e1]
  exact key _ _ _ _ (by omega) hb
 rw [show (x.1==1)=false by simpa using e1,cond_false,if_neg e1]
 by_cases e2:x.1=2
 ·have:=EW hx (.inl e2)
  rw [show (x.1==2)=true by rw [e2];rfl,cond_true,if_neg (by omega),if_neg (by omega),if_pos e2,htm this.2.1,aqs]
  exact key _ _ _ _ (by omega) hb
 rw [show (x.1==2)=false by simpa using e2,cond_false,if_neg e2]
 by_cases e3:x.1=3
 ·have:=EW hx (.inr (.inl e3))
  rw [show (x.1==3)=true by rw [e3];rfl,cond_true,if_neg (by omega),if_neg (by omega),if_pos e3,htm this.2.1,aqt]
  exact key _ _ _ _ (by omega) hb
 rw [show (x.1==3)=false by simpa using e3,cond_false,if_neg e3]
 by_cases e4:x.1=4
 ·have:=EW hx (.inr (.inr e4))
  rw [show (x.1==4)=true by rw [e4];rfl,cond_true,if_neg (by omega),if_neg (by omega),if_pos e4,htm this.2.1,aqu]
  exact key _ _ _ _ (by omega) hb
 rw [show (x.1==4)=false by simpa using e4,cond_false,if_neg e4]
 by_cases e5:x.1=5
 ·have:=NP hx e5
  rw [show (x.1==5)=true by rw [e5];rfl,cond_true,show Uq (α:=Int) 8 mem x.2.1 0=mg mem x.2.1 from rfl,amj k (an3 hm _) this.2.2.1 this.2.2.2,Option.bind_some,if_neg (by omega),if_neg (by omega),if_pos e5]
  exact key _ _ _ _ (by omega) hb
 rw [show (x.1==5)=false by simpa using e5,cond_false,if_neg e5]
 by_cases e6:x.1=6
 ·have:=JX hx e6
  rw [show (x.1==6)=true by rw [e6];rfl,cond_true,show Uq (α:=Int) 8 mem x.2.1 0=mg mem x.2.1 from rfl,amk k this.2.2.1 this.2.2.2,Option.bind_some,if_neg (by omega),if_neg (by omega),if_pos e6]
  exact key _ _ _ _ (by omega) hb
 rw [show (x.1==6)=false by simpa using e6,cond_false,if_neg e6]
 by_cases e7:x.1=7
 ·have:=abn hx e7
  rw [show (x.1==7)=true by rw [e7];rfl,cond_true,show Uq (α:=Int) 8 mem x.2.1 0=mg mem x.2.1 from rfl,if_pos e7]
  by_cases e:mg mem x.2.1=0
  ·rw [show (mg mem x.2.1==0)=true by rw [e];rfl,cond_true,if_pos e,Uu (by omega) (by omega)]
   exact key _ _ _ _ (by omega) hb
  ·rw [show (mg mem x.2.1==0)=false by simpa using e,cond_false,if_neg e]
   exact key _ _ _ _ (by omega) hb
 rw [show (x.1==7)=false by simpa using e7,cond_false,if_neg e7]
 by_cases e8:x.1=8
 ·have h8:=acp hx e8
  rw [show (x.1==8)=true by rw [e8];rfl,cond_true,if_pos e8,Rz (by simp only [List.length_reverse,List.length_cons,List.length_nil];omega),Uu (n:=(n:Int)+x.2.2.1) (by omega) (by omega),Uu (n:=x.2.2.2 - 1) (by omega) (by omega),<- List.reverse_cons]
  exact key _ _ _ _ (by simp only [List.length_cons];omega) (fun r hr=>by
   rcases List.mem_cons.1 hr with rfl | hr
   ·simp only;omega
   ·exact hb r hr)
 rw [show (x.1==8)=false by simpa using e8,cond_false,if_neg e8]
 exact key _ _ _ _ (by omega) hb
abbrev Th:Type:=Int×(Int×Int)×(Int×Int)×(List Int×List Int)×(Int×List (Int×Int))×Int
abbrev j3:Th:=(0,(0,0),(0,0),([],[]),(0,[]),0)
abbrev Tb:Type:=(List Int×List Bool)×List Th
def Wo (x:Th):Prop:=x.2.2.2.1.1.length <= 100 /\ x.2.2.2.1.2.length <= 100 /\ x.2.2.2.2.1.2.length <= 100
def uy (t:Tb):Prop:=(t.1.1.length <= 100 /\ t.1.2.length <= 100 /\ t.2.length <= 100) /\ ∀ x∈t.2,Wo x
theorem afy {k:Nat} {x:Th} (h:Wo x):aif k x=some ((x,()),()):=by
 obtain ⟨h1,h2,h3⟩:=h
 unfold aif
 simp only [G9,V7,aak,aal]
 rw [Ll (by omega),Option.bind_some,Ll (by omega),Option.bind_some,Ll (by omega),Option.bind_some]
 try rfl
theorem EY {k:Nat} (hk:1000 <= k) {t:Tb} (h:uy t):V8 k t=some ((t,()),()):=by
 obtain ⟨⟨h1,h2,h3⟩,h4⟩:=h
 unfold V8
 simp only [G9,V7,aak,aal]
 rw [Ll (by omega),Option.bind_some,Ll (by omega),Option.bind_some]
 have:=aa7 (L:=fun j (out:List Th) i=>MK k j t.1.1 t.1.2 out t.2 (t.2.length:Int) i) (n:=t.2.length) (fun i out=>out=t.2.take i)
  (fun i out=>out++[t.2.getD i j3]) (fun out=>some ((((t.1.1,t.1.2),out),()),()))
  (fun j i out hi hv=>by
   show MK k (j+1) t.1.1 t.1.2 out t.2 (t.2.length:Int) (i:Int)=_
   have hl:out.length <= 100:=by rw [hv,List.length_take];omega
   rw [aam,XB,Sc (by omega),Qo hi,Qp,afy (h4 _ (jl hi)),Option.bind_some,Rz (by simp only [List.length_cons,List.length_nil];omega),Mi (by omega)])
  (fun i out hi hv=>by rw [hv,List.take_add_one,getD_in hi,List.getElem?_eq_getElem hi];rfl)
  (fun j out hv=>by
   show MK k (j+1) t.1.1 t.1.2 out t.2 (t.2.length:Int) (t.2.length:Int)=_
   rw [aam,XB,Sd (by omega)]) t.2.length 0 k [] (by omega) (by omega) (by simp)
 have hg:=L6 (inv:=fun i (out:List Th)=>out=t.2.take i) (f:=fun i out=>out++[t.2.getD i j3]) (n:=t.2.length) (fun i out hi hv=>by rw [hv,List.take_add_one,getD_in hi,List.getElem?_eq_getElem hi];rfl) t.2.length 0 [] (by omega) (by simp)
 refine Eq.trans this ?_
 rw [hg,List.take_length]
def aj6 (x:Th):List Int:=([x.1,x.2.1.1,x.2.1.2,x.2.2.1.1,x.2.2.1.2,(x.2.2.2.1.1.length:Int)]++x.2.2.2.1.1++[(x.2.2.2.1.2.length:Int)]++x.2.2.2.1.2++[IntKind.i64.wrap x.2.2.2.2.1.1])++x.2.2.2.2.1.2.flatMap (fun w=>[w.1,IntKind.i64.wrap w.2])
theorem agQ (l:List (Int×Int)):(l.flatMap (fun w=>[w.1,IntKind.i64.wrap w.2])).length=2 * l.length:=by
 induction l with
 | nil=>rfl
 | cons x r ih=>simp only [List.flatMap_cons,List.length_append,ih,List.length_cons,List.length_nil];omega
theorem TV {k:Nat} {ws:List (Int×Int)} (hw:ws.length <= 100):∀ (m i j:Nat) (l:List Int),i+m=ws.length -> m<j -> l.length <= 1002+2 * i -> QE k j l ws (ws.length:Int) (i:Int)=XF k (l++(ws.drop i).flatMap (fun w=>[w.1,IntKind.i64.wrap w.2]))
 | 0,i,j,l,h,hj,hl=>by
  obtain ⟨j',rfl⟩:∃ j',j=j'+1:=⟨j - 1,by omega⟩
  rw [VA,QD,Sd (by omega),drop_nil (by omega),List.flatMap_nil,List.append_nil]
  cases XF k l <;> rfl
 | m+1,i,j,l,h,hj,hl=>by
  obtain ⟨j',rfl⟩:∃ j',j=j'+1:=⟨j - 1,by omega⟩
  rw [VA,QD,Sc (by omega),Qo (by omega),Qp,Rz (by simp only [List.length_cons,List.length_nil];omega),Mi (by omega),drop_cons (0,0) (show i<ws.length by omega),List.flatMap_cons,<- List.append_assoc]
  exact TV hw m (i+1) j' _ (by omega) (by omega) (by simp only [List.length_append,List.length_cons,List.length_nil];omega)
theorem Wp {k:Nat} (hk:1000 <= k) {x1 x2 x3 x4 x5 x8 x10:Int} {x6 x7:List Int} {ws:List (Int×Int)} {tw:List Int} (hw:ws.length <= 100) (ht:tw.length <= 100):∀ (m i j:Nat) (l:List Int),i+m=tw.length -> m<j -> l.length <= 500+i ->
  XH k j x1 x2 x3 x4 x5 x6 x7 x8 ws x10 l tw (tw.length:Int) (i:Int)=XF k (l++tw.drop i++[IntKind.i64.wrap x8]++ws.flatMap (fun w=>[w.1,IntKind.i64.wrap w.2]))
 | 0,i,j,l,h,hj,hl=>by
  obtain ⟨j',rfl⟩:∃ j',j=j'+1:=⟨j - 1,by omega⟩
  rw [aaq,XG,Sd (by omega),drop_nil (by omega),List.append_nil,Rz (by simp only [List.length_cons,List.length_nil];omega)]
  have:=TV (k:=k) hw ws.length 0 k (l++[IntKind.i64.wrap x8]) (by omega) (by omega) (by simp only [List.length_append,List.length_cons,List.length_nil];omega)
  rw [List.drop_zero] at this
  exact this
 | m+1,i,j,l,h,hj,hl=>by
  obtain ⟨j',rfl⟩:∃ j',j=j'+1:=⟨j - 1,by omega⟩
  rw [aaq,XG,Sc (by omega),Qo (by omega),Qp,Rz (by simp only [List.length_cons,List.length_nil];omega),Mi (by omega),Wp hk hw ht m (i+1) j' _ (by omega) (by omega) (by simp only [List.length_append,List.length_cons,List.length_nil];omega),drop_cons 0 (show i<tw.length by omega)]
  simp only [List.append_assoc,List.cons_append,List.nil_append]
theorem agR {k:Nat} (hk:1000 <= k) {x:Th} (h:Wo x):ab2 k x=XF k (aj6 x):=by
 obtain ⟨h1,h2,h3⟩:=h
 unfold ab2
 rw [Rz (by simp only [List.length_cons,List.length_nil];omega),Rz (by simp only [List.length_append,List.length_cons,List.length_nil];omega)]
 have:=Wp hk (x1:=x.1) (x2:=x.2.1.1) (x3:=x.2.1.2) (x4:=x.2.2.1.1) (x5:=x.2.2.1.2) (x8:=x.2.2.2.2.1.1) (x10:=x.2.2.2.2.2) (x6:=x.2.2.2.1.1) (x7:=x.2.2.2.1.2) h3 h2 x.2.2.2.1.2.length 0 k ([x.1,x.2.1.1,x.2.1.2,x.2.2.1.1,x.2.2.1.2,(x.2.2.2.1.1.length:Int)]++x.2.2.2.1.1++[(x.2.2.2.1.2.length:Int)]) (by omega) (by omega) (by simp only [List.length_append,List.length_cons,List.length_nil];omega)
 rw [List.drop_zero] at this
 exact this
theorem P7 {k:Nat} {g3:Int -> List Int -> Int -> Int -> Option ((Int×Unit)×Unit)} {l:List Int} {n i:Int}:∀ (m a j:Nat) (h u:Int),a+m=8 -> m<j -> ∃ v,XD k g3 j h u (a:Int) l n i=g3 v l n (IntKind.i64.wrap (i+1))
 | 0,a,j,h,u,ha,hj=>by
  obtain ⟨j',rfl⟩:∃ j',j=j'+1:=⟨j - 1,by omega⟩
  rw [aan,XC,Sd (by omega)]
  exact ⟨h,rfl⟩
 | m+1,a,j,h,u,ha,hj=>by
  obtain ⟨j',rfl⟩:∃ j',j=j'+1:=⟨j - 1,by omega⟩
  rw [aan,XC,Sc (by omega),Mi (by omega)]
  exact P7 m (a+1) j' _ _ (by omega) (by omega)
theorem P8 {k:Nat} (hk:1000 <= k) {l:List Int} (hl:l.length <= 100000):∀ (m i j:Nat) (h:Int),i+m=l.length -> m<j -> ∃ v,ML k j h l (l.length:Int) (i:Int)=some ((v,()),())
 | 0,i,j,h,ha,hj=>by
  obtain ⟨j',rfl⟩:∃ j',j=j'+1:=⟨j - 1,by omega⟩
  rw [aao,XE,Sd (by omega)]
  exact ⟨h,rfl⟩
 | m+1,i,j,h,ha,hj=>by
  obtain ⟨j',rfl⟩:∃ j',j=j'+1:=⟨j - 1,by omega⟩
  rw [aao,XE,Sc (by omega),Qo (by omega)]
  obtain ⟨v,hv⟩:=P7 (k:=k) (g3:=fun h t8 t9 t10=>ML k j' h t8 t9 t10) (l:=l) (n:=(l.length:Int)) (i:=(i:Int)) 8 0 k h (IntKind.u64.wrap (rd l (i:Int) 0)) (by omega) (by omega)
  obtain ⟨w,hw⟩:=P8 hk hl m (i+1) j' v (by omega) (by omega)
  refine ⟨w,Eq.trans hv ?_⟩
  show ML k j' v l (l.length:Int) (IntKind.i64.wrap ((i:Int)+1))=_
  rw [Mi (by omega)];exact hw
theorem agS {k:Nat} (hk:1000 <= k) {l:List Int} (hl:l.length<k) (hl2:l.length <= 100000):∃ v,XF k l=some ((v,()),()):=by
 unfold XF
 exact P8 hk hl2 l.length 0 k _ (by omega) (by omega)
theorem aj7 {x:Th} (h:Wo x):(aj6 x).length <= 500:=by
 obtain ⟨h1,h2,h3⟩:=h
 have:=agQ x.2.2.2.2.1.2
 unfold aj6
 simp only [List.length_append,List.length_cons,List.length_nil] at this ⊢
 omega
noncomputable def TY (k:Nat) (x:Th):Int:=match XF k (aj6 x) with | some q=>q.1.1 | none=>0
theorem YH {k:Nat} (hk:1000 <= k) {x:Th} (h:Wo x):ab2 k x=some ((TY k x,()),()):=by
 rw [agR hk h]
 have hl:=aj7 h
 obtain ⟨v,hv⟩:=agS hk (l:=aj6 x) (by omega) (by omega)
 unfold TY;rw [hv]
noncomputable def ug (k:Nat) (x:Th):Th:=(x.1,x.2.1,x.2.2.1,x.2.2.2.1,x.2.2.2.2.1,TY k x)
theorem YI {k:Nat} (hk:1000 <= k) {x:Th} (h:Wo x):ab3 k x=some ((ug k x,()),()):=by
 unfold ab3;rw [YH hk h];rfl
def DY (t:Tb) (i:Int):Bool:=decide (0 <= i)&&(decide (i<(t.2.length:Int))&&(rd t.2 i j3).1 != 0)
theorem QS {k:Nat} {t:Tb} {i:Int}:ab1 k t i=some ((DY t i,()),()):=by
 unfold ab1 DY
 by_cases h:0 <= i
 ·rw [Sc h,decide_eq_true h]
  by_cases h2:i<(t.2.length:Int)
  ·rw [Sc h2,decide_eq_true h2,Lj h h2];rfl
  ·rw [Sd h2,decide_eq_false h2];rfl
 ·rw [Sd h,decide_eq_false h];rfl
noncomputable def YJ (k:Nat) (w x:Th):Th :=
 if w.2.2.2.2.2=TY k w then ug k (w.1,w.2.1,x.2.2) else ((ug k (w.1,w.2.1,x.2.2)).1,(ug k (w.1,w.2.1,x.2.2)).2.1,(ug k (w.1,w.2.1,x.2.2)).2.2.1,(ug k (w.1,w.2.1,x.2.2)).2.2.2.1,(ug k (w.1,w.2.1,x.2.2)).2.2.2.2.1,Uo .u32 (ug k (w.1,w.2.1,x.2.2)).2.2.2.2.2)
noncomputable def EZ (k:Nat) (t:Tb) (i:Int) (x:Th):Tb:=if DY t i=true then (t.1,upd t.2 i (YJ k (rd t.2 i j3) x)) else t
theorem za {t:Tb} {i:Int} (h:DY t i=true):0 <= i /\ i<(t.2.length:Int) /\ (rd t.2 i j3).1≠0:=by
 unfold DY at h
 simp only [Bool.and_eq_true,decide_eq_true_eq,bne_iff_ne,ne_eq] at h
 exact ⟨h.1,h.2.1,h.2.2⟩
theorem NS {t:List Th} {i:Int} (h0:0 <= i) (h1:i<(t.length:Int)):rd t i j3∈t:=by
 obtain ⟨n,rfl⟩:∃ n:Nat,i=(n:Int):=⟨i.toNat,by omega⟩
 rw [Qp];exact jl (by omega)
theorem IX {k:Nat} (hk:1000 <= k) {t:Tb} {i:Int} {x:Th} (ht:uy t) (hx:Wo x):J5 k t i x=some ((EZ k t i x,()),()):=by
 unfold J5 EZ
 rw [EY hk ht,Option.bind_some,QS,Option.bind_some]
 cases h:DY t i with
 | false=>rfl
 | true =>
  obtain ⟨h0,h1,h2⟩:=za h
  have hw:Wo (rd t.2 i j3):=ht.2 _ (NS h0 h1)
  simp only [Bool.not_true,cond_false,if_true]
  rw [Lj h0 h1,afy (x:=((rd t.2 i j3).1,(rd t.2 i j3).2.1,x.2.2)) hx,Option.bind_some]
  simp only
  rw [YI hk (x:=((rd t.2 i j3).1,(rd t.2 i j3).2.1,x.2.2)) hx,Option.bind_some,YH hk hw,Option.bind_some,Lj h0 h1,Lj h0 h1]
  unfold YJ
  by_cases e:(rd t.2 i j3).2.2.2.2.2=TY k (rd t.2 i j3)
  ·rw [if_pos e,show ((rd t.2 i j3).2.2.2.2.2 != TY k (rd t.2 i j3))=false by simpa using e,cond_false]
   try rfl
  ·rw [if_neg e,show ((rd t.2 i j3).2.2.2.2.2 != TY k (rd t.2 i j3))=true by simpa using e,cond_true]
   try rfl
def aj8 (x:Th):Th:=(x.1,x.2.1,x.2.2.1,x.2.2.2.1,x.2.2.2.2.1,Uo .u32 x.2.2.2.2.2)
def CJ (t:Tb) (i:Int):Tb:=if DY t i=true then (t.1,upd t.2 i (aj8 (rd t.2 i j3))) else t
theorem amm {k:Nat} (hk:1000 <= k) {t:Tb} {i:Int} (ht:uy t):alR k t i=some ((CJ t i,DY t i,()),()):=by
 unfold alR CJ
 rw [EY hk ht,Option.bind_some,QS,Option.bind_some]
 cases h:DY t i with
 | false=>rfl
 | true =>
  obtain ⟨h0,h1,h2⟩:=za h
  simp only [Bool.not_true,cond_false,if_true]
  rw [Lj h0 h1,Lj h0 h1];rfl
def wo (x:Th):List Int:=x.2.2.2.1.2++x.2.2.2.2.1.2.map (·.1)
theorem amn {k:Nat} (hk:1000 <= k) {f:Int×List (Int×Int)} (h:f.2.length <= 100):aln k f=some (((0,[]),f.2.map (·.1),()),()):=by
 unfold aln
 have:=aa7 (L:=fun j (who:List Int) i=>MQ k j 0 who f.2 (f.2.length:Int) i) (n:=f.2.length) (fun i who=>who=(f.2.take i).map (·.1))
  (fun i who=>who++[(f.2.getD i (0,0)).1]) (fun who=>some ((((0,[]),who,()),())))
  (fun j i who hi hv=>by
   show MQ k (j+1) 0 who f.2 (f.2.length:Int) (i:Int)=_
   have hl:who.length <= 100:=by rw [hv,List.length_map,List.length_take];omega
   rw [aaI,Y0,Sc (by omega),Qo hi,Qp,Rz (by simp only [List.length_cons,List.length_nil];omega),Mi (by omega)])
  (fun i who hi hv=>by rw [hv,List.take_add_one,getD_in hi,List.getElem?_eq_getElem hi,List.map_append];rfl)
  (fun j who hv=>by
   show MQ k (j+1) 0 who f.2 (f.2.length:Int) (f.2.length:Int)=_
   rw [aaI,Y0,Sd (by omega)]) f.2.length 0 k [] (by omega) (by omega) (by simp)
 have hg:=L6 (inv:=fun i (who:List Int)=>who=(f.2.take i).map (·.1)) (f:=fun i who=>who++[(f.2.getD i (0,0)).1]) (n:=f.2.length) (fun i who hi hv=>by rw [hv,List.take_add_one,getD_in hi,List.getElem?_eq_getElem hi,List.map_append];rfl) f.2.length 0 [] (by omega) (by simp)
 refine Eq.trans this ?_
 rw [hg,List.take_length]
theorem amo {k:Nat} {b:List Int×List Int} (h:b.2.length <= 100):alm k b=some ((([],[]),b.2,()),()):=by
 unfold alm
 simp only [G9,V7,aak,aal]
 rw [Ll (by omega)];rfl
theorem amq {k:Nat} {n:Int} (h0:0 <= n) (h1:n <= 100000):alo k n=some (([],()),()):=by
 unfold alo
 rw [Sd (by omega),Uu (by omega) (by omega)]
 by_cases e:n - 0>0
 ·rw [Sc e]
  unfold az
  rw [if_pos]
  ·dsimp only
   rw [Rx (by omega) (by omega) (by omega)];simp
  ·simp only [Bool.and_eq_true,decide_eq_true_eq,List.length_nil];omega
 ·rw [Sd e]
theorem aj9 {k:Nat} (hk:1000 <= k) {a b:List Int} (ha:a.length <= 1000) (hb:b.length <= 1000):alp k [a,b]=some ((a++b,()),()):=by
 unfold alp
 obtain ⟨k',rfl⟩:∃ k',k=k'+3:=⟨k - 3,by omega⟩
 have e0:rd [a,b] 0 []=a:=rfl
 have e1:rd [a,b] 1 []=b:=rfl
 have w1:IntKind.i64.wrap (0+1)=1:=rfl
 have w2:IntKind.i64.wrap (1+1)=2:=rfl
 have hlen:(([a,b]:List (List Int)).length:Int)=2:=rfl
 rw [hlen,SN,SL,Sc (by omega),Lj (by omega) (by omega),e0,w1,Uu (by omega) (by omega),Sd (by omega),SN,SL,Sc (by omega),Lj (by omega) (by omega),e1,w2,Uu (by omega) (by omega),Sd (by omega),SN,SL,Sd (by omega),amq (by omega) (by omega),Option.bind_some,hlen]
 simp only
 rw [MR,KV,Sc (by omega),Lj (by omega) (by omega),e0,w1,Rz (by simp only [List.length_nil];omega),MR,KV,Sc (by omega),Lj (by omega) (by omega),e1,w2,Rz (by simp only [List.nil_append];omega),MR,KV,Sd (by omega),List.nil_append]
theorem afz {k:Nat} (hk:1000 <= k) {x:Th} (h:Wo x):agw k x=some ((wo x,()),()):=by
 obtain ⟨h1,h2,h3⟩:=h
 unfold agw wo
 rw [amo h2,Option.bind_some,amn hk h3,Option.bind_some]
 simp only
 rw [aj9 hk (by omega) (by rw [List.length_map];omega)];rfl
noncomputable def trn (k:Nat) (x:Th):Bool:=x.1 != 0&&x.2.2.2.2.2 != TY k x
noncomputable def frT (k:Nat) (x:Th):Th:=ug k (x.1,x.2.1,(if x.1=1 then x.2.2.1.1 else 0,0),([],[]),(0,[]),0)
noncomputable def Wq (k:Nat) (l:List Th):Nat -> Nat -> List Th×List Int×List (List Int) -> List Th×List Int×List (List Int)
 | 0,_,s=>s
 | m+1,i,s=>Wq k l m (i+1) (if trn k (l.getD i j3)=true then (s.1.set i (frT k (l.getD i j3)),s.2.1++[(i:Int)],s.2.2++[wo (l.getD i j3)]) else s)
theorem Ws {k:Nat} (hk:1000 <= k) {t:Tb} (ht:uy t):∀ (m i j:Nat) (s:List Th×List Int×List (List Int)),i+m=t.2.length -> m<j -> s.1.length=t.2.length -> s.2.1.length <= i -> s.2.2.length <= i ->
  SV k j t.1.1 t.1.2 t.2 t.1.1 t.1.2 s.1 s.2.1 s.2.2 t.2 (t.2.length:Int) (i:Int)=some (((t.1,(Wq k t.2 m i s).1),(Wq k t.2 m i s).2.1,(Wq k t.2 m i s).2.2,()),())
 | 0,i,j,s,h,hj,h1,h2,h3=>by
  obtain ⟨j',rfl⟩:∃ j',j=j'+1:=⟨j - 1,by omega⟩
  rw [aaN,Y5,Sd (by omega),Wq]
 | m+1,i,j,s,h,hj,h1,h2,h3=>by
  obtain ⟨j',rfl⟩:∃ j',j=j'+1:=⟨j - 1,by omega⟩
  obtain ⟨⟨hl1,hl2,hl3⟩,hsm⟩:=ht
  have hi:i<t.2.length:=by omega
  have hx:=hsm _ (jl (z:=j3) hi)
  have ih:=Ws hk ⟨⟨hl1,hl2,hl3⟩,hsm⟩ m (i+1) j'
  have hth:DY ((t.1.1,t.1.2),t.2) (i:Int)=((t.2.getD i j3).1 != 0):=by
   unfold DY;rw [decide_eq_true (show (0:Int) <= (i:Int) by omega),decide_eq_true (show (i:Int)<(t.2.length:Int) by omega),Qp];rfl
  rw [aaN,Y5,Sc (by omega),Qo hi,QS,Option.bind_some,hth,Qp,Mi (by omega),Wq]
  unfold trn
  cases h0:(t.2.getD i j3).1 != 0 with
  | false =>
   simp only [Bool.not_false,cond_true,Bool.false_and,Bool.false_eq_true,if_false]
   exact ih s (by omega) (by omega) h1 (by omega) (by omega)
  | true =>
   simp only [Bool.not_true,cond_false,Bool.true_and]
   rw [YH hk hx,Option.bind_some]
   simp only
   by_cases e:(t.2.getD i j3).2.2.2.2.2=TY k (t.2.getD i j3)
   ·rw [show ((t.2.getD i j3).2.2.2.2.2==TY k (t.2.getD i j3))=true by simpa using e,cond_true,if_neg (by simpa using e)]
    exact ih s (by omega) (by omega) h1 (by omega) (by omega)
   ·rw [show ((t.2.getD i j3).2.2.2.2.2==TY k (t.2.getD i j3))=false by simpa using e,cond_false,if_pos (by simpa using e)]
    have fin:∀ y:Th,Wo y -> y=(( t.2.getD i j3).1,(t.2.getD i j3).2.1,(if (t.2.getD i j3).1=1 then (t.2.getD i j3).2.2.1.1 else 0,0),([],[]),(0,[]),0) ->
      SS k (fun t1 t2 t3 out abZ aoM places who t11 t12 t13=>SV k j' t1 t2 t3 out abZ aoM places who t11 t12 t13) t.1.1 t.1.2 t.2 t.1.1 t.1.2 s.1 s.2.1 s.2.2 (i:Int) (t.2.getD i j3).1 (t.2.getD i j3).2.1.1 (t.2.getD i j3).2.1.2 (t.2.getD i j3).2.2.1.1 (t.2.getD i j3).2.2.1.2 (t.2.getD i j3).2.2.2.1.1 (t.2.getD i j3).2.2.2.1.2 (t.2.getD i j3).2.2.2.2.1.1 (t.2.getD i j3).2.2.2.2.1.2 (t.2.getD i j3).2.2.2.2.2 y.1 y.2.1.1 y.2.1.2 y.2.2.1.1 y.2.2.1.2 y.2.2.2.1.1 y.2.2.2.1.2 y.2.2.2.2.1.1 y.2.2.2.2.1.2 y.2.2.2.2.2 t.2 (t.2.length:Int) (i:Int) =
      some (((t.1,(Wq k t.2 m (i+1) (s.1.set i (frT k (t.2.getD i j3)),s.2.1++[(i:Int)],s.2.2++[wo (t.2.getD i j3)])).1),(Wq k t.2 m (i+1) (s.1.set i (frT k (t.2.getD i j3)),s.2.1++[(i:Int)],s.2.2++[wo (t.2.getD i j3)])).2.1,(Wq k t.2 m (i+1) (s.1.set i (frT k (t.2.getD i j3)),s.2.1++[(i:Int)],s.2.2++[wo (t.2.getD i j3)])).2.2,()),()):=fun y hy hye=>by
     unfold SS
     have e1:ab3 k (y.1,(y.2.1.1,y.2.1.2),(y.2.2.1.1,y.2.2.1.2),(y.2.2.2.1.1,y.2.2.2.1.2),(y.2.2.2.2.1.1,y.2.2.2.2.1.2),y.2.2.2.2.2)=some ((ug k y,()),()):=YI hk hy
     rw [e1,Option.bind_some,Qo (by omega),Rz (by simp only [List.length_cons,List.length_nil];omega)]
     have e2:agw k ((t.2.getD i j3).1,((t.2.getD i j3).2.1.1,(t.2.getD i j3).2.1.2),((t.2.getD i j3).2.2.1.1,(t.2.getD i j3).2.2.1.2),((t.2.getD i j3).2.2.2.1.1,(t.2.getD i j3).2.2.2.1.2),((t.2.getD i j3).2.2.2.2.1.1,(t.2.getD i j3).2.2.2.2.1.2),(t.2.getD i j3).2.2.2.2.2)=some ((wo (t.2.getD i j3),()),()):=afz hk hx
     rw [e2,Option.bind_some,Rz (by simp only [List.length_cons,List.length_nil];omega),Mi (by omega),Mj]
     have e3:ug k y=frT k (t.2.getD i j3):=by rw [hye];rfl
     simp only
     rw [e3]
     exact ih (s.1.set i (frT k (t.2.getD i j3)),s.2.1++[(i:Int)],s.2.2++[wo (t.2.getD i j3)]) (by omega) (by omega) (by simp only [List.length_set];exact h1) (by simp only [List.length_append,List.length_cons,List.length_nil];omega) (by simp only [List.length_append,List.length_cons,List.length_nil];omega)
    unfold agt
    by_cases e1:(t.2.getD i j3).1=1
    ·rw [show ((t.2.getD i j3).1==1)=true by rw [e1];rfl,cond_true,Option.bind_some]
     simp only [cond_true]
     exact fin ((t.2.getD i j3).1,(t.2.getD i j3).2.1,((t.2.getD i j3).2.2.1.1,0),([],[]),(0,[]),0) ⟨by simp,by simp,by simp⟩ (by rw [if_pos e1])
    ·rw [show ((t.2.getD i j3).1==1)=false by simpa using e1,cond_false,Option.bind_some]
     simp only [cond_false]
     exact fin ((t.2.getD i j3).1,(t.2.getD i j3).2.1,(0,0),([],[]),(0,[]),0) ⟨by simp,by simp,by simp⟩ (by rw [if_neg e1])
theorem amr {k:Nat} (hk:1000 <= k) {t:Tb} (ht:uy t):alx k t=some (((t.1,(Wq k t.2 t.2.length 0 (t.2,[],[])).1),(Wq k t.2 t.2.length 0 (t.2,[],[])).2.1,(Wq k t.2 t.2.length 0 (t.2,[],[])).2.2,()),()):=by
 unfold alx
 rw [EY hk ht,Option.bind_some]
 have:=ht.1
 exact Ws hk ht t.2.length 0 k (t.2,[],[]) (by omega) (by omega) rfl (by simp) (by simp)
abbrev iq:Type:=List Int×List Bool
def FQ (s:iq):Int:=pq (fun b=>b==false) (s.2.take (min s.1.length s.2.length))
def oh (s:iq):iq×(Int×Int)×Bool :=
 if FQ s<0 then (s,(0,0),false)
 else ((s.1.set (FQ s).toNat (IntKind.i64.wrap (s.1.getD (FQ s).toNat 0+1)),s.2.set (FQ s).toNat true),(FQ s,IntKind.i64.wrap (s.1.getD (FQ s).toNat 0+1)),true)
theorem acy {α:Type} (f:α -> Bool) (xs:List α):pq f xs = -1 \/ ∃ n:Nat,n<xs.length /\ pq f xs=(n:Int):=by
 unfold pq
 cases h:xs.findIdx? f with
 | none=>exact .inl rfl
 | some n =>
  rw [List.findIdx?_eq_some_iff_getElem] at h
  obtain ⟨hn,_⟩:=h
  exact .inr ⟨n,hn,rfl⟩
theorem afA {k:Nat} (hk:1000 <= k) {s:List Bool} (h:s.length <= 900):aiv k s false=some ((pq (fun b=>b==false) s,()),()):=by
 unfold aiv
 refine tq (fun j i=>MN k j s false (s.length:Int) i) s false _ (fun j i hi=>?_) (fun j=>?_) k (by omega)
 ·show MN k (j+1) s false (s.length:Int) (i:Int)=_
  rw [aav,XK,Sc (by omega),Qo hi,Mi (by omega),Qp]
  cases s.getD i false <;> rfl
 ·show MN k (j+1) s false (s.length:Int) (s.length:Int)=_
  rw [aav,XK,Sd (by omega)]
theorem ams {k:Nat} (hk:1000 <= k) {s:iq} (h1:s.1.length <= 100) (h2:s.2.length <= 100):alg k s=some (((oh s).1,(oh s).2.1,(oh s).2.2,()),()):=by
 unfold alg ais ait
 simp only [G9,V7,aak,aal]
 rw [Ll (by omega),Option.bind_some,Ll (by omega),Option.bind_some,Option.bind_some,Option.bind_some,Sg]
 simp only
 have hm:min (s.1.length:Int) (s.2.length:Int)=((min s.1.length s.2.length:Nat):Int):=by omega
 have hsub:sub s.2 0 ((min s.1.length s.2.length:Nat):Int)=s.2.take (min s.1.length s.2.length):=by simp [sub]
 rw [hm,Rx (by omega) (by omega) (by omega),hsub,afA hk (by rw [List.length_take];omega),Option.bind_some]
 unfold oh
 rcases acy (fun b=>b==false) (s.2.take (min s.1.length s.2.length)) with e | ⟨n,hn,e⟩
 ·have hf:FQ s = -1:=e
  rw [hf,if_pos (by omega)]
  simp only [e]
  rw [Sc (by omega)]
 ·have hf:FQ s=(n:Int):=e
  rw [List.length_take] at hn
  rw [hf,if_neg (by omega)]
  simp only [e]
  rw [Sd (by omega),Qo (by omega),Qo (by omega),Qo (by omega),Lj (by omega) (by rw [Mk];omega)]
  simp only [Qp,Mj,Int.toNat_natCast]
  rw [ko,if_pos ⟨rfl,by omega⟩]
def P9 (c:Int) (l:List Th):Nat:=l.countP (fun x=>x.1==c)
def wu (c:Int) (h:Int×Int):Th:=(c,h,(if c=1 then 8 else 0,0),([],[]),(0,[]),0)
noncomputable def zl (k:Nat) (t:Tb) (c:Int):Tb×(Int×Int)×Bool :=
 if 4 <= P9 c t.2 \/ (oh t.1).2.2=false \/ (t.2.length:Int) <= (oh t.1).2.1.1 then (t,(0,0),false)
 else (((oh t.1).1,upd t.2 (oh t.1).2.1.1 (ug k (wu c (oh t.1).2.1))),(oh t.1).2.1,true)
theorem akc (s:iq):0 <= (oh s).2.1.1:=by
 unfold oh
 split
 ·simp
 ·rename_i h;simp only;omega
theorem Wt {k:Nat} (hk:1000 <= k) {c a b:Int} {mo:List (Int×Int)} {t:Tb} (hmo:Us (.int .i64) (.int .i64) c mo 0=4) (h1:t.1.1.length <= 100) (h2:t.1.2.length <= 100) (h3:t.2.length <= 100):∀ (m i j n:Nat),i+m=t.2.length -> m<j -> n <= i ->
  XM k j c a b mo t.1.1 t.1.2 t.2 (n:Int) t.2 (t.2.length:Int) (i:Int) =
   (if 4 <= n+P9 c (t.2.drop i) \/ (oh t.1).2.2=false \/ (t.2.length:Int) <= (oh t.1).2.1.1 then some ((t,(0,0),false,()),()) else some ((((oh t.1).1,upd t.2 (oh t.1).2.1.1 (ug k (wu c (oh t.1).2.1))),(oh t.1).2.1,true,()),()))
 | 0,i,j,n,h,hj,hn=>by
  obtain ⟨j',rfl⟩:∃ j',j=j'+1:=⟨j - 1,by omega⟩
  rw [aaw,XL,Sd (by omega),ams hk h1 h2,Option.bind_some,drop_nil (by omega),hmo]
  have hma:P9 c []=0:=rfl
  rw [hma,Nat.add_zero]
  simp only
  have e0:((t.1.1,t.1.2):iq)=t.1:=rfl
  rw [e0]
  by_cases e:4 <= n
  ·rw [Sc (by omega),if_pos (.inl e)]
  ·rw [Sd (by omega)]
   cases hok:(oh t.1).2.2 with
   | false=>rw [if_pos (.inr (.inl rfl))];rfl
   | true =>
    rw [Bool.not_true,cond_false]
    by_cases e2:(t.2.length:Int) <= (oh t.1).2.1.1
    ·rw [Sc (by omega),if_pos (.inr (.inr e2))]
    ·have hat:=akc t.1
     rw [Sd (by omega),if_neg (by rintro (q | q | q);exact e q;cases q;exact e2 q)]
     have hfr:agt k c (oh t.1).2.1=some ((wu c (oh t.1).2.1,()),()):=by
      unfold agt wu
      by_cases e3:c=1
      ·rw [show (c==1)=true by rw [e3];rfl,cond_true,if_pos e3]
      ·rw [show (c==1)=false by simpa using e3,cond_false,if_neg e3]
     rw [hfr,Option.bind_some,YI hk ⟨by simp [wu],by simp [wu],by simp [wu]⟩,Option.bind_some,Lj hat (by omega)]
 | m+1,i,j,n,h,hj,hn=>by
  obtain ⟨j',rfl⟩:∃ j',j=j'+1:=⟨j - 1,by omega⟩
  have hi:i<t.2.length:=by omega
  have ih:=Wt hk (c:=c) (a:=a) (b:=b) hmo h1 h2 h3 m (i+1) j'
  have hc:P9 c (t.2.getD i j3::t.2.drop (i+1))=P9 c (t.2.drop (i+1))+(if ((t.2.getD i j3).1==c)=true then 1 else 0):=by unfold P9;rw [List.countP_cons]
  rw [aaw,XL,Sc (by omega),Qo hi,Qp,Mi (by omega),Mi (by omega),drop_cons j3 hi,hc]
  cases e:(t.2.getD i j3).1==c with
  | true =>
   simp only [cond_true,if_true]
   rw [ih (n+1) (by omega) (by omega) (by omega),show n+(P9 c (t.2.drop (i+1))+1)=n+1+P9 c (t.2.drop (i+1)) by omega]
  | false =>
   simp only [cond_false,Bool.false_eq_true,if_false,Nat.add_zero]
   exact ih n (by omega) (by omega) (by omega)
theorem amt {k:Nat} (hk:1000 <= k) {t:Tb} {c:Int} (ht:uy t) (hc:c=1 \/ c=2 \/ c=3):alh k t c=some (((zl k t c).1,(zl k t c).2.1,(zl k t c).2.2,()),()):=by
 unfold alh
 rw [EY hk ht,Option.bind_some]
 obtain ⟨⟨h1,h2,h3⟩,_⟩:=ht
 have hmo:Us (.int .i64) (.int .i64) c (vL (.int .i64) (.int .i64) 3 4 (vL (.int .i64) (.int .i64) 2 4 (vL (.int .i64) (.int .i64) 1 4 ([]:List (Int×Int))))) 0=4:=by
  rcases hc with rfl | rfl | rfl <;> rfl
 have:=Wt hk (c:=c) (a:=0) (b:=0) hmo h1 h2 h3 t.2.length 0 k 0 (by omega) (by omega) (by omega)
 rw [List.drop_zero,Nat.zero_add] at this
 refine Eq.trans this ?_
 unfold zl
 split <;> rfl
def newT:Tb:=((List.replicate 12 0,List.replicate 12 false),List.replicate 12 j3)
theorem afB:Wo j3:=⟨by simp,by simp,by simp⟩
theorem amu:uy newT:=⟨⟨by simp [newT],by simp [newT],by simp [newT]⟩,fun x hx=>by
 rw [List.eq_of_mem_replicate hx];exact afB⟩
theorem afC {t:Tb} {i:Int} {x:Th} (ht:uy t) (hx:Wo x):uy (t.1,upd t.2 i x):=by
 obtain ⟨⟨h1,h2,h3⟩,h4⟩:=ht
 refine ⟨⟨h1,h2,by rw [Mk];exact h3⟩,fun y hy=>?_⟩
 rcases List.mem_or_eq_of_mem_set hy with q | q
 ·exact h4 y q
 ·rw [q];exact hx
noncomputable def JY (k:Nat) (l:List Th):Nat -> Nat
 | 0=>0
 | i+1=>JY k l i+(if trn k (l.getD i j3)=true then 1 else 0)
structure ao7 (k:Nat) (l:List Th) (i:Nat) (s:List Th×List Int×List (List Int)):Prop where
 len:s.1.length=l.length
 len1:s.2.1.length=JY k l i
 len2:s.2.2.length=JY k l i
 told:∀ j,j<i -> trn k (l.getD j j3)=true -> s.2.1.getD (JY k l j) 0=(j:Int) /\ s.2.2.getD (JY k l j) []=wo (l.getD j j3) /\ s.1.getD j j3=frT k (l.getD j j3) /\ JY k l j<JY k l i
 kept:∀ j,(i <= j \/ trn k (l.getD j j3)=false) -> s.1.getD j j3=l.getD j j3
theorem afD {k:Nat} {l:List Th}:∀ (m i:Nat) (s:List Th×List Int×List (List Int)),i+m=l.length -> ao7 k l i s -> ao7 k l l.length (Wq k l m i s)
 | 0,i,s,h,hi=>by
  have:i=l.length:=by omega
  subst this;exact hi
 | m+1,i,s,h,hi=>by
  rw [Wq]
  refine afD m (i+1) _ (by omega) ?_
  obtain ⟨h1,h2,h3,h4,h5⟩:=hi
  by_cases e:trn k (l.getD i j3)=true
  ·rw [if_pos e]
   have hc:JY k l (i+1)=JY k l i+1:=by rw [JY,if_pos e]
   refine ⟨by rw [List.length_set];exact h1,by rw [hc,List.length_append,h2];rfl,by rw [hc,List.length_append,h3];rfl,fun j hj ht=>?_,fun j hj=>?_⟩
   ·by_cases ej:j=i
    ·subst ej
     simp only
     rw [lg (by omega),lg (by omega),h2,h3,Nat.sub_self,ko,if_pos ⟨rfl,by omega⟩]
     exact ⟨rfl,rfl,rfl,by omega⟩
    ·obtain ⟨q1,q2,q3,q4⟩:=h4 j (by omega) ht
     simp only
     rw [oo (by omega),oo (by omega),ko,if_neg (by omega)]
     exact ⟨q1,q2,q3,by omega⟩
   ·simp only
    rw [ko,if_neg]
    ·exact h5 j (hj.imp (fun q=>(by omega)) id)
    ·rintro ⟨rfl,_⟩
     rcases hj with q | q
     ·omega
     ·rw [e] at q;cases q
  ·rw [if_neg e]
   have hc:JY k l (i+1)=JY k l i:=by rw [JY,if_neg e];rfl
   refine ⟨h1,by rw [hc];exact h2,by rw [hc];exact h3,fun j hj ht=>?_,fun j hj=>h5 j (hj.imp (fun q=>(by omega)) id)⟩
   by_cases ej:j=i
   ·subst ej;exact absurd ht e
   ·rw [hc];exact h4 j (by omega) ht
theorem ao8 (k:Nat) (l:List Th):ao7 k l l.length (Wq k l l.length 0 (l,[],[])) :=
 afD l.length 0 (l,[],[]) (by omega) ⟨rfl,rfl,rfl,fun j hj=>by omega,fun j _=>rfl⟩
theorem agT (s:iq):(oh s).1.1.length=s.1.length /\ (oh s).1.2.length=s.2.length:=by
 unfold oh
 split
 ·exact ⟨rfl,rfl⟩
 ·simp
theorem afE {l:List Th} {i:Int} {x:Th} {j:Nat} (hi:0 <= i):(upd l i x).getD j j3=if i.toNat=j /\ j<l.length then x else l.getD j j3:=by unfold upd;rw [ko]
theorem abp {t:Tb} {i:Nat} (h:i<t.2.length):DY t (i:Int)=((t.2.getD i j3).1 != 0):=by
 unfold DY;rw [decide_eq_true (show (0:Int) <= (i:Int) by omega),decide_eq_true (show (i:Int)<(t.2.length:Int) by omega),Qp];rfl
theorem amv {k:Nat} {w x:Th} (h:Wo x):Wo (YJ k w x):=by unfold YJ;split <;> exact h
theorem QT {k:Nat} {t:Tb} {i j:Nat} {x:Th} (hi:i<t.2.length):(EZ k t i x).2.getD j j3=if i=j /\ (t.2.getD i j3).1≠0 then YJ k (t.2.getD i j3) x else t.2.getD j j3:=by
 unfold EZ
 rw [abp hi]
 by_cases e:(t.2.getD i j3).1=0
 ·rw [if_neg (by rw [e];simp),if_neg (fun q=>q.2 e)]
 ·rw [if_pos (bne_iff_ne.2 e)]
  simp only
  rw [afE (by omega),Int.toNat_natCast,Qp]
  by_cases ej:i=j
  ·subst ej;rw [if_pos ⟨rfl,hi⟩,if_pos ⟨rfl,e⟩]
  ·rw [if_neg (fun q=>ej q.1),if_neg (fun q=>ej q.1)]
theorem U0 {k:Nat} {t:Tb} {i:Int} {x:Th} (h:uy t) (hx:Wo x):uy (EZ k t i x):=by
 unfold EZ;split
 ·exact afC h (amv hx)
 ·exact h
theorem afF {k:Nat} {t:Tb} {i:Int} {x:Th}:(EZ k t i x).2.length=t.2.length:=by
 unfold EZ;split
 ·simp only;rw [Mk]
 ·rfl
theorem afG {t:Tb} {i:Int} (h:uy t):uy (CJ t i):=by
 unfold CJ;split
 ·rename_i e
  obtain ⟨h0,h1,_⟩:=za e
  have hq:Wo (rd t.2 i j3):=h.2 _ (NS h0 h1)
  exact afC h (x:=aj8 (rd t.2 i j3)) hq
 ·exact h
theorem akd {t:Tb} {i:Int}:(CJ t i).2.length=t.2.length:=by
 unfold CJ;split
 ·simp only;rw [Mk]
 ·rfl
theorem ake {t:Tb} {i j:Nat} (hi:i<t.2.length):(CJ t i).2.getD j j3=if i=j /\ (t.2.getD i j3).1≠0 then aj8 (t.2.getD i j3) else t.2.getD j j3:=by
 unfold CJ
 rw [abp hi]
 by_cases e:(t.2.getD i j3).1=0
 ·rw [if_neg (by rw [e];simp),if_neg (fun q=>q.2 e)]
 ·rw [if_pos (bne_iff_ne.2 e)]
  simp only
  rw [afE (by omega),Int.toNat_natCast,Qp]
  by_cases ej:i=j
  ·subst ej;rw [if_pos ⟨rfl,hi⟩,if_pos ⟨rfl,e⟩]
  ·rw [if_neg (fun q=>ej q.1),if_neg (fun q=>ej q.1)]
theorem JZ {tk tv:Ty} (hb:∀ a b:tk.D,fC tk a b=true↔a=b) (d e:tk.D) (v:tv.D):∀ (es:List (tk.D×tv.D)),jB tk tv e (vL tk tv d v es)=if fC tk e d=true then some v else jB tk tv e es
 | []=>by
  simp only [vL,jB]
  cases fC tk e d <;> rfl
 | x::r=>by
  simp only [vL]
  cases h:fC tk d x.1 with
  | true =>
   have:=(hb _ _).1 h
   simp only [jB]
   rw [<- this]
   cases fC tk e d <;> rfl
  | false =>
   simp only [jB]
   rw [JZ hb d e v r]
   cases h2:fC tk e x.1 with
   | true =>
    have h3:=(hb _ _).1 h2
    subst h3
    cases h4:fC tk x.1 d with
    | true =>
     have h5:=(hb _ _).1 h4
     rw [<- h5,(hb _ _).2 rfl] at h
     cases h
    | false=>rfl
   | false=>rfl
abbrev HT:Ty:=.pair (.int .i64) (.int .i64)
theorem LH (a b:HT.D):fC HT a b=true↔a=b:=by
 show (a.1==b.1&&a.2==b.2)=true↔a=b
 rw [Bool.and_eq_true,beq_iff_eq,beq_iff_eq]
 exact ⟨fun h=>Prod.ext h.1 h.2,fun h=>by subst h;exact ⟨rfl,rfl⟩⟩
def akf (s:iq) (h:Int×Int):Bool:=decide (0 <= h.1)&&(decide (h.1<(min s.1.length s.2.length:Nat))&&(rd s.2 h.1 false&&(rd s.1 h.1 0==h.2)))
theorem NT {k:Nat} {s:iq} (h1:s.1.length <= 100) (h2:s.2.length <= 100) (h:Int×Int):∀ (m i j:Nat) (es:List ((Int×Int)×Bool)),i+m=min s.1.length s.2.length -> m<j ->
  (jB HT .bool h es=if ∃ n:Nat,n<i /\ s.2.getD n false=true /\ h=((n:Int),s.1.getD n 0) then some true else none) ->
  ∃ es',XU k j s.1 s.2 es ((min s.1.length s.2.length:Nat):Int) (i:Int)=some ((es',()),()) /\ (jB HT .bool h es'=if ∃ n:Nat,n<min s.1.length s.2.length /\ s.2.getD n false=true /\ h=((n:Int),s.1.getD n 0) then some true else none)
 | 0,i,j,es,hi,hj,he=>by
  obtain ⟨j',rfl⟩:∃ j',j=j'+1:=⟨j - 1,by omega⟩
  have:i=min s.1.length s.2.length:=by omega
  subst this
  rw [aaC,XT,Sd (by omega)]
  exact ⟨es,rfl,he⟩
 | m+1,i,j,es,hi,hj,he=>by
  obtain ⟨j',rfl⟩:∃ j',j=j'+1:=⟨j - 1,by omega⟩
  rw [aaC,XT,Sc (by omega),Qo (by omega),Qp,Mi (by omega)]
  cases e:s.2.getD i false with
  | false =>
   rw [cond_false]
   refine NT h1 h2 h m (i+1) j' es (by omega) (by omega) ?_
   rw [he]
   congr 1
   refine propext ⟨fun ⟨n,q1,q2⟩=>⟨n,by omega,q2⟩,fun ⟨n,q1,q2,q3⟩=>?_⟩
   by_cases en:n=i
   ·subst en;rw [e] at q2;cases q2
   ·exact ⟨n,by omega,q2,q3⟩
  | true =>
   rw [cond_true,Qo (by omega),Qp]
   refine NT h1 h2 h m (i+1) j' _ (by omega) (by omega) ?_
   rw [JZ LH,he]
   by_cases c:fC HT h ((i:Int),s.1.getD i 0)=true
   ·have c':=(LH _ _).1 c
    rw [if_pos c,if_pos ⟨i,by omega,e,c'⟩]
   ·rw [if_neg c]
    congr 1
    refine propext ⟨fun ⟨n,q1,q2⟩=>⟨n,by omega,q2⟩,fun ⟨n,q1,q2,q3⟩=>?_⟩
    by_cases en:n=i
    ·subst en;exact absurd ((LH _ _).2 q3) c
    ·exact ⟨n,by omega,q2,q3⟩
theorem afH {k:Nat} (hk:1000 <= k) {s:iq} {h:Int×Int} (h1:s.1.length <= 100) (h2:s.2.length <= 100):aiE k s h=some ((akf s h,()),()):=by
 unfold aiE aoD ait
 rw [Option.bind_some,Sg]
 simp only
 have hm:min (s.1.length:Int) (s.2.length:Int)=((min s.1.length s.2.length:Nat):Int):=by omega
 obtain ⟨es,g1,g2⟩:=NT (k:=k) h1 h2 h (min s.1.length s.2.length) 0 k [] (by omega) (by omega) (by
  rw [if_neg (by rintro ⟨n,q,_⟩;omega)];rfl)
 rw [hm,show (0:Int)=((0:Nat):Int) from rfl,g1,Option.bind_some]
 unfold Us
 rw [g2]
 unfold akf
 by_cases c:∃ n:Nat,n<min s.1.length s.2.length /\ s.2.getD n false=true /\ h=((n:Int),s.1.getD n 0)
 ·rw [if_pos c]
  obtain ⟨n,q1,q2,rfl⟩:=c
  simp only
  rw [decide_eq_true (show (0:Int) <= (n:Int) by omega),decide_eq_true (show (n:Int)<((min s.1.length s.2.length:Nat):Int) by omega),Qp,Qp,q2,beq_self_eq_true];rfl
 ·rw [if_neg c]
  cases e:decide (0 <= h.1) with
  | false=>rfl
  | true =>
   have e1:=of_decide_eq_true e
   cases f:decide (h.1<((min s.1.length s.2.length:Nat):Int)) with
   | false=>rfl
   | true =>
    have f1:=of_decide_eq_true f
    obtain ⟨n,hn⟩:∃ n:Nat,h.1=(n:Int):=⟨h.1.toNat,by omega⟩
    rw [hn,Qp,Qp]
    cases g:s.2.getD n false with
    | false=>rfl
    | true =>
     cases q:s.1.getD n 0==h.2 with
     | false=>rfl
     | true=>exact absurd ⟨n,by omega,g,Prod.ext hn (eq_of_beq q).symm⟩ c
def BF (t:Tb) (h:Int×Int):Bool:=akf t.1 h&&DY t h.1
theorem QU {k:Nat} (hk:1000 <= k) {t:Tb} {h:Int×Int} (ht:uy t):agu k t h=some (((if BF t h=true then h.1 else 0),BF t h,()),()):=by
 unfold agu BF
 rw [afH hk ht.1.1 ht.1.2.1,Option.bind_some]
 cases akf t.1 h with
 | false=>rfl
 | true =>
  simp only [Bool.not_true,cond_false,Bool.true_and]
  rw [QS,Option.bind_some]
  cases DY t h.1 <;> rfl
def PE (t:Tb) (h:Int×Int):Tb:=if BF t h=true /\ (rd t.2 h.1 j3).1≠1 then ((t.1.1,upd t.1.2 h.1 false),upd t.2 h.1 j3) else t
abbrev iw:=Int×Int×Int×List I4×List I4×List I4
noncomputable def cst (l:List I4):Int×Int×List (Int×Int):=(zw l).getD (0,0,[])
def akg (l:List I4):Bool:=l.any fun i=>i.1==9
theorem Wu (l:List I4):an2 l (zw l)=some ((cst l,yj l,()),()):=by
 unfold cst zw
 cases h:yj l with
 | false=>rfl
 | true=>rfl
theorem amw {l:List I4} (h:yj l=false):cst l=(0,0,[]):=by unfold cst zw;rw [h];rfl
theorem QV (l:List I4):(cst l).2.2.length <= 24:=by
 unfold cst
 cases h:zw l with
 | none=>simp
 | some c=>exact acs h
theorem afI {k:Nat} (hk:1000 <= k) {l:List I4} (hl:l.length <= 900):ahO k l=some ((((l.length:Int)==0)||yj l,()),()):=by
 unfold ahO
 cases (l.length:Int)==0 with
 | true=>rfl
 | false=>rw [cond_false,Yw hk hl,Option.bind_some];rfl
theorem akh {k:Nat} (hk:1000 <= k) {s:List I4} (h:s.length <= 900):ada k s=some ((pq (fun i=>i.1==9) s,()),()):=by
 unfold ada
 refine tq (fun j i=>HZ k j s (s.length:Int) i) s i0 _ (fun j i hi=>?_) (fun j=>?_) k (by omega)
 ·show HZ k (j+1) s (s.length:Int) (i:Int)=_
  rw [Vt,PZ,Sc (by omega),Qo hi,Mi (by omega)]
  simp only [aoh,Option.bind_some,Qp]
 ·show HZ k (j+1) s (s.length:Int) (s.length:Int)=_
  rw [Vt,PZ,Sd (by omega)]
theorem amx {k:Nat} (hk:1000 <= k) {s:List I4} (h:s.length <= 900):ak2 k s=some ((akg s,()),()):=by
 unfold ak2 aoi
 rw [akh hk h];simp only [Option.bind_some,D9];rfl
theorem afJ {k:Nat} (hk:1000 <= k) {l:List I4} (hl:l.length <= 900):agm k l=some (((cst l).1,()),()):=by
 unfold agm
 rw [YD hk hl,Wu,Option.bind_some]
noncomputable def FX (t:iw):Int :=
 bif decide (t.1<0) then 1 else bif decide (t.1>63) then 1 else bif decide (t.2.1<1) then 9 else bif decide (t.2.1>16384) then 9 else
 bif decide (t.2.2.1<1) then 9 else bif decide (t.2.2.1>t.2.1) then 9 else
 bif !yj t.2.2.2.1 then 2 else bif !(((t.2.2.2.2.1.length:Int)==0)||yj t.2.2.2.2.1) then 2 else bif !(((t.2.2.2.2.2.length:Int)==0)||yj t.2.2.2.2.2) then 2 else
 bif akg t.2.2.2.2.2 then 2 else bif decide ((cst t.2.2.2.1).1>t.2.2.1) then 10 else bif decide ((cst t.2.2.2.2.1).1>(cst t.2.2.2.1).1) then 12 else 0
theorem aqv {α:Type} {c:Bool} {a b:α}:(bif c then some ((a,()),()) else some ((b,()),()))=some (((bif c then a else b),()),()):=by cases c <;> rfl
def ze (t:iw):Prop:=t.2.2.2.1.length <= 900 /\ t.2.2.2.2.1.length <= 900 /\ t.2.2.2.2.2.length <= 900
theorem YK {k:Nat} (hk:1000 <= k) {t:iw} (h:ze t):agn k t=some ((FX t,()),()):=by
 unfold agn
 simp only [Yw hk h.1,afI hk h.2.1,afI hk h.2.2,amx hk h.2.2,afJ hk h.1,afJ hk h.2.1,Option.bind_some,aqv]
 rfl
noncomputable def ng (t:iw):Int×Int×List (Int×Int) :=
 if FX t=0 then ((cst t.2.2.2.1).1,bif yj t.2.2.2.2.1 then (cst t.2.2.2.2.1).1 else (cst t.2.2.2.1).2.1,(cst t.2.2.2.1).2.2++(cst t.2.2.2.2.1).2.2) else (0,0,[])
theorem agU {k:Nat} (hk:1000 <= k) {a b:List (Int×Int)} (ha:a.length <= 900) (hb:b.length <= 900) (j:Nat):Xm k (j+3) [a,b] 0 [a,b] 2 0=some ((a++b,()),()):=by
 have e1:KL k k ([]:List (Int×Int)) [a,b] 2 0=some ((a++b,()),()):=by
  obtain ⟨k',hk'⟩:∃ k',k=k'+3:=⟨k - 3,by omega⟩
  have:∀ j,KL k (j+3) ([]:List (Int×Int)) [a,b] 2 0=some ((a++b,()),()):=fun j=>by
   rw [MJ,KI,Sc (by omega),Lj (by omega) (by simp),show rd [a,b] 0 []=a from rfl,Rz (by simp only [List.length_nil];omega),Uu (by omega) (by omega),List.nil_append]
   rw [MJ,KI,Sc (by omega),Lj (by omega) (by simp),show rd [a,b] (0+1) []=b from rfl,Rz (by omega),Uu (by omega) (by omega)]
   rw [MJ,KI,Sd (by omega)]
  have:=this (k - 3)
  rwa [show k - 3+3=k by omega] at this
 rw [RU,RQ,Sc (by omega),Lj (by omega) (by simp),show rd [a,b] 0 []=a from rfl,Uu (n:=0+(a.length:Int)) (by omega) (by omega),Sd (by omega),Uu (by omega) (by omega)]
 rw [RU,RQ,Sc (by omega),Lj (by omega) (by simp),show rd [a,b] (0+1) []=b from rfl,Uu (n:=0+(a.length:Int)+(b.length:Int)) (by omega) (by omega),Sd (by omega),Uu (by omega) (by omega)]
 rw [RU,RQ,Sd (by omega)]
 unfold aom
 rw [Sd (by omega),Uu (n:=0+(a.length:Int)+(b.length:Int) - 0) (by omega) (by omega)]
 by_cases h0:0+(a.length:Int)+(b.length:Int) - 0>0
 ·rw [Sc h0]
  unfold az
  rw [if_pos (by rw [Bool.and_eq_true];exact ⟨decide_eq_true (by omega),decide_eq_true (by simp only [List.length_nil];omega)⟩)]
  dsimp only
  rw [Rx (by omega) (by omega) (by omega),Option.bind_some]
  exact e1
 ·rw [Sd h0,Option.bind_some];exact e1
theorem amy {k:Nat} (hk:1000 <= k) {a b:List (Int×Int)} (ha:a.length <= 900) (hb:b.length <= 900):ahY k [a,b]=some ((a++b,()),()):=by
 unfold ahY
 have:=agU hk ha hb (k - 3)
 rwa [show k - 3+3=k by omega] at this
theorem LJ {k:Nat} (hk:1000 <= k) {t:iw} (h:ze t):ZT k t=some (((ng t).1,(ng t).2.1,(ng t).2.2,()),()):=by
 have h1:=QV t.2.2.2.1
 have h2:=QV t.2.2.2.2.1
 unfold ZT ng
 rw [YK hk h,Option.bind_some]
 by_cases hm:FX t=0
 ·rw [if_pos hm]
  simp only [hm,bne_self_eq_false,cond_false,YD hk h.1,YD hk h.2.1,Wu,Option.bind_some,amy hk (show (cst t.2.2.2.1).2.2.length <= 900 by omega) (show (cst t.2.2.2.2.1).2.2.length <= 900 by omega)]
  cases yj t.2.2.2.2.1 <;> rfl
 ·rw [if_neg hm]
  simp only [bne_iff_ne.2 hm,cond_true]
end Go.Proofs.YtjjjbcmjmkcedaaGreat.Ab
