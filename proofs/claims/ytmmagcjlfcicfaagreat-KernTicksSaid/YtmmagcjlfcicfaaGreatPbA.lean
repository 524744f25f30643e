import Derived.Below
import Derived.Deep.Draws
import Derived.Deep.AppendLies
import Derived.Maps.AppendAt
import Derived.OwnWalk
import Derived.Laws.BytesArg
import Derived.Laws.MakeOwn
import Derived.Laws.OwnMore
import Derived.Deep.OwnRows
import Derived.Tactics
import Derived.Lib.ConvBytes
import Derived.Laws.Slices
import Derived.WalkKit
import Derived.KernelRfl
import Derived.RowKit3
import Derived.Deep.LoopGhost
import Derived.Deep.QuietTactic
import Derived.BigQuiet
import Derived.WideLaws
import Derived.Deep.DeepCutAuto
import Derived.Deep.CutBlock
import Derived.Deep.RegionHeld3
import Derived.Laws.Rows
import Derived.Lib.AppendStr
import Derived.ArgAppend
import Derived.Laws.IdiomCopy
import Derived.RowKit
import Derived.OrdersHeld
import Derived.Laws.BitsLemmas
import Derived.Orders
import Derived.Deep.MidRow
import Derived.Great.BuildSlice
/- The evaluator. -/
set_option linter.unusedVariables false
set_option linter.unusedSimpArgs false
namespace Go.Proofs.YtmmagcjlfcicfaaGreat.Ab
open Go.RowKit
theorem gJ (a:Addr) (n:Nat):(a.add n).block=a.block:=by unfold Addr.add;split <;> rfl
theorem zC (a:Addr) (i j:Nat):(a.add i).add j=a.add (i+j):=by
 unfold Addr.add
 by_cases h1:i=0 <;> by_cases h2:j=0 <;> simp [h1,h2,Nat.add_assoc]
theorem add_zero (g j:Nat):(⟨g,0,none⟩:Addr).add j=⟨g,j,none⟩:=by unfold Addr.add;split <;> simp_all
theorem nL {w W:World} (h:Below w.heap.size w W) (o:Obj):Below w.heap.size w (W.alloc o):=h.alloc h.size o
structure Kd (α:Type) where
 sz:Nat
 FK:World -> (Nat -> Prop) -> α -> List Value -> Prop
 len:∀ {w ok x cs},FK w ok x cs -> cs.length=sz
 one:∀ {w ok x cs},FK w ok x cs -> ∀ u∈cs,u.oneCell'=true
 stay:∀ {w w':World} {ok ok':Nat -> Prop} {x cs},(∀ k,ok k -> k<w.heap.size -> w'.heap[k]? = w.heap[k]? /\ ok' k) -> FK w ok x cs -> FK w' ok' x cs
def aS {α:Type} (R:α -> List Value -> Prop) (sz:Nat):List α -> List Value -> Prop
 | [],cs=>cs=[]
 | x::xs,cs=>∃ c r,cs=c++r /\ c.length=sz /\ R x c /\ aS R sz xs r
section
variable {α:Type} {R R':α -> List Value -> Prop} {sz:Nat}
theorem aS.len:∀ {xs:List α} {cs:List Value},aS R sz xs cs -> cs.length=xs.length * sz
 | [],_,h=>by rw [show _=[] from h];simp
 | x::xs,_,⟨c,r,e,h1,_,h2⟩=>by rw [e,List.length_append,h1,aS.len h2,List.length_cons,Nat.add_mul];omega
theorem aS.imp (hR:∀ x c,R x c -> R' x c):∀ {xs:List α} {cs:List Value},aS R sz xs cs -> aS R' sz xs cs
 | [],_,h=>h
 | _::_,_,⟨c,r,e,h1,h2,h3⟩=>⟨c,r,e,h1,hR _ _ h2,aS.imp hR h3⟩
theorem aS.app:∀ {xs ys:List α} {a b:List Value},aS R sz xs a -> aS R sz ys b -> aS R sz (xs++ys) (a++b)
 | [],_,_,_,h,h'=>by rw [show _=[] from h];exact h'
 | _::_,_,_,_,⟨c,r,e,h1,h2,h3⟩,h'=>⟨c,r++_,by rw [e,List.append_assoc],h1,h2,aS.app h3 h'⟩
theorem aS.at:∀ {xs:List α} {cs:List Value} {j:Nat} {x:α},aS R sz xs cs -> xs[j]? = some x -> R x ((cs.drop (j * sz)).take sz)
 | y::_,_,0,x,⟨c,r,e,h1,h2,_⟩,h=>by
  have:y=x:=by simpa using h
  subst this
  rw [e,Nat.zero_mul,List.drop_zero,<- h1,List.take_left];exact h2
 | _::_,_,j+1,x,⟨c,r,e,h1,_,h3⟩,h=>by
  have:=aS.at h3 (show _=some x by simpa using h)
  rwa [e,show (j+1) * sz=c.length+j * sz by rw [Nat.add_mul];omega,<- List.drop_drop,List.drop_left]
theorem aS.take:∀ {xs:List α} {cs:List Value} (m:Nat),aS R sz xs cs -> aS R sz (xs.take m) (cs.take (m * sz))
 | _,_,0,_=>by simp [aS]
 | [],_,m+1,h=>by rw [show _=[] from h];simp [aS]
 | x::xs,_,m+1,⟨c,r,e,h1,h2,h3⟩=>by
  rw [List.take_succ_cons,e,show (m+1) * sz=c.length+m * sz by rw [Nat.add_mul];omega,List.take_length_add_append]
  exact ⟨c,_,rfl,h1,h2,aS.take m h3⟩
theorem aS.set {x':α} {c':List Value} (hl:c'.length=sz) (hr:R x' c'):∀ {xs:List α} {cs:List Value} {j:Nat},aS R sz xs cs -> j<xs.length -> aS R sz (xs.set j x') (cs.take (j * sz)++c'++cs.drop (j * sz+sz))
 | _::_,_,0,⟨c,r,e,h1,_,h3⟩,_=>⟨c',r,by rw [e,Nat.zero_mul,List.take_zero,Nat.zero_add,<- h1,List.drop_left,List.nil_append],hl,hr,h3⟩
 | _::_,_,j+1,⟨c,r,e,h1,h2,h3⟩,hj=>by
  refine ⟨c,_,?_,h1,h2,aS.set hl hr h3 (show j<_ by simpa using hj)⟩
  rw [e,show (j+1) * sz=c.length+j * sz by rw [Nat.add_mul];omega,List.take_length_add_append,Nat.add_assoc,<- List.drop_drop,List.drop_left,List.append_assoc,List.append_assoc,List.append_assoc]
theorem aS.rep {z:α} {c:List Value} (hl:c.length=sz) (hr:R z c):∀ m,aS R sz (List.replicate m z) (List.replicate m c).flatten
 | 0=>rfl
 | m+1=>⟨c,_,by rw [List.replicate_succ,List.flatten_cons],hl,hr,aS.rep hl hr m⟩
theorem aS.one (hR:∀ x c,R x c -> ∀ u∈c,u.oneCell'=true):∀ {xs:List α} {cs:List Value},aS R sz xs cs -> ∀ u∈cs,u.oneCell'=true
 | [],_,h,u,hu=>by rw [show _=[] from h] at hu;cases hu
 | _::_,_,⟨c,r,e,_,h2,h3⟩,u,hu=>by
  rw [e] at hu
  rcases List.mem_append.1 hu with hu | hu
  ·exact hR _ _ h2 u hu
  ·exact aS.one hR h3 u hu
theorem rR:∀ (xs:List α) (vs:List Value),xs.length=vs.length -> (∀ v∈vs,v.cells.toList.length=sz) -> (∀ (j:Nat) (x:α) (v:Value),xs[j]? = some x -> vs[j]? = some v -> R x v.cells.toList) -> aS R sz xs (vs.flatMap fun v=>v.cells.toList)
 | [],[],_,_,_=>rfl
 | [],_::_,h,_,_=>by simp at h
 | _::_,[],h,_,_=>by simp at h
 | x::xs,v::vs,h,h1,h2=>⟨_,_,List.flatMap_cons,h1 v List.mem_cons_self,h2 0 x v rfl rfl,rR xs vs (by simpa using h) (fun u hu=>h1 u (List.mem_cons_of_mem _ hu)) (fun j p u hj hu=>h2 (j+1) p u (by simpa using hj) (by simpa using hu))⟩
theorem zD {f:Nat -> Option Value}:∀ (ys:List α) (o:Nat),(∀ j x,ys[j]? = some x -> ∃ c,c.length=sz /\ R x c /\ ∀ i u,c[i]? = some u -> f (o+(j * sz+i))=some u) -> ∃ cs,aS R sz ys cs /\ ∀ j u,cs[j]? = some u -> f (o+j)=some u
 | [],o,_=>⟨[],rfl,fun j u h=>by simp at h⟩
 | y::ys,o,h=>by
  obtain ⟨c,h1,h2,h3⟩:=h 0 y rfl
  obtain ⟨r,h4,h5⟩:=zD ys (o+sz) (fun j x hj=>by
   obtain ⟨c,q1,q2,q3⟩:=h (j+1) x (by simpa using hj)
   refine ⟨c,q1,q2,fun i u hu=>?_⟩
   have:=q3 i u hu
   rwa [show o+((j+1) * sz+i)=o+sz+(j * sz+i) by rw [Nat.add_mul];omega] at this)
  refine ⟨c++r,⟨c,r,rfl,h1,h2,h4⟩,fun j u hu=>?_⟩
  by_cases hj:j<c.length
  ·rw [List.getElem?_append_left hj] at hu
   have:=h3 j u hu
   rwa [Nat.zero_mul,Nat.zero_add] at this
  ·rw [List.getElem?_append_right (by omega)] at hu
   have:=h5 _ u hu
   rwa [show o+sz+(j - c.length)=o+j by omega] at this
end
namespace Kd
section
variable {α β:Type} {d:Kd α} {w w':World} {ok ok':Nat -> Prop} {x:α} {cs:List Value} {A:Option Addr} {n c e base base':Nat} {xs:List α} {v:Value}
theorem aV (h:d.FK w ok x cs) (hok:∀ k,ok k -> ok' k):d.FK w ok' x cs:=d.stay (fun k hk _=>⟨rfl,hok k hk⟩) h
theorem jF (h:d.FK w ok x cs):d.FK w (fun k=>ok k /\ k<w.heap.size) x cs:=d.stay (fun k hk hl=>⟨rfl,hk,hl⟩) h
theorem oL (h:d.FK w ok x cs) (hm:∀ k,ok k -> k<w.heap.size -> w'.heap[k]? = w.heap[k]?):d.FK w' ok x cs:=d.stay (fun k hk hl=>⟨hm k hk hl,hk⟩) h
def F (d:Kd α) (w:World) (ok:Nat -> Prop) (A:Option Addr) (n:Nat) (xs:List α):Prop :=
 xs.length=n /\ n <= 9223372036854775807 /\ (0<n -> ∃ ad,A=some ad /\ (0<d.sz -> ok ad.block) /\ ∀ j x,xs[j]? = some x -> ∃ c,d.FK w ok x c /\ ∀ i u,c[i]? = some u -> w.cell? (ad.add (j * d.sz+i))=some u)
theorem xI (hm:∀ k,ok k -> k<w.heap.size -> w'.heap[k]? = w.heap[k]? /\ ok' k) (h:F d w ok A n xs):F d w' ok' A n xs:=by
 obtain ⟨h1,h2,h3⟩:=h
 refine ⟨h1,h2,fun hn=>?_⟩
 obtain ⟨ad,e,hb,hx⟩:=h3 hn
 have low:0<d.sz -> ad.block<w.heap.size:=fun hs=>by
  obtain ⟨c,hf,hc⟩:=hx 0 _ (List.getElem?_eq_getElem (by omega))
  have hl:=d.len hf
  have:=block_lt_of_cell (hc 0 _ (List.getElem?_eq_getElem (by omega)))
  rwa [gJ] at this
 refine ⟨ad,e,fun hs=>(hm _ (hb hs) (low hs)).2,fun j x hj=>?_⟩
 obtain ⟨c,hf,hc⟩:=hx j x hj
 refine ⟨c,d.stay hm hf,fun i u hu=>?_⟩
 have hs:0<d.sz:=by have:=d.len hf;have:=(List.getElem?_eq_some_iff.1 hu).1;omega
 exact (World.cell?_of_block (by rw [gJ];exact (hm _ (hb hs) (low hs)).1)).trans (hc i u hu)
theorem Eb (h:F d w ok A n xs):F d w (fun k=>ok k /\ k<w.heap.size) A n xs:=xI (fun k hk hl=>⟨rfl,hk,hl⟩) h
theorem Bj (d:Kd α) (w:World) (ok:Nat -> Prop):F d w ok none ([]:List α).length []:=⟨rfl,by simp,fun h=>absurd h (Nat.lt_irrefl 0)⟩
theorem Gb (h:F d w ok A n xs) (z:α) (i:Int) (h0:0 <= i) (h1:i<n) :
  ∃ ad c,A=some ad /\ c.length=d.sz /\ d.FK w ok (xs.getD i.toNat z) c /\ (∀ j u,c[j]? = some u -> w.cell? (ad.add (i.toNat * d.sz+j))=some u) /\ (0<d.sz -> ok ad.block):=by
 obtain ⟨q1,_,q3⟩:=h
 obtain ⟨ad,e,hb,hx⟩:=q3 (by omega)
 have hi:=List.getElem?_eq_getElem (show i.toNat<xs.length by omega)
 obtain ⟨c,hf,hc⟩:=hx _ _ hi
 exact ⟨ad,c,e,d.len hf,by rw [List.getD_eq_getElem?_getD,hi];exact hf,hc,hb⟩
theorem Gc {lo hi:Nat} (h:F d w ok A xs.length xs) (h1:lo <= hi) (h2:hi <= xs.length) (hc:xs.length <= c):F d w ok (if c=lo then A else A.map (·.add (lo * d.sz))) ((xs.take hi).drop lo).length ((xs.take hi).drop lo):=by
 have hl:((xs.take hi).drop lo).length=hi - lo:=by rw [List.length_drop,List.length_take];omega
 obtain ⟨_,q2,q3⟩:=h
 refine ⟨rfl,by omega,fun hp=>?_⟩
 obtain ⟨ad,rfl,hb,hx⟩:=q3 (by omega)
 rw [if_neg (by omega)]
 refine ⟨_,rfl,by rw [gJ];exact hb,fun j x hj=>?_⟩
 rw [List.getElem?_drop,List.getElem?_take] at hj
 split at hj
 ·obtain ⟨c,hf,hcc⟩:=hx _ x hj
  refine ⟨c,hf,fun i u hu=>?_⟩
  rw [zC,show lo * d.sz+(j * d.sz+i)=(lo+j) * d.sz+i by rw [Nat.add_mul];omega]
  exact hcc i u hu
 ·cases hj
def sole (enc:α -> Value) (h1:∀ x,(enc x).oneCell'=true):Kd α where
 sz:=1
 FK:=fun _ _ x cs=>cs=[enc x]
 len:=fun h=>by rw [h];rfl
 one:=fun h u hu=>by rw [h,List.mem_singleton] at hu;rw [hu];exact h1 _
 stay:=fun _ h=>h
def int (k:IntKind):Kd Int:=sole (Value.int k) (fun _=>rfl)
def bool:Kd Bool:=sole Value.bool (fun _=>rfl)
def string:Kd ByteArray:=sole Value.string (fun _=>rfl)
def slice (e:Nat) (d:Kd α):Kd (List α) where
 sz:=1
 FK:=fun w ok xs cs=>∃ A c,cs=[.slice A xs.length c] /\ xs.length <= c /\ F d w ok A xs.length xs
 len:=fun ⟨_,_,h,_⟩=>by rw [h];rfl
 one:=fun ⟨_,_,h,_⟩ u hu=>by rw [h,List.mem_singleton] at hu;rw [hu];rfl
 stay:=fun hm ⟨A,c,h1,h2,h3⟩=>⟨A,c,h1,h2,xI hm h3⟩
def pair (a:Kd α) (b:Kd β):Kd (α×β) where
 sz:=a.sz+b.sz
 FK:=fun w ok x cs=>∃ c0 c1,cs=c0++c1 /\ a.FK w ok x.1 c0 /\ b.FK w ok x.2 c1
 len:=fun ⟨_,_,h,h0,h1⟩=>by rw [h,List.length_append,a.len h0,b.len h1]
 one:=fun ⟨_,_,h,h0,h1⟩ u hu=>by
  rw [h] at hu
  rcases List.mem_append.1 hu with hu | hu
  ·exact a.one h0 u hu
  ·exact b.one h1 u hu
 stay:=fun hm ⟨c0,c1,h,h0,h1⟩=>⟨c0,c1,h,a.stay hm h0,b.stay hm h1⟩
def V (d:Kd α) (_e:Nat) (w:World) (_base:Nat) (ok:Nat -> Prop) (v:Value) (xs:List α):Prop:=∃ A c,v=.slice A xs.length c /\ xs.length <= c /\ F d w ok A xs.length xs
theorem Gw (hl:xs.length <= c) (hf:F d w ok A xs.length xs):V d e w base ok (.slice A xs.length c) xs:=⟨A,c,rfl,hl,hf⟩
theorem xJ (hm:∀ k,ok k -> k<w.heap.size -> w'.heap[k]? = w.heap[k]? /\ ok' k) (h:V d e w base ok v xs):V d e w' base ok' v xs:=let ⟨A,c,h1,h2,h3⟩:=h;⟨A,c,h1,h2,xI hm h3⟩
theorem dQ (h:V d e w base ok v xs) (hok:∀ k,ok k -> ok' k):V d e w base ok' v xs:=xJ (fun k hk _=>⟨rfl,hok k hk⟩) h
theorem tX (h:V d e w base ok v xs):V d e w base (fun k=>ok k /\ k<w.heap.size) v xs:=xJ (fun k hk hl=>⟨rfl,hk,hl⟩) h
theorem xK (h:V d e w base ok v xs) (hm:∀ k,ok k -> k<w.heap.size -> w'.heap[k]? = w.heap[k]?):V d e w' base ok v xs:=xJ (fun k hk hl=>⟨hm k hk hl,hk⟩) h
theorem Jl (d:Kd α) (e:Nat) (w:World) (base:Nat) (ok:Nat -> Prop):V d e w base ok (.slice none 0 0) []:=⟨none,0,rfl,Nat.le_refl _,Bj d w ok⟩
theorem Jm {ad:Addr} (h:V d e w base ok (.slice (some ad) n c) xs) (z:α) (i:Int) (h0:0 <= i) (h1:i<n) :
  ∃ cs,cs.length=d.sz /\ d.FK w ok (xs.getD i.toNat z) cs /\ ∀ j u,cs[j]? = some u -> w.cell? (ad.add (i.toNat * d.sz+j))=some u:=by
 obtain ⟨A,c',hv,_,hf⟩:=h
 injection hv with ha hn _
 subst ha
 obtain ⟨Uc,cs,he,q⟩:=Gb hf z i h0 (by omega)
 injection he with he;subst he
 exact ⟨cs,q.1,q.2.1,q.2.2.1⟩
def N (d:Kd α) (e:Nat) (w:World) (base:Nat) (ok:Nat -> Prop) (v:Value) (xs:List α):Prop :=
 (∀ k,v.ownBlock=some k -> ok k) /\ ∃ cs,w.ownsRow base e d.sz v xs.length cs /\ aS (d.FK w (fun k=>ok k /\ some k≠v.ownBlock)) d.sz xs cs
theorem zF (d:Kd α) (e:Nat) (w:World) (base:Nat) (ok:Nat -> Prop):N d e w base ok (.slice none 0 0) []:=⟨fun k hk=>by simp [Value.ownBlock] at hk,[],⟨by simp,.inl ⟨rfl,rfl⟩⟩,rfl⟩
theorem xL (hm:∀ k,ok k -> k<w.heap.size -> w'.heap[k]? = w.heap[k]? /\ ok' k) (h:N d e w base ok v xs):N d e w' base ok' v xs:=by
 obtain ⟨h0,cs,ho,hr⟩:=h
 refine ⟨fun k hk=>(hm k (h0 k hk) (ho.lt k hk).2).2,cs,⟨ho.1,?_⟩,hr.imp (fun _ _ q=>d.stay (fun k hk hl=>⟨(hm k hk.1 hl).1,(hm k hk.1 hl).2,hk.2⟩) q)⟩
 rcases ho.2 with q | ⟨g,cap,cur,rfl,hg,hh,q⟩
 ·exact .inl q
 ·exact .inr ⟨g,cap,cur,rfl,hg,(hm g (h0 g rfl) (ho.lt g rfl).2).1.trans hh,q⟩
theorem gP (h:N d e w base ok v xs) (hok:∀ k,ok k -> ok' k):N d e w base ok' v xs:=xL (fun k hk _=>⟨rfl,hok k hk⟩) h
theorem tY (h:N d e w base ok v xs):N d e w base (fun k=>ok k /\ k<w.heap.size) v xs:=xL (fun k hk hl=>⟨rfl,hk,hl⟩) h
theorem Gx (h:N d e w base ok v xs) (hm:∀ k,ok k -> k<w.heap.size -> w'.heap[k]? = w.heap[k]?):N d e w' base ok v xs:=xL (fun k hk hl=>⟨hm k hk hl,hk⟩) h
theorem Mk (h:N d e w base ok v xs):∀ k,v.ownBlock=some k -> k<w.heap.size:=fun k hk=>let ⟨_,_,ho,_⟩:=h;(ho.lt k hk).2
theorem Bl (h:N d e w base ok v xs):∃ A c,v=.slice A xs.length c /\ xs.length <= c /\ xs.length <= 9223372036854775807:=by
 obtain ⟨_,_,ho,_⟩:=h
 rcases ho.2 with ⟨q,h0⟩ | ⟨g,cap,cur,q,_,_,hc,hm,_⟩
 ·exact ⟨none,0,by rw [q,h0],by omega,by omega⟩
 ·exact ⟨_,cap,q,hc,by simp only [maxLen] at hm;omega⟩
theorem jW (h:N d e w base ok v xs):∃ A c,v=.slice A xs.length c:=let ⟨A,c,q,_⟩:=Bl h;⟨A,c,q⟩
theorem Gd (h:N d e w base ok v xs):v.cells.toList=[v] /\ v.oneCell'=true:=by
 obtain ⟨A,c,rfl⟩:=jW h
 exact ⟨rfl,rfl⟩
theorem tZ (h:N d e w base ok v xs) (hp:0<xs.length):∃ g cap,v=.slice (some ⟨g,0,none⟩) xs.length cap /\ base <= g /\ g<w.heap.size /\ ∃ cells,w.heap[g]? = some (.cells cells e (0,0)):=by
 obtain ⟨_,_,ho,_⟩:=h
 rcases ho.2 with ⟨_,q⟩ | ⟨g,cap,cur,q,hb,hh,_⟩
 ·omega
 ·exact ⟨g,cap,q,hb,(ho.lt g (by rw [q];rfl)).2,cur,hh⟩
theorem Bn {A:Option Addr} (h:N d e w base ok (.slice A n c) xs):n=xs.length /\ n <= c:=by
 obtain ⟨A',c',he,hl,_⟩:=Bl h
 injection he with _ h2 h3
 exact ⟨h2,by omega⟩
theorem xM {g cap j:Nat} {x:α} {cs:List Value} (ho:w.ownsRow base e d.sz (.slice (some ⟨g,0,none⟩) n cap) xs.length cs) (hr:aS (d.FK w ok) d.sz xs cs) (hj:xs[j]? = some x):d.FK w ok x ((cs.drop (j * d.sz)).take d.sz) /\ ∀ i u,((cs.drop (j * d.sz)).take d.sz)[i]? = some u -> w.cell? ⟨g,j * d.sz+i,none⟩=some u:=by
 refine ⟨hr.at hj,fun i u hu=>?_⟩
 rw [List.getElem?_take] at hu
 split at hu
 ·rw [List.getElem?_drop] at hu
  have:=ho.cells (g:=g) rfl _ u hu
  rwa [add_zero] at this
 ·cases hu
theorem Rn (h:N d e w base ok v xs):V d e w base' ok v xs:=by
 obtain ⟨A,c,rfl,hl,hm⟩:=Bl h
 refine ⟨A,c,rfl,hl,rfl,hm,fun hp=>?_⟩
 obtain ⟨g,cap,q,_⟩:=tZ h hp
 injection q with q1 _ q3
 subst q1;subst q3
 obtain ⟨h0,cs,ho,hr⟩:=h
 refine ⟨_,rfl,fun _=>h0 g rfl,fun j x hj=>?_⟩
 obtain ⟨q1,q2⟩:=xM ho hr hj
 exact ⟨_,aV q1 (fun k hk=>hk.1),fun i u hu=>by rw [add_zero];exact q2 i u hu⟩
theorem fQ {g:Nat} {t:TypeId} {cs:Array Value} (h:w.heap[g]? = some (.cells cs t (0,0))) (i:Nat):w.frozen? ⟨g,i,none⟩=false:=by simp [World.frozen?,h]
theorem Bo {g cap:Nat} (h:N d e w base ok (.slice (some ⟨g,0,none⟩) n cap) xs) (z:α) (i:Int) (h0:0 <= i) (h1:i<n) :
  ∃ c,c.length=d.sz /\ d.FK w (fun k=>ok k /\ k≠g) (xs.getD i.toNat z) c /\ (∀ j u,c[j]? = some u -> w.cell? ⟨g,i.toNat * d.sz+j,none⟩=some u) /\ ∀ j,w.frozen? ⟨g,i.toNat * d.sz+j,none⟩=false:=by
 have hn:=(Bn h).1
 obtain ⟨g',_,q,_,_,cells,hh⟩:=tZ h (by omega)
 injection q with q
 injection q with q
 injection q with q
 subst q
 obtain ⟨_,cs,ho,hr⟩:=h
 have hi:=List.getElem?_eq_getElem (show i.toNat<xs.length by omega)
 obtain ⟨q1,q2⟩:=xM ho hr hi
 refine ⟨_,d.len q1,?_,q2,fun j=>fQ hh _⟩
 rw [List.getD_eq_getElem?_getD,hi]
 exact aV q1 (fun k hk=>⟨hk.1,fun e=>hk.2 (by rw [e];rfl)⟩)
theorem Gy {m:Nat} (h:N d e w base ok (.slice A n c) xs) (hm:m <= xs.length):N d e w base ok (.slice A m c) (xs.take m):=by
 have hv:(Value.slice A m c).ownBlock=(Value.slice A n c).ownBlock:=by cases A <;> rfl
 obtain ⟨h0,cs,ho,hr⟩:=h
 refine ⟨by rw [hv];exact h0,cs.take (m * d.sz),⟨?_,?_⟩,by rw [hv];exact hr.take m⟩
 ·rw [List.length_take,List.length_take,hr.len,Nat.min_eq_left hm];exact Nat.min_eq_left (Nat.mul_le_mul_right _ hm)
 ·rw [List.length_take,Nat.min_eq_left hm]
  rcases ho.2 with ⟨q,hl⟩ | ⟨g,cap,cur,q,hb,hh,hc,hcm,hs,ht⟩
  ·injection q with q1 _ q3
   subst q1;subst q3
   exact .inl ⟨by rw [show m=0 by omega],by omega⟩
  ·injection q with q1 _ q3
   subst q1;subst q3
   exact .inr ⟨g,c,cur,rfl,hb,hh,by omega,hcm,hs,by rw [<- ht,List.take_take,Nat.min_eq_left (Nat.mul_le_mul_right _ hm)]⟩
theorem dN {g:Nat} {t:TypeId}:∀ (vs:List Value) (o:Nat) (w:World) (cur:Array Value),w.heap[g]? = some (.cells cur t (0,0)) -> o+vs.length <= cur.size -> ∃ cur',(w.setCells g o vs).heap[g]? = some (.cells cur' t (0,0)) /\ cur'.toList=cur.toList.take o++vs++cur.toList.drop (o+vs.length)
 | [],o,w,cur,h,_=>⟨cur,h,by simp⟩
 | v::vs,o,w,cur,h,hl=>by
  simp only [List.length_cons] at hl ⊢
  obtain ⟨cur',h1,h2⟩:=dN (g:=g) (t:=t) vs (o+1) (w.setCell ⟨g,o,none⟩ v) (cur.setIfInBounds o v) (by simp [World.setCell,Array.getElem?_modify,h]) (by simp;omega)
  refine ⟨cur',h1,h2.trans ?_⟩
  rw [Array.toList_setIfInBounds]
  apply List.ext_getElem?
  intro j
  simp only [List.append_assoc,List.getElem?_append,List.length_take,List.length_set,Array.length_toList,List.getElem?_take,List.getElem?_drop,List.getElem?_set,List.getElem?_cons]
  grind
theorem bM (g:Nat):∀ (vs:List Value) (o:Nat) (w:World),w.grownBy (w.setCells g o vs) (some g)
 | [],o,w=>⟨rfl,rfl,rfl,Nat.le_refl _,fun _ _ _=>rfl⟩
 | v::vs,o,w=>by
  have h:=bM g vs (o+1) (w.setCell ⟨g,o,none⟩ v)
  have hs:(w.setCell ⟨g,o,none⟩ v).heap.size=w.heap.size:=by simp [World.setCell]
  exact ⟨h.os,h.tape,h.output,Nat.le_trans (Nat.le_of_eq hs.symm) h.size,fun k hk hne=>(h.block k (by rw [hs];exact hk) hne).trans (by
   have:g≠k:=fun e=>hne (by rw [e])
   simp [World.setCell,Array.getElem?_modify,this])⟩
theorem Jo {g cap j:Nat} {c seg:List Value} {x':α} {qX:Nat -> Prop} (h:N d e w base ok (.slice (some ⟨g,0,none⟩) n cap) xs) (i:Int) (h0:0 <= i) (h1:i<n) (hcl:c.length=d.sz) (hcc:∀ j u,c[j]? = some u -> w.cell? ⟨g,i.toNat * d.sz+j,none⟩=some u)
  (hj:j+seg.length <= d.sz) (hM:d.FK w qX x' (c.take j++seg++c.drop (j+seg.length))) (oV:∀ k,qX k -> ok k /\ k≠g) :
  N d e (w.setCells g (i.toNat * d.sz+j) seg) base ok (.slice (some ⟨g,0,none⟩) n cap) (xs.set i.toNat x') /\ w.grownBy (w.setCells g (i.toNat * d.sz+j) seg) (some g):=by
 have hn:=(Bn h).1
 have hi:i.toNat<xs.length:=by omega
 obtain ⟨q0,cs,ho,hr⟩:=h
 obtain ⟨_,q2⟩:=xM ho hr (List.getElem?_eq_getElem hi)
 have hlen:=hr.len
 have hle:i.toNat * d.sz+d.sz <= xs.length * d.sz:=by rw [<- Nat.succ_mul];exact Nat.mul_le_mul_right _ hi
 have hc:c=(cs.drop (i.toNat * d.sz)).take d.sz:=by
  apply List.ext_getElem?
  intro m
  by_cases hm:m<d.sz
  ·have e2:=List.getElem?_eq_getElem (l:=(cs.drop (i.toNat * d.sz)).take d.sz) (i:=m) (by simp;omega)
   rw [List.getElem?_eq_getElem (by omega),e2,<- hcc m _ (List.getElem?_eq_getElem (by omega)),q2 m _ e2]
  ·rw [List.getElem?_eq_none (by omega),List.getElem?_eq_none (by simp;omega)]
 rcases ho.2 with ⟨q,_⟩ | ⟨g',cap',cur,q,hb,hh,hcap,hmx,hs,ht⟩
 ·cases q
 injection q with q1 _ q3
 injection q1 with q1
 injection q1 with q1
 subst q1;subst q3
 have hsz:xs.length * d.sz <= cap * d.sz:=Nat.mul_le_mul_right _ hcap
 obtain ⟨cur',s1,s2⟩:=dN seg (i.toNat * d.sz+j) w cur hh (by omega)
 have hgrow:=bM g seg (i.toNat * d.sz+j) w
 have far:=hgrow.block
 have hcs:cs.take (i.toNat * d.sz)++(c.take j++seg++c.drop (j+seg.length))++cs.drop (i.toNat * d.sz+d.sz)=cs.take (i.toNat * d.sz+j)++seg++cs.drop (i.toNat * d.sz+j+seg.length):=by
  rw [hc]
  have e1:cs.take (i.toNat * d.sz+j)=cs.take (i.toNat * d.sz)++((cs.drop (i.toNat * d.sz)).take d.sz).take j:=by rw [List.take_add,List.take_take,Nat.min_eq_left (by omega)]
  have e2:cs.drop (i.toNat * d.sz+j+seg.length)=((cs.drop (i.toNat * d.sz)).take d.sz).drop (j+seg.length)++cs.drop (i.toNat * d.sz+d.sz):=by
   rw [Nat.add_assoc,<- List.drop_drop,List.drop_take]
   conv=>lhs;rw [<- List.take_append_drop (d.sz - (j+seg.length)) ((cs.drop (i.toNat * d.sz)).drop (j+seg.length))]
   rw [List.drop_drop,List.drop_drop,show i.toNat * d.sz+(j+seg.length)+(d.sz - (j+seg.length))=i.toNat * d.sz+d.sz by omega]
  rw [e1,e2];simp only [List.append_assoc]
 have hr2:aS (d.FK (w.setCells g (i.toNat * d.sz+j) seg) (fun k=>ok k /\ some k≠(Value.slice (some ⟨g,0,none⟩) n cap).ownBlock)) d.sz (xs.set i.toNat x') (cs.take (i.toNat * d.sz+j)++seg++cs.drop (i.toNat * d.sz+j+seg.length)):=by
  rw [<- hcs]
  refine aS.set (d.len hM) ?_ (hr.imp (fun _ _ q=>d.stay (fun k hk hl=>⟨far k hl hk.2,hk⟩) q)) hi
  exact d.stay (fun k hk hl=>⟨far k hl (fun e=>(oV k hk).2 (by injection e)),(oV k hk).1,fun e=>(oV k hk).2 (by injection e)⟩) hM
 refine ⟨⟨q0,_,⟨?_,.inr ⟨g,cap,cur',by rw [List.length_set,hn],hb,s1,by rw [List.length_set];exact hcap,hmx,?_,?_⟩⟩,hr2⟩,hgrow⟩
 ·exact hr2.len
 ·rw [<- Array.length_toList,s2];simp only [List.length_append,List.length_take,List.length_drop,Array.length_toList];omega
 ·rw [s2,List.length_set,<- ht]
  apply List.ext_getElem?
  intro m
  simp only [List.append_assoc,List.getElem?_append,List.length_take,Array.length_toList,List.getElem?_take,List.getElem?_drop]
  grind
end
section
variable {α:Type} {P:Program} {o:Oper} {a:Act} {d:Kd α} {W:World} {K:Act -> World -> Prop} {Q:Exit -> Act -> World -> Prop} {base e:Nat} {xs ys:List α} {ok qX:Nat -> Prop} {v v1:Value} {w1:World}
theorem Jp {cs:List Value} (hr:aS (d.FK W qX) d.sz xs cs) (hok:∀ k,qX k -> ok k) (hf:ok W.heap.size) (hb:base <= W.heap.size) (hm:xs.length <= 9223372036854775807):N d e (W.alloc (.cells cs.toArray e)) base ok (.slice (some ⟨W.heap.size,0,none⟩) xs.length xs.length) xs:=by
 refine ⟨fun k hk=>?_,cs,?_,hr.imp (fun _ _ q=>d.stay (fun k hk hl=>⟨(World.grownBy_alloc W _ none).block k hl (by simp),hok k hk,fun e=>?_⟩) q)⟩
 ·injection hk with hk;subst hk;exact hf
 ·have:=World.ownsRow_lit (base:=base) (e:=e) (size:=d.sz) W cs.toArray xs.length hb (by simpa [maxLen] using hm) (by simpa using hr.len)
  simpa using this
 ·injection e with e;have:k=W.heap.size:=e;omega
theorem Gf {cs:List Value} (hrun:(execOp a.eval o).run P W=.ok (.value (.slice (some ⟨W.heap.size,0,none⟩) xs.length xs.length)) (W.alloc (.cells cs.toArray e)))
  (hr:aS (d.FK W qX) d.sz xs cs) (hok:∀ k,qX k -> ok k) (hf:ok W.heap.size) (hb:base <= W.heap.size) (hm:xs.length <= 9223372036854775807)
  (h:∀ v1 w1,N d e w1 base ok v1 xs -> W.grownBy w1 none -> (∀ b,v1.ownBlock=some b -> W.heap.size <= b) -> K (a.put o.dst v1) w1):o.wp P a W K Q:=by
 unfold Oper.wp
 rw [hrun]
 exact h _ _ (Jp hr hok hf hb hm) (World.grownBy_alloc W _ none) (fun b h=>Nat.le_of_eq (by injection h))
theorem jX {z:Array Value} (hz:0<z.size):∀ m,(madeCells z (m * z.size)).toList=(List.replicate m z.toList).flatten
 | 0=>by simp [madeCells]
 | m+1=>by
  rw [List.replicate_succ,List.flatten_cons,<- jX hz m]
  simp only [madeCells,Array.toList_map,Array.toList_range]
  rw [Nat.add_mul,Nat.one_mul,Nat.add_comm,List.range_add,List.map_append,List.map_map]
  congr 1
  ·apply List.ext_getElem
   ·simp
   ·intro i h1 h2
    simp only [List.length_map,List.length_range] at h1
    simp [Nat.mod_eq_of_lt h1,getElem!_pos z i h1]
  ·apply List.map_congr_left
   intro i _
   simp
theorem Gz {t:TypeId} {x y:Operand} {n:Int} {z:Value} {bytes:Nat} {z0:α} (ho:o.op=.makeSlice t x y) (hx:a.eval x=.int .i64 n) (hy:a.eval y=.int .i64 n)
  (ht:P.underlying t=some (.slice e)) (hinfo:(P.info? e).map (fun i=>(i.zero,i.size,i.bytes))=some (some z,d.sz,bytes)) (hz:z.cells.size=d.sz) (hs0:0<d.sz) (hb0:0<bytes)
  (hzero:d.FK W qX z0 z.cells.toList) (hok:∀ k,qX k -> ok k) (hf:ok W.heap.size) (h0:0 <= n) (hl:n.toNat * bytes <= 281474976710656) (hb:base <= W.heap.size)
  (h:∀ v1 w1,N d e w1 base ok v1 (List.replicate n.toNat z0) -> W.grownBy w1 none -> (∀ b,v1.ownBlock=some b -> W.heap.size <= b) -> K (a.put o.dst v1) w1):o.wp P a W K Q:=by
 obtain ⟨m,rfl⟩:=Int.eq_ofNat_of_zero_le h0
 simp only [Int.toNat_natCast] at hl h
 obtain ⟨i0,hi,hzz⟩:=Option.map_eq_some_iff.1 hinfo
 simp only [Prod.mk.injEq] at hzz
 obtain ⟨hz0,hz1,hz2⟩:=hzz
 have hm:m <= 281474976710656:=Nat.le_trans (Nat.le_mul_of_pos_right _ hb0) hl
 have hr:=run_make (P:=P) W t e i0 z ht hi hz0 .i64 .i64 (m:Int) (m:Int) (by omega) (by omega) (by
  have h3:((i0.bytes * m:Nat):Int) <= 281474976710656:=by rw [hz2,Nat.mul_comm];omega
  rwa [Int.natCast_mul] at h3) (by omega)
 simp only [Int.toNat_natCast] at hr
 have hfl:=jX (z:=z.cells) (by omega) m
 refine Gf (xs:=List.replicate m z0) (cs:=(List.replicate m z.cells.toList).flatten) ?_ (aS.rep (by simpa using hz) hzero m) hok hf hb (by simp;omega) h
 rw [<- hfl,hz,<- hz1]
 simp [execOp,ho,hx,hy,hr]
theorem zG {cs news:List Value} (h0:∀ k,v.ownBlock=some k -> ok k) (hr:aS (d.FK W (fun k=>ok k /\ some k≠v.ownBlock)) d.sz xs cs) (hn:aS (d.FK W qX) d.sz ys news) (oV:∀ k,qX k -> ok k /\ some k≠v.ownBlock) (hf:∀ k,W.heap.size <= k -> ok k)
  (ho:w1.ownsRow base e d.sz v1 (xs.length+ys.length) (cs++news)) (hg:W.grownBy w1 v.ownBlock) (hat:v1.ownBlock=v.ownBlock \/ v1.ownBlock=some W.heap.size):N d e w1 base ok v1 (xs++ys):=by
 have st:∀ {x:α} {c:List Value} {q:Nat -> Prop},(∀ k,q k -> ok k /\ some k≠v.ownBlock) -> d.FK W q x c -> d.FK w1 (fun k=>ok k /\ some k≠v1.ownBlock) x c:=fun hq hx=>d.stay (fun k hk hl=>⟨hg.block k hl (hq k hk).2,(hq k hk).1,fun e=>by
  rcases hat with h | h
  ·exact (hq k hk).2 (by rw [e,h])
  ·rw [h] at e;injection e with e;omega⟩) hx
 refine ⟨fun k hk=>?_,cs++news,by rw [List.length_append];exact ho,(hr.imp (fun _ _=>st (fun _ hk=>hk))).app (hn.imp (fun _ _=>st oV))⟩
 rcases hat with h | h
 ·exact h0 k (by rw [<- h];exact hk)
 ·rw [h] at hk;injection hk with hk;exact hf k (by omega)
theorem Bp {x y:Operand} {t:TypeId} {z:Value} {bytes m c:Nat} {A:Option Addr} (ho:o.op=.call { callee:=.builtin .append,args:=#[x,y],argTypes:=#[t,t] })
  (ht:P.underlying t=some (.slice e)) (hinfo:(P.info? e).map (fun i=>(i.zero,i.size,i.bytes))=some (some z,d.sz,bytes)) (hz:z.cells.size=d.sz) (hs0:0<d.sz) (hb0:0<bytes)
  (hy:a.eval y=.slice A m c) (HO:N d e W base ok (a.eval x) xs) (HR:F d W qX A m ys) (oV:∀ k,qX k -> ok k /\ some k≠(a.eval x).ownBlock) (hf:∀ k,W.heap.size <= k -> ok k) (hb:base <= W.heap.size) (hl:(xs.length+m) * bytes <= 140737488355328)
  (h:∀ v1 w1,N d e w1 base ok v1 (xs++ys) -> W.grownBy w1 (a.eval x).ownBlock -> (v1.ownBlock=(a.eval x).ownBlock \/ ∃ b,v1.ownBlock=some b /\ W.heap.size <= b) -> K (a.put o.dst v1) w1):o.wp P a W K Q:=by
 obtain ⟨i0,hi,hzz⟩:=Option.map_eq_some_iff.1 hinfo
 simp only [Prod.mk.injEq] at hzz
 obtain ⟨hz0,hz1,hz2⟩:=hzz
 obtain ⟨h0,cs,hown,hr⟩:=HO
 have hlen:xs.length+m <= 140737488355328:=Nat.le_trans (Nat.le_mul_of_pos_right _ hb0) hl
 have key:∃ v1 w1,(Builtin.append_ #[t,t] o.type #[a.eval x,.slice A m c]).run P W=.ok v1 w1 /\ N d e w1 base ok v1 (xs++ys) /\ W.grownBy w1 (a.eval x).ownBlock /\ (v1.ownBlock=(a.eval x).ownBlock \/ v1.ownBlock=some W.heap.size):=by
  rcases Nat.eq_zero_or_pos m with hm0 | hp
  ·subst hm0
   obtain rfl:ys=[]:=List.eq_nil_of_length_eq_zero HR.1
   refine ⟨a.eval x,W,?_,by rw [List.append_nil];exact ⟨h0,cs,hown,hr⟩,⟨rfl,rfl,rfl,Nat.le_refl _,fun _ _ _=>rfl⟩,.inl rfl⟩
   have hfc:(Builtin.firstCells i0.size 0 (.slice A 0 c)).run P W=.ok #[] W:=by cases A <;> simp [Builtin.firstCells,loadCells,loadCellsFrom]
   rcases hown.2 with ⟨q,hn⟩ | ⟨g,cap,cur,q,_,_,hnc,_⟩
   ·rw [q];simp [Builtin.append_,run_underlying ht,sizeOf,typeInfo,hi,Builtin.lenOf,hfc,storeCells]
   ·rw [q];simp [Builtin.append_,run_underlying ht,sizeOf,typeInfo,hi,Builtin.lenOf,hfc,hnc,storeCells]
  ·obtain ⟨ad,rfl,_,hx⟩:=HR.2.2 hp
   obtain ⟨news,hn,hc⟩:=zD (R:=d.FK W qX) (sz:=d.sz) (f:=fun k=>W.cell? (ad.add k)) ys 0 (fun j x hj=>by
    obtain ⟨c,q1,q2⟩:=hx j x hj
    exact ⟨c,d.len q1,q1,fun i u hu=>by rw [Nat.zero_add];exact q2 i u hu⟩)
   obtain ⟨v1,w1,hrun,h2,hg,_,hat⟩:=run_append_own_at (P:=P) W base t o.type e i0 z d.sz bytes ht hi hz0 hz1 hz2 hz hs0 (a.eval x) xs.length cs hown ad m c news (by rw [hn.len,HR.1]) (fun j u hu=>by have:=hc j u hu;rwa [Nat.zero_add] at this) (hn.one (fun _ _ q=>d.one q)) (by simp only [maxLen];omega) hl hb
   exact ⟨v1,w1,hrun,zG h0 hr hn oV hf (by rw [HR.1];exact h2) hg hat,hg,hat⟩
 obtain ⟨v1,w1,hr1,h1,hg,hat⟩:=key
 unfold Oper.wp execOp
 simp only [ho,resolve,invoke,builtin,Sem.run_bind,Sem.run_pure,Result.andThen_ok,List.map_toArray,List.map_cons,List.map_nil,hy,hr1]
 exact h v1 w1 h1 hg (hat.imp id (fun q=>⟨_,q,Nat.le_refl _⟩))
theorem Ec {x y:Operand} {t ti:TypeId} {z:Value} {bytes:Nat} {z0:α} {k kx:IntKind} {n:Int} (ho:o.op=.call { callee:=.builtin .append,args:=#[x,y],argTypes:=#[t,ti] })
  (ht:P.underlying t=some (.slice e)) (hti:P.underlying ti=some (.int k)) (hinfo:(P.info? e).map (fun i=>(i.zero,i.size,i.bytes))=some (some z,d.sz,bytes)) (hz:z.cells.size=d.sz) (hs0:0<d.sz) (hb0:0<bytes)
  (hx:a.eval x=.slice none 0 0) (hy:a.eval y=.int kx n) (hzero:d.FK W (fun _=>False) z0 z.cells.toList) (hf:∀ k,W.heap.size <= k -> ok k) (h0:0 <= n) (hb:base <= W.heap.size) (hl:n.toNat * bytes <= 140737488355328)
  (h:∀ v1 w1,N d e w1 base ok v1 (List.replicate n.toNat z0) -> W.grownBy w1 none -> (∀ b,v1.ownBlock=some b -> W.heap.size <= b) -> K (a.put o.dst v1) w1):o.wp P a W K Q:=by
 obtain ⟨m,rfl⟩:=Int.eq_ofNat_of_zero_le h0
 simp only [Int.toNat_natCast] at hl h
 obtain ⟨i0,hi,hzz⟩:=Option.map_eq_some_iff.1 hinfo
 simp only [Prod.mk.injEq] at hzz
 obtain ⟨hz0,hz1,hz2⟩:=hzz
 have hm:m <= 140737488355328:=Nat.le_trans (Nat.le_mul_of_pos_right _ hb0) hl
 have key:∃ v1 w1,(Builtin.append_ #[t,ti] o.type #[.slice none 0 0,.int kx (m:Int)]).run P W=.ok v1 w1 /\ N d e w1 base ok v1 (List.replicate m z0) /\ W.grownBy w1 none /\ (v1.ownBlock=none \/ v1.ownBlock=some W.heap.size):=by
  rcases Nat.eq_zero_or_pos m with hm0 | hp
  ·subst hm0
   refine ⟨.slice none 0 0,W,?_,zF _ _ _ _ _,⟨rfl,rfl,rfl,Nat.le_refl _,fun _ _ _=>rfl⟩,.inl rfl⟩
   have hw0:IntKind.i64.wrap 0=0:=by rw [IntKind.wrap_i64];rfl
   simp [Builtin.append_,run_underlying ht,run_underlying hti,sizeOf,typeInfo,hi,asInt,asIntOf,hw0]
  ·have a1:IntKind.i64.wrap (m:Int)=m:=by rw [IntKind.wrap_i64];omega
   have a2:¬ (9223372036854775807<(m:Int)):=by omega
   have a3:¬ (281474976710656<Builtin.nextslicecap m 0 * i0.bytes):=by rw [nextslicecap_zero hp,hz2];omega
   have a4:¬ (281474976710656<(m:Int) * (i0.bytes:Int)):=by rw [<- Int.natCast_mul,hz2];omega
   have a5:¬ ((m:Int)<0):=by omega
   have a6:m≠0:=by omega
   have a7:m * i0.size≠0:=Nat.mul_ne_zero a6 (by omega)
   have hrun:(Builtin.append_ #[t,ti] o.type #[.slice none 0 0,.int kx (m:Int)]).run P W=.ok (.slice (some ⟨W.heap.size,0,none⟩) m (grownCap W m 0 e)) (W.drew.alloc (.cells (Builtin.zeroCells z.cells m++Builtin.zeroCells z.cells (grownCap W m 0 e - m)) e)):=by
    simp [Builtin.append_,run_underlying ht,run_underlying hti,sizeOf,typeInfo,zeroValue,hi,hz0,asInt,asIntOf,a1,a2,a3,a4,a5,a6,a7,Question.forced,run_firstCells_none,newRow,grownCap]
   have hge:=grownCap_ge W m 0 e
   have hcm:=grownCap_le_maxLen W m 0 e (by simp only [maxLen];omega)
   have hzl:(Builtin.zeroCells z.cells m).toList=(List.replicate m z.cells.toList).flatten:=by
    rw [<- jX (by omega) m];rfl
   have hrep:aS (d.FK W (fun _=>False)) d.sz (List.replicate m z0) (Builtin.zeroCells z.cells m).toList:=by rw [hzl];exact aS.rep (by simpa using hz) hzero m
   have hg:W.grownBy (W.drew.alloc (.cells (Builtin.zeroCells z.cells m++Builtin.zeroCells z.cells (grownCap W m 0 e - m)) e)) none:=⟨rfl,rfl,rfl,by simp,fun k hk _=>heap_alloc_old W.drew _ hk⟩
   refine ⟨_,_,hrun,?_,hg,.inr rfl⟩
   have:=zG (d:=d) (W:=W) (w1:=W.drew.alloc (.cells (Builtin.zeroCells z.cells m++Builtin.zeroCells z.cells (grownCap W m 0 e - m)) e)) (base:=base) (e:=e) (ok:=ok) (qX:=fun _=>False) (v:=.slice none 0 0) (v1:=.slice (some ⟨W.heap.size,0,none⟩) m (grownCap W m 0 e)) (xs:=[]) (ys:=List.replicate m z0) (cs:=[]) (fun k hk=>by cases hk) rfl hrep (fun _ hk=>hk.elim) hf ⟨by simpa using hrep.len,.inr ⟨W.heap.size,_,_,by simp,hb,heap_alloc_new W.drew _,by simpa using hge,hcm,?_,?_⟩⟩ hg (.inr rfl)
   ·simpa using this
   ·simp only [Array.size_append,size_zeroCells,hz,<- Nat.add_mul];congr 1;omega
   ·have hl2:m * d.sz=(Builtin.zeroCells z.cells m).toList.length:=by rw [Array.length_toList,size_zeroCells,hz]
    simp only [List.length_nil,Nat.zero_add,List.length_replicate,List.nil_append,Array.toList_append,hl2,List.take_left]
 obtain ⟨v1,w1,hr1,h1,hg,hat⟩:=key
 unfold Oper.wp execOp
 simp only [ho,resolve,invoke,builtin,Sem.run_bind,Sem.run_pure,Result.andThen_ok,List.map_toArray,List.map_cons,List.map_nil,hx,hy,hr1]
 exact h v1 w1 h1 hg (fun b q=>by
  rcases hat with h | h <;> rw [h] at q
  ·cases q
  ·injection q with q;omega)
end
end Kd
end Go.Proofs.YtmmagcjlfcicfaaGreat.Ab
set_option linter.unusedVariables false
set_option linter.unusedSimpArgs false
namespace Go.Proofs.YtmmagcjlfcicfaaGreat.Ab
open Go.RowKit
inductive Ty where
 | unit | int (k:IntKind) | bool | str | sl (e:TypeId) (t:Ty) | pair (a b:Ty)
 deriving DecidableEq,Inhabited
@[reducible] def Ty.D:Ty -> Type
 | .unit=>Unit | .int _=>Int | .bool=>Bool | .str=>ByteArray | .sl _ t=>List t.D | .pair a b=>a.D×b.D
def He:Kd Unit where
 sz:=0
 FK:=fun _ _ _ cs=>cs=[]
 len:=fun h=>by rw [h];rfl
 one:=fun h u hu=>by rw [h] at hu;cases hu
 stay:=fun _ h=>h
def Ty.kd:(t:Ty) -> Kd t.D
 | .unit=>He | .int k=>Kd.int k | .bool=>Kd.bool | .str=>Kd.string | .sl e t=>Kd.slice e t.kd | .pair a b=>Kd.pair a.kd b.kd
def Ty.z:(t:Ty) -> t.D
 | .unit=>() | .int _=>(0:Int) | .bool=>false | .str=>⟨#[]⟩ | .sl _ _=>[] | .pair a b=>(a.z,b.z)
def Ty.sz:Ty -> Nat
 | .unit=>0 | .pair a b=>a.sz+b.sz | _=>1
def Ty.flat:Ty -> Bool
 | .sl _ _=>false | .pair a b=>a.flat&&b.flat | _=>true
def Ty.gQ:Ty -> Bool
 | .unit=>true | .int _=>true | .bool=>true | .str=>false | .sl _ _=>false | .pair a b=>a.gQ&&b.gQ
def oW:IntKind -> IntKind -> Bool
 | .i8,.i8 | .i16,.i16 | .i32,.i32 | .i64,.i64 | .u8,.u8 | .u16,.u16 | .u32,.u32 | .u64,.u64=>true
 | _,_=>false
theorem eD:∀ {a b:IntKind},oW a b=true -> a=b:=by
 intro a b h
 cases a <;> cases b <;> first | rfl | cases h
def Ty.beq:Ty -> Ty -> Bool
 | .unit,.unit=>true
 | .int k,.int k'=>oW k k'
 | .bool,.bool=>true
 | .str,.str=>true
 | .sl e t,.sl e' t'=>Nat.beq e e'&&t.beq t'
 | .pair a b,.pair a' b'=>a.beq a'&&b.beq b'
 | _,_=>false
theorem Ty.beq_eq:∀ {a b:Ty},a.beq b=true -> a=b:=by
 intro a
 induction a with
 | unit=>intro b h;cases b <;> first | rfl | cases h
 | int k=>intro b h;cases b <;> first | (cases h;done) | (simp only [Ty.beq] at h;rw [eD h])
 | bool=>intro b h;cases b <;> first | rfl | cases h
 | str=>intro b h;cases b <;> first | rfl | cases h
 | sl e t ih=>intro b h;cases b <;> first | (cases h;done) | (simp only [Ty.beq,Bool.and_eq_true] at h;rw [Nat.eq_of_beq_eq_true h.1,ih h.2])
 | pair x y Gg ihy=>intro b h;cases b <;> first | (cases h;done) | (simp only [Ty.beq,Bool.and_eq_true] at h;rw [Gg h.1,ihy h.2])
def oZ (t t':Ty) (xs:List t.D):Option (List t'.D) :=
 match h:t.beq t' with
 | true=>some (Ty.beq_eq h ▸ xs)
 | false=>none
def pE (t t':Ty) (x:t.D):Option t'.D :=
 match h:t.beq t' with
 | true=>some (Ty.beq_eq h ▸ x)
 | false=>none
def Bq (k k' v v':Ty) (xs:List (k.D×v.D)):Option (List (k'.D×v'.D)) :=
 match h:k.beq k',h':v.beq v' with
 | true,true=>some (Ty.beq_eq h ▸ Ty.beq_eq h' ▸ xs)
 | _,_=>none
def Ro:Bool -> Bool -> Bool
 | true,b=>b
 | false,_=>false
def fC:(t:Ty) -> t.D -> t.D -> Bool
 | .unit,_,_=>true
 | .int _,a,b=>(a==b:Bool)
 | .bool,a,b=>(a==b:Bool)
 | .str,_,_=>false
 | .sl _ _,_,_=>false
 | .pair t u,a,b=>(fC t a.1 b.1&&fC u a.2 b.2)
def jB (tk tv:Ty) (k:tk.D):List (tk.D×tv.D) -> Option tv.D
 | []=>none
 | e::r=>match fC tk k e.1 with | true=>some e.2 | false=>jB tk tv k r
def vM (tk tv:Ty) (k:tk.D) (v:tv.D):List (tk.D×tv.D) -> List (tk.D×tv.D)
 | []=>[(k,v)]
 | e::r=>match fC tk k e.1 with | true=>(k,v)::r | false=>e::vM tk tv k v r
def jG {α:Type} (tk:Ty) (k:tk.D):List (tk.D×α) -> Option α
 | []=>none
 | e::r=>match fC tk k e.1 with | true=>some e.2 | false=>jG tk k r
def zH {α R:Type} (tk:Ty) (k:tk.D) (κ:Option α -> Option R):List (tk.D×α) -> Option R
 | []=>κ none
 | e::r=>match fC tk k e.1 with | true=>κ (some e.2) | false=>zH tk k κ r
def rT {α:Type} (tk:Ty) (k:tk.D) (v:α):List (tk.D×α) -> Option (List (tk.D×α))
 | []=>some [(k,v)]
 | e::r=>match fC tk k e.1 with | true=>none | false=>(match rT tk k v r with | some l=>some (e::l) | none=>none)
inductive AV where
 | undef
 | hole
 | int (k:IntKind) (n:Int)
 | bool (b:Bool)
 | str (s:ByteArray)
 | nil
 | ro (e:TypeId) (t:Ty) (xs:List t.D)
 | rz (z:Bool) (e:TypeId) (t:Ty) (xs:List t.D)
 | own (n:Nat)
 | vw (n z:Nat) (l h:Int)
 | ptr (n off:Nat)
 | kJ (n z:Nat) (i:Int) (off:Nat)
 | kS (t:Ty) (x:t.D) (off:Nat)
 | dyn (p:AV) (c:Nat) (j:Int)
 | agg (cs:List AV)
 | zI (vs:List AV)
 | lJ (f:FuncId) (caps:List AV)
 | mv (f:FuncId) (first:List AV)
inductive Obj where
 | row (w:Bool) (e:TypeId) (t:Ty) (xs:List t.D)
 | box (T:TypeId) (cs:List AV)
 | mp (T:TypeId) (ak:Bool) (tk:Ty) (av:Bool) (tv:Ty) (es:List (tk.D×tv.D))
 | fm (T:TypeId) (ak:Bool) (tk:Ty) (es:List (tk.D×AV))
structure St where
 sl:Nat -> AV
 mem:Nat -> Option Obj
 gU:Nat
 n:Nat
 np:Nat
def unpack:(t:Ty) -> t.D -> List AV
 | .unit,_=>[] | .int k,n=>[.int k n] | .bool,b=>[.bool b] | .str,s=>[.str s] | .sl e t,xs=>[.ro e t xs]
 | .pair a b,p=>unpack a p.1++unpack b p.2
def eO:Ty -> List AV
 | .unit=>[] | .int k=>[.int k 0] | .bool=>[.bool false] | .str=>[.str ⟨#[]⟩] | .sl _ _=>[.nil] | .pair a b=>eO a++eO b
def rowOf (m:Nat -> Option Obj) (e:TypeId) (t:Ty):AV -> Option (List t.D×List Nat)
 | .nil=>some ([],[])
 | .ro e' t' xs=>match Nat.beq e e' with | true=>(match oZ t' t xs with | some ys=>some (ys,[]) | none=>none) | false=>none
 | .vw n z l h=>match m n with
  | some (.row _ e' t' xs)=>(match Nat.beq e e'&&Nat.beq z t.sz with
   | true=>(match oZ t' t xs with | some ys=>some ((ys.take h.toNat).drop l.toNat,[n]) | none=>none)
   | false=>none)
  | _=>none
 | .rz _ e' t' xs=>match Nat.beq e e' with | true=>(match oZ t' t xs with | some ys=>some (ys,[]) | none=>none) | false=>none
 | .own n=>match m n with
  | some (.row _ e' t' xs)=>(match Nat.beq e e' with | true=>(match oZ t' t xs with | some ys=>some (ys,[n]) | none=>none) | false=>none)
  | _=>none
 | _=>none
def pack (m:Nat -> Option Obj):(t:Ty) -> List AV -> Option (t.D×List AV×List Nat)
 | .unit,r=>some ((),r,[])
 | .int k,.int k' n::r=>match oW k k' with | true=>some (n,r,[]) | false=>none
 | .bool,.bool b::r=>some (b,r,[])
 | .str,.str s::r=>some (s,r,[])
 | .sl e t,v::r=>(match rowOf m e t v with | some (ys,ns)=>some (ys,r,ns) | none=>none)
 | .pair a b,cs=>match pack m a cs with
  | some (x,r,ns)=>(match pack m b r with | some (y,r',ns')=>some ((x,y),r',ns++ns') | none=>none)
  | none=>none
 | _,_=>none
structure VT where
 agg:Bool
 t:Ty
 own:Bool
@[reducible] def PD:List VT -> Type
 | []=>Unit
 | v::r=>v.t.D×PD r
def fJ:Ty -> Bool
 | .sl _ t=>t.flat
 | .pair a b=>fJ a&&fJ b
 | _=>true
def Hf:List VT -> Bool
 | []=>true
 | v::r=>(v.t.flat||(v.own&&fJ v.t))&&Hf r
inductive PV where
 | cell (t:Ty) | own (e:TypeId) (t:Ty) | box (T:TypeId) (cs:List PV) | agg (cs:List PV) | nil
 | pin (row:Bool) (j:Nat) | ref (t:Ty) | lJ (g:FuncId) (cs:List PV) | mp (T:TypeId) (ak:Bool) (tk:Ty) (av:Bool) (tv:Ty)
mutual
@[reducible] def PV.D:PV -> Type
 | .cell t=>t.D | .own _ t=>List t.D | .box _ cs=>qY cs | .agg cs=>qY cs | .nil=>Unit
 | .pin _ _=>Unit | .ref t=>t.D | .lJ _ cs=>qY cs | .mp _ _ tk _ tv=>List (tk.D×tv.D)
@[reducible] def qY:List PV -> Type
 | []=>Unit
 | p::r=>p.D×qY r
end
inductive PT where
 | val (v:VT) | pv (p:PV) | fK (T:TypeId) (cs:List PV) | fT (e:TypeId) (t:Ty) | give (e:TypeId) (t:Ty) | gv (p:PV)
@[reducible] def PT.D:PT -> Type
 | .val v=>v.t.D | .pv p=>p.D | .fK _ cs=>qY cs | .fT _ t=>List t.D | .give _ t=>List t.D | .gv p=>p.D
@[reducible] def AD:List PT -> Type
 | []=>Unit
 | p::r=>p.D×AD r
@[reducible] def MD:List PT -> Type
 | []=>Unit
 | .fK _ cs::r=>qY cs×MD r
 | .fT _ t::r=>List t.D×MD r
 | .val _::r=>MD r
 | .pv _::r=>MD r
 | .give _ _::r=>MD r
 | .gv _::r=>MD r
inductive RT where
 | val (v:VT) | pv (p:PV)
@[reducible] def RT.D:RT -> Type
 | .val v=>v.t.D | .pv p=>p.D
@[reducible] def RD:List RT -> Type
 | []=>Unit
 | v::r=>v.D×RD r
mutual
def iH:PV -> Bool
 | .cell t=>t.flat | .own _ t=>t.flat | .box _ cs=>eZ cs | .agg cs=>eZ cs | .nil=>true
 | .pin _ _=>true | .ref _=>false | .lJ _ cs=>eZ cs | .mp _ _ _ _ tv=>tv.flat
def eZ:List PV -> Bool
 | []=>true
 | p::r=>iH p&&eZ r
end
def aY:List RT -> Bool
 | []=>true
 | .val v::r=>(v.t.flat||(v.own&&fJ v.t))&&aY r
 | .pv p::r=>iH p&&aY r
def aO:List PT -> Bool
 | []=>true
 | .fK _ cs::r=>eZ cs&&aO r
 | .fT _ t::r=>t.flat&&aO r
 | .val _::r=>aO r
 | .pv _::r=>aO r
 | .give _ _::r=>aO r
 | .gv _::r=>aO r
def aG:List PT -> Nat
 | []=>0
 | .val _::r=>aG r
 | .pv _::r=>aG r
 | .fK _ _::r=>aG r+1
 | .fT _ _::r=>aG r+1
 | .give _ _::r=>aG r+1
 | .gv _::r=>aG r
structure Fn where
 ps:List PT
 rs:List RT
 sem:Nat -> AD ps -> Option (RD rs×MD ps)
structure Env where
 agg:TypeId -> Bool
 ty:TypeId -> Option Ty
 elem:TypeId -> Option TypeId
 lK:TypeId -> Nat
 nM:TypeId -> Nat -> Option (Nat×TypeId)
 arr:TypeId -> Option (Nat×TypeId)
 ik:TypeId -> Option IntKind
 hint:Nat -> Nat
 Dy:TypeId -> Bool
 fn:FuncId -> Option Fn
 map:TypeId -> Option (TypeId×TypeId)
 zJ:TypeId -> Option (TypeId×TypeId)
structure Eff where
 val:AV
 upd:List (Nat×Option Obj)
 nm:List Nat
def dK (m:Nat -> Option Obj) (n:Nat) (o:Option Obj):Nat -> Option Obj:=fun i=>match Nat.beq i n with | true=>o | false=>m i
def aB (m:Nat -> Option Obj):List (Nat×Option Obj) -> Nat -> Option Obj
 | []=>m
 | (n,o)::r=>aB (dK m n o) r
def qZ (f:Nat -> AV) (d:Nat) (v:AV):Nat -> AV:=fun i=>match Nat.beq i d with | true=>v | false=>f i
def St.put (s:St) (d:Option Tmp) (v:AV):St:=match d with | some d=>{ s with sl:=qZ s.sl d v } | none=>s
def St.app (s:St) (d:Option Tmp) (e:Eff):St:={ s.put d e.val with mem:=aB s.mem e.upd }
def ofConst:Value -> AV
 | .int k n=>.int k n
 | .bool b=>.bool b
 | .string s=>.str s
 | .slice none 0 0=>.nil
 | _=>.undef
def St.op (s:St):Operand -> AV
 | .tmp t=>s.sl t
 | .const v=>ofConst v
 | .func f=>.lJ f []
 | .global _=>.undef
def oJ:List AV -> Nat -> AV
 | [],_=>.undef
 | v::_,0=>v
 | _::r,i+1=>oJ r i
def aM:AV -> List AV
 | .agg cs=>cs
 | v=>[v]
def takeA:Nat -> List AV -> List AV
 | 0,_=>[]
 | _+1,[]=>[]
 | n+1,v::r=>v::takeA n r
def bH:Nat -> List AV -> List AV
 | 0,l=>l
 | _+1,[]=>[]
 | n+1,_::r=>bH n r
def gI:List AV -> Nat
 | []=>0
 | _::r=>gI r+1
def rA:AV -> Bool
 | .undef=>false
 | .hole=>false
 | .dyn _ _ _=>false
 | _=>true
def isNone {α:Type}:Option α -> Bool
 | none=>true
 | some _=>false
section
variable {R:Type}
def uD (op:BinOp) (k:IntKind) (a b:Int) (κ:AV -> Option R):Option R :=
 match op with
 | .add=>κ (.int k (k.wrap (a+b)))
 | .sub=>κ (.int k (k.wrap (a - b)))
 | .mul=>κ (.int k (k.wrap (a * b)))
 | .quo=>if b=0 then none else κ (.int k (k.wrap (a.tdiv b)))
 | .rem=>if b=0 then none else κ (.int k (a.tmod b))
 | .and=>κ (.int k (k.wrap (BitVec.ofInt k.bits a &&& BitVec.ofInt k.bits b).toNat))
 | .or=>κ (.int k (k.wrap (BitVec.ofInt k.bits a ||| BitVec.ofInt k.bits b).toNat))
 | .xor=>κ (.int k (k.wrap (BitVec.ofInt k.bits a ^^^ BitVec.ofInt k.bits b).toNat))
 | .andNot=>κ (.int k (k.wrap (BitVec.ofInt k.bits a &&& ~~~(BitVec.ofInt k.bits b)).toNat))
 | .eql=>κ (.bool (a==b))
 | .neq=>κ (.bool (a != b))
 | .lss=>κ (.bool (decide (a<b)))
 | .leq=>κ (.bool (decide (a <= b)))
 | .gtr=>κ (.bool (decide (a>b)))
 | .geq=>κ (.bool (decide (a≥b)))
 | _=>none
def Ed (E:Env) (T:TypeId) (op:BinOp) (z:Bool) (κ:AV -> Option R):Option R :=
 match op,E.elem T with
 | .eql,some _=>κ (.bool z)
 | .neq,some _=>κ (.bool (!z))
 | _,_=>none
def Ee (E:Env) (T:TypeId) (op:BinOp) (x y:AV) (κ:AV -> Option R):Option R :=
 match x,y with
 | .int k a,.int k' b =>
  match op with
  | .shl=>if b<0 then none else κ (.int k (k.wrap (a * 2 ^ (min b.toNat k.bits))))
  | .shr=>if b<0 then none else κ (.int k (a.fdiv (2 ^ (min b.toNat k.bits))))
  | _=>match oW k k' with | true=>uD op k a b κ | false=>none
 | .bool a,.bool b =>
  match op,E.ty T,E.agg T with
  | .eql,some .bool,false=>κ (.bool (a==b))
  | .neq,some .bool,false=>κ (.bool (!(a==b)))
  | _,_,_=>none
 | .nil,.nil=>Ed E T op true κ
 | .rz z _ _ _,.nil=>Ed E T op z κ
 | .agg xs,.agg ys =>
  match E.ty T,E.Dy T,E.agg T with
  | some t,true,true =>
   (match pack (fun _=>none) t xs,pack (fun _=>none) t ys with
   | some (a,[],_),some (b,[],_)=>(match op with
    | .eql=>κ (.bool (fC t a b))
    | .neq=>κ (.bool (!(fC t a b)))
    | _=>none)
   | _,_=>none)
  | _,_,_=>none
 | _,_=>none
def Ml (op:UnOp) (x:AV) (κ:AV -> Option R):Option R :=
 match op,x with
 | .not,.bool b=>κ (.bool (!b))
 | .neg,.int k n=>κ (.int k (k.wrap (0 - n)))
 | .xor,.int k n=>κ (.int k (k.wrap (BitVec.ofInt k.bits (if k.signed then -1 else k.max) ^^^ BitVec.ofInt k.bits n).toNat))
 | _,_=>none
def bD (m:Nat -> Option Obj) (e:TypeId) (t:Ty):AV -> Option (List t.D×List Nat)
 | .nil=>some ([],[])
 | .own n=>match m n with
  | some (.row true e' t' xs)=>(match Nat.beq e e' with | true=>(match oZ t' t xs with | some ys=>some (ys,[n]) | none=>none) | false=>none)
  | _=>none
 | _=>none
def bP (m:Nat -> Option Obj) (n:Nat):Bool:=match m n with | some (.row w _ _ _)=>w | some (.box _ _)=>true | some (.mp _ _ _ _ _ _)=>true | some (.fm _ _ _ _)=>true | none=>false
def dB (m:Nat -> Option Obj):List Nat -> List (Nat×Option Obj)
 | []=>[]
 | n::r=>match m n with
  | some (.row _ e t xs)=>(n,some (.row false e t xs))::dB m r
  | _=>dB m r
def eH:List Nat -> List (Nat×Option Obj)
 | []=>[]
 | n::r=>(n,none)::eH r
def lM (n:Nat):List Nat -> Bool
 | []=>false
 | m::r=>Nat.beq n m||lM n r
def kT:List Nat -> List Nat -> Bool
 | [],_=>true
 | n::r,l=>!lM n l&&kT r l
def bT (m:Nat -> Option Obj) (v:VT) (x:AV):Option (v.t.D×List Nat) :=
 match v.agg,x with
 | true,.agg cs=>(match pack m v.t cs with | some (d,[],ns)=>some (d,ns) | _=>none)
 | true,_=>none
 | false,x=>(match pack m v.t [x] with | some (d,[],ns)=>some (d,ns) | _=>none)
def nodupB:List Nat -> Bool
 | []=>true
 | n::r=>!lM n r&&nodupB r
def vN (m:Nat -> Option Obj):List Nat -> Bool
 | []=>true
 | n::r=>(match bP m n with | true=>false | false=>vN m r)
def vO (z:Bool) (m:Nat -> Option Obj):List Nat -> Bool
 | []=>true
 | n::r=>(match z with | true=>vN m (n::r) | false=>false)
mutual
def grab (z:Bool) (m:Nat -> Option Obj) (np:Nat):(p:PV) -> AV -> Option (p.D×List Nat)
 | .cell t,v=>(match pack m t [v] with | some (d,[],ns)=>(match vO z m ns with | true=>some (d,[]) | false=>none) | _=>none)
 | .own e t,v=>(match v with
  | .own n=>bD m e t (.own n)
  | _=>none)
 | .box T cs,v=>(match v with
  | .ptr n off=>(match m n,off with
   | some (.box U xs),0=>(match Nat.beq T U with
    | true=>(match grabs z m np cs xs with | some (d,ns)=>some (d,n::ns) | none=>none)
    | false=>none)
   | _,_=>none)
  | _=>none)
 | .agg cs,v=>(match v with | .agg xs=>grabs z m np cs xs | _=>none)
 | .nil,v=>(match v with | .nil=>some ((),[]) | _=>none)
 | .pin row j,v=>(match row,v with
  | true,.own n=>(match Nat.beq n j&&Nat.blt j np with | true=>some ((),[]) | false=>none)
  | false,.ptr n 0=>(match Nat.beq n j&&Nat.blt j np with | true=>some ((),[]) | false=>none)
  | _,_=>none)
 | .ref t,v=>(match v with
  | .kS t' x 0=>(match pE t' t x with | some y=>some (y,[]) | none=>none)
  | _=>none)
 | .lJ g cs,v=>(match v with
  | .lJ g' xs=>(match Nat.beq g g' with | true=>grabs z m np cs xs | false=>none)
  | _=>none)
 | .mp T ak tk av tv,v=>(match v with
  | .own n=>(match m n with
   | some (.mp T' Mq tk' Mr tv' es)=>(match Nat.beq T T'&&(ak==Mq&&av==Mr) with
    | true=>(match Bq tk' tk tv' tv es with | some es=>some (es,[n]) | none=>none)
    | false=>none)
   | _=>none)
  | _=>none)
def grabs (z:Bool) (m:Nat -> Option Obj) (np:Nat):(ps:List PV) -> List AV -> Option (qY ps×List Nat)
 | [],[]=>some ((),[])
 | p::r,x::xs=>(match grab z m np p x with
  | some (d,ns)=>(match grabs z m np r xs with | some (ds,ns')=>some ((d,ds),ns++ns') | none=>none)
  | none=>none)
 | _,_=>none
end
mutual
def lay:(p:PV) -> p.D -> Nat -> AV×List (Nat×Option Obj)×Nat
 | .cell t,d,b=>(oJ (unpack t d) 0,[],b)
 | .own e t,xs,b=>(.own b,[(b,some (.row true e t xs))],b+1)
 | .box T cs,d,b=>(match lays cs d (b+1) with | (xs,us,b')=>(.ptr b 0,(b,some (.box T xs))::us,b'))
 | .agg cs,d,b=>(match lays cs d b with | (xs,us,b')=>(.agg xs,us,b'))
 | .nil,_,b=>(.nil,[],b)
 | .pin row j,_,b=>((match row with | true=>.own j | false=>.ptr j 0),[],b)
 | .ref t,x,b=>(.kS t x 0,[],b)
 | .lJ g cs,d,b=>(match lays cs d b with | (xs,us,b')=>(.lJ g xs,us,b'))
 | .mp T ak tk av tv,es,b=>(.own b,[(b,some (.mp T ak tk av tv es))],b+1)
def lays:(ps:List PV) -> qY ps -> Nat -> List AV×List (Nat×Option Obj)×Nat
 | [],_,b=>([],[],b)
 | p::r,d,b=>(match lay p d.1 b with
  | (x,us,b1)=>(match lays r d.2 b1 with | (xs,us',b2)=>(x::xs,us++us',b2)))
end
mutual
def aU (m:Nat -> Option Obj):(p:PV) -> AV -> Option (p.D×List Nat)
 | .cell t,v=>(match pack m t [v] with | some (d,[],ns)=>some (d,ns) | _=>none)
 | .ref t,v=>(match v with
  | .kS t' x 0=>(match pE t' t x with | some y=>some (y,[]) | none=>none)
  | .ptr n off=>(match m n with
   | some (.box _ cs)=>(match Nat.beq (gI (takeA t.sz (bH off cs))) t.sz with
    | true=>(match pack m t (takeA t.sz (bH off cs)) with | some (d,[],ns)=>some (d,n::ns) | _=>none)
    | false=>none)
   | _=>none)
  | _=>none)
 | .agg cs,v=>(match v with | .agg xs=>bZ m cs xs | _=>none)
 | .lJ g cs,v=>(match v with
  | .lJ g' xs=>(match Nat.beq g g' with | true=>bZ m cs xs | false=>none)
  | _=>none)
 | .nil,v=>(match v with | .nil=>some ((),[]) | _=>none)
 | _,_=>none
def bZ (m:Nat -> Option Obj):(ps:List PV) -> List AV -> Option (qY ps×List Nat)
 | [],[]=>some ((),[])
 | p::r,x::xs=>(match aU m p x with
  | some (d,ns)=>(match bZ m r xs with | some (ds,ns')=>some ((d,ds),ns++ns') | none=>none)
  | none=>none)
 | _,_=>none
end
def fU (m:Nat -> Option Obj):(p:PT) -> AV -> Option (p.D×List Nat×List Nat×List Nat)
 | .val v,x=>(match bT m v x with | some (d,ns)=>some (d,ns,[],[]) | none=>none)
 | .pv p,x=>(match aU m p x with | some (d,ns)=>some (d,ns,[],[]) | none=>none)
 | .fK T cs,x=>(match x with
  | .ptr n 0=>(match m n with
   | some (.box U ys)=>(match Nat.beq T U with
    | true=>(match grabs false m 0 cs ys with | some (d,is)=>some (d,[],[n],is) | none=>none)
    | false=>none)
   | _=>none)
  | _=>none)
 | .fT e t,x=>(match x with
  | .own n=>(match bD m e t (.own n) with | some (d,_)=>some (d,[],[n],[]) | none=>none)
  | _=>none)
 | .give e t,x=>(match x with
  | .own n=>(match bD m e t (.own n) with | some (d,_)=>some (d,[],[n],[]) | none=>none)
  | _=>none)
 | .gv p,x=>(match grab false m 0 p x with | some (d,is)=>some (d,[],[],is) | none=>none)
def gV (m:Nat -> Option Obj):(ps:List PT) -> List AV -> Option (AD ps×List Nat×List Nat×List Nat)
 | [],[]=>some ((),[],[],[])
 | p::r,x::xs=>(match fU m p x with
  | some (d,ns,pn,is)=>(match gV m r xs with
   | some (ds,ns',Rp,is')=>some ((d,ds),ns++ns',pn++Rp,is++is')
   | none=>none)
  | none=>none)
 | _,_=>none
def bN (own:Bool):(t:Ty) -> t.D -> Nat -> List AV×List (Nat×Option Obj)×Nat
 | .sl e t,xs,b=>match own with
  | true=>([.own b],[(b,some (.row true e t xs))],b+1)
  | false=>([.ro e t xs],[],b)
 | .unit,_,b=>([],[],b)
 | .int k,n,b=>([.int k n],[],b)
 | .bool,x,b=>([.bool x],[],b)
 | .str,x,b=>([.str x],[],b)
 | .pair x y,p,b=>match bN own x p.1 b with
  | (c1,u1,b1)=>(match bN own y p.2 b1 with | (c2,u2,b2)=>(c1++c2,u1++u2,b2))
def bQ (agg:Bool) (cs:List AV):AV:=match agg with | true=>.agg cs | false=>oJ cs 0
def bR:(rs:List RT) -> RD rs -> Nat -> List AV×List (Nat×Option Obj)×Nat
 | [],_,b=>([],[],b)
 | .val v::r,p,b=>match bN v.own v.t p.1 b with
  | (c1,u1,b1)=>(match bR r p.2 b1 with | (c2,u2,b2)=>(bQ v.agg c1::c2,u1++u2,b2))
 | .pv q::r,p,b=>match lay q p.1 b with
  | (c1,u1,b1)=>(match bR r p.2 b1 with | (c2,u2,b2)=>(c1::c2,u1++u2,b2))
def bO:(ps:List PT) -> MD ps -> (Nat -> Nat) -> (j b:Nat) -> List (Nat×Option Obj)×Nat
 | [],_,_,_,b=>([],b)
 | .val _::r,o,pn,j,b=>bO r o pn j b
 | .pv _::r,o,pn,j,b=>bO r o pn j b
 | .gv _::r,o,pn,j,b=>bO r o pn j b
 | .give _ _::r,o,pn,j,b=>(match bO r o pn (j+1) b with | (us,b')=>((pn j,none)::us,b'))
 | .fT e t::r,o,pn,j,b=>(match bO r o.2 pn (j+1) b with | (us,b')=>((pn j,some (.row true e t o.1))::us,b'))
 | .fK T cs::r,o,pn,j,b=>(match lays cs o.1 b with
  | (xs,u1,b1)=>(match bO r o.2 pn (j+1) b1 with | (us,b')=>((pn j,some (.box T xs))::(u1++us),b')))
def aL:List Nat -> Nat -> Nat
 | [],_=>0
 | n::_,0=>n
 | _::r,i+1=>aL r i
def rC:List AV -> AV
 | [v]=>v
 | vs=>.zI vs
def aN:List (Nat×Option Obj) -> List Nat
 | []=>[]
 | (n,_)::r=>n::aN r
def cB (s:St):List Operand -> List AV
 | []=>[]
 | x::r=>s.op x::cB s r
def kK {α:Type}:List α -> Nat
 | []=>0
 | _::r=>kK r+1
def dO (m:Nat -> Option Obj) (t:Ty):Nat -> List (Nat×AV) -> Option (List t.D×List Nat)
 | _,[]=>some ([],[])
 | i,(j,x)::r=>match Nat.beq i j&&rA x with
  | true=>(match pack m t (aM x) with
   | some (d,[],ns)=>(match dO m t (i+1) r with | some (ds,ns')=>some (d::ds,ns++ns') | none=>none)
   | _=>none)
  | false=>none
def bK (s:St):List (Nat×Operand) -> List (Nat×AV)
 | []=>[]
 | (i,x)::r=>(i,s.op x)::bK s r
def uE (E:Env) (T:TypeId) (i:Nat):Option (Nat×Ty) :=
 match E.arr T with
 | some (n,U)=>(match E.ty U,Nat.blt i n with | some u,true=>some (i * u.sz,u) | _,_=>none)
 | none=>(match E.nM T i with
  | some (off,U)=>(match E.ty U with | some u=>some (off,u) | none=>none)
  | none=>none)
def nN (E:Env) (T:TypeId):List AV -> List (Nat×AV) -> Option (List AV)
 | cs,[]=>some cs
 | cs,(i,x)::r=>match uE E T i with
  | some (off,u)=>(match Nat.beq (gI (aM x)) u.sz&&Nat.ble (off+gI (aM x)) (gI cs)&&rA x with
   | true=>nN E T (takeA off cs++aM x++bH (off+gI (aM x)) cs) r
   | false=>none)
  | none=>none
def rD (mx:Bool):AV -> List AV -> Option AV
 | x,[]=>some x
 | .int k x,.int k' y::r=>match oW k k' with
  | true=>rD mx (.int k (match mx with | true=>(if x<y then y else x) | false=>(if y<x then y else x))) r
  | false=>none
 | _,_=>none
def eP (E:Env) (T:TypeId) (cs:List AV) (off:Nat):Option AV :=
 match E.ty T with
 | some t=>(match Nat.beq (gI (takeA t.sz (bH off cs))) t.sz with
  | true=>some (bQ (E.agg T) (takeA t.sz (bH off cs)))
  | false=>none)
 | none=>none
def Ef (k:IntKind):List AV -> Option (List Int)
 | []=>some []
 | .int k' n::r=>(match oW k k',Ef k r with | true,some l=>some (n::l) | _,_=>none)
 | _::_=>none
def Eh:List AV -> Option (List Bool)
 | []=>some []
 | .bool b::r=>(match Eh r with | some l=>some (b::l) | none=>none)
 | _::_=>none
def kP (E:Env) (T:TypeId) (cs:List AV) (off c:Nat) (j:Int):Option AV :=
 match E.ty T,E.agg T,Nat.beq (gI (takeA c (bH off cs))) c with
 | some (.int k),false,true=>(match Ef k (takeA c (bH off cs)) with | some l=>some (.int k (l.getD j.toNat 0)) | none=>none)
 | some .bool,false,true=>(match Eh (takeA c (bH off cs)) with | some l=>some (.bool (l.getD j.toNat false)) | none=>none)
 | _,_,_=>none
def xO (k:IntKind) (j v:Int):Nat -> List AV -> Option (List AV)
 | _,[]=>some []
 | i,.int k' n::r=>(match oW k k',xO k j v (i+1) r with | true,some l=>some (.int k (if j=(i:Int) then v else n)::l) | _,_=>none)
 | _,_::_=>none
def xP (j:Int) (v:Bool):Nat -> List AV -> Option (List AV)
 | _,[]=>some []
 | i,.bool b::r=>(match xP j v (i+1) r with | some l=>some (.bool (if j=(i:Int) then v else b)::l) | none=>none)
 | _,_::_=>none
def mR (E:Env) (T:TypeId) (cs:List AV) (off c:Nat) (j:Int) (v:AV):Option (List AV) :=
 match E.ty T,v,Nat.beq (gI (takeA c (bH off cs))) c with
 | some (.int k),.int k' n,true=>(match oW k k',xO k j n 0 (takeA c (bH off cs)) with | true,some l=>some (takeA off cs++l++bH (off+c) cs) | _,_=>none)
 | some .bool,.bool b,true=>(match xP j b 0 (takeA c (bH off cs)) with | some l=>some (takeA off cs++l++bH (off+c) cs) | none=>none)
 | _,_,_=>none
def Hg:AV -> Bool
 | .undef=>false | .hole=>false | .agg _=>false | .zI _=>false | .dyn _ _ _=>false | _=>true
def lN:List AV -> Bool
 | []=>true
 | v::r=>Hg v&&lN r
def lQ (m:Nat -> Option Obj):List Nat -> Bool
 | []=>true
 | n::r=>(match m n with | some (.row _ _ _ _)=>true | _=>false)&&lQ m r
def zK (E:Env) (k:Nat) (f:FuncId) (xs:List AV) (b:Nat) (s:St) (κ:Eff -> Option R):Option R :=
 match E.fn f with
 | some F=>(match gV s.mem F.ps xs with
  | some (x,ns,pn,is)=>(match nodupB (pn++is)&&kT (pn++is) ns with
   | true=>(F.sem k x).bind fun q =>
    match bR F.rs q.1 b with
    | (vs,us,b1)=>(match bO F.ps q.2 (aL pn) 0 b1 with
     | (Ei,b2)=>(match Nat.ble b2 (b+64),aY F.rs&&aO F.ps with
      | true,true=>κ ⟨rC vs,eH is++(us++Ei),ns++(pn++is)++aN (us++Ei)⟩
      | true,false=>(match lQ s.mem ns with
       | true=>κ ⟨rC vs,dB s.mem ns++(eH is++(us++Ei)),ns++(pn++is)++aN (us++Ei)⟩
       | false=>none)
      | false,_=>none))
   | false=>none)
  | none=>none)
 | none=>none
def pF (E:Env) (bi:Builtin) (ts:List TypeId) (xs:List AV) (b:Nat) (s:St) (κ:Eff -> Option R):Option R :=
 match bi,xs with
 | .len,[.str x]=>(match ts with
  | T::_=>(match E.ty T,E.agg T with | some .str,false=>κ ⟨.int .i64 x.size,[],[]⟩ | _,_=>none)
  | _=>none)
 | .len,[x]=>match ts with
  | T::_=>(match E.elem T with
   | some e=>(match E.ty e with
    | some t=>(match rowOf s.mem e t x with | some (l,ns)=>κ ⟨.int .i64 l.length,[],ns⟩ | none=>none)
    | none=>none)
   | none=>(match E.map T,x with
    | some _,.own n=>(match s.mem n with
     | some (.mp T' _ _ _ _ es)=>(match Nat.beq T T' with | true=>κ ⟨.int .i64 es.length,[],[n]⟩ | false=>none)
     | _=>none)
    | _,_=>none))
  | _=>none
 | .append,[x,y]=>match ts with
  | [T,T']=>(match Nat.beq T T',E.elem T with
   | true,some e=>(match E.ty e with
    | some t=>(match bD s.mem e t x with
     | some (l,ns)=>(match rowOf s.mem e t y with
      | some (l',ns') =>
       if (l.length+l'.length) * E.lK e <= 140737488355328 then
        match kT ns ns',isNone (s.mem b),t.flat with
        | true,true,true=>κ ⟨.own b,eH ns++[(b,some (.row true e t (l++l')))],b::ns++ns'⟩
        | true,true,false=>κ ⟨.own b,dB s.mem ns'++(eH ns++[(b,some (.row true e t (l++l')))]),b::ns++ns'⟩
        | _,_,_=>none
       else none
      | none=>none)
     | none=>none)
    | none=>none)
   | false,some e=>(match E.ik T',E.ty e,x,y with
    | some _,some t,.nil,.int _ n =>
     if (decide (0 <= n)&&decide ((0+n.toNat) * E.lK e <= 140737488355328))=true then
      match isNone (s.mem b) with
      | true=>κ ⟨.own b,[(b,some (.row true e t (List.replicate n.toNat t.z)))],[b]⟩
      | false=>none
     else none
    | _,_,_,_=>none)
   | _,_=>none)
  | _=>none
 | .cap,[.nil]=>(match ts with
  | T::_=>(match E.elem T with | some _=>κ ⟨.int .i64 0,[],[]⟩ | none=>none)
  | _=>none)
 | .min,x::r=>(match rD false x r with | some v=>κ ⟨v,[],[]⟩ | none=>none)
 | .max,x::r=>(match rD true x r with | some v=>κ ⟨v,[],[]⟩ | none=>none)
 | .clear,[.vw n z l h]=>(match ts with
  | T::_=>(match E.elem T with
   | some e=>(match E.ty e with
    | some t=>(match bD s.mem e t (.own n),Nat.beq z t.sz with
     | some (xs,_),true=>κ ⟨.undef,[(n,some (.row true e t (xs.take l.toNat++List.replicate (h.toNat - l.toNat) t.z++xs.drop h.toNat)))],[n]⟩
     | _,_=>none)
    | none=>none)
   | none=>none)
  | _=>none)
 | _,_=>none
def xQ (E:Env) (T:TypeId) (p:Operand) (v:AV):Option (TypeId×Ty) :=
 match p,v with
 | .tmp d,.nil=>(match E.hint d with
  | 2=>(match E.elem T with
   | some e=>(match E.ty e with | some t=>some (e,t) | none=>none)
   | none=>none)
  | _=>none)
 | _,_=>none
def mU (E:Env) (T:TypeId) (ak:Bool) (tk:Ty) (av:Bool) (tv:Ty):Bool :=
 match E.map T with
 | some (k,v)=>(match E.ty k,E.ty v with
  | some tk',some tv'=>tk'.beq tk&&(tv'.beq tv&&((E.agg k==ak)&&((E.agg v==av)&&(E.Dy k&&tk.flat))))
  | _,_=>false)
 | none=>false
def rU (E:Env) (T:TypeId) (ak:Bool) (tk:Ty):Bool :=
 match E.zJ T with
 | some (k,_)=>(match E.ty k with
  | some tk'=>tk'.beq tk&&((E.agg k==ak)&&(E.Dy k&&tk.flat))
  | none=>false)
 | none=>false
def mapA (E:Env) (T:TypeId) (x i y:AV) (s:St) (κ:Eff -> Option R):Option R :=
 match x with
 | .own n=>(match s.mem n with
  | some (.mp T' ak tk av tv es)=>(match Nat.beq T T'&&mU E T ak tk av tv with
   | true=>(match bT s.mem ⟨ak,tk,false⟩ i,bT s.mem ⟨av,tv,false⟩ y with
    | some (d,ns0),some (z,ns)=>(match lM n ns with
     | false=>κ ⟨.undef,dB s.mem ns++[(n,some (.mp T ak tk av tv (vM tk tv d z es)))],n::(ns0++ns)⟩
     | true=>none)
    | _,_=>none)
   | false=>none)
  | some (.fm T' ak tk es)=>(match Nat.beq T T'&&rU E T ak tk with
   | true=>(match bT s.mem ⟨ak,tk,false⟩ i with
    | some (d,ns0)=>(match rT tk d y es with
     | some es'=>κ ⟨.undef,[(n,some (.fm T ak tk es'))],n::ns0⟩
     | none=>none)
    | none=>none)
   | false=>none)
  | _=>none)
 | _=>none
def Gh (s:St):Option Operand -> Option Int
 | some y=>(match s.op y with | .int .i64 l=>some l | _=>none)
 | none=>some 0
def Gi (s:St) (n:Nat):Option Operand -> Option Int
 | some y=>(match s.op y with | .int .i64 h=>some h | _=>none)
 | none=>some (n:Int)
def xR:Ty -> List (Option (TypeId×Ty))
 | .unit=>[]
 | .sl e t=>[some (e,t)]
 | .pair a b=>xR a++xR b
 | _=>[none]
def bF:List (Option (TypeId×Ty)) -> List AV -> Nat -> List AV×List (Nat×Option Obj)×Nat
 | some (e,t)::ts,.nil::r,b=>(match bF ts r (b+1) with | (cs,us,b')=>(.own b::cs,(b,some (.row true e t []))::us,b'))
 | _::ts,v::r,b=>(match bF ts r b with | (cs,us,b')=>(v::cs,us,b'))
 | _,cs,b=>(cs,[],b)
def Lj (E:Env) (d:Option Tmp) (T:TypeId):List (Option (TypeId×Ty)) :=
 match d with
 | some d=>(match E.hint d with | 2=>(match E.ty T with | some t=>xR t | none=>[]) | _=>[])
 | none=>[]
def zL (E:Env) (k:Nat) (o:Oper) (b:Nat) (s:St) (κ:Eff -> Option R):Option R :=
 match o.op with
 | .move x=>κ ⟨s.op x,[],[]⟩
 | .assign x=>(match Lj E o.dst o.type with
  | []=>κ ⟨s.op x,[],[]⟩
  | ts=>(match bF ts [s.op x] b with
   | ([v],us,b')=>(match Nat.ble b' (b+64) with | true=>κ ⟨v,us,aN us⟩ | false=>none)
   | _=>none))
 | .extract x i=>(match s.op x with
  | .zI vs=>(match Nat.blt i (gI vs) with | true=>κ ⟨oJ vs i,[],[]⟩ | false=>none)
  | _=>none)
 | .pick c x y=>(match s.op c with | .bool t=>if t=true then κ ⟨s.op x,[],[]⟩ else κ ⟨s.op y,[],[]⟩ | _=>none)
 | .binOp op T x y _=>Ee E T op (s.op x) (s.op y) fun v=>κ ⟨v,[],[]⟩
 | .unOp op _ x=>Ml op (s.op x) fun v=>κ ⟨v,[],[]⟩
 | .convert a c x=>(match s.op x with
  | .int _ n=>(match E.ik c,isNone (E.ty a) with | some k',false=>κ ⟨.int k' (k'.wrap n),[],[]⟩ | _,_=>none)
  | _=>none)
 | .nilCheck x=>(match s.op x with
  | .ptr n off=>κ ⟨.ptr n off,[],[]⟩
  | .kJ n z i off=>κ ⟨.kJ n z i off,[],[]⟩
  | .kS t x off=>κ ⟨.kS t x off,[],[]⟩
  | .dyn p c j=>κ ⟨.dyn p c j,[],[]⟩
  | _=>none)
 | .box T x=>(match isNone (s.mem b)&&rA (s.op x) with
  | true=>(match Lj E o.dst T with
   | []=>κ ⟨.ptr b 0,[(b,some (.box T (aM (s.op x))))],[b]⟩
   | ts=>(match bF ts (aM (s.op x)) (b+1) with
    | (cs,us,b')=>(match Nat.ble b' (b+64) with | true=>κ ⟨.ptr b 0,us++[(b,some (.box T cs))],b::aN us⟩ | false=>none)))
  | false=>none)
 | .alloc T=>(match isNone (s.mem b),E.ty T with
  | true,some t=>(match Lj E o.dst T with
   | []=>κ ⟨.ptr b 0,[(b,some (.box T (eO t)))],[b]⟩
   | ts=>(match bF ts (eO t) (b+1) with
    | (cs,us,b')=>(match Nat.ble b' (b+64) with | true=>κ ⟨.ptr b 0,us++[(b,some (.box T cs))],b::aN us⟩ | false=>none)))
  | _,_=>none)
 | .load T x=>(match s.op x with
  | .ptr n off=>(match s.mem n with
   | some (.box _ cs)=>(match eP E T cs off with | some v=>κ ⟨v,[],[n]⟩ | none=>none)
   | _=>none)
  | .kS t x off=>(match eP E T (unpack t x) off with | some v=>κ ⟨v,[],[]⟩ | none=>none)
  | .kJ n z i off=>(match s.mem n with
   | some (.row _ _ t xs)=>(match Nat.beq z t.sz with
    | true=>(match eP E T (unpack t (xs.getD i.toNat t.z)) off with | some v=>κ ⟨v,[],[n]⟩ | none=>none)
    | false=>none)
   | _=>none)
  | .dyn p c j=>(match p with
   | .ptr n off=>(match s.mem n with
    | some (.box _ cs)=>(match kP E T cs off c j with | some v=>κ ⟨v,[],[n]⟩ | none=>none)
    | _=>none)
   | .kS t x off=>(match kP E T (unpack t x) off c j with | some v=>κ ⟨v,[],[]⟩ | none=>none)
   | .kJ n z i off=>(match s.mem n with
    | some (.row _ _ t xs)=>(match Nat.beq z t.sz with
     | true=>(match kP E T (unpack t (xs.getD i.toNat t.z)) off c j with | some v=>κ ⟨v,[],[n]⟩ | none=>none)
     | false=>none)
    | _=>none)
   | _=>none)
  | _=>none)
 | .store T p x=>(match s.op p with
  | .ptr n off=>(match s.mem n with
   | some (.box U cs)=>(match E.ty T with
    | some u=>(match xQ E T p (s.op x) with
     | some (e,t)=>(match Nat.beq u.sz 1&&(Nat.ble (off+1) (gI cs)&&isNone (s.mem b)) with
      | true=>κ ⟨.undef,[(b,some (.row true e t [])),(n,some (.box U (takeA off cs++[.own b]++bH (off+1) cs)))],[n]⟩
      | false=>none)
     | none=>(match Nat.beq (gI (aM (s.op x))) u.sz&&(Nat.ble (off+u.sz) (gI cs)&&lN (aM (s.op x))) with
      | true=>κ ⟨.undef,[(n,some (.box U (takeA off cs++aM (s.op x)++bH (off+u.sz) cs)))],[n]⟩
      | false=>none))
    | none=>none)
   | _=>none)
  | .kJ n z i off=>(match s.mem n with
   | some (.row true e t xs)=>(match E.ty T with
    | some u=>(match Nat.beq z t.sz&&(Nat.beq (gI (aM (s.op x))) u.sz&&(Nat.ble (off+u.sz) t.sz&&rA (s.op x))) with
     | true =>
      (match pack s.mem t (takeA off (unpack t (xs.getD i.toNat t.z))++aM (s.op x)++bH (off+u.sz) (unpack t (xs.getD i.toNat t.z))) with
      | some (d,[],ns)=>(match lM n ns with
       | false=>κ ⟨.undef,dB s.mem ns++[(n,some (.row true e t (xs.set i.toNat d)))],n::ns⟩
       | true=>none)
      | _=>none)
     | false=>none)
    | none=>none)
   | _=>none)
  | .dyn q c j=>(match q with
   | .ptr n off=>(match s.mem n with
    | some (.box U cs)=>(match mR E T cs off c j (s.op x) with
     | some cs'=>κ ⟨.undef,[(n,some (.box U cs'))],[n]⟩
     | none=>none)
    | _=>none)
   | .kJ n z i off=>(match s.mem n with
    | some (.row true e t xs)=>(match Nat.beq z t.sz,mR E T (unpack t (xs.getD i.toNat t.z)) off c j (s.op x) with
     | true,some cs'=>(match pack s.mem t cs' with
      | some (d,[],ns)=>(match lM n ns with
       | false=>κ ⟨.undef,dB s.mem ns++[(n,some (.row true e t (xs.set i.toNat d)))],n::ns⟩
       | true=>none)
      | _=>none)
     | _,_=>none)
    | _=>none)
   | _=>none)
  | _=>none)
 | .fieldAddr T x f=>(match E.nM T f with
  | some (o,U)=>(match isNone (E.ty U) with
   | false=>(match s.op x with
    | .ptr n off=>κ ⟨.ptr n (off+o),[],[]⟩
    | .kJ n z i off=>κ ⟨.kJ n z i (off+o),[],[]⟩
    | .kS t x off=>κ ⟨.kS t x (off+o),[],[]⟩
    | _=>none)
   | true=>none)
  | none=>none)
 | .field T x f=>(match E.nM T f,s.op x with
  | some (o,U),.agg cs=>(match eP E U cs o with | some v=>κ ⟨v,[],[]⟩ | none=>none)
  | _,_=>none)
 | .indexAddr T x i=>(match s.op i with
  | .int _ j=>(match E.elem T with
   | some e=>(match E.ty e with
    | some t=>(match rowOf s.mem e t (s.op x) with
     | some (xs,ns)=>if (decide (0 <= j)&&decide (j<(xs.length:Int)))=true then (match s.op x with
      | .own n=>(match bP s.mem n with
       | true=>κ ⟨.kJ n t.sz j 0,[],ns⟩
       | false=>κ ⟨.kS t (xs.getD j.toNat t.z) 0,[],ns⟩)
      | .vw n _ l _=>(match s.mem n with
       | some (.row true _ _ _)=>κ ⟨.kJ n t.sz (l+j) 0,[],[n]⟩
       | _=>none)
      | _=>κ ⟨.kS t (xs.getD j.toNat t.z) 0,[],ns⟩) else none
     | none=>none)
    | none=>none)
   | none=>(match E.arr T with
    | some (n,U)=>(match E.ty U with
     | some u=>if (decide (0 <= j)&&decide (j<(n:Int)))=true then (match i with
      | .const _=>(match s.op x with
       | .ptr n off=>κ ⟨.ptr n (off+j.toNat * u.sz),[],[]⟩
       | .kS t x off=>κ ⟨.kS t x (off+j.toNat * u.sz),[],[]⟩
       | .kJ n z i off=>κ ⟨.kJ n z i (off+j.toNat * u.sz),[],[]⟩
       | _=>none)
      | _=>(match Nat.beq u.sz 1 with
       | true=>(match s.op x with
        | .ptr m off=>κ ⟨.dyn (.ptr m off) n j,[],[]⟩
        | .kS t x off=>κ ⟨.dyn (.kS t x off) n j,[],[]⟩
        | .kJ m z i off=>κ ⟨.dyn (.kJ m z i off) n j,[],[]⟩
        | _=>none)
       | false=>none)) else none
     | none=>none)
    | none=>none))
  | _=>none)
 | .index T x i=>(match s.op i,s.op x with
  | .int _ j,.agg cs=>(match E.arr T with
   | some (n,U)=>(match E.ty U with
    | some u=>if (decide (0 <= j)&&decide (j<(n:Int)))=true then
      (match i with
      | .const _=>(match eP E U cs (j.toNat * u.sz) with | some v=>κ ⟨v,[],[]⟩ | none=>none)
      | _=>(match Nat.beq u.sz 1 with
       | true=>(match kP E U cs 0 n j with | some v=>κ ⟨v,[],[]⟩ | none=>none)
       | false=>none)) else none
    | none=>none)
   | none=>none)
  | _,_=>none)
 | .makeSlice T x y=>(match s.op x,s.op y with
  | .int .i64 n,.int .i64 m=>(match isNone (s.mem b)&&!isNone o.dst,E.elem T with
   | true,some e=>(match E.ty e with
    | some t=>if n=m then (if (decide (0 <= n)&&Nat.ble (n.toNat * E.lK e) 281474976710656)=true then
      κ ⟨.own b,[(b,some (.row true e t (List.replicate n.toNat t.z)))],[b]⟩ else none) else none
    | none=>none)
   | _,_=>none)
  | _,_=>none)
 | .buildSlice T n ps=>(match isNone (s.mem b)&&!isNone o.dst,E.elem T with
   | true,some e=>(match E.ty e with
    | some t=>(match dO s.mem t 0 (bK s ps.toList) with
     | some (xs,ns)=>(match Nat.beq n (kK xs)&&Nat.ble (n * t.sz) 16777216 with
      | true=>κ ⟨.own b,dB s.mem ns++[(b,some (.row true e t xs))],b::ns⟩
      | false=>none)
     | none=>none)
    | none=>none)
   | _,_=>none)
 | .build T ps=>(match (match E.agg T with | true=>E.ty T | false=>none) with
  | some t=>(match nN E T (eO t) (bK s ps.toList) with
   | some cs=>(match Lj E o.dst T with
    | []=>κ ⟨.agg cs,[],[]⟩
    | ts=>(match bF ts cs b with
     | (cs',us,b')=>(match Nat.ble b' (b+64) with | true=>κ ⟨.agg cs',us,aN us⟩ | false=>none)))
   | none=>none)
  | none=>none)
 | .slice T x lo hi none=>(match E.elem T with
  | some e=>(match E.ty e with
   | some t=>(match rowOf s.mem e t (s.op x) with
    | some (xs,ns) =>
     (match Gh s lo,Gi s xs.length hi with
     | some l,some h =>
      if (decide (0 <= l)&&(decide (l <= h)&&decide (h <= (xs.length:Int))))=true then
       (match o.dst with
       | some d=>(match E.hint d,lo,s.op x with
        | 1,none,.own m=>(match s.mem m with
         | some (.row true _ _ _)=>κ ⟨.own b,[(m,none),(b,some (.row true e t (xs.take h.toNat)))],[m,b]⟩
         | _=>none)
        | 0,_,.own m=>(match s.mem m with
         | some (.row true _ _ _)=>κ ⟨.vw m t.sz l h,[],[m]⟩
         | _=>κ ⟨.ro e t ((xs.take h.toNat).drop l.toNat),dB s.mem ns,ns⟩)
        | _,_,.nil=>κ ⟨.nil,[],[]⟩
        | _,_,_=>κ ⟨.ro e t ((xs.take h.toNat).drop l.toNat),dB s.mem ns,ns⟩)
       | none=>none)
      else none
     | _,_=>none)
    | none=>none)
   | none=>none)
  | none=>none)
 | .call c=>(match c.callee with
  | .builtin bi=>pF E bi c.argTypes.toList (cB s c.args.toList) b s κ
  | .value f=>(match s.op f with
   | .lJ g caps=>zK E k g (cB s c.args.toList++caps) b s κ
   | .mv g fst=>zK E k g (fst++cB s c.args.toList) b s κ
   | _=>none)
  | _=>none)
 | .makeMap T r=>(match isNone (s.mem b)&&isNone r,E.map T with
  | true,some (k,v)=>(match E.ty k,E.ty v with
   | some tk,some tv=>κ ⟨.own b,[(b,some (.mp T (E.agg k) tk (E.agg v) tv []))],[b]⟩
   | _,_=>none)
  | true,none=>(match E.zJ T with
   | some (k,_)=>(match E.ty k with
    | some tk=>κ ⟨.own b,[(b,some (.fm T (E.agg k) tk []))],[b]⟩
    | none=>none)
   | none=>none)
  | _,_=>none)
 | .lookup T x i ok=>(match s.op x with
  | .own n=>(match s.mem n with
   | some (.mp T' ak tk av tv es)=>(match Nat.beq T T'&&mU E T ak tk av tv with
    | true=>(match bT s.mem ⟨ak,tk,false⟩ (s.op i) with
     | some (d,ns)=>(match ok with
      | true=>κ ⟨.zI [bQ av (unpack tv (match jB tk tv d es with | some z=>z | none=>tv.z)),.bool (!isNone (jB tk tv d es))],[],n::ns⟩
      | false=>κ ⟨bQ av (unpack tv (match jB tk tv d es with | some z=>z | none=>tv.z)),[],n::ns⟩)
     | none=>none)
    | false=>none)
   | some (.fm T' ak tk es)=>(match Nat.beq T T'&&rU E T ak tk with
    | true=>(match bT s.mem ⟨ak,tk,false⟩ (s.op i) with
     | some (d,ns)=>zH tk d (fun q=>match ok,q with
      | true,some v=>κ ⟨.zI [v,.bool true],[],n::ns⟩
      | true,none=>κ ⟨.zI [.undef,.bool false],[],n::ns⟩
      | false,some v=>κ ⟨v,[],n::ns⟩
      | false,none=>κ ⟨.undef,[],n::ns⟩) es
     | none=>none)
    | false=>none)
   | _=>none)
  | _=>none)
 | .insert T x i y=>mapA E T (s.op x) (s.op i) (s.op y) s κ
 | .mapUpdate T x i y=>mapA E T (s.op x) (s.op i) (s.op y) s κ
 | .makeFunc (.func g) first caps=>(match first.toList with
  | []=>κ ⟨.lJ g (cB s caps.toList),[],[]⟩
  | fs=>(match caps.toList with
   | []=>κ ⟨.mv g (cB s fs),[],[]⟩
   | _=>none))
 | _=>none
def uF (E:Env) (k:Nat) (all:List Oper) (o:Oper) (b:Nat) (s:St) (κ:Eff -> Option R):Option R :=
 match (match o.dst with | some d=>Nat.blt d s.n | none=>true) with
 | false=>none
 | true =>
  match o.guard with
  | none=>zL E k o b s κ
  | some (g,want)=>(match all[g]? with
   | some og=>(match og.dst with
    | some d=>(match s.sl d with
     | .bool t=>if (t==want)=true then zL E k o b s κ else κ ⟨.hole,[],[]⟩
     | .hole=>κ ⟨.hole,[],[]⟩
     | _=>none)
    | none=>none)
   | none=>none)
def gT (m:Nat -> Option Obj) (b:Nat):List (Nat×Option Obj) -> Bool
 | []=>true
 | (n,_)::r=>(!isNone (m n)||(Nat.ble b n&&Nat.blt n (b+64)))&&gT m b r
def xS {R:Type} (n:Nat) (κ:Nat -> R):R:=match n with | 0=>κ 0 | m+1=>κ (Nat.succ m)
def Hl {R:Type} (n:Int) (κ:Int -> R):R:=match n with | .ofNat m=>xS m (fun m=>κ (.ofNat m)) | .negSucc m=>xS m (fun m=>κ (.negSucc m))
def uG {R α:Type} (f:α -> (α -> R) -> R):List α -> (List α -> R) -> R
 | [],κ=>κ []
 | x::r,κ=>f x fun x=>uG f r fun r=>κ (x::r)
def St.step (s:St) (d:Option Tmp) (e:Eff) (nx:Nat):St:=⟨match d with | some d=>qZ s.sl d e.val | none=>s.sl,aB s.mem e.upd,nx,s.n,s.np⟩
def uH (d:Nat) (s:St) (κ:St -> Option R):Option R :=
 match s.sl d with
 | .bool t=>(match t with
  | true=>κ { s with sl:=qZ s.sl d (.bool true) }
  | false=>κ { s with sl:=qZ s.sl d (.bool false) })
 | .hole=>κ s
 | _=>none
def xU (c:Operand) (s:St) (κ:St -> Option R):Option R:=match c with | .tmp d=>uH d s κ | _=>κ s
def uI (all:List Oper) (o:Oper) (s:St) (κ:St -> Option R):Option R :=
 match o.guard with
 | none=>κ s
 | some (g,_)=>(match all[g]? with
  | some og=>(match og.dst with | some d=>uH d s κ | none=>none)
  | none=>none)
def pG (E:Env) (k:Nat) (all:List Oper):List Oper -> (κ:St -> Option R) -> St -> Option R
 | [],κ,s=>κ s
 | o::r,κ,s=>uI all o s fun s=>uF E k all o s.gU s fun e=>match gT s.mem s.gU e.upd with
  | true=>xS (s.gU+64) fun nx=>pG E k all r κ (s.step o.dst e nx)
  | false=>none
def edge (oi:Oper) (j:Nat):Bool:=oi.after.toList.any fun e=>Nat.beq e.on j&&Region.binds .any e
structure Rec where
 o:Oper
 i:Nat
 nm:List Nat
 up:List Nat
def reach (all:List Oper):Nat -> Oper -> Nat -> Bool
 | 0,o,j=>edge o j
 | d+1,o,j=>edge o j||o.after.toList.any fun e=>Region.binds .any e&&(match all[e.on]? with | some om=>reach all d om j | none=>false)
def Br (all:List Oper) (a c:Rec):Bool:=(Nat.blt c.i a.i&&reach all 2 a.o c.i)||(Nat.blt a.i c.i&&reach all 2 c.o a.i)
def jC (all:List Oper) (o:Oper):List Nat :=
 (o.op.operands.toList.filterMap fun | .tmp t=>some t | _=>none) ++
 (match o.guard with | some (g,_)=>((all[g]?).bind (·.dst)).toList | none=>[])
def Jq (a c:Oper):Bool:=match a.dst,c.dst with | some x,some y=>!Nat.beq x y | _,_=>true
def Ej (all:List Oper) (a c:Oper):Bool:=match c.dst with | some d=>lM d (jC all a) | none=>false
def zM (all:List Oper) (a c:Rec):Bool :=
 Jq a.o c.o&&(!Ej all a.o c.o||Br all a c)&&(!Ej all c.o a.o||Br all c a)&&(kT a.nm c.up&&kT c.nm a.up&&kT a.up c.up||Br all a c)
def Aj (all:List Oper):List Rec -> Bool
 | []=>true
 | a::r=>(r.all fun c=>zM all a c)&&Aj all r
def uJ (o:Oper) (i:Nat):Bool :=
 (match o.guard with | some (g,_)=>Nat.blt g i&&edge o g | none=>true)&&o.after.toList.all fun e=>!Region.binds .any e||Nat.blt e.on i
def jY (E:Env) (k:Nat) (all:List Oper):List Oper -> Nat -> List Rec -> (κ:St -> Option R) -> St -> Option R
 | [],_,recs,κ,s=>match Aj all recs with | true=>κ s | false=>none
 | o::r,i,recs,κ,s=>match uJ o i with
  | true=>uI all o s fun s=>uF E k all o s.gU s fun e=>match gT s.mem s.gU e.upd with
   | true=>xS (s.gU+64) fun nx=>uG xS e.nm fun nm=>uG xS (aN e.upd) fun up=>jY E k all r (i+1) (recs++[⟨o,i,nm,up⟩]) κ (s.step o.dst e nx)
   | false=>none
  | false=>none
inductive Gj where
 | normal | exit (id:Nat) | ret
inductive PP where
 | fK (T:TypeId) (cs:List PV) | fT (e:TypeId) (t:Ty) | gone
@[reducible] def Bt:List PP -> Type
 | []=>Unit
 | .fK _ cs::r=>qY cs×Bt r
 | .fT _ t::r=>List t.D×Bt r
 | .gone::r=>Bt r
def iI (m:Nat -> Option Obj) (np:Nat):(ps:List PP) -> (j:Nat) -> Option (Bt ps×List Nat×List Nat)
 | [],_=>some ((),[],[])
 | .gone::r,j=>iI m np r (j+1)
 | .fT e t::r,j=>(match bD m e t (.own j) with
  | some (d,_)=>(match iI m np r (j+1) with | some (ds,pj,is)=>some ((d,ds),j::pj,is) | none=>none)
  | none=>none)
 | .fK T cs::r,j=>(match m j with
  | some (.box U xs)=>(match Nat.beq T U with
   | true=>(match grabs true m np cs xs with
    | some (d,is)=>(match iI m np r (j+1) with | some (ds,pj,is')=>some ((d,ds),j::pj,is++is') | none=>none)
    | none=>none)
   | false=>none)
  | _=>none)
def fV:(ps:List PP) -> Bt ps -> (j b:Nat) -> List (Nat×Option Obj)×Nat
 | [],_,_,b=>([],b)
 | .gone::r,d,j,b=>fV r d (j+1) b
 | .fT e t::r,d,j,b=>(match fV r d.2 (j+1) b with | (us,b')=>((j,some (.row true e t d.1))::us,b'))
 | .fK T cs::r,d,j,b=>(match lays cs d.1 b with
  | (xs,u1,b1)=>(match fV r d.2 (j+1) b1 with | (us,b')=>((j,some (.box T xs))::(u1++us),b')))
structure Cut where
 slots:List Nat
 ps:List PV
 pp:List PP
 n:Nat
 al:List (Nat×Nat)
def rV:List (Nat×Nat) -> (Nat -> AV) -> Nat -> AV
 | [],f=>f
 | (i,n)::r,f=>rV r (qZ f i (.own n))
def El (np:Nat) (ns:List Nat) (n:Nat):Nat:=match Nat.blt n np with | true=>n | false=>aL ns (n - np)
def Ll (f:Nat -> AV) (np:Nat) (ns:List Nat):List (Nat×Nat) -> Bool
 | []=>true
 | (i,n)::r=>match f i with
  | .own m=>(match Nat.beq m (El np ns n),Nat.blt n (np+kK ns) with | true,true=>Ll f np ns r | _,_=>false)
  | _=>false
def xV (s:St):List Nat -> List AV
 | []=>[]
 | i::r=>s.sl i::xV s r
def xW:List Nat -> List AV -> (Nat -> AV) -> Nat -> AV
 | i::r,v::vs,f=>xW r vs (qZ f i v)
 | _,_,f=>f
mutual
def Jr (m:Nat -> Option Obj):(p:PV) -> AV -> List Nat
 | .cell t,v=>(match pack m t [v] with | some (_,_,ns)=>ns | none=>[])
 | .own _ _,_=>[]
 | .box _ cs,v=>(match v with
  | .ptr n _=>(match m n with | some (.box _ xs)=>jH m cs xs | _=>[])
  | _=>[])
 | .agg cs,v=>(match v with | .agg xs=>jH m cs xs | _=>[])
 | .nil,_=>[]
 | .pin _ _,_=>[]
 | .ref _,_=>[]
 | .lJ _ cs,v=>(match v with | .lJ _ xs=>jH m cs xs | _=>[])
 | .mp _ _ _ _ _,_=>[]
def jH (m:Nat -> Option Obj):(ps:List PV) -> List AV -> List Nat
 | p::r,x::xs=>Jr m p x++jH m r xs
 | _,_=>[]
end
def uK (m:Nat -> Option Obj):(ps:List PP) -> (j:Nat) -> List Nat
 | [],_=>[]
 | .fK _ cs::r,j=>(match m j with | some (.box _ xs)=>jH m cs xs | _=>[])++uK m r (j+1)
 | _::r,j=>uK m r (j+1)
abbrev Cut.D (c:Cut):Type:=Bt c.pp×qY c.ps
def Cut.at (c:Cut) (x:c.D):St :=
 match fV c.pp x.1 0 (kK c.pp) with
 | (us,b)=>(match lays c.ps x.2 b with
  | (vs,us',b')=>{ sl:=rV c.al (xW c.slots vs (fun _=>.undef)),mem:=aB (fun _=>none) (us++us'),gU:=b',n:=c.n,np:=kK c.pp })
def Cut.Ms (c:Cut) (s:St):Option c.D :=
 match Nat.beq c.n s.n&&Nat.beq (kK c.pp) s.np,iI s.mem s.np c.pp 0,grabs true s.mem s.np c.ps (xV s c.slots) with
 | true,some (d,pj,is),some (d',ns')=>(match nodupB (pj++(is++ns'))&&Ll s.sl (kK c.pp) (is++ns') c.al with | true=>some (d,d') | false=>none)
 | _,_,_=>none
def Cut.soft (c:Cut) (s:St):St:={ s with mem:=aB s.mem (dB s.mem (uK s.mem c.pp 0++jH s.mem c.ps (xV s c.slots))) }
def Cut.gr (c:Cut) (s:St):Option c.D:=c.Ms (c.soft s)
def kU:Code -> Option Nat
 | .region id _ _=>some id
 | .seq a b=>match kU a with | some i=>some i | none=>kU b
 | .block _ c=>kU c
 | .loop c=>kU c
 | .scope c=>kU c
 | _=>none
abbrev rE (R:Type):=Gj -> St -> Option R
def pI {R:Type}:(t:Ty) -> t.D -> (t.D -> R) -> R
 | .unit,_,κ=>κ ()
 | .int _,n,κ=>Hl n κ
 | .bool,b,κ=>(match b with | true=>κ true | false=>κ false)
 | .str,s,κ=>κ s
 | .sl _ t,xs,κ=>uG (pI t) xs κ
 | .pair a b,p,κ=>pI a p.1 fun x=>pI b p.2 fun y=>κ (x,y)
mutual
def pJ {R:Type}:(p:PV) -> p.D -> (p.D -> R) -> R
 | .cell t,d,κ=>pI t d κ
 | .own _ t,xs,κ=>uG (pI t) xs κ
 | .box _ cs,d,κ=>lS cs d κ
 | .agg cs,d,κ=>lS cs d κ
 | .nil,_,κ=>κ ()
 | .pin _ _,_,κ=>κ ()
 | .ref t,d,κ=>pI t d κ
 | .lJ _ cs,d,κ=>lS cs d κ
 | .mp _ _ tk _ tv,es,κ=>uG (fun e κ=>pI tk e.1 fun x=>pI tv e.2 fun y=>κ (x,y)) es κ
def lS {R:Type}:(ps:List PV) -> qY ps -> (qY ps -> R) -> R
 | [],_,κ=>κ ()
 | p::r,d,κ=>pJ p d.1 fun x=>lS r d.2 fun y=>κ (x,y)
end
def lT {R:Type}:(ps:List PP) -> Bt ps -> (Bt ps -> R) -> R
 | [],_,κ=>κ ()
 | .gone::r,d,κ=>lT r d κ
 | .fT _ t::r,d,κ=>uG (pI t) d.1 fun x=>lT r d.2 fun y=>κ (x,y)
 | .fK _ cs::r,d,κ=>lS cs d.1 fun x=>lT r d.2 fun y=>κ (x,y)
def Cut.Mt {R:Type} (c:Cut) (x:c.D) (κ:c.D -> R):R:=lT c.pp x.1 fun a=>lS c.ps x.2 fun b=>κ (a,b)
def iter {R:Type} (c:Cut) (f:(c.D -> Option R) -> c.D -> Option R):Nat -> c.D -> Option R
 | 0,_=>none
 | j+1,d=>c.Mt d fun d=>f (iter c f j) d
inductive rW (R:Type):Type 1 where
 | nil
 | join (id:Nat) (c:Cut) (f:c.D -> Option R) (r:rW R)
 | loop (id:Nat) (c:Cut) (f:(c.D -> Option R) -> c.D -> Option R) (sub:(c.D -> Option R) -> rW R) (r:rW R)
inductive Mv (R:Type):Type 1 where
 | none
 | join (c:Cut) (f:c.D -> Option R)
 | loop (c:Cut) (f:(c.D -> Option R) -> c.D -> Option R) (sub:(c.D -> Option R) -> rW R)
def rW.get {R:Type}:rW R -> Nat -> Mv R
 | .nil,_=>.none
 | .join id c f r,i=>(match Nat.beq (2 * id+1) i with | true=>.join c f | false=>r.get i)
 | .loop id c f sub r,i=>(match Nat.beq (2 * id) i with | true=>.loop c f sub | false=>r.get i)
def rW.uL {R:Type} (T:rW R) (c:Code):Mv R:=match kU c with | some i=>T.get (2 * i) | none=>.none
def rW.uM {R:Type} (T:rW R) (c:Code):Mv R:=match kU c with | some i=>T.get (2 * i+1) | none=>.none
def uN (id:Nat) (K:rE R):rE R:=fun e s=>match e with
 | .normal=>K .normal s
 | .exit id'=>(match Nat.beq id' id with | true=>K .normal s | false=>K (.exit id') s)
 | .ret=>K .ret s
def pK (f:St -> Option R) (K:rE R):rE R:=fun e s=>match e with
 | .normal=>f s
 | .exit id=>K (.exit id) s
 | .ret=>K .ret s
def bE (E:Env) (k:Nat) (T:rW R):Code -> rE R -> St -> Option R
 | .skip,K,s=>K .normal s
 | .region _ ops draw,K,s=>(match draw with
  | false=>pG E k ops.toList ops.toList (K .normal) s
  | true=>jY E k ops.toList ops.toList 0 [] (K .normal) s)
 | .seq a c,K,s=>bE E k T a (pK (match T.uM c with
   | .join ct f=>fun s=>(ct.gr s).bind f
   | _=>bE E k T c K) K) s
 | .cond c x y,K,s=>xU c s fun s=>(match s.op c with
  | .bool t=>(match t with | true=>bE E k T x K s | false=>bE E k T y K s)
  | _=>none)
 | .block id c,K,s=>bE E k T c (uN id K) s
 | .loop c,K,s=>(match T.uL c with
  | .loop ct f _=>(ct.gr s).bind (iter ct f k)
  | _=>none)
 | .scope c,K,s=>bE E k T c K s
 | .exit id,K,s=>K (.exit id) s
 | .ret,K,s=>K .ret s
 | _,_,_=>none
inductive zN:Type 1 where
 | nil
 | eq (α:Type) (x:α) (r:zN)
 | all (α:Type) (f:α -> zN) (r:zN)
def owed (E:Env) (k:Nat) (l:Bool) (T:rW R):Code -> rE R -> zN -> zN
 | .seq a c,K,r=>(match T.uM c with
  | .join ct f=>.eq (ct.D -> Option R) (match l with | true=>f | false=>fun d=>bE E k T c K (ct.at d))
    (owed E k l T a (pK (fun s=>(ct.gr s).bind f) K) (owed E k l T c K r))
  | _=>owed E k l T a (pK (bE E k T c K) K) (owed E k l T c K r))
 | .cond _ x y,K,r=>owed E k l T x K (owed E k l T y K r)
 | .block id c,K,r=>owed E k l T c (uN id K) r
 | .loop c,K,r=>(match T.uL c with
  | .loop ct f sub=>.eq ((ct.D -> Option R) -> ct.D -> Option R) (match l with | true=>f | false=>fun g d=>bE E k (sub g) c (pK (fun s=>(ct.gr s).bind g) K) (ct.at d))
    (.all (ct.D -> Option R) (fun g=>owed E k l (sub g) c (pK (fun s=>(ct.gr s).bind g) K) .nil) r)
  | _=>r)
 | .scope c,K,r=>owed E k l T c K r
 | _,_,r=>r
def uO (m:Nat -> Option Obj):AV -> Bool
 | .ro _ _ _=>false
 | .rz _ _ _ _=>false
 | .vw _ _ _ _=>false
 | .own n=>(match m n with | some (.row true _ _ _)=>true | _=>false)
 | _=>true
def cK (m:Nat -> Option Obj):List AV -> Bool
 | []=>true
 | v::r=>uO m v&&cK m r
def Bu (E:Env) (s:St):ResultVar -> Option AV
 | .tmp t=>some (s.sl t)
 | .cell a T=>(match s.sl a with
  | .ptr n off=>(match s.mem n with | some (.box _ cs)=>eP E T cs off | _=>none)
  | _=>none)
def pO (E:Env) (s:St):(rs:List RT) -> List ResultVar -> Option (RD rs×List Nat×List Nat)
 | [],[]=>some ((),[],[])
 | .val v::r,x::xs=>(match Bu E s x with
  | some y=>(match bT s.mem v y with
   | some (d,ns)=>(match pO E s r xs with
    | some (ds,os,qs)=>(match v.own with
     | true=>(match cK s.mem (aM y) with | true=>some ((d,ds),ns++os,qs) | false=>none)
     | false=>some ((d,ds),os,ns++qs))
    | none=>none)
   | none=>none)
  | none=>none)
 | .pv p::r,x::xs=>(match Bu E s x with
  | some y=>(match grab false s.mem 0 p y with
   | some (d,ns)=>(match pO E s r xs with
    | some (ds,os,qs)=>some ((d,ds),ns++os,qs)
    | none=>none)
   | none=>none)
  | none=>none)
 | _,_=>none
def kL (m:Nat -> Option Obj):(ps:List PT) -> (j:Nat) -> Option (MD ps×List Nat×List Nat)
 | [],_=>some ((),[],[])
 | .val _::r,j=>kL m r j
 | .pv _::r,j=>kL m r j
 | .gv _::r,j=>kL m r j
 | .give _ _::r,j=>kL m r (j+1)
 | .fT e t::r,j=>(match bD m e t (.own j) with
  | some (d,_)=>(match kL m r (j+1) with | some (ds,pj,is)=>some ((d,ds),j::pj,is) | none=>none)
  | none=>none)
 | .fK T cs::r,j=>(match m j with
  | some (.box U xs)=>(match Nat.beq T U with
   | true=>(match grabs true m 0 cs xs with
    | some (d,is)=>(match kL m r (j+1) with | some (ds,pj,is')=>some ((d,ds),j::pj,is++is') | none=>none)
    | none=>none)
   | false=>none)
  | _=>none)
def inP:(ps:List PT) -> AD ps -> (j b:Nat) -> List AV×List (Nat×Option Obj)×Nat
 | [],_,_,b=>([],[],b)
 | .val v::r,d,j,b=>(match inP r d.2 j b with | (vs,us,b')=>(bQ v.agg (unpack v.t d.1)::vs,us,b'))
 | .gv p::r,d,j,b=>(match lay p d.1 b with
  | (v,u1,b1)=>(match inP r d.2 j b1 with | (vs,us,b')=>(v::vs,u1++us,b')))
 | .pv p::r,d,j,b=>(match lay p d.1 b with
  | (v,u1,b1)=>(match inP r d.2 j b1 with | (vs,us,b')=>(v::vs,u1++us,b')))
 | .fK T cs::r,d,j,b=>(match lays cs d.1 b with
  | (xs,u1,b1)=>(match inP r d.2 (j+1) b1 with | (vs,us,b')=>(.ptr j 0::vs,(j,some (.box T xs))::(u1++us),b')))
 | .fT e t::r,d,j,b=>(match inP r d.2 (j+1) b with | (vs,us,b')=>(.own j::vs,(j,some (.row true e t d.1))::us,b'))
 | .give e t::r,d,j,b=>(match inP r d.2 (j+1) b with | (vs,us,b')=>(.own j::vs,(j,some (.row true e t d.1))::us,b'))
def slotsOf:Nat -> List AV -> Nat -> AV
 | _,[],_=>.undef
 | i,v::r,j=>match Nat.beq i j with | true=>v | false=>slotsOf (i+1) r j
def entry (ps:List PT) (d:AD ps) (n:Nat):St :=
 match inP ps d 0 (aG ps) with
 | (vs,us,b)=>{ sl:=slotsOf 0 vs,mem:=aB (fun _=>none) us,gU:=b,n:=n,np:=aG ps }
def nO (m:Nat -> Option Obj):(ps:List PT) -> (j:Nat) -> List Nat
 | [],_=>[]
 | .val _::r,j=>nO m r j
 | .pv _::r,j=>nO m r j
 | .gv _::r,j=>nO m r j
 | .give _ _::r,j=>nO m r (j+1)
 | .fT _ _::r,j=>nO m r (j+1)
 | .fK _ cs::r,j=>(match m j with | some (.box _ xs)=>jH m cs xs | _=>[])++nO m r (j+1)
def St.Gl (s:St) (ps:List PT):St:={ s with mem:=aB s.mem (dB s.mem (nO s.mem ps 0)) }
def Ho (E:Env) (ps:List PT) (rs:List RT) (res:List ResultVar) (s:St):Option (RD rs×MD ps) :=
 match pO E s rs res,kL s.mem ps 0 with
  | some (d,os,qs),some (o,pj,is)=>(match nodupB (pj++(os++is))&&kT (pj++(os++is)) qs with | true=>some (d,o) | false=>none)
  | _,_=>none
def finish (E:Env) (ps:List PT) (rs:List RT) (res:List ResultVar):rE (RD rs×MD ps):=fun e s =>
 match e with
 | .exit _=>none
 | _=>Ho E ps rs res (s.Gl ps)
def Gm (E:Env) (fn:Func) (ps:List PT) (rs:List RT) (k:Nat) (T:rW (RD rs×MD ps)) (d:AD ps):Option (RD rs×MD ps) :=
 match fn.body with
 | some c=>bE E k T c (finish E ps rs fn.results.toList) (entry ps d fn.ntmps)
 | none=>none
def Bv (E:Env) (fn:Func) (ps:List PT) (rs:List RT) (k:Nat) (l:Bool) (T:rW (RD rs×MD ps)):zN :=
 match fn.body with
 | some c=>owed E k l T c (finish E ps rs fn.results.toList) .nil
 | none=>.nil
end
end Go.Proofs.YtmmagcjlfcicfaaGreat.Ab
set_option linter.unusedVariables false
set_option linter.unusedSimpArgs false
namespace Go.Proofs.YtmmagcjlfcicfaaGreat.Ab
open Go.RowKit
def blk:Value -> Option Nat
 | .slice (some a) _ _=>some a.block
 | .pointer (some a)=>some a.block
 | .map (some g)=>some g
 | _=>none
def Obj.live:Obj -> Bool
 | .row w _ _ _=>w
 | .box _ _=>true
 | .mp _ _ _ _ _ _=>true
 | .fm _ _ _ _=>true
mutual
def aA (μ:Nat -> Value) (Nm:Nat -> Prop) (S:Nat -> Prop) (w:World):AV -> Value -> Prop
 | .undef,_=>True
 | .hole,x=>x=undef
 | .int k n,x=>x=.int k n
 | .bool b,x=>x=.bool b
 | .str s,x=>x=.string s
 | .nil,x=>x=.slice none 0 0
 | .ro e t xs,x=>Kd.V t.kd e w 0 S x xs
 | .rz z e t xs,x=>Kd.V t.kd e w 0 S x xs /\ ∃ A n c,x=.slice A n c /\ A.isNone=z
 | .own n,x=>Nm n /\ x=μ n /\ x.oneCell'=true
 | .vw n z l h,x=>Nm n /\ 0 <= l /\ l <= h /\ ∃ A len cap,μ n=.slice A len cap /\ h <= (len:Int) /\ len <= cap /\ x=.slice (if cap=l.toNat then A else A.map (·.add (l.toNat * z))) (h.toNat - l.toNat) (cap - l.toNat)
 | .ptr n off,x=>Nm n /\ ∃ g,μ n=.pointer (some ⟨g,0,none⟩) /\ x=.pointer (some ⟨g,off,none⟩)
 | .kJ n z i off,x=>Nm n /\ ∃ g len cap,μ n=.slice (some ⟨g,0,none⟩) len cap /\ 0 <= i /\ i<(len:Int) /\ x=.pointer (some ⟨g,i.toNat * z+off,none⟩)
 | .kS t y off,x=>∃ (ad:Addr) (cs:List Value),x=.pointer (some (ad.add off)) /\ Kd.FK t.kd w S y cs /\ (∀ j u,cs[j]? = some u -> w.cell? (ad.add j)=some u) /\ (0<t.sz -> S ad.block)
 | .dyn p c j,x=>(0 <= j /\ j<(c:Int)) /\ (match p with
  | .ptr n off=>Nm n /\ ∃ g,μ n=.pointer (some ⟨g,0,none⟩) /\ x=.pointer (some ⟨g,off+j.toNat,none⟩)
  | .kJ n z i off=>Nm n /\ ∃ g len cap,μ n=.slice (some ⟨g,0,none⟩) len cap /\ 0 <= i /\ i<(len:Int) /\ x=.pointer (some ⟨g,i.toNat * z+(off+j.toNat),none⟩)
  | .kS t y off=>∃ (ad:Addr) (cs:List Value),x=.pointer (some (ad.add (off+j.toNat))) /\ Kd.FK t.kd w S y cs /\ (∀ j u,cs[j]? = some u -> w.cell? (ad.add j)=some u) /\ (0<t.sz -> S ad.block)
  | _=>False)
 | .agg cs,x=>∃ vs:Array Value,x=.agg vs /\ VRels μ Nm S w cs vs.toList
 | .zI cs,x=>∃ vs:Array Value,x=.tuple vs /\ VRels μ Nm S w cs vs.toList
 | .lJ f cs,x=>∃ vs:Array Value,x=.func (.func f) #[] vs /\ VRels μ Nm S w cs vs.toList
 | .mv f cs,x=>∃ vs:Array Value,x=.func (.func f) vs #[] /\ VRels μ Nm S w cs vs.toList
def VRels (μ:Nat -> Value) (Nm:Nat -> Prop) (S:Nat -> Prop) (w:World):List AV -> List Value -> Prop
 | [],[]=>True
 | c::cs,v::vs=>aA μ Nm S w c v /\ VRels μ Nm S w cs vs
 | _,_=>False
end
theorem aW:∀ t:Ty,t.kd.sz=t.sz
 | .unit=>rfl | .int _=>rfl | .bool=>rfl | .str=>rfl | .sl _ _=>rfl
 | .pair a b=>by
  show a.kd.sz+b.kd.sz=a.sz+b.sz
  rw [aW a,aW b]
section
variable {μ μ':Nat -> Value} {Nm Nm':Nat -> Prop} {S S':Nat -> Prop} {w w':World}
theorem rX {a:Addr} (h:w'.heap[a.block]? = w.heap[a.block]?):w'.cell? a=w.cell? a:=by simp [World.cell?,h]
theorem oM {a:Addr} {u:Value} (h:w.cell? a=some u):a.block<w.heap.size:=by
 unfold World.cell? at h
 cases hb:w.heap[a.block]? with
 | none=>rw [hb] at h;cases h
 | some o=>exact (Array.getElem?_eq_some_iff.1 hb).1
mutual
theorem dW (hw:∀ k,S k -> k<w.heap.size -> w'.heap[k]? = w.heap[k]?) (hS:∀ k,S k -> k<w.heap.size -> S' k) (hμ:∀ n,Nm n -> μ' n=μ n) (hN:∀ n,Nm n -> Nm' n) :
  ∀ (v:AV) (x:Value),aA μ Nm S w v x -> aA μ' Nm' S' w' v x
 | .undef,_,_=>by simp only [aA]
 | .hole,_,h=>by simp only [aA] at h ⊢;exact h
 | .int _ _,_,h=>by simp only [aA] at h ⊢;exact h
 | .bool _,_,h=>by simp only [aA] at h ⊢;exact h
 | .str _,_,h=>by simp only [aA] at h ⊢;exact h
 | .nil,_,h=>by simp only [aA] at h ⊢;exact h
 | .ro e t xs,_,h=>by
  simp only [aA] at h ⊢
  exact Kd.dQ (Kd.xK (Kd.tX h) (fun k hk hlt=>hw k hk.1 hlt)) (fun k hk=>hS k hk.1 hk.2)
 | .rz z e t xs,_,h=>by
  simp only [aA] at h ⊢
  exact ⟨Kd.dQ (Kd.xK (Kd.tX h.1) (fun k hk hlt=>hw k hk.1 hlt)) (fun k hk=>hS k hk.1 hk.2),h.2⟩
 | .own n,_,h=>by simp only [aA] at h ⊢;exact ⟨hN n h.1,by rw [hμ n h.1];exact h.2.1,h.2.2⟩
 | .vw n z l hh,_,h=>by simp only [aA] at h ⊢;exact ⟨hN n h.1,by rw [hμ n h.1];exact h.2⟩
 | .ptr n off,_,h=>by simp only [aA] at h ⊢;exact ⟨hN n h.1,by rw [hμ n h.1];exact h.2⟩
 | .kJ n z i off,_,h=>by simp only [aA] at h ⊢;exact ⟨hN n h.1,by rw [hμ n h.1];exact h.2⟩
 | .kS t y off,_,h=>by
  simp only [aA] at h ⊢
  obtain ⟨ad,cs,hx,hf,hc,hs⟩:=h
  refine ⟨ad,cs,hx,Kd.aV (Kd.oL (Kd.jF hf) (fun k hk hlt=>hw k hk.1 hlt)) (fun k hk=>hS k hk.1 hk.2),fun j u hu=>?_,fun h0=>?_⟩
  ·have h1:=hc j u hu
   have h2:=oM h1
   have h3:0<t.sz:=by
    have h4:=t.kd.len hf
    have h5:=(List.getElem?_eq_some_iff.1 hu).1
    rw [<- aW];omega
   rw [rX (hw _ (by rw [gJ];exact hs h3) h2)];exact h1
  ·have h4:=t.kd.len hf
   rw [aW] at h4
   have h1:=hc 0 _ (List.getElem?_eq_getElem (by omega))
   have h2:=oM h1
   rw [gJ] at h2
   exact hS _ (hs h0) h2
 | .dyn p cc jj,x,h=>by
  simp only [aA] at h ⊢
  refine ⟨h.1,?_⟩
  have h:=h.2
  cases p with
  | ptr n off=>simp only at h ⊢;exact ⟨hN n h.1,by rw [hμ n h.1];exact h.2⟩
  | kJ n z i off=>simp only at h ⊢;exact ⟨hN n h.1,by rw [hμ n h.1];exact h.2⟩
  | kS t y off =>
   simp only at h ⊢
   obtain ⟨ad,cs,hx,hf,hc,hs⟩:=h
   refine ⟨ad,cs,hx,Kd.aV (Kd.oL (Kd.jF hf) (fun k hk hlt=>hw k hk.1 hlt)) (fun k hk=>hS k hk.1 hk.2),fun j u hu=>?_,fun h0=>?_⟩
   ·have h1:=hc j u hu
    have h2:=oM h1
    have h3:0<t.sz:=by
     have h4:=t.kd.len hf
     have h5:=(List.getElem?_eq_some_iff.1 hu).1
     rw [<- aW];omega
    rw [rX (hw _ (by rw [gJ];exact hs h3) h2)];exact h1
   ·have h4:=t.kd.len hf
    rw [aW] at h4
    have h1:=hc 0 _ (List.getElem?_eq_getElem (by omega))
    have h2:=oM h1
    rw [gJ] at h2
    exact hS _ (hs h0) h2
  | _=>exact h.elim
 | .agg cs,_,h=>by
  simp only [aA] at h ⊢
  obtain ⟨vs,hx,hr⟩:=h
  exact ⟨vs,hx,aZ hw hS hμ hN cs vs.toList hr⟩
 | .zI cs,_,h=>by
  simp only [aA] at h ⊢
  obtain ⟨vs,hx,hr⟩:=h
  exact ⟨vs,hx,aZ hw hS hμ hN cs vs.toList hr⟩
 | .lJ f cs,_,h=>by
  simp only [aA] at h ⊢
  obtain ⟨vs,hx,hr⟩:=h
  exact ⟨vs,hx,aZ hw hS hμ hN cs vs.toList hr⟩
 | .mv f cs,_,h=>by
  simp only [aA] at h ⊢
  obtain ⟨vs,hx,hr⟩:=h
  exact ⟨vs,hx,aZ hw hS hμ hN cs vs.toList hr⟩
theorem aZ (hw:∀ k,S k -> k<w.heap.size -> w'.heap[k]? = w.heap[k]?) (hS:∀ k,S k -> k<w.heap.size -> S' k) (hμ:∀ n,Nm n -> μ' n=μ n) (hN:∀ n,Nm n -> Nm' n) :
  ∀ (vs:List AV) (xs:List Value),VRels μ Nm S w vs xs -> VRels μ' Nm' S' w' vs xs
 | [],[],_=>by simp only [VRels]
 | [],_::_,h=>by simp only [VRels] at h
 | _::_,[],h=>by simp only [VRels] at h
 | c::cs,v::vs,h=>by
  simp only [VRels] at h ⊢
  exact ⟨dW hw hS hμ hN c v h.1,aZ hw hS hμ hN cs vs h.2⟩
end
end
structure Ctx where
 Hq:Nat -> Prop
 X:Nat -> Prop
 w0:World
 np:Nat
 pQ:Nat -> Value
abbrev Ctx.base (c:Ctx):Nat:=c.w0.heap.size
def aK (agg:Bool) (cs:List Value):Value:=match agg with | true=>.agg cs.toArray | false=>cs.getD 0 undef
def aI:(t:Ty) -> t.D -> List Value
 | .unit,_=>[] | .int k,n=>[.int k n] | .bool,b=>[.bool b] | .str,s=>[.string s] | .sl _ _,_=>[]
 | .pair a b,p=>aI a p.1++aI b p.2
def ents (S:Nat -> Prop) (w:World) (ak:Bool) (tk:Ty) (av:Bool) (tv:Ty):List (tk.D×tv.D) -> List MapEntry -> Prop
 | [],[]=>True
 | x::xs,e::es=>(e.key=aK ak (aI tk x.1) /\ ∃ cs,e.val=aK av cs /\ (av=false -> cs.length=1 /\ ∀ u∈cs,u.oneCell'=true) /\ Kd.FK tv.kd w S x.2 cs) /\ ents S w ak tk av tv xs es
 | _,_=>False
def fZ (μ:Nat -> Value) (Nm S:Nat -> Prop) (w:World) (ak:Bool) (tk:Ty):List (tk.D×AV) -> List MapEntry -> Prop
 | [],[]=>True
 | x::xs,e::es=>(e.key=aK ak (aI tk x.1) /\ aA μ Nm S w x.2 e.val) /\ fZ μ Nm S w ak tk xs es
 | _,_=>False
def NX (c:Ctx) {t:Ty} (e:TypeId) (w:World) (ok:Nat -> Prop) (v:Value) (xs:List t.D):Prop :=
 Kd.N t.kd e w 0 ok v xs /\ ∀ k,v.ownBlock=some k -> c.base <= k \/ c.X k
def aF (c:Ctx) (μ:Nat -> Value) (Nm:Nat -> Prop) (S:Nat -> Prop) (w:World) (n:Nat):Obj -> Prop
 | .row true e t xs=>NX c e w (fun k=>S k \/ some k=(μ n).ownBlock) (μ n) xs
 | .row false e t xs=>Kd.V t.kd e w 0 S (μ n) xs
 | .box T cs=>∃ (g:Nat) (vs:Array Value),μ n=.pointer (some ⟨g,0,none⟩) /\ (c.base <= g \/ c.X g) /\ w.heap[g]? = some (.cells vs T (0,0)) /\ VRels μ Nm S w cs vs.toList
 | .mp T ak tk av tv es=>∃ (g:Nat) (l:Array MapEntry) (iJ:Nat),μ n=.map (some g) /\ (c.base <= g \/ c.X g) /\ w.heap[g]? = some (.map l iJ) /\ ents S w ak tk av tv es l.toList
 | .fm T ak tk es=>∃ (g:Nat) (l:Array MapEntry) (iJ:Nat),μ n=.map (some g) /\ (c.base <= g \/ c.X g) /\ w.heap[g]? = some (.map l iJ) /\ fZ μ Nm S w ak tk es l.toList
def aD (c:Ctx) (μ:Nat -> Value) (m:Nat -> Option Obj):Nat -> Prop :=
 fun k=>((c.Hq k /\ k<c.base) \/ c.base <= k \/ c.X k) /\ ∀ n o,m n=some o -> o.live=true -> blk (μ n)≠some k
structure eT (X:Nat -> Prop) (B:Nat) (w w':World):Prop where
 os:w'.os=w.os
 tape:w'.tape=w.tape
 output:w'.output=w.output
 size:w.heap.size <= w'.heap.size
 block:∀ k,k<B -> ¬ X k -> w'.heap[k]? = w.heap[k]?
theorem eT.trans {X:Nat -> Prop} {B:Nat} {a b c:World} (h:eT X B a b) (k:eT X B b c):eT X B a c :=
 ⟨k.os.trans h.os,k.tape.trans h.tape,k.output.trans h.output,Nat.le_trans h.size k.size,fun i hi hx=>(k.block i hi hx).trans (h.block i hi hx)⟩
theorem Below.Qd {B:Nat} {w w':World} (h:Below B w w') (X:Nat -> Prop):eT X B w w':=⟨h.os,h.tape,h.output,h.size,fun k hk _=>h.block k hk⟩
theorem eT.none {B:Nat} {w w':World} (h:eT (fun _=>False) B w w'):Below B w w':=⟨h.os,h.tape,h.output,h.size,fun k hk=>h.block k hk id⟩
structure Rel (c:Ctx) (s:St) (a:Act) (w:World) (μ:Nat -> Value) (Nm:Nat -> Prop):Prop where
 size:a.tmps.size=s.n
 np:s.np=c.np
 pins:∀ j,j<c.np -> Nm j /\ μ j=c.pQ j
 defers:a.defers=[]
 below:eT c.X c.base c.w0 w
 names:∀ n o,s.mem n=some o -> Nm n
 objs:∀ n o,s.mem n=some o -> aF c μ Nm (aD c μ s.mem) w n o
 dist:∀ n n' o o',s.mem n=some o -> s.mem n'=some o' -> o.live=true -> o'.live=true -> n≠n' -> ∀ k,blk (μ n)=some k -> blk (μ n')≠some k
 slots:∀ x,aA μ Nm (aD c μ s.mem) w (s.sl x) (a.tmps.getD x undef)
end Go.Proofs.YtmmagcjlfcicfaaGreat.Ab
set_option linter.unusedVariables false
set_option linter.unusedSimpArgs false
namespace Go.Proofs.YtmmagcjlfcicfaaGreat.Ab
open Go.RowKit
section
variable {μ μ':Nat -> Value} {Nm Nm':Nat -> Prop} {S S':Nat -> Prop} {w w':World} {c:Ctx}
theorem jZ {v:Value} {k:Nat} (h:v.ownBlock=some k):blk v=some k:=by
 unfold Value.ownBlock at h
 split at h
 ·simpa [blk] using h
 ·cases h
theorem iK (hw:∀ k,S k -> k<w.heap.size -> w'.heap[k]? = w.heap[k]?) (hS:∀ k,S k -> k<w.heap.size -> S' k) (hμ:∀ n,Nm n -> μ' n=μ n) (hN:∀ n,Nm n -> Nm' n) {ak:Bool} {tk:Ty}:∀ {es:List (tk.D×AV)} {l:List MapEntry},fZ μ Nm S w ak tk es l -> fZ μ' Nm' S' w' ak tk es l
 | [],[],_=>trivial
 | [],_::_,h=>h.elim
 | _::_,[],h=>h.elim
 | x::xs,e::l,h=>by
  simp only [fZ] at h ⊢
  exact ⟨⟨h.1.1,dW hw hS hμ hN _ _ h.1.2⟩,iK hw hS hμ hN h.2⟩
theorem gW (hw:∀ k,S k -> k<w.heap.size -> w'.heap[k]? = w.heap[k]?) (hS:∀ k,S k -> k<w.heap.size -> S' k) {ak av:Bool} {tk tv:Ty}:∀ {es:List (tk.D×tv.D)} {l:List MapEntry},ents S w ak tk av tv es l -> ents S' w' ak tk av tv es l
 | [],[],_=>trivial
 | [],_::_,h=>h
 | _::_,[],h=>h
 | x::xs,e::l,h=>by
  simp only [ents] at h ⊢
  obtain ⟨⟨h1,cs,h2,h3,h4⟩,h5⟩:=h
  exact ⟨⟨h1,cs,h2,h3,Kd.aV (Kd.oL (Kd.jF h4) (fun k hk hlt=>hw k hk.1 hlt)) (fun k hk=>hS k hk.1 hk.2)⟩,gW hw hS h5⟩
theorem Ak (hw:∀ k,S k -> k<w.heap.size -> w'.heap[k]? = w.heap[k]?) (hS:∀ k,S k -> k<w.heap.size -> S' k) (hμ:∀ n,Nm n -> μ' n=μ n) (hN:∀ n,Nm n -> Nm' n)
  (n:Nat) (o:Obj) (hn:Nm n) (hb:o.live=true -> ∀ k,blk (μ n)=some k -> w'.heap[k]? = w.heap[k]?) (h:aF c μ Nm S w n o):aF c μ' Nm' S' w' n o:=by
 cases o with
 | row f e t xs =>
  cases f with
  | true =>
   simp only [aF] at h ⊢
   rw [hμ n hn]
   refine ⟨Kd.gP (Kd.Gx (Kd.tY h.1) (fun k hk hlt=>?_)) (fun k hk=>?_),h.2⟩
   ·rcases hk.1 with h1 | h1
    ·exact hw k h1 hlt
    ·exact hb rfl k (jZ h1.symm)
   ·rcases hk.1 with h1 | h1
    ·exact .inl (hS k h1 hk.2)
    ·exact .inr h1
  | false =>
   simp only [aF] at h ⊢
   rw [hμ n hn]
   exact Kd.dQ (Kd.xK (Kd.tX h) (fun k hk hlt=>hw k hk.1 hlt)) (fun k hk=>hS k hk.1 hk.2)
 | box T cs =>
  simp only [aF] at h ⊢
  obtain ⟨g,vs,h1,h2,h3,h4⟩:=h
  refine ⟨g,vs,by rw [hμ n hn];exact h1,h2,?_,aZ hw hS hμ hN cs vs.toList h4⟩
  rw [hb rfl g (by rw [h1];rfl)]
  exact h3
 | mp T ak tk av tv es =>
  simp only [aF] at h ⊢
  obtain ⟨g,l,iJ,h1,h2,h3,h4⟩:=h
  refine ⟨g,l,iJ,by rw [hμ n hn];exact h1,h2,?_,gW hw hS h4⟩
  rw [hb rfl g (by rw [h1];rfl)]
  exact h3
 | fm T ak tk es =>
  simp only [aF] at h ⊢
  obtain ⟨g,l,iJ,h1,h2,h3,h4⟩:=h
  refine ⟨g,l,iJ,by rw [hμ n hn];exact h1,h2,?_,iK hw hS hμ hN h4⟩
  rw [hb rfl g (by rw [h1];rfl)]
  exact h3
end
variable {c:Ctx}
theorem Rel.aT {s:St} {a:Act} {w:World} {μ:Nat -> Value} {Nm:Nat -> Prop} (h:Rel c s a w μ Nm) {n:Nat} {o:Obj} (hn:s.mem n=some o) (hl:o.live=true) {k:Nat} (hk:blk (μ n)=some k):(c.base <= k \/ c.X k) /\ k<w.heap.size /\ ¬ aD c μ s.mem k:=by
 have ho:=h.objs n o hn
 have h1:(c.base <= k \/ c.X k) /\ k<w.heap.size:=by
  cases o with
  | row f e t xs =>
   cases f with
   | true =>
    simp only [aF] at ho
    obtain ⟨A,cp,hv⟩:=Kd.jW ho.1
    have mQ:(μ n).ownBlock=some k:=by
     rw [hv] at hk ⊢
     cases A with
     | none=>simp [blk] at hk
     | some a=>simpa [blk,Value.ownBlock] using hk
    exact ⟨ho.2 k mQ,Kd.Mk ho.1 k mQ⟩
   | false=>cases hl
  | box T cs =>
   simp only [aF] at ho
   obtain ⟨g,vs,h1,h2,h3,h4⟩:=ho
   rw [h1] at hk
   simp [blk] at hk
   subst hk
   exact ⟨h2,(Array.getElem?_eq_some_iff.1 h3).1⟩
  | mp T ak tk av tv es =>
   simp only [aF] at ho
   obtain ⟨g,l,iJ,h1,h2,h3,h4⟩:=ho
   rw [h1] at hk
   simp [blk] at hk
   subst hk
   exact ⟨h2,(Array.getElem?_eq_some_iff.1 h3).1⟩
  | fm T ak tk es =>
   simp only [aF] at ho
   obtain ⟨g,l,iJ,h1,h2,h3,h4⟩:=ho
   rw [h1] at hk
   simp [blk] at hk
   subst hk
   exact ⟨h2,(Array.getElem?_eq_some_iff.1 h3).1⟩
 exact ⟨h1.1,h1.2,fun hs=>hs.2 n o hn hl hk⟩
theorem Rel.next {s s':St} {a a':Act} {w w':World} {μ μ':Nat -> Value} {Nm Nm':Nat -> Prop} (h:Rel c s a w μ Nm)
  (hsize:a'.tmps.size=s'.n) (hdef:a'.defers=[]) (hbelow:eT c.X c.base c.w0 w')
  (hw:∀ k,aD c μ s.mem k -> k<w.heap.size -> w'.heap[k]? = w.heap[k]?)
  (hS:∀ k,aD c μ s.mem k -> k<w.heap.size -> aD c μ' s'.mem k)
  (hμ:∀ n,Nm n -> μ' n=μ n) (hN:∀ n,Nm n -> Nm' n)
  (hmem:∀ n o,s'.mem n=some o -> (s.mem n=some o /\ (o.live=true -> ∀ k,blk (μ n)=some k -> w'.heap[k]? = w.heap[k]?)) \/ (Nm' n /\ aF c μ' Nm' (aD c μ' s'.mem) w' n o))
  (hdist:∀ n n' o o',s'.mem n=some o -> s'.mem n'=some o' -> o.live=true -> o'.live=true -> n≠n' -> ∀ k,blk (μ' n)=some k -> blk (μ' n')≠some k)
  (Hr:∀ x,(s'.sl x=s.sl x /\ a'.tmps.getD x undef=a.tmps.getD x undef) \/ aA μ' Nm' (aD c μ' s'.mem) w' (s'.sl x) (a'.tmps.getD x undef)) (hnp:s'.np=s.np:=by rfl) :
  Rel c s' a' w' μ' Nm' where
 size:=hsize
 np:=hnp.trans h.np
 pins:=fun j hj=>⟨hN j (h.pins j hj).1,by rw [hμ j (h.pins j hj).1];exact (h.pins j hj).2⟩
 defers:=hdef
 below:=hbelow
 names:=fun n o hn=>by
  rcases hmem n o hn with h1 | h1
  ·exact hN n (h.names n o h1.1)
  ·exact h1.1
 objs:=fun n o hn=>by
  rcases hmem n o hn with h1 | h1
  ·exact Ak hw hS hμ hN n o (h.names n o h1.1) h1.2 (h.objs n o h1.1)
  ·exact h1.2
 dist:=hdist
 slots:=fun x=>by
  rcases Hr x with h1 | h1
  ·rw [h1.1,h1.2]
   exact dW hw hS hμ hN _ _ (h.slots x)
  ·exact h1
theorem Rel.world {s:St} {a:Act} {w w':World} {μ:Nat -> Value} {Nm:Nat -> Prop} (h:Rel c s a w μ Nm) (hb:Below w.heap.size w w'):Rel c s a w' μ Nm:=by
 have hle:c.base <= w.heap.size:=h.below.size
 refine h.next h.size h.defers (h.below.trans (Below.Qd (hb.mono hle) c.X)) (fun k _ hlt=>hb.block k hlt) (fun k hk _=>hk) (fun _ _=>rfl) (fun _ hn=>hn) (fun n o hn=>.inl ⟨hn,fun hl k hk=>?_⟩) h.dist (fun x=>.inl ⟨rfl,rfl⟩)
 exact hb.block k (h.aT hn hl hk).2.1
theorem Rel.drew {s:St} {a:Act} {w:World} {μ:Nat -> Value} {Nm:Nat -> Prop} (h:Rel c s a w μ Nm):Rel c s a w.drew μ Nm:=h.world ((Below.refl _ _).drew)
theorem Bw {a:Act} {d:Tmp} {v:Value} (hd:d<a.tmps.size) (x:Nat):(a.put (some d) v).tmps.getD x undef=if d=x then v else a.tmps.getD x undef:=by
 simp only [Act.put,Array.getD_eq_getD_getElem?]
 by_cases h:d=x
 ·subst h;simp [hd]
 ·simp [h]
theorem jI (f:Nat -> AV) (d:Nat) (v:AV) (x:Nat):qZ f d v x=if d=x then v else f x:=by
 unfold qZ
 cases h:Nat.beq x d with
 | true=>have:=Nat.eq_of_beq_eq_true h;simp [this]
 | false=>have:=Nat.ne_of_beq_eq_false h;simp [Ne.symm this]
theorem Js (m:Nat -> Option Obj):aB m []=m:=rfl
theorem aC (m:Nat -> Option Obj) (n:Nat) (o:Option Obj) (x:Nat):dK m n o x=if n=x then o else m x:=by
 unfold dK
 cases h:Nat.beq x n with
 | true=>have:=Nat.eq_of_beq_eq_true h;simp [this]
 | false=>have:=Nat.ne_of_beq_eq_false h;simp [Ne.symm this]
theorem Rel.put {s:St} {a:Act} {w:World} {μ:Nat -> Value} {Nm:Nat -> Prop} (h:Rel c s a w μ Nm) (d:Option Tmp) (hd:∀ t,d=some t -> t<s.n) {v:AV} {x:Value} (hv:aA μ Nm (aD c μ s.mem) w v x) :
  Rel c (s.put d v) (a.put d x) w μ Nm:=by
 cases d with
 | none=>exact h
 | some d =>
  have hlt:d<a.tmps.size:=by rw [h.size];exact hd d rfl
  refine h.next (by simp [Act.put,St.put,h.size]) (by simpa [Act.put] using h.defers) h.below (fun _ _ _=>rfl) (fun _ hk _=>hk) (fun _ _=>rfl) (fun _ hn=>hn) (fun n o hn=>.inl ⟨hn,fun _ _ _=>rfl⟩) h.dist (fun y=>?_)
  simp only [St.put]
  rw [Bw hlt,jI]
  by_cases hy:d=y
  ·right;simp only [hy,if_true];exact hv
  ·left;simp only [hy,if_false];exact ⟨trivial,trivial⟩
theorem dX {μ:Nat -> Value} {Nm S:Nat -> Prop} {w:World}:∀ {cs:List AV} {vs:List Value},VRels μ Nm S w cs vs -> ∀ i,aA μ Nm S w (oJ cs i) (vs.getD i undef)
 | [],[],_,i=>by simp [oJ,aA]
 | [],_::_,h,_=>by simp only [VRels] at h
 | _::_,[],h,_=>by simp only [VRels] at h
 | c::cs,v::vs,h,0=>by simp only [VRels] at h;simpa [oJ] using h.1
 | c::cs,v::vs,h,i+1=>by simp only [VRels] at h;simpa [oJ] using dX h.2 i
theorem bY {μ:Nat -> Value} {Nm S:Nat -> Prop} {w:World}:∀ {cs:List AV} {vs:List Value},VRels μ Nm S w cs vs -> cs.length=vs.length
 | [],[],_=>rfl
 | [],_::_,h=>by simp only [VRels] at h
 | _::_,[],h=>by simp only [VRels] at h
 | c::cs,v::vs,h=>by simp only [VRels] at h;simp [bY h.2]
theorem aP {μ:Nat -> Value} {Nm S:Nat -> Prop} {w:World}:∀ {cs ds:List AV} {vs us:List Value},VRels μ Nm S w cs vs -> VRels μ Nm S w ds us -> VRels μ Nm S w (cs++ds) (vs++us)
 | [],_,[],_,_,h=>h
 | [],_,_::_,_,h,_=>by simp only [VRels] at h
 | _::_,_,[],_,h,_=>by simp only [VRels] at h
 | c::cs,_,v::vs,_,h,h'=>by simp only [VRels,List.cons_append] at h ⊢;exact ⟨h.1,aP h.2 h'⟩
theorem dP:∀ l:List AV,gI l=l.length
 | []=>rfl
 | _::r=>by simp [gI,dP r]
theorem bU:∀ (n:Nat) (l:List AV),takeA n l=l.take n
 | 0,_=>by simp [takeA]
 | _+1,[]=>by simp [takeA]
 | n+1,v::r=>by simp [takeA,bU n r]
theorem bV:∀ (n:Nat) (l:List AV),bH n l=l.drop n
 | 0,_=>by simp [bH]
 | _+1,[]=>by simp [bH]
 | n+1,v::r=>by simp [bH,bV n r]
theorem dR {μ:Nat -> Value} {Nm S:Nat -> Prop} {w:World}:∀ {cs:List AV} {vs:List Value} (n:Nat),VRels μ Nm S w cs vs -> VRels μ Nm S w (cs.take n) (vs.take n)
 | [],[],n,_=>by simp [VRels]
 | [],_::_,_,h=>by simp only [VRels] at h
 | _::_,[],_,h=>by simp only [VRels] at h
 | _::_,_::_,0,_=>by simp [VRels]
 | c::cs,v::vs,n+1,h=>by simp only [VRels,List.take_succ_cons] at h ⊢;exact ⟨h.1,dR n h.2⟩
theorem dS {μ:Nat -> Value} {Nm S:Nat -> Prop} {w:World}:∀ {cs:List AV} {vs:List Value} (n:Nat),VRels μ Nm S w cs vs -> VRels μ Nm S w (cs.drop n) (vs.drop n)
 | [],[],n,_=>by simp [VRels]
 | [],_::_,_,h=>by simp only [VRels] at h
 | _::_,[],_,h=>by simp only [VRels] at h
 | _::_,_::_,0,h=>by simpa using h
 | c::cs,v::vs,n+1,h=>by simp only [VRels,List.drop_succ_cons] at h ⊢;exact dS n h.2
theorem Al {μ:Nat -> Value} {Nm S:Nat -> Prop} {w:World} (v:Value):aA μ Nm S w (ofConst v) v:=by
 unfold ofConst
 split <;> simp [aA]
theorem Rel.op {s:St} {a:Act} {w:World} {μ:Nat -> Value} {Nm:Nat -> Prop} (h:Rel c s a w μ Nm) (x:Operand):aA μ Nm (aD c μ s.mem) w (s.op x) (a.eval x):=by
 cases x with
 | tmp t=>simp only [St.op,Act.eval];exact h.slots t
 | const v=>simp only [St.op,Act.eval];exact Al v
 | global g=>simp only [St.op,aA]
 | func f=>simp only [St.op,Act.eval,aA];exact ⟨#[],rfl,by simp [VRels]⟩
theorem Rel.ops {s:St} {a:Act} {w:World} {μ:Nat -> Value} {Nm:Nat -> Prop} (h:Rel c s a w μ Nm):∀ l:List Operand,VRels μ Nm (aD c μ s.mem) w (cB s l) (l.map a.eval)
 | []=>by simp [cB,VRels]
 | x::r=>by simp only [cB,List.map_cons,VRels];exact ⟨h.op x,h.ops r⟩
end Go.Proofs.YtmmagcjlfcicfaaGreat.Ab
set_option linter.unusedVariables false
set_option linter.unusedSimpArgs false
namespace Go.Proofs.YtmmagcjlfcicfaaGreat.Ab
open Go.RowKit
section
variable {μ:Nat -> Value} {Nm:Nat -> Prop} {S:Nat -> Prop} {w:World} {c:Ctx} {m:Nat -> Option Obj}
theorem fD {t t':Ty} {xs:List t.D} {ys:List t'.D} (h:oZ t t' xs=some ys):∃ e:t=t',ys=e ▸ xs:=by
 unfold oZ at h
 split at h
 ·rename_i hb
  injection h with h
  exact ⟨Ty.beq_eq hb,h.symm⟩
 ·cases h
theorem kV {α β:Type} {a:Kd α} {b:Kd β} {ok:Nat -> Prop} {x:α×β} {c0 c1:List Value} (h0:Kd.FK a w ok x.1 c0) (h1:Kd.FK b w ok x.2 c1):Kd.FK (Kd.pair a b) w ok x (c0++c1):=⟨c0,c1,rfl,h0,h1⟩
theorem bA:∀ (t:Ty) (x:t.D) (cs:List Value),Kd.FK t.kd w S x cs -> VRels μ Nm S w (unpack t x) cs
 | .unit,_,cs,h=>by
  have:cs=[]:=h
  subst this;simp [unpack,VRels]
 | .int k,n,cs,h=>by
  have:cs=[.int k n]:=h
  subst this;simp [unpack,VRels,aA]
 | .bool,b,cs,h=>by
  have:cs=[.bool b]:=h
  subst this;simp [unpack,VRels,aA]
 | .str,b,cs,h=>by
  have:cs=[.string b]:=h
  subst this;simp [unpack,VRels,aA]
 | .sl e t,xs,cs,h=>by
  obtain ⟨A,cp,rfl,hl,hf⟩:=h
  simp only [unpack,VRels,aA,and_true]
  exact Kd.Gw hl hf
 | .pair a b,p,cs,h=>by
  obtain ⟨c0,c1,rfl,h0,h1⟩:=h
  simp only [unpack]
  exact aP (bA a p.1 c0 h0) (bA b p.2 c1 h1)
theorem kW:∀ (t:Ty) (x:t.D),(unpack t x).length=t.sz
 | .unit,_=>rfl | .int _,_=>rfl | .bool,_=>rfl | .str,_=>rfl | .sl _ _,_=>rfl
 | .pair a b,p=>by simp [unpack,Ty.sz,kW a,kW b]
def aX (μ:Nat -> Value) (m:Nat -> Option Obj) (S:Nat -> Prop) (ns:List Nat):Nat -> Prop:=fun k=>S k \/ ∃ n∈ns,bP m n=true /\ blk (μ n)=some k
theorem gX {k:Nat} (h:aX μ m S [] k):S k:=by
 rcases h with h | ⟨n,hn,_⟩
 ·exact h
 ·cases hn
theorem eU {ns ns':List Nat} {k:Nat} (h:aX μ m S ns k):aX μ m S (ns++ns') k:=h.imp id (fun ⟨n,hn,hb⟩=>⟨n,List.mem_append_left _ hn,hb⟩)
theorem fE {ns ns':List Nat} {k:Nat} (h:aX μ m S ns' k):aX μ m S (ns++ns') k:=h.imp id (fun ⟨n,hn,hb⟩=>⟨n,List.mem_append_right _ hn,hb⟩)
theorem Bz {n:Nat} {f:Bool} {e:TypeId} {t:Ty} {xs:List t.D} (hn:m n=some (.row f e t xs)) (h:aF c μ Nm S w n (.row f e t xs)):Kd.V t.kd e w 0 (aX μ m S [n]) (μ n) xs:=by
 cases f with
 | true =>
  simp only [aF] at h
  refine Kd.dQ (Kd.Rn h.1) (fun k hk=>?_)
  rcases hk with hk | hk
  ·exact .inl hk
  ·exact .inr ⟨n,List.mem_singleton.2 rfl,by simp [bP,hn],jZ hk.symm⟩
 | false =>
  simp only [aF] at h
  exact Kd.dQ h (fun k hk=>.inl hk)
theorem dY (hm:∀ n o,m n=some o -> aF c μ Nm S w n o) {e:TypeId} {t:Ty} {v:AV} {x:Value} {xs:List t.D} {ns:List Nat} (h:rowOf m e t v=some (xs,ns)) (hv:aA μ Nm S w v x):Kd.V t.kd e w 0 (aX μ m S ns) x xs:=by
 unfold rowOf at h
 split at h
 ·injection h with h;injection h with h1 h2;subst h1;subst h2
  simp only [aA] at hv;subst hv
  exact Kd.Jl _ _ _ _ _
 ·rename_i e' t' ys
  split at h
  ·rename_i he
   have:=Nat.eq_of_beq_eq_true he;subst this
   split at h
   ·rename_i zs hc
    injection h with h;injection h with h1 h2;subst h1;subst h2
    obtain ⟨rfl,rfl⟩:=fD hc
    simp only [aA] at hv
    exact Kd.dQ hv (fun k hk=>.inl hk)
   ·cases h
  ·cases h
 ·rename_i n z l hh
  split at h
  ·rename_i f e' t' ys hn
   split at h
   ·rename_i hb
    simp only [Bool.and_eq_true] at hb
    obtain ⟨he,hz⟩:=hb
    have:=Nat.eq_of_beq_eq_true he;subst this
    have hz:=Nat.eq_of_beq_eq_true hz
    split at h
    ·rename_i zs hc
     injection h with h;injection h with q1 q2;subst q1;subst q2
     obtain ⟨rfl,rfl⟩:=fD hc
     simp only [aA] at hv
     obtain ⟨_,h0,h1,A,len,cap,g1,g2,g3,g4⟩:=hv
     have hV:=Bz hn (hm n _ hn)
     rw [g1] at hV
     obtain ⟨A',cp,e1,hl,hF⟩:=hV
     injection e1 with e1 e2 e3
     subst e1;subst e2;subst e3
     have hF2:=Kd.Gc hF (lo:=l.toNat) (hi:=hh.toNat) (by omega) (by omega) hl
     rw [aW,<- hz] at hF2
     have hlen:((zs.take hh.toNat).drop l.toNat).length=hh.toNat - l.toNat:=by simp;omega
     rw [g4,<- hlen]
     exact Kd.Gw (by rw [hlen];omega) hF2
    ·cases h
   ·cases h
  ·cases h
 ·rename_i z e' t' ys
  split at h
  ·rename_i he
   have:=Nat.eq_of_beq_eq_true he;subst this
   split at h
   ·rename_i zs hc
    injection h with h;injection h with h1 h2;subst h1;subst h2
    obtain ⟨rfl,rfl⟩:=fD hc
    simp only [aA] at hv
    exact Kd.dQ hv.1 (fun k hk=>.inl hk)
   ·cases h
  ·cases h
 ·rename_i n
  split at h
  ·rename_i f e' t' ys hn
   split at h
   ·rename_i he
    have:=Nat.eq_of_beq_eq_true he;subst this
    split at h
    ·rename_i zs hc
     injection h with h;injection h with h1 h2;subst h1;subst h2
     obtain ⟨rfl,rfl⟩:=fD hc
     simp only [aA] at hv
     rw [hv.2.1]
     exact Bz hn (hm n _ hn)
    ·cases h
   ·cases h
  ·cases h
 ·cases h
theorem mV {e:TypeId} {t:Ty} {v:AV} {xs:List t.D} {ns:List Nat} (h:rowOf m e t v=some (xs,ns)):∀ n∈ns,∃ f e' t' ys,m n=some (.row f e' t' ys):=by
 unfold rowOf at h
 split at h
 ·injection h with h;injection h with h1 h2;subst h2;simp
 ·split at h
  ·split at h
   ·injection h with h;injection h with h1 h2;subst h2;simp
   ·cases h
  ·cases h
 ·rename_i n z l hh
  split at h
  ·rename_i f e' t' ys hn
   split at h
   ·split at h
    ·injection h with h;injection h with h1 h2;subst h2
     intro n' hn'
     rw [List.mem_singleton.1 hn']
     exact ⟨f,e',t',ys,hn⟩
    ·cases h
   ·cases h
  ·cases h
 ·split at h
  ·split at h
   ·injection h with h;injection h with h1 h2;subst h2;simp
   ·cases h
  ·cases h
 ·rename_i n
  split at h
  ·rename_i f e' t' ys hn
   split at h
   ·split at h
    ·injection h with h;injection h with h1 h2;subst h2
     intro n' hn'
     rw [List.mem_singleton.1 hn']
     exact ⟨f,e',t',ys,hn⟩
    ·cases h
   ·cases h
  ·cases h
 ·cases h
theorem rY (hm:∀ n o,m n=some o -> aF c μ Nm S w n o) {e:TypeId} {t:Ty} {v:AV} {x:Value} {xs:List t.D} {ns:List Nat} (h:bD m e t v=some (xs,ns)) (hv:aA μ Nm S w v x) :
  NX c e w (fun k=>S k \/ some k=x.ownBlock) x xs /\ ((ns=[] /\ x=.slice none 0 0 /\ xs=[]) \/ ∃ n,ns=[n] /\ x=μ n /\ m n=some (.row true e t xs)):=by
 unfold bD at h
 split at h
 ·injection h with h;injection h with h1 h2;subst h1;subst h2
  simp only [aA] at hv;subst hv
  exact ⟨⟨Kd.zF _ _ _ _ _,fun k hk=>by cases hk⟩,.inl ⟨rfl,rfl,rfl⟩⟩
 ·rename_i n
  split at h
  ·rename_i e' t' ys hn
   split at h
   ·rename_i he
    have:=Nat.eq_of_beq_eq_true he;subst this
    split at h
    ·rename_i zs hc
     injection h with h;injection h with h1 h2;subst h1;subst h2
     obtain ⟨rfl,rfl⟩:=fD hc
     simp only [aA] at hv
     have ho:=hm n _ hn
     simp only [aF] at ho
     rw [hv.2.1]
     exact ⟨ho,.inr ⟨n,rfl,rfl,hn⟩⟩
    ·cases h
   ·cases h
  ·cases h
 ·cases h
theorem cO (hm:∀ n o,m n=some o -> aF c μ Nm S w n o):∀ (t:Ty) (cs:List AV) (x:t.D) (r:List AV) (ns:List Nat) (vs:List Value),pack m t cs=some (x,r,ns) -> VRels μ Nm S w cs vs ->
  ∃ v0 v1,vs=v0++v1 /\ Kd.FK t.kd w (aX μ m S ns) x v0 /\ VRels μ Nm S w r v1:=by
 intro t
 induction t with
 | unit =>
  intro cs x r ns vs h hv
  simp only [pack] at h
  injection h with h;injection h with h1 h2;injection h2 with h2 h3;subst h2;subst h3
  exact ⟨[],vs,rfl,rfl,hv⟩
 | int k =>
  intro cs x r ns vs h hv
  cases cs with
  | nil=>simp [pack] at h
  | cons c0 cs =>
   cases vs with
   | nil=>simp only [VRels] at hv
   | cons v vs =>
    simp only [VRels] at hv
    cases c0 <;> simp only [pack] at h <;> try (cases h;done)
    rename_i k' n
    split at h
    ·rename_i he
     have:=eD he;subst this
     injection h with h;injection h with h1 h2;injection h2 with h2 h3;subst h1;subst h2;subst h3
     have hv1:=hv.1
     simp only [aA] at hv1;subst hv1
     exact ⟨[.int k n],vs,rfl,rfl,hv.2⟩
    ·cases h
 | bool =>
  intro cs x r ns vs h hv
  cases cs with
  | nil=>simp [pack] at h
  | cons c0 cs =>
   cases vs with
   | nil=>simp only [VRels] at hv
   | cons v vs =>
    simp only [VRels] at hv
    cases c0 <;> simp only [pack] at h <;> try (cases h;done)
    rename_i b
    injection h with h;injection h with h1 h2;injection h2 with h2 h3;subst h1;subst h2;subst h3
    have hv1:=hv.1
    simp only [aA] at hv1;subst hv1
    exact ⟨[.bool b],vs,rfl,rfl,hv.2⟩
 | str =>
  intro cs x r ns vs h hv
  cases cs with
  | nil=>simp [pack] at h
  | cons c0 cs =>
   cases vs with
   | nil=>simp only [VRels] at hv
   | cons v vs =>
    simp only [VRels] at hv
    cases c0 <;> simp only [pack] at h <;> try (cases h;done)
    rename_i b
    injection h with h;injection h with h1 h2;injection h2 with h2 h3;subst h1;subst h2;subst h3
    have hv1:=hv.1
    simp only [aA] at hv1;subst hv1
    exact ⟨[.string b],vs,rfl,rfl,hv.2⟩
 | sl e t _ =>
  intro cs x r ns vs h hv
  cases cs with
  | nil=>simp [pack] at h
  | cons c0 cs =>
   cases vs with
   | nil=>simp only [VRels] at hv
   | cons v vs =>
    simp only [VRels] at hv
    have key:∀ ys ms,rowOf m e t c0=some (ys,ms) -> x=ys -> r=cs -> ns=ms -> ∃ v0 v1,v::vs=v0++v1 /\ Kd.FK (Ty.sl e t).kd w (aX μ m S ns) x v0 /\ VRels μ Nm S w r v1:=by
     intro ys ms hr h1 h2 h3
     subst h1;subst h2;subst h3
     obtain ⟨A,cc,rfl,hl,hf⟩:=dY hm hr hv.1
     exact ⟨[_],vs,rfl,⟨A,cc,rfl,hl,hf⟩,hv.2⟩
    simp only [pack] at h
    split at h
    ·rename_i ys ms hr
     injection h with h;injection h with h1 h2;injection h2 with h2 h3
     exact key ys ms hr h1.symm h2.symm h3.symm
    ·cases h
 | pair a b iha ihb =>
  intro cs x r ns vs h hv
  simp only [pack] at h
  split at h
  ·rename_i x1 r1 jJ h1
   split at h
   ·rename_i x2 r2 pR h2
    injection h with h;injection h with e1 e2;injection e2 with e2 e3;subst e1;subst e2;subst e3
    obtain ⟨v0,v1,rfl,f0,g0⟩:=iha _ _ _ _ _ h1 hv
    obtain ⟨u0,u1,rfl,f1,g1⟩:=ihb _ _ _ _ _ h2 g0
    exact ⟨v0++u0,u1,by simp,kV (Kd.aV f0 (fun k hk=>eU hk)) (Kd.aV f1 (fun k hk=>fE hk)),g1⟩
   ·cases h
  ·cases h
theorem gY:∀ (t:Ty) (cs:List AV) (x:t.D) (r:List AV) (ns:List Nat),pack m t cs=some (x,r,ns) -> ∀ n∈ns,∃ f e' t' ys,m n=some (.row f e' t' ys):=by
 intro t
 induction t with
 | unit=>intro cs x r ns h;simp only [pack] at h;injection h with h;injection h with h1 h2;injection h2 with h2 h3;subst h3;simp
 | int k =>
  intro cs x r ns h
  cases cs with
  | nil=>simp [pack] at h
  | cons c0 cs =>
   cases c0 <;> simp only [pack] at h <;> try (cases h;done)
   split at h
   ·injection h with h;injection h with h1 h2;injection h2 with h2 h3;subst h3;simp
   ·cases h
 | bool =>
  intro cs x r ns h
  cases cs with
  | nil=>simp [pack] at h
  | cons c0 cs =>
   cases c0 <;> simp only [pack] at h <;> try (cases h;done)
   injection h with h;injection h with h1 h2;injection h2 with h2 h3;subst h3;simp
 | str =>
  intro cs x r ns h
  cases cs with
  | nil=>simp [pack] at h
  | cons c0 cs =>
   cases c0 <;> simp only [pack] at h <;> try (cases h;done)
   injection h with h;injection h with h1 h2;injection h2 with h2 h3;subst h3;simp
 | sl e t _ =>
  intro cs x r ns h
  cases cs with
  | nil=>simp [pack] at h
  | cons c0 cs =>
   simp only [pack] at h
   split at h
   ·rename_i ys ms hr
    injection h with h;injection h with h1 h2;injection h2 with h2 h3;subst h3
    exact mV hr
   ·cases h
 | pair a b iha ihb =>
  intro cs x r ns h
  simp only [pack] at h
  split at h
  ·rename_i x1 r1 jJ h1
   split at h
   ·rename_i x2 r2 pR h2
    injection h with h;injection h with e1 e2;injection e2 with e2 e3;subst e3
    intro n hn
    rcases List.mem_append.1 hn with hn | hn
    ·exact iha _ _ _ _ h1 n hn
    ·exact ihb _ _ _ _ h2 n hn
   ·cases h
  ·cases h
theorem vP {m':Nat -> Option Obj} {e:TypeId} {t:Ty} {v:AV} {xs:List t.D} {ns:List Nat} (h:rowOf m e t v=some (xs,ns)) (hm:∀ n∈ns,m' n=m n):rowOf m' e t v=some (xs,ns):=by
 cases v with
 | own n =>
  have h1:ns=[n]:=by
   simp only [rowOf] at h
   split at h
   ·split at h
    ·split at h
     ·injection h with h;injection h with _ h2;exact h2.symm
     ·cases h
    ·cases h
   ·cases h
  rw [<- h]
  simp only [rowOf]
  rw [hm n (by rw [h1];simp)]
 | vw n z l hh =>
  have h1:ns=[n]:=by
   simp only [rowOf] at h
   split at h
   ·split at h
    ·split at h
     ·injection h with h;injection h with _ h2;exact h2.symm
     ·cases h
    ·cases h
   ·cases h
  rw [<- h]
  simp only [rowOf]
  rw [hm n (by rw [h1];simp)]
 | _=>exact h
theorem dU {m':Nat -> Option Obj}:∀ (t:Ty) (cs:List AV) (x:t.D) (r:List AV) (ns:List Nat),pack m t cs=some (x,r,ns) -> (∀ n∈ns,m' n=m n) -> pack m' t cs=some (x,r,ns):=by
 intro t
 induction t with
 | unit=>intro cs x r ns h _;exact h
 | int k =>
  intro cs x r ns h _
  cases cs with
  | nil=>simp [pack] at h
  | cons c0 cs=>cases c0 <;> first | exact h | (simp only [pack] at h;cases h)
 | bool =>
  intro cs x r ns h _
  cases cs with
  | nil=>simp [pack] at h
  | cons c0 cs=>cases c0 <;> first | exact h | (simp only [pack] at h;cases h)
 | str =>
  intro cs x r ns h _
  cases cs with
  | nil=>simp [pack] at h
  | cons c0 cs=>cases c0 <;> first | exact h | (simp only [pack] at h;cases h)
 | sl e t _ =>
  intro cs x r ns h hm
  cases cs with
  | nil=>simp [pack] at h
  | cons c0 cs =>
   simp only [pack] at h ⊢
   split at h
   ·rename_i ys ms hr
    injection h with h;injection h with h1 h2;injection h2 with h2 h3;subst h1;subst h2;subst h3
    rw [vP hr hm]
   ·cases h
 | pair a b iha ihb =>
  intro cs x r ns h hm
  simp only [pack] at h ⊢
  split at h
  ·rename_i x1 r1 jJ h1
   split at h
   ·rename_i x2 r2 pR h2
    injection h with h;injection h with e1 e2;injection e2 with e2 e3;subst e1;subst e2;subst e3
    rw [iha _ _ _ _ h1 (fun n hn=>hm n (List.mem_append_left _ hn))]
    simp only
    rw [ihb _ _ _ _ h2 (fun n hn=>hm n (List.mem_append_right _ hn))]
   ·cases h
  ·cases h
end
end Go.Proofs.YtmmagcjlfcicfaaGreat.Ab
set_option linter.unusedVariables false
set_option linter.unusedSimpArgs false
namespace Go.Proofs.YtmmagcjlfcicfaaGreat.Ab
open Go.RowKit
def zeroV:Ty -> List Value
 | .unit=>[] | .int k=>[.int k 0] | .bool=>[.bool false] | .str=>[.string ⟨#[]⟩] | .sl _ _=>[.slice none 0 0] | .pair a b=>zeroV a++zeroV b
def descOf:Ty -> Option TypeDesc
 | .int k=>some (.int k) | .bool=>some .bool | .str=>some .string | .sl e _=>some (.slice e) | _=>none
structure kM (P:Program) (E:Env) (T:TypeId) (t:Ty):Prop where
 und:∃ d,P.underlying T=some d /\ d.isRow=E.agg T
 desc:E.agg T=false -> P.underlying T=descOf t
 info:∃ i z,P.info? T=some i /\ i.size=t.sz /\ i.bytes=E.lK T /\ i.zero=some z /\ z.cells.toList=zeroV t
 zero:∃ i,P.info? T=some i /\ i.zero=some (aK (E.agg T) (zeroV t))
 pos:0<t.sz
 lK:0<E.lK T
 one:E.agg T=false -> t.sz=1
structure Gn (c:Ctx) (ps:List PT) (x:AD ps) (args:List Value) (μ:Nat -> Value) (Nm:Nat -> Prop):Prop where
 np:c.np=aG ps
 pins:∀ j,j<c.np -> Nm j /\ μ j=c.pQ j
 bound:∀ n,Nm n -> n<(inP ps x 0 (aG ps)).2.2
 names:∀ n o,aB (fun _=>none) (inP ps x 0 (aG ps)).2.1 n=some o -> Nm n
 objs:∀ n o,aB (fun _=>none) (inP ps x 0 (aG ps)).2.1 n=some o -> aF c μ Nm (aD c μ (aB (fun _=>none) (inP ps x 0 (aG ps)).2.1)) c.w0 n o
 dist:∀ n n' o o',aB (fun _=>none) (inP ps x 0 (aG ps)).2.1 n=some o -> aB (fun _=>none) (inP ps x 0 (aG ps)).2.1 n'=some o' -> o.live=true -> o'.live=true -> n≠n' -> ∀ k,blk (μ n)=some k -> blk (μ n')≠some k
 vals:VRels μ Nm (aD c μ (aB (fun _=>none) (inP ps x 0 (aG ps)).2.1)) c.w0 (inP ps x 0 (aG ps)).1 args
def kN (flat:Bool) (c:Ctx):Ctx:={ Hq:=fun k=>match flat with | true=>False | false=>c.Hq k,X:=c.X,w0:=c.w0,np:=0,pQ:=fun _=>undef }
def bW (ps:List PT) (rs:List RT) (q:RD rs×MD ps) (pn:Nat -> Nat) (b:Nat):List (Nat×Option Obj):=(bR rs q.1 b).2.1++(bO ps q.2 pn 0 (bR rs q.1 b).2.2).1
def kX (ps:List PT) (rs:List RT) (q:RD rs×MD ps) (pn:Nat -> Nat) (b:Nat):Nat:=(bO ps q.2 pn 0 (bR rs q.1 b).2.2).2
structure Gp (c:Ctx) (ps:List PT) (rs:List RT) (w':World) (q:RD rs×MD ps) (v:Value) (b:Nat) (pn:Nat -> Nat) (μ:Nat -> Value) (Nm:Nat -> Prop):Prop where
 nm:∀ n,Nm n↔(b <= n /\ n<kX ps rs q pn b) \/ ∃ j,j<c.np /\ n=pn j
 pQ:∀ j,j<c.np -> μ (pn j)=c.pQ j
 objs:∀ n o,aB (fun _=>none) (bW ps rs q pn b) n=some o -> Nm n /\ o.live=true /\ aF (kN (aY rs&&aO ps) c) μ Nm (aD (kN (aY rs&&aO ps) c) μ (aB (fun _=>none) (bW ps rs q pn b))) w' n o
 dist:∀ n n' o o',aB (fun _=>none) (bW ps rs q pn b) n=some o -> aB (fun _=>none) (bW ps rs q pn b) n'=some o' -> n≠n' -> ∀ k,blk (μ n)=some k -> blk (μ n')≠some k
 val:aA μ Nm (aD (kN (aY rs&&aO ps) c) μ (aB (fun _=>none) (bW ps rs q pn b))) w' (rC (bR rs q.1 b).1) v
def xX (c:Ctx) (ps:List PT) (rs:List RT) (w':World) (q:RD rs×MD ps) (v:Value):Prop :=
 ∀ (b:Nat) (pn:Nat -> Nat),(∀ j,j<c.np -> ¬ (b <= pn j /\ pn j<kX ps rs q pn b)) -> (∀ i j,i<c.np -> j<c.np -> pn i=pn j -> i=j) -> ∃ μ Nm,Gp c ps rs w' q v b pn μ Nm
structure uP (P:Program) (f:FuncId) (F:Fn):Prop where
 there:∃ fn,P.funcs[f]? = some fn∧(fn.name == "runtime.NumGoroutine")=false∧fn.body.isNone=false
 calls:∀ (k:Nat) (x:AD F.ps) (q:RD F.rs×MD F.ps),F.sem k x=some q -> ∀ (c:Ctx) (args:List Value) (μ:Nat -> Value) (Nm:Nat -> Prop),Gn c F.ps x args μ Nm ->
  Calls P f args.toArray c.w0 fun e w'=>∃ v,e=.returned v /\ eT c.X c.base c.w0 w' /\ xX c F.ps F.rs w' q v
structure uQ (P:Program) (agg:Bool) (T:TypeId) (t:Ty):Prop where
 flat:t.flat=true
 gQ:t.gQ=true
 one:agg=false -> t.sz=1
 equal:∀ (x y:t.D) (w:World),(Op.equal T (aK agg (aI t x)) (aK agg (aI t y))).run P w=.ok (fC t x y) w
 guard:agg=true -> ∀ (op:BinOp) (X Y:Operand) (a b:Array Value) (w:World),(eqGuard op T X Y (.agg a) (.agg b)).run P w=.ok () w
 key:∀ (e:Bool) (x:t.D) (w:World),(Instr.checkKey e 10000 T (aK agg (aI t x))).run P w=.ok () w
structure aH (P:Program) (E:Env):Prop where
 ty:∀ T t,E.ty T=some t -> kM P E T t
 elem:∀ T e,E.elem T=some e -> P.underlying T=some (.slice e)
 nM:∀ T f o U,E.nM T f=some (o,U) -> ∃ fs fd,P.underlying T=some (.struct fs) /\ fs[f]? = some fd /\ fd.offset=o /\ fd.type=U
 arr:∀ T n U,E.arr T=some (n,U) -> P.underlying T=some (.array n U)
 Am:∀ T n U,E.arr T=some (n,U) -> ∃ u,E.ty U=some u
 build:∀ T t,E.ty T=some t -> E.agg T=true -> E.arr T=none -> ∃ (fs:Array Field) (pl:Array (Nat×Nat)),P.underlying T=some (.struct fs) /\ (∀ w,(fs.mapM (fun f=>do pure (f.offset,<- sizeOf f.type)):Sem (Array (Nat×Nat))).run P w=.ok pl w) /\ ∀ i off U u,E.nM T i=some (off,U) -> E.ty U=some u -> pl[i]? = some (off,u.sz)
 ik:∀ T k,E.ik T=some k -> P.underlying T=some (.int k)
 fn:∀ f F,E.fn f=some F -> uP P f F
 Dy:∀ T t,E.Dy T=true -> E.ty T=some t -> uQ P (E.agg T) T t
 map:∀ T k v,E.map T=some (k,v) -> P.underlying T=some (.map k v)
 zJ:∀ T k v,E.zJ T=some (k,v) -> P.underlying T=some (.map k v) /\ ∃ i z,P.info? v=some i /\ i.zero=some z
structure Agree (o:Oper) (s s':St) (nm:List Nat):Prop where
 ops:∀ x∈o.op.operands.toList,s'.op x=s.op x
 n:s'.n=s.n
 mem:∀ n∈nm,s'.mem n=s.mem n
def aJ (P:Program) (c:Ctx) (o:Oper) (s:St) (b:Nat) (e:Eff):Prop :=
 ∀ (s':St) (a:Act) (w:World) (μ:Nat -> Value) (Nm:Nat -> Prop) (next:Act -> World -> Prop) (Q:Exit -> Act -> World -> Prop),
  Agree o s s' e.nm -> Rel c s' a w μ Nm -> (∀ n,b <= n -> n<b+64 -> ¬ Nm n) -> (∀ d,o.dst=some d -> d<s'.n) ->
  (∀ a' w' μ' Nm',Rel c (s'.app o.dst e) a' w' μ' Nm' -> (∀ n,Nm' n -> Nm n \/ (b <= n /\ n<b+64)) -> next a' w') -> o.wp P a w next Q
section
variable {P:Program} {c:Ctx} {o:Oper} {s:St} {b:Nat}
theorem uR (s:St) (d:Option Tmp) (v:AV) (nm:List Nat):s.app d ⟨v,[],nm⟩=s.put d v:=by cases d <;> rfl
theorem dM {a:Act} {w w':World} {v:Value} {next:Act -> World -> Prop} {Q:Exit -> Act -> World -> Prop} (h:(execOp a.eval o).run P w=.ok (.value v) w') (hn:next (a.put o.dst v) w'):o.wp P a w next Q:=by
 unfold Oper.wp
 rw [h]
 exact hn
theorem jK {a:Act} {w w':World} {next:Act -> World -> Prop} {Q:Exit -> Act -> World -> Prop} (h:(execOp a.eval o).run P w=.ok .skip w') (hn:next (a.put o.dst undef) w'):o.wp P a w next Q:=by
 unfold Oper.wp
 rw [h]
 exact hn
theorem aJ.pure {v:AV} {nm:List Nat} (h:∀ s' a w μ Nm,Agree o s s' nm -> Rel c s' a w μ Nm -> ∃ x,(execOp a.eval o).run P w=.ok (.value x) w /\ aA μ Nm (aD c μ s'.mem) w v x):aJ P c o s b ⟨v,[],nm⟩:=by
 intro s' a w μ Nm next Q hag hr hf hd hn
 obtain ⟨x,h1,h2⟩:=h s' a w μ Nm hag hr
 refine dM h1 (hn _ _ μ Nm ?_ (fun n h=>.inl h))
 rw [uR]
 exact hr.put o.dst hd h2
theorem aR {m:Sem Value} {w w':World} {x:Value} (h:m.run P w=.ok x w'):((do pure (Next.value (<- m))):Sem Next).run P w=.ok (.value x) w':=by
 simp [Sem.run_bind,h,Result.andThen]
theorem rZ {m:Sem Unit} {w w':World} (h:m.run P w=.ok () w'):((do m;pure Next.skip):Sem Next).run P w=.ok .skip w':=by
 simp [Sem.run_bind,h,Result.andThen]
end
end Go.Proofs.YtmmagcjlfcicfaaGreat.Ab
set_option linter.unusedVariables false
set_option linter.unusedSimpArgs false
namespace Go.Proofs.YtmmagcjlfcicfaaGreat.Ab
open Go.RowKit
section
variable {P:Program} {E:Env} {c:Ctx} {o:Oper} {s:St} {b:Nat} {R:Type} {κ:Eff -> Option R} {r:R}
theorem Em {x:Operand} (ho:o.op=.move x):aJ P c o s b ⟨s.op x,[],[]⟩ :=
 aJ.pure fun s' a w μ Nm hag hr=>⟨a.eval x,by simp [execOp,ho],by rw [<- hag.ops x (by simp [Op.operands,ho])];exact hr.op x⟩
theorem Ao {x:Operand} (ho:o.op=.assign x):aJ P c o s b ⟨s.op x,[],[]⟩ :=
 aJ.pure fun s' a w μ Nm hag hr=>⟨a.eval x,by simp [execOp,ho],by rw [<- hag.ops x (by simp [Op.operands,ho])];exact hr.op x⟩
theorem xY {x:Operand} {i:Nat} {vs:List AV} (ho:o.op=.extract x i) (hx:s.op x=.zI vs) (hi:Nat.blt i (gI vs)=true):aJ P c o s b ⟨oJ vs i,[],[]⟩:=by
 refine aJ.pure fun s' a w μ Nm hag hr=>?_
 have h1:=hr.op x
 rw [hag.ops x (by simp [Op.operands,ho]),hx] at h1
 simp only [aA] at h1
 obtain ⟨us,h2,h3⟩:=h1
 have h4:=bY h3
 have hlt:i<us.size:=by
  have:i<gI vs:=by simpa [Nat.blt_eq] using hi
  rw [dP] at this
  simp at h4;omega
 refine ⟨us[i],by simp [execOp,ho,h2,Instr.extract,hlt],?_⟩
 have h5:=dX h3 i
 simpa [List.getD,hlt] using h5
theorem Ca {k x y:Operand} (ho:o.op=.pick k x y) (hk:s.op k=.bool true):aJ P c o s b ⟨s.op x,[],[]⟩:=by
 refine aJ.pure fun s' a w μ Nm hag hr=>?_
 have h1:=hr.op k
 rw [hag.ops k (by simp [Op.operands,ho]),hk] at h1
 simp only [aA] at h1
 exact ⟨a.eval x,by simp [execOp,ho,h1,asBool],by rw [<- hag.ops x (by simp [Op.operands,ho])];exact hr.op x⟩
theorem Cb {k x y:Operand} (ho:o.op=.pick k x y) (hk:s.op k=.bool false):aJ P c o s b ⟨s.op y,[],[]⟩:=by
 refine aJ.pure fun s' a w μ Nm hag hr=>?_
 have h1:=hr.op k
 rw [hag.ops k (by simp [Op.operands,ho]),hk] at h1
 simp only [aA] at h1
 exact ⟨a.eval y,by simp [execOp,ho,h1,asBool],by rw [<- hag.ops y (by simp [Op.operands,ho])];exact hr.op y⟩
theorem nP {op:BinOp} {T:TypeId} {X Y:Operand} {k k':IntKind} {x y:Int} {w:World}:(eqGuard op T X Y (.int k x) (.int k' y)).run P w=.ok () w:=by
 cases op <;> simp [eqGuard]
theorem lU {op:BinOp} {T:TypeId} {X Y:Operand} {x y:Bool} {w:World}:(eqGuard op T X Y (.bool x) (.bool y)).run P w=.ok () w:=by
 cases op <;> simp [eqGuard]
theorem fM (d:Nat) {T:TypeId} {x y:Bool} {w:World} (hu:P.underlying T=some .bool):(Op.equalIn (d+1) T (.bool x) (.bool y)).run P w=.ok (x==y) w:=by
 simp [Op.equalIn,run_underlying hu]
theorem iL {S:Nat -> Prop} {w:World}:∀ (t:Ty),t.flat=true -> ∀ (x:t.D) (cs:List Value),Kd.FK t.kd w S x cs -> cs=aI t x
 | .unit,_,_,cs,h=>(show cs=[] from h)
 | .int k,_,n,cs,h=>(show cs=[.int k n] from h)
 | .bool,_,x,cs,h=>(show cs=[.bool x] from h)
 | .str,_,x,cs,h=>(show cs=[.string x] from h)
 | .sl _ _,hf,_,_,_=>by cases hf
 | .pair a b,hf,x,cs,h=>by
  simp only [Ty.flat,Bool.and_eq_true] at hf
  obtain ⟨c0,c1,rfl,h0,h1⟩:=h
  rw [iL a hf.1 _ _ h0,iL b hf.2 _ _ h1]
  rfl
theorem sD {t:Ty} {cs:List AV} {x:t.D} {ns:List Nat} {μ:Nat -> Value} {Nm S:Nat -> Prop} {w:World} {us:Array Value} (hf:t.flat=true) (h:pack (fun _=>none) t cs=some (x,[],ns)) (hv:VRels μ Nm S w cs us.toList):us=(aI t x).toArray:=by
 obtain ⟨v0,v1,he,Jt,hr⟩:=cO (c:=⟨fun _=>False,fun _=>False,w,0,fun _=>undef⟩) (m:=fun _=>none) (fun n o h=>by cases h) _ _ _ _ _ _ h hv
 have:v1=[]:=by cases v1 with
  | nil=>rfl
  | cons _ _=>simp only [VRels] at hr
 subst this
 rw [List.append_nil] at he
 rw [iL t hf x _ Jt] at he
 rw [<- he]
theorem Ap {op:BinOp} {k:IntKind} {x y:Int} {κ:AV -> Option R} (h:uD op k x y κ=some r):∃ v,κ v=some r /\ ∃ z,(∀ (T:TypeId) (w:World),(binOp op T (.int k x) (.int k y)).run P w=.ok z w) /\ ∀ μ Nm S w,aA μ Nm S w v z:=by
 cases op <;> simp only [uD] at h <;> try (cases h;done)
 ·exact ⟨_,h,_,fun T w=>by simp [binOp,Op.intArith];rfl,fun _ _ _ _=>by simp only [aA]⟩
 ·exact ⟨_,h,_,fun T w=>by simp [binOp,Op.intArith];rfl,fun _ _ _ _=>by simp only [aA]⟩
 ·exact ⟨_,h,_,fun T w=>by simp [binOp,Op.intArith];rfl,fun _ _ _ _=>by simp only [aA]⟩
 ·split at h
  ·cases h
  ·rename_i hy
   exact ⟨_,h,_,fun T w=>by simp [binOp,Op.intDiv,hy];rfl,fun _ _ _ _=>by simp only [aA]⟩
 ·split at h
  ·cases h
  ·rename_i hy
   exact ⟨_,h,_,fun T w=>by simp [binOp,Op.intDiv,hy];rfl,fun _ _ _ _=>by simp only [aA]⟩
 all_goals exact ⟨_,h,_,fun T w=>by simp only [binOp,ne_eq,not_true_eq_false,if_false];rfl,fun _ _ _ _=>by simp only [aA]⟩
theorem nQ (d:Nat) {T e:TypeId} {A:Option Addr} {n c:Nat} {w:World} (hu:P.underlying T=some (.slice e)):(Op.equalIn (d+1) T (.slice A n c) (.slice none 0 0)).run P w=.ok A.isNone w:=by
 cases A <;> simp [Op.equalIn,run_underlying hu,Result.andThen]
theorem zO (hE:aH P E) {T:TypeId} {op:BinOp} {z:Bool} {x y:AV} {κ:AV -> Option R} (_:(Nat -> Value) -> (Nat -> Prop) -> (Nat -> Prop) -> World -> Value -> Value) (h:Ed E T op z κ=some r)
  (hx:∀ (μ:Nat -> Value) (Nm S:Nat -> Prop) (w:World) (X Y:Operand) (xv yv:Value),aA μ Nm S w x xv -> aA μ Nm S w y yv -> ∃ A n c,xv=.slice A n c /\ A.isNone=z /\ yv=.slice none 0 0) :
  ∃ v,κ v=some r /\ ∀ (μ:Nat -> Value) (Nm S:Nat -> Prop) (w:World) (X Y:Operand) (xv yv:Value),aA μ Nm S w x xv -> aA μ Nm S w y yv -> ∃ z,((do eqGuard op T X Y xv yv;binOp op T xv yv):Sem Value).run P w=.ok z w /\ aA μ Nm S w v z:=by
 unfold Ed at h
 split at h
 ·rename_i e hT
  refine ⟨_,h,fun μ Nm S w X Y xv yv h1 h2=>⟨_,?_,by simp only [aA];rfl⟩⟩
  obtain ⟨A,n,c,rfl,hA,rfl⟩:=hx μ Nm S w X Y xv yv h1 h2
  have hg:(eqGuard .eql T X Y (.slice A n c) (.slice none 0 0)).run P w=.ok () w:=by simp [eqGuard]
  rw [Sem.run_bind,hg]
  simp only [Result.andThen,binOp,Sem.run_bind,Op.equal,Op.maxDepth,nQ 9999 (hE.elem T e hT),hA]
  rfl
 ·rename_i e hT
  refine ⟨_,h,fun μ Nm S w X Y xv yv h1 h2=>⟨_,?_,by simp only [aA];rfl⟩⟩
  obtain ⟨A,n,c,rfl,hA,rfl⟩:=hx μ Nm S w X Y xv yv h1 h2
  have hg:(eqGuard .neq T X Y (.slice A n c) (.slice none 0 0)).run P w=.ok () w:=by simp [eqGuard]
  rw [Sem.run_bind,hg]
  simp only [Result.andThen,binOp,Sem.run_bind,Op.equal,Op.maxDepth,nQ 9999 (hE.elem T e hT),hA]
  rfl
 ·cases h
theorem En (hE:aH P E) {T:TypeId} {op:BinOp} {x y:AV} {κ:AV -> Option R} (h:Ee E T op x y κ=some r) :
  ∃ v,κ v=some r /\ ∀ (μ:Nat -> Value) (Nm S:Nat -> Prop) (w:World) (X Y:Operand) (xv yv:Value),aA μ Nm S w x xv -> aA μ Nm S w y yv -> ∃ z,((do eqGuard op T X Y xv yv;binOp op T xv yv):Sem Value).run P w=.ok z w /\ aA μ Nm S w v z:=by
 cases x <;> cases y <;> simp only [Ee] at h <;> try (cases h;done)
 case int.int k x k' y =>
  have gen:(match oW k k' with | true=>uD op k x y κ | false=>none)=some r -> ∃ v,κ v=some r /\ ∀ (μ:Nat -> Value) (Nm S:Nat -> Prop) (w:World) (X Y:Operand) (xv yv:Value),aA μ Nm S w (.int k x) xv -> aA μ Nm S w (.int k' y) yv -> ∃ z,((do eqGuard op T X Y xv yv;binOp op T xv yv):Sem Value).run P w=.ok z w /\ aA μ Nm S w v z:=by
   intro g
   clear h
   cases he:oW k k' with
   | true =>
    rw [he] at g
    have:=eD he;subst this
    obtain ⟨v,h1,z,h2,h3⟩:=Ap (P:=P) g
    refine ⟨v,h1,fun μ Nm S w X Y xv yv hx hy=>⟨z,?_,h3 _ _ _ _⟩⟩
    simp only [aA] at hx hy
    subst hx;subst hy
    rw [Sem.run_bind,nP]
    exact h2 T w
   | false=>rw [he] at g;cases g
  cases op <;> first
   | exact gen h
   | (by_cases hy:y<0
      ·simp only [hy,if_true] at h;cases h
      ·simp only [hy,if_false] at h
       refine ⟨_,h,fun μ Nm S w X Y xv yv hx hy'=>⟨_,?_,by simp only [aA];rfl⟩⟩
       simp only [aA] at hx hy'
       subst hx;subst hy'
       rw [Sem.run_bind,nP]
       simp [binOp,Op.shift,hy,Result.andThen])
 case bool.bool x y =>
  split at h
  ·rename_i hT hA
   have hu:P.underlying T=some .bool:=(hE.ty T _ hT).desc hA
   refine ⟨_,h,fun μ Nm S w X Y xv yv hx hy=>⟨_,?_,by simp only [aA];rfl⟩⟩
   simp only [aA] at hx hy
   subst hx;subst hy
   rw [Sem.run_bind,lU]
   simp only [Result.andThen,binOp,Sem.run_bind,Op.equal,Op.maxDepth,fM 9999 hu]
   rfl
  ·rename_i hT hA
   have hu:P.underlying T=some .bool:=(hE.ty T _ hT).desc hA
   refine ⟨_,h,fun μ Nm S w X Y xv yv hx hy=>⟨_,?_,by simp only [aA];rfl⟩⟩
   simp only [aA] at hx hy
   subst hx;subst hy
   rw [Sem.run_bind,lU]
   simp only [Result.andThen,binOp,Sem.run_bind,Op.equal,Op.maxDepth,fM 9999 hu]
   rfl
  ·cases h
 case nil.nil =>
  refine zO hE (fun _ _ _ _ _=>.slice none 0 0) h (fun μ Nm S w X Y xv yv hx hy=>?_)
  simp only [aA] at hx hy
  exact ⟨none,0,0,hx,rfl,hy⟩
 case rz.nil z e t xs =>
  refine zO hE (fun _ _ _ _ _=>.slice none 0 0) h (fun μ Nm S w X Y xv yv hx hy=>?_)
  simp only [aA] at hx hy
  obtain ⟨_,A,n,c,h1,h2⟩:=hx
  exact ⟨A,n,c,h1,h2,hy⟩
 case agg.agg xs ys =>
  split at h
  ·rename_i t hT he hA
   split at h
   ·rename_i da _ db _ hpa hpb
    have hok:=hE.Dy T t he hT
    have both:∀ (μ:Nat -> Value) (Nm S:Nat -> Prop) (w:World) (xv yv:Value),aA μ Nm S w (.agg xs) xv -> aA μ Nm S w (.agg ys) yv -> ∃ us vs:Array Value,xv=.agg us /\ yv=.agg vs /\ xv=aK (E.agg T) (aI t da) /\ yv=aK (E.agg T) (aI t db):=by
     intro μ Nm S w xv yv hx hy
     simp only [aA] at hx hy
     obtain ⟨us,rfl,hu⟩:=hx
     obtain ⟨vs,rfl,hv⟩:=hy
     refine ⟨us,vs,rfl,rfl,?_,?_⟩
     ·rw [hA];simp only [aK];rw [<- sD hok.flat hpa hu]
     ·rw [hA];simp only [aK];rw [<- sD hok.flat hpb hv]
    split at h
    ·refine ⟨_,h,fun μ Nm S w X Y xv yv hx hy=>⟨_,?_,by simp only [aA];rfl⟩⟩
     obtain ⟨us,vs,e1,e2,e3,e4⟩:=both μ Nm S w xv yv hx hy
     have h1:=hok.guard hA .eql X Y us vs w
     have h2:=hok.equal da db w
     rw [<- e3,<- e4] at h2
     rw [e1,e2] at h2 ⊢
     rw [Sem.run_bind,h1]
     simp only [Result.andThen,binOp,Sem.run_bind,h2]
     rfl
    ·refine ⟨_,h,fun μ Nm S w X Y xv yv hx hy=>⟨_,?_,by simp only [aA];rfl⟩⟩
     obtain ⟨us,vs,e1,e2,e3,e4⟩:=both μ Nm S w xv yv hx hy
     have h1:=hok.guard hA .neq X Y us vs w
     have h2:=hok.equal da db w
     rw [<- e3,<- e4] at h2
     rw [e1,e2] at h2 ⊢
     rw [Sem.run_bind,h1]
     simp only [Result.andThen,binOp,Sem.run_bind,h2]
     rfl
    ·cases h
   ·cases h
  ·cases h
theorem Ht (hE:aH P E) {T T':TypeId} {op:BinOp} {x y:Operand} (ho:o.op=.binOp op T x y T') (h:Ee E T op (s.op x) (s.op y) (fun v=>κ ⟨v,[],[]⟩)=some r):∃ e,κ e=some r /\ (gT s.mem b e.upd=true -> aJ P c o s b e):=by
 obtain ⟨v,h1,h2⟩:=En hE h
 refine ⟨_,h1,fun _=>aJ.pure fun s' a w μ Nm hag hr=>?_⟩
 have hx:=hr.op x
 have hy:=hr.op y
 rw [hag.ops x (by simp [Op.operands,ho])] at hx
 rw [hag.ops y (by simp [Op.operands,ho])] at hy
 obtain ⟨z,h3,h4⟩:=h2 μ Nm _ w x y _ _ hx hy
 exact ⟨z,by simp only [execOp,ho];exact aR h3,h4⟩
theorem Ju {T:TypeId} {op:UnOp} {x:Operand} (ho:o.op=.unOp op T x) (h:Ml op (s.op x) (fun v=>κ ⟨v,[],[]⟩)=some r):∃ e,κ e=some r /\ (gT s.mem b e.upd=true -> aJ P c o s b e):=by
 have key:∃ v,κ ⟨v,[],[]⟩=some r /\ ∀ (μ:Nat -> Value) (Nm S:Nat -> Prop) (w:World) (xv:Value),aA μ Nm S w (s.op x) xv -> ∃ z,(Op.unary op xv).run P w=.ok z w /\ aA μ Nm S w v z:=by
  generalize s.op x=v at h
  cases op <;> cases v <;> simp only [Ml] at h <;> try (cases h;done)
  all_goals
   refine ⟨_,h,fun μ Nm S w xv hx=>?_⟩
   simp only [aA] at hx
   subst hx
   exact ⟨_,rfl,by simp only [aA]⟩
 obtain ⟨v,h1,h2⟩:=key
 refine ⟨_,h1,fun _=>aJ.pure fun s' a w μ Nm hag hr=>?_⟩
 have hx:=hr.op x
 rw [hag.ops x (by simp [Op.operands,ho])] at hx
 obtain ⟨z,h3,h4⟩:=h2 μ Nm _ w _ hx
 exact ⟨z,by simp only [execOp,ho];exact aR h3,h4⟩
theorem xZ (hE:aH P E) {S T:TypeId} {x:Operand} {k k':IntKind} {n:Int} {t:Ty} (ho:o.op=.convert S T x) (hx:s.op x=.int k n) (hk:E.ik T=some k') (hS:E.ty S=some t):aJ P c o s b ⟨.int k' (k'.wrap n),[],[]⟩:=by
 refine aJ.pure fun s' a w μ Nm hag hr=>?_
 have h1:=hr.op x
 rw [hag.ops x (by simp [Op.operands,ho]),hx] at h1
 simp only [aA] at h1
 have hu:=hE.ik T k' hk
 obtain ⟨d,hd,_⟩:=(hE.ty S t hS).und
 refine ⟨_,by simp only [execOp,ho];exact aR (by rw [h1];simp [convert,run_underlying hu,run_underlying hd,Conv.intToInt,Result.andThen];rfl),by simp only [aA]⟩
theorem gK {x:Operand} {n:Nat} (ho:o.op=.nilCheck x) (hx:(∃ n off,s.op x=.ptr n off) \/ (∃ n z i off,s.op x=.kJ n z i off) \/ (∃ t y off,s.op x=.kS t y off) \/ ∃ p c' j,s.op x=.dyn p c' j):aJ P c o s b ⟨s.op x,[],[]⟩:=by
 refine aJ.pure fun s' a w μ Nm hag hr=>?_
 have h1:=hr.op x
 rw [hag.ops x (by simp [Op.operands,ho])] at h1
 have h2:∃ ad,a.eval x=.pointer (some ad):=by
  rcases hx with ⟨n,off,h⟩ | ⟨n,z,i,off,h⟩ | ⟨t,y,off,h⟩ | ⟨p,c',j,h⟩
  ·rw [h] at h1;simp only [aA] at h1;obtain ⟨_,g,_,h3⟩:=h1;exact ⟨_,h3⟩
  ·rw [h] at h1;simp only [aA] at h1;obtain ⟨_,g,l,cp,_,_,_,h3⟩:=h1;exact ⟨_,h3⟩
  ·rw [h] at h1;simp only [aA] at h1;obtain ⟨ad,cs,h3,_⟩:=h1;exact ⟨_,h3⟩
  ·rw [h] at h1;simp only [aA] at h1
   have h1:=h1.2
   split at h1
   ·obtain ⟨_,g,_,h3⟩:=h1;exact ⟨_,h3⟩
   ·obtain ⟨_,g,l,cp,_,_,_,h3⟩:=h1;exact ⟨_,h3⟩
   ·obtain ⟨ad,cs,h3,_⟩:=h1;exact ⟨_,h3⟩
   ·exact h1.elim
 obtain ⟨ad,h2⟩:=h2
 exact ⟨a.eval x,by simp [execOp,ho,h2],h1⟩
end
end Go.Proofs.YtmmagcjlfcicfaaGreat.Ab
set_option linter.unusedVariables false
set_option linter.unusedSimpArgs false
namespace Go.Proofs.YtmmagcjlfcicfaaGreat.Ab
open Go.RowKit
section
variable {P:Program} {E:Env} {c:Ctx} {o:Oper} {s:St} {b:Nat} {R:Type} {κ:Eff -> Option R} {r:R}
variable {μ:Nat -> Value} {Nm S:Nat -> Prop} {w:World}
theorem add_add (ad:Addr) (m n:Nat):(ad.add m).add n=ad.add (m+n):=by
 unfold Addr.add
 by_cases h1:m=0
 ·subst h1;simp
 ·by_cases h2:n=0
  ·subst h2;simp
  ·simp [h1,h2,Nat.add_assoc]
theorem mW {T:TypeId} {t:Ty} (hT:kM P E T t) (w:World):(isAgg T).run P w=.ok (E.agg T) w:=by
 obtain ⟨d,hu,hd⟩:=hT.und
 unfold isAgg
 rw [Sem.run_bind,run_underlying hu w]
 rw [<- hd]
 cases d <;> rfl
theorem aQ {T:TypeId} {t:Ty} (hT:kM P E T t) (w:World):(sizeOf T).run P w=.ok t.sz w:=by
 obtain ⟨i,z,hi,hs,_⟩:=hT.info
 simp [sizeOf,typeInfo,hi,hs]
theorem uS {T:TypeId} {t:Ty} (hT:kM P E T t) {ad:Addr} {cs:List Value} (hl:cs.length=t.sz) (hc:∀ j u,cs[j]? = some u -> w.cell? (ad.add j)=some u):(loadVar T ad).run P w=.ok (aK (E.agg T) cs) w:=by
 unfold loadVar
 rw [Sem.run_bind,mW hT w]
 cases hA:E.agg T with
 | true =>
  have h1:=run_loadCells_list (P:=P) w ad cs hc
  rw [hl] at h1
  simp [Result.andThen,Sem.run_bind,aQ hT w,h1,aK]
 | false =>
  have h1:=hT.one hA
  rw [h1] at hl
  match cs,hl with
  | [u],_ =>
   have h2:=hc 0 u rfl
   have h3:ad.add 0=ad:=by simp [Addr.add]
   rw [h3] at h2
   simp [Result.andThen,load,aK,Sem.run,h2]
theorem pU {agg:Bool} {cs:List AV} {vs:List Value} (h:VRels μ Nm S w cs vs):aA μ Nm S w (bQ agg cs) (aK agg vs):=by
 cases agg with
 | true=>simp only [bQ,aK,aA];exact ⟨vs.toArray,rfl,by simpa using h⟩
 | false=>simp only [bQ,aK];exact dX h 0
theorem kC (hE:aH P E) {T:TypeId} {cs:List AV} {off:Nat} {v:AV} {vs:List Value} {ad:Addr} (h:eP E T cs off=some v) (hv:VRels μ Nm S w cs vs) (hc:∀ j u,vs[j]? = some u -> w.cell? (ad.add j)=some u) :
  ∃ x,(Instr.loadAt T (.pointer (some (ad.add off)))).run P w=.ok x w /\ aA μ Nm S w v x:=by
 unfold eP at h
 split at h
 ·rename_i t ht
  split at h
  ·rename_i hl
   injection h with h;subst h
   rw [bU,bV] at hl ⊢
   have h1:=Nat.eq_of_beq_eq_true hl
   rw [dP] at h1
   have h2:VRels μ Nm S w ((cs.drop off).take t.sz) ((vs.drop off).take t.sz):=dR _ (dS _ hv)
   refine ⟨_,?_,pU h2⟩
   unfold Instr.loadAt Instr.sureAddr
   rw [Sem.run_bind]
   simp only [Sem.run_pure,Result.andThen_ok]
   refine uS (hE.ty T t ht) (by rw [<- bY h2];exact h1) (fun j u hu=>?_)
   rw [List.getElem?_take] at hu
   split at hu
   ·rw [List.getElem?_drop] at hu
    rw [add_add]
    exact hc _ _ hu
   ·cases hu
  ·cases h
 ·cases h
theorem mX {g:Nat} {vs:Array Value} {T:TypeId} (h:w.heap[g]? = some (.cells vs T (0,0))):∀ j u,vs.toList[j]? = some u -> w.cell? ((⟨g,0,none⟩:Addr).add j)=some u:=by
 intro j u hu
 rw [Addr.add_mid]
 simp only [World.cell?,h,Nat.zero_add]
 simpa using hu
theorem vQ {n:Nat} {f:Bool} {e:TypeId} {t:Ty} {xs:List t.D} {g len cap:Nat} {i:Int} (h:aF c μ Nm S w n (.row f e t xs)) (hμ:μ n=.slice (some ⟨g,0,none⟩) len cap) (h0:0 <= i) (h1:i<(len:Int)) :
  ∃ cs:List Value,cs.length=t.sz /\ Kd.FK t.kd w S (xs.getD i.toNat t.z) cs /\ ∀ j u,cs[j]? = some u -> w.cell? ⟨g,i.toNat * t.sz+j,none⟩=some u:=by
 cases f with
 | true =>
  simp only [aF] at h
  rw [hμ] at h
  obtain ⟨cs,hl,hf,hc,_⟩:=Kd.Bo h.1 t.z i h0 h1
  rw [aW] at hl hc
  refine ⟨cs,hl,Kd.aV hf (fun k hk=>?_),hc⟩
  rcases hk.1 with h2 | h2
  ·exact h2
  ·simp [Value.ownBlock] at h2;exact absurd h2 hk.2
 | false =>
  simp only [aF] at h
  rw [hμ] at h
  obtain ⟨cs,hl,hf,hc⟩:=Kd.Jm h t.z i h0 h1
  rw [aW] at hl hc
  exact ⟨cs,hl,hf,fun j u hu=>by have:=hc j u hu;rwa [Addr.add_mid,Nat.zero_add] at this⟩
theorem nR (hE:aH P E) {T U:TypeId} {x:Operand} {n off:Nat} {cs:List AV} {v:AV} (ho:o.op=.load T x) (hx:∀ {μ:Nat -> Value} {Nm S:Nat -> Prop} {w:World} {y:Value},aA μ Nm S w (s.op x) y -> aA μ Nm S w (.ptr n off) y) (hm:s.mem n=some (.box U cs)) (hl:eP E T cs off=some v):aJ P c o s b ⟨v,[],[n]⟩:=by
 refine aJ.pure fun s' a w μ Nm hag hr=>?_
 have h1:=hr.op x
 rw [hag.ops x (by simp [Op.operands,ho])] at h1
 have h1:=hx h1
 simp only [aA] at h1
 obtain ⟨_,g,hg,h2⟩:=h1
 have h3:=hr.objs n _ (by rw [hag.mem n (by simp)];exact hm)
 simp only [aF] at h3
 obtain ⟨g',vs,hg',_,hh,hv⟩:=h3
 rw [hg] at hg'
 injection hg' with hg';injection hg' with hg';injection hg' with hg'
 subst hg'
 obtain ⟨z,h4,h5⟩:=kC hE hl hv (mX hh)
 rw [Addr.add_mid,Nat.zero_add] at h4
 exact ⟨z,by simp only [execOp,ho,h2];exact aR h4,h5⟩
theorem nS (hE:aH P E) {T:TypeId} {x:Operand} {t:Ty} {y:t.D} {off:Nat} {v:AV} (ho:o.op=.load T x) (hx:∀ {μ:Nat -> Value} {Nm S:Nat -> Prop} {w:World} {z:Value},aA μ Nm S w (s.op x) z -> aA μ Nm S w (.kS t y off) z) (hl:eP E T (unpack t y) off=some v):aJ P c o s b ⟨v,[],[]⟩:=by
 refine aJ.pure fun s' a w μ Nm hag hr=>?_
 have h1:=hr.op x
 rw [hag.ops x (by simp [Op.operands,ho])] at h1
 have h1:=hx h1
 simp only [aA] at h1
 obtain ⟨ad,cs,h2,hf,hc,_⟩:=h1
 obtain ⟨z,h4,h5⟩:=kC (μ:=μ) (Nm:=Nm) hE hl (bA t y cs hf) hc
 exact ⟨z,by simp only [execOp,ho,h2];exact aR h4,h5⟩
theorem nT (hE:aH P E) {T:TypeId} {x:Operand} {n z:Nat} {i:Int} {off:Nat} {f:Bool} {e:TypeId} {t:Ty} {xs:List t.D} {v:AV} (ho:o.op=.load T x) (hx:∀ {μ:Nat -> Value} {Nm S:Nat -> Prop} {w:World} {y:Value},aA μ Nm S w (s.op x) y -> aA μ Nm S w (.kJ n z i off) y) (hm:s.mem n=some (.row f e t xs)) (hz:z=t.sz) (hl:eP E T (unpack t (xs.getD i.toNat t.z)) off=some v):aJ P c o s b ⟨v,[],[n]⟩:=by
 refine aJ.pure fun s' a w μ Nm hag hr=>?_
 have h1:=hr.op x
 rw [hag.ops x (by simp [Op.operands,ho])] at h1
 have h1:=hx h1
 simp only [aA] at h1
 obtain ⟨_,g,len,cap,hg,h0,hi,h2⟩:=h1
 have h3:=hr.objs n _ (by rw [hag.mem n (by simp)];exact hm)
 obtain ⟨cs,_,hf,hc⟩:=vQ h3 hg h0 hi
 subst hz
 obtain ⟨y,h4,h5⟩:=kC (ad:=⟨g,i.toNat * t.sz,none⟩) hE hl (bA (μ:=μ) (Nm:=Nm) t _ cs hf) (fun j u hu=>by rw [Addr.add_mid];exact hc j u hu)
 rw [Addr.add_mid] at h4
 exact ⟨y,by simp only [execOp,ho,h2];exact aR h4,h5⟩
theorem jL (hE:aH P E) {T U:TypeId} {f o':Nat} {u:Ty} (hf:E.nM T f=some (o',U)) (hu:E.ty U=some u) (ad:Addr):(Instr.fieldAt T (.pointer (some ad)) f).run P w=.ok (.pointer (some (ad.add o'))) w:=by
 obtain ⟨fs,fd,h1,h2,h3,h4⟩:=hE.nM T f o' U hf
 have hz:u.sz≠0:=by have:=(hE.ty U u hu).pos;omega
 have hs:=aQ (hE.ty U u hu) w
 rw [<- h4] at hs
 simp [Instr.fieldAt,run_underlying h1,h2,Instr.sureAddr,fieldPlace,hs,hz,h3,Result.andThen]
theorem mY (hE:aH P E) {T U:TypeId} {x:Operand} {f o' n off:Nat} {u:Ty} (ho:o.op=.fieldAddr T x f) (hf:E.nM T f=some (o',U)) (hu:E.ty U=some u) (hx:s.op x=.ptr n off):aJ P c o s b ⟨.ptr n (off+o'),[],[]⟩:=by
 refine aJ.pure fun s' a w μ Nm hag hr=>?_
 have h1:=hr.op x
 rw [hag.ops x (by simp [Op.operands,ho]),hx] at h1
 simp only [aA] at h1
 obtain ⟨hn,g,hg,h2⟩:=h1
 refine ⟨_,by simp only [execOp,ho,h2];exact aR (jL hE hf hu _),?_⟩
 rw [Addr.add_mid]
 simp only [aA]
 exact ⟨hn,g,hg,rfl⟩
theorem mZ (hE:aH P E) {T U:TypeId} {x:Operand} {f o' n z off:Nat} {i:Int} {u:Ty} (ho:o.op=.fieldAddr T x f) (hf:E.nM T f=some (o',U)) (hu:E.ty U=some u) (hx:s.op x=.kJ n z i off):aJ P c o s b ⟨.kJ n z i (off+o'),[],[]⟩:=by
 refine aJ.pure fun s' a w μ Nm hag hr=>?_
 have h1:=hr.op x
 rw [hag.ops x (by simp [Op.operands,ho]),hx] at h1
 simp only [aA] at h1
 obtain ⟨hn,g,len,cap,hg,h0,hi,h2⟩:=h1
 refine ⟨_,by simp only [execOp,ho,h2];exact aR (jL hE hf hu _),?_⟩
 rw [Addr.add_mid]
 simp only [aA]
 exact ⟨hn,g,len,cap,hg,h0,hi,by rw [Nat.add_assoc]⟩
theorem nA (hE:aH P E) {T U:TypeId} {x:Operand} {f o' off:Nat} {t:Ty} {y:t.D} {u:Ty} (ho:o.op=.fieldAddr T x f) (hf:E.nM T f=some (o',U)) (hu:E.ty U=some u) (hx:s.op x=.kS t y off):aJ P c o s b ⟨.kS t y (off+o'),[],[]⟩:=by
 refine aJ.pure fun s' a w μ Nm hag hr=>?_
 have h1:=hr.op x
 rw [hag.ops x (by simp [Op.operands,ho]),hx] at h1
 simp only [aA] at h1
 obtain ⟨ad,cs,h2,hr2⟩:=h1
 refine ⟨_,by simp only [execOp,ho,h2];exact aR (jL hE hf hu _),?_⟩
 rw [add_add]
 simp only [aA]
 exact ⟨ad,cs,rfl,hr2⟩
theorem vR (hE:aH P E) {U:TypeId} {cs:List AV} {off:Nat} {v:AV} {vs:Array Value} (h:eP E U cs off=some v) (hv:VRels μ Nm S w cs vs.toList):∃ x,(part U vs off).run P w=.ok x w /\ aA μ Nm S w v x:=by
 unfold eP at h
 split at h
 ·rename_i t ht
  split at h
  ·rename_i hl
   injection h with h;subst h
   rw [bU,bV] at hl ⊢
   have h1:=Nat.eq_of_beq_eq_true hl
   rw [dP] at h1
   have h2:VRels μ Nm S w ((cs.drop off).take t.sz) ((vs.toList.drop off).take t.sz):=dR _ (dS _ hv)
   have hT:=hE.ty U t ht
   have h3:=bY h2
   rw [h1] at h3
   have hp:=hT.pos
   have hlen:off+t.sz <= vs.size:=by simp at h3;omega
   refine ⟨aK (E.agg U) ((vs.toList.drop off).take t.sz),?_,pU h2⟩
   unfold part
   rw [Sem.run_bind,mW hT w]
   cases hA:E.agg U with
   | true =>
    simp only [Result.andThen,if_true,Sem.run_bind,aQ hT w,aK,Sem.run_pure]
    congr 2
    apply Array.ext'
    simp only [Array.toList_extract]
    rw [List.take_drop]
    simp [List.extract,List.take_drop,Nat.add_sub_cancel_left]
   | false =>
    have h4:=hT.one hA
    have h5:off<vs.size:=by omega
    simp [Result.andThen,aK,h4,h5,List.getD]
  ·cases h
 ·cases h
theorem Cc (hE:aH P E) {T U:TypeId} {x:Operand} {f o':Nat} {cs:List AV} {v:AV} (ho:o.op=.field T x f) (hf:E.nM T f=some (o',U)) (hx:s.op x=.agg cs) (hl:eP E U cs o'=some v):aJ P c o s b ⟨v,[],[]⟩:=by
 refine aJ.pure fun s' a w μ Nm hag hr=>?_
 have h1:=hr.op x
 rw [hag.ops x (by simp [Op.operands,ho]),hx] at h1
 simp only [aA] at h1
 obtain ⟨vs,h2,h3⟩:=h1
 obtain ⟨fs,fd,g1,g2,g3,g4⟩:=hE.nM T f o' U hf
 obtain ⟨z,h4,h5⟩:=vR hE hl h3
 refine ⟨z,by simp only [execOp,ho,h2];exact aR (by simp [Instr.field,run_underlying g1,g2,asAgg,g3,g4,Result.andThen,h4]),h5⟩
theorem vS (hE:aH P E) {T U:TypeId} {x i:Operand} {n:Nat} {k:IntKind} {j:Int} {u:Ty} {cs:List AV} {v:AV} (ho:o.op=.index T x i) (ha:E.arr T=some (n,U)) (hu:E.ty U=some u) (hi:s.op i=.int k j) (hx:s.op x=.agg cs) (h0:0 <= j) (hj:j<(n:Int)) (hl:eP E U cs (j.toNat * u.sz)=some v):aJ P c o s b ⟨v,[],[]⟩:=by
 refine aJ.pure fun s' a w μ Nm hag hr=>?_
 have h1:=hr.op x
 rw [hag.ops x (by simp [Op.operands,ho]),hx] at h1
 have h6:=hr.op i
 rw [hag.ops i (by simp [Op.operands,ho]),hi] at h6
 simp only [aA] at h1 h6
 obtain ⟨vs,h2,h3⟩:=h1
 obtain ⟨z,h4,h5⟩:=vR hE hl h3
 refine ⟨z,by simp only [execOp,ho,h2,h6];exact aR (by simp [Instr.index,asIntOf,run_underlying (hE.arr T n U ha),h0,hj,aQ (hE.ty U u hu) w,Result.andThen,h4]),h5⟩
theorem iM (hE:aH P E) {T e:TypeId} {t:Ty} {k:IntKind} {j:Int} {ad:Addr} {len cap:Nat} (hT:E.elem T=some e) (ht:E.ty e=some t) (h0:0 <= j) (hj:j<(len:Int)):(Instr.indexAt T (.slice (some ad) len cap) (.int k j)).run P w=.ok (.pointer (some (ad.add (j.toNat * t.sz)))) w:=by
 simp [Instr.indexAt,run_underlying (hE.elem T e hT),asIntOf,h0,hj,aQ (hE.ty e t ht) w,Result.andThen]
theorem dD (hE:aH P E) {T U:TypeId} {n:Nat} {u:Ty} {k:IntKind} {j:Int} {ad:Addr} (hT:E.arr T=some (n,U)) (ht:E.ty U=some u) (h0:0 <= j) (hj:j<(n:Int)):(Instr.indexAt T (.pointer (some ad)) (.int k j)).run P w=.ok (.pointer (some (ad.add (j.toNat * u.sz)))) w:=by
 simp [Instr.indexAt,run_underlying (hE.arr T n U hT),asIntOf,h0,hj,aQ (hE.ty U u ht) w,Result.andThen,Instr.sureAddr]
theorem eX {m:Nat -> Option Obj} {e:TypeId} {t:Ty} {n:Nat} {xs:List t.D} {ns:List Nat} (h:rowOf m e t (.own n)=some (xs,ns)):ns=[n] /\ ∃ f,m n=some (.row f e t xs):=by
 simp only [rowOf] at h
 split at h
 ·rename_i f e' t' ys hn
  split at h
  ·rename_i he
   have:=Nat.eq_of_beq_eq_true he;subst this
   split at h
   ·rename_i zs hc
    injection h with h;injection h with h1 h2
    subst h1
    obtain ⟨rfl,rfl⟩:=fD hc
    exact ⟨h2.symm,f,hn⟩
   ·cases h
  ·cases h
 ·cases h
theorem vT {m:Nat -> Option Obj} (hm:∀ n o,m n=some o -> aF c μ Nm S w n o) {e:TypeId} {t:Ty} {v:AV} {x:Value} {xs:List t.D} {ns:List Nat} (h:rowOf m e t v=some (xs,ns)) (hl:∀ n,v=.own n -> bP m n=false) (Mw:∀ n z l h,v≠.vw n z l h) (hv:aA μ Nm S w v x):Kd.V t.kd e w 0 S x xs:=by
 cases v with
 | own n =>
  obtain ⟨_,f,hn⟩:=eX h
  have h1:=hl n rfl
  simp only [bP,hn] at h1
  subst h1
  have h2:=hm n _ hn
  simp only [aF] at h2
  simp only [aA] at hv
  rw [hv.2.1];exact h2
 | nil =>
  have h1:=dY hm h hv
  simp only [rowOf] at h
  injection h with h;injection h with h2 h3;subst h3
  exact Kd.dQ h1 (fun k hk=>gX hk)
 | ro e' t' ys =>
  have h1:=dY hm h hv
  simp only [rowOf] at h
  split at h
  ·split at h
   ·injection h with h;injection h with h2 h3;subst h3
    exact Kd.dQ h1 (fun k hk=>gX hk)
   ·cases h
  ·cases h
 | vw n z l hh=>exact absurd rfl (Mw n z l hh)
 | rz z e' t' ys =>
  have h1:=dY hm h hv
  simp only [rowOf] at h
  split at h
  ·split at h
   ·injection h with h;injection h with h2 h3;subst h3
    exact Kd.dQ h1 (fun k hk=>gX hk)
   ·cases h
  ·cases h
 | _=>simp [rowOf] at h
theorem vU {m:Nat -> Option Obj} {e:TypeId} {t:Ty} {n z:Nat} {l h:Int} {xs:List t.D} {ns:List Nat} (hh:rowOf m e t (.vw n z l h)=some (xs,ns)):ns=[n] /\ ∃ f,∃ ys:List t.D,m n=some (.row f e t ys) /\ z=t.sz /\ xs=(ys.take h.toNat).drop l.toNat:=by
 simp only [rowOf] at hh
 split at hh
 ·rename_i f e' t' ys hn
  split at hh
  ·rename_i hb
   simp only [Bool.and_eq_true] at hb
   obtain ⟨he,hz⟩:=hb
   have:=Nat.eq_of_beq_eq_true he;subst this
   split at hh
   ·rename_i zs hc
    injection hh with hh;injection hh with q1 q2;subst q1;subst q2
    obtain ⟨rfl,rfl⟩:=fD hc
    exact ⟨rfl,f,zs,hn,Nat.eq_of_beq_eq_true hz,rfl⟩
   ·cases hh
  ·cases hh
 ·cases hh
theorem fF {s':St} {nm:List Nat} (hag:Agree o s s' nm) {e:TypeId} {t:Ty} {v:AV} {xs:List t.D} {ns:List Nat} (h:rowOf s.mem e t v=some (xs,ns)) (hn:∀ n∈ns,n∈nm):rowOf s'.mem e t v=some (xs,ns):=by
 cases v with
 | own n =>
  have h1:=(eX h).1
  rw [<- h]
  simp only [rowOf]
  rw [hag.mem n (hn n (by rw [h1];simp))]
 | vw n z l hh =>
  have h1:=vU h
  rw [<- h]
  simp only [rowOf]
  rw [hag.mem n (hn n (by rw [h1.1];simp))]
 | _=>exact h
theorem uT (hE:aH P E) {T e:TypeId} {t:Ty} {x i:Operand} {k:IntKind} {j:Int} {n:Nat} {xs:List t.D} {ns:List Nat} (ho:o.op=.indexAddr T x i) (hT:E.elem T=some e) (ht:E.ty e=some t) (hi:s.op i=.int k j) (hx:s.op x=.own n) (hrow:rowOf s.mem e t (s.op x)=some (xs,ns)) (hlive:bP s.mem n=true) (h0:0 <= j) (hj:j<(xs.length:Int)):aJ P c o s b ⟨.kJ n t.sz j 0,[],ns⟩:=by
 refine aJ.pure fun s' a w μ Nm hag hr=>?_
 have h1:=hr.op x
 rw [hag.ops x (by simp [Op.operands,ho]),hx] at h1
 have h6:=hr.op i
 rw [hag.ops i (by simp [Op.operands,ho]),hi] at h6
 rw [hx] at hrow
 obtain ⟨hns,f,hn⟩:=eX hrow
 simp only [bP,hn] at hlive
 subst hlive
 have h3:=hr.objs n _ (by rw [hag.mem n (by rw [hns];simp)];exact hn)
 simp only [aF] at h3
 simp only [aA] at h1 h6
 obtain ⟨g,cp,hv,_⟩:=Kd.tZ h3.1 (by omega)
 rw [<- h1.2.1] at hv
 refine ⟨_,by simp only [execOp,ho,hv,h6];exact aR (iM hE hT ht h0 hj),?_⟩
 rw [Addr.add_mid]
 simp only [aA]
 exact ⟨h1.1,g,xs.length,cp,by rw [<- h1.2.1];exact hv,h0,hj,by simp⟩
theorem vV (hE:aH P E) {T e:TypeId} {t:Ty} {x i:Operand} {k:IntKind} {j l h:Int} {n z:Nat} {xs:List t.D} {ns:List Nat} {e0:TypeId} {t0:Ty} {ys:List t0.D} (ho:o.op=.indexAddr T x i) (hT:E.elem T=some e) (ht:E.ty e=some t) (hi:s.op i=.int k j) (hx:s.op x=.vw n z l h) (hrow:rowOf s.mem e t (s.op x)=some (xs,ns)) (hm0:s.mem n=some (.row true e0 t0 ys)) (h0:0 <= j) (hj:j<(xs.length:Int)):aJ P c o s b ⟨.kJ n t.sz (l+j) 0,[],[n]⟩:=by
 refine aJ.pure fun s' a w μ Nm hag hr=>?_
 have h1:=hr.op x
 rw [hag.ops x (by simp [Op.operands,ho]),hx] at h1
 have h6:=hr.op i
 rw [hag.ops i (by simp [Op.operands,ho]),hi] at h6
 rw [hx] at hrow
 obtain ⟨hns,f,ys',hn,hz,hxs⟩:=vU hrow
 have hf:f=true:=by rw [hn] at hm0;injection hm0 with hm0;injection hm0
 subst hf
 have Rq:(xs.length:Int) <= ys'.length:=by rw [hxs];simp;omega
 have h3:=hr.objs n _ (by rw [hag.mem n (by simp)];exact hn)
 simp only [aF] at h3
 simp only [aA] at h1 h6
 obtain ⟨g,cp,hv,_⟩:=Kd.tZ h3.1 (by omega)
 obtain ⟨hnm,hl0,hlh,A,len,cap,g1,g2,g3,g4⟩:=h1
 have hlc:=(Kd.Bn (by rw [<- hv];exact h3.1)).2
 rw [hv] at g1
 injection g1 with q1 q2 q3
 subst q1;subst q2;subst q3
 have hxl:(xs.length:Int)=h - l:=by rw [hxs];simp;omega
 have hne:cp≠l.toNat:=by omega
 rw [if_neg hne] at g4
 simp only [Option.map_some] at g4
 have hrun:=iM (P:=P) (w:=w) hE hT ht (k:=k) (ad:=(⟨g,0,none⟩:Addr).add (l.toNat * z)) (len:=h.toNat - l.toNat) (cap:=cp - l.toNat) h0 (by omega)
 refine ⟨_,by simp only [execOp,ho,g4,h6];exact aR hrun,?_⟩
 rw [add_add]
 simp only [aA]
 refine ⟨hnm,g,ys'.length,cp,hv,by omega,by omega,?_⟩
 rw [hz]
 have e1:l.toNat * t.sz+j.toNat * t.sz=(l+j).toNat * t.sz:=by
  rw [<- Nat.add_mul];congr 1;omega
 rw [e1,Addr.add_mid]
 simp
theorem nU (hE:aH P E) {T e:TypeId} {t:Ty} {x i:Operand} {k:IntKind} {j:Int} {xs:List t.D} {ns:List Nat} (ho:o.op=.indexAddr T x i) (hT:E.elem T=some e) (ht:E.ty e=some t) (hi:s.op i=.int k j) (hrow:rowOf s.mem e t (s.op x)=some (xs,ns)) (hlive:∀ n,s.op x=.own n -> bP s.mem n=false) (Mw:∀ n z l h,s.op x≠.vw n z l h) (h0:0 <= j) (hj:j<(xs.length:Int)):aJ P c o s b ⟨.kS t (xs.getD j.toNat t.z) 0,[],ns⟩:=by
 refine aJ.pure fun s' a w μ Nm hag hr=>?_
 have h1:=hr.op x
 have hxe:=hag.ops x (by simp [Op.operands,ho])
 rw [hxe] at h1
 have h6:=hr.op i
 rw [hag.ops i (by simp [Op.operands,ho]),hi] at h6
 have hV:=vT hr.objs (fF hag hrow (fun n hn=>hn)) (fun n hn=>by
  have h2:=hlive n hn
  rw [hn] at hrow
  have h3:=(eX hrow).1
  unfold bP at h2 ⊢
  rw [hag.mem n (by rw [h3];simp)];exact h2) Mw h1
 simp only [aA] at h6
 obtain ⟨A,cp,hv,hl,hF⟩:=hV
 obtain ⟨ad,cs,rfl,hcl,Jt,hc,hok⟩:=Kd.Gb hF t.z j h0 hj
 rw [aW] at hcl hc hok
 refine ⟨_,by simp only [execOp,ho,hv,h6];exact aR (iM hE hT ht h0 hj),?_⟩
 simp only [aA]
 exact ⟨ad.add (j.toNat * t.sz),cs,by rw [add_add,Nat.add_zero],Jt,fun i u hu=>by rw [add_add];exact hc i u hu,fun h0=>by rw [gJ];exact hok h0⟩
theorem jM:∀ l:List AV,gI l=l.length
 | []=>rfl
 | _::r=>by simp only [gI,List.length_cons];rw [jM r]
theorem vW {k:IntKind}:∀ {l:List AV} {ns:List Int},Ef k l=some ns -> ∀ i,i<l.length -> l[i]? = some (.int k (ns.getD i 0))
 | [],_,_,i,hi=>by simp at hi
 | v::l,ns,h,i,hi=>by
  cases v <;> simp only [Ef] at h <;> try (cases h;done)
  split at h
  ·rename_i l' hk hl
   injection h with h;subst h
   have:=eD hk;subst this
   cases i with
   | zero=>rfl
   | succ i =>
    have:=vW hl i (by simpa using hi)
    simpa using this
  ·cases h
theorem vX:∀ {l:List AV} {ns:List Bool},Eh l=some ns -> ∀ i,i<l.length -> l[i]? = some (.bool (ns.getD i false))
 | [],_,_,i,hi=>by simp at hi
 | v::l,ns,h,i,hi=>by
  cases v <;> simp only [Eh] at h <;> try (cases h;done)
  split at h
  ·rename_i l' hl
   injection h with h;subst h
   cases i with
   | zero=>rfl
   | succ i =>
    have:=vX hl i (by simpa using hi)
    simpa using this
  ·cases h
theorem Ce {off c i:Nat} {cs:List AV} {v:AV} (hl:(takeA c (bH off cs)).length=c) (hi:i<c) (h:(takeA c (bH off cs))[i]? = some v):takeA 1 (bH (off+i) cs)=[v]:=by
 rw [bU,bV] at *
 rw [List.getElem?_take,if_pos hi,List.getElem?_drop] at h
 obtain ⟨hlt,hv⟩:=List.getElem?_eq_some_iff.1 h
 rw [List.drop_eq_getElem_cons hlt,hv]
 simp
theorem lV {T:TypeId} {cs:List AV} {off c:Nat} {j:Int} {v:AV} (h:kP E T cs off c j=some v) (h0:0 <= j) (hj:j<(c:Int)):eP E T cs (off+j.toNat)=some v:=by
 unfold kP at h
 split at h
 ·rename_i k hT ha hl
  have hl:=Nat.eq_of_beq_eq_true hl
  rw [jM] at hl
  split at h
  ·rename_i ns hs
   injection h with h;subst h
   have h1:=Ce hl (i:=j.toNat) (by omega) (vW hs j.toNat (by omega))
   simp only [eP,hT,ha,Ty.sz,h1,gI]
   rfl
  ·cases h
 ·rename_i hT ha hl
  have hl:=Nat.eq_of_beq_eq_true hl
  rw [jM] at hl
  split at h
  ·rename_i ns hs
   injection h with h;subst h
   have h1:=Ce hl (i:=j.toNat) (by omega) (vX hs j.toNat (by omega))
   simp only [eP,hT,ha,Ty.sz,h1,gI]
   rfl
  ·cases h
 ·cases h
theorem vY {k:IntKind} {j v:Int}:∀ {l:List AV} {b:Nat} {l':List AV},xO k j v b l=some l' -> (b:Int) <= j -> j<(b:Int)+l.length -> l'=l.take (j.toNat - b)++[.int k v]++l.drop (j.toNat - b+1)
 | [],b,l',h,h0,hj=>by simp at hj;omega
 | x::l,b,l',h,h0,hj=>by
  cases x <;> simp only [xO] at h <;> try (cases h;done)
  split at h
  ·rename_i r hk hr
   injection h with h;subst h
   have:=eD hk;subst this
   by_cases e:j=(b:Int)
   ·have hz:j.toNat - b=0:=by omega
    rw [if_pos e,hz]
    have:∀ {l:List AV} {b:Nat} {l':List AV},xO k j v b l=some l' -> j<(b:Int) -> l'=l:=by
     intro l
     induction l with
     | nil=>intro b l' h _;simp only [xO] at h;injection h with h;exact h.symm
     | cons x l ih =>
      intro b l' h hb
      cases x <;> simp only [xO] at h <;> try (cases h;done)
      split at h
      ·rename_i r hk hr
       injection h with h;subst h
       have:=eD hk;subst this
       rw [ih hr (by omega),if_neg (by omega)]
      ·cases h
    rw [this hr (by omega)]
    simp
   ·have ih:=vY hr (by omega) (by simp at hj;omega)
    obtain ⟨m,hm⟩:∃ m,j.toNat - b=m+1:=⟨j.toNat - b - 1,by omega⟩
    rw [if_neg e,ih,hm,show j.toNat - (b+1)=m by omega]
    simp
  ·cases h
theorem vZ {j:Int} {v:Bool}:∀ {l:List AV} {b:Nat} {l':List AV},xP j v b l=some l' -> (b:Int) <= j -> j<(b:Int)+l.length -> l'=l.take (j.toNat - b)++[.bool v]++l.drop (j.toNat - b+1)
 | [],b,l',h,h0,hj=>by simp at hj;omega
 | x::l,b,l',h,h0,hj=>by
  cases x <;> simp only [xP] at h <;> try (cases h;done)
  split at h
  ·rename_i r hr
   injection h with h;subst h
   by_cases e:j=(b:Int)
   ·have hz:j.toNat - b=0:=by omega
    rw [if_pos e,hz]
    have:∀ {l:List AV} {b:Nat} {l':List AV},xP j v b l=some l' -> j<(b:Int) -> l'=l:=by
     intro l
     induction l with
     | nil=>intro b l' h _;simp only [xP] at h;injection h with h;exact h.symm
     | cons x l ih =>
      intro b l' h hb
      cases x <;> simp only [xP] at h <;> try (cases h;done)
      split at h
      ·rename_i r hr
       injection h with h;subst h
       rw [ih hr (by omega),if_neg (by omega)]
      ·cases h
    rw [this hr (by omega)]
    simp
   ·have ih:=vZ hr (by omega) (by simp at hj;omega)
    obtain ⟨m,hm⟩:∃ m,j.toNat - b=m+1:=⟨j.toNat - b - 1,by omega⟩
    rw [if_neg e,ih,hm,show j.toNat - (b+1)=m by omega]
    simp
  ·cases h
theorem splice {off c i:Nat} {cs:List AV} {v:AV} (hl:(takeA c (bH off cs)).length=c) (hi:i<c):takeA off cs++((takeA c (bH off cs)).take i++[v]++(takeA c (bH off cs)).drop (i+1))++bH (off+c) cs=cs.take (off+i)++[v]++cs.drop (off+i+1):=by
 rw [bU,bV,bU,bV] at *
 have h1:List.take off cs++List.take i (List.take c (List.drop off cs))=List.take (off+i) cs:=by
  rw [List.take_take,Nat.min_eq_left (by omega),List.take_add]
 have h2:List.drop (i+1) (List.take c (List.drop off cs))++List.drop (off+c) cs=List.drop (off+i+1) cs:=by
  rw [List.drop_take,List.drop_drop]
  have h3:List.drop (off+c) cs=List.drop (c - (i+1)) (List.drop (off+(i+1)) cs):=by rw [List.drop_drop];congr 1;omega
  rw [h3,List.take_append_drop,Nat.add_assoc]
 rw [<- h1,<- h2]
 simp
theorem sF {T:TypeId} {cs cs':List AV} {off c:Nat} {j:Int} {v:AV} (h:mR E T cs off c j v=some cs') (h0:0 <= j) (hj:j<(c:Int)):cs'=cs.take (off+j.toNat)++aM v++cs.drop (off+j.toNat+1) /\ (∃ u,E.ty T=some u /\ u.sz=1) /\ (aM v).length=1 /\ lN (aM v)=true /\ rA v=true /\ off+j.toNat+1 <= cs.length:=by
 have hlen:∀ {m:Nat},(takeA m (bH off cs)).length=m -> j<(m:Int) -> off+j.toNat+1 <= cs.length:=fun {m} hl hj=>by
  rw [bU,bV] at hl
  simp at hl;omega
 unfold mR at h
 split at h
 ·rename_i k k' n hT hl
  have hl:=Nat.eq_of_beq_eq_true hl
  rw [jM] at hl
  split at h
  ·rename_i l hk hp
   injection h with h;subst h
   have:=eD hk;subst this
   have h1:=vY hp (by simpa using h0) (by omega)
   refine ⟨?_,⟨_,hT,rfl⟩,rfl,rfl,rfl,hlen hl hj⟩
   rw [h1]
   simp only [Nat.sub_zero,aM]
   exact splice hl (by omega)
  ·cases h
 ·rename_i n hT hl
  have hl:=Nat.eq_of_beq_eq_true hl
  rw [jM] at hl
  split at h
  ·rename_i l hp
   injection h with h;subst h
   have h1:=vZ hp (by simpa using h0) (by omega)
   refine ⟨?_,⟨_,hT,rfl⟩,rfl,rfl,rfl,hlen hl hj⟩
   rw [h1]
   simp only [Nat.sub_zero,aM]
   exact splice hl (by omega)
  ·cases h
 ·cases h
theorem gB {s':St} {a:Act} {w:World} {μ:Nat -> Value} {Nm:Nat -> Prop} {x:Operand} {p:AV} {c':Nat} {j:Int} (hr:Rel c s' a w μ Nm) (hx:s'.op x=.dyn p c' j):0 <= j /\ j<(c':Int):=by
 have h1:=hr.op x
 rw [hx] at h1
 simp only [aA] at h1
 exact h1.1
theorem jN (hE:aH P E) {T:TypeId} {x:Operand} {p:AV} {c':Nat} {j:Int} (ho:o.op=.load T x) (hx:s.op x=.dyn p c' j) :
  (∀ {n off:Nat} {U:TypeId} {cs:List AV} {v:AV},p=.ptr n off -> s.mem n=some (.box U cs) -> kP E T cs off c' j=some v -> aJ P c o s b ⟨v,[],[n]⟩) /\
  (∀ {t:Ty} {y:t.D} {off:Nat} {v:AV},p=.kS t y off -> kP E T (unpack t y) off c' j=some v -> aJ P c o s b ⟨v,[],[]⟩) /\
  (∀ {n z:Nat} {i:Int} {off:Nat} {f:Bool} {e:TypeId} {t:Ty} {xs:List t.D} {v:AV},p=.kJ n z i off -> s.mem n=some (.row f e t xs) -> z=t.sz -> kP E T (unpack t (xs.getD i.toNat t.z)) off c' j=some v -> aJ P c o s b ⟨v,[],[n]⟩):=by
 refine ⟨fun {n off U cs v} hp hm hl=>?_,fun {t y off v} hp hl=>?_,fun {n z i off f e t xs v} hp hm hz hl=>?_⟩ <;> subst hp <;> intro s' a w μ Nm next Q hag hr hf hd hn
 ·obtain ⟨h0,hj⟩:=gB hr (by rw [hag.ops x (by simp [Op.operands,ho]),hx])
  refine nR (b:=b) (off:=off+j.toNat) hE ho (fun h=>?_) hm (lV hl h0 hj) s' a w μ Nm next Q hag hr hf hd hn
  rw [hx] at h;simp only [aA] at h ⊢;exact h.2
 ·obtain ⟨h0,hj⟩:=gB hr (by rw [hag.ops x (by simp [Op.operands,ho]),hx])
  refine nS (b:=b) (off:=off+j.toNat) (t:=t) (y:=y) hE ho (fun h=>?_) (lV hl h0 hj) s' a w μ Nm next Q hag hr hf hd hn
  rw [hx] at h;simp only [aA] at h ⊢;exact h.2
 ·obtain ⟨h0,hj⟩:=gB hr (by rw [hag.ops x (by simp [Op.operands,ho]),hx])
  refine nT (b:=b) (off:=off+j.toNat) hE ho (fun h=>?_) hm hz (lV hl h0 hj) s' a w μ Nm next Q hag hr hf hd hn
  rw [hx] at h;simp only [aA] at h ⊢;exact h.2
theorem uU (hE:aH P E) {T U:TypeId} {x i:Operand} {n:Nat} {k:IntKind} {j:Int} {u:Ty} {cs:List AV} {v:AV} (ho:o.op=.index T x i) (ha:E.arr T=some (n,U)) (hu:E.ty U=some u) (h1:u.sz=1) (hi:s.op i=.int k j) (hx:s.op x=.agg cs) (h0:0 <= j) (hj:j<(n:Int)) (hl:kP E U cs 0 n j=some v):aJ P c o s b ⟨v,[],[]⟩ :=
 vS hE ho ha hu hi hx h0 hj (by have:=lV hl h0 hj;rw [h1,Nat.mul_one];rwa [Nat.zero_add] at this)
theorem dF (hE:aH P E) {T U:TypeId} {u:Ty} {x i:Operand} {k:IntKind} {j:Int} {n:Nat} {v:AV} (ho:o.op=.indexAddr T x i) (hT:E.arr T=some (n,U)) (hu:E.ty U=some u) (hi:s.op i=.int k j) (h0:0 <= j) (hj:j<(n:Int))
  (hx:(∃ m off,s.op x=.ptr m off /\ v=.ptr m (off+j.toNat * u.sz)) \/ (∃ t y off,s.op x=.kS t y off /\ v=.kS t y (off+j.toNat * u.sz)) \/ (∃ m z q off,s.op x=.kJ m z q off /\ v=.kJ m z q (off+j.toNat * u.sz)) \/ (u.sz=1 /\ ((∃ m off,s.op x=.ptr m off /\ v=.dyn (.ptr m off) n j) \/ (∃ t y off,s.op x=.kS t y off /\ v=.dyn (.kS t y off) n j) \/ (∃ m z q off,s.op x=.kJ m z q off /\ v=.dyn (.kJ m z q off) n j)))):aJ P c o s b ⟨v,[],[]⟩:=by
 refine aJ.pure fun s' a w μ Nm hag hr=>?_
 have h1:=hr.op x
 rw [hag.ops x (by simp [Op.operands,ho])] at h1
 have h6:=hr.op i
 rw [hag.ops i (by simp [Op.operands,ho]),hi] at h6
 simp only [aA] at h6
 rcases hx with ⟨m,off,hx,rfl⟩ | ⟨t,y,off,hx,rfl⟩ | ⟨m,z,q,off,hx,rfl⟩ | ⟨hu1,⟨m,off,hx,rfl⟩ | ⟨t,y,off,hx,rfl⟩ | ⟨m,z,q,off,hx,rfl⟩⟩
 ·rw [hx] at h1
  simp only [aA] at h1
  obtain ⟨hn,g,hg,h2⟩:=h1
  refine ⟨_,by simp only [execOp,ho,h2,h6];exact aR (dD hE hT hu h0 hj),?_⟩
  rw [Addr.add_mid]
  simp only [aA]
  exact ⟨hn,g,hg,rfl⟩
 ·rw [hx] at h1
  simp only [aA] at h1
  obtain ⟨ad,cs,h2,hr2⟩:=h1
  refine ⟨_,by simp only [execOp,ho,h2,h6];exact aR (dD hE hT hu h0 hj),?_⟩
  rw [add_add]
  simp only [aA]
  exact ⟨ad,cs,rfl,hr2⟩
 ·rw [hx] at h1
  simp only [aA] at h1
  obtain ⟨hn,g,len,cap,hg,q0,qi,h2⟩:=h1
  refine ⟨_,by simp only [execOp,ho,h2,h6];exact aR (dD hE hT hu h0 hj),?_⟩
  rw [Addr.add_mid]
  simp only [aA]
  exact ⟨hn,g,len,cap,hg,q0,qi,by rw [Nat.add_assoc]⟩
 ·rw [hx] at h1
  simp only [aA] at h1
  obtain ⟨hn,g,hg,h2⟩:=h1
  refine ⟨_,by simp only [execOp,ho,h2,h6];exact aR (dD hE hT hu h0 hj),?_⟩
  rw [Addr.add_mid,hu1,Nat.mul_one]
  simp only [aA]
  exact ⟨⟨h0,hj⟩,hn,g,hg,rfl⟩
 ·rw [hx] at h1
  simp only [aA] at h1
  obtain ⟨ad,cs,h2,hr2⟩:=h1
  refine ⟨_,by simp only [execOp,ho,h2,h6];exact aR (dD hE hT hu h0 hj),?_⟩
  rw [add_add,hu1,Nat.mul_one]
  simp only [aA]
  exact ⟨⟨h0,hj⟩,ad,cs,rfl,hr2⟩
 ·rw [hx] at h1
  simp only [aA] at h1
  obtain ⟨hn,g,len,cap,hg,q0,qi,h2⟩:=h1
  refine ⟨_,by simp only [execOp,ho,h2,h6];exact aR (dD hE hT hu h0 hj),?_⟩
  rw [Addr.add_mid,hu1,Nat.mul_one]
  simp only [aA]
  exact ⟨⟨h0,hj⟩,hn,g,len,cap,hg,q0,qi,by rw [Nat.add_assoc]⟩
end
end Go.Proofs.YtmmagcjlfcicfaaGreat.Ab
set_option linter.unusedVariables false
set_option linter.unusedSimpArgs false
namespace Go.Proofs.YtmmagcjlfcicfaaGreat.Ab
open Go.RowKit
section
variable {P:Program} {E:Env} {c:Ctx} {o:Oper} {s:St} {b:Nat} {R:Type} {κ:Eff -> Option R} {r:R}
theorem Rel.grow {s:St} {a:Act} {w w':World} {μ μ':Nat -> Value} {Nm Nm':Nat -> Prop} {m':Nat -> Option Obj} (h:Rel c s a w μ Nm) (hb:Below w.heap.size w w')
  (hold:∀ n,Nm n -> m' n=s.mem n /\ μ' n=μ n) (hN:∀ n,Nm n -> Nm' n) (hN':∀ n o,m' n=some o -> Nm' n)
  (hnew:∀ n o,¬ Nm n -> m' n=some o -> o.live=true -> ∀ k,blk (μ' n)=some k -> w.heap.size <= k)
  (hdist:∀ n n' o o',¬ Nm n -> ¬ Nm n' -> m' n=some o -> m' n'=some o' -> o.live=true -> o'.live=true -> n≠n' -> ∀ k,blk (μ' n)=some k -> blk (μ' n')≠some k)
  (hO:∀ n o,¬ Nm n -> m' n=some o -> aF c μ' Nm' (aD c μ' m') w' n o):Rel c { s with mem:=m' } a w' μ' Nm':=by
 have hle:c.base <= w.heap.size:=h.below.size
 refine h.next (s':={ s with mem:=m' }) h.size h.defers (h.below.trans (Below.Qd (hb.mono hle) c.X)) (fun k _ hlt=>hb.block k hlt) (fun k hk hlt=>⟨hk.1,fun n o hn hl hbk=>?_⟩) (fun n hn=>(hold n hn).2) hN (fun n o hn=>?_) (fun n n' o o' hn hn' hl hl' hne k hk hk'=>?_) (fun x=>.inl ⟨rfl,rfl⟩)
 ·by_cases hm:Nm n
  ·rw [(hold n hm).2] at hbk
   exact hk.2 n o (by rw [<- (hold n hm).1];exact hn) hl hbk
  ·have:=hnew n o hm hn hl k hbk
   omega
 ·by_cases hm:Nm n
  ·refine .inl ⟨by rw [<- (hold n hm).1];exact hn,fun hl k hk=>?_⟩
   exact hb.block k (h.aT (by rw [<- (hold n hm).1];exact hn) hl hk).2.1
  ·exact .inr ⟨hN' n o hn,hO n o hm hn⟩
 ·by_cases hm:Nm n
  ·by_cases hm':Nm n'
   ·rw [(hold n hm).2] at hk
    rw [(hold n' hm').2] at hk'
    exact h.dist n n' o o' (by rw [<- (hold n hm).1];exact hn) (by rw [<- (hold n' hm').1];exact hn') hl hl' hne k hk hk'
   ·rw [(hold n hm).2] at hk
    have h1:=(h.aT (by rw [<- (hold n hm).1];exact hn) hl hk).2.1
    have h2:=hnew n' o' hm' hn' hl' k hk'
    omega
  ·by_cases hm':Nm n'
   ·rw [(hold n' hm').2] at hk'
    have h1:=(h.aT (by rw [<- (hold n' hm').1];exact hn') hl' hk').2.1
    have h2:=hnew n o hm hn hl k hk
    omega
   ·exact hdist n n' o o' hm hm' hn hn' hl hl' hne k hk hk'
theorem Rel.add {s:St} {a:Act} {w w':World} {μ:Nat -> Value} {Nm:Nat -> Prop} (h:Rel c s a w μ Nm) (hb:Below w.heap.size w w') (b:Nat) (hf:¬ Nm b) (o:Obj) (x:Value)
  (hblk:∀ k,blk x=some k -> w.heap.size <= k)
  (hO:∀ (μ':Nat -> Value) (Nm' S':Nat -> Prop),(∀ n,Nm n -> μ' n=μ n) -> μ' b=x -> (∀ n,Nm n -> Nm' n) -> (∀ k,aD c μ s.mem k -> k<w.heap.size -> S' k) -> (∀ k,w.heap.size <= k -> blk x≠some k -> S' k) -> aF c μ' Nm' S' w' b o) :
  ∃ μ' Nm',Rel c { s with mem:=dK s.mem b (some o) } a w' μ' Nm' /\ Nm' b /\ μ' b=x /\ (∀ n,Nm' n -> Nm n \/ n=b) /\ (∀ n,Nm n -> Nm' n) /\ ∀ n,Nm n -> μ' n=μ n:=by
 have hle:c.base <= w.heap.size:=h.below.size
 have hne:∀ n,Nm n -> b≠n:=fun n hn e=>hf (e ▸ hn)
 have hμ:∀ n,Nm n -> (fun n=>if b=n then x else μ n) n=μ n:=fun n hn=>by simp [hne n hn]
 have hS1:∀ k,aD c μ s.mem k -> k<w.heap.size -> aD c (fun n=>if b=n then x else μ n) (dK s.mem b (some o)) k:=fun k hk hlt=>⟨hk.1,fun n o' hn hl hbk=>by
  simp only [aC] at hn
  by_cases e:b=n
  ·simp only [e,if_true] at hbk
   have:=hblk k hbk;omega
  ·simp only [e,if_false] at hn hbk
   exact hk.2 n o' hn hl hbk⟩
 have hS2:∀ k,w.heap.size <= k -> blk x≠some k -> aD c (fun n=>if b=n then x else μ n) (dK s.mem b (some o)) k:=fun k hk hx=>⟨.inr (.inl (Nat.le_trans hle hk)),fun n o' hn hl hbk=>by
  simp only [aC] at hn
  by_cases e:b=n
  ·simp only [e,if_true] at hbk
   exact hx hbk
  ·simp only [e,if_false] at hn hbk
   have:=(h.aT hn hl hbk).2.1
   omega⟩
 refine ⟨fun n=>if b=n then x else μ n,fun n=>Nm n \/ n=b,h.grow hb (fun n hn=>⟨by rw [aC];simp [hne n hn],hμ n hn⟩) (fun n hn=>.inl hn) (fun n o' hn=>?_) (fun n o' hm hn hl k hk=>?_) (fun n n' o1 o2 hm hm' hn hn' _ _ hne'=>?_) (fun n o' hm hn=>?_),.inr rfl,by simp,fun n hn=>hn,fun n hn=>.inl hn,hμ⟩
 ·rw [aC] at hn
  by_cases e:b=n
  ·exact .inr e.symm
  ·simp only [e,if_false] at hn
   exact .inl (h.names n o' hn)
 ·rw [aC] at hn
  by_cases e:b=n
  ·simp only [e,if_true] at hk
   exact hblk k hk
  ·simp only [e,if_false] at hn
   exact absurd (h.names n o' hn) hm
 ·rw [aC] at hn hn'
  by_cases e:b=n
  ·by_cases e':b=n'
   ·exact absurd (e.symm.trans e') hne'
   ·simp only [e',if_false] at hn'
    exact absurd (h.names n' o2 hn') hm'
  ·simp only [e,if_false] at hn
   exact absurd (h.names n o1 hn) hm
 ·rw [aC] at hn
  by_cases e:b=n
  ·simp only [e,if_true] at hn
   injection hn with hn
   subst hn;subst e
   exact hO _ _ _ hμ (by simp) (fun n hn=>.inl hn) hS1 hS2
  ·simp only [e,if_false] at hn
   exact absurd (h.names n o' hn) hm
theorem cells_one {x:Value} (h:x.oneCell'=true):x.cells=#[x]:=by
 cases x <;> first | rfl | cases h
theorem fP {μ:Nat -> Value} {Nm S:Nat -> Prop} {w:World} {v:AV} {x:Value} (hd:rA v=true) (h:aA μ Nm S w v x):VRels μ Nm S w (aM v) x.cells.toList:=by
 have one:∀ (y:Value),x.cells=#[x] -> VRels μ Nm S w [v] x.cells.toList:=fun _ hx=>by rw [hx];simp only [VRels,and_true];exact h
 cases v with
 | undef=>cases hd
 | hole=>cases hd
 | agg cs =>
  simp only [aA] at h
  obtain ⟨vs,rfl,hv⟩:=h
  exact hv
 | int k n=>have h':=h;simp only [aA] at h';subst h';exact one undef rfl
 | bool k=>have h':=h;simp only [aA] at h';subst h';exact one undef rfl
 | str k=>have h':=h;simp only [aA] at h';subst h';exact one undef rfl
 | nil=>have h':=h;simp only [aA] at h';subst h';exact one undef rfl
 | ro e t xs=>have h':=h;simp only [aA] at h';obtain ⟨A,cp,rfl,_⟩:=h';exact one undef rfl
 | vw n z l hh=>have h':=h;simp only [aA] at h';obtain ⟨_,_,_,A,len,cap,_,_,_,rfl⟩:=h';exact one undef rfl
 | rz z e t xs=>have h':=h;simp only [aA] at h';obtain ⟨⟨A,cp,rfl,_⟩,_⟩:=h';exact one undef rfl
 | own n=>have h':=h;simp only [aA] at h';exact one undef (cells_one h'.2.2)
 | ptr n off=>have h':=h;simp only [aA] at h';obtain ⟨_,g,_,rfl⟩:=h';exact one undef rfl
 | kJ n z i off=>have h':=h;simp only [aA] at h';obtain ⟨_,g,l,cp,_,_,_,rfl⟩:=h';exact one undef rfl
 | kS t y off=>have h':=h;simp only [aA] at h';obtain ⟨ad,cs,rfl,_⟩:=h';exact one undef rfl
 | dyn p c j=>cases hd
 | zI vs=>have h':=h;simp only [aA] at h';obtain ⟨us,rfl,_⟩:=h';exact one undef rfl
 | lJ f cs=>have h':=h;simp only [aA] at h';obtain ⟨us,rfl,_⟩:=h';exact one undef rfl
 | mv f cs=>have h':=h;simp only [aA] at h';obtain ⟨us,rfl,_⟩:=h';exact one undef rfl
theorem jO {μ:Nat -> Value} {Nm S:Nat -> Prop} {w:World}:∀ t:Ty,VRels μ Nm S w (eO t) (zeroV t)
 | .unit=>by simp [eO,zeroV,VRels]
 | .int k=>by simp [eO,zeroV,VRels,aA]
 | .bool=>by simp [eO,zeroV,VRels,aA]
 | .str=>by simp [eO,zeroV,VRels,aA]
 | .sl e t=>by simp [eO,zeroV,VRels,aA]
 | .pair a b=>by simp only [eO,zeroV];exact aP (jO a) (jO b)
theorem kD {w:World} {ok:Nat -> Prop}:∀ t:Ty,Kd.FK t.kd w ok t.z (zeroV t)
 | .unit=>rfl
 | .int k=>rfl
 | .bool=>rfl
 | .str=>rfl
 | .sl e t=>⟨none,0,rfl,Nat.le_refl _,Kd.Bj t.kd w ok⟩
 | .pair a b=>kV (kD a) (kD b)
theorem gZ:∀ t:Ty,(zeroV t).length=t.sz
 | .unit=>rfl | .int _=>rfl | .bool=>rfl | .str=>rfl | .sl _ _=>rfl
 | .pair a b=>by simp [zeroV,Ty.sz,gZ a,gZ b]
theorem wB {T:TypeId} {cs:List AV} {vs:Array Value} {s':St} {a:Act} {w:World} {μ:Nat -> Value} {Nm:Nat -> Prop} {next:Act -> World -> Prop} {Q:Exit -> Act -> World -> Prop}
  (hr:Rel c s' a w μ Nm) (hf:¬ Nm b) (hd:∀ d,o.dst=some d -> d<s'.n) (hv:VRels μ Nm (aD c μ s'.mem) w cs vs.toList)
  (hrun:(execOp a.eval o).run P w=.ok (.value (.pointer (some ⟨w.heap.size,0,none⟩))) (w.alloc (.cells vs T))) {nm:List Nat}
  (hn:∀ a' w' μ' Nm',Rel c (s'.app o.dst ⟨.ptr b 0,[(b,some (.box T cs))],nm⟩) a' w' μ' Nm' -> (∀ n,Nm' n -> Nm n \/ n=b) -> next a' w'):o.wp P a w next Q:=by
 obtain ⟨μ',Nm',h1,h2,h3,h4,h5,h6⟩:=hr.add (w':=w.alloc (.cells vs T)) ((Below.refl _ _).alloc (Nat.le_refl _) _) b hf (.box T cs) (.pointer (some ⟨w.heap.size,0,none⟩)) (fun k hk=>by simp [blk] at hk;omega) (fun μ' Nm' S' hμ hb hN hS hS2=>by
  simp only [aF]
  refine ⟨w.heap.size,vs,hb,.inl hr.below.size,by show (w.heap.push _)[w.heap.size]? = _;simp,aZ (fun k _ hlt=>Below.heap_alloc _ _ _ hlt) hS hμ hN cs vs.toList hv⟩)
 refine dM hrun ?_
 have h7:=h1.put o.dst hd (v:=.ptr b 0) (x:=.pointer (some ⟨w.heap.size,0,none⟩)) (by simp only [aA];exact ⟨h2,w.heap.size,h3,rfl⟩)
 refine hn _ _ μ' Nm' ?_ h4
 cases hdst:o.dst with
 | none=>rw [hdst] at h7;exact h7
 | some d=>rw [hdst] at h7;exact h7
theorem zP {T:TypeId} {cs:List AV} {vs:Array Value} {s':St} {a:Act} {w:World} {μ:Nat -> Value} {Nm:Nat -> Prop} {next:Act -> World -> Prop} {Q:Exit -> Act -> World -> Prop}
  (hr:Rel c s' a w μ Nm) (hf:∀ n,b <= n -> n<b+64 -> ¬ Nm n) (hd:∀ d,o.dst=some d -> d<s'.n) (hv:VRels μ Nm (aD c μ s'.mem) w cs vs.toList)
  (hrun:(execOp a.eval o).run P w=.ok (.value (.pointer (some ⟨w.heap.size,0,none⟩))) (w.alloc (.cells vs T)))
  (hn:∀ a' w' μ' Nm',Rel c (s'.app o.dst ⟨.ptr b 0,[(b,some (.box T cs))],[b]⟩) a' w' μ' Nm' -> (∀ n,Nm' n -> Nm n \/ (b <= n /\ n<b+64)) -> next a' w'):o.wp P a w next Q :=
 wB hr (hf b (Nat.le_refl _) (by omega)) hd hv hrun (nm:=[b]) (fun a' w' μ' Nm' h h'=>hn a' w' μ' Nm' h (fun n hn=>(h' n hn).imp id (fun e=>by omega)))
theorem Eo {s:St} {a:Act} {w:World} {μ:Nat -> Value} {Nm:Nat -> Prop} (hr:Rel c s a w μ Nm) {b:Nat} (hf:¬ Nm b) (e:TypeId) (t:Ty) :
  ∃ μ' Nm',Rel c { s with mem:=dK s.mem b (some (.row true e t [])) } a w μ' Nm' /\ Nm' b /\ μ' b=.slice none 0 0 /\ (∀ n,Nm' n -> Nm n \/ n=b) /\ (∀ n,Nm n -> Nm' n) /\ (∀ n,Nm n -> μ' n=μ n) /\ ∀ k,aD c μ s.mem k -> aD c μ' (dK s.mem b (some (.row true e t []))) k:=by
 obtain ⟨μ',Nm',h1,h2,h3,h4,h5,h6⟩:=hr.add (w':=w) (Below.refl _ _) b hf (.row true e t []) (.slice none 0 0) (fun k hk=>by simp [blk] at hk) (fun μ' Nm' S' hμ hb hN hS hS2=>by
  simp only [aF]
  rw [hb]
  exact ⟨Kd.zF _ _ _ _ _,fun k hk=>by simp [Value.ownBlock] at hk⟩)
 refine ⟨μ',Nm',h1,h2,h3,h4,h5,h6,fun k hk=>⟨hk.1,fun n o hn hl hbk=>?_⟩⟩
 rw [aC] at hn
 by_cases e:b=n
 ·subst e;rw [h3] at hbk;simp [blk] at hbk
 ·simp only [e,if_false] at hn
  rw [h6 n (hr.names n o hn)] at hbk
  exact hk.2 n o hn hl hbk
theorem wC (m:Nat -> Option Obj):∀ (us vs:List (Nat×Option Obj)),aB m (us++vs)=aB (aB m us) vs
 | [],_=>rfl
 | (n,o)::us,vs=>by simp only [List.cons_append,aB];exact wC _ us vs
theorem oN:∀ (ts:List (Option (TypeId×Ty))) (cs:List AV) (b:Nat),b <= (bF ts cs b).2.2
 | [],cs,b=>by simp [bF]
 | none::ts,[],b=>by simp [bF]
 | some _::ts,[],b=>by simp [bF]
 | none::ts,v::r,b=>by simp only [bF];exact oN ts r b
 | some (e,t)::ts,v::r,b=>by
  have h1:=oN ts r (b+1)
  have h2:=oN ts r b
  cases v <;> simp only [bF] <;> first | exact h2 | exact Nat.le_trans (Nat.le_succ b) h1
theorem Cg (e:TypeId) (t:Ty) (ts:List (Option (TypeId×Ty))) (r:List AV) (b:Nat):bF (some (e,t)::ts) (.nil::r) b=(.own b::(bF ts r (b+1)).1,(b,some (.row true e t []))::(bF ts r (b+1)).2.1,(bF ts r (b+1)).2.2):=rfl
theorem iA:∀ (ts:List (Option (TypeId×Ty))) (cs:List AV) (vs:List Value) (b:Nat) {s:St} {a:Act} {w:World} {μ:Nat -> Value} {Nm:Nat -> Prop},Rel c s a w μ Nm -> VRels μ Nm (aD c μ s.mem) w cs vs -> (∀ n,b <= n -> n<(bF ts cs b).2.2 -> ¬ Nm n) ->
  ∃ μ' Nm',Rel c { s with mem:=aB s.mem (bF ts cs b).2.1 } a w μ' Nm' /\ VRels μ' Nm' (aD c μ' (aB s.mem (bF ts cs b).2.1)) w (bF ts cs b).1 vs /\ (∀ n,Nm' n -> Nm n \/ (b <= n /\ n<(bF ts cs b).2.2)) /\ (∀ n,Nm n -> Nm' n) /\ (∀ n,Nm n -> μ' n=μ n) /\ ∀ k,aD c μ s.mem k -> aD c μ' (aB s.mem (bF ts cs b).2.1) k
 | [],cs,vs,b,s,a,w,μ,Nm,hr,hv,hf=>⟨μ,Nm,by simpa [bF,aB] using hr,by simpa [bF,aB] using hv,fun _ h=>.inl h,fun _ h=>h,fun _ _=>rfl,fun _ h=>by simpa [bF,aB] using h⟩
 | none::ts,[],vs,b,s,a,w,μ,Nm,hr,hv,hf=>⟨μ,Nm,by simpa [bF,aB] using hr,by simpa [bF,aB] using hv,fun _ h=>.inl h,fun _ h=>h,fun _ _=>rfl,fun _ h=>by simpa [bF,aB] using h⟩
 | some _::ts,[],vs,b,s,a,w,μ,Nm,hr,hv,hf=>⟨μ,Nm,by simpa [bF,aB] using hr,by simpa [bF,aB] using hv,fun _ h=>.inl h,fun _ h=>h,fun _ _=>rfl,fun _ h=>by simpa [bF,aB] using h⟩
 | t::ts,v::r,[],b,s,a,w,μ,Nm,hr,hv,hf=>by simp only [VRels] at hv
 | t::ts,v::r,x::xs,b,s,a,w,μ,Nm,hr,hv,hf=>by
  simp only [VRels] at hv
  by_cases hz:(∃ e u,t=some (e,u)) /\ v=.nil
  ·obtain ⟨⟨e,u,rfl⟩,rfl⟩:=hz
   have hx:=hv.1
   simp only [aA] at hx
   subst hx
   rw [Cg] at hf ⊢
   have hle:=oN ts r (b+1)
   generalize hq:bF ts r (b+1)=q at hf hle ⊢
   obtain ⟨q1,q2,q3⟩:=q
   simp only at hf hle ⊢
   obtain ⟨μ1,Hu,h1,h2,h3,h4,h5,h6,h7⟩:=Eo hr (hf b (Nat.le_refl _) (by omega)) e u
   obtain ⟨μ2,Nm2,k1,k2,k3,k4,k5,k6⟩:=iA ts r xs (b+1) h1 (aZ (fun _ _ _=>rfl) (fun k hk _=>h7 k hk) h6 h5 _ _ hv.2) (fun n hn hn' h=>by
    rw [hq] at hn'
    rcases h4 n h with h | h
    ·exact hf n (by omega) hn' h
    ·omega)
   rw [hq] at k1 k2 k3 k6
   simp only at k1 k2 k3 k6
   refine ⟨μ2,Nm2,k1,?_,fun n hn=>?_,fun n hn=>k4 n (h5 n hn),fun n hn=>by rw [k5 n (h5 n hn),h6 n hn],fun k hk=>k6 k (h7 k hk)⟩
   ·simp only [VRels]
    refine ⟨?_,k2⟩
    simp only [aA]
    exact ⟨k4 b h2,by rw [k5 b h2,h3],rfl⟩
   ·rcases k3 n hn with h | h
    ·rcases h4 n h with h | h
     ·exact .inl h
     ·exact .inr ⟨by omega,by omega⟩
    ·exact .inr ⟨by omega,h.2⟩
  ·have hz':bF (t::ts) (v::r) b=(v::(bF ts r b).1,(bF ts r b).2.1,(bF ts r b).2.2):=by
    cases t with
    | none=>simp only [bF]
    | some p =>
     obtain ⟨e,u⟩:=p
     cases v <;> first | (simp only [bF];done) | exact absurd ⟨⟨e,u,rfl⟩,rfl⟩ hz
   rw [hz'] at hf ⊢
   obtain ⟨μ2,Nm2,k1,k2,k3,k4,k5,k6⟩:=iA ts r xs b hr hv.2 hf
   refine ⟨μ2,Nm2,k1,?_,k3,k4,k5,k6⟩
   simp only [VRels]
   exact ⟨dW (fun _ _ _=>rfl) (fun k hk _=>k6 k hk) k5 k4 _ _ hv.1,k2⟩
theorem Hw {T:TypeId} {x:Operand} (ho:o.op=.box T x) (hx:rA (s.op x)=true):aJ P c o s b ⟨.ptr b 0,[(b,some (.box T (aM (s.op x))))],[b]⟩:=by
 intro s' a w μ Nm next Q hag hr hf hd hn
 have h1:=hr.op x
 rw [hag.ops x (by simp [Op.operands,ho])] at h1
 exact zP hr hf hd (fP hx h1) (by simp [execOp,ho,Instr.box,newVar,newRow,newObj,Sem.run,Result.andThen]) hn
theorem Ch (hE:aH P E) {T:TypeId} {t:Ty} (ho:o.op=.alloc T) (ht:E.ty T=some t):aJ P c o s b ⟨.ptr b 0,[(b,some (.box T (eO t)))],[b]⟩:=by
 intro s' a w μ Nm next Q hag hr hf hd hn
 obtain ⟨i,z,hi,_,_,hz,hc⟩:=(hE.ty T t ht).info
 exact zP (vs:=z.cells) hr hf hd (by rw [hc];exact jO t) (by simp [execOp,ho,Instr.alloc,zeroValue,typeInfo,hi,hz,newVar,newRow,newObj,Sem.run,Result.andThen]) hn
theorem Ep {s:St} {d:Option Tmp} {v:AV} {us:List (Nat×Option Obj)} {q:Nat×Option Obj} {nm nm':List Nat}:({ s with mem:=aB s.mem us }:St).app d ⟨v,[q],nm⟩=s.app d ⟨v,us++[q],nm'⟩:=by
 cases d <;> simp only [St.app,St.put,wC]
theorem Jv {ts:List (Option (TypeId×Ty))} {cs0 cs:List AV} {us:List (Nat×Option Obj)} {b':Nat} {T:TypeId} {vs:Array Value} (hz:bF ts cs0 (b+1)=(cs,us,b')) (hb':b' <= b+64)
  {s':St} {a:Act} {w:World} {μ:Nat -> Value} {Nm:Nat -> Prop} {next:Act -> World -> Prop} {Q:Exit -> Act -> World -> Prop} (hr:Rel c s' a w μ Nm) (hf:∀ n,b <= n -> n<b+64 -> ¬ Nm n) (hd:∀ d,o.dst=some d -> d<s'.n)
  (hv:VRels μ Nm (aD c μ s'.mem) w cs0 vs.toList) (hrun:(execOp a.eval o).run P w=.ok (.value (.pointer (some ⟨w.heap.size,0,none⟩))) (w.alloc (.cells vs T))) {nm:List Nat}
  (hn:∀ a' w' μ' Nm',Rel c (s'.app o.dst ⟨.ptr b 0,us++[(b,some (.box T cs))],nm⟩) a' w' μ' Nm' -> (∀ n,Nm' n -> Nm n \/ (b <= n /\ n<b+64)) -> next a' w'):o.wp P a w next Q:=by
 have h:=iA (c:=c) ts cs0 vs.toList (b+1) hr hv (fun n h1 h2=>hf n (by omega) (by rw [hz] at h2;simp only at h2;omega))
 rw [hz] at h
 obtain ⟨μ1,Hu,h1,h2,h3,h4,h5,h6⟩:=h
 refine wB (b:=b) (nm:=[]) h1 (fun hb=>?_) hd h2 hrun (fun a' w' μ' Nm' k1 k2=>?_)
 ·rcases h3 b hb with h | h
  ·exact hf b (Nat.le_refl _) (by omega) h
  ·omega
 ·refine hn a' w' μ' Nm' ?_ (fun n hn=>?_)
  ·rw [<- Ep (nm:=[])];exact k1
  ·rcases k2 n hn with h | h
   ·rcases h3 n h with h | h
    ·exact .inl h
    ·simp only at h;exact .inr ⟨by omega,by omega⟩
   ·exact .inr ⟨by omega,by omega⟩
theorem Jw {T:TypeId} {x:Operand} (ho:o.op=.box T x) (hx:rA (s.op x)=true) {ts:List (Option (TypeId×Ty))} {cs:List AV} {us:List (Nat×Option Obj)} {b':Nat} (hz:bF ts (aM (s.op x)) (b+1)=(cs,us,b')) (hb':b' <= b+64):aJ P c o s b ⟨.ptr b 0,us++[(b,some (.box T cs))],b::aN us⟩:=by
 intro s' a w μ Nm next Q hag hr hf hd hn
 have h1:=hr.op x
 rw [hag.ops x (by simp [Op.operands,ho])] at h1
 exact Jv hz hb' hr hf hd (fP hx h1) (by simp [execOp,ho,Instr.box,newVar,newRow,newObj,Sem.run,Result.andThen]) hn
theorem Er (hE:aH P E) {T:TypeId} {t:Ty} (ho:o.op=.alloc T) (ht:E.ty T=some t) {ts:List (Option (TypeId×Ty))} {cs:List AV} {us:List (Nat×Option Obj)} {b':Nat} (hz:bF ts (eO t) (b+1)=(cs,us,b')) (hb':b' <= b+64):aJ P c o s b ⟨.ptr b 0,us++[(b,some (.box T cs))],b::aN us⟩:=by
 intro s' a w μ Nm next Q hag hr hf hd hn
 obtain ⟨i,z,hi,_,_,hz',hc⟩:=(hE.ty T t ht).info
 exact Jv (vs:=z.cells) hz hb' hr hf hd (by rw [hc];exact jO t) (by simp [execOp,ho,Instr.alloc,zeroValue,typeInfo,hi,hz',newVar,newRow,newObj,Sem.run,Result.andThen]) hn
theorem Ci {x:Operand} (ho:o.op=.assign x) {ts:List (Option (TypeId×Ty))} {v:AV} {us:List (Nat×Option Obj)} {b':Nat} (hz:bF ts [s.op x] b=([v],us,b')) (hb':b' <= b+64):aJ P c o s b ⟨v,us,aN us⟩:=by
 intro s' a w μ Nm next Q hag hr hf hd hn
 have h1:=hr.op x
 rw [hag.ops x (by simp [Op.operands,ho])] at h1
 have h:=iA (c:=c) ts [s.op x] [a.eval x] b hr (by simp only [VRels,and_true];exact h1) (fun n h1 h2=>hf n h1 (by rw [hz] at h2;simp only at h2;omega))
 rw [hz] at h
 obtain ⟨μ1,Hu,g1,g2,g3,g4,g5,g6⟩:=h
 simp only [VRels,and_true] at g2
 refine dM (v:=a.eval x) (w':=w) (by simp [execOp,ho,Sem.run]) ?_
 have h7:=g1.put o.dst hd g2
 refine hn _ _ μ1 Hu ?_ (fun n h=>(g3 n h).imp id (fun e=>by simp only at e;omega))
 cases hdst:o.dst with
 | none=>rw [hdst] at h7;exact h7
 | some d=>rw [hdst] at h7;exact h7
theorem uV {e:TypeId} {t:Ty} {xs:List t.D} {v:Value} {s':St} {a:Act} {w w':World} {μ:Nat -> Value} {Nm:Nat -> Prop} {next:Act -> World -> Prop}
  (hr:Rel c s' a w μ Nm) (hf:∀ n,b <= n -> n<b+64 -> ¬ Nm n) (hd:∀ d,o.dst=some d -> d<s'.n)
  (hN:Kd.N t.kd e w' 0 (fun k=>(aD c μ s'.mem k /\ k<w.heap.size) \/ w.heap.size <= k) v xs) (hg:w.grownBy w' none) (hat:∀ g,v.ownBlock=some g -> w.heap.size <= g) {nm:List Nat}
  (hn:∀ a' w' μ' Nm',Rel c (s'.app o.dst ⟨.own b,[(b,some (.row true e t xs))],nm⟩) a' w' μ' Nm' -> (∀ n,Nm' n -> Nm n \/ (b <= n /\ n<b+64)) -> next a' w'):next (a.put o.dst v) w':=by
 have hblk:∀ k,blk v=some k↔v.ownBlock=some k:=by
  obtain ⟨A,cp,hv⟩:=Kd.jW hN
  intro k
  rw [hv]
  cases A <;> simp [blk,Value.ownBlock]
 obtain ⟨μ',Nm',h1,h2,h3,h4,h5,h6⟩:=hr.add (w':=w') ⟨hg.os,hg.tape,hg.output,hg.size,fun k hk=>hg.block k hk (by simp)⟩ b (hf b (Nat.le_refl _) (by omega)) (.row true e t xs) v (fun k hk=>by
  rw [hblk] at hk;exact hat k hk) (fun μ' Nm' S' hμ hb hN' hS hS2=>by
  simp only [aF]
  rw [hb]
  refine ⟨Kd.gP hN (fun k hk=>?_),fun k hk=>.inl (by have:=hat k hk;have:=hr.below.size;show c.w0.heap.size <= k;omega)⟩
  rcases hk with hk | hk
  ·exact .inl (hS k hk.1 hk.2)
  ·by_cases e:v.ownBlock=some k
   ·exact .inr e.symm
   ·exact .inl (hS2 k hk (by rw [ne_eq,hblk];exact e)))
 have h7:=h1.put o.dst hd (v:=.own b) (x:=v) (by simp only [aA];exact ⟨h2,h3.symm,(Kd.Gd hN).2⟩)
 refine hn _ _ μ' Nm' ?_ (fun n h=>(h4 n h).imp id (fun e=>by omega))
 cases hdst:o.dst with
 | none=>rw [hdst] at h7;exact h7
 | some d=>rw [hdst] at h7;exact h7
theorem yA {T:TypeId} {t:Ty} (hT:kM P E T t):∃ z,(P.info? T).map (fun i=>(i.zero,i.size,i.bytes))=some (some z,t.kd.sz,E.lK T) /\ z.cells.size=t.kd.sz /\ z.cells.toList=zeroV t:=by
 obtain ⟨i,z,hi,hs,hb,hz,hc⟩:=hT.info
 refine ⟨z,by rw [hi,aW];simp [hs,hb,hz],?_,hc⟩
 rw [aW,<- gZ t,<- hc];simp
theorem Es (hE:aH P E) {T e:TypeId} {t:Ty} {x y:Operand} {n:Int} {d:Tmp} (ho:o.op=.makeSlice T x y) (hdst:o.dst=some d) (hx:s.op x=.int .i64 n) (hy:s.op y=.int .i64 n) (hT:E.elem T=some e) (ht:E.ty e=some t) (h0:0 <= n) (hl:n.toNat * E.lK e <= 281474976710656):aJ P c o s b ⟨.own b,[(b,some (.row true e t (List.replicate n.toNat t.z)))],[b]⟩:=by
 intro s' a w μ Nm next Q hag hr hf hd hn
 have h1:=hr.op x
 rw [hag.ops x (by simp [Op.operands,ho]),hx] at h1
 have h2:=hr.op y
 rw [hag.ops y (by simp [Op.operands,ho]),hy] at h2
 simp only [aA] at h1 h2
 have hTy:=hE.ty e t ht
 obtain ⟨z,hi,hz,hc⟩:=yA hTy
 refine Kd.Gz (base:=0) (qX:=fun _=>False) (ok:=fun k=>(aD c μ s'.mem k /\ k<w.heap.size) \/ w.heap.size <= k) ho h1 h2 (hE.elem T e hT) hi hz (by rw [aW];exact hTy.pos) hTy.lK (z0:=t.z) (by rw [hc];exact kD t) (fun _ hk=>hk.elim) (.inr (Nat.le_refl _)) h0 hl (Nat.zero_le _) (fun v1 w1 hN hg hat=>?_)
 exact uV hr hf hd hN hg hat hn
end
end Go.Proofs.YtmmagcjlfcicfaaGreat.Ab
set_option linter.unusedVariables false
set_option linter.unusedSimpArgs false
namespace Go.Proofs.YtmmagcjlfcicfaaGreat.Ab
open Go.RowKit
section
variable {P:Program} {E:Env} {c:Ctx} {o:Oper} {s:St} {b:Nat} {R:Type} {κ:Eff -> Option R} {r:R}
theorem bI (m:Nat -> Option Obj):∀ (us vs:List (Nat×Option Obj)),aB m (us++vs)=aB (aB m us) vs
 | [],_=>rfl
 | (n,o)::r,vs=>by simp only [List.cons_append,aB];exact bI (dK m n o) r vs
theorem Cj {α:Type} {d:Kd α} {e:TypeId} {w:World} {base:Nat} {ok:Nat -> Prop} {v:Value} {xs:List α} (h:Kd.N d e w base ok v xs) (k:Nat):blk v=some k↔v.ownBlock=some k:=by
 obtain ⟨A,cp,hv⟩:=Kd.jW h
 rw [hv]
 cases A <;> simp [blk,Value.ownBlock]
theorem Rel.Mx {s:St} {a:Act} {w:World} {μ:Nat -> Value} {Nm:Nat -> Prop} (h:Rel c s a w μ Nm) {n:Nat} {f:Bool} {e:TypeId} {t:Ty} {xs:List t.D} (hn:s.mem n=some (.row f e t xs)) :
  Rel c { s with mem:=dK s.mem n (some (.row false e t xs)) } a w μ Nm /\ (∀ k,aD c μ s.mem k -> aD c μ (dK s.mem n (some (.row false e t xs))) k) /\ (f=true -> ∀ k,blk (μ n)=some k -> aD c μ (dK s.mem n (some (.row false e t xs))) k):=by
 have hS:∀ k,aD c μ s.mem k -> aD c μ (dK s.mem n (some (.row false e t xs))) k:=fun k hk=>⟨hk.1,fun n' o hn' hl=>by
  rw [aC] at hn'
  by_cases e:n=n'
  ·simp only [e,if_true] at hn';injection hn' with hn';subst hn';cases hl
  ·simp only [e,if_false] at hn';exact hk.2 n' o hn' hl⟩
 have hown:f=true -> ∀ k,blk (μ n)=some k -> aD c μ (dK s.mem n (some (.row false e t xs))) k:=by
  intro hf k hk
  subst hf
  have ho:=h.objs n _ hn
  simp only [aF] at ho
  have hb:c.base <= k \/ c.X k:=ho.2 k ((Cj ho.1 k).1 hk)
  refine ⟨.inr hb,fun n' o' hn' hl=>?_⟩
  rw [aC] at hn'
  by_cases e:n=n'
  ·simp only [e,if_true] at hn';injection hn' with hn';subst hn';cases hl
  ·simp only [e,if_false] at hn'
   exact h.dist n n' _ o' hn hn' rfl hl e k hk
 refine ⟨h.next (s':={ s with mem:=dK s.mem n (some (.row false e t xs)) }) h.size h.defers h.below (fun _ _ _=>rfl) (fun k hk _=>hS k hk) (fun _ _=>rfl) (fun _ hn=>hn) (fun n' o' hn'=>?_) (fun n1 n2 o1 o2 h1 h2 l1 l2 hne k hk=>?_) (fun x=>.inl ⟨rfl,rfl⟩),hS,hown⟩
 ·simp only [aC] at hn'
  by_cases e:n=n'
  ·simp only [e,if_true] at hn'
   injection hn' with hn';subst hn';subst e
   refine .inr ⟨h.names n _ hn,?_⟩
   simp only [aF]
   refine Kd.dQ (Bz hn (h.objs n _ hn)) (fun k hk=>?_)
   rcases hk with hk | ⟨n',hn',hl,hk⟩
   ·exact hS k hk
   ·have:=List.mem_singleton.1 hn';subst this
    simp only [bP,hn] at hl
    exact hown hl k hk
  ·simp only [e,if_false] at hn'
   exact .inl ⟨hn',fun _ _ _=>rfl⟩
 ·simp only [aC] at h1 h2
  have k1:n≠n1:=fun e=>by simp only [e,if_true] at h1;injection h1 with h1;subst h1;cases l1
  have k2:n≠n2:=fun e=>by simp only [e,if_true] at h2;injection h2 with h2;subst h2;cases l2
  simp only [k1,if_false] at h1
  simp only [k2,if_false] at h2
  exact h.dist n1 n2 o1 o2 h1 h2 l1 l2 hne k hk
def jP (m m':Nat -> Option Obj):Prop:=∀ n,m' n=m n \/ ∃ f e t,∃ xs:List t.D,m n=some (.row f e t xs) /\ m' n=some (.row false e t xs)
theorem jP.refl (m:Nat -> Option Obj):jP m m:=fun n=>.inl rfl
theorem jP.trans {m m' m'':Nat -> Option Obj} (h:jP m m') (h':jP m' m''):jP m m'':=by
 intro n
 rcases h n with h1 | ⟨f,e,t,xs,h1,h2⟩
 ·rcases h' n with h3 | ⟨f',e',t',ys,h3,h4⟩
  ·exact .inl (h3.trans h1)
  ·exact .inr ⟨f',e',t',ys,by rw [<- h1];exact h3,h4⟩
 ·rcases h' n with h3 | ⟨f',e',t',ys,h3,h4⟩
  ·exact .inr ⟨f,e,t,xs,h1,h3.trans h2⟩
  ·rw [h2] at h3
   exact .inr ⟨f,e,t,xs,h1,by rw [h4];injection h3 with h3;injection h3 with _ h3 h5 h6;subst h3;subst h5;have:=eq_of_heq h6;subst this;rfl⟩
theorem Rel.nC {m:Nat -> Option Obj}:∀ (ns:List Nat) {s:St} {a:Act} {w:World} {μ:Nat -> Value} {Nm:Nat -> Prop},(jP m s.mem) -> Rel c s a w μ Nm ->
  Rel c { s with mem:=aB s.mem (dB m ns) } a w μ Nm /\ (∀ k,aD c μ s.mem k -> aD c μ (aB s.mem (dB m ns)) k) /\ (∀ n∈ns,(∃ f e t xs,m n=some (.row f e t xs)) -> bP s.mem n=true -> ∀ k,blk (μ n)=some k -> aD c μ (aB s.mem (dB m ns)) k) /\ jP m (aB s.mem (dB m ns)) /\ (∀ n,n ∉ ns -> aB s.mem (dB m ns) n=s.mem n)
 | [],s,a,w,μ,Nm,hm,h=>⟨h,fun _ hk=>hk,(fun n hn=>absurd hn (by simp)),hm,fun _ _=>rfl⟩
 | n::ns,s,a,w,μ,Nm,hm,h=>by
  cases hmn:m n with
  | none =>
   have h1:dB m (n::ns)=dB m ns:=by simp [dB,hmn]
   rw [h1]
   obtain ⟨g1,g2,g3,g4,g5⟩:=Rel.nC ns hm h
   refine ⟨g1,g2,fun n' hn' hrow hl k hk=>?_,g4,fun n' hn'=>g5 n' (fun h=>hn' (List.mem_cons_of_mem _ h))⟩
   rcases List.mem_cons.1 hn' with rfl | hn'
   ·rw [hmn] at hrow;obtain ⟨_,_,_,_,hrow⟩:=hrow;cases hrow
   ·exact g3 n' hn' hrow hl k hk
  | some ob =>
   cases ob with
   | box T cs =>
    have h1:dB m (n::ns)=dB m ns:=by simp [dB,hmn]
    rw [h1]
    obtain ⟨g1,g2,g3,g4,g5⟩:=Rel.nC ns hm h
    refine ⟨g1,g2,fun n' hn' hrow hl k hk=>?_,g4,fun n' hn'=>g5 n' (fun h=>hn' (List.mem_cons_of_mem _ h))⟩
    rcases List.mem_cons.1 hn' with rfl | hn'
    ·rw [hmn] at hrow;obtain ⟨_,_,_,_,hrow⟩:=hrow;cases hrow
    ·exact g3 n' hn' hrow hl k hk
   | mp T ak tk av tv es =>
    have h1:dB m (n::ns)=dB m ns:=by simp [dB,hmn]
    rw [h1]
    obtain ⟨g1,g2,g3,g4,g5⟩:=Rel.nC ns hm h
    refine ⟨g1,g2,fun n' hn' hrow hl k hk=>?_,g4,fun n' hn'=>g5 n' (fun h=>hn' (List.mem_cons_of_mem _ h))⟩
    rcases List.mem_cons.1 hn' with rfl | hn'
    ·rw [hmn] at hrow;obtain ⟨_,_,_,_,hrow⟩:=hrow;cases hrow
    ·exact g3 n' hn' hrow hl k hk
   | fm T ak tk es =>
    have h1:dB m (n::ns)=dB m ns:=by simp [dB,hmn]
    rw [h1]
    obtain ⟨g1,g2,g3,g4,g5⟩:=Rel.nC ns hm h
    refine ⟨g1,g2,fun n' hn' hrow hl k hk=>?_,g4,fun n' hn'=>g5 n' (fun h=>hn' (List.mem_cons_of_mem _ h))⟩
    rcases List.mem_cons.1 hn' with rfl | hn'
    ·rw [hmn] at hrow;obtain ⟨_,_,_,_,hrow⟩:=hrow;cases hrow
    ·exact g3 n' hn' hrow hl k hk
   | row f e t xs =>
    have h1:dB m (n::ns)=(n,some (.row false e t xs))::dB m ns:=by simp [dB,hmn]
    rw [h1]
    have hsn:∃ f',s.mem n=some (.row f' e t xs):=by
     rcases hm n with h2 | ⟨f',e',t',ys,h2,h3⟩
     ·exact ⟨f,h2.trans hmn⟩
     ·rw [hmn] at h2
      injection h2 with h2;injection h2 with h4 h5 h6 h7
      subst h5;subst h6;have:=eq_of_heq h7;subst this
      exact ⟨false,h3⟩
    obtain ⟨f',hsn⟩:=hsn
    obtain ⟨k1,k2,k3⟩:=h.Mx hsn
    have hm2:jP m (dK s.mem n (some (.row false e t xs))):=by
     intro n'
     rw [aC]
     by_cases en:n=n'
     ·subst en;simp only [if_true];exact .inr ⟨f,e,t,xs,hmn,rfl⟩
     ·simp only [en,if_false];exact hm n'
    obtain ⟨g1,g2,g3,g4,g5⟩:=Rel.nC ns (s:={ s with mem:=dK s.mem n (some (.row false e t xs)) }) hm2 k1
    refine ⟨g1,fun k hk=>g2 k (k2 k hk),fun n' hn' hrow hl k hk=>?_,g4,fun n' hn'=>?_⟩
    ·by_cases en:n=n'
     ·subst en
      refine g2 k (k3 ?_ k hk)
      simpa [bP,hsn] using hl
     ·rcases List.mem_cons.1 hn' with e' | hn'
      ·exact absurd e'.symm en
      ·exact g3 n' hn' hrow (by simpa [bP,aC,en] using hl) k hk
    ·have e1:n≠n':=fun e=>hn' (by rw [e];exact List.mem_cons_self)
     have:=g5 n' (fun h=>hn' (List.mem_cons_of_mem _ h))
     simp only [aB]
     rw [this]
     simp [aC,e1]
theorem eY {s':St} {nm:List Nat} (hag:Agree o s s' nm):∀ {ns:List Nat},(∀ n∈ns,n∈nm) -> dB s.mem ns=dB s'.mem ns
 | [],_=>rfl
 | n::ns,h=>by
  simp only [dB]
  rw [hag.mem n (h n List.mem_cons_self),eY hag (fun n' hn'=>h n' (List.mem_cons_of_mem _ hn'))]
theorem gL {w w':World} {ok ok':Nat -> Prop}:∀ (t:Ty),t.flat=true -> ∀ (x:t.D) (cs:List Value),Kd.FK t.kd w ok x cs -> Kd.FK t.kd w' ok' x cs
 | .unit,_,_,cs,h=>(show cs=[] from h)
 | .int k,_,n,cs,h=>(show cs=[.int k n] from h)
 | .bool,_,x,cs,h=>(show cs=[.bool x] from h)
 | .str,_,x,cs,h=>(show cs=[.string x] from h)
 | .sl _ _,hf,_,_,_=>by cases hf
 | .pair a b,hf,x,cs,h=>by
  simp only [Ty.flat,Bool.and_eq_true] at hf
  obtain ⟨c0,c1,rfl,h0,h1⟩:=h
  exact kV (gL a hf.1 _ _ h0) (gL b hf.2 _ _ h1)
theorem Ck {t:Ty} {e:TypeId} {w:World} {base:Nat} {ok ok':Nat -> Prop} {v:Value} {xs:List t.D} (hf:t.flat=true) (h:Kd.N t.kd e w base ok v xs) (ho:∀ k,v.ownBlock=some k -> ok' k):Kd.N t.kd e w base ok' v xs:=by
 obtain ⟨_,cs,hw,hr⟩:=h
 exact ⟨ho,cs,hw,hr.imp (fun x c=>gL t hf x c)⟩
theorem Rel.turn {s:St} {a:Act} {w w':World} {μ:Nat -> Value} {Nm:Nat -> Prop} (h:Rel c s a w μ Nm) {x v:Value} {ns:List Nat} (hns:(ns=[] /\ x.ownBlock=none) \/ ∃ n e t,∃ xs:List t.D,ns=[n] /\ x=μ n /\ s.mem n=some (.row true e t xs))
  (hg:w.grownBy w' x.ownBlock) (hat:v.ownBlock=x.ownBlock \/ ∃ g,v.ownBlock=some g /\ w.heap.size <= g) {e:TypeId} {t:Ty} {xs:List t.D} (hf:¬ Nm b)
  (hN:Kd.N t.kd e w' 0 (fun k=>(aD c μ s.mem k /\ k<w.heap.size) \/ w.heap.size <= k \/ some k=v.ownBlock \/ some k=x.ownBlock) v xs) :
  ∃ μ' Nm',Rel c { s with mem:=dK (aB s.mem (eH ns)) b (some (.row true e t xs)) } a w' μ' Nm' /\ Nm' b /\ μ' b=v /\ (∀ n,Nm' n -> Nm n \/ n=b):=by
 have hle:c.base <= w.heap.size:=h.below.size
 have hne:∀ n,Nm n -> b≠n:=fun n hn e=>hf (e ▸ hn)
 have hdel:∀ n' o',aB s.mem (eH ns) n'=some o' -> s.mem n'=some o' /\ n' ∉ ns:=by
  intro n' o' hn'
  rcases hns with ⟨rfl,_⟩ | ⟨n,e',t',ys,rfl,_,_⟩
  ·exact ⟨hn',by simp⟩
  ·simp only [eH,aB,aC] at hn'
   by_cases en:n=n'
   ·simp [en] at hn'
   ·simp only [en,if_false] at hn'
    exact ⟨hn',by simp [Ne.symm en]⟩
 have Qe:∀ k,x.ownBlock=some k -> ¬ aD c μ s.mem k:=by
  intro k hk
  rcases hns with ⟨_,h1⟩ | ⟨n,e',t',ys,_,h1,h2⟩
  ·rw [h1] at hk;cases hk
  ·exact (h.aT h2 rfl (by rw [<- h1];exact jZ hk)).2.2
 have Na:∀ k,x.ownBlock=some k -> ∀ n' o',s.mem n'=some o' -> n' ∉ ns -> o'.live=true -> blk (μ n')≠some k:=by
  intro k hk n' o' hn' hnot hl
  rcases hns with ⟨_,h1⟩ | ⟨n,e',t',ys,h0,h1,h2⟩
  ·rw [h1] at hk;cases hk
  ·exact h.dist n n' _ o' h2 hn' rfl hl (fun e=>hnot (by rw [h0,e];simp)) k (by rw [<- h1];exact jZ hk)
 have Nb:∀ k,x.ownBlock=some k -> c.base <= k \/ c.X k:=by
  intro k hk
  rcases hns with ⟨_,h1⟩ | ⟨n,e',t',ys,h0,h1,h2⟩
  ·rw [h1] at hk;cases hk
  ·have ho:=h.objs n _ h2
   simp only [aF] at ho
   exact ho.2 k (by rw [<- h1];exact hk)
 have Qf:∀ k,v.ownBlock=some k -> ∀ n' o',s.mem n'=some o' -> n' ∉ ns -> o'.live=true -> blk (μ n')≠some k:=by
  intro k hk n' o' hn' hnot hl hbk
  rcases hat with h1 | ⟨g,h1,h2⟩
  ·rw [h1] at hk;exact Na k hk n' o' hn' hnot hl hbk
  ·rw [h1] at hk;injection hk with hk;subst hk
   have:=(h.aT hn' hl hbk).2.1
   omega
 have Rs:∀ k,v.ownBlock=some k -> k<w.heap.size -> ¬ aD c μ s.mem k:=by
  intro k hk hlt
  rcases hat with h1 | ⟨g,h1,h2⟩
  ·rw [h1] at hk;exact Qe k hk
  ·rw [h1] at hk;injection hk with hk;omega
 have hblk:∀ k,blk v=some k↔v.ownBlock=some k:=Cj hN
 have hμ:∀ n,Nm n -> (fun n=>if b=n then v else μ n) n=μ n:=fun n hn=>by simp [hne n hn]
 have hS1:∀ k,aD c μ s.mem k -> k<w.heap.size -> aD c (fun n=>if b=n then v else μ n) (dK (aB s.mem (eH ns)) b (some (.row true e t xs))) k:=fun k hk hlt=>⟨hk.1,fun n o' hn hl hbk=>by
  rw [aC] at hn
  by_cases en:b=n
  ·simp only [en,if_true] at hbk
   exact Rs k ((hblk k).1 hbk) hlt hk
  ·simp only [en,if_false] at hn hbk
   exact hk.2 n o' (hdel n o' hn).1 hl hbk⟩
 refine ⟨fun n=>if b=n then v else μ n,fun n=>Nm n \/ n=b,h.next (s':={ s with mem:=dK (aB s.mem (eH ns)) b (some (.row true e t xs)) }) h.size h.defers (h.below.trans ⟨hg.os,hg.tape,hg.output,hg.size,fun k hk hx=>hg.block k (by omega) (fun e'=>?_)⟩) (fun k hk hlt=>hg.block k hlt (fun e'=>Qe k e'.symm hk)) hS1 hμ (fun n hn=>.inl hn) (fun n o' hn=>?_) (fun n1 n2 o1 o2 h1 h2 l1 l2 hne' k hk hk'=>?_) (fun x=>.inl ⟨rfl,rfl⟩),.inr rfl,by simp,fun n hn=>hn⟩
 ·rcases Nb k e'.symm with h1 | h1
  ·exact absurd hk (by omega)
  ·exact hx h1
 ·simp only [aC] at hn
  by_cases en:b=n
  ·simp only [en,if_true] at hn
   injection hn with hn;subst hn;subst en
   refine .inr ⟨.inr rfl,?_⟩
   simp only [aF,if_true]
   refine ⟨Kd.gP hN (fun k hk=>?_),fun k hk=>?_⟩
   rotate_left
   ·rcases hat with h1 | ⟨g,h1,h2⟩
    ·rw [h1] at hk;exact Nb k hk
    ·rw [h1] at hk;injection hk with hk;subst hk;exact .inl (Nat.le_trans hle h2)
   rcases hk with hk | hk | hk | hk
   ·exact .inl (hS1 k hk.1 hk.2)
   ·by_cases ev:v.ownBlock=some k
    ·exact .inr ev.symm
    ·refine .inl ⟨.inr (.inl (Nat.le_trans hle hk)),fun n o' hn hl hbk=>?_⟩
     rw [aC] at hn
     by_cases en:b=n
     ·simp only [en,if_true] at hbk
      exact ev ((hblk k).1 hbk)
     ·simp only [en,if_false] at hn hbk
      have:=(h.aT (hdel n o' hn).1 hl hbk).2.1
      omega
   ·exact .inr hk
   ·by_cases ev:v.ownBlock=some k
    ·exact .inr ev.symm
    ·refine .inl ⟨.inr (Nb k hk.symm),fun n o' hn hl hbk=>?_⟩
     rw [aC] at hn
     by_cases en:b=n
     ·simp only [en,if_true] at hbk
      exact ev ((hblk k).1 hbk)
     ·simp only [en,if_false] at hn hbk
      obtain ⟨h1,h2⟩:=hdel n o' hn
      exact Na k hk.symm n o' h1 h2 hl hbk
  ·simp only [en,if_false] at hn
   obtain ⟨h1,h2⟩:=hdel n o' hn
   exact .inl ⟨h1,fun hl k hk=>hg.block k (h.aT h1 hl hk).2.1 (fun e'=>Na k e'.symm n o' h1 h2 hl hk)⟩
 ·simp only [aC] at h1 h2
  by_cases e1:b=n1
  ·simp only [e1,if_true] at hk
   by_cases e2:b=n2
   ·exact hne' (e1.symm.trans e2)
   ·simp only [e2,if_false] at h2 hk'
    obtain ⟨g1,g2⟩:=hdel n2 o2 h2
    exact Qf k ((hblk k).1 hk) n2 o2 g1 g2 l2 hk'
  ·simp only [e1,if_false] at h1 hk
   obtain ⟨g1,g2⟩:=hdel n1 o1 h1
   by_cases e2:b=n2
   ·simp only [e2,if_true] at hk'
    exact Qf k ((hblk k).1 hk') n1 o1 g1 g2 l1 hk
   ·simp only [e2,if_false] at h2 hk'
    obtain ⟨g3,g4⟩:=hdel n2 o2 h2
    exact h.dist n1 n2 o1 o2 g1 g3 l1 l2 hne' k hk hk'
end
end Go.Proofs.YtmmagcjlfcicfaaGreat.Ab
set_option linter.unusedVariables false
set_option linter.unusedSimpArgs false
namespace Go.Proofs.YtmmagcjlfcicfaaGreat.Ab
open Go.RowKit
section
variable {P:Program} {E:Env} {c:Ctx} {o:Oper} {s:St} {b:Nat} {R:Type} {κ:Eff -> Option R} {r:R}
theorem jQ (n:Nat):∀ l:List Nat,lM n l=true↔n∈l
 | []=>by simp [lM]
 | m::r=>by
  simp only [lM,Bool.or_eq_true,jQ n r,List.mem_cons]
  constructor
  ·rintro (h | h)
   ·exact .inl (Nat.eq_of_beq_eq_true h)
   ·exact .inr h
  ·rintro (h | h)
   ·exact .inl (by rw [h];exact Nat.beq_refl m)
   ·exact .inr h
theorem iB:∀ {l l':List Nat},kT l l'=true -> ∀ n∈l,n ∉ l'
 | [],_,_,n,hn,_=>by cases hn
 | m::r,l',h,n,hn,hn'=>by
  simp only [kT,Bool.and_eq_true,Bool.not_eq_true'] at h
  rcases List.mem_cons.1 hn with rfl | hn
  ·have:=(jQ n l').2 hn';rw [this] at h;exact absurd h.1 (by simp)
  ·exact iB h.2 n hn hn'
theorem bL (s:St) (d:Option Tmp) (v:AV) (us:List (Nat×Option Obj)) (nm:List Nat):s.app d ⟨v,us,nm⟩={ s.put d v with mem:=aB s.mem us }:=rfl
theorem put_mem (s:St) (d:Option Tmp) (v:AV) (m:Nat -> Option Obj):({ s with mem:=m }:St).put d v={ s.put d v with mem:=m }:=by cases d <;> rfl
theorem nV {s':St} {nm:List Nat} (hag:Agree o s s' nm) {e:TypeId} {t:Ty} {v:AV} {xs:List t.D} {ns:List Nat} (h:bD s.mem e t v=some (xs,ns)) (hn:∀ n∈ns,n∈nm):bD s'.mem e t v=some (xs,ns):=by
 cases v with
 | own n =>
  have h1:ns=[n]:=by
   simp only [bD] at h
   split at h
   ·split at h
    ·split at h
     ·injection h with h;injection h with _ h2;exact h2.symm
     ·cases h
    ·cases h
   ·cases h
  rw [<- h]
  simp only [bD]
  rw [hag.mem n (hn n (by rw [h1];simp))]
 | _=>exact h
theorem Cm {s:St} {a:Act} {w:World} {μ:Nat -> Value} {Nm:Nat -> Prop} (h:Rel c s a w μ Nm) {ns ns':List Nat} {x:Value} (hx:(ns=[] /\ x.ownBlock=none) \/ ∃ n e t,∃ xs:List t.D,ns=[n] /\ x=μ n /\ s.mem n=some (.row true e t xs)) (hd:∀ n∈ns,n ∉ ns') {k:Nat} (hk:aX μ s.mem (aD c μ s.mem) ns' k):some k≠x.ownBlock:=by
 intro hx2
 rcases hx with ⟨_,h1⟩ | ⟨n,e,t,xs,h0,h1,h2⟩
 ·rw [h1] at hx2;cases hx2
 ·have hb:blk (μ n)=some k:=by rw [<- h1];exact jZ hx2.symm
  rcases hk with hk | ⟨n',hn',hl,hk⟩
  ·exact (h.aT h2 rfl hb).2.2 hk
  ·have hne:n≠n':=fun e=>hd n (by rw [h0];simp) (e ▸ hn')
   unfold bP at hl
   cases hm:s.mem n' with
   | none=>rw [hm] at hl;cases hl
   | some ob =>
    rw [hm] at hl
    refine h.dist n n' _ ob h2 hm rfl ?_ hne k hb hk
    cases ob with
    | row f _ _ _=>exact hl
    | box _ _=>rfl
    | mp _ _ _ _ _ _=>rfl
    | fm _ _ _ _=>rfl
theorem nW (hE:aH P E) {T e:TypeId} {t:Ty} {x y:Operand} {l l':List t.D} {ns ns':List Nat} {s':St} {a:Act} {w:World} {μ:Nat -> Value} {Nm:Nat -> Prop} {next:Act -> World -> Prop} {Q:Exit -> Act -> World -> Prop} {nm:List Nat}
  (ho:o.op=.call { callee:=.builtin .append,args:=#[x,y],argTypes:=#[T,T] }) (hT:E.elem T=some e) (ht:E.ty e=some t)
  (hr:Rel c s' a w μ Nm) (hf:∀ n,b <= n -> n<b+64 -> ¬ Nm n) (hd:∀ d,o.dst=some d -> d<s'.n)
  (hx:bD s'.mem e t (s'.op x)=some (l,ns)) (hy:Kd.V t.kd e w 0 (aX μ s'.mem (aD c μ s'.mem) ns') (a.eval y) l') (yB:∀ n∈ns,n ∉ ns') (hlim:(l.length+l'.length) * E.lK e <= 140737488355328)
  (nX:t.flat=true \/ ∀ k,k<w.heap.size -> aX μ s'.mem (aD c μ s'.mem) ns' k -> aD c μ s'.mem k)
  (hn:∀ a' w' μ' Nm',Rel c (s'.app o.dst ⟨.own b,eH ns++[(b,some (.row true e t (l++l')))],nm⟩) a' w' μ' Nm' -> (∀ n,Nm' n -> Nm n \/ (b <= n /\ n<b+64)) -> next a' w'):o.wp P a w next Q:=by
 have h1:=hr.op x
 obtain ⟨hN,hxn⟩:=rY hr.objs hx h1
 have Jy:(ns=[] /\ (a.eval x).ownBlock=none) \/ ∃ n e t,∃ xs:List t.D,ns=[n] /\ a.eval x=μ n /\ s'.mem n=some (.row true e t xs):=by
  rcases hxn with ⟨h1,h2,_⟩ | ⟨n,h1,h2,h3⟩
  ·exact .inl ⟨h1,by rw [h2];rfl⟩
  ·exact .inr ⟨n,e,t,l,h1,h2,h3⟩
 have hTy:=hE.ty e t ht
 obtain ⟨z,hi,hz,hc⟩:=yA hTy
 obtain ⟨A,cp,hyv,hyl,Rt⟩:=hy
 have Nc:=Kd.Eb Rt
 refine Kd.Bp (base:=0) (qX:=fun k=>aX μ s'.mem (aD c μ s'.mem) ns' k /\ k<w.heap.size) (ok:=fun k=>aX μ s'.mem (aD c μ s'.mem) ns' k /\ k<w.heap.size \/ w.heap.size <= k \/ some k=(a.eval x).ownBlock) ho (hE.elem T e hT) hi hz (by rw [aW];exact hTy.pos) hTy.lK hyv
  (Kd.gP (Kd.tY hN.1) (fun k hk=>?_)) Nc (fun k hk=>⟨.inl hk,Cm hr Jy yB hk.1⟩) (fun k hk=>.inr (.inl hk)) (Nat.zero_le _) hlim (fun v1 w1 hN1 hg hat=>?_)
 ·rcases hk.1 with h2 | h2
  ·exact .inl ⟨.inl h2,hk.2⟩
  ·exact .inr (.inr h2)
 ·obtain ⟨μ',Nm',g1,g2,g3,g4⟩:=hr.turn (b:=b) Jy hg hat (hf b (Nat.le_refl _) (by omega)) (v:=v1) (e:=e) (t:=t) (xs:=l++l') (by
   rcases nX with hfl | hfl
   ·exact Ck hfl hN1 (fun k hk=>.inr (.inr (.inl hk.symm)))
   ·refine Kd.gP hN1 (fun k hk=>?_)
    rcases hk with hk | hk | hk
    ·exact .inl ⟨hfl k hk.2 hk.1,hk.2⟩
    ·exact .inr (.inl hk)
    ·exact .inr (.inr (.inr hk)))
  have g5:=g1.put o.dst hd (v:=.own b) (x:=v1) (by simp only [aA];exact ⟨g2,g3.symm,(Kd.Gd hN1).2⟩)
  refine hn _ _ μ' Nm' ?_ (fun n h=>(g4 n h).imp id (fun e=>by omega))
  rw [bL,bI]
  rw [put_mem] at g5
  exact g5
theorem pV (hE:aH P E) {T e:TypeId} {t:Ty} {x y:Operand} {l l':List t.D} {ns ns':List Nat}
  (ho:o.op=.call { callee:=.builtin .append,args:=#[x,y],argTypes:=#[T,T] }) (hT:E.elem T=some e) (ht:E.ty e=some t)
  (hx:bD s.mem e t (s.op x)=some (l,ns)) (hy:rowOf s.mem e t (s.op y)=some (l',ns')) (yB:kT ns ns'=true) (hlim:(l.length+l'.length) * E.lK e <= 140737488355328) (nX:t.flat=true) :
  aJ P c o s b ⟨.own b,eH ns++[(b,some (.row true e t (l++l')))],b::ns++ns'⟩:=by
 intro s' a w μ Nm next Q hag hr hf hd hn
 have ox:=hag.ops x (by simp [Op.operands,ho,Call.operands])
 have oy:=hag.ops y (by simp [Op.operands,ho,Call.operands])
 have hx':=nV hag hx (fun n hn=>by simp [hn])
 have hy':=fF hag hy (fun n hn=>by simp [hn])
 rw [<- ox] at hx'
 rw [<- oy] at hy'
 exact nW hE ho hT ht hr hf hd hx' (dY hr.objs hy' (hr.op y)) (iB yB) hlim (.inl nX) hn
theorem Jz {s:St} {d:Option Tmp} {v:AV}:(s.put d v).mem=s.mem:=by cases d <;> rfl
theorem pW (hE:aH P E) {T e:TypeId} {t:Ty} {x y:Operand} {l l':List t.D} {ns ns':List Nat}
  (ho:o.op=.call { callee:=.builtin .append,args:=#[x,y],argTypes:=#[T,T] }) (hT:E.elem T=some e) (ht:E.ty e=some t)
  (hx:bD s.mem e t (s.op x)=some (l,ns)) (hy:rowOf s.mem e t (s.op y)=some (l',ns')) (yB:kT ns ns'=true) (hlim:(l.length+l'.length) * E.lK e <= 140737488355328) :
  aJ P c o s b ⟨.own b,dB s.mem ns'++(eH ns++[(b,some (.row true e t (l++l')))]),b::ns++ns'⟩:=by
 intro s' a w μ Nm next Q hag hr hf hd hn
 have ox:=hag.ops x (by simp [Op.operands,ho,Call.operands])
 have oy:=hag.ops y (by simp [Op.operands,ho,Call.operands])
 have hx':=nV hag hx (fun n hn=>by simp [hn])
 have hy':=fF hag hy (fun n hn=>by simp [hn])
 rw [<- ox] at hx'
 rw [<- oy] at hy'
 have hV:=dY hr.objs hy' (hr.op y)
 rw [eY hag (ns:=ns') (fun n hn=>by simp [hn])] at hn
 obtain ⟨g1,g2,g3,g4,g5⟩:=Rel.nC ns' (jP.refl s'.mem) hr
 have hS:∀ k,aX μ s'.mem (aD c μ s'.mem) ns' k -> aD c μ (aB s'.mem (dB s'.mem ns')) k:=by
  intro k hk
  rcases hk with hk | ⟨n,hn',hl,hk⟩
  ·exact g2 k hk
  ·obtain ⟨f,e',t',ys,hm⟩:=mV hy' n hn'
   exact g3 n hn' ⟨f,e',t',ys,hm⟩ hl k hk
 refine nW (s':={ s' with mem:=aB s'.mem (dB s'.mem ns') }) (ns:=ns) (ns':=[]) (nm:=b::ns++ns') hE ho hT ht g1 hf hd ?_ (Kd.dQ hV (fun k hk=>.inl (hS k hk))) (by simp) hlim (.inr (fun k _ hk=>gX hk)) (fun a' w' μ' Nm' h1 h2=>hn a' w' μ' Nm' ?_ h2)
 ·have:({ s' with mem:=aB s'.mem (dB s'.mem ns') }:St).op x=s'.op x:=by cases x <;> rfl
  rw [this,<- hx']
  cases hv:s'.op x with
  | own n =>
   have h1:ns=[n]:=by
    rw [hv] at hx'
    simp only [bD] at hx'
    split at hx'
    ·split at hx'
     ·split at hx'
      ·injection hx' with h;injection h with _ h2;exact h2.symm
      ·cases hx'
     ·cases hx'
    ·cases hx'
   simp only [bD]
   rw [g5 n (iB yB n (by rw [h1];simp))]
  | _=>rfl
 ·rw [bL] at h1 ⊢
  rw [put_mem] at h1
  rw [bI]
  exact h1
theorem oK (hE:aH P E) {T T' e:TypeId} {t:Ty} {x y:Operand} {k ky:IntKind} {n:Int}
  (ho:o.op=.call { callee:=.builtin .append,args:=#[x,y],argTypes:=#[T,T'] }) (hT:E.elem T=some e) (hT':E.ik T'=some k) (ht:E.ty e=some t)
  (hx:s.op x=.nil) (hy:s.op y=.int ky n) (h0:0 <= n) (hlim:(0+n.toNat) * E.lK e <= 140737488355328) :
  aJ P c o s b ⟨.own b,[(b,some (.row true e t (List.replicate n.toNat t.z)))],[b]⟩:=by
 intro s' a w μ Nm next Q hag hr hf hd hn
 have h1:=hr.op x
 have hyv:=hr.op y
 rw [hag.ops x (by simp [Op.operands,ho,Call.operands]),hx] at h1
 rw [hag.ops y (by simp [Op.operands,ho,Call.operands]),hy] at hyv
 simp only [aA] at h1 hyv
 have hTy:=hE.ty e t ht
 obtain ⟨z,hi,hz,hc⟩:=yA hTy
 exact Kd.Ec (base:=0) (ok:=fun k=>(aD c μ s'.mem k /\ k<w.heap.size) \/ w.heap.size <= k) ho (hE.elem T e hT) (hE.ik T' k hT') hi hz (by rw [aW];exact hTy.pos) hTy.lK h1 hyv (z0:=t.z) (by rw [hc];exact kD t) (fun k hk=>.inr hk) h0 (Nat.zero_le _) (by rwa [Nat.zero_add] at hlim) (fun v1 w1 hN hg hat=>uV hr hf hd hN hg hat hn)
theorem gD {w:World} {k:IntKind} {i:Int} {y:Nat} {cd:BoundsCode} (h0:0 <= i) (h1:i <= (y:Int)):(Instr.sliceBound (.int k i) y cd).run P w=.ok i.toNat w:=by
 simp [Instr.sliceBound,asIntOf,h0,h1,Result.andThen]
theorem gM (hE:aH P E) {T e:TypeId} {t:Ty} (hT:E.elem T=some e) (ht:E.ty e=some t) {w:World} {A:Option Addr} {len cap:Nat} {lo hi:Option Value} {l h:Int}
  (hlo:(lo=none /\ l=0) \/ ∃ k,lo=some (.int k l)) (hhi:(hi=none /\ h=(len:Int)) \/ ∃ k,hi=some (.int k h)) (h0:0 <= l) (h1:l <= h) (h2:h <= (len:Int)) (hc:len <= cap) :
  (Instr.sliceAt T (.slice A len cap) lo hi none).run P w=.ok (.slice (if cap=l.toNat then A else A.map (·.add (l.toNat * t.sz))) (h.toNat - l.toNat) (cap - l.toNat)) w:=by
 have hs:=aQ (hE.ty e t ht) w
 have b1:∀ k cd,(Instr.sliceBound (.int k h) cap cd).run P w=.ok h.toNat w:=fun k cd=>gD (by omega) (by omega)
 have b2:∀ k cd,(Instr.sliceBound (.int k l) h.toNat cd).run P w=.ok l.toNat w:=fun k cd=>gD h0 (by omega)
 rcases hlo with ⟨rfl,rfl⟩ | ⟨k,rfl⟩ <;> rcases hhi with ⟨rfl,rfl⟩ | ⟨k',rfl⟩
 ·simp [Instr.sliceAt,Instr.slice,Instr.sliceBounds,run_underlying (hE.elem T e hT),hs,Result.andThen]
 ·simp [Instr.sliceAt,Instr.slice,Instr.sliceBounds,run_underlying (hE.elem T e hT),hs,Result.andThen,b1]
 ·have b3:∀ cd,(Instr.sliceBound (.int k l) len cd).run P w=.ok l.toNat w:=fun cd=>gD h0 (by omega)
  simp [Instr.sliceAt,Instr.slice,Instr.sliceBounds,run_underlying (hE.elem T e hT),hs,Result.andThen,b3]
 ·simp [Instr.sliceAt,Instr.slice,Instr.sliceBounds,run_underlying (hE.elem T e hT),hs,Result.andThen,b1,b2]
theorem uW {a:Act} {w:World} {μ:Nat -> Value} {Nm:Nat -> Prop} {s':St} (hr:Rel c s' a w μ Nm) {lo:Option Operand} {l:Int} (hop:∀ x,lo=some x -> s'.op x=s.op x) (h:Gh s lo=some l):(lo.map a.eval=none /\ l=0) \/ ∃ k,lo.map a.eval=some (.int k l):=by
 cases lo with
 | none=>left;simp only [Gh] at h;injection h with h;exact ⟨rfl,h.symm⟩
 | some y =>
  right
  simp only [Gh] at h
  split at h
  ·rename_i l' hy
   injection h with h;subst h
   have h1:=hr.op y
   rw [hop y rfl,hy] at h1
   simp only [aA] at h1
   exact ⟨.i64,by simp [h1]⟩
  ·cases h
theorem oO {a:Act} {w:World} {μ:Nat -> Value} {Nm:Nat -> Prop} {s':St} (hr:Rel c s' a w μ Nm) {hi:Option Operand} {n:Nat} {h:Int} (hop:∀ x,hi=some x -> s'.op x=s.op x) (hh:Gi s n hi=some h):(hi.map a.eval=none /\ h=(n:Int)) \/ ∃ k,hi.map a.eval=some (.int k h):=by
 cases hi with
 | none=>left;simp only [Gi] at hh;injection hh with hh;exact ⟨rfl,hh.symm⟩
 | some y =>
  right
  simp only [Gi] at hh
  split at hh
  ·rename_i l' hy
   injection hh with hh;subst hh
   have h1:=hr.op y
   rw [hop y rfl,hy] at h1
   simp only [aA] at h1
   exact ⟨.i64,by simp [h1]⟩
  ·cases hh
theorem nY (hE:aH P E) {T e:TypeId} {t:Ty} {x:Operand} {lo hi:Option Operand} {l h:Int} {xs:List t.D} {ns:List Nat} (ho:o.op=.slice T x lo hi none) (hT:E.elem T=some e) (ht:E.ty e=some t) (hrow:rowOf s.mem e t (s.op x)=some (xs,ns)) (hlo:Gh s lo=some l) (hhi:Gi s xs.length hi=some h) (h0:0 <= l) (h1:l <= h) (h2:h <= (xs.length:Int)) :
  aJ P c o s b ⟨.ro e t ((xs.take h.toNat).drop l.toNat),dB s.mem ns,ns⟩:=by
 intro s' a w μ Nm next Q hag hr hf hd hn
 have ox:=hag.ops x (by simp [Op.operands,ho])
 have hrow':=fF hag hrow (fun n hn=>hn)
 rw [<- ox] at hrow'
 have hV:=dY hr.objs hrow' (hr.op x)
 have g:=Rel.nC ns (jP.refl s'.mem) hr
 rw [eY hag (ns:=ns) (fun n hn=>hn)] at hn
 obtain ⟨g1,g2,g3,g4,g5⟩:=g
 have hS:∀ k,aX μ s'.mem (aD c μ s'.mem) ns k -> aD c μ (aB s'.mem (dB s'.mem ns)) k:=by
  intro k hk
  rcases hk with hk | ⟨n,hn',hl,hk⟩
  ·exact g2 k hk
  ·obtain ⟨f,e',t',ys,hm⟩:=mV hrow' n hn'
   exact g3 n hn' ⟨f,e',t',ys,hm⟩ hl k hk
 have hV':=Kd.dQ hV hS
 obtain ⟨A,cp,hxv,hl,hF⟩:=hV'
 have hrl:=uW hr (s:=s) (fun y hy=>hag.ops y (by simp [Op.operands,ho,hy])) hlo
 have Hy:=oO hr (s:=s) (fun y hy=>hag.ops y (by simp [Op.operands,ho,hy])) hhi
 have hrun:=gM (P:=P) hE hT ht (w:=w) (A:=A) (len:=xs.length) (cap:=cp) hrl Hy h0 h1 h2 hl
 refine dM (by simp only [execOp,ho,hxv];exact aR hrun) ?_
 have hF2:=Kd.Gc hF (lo:=l.toNat) (hi:=h.toNat) (by omega) (by omega) hl
 rw [aW] at hF2
 have hlen:((xs.take h.toNat).drop l.toNat).length=h.toNat - l.toNat:=by simp;omega
 have g6:=g1.put o.dst hd (v:=.ro e t ((xs.take h.toNat).drop l.toNat)) (x:=.slice (if cp=l.toNat then A else A.map (·.add (l.toNat * t.sz))) (h.toNat - l.toNat) (cp - l.toNat)) (by
  simp only [aA]
  rw [<- hlen]
  exact Kd.Gw (by rw [hlen];omega) hF2)
 refine hn _ _ μ Nm ?_ (fun n hn=>.inl hn)
 rw [bL]
 rw [put_mem] at g6
 exact g6
theorem uX (hE:aH P E) {T e:TypeId} {t:Ty} {x:Operand} {lo hi:Option Operand} {l h:Int} {xs:List t.D} {ns:List Nat} (ho:o.op=.slice T x lo hi none) (hT:E.elem T=some e) (ht:E.ty e=some t) (hx:s.op x=.nil) (hrow:rowOf s.mem e t (s.op x)=some (xs,ns)) (hlo:Gh s lo=some l) (hhi:Gi s xs.length hi=some h) (h0:0 <= l) (h1:l <= h) (h2:h <= (xs.length:Int)) :
  aJ P c o s b ⟨.nil,[],[]⟩:=by
 refine aJ.pure fun s' a w μ Nm hag hr=>?_
 have ox:=hag.ops x (by simp [Op.operands,ho])
 have hxv:=hr.op x
 rw [ox,hx] at hxv
 simp only [aA] at hxv
 rw [hx] at hrow
 simp only [rowOf] at hrow
 injection hrow with hrow
 injection hrow with e1 e2
 subst e1
 simp only [List.length_nil] at h2 hhi
 have el:l=0:=by omega
 have eh:h=0:=by omega
 subst el;subst eh
 have hrl:=uW hr (s:=s) (fun y hy=>hag.ops y (by simp [Op.operands,ho,hy])) hlo
 have Hy:=oO hr (s:=s) (fun y hy=>hag.ops y (by simp [Op.operands,ho,hy])) hhi
 have hrun:=gM (P:=P) hE hT ht (w:=w) (A:=none) (len:=0) (cap:=0) hrl Hy (Int.le_refl 0) (Int.le_refl 0) (Int.le_refl 0) (Nat.le_refl 0)
 refine ⟨_,by simp only [execOp,ho,hxv];exact aR hrun,?_⟩
 simp [aA]
theorem rF (hE:aH P E) {T e:TypeId} {t:Ty} {x:Operand} {lo hi:Option Operand} {l h:Int} {xs:List t.D} {ns:List Nat} {m:Nat} (ho:o.op=.slice T x lo hi none) (hT:E.elem T=some e) (ht:E.ty e=some t) (hx:s.op x=.own m) (hrow:rowOf s.mem e t (s.op x)=some (xs,ns)) (hl:bP s.mem m=true) (hlo:Gh s lo=some l) (hhi:Gi s xs.length hi=some h) (h0:0 <= l) (h1:l <= h) (h2:h <= (xs.length:Int)) :
  aJ P c o s b ⟨.vw m t.sz l h,[],[m]⟩:=by
 refine aJ.pure fun s' a w μ Nm hag hr=>?_
 have ox:=hag.ops x (by simp [Op.operands,ho])
 rw [hx] at hrow
 obtain ⟨hns,f,hm⟩:=eX hrow
 simp only [bP,hm] at hl
 subst hl
 have hm':s'.mem m=some (.row true e t xs):=by rw [hag.mem m (by simp)];exact hm
 have hN:=hr.objs m _ hm'
 simp only [aF] at hN
 have hxv:=hr.op x
 rw [ox,hx] at hxv
 simp only [aA] at hxv
 obtain ⟨A,cp,hv⟩:=Kd.jW hN.1
 have hN1:=hN.1
 rw [hv] at hN1
 have hlc:=(Kd.Bn hN1).2
 have hrl:=uW hr (s:=s) (fun y hy=>hag.ops y (by simp [Op.operands,ho,hy])) hlo
 have Hy:=oO hr (s:=s) (fun y hy=>hag.ops y (by simp [Op.operands,ho,hy])) hhi
 have hrun:=gM (P:=P) hE hT ht (w:=w) (A:=A) (len:=xs.length) (cap:=cp) hrl Hy h0 h1 h2 hlc
 refine ⟨_,by simp only [execOp,ho,hxv.2.1,hv];exact aR hrun,?_⟩
 simp only [aA]
 exact ⟨hxv.1,h0,h1,A,xs.length,cp,hv,h2,hlc,rfl⟩
theorem uY (hE:aH P E) {T e:TypeId} {t:Ty} {x:Operand} {hi:Option Operand} {h:Int} {xs:List t.D} {ns:List Nat} {m:Nat} (ho:o.op=.slice T x none hi none) (hT:E.elem T=some e) (ht:E.ty e=some t) (hx:s.op x=.own m) (hrow:rowOf s.mem e t (s.op x)=some (xs,ns)) (hl:bP s.mem m=true) (hhi:Gi s xs.length hi=some h) (h0:0 <= h) (h2:h <= (xs.length:Int)) :
  aJ P c o s b ⟨.own b,[(m,none),(b,some (.row true e t (xs.take h.toNat)))],[m,b]⟩:=by
 intro s' a w μ Nm next Q hag hr hf hd hn
 have ox:=hag.ops x (by simp [Op.operands,ho])
 rw [hx] at hrow
 obtain ⟨hns,f,hm⟩:=eX hrow
 simp only [bP,hm] at hl
 subst hl
 have hm':s'.mem m=some (.row true e t xs):=by rw [hag.mem m (by simp)];exact hm
 have hN:=hr.objs m _ hm'
 simp only [aF] at hN
 have hxv:=hr.op x
 rw [ox,hx] at hxv
 simp only [aA] at hxv
 obtain ⟨A,cp,hv⟩:=Kd.jW hN.1
 have hN1:=hN.1
 rw [hv] at hN1
 have hlc:=(Kd.Bn hN1).2
 have Hy:=oO hr (s:=s) (fun y hy=>hag.ops y (by simp [Op.operands,ho,hy])) hhi
 have hrun:=gM (P:=P) hE hT ht (w:=w) (A:=A) (len:=xs.length) (cap:=cp) (.inl ⟨rfl,rfl⟩) Hy (Int.le_refl 0) h0 h2 hlc
 have hA:(if cp=(0:Int).toNat then A else A.map (·.add ((0:Int).toNat * t.sz)))=A:=by
  split
  ·rfl
  ·cases A <;> simp [Addr.add]
 rw [hA] at hrun
 refine dM (by simp only [execOp,ho,hxv.2.1,hv];exact aR hrun) ?_
 have Ru:=Kd.Gy hN1 (m:=h.toNat) (by omega)
 have mQ:(Value.slice A h.toNat cp).ownBlock=(μ m).ownBlock:=by rw [hv];cases A <;> rfl
 simp only [Int.toNat_zero,Nat.sub_zero]
 obtain ⟨μ',Nm',g1,g2,g3,g4⟩:=hr.turn (b:=b) (x:=μ m) (v:=.slice A h.toNat cp) (w':=w) (ns:=[m]) (.inr ⟨m,e,t,xs,rfl,rfl,hm'⟩) ⟨rfl,rfl,rfl,Nat.le_refl _,fun _ _ _=>rfl⟩ (.inl mQ) (hf b (Nat.le_refl _) (by omega)) (e:=e) (t:=t) (xs:=xs.take h.toNat) (Kd.gP (Kd.tY Ru) (fun k hk=>by
  rcases hk.1 with h3 | h3
  ·exact .inl ⟨h3,hk.2⟩
  ·rw [<- hv] at h3;exact .inr (.inr (.inr h3))))
 have g5:=g1.put o.dst hd (v:=.own b) (x:=.slice A h.toNat cp) (by simp only [aA];exact ⟨g2,g3.symm,rfl⟩)
 refine hn _ _ μ' Nm' ?_ (fun n h=>(g4 n h).imp id (fun e=>by omega))
 rw [bL]
 rw [put_mem] at g5
 exact g5
end
end Go.Proofs.YtmmagcjlfcicfaaGreat.Ab
set_option linter.unusedVariables false
set_option linter.unusedSimpArgs false
namespace Go.Proofs.YtmmagcjlfcicfaaGreat.Ab
open Go.RowKit
section
variable {P:Program} {E:Env} {c:Ctx} {o:Oper} {s:St} {b:Nat} {R:Type} {κ:Eff -> Option R} {r:R}
theorem Et {μ:Nat -> Value} {Nm S:Nat -> Prop} {w:World} {v:AV} {x:Value} (hv:Hg v=true) (h:aA μ Nm S w v x):x.oneCell'=true:=by
 cases v with
 | undef=>cases hv
 | hole=>cases hv
 | agg cs=>cases hv
 | zI cs=>cases hv
 | int k n=>simp only [aA] at h;subst h;rfl
 | bool k=>simp only [aA] at h;subst h;rfl
 | str k=>simp only [aA] at h;subst h;rfl
 | nil=>simp only [aA] at h;subst h;rfl
 | ro e t xs=>simp only [aA] at h;obtain ⟨A,cp,rfl,_⟩:=h;rfl
 | vw n z l hh=>simp only [aA] at h;obtain ⟨_,_,_,A,len,cap,_,_,_,rfl⟩:=h;rfl
 | rz z e t xs=>simp only [aA] at h;obtain ⟨⟨A,cp,rfl,_⟩,_⟩:=h;rfl
 | own n=>simp only [aA] at h;exact h.2.2
 | ptr n off=>simp only [aA] at h;obtain ⟨_,g,_,rfl⟩:=h;rfl
 | kJ n z i off=>simp only [aA] at h;obtain ⟨_,g,l,cp,_,_,_,rfl⟩:=h;rfl
 | kS t y off=>simp only [aA] at h;obtain ⟨ad,cs,rfl,_⟩:=h;rfl
 | dyn p c j=>cases hv
 | lJ f cs=>simp only [aA] at h;obtain ⟨us,rfl,_⟩:=h;rfl
 | mv f cs=>simp only [aA] at h;obtain ⟨us,rfl,_⟩:=h;rfl
theorem wD {μ:Nat -> Value} {Nm S:Nat -> Prop} {w:World}:∀ {cs:List AV} {vs:List Value},lN cs=true -> VRels μ Nm S w cs vs -> ∀ v∈vs,v.oneCell'=true
 | [],[],_,_,v,hv=>by cases hv
 | [],_::_,_,h,_,_=>by simp only [VRels] at h
 | _::_,[],_,h,_,_=>by simp only [VRels] at h
 | x::cs,y::vs,ho,h,v,hv=>by
  simp only [lN,Bool.and_eq_true] at ho
  simp only [VRels] at h
  rcases List.mem_cons.1 hv with rfl | hv
  ·exact Et ho.1 h.1
  ·exact wD ho.2 h.2 v hv
theorem Aq {v:AV} (h:lN (aM v)=true):rA v=true:=by
 cases v <;> first | rfl | simp [aM,lN,Hg] at h
theorem pX (hE:aH P E) {T U:TypeId} {p x:Operand} {n off:Nat} {cs:List AV} {u:Ty} {v:AV} (ho:o.op=.store T p x) {s':St} {a:Act} {w:World} {μ:Nat -> Value} {Nm:Nat -> Prop} (hr:Rel c s' a w μ Nm) {S:Nat -> Prop} (h1:aA μ Nm S w (.ptr n off) (a.eval p)) (hm':s'.mem n=some (.box U cs)) (hT:E.ty T=some u) (hl:(aM v).length=u.sz) (hfit:off+u.sz <= cs.length) (hone:lN (aM v)=true) (hx:aA μ Nm (aD c μ s'.mem) w v (a.eval x)) :
  ∃ w',(execOp a.eval o).run P w=.ok .skip w' /\ Rel c { s' with mem:=dK s'.mem n (some (.box U (cs.take off++aM v++cs.drop (off+u.sz)))) } a w' μ Nm:=by
 simp only [aA] at h1
 obtain ⟨hnm,g,hg,h2⟩:=h1
 have h3:=hr.objs n _ hm'
 simp only [aF] at h3
 obtain ⟨g',vs,hg',hbase,hh,hv⟩:=h3
 rw [hg] at hg'
 injection hg' with hg';injection hg' with hg';injection hg' with hg'
 subst hg'
 have hxc:=fP (Aq hone) hx
 have hxl:=bY hxc
 have hvl:=bY hv
 have hlt:g<w.heap.size:=(Array.getElem?_eq_some_iff.1 hh).1
 have hrun:(Instr.storeAt T (.pointer (some ⟨g,off,none⟩)) (a.eval x)).run P w=.ok () (w.setRow g (vs.toList.take (off+0)++(a.eval x).cells.toList++vs.toList.drop (off+0+(a.eval x).cells.toList.length)).toArray):=by
  have hs:=aQ (hE.ty T u hT) w
  have hst:=run_storeCells_at (P:=P) g off U (a.eval x).cells.toList 0 vs w hh (by rw [<- hxl,hl];simp at hvl;omega) (wD hone hxc)
  have hsz:(a.eval x).cells.size=u.sz:=by rw [<- hl,hxl];simp
  simp [Instr.storeAt,Instr.sureAddr,storeVar,hs,hsz,hst,Result.andThen]
 have wE:(a.eval x).cells.toList.length=u.sz:=by rw [<- hxl,hl]
 rw [Nat.add_zero,wE] at hrun
 generalize hnew:(vs.toList.take off++(a.eval x).cells.toList++vs.toList.drop (off+u.sz)).toArray=nv at hrun
 have hS:∀ k,aD c μ s'.mem k -> aD c μ (dK s'.mem n (some (.box U (cs.take off++aM v++cs.drop (off+u.sz))))) k:=fun k hk=>⟨hk.1,fun n' o' hn' hl'=>by
  rw [aC] at hn'
  by_cases e:n=n'
  ·subst e;exact hk.2 n _ hm' rfl
  ·simp only [e,if_false] at hn';exact hk.2 n' o' hn' hl'⟩
 have yC:∀ k,aD c μ s'.mem k -> k≠g:=fun k hk e=>hk.2 n _ hm' rfl (by rw [hg,e];rfl)
 have hv2:VRels μ Nm (aD c μ s'.mem) w (cs.take off++aM v++cs.drop (off+u.sz)) nv.toList:=by
  rw [<- hnew]
  exact aP (aP (dR _ hv) hxc) (dS _ hv)
 have key:Rel c { s' with mem:=dK s'.mem n (some (.box U (cs.take off++aM v++cs.drop (off+u.sz)))) } a (w.setRow g nv) μ Nm:=by
  refine hr.next (s':={ s' with mem:=dK s'.mem n (some (.box U (cs.take off++aM v++cs.drop (off+u.sz)))) }) hr.size hr.defers (hr.below.trans ⟨rfl,rfl,rfl,by simp,fun k hk hX=>setRow_other _ _ _ _ (fun e=>by subst e;rcases hbase with hb | hb;exact absurd hb (by omega);exact hX hb)⟩) (fun k hk hlt=>setRow_other _ _ _ _ (yC k hk)) (fun k hk _=>hS k hk) (fun _ _=>rfl) (fun _ h=>h) (fun n' o' hn'=>?_) (fun n1 n2 o1 o2 q1 q2 l1 l2 hne k hk=>?_) (fun x=>.inl ⟨rfl,rfl⟩)
  ·simp only [aC] at hn'
   by_cases e:n=n'
   ·simp only [e,if_true] at hn'
    injection hn' with hn';subst hn';subst e
    refine .inr ⟨hnm,?_⟩
    simp only [aF]
    exact ⟨g,nv,hg,hbase,setRow_heap w g vs nv U (0,0) hh,aZ (fun k hk _=>setRow_other _ _ _ _ (yC k hk)) (fun k hk _=>hS k hk) (fun _ _=>rfl) (fun _ h=>h) _ _ hv2⟩
   ·simp only [e,if_false] at hn'
    exact .inl ⟨hn',fun hl' k hk=>setRow_other _ _ _ _ (fun e2=>hr.dist n n' _ o' hm' hn' rfl hl' e g (by rw [hg];rfl) (by rw [hk,e2]))⟩
  ·simp only [aC] at q1 q2
   have w1:∃ uZ,s'.mem n1=some uZ /\ uZ.live=true:=by
    by_cases e:n=n1
    ·subst e;exact ⟨_,hm',rfl⟩
    ·simp only [e,if_false] at q1;exact ⟨o1,q1,l1⟩
   have w2:∃ vB,s'.mem n2=some vB /\ vB.live=true:=by
    by_cases e:n=n2
    ·subst e;exact ⟨_,hm',rfl⟩
    ·simp only [e,if_false] at q2;exact ⟨o2,q2,l2⟩
   obtain ⟨uZ,w1,m1⟩:=w1
   obtain ⟨vB,w2,m2⟩:=w2
   exact hr.dist n1 n2 uZ vB w1 w2 m1 m2 hne k hk
 exact ⟨_,by simp only [execOp,ho,h2];exact rZ hrun,key⟩
theorem lW (hE:aH P E) {T U:TypeId} {p x:Operand} {n off:Nat} {cs:List AV} {u:Ty} (ho:o.op=.store T p x) (hp:∀ {μ:Nat -> Value} {Nm S:Nat -> Prop} {w:World} {y:Value},aA μ Nm S w (s.op p) y -> aA μ Nm S w (.ptr n off) y) (hm:s.mem n=some (.box U cs)) (hT:E.ty T=some u) (hl:(aM (s.op x)).length=u.sz) (hfit:off+u.sz <= cs.length) (hone:lN (aM (s.op x))=true) :
  aJ P c o s b ⟨.undef,[(n,some (.box U (cs.take off++aM (s.op x)++cs.drop (off+u.sz))))],[n]⟩:=by
 intro s' a w μ Nm next Q hag hr hf hd hn
 have h1:=hr.op p
 rw [hag.ops p (by simp [Op.operands,ho])] at h1
 have h1:=hp h1
 have hm':s'.mem n=some (.box U cs):=by rw [hag.mem n (by simp)];exact hm
 have hx:=hr.op x
 rw [hag.ops x (by simp [Op.operands,ho])] at hx
 obtain ⟨w',hrun,key⟩:=pX hE ho hr h1 hm' hT hl hfit hone hx
 refine jK hrun ?_
 have g6:=key.put o.dst hd (v:=.undef) (x:=undef) (by simp only [aA])
 refine hn _ _ μ Nm ?_ (fun n hn=>.inl hn)
 rw [bL]
 rw [put_mem] at g6
 exact g6
theorem vC (hE:aH P E) {T U e:TypeId} {t u:Ty} {p x:Operand} {n off:Nat} {cs:List AV} (ho:o.op=.store T p x) (hp:s.op p=.ptr n off) (hx:s.op x=.nil) (hm:s.mem n=some (.box U cs)) (hT:E.ty T=some u) (hu:u.sz=1) (hfit:off+1 <= cs.length) :
  aJ P c o s b ⟨.undef,[(b,some (.row true e t [])),(n,some (.box U (cs.take off++[.own b]++cs.drop (off+1))))],[n]⟩:=by
 intro s' a w μ Nm next Q hag hr hf hd hn
 have hm':s'.mem n=some (.box U cs):=by rw [hag.mem n (by simp)];exact hm
 have hx0:=hr.op x
 rw [hag.ops x (by simp [Op.operands,ho]),hx] at hx0
 have hnb:n≠b:=fun e=>hf b (Nat.le_refl _) (by omega) (e ▸ hr.names n _ hm')
 have h:=iA (c:=c) [some (e,t)] [.nil] [a.eval x] b hr (by simp only [VRels,and_true];exact hx0) (fun n h1 h2=>hf n h1 (by simp only [bF] at h2;omega))
 simp only [bF] at h
 obtain ⟨μ1,Hu,g1,g2,g3,g4,g5,g6⟩:=h
 simp only [VRels,and_true] at g2
 have h1:=g1.op p
 rw [show ({ s' with mem:=aB s'.mem [(b,some (.row true e t []))] }:St).op p=s'.op p by cases p <;> rfl,hag.ops p (by simp [Op.operands,ho]),hp] at h1
 have hm1:aB s'.mem [(b,some (.row true e t []))] n=some (.box U cs):=by
  simp only [aB,aC]
  rw [if_neg (fun e=>hnb e.symm)]
  exact hm'
 obtain ⟨w',hrun,key⟩:=pX (v:=.own b) hE ho g1 h1 hm1 hT (by simp [aM,hu]) (by rw [hu];exact hfit) rfl g2
 refine jK hrun ?_
 have g7:=key.put o.dst hd (v:=.undef) (x:=undef) (by simp only [aA])
 refine hn _ _ μ1 Hu ?_ (fun n h=>(g3 n h).imp id (fun e=>by omega))
 rw [bL]
 rw [put_mem,put_mem,hu] at g7
 exact g7
theorem pY {m:Nat -> Option Obj} {ns:List Nat} {n:Nat} (h:lM n ns=false):n ∉ ns:=fun hn=>by rw [(jQ n ns).2 hn] at h;cases h
theorem lX (hE:aH P E) {T e:TypeId} {p x:Operand} {n z off:Nat} {i:Int} {t u:Ty} {xs:List t.D} {d:t.D} {ns:List Nat} (ho:o.op=.store T p x) (hp:∀ {μ:Nat -> Value} {Nm S:Nat -> Prop} {w:World} {y:Value},aA μ Nm S w (s.op p) y -> aA μ Nm S w (.kJ n z i off) y) (hm:s.mem n=some (.row true e t xs)) (hT:E.ty T=some u) (hz:z=t.sz) (hl:(aM (s.op x)).length=u.sz) (hfit:off+u.sz <= t.sz) (hdef:rA (s.op x)=true)
  (hpk:pack s.mem t ((unpack t (xs.getD i.toNat t.z)).take off++aM (s.op x)++(unpack t (xs.getD i.toNat t.z)).drop (off+u.sz))=some (d,[],ns)) (hns:lM n ns=false) :
  aJ P c o s b ⟨.undef,dB s.mem ns++[(n,some (.row true e t (xs.set i.toNat d)))],n::ns⟩:=by
 intro s' a w μ Nm next Q hag hr0 hf hd hn
 subst hz
 have hm0:s'.mem n=some (.row true e t xs):=by rw [hag.mem n (by simp)];exact hm
 rw [eY hag (ns:=ns) (fun n hn=>by simp [hn])] at hn
 have hnot:=pY (m:=s.mem) hns
 have hpk':=dU (m':=s'.mem) t _ _ _ _ hpk (fun n hn=>hag.mem n (by simp [hn]))
 obtain ⟨g1,g2,g3,g4,g5⟩:=Rel.nC ns (jP.refl s'.mem) hr0
 have hS0:∀ k,aX μ s'.mem (aD c μ s'.mem) ns k -> aD c μ (aB s'.mem (dB s'.mem ns)) k:=by
  intro k hk
  rcases hk with hk | ⟨n',hn',hl,hk⟩
  ·exact g2 k hk
  ·exact g3 n' hn' (gY t _ _ _ _ hpk' n' hn') hl k hk
 have h1:=hr0.op p
 rw [hag.ops p (by simp [Op.operands,ho])] at h1
 have h1:=hp h1
 simp only [aA] at h1
 obtain ⟨hnm,g,len,cap,hg,h0,hi,h2⟩:=h1
 have hx:=hr0.op x
 rw [hag.ops x (by simp [Op.operands,ho])] at hx
 have hxc:=fP hdef hx
 have hxl:=bY hxc
 have hN0:=hr0.objs n _ hm0
 have hN0':=hN0
 simp only [aF] at hN0
 rw [hg] at hN0
 obtain ⟨cv,hcl,Jt,hcc⟩:=vQ hN0' hg h0 hi
 have hcells:VRels μ Nm (aD c μ s'.mem) w ((unpack t (xs.getD i.toNat t.z)).take off++aM (s.op x)++(unpack t (xs.getD i.toNat t.z)).drop (off+u.sz)) (cv.take off++(a.eval x).cells.toList++cv.drop (off+u.sz)):=by
  have hu:=bA (μ:=μ) (Nm:=Nm) t _ cv Jt
  exact aP (aP (dR _ hu) hxc) (dS _ hu)
 obtain ⟨v0,v1,Hz,Ka,hv1⟩:=cO hr0.objs t _ _ _ _ _ hpk' hcells
 have Ia:v1=[]:=by
  cases v1 with
  | nil=>rfl
  | cons _ _=>simp only [VRels] at hv1
 subst Ia
 rw [List.append_nil] at Hz
 have wE:(a.eval x).cells.toList.length=u.sz:=by rw [<- hxl,hl]
 have hm1:aB s'.mem (dB s'.mem ns) n=some (.row true e t xs):=by rw [g5 n hnot];exact hm0
 have hN1:=g1.objs n _ hm1
 simp only [aF] at hN1
 rw [hg] at hN1
 have yC:∀ k,aD c μ (aB s'.mem (dB s'.mem ns)) k -> k≠g:=fun k hk e=>hk.2 n _ hm1 rfl (by rw [hg,e];rfl)
 have hseg:=Kd.Jo hN1.1 (c:=cv) (seg:=(a.eval x).cells.toList) (j:=off) i h0 (by exact_mod_cast hi) (by rw [aW];exact hcl) (by rw [aW];exact hcc) (by rw [aW,wE];exact hfit) (x':=d) (qX:=fun k=>aD c μ (aB s'.mem (dB s'.mem ns)) k) (by
  rw [wE,Hz];exact Kd.aV Ka hS0) (fun k hk=>⟨.inl hk,yC k hk⟩)
 rw [aW] at hseg
 obtain ⟨Dz,dL⟩:=hseg
 have hone:∀ q∈(a.eval x).cells.toList,q.oneCell'=true:=fun q hq=>t.kd.one Ka q (by rw [<- Hz];simp [hq])
 have Cn:∀ j,j<(a.eval x).cells.toList.length -> (w.cell? ⟨g,i.toNat * t.sz+off+0+j,none⟩).isSome=true /\ w.frozen? ⟨g,i.toNat * t.sz+off+0+j,none⟩=false:=by
  intro j hj
  rw [wE] at hj
  have hjl:off+j<cv.length:=by omega
  have h5:=hcc (off+j) _ (List.getElem?_eq_getElem hjl)
  have e1:i.toNat * t.sz+off+0+j=i.toNat * t.sz+(off+j):=by omega
  rw [e1]
  refine ⟨by rw [h5];rfl,?_⟩
  obtain ⟨_,_,_,_,h6⟩:=Kd.Bo hN0.1 t.z i h0 (by exact_mod_cast hi)
  have:=h6 (off+j)
  rw [aW] at this
  exact this
 have hrun:(Instr.storeAt T (.pointer (some ⟨g,i.toNat * t.sz+off,none⟩)) (a.eval x)).run P w=.ok () (w.setCells g (i.toNat * t.sz+off) (a.eval x).cells.toList):=by
  have hs:=aQ (hE.ty T u hT) w
  have hst:=run_storeCells_cells (P:=P) g (i.toNat * t.sz+off) (a.eval x).cells.toList 0 w (fun j hj=>(Cn j hj).1) (fun j hj=>(Cn j hj).2) hone
  have hsz:(a.eval x).cells.size=u.sz:=by rw [<- hl,hxl];simp
  rw [Nat.add_zero] at hst
  simp [Instr.storeAt,Instr.sureAddr,storeVar,hs,hsz,hst,Result.andThen]
 refine jK (by simp only [execOp,ho,h2];exact rZ hrun) ?_
 have hS:∀ k,aD c μ (aB s'.mem (dB s'.mem ns)) k -> aD c μ (dK (aB s'.mem (dB s'.mem ns)) n (some (.row true e t (xs.set i.toNat d)))) k:=fun k hk=>⟨hk.1,fun n' o' hn' hl'=>by
  rw [aC] at hn'
  by_cases e:n=n'
  ·subst e;exact hk.2 n _ hm1 rfl
  ·simp only [e,if_false] at hn';exact hk.2 n' o' hn' hl'⟩
 have key:Rel c { s' with mem:=dK (aB s'.mem (dB s'.mem ns)) n (some (.row true e t (xs.set i.toNat d))) } a (w.setCells g (i.toNat * t.sz+off) (a.eval x).cells.toList) μ Nm:=by
  have hbase:c.base <= g \/ c.X g:=hN1.2 g (by simp [Value.ownBlock])
  refine g1.next (s':={ s' with mem:=dK (aB s'.mem (dB s'.mem ns)) n (some (.row true e t (xs.set i.toNat d))) }) g1.size g1.defers (g1.below.trans ⟨dL.os,dL.tape,dL.output,dL.size,fun k hk hX=>dL.block k (Nat.lt_of_lt_of_le hk g1.below.size) (fun e=>by injection e with e;subst e;rcases hbase with h | h;exact absurd hk (by omega);exact hX h)⟩) (fun k hk hlt=>dL.block k hlt (fun e=>yC k hk (by injection e))) (fun k hk _=>hS k hk) (fun _ _=>rfl) (fun _ h=>h) (fun n' o' hn'=>?_) (fun n1 n2 o1 o2 q1 q2 l1 l2 hne k hk=>?_) (fun x=>.inl ⟨rfl,rfl⟩)
  ·simp only [aC] at hn'
   by_cases e:n=n'
   ·simp only [e,if_true] at hn'
    injection hn' with hn';subst hn';subst e
    refine .inr ⟨hnm,?_⟩
    simp only [aF]
    rw [hg]
    exact ⟨Kd.gP Dz (fun k hk=>hk.imp (hS k) id),fun k hk=>by simp [Value.ownBlock] at hk;subst hk;exact hbase⟩
   ·simp only [e,if_false] at hn'
    exact .inl ⟨hn',fun hl' k hk=>dL.block k (g1.aT hn' hl' hk).2.1 (fun e2=>g1.dist n n' _ o' hm1 hn' rfl hl' e g (by rw [hg];rfl) (by rw [hk];exact e2))⟩
  ·simp only [aC] at q1 q2
   have w1:∃ uZ,aB s'.mem (dB s'.mem ns) n1=some uZ /\ uZ.live=true:=by
    by_cases e:n=n1
    ·subst e;exact ⟨_,hm1,rfl⟩
    ·simp only [e,if_false] at q1;exact ⟨o1,q1,l1⟩
   have w2:∃ vB,aB s'.mem (dB s'.mem ns) n2=some vB /\ vB.live=true:=by
    by_cases e:n=n2
    ·subst e;exact ⟨_,hm1,rfl⟩
    ·simp only [e,if_false] at q2;exact ⟨o2,q2,l2⟩
   obtain ⟨uZ,w1,m1⟩:=w1
   obtain ⟨vB,w2,m2⟩:=w2
   exact g1.dist n1 n2 uZ vB w1 w2 m1 m2 hne k hk
 have g6:=key.put o.dst hd (v:=.undef) (x:=undef) (by simp only [aA])
 refine hn _ _ μ Nm ?_ (fun n hn=>.inl hn)
 rw [bL,bI]
 rw [put_mem] at g6
 exact g6
theorem sG {μ:Nat -> Value} {Nm:Nat -> Prop} {S:Nat -> Prop} {w:World} {m:Nat -> Option Obj} (hm:∀ n o,m n=some o -> aF c μ Nm S w n o) (t:Ty):∀ (ps:List (Nat×AV)) (vs:List Value) (i:Nat) (ds:List t.D) (ns:List Nat),dO m t i ps=some (ds,ns) -> VRels μ Nm S w (ps.map (·.2)) vs ->
  ps.map (·.1)=(List.range' i vs.length) /\ ds.length=vs.length /\ (∀ v∈vs,v.cells.size=t.sz) /\ ∀ (j:Nat) (d:t.D) (v:Value),ds[j]? = some d -> vs[j]? = some v -> Kd.FK t.kd w (aX μ m S ns) d v.cells.toList
 | [],[],i,ds,ns,h,_=>by
  simp only [dO] at h;injection h with h;injection h with h1 h2;subst h1;subst h2
  exact ⟨rfl,rfl,by simp,by simp⟩
 | [],_::_,_,_,_,_,hv=>by simp only [List.map_nil,VRels] at hv
 | _::_,[],_,_,_,_,hv=>by simp only [List.map_cons,VRels] at hv
 | (j,x)::ps,v::vs,i,ds,ns,h,hv=>by
  simp only [List.map_cons,VRels] at hv
  simp only [dO] at h
  split at h
  ·rename_i hij
   simp only [Bool.and_eq_true] at hij
   have hdef:=hij.2
   have hij:=Nat.eq_of_beq_eq_true hij.1
   subst hij
   split at h
   ·rename_i d jJ hp
    split at h
    ·rename_i ds' pR hr
     injection h with h;injection h with h1 h2;subst h1;subst h2
     obtain ⟨g1,g2,g3,g4⟩:=sG hm t ps vs (i+1) ds' pR hr hv.2
     obtain ⟨v0,v1,Hz,hf,hv1⟩:=cO hm t _ _ _ _ _ hp (fP hdef hv.1)
     have Ia:v1=[]:=by
      cases v1 with
      | nil=>rfl
      | cons _ _=>simp only [VRels] at hv1
     subst Ia
     rw [List.append_nil] at Hz
     refine ⟨by simp [g1,List.range'],by simp [g2],?_,?_⟩
     ·intro u hu
      rcases List.mem_cons.1 hu with rfl | hu
      ·rw [<- aW,<- t.kd.len hf,<- Hz];simp
      ·exact g3 u hu
     ·intro q d' v' hd' hv'
      cases q with
      | zero =>
       simp only [List.getElem?_cons_zero,Option.some.injEq] at hd' hv'
       subst hd';subst hv'
       rw [Hz]
       exact Kd.aV hf (fun k hk=>eU hk)
      | succ q =>
       simp only [List.getElem?_cons_succ] at hd' hv'
       exact Kd.aV (g4 q d' v' hd' hv') (fun k hk=>fE hk)
    ·cases h
   ·cases h
  ·cases h
theorem sH {m:Nat -> Option Obj} (t:Ty):∀ (ps:List (Nat×AV)) (i:Nat) (ds:List t.D) (ns:List Nat),dO m t i ps=some (ds,ns) -> ∀ n∈ns,∃ f e' t' ys,m n=some (.row f e' t' ys)
 | [],i,ds,ns,h=>by simp only [dO] at h;injection h with h;injection h with h1 h2;subst h2;simp
 | (j,x)::ps,i,ds,ns,h=>by
  simp only [dO] at h
  split at h
  ·split at h
   ·rename_i d jJ hp
    split at h
    ·rename_i ds' pR hr
     injection h with h;injection h with h1 h2;subst h2
     intro n hn
     rcases List.mem_append.1 hn with hn | hn
     ·exact gY t _ _ _ _ hp n hn
     ·exact sH t ps (i+1) ds' pR hr n hn
    ·cases h
   ·cases h
  ·cases h
theorem nZ {m m':Nat -> Option Obj} (t:Ty):∀ (ps:List (Nat×AV)) (i:Nat) (ds:List t.D) (ns:List Nat),dO m t i ps=some (ds,ns) -> (∀ n∈ns,m' n=m n) -> dO m' t i ps=some (ds,ns)
 | [],i,ds,ns,h,_=>h
 | (j,x)::ps,i,ds,ns,h,hm=>by
  simp only [dO] at h ⊢
  split at h
  ·rename_i hij
   split at h
   ·rename_i d jJ hp
    split at h
    ·rename_i ds' pR hr
     injection h with h;injection h with h1 h2;subst h1;subst h2
     rw [dU t _ _ _ _ hp (fun n hn=>hm n (List.mem_append_left _ hn))]
     simp only
     rw [nZ t ps (i+1) ds' pR hr (fun n hn=>hm n (List.mem_append_right _ hn))]
    ·cases h
   ·cases h
  ·cases h
theorem kY (s:St):∀ l:List (Nat×Operand),(bK s l).map (·.1)=l.map (·.1)
 | []=>rfl
 | (i,x)::r=>by simp [bK,kY s r]
theorem kZ {s:St} {a:Act} {w:World} {μ:Nat -> Value} {Nm:Nat -> Prop} (hr:Rel c s a w μ Nm):∀ l:List (Nat×Operand),VRels μ Nm (aD c μ s.mem) w ((bK s l).map (·.2)) (l.map fun p=>a.eval p.2)
 | []=>by simp [bK,VRels]
 | (i,x)::r=>by simp only [bK,List.map_cons,VRels];exact ⟨hr.op x,kZ hr r⟩
theorem iN {s s':St}:∀ {l:List (Nat×Operand)},(∀ p∈l,s'.op p.2=s.op p.2) -> bK s' l=bK s l
 | [],_=>rfl
 | (i,x)::r,h=>by
  simp only [bK]
  rw [h (i,x) List.mem_cons_self,iN (fun p hp=>h p (List.mem_cons_of_mem _ hp))]
theorem sI:∀ (l:List (Nat×Operand)) (a:Act) (i:Nat),l.map (·.1)=List.range' i l.length -> (l.map fun p=>(p.1,a.eval p.2))=(((l.map fun p=>a.eval p.2).zipIdx i).map fun x=>(x.2,x.1))
 | [],_,_,_=>rfl
 | (j,x)::r,a,i,h=>by
  simp only [List.map_cons,List.length_cons,List.range'_succ,List.cons.injEq] at h
  obtain ⟨rfl,h⟩:=h
  simp only [List.map_cons,List.zipIdx_cons,List.cons.injEq,true_and]
  exact sI r a (j+1) h
theorem lY {α:Type}:∀ l:List α,kK l=l.length
 | []=>rfl
 | _::r=>by simp [kK,lY r]
theorem rG (hE:aH P E) {T e:TypeId} {t:Ty} {n:Nat} {ps:Array (Nat×Operand)} {xs:List t.D} {ns:List Nat} {d:Tmp} (ho:o.op=.buildSlice T n ps) (hdst:o.dst=some d) (hT:E.elem T=some e) (ht:E.ty e=some t) (hel:dO s.mem t 0 (bK s ps.toList)=some (xs,ns)) (hn:n=xs.length) (hsm:n * t.sz <= 16777216) :
  aJ P c o s b ⟨.own b,dB s.mem ns++[(b,some (.row true e t xs))],b::ns⟩:=by
 intro s' a w μ Nm next Q hag hr hf hd hnx
 rw [eY hag (ns:=ns) (fun n hn=>by simp [hn])] at hnx
 have Co:bK s' ps.toList=bK s ps.toList:=iN (fun p hp=>hag.ops p.2 (by simp [Op.operands,ho];exact ⟨p.1,by simpa using hp⟩))
 have Ib:=nZ (m':=s'.mem) t _ _ _ _ hel (fun n hn=>hag.mem n (by simp [hn]))
 rw [<- Co] at Ib
 obtain ⟨q1,q2,q3,q4⟩:=sG hr.objs t _ _ 0 xs ns Ib (kZ hr ps.toList)
 rw [kY] at q1
 obtain ⟨g1,g2,g3,g4,g5⟩:=Rel.nC ns (jP.refl s'.mem) hr
 have hS:∀ k,aX μ s'.mem (aD c μ s'.mem) ns k -> aD c μ (aB s'.mem (dB s'.mem ns)) k:=by
  intro k hk
  rcases hk with hk | ⟨n,hn',hl,hk⟩
  ·exact g2 k hk
  ·exact g3 n hn' (sH t _ _ _ _ Ib n hn') hl k hk
 have hTy:=hE.ty e t ht
 obtain ⟨ie,z,hie,hsz,_,hz,hzc⟩:=hTy.info
 have hlen:(ps.toList.map fun p=>a.eval p.2).length=n:=by rw [<- q2,hn]
 have hpl:ps.toList.length=n:=by simpa using hlen
 have hpos:=hTy.pos
 have hrun:(execOp a.eval o).run P w=.ok (.value (.slice (some ⟨w.heap.size,0,none⟩) xs.length xs.length)) (w.alloc (.cells (((ps.toList.map fun p=>a.eval p.2).flatMap fun v=>v.cells.toList).toArray) e)):=by
  simp only [execOp,ho]
  refine aR ?_
  rw [<- hn]
  have hparts:(ps.map fun (i,x)=>(i,a.eval x)).toList=(((ps.toList.map fun p=>a.eval p.2).zipIdx 0).map fun x=>(x.2,x.1)):=by
   rw [Array.toList_map]
   exact sI ps.toList a 0 (by rw [q1,hlen,hpl])
  by_cases h0:n=0
  ·have hemp:ps.toList=[]:=List.eq_nil_of_length_eq_zero (by rw [hpl,h0])
   have hpe:ps=#[]:=by cases ps;simpa using hemp
   subst h0
   subst hpe
   simp [Instr.buildSlice,run_underlying (hE.elem T e hT),sizeOf,typeInfo,hie,Instr.fill,newRow,newObj,Sem.run,Result.andThen]
   congr 2
   exact Array.eq_empty_of_size_eq_zero (by simp)
  ·refine run_buildSlice w T e n _ _ ie z (hE.elem T e hT) hie hz (by rw [hsz];omega) (by rw [hsz];exact Nat.mul_ne_zero h0 (by omega)) ?_
   rw [hparts,hsz]
   exact Great.fill_whole hpos _ _ q3 (by rw [hlen];simp)
 have hrep:aS (Kd.FK t.kd w (fun k=>aD c μ (aB s'.mem (dB s'.mem ns)) k /\ k<w.heap.size)) t.kd.sz xs ((ps.toList.map fun p=>a.eval p.2).flatMap fun v=>v.cells.toList):=by
  generalize (ps.toList.map fun p=>a.eval p.2)=vs at q2 q3 q4
  exact rR xs vs q2 (fun v hv=>by rw [aW];have:=q3 v hv;simpa using this) (fun j x v hj hv=>Kd.aV (Kd.jF (q4 j x v hj hv)) (fun k hk=>⟨hS k hk.1,hk.2⟩))
 refine Kd.Gf (d:=t.kd) (base:=0) (qX:=fun k=>aD c μ (aB s'.mem (dB s'.mem ns)) k /\ k<w.heap.size) (ok:=fun k=>(aD c μ (aB s'.mem (dB s'.mem ns)) k /\ k<w.heap.size) \/ w.heap.size <= k) hrun hrep (fun k hk=>.inl hk) (.inr (Nat.le_refl _)) (Nat.zero_le _) (by
  have:xs.length <= n * t.sz:=by rw [<- hn];exact Nat.le_mul_of_pos_right _ hpos
  omega) (fun v1 w1 hN hg hat=>?_)
 refine uV (s':={ s' with mem:=aB s'.mem (dB s'.mem ns) }) (nm:=b::ns) g1 hf hd hN hg hat (fun a' w' μ' Nm' h1 h2=>hnx a' w' μ' Nm' ?_ h2)
 rw [bL] at h1 ⊢
 rw [put_mem] at h1
 rw [bI]
 exact h1
theorem rH (hE:aH P E) {T U:TypeId} {p x:Operand} {n off c':Nat} {j:Int} {cs cs':List AV} (ho:o.op=.store T p x) (hp:s.op p=.dyn (.ptr n off) c' j) (hm:s.mem n=some (.box U cs)) (hs:mR E T cs off c' j (s.op x)=some cs') :
  aJ P c o s b ⟨.undef,[(n,some (.box U cs'))],[n]⟩:=by
 intro s' a w μ Nm next Q hag hr hf hd hn
 obtain ⟨h0,hj⟩:=gB hr (by rw [hag.ops p (by simp [Op.operands,ho]),hp])
 obtain ⟨h1,⟨u,hT,hu⟩,h3,h4,h5,h6⟩:=sF hs h0 hj
 subst h1
 refine lW (b:=b) (off:=off+j.toNat) hE ho (fun h=>?_) hm hT (by rw [h3,hu]) (by rw [hu];exact h6) h4 s' a w μ Nm next Q hag hr hf hd (by rw [hu];exact hn)
 rw [hp] at h;simp only [aA] at h ⊢;exact h.2
theorem rJ (hE:aH P E) {T e:TypeId} {p x:Operand} {n z off c':Nat} {i j:Int} {t:Ty} {xs:List t.D} {d:t.D} {cs':List AV} {ns:List Nat} (ho:o.op=.store T p x) (hp:s.op p=.dyn (.kJ n z i off) c' j) (hm:s.mem n=some (.row true e t xs)) (hz:z=t.sz)
  (hs:mR E T (unpack t (xs.getD i.toNat t.z)) off c' j (s.op x)=some cs') (hpk:pack s.mem t cs'=some (d,[],ns)) (hns:lM n ns=false) :
  aJ P c o s b ⟨.undef,dB s.mem ns++[(n,some (.row true e t (xs.set i.toNat d)))],n::ns⟩:=by
 intro s' a w μ Nm next Q hag hr hf hd hn
 obtain ⟨h0,hj⟩:=gB hr (by rw [hag.ops p (by simp [Op.operands,ho]),hp])
 obtain ⟨h1,⟨u,hT,hu⟩,h3,h4,h5,h6⟩:=sF hs h0 hj
 subst h1
 rw [kW] at h6
 refine lX (b:=b) (off:=off+j.toNat) hE ho (fun h=>?_) hm hT hz (by rw [h3,hu]) (by rw [hu];exact h6) h5 (by rw [hu];exact hpk) hns s' a w μ Nm next Q hag hr hf hd hn
 rw [hp] at h;simp only [aA] at h ⊢;exact h.2
end
end Go.Proofs.YtmmagcjlfcicfaaGreat.Ab
set_option linter.unusedVariables false
set_option linter.unusedSimpArgs false
namespace Go.Proofs.YtmmagcjlfcicfaaGreat.Ab
open Go.RowKit
section
variable {P:Program} {E:Env} {c:Ctx} {o:Oper} {s:St} {b:Nat} {R:Type} {κ:Eff -> Option R} {r:R}
theorem yD (off:Nat) (v:Array Value) (cs:Array Value) (hle:off+v.size <= cs.size):(v.zipIdx.foldl (fun cs (x:Value×Nat)=>cs.setIfInBounds (off+x.2) x.1) cs).toList=cs.toList.take off++v.toList++cs.toList.drop (off+v.size):=by
 have e:v.zipIdx.foldl (fun cs (x:Value×Nat)=>cs.setIfInBounds (off+x.2) x.1) cs=(v.toList.zipIdx 0).foldl (fun cs (x:Value×Nat)=>cs.setIfInBounds (off+x.2) x.1) cs:=by
  rw [<- Array.foldl_toList];simp
 rw [e]
 obtain ⟨g1,g2⟩:=Great.foldl_set off v.toList 0 cs
 apply List.ext_getElem?
 intro k
 rw [Array.getElem?_toList,g2 k]
 simp only [Nat.add_zero,Array.length_toList]
 by_cases h1:k<off
 ·rw [if_neg (by omega),List.append_assoc,List.getElem?_append_left (by simp;omega),List.getElem?_take,if_pos h1,Array.getElem?_toList]
 ·by_cases h2:k<off+v.size
  ·rw [if_pos (by omega),List.append_assoc,List.getElem?_append_right (by simp;omega),List.getElem?_append_left (by simp;omega)]
   simp
   congr 1
   omega
  ·rw [if_neg (by omega),List.getElem?_append_right (by simp;omega)]
   simp
   congr 1
   omega
theorem qA (hE:aH P E) {μ:Nat -> Value} {Nm S:Nat -> Prop} {w:World} {T:TypeId} {place:Nat -> Option (Nat×Nat)} (hpl:∀ i off u,uE E T i=some (off,u) -> place i=some (off,u.sz)):∀ (ps:List (Nat×AV)) (vs:List (Nat×Value)) (cs cs':List AV) (cells:Array Value),
  nN E T cs ps=some cs' -> ps.map (·.1)=vs.map (·.1) -> VRels μ Nm S w (ps.map (·.2)) (vs.map (·.2)) -> VRels μ Nm S w cs cells.toList -> ∃ cells',Instr.fill place cells vs=some cells' /\ VRels μ Nm S w cs' cells'.toList
 | [],[],cs,cs',cells,h,_,_,hc=>by
  simp only [nN] at h;injection h with h;subst h
  exact ⟨cells,rfl,hc⟩
 | [],_::_,_,_,_,_,h,_,_=>by simp at h
 | _::_,[],_,_,_,_,h,_,_=>by simp at h
 | (i,x)::ps,(j,v)::vs,cs,cs',cells,h,hij,hv,hc=>by
  simp only [List.map_cons,List.cons.injEq] at hij
  obtain ⟨rfl,hij⟩:=hij
  simp only [List.map_cons,VRels] at hv
  simp only [nN] at h
  split at h
  ·rename_i off u hp
   split at h
   ·rename_i hb
    simp only [Bool.and_eq_true] at hb
    obtain ⟨⟨hb1,hb2⟩,hdef⟩:=hb
    have hb1:=Nat.eq_of_beq_eq_true hb1
    have hb2:=Nat.le_of_ble_eq_true hb2
    rw [dP] at hb1 hb2
    rw [dP] at hb2
    have hx:=fP hdef hv.1
    have hxl:=bY hx
    have hcl:=bY hc
    rw [bU,bV,dP] at h
    simp only [Array.length_toList] at hxl hcl
    have hfit:off+v.cells.size <= cells.size:=by omega
    obtain ⟨cells',g1,g2⟩:=qA hE hpl ps vs _ cs' (v.cells.zipIdx.foldl (fun cs (x:Value×Nat)=>cs.setIfInBounds (off+x.2) x.1) cells) h hij hv.2 (by
     rw [yD off v.cells cells hfit,<- hxl]
     exact aP (aP (dR _ hc) hx) (dS _ hc))
    refine ⟨cells',?_,g2⟩
    unfold Instr.fill
    rw [hpl i off u hp]
    simp only
    rw [if_neg (by simp;omega)]
    exact g1
   ·cases h
  ·cases h
theorem sJ (hE:aH P E) {T:TypeId} {t:Ty} {ps:Array (Nat×Operand)} {cs:List AV} (ho:o.op=.build T ps) (ht:E.ty T=some t) (hA:E.agg T=true) (hfl:nN E T (eO t) (bK s ps.toList)=some cs) {s':St} {a:Act} {w:World} {μ:Nat -> Value} {Nm:Nat -> Prop} (hag:Agree o s s' []) (hr:Rel c s' a w μ Nm):∃ x,(execOp a.eval o).run P w=.ok (.value x) w /\ aA μ Nm (aD c μ s'.mem) w (.agg cs) x:=by
 have Co:bK s' ps.toList=bK s ps.toList:=iN (fun p hp=>hag.ops p.2 (by simp [Op.operands,ho];exact ⟨p.1,by simpa using hp⟩))
 rw [<- Co] at hfl
 have hTy:=hE.ty T t ht
 obtain ⟨ie,z,hie,hsz,_,hz,hzc⟩:=hTy.info
 have hparts:(ps.map fun (i,x)=>(i,a.eval x)).toList=ps.toList.map fun p=>(p.1,a.eval p.2):=by rw [Array.toList_map]
 have hf1:(bK s' ps.toList).map (·.1)=(ps.toList.map fun p=>(p.1,a.eval p.2)).map (·.1):=by rw [kY];simp
 have hf2:VRels μ Nm (aD c μ s'.mem) w ((bK s' ps.toList).map (·.2)) ((ps.toList.map fun p=>(p.1,a.eval p.2)).map (·.2)):=by
  have:=kZ hr ps.toList
  simpa [Function.comp_def] using this
 have hz0:VRels μ Nm (aD c μ s'.mem) w (eO t) z.cells.toList:=by rw [hzc];exact jO t
 cases hr':E.arr T with
 | none =>
  obtain ⟨fs,pl,hu,hpl,Ic⟩:=hE.build T t ht hA hr'
  obtain ⟨cells',g1,g2⟩:=qA hE (T:=T) (place:=(pl[·]?)) (fun i off u hp=>by
   unfold uE at hp
   rw [hr'] at hp
   simp only at hp
   split at hp
   ·rename_i off' U hf
    split at hp
    ·rename_i u' hu'
     injection hp with hp;injection hp with h1 h2;subst h1;subst h2
     exact Ic i off' U u' hf hu'
    ·cases hp
   ·cases hp) _ _ _ _ _ hfl hf1 hf2 hz0
  refine ⟨.agg cells',?_,by simp only [aA];exact ⟨cells',rfl,g2⟩⟩
  simp only [execOp,ho]
  refine aR ?_
  unfold Instr.build
  rw [hparts]
  simp only [Sem.run_bind,zeroValue,typeInfo,program,Sem.run,hie,hz,Sem.run_pure,Result.andThen_ok,run_underlying hu,hpl,g1]
 | some nu =>
  obtain ⟨n,U⟩:=nu
  obtain ⟨u,hU⟩:=hE.Am T n U hr'
  obtain ⟨cells',g1,g2⟩:=qA hE (T:=T) (place:=fun i=>some (i * u.sz,u.sz)) (fun i off u' hp=>by
   unfold uE at hp
   rw [hr'] at hp
   simp only [hU] at hp
   split at hp
   ·rename_i u2 h1 h2
    injection h1 with h1;subst h1
    injection hp with hp;injection hp with h3 h4;subst h3;subst h4;rfl
   ·cases hp) _ _ _ _ _ hfl hf1 hf2 hz0
  refine ⟨.agg cells',?_,by simp only [aA];exact ⟨cells',rfl,g2⟩⟩
  simp only [execOp,ho]
  refine aR ?_
  unfold Instr.build
  rw [hparts]
  simp only [Sem.run_bind,zeroValue,typeInfo,program,Sem.run,hie,hz,Sem.run_pure,Result.andThen_ok,run_underlying (hE.arr T n U hr'),aQ (hE.ty U u hU) w,g1]
theorem Cq (hE:aH P E) {T:TypeId} {t:Ty} {ps:Array (Nat×Operand)} {cs:List AV} (ho:o.op=.build T ps) (ht:E.ty T=some t) (hA:E.agg T=true) (hfl:nN E T (eO t) (bK s ps.toList)=some cs):aJ P c o s b ⟨.agg cs,[],[]⟩:=aJ.pure fun s' a w μ Nm hag hr=>sJ hE ho ht hA hfl hag hr
theorem Eu (hE:aH P E) {T:TypeId} {t:Ty} {ps:Array (Nat×Operand)} {cs:List AV} (ho:o.op=.build T ps) (ht:E.ty T=some t) (hA:E.agg T=true) (hfl:nN E T (eO t) (bK s ps.toList)=some cs) {ts:List (Option (TypeId×Ty))} {cs':List AV} {us:List (Nat×Option Obj)} {b':Nat} (hz:bF ts cs b=(cs',us,b')) (hb':b' <= b+64):aJ P c o s b ⟨.agg cs',us,aN us⟩:=by
 intro s' a w μ Nm next Q hag hr hf hd hn
 obtain ⟨x,hrun,hx⟩:=sJ hE ho ht hA hfl ⟨hag.ops,hag.n,fun n hn=>by cases hn⟩ hr
 simp only [aA] at hx
 obtain ⟨vs,rfl,hvs⟩:=hx
 have h:=iA (c:=c) ts cs vs.toList b hr hvs (fun n h1 h2=>hf n h1 (by rw [hz] at h2;simp only at h2;omega))
 rw [hz] at h
 obtain ⟨μ1,Hu,g1,g2,g3,g4,g5,g6⟩:=h
 refine dM hrun ?_
 have h7:=g1.put o.dst hd (v:=.agg cs') (x:=.agg vs) (by simp only [aA];exact ⟨vs,rfl,g2⟩)
 refine hn _ _ μ1 Hu ?_ (fun n h=>(g3 n h).imp id (fun e=>by simp only at e;omega))
 cases hdst:o.dst with
 | none=>rw [hdst] at h7;exact h7
 | some d=>rw [hdst] at h7;exact h7
end
end Go.Proofs.YtmmagcjlfcicfaaGreat.Ab
