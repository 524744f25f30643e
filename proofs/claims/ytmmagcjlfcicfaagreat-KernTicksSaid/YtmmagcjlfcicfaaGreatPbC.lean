import Derived.Test.YtmmagcjlfcicfaaGreatPbEnv
import Derived.Test.YtmmagcjlfcicfaaGreatPbB
import Derived.Test.YtmmagcjlfcicfaaGreatRows
import Derived.WalkKit
import Derived.ProofKit
import Derived.OpenShut
import Derived.ShutString
import Derived.ChangeOld
import Derived.Below
import Derived.SizedLaws
/- The evaluator. -/
set_option linter.unusedVariables false
set_option linter.unusedSimpArgs false
namespace Go.Proofs.YtmmagcjlfcicfaaGreat.Ab
open Go.RowKit
section
variable {R α:Type}
def ix (xs:List α) (j:Int) (x:Option R):Option R:=if (decide (0 <= j)&&decide (j<(xs.length:Int)))=true then x else none
def sx (xs:List α) (l h:Int) (x:Option R):Option R:=if (decide (0 <= l)&&(decide (l <= h)&&decide (h <= (xs.length:Int))))=true then x else none
def mk (n m:Int) (z:Nat) (x:Option R):Option R:=if n=m then (if (decide (0 <= n)&&Nat.ble (n.toNat * z) 281474976710656)=true then x else none) else none
def ap (xs ys:List α) (z:Nat) (f:List α -> Option R):Option R:=if (xs.length+ys.length) * z <= 140737488355328 then f (xs++ys) else none
def az (xs:List α) (n:Int) (z:Nat) (x:α) (f:List α -> Option R):Option R:=if (decide (0 <= n)&&decide ((xs.length+n.toNat) * z <= 140737488355328))=true then f (xs++List.replicate n.toNat x) else none
def nz (b:Int) (x:Option R):Option R:=if b=0 then none else x
def Tk (b:Int) (x:Option R):Option R:=if b<0 then none else x
def rd (xs:List α) (j:Int) (z:α):α:=xs.getD j.toNat z
def upd (xs:List α) (j:Int) (x:α):List α:=xs.set j.toNat x
def sub (xs:List α) (l h:Int):List α:=(xs.take h.toNat).drop l.toNat
def Ue (xs:List α) (l h:Int) (z:α):List α:=xs.take l.toNat++List.replicate (h.toNat - l.toNat) z++xs.drop h.toNat
def mn (x y:Int):Int:=if y<x then y else x
def mx (x y:Int):Int:=if x<y then y else x
def Tm (k:IntKind) (a b:Int):Int:=k.wrap (a * 2 ^ (min b.toNat k.bits))
def Tn (k:IntKind) (a b:Int):Int:=a.fdiv (2 ^ (min b.toNat k.bits))
def Tp (k:IntKind) (a b:Int):Int:=k.wrap (BitVec.ofInt k.bits a &&& BitVec.ofInt k.bits b).toNat
def Uf (k:IntKind) (a b:Int):Int:=k.wrap (BitVec.ofInt k.bits a ||| BitVec.ofInt k.bits b).toNat
def Tq (k:IntKind) (a b:Int):Int:=k.wrap (BitVec.ofInt k.bits a ^^^ BitVec.ofInt k.bits b).toNat
def Qz (k:IntKind) (a b:Int):Int:=k.wrap (BitVec.ofInt k.bits a &&& ~~~(BitVec.ofInt k.bits b)).toNat
def Tt (k:IntKind) (n:Int):Int:=k.wrap (BitVec.ofInt k.bits (if k.signed then -1 else k.max) ^^^ BitVec.ofInt k.bits n).toNat
def ax (n:Nat) (j:Int) (x:Option R):Option R:=if (decide (0 <= j)&&decide (j<(n:Int)))=true then x else none
@[reducible] def Am:Nat -> Ty -> Ty
 | 0,_=>.unit
 | 1,t=>t
 | n+2,t=>.pair t (Am (n+1) t)
@[reducible] def PN (α:Type):Nat -> Type
 | 0=>Unit
 | 1=>α
 | n+2=>α×PN α (n+1)
def Gr:(n:Nat) -> PN α n -> List α
 | 0,_=>[]
 | 1,x=>[x]
 | n+2,x=>x.1::Gr (n+1) x.2
def Pv:(n:Nat) -> α -> PN α n
 | 0,_=>()
 | 1,x=>x
 | n+2,x=>(x,Pv (n+1) x)
def Tv (n:Nat) (x:PN α n) (j:Int) (z:α):α:=(Gr n x).getD j.toNat z
def Gs:(n:Nat) -> Nat -> PN α n -> Int -> α -> PN α n
 | 0,_,x,_,_=>x
 | 1,i,x,j,v=>if j=(i:Int) then v else x
 | n+2,i,x,j,v=>(if j=(i:Int) then v else x.1,Gs (n+1) (i+1) x.2 j v)
def Tw (n:Nat) (x:PN α n) (j:Int) (v:α):PN α n:=Gs n 0 x j v
def Tx (tk tv:Ty) (d:tk.D) (es:List (tk.D×tv.D)) (z:tv.D):tv.D:=match jB tk tv d es with | some v=>v | none=>z
def Tz (tk tv:Ty) (d:tk.D) (es:List (tk.D×tv.D)):Bool:=!isNone (jB tk tv d es)
def Ra (l:List (Nat×Nat)) (d:Nat):Nat:=match lk l d with | some h=>h | none=>0
end
end Go.Proofs.YtmmagcjlfcicfaaGreat.Ab
set_option linter.unusedVariables false
set_option linter.unusedSimpArgs false
namespace Go.Proofs.YtmmagcjlfcicfaaGreat.Ab
open Go.ChangeShapes Go.WideShapes Go.ChangeAt Go.RowKit
section
variable {P:Program} {f:FuncId}
theorem xC:∀ (ps:List PT),aG ps=0 -> (∀ p∈ps,∃ v,p=.val v) -> ∀ (x:AD ps) (j b:Nat),(inP ps x j b).2=([],b)
 | [],_,_,_,_,_=>rfl
 | .val v::ps,h,hp,x,j,b=>by
  have:=xC ps (by simpa [aG] using h) (fun p hm=>hp p (List.mem_cons_of_mem _ hm)) x.2 j b
  simp only [inP]
  generalize inP ps x.2 j b=q at this ⊢
  obtain ⟨q1,q2,q3⟩:=q
  simp only [Prod.mk.injEq] at this ⊢
  exact this
 | .pv p::ps,_,hp,_,_,_=>by obtain ⟨v,h⟩:=hp _ List.mem_cons_self;cases h
 | .gv p::ps,_,hp,_,_,_=>by obtain ⟨v,h⟩:=hp _ List.mem_cons_self;cases h
 | .fK _ _::ps,_,hp,_,_,_=>by obtain ⟨v,h⟩:=hp _ List.mem_cons_self;cases h
 | .fT _ _::ps,_,hp,_,_,_=>by obtain ⟨v,h⟩:=hp _ List.mem_cons_self;cases h
 | .give _ _::ps,_,hp,_,_,_=>by obtain ⟨v,h⟩:=hp _ List.mem_cons_self;cases h
theorem true_walk {ps:List PT} {o:Bool} {sem:Nat -> AD ps -> Option (RD [.val ⟨false,.bool,o⟩]×MD ps)} (hok:uP P f ⟨ps,[.val ⟨false,.bool,o⟩],sem⟩) (h0:aG ps=0) (hp:∀ p∈ps,∃ v,p=.val v)
  {k:Nat} {x:AD ps} {m:MD ps} (hx:sem k x=some ((true,()),m)) {W:World} {args:List Value}
  (hv:VRels (fun _=>undef) (fun _=>False) (fun _=>True) W (inP ps x 0 0).1 args) :
  Calls P f args.toArray W fun e w'=>e=.returned (.bool true) /\ Below W.heap.size W w':=by
 have hin:=xC ps h0 hp x 0 0
 let c:Ctx:={ Hq:=fun _=>True,X:=fun _=>False,w0:=W,np:=0,pQ:=fun _=>undef }
 have hst:∀ k,True -> aD c (fun _=>undef) (fun _=>none) k:=fun k _=>⟨by
  by_cases h:k<W.heap.size
  ·exact .inl ⟨trivial,h⟩
  ·exact .inr (.inl (Nat.le_of_not_lt h)),fun n o hn=>by cases hn⟩
 have hmem:(inP ps x 0 (aG ps)).2.1=[]:=by rw [h0,hin]
 refine (hok.calls k x _ hx c args (fun _=>undef) (fun _=>False) ⟨h0.symm,fun j hj=>absurd hj (Nat.not_lt_zero j),fun n hn=>hn.elim,fun n o hn=>by (rw [hmem] at hn;cases hn),fun n o hn=>by (rw [hmem] at hn;cases hn),fun n n' o o' hn=>by (rw [hmem] at hn;cases hn),?_⟩).mono fun e w' h=>?_
 ·rw [hmem,h0]
  exact aZ (fun _ _ _=>rfl) (fun k hk _=>hst k hk) (fun _ _=>rfl) (fun _ h=>h) _ _ hv
 ·obtain ⟨v,he,hb,hres⟩:=h
  obtain ⟨μ,Nm,hat⟩:=hres 0 (fun _=>0) (fun j hj=>absurd hj (Nat.not_lt_zero j)) (fun i j hi=>absurd hi (Nat.not_lt_zero i))
  have h1:=hat.val
  simp only [bR,bN,bQ,oJ,rC,aA] at h1
  rw [h1] at he
  exact ⟨he,hb.none⟩
end
end Go.Proofs.YtmmagcjlfcicfaaGreat.Ab
set_option linter.unusedVariables false
set_option linter.unusedSimpArgs false
namespace Go.Proofs.YtmmagcjlfcicfaaGreat.Ab
open Go.ChangeShapes Go.WideShapes Go.ChangeAt Go.RowKit
def Ty.fine:(t:Ty) -> t.D -> Prop
 | .unit,_=>True
 | .int k,n=>(Lit.int k n).wf=true
 | .bool,_=>True
 | .str,_=>True
 | .sl _ t,xs=>xs.length <= maxLen /\ ∀ x∈xs,t.fine x
 | .pair a b,p=>a.fine p.1 /\ b.fine p.2
def Dp (P:Program) (rP:TypeId -> Ty -> Bool):List Field -> Nat -> Ty -> Bool
 | [],_,_=>false
 | f::r,off,t=>match r with
  | []=>Nat.beq f.offset off&&(Nat.beq (P.cellsOf f.type) t.sz&&rP f.type t)
  | _::_=>(match t with
   | .pair a b=>(Nat.beq f.offset off&&(Nat.beq (P.cellsOf f.type) a.sz&&rP f.type a))&&Dp P rP r (off+a.sz) b
   | _=>false)
def Dq (rP:Ty -> Bool) (z:Nat):Nat -> Ty -> Bool
 | 0,_=>false
 | n+1,t=>match n with
  | 0=>Nat.beq z t.sz&&rP t
  | _+1=>(match t with
   | .pair a b=>(Nat.beq z a.sz&&rP a)&&Dq rP z n b
   | _=>false)
def qU (P:Program):Nat -> TypeId -> Ty -> Bool
 | 0,_,_=>false
 | d+1,T,t=>match P.underlying T with
  | some (.int k)=>(match t with | .int k'=>oW k k' | _=>false)
  | some .bool=>(match t with | .bool=>true | _=>false)
  | some (.slice e)=>(match t with | .sl e' u=>Nat.beq e e'&&(Nat.beq (P.cellsOf e) u.sz&&qU P d e u) | _=>false)
  | some (.struct fs)=>Nat.beq (P.cellsOf T) t.sz&&Dp P (qU P d) fs.toList 0 t
  | some (.array n e)=>Nat.beq (P.cellsOf T) t.sz&&Dq (qU P d e) (P.cellsOf e) n t
  | _=>false
section
variable {H:Type} {enc:TypeId×Value -> H} {P:Program} {W:World} {base:Nat} {sp:Nat -> Bool} {held:Bool}
def Fz (W:World) (t:Ty) (cs:List Value):Prop:=∃ x:t.D,t.fine x /\ t.kd.FK W (fun _=>True) x cs
theorem xD {a b:Ty} {cs:List Value} {off:Nat} (h1:Fz W a ((cs.drop off).take a.sz)) (h2:Fz W b ((cs.drop (off+a.sz)).take b.sz)):Fz W (.pair a b) ((cs.drop off).take (Ty.pair a b).sz):=by
 obtain ⟨x,hx,kx⟩:=h1
 obtain ⟨y,hy,ky⟩:=h2
 refine ⟨(x,y),⟨hx,hy⟩,_,_,?_,kx,ky⟩
 simp only [Ty.sz]
 rw [List.take_add,List.drop_drop]
theorem Af {rP:TypeId -> Ty -> Bool} {n:Nat} {cs:List Value} (ih:∀ T t,rP T t=true -> ∀ cs y,DataW.trod enc P W base sp held n T cs=some y -> Fz W t cs):∀ (fs:List Field) (off:Nat) (t:Ty),Dp P rP fs off t=true ->
  (∀ f∈fs,∃ y,DataW.trod enc P W base sp held n f.type ((cs.drop f.offset).take (P.cellsOf f.type))=some y) -> Fz W t ((cs.drop off).take t.sz)
 | [],off,t,h,_=>by cases h
 | [f],off,t,h,hf=>by
  simp only [Dp,Bool.and_eq_true] at h
  obtain ⟨h1,h2,h3⟩:=h
  obtain ⟨y,hy⟩:=hf f List.mem_cons_self
  rw [Nat.eq_of_beq_eq_true h1,Nat.eq_of_beq_eq_true h2] at hy
  exact ih _ _ h3 _ _ hy
 | f::g::fs,off,t,h,hf=>by
  cases t with
  | pair a b =>
   simp only [Dp] at h
   rw [Bool.and_eq_true,Bool.and_eq_true,Bool.and_eq_true] at h
   obtain ⟨⟨h1,h2,h3⟩,h4⟩:=h
   obtain ⟨y,hy⟩:=hf f List.mem_cons_self
   rw [Nat.eq_of_beq_eq_true h1,Nat.eq_of_beq_eq_true h2] at hy
   exact xD (ih _ _ h3 _ _ hy) (Af ih (g::fs) (off+a.sz) b h4 (fun f' hf'=>hf f' (List.mem_cons_of_mem _ hf')))
  | _=>cases h
theorem Ag {rP:Ty -> Bool} {n z:Nat} {e:TypeId} {cs:List Value} (ih:∀ t,rP t=true -> ∀ cs y,DataW.trod enc P W base sp held n e cs=some y -> Fz W t cs):∀ (m i:Nat) (t:Ty),Dq rP z m t=true ->
  (∀ j,i <= j -> j<i+m -> ∃ y,DataW.trod enc P W base sp held n e ((cs.drop (j * z)).take z)=some y) -> Fz W t ((cs.drop (i * z)).take t.sz)
 | 0,i,t,h,_=>by cases h
 | 1,i,t,h,hf=>by
  simp only [Dq,Bool.and_eq_true] at h
  obtain ⟨h1,h2⟩:=h
  obtain ⟨y,hy⟩:=hf i (Nat.le_refl _) (by omega)
  rw [<- Nat.eq_of_beq_eq_true h1]
  exact ih _ h2 _ _ hy
 | m+2,i,t,h,hf=>by
  cases t with
  | pair a b =>
   simp only [Dq] at h
   rw [Bool.and_eq_true,Bool.and_eq_true] at h
   obtain ⟨⟨h1,h2⟩,h3⟩:=h
   have h1:=Nat.eq_of_beq_eq_true h1
   obtain ⟨y,hy⟩:=hf i (Nat.le_refl _) (by omega)
   have r:=Ag ih (m+1) (i+1) b h3 (fun j hj hj2=>hf j (by omega) (by omega))
   refine xD (by rw [<- h1];exact ih _ h2 _ _ hy) ?_
   rw [show i * z+a.sz=(i+1) * z by rw [<- h1,Nat.add_mul,Nat.one_mul]]
   exact r
  | _=>cases h
theorem vL:∀ (d:Nat) (T:TypeId) (t:Ty),qU P d T t=true -> ∀ (fuel:Nat) (cs:List Value) (y:DataW H×List MemPlace),DataW.trod enc P W base sp held fuel T cs=some y -> Fz W t cs
 | 0,_,_,h=>by cases h
 | d+1,T,t,h=>by
  intro fuel cs y hy
  simp only [qU] at h
  split at h
  ·rename_i k hu
   split at h
   ·rename_i k'
    have:=eD h;subst this
    obtain ⟨n,rfl,_,hw⟩:=DataW.trod_int hu hy
    exact ⟨n,hw,rfl⟩
   ·cases h
  ·rename_i hu
   split at h
   ·obtain ⟨b,rfl,_⟩:=DataW.trod_bool hu hy
    exact ⟨b,trivial,rfl⟩
   ·cases h
  ·rename_i e hu
   split at h
   ·rename_i e' u
    simp only [Bool.and_eq_true] at h
    obtain ⟨h1,h2,h3⟩:=h
    have:=Nat.eq_of_beq_eq_true h1;subst this
    have hz:=Nat.eq_of_beq_eq_true h2
    rcases DataW.trod_slice hu hy with ⟨rfl,_⟩ | ⟨a,len,cap,elems,rest,n,_,rfl,_,hb,hl,hm,hlen,hel,_,_⟩
    ·exact ⟨[],⟨Nat.zero_le _,fun x hx=>by cases hx⟩,⟨none,0,rfl,Nat.le_refl _,Kd.Bj _ _ _⟩⟩
    ·have each:∀ i,i<len -> ∃ cs',W.cells? base (a.add (i * u.sz)) u.sz=some cs' /\ Fz W u cs':=fun i hi=>by
      have h4:=hel i hi
      obtain ⟨v,hv⟩:∃ v,elems[i]? = some v:=⟨_,List.getElem?_eq_getElem (by omega)⟩
      rw [hv,hz,Option.bind_eq_some_iff] at h4
      obtain ⟨cs',h5,h6⟩:=h4
      exact ⟨cs',h5,vL d e u h3 _ _ _ h6⟩
     let f:Nat -> u.D:=fun i=>if hi:i<len then Classical.choose (Classical.choose_spec (each i hi)).2 else u.z
     have hf:∀ i (hi:i<len),u.fine (f i) /\ u.kd.FK W (fun _=>True) (f i) (Classical.choose (each i hi)):=fun i hi=>by
      have:=Classical.choose_spec (Classical.choose_spec (each i hi)).2
      simp only [f,hi,dif_pos]
      exact this
     have hxl:((List.range len).map f).length=len:=by simp
     refine ⟨(List.range len).map f,⟨by rw [hxl];omega,fun x hx=>?_⟩,some a,cap,by rw [hxl],by rw [hxl];exact hl,?_⟩
     ·obtain ⟨i,hi,rfl⟩:=List.mem_map.1 hx
      exact (hf i (List.mem_range.1 hi)).1
     ·rw [hxl]
      refine ⟨hxl,by unfold maxLen at hm;omega,fun _=>⟨a,rfl,fun _=>trivial,fun j p hp=>?_⟩⟩
      have hj:j<len:=by have:=(List.getElem?_eq_some_iff.1 hp).1;simpa using this
      have hp':p=f j:=by
       rw [List.getElem?_map,List.getElem?_range hj] at hp
       simpa using hp.symm
      subst hp'
      obtain ⟨h5,h6⟩:=Classical.choose_spec (each j hj)
      obtain ⟨_,h7,h8⟩:=World.cells?_some h5
      refine ⟨Classical.choose (each j hj),(hf j hj).2,fun i v hv=>?_⟩
      have hi:i<u.sz:=by have:=(List.getElem?_eq_some_iff.1 hv).1;omega
      have h9:=h8 i hi
      rw [hv,zC] at h9
      rw [aW]
      exact h9
   ·cases h
  ·rename_i fs hu
   rw [Bool.and_eq_true] at h
   obtain ⟨xs,n,rfl,_,hl,hlen,hf⟩:=DataW.trod_struct hu hy
   have:=Af (cs:=cs) (n:=n) (fun T t hc cs y hy=>vL d T t hc n cs y hy) fs.toList 0 t h.2 (fun f hm=>by
    obtain ⟨i,hi⟩:=List.getElem?_of_mem hm
    have hi':fs[i]? = some f:=by rw [<- Array.getElem?_toList];exact hi
    have hlt:i<xs.length:=by
     have:=(Array.getElem?_eq_some_iff.1 hi').1
     omega
    exact ⟨xs[i],by rw [hf i f hi',List.getElem?_eq_getElem hlt]⟩)
   rw [List.drop_zero,List.take_of_length_le (by have:=Nat.eq_of_beq_eq_true h.1;omega)] at this
   exact this
  ·rename_i n e hu
   rw [Bool.and_eq_true] at h
   obtain ⟨xs,m,rfl,_,hl,hlen,hf⟩:=DataW.trod_array hu hy
   have:=Ag (cs:=cs) (n:=m) (z:=P.cellsOf e) (fun t hc cs y hy=>vL d e t hc m cs y hy) n 0 t h.2 (fun j _ hj=>by
    have hlt:j<xs.length:=by omega
    exact ⟨xs[j],by rw [hf j (by omega),List.getElem?_eq_getElem hlt]⟩)
   rw [Nat.zero_mul,List.drop_zero,List.take_of_length_le (by have:=Nat.eq_of_beq_eq_true h.1;omega)] at this
   exact this
  ·cases h
theorem Dr {d:Nat} {T:TypeId} {t:Ty} {agg:Bool} {v:Value} {y:DataW H} {ps:List MemPlace} {r:Reach} {b0:Nat} (hc:qU P d T t=true) (hv:Value.okWide P W r b0 T v) (ha:agg=true -> ∃ vs,v=.agg vs) (hb:agg=false -> v.cells=#[v])
  (h:DataW.Trod enc P W base sp held T v y ps):∃ x:t.D,t.fine x /\ aA (fun _=>undef) (fun _=>False) (fun _=>True) W (bQ agg (unpack t x)) v:=by
 obtain ⟨fuel,hf⟩:=h
 obtain ⟨x,hx,hk⟩:=vL d T t hc _ _ _ hf
 refine ⟨x,hx,?_⟩
 have h1:=bA (μ:=fun _=>undef) (Nm:=fun _=>False) t x _ hk
 cases agg with
 | true =>
  obtain ⟨vs,rfl⟩:=ha rfl
  simp only [bQ,aA]
  exact ⟨vs,rfl,h1⟩
 | false =>
  have h2:=dX h1 0
  rw [hb rfl] at h2
  simpa [bQ] using h2
def xE (P:Program) (T:TypeId):Option Bool:=match P.underlying T with
 | some (.int _)=>some false
 | some .bool=>some false
 | some (.slice _)=>some false
 | some (.struct _)=>some true
 | some (.array _ _)=>some true
 | _=>none
theorem Dt {T:TypeId} {v:Value} {r:Reach} {b0:Nat} (h:xE P T=some true) (hv:Value.okWide P W r b0 T v):∃ vs,v=.agg vs:=by
 unfold xE at h
 unfold Value.okWide at hv
 split at h <;> try (cases h;done)
 ·rename_i hu;rw [hu] at hv;obtain ⟨cs,rfl,_⟩:=hv;exact ⟨cs,rfl⟩
 ·rename_i hu;rw [hu] at hv;obtain ⟨cs,rfl,_⟩:=hv;exact ⟨cs,rfl⟩
theorem Du {T:TypeId} {v:Value} {r:Reach} {b0:Nat} (h:xE P T=some false) (hv:Value.okWide P W r b0 T v):v.cells=#[v]:=by
 unfold xE at h
 split at h <;> try (cases h;done)
 ·rename_i hu
  obtain ⟨n,rfl⟩:=okWide_int hu hv;rfl
 ·rename_i hu
  simp only [Value.okWide,hu,Cell.okWide] at hv
  cases v <;> simp_all [Cell.ok,Value.cells]
 ·rename_i hu
  obtain ⟨a,l,c,rfl⟩:=okWide_slice hu hv;rfl
theorem open_par {d:Nat} {T:TypeId} {t:Ty} {agg:Bool} {v:Value} {y:DataW H} {ps:List MemPlace} {r:Reach} {b0:Nat} (hk:xE P T=some agg) (hc:qU P d T t=true) (hv:Value.okWide P W r b0 T v)
  (h:DataW.Trod enc P W base sp held T v y ps):∃ x:t.D,t.fine x /\ aA (fun _=>undef) (fun _=>False) (fun _=>True) W (bQ agg (unpack t x)) v :=
 Dr hc hv (fun e=>Dt (by rw [hk,e]) hv) (fun e=>Du (by rw [hk,e]) hv) h
theorem shut_par {T:TypeId} {W':World} {v:Value} {y:DataW H} {ps:List MemPlace} (hl:laidOutB P=true) (hr:P.readableRec T=true) (hrow:T<P.types.size)
  (h:DataW.Trod enc P W 0 (fun _=>true) true T v y ps) (hb:Below W.heap.size W W'):DataW.Trod enc P W' 0 (fun b=>decide (b<W.heap.size)) true T v y ps :=
 Below.trod hl hr hrow h hb (by obtain ⟨m,hm⟩:=h;exact DataW.trod_lt m _ _ _ hm)
end
end Go.Proofs.YtmmagcjlfcicfaaGreat.Ab
set_option linter.unusedVariables false
set_option linter.unusedSimpArgs false
namespace Go.Proofs.YtmmagcjlfcicfaaGreat.Ab
open Go.RowKit
section
variable {R α:Type}
theorem Ua {n:Int} (h1:-9223372036854775808 <= n) (h2:n <= 9223372036854775807):IntKind.i64.wrap n=n:=by
 unfold IntKind.wrap
 have e1:(2 ^ IntKind.i64.bits:Int)=18446744073709551616:=by decide
 have e2:(2 ^ (IntKind.i64.bits - 1):Int)=9223372036854775808:=by decide
 simp only [e1,e2,IntKind.signed,Bool.true_and,decide_eq_true_eq]
 split <;> omega
theorem Me {n:Nat} (h:n<9223372036854775807):IntKind.i64.wrap ((n:Int)+1)=((n+1:Nat):Int):=by
 rw [Ua (by omega) (by omega)];omega
theorem Lf {xs:List α} {j:Int} {x:Option R} (h0:0 <= j) (h1:j<(xs.length:Int)):ix xs j x=x:=by
 unfold ix;rw [if_pos];simp [h0,h1]
theorem Pw {xs:List α} {n:Nat} {x:Option R} (h:n<xs.length):ix xs (n:Int) x=x:=Lf (by omega) (by omega)
theorem Rb {n:Nat} {j:Int} {x:Option R} (h0:0 <= j) (h1:j<(n:Int)):ax n j x=x:=by
 unfold ax;rw [if_pos];simp [h0,h1]
theorem Rc {xs:List α} {l h:Int} {x:Option R} (h0:0 <= l) (h1:l <= h) (h2:h <= (xs.length:Int)):sx xs l h x=x:=by
 unfold sx;rw [if_pos];simp [h0,h1,h2]
theorem Rf {n:Int} {z:Nat} {x:Option R} (h0:0 <= n) (h1:n.toNat * z <= 281474976710656):mk n n z x=x:=by
 unfold mk;rw [if_pos rfl,if_pos];simp only [Bool.and_eq_true,decide_eq_true_eq];exact ⟨h0,Nat.ble_eq_true_of_le h1⟩
theorem Rh {xs ys:List α} {z:Nat} {f:List α -> Option R} (h:(xs.length+ys.length) * z <= 140737488355328):ap xs ys z f=f (xs++ys):=by
 unfold ap;rw [if_pos h]
theorem Ri {b:Int} {x:Option R} (h:b≠0):nz b x=x:=by unfold nz;rw [if_neg h]
theorem Px {xs:List α} {n:Nat} {z:α}:rd xs (n:Int) z=xs.getD n z:=rfl
theorem Mf {xs:List α} {n:Nat} {v:α}:upd xs (n:Int) v=xs.set n v:=rfl
theorem Mg {xs:List α} {j:Int} {v:α}:(upd xs j v).length=xs.length:=by simp [upd]
theorem Rj {x y:α} {p:Prop} [Decidable p] (h:p):(bif decide p then x else y)=x:=by simp [h]
theorem Rk {x y:α} {p:Prop} [Decidable p] (h:¬ p):(bif decide p then x else y)=y:=by simp [h]
theorem Rl (x y:Int):mn x y=min x y:=by unfold mn;omega
theorem Rm (x y:Int):mx x y=max x y:=by unfold mx;omega
theorem Lg {e:TypeId} {t:Ty} {lim:Nat} {k:Nat} {xs:List t.D} (h:xs.length * lim <= 140737488355328):qR lim e t k (xs,())=some ((xs,()),()):=by
 unfold qR;rw [lY,if_pos h];rfl
end
end Go.Proofs.YtmmagcjlfcicfaaGreat.Ab
