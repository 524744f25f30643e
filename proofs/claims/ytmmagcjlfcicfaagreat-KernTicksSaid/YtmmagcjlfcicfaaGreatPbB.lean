import Derived.Test.YtmmagcjlfcicfaaGreatPbA
import Derived.MapKept
import Derived.LoopN
import Derived.Scope
import Derived.ChangeKeysEq
import Derived.Laws.StructEq
import Derived.KernelRfl
/- The evaluator. -/
set_option linter.unusedVariables false
set_option linter.unusedSimpArgs false
namespace Go.Proofs.YtmmagcjlfcicfaaGreat.Ab
open Go.RowKit
section
variable {P:Program} {E:Env} {c:Ctx} {o:Oper} {s:St} {b:Nat} {R:Type} {κ:Eff -> Option R} {r:R}
theorem bJ {ρ:Operand -> Value} {bi:Builtin} {cl:Call} (ho:o.op=.call cl) (hc:cl.callee=.builtin bi):execOp ρ o=builtin bi cl.argTypes o.type (cl.args.map fun | .const _=>true | _=>false) (cl.args.map ρ):=by
 simp only [execOp,ho,resolve,hc,pure_bind]
 rfl
theorem yE (hE:aH P E) {T:TypeId} {ts:List TypeId} {x:ByteArray} {cl:Call} (ho:o.op=.call cl) (hc:cl.callee=.builtin .len) (hts:cl.argTypes.toList=T::ts) (hT:E.ty T=some .str) (hA:E.agg T=false) {y:Operand} (hy:cl.args.toList=[y]) (hx:s.op y=.str x):aJ P c o s b ⟨.int .i64 x.size,[],[]⟩:=by
 refine aJ.pure fun s' a w μ Nm hag hr=>?_
 have h1:=hr.op y
 rw [hag.ops y (by simp [Op.operands,ho,Call.operands,hc,hy]),hx] at h1
 simp only [aA] at h1
 have hu:=(hE.ty T _ hT).desc hA
 simp only [descOf] at hu
 have e1:cl.argTypes[0]? = some T:=by rw [<- Array.getElem?_toList,hts];rfl
 have e2:(cl.args.map a.eval)[0]? = some (.string x):=by rw [<- Array.getElem?_toList,Array.toList_map,hy];simp [h1]
 have e3:(Builtin.len_ cl.argTypes o.type (cl.args.map a.eval)).run P w=.ok (.int .i64 x.size) w:=by
  simp [Builtin.len_,e1,e2,run_underlying hu,Sem.run_bind,Result.andThen,goInt]
 exact ⟨_,by rw [bJ ho hc];exact aR e3,by simp only [aA]⟩
theorem yF (hE:aH P E) {T e:TypeId} {t:Ty} {ts:List TypeId} {xs:List t.D} {ns:List Nat} {cl:Call} (ho:o.op=.call cl) (hc:cl.callee=.builtin .len) (hts:cl.argTypes.toList=T::ts) (hT:E.elem T=some e) (ht:E.ty e=some t) {y:Operand} (hy:cl.args.toList=[y]) (hx:rowOf s.mem e t (s.op y)=some (xs,ns)):aJ P c o s b ⟨.int .i64 xs.length,[],ns⟩:=by
 refine aJ.pure fun s' a w μ Nm hag hr=>?_
 have h1:=hr.op y
 have h2:=fF hag hx (fun n hn=>hn)
 rw [hag.ops y (by simp [Op.operands,ho,Call.operands,hc,hy])] at h1
 obtain ⟨A,cp,hv,_,_⟩:=dY hr.objs h2 h1
 have hu:=hE.elem T e hT
 have e1:cl.argTypes[0]? = some T:=by rw [<- Array.getElem?_toList,hts];rfl
 have e2:(cl.args.map a.eval)[0]? = some (.slice A xs.length cp):=by rw [<- Array.getElem?_toList,Array.toList_map,hy];simp [hv]
 have e3:(Builtin.len_ cl.argTypes o.type (cl.args.map a.eval)).run P w=.ok (.int .i64 xs.length) w:=by
  simp [Builtin.len_,e1,e2,run_underlying hu,Sem.run_bind,Result.andThen,goInt]
 exact ⟨_,by rw [bJ ho hc];exact aR e3,by simp only [aA]⟩
theorem yG (hE:aH P E) {T e:TypeId} {ts:List TypeId} {cl:Call} (ho:o.op=.call cl) (hc:cl.callee=.builtin .cap) (hts:cl.argTypes.toList=T::ts) (hT:E.elem T=some e) {y:Operand} (hy:cl.args.toList=[y]) (hx:s.op y=.nil):aJ P c o s b ⟨.int .i64 0,[],[]⟩:=by
 refine aJ.pure fun s' a w μ Nm hag hr=>?_
 have h1:=hr.op y
 rw [hag.ops y (by simp [Op.operands,ho,Call.operands,hc,hy]),hx] at h1
 simp only [aA] at h1
 have hu:=hE.elem T e hT
 have e1:cl.argTypes[0]? = some T:=by rw [<- Array.getElem?_toList,hts];rfl
 have e2:(cl.args.map a.eval)[0]? = some (.slice none 0 0):=by rw [<- Array.getElem?_toList,Array.toList_map,hy];simp [h1]
 have e3:(Builtin.cap_ cl.argTypes o.type (cl.args.map a.eval)).run P w=.ok (.int .i64 0) w:=by
  simp [Builtin.cap_,e1,e2,run_underlying hu,Sem.run_bind,Result.andThen,goInt]
 exact ⟨_,by rw [bJ ho hc];exact aR e3,by simp only [aA]⟩
theorem zQ {μ:Nat -> Value} {Nm S:Nat -> Prop} {w:World}:∀ (l:List AV) (x v:AV) (y:Value) (ys:List Value),rD false x l=some v -> aA μ Nm S w x y -> VRels μ Nm S w l ys -> ∃ z,(ys.foldlM Builtin.min2 y:Sem Value).run P w=.ok z w /\ aA μ Nm S w v z
 | [],x,v,y,ys,h,hx,hl=>by
  cases ys with
  | nil=>simp only [rD] at h;injection h with h;subst h;exact ⟨y,rfl,hx⟩
  | cons _ _=>simp only [VRels] at hl
 | x2::l,x,v,y,ys,h,hx,hl=>by
  cases ys with
  | nil=>simp only [VRels] at hl
  | cons y2 ys =>
   simp only [VRels] at hl
   cases x <;> try (cases x2 <;> cases h;done)
   cases x2 <;> try (cases h;done)
   rename_i k n k' n'
   simp only [rD] at h
   split at h
   ·rename_i hk
    have hl1:=hl.1
    simp only [aA] at hx hl1
    subst hx;subst hl1
    have:=eD hk;subst this
    obtain ⟨z,h1,h2⟩:=zQ l _ v (.int k (if n'<n then n' else n)) ys h (by simp only [aA]) hl.2
    refine ⟨z,?_,h2⟩
    simp only [List.foldlM_cons,Builtin.min2,pure_bind]
    exact h1
   ·cases h
theorem zR {μ:Nat -> Value} {Nm S:Nat -> Prop} {w:World}:∀ (l:List AV) (x v:AV) (y:Value) (ys:List Value),rD true x l=some v -> aA μ Nm S w x y -> VRels μ Nm S w l ys -> ∃ z,(ys.foldlM Builtin.max2 y:Sem Value).run P w=.ok z w /\ aA μ Nm S w v z
 | [],x,v,y,ys,h,hx,hl=>by
  cases ys with
  | nil=>simp only [rD] at h;injection h with h;subst h;exact ⟨y,rfl,hx⟩
  | cons _ _=>simp only [VRels] at hl
 | x2::l,x,v,y,ys,h,hx,hl=>by
  cases ys with
  | nil=>simp only [VRels] at hl
  | cons y2 ys =>
   simp only [VRels] at hl
   cases x <;> try (cases x2 <;> cases h;done)
   cases x2 <;> try (cases h;done)
   rename_i k n k' n'
   simp only [rD] at h
   split at h
   ·rename_i hk
    have hl1:=hl.1
    simp only [aA] at hx hl1
    subst hx;subst hl1
    have:=eD hk;subst this
    have e1:(if n<n' then n' else n)=(if n'>n then n' else n):=rfl
    obtain ⟨z,h1,h2⟩:=zR l _ v (.int k (if n<n' then n' else n)) ys h (by simp only [aA]) hl.2
    refine ⟨z,?_,h2⟩
    simp only [List.foldlM_cons,Builtin.max2,pure_bind]
    exact h1
   ·cases h
theorem iC {s':St}:∀ {l:List Operand},(∀ x∈l,s'.op x=s.op x) -> cB s' l=cB s l
 | [],_=>rfl
 | x::l,h=>by simp only [cB];rw [h x List.mem_cons_self,iC (fun y hy=>h y (List.mem_cons_of_mem _ hy))]
theorem sK {mx:Bool} {cl:Call} {x v:AV} {l:List AV} (ho:o.op=.call cl) (hc:cl.callee=.builtin (match mx with | true=>.max | false=>.min)) (hargs:cB s cl.args.toList=x::l) (h:rD mx x l=some v):aJ P c o s b ⟨v,[],[]⟩:=by
 refine aJ.pure fun s' a w μ Nm hag hr=>?_
 have h1:=hr.ops cl.args.toList
 rw [iC (s:=s) (fun y hy=>hag.ops y (by cases mx <;> simp [Op.operands,ho,Call.operands,hc] <;> simpa using hy)),hargs] at h1
 have h2:(cl.args.map a.eval).toList=cl.args.toList.map a.eval:=Array.toList_map
 rw [<- h2] at h1
 cases hl:(cl.args.map a.eval).toList with
 | nil=>rw [hl] at h1;simp only [VRels] at h1
 | cons y ys =>
  rw [hl] at h1
  simp only [VRels] at h1
  cases mx with
  | false =>
   obtain ⟨z,h3,h4⟩:=zQ (P:=P) l x v y ys h h1.1 h1.2
   exact ⟨z,by rw [bJ ho hc];exact aR (by simp only [Builtin.min_,hl];exact h3),h4⟩
  | true =>
   obtain ⟨z,h3,h4⟩:=zR (P:=P) l x v y ys h h1.1 h1.2
   exact ⟨z,by rw [bJ ho hc];exact aR (by simp only [Builtin.max_,hl];exact h3),h4⟩
theorem wF {g:FuncId} {first caps:Array Operand} (ho:o.op=.makeFunc (.func g) first caps) (hf:first.toList=[]):aJ P c o s b ⟨.lJ g (cB s caps.toList),[],[]⟩:=by
 refine aJ.pure fun s' a w μ Nm hag hr=>?_
 have hf':first=#[]:=by cases first;simp at hf;subst hf;rfl
 have h1:=hr.ops caps.toList
 rw [iC (s:=s) (fun y hy=>hag.ops y (by simp [Op.operands,ho,hf'];simpa using hy))] at h1
 refine ⟨.func (.func g) #[] (caps.map a.eval),by simp only [execOp,ho,hf'];exact aR (by simp [Instr.makeFunc]),?_⟩
 simp only [aA]
 exact ⟨caps.map a.eval,rfl,by rw [Array.toList_map];exact h1⟩
theorem Ar {g:FuncId} {first caps:Array Operand} (ho:o.op=.makeFunc (.func g) first caps) (hf:caps.toList=[]):aJ P c o s b ⟨.mv g (cB s first.toList),[],[]⟩:=by
 refine aJ.pure fun s' a w μ Nm hag hr=>?_
 have hf':caps=#[]:=by cases caps;simp at hf;subst hf;rfl
 have h1:=hr.ops first.toList
 rw [iC (s:=s) (fun y hy=>hag.ops y (by simp [Op.operands,ho,hf'];simpa using hy))] at h1
 refine ⟨.func (.func g) (first.map a.eval) #[],by simp only [execOp,ho,hf'];exact aR (by simp [Instr.makeFunc]),?_⟩
 simp only [aA]
 exact ⟨first.map a.eval,rfl,by rw [Array.toList_map];exact h1⟩
theorem bG {μ:Nat -> Value} {Nm S:Nat -> Prop} {w:World} {vs:List Value} (h:VRels μ Nm S w [] vs):vs=[]:=by
 cases vs with
 | nil=>rfl
 | cons _ _=>simp only [VRels] at h
theorem Au {m:Nat -> Option Obj} {μ:Nat -> Value} {Nm S:Nat -> Prop} {w:World} (hm:∀ n o,m n=some o -> aF c μ Nm S w n o) {v:VT} {x:AV} {d:v.t.D} {ns:List Nat} {y:Value} (h:bT m v x=some (d,ns)) (hx:aA μ Nm S w x y):aA (fun _=>undef) (fun _=>False) (aX μ m S ns) w (bQ v.agg (unpack v.t d)) y:=by
 unfold bT at h
 split at h
 ·rename_i cs hA
  split at h
  ·rename_i d' ns' hp
   injection h with h;injection h with h1 h2;subst h1;subst h2
   simp only [aA] at hx
   obtain ⟨vs,rfl,hv⟩:=hx
   obtain ⟨v0,v1,he,hf,hr⟩:=cO hm _ _ _ _ _ _ hp hv
   have:=bG hr;subst this
   rw [List.append_nil] at he
   rw [hA]
   simp only [bQ,aA]
   exact ⟨vs,rfl,by rw [he];exact bA _ _ _ hf⟩
  ·cases h
 ·cases h
 ·rename_i hA
  split at h
  ·rename_i d' ns' hp
   injection h with h;injection h with h1 h2;subst h1;subst h2
   obtain ⟨v0,v1,he,hf,hr⟩:=cO hm _ _ _ _ _ [y] hp (by simp only [VRels,and_true];exact hx)
   have:=bG hr;subst this
   rw [List.append_nil] at he
   rw [hA]
   simp only [bQ]
   have h3:=dX (bA (μ:=fun _=>undef) (Nm:=fun _=>False) _ _ _ hf) 0
   rw [<- he] at h3
   simpa using h3
  ·cases h
theorem sM {m:Nat -> Option Obj} {v:VT} {x:AV} {d:v.t.D} {ns:List Nat} (h:bT m v x=some (d,ns)):∀ n∈ns,∃ f e' t' ys,m n=some (.row f e' t' ys):=by
 unfold bT at h
 split at h
 ·split at h
  ·rename_i hp
   injection h with h;injection h with h1 h2;subst h1;subst h2
   exact gY _ _ _ _ _ hp
  ·cases h
 ·cases h
 ·split at h
  ·rename_i hp
   injection h with h;injection h with h1 h2;subst h1;subst h2
   exact gY _ _ _ _ _ hp
  ·cases h
theorem dZ {m m':Nat -> Option Obj} {v:VT} {x:AV} {d:v.t.D} {ns:List Nat} (h:bT m v x=some (d,ns)) (hm:∀ n∈ns,m' n=m n):bT m' v x=some (d,ns):=by
 unfold bT at h ⊢
 split at h
 ·split at h
  ·rename_i hp
   injection h with h;injection h with h1 h2;subst h1;subst h2
   rw [dU _ _ _ _ _ hp hm]
  ·cases h
 ·cases h
 ·split at h
  ·rename_i hp
   injection h with h;injection h with h1 h2;subst h1;subst h2
   rw [dU _ _ _ _ _ hp hm]
  ·cases h
theorem Ie (g off j:Nat):(⟨g,off,none⟩:Addr).add j=(⟨g,0,none⟩:Addr).add (off+j):=by
 unfold Addr.add
 by_cases h:j=0
 ·by_cases h':off=0
  ·simp [h,h']
  ·simp [h,h']
 ·simp [h]
theorem wG {t t':Ty} {x:t.D} {y:t'.D} (h:pE t t' x=some y):∃ e:t=t',y=e ▸ x:=by
 unfold pE at h
 split at h
 ·rename_i hb;injection h with h;exact ⟨Ty.beq_eq hb,h.symm⟩
 ·cases h
mutual
theorem sN {m:Nat -> Option Obj} {μ μ':Nat -> Value} {Nm Nm' S:Nat -> Prop} {w:World} (hm:∀ n o,m n=some o -> aF c μ Nm S w n o):∀ (p:PV) (v:AV) (y:Value) (d:p.D) (ns:List Nat) (b:Nat),aU m p v=some (d,ns) -> aA μ Nm S w v y ->
  aA μ' Nm' (aX μ m S ns) w (lay p d b).1 y /\ (lay p d b).2.1=[] /\ (lay p d b).2.2=b
 | .cell t,v,y,d,ns,b,h,hv=>by
  simp only [aU] at h
  split at h
  ·rename_i d' ns' hp
   injection h with h;injection h with h1 h2;subst h1;subst h2
   obtain ⟨v0,v1,he,hf,hr⟩:=cO hm _ _ _ _ _ [y] hp (by simp only [VRels,and_true];exact hv)
   have:=bG hr;subst this
   rw [List.append_nil] at he
   have h3:=dX (bA (μ:=μ') (Nm:=Nm') _ _ _ hf) 0
   rw [<- he] at h3
   exact ⟨by simpa [lay] using h3,rfl,rfl⟩
  ·cases h
 | .ref t,v,y,d,ns,b,h,hv=>by
  cases v <;> simp only [aU] at h <;> try (cases h;done)
  ·rename_i n off
   split at h
   ·rename_i U cs hmn
    split at h
    ·rename_i hlen
     split at h
     ·rename_i d' ns' hp
      injection h with h;injection h with h1 h2;subst h1;subst h2
      simp only [aA] at hv
      obtain ⟨_,g,e1,e2⟩:=hv
      have ho:=hm n _ hmn
      simp only [aF] at ho
      obtain ⟨g',vs,e3,_,e5,e6⟩:=ho
      rw [e1] at e3
      injection e3 with e3;injection e3 with e3;injection e3 with e3
      subst e3
      have hlen:=Nat.eq_of_beq_eq_true hlen
      rw [bU,bV] at hp hlen
      rw [dP] at hlen
      obtain ⟨v0,v1,he,hf,hr⟩:=cO hm _ _ _ _ _ _ hp (dR t.sz (dS off e6))
      have:=bG hr;subst this
      rw [List.append_nil] at he
      refine ⟨?_,rfl,rfl⟩
      simp only [lay,aA]
      refine ⟨⟨g,off,none⟩,v0,by rw [e2];simp [Addr.add],Kd.aV hf (fun k hk=>?_),fun j u hu=>?_,fun _=>?_⟩
      ·rcases hk with hk | ⟨n',h1,h2,h3⟩
       ·exact .inl hk
       ·exact .inr ⟨n',List.mem_cons_of_mem _ h1,h2,h3⟩
      ·rw [<- he] at hu
       rw [List.getElem?_take] at hu
       split at hu
       ·rw [List.getElem?_drop] at hu
        have:=mX e5 (off+j) u hu
        rw [Ie];exact this
       ·cases hu
      ·exact .inr ⟨n,List.mem_cons_self,by simp [bP,hmn],by rw [e1];rfl⟩
     ·cases h
    ·cases h
   ·cases h
  ·rename_i t' x off
   cases off with
   | succ _=>cases h
   | zero =>
    simp only at h
    cases hc:pE t' t x with
    | none=>rw [hc] at h;cases h
    | some y' =>
     rw [hc] at h
     injection h with h;injection h with h1 h2;subst h1;subst h2
     obtain ⟨e,hy⟩:=wG hc
     subst e;subst hy
     refine ⟨?_,rfl,rfl⟩
     simp only [lay,aA] at hv ⊢
     obtain ⟨ad,cs,h1,h2,h3,h4⟩:=hv
     exact ⟨ad,cs,h1,Kd.aV h2 (fun k hk=>.inl hk),h3,fun h=>.inl (h4 h)⟩
 | .agg cs,v,y,d,ns,b,h,hv=>by
  cases v <;> simp only [aU] at h <;> try (cases h;done)
  simp only [aA] at hv
  obtain ⟨vs,rfl,hvs⟩:=hv
  obtain ⟨g1,g2,g3⟩:=lC (μ':=μ') (Nm':=Nm') hm cs _ _ d ns b h hvs
  simp only [lay]
  exact ⟨by simp only [aA];exact ⟨vs,rfl,g1⟩,g2,g3⟩
 | .lJ g cs,v,y,d,ns,b,h,hv=>by
  cases v <;> simp only [aU] at h <;> try (cases h;done)
  split at h
  ·rename_i hg
   have:=Nat.eq_of_beq_eq_true hg;subst this
   simp only [aA] at hv
   obtain ⟨vs,rfl,hvs⟩:=hv
   obtain ⟨g1,g2,g3⟩:=lC (μ':=μ') (Nm':=Nm') hm cs _ _ d ns b h hvs
   simp only [lay]
   exact ⟨by simp only [aA];exact ⟨vs,rfl,g1⟩,g2,g3⟩
  ·cases h
 | .own _ _,v,y,d,ns,b,h,hv=>by simp [aU] at h
 | .box _ _,v,y,d,ns,b,h,hv=>by simp [aU] at h
 | .nil,v,y,d,ns,b,h,hv=>by
  cases v <;> simp only [aU] at h <;> try (cases h;done)
  simp only [aA] at hv
  exact ⟨by simp only [lay,aA];exact hv,rfl,rfl⟩
 | .pin _ _,v,y,d,ns,b,h,hv=>by simp [aU] at h
 | .mp _ _ _ _ _,v,y,d,ns,b,h,hv=>by simp [aU] at h
theorem lC {m:Nat -> Option Obj} {μ μ':Nat -> Value} {Nm Nm' S:Nat -> Prop} {w:World} (hm:∀ n o,m n=some o -> aF c μ Nm S w n o):∀ (ps:List PV) (vs:List AV) (ys:List Value) (d:qY ps) (ns:List Nat) (b:Nat),bZ m ps vs=some (d,ns) -> VRels μ Nm S w vs ys ->
  VRels μ' Nm' (aX μ m S ns) w (lays ps d b).1 ys /\ (lays ps d b).2.1=[] /\ (lays ps d b).2.2=b
 | [],vs,ys,d,ns,b,h,hv=>by
  cases vs with
  | nil =>
   have:=bG hv;subst this
   exact ⟨by simp only [lays,VRels],rfl,rfl⟩
  | cons _ _=>simp [bZ] at h
 | p::ps,vs,ys,d,ns,b,h,hv=>by
  cases vs with
  | nil=>simp [bZ] at h
  | cons v vs =>
   cases ys with
   | nil=>simp only [VRels] at hv
   | cons y ys =>
    simp only [VRels] at hv
    simp only [bZ] at h
    split at h
    ·rename_i d1 jJ h1
     split at h
     ·rename_i d2 pR h2
      injection h with h;injection h with e1 e2;subst e1;subst e2
      obtain ⟨g1,g2,g3⟩:=sN (μ':=μ') (Nm':=Nm') hm p v y d1 jJ b h1 hv.1
      obtain ⟨k1,k2,k3⟩:=lC (μ':=μ') (Nm':=Nm') hm ps vs ys d2 pR b h2 hv.2
      simp only [lays]
      rw [g3,g2,k2,k3]
      refine ⟨?_,rfl,rfl⟩
      simp only [VRels]
      exact ⟨dW (fun _ _ _=>rfl) (fun k h _=>eU h) (fun _ _=>rfl) (fun _ h=>h) _ _ g1,aZ (fun _ _ _=>rfl) (fun k h _=>fE h) (fun _ _=>rfl) (fun _ h=>h) _ _ k1⟩
     ·cases h
    ·cases h
end
mutual
theorem sO {m:Nat -> Option Obj}:∀ (p:PV) (v:AV) (d:p.D) (ns:List Nat),aU m p v=some (d,ns) -> ∀ n∈ns,∃ o,m n=some o
 | .cell t,v,d,ns,h=>by
  simp only [aU] at h
  split at h
  ·rename_i d' ns' hp
   injection h with h;injection h with h1 h2;subst h2
   intro n hn
   obtain ⟨_,_,_,_,h⟩:=gY _ _ _ _ _ hp n hn
   exact ⟨_,h⟩
  ·cases h
 | .ref t,v,d,ns,h=>by
  cases v <;> simp only [aU] at h <;> try (cases h;done)
  ·rename_i n off
   split at h
   ·rename_i U cs hmn
    split at h
    ·split at h
     ·rename_i d' ns' hp
      injection h with h;injection h with h1 h2;subst h2
      intro n' hn'
      rcases List.mem_cons.1 hn' with rfl | hn'
      ·exact ⟨_,hmn⟩
      ·obtain ⟨_,_,_,_,h⟩:=gY _ _ _ _ _ hp n' hn'
       exact ⟨_,h⟩
     ·cases h
    ·cases h
   ·cases h
  ·rename_i t' x off
   cases off with
   | succ _=>cases h
   | zero =>
    simp only at h
    cases hc:pE t' t x with
    | none=>rw [hc] at h;cases h
    | some y'=>rw [hc] at h;injection h with h;injection h with h1 h2;subst h2;intro n hn;cases hn
 | .agg cs,v,d,ns,h=>by
  cases v <;> simp only [aU] at h <;> try (cases h;done)
  exact lD cs _ d ns h
 | .lJ g cs,v,d,ns,h=>by
  cases v <;> simp only [aU] at h <;> try (cases h;done)
  split at h
  ·exact lD cs _ d ns h
  ·cases h
 | .own _ _,v,d,ns,h=>by simp [aU] at h
 | .box _ _,v,d,ns,h=>by simp [aU] at h
 | .nil,v,d,ns,h=>by
  cases v <;> simp only [aU] at h <;> try (cases h;done)
  injection h with h;injection h with _ h;subst h;intro n hn;cases hn
 | .pin _ _,v,d,ns,h=>by simp [aU] at h
 | .mp _ _ _ _ _,v,d,ns,h=>by simp [aU] at h
theorem lD {m:Nat -> Option Obj}:∀ (ps:List PV) (vs:List AV) (d:qY ps) (ns:List Nat),bZ m ps vs=some (d,ns) -> ∀ n∈ns,∃ o,m n=some o
 | [],vs,d,ns,h=>by
  cases vs with
  | nil=>simp only [bZ] at h;injection h with h;injection h with _ h;subst h;intro n hn;cases hn
  | cons _ _=>simp [bZ] at h
 | p::ps,vs,d,ns,h=>by
  cases vs with
  | nil=>simp [bZ] at h
  | cons v vs =>
   simp only [bZ] at h
   split at h
   ·rename_i d1 jJ h1
    split at h
    ·rename_i d2 pR h2
     injection h with h;injection h with e1 e2;subst e1;subst e2
     intro n hn
     rcases List.mem_append.1 hn with hn | hn
     ·exact sO p v d1 jJ h1 n hn
     ·exact lD ps vs d2 pR h2 n hn
    ·cases h
   ·cases h
end
end
end Go.Proofs.YtmmagcjlfcicfaaGreat.Ab
set_option linter.unusedVariables false
set_option linter.unusedSimpArgs false
namespace Go.Proofs.YtmmagcjlfcicfaaGreat.Ab
open Go.RowKit
section
variable {P:Program} {E:Env} {c:Ctx} {o:Oper} {s:St} {b:Nat} {R:Type} {κ:Eff -> Option R} {r:R}
theorem Rel.swap {s:St} {a:Act} {w w':World} {μ:Nat -> Value} {Nm:Nat -> Prop} (hr:Rel c s a w μ Nm) {n:Nat} {o0 o1:Obj} (hn:s.mem n=some o0) (hl0:o0.live=true) (hl1:o1.live=true) {g:Nat} (hg:blk (μ n)=some g) (hw:∀ k,k≠g -> w'.heap[k]? = w.heap[k]?) (hsz:w'.heap.size=w.heap.size) (h1:w'.os=w.os) (h2:w'.tape=w.tape) (h3:w'.output=w.output)
  (hO:∀ S':Nat -> Prop,(∀ k,aD c μ s.mem k -> S' k) -> aF c μ Nm S' w' n o1):Rel c { s with mem:=dK s.mem n (some o1) } a w' μ Nm:=by
 have hbase:=(hr.aT hn hl0 hg).1
 have yC:∀ k,aD c μ s.mem k -> k≠g:=fun k hk e=>hk.2 n _ hn hl0 (by rw [hg,e])
 have hS:∀ k,aD c μ s.mem k -> aD c μ (dK s.mem n (some o1)) k:=fun k hk=>⟨hk.1,fun n' o' hn' hl'=>by
  rw [aC] at hn'
  by_cases e:n=n'
  ·subst e;exact hk.2 n _ hn hl0
  ·simp only [e,if_false] at hn';exact hk.2 n' o' hn' hl'⟩
 refine hr.next (s':={ s with mem:=dK s.mem n (some o1) }) hr.size hr.defers (hr.below.trans ⟨h1,h2,h3,by omega,fun k hk hX=>hw k (fun e=>by subst e;rcases hbase with hb | hb;exact absurd hb (by omega);exact hX hb)⟩) (fun k hk hlt=>hw k (yC k hk)) (fun k hk _=>hS k hk) (fun _ _=>rfl) (fun _ h=>h) (fun n' o' hn'=>?_) (fun n1 n2 p1 p2 q1 q2 l1 l2 hne k hk=>?_) (fun x=>.inl ⟨rfl,rfl⟩)
 ·simp only [aC] at hn'
  by_cases e:n=n'
  ·simp only [e,if_true] at hn'
   injection hn' with hn';subst hn';subst e
   exact .inr ⟨hr.names n _ hn,hO _ hS⟩
  ·simp only [e,if_false] at hn'
   exact .inl ⟨hn',fun hl' k hk=>hw k (fun e2=>hr.dist n n' _ o' hn hn' hl0 hl' e g hg (by rw [hk,e2]))⟩
 ·simp only [aC] at q1 q2
  have w1:∃ uZ,s.mem n1=some uZ /\ uZ.live=true:=by
   by_cases e:n=n1
   ·subst e;exact ⟨_,hn,hl0⟩
   ·simp only [e,if_false] at q1;exact ⟨p1,q1,l1⟩
  have w2:∃ vB,s.mem n2=some vB /\ vB.live=true:=by
   by_cases e:n=n2
   ·subst e;exact ⟨_,hn,hl0⟩
   ·simp only [e,if_false] at q2;exact ⟨p2,q2,l2⟩
  obtain ⟨uZ,w1,m1⟩:=w1
  obtain ⟨vB,w2,m2⟩:=w2
  exact hr.dist n1 n2 uZ vB w1 w2 m1 m2 hne k hk
theorem sP (hE:aH P E) {T:TypeId} {ak av:Bool} {tk tv:Ty} (h:mU E T ak tk av tv=true):∃ k v,E.map T=some (k,v) /\ P.underlying T=some (.map k v) /\ E.agg k=ak /\ E.agg v=av /\ kM P E k tk /\ kM P E v tv /\ uQ P ak k tk:=by
 unfold mU at h
 split at h
 ·rename_i k v hm
  split at h
  ·rename_i tk' tv' hk hv
   simp only [Bool.and_eq_true,beq_iff_eq] at h
   have e1:=Ty.beq_eq h.1
   have e2:=Ty.beq_eq h.2.1
   subst e1;subst e2
   have h3:=h.2.2.1
   have h4:=h.2.2.2.1
   subst h3;subst h4
   exact ⟨k,v,hm,hE.map T k v hm,rfl,rfl,hE.ty k _ hk,hE.ty v _ hv,hE.Dy k _ h.2.2.2.2.1 hk⟩
  ·cases h
 ·cases h
theorem iD {m:Nat -> Option Obj} {μ:Nat -> Value} {Nm S:Nat -> Prop} {w:World} (hm:∀ n o,m n=some o -> aF c μ Nm S w n o) {v:VT} {x:AV} {d:v.t.D} {ns:List Nat} {y:Value} (h:bT m v x=some (d,ns)) (hx:aA μ Nm S w x y):∃ cs,y=aK v.agg cs /\ (v.agg=false -> cs.length=1 /\ ∀ u∈cs,u.oneCell'=true) /\ Kd.FK v.t.kd w (aX μ m S ns) d cs:=by
 unfold bT at h
 split at h
 ·rename_i cs hA
  split at h
  ·rename_i d' ns' hp
   injection h with h;injection h with h1 h2;subst h1;subst h2
   simp only [aA] at hx
   obtain ⟨vs,rfl,hv⟩:=hx
   obtain ⟨v0,v1,he,hf,hr⟩:=cO hm _ _ _ _ _ _ hp hv
   have:=bG hr;subst this
   rw [List.append_nil] at he
   refine ⟨vs.toList,by rw [hA];rfl,(fun h=>by rw [hA] at h;cases h),by rw [he];exact hf⟩
  ·cases h
 ·cases h
 ·rename_i y' _ _ hA
  split at h
  ·rename_i d' ns' hp
   injection h with h;injection h with h1 h2;subst h1;subst h2
   obtain ⟨v0,v1,he,hf,hr⟩:=cO hm _ _ _ _ _ [y] hp (by simp only [VRels,and_true];exact hx)
   have:=bG hr;subst this
   rw [List.append_nil] at he
   refine ⟨[y],by rw [hA];rfl,fun _=>⟨rfl,fun u hu=>?_⟩,by rw [he];exact hf⟩
   exact v.t.kd.one hf u (by rw [<- he];exact hu)
  ·cases h
theorem lF {w:World} {g:Nat} {l:Array MapEntry} {iJ:Nat} (o:Go.Obj) (h:w.heap[g]? = some (.map l iJ)):(setObj g o).run P w=.ok () { w with heap:=w.heap.setIfInBounds g o }:=by simp [setObj,Sem.run,h]
def qB (tk tv:Ty) (d:tk.D):List (tk.D×tv.D) -> List MapEntry -> Nat -> Option (Nat×Value)
 | x::xs,e::l,i=>match fC tk d x.1 with | true=>some (i,e.val) | false=>qB tk tv d xs l (i+1)
 | _,_,_=>none
theorem oC (d:Nat) {T:TypeId} {k:IntKind} {x y:Int} {w:World} {k0:IntKind} (hu:P.underlying T=some (.int k0)):(Op.equalIn (d+1) T (.int k x) (.int k y)).run P w=.ok (x==y) w:=by
 simp [Op.equalIn,run_underlying hu,Result.andThen]
theorem wH (d:Nat) {T:TypeId} {x y:ByteArray} {w:World} (hu:P.underlying T=some .string):(Op.equalIn (d+1) T (.string x) (.string y)).run P w=.ok (x==y) w:=by
 simp [Op.equalIn,run_underlying hu,Result.andThen]
theorem fA {K:TypeId} {kind:TypeDesc} {x y:Value} {v:Bool} (hu:P.underlying K=some kind) (h:Instr.sameNow kind x y=some v) (w:World):(Op.equal K x y).run P w=.ok v w:=by
 unfold Instr.sameNow at h
 split at h
 ·split at h
  ·rename_i he
   injection h with h;subst h;subst he
   exact oC 9999 hu
  ·cases h
 ·injection h with h;subst h
  exact wH 9999 hu
 ·injection h with h;subst h
  exact fM 9999 hu
 ·cases h
theorem cZ {w:World} {g:Nat} {l:Array MapEntry} {iJ:Nat} (h:w.heap[g]? = some (.map l iJ)):(getObj g).run P w=.ok (.map l iJ) w:=by simp [getObj,Sem.run,h]
theorem jR {K:TypeId} {ak av:Bool} {tk tv:Ty} (hK:uQ P ak K tk) {S:Nat -> Prop} {w:World} (d:tk.D):∀ (xs:List (tk.D×tv.D)) (l:List MapEntry) (i:Nat),ents S w ak tk av tv xs l -> (Instr.findAsking K (aK ak (aI tk d)) l i).run P w=.ok (qB tk tv d xs l i) w
 | [],[],i,_=>by simp [Instr.findAsking,qB]
 | [],_::_,_,h=>h.elim
 | _::_,[],_,h=>h.elim
 | x::xs,e::l,i,h=>by
  simp only [ents] at h
  obtain ⟨⟨h1,_⟩,h5⟩:=h
  have h2:=hK.equal d x.1 w
  rw [<- h1] at h2
  simp only [Instr.findAsking,Sem.run_bind,h2,Result.andThen_ok,qB]
  cases hb:fC tk d x.1 with
  | true=>simp
  | false=>simpa using jR hK d xs l (i+1) h5
theorem oD {K:TypeId} {kind:TypeDesc} {ak av:Bool} {tk tv:Ty} (hu:P.underlying K=some kind) (hK:uQ P ak K tk) {S:Nat -> Prop} {w:World} (d:tk.D):∀ (xs:List (tk.D×tv.D)) (l:List MapEntry) (i:Nat) (q:Option (Nat×Value)),ents S w ak tk av tv xs l -> Instr.findNow kind (aK ak (aI tk d)) l i=some q -> q=qB tk tv d xs l i
 | [],[],i,q,_,h=>by simp [Instr.findNow] at h;simp [qB,h]
 | [],_::_,_,_,h,_=>h.elim
 | _::_,[],_,_,h,_=>h.elim
 | x::xs,e::l,i,q,h,hq=>by
  simp only [ents] at h
  obtain ⟨⟨h1,_⟩,h5⟩:=h
  have h2:=hK.equal d x.1 w
  rw [<- h1] at h2
  simp only [Instr.findNow] at hq
  simp only [qB]
  split at hq
  ·rename_i hs
   rw [fA hu hs w] at h2
   injection h2 with h2 _
   rw [<- h2]
   injection hq with hq
   exact hq.symm
  ·rename_i hs
   rw [fA hu hs w] at h2
   injection h2 with h2 _
   rw [<- h2]
   exact oD hu hK d xs l (i+1) q h5 hq
  ·cases hq
theorem oF {K:TypeId} {ak av:Bool} {tk tv:Ty} (hT:∃ kind,P.underlying K=some kind) (hK:uQ P ak K tk) {S:Nat -> Prop} {w:World} (d:tk.D) {xs:List (tk.D×tv.D)} {l:List MapEntry} (h:ents S w ak tk av tv xs l):(Instr.findKey K (aK ak (aI tk d)) l).run P w=.ok (qB tk tv d xs l 0) w:=by
 obtain ⟨kind,hu⟩:=hT
 simp only [Instr.findKey,Sem.run_bind,run_underlying hu,Result.andThen_ok]
 split
 ·rename_i q hq
  rw [oD hu hK d xs l 0 q h hq]
  rfl
 ·exact jR hK d xs l 0 h
theorem nD {ak av:Bool} {tk tv:Ty} {S:Nat -> Prop} {w:World} (d:tk.D):∀ (xs:List (tk.D×tv.D)) (l:List MapEntry) (i:Nat),ents S w ak tk av tv xs l ->
  (qB tk tv d xs l i=none /\ jB tk tv d xs=none /\ ∀ z,vM tk tv d z xs=xs++[(d,z)]) \/
  ∃ j x e,xs[j]? = some x /\ l[j]? = some e /\ qB tk tv d xs l i=some (i+j,e.val) /\ jB tk tv d xs=some x.2 /\ fC tk d x.1=true /\ ∀ z,vM tk tv d z xs=xs.set j (d,z)
 | [],[],i,_=>.inl ⟨rfl,rfl,fun _=>rfl⟩
 | [],_::_,_,h=>h.elim
 | _::_,[],_,h=>h.elim
 | x::xs,e::l,i,h=>by
  simp only [ents] at h
  obtain ⟨_,h5⟩:=h
  simp only [qB,jB,vM]
  cases hb:fC tk d x.1 with
  | true=>exact .inr ⟨0,x,e,rfl,rfl,rfl,rfl,hb,fun _=>rfl⟩
  | false =>
   rcases nD d xs l (i+1) h5 with ⟨h1,h2,h3⟩ | ⟨j,x',e',h1,h2,h3,h4,h5,h6⟩
   ·exact .inl ⟨h1,h2,fun z=>by simp [h3 z]⟩
   ·exact .inr ⟨j+1,x',e',by simpa using h1,by simpa using h2,by simp only [h3];congr 2;omega,h4,h5,fun z=>by simp [h6 z]⟩
theorem wI {ak av:Bool} {tk tv:Ty} {S:Nat -> Prop} {w:World} {x:tk.D×tv.D} {f:MapEntry -> MapEntry}:∀ {xs:List (tk.D×tv.D)} {l:List MapEntry} (j:Nat),ents S w ak tk av tv xs l -> (∀ e,(f e).key=aK ak (aI tk x.1) /\ ∃ cs,(f e).val=aK av cs /\ (av=false -> cs.length=1 /\ ∀ u∈cs,u.oneCell'=true) /\ Kd.FK tv.kd w S x.2 cs) -> ents S w ak tk av tv (xs.set j x) (l.modify j f)
 | [],[],j,_,_=>by cases j <;> simp [ents,List.modify_nil]
 | [],_::_,_,h,_=>h.elim
 | _::_,[],_,h,_=>h.elim
 | y::xs,e::l,0,h,hf=>by
  simp only [ents] at h
  simp only [List.set_cons_zero,List.modify_zero_cons,ents]
  exact ⟨hf e,h.2⟩
 | y::xs,e::l,j+1,h,hf=>by
  simp only [ents] at h
  simp only [List.set_cons_succ,List.modify_succ_cons,ents]
  exact ⟨h.1,wI j h.2 hf⟩
theorem sQ {ak av:Bool} {tk tv:Ty} {S:Nat -> Prop} {w:World} {x:tk.D×tv.D} {e:MapEntry}:∀ {xs:List (tk.D×tv.D)} {l:List MapEntry},ents S w ak tk av tv xs l -> (e.key=aK ak (aI tk x.1) /\ ∃ cs,e.val=aK av cs /\ (av=false -> cs.length=1 /\ ∀ u∈cs,u.oneCell'=true) /\ Kd.FK tv.kd w S x.2 cs) -> ents S w ak tk av tv (xs++[x]) (l++[e])
 | [],[],_,he=>⟨he,trivial⟩
 | [],_::_,h,_=>h.elim
 | _::_,[],h,_=>h.elim
 | y::xs,e::l,h,he=>by
  simp only [ents] at h
  exact ⟨h.1,sQ h.2 he⟩
theorem qC {ak av:Bool} {tk tv:Ty} {S:Nat -> Prop} {w:World} {x:tk.D×tv.D} {e:MapEntry}:∀ {xs:List (tk.D×tv.D)} {l:List MapEntry} (j:Nat),ents S w ak tk av tv xs l -> xs[j]? = some x -> l[j]? = some e -> e.key=aK ak (aI tk x.1) /\ ∃ cs,e.val=aK av cs /\ (av=false -> cs.length=1 /\ ∀ u∈cs,u.oneCell'=true) /\ Kd.FK tv.kd w S x.2 cs
 | [],[],j,_,hx,_=>by simp at hx
 | [],_::_,_,h,_,_=>h.elim
 | _::_,[],_,h,_,_=>h.elim
 | y::xs,e'::l,0,h,hx,he=>by
  simp only [ents] at h
  simp at hx he
  subst hx;subst he
  exact h.1
 | y::xs,e'::l,j+1,h,hx,he=>by
  simp only [ents] at h
  simp at hx he
  exact qC j h.2 hx he
theorem vD:∀ (t:Ty) (a b:t.D),fC t a b=true -> a=b
 | .unit,_,_,_=>rfl
 | .int _,a,b,h=>eq_of_beq (α:=Int) h
 | .bool,a,b,h=>eq_of_beq (α:=Bool) h
 | .str,_,_,h=>by cases h
 | .sl _ _,_,_,h=>by cases h
 | .pair t u,a,b,h=>by
  simp only [fC,Bool.and_eq_true] at h
  exact Prod.ext (vD t _ _ h.1) (vD u _ _ h.2)
theorem lZ {n:Nat} {v:Value} (h:(∃ k i,v=.int k i) \/ (∃ x,v=.bool x)):Instr.sameBits n v v=true:=by
 rcases h with ⟨k,i,rfl⟩ | ⟨x,rfl⟩ <;> cases n <;> simp [Instr.sameBits]
theorem gN:∀ (t:Ty),t.gQ=true -> ∀ (x:t.D) (v:Value),v∈aI t x -> (∃ k i,v=.int k i) \/ (∃ x,v=.bool x)
 | .unit,_,_,_,h=>by cases h
 | .int k,_,x,v,h=>by simp only [aI,List.mem_singleton] at h;exact .inl ⟨k,x,h⟩
 | .bool,_,x,v,h=>by simp only [aI,List.mem_singleton] at h;exact .inr ⟨x,h⟩
 | .str,h,_,_,_=>by cases h
 | .sl _ _,h,_,_,_=>by cases h
 | .pair a b,hf,x,v,h=>by
  simp only [Ty.gQ,Bool.and_eq_true] at hf
  rcases List.mem_append.1 h with h | h
  ·exact gN a hf.1 _ v h
  ·exact gN b hf.2 _ v h
theorem mD:∀ (t:Ty),t.flat=true -> ∀ (x:t.D),(aI t x).length=t.sz
 | .unit,_,_ | .int _,_,_ | .bool,_,_ | .str,_,_=>rfl
 | .sl _ _,h,_=>by cases h
 | .pair a b,h,x=>by
  simp only [Ty.flat,Bool.and_eq_true] at h
  simp [aI,Ty.sz,mD a h.1,mD b h.2]
theorem vE {ak:Bool} {t:Ty} (hf:t.gQ=true) (x:t.D) (hl:ak=false -> (aI t x).length=1):Instr.sameBits 10000 (aK ak (aI t x)) (aK ak (aI t x))=true:=by
 cases ak with
 | true =>
  simp only [aK,Instr.sameBits,beq_self_eq_true,Bool.true_and]
  rw [List.all_eq_true]
  rintro ⟨u,v⟩ hp
  obtain ⟨i,hi,e⟩:=List.mem_iff_getElem.1 hp
  simp only [List.getElem_zip,Prod.mk.injEq] at e
  obtain ⟨e1,e2⟩:=e
  have:u=v:=by rw [<- e1,<- e2]
  subst this
  exact lZ (gN t hf x u (by rw [<- e1];exact List.getElem_mem _))
 | false =>
  have h1:=hl rfl
  cases hv:aI t x with
  | nil=>rw [hv] at h1;cases h1
  | cons u l =>
   simp only [aK,List.getD_cons_zero]
   exact lZ (gN t hf x u (by rw [hv];exact List.mem_cons_self))
theorem yH (hE:aH P E) {T k v:TypeId} {tk tv:Ty} (ho:o.op=.makeMap T none) (hT:E.map T=some (k,v)):aJ P c o s b ⟨.own b,[(b,some (.mp T (E.agg k) tk (E.agg v) tv []))],[b]⟩:=by
 intro s' a w μ Nm next Q hag hr hf hd hn
 have hrun:(execOp a.eval o).run P w=.ok (.value (.map (some w.heap.size))) (w.alloc (.map #[] 0)):=by
  simp only [execOp,ho]
  exact aR (by simp [Instr.makeMap,Sem.run_bind,Result.andThen])
 refine dM hrun ?_
 obtain ⟨μ',Nm',g1,g2,g3,g4,g5,g6⟩:=hr.add (nL (Below.refl _ _) (.map #[] 0)) b (hf b (Nat.le_refl _) (by omega)) (.mp T (E.agg k) tk (E.agg v) tv []) (.map (some w.heap.size)) (fun k hk=>by simp [blk] at hk;omega) (fun μ' Nm' S' hμ hb hN hS hS2=>by
  simp only [aF]
  exact ⟨w.heap.size,#[],0,hb,.inl hr.below.size,by show (w.heap.push _)[w.heap.size]? = _;simp,trivial⟩)
 have g7:=g1.put o.dst hd (v:=.own b) (x:=.map (some w.heap.size)) (by simp only [aA];exact ⟨g2,g3.symm,rfl⟩)
 refine hn _ _ μ' Nm' ?_ (fun n h=>(g4 n h).imp id (fun e=>by omega))
 rw [bL]
 rw [put_mem] at g7
 exact g7
theorem yI (hE:aH P E) {T k v:TypeId} {ts:List TypeId} {cl:Call} {n:Nat} {ak av:Bool} {tk tv:Ty} {es:List (tk.D×tv.D)} (ho:o.op=.call cl) (hc:cl.callee=.builtin .len) (hts:cl.argTypes.toList=T::ts) (hT:E.map T=some (k,v)) {y:Operand} (hy:cl.args.toList=[y]) (hx:s.op y=.own n) (hm:s.mem n=some (.mp T ak tk av tv es)):aJ P c o s b ⟨.int .i64 es.length,[],[n]⟩:=by
 refine aJ.pure fun s' a w μ Nm hag hr=>?_
 have h1:=hr.op y
 rw [hag.ops y (by simp [Op.operands,ho,Call.operands,hc,hy]),hx] at h1
 simp only [aA] at h1
 have hm':s'.mem n=some (.mp T ak tk av tv es):=by rw [hag.mem n (by simp)];exact hm
 have ho':=hr.objs n _ hm'
 simp only [aF] at ho'
 obtain ⟨g,l,iJ,e1,_,e3,e4⟩:=ho'
 rw [e1] at h1
 have hu:=hE.map T k v hT
 have hlen:∀ {xs:List (tk.D×tv.D)} {l:List MapEntry},ents (aD c μ s'.mem) w ak tk av tv xs l -> xs.length=l.length:=by
  intro xs
  induction xs with
  | nil=>intro l h;cases l with
   | nil=>rfl
   | cons _ _=>exact h.elim
  | cons x xs ih=>intro l h;cases l with
   | nil=>exact h.elim
   | cons e l=>simp only [ents] at h;simp [ih h.2]
 have f1:cl.argTypes[0]? = some T:=by rw [<- Array.getElem?_toList,hts];rfl
 have f2:(cl.args.map a.eval)[0]? = some (.map (some g)):=by rw [<- Array.getElem?_toList,Array.toList_map,hy];simp [h1.2.1]
 have f3:(Builtin.len_ cl.argTypes o.type (cl.args.map a.eval)).run P w=.ok (.int .i64 es.length) w:=by
  have:=hlen e4
  simp [Builtin.len_,f1,f2,run_underlying hu,Sem.run_bind,Result.andThen,goInt,cZ e3,this]
 exact ⟨_,by rw [bJ ho hc];exact aR f3,by simp only [aA]⟩
theorem rM {T:TypeId} {t:Ty} (hT:kM P E T t) (w:World):(zeroValue T).run P w=.ok (aK (E.agg T) (zeroV t)) w:=by
 obtain ⟨i,hi,hz⟩:=hT.zero
 simp [zeroValue,typeInfo,program,Sem.run_bind,Sem.run,hi,hz,Result.andThen]
theorem sS (hE:aH P E) {T:TypeId} {x i:Operand} {yJ:Bool} {n:Nat} {ak av:Bool} {tk tv:Ty} {es:List (tk.D×tv.D)} {d:tk.D} {ns:List Nat} {z:tv.D} {v:AV} (ho:o.op=.lookup T x i yJ) (hx:s.op x=.own n) (hm:s.mem n=some (.mp T ak tk av tv es)) (hB:mU E T ak tk av tv=true) (hp:bT s.mem ⟨ak,tk,false⟩ (s.op i)=some (d,ns))
  (hz:z=match jB tk tv d es with | some z=>z | none=>tv.z) (hv:(yJ=true /\ v=.zI [bQ av (unpack tv z),.bool (!isNone (jB tk tv d es))]) \/ (yJ=false /\ v=bQ av (unpack tv z))):aJ P c o s b ⟨v,[],n::ns⟩:=by
 refine aJ.pure fun s' a w μ Nm hag hr=>?_
 obtain ⟨k,v',hT,hu,hak,Qg,Ig,Qh,hEq⟩:=sP hE hB
 have h1:=hr.op x
 rw [hag.ops x (by simp [Op.operands,ho]),hx] at h1
 simp only [aA] at h1
 have hm':s'.mem n=some (.mp T ak tk av tv es):=by rw [hag.mem n (by simp)];exact hm
 have ho':=hr.objs n _ hm'
 simp only [aF] at ho'
 obtain ⟨g,l,iJ,e1,_,e3,e4⟩:=ho'
 rw [e1] at h1
 have h2:=hr.op i
 rw [hag.ops i (by simp [Op.operands,ho])] at h2
 obtain ⟨cs,k1,k2,k3⟩:=iD hr.objs (dZ hp (fun n' hn'=>hag.mem n' (List.mem_cons_of_mem _ hn'))) h2
 have k4:=iL tk hEq.flat d cs k3
 simp only at k1 k2
 rw [k4] at k1 k2
 obtain ⟨kind,hkind,_⟩:=Ig.und
 have hfind:=oF (P:=P) ⟨kind,hkind⟩ hEq d e4
 have hkey:=hEq.key l.isEmpty d w
 have hval:∃ vs,(Instr.lookup T (a.eval x) (a.eval i) yJ).run P w=.ok (if yJ=true then .tuple #[aK av vs,.bool (!isNone (jB tk tv d es))] else aK av vs) w /\ Kd.FK tv.kd w (aD c μ s'.mem) z vs:=by
  rcases nD d es l.toList 0 e4 with ⟨q1,q2,_⟩ | ⟨j,x',e',q1,q2,q3,q4,_,_⟩
  ·refine ⟨zeroV tv,?_,by rw [hz,q2];exact kD tv⟩
   rw [h1.2.1,k1,q2]
   rw [q1] at hfind
   simp only [Instr.lookup,Sem.run_bind,run_underlying hu,Result.andThen_ok,cZ e3,Sem.run_pure,hkey,hfind,rM Qh w,Qg,isNone,Bool.not_true]
  ·obtain ⟨_,vs,q5,_,q7⟩:=qC j e4 q1 q2
   refine ⟨vs,?_,by rw [hz,q4];exact q7⟩
   rw [h1.2.1,k1,q4]
   rw [q3] at hfind
   simp only [Instr.lookup,Sem.run_bind,run_underlying hu,Result.andThen_ok,cZ e3,Sem.run_pure,hkey,hfind,q5,isNone,Bool.not_false]
 obtain ⟨vs,hrun,hv2⟩:=hval
 have hrel:aA μ Nm (aD c μ s'.mem) w (bQ av (unpack tv z)) (aK av vs):=pU (bA _ _ _ hv2)
 refine ⟨_,by simp only [execOp,ho];exact aR hrun,?_⟩
 rcases hv with ⟨hc,rfl⟩ | ⟨hc,rfl⟩
 ·rw [if_pos hc]
  simp only [aA]
  exact ⟨_,rfl,by simp only [VRels,aA,and_true];exact hrel⟩
 ·rw [if_neg (by rw [hc];simp)]
  exact hrel
theorem Cr {ak av:Bool} {tk tv:Ty} {S:Nat -> Prop} {w:World}:∀ {xs:List (tk.D×tv.D)} {l:List MapEntry},ents S w ak tk av tv xs l -> xs.length=l.length
 | [],[],_=>rfl
 | [],_::_,h=>h.elim
 | _::_,[],h=>h.elim
 | x::xs,e::l,h=>by simp only [ents] at h;simp [Cr h.2]
theorem Av (hE:aH P E) {T:TypeId} {x i y:Operand} {n:Nat} {ak av:Bool} {tk tv:Ty} {es:List (tk.D×tv.D)} {d:tk.D} {z:tv.D} {ns0 ns:List Nat} (ho:o.op=.mapUpdate T x i y \/ o.op=.insert T x i y) (hx:s.op x=.own n) (hm:s.mem n=some (.mp T ak tk av tv es)) (hB:mU E T ak tk av tv=true) (hp:bT s.mem ⟨ak,tk,false⟩ (s.op i)=some (d,ns0)) (hq:bT s.mem ⟨av,tv,false⟩ (s.op y)=some (z,ns)) (hns:lM n ns=false) :
  aJ P c o s b ⟨.undef,dB s.mem ns++[(n,some (.mp T ak tk av tv (vM tk tv d z es)))],n::(ns0++ns)⟩:=by
 intro s' a w μ Nm next Q hag hr0 hf hd hn
 obtain ⟨k,v',hT,hu,hak,Qg,Ig,Qh,hEq⟩:=sP hE hB
 have hops:∀ u∈[x,i,y],s'.op u=s.op u:=fun u hu=>hag.ops u (by rcases ho with ho | ho <;> simp [Op.operands,ho] <;> simpa using hu)
 have h1:=hr0.op x
 rw [hops x (by simp),hx] at h1
 simp only [aA] at h1
 have hm':s'.mem n=some (.mp T ak tk av tv es):=by rw [hag.mem n (by simp)];exact hm
 rw [eY hag (ns:=ns) (fun n hn=>by simp [hn])] at hn
 have hnot:=pY (m:=s.mem) hns
 have h2:=hr0.op i
 rw [hops i (by simp)] at h2
 have h3:=hr0.op y
 rw [hops y (by simp)] at h3
 obtain ⟨cs,k1,k2,k3⟩:=iD hr0.objs (dZ hp (fun n' hn'=>hag.mem n' (by simp [hn']))) h2
 have k4:=iL tk hEq.flat d cs k3
 simp only at k1 k2
 rw [k4] at k1 k2
 have hq':=dZ (m':=s'.mem) hq (fun n' hn'=>hag.mem n' (by simp [hn']))
 obtain ⟨vs,l1,l2,l3⟩:=iD hr0.objs hq' h3
 simp only at l1 l2 l3
 obtain ⟨g1,g2,g3,g4,g5⟩:=Rel.nC ns (jP.refl s'.mem) hr0
 have hS0:∀ k,aX μ s'.mem (aD c μ s'.mem) ns k -> aD c μ (aB s'.mem (dB s'.mem ns)) k:=by
  intro k hk
  rcases hk with hk | ⟨n',hn',hl,hk⟩
  ·exact g2 k hk
  ·obtain ⟨f,e',t',ys,hmm⟩:=sM hq' n' hn'
   exact g3 n' hn' ⟨f,e',t',ys,hmm⟩ hl k hk
 have hm1:aB s'.mem (dB s'.mem ns) n=some (.mp T ak tk av tv es):=by rw [g5 n hnot];exact hm'
 have ho':=g1.objs n _ hm1
 simp only [aF] at ho'
 obtain ⟨g,l,iJ,e1,e2,e3,e4⟩:=ho'
 rw [e1] at h1
 obtain ⟨kind,hkind,_⟩:=Ig.und
 have hfind:=oF (P:=P) ⟨kind,hkind⟩ hEq d e4
 have hkey:=hEq.key false d w
 have Ih:g<w.heap.size:=(Array.getElem?_eq_some_iff.1 e3).1
 have key:∃ l' Ct,(Instr.mapUpdate T (a.eval x) (a.eval i) (a.eval y)).run P w=.ok () { w with heap:=w.heap.setIfInBounds g (.map l' Ct) } /\ ∀ (S':Nat -> Prop) (w':World),(∀ k,aD c μ (aB s'.mem (dB s'.mem ns)) k -> S' k) -> (∀ k,k≠g -> w'.heap[k]? = w.heap[k]?) -> ents S' w' ak tk av tv (vM tk tv d z es) l'.toList:=by
  have yC:∀ k,aD c μ (aB s'.mem (dB s'.mem ns)) k -> k≠g:=fun k hk e=>hk.2 n _ hm1 rfl (by rw [e1,e];rfl)
  have hnew:∀ (S':Nat -> Prop) (w':World),(∀ k,aD c μ (aB s'.mem (dB s'.mem ns)) k -> S' k) -> (∀ k,k≠g -> w'.heap[k]? = w.heap[k]?) -> Kd.FK tv.kd w' S' z vs:=fun S' w' hS' hw' =>
   Kd.aV (Kd.oL (Kd.jF (Kd.aV l3 hS0)) (fun k hk _=>hw' k (yC k hk.1))) (fun k hk=>hS' k hk.1)
  have hold:∀ (S':Nat -> Prop) (w':World),(∀ k,aD c μ (aB s'.mem (dB s'.mem ns)) k -> S' k) -> (∀ k,k≠g -> w'.heap[k]? = w.heap[k]?) -> ents S' w' ak tk av tv es l.toList:=fun S' w' hS' hw'=>gW (fun k hk _=>hw' k (yC k hk)) (fun k hk _=>hS' k hk) e4
  rcases nD d es l.toList 0 e4 with ⟨q1,q2,q3⟩ | ⟨j,x',e',q1,q2,q3,q4,q5,q6⟩
  ·refine ⟨l.push { key:=aK ak (aI tk d),val:=aK av vs,born:=iJ },iJ+1,?_,fun S' w' hS' hw'=>?_⟩
   ·rw [h1.2.1,k1,l1]
    rw [q1] at hfind
    simp only [Instr.mapUpdate,Sem.run_bind,run_underlying hu,Result.andThen_ok,cZ e3,hkey,hfind]
    rw [lF _ e3]
   ·rw [q3,Array.toList_push]
    exact sQ (hold S' w' hS' hw') ⟨rfl,vs,rfl,l2,hnew S' w' hS' hw'⟩
  ·have hx':=vD tk _ _ q5
   obtain ⟨q7,_⟩:=qC j e4 q1 q2
   refine ⟨l.modify j fun e=>{ e with key:=aK ak (aI tk d),val:=aK av vs },iJ,?_,fun S' w' hS' hw'=>?_⟩
   ·rw [h1.2.1,k1,l1]
    rw [q3] at hfind
    have hk0:(((l[0+j]?).map (·.key)).getD (aK ak (aI tk d)))=aK ak (aI tk d):=by
     rw [Nat.zero_add,<- Array.getElem?_toList,q2]
     simp [q7,hx']
    simp only [Instr.mapUpdate,Sem.run_bind,run_underlying hu,Result.andThen_ok,cZ e3,hkey,hfind,hk0,Instr.keyThatStays,vE hEq.gQ d (fun h=>by rw [mD tk hEq.flat];exact hEq.one h),if_true,Sem.run_pure]
    rw [lF _ e3,Nat.zero_add]
   ·rw [q6,Array.toList_modify]
    exact wI (x:=(d,z)) j (hold S' w' hS' hw') (fun e=>⟨rfl,vs,rfl,l2,hnew S' w' hS' hw'⟩)
 obtain ⟨l',Ct,hrun,Kc⟩:=key
 have hrun':(execOp a.eval o).run P w=.ok .skip { w with heap:=w.heap.setIfInBounds g (.map l' Ct) }:=by
  rcases ho with ho | ho
  ·simp only [execOp,ho];exact rZ hrun
  ·simp only [execOp,ho];exact rZ hrun
 refine jK hrun' ?_
 have hw':∀ k,k≠g -> ({ w with heap:=w.heap.setIfInBounds g (.map l' Ct) }:World).heap[k]? = w.heap[k]? := fun k hk=>Array.getElem?_setIfInBounds_ne (Ne.symm hk)
 have g6:=g1.swap (o1:=.mp T ak tk av tv (vM tk tv d z es)) hm1 rfl rfl (g:=g) (by rw [e1];rfl) hw' (by simp) rfl rfl rfl (fun S' hS'=>by
  simp only [aF]
  exact ⟨g,l',Ct,e1,e2,by show (w.heap.setIfInBounds g _)[g]? = _;simp [Ih],Kc S' _ hS' hw'⟩)
 have g7:=g6.put o.dst hd (v:=.undef) (x:=undef) (by simp only [aA])
 refine hn _ _ μ Nm ?_ (fun n hn=>.inl hn)
 rw [bL,bI]
 rw [put_mem,put_mem] at g7
 exact g7
end
end Go.Proofs.YtmmagcjlfcicfaaGreat.Ab
set_option linter.unusedVariables false
set_option linter.unusedSimpArgs false
namespace Go.Proofs.YtmmagcjlfcicfaaGreat.Ab
open Go.RowKit
theorem wJ {α R:Type} (tk:Ty) (k:tk.D) (κ:Option α -> Option R):∀ es:List (tk.D×α),zH tk k κ es=κ (jG tk k es)
 | []=>rfl
 | e::r=>by
  simp only [zH,jG]
  cases fC tk k e.1 with
  | true=>rfl
  | false=>exact wJ tk k κ r
section
variable {P:Program} {E:Env} {c:Ctx} {o:Oper} {s:St} {b:Nat} {R:Type} {κ:Eff -> Option R} {r:R} {μ:Nat -> Value} {Nm S:Nat -> Prop}
def nE (tk:Ty) (d:tk.D):List (tk.D×AV) -> List MapEntry -> Nat -> Option (Nat×Value)
 | x::xs,e::l,i=>match fC tk d x.1 with | true=>some (i,e.val) | false=>nE tk d xs l (i+1)
 | _,_,_=>none
theorem oG {K:TypeId} {ak:Bool} {tk:Ty} (hK:uQ P ak K tk) {w:World} (d:tk.D):∀ (xs:List (tk.D×AV)) (l:List MapEntry) (i:Nat),fZ μ Nm S w ak tk xs l -> (Instr.findAsking K (aK ak (aI tk d)) l i).run P w=.ok (nE tk d xs l i) w
 | [],[],i,_=>by simp [Instr.findAsking,nE]
 | [],_::_,_,h=>h.elim
 | _::_,[],_,h=>h.elim
 | x::xs,e::l,i,h=>by
  simp only [fZ] at h
  obtain ⟨⟨h1,_⟩,h5⟩:=h
  have h2:=hK.equal d x.1 w
  rw [<- h1] at h2
  simp only [Instr.findAsking,Sem.run_bind,h2,Result.andThen_ok,nE]
  cases hb:fC tk d x.1 with
  | true=>simp
  | false=>simpa using oG hK d xs l (i+1) h5
theorem wK {K:TypeId} {kind:TypeDesc} {ak:Bool} {tk:Ty} (hu:P.underlying K=some kind) (hK:uQ P ak K tk) {w:World} (d:tk.D):∀ (xs:List (tk.D×AV)) (l:List MapEntry) (i:Nat) (q:Option (Nat×Value)),fZ μ Nm S w ak tk xs l -> Instr.findNow kind (aK ak (aI tk d)) l i=some q -> q=nE tk d xs l i
 | [],[],i,q,_,h=>by simp [Instr.findNow] at h;simp [nE,h]
 | [],_::_,_,_,h,_=>h.elim
 | _::_,[],_,_,h,_=>h.elim
 | x::xs,e::l,i,q,h,hq=>by
  simp only [fZ] at h
  obtain ⟨⟨h1,_⟩,h5⟩:=h
  have h2:=hK.equal d x.1 w
  rw [<- h1] at h2
  simp only [Instr.findNow] at hq
  simp only [nE]
  split at hq
  ·rename_i hs
   rw [fA hu hs w] at h2
   injection h2 with h2 _
   rw [<- h2]
   injection hq with hq
   exact hq.symm
  ·rename_i hs
   rw [fA hu hs w] at h2
   injection h2 with h2 _
   rw [<- h2]
   exact wK hu hK d xs l (i+1) q h5 hq
  ·cases hq
theorem wL {K:TypeId} {ak:Bool} {tk:Ty} (hT:∃ kind,P.underlying K=some kind) (hK:uQ P ak K tk) {w:World} (d:tk.D) {xs:List (tk.D×AV)} {l:List MapEntry} (h:fZ μ Nm S w ak tk xs l):(Instr.findKey K (aK ak (aI tk d)) l).run P w=.ok (nE tk d xs l 0) w:=by
 obtain ⟨kind,hu⟩:=hT
 simp only [Instr.findKey,Sem.run_bind,run_underlying hu,Result.andThen_ok]
 split
 ·rename_i q hq
  rw [wK hu hK d xs l 0 q h hq]
  rfl
 ·exact oG hK d xs l 0 h
theorem sU {ak:Bool} {tk:Ty} {w:World} (d:tk.D):∀ (xs:List (tk.D×AV)) (l:List MapEntry) (i:Nat),fZ μ Nm S w ak tk xs l ->
  (nE tk d xs l i=none /\ jG tk d xs=none) \/ ∃ j v y,nE tk d xs l i=some (j,y) /\ jG tk d xs=some v /\ aA μ Nm S w v y
 | [],[],i,_=>.inl ⟨rfl,rfl⟩
 | [],_::_,_,h=>h.elim
 | _::_,[],_,h=>h.elim
 | x::xs,e::l,i,h=>by
  simp only [fZ] at h
  simp only [nE,jG]
  cases hb:fC tk d x.1 with
  | true=>exact .inr ⟨_,_,_,rfl,rfl,h.1.2⟩
  | false=>exact sU d xs l (i+1) h.2
theorem wM {ak:Bool} {tk:Ty} {w:World} {d:tk.D} {v:AV} {e0:MapEntry}:∀ {xs ys:List (tk.D×AV)} {l:List MapEntry} (i:Nat),fZ μ Nm S w ak tk xs l -> rT tk d v xs=some ys -> e0.key=aK ak (aI tk d) -> aA μ Nm S w v e0.val -> nE tk d xs l i=none /\ fZ μ Nm S w ak tk ys (l++[e0])
 | [],ys,[],i,_,h,h1,h2=>by simp only [rT] at h;injection h with h;subst h;exact ⟨rfl,⟨h1,h2⟩,trivial⟩
 | [],_,_::_,_,h,_,_,_=>h.elim
 | _::_,_,[],_,h,_,_,_=>h.elim
 | x::xs,ys,e::l,i,h,hp,h1,h2=>by
  simp only [fZ] at h
  simp only [rT] at hp
  simp only [nE]
  split at hp
  ·cases hp
  ·rename_i hb
   split at hp
   ·rename_i l' hl
    injection hp with hp
    subst hp
    obtain ⟨g1,g2⟩:=wM (i+1) h.2 hl h1 h2
    rw [hb]
    exact ⟨g1,h.1,g2⟩
   ·cases hp
theorem wN (hE:aH P E) {T:TypeId} {ak:Bool} {tk:Ty} (h:rU E T ak tk=true):∃ k v,P.underlying T=some (.map k v) /\ (∃ i z,P.info? v=some i /\ i.zero=some z) /\ E.agg k=ak /\ kM P E k tk /\ uQ P ak k tk:=by
 unfold rU at h
 split at h
 ·rename_i k v hm
  split at h
  ·rename_i tk' hk
   simp only [Bool.and_eq_true,beq_iff_eq] at h
   have e1:=Ty.beq_eq h.1
   subst e1
   have h3:=h.2.1
   subst h3
   obtain ⟨q1,q2⟩:=hE.zJ T k v hm
   exact ⟨k,v,q1,q2,rfl,hE.ty k _ hk,hE.Dy k _ h.2.2.1 hk⟩
  ·cases h
 ·cases h
theorem wO {T:TypeId} {ak:Bool} {tk:Ty} (ho:o.op=.makeMap T none):aJ P c o s b ⟨.own b,[(b,some (.fm T ak tk []))],[b]⟩:=by
 intro s' a w μ Nm next Q hag hr hf hd hn
 have hrun:(execOp a.eval o).run P w=.ok (.value (.map (some w.heap.size))) (w.alloc (.map #[] 0)):=by
  simp only [execOp,ho]
  exact aR (by simp [Instr.makeMap,Sem.run_bind,Result.andThen])
 refine dM hrun ?_
 obtain ⟨μ',Nm',g1,g2,g3,g4,g5,g6⟩:=hr.add (nL (Below.refl _ _) (.map #[] 0)) b (hf b (Nat.le_refl _) (by omega)) (.fm T ak tk []) (.map (some w.heap.size)) (fun k hk=>by simp [blk] at hk;omega) (fun μ' Nm' S' hμ hb hN hS hS2=>by
  simp only [aF]
  exact ⟨w.heap.size,#[],0,hb,.inl hr.below.size,by show (w.heap.push _)[w.heap.size]? = _;simp,trivial⟩)
 have g7:=g1.put o.dst hd (v:=.own b) (x:=.map (some w.heap.size)) (by simp only [aA];exact ⟨g2,g3.symm,rfl⟩)
 refine hn _ _ μ' Nm' ?_ (fun n h=>(g4 n h).imp id (fun e=>by omega))
 rw [bL]
 rw [put_mem] at g7
 exact g7
theorem iO (hE:aH P E) {T:TypeId} {x i:Operand} {yJ:Bool} {n:Nat} {ak:Bool} {tk:Ty} {es:List (tk.D×AV)} {d:tk.D} {ns:List Nat} {v:AV} (ho:o.op=.lookup T x i yJ) (hx:s.op x=.own n) (hm:s.mem n=some (.fm T ak tk es)) (hB:rU E T ak tk=true) (hp:bT s.mem ⟨ak,tk,false⟩ (s.op i)=some (d,ns))
  (hv:(yJ=true /\ ((∃ u,jG tk d es=some u /\ v=.zI [u,.bool true]) \/ (jG tk d es=none /\ v=.zI [.undef,.bool false]))) \/ (yJ=false /\ ((jG tk d es=some v) \/ (jG tk d es=none /\ v=.undef)))):aJ P c o s b ⟨v,[],n::ns⟩:=by
 refine aJ.pure fun s' a w μ Nm hag hr=>?_
 obtain ⟨k,v',hu,⟨i0,z0,hi0,hz0⟩,hak,Ig,hEq⟩:=wN hE hB
 have h1:=hr.op x
 rw [hag.ops x (by simp [Op.operands,ho]),hx] at h1
 simp only [aA] at h1
 have hm':s'.mem n=some (.fm T ak tk es):=by rw [hag.mem n (by simp)];exact hm
 have ho':=hr.objs n _ hm'
 simp only [aF] at ho'
 obtain ⟨g,l,iJ,e1,_,e3,e4⟩:=ho'
 rw [e1] at h1
 have h2:=hr.op i
 rw [hag.ops i (by simp [Op.operands,ho])] at h2
 obtain ⟨cs,k1,k2,k3⟩:=iD hr.objs (dZ hp (fun n' hn'=>hag.mem n' (List.mem_cons_of_mem _ hn'))) h2
 have k4:=iL tk hEq.flat d cs k3
 simp only at k1 k2
 rw [k4] at k1 k2
 obtain ⟨kind,hkind,_⟩:=Ig.und
 have hfind:=wL (P:=P) ⟨kind,hkind⟩ hEq d e4
 have hkey:=hEq.key l.isEmpty d w
 have Rv:(zeroValue v').run P w=.ok z0 w:=by simp [zeroValue,typeInfo,program,Sem.run_bind,Sem.run,hi0,hz0,Result.andThen]
 rcases sU d es l.toList 0 e4 with ⟨q1,q2⟩ | ⟨j,u,y,q1,q2,q3⟩
 ·rw [q1] at hfind
  have hrun:(Instr.lookup T (a.eval x) (a.eval i) yJ).run P w=.ok (if yJ=true then .tuple #[z0,.bool false] else z0) w:=by
   rw [h1.2.1,k1]
   simp only [Instr.lookup,Sem.run_bind,run_underlying hu,Result.andThen_ok,cZ e3,Sem.run_pure,hkey,hfind,Rv]
  refine ⟨_,by simp only [execOp,ho];exact aR hrun,?_⟩
  rcases hv with ⟨hc,⟨u,h3,_⟩ | ⟨_,rfl⟩⟩ | ⟨hc,h3 | ⟨_,rfl⟩⟩
  ·rw [q2] at h3;cases h3
  ·rw [if_pos hc];simp only [aA];exact ⟨_,rfl,by simp only [VRels,aA,and_true]⟩
  ·rw [q2] at h3;cases h3
  ·simp only [aA]
 ·rw [q1] at hfind
  have hrun:(Instr.lookup T (a.eval x) (a.eval i) yJ).run P w=.ok (if yJ=true then .tuple #[y,.bool true] else y) w:=by
   rw [h1.2.1,k1]
   simp only [Instr.lookup,Sem.run_bind,run_underlying hu,Result.andThen_ok,cZ e3,Sem.run_pure,hkey,hfind]
  refine ⟨_,by simp only [execOp,ho];exact aR hrun,?_⟩
  rcases hv with ⟨hc,⟨u',h3,rfl⟩ | ⟨h3,_⟩⟩ | ⟨hc,h3 | ⟨h3,_⟩⟩
  ·rw [q2] at h3;injection h3 with h3;subst h3
   rw [if_pos hc];simp only [aA];exact ⟨_,rfl,by simp only [VRels,aA,and_true];exact q3⟩
  ·rw [q2] at h3;cases h3
  ·rw [q2] at h3;injection h3 with h3;subst h3
   rw [if_neg (by rw [hc];simp)];exact q3
  ·rw [q2] at h3;cases h3
theorem yK (hE:aH P E) {T:TypeId} {x i y:Operand} {n:Nat} {ak:Bool} {tk:Ty} {es es':List (tk.D×AV)} {d:tk.D} {ns0:List Nat} (ho:o.op=.mapUpdate T x i y \/ o.op=.insert T x i y) (hx:s.op x=.own n) (hm:s.mem n=some (.fm T ak tk es)) (hB:rU E T ak tk=true) (hp:bT s.mem ⟨ak,tk,false⟩ (s.op i)=some (d,ns0)) (hq:rT tk d (s.op y) es=some es') :
  aJ P c o s b ⟨.undef,[(n,some (.fm T ak tk es'))],n::ns0⟩:=by
 intro s' a w μ Nm next Q hag hr hf hd hn
 obtain ⟨k,v',hu,_,hak,Ig,hEq⟩:=wN hE hB
 have hops:∀ u∈[x,i,y],s'.op u=s.op u:=fun u hu=>hag.ops u (by rcases ho with ho | ho <;> simp [Op.operands,ho] <;> simpa using hu)
 have h1:=hr.op x
 rw [hops x (by simp),hx] at h1
 simp only [aA] at h1
 have hm':s'.mem n=some (.fm T ak tk es):=by rw [hag.mem n (by simp)];exact hm
 have h2:=hr.op i
 rw [hops i (by simp)] at h2
 have h3:=hr.op y
 rw [hops y (by simp)] at h3
 obtain ⟨cs,k1,k2,k3⟩:=iD hr.objs (dZ hp (fun n' hn'=>hag.mem n' (by simp [hn']))) h2
 have k4:=iL tk hEq.flat d cs k3
 simp only at k1 k2
 rw [k4] at k1 k2
 have ho':=hr.objs n _ hm'
 simp only [aF] at ho'
 obtain ⟨g,l,iJ,e1,e2,e3,e4⟩:=ho'
 rw [e1] at h1
 obtain ⟨kind,hkind,_⟩:=Ig.und
 have hfind:=wL (P:=P) ⟨kind,hkind⟩ hEq d e4
 have hkey:=hEq.key false d w
 have Ih:g<w.heap.size:=(Array.getElem?_eq_some_iff.1 e3).1
 obtain ⟨q1,q2⟩:=wM (e0:={ key:=aK ak (aI tk d),val:=a.eval y,born:=iJ }) 0 e4 hq rfl h3
 rw [q1] at hfind
 have hrun:(Instr.mapUpdate T (a.eval x) (a.eval i) (a.eval y)).run P w=.ok () { w with heap:=w.heap.setIfInBounds g (.map (l.push { key:=aK ak (aI tk d),val:=a.eval y,born:=iJ }) (iJ+1)) }:=by
  rw [h1.2.1,k1]
  simp only [Instr.mapUpdate,Sem.run_bind,run_underlying hu,Result.andThen_ok,cZ e3,hkey,hfind]
  rw [lF _ e3]
 have hrun':(execOp a.eval o).run P w=.ok .skip { w with heap:=w.heap.setIfInBounds g (.map (l.push { key:=aK ak (aI tk d),val:=a.eval y,born:=iJ }) (iJ+1)) }:=by
  rcases ho with ho | ho
  ·simp only [execOp,ho];exact rZ hrun
  ·simp only [execOp,ho];exact rZ hrun
 refine jK hrun' ?_
 have yC:∀ k,aD c μ s'.mem k -> k≠g:=fun k hk e=>hk.2 n _ hm' rfl (by rw [e1,e];rfl)
 have hw':∀ k,k≠g -> ({ w with heap:=w.heap.setIfInBounds g (.map (l.push { key:=aK ak (aI tk d),val:=a.eval y,born:=iJ }) (iJ+1)) }:World).heap[k]? = w.heap[k]? := fun k hk=>Array.getElem?_setIfInBounds_ne (Ne.symm hk)
 have g6:=hr.swap (o1:=.fm T ak tk es') hm' rfl rfl (g:=g) (by rw [e1];rfl) hw' (by simp) rfl rfl rfl (fun S' hS'=>by
  simp only [aF]
  exact ⟨g,l.push { key:=aK ak (aI tk d),val:=a.eval y,born:=iJ },iJ+1,e1,e2,by show (w.heap.setIfInBounds g _)[g]? = _;simp [Ih],by rw [Array.toList_push];exact iK (fun k hk _=>hw' k (yC k hk)) (fun k hk _=>hS' k hk) (fun _ _=>rfl) (fun _ h=>h) q2⟩)
 have g7:=g6.put o.dst hd (v:=.undef) (x:=undef) (by simp only [aA])
 refine hn _ _ μ Nm ?_ (fun n hn=>.inl hn)
 rw [bL]
 rw [put_mem] at g7
 exact g7
end
end Go.Proofs.YtmmagcjlfcicfaaGreat.Ab
set_option linter.unusedVariables false
set_option linter.unusedSimpArgs false
namespace Go.Proofs.YtmmagcjlfcicfaaGreat.Ab
open Go.RowKit
section
variable {P:Program} {E:Env} {c:Ctx} {R:Type} {r:R}
variable {m:Nat -> Option Obj} {μ μ':Nat -> Value} {Nm Nm' S S':Nat -> Prop} {w:World} {np:Nat} {z:Bool}
theorem jS:∀ {l l':List Nat} {i:Nat},i<l.length -> aL (l++l') i=aL l i
 | [],_,_,h=>by simp at h
 | _::_,_,0,_=>rfl
 | _::l,l',i+1,h=>by simp only [List.cons_append,aL];exact jS (by simpa using h)
theorem jT:∀ {l l':List Nat} {i:Nat},aL (l++l') (l.length+i)=aL l' i
 | [],_,_=>by simp
 | _::l,l',i=>by
  rw [show (_::l:List Nat).length+i=(l.length+i)+1 by simp;omega]
  simp only [List.cons_append,aL]
  exact jT
theorem qD:∀ {l:List Nat} {i:Nat} (h:i<l.length),aL l i=l[i]
 | [],_,h=>by simp at h
 | _::_,0,_=>rfl
 | _::l,i+1,h=>by simp only [aL,List.getElem_cons_succ];exact qD (by simpa using h)
theorem Cu {k k' v v':Ty} {xs:List (k.D×v.D)} {ys:List (k'.D×v'.D)} (h:Bq k k' v v' xs=some ys):∃ (e:k=k') (e':v=v'),ys=e ▸ e' ▸ xs:=by
 unfold Bq at h
 split at h
 ·rename_i h1 h2
  injection h with h
  exact ⟨Ty.beq_eq h1,Ty.beq_eq h2,h.symm⟩
 ·cases h
theorem sV {w w':World} {S S':Nat -> Prop} {ak av:Bool} {tk tv:Ty} (hf:tv.flat=true):∀ {es:List (tk.D×tv.D)} {l:List MapEntry},ents S w ak tk av tv es l -> ents S' w' ak tk av tv es l
 | [],[],_=>trivial
 | [],_::_,h=>h
 | _::_,[],h=>h
 | x::xs,e::l,h=>by
  simp only [ents] at h ⊢
  obtain ⟨⟨h1,cs,h2,h3,h4⟩,h5⟩:=h
  exact ⟨⟨h1,cs,h2,h3,gL tv hf _ _ h4⟩,sV hf h5⟩
theorem kE {c:Ctx} {t:Ty} {e:TypeId} {w:World} {S S':Nat -> Prop} {v:Value} {xs:List t.D} (hS:t.flat=true \/ ∀ k,S k -> S' k) (h:NX c e w (fun k=>S k \/ some k=v.ownBlock) v xs):NX c e w (fun k=>S' k \/ some k=v.ownBlock) v xs:=by
 refine ⟨?_,h.2⟩
 rcases hS with hS | hS
 ·exact Ck hS h.1 (fun k hk=>.inr hk.symm)
 ·exact Kd.gP h.1 (fun k hk=>hk.imp (hS k) id)
theorem sW:∀ {ns:List Nat},vN m ns=true -> ∀ n∈ns,bP m n=false
 | n::ns,h,n',hn'=>by
  simp only [vN] at h
  split at h
  ·cases h
  ·rename_i e
   rcases List.mem_cons.1 hn' with rfl | hn'
   ·exact e
   ·exact sW h n' hn'
theorem yL {z:Bool}:∀ {ns:List Nat},vO z m ns=true -> vN m ns=true
 | [],_=>rfl
 | n::ns,h=>by cases z <;> simp only [vO] at h <;> first | exact h | cases h
theorem yM {z:Bool} {ns:List Nat} (h:vO z m ns=true) {k:Nat} (hk:aX μ m S ns k):S k:=by
 rcases hk with hk | ⟨n,hn,hl,_⟩
 ·exact hk
 ·rw [sW (yL h) n hn] at hl;cases hl
mutual
theorem mE (hm:∀ n o,m n=some o -> aF c μ Nm S w n o) (jE:∀ j,j<np -> Nm' j /\ μ' j=μ j):∀ (p:PV) (v:AV) (x:Value) (d:p.D) (ns:List Nat) (b:Nat),(iH p=true \/ ∀ k,S k -> S' k) -> grab z m np p v=some (d,ns) -> aA μ Nm S w v x -> (∀ i,i<ns.length -> μ' (b+i)=μ (aL ns i)) -> (∀ i,i<ns.length -> Nm' (b+i)) ->
  aA μ' Nm' S' w (lay p d b).1 x /\ (lay p d b).2.2=b+ns.length /\ (∀ q∈(lay p d b).2.1,∃ o i,i<ns.length /\ q=(b+i,some o) /\ o.live=true /\ aF c μ' Nm' S' w (b+i) o) /\ ∀ n∈ns,∃ o,m n=some o /\ o.live=true
 | .cell t,v,x,d,ns,b,hS,h,hv,hμ,hN=>by
  simp only [grab] at h
  split at h
  ·rename_i d' ns' hp
   split at h
   ·rename_i Ke
    injection h with h;injection h with h1 h2;subst h1;subst h2
    obtain ⟨v0,v1,he,hf,hr⟩:=cO hm _ _ _ _ _ [x] hp (by simp only [VRels,and_true];exact hv)
    have:=bG hr;subst this
    rw [List.append_nil] at he
    have hf':Kd.FK t.kd w S' d' v0:=by
     rcases hS with hS | hS
     ·exact gL t hS _ _ hf
     ·exact Kd.aV (Kd.aV hf (fun k hk=>yM Ke hk)) hS
    have h3:=dX (bA (μ:=μ') (Nm:=Nm') _ _ _ hf') 0
    rw [<- he] at h3
    refine ⟨by simpa [lay] using h3,by simp [lay],by simp [lay],by simp⟩
   ·cases h
  ·cases h
 | .own e t,v,x,d,ns,b,hS,h,hv,hμ,hN=>by
  cases v <;> simp only [grab] at h <;> try (cases h;done)
  rename_i n
  have hv':=hv
  obtain ⟨hN1,hxn⟩:=rY hm h hv
  rcases hxn with ⟨h1,h2,h3⟩ | ⟨n',h1,h2,h3⟩
  ·subst h1
   simp only [bD] at h
   split at h
   ·split at h
    ·split at h
     ·injection h with h;injection h with _ h;cases h
     ·cases h
    ·cases h
   ·cases h
  ·subst h1
   have hnn:n=n':=by
    simp only [bD] at h
    split at h
    ·split at h
     ·split at h
      ·injection h with h;injection h with _ h;simpa using h
      ·cases h
     ·cases h
    ·cases h
   subst hnn
   have hμb:μ' b=μ n:=by have:=hμ 0 (by simp);simpa [aL] using this
   have hNb:Nm' b:=by have:=hN 0 (by simp);simpa using this
   simp only [aA] at hv
   refine ⟨?_,by simp [lay],?_,?_⟩
   ·simp only [lay,aA]
    exact ⟨hNb,by rw [hμb];exact hv.2.1,hv.2.2⟩
   ·intro q hq
    simp only [lay,List.mem_singleton] at hq
    refine ⟨_,0,by simp,by simpa using hq,rfl,?_⟩
    simp only [aF,Nat.add_zero]
    rw [hμb]
    rw [hv.2.1] at hN1
    exact kE hS hN1
   ·intro n2 hn2
    rw [List.mem_singleton.1 hn2]
    exact ⟨_,h3,rfl⟩
 | .box T cs,v,x,d,ns,b,hS,h,hv,hμ,hN=>by
  cases v <;> simp only [grab] at h <;> try (cases h;done)
  rename_i n off
  split at h
  ·rename_i U xs hmn
   split at h
   ·rename_i hT
    have:=Nat.eq_of_beq_eq_true hT;subst this
    split at h
    ·rename_i d' ns' hg
     injection h with h;injection h with h1 h2;subst h1;subst h2
     simp only [aA] at hv
     have ho:=hm n _ hmn
     simp only [aF] at ho
     obtain ⟨g,vs,k1,k2,k3,k4⟩:=ho
     have hμb:μ' b=μ n:=by have:=hμ 0 (by simp);simpa [aL] using this
     have hNb:Nm' b:=by have:=hN 0 (by simp);simpa using this
     obtain ⟨g1,g2,g3,g4⟩:=dG hm jE cs xs vs.toList d' ns' (b+1) (by simpa only [iH] using hS) hg k4 (fun i hi=>by
      have:=hμ (i+1) (by simp;omega)
      rw [show b+1+i=b+(i+1) by omega,this];rfl) (fun i hi=>by
      have:=hN (i+1) (by simp;omega)
      rw [show b+1+i=b+(i+1) by omega];exact this)
     refine ⟨?_,?_,?_,?_⟩
     ·simp only [lay,aA]
      obtain ⟨_,g',e1,e2⟩:=hv
      exact ⟨hNb,g',by rw [hμb];exact e1,e2⟩
     ·simp only [lay];rw [g2];simp;omega
     ·intro q hq
      simp only [lay,List.mem_cons] at hq
      rcases hq with rfl | hq
      ·refine ⟨_,0,by simp,rfl,rfl,?_⟩
       simp only [aF,Nat.add_zero]
       exact ⟨g,vs,by rw [hμb];exact k1,k2,k3,g1⟩
      ·obtain ⟨o,i,h1,h2,h3,h4⟩:=g3 q hq
       refine ⟨o,i+1,by simp;omega,by rw [h2,show b+1+i=b+(i+1) by omega],h3,?_⟩
       rw [show b+(i+1)=b+1+i by omega];exact h4
     ·intro n2 hn2
      rcases List.mem_cons.1 hn2 with rfl | hn2
      ·exact ⟨_,hmn,rfl⟩
      ·exact g4 n2 hn2
    ·cases h
   ·cases h
  ·cases h
 | .agg cs,v,x,d,ns,b,hS,h,hv,hμ,hN=>by
  cases v <;> simp only [grab] at h <;> try (cases h;done)
  rename_i xs
  simp only [aA] at hv
  obtain ⟨vs,rfl,hvs⟩:=hv
  obtain ⟨g1,g2,g3,g4⟩:=dG hm jE cs xs vs.toList d ns b (by simpa only [iH] using hS) h hvs hμ hN
  refine ⟨?_,?_,?_,g4⟩
  ·simp only [lay,aA];exact ⟨vs,rfl,g1⟩
  ·simp only [lay];exact g2
  ·simp only [lay];exact g3
 | .nil,v,x,d,ns,b,hS,h,hv,hμ,hN=>by
  cases v <;> simp only [grab] at h <;> try (cases h;done)
  injection h with h;injection h with h1 h2;subst h2
  simp only [aA] at hv
  refine ⟨by simp only [lay,aA];exact hv,by simp [lay],by simp [lay],by simp⟩
 | .pin row j,v,x,d,ns,b,hS,h,hv,hμ,hN=>by
  cases row with
  | true =>
   cases v <;> simp only [grab] at h <;> try (cases h;done)
   rename_i n
   split at h
   ·rename_i hj
    simp only [Bool.and_eq_true,Nat.blt_eq] at hj
    have:=Nat.eq_of_beq_eq_true hj.1;subst this
    injection h with h;injection h with h1 h2;subst h2
    obtain ⟨p1,p2⟩:=jE n hj.2
    simp only [aA] at hv
    refine ⟨by simp only [lay,aA];exact ⟨p1,by rw [p2];exact hv.2.1,hv.2.2⟩,by simp [lay],by simp [lay],by simp⟩
   ·cases h
  | false =>
   cases v <;> simp only [grab] at h <;> try (cases h;done)
   rename_i n off
   cases off with
   | succ _=>cases h
   | zero =>
    simp only at h
    split at h
    ·rename_i hj
     simp only [Bool.and_eq_true,Nat.blt_eq] at hj
     have:=Nat.eq_of_beq_eq_true hj.1;subst this
     injection h with h;injection h with h1 h2;subst h2
     obtain ⟨p1,p2⟩:=jE n hj.2
     simp only [aA] at hv
     refine ⟨by simp only [lay,aA];exact ⟨p1,by rw [p2];exact hv.2⟩,by simp [lay],by simp [lay],by simp⟩
    ·cases h
 | .ref t,v,x,d,ns,b,hS,h,hv,hμ,hN=>by
  have hS':∀ k,S k -> S' k:=hS.resolve_left (by simp [iH])
  cases v <;> simp only [grab] at h <;> try (cases h;done)
  rename_i t' y off
  cases off with
  | succ _=>cases h
  | zero =>
   simp only at h
   cases hc:pE t' t y with
   | none=>rw [hc] at h;cases h
   | some y' =>
    rw [hc] at h
    injection h with h;injection h with h1 h2;subst h1;subst h2
    obtain ⟨e,hy⟩:=wG hc
    subst e;subst hy
    refine ⟨?_,by simp [lay],by simp [lay],by simp⟩
    simp only [lay,aA] at hv ⊢
    obtain ⟨ad,cs,h1,h2,h3,h4⟩:=hv
    exact ⟨ad,cs,h1,Kd.aV h2 hS',h3,fun h=>hS' _ (h4 h)⟩
 | .lJ g cs,v,x,d,ns,b,hS,h,hv,hμ,hN=>by
  cases v <;> simp only [grab] at h <;> try (cases h;done)
  rename_i g' xs
  split at h
  ·rename_i hg
   have:=Nat.eq_of_beq_eq_true hg;subst this
   simp only [aA] at hv
   obtain ⟨vs,rfl,hvs⟩:=hv
   obtain ⟨g1,g2,g3,g4⟩:=dG hm jE cs xs vs.toList d ns b (by simpa only [iH] using hS) h hvs hμ hN
   refine ⟨?_,?_,?_,g4⟩
   ·simp only [lay,aA];exact ⟨vs,rfl,g1⟩
   ·simp only [lay];exact g2
   ·simp only [lay];exact g3
  ·cases h
 | .mp T ak tk av tv,v,x,d,ns,b,hS,h,hv,hμ,hN=>by
  cases v <;> simp only [grab] at h <;> try (cases h;done)
  rename_i n
  split at h
  ·rename_i T' Mq tk' Mr tv' es hmn
   split at h
   ·rename_i hB
    simp only [Bool.and_eq_true,beq_iff_eq] at hB
    have e1:=Nat.eq_of_beq_eq_true hB.1
    obtain ⟨e2,e3⟩:=hB.2
    subst e1;subst e2;subst e3
    split at h
    ·rename_i es' hc
     injection h with h;injection h with h1 h2;subst h1;subst h2
     obtain ⟨e4,e5,e6⟩:=Cu hc
     subst e4;subst e5;subst e6
     have hμb:μ' b=μ n:=by have:=hμ 0 (by simp);simpa [aL] using this
     have hNb:Nm' b:=by have:=hN 0 (by simp);simpa using this
     simp only [aA] at hv
     have ho:=hm n _ hmn
     simp only [aF] at ho
     obtain ⟨g,l,iJ,k1,k2,k3,k4⟩:=ho
     refine ⟨?_,by simp [lay],?_,?_⟩
     ·simp only [lay,aA]
      exact ⟨hNb,by rw [hμb];exact hv.2.1,hv.2.2⟩
     ·intro q hq
      simp only [lay,List.mem_singleton] at hq
      refine ⟨_,0,by simp,by simpa using hq,rfl,?_⟩
      simp only [aF,Nat.add_zero]
      refine ⟨g,l,iJ,by rw [hμb];exact k1,k2,k3,?_⟩
      rcases hS with hS | hS
      ·exact sV hS k4
      ·exact gW (fun _ _ _=>rfl) (fun k hk _=>hS k hk) k4
     ·intro n2 hn2
      rw [List.mem_singleton.1 hn2]
      exact ⟨_,hmn,rfl⟩
    ·cases h
   ·cases h
  ·cases h
theorem dG (hm:∀ n o,m n=some o -> aF c μ Nm S w n o) (jE:∀ j,j<np -> Nm' j /\ μ' j=μ j):∀ (ps:List PV) (vs:List AV) (xs:List Value) (d:qY ps) (ns:List Nat) (b:Nat),(eZ ps=true \/ ∀ k,S k -> S' k) -> grabs z m np ps vs=some (d,ns) -> VRels μ Nm S w vs xs -> (∀ i,i<ns.length -> μ' (b+i)=μ (aL ns i)) -> (∀ i,i<ns.length -> Nm' (b+i)) ->
  VRels μ' Nm' S' w (lays ps d b).1 xs /\ (lays ps d b).2.2=b+ns.length /\ (∀ q∈(lays ps d b).2.1,∃ o i,i<ns.length /\ q=(b+i,some o) /\ o.live=true /\ aF c μ' Nm' S' w (b+i) o) /\ ∀ n∈ns,∃ o,m n=some o /\ o.live=true
 | [],vs,xs,d,ns,b,hS,h,hv,hμ,hN=>by
  cases vs with
  | nil =>
   simp only [grabs] at h
   injection h with h;injection h with h1 h2;subst h2
   have:=bG hv;subst this
   refine ⟨by simp only [lays,VRels],by simp [lays],by simp [lays],by simp⟩
  | cons _ _=>simp [grabs] at h
 | p::ps,vs,xs,d,ns,b,hS,h,hv,hμ,hN=>by
  cases vs with
  | nil=>simp [grabs] at h
  | cons v vs =>
   cases xs with
   | nil=>simp only [VRels] at hv
   | cons x xs =>
    simp only [VRels] at hv
    simp only [grabs] at h
    split at h
    ·rename_i d1 jJ h1
     split at h
     ·rename_i d2 pR h2
      injection h with h;injection h with e1 e2;subst e1;subst e2
      have hS1:iH p=true \/ ∀ k,S k -> S' k:=hS.imp (fun h=>by simp only [eZ,Bool.and_eq_true] at h;exact h.1) id
      have hS2:eZ ps=true \/ ∀ k,S k -> S' k:=hS.imp (fun h=>by simp only [eZ,Bool.and_eq_true] at h;exact h.2) id
      obtain ⟨g1,g2,g3,g4⟩:=mE hm jE p v x d1 jJ b hS1 h1 hv.1 (fun i hi=>by
       rw [hμ i (by simp;omega),jS hi]) (fun i hi=>hN i (by simp;omega))
      obtain ⟨k1,k2,k3,k4⟩:=dG hm jE ps vs xs d2 pR (b+jJ.length) hS2 h2 hv.2 (fun i hi=>by
       rw [show b+jJ.length+i=b+(jJ.length+i) by omega,hμ (jJ.length+i) (by simp;omega),jT]) (fun i hi=>by
       rw [show b+jJ.length+i=b+(jJ.length+i) by omega];exact hN (jJ.length+i) (by simp;omega))
      refine ⟨?_,?_,?_,?_⟩
      ·simp only [lays,VRels];rw [g2];exact ⟨g1,k1⟩
      ·simp only [lays];rw [g2,k2];simp;omega
      ·intro q hq
       simp only [lays] at hq
       rw [g2] at hq
       rcases List.mem_append.1 hq with hq | hq
       ·obtain ⟨o,i,a1,a2,a3⟩:=g3 q hq
        exact ⟨o,i,by simp;omega,a2,a3⟩
       ·obtain ⟨o,i,a1,a2,a3,a4⟩:=k3 q hq
        refine ⟨o,jJ.length+i,by simp;omega,by rw [a2,show b+jJ.length+i=b+(jJ.length+i) by omega],a3,?_⟩
        rw [show b+(jJ.length+i)=b+jJ.length+i by omega];exact a4
      ·intro n hn
       rcases List.mem_append.1 hn with hn | hn
       ·exact g4 n hn
       ·exact k4 n hn
     ·cases h
    ·cases h
end
theorem iP:∀ {l:List Nat},nodupB l=true -> l.Nodup
 | [],_=>List.nodup_nil
 | n::l,h=>by
  simp only [nodupB,Bool.and_eq_true,Bool.not_eq_true'] at h
  refine List.nodup_cons.2 ⟨fun hn=>?_,iP h.2⟩
  rw [(jQ n l).2 hn] at h
  cases h.1
theorem dH {n:Nat} {o:Obj}:∀ {us:List (Nat×Option Obj)} {m:Nat -> Option Obj},aB m us n=some o -> (n,some o)∈us \/ m n=some o
 | [],_,h=>.inr h
 | (i,o')::us,m,h=>by
  simp only [aB] at h
  rcases dH h with h1 | h1
  ·exact .inl (List.mem_cons_of_mem _ h1)
  ·rw [aC] at h1
   by_cases e:i=n
   ·rw [if_pos e] at h1;rw [e,h1];exact .inl List.mem_cons_self
   ·rw [if_neg e] at h1;exact .inr h1
end
end Go.Proofs.YtmmagcjlfcicfaaGreat.Ab
set_option linter.unusedVariables false
set_option linter.unusedSimpArgs false
namespace Go.Proofs.YtmmagcjlfcicfaaGreat.Ab
open Go.RowKit
section
variable {P:Program} {E:Env} {c:Ctx} {o:Oper} {s:St} {b:Nat} {R:Type} {κ:Eff -> Option R} {r:R}
theorem jU {n:Nat}:∀ (us:List (Nat×Option Obj)) {m m':Nat -> Option Obj},m n=m' n -> aB m us n=aB m' us n
 | [],_,_,h=>h
 | (i,o)::us,m,m',h=>by
  simp only [aB]
  refine jU us ?_
  rw [aC,aC]
  split <;> first | rfl | exact h
theorem eB {n:Nat}:∀ (us:List (Nat×Option Obj)) {m:Nat -> Option Obj},(∀ p∈us,p.1≠n) -> aB m us n=m n
 | [],_,_=>rfl
 | (i,o)::us,m,h=>by
  simp only [aB]
  rw [eB us (fun p hp=>h p (List.mem_cons_of_mem _ hp)),aC,if_neg (h (i,o) List.mem_cons_self)]
theorem lG (own:Bool):∀ (t:Ty) (x:t.D) (b:Nat),b <= (bN own t x b).2.2 /\ ∀ p∈(bN own t x b).2.1,b <= p.1 /\ p.1<(bN own t x b).2.2
 | .unit,x,b=>by simp [bN]
 | .int k,x,b=>by simp [bN]
 | .bool,x,b=>by simp [bN]
 | .str,x,b=>by simp [bN]
 | .sl e t,x,b=>by cases own <;> simp [bN]
 | .pair t1 t2,x,b=>by
  have h1:=lG own t1 x.1 b
  have h2:=lG own t2 x.2 (bN own t1 x.1 b).2.2
  simp only [bN]
  refine ⟨Nat.le_trans h1.1 h2.1,fun p hp=>?_⟩
  rcases List.mem_append.1 hp with hp | hp
  ·exact ⟨(h1.2 p hp).1,Nat.lt_of_lt_of_le (h1.2 p hp).2 h2.1⟩
  ·exact ⟨Nat.le_trans h1.1 (h2.2 p hp).1,(h2.2 p hp).2⟩
mutual
theorem sZ:∀ (p:PV) (x:p.D) (b:Nat),b <= (lay p x b).2.2 /\ ∀ q∈(lay p x b).2.1,b <= q.1 /\ q.1<(lay p x b).2.2
 | .cell t,x,b=>by simp [lay]
 | .own e t,x,b=>by simp [lay]
 | .box T cs,x,b=>by
  have h:=gF cs x (b+1)
  simp only [lay]
  refine ⟨Nat.le_trans (Nat.le_succ b) h.1,fun q hq=>?_⟩
  rcases List.mem_cons.1 hq with rfl | hq
  ·exact ⟨Nat.le_refl _,h.1⟩
  ·exact ⟨Nat.le_trans (Nat.le_succ b) (h.2 q hq).1,(h.2 q hq).2⟩
 | .agg cs,x,b=>by simp only [lay];exact gF cs x b
 | .nil,x,b=>by simp [lay]
 | .pin row j,x,b=>by simp [lay]
 | .ref t,x,b=>by simp [lay]
 | .lJ g cs,x,b=>by simp only [lay];exact gF cs x b
 | .mp T ak tk av tv,x,b=>by simp [lay]
theorem gF:∀ (ps:List PV) (x:qY ps) (b:Nat),b <= (lays ps x b).2.2 /\ ∀ q∈(lays ps x b).2.1,b <= q.1 /\ q.1<(lays ps x b).2.2
 | [],x,b=>by simp [lays]
 | p::ps,x,b=>by
  have h1:=sZ p x.1 b
  have h2:=gF ps x.2 (lay p x.1 b).2.2
  simp only [lays]
  refine ⟨Nat.le_trans h1.1 h2.1,fun q hq=>?_⟩
  rcases List.mem_append.1 hq with hq | hq
  ·exact ⟨(h1.2 q hq).1,Nat.lt_of_lt_of_le (h1.2 q hq).2 h2.1⟩
  ·exact ⟨Nat.le_trans h1.1 (h2.2 q hq).1,(h2.2 q hq).2⟩
end
theorem iQ:∀ (rs:List RT) (x:RD rs) (b:Nat),b <= (bR rs x b).2.2 /\ ∀ p∈(bR rs x b).2.1,b <= p.1 /\ p.1<(bR rs x b).2.2
 | [],x,b=>by simp [bR]
 | .val v::rs,x,b=>by
  have h1:=lG v.own v.t x.1 b
  have h2:=iQ rs x.2 (bN v.own v.t x.1 b).2.2
  simp only [bR]
  refine ⟨Nat.le_trans h1.1 h2.1,fun p hp=>?_⟩
  rcases List.mem_append.1 hp with hp | hp
  ·exact ⟨(h1.2 p hp).1,Nat.lt_of_lt_of_le (h1.2 p hp).2 h2.1⟩
  ·exact ⟨Nat.le_trans h1.1 (h2.2 p hp).1,(h2.2 p hp).2⟩
 | .pv q::rs,x,b=>by
  have h1:=sZ q x.1 b
  have h2:=iQ rs x.2 (lay q x.1 b).2.2
  simp only [bR]
  refine ⟨Nat.le_trans h1.1 h2.1,fun p hp=>?_⟩
  rcases List.mem_append.1 hp with hp | hp
  ·exact ⟨(h1.2 p hp).1,Nat.lt_of_lt_of_le (h1.2 p hp).2 h2.1⟩
  ·exact ⟨Nat.le_trans h1.1 (h2.2 p hp).1,(h2.2 p hp).2⟩
theorem dV:∀ (ps:List PT) (o:MD ps) (pn:Nat -> Nat) (j b:Nat),b <= (bO ps o pn j b).2 /\ ∀ p∈(bO ps o pn j b).1,(∃ i,i<aG ps /\ p.1=pn (j+i)) \/ (b <= p.1 /\ p.1<(bO ps o pn j b).2)
 | [],o,pn,j,b=>by simp [bO]
 | .val v::ps,o,pn,j,b=>by simp only [bO,aG];exact dV ps o pn j b
 | .pv v::ps,o,pn,j,b=>by simp only [bO,aG];exact dV ps o pn j b
 | .gv v::ps,o,pn,j,b=>by simp only [bO,aG];exact dV ps o pn j b
 | .give e t::ps,o,pn,j,b=>by
  have h:=dV ps o pn (j+1) b
  simp only [bO,aG]
  refine ⟨h.1,fun p hp=>?_⟩
  rcases List.mem_cons.1 hp with rfl | hp
  ·exact .inl ⟨0,by omega,rfl⟩
  ·rcases h.2 p hp with ⟨i,h1,h2⟩ | h2
   ·exact .inl ⟨i+1,by omega,by rw [h2];congr 1;omega⟩
   ·exact .inr h2
 | .fT e t::ps,o,pn,j,b=>by
  have h:=dV ps o.2 pn (j+1) b
  simp only [bO,aG]
  refine ⟨h.1,fun p hp=>?_⟩
  rcases List.mem_cons.1 hp with rfl | hp
  ·exact .inl ⟨0,by omega,rfl⟩
  ·rcases h.2 p hp with ⟨i,h1,h2⟩ | h2
   ·exact .inl ⟨i+1,by omega,by rw [h2];congr 1;omega⟩
   ·exact .inr h2
 | .fK T cs::ps,o,pn,j,b=>by
  have h0:=gF cs o.1 b
  have h:=dV ps o.2 pn (j+1) (lays cs o.1 b).2.2
  simp only [bO,aG]
  refine ⟨Nat.le_trans h0.1 h.1,fun p hp=>?_⟩
  rcases List.mem_cons.1 hp with rfl | hp
  ·exact .inl ⟨0,by omega,rfl⟩
  ·rcases List.mem_append.1 hp with hp | hp
   ·exact .inr ⟨(h0.2 p hp).1,Nat.lt_of_lt_of_le (h0.2 p hp).2 h.1⟩
   ·rcases h.2 p hp with ⟨i,h1,h2⟩ | h2
    ·exact .inl ⟨i+1,by omega,by rw [h2];congr 1;omega⟩
    ·exact .inr ⟨Nat.le_trans h0.1 h2.1,h2.2⟩
theorem yN (ps:List PT) (rs:List RT) (q:RD rs×MD ps) (pn:Nat -> Nat) (b:Nat):b <= kX ps rs q pn b /\ ∀ p∈bW ps rs q pn b,(∃ i,i<aG ps /\ p.1=pn i) \/ (b <= p.1 /\ p.1<kX ps rs q pn b):=by
 have h1:=iQ rs q.1 b
 have h2:=dV ps q.2 pn 0 (bR rs q.1 b).2.2
 unfold kX bW
 refine ⟨Nat.le_trans h1.1 h2.1,fun p hp=>?_⟩
 rcases List.mem_append.1 hp with hp | hp
 ·exact .inr ⟨(h1.2 p hp).1,Nat.lt_of_lt_of_le (h1.2 p hp).2 h2.1⟩
 ·rcases h2.2 p hp with ⟨i,h3,h4⟩ | h3
  ·exact .inl ⟨i,h3,by rw [h4,Nat.zero_add]⟩
  ·exact .inr ⟨Nat.le_trans h1.1 h3.1,h3.2⟩
theorem mF {c1 c2:Ctx} {μ μ':Nat -> Value} {Nm Nm' S S':Nat -> Prop} {w:World} (n:Nat) (o:Obj) (hX:o.live=true -> ∀ k,blk (μ n)=some k -> c2.base <= k \/ c2.X k) (hS:∀ k,S k -> S' k) (hμ:∀ n,Nm n -> μ' n=μ n) (hN:∀ n,Nm n -> Nm' n) (hn:Nm n) (h:aF c1 μ Nm S w n o):aF c2 μ' Nm' S' w n o:=by
 cases o with
 | row f e t xs =>
  cases f with
  | true =>
   simp only [aF] at h ⊢
   rw [hμ n hn]
   exact ⟨Kd.gP h.1 (fun k hk=>hk.imp (hS k) id),fun k hk=>hX rfl k (jZ hk)⟩
  | false =>
   simp only [aF] at h ⊢
   rw [hμ n hn]
   exact Kd.dQ h hS
 | box T cs =>
  simp only [aF] at h ⊢
  obtain ⟨g,vs,h1,h2,h3,h4⟩:=h
  exact ⟨g,vs,by rw [hμ n hn];exact h1,hX rfl g (by rw [h1];rfl),h3,aZ (fun _ _ _=>rfl) (fun k h _=>hS k h) hμ hN cs vs.toList h4⟩
 | mp T ak tk av tv es =>
  simp only [aF] at h ⊢
  obtain ⟨g,l,iJ,h1,h2,h3,h4⟩:=h
  exact ⟨g,l,iJ,by rw [hμ n hn];exact h1,hX rfl g (by rw [h1];rfl),h3,gW (fun _ _ _=>rfl) (fun k h _=>hS k h) h4⟩
 | fm T ak tk es =>
  simp only [aF] at h ⊢
  obtain ⟨g,l,iJ,h1,h2,h3,h4⟩:=h
  exact ⟨g,l,iJ,by rw [hμ n hn];exact h1,hX rfl g (by rw [h1];rfl),h3,iK (fun _ _ _=>rfl) (fun k h _=>hS k h) hμ hN h4⟩
theorem kQ {c1:Ctx} {μ:Nat -> Value} {Nm S:Nat -> Prop} {w:World} {n:Nat} {o:Obj} (h:aF c1 μ Nm S w n o) (hl:o.live=true) {k:Nat} (hk:blk (μ n)=some k):c1.base <= k \/ c1.X k:=by
 cases o with
 | row f e t xs =>
  cases f with
  | true =>
   simp only [aF] at h
   exact h.2 k ((Cj h.1 k).1 hk)
  | false=>cases hl
 | box T cs =>
  simp only [aF] at h
  obtain ⟨g,vs,h1,h2,h3,h4⟩:=h
  rw [h1] at hk
  simp [blk] at hk
  subst hk
  exact h2
 | mp T ak tk av tv es =>
  simp only [aF] at h
  obtain ⟨g,l,iJ,h1,h2,h3,h4⟩:=h
  rw [h1] at hk
  simp [blk] at hk
  subst hk
  exact h2
 | fm T ak tk es =>
  simp only [aF] at h
  obtain ⟨g,l,iJ,h1,h2,h3,h4⟩:=h
  rw [h1] at hk
  simp [blk] at hk
  subst hk
  exact h2
theorem iE {m:Nat -> Option Obj} {e:TypeId} {t:Ty} {n:Nat} {xs:List t.D} {l:List Nat} (h:bD m e t (.own n)=some (xs,l)):m n=some (.row true e t xs):=by
 simp only [bD] at h
 split at h
 ·rename_i e' t' ys hn
  split at h
  ·rename_i he
   have:=Nat.eq_of_beq_eq_true he;subst this
   split at h
   ·rename_i zs hc
    injection h with h;injection h with h1 h2;subst h1
    obtain ⟨rfl,rfl⟩:=fD hc
    exact hn
   ·cases h
  ·cases h
 ·cases h
theorem rO {f:FuncId} {fn:Func} (hf:P.funcs[f]? = some fn) (h1:(fn.name == "runtime.NumGoroutine")=false) (h2:fn.body.isNone=false) (args:Array Value) (w:World):(callFunc f args).run P w=.ok (.enter f args) w:=by
 simp only [callFunc,Sem.run_bind,program,Sem.run,hf,Result.andThen_ok,h1,h2,Bool.false_eq_true,if_false]
 rfl
theorem nG {m:Nat -> Option Obj} {μ μ':Nat -> Value} {Nm Nm' S S':Nat -> Prop} {w:World} (hm:∀ n o,m n=some o -> aF c μ Nm S w n o) (hS:∀ k,S k -> S' k):∀ (ps:List PT) (xs:List AV) (ys:List Value) (x:AD ps) (ns pn is:List Nat) (j b:Nat),gV m ps xs=some (x,ns,pn,is) -> VRels μ Nm S w xs ys -> (∀ k,aX μ m S ns k -> S' k) ->
  (∀ i,i<pn.length -> μ' (j+i)=μ (aL pn i) /\ Nm' (j+i)) -> (∀ i,i<is.length -> μ' (b+i)=μ (aL is i) /\ Nm' (b+i)) ->
  VRels μ' Nm' S' w (inP ps x j b).1 ys /\ (inP ps x j b).2.2=b+is.length /\ pn.length=aG ps /\
   (∀ q∈(inP ps x j b).2.1,∃ i o,o.live=true /\ ((i<pn.length /\ q=(j+i,some o) /\ aF c μ' Nm' S' w (j+i) o) \/ (i<is.length /\ q=(b+i,some o) /\ aF c μ' Nm' S' w (b+i) o))) /\
   (∀ n∈pn++is,∃ o,m n=some o /\ o.live=true) /\ ∀ n∈ns,∃ o,m n=some o
 | [],xs,ys,x,ns,pn,is,j,b,h,hv,hB,hp,hi=>by
  cases xs with
  | cons _ _=>simp [gV] at h
  | nil =>
   simp only [gV] at h
   injection h with h;injection h with h1 h2;injection h2 with h2 h3;injection h3 with h3 h4
   subst h2;subst h3;subst h4
   have:=bG hv;subst this
   exact ⟨by simp only [inP,VRels],rfl,rfl,by simp [inP],by simp,by simp⟩
 | p::ps,xs,ys,x,ns,pn,is,j,b,h,hv,hB,hp,hi=>by
  cases xs with
  | nil=>simp [gV] at h
  | cons a xs =>
   cases ys with
   | nil=>simp only [VRels] at hv
   | cons y ys =>
    simp only [VRels] at hv
    simp only [gV] at h
    split at h
    ·rename_i d1 jJ Jh is1 h1
     split at h
     ·rename_i d2 pR Nf is2 h2
      injection h with h;injection h with e1 e2;injection e2 with e2 e3;injection e3 with e3 e4
      subst e1;subst e2;subst e3;subst e4
      have rest:=fun j' b' hp' hi'=>nG (μ':=μ') (Nm':=Nm') hm hS ps xs ys d2 pR Nf is2 j' b' h2 hv.2 (fun k hk=>hB k (fE hk)) hp' hi'
      cases p with
      | val v =>
       simp only [fU] at h1
       cases hpk:bT m v a with
       | none=>rw [hpk] at h1;cases h1
       | some dn =>
        obtain ⟨d,n1⟩:=dn
        rw [hpk] at h1
        injection h1 with h1;injection h1 with q1 q2;injection q2 with q2 q3;injection q3 with q3 q4
        subst q1;subst q2;subst q3;subst q4
        simp only [List.nil_append] at hp hi ⊢
        obtain ⟨g1,g2,g3,g4,g5,g6⟩:=rest j b hp hi
        simp only [inP,aG]
        refine ⟨?_,g2,g3,g4,g5,fun n hn=>?_⟩
        ·simp only [VRels]
         exact ⟨dW (fun _ _ _=>rfl) (fun k hk _=>hB k (eU hk)) (fun _ h=>h.elim) (fun _ h=>h.elim) _ _ (Au hm hpk hv.1),g1⟩
        ·rcases List.mem_append.1 hn with hn | hn
         ·obtain ⟨_,_,_,_,hh⟩:=sM hpk n hn;exact ⟨_,hh⟩
         ·exact g6 n hn
      | pv q =>
       simp only [fU] at h1
       cases hpk:aU m q a with
       | none=>rw [hpk] at h1;cases h1
       | some dn =>
        obtain ⟨d,n1⟩:=dn
        rw [hpk] at h1
        injection h1 with h1;injection h1 with q1 q2;injection q2 with q2 q3;injection q3 with q3 q4
        subst q1;subst q2;subst q3;subst q4
        simp only [List.nil_append] at hp hi ⊢
        obtain ⟨l1,l2,l3⟩:=sN (μ':=μ') (Nm':=Nm') hm q a y d n1 b hpk hv.1
        obtain ⟨g1,g2,g3,g4,g5,g6⟩:=rest j b hp hi
        simp only [inP,aG]
        rw [l3,l2]
        refine ⟨?_,g2,g3,by simpa using g4,g5,fun n hn=>?_⟩
        ·simp only [VRels]
         exact ⟨dW (fun _ _ _=>rfl) (fun k hk _=>hB k (eU hk)) (fun _ _=>rfl) (fun _ h=>h) _ _ l1,g1⟩
        ·rcases List.mem_append.1 hn with hn | hn
         ·exact sO q a d n1 hpk n hn
         ·exact g6 n hn
      | gv p =>
       simp only [fU] at h1
       split at h1
       ·rename_i d is' hg
        injection h1 with h1;injection h1 with q1 q2;injection q2 with q2 q3;injection q3 with q3 q4
        subst q1;subst q2;subst q3;subst q4
        simp only [List.nil_append] at hp
        obtain ⟨m1,m2,m3,m4⟩:=mE (z:=false) (np:=0) (μ':=μ') (Nm':=Nm') (S':=S') hm (fun j hj=>absurd hj (by omega)) p a y d is' b (.inr hS) hg hv.1 (fun i hlt=>by rw [(hi i (by simp;omega)).1,jS hlt]) (fun i hlt=>(hi i (by simp;omega)).2)
        obtain ⟨g1,g2,g3,g4,g5,g6⟩:=rest j (b+is'.length) hp (fun i hlt=>by
         have:=hi (is'.length+i) (by simp;omega)
         rw [show b+is'.length+i=b+(is'.length+i) by omega];rw [jT] at this;exact this)
        simp only [inP,aG]
        rw [m2]
        refine ⟨?_,by rw [g2];simp;omega,by simpa using g3,fun q hq=>?_,fun n' hn'=>?_,by simpa using g6⟩
        ·simp only [VRels];exact ⟨m1,g1⟩
        ·rcases List.mem_append.1 hq with hq | hq
         ·obtain ⟨o,i,a1,a2,a3,a4⟩:=m3 q hq
          exact ⟨i,o,a3,.inr ⟨by simp;omega,a2,a4⟩⟩
         ·obtain ⟨i,o,a1,a2⟩:=g4 q hq
          rcases a2 with ⟨a2,a3,a4⟩ | ⟨a2,a3,a4⟩
          ·exact ⟨i,o,a1,.inl ⟨by simpa using a2,a3,a4⟩⟩
          ·refine ⟨is'.length+i,o,a1,.inr ⟨by simp;omega,by rw [a3,show b+is'.length+i=b+(is'.length+i) by omega],?_⟩⟩
           rw [show b+(is'.length+i)=b+is'.length+i by omega];exact a4
        ·simp only [List.mem_append,List.nil_append] at hn'
         rcases hn' with hn' | hn' | hn'
         ·exact g5 n' (List.mem_append_left _ hn')
         ·exact m4 n' hn'
         ·exact g5 n' (List.mem_append_right _ hn')
       ·cases h1
      | fK T cs =>
       simp only [fU] at h1
       split at h1
       ·rename_i n
        split at h1
        ·rename_i U zs hmn
         split at h1
         ·rename_i hT
          have:=Nat.eq_of_beq_eq_true hT;subst this
          split at h1
          ·rename_i d is' hg
           injection h1 with h1;injection h1 with q1 q2;injection q2 with q2 q3;injection q3 with q3 q4
           subst q1;subst q2;subst q3;subst q4
           have mQ:=hm n _ hmn
           simp only [aF] at mQ
           obtain ⟨g,vs,k1,k2,k3,k4⟩:=mQ
           have hj:=hp 0 (by simp)
           simp only [Nat.add_zero,List.cons_append,aL] at hj
           obtain ⟨m1,m2,m3,m4⟩:=dG (z:=false) (np:=0) (μ':=μ') (Nm':=Nm') (S':=S') hm (fun j hj=>absurd hj (by omega)) cs zs vs.toList d is' b (.inr hS) hg k4 (fun i hlt=>by rw [(hi i (by simp;omega)).1,jS hlt]) (fun i hlt=>(hi i (by simp;omega)).2)
           obtain ⟨g1,g2,g3,g4,g5,g6⟩   := rest (j+1) (b+is'.length) (fun i hlt=>by
            have:=hp (i+1) (by simp;omega)
            rw [show j+1+i=j+(i+1) by omega];simpa [aL] using this) (fun i hlt=>by
            have:=hi (is'.length+i) (by simp;omega)
            rw [show b+is'.length+i=b+(is'.length+i) by omega];rw [jT] at this;exact this)
           simp only [inP,aG]
           rw [m2]
           refine ⟨?_,by rw [g2];simp;omega,by simp;omega,fun q hq=>?_,fun n' hn'=>?_,by simpa using g6⟩
           ·simp only [VRels,aA]
            have hv1:=hv.1
            simp only [aA] at hv1
            exact ⟨⟨hj.2,by rw [hj.1];exact hv1.2⟩,g1⟩
           ·rcases List.mem_cons.1 hq with rfl | hq
            ·refine ⟨0,_,rfl,.inl ⟨by simp,rfl,?_⟩⟩
             simp only [aF,Nat.add_zero]
             exact ⟨g,vs,by rw [hj.1];exact k1,k2,k3,m1⟩
            ·rcases List.mem_append.1 hq with hq | hq
             ·obtain ⟨o,i,a1,a2,a3,a4⟩:=m3 q hq
              exact ⟨i,o,a3,.inr ⟨by simp;omega,a2,a4⟩⟩
             ·obtain ⟨i,o,a1,a2⟩:=g4 q hq
              rcases a2 with ⟨a2,a3,a4⟩ | ⟨a2,a3,a4⟩
              ·refine ⟨i+1,o,a1,.inl ⟨by simp;omega,by rw [a3,show j+1+i=j+(i+1) by omega],?_⟩⟩
               rw [show j+(i+1)=j+1+i by omega];exact a4
              ·refine ⟨is'.length+i,o,a1,.inr ⟨by simp;omega,by rw [a3,show b+is'.length+i=b+(is'.length+i) by omega],?_⟩⟩
               rw [show b+(is'.length+i)=b+is'.length+i by omega];exact a4
           ·simp only [List.mem_append,List.mem_cons,List.not_mem_nil,or_false] at hn'
            rcases hn' with (hn' | hn') | hn' | hn'
            ·subst hn';exact ⟨_,hmn,rfl⟩
            ·exact g5 n' (List.mem_append_left _ hn')
            ·exact m4 n' hn'
            ·exact g5 n' (List.mem_append_right _ hn')
          ·cases h1
         ·cases h1
        ·cases h1
       ·cases h1
      | fT e t =>
       simp only [fU] at h1
       split at h1
       ·rename_i n
        split at h1
        ·rename_i d _ ho
         injection h1 with h1;injection h1 with q1 q2;injection q2 with q2 q3;injection q3 with q3 q4
         subst q1;subst q2;subst q3;subst q4
         have hmn:=iE ho
         have mQ:=hm n _ hmn
         simp only [aF] at mQ
         have hj:=hp 0 (by simp)
         simp only [Nat.add_zero,List.cons_append,aL] at hj
         simp only [List.nil_append] at hi
         obtain ⟨g1,g2,g3,g4,g5,g6⟩   := rest (j+1) b (fun i hlt=>by
          have:=hp (i+1) (by simp;omega)
          rw [show j+1+i=j+(i+1) by omega];simpa [aL] using this) hi
         simp only [inP,aG]
         refine ⟨?_,by rw [g2];simp,by simp;omega,fun q hq=>?_,fun n' hn'=>?_,by simpa using g6⟩
         ·simp only [VRels,aA]
          have hv1:=hv.1
          simp only [aA] at hv1
          exact ⟨⟨hj.2,by rw [hj.1];exact hv1.2.1,hv1.2.2⟩,g1⟩
         ·rcases List.mem_cons.1 hq with rfl | hq
          ·refine ⟨0,_,rfl,.inl ⟨by simp,rfl,?_⟩⟩
           simp only [aF,Nat.add_zero]
           rw [hj.1]
           exact kE (.inr hS) mQ
          ·obtain ⟨i,o,a1,a2⟩:=g4 q hq
           rcases a2 with ⟨a2,a3,a4⟩ | ⟨a2,a3,a4⟩
           ·refine ⟨i+1,o,a1,.inl ⟨by simp;omega,by rw [a3,show j+1+i=j+(i+1) by omega],?_⟩⟩
            rw [show j+(i+1)=j+1+i by omega];exact a4
           ·exact ⟨i,o,a1,.inr ⟨by simpa using a2,a3,a4⟩⟩
         ·simp only [List.mem_append,List.mem_cons,List.not_mem_nil,or_false,List.nil_append] at hn'
          rcases hn' with (hn' | hn') | hn'
          ·subst hn';exact ⟨_,hmn,rfl⟩
          ·exact g5 n' (List.mem_append_left _ hn')
          ·exact g5 n' (List.mem_append_right _ (by simpa using hn'))
        ·cases h1
       ·cases h1
      | give e t =>
       simp only [fU] at h1
       split at h1
       ·rename_i n
        split at h1
        ·rename_i d _ ho
         injection h1 with h1;injection h1 with q1 q2;injection q2 with q2 q3;injection q3 with q3 q4
         subst q1;subst q2;subst q3;subst q4
         have hmn:=iE ho
         have mQ:=hm n _ hmn
         simp only [aF] at mQ
         have hj:=hp 0 (by simp)
         simp only [Nat.add_zero,List.cons_append,aL] at hj
         simp only [List.nil_append] at hi
         obtain ⟨g1,g2,g3,g4,g5,g6⟩   := rest (j+1) b (fun i hlt=>by
          have:=hp (i+1) (by simp;omega)
          rw [show j+1+i=j+(i+1) by omega];simpa [aL] using this) hi
         simp only [inP,aG]
         refine ⟨?_,by rw [g2];simp,by simp;omega,fun q hq=>?_,fun n' hn'=>?_,by simpa using g6⟩
         ·simp only [VRels,aA]
          have hv1:=hv.1
          simp only [aA] at hv1
          exact ⟨⟨hj.2,by rw [hj.1];exact hv1.2.1,hv1.2.2⟩,g1⟩
         ·rcases List.mem_cons.1 hq with rfl | hq
          ·refine ⟨0,_,rfl,.inl ⟨by simp,rfl,?_⟩⟩
           simp only [aF,Nat.add_zero]
           rw [hj.1]
           exact kE (.inr hS) mQ
          ·obtain ⟨i,o,a1,a2⟩:=g4 q hq
           rcases a2 with ⟨a2,a3,a4⟩ | ⟨a2,a3,a4⟩
           ·refine ⟨i+1,o,a1,.inl ⟨by simp;omega,by rw [a3,show j+1+i=j+(i+1) by omega],?_⟩⟩
            rw [show j+(i+1)=j+1+i by omega];exact a4
           ·exact ⟨i,o,a1,.inr ⟨by simpa using a2,a3,a4⟩⟩
         ·simp only [List.mem_append,List.mem_cons,List.not_mem_nil,or_false,List.nil_append] at hn'
          rcases hn' with (hn' | hn') | hn'
          ·subst hn';exact ⟨_,hmn,rfl⟩
          ·exact g5 n' (List.mem_append_left _ hn')
          ·exact g5 n' (List.mem_append_right _ (by simpa using hn'))
        ·cases h1
       ·cases h1
     ·cases h
    ·cases h
end
end Go.Proofs.YtmmagcjlfcicfaaGreat.Ab
set_option linter.unusedVariables false
set_option linter.unusedSimpArgs false
namespace Go.Proofs.YtmmagcjlfcicfaaGreat.Ab
open Go.RowKit
theorem aS.drop' {α:Type} {R:α -> List Value -> Prop} {sz:Nat}:∀ {xs:List α} {cs:List Value} (m:Nat),aS R sz xs cs -> aS R sz (xs.drop m) (cs.drop (m * sz))
 | _,_,0,h=>by rw [Nat.zero_mul];exact h
 | [],_,m+1,h=>by rw [show _=[] from h];simp [aS]
 | x::xs,_,m+1,⟨c,r,e,h1,h2,h3⟩=>by
  rw [List.drop_succ_cons,e,show (m+1) * sz=c.length+m * sz by rw [Nat.add_mul];omega,<- List.drop_drop,List.drop_left]
  exact aS.drop' m h3
theorem Ev {α:Type} {d:Kd α} {e base g len cap:Nat} {w:World} {ok qX:Nat -> Prop} {xs ys:List α} {vs:List Value} (h:Kd.N d e w base ok (.slice (some ⟨g,0,none⟩) len cap) xs) (hy:aS (d.FK w qX) d.sz ys vs) (i:Nat) (hi:i+ys.length <= xs.length) (oV:∀ k,qX k -> ok k /\ k≠g) :
  Kd.N d e (w.setCells g (i * d.sz) vs) base ok (.slice (some ⟨g,0,none⟩) len cap) (xs.take i++ys++xs.drop (i+ys.length)) /\ w.grownBy (w.setCells g (i * d.sz) vs) (some g):=by
 obtain ⟨q0,cs,ho,hr⟩:=h
 have hlen:=hr.len
 have hyl:=hy.len
 rcases ho.2 with ⟨q,_⟩ | ⟨g',cap',cur,q,hb,hh,hcap,hmx,hs,ht⟩
 ·cases q
 injection q with q1 q2 q3
 injection q1 with q1
 injection q1 with q1
 subst q1;subst q3
 have e1:(i+ys.length) * d.sz=i * d.sz+ys.length * d.sz:=Nat.add_mul _ _ _
 have e2:(i+ys.length) * d.sz <= xs.length * d.sz:=Nat.mul_le_mul_right _ hi
 have hsz:xs.length * d.sz <= cap * d.sz:=Nat.mul_le_mul_right _ hcap
 obtain ⟨cur',s1,s2⟩:=Kd.dN vs (i * d.sz) w cur hh (by omega)
 have hgrow:=Kd.bM g vs (i * d.sz) w
 have far:=hgrow.block
 have hl:(xs.take i++ys++xs.drop (i+ys.length)).length=xs.length:=by simp only [List.length_append,List.length_take,List.length_drop];omega
 have hr':=hr.imp (R':=d.FK (w.setCells g (i * d.sz) vs) (fun k=>ok k /\ some k≠(Value.slice (some ⟨g,0,none⟩) len cap).ownBlock)) (fun _ _ q=>d.stay (fun k hk hl=>⟨far k hl hk.2,hk⟩) q)
 have hy':=hy.imp (R':=d.FK (w.setCells g (i * d.sz) vs) (fun k=>ok k /\ some k≠(Value.slice (some ⟨g,0,none⟩) len cap).ownBlock)) (fun _ _ q=>d.stay (fun k hk hl=>⟨far k hl (fun e=>(oV k hk).2 (by injection e)),(oV k hk).1,fun e=>(oV k hk).2 (by injection e)⟩) q)
 refine ⟨⟨q0,cs.take (i * d.sz)++vs++cs.drop ((i+ys.length) * d.sz),⟨?_,.inr ⟨g,cap,cur',by rw [hl,q2],hb,s1,by rw [hl];exact hcap,hmx,?_,?_⟩⟩,((hr'.take i).app hy').app (aS.drop' (i+ys.length) hr')⟩,hgrow⟩
 ·rw [hl];simp only [List.length_append,List.length_take,List.length_drop];omega
 ·rw [<- Array.length_toList,s2];simp only [List.length_append,List.length_take,List.length_drop,Array.length_toList];omega
 ·rw [s2,hl,<- ht,hyl]
  apply List.ext_getElem?
  intro m
  simp only [List.append_assoc,List.getElem?_append,List.length_take,Array.length_toList,List.getElem?_take,List.getElem?_drop]
  grind
section
variable {P:Program} {E:Env} {c:Ctx} {o:Oper} {s:St} {b:Nat}
theorem Ew {z:Array Value} (hz:0<z.size) (n:Nat):(Builtin.zeroCells z n).toList=(List.replicate n z.toList).flatten:=by
 rw [<- Kd.jX hz n];rfl
theorem Cv (hE:aH P E) {T e:TypeId} {t:Ty} {ts:List TypeId} {xs:List t.D} {n z:Nat} {l h:Int} {cl:Call} (ho:o.op=.call cl) (hc:cl.callee=.builtin .clear) (hts:cl.argTypes.toList=T::ts) (hT:E.elem T=some e) (ht:E.ty e=some t) {y:Operand} (hy:cl.args.toList=[y]) (hyx:s.op y=.vw n z l h) (hz:z=t.sz) (hm:s.mem n=some (.row true e t xs)) :
  aJ P c o s b ⟨.undef,[(n,some (.row true e t (xs.take l.toNat++List.replicate (h.toNat - l.toNat) t.z++xs.drop h.toNat)))],[n]⟩:=by
 intro s' a w μ Nm next Q hag hr hf hd hn
 subst hz
 have hm1:s'.mem n=some (.row true e t xs):=by rw [hag.mem n (by simp)];exact hm
 have h1:=hr.op y
 rw [hag.ops y (by simp [Op.operands,ho,Call.operands,hc,hy]),hyx] at h1
 simp only [aA] at h1
 obtain ⟨hnm,hl0,hlh,A,len,cap,hg,hh,hcap,hx⟩:=h1
 have hN0:=hr.objs n _ hm1
 simp only [aF] at hN0
 rw [hg] at hN0
 obtain ⟨i0,z,i1,i2,i3,i4,i5⟩:=(hE.ty e t ht).info
 have hu:=hE.elem T e hT
 have e1:cl.argTypes[0]? = some T:=by rw [<- Array.getElem?_toList,hts];rfl
 have e2:(cl.args.map a.eval)[0]? = some (a.eval y):=by rw [<- Array.getElem?_toList,Array.toList_map,hy];rfl
 by_cases h0:h.toNat - l.toNat=0
 ·have hle:l.toNat=h.toNat:=by omega
  have hsame:xs.take l.toNat++List.replicate (h.toNat - l.toNat) t.z++xs.drop h.toNat=xs:=by rw [h0,hle];simp
  have hrun:(Builtin.clear_ cl.argTypes o.type (cl.args.map a.eval)).run P w=.ok (.tuple #[]) w:=by
   rw [hx,h0] at e2
   generalize (if cap=l.toNat then A else A.map (·.add (l.toNat * t.sz)))=B at e2
   cases B <;> simp [Builtin.clear_,e1,e2,run_underlying hu]
  refine dM (by rw [bJ ho hc];exact aR hrun) ?_
  have g6:=hr.put o.dst hd (v:=.undef) (x:=.tuple #[]) (by simp only [aA])
  refine hn _ _ μ Nm ?_ (fun n hn=>.inl hn)
  rw [bL]
  have hmm:aB s'.mem [(n,some (.row true e t (xs.take l.toNat++List.replicate (h.toNat - l.toNat) t.z++xs.drop h.toNat)))]=s'.mem:=by
   rw [hsame]
   funext q
   simp only [aB,aC]
   split
   ·rename_i e;subst e;exact hm1.symm
   ·rfl
  rw [hmm]
  rw [<- put_mem (d:=o.dst) (v:=AV.undef)]
  exact g6
 ·cases A with
  | none =>
   exfalso
   obtain ⟨_,cs,ho2,_⟩:=hN0.1
   rcases ho2.2 with ⟨q,q2⟩ | ⟨g,cap',cur,q,_⟩
   ·injection q with _ q3 _
    omega
   ·cases q
  | some ad =>
   obtain ⟨g,cur,rfl,hcur,hlen,hcs⟩:∃ g cur,ad=⟨g,0,none⟩ /\ w.heap[g]? = some (.cells cur e (0,0)) /\ xs.length=len /\ cur.size=cap * t.sz:=by
    obtain ⟨_,cs,ho2,_⟩:=hN0.1
    rcases ho2.2 with ⟨q,q2⟩ | ⟨g,cap',cur,q,_,q4,_,_,q7,_⟩
    ·cases q
    ·injection q with q1 q2 q3
     injection q1 with q1
     exact ⟨g,cur,q1,q4,q2.symm,by rw [q3];rw [aW] at q7;exact q7⟩
   have hls:l.toNat+(h.toNat - l.toNat)=h.toNat:=by omega
   have Ud:h.toNat <= xs.length:=by omega
   have hsz:z.cells.size=t.sz:=by rw [<- Array.length_toList,i5,gZ]
   have hne:¬ cap=l.toNat:=by omega
   rw [if_neg hne] at hx
   have hx:a.eval y=.slice (some ⟨g,l.toNat * t.sz,none⟩) (h.toNat - l.toNat) (cap - l.toNat):=by
    rw [hx];simp [Addr.add];exact fun q=>q.symm
   rw [hx] at e2
   have hvs:(Builtin.zeroCells z.cells (h.toNat - l.toNat)).toList=(List.replicate (h.toNat - l.toNat) (zeroV t)).flatten:=by rw [Ew (by rw [hsz];exact (hE.ty e t ht).pos),i5]
   have hvl:(Builtin.zeroCells z.cells (h.toNat - l.toNat)).toList.length=(h.toNat - l.toNat) * t.sz:=by rw [Array.length_toList,size_zeroCells,hsz]
   have hrep:aS (t.kd.FK w (fun k=>aD c μ s'.mem k)) t.kd.sz (List.replicate (h.toNat - l.toNat) t.z) (Builtin.zeroCells z.cells (h.toNat - l.toNat)).toList:=by
    rw [hvs];exact aS.rep (by rw [aW,gZ]) (kD t) _
   have yC:∀ k,aD c μ s'.mem k -> k≠g:=fun k hk e=>hk.2 n _ hm1 rfl (by rw [hg,e];rfl)
   obtain ⟨Dz,dL⟩:=Ev hN0.1 hrep l.toNat (by rw [List.length_replicate];omega) (fun k hk=>⟨.inl hk,yC k hk⟩)
   rw [List.length_replicate,hls,aW] at Dz
   rw [aW] at dL
   have hb3:(l.toNat+(h.toNat - l.toNat)) * t.sz <= cap * t.sz:=Nat.mul_le_mul_right _ (by omega)
   rw [Nat.add_mul] at hb3
   have hst:=run_storeCells_cells (P:=P) g (l.toNat * t.sz) (Builtin.zeroCells z.cells (h.toNat - l.toNat)).toList 0 w (fun j hj=>by
    rw [cell_of_row w g _ cur e (0,0) hcur,Array.getElem?_eq_getElem (by omega)];rfl) (fun j _=>Kd.fQ hcur _) (hrep.one (fun _ _ q=>t.kd.one q))
   rw [Nat.add_zero] at hst
   have hrun:(Builtin.clear_ cl.argTypes o.type (cl.args.map a.eval)).run P w=.ok (.tuple #[]) (w.setCells g (l.toNat * t.sz) (Builtin.zeroCells z.cells (h.toNat - l.toNat)).toList):=by
    obtain ⟨m,hm'⟩:∃ m,h.toNat - l.toNat=m+1:=⟨h.toNat - l.toNat - 1,by omega⟩
    rw [hm'] at e2 hst ⊢
    simp [Builtin.clear_,e1,e2,run_underlying hu,zeroValue,typeInfo,i1,i4,hst]
   refine dM (by rw [bJ ho hc];exact aR hrun) ?_
   let ys:=xs.take l.toNat++List.replicate (h.toNat - l.toNat) t.z++xs.drop h.toNat
   have hS:∀ k,aD c μ s'.mem k -> aD c μ (dK s'.mem n (some (.row true e t ys))) k:=fun k hk=>⟨hk.1,fun n' o' hn' hl'=>by
    rw [aC] at hn'
    by_cases e:n=n'
    ·subst e;exact hk.2 n _ hm1 rfl
    ·simp only [e,if_false] at hn';exact hk.2 n' o' hn' hl'⟩
   have key:Rel c { s' with mem:=dK s'.mem n (some (.row true e t ys)) } a (w.setCells g (l.toNat * t.sz) (Builtin.zeroCells z.cells (h.toNat - l.toNat)).toList) μ Nm:=by
    have hbase:c.base <= g \/ c.X g:=hN0.2 g (by simp [Value.ownBlock])
    refine hr.next (s':={ s' with mem:=dK s'.mem n (some (.row true e t ys)) }) hr.size hr.defers (hr.below.trans ⟨dL.os,dL.tape,dL.output,dL.size,fun k hk hX=>dL.block k (Nat.lt_of_lt_of_le hk hr.below.size) (fun e=>by injection e with e;subst e;rcases hbase with h | h;exact absurd hk (by omega);exact hX h)⟩) (fun k hk hlt=>dL.block k hlt (fun e=>yC k hk (by injection e))) (fun k hk _=>hS k hk) (fun _ _=>rfl) (fun _ h=>h) (fun n' o' hn'=>?_) (fun n1 n2 o1 o2 q1 q2 l1 l2 hne k hk=>?_) (fun x=>.inl ⟨rfl,rfl⟩)
    ·simp only [aC] at hn'
     by_cases e:n=n'
     ·simp only [e,if_true] at hn'
      injection hn' with hn';subst hn';subst e
      refine .inr ⟨hnm,?_⟩
      simp only [aF]
      rw [hg]
      exact ⟨Kd.gP Dz (fun k hk=>hk.imp (hS k) id),fun k hk=>by simp [Value.ownBlock] at hk;subst hk;exact hbase⟩
     ·simp only [e,if_false] at hn'
      exact .inl ⟨hn',fun hl' k hk=>dL.block k (hr.aT hn' hl' hk).2.1 (fun e2=>hr.dist n n' _ o' hm1 hn' rfl hl' e g (by rw [hg];rfl) (by rw [hk];exact e2))⟩
    ·simp only [aC] at q1 q2
     have w1:∃ uZ,s'.mem n1=some uZ /\ uZ.live=true:=by
      by_cases e:n=n1
      ·subst e;exact ⟨_,hm1,rfl⟩
      ·simp only [e,if_false] at q1;exact ⟨o1,q1,l1⟩
     have w2:∃ vB,s'.mem n2=some vB /\ vB.live=true:=by
      by_cases e:n=n2
      ·subst e;exact ⟨_,hm1,rfl⟩
      ·simp only [e,if_false] at q2;exact ⟨o2,q2,l2⟩
     obtain ⟨uZ,w1,m1⟩:=w1
     obtain ⟨vB,w2,m2⟩:=w2
     exact hr.dist n1 n2 uZ vB w1 w2 m1 m2 hne k hk
   have g6:=key.put o.dst hd (v:=.undef) (x:=.tuple #[]) (by simp only [aA])
   refine hn _ _ μ Nm ?_ (fun n hn=>.inl hn)
   rw [bL]
   rw [put_mem] at g6
   exact g6
end
end Go.Proofs.YtmmagcjlfcicfaaGreat.Ab
set_option linter.unusedVariables false
set_option linter.unusedSimpArgs false
namespace Go.Proofs.YtmmagcjlfcicfaaGreat.Ab
open Go.RowKit
section
variable {P:Program} {E:Env} {c:Ctx} {o:Oper} {s:St} {b:Nat} {R:Type} {κ:Eff -> Option R} {r:R}
theorem zS {n:Nat}:∀ (us:List (Nat×Option Obj)) {m m':Nat -> Option Obj},n∈us.map (·.1) -> aB m us n=aB m' us n
 | [],_,_,h=>by simp at h
 | (i,o)::us,m,m',h=>by
  simp only [aB]
  by_cases h1:n∈us.map (·.1)
  ·exact zS us h1
  ·have hi:n=i:=by
    simp only [List.map_cons,List.mem_cons] at h
    exact h.resolve_right h1
   subst hi
   exact jU us (by rw [aC,aC,if_pos rfl,if_pos rfl])
theorem qE:∀ (l:List Nat) (m:Nat -> Option Obj) (n:Nat),aB m (eH l) n=if n∈l then none else m n
 | [],m,n=>by simp [eH,aB]
 | i::l,m,n=>by
  simp only [eH,aB]
  rw [qE l]
  by_cases h:n∈l
  ·simp [h]
  ·rw [if_neg h,aC]
   by_cases e:i=n
   ·simp [e]
   ·simp [e,h,Ne.symm e]
theorem iR:∀ (ps:List PT) (o:MD ps) (pn:Nat -> Nat) (j b i:Nat),i<aG ps -> pn (j+i)∈(bO ps o pn j b).1.map (·.1)
 | [],_,_,_,_,_,h=>by simp [aG] at h
 | .val v::ps,o,pn,j,b,i,h=>by simp only [bO];exact iR ps o pn j b i h
 | .pv v::ps,o,pn,j,b,i,h=>by simp only [bO];exact iR ps o pn j b i h
 | .gv v::ps,o,pn,j,b,i,h=>by simp only [bO];exact iR ps o pn j b i h
 | .give e t::ps,o,pn,j,b,i,h=>by
  simp only [bO,List.map_cons,List.mem_cons]
  cases i with
  | zero=>exact .inl rfl
  | succ i=>exact .inr (by have:=iR ps o pn (j+1) b i (by simpa [aG] using h);rwa [show j+1+i=j+(i+1) by omega] at this)
 | .fT e t::ps,o,pn,j,b,i,h=>by
  simp only [bO,List.map_cons,List.mem_cons]
  cases i with
  | zero=>exact .inl rfl
  | succ i=>exact .inr (by have:=iR ps o.2 pn (j+1) b i (by simpa [aG] using h);rwa [show j+1+i=j+(i+1) by omega] at this)
 | .fK T cs::ps,o,pn,j,b,i,h=>by
  simp only [bO,List.map_cons,List.mem_cons,List.map_append,List.mem_append]
  cases i with
  | zero=>exact .inl rfl
  | succ i=>exact .inr (.inr (by have:=iR ps o.2 pn (j+1) (lays cs o.1 b).2.2 i (by simpa [aG] using h);rwa [show j+1+i=j+(i+1) by omega] at this))
theorem gG:∀ {l:List Nat} {i:Nat},i<l.length -> aL l i∈l
 | [],_,h=>by simp at h
 | _::_,0,_=>by simp [aL]
 | _::l,i+1,h=>List.mem_cons_of_mem _ (gG (by simpa using h))
theorem Cw {l:List Nat} {n:Nat} (h:n∈l):∃ i,i<l.length /\ aL l i=n:=by
 obtain ⟨i,hi,e⟩:=List.mem_iff_getElem.1 h
 exact ⟨i,hi,by rw [qD hi,e]⟩
theorem qF {l:List Nat} (hn:l.Nodup) {i j:Nat} (hi:i<l.length) (hj:j<l.length) (h:aL l i=aL l j):i=j:=by
 rw [qD hi,qD hj] at h
 exact (List.getElem_inj hn).1 h
theorem tC {s1:St} {a:Act} {w w':World} {μ μr:Nat -> Value} {Nm lI:Nat -> Prop} {ps:List PT} {rs:List RT} {q:RD rs×MD ps} {v:Value} {ce:Ctx} {pn is:List Nat} (hr:Rel c s1 a w μ Nm) (hw0:ce.w0=w) (hnp:ce.np=aG ps) (hpl:pn.length=aG ps) (zT:∀ j,j<ce.np -> ce.pQ j=μ (aL pn j))
  (hX:∀ k,ce.X k↔∃ n∈pn++is,blk (μ n)=some k) (hlive:∀ n∈pn++is,∃ o,s1.mem n=some o /\ o.live=true) (hnd:(pn++is).Nodup) (hb:eT ce.X ce.base w w') (hres:Gp ce ps rs w' q v b (aL pn) μr lI)
  (hok:(aY rs&&aO ps)=true \/ ∀ k,ce.Hq k -> aD c μ s1.mem k) (hf:∀ n,b <= n -> n<b+64 -> ¬ Nm n) (hb2:kX ps rs q (aL pn) b <= b+64) {d:Option Tmp} (hd:∀ t,d=some t -> t<s1.n) :
  ∃ μ' Nm',Rel c (({ s1 with mem:=aB s1.mem (eH is++bW ps rs q (aL pn) b) }:St).put d (rC (bR rs q.1 b).1)) (a.put d v) w' μ' Nm' /\ ∀ n,Nm' n -> Nm n \/ (b <= n /\ n<b+64):=by
 have Ii:=yN ps rs q (aL pn) b
 have hle:c.base <= w.heap.size:=hr.below.size
 have hbase:ce.base=w.heap.size:=by rw [<- hw0]
 have yO:(kN (aY rs&&aO ps) ce).base=w.heap.size:=by rw [<- hw0];rfl
 have Kg:∀ j,j<ce.np -> Nm (aL pn j):=fun j hj=>by
  obtain ⟨o,ho,_⟩:=hlive _ (List.mem_append_left _ (gG (l:=pn) (i:=j) (by omega)))
  exact hr.names _ o ho
 have hrange:∀ n,b <= n -> n<kX ps rs q (aL pn) b -> ¬ Nm n:=fun n h1 h2=>hf n h1 (by omega)
 let μ':Nat -> Value:=fun n=>if b <= n /\ n<kX ps rs q (aL pn) b then μr n else μ n
 have hμo:∀ n,Nm n -> μ' n=μ n:=fun n hn=>by
  show (if _ then _ else _)=_
  rw [if_neg]
  intro h
  exact hrange n h.1 h.2 hn
 have hμn:∀ n,lI n -> μ' n=μr n:=fun n hn=>by
  rcases (hres.nm n).1 hn with h | ⟨j,hj,rfl⟩
  ·show (if _ then _ else _)=_
   rw [if_pos h]
  ·rw [hμo _ (Kg j hj),hres.pQ j hj,zT j hj]
 have hmr:∀ n,lI n -> aB s1.mem (eH is++bW ps rs q (aL pn) b) n=aB (fun _=>none) (bW ps rs q (aL pn) b) n:=fun n hn=>by
  rw [bI]
  by_cases h1:n∈(bW ps rs q (aL pn) b).map (·.1)
  ·exact zS _ h1
  ·refine jU _ ?_
   rw [qE]
   rcases (hres.nm n).1 hn with h | ⟨j,hj,rfl⟩
   ·split
    ·rfl
    ·cases hm:s1.mem n with
     | none=>rfl
     | some o=>exact absurd (hr.names n o hm) (hrange n h.1 h.2)
   ·exfalso
    refine h1 ?_
    unfold bW
    rw [List.map_append]
    have:=iR ps q.2 (aL pn) 0 (bR rs q.1 b).2.2 j (by omega)
    rw [Nat.zero_add] at this
    exact List.mem_append_right _ this
 have hmo:∀ n,¬ lI n -> aB s1.mem (eH is++bW ps rs q (aL pn) b) n=if n∈is then none else s1.mem n:=fun n hn=>by
  rw [bI,eB _ (fun p hp e=>?_),qE]
  subst e
  rcases Ii.2 p hp with ⟨i,h1,h2⟩ | h1
  ·exact hn ((hres.nm _).2 (.inr ⟨i,by omega,h2⟩))
  ·exact hn ((hres.nm _).2 (.inl h1))
 have hold:∀ n o,¬ lI n -> aB s1.mem (eH is++bW ps rs q (aL pn) b) n=some o -> s1.mem n=some o /\ n ∉ pn++is /\ μ' n=μ n:=fun n o hn hm=>by
  rw [hmo n hn] at hm
  split at hm
  ·cases hm
  ·rename_i hi
   refine ⟨hm,fun h=>?_,hμo n (hr.names n o hm)⟩
   rcases List.mem_append.1 h with h | h
   ·obtain ⟨i,h1,h2⟩:=Cw h
    exact hn ((hres.nm n).2 (.inr ⟨i,by omega,h2.symm⟩))
   ·exact hi h
 have qG:∀ k,ce.X k -> ∃ n o,n∈pn++is /\ s1.mem n=some o /\ o.live=true /\ blk (μ n)=some k:=fun k hk=>by
  obtain ⟨n,h1,h2⟩:=(hX k).1 hk
  obtain ⟨o,h3,h4⟩:=hlive n h1
  exact ⟨n,o,h1,h3,h4,h2⟩
 have Qi:∀ k,aD c μ s1.mem k -> ¬ ce.X k:=fun k hk hx=>by
  obtain ⟨n,o,_,h1,h2,h3⟩:=qG k hx
  exact hk.2 n o h1 h2 h3
 have zU:∀ n o k,s1.mem n=some o -> o.live=true -> n ∉ pn++is -> blk (μ n)=some k -> ¬ ce.X k:=fun n o k h1 h2 h3 h4 hx=>by
  obtain ⟨n',o',g1,g2,g3,g4⟩:=qG k hx
  exact hr.dist n n' o o' h1 g2 h2 g3 (fun e=>h3 (e ▸ g1)) k h4 g4
 have oP:∀ n o,lI n -> aB s1.mem (eH is++bW ps rs q (aL pn) b) n=some o -> o.live=true -> ∀ k,blk (μ' n)=some k -> w.heap.size <= k \/ ce.X k:=fun n o hn hm hl k hk=>by
  rw [hmr n hn] at hm
  rw [hμn n hn] at hk
  have:=kQ (hres.objs n o hm).2.2 hl hk
  rw [yO] at this
  exact this
 have hS:∀ k,aD c μ s1.mem k -> k<w.heap.size -> aD c μ' (aB s1.mem (eH is++bW ps rs q (aL pn) b)) k:=fun k hk hlt=>⟨hk.1,fun n o hm hl hbk=>by
  by_cases hn:lI n
  ·rcases oP n o hn hm hl k hbk with h | h
   ·omega
   ·exact Qi k hk h
  ·obtain ⟨h1,_,h3⟩:=hold n o hn hm
   rw [h3] at hbk
   exact hk.2 n o h1 hl hbk⟩
 have hSr:∀ k,aD (kN (aY rs&&aO ps) ce) μr (aB (fun _=>none) (bW ps rs q (aL pn) b)) k -> aD c μ' (aB s1.mem (eH is++bW ps rs q (aL pn) b)) k:=by
  intro k hk
  have hnew:∀ n o,lI n -> aB s1.mem (eH is++bW ps rs q (aL pn) b) n=some o -> o.live=true -> blk (μ' n)≠some k:=fun n o hn hm hl hbk=>by
   rw [hmr n hn] at hm
   rw [hμn n hn] at hbk
   exact hk.2 n o hm hl hbk
  rcases hk.1 with h1 | h1 | h1
  ·rw [yO] at h1
   rcases hok with nX | hok
   ·have:=h1.1
    simp only [kN,nX] at this
   ·have h2:ce.Hq k:=by
     have:=h1.1
     simp only [kN] at this
     split at this
     ·exact this.elim
     ·exact this
    exact hS k (hok k h2) h1.2
  ·rw [yO] at h1
   refine ⟨.inr (.inl (Nat.le_trans hle h1)),fun n o hm hl hbk=>?_⟩
   by_cases hn:lI n
   ·exact hnew n o hn hm hl hbk
   ·obtain ⟨h2,_,h3⟩:=hold n o hn hm
    rw [h3] at hbk
    have:=(hr.aT h2 hl hbk).2.1
    omega
  ·have h1:ce.X k:=h1
   obtain ⟨n',o',g1,g2,g3,g4⟩:=qG k h1
   refine ⟨.inr (hr.aT g2 g3 g4).1,fun n o hm hl hbk=>?_⟩
   by_cases hn:lI n
   ·exact hnew n o hn hm hl hbk
   ·obtain ⟨h2,h4,h3⟩:=hold n o hn hm
    rw [h3] at hbk
    exact zU n o k h2 hl h4 hbk h1
 have g1:Rel c { s1 with mem:=aB s1.mem (eH is++bW ps rs q (aL pn) b) } a w' μ' (fun n=>Nm n \/ lI n):=by
  refine hr.next (s':={ s1 with mem:=aB s1.mem (eH is++bW ps rs q (aL pn) b) }) hr.size hr.defers (hr.below.trans ⟨hb.os,hb.tape,hb.output,hb.size,fun k hk hx=>hb.block k (by omega) (fun hcx=>?_)⟩) (fun k hk hlt=>hb.block k (by omega) (Qi k hk)) hS hμo (fun n hn=>.inl hn) (fun n o hm=>?_) (fun n n' o o' hm hm' hl hl' hne k hk hk'=>?_) (fun x=>.inl ⟨rfl,rfl⟩)
  ·obtain ⟨n,o,_,h1,h2,h3⟩:=qG k hcx
   rcases (hr.aT h1 h2 h3).1 with h | h
   ·omega
   ·exact hx h
  ·by_cases hn:lI n
   ·refine .inr ⟨.inr hn,?_⟩
    have hm':=hm
    simp only at hm'
    rw [hmr n hn] at hm'
    refine mF (c1:=kN (aY rs&&aO ps) ce) n o (fun hl k hk=>?_) hSr hμn (fun n hn=>.inr hn) hn (hres.objs n o hm').2.2
    rcases oP n o hn hm hl k (by rw [hμn n hn];exact hk) with h | h
    ·exact .inl (Nat.le_trans hle h)
    ·obtain ⟨n',o',_,g2,g3,g4⟩:=qG k h
     exact (hr.aT g2 g3 g4).1
   ·obtain ⟨h1,h2,h3⟩:=hold n o hn hm
    exact .inl ⟨h1,fun hl k hk=>hb.block k (by rw [hbase];exact (hr.aT h1 hl hk).2.1) (zU n o k h1 hl h2 hk)⟩
  ·by_cases hn:lI n
   ·by_cases hn':lI n'
    ·simp only at hm hm'
     rw [hmr n hn] at hm
     rw [hmr n' hn'] at hm'
     rw [hμn n hn] at hk
     rw [hμn n' hn'] at hk'
     exact hres.dist n n' o o' hm hm' hne k hk hk'
    ·obtain ⟨h1,h2,h3⟩:=hold n' o' hn' hm'
     rw [h3] at hk'
     rcases oP n o hn hm hl k hk with h | h
     ·have:=(hr.aT h1 hl' hk').2.1;omega
     ·exact zU n' o' k h1 hl' h2 hk' h
   ·obtain ⟨h1,h2,h3⟩:=hold n o hn hm
    rw [h3] at hk
    by_cases hn':lI n'
    ·rcases oP n' o' hn' hm' hl' k hk' with h | h
     ·have:=(hr.aT h1 hl hk).2.1;omega
     ·exact zU n o k h1 hl h2 hk h
    ·obtain ⟨h4,h5,h6⟩:=hold n' o' hn' hm'
     rw [h6] at hk'
     exact hr.dist n n' o o' h1 h4 hl hl' hne k hk hk'
 refine ⟨μ',_,g1.put d hd (dW (fun _ _ _=>rfl) (fun k hk _=>hSr k hk) hμn (fun n hn=>.inr hn) _ _ hres.val),fun n hn=>?_⟩
 rcases hn with hn | hn
 ·exact .inl hn
 ·rcases (hres.nm n).1 hn with h | ⟨j,hj,rfl⟩
  ·exact .inr ⟨h.1,by omega⟩
  ·exact .inl (Kg j hj)
theorem qH {m:Nat -> Option Obj}:∀ {l:List Nat},lQ m l=true -> ∀ n∈l,∃ f e t xs,m n=some (.row f e t xs)
 | [],_,n,hn=>by cases hn
 | i::l,h,n,hn=>by
  simp only [lQ,Bool.and_eq_true] at h
  rcases List.mem_cons.1 hn with rfl | hn
  ·have h1:=h.1
   split at h1
   ·rename_i f e t xs hm;exact ⟨f,e,t,xs,hm⟩
   ·cases h1
  ·exact qH h.2 n hn
mutual
theorem qI {m m':Nat -> Option Obj} {np:Nat}:∀ (p:PV) (v:AV) (d:p.D) (ns:List Nat),grab false m np p v=some (d,ns) -> (∀ n∈ns,m' n=m n) -> grab false m' np p v=some (d,ns)
 | .cell t,v,d,ns,h,hm=>by
  simp only [grab] at h ⊢
  split at h
  ·rename_i d' ns' hp
   cases ns' with
   | nil =>
    rw [dU _ _ _ _ _ hp (by simp)]
    exact h
   | cons _ _=>simp only [vO] at h;cases h
  ·cases h
 | .own e t,v,d,ns,h,hm=>by
  cases v <;> simp only [grab] at h ⊢ <;> try (cases h;done)
  rename_i n
  have hns:ns=[n]:=by
   simp only [bD] at h
   split at h
   ·split at h
    ·split at h
     ·injection h with h;injection h with _ h;exact h.symm
     ·cases h
    ·cases h
   ·cases h
  rw [<- h]
  simp only [bD]
  rw [hm n (by rw [hns];simp)]
 | .box T cs,v,d,ns,h,hm=>by
  cases v <;> simp only [grab] at h ⊢ <;> try (cases h;done)
  rename_i n off
  split at h
  ·rename_i U xs hmn
   split at h
   ·rename_i hT
    split at h
    ·rename_i d' ns' hg
     injection h with h;injection h with h1 h2;subst h1;subst h2
     rw [hm n (by simp),hmn]
     simp only [hT,fG cs xs d' ns' hg (fun n' hn'=>hm n' (List.mem_cons_of_mem _ hn'))]
    ·cases h
   ·cases h
  ·cases h
 | .agg cs,v,d,ns,h,hm=>by
  cases v <;> simp only [grab] at h ⊢ <;> try (cases h;done)
  exact fG cs _ d ns h hm
 | .nil,v,d,ns,h,hm=>by
  cases v <;> simp only [grab] at h ⊢ <;> try (cases h;done)
  exact h
 | .pin row j,v,d,ns,h,hm=>by
  cases row <;> cases v <;> simp only [grab] at h ⊢ <;> first | exact h | (cases h;done)
 | .ref t,v,d,ns,h,hm=>by
  cases v <;> simp only [grab] at h ⊢ <;> first | exact h | (cases h;done)
 | .lJ g cs,v,d,ns,h,hm=>by
  cases v <;> simp only [grab] at h ⊢ <;> try (cases h;done)
  split at h
  ·exact fG cs _ d ns h hm
  ·cases h
 | .mp T ak tk av tv,v,d,ns,h,hm=>by
  cases v <;> simp only [grab] at h ⊢ <;> try (cases h;done)
  rename_i n
  split at h
  ·rename_i T' Mq tk' Mr tv' es hmn
   split at h
   ·rename_i hB
    split at h
    ·rename_i es' hc
     injection h with h;injection h with h1 h2;subst h1;subst h2
     rw [hm n (by simp),hmn]
     simp only [hB,hc]
    ·cases h
   ·cases h
  ·cases h
theorem fG {m m':Nat -> Option Obj} {np:Nat}:∀ (ps:List PV) (vs:List AV) (d:qY ps) (ns:List Nat),grabs false m np ps vs=some (d,ns) -> (∀ n∈ns,m' n=m n) -> grabs false m' np ps vs=some (d,ns)
 | [],vs,d,ns,h,hm=>by cases vs <;> simp only [grabs] at h ⊢ <;> first | exact h | (cases h;done)
 | p::ps,vs,d,ns,h,hm=>by
  cases vs with
  | nil=>simp [grabs] at h
  | cons v vs =>
   simp only [grabs] at h ⊢
   split at h
   ·rename_i d1 jJ h1
    split at h
    ·rename_i d2 pR h2
     injection h with h;injection h with e1 e2;subst e1;subst e2
     rw [qI p v d1 jJ h1 (fun n hn=>hm n (List.mem_append_left _ hn))]
     simp only
     rw [fG ps vs d2 pR h2 (fun n hn=>hm n (List.mem_append_right _ hn))]
    ·cases h
   ·cases h
end
mutual
theorem oH {m m':Nat -> Option Obj}:∀ (p:PV) (v:AV) (d:p.D) (ns:List Nat),aU m p v=some (d,ns) -> (∀ n∈ns,m' n=m n) -> aU m' p v=some (d,ns)
 | .cell t,v,d,ns,h,hm=>by
  simp only [aU] at h ⊢
  split at h
  ·rename_i d' ns' hp
   injection h with h;injection h with h1 h2;subst h1;subst h2
   rw [dU _ _ _ _ _ hp hm]
  ·cases h
 | .ref t,v,d,ns,h,hm=>by
  cases v <;> simp only [aU] at h ⊢ <;> first | exact h | (cases h;done) | skip
  rotate_left
  ·rename_i t' x off
   cases off <;> first | exact h | (cases h;done)
  rename_i n off
  split at h
  ·rename_i U cs hmn
   split at h
   ·rename_i hl
    split at h
    ·rename_i d' ns' hp
     injection h with h;injection h with h1 h2;subst h1;subst h2
     rw [hm n (by simp),hmn]
     simp only [hl,dU _ _ _ _ _ hp (fun n' hn'=>hm n' (List.mem_cons_of_mem _ hn'))]
    ·cases h
   ·cases h
  ·cases h
 | .agg cs,v,d,ns,h,hm=>by
  cases v <;> simp only [aU] at h ⊢ <;> try (cases h;done)
  exact iT cs _ d ns h hm
 | .lJ g cs,v,d,ns,h,hm=>by
  cases v <;> simp only [aU] at h ⊢ <;> try (cases h;done)
  split at h
  ·exact iT cs _ d ns h hm
  ·cases h
 | .own _ _,v,d,ns,h,hm=>by simp [aU] at h
 | .box _ _,v,d,ns,h,hm=>by simp [aU] at h
 | .nil,v,d,ns,h,hm=>by
  cases v <;> simp only [aU] at h ⊢ <;> first | exact h | (cases h;done)
 | .pin _ _,v,d,ns,h,hm=>by simp [aU] at h
 | .mp _ _ _ _ _,v,d,ns,h,hm=>by simp [aU] at h
theorem iT {m m':Nat -> Option Obj}:∀ (ps:List PV) (vs:List AV) (d:qY ps) (ns:List Nat),bZ m ps vs=some (d,ns) -> (∀ n∈ns,m' n=m n) -> bZ m' ps vs=some (d,ns)
 | [],vs,d,ns,h,hm=>by cases vs <;> simp only [bZ] at h ⊢ <;> first | exact h | (cases h;done)
 | p::ps,vs,d,ns,h,hm=>by
  cases vs with
  | nil=>simp [bZ] at h
  | cons v vs =>
   simp only [bZ] at h ⊢
   split at h
   ·rename_i d1 jJ h1
    split at h
    ·rename_i d2 pR h2
     injection h with h;injection h with e1 e2;subst e1;subst e2
     rw [oH p v d1 jJ h1 (fun n hn=>hm n (List.mem_append_left _ hn))]
     simp only
     rw [iT ps vs d2 pR h2 (fun n hn=>hm n (List.mem_append_right _ hn))]
    ·cases h
   ·cases h
end
theorem wP {m m':Nat -> Option Obj} (p:PT) (a:AV) (d1:p.D) (jJ Jh is1:List Nat) (h1:fU m p a=some (d1,jJ,Jh,is1)) (hn1:∀ n∈jJ,m' n=m n) (hp1:∀ n∈Jh,m' n=m n) (hi1:∀ n∈is1,m' n=m n):fU m' p a=some (d1,jJ,Jh,is1):=by
 cases p with
 | val v =>
  simp only [fU] at h1 ⊢
  cases hpk:bT m v a with
  | none=>rw [hpk] at h1;cases h1
  | some dn =>
   obtain ⟨d,n1⟩:=dn
   rw [hpk] at h1
   injection h1 with h1;injection h1 with q1 q2;injection q2 with q2 q3;injection q3 with q3 q4
   subst q1;subst q2;subst q3;subst q4
   rw [dZ hpk hn1]
 | pv q =>
  simp only [fU] at h1 ⊢
  cases hpk:aU m q a with
  | none=>rw [hpk] at h1;cases h1
  | some dn =>
   obtain ⟨d,n1⟩:=dn
   rw [hpk] at h1
   injection h1 with h1;injection h1 with q1 q2;injection q2 with q2 q3;injection q3 with q3 q4
   subst q1;subst q2;subst q3;subst q4
   rw [oH q a d n1 hpk hn1]
 | fK T cs =>
  simp only [fU] at h1 ⊢
  split at h1
  ·rename_i n
   split at h1
   ·rename_i U zs hmn
    split at h1
    ·rename_i hT
     split at h1
     ·rename_i d is' hg
      injection h1 with h1;injection h1 with q1 q2;injection q2 with q2 q3;injection q3 with q3 q4
      subst q1;subst q2;subst q3;subst q4
      simp only [hp1 n (by simp),hmn,hT,fG cs zs d is' hg hi1]
     ·cases h1
    ·cases h1
   ·cases h1
  ·cases h1
 | fT e t =>
  simp only [fU] at h1 ⊢
  split at h1
  ·rename_i n
   split at h1
   ·rename_i d l ho
    injection h1 with h1;injection h1 with q1 q2;injection q2 with q2 q3;injection q3 with q3 q4
    subst q1;subst q2;subst q3;subst q4
    have:bD m' e t (.own n)=bD m e t (.own n):=by simp only [bD];rw [hp1 n (by simp)]
    simp only [this,ho]
   ·cases h1
  ·cases h1
 | give e t =>
  simp only [fU] at h1 ⊢
  split at h1
  ·rename_i n
   split at h1
   ·rename_i d l ho
    injection h1 with h1;injection h1 with q1 q2;injection q2 with q2 q3;injection q3 with q3 q4
    subst q1;subst q2;subst q3;subst q4
    have:bD m' e t (.own n)=bD m e t (.own n):=by simp only [bD];rw [hp1 n (by simp)]
    simp only [this,ho]
   ·cases h1
  ·cases h1
 | gv q =>
  simp only [fU] at h1 ⊢
  cases hpk:grab false m 0 q a with
  | none=>rw [hpk] at h1;cases h1
  | some dn =>
   obtain ⟨d,n1⟩:=dn
   rw [hpk] at h1
   injection h1 with h1;injection h1 with q1 q2;injection q2 with q2 q3;injection q3 with q3 q4
   subst q1;subst q2;subst q3;subst q4
   rw [qI q a d n1 hpk hi1]
theorem oI {m m':Nat -> Option Obj}:∀ (ps:List PT) (xs:List AV) (x:AD ps) (ns pn is:List Nat),gV m ps xs=some (x,ns,pn,is) -> (∀ n∈ns++(pn++is),m' n=m n) -> gV m' ps xs=some (x,ns,pn,is)
 | [],xs,x,ns,pn,is,h,hm=>by cases xs <;> simp only [gV] at h ⊢ <;> first | exact h | (cases h;done)
 | p::ps,xs,x,ns,pn,is,h,hm=>by
  cases xs with
  | nil=>simp [gV] at h
  | cons a xs =>
   simp only [gV] at h ⊢
   split at h
   ·rename_i d1 jJ Jh is1 h1
    split at h
    ·rename_i d2 pR Nf is2 h2
     injection h with h;injection h with e1 e2;injection e2 with e2 e3;injection e3 with e3 e4
     subst e1;subst e2;subst e3;subst e4
     rw [oI ps xs d2 pR Nf is2 h2 (fun n hn=>hm n (by
      simp only [List.mem_append] at hn ⊢
      rcases hn with hn | hn | hn
      ·exact .inl (.inr hn)
      ·exact .inr (.inl (.inr hn))
      ·exact .inr (.inr (.inr hn))))]
     rw [wP p a d1 jJ Jh is1 h1 (fun n hn=>hm n (by simp [hn])) (fun n hn=>hm n (by simp [hn])) (fun n hn=>hm n (by simp [hn]))]
    ·cases h
   ·cases h
theorem zV (hE:aH P E) {g:FuncId} {F:Fn} {cl:Call} {f:Operand} {fst caps:List AV} {x:AD F.ps} {ns pn is:List Nat} {k:Nat} {q:RD F.rs×MD F.ps} (ho:o.op=.call cl) (hc:cl.callee=.value f) (Rw:(s.op f=.lJ g caps /\ fst=[]) \/ (s.op f=.mv g fst /\ caps=[])) (hF:E.fn g=some F) (hp:gV s.mem F.ps (fst++(cB s cl.args.toList++caps))=some (x,ns,pn,is)) (Aw:(nodupB (pn++is)&&kT (pn++is) ns)=true) (Ey:F.sem k x=some q) (hb2:kX F.ps F.rs q (aL pn) b <= b+64) {us:List (Nat×Option Obj)} {nm:List Nat} (hnm:∀ n∈ns++(pn++is),n∈nm)
  (Rx:((aY F.rs&&aO F.ps)=true /\ us=eH is++bW F.ps F.rs q (aL pn) b) \/ (lQ s.mem ns=true /\ us=dB s.mem ns++(eH is++bW F.ps F.rs q (aL pn) b))):aJ P c o s b ⟨rC (bR F.rs q.1 b).1,us,nm⟩:=by
 intro s' a w μ Nm next Q hag hr hf hd hn
 have hops:∀ y∈cl.args.toList,s'.op y=s.op y:=fun y hy=>hag.ops y (by simp [Op.operands,ho,Call.operands,hc];first | exact .inr (by simpa using hy) | exact .inl (by simpa using hy) | skip)
 have hfo:s'.op f=s.op f:=hag.ops f (by simp [Op.operands,ho,Call.operands,hc])
 have hp':=oI (m':=s'.mem) _ _ _ _ _ _ hp (fun n hn=>hag.mem n (hnm n hn))
 have hfr:=hr.op f
 rw [hfo] at hfr
 have hfr:∃ us vs:Array Value,a.eval f=.func (.func g) us vs /\ VRels μ Nm (aD c μ s'.mem) w fst us.toList /\ VRels μ Nm (aD c μ s'.mem) w caps vs.toList:=by
  rcases Rw with ⟨h1,h2⟩ | ⟨h1,h2⟩
  ·rw [h1] at hfr
   simp only [aA] at hfr
   obtain ⟨vs,q1,q2⟩:=hfr
   exact ⟨#[],vs,q1,by rw [h2];simp only [VRels],q2⟩
  ·rw [h1] at hfr
   simp only [aA] at hfr
   obtain ⟨vs,q1,q2⟩:=hfr
   exact ⟨vs,#[],q1,q2,by rw [h2];simp only [VRels]⟩
 obtain ⟨Lm,vs,hfe,Ng,hvs⟩:=hfr
 have hxs:=hr.ops cl.args.toList
 rw [iC hops] at hxs
 have hall:=aP Ng (aP hxs hvs)
 simp only [Bool.and_eq_true] at Aw
 have hnd:=iP Aw.1
 have hdj:=iB Aw.2
 have hok:=hE.fn g F hF
 obtain ⟨fn,hfn,hname,hbody⟩:=hok.there
 have hrun:(execOp a.eval o).run P w=.ok (.enter g (Lm++cl.args.map a.eval++vs)) w:=by
  simp only [execOp,ho,resolve,hc,hfe,Deferred.ofValue,pure_bind,invoke]
  exact rO hfn hname hbody _ w
 have harr:(Lm++cl.args.map a.eval++vs)=(Lm.toList++(cl.args.toList.map a.eval++vs.toList)).toArray:=by
  apply Array.toList_inj.1;simp
 let ce:Ctx:={ Hq:=aX μ s'.mem (aD c μ s'.mem) ns,X:=fun k=>∃ n∈pn++is,blk (μ n)=some k,w0:=w,np:=aG F.ps,pQ:=fun j=>μ (aL pn j) }
 let μe:Nat -> Value:=fun i=>if i<pn.length then μ (aL pn i) else μ (aL is (i - pn.length))
 let Kh:Nat -> Prop:=fun i=>i<pn.length+is.length
 have hpre:=nG (c:=c) (μ':=μe) (Nm':=Kh) (S':=fun _=>True) hr.objs (fun _ _=>trivial) F.ps _ _ x ns pn is 0 pn.length hp' hall (fun _ _=>trivial) (fun i hi=>⟨by simp [μe,hi],by show _<_;omega⟩) (fun i hi=>⟨by simp only [μe];rw [if_neg (by omega),Nat.add_sub_cancel_left],by show _<_;omega⟩)
 obtain ⟨_,hcnt,zW,Ki,hlive,Ry⟩:=hpre
 have hμe:∀ i,i<pn.length+is.length -> ∃ n,n∈pn++is /\ n=aL (pn++is) i /\ μe i=μ n:=fun i hi=>by
  refine ⟨aL (pn++is) i,gG (by simpa using hi),rfl,?_⟩
  by_cases h:i<pn.length
  ·simp only [μe,h,if_true];rw [jS h]
  ·simp only [μe,h,if_false]
   have:i=pn.length+(i - pn.length):=by omega
   rw [this,jT,Nat.add_sub_cancel_left]
 rw [zW] at hcnt Ki
 have hem:∀ i o,aB (fun _=>none) (inP F.ps x 0 (aG F.ps)).2.1 i=some o -> o.live=true /\ i<pn.length+is.length:=fun i o hi=>by
  have h1:=(dH hi).resolve_right (by simp)
  obtain ⟨j,o',h2,h3⟩:=Ki _ h1
  rcases h3 with ⟨h3,h4,_⟩ | ⟨h3,h4,_⟩
  ·injection h4 with h4 h5;injection h5 with h5;subst h5;exact ⟨h2,by omega⟩
  ·injection h4 with h4 h5;injection h5 with h5;subst h5;exact ⟨h2,by omega⟩
 have Qj:∀ k,aX μ s'.mem (aD c μ s'.mem) ns k -> aD ce μe (aB (fun _=>none) (inP F.ps x 0 (aG F.ps)).2.1) k:=fun k hk=>by
  refine ⟨?_,fun i o hi hl hbk=>?_⟩
  ·rcases Nat.lt_or_ge k w.heap.size with h | h
   ·exact .inl ⟨hk,h⟩
   ·exact .inr (.inl h)
  ·obtain ⟨n,hn1,_,hn2⟩:=hμe i (hem i o hi).2
   rw [hn2] at hbk
   obtain ⟨o',h1,h2⟩:=hlive n hn1
   rcases hk with hk | ⟨n',h3,h4,h5⟩
   ·exact hk.2 n o' h1 h2 hbk
   ·unfold bP at h4
    cases hm:s'.mem n' with
    | none=>rw [hm] at h4;cases h4
    | some ob =>
     rw [hm] at h4
     exact hr.dist n n' o' ob h1 hm h2 (by cases ob <;> first | exact h4 | rfl) (fun e=>hdj n hn1 (e ▸ h3)) k hbk h5
 obtain ⟨kR,Kj,_,Nh,_,_⟩:=nG (c:=c) (μ':=μe) (Nm':=Kh) hr.objs (fun k hk=>Qj k (.inl hk)) F.ps _ _ x ns pn is 0 (aG F.ps) hp' hall Qj (fun i hi=>⟨by simp [μe,hi],by show _<_;omega⟩) (fun i hi=>⟨by rw [<- zW];simp only [μe];rw [if_neg (by omega),Nat.add_sub_cancel_left],by show _<_;omega⟩)
 have hent:Gn ce F.ps x (Lm.toList++(cl.args.toList.map a.eval++vs.toList)) μe Kh:=by
  refine ⟨rfl,fun j hj=>⟨by show _<_;have:j<aG F.ps:=hj;omega,?_⟩,fun n hn=>?_,fun n o hn=>(hem n o hn).2,fun n o hn=>?_,fun i i' o o' hi hi' hl hl' hne k hk hk'=>?_,kR⟩
  ·have hj':j<pn.length:=by have:j<aG F.ps:=hj;omega
   show μe j=μ (aL pn j)
   simp only [μe,hj',if_true]
  ·rw [Kj];have:n<pn.length+is.length:=hn;omega
  ·have h1:=(dH hn).resolve_right (by simp)
   have hb:=(hem n o hn).2
   have Ji:o.live=true -> ∀ k,blk (μe n)=some k -> ce.base <= k \/ ce.X k:=fun _ k hk=>by
    obtain ⟨n',hn1,_,hn2⟩:=hμe n hb
    exact .inr ⟨n',hn1,by rw [<- hn2];exact hk⟩
   obtain ⟨j,o',h2,h3⟩:=Nh _ h1
   rcases h3 with ⟨h3,h4,h5⟩ | ⟨h3,h4,h5⟩
   ·injection h4 with h4 h6;injection h6 with h6;subst h6;subst h4
    exact mF (c1:=c) _ o Ji (fun _ h=>h) (fun _ _=>rfl) (fun _ h=>h) hb h5
   ·injection h4 with h4 h6;injection h6 with h6;subst h6;subst h4
    exact mF (c1:=c) _ o Ji (fun _ h=>h) (fun _ _=>rfl) (fun _ h=>h) hb h5
  ·obtain ⟨n1,h1,h2,h3⟩:=hμe i (hem i o hi).2
   obtain ⟨n2,h4,h5,h6⟩:=hμe i' (hem i' o' hi').2
   rw [h3] at hk
   rw [h6] at hk'
   obtain ⟨o1,h7,h8⟩:=hlive n1 h1
   obtain ⟨o2,h9,h10⟩:=hlive n2 h4
   have hb1:=(hem i o hi).2
   have hb2:=(hem i' o' hi').2
   exact hr.dist n1 n2 o1 o2 h7 h9 h8 h10 (fun e=>hne (qF hnd (by simpa using hb1) (by simpa using hb2) (by rw [<- h2,<- h5];exact e))) k hk hk'
 have Ez:∀ j,j<ce.np -> ¬ (b <= aL pn j /\ aL pn j<kX F.ps F.rs q (aL pn) b):=fun j hj h=>by
  obtain ⟨o',h1,_⟩:=hlive (aL pn j) (List.mem_append_left _ (gG (by have:j<aG F.ps:=hj;omega)))
  exact hf _ h.1 (by omega) (hr.names _ o' h1)
 have zX:∀ i j,i<ce.np -> j<ce.np -> aL pn i=aL pn j -> i=j:=fun i j hi hj h=>qF (List.nodup_append.1 hnd).1 (by have:i<aG F.ps:=hi;omega) (by have:j<aG F.ps:=hj;omega) h
 unfold Oper.wp
 rw [hrun,Oper.upon_enter,harr]
 rcases Rx with ⟨nX,rfl⟩ | ⟨hrows,rfl⟩
 ·refine Calls.mono (hok.calls k x q Ey ce _ μe Kh hent) (fun e w' he=>?_)
  obtain ⟨v,rfl,hb,hres⟩:=he
  obtain ⟨μr,lI,hres⟩:=hres b (aL pn) Ez zX
  obtain ⟨μ',Nm',g1,g2⟩:=tC (b:=b) (d:=o.dst) (ce:=ce) (is:=is) hr rfl rfl zW (fun _ _=>rfl) (fun _=>Iff.rfl) hlive hnd hb hres (.inl nX) hf hb2 hd
  refine hn _ _ μ' Nm' ?_ g2
  rw [bL]
  rw [put_mem] at g1
  exact g1
 ·rw [eY hag (fun n hn=>hnm n (List.mem_append_left _ hn))] at hn
  obtain ⟨k1,k2,k3,k4,k5⟩:=Rel.nC ns (jP.refl s'.mem) hr
  have hrow:∀ n∈ns,∃ f e t xs,s'.mem n=some (.row f e t xs):=fun n hn=>by
   rw [hag.mem n (hnm n (List.mem_append_left _ hn))];exact qH hrows n hn
  have hS:∀ k,aX μ s'.mem (aD c μ s'.mem) ns k -> aD c μ (aB s'.mem (dB s'.mem ns)) k:=by
   intro k hk
   rcases hk with hk | ⟨n,hn',hl,hk⟩
   ·exact k2 k hk
   ·exact k3 n hn' (hrow n hn') hl k hk
  have Ij:∀ n∈pn++is,∃ o,aB s'.mem (dB s'.mem ns) n=some o /\ o.live=true:=fun n hn=>by
   obtain ⟨o',h1,h2⟩:=hlive n hn
   exact ⟨o',by rw [k5 n (hdj n hn)];exact h1,h2⟩
  refine Calls.mono (hok.calls k x q Ey ce _ μe Kh hent) (fun e w' he=>?_)
  obtain ⟨v,rfl,hb,hres⟩:=he
  obtain ⟨μr,lI,hres⟩:=hres b (aL pn) Ez zX
  obtain ⟨μ',Nm',g1,g2⟩:=tC (b:=b) (d:=o.dst) (ce:=ce) (is:=is) k1 rfl rfl zW (fun _ _=>rfl) (fun _=>Iff.rfl) Ij hnd hb hres (.inr hS) hf hb2 hd
  refine hn _ _ μ' Nm' ?_ g2
  rw [bL,bI]
  rw [put_mem,put_mem] at g1
  exact g1
end
end Go.Proofs.YtmmagcjlfcicfaaGreat.Ab
set_option linter.unusedVariables false
set_option linter.unusedSimpArgs false
namespace Go.Proofs.YtmmagcjlfcicfaaGreat.Ab
open Go.RowKit
section
variable {P:Program} {E:Env} {c:Ctx} {o:Oper} {s:St} {b:Nat} {R:Type} {κ:Eff -> Option R} {r:R}
theorem tF {α:Type} {x:Option α} (h:isNone x=true):x=none:=by cases x <;> first | rfl | cases h
theorem kF {α:Type} {x:Option α} (h:isNone x=false):∃ y,x=some y:=by cases x <;> first | exact ⟨_,rfl⟩ | cases h
theorem dA {α:Type} {p:Prop} [Decidable p] {x:Option α} {y:α} (h:(if p then x else none)=some y):p /\ x=some y:=by
 by_cases hp:p
 ·rw [if_pos hp] at h;exact ⟨hp,h⟩
 ·rw [if_neg hp] at h;cases h
theorem yP (hE:aH P E) {cl:Call} {bi:Builtin} (ho:o.op=.call cl) (hc:cl.callee=.builtin bi) (h:pF E bi cl.argTypes.toList (cB s cl.args.toList) b s κ=some r):∃ e,κ e=some r /\ (gT s.mem b e.upd=true -> aJ P c o s b e):=by
 have one:∀ x,cB s cl.args.toList=[x] -> ∃ y,cl.args.toList=[y] /\ s.op y=x:=by
  intro x hx
  cases hl:cl.args.toList with
  | nil=>rw [hl] at hx;cases hx
  | cons y ys =>
   rw [hl] at hx
   simp only [cB] at hx
   injection hx with h1 h2
   cases ys with
   | nil=>exact ⟨y,rfl,h1⟩
   | cons _ _=>cases h2
 have two:∀ x x',cB s cl.args.toList=[x,x'] -> ∃ y y',cl.args.toList=[y,y'] /\ s.op y=x /\ s.op y'=x':=by
  intro x x' hx
  cases hl:cl.args.toList with
  | nil=>rw [hl] at hx;cases hx
  | cons y ys =>
   rw [hl] at hx
   simp only [cB] at hx
   injection hx with h1 h2
   cases ys with
   | nil=>cases h2
   | cons y' ys =>
    simp only [cB] at h2
    injection h2 with h2 h3
    cases ys with
    | nil=>exact ⟨y,y',rfl,h1,h2⟩
    | cons _ _=>cases h3
 unfold pF at h
 split at h
 ·rename_i x hxs
  obtain ⟨y,hy,hyx⟩:=one _ hxs
  split at h
  ·rename_i T ts hts
   split at h
   ·rename_i hT hA
    exact ⟨_,h,fun _=>yE hE ho hc hts hT hA hy hyx⟩
   ·cases h
  ·cases h
 ·rename_i x hxs
  obtain ⟨y,hy,hyx⟩:=one _ (by assumption)
  split at h
  ·rename_i T ts hts
   split at h
   ·rename_i e hT
    split at h
    ·rename_i t ht
     split at h
     ·rename_i l ns hr
      exact ⟨_,h,fun _=>yF hE ho hc hts hT ht hy (by rw [hyx];exact hr)⟩
     ·cases h
    ·cases h
   ·split at h
    ·rename_i kv n hT
     obtain ⟨k,v⟩:=kv
     split at h
     ·rename_i T' ak tk av tv es hm
      split at h
      ·rename_i Lp
       have:=Nat.eq_of_beq_eq_true Lp;subst this
       exact ⟨_,h,fun _=>yI hE ho hc hts hT hy hyx hm⟩
      ·cases h
     ·cases h
    ·cases h
  ·cases h
 ·rename_i x y hxs
  obtain ⟨x',y',hl,rfl,rfl⟩:=two _ _ hxs
  split at h
  ·rename_i T T' hts
   split at h
   ·rename_i e Lp hT
    have:=Nat.eq_of_beq_eq_true Lp;subst this
    split at h
    ·rename_i t ht
     split at h
     ·rename_i l ns h1
      split at h
      ·rename_i l' ns' h2
       obtain ⟨hlim,h⟩:=dA h
       have hcl:cl={ callee:=.builtin .append,args:=#[x',y'],argTypes:=#[T,T] }:=by
        have e1:cl.args=#[x',y']:=Array.toList_inj.1 (by rw [hl])
        have e2:cl.argTypes=#[T,T]:=Array.toList_inj.1 (by rw [hts])
        cases cl
        simp only at hc e1 e2
        simp [hc,e1,e2]
       have ho':o.op=.call { callee:=.builtin .append,args:=#[x',y'],argTypes:=#[T,T] }:=by rw [ho,hcl]
       split at h
       ·rename_i hd _ hfl
        exact ⟨_,h,fun _=>pV hE ho' hT ht h1 h2 hd hlim hfl⟩
       ·rename_i hd _ hfl
        exact ⟨_,h,fun _=>pW hE ho' hT ht h1 h2 hd hlim⟩
       ·cases h
      ·cases h
     ·cases h
    ·cases h
   ·rename_i e Lp hT
    split at h
    ·obtain ⟨hlim,h2⟩:=dA h
     clear h
     have h:=h2
     clear h2
     simp only [Bool.and_eq_true,decide_eq_true_eq] at hlim
     have hcl:cl={ callee:=.builtin .append,args:=#[x',y'],argTypes:=#[T,T'] }:=by
      have e1:cl.args=#[x',y']:=Array.toList_inj.1 (by rw [hl])
      have e2:cl.argTypes=#[T,T']:=Array.toList_inj.1 (by rw [hts])
      cases cl
      simp only at hc e1 e2
      simp [hc,e1,e2]
     have ho':o.op=.call { callee:=.builtin .append,args:=#[x',y'],argTypes:=#[T,T'] }:=by rw [ho,hcl]
     split at h
     ·rename_i hb
      exact ⟨_,h,fun _=>oK hE ho' hT (by assumption) (by assumption) (by assumption) (by assumption) hlim.1 hlim.2⟩
     ·cases h
    ·cases h
   ·cases h
  ·cases h
 ·rename_i hxs
  obtain ⟨y,hy,hyx⟩:=one _ hxs
  split at h
  ·rename_i T ts hts
   split at h
   ·rename_i e hT
    exact ⟨_,h,fun _=>yG hE ho hc hts hT hy hyx⟩
   ·cases h
  ·cases h
 ·rename_i x l hxs
  split at h
  ·rename_i v hv
   exact ⟨_,h,fun _=>sK (mx:=false) ho hc hxs hv⟩
  ·cases h
 ·rename_i x l hxs
  split at h
  ·rename_i v hv
   exact ⟨_,h,fun _=>sK (mx:=true) ho hc hxs hv⟩
  ·cases h
 ·rename_i n z l hh hxs
  obtain ⟨y,hy,hyx⟩:=one _ hxs
  split at h
  ·rename_i T ts hts
   split at h
   ·rename_i e hT
    split at h
    ·rename_i t ht
     split at h
     ·rename_i xs _ hr hz
      exact ⟨_,h,fun _=>Cv hE ho hc hts hT ht hy hyx (Nat.eq_of_beq_eq_true hz) (iE hr)⟩
     ·cases h
    ·cases h
   ·cases h
  ·cases h
 ·cases h
theorem wQ (hE:aH P E) {k:Nat} {cl:Call} {f:Operand} {g:FuncId} {fst caps:List AV} (ho:o.op=.call cl) (hc:cl.callee=.value f) (hf:(s.op f=.lJ g caps /\ fst=[]) \/ (s.op f=.mv g fst /\ caps=[])) (h:zK E k g (fst++(cB s cl.args.toList++caps)) b s κ=some r):∃ e,κ e=some r /\ (gT s.mem b e.upd=true -> aJ P c o s b e):=by
 unfold zK at h
 split at h
 ·rename_i F hF
  split at h
  ·rename_i x ns pn is hp
   split at h
   ·rename_i Aw
    rw [Option.bind_eq_some_iff] at h
    obtain ⟨q,hq,h⟩:=h
    split at h
    rename_i vs us b1 hi
    split at h
    rename_i Ei b2 hi2
    have e1:vs=(bR F.rs q.1 b).1:=by rw [hi]
    have e2:us=(bR F.rs q.1 b).2.1:=by rw [hi]
    have e3:b1=(bR F.rs q.1 b).2.2:=by rw [hi]
    subst e1;subst e2;subst e3
    have e4:Ei=(bO F.ps q.2 (aL pn) 0 (bR F.rs q.1 b).2.2).1:=by rw [hi2]
    have e5:b2=kX F.ps F.rs q (aL pn) b:=by unfold kX;rw [hi2]
    subst e4;subst e5
    have hmem:∀ n∈ns++(pn++is),n∈ns++(pn++is)++aN ((bR F.rs q.1 b).2.1++(bO F.ps q.2 (aL pn) 0 (bR F.rs q.1 b).2.2).1):=fun n hn=>List.mem_append_left _ hn
    split at h
    ·rename_i hb hfl
     exact ⟨_,h,fun _=>zV hE ho hc hf hF hp Aw hq (Nat.le_of_ble_eq_true hb) hmem (.inl ⟨hfl,rfl⟩)⟩
    ·rename_i hb hfl
     split at h
     ·rename_i hrows
      exact ⟨_,h,fun _=>zV hE ho hc hf hF hp Aw hq (Nat.le_of_ble_eq_true hb) hmem (.inr ⟨hrows,rfl⟩)⟩
     ·cases h
    ·cases h
   ·cases h
  ·cases h
 ·cases h
theorem zY (hE:aH P E) {T:TypeId} {x i y:Operand} (ho:o.op=.mapUpdate T x i y \/ o.op=.insert T x i y) (h:mapA E T (s.op x) (s.op i) (s.op y) s κ=some r):∃ e,κ e=some r /\ (gT s.mem b e.upd=true -> aJ P c o s b e):=by
 unfold mapA at h
 split at h
 ·rename_i n hx
  split at h
  ·rename_i T' ak tk av tv es hm
   split at h
   ·rename_i hB
    simp only [Bool.and_eq_true] at hB
    have:=Nat.eq_of_beq_eq_true hB.1;subst this
    split at h
    ·rename_i d ns0 z ns hp hq
     split at h
     ·rename_i hns
      exact ⟨_,h,fun _=>Av hE ho hx hm hB.2 hp hq hns⟩
     ·cases h
    ·cases h
   ·cases h
  ·rename_i T' ak tk es hm
   split at h
   ·rename_i hB
    simp only [Bool.and_eq_true] at hB
    have:=Nat.eq_of_beq_eq_true hB.1;subst this
    split at h
    ·rename_i d ns0 hp
     split at h
     ·rename_i es' hq
      exact ⟨_,h,fun _=>yK hE ho hx hm hB.2 hp hq⟩
     ·cases h
    ·cases h
   ·cases h
  ·cases h
 ·cases h
theorem yQ {T e:TypeId} {t:Ty} {p:Operand} {v:AV} (h:xQ E T p v=some (e,t)):v=.nil:=by
 unfold xQ at h
 split at h
 ·rfl
 ·cases h
theorem wR (hE:aH P E) {k:Nat} (h:zL E k o b s κ=some r):∃ e,κ e=some r /\ (gT s.mem b e.upd=true -> aJ P c o s b e):=by
 unfold zL at h
 split at h
 ·rename_i x ho;exact ⟨_,h,fun _=>Em ho⟩
 ·rename_i x ho
  split at h
  ·exact ⟨_,h,fun _=>Ao ho⟩
  ·split at h
   ·rename_i v us b' hz
    split at h
    ·rename_i hb;exact ⟨_,h,fun _=>Ci ho hz (Nat.le_of_ble_eq_true hb)⟩
    ·cases h
   ·cases h
 ·rename_i x i ho
  split at h
  ·rename_i vs hx
   split at h
   ·rename_i hi;exact ⟨_,h,fun _=>xY ho hx hi⟩
   ·cases h
  ·cases h
 ·rename_i q x y ho
  split at h
  ·rename_i t ht
   cases t with
   | true=>rw [if_pos rfl] at h;exact ⟨_,h,fun _=>Ca ho ht⟩
   | false=>rw [if_neg (by simp)] at h;exact ⟨_,h,fun _=>Cb ho ht⟩
  ·cases h
 ·rename_i op T x y T' ho;exact Ht hE ho h
 ·rename_i op T x ho;exact Ju ho h
 ·rename_i a t x ho
  split at h
  ·rename_i kk n hx
   split at h
   ·rename_i k' hk hn
    obtain ⟨u,hu⟩:=kF hn
    exact ⟨_,h,fun _=>xZ hE ho hx hk hu⟩
   ·cases h
  ·cases h
 ·rename_i x ho
  split at h
  ·rename_i n off hx;rw [<- hx] at h;exact ⟨_,h,fun _=>gK (n:=n) ho (.inl ⟨_,_,hx⟩)⟩
  ·rename_i n z i off hx;rw [<- hx] at h;exact ⟨_,h,fun _=>gK (n:=n) ho (.inr (.inl ⟨_,_,_,_,hx⟩))⟩
  ·rename_i t y off hx;rw [<- hx] at h;exact ⟨_,h,fun _=>gK (n:=0) ho (.inr (.inr (.inl ⟨_,_,_,hx⟩)))⟩
  ·rename_i p c' j hx;rw [<- hx] at h;exact ⟨_,h,fun _=>gK (n:=0) ho (.inr (.inr (.inr ⟨_,_,_,hx⟩)))⟩
  ·cases h
 ·rename_i T x ho
  split at h
  ·rename_i hb
   simp only [Bool.and_eq_true] at hb
   split at h
   ·exact ⟨_,h,fun _=>Hw ho hb.2⟩
   ·split at h
    rename_i cs us b' hz
    split at h
    ·rename_i hb';exact ⟨_,h,fun _=>Jw ho hb.2 hz (Nat.le_of_ble_eq_true hb')⟩
    ·cases h
  ·cases h
 ·rename_i T ho
  split at h
  ·rename_i t hb ht
   split at h
   ·exact ⟨_,h,fun _=>Ch hE ho ht⟩
   ·split at h
    rename_i cs us b' hz
    split at h
    ·rename_i hb';exact ⟨_,h,fun _=>Er hE ho ht hz (Nat.le_of_ble_eq_true hb')⟩
    ·cases h
  ·cases h
 ·rename_i T x ho
  split at h
  ·rename_i n off hx
   split at h
   ·rename_i U cs hm
    split at h
    ·rename_i v hl;exact ⟨_,h,fun _=>nR hE ho (fun h=>by rwa [hx] at h) hm hl⟩
    ·cases h
   ·cases h
  ·rename_i t y off hx
   split at h
   ·rename_i v hl;exact ⟨_,h,fun _=>nS hE ho (fun h=>by rwa [hx] at h) hl⟩
   ·cases h
  ·rename_i n z i off hx
   split at h
   ·rename_i f e t xs hm
    split at h
    ·rename_i hz
     split at h
     ·rename_i v hl;exact ⟨_,h,fun _=>nT hE ho (fun h=>by rwa [hx] at h) hm (Nat.eq_of_beq_eq_true hz) hl⟩
     ·cases h
    ·cases h
   ·cases h
  ·rename_i p c' j hx
   split at h
   ·rename_i n off
    split at h
    ·rename_i U cs hm
     split at h
     ·rename_i v hl;exact ⟨_,h,fun _=>(jN hE ho hx).1 rfl hm hl⟩
     ·cases h
    ·cases h
   ·rename_i t y off
    split at h
    ·rename_i v hl;exact ⟨_,h,fun _=>(jN hE ho hx).2.1 rfl hl⟩
    ·cases h
   ·rename_i n z i off
    split at h
    ·rename_i f e t xs hm
     split at h
     ·rename_i hz
      split at h
      ·rename_i v hl;exact ⟨_,h,fun _=>(jN hE ho hx).2.2 rfl hm (Nat.eq_of_beq_eq_true hz) hl⟩
      ·cases h
     ·cases h
    ·cases h
   ·cases h
  ·cases h
 ·rename_i T p x ho
  split at h
  ·rename_i n off hp
   split at h
   ·rename_i U cs hm
    split at h
    ·rename_i u hT
     split at h
     ·rename_i e t hz
      split at h
      ·rename_i hb
       simp only [Bool.and_eq_true] at hb
       rw [dP] at hb
       rw [bU,bV] at h
       exact ⟨_,h,fun _=>vC hE ho hp (yQ hz) hm hT (Nat.eq_of_beq_eq_true hb.1) (Nat.le_of_ble_eq_true hb.2.1)⟩
      ·cases h
     ·split at h
      ·rename_i hb
       simp only [Bool.and_eq_true] at hb
       rw [dP,dP] at hb
       rw [bU,bV] at h
       exact ⟨_,h,fun _=>lW hE ho (fun h=>by rwa [hp] at h) hm hT (Nat.eq_of_beq_eq_true hb.1) (Nat.le_of_ble_eq_true hb.2.1) hb.2.2⟩
      ·cases h
    ·cases h
   ·cases h
  ·rename_i n z i off hp
   split at h
   ·rename_i e t xs hm
    split at h
    ·rename_i u hT
     split at h
     ·rename_i hb
      simp only [Bool.and_eq_true] at hb
      rw [dP] at hb
      rw [bU,bV] at h
      split at h
      ·rename_i d ns hpk
       split at h
       ·rename_i hns
        exact ⟨_,h,fun _=>lX hE ho (fun h=>by rwa [hp] at h) hm hT (Nat.eq_of_beq_eq_true hb.1) (Nat.eq_of_beq_eq_true hb.2.1) (Nat.le_of_ble_eq_true hb.2.2.1) hb.2.2.2 hpk hns⟩
       ·cases h
      ·cases h
     ·cases h
    ·cases h
   ·cases h
  ·rename_i q c' j hp
   split at h
   ·rename_i n off
    split at h
    ·rename_i U cs hm
     split at h
     ·rename_i cs' hs;exact ⟨_,h,fun _=>rH hE ho hp hm hs⟩
     ·cases h
    ·cases h
   ·rename_i n z i off
    split at h
    ·rename_i e t xs hm
     split at h
     ·rename_i cs' hz hs
      split at h
      ·rename_i d ns hpk
       split at h
       ·rename_i hns;exact ⟨_,h,fun _=>rJ hE ho hp hm (Nat.eq_of_beq_eq_true hz) hs hpk hns⟩
       ·cases h
      ·cases h
     ·cases h
    ·cases h
   ·cases h
  ·cases h
 ·rename_i T x f ho
  split at h
  ·rename_i off U hf
   split at h
   ·rename_i hU
    obtain ⟨u,hu⟩:=kF hU
    split at h
    ·rename_i n off hx;exact ⟨_,h,fun _=>mY hE ho hf hu hx⟩
    ·rename_i n z i off hx;exact ⟨_,h,fun _=>mZ hE ho hf hu hx⟩
    ·rename_i t y off hx;exact ⟨_,h,fun _=>nA hE ho hf hu hx⟩
    ·cases h
   ·cases h
  ·cases h
 ·rename_i T x f ho
  split at h
  ·rename_i off U cs hf hx
   split at h
   ·rename_i v hl;exact ⟨_,h,fun _=>Cc hE ho hf hx hl⟩
   ·cases h
  ·cases h
 ·rename_i T x i ho
  split at h
  ·rename_i kk j hi
   split at h
   ·rename_i e hT
    split at h
    ·rename_i t ht
     split at h
     ·rename_i xs ns hrow
      obtain ⟨hb,h⟩:=dA h
      simp only [Bool.and_eq_true,decide_eq_true_eq] at hb
      split at h
      ·rename_i n hx
       split at h
       ·rename_i hl;exact ⟨_,h,fun _=>uT hE ho hT ht hi hx hrow hl hb.1 hb.2⟩
       ·rename_i hl;exact ⟨_,h,fun _=>nU hE ho hT ht hi hrow (fun m hm=>by rw [hx] at hm;injection hm with hm;subst hm;exact hl) (fun _ _ _ _ hm=>by rw [hx] at hm;cases hm) hb.1 hb.2⟩
      ·rename_i n z l hh hx
       split at h
       ·rename_i e0 t0 ys hm0
        exact ⟨_,h,fun _=>vV hE ho hT ht hi hx hrow hm0 hb.1 hb.2⟩
       ·cases h
      ·rename_i hno Ni
       exact ⟨_,h,fun _=>nU hE ho hT ht hi hrow (fun m hm=>absurd hm (hno m)) (fun m z l hh hm=>Ni m z l hh hm) hb.1 hb.2⟩
     ·cases h
    ·cases h
   ·split at h
    ·rename_i n U hA
     split at h
     ·rename_i u hu
      obtain ⟨hb,h⟩:=dA h
      simp only [Bool.and_eq_true,decide_eq_true_eq] at hb
      split at h
      ·split at h
       ·rename_i m off hx;exact ⟨_,h,fun _=>dF hE ho hA hu hi hb.1 hb.2 (.inl ⟨_,_,hx,rfl⟩)⟩
       ·rename_i t y off hx;exact ⟨_,h,fun _=>dF hE ho hA hu hi hb.1 hb.2 (.inr (.inl ⟨_,_,_,hx,rfl⟩))⟩
       ·rename_i m z q off hx;exact ⟨_,h,fun _=>dF hE ho hA hu hi hb.1 hb.2 (.inr (.inr (.inl ⟨_,_,_,_,hx,rfl⟩)))⟩
       ·cases h
      ·split at h
       ·rename_i h1
        have h1:=Nat.eq_of_beq_eq_true h1
        split at h
        ·rename_i m off hx;exact ⟨_,h,fun _=>dF hE ho hA hu hi hb.1 hb.2 (.inr (.inr (.inr ⟨h1,.inl ⟨_,_,hx,rfl⟩⟩)))⟩
        ·rename_i t y off hx;exact ⟨_,h,fun _=>dF hE ho hA hu hi hb.1 hb.2 (.inr (.inr (.inr ⟨h1,.inr (.inl ⟨_,_,_,hx,rfl⟩)⟩)))⟩
        ·rename_i m z q off hx;exact ⟨_,h,fun _=>dF hE ho hA hu hi hb.1 hb.2 (.inr (.inr (.inr ⟨h1,.inr (.inr ⟨_,_,_,_,hx,rfl⟩)⟩)))⟩
        ·cases h
       ·cases h
     ·cases h
    ·cases h
  ·cases h
 ·rename_i T x i ho
  split at h
  ·rename_i kk j cs hi hx
   split at h
   ·rename_i n U hA
    split at h
    ·rename_i u hu
     obtain ⟨hb,h⟩:=dA h
     simp only [Bool.and_eq_true,decide_eq_true_eq] at hb
     split at h
     ·split at h
      ·rename_i v hl;exact ⟨_,h,fun _=>vS hE ho hA hu hi hx hb.1 hb.2 hl⟩
      ·cases h
     ·split at h
      ·rename_i h1
       split at h
       ·rename_i v hl;exact ⟨_,h,fun _=>uU hE ho hA hu (Nat.eq_of_beq_eq_true h1) hi hx hb.1 hb.2 hl⟩
       ·cases h
      ·cases h
    ·cases h
   ·cases h
  ·cases h
 ·rename_i T x y ho
  split at h
  ·rename_i n m hx hy
   split at h
   ·rename_i e hb hT
    simp only [Bool.and_eq_true,Bool.not_eq_true'] at hb
    obtain ⟨d,hd⟩:=kF hb.2
    split at h
    ·rename_i t ht
     obtain ⟨hnm,h1⟩:=dA h
     subst hnm
     obtain ⟨hl,h2⟩:=dA h1
     simp only [Bool.and_eq_true,decide_eq_true_eq] at hl
     exact ⟨_,h2,fun _=>Es hE ho hd hx hy hT ht hl.1 (Nat.le_of_ble_eq_true hl.2)⟩
    ·cases h
   ·cases h
  ·cases h
 ·rename_i T n ps ho
  split at h
  ·rename_i e hb hT
   simp only [Bool.and_eq_true,Bool.not_eq_true'] at hb
   obtain ⟨d,hd⟩:=kF hb.2
   split at h
   ·rename_i t ht
    split at h
    ·rename_i xs ns hel
     split at h
     ·rename_i hl
      simp only [Bool.and_eq_true] at hl
      rw [lY] at hl
      exact ⟨_,h,fun _=>rG hE ho hd hT ht hel (Nat.eq_of_beq_eq_true hl.1) (Nat.le_of_ble_eq_true hl.2)⟩
     ·cases h
    ·cases h
   ·cases h
  ·cases h
 ·rename_i T ps ho
  split at h
  ·rename_i t ht
   split at ht
   ·rename_i hA
    split at h
    ·rename_i cs hc
     split at h
     ·exact ⟨_,h,fun _=>Cq hE ho ht hA hc⟩
     ·split at h
      rename_i cs' us b' hz
      split at h
      ·rename_i hb';exact ⟨_,h,fun _=>Eu hE ho ht hA hc hz (Nat.le_of_ble_eq_true hb')⟩
      ·cases h
    ·cases h
   ·cases ht
  ·cases h
 ·rename_i T x lo hi ho
  split at h
  ·rename_i e hT
   split at h
   ·rename_i t ht
    split at h
    ·rename_i xs ns hrow
     split at h
     ·rename_i l hh hlo hhi
      obtain ⟨hb,h1⟩:=dA h
      clear h
      have h:=h1
      clear h1
      simp only [Bool.and_eq_true,decide_eq_true_eq] at hb
      split at h
      ·rename_i d hd
       split at h
       ·rename_i m Kk hx
        split at h
        ·rename_i e' t' ys hm
         simp only [Gh] at hlo
         injection hlo with hlo;subst hlo
         exact ⟨_,h,fun _=>uY hE ho hT ht hx hrow (by simp [bP,hm]) hhi hb.2.1 hb.2.2⟩
        ·cases h
       ·rename_i m Kk hx
        split at h
        ·rename_i e' t' ys hm
         exact ⟨_,h,fun _=>rF hE ho hT ht hx hrow (by simp [bP,hm]) hlo hhi hb.1 hb.2.1 hb.2.2⟩
        ·exact ⟨_,h,fun _=>nY hE ho hT ht hrow hlo hhi hb.1 hb.2.1 hb.2.2⟩
       ·rename_i hx
        exact ⟨_,h,fun _=>uX hE ho hT ht hx hrow hlo hhi hb.1 hb.2.1 hb.2.2⟩
       ·exact ⟨_,h,fun _=>nY hE ho hT ht hrow hlo hhi hb.1 hb.2.1 hb.2.2⟩
      ·cases h
     ·cases h
    ·cases h
   ·cases h
  ·cases h
 ·rename_i cl ho
  split at h
  ·rename_i bi hc;exact yP hE ho hc h
  ·rename_i f hc
   split at h
   ·rename_i g caps hf;exact wQ (fst:=[]) hE ho hc (.inl ⟨hf,rfl⟩) h
   ·rename_i g fst hf;exact wQ (caps:=[]) hE ho hc (.inr ⟨hf,rfl⟩) (by rw [List.append_nil];exact h)
   ·cases h
  ·cases h
 ·rename_i T q ho
  split at h
  ·rename_i k v hb hT
   simp only [Bool.and_eq_true] at hb
   have:=tF hb.2;subst this
   split at h
   ·exact ⟨_,h,fun _=>yH hE ho hT⟩
   ·cases h
  ·rename_i hb hT
   simp only [Bool.and_eq_true] at hb
   have:=tF hb.2;subst this
   split at h
   ·split at h
    ·exact ⟨_,h,fun _=>wO ho⟩
    ·cases h
   ·cases h
  ·cases h
 ·rename_i T x i yJ ho
  split at h
  ·rename_i n hx
   split at h
   ·rename_i T' ak tk av tv es hm
    split at h
    ·rename_i hB
     simp only [Bool.and_eq_true] at hB
     have:=Nat.eq_of_beq_eq_true hB.1;subst this
     split at h
     ·rename_i d ns hp
      split at h
      ·exact ⟨_,h,fun _=>sS hE ho hx hm hB.2 hp rfl (.inl ⟨rfl,rfl⟩)⟩
      ·exact ⟨_,h,fun _=>sS hE ho hx hm hB.2 hp rfl (.inr ⟨rfl,rfl⟩)⟩
     ·cases h
    ·cases h
   ·rename_i T' ak tk es hm
    split at h
    ·rename_i hB
     simp only [Bool.and_eq_true] at hB
     have:=Nat.eq_of_beq_eq_true hB.1;subst this
     split at h
     ·rename_i d ns hp
      rw [wJ] at h
      cases yJ <;> cases hq:jG tk d es <;> rw [hq] at h <;> simp only at h
      ·exact ⟨_,h,fun _=>iO hE ho hx hm hB.2 hp (.inr ⟨rfl,.inr ⟨hq,rfl⟩⟩)⟩
      ·exact ⟨_,h,fun _=>iO hE ho hx hm hB.2 hp (.inr ⟨rfl,.inl hq⟩)⟩
      ·exact ⟨_,h,fun _=>iO hE ho hx hm hB.2 hp (.inl ⟨rfl,.inr ⟨hq,rfl⟩⟩)⟩
      ·exact ⟨_,h,fun _=>iO hE ho hx hm hB.2 hp (.inl ⟨rfl,.inl ⟨_,hq,rfl⟩⟩)⟩
     ·cases h
    ·cases h
   ·cases h
  ·cases h
 ·rename_i T x i y ho
  exact zY hE (.inr ho) h
 ·rename_i T x i y ho
  exact zY hE (.inl ho) h
 ·rename_i g first caps ho
  split at h
  ·rename_i hf;exact ⟨_,h,fun _=>wF ho hf⟩
  ·split at h
   ·rename_i hf;exact ⟨_,h,fun _=>Ar ho hf⟩
   ·cases h
 ·cases h
end
end Go.Proofs.YtmmagcjlfcicfaaGreat.Ab
set_option linter.unusedVariables false
set_option linter.unusedSimpArgs false
namespace Go.Proofs.YtmmagcjlfcicfaaGreat.Ab
open Go.RowKit
section
variable {P:Program} {E:Env} {c:Ctx} {R:Type} {r:R}
theorem Rel.congr {s s':St} {a:Act} {w:World} {μ:Nat -> Value} {Nm:Nat -> Prop} (h:Rel c s a w μ Nm) (h1:∀ x,s'.sl x=s.sl x) (h2:∀ n,s'.mem n=s.mem n) (h3:s'.n=s.n) (h4:s'.np=s.np:=by rfl):Rel c s' a w μ Nm:=by
 have e1:s'.sl=s.sl:=funext h1
 have e2:s'.mem=s.mem:=funext h2
 exact ⟨by rw [h3];exact h.size,by rw [h4];exact h.np,h.pins,h.defers,h.below,by rw [e2];exact h.names,by rw [e2];exact h.objs,by rw [e2];exact h.dist,by rw [e1,e2];exact h.slots⟩
def yR (P:Program) (c:Ctx) (ops:Array Oper) (o:Oper) (s:St) (b:Nat) (e:Eff):Prop :=
 ∀ (s':St) (a:Act) (w:World) (μ:Nat -> Value) (Nm:Nat -> Prop) (next:Act -> World -> Prop) (Q:Exit -> Act -> World -> Prop),
  (∀ t∈jC ops.toList o,s'.sl t=s.sl t) -> s'.n=s.n -> (∀ n∈e.nm,s'.mem n=s.mem n) -> Rel c s' a w μ Nm -> (∀ n,b <= n -> n<b+64 -> ¬ Nm n) ->
  (∀ a' w' μ' Nm',Rel c (s'.app o.dst e) a' w' μ' Nm' -> (∀ n,Nm' n -> Nm n \/ (b <= n /\ n<b+64)) -> next a' w') ->
  if Region.wanted o (yielded ops a.tmps) then o.wp P a w next Q else next (a.put o.dst undef) w
theorem tH (hE:aH P E) {k:Nat} {ops:Array Oper} {o:Oper} {b:Nat} {s:St} {κ:Eff -> Option R} (h:uF E k ops.toList o b s κ=some r):∃ e,κ e=some r /\ (gT s.mem b e.upd=true -> yR P c ops o s b e):=by
 unfold uF at h
 split at h
 ·cases h
 ·rename_i hdst
  have hd:∀ d,o.dst=some d -> d<s.n:=by
   intro d hd
   rw [hd] at hdst
   exact Nat.blt_eq.mp hdst
  have agree:∀ {s':St} {nm:List Nat},(∀ t∈jC ops.toList o,s'.sl t=s.sl t) -> s'.n=s.n -> (∀ n∈nm,s'.mem n=s.mem n) -> Agree o s s' nm:=by
   intro s' nm h1 h2 h3
   refine ⟨fun x hx=>?_,h2,h3⟩
   cases x with
   | tmp t =>
    simp only [St.op]
    refine h1 t ?_
    simp only [jC,List.mem_append]
    exact .inl (List.mem_filterMap.2 ⟨.tmp t,hx,rfl⟩)
   | _=>rfl
  split at h
  ·rename_i hg
   obtain ⟨e,h1,h2⟩:=wR (c:=c) hE h
   refine ⟨e,h1,fun hf s' a w μ Nm next Q hl hn hm hr hfr hnext=>?_⟩
   have hw:Region.wanted o (yielded ops a.tmps)=true:=by simp [Region.wanted,hg]
   rw [if_pos hw]
   exact h2 hf s' a w μ Nm next Q (agree hl hn hm) hr hfr (by rw [hn];exact hd) hnext
  ·rename_i g want hg
   split at h
   ·rename_i og hog
    split at h
    ·rename_i d hgd
     split at h
     ·rename_i t ht
      have hy:∀ (s':St) (a:Act) (w:World) μ Nm,(∀ t∈jC ops.toList o,s'.sl t=s.sl t) -> Rel c s' a w μ Nm -> yielded ops a.tmps g=some t:=by
       intro s' a w μ Nm hl hr
       have Fa:ops[g]? = some og:=by rw [<- Array.getElem?_toList];exact hog
       have h1:=hr.slots d
       rw [hl d (by
        simp only [jC,List.mem_append]
        refine .inr ?_
        rw [hg]
        simp only [hog,Option.bind_some,hgd,Option.mem_toList]),ht] at h1
       simp only [aA] at h1
       have h2:a.tmps[d]? = some (.bool t):=by
        rw [Array.getD_eq_getD_getElem?] at h1
        cases hh:a.tmps[d]? with
        | none=>rw [hh] at h1;cases h1
        | some v=>rw [hh] at h1;simpa using h1
       simp [yielded,Fa,hgd,h2]
      by_cases Lr:(t==want)=true
      ·rw [if_pos Lr] at h
       obtain ⟨e,h1,h2⟩:=wR (c:=c) hE h
       refine ⟨e,h1,fun hf s' a w μ Nm next Q hl hn hm hr hfr hnext=>?_⟩
       have hw:Region.wanted o (yielded ops a.tmps)=true:=by
        simp only [Region.wanted,hg]
        rw [hy s' a w μ Nm hl hr]
        have:t=want:=by simpa using Lr
        rw [this];simp
       rw [if_pos hw]
       exact h2 hf s' a w μ Nm next Q (agree hl hn hm) hr hfr (by rw [hn];exact hd) hnext
      ·rw [if_neg Lr] at h
       refine ⟨_,h,fun hf s' a w μ Nm next Q hl hn hm hr hfr hnext=>?_⟩
       have hw:¬ Region.wanted o (yielded ops a.tmps)=true:=by
        simp only [Region.wanted,hg]
        rw [hy s' a w μ Nm hl hr]
        simpa using Lr
       rw [if_neg hw]
       refine hnext _ _ μ Nm ?_ (fun n h=>.inl h)
       rw [uR]
       exact hr.put o.dst (by rw [hn];exact hd) (by simp only [aA])
     ·rename_i ht
      refine ⟨_,h,fun hf s' a w μ Nm next Q hl hn hm hr hfr hnext=>?_⟩
      have hy:yielded ops a.tmps g=none:=by
       have Fa:ops[g]? = some og:=by rw [<- Array.getElem?_toList];exact hog
       have h1:=hr.slots d
       rw [hl d (by
        simp only [jC,List.mem_append]
        refine .inr ?_
        rw [hg]
        simp only [hog,Option.bind_some,hgd,Option.mem_toList]),ht] at h1
       simp only [aA] at h1
       rw [Array.getD_eq_getD_getElem?] at h1
       cases hh:a.tmps[d]? with
       | none=>simp [yielded,Fa,hgd,hh]
       | some v=>rw [hh] at h1;simp only [Option.getD_some] at h1;subst h1;simp [yielded,Fa,hgd,hh,undef]
      have hw:¬ Region.wanted o (yielded ops a.tmps)=true:=by
       simp only [Region.wanted,hg]
       rw [hy]
       simp
      rw [if_neg hw]
      refine hnext _ _ μ Nm ?_ (fun n h=>.inl h)
      rw [uR]
      exact hr.put o.dst (by rw [hn];exact hd) (by simp only [aA])
     ·cases h
    ·cases h
   ·cases h
theorem mG (n:Nat) (κ:Nat -> R):xS n κ=κ n:=by cases n <;> rfl
theorem Fb (n:Int) (κ:Int -> R):Hl n κ=κ n:=by cases n <;> simp only [Hl,mG]
theorem iU {α:Type} {f:α -> (α -> R) -> R} (hf:∀ x κ,f x κ=κ x):∀ (xs:List α) (κ:List α -> R),uG f xs κ=κ xs
 | [],κ=>rfl
 | x::r,κ=>by simp only [uG];rw [hf,iU hf r]
theorem step_eq (s:St) (d:Option Tmp) (e:Eff) (nx:Nat):s.step d e nx={ s.app d e with gU:=nx }:=by cases d <;> rfl
theorem tJ {d:Nat} {s:St} {κ:St -> Option R} (h:uH d s κ=some r):κ s=some r:=by
 unfold uH at h
 split at h
 ·rename_i t ht
  have hs:∀ b,s.sl d=.bool b -> { s with sl:=qZ s.sl d (.bool b) }=s:=fun b hb=>by
   have:qZ s.sl d (.bool b)=s.sl:=by
    funext x
    rw [jI]
    split
    ·rename_i e;rw [<- e,hb]
    ·rfl
   rw [this]
  cases t with
  | true=>simp only at h;rw [hs true ht] at h;exact h
  | false=>simp only at h;rw [hs false ht] at h;exact h
 ·exact h
 ·cases h
theorem Ay {c:Operand} {s:St} {κ:St -> Option R} (h:xU c s κ=some r):κ s=some r:=by
 unfold xU at h
 split at h
 ·exact tJ h
 ·exact h
theorem tK {all:List Oper} {o:Oper} {s:St} {κ:St -> Option R} (h:uI all o s κ=some r):κ s=some r:=by
 unfold uI at h
 split at h
 ·exact h
 ·split at h
  ·split at h
   ·exact tJ h
   ·cases h
  ·cases h
theorem tL (hE:aH P E) {k:Nat} {ops:Array Oper} {κ:St -> Option R} {Q:Exit -> Act -> World -> Prop}:∀ (l:List Oper) (i:Nat),ops.toList.drop i=l -> ∀ (s:St),pG E k ops.toList l κ s=some r -> ∀ (a:Act) (w:World) (μ:Nat -> Value) (Nm:Nat -> Prop),Rel c s a w μ Nm -> (∀ n,Nm n -> n<s.gU) ->
  (∀ s' a' w' μ' Nm',κ s'=some r -> s'.n=s.n -> Rel c s' a' w' μ' Nm' -> (∀ n,Nm' n -> n<s'.gU) -> Q .normal a' w') -> wpOps P ops Q (List.range' i l.length) a w
 | [],i,hi,s,h,a,w,μ,Nm,hr,hN,hQ=>by
  simp only [pG] at h
  simp only [List.length_nil,List.range'_zero,wpOps]
  exact hQ s a w μ Nm h rfl hr hN
 | o::l,i,hi,s,h,a,w,μ,Nm,hr,hN,hQ=>by
  simp only [pG] at h
  obtain ⟨e,h1,h2⟩:=tH (c:=c) hE (tK h)
  split at h1
  ·rename_i hf
   rw [mG,step_eq] at h1
   have hoi:ops[i]? = some o:=by
    rw [<- Array.getElem?_toList]
    have:=congrArg (·[0]?) hi
    simpa using this
   have hdr:ops.toList.drop (i+1)=l:=by
    have:=congrArg (·.drop 1) hi
    simpa [List.drop_drop] using this
   simp only [List.length_cons,List.range'_succ]
   rw [wpOps_cons]
   unfold wpOp
   rw [hoi]
   have key:=h2 hf s a w μ Nm (wpOps P ops Q (List.range' (i+1) l.length)) Q (fun _ _=>rfl) rfl (fun _ _=>rfl) hr (fun n hb hb' hn=>by have:=hN n hn;omega) (fun a' w' μ' Nm' hr' hN'=>by
    refine tL hE l (i+1) hdr _ h1 a' w' μ' Nm' (hr'.congr (fun _=>rfl) (fun _=>rfl) rfl) (fun n hn=>?_) (fun s' a2 w2 μ2 Nm2 hk hn hr2 Dz=>hQ s' a2 w2 μ2 Nm2 hk ?_ hr2 Dz)
    ·show n<s.gU+64
     rcases hN' n hn with h3 | h3
     ·have:=hN n h3;omega
     ·exact h3.2
    ·rw [hn]
     show (s.app o.dst e).n=s.n
     cases hd:o.dst <;> simp [St.app,St.put])
   simp only
   by_cases hw:Region.wanted o (yielded ops a.tmps)=true
   ·rw [if_pos hw] at key ⊢;exact .inl key
   ·rw [if_neg hw] at key ⊢;exact key
  ·cases h1
end
end Go.Proofs.YtmmagcjlfcicfaaGreat.Ab
set_option linter.unusedVariables false
set_option linter.unusedSimpArgs false
namespace Go.Proofs.YtmmagcjlfcicfaaGreat.Ab
open Go.RowKit
section
variable {P:Program} {E:Env} {c:Ctx} {R:Type} {r:R}
def fB (s0:St) (dst:Nat -> Option Tmp) (ef:Nat -> Eff) (D:Nat -> Bool):Nat -> St
 | 0=>s0
 | i+1=>match D i with | true=>(fB s0 dst ef D i).app (dst i) (ef i) | false=>fB s0 dst ef D i
section
variable {s0:St} {dst:Nat -> Option Tmp} {ef Qk:Nat -> Eff} {D D':Nat -> Bool}
theorem fH (s:St) (d:Option Tmp) (e:Eff) (x:Nat):(s.app d e).sl x=if d=some x then e.val else s.sl x:=by
 cases d with
 | none=>simp [St.app,St.put]
 | some d =>
  simp only [St.app,St.put,jI,Option.some.injEq]
theorem eF (s:St) (d:Option Tmp) (e:Eff):(s.app d e).mem=aB s.mem e.upd:=by cases d <;> rfl
theorem Cx (s:St) (d:Option Tmp) (e:Eff):(s.app d e).n=s.n:=by cases d <;> rfl
theorem yS (s:St) (d:Option Tmp) (e:Eff):(s.app d e).np=s.np:=by cases d <;> rfl
theorem nH:∀ i,(fB s0 dst ef D i).np=s0.np
 | 0=>rfl
 | i+1=>by
  simp only [fB]
  split
  ·rw [yS,nH i]
  ·exact nH i
theorem mH:∀ i,(fB s0 dst ef D i).n=s0.n
 | 0=>rfl
 | i+1=>by
  simp only [fB]
  split
  ·rw [Cx,mH i]
  ·exact mH i
theorem nI:∀ (i:Nat),(∀ j,j<i -> ef j=Qk j) -> (∀ j,j<i -> D j=D' j) -> fB s0 dst ef D i=fB s0 dst Qk D' i
 | 0,_,_=>rfl
 | i+1,h,h'=>by
  simp only [fB]
  rw [nI i (fun j hj=>h j (by omega)) (fun j hj=>h' j (by omega)),h i (by omega),h' i (by omega)]
theorem qJ {x:Nat}:∀ (i:Nat),(∀ j,j<i -> dst j=some x -> D j=D' j) -> (fB s0 dst ef D i).sl x=(fB s0 dst ef D' i).sl x
 | 0,_=>rfl
 | i+1,h=>by
  have ih:=qJ i (fun j hj=>h j (by omega))
  by_cases hd:dst i=some x
  ·simp only [fB,h i (by omega) hd]
   split
   ·rw [fH,fH,if_pos hd,if_pos hd]
   ·exact ih
  ·simp only [fB]
   split <;> split
   ·rw [fH,fH,if_neg hd,if_neg hd];exact ih
   ·rw [fH,if_neg hd];exact ih
   ·rw [fH,if_neg hd];exact ih
   ·exact ih
theorem kG {n:Nat}:∀ {us:List (Nat×Option Obj)},n ∉ aN us -> ∀ p∈us,p.1≠n
 | [],_,p,hp=>by cases hp
 | (i,o)::us,h,p,hp=>by
  simp only [aN,List.mem_cons,not_or] at h
  rcases List.mem_cons.1 hp with rfl | hp
  ·exact fun e=>h.1 e.symm
  ·exact kG h.2 p hp
theorem mem_congr {n:Nat}:∀ (i:Nat),(∀ j,j<i -> n∈aN (ef j).upd -> D j=D' j) -> (fB s0 dst ef D i).mem n=(fB s0 dst ef D' i).mem n
 | 0,_=>rfl
 | i+1,h=>by
  have ih:=mem_congr i (fun j hj=>h j (by omega))
  by_cases hd:n∈aN (ef i).upd
  ·simp only [fB,h i (by omega) hd]
   split
   ·rw [eF,eF];exact jU _ ih
   ·exact ih
  ·have hu:=kG hd
   simp only [fB]
   split <;> split
   ·rw [eF,eF,eB _ hu,eB _ hu];exact ih
   ·rw [eF,eB _ hu];exact ih
   ·rw [eF,eB _ hu];exact ih
   ·exact ih
theorem vF {x i:Nat}:∀ (m:Nat),i <= m -> (∀ j,i <= j -> j<m -> dst j=some x -> D j=false) -> (fB s0 dst ef D m).sl x=(fB s0 dst ef D i).sl x
 | 0,h,_=>by rw [Nat.le_zero.1 h]
 | m+1,h,hd=>by
  by_cases e:i=m+1
  ·rw [e]
  ·have ih:=vF m (by omega) (fun j h1 h2=>hd j h1 (by omega))
   simp only [fB]
   split
   ·rename_i hD
    rw [fH,if_neg (fun h'=>by rw [hd m (by omega) (by omega) h'] at hD;cases hD)];exact ih
   ·exact ih
theorem mI {n i:Nat}:∀ (m:Nat),i <= m -> (∀ j,i <= j -> j<m -> n∈aN (ef j).upd -> D j=false) -> (fB s0 dst ef D m).mem n=(fB s0 dst ef D i).mem n
 | 0,h,_=>by rw [Nat.le_zero.1 h]
 | m+1,h,hd=>by
  by_cases e:i=m+1
  ·rw [e]
  ·have ih:=mI m (by omega) (fun j h1 h2=>hd j h1 (by omega))
   simp only [fB]
   split
   ·rename_i hD
    rw [eF,eB _ (kG (fun h'=>by rw [hd m (by omega) (by omega) h'] at hD;cases hD))];exact ih
   ·exact ih
end
structure Same (s t:St):Prop where
 sl:s.sl=t.sl
 mem:s.mem=t.mem
 n:s.n=t.n
 np:s.np=t.np
def qK (ops:Array Oper) (i:Nat):Oper:=ops.getD i default
theorem qL {ops:Array Oper} {i:Nat} {o:Oper} (h:ops[i]? = some o):qK ops i=o:=by simp [qK,Array.getD_eq_getD_getElem?,h]
theorem Fe {ops:Array Oper} {i:Nat} (h:i<ops.size):ops[i]? = some (qK ops i):=by simp [qK,h]
def bS (ops:Array Oper) (i:Nat):Option Tmp:=(qK ops i).dst
def mJ (ops:Array Oper) (ef:Nat -> Eff) (i:Nat):Rec:=⟨qK ops i,i,(ef i).nm,aN (ef i).upd⟩
theorem mK (hE:aH P E) {k:Nat} {ops:Array Oper} {κ:St -> Option R} {s0:St}:∀ (l:List Oper) (i:Nat),ops.toList.drop i=l -> ∀ (recs:List Rec) (s:St) (Fg:Nat -> Eff),jY E k ops.toList l i recs κ s=some r -> Same s (fB s0 (bS ops) Fg (fun _=>true) i) -> s.gU=s0.gU+64 * i ->
  ∃ ef:Nat -> Eff,(∀ j,j<i -> ef j=Fg j) /\ (∀ j,i <= j -> j<i+l.length -> yR P c ops (qK ops j) (fB s0 (bS ops) ef (fun _=>true) j) (s0.gU+64 * j) (ef j) /\ uJ (qK ops j) j=true) /\
   Aj ops.toList (recs++(List.range' i l.length).map (mJ ops ef))=true /\ ∃ s',κ s'=some r /\ Same s' (fB s0 (bS ops) ef (fun _=>true) (i+l.length)) /\ s'.gU=s0.gU+64 * (i+l.length)
 | [],i,hi,recs,s,Fg,h,hs,hx=>by
  simp only [jY] at h
  split at h
  ·rename_i ha
   exact ⟨Fg,fun _ _=>rfl,fun j h1 h2=>by simp at h2;omega,by simpa using ha,s,h,by simpa using hs,by simpa using hx⟩
  ·cases h
 | o::l,i,hi,recs,s,Fg,h,hs,hx=>by
  simp only [jY] at h
  split at h
  ·rename_i hg
   obtain ⟨e,h1,h2⟩:=tH (c:=c) hE (tK h)
   split at h1
   ·rename_i hf
    rw [mG,iU mG,iU mG,step_eq] at h1
    have hoi:ops[i]? = some o:=by
     rw [<- Array.getElem?_toList]
     have:=congrArg (·[0]?) hi
     simpa using this
    have hdr:ops.toList.drop (i+1)=l:=by
     have:=congrArg (·.drop 1) hi
     simpa [List.drop_drop] using this
    have hof:=qL hoi
    have hst:fB s0 (bS ops) (fun j=>if j=i then e else Fg j) (fun _=>true) i=fB s0 (bS ops) Fg (fun _=>true) i:=nI i (fun j hj=>if_neg (by omega)) (fun _ _=>rfl)
    obtain ⟨ef,g1,g2,g3,s',g4,g5,g6⟩:=mK (s0:=s0) hE l (i+1) hdr (recs++[⟨o,i,e.nm,aN e.upd⟩]) { s.app o.dst e with gU:=s.gU+64 } (fun j=>if j=i then e else Fg j) h1 (by
     have hd:bS ops i=o.dst:=by simp [bS,hof]
     refine ⟨?_,?_,?_,by show (s.app o.dst e).np=_;rw [yS,nH,hs.np,nH]⟩
     ·show (s.app o.dst e).sl=_
      simp only [fB]
      rw [hst,if_pos trivial,hd]
      funext x
      rw [fH,fH,hs.sl]
     ·show (s.app o.dst e).mem=_
      simp only [fB]
      rw [hst,if_pos trivial,hd,eF,eF,hs.mem]
     ·show (s.app o.dst e).n=_
      rw [Cx,mH,hs.n,mH]) (by show s.gU+64=_;rw [hx];omega)
    have Ql:ef i=e:=by rw [g1 i (by omega)];simp
    have Nj:fB s0 (bS ops) ef (fun _=>true) i=fB s0 (bS ops) Fg (fun _=>true) i:=nI i (fun j hj=>by rw [g1 j (by omega)];exact if_neg (by omega)) (fun _ _=>rfl)
    refine ⟨ef,fun j hj=>by rw [g1 j (by omega)];exact if_neg (by omega),fun j hj hj2=>?_,?_,s',g4,?_,?_⟩
    ·by_cases e':j=i
     ·subst e'
      rw [hof,Ql,Nj]
      refine ⟨?_,hg⟩
      have hh:=h2 hf
      rw [hx] at hh
      intro s2 a w μ Nm next Q k1 k2 k3 k4 k5 k6
      exact hh s2 a w μ Nm next Q (fun t ht=>by rw [k1 t ht,hs.sl]) (by rw [k2,hs.n]) (fun n hn=>by rw [k3 n hn,hs.mem]) k4 k5 k6
     ·exact g2 j (by omega) (by simp at hj2;omega)
    ·have:mJ ops ef i=⟨o,i,e.nm,aN e.upd⟩:=by simp [mJ,hof,Ql]
     simp only [List.length_cons,List.range'_succ,List.map_cons]
     rw [this]
     simpa using g3
    ·have:i+(o::l).length=i+1+l.length:=by simp;omega
     rw [this];exact g5
    ·rw [g6];simp;omega
   ·cases h1
  ·cases h
theorem nJ {all:List Oper}:∀ {l:List Rec},Aj all l=true -> ∀ (i j:Nat) (x y:Rec),i<j -> l[i]? = some x -> l[j]? = some y -> zM all x y=true
 | [],_,_,_,_,_,_,h,_=>by simp at h
 | a::l,h,0,j,x,y,hij,hx,hy=>by
  simp only [Aj,Bool.and_eq_true,List.all_eq_true] at h
  simp at hx;subst hx
  obtain ⟨j',rfl⟩:∃ j',j=j'+1:=⟨j - 1,by omega⟩
  simp at hy
  exact h.1 y (List.mem_of_getElem? hy)
 | a::l,h,i+1,j,x,y,hij,hx,hy=>by
  simp only [Aj,Bool.and_eq_true] at h
  obtain ⟨j',rfl⟩:∃ j',j=j'+1:=⟨j - 1,by omega⟩
  simp at hx hy
  exact nJ h.2 i j' x y (by omega) hx hy
def Ord (ops:Array Oper) (i j:Nat):Prop:=(j<i /\ reach ops.toList 2 (qK ops i) j=true) \/ (i<j /\ reach ops.toList 2 (qK ops j) i=true)
theorem qM {ops:Array Oper} {ef:Nat -> Eff} {i j:Nat}:Br ops.toList (mJ ops ef i) (mJ ops ef j)=true↔Ord ops i j:=by
 simp only [Br,mJ,Ord,Bool.or_eq_true,Bool.and_eq_true,Nat.blt_eq]
theorem lH {l l':List Nat} {n:Nat} (h:n∈l) (h':n∈l'):kT l l'=false:=by
 cases hd:kT l l' with
 | false=>rfl
 | true=>exact absurd h' (iB hd n h)
structure Facts (ops:Array Oper) (ef:Nat -> Eff) (i j:Nat):Prop where
 dst:∀ x,bS ops i=some x -> bS ops j≠some x
 look:∀ d,bS ops j=some d -> d∈jC ops.toList (qK ops i) -> Ord ops i j
 nm:∀ n,n∈(ef i).nm -> n∈aN (ef j).upd -> Ord ops i j
 up:∀ n,n∈aN (ef i).upd -> n∈aN (ef j).upd -> Ord ops i j
theorem Ord.symm {ops:Array Oper} {i j:Nat} (h:Ord ops i j):Ord ops j i:=h.elim .inr .inl
theorem qN {ops:Array Oper} {ef:Nat -> Eff} {i j:Nat} (h:zM ops.toList (mJ ops ef i) (mJ ops ef j)=true):Facts ops ef i j /\ Facts ops ef j i:=by
 simp only [zM,Bool.and_eq_true,Bool.or_eq_true,Bool.not_eq_true'] at h
 obtain ⟨⟨⟨h1,h2⟩,h3⟩,h4⟩:=h
 have hdst:∀ x,bS ops i=some x -> bS ops j≠some x:=by
  intro x hx hy
  simp only [Jq,mJ] at h1
  simp only [bS] at hx hy
  rw [hx,hy] at h1
  simp only [Bool.not_eq_true'] at h1
  exact Nat.ne_of_beq_eq_false h1 rfl
 have hit:∀ a c d,bS ops c=some d -> d∈jC ops.toList (qK ops a) -> Ej ops.toList (qK ops a) (qK ops c)=true:=by
  intro a c d hd hl
  simp only [Ej]
  simp only [bS] at hd
  rw [hd]
  exact (jQ _ _).2 hl
 have h2':∀ d,bS ops j=some d -> d∈jC ops.toList (qK ops i) -> Ord ops i j:=fun d hd hl=>by
  rcases h2 with h2 | h2
  ·have:=hit i j d hd hl
   simp only [mJ] at h2
   rw [h2] at this;cases this
  ·exact qM.1 h2
 have h3':∀ d,bS ops i=some d -> d∈jC ops.toList (qK ops j) -> Ord ops j i:=fun d hd hl=>by
  rcases h3 with h3 | h3
  ·have:=hit j i d hd hl
   simp only [mJ] at h3
   rw [h3] at this;cases this
  ·exact qM.1 h3
 have h4':∀ n,(n∈(ef i).nm /\ n∈aN (ef j).upd) \/ (n∈(ef j).nm /\ n∈aN (ef i).upd) \/ (n∈aN (ef i).upd /\ n∈aN (ef j).upd) -> Ord ops i j:=fun n hn=>by
  rcases h4 with h4 | h4
  ·simp only [mJ] at h4
   rcases hn with hn | hn | hn
   ·rw [lH hn.1 hn.2] at h4;cases h4.1.1
   ·rw [lH hn.1 hn.2] at h4;cases h4.1.2
   ·rw [lH hn.1 hn.2] at h4;cases h4.2
  ·exact qM.1 h4
 exact ⟨⟨hdst,h2',fun n a b=>h4' n (.inl ⟨a,b⟩),fun n a b=>h4' n (.inr (.inr ⟨a,b⟩))⟩,⟨fun x hx hy=>hdst x hy hx,h3',fun n a b=>(h4' n (.inr (.inl ⟨a,b⟩))).symm,fun n a b=>(h4' n (.inr (.inr ⟨b,a⟩))).symm⟩⟩
theorem wS {o:Oper} {j:Nat} (h:edge o j=true):∃ e∈o.after,e.on=j /\ Region.binds .any e=true:=by
 simp only [edge,List.any_eq_true,Bool.and_eq_true] at h
 obtain ⟨e,he,h1,h2⟩:=h
 exact ⟨e,by simpa using he,Nat.eq_of_beq_eq_true h1,h2⟩
theorem iV {ops:Array Oper} {listed:Array Bool} (hdc:∀ j,j<ops.size -> listed.getD j false=true -> ∀ e∈(qK ops j).after,Region.binds .any e=true -> listed.getD e.on false=true) :
  ∀ (d:Nat) (o:Oper) (j:Nat),(∀ e∈o.after,Region.binds .any e=true -> listed.getD e.on false=true) -> reach ops.toList d o j=true -> listed.getD j false=true
 | 0,o,j,ho,h=>by
  obtain ⟨e,he,h4,h5⟩:=wS h
  rw [<- h4];exact ho e he h5
 | d+1,o,j,ho,h=>by
  simp only [reach,Bool.or_eq_true] at h
  rcases h with h | h
  ·obtain ⟨e,he,h4,h5⟩:=wS h
   rw [<- h4];exact ho e he h5
  ·simp only [List.any_eq_true,Bool.and_eq_true] at h
   obtain ⟨e,he,h1,h2⟩:=h
   have hl:=ho e (by simpa using he) h1
   split at h2
   ·rename_i om Rz
    have Kl:ops[e.on]? = some om:=by simpa using Rz
    have hlt:e.on<ops.size:=(Array.getElem?_eq_some_iff.1 Kl).1
    have:=qL Kl
    exact iV hdc d om j (by rw [<- this];exact hdc e.on hlt hl) h2
   ·cases h2
theorem Cy {ops:Array Oper} {ef:Nat -> Eff} {s0:St} {Q:Exit -> Act -> World -> Prop}
  (hstep:∀ j,j<ops.size -> yR P c ops (qK ops j) (fB s0 (bS ops) ef (fun _=>true) j) (s0.gU+64 * j) (ef j) /\ uJ (qK ops j) j=true)
  (zZ:∀ i j,i<ops.size -> j<ops.size -> i≠j -> Facts ops ef i j)
  (hQ:∀ a w μ Nm,Rel c (fB s0 (bS ops) ef (fun _=>true) ops.size) a w μ Nm -> (∀ n,Nm n -> n<s0.gU+64 * ops.size) -> Q .normal a w) :
  ∀ (fuel:Nat) (listed:Array Bool) (a:Act) (w:World) (μ:Nat -> Value) (Nm:Nat -> Prop),listed.size=ops.size ->
   (∀ j,j<ops.size -> listed.getD j false=true -> ∀ e∈(qK ops j).after,Region.binds .any e=true -> listed.getD e.on false=true) ->
   ((List.range ops.size).countP (fun j=>!listed.getD j false) <= fuel) ->
   Rel c (fB s0 (bS ops) ef (fun j=>listed.getD j false) ops.size) a w μ Nm ->
   (∀ n,Nm n -> n<s0.gU \/ ∃ j,j<ops.size /\ listed.getD j false=true /\ s0.gU+64 * j <= n /\ n<s0.gU+64 * j+64) ->
   wpAny P .any ops Q fuel listed a w:=by
 have hsw:∀ (listed:Array Bool) (j:Nat),listed.size=ops.size -> j<ops.size -> listed.getD j true=listed.getD j false:=by
  intro listed j hs hj
  simp [Array.getD_eq_getD_getElem?,hs,hj]
 have hdone:∀ (listed:Array Bool) (a:Act) (w:World) (μ:Nat -> Value) (Nm:Nat -> Prop),listed.size=ops.size -> (∀ j,j<ops.size -> listed.getD j false=true) ->
   Rel c (fB s0 (bS ops) ef (fun j=>listed.getD j false) ops.size) a w μ Nm -> (∀ n,Nm n -> n<s0.gU \/ ∃ j,j<ops.size /\ listed.getD j false=true /\ s0.gU+64 * j <= n /\ n<s0.gU+64 * j+64) -> Q .normal a w:=by
  intro listed a w μ Nm hs hall hr hN
  refine hQ a w μ Nm (by rw [<- nI (ef:=ef) ops.size (fun _ _=>rfl) hall];exact hr) (fun n hn=>?_)
  rcases hN n hn with h | ⟨j,h1,_,h3,h4⟩ <;> omega
 have hnil:∀ (listed:Array Bool),listed.size=ops.size -> Region.ready .any ops listed=[] -> ∀ j,j<ops.size -> listed.getD j false=true:=by
  intro listed hs hr j
  induction j using Nat.strongRecOn with
  | _ j ih =>
   intro hj
   cases hl:listed.getD j false with
   | true=>rfl
   | false =>
    have:j∈Region.ready .any ops listed:=mem_ready.2 ⟨by rw [hsw listed j hs hj,hl],qK ops j,Fe hj,fun e he hb=>by
     have hg:=(hstep j hj).2
     simp only [uJ,Bool.and_eq_true,List.all_eq_true,Bool.or_eq_true,Bool.not_eq_true',Nat.blt_eq] at hg
     have hlt:=(hg.2 e (by simpa using he)).resolve_left (by rw [hb];simp)
     exact ih e.on hlt (by omega)⟩
    rw [hr] at this;cases this
 intro fuel
 induction fuel with
 | zero =>
  intro listed a w μ Nm hs hdc hc hr hN
  have hall:∀ j,j<ops.size -> listed.getD j false=true:=by
   intro j hj
   have h0:=Nat.le_zero.1 hc
   rw [List.countP_eq_zero] at h0
   have:=h0 j (List.mem_range.2 hj)
   simpa using this
  refine ⟨?_,hdone listed a w μ Nm hs hall hr hN⟩
  cases hr':Region.ready .any ops listed with
  | nil=>rfl
  | cons i rest =>
   have:i∈Region.ready .any ops listed:=by rw [hr'];exact List.mem_cons_self
   obtain ⟨h1,o,ho,_⟩:=mem_ready.1 this
   have hi:i<ops.size:=(Array.getElem?_eq_some_iff.1 ho).1
   rw [hsw listed i hs hi,hall i hi] at h1
   cases h1
 | succ fuel ih =>
  intro listed a w μ Nm hs hdc hc hr hN
  refine ⟨fun hr'=>hdone listed a w μ Nm hs (hnil listed hs hr') hr hN,fun i hi=>?_⟩
  obtain ⟨h1,o,ho,Cz⟩:=mem_ready.1 hi
  have hlt:i<ops.size:=(Array.getElem?_eq_some_iff.1 ho).1
  have hof:=qL ho
  subst hof
  rw [hsw listed i hs hlt] at h1
  have Ik:∀ j,j<ops.size -> Ord ops i j -> listed.getD j false=decide (j<i):=by
   intro j hj h
   rcases h with ⟨h2,h3⟩ | ⟨h2,h3⟩
   ·rw [iV hdc 2 _ j Cz h3];simp [h2]
   ·have:listed.getD j false=false:=by
     cases hl:listed.getD j false with
     | false=>rfl
     | true =>
      have:=iV hdc 2 _ i (hdc j hj hl) h3
      rw [h1] at this;cases this
    rw [this];simp;omega
  have hbelow:fB s0 (bS ops) ef (fun _=>true) i=fB s0 (bS ops) ef (fun j=>decide (j<i)) i:=nI i (fun _ _=>rfl) (fun j hj=>by simp [hj])
  have hsl:∀ t∈jC ops.toList (qK ops i),(fB s0 (bS ops) ef (fun j=>listed.getD j false) ops.size).sl t=(fB s0 (bS ops) ef (fun _=>true) i).sl t:=by
   intro t ht
   rw [hbelow,<- vF (x:=t) ops.size (Nat.le_of_lt hlt) (fun j h2 _ _=>by simp;omega)]
   refine qJ ops.size (fun j hj hd=>?_)
   by_cases e:j=i
   ·subst e;rw [h1];simp
   ·exact Ik j hj ((zZ i j hlt hj (Ne.symm e)).look t hd ht)
  have hmem:∀ n∈(ef i).nm,(fB s0 (bS ops) ef (fun j=>listed.getD j false) ops.size).mem n=(fB s0 (bS ops) ef (fun _=>true) i).mem n:=by
   intro n hn
   rw [hbelow,<- mI (n:=n) ops.size (Nat.le_of_lt hlt) (fun j h2 _ _=>by simp;omega)]
   refine mem_congr ops.size (fun j hj hd=>?_)
   by_cases e:j=i
   ·subst e;rw [h1];simp
   ·exact Ik j hj ((zZ i j hlt hj (Ne.symm e)).nm n hn hd)
  have hfresh:∀ n,s0.gU+64 * i <= n -> n<s0.gU+64 * i+64 -> ¬ Nm n:=by
   intro n h2 h3 hn
   rcases hN n hn with h4 | ⟨j,h4,h5,h6,h7⟩
   ·omega
   ·have:j=i:=by omega
    subst this
    rw [h1] at h5;cases h5
  have key:=(hstep i hlt).1 (fB s0 (bS ops) ef (fun j=>listed.getD j false) ops.size) a w μ Nm (wpAny P .any ops Q fuel (listed.setIfInBounds i true)) Q hsl (by rw [mH,mH]) hmem hr hfresh (fun a' w' μ' Nm' hr' hN'=>by
   have hset:∀ j,(listed.setIfInBounds i true).getD j false=if j=i then true else listed.getD j false:=by
    intro j
    by_cases e:j=i
    ·subst e;simp [Array.getD_eq_getD_getElem?,hs,hlt]
    ·rw [getD_set_ne false (Ne.symm e),if_neg e]
   refine ih (listed.setIfInBounds i true) a' w' μ' Nm' (by simp [hs]) (fun j hj hl e he hb=>?_) ?_ (hr'.congr (fun x=>?_) (fun n=>?_) ?_ (by rw [nH,yS,nH])) (fun n hn=>?_)
   ·rw [hset] at hl ⊢
    by_cases e':j=i
    ·subst e'
     have:=Cz e he hb
     rw [this];simp
    ·rw [if_neg e'] at hl
     rw [hdc j hj hl e he hb];simp
   ·have hlt':(List.range ops.size).countP (fun j=>!(listed.setIfInBounds i true).getD j false)<(List.range ops.size).countP (fun j=>!listed.getD j false):=by
     refine Az (fun j hj=>?_) i (List.mem_range.2 hlt) (by rw [h1];rfl) (by rw [hset];simp)
     rw [hset] at hj
     by_cases e:j=i
     ·rw [if_pos e] at hj;cases hj
     ·rw [if_neg e] at hj;exact hj
    omega
   ·by_cases hd:bS ops i=some x
    ·have h2:(fB s0 (bS ops) ef (fun j=>(listed.setIfInBounds i true).getD j false) ops.size).sl x=(fB s0 (bS ops) ef (fun j=>(listed.setIfInBounds i true).getD j false) (i+1)).sl x :=
      vF ops.size hlt (fun j h2 h3 h4=>absurd h4 ((zZ i j hlt h3 (by omega)).dst x hd))
     rw [h2]
     simp only [fB]
     rw [hset i,if_pos rfl]
     simp only
     rw [fH,if_pos hd,fH,if_pos (by exact hd)]
    ·rw [fH,if_neg (by exact hd)]
     exact qJ ops.size (fun j hj h2=>by
      rw [hset,if_neg (fun e=>hd (by rw [<- e];exact h2))])
   ·rw [eF]
    by_cases hu:n∈aN (ef i).upd
    ·have hafter:∀ j,i<j -> j<ops.size -> n∈aN (ef j).upd -> listed.getD j false=false:=fun j h2 h3 h4=>by
      rw [Ik j h3 ((zZ i j hlt h3 (by omega)).up n hu h4)];simp;omega
     have h2:(fB s0 (bS ops) ef (fun j=>(listed.setIfInBounds i true).getD j false) ops.size).mem n=(fB s0 (bS ops) ef (fun j=>(listed.setIfInBounds i true).getD j false) (i+1)).mem n :=
      mI ops.size hlt (fun j h2 h3 h4=>by rw [hset,if_neg (by omega)];exact hafter j (by omega) h3 h4)
     have h3:(fB s0 (bS ops) ef (fun j=>listed.getD j false) ops.size).mem n=(fB s0 (bS ops) ef (fun j=>listed.getD j false) i).mem n :=
      mI ops.size (Nat.le_of_lt hlt) (fun j h2 h3 h4=>by
       by_cases e:j=i
       ·rw [e];exact h1
       ·exact hafter j (by omega) h3 h4)
     rw [h2]
     simp only [fB]
     rw [hset i,if_pos rfl]
     simp only
     rw [eF]
     refine jU _ ?_
     rw [h3]
     exact mem_congr i (fun j hj _=>by rw [hset,if_neg (by omega)])
    ·rw [eB _ (kG hu)]
     exact mem_congr ops.size (fun j hj h2=>by
      rw [hset,if_neg (fun e=>hu (by rw [<- e];exact h2))])
   ·rw [mH,Cx,mH]
   ·rcases hN' n hn with h2 | h2
    ·rcases hN n h2 with h3 | ⟨j,h3,h4,h5⟩
     ·exact .inl h3
     ·refine .inr ⟨j,h3,?_,h5⟩
      rw [hset];split
      ·rfl
      ·exact h4
    ·exact .inr ⟨i,hlt,by rw [hset];simp,h2⟩)
  unfold wpOp
  rw [ho]
  simp only
  by_cases hw:Region.wanted (qK ops i) (yielded ops a.tmps)=true
  ·rw [if_pos hw] at key ⊢;exact .inl key
  ·rw [if_neg hw] at key ⊢;exact key
where
 Az {p q:Nat -> Bool} (h:∀ j,p j=true -> q j=true):∀ {l:List Nat} (i:Nat),i∈l -> q i=true -> p i=false -> l.countP p<l.countP q:=by
  intro l
  induction l with
  | nil=>intro i hi;cases hi
  | cons a l ih =>
   intro i hi hq hp
   have hle:l.countP p <= l.countP q:=List.countP_mono_left (fun x _ hx=>h x hx)
   simp only [List.countP_cons]
   rcases List.mem_cons.1 hi with rfl | hi
   ·rw [hq,hp];simp;omega
   ·have:=ih i hi hq hp
    by_cases hpa:p a=true
    ·rw [hpa,h a hpa];omega
    ·have:p a=false:=by simpa using hpa
     rw [this];simp;omega
theorem yT (hE:aH P E) {k:Nat} {ops:Array Oper} {κ:St -> Option R} {Q:Exit -> Act -> World -> Prop} {s:St} (h:jY E k ops.toList ops.toList 0 [] κ s=some r) {a:Act} {w:World} {μ:Nat -> Value} {Nm:Nat -> Prop} (hr:Rel c s a w μ Nm) (hN:∀ n,Nm n -> n<s.gU)
  (hQ:∀ s' a' w' μ' Nm',κ s'=some r -> s'.n=s.n -> Rel c s' a' w' μ' Nm' -> (∀ n,Nm' n -> n<s'.gU) -> Q .normal a' w'):wpAny P .any ops Q ops.size (Array.replicate ops.size false) a w:=by
 obtain ⟨ef,_,g2,g3,s',g4,g5,g6⟩:=mK (c:=c) (s0:=s) hE ops.toList 0 rfl [] s (fun _=>⟨.undef,[],[]⟩) h ⟨rfl,rfl,rfl,rfl⟩ rfl
 simp only [Array.length_toList,Nat.zero_add,List.nil_append] at g2 g3 g5 g6
 have hf:∀ j,(Array.replicate ops.size false).getD j false=false:=by
  intro j
  simp only [Array.getD_eq_getD_getElem?,Array.getElem?_replicate]
  split <;> rfl
 have hget:∀ i,i<ops.size -> ((List.range' 0 ops.size).map (mJ ops ef))[i]? = some (mJ ops ef i):=by
  intro i hi
  simp [List.getElem?_range',hi]
 refine Cy (c:=c) (ef:=ef) (s0:=s) (fun j hj=>g2 j (Nat.zero_le _) hj) (fun i j hi hj hij=>?_) (fun a' w' μ' Nm' hr' hN'=>?_) ops.size (Array.replicate ops.size false) a w μ Nm (by simp) (fun j hj hl=>by rw [hf] at hl;cases hl) ?_ ?_ (fun n hn=>.inl (hN n hn))
 ·rcases Nat.lt_or_ge i j with h1 | h1
  ·exact (qN (nJ g3 i j _ _ h1 (hget i hi) (hget j hj))).1
  ·exact (qN (nJ g3 j i _ _ (by omega) (hget j hj) (hget i hi))).2
 ·exact hQ s' a' w' μ' Nm' g4 (by rw [g5.n,mH]) (hr'.congr (fun x=>by rw [g5.sl]) (fun n=>by rw [g5.mem]) g5.n g5.np) (fun n hn=>by rw [g6];exact hN' n hn)
 ·exact Nat.le_trans List.countP_le_length (by simp)
 ·have:fB s (bS ops) ef (fun j=>(Array.replicate ops.size false).getD j false) ops.size=s:=by
   have h1:∀ m,fB s (bS ops) ef (fun _=>false) m=s:=by
    intro m
    induction m with
    | zero=>rfl
    | succ m ih=>simp only [fB];exact ih
   exact (nI ops.size (fun _ _=>rfl) (fun j _=>hf j)).trans (h1 ops.size)
  rw [this];exact hr
end
end Go.Proofs.YtmmagcjlfcicfaaGreat.Ab
set_option linter.unusedVariables false
set_option linter.unusedSimpArgs false
namespace Go.Proofs.YtmmagcjlfcicfaaGreat.Ab
open Go.RowKit
section
variable {P:Program} {E:Env} {c:Ctx} {R:Type} {r:R}
variable {m:Nat -> Option Obj} {μ μ':Nat -> Value} {Nm Nm' S S':Nat -> Prop} {w:World}
theorem wT {T:Nat -> Value}:∀ (slots:List Nat) (vs:List AV) (f:Nat -> AV),(∀ x,aA μ Nm S w (f x) (T x)) -> VRels μ Nm S w vs (slots.map T) -> ∀ x,aA μ Nm S w (xW slots vs f x) (T x)
 | [],vs,f,hf,_,x=>by cases vs <;> (simp only [xW];exact hf x)
 | i::slots,[],f,hf,_,x=>by simp only [xW];exact hf x
 | i::slots,v::vs,f,hf,hv,x=>by
  simp only [List.map_cons,VRels] at hv
  simp only [xW]
  refine wT slots vs _ (fun y=>?_) hv.2 x
  rw [jI]
  split
  ·rename_i e;subst e;exact hv.1
  ·exact hf y
theorem wU {s:St} {a:Act} {w:World} {μ:Nat -> Value} {Nm:Nat -> Prop} (hr:Rel c s a w μ Nm):∀ l:List Nat,VRels μ Nm (aD c μ s.mem) w (xV s l) (l.map fun x=>a.tmps.getD x undef)
 | []=>by simp only [xV,List.map_nil,VRels]
 | x::l=>by simp only [xV,List.map_cons,VRels];exact ⟨hr.slots x,wU hr l⟩
theorem Da {np:Nat} {ns:List Nat} {n:Nat}:El np ns n=if n<np then n else aL ns (n - np):=by
 unfold El
 cases h:Nat.blt n np with
 | true=>rw [if_pos (Nat.blt_eq ▸ h)]
 | false=>rw [if_neg (fun h'=>by rw [show Nat.blt n np=true from Nat.blt_eq ▸ h'] at h;cases h)]
theorem Aa {f:Nat -> AV} {np:Nat} {ns:List Nat}:∀ {al:List (Nat×Nat)},Ll f np ns al=true -> ∀ p∈al,f p.1=.own (El np ns p.2) /\ p.2<np+ns.length
 | [],_,p,hp=>by cases hp
 | (i,n)::r,h,p,hp=>by
  simp only [Ll] at h
  split at h
  ·rename_i m hm
   split at h
   ·rename_i h1 h2
    have h1:=Nat.eq_of_beq_eq_true h1
    have h2:_<_:=Nat.blt_eq ▸ h2
    rcases List.mem_cons.1 hp with rfl | hp
    ·exact ⟨by rw [hm,h1],by simpa [lY] using h2⟩
    ·exact Aa h p hp
   ·cases h
  ·cases h
theorem tN {T:Nat -> Value}:∀ (al:List (Nat×Nat)) (f:Nat -> AV),(∀ x,aA μ Nm S w (f x) (T x)) -> (∀ p∈al,aA μ Nm S w (.own p.2) (T p.1)) -> ∀ x,aA μ Nm S w (rV al f x) (T x)
 | [],f,hf,_,x=>by simp only [rV];exact hf x
 | (i,n)::r,f,hf,ha,x=>by
  simp only [rV]
  refine tN r _ (fun y=>?_) (fun p hp=>ha p (List.mem_cons_of_mem _ hp)) x
  rw [jI]
  split
  ·rename_i e;subst e;exact ha _ List.mem_cons_self
  ·exact hf y
theorem iW {np:Nat} (hm:∀ n o,m n=some o -> aF c μ Nm S w n o) (jE:∀ j,j<np -> Nm' j /\ μ' j=μ j) (hS:∀ k,S k -> S' k):∀ (ps:List PP) (j:Nat) (d:Bt ps) (pj is:List Nat) (b:Nat),j+kK ps <= np -> iI m np ps j=some (d,pj,is) -> (∀ i,i<is.length -> μ' (b+i)=μ (aL is i) /\ Nm' (b+i)) ->
  (fV ps d j b).2=b+is.length /\ (∀ q∈(fV ps d j b).1,∃ o,o.live=true /\ ((∃ i,i<is.length /\ q=(b+i,some o) /\ aF c μ' Nm' S' w (b+i) o) \/ (∃ i,i∈pj /\ q=(i,some o) /\ aF c μ' Nm' S' w i o))) /\
   (∀ n∈pj++is,∃ o,m n=some o /\ o.live=true) /\ ∀ n∈pj,n<np
 | [],j,d,pj,is,b,_,h,_=>by
  simp only [iI] at h
  injection h with h;injection h with h1 h2;injection h2 with h2 h3;subst h2;subst h3
  exact ⟨rfl,by simp [fV],by simp,by simp⟩
 | .gone::ps,j,d,pj,is,b,hle,h,hi=>by
  simp only [iI] at h
  simp only [fV]
  exact iW hm jE hS ps (j+1) d pj is b (by simp only [kK] at hle;omega) h hi
 | .fT e t::ps,j,d,pj,is,b,hle,h,hi=>by
  simp only [kK] at hle
  simp only [iI] at h
  split at h
  ·rename_i d1 _ ho
   split at h
   ·rename_i ds pj' is' hr
    injection h with h;injection h with h1 h2;injection h2 with h2 h3;subst h1;subst h2;subst h3
    have Db:=iE ho
    have mQ:=hm j _ Db
    simp only [aF] at mQ
    obtain ⟨p1,p2⟩:=jE j (by omega)
    obtain ⟨g1,g2,g3,g4⟩:=iW hm jE hS ps (j+1) ds pj' is' b (by omega) hr hi
    simp only [fV]
    refine ⟨g1,fun q hq=>?_,fun n hn=>?_,fun n hn=>?_⟩
    ·rcases List.mem_cons.1 hq with rfl | hq
     ·refine ⟨_,rfl,.inr ⟨j,List.mem_cons_self,rfl,?_⟩⟩
      simp only [aF]
      rw [p2]
      exact kE (.inr hS) mQ
     ·obtain ⟨o,k1,k2⟩:=g2 q hq
      refine ⟨o,k1,k2.imp id (fun ⟨i,h1,h2⟩=>⟨i,List.mem_cons_of_mem _ h1,h2⟩)⟩
    ·simp only [List.cons_append,List.mem_cons] at hn
     rcases hn with rfl | hn
     ·exact ⟨_,Db,rfl⟩
     ·exact g3 n hn
    ·rcases List.mem_cons.1 hn with rfl | hn
     ·omega
     ·exact g4 n hn
   ·cases h
  ·cases h
 | .fK T cs::ps,j,d,pj,is,b,hle,h,hi=>by
  simp only [kK] at hle
  simp only [iI] at h
  split at h
  ·rename_i U xs Db
   split at h
   ·rename_i hT
    have:=Nat.eq_of_beq_eq_true hT;subst this
    split at h
    ·rename_i d1 is1 hg
     split at h
     ·rename_i ds pj' is' hr
      injection h with h;injection h with h1 h2;injection h2 with h2 h3;subst h1;subst h2;subst h3
      have mQ:=hm j _ Db
      simp only [aF] at mQ
      obtain ⟨g,vs,k1,k2,k3,k4⟩:=mQ
      obtain ⟨p1,p2⟩:=jE j (by omega)
      obtain ⟨m1,m2,m3,m4⟩:=dG (μ':=μ') (Nm':=Nm') (S':=S') hm jE cs xs vs.toList d1 is1 b (.inr hS) hg k4 (fun i hlt=>by rw [(hi i (by simp;omega)).1,jS hlt]) (fun i hlt=>(hi i (by simp;omega)).2)
      obtain ⟨g1,g2,g3,g4⟩:=iW hm jE hS ps (j+1) ds pj' is' (b+is1.length) (by omega) hr (fun i hlt=>by
       have:=hi (is1.length+i) (by simp;omega)
       rw [show b+is1.length+i=b+(is1.length+i) by omega];rw [jT] at this;exact this)
      simp only [fV]
      rw [m2]
      refine ⟨by rw [g1];simp;omega,fun q hq=>?_,fun n hn=>?_,fun n hn=>?_⟩
      ·rcases List.mem_cons.1 hq with rfl | hq
       ·refine ⟨_,rfl,.inr ⟨j,List.mem_cons_self,rfl,?_⟩⟩
        simp only [aF]
        exact ⟨g,vs,by rw [p2];exact k1,k2,k3,m1⟩
       ·rcases List.mem_append.1 hq with hq | hq
        ·obtain ⟨o,i,a1,a2,a3,a4⟩:=m3 q hq
         exact ⟨o,a3,.inl ⟨i,by simp;omega,a2,a4⟩⟩
        ·obtain ⟨o,a1,a2⟩:=g2 q hq
         rcases a2 with ⟨i,a2,a3,a4⟩ | ⟨i,a2,a3⟩
         ·refine ⟨o,a1,.inl ⟨is1.length+i,by simp;omega,by rw [a3,show b+is1.length+i=b+(is1.length+i) by omega],?_⟩⟩
          rw [show b+(is1.length+i)=b+is1.length+i by omega];exact a4
         ·exact ⟨o,a1,.inr ⟨i,List.mem_cons_of_mem _ a2,a3⟩⟩
      ·simp only [List.cons_append,List.mem_cons,List.mem_append] at hn
       rcases hn with rfl | hn | hn | hn
       ·exact ⟨_,Db,rfl⟩
       ·exact g3 n (List.mem_append_left _ hn)
       ·exact m4 n hn
       ·exact g3 n (List.mem_append_right _ hn)
      ·rcases List.mem_cons.1 hn with rfl | hn
       ·omega
       ·exact g4 n hn
     ·cases h
    ·cases h
   ·cases h
  ·cases h
theorem Dc {ct:Cut} {s:St} {x:ct.D} (h:ct.Ms s=some x) {a:Act} {w:World} {μ:Nat -> Value} {Nm:Nat -> Prop} (hr:Rel c s a w μ Nm):s.n=ct.n /\ ∃ μ' Nm',Rel c (ct.at x) a w μ' Nm' /\ ∀ i,Nm' i -> i<(ct.at x).gU:=by
 unfold Cut.Ms at h
 split at h
 ·rename_i d pj is d' ns' hl Sb hg
  simp only [Bool.and_eq_true] at hl
  have hsn:=Nat.eq_of_beq_eq_true hl.1
  have hl:=Nat.eq_of_beq_eq_true hl.2
  have hnp:kK ct.pp=c.np:=hl.trans hr.np
  split at h
  ·rename_i hnd
   simp only [Bool.and_eq_true] at hnd
   obtain ⟨hnd,hal⟩:=hnd
   have hal:=Aa hal
   have hnd:=iP hnd
   let μ':Nat -> Value:=fun i=>if i<c.np then μ i else μ (aL (is++ns') (i - c.np))
   let Nm':Nat -> Prop:=fun i=>i<c.np+(is++ns').length
   have jE:∀ j,j<s.np -> Nm' j /\ μ' j=μ j:=fun j hj=>by
    have hj':j<c.np:=by rw [<- hr.np];exact hj
    exact ⟨by show _<_;omega,by simp only [μ',hj',if_true]⟩
   have hin:∀ i,i<(is++ns').length -> μ' (c.np+i)=μ (aL (is++ns') i):=fun i hi=>by
    simp only [μ'];rw [if_neg (by omega),Nat.add_sub_cancel_left]
   have gen:∀ S':Nat -> Prop,(∀ k,aD c μ s.mem k -> S' k) -> (∀ q∈(fV ct.pp d 0 c.np).1++(lays ct.ps d' (c.np+is.length)).2.1,∃ i o,o.live=true /\ q=(i,some o) /\ aF c μ' Nm' S' w i o /\ ((i∈pj /\ i<c.np) \/ (c.np <= i /\ i<c.np+(is++ns').length))) /\ (fV ct.pp d 0 c.np).2=c.np+is.length /\ (lays ct.ps d' (c.np+is.length)).2.2=c.np+(is++ns').length /\ VRels μ' Nm' S' w (lays ct.ps d' (c.np+is.length)).1 (ct.slots.map fun x=>a.tmps.getD x undef) /\ ∀ n∈pj++(is++ns'),∃ o,s.mem n=some o /\ o.live=true:=by
    intro S' hS
    obtain ⟨g1,g2,g3,g4⟩:=iW (μ':=μ') (Nm':=Nm') hr.objs jE hS ct.pp 0 d pj is c.np (by omega) Sb (fun i hi=>⟨by rw [hin i (by simp;omega),jS hi],by show _<_;simp;omega⟩)
    obtain ⟨k1,k2,k3,k4⟩:=dG (μ':=μ') (Nm':=Nm') (S':=S') hr.objs jE ct.ps _ _ d' ns' (c.np+is.length) (.inr hS) hg (wU hr ct.slots) (fun i hi=>by rw [show c.np+is.length+i=c.np+(is.length+i) by omega,hin _ (by simp;omega),jT]) (fun i hi=>by show _<_;simp;omega)
    refine ⟨fun q hq=>?_,g1,by rw [k2];simp;omega,k1,fun n hn=>?_⟩
    ·rcases List.mem_append.1 hq with hq | hq
     ·obtain ⟨o,a1,a2⟩:=g2 q hq
      rcases a2 with ⟨i,a2,a3,a4⟩ | ⟨i,a2,a3,a4⟩
      ·exact ⟨_,o,a1,a3,a4,.inr ⟨by omega,by simp;omega⟩⟩
      ·exact ⟨_,o,a1,a3,a4,.inl ⟨a2,by rw [<- hr.np];exact g4 i a2⟩⟩
     ·obtain ⟨o,i,a1,a2,a3,a4⟩:=k3 q hq
      exact ⟨_,o,a3,a2,a4,.inr ⟨by omega,by simp;omega⟩⟩
    ·rcases List.mem_append.1 hn with hn | hn
     ·exact g3 n (List.mem_append_left _ hn)
     ·rcases List.mem_append.1 hn with hn | hn
      ·exact g3 n (List.mem_append_right _ hn)
      ·exact k4 n hn
   obtain ⟨f1,f2,f3,_,f5⟩:=gen _ (fun _ hk=>hk)
   have hback:∀ i,(i∈pj /\ i<c.np) \/ (c.np <= i /\ i<c.np+(is++ns').length) -> ∃ n,n∈pj++(is++ns') /\ μ' i=μ n /\ ((i<c.np /\ n=i) \/ (c.np <= i /\ n=aL (is++ns') (i - c.np) /\ i - c.np<(is++ns').length)):=fun i hi=>by
    rcases hi with ⟨h1,h2⟩ | ⟨h1,h2⟩
    ·exact ⟨i,List.mem_append_left _ h1,by simp only [μ',h2,if_true],.inl ⟨h2,rfl⟩⟩
    ·refine ⟨aL (is++ns') (i - c.np),List.mem_append_right _ (gG (by omega)),?_,.inr ⟨h1,rfl,by omega⟩⟩
     simp only [μ'];rw [if_neg (by omega)]
   injection h with h
   subst h
   refine ⟨hsn.symm,μ',Nm',?_⟩
   have hat:ct.at (d,d')={ sl:=rV ct.al (xW ct.slots (lays ct.ps d' (c.np+is.length)).1 (fun _=>.undef)),mem:=aB (fun _=>none) ((fV ct.pp d 0 c.np).1++(lays ct.ps d' (c.np+is.length)).2.1),gU:=(lays ct.ps d' (c.np+is.length)).2.2,n:=ct.n,np:=c.np }:=by
    unfold Cut.at
    simp only
    rw [hnp,f2]
   have Ac:∀ i o,aB (fun _=>none) ((fV ct.pp d 0 c.np).1++(lays ct.ps d' (c.np+is.length)).2.1) i=some o -> ∃ n,n∈pj++(is++ns') /\ μ' i=μ n /\ ((i<c.np /\ n=i) \/ (c.np <= i /\ n=aL (is++ns') (i - c.np) /\ i - c.np<(is++ns').length)):=fun i o hi=>by
    obtain ⟨i',o',h1,h2,_,h4⟩:=f1 _ ((dH hi).resolve_right (by simp))
    injection h2 with h2 _
    subst h2
    exact hback i h4
   have hS:∀ k,aD c μ s.mem k -> aD c μ' (aB (fun _=>none) ((fV ct.pp d 0 c.np).1++(lays ct.ps d' (c.np+is.length)).2.1)) k:=fun k hk=>⟨hk.1,fun i o hi hl hbk=>by
    obtain ⟨n,h1,h2,_⟩:=Ac i o hi
    obtain ⟨o',h3,h4⟩:=f5 n h1
    rw [h2] at hbk
    exact hk.2 _ o' h3 h4 hbk⟩
   obtain ⟨g1,g2,g3,g4,_⟩:=gen _ hS
   refine ⟨?_,fun i hi=>by rw [hat];show i<(lays ct.ps d' (c.np+is.length)).2.2;rw [g3];exact hi⟩
   rw [hat]
   refine ⟨hr.size.trans hsn.symm,rfl,fun j hj=>⟨by show _<_;omega,?_⟩,hr.defers,hr.below,fun i o hi=>?_,fun i o hi=>?_,fun i j o o' hi hj hl hl' hne k hk=>?_,fun x=>?_⟩
   ·rw [<- (hr.pins j hj).2];simp only [μ',hj,if_true]
   ·obtain ⟨n,_,_,h3⟩:=Ac i o hi
    show _<_
    rcases h3 with h3 | h3 <;> omega
   ·obtain ⟨i',o',h1,h2,h3,_⟩:=g1 _ ((dH hi).resolve_right (by simp))
    injection h2 with h2 h4
    injection h4 with h4
    subst h2;subst h4
    exact h3
   ·obtain ⟨n1,h1,h2,h3⟩:=Ac i o hi
    obtain ⟨n2,h4,h5,h6⟩:=Ac j o' hj
    obtain ⟨o1,h7,h8⟩:=f5 n1 h1
    obtain ⟨o2,h9,h10⟩:=f5 n2 h4
    rw [h2] at hk
    rw [h5]
    refine hr.dist n1 n2 o1 o2 h7 h9 h8 h10 (fun e=>hne ?_) k hk
    have yU:=List.nodup_append.1 hnd
    rcases h3 with ⟨a1,a2⟩ | ⟨a1,a2,a3⟩ <;> rcases h6 with ⟨b1,b2⟩ | ⟨b1,b2,b3⟩
    ·rw [<- a2,<- b2];exact e
    ·exfalso
     have hm2:n2∈is++ns':=by rw [b2];exact gG b3
     have hm1:n1∈pj:=by
      obtain ⟨i',o'',q1,q2,_,q4⟩:=f1 _ ((dH hi).resolve_right (by simp))
      injection q2 with q2 _
      subst q2
      rcases q4 with ⟨q4,_⟩ | ⟨q4,_⟩
      ·rw [a2];exact q4
      ·omega
     exact yU.2.2 _ hm1 _ hm2 e
    ·exfalso
     have hm1:n1∈is++ns':=by rw [a2];exact gG a3
     have hm2:n2∈pj:=by
      obtain ⟨i',o'',q1,q2,_,q4⟩:=f1 _ ((dH hj).resolve_right (by simp))
      injection q2 with q2 _
      subst q2
      rcases q4 with ⟨q4,_⟩ | ⟨q4,_⟩
      ·rw [b2];exact q4
      ·omega
     exact yU.2.2 _ hm2 _ hm1 e.symm
    ·have:=qF yU.2.1 a3 b3 (by rw [<- a2,<- b2];exact e)
     omega
   ·refine tN (T:=fun x=>a.tmps.getD x undef) ct.al _ (wT (T:=fun x=>a.tmps.getD x undef) ct.slots _ _ (fun _=>by simp only [aA]) g4) (fun p hp=>?_) x
    obtain ⟨q1,q2⟩:=hal p hp
    have q3:=hr.slots p.1
    rw [q1,Da,hnp] at q3
    rw [hnp] at q2
    simp only [aA] at q3 ⊢
    refine ⟨q2,q3.2.1.trans ?_,q3.2.2⟩
    simp only [μ']
    split <;> rfl
  ·cases h
 ·cases h
theorem Ad {ct:Cut} {s:St} {x:ct.D} (h:ct.gr s=some x) {a:Act} {w:World} {μ:Nat -> Value} {Nm:Nat -> Prop} (hr:Rel c s a w μ Nm):s.n=ct.n /\ ∃ μ' Nm',Rel c (ct.at x) a w μ' Nm' /\ ∀ i,Nm' i -> i<(ct.at x).gU:=by
 have h1:=(Rel.nC (c:=c) (m:=s.mem) (uK s.mem ct.pp 0++jH s.mem ct.ps (xV s ct.slots)) (jP.refl _) hr).1
 exact Dc (s:=ct.soft s) h h1
end
end Go.Proofs.YtmmagcjlfcicfaaGreat.Ab
set_option linter.unusedVariables false
set_option linter.unusedSimpArgs false
namespace Go.Proofs.YtmmagcjlfcicfaaGreat.Ab
open Go.RowKit
section
variable {P:Program} {E:Env} {c:Ctx} {R:Type} {r:R}
def Df:Gj -> Exit
 | .normal=>.normal | .exit id=>.exit id | .ret=>.ret
theorem wV {C:Code} {Q:Exit -> Act -> World -> Prop}:∀ {i j:Nat} {a:Act} {w:World},i <= j -> Code.rounds P C Q i a w -> Code.rounds P C Q j a w
 | 0,_,_,_,_,h=>h.elim
 | i+1,0,_,_,hij,_=>by omega
 | i+1,j+1,a,w,hij,h=>by
  rw [rounds_succ] at h ⊢
  refine Code.wp_mono (fun e a w q=>?_) h
  cases e <;> first | exact q | exact wV (by omega) q
theorem fO:∀ (t:Ty) (d:t.D) (κ:t.D -> R),pI t d κ=κ d
 | .unit,_,_=>rfl
 | .int _,n,κ=>Fb n κ
 | .bool,b,κ=>by cases b <;> rfl
 | .str,_,_=>rfl
 | .sl _ t,xs,κ=>iU (fun x κ=>fO t x κ) xs κ
 | .pair a b,p,κ=>by simp only [pI];rw [fO a,fO b]
mutual
theorem Fh:∀ (p:PV) (d:p.D) (κ:p.D -> R),pJ p d κ=κ d
 | .cell t,d,κ=>by simp only [pJ];exact fO t d κ
 | .own _ t,xs,κ=>by simp only [pJ];exact iU (fun x κ=>fO t x κ) xs κ
 | .box _ cs,d,κ=>by simp only [pJ];exact iF cs d κ
 | .agg cs,d,κ=>by simp only [pJ];exact iF cs d κ
 | .nil,_,_=>by simp only [pJ]
 | .pin _ _,_,_=>by simp only [pJ]
 | .ref t,d,κ=>by simp only [pJ];exact fO t d κ
 | .lJ _ cs,d,κ=>by simp only [pJ];exact iF cs d κ
 | .mp _ _ tk _ tv,es,κ=>by simp only [pJ];exact iU (fun x κ=>by rw [fO tk,fO tv]) es κ
theorem iF:∀ (ps:List PV) (d:qY ps) (κ:qY ps -> R),lS ps d κ=κ d
 | [],_,_=>by simp only [lS]
 | p::r,d,κ=>by simp only [lS];rw [Fh p,iF r]
end
theorem mM:∀ (ps:List PP) (d:Bt ps) (κ:Bt ps -> R),lT ps d κ=κ d
 | [],_,_=>by simp only [lT]
 | .gone::r,d,κ=>by simp only [lT];exact mM r d κ
 | .fT _ t::r,d,κ=>by simp only [lT];rw [iU (fun x κ=>fO t x κ),mM r]
 | .fK _ cs::r,d,κ=>by simp only [lT];rw [iF cs,mM r]
theorem Cut.Il (ct:Cut) (x:ct.D) (κ:ct.D -> R):ct.Mt x κ=κ x:=by
 unfold Cut.Mt
 rw [mM,iF]
theorem Ba (ct:Cut) (f:(ct.D -> Option R) -> ct.D -> Option R) (j:Nat) (d:ct.D):iter ct f (j+1) d=f (iter ct f j) d:=by
 simp only [iter];rw [ct.Il]
def Just (E:Env) (k:Nat) (T:rW R):Code -> rE R -> Prop
 | .seq a c,K=>(match T.uM c with
  | .join ct f=>(∀ d,f d=bE E k T c K (ct.at d)) /\ Just E k T a (pK (fun s=>(ct.gr s).bind f) K) /\ Just E k T c K
  | _=>Just E k T a (pK (bE E k T c K) K) /\ Just E k T c K)
 | .cond _ x y,K=>Just E k T x K /\ Just E k T y K
 | .block id c,K=>Just E k T c (uN id K)
 | .loop c,K=>(match T.uL c with
  | .loop ct f sub=>(∀ g d,f g d=bE E k (sub g) c (pK (fun s=>(ct.gr s).bind g) K) (ct.at d)) /\ ∀ g,Just E k (sub g) c (pK (fun s=>(ct.gr s).bind g) K)
  | _=>True)
 | .scope c,K=>Just E k T c K
 | _,_=>True
theorem Dh {α:Type} {x y:α} {r r':zN} (h:zN.eq α x r=zN.eq α y r'):x=y /\ r=r':=by
 injection h with _ h1 h2
 exact ⟨h1,h2⟩
theorem Fj {α:Type} {f g:α -> zN} {r r':zN} (h:zN.all α f r=zN.all α g r'):f=g /\ r=r':=by
 injection h with _ h1 h2
 exact ⟨h1,h2⟩
theorem nK {E:Env} {k:Nat}:∀ (C:Code) (T:rW R) (K:rE R) (r r':zN),owed E k true T C K r=owed E k false T C K r' -> Just E k T C K /\ r=r':=by
 intro C
 induction C with
 | seq a c iha Nk =>
  intro T K r r' h
  simp only [owed,Just] at h ⊢
  cases hc:T.uM c with
  | join ct f =>
   rw [hc] at h
   obtain ⟨h1,h2⟩:=Dh h
   obtain ⟨g1,g2⟩:=iha _ _ _ _ h2
   obtain ⟨g3,g4⟩:=Nk _ _ _ _ g2
   exact ⟨⟨fun d=>congrFun h1 d,g1,g3⟩,g4⟩
  | none =>
   rw [hc] at h
   obtain ⟨g1,g2⟩:=iha _ _ _ _ h
   obtain ⟨g3,g4⟩:=Nk _ _ _ _ g2
   exact ⟨⟨g1,g3⟩,g4⟩
  | loop ct f sub =>
   rw [hc] at h
   obtain ⟨g1,g2⟩:=iha _ _ _ _ h
   obtain ⟨g3,g4⟩:=Nk _ _ _ _ g2
   exact ⟨⟨g1,g3⟩,g4⟩
 | cond q x y Gg ihy =>
  intro T K r r' h
  simp only [owed,Just] at h ⊢
  obtain ⟨g1,g2⟩:=Gg _ _ _ _ h
  obtain ⟨g3,g4⟩:=ihy _ _ _ _ g2
  exact ⟨⟨g1,g3⟩,g4⟩
 | block id c ih=>intro T K r r' h;simp only [owed,Just] at h ⊢;exact ih _ _ _ _ h
 | scope c ih=>intro T K r r' h;simp only [owed,Just] at h ⊢;exact ih _ _ _ _ h
 | loop c ih =>
  intro T K r r' h
  simp only [owed,Just] at h ⊢
  cases hc:T.uL c with
  | loop ct f sub =>
   rw [hc] at h
   obtain ⟨h1,h2⟩:=Dh h
   obtain ⟨h3,h4⟩:=Fj h2
   exact ⟨⟨fun g d=>congrFun (congrFun h1 g) d,fun g=>(ih _ _ _ _ (congrFun h3 g)).1⟩,h4⟩
  | none=>rw [hc] at h;exact ⟨trivial,h⟩
  | join ct f=>rw [hc] at h;exact ⟨trivial,h⟩
 | _=>intro T K r r' h;simp only [owed,Just] at h ⊢;exact ⟨trivial,h⟩
theorem Di (hE:aH P E) (wW:P.follows .mixedOrders=true) {n k:Nat}:∀ (C:Code) (T:rW R) (K:rE R) (s:St),Just E k T C K -> bE E k T C K s=some r -> ∀ (a:Act) (w:World) (μ:Nat -> Value) (Nm:Nat -> Prop) (Q:Exit -> Act -> World -> Prop),s.n=n -> Rel c s a w μ Nm -> (∀ i,Nm i -> i<s.gU) ->
  (∀ e s' a' w' μ' Nm',K e s'=some r -> s'.n=n -> Rel c s' a' w' μ' Nm' -> (∀ i,Nm' i -> i<s'.gU) -> Q (Df e) a' w') -> C.wp P Q a w:=by
 intro C
 induction C with
 | skip =>
  intro T K s hj h a w μ Nm Q hn hr hN hK
  simp only [bE] at h
  exact wp_skip (hK .normal s a w μ Nm h hn hr hN)
 | region id ops draw =>
  intro T K s hj h a w μ Nm Q hn hr hN hK
  simp only [bE] at h
  split at h
  ·refine wp_region ?_
   have:=tL (c:=c) (Q:=Q) hE ops.toList 0 rfl s h a w μ Nm hr hN (fun s' a' w' μ' Nm' hk hn' hr' hN'=>hK .normal s' a' w' μ' Nm' hk (hn'.trans hn) hr' hN')
   rw [List.range_eq_range']
   simpa using this
  ·refine wp_region_any wW ?_
   exact yT (c:=c) hE h hr.drew hN (fun s' a' w' μ' Nm' hk hn' hr' hN'=>hK .normal s' a' w' μ' Nm' hk (hn'.trans hn) hr' hN')
 | seq x y Gg ihy =>
  intro T K s hj h a w μ Nm Q hn hr hN hK
  simp only [bE,Just] at h hj
  split at hj
  ·rename_i ct f hc
   rw [hc] at h
   simp only at h
   obtain ⟨h1,h2,h3⟩:=hj
   refine wp_seq (Gg T _ s h2 h a w μ Nm _ hn hr hN (fun e s' a' w' μ' Nm' hk hn' hr' hN'=>?_))
   cases e with
   | normal =>
    simp only [pK] at hk
    rw [Option.bind_eq_some_iff] at hk
    obtain ⟨d,hgr,hf⟩:=hk
    obtain ⟨q1,μ2,Nm2,hr2,Dz⟩:=Ad hgr hr'
    rw [h1] at hf
    show y.wp P Q a' w'
    exact ihy T K _ h3 hf a' w' μ2 Nm2 Q (by rw [<- hn',q1];rfl) hr2 Dz hK
   | exit id=>exact hK (.exit id) s' a' w' μ' Nm' hk hn' hr' hN'
   | ret=>exact hK .ret s' a' w' μ' Nm' hk hn' hr' hN'
  ·rename_i hc
   obtain ⟨h2,h3⟩:=hj
   have h':bE E k T x (pK (bE E k T y K) K) s=some r:=by
    split at h
    ·rename_i ct f hc';exact absurd hc' (hc ct f)
    ·exact h
   refine wp_seq (Gg T _ s h2 h' a w μ Nm _ hn hr hN (fun e s' a' w' μ' Nm' hk hn' hr' hN'=>?_))
   cases e with
   | normal=>show y.wp P Q a' w';exact ihy T K s' h3 hk a' w' μ' Nm' Q hn' hr' hN' hK
   | exit id=>exact hK (.exit id) s' a' w' μ' Nm' hk hn' hr' hN'
   | ret=>exact hK .ret s' a' w' μ' Nm' hk hn' hr' hN'
 | cond q x y Gg ihy =>
  intro T K s hj h a w μ Nm Q hn hr hN hK
  simp only [bE,Just] at h hj
  have h:=Ay h
  split at h
  ·rename_i t ht
   have h1:=hr.op q
   rw [ht] at h1
   simp only [aA] at h1
   refine wp_cond_split h1 (fun e=>?_) (fun e=>?_)
   ·subst e
    exact Gg T K s hj.1 h a w μ Nm Q hn hr hN hK
   ·subst e
    exact ihy T K s hj.2 h a w μ Nm Q hn hr hN hK
  ·cases h
 | block id x ih =>
  intro T K s hj h a w μ Nm Q hn hr hN hK
  simp only [bE,Just] at h hj
  refine wp_block (ih T _ s hj h a w μ Nm _ hn hr hN (fun e s' a' w' μ' Nm' hk hn' hr' hN'=>?_))
  cases e with
  | normal=>exact hK .normal s' a' w' μ' Nm' hk hn' hr' hN'
  | exit id' =>
   simp only [uN] at hk
   simp only [Df,Exit.inBlock]
   split at hk
   ·rename_i hid
    rw [if_pos (Nat.eq_of_beq_eq_true hid)]
    exact hK .normal s' a' w' μ' Nm' hk hn' hr' hN'
   ·rename_i hid
    rw [if_neg (Nat.ne_of_beq_eq_false hid)]
    exact hK (.exit id') s' a' w' μ' Nm' hk hn' hr' hN'
  | ret=>exact hK .ret s' a' w' μ' Nm' hk hn' hr' hN'
 | scope x ih =>
  intro T K s hj h a w μ Nm Q hn hr hN hK
  simp only [bE,Just] at h hj
  refine wp_scope_straight (ih T K s hj h a w μ Nm _ hn hr hN (fun e s' a' w' μ' Nm' hk hn' hr' hN'=>?_))
  have:=hK e s' a' w' μ' Nm' hk hn' hr' hN'
  cases e <;> exact this
 | loop x ih =>
  intro T K s hj h a w μ Nm Q hn hr hN hK
  simp only [bE,Just] at h hj
  split at h
  ·rename_i ct f sub hc
   rw [hc] at hj
   simp only at hj
   obtain ⟨h1,h2⟩:=hj
   have key:∀ (j:Nat) (s:St),(ct.gr s).bind (iter ct f j)=some r -> s.n=n -> ∀ (a:Act) (w:World) (μ:Nat -> Value) (Nm:Nat -> Prop),Rel c s a w μ Nm -> Code.rounds P x Q j a w:=by
    intro j
    induction j with
    | zero =>
     intro s h
     rw [Option.bind_eq_some_iff] at h
     obtain ⟨_,_,h⟩:=h
     cases h
    | succ j Sc =>
     intro s h hn a w μ Nm hr
     rw [Option.bind_eq_some_iff] at h
     obtain ⟨d,hgr,h⟩:=h
     obtain ⟨q1,μ2,Nm2,hr2,Dz⟩:=Ad hgr hr
     rw [Ba,h1] at h
     rw [rounds_succ]
     refine ih (sub (iter ct f j)) _ _ (h2 _) h a w μ2 Nm2 _ (by rw [<- hn,q1];rfl) hr2 Dz (fun e s' a' w' μ' Nm' hk hn' hr' hN'=>?_)
     cases e with
     | normal=>exact Sc s' hk hn' a' w' μ' Nm' hr'
     | exit id=>exact hK (.exit id) s' a' w' μ' Nm' hk hn' hr' hN'
     | ret=>exact hK .ret s' a' w' μ' Nm' hk hn' hr' hN'
   exact wp_loop_rounds k (key k s h hn a w μ Nm hr)
  ·cases h
 | exit id =>
  intro T K s hj h a w μ Nm Q hn hr hN hK
  simp only [bE] at h
  exact wp_exit (hK (.exit id) s a w μ Nm h hn hr hN)
 | ret =>
  intro T K s hj h a w μ Nm Q hn hr hN hK
  simp only [bE] at h
  exact wp_ret (hK .ret s a w μ Nm h hn hr hN)
 | _ =>
  intros
  rename_i h _ _ _ _ _ _ _ _ _
  simp only [bE] at h
  cases h
end
end Go.Proofs.YtmmagcjlfcicfaaGreat.Ab
set_option linter.unusedVariables false
set_option linter.unusedSimpArgs false
namespace Go.Proofs.YtmmagcjlfcicfaaGreat.Ab
open Go.RowKit
section
variable {P:Program} {E:Env} {c:Ctx}
variable {m:Nat -> Option Obj} {μ μ':Nat -> Value} {Nm Nm' S S':Nat -> Prop} {w:World}
def vG (μ:Nat -> Value):Option Nat -> Value
 | some n=>μ n
 | none=>.slice none 0 0
def dI (l:List (Option Nat)) (i:Nat):Option Nat:=(l[i]?).join
theorem yV {l l':List (Option Nat)} {i:Nat} (h:i<l.length):dI (l++l') i=dI l i:=by simp [dI,List.getElem?_append_left h]
theorem yX {l l':List (Option Nat)} {i:Nat}:dI (l++l') (l.length+i)=dI l' i:=by
 rw [dI,List.getElem?_append_right (by omega),Nat.add_sub_cancel_left];rfl
theorem yY:∀ t:Ty,t.flat=true -> fJ t=true
 | .unit,_ | .int _,_ | .bool,_ | .str,_=>rfl
 | .sl _ _,h=>by cases h
 | .pair a b,h=>by
  simp only [Ty.flat,Bool.and_eq_true] at h
  simp only [fJ,Bool.and_eq_true]
  exact ⟨yY a h.1,yY b h.2⟩
theorem iX:∀ (t:Ty) (x:t.D) (b:Nat),bN false t x b=(unpack t x,[],b)
 | .unit,_,_=>rfl
 | .int _,_,_=>rfl
 | .bool,_,_=>rfl
 | .str,_,_=>rfl
 | .sl _ _,_,_=>rfl
 | .pair t u,x,b=>by simp [bN,unpack,iX t,iX u]
theorem tO:∀ {l:List (Option Nat)} {i j a b:Nat},(l.filterMap id).Nodup -> dI l i=some a -> dI l j=some b -> i≠j -> a≠b
 | [],i,j,a,b,_,h,_,_=>by simp [dI] at h
 | x::l,i,j,a,b,hn,hi,hj,hij=>by
  have mem:∀ {k d},dI l k=some d -> d∈l.filterMap id:=by
   intro k d h
   simp only [dI,Option.join_eq_some_iff] at h
   exact List.mem_filterMap.2 ⟨some d,List.mem_of_getElem? h,rfl⟩
  have hn':(l.filterMap id).Nodup:=by
   cases x with
   | none=>simpa using hn
   | some y=>simp only [List.filterMap_cons_some (f:=id) (b:=y) rfl] at hn;exact (List.nodup_cons.1 hn).2
  cases i with
  | zero =>
   cases j with
   | zero=>exact absurd rfl hij
   | succ j =>
    have hx:x=some a:=by simpa [dI] using hi
    subst hx
    have hj':dI l j=some b:=by simpa [dI] using hj
    simp only [List.filterMap_cons_some (f:=id) (b:=a) rfl] at hn
    exact fun e=>(List.nodup_cons.1 hn).1 (by rw [e];exact mem hj')
  | succ i =>
   have hi':dI l i=some a:=by simpa [dI] using hi
   cases j with
   | zero =>
    have hx:x=some b:=by simpa [dI] using hj
    subst hx
    simp only [List.filterMap_cons_some (f:=id) (b:=b) rfl] at hn
    exact fun e=>(List.nodup_cons.1 hn).1 (by rw [<- e];exact mem hi')
   | succ j =>
    have hj':dI l j=some b:=by simpa [dI] using hj
    exact tO hn' hi' hj' (by omega)
structure Out (c:Ctx) (μ:Nat -> Value) (w:World) (b:Nat) (Ln:List (Option Nat)) (us:List (Nat×Option Obj)) (cs:List AV) (vs:List Value) (flat:Bool) (Sx:Nat -> Prop):Prop where
 go:∀ (μ':Nat -> Value) (Nm' S':Nat -> Prop),(∀ i,i<Ln.length -> μ' (b+i)=vG μ (dI Ln i)) -> (∀ i,i<Ln.length -> Nm' (b+i)) -> (flat=true \/ ∀ k,Sx k -> S' k) ->
  VRels μ' Nm' S' w cs vs /\ ∀ q∈us,∃ i o,i<Ln.length /\ q=(b+i,some o) /\ o.live=true /\ aF c μ' Nm' S' w (b+i) o
theorem Bb (hm:∀ n o,m n=some o -> aF c μ Nm S w n o):∀ (t:Ty) (cs:List AV) (x:t.D) (rest:List AV) (ns:List Nat) (vs:List Value) (b:Nat),pack m t cs=some (x,rest,ns) -> cK m cs=true -> VRels μ Nm S w cs vs ->
  cK m rest=true /\ (∀ n∈ns,∃ o,m n=some o /\ o.live=true) /\ ∃ (Ln:List (Option Nat)) (v0 v1:List Value),Ln.filterMap id=ns /\ (bN true t x b).2.2=b+Ln.length /\ vs=v0++v1 /\ VRels μ Nm S w rest v1 /\ Out c μ w b Ln (bN true t x b).2.1 (bN true t x b).1 v0 (fJ t) S:=by
 intro t
 have scalar:∀ (t:Ty) (c0:AV) (cs:List AV) (x:t.D) (v:Value) (vs:List Value) (b:Nat),cK m (c0::cs)=true -> VRels μ Nm S w (c0::cs) (v::vs) -> bN true t x b=([c0],[],b) -> (∀ μ' Nm' S',aA μ' Nm' S' w c0 v) ->
   cK m cs=true /\ (∀ n∈([]:List Nat),∃ o,m n=some o /\ o.live=true) /\ ∃ (Ln:List (Option Nat)) (v0 v1:List Value),Ln.filterMap id=[] /\ (bN true t x b).2.2=b+Ln.length /\ v::vs=v0++v1 /\ VRels μ Nm S w cs v1 /\ Out c μ w b Ln (bN true t x b).2.1 (bN true t x b).1 v0 (fJ t) S:=by
  intro t c0 cs x v vs b ho hv hi hall
  simp only [cK,Bool.and_eq_true] at ho
  simp only [VRels] at hv
  refine ⟨ho.2,by simp,[],[v],vs,rfl,by rw [hi];rfl,rfl,hv.2,⟨fun μ' Nm' S' _ _ _=>?_⟩⟩
  rw [hi]
  exact ⟨by simp only [VRels,and_true];exact hall _ _ _,by simp⟩
 induction t with
 | unit =>
  intro cs x rest ns vs b h ho hv
  simp only [pack] at h
  injection h with h;injection h with h1 h2;injection h2 with h2 h3;subst h2;subst h3
  exact ⟨ho,by simp,[],[],vs,rfl,rfl,rfl,hv,⟨fun _ _ _ _ _ _=>⟨by simp only [bN,VRels],by simp [bN]⟩⟩⟩
 | int k =>
  intro cs x rest ns vs b h ho hv
  cases cs with
  | nil=>simp [pack] at h
  | cons c0 cs =>
   cases vs with
   | nil=>simp only [VRels] at hv
   | cons v vs =>
    cases c0 <;> simp only [pack] at h <;> try (cases h;done)
    split at h
    ·rename_i he
     have:=eD he;subst this
     injection h with h;injection h with h1 h2;injection h2 with h2 h3;subst h1;subst h2;subst h3
     refine scalar (.int k) _ _ _ v vs b ho hv rfl (fun _ _ _=>?_)
     simp only [VRels,aA] at hv ⊢;exact hv.1
    ·cases h
 | bool =>
  intro cs x rest ns vs b h ho hv
  cases cs with
  | nil=>simp [pack] at h
  | cons c0 cs =>
   cases vs with
   | nil=>simp only [VRels] at hv
   | cons v vs =>
    cases c0 <;> simp only [pack] at h <;> try (cases h;done)
    injection h with h;injection h with h1 h2;injection h2 with h2 h3;subst h1;subst h2;subst h3
    refine scalar .bool _ _ _ v vs b ho hv rfl (fun _ _ _=>?_)
    simp only [VRels,aA] at hv ⊢;exact hv.1
 | str =>
  intro cs x rest ns vs b h ho hv
  cases cs with
  | nil=>simp [pack] at h
  | cons c0 cs =>
   cases vs with
   | nil=>simp only [VRels] at hv
   | cons v vs =>
    cases c0 <;> simp only [pack] at h <;> try (cases h;done)
    injection h with h;injection h with h1 h2;injection h2 with h2 h3;subst h1;subst h2;subst h3
    refine scalar .str _ _ _ v vs b ho hv rfl (fun _ _ _=>?_)
    simp only [VRels,aA] at hv ⊢;exact hv.1
 | sl e t _ =>
  intro cs x rest ns vs b h ho hv
  cases cs with
  | nil=>simp [pack] at h
  | cons c0 cs =>
   cases vs with
   | nil=>simp only [VRels] at hv
   | cons v vs =>
    simp only [cK,Bool.and_eq_true] at ho
    simp only [VRels] at hv
    simp only [pack] at h
    split at h
    ·rename_i ys ms hr
     injection h with h;injection h with q1 q2;injection q2 with q2 q3;subst q1;subst q2;subst q3
     cases c0 <;> first | (simp [uO] at ho;done) | (simp [rowOf] at hr;done) | skip
     ·simp only [rowOf] at hr
      injection hr with hr;injection hr with h1 h2;subst h1;subst h2
      have hv1:=hv.1
      simp only [aA] at hv1
      refine ⟨ho.2,by simp,[none],[v],vs,rfl,rfl,rfl,hv.2,⟨fun μ' Nm' S' h1 h2 h3=>?_⟩⟩
      have hb:=h1 0 (by simp)
      have hn:=h2 0 (by simp)
      simp only [dI,vG,Nat.add_zero,List.getElem?_cons_zero,Option.join_some] at hb hn
      refine ⟨?_,fun q hq=>?_⟩
      ·simp only [bN,VRels,aA,and_true]
       exact ⟨hn,by rw [hb,hv1],by rw [hv1];rfl⟩
      ·simp only [bN,List.mem_singleton] at hq
       refine ⟨0,_,by simp,hq,rfl,?_⟩
       simp only [aF,Nat.add_zero]
       rw [hb]
       exact ⟨Kd.zF _ _ _ _ _,fun k hk=>by cases hk⟩
     ·rename_i n
      obtain ⟨hms,f,hmn⟩:=eX hr
      subst hms
      have hf:f=true:=by
       have:=ho.1
       simp only [uO,hmn] at this
       cases f <;> first | rfl | cases this
      subst hf
      have hv1:=hv.1
      simp only [aA] at hv1
      have mQ:=hm n _ hmn
      simp only [aF] at mQ
      refine ⟨ho.2,fun n' hn'=>by rw [List.mem_singleton.1 hn'];exact ⟨_,hmn,rfl⟩,[some n],[v],vs,rfl,rfl,rfl,hv.2,⟨fun μ' Nm' S' h1 h2 h3=>?_⟩⟩
      have hb:=h1 0 (by simp)
      have hn:=h2 0 (by simp)
      simp only [dI,vG,Nat.add_zero,List.getElem?_cons_zero,Option.join_some] at hb hn
      refine ⟨?_,fun q hq=>?_⟩
      ·simp only [bN,VRels,aA,and_true]
       exact ⟨hn,by rw [hb,hv1.2.1],hv1.2.2⟩
      ·simp only [bN,List.mem_singleton] at hq
       refine ⟨0,_,by simp,hq,rfl,?_⟩
       simp only [aF,Nat.add_zero]
       rw [hb]
       exact kE h3 mQ
    ·cases h
 | pair t1 t2 ih1 ih2 =>
  intro cs x rest ns vs b h ho hv
  simp only [pack] at h
  split at h
  ·rename_i x1 r1 jJ h1
   split at h
   ·rename_i x2 r2 pR h2
    injection h with h;injection h with e1 e2;injection e2 with e2 e3;subst e1;subst e2;subst e3
    obtain ⟨a1,a2,L1,v0,v1,a3,a4,rfl,a5,a6⟩:=ih1 _ _ _ _ _ b h1 ho hv
    obtain ⟨b1,b2,L2,u0,u1,b3,b4,rfl,b5,b6⟩:=ih2 _ _ _ _ _ (b+L1.length) h2 a1 a5
    refine ⟨b1,fun n hn=>?_,L1++L2,v0++u0,u1,by rw [List.filterMap_append,a3,b3],?_,by simp,b5,⟨fun μ' Nm' S' k1 k2 k3=>?_⟩⟩
    ·rcases List.mem_append.1 hn with hn | hn
     ·exact a2 n hn
     ·exact b2 n hn
    ·simp only [bN];rw [a4,b4];simp;omega
    ·have Sd:fJ t1=true \/ ∀ k,S k -> S' k:=k3.imp (fun h=>by simp only [fJ,Bool.and_eq_true] at h;exact h.1) id
     have Sg:fJ t2=true \/ ∀ k,S k -> S' k:=k3.imp (fun h=>by simp only [fJ,Bool.and_eq_true] at h;exact h.2) id
     obtain ⟨g1,g2⟩:=a6.go μ' Nm' S' (fun i hi=>by rw [k1 i (by simp;omega),yV hi]) (fun i hi=>k2 i (by simp;omega)) Sd
     obtain ⟨g3,g4⟩:=b6.go μ' Nm' S' (fun i hi=>by rw [show b+L1.length+i=b+(L1.length+i) by omega,k1 (L1.length+i) (by simp;omega),yX]) (fun i hi=>by rw [show b+L1.length+i=b+(L1.length+i) by omega];exact k2 _ (by simp;omega)) Sg
     simp only [bN]
     rw [a4]
     refine ⟨aP g1 g3,fun q hq=>?_⟩
     rcases List.mem_append.1 hq with hq | hq
     ·obtain ⟨i,o,h1,h2,h3,h4⟩:=g2 q hq
      exact ⟨i,o,by simp;omega,h2,h3,h4⟩
     ·obtain ⟨i,o,h1,h2,h3,h4⟩:=g4 q hq
      refine ⟨L1.length+i,o,by simp;omega,by rw [h2,show b+L1.length+i=b+(L1.length+i) by omega],h3,?_⟩
      rw [show b+(L1.length+i)=b+L1.length+i by omega];exact h4
   ·cases h
  ·cases h
def Fp (tmps:Array Value):ResultVar -> Sem Value
 | .tmp t=>pure (tmps.getD t undef)
 | .cell a t=>do loadVar t (<- asAddr (tmps.getD a undef))
theorem wX (hE:aH P E) {s:St} {a:Act} {w:World} {μ:Nat -> Value} {Nm:Nat -> Prop} (hr:Rel c s a w μ Nm) {x:ResultVar} {y:AV} (h:Bu E s x=some y):∃ v,(Fp a.tmps x).run P w=.ok v w /\ aA μ Nm (aD c μ s.mem) w y v:=by
 cases x with
 | tmp t =>
  simp only [Bu] at h
  injection h with h;subst h
  exact ⟨_,rfl,hr.slots t⟩
 | cell t T =>
  simp only [Bu] at h
  split at h
  ·rename_i n off hs
   split at h
   ·rename_i U cs hm
    have h1:=hr.slots t
    rw [hs] at h1
    simp only [aA] at h1
    obtain ⟨_,g,e1,e2⟩:=h1
    have ho:=hr.objs n _ hm
    simp only [aF] at ho
    obtain ⟨g',vs,e3,e4,e5,e6⟩:=ho
    rw [e1] at e3
    injection e3 with e3;injection e3 with e3;injection e3 with e3
    subst e3
    obtain ⟨v,k1,k2⟩:=kC (P:=P) hE (ad:=⟨g,0,none⟩) h e6 (mX e5)
    refine ⟨v,?_,k2⟩
    show ((do loadVar T (<- asAddr (a.tmps.getD t undef))):Sem Value).run P w=_
    rw [e2]
    have e7:(⟨g,off,none⟩:Addr)=(⟨g,0,none⟩:Addr).add off:=by simp [Addr.add]
    rw [e7]
    simpa [Instr.loadAt,Instr.sureAddr,Sem.run_bind,asAddr,Result.andThen] using k1
   ·cases h
  ·cases h
theorem Fq (hm:∀ n o,m n=some o -> aF c μ Nm S w n o) {v:VT} {y:AV} {d:v.t.D} {ns:List Nat} {x:Value} (h:bT m v y=some (d,ns)) (ho:v.own=true -> cK m (aM y)=true) (hv:aA μ Nm S w y x) (b:Nat) :
  (v.own=true -> ∀ n∈ns,∃ o,m n=some o /\ o.live=true) /\ ∃ Ln,(v.own=true -> Ln.filterMap id=ns) /\ (v.own=false -> Ln=[]) /\ (bN v.own v.t d b).2.2=b+Ln.length /\ Out c μ w b Ln (bN v.own v.t d b).2.1 [bQ v.agg (bN v.own v.t d b).1] [x] (v.t.flat||(v.own&&fJ v.t)) (aX μ m S (match v.own with | true=>[] | false=>ns)):=by
 have core:∀ (cs:List AV) (vs:List Value),pack m v.t cs=some (d,[],ns) -> (v.own=true -> cK m cs=true) -> VRels μ Nm S w cs vs -> (∀ μ' Nm' S' cs',VRels μ' Nm' S' w cs' vs -> aA μ' Nm' S' w (bQ v.agg cs') x) ->
   (v.own=true -> ∀ n∈ns,∃ o,m n=some o /\ o.live=true) /\ ∃ Ln,(v.own=true -> Ln.filterMap id=ns) /\ (v.own=false -> Ln=[]) /\ (bN v.own v.t d b).2.2=b+Ln.length /\ Out c μ w b Ln (bN v.own v.t d b).2.1 [bQ v.agg (bN v.own v.t d b).1] [x] (v.t.flat||(v.own&&fJ v.t)) (aX μ m S (match v.own with | true=>[] | false=>ns)):=by
  intro cs vs hp hoc hvs hwrap
  cases hown:v.own with
  | true =>
   obtain ⟨_,a2,Ln,v0,v1,a3,a4,a5,a6,a7⟩:=Bb hm v.t cs d [] ns vs b hp (hoc hown) hvs
   have:=bG a6;subst this
   rw [List.append_nil] at a5;subst a5
   refine ⟨fun _=>a2,Ln,fun _=>a3,(fun h=>by cases h),a4,⟨fun μ' Nm' S' k1 k2 k3=>?_⟩⟩
   obtain ⟨g1,g2⟩:=a7.go μ' Nm' S' k1 k2 (k3.imp (fun h=>by
    simp only [Bool.true_and,Bool.or_eq_true] at h
    exact h.elim (yY _) id) (fun h k hk=>h k (.inl hk)))
   exact ⟨by simp only [VRels,and_true];exact hwrap _ _ _ _ g1,g2⟩
  | false =>
   obtain ⟨v0,v1,a5,hf,a6⟩:=cO hm _ _ _ _ _ _ hp hvs
   have:=bG a6;subst this
   rw [List.append_nil] at a5;subst a5
   refine ⟨(fun h=>by cases h),[],(fun h=>by cases h),fun _=>rfl,by rw [iX];rfl,⟨fun μ' Nm' S' k1 k2 k3=>?_⟩⟩
   rw [iX]
   refine ⟨?_,by simp⟩
   simp only [VRels,and_true]
   refine hwrap _ _ _ _ (bA _ _ _ ?_)
   rcases k3 with k3 | k3
   ·simp only [Bool.false_and,Bool.or_false] at k3
    exact gL v.t k3 _ _ hf
   ·exact Kd.aV hf k3
 unfold bT at h
 split at h
 ·rename_i cs hA
  split at h
  ·rename_i d' ns' hp
   injection h with h;injection h with h1 h2;subst h1;subst h2
   simp only [aA] at hv
   obtain ⟨vs,rfl,hvs⟩:=hv
   exact core cs vs.toList hp ho hvs (fun μ' Nm' S' cs' h=>by rw [hA];simp only [bQ,aA];exact ⟨vs,rfl,h⟩)
  ·cases h
 ·cases h
 ·rename_i y' _ _ hA
  split at h
  ·rename_i d' ns' hp
   injection h with h;injection h with h1 h2;subst h1;subst h2
   refine core [y'] [x] hp (fun hown=>?_) (by simp only [VRels,and_true];exact hv) (fun μ' Nm' S' cs' h=>?_)
   ·have h1:=ho hown
    cases y' <;> first | exact h1 | rfl
   ·rw [hA]
    simp only [bQ]
    have:=dX h 0
    simpa using this
  ·cases h
theorem filter_some:∀ l:List Nat,(l.map some).filterMap id=l
 | []=>rfl
 | n::l=>by simp
theorem wY {l:List Nat} {i:Nat} (h:i<l.length):dI (l.map some) i=some (aL l i):=by
 simp [dI,h,qD h]
theorem Im (hm:∀ n o,m n=some o -> aF c μ Nm S w n o) {p:PV} {y:AV} {d:p.D} {ns:List Nat} {x:Value} (h:grab false m 0 p y=some (d,ns)) (hv:aA μ Nm S w y x) (b:Nat) :
  (∀ n∈ns,∃ o,m n=some o /\ o.live=true) /\ (lay p d b).2.2=b+(ns.map some).length /\ Out c μ w b (ns.map some) (lay p d b).2.1 [(lay p d b).1] [x] (iH p) S:=by
 have h0:=mE (μ':=fun i=>μ (aL ns (i - b))) (Nm':=fun _=>True) (S':=S) hm (fun j hj=>absurd hj (by omega)) p y x d ns b (.inr fun _ h=>h) h hv (fun i hi=>by simp) (fun _ _=>trivial)
 refine ⟨h0.2.2.2,by rw [h0.2.1];simp,⟨fun μ' Nm' S' k1 k2 k3=>?_⟩⟩
 obtain ⟨g1,g2,g3,g4⟩:=mE (μ':=μ') (Nm':=Nm') (S':=S') hm (fun j hj=>absurd hj (by omega)) p y x d ns b k3 h hv (fun i hi=>by rw [k1 i (by simpa using hi),wY hi];rfl) (fun i hi=>k2 i (by simpa using hi))
 refine ⟨by simp only [VRels,and_true];exact g1,fun q hq=>?_⟩
 obtain ⟨o,i,a1,a2,a3,a4⟩:=g3 q hq
 exact ⟨i,o,by simpa using a1,a2,a3,a4⟩
theorem Out.append {b:Nat} {L1 L2:List (Option Nat)} {Qm Ei:List (Nat×Option Obj)} {cs1 cs2:List AV} {vs1 vs2:List Value} {f1 f2:Bool} {S1 S2 S3:Nat -> Prop} (h1:Out c μ w b L1 Qm cs1 vs1 f1 S1) (h2:Out c μ w (b+L1.length) L2 Ei cs2 vs2 f2 S2) (hS1:∀ k,S1 k -> S3 k) (hS2:∀ k,S2 k -> S3 k):Out c μ w b (L1++L2) (Qm++Ei) (cs1++cs2) (vs1++vs2) (f1&&f2) S3 where
 go:=fun μ' Nm' S' k1 k2 k3=>by
  have kk:f1=true /\ f2=true \/ ∀ k,S3 k -> S' k:=k3.imp (fun h=>by simpa using h) id
  obtain ⟨g1,g2⟩:=h1.go μ' Nm' S' (fun i hi=>by rw [k1 i (by simp;omega),yV hi]) (fun i hi=>k2 i (by simp;omega)) (kk.imp (fun h=>h.1) (fun h k hk=>h k (hS1 k hk)))
  obtain ⟨g3,g4⟩:=h2.go μ' Nm' S' (fun i hi=>by rw [show b+L1.length+i=b+(L1.length+i) by omega,k1 (L1.length+i) (by simp;omega),yX]) (fun i hi=>by rw [show b+L1.length+i=b+(L1.length+i) by omega];exact k2 _ (by simp;omega)) (kk.imp (fun h=>h.2) (fun h k hk=>h k (hS2 k hk)))
  refine ⟨aP g1 g3,fun q hq=>?_⟩
  rcases List.mem_append.1 hq with hq | hq
  ·obtain ⟨i,o,h1,h2,h3,h4⟩:=g2 q hq
   exact ⟨i,o,by simp;omega,h2,h3,h4⟩
  ·obtain ⟨i,o,h1,h2,h3,h4⟩:=g4 q hq
   refine ⟨L1.length+i,o,by simp;omega,by rw [h2,show b+L1.length+i=b+(L1.length+i) by omega],h3,?_⟩
   rw [show b+(L1.length+i)=b+L1.length+i by omega];exact h4
theorem oQ (hE:aH P E) {s:St} {a:Act} {w:World} {μ:Nat -> Value} {Nm:Nat -> Prop} (hr:Rel c s a w μ Nm):∀ (rs:List RT) (xs:List ResultVar) (d:RD rs) (os qs:List Nat) (b:Nat),pO E s rs xs=some (d,os,qs) ->
  (∀ n∈os,∃ o,s.mem n=some o /\ o.live=true) /\ ∃ (vs:List Value) (Ln:List (Option Nat)),((xs.mapM (Fp a.tmps)):Sem (List Value)).run P w=.ok vs w /\ Ln.filterMap id=os /\ (bR rs d b).2.2=b+Ln.length /\ Out c μ w b Ln (bR rs d b).2.1 (bR rs d b).1 vs (aY rs) (aX μ s.mem (aD c μ s.mem) qs)
 | [],xs,d,os,qs,b,h=>by
  cases xs with
  | nil =>
   simp only [pO] at h
   injection h with h;injection h with h1 h2;injection h2 with h2 h3;subst h2;subst h3
   exact ⟨by simp,[],[],rfl,rfl,rfl,⟨fun _ _ _ _ _ _=>⟨by simp only [bR,VRels],by simp [bR]⟩⟩⟩
  | cons _ _=>simp [pO] at h
 | .pv p::rs,xs,d,os,qs,b,h=>by
  cases xs with
  | nil=>simp [pO] at h
  | cons x xs =>
   simp only [pO] at h
   split at h
   ·rename_i y hy
    split at h
    ·rename_i d1 ns hp
     split at h
     ·rename_i ds os' Km hrest
      injection h with h;injection h with h1 h2;injection h2 with h2 h3;subst h1;subst h2;subst h3
      obtain ⟨u,hu,hvu⟩:=wX hE hr hy
      obtain ⟨p1,p4,p5⟩:=Im hr.objs hp hvu b
      obtain ⟨r1,vs,L2,r2,r3,r4,r5⟩:=oQ hE hr rs xs ds os' Km (b+(ns.map some).length) hrest
      refine ⟨fun n hn=>?_,u::vs,ns.map some++L2,?_,?_,?_,?_⟩
      ·rcases List.mem_append.1 hn with hn | hn
       ·exact p1 n hn
       ·exact r1 n hn
      ·simp only [List.mapM_cons,Sem.run_bind,hu,Result.andThen_ok,r2]
       rfl
      ·rw [List.filterMap_append,filter_some,r3]
      ·simp only [bR];rw [p4,r4];simp;omega
      ·simp only [bR]
       rw [p4]
       exact p5.append r5 (fun k hk=>.inl hk) (fun k hk=>hk)
     ·cases h
    ·cases h
   ·cases h
 | .val v::rs,xs,d,os,qs,b,h=>by
  cases xs with
  | nil=>simp [pO] at h
  | cons x xs =>
   simp only [pO] at h
   split at h
   ·rename_i y hy
    split at h
    ·rename_i d1 ns hp
     split at h
     ·rename_i ds os' Km hrest
      obtain ⟨u,hu,hvu⟩:=wX hE hr hy
      have comb:∀ (h1:v.own=true -> cK s.mem (aM y)=true),(d1,ds)=d -> (match v.own with | true=>ns++os' | false=>os')=os -> (match v.own with | true=>Km | false=>ns++Km)=qs ->
        (∀ n∈os,∃ o,s.mem n=some o /\ o.live=true) /\ ∃ (vs:List Value) (Ln:List (Option Nat)),(((x::xs).mapM (Fp a.tmps)):Sem (List Value)).run P w=.ok vs w /\ Ln.filterMap id=os /\ (bR (.val v::rs) d b).2.2=b+Ln.length /\ Out c μ w b Ln (bR (.val v::rs) d b).2.1 (bR (.val v::rs) d b).1 vs (aY (.val v::rs)) (aX μ s.mem (aD c μ s.mem) qs):=by
       intro h1 hd hos Si
       subst hd;subst hos;subst Si
       obtain ⟨p1,L1,p2,p3,p4,p5⟩:=Fq hr.objs hp h1 hvu b
       obtain ⟨r1,vs,L2,r2,r3,r4,r5⟩:=oQ hE hr rs xs ds os' Km (b+L1.length) hrest
       refine ⟨fun n hn=>?_,u::vs,L1++L2,?_,?_,?_,?_⟩
       ·cases hown:v.own with
        | true =>
         rw [hown] at hn
         rcases List.mem_append.1 hn with hn | hn
         ·exact p1 hown n hn
         ·exact r1 n hn
        | false=>rw [hown] at hn;exact r1 n hn
       ·simp only [List.mapM_cons,Sem.run_bind,hu,Result.andThen_ok,r2]
        rfl
       ·rw [List.filterMap_append,r3]
        cases hown:v.own with
        | true=>rw [p2 hown]
        | false=>rw [p3 hown];rfl
       ·simp only [bR];rw [p4,r4];simp;omega
       ·simp only [bR]
        rw [p4]
        refine p5.append r5 (fun k hk=>?_) (fun k hk=>?_)
        ·cases hown:v.own with
         | true=>rw [hown] at hk;exact .inl (gX hk)
         | false=>rw [hown] at hk;exact eU hk
        ·cases hown:v.own with
         | true=>exact hk
         | false=>exact fE hk
      split at h
      ·rename_i hown
       split at h
       ·rename_i hoc
        injection h with h;injection h with h1 h2;injection h2 with h2 h3
        exact comb (fun _=>hoc) h1 (by rw [hown];exact h2) (by rw [hown];exact h3)
       ·cases h
      ·rename_i hown
       injection h with h;injection h with h1 h2;injection h2 with h2 h3
       exact comb (fun h=>by rw [hown] at h;cases h) h1 (by rw [hown];exact h2) (by rw [hown];exact h3)
     ·cases h
    ·cases h
   ·cases h
theorem gH (hm:∀ n o,m n=some o -> aF c μ Nm S w n o) {pn:Nat -> Nat} (hS:True):∀ (ps:List PT) (o:MD ps) (pj is:List Nat) (j b:Nat),kL m ps j=some (o,pj,is) ->
  (∀ n∈pj++is,∃ ob,m n=some ob /\ ob.live=true) /\ (∀ n∈pj,j <= n /\ n<j+aG ps) /\ (bO ps o pn j b).2=b+(is.map some).length /\
   ∀ (μ':Nat -> Value) (Nm' S':Nat -> Prop),(∀ i,i<is.length -> μ' (b+i)=μ (aL is i) /\ Nm' (b+i)) -> (∀ i,i∈pj -> μ' (pn i)=μ i /\ Nm' (pn i)) -> (aO ps=true \/ ∀ k,S k -> S' k) ->
    ∀ q∈(bO ps o pn j b).1,q.2=none \/ ∃ ob,ob.live=true /\ ((∃ i,i<is.length /\ q=(b+i,some ob) /\ aF c μ' Nm' S' w (b+i) ob) \/ (∃ i,i∈pj /\ q=(pn i,some ob) /\ aF c μ' Nm' S' w (pn i) ob))
 | [],o,pj,is,j,b,h=>by
  simp only [kL] at h
  injection h with h;injection h with h1 h2;injection h2 with h2 h3;subst h2;subst h3
  exact ⟨by simp,by simp,rfl,by simp [bO]⟩
 | .val v::ps,o,pj,is,j,b,h=>by simp only [kL] at h;simp only [bO,aG,aO];exact gH hm hS ps o pj is j b h
 | .pv v::ps,o,pj,is,j,b,h=>by simp only [kL] at h;simp only [bO,aG,aO];exact gH hm hS ps o pj is j b h
 | .gv v::ps,o,pj,is,j,b,h=>by simp only [kL] at h;simp only [bO,aG,aO];exact gH hm hS ps o pj is j b h
 | .give e t::ps,o,pj,is,j,b,h=>by
  simp only [kL] at h
  obtain ⟨g1,g2,g3,g4⟩:=gH hm hS ps o pj is (j+1) b h
  simp only [bO,aG,aO]
  refine ⟨g1,fun n hn=>by have:=g2 n hn;omega,g3,fun μ' Nm' S' k1 k2 k3 q hq=>?_⟩
  rcases List.mem_cons.1 hq with rfl | hq
  ·exact .inl rfl
  ·exact g4 μ' Nm' S' k1 k2 k3 q hq
 | .fT e t::ps,o,pj,is,j,b,h=>by
  simp only [kL] at h
  split at h
  ·rename_i d1 _ ho
   split at h
   ·rename_i ds pj' is' hr
    injection h with h;injection h with h1 h2;injection h2 with h2 h3;subst h1;subst h2;subst h3
    obtain ⟨g1,g2,g3,g4⟩:=gH (pn:=pn) hm hS ps ds pj' is' (j+1) b hr
    have Db:=iE ho
    have mQ:=hm j _ Db
    simp only [aF] at mQ
    simp only [bO,aG,aO]
    refine ⟨fun n hn=>?_,fun n hn=>?_,g3,fun μ' Nm' S' k1 k2 k3 q hq=>?_⟩
    ·simp only [List.cons_append,List.mem_cons] at hn
     rcases hn with rfl | hn
     ·exact ⟨_,Db,rfl⟩
     ·exact g1 n hn
    ·rcases List.mem_cons.1 hn with rfl | hn
     ·omega
     ·have:=g2 n hn;omega
    ·have kk:t.flat=true /\ aO ps=true \/ ∀ k,S k -> S' k:=k3.imp (fun h=>by simpa using h) id
     rcases List.mem_cons.1 hq with rfl | hq
     ·refine .inr ⟨_,rfl,.inr ⟨j,List.mem_cons_self,rfl,?_⟩⟩
      simp only [aF]
      rw [(k2 j List.mem_cons_self).1]
      exact kE (kk.imp (fun h=>h.1) id) mQ
     ·rcases g4 μ' Nm' S' k1 (fun i hi=>k2 i (List.mem_cons_of_mem _ hi)) (kk.imp (fun h=>h.2) id) q hq with h | ⟨ob,h1,h2⟩
      ·exact .inl h
      ·exact .inr ⟨ob,h1,h2.imp id (fun ⟨i,h3,h4⟩=>⟨i,List.mem_cons_of_mem _ h3,h4⟩)⟩
   ·cases h
  ·cases h
 | .fK T cs::ps,o,pj,is,j,b,h=>by
  simp only [kL] at h
  split at h
  ·rename_i U xs Db
   split at h
   ·rename_i hT
    have:=Nat.eq_of_beq_eq_true hT;subst this
    split at h
    ·rename_i d1 is1 hg
     split at h
     ·rename_i ds pj' is' hr
      injection h with h;injection h with h1 h2;injection h2 with h2 h3;subst h1;subst h2;subst h3
      have mQ:=hm j _ Db
      simp only [aF] at mQ
      obtain ⟨g,vs,e1,e2,e3,e4⟩:=mQ
      have h0:=dG (z:=true) (np:=0) (μ':=fun i=>μ (aL is1 (i - b))) (Nm':=fun _=>True) (S':=S) hm (fun j hj=>absurd hj (by omega)) cs xs vs.toList d1 is1 b (.inr fun _ h=>h) hg e4 (fun i hi=>by simp) (fun _ _=>trivial)
      obtain ⟨g1,g2,g3,g4⟩:=gH (pn:=pn) hm hS ps ds pj' is' (j+1) (b+is1.length) hr
      simp only [bO,aG,aO]
      rw [h0.2.1]
      refine ⟨fun n hn=>?_,fun n hn=>?_,by rw [g3];simp;omega,fun μ' Nm' S' k1 k2 k3 q hq=>?_⟩
      ·simp only [List.cons_append,List.mem_cons,List.mem_append] at hn
       rcases hn with rfl | hn | hn | hn
       ·exact ⟨_,Db,rfl⟩
       ·exact g1 n (List.mem_append_left _ hn)
       ·exact h0.2.2.2 n hn
       ·exact g1 n (List.mem_append_right _ hn)
      ·rcases List.mem_cons.1 hn with rfl | hn
       ·omega
       ·have:=g2 n hn;omega
      ·have kk:eZ cs=true /\ aO ps=true \/ ∀ k,S k -> S' k:=k3.imp (fun h=>by simpa using h) id
       obtain ⟨m1,m2,m3,m4⟩:=dG (z:=true) (np:=0) (μ':=μ') (Nm':=Nm') (S':=S') hm (fun j hj=>absurd hj (by omega)) cs xs vs.toList d1 is1 b (kk.imp (fun h=>h.1) id) hg e4 (fun i hi=>by rw [(k1 i (by simp;omega)).1,jS hi]) (fun i hi=>(k1 i (by simp;omega)).2)
       rcases List.mem_cons.1 hq with rfl | hq
       ·refine .inr ⟨_,rfl,.inr ⟨j,List.mem_cons_self,rfl,?_⟩⟩
        simp only [aF]
        exact ⟨g,vs,by rw [(k2 j List.mem_cons_self).1];exact e1,e2,e3,m1⟩
       ·rcases List.mem_append.1 hq with hq | hq
        ·obtain ⟨ob,i,a1,a2,a3,a4⟩:=m3 q hq
         exact .inr ⟨ob,a3,.inl ⟨i,by simp;omega,a2,a4⟩⟩
        ·rcases g4 μ' Nm' S' (fun i hi=>by
          have:=k1 (is1.length+i) (by simp;omega)
          rw [show b+is1.length+i=b+(is1.length+i) by omega];rw [jT] at this;exact this) (fun i hi=>k2 i (List.mem_cons_of_mem _ hi)) (kk.imp (fun h=>h.2) id) q hq with h | ⟨ob,h1,h2⟩
         ·exact .inl h
         ·refine .inr ⟨ob,h1,?_⟩
          rcases h2 with ⟨i,h3,h4,h5⟩ | ⟨i,h3,h4⟩
          ·refine .inl ⟨is1.length+i,by simp;omega,by rw [h4,show b+is1.length+i=b+(is1.length+i) by omega],?_⟩
           rw [show b+(is1.length+i)=b+is1.length+i by omega];exact h5
          ·exact .inr ⟨i,List.mem_cons_of_mem _ h3,h4⟩
     ·cases h
    ·cases h
   ·cases h
  ·cases h
theorem Fu {cs:List AV} {vs:List Value} (h:VRels μ Nm S w cs vs):aA μ Nm S w (rC cs) (if h:vs.toArray.size=1 then vs.toArray[0] else .tuple vs.toArray):=by
 match cs,vs,h with
 | [],[],h=>simp only [rC,aA];exact ⟨#[],by simp,by simp [VRels]⟩
 | [c],[v],h=>simp only [VRels,and_true] at h;simpa [rC] using h
 | c::c'::cs,v::v'::vs,h=>simp only [rC,aA];exact ⟨(v::v'::vs).toArray,by simp,by simpa using h⟩
 | [],_::_,h=>simp only [VRels] at h
 | _::_,[],h=>simp only [VRels] at h
 | [_],_::_::_,h=>simp only [VRels] at h;exact h.2.elim
 | _::_::_,[_],h=>simp only [VRels] at h;exact h.2.elim
theorem jV (T:Nat -> Value):∀ (vs:List AV) (ys:List Value) (i:Nat),VRels μ Nm S w vs ys -> (∀ j,j<ys.length -> T (i+j)=ys.getD j undef) -> ∀ x,aA μ Nm S w (slotsOf i vs x) (T x)
 | [],ys,i,h,hT,x=>by simp only [slotsOf,aA]
 | _::_,[],_,h,_,_=>by simp only [VRels] at h
 | v::vs,y::ys,i,h,hT,x=>by
  simp only [VRels] at h
  simp only [slotsOf]
  split
  ·rename_i e
   have:=Nat.eq_of_beq_eq_true e;subst this
   have:=hT 0 (by simp)
   rw [Nat.add_zero] at this
   rw [this]
   exact h.1
  ·exact jV T vs ys (i+1) h.2 (fun j hj=>by
    rw [show i+1+j=i+(j+1) by omega,hT (j+1) (by simp;omega)];simp) x
theorem iY:∀ (ps:List PT) (d:AD ps) (j b:Nat),(inP ps d j b).1.length=ps.length
 | [],_,_,_=>rfl
 | .val _::ps,d,j,b=>by simp only [inP,List.length_cons];rw [iY ps]
 | .pv _::ps,d,j,b=>by simp only [inP,List.length_cons];rw [iY ps]
 | .gv _::ps,d,j,b=>by simp only [inP,List.length_cons];rw [iY ps]
 | .fK _ _::ps,d,j,b=>by simp only [inP,List.length_cons];rw [iY ps]
 | .fT _ _::ps,d,j,b=>by simp only [inP,List.length_cons];rw [iY ps]
 | .give _ _::ps,d,j,b=>by simp only [inP,List.length_cons];rw [iY ps]
theorem qO (hE:aH P E) (wW:P.follows .mixedOrders=true) {fn:Func} {C:Code} {ps:List PT} {rs:List RT} {T:rW (RD rs×MD ps)} {s0:St} {r:RD rs×MD ps} {k:Nat} (hj:Just E k T C (finish E ps rs fn.results.toList)) (h:bE E k T C (finish E ps rs fn.results.toList) s0=some r) {c:Ctx} (hnp:c.np=aG ps) {a:Act} {w:World} {μ:Nat -> Value} {Nm:Nat -> Prop} (hn:s0.n=fn.ntmps) (hr:Rel c s0 a w μ Nm) (hbound:∀ n,Nm n -> n<s0.gU) :
  C.wp P (bodyPost P fn fun e w'=>∃ v,e=.returned v /\ eT c.X c.base c.w0 w' /\ xX c ps rs w' r v) a w:=by
 refine Di (c:=c) (n:=fn.ntmps) hE wW C T _ _ hj h a w μ Nm _ hn hr hbound (fun e s1 a' w' μ' Nm' hfin hn1 hr1 hN1=>?_)
 obtain ⟨s',hs'⟩:∃ s',s'=s1.Gl ps:=⟨_,rfl⟩
 have hr':Rel c s' a' w' μ' Nm':=by rw [hs'];exact (Rel.nC (c:=c) (m:=s1.mem) (nO s1.mem ps 0) (jP.refl _) hr1).1
 have hn':s'.n=fn.ntmps:=by rw [hs'];exact hn1
 have hN':∀ i,Nm' i -> i<s'.gU:=by rw [hs'];exact hN1
 have main:(∃ d os qs o pj is,pO E s' rs fn.results.toList=some (d,os,qs) /\ kL s'.mem ps 0=some (o,pj,is) /\ nodupB (pj++(os++is))=true /\ kT (pj++(os++is)) qs=true /\ (d,o)=r) -> a'.defers=[] /\ ∃ v,(results fn a'.tmps).run P w'=.ok v w' /\ ∃ v',Ending.returned v=.returned v' /\ eT c.X c.base c.w0 w' /\ xX c ps rs w' r v':=by
  rintro ⟨d,os,qs,o,pj,is,ho,hm,hnd,yB,rfl⟩
  have hnd:=iP hnd
  have hdj:=iB yB
  refine ⟨hr'.defers,?_⟩
  obtain ⟨_,vs,_,hrun,_⟩:=oQ hE hr' rs fn.results.toList d os qs 0 ho
  have hres:(results fn a'.tmps).run P w'=.ok (if h:vs.toArray.size=1 then vs.toArray[0] else .tuple vs.toArray) w':=by
   have e1:results fn a'.tmps=(do let vs <- fn.results.mapM (Fp a'.tmps);pure (if h:vs.size=1 then vs[0] else .tuple vs)):=by
    unfold results
    congr 1
   rw [e1,Array.mapM_eq_mapM_toList]
   simp only [Sem.run_bind,map_eq_pure_bind,hrun,Result.andThen_ok,Sem.run_pure]
  refine ⟨_,hres,_,rfl,hr'.below,fun b pn Ez zX=>?_⟩
  obtain ⟨hlive,vs',Ln,hrun',hLn,hb2,hout⟩:=oQ hE hr' rs fn.results.toList d os qs b ho
  rw [hrun] at hrun'
  injection hrun' with hvv _
  subst hvv
  obtain ⟨Dj,Nl,hb3,zT⟩:=gH (pn:=pn) hr'.objs trivial ps o pj is 0 (b+Ln.length) hm
  have hB:kX ps rs (d,o) pn b=b+(Ln++is.map some).length:=by
   unfold kX;rw [hb2,hb3];simp;omega
  have hU:bW ps rs (d,o) pn b=(bR rs d b).2.1++(bO ps o pn 0 (b+Ln.length)).1:=by
   unfold bW;rw [hb2]
  let LL:List (Option Nat):=Ln++is.map some
  have Qn:LL.filterMap id=os++is:=by rw [List.filterMap_append,hLn,filter_some]
  have yU:=List.nodup_append.1 hnd
  have hnl:(LL.filterMap id).Nodup:=by rw [Qn];exact yU.2.1
  have yZ:∀ {i n},dI LL i=some n -> n∈os++is:=fun {i n} h=>by
   rw [<- Qn]
   simp only [dI,Option.join_eq_some_iff] at h
   exact List.mem_filterMap.2 ⟨some n,List.mem_of_getElem? h,rfl⟩
  have hB':kX ps rs (d,o) pn b=b+LL.length:=hB
  open Classical in
  let μr:Nat -> Value:=fun n=>if b <= n /\ n<b+LL.length then vG μ' (dI LL (n - b)) else if h:∃ j,j<c.np /\ pn j=n then c.pQ h.choose else undef
  let lI:Nat -> Prop:=fun n=>(b <= n /\ n<b+LL.length) \/ ∃ j,j<c.np /\ n=pn j
  have hμr1:∀ i,i<LL.length -> μr (b+i)=vG μ' (dI LL i):=fun i hi=>by
   simp only [μr];rw [if_pos ⟨by omega,by omega⟩,Nat.add_sub_cancel_left]
  have hμr2:∀ j,j<c.np -> μr (pn j)=c.pQ j:=fun j hj=>by
   have hno:=Ez j hj
   rw [hB'] at hno
   simp only [μr]
   rw [if_neg hno]
   have hex:∃ i,i<c.np /\ pn i=pn j:=⟨j,hj,rfl⟩
   rw [dif_pos hex]
   rw [zX _ _ hex.choose_spec.1 hj hex.choose_spec.2]
  have Nn:∀ i,i<LL.length -> lI (b+i):=fun i hi=>.inl ⟨by omega,by omega⟩
  have Qo:LL.length=Ln.length+is.length:=by simp [LL]
  have hk1:∀ i,i<is.length -> μr (b+Ln.length+i)=μ' (aL is i) /\ lI (b+Ln.length+i):=fun i hi=>by
   rw [show b+Ln.length+i=b+(Ln.length+i) by omega]
   refine ⟨?_,Nn _ (by omega)⟩
   rw [hμr1 _ (by omega)]
   show vG μ' (dI (Ln++is.map some) (Ln.length+i))=_
   rw [yX,wY hi]
   rfl
  have hk2:∀ i,i∈pj -> μr (pn i)=μ' i /\ lI (pn i):=fun i hi=>by
   have:=Nl i hi
   exact ⟨by rw [hμr2 i (by omega),(hr'.pins i (by omega)).2],.inr ⟨i,by omega,rfl⟩⟩
  have hsrc:∀ n ob,aB (fun _=>none) (bW ps rs (d,o) pn b) n=some ob -> lI n /\ ∃ x:Option Nat,μr n=vG μ' x /\ ((∃ i,i<LL.length /\ n=b+i /\ x=dI LL i) \/ (∃ j,j∈pj /\ n=pn j /\ x=some j)):=by
   intro n ob hn
   have hq:=(dH hn).resolve_right (by simp)
   rw [hU] at hq
   have hpos:∀ i,i<LL.length -> n=b+i -> lI n /\ ∃ x:Option Nat,μr n=vG μ' x /\ ((∃ i,i<LL.length /\ n=b+i /\ x=dI LL i) \/ (∃ j,j∈pj /\ n=pn j /\ x=some j)):=fun i hi e =>
    ⟨by rw [e];exact Nn i hi,dI LL i,by rw [e];exact hμr1 i hi,.inl ⟨i,hi,e,rfl⟩⟩
   rcases List.mem_append.1 hq with hq | hq
   ·have:=(iQ rs d b).2 _ hq
    rw [hb2] at this
    exact hpos (n - b) (by omega) (by omega)
   ·rcases zT μr lI (fun _=>True) hk1 hk2 (.inr fun _ _=>trivial) _ hq with h | ⟨Ls,_,⟨i,h1,h2,_⟩ | ⟨j,h1,h2,_⟩⟩
    ·cases h
    ·injection h2 with h2 _
     exact hpos (Ln.length+i) (by omega) (by omega)
    ·injection h2 with h2 _
     exact ⟨by rw [h2];exact (hk2 j h1).2,some j,by rw [h2,(hk2 j h1).1];rfl,.inr ⟨j,h1,h2,rfl⟩⟩
  have hlv:∀ n ob k,aB (fun _=>none) (bW ps rs (d,o) pn b) n=some ob -> blk (μr n)=some k -> ∃ n1 o1,n1∈pj++(os++is) /\ s'.mem n1=some o1 /\ o1.live=true /\ blk (μ' n1)=some k /\ ((∃ i,i<LL.length /\ n=b+i /\ dI LL i=some n1) \/ (n1∈pj /\ n=pn n1)):=by
   intro n ob k hn hk
   obtain ⟨_,x,h1,h2⟩:=hsrc n ob hn
   rw [h1] at hk
   rcases h2 with ⟨i,h3,h4,h5⟩ | ⟨j,h3,h4,h5⟩
   ·cases hx:dI LL i with
    | none=>rw [h5,hx] at hk;simp [vG,blk] at hk
    | some n1 =>
     rw [h5,hx] at hk
     have hmm:=yZ hx
     have hl:∃ o1,s'.mem n1=some o1 /\ o1.live=true:=by
      rcases List.mem_append.1 hmm with hmm | hmm
      ·exact hlive n1 hmm
      ·exact Dj n1 (List.mem_append_right _ hmm)
     obtain ⟨o1,q1,q2⟩:=hl
     exact ⟨n1,o1,List.mem_append_right _ hmm,q1,q2,hk,.inl ⟨i,h3,h4,hx⟩⟩
   ·rw [h5] at hk
    obtain ⟨o1,q1,q2⟩:=Dj j (List.mem_append_left _ h3)
    exact ⟨j,o1,List.mem_append_left _ h3,q1,q2,hk,.inr ⟨h3,h4⟩⟩
  have hSS:(aY rs&&aO ps)=true \/ ∀ k,aX μ' s'.mem (aD c μ' s'.mem) qs k -> aD (kN (aY rs&&aO ps) c) μr (aB (fun _=>none) (bW ps rs (d,o) pn b)) k:=by
   cases nX:(aY rs&&aO ps) with
   | true=>exact .inl rfl
   | false =>
    refine .inr (fun k hk=>⟨?_,fun n ob hn hl hbk=>?_⟩)
    ·rcases hk with hk | ⟨q,hq,hl',hbq⟩
     ·rcases hk.1 with h1 | h1
      ·exact .inl h1
      ·exact .inr h1
     ·unfold bP at hl'
      cases Io:s'.mem q with
      | none=>rw [Io] at hl';cases hl'
      | some ob =>
       rw [Io] at hl'
       exact .inr (hr'.aT Io (by cases ob <;> first | exact hl' | rfl) hbq).1
    ·obtain ⟨n1,o1,h1,h2,h3,h4,_⟩:=hlv n ob k hn hbk
     rcases hk with hk | ⟨q,hq,hl',hbq⟩
     ·exact hk.2 n1 o1 h2 h3 h4
     ·unfold bP at hl'
      cases Io:s'.mem q with
      | none=>rw [Io] at hl';cases hl'
      | some ob =>
       rw [Io] at hl'
       exact hr'.dist n1 q o1 ob h2 Io h3 (by cases ob <;> first | exact hl' | rfl) (fun e=>hdj n1 h1 (e ▸ hq)) k h4 hbq
  have hgo:=hout.go μr lI (aD (kN (aY rs&&aO ps) c) μr (aB (fun _=>none) (bW ps rs (d,o) pn b))) (fun i hi=>by rw [hμr1 i (by omega)];exact congrArg _ (yV hi)) (fun i hi=>Nn i (by omega)) (hSS.imp (fun h=>by simp only [Bool.and_eq_true] at h;exact h.1) id)
  have hgl:=zT μr lI (aD (kN (aY rs&&aO ps) c) μr (aB (fun _=>none) (bW ps rs (d,o) pn b))) hk1 hk2 (hSS.imp (fun h=>by simp only [Bool.and_eq_true] at h;exact h.2) (fun h k hk=>h k (.inl hk)))
  have Ip:∀ n ob,lI n -> aF c μr lI (aD (kN (aY rs&&aO ps) c) μr (aB (fun _=>none) (bW ps rs (d,o) pn b))) w' n ob -> aF (kN (aY rs&&aO ps) c) μr lI (aD (kN (aY rs&&aO ps) c) μr (aB (fun _=>none) (bW ps rs (d,o) pn b))) w' n ob:=fun n ob hn h =>
   mF (c1:=c) n ob (fun hl k hk=>kQ h hl hk) (fun _ h=>h) (fun _ _=>rfl) (fun _ h=>h) hn h
  refine ⟨μr,lI,fun n=>by rw [hB'],hμr2,fun n ob hn=>?_,fun n n' ob Ls hn hn' hne k hk hk'=>?_,Fu hgo.1⟩
  ·have hN:=(hsrc n ob hn).1
   have hq:=(dH hn).resolve_right (by simp)
   rw [hU] at hq
   rcases List.mem_append.1 hq with hq | hq
   ·obtain ⟨i,Ls,h1,h2,h3,h4⟩:=hgo.2 _ hq
    injection h2 with h2 h5
    injection h5 with h5
    subst h5;subst h2
    exact ⟨hN,h3,Ip _ _ hN h4⟩
   ·rcases hgl _ hq with h | ⟨Ls,h1,⟨i,h2,h3,h4⟩ | ⟨i,h2,h3,h4⟩⟩
    ·cases h
    ·injection h3 with h3 h5
     injection h5 with h5
     subst h5;subst h3
     exact ⟨hN,h1,Ip _ _ hN h4⟩
    ·injection h3 with h3 h5
     injection h5 with h5
     subst h5;subst h3
     exact ⟨hN,h1,Ip _ _ hN h4⟩
  ·obtain ⟨n1,o1,h1,h2,h3,h4,h5⟩:=hlv n ob k hn hk
   obtain ⟨n2,o2,g1,g2,g3,g4,g5⟩:=hlv n' Ls k hn' hk'
   refine hr'.dist n1 n2 o1 o2 h2 g2 h3 g3 (fun e=>?_) k h4 g4
   rcases h5 with ⟨i,a1,a2,a3⟩ | ⟨a1,a2⟩ <;> rcases g5 with ⟨i',b1,b2,b3⟩ | ⟨b1,b2⟩
   ·exact tO hnl a3 b3 (fun h=>hne (by rw [a2,b2,h])) e
   ·exact yU.2.2 _ b1 _ (yZ a3) e.symm
   ·exact yU.2.2 _ a1 _ (yZ b3) e
   ·exact hne (by rw [a2,b2,e])
 cases e with
 | exit id=>simp only [finish] at hfin;cases hfin
 | normal =>
  simp only [finish] at hfin
  rw [<- hs'] at hfin
  refine main ?_
  unfold Ho at hfin
  split at hfin
  ·rename_i d os qs o pj is ho hm
   split at hfin
   ·rename_i hb
    simp only [Bool.and_eq_true] at hb
    injection hfin with hfin
    exact ⟨d,os,qs,o,pj,is,ho,hm,hb.1,hb.2,hfin⟩
   ·cases hfin
  ·cases hfin
 | ret =>
  simp only [finish] at hfin
  rw [<- hs'] at hfin
  refine main ?_
  unfold Ho at hfin
  split at hfin
  ·rename_i d os qs o pj is ho hm
   split at hfin
   ·rename_i hb
    simp only [Bool.and_eq_true] at hb
    injection hfin with hfin
    exact ⟨d,os,qs,o,pj,is,ho,hm,hb.1,hb.2,hfin⟩
   ·cases hfin
  ·cases hfin
theorem Kn (hE:aH P E) (wW:P.follows .mixedOrders=true) {f:FuncId} {fn:Func} {C:Code} {ps:List PT} {rs:List RT} {T:Nat→rW (RD rs×MD ps)} (hf:P.funcs[f]? = some fn) (hb:fn.body=some C) (hname:(fn.name == "runtime.NumGoroutine")=false) (hps:Nat.ble ps.length fn.ntmps=true)
  {sem:Nat -> AD ps -> Option (RD rs×MD ps)} (hj:∀ k,Bv E fn ps rs k true (T k)=Bv E fn ps rs k false (T k)) (Ey:∀ k x,sem k x=Gm E fn ps rs k (T k) x):uP P f ⟨ps,rs,sem⟩ where
 there:=⟨fn,hf,hname,by rw [hb];rfl⟩
 calls:=fun k x r hx c args μ Nm hent=>by
  have h:bE E k (T k) C (finish E ps rs fn.results.toList) (entry ps x fn.ntmps)=some r:=by
   have h1:=Ey k x
   unfold Gm at h1
   rw [hb] at h1
   exact h1.symm.trans hx
  have hj':Just E k (T k) C (finish E ps rs fn.results.toList):=by
   have h1:=hj k
   unfold Bv at h1
   rw [hb] at h1
   exact (nK C _ _ _ _ h1).1
  refine calls_of_wp hf hb ?_
  have hlen:args.length=ps.length:=by rw [<- bY hent.vals];exact iY ps x 0 _
  have hle:=Nat.le_of_ble_eq_true hps
  have Iq:entry ps x fn.ntmps={ sl:=slotsOf 0 (inP ps x 0 (aG ps)).1,mem:=aB (fun _=>none) (inP ps x 0 (aG ps)).2.1,gU:=(inP ps x 0 (aG ps)).2.2,n:=fn.ntmps,np:=aG ps }:=rfl
  have hr:Rel c (entry ps x fn.ntmps) { tmps:=args.toArray++Array.replicate (fn.ntmps - args.toArray.size) undef,defers:=[] } c.w0 μ Nm:=by
   rw [Iq]
   refine ⟨?_,hent.np.symm,hent.pins,rfl,⟨rfl,rfl,rfl,Nat.le_refl _,fun _ _ _=>rfl⟩,hent.names,hent.objs,hent.dist,fun y=>?_⟩
   ·show (args.toArray++Array.replicate (fn.ntmps - args.toArray.size) undef).size=fn.ntmps
    simp;omega
   ·refine jV (fun y=>(args.toArray++Array.replicate (fn.ntmps - args.toArray.size) undef).getD y undef) _ args 0 hent.vals (fun j hj=>?_) y
    simp only [Nat.zero_add]
    rw [Array.getD_eq_getD_getElem?,Array.getElem?_append_left (by simpa using hj)]
    simp [List.getD_eq_getElem?_getD]
  exact qO hE wW hj' h hent.np rfl hr hent.bound
end
end Go.Proofs.YtmmagcjlfcicfaaGreat.Ab
set_option linter.unusedVariables false
set_option linter.unusedSimpArgs false
namespace Go.Proofs.YtmmagcjlfcicfaaGreat.Ab
open Go.RowKit
def lk {α:Type}:List (Nat×α) -> Nat -> Option α
 | [],_=>none
 | (i,x)::r,n=>match Nat.beq i n with | true=>some x | false=>lk r n
def Ir {α:Type}:List α -> Nat -> Option α
 | [],_=>none
 | x::_,0=>some x
 | _::r,n+1=>Ir r n
structure Tab where
 ty:List (Nat×Ty)
 lK:List (Nat×Nat)
 agg:List (Nat×Unit)
 elem:List (Nat×TypeId)
 ik:List (Nat×IntKind)
 arr:List (Nat×(Nat×TypeId))
 nM:List (Nat×List (Nat×TypeId))
 map:List (Nat×(TypeId×TypeId))
 zJ:List (Nat×(TypeId×TypeId))
 eq:List (Nat×Unit)
def hasB {α:Type}:Option α -> Bool
 | some _=>true
 | none=>false
def Tab.env (t:Tab) (fn:FuncId -> Option Fn) (hint:Nat -> Nat):Env where
 agg:=fun T=>hasB (lk t.agg T)
 ty:=fun T=>lk t.ty T
 elem:=fun T=>lk t.elem T
 lK:=fun T=>match lk t.lK T with | some n=>n | none=>0
 nM:=fun T f=>match lk t.nM T with | some l=>Ir l f | none=>none
 arr:=fun T=>lk t.arr T
 ik:=fun T=>lk t.ik T
 hint:=hint
 Dy:=fun T=>hasB (lk t.eq T)
 fn:=fn
 map:=fun T=>lk t.map T
 zJ:=fun T=>lk t.zJ T
theorem fI {α:Type}:∀ {l:List (Nat×α)} {n:Nat} {x:α},lk l n=some x -> (n,x)∈l
 | [],_,_,h=>by cases h
 | (i,y)::r,n,x,h=>by
  simp only [lk] at h
  split at h
  ·rename_i e
   have:=Nat.eq_of_beq_eq_true e;subst this
   injection h with h;subst h
   exact List.mem_cons_self
  ·exact List.mem_cons_of_mem _ (fI h)
theorem vH {α:Type}:∀ {l:List α} {n:Nat} {x:α},Ir l n=some x -> l[n]? = some x
 | [],_,_,h=>by cases h
 | y::_,0,x,h=>by simp only [Ir] at h;simpa using h
 | _::r,n+1,x,h=>by simp only [Ir] at h;simpa using vH h
theorem bB {α β:Type} {f g:α -> β}:∀ {l:List α},l.map f=l.map g -> ∀ x∈l,f x=g x
 | [],_,x,hx=>by cases hx
 | y::l,h,x,hx=>by
  simp only [List.map_cons,List.cons.injEq] at h
  rcases List.mem_cons.1 hx with rfl | hx
  ·exact h.1
  ·exact bB h.2 x hx
def Fv (E:Env) (U:TypeId) (a:Ty):Bool:=match E.ty U with | some u=>u.beq a | none=>false
def qP (E:Env) (rP:TypeId -> Ty -> Bool):List Field -> Nat -> Ty -> Bool
 | [],_,_=>false
 | f::r,off,t=>match r with
  | []=>f.name != "_" && (Nat.beq f.offset off&&(Fv E f.type t&&rP f.type t))
  | _::_=>(match t with
   | .pair a b=>f.name != "_" && (Nat.beq f.offset off&&(Fv E f.type a&&rP f.type a))&&qP E rP r (off+a.sz) b
   | _=>false)
def wZ:Nat -> Ty -> Ty -> Bool
 | 0,_,_=>false
 | n+1,u,t=>match n with
  | 0=>t.beq u
  | _+1=>(match t with
   | .pair a b=>a.beq u&&wZ n u b
   | _=>false)
def jD (P:Program) (E:Env):Nat -> TypeId -> Ty -> Bool
 | 0,_,_=>false
 | d+1,T,t=>match P.underlying T with
  | some (.int _)=>(match t with | .int _=>true | _=>false)
  | some .bool=>(match t with | .bool=>true | _=>false)
  | some (.struct fs)=>!P.stoodInHeld T&&qP E (jD P E d) fs.toList 0 t
  | some (.array n e)=>(match E.ty e with | some u=>jD P E d e u&&wZ n u t | none=>false)
  | _=>false
structure Ko (P:Program) (E:Env) (d:Nat) (T:TypeId) (t:Ty):Prop where
 gQ:t.gQ=true
 equal:∀ d',d <= d' -> ∀ (x y:t.D) (w:World),(Op.equalIn d' T (aK (E.agg T) (aI t x)) (aK (E.agg T) (aI t y))).run P w=.ok (fC t x y) w
 key:∀ d',d <= d' -> ∀ (e:Bool) (x:t.D) (w:World),(Instr.checkKey e d' T (aK (E.agg T) (aI t x))).run P w=.ok () w
section
variable {P:Program} {E:Env}
theorem oU {U:TypeId} {a:Ty} (h:Fv E U a=true):E.ty U=some a:=by
 unfold Fv at h
 split at h
 ·rename_i u hu;rw [hu,Ty.beq_eq h]
 ·cases h
theorem mO:∀ t:Ty,t.gQ=true -> t.flat=true
 | .unit,_ | .int _,_ | .bool,_=>rfl
 | .str,h=>by cases h
 | .sl _ _,h=>by cases h
 | .pair a b,h=>by
  simp only [Ty.gQ,Bool.and_eq_true] at h
  simp only [Ty.flat,Bool.and_eq_true]
  exact ⟨mO a h.1,mO b h.2⟩
theorem bC {t:Ty} (h:t.gQ=true) (x:t.D):(aI t x).length=t.sz:=mD t (mO t h) x
theorem bX (hE:∀ T t,E.ty T=some t -> kM P E T t) {U:TypeId} {a:Ty} (hU:E.ty U=some a) {l vs r:List Value} (hv:vs.length=a.sz) (w:World):(part U (l++vs++r).toArray l.length).run P w=.ok (aK (E.agg U) vs) w:=by
 have hT:=hE U a hU
 unfold part
 rw [Sem.run_bind,mW hT w]
 cases hA:E.agg U with
 | true =>
  simp only [Result.andThen,if_true,Sem.run_bind,aQ hT w,aK,Sem.run_pure]
  congr 2
  apply Array.ext'
  simp [Array.toList_extract,List.extract,<- hv]
 | false =>
  have h4:=hT.one hA
  have hp:=hT.pos
  have h5:l.length<(l++vs++r).length:=by simp;omega
  cases vs with
  | nil=>simp at hv;omega
  | cons v vs=>simp [Result.andThen,aK,List.getD]
theorem tQ {d:Nat} {xs ys:Array Value} {f:Field} {fs:List Field} {a b:Value} {r s:Bool} {w:World} (hn:f.name ≠ "_") (ha:(part f.type xs f.offset).run P w=.ok a w) (hb:(part f.type ys f.offset).run P w=.ok b w) (he:(Op.equalIn d f.type a b).run P w=.ok r w) (hr:(Op.eqFields d xs ys fs).run P w=.ok s w):(Op.eqFields d xs ys (f::fs)).run P w=.ok (r&&s) w:=by
 rw [Op.eqFields]
 simp only [if_pos hn,Sem.run_bind,ha,hb,he,Result.andThen_ok]
 cases r
 ·simp
 ·simpa using hr
theorem vI (hE:∀ T t,E.ty T=some t -> kM P E T t) {d:Nat} (ih:∀ T t,E.ty T=some t -> jD P E d T t=true -> Ko P E d T t):∀ (fs:List Field) (t:Ty) (l1 l2:List Value) (off:Nat),l1.length=off -> l2.length=off -> qP E (jD P E d) fs off t=true ->
  t.gQ=true /\ ∀ d',d <= d' -> ∀ (x y:t.D) (w:World) ,(Op.eqFields d' (l1++aI t x).toArray (l2++aI t y).toArray fs).run P w=.ok (fC t x y) w
 | [],t,l1,l2,off,h1,h2,h=>by cases h
 | [f],t,l1,l2,off,h1,h2,h=>by
  simp only [qP,Bool.and_eq_true,bne_iff_ne] at h
  obtain ⟨hn,ho,ht,hc⟩:=h
  have ht:=oU ht
  have ho:=Nat.eq_of_beq_eq_true ho
  have hd:=ih _ _ ht hc
  refine ⟨hd.gQ,fun d' hd' x y w=>?_⟩
  have p1:=bX hE ht (l:=l1) (r:=[]) (bC hd.gQ x) w
  have p2:=bX hE ht (l:=l2) (r:=[]) (bC hd.gQ y) w
  rw [List.append_nil,h1,<- ho] at p1
  rw [List.append_nil,h2,<- ho] at p2
  have:=tQ (fs:=[]) hn p1 p2 (hd.equal d' hd' x y w) (s:=true) (by simp [Op.eqFields])
  rw [Bool.and_true] at this
  exact this
 | f::g::r,t,l1,l2,off,h1,h2,h=>by
  simp only [qP] at h
  cases t with
  | pair a b =>
   simp only [Bool.and_eq_true,bne_iff_ne] at h
   obtain ⟨⟨hn,ho,ht,hc⟩,hr⟩:=h
   have ht:=oU ht
   have ho:=Nat.eq_of_beq_eq_true ho
   have hd:=ih _ _ ht hc
   have hbn:b.gQ=true:=(vI hE ih (g::r) b (List.replicate (off+a.sz) undef) (List.replicate (off+a.sz) undef) (off+a.sz) (by simp) (by simp) hr).1
   refine ⟨by simp only [Ty.gQ,Bool.and_eq_true];exact ⟨hd.gQ,hbn⟩,fun d' hd' x y w=>?_⟩
   have hrec:=(vI hE ih (g::r) b (l1++aI a x.1) (l2++aI a y.1) (off+a.sz) (by simp [h1,bC hd.gQ]) (by simp [h2,bC hd.gQ]) hr).2 d' hd' x.2 y.2 w
   have p1:=bX hE ht (l:=l1) (r:=aI b x.2) (bC hd.gQ x.1) w
   have p2:=bX hE ht (l:=l2) (r:=aI b y.2) (bC hd.gQ y.1) w
   rw [h1,<- ho] at p1
   rw [h2,<- ho] at p2
   have:=tQ (fs:=g::r) hn p1 p2 (hd.equal d' hd' x.1 y.1 w) hrec
   simp only [aI,<- List.append_assoc]
   exact this
  | _=>cases h
theorem vJ (hE:∀ T t,E.ty T=some t -> kM P E T t) {d:Nat} {e:TypeId} {u:Ty} (he:E.ty e=some u) (hd:Ko P E d e u):∀ (n:Nat) (t:Ty) (l1 l2:List Value) (i:Nat),l1.length=i * u.sz -> l2.length=i * u.sz -> wZ n u t=true ->
  t.gQ=true /\ ∀ d',d <= d' -> ∀ (x y:t.D) (w:World),(Op.eqItems d' e u.sz (l1++aI t x).toArray (l2++aI t y).toArray (List.range' i n)).run P w=.ok (fC t x y) w
 | 0,t,l1,l2,i,h1,h2,h=>by cases h
 | 1,t,l1,l2,i,h1,h2,h=>by
  simp only [wZ] at h
  have:=Ty.beq_eq h;subst this
  refine ⟨hd.gQ,fun d' hd' x y w=>?_⟩
  have p1:=bX hE he (l:=l1) (r:=[]) (bC hd.gQ x) w
  have p2:=bX hE he (l:=l2) (r:=[]) (bC hd.gQ y) w
  rw [List.append_nil,h1] at p1
  rw [List.append_nil,h2] at p2
  simp only [List.range'_succ,List.range'_zero,Op.eqItems,Sem.run_bind,p1,p2,hd.equal d' hd' x y w,Result.andThen_ok]
  cases fC t x y <;> simp
 | n+2,t,l1,l2,i,h1,h2,h=>by
  simp only [wZ] at h
  cases t with
  | pair a b =>
   simp only [Bool.and_eq_true] at h
   have:=Ty.beq_eq h.1;subst this
   have hbn:b.gQ=true:=(vJ hE he hd (n+1) b (List.replicate ((i+1) * a.sz) undef) (List.replicate ((i+1) * a.sz) undef) (i+1) (by simp) (by simp) h.2).1
   refine ⟨by simp only [Ty.gQ,Bool.and_eq_true];exact ⟨hd.gQ,hbn⟩,fun d' hd' x y w=>?_⟩
   have hrec:=(vJ hE he hd (n+1) b (l1++aI a x.1) (l2++aI a y.1) (i+1) (by simp [h1,bC hd.gQ,Nat.add_mul]) (by simp [h2,bC hd.gQ,Nat.add_mul]) h.2).2 d' hd' x.2 y.2 w
   have p1:=bX hE he (l:=l1) (r:=aI b x.2) (bC hd.gQ x.1) w
   have p2:=bX hE he (l:=l2) (r:=aI b y.2) (bC hd.gQ y.1) w
   rw [h1] at p1
   rw [h2] at p2
   rw [List.range'_succ]
   simp only [aI,fC,<- List.append_assoc]
   simp only [Op.eqItems,Sem.run_bind,p1,p2,hd.equal d' hd' x.1 y.1 w,Result.andThen_ok]
   cases hb:fC a x.1 y.1 with
   | false=>simp
   | true=>simpa using hrec
  | _=>cases h
theorem xA (hE:∀ T t,E.ty T=some t -> kM P E T t) {d:Nat} (ih:∀ T t,E.ty T=some t -> jD P E d T t=true -> Ko P E d T t):∀ (fs:List Field) (t:Ty) (l1:List Value) (off:Nat),l1.length=off -> qP E (jD P E d) fs off t=true ->
  ∀ d',d≤d'→∀ (e:Bool) (x:t.D) (w:World),(forIn fs PUnit.unit (fun (f:Field) (_:PUnit)=>if f.name ≠ "_" then do
       let v <- part f.type (l1++aI t x).toArray f.offset
       Instr.checkKey e d' f.type v
       pure (ForInStep.yield PUnit.unit)
      else pure (ForInStep.yield PUnit.unit)):Sem PUnit).run P w=.ok PUnit.unit w
 | [],t,l1,off,h1,h=>by cases h
 | [f],t,l1,off,h1,h=>by
  simp only [qP,Bool.and_eq_true,bne_iff_ne] at h
  obtain ⟨hn,ho,ht,hc⟩:=h
  have ht:=oU ht
  have ho:=Nat.eq_of_beq_eq_true ho
  have hd:=ih _ _ ht hc
  intro d' hd' e x w
  have p1:=bX hE ht (l:=l1) (r:=[]) (bC hd.gQ x) w
  rw [List.append_nil,h1,<- ho] at p1
  simp only [List.forIn_cons,if_pos hn,Sem.run_bind,p1,hd.key d' hd' e x w,Result.andThen_ok,Sem.run_pure,List.forIn_nil]
 | f::g::r,t,l1,off,h1,h=>by
  simp only [qP] at h
  cases t with
  | pair a b =>
   simp only [Bool.and_eq_true,bne_iff_ne] at h
   obtain ⟨⟨hn,ho,ht,hc⟩,hr⟩:=h
   have ht:=oU ht
   have ho:=Nat.eq_of_beq_eq_true ho
   have hd:=ih _ _ ht hc
   intro d' hd' e x w
   have hrec:=xA hE ih (g::r) b (l1++aI a x.1) (off+a.sz) (by simp [h1,bC hd.gQ]) hr d' hd' e x.2 w
   have p1:=bX hE ht (l:=l1) (r:=aI b x.2) (bC hd.gQ x.1) w
   rw [h1,<- ho] at p1
   rw [List.forIn_cons]
   simp only [aI,<- List.append_assoc]
   simp only [if_pos hn,Sem.run_bind,p1,hd.key d' hd' e x.1 w,Result.andThen_ok,Sem.run_pure]
   exact hrec
  | _=>cases h
theorem xB (hE:∀ T t,E.ty T=some t -> kM P E T t) {d:Nat} {e:TypeId} {u:Ty} (he:E.ty e=some u) (hd:Ko P E d e u):∀ (n:Nat) (t:Ty) (l1:List Value) (i:Nat),l1.length=i * u.sz -> wZ n u t=true ->
  ∀ d',d <= d' -> ∀ (b':Bool) (x:t.D) (w:World),(forIn (List.range' i n) PUnit.unit (fun (i:Nat) (_:PUnit)=>do
      let s <- sizeOf e
      let v <- part e (l1++aI t x).toArray (i * s)
      Instr.checkKey b' d' e v
      pure (ForInStep.yield PUnit.unit)):Sem PUnit).run P w=.ok PUnit.unit w
 | 0,t,l1,i,h1,h=>by cases h
 | 1,t,l1,i,h1,h=>by
  simp only [wZ] at h
  have:=Ty.beq_eq h;subst this
  intro d' hd' b' x w
  have p1:=bX hE he (l:=l1) (r:=[]) (bC hd.gQ x) w
  rw [List.append_nil,h1] at p1
  simp only [List.range'_succ,List.range'_zero,List.forIn_cons,List.forIn_nil,Sem.run_bind,aQ (hE e _ he) w,Result.andThen_ok,p1,hd.key d' hd' b' x w,Sem.run_pure]
 | n+2,t,l1,i,h1,h=>by
  simp only [wZ] at h
  cases t with
  | pair a b =>
   simp only [Bool.and_eq_true] at h
   have:=Ty.beq_eq h.1;subst this
   intro d' hd' b' x w
   have hrec:=xB hE he hd (n+1) b (l1++aI a x.1) (i+1) (by simp [h1,bC hd.gQ,Nat.add_mul]) h.2 d' hd' b' x.2 w
   have p1:=bX hE he (l:=l1) (r:=aI b x.2) (bC hd.gQ x.1) w
   rw [h1] at p1
   rw [List.range'_succ,List.forIn_cons]
   simp only [aI,<- List.append_assoc]
   simp only [Sem.run_bind,aQ (hE e _ he) w,Result.andThen_ok,p1,hd.key d' hd' b' x.1 w,Sem.run_pure]
   exact hrec
  | _=>cases h
theorem Dk (hE:∀ T t,E.ty T=some t -> kM P E T t):∀ (d:Nat) (T:TypeId) (t:Ty),E.ty T=some t -> jD P E d T t=true -> Ko P E d T t
 | 0,T,t,_,h=>by cases h
 | d+1,T,t,hT,h=>by
  have ih:=fun T t h1 h2=>Dk hE d T t h1 h2
  have hTy:=hE T t hT
  obtain ⟨dd,hu0,hrow⟩:=hTy.und
  simp only [jD] at h
  split at h
  ·rename_i k hu
   rw [hu] at hu0
   injection hu0 with hu0
   subst hu0
   have hA:E.agg T=false:=by rw [<- hrow]
   cases t <;> first | (cases h;done) | skip
   rename_i k'
   refine ⟨rfl,fun d' hd' x y w=>?_,fun d' hd' e x w=>?_⟩
   ·obtain ⟨d'',rfl⟩:∃ d'',d'=d''+1:=⟨d' - 1,by omega⟩
    rw [hA]
    exact oC d'' hu
   ·obtain ⟨d'',rfl⟩:∃ d'',d'=d''+1:=⟨d' - 1,by omega⟩
    rw [hA]
    simp [Instr.checkKey,run_underlying hu,Sem.run_bind,Result.andThen,aK,aI]
  ·rename_i hu
   rw [hu] at hu0
   injection hu0 with hu0
   subst hu0
   have hA:E.agg T=false:=by rw [<- hrow]
   cases t <;> first | (cases h;done) | skip
   refine ⟨rfl,fun d' hd' x y w=>?_,fun d' hd' e x w=>?_⟩
   ·obtain ⟨d'',rfl⟩:∃ d'',d'=d''+1:=⟨d' - 1,by omega⟩
    rw [hA]
    exact fM d'' hu
   ·obtain ⟨d'',rfl⟩:∃ d'',d'=d''+1:=⟨d' - 1,by omega⟩
    rw [hA]
    simp [Instr.checkKey,run_underlying hu,Sem.run_bind,Result.andThen,aK,aI]
  ·rename_i fs hu
   rw [hu] at hu0
   injection hu0 with hu0
   subst hu0
   have hA:E.agg T=true:=by rw [<- hrow]
   simp only [Bool.and_eq_true,Bool.not_eq_true'] at h
   have hf:P.fieldsOf T=fs:=by simp [Program.fieldsOf,hu]
   obtain ⟨Iu,heq⟩:=vI hE ih fs.toList t [] [] 0 rfl rfl h.2
   refine ⟨Iu,fun d' hd' x y w=>?_,fun d' hd' e x w=>?_⟩
   ·obtain ⟨d'',rfl⟩:∃ d'',d'=d''+1:=⟨d' - 1,by omega⟩
    rw [hA]
    simp only [aK]
    rw [run_equalIn_struct (P:=P) w d'' T _ _ (by rw [hf];exact hu) h.1,hf]
    exact heq d'' (by omega) x y w
   ·obtain ⟨d'',rfl⟩:∃ d'',d'=d''+1:=⟨d' - 1,by omega⟩
    rw [hA]
    simp only [aK,Instr.checkKey,Sem.run_bind,run_underlying hu,Result.andThen_ok]
    rw [<- Array.forIn_toList]
    have:=xA hE ih fs.toList t [] 0 rfl h.2 d'' (by omega) e x w
    simp only [List.nil_append] at this
    rw [this]
    rfl
  ·rename_i n e hu
   rw [hu] at hu0
   injection hu0 with hu0
   subst hu0
   have hA:E.agg T=true:=by rw [<- hrow]
   split at h
   ·rename_i u he
    simp only [Bool.and_eq_true] at h
    have hd:=ih e u he h.1
    obtain ⟨Iu,heq⟩:=vJ hE he hd n t [] [] 0 (by simp) (by simp) h.2
    obtain ⟨i,z,hi,hsz,_⟩:=(hE e u he).info
    have hc:P.cellsOf e=u.sz:=by simp [Program.cellsOf,hi,hsz]
    refine ⟨Iu,fun d' hd' x y w=>?_,fun d' hd' e' x w=>?_⟩
    ·obtain ⟨d'',rfl⟩:∃ d'',d'=d''+1:=⟨d' - 1,by omega⟩
     rw [hA]
     simp only [aK]
     rw [run_equalIn_array w d'' _ _ hu hi,hc,List.range_eq_range']
     exact heq d'' (by omega) x y w
    ·obtain ⟨d'',rfl⟩:∃ d'',d'=d''+1:=⟨d' - 1,by omega⟩
     rw [hA]
     simp only [aK,Instr.checkKey,Sem.run_bind,run_underlying hu,Result.andThen_ok]
     simp only [Std.Legacy.Range.forIn_eq_forIn_range',Std.Legacy.Range.size,Nat.sub_zero,Nat.add_one_sub_one,Nat.div_one]
     have:=xB hE he hd n t [] 0 (by simp) h.2 d'' (by omega) e' x w
     simp only [List.nil_append] at this
     rw [this]
     rfl
   ·cases h
  ·cases h
structure Ae (P:Program) (t:Tab):Prop where
 und:t.ty.map (fun p=>(P.underlying p.1).map (·.isRow))=t.ty.map (fun p=>some (hasB (lk t.agg p.1)))
 info:t.ty.map (fun p=>(P.info? p.1).map fun i=>(i.size,i.bytes,i.zero.map (·.cells.toList),i.zero))=t.ty.map (fun p=>some (p.2.sz,(match lk t.lK p.1 with | some n=>n | none=>0),some (zeroV p.2),some (aK (hasB (lk t.agg p.1)) (zeroV p.2))))
 desc:(t.ty.filter fun p=>!hasB (lk t.agg p.1)).map (fun p=>P.underlying p.1)=(t.ty.filter fun p=>!hasB (lk t.agg p.1)).map (fun p=>descOf p.2)
 pos:(t.ty.all fun p=>Nat.blt 0 p.2.sz&&(Nat.blt 0 (match lk t.lK p.1 with | some n=>n | none=>0)&&(hasB (lk t.agg p.1)||Nat.beq p.2.sz 1)))=true
 elem:t.elem.map (fun p=>P.underlying p.1)=t.elem.map (fun p=>some (.slice p.2))
 ik:t.ik.map (fun p=>P.underlying p.1)=t.ik.map (fun p=>some (.int p.2))
 arr:t.arr.map (fun p=>P.underlying p.1)=t.arr.map (fun p=>some (.array p.2.1 p.2.2))
 Am:(t.arr.all fun p=>hasB (lk t.ty p.2.2))=true
 nM:t.nM.map (fun p=>match P.underlying p.1 with | some (.struct fs)=>some (fs.toList.map fun f=>(f.offset,f.type)) | _=>none)=t.nM.map (fun p=>some p.2)
 Np:(t.ty.all fun p=>!hasB (lk t.agg p.1)||(hasB (lk t.arr p.1)||(match lk t.nM p.1 with | some l=>l.all fun q=>hasB (lk t.ty q.2) | none=>false)))=true
 map:t.map.map (fun p=>P.underlying p.1)=t.map.map (fun p=>some (.map p.2.1 p.2.2))
 zJ:t.zJ.map (fun p=>(P.underlying p.1,hasB ((P.info? p.2.2).bind fun i=>i.zero)))=t.zJ.map (fun p=>(some (.map p.2.1 p.2.2),true))
 eq:(t.eq.all fun p=>match lk t.ty p.1 with | some u=>jD P (t.env (fun _=>none) fun _=>0) 30 p.1 u&&!P.eqGuardType P.depth p.1 | none=>true)=true
theorem kH {α:Type} {x:Option α} (h:hasB x=true):∃ y,x=some y:=by cases x <;> first | exact ⟨_,rfl⟩ | cases h
theorem Bc {t:Tab} {fn fn':FuncId -> Option Fn} {hint hint':Nat -> Nat}:jD P (t.env fn hint)=jD P (t.env fn' hint'):=by
 have h1:∀ rP,qP (t.env fn hint) rP=qP (t.env fn' hint') rP:=by
  intro rP
  funext fs
  induction fs with
  | nil=>rfl
  | cons f r ih=>funext off u;simp only [qP];rw [ih];rfl
 funext d
 induction d with
 | zero=>rfl
 | succ d ih=>funext T u;simp only [jD];rw [ih,h1];rfl
theorem vK {t:Tab} (h:Ae P t) (fn:FuncId -> Option Fn) (hint:Nat -> Nat) (T:TypeId) (u:Ty) (hT:(t.env fn hint).ty T=some u):kM P (t.env fn hint) T u:=by
 have hm:(T,u)∈t.ty:=fI hT
 have h1:=bB h.und _ hm
 have h2:=bB h.info _ hm
 have h3:=List.all_eq_true.1 h.pos _ hm
 simp only [Bool.and_eq_true,Bool.or_eq_true,Nat.blt_eq] at h1 h2 h3
 have hagg:(t.env fn hint).agg T=hasB (lk t.agg T):=rfl
 have Kq:(t.env fn hint).lK T=(match lk t.lK T with | some n=>n | none=>0):=rfl
 cases hu:P.underlying T with
 | none=>rw [hu] at h1;cases h1
 | some d =>
  rw [hu] at h1
  simp only [Option.map_some,Option.some.injEq] at h1
  cases hi:P.info? T with
  | none=>rw [hi] at h2;cases h2
  | some i =>
   rw [hi] at h2
   simp only [Option.map_some,Option.some.injEq,Prod.mk.injEq] at h2
   obtain ⟨a1,a2,a3,a4⟩:=h2
   refine ⟨⟨d,hu,by rw [h1,hagg]⟩,fun hA=>?_,?_,⟨i,hi,by rw [a4,hagg]⟩,h3.1,by rw [Kq];exact h3.2.1,fun hA=>?_⟩
   ·have hm2:(T,u)∈t.ty.filter fun p=>!hasB (lk t.agg p.1):=List.mem_filter.2 ⟨hm,by rw [hagg] at hA;simp [hA]⟩
    exact bB h.desc _ hm2
   ·rw [a4] at a3
    simp only [Option.map_some,Option.some.injEq] at a3
    exact ⟨i,_,hi,a1,by rw [a2,Kq],a4,a3⟩
   ·rw [hagg] at hA
    rcases h3.2.2 with h | h
    ·rw [hA] at h;cases h
    ·exact Nat.eq_of_beq_eq_true h
theorem qQ {t:Tab} (h:Ae P t) (fn:FuncId -> Option Fn) (hint:Nat -> Nat):∀ (fs:List Field),(∀ f∈fs,hasB (lk t.ty f.type)=true) -> ∃ pl:List (Nat×Nat),(∀ w,(fs.mapM (fun (f:Field)=>do pure (f.offset,<- sizeOf f.type)):Sem (List (Nat×Nat))).run P w=.ok pl w) /\ ∀ (i:Nat) (f:Field) (u:Ty),fs[i]? = some f -> lk t.ty f.type=some u -> pl[i]? = some (f.offset,u.sz)
 | [],_=>⟨[],fun w=>rfl,fun i f u hf _=>by simp at hf⟩
 | f::fs,hf=>by
  obtain ⟨pl,h1,h2⟩:=qQ h fn hint fs (fun g hg=>hf g (List.mem_cons_of_mem _ hg))
  obtain ⟨u,hu⟩:=kH (hf f List.mem_cons_self)
  have hs:=fun w=>aQ (vK h fn hint f.type u hu) w
  refine ⟨(f.offset,u.sz)::pl,fun w=>?_,fun i g v hg hv=>?_⟩
  ·simp only [List.mapM_cons,Sem.run_bind,hs w,Result.andThen_ok,Sem.run_pure,h1 w]
  ·cases i with
   | zero =>
    simp at hg
    subst hg
    rw [hu] at hv
    injection hv with hv;subst hv
    rfl
   | succ i=>simp at hg;simpa using h2 i g v hg hv
theorem Kr {t:Tab} (h:Ae P t) (fn:FuncId -> Option Fn) (hint:Nat -> Nat) (hfn:∀ f F,fn f=some F -> uP P f F):aH P (t.env fn hint) where
 ty:=vK h fn hint
 elem:=fun T e he=>bB h.elem _ (fI he)
 nM:=fun T f o U hf=>by
  have hf':(match lk t.nM T with | some l=>Ir l f | none=>none)=some (o,U):=hf
  split at hf'
  ·rename_i l hl
   have h1:=bB h.nM _ (fI hl)
   simp only at h1
   split at h1
   ·rename_i fs hu
    injection h1 with h1
    have h2:=vH hf'
    rw [<- h1,List.getElem?_map] at h2
    cases hg:fs.toList[f]? with
    | none=>rw [hg] at h2;cases h2
    | some fd =>
     rw [hg] at h2
     simp only [Option.map_some,Option.some.injEq,Prod.mk.injEq] at h2
     exact ⟨fs,fd,hu,by rw [<- Array.getElem?_toList];exact hg,h2.1,h2.2⟩
   ·cases h1
  ·cases hf'
 arr:=fun T n U he=>bB h.arr _ (fI he)
 Am:=fun T n U he=>kH (List.all_eq_true.1 h.Am _ (fI he))
 build:=fun T u hT hA hr=>by
  have hm:(T,u)∈t.ty:=fI hT
  have h1:=List.all_eq_true.1 h.Np _ hm
  have hA':hasB (lk t.agg T)=true:=hA
  have hr':lk t.arr T=none:=hr
  have hnone:hasB (none:Option (Nat×TypeId))=false:=rfl
  simp only [hA',hr',hnone,Bool.not_true,Bool.false_or] at h1
  split at h1
  ·rename_i l hl
   have h2:=bB h.nM _ (fI hl)
   simp only at h2
   split at h2
   ·rename_i fs hu
    injection h2 with h2
    have h3:=List.all_eq_true.1 h1
    obtain ⟨pl,g1,g2⟩:=qQ h fn hint fs.toList (fun f hf=>by
     have:=h3 (f.offset,f.type) (by rw [<- h2];exact List.mem_map.2 ⟨f,hf,rfl⟩)
     exact this)
    refine ⟨fs,pl.toArray,hu,fun w=>?_,fun i off U u' hf hU=>?_⟩
    ·rw [Array.mapM_eq_mapM_toList]
     simp only [map_eq_pure_bind,Sem.run_bind,g1 w,Result.andThen_ok,Sem.run_pure]
    ·have hf':(match lk t.nM T with | some l=>Ir l i | none=>none)=some (off,U):=hf
     rw [hl] at hf'
     have h4:=vH hf'
     rw [<- h2,List.getElem?_map] at h4
     cases hg:fs.toList[i]? with
     | none=>rw [hg] at h4;cases h4
     | some fd =>
      rw [hg] at h4
      simp only [Option.map_some,Option.some.injEq,Prod.mk.injEq] at h4
      obtain ⟨h5,h6⟩:=h4
      subst h5;subst h6
      have:=g2 i fd u' hg hU
      simpa using this
   ·cases h2
  ·cases h1
 ik:=fun T k he=>bB h.ik _ (fI he)
 fn:=hfn
 Dy:=fun T u he hT=>by
  have hT':lk t.ty T=some u:=hT
  obtain ⟨_,hm⟩:=kH he
  have h1:=List.all_eq_true.1 h.eq _ (fI hm)
  simp only [hT',Bool.and_eq_true,Bool.not_eq_true'] at h1
  have hty:=vK h fn hint
  have hd:=Dk hty 30 T u hT (by rw [Bc (fn':=fun _=>none) (hint':=fun _=>0)];exact h1.1)
  refine ⟨mO u hd.gQ,hd.gQ,(hty T u hT).one,fun x y w=>hd.equal 10000 (by omega) x y w,fun hA op X Y a b w=>?_,fun e x w=>hd.key 10000 (by omega) e x w⟩
  unfold eqGuard
  cases op <;> simp [Sem.run_bind,h1.2,Result.andThen]
 map:=fun T k v he=>bB h.map _ (fI he)
 zJ:=fun T k v he=>by
  have h1:=bB h.zJ _ (fI he)
  simp only [Prod.mk.injEq] at h1
  refine ⟨h1.1,?_⟩
  obtain ⟨z,h2⟩:=kH h1.2
  cases h3:P.info? v with
  | none=>rw [h3] at h2;cases h2
  | some i=>rw [h3] at h2;exact ⟨i,z,rfl,h2⟩
end
end Go.Proofs.YtmmagcjlfcicfaaGreat.Ab
set_option linter.unusedVariables false
set_option linter.unusedSimpArgs false
namespace Go.Proofs.YtmmagcjlfcicfaaGreat.Ab
open Go.RowKit
section
variable {P:Program} {E:Env}
def Gq (P:Program):List (Nat×Fn) -> Prop
 | []=>True
 | p::r=>uP P p.1 p.2 /\ Gq P r
theorem Dl {P:Program}:∀ {l:List (Nat×Fn)},Gq P l -> ∀ f F,lk l f=some F -> uP P f F
 | [],_,f,F,h=>by cases h
 | (i,G)::l,hl,f,F,h=>by
  simp only [lk] at h
  split at h
  ·rename_i e
   have:=Nat.eq_of_beq_eq_true e;subst this
   injection h with h;subst h
   exact hl.1
  ·exact Dl hl.2 f F h
def zA (z:Bool) (e:TypeId) (t:Ty) (xs:List t.D) (n:Nat):St:={ sl:=slotsOf 0 [.rz z e t xs],mem:=fun _=>none,gU:=0,n:=n,np:=0 }
def dJ (e:TypeId) (t:Ty):List PT:=[.val ⟨false,.sl e t,false⟩]
def iZ (e:TypeId) (t:Ty):List RT:=[.val ⟨false,.sl e t,true⟩]
def qR (lim:Nat) (e:TypeId) (t:Ty) (_:Nat) (x:AD (dJ e t)):Option (RD (iZ e t)×MD (dJ e t)) :=
 if kK x.1 * lim <= 140737488355328 then some ((x.1,()),()) else none
theorem Kt {α:Type} {d:Kd α} {e:Nat} {W:World} {b:Nat} {ok:Nat -> Prop} {n c:Nat} {xs:List α} (h:Kd.V d e W b ok (.slice none n c) xs):xs=[]:=by
 obtain ⟨A,c',hv,_,hF⟩:=h
 injection hv with h1 h2 h3
 subst h1
 cases xs with
 | nil=>rfl
 | cons x xs =>
  have:=hF.2
  obtain ⟨ad,h,_⟩:=this.2 (by simp)
  cases h
theorem Ku (hE:aH P E) (wW:P.follows .mixedOrders=true) {f:FuncId} {fn:Func} {C:Code} {e:TypeId} {t:Ty} {lim:Nat} (hf:P.funcs[f]? = some fn) (hb:fn.body=some C) (hname:(fn.name == "runtime.NumGoroutine")=false) (hps:Nat.ble 1 fn.ntmps=true)
  (hj:∀ k,owed E k true (.nil:rW (RD (iZ e t)×MD (dJ e t))) C (finish E (dJ e t) (iZ e t) fn.results.toList) .nil=owed E k false .nil C (finish E (dJ e t) (iZ e t) fn.results.toList) .nil)
  (h1:∀ k xs,bE E k .nil C (finish E (dJ e t) (iZ e t) fn.results.toList) (zA true e t xs fn.ntmps)=some (([],()),()))
  (h2:∀ k xs,bE E k .nil C (finish E (dJ e t) (iZ e t) fn.results.toList) (zA false e t xs fn.ntmps)=if (0+xs.length) * lim <= 140737488355328 then some (([]++xs,()),()) else none) :
  uP P f ⟨dJ e t,iZ e t,qR lim e t⟩ where
 there:=⟨fn,hf,hname,by rw [hb];rfl⟩
 calls:=fun k x r hx c args μ Nm hent=>by
  refine calls_of_wp hf hb ?_
  have kR:=hent.vals
  have hx':(if kK x.1 * lim <= 140737488355328 then some ((x.1,()),()) else none)=some r:=hx
  obtain ⟨hlim,hr⟩:=dA hx'
  injection hr with hr
  subst hr
  have hnp:c.np=0:=hent.np
  have Dm:∃ v,args=[v] /\ aA μ Nm (aD c μ (aB (fun _=>none) (inP (dJ e t) x 0 (aG (dJ e t))).2.1)) c.w0 (.ro e t x.1) v:=by
   cases args with
   | nil=>simp only [dJ,inP,VRels] at kR
   | cons v args =>
    cases args with
    | nil =>
     refine ⟨v,rfl,?_⟩
     have:=kR
     simp only [dJ,inP,VRels] at this
     exact this.1
    | cons _ _=>simp only [dJ,inP,VRels] at kR;exact kR.2.elim
  obtain ⟨v,rfl,hv⟩:=Dm
  have hv0:=hv
  simp only [aA] at hv0
  have hV:=hv0
  obtain ⟨A,cp,rfl,_⟩:=hv0
  have hrel:∀ z,A.isNone=z -> Rel c (zA z e t x.1 fn.ntmps) { tmps:=[Value.slice A (List.length x.1) cp].toArray++Array.replicate (fn.ntmps - [Value.slice A (List.length x.1) cp].toArray.size) undef,defers:=[] } c.w0 μ Nm:=fun z hz=>by
   have hle:=Nat.le_of_ble_eq_true hps
   refine ⟨?_,hnp.symm,hent.pins,rfl,⟨rfl,rfl,rfl,Nat.le_refl _,fun _ _ _=>rfl⟩,(fun n o hn=>by cases hn),(fun n o hn=>by cases hn),(fun n n' o o' hn=>by cases hn),fun y=>?_⟩
   ·show ([Value.slice A (List.length x.1) cp].toArray++Array.replicate (fn.ntmps - [Value.slice A (List.length x.1) cp].toArray.size) undef).size=fn.ntmps
    simp;omega
   ·refine jV (fun y=>([Value.slice A (List.length x.1) cp].toArray++Array.replicate (fn.ntmps - [Value.slice A (List.length x.1) cp].toArray.size) undef).getD y undef) _ [Value.slice A (List.length x.1) cp] 0 ?_ (fun j hj=>?_) y
    ·simp only [VRels,aA,and_true]
     refine ⟨Kd.dQ hV (fun k hk=>⟨hk.1,fun n o hn=>by cases hn⟩),A,_,_,rfl,hz⟩
    ·simp only [Nat.zero_add]
     rw [Array.getD_eq_getD_getElem?,Array.getElem?_append_left (by simpa using hj)]
     simp [List.getD_eq_getElem?_getD]
  have hno:∀ n,Nm n -> n<0:=fun n hn=>hent.bound n hn
  cases hz:A.isNone with
  | true =>
   have hA:A=none:=by cases A <;> first | rfl | cases hz
   subst hA
   have hnil:=Kt hV
   have:=qO hE wW (nK C _ _ _ _ (hj k)).1 (h1 k x.1) hent.np rfl (hrel true rfl) hno
   rw [hnil]
   rw [hnil] at this
   exact this
  | false =>
   have h3:=h2 k x.1
   rw [lY] at hlim
   rw [if_pos (by rw [Nat.zero_add];exact hlim)] at h3
   exact qO hE wW (nK C _ _ _ _ (hj k)).1 h3 hent.np rfl (hrel false hz) hno
end
end Go.Proofs.YtmmagcjlfcicfaaGreat.Ab
