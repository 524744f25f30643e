import Derived.Test.YtmmagcjlfcicfaaGreatPbB
/- The evaluator. -/
set_option linter.unusedVariables false
set_option linter.unusedSimpArgs false
namespace Go.Proofs.YtmmagcjlfcicfaaGreat.Ab
open Go.RowKit
theorem Dv {P:Program} (w:World) (dT sT ty elem:TypeId) (b o dLen dCap:Nat) (a:Addr) (sLen sCap:Nat) (cs:List Value) (i:TypeInfo)
  (hu:P.underlying dT=some (.slice elem)) (hi:P.info? elem=some i) (hn:cs.length=Nat.min sLen dLen * i.size)
  (hsrc:∀ j v,cs[j]? = some v -> w.cell? (a.add j)=some v) (hc:∀ j,j<cs.length -> (w.cell? ⟨b,o+j,none⟩).isSome=true) (hf:∀ j,j<cs.length -> w.frozen? ⟨b,o+j,none⟩=false) (h1:∀ v∈cs,v.oneCell'=true) :
  (Builtin.copy_ #[dT,sT] ty #[.slice (some ⟨b,o,none⟩) dLen dCap,.slice (some a) sLen sCap]).run P w=.ok (goInt (Nat.min sLen dLen)) (w.setCells b o cs):=by
 have hl:=run_loadCells_list (P:=P) w a cs hsrc
 have hst:=run_storeCells_cells (P:=P) b o cs 0 w (by simpa using hc) (by simpa using hf) h1
 simp [Builtin.copy_,run_underlying hu,Builtin.lenOf,Builtin.firstCells,sizeOf,typeInfo,hi,<- hn,hl,hst]
theorem kI {P:Program} {w:World} {dT sT ty elem:TypeId} {g o dLen dCap g2 o2 sLen sCap:Nat} {cur xG:Array Value} {t t2:TypeId} {i:TypeInfo} {cs:List Value}
  (hu:P.underlying dT=some (.slice elem)) (hi:P.info? elem=some i) (hg:w.heap[g]? = some (.cells cur t (0,0))) (hg2:w.heap[g2]? = some (.cells xG t2 (0,0)))
  (hn:cs.length=Nat.min sLen dLen * i.size) (hcs:∀ j v,cs[j]? = some v -> xG.toList[o2+j]? = some v) (hfit:o+cs.length <= cur.size) (h1:∀ v∈cs,v.oneCell'=true) :
  (Builtin.copy_ #[dT,sT] ty #[.slice (some ⟨g,o,none⟩) dLen dCap,.slice (some ⟨g2,o2,none⟩) sLen sCap]).run P w=.ok (goInt (Nat.min sLen dLen)) (w.setCells g o cs) :=
 Dv w dT sT ty elem g o dLen dCap ⟨g2,o2,none⟩ sLen sCap cs i hu hi hn (fun j v hj=>by
  rw [Addr.add_lit,cell_of_row w g2 _ xG t2 (0,0) hg2];simpa using hcs j v hj) (fun j hj=>by
  rw [cell_of_row w g _ cur t (0,0) hg,Array.getElem?_eq_getElem (by omega)];rfl) (fun j _=>Kd.fQ hg _) h1
theorem Ah {P:Program} {w:World} {o:Oper} {a:Act} {K:Act -> World -> Prop} {Q:Exit -> Act -> World -> Prop} {d s:Operand} {t t':TypeId}
  (ho:o.op=.call { callee:=.builtin .copy,args:=#[d,s],argTypes:=#[t,t'] }) (v u:Value) (hd:a.eval d=v) (hs:a.eval s=u) {v':Value} {w':World}
  (hr:(Builtin.copy_ #[t,t'] o.type #[v,u]).run P w=.ok v' w') (h:K (a.put o.dst v') w'):o.wp P a w K Q:=by
 unfold Oper.wp execOp
 simp only [ho,resolve,invoke,builtin,Sem.run_bind,Sem.run_pure,Result.andThen_ok,List.map_toArray,List.map_cons,List.map_nil,hd,hs,hr]
 exact h
theorem Jj {P:Program} {w:World} {ops:Array Oper} {rest:List Oper} {o:Oper} {a:Act} {Q:Exit -> Act -> World -> Prop} (hgd:o.guard=none) {d s:Operand} {t t':TypeId}
  (ho:o.op=.call { callee:=.builtin .copy,args:=#[d,s],argTypes:=#[t,t'] }) (v u:Value) (hd:a.eval d=v) (hs:a.eval s=u) {v':Value} {w':World}
  (hr:(Builtin.copy_ #[t,t'] o.type #[v,u]).run P w=.ok v' w') (h:wpList P ops Q rest (a.put o.dst v') w'):wpList P ops Q (o::rest) a w :=
 wpList_plain hgd fun _ hK=>Ah ho v u hd hs hr (hK _ _ h)
theorem Jk {P:Program} {w:World} {ops:Array Oper} {o:Oper} {a:Act} {K:Act -> World -> Prop} {Q:Exit -> Act -> World -> Prop} {E:Prop} (hg:o.guard=none) {d s:Operand} {t t':TypeId}
  (ho:o.op=.call { callee:=.builtin .copy,args:=#[d,s],argTypes:=#[t,t'] }) (v u:Value) (hd:a.eval d=v) (hs:a.eval s=u) {v':Value} {w':World}
  (hr:(Builtin.copy_ #[t,t'] o.type #[v,u]).run P w=.ok v' w') (h:K (a.put o.dst v') w'):if Region.wanted o (yielded ops a.tmps)=true then Oper.wp P o a w K Q else E:=by
 rw [if_pos (by simp [Region.wanted,hg])]
 exact Ah ho v u hd hs hr h
theorem Gt {P:Program} {w:World} {ops:Array Oper} {rest:List Oper} {o:Oper} {a:Act} {Q:Exit -> Act -> World -> Prop} (hgd:o.guard=none) {d s:Operand} {t t':TypeId}
  (ho:o.op=.call { callee:=.builtin .append,args:=#[d,s],argTypes:=#[t,t'] }) (v u:Value) (hd:a.eval d=v) (hs:a.eval s=u) {v':Value} {w':World}
  (hr:(Builtin.append_ #[t,t'] o.type #[v,u]).run P w=.ok v' w') (h:wpList P ops Q rest (a.put o.dst v') w'):wpList P ops Q (o::rest) a w :=
 wpList_plain hgd fun _ hK=>by
  unfold Oper.wp execOp
  simp only [ho,resolve,invoke,builtin,Sem.run_bind,Sem.run_pure,Result.andThen_ok,List.map_toArray,List.map_cons,List.map_nil,hd,hs,hr]
  exact hK _ _ h
theorem Bd {P:Program} (w:World) (t ti ty e:TypeId) (i:TypeInfo) (z:Value) (k:IntKind) (ht:P.underlying t=some (.slice e)) (hti:P.underlying ti=some (.int k)) (hi:P.info? e=some i) (hz:i.zero=some z) (hb0:0<i.bytes) (hs0:0<i.size)
  (g q c m:Nat) (cur:Array Value) (t2:TypeId) (hg:w.heap[g]? = some (.cells cur t2 (0,0))) (hq:q * i.size <= cur.size) (hroom:c<q+m) (hbig:(q+m) * i.bytes <= 140737488355328) (hm0:0<m) :
  (Builtin.append_ #[t,ti] ty #[.slice (some ⟨g,0,none⟩) q c,.int .i64 (m:Int)]).run P w =
   .ok (.slice (some ⟨w.heap.size,0,none⟩) (q+m) (grownCap w (q+m) c e)) (w.drew.alloc (.cells ((cur.toList.take (q * i.size)).toArray++Builtin.zeroCells z.cells m++Builtin.zeroCells z.cells (grownCap w (q+m) c e - (q+m))) e)):=by
 have hle:q+m <= 140737488355328:=Nat.le_trans (Nat.le_mul_of_pos_right _ hb0) hbig
 have hmb:m * i.bytes <= 140737488355328:=Nat.le_trans (Nat.mul_le_mul_right _ (Nat.le_add_left m q)) hbig
 have hold:(Builtin.firstCells i.size q (.slice (some ⟨g,0,none⟩) q c)).run P w.drew=.ok (cur.toList.take (q * i.size)).toArray w.drew :=
  run_firstCells_some w.drew i.size q _ q c _ (by rw [List.length_take,Array.length_toList];omega) (fun j v hj=>by
   rw [Addr.add_lit,cell_of_row w.drew g _ cur t2 (0,0) hg]
   rw [List.getElem?_take] at hj
   split at hj
   ·simpa using hj
   ·cases hj)
 have hfit:=growslice_fits hroom hbig
 have a1:IntKind.i64.wrap (m:Int)=m:=by rw [IntKind.wrap_i64];omega
 have a2:¬ (9223372036854775807<((q:Int)+(m:Int))):=by omega
 have a3:¬ (281474976710656<Builtin.nextslicecap (q+m) c * i.bytes):=by omega
 have a4:¬ (281474976710656<(m:Int) * (i.bytes:Int)):=by rw [<- Int.natCast_mul];omega
 have a5:¬ ((m:Int)<0):=by omega
 have a6:m≠0:=by omega
 have a7:m * i.size≠0:=Nat.mul_ne_zero a6 (by omega)
 have a8:¬ (q+m <= c):=by omega
 simp [Builtin.append_,run_underlying ht,run_underlying hti,sizeOf,typeInfo,zeroValue,hi,hz,asInt,asIntOf,a1,a2,a3,a4,a5,a6,a7,a8,Question.forced,hold,newRow,grownCap]
def xH (w:World) (e sz:Nat) (v:Value) (n m i:Nat) (cs vs:List Value) (r:Ending) (w':World):Prop :=
 ∃ v',r=.returned v' /\ w'.ownsRow 0 e sz v' (n+m) (cs.take (i * sz)++vs++cs.drop (i * sz)) /\ w.grownBy w' v.ownBlock /\ (v'.ownBlock=v.ownBlock \/ v'.ownBlock=some w.heap.size)
theorem jA {w w1 w2:World} {r:Option Nat} (h:w.grownBy w1 r) (h':w1.grownBy w2 r):w.grownBy w2 r:=⟨h'.os.trans h.os,h'.tape.trans h.tape,h'.output.trans h.output,Nat.le_trans h.size h'.size,fun k hk hr=>(h'.block k (Nat.lt_of_lt_of_le hk h.size) hr).trans (h.block k hk hr)⟩
theorem tT (w:World) (r:Option Nat):w.grownBy w.drew r:=⟨rfl,rfl,rfl,Nat.le_refl _,fun _ _ _=>rfl⟩
theorem Bf {w:World} {g n m i c sz:Nat} {e:TypeId} {cur:Array Value} {cs vs:List Value} (hg:w.heap[g]? = some (.cells cur e (0,0))) (hn:cs.length=n * sz) (ht:cur.toList.take (n * sz)=cs) (hs:cur.size=c * sz) (hv:vs.length=m * sz) (hi:i <= n) (hr:n+m <= c) (hc:c <= maxLen) :
  xH w e sz (.slice (some ⟨g,0,none⟩) n c) n m i cs vs (.returned (.slice (some ⟨g,0,none⟩) (n+m) c)) ((w.drew.setCells g ((i+m) * sz) (cs.drop (i * sz))).setCells g (i * sz) vs):=by
 have e1:i * sz <= n * sz:=Nat.mul_le_mul_right _ hi
 have e2:(n+m) * sz <= c * sz:=Nat.mul_le_mul_right _ hr
 rw [Nat.add_mul] at e2
 have e3:(i+m) * sz=i * sz+m * sz:=Nat.add_mul _ _ _
 obtain ⟨c1,h1,h2⟩:=Kd.dN (cs.drop (i * sz)) ((i+m) * sz) w.drew cur hg (by rw [List.length_drop];omega)
 have l1:c1.size=c * sz:=by rw [<- Array.length_toList,h2];simp only [List.length_append,List.length_take,List.length_drop,Array.length_toList];omega
 obtain ⟨c2,h3,h4⟩:=Kd.dN vs (i * sz) _ c1 h1 (by omega)
 have l2:c2.size=c * sz:=by rw [<- Array.length_toList,h4];simp only [List.length_append,List.length_take,List.length_drop,Array.length_toList];omega
 refine ⟨_,rfl,⟨?_,.inr ⟨g,c,c2,rfl,Nat.zero_le _,h3,hr,hc,l2,?_⟩⟩,jA (tT w _) (jA (Kd.bM g _ _ _) (Kd.bM g _ _ _)),.inl rfl⟩
 ·simp only [List.length_append,List.length_take,List.length_drop];rw [Nat.add_mul];omega
 ·have f1:(cur.toList.take ((i+m) * sz)).length=(i+m) * sz:=by rw [List.length_take,Array.length_toList];omega
  have f2:(cur.toList.take (i * sz)).length=i * sz:=by rw [List.length_take,Array.length_toList];omega
  have g1:c1.toList.take (i * sz)=cs.take (i * sz):=by
   rw [h2,List.append_assoc,List.take_append_of_le_length (by omega),List.take_take,Nat.min_eq_left (by omega),<- ht,List.take_take,Nat.min_eq_left e1]
  have g2:(c1.toList.drop (i * sz+vs.length)).take (n * sz - i * sz)=cs.drop (i * sz):=by
   rw [h2,hv,<- e3,List.append_assoc,List.drop_left' f1,List.take_left' (by rw [List.length_drop];omega)]
  have g3:(c1.toList.take (i * sz)).length=i * sz:=by rw [List.length_take,Array.length_toList];omega
  rw [h4,show (n+m) * sz=(c1.toList.take (i * sz)++vs).length+(n * sz - i * sz) by rw [List.length_append,g3,hv,Nat.add_mul];omega,List.take_length_add_append,g2,g1]
theorem Ga {w:World} {n m i c sz k:Nat} {e:TypeId} {v:Value} {Z:Array Value} {cs vs:List Value} (hn:cs.length=n * sz) (hv:vs.length=m * sz) (hi:i <= n) (hr:n+m <= c) (hc:c <= maxLen) (hZ:Z.size=(c - i) * sz) :
  xH w e sz v n m i cs vs (.returned (.slice (some ⟨w.heap.size,0,none⟩) (n+m) c)) (((w.alloc (.cells ((cs.take (i * sz)).toArray++Z) e)).drew.setCells w.heap.size (i * sz) vs).drew.setCells w.heap.size ((i+m) * sz) (cs.drop (i * sz))):=by
 have e1:i * sz <= n * sz:=Nat.mul_le_mul_right _ hi
 have e2:(n+m) * sz <= c * sz:=Nat.mul_le_mul_right _ hr
 rw [Nat.add_mul] at e2
 have e3:(i+m) * sz=i * sz+m * sz:=Nat.add_mul _ _ _
 have e4:(c - i) * sz=c * sz - i * sz:=Nat.sub_mul _ _ _
 have hl:((cs.take (i * sz)).toArray++Z).size=c * sz:=by simp only [Array.size_append,List.size_toArray,List.length_take];omega
 have h0:(w.alloc (.cells ((cs.take (i * sz)).toArray++Z) e)).drew.heap[w.heap.size]? = some (.cells ((cs.take (i * sz)).toArray++Z) e (0,0)):=heap_alloc_new w _
 obtain ⟨c1,h1,h2⟩:=Kd.dN vs (i * sz) _ _ h0 (by omega)
 have l1:c1.size=c * sz:=by rw [<- Array.length_toList,h2];simp only [List.length_append,List.length_take,List.length_drop,Array.length_toList];omega
 obtain ⟨c2,h3,h4⟩:=Kd.dN (cs.drop (i * sz)) ((i+m) * sz) (((w.alloc (.cells ((cs.take (i * sz)).toArray++Z) e)).drew.setCells w.heap.size (i * sz) vs).drew) c1 h1 (by rw [List.length_drop];omega)
 have l2:c2.size=c * sz:=by rw [<- Array.length_toList,h4];simp only [List.length_append,List.length_take,List.length_drop,Array.length_toList];omega
 refine ⟨_,rfl,⟨?_,.inr ⟨w.heap.size,c,c2,rfl,Nat.zero_le _,h3,hr,hc,l2,?_⟩⟩,?_,.inr rfl⟩
 ·simp only [List.length_append,List.length_take,List.length_drop];rw [Nat.add_mul];omega
 ·have f1:((cs.take (i * sz)).toArray++Z).toList.take (i * sz)=cs.take (i * sz):=by rw [Array.toList_append,List.take_left' (by simp only [List.length_take];omega)]
  have g3:(cs.take (i * sz)).length=i * sz:=by rw [List.length_take];omega
  have g1:c1.toList.take ((i+m) * sz)=cs.take (i * sz)++vs:=by
   rw [h2,f1,List.take_left' (by rw [List.length_append,g3];omega)]
  rw [h4,g1,List.take_left' (by simp only [List.length_append,List.length_drop,g3];rw [Nat.add_mul];omega)]
 ·refine ⟨?_,?_,?_,?_,fun k hk _=>?_⟩
  all_goals have q1:=Kd.bM w.heap.size vs (i * sz) (w.alloc (.cells ((cs.take (i * sz)).toArray++Z) e)).drew
  all_goals have q2:=Kd.bM w.heap.size (cs.drop (i * sz)) ((i+m) * sz) (((w.alloc (.cells ((cs.take (i * sz)).toArray++Z) e)).drew.setCells w.heap.size (i * sz) vs).drew)
  ·exact q2.os.trans q1.os
  ·exact q2.tape.trans q1.tape
  ·exact q2.output.trans q1.output
  ·exact Nat.le_trans (Nat.le_trans (by simp) q1.size) q2.size
  ·have hne:some k≠some w.heap.size:=fun e=>by injection e;omega
   exact (q2.block k (Nat.lt_of_lt_of_le hk (Nat.le_trans (by simp) q1.size)) hne).trans ((q1.block k (by simp;omega) hne).trans (heap_alloc_old w _ hk))
theorem Dw {w:World} {n i sz:Nat} {e:TypeId} {v:Value} {cs vs:List Value} (h:w.ownsRow 0 e sz v n cs) (hv:vs.length=0 * sz):xH w e sz v n 0 i cs vs (.returned v) w:=by
 have:vs=[]:=List.eq_nil_of_length_eq_zero (by simpa using hv)
 subst this
 exact ⟨v,rfl,by rw [List.append_nil,List.take_append_drop];exact h,⟨rfl,rfl,rfl,Nat.le_refl _,fun _ _ _=>rfl⟩,.inl rfl⟩
def eG (e:TypeId) (t:Ty):List PT:=[.give e t,.val ⟨false,.int .i64,false⟩,.give e t]
def qV (e:TypeId) (t:Ty):List RT:=[.val ⟨false,.sl e t,true⟩]
def Jc (lK:Nat) (e:TypeId) (t:Ty) (_:Nat) (x:AD (eG e t)):Option (RD (qV e t)×MD (eG e t)) :=
 if (decide (0 <= x.2.1)&&(decide (x.2.1 <= (x.1.length:Int))&&decide ((x.1.length+x.2.2.1.length) * lK <= 140737488355328)))=true then some ((x.1.take x.2.1.toNat++x.2.2.1++x.1.drop x.2.1.toNat,()),()) else none
theorem aS.drop {α:Type} {R:α -> List Value -> Prop} {sz:Nat}:∀ {xs:List α} {cs:List Value} (m:Nat),aS R sz xs cs -> aS R sz (xs.drop m) (cs.drop (m * sz))
 | _,_,0,h=>by rw [Nat.zero_mul];exact h
 | [],_,m+1,h=>by rw [show _=[] from h];simp [aS]
 | x::xs,_,m+1,⟨c,r,e,h1,h2,h3⟩=>by
  rw [List.drop_succ_cons,e,show (m+1) * sz=c.length+m * sz by rw [Nat.add_mul];omega,<- List.drop_drop,List.drop_left]
  exact aS.drop m h3
theorem Py {P:Program} {f:FuncId} {fn:Func} {e:TypeId} {t:Ty} {lK:Nat} (hf:P.funcs[f]? = some fn) (hb:fn.body.isNone=false) (hname:(fn.name == "runtime.NumGoroutine")=false)
  (hw:∀ (w:World) (v u:Value) (n m i:Nat) (cs vs:List Value),w.ownsRow 0 e t.sz v n cs -> w.ownsRow 0 e t.sz u m vs -> (∀ k,v.ownBlock=some k -> u.ownBlock≠some k) -> (∀ x∈cs,x.oneCell'=true) -> (∀ x∈vs,x.oneCell'=true) -> i <= n -> (n+m) * lK <= 140737488355328 -> Calls P f #[v,.int .i64 i,u] w (xH w e t.sz v n m i cs vs)) :
  uP P f ⟨eG e t,qV e t,Jc lK e t⟩ where
 there:=⟨fn,hf,hname,hb⟩
 calls:=fun k x q hx c args μ Nm hent=>by
  obtain ⟨xs,i,ys,_⟩:=x
  have hx':(if (decide (0 <= i)&&(decide (i <= (xs.length:Int))&&decide ((xs.length+ys.length) * lK <= 140737488355328)))=true then some ((xs.take i.toNat++ys++xs.drop i.toNat,()),()) else none)=some q:=hx
  obtain ⟨hc,hq⟩:=dA hx'
  injection hq with hq
  subst hq
  simp only [Bool.and_eq_true,decide_eq_true_eq] at hc
  obtain ⟨hc0,hc1,hc2⟩:=hc
  have hnp:c.np=2:=hent.np
  have p0:=hent.pins 0 (by omega)
  have p1:=hent.pins 1 (by omega)
  have kR:=hent.vals
  have Dm:args=[μ 0,.int .i64 i,μ 1]:=by
   match args,kR with
   | [a0,a1,a2],h =>
    simp only [eG,inP,VRels,aA,aG,bQ,unpack,oJ,and_true] at h
    rw [h.1.2.1,h.2.1,h.2.2.2.1]
  subst Dm
  have m0:aB (fun _=>none) (inP (eG e t) (xs,i,ys,()) 0 (aG (eG e t))).2.1 0=some (.row true e t xs):=rfl
  have m1:aB (fun _=>none) (inP (eG e t) (xs,i,ys,()) 0 (aG (eG e t))).2.1 1=some (.row true e t ys):=rfl
  have o0:=hent.objs 0 _ m0
  have o1:=hent.objs 1 _ m1
  simp only [aF] at o0 o1
  obtain ⟨⟨_,cs,hcs,hrc⟩,hX⟩:=o0
  obtain ⟨⟨_,vs,hvs,Pz⟩,_⟩:=o1
  rw [aW] at hcs hvs hrc Pz
  have hdist:=hent.dist 0 1 _ _ m0 m1 rfl rfl (by omega)
  have hblk:∀ {n:Nat} {zs:List t.D} {ds:List Value},c.w0.ownsRow 0 e t.sz (μ n) zs.length ds -> ∀ k,(μ n).ownBlock=some k -> blk (μ n)=some k:=fun h k hk=>by
   rcases h.2 with ⟨q,_⟩ | ⟨g,cap,cur,q,_⟩
   ·rw [q] at hk;cases hk
   ·rw [q] at hk ⊢;exact hk
  have hblk':∀ {n:Nat} {zs:List t.D} {ds:List Value},c.w0.ownsRow 0 e t.sz (μ n) zs.length ds -> ∀ k,blk (μ n)=some k -> (μ n).ownBlock=some k:=fun h k hk=>by
   rcases h.2 with ⟨q,_⟩ | ⟨g,cap,cur,q,_⟩
   ·rw [q] at hk;cases hk
   ·rw [q] at hk ⊢;exact hk
  obtain ⟨j,rfl⟩:=Int.eq_ofNat_of_zero_le hc0
  simp only [Int.toNat_natCast]
  have hj:j <= xs.length:=by
   have h:(j:Int) <= (List.length xs:Int):=hc1
   omega
  refine Calls.mono (hw c.w0 (μ 0) (μ 1) xs.length ys.length j cs vs hcs hvs (fun k hk hk1=>hdist k (hblk hcs k hk) (hblk hvs k hk1)) (hrc.one (fun _ _ q=>t.kd.one q)) (Pz.one (fun _ _ q=>t.kd.one q)) hj hc2) fun r w' hr=>?_
  obtain ⟨v',rfl,ho,hg,hat⟩:=hr
  refine ⟨v',rfl,⟨hg.os,hg.tape,hg.output,hg.size,fun k hk Ji=>hg.block k hk (fun e=>?_)⟩,?_⟩
  ·rcases hX k e.symm with h | h
   ·exact absurd hk (by show ¬ k<c.w0.heap.size;have:c.w0.heap.size <= k:=h;omega)
   ·exact Ji h
  intro b pn hpn hinj
  have hb0:pn 0≠b:=fun h=>hpn 0 (by omega) (by rw [h];exact ⟨Nat.le_refl _,Nat.lt_succ_self _⟩)
  have hb1:pn 1≠b:=fun h=>hpn 1 (by omega) (by rw [h];exact ⟨Nat.le_refl _,Nat.lt_succ_self _⟩)
  have h01:pn 0≠pn 1:=fun h=>by have:=hinj 0 1 (by omega) (by omega) h;omega
  let μ':Nat -> Value:=fun n=>if n=b then v' else if n=pn 0 then μ 0 else if n=pn 1 then μ 1 else undef
  have mb:μ' b=v':=by simp [μ']
  have hup:∀ n o,aB (fun _=>none) (bW (eG e t) (qV e t) ((xs.take j++ys++xs.drop j,()),()) pn b) n=some o -> n=b /\ o=.row true e t (xs.take j++ys++xs.drop j):=fun n o h=>by
   simp only [bW,eG,qV,bR,bN,bO,aB,List.append_nil,List.cons_append,List.nil_append,aC] at h
   split at h
   ·cases h
   ·split at h
    ·cases h
    ·split at h
     ·rename_i e3;injection h with h;exact ⟨e3.symm,h.symm⟩
     ·cases h
  refine ⟨μ',fun n=>n=b \/ n=pn 0 \/ n=pn 1,⟨fun n=>?_,fun j' hj'=>?_,fun n o hn=>?_,fun n n' o o' hn hn' hne=>absurd ((hup n o hn).1.trans (hup n' o' hn').1.symm) hne,?_⟩⟩
  ·show (n=b \/ n=pn 0 \/ n=pn 1)↔(b <= n /\ n<b+1) \/ ∃ j,j<c.np /\ n=pn j
   constructor
   ·rintro (h | h | h)
    ·exact .inl (by omega)
    ·exact .inr ⟨0,by omega,h⟩
    ·exact .inr ⟨1,by omega,h⟩
   ·rintro (h | ⟨j,h1,h2⟩)
    ·exact .inl (by omega)
    ·have:j=0 \/ j=1:=by omega
     rcases this with e | e <;> subst e
     ·exact .inr (.inl h2)
     ·exact .inr (.inr h2)
  ·have:j'=0 \/ j'=1:=by omega
   rcases this with e | e <;> subst e
   ·simp [μ',hb0];exact p0.2
   ·simp [μ',hb1,Ne.symm h01];exact p1.2
  ·obtain ⟨rfl,rfl⟩:=hup n o hn
   refine ⟨.inl rfl,rfl,?_⟩
   simp only [aF]
   rw [mb]
   have hfe:(aY (qV e t)&&aO (eG e t))=t.flat:=by simp [aY,aO,qV,eG,Ty.flat,fJ]
   rw [hfe]
   have hbv:∀ k,blk v'=some k -> v'.ownBlock=some k:=fun k hk=>by
    rcases ho.2 with ⟨q,_⟩ | ⟨g,cap,cur,q,_⟩
    ·rw [q] at hk;cases hk
    ·rw [q] at hk ⊢;exact hk
   have nv:∀ k,k<c.w0.heap.size -> some k≠(μ 0).ownBlock -> v'.ownBlock≠some k:=fun k hk hne h=>by
    rcases hat with q | q <;> rw [q] at h
    ·exact hne h.symm
    ·injection h with h;omega
   have key:∀ {Mh:Nat -> Prop},(∀ k,Mh k -> k<c.w0.heap.size -> aD c μ (aB (fun _=>none) (inP (eG e t) (xs,(j:Int),ys,()) 0 (aG (eG e t))).2.1) k /\ some k≠(μ 0).ownBlock) -> ∀ x cc,t.kd.FK c.w0 Mh x cc -> t.kd.FK w' (fun k=>(aD (kN t.flat c) μ' (aB (fun _=>none) (bW (eG e t) (qV e t) ((xs.take j++ys++xs.drop j,()),()) pn n)) k \/ some k=v'.ownBlock) /\ some k≠v'.ownBlock) x cc:=fun hok x cc hx=>by
    cases hfl:t.flat with
    | true=>exact gL t hfl _ _ hx
    | false =>
     refine t.kd.stay (fun k hk hl=>?_) hx
     obtain ⟨h1,h2⟩:=hok k hk hl
     refine ⟨hg.block k hl h2,.inl ⟨h1.1,fun n' o' hn' hl'=>?_⟩,fun e=>nv k hl h2 e.symm⟩
     rw [(hup n' o' hn').1,mb]
     exact fun e=>nv k hl h2 (hbv k e)
   refine ⟨⟨fun k hk=>.inr hk.symm,_,by rw [aW,List.length_append,List.length_append,List.length_take,List.length_drop,show min j xs.length+ys.length+(xs.length - j)=xs.length+ys.length by omega];exact ho,?_⟩,fun k hk=>?_⟩
   ·rw [aW]
    have k0:=key (Mh:=fun k=>(aD c μ (aB (fun _=>none) (inP (eG e t) (xs,(j:Int),ys,()) 0 (aG (eG e t))).2.1) k \/ some k=(μ 0).ownBlock) /\ some k≠(μ 0).ownBlock) (fun k hk _=>⟨hk.1.resolve_right hk.2,hk.2⟩)
    have k1:=key (Mh:=fun k=>(aD c μ (aB (fun _=>none) (inP (eG e t) (xs,(j:Int),ys,()) 0 (aG (eG e t))).2.1) k \/ some k=(μ 1).ownBlock) /\ some k≠(μ 1).ownBlock) (fun k hk _=>⟨hk.1.resolve_right hk.2,fun e=>(hk.1.resolve_right hk.2).2 0 _ m0 rfl (hblk hcs k e.symm)⟩)
    exact (((hrc.imp k0).take j).app (Pz.imp k1)).app ((hrc.imp k0).drop j)
   ·rcases hat with q | q <;> rw [q] at hk
    ·exact hX k hk
    ·injection hk with hk;exact .inl (by show c.w0.heap.size <= k;omega)
  ·show aA _ _ _ _ (.own b) v'
   simp only [aA]
   refine ⟨.inl trivial,mb.symm,?_⟩
   rcases ho.2 with ⟨q,_⟩ | ⟨g,cap,cur,q,_⟩ <;> rw [q] <;> rfl
theorem Mi {P:Program} {f:FuncId} {S e sz:Nat} {i0:TypeInfo} {z:Value} (ht:P.underlying S=some (.slice e)) (hti:P.underlying 3=some (.int .i64)) (hi0:P.info? e=some i0) (hz0:i0.zero=some z) (hsz:i0.size=sz) (hzz:z.cells.size=sz) (hs:0<sz) (hb:0<i0.bytes)
  (r0:∀ (w:World) (i m:Nat) (v u:Value),(∃ A n c,v=.slice A n c /\ i <= n) -> (∃ A c,u=.slice A m c) -> m=0 -> Calls P f #[v,.int .i64 i,u] w fun e w'=>e=.returned v /\ w'=w)
  (r1:∀ (w:World) (n g2 m c2:Nat) (v v':Value) (w':World),(∃ A c,v=.slice A n c) -> 0<m -> (∀ ty,(Builtin.append_ #[S,S] ty #[v,.slice (some ⟨g2,0,none⟩) m c2]).run P w=.ok v' w') -> Calls P f #[v,.int .i64 n,.slice (some ⟨g2,0,none⟩) m c2] w fun e w1=>e=.returned v' /\ w1=w')
  (r2:∀ (w:World) (g n c i g2 m c2:Nat) (v' v'':Value) (w' w'':World),i<n -> 0<m -> n+m <= c -> c <= 9223372036854775807 -> (∀ ty dc sc,(Builtin.copy_ #[S,S] ty #[.slice (some ⟨g,(i+m) * sz,none⟩) (n+m - (i+m)) dc,.slice (some ⟨g,i * sz,none⟩) (n+m - i) sc]).run P w.drew=.ok v' w') ->
   (∀ ty dc,(Builtin.copy_ #[S,S] ty #[.slice (some ⟨g,i * sz,none⟩) (n+m - i) dc,.slice (some ⟨g2,0,none⟩) m c2]).run P w'=.ok v'' w'') -> g2≠g -> (∃ cur,w.heap[g]? = some (.cells cur e (0,0)) /\ cur.size≠0) -> (∃ cur,w.heap[g2]? = some (.cells cur e (0,0))) -> Calls P f #[.slice (some ⟨g,0,none⟩) n c,.int .i64 i,.slice (some ⟨g2,0,none⟩) m c2] w fun e w1=>e=.returned (.slice (some ⟨g,0,none⟩) (n+m) c) /\ w1=w'')
  (r3:∀ (w:World) (g n c i g2 m c2 h G:Nat) (v' v'':Value) (w0 w' w'':World),i<n -> 0<m -> n <= c -> c<n+m -> n+m <= 140737488355328 -> n+m <= G -> G <= 9223372036854775807 -> (∀ ty,(Builtin.append_ #[S,3] ty #[.slice (some ⟨g,0,none⟩) i c,.int .i64 ((n:Int)+(m:Int) - (i:Int))]).run P w=.ok (.slice (some ⟨h,0,none⟩) (n+m) G) w0) ->
   (∀ ty dc,(Builtin.copy_ #[S,S] ty #[.slice (some ⟨h,i * sz,none⟩) (n+m - i) dc,.slice (some ⟨g2,0,none⟩) m c2]).run P w0=.ok v' w') -> (∀ ty dc sc,(Builtin.copy_ #[S,S] ty #[.slice (some ⟨h,(i+m) * sz,none⟩) (n+m - (i+m)) dc,.slice (some ⟨g,i * sz,none⟩) (n - i) sc]).run P w'.drew=.ok v'' w'') -> Calls P f #[.slice (some ⟨g,0,none⟩) n c,.int .i64 i,.slice (some ⟨g2,0,none⟩) m c2] w fun e w1=>e=.returned (.slice (some ⟨h,0,none⟩) (n+m) G) /\ w1=w'')
  (w:World) (v u:Value) (n m i:Nat) (cs vs:List Value) (hv:w.ownsRow 0 e sz v n cs) (hu:w.ownsRow 0 e sz u m vs) (hne:∀ k,v.ownBlock=some k -> u.ownBlock≠some k) (h1:∀ x∈cs,x.oneCell'=true) (h2:∀ x∈vs,x.oneCell'=true) (hi:i <= n) (hl:(n+m) * i0.bytes <= 140737488355328):Calls P f #[v,.int .i64 i,u] w (xH w e sz v n m i cs vs):=by
 subst hsz
 have hle:n+m <= 140737488355328:=Nat.le_trans (Nat.le_mul_of_pos_right _ hb) hl
 have sl:∀ {v:Value} {n:Nat} {cs:List Value},w.ownsRow 0 e i0.size v n cs -> ∃ A c,v=.slice A n c:=fun h=>by
  rcases h.2 with ⟨q,h0⟩ | ⟨g,cap,cur,q,_⟩
  ·exact ⟨none,0,by rw [q,h0]⟩
  ·exact ⟨_,_,q⟩
 rcases Nat.eq_zero_or_pos m with hm | hm
 ·obtain ⟨A,c,q⟩:=sl hv
  refine Calls.mono (r0 w i m v u ⟨A,n,c,q,hi⟩ (sl hu) hm) fun r w' ⟨e1,e2⟩=>?_
  subst e1;subst e2;subst hm
  exact Dw hv hu.1
 ·rcases hu.2 with ⟨_,q⟩ | ⟨g2,c2,xG,rfl,_,hg2,hmc,_,hs2,ht2⟩
  ·omega
  have hvl:=hu.1
  have hcl:=hv.1
  have hm2:m * i0.size <= c2 * i0.size:=Nat.mul_le_mul_right _ hmc
  have Jd:∀ j x,vs[j]? = some x -> xG.toList[0+j]? = some x:=fun j x hj=>by
   rw [<- ht2,List.getElem?_take] at hj
   split at hj
   ·rw [Nat.zero_add];exact hj
   ·cases hj
  by_cases hin:i=n
  ·subst hin
   obtain ⟨v1,w1,hr,ho,hg,_,hat⟩:=run_append_own_at (P:=P) w 0 S S e i0 z i0.size i0.bytes ht hi0 hz0 rfl rfl hzz hs v i cs hv ⟨g2,0,none⟩ m c2 vs hvl (fun j x hj=>by
    rw [Addr.add_lit,cell_of_row w g2 _ xG e (0,0) hg2];simpa using Jd j x hj) h2 (by simp only [maxLen];omega) hl (Nat.zero_le _)
   refine Calls.mono (r1 w i g2 m c2 v v1 w1 (sl hv) hm (fun ty=>hr)) fun r w' ⟨e1,e2⟩=>?_
   subst e1;subst e2
   exact ⟨v1,rfl,by rw [<- hcl,List.take_length,List.drop_length,List.append_nil];exact ho,hg,hat⟩
  ·have hlt:i<n:=by omega
   rcases hv.2 with ⟨_,q⟩ | ⟨g,c,cur,rfl,_,hg,hnc,hcm,hs1,ht1⟩
   ·omega
   have hgg:g2≠g:=fun e=>hne g rfl (by rw [e];rfl)
   have e1:i * i0.size <= n * i0.size:=Nat.mul_le_mul_right _ hi
   have e2:n * i0.size <= c * i0.size:=Nat.mul_le_mul_right _ hnc
   have e3:(i+m) * i0.size=i * i0.size+m * i0.size:=Nat.add_mul _ _ _
   have hdl:(cs.drop (i * i0.size)).length=(n - i) * i0.size:=by rw [List.length_drop,hcl,Nat.sub_mul]
   have Lh:Nat.min (n+m - i) (n+m - (i+m))=n - i:=by simp only [Nat.min_def];split <;> omega
   have Gu:Nat.min m (n+m - i)=m:=by simp only [Nat.min_def];split <;> omega
   have hmin3:Nat.min (n - i) (n+m - (i+m))=n - i:=by simp only [Nat.min_def];split <;> omega
   have Li:∀ j x,(cs.drop (i * i0.size))[j]? = some x -> cur.toList[i * i0.size+j]? = some x:=fun j x hj=>by
    rw [List.getElem?_drop,<- ht1,List.getElem?_take] at hj
    split at hj
    ·exact hj
    ·cases hj
   have hd1:∀ x∈cs.drop (i * i0.size),x.oneCell'=true:=fun x hx=>h1 x (List.mem_of_mem_drop hx)
   simp only [maxLen] at hcm
   by_cases hroom:n+m <= c
   ·have e4:(n+m) * i0.size <= c * i0.size:=Nat.mul_le_mul_right _ hroom
    rw [Nat.add_mul] at e4
    obtain ⟨cur',s1,s2⟩:=Kd.dN (cs.drop (i * i0.size)) ((i+m) * i0.size) w.drew cur hg (by rw [List.length_drop];omega)
    have l1:cur'.size=c * i0.size:=by rw [<- Array.length_toList,s2];simp only [List.length_append,List.length_take,List.length_drop,Array.length_toList];omega
    have Qa:(w.drew.setCells g ((i+m) * i0.size) (cs.drop (i * i0.size))).heap[g2]? = some (.cells xG e (0,0)):=((Kd.bM g _ _ w.drew).block g2 (Array.getElem?_eq_some_iff.1 hg2).1 (fun e=>hgg (by injection e))).trans hg2
    refine Calls.mono (r2 w g n c i g2 m c2 _ _ _ _ hlt hm hroom (by omega) (fun ty dc sc=>kI (cs:=cs.drop (i * i0.size)) ht hi0 (show w.drew.heap[g]? = _ from hg) (show w.drew.heap[g]? = _ from hg) (by rw [Lh,hdl]) Li (by rw [List.length_drop];omega) hd1)
     (fun ty dc=>kI (cs:=vs) ht hi0 s1 Qa (by rw [Gu,hvl]) Jd (by omega) h2) hgg ⟨cur,hg,by have:=Nat.mul_pos (show 0<c by omega) hs;omega⟩ ⟨xG,hg2⟩) fun r w' ⟨e1,e2⟩=>?_
    subst e1;subst e2
    exact Bf hg hcl ht1 hs1 hvl hi hroom (by simp only [maxLen];omega)
   ·have hkk:(n:Int)+(m:Int) - (i:Int)=((n+m - i:Nat):Int):=by omega
    have hik:i+(n+m - i)=n+m:=by omega
    have hz:=Bd w S 3 0 e i0 z .i64 ht hti hi0 hz0 hb hs g i c (n+m - i) cur e hg (by omega) (by omega) (by rw [hik];exact hl) (by omega)
    rw [hik] at hz
    have hge:=grownCap_ge w (n+m) c e
    have hgm:grownCap w (n+m) c e <= maxLen:=grownCap_le_maxLen w (n+m) c e (by simp only [maxLen];omega)
    have htk:cur.toList.take (i * i0.size)=cs.take (i * i0.size):=by rw [<- ht1,List.take_take,Nat.min_eq_left e1]
    rw [htk,Array.append_assoc] at hz
    obtain ⟨Z,hZ⟩:∃ Z,Z=Builtin.zeroCells z.cells (n+m - i)++Builtin.zeroCells z.cells (grownCap w (n+m) c e - (n+m)):=⟨_,rfl⟩
    rw [<- hZ] at hz
    have hZs:Z.size=(grownCap w (n+m) c e - i) * i0.size:=by rw [hZ,Array.size_append,size_zeroCells,size_zeroCells,hzz,<- Nat.add_mul];congr 1;omega
    have e5:(n+m) * i0.size <= grownCap w (n+m) c e * i0.size:=Nat.mul_le_mul_right _ hge
    rw [Nat.add_mul] at e5
    have e6:(grownCap w (n+m) c e - i) * i0.size=grownCap w (n+m) c e * i0.size - i * i0.size:=Nat.sub_mul _ _ _
    have hRl:((cs.take (i * i0.size)).toArray++Z).size=grownCap w (n+m) c e * i0.size:=by simp only [Array.size_append,List.size_toArray,List.length_take];omega
    have hN:(w.drew.alloc (.cells ((cs.take (i * i0.size)).toArray++Z) e)).heap[w.heap.size]? = some (.cells ((cs.take (i * i0.size)).toArray++Z) e (0,0)):=heap_alloc_new w.drew _
    have hO:∀ k,k<w.heap.size -> (w.drew.alloc (.cells ((cs.take (i * i0.size)).toArray++Z) e)).heap[k]? = w.heap[k]? := fun k hk=>heap_alloc_old w.drew _ hk
    have Qb:=(Array.getElem?_eq_some_iff.1 hg2).1
    have hgs:=(Array.getElem?_eq_some_iff.1 hg).1
    obtain ⟨cur',s1,s2⟩:=Kd.dN vs (i * i0.size) _ _ hN (by omega)
    have l1:cur'.size=grownCap w (n+m) c e * i0.size:=by rw [<- Array.length_toList,s2];simp only [List.length_append,List.length_take,List.length_drop,Array.length_toList];omega
    have hg':((w.drew.alloc (.cells ((cs.take (i * i0.size)).toArray++Z) e)).setCells w.heap.size (i * i0.size) vs).drew.heap[g]? = some (.cells cur e (0,0)):=((Kd.bM w.heap.size _ _ _).block g (by simp;omega) (fun e=>by injection e;omega)).trans ((hO g hgs).trans hg)
    refine Calls.mono (r3 w g n c i g2 m c2 w.heap.size (grownCap w (n+m) c e) _ _ _ _ _ hlt hm hnc (by omega) hle hge (by simp only [maxLen] at hgm;omega) (fun ty=>by rw [hkk];exact hz)
     (fun ty dc=>kI (cs:=vs) ht hi0 hN ((hO g2 Qb).trans hg2) (by rw [Gu,hvl]) Jd (by omega) h2) (fun ty dc sc=>kI (cs:=cs.drop (i * i0.size)) ht hi0 (show _=_ from s1) hg' (by rw [hmin3,hdl]) Li (by rw [List.length_drop];omega) hd1)) fun r w' ⟨e1,e2⟩=>?_
    subst e1;subst e2
    exact Ga (Z:=Z) (k:=0) hcl hvl hi hge hgm hZs
end Go.Proofs.YtmmagcjlfcicfaaGreat.Ab
set_option linter.unusedVariables false
set_option linter.unusedSimpArgs false
namespace Go.Proofs.YtmmagcjlfcicfaaGreat.Ab
open Go.RowKit
theorem Bg {P:Program} (w:World) (S e ty:TypeId) {i0:TypeInfo} {z:Value} (hu:P.underlying S=some (.slice e)) (hi:P.info? e=some i0) (hz:i0.zero=some z)
  (g o n c:Nat) (cur:Array Value) (t2:TypeId) (hg:w.heap[g]? = some (.cells cur t2 (0,0))) (hn:0<n) (hfit:o+n * z.cells.size <= cur.size) (h1:∀ v∈(Builtin.zeroCells z.cells n).toList,v.oneCell'=true) :
  (Builtin.clear_ #[S] ty #[.slice (some ⟨g,o,none⟩) n c]).run P w=.ok (.tuple #[]) (w.setCells g o (Builtin.zeroCells z.cells n).toList):=by
 have hl:(Builtin.zeroCells z.cells n).toList.length=n * z.cells.size:=by rw [Array.length_toList,size_zeroCells]
 have hst:=run_storeCells_cells (P:=P) g o (Builtin.zeroCells z.cells n).toList 0 w (fun j hj=>by
  rw [cell_of_row w g _ cur t2 (0,0) hg,Array.getElem?_eq_getElem (by rw [hl] at hj;omega)];rfl) (fun j _=>Kd.fQ hg _) h1
 simp only [Nat.add_zero] at hst
 obtain ⟨m,rfl⟩:∃ m,n=m+1:=⟨n - 1,by omega⟩
 simp [Builtin.clear_,run_underlying hu,zeroValue,typeInfo,hi,hz,hst]
theorem rQ {z:Array Value} {n:Nat} {v:Value} (h:v∈(Builtin.zeroCells z n).toList):v=z.getD 0 undef \/ v∈z.toList:=by
 simp [Builtin.zeroCells] at h
 obtain ⟨j,hj,e⟩:=h
 by_cases hz:z.size=0
 ·rw [hz] at hj;omega
 ·have hlt:j % z.size<z.size:=Nat.mod_lt _ (by omega)
  right
  rw [<- e]
  rw [getElem!_pos z _ hlt]
  exact Array.mem_def.1 (Array.getElem_mem hlt)
theorem Je {P:Program} {w:World} {ops:Array Oper} {rest:List Oper} {o:Oper} {a:Act} {Q:Exit -> Act -> World -> Prop} (hgd:o.guard=none) {s:Operand} {t:TypeId}
  (ho:o.op=.call { callee:=.builtin .clear,args:=#[s],argTypes:=#[t] }) (v:Value) (hs:a.eval s=v) {v':Value} {w':World}
  (hr:(Builtin.clear_ #[t] o.type #[v]).run P w=.ok v' w') (h:wpList P ops Q rest (a.put o.dst v') w'):wpList P ops Q (o::rest) a w :=
 wpList_plain hgd fun _ hK=>by
  unfold Oper.wp execOp
  simp only [ho,resolve,invoke,builtin,Sem.run_bind,Sem.run_pure,Result.andThen_ok,List.map_toArray,List.map_cons,List.map_nil,hs,hr]
  exact hK _ _ h
theorem Jf {P:Program} {w:World} {ops:Array Oper} {o:Oper} {a:Act} {K:Act -> World -> Prop} {Q:Exit -> Act -> World -> Prop} {E:Prop} (hg:o.guard=none) {s:Operand} {t:TypeId}
  (ho:o.op=.call { callee:=.builtin .clear,args:=#[s],argTypes:=#[t] }) (v:Value) (hs:a.eval s=v) {v':Value} {w':World}
  (hr:(Builtin.clear_ #[t] o.type #[v]).run P w=.ok v' w') (h:K (a.put o.dst v') w'):if Region.wanted o (yielded ops a.tmps)=true then Oper.wp P o a w K Q else E:=by
 rw [if_pos (by simp [Region.wanted,hg])]
 unfold Oper.wp execOp
 simp only [ho,resolve,invoke,builtin,Sem.run_bind,Sem.run_pure,Result.andThen_ok,List.map_toArray,List.map_cons,List.map_nil,hs,hr]
 exact h
theorem Gv {P:Program} {w:World} {ops:Array Oper} {o:Oper} {a:Act} {K:Act -> World -> Prop} {Q:Exit -> Act -> World -> Prop} {E:Prop} (hg:o.guard=none) {d s:Operand} {t t':TypeId}
  (ho:o.op=.call { callee:=.builtin .append,args:=#[d,s],argTypes:=#[t,t'] }) (v u:Value) (hd:a.eval d=v) (hs:a.eval s=u) {v':Value} {w':World}
  (hr:(Builtin.append_ #[t,t'] o.type #[v,u]).run P w=.ok v' w') (h:K (a.put o.dst v') w'):if Region.wanted o (yielded ops a.tmps)=true then Oper.wp P o a w K Q else E:=by
 rw [if_pos (by simp [Region.wanted,hg])]
 unfold Oper.wp execOp
 simp only [ho,resolve,invoke,builtin,Sem.run_bind,Sem.run_pure,Result.andThen_ok,List.map_toArray,List.map_cons,List.map_nil,hd,hs,hr]
 exact h
theorem tV:∀ (t:Ty),∀ v∈zeroV t,v.oneCell'=true
 | .unit,v,h=>by simp [zeroV] at h
 | .int k,v,h=>by simp [zeroV] at h;subst h;rfl
 | .bool,v,h=>by simp [zeroV] at h;subst h;rfl
 | .str,v,h=>by simp [zeroV] at h;subst h;rfl
 | .sl _ _,v,h=>by simp [zeroV] at h;subst h;rfl
 | .pair a b,v,h=>by
  simp only [zeroV,List.mem_append] at h
  exact h.elim (tV a v) (tV b v)
def Ai (w:World) (e sz:Nat) (v:Value) (n i j:Nat) (cs:List Value) (r:Ending) (w':World):Prop :=
 ∃ v',r=.returned v' /\ w'.ownsRow 0 e sz v' (i+(n - j)) (cs.take (i * sz)++cs.drop (j * sz)) /\ w.grownBy w' v.ownBlock /\ v'.ownBlock=v.ownBlock
theorem Dx {w:World} {n i sz:Nat} {e:TypeId} {v:Value} {cs:List Value} (h:w.ownsRow 0 e sz v n cs) (hi:i <= n):Ai w e sz v n i i cs (.returned v) w :=
 ⟨v,rfl,by rw [List.take_append_drop,show i+(n - i)=n by omega];exact h,⟨rfl,rfl,rfl,Nat.le_refl _,fun _ _ _=>rfl⟩,rfl⟩
theorem Bh {w:World} {g n i j c sz:Nat} {e:TypeId} {cur:Array Value} {cs zs:List Value} (hg:w.heap[g]? = some (.cells cur e (0,0))) (hn:cs.length=n * sz) (ht:cur.toList.take (n * sz)=cs) (hs:cur.size=c * sz) (hz:zs.length=(n - (i+(n - j))) * sz) (hi:i<j) (hj:j <= n) (hr:n <= c) (hc:c <= maxLen) :
  Ai w e sz (.slice (some ⟨g,0,none⟩) n c) n i j cs (.returned (.slice (some ⟨g,0,none⟩) (i+(n - j)) c)) ((w.drew.setCells g (i * sz) (cs.drop (j * sz))).setCells g ((i+(n - j)) * sz) zs):=by
 have e1:i * sz <= j * sz:=Nat.mul_le_mul_right _ (by omega)
 have e2:j * sz <= n * sz:=Nat.mul_le_mul_right _ hj
 have e3:n * sz <= c * sz:=Nat.mul_le_mul_right _ hr
 have e4:(i+(n - j)) * sz=i * sz+(n * sz - j * sz):=by rw [Nat.add_mul,Nat.sub_mul]
 have e5:(n - (i+(n - j))) * sz=n * sz - (i+(n - j)) * sz:=Nat.sub_mul _ _ _
 obtain ⟨c1,h1,h2⟩:=Kd.dN (cs.drop (j * sz)) (i * sz) w.drew cur hg (by rw [List.length_drop];omega)
 have l1:c1.size=c * sz:=by rw [<- Array.length_toList,h2];simp only [List.length_append,List.length_take,List.length_drop,Array.length_toList];omega
 obtain ⟨c2,h3,h4⟩:=Kd.dN zs ((i+(n - j)) * sz) _ c1 h1 (by omega)
 have l2:c2.size=c * sz:=by rw [<- Array.length_toList,h4];simp only [List.length_append,List.length_take,List.length_drop,Array.length_toList];omega
 refine ⟨_,rfl,⟨?_,.inr ⟨g,c,c2,rfl,Nat.zero_le _,h3,by omega,hc,l2,?_⟩⟩,jA (tT w _) (jA (Kd.bM g _ _ _) (Kd.bM g _ _ _)),rfl⟩
 ·simp only [List.length_append,List.length_take,List.length_drop];omega
 ·have f1:(cur.toList.take (i * sz)).length=i * sz:=by rw [List.length_take,Array.length_toList];omega
  have f2:(c1.toList.take ((i+(n - j)) * sz)).length=(i+(n - j)) * sz:=by rw [List.length_take,Array.length_toList];omega
  have f3:(cs.drop (j * sz)).length=n * sz - j * sz:=by rw [List.length_drop];omega
  have g1:cur.toList.take (i * sz)=cs.take (i * sz):=by rw [<- ht,List.take_take,Nat.min_eq_left (by omega)]
  have g2:c1.toList.take ((i+(n - j)) * sz)=cs.take (i * sz)++cs.drop (j * sz):=by
   rw [h2,g1,List.take_left' (by rw [List.length_append,List.length_take,f3];omega)]
  rw [h4,List.append_assoc,List.take_left' f2,g2]
def iG (e:TypeId) (t:Ty):List PT:=[.give e t,.val ⟨false,.int .i64,false⟩,.val ⟨false,.int .i64,false⟩]
def qW (e:TypeId) (t:Ty):List RT:=[.val ⟨false,.sl e t,true⟩]
def Jg (e:TypeId) (t:Ty) (_:Nat) (x:AD (iG e t)):Option (RD (qW e t)×MD (iG e t)) :=
 if (decide (0 <= x.2.1)&&(decide (x.2.1 <= x.2.2.1)&&decide (x.2.2.1 <= (x.1.length:Int))))=true then some ((x.1.take x.2.1.toNat++x.1.drop x.2.2.1.toNat,()),()) else none
theorem Qc {P:Program} {f:FuncId} {fn:Func} {e:TypeId} {t:Ty} (hf:P.funcs[f]? = some fn) (hb:fn.body.isNone=false) (hname:(fn.name == "runtime.NumGoroutine")=false)
  (hw:∀ (w:World) (v:Value) (n i j:Nat) (cs:List Value),w.ownsRow 0 e t.sz v n cs -> (∀ x∈cs,x.oneCell'=true) -> i <= j -> j <= n -> Calls P f #[v,.int .i64 i,.int .i64 j] w (Ai w e t.sz v n i j cs)) :
  uP P f ⟨iG e t,qW e t,Jg e t⟩ where
 there:=⟨fn,hf,hname,hb⟩
 calls:=fun k x q hx c args μ Nm hent=>by
  obtain ⟨xs,i,j,_⟩:=x
  have hx':(if (decide (0 <= i)&&(decide (i <= j)&&decide (j <= (xs.length:Int))))=true then some ((xs.take i.toNat++xs.drop j.toNat,()),()) else none)=some q:=hx
  obtain ⟨hc,hq⟩:=dA hx'
  injection hq with hq
  subst hq
  simp only [Bool.and_eq_true,decide_eq_true_eq] at hc
  obtain ⟨hc0,hc1,hc2⟩:=hc
  have hnp:c.np=1:=hent.np
  have p0:=hent.pins 0 (by omega)
  have kR:=hent.vals
  have Dm:args=[μ 0,.int .i64 i,.int .i64 j]:=by
   match args,kR with
   | [a0,a1,a2],h =>
    simp only [iG,inP,VRels,aA,aG,bQ,unpack,oJ,and_true] at h
    rw [h.1.2.1,h.2.1,h.2.2]
  subst Dm
  have m0:aB (fun _=>none) (inP (iG e t) (xs,i,j,()) 0 (aG (iG e t))).2.1 0=some (.row true e t xs):=rfl
  have o0:=hent.objs 0 _ m0
  simp only [aF] at o0
  obtain ⟨⟨_,cs,hcs,hrc⟩,hX⟩:=o0
  rw [aW] at hcs hrc
  have hblk:∀ k,(μ 0).ownBlock=some k -> blk (μ 0)=some k:=fun k hk=>by
   rcases hcs.2 with ⟨q,_⟩ | ⟨g,cap,cur,q,_⟩
   ·rw [q] at hk;cases hk
   ·rw [q] at hk ⊢;exact hk
  obtain ⟨a,rfl⟩:=Int.eq_ofNat_of_zero_le hc0
  obtain ⟨b',rfl⟩:=Int.eq_ofNat_of_zero_le (Int.le_trans hc0 hc1)
  simp only [Int.toNat_natCast]
  have ha:a <= b':=by
   have h:(a:Int) <= (b':Int):=hc1
   omega
  have hj:b' <= xs.length:=by
   have h:(b':Int) <= (List.length xs:Int):=hc2
   omega
  refine Calls.mono (hw c.w0 (μ 0) xs.length a b' cs hcs (hrc.one (fun _ _ q=>t.kd.one q)) ha hj) fun r w' hr=>?_
  obtain ⟨v',rfl,ho,hg,hat⟩:=hr
  refine ⟨v',rfl,⟨hg.os,hg.tape,hg.output,hg.size,fun k hk Ji=>hg.block k hk (fun e=>?_)⟩,?_⟩
  ·rcases hX k e.symm with h | h
   ·exact absurd hk (by show ¬ k<c.w0.heap.size;have:c.w0.heap.size <= k:=h;omega)
   ·exact Ji h
  intro b pn hpn hinj
  have hb0:pn 0≠b:=fun h=>hpn 0 (by omega) (by rw [h];exact ⟨Nat.le_refl _,Nat.lt_succ_self _⟩)
  let μ':Nat -> Value:=fun n=>if n=b then v' else if n=pn 0 then μ 0 else undef
  have mb:μ' b=v':=by simp [μ']
  have hup:∀ n o,aB (fun _=>none) (bW (iG e t) (qW e t) ((xs.take a++xs.drop b',()),()) pn b) n=some o -> n=b /\ o=.row true e t (xs.take a++xs.drop b'):=fun n o h=>by
   simp only [bW,iG,qW,bR,bN,bO,aB,List.append_nil,List.cons_append,List.nil_append,aC] at h
   split at h
   ·cases h
   ·split at h
    ·rename_i e3;injection h with h;exact ⟨e3.symm,h.symm⟩
    ·cases h
  refine ⟨μ',fun n=>n=b \/ n=pn 0,⟨fun n=>?_,fun j' hj'=>?_,fun n o hn=>?_,fun n n' o o' hn hn' hne=>absurd ((hup n o hn).1.trans (hup n' o' hn').1.symm) hne,?_⟩⟩
  ·show (n=b \/ n=pn 0)↔(b <= n /\ n<b+1) \/ ∃ j,j<c.np /\ n=pn j
   constructor
   ·rintro (h | h)
    ·exact .inl (by omega)
    ·exact .inr ⟨0,by omega,h⟩
   ·rintro (h | ⟨j,h1,h2⟩)
    ·exact .inl (by omega)
    ·have:j=0:=by omega
     subst this
     exact .inr h2
  ·have:j'=0:=by omega
   subst this
   simp [μ',hb0];exact p0.2
  ·obtain ⟨rfl,rfl⟩:=hup n o hn
   refine ⟨.inl rfl,rfl,?_⟩
   simp only [aF]
   rw [mb]
   have hfe:(aY (qW e t)&&aO (iG e t))=t.flat:=by simp [aY,aO,qW,iG,Ty.flat,fJ]
   rw [hfe]
   have hbv:∀ k,blk v'=some k -> v'.ownBlock=some k:=fun k hk=>by
    rcases ho.2 with ⟨q,_⟩ | ⟨g,cap,cur,q,_⟩
    ·rw [q] at hk;cases hk
    ·rw [q] at hk ⊢;exact hk
   have nv:∀ k,some k≠(μ 0).ownBlock -> v'.ownBlock≠some k:=fun k hne h=>hne (by rw [<- hat];exact h.symm)
   have key:∀ x cc,t.kd.FK c.w0 (fun k=>(aD c μ (aB (fun _=>none) (inP (iG e t) (xs,(a:Int),(b':Int),()) 0 (aG (iG e t))).2.1) k \/ some k=(μ 0).ownBlock) /\ some k≠(μ 0).ownBlock) x cc -> t.kd.FK w' (fun k=>(aD (kN t.flat c) μ' (aB (fun _=>none) (bW (iG e t) (qW e t) ((xs.take a++xs.drop b',()),()) pn n)) k \/ some k=v'.ownBlock) /\ some k≠v'.ownBlock) x cc:=fun x cc hx=>by
    cases hfl:t.flat with
    | true=>exact gL t hfl _ _ hx
    | false =>
     refine t.kd.stay (fun k hk hl=>?_) hx
     have h2:=hk.2
     have h1:=hk.1.resolve_right hk.2
     refine ⟨hg.block k hl h2,.inl ⟨h1.1,fun n' o' hn' hl'=>?_⟩,fun e=>nv k h2 e.symm⟩
     rw [(hup n' o' hn').1,mb]
     exact fun e=>nv k h2 (hbv k e)
   refine ⟨⟨fun k hk=>.inr hk.symm,_,by rw [aW,List.length_append,List.length_take,List.length_drop,show min a xs.length=a by omega];exact ho,?_⟩,fun k hk=>?_⟩
   ·rw [aW]
    exact ((hrc.imp key).take a).app ((hrc.imp key).drop b')
   ·rw [hat] at hk
    exact hX k hk
  ·show aA _ _ _ _ (.own b) v'
   simp only [aA]
   refine ⟨.inl trivial,mb.symm,?_⟩
   rcases ho.2 with ⟨q,_⟩ | ⟨g,cap,cur,q,_⟩ <;> rw [q] <;> rfl
theorem Mj {P:Program} {f:FuncId} {S e sz:Nat} {i0:TypeInfo} {z:Value} (ht:P.underlying S=some (.slice e)) (hi0:P.info? e=some i0) (hz0:i0.zero=some z) (hsz:i0.size=sz) (hzz:z.cells.size=sz) (hz1:∀ v∈z.cells.toList,v.oneCell'=true) (hs:0<sz)
  (r0:∀ (w:World) (i:Nat) (v:Value),(∃ A n c,v=.slice A n c /\ i <= n /\ n <= c /\ c <= 9223372036854775807) -> Calls P f #[v,.int .i64 i,.int .i64 i] w fun e w'=>e=.returned v /\ w'=w)
  (r1:∀ (w:World) (g n c i j:Nat) (w' w'':World),i<j -> j <= n -> n <= c -> c <= 9223372036854775807 -> (∀ ty A,(c≠j -> A=(⟨g,j * sz,none⟩:Addr)) -> (Builtin.append_ #[S,S] ty #[.slice (some ⟨g,0,none⟩) i c,.slice (some A) (n - j) (c - j)]).run P w.drew=.ok (.slice (some ⟨g,0,none⟩) (i+(n - j)) c) w') ->
   (∀ ty dc,(Builtin.clear_ #[S] ty #[.slice (some ⟨g,(i+(n - j)) * sz,none⟩) (n - (i+(n - j))) dc]).run P w'=.ok (.tuple #[]) w'') -> Calls P f #[.slice (some ⟨g,0,none⟩) n c,.int .i64 i,.int .i64 j] w fun e w1=>e=.returned (.slice (some ⟨g,0,none⟩) (i+(n - j)) c) /\ w1=w'')
  (w:World) (v:Value) (n i j:Nat) (cs:List Value) (hv:w.ownsRow 0 e sz v n cs) (h1:∀ x∈cs,x.oneCell'=true) (hi:i <= j) (hj:j <= n):Calls P f #[v,.int .i64 i,.int .i64 j] w (Ai w e sz v n i j cs):=by
 subst hsz
 by_cases hij:i=j
 ·subst hij
  refine Calls.mono (r0 w i v ?_) fun r w' ⟨e1,e2⟩=>?_
  ·rcases hv.2 with ⟨q,h0⟩ | ⟨g,cap,cur,q,_,_,h2,h3,_⟩
   ·exact ⟨none,0,0,by rw [q],by omega,by omega,by omega⟩
   ·exact ⟨_,n,cap,q,hj,h2,by simp only [maxLen] at h3;omega⟩
  ·subst e1;subst e2
   exact Dx hv hj
 ·have hlt:i<j:=by omega
  rcases hv.2 with ⟨_,q⟩ | ⟨g,c,cur,rfl,_,hg,hnc,hcm,hs1,ht1⟩
  ·omega
  have hcl:=hv.1
  have e1:i * i0.size <= j * i0.size:=Nat.mul_le_mul_right _ hi
  have e2:j * i0.size <= n * i0.size:=Nat.mul_le_mul_right _ hj
  have e3:n * i0.size <= c * i0.size:=Nat.mul_le_mul_right _ hnc
  have e4:(i+(n - j)) * i0.size=i * i0.size+(n * i0.size - j * i0.size):=by rw [Nat.add_mul,Nat.sub_mul]
  have hdl:(cs.drop (j * i0.size)).length=(n - j) * i0.size:=by rw [List.length_drop,hcl,Nat.sub_mul]
  have hd1:∀ x∈cs.drop (j * i0.size),x.oneCell'=true:=fun x hx=>h1 x (List.mem_of_mem_drop hx)
  have src:∀ k x,(cs.drop (j * i0.size))[k]? = some x -> cur.toList[j * i0.size+k]? = some x:=fun k x hk=>by
   rw [List.getElem?_drop,<- ht1,List.getElem?_take] at hk
   split at hk
   ·exact hk
   ·cases hk
  have hgd:w.drew.heap[g]? = some (.cells cur e (0,0)):=hg
  have Ub:(n - j) * i0.size=n * i0.size - j * i0.size:=Nat.sub_mul _ _ _
  obtain ⟨c1,s1,s2⟩:=Kd.dN (cs.drop (j * i0.size)) (i * i0.size) w.drew cur hg (by rw [hdl];omega)
  have l1:c1.size=c * i0.size:=by rw [<- Array.length_toList,s2];simp only [List.length_append,List.length_take,List.length_drop,Array.length_toList];omega
  have hzl:(Builtin.zeroCells z.cells (n - (i+(n - j)))).toList.length=(n - (i+(n - j))) * i0.size:=by rw [Array.length_toList,size_zeroCells,hzz]
  have e5:(n - (i+(n - j))) * i0.size=n * i0.size - (i+(n - j)) * i0.size:=Nat.sub_mul _ _ _
  simp only [maxLen] at hcm
  refine Calls.mono (r1 w g n c i j _ _ hlt hj hnc (by omega) (fun ty A hA=>?_) (fun ty dc=>Bg _ S e ty ht hi0 hz0 g _ _ dc c1 e s1 (by omega) (by rw [hzz];omega) (fun v hv=>?_))) fun r w' ⟨e1,e2⟩=>?_
  ·have hr:=run_append_room_cells (P:=P) w.drew S ty e i0 ht hi0 g 0 i c A (n - j) (c - j) (cs.drop (j * i0.size)) hdl (fun k u hk=>?_) hd1 (by omega) (fun k hk=>?_) (fun k hk=>Kd.fQ hgd _)
   ·rw [hr,Nat.zero_add]
   ·by_cases hcj:c=j
    ·have:(cs.drop (j * i0.size)).length=0:=by rw [hdl,show n - j=0 by omega,Nat.zero_mul]
     rw [List.eq_nil_of_length_eq_zero this] at hk
     cases hk
    ·rw [hA hcj,Addr.add_lit,cell_of_row w.drew g _ cur e (0,0) hgd]
     simpa using src k u hk
   ·rw [cell_of_row w.drew g _ cur e (0,0) hgd,Array.getElem?_eq_getElem (by omega)];rfl
  ·rcases rQ hv with h | h
   ·have:0<z.cells.size:=by omega
    rw [h]
    refine hz1 _ ?_
    simp [Array.getD,this]
   ·exact hz1 _ h
  ·subst e1;subst e2
   exact Bh hg hcl ht1 hs1 hzl hlt hj hnc (by simp only [maxLen];omega)
end Go.Proofs.YtmmagcjlfcicfaaGreat.Ab
