import Derived.Test.YtinopkpnlibopaaAbDef
/- How the abstract machine's values stand to the model's: what holds of a value in a world, and that it stays. -/
set_option linter.unusedVariables false
set_option linter.unusedSimpArgs false
namespace Go.Proofs.Ytinopkpnlibopaa.Ab
open Go.RowKit

def blk : Value → Option Nat
  | .slice (some a) _ _ => some a.block
  | .pointer (some a) => some a.block
  | .map (some g) => some g
  | _ => none

def Obj.live : Obj → Bool
  | .row w _ _ _ => w
  | .box _ _ => true
  | .mp _ _ _ _ _ _ => true

mutual
/-- A value of the abstract machine, and the model's: μ: what names stand for; Nm: the names that there are; S: the blocks that stay. -/
def VRel (μ : Nat → Value) (Nm : Nat → Prop) (S : Nat → Prop) (w : World) : AV → Value → Prop
  | .undef, _ => True
  | .hole, x => x = undef
  | .int k n, x => x = .int k n
  | .bool b, x => x = .bool b
  | .str s, x => x = .string s
  | .nil, x => x = .slice none 0 0
  | .ro e t xs, x => Kd.V t.kd e w 0 S x xs
  | .rz z e t xs, x => Kd.V t.kd e w 0 S x xs ∧ ∃ A n c, x = .slice A n c ∧ A.isNone = z
  | .own n, x => Nm n ∧ x = μ n ∧ x.oneCell' = true
  | .vw n z l h, x => Nm n ∧ 0 ≤ l ∧ l ≤ h ∧ ∃ A len cap, μ n = .slice A len cap ∧ h ≤ (len : Int) ∧ len ≤ cap ∧ x = .slice (if cap = l.toNat then A else A.map (·.add (l.toNat * z))) (h.toNat - l.toNat) (cap - l.toNat)
  | .ptr n off, x => Nm n ∧ ∃ g, μ n = .pointer (some ⟨g, 0, none⟩) ∧ x = .pointer (some ⟨g, off, none⟩)
  | .elo n z i off, x => Nm n ∧ ∃ g len cap, μ n = .slice (some ⟨g, 0, none⟩) len cap ∧ 0 ≤ i ∧ i < (len : Int) ∧ x = .pointer (some ⟨g, i.toNat * z + off, none⟩)
  | .elr t y off, x => ∃ (ad : Addr) (cs : List Value), x = .pointer (some (ad.add off)) ∧ Kd.FK t.kd w S y cs ∧ (∀ j u, cs[j]? = some u → w.cell? (ad.add j) = some u) ∧ (0 < t.sz → S ad.block)
  | .dyn p c j, x => (0 ≤ j ∧ j < (c : Int)) ∧ (match p with
    | .ptr n off => Nm n ∧ ∃ g, μ n = .pointer (some ⟨g, 0, none⟩) ∧ x = .pointer (some ⟨g, off + j.toNat, none⟩)
    | .elo n z i off => Nm n ∧ ∃ g len cap, μ n = .slice (some ⟨g, 0, none⟩) len cap ∧ 0 ≤ i ∧ i < (len : Int) ∧ x = .pointer (some ⟨g, i.toNat * z + (off + j.toNat), none⟩)
    | .elr t y off => ∃ (ad : Addr) (cs : List Value), x = .pointer (some (ad.add (off + j.toNat))) ∧ Kd.FK t.kd w S y cs ∧ (∀ j u, cs[j]? = some u → w.cell? (ad.add j) = some u) ∧ (0 < t.sz → S ad.block)
    | _ => False)
  | .agg cs, x => ∃ vs : Array Value, x = .agg vs ∧ VRels μ Nm S w cs vs.toList
  | .tup cs, x => ∃ vs : Array Value, x = .tuple vs ∧ VRels μ Nm S w cs vs.toList
  | .clo f cs, x => ∃ vs : Array Value, x = .func (.func f) #[] vs ∧ VRels μ Nm S w cs vs.toList
def VRels (μ : Nat → Value) (Nm : Nat → Prop) (S : Nat → Prop) (w : World) : List AV → List Value → Prop
  | [], [] => True
  | c :: cs, v :: vs => VRel μ Nm S w c v ∧ VRels μ Nm S w cs vs
  | _, _ => False
end

theorem kd_sz : ∀ t : Ty, t.kd.sz = t.sz
  | .unit => rfl | .int _ => rfl | .bool => rfl | .str => rfl | .sl _ _ => rfl
  | .pair a b => by
    show a.kd.sz + b.kd.sz = a.sz + b.sz
    rw [kd_sz a, kd_sz b]

section
variable {μ μ' : Nat → Value} {Nm Nm' : Nat → Prop} {S S' : Nat → Prop} {w w' : World}

theorem cell_same {a : Addr} (h : w'.heap[a.block]? = w.heap[a.block]?) : w'.cell? a = w.cell? a := by simp [World.cell?, h]


theorem cell_lt {a : Addr} {u : Value} (h : w.cell? a = some u) : a.block < w.heap.size := by
  unfold World.cell? at h
  cases hb : w.heap[a.block]? with
  | none => rw [hb] at h; cases h
  | some o => exact (Array.getElem?_eq_some_iff.1 hb).1

mutual
theorem VRel_step (hw : ∀ k, S k → k < w.heap.size → w'.heap[k]? = w.heap[k]?) (hS : ∀ k, S k → k < w.heap.size → S' k) (hμ : ∀ n, Nm n → μ' n = μ n) (hN : ∀ n, Nm n → Nm' n) :
    ∀ (v : AV) (x : Value), VRel μ Nm S w v x → VRel μ' Nm' S' w' v x
  | .undef, _, _ => by simp only [VRel]
  | .hole, _, h => by simp only [VRel] at h ⊢; exact h
  | .int _ _, _, h => by simp only [VRel] at h ⊢; exact h
  | .bool _, _, h => by simp only [VRel] at h ⊢; exact h
  | .str _, _, h => by simp only [VRel] at h ⊢; exact h
  | .nil, _, h => by simp only [VRel] at h ⊢; exact h
  | .ro e t xs, _, h => by
    simp only [VRel] at h ⊢
    exact Kd.V_mono (Kd.V_step (Kd.V_bound h) (fun k hk hlt => hw k hk.1 hlt)) (fun k hk => hS k hk.1 hk.2)
  | .rz z e t xs, _, h => by
    simp only [VRel] at h ⊢
    exact ⟨Kd.V_mono (Kd.V_step (Kd.V_bound h.1) (fun k hk hlt => hw k hk.1 hlt)) (fun k hk => hS k hk.1 hk.2), h.2⟩
  | .own n, _, h => by simp only [VRel] at h ⊢; exact ⟨hN n h.1, by rw [hμ n h.1]; exact h.2.1, h.2.2⟩
  | .vw n z l hh, _, h => by simp only [VRel] at h ⊢; exact ⟨hN n h.1, by rw [hμ n h.1]; exact h.2⟩
  | .ptr n off, _, h => by simp only [VRel] at h ⊢; exact ⟨hN n h.1, by rw [hμ n h.1]; exact h.2⟩
  | .elo n z i off, _, h => by simp only [VRel] at h ⊢; exact ⟨hN n h.1, by rw [hμ n h.1]; exact h.2⟩
  | .elr t y off, _, h => by
    simp only [VRel] at h ⊢
    obtain ⟨ad, cs, hx, hf, hc, hs⟩ := h
    refine ⟨ad, cs, hx, Kd.FK_mono (Kd.FK_step (Kd.FK_bound hf) (fun k hk hlt => hw k hk.1 hlt)) (fun k hk => hS k hk.1 hk.2), fun j u hu => ?_, fun h0 => ?_⟩
    · have h1 := hc j u hu
      have h2 := cell_lt h1
      have h3 : 0 < t.sz := by
        have h4 := t.kd.len hf
        have h5 := (List.getElem?_eq_some_iff.1 hu).1
        rw [← kd_sz]; omega
      rw [cell_same (hw _ (by rw [add_blk]; exact hs h3) h2)]; exact h1
    · have h4 := t.kd.len hf
      rw [kd_sz] at h4
      have h1 := hc 0 _ (List.getElem?_eq_getElem (by omega))
      have h2 := cell_lt h1
      rw [add_blk] at h2
      exact hS _ (hs h0) h2
  | .dyn p cc jj, x, h => by
    simp only [VRel] at h ⊢
    refine ⟨h.1, ?_⟩
    have h := h.2
    cases p with
    | ptr n off => simp only at h ⊢; exact ⟨hN n h.1, by rw [hμ n h.1]; exact h.2⟩
    | elo n z i off => simp only at h ⊢; exact ⟨hN n h.1, by rw [hμ n h.1]; exact h.2⟩
    | elr t y off =>
      simp only at h ⊢
      obtain ⟨ad, cs, hx, hf, hc, hs⟩ := h
      refine ⟨ad, cs, hx, Kd.FK_mono (Kd.FK_step (Kd.FK_bound hf) (fun k hk hlt => hw k hk.1 hlt)) (fun k hk => hS k hk.1 hk.2), fun j u hu => ?_, fun h0 => ?_⟩
      · have h1 := hc j u hu
        have h2 := cell_lt h1
        have h3 : 0 < t.sz := by
          have h4 := t.kd.len hf
          have h5 := (List.getElem?_eq_some_iff.1 hu).1
          rw [← kd_sz]; omega
        rw [cell_same (hw _ (by rw [add_blk]; exact hs h3) h2)]; exact h1
      · have h4 := t.kd.len hf
        rw [kd_sz] at h4
        have h1 := hc 0 _ (List.getElem?_eq_getElem (by omega))
        have h2 := cell_lt h1
        rw [add_blk] at h2
        exact hS _ (hs h0) h2
    | _ => exact h.elim
  | .agg cs, _, h => by
    simp only [VRel] at h ⊢
    obtain ⟨vs, hx, hr⟩ := h
    exact ⟨vs, hx, VRels_step hw hS hμ hN cs vs.toList hr⟩
  | .tup cs, _, h => by
    simp only [VRel] at h ⊢
    obtain ⟨vs, hx, hr⟩ := h
    exact ⟨vs, hx, VRels_step hw hS hμ hN cs vs.toList hr⟩
  | .clo f cs, _, h => by
    simp only [VRel] at h ⊢
    obtain ⟨vs, hx, hr⟩ := h
    exact ⟨vs, hx, VRels_step hw hS hμ hN cs vs.toList hr⟩
theorem VRels_step (hw : ∀ k, S k → k < w.heap.size → w'.heap[k]? = w.heap[k]?) (hS : ∀ k, S k → k < w.heap.size → S' k) (hμ : ∀ n, Nm n → μ' n = μ n) (hN : ∀ n, Nm n → Nm' n) :
    ∀ (vs : List AV) (xs : List Value), VRels μ Nm S w vs xs → VRels μ' Nm' S' w' vs xs
  | [], [], _ => by simp only [VRels]
  | [], _ :: _, h => by simp only [VRels] at h
  | _ :: _, [], h => by simp only [VRels] at h
  | c :: cs, v :: vs, h => by
    simp only [VRels] at h ⊢
    exact ⟨VRel_step hw hS hμ hN c v h.1, VRels_step hw hS hμ hN cs vs h.2⟩
end
end

/-- The frame of a call: what came in lies in okA; X: blocks that are lent; w0: the world as it began. -/
structure Ctx where
  okA : Nat → Prop
  X : Nat → Prop
  w0 : World
  np : Nat
  lent : Nat → Value

abbrev Ctx.base (c : Ctx) : Nat := c.w0.heap.size

def wrapV (agg : Bool) (cs : List Value) : Value := match agg with | true => .agg cs.toArray | false => cs.getD 0 undef

/-- The cells of data without rows. -/
def valsD : (t : Ty) → t.D → List Value
  | .unit, _ => [] | .int k, n => [.int k n] | .bool, b => [.bool b] | .str, s => [.string s] | .sl _ _, _ => []
  | .pair a b, p => valsD a p.1 ++ valsD b p.2

/-- Entries of a map. -/
def ents (S : Nat → Prop) (w : World) (ak : Bool) (tk : Ty) (av : Bool) (tv : Ty) : List (tk.D × tv.D) → List MapEntry → Prop
  | [], [] => True
  | x :: xs, e :: es => (e.key = wrapV ak (valsD tk x.1) ∧ ∃ cs, e.val = wrapV av cs ∧ (av = false → cs.length = 1 ∧ ∀ u ∈ cs, u.oneCell' = true) ∧ Kd.FK tv.kd w S x.2 cs) ∧ ents S w ak tk av tv xs es
  | _, _ => False

/-- A row of the call's own, or one that is lent. -/
def NX (c : Ctx) {t : Ty} (e : TypeId) (w : World) (ok : Nat → Prop) (v : Value) (xs : List t.D) : Prop :=
  Kd.N t.kd e w 0 ok v xs ∧ ∀ k, v.ownBlock = some k → c.base ≤ k ∨ c.X k

/-- What stands behind a name. -/
def ORel (c : Ctx) (μ : Nat → Value) (Nm : Nat → Prop) (S : Nat → Prop) (w : World) (n : Nat) : Obj → Prop
  | .row true e t xs => NX c e w (fun k => S k ∨ some k = (μ n).ownBlock) (μ n) xs
  | .row false e t xs => Kd.V t.kd e w 0 S (μ n) xs
  | .box T cs => ∃ (g : Nat) (vs : Array Value), μ n = .pointer (some ⟨g, 0, none⟩) ∧ (c.base ≤ g ∨ c.X g) ∧ w.heap[g]? = some (.cells vs T (0, 0)) ∧ VRels μ Nm S w cs vs.toList
  | .mp T ak tk av tv es => ∃ (g : Nat) (l : Array MapEntry) (clk : Nat), μ n = .map (some g) ∧ (c.base ≤ g ∨ c.X g) ∧ w.heap[g]? = some (.map l clk) ∧ ents S w ak tk av tv es l.toList

/-- The blocks that stay: what came in, and what is new and no variable's, no row's of the call's own. -/
def stab (c : Ctx) (μ : Nat → Value) (m : Nat → Option Obj) : Nat → Prop :=
  fun k => ((c.okA k ∧ k < c.base) ∨ c.base ≤ k ∨ c.X k) ∧ ∀ n o, m n = some o → o.live = true → blk (μ n) ≠ some k

/-- Below block B the world is as it was, but for what is lent. -/
structure BelowX (X : Nat → Prop) (B : Nat) (w w' : World) : Prop where
  os : w'.os = w.os
  tape : w'.tape = w.tape
  output : w'.output = w.output
  size : w.heap.size ≤ w'.heap.size
  block : ∀ k, k < B → ¬ X k → w'.heap[k]? = w.heap[k]?

theorem BelowX.trans {X : Nat → Prop} {B : Nat} {a b c : World} (h : BelowX X B a b) (k : BelowX X B b c) : BelowX X B a c :=
  ⟨k.os.trans h.os, k.tape.trans h.tape, k.output.trans h.output, Nat.le_trans h.size k.size, fun i hi hx => (k.block i hi hx).trans (h.block i hi hx)⟩
theorem Below.toX {B : Nat} {w w' : World} (h : Below B w w') (X : Nat → Prop) : BelowX X B w w' := ⟨h.os, h.tape, h.output, h.size, fun k hk _ => h.block k hk⟩
theorem BelowX.none {B : Nat} {w w' : World} (h : BelowX (fun _ => False) B w w') : Below B w w' := ⟨h.os, h.tape, h.output, h.size, fun k hk => h.block k hk id⟩

structure Rel (c : Ctx) (s : St) (a : Act) (w : World) (μ : Nat → Value) (Nm : Nat → Prop) : Prop where
  size : a.tmps.size = s.n
  np : s.np = c.np
  pins : ∀ j, j < c.np → Nm j ∧ μ j = c.lent j
  defers : a.defers = []
  below : BelowX c.X c.base c.w0 w
  names : ∀ n o, s.mem n = some o → Nm n
  objs : ∀ n o, s.mem n = some o → ORel c μ Nm (stab c μ s.mem) w n o
  dist : ∀ n n' o o', s.mem n = some o → s.mem n' = some o' → o.live = true → o'.live = true → n ≠ n' → ∀ k, blk (μ n) = some k → blk (μ n') ≠ some k
  slots : ∀ x, VRel μ Nm (stab c μ s.mem) w (s.sl x) (a.tmps.getD x undef)
end Go.Proofs.Ytinopkpnlibopaa.Ab
