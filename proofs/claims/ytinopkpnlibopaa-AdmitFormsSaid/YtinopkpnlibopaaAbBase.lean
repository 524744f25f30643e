import Derived.Below
import Derived.Deep.Draws
import Derived.Deep.AppendLies
import Derived.Maps.AppendAt
import Derived.OwnWalk
import Derived.Laws.BytesArg
import Derived.Laws.MakeOwn
import Derived.Laws.OwnMore
import Derived.Deep.OwnRows
import Derived.Tactics
import Derived.Lib.ConvBytes
import Derived.Laws.Slices
import Derived.WalkKit
import Derived.KernelRfl
import Derived.RowKit3
import Derived.Deep.LoopGhost
import Derived.Deep.QuietTactic
import Derived.BigQuiet
import Derived.WideLaws
import Derived.Deep.DeepCutAuto
import Derived.Deep.CutBlock
import Derived.Deep.RegionHeld3
import Derived.Laws.Rows
import Derived.Lib.AppendStr
import Derived.ArgAppend
import Derived.Laws.IdiomCopy
import Derived.RowKit
import Derived.OrdersHeld
import Derived.Laws.BitsLemmas
/- What stands in cells: kinds of data, rows that are read, rows of the call's own. -/
set_option linter.unusedVariables false
set_option linter.unusedSimpArgs false
namespace Go.Proofs.Ytinopkpnlibopaa.Ab
open Go.RowKit

theorem add_blk (a : Addr) (n : Nat) : (a.add n).block = a.block := by unfold Addr.add; split <;> rfl
theorem add_two (a : Addr) (i j : Nat) : (a.add i).add j = a.add (i + j) := by
  unfold Addr.add
  by_cases h1 : i = 0 <;> by_cases h2 : j = 0 <;> simp [h1, h2, Nat.add_assoc]
theorem add_zero (g j : Nat) : (⟨g, 0, none⟩ : Addr).add j = ⟨g, j, none⟩ := by unfold Addr.add; split <;> simp_all
theorem below_alloc {w W : World} (h : Below w.heap.size w W) (o : Obj) : Below w.heap.size w (W.alloc o) := h.alloc h.size o

/-- A kind of data: how many cells; which cells mean which datum, by way of which blocks. -/
structure Kd (α : Type) where
  sz : Nat
  FK : World → (Nat → Prop) → α → List Value → Prop
  len : ∀ {w ok x cs}, FK w ok x cs → cs.length = sz
  one : ∀ {w ok x cs}, FK w ok x cs → ∀ u ∈ cs, u.oneCell' = true
  stay : ∀ {w w' : World} {ok ok' : Nat → Prop} {x cs}, (∀ k, ok k → k < w.heap.size → w'.heap[k]? = w.heap[k]? ∧ ok' k) → FK w ok x cs → FK w' ok' x cs

/-- Cells, one datum behind the other. -/
def Reps {α : Type} (R : α → List Value → Prop) (sz : Nat) : List α → List Value → Prop
  | [], cs => cs = []
  | x :: xs, cs => ∃ c r, cs = c ++ r ∧ c.length = sz ∧ R x c ∧ Reps R sz xs r
section
variable {α : Type} {R R' : α → List Value → Prop} {sz : Nat}
theorem Reps.len : ∀ {xs : List α} {cs : List Value}, Reps R sz xs cs → cs.length = xs.length * sz
  | [], _, h => by rw [show _ = [] from h]; simp
  | x :: xs, _, ⟨c, r, e, h1, _, h2⟩ => by rw [e, List.length_append, h1, Reps.len h2, List.length_cons, Nat.add_mul]; omega
theorem Reps.imp (hR : ∀ x c, R x c → R' x c) : ∀ {xs : List α} {cs : List Value}, Reps R sz xs cs → Reps R' sz xs cs
  | [], _, h => h
  | _ :: _, _, ⟨c, r, e, h1, h2, h3⟩ => ⟨c, r, e, h1, hR _ _ h2, Reps.imp hR h3⟩
theorem Reps.app : ∀ {xs ys : List α} {a b : List Value}, Reps R sz xs a → Reps R sz ys b → Reps R sz (xs ++ ys) (a ++ b)
  | [], _, _, _, h, h' => by rw [show _ = [] from h]; exact h'
  | _ :: _, _, _, _, ⟨c, r, e, h1, h2, h3⟩, h' => ⟨c, r ++ _, by rw [e, List.append_assoc], h1, h2, Reps.app h3 h'⟩
theorem Reps.at : ∀ {xs : List α} {cs : List Value} {j : Nat} {x : α}, Reps R sz xs cs → xs[j]? = some x → R x ((cs.drop (j * sz)).take sz)
  | y :: _, _, 0, x, ⟨c, r, e, h1, h2, _⟩, h => by
    have : y = x := by simpa using h
    subst this
    rw [e, Nat.zero_mul, List.drop_zero, ← h1, List.take_left]; exact h2
  | _ :: _, _, j + 1, x, ⟨c, r, e, h1, _, h3⟩, h => by
    have := Reps.at h3 (show _ = some x by simpa using h)
    rwa [e, show (j + 1) * sz = c.length + j * sz by rw [Nat.add_mul]; omega, ← List.drop_drop, List.drop_left]
theorem Reps.take : ∀ {xs : List α} {cs : List Value} (m : Nat), Reps R sz xs cs → Reps R sz (xs.take m) (cs.take (m * sz))
  | _, _, 0, _ => by simp [Reps]
  | [], _, m + 1, h => by rw [show _ = [] from h]; simp [Reps]
  | x :: xs, _, m + 1, ⟨c, r, e, h1, h2, h3⟩ => by
    rw [List.take_succ_cons, e, show (m + 1) * sz = c.length + m * sz by rw [Nat.add_mul]; omega, List.take_length_add_append]
    exact ⟨c, _, rfl, h1, h2, Reps.take m h3⟩
theorem Reps.set {x' : α} {c' : List Value} (hl : c'.length = sz) (hr : R x' c') : ∀ {xs : List α} {cs : List Value} {j : Nat}, Reps R sz xs cs → j < xs.length → Reps R sz (xs.set j x') (cs.take (j * sz) ++ c' ++ cs.drop (j * sz + sz))
  | _ :: _, _, 0, ⟨c, r, e, h1, _, h3⟩, _ => ⟨c', r, by rw [e, Nat.zero_mul, List.take_zero, Nat.zero_add, ← h1, List.drop_left, List.nil_append], hl, hr, h3⟩
  | _ :: _, _, j + 1, ⟨c, r, e, h1, h2, h3⟩, hj => by
    refine ⟨c, _, ?_, h1, h2, Reps.set hl hr h3 (show j < _ by simpa using hj)⟩
    rw [e, show (j + 1) * sz = c.length + j * sz by rw [Nat.add_mul]; omega, List.take_length_add_append, Nat.add_assoc, ← List.drop_drop, List.drop_left, List.append_assoc, List.append_assoc, List.append_assoc]
theorem Reps.rep {z : α} {c : List Value} (hl : c.length = sz) (hr : R z c) : ∀ m, Reps R sz (List.replicate m z) (List.replicate m c).flatten
  | 0 => rfl
  | m + 1 => ⟨c, _, by rw [List.replicate_succ, List.flatten_cons], hl, hr, Reps.rep hl hr m⟩
theorem Reps.one (hR : ∀ x c, R x c → ∀ u ∈ c, u.oneCell' = true) : ∀ {xs : List α} {cs : List Value}, Reps R sz xs cs → ∀ u ∈ cs, u.oneCell' = true
  | [], _, h, u, hu => by rw [show _ = [] from h] at hu; cases hu
  | _ :: _, _, ⟨c, r, e, _, h2, h3⟩, u, hu => by
    rw [e] at hu
    rcases List.mem_append.1 hu with hu | hu
    · exact hR _ _ h2 u hu
    · exact Reps.one hR h3 u hu
theorem reps_flat : ∀ (xs : List α) (vs : List Value), xs.length = vs.length → (∀ v ∈ vs, v.cells.toList.length = sz) → (∀ (j : Nat) (x : α) (v : Value), xs[j]? = some x → vs[j]? = some v → R x v.cells.toList) → Reps R sz xs (vs.flatMap fun v => v.cells.toList)
  | [], [], _, _, _ => rfl
  | [], _ :: _, h, _, _ => by simp at h
  | _ :: _, [], h, _, _ => by simp at h
  | x :: xs, v :: vs, h, h1, h2 => ⟨_, _, List.flatMap_cons, h1 v List.mem_cons_self, h2 0 x v rfl rfl, reps_flat xs vs (by simpa using h) (fun u hu => h1 u (List.mem_cons_of_mem _ hu)) (fun j p u hj hu => h2 (j + 1) p u (by simpa using hj) (by simpa using hu))⟩
/-- Cells that are told datum by datum, as one list. -/
theorem reps_of {f : Nat → Option Value} : ∀ (ys : List α) (o : Nat), (∀ j x, ys[j]? = some x → ∃ c, c.length = sz ∧ R x c ∧ ∀ i u, c[i]? = some u → f (o + (j * sz + i)) = some u) → ∃ cs, Reps R sz ys cs ∧ ∀ j u, cs[j]? = some u → f (o + j) = some u
  | [], o, _ => ⟨[], rfl, fun j u h => by simp at h⟩
  | y :: ys, o, h => by
    obtain ⟨c, h1, h2, h3⟩ := h 0 y rfl
    obtain ⟨r, h4, h5⟩ := reps_of ys (o + sz) (fun j x hj => by
      obtain ⟨c, q1, q2, q3⟩ := h (j + 1) x (by simpa using hj)
      refine ⟨c, q1, q2, fun i u hu => ?_⟩
      have := q3 i u hu
      rwa [show o + ((j + 1) * sz + i) = o + sz + (j * sz + i) by rw [Nat.add_mul]; omega] at this)
    refine ⟨c ++ r, ⟨c, r, rfl, h1, h2, h4⟩, fun j u hu => ?_⟩
    by_cases hj : j < c.length
    · rw [List.getElem?_append_left hj] at hu
      have := h3 j u hu
      rwa [Nat.zero_mul, Nat.zero_add] at this
    · rw [List.getElem?_append_right (by omega)] at hu
      have := h5 _ u hu
      rwa [show o + sz + (j - c.length) = o + j by omega] at this
end

namespace Kd
section
variable {α β : Type} {d : Kd α} {w w' : World} {ok ok' : Nat → Prop} {x : α} {cs : List Value} {A : Option Addr} {n c e base base' : Nat} {xs : List α} {v : Value}
theorem FK_mono (h : d.FK w ok x cs) (hok : ∀ k, ok k → ok' k) : d.FK w ok' x cs := d.stay (fun k hk _ => ⟨rfl, hok k hk⟩) h
theorem FK_bound (h : d.FK w ok x cs) : d.FK w (fun k => ok k ∧ k < w.heap.size) x cs := d.stay (fun k hk hl => ⟨rfl, hk, hl⟩) h
theorem FK_step (h : d.FK w ok x cs) (hm : ∀ k, ok k → k < w.heap.size → w'.heap[k]? = w.heap[k]?) : d.FK w' ok x cs := d.stay (fun k hk hl => ⟨hm k hk hl, hk⟩) h

/-- A row, at an address. -/
def F (d : Kd α) (w : World) (ok : Nat → Prop) (A : Option Addr) (n : Nat) (xs : List α) : Prop :=
  xs.length = n ∧ n ≤ 9223372036854775807 ∧ (0 < n → ∃ ad, A = some ad ∧ (0 < d.sz → ok ad.block) ∧ ∀ j x, xs[j]? = some x → ∃ c, d.FK w ok x c ∧ ∀ i u, c[i]? = some u → w.cell? (ad.add (j * d.sz + i)) = some u)
theorem F_stay (hm : ∀ k, ok k → k < w.heap.size → w'.heap[k]? = w.heap[k]? ∧ ok' k) (h : F d w ok A n xs) : F d w' ok' A n xs := by
  obtain ⟨h1, h2, h3⟩ := h
  refine ⟨h1, h2, fun hn => ?_⟩
  obtain ⟨ad, e, hb, hx⟩ := h3 hn
  have low : 0 < d.sz → ad.block < w.heap.size := fun hs => by
    obtain ⟨c, hf, hc⟩ := hx 0 _ (List.getElem?_eq_getElem (by omega))
    have hl := d.len hf
    have := block_lt_of_cell (hc 0 _ (List.getElem?_eq_getElem (by omega)))
    rwa [add_blk] at this
  refine ⟨ad, e, fun hs => (hm _ (hb hs) (low hs)).2, fun j x hj => ?_⟩
  obtain ⟨c, hf, hc⟩ := hx j x hj
  refine ⟨c, d.stay hm hf, fun i u hu => ?_⟩
  have hs : 0 < d.sz := by have := d.len hf; have := (List.getElem?_eq_some_iff.1 hu).1; omega
  exact (World.cell?_of_block (by rw [add_blk]; exact (hm _ (hb hs) (low hs)).1)).trans (hc i u hu)
theorem F_bound (h : F d w ok A n xs) : F d w (fun k => ok k ∧ k < w.heap.size) A n xs := F_stay (fun k hk hl => ⟨rfl, hk, hl⟩) h
theorem F_nil (d : Kd α) (w : World) (ok : Nat → Prop) : F d w ok none ([] : List α).length [] := ⟨rfl, by simp, fun h => absurd h (Nat.lt_irrefl 0)⟩
theorem F_get (h : F d w ok A n xs) (z : α) (i : Int) (h0 : 0 ≤ i) (h1 : i < n) :
    ∃ ad c, A = some ad ∧ c.length = d.sz ∧ d.FK w ok (xs.getD i.toNat z) c ∧ (∀ j u, c[j]? = some u → w.cell? (ad.add (i.toNat * d.sz + j)) = some u) ∧ (0 < d.sz → ok ad.block) := by
  obtain ⟨q1, _, q3⟩ := h
  obtain ⟨ad, e, hb, hx⟩ := q3 (by omega)
  have hi := List.getElem?_eq_getElem (show i.toNat < xs.length by omega)
  obtain ⟨c, hf, hc⟩ := hx _ _ hi
  exact ⟨ad, c, e, d.len hf, by rw [List.getD_eq_getElem?_getD, hi]; exact hf, hc, hb⟩
theorem F_mid {lo hi : Nat} (h : F d w ok A xs.length xs) (h1 : lo ≤ hi) (h2 : hi ≤ xs.length) (hc : xs.length ≤ c) : F d w ok (if c = lo then A else A.map (·.add (lo * d.sz))) ((xs.take hi).drop lo).length ((xs.take hi).drop lo) := by
  have hl : ((xs.take hi).drop lo).length = hi - lo := by rw [List.length_drop, List.length_take]; omega
  obtain ⟨_, q2, q3⟩ := h
  refine ⟨rfl, by omega, fun hp => ?_⟩
  obtain ⟨ad, rfl, hb, hx⟩ := q3 (by omega)
  rw [if_neg (by omega)]
  refine ⟨_, rfl, by rw [add_blk]; exact hb, fun j x hj => ?_⟩
  rw [List.getElem?_drop, List.getElem?_take] at hj
  split at hj
  · obtain ⟨c, hf, hcc⟩ := hx _ x hj
    refine ⟨c, hf, fun i u hu => ?_⟩
    rw [add_two, show lo * d.sz + (j * d.sz + i) = (lo + j) * d.sz + i by rw [Nat.add_mul]; omega]
    exact hcc i u hu
  · cases hj

/-- Data of one cell. -/
def sole (enc : α → Value) (h1 : ∀ x, (enc x).oneCell' = true) : Kd α where
  sz := 1
  FK := fun _ _ x cs => cs = [enc x]
  len := fun h => by rw [h]; rfl
  one := fun h u hu => by rw [h, List.mem_singleton] at hu; rw [hu]; exact h1 _
  stay := fun _ h => h
def int (k : IntKind) : Kd Int := sole (Value.int k) (fun _ => rfl)
def bool : Kd Bool := sole Value.bool (fun _ => rfl)
def string : Kd ByteArray := sole Value.string (fun _ => rfl)
def slice (e : Nat) (d : Kd α) : Kd (List α) where
  sz := 1
  FK := fun w ok xs cs => ∃ A c, cs = [.slice A xs.length c] ∧ xs.length ≤ c ∧ F d w ok A xs.length xs
  len := fun ⟨_, _, h, _⟩ => by rw [h]; rfl
  one := fun ⟨_, _, h, _⟩ u hu => by rw [h, List.mem_singleton] at hu; rw [hu]; rfl
  stay := fun hm ⟨A, c, h1, h2, h3⟩ => ⟨A, c, h1, h2, F_stay hm h3⟩
def pair (a : Kd α) (b : Kd β) : Kd (α × β) where
  sz := a.sz + b.sz
  FK := fun w ok x cs => ∃ c0 c1, cs = c0 ++ c1 ∧ a.FK w ok x.1 c0 ∧ b.FK w ok x.2 c1
  len := fun ⟨_, _, h, h0, h1⟩ => by rw [h, List.length_append, a.len h0, b.len h1]
  one := fun ⟨_, _, h, h0, h1⟩ u hu => by
    rw [h] at hu
    rcases List.mem_append.1 hu with hu | hu
    · exact a.one h0 u hu
    · exact b.one h1 u hu
  stay := fun hm ⟨c0, c1, h, h0, h1⟩ => ⟨c0, c1, h, a.stay hm h0, b.stay hm h1⟩

/-- A slice that is read. -/
def V (d : Kd α) (_e : Nat) (w : World) (_base : Nat) (ok : Nat → Prop) (v : Value) (xs : List α) : Prop := ∃ A c, v = .slice A xs.length c ∧ xs.length ≤ c ∧ F d w ok A xs.length xs
theorem V_mk (hl : xs.length ≤ c) (hf : F d w ok A xs.length xs) : V d e w base ok (.slice A xs.length c) xs := ⟨A, c, rfl, hl, hf⟩
theorem V_stay (hm : ∀ k, ok k → k < w.heap.size → w'.heap[k]? = w.heap[k]? ∧ ok' k) (h : V d e w base ok v xs) : V d e w' base ok' v xs := let ⟨A, c, h1, h2, h3⟩ := h; ⟨A, c, h1, h2, F_stay hm h3⟩
theorem V_mono (h : V d e w base ok v xs) (hok : ∀ k, ok k → ok' k) : V d e w base ok' v xs := V_stay (fun k hk _ => ⟨rfl, hok k hk⟩) h
theorem V_bound (h : V d e w base ok v xs) : V d e w base (fun k => ok k ∧ k < w.heap.size) v xs := V_stay (fun k hk hl => ⟨rfl, hk, hl⟩) h
theorem V_step (h : V d e w base ok v xs) (hm : ∀ k, ok k → k < w.heap.size → w'.heap[k]? = w.heap[k]?) : V d e w' base ok v xs := V_stay (fun k hk hl => ⟨hm k hk hl, hk⟩) h
theorem V_nil (d : Kd α) (e : Nat) (w : World) (base : Nat) (ok : Nat → Prop) : V d e w base ok (.slice none 0 0) [] := ⟨none, 0, rfl, Nat.le_refl _, F_nil d w ok⟩
theorem V_get {ad : Addr} (h : V d e w base ok (.slice (some ad) n c) xs) (z : α) (i : Int) (h0 : 0 ≤ i) (h1 : i < n) :
    ∃ cs, cs.length = d.sz ∧ d.FK w ok (xs.getD i.toNat z) cs ∧ ∀ j u, cs[j]? = some u → w.cell? (ad.add (i.toNat * d.sz + j)) = some u := by
  obtain ⟨A, c', hv, _, hf⟩ := h
  injection hv with ha hn _
  subst ha
  obtain ⟨ad', cs, he, q⟩ := F_get hf z i h0 (by omega)
  injection he with he; subst he
  exact ⟨cs, q.1, q.2.1, q.2.2.1⟩

/-- A slice of the call's own. -/
def N (d : Kd α) (e : Nat) (w : World) (base : Nat) (ok : Nat → Prop) (v : Value) (xs : List α) : Prop :=
  (∀ k, v.ownBlock = some k → ok k) ∧ ∃ cs, w.ownsRow base e d.sz v xs.length cs ∧ Reps (d.FK w (fun k => ok k ∧ some k ≠ v.ownBlock)) d.sz xs cs
theorem N_nil (d : Kd α) (e : Nat) (w : World) (base : Nat) (ok : Nat → Prop) : N d e w base ok (.slice none 0 0) [] := ⟨fun k hk => by simp [Value.ownBlock] at hk, [], ⟨by simp, .inl ⟨rfl, rfl⟩⟩, rfl⟩
theorem N_stay (hm : ∀ k, ok k → k < w.heap.size → w'.heap[k]? = w.heap[k]? ∧ ok' k) (h : N d e w base ok v xs) : N d e w' base ok' v xs := by
  obtain ⟨h0, cs, ho, hr⟩ := h
  refine ⟨fun k hk => (hm k (h0 k hk) (ho.lt k hk).2).2, cs, ⟨ho.1, ?_⟩, hr.imp (fun _ _ q => d.stay (fun k hk hl => ⟨(hm k hk.1 hl).1, (hm k hk.1 hl).2, hk.2⟩) q)⟩
  rcases ho.2 with q | ⟨g, cap, cur, rfl, hg, hh, q⟩
  · exact .inl q
  · exact .inr ⟨g, cap, cur, rfl, hg, (hm g (h0 g rfl) (ho.lt g rfl).2).1.trans hh, q⟩
theorem N_mono (h : N d e w base ok v xs) (hok : ∀ k, ok k → ok' k) : N d e w base ok' v xs := N_stay (fun k hk _ => ⟨rfl, hok k hk⟩) h
theorem N_bound (h : N d e w base ok v xs) : N d e w base (fun k => ok k ∧ k < w.heap.size) v xs := N_stay (fun k hk hl => ⟨rfl, hk, hl⟩) h
theorem N_step (h : N d e w base ok v xs) (hm : ∀ k, ok k → k < w.heap.size → w'.heap[k]? = w.heap[k]?) : N d e w' base ok v xs := N_stay (fun k hk hl => ⟨hm k hk hl, hk⟩) h
theorem N_lt (h : N d e w base ok v xs) : ∀ k, v.ownBlock = some k → k < w.heap.size := fun k hk => let ⟨_, _, ho, _⟩ := h; (ho.lt k hk).2
theorem N_cap (h : N d e w base ok v xs) : ∃ A c, v = .slice A xs.length c ∧ xs.length ≤ c ∧ xs.length ≤ 9223372036854775807 := by
  obtain ⟨_, _, ho, _⟩ := h
  rcases ho.2 with ⟨q, h0⟩ | ⟨g, cap, cur, q, _, _, hc, hm, _⟩
  · exact ⟨none, 0, by rw [q, h0], by omega, by omega⟩
  · exact ⟨_, cap, q, hc, by simp only [maxLen] at hm; omega⟩
theorem N_slice (h : N d e w base ok v xs) : ∃ A c, v = .slice A xs.length c := let ⟨A, c, q, _⟩ := N_cap h; ⟨A, c, q⟩
theorem N_val (h : N d e w base ok v xs) : v.cells.toList = [v] ∧ v.oneCell' = true := by
  obtain ⟨A, c, rfl⟩ := N_slice h
  exact ⟨rfl, rfl⟩
theorem N_form (h : N d e w base ok v xs) (hp : 0 < xs.length) : ∃ g cap, v = .slice (some ⟨g, 0, none⟩) xs.length cap ∧ base ≤ g ∧ g < w.heap.size ∧ ∃ cells, w.heap[g]? = some (.cells cells e (0, 0)) := by
  obtain ⟨_, _, ho, _⟩ := h
  rcases ho.2 with ⟨_, q⟩ | ⟨g, cap, cur, q, hb, hh, _⟩
  · omega
  · exact ⟨g, cap, q, hb, (ho.lt g (by rw [q]; rfl)).2, cur, hh⟩
theorem N_at {A : Option Addr} (h : N d e w base ok (.slice A n c) xs) : n = xs.length ∧ n ≤ c := by
  obtain ⟨A', c', he, hl, _⟩ := N_cap h
  injection he with _ h2 h3
  exact ⟨h2, by omega⟩
/-- The cells of an element. -/
theorem N_item {g cap j : Nat} {x : α} {cs : List Value} (ho : w.ownsRow base e d.sz (.slice (some ⟨g, 0, none⟩) n cap) xs.length cs) (hr : Reps (d.FK w ok) d.sz xs cs) (hj : xs[j]? = some x) : d.FK w ok x ((cs.drop (j * d.sz)).take d.sz) ∧ ∀ i u, ((cs.drop (j * d.sz)).take d.sz)[i]? = some u → w.cell? ⟨g, j * d.sz + i, none⟩ = some u := by
  refine ⟨hr.at hj, fun i u hu => ?_⟩
  rw [List.getElem?_take] at hu
  split at hu
  · rw [List.getElem?_drop] at hu
    have := ho.cells (g := g) rfl _ u hu
    rwa [add_zero] at this
  · cases hu
theorem N_V (h : N d e w base ok v xs) : V d e w base' ok v xs := by
  obtain ⟨A, c, rfl, hl, hm⟩ := N_cap h
  refine ⟨A, c, rfl, hl, rfl, hm, fun hp => ?_⟩
  obtain ⟨g, cap, q, _⟩ := N_form h hp
  injection q with q1 _ q3
  subst q1; subst q3
  obtain ⟨h0, cs, ho, hr⟩ := h
  refine ⟨_, rfl, fun _ => h0 g rfl, fun j x hj => ?_⟩
  obtain ⟨q1, q2⟩ := N_item ho hr hj
  exact ⟨_, FK_mono q1 (fun k hk => hk.1), fun i u hu => by rw [add_zero]; exact q2 i u hu⟩
theorem frozen_row {g : Nat} {t : TypeId} {cs : Array Value} (h : w.heap[g]? = some (.cells cs t (0, 0))) (i : Nat) : w.frozen? ⟨g, i, none⟩ = false := by simp [World.frozen?, h]
theorem N_elem {g cap : Nat} (h : N d e w base ok (.slice (some ⟨g, 0, none⟩) n cap) xs) (z : α) (i : Int) (h0 : 0 ≤ i) (h1 : i < n) :
    ∃ c, c.length = d.sz ∧ d.FK w (fun k => ok k ∧ k ≠ g) (xs.getD i.toNat z) c ∧ (∀ j u, c[j]? = some u → w.cell? ⟨g, i.toNat * d.sz + j, none⟩ = some u) ∧ ∀ j, w.frozen? ⟨g, i.toNat * d.sz + j, none⟩ = false := by
  have hn := (N_at h).1
  obtain ⟨g', _, q, _, _, cells, hh⟩ := N_form h (by omega)
  injection q with q
  injection q with q
  injection q with q
  subst q
  obtain ⟨_, cs, ho, hr⟩ := h
  have hi := List.getElem?_eq_getElem (show i.toNat < xs.length by omega)
  obtain ⟨q1, q2⟩ := N_item ho hr hi
  refine ⟨_, d.len q1, ?_, q2, fun j => frozen_row hh _⟩
  rw [List.getD_eq_getElem?_getD, hi]
  exact FK_mono q1 (fun k hk => ⟨hk.1, fun e => hk.2 (by rw [e]; rfl)⟩)
theorem N_take {m : Nat} (h : N d e w base ok (.slice A n c) xs) (hm : m ≤ xs.length) : N d e w base ok (.slice A m c) (xs.take m) := by
  have hv : (Value.slice A m c).ownBlock = (Value.slice A n c).ownBlock := by cases A <;> rfl
  obtain ⟨h0, cs, ho, hr⟩ := h
  refine ⟨by rw [hv]; exact h0, cs.take (m * d.sz), ⟨?_, ?_⟩, by rw [hv]; exact hr.take m⟩
  · rw [List.length_take, List.length_take, hr.len, Nat.min_eq_left hm]; exact Nat.min_eq_left (Nat.mul_le_mul_right _ hm)
  · rw [List.length_take, Nat.min_eq_left hm]
    rcases ho.2 with ⟨q, hl⟩ | ⟨g, cap, cur, q, hb, hh, hc, hcm, hs, ht⟩
    · injection q with q1 _ q3
      subst q1; subst q3
      exact .inl ⟨by rw [show m = 0 by omega], by omega⟩
    · injection q with q1 _ q3
      subst q1; subst q3
      exact .inr ⟨g, c, cur, rfl, hb, hh, by omega, hcm, hs, by rw [← ht, List.take_take, Nat.min_eq_left (Nat.mul_le_mul_right _ hm)]⟩
theorem set_row {g : Nat} {t : TypeId} : ∀ (vs : List Value) (o : Nat) (w : World) (cur : Array Value), w.heap[g]? = some (.cells cur t (0, 0)) → o + vs.length ≤ cur.size → ∃ cur', (w.setCells g o vs).heap[g]? = some (.cells cur' t (0, 0)) ∧ cur'.toList = cur.toList.take o ++ vs ++ cur.toList.drop (o + vs.length)
  | [], o, w, cur, h, _ => ⟨cur, h, by simp⟩
  | v :: vs, o, w, cur, h, hl => by
    simp only [List.length_cons] at hl ⊢
    obtain ⟨cur', h1, h2⟩ := set_row (g := g) (t := t) vs (o + 1) (w.setCell ⟨g, o, none⟩ v) (cur.setIfInBounds o v) (by simp [World.setCell, Array.getElem?_modify, h]) (by simp; omega)
    refine ⟨cur', h1, h2.trans ?_⟩
    rw [Array.toList_setIfInBounds]
    apply List.ext_getElem?
    intro j
    simp only [List.append_assoc, List.getElem?_append, List.length_take, List.length_set, Array.length_toList, List.getElem?_take, List.getElem?_drop, List.getElem?_set, List.getElem?_cons]
    grind
theorem set_grown (g : Nat) : ∀ (vs : List Value) (o : Nat) (w : World), w.grownBy (w.setCells g o vs) (some g)
  | [], o, w => ⟨rfl, rfl, rfl, Nat.le_refl _, fun _ _ _ => rfl⟩
  | v :: vs, o, w => by
    have h := set_grown g vs (o + 1) (w.setCell ⟨g, o, none⟩ v)
    have hs : (w.setCell ⟨g, o, none⟩ v).heap.size = w.heap.size := by simp [World.setCell]
    exact ⟨h.os, h.tape, h.output, Nat.le_trans (Nat.le_of_eq hs.symm) h.size, fun k hk hne => (h.block k (by rw [hs]; exact hk) hne).trans (by
      have : g ≠ k := fun e => hne (by rw [e])
      simp [World.setCell, Array.getElem?_modify, this])⟩
/-- Some cells of an element are written. -/
theorem N_seg {g cap j : Nat} {c seg : List Value} {x' : α} {okp : Nat → Prop} (h : N d e w base ok (.slice (some ⟨g, 0, none⟩) n cap) xs) (i : Int) (h0 : 0 ≤ i) (h1 : i < n) (hcl : c.length = d.sz) (hcc : ∀ j u, c[j]? = some u → w.cell? ⟨g, i.toNat * d.sz + j, none⟩ = some u)
    (hj : j + seg.length ≤ d.sz) (hM : d.FK w okp x' (c.take j ++ seg ++ c.drop (j + seg.length))) (hokp : ∀ k, okp k → ok k ∧ k ≠ g) :
    N d e (w.setCells g (i.toNat * d.sz + j) seg) base ok (.slice (some ⟨g, 0, none⟩) n cap) (xs.set i.toNat x') ∧ w.grownBy (w.setCells g (i.toNat * d.sz + j) seg) (some g) := by
  have hn := (N_at h).1
  have hi : i.toNat < xs.length := by omega
  obtain ⟨q0, cs, ho, hr⟩ := h
  obtain ⟨_, q2⟩ := N_item ho hr (List.getElem?_eq_getElem hi)
  have hlen := hr.len
  have hle : i.toNat * d.sz + d.sz ≤ xs.length * d.sz := by rw [← Nat.succ_mul]; exact Nat.mul_le_mul_right _ hi
  have hc : c = (cs.drop (i.toNat * d.sz)).take d.sz := by
    apply List.ext_getElem?
    intro m
    by_cases hm : m < d.sz
    · have e2 := List.getElem?_eq_getElem (l := (cs.drop (i.toNat * d.sz)).take d.sz) (i := m) (by simp; omega)
      rw [List.getElem?_eq_getElem (by omega), e2, ← hcc m _ (List.getElem?_eq_getElem (by omega)), q2 m _ e2]
    · rw [List.getElem?_eq_none (by omega), List.getElem?_eq_none (by simp; omega)]
  rcases ho.2 with ⟨q, _⟩ | ⟨g', cap', cur, q, hb, hh, hcap, hmx, hs, ht⟩
  · cases q
  injection q with q1 _ q3
  injection q1 with q1
  injection q1 with q1
  subst q1; subst q3
  have hsz : xs.length * d.sz ≤ cap * d.sz := Nat.mul_le_mul_right _ hcap
  obtain ⟨cur', s1, s2⟩ := set_row seg (i.toNat * d.sz + j) w cur hh (by omega)
  have hgrow := set_grown g seg (i.toNat * d.sz + j) w
  have far := hgrow.block
  have hcs : cs.take (i.toNat * d.sz) ++ (c.take j ++ seg ++ c.drop (j + seg.length)) ++ cs.drop (i.toNat * d.sz + d.sz) = cs.take (i.toNat * d.sz + j) ++ seg ++ cs.drop (i.toNat * d.sz + j + seg.length) := by
    rw [hc]
    have e1 : cs.take (i.toNat * d.sz + j) = cs.take (i.toNat * d.sz) ++ ((cs.drop (i.toNat * d.sz)).take d.sz).take j := by rw [List.take_add, List.take_take, Nat.min_eq_left (by omega)]
    have e2 : cs.drop (i.toNat * d.sz + j + seg.length) = ((cs.drop (i.toNat * d.sz)).take d.sz).drop (j + seg.length) ++ cs.drop (i.toNat * d.sz + d.sz) := by
      rw [Nat.add_assoc, ← List.drop_drop, List.drop_take]
      conv => lhs; rw [← List.take_append_drop (d.sz - (j + seg.length)) ((cs.drop (i.toNat * d.sz)).drop (j + seg.length))]
      rw [List.drop_drop, List.drop_drop, show i.toNat * d.sz + (j + seg.length) + (d.sz - (j + seg.length)) = i.toNat * d.sz + d.sz by omega]
    rw [e1, e2]; simp only [List.append_assoc]
  have hr2 : Reps (d.FK (w.setCells g (i.toNat * d.sz + j) seg) (fun k => ok k ∧ some k ≠ (Value.slice (some ⟨g, 0, none⟩) n cap).ownBlock)) d.sz (xs.set i.toNat x') (cs.take (i.toNat * d.sz + j) ++ seg ++ cs.drop (i.toNat * d.sz + j + seg.length)) := by
    rw [← hcs]
    refine Reps.set (d.len hM) ?_ (hr.imp (fun _ _ q => d.stay (fun k hk hl => ⟨far k hl hk.2, hk⟩) q)) hi
    exact d.stay (fun k hk hl => ⟨far k hl (fun e => (hokp k hk).2 (by injection e)), (hokp k hk).1, fun e => (hokp k hk).2 (by injection e)⟩) hM
  refine ⟨⟨q0, _, ⟨?_, .inr ⟨g, cap, cur', by rw [List.length_set, hn], hb, s1, by rw [List.length_set]; exact hcap, hmx, ?_, ?_⟩⟩, hr2⟩, hgrow⟩
  · exact hr2.len
  · rw [← Array.length_toList, s2]; simp only [List.length_append, List.length_take, List.length_drop, Array.length_toList]; omega
  · rw [s2, List.length_set, ← ht]
    apply List.ext_getElem?
    intro m
    simp only [List.append_assoc, List.getElem?_append, List.length_take, Array.length_toList, List.getElem?_take, List.getElem?_drop]
    grind
end

section
variable {α : Type} {P : Program} {o : Oper} {a : Act} {d : Kd α} {W : World} {K : Act → World → Prop} {Q : Exit → Act → World → Prop} {base e : Nat} {xs ys : List α} {ok okp : Nat → Prop} {v v1 : Value} {w1 : World}
/-- A row that is new. -/
theorem N_new {cs : List Value} (hr : Reps (d.FK W okp) d.sz xs cs) (hok : ∀ k, okp k → ok k) (hf : ok W.heap.size) (hb : base ≤ W.heap.size) (hm : xs.length ≤ 9223372036854775807) : N d e (W.alloc (.cells cs.toArray e)) base ok (.slice (some ⟨W.heap.size, 0, none⟩) xs.length xs.length) xs := by
  refine ⟨fun k hk => ?_, cs, ?_, hr.imp (fun _ _ q => d.stay (fun k hk hl => ⟨(World.grownBy_alloc W _ none).block k hl (by simp), hok k hk, fun e => ?_⟩) q)⟩
  · injection hk with hk; subst hk; exact hf
  · have := World.ownsRow_lit (base := base) (e := e) (size := d.sz) W cs.toArray xs.length hb (by simpa [maxLen] using hm) (by simpa using hr.len)
    simpa using this
  · injection e with e; have : k = W.heap.size := e; omega
theorem N_lit {cs : List Value} (hrun : (execOp a.eval o).run P W = .ok (.value (.slice (some ⟨W.heap.size, 0, none⟩) xs.length xs.length)) (W.alloc (.cells cs.toArray e)))
    (hr : Reps (d.FK W okp) d.sz xs cs) (hok : ∀ k, okp k → ok k) (hf : ok W.heap.size) (hb : base ≤ W.heap.size) (hm : xs.length ≤ 9223372036854775807)
    (h : ∀ v1 w1, N d e w1 base ok v1 xs → W.grownBy w1 none → (∀ b, v1.ownBlock = some b → W.heap.size ≤ b) → K (a.put o.dst v1) w1) : o.wp P a W K Q := by
  unfold Oper.wp
  rw [hrun]
  exact h _ _ (N_new hr hok hf hb hm) (World.grownBy_alloc W _ none) (fun b h => Nat.le_of_eq (by injection h))
theorem made_flat {z : Array Value} (hz : 0 < z.size) : ∀ m, (madeCells z (m * z.size)).toList = (List.replicate m z.toList).flatten
  | 0 => by simp [madeCells]
  | m + 1 => by
    rw [List.replicate_succ, List.flatten_cons, ← made_flat hz m]
    simp only [madeCells, Array.toList_map, Array.toList_range]
    rw [Nat.add_mul, Nat.one_mul, Nat.add_comm, List.range_add, List.map_append, List.map_map]
    congr 1
    · apply List.ext_getElem
      · simp
      · intro i h1 h2
        simp only [List.length_map, List.length_range] at h1
        simp [Nat.mod_eq_of_lt h1, getElem!_pos z i h1]
    · apply List.map_congr_left
      intro i _
      simp
theorem N_make {t : TypeId} {x y : Operand} {n : Int} {z : Value} {bytes : Nat} {z0 : α} (ho : o.op = .makeSlice t x y) (hx : a.eval x = .int .i64 n) (hy : a.eval y = .int .i64 n)
    (ht : P.underlying t = some (.slice e)) (hinfo : (P.info? e).map (fun i => (i.zero, i.size, i.bytes)) = some (some z, d.sz, bytes)) (hz : z.cells.size = d.sz) (hs0 : 0 < d.sz) (hb0 : 0 < bytes)
    (hzero : d.FK W okp z0 z.cells.toList) (hok : ∀ k, okp k → ok k) (hf : ok W.heap.size) (h0 : 0 ≤ n) (hl : n.toNat * bytes ≤ 281474976710656) (hb : base ≤ W.heap.size)
    (h : ∀ v1 w1, N d e w1 base ok v1 (List.replicate n.toNat z0) → W.grownBy w1 none → (∀ b, v1.ownBlock = some b → W.heap.size ≤ b) → K (a.put o.dst v1) w1) : o.wp P a W K Q := by
  obtain ⟨m, rfl⟩ := Int.eq_ofNat_of_zero_le h0
  simp only [Int.toNat_natCast] at hl h
  obtain ⟨i0, hi, hzz⟩ := Option.map_eq_some_iff.1 hinfo
  simp only [Prod.mk.injEq] at hzz
  obtain ⟨hz0, hz1, hz2⟩ := hzz
  have hm : m ≤ 281474976710656 := Nat.le_trans (Nat.le_mul_of_pos_right _ hb0) hl
  have hr := run_make (P := P) W t e i0 z ht hi hz0 .i64 .i64 (m : Int) (m : Int) (by omega) (by omega) (by
    have h3 : ((i0.bytes * m : Nat) : Int) ≤ 281474976710656 := by rw [hz2, Nat.mul_comm]; omega
    rwa [Int.natCast_mul] at h3) (by omega)
  simp only [Int.toNat_natCast] at hr
  have hfl := made_flat (z := z.cells) (by omega) m
  refine N_lit (xs := List.replicate m z0) (cs := (List.replicate m z.cells.toList).flatten) ?_ (Reps.rep (by simpa using hz) hzero m) hok hf hb (by simp; omega) h
  rw [← hfl, hz, ← hz1]
  simp [execOp, ho, hx, hy, hr]
/-- A row that has grown. -/
theorem N_grown {cs news : List Value} (h0 : ∀ k, v.ownBlock = some k → ok k) (hr : Reps (d.FK W (fun k => ok k ∧ some k ≠ v.ownBlock)) d.sz xs cs) (hn : Reps (d.FK W okp) d.sz ys news) (hokp : ∀ k, okp k → ok k ∧ some k ≠ v.ownBlock) (hf : ∀ k, W.heap.size ≤ k → ok k)
    (ho : w1.ownsRow base e d.sz v1 (xs.length + ys.length) (cs ++ news)) (hg : W.grownBy w1 v.ownBlock) (hat : v1.ownBlock = v.ownBlock ∨ v1.ownBlock = some W.heap.size) : N d e w1 base ok v1 (xs ++ ys) := by
  have st : ∀ {x : α} {c : List Value} {q : Nat → Prop}, (∀ k, q k → ok k ∧ some k ≠ v.ownBlock) → d.FK W q x c → d.FK w1 (fun k => ok k ∧ some k ≠ v1.ownBlock) x c := fun hq hx => d.stay (fun k hk hl => ⟨hg.block k hl (hq k hk).2, (hq k hk).1, fun e => by
    rcases hat with h | h
    · exact (hq k hk).2 (by rw [e, h])
    · rw [h] at e; injection e with e; omega⟩) hx
  refine ⟨fun k hk => ?_, cs ++ news, by rw [List.length_append]; exact ho, (hr.imp (fun _ _ => st (fun _ hk => hk))).app (hn.imp (fun _ _ => st hokp))⟩
  rcases hat with h | h
  · exact h0 k (by rw [← h]; exact hk)
  · rw [h] at hk; injection hk with hk; exact hf k (by omega)
theorem N_append {x y : Operand} {t : TypeId} {z : Value} {bytes m c : Nat} {A : Option Addr} (ho : o.op = .call { callee := .builtin .append, args := #[x, y], argTypes := #[t, t] })
    (ht : P.underlying t = some (.slice e)) (hinfo : (P.info? e).map (fun i => (i.zero, i.size, i.bytes)) = some (some z, d.sz, bytes)) (hz : z.cells.size = d.sz) (hs0 : 0 < d.sz) (hb0 : 0 < bytes)
    (hy : a.eval y = .slice A m c) (HO : N d e W base ok (a.eval x) xs) (HR : F d W okp A m ys) (hokp : ∀ k, okp k → ok k ∧ some k ≠ (a.eval x).ownBlock) (hf : ∀ k, W.heap.size ≤ k → ok k) (hb : base ≤ W.heap.size) (hl : (xs.length + m) * bytes ≤ 140737488355328)
    (h : ∀ v1 w1, N d e w1 base ok v1 (xs ++ ys) → W.grownBy w1 (a.eval x).ownBlock → (v1.ownBlock = (a.eval x).ownBlock ∨ ∃ b, v1.ownBlock = some b ∧ W.heap.size ≤ b) → K (a.put o.dst v1) w1) : o.wp P a W K Q := by
  obtain ⟨i0, hi, hzz⟩ := Option.map_eq_some_iff.1 hinfo
  simp only [Prod.mk.injEq] at hzz
  obtain ⟨hz0, hz1, hz2⟩ := hzz
  obtain ⟨h0, cs, hown, hr⟩ := HO
  have hlen : xs.length + m ≤ 140737488355328 := Nat.le_trans (Nat.le_mul_of_pos_right _ hb0) hl
  have key : ∃ v1 w1, (Builtin.append_ #[t, t] o.type #[a.eval x, .slice A m c]).run P W = .ok v1 w1 ∧ N d e w1 base ok v1 (xs ++ ys) ∧ W.grownBy w1 (a.eval x).ownBlock ∧ (v1.ownBlock = (a.eval x).ownBlock ∨ v1.ownBlock = some W.heap.size) := by
    rcases Nat.eq_zero_or_pos m with hm0 | hp
    · subst hm0
      obtain rfl : ys = [] := List.eq_nil_of_length_eq_zero HR.1
      refine ⟨a.eval x, W, ?_, by rw [List.append_nil]; exact ⟨h0, cs, hown, hr⟩, ⟨rfl, rfl, rfl, Nat.le_refl _, fun _ _ _ => rfl⟩, .inl rfl⟩
      have hfc : (Builtin.firstCells i0.size 0 (.slice A 0 c)).run P W = .ok #[] W := by cases A <;> simp [Builtin.firstCells, loadCells, loadCellsFrom]
      rcases hown.2 with ⟨q, hn⟩ | ⟨g, cap, cur, q, _, _, hnc, _⟩
      · rw [q]; simp [Builtin.append_, run_underlying ht, sizeOf, typeInfo, hi, Builtin.lenOf, hfc, storeCells]
      · rw [q]; simp [Builtin.append_, run_underlying ht, sizeOf, typeInfo, hi, Builtin.lenOf, hfc, hnc, storeCells]
    · obtain ⟨ad, rfl, _, hx⟩ := HR.2.2 hp
      obtain ⟨news, hn, hc⟩ := reps_of (R := d.FK W okp) (sz := d.sz) (f := fun k => W.cell? (ad.add k)) ys 0 (fun j x hj => by
        obtain ⟨c, q1, q2⟩ := hx j x hj
        exact ⟨c, d.len q1, q1, fun i u hu => by rw [Nat.zero_add]; exact q2 i u hu⟩)
      obtain ⟨v1, w1, hrun, h2, hg, _, hat⟩ := run_append_own_at (P := P) W base t o.type e i0 z d.sz bytes ht hi hz0 hz1 hz2 hz hs0 (a.eval x) xs.length cs hown ad m c news (by rw [hn.len, HR.1]) (fun j u hu => by have := hc j u hu; rwa [Nat.zero_add] at this) (hn.one (fun _ _ q => d.one q)) (by simp only [maxLen]; omega) hl hb
      exact ⟨v1, w1, hrun, N_grown h0 hr hn hokp hf (by rw [HR.1]; exact h2) hg hat, hg, hat⟩
  obtain ⟨v1, w1, hr1, h1, hg, hat⟩ := key
  unfold Oper.wp execOp
  simp only [ho, resolve, invoke, builtin, Sem.run_bind, Sem.run_pure, Result.andThen_ok, List.map_toArray, List.map_cons, List.map_nil, hy, hr1]
  exact h v1 w1 h1 hg (hat.imp id (fun q => ⟨_, q, Nat.le_refl _⟩))
/-- Zeros onto nothing. -/
theorem N_zeros {x y : Operand} {t ti : TypeId} {z : Value} {bytes : Nat} {z0 : α} {k kx : IntKind} {n : Int} (ho : o.op = .call { callee := .builtin .append, args := #[x, y], argTypes := #[t, ti] })
    (ht : P.underlying t = some (.slice e)) (hti : P.underlying ti = some (.int k)) (hinfo : (P.info? e).map (fun i => (i.zero, i.size, i.bytes)) = some (some z, d.sz, bytes)) (hz : z.cells.size = d.sz) (hs0 : 0 < d.sz) (hb0 : 0 < bytes)
    (hx : a.eval x = .slice none 0 0) (hy : a.eval y = .int kx n) (hzero : d.FK W (fun _ => False) z0 z.cells.toList) (hf : ∀ k, W.heap.size ≤ k → ok k) (h0 : 0 ≤ n) (hb : base ≤ W.heap.size) (hl : n.toNat * bytes ≤ 140737488355328)
    (h : ∀ v1 w1, N d e w1 base ok v1 (List.replicate n.toNat z0) → W.grownBy w1 none → (∀ b, v1.ownBlock = some b → W.heap.size ≤ b) → K (a.put o.dst v1) w1) : o.wp P a W K Q := by
  obtain ⟨m, rfl⟩ := Int.eq_ofNat_of_zero_le h0
  simp only [Int.toNat_natCast] at hl h
  obtain ⟨i0, hi, hzz⟩ := Option.map_eq_some_iff.1 hinfo
  simp only [Prod.mk.injEq] at hzz
  obtain ⟨hz0, hz1, hz2⟩ := hzz
  have hm : m ≤ 140737488355328 := Nat.le_trans (Nat.le_mul_of_pos_right _ hb0) hl
  have key : ∃ v1 w1, (Builtin.append_ #[t, ti] o.type #[.slice none 0 0, .int kx (m : Int)]).run P W = .ok v1 w1 ∧ N d e w1 base ok v1 (List.replicate m z0) ∧ W.grownBy w1 none ∧ (v1.ownBlock = none ∨ v1.ownBlock = some W.heap.size) := by
    rcases Nat.eq_zero_or_pos m with hm0 | hp
    · subst hm0
      refine ⟨.slice none 0 0, W, ?_, N_nil _ _ _ _ _, ⟨rfl, rfl, rfl, Nat.le_refl _, fun _ _ _ => rfl⟩, .inl rfl⟩
      have hw0 : IntKind.i64.wrap 0 = 0 := by rw [IntKind.wrap_i64]; rfl
      simp [Builtin.append_, run_underlying ht, run_underlying hti, sizeOf, typeInfo, hi, asInt, asIntOf, hw0]
    · have a1 : IntKind.i64.wrap (m : Int) = m := by rw [IntKind.wrap_i64]; omega
      have a2 : ¬ (9223372036854775807 < (m : Int)) := by omega
      have a3 : ¬ (281474976710656 < Builtin.nextslicecap m 0 * i0.bytes) := by rw [nextslicecap_zero hp, hz2]; omega
      have a4 : ¬ (281474976710656 < (m : Int) * (i0.bytes : Int)) := by rw [← Int.natCast_mul, hz2]; omega
      have a5 : ¬ ((m : Int) < 0) := by omega
      have a6 : m ≠ 0 := by omega
      have a7 : m * i0.size ≠ 0 := Nat.mul_ne_zero a6 (by omega)
      have hrun : (Builtin.append_ #[t, ti] o.type #[.slice none 0 0, .int kx (m : Int)]).run P W = .ok (.slice (some ⟨W.heap.size, 0, none⟩) m (grownCap W m 0 e)) (W.drew.alloc (.cells (Builtin.zeroCells z.cells m ++ Builtin.zeroCells z.cells (grownCap W m 0 e - m)) e)) := by
        simp [Builtin.append_, run_underlying ht, run_underlying hti, sizeOf, typeInfo, zeroValue, hi, hz0, asInt, asIntOf, a1, a2, a3, a4, a5, a6, a7, Question.forced, run_firstCells_none, newRow, grownCap]
      have hge := grownCap_ge W m 0 e
      have hcm := grownCap_le_maxLen W m 0 e (by simp only [maxLen]; omega)
      have hzl : (Builtin.zeroCells z.cells m).toList = (List.replicate m z.cells.toList).flatten := by
        rw [← made_flat (by omega) m]; rfl
      have hrep : Reps (d.FK W (fun _ => False)) d.sz (List.replicate m z0) (Builtin.zeroCells z.cells m).toList := by rw [hzl]; exact Reps.rep (by simpa using hz) hzero m
      have hg : W.grownBy (W.drew.alloc (.cells (Builtin.zeroCells z.cells m ++ Builtin.zeroCells z.cells (grownCap W m 0 e - m)) e)) none := ⟨rfl, rfl, rfl, by simp, fun k hk _ => heap_alloc_old W.drew _ hk⟩
      refine ⟨_, _, hrun, ?_, hg, .inr rfl⟩
      have := N_grown (d := d) (W := W) (w1 := W.drew.alloc (.cells (Builtin.zeroCells z.cells m ++ Builtin.zeroCells z.cells (grownCap W m 0 e - m)) e)) (base := base) (e := e) (ok := ok) (okp := fun _ => False) (v := .slice none 0 0) (v1 := .slice (some ⟨W.heap.size, 0, none⟩) m (grownCap W m 0 e)) (xs := []) (ys := List.replicate m z0) (cs := []) (fun k hk => by cases hk) rfl hrep (fun _ hk => hk.elim) hf ⟨by simpa using hrep.len, .inr ⟨W.heap.size, _, _, by simp, hb, heap_alloc_new W.drew _, by simpa using hge, hcm, ?_, ?_⟩⟩ hg (.inr rfl)
      · simpa using this
      · simp only [Array.size_append, size_zeroCells, hz, ← Nat.add_mul]; congr 1; omega
      · have hl2 : m * d.sz = (Builtin.zeroCells z.cells m).toList.length := by rw [Array.length_toList, size_zeroCells, hz]
        simp only [List.length_nil, Nat.zero_add, List.length_replicate, List.nil_append, Array.toList_append, hl2, List.take_left]
  obtain ⟨v1, w1, hr1, h1, hg, hat⟩ := key
  unfold Oper.wp execOp
  simp only [ho, resolve, invoke, builtin, Sem.run_bind, Sem.run_pure, Result.andThen_ok, List.map_toArray, List.map_cons, List.map_nil, hx, hy, hr1]
  exact h v1 w1 h1 hg (fun b q => by
    rcases hat with h | h <;> rw [h] at q
    · cases q
    · injection q with q; omega)
end
end Kd
end Go.Proofs.Ytinopkpnlibopaa.Ab
