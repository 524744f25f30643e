import Derived.Test.YtinopkpnlibopaaQZAbG0
import Derived.KernelRfl
/- The plain law, and what it hangs on. -/
/- A program that may be is the program of a tree. -/
namespace Go.Proofs.Ytinopkpnlibopaa.Ab
open Go.RowKit Tr
set_option linter.unusedSimpArgs false
set_option linter.unusedVariables false
theorem prGo_split {l : List I4} : ∀ (a b i : Nat) (s : List Int × List Int), prGo l (a + b) i s = (prGo l a i s).bind (prGo l b (i + a))
 | 0, b, i, s => by rw [Nat.zero_add, prGo]; rfl
 | a + 1, b, i, s => by
  rw [show a + 1 + b = (a + b) + 1 by omega, prGo, prGo]
  cases h : prStep l i s with
  | none => rfl
  | some t => rw [Option.bind_some, Option.bind_some, prGo_split a b (i + 1) t, show i + 1 + a = i + (a + 1) by omega]
theorem prStep_keep {l : List I4} {i : Nat} {s s' : List Int × List Int} (hi : PrI l i s.1 s.2) (h : prStep l i s = some s') : ∀ k : Nat, k < i → isOp l 9 k → (k : Int) ∉ s.2 → s'.1.getD k 0 = s.1.getD k 0 ∧ (k : Int) ∉ s'.2 := by
 intro k hk h9 ho
 unfold prStep at h
 split at h
 ·split at h
  ·cases h
  ·injection h with h; subst h
   refine ⟨rfl, fun h2 => ?_⟩
   rcases List.mem_append.1 h2 with h2 | h2
   ·exact ho h2
   ·have := List.mem_singleton.1 h2; omega
 ·split at h
  ·split at h
   ·cases h
   ·rename_i x hx
    split at h
    ·cases h
    ·injection h with h; subst h
     have hxm := List.mem_of_getLast? hx
     have := hi.small x hxm
     obtain ⟨n, rfl⟩ : ∃ n : Nat, x = (n : Int) := ⟨x.toNat, by omega⟩
     refine ⟨?_, fun h2 => ho ((List.dropLast_sublist _).subset h2)⟩
     show (upd s.1 (n : Int) (i : Int)).getD k 0 = _
     rw [upd_nat, set_get, if_neg]
     rintro ⟨rfl, _⟩
     exact ho hxm
  ·injection h with h; subst h; exact ⟨rfl, ho⟩
theorem prGo_keep {l : List I4} : ∀ (m i : Nat) (s s' : List Int × List Int), i + m ≤ l.length → PrI l i s.1 s.2 → prGo l m i s = some s' → ∀ k : Nat, k < i → isOp l 9 k → (k : Int) ∉ s.2 → s'.1.getD k 0 = s.1.getD k 0
 | 0, i, s, s', _, _, h, k, _, _, _ => by injection h with h; subst h; rfl
 | m + 1, i, s, s', hm, hi, h, k, hk, h9, ho => by
  rw [prGo, Option.bind_eq_some_iff] at h
  obtain ⟨t, h1, h2⟩ := h
  have := prStep_keep hi h1 k hk h9 ho
  rw [prGo_keep m (i + 1) t s' (by omega) (prI_step (by omega) hi h1) h2 k (by omega) h9 this.2, this.1]
theorem pr_at {l : List I4} {ps : List Int} (h : prs l = some ps) {n : Nat} (hn : n ≤ l.length) : ∃ s : List Int × List Int, PrI l n s.1 s.2 ∧ prGo l (l.length - n) n s = some (ps, []) ∧ ∀ k, k < n → isOp l 9 k → ((k : Int) ∈ s.2 ↔ (n : Int) ≤ ps.getD k 0) := by
 have hg := prs_go h
 have h0 : PrI l 0 (List.replicate l.length 0) [] := ⟨by simp, List.Pairwise.nil, (fun _ h => by cases h), (fun _ h => by cases h), fun _ h => by omega, fun _ _ _ h => by omega, fun _ _ _ h => by omega, rfl⟩
 rw [show l.length = n + (l.length - n) by omega, prGo_split, Nat.zero_add, Option.bind_eq_some_iff] at hg
 obtain ⟨s, h1, h2⟩ := hg
 have hinv : ∀ (m i : Nat) (s s' : List Int × List Int), i + m ≤ l.length → PrI l i s.1 s.2 → prGo l m i s = some s' → PrI l (i + m) s'.1 s'.2 := by
  intro m
  induction m with
  | zero => intro i s s' _ hi h; injection h with h; subst h; exact hi
  | succ m ih =>
   intro i s s' hm hi h
   rw [prGo, Option.bind_eq_some_iff] at h
   obtain ⟨t, h1, h2⟩ := h
   have := ih (i + 1) t s' (by omega) (prI_step (by omega) hi h1) h2
   rw [show i + (m + 1) = i + 1 + m by omega]; exact this
 have hln : n + (l.length - n) = l.length := by omega
 rw [hln] at h1
 have hs := hinv n 0 _ s (by omega) h0 h1
 rw [Nat.zero_add] at hs
 refine ⟨s, hs, h2, fun k hk h9 => ?_⟩
 constructor
 ·intro ho
  -- it is closed behind
  have hfin := prI_prs h
  obtain ⟨u, g1, g2, g3, _⟩ := hfin.closed k (by omega) h9 (by simp)
  rw [g1]
  have key : ∀ (m i : Nat) (s s' : List Int × List Int), i + m ≤ l.length → PrI l i s.1 s.2 → prGo l m i s = some s' → (k : Int) ∈ s.2 → (k : Int) ∈ s'.2 ∨ (i : Int) ≤ s'.1.getD k 0 := by
   intro m
   induction m with
   | zero => intro i s s' _ _ h ho; injection h with h; subst h; exact .inl ho
   | succ m ih =>
    intro i s s' hm hi h ho
    rw [prGo, Option.bind_eq_some_iff] at h
    obtain ⟨t, h1, h2⟩ := h
    have hi' := prI_step (by omega) hi h1
    by_cases e : (k : Int) ∈ t.2
    ·rcases ih (i + 1) t s' (by omega) hi' h2 e with q | q
     ·exact .inl q
     ·exact .inr (by omega)
    ·right
     have hkl := hi.small _ ho
     rw [prGo_keep m (i + 1) t s' (by omega) hi' h2 k (by omega) h9 e]
     -- it was closed at i
     unfold prStep at h1
     split at h1
     ·split at h1
      ·cases h1
      ·injection h1 with h1; subst h1
       exact absurd (List.mem_append_left _ ho) e
     ·split at h1
      ·split at h1
       ·cases h1
       ·rename_i x hx
        split at h1
        ·cases h1
        ·injection h1 with h1; subst h1
         have hxm := hi.small x (List.mem_of_getLast? hx)
         obtain ⟨n', rfl⟩ : ∃ n' : Nat, x = (n' : Int) := ⟨x.toNat, by omega⟩
         have hlen := hi.len
         show (i : Int) ≤ (upd s.1 (n' : Int) (i : Int)).getD k 0
         have hkn : n' = k := by
          by_cases hq : n' = k
          ·exact hq
          ·exfalso; apply e
           obtain ⟨r, hr⟩ : ∃ r, s.2 = r ++ [(n' : Int)] := by
            rcases List.eq_nil_or_concat s.2 with e | ⟨r, y, e⟩
            ·rw [e] at hx; cases hx
            ·rw [List.concat_eq_append] at e
             rw [e] at hx; simp at hx; subst hx; exact ⟨r, e⟩
           show (k : Int) ∈ s.2.dropLast
           rw [hr] at ho ⊢
           rw [List.dropLast_concat]
           rcases List.mem_append.1 ho with h | h
           ·exact h
           ·have := List.mem_singleton.1 h; omega
         rw [upd_nat, set_get, if_pos ⟨hkn, by omega⟩]; omega
      ·injection h1 with h1; subst h1; exact absurd ho e
  rcases key (l.length - n) n s (ps, []) (by omega) hs h2 ho with q | q
  ·cases q
  ·simp only at q; omega
 ·intro hge
  by_cases ho : (k : Int) ∈ s.2
  ·exact ho
  ·obtain ⟨u, g1, g2, g3, _⟩ := hs.closed k hk h9 ho
   have := prGo_keep (l.length - n) n s (ps, []) (by omega) hs h2 k hk h9 ho
   simp only at this
   omega
structure Prs (l : List I4) (ps : List Int) : Prop where
 lock : ∀ n, n < l.length → isOp l 9 n → ∃ u : Nat, ps.getD n 0 = (u : Int) ∧ n < u ∧ u < l.length ∧ isOp l 10 u ∧ semOf l u = semOf l n
 nest : ∀ k j, k < j → j < l.length → isOp l 9 k → isOp l 9 j → (j : Int) < ps.getD k 0 → ps.getD j 0 < ps.getD k 0 ∧ semOf l k ≠ semOf l j
 two : ∀ a b n, a < b → b < n → n < l.length → isOp l 9 a → isOp l 9 b → isOp l 9 n → (n : Int) < ps.getD a 0 → (n : Int) < ps.getD b 0 → False
 unlock : ∀ u, u < l.length → isOp l 10 u → ∃ n, n < u ∧ isOp l 9 n ∧ ps.getD n 0 = (u : Int)
 area : ∀ n, n < l.length → isOp l 9 n → ∀ u : Nat, ps.getD n 0 = (u : Int) → sepA l n u = false
theorem prs_facts {l : List I4} {ps : List Int} (h : prs l = some ps) : Prs l ps := by
 have hf := prI_prs h
 have stepAt : ∀ n, n < l.length → ∃ s t : List Int × List Int, PrI l n s.1 s.2 ∧ prStep l n s = some t ∧ PrI l (n + 1) t.1 t.2 ∧ prGo l (l.length - (n + 1)) (n + 1) t = some (ps, []) ∧ ∀ k, k < n → isOp l 9 k → ((k : Int) ∈ s.2 ↔ (n : Int) ≤ ps.getD k 0) := fun n hn => by
  obtain ⟨s, h1, h2, h3⟩ := pr_at h (n := n) (by omega)
  rw [show l.length - n = (l.length - (n + 1)) + 1 by omega, prGo, Option.bind_eq_some_iff] at h2
  obtain ⟨t, h4, h5⟩ := h2
  exact ⟨s, t, h1, h4, prI_step hn h1 h4, h5, h3⟩
 have unl : ∀ u, u < l.length → isOp l 10 u → ∃ n, n < u ∧ isOp l 9 n ∧ ps.getD n 0 = (u : Int) ∧ sepA l n u = false := fun u hu h10 => by
  obtain ⟨s, t, h1, h2, h3, h4, h5⟩ := stepAt u hu
  have h10' : (l.getD u i0).1 = 10 := h10
  unfold prStep at h2
  rw [if_neg (by rw [h10']; decide), if_pos h10'] at h2
  split at h2
  ·cases h2
  ·rename_i x hx
   split at h2
   ·cases h2
   ·rename_i hc
    injection h2 with h2; subst h2
    have hxm := List.mem_of_getLast? hx
    have hsm := h1.small x hxm
    obtain ⟨n, rfl⟩ : ∃ n : Nat, x = (n : Int) := ⟨x.toNat, by omega⟩
    have hl := h1.lock n hxm
    have hlen := h1.len
    refine ⟨n, by omega, hl, ?_, ?_⟩
    ·have hno : (n : Int) ∉ s.2.dropLast := by
      have hsort := h1.sorted
      obtain ⟨r, hr⟩ : ∃ r, s.2 = r ++ [(n : Int)] := by
       rcases List.eq_nil_or_concat s.2 with e | ⟨r, y, e⟩
       ·rw [e] at hx; cases hx
       ·rw [List.concat_eq_append] at e
        rw [e] at hx; simp at hx; subst hx; exact ⟨r, e⟩
      rw [hr, List.pairwise_append] at hsort
      rw [hr, List.dropLast_concat]
      intro e
      have := hsort.2.2 _ e (n : Int) (by simp); omega
     have := prGo_keep (l.length - (u + 1)) (u + 1) (upd s.1 (n : Int) (u : Int), s.2.dropLast) (ps, []) (by omega) h3 h4 n (by omega) hl hno
     simp only at this
     rw [this, upd_nat, set_get, if_pos ⟨rfl, by omega⟩]
    ·cases hs : sepA l n u with
     | false => rfl
     | true => exact absurd (.inr (by rw [Int.toNat_natCast]; exact hs)) hc
 refine ⟨fun n hn h9 => ?_, fun k j hkj hj h1 h2 h3 => ?_, fun a b n hab hbn hn h1 h2 h3 h4 h5 => ?_, fun u hu h10 => ?_, fun n hn h9 u hu => ?_⟩
 ·exact hf.closed n hn h9 (by simp)
 ·obtain ⟨_, q2, q3⟩ := hf.nest k j hkj hj h1 h2 (by simp) h3
  exact ⟨q2, q3⟩
 ·obtain ⟨s, t, g1, g2, _, _, g5⟩ := stepAt n hn
  have ha := (g5 a (by omega) h1).2 (by omega)
  have hb := (g5 b hbn h2).2 (by omega)
  have h9 : (l.getD n i0).1 = 9 := h3
  unfold prStep at g2
  rw [if_pos h9] at g2
  split at g2
  ·cases g2
  ·rename_i hc
   have hlt : s.2.length < 2 := by
    by_cases e : s.2.length < 2
    ·exact e
    ·exact absurd (.inl (by omega)) hc
   match hs : s.2, ha, hb, hlt with
   | [], ha, _, _ => cases ha
   | [y], ha, hb, _ =>
    have e1 := List.mem_singleton.1 ha
    have e2 := List.mem_singleton.1 hb
    omega
   | y :: z :: r, _, _, hlt => simp only [List.length_cons] at hlt; omega
 ·obtain ⟨n, q1, q2, q3, _⟩ := unl u hu h10
  exact ⟨n, q1, q2, q3⟩
 ·obtain ⟨u', g1, g2, g3, g4, _⟩ := hf.closed n hn h9 (by simp)
  have : u' = u := by omega
  subst this
  obtain ⟨n', q1, q2, q3, q4⟩ := unl u' g3 g4
  by_cases e : n' = n
  ·subst e; exact q4
  ·exfalso
   by_cases lt : n' < n
   ·have := (hf.nest n' n lt hn q2 h9 (by simp) (by omega)).2.1; omega
   ·have := (hf.nest n n' (by omega) (by omega) h9 q2 (by simp) (by omega)).2.1; omega
theorem three_bodies {l : List I4} (hm : ∀ x ∈ l, mayI x = true) (hl : l.length ≤ 900) {a b c : Nat} {j : Int} (hab : a < b) (hbc : b < c) (hc : c < l.length) (h : ∀ n, n = a ∨ n = b ∨ n = c → (l.getD n i0).1 = 8 ∧ (n : Int) < j ∧ j ≤ n + wd (l.getD n i0)) : 3 ≤ cB j (pcs 0 l) := by
 have one : ∀ n, n = a ∨ n = b ∨ n = c → cB j (pc n (l.getD n i0)) = 1 := fun n hn => by
  obtain ⟨h8, h1, h2⟩ := h n hn
  have hlt : n < l.length := by omega
  have hA : isA (l.getD n i0) = true := by simp only [isA, h8]; rfl
  rw [pc_may (hm _ (getD_mem hlt)) (by omega), if_pos hA, cB, List.countP_cons, List.countP_nil]
  have e3 : (arOf n (l.getD n i0)).2.2.2 = true := by simp only [arOf, h8]; rfl
  rw [e3, show hasA (arOf n (l.getD n i0)) j = true by rw [has_iff]; simp only [arOf]; omega]; rfl
 have up : ∀ n, n < l.length → cB j (pcs 0 (l.take (n + 1))) = cB j (pcs 0 (l.take n)) + cB j (pc n (l.getD n i0)) := fun n hn => by
  have : l.take (n + 1) = l.take n ++ [l.getD n i0] := by rw [List.take_add_one, getD_in hn, List.getElem?_eq_getElem hn]; rfl
  rw [this, pcs_app, cB_app, List.length_take, Nat.zero_add, show min n l.length = n by omega]
  simp [pcs]
 have mono : ∀ d n, n + d ≤ l.length → cB j (pcs 0 (l.take n)) ≤ cB j (pcs 0 (l.take (n + d))) := fun d => by
  induction d with
  | zero => intro n _; simp
  | succ d ih => intro n hn; have := ih n (by omega); rw [show n + (d + 1) = n + d + 1 by omega, up (n + d) (by omega)]; omega
 have h1 := up a (by omega)
 have h2 := up b (by omega)
 have h3 := up c (by omega)
 rw [one a (.inl rfl)] at h1
 rw [one b (.inr (.inl rfl))] at h2
 rw [one c (.inr (.inr rfl))] at h3
 have m1 := mono (b - (a + 1)) (a + 1) (by omega)
 have m2 := mono (c - (b + 1)) (b + 1) (by omega)
 have m3 := mono (l.length - (c + 1)) (c + 1) (by omega)
 rw [show a + 1 + (b - (a + 1)) = b by omega] at m1
 rw [show b + 1 + (c - (b + 1)) = c by omega] at m2
 rw [show c + 1 + (l.length - (c + 1)) = l.length by omega, List.take_length] at m3
 omega
def Bd (l : List I4) (o e : Nat) : Nat → Prop
 | 0 => True
 | 1 => ∃ a, a < o ∧ isOp l 8 a ∧ e ≤ a + wd (l.getD a i0) + 1
 | 2 => ∃ a b, a < b ∧ b < o ∧ isOp l 8 a ∧ isOp l 8 b ∧ e ≤ a + wd (l.getD a i0) + 1 ∧ e ≤ b + wd (l.getD b i0) + 1
 | _ + 3 => False
def Hd (l : List I4) (ps : List Int) (o e : Nat) (hs : List Int) : Prop := ∃ H : List Nat, hs = H.map (semOf l) ∧ H.Pairwise (· < ·) ∧ ∀ k ∈ H, k < o ∧ isOp l 9 k ∧ (e : Int) ≤ ps.getD k 0
theorem Bd_sub {l : List I4} {o e o' e' : Nat} (ho : o ≤ o') (he : e' ≤ e) : ∀ {d : Nat}, Bd l o e d → Bd l o' e' d
 | 0, _ => trivial
 | 1, ⟨a, h1, h2, h3⟩ => ⟨a, by omega, h2, by omega⟩
 | 2, ⟨a, b, h1, h2, h3, h4, h5, h6⟩ => ⟨a, b, h1, by omega, h3, h4, by omega, by omega⟩
 | _ + 3, h => h.elim
theorem Hd_sub {l : List I4} {ps : List Int} {o e o' e' : Nat} {hs : List Int} (ho : o ≤ o') (he : e' ≤ e) (h : Hd l ps o e hs) : Hd l ps o' e' hs := by
 obtain ⟨H, h1, h2, h3⟩ := h
 exact ⟨H, h1, h2, fun k hk => by obtain ⟨q1, q2, q3⟩ := h3 k hk; exact ⟨by omega, q2, by omega⟩⟩
theorem At_one {l : List I4} {o : Nat} {x : I4} {w : List I4} (hx : l.getD o i0 = x) (hl : o < l.length) (h : At l (o + 1) w) : At l o (x :: w) := by
 obtain ⟨h1, h2⟩ := h
 refine ⟨by simp only [List.length_cons]; omega, fun j hj => ?_⟩
 cases j with
 | zero => simpa using hx
 | succ j =>
  simp only [List.length_cons] at hj
  rw [List.getD_cons_succ, ← h2 j (by omega)]; congr 1; omega
theorem At_two {l : List I4} {o : Nat} {u w : List I4} (h1 : At l o u) (h2 : At l (o + u.length) w) : At l o (u ++ w) := by
 obtain ⟨a1, a2⟩ := h1
 obtain ⟨b1, b2⟩ := h2
 refine ⟨by simp only [List.length_append]; omega, fun j hj => ?_⟩
 simp only [List.length_append] at hj
 by_cases e : j < u.length
 ·rw [getD_app_l e, a2 j e]
 ·rw [getD_app_r (by omega), ← b2 (j - u.length) (by omega)]; congr 1; omega
theorem op_cases {x : I4} (h : mayI x = true) : x.1 = 0 ∨ x.1 = 7 ∨ x.1 = 8 ∨ x.1 = 9 ∨ x.1 = 10 ∨ plain x := by unfold plain; omega
theorem may9 {x : I4} (h : mayI x = true) (e : x.1 = 9 ∨ x.1 = 10) : (0 ≤ x.2.1 ∧ x.2.1 ≤ 3) ∧ x.2.2.1 = 0 ∧ x.2.2.2 = 0 := by
 rcases e with e | e <;> simpa [mayI, e, witI] using h
theorem parse {l : List I4} {ps : List Int} (g : GoodA l ps) (P : Prs l ps) : ∀ (len o d : Nat) (hs : List Int) (ia : Bool), o + len < l.length → (∀ n, o ≤ n → n < o + len → n + wd (l.getD n i0) < o + len) →
  (∀ n, o ≤ n → n < o + len → isOp l 9 n → ps.getD n 0 < ((o + len : Nat) : Int)) → (∀ n u : Nat, o ≤ u → u < o + len → isOp l 9 n → ps.getD n 0 = (u : Int) → o ≤ n) →
  Bd l o (o + len) d → Hd l ps o (o + len) hs → (ia = true → ∃ a, a < o ∧ isA (l.getD a i0) = true ∧ o + len ≤ a + wd (l.getD a i0) + 1) →
  ∃ t : Tr, t.len = len ∧ At l o t.flat ∧ Ok d hs ia t := by
 have hl2 := g.len2
 intro len
 induction len using Nat.strongRecOn with
 | _ len ih =>
 intro o d hs ia hlen S1 S2 S3 hB hH hI
 match len, ih, hlen, S1, S2, S3, hB, hH, hI with
 | 0, _, _, _, _, _, _, _, _ => exact ⟨.nil, rfl, ⟨by simp [Tr.flat]; omega, by simp [Tr.flat]⟩, trivial⟩
 | len + 1, ih, hlen, S1, S2, S3, hB, hH, hI =>
 have hol : o < l.length := by omega
 have hm := g.may _ (getD_mem (z := i0) hol)
 rcases op_cases hm with e | e | e | e | e | e
 ·exact absurd ((g.end_ o hol).1 e) (by omega)
 ·-- a reach
  have hA : isA (l.getD o i0) = true := by simp only [isA, e]; rfl
  have hw := mayA_wd hm hA
  have h1 := S1 o (by omega) (by omega)
  obtain ⟨n, hn⟩ : ∃ n, n = wd (l.getD o i0) := ⟨_, rfl⟩
  rw [← hn] at h1 hw
  have inb : ∀ n', o < n' → n' ≤ o + n → n' + wd (l.getD n' i0) ≤ o + n := fun n' q1 q2 => (by have := nest_wd g hA (n := n') (by omega) (by rw [← hn]; exact ⟨q1, q2⟩); omega)
  obtain ⟨b, b1, b2, b3⟩ := ih n (by omega) (o + 1) d hs true (by omega) (fun n' q1 q2 => by have := inb n' (by omega) (by omega); omega)
   (fun n' q1 q2 q3 => (by have := lock_area g P hA (n := n') (by omega) q3 (by omega) (by omega); omega))
   (fun n' u q1 q2 q3 q4 => lock_area_back g P hA q3 q4 (by omega) (by omega))
   (Bd_sub (by omega) (by omega) hB) (Hd_sub (by omega) (by omega) hH) (fun _ => ⟨o, by omega, hA, by omega⟩)
  obtain ⟨r, r1, r2, r3⟩ := ih (len - n) (by omega) (o + 1 + n) d hs ia (by omega) (fun n' q1 q2 => by have := S1 n' (by omega) (by omega); omega)
   (fun n' q1 q2 q3 => by have := S2 n' (by omega) (by omega) q3; omega)
   (fun n' u q1 q2 q3 q4 => by
    have := S3 n' u (by omega) (by omega) q3 q4
    by_cases f : n' = o
    ·subst f; exact absurd (show (l.getD n' i0).1 = 9 from q3) (by omega)
    ·by_cases f2 : n' ≤ o + n
     ·have := lock_area g P hA (by omega) q3 (show o < n' by omega) (by omega); omega
     ·omega)
   (Bd_sub (by omega) (by omega) hB) (Hd_sub (by omega) (by omega) hH) (fun q => by obtain ⟨a, a1, a2, a3⟩ := hI q; exact ⟨a, by omega, a2, by omega⟩)
  refine ⟨.ar (l.getD o i0) b r, by simp only [Tr.len]; omega, ?_, ⟨hm, hA, by omega⟩, fun e2 => by omega, ?_, r3⟩
  ·simp only [Tr.flat]
   exact At_one rfl hol (At_two b2 (by rw [flat_len, b1]; exact r2))
  ·rw [show ((l.getD o i0).1 == 8) = false by rw [e]; rfl]; exact b3
 ·-- a body
  have hA : isA (l.getD o i0) = true := by simp only [isA, e]; rfl
  have hw := mayA_wd hm hA
  have h1 := S1 o (by omega) (by omega)
  obtain ⟨n, hn⟩ : ∃ n, n = wd (l.getD o i0) := ⟨_, rfl⟩
  rw [← hn] at h1 hw
  have inb : ∀ n', o < n' → n' ≤ o + n → n' + wd (l.getD n' i0) ≤ o + n := fun n' q1 q2 => (by have := nest_wd g hA (n := n') (by omega) (by rw [← hn]; exact ⟨q1, q2⟩); omega)
  have hd : d < 2 ∧ Bd l (o + 1) (o + 1 + n) (d + 1) := by
   match d, hB with
   | 0, _ => exact ⟨by omega, o, by omega, e, by omega⟩
   | 1, ⟨a, a1, a2, a3⟩ => exact ⟨by omega, a, o, a1, by omega, a2, e, by omega, by omega⟩
   | 2, ⟨a, b, a1, a2, a3, a4, a5, a6⟩ =>
    have := three_bodies g.may (by omega) (a := a) (b := b) (c := o) (j := ((o + 1 : Nat) : Int)) a1 a2 hol (fun n' hn' => by
     rcases hn' with rfl | rfl | rfl
     ·exact ⟨a3, by omega, by omega⟩
     ·exact ⟨a4, by omega, by omega⟩
     ·exact ⟨e, by omega, by omega⟩)
    have := g.bodies (o + 1) (by omega)
    omega
   | _ + 3, h => exact h.elim
  obtain ⟨b, b1, b2, b3⟩ := ih n (by omega) (o + 1) (d + 1) hs true (by omega) (fun n' q1 q2 => by have := inb n' (by omega) (by omega); omega)
   (fun n' q1 q2 q3 => (by have := lock_area g P hA (n := n') (by omega) q3 (by omega) (by omega); omega))
   (fun n' u q1 q2 q3 q4 => lock_area_back g P hA q3 q4 (by omega) (by omega))
   hd.2 (Hd_sub (by omega) (by omega) hH) (fun _ => ⟨o, by omega, hA, by omega⟩)
  obtain ⟨r, r1, r2, r3⟩ := ih (len - n) (by omega) (o + 1 + n) d hs ia (by omega) (fun n' q1 q2 => by have := S1 n' (by omega) (by omega); omega)
   (fun n' q1 q2 q3 => by have := S2 n' (by omega) (by omega) q3; omega)
   (fun n' u q1 q2 q3 q4 => by
    have := S3 n' u (by omega) (by omega) q3 q4
    by_cases f : n' = o
    ·subst f; exact absurd (show (l.getD n' i0).1 = 9 from q3) (by omega)
    ·by_cases f2 : n' ≤ o + n
     ·have := lock_area g P hA (by omega) q3 (show o < n' by omega) (by omega); omega
     ·omega)
   (Bd_sub (by omega) (by omega) hB) (Hd_sub (by omega) (by omega) hH) (fun q => by obtain ⟨a, a1, a2, a3⟩ := hI q; exact ⟨a, by omega, a2, by omega⟩)
  refine ⟨.ar (l.getD o i0) b r, by simp only [Tr.len]; omega, ?_, ⟨hm, hA, by omega⟩, fun _ => hd.1, ?_, r3⟩
  ·simp only [Tr.flat]
   exact At_one rfl hol (At_two b2 (by rw [flat_len, b1]; exact r2))
  ·rw [show ((l.getD o i0).1 == 8) = true by rw [e]; rfl]; exact b3
 ·-- a pair
  obtain ⟨u, u1, u2, u3, u4, u5⟩ := P.lock o hol e
  have hu := S2 o (by omega) (by omega) e
  rw [u1] at hu
  have h9 := may9 hm (.inl e)
  have hmu := may9 (g.may _ (getD_mem (z := i0) u3)) (.inr u4)
  have hxo : l.getD o i0 = (9, semOf l o, 0, 0) := Prod.ext e (Prod.ext rfl (Prod.ext h9.2.1 h9.2.2))
  have hxu : l.getD u i0 = (10, semOf l o, 0, 0) := Prod.ext u4 (Prod.ext u5 (Prod.ext hmu.2.1 hmu.2.2))
  have hsep := (sepA_none g.may (by omega)).1 (P.area o hol e u u1)
  obtain ⟨H, H1, H2, H3⟩ := hH
  have hnot : semOf l o ∉ hs := by
   rw [H1]; intro hq
   obtain ⟨k, k1, k2⟩ := List.mem_map.1 hq
   obtain ⟨k3, k4, k5⟩ := H3 k k1
   exact (P.nest k o k3 hol k4 e (by omega)).2 k2
  have hfew : hs.length < 2 := by
   rw [H1, List.length_map]
   match H, H2, H3 with
   | [], _, _ => simp
   | [a], _, _ => simp
   | a :: b :: q, H2, H3 =>
    exfalso
    obtain ⟨a1, a2, a3⟩ := H3 a (by simp)
    obtain ⟨b1, b2, b3⟩ := H3 b (by simp)
    have hab : a < b := (List.pairwise_cons.1 H2).1 b (by simp)
    exact P.two a b o hab b1 hol a2 b2 e (by omega) (by omega)
  obtain ⟨b, b1, b2, b3⟩ := ih (u - (o + 1)) (by omega) (o + 1) d (hs ++ [semOf l o]) ia (by omega) (fun n' q1 q2 => by
    by_cases hA : isA (l.getD n' i0) = true
    ·have := hsep n' (by omega) hA
     by_cases f : n' + wd (l.getD n' i0) < o + 1 + (u - (o + 1))
     ·exact f
     ·have := this.2 ⟨by omega, by omega⟩; omega
    ·rw [wd_zero (by simpa using hA)]; omega)
   (fun n' q1 q2 q3 => by have := (P.nest o n' (by omega) (by omega) e q3 (by omega)).1; omega)
   (fun n' v q1 q2 q3 q4 => by
    have := S3 n' v (by omega) (by omega) q3 q4
    by_cases f : n' = o
    ·subst f; omega
    ·omega)
   (Bd_sub (by omega) (by omega) hB) ⟨H ++ [o], by rw [H1, List.map_append]; rfl, by
    rw [List.pairwise_append]
    exact ⟨H2, List.pairwise_singleton _ _, fun a ha b hb => by rw [List.mem_singleton.1 hb]; exact (H3 a ha).1⟩, fun k hk => by
    rcases List.mem_append.1 hk with hk | hk
    ·obtain ⟨k1, k2, k3⟩ := H3 k hk; exact ⟨by omega, k2, by omega⟩
    ·rw [List.mem_singleton.1 hk]; exact ⟨by omega, e, by omega⟩⟩ (fun q => by obtain ⟨a, a1, a2, a3⟩ := hI q; exact ⟨a, by omega, a2, by omega⟩)
  obtain ⟨r, r1, r2, r3⟩ := ih (o + len - u) (by omega) (u + 1) d hs ia (by omega) (fun n' q1 q2 => by have := S1 n' (by omega) (by omega); omega)
   (fun n' q1 q2 q3 => by have := S2 n' (by omega) (by omega) q3; omega)
   (fun n' v q1 q2 q3 q4 => by
    have := S3 n' v (by omega) (by omega) q3 q4
    by_cases f : n' = o
    ·subst f; omega
    ·by_cases f2 : n' < u
     ·have := (P.nest o n' (by omega) (by omega) e q3 (by omega)).1; omega
     ·by_cases f3 : n' = u
      ·subst f3; exact absurd (show (l.getD n' i0).1 = 9 from q3) (by rw [show (l.getD n' i0).1 = 10 from u4]; decide)
      ·omega)
   (Bd_sub (by omega) (by omega) hB) (Hd_sub (by omega) (by omega) ⟨H, H1, H2, H3⟩) (fun q => by obtain ⟨a, a1, a2, a3⟩ := hI q; exact ⟨a, by omega, a2, by omega⟩)
  refine ⟨.lk (semOf l o) b r, by simp only [Tr.len]; omega, ?_, h9.1, ⟨hnot, hfew⟩, b3, r3⟩
  simp only [Tr.flat]
  refine At_one hxo hol (At_two b2 ?_)
  rw [flat_len, b1, show o + 1 + (u - (o + 1)) = u by omega]
  exact At_one hxu u3 r2
 ·-- an unlock whose lock stands ahead of all
  obtain ⟨n', q1, q2, q3⟩ := P.unlock o hol e
  have := S3 n' o (by omega) (by omega) q2 q3
  omega
 ·-- a plain one
  obtain ⟨r, r1, r2, r3⟩ := ih len (by omega) (o + 1) d hs ia (by omega) (fun n' q1 q2 => by have := S1 n' (by omega) (by omega); omega)
   (fun n' q1 q2 q3 => by have := S2 n' (by omega) (by omega) q3; omega)
   (fun n' v q1 q2 q3 q4 => by
    have := S3 n' v (by omega) (by omega) q3 q4
    by_cases f : n' = o
    ·subst f; exact absurd q3 e.2.2.2.1
    ·omega)
   (Bd_sub (by omega) (by omega) hB) (Hd_sub (by omega) (by omega) hH) (fun q => by obtain ⟨a, a1, a2, a3⟩ := hI q; exact ⟨a, by omega, a2, by omega⟩)
  refine ⟨.one (l.getD o i0) r, by simp only [Tr.len]; omega, At_one rfl hol r2, hm, e, fun e11 => ?_, r3⟩
  obtain ⟨m1, m2⟩ := g.marks o hol e11
  constructor
  ·cases ia with
   | false => rfl
   | true =>
    exfalso
    obtain ⟨a, a1, a2, a3⟩ := hI rfl
    rw [List.any_eq_false] at m1
    have := m1 (arOf a (l.getD a i0)) ((pcs_mem_iff l 0 _ g.may (by omega)).2 ⟨a, by omega, a2, by rw [Nat.zero_add]⟩)
    rw [has_iff] at this
    simp only [arOf] at this
    omega
  ·obtain ⟨H, H1, H2, H3⟩ := hH
   cases H with
   | nil => exact H1
   | cons k q =>
    exfalso
    obtain ⟨k1, k2, k3⟩ := H3 k (by simp)
    have := m2 k k1
    omega
where
 nest_wd {l : List I4} {ps : List Int} (g : GoodA l ps) {o n : Nat} (hA : isA (l.getD o i0) = true) (hn : n < l.length) (h : o < n ∧ n ≤ o + wd (l.getD o i0)) : n + wd (l.getD n i0) ≤ o + wd (l.getD o i0) := by
  have hl2 := g.len2
  by_cases hB : isA (l.getD n i0) = true
  ·have := g.bad (arOf n (l.getD n i0)) ((pcs_mem_iff l 0 _ g.may (by omega)).2 ⟨n, hn, hB, by rw [Nat.zero_add]⟩) (arOf o (l.getD o i0)) ((pcs_mem_iff l 0 _ g.may (by omega)).2 ⟨o, by omega, hA, by rw [Nat.zero_add]⟩)
   unfold badA at this
   rw [Bool.or_eq_false_iff] at this
   have h2 := this.1
   have hq : hasA (arOf o (l.getD o i0)) (arOf n (l.getD n i0)).2.2.1 = true := has_iff.2 (by simp only [arOf]; omega)
   rw [hq, Bool.true_and, Bool.not_eq_false'] at h2
   unfold inA at h2
   rw [Bool.and_eq_true, has_iff, has_iff] at h2
   simp only [arOf] at h2
   omega
  ·rw [wd_zero (by simpa using hB)]; omega
 lock_area {l : List I4} {ps : List Int} (g : GoodA l ps) (P : Prs l ps) {o n : Nat} (hA : isA (l.getD o i0) = true) (hn : n < l.length) (h9 : isOp l 9 n) (h1 : o < n) (h2 : n ≤ o + wd (l.getD o i0)) : ps.getD n 0 < ((o + wd (l.getD o i0) + 1 : Nat) : Int) := by
  have hl2 := g.len2
  obtain ⟨u, u1, _⟩ := P.lock n hn h9
  have := (sepA_none g.may (by omega)).1 (P.area n hn h9 u u1) o (by omega) hA
  have := this.1 ⟨h1, h2⟩
  omega
 lock_area_back {l : List I4} {ps : List Int} (g : GoodA l ps) (P : Prs l ps) {o n u : Nat} (hA : isA (l.getD o i0) = true) (h9 : isOp l 9 n) (hu : ps.getD n 0 = (u : Int)) (h1 : o + 1 ≤ u) (h2 : u ≤ o + wd (l.getD o i0)) : o + 1 ≤ n := by
  have hl2 := g.len2
  have hn : n < l.length := by
   by_cases f : n < l.length
   ·exact f
   ·have : l.getD n i0 = i0 := getD_out (by omega)
    unfold isOp at h9; rw [this] at h9; exact absurd h9 (by decide)
  have hol : o < l.length := by
   by_cases f : o < l.length
   ·exact f
   ·rw [getD_out (by omega)] at hA; exact absurd hA (by decide)
  have := (sepA_none g.may (by omega)).1 (P.area n hn h9 u hu) o hol hA
  have := this.2 ⟨by omega, h2⟩
  omega
theorem good_is_tree {l : List I4} (h : mayA l = true) : ∃ t : Tr, Ok 0 [] false t ∧ l = t.prog ∧ t.len < 24 := by
 obtain ⟨ps, g⟩ := mayA_iff.1 h
 have hl1 := g.len1
 have hl2 := g.len2
 have P := prs_facts g.pairs
 have hlast : (l.getD (l.length - 1) i0).1 = 0 := (g.end_ (l.length - 1) (by omega)).2 (by omega)
 obtain ⟨t, t1, t2, t3⟩ := parse g P (l.length - 1) 0 0 [] false (by omega) (fun n h1 h2 => by
   by_cases hA : isA (l.getD n i0) = true
   ·have := g.last (arOf n (l.getD n i0)) ((pcs_mem_iff l 0 _ g.may (by omega)).2 ⟨n, by omega, hA, by rw [Nat.zero_add]⟩)
    have e : (arOf n (l.getD n i0)).2.1 = ((n + wd (l.getD n i0) : Nat) : Int) := rfl
    omega
   ·rw [wd_zero (by simpa using hA)]; omega)
  (fun n h1 h2 h9 => by
   obtain ⟨u, u1, u2, u3, u4, _⟩ := P.lock n (by omega) h9
   have : u ≠ l.length - 1 := fun e => by
    subst e
    rw [show (l.getD (l.length - 1) i0).1 = 10 from u4] at hlast; exact absurd hlast (by decide)
   omega) (fun n u _ _ _ _ => by omega) trivial ⟨[], rfl, List.Pairwise.nil, fun k hk => by cases hk⟩ (fun e => by cases e)
 have hz : l.getD (l.length - 1) i0 = i0 := by
  have := g.may _ (getD_mem (z := i0) (l := l) (i := l.length - 1) (by omega))
  have h3 : (l.getD (l.length - 1) i0).2.1 = 0 ∧ (l.getD (l.length - 1) i0).2.2.1 = 0 ∧ (l.getD (l.length - 1) i0).2.2.2 = 0 := by
   generalize l.getD (l.length - 1) i0 = x at this hlast
   simpa [mayI, hlast] using this
  exact Prod.ext hlast (Prod.ext h3.1 (Prod.ext h3.2.1 h3.2.2))
 refine ⟨t, t3, ?_, by omega⟩
 have hpl := prog_len t
 apply List.ext_getElem (by omega)
 intro n h1 h2
 rw [← getD_in (z := i0) h1, ← getD_in (z := i0) h2]
 by_cases e : n < t.len
 ·have := t2.2 n (by rw [flat_len]; exact e)
  rw [Nat.zero_add] at this
  rw [this]
  unfold Tr.prog
  rw [getD_app_l (by rw [flat_len]; exact e)]
 ·have : n = l.length - 1 := by omega
  subst this
  rw [hz, show l.length - 1 = t.len by omega, prog_end]
end Go.Proofs.Ytinopkpnlibopaa.Ab

/- How often, sums that may go beyond, rows. -/
namespace Go.Proofs.Ytinopkpnlibopaa.Ab
open Go.RowKit Tr
set_option linter.unusedSimpArgs false
set_option linter.unusedVariables false
def up (r v : Int) : Int := (r + v - 1) / v
theorem up_tdiv {r v : Int} (hr : 0 ≤ r) (hv : 1 ≤ v) : (if Int.tmod r v > 0 then Int.tdiv r v + 1 else Int.tdiv r v) = up r v := by
 rw [Int.tdiv_eq_ediv_of_nonneg hr, Int.tmod_eq_emod_of_nonneg hr]
 unfold up
 have h1 := Int.emod_nonneg r (show v ≠ 0 by omega)
 have h2 := Int.emod_lt_of_pos r (show 0 < v by omega)
 have h3 := Int.mul_ediv_add_emod r v
 split
 ·rename_i h
  have : r + v - 1 = (r % v - 1) + v * (r / v + 1) := by rw [Int.mul_add, Int.mul_one]; omega
  rw [this, Int.add_mul_ediv_left _ _ (by omega), Int.ediv_eq_zero_of_lt (a := r % v - 1) (b := v) (by omega) (by omega)]; omega
 ·have : r + v - 1 = (v - 1) + v * (r / v) := by omega
  rw [this, Int.add_mul_ediv_left _ _ (by omega), Int.ediv_eq_zero_of_lt (a := v - 1) (b := v) (by omega) (by omega)]; omega
theorem up_bd {r v : Int} (hr : 0 ≤ r) (hv : 1 ≤ v) : 0 ≤ up r v ∧ up r v ≤ r := by
 unfold up
 refine ⟨Int.ediv_nonneg (by omega) (by omega), ?_⟩
 rw [← Int.lt_add_one_iff]
 refine Int.ediv_lt_of_lt_mul (by omega) ?_
 have : (r + 1) * 1 ≤ (r + 1) * v := Int.mul_le_mul_of_nonneg_left hv (by omega)
 have : r * 1 ≤ r * v := Int.mul_le_mul_of_nonneg_left hv hr
 rw [Int.add_mul]; omega
theorem up_mono {r s v : Int} (h : r ≤ s) (hv : 1 ≤ v) : up r v ≤ up s v := Int.ediv_le_ediv (by omega) (by omega)
theorem tdiv_bd {r v : Int} (hr : 0 ≤ r) (hv : 1 ≤ v) : 0 ≤ Int.tdiv r v ∧ Int.tdiv r v ≤ r := by
 rw [Int.tdiv_eq_ediv_of_nonneg hr]
 exact ⟨Int.ediv_nonneg hr (by omega), Int.ediv_le_self _ hr⟩
theorem S59_eq (k : Nat) {a b : Int} (ha : 0 ≤ a ∧ a ≤ 4611686018427387904) (hb : 1 ≤ b) : S59 k a b = some ((up a b, true, ()), ()) := by
 have h := tdiv_bd ha.1 hb
 have e := up_tdiv ha.1 hb
 unfold S59
 rw [bif_f (by omega), bif_f (by omega), nz_ok (by omega), nz_ok (by omega), w64 (n := Int.tdiv a b) (by omega) (by omega), w64 (n := Int.tdiv a b + 1) (by omega) (by omega), ← e]
 split
 ·rename_i h1; rw [bif_t h1]
 ·rename_i h1; rw [bif_f h1]
theorem S42_eq (k : Nat) {a b : Int} (ha : 0 ≤ a ∧ a ≤ 4611686018427387904) (hb : 1 ≤ b) : S42 k a b = some ((up a b, true, ()), ()) := by
 have h := tdiv_bd ha.1 hb
 have e := up_tdiv ha.1 hb
 unfold S42
 rw [bif_f (by omega), bif_f (by omega), nz_ok (by omega), nz_ok (by omega), w64 (n := Int.tdiv a b) (by omega) (by omega), w64 (n := Int.tdiv a b + 1) (by omega) (by omega), ← e]
 split
 ·rename_i h1; rw [bif_t h1]
 ·rename_i h1; rw [bif_f h1]
theorem S39_eq (k : Nat) {a b : Int} (ha : 0 ≤ a ∧ a ≤ 4611686018427387904) (hb : 1 ≤ b) : S39 k a b = some ((up a b, ()), ()) := by
 unfold S39; rw [S59_eq k ha hb, Option.bind_some]
theorem S41_eq (k : Nat) {a b : Int} (ha : 0 ≤ a) (hb : 0 ≤ b) (h : a + b ≤ 4611686018427387904) : S41 k a b = some ((a + b, true, ()), ()) := by
 unfold S41
 rw [w64 (n := 9223372036854775807 - b) (by omega) (by omega), bif_f (by omega), w64 (by omega) (by omega)]
theorem S43_eq (k : Nat) {a b : Int} (ha : 0 ≤ a ∧ a ≤ 4611686018427387904) (hb : 0 ≤ b ∧ b ≤ 4611686018427387904) (h : a * b ≤ 4611686018427387904) : S43 k a b = some ((a * b, true, ()), ()) := by
 have h0 := Int.mul_nonneg ha.1 hb.1
 unfold S43
 rw [w64 (n := a * b) (by omega) (by omega)]
 by_cases hp : a > 0
 ·have hd := tdiv_bd (r := 9223372036854775807) (v := a) (by omega) (by omega)
  have hle : b ≤ Int.tdiv 9223372036854775807 a := by
   rw [Int.tdiv_eq_ediv_of_nonneg (by omega)]
   exact (Int.le_ediv_iff_mul_le hp).2 (by rw [Int.mul_comm]; omega)
  rw [bif_t hp, nz_ok (by omega), w64 (n := Int.tdiv 9223372036854775807 a) (by omega) (by omega), bif_f (by omega)]
 ·rw [bif_f hp]
theorem S37_eq (k : Nat) {s t v : Int} (hs : 0 ≤ s) (ht : 0 ≤ t ∧ t ≤ 4611686018427387904) (hv : 0 ≤ v ∧ v ≤ 4611686018427387904) (h : s + t * v ≤ 4611686018427387904) : S37 k s false t v = some ((), (s + t * v, false, ()), ()) := by
 have h0 := Int.mul_nonneg ht.1 hv.1
 unfold S37
 rw [S56_ok k (by omega) (by omega) (by omega), Option.bind_some]
 simp only
 rw [S57_ok k hs h0 (by omega), Option.bind_some]
 rfl
noncomputable def badR (l : List Tk) (i : Nat) : Bool := (mayT (l.getD i t0) != 0) || (decide ((i : Int) > 0) && decide ((l.getD (i - 1) t0).1 ≥ (l.getD i t0).1))
noncomputable def rowT (l : List Tk) : Bool := !anyF (badR l) l.length 0
theorem S35_eq {k : Nat} (hk : 1000 ≤ k) {l : List Tk} (h : lightL l) : S35 k l = some ((rowT l, ()), ()) := by
 have hl := h.1
 unfold S35
 have := anyN (L := fun j i => L35_2 k j l l (l.length : Int) i) (n := l.length) (badR l) (some ((false, ()), ())) (some ((true, ()), ())) (fun j i hi => by
  have ht := h.2 _ (getD_mem (z := t0) hi)
  show L35_2 k (j + 1) l l (l.length : Int) (i : Int) = _
  rw [L35_2_s, l35_2, bif_t (by omega), ix_nat hi, rd_nat, show l.getD i (0, 0, 0, [], [], []) = l.getD i t0 from rfl, S47_eq hk ht.1, Option.bind_some, w64_nat (by omega)]
  unfold badR
  simp only
  cases mayT (l.getD i t0) != 0 with
  | true => rfl
  | false =>
   rw [cond_false, Bool.false_or]
   by_cases h0 : (i : Int) > 0
   ·rw [bif_t h0, w64 (n := (i : Int) - 1) (by omega) (by omega), show (i : Int) - 1 = ((i - 1 : Nat) : Int) by omega, ix_nat (by omega), rd_nat, decide_eq_true h0, Bool.true_and]
   ·rw [bif_f h0, decide_eq_false h0, Bool.false_and, cond_false]) (fun j => by
  show L35_2 k (j + 1) l l (l.length : Int) (l.length : Int) = _
  rw [L35_2_s, l35_2, bif_f (by omega)]) l.length 0 k (by omega) (by omega)
 refine Eq.trans this ?_
 unfold rowT
 cases anyF (badR l) l.length 0 <;> rfl
theorem S40_eq {k : Nat} (hk : 1000 ≤ k) {l : List Tk} (h : lightL l) : S40 k l = some ((rowT l, ()), ()) := by
 have hl := h.1
 unfold S40
 have := anyN (L := fun j i => L40_2 k j l i) (n := l.length) (badR l) (some ((false, ()), ())) (some ((true, ()), ())) (fun j i hi => by
  have ht := h.2 _ (getD_mem (z := t0) hi)
  show L40_2 k (j + 1) l (i : Int) = _
  rw [L40_2_s, l40_2, bif_t (by omega), ix_nat hi, rd_nat, show l.getD i (0, 0, 0, [], [], []) = l.getD i t0 from rfl, S34_eq hk ht.1, Option.bind_some, w64_nat (by omega)]
  unfold badR
  simp only
  cases mayT (l.getD i t0) != 0 with
  | true => rfl
  | false =>
   rw [cond_false, Bool.false_or]
   by_cases h0 : (i : Int) > 0
   ·rw [bif_t h0, w64 (n := (i : Int) - 1) (by omega) (by omega), show (i : Int) - 1 = ((i - 1 : Nat) : Int) by omega, ix_nat hi, ix_nat (by omega), rd_nat, decide_eq_true h0, Bool.true_and]
   ·rw [bif_f h0, decide_eq_false h0, Bool.false_and, cond_false]) (fun j => by
  show L40_2 k (j + 1) l (l.length : Int) = _
  rw [L40_2_s, l40_2, bif_f (by omega)]) l.length 0 k (by omega) (by omega)
 refine Eq.trans this ?_
 unfold rowT
 cases anyF (badR l) l.length 0 <;> rfl
end Go.Proofs.Ytinopkpnlibopaa.Ab

/- What is reckoned of a row is small; the rounds. -/
namespace Go.Proofs.Ytinopkpnlibopaa.Ab
open Go.RowKit Tr
set_option linter.unusedSimpArgs false
set_option linter.unusedVariables false
theorem cst_small {l : List I4} (h : mayA l = true) : (1 ≤ (cst l).1 ∧ (cst l).1 ≤ 9600) ∧ (1 ≤ (cst l).2.1 ∧ (cst l).2.1 ≤ (cst l).1) ∧ ∀ e ∈ (cst l).2.2, 1 ≤ e.2 ∧ e.2 < (cst l).1 := by
 obtain ⟨t, ht, rfl, hl⟩ := good_is_tree h
 have hc := cost_small ht hl
 obtain ⟨b1, b2, b3, b4⟩ := piece_bound 1 (0, 0) ht (by omega) (by simp) (by simp)
 simp only [Int.one_mul, Int.zero_add] at b3 b4
 rw [cst_tree ht hl]
 refine ⟨by simp only; omega, by simp only; omega, fun e he => ?_⟩
 have := spans_bd ht e he
 simp only; omega
structure CoS (t : Tk) : Prop where
 per : 1 ≤ t.2.1 ∧ t.2.1 ≤ 16384
 en : 1 ≤ t.2.2.1 ∧ t.2.2.1 ≤ t.2.1
 cost : 1 ≤ (costsT t).1 ∧ (costsT t).1 ≤ t.2.2.1
 lost : 1 ≤ (costsT t).2.1 ∧ (costsT t).2.1 ≤ (costsT t).1
 spans : ∀ e ∈ (costsT t).2.2, 1 ≤ e.2 ∧ e.2 < (costsT t).1
theorem costs_small {t : Tk} (hz : mayT t = 0) : CoS t := by
 obtain ⟨_, z2, z3, z4, z5, z6, z7, z8, z9⟩ := mayT_zero.1 hz
 obtain ⟨m1, m2, m3⟩ := cst_small z4
 have hcosts : costsT t = ((cst t.2.2.2.1).1, bif mayA t.2.2.2.2.1 then (cst t.2.2.2.2.1).1 else (cst t.2.2.2.1).2.1, (cst t.2.2.2.1).2.2 ++ (cst t.2.2.2.2.1).2.2) := by unfold costsT; rw [if_pos hz]
 refine ⟨z2, z3, by rw [hcosts]; simp only; omega, ?_, fun e he => ?_⟩
 ·rw [hcosts]
  simp only
  cases h : mayA t.2.2.2.2.1 with
  | false => rw [cond_false]; omega
  | true => have := cst_small h; rw [cond_true]; omega
 ·rw [hcosts] at he ⊢
  simp only [List.mem_append] at he ⊢
  rcases he with q | q
  ·exact m3 e q
  ·cases h : mayA t.2.2.2.2.1 with
   | false => rw [cst_bad h] at q; cases q
   | true => have := (cst_small h).2.2 e q; omega
theorem mx_le {a b c : Int} (h1 : a ≤ c) (h2 : b ≤ c) : mx a b ≤ c := by unfold mx; split <;> omega
theorem spF_le {l : List Tk} {i b : Int} : ∀ (sp : List (Int × Int)) (m : Int), m ≤ b → (∀ e ∈ sp, e.2 ≤ b) → spF l i m sp ≤ b
 | [], m, h, _ => h
 | e :: r, m, h, hs => by
  rw [spF]
  refine spF_le r _ ?_ (fun x hx => hs x (by simp [hx]))
  cases decide (ceilT l e.1 ≤ i) with
  | true => exact mx_le h (hs e (by simp))
  | false => exact h
theorem byG_le {l : List Tk} {i b : Int} : ∀ (r : List Tk) (n : Nat) (m : Int), m ≤ b → (∀ t ∈ r, ∀ e ∈ (costsT t).2.2, e.2 ≤ b) → byG l i r n m ≤ b
 | [], n, m, h, _ => h
 | t :: r, n, m, h, hs => by
  rw [byG]
  refine byG_le r _ _ ?_ (fun x hx => hs x (by simp [hx]))
  cases (n : Int) == i with
  | true => exact h
  | false => exact spF_le _ m h (hs t (by simp))
theorem byT_bd {l : List Tk} (h : ∀ t ∈ l, CoS t) (i : Int) : 0 ≤ byT l i ∧ byT l i ≤ 16384 :=
 ⟨byG_ge l 0 0, byG_le l 0 0 (by omega) (fun t ht e he => by have q := h t ht; have := q.spans e he; have := q.cost; have := q.en; have := q.per; omega)⟩
def sumA (r : Int) : List (Int × Int) → Int
 | [] => 0
 | x :: l => up r x.1 * x.2 + sumA r l
noncomputable def pc1 (t : Tk) : Int × Int := (t.2.1, (costsT t).1)
noncomputable def lostG : Int → List Tk → Int
 | m, [] => m
 | m, t :: r => lostG (mx m (costsT t).2.1) r
noncomputable def firstT (l : List Tk) (i : Nat) : Int := (costsT (l.getD i t0)).1 + byT l (i : Int)
noncomputable def rightT (l : List Tk) (i : Nat) (apart r : Int) : Int := firstT l i + up r apart * lostG 0 (l.take (i + 1)) + sumA r ((l.take i).map pc1)
def respG (en : Int) (right : Int → Int) : Nat → Int → Int → Option (Int × Int × Int)
 | 0, _, _ => none
 | f + 1, r, n => if right r > en then some (0, 0, 14) else if right r = r then some (r, n, 0) else respG en right f (right r) (n + 1)
theorem sumA_nonneg {r : Int} (hr : 0 ≤ r) : ∀ {l : List (Int × Int)}, (∀ x ∈ l, 1 ≤ x.1 ∧ 0 ≤ x.2) → 0 ≤ sumA r l
 | [], _ => Int.le_refl _
 | x :: l, h => by
  have hx := h x (by simp)
  have := sumA_nonneg hr (l := l) (fun y hy => h y (by simp [hy]))
  have := Int.mul_nonneg (up_bd hr hx.1).1 hx.2
  rw [sumA]; omega
theorem sumA_mono {r s : Int} (h : r ≤ s) : ∀ {l : List (Int × Int)}, (∀ x ∈ l, 1 ≤ x.1 ∧ 0 ≤ x.2) → sumA r l ≤ sumA s l
 | [], _ => Int.le_refl _
 | x :: l, hl => by
  have hx := hl x (by simp)
  have := sumA_mono h (l := l) (fun y hy => hl y (by simp [hy]))
  have := Int.mul_le_mul_of_nonneg_right (up_mono h hx.1) hx.2
  rw [sumA, sumA]; omega
theorem sumA_le {r b : Int} (hr : 0 ≤ r) (hb : 0 ≤ b) : ∀ {l : List (Int × Int)}, (∀ x ∈ l, 1 ≤ x.1 ∧ 0 ≤ x.2 ∧ x.2 ≤ b) → sumA r l ≤ (l.length : Int) * (r * b)
 | [], _ => by simp [sumA]
 | x :: l, h => by
  have hx := h x (by simp)
  have h1 := sumA_le hr hb (l := l) (fun y hy => h y (by simp [hy]))
  have hu := up_bd hr hx.1
  have h2 : up r x.1 * x.2 ≤ r * b := Int.mul_le_mul hu.2 hx.2.2 hx.2.1 hr
  rw [sumA, List.length_cons, show ((l.length + 1 : Nat) : Int) = (l.length : Int) + 1 by omega, Int.add_mul, Int.one_mul]; omega
theorem resp_total {en : Int} {right : Int → Int} (hm : ∀ a b, 0 ≤ a → a ≤ b → right a ≤ right b) : ∀ (f : Nat) (r n : Int), 0 ≤ r → r ≤ right r → en - r < (f : Int) → 0 < f → ∃ x, respG en right f r n = some x
 | 0, r, n, _, _, _, h => absurd h (by omega)
 | f + 1, r, n, h0, h1, h2, _ => by
  rw [respG]
  split
  ·exact ⟨_, rfl⟩
  ·split
   ·exact ⟨_, rfl⟩
   ·rename_i h3 h4
    exact resp_total hm f (right r) (n + 1) (by omega) (hm r (right r) h0 h1) (by omega) (by omega)
end Go.Proofs.Ytinopkpnlibopaa.Ab

/- How long a task takes at most: the program's rounds. -/
namespace Go.Proofs.Ytinopkpnlibopaa.Ab
open Go.RowKit Tr
set_option linter.unusedSimpArgs false
set_option linter.unusedVariables false
structure RS (l : List Tk) : Prop where
 light : lightL l
 len : l.length ≤ 10
 co : ∀ t ∈ l, CoS t
theorem lostG_bd {b : Int} : ∀ (r : List Tk) (m : Int), 0 ≤ m → m ≤ b → (∀ t ∈ r, (costsT t).2.1 ≤ b) → 0 ≤ lostG m r ∧ lostG m r ≤ b
 | [], m, h0, h, _ => ⟨h0, h⟩
 | t :: r, m, h0, h, hs => by
  rw [lostG]
  exact lostG_bd r _ (Int.le_trans h0 (mx_ge _ _)) (mx_le h (hs t (by simp))) (fun x hx => hs x (by simp [hx]))
theorem RS.first {l : List Tk} (h : RS l) {i : Nat} (hi : i < l.length) : 1 ≤ firstT l i ∧ firstT l i ≤ 32768 := by
 have hc := h.co _ (getD_mem (z := t0) hi)
 have hb := byT_bd h.co (i : Int)
 have := hc.cost; have := hc.en; have := hc.per
 unfold firstT; omega
theorem RS.lost {l : List Tk} (h : RS l) (i : Nat) : 0 ≤ lostG 0 (l.take i) ∧ lostG 0 (l.take i) ≤ 16384 :=
 lostG_bd _ 0 (by omega) (by omega) (fun t ht => by have q := h.co t (List.mem_of_mem_take ht); have := q.lost; have := q.cost; have := q.en; have := q.per; omega)
theorem RS.pcs {l : List Tk} (h : RS l) (i : Nat) : ∀ x ∈ (l.take i).map pc1, 1 ≤ x.1 ∧ 0 ≤ x.2 ∧ x.2 ≤ 16384 := fun x hx => by
 obtain ⟨t, ht, rfl⟩ := List.mem_map.1 hx
 have q := h.co t (List.mem_of_mem_take ht)
 have := q.cost; have := q.en; have := q.per
 unfold pc1; simp only; omega
theorem RS.loss {l : List Tk} (h : RS l) {i : Nat} {apart r : Int} (ha : 1 ≤ apart) (hr : 0 ≤ r ∧ r ≤ 50000) : 0 ≤ up r apart * lostG 0 (l.take (i + 1)) ∧ up r apart * lostG 0 (l.take (i + 1)) ≤ 819200000 := by
 have hl := h.lost (i + 1)
 have hu := up_bd hr.1 ha
 have := Int.mul_nonneg hu.1 hl.1
 have : up r apart * lostG 0 (l.take (i + 1)) ≤ 50000 * 16384 := Int.mul_le_mul (by omega) hl.2 hl.1 (by omega)
 omega
theorem RS.sum {l : List Tk} (h : RS l) {i : Nat} {r : Int} (hr : 0 ≤ r ∧ r ≤ 50000) : 0 ≤ sumA r ((l.take i).map pc1) ∧ sumA r ((l.take i).map pc1) ≤ 8192000000 := by
 have h0 := sumA_nonneg hr.1 (l := (l.take i).map pc1) (fun x hx => ⟨(h.pcs i x hx).1, (h.pcs i x hx).2.1⟩)
 have h1 := sumA_le hr.1 (show (0 : Int) ≤ 16384 by omega) (h.pcs i)
 have hl : ((l.take i).map pc1).length ≤ 10 := by rw [List.length_map, List.length_take]; have := h.len; omega
 have h2 : (((l.take i).map pc1).length : Int) * (r * 16384) ≤ 10 * (r * 16384) := Int.mul_le_mul_of_nonneg_right (by omega) (by omega)
 omega
theorem RS.right {l : List Tk} (h : RS l) {i : Nat} (hi : i < l.length) {apart r : Int} (ha : 1 ≤ apart) (hr : 0 ≤ r ∧ r ≤ 50000) : firstT l i ≤ rightT l i apart r ∧ rightT l i apart r ≤ 100000000000 := by
 have h1 := h.first hi; have h2 := h.loss (i := i) ha hr; have h3 := h.sum (i := i) hr
 unfold rightT; omega
theorem L16_18_eq {k : Nat} (hk : 1000 ≤ k) {g : List Tk → Int → Int → Int → Int → Int → Int → Bool → Option ((Int × Int × Int × Unit) × Unit)} {l tk : List Tk} {i : Nat} (hi : i < l.length) {apart r rounds lost first : Int} (hr : 0 ≤ r ∧ r ≤ 50000) (htk : tk.length ≤ 100) (hs : ∀ t ∈ tk, lightT t ∧ CoS t) :
  ∀ (d n j : Nat) (x : Int), n + d = tk.length → d < j → 0 ≤ x → x + sumA r ((tk.drop n).map pc1) ≤ 100000000000 →
  L16_18 k g j l (i : Int) apart r rounds lost first false x false tk (tk.length : Int) (n : Int) = if x + sumA r ((tk.drop n).map pc1) > (l.getD i t0).2.2.1 then some ((0, 0, 14, ()), ()) else if x + sumA r ((tk.drop n).map pc1) = r then some ((r, rounds, 0, ()), ()) else g l (i : Int) apart (x + sumA r ((tk.drop n).map pc1)) rounds lost first false
 | 0, n, j, x, h, hj, hx, hb => by
  obtain ⟨j', rfl⟩ : ∃ j', j = j' + 1 := ⟨j - 1, by omega⟩
  rw [L16_18_s, l16_18, bif_f (by omega), drop_nil (by omega), cond_false, ix_nat hi, rd_nat, show l.getD i (0, 0, 0, [], [], []) = l.getD i t0 from rfl]
  simp only [List.map_nil, sumA, Int.add_zero]
  by_cases h1 : x > (l.getD i t0).2.2.1
  ·rw [bif_t h1, if_pos h1]
  ·rw [bif_f h1, if_neg h1]
   by_cases h2 : x = r
   ·rw [if_pos h2, show (x == r) = true by rw [h2]; exact beq_self_eq_true r, cond_true]
   ·rw [if_neg h2, show (x == r) = false by rw [beq_eq_false_iff_ne]; exact h2, cond_false]
 | d + 1, n, j, x, h, hj, hx, hb => by
  obtain ⟨j', rfl⟩ : ∃ j', j = j' + 1 := ⟨j - 1, by omega⟩
  have hn : n < tk.length := by omega
  obtain ⟨ht, hc⟩ := hs _ (getD_mem (z := t0) hn)
  have hper := hc.per
  have hu := up_bd hr.1 hper.1
  have hco := hc.cost; have hen := hc.en
  have hmul := Int.mul_nonneg hu.1 (show 0 ≤ (costsT (tk.getD n t0)).1 by omega)
  have hrest : 0 ≤ sumA r ((tk.drop (n + 1)).map pc1) := sumA_nonneg hr.1 (fun y hy => by
   obtain ⟨t, ht, rfl⟩ := List.mem_map.1 hy
   have q := (hs t (List.mem_of_mem_drop ht)).2
   have := q.cost; have := q.per
   unfold pc1; simp only; omega)
  rw [drop_cons t0 hn, List.map_cons, sumA] at hb ⊢
  unfold pc1 at hb ⊢
  simp only at hb ⊢
  have ih := L16_18_eq hk (g := g) hi (apart := apart) (rounds := rounds) (lost := lost) (first := first) hr htk hs d (n + 1) j' (x + up r (tk.getD n t0).2.1 * (costsT (tk.getD n t0)).1) (by omega) (by omega) (by omega) (by unfold pc1; omega)
  unfold pc1 at ih
  rw [L16_18_s, l16_18, bif_t (by omega), ix_nat hn, rd_nat, show tk.getD n (0, 0, 0, [], [], []) = tk.getD n t0 from rfl, S36_eq hk ht, Option.bind_some, S39_eq k (by omega) hper.1, Option.bind_some]
  simp only
  rw [S37_eq k hx (by omega) (by omega) (by unfold pc1 at hrest; omega), Option.bind_some, w64_nat (by omega), ← Int.add_assoc]
  exact ih
end Go.Proofs.Ytinopkpnlibopaa.Ab

/- How long a task takes at most: the program's answer. -/
namespace Go.Proofs.Ytinopkpnlibopaa.Ab
open Go.RowKit Tr
set_option linter.unusedSimpArgs false
set_option linter.unusedVariables false
theorem sub_take {α : Type} {l : List α} {i : Nat} : sub l 0 (i : Int) = l.take i := by simp [sub]
theorem right_mono {l : List Tk} (h : RS l) {i : Nat} {apart : Int} (ha : 1 ≤ apart) : ∀ a b, 0 ≤ a → a ≤ b → rightT l i apart a ≤ rightT l i apart b := fun a b h0 hab => by
 have h1 := Int.mul_le_mul_of_nonneg_right (up_mono hab ha) (h.lost (i + 1)).1
 have h2 := sumA_mono hab (l := (l.take i).map pc1) (fun x hx => ⟨(h.pcs i x hx).1, (h.pcs i x hx).2.1⟩)
 unfold rightT; omega
theorem row_may {l : List Tk} (h : rowT l = true) : ∀ t ∈ l, mayT t = 0 := fun t ht => by
 obtain ⟨j, hj, e⟩ := List.mem_iff_getElem.1 ht
 have e2 : l.getD j t0 = t := by rw [← e, List.getD_eq_getElem?_getD, List.getElem?_eq_getElem hj]; rfl
 unfold rowT at h
 rw [Bool.not_eq_true', anyF_none] at h
 have := h j (by omega) (by omega)
 unfold badR at this
 rw [Bool.or_eq_false_iff, e2] at this
 simpa using this.1
theorem row_rs {l : List Tk} (h : rowT l = true) (hL : lightL l) (hl : l.length ≤ 10) : RS l := ⟨hL, hl, fun t ht => costs_small (row_may h t ht)⟩
theorem L16_14_eq {k : Nat} (hk : 1000 ≤ k) {l : List Tk} (h : RS l) {i : Nat} (hi : i < l.length) {apart : Int} (ha : 1 ≤ apart) : ∀ (f j : Nat) (r n : Int) (y : Int × Int × Int), f ≤ j → 0 ≤ r → r ≤ 50000 → 1 ≤ n → n + f ≤ 1000000 → respG (l.getD i t0).2.2.1 (rightT l i apart) f r n = some y →
  L16_14 k j l (i : Int) apart r (n - 1) (lostG 0 (l.take (i + 1))) (firstT l i) false = some ((y.1, y.2.1, y.2.2, ()), ())
 | 0, j, r, n, y, _, _, _, _, _, e => by cases e
 | f + 1, j, r, n, y, hj, h0, h1, hn, hf, e => by
  obtain ⟨j', rfl⟩ : ∃ j', j = j' + 1 := ⟨j - 1, by omega⟩
  have hfi := h.first hi
  have hls := h.lost (i + 1)
  have hlo := h.loss (i := i) ha ⟨h0, h1⟩
  have hsu := h.sum (i := i) ⟨h0, h1⟩
  have hu := up_bd h0 ha
  have hen := (h.co _ (getD_mem (z := t0) hi)).en
  have hper := (h.co _ (getD_mem (z := t0) hi)).per
  have hlen := h.len
  rw [L16_14_s, l16_14, S39_eq k (by omega) ha, Option.bind_some]
  simp only
  rw [S37_eq k (by omega) (by omega) (by omega) (by omega), Option.bind_some, sx_ok (by omega) (by omega) (by omega), w64 (n := n - 1 + 1) (by omega) (by omega), show n - 1 + 1 = n by omega, sub_take]
  have htl : (l.take i).length ≤ 100 := by rw [List.length_take]; omega
  have := L16_18_eq hk (g := L16_14 k j') hi (tk := l.take i) (apart := apart) (rounds := n) (lost := lostG 0 (l.take (i + 1))) (first := firstT l i) (r := r) ⟨h0, h1⟩ htl (fun t ht => ⟨(h.light.2 t (List.mem_of_mem_take ht)).1, h.co t (List.mem_of_mem_take ht)⟩) (l.take i).length 0 k (firstT l i + up r apart * lostG 0 (l.take (i + 1))) (by omega) (by omega) (by omega) (by rw [List.drop_zero]; omega)
  refine Eq.trans this ?_
  rw [List.drop_zero, show firstT l i + up r apart * lostG 0 (l.take (i + 1)) + sumA r ((l.take i).map pc1) = rightT l i apart r from rfl]
  rw [respG] at e
  split at e
  ·rename_i q
   injection e with e; subst e
   rw [if_pos q]
  ·rename_i q
   rw [if_neg q]
   split at e
   ·rename_i q2
    injection e with e; subst e
    rw [if_pos q2]
   ·rename_i q2
    rw [if_neg q2]
    have hr := h.right hi ha ⟨h0, h1⟩
    have := L16_14_eq hk h hi ha f j' (rightT l i apart r) (n + 1) y (by omega) (by omega) (by omega) (by omega) (by omega) e
    rw [show n + 1 - 1 = n by omega] at this
    exact this
noncomputable def respT (l : List Tk) (i apart : Int) : Int × Int × Int :=
 if rowT l = true ∧ 0 ≤ i ∧ i < (l.length : Int) ∧ 1 ≤ apart then (respG (l.getD i.toNat t0).2.2.1 (rightT l i.toNat apart) 20000 (firstT l i.toNat) 1).getD (0, 0, 0) else (0, 0, 1)
theorem resp_some {l : List Tk} (h : RS l) {i : Nat} (hi : i < l.length) {apart : Int} (ha : 1 ≤ apart) : ∃ y, respG (l.getD i t0).2.2.1 (rightT l i apart) 20000 (firstT l i) 1 = some y := by
 have hf := h.first hi
 have hen := (h.co _ (getD_mem (z := t0) hi)).en
 have hper := (h.co _ (getD_mem (z := t0) hi)).per
 exact resp_total (right_mono h ha) 20000 _ 1 (by omega) (h.right hi ha (by omega)).1 (by omega) (by omega)
theorem respT_at {l : List Tk} (hr : rowT l = true) {i : Nat} (hi : i < l.length) {apart : Int} (ha : 1 ≤ apart) {y : Int × Int × Int} (hy : respG (l.getD i t0).2.2.1 (rightT l i apart) 20000 (firstT l i) 1 = some y) : respT l (i : Int) apart = y := by
 unfold respT
 rw [if_pos ⟨hr, by omega, by omega, ha⟩, Int.toNat_natCast, hy]; rfl
theorem L16_6_eq {k : Nat} (hk : 20000 ≤ k) {l : List Tk} (hrow : rowT l = true) (h : RS l) {i : Nat} (hi : i < l.length) {apart : Int} (ha : 1 ≤ apart) : ∀ (d n j : Nat) (m : Int), n + d = (l.take (i + 1)).length → d < j → lostG m ((l.take (i + 1)).drop n) = lostG 0 (l.take (i + 1)) →
  L16_6 k j l (i : Int) apart 0 (costsT (l.getD i t0)).1 m (l.take (i + 1)) ((l.take (i + 1)).length : Int) (n : Int) = some (((respT l i apart).1, (respT l i apart).2.1, (respT l i apart).2.2, ()), ())
 | 0, n, j, m, h1, hj, hm => by
  obtain ⟨j', rfl⟩ : ∃ j', j = j' + 1 := ⟨j - 1, by omega⟩
  have hb := byT_bd h.co (i : Int)
  have hc := h.co _ (getD_mem (z := t0) hi)
  have := hc.cost; have := hc.en; have := hc.per
  have hfi := h.first hi
  rw [drop_nil (by omega), lostG] at hm
  obtain ⟨y, hy⟩ := resp_some h hi ha
  rw [L16_6_s, l16_6, bif_f (by omega), S38_eq (by omega) h.light, Option.bind_some]
  simp only
  rw [S37_eq k (by omega) (by omega) (by omega) (by omega), Option.bind_some, hm, Int.one_mul]
  have := L16_14_eq (k := k) (by omega) h hi ha 20000 k (firstT l i) 1 y (by omega) (by omega) (by omega) (by omega) (by omega) hy
  refine Eq.trans this ?_
  rw [respT_at hrow hi ha hy]
 | d + 1, n, j, m, h1, hj, hm => by
  obtain ⟨j', rfl⟩ : ∃ j', j = j' + 1 := ⟨j - 1, by omega⟩
  have hn : n < (l.take (i + 1)).length := by omega
  have hmem := getD_mem (z := t0) hn
  have ht := (h.light.2 _ (List.mem_of_mem_take hmem)).1
  have hll : (l.take (i + 1)).length ≤ 10 := by rw [List.length_take]; have := h.len; omega
  rw [drop_cons t0 hn, lostG] at hm
  rw [L16_6_s, l16_6, bif_t (by omega), ix_nat hn, rd_nat, show (l.take (i + 1)).getD n (0, 0, 0, [], [], []) = (l.take (i + 1)).getD n t0 from rfl, S36_eq (by omega) ht, Option.bind_some, w64_nat (by omega)]
  exact L16_6_eq hk hrow h hi ha d (n + 1) j' _ (by omega) (by omega) hm
theorem S16_eq {k : Nat} (hk : 20000 ≤ k) {l : List Tk} (hL : lightL l) (hl : l.length ≤ 10) (i apart : Int) : S16 k l i apart = some (((respT l i apart).1, (respT l i apart).2.1, (respT l i apart).2.2, ()), ()) := by
 unfold S16
 rw [S35_eq (by omega) hL, Option.bind_some]
 simp only
 cases hr : rowT l with
 | false =>
  have : respT l i apart = (0, 0, 1) := by unfold respT; rw [if_neg (fun q => by rw [hr] at q; cases q.1)]
  rw [this]; rfl
 | true =>
  rw [Bool.not_true, cond_false]
  by_cases h1 : i < 0
  ·have : respT l i apart = (0, 0, 1) := by unfold respT; rw [if_neg (fun q => by omega)]
   rw [bif_t h1, this]
  ·rw [bif_f h1]
   by_cases h2 : i ≥ (l.length : Int)
   ·have : respT l i apart = (0, 0, 1) := by unfold respT; rw [if_neg (fun q => by omega)]
    rw [bif_t h2, this]
   ·rw [bif_f h2]
    by_cases h3 : apart < 1
    ·have : respT l i apart = (0, 0, 1) := by unfold respT; rw [if_neg (fun q => by omega)]
     rw [bif_t h3, this]
    ·rw [bif_f h3]
     obtain ⟨n, rfl⟩ : ∃ n : Nat, i = (n : Int) := ⟨i.toNat, by omega⟩
     have hn : n < l.length := by omega
     have hRS := row_rs hr hL hl
     have ht := (hL.2 _ (getD_mem (z := t0) hn)).1
     rw [ix_nat hn, rd_nat, show l.getD n (0, 0, 0, [], [], []) = l.getD n t0 from rfl, S36_eq (by omega) ht, Option.bind_some, w64_nat (by omega), sx_ok (by omega) (by omega) (by omega), sub_take]
     have hll : (l.take (n + 1)).length ≤ 10 := by rw [List.length_take]; omega
     exact L16_6_eq hk hr hRS hn (by omega) (l.take (n + 1)).length 0 k 0 (by omega) (by omega) (by rw [List.drop_zero])
end Go.Proofs.Ytinopkpnlibopaa.Ab

/- How long a task takes at most: the document's answer. -/
namespace Go.Proofs.Ytinopkpnlibopaa.Ab
open Go.RowKit Tr
set_option linter.unusedSimpArgs false
set_option linter.unusedVariables false
noncomputable def cst1 (t : Tk) : Int := (costsT t).1
def per1 (t : Tk) : Int := t.2.1
theorem L18_3_eq {k : Nat} (hk : 1000 ≤ k) {l : List Tk} (hL : lightL l) {i : Nat} (hi : i < l.length) {a b x2 : Int} : ∀ (d n j : Nat) (x : List Int) (x1 : Int) (x3 : List Int), n + d = i + 1 → d < j → x.length ≤ n → x3.length ≤ n →
  L18_3 k j l (i : Int) a b x x1 x2 x3 (n : Int) = some (((x ++ ((l.take (i + 1)).drop n).map cst1, lostG x1 ((l.take (i + 1)).drop n), x2, x3 ++ ((l.take (i + 1)).drop n).map per1), ()), ())
 | 0, n, j, x, x1, x3, h, hj, h1, h3 => by
  obtain ⟨j', rfl⟩ : ∃ j', j = j' + 1 := ⟨j - 1, by omega⟩
  rw [L18_3_s, l18_3, bif_f (by omega), drop_nil (by rw [List.length_take]; omega), List.map_nil, List.map_nil, List.append_nil, List.append_nil, lostG]
 | d + 1, n, j, x, x1, x3, h, hj, h1, h3 => by
  obtain ⟨j', rfl⟩ : ∃ j', j = j' + 1 := ⟨j - 1, by omega⟩
  have hll := hL.1
  have hn : n < (l.take (i + 1)).length := by rw [List.length_take]; omega
  have hg : (l.take (i + 1)).getD n t0 = l.getD n t0 := by
   rw [List.getD_eq_getElem?_getD, List.getD_eq_getElem?_getD, List.getElem?_take, if_pos (by omega)]
  have ht := (hL.2 _ (getD_mem (z := t0) (show n < l.length by omega))).1
  have ih := L18_3_eq hk hL hi (a := a) (b := b) (x2 := x2) d (n + 1) j' (x ++ [(costsT (l.getD n t0)).1]) (mx x1 (costsT (l.getD n t0)).2.1) (x3 ++ [(l.getD n t0).2.1]) (by omega) (by omega) (by simp; omega) (by simp; omega)
  rw [L18_3_s, l18_3, bif_t (by omega), ix_nat (by omega), rd_nat, show l.getD n (0, 0, 0, [], [], []) = l.getD n t0 from rfl, S22_eq hk ht, Option.bind_some, ap_ok (by simp only [List.length_cons, List.length_nil]; omega), ix_nat (by omega), ap_ok (by simp only [List.length_cons, List.length_nil]; omega), w64_nat (by omega), drop_cons t0 hn, List.map_cons, List.map_cons, lostG, hg]
  refine Eq.trans ih ?_
  rw [List.append_assoc, List.append_assoc]; rfl
theorem S18_eq {k : Nat} (hk : 1000 ≤ k) {l : List Tk} (hL : lightL l) {i : Nat} (hi : i < l.length) : S18 k l (i : Int) = some ((((l.take (i + 1)).map cst1, lostG 0 (l.take (i + 1)), byT l (i : Int), (l.take (i + 1)).map per1), ()), ()) := by
 have := hL.1
 unfold S18
 rw [S21_eq hk hL, Option.bind_some]
 refine (L18_3_eq hk hL hi (i + 1) 0 k [] 0 [] (by omega) (by omega) (by simp) (by simp)).trans ?_
 rw [List.drop_zero, List.nil_append, List.nil_append]
theorem get_map1 {f : Tk → Int} {l : List Tk} {i n : Nat} (hn : n < i + 1) (hi : i < l.length) : ((l.take (i + 1)).map f).getD n 0 = f (l.getD n t0) := by
 rw [List.getD_eq_getElem?_getD, List.getElem?_map, List.getElem?_take, if_pos hn, List.getD_eq_getElem?_getD, List.getElem?_eq_getElem (by omega)]; rfl
theorem L19_9_eq {k : Nat} {l : List Tk} (h : RS l) {i : Nat} (hi : i < l.length) {r y1 y2 : Int} (hr : 0 ≤ r ∧ r ≤ 50000) : ∀ (d n j : Nat) (x : Int), n + d = i → d < j → 0 ≤ x → x + sumA r (((l.take i).drop n).map pc1) ≤ 100000000000 →
  L19_9 k j r ((l.take (i + 1)).map cst1) y1 y2 ((l.take (i + 1)).map per1) (i : Int) x true (n : Int) = some ((x + sumA r (((l.take i).drop n).map pc1), true, ()), ())
 | 0, n, j, x, h1, hj, hx, hb => by
  obtain ⟨j', rfl⟩ : ∃ j', j = j' + 1 := ⟨j - 1, by omega⟩
  rw [L19_9_s, l19_9, bif_f (by omega), drop_nil (by rw [List.length_take]; omega)]
  simp [sumA]
 | d + 1, n, j, x, h1, hj, hx, hb => by
  obtain ⟨j', rfl⟩ : ∃ j', j = j' + 1 := ⟨j - 1, by omega⟩
  have hll := h.len
  have hn : n < (l.take i).length := by rw [List.length_take]; omega
  have hg : (l.take i).getD n t0 = l.getD n t0 := by
   rw [List.getD_eq_getElem?_getD, List.getD_eq_getElem?_getD, List.getElem?_take, if_pos (by omega)]
  have hc := h.co _ (getD_mem (z := t0) (show n < l.length by omega))
  have hper := hc.per; have hco := hc.cost; have hen := hc.en
  have hu := up_bd hr.1 hper.1
  have hmul := Int.mul_nonneg hu.1 (show 0 ≤ (costsT (l.getD n t0)).1 by omega)
  have hrest : 0 ≤ sumA r (((l.take i).drop (n + 1)).map pc1) := sumA_nonneg hr.1 (fun y hy => by
   obtain ⟨t, ht, rfl⟩ := List.mem_map.1 hy
   have q := h.co t (List.mem_of_mem_take (List.mem_of_mem_drop ht))
   have := q.cost; have := q.per
   unfold pc1; simp only; omega)
  have hlen : ((l.take (i + 1)).map per1).length = i + 1 := by rw [List.length_map, List.length_take]; omega
  have hlen2 : ((l.take (i + 1)).map cst1).length = i + 1 := by rw [List.length_map, List.length_take]; omega
  have ih := L19_9_eq (k := k) h hi (y1 := y1) (y2 := y2) hr d (n + 1) j' (x + up r (l.getD n t0).2.1 * (costsT (l.getD n t0)).1) (by omega) (by omega) (by omega)
  rw [drop_cons t0 hn, List.map_cons, sumA, hg] at hb ⊢
  have e1 : (pc1 (l.getD n t0)).1 = (l.getD n t0).2.1 := rfl
  have e2 : (pc1 (l.getD n t0)).2 = (costsT (l.getD n t0)).1 := rfl
  rw [e1, e2] at hb ⊢
  have ih := ih (by omega)
  rw [L19_9_s, l19_9, bif_t (by omega), cond_true, ix_nat (by omega), rd_nat, get_map1 (by omega) hi, show per1 (l.getD n t0) = (l.getD n t0).2.1 from rfl, S42_eq k (by omega) hper.1, Option.bind_some, ix_nat (by omega), rd_nat, get_map1 (by omega) hi, show cst1 (l.getD n t0) = (costsT (l.getD n t0)).1 from rfl]
  simp only
  rw [S43_eq k (by omega) (by omega) (by omega), Option.bind_some]
  simp only [cond_true]
  rw [S41_eq k hx hmul (by omega), Option.bind_some, w64_nat (by omega), ← Int.add_assoc]
  exact ih
theorem S19_eq {k : Nat} (hk : 1000 ≤ k) {l : List Tk} (h : RS l) {i : Nat} (hi : i < l.length) {apart r : Int} (ha : 1 ≤ apart) (hr : 0 ≤ r ∧ r ≤ 50000) : S19 k ((l.take (i + 1)).map cst1, lostG 0 (l.take (i + 1)), byT l (i : Int), (l.take (i + 1)).map per1) apart r = some ((rightT l i apart r, true, ()), ()) := by
 have hll := h.len
 have hlen2 : ((l.take (i + 1)).map cst1).length = i + 1 := by rw [List.length_map, List.length_take]; omega
 have hb := byT_bd h.co (i : Int)
 have hc := h.co _ (getD_mem (z := t0) hi)
 have hper := hc.per; have hco := hc.cost; have hen := hc.en
 have hls := h.lost (i + 1)
 have hlo := h.loss (i := i) ha hr
 have hsu := h.sum (i := i) hr
 have hu := up_bd hr.1 ha
 have hfi := h.first hi
 unfold S19
 simp only
 rw [hlen2, w64 (n := ((i + 1 : Nat) : Int) - 1) (by omega) (by omega), show ((i + 1 : Nat) : Int) - 1 = (i : Int) by omega, ix_nat (by omega), rd_nat, get_map1 (by omega) hi, show cst1 (l.getD i t0) = (costsT (l.getD i t0)).1 from rfl, S41_eq k (by omega) (by omega) (by omega), Option.bind_some, S42_eq k (by omega) ha, Option.bind_some]
 simp only
 rw [S43_eq k (by omega) (by omega) (by omega), Option.bind_some]
 simp only [cond_true]
 unfold j19_6
 rw [cond_true, show (costsT (l.getD i t0)).1 + byT l (i : Int) = firstT l i from rfl, S41_eq k (by omega) (by omega) (by omega), Option.bind_some]
 refine (L19_9_eq h hi hr i 0 k (firstT l i + up r apart * lostG 0 (l.take (i + 1))) (by omega) (by omega) (by omega) (by rw [List.drop_zero]; omega)).trans ?_
 rw [List.drop_zero]; rfl
theorem L17_7_eq {k : Nat} (hk : 1000 ≤ k) {l : List Tk} (h : RS l) {i : Nat} (hi : i < l.length) {apart : Int} (ha : 1 ≤ apart) : ∀ (f j : Nat) (r n : Int) (y : Int × Int × Int), f ≤ j → 0 ≤ r → r ≤ 50000 → 1 ≤ n → n + f ≤ 1000000 → respG (l.getD i t0).2.2.1 (rightT l i apart) f r n = some y →
  L17_7 k j l (i : Int) apart ((l.take (i + 1)).map cst1) (lostG 0 (l.take (i + 1))) (byT l (i : Int)) ((l.take (i + 1)).map per1) r n = some ((y.1, y.2.1, y.2.2, ()), ())
 | 0, j, r, n, y, _, _, _, _, _, e => by cases e
 | f + 1, j, r, n, y, hj, h0, h1, hn, hf, e => by
  obtain ⟨j', rfl⟩ : ∃ j', j = j' + 1 := ⟨j - 1, by omega⟩
  have hen := (h.co _ (getD_mem (z := t0) hi)).en
  have hper := (h.co _ (getD_mem (z := t0) hi)).per
  have hfi := h.first hi
  rw [L17_7_s, l17_7, S19_eq hk h hi ha ⟨h0, h1⟩, Option.bind_some]
  simp only [Bool.not_true, cond_false]
  rw [ix_nat hi, rd_nat, show l.getD i (0, 0, 0, [], [], []) = l.getD i t0 from rfl]
  rw [respG] at e
  split at e
  ·rename_i q
   injection e with e; subst e
   rw [bif_t q]
  ·rename_i q
   rw [bif_f q]
   split at e
   ·rename_i q2
    injection e with e; subst e
    rw [q2, beq_self_eq_true, cond_true]
   ·rename_i q2
    have hr := h.right hi ha ⟨h0, h1⟩
    rw [show (rightT l i apart r == r) = false by rw [beq_eq_false_iff_ne]; exact q2, cond_false, w64 (n := n + 1) (by omega) (by omega)]
    exact L17_7_eq hk h hi ha f j' (rightT l i apart r) (n + 1) y (by omega) (by omega) (by omega) (by omega) (by omega) e
theorem S17_eq {k : Nat} (hk : 20000 ≤ k) {l : List Tk} (hL : lightL l) (hl : l.length ≤ 10) (i apart : Int) : S17 k l i apart = some (((respT l i apart).1, (respT l i apart).2.1, (respT l i apart).2.2, ()), ()) := by
 unfold S17
 rw [S40_eq (by omega) hL, Option.bind_some]
 simp only
 cases hr : rowT l with
 | false =>
  have : respT l i apart = (0, 0, 1) := by unfold respT; rw [if_neg (fun q => by rw [hr] at q; cases q.1)]
  rw [this]; rfl
 | true =>
  rw [Bool.not_true, cond_false]
  by_cases h1 : i < 0
  ·have : respT l i apart = (0, 0, 1) := by unfold respT; rw [if_neg (fun q => by omega)]
   rw [bif_t h1, this]
  ·rw [bif_f h1]
   by_cases h2 : i ≥ (l.length : Int)
   ·have : respT l i apart = (0, 0, 1) := by unfold respT; rw [if_neg (fun q => by omega)]
    rw [bif_t h2, this]
   ·rw [bif_f h2]
    by_cases h3 : apart < 1
    ·have : respT l i apart = (0, 0, 1) := by unfold respT; rw [if_neg (fun q => by omega)]
     rw [bif_t h3, this]
    ·rw [bif_f h3]
     obtain ⟨n, rfl⟩ : ∃ n : Nat, i = (n : Int) := ⟨i.toNat, by omega⟩
     have hn : n < l.length := by omega
     have hRS := row_rs hr hL hl
     have hfi := hRS.first hn
     have hlen2 : ((l.take (n + 1)).map cst1).length = n + 1 := by rw [List.length_map, List.length_take]; omega
     obtain ⟨y, hy⟩ := resp_some hRS hn (show 1 ≤ apart by omega)
     rw [S18_eq (by omega) hL hn, Option.bind_some]
     simp only
     rw [ix_nat (by omega), rd_nat, get_map1 (by omega) hn, show cst1 (l.getD n t0) + byT l (n : Int) = firstT l n from rfl, w64 (n := firstT l n) (by omega) (by omega), respT_at hr hn (by omega) hy]
     exact L17_7_eq (by omega) hRS hn (by omega) 20000 k _ 1 y (by omega) (by omega) (by omega) (by omega) (by omega) hy
end Go.Proofs.Ytinopkpnlibopaa.Ab

/- Both answers are one: the law of all rows. -/
namespace Go.Proofs.Ytinopkpnlibopaa.Ab
open Go.RowKit Tr
set_option linter.unusedSimpArgs false
set_option linter.unusedVariables false
theorem light_b17 : lightL [(1, 50, 50, ([(1, 0, 0, 0), (1, 0, 0, 0), (0, 0, 0, 0)] : List I4), [], [])] := ⟨by decide, by unfold lightT; decide⟩
theorem S14_eq {k : Nat} (hk : 20000 ≤ k) : S14 k = some ((true, ()), ()) := by
 unfold S14
 rw [S16_eq hk light_b17 (by decide), S16_eq hk light_b17 (by decide)]
 kernel_rfl
theorem L3_11_eq {k : Nat} (hk : 20000 ≤ k) {g : Int → List Tk → List Int → Int → Option ((Bool × Unit) × Unit)} {l : List Tk} (hL : lightL l) (hl : l.length ≤ 10) {i : Int} {ap : List Int} {n : Nat} (hn : n < ap.length) (hap : ap.length ≤ 10) : ∀ (d j : Nat) (a : Int), a + d = (l.length : Int) + 1 → -1 ≤ a → d < j →
  L3_11 k g j i l ap (n : Int) a = g i l ap ((n + 1 : Nat) : Int)
 | 0, j, a, h, h1, hj => by
  obtain ⟨j', rfl⟩ : ∃ j', j = j' + 1 := ⟨j - 1, by omega⟩
  rw [L3_11_s, l3_11, bif_f (by omega), w64_nat (by omega)]
 | d + 1, j, a, h, h1, hj => by
  obtain ⟨j', rfl⟩ : ∃ j', j = j' + 1 := ⟨j - 1, by omega⟩
  have ih := L3_11_eq hk (g := g) hL hl (i := i) hn hap d j' (a + 1) (by omega) (by omega) (by omega)
  rw [L3_11_s, l3_11, bif_t (by omega), ix_nat hn, S16_eq hk hL hl, Option.bind_some, ix_nat hn, S17_eq hk hL hl, Option.bind_some, w64 (n := a + 1) (by omega) (by omega)]
  simp only [bne_self_eq_false, cond_false]
  exact ih
theorem L3_8_eq {k : Nat} (hk : 20000 ≤ k) {l : List Tk} (hL : lightL l) (hl : l.length ≤ 10) {i : Int} {ap : List Int} (hap : ap.length ≤ 10) : ∀ (d n j : Nat), n + d = ap.length → d < j → L3_8 k j i l ap (n : Int) = some ((true, ()), ())
 | 0, n, j, h, hj => by
  obtain ⟨j', rfl⟩ : ∃ j', j = j' + 1 := ⟨j - 1, by omega⟩
  have : respT l i 0 = (0, 0, 1) := by unfold respT; rw [if_neg (fun q => by omega)]
  rw [L3_8_s, l3_8, bif_f (by omega), S16_eq hk hL hl, Option.bind_some, this]
  rfl
 | d + 1, n, j, h, hj => by
  obtain ⟨j', rfl⟩ : ∃ j', j = j' + 1 := ⟨j - 1, by omega⟩
  rw [L3_8_s, l3_8, bif_t (by omega)]
  exact (L3_11_eq hk hL hl (by omega) hap (l.length + 2) k (-1) (by omega) (by omega) (by omega)).trans (L3_8_eq hk hL hl hap d (n + 1) j' (by omega) (by omega))
theorem boundAll_pure {p : List Int} {a i : Int} {e : TypeId} (hp : Ty.fine (.sl e (.int .u8)) p) {k : Nat} (hk : 20000 ≤ k) : S3 k p a i = some ((true, ()), ()) := by
 unfold S3
 rw [S14_eq hk]
 simp only [Option.bind_some, Bool.not_true, cond_false]
 by_cases h : (p.length : Int) > 250
 ·rw [bif_t h]
 ·rw [bif_f h]
  obtain ⟨l, locks, e1, hr, _, hl⟩ := S15_eq (k := k) (by omega) hp (by omega) (show (0 : Int) < 5 ∧ (5 : Int) ≤ 10 by omega)
  rw [e1, Option.bind_some]
  exact L3_8_eq hk (hr.light (by omega)) (by omega) (by simp) 6 0 k rfl (by omega)
theorem boundAll_law {e : TypeId} (p : List Int) (a i : Int) (hp : Ty.fine (.sl e (.int .u8)) p) (_ : Ty.fine (.int .i64) a) (_ : Ty.fine (.int .i64) i) : ∃ k, S3 k p a i = some ((true, ()), ()) := ⟨20000, boundAll_pure hp (by omega)⟩
end Go.Proofs.Ytinopkpnlibopaa.Ab
