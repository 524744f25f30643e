import Derived.Test.YtinopkpnlibopaaQZAbM0
import Derived.KernelRfl
/- The plain law, and what it hangs on. -/
/- A program that may be is the program of a tree. -/
namespace Go.Proofs.Ytinopkpnlibopaa.Ab
open Go.RowKit Tr
set_option linter.unusedSimpArgs false
set_option linter.unusedVariables false
theorem prGo_split {l : List I4} : ∀ (a b i : Nat) (s : List Int × List Int), prGo l (a + b) i s = (prGo l a i s).bind (prGo l b (i + a))
 | 0, b, i, s => by rw [Nat.zero_add, prGo]; rfl
 | a + 1, b, i, s => by
  rw [show a + 1 + b = (a + b) + 1 by omega, prGo, prGo]
  cases h : prStep l i s with
  | none => rfl
  | some t => rw [Option.bind_some, Option.bind_some, prGo_split a b (i + 1) t, show i + 1 + a = i + (a + 1) by omega]
theorem prStep_keep {l : List I4} {i : Nat} {s s' : List Int × List Int} (hi : PrI l i s.1 s.2) (h : prStep l i s = some s') : ∀ k : Nat, k < i → isOp l 9 k → (k : Int) ∉ s.2 → s'.1.getD k 0 = s.1.getD k 0 ∧ (k : Int) ∉ s'.2 := by
 intro k hk h9 ho
 unfold prStep at h
 split at h
 ·split at h
  ·cases h
  ·injection h with h; subst h
   refine ⟨rfl, fun h2 => ?_⟩
   rcases List.mem_append.1 h2 with h2 | h2
   ·exact ho h2
   ·have := List.mem_singleton.1 h2; omega
 ·split at h
  ·split at h
   ·cases h
   ·rename_i x hx
    split at h
    ·cases h
    ·injection h with h; subst h
     have hxm := List.mem_of_getLast? hx
     have := hi.small x hxm
     obtain ⟨n, rfl⟩ : ∃ n : Nat, x = (n : Int) := ⟨x.toNat, by omega⟩
     refine ⟨?_, fun h2 => ho ((List.dropLast_sublist _).subset h2)⟩
     show (upd s.1 (n : Int) (i : Int)).getD k 0 = _
     rw [upd_nat, set_get, if_neg]
     rintro ⟨rfl, _⟩
     exact ho hxm
  ·injection h with h; subst h; exact ⟨rfl, ho⟩
theorem prGo_keep {l : List I4} : ∀ (m i : Nat) (s s' : List Int × List Int), i + m ≤ l.length → PrI l i s.1 s.2 → prGo l m i s = some s' → ∀ k : Nat, k < i → isOp l 9 k → (k : Int) ∉ s.2 → s'.1.getD k 0 = s.1.getD k 0
 | 0, i, s, s', _, _, h, k, _, _, _ => by injection h with h; subst h; rfl
 | m + 1, i, s, s', hm, hi, h, k, hk, h9, ho => by
  rw [prGo, Option.bind_eq_some_iff] at h
  obtain ⟨t, h1, h2⟩ := h
  have := prStep_keep hi h1 k hk h9 ho
  rw [prGo_keep m (i + 1) t s' (by omega) (prI_step (by omega) hi h1) h2 k (by omega) h9 this.2, this.1]
theorem pr_at {l : List I4} {ps : List Int} (h : prs l = some ps) {n : Nat} (hn : n ≤ l.length) : ∃ s : List Int × List Int, PrI l n s.1 s.2 ∧ prGo l (l.length - n) n s = some (ps, []) ∧ ∀ k, k < n → isOp l 9 k → ((k : Int) ∈ s.2 ↔ (n : Int) ≤ ps.getD k 0) := by
 have hg := prs_go h
 have h0 : PrI l 0 (List.replicate l.length 0) [] := ⟨by simp, List.Pairwise.nil, (fun _ h => by cases h), (fun _ h => by cases h), fun _ h => by omega, fun _ _ _ h => by omega, fun _ _ _ h => by omega, rfl⟩
 rw [show l.length = n + (l.length - n) by omega, prGo_split, Nat.zero_add, Option.bind_eq_some_iff] at hg
 obtain ⟨s, h1, h2⟩ := hg
 have hinv : ∀ (m i : Nat) (s s' : List Int × List Int), i + m ≤ l.length → PrI l i s.1 s.2 → prGo l m i s = some s' → PrI l (i + m) s'.1 s'.2 := by
  intro m
  induction m with
  | zero => intro i s s' _ hi h; injection h with h; subst h; exact hi
  | succ m ih =>
   intro i s s' hm hi h
   rw [prGo, Option.bind_eq_some_iff] at h
   obtain ⟨t, h1, h2⟩ := h
   have := ih (i + 1) t s' (by omega) (prI_step (by omega) hi h1) h2
   rw [show i + (m + 1) = i + 1 + m by omega]; exact this
 have hln : n + (l.length - n) = l.length := by omega
 rw [hln] at h1
 have hs := hinv n 0 _ s (by omega) h0 h1
 rw [Nat.zero_add] at hs
 refine ⟨s, hs, h2, fun k hk h9 => ?_⟩
 constructor
 ·intro ho
  -- it is closed behind
  have hfin := prI_prs h
  obtain ⟨u, g1, g2, g3, _⟩ := hfin.closed k (by omega) h9 (by simp)
  rw [g1]
  have key : ∀ (m i : Nat) (s s' : List Int × List Int), i + m ≤ l.length → PrI l i s.1 s.2 → prGo l m i s = some s' → (k : Int) ∈ s.2 → (k : Int) ∈ s'.2 ∨ (i : Int) ≤ s'.1.getD k 0 := by
   intro m
   induction m with
   | zero => intro i s s' _ _ h ho; injection h with h; subst h; exact .inl ho
   | succ m ih =>
    intro i s s' hm hi h ho
    rw [prGo, Option.bind_eq_some_iff] at h
    obtain ⟨t, h1, h2⟩ := h
    have hi' := prI_step (by omega) hi h1
    by_cases e : (k : Int) ∈ t.2
    ·rcases ih (i + 1) t s' (by omega) hi' h2 e with q | q
     ·exact .inl q
     ·exact .inr (by omega)
    ·right
     have hkl := hi.small _ ho
     rw [prGo_keep m (i + 1) t s' (by omega) hi' h2 k (by omega) h9 e]
     -- it was closed at i
     unfold prStep at h1
     split at h1
     ·split at h1
      ·cases h1
      ·injection h1 with h1; subst h1
       exact absurd (List.mem_append_left _ ho) e
     ·split at h1
      ·split at h1
       ·cases h1
       ·rename_i x hx
        split at h1
        ·cases h1
        ·injection h1 with h1; subst h1
         have hxm := hi.small x (List.mem_of_getLast? hx)
         obtain ⟨n', rfl⟩ : ∃ n' : Nat, x = (n' : Int) := ⟨x.toNat, by omega⟩
         have hlen := hi.len
         show (i : Int) ≤ (upd s.1 (n' : Int) (i : Int)).getD k 0
         have hkn : n' = k := by
          by_cases hq : n' = k
          ·exact hq
          ·exfalso; apply e
           obtain ⟨r, hr⟩ : ∃ r, s.2 = r ++ [(n' : Int)] := by
            rcases List.eq_nil_or_concat s.2 with e | ⟨r, y, e⟩
            ·rw [e] at hx; cases hx
            ·rw [List.concat_eq_append] at e
             rw [e] at hx; simp at hx; subst hx; exact ⟨r, e⟩
           show (k : Int) ∈ s.2.dropLast
           rw [hr] at ho ⊢
           rw [List.dropLast_concat]
           rcases List.mem_append.1 ho with h | h
           ·exact h
           ·have := List.mem_singleton.1 h; omega
         rw [upd_nat, set_get, if_pos ⟨hkn, by omega⟩]; omega
      ·injection h1 with h1; subst h1; exact absurd ho e
  rcases key (l.length - n) n s (ps, []) (by omega) hs h2 ho with q | q
  ·cases q
  ·simp only at q; omega
 ·intro hge
  by_cases ho : (k : Int) ∈ s.2
  ·exact ho
  ·obtain ⟨u, g1, g2, g3, _⟩ := hs.closed k hk h9 ho
   have := prGo_keep (l.length - n) n s (ps, []) (by omega) hs h2 k hk h9 ho
   simp only at this
   omega
structure Prs (l : List I4) (ps : List Int) : Prop where
 lock : ∀ n, n < l.length → isOp l 9 n → ∃ u : Nat, ps.getD n 0 = (u : Int) ∧ n < u ∧ u < l.length ∧ isOp l 10 u ∧ semOf l u = semOf l n
 nest : ∀ k j, k < j → j < l.length → isOp l 9 k → isOp l 9 j → (j : Int) < ps.getD k 0 → ps.getD j 0 < ps.getD k 0 ∧ semOf l k ≠ semOf l j
 two : ∀ a b n, a < b → b < n → n < l.length → isOp l 9 a → isOp l 9 b → isOp l 9 n → (n : Int) < ps.getD a 0 → (n : Int) < ps.getD b 0 → False
 unlock : ∀ u, u < l.length → isOp l 10 u → ∃ n, n < u ∧ isOp l 9 n ∧ ps.getD n 0 = (u : Int)
 area : ∀ n, n < l.length → isOp l 9 n → ∀ u : Nat, ps.getD n 0 = (u : Int) → sepA l n u = false
theorem prs_facts {l : List I4} {ps : List Int} (h : prs l = some ps) : Prs l ps := by
 have hf := prI_prs h
 have stepAt : ∀ n, n < l.length → ∃ s t : List Int × List Int, PrI l n s.1 s.2 ∧ prStep l n s = some t ∧ PrI l (n + 1) t.1 t.2 ∧ prGo l (l.length - (n + 1)) (n + 1) t = some (ps, []) ∧ ∀ k, k < n → isOp l 9 k → ((k : Int) ∈ s.2 ↔ (n : Int) ≤ ps.getD k 0) := fun n hn => by
  obtain ⟨s, h1, h2, h3⟩ := pr_at h (n := n) (by omega)
  rw [show l.length - n = (l.length - (n + 1)) + 1 by omega, prGo, Option.bind_eq_some_iff] at h2
  obtain ⟨t, h4, h5⟩ := h2
  exact ⟨s, t, h1, h4, prI_step hn h1 h4, h5, h3⟩
 have unl : ∀ u, u < l.length → isOp l 10 u → ∃ n, n < u ∧ isOp l 9 n ∧ ps.getD n 0 = (u : Int) ∧ sepA l n u = false := fun u hu h10 => by
  obtain ⟨s, t, h1, h2, h3, h4, h5⟩ := stepAt u hu
  have h10' : (l.getD u i0).1 = 10 := h10
  unfold prStep at h2
  rw [if_neg (by rw [h10']; decide), if_pos h10'] at h2
  split at h2
  ·cases h2
  ·rename_i x hx
   split at h2
   ·cases h2
   ·rename_i hc
    injection h2 with h2; subst h2
    have hxm := List.mem_of_getLast? hx
    have hsm := h1.small x hxm
    obtain ⟨n, rfl⟩ : ∃ n : Nat, x = (n : Int) := ⟨x.toNat, by omega⟩
    have hl := h1.lock n hxm
    have hlen := h1.len
    refine ⟨n, by omega, hl, ?_, ?_⟩
    ·have hno : (n : Int) ∉ s.2.dropLast := by
      have hsort := h1.sorted
      obtain ⟨r, hr⟩ : ∃ r, s.2 = r ++ [(n : Int)] := by
       rcases List.eq_nil_or_concat s.2 with e | ⟨r, y, e⟩
       ·rw [e] at hx; cases hx
       ·rw [List.concat_eq_append] at e
        rw [e] at hx; simp at hx; subst hx; exact ⟨r, e⟩
      rw [hr, List.pairwise_append] at hsort
      rw [hr, List.dropLast_concat]
      intro e
      have := hsort.2.2 _ e (n : Int) (by simp); omega
     have := prGo_keep (l.length - (u + 1)) (u + 1) (upd s.1 (n : Int) (u : Int), s.2.dropLast) (ps, []) (by omega) h3 h4 n (by omega) hl hno
     simp only at this
     rw [this, upd_nat, set_get, if_pos ⟨rfl, by omega⟩]
    ·cases hs : sepA l n u with
     | false => rfl
     | true => exact absurd (.inr (by rw [Int.toNat_natCast]; exact hs)) hc
 refine ⟨fun n hn h9 => ?_, fun k j hkj hj h1 h2 h3 => ?_, fun a b n hab hbn hn h1 h2 h3 h4 h5 => ?_, fun u hu h10 => ?_, fun n hn h9 u hu => ?_⟩
 ·exact hf.closed n hn h9 (by simp)
 ·obtain ⟨_, q2, q3⟩ := hf.nest k j hkj hj h1 h2 (by simp) h3
  exact ⟨q2, q3⟩
 ·obtain ⟨s, t, g1, g2, _, _, g5⟩ := stepAt n hn
  have ha := (g5 a (by omega) h1).2 (by omega)
  have hb := (g5 b hbn h2).2 (by omega)
  have h9 : (l.getD n i0).1 = 9 := h3
  unfold prStep at g2
  rw [if_pos h9] at g2
  split at g2
  ·cases g2
  ·rename_i hc
   have hlt : s.2.length < 2 := by
    by_cases e : s.2.length < 2
    ·exact e
    ·exact absurd (.inl (by omega)) hc
   match hs : s.2, ha, hb, hlt with
   | [], ha, _, _ => cases ha
   | [y], ha, hb, _ =>
    have e1 := List.mem_singleton.1 ha
    have e2 := List.mem_singleton.1 hb
    omega
   | y :: z :: r, _, _, hlt => simp only [List.length_cons] at hlt; omega
 ·obtain ⟨n, q1, q2, q3, _⟩ := unl u hu h10
  exact ⟨n, q1, q2, q3⟩
 ·obtain ⟨u', g1, g2, g3, g4, _⟩ := hf.closed n hn h9 (by simp)
  have : u' = u := by omega
  subst this
  obtain ⟨n', q1, q2, q3, q4⟩ := unl u' g3 g4
  by_cases e : n' = n
  ·subst e; exact q4
  ·exfalso
   by_cases lt : n' < n
   ·have := (hf.nest n' n lt hn q2 h9 (by simp) (by omega)).2.1; omega
   ·have := (hf.nest n n' (by omega) (by omega) h9 q2 (by simp) (by omega)).2.1; omega
theorem three_bodies {l : List I4} (hm : ∀ x ∈ l, mayI x = true) (hl : l.length ≤ 900) {a b c : Nat} {j : Int} (hab : a < b) (hbc : b < c) (hc : c < l.length) (h : ∀ n, n = a ∨ n = b ∨ n = c → (l.getD n i0).1 = 8 ∧ (n : Int) < j ∧ j ≤ n + wd (l.getD n i0)) : 3 ≤ cB j (pcs 0 l) := by
 have one : ∀ n, n = a ∨ n = b ∨ n = c → cB j (pc n (l.getD n i0)) = 1 := fun n hn => by
  obtain ⟨h8, h1, h2⟩ := h n hn
  have hlt : n < l.length := by omega
  have hA : isA (l.getD n i0) = true := by simp only [isA, h8]; rfl
  rw [pc_may (hm _ (getD_mem hlt)) (by omega), if_pos hA, cB, List.countP_cons, List.countP_nil]
  have e3 : (arOf n (l.getD n i0)).2.2.2 = true := by simp only [arOf, h8]; rfl
  rw [e3, show hasA (arOf n (l.getD n i0)) j = true by rw [has_iff]; simp only [arOf]; omega]; rfl
 have up : ∀ n, n < l.length → cB j (pcs 0 (l.take (n + 1))) = cB j (pcs 0 (l.take n)) + cB j (pc n (l.getD n i0)) := fun n hn => by
  have : l.take (n + 1) = l.take n ++ [l.getD n i0] := by rw [List.take_add_one, getD_in hn, List.getElem?_eq_getElem hn]; rfl
  rw [this, pcs_app, cB_app, List.length_take, Nat.zero_add, show min n l.length = n by omega]
  simp [pcs]
 have mono : ∀ d n, n + d ≤ l.length → cB j (pcs 0 (l.take n)) ≤ cB j (pcs 0 (l.take (n + d))) := fun d => by
  induction d with
  | zero => intro n _; simp
  | succ d ih => intro n hn; have := ih n (by omega); rw [show n + (d + 1) = n + d + 1 by omega, up (n + d) (by omega)]; omega
 have h1 := up a (by omega)
 have h2 := up b (by omega)
 have h3 := up c (by omega)
 rw [one a (.inl rfl)] at h1
 rw [one b (.inr (.inl rfl))] at h2
 rw [one c (.inr (.inr rfl))] at h3
 have m1 := mono (b - (a + 1)) (a + 1) (by omega)
 have m2 := mono (c - (b + 1)) (b + 1) (by omega)
 have m3 := mono (l.length - (c + 1)) (c + 1) (by omega)
 rw [show a + 1 + (b - (a + 1)) = b by omega] at m1
 rw [show b + 1 + (c - (b + 1)) = c by omega] at m2
 rw [show c + 1 + (l.length - (c + 1)) = l.length by omega, List.take_length] at m3
 omega
def Bd (l : List I4) (o e : Nat) : Nat → Prop
 | 0 => True
 | 1 => ∃ a, a < o ∧ isOp l 8 a ∧ e ≤ a + wd (l.getD a i0) + 1
 | 2 => ∃ a b, a < b ∧ b < o ∧ isOp l 8 a ∧ isOp l 8 b ∧ e ≤ a + wd (l.getD a i0) + 1 ∧ e ≤ b + wd (l.getD b i0) + 1
 | _ + 3 => False
def Hd (l : List I4) (ps : List Int) (o e : Nat) (hs : List Int) : Prop := ∃ H : List Nat, hs = H.map (semOf l) ∧ H.Pairwise (· < ·) ∧ ∀ k ∈ H, k < o ∧ isOp l 9 k ∧ (e : Int) ≤ ps.getD k 0
theorem Bd_sub {l : List I4} {o e o' e' : Nat} (ho : o ≤ o') (he : e' ≤ e) : ∀ {d : Nat}, Bd l o e d → Bd l o' e' d
 | 0, _ => trivial
 | 1, ⟨a, h1, h2, h3⟩ => ⟨a, by omega, h2, by omega⟩
 | 2, ⟨a, b, h1, h2, h3, h4, h5, h6⟩ => ⟨a, b, h1, by omega, h3, h4, by omega, by omega⟩
 | _ + 3, h => h.elim
theorem Hd_sub {l : List I4} {ps : List Int} {o e o' e' : Nat} {hs : List Int} (ho : o ≤ o') (he : e' ≤ e) (h : Hd l ps o e hs) : Hd l ps o' e' hs := by
 obtain ⟨H, h1, h2, h3⟩ := h
 exact ⟨H, h1, h2, fun k hk => by obtain ⟨q1, q2, q3⟩ := h3 k hk; exact ⟨by omega, q2, by omega⟩⟩
theorem At_one {l : List I4} {o : Nat} {x : I4} {w : List I4} (hx : l.getD o i0 = x) (hl : o < l.length) (h : At l (o + 1) w) : At l o (x :: w) := by
 obtain ⟨h1, h2⟩ := h
 refine ⟨by simp only [List.length_cons]; omega, fun j hj => ?_⟩
 cases j with
 | zero => simpa using hx
 | succ j =>
  simp only [List.length_cons] at hj
  rw [List.getD_cons_succ, ← h2 j (by omega)]; congr 1; omega
theorem At_two {l : List I4} {o : Nat} {u w : List I4} (h1 : At l o u) (h2 : At l (o + u.length) w) : At l o (u ++ w) := by
 obtain ⟨a1, a2⟩ := h1
 obtain ⟨b1, b2⟩ := h2
 refine ⟨by simp only [List.length_append]; omega, fun j hj => ?_⟩
 simp only [List.length_append] at hj
 by_cases e : j < u.length
 ·rw [getD_app_l e, a2 j e]
 ·rw [getD_app_r (by omega), ← b2 (j - u.length) (by omega)]; congr 1; omega
theorem op_cases {x : I4} (h : mayI x = true) : x.1 = 0 ∨ x.1 = 7 ∨ x.1 = 8 ∨ x.1 = 9 ∨ x.1 = 10 ∨ plain x := by unfold plain; omega
theorem may9 {x : I4} (h : mayI x = true) (e : x.1 = 9 ∨ x.1 = 10) : (0 ≤ x.2.1 ∧ x.2.1 ≤ 3) ∧ x.2.2.1 = 0 ∧ x.2.2.2 = 0 := by
 rcases e with e | e <;> simpa [mayI, e, witI] using h
theorem parse {l : List I4} {ps : List Int} (g : GoodA l ps) (P : Prs l ps) : ∀ (len o d : Nat) (hs : List Int) (ia : Bool), o + len < l.length → (∀ n, o ≤ n → n < o + len → n + wd (l.getD n i0) < o + len) →
  (∀ n, o ≤ n → n < o + len → isOp l 9 n → ps.getD n 0 < ((o + len : Nat) : Int)) → (∀ n u : Nat, o ≤ u → u < o + len → isOp l 9 n → ps.getD n 0 = (u : Int) → o ≤ n) →
  Bd l o (o + len) d → Hd l ps o (o + len) hs → (ia = true → ∃ a, a < o ∧ isA (l.getD a i0) = true ∧ o + len ≤ a + wd (l.getD a i0) + 1) →
  ∃ t : Tr, t.len = len ∧ At l o t.flat ∧ Ok d hs ia t := by
 have hl2 := g.len2
 intro len
 induction len using Nat.strongRecOn with
 | _ len ih =>
 intro o d hs ia hlen S1 S2 S3 hB hH hI
 match len, ih, hlen, S1, S2, S3, hB, hH, hI with
 | 0, _, _, _, _, _, _, _, _ => exact ⟨.nil, rfl, ⟨by simp [Tr.flat]; omega, by simp [Tr.flat]⟩, trivial⟩
 | len + 1, ih, hlen, S1, S2, S3, hB, hH, hI =>
 have hol : o < l.length := by omega
 have hm := g.may _ (getD_mem (z := i0) hol)
 rcases op_cases hm with e | e | e | e | e | e
 ·exact absurd ((g.end_ o hol).1 e) (by omega)
 ·-- a reach
  have hA : isA (l.getD o i0) = true := by simp only [isA, e]; rfl
  have hw := mayA_wd hm hA
  have h1 := S1 o (by omega) (by omega)
  obtain ⟨n, hn⟩ : ∃ n, n = wd (l.getD o i0) := ⟨_, rfl⟩
  rw [← hn] at h1 hw
  have inb : ∀ n', o < n' → n' ≤ o + n → n' + wd (l.getD n' i0) ≤ o + n := fun n' q1 q2 => (by have := nest_wd g hA (n := n') (by omega) (by rw [← hn]; exact ⟨q1, q2⟩); omega)
  obtain ⟨b, b1, b2, b3⟩ := ih n (by omega) (o + 1) d hs true (by omega) (fun n' q1 q2 => by have := inb n' (by omega) (by omega); omega)
   (fun n' q1 q2 q3 => (by have := lock_area g P hA (n := n') (by omega) q3 (by omega) (by omega); omega))
   (fun n' u q1 q2 q3 q4 => lock_area_back g P hA q3 q4 (by omega) (by omega))
   (Bd_sub (by omega) (by omega) hB) (Hd_sub (by omega) (by omega) hH) (fun _ => ⟨o, by omega, hA, by omega⟩)
  obtain ⟨r, r1, r2, r3⟩ := ih (len - n) (by omega) (o + 1 + n) d hs ia (by omega) (fun n' q1 q2 => by have := S1 n' (by omega) (by omega); omega)
   (fun n' q1 q2 q3 => by have := S2 n' (by omega) (by omega) q3; omega)
   (fun n' u q1 q2 q3 q4 => by
    have := S3 n' u (by omega) (by omega) q3 q4
    by_cases f : n' = o
    ·subst f; exact absurd (show (l.getD n' i0).1 = 9 from q3) (by omega)
    ·by_cases f2 : n' ≤ o + n
     ·have := lock_area g P hA (by omega) q3 (show o < n' by omega) (by omega); omega
     ·omega)
   (Bd_sub (by omega) (by omega) hB) (Hd_sub (by omega) (by omega) hH) (fun q => by obtain ⟨a, a1, a2, a3⟩ := hI q; exact ⟨a, by omega, a2, by omega⟩)
  refine ⟨.ar (l.getD o i0) b r, by simp only [Tr.len]; omega, ?_, ⟨hm, hA, by omega⟩, fun e2 => by omega, ?_, r3⟩
  ·simp only [Tr.flat]
   exact At_one rfl hol (At_two b2 (by rw [flat_len, b1]; exact r2))
  ·rw [show ((l.getD o i0).1 == 8) = false by rw [e]; rfl]; exact b3
 ·-- a body
  have hA : isA (l.getD o i0) = true := by simp only [isA, e]; rfl
  have hw := mayA_wd hm hA
  have h1 := S1 o (by omega) (by omega)
  obtain ⟨n, hn⟩ : ∃ n, n = wd (l.getD o i0) := ⟨_, rfl⟩
  rw [← hn] at h1 hw
  have inb : ∀ n', o < n' → n' ≤ o + n → n' + wd (l.getD n' i0) ≤ o + n := fun n' q1 q2 => (by have := nest_wd g hA (n := n') (by omega) (by rw [← hn]; exact ⟨q1, q2⟩); omega)
  have hd : d < 2 ∧ Bd l (o + 1) (o + 1 + n) (d + 1) := by
   match d, hB with
   | 0, _ => exact ⟨by omega, o, by omega, e, by omega⟩
   | 1, ⟨a, a1, a2, a3⟩ => exact ⟨by omega, a, o, a1, by omega, a2, e, by omega, by omega⟩
   | 2, ⟨a, b, a1, a2, a3, a4, a5, a6⟩ =>
    have := three_bodies g.may (by omega) (a := a) (b := b) (c := o) (j := ((o + 1 : Nat) : Int)) a1 a2 hol (fun n' hn' => by
     rcases hn' with rfl | rfl | rfl
     ·exact ⟨a3, by omega, by omega⟩
     ·exact ⟨a4, by omega, by omega⟩
     ·exact ⟨e, by omega, by omega⟩)
    have := g.bodies (o + 1) (by omega)
    omega
   | _ + 3, h => exact h.elim
  obtain ⟨b, b1, b2, b3⟩ := ih n (by omega) (o + 1) (d + 1) hs true (by omega) (fun n' q1 q2 => by have := inb n' (by omega) (by omega); omega)
   (fun n' q1 q2 q3 => (by have := lock_area g P hA (n := n') (by omega) q3 (by omega) (by omega); omega))
   (fun n' u q1 q2 q3 q4 => lock_area_back g P hA q3 q4 (by omega) (by omega))
   hd.2 (Hd_sub (by omega) (by omega) hH) (fun _ => ⟨o, by omega, hA, by omega⟩)
  obtain ⟨r, r1, r2, r3⟩ := ih (len - n) (by omega) (o + 1 + n) d hs ia (by omega) (fun n' q1 q2 => by have := S1 n' (by omega) (by omega); omega)
   (fun n' q1 q2 q3 => by have := S2 n' (by omega) (by omega) q3; omega)
   (fun n' u q1 q2 q3 q4 => by
    have := S3 n' u (by omega) (by omega) q3 q4
    by_cases f : n' = o
    ·subst f; exact absurd (show (l.getD n' i0).1 = 9 from q3) (by omega)
    ·by_cases f2 : n' ≤ o + n
     ·have := lock_area g P hA (by omega) q3 (show o < n' by omega) (by omega); omega
     ·omega)
   (Bd_sub (by omega) (by omega) hB) (Hd_sub (by omega) (by omega) hH) (fun q => by obtain ⟨a, a1, a2, a3⟩ := hI q; exact ⟨a, by omega, a2, by omega⟩)
  refine ⟨.ar (l.getD o i0) b r, by simp only [Tr.len]; omega, ?_, ⟨hm, hA, by omega⟩, fun _ => hd.1, ?_, r3⟩
  ·simp only [Tr.flat]
   exact At_one rfl hol (At_two b2 (by rw [flat_len, b1]; exact r2))
  ·rw [show ((l.getD o i0).1 == 8) = true by rw [e]; rfl]; exact b3
 ·-- a pair
  obtain ⟨u, u1, u2, u3, u4, u5⟩ := P.lock o hol e
  have hu := S2 o (by omega) (by omega) e
  rw [u1] at hu
  have h9 := may9 hm (.inl e)
  have hmu := may9 (g.may _ (getD_mem (z := i0) u3)) (.inr u4)
  have hxo : l.getD o i0 = (9, semOf l o, 0, 0) := Prod.ext e (Prod.ext rfl (Prod.ext h9.2.1 h9.2.2))
  have hxu : l.getD u i0 = (10, semOf l o, 0, 0) := Prod.ext u4 (Prod.ext u5 (Prod.ext hmu.2.1 hmu.2.2))
  have hsep := (sepA_none g.may (by omega)).1 (P.area o hol e u u1)
  obtain ⟨H, H1, H2, H3⟩ := hH
  have hnot : semOf l o ∉ hs := by
   rw [H1]; intro hq
   obtain ⟨k, k1, k2⟩ := List.mem_map.1 hq
   obtain ⟨k3, k4, k5⟩ := H3 k k1
   exact (P.nest k o k3 hol k4 e (by omega)).2 k2
  have hfew : hs.length < 2 := by
   rw [H1, List.length_map]
   match H, H2, H3 with
   | [], _, _ => simp
   | [a], _, _ => simp
   | a :: b :: q, H2, H3 =>
    exfalso
    obtain ⟨a1, a2, a3⟩ := H3 a (by simp)
    obtain ⟨b1, b2, b3⟩ := H3 b (by simp)
    have hab : a < b := (List.pairwise_cons.1 H2).1 b (by simp)
    exact P.two a b o hab b1 hol a2 b2 e (by omega) (by omega)
  obtain ⟨b, b1, b2, b3⟩ := ih (u - (o + 1)) (by omega) (o + 1) d (hs ++ [semOf l o]) ia (by omega) (fun n' q1 q2 => by
    by_cases hA : isA (l.getD n' i0) = true
    ·have := hsep n' (by omega) hA
     by_cases f : n' + wd (l.getD n' i0) < o + 1 + (u - (o + 1))
     ·exact f
     ·have := this.2 ⟨by omega, by omega⟩; omega
    ·rw [wd_zero (by simpa using hA)]; omega)
   (fun n' q1 q2 q3 => by have := (P.nest o n' (by omega) (by omega) e q3 (by omega)).1; omega)
   (fun n' v q1 q2 q3 q4 => by
    have := S3 n' v (by omega) (by omega) q3 q4
    by_cases f : n' = o
    ·subst f; omega
    ·omega)
   (Bd_sub (by omega) (by omega) hB) ⟨H ++ [o], by rw [H1, List.map_append]; rfl, by
    rw [List.pairwise_append]
    exact ⟨H2, List.pairwise_singleton _ _, fun a ha b hb => by rw [List.mem_singleton.1 hb]; exact (H3 a ha).1⟩, fun k hk => by
    rcases List.mem_append.1 hk with hk | hk
    ·obtain ⟨k1, k2, k3⟩ := H3 k hk; exact ⟨by omega, k2, by omega⟩
    ·rw [List.mem_singleton.1 hk]; exact ⟨by omega, e, by omega⟩⟩ (fun q => by obtain ⟨a, a1, a2, a3⟩ := hI q; exact ⟨a, by omega, a2, by omega⟩)
  obtain ⟨r, r1, r2, r3⟩ := ih (o + len - u) (by omega) (u + 1) d hs ia (by omega) (fun n' q1 q2 => by have := S1 n' (by omega) (by omega); omega)
   (fun n' q1 q2 q3 => by have := S2 n' (by omega) (by omega) q3; omega)
   (fun n' v q1 q2 q3 q4 => by
    have := S3 n' v (by omega) (by omega) q3 q4
    by_cases f : n' = o
    ·subst f; omega
    ·by_cases f2 : n' < u
     ·have := (P.nest o n' (by omega) (by omega) e q3 (by omega)).1; omega
     ·by_cases f3 : n' = u
      ·subst f3; exact absurd (show (l.getD n' i0).1 = 9 from q3) (by rw [show (l.getD n' i0).1 = 10 from u4]; decide)
      ·omega)
   (Bd_sub (by omega) (by omega) hB) (Hd_sub (by omega) (by omega) ⟨H, H1, H2, H3⟩) (fun q => by obtain ⟨a, a1, a2, a3⟩ := hI q; exact ⟨a, by omega, a2, by omega⟩)
  refine ⟨.lk (semOf l o) b r, by simp only [Tr.len]; omega, ?_, h9.1, ⟨hnot, hfew⟩, b3, r3⟩
  simp only [Tr.flat]
  refine At_one hxo hol (At_two b2 ?_)
  rw [flat_len, b1, show o + 1 + (u - (o + 1)) = u by omega]
  exact At_one hxu u3 r2
 ·-- an unlock whose lock stands ahead of all
  obtain ⟨n', q1, q2, q3⟩ := P.unlock o hol e
  have := S3 n' o (by omega) (by omega) q2 q3
  omega
 ·-- a plain one
  obtain ⟨r, r1, r2, r3⟩ := ih len (by omega) (o + 1) d hs ia (by omega) (fun n' q1 q2 => by have := S1 n' (by omega) (by omega); omega)
   (fun n' q1 q2 q3 => by have := S2 n' (by omega) (by omega) q3; omega)
   (fun n' v q1 q2 q3 q4 => by
    have := S3 n' v (by omega) (by omega) q3 q4
    by_cases f : n' = o
    ·subst f; exact absurd q3 e.2.2.2.1
    ·omega)
   (Bd_sub (by omega) (by omega) hB) (Hd_sub (by omega) (by omega) hH) (fun q => by obtain ⟨a, a1, a2, a3⟩ := hI q; exact ⟨a, by omega, a2, by omega⟩)
  refine ⟨.one (l.getD o i0) r, by simp only [Tr.len]; omega, At_one rfl hol r2, hm, e, fun e11 => ?_, r3⟩
  obtain ⟨m1, m2⟩ := g.marks o hol e11
  constructor
  ·cases ia with
   | false => rfl
   | true =>
    exfalso
    obtain ⟨a, a1, a2, a3⟩ := hI rfl
    rw [List.any_eq_false] at m1
    have := m1 (arOf a (l.getD a i0)) ((pcs_mem_iff l 0 _ g.may (by omega)).2 ⟨a, by omega, a2, by rw [Nat.zero_add]⟩)
    rw [has_iff] at this
    simp only [arOf] at this
    omega
  ·obtain ⟨H, H1, H2, H3⟩ := hH
   cases H with
   | nil => exact H1
   | cons k q =>
    exfalso
    obtain ⟨k1, k2, k3⟩ := H3 k (by simp)
    have := m2 k k1
    omega
where
 nest_wd {l : List I4} {ps : List Int} (g : GoodA l ps) {o n : Nat} (hA : isA (l.getD o i0) = true) (hn : n < l.length) (h : o < n ∧ n ≤ o + wd (l.getD o i0)) : n + wd (l.getD n i0) ≤ o + wd (l.getD o i0) := by
  have hl2 := g.len2
  by_cases hB : isA (l.getD n i0) = true
  ·have := g.bad (arOf n (l.getD n i0)) ((pcs_mem_iff l 0 _ g.may (by omega)).2 ⟨n, hn, hB, by rw [Nat.zero_add]⟩) (arOf o (l.getD o i0)) ((pcs_mem_iff l 0 _ g.may (by omega)).2 ⟨o, by omega, hA, by rw [Nat.zero_add]⟩)
   unfold badA at this
   rw [Bool.or_eq_false_iff] at this
   have h2 := this.1
   have hq : hasA (arOf o (l.getD o i0)) (arOf n (l.getD n i0)).2.2.1 = true := has_iff.2 (by simp only [arOf]; omega)
   rw [hq, Bool.true_and, Bool.not_eq_false'] at h2
   unfold inA at h2
   rw [Bool.and_eq_true, has_iff, has_iff] at h2
   simp only [arOf] at h2
   omega
  ·rw [wd_zero (by simpa using hB)]; omega
 lock_area {l : List I4} {ps : List Int} (g : GoodA l ps) (P : Prs l ps) {o n : Nat} (hA : isA (l.getD o i0) = true) (hn : n < l.length) (h9 : isOp l 9 n) (h1 : o < n) (h2 : n ≤ o + wd (l.getD o i0)) : ps.getD n 0 < ((o + wd (l.getD o i0) + 1 : Nat) : Int) := by
  have hl2 := g.len2
  obtain ⟨u, u1, _⟩ := P.lock n hn h9
  have := (sepA_none g.may (by omega)).1 (P.area n hn h9 u u1) o (by omega) hA
  have := this.1 ⟨h1, h2⟩
  omega
 lock_area_back {l : List I4} {ps : List Int} (g : GoodA l ps) (P : Prs l ps) {o n u : Nat} (hA : isA (l.getD o i0) = true) (h9 : isOp l 9 n) (hu : ps.getD n 0 = (u : Int)) (h1 : o + 1 ≤ u) (h2 : u ≤ o + wd (l.getD o i0)) : o + 1 ≤ n := by
  have hl2 := g.len2
  have hn : n < l.length := by
   by_cases f : n < l.length
   ·exact f
   ·have : l.getD n i0 = i0 := getD_out (by omega)
    unfold isOp at h9; rw [this] at h9; exact absurd h9 (by decide)
  have hol : o < l.length := by
   by_cases f : o < l.length
   ·exact f
   ·rw [getD_out (by omega)] at hA; exact absurd hA (by decide)
  have := (sepA_none g.may (by omega)).1 (P.area n hn h9 u hu) o hol hA
  have := this.2 ⟨by omega, h2⟩
  omega
theorem good_is_tree {l : List I4} (h : mayA l = true) : ∃ t : Tr, Ok 0 [] false t ∧ l = t.prog ∧ t.len < 24 := by
 obtain ⟨ps, g⟩ := mayA_iff.1 h
 have hl1 := g.len1
 have hl2 := g.len2
 have P := prs_facts g.pairs
 have hlast : (l.getD (l.length - 1) i0).1 = 0 := (g.end_ (l.length - 1) (by omega)).2 (by omega)
 obtain ⟨t, t1, t2, t3⟩ := parse g P (l.length - 1) 0 0 [] false (by omega) (fun n h1 h2 => by
   by_cases hA : isA (l.getD n i0) = true
   ·have := g.last (arOf n (l.getD n i0)) ((pcs_mem_iff l 0 _ g.may (by omega)).2 ⟨n, by omega, hA, by rw [Nat.zero_add]⟩)
    have e : (arOf n (l.getD n i0)).2.1 = ((n + wd (l.getD n i0) : Nat) : Int) := rfl
    omega
   ·rw [wd_zero (by simpa using hA)]; omega)
  (fun n h1 h2 h9 => by
   obtain ⟨u, u1, u2, u3, u4, _⟩ := P.lock n (by omega) h9
   have : u ≠ l.length - 1 := fun e => by
    subst e
    rw [show (l.getD (l.length - 1) i0).1 = 10 from u4] at hlast; exact absurd hlast (by decide)
   omega) (fun n u _ _ _ _ => by omega) trivial ⟨[], rfl, List.Pairwise.nil, fun k hk => by cases hk⟩ (fun e => by cases e)
 have hz : l.getD (l.length - 1) i0 = i0 := by
  have := g.may _ (getD_mem (z := i0) (l := l) (i := l.length - 1) (by omega))
  have h3 : (l.getD (l.length - 1) i0).2.1 = 0 ∧ (l.getD (l.length - 1) i0).2.2.1 = 0 ∧ (l.getD (l.length - 1) i0).2.2.2 = 0 := by
   generalize l.getD (l.length - 1) i0 = x at this hlast
   simpa [mayI, hlast] using this
  exact Prod.ext hlast (Prod.ext h3.1 (Prod.ext h3.2.1 h3.2.2))
 refine ⟨t, t3, ?_, by omega⟩
 have hpl := prog_len t
 apply List.ext_getElem (by omega)
 intro n h1 h2
 rw [← getD_in (z := i0) h1, ← getD_in (z := i0) h2]
 by_cases e : n < t.len
 ·have := t2.2 n (by rw [flat_len]; exact e)
  rw [Nat.zero_add] at this
  rw [this]
  unfold Tr.prog
  rw [getD_app_l (by rw [flat_len]; exact e)]
 ·have : n = l.length - 1 := by omega
  subst this
  rw [hz, show l.length - 1 = t.len by omega, prog_end]
end Go.Proofs.Ytinopkpnlibopaa.Ab

/- How often, sums that may go beyond, rows. -/
namespace Go.Proofs.Ytinopkpnlibopaa.Ab
open Go.RowKit Tr
set_option linter.unusedSimpArgs false
set_option linter.unusedVariables false
def up (r v : Int) : Int := (r + v - 1) / v
theorem up_tdiv {r v : Int} (hr : 0 ≤ r) (hv : 1 ≤ v) : (if Int.tmod r v > 0 then Int.tdiv r v + 1 else Int.tdiv r v) = up r v := by
 rw [Int.tdiv_eq_ediv_of_nonneg hr, Int.tmod_eq_emod_of_nonneg hr]
 unfold up
 have h1 := Int.emod_nonneg r (show v ≠ 0 by omega)
 have h2 := Int.emod_lt_of_pos r (show 0 < v by omega)
 have h3 := Int.mul_ediv_add_emod r v
 split
 ·rename_i h
  have : r + v - 1 = (r % v - 1) + v * (r / v + 1) := by rw [Int.mul_add, Int.mul_one]; omega
  rw [this, Int.add_mul_ediv_left _ _ (by omega), Int.ediv_eq_zero_of_lt (a := r % v - 1) (b := v) (by omega) (by omega)]; omega
 ·have : r + v - 1 = (v - 1) + v * (r / v) := by omega
  rw [this, Int.add_mul_ediv_left _ _ (by omega), Int.ediv_eq_zero_of_lt (a := v - 1) (b := v) (by omega) (by omega)]; omega
theorem up_bd {r v : Int} (hr : 0 ≤ r) (hv : 1 ≤ v) : 0 ≤ up r v ∧ up r v ≤ r := by
 unfold up
 refine ⟨Int.ediv_nonneg (by omega) (by omega), ?_⟩
 rw [← Int.lt_add_one_iff]
 refine Int.ediv_lt_of_lt_mul (by omega) ?_
 have : (r + 1) * 1 ≤ (r + 1) * v := Int.mul_le_mul_of_nonneg_left hv (by omega)
 have : r * 1 ≤ r * v := Int.mul_le_mul_of_nonneg_left hv hr
 rw [Int.add_mul]; omega
theorem up_mono {r s v : Int} (h : r ≤ s) (hv : 1 ≤ v) : up r v ≤ up s v := Int.ediv_le_ediv (by omega) (by omega)
theorem tdiv_bd {r v : Int} (hr : 0 ≤ r) (hv : 1 ≤ v) : 0 ≤ Int.tdiv r v ∧ Int.tdiv r v ≤ r := by
 rw [Int.tdiv_eq_ediv_of_nonneg hr]
 exact ⟨Int.ediv_nonneg hr (by omega), Int.ediv_le_self _ hr⟩
theorem S59_eq (k : Nat) {a b : Int} (ha : 0 ≤ a ∧ a ≤ 4611686018427387904) (hb : 1 ≤ b) : S59 k a b = some ((up a b, true, ()), ()) := by
 have h := tdiv_bd ha.1 hb
 have e := up_tdiv ha.1 hb
 unfold S59
 rw [bif_f (by omega), bif_f (by omega), nz_ok (by omega), nz_ok (by omega), w64 (n := Int.tdiv a b) (by omega) (by omega), w64 (n := Int.tdiv a b + 1) (by omega) (by omega), ← e]
 split
 ·rename_i h1; rw [bif_t h1]
 ·rename_i h1; rw [bif_f h1]
theorem S42_eq (k : Nat) {a b : Int} (ha : 0 ≤ a ∧ a ≤ 4611686018427387904) (hb : 1 ≤ b) : S42 k a b = some ((up a b, true, ()), ()) := by
 have h := tdiv_bd ha.1 hb
 have e := up_tdiv ha.1 hb
 unfold S42
 rw [bif_f (by omega), bif_f (by omega), nz_ok (by omega), nz_ok (by omega), w64 (n := Int.tdiv a b) (by omega) (by omega), w64 (n := Int.tdiv a b + 1) (by omega) (by omega), ← e]
 split
 ·rename_i h1; rw [bif_t h1]
 ·rename_i h1; rw [bif_f h1]
theorem S39_eq (k : Nat) {a b : Int} (ha : 0 ≤ a ∧ a ≤ 4611686018427387904) (hb : 1 ≤ b) : S39 k a b = some ((up a b, ()), ()) := by
 unfold S39; rw [S59_eq k ha hb, Option.bind_some]
theorem S41_eq (k : Nat) {a b : Int} (ha : 0 ≤ a) (hb : 0 ≤ b) (h : a + b ≤ 4611686018427387904) : S41 k a b = some ((a + b, true, ()), ()) := by
 unfold S41
 rw [w64 (n := 9223372036854775807 - b) (by omega) (by omega), bif_f (by omega), w64 (by omega) (by omega)]
theorem S43_eq (k : Nat) {a b : Int} (ha : 0 ≤ a ∧ a ≤ 4611686018427387904) (hb : 0 ≤ b ∧ b ≤ 4611686018427387904) (h : a * b ≤ 4611686018427387904) : S43 k a b = some ((a * b, true, ()), ()) := by
 have h0 := Int.mul_nonneg ha.1 hb.1
 unfold S43
 rw [w64 (n := a * b) (by omega) (by omega)]
 by_cases hp : a > 0
 ·have hd := tdiv_bd (r := 9223372036854775807) (v := a) (by omega) (by omega)
  have hle : b ≤ Int.tdiv 9223372036854775807 a := by
   rw [Int.tdiv_eq_ediv_of_nonneg (by omega)]
   exact (Int.le_ediv_iff_mul_le hp).2 (by rw [Int.mul_comm]; omega)
  rw [bif_t hp, nz_ok (by omega), w64 (n := Int.tdiv 9223372036854775807 a) (by omega) (by omega), bif_f (by omega)]
 ·rw [bif_f hp]
theorem S37_eq (k : Nat) {s t v : Int} (hs : 0 ≤ s) (ht : 0 ≤ t ∧ t ≤ 4611686018427387904) (hv : 0 ≤ v ∧ v ≤ 4611686018427387904) (h : s + t * v ≤ 4611686018427387904) : S37 k s false t v = some ((), (s + t * v, false, ()), ()) := by
 have h0 := Int.mul_nonneg ht.1 hv.1
 unfold S37
 rw [S56_ok k (by omega) (by omega) (by omega), Option.bind_some]
 simp only
 rw [S57_ok k hs h0 (by omega), Option.bind_some]
 rfl
noncomputable def badR (l : List Tk) (i : Nat) : Bool := (mayT (l.getD i t0) != 0) || (decide ((i : Int) > 0) && decide ((l.getD (i - 1) t0).1 ≥ (l.getD i t0).1))
noncomputable def rowT (l : List Tk) : Bool := !anyF (badR l) l.length 0
theorem S35_eq {k : Nat} (hk : 1000 ≤ k) {l : List Tk} (h : lightL l) : S35 k l = some ((rowT l, ()), ()) := by
 have hl := h.1
 unfold S35
 have := anyN (L := fun j i => L35_2 k j l l (l.length : Int) i) (n := l.length) (badR l) (some ((false, ()), ())) (some ((true, ()), ())) (fun j i hi => by
  have ht := h.2 _ (getD_mem (z := t0) hi)
  show L35_2 k (j + 1) l l (l.length : Int) (i : Int) = _
  rw [L35_2_s, l35_2, bif_t (by omega), ix_nat hi, rd_nat, show l.getD i (0, 0, 0, [], [], []) = l.getD i t0 from rfl, S47_eq hk ht.1, Option.bind_some, w64_nat (by omega)]
  unfold badR
  simp only
  cases mayT (l.getD i t0) != 0 with
  | true => rfl
  | false =>
   rw [cond_false, Bool.false_or]
   by_cases h0 : (i : Int) > 0
   ·rw [bif_t h0, w64 (n := (i : Int) - 1) (by omega) (by omega), show (i : Int) - 1 = ((i - 1 : Nat) : Int) by omega, ix_nat (by omega), rd_nat, decide_eq_true h0, Bool.true_and]
   ·rw [bif_f h0, decide_eq_false h0, Bool.false_and, cond_false]) (fun j => by
  show L35_2 k (j + 1) l l (l.length : Int) (l.length : Int) = _
  rw [L35_2_s, l35_2, bif_f (by omega)]) l.length 0 k (by omega) (by omega)
 refine Eq.trans this ?_
 unfold rowT
 cases anyF (badR l) l.length 0 <;> rfl
theorem S40_eq {k : Nat} (hk : 1000 ≤ k) {l : List Tk} (h : lightL l) : S40 k l = some ((rowT l, ()), ()) := by
 have hl := h.1
 unfold S40
 have := anyN (L := fun j i => L40_2 k j l i) (n := l.length) (badR l) (some ((false, ()), ())) (some ((true, ()), ())) (fun j i hi => by
  have ht := h.2 _ (getD_mem (z := t0) hi)
  show L40_2 k (j + 1) l (i : Int) = _
  rw [L40_2_s, l40_2, bif_t (by omega), ix_nat hi, rd_nat, show l.getD i (0, 0, 0, [], [], []) = l.getD i t0 from rfl, S34_eq hk ht.1, Option.bind_some, w64_nat (by omega)]
  unfold badR
  simp only
  cases mayT (l.getD i t0) != 0 with
  | true => rfl
  | false =>
   rw [cond_false, Bool.false_or]
   by_cases h0 : (i : Int) > 0
   ·rw [bif_t h0, w64 (n := (i : Int) - 1) (by omega) (by omega), show (i : Int) - 1 = ((i - 1 : Nat) : Int) by omega, ix_nat hi, ix_nat (by omega), rd_nat, decide_eq_true h0, Bool.true_and]
   ·rw [bif_f h0, decide_eq_false h0, Bool.false_and, cond_false]) (fun j => by
  show L40_2 k (j + 1) l (l.length : Int) = _
  rw [L40_2_s, l40_2, bif_f (by omega)]) l.length 0 k (by omega) (by omega)
 refine Eq.trans this ?_
 unfold rowT
 cases anyF (badR l) l.length 0 <;> rfl
end Go.Proofs.Ytinopkpnlibopaa.Ab

/- What is reckoned of a row is small; the rounds. -/
namespace Go.Proofs.Ytinopkpnlibopaa.Ab
open Go.RowKit Tr
set_option linter.unusedSimpArgs false
set_option linter.unusedVariables false
theorem cst_small {l : List I4} (h : mayA l = true) : (1 ≤ (cst l).1 ∧ (cst l).1 ≤ 9600) ∧ (1 ≤ (cst l).2.1 ∧ (cst l).2.1 ≤ (cst l).1) ∧ ∀ e ∈ (cst l).2.2, 1 ≤ e.2 ∧ e.2 < (cst l).1 := by
 obtain ⟨t, ht, rfl, hl⟩ := good_is_tree h
 have hc := cost_small ht hl
 obtain ⟨b1, b2, b3, b4⟩ := piece_bound 1 (0, 0) ht (by omega) (by simp) (by simp)
 simp only [Int.one_mul, Int.zero_add] at b3 b4
 rw [cst_tree ht hl]
 refine ⟨by simp only; omega, by simp only; omega, fun e he => ?_⟩
 have := spans_bd ht e he
 simp only; omega
structure CoS (t : Tk) : Prop where
 per : 1 ≤ t.2.1 ∧ t.2.1 ≤ 16384
 en : 1 ≤ t.2.2.1 ∧ t.2.2.1 ≤ t.2.1
 cost : 1 ≤ (costsT t).1 ∧ (costsT t).1 ≤ t.2.2.1
 lost : 1 ≤ (costsT t).2.1 ∧ (costsT t).2.1 ≤ (costsT t).1
 spans : ∀ e ∈ (costsT t).2.2, 1 ≤ e.2 ∧ e.2 < (costsT t).1
theorem costs_small {t : Tk} (hz : mayT t = 0) : CoS t := by
 obtain ⟨_, z2, z3, z4, z5, z6, z7, z8, z9⟩ := mayT_zero.1 hz
 obtain ⟨m1, m2, m3⟩ := cst_small z4
 have hcosts : costsT t = ((cst t.2.2.2.1).1, bif mayA t.2.2.2.2.1 then (cst t.2.2.2.2.1).1 else (cst t.2.2.2.1).2.1, (cst t.2.2.2.1).2.2 ++ (cst t.2.2.2.2.1).2.2) := by unfold costsT; rw [if_pos hz]
 refine ⟨z2, z3, by rw [hcosts]; simp only; omega, ?_, fun e he => ?_⟩
 ·rw [hcosts]
  simp only
  cases h : mayA t.2.2.2.2.1 with
  | false => rw [cond_false]; omega
  | true => have := cst_small h; rw [cond_true]; omega
 ·rw [hcosts] at he ⊢
  simp only [List.mem_append] at he ⊢
  rcases he with q | q
  ·exact m3 e q
  ·cases h : mayA t.2.2.2.2.1 with
   | false => rw [cst_bad h] at q; cases q
   | true => have := (cst_small h).2.2 e q; omega
theorem mx_le {a b c : Int} (h1 : a ≤ c) (h2 : b ≤ c) : mx a b ≤ c := by unfold mx; split <;> omega
theorem spF_le {l : List Tk} {i b : Int} : ∀ (sp : List (Int × Int)) (m : Int), m ≤ b → (∀ e ∈ sp, e.2 ≤ b) → spF l i m sp ≤ b
 | [], m, h, _ => h
 | e :: r, m, h, hs => by
  rw [spF]
  refine spF_le r _ ?_ (fun x hx => hs x (by simp [hx]))
  cases decide (ceilT l e.1 ≤ i) with
  | true => exact mx_le h (hs e (by simp))
  | false => exact h
theorem byG_le {l : List Tk} {i b : Int} : ∀ (r : List Tk) (n : Nat) (m : Int), m ≤ b → (∀ t ∈ r, ∀ e ∈ (costsT t).2.2, e.2 ≤ b) → byG l i r n m ≤ b
 | [], n, m, h, _ => h
 | t :: r, n, m, h, hs => by
  rw [byG]
  refine byG_le r _ _ ?_ (fun x hx => hs x (by simp [hx]))
  cases (n : Int) == i with
  | true => exact h
  | false => exact spF_le _ m h (hs t (by simp))
theorem byT_bd {l : List Tk} (h : ∀ t ∈ l, CoS t) (i : Int) : 0 ≤ byT l i ∧ byT l i ≤ 16384 :=
 ⟨byG_ge l 0 0, byG_le l 0 0 (by omega) (fun t ht e he => by have q := h t ht; have := q.spans e he; have := q.cost; have := q.en; have := q.per; omega)⟩
def sumA (r : Int) : List (Int × Int) → Int
 | [] => 0
 | x :: l => up r x.1 * x.2 + sumA r l
noncomputable def pc1 (t : Tk) : Int × Int := (t.2.1, (costsT t).1)
noncomputable def lostG : Int → List Tk → Int
 | m, [] => m
 | m, t :: r => lostG (mx m (costsT t).2.1) r
noncomputable def firstT (l : List Tk) (i : Nat) : Int := (costsT (l.getD i t0)).1 + byT l (i : Int)
noncomputable def rightT (l : List Tk) (i : Nat) (apart r : Int) : Int := firstT l i + up r apart * lostG 0 (l.take (i + 1)) + sumA r ((l.take i).map pc1)
def respG (en : Int) (right : Int → Int) : Nat → Int → Int → Option (Int × Int × Int)
 | 0, _, _ => none
 | f + 1, r, n => if right r > en then some (0, 0, 14) else if right r = r then some (r, n, 0) else respG en right f (right r) (n + 1)
theorem sumA_nonneg {r : Int} (hr : 0 ≤ r) : ∀ {l : List (Int × Int)}, (∀ x ∈ l, 1 ≤ x.1 ∧ 0 ≤ x.2) → 0 ≤ sumA r l
 | [], _ => Int.le_refl _
 | x :: l, h => by
  have hx := h x (by simp)
  have := sumA_nonneg hr (l := l) (fun y hy => h y (by simp [hy]))
  have := Int.mul_nonneg (up_bd hr hx.1).1 hx.2
  rw [sumA]; omega
theorem sumA_mono {r s : Int} (h : r ≤ s) : ∀ {l : List (Int × Int)}, (∀ x ∈ l, 1 ≤ x.1 ∧ 0 ≤ x.2) → sumA r l ≤ sumA s l
 | [], _ => Int.le_refl _
 | x :: l, hl => by
  have hx := hl x (by simp)
  have := sumA_mono h (l := l) (fun y hy => hl y (by simp [hy]))
  have := Int.mul_le_mul_of_nonneg_right (up_mono h hx.1) hx.2
  rw [sumA, sumA]; omega
theorem sumA_le {r b : Int} (hr : 0 ≤ r) (hb : 0 ≤ b) : ∀ {l : List (Int × Int)}, (∀ x ∈ l, 1 ≤ x.1 ∧ 0 ≤ x.2 ∧ x.2 ≤ b) → sumA r l ≤ (l.length : Int) * (r * b)
 | [], _ => by simp [sumA]
 | x :: l, h => by
  have hx := h x (by simp)
  have h1 := sumA_le hr hb (l := l) (fun y hy => h y (by simp [hy]))
  have hu := up_bd hr hx.1
  have h2 : up r x.1 * x.2 ≤ r * b := Int.mul_le_mul hu.2 hx.2.2 hx.2.1 hr
  rw [sumA, List.length_cons, show ((l.length + 1 : Nat) : Int) = (l.length : Int) + 1 by omega, Int.add_mul, Int.one_mul]; omega
theorem resp_total {en : Int} {right : Int → Int} (hm : ∀ a b, 0 ≤ a → a ≤ b → right a ≤ right b) : ∀ (f : Nat) (r n : Int), 0 ≤ r → r ≤ right r → en - r < (f : Int) → 0 < f → ∃ x, respG en right f r n = some x
 | 0, r, n, _, _, _, h => absurd h (by omega)
 | f + 1, r, n, h0, h1, h2, _ => by
  rw [respG]
  split
  ·exact ⟨_, rfl⟩
  ·split
   ·exact ⟨_, rfl⟩
   ·rename_i h3 h4
    exact resp_total hm f (right r) (n + 1) (by omega) (hm r (right r) h0 h1) (by omega) (by omega)
end Go.Proofs.Ytinopkpnlibopaa.Ab

/- How long a task takes at most: the program's rounds. -/
namespace Go.Proofs.Ytinopkpnlibopaa.Ab
open Go.RowKit Tr
set_option linter.unusedSimpArgs false
set_option linter.unusedVariables false
structure RS (l : List Tk) : Prop where
 light : lightL l
 len : l.length ≤ 10
 co : ∀ t ∈ l, CoS t
theorem lostG_bd {b : Int} : ∀ (r : List Tk) (m : Int), 0 ≤ m → m ≤ b → (∀ t ∈ r, (costsT t).2.1 ≤ b) → 0 ≤ lostG m r ∧ lostG m r ≤ b
 | [], m, h0, h, _ => ⟨h0, h⟩
 | t :: r, m, h0, h, hs => by
  rw [lostG]
  exact lostG_bd r _ (Int.le_trans h0 (mx_ge _ _)) (mx_le h (hs t (by simp))) (fun x hx => hs x (by simp [hx]))
theorem RS.first {l : List Tk} (h : RS l) {i : Nat} (hi : i < l.length) : 1 ≤ firstT l i ∧ firstT l i ≤ 32768 := by
 have hc := h.co _ (getD_mem (z := t0) hi)
 have hb := byT_bd h.co (i : Int)
 have := hc.cost; have := hc.en; have := hc.per
 unfold firstT; omega
theorem RS.lost {l : List Tk} (h : RS l) (i : Nat) : 0 ≤ lostG 0 (l.take i) ∧ lostG 0 (l.take i) ≤ 16384 :=
 lostG_bd _ 0 (by omega) (by omega) (fun t ht => by have q := h.co t (List.mem_of_mem_take ht); have := q.lost; have := q.cost; have := q.en; have := q.per; omega)
theorem RS.pcs {l : List Tk} (h : RS l) (i : Nat) : ∀ x ∈ (l.take i).map pc1, 1 ≤ x.1 ∧ 0 ≤ x.2 ∧ x.2 ≤ 16384 := fun x hx => by
 obtain ⟨t, ht, rfl⟩ := List.mem_map.1 hx
 have q := h.co t (List.mem_of_mem_take ht)
 have := q.cost; have := q.en; have := q.per
 unfold pc1; simp only; omega
theorem RS.loss {l : List Tk} (h : RS l) {i : Nat} {apart r : Int} (ha : 1 ≤ apart) (hr : 0 ≤ r ∧ r ≤ 50000) : 0 ≤ up r apart * lostG 0 (l.take (i + 1)) ∧ up r apart * lostG 0 (l.take (i + 1)) ≤ 819200000 := by
 have hl := h.lost (i + 1)
 have hu := up_bd hr.1 ha
 have := Int.mul_nonneg hu.1 hl.1
 have : up r apart * lostG 0 (l.take (i + 1)) ≤ 50000 * 16384 := Int.mul_le_mul (by omega) hl.2 hl.1 (by omega)
 omega
theorem RS.sum {l : List Tk} (h : RS l) {i : Nat} {r : Int} (hr : 0 ≤ r ∧ r ≤ 50000) : 0 ≤ sumA r ((l.take i).map pc1) ∧ sumA r ((l.take i).map pc1) ≤ 8192000000 := by
 have h0 := sumA_nonneg hr.1 (l := (l.take i).map pc1) (fun x hx => ⟨(h.pcs i x hx).1, (h.pcs i x hx).2.1⟩)
 have h1 := sumA_le hr.1 (show (0 : Int) ≤ 16384 by omega) (h.pcs i)
 have hl : ((l.take i).map pc1).length ≤ 10 := by rw [List.length_map, List.length_take]; have := h.len; omega
 have h2 : (((l.take i).map pc1).length : Int) * (r * 16384) ≤ 10 * (r * 16384) := Int.mul_le_mul_of_nonneg_right (by omega) (by omega)
 omega
theorem RS.right {l : List Tk} (h : RS l) {i : Nat} (hi : i < l.length) {apart r : Int} (ha : 1 ≤ apart) (hr : 0 ≤ r ∧ r ≤ 50000) : firstT l i ≤ rightT l i apart r ∧ rightT l i apart r ≤ 100000000000 := by
 have h1 := h.first hi; have h2 := h.loss (i := i) ha hr; have h3 := h.sum (i := i) hr
 unfold rightT; omega
theorem L16_18_eq {k : Nat} (hk : 1000 ≤ k) {g : List Tk → Int → Int → Int → Int → Int → Int → Bool → Option ((Int × Int × Int × Unit) × Unit)} {l tk : List Tk} {i : Nat} (hi : i < l.length) {apart r rounds lost first : Int} (hr : 0 ≤ r ∧ r ≤ 50000) (htk : tk.length ≤ 100) (hs : ∀ t ∈ tk, lightT t ∧ CoS t) :
  ∀ (d n j : Nat) (x : Int), n + d = tk.length → d < j → 0 ≤ x → x + sumA r ((tk.drop n).map pc1) ≤ 100000000000 →
  L16_18 k g j l (i : Int) apart r rounds lost first false x false tk (tk.length : Int) (n : Int) = if x + sumA r ((tk.drop n).map pc1) > (l.getD i t0).2.2.1 then some ((0, 0, 14, ()), ()) else if x + sumA r ((tk.drop n).map pc1) = r then some ((r, rounds, 0, ()), ()) else g l (i : Int) apart (x + sumA r ((tk.drop n).map pc1)) rounds lost first false
 | 0, n, j, x, h, hj, hx, hb => by
  obtain ⟨j', rfl⟩ : ∃ j', j = j' + 1 := ⟨j - 1, by omega⟩
  rw [L16_18_s, l16_18, bif_f (by omega), drop_nil (by omega), cond_false, ix_nat hi, rd_nat, show l.getD i (0, 0, 0, [], [], []) = l.getD i t0 from rfl]
  simp only [List.map_nil, sumA, Int.add_zero]
  by_cases h1 : x > (l.getD i t0).2.2.1
  ·rw [bif_t h1, if_pos h1]
  ·rw [bif_f h1, if_neg h1]
   by_cases h2 : x = r
   ·rw [if_pos h2, show (x == r) = true by rw [h2]; exact beq_self_eq_true r, cond_true]
   ·rw [if_neg h2, show (x == r) = false by rw [beq_eq_false_iff_ne]; exact h2, cond_false]
 | d + 1, n, j, x, h, hj, hx, hb => by
  obtain ⟨j', rfl⟩ : ∃ j', j = j' + 1 := ⟨j - 1, by omega⟩
  have hn : n < tk.length := by omega
  obtain ⟨ht, hc⟩ := hs _ (getD_mem (z := t0) hn)
  have hper := hc.per
  have hu := up_bd hr.1 hper.1
  have hco := hc.cost; have hen := hc.en
  have hmul := Int.mul_nonneg hu.1 (show 0 ≤ (costsT (tk.getD n t0)).1 by omega)
  have hrest : 0 ≤ sumA r ((tk.drop (n + 1)).map pc1) := sumA_nonneg hr.1 (fun y hy => by
   obtain ⟨t, ht, rfl⟩ := List.mem_map.1 hy
   have q := (hs t (List.mem_of_mem_drop ht)).2
   have := q.cost; have := q.per
   unfold pc1; simp only; omega)
  rw [drop_cons t0 hn, List.map_cons, sumA] at hb ⊢
  unfold pc1 at hb ⊢
  simp only at hb ⊢
  have ih := L16_18_eq hk (g := g) hi (apart := apart) (rounds := rounds) (lost := lost) (first := first) hr htk hs d (n + 1) j' (x + up r (tk.getD n t0).2.1 * (costsT (tk.getD n t0)).1) (by omega) (by omega) (by omega) (by unfold pc1; omega)
  unfold pc1 at ih
  rw [L16_18_s, l16_18, bif_t (by omega), ix_nat hn, rd_nat, show tk.getD n (0, 0, 0, [], [], []) = tk.getD n t0 from rfl, S36_eq hk ht, Option.bind_some, S39_eq k (by omega) hper.1, Option.bind_some]
  simp only
  rw [S37_eq k hx (by omega) (by omega) (by unfold pc1 at hrest; omega), Option.bind_some, w64_nat (by omega), ← Int.add_assoc]
  exact ih
end Go.Proofs.Ytinopkpnlibopaa.Ab

/- How long a task takes at most: the program's answer. -/
namespace Go.Proofs.Ytinopkpnlibopaa.Ab
open Go.RowKit Tr
set_option linter.unusedSimpArgs false
set_option linter.unusedVariables false
theorem sub_take {α : Type} {l : List α} {i : Nat} : sub l 0 (i : Int) = l.take i := by simp [sub]
theorem right_mono {l : List Tk} (h : RS l) {i : Nat} {apart : Int} (ha : 1 ≤ apart) : ∀ a b, 0 ≤ a → a ≤ b → rightT l i apart a ≤ rightT l i apart b := fun a b h0 hab => by
 have h1 := Int.mul_le_mul_of_nonneg_right (up_mono hab ha) (h.lost (i + 1)).1
 have h2 := sumA_mono hab (l := (l.take i).map pc1) (fun x hx => ⟨(h.pcs i x hx).1, (h.pcs i x hx).2.1⟩)
 unfold rightT; omega
theorem row_may {l : List Tk} (h : rowT l = true) : ∀ t ∈ l, mayT t = 0 := fun t ht => by
 obtain ⟨j, hj, e⟩ := List.mem_iff_getElem.1 ht
 have e2 : l.getD j t0 = t := by rw [← e, List.getD_eq_getElem?_getD, List.getElem?_eq_getElem hj]; rfl
 unfold rowT at h
 rw [Bool.not_eq_true', anyF_none] at h
 have := h j (by omega) (by omega)
 unfold badR at this
 rw [Bool.or_eq_false_iff, e2] at this
 simpa using this.1
theorem row_rs {l : List Tk} (h : rowT l = true) (hL : lightL l) (hl : l.length ≤ 10) : RS l := ⟨hL, hl, fun t ht => costs_small (row_may h t ht)⟩
theorem L16_14_eq {k : Nat} (hk : 1000 ≤ k) {l : List Tk} (h : RS l) {i : Nat} (hi : i < l.length) {apart : Int} (ha : 1 ≤ apart) : ∀ (f j : Nat) (r n : Int) (y : Int × Int × Int), f ≤ j → 0 ≤ r → r ≤ 50000 → 1 ≤ n → n + f ≤ 1000000 → respG (l.getD i t0).2.2.1 (rightT l i apart) f r n = some y →
  L16_14 k j l (i : Int) apart r (n - 1) (lostG 0 (l.take (i + 1))) (firstT l i) false = some ((y.1, y.2.1, y.2.2, ()), ())
 | 0, j, r, n, y, _, _, _, _, _, e => by cases e
 | f + 1, j, r, n, y, hj, h0, h1, hn, hf, e => by
  obtain ⟨j', rfl⟩ : ∃ j', j = j' + 1 := ⟨j - 1, by omega⟩
  have hfi := h.first hi
  have hls := h.lost (i + 1)
  have hlo := h.loss (i := i) ha ⟨h0, h1⟩
  have hsu := h.sum (i := i) ⟨h0, h1⟩
  have hu := up_bd h0 ha
  have hen := (h.co _ (getD_mem (z := t0) hi)).en
  have hper := (h.co _ (getD_mem (z := t0) hi)).per
  have hlen := h.len
  rw [L16_14_s, l16_14, S39_eq k (by omega) ha, Option.bind_some]
  simp only
  rw [S37_eq k (by omega) (by omega) (by omega) (by omega), Option.bind_some, sx_ok (by omega) (by omega) (by omega), w64 (n := n - 1 + 1) (by omega) (by omega), show n - 1 + 1 = n by omega, sub_take]
  have htl : (l.take i).length ≤ 100 := by rw [List.length_take]; omega
  have := L16_18_eq hk (g := L16_14 k j') hi (tk := l.take i) (apart := apart) (rounds := n) (lost := lostG 0 (l.take (i + 1))) (first := firstT l i) (r := r) ⟨h0, h1⟩ htl (fun t ht => ⟨(h.light.2 t (List.mem_of_mem_take ht)).1, h.co t (List.mem_of_mem_take ht)⟩) (l.take i).length 0 k (firstT l i + up r apart * lostG 0 (l.take (i + 1))) (by omega) (by omega) (by omega) (by rw [List.drop_zero]; omega)
  refine Eq.trans this ?_
  rw [List.drop_zero, show firstT l i + up r apart * lostG 0 (l.take (i + 1)) + sumA r ((l.take i).map pc1) = rightT l i apart r from rfl]
  rw [respG] at e
  split at e
  ·rename_i q
   injection e with e; subst e
   rw [if_pos q]
  ·rename_i q
   rw [if_neg q]
   split at e
   ·rename_i q2
    injection e with e; subst e
    rw [if_pos q2]
   ·rename_i q2
    rw [if_neg q2]
    have hr := h.right hi ha ⟨h0, h1⟩
    have := L16_14_eq hk h hi ha f j' (rightT l i apart r) (n + 1) y (by omega) (by omega) (by omega) (by omega) (by omega) e
    rw [show n + 1 - 1 = n by omega] at this
    exact this
noncomputable def respT (l : List Tk) (i apart : Int) : Int × Int × Int :=
 if rowT l = true ∧ 0 ≤ i ∧ i < (l.length : Int) ∧ 1 ≤ apart then (respG (l.getD i.toNat t0).2.2.1 (rightT l i.toNat apart) 20000 (firstT l i.toNat) 1).getD (0, 0, 0) else (0, 0, 1)
theorem resp_some {l : List Tk} (h : RS l) {i : Nat} (hi : i < l.length) {apart : Int} (ha : 1 ≤ apart) : ∃ y, respG (l.getD i t0).2.2.1 (rightT l i apart) 20000 (firstT l i) 1 = some y := by
 have hf := h.first hi
 have hen := (h.co _ (getD_mem (z := t0) hi)).en
 have hper := (h.co _ (getD_mem (z := t0) hi)).per
 exact resp_total (right_mono h ha) 20000 _ 1 (by omega) (h.right hi ha (by omega)).1 (by omega) (by omega)
theorem respT_at {l : List Tk} (hr : rowT l = true) {i : Nat} (hi : i < l.length) {apart : Int} (ha : 1 ≤ apart) {y : Int × Int × Int} (hy : respG (l.getD i t0).2.2.1 (rightT l i apart) 20000 (firstT l i) 1 = some y) : respT l (i : Int) apart = y := by
 unfold respT
 rw [if_pos ⟨hr, by omega, by omega, ha⟩, Int.toNat_natCast, hy]; rfl
theorem L16_6_eq {k : Nat} (hk : 20000 ≤ k) {l : List Tk} (hrow : rowT l = true) (h : RS l) {i : Nat} (hi : i < l.length) {apart : Int} (ha : 1 ≤ apart) : ∀ (d n j : Nat) (m : Int), n + d = (l.take (i + 1)).length → d < j → lostG m ((l.take (i + 1)).drop n) = lostG 0 (l.take (i + 1)) →
  L16_6 k j l (i : Int) apart 0 (costsT (l.getD i t0)).1 m (l.take (i + 1)) ((l.take (i + 1)).length : Int) (n : Int) = some (((respT l i apart).1, (respT l i apart).2.1, (respT l i apart).2.2, ()), ())
 | 0, n, j, m, h1, hj, hm => by
  obtain ⟨j', rfl⟩ : ∃ j', j = j' + 1 := ⟨j - 1, by omega⟩
  have hb := byT_bd h.co (i : Int)
  have hc := h.co _ (getD_mem (z := t0) hi)
  have := hc.cost; have := hc.en; have := hc.per
  have hfi := h.first hi
  rw [drop_nil (by omega), lostG] at hm
  obtain ⟨y, hy⟩ := resp_some h hi ha
  rw [L16_6_s, l16_6, bif_f (by omega), S38_eq (by omega) h.light, Option.bind_some]
  simp only
  rw [S37_eq k (by omega) (by omega) (by omega) (by omega), Option.bind_some, hm, Int.one_mul]
  have := L16_14_eq (k := k) (by omega) h hi ha 20000 k (firstT l i) 1 y (by omega) (by omega) (by omega) (by omega) (by omega) hy
  refine Eq.trans this ?_
  rw [respT_at hrow hi ha hy]
 | d + 1, n, j, m, h1, hj, hm => by
  obtain ⟨j', rfl⟩ : ∃ j', j = j' + 1 := ⟨j - 1, by omega⟩
  have hn : n < (l.take (i + 1)).length := by omega
  have hmem := getD_mem (z := t0) hn
  have ht := (h.light.2 _ (List.mem_of_mem_take hmem)).1
  have hll : (l.take (i + 1)).length ≤ 10 := by rw [List.length_take]; have := h.len; omega
  rw [drop_cons t0 hn, lostG] at hm
  rw [L16_6_s, l16_6, bif_t (by omega), ix_nat hn, rd_nat, show (l.take (i + 1)).getD n (0, 0, 0, [], [], []) = (l.take (i + 1)).getD n t0 from rfl, S36_eq (by omega) ht, Option.bind_some, w64_nat (by omega)]
  exact L16_6_eq hk hrow h hi ha d (n + 1) j' _ (by omega) (by omega) hm
theorem S16_eq {k : Nat} (hk : 20000 ≤ k) {l : List Tk} (hL : lightL l) (hl : l.length ≤ 10) (i apart : Int) : S16 k l i apart = some (((respT l i apart).1, (respT l i apart).2.1, (respT l i apart).2.2, ()), ()) := by
 unfold S16
 rw [S35_eq (by omega) hL, Option.bind_some]
 simp only
 cases hr : rowT l with
 | false =>
  have : respT l i apart = (0, 0, 1) := by unfold respT; rw [if_neg (fun q => by rw [hr] at q; cases q.1)]
  rw [this]; rfl
 | true =>
  rw [Bool.not_true, cond_false]
  by_cases h1 : i < 0
  ·have : respT l i apart = (0, 0, 1) := by unfold respT; rw [if_neg (fun q => by omega)]
   rw [bif_t h1, this]
  ·rw [bif_f h1]
   by_cases h2 : i ≥ (l.length : Int)
   ·have : respT l i apart = (0, 0, 1) := by unfold respT; rw [if_neg (fun q => by omega)]
    rw [bif_t h2, this]
   ·rw [bif_f h2]
    by_cases h3 : apart < 1
    ·have : respT l i apart = (0, 0, 1) := by unfold respT; rw [if_neg (fun q => by omega)]
     rw [bif_t h3, this]
    ·rw [bif_f h3]
     obtain ⟨n, rfl⟩ : ∃ n : Nat, i = (n : Int) := ⟨i.toNat, by omega⟩
     have hn : n < l.length := by omega
     have hRS := row_rs hr hL hl
     have ht := (hL.2 _ (getD_mem (z := t0) hn)).1
     rw [ix_nat hn, rd_nat, show l.getD n (0, 0, 0, [], [], []) = l.getD n t0 from rfl, S36_eq (by omega) ht, Option.bind_some, w64_nat (by omega), sx_ok (by omega) (by omega) (by omega), sub_take]
     have hll : (l.take (n + 1)).length ≤ 10 := by rw [List.length_take]; omega
     exact L16_6_eq hk hr hRS hn (by omega) (l.take (n + 1)).length 0 k 0 (by omega) (by omega) (by rw [List.drop_zero])
end Go.Proofs.Ytinopkpnlibopaa.Ab

/- How long a task takes at most: the document's answer. -/
namespace Go.Proofs.Ytinopkpnlibopaa.Ab
open Go.RowKit Tr
set_option linter.unusedSimpArgs false
set_option linter.unusedVariables false
noncomputable def cst1 (t : Tk) : Int := (costsT t).1
def per1 (t : Tk) : Int := t.2.1
theorem L18_3_eq {k : Nat} (hk : 1000 ≤ k) {l : List Tk} (hL : lightL l) {i : Nat} (hi : i < l.length) {a b x2 : Int} : ∀ (d n j : Nat) (x : List Int) (x1 : Int) (x3 : List Int), n + d = i + 1 → d < j → x.length ≤ n → x3.length ≤ n →
  L18_3 k j l (i : Int) a b x x1 x2 x3 (n : Int) = some (((x ++ ((l.take (i + 1)).drop n).map cst1, lostG x1 ((l.take (i + 1)).drop n), x2, x3 ++ ((l.take (i + 1)).drop n).map per1), ()), ())
 | 0, n, j, x, x1, x3, h, hj, h1, h3 => by
  obtain ⟨j', rfl⟩ : ∃ j', j = j' + 1 := ⟨j - 1, by omega⟩
  rw [L18_3_s, l18_3, bif_f (by omega), drop_nil (by rw [List.length_take]; omega), List.map_nil, List.map_nil, List.append_nil, List.append_nil, lostG]
 | d + 1, n, j, x, x1, x3, h, hj, h1, h3 => by
  obtain ⟨j', rfl⟩ : ∃ j', j = j' + 1 := ⟨j - 1, by omega⟩
  have hll := hL.1
  have hn : n < (l.take (i + 1)).length := by rw [List.length_take]; omega
  have hg : (l.take (i + 1)).getD n t0 = l.getD n t0 := by
   rw [List.getD_eq_getElem?_getD, List.getD_eq_getElem?_getD, List.getElem?_take, if_pos (by omega)]
  have ht := (hL.2 _ (getD_mem (z := t0) (show n < l.length by omega))).1
  have ih := L18_3_eq hk hL hi (a := a) (b := b) (x2 := x2) d (n + 1) j' (x ++ [(costsT (l.getD n t0)).1]) (mx x1 (costsT (l.getD n t0)).2.1) (x3 ++ [(l.getD n t0).2.1]) (by omega) (by omega) (by simp; omega) (by simp; omega)
  rw [L18_3_s, l18_3, bif_t (by omega), ix_nat (by omega), rd_nat, show l.getD n (0, 0, 0, [], [], []) = l.getD n t0 from rfl, S22_eq hk ht, Option.bind_some, ap_ok (by simp only [List.length_cons, List.length_nil]; omega), ix_nat (by omega), ap_ok (by simp only [List.length_cons, List.length_nil]; omega), w64_nat (by omega), drop_cons t0 hn, List.map_cons, List.map_cons, lostG, hg]
  refine Eq.trans ih ?_
  rw [List.append_assoc, List.append_assoc]; rfl
theorem S18_eq {k : Nat} (hk : 1000 ≤ k) {l : List Tk} (hL : lightL l) {i : Nat} (hi : i < l.length) : S18 k l (i : Int) = some ((((l.take (i + 1)).map cst1, lostG 0 (l.take (i + 1)), byT l (i : Int), (l.take (i + 1)).map per1), ()), ()) := by
 have := hL.1
 unfold S18
 rw [S21_eq hk hL, Option.bind_some]
 refine (L18_3_eq hk hL hi (i + 1) 0 k [] 0 [] (by omega) (by omega) (by simp) (by simp)).trans ?_
 rw [List.drop_zero, List.nil_append, List.nil_append]
theorem get_map1 {f : Tk → Int} {l : List Tk} {i n : Nat} (hn : n < i + 1) (hi : i < l.length) : ((l.take (i + 1)).map f).getD n 0 = f (l.getD n t0) := by
 rw [List.getD_eq_getElem?_getD, List.getElem?_map, List.getElem?_take, if_pos hn, List.getD_eq_getElem?_getD, List.getElem?_eq_getElem (by omega)]; rfl
theorem L19_9_eq {k : Nat} {l : List Tk} (h : RS l) {i : Nat} (hi : i < l.length) {r y1 y2 : Int} (hr : 0 ≤ r ∧ r ≤ 50000) : ∀ (d n j : Nat) (x : Int), n + d = i → d < j → 0 ≤ x → x + sumA r (((l.take i).drop n).map pc1) ≤ 100000000000 →
  L19_9 k j r ((l.take (i + 1)).map cst1) y1 y2 ((l.take (i + 1)).map per1) (i : Int) x true (n : Int) = some ((x + sumA r (((l.take i).drop n).map pc1), true, ()), ())
 | 0, n, j, x, h1, hj, hx, hb => by
  obtain ⟨j', rfl⟩ : ∃ j', j = j' + 1 := ⟨j - 1, by omega⟩
  rw [L19_9_s, l19_9, bif_f (by omega), drop_nil (by rw [List.length_take]; omega)]
  simp [sumA]
 | d + 1, n, j, x, h1, hj, hx, hb => by
  obtain ⟨j', rfl⟩ : ∃ j', j = j' + 1 := ⟨j - 1, by omega⟩
  have hll := h.len
  have hn : n < (l.take i).length := by rw [List.length_take]; omega
  have hg : (l.take i).getD n t0 = l.getD n t0 := by
   rw [List.getD_eq_getElem?_getD, List.getD_eq_getElem?_getD, List.getElem?_take, if_pos (by omega)]
  have hc := h.co _ (getD_mem (z := t0) (show n < l.length by omega))
  have hper := hc.per; have hco := hc.cost; have hen := hc.en
  have hu := up_bd hr.1 hper.1
  have hmul := Int.mul_nonneg hu.1 (show 0 ≤ (costsT (l.getD n t0)).1 by omega)
  have hrest : 0 ≤ sumA r (((l.take i).drop (n + 1)).map pc1) := sumA_nonneg hr.1 (fun y hy => by
   obtain ⟨t, ht, rfl⟩ := List.mem_map.1 hy
   have q := h.co t (List.mem_of_mem_take (List.mem_of_mem_drop ht))
   have := q.cost; have := q.per
   unfold pc1; simp only; omega)
  have hlen : ((l.take (i + 1)).map per1).length = i + 1 := by rw [List.length_map, List.length_take]; omega
  have hlen2 : ((l.take (i + 1)).map cst1).length = i + 1 := by rw [List.length_map, List.length_take]; omega
  have ih := L19_9_eq (k := k) h hi (y1 := y1) (y2 := y2) hr d (n + 1) j' (x + up r (l.getD n t0).2.1 * (costsT (l.getD n t0)).1) (by omega) (by omega) (by omega)
  rw [drop_cons t0 hn, List.map_cons, sumA, hg] at hb ⊢
  have e1 : (pc1 (l.getD n t0)).1 = (l.getD n t0).2.1 := rfl
  have e2 : (pc1 (l.getD n t0)).2 = (costsT (l.getD n t0)).1 := rfl
  rw [e1, e2] at hb ⊢
  have ih := ih (by omega)
  rw [L19_9_s, l19_9, bif_t (by omega), cond_true, ix_nat (by omega), rd_nat, get_map1 (by omega) hi, show per1 (l.getD n t0) = (l.getD n t0).2.1 from rfl, S42_eq k (by omega) hper.1, Option.bind_some, ix_nat (by omega), rd_nat, get_map1 (by omega) hi, show cst1 (l.getD n t0) = (costsT (l.getD n t0)).1 from rfl]
  simp only
  rw [S43_eq k (by omega) (by omega) (by omega), Option.bind_some]
  simp only [cond_true]
  rw [S41_eq k hx hmul (by omega), Option.bind_some, w64_nat (by omega), ← Int.add_assoc]
  exact ih
theorem S19_eq {k : Nat} (hk : 1000 ≤ k) {l : List Tk} (h : RS l) {i : Nat} (hi : i < l.length) {apart r : Int} (ha : 1 ≤ apart) (hr : 0 ≤ r ∧ r ≤ 50000) : S19 k ((l.take (i + 1)).map cst1, lostG 0 (l.take (i + 1)), byT l (i : Int), (l.take (i + 1)).map per1) apart r = some ((rightT l i apart r, true, ()), ()) := by
 have hll := h.len
 have hlen2 : ((l.take (i + 1)).map cst1).length = i + 1 := by rw [List.length_map, List.length_take]; omega
 have hb := byT_bd h.co (i : Int)
 have hc := h.co _ (getD_mem (z := t0) hi)
 have hper := hc.per; have hco := hc.cost; have hen := hc.en
 have hls := h.lost (i + 1)
 have hlo := h.loss (i := i) ha hr
 have hsu := h.sum (i := i) hr
 have hu := up_bd hr.1 ha
 have hfi := h.first hi
 unfold S19
 simp only
 rw [hlen2, w64 (n := ((i + 1 : Nat) : Int) - 1) (by omega) (by omega), show ((i + 1 : Nat) : Int) - 1 = (i : Int) by omega, ix_nat (by omega), rd_nat, get_map1 (by omega) hi, show cst1 (l.getD i t0) = (costsT (l.getD i t0)).1 from rfl, S41_eq k (by omega) (by omega) (by omega), Option.bind_some, S42_eq k (by omega) ha, Option.bind_some]
 simp only
 rw [S43_eq k (by omega) (by omega) (by omega), Option.bind_some]
 simp only [cond_true]
 unfold j19_6
 rw [cond_true, show (costsT (l.getD i t0)).1 + byT l (i : Int) = firstT l i from rfl, S41_eq k (by omega) (by omega) (by omega), Option.bind_some]
 refine (L19_9_eq h hi hr i 0 k (firstT l i + up r apart * lostG 0 (l.take (i + 1))) (by omega) (by omega) (by omega) (by rw [List.drop_zero]; omega)).trans ?_
 rw [List.drop_zero]; rfl
theorem L17_7_eq {k : Nat} (hk : 1000 ≤ k) {l : List Tk} (h : RS l) {i : Nat} (hi : i < l.length) {apart : Int} (ha : 1 ≤ apart) : ∀ (f j : Nat) (r n : Int) (y : Int × Int × Int), f ≤ j → 0 ≤ r → r ≤ 50000 → 1 ≤ n → n + f ≤ 1000000 → respG (l.getD i t0).2.2.1 (rightT l i apart) f r n = some y →
  L17_7 k j l (i : Int) apart ((l.take (i + 1)).map cst1) (lostG 0 (l.take (i + 1))) (byT l (i : Int)) ((l.take (i + 1)).map per1) r n = some ((y.1, y.2.1, y.2.2, ()), ())
 | 0, j, r, n, y, _, _, _, _, _, e => by cases e
 | f + 1, j, r, n, y, hj, h0, h1, hn, hf, e => by
  obtain ⟨j', rfl⟩ : ∃ j', j = j' + 1 := ⟨j - 1, by omega⟩
  have hen := (h.co _ (getD_mem (z := t0) hi)).en
  have hper := (h.co _ (getD_mem (z := t0) hi)).per
  have hfi := h.first hi
  rw [L17_7_s, l17_7, S19_eq hk h hi ha ⟨h0, h1⟩, Option.bind_some]
  simp only [Bool.not_true, cond_false]
  rw [ix_nat hi, rd_nat, show l.getD i (0, 0, 0, [], [], []) = l.getD i t0 from rfl]
  rw [respG] at e
  split at e
  ·rename_i q
   injection e with e; subst e
   rw [bif_t q]
  ·rename_i q
   rw [bif_f q]
   split at e
   ·rename_i q2
    injection e with e; subst e
    rw [q2, beq_self_eq_true, cond_true]
   ·rename_i q2
    have hr := h.right hi ha ⟨h0, h1⟩
    rw [show (rightT l i apart r == r) = false by rw [beq_eq_false_iff_ne]; exact q2, cond_false, w64 (n := n + 1) (by omega) (by omega)]
    exact L17_7_eq hk h hi ha f j' (rightT l i apart r) (n + 1) y (by omega) (by omega) (by omega) (by omega) (by omega) e
theorem S17_eq {k : Nat} (hk : 20000 ≤ k) {l : List Tk} (hL : lightL l) (hl : l.length ≤ 10) (i apart : Int) : S17 k l i apart = some (((respT l i apart).1, (respT l i apart).2.1, (respT l i apart).2.2, ()), ()) := by
 unfold S17
 rw [S40_eq (by omega) hL, Option.bind_some]
 simp only
 cases hr : rowT l with
 | false =>
  have : respT l i apart = (0, 0, 1) := by unfold respT; rw [if_neg (fun q => by rw [hr] at q; cases q.1)]
  rw [this]; rfl
 | true =>
  rw [Bool.not_true, cond_false]
  by_cases h1 : i < 0
  ·have : respT l i apart = (0, 0, 1) := by unfold respT; rw [if_neg (fun q => by omega)]
   rw [bif_t h1, this]
  ·rw [bif_f h1]
   by_cases h2 : i ≥ (l.length : Int)
   ·have : respT l i apart = (0, 0, 1) := by unfold respT; rw [if_neg (fun q => by omega)]
    rw [bif_t h2, this]
   ·rw [bif_f h2]
    by_cases h3 : apart < 1
    ·have : respT l i apart = (0, 0, 1) := by unfold respT; rw [if_neg (fun q => by omega)]
     rw [bif_t h3, this]
    ·rw [bif_f h3]
     obtain ⟨n, rfl⟩ : ∃ n : Nat, i = (n : Int) := ⟨i.toNat, by omega⟩
     have hn : n < l.length := by omega
     have hRS := row_rs hr hL hl
     have hfi := hRS.first hn
     have hlen2 : ((l.take (n + 1)).map cst1).length = n + 1 := by rw [List.length_map, List.length_take]; omega
     obtain ⟨y, hy⟩ := resp_some hRS hn (show 1 ≤ apart by omega)
     rw [S18_eq (by omega) hL hn, Option.bind_some]
     simp only
     rw [ix_nat (by omega), rd_nat, get_map1 (by omega) hn, show cst1 (l.getD n t0) + byT l (n : Int) = firstT l n from rfl, w64 (n := firstT l n) (by omega) (by omega), respT_at hr hn (by omega) hy]
     exact L17_7_eq (by omega) hRS hn (by omega) 20000 k _ 1 y (by omega) (by omega) (by omega) (by omega) (by omega) hy
end Go.Proofs.Ytinopkpnlibopaa.Ab

/- Both answers are one: the law of all rows. -/
namespace Go.Proofs.Ytinopkpnlibopaa.Ab
open Go.RowKit Tr
set_option linter.unusedSimpArgs false
set_option linter.unusedVariables false
end Go.Proofs.Ytinopkpnlibopaa.Ab

/- What the rounds come to: the least that is so, or nothing up to the end. -/
namespace Go.Proofs.Ytinopkpnlibopaa.Ab
open Go.RowKit Tr
set_option linter.unusedSimpArgs false
set_option linter.unusedVariables false
theorem respG_spec {en : Int} {right : Int → Int} (hm : ∀ a b, 0 ≤ a → a ≤ b → right a ≤ right b) : ∀ (f : Nat) (r n : Int) (y : Int × Int × Int), 0 ≤ r → r ≤ right r → r ≤ en ∨ right r > en → respG en right f r n = some y →
  (y = (0, 0, 14) ∧ ∀ x, r ≤ x → x ≤ en → right x ≠ x) ∨ (y.2.2 = 0 ∧ right y.1 = y.1 ∧ r ≤ y.1 ∧ y.1 ≤ en ∧ n ≤ y.2.1 ∧ y.2.1 - n ≤ y.1 - r ∧ (right r ≠ r → n + 1 ≤ y.2.1) ∧ ∀ x, r ≤ x → right x = x → y.1 ≤ x)
 | 0, r, n, y, _, _, _, e => by cases e
 | f + 1, r, n, y, h0, h1, h2, e => by
  rw [respG] at e
  split at e
  ·rename_i q
   injection e with e; subst e
   refine .inl ⟨rfl, fun x hx hxe hf => ?_⟩
   have := hm r x h0 hx
   omega
  ·rename_i q
   split at e
   ·rename_i q2
    injection e with e; subst e
    refine .inr ⟨rfl, q2, Int.le_refl _, by omega, Int.le_refl _, by simp only; omega, fun h => absurd q2 h, fun x hx _ => hx⟩
   ·rename_i q2
    have hr := hm r (right r) h0 h1
    rcases respG_spec hm f (right r) (n + 1) y (by omega) hr (.inl (by omega)) e with ⟨a, b⟩ | ⟨a1, a2, a3, a4, a5, a6, a7, a8⟩
    ·refine .inl ⟨a, fun x hx hxe hf => ?_⟩
     have := hm r x h0 hx
     exact b x (by omega) hxe hf
    ·refine .inr ⟨a1, a2, by omega, a4, by omega, by omega, fun _ => by omega, fun x hx hf => ?_⟩
     have := hm r x h0 hx
     exact a8 x (by omega) hf
theorem RowOK.row {locks : Int} {l : List Tk} (h : RowOK locks l) : rowT l = true := by
 unfold rowT
 rw [Bool.not_eq_true', anyF_none]
 intro n _ hn
 unfold badR
 rw [h.may n (by omega), bne_self_eq_false, Bool.false_or, Bool.and_eq_false_iff]
 by_cases h0 : (n : Int) > 0
 ·right
  obtain ⟨r, m1, m2, m3⟩ := h.mt n (by omega)
  obtain ⟨r2, p1, p2, p3⟩ := h.mt (n - 1) (by omega)
  have e1 := m1.rank
  have e2 := p1.rank
  exact decide_eq_false (by rw [e1, e2]; omega)
 ·left; exact decide_eq_false h0
end Go.Proofs.Ytinopkpnlibopaa.Ab

/- What is told is no less than cost, what holds up, one loss, one go of each ahead. -/
namespace Go.Proofs.Ytinopkpnlibopaa.Ab
open Go.RowKit Tr
set_option linter.unusedSimpArgs false
set_option linter.unusedVariables false
theorem take_snoc {l : List Tk} {i : Nat} (hi : i < l.length) : l.take (i + 1) = l.take i ++ [l.getD i t0] := by
 rw [List.take_add_one, List.getElem?_eq_getElem hi, List.getD_eq_getElem?_getD, List.getElem?_eq_getElem hi]; rfl
end Go.Proofs.Ytinopkpnlibopaa.Ab

/- The law of what makes it no longer. -/
namespace Go.Proofs.Ytinopkpnlibopaa.Ab
open Go.RowKit Tr
set_option linter.unusedSimpArgs false
set_option linter.unusedVariables false
theorem row_iff {l : List Tk} : rowT l = true ↔ ∀ n, n < l.length → mayT (l.getD n t0) = 0 ∧ (0 < n → (l.getD (n - 1) t0).1 < (l.getD n t0).1) := by
 unfold rowT
 rw [Bool.not_eq_true', anyF_none]
 constructor
 ·intro h n hn
  have := h n (by omega) (by omega)
  unfold badR at this
  rw [Bool.or_eq_false_iff, Bool.and_eq_false_iff] at this
  refine ⟨by simpa using this.1, fun h0 => ?_⟩
  rcases this.2 with q | q
  ·exact absurd (of_decide_eq_false q) (by omega)
  ·have := of_decide_eq_false q; omega
 ·intro h n _ hn
  obtain ⟨a, b⟩ := h n (by omega)
  unfold badR
  rw [a, bne_self_eq_false, Bool.false_or, Bool.and_eq_false_iff]
  by_cases h0 : 0 < n
  ·right; exact decide_eq_false (by have := b h0; omega)
  ·left; exact decide_eq_false (by omega)
end Go.Proofs.Ytinopkpnlibopaa.Ab

/- Who may come in: the program's answer. -/
namespace Go.Proofs.Ytinopkpnlibopaa.Ab
open Go.RowKit Tr
set_option linter.unusedSimpArgs false
set_option linter.unusedVariables false
abbrev B5 : Type := PN Int 5
noncomputable def bT (l : List Tk) (ap : Int) (i : Nat) : B5 := ((costsT (l.getD i t0)).1, (costsT (l.getD i t0)).2.1, byT l (i : Int), (respT l (i : Int) ap).1, (l.getD i t0).2.2.1 - (respT l (i : Int) ap).1)
noncomputable def allG (l : List Tk) (ap : Int) : Nat → Nat → List B5 → List B5 × Int
 | 0, _, out => (out, 0)
 | d + 1, i, out => if (respT l (i : Int) ap).2.2 = 0 then allG l ap d (i + 1) (out ++ [bT l ap i]) else ([], (respT l (i : Int) ap).2.2)
noncomputable def allT (l : List Tk) (ap : Int) : List B5 × Int := if ap < 1 then ([], 1) else allG l ap l.length 0 []
theorem respT_ok {l : List Tk} (hL : lightL l) (hl : l.length ≤ 10) {i : Nat} {ap : Int} (h : (respT l (i : Int) ap).2.2 = 0) : rowT l = true ∧ i < l.length ∧ 1 ≤ ap ∧ 1 ≤ (respT l (i : Int) ap).1 ∧ firstT l i ≤ (respT l (i : Int) ap).1 ∧ (respT l (i : Int) ap).1 ≤ (l.getD i t0).2.2.1 ∧ rightT l i ap (respT l (i : Int) ap).1 = (respT l (i : Int) ap).1 := by
 by_cases hc : rowT l = true ∧ 0 ≤ (i : Int) ∧ (i : Int) < (l.length : Int) ∧ 1 ≤ ap
 ·obtain ⟨h1, _, h3, h4⟩ := hc
  have hi : i < l.length := by omega
  have hR := row_rs h1 hL hl
  obtain ⟨y, hy⟩ := resp_some hR hi h4
  have hf := hR.first hi
  rw [respT_at h1 hi h4 hy] at h ⊢
  rcases respG_spec (right_mono hR h4) 20000 (firstT l i) 1 y (by omega) (hR.right hi h4 (by omega)).1 (by have := (hR.right hi h4 (r := firstT l i) (by omega)).1; omega) hy with ⟨e, _⟩ | ⟨a1, a2, a3, a4, _⟩
  ·rw [e] at h; exact absurd h (by decide)
  ·exact ⟨h1, hi, h4, by omega, a3, a4, a2⟩
 ·unfold respT at h
  rw [if_neg hc] at h
  exact absurd h (by decide)
theorem L26_4_eq {k : Nat} (hk : 20000 ≤ k) {l : List Tk} (hL : lightL l) (hl : l.length ≤ 10) {ap : Int} : ∀ (d i j : Nat) (out : List B5), i + d = l.length → d < j → out.length ≤ i →
  L26_4 k j l ap out l (l.length : Int) (i : Int) = some (((allG l ap d i out).1, (allG l ap d i out).2, ()), ())
 | 0, i, j, out, h, hj, ho => by
  obtain ⟨j', rfl⟩ : ∃ j', j = j' + 1 := ⟨j - 1, by omega⟩
  rw [L26_4_s, l26_4, bif_f (by omega), allG]
 | d + 1, i, j, out, h, hj, ho => by
  obtain ⟨j', rfl⟩ : ∃ j', j = j' + 1 := ⟨j - 1, by omega⟩
  have hi : i < l.length := by omega
  have ht := (hL.2 _ (getD_mem (z := t0) hi)).1
  rw [L26_4_s, l26_4, bif_t (by omega), ix_nat hi, S16_eq hk hL hl, Option.bind_some, allG, rd_nat, show l.getD i (0, 0, 0, [], [], []) = l.getD i t0 from rfl]
  simp only
  by_cases he : (respT l (i : Int) ap).2.2 = 0
  ·obtain ⟨h1, _, h3, h4, h5, h6, h7⟩ := respT_ok hL hl he
   have hc := (row_rs h1 hL hl).co _ (getD_mem (z := t0) hi)
   have := hc.en; have := hc.per
   rw [if_pos he, he]
   simp only [bne_self_eq_false, cond_false]
   rw [S36_eq (by omega) ht, Option.bind_some, S38_eq (by omega) hL, Option.bind_some, ap_ok (by simp only [List.length_cons, List.length_nil]; omega), w64_nat (by omega), w64 (by omega) (by omega)]
   exact L26_4_eq hk hL hl d (i + 1) j' _ (by omega) (by omega) (by simp only [List.length_append, List.length_cons, List.length_nil]; omega)
  ·rw [if_neg he, show ((respT l (i : Int) ap).2.2 != 0) = true by rw [bne_iff_ne]; exact he, cond_true]
theorem S26_eq {k : Nat} (hk : 20000 ≤ k) {l : List Tk} (hL : lightL l) (hl : l.length ≤ 10) (ap : Int) : S26 k l ap = some (((allT l ap).1, (allT l ap).2, ()), ()) := by
 unfold S26 allT
 by_cases h : ap < 1
 ·rw [bif_t h, if_pos h]
 ·rw [bif_f h, if_neg h]
  exact L26_4_eq hk hL hl l.length 0 k [] (by omega) (by omega) (by simp)
theorem L27_5_eq {k : Nat} (hk : 20000 ≤ k) {l : List Tk} (hL : lightL l) (hl : l.length ≤ 10) {ap : Int} : ∀ (d i j : Nat) (out : List B5), i + d = l.length → d < j → out.length ≤ i →
  L27_5 k j l ap out (i : Int) = some (((allG l ap d i out).1, (allG l ap d i out).2, ()), ())
 | 0, i, j, out, h, hj, ho => by
  obtain ⟨j', rfl⟩ : ∃ j', j = j' + 1 := ⟨j - 1, by omega⟩
  rw [L27_5_s, l27_5, bif_f (by omega), allG]
 | d + 1, i, j, out, h, hj, ho => by
  obtain ⟨j', rfl⟩ : ∃ j', j = j' + 1 := ⟨j - 1, by omega⟩
  have hi : i < l.length := by omega
  have ht := (hL.2 _ (getD_mem (z := t0) hi)).1
  rw [L27_5_s, l27_5, bif_t (by omega), S17_eq hk hL hl, Option.bind_some, allG]
  simp only
  by_cases he : (respT l (i : Int) ap).2.2 = 0
  ·obtain ⟨h1, _, h3, h4, h5, h6, h7⟩ := respT_ok hL hl he
   have hc := (row_rs h1 hL hl).co _ (getD_mem (z := t0) hi)
   have := hc.en; have := hc.per
   rw [if_pos he, he]
   simp only [bne_self_eq_false, cond_false]
   rw [ix_nat hi, rd_nat, show l.getD i (0, 0, 0, [], [], []) = l.getD i t0 from rfl, S22_eq (by omega) ht, Option.bind_some, S21_eq (by omega) hL, Option.bind_some, ix_nat hi, ap_ok (by simp only [List.length_cons, List.length_nil]; omega), w64_nat (by omega), w64 (by omega) (by omega)]
   exact L27_5_eq hk hL hl d (i + 1) j' _ (by omega) (by omega) (by simp only [List.length_append, List.length_cons, List.length_nil]; omega)
  ·rw [if_neg he, show ((respT l (i : Int) ap).2.2 != 0) = true by rw [bne_iff_ne]; exact he, cond_true]
theorem S27_eq {k : Nat} (hk : 20000 ≤ k) {l : List Tk} (hL : lightL l) (hl : l.length ≤ 10) (ap : Int) : S27 k l ap = some (((allT l ap).1, (allT l ap).2, ()), ()) := by
 unfold S27 allT
 rw [S40_eq (by omega) hL, Option.bind_some]
 simp only
 cases hr : rowT l with
 | false =>
  rw [Bool.not_false, cond_true]
  by_cases h : ap < 1
  ·rw [if_pos h]
  ·rw [if_neg h]
   cases l with
   | nil => exact absurd hr (by unfold rowT; decide)
   | cons t r =>
    have : respT (t :: r) ((0 : Nat) : Int) ap = (0, 0, 1) := by unfold respT; rw [if_neg (fun q => by rw [hr] at q; cases q.1)]
    rw [List.length_cons, allG, this, if_neg (by decide)]
 | true =>
  rw [Bool.not_true, cond_false]
  by_cases h : ap < 1
  ·rw [bif_t h, if_pos h]
  ·rw [bif_f h, if_neg h]
   exact L27_5_eq hk hL hl l.length 0 k [] (by omega) (by omega) (by simp)
def posT (r : Int) : List Tk → Nat
 | [] => 0
 | x :: l => bif decide (x.1 < r) then posT r l + 1 else 0
theorem posT_le (r : Int) : ∀ l : List Tk, posT r l ≤ l.length
 | [] => Nat.le_refl _
 | x :: l => by
  rw [posT]
  cases decide (x.1 < r) with
  | true => rw [cond_true, List.length_cons]; have := posT_le r l; omega
  | false => rw [cond_false]; omega
theorem posT_unique (r : Int) : ∀ (l : List Tk) (n : Nat), n ≤ l.length → (∀ a, a < n → (l.getD a t0).1 < r) → (n < l.length → ¬ (l.getD n t0).1 < r) → posT r l = n
 | [], n, h, _, _ => by simp at h; rw [h]; rfl
 | x :: l, 0, _, _, h2 => by
  have h3 : ¬ x.1 < r := h2 (by simp)
  rw [posT, decide_eq_false h3, cond_false]
 | x :: l, n + 1, h, h1, h2 => by
  have h3 : x.1 < r := h1 0 (by omega)
  rw [posT, decide_eq_true h3, cond_true, posT_unique r l n (by simpa using h) (fun a ha => h1 (a + 1) (by omega)) (fun hn => h2 (by simpa using hn))]
noncomputable def putT (l : List Tk) (t : Tk) : List Tk := l.take (posT t.1 l) ++ [t] ++ l.drop (posT t.1 l)
theorem putT_len (l : List Tk) (t : Tk) : (putT l t).length = l.length + 1 := by
 have := posT_le t.1 l
 unfold putT
 simp only [List.length_append, List.length_take, List.length_drop, List.length_cons, List.length_nil]; omega
theorem putT_light {l : List Tk} {t : Tk} (h : lightL l) (hl : l.length ≤ 50) (ht : lightT t ∧ (t.2.2.2.1 ++ t.2.2.2.2.1).length ≤ 900) : lightL (putT l t) := ⟨by rw [putT_len]; omega, fun x hx => by
 unfold putT at hx
 simp only [List.mem_append, List.mem_singleton] at hx
 rcases hx with (hx | hx) | hx
 ·exact h.2 x (List.mem_of_mem_take hx)
 ·rw [hx]; exact ht
 ·exact h.2 x (List.mem_of_mem_drop hx)⟩
noncomputable def inT (l : List Tk) (t : Tk) (ap : Int) : List Tk × List B5 × Int :=
 if mayT t ≠ 0 then ([], [], mayT t) else if l.any (fun x => x.1 == t.1) = true then ([], [], 11) else if 8 ≤ l.length then ([], [], 4)
 else if (allT (putT l t) ap).2 ≠ 0 then ([], [], (allT (putT l t) ap).2) else (putT l t, (allT (putT l t) ap).1, 0)
theorem S68_eq {k : Nat} {xs : List I4} (h : xs.length ≤ 900) : S68 k xs = some ((xs, ()), ()) := by
 unfold S68 cloneSem
 exact if_pos (by rw [lenL_eq]; show xs.length * _ ≤ _; omega)
theorem S48_eq {k : Nat} {t : Tk} (h : lightT t) : S48 k t = some ((t, ()), ()) := by
 unfold S48
 rw [S68_eq h.1, Option.bind_some, S68_eq h.2.1, Option.bind_some, S68_eq h.2.2, Option.bind_some]
theorem S51_eq {k : Nat} {l : List Tk} {p : Nat} {t : Tk} (hp : p ≤ l.length) (hl : l.length ≤ 1000) : S51 k l (p : Int) [t] = some ((l.take p ++ [t] ++ l.drop p, ()), ()) := by
 unfold S51 insSem
 refine if_pos ?_
 simp only [Bool.and_eq_true]
 refine ⟨decide_eq_true (Int.natCast_nonneg p), decide_eq_true (Int.ofNat_le.2 hp), decide_eq_true ?_⟩
 show (l.length + 1) * _ ≤ _
 omega
theorem idx_pos {l : List Tk} {r : Int} (h : l.any (fun x => x.1 == r) = false) : (if idxI (fun x : Tk => decide (x.1 > r)) l < 0 then (l.length : Int) else idxI (fun x : Tk => decide (x.1 > r)) l) = (posT r l : Int) := by
 have hne : ∀ a, a < l.length → (l.getD a t0).1 ≠ r := fun a ha e => by
  rw [List.any_eq_false] at h
  exact h _ (getD_mem (z := t0) ha) (by rw [e]; exact beq_self_eq_true r)
 unfold idxI
 cases hf : l.findIdx? (fun x : Tk => decide (x.1 > r)) with
 | none =>
  rw [List.findIdx?_eq_none_iff] at hf
  simp only
  rw [if_pos (by omega), posT_unique r l l.length (Nat.le_refl _) (fun a ha => by
   have := hf _ (getD_mem (z := t0) ha)
   have := of_decide_eq_false this
   have := hne a ha
   omega) (fun h => absurd h (by omega))]
 | some n =>
  rw [List.findIdx?_eq_some_iff_getElem] at hf
  obtain ⟨hn, h1, h2⟩ := hf
  have gd : ∀ a (ha : a < l.length), l.getD a t0 = l[a] := fun a ha => by rw [List.getD_eq_getElem?_getD, List.getElem?_eq_getElem ha]; rfl
  simp only
  rw [if_neg (by omega), posT_unique r l n (by omega) (fun a ha => by
   have h3 := h2 a ha
   have h4 := hne a (by omega)
   rw [gd a (by omega)] at h4 ⊢
   simp only [decide_eq_true_eq] at h3
   omega) (fun _ => by
   rw [gd n hn]
   have := of_decide_eq_true h1
   omega)]
end Go.Proofs.Ytinopkpnlibopaa.Ab

/- Who may come in: both answers. -/
namespace Go.Proofs.Ytinopkpnlibopaa.Ab
open Go.RowKit Tr
set_option linter.unusedSimpArgs false
set_option linter.unusedVariables false
theorem mget_up (x y : Int) (c : List (Int × Bool)) : mget (.int .i64) .bool x (updD (.int .i64) .bool y true c) false = ((y == x) || mget (.int .i64) .bool x c false) := by
 unfold mget
 rw [lookD_upd (hb := ibeq)]
 by_cases e : y = x
 ·subst e; simp [beqD]
 ·have h1 : beqD (.int .i64) x y = false := by simp [beqD]; exact fun h => e h.symm
  rw [h1, show (y == x) = false by rw [beq_eq_false_iff_ne]; exact e]
  simp
structure OKin (l : List Tk) (t : Tk) : Prop where
 light : lightL l
 len : l.length ≤ 9
 one : lightT t ∧ (t.2.2.2.1 ++ t.2.2.2.2.1).length ≤ 900
theorem L29_16_eq {k : Nat} (hk : 20000 ≤ k) {l : List Tk} {t : Tk} (h : OKin l t) {ap : Int} (hany : l.any (fun x => x.1 == t.1) = false) : ∀ (d n j : Nat), n + d = l.length → d < j →
  L29_16 k j ap t.1 t.2.1 t.2.2.1 t.2.2.2.1 t.2.2.2.2.1 t.2.2.2.2.2 (l.take n) l (l.length : Int) (n : Int) = some ((if (allT (putT l t) ap).2 ≠ 0 then ([], [], (allT (putT l t) ap).2, ()) else (putT l t, (allT (putT l t) ap).1, 0, ())), ())
 | 0, n, j, h1, hj => by
  obtain ⟨j', rfl⟩ : ∃ j', j = j' + 1 := ⟨j - 1, by omega⟩
  have hl := h.len
  have hn : n = l.length := by omega
  have hp := posT_le t.1 l
  have hpl := putT_light h.light (by omega) h.one
  have hpn := putT_len l t
  have jn : j29_23 k ap t.1 t.2.1 t.2.2.1 t.2.2.2.1 t.2.2.2.2.1 t.2.2.2.2.2 l ((posT t.1 l : Nat) : Int) = some ((if (allT (putT l t) ap).2 ≠ 0 then ([], [], (allT (putT l t) ap).2, ()) else (putT l t, (allT (putT l t) ap).1, 0, ())), ()) := by
   unfold j29_23
   rw [show (t.1, t.2.1, t.2.2.1, t.2.2.2.1, t.2.2.2.2.1, t.2.2.2.2.2) = t from rfl, S48_eq h.one.1, Option.bind_some]
   simp only
   rw [S51_eq hp (by omega), Option.bind_some]
   show (S26 k (putT l t) ap).bind _ = _
   rw [S26_eq hk hpl (by omega), Option.bind_some]
   simp only
   by_cases he : (allT (putT l t) ap).2 = 0
   ·rw [he, if_neg (by simp)]; rfl
   ·rw [if_pos he, show ((allT (putT l t) ap).2 != 0) = true by rw [bne_iff_ne]; exact he, cond_true]
  have hidx := idx_pos hany
  rw [L29_16_s, l29_16, bif_f (by omega), hn, List.take_length]
  unfold S49
  have := idx_all (fun j i => L49_2 k j l (t.1, t.2.1, t.2.2.1, t.2.2.2.1, t.2.2.2.2.1, t.2.2.2.2.2) (l.length : Int) i) l t0 (fun x : Tk => decide (x.1 > t.1)) (fun j i hi => by
   show L49_2 k (j + 1) l _ (l.length : Int) (i : Int) = _
   rw [L49_2_s, l49_2, bif_t (by omega), ix_nat hi, w64_nat (by omega), rd_nat]
   unfold S50
   rfl) (fun j => by
   show L49_2 k (j + 1) l _ (l.length : Int) (l.length : Int) = _
   rw [L49_2_s, l49_2, bif_f (by omega)]) k (by omega)
  rw [show L49_2 k k l (t.1, t.2.1, t.2.2.1, t.2.2.2.1, t.2.2.2.2.1, t.2.2.2.2.2) (l.length : Int) 0 = _ from this, Option.bind_some]
  simp only
  by_cases hi : idxI (fun x : Tk => decide (x.1 > t.1)) l < 0
  ·rw [if_pos hi] at hidx
   rw [bif_t hi, hidx]; exact jn
  ·rw [if_neg hi] at hidx
   rw [bif_f hi, hidx]; exact jn
 | d + 1, n, j, h1, hj => by
  obtain ⟨j', rfl⟩ : ∃ j', j = j' + 1 := ⟨j - 1, by omega⟩
  have hl := h.len
  have hn : n < l.length := by omega
  have ht := (h.light.2 _ (getD_mem (z := t0) hn)).1
  rw [L29_16_s, l29_16, bif_t (by omega), ix_nat hn, rd_nat, show l.getD n (0, 0, 0, [], [], []) = l.getD n t0 from rfl, S48_eq ht, Option.bind_some]
  simp only
  rw [ap_ok (by simp only [List.length_take, List.length_cons, List.length_nil]; omega), w64_nat (by omega), ← take_snoc hn]
  exact L29_16_eq hk h hany d (n + 1) j' (by omega) (by omega)
theorem L29_3_eq {k : Nat} (hk : 20000 ≤ k) {l : List Tk} {t : Tk} (h : OKin l t) {ap : Int} : ∀ (d n j : Nat) (c : List (Int × Bool)), n + d = l.length → d < j → (mget (.int .i64) .bool t.1 c false = (l.take n).any (fun x => x.1 == t.1)) →
  L29_3 k j l ap t.1 t.2.1 t.2.2.1 t.2.2.2.1 t.2.2.2.2.1 t.2.2.2.2.2 c l (l.length : Int) (n : Int) = some (((inT l t ap).1, (inT l t ap).2.1, (inT l t ap).2.2, ()), ())
 | 0, n, j, c, h1, hj, hc => by
  obtain ⟨j', rfl⟩ : ∃ j', j = j' + 1 := ⟨j - 1, by omega⟩
  have hl := h.len
  rw [L29_3_s, l29_3, bif_f (by omega), show (t.1, t.2.1, t.2.2.1, t.2.2.2.1, t.2.2.2.2.1, t.2.2.2.2.2) = t from rfl, S47_eq (by omega) h.one.1, Option.bind_some, hc, List.take_of_length_le (by omega)]
  simp only
  unfold inT
  by_cases hz : mayT t = 0
  ·rw [if_neg (by omega), hz]
   simp only [bne_self_eq_false, cond_false]
   cases ha : l.any (fun x => x.1 == t.1) with
   | true => rw [if_pos rfl, cond_true]
   | false =>
    rw [if_neg (by simp), cond_false]
    by_cases h8 : 8 ≤ l.length
    ·rw [if_pos h8, bif_t (by omega)]
    ·rw [if_neg h8, bif_f (by omega)]
     have := L29_16_eq hk h (ap := ap) ha l.length 0 k (by omega) (by omega)
     rw [List.take_zero] at this
     refine Eq.trans this ?_
     split <;> rfl
  ·rw [if_pos hz, show (mayT t != 0) = true by rw [bne_iff_ne]; exact hz, cond_true]
 | d + 1, n, j, c, h1, hj, hc => by
  obtain ⟨j', rfl⟩ : ∃ j', j = j' + 1 := ⟨j - 1, by omega⟩
  have hl := h.len
  have hn : n < l.length := by omega
  rw [L29_3_s, l29_3, bif_t (by omega), ix_nat hn, rd_nat, show l.getD n (0, 0, 0, [], [], []) = l.getD n t0 from rfl, w64_nat (by omega)]
  refine L29_3_eq hk h d (n + 1) j' _ (by omega) (by omega) ?_
  rw [mget_up, hc, take_snoc hn, List.any_append, List.any_cons, List.any_nil, Bool.or_false, Bool.or_comm]
theorem S29_eq {k : Nat} (hk : 20000 ≤ k) {l : List Tk} {t : Tk} (h : OKin l t) (ap : Int) : S29 k l t ap = some (((inT l t ap).1, (inT l t ap).2.1, (inT l t ap).2.2, ()), ()) := by
 have hl := h.len
 exact L29_3_eq hk h l.length 0 k [] (by omega) (by omega) (by rw [List.take_zero]; rfl)
def risesL (l : List Tk) : Prop := ∀ a b, a < b → b < l.length → (l.getD a t0).1 < (l.getD b t0).1
theorem row_rises {l : List Tk} (h : rowT l = true) : risesL l := fun a b hab hb => by
 rw [row_iff] at h
 induction b with
 | zero => omega
 | succ b ih =>
  have h1 := (h (b + 1) hb).2 (by omega)
  rw [show b + 1 - 1 = b by omega] at h1
  by_cases e : a = b
  ·rw [e]; exact h1
  ·have := ih (by omega) (by omega); omega
theorem L30_6_eq {k : Nat} (hk : 20000 ≤ k) {l : List Tk} {t : Tk} (h : OKin l t) (hr : risesL l) {ap : Int} : ∀ (d n p j : Nat), n + d = l.length → d < j → p ≤ n → (l.take n).any (fun x => x.1 == t.1) = false → (∀ a, a < p → (l.getD a t0).1 < t.1) → (∀ a, p ≤ a → a < n → ¬ (l.getD a t0).1 < t.1) →
  L30_6 k j l ap t.1 t.2.1 t.2.2.1 t.2.2.2.1 t.2.2.2.2.1 t.2.2.2.2.2 (p : Int) (n : Int) = some ((if l.any (fun x => x.1 == t.1) = true then ([], [], 11, ()) else if 8 ≤ l.length then ([], [], 4, ()) else if (allT (putT l t) ap).2 ≠ 0 then ([], [], (allT (putT l t) ap).2, ()) else (putT l t, (allT (putT l t) ap).1, 0, ())), ())
 | 0, n, p, j, h1, hj, hp, ha, q1, q2 => by
  obtain ⟨j', rfl⟩ : ∃ j', j = j' + 1 := ⟨j - 1, by omega⟩
  have hl := h.len
  have hn : n = l.length := by omega
  subst hn
  rw [List.take_length] at ha
  have hpos := posT_unique t.1 l p hp q1 (fun hh => q2 p (Nat.le_refl _) hh)
  have hpl := putT_light h.light (by omega) h.one
  have hpn := putT_len l t
  rw [L30_6_s, l30_6, bif_f (by omega), ha, if_neg (by simp)]
  by_cases h8 : 8 ≤ l.length
  ·rw [if_pos h8, bif_t (by omega)]
  ·rw [if_neg h8, bif_f (by omega), sx_ok (by omega) (by omega) (by omega), ap_ok (by simp only [List.length_nil, sub, List.length_drop, List.length_take]; omega), ap_ok (by simp only [List.length_append, List.length_cons, List.length_nil, sub, List.length_drop, List.length_take]; omega), sx_ok (by omega) (by omega) (by omega), ap_ok (by simp only [List.length_append, List.length_cons, List.length_nil, sub, List.length_drop, List.length_take]; omega)]
   rw [show [] ++ sub l 0 (p : Int) ++ [(t.1, t.2.1, t.2.2.1, t.2.2.2.1, t.2.2.2.2.1, t.2.2.2.2.2)] ++ sub l (p : Int) (l.length : Int) = putT l t by
    unfold putT; rw [hpos]; simp [sub], S27_eq hk hpl (by omega), Option.bind_some]
   simp only
   by_cases he : (allT (putT l t) ap).2 = 0
   ·rw [he, if_neg (by simp)]; rfl
   ·rw [if_pos he, show ((allT (putT l t) ap).2 != 0) = true by rw [bne_iff_ne]; exact he, cond_true]
 | d + 1, n, p, j, h1, hj, hp, ha, q1, q2 => by
  obtain ⟨j', rfl⟩ : ∃ j', j = j' + 1 := ⟨j - 1, by omega⟩
  have hl := h.len
  have hn : n < l.length := by omega
  rw [L30_6_s, l30_6, bif_t (by omega), ix_nat hn, rd_nat, show l.getD n (0, 0, 0, [], [], []) = l.getD n t0 from rfl, w64_nat (by omega)]
  cases he : (l.getD n t0).1 == t.1 with
  | true =>
   have : l.any (fun x => x.1 == t.1) = true := List.any_eq_true.2 ⟨_, getD_mem (z := t0) hn, he⟩
   rw [this, if_pos rfl, cond_true]
  | false =>
   have ha2 : (l.take (n + 1)).any (fun x => x.1 == t.1) = false := by rw [take_snoc hn, List.any_append, ha, List.any_cons, he]; rfl
   rw [cond_false, ix_nat hn]
   by_cases hlt : (l.getD n t0).1 < t.1
   ·rw [bif_t hlt]
    exact L30_6_eq hk h hr d (n + 1) (n + 1) j' (by omega) (by omega) (Nat.le_refl _) ha2 (fun a ha => by
     by_cases e : a = n
     ·rw [e]; exact hlt
     ·have := hr a n (by omega) hn; omega) (fun a h2 h3 => by omega)
   ·rw [bif_f hlt]
    exact L30_6_eq hk h hr d (n + 1) p j' (by omega) (by omega) (by omega) ha2 q1 (fun a h2 h3 => by
     by_cases e : a = n
     ·rw [e]; exact hlt
     ·exact q2 a h2 (by omega))
theorem S30_eq {k : Nat} (hk : 20000 ≤ k) {l : List Tk} {t : Tk} (h : OKin l t) (hr : risesL l) (ap : Int) : S30 k l t ap = some (((inT l t ap).1, (inT l t ap).2.1, (inT l t ap).2.2, ()), ()) := by
 have hl := h.len
 unfold S30 inT
 rw [S34_eq (by omega) h.one.1, Option.bind_some]
 simp only
 by_cases hz : mayT t = 0
 ·rw [if_neg (by omega), hz]
  simp only [bne_self_eq_false, cond_false]
  refine (L30_6_eq hk h hr (ap := ap) l.length 0 0 k (by omega) (by omega) (Nat.le_refl _) (by simp) (fun a ha => by omega) (fun a h1 h2 => by omega)).trans ?_
  split
  ·rfl
  ·split
   ·rfl
   ·split <;> rfl
 ·rw [if_pos hz, show (mayT t != 0) = true by rw [bne_iff_ne]; exact hz, cond_true]
/-! ### the same -/
theorem S52_eq {k : Nat} (hk : 1000 ≤ k) {a : List I4} (ha : a.length ≤ 900) : S52 k a a = some ((true, ()), ()) := by
 unfold S52
 simp only [bne_self_eq_false, cond_false]
 have key : ∀ (d i j : Nat), i + d = a.length → d < j → L52_4 k j a a (i : Int) = some ((true, ()), ()) := by
  intro d
  induction d with
  | zero =>
   intro i j h hj
   obtain ⟨j', rfl⟩ : ∃ j', j = j' + 1 := ⟨j - 1, by omega⟩
   rw [L52_4_s, l52_4, bif_f (by omega)]
  | succ d ih =>
   intro i j h hj
   obtain ⟨j', rfl⟩ : ∃ j', j = j' + 1 := ⟨j - 1, by omega⟩
   rw [L52_4_s, l52_4, bif_t (by omega), ix_nat (by omega), ix_nat (by omega), w64_nat (by omega)]
   have : ∀ x : I4, beqD (.pair (.int .i64) (.pair (.int .i64) (.pair (.int .i64) (.int .i64)))) x x = true := fun x => by simp [beqD]
   rw [this, Bool.not_true, cond_false]
   exact ih (i + 1) j' (by omega) (by omega)
 exact key a.length 0 k (by omega) (by omega)
theorem S32_eq {k : Nat} (hk : 1000 ≤ k) {t : Tk} (h : lightT t) : S32 k t t = some ((true, ()), ()) := by
 unfold S32
 simp only [beq_self_eq_true, cond_true, S52_eq hk h.1, S52_eq hk h.2.1, S52_eq hk h.2.2, Option.bind_some]
theorem S31_eq {k : Nat} (hk : 1000 ≤ k) {l : List Tk} (h : lightL l) : S31 k l l = some ((true, ()), ()) := by
 have hl := h.1
 unfold S31
 simp only [bne_self_eq_false, cond_false]
 have key : ∀ (d i j : Nat), i + d = l.length → d < j → L31_4 k j l l (i : Int) = some ((true, ()), ()) := by
  intro d
  induction d with
  | zero =>
   intro i j h hj
   obtain ⟨j', rfl⟩ : ∃ j', j = j' + 1 := ⟨j - 1, by omega⟩
   rw [L31_4_s, l31_4, bif_f (by omega)]
  | succ d ih =>
   intro i j h1 hj
   obtain ⟨j', rfl⟩ : ∃ j', j = j' + 1 := ⟨j - 1, by omega⟩
   have ht := (h.2 _ (getD_mem (z := t0) (show i < l.length by omega))).1
   rw [L31_4_s, l31_4, bif_t (by omega), ix_nat (by omega), ix_nat (by omega), rd_nat, show l.getD i (0, 0, 0, [], [], []) = l.getD i t0 from rfl, S32_eq hk ht, Option.bind_some, w64_nat (by omega)]
   exact ih (i + 1) j' (by omega) (by omega)
 exact key l.length 0 k (by omega) (by omega)
theorem S28_eq {k : Nat} (hk : 1000 ≤ k) {l : List B5} (h : l.length ≤ 900) : S28 k l l = some ((true, ()), ()) := by
 unfold S28
 simp only [bne_self_eq_false, cond_false]
 have key : ∀ (d i j : Nat), i + d = l.length → d < j → L28_4 k j l l (i : Int) = some ((true, ()), ()) := by
  intro d
  induction d with
  | zero =>
   intro i j h hj
   obtain ⟨j', rfl⟩ : ∃ j', j = j' + 1 := ⟨j - 1, by omega⟩
   rw [L28_4_s, l28_4, bif_f (by omega)]
  | succ d ih =>
   intro i j h1 hj
   obtain ⟨j', rfl⟩ : ∃ j', j = j' + 1 := ⟨j - 1, by omega⟩
   rw [L28_4_s, l28_4, bif_t (by omega), ix_nat (by omega), ix_nat (by omega), w64_nat (by omega)]
   have : ∀ x : B5, beqD (arrT 5 (.int .i64)) x x = true := fun x => by simp [beqD, arrT]
   rw [this, Bool.not_true, cond_false]
   exact ih (i + 1) j' (by omega) (by omega)
 exact key l.length 0 k (by omega) (by omega)
theorem allG_len {l : List Tk} {ap : Int} : ∀ (d i : Nat) (out : List B5), (allG l ap d i out).1.length ≤ out.length + d
 | 0, i, out => by rw [allG]; simp
 | d + 1, i, out => by
  rw [allG]
  split
  ·have := allG_len (l := l) (ap := ap) d (i + 1) (out ++ [bT l ap i])
   simp only [List.length_append, List.length_cons, List.length_nil] at this; omega
  ·simp
theorem allT_len (l : List Tk) (ap : Int) : (allT l ap).1.length ≤ l.length := by
 unfold allT
 split
 ·simp
 ·have := allG_len (l := l) (ap := ap) l.length 0 []; simpa using this
end Go.Proofs.Ytinopkpnlibopaa.Ab

/- The law of all who come in. -/
namespace Go.Proofs.Ytinopkpnlibopaa.Ab
open Go.RowKit Tr
set_option linter.unusedSimpArgs false
set_option linter.unusedVariables false
abbrev tb18 : Tk := (1, 50, 40, ([(1, 0, 0, 0), (1, 0, 0, 0), (0, 0, 0, 0)] : List I4), [], [])
theorem tb18_light : lightT tb18 ∧ (tb18.2.2.2.1 ++ tb18.2.2.2.2.1).length ≤ 900 := ⟨by unfold lightT; decide, by decide⟩
theorem S23_eq {k : Nat} (hk : 20000 ≤ k) : S23 k = some ((true, ()), ()) := by
 have o1 : OKin [] tb18 := ⟨⟨by decide, fun t h => by cases h⟩, by decide, tb18_light⟩
 have hL : lightL [tb18] := ⟨by decide, fun t h => by rw [List.mem_singleton] at h; rw [h]; exact tb18_light⟩
 have o2 : OKin [tb18] tb18 := ⟨hL, by decide, tb18_light⟩
 have e : inT [] tb18 100 = ([tb18], [(3, 3, 0, 6, 34)], 0) := by kernel_rfl
 have e2 : inT [tb18] tb18 100 = ([], [], 11) := by kernel_rfl
 have e3 : allT [tb18] 100 = ([(3, 3, 0, 6, 34)], 0) := by kernel_rfl
 unfold S23
 rw [S29_eq hk o1, Option.bind_some, e]
 simp only
 rw [S29_eq hk o2, Option.bind_some, e2, S26_eq hk hL (by decide), Option.bind_some, e3]
 rfl
theorem inT_len (l : List Tk) (t : Tk) (ap : Int) : (inT l t ap).1.length ≤ l.length + 1 ∧ (inT l t ap).2.1.length ≤ l.length + 1 := by
 have h1 := putT_len l t
 have h2 := allT_len (putT l t) ap
 unfold inT
 split
 ·simp
 ·split
  ·simp
  ·split
   ·simp
   ·split
    ·simp
    ·exact ⟨by simp only; omega, by simp only; omega⟩
theorem inT_light {l : List Tk} {t : Tk} (h : OKin l t) (ap : Int) : lightL (inT l t ap).1 := by
 have hp := putT_light h.light (by have := h.len; omega) h.one
 have h0 : lightL [] := ⟨by simp, fun t h => by cases h⟩
 unfold inT
 split
 ·exact h0
 ·split
  ·exact h0
  ·split
   ·exact h0
   ·split
    ·exact h0
    ·exact hp
theorem L9_17_eq {k : Nat} (hk : 20000 ≤ k) {g9 : Int → Int → Int → List I4 → List I4 → List I4 → List Tk → Int → Int → Int → List I4 → List I4 → List I4 → List Int → Int → Option ((Bool × Unit) × Unit)} {l : List Tk} {a1 a2 a3 m1 m2 m3 : Int} {a4 a5 a6 m4 m5 m6 : List I4} {aps : List Int} {n : Nat} (hn : n < aps.length) (hap : aps.length ≤ 10) {ts : List Tk} (hts : ts.length = 2) (hr : risesL l) (ho : ∀ t ∈ ts, OKin l t) : ∀ (d i j : Nat), i + d = 2 → d < j →
  L9_17 k g9 j a1 a2 a3 a4 a5 a6 l m1 m2 m3 m4 m5 m6 aps (n : Int) ts (i : Int) = g9 a1 a2 a3 a4 a5 a6 l m1 m2 m3 m4 m5 m6 aps ((n + 1 : Nat) : Int)
 | 0, i, j, h, hj => by
  obtain ⟨j', rfl⟩ : ∃ j', j = j' + 1 := ⟨j - 1, by omega⟩
  rw [L9_17_s, l9_17, bif_f (by omega), w64_nat (by omega)]
 | d + 1, i, j, h, hj => by
  obtain ⟨j', rfl⟩ : ∃ j', j = j' + 1 := ⟨j - 1, by omega⟩
  have hi : i < ts.length := by omega
  have hh := ho _ (getD_mem (z := t0) hi)
  have hl := hh.len
  have hlen := inT_len l (ts.getD i t0) (aps.getD n 0)
  rw [L9_17_s, l9_17, bif_t (by omega), ix_nat hi, ix_nat hn, rd_nat, rd_nat, show ts.getD i (0, 0, 0, [], [], []) = ts.getD i t0 from rfl, S29_eq hk hh, Option.bind_some, ix_nat hi, ix_nat hn, S30_eq hk hh hr, Option.bind_some]
  simp only [bne_self_eq_false, cond_false]
  rw [S31_eq (by omega) (inT_light hh _), Option.bind_some, S28_eq (by omega) (by omega), Option.bind_some, w64_nat (by omega)]
  simp only [Bool.not_true, cond_false]
  exact L9_17_eq hk hn hap hts hr ho d (i + 1) j' (by omega) (by omega)
theorem L9_9_eq {k : Nat} (hk : 20000 ≤ k) {l : List Tk} (hL : lightL l) (hl : l.length ≤ 9) (hr : risesL l) {t m : Tk} (h1 : OKin l t) (h2 : OKin l m) {aps : List Int} (hap : aps.length = 4) : ∀ (d n j : Nat), n + d = 4 → d < j →
  L9_9 k j t.1 t.2.1 t.2.2.1 t.2.2.2.1 t.2.2.2.2.1 t.2.2.2.2.2 l m.1 m.2.1 m.2.2.1 m.2.2.2.1 m.2.2.2.2.1 m.2.2.2.2.2 aps (n : Int) = some ((true, ()), ())
 | 0, n, j, h, hj => by
  obtain ⟨j', rfl⟩ : ∃ j', j = j' + 1 := ⟨j - 1, by omega⟩
  rw [L9_9_s, l9_9, bif_f (by omega)]
 | d + 1, n, j, h, hj => by
  obtain ⟨j', rfl⟩ : ∃ j', j = j' + 1 := ⟨j - 1, by omega⟩
  have hn : n < aps.length := by omega
  have hal := allT_len l (aps.getD n 0)
  rw [L9_9_s, l9_9, bif_t (by omega), ix_nat hn, rd_nat, S26_eq hk hL (by omega), Option.bind_some, ix_nat hn, S27_eq hk hL (by omega), Option.bind_some]
  simp only [bne_self_eq_false, cond_false]
  rw [S28_eq (by omega) (by omega), Option.bind_some]
  simp only [Bool.not_true, cond_false]
  exact (L9_17_eq hk hn (by omega) (ts := [t, m]) rfl hr (by simp only [List.mem_cons, List.not_mem_nil, or_false, forall_eq_or_imp, forall_eq]; exact ⟨h1, h2⟩) 2 0 k (by omega) (by omega)).trans (L9_9_eq hk hL hl hr h1 h2 hap d (n + 1) j' (by omega) (by omega))
theorem admitAll_pure {p : List Int} {a : Int} {t : Tk} {e : TypeId} (hp : Ty.fine (.sl e (.int .u8)) p) {k : Nat} (hk : 20000 ≤ k) : S9 k p a t = some ((true, ()), ()) := by
 unfold S9
 rw [S23_eq hk]
 simp only [Option.bind_some, Bool.not_true, cond_false]
 by_cases h : (p.length : Int) > 250
 ·rw [bif_t h]
 ·rw [bif_f h]
  by_cases c1 : (t.2.2.2.1.length : Int) > 30
  ·rw [bif_t c1]
  ·rw [bif_f c1]
   by_cases c2 : (t.2.2.2.2.1.length : Int) > 30
   ·rw [bif_t c2]
   ·rw [bif_f c2]
    by_cases c3 : (t.2.2.2.2.2.length : Int) > 30
    ·rw [bif_t c3]
    ·rw [bif_f c3]
     obtain ⟨l, locks, e1, hro, _, hl⟩ := S15_eq (k := k) (by omega) hp (by omega) (show (0 : Int) < 5 ∧ (5 : Int) ≤ 10 by omega)
     rw [e1, Option.bind_some]
     unfold S24
     rw [Option.bind_some]
     simp only
     obtain ⟨m, n', e2, _, hm⟩ := S25_eq (k := k) (by omega) (rank := IntKind.i64.wrap (Int.tmod (IntKind.u64.wrap a) 20)) (locks := 2) (by omega) (picks_ok hp (show p.length ≤ 1000 by omega))
     rw [e2, Option.bind_some]
     simp only
     have hL := hro.light (by omega)
     have hc := hm.code
     exact L9_9_eq hk hL (by omega) (row_rises hro.row) ⟨hL, by omega, ⟨by omega, by omega, by omega⟩, by rw [List.length_append]; omega⟩ ⟨hL, by omega, hm.light, by omega⟩ rfl 4 0 k (by omega) (by omega)
theorem admitAll_law {e e1 e2 e3 : TypeId} (p : List Int) (a : Int) (t : Tk) (hp : Ty.fine (.sl e (.int .u8)) p) (_ : Ty.fine (.int .i64) a) (_ : Ty.fine (.pair (.int .i64) (.pair (.int .i64) (.pair (.int .i64) (.pair (.sl e1 (.pair (.int .i64) (.pair (.int .i64) (.pair (.int .i64) (.int .i64))))) (.pair (.sl e2 (.pair (.int .i64) (.pair (.int .i64) (.pair (.int .i64) (.int .i64))))) (.sl e3 (.pair (.int .i64) (.pair (.int .i64) (.pair (.int .i64) (.int .i64)))))))))) t) : ∃ k, S9 k p a t = some ((true, ()), ()) := ⟨20000, admitAll_pure hp (by omega)⟩
end Go.Proofs.Ytinopkpnlibopaa.Ab
