import Derived.Test.YtinopkpnlibopaaAbCall
/- All operations together. -/
set_option linter.unusedVariables false
set_option linter.unusedSimpArgs false
namespace Go.Proofs.Ytinopkpnlibopaa.Ab
open Go.RowKit

section
variable {P : Program} {E : Env} {c : Ctx} {o : Oper} {s : St} {b : Nat} {R : Type} {κ : Eff → Option R} {r : R}

theorem isNone_eq {α : Type} {x : Option α} (h : isNone x = true) : x = none := by cases x <;> first | rfl | cases h
theorem isNone_ne {α : Type} {x : Option α} (h : isNone x = false) : ∃ y, x = some y := by cases x <;> first | exact ⟨_, rfl⟩ | cases h

theorem ite_some {α : Type} {p : Prop} [Decidable p] {x : Option α} {y : α} (h : (if p then x else none) = some y) : p ∧ x = some y := by
  by_cases hp : p
  · rw [if_pos hp] at h; exact ⟨hp, h⟩
  · rw [if_neg hp] at h; cases h

theorem builtin_ok (hE : EnvOK P E) {cl : Call} {bi : Builtin} (ho : o.op = .call cl) (hc : cl.callee = .builtin bi) (h : builtinA E bi cl.argTypes.toList (mapOp s cl.args.toList) b s κ = some r) : ∃ e, κ e = some r ∧ (freshB s.mem b e.upd = true → OpOK P c o s b e) := by
  have one : ∀ x, mapOp s cl.args.toList = [x] → ∃ y, cl.args.toList = [y] ∧ s.op y = x := by
    intro x hx
    cases hl : cl.args.toList with
    | nil => rw [hl] at hx; cases hx
    | cons y ys =>
      rw [hl] at hx
      simp only [mapOp] at hx
      injection hx with h1 h2
      cases ys with
      | nil => exact ⟨y, rfl, h1⟩
      | cons _ _ => cases h2
  have two : ∀ x x', mapOp s cl.args.toList = [x, x'] → ∃ y y', cl.args.toList = [y, y'] ∧ s.op y = x ∧ s.op y' = x' := by
    intro x x' hx
    cases hl : cl.args.toList with
    | nil => rw [hl] at hx; cases hx
    | cons y ys =>
      rw [hl] at hx
      simp only [mapOp] at hx
      injection hx with h1 h2
      cases ys with
      | nil => cases h2
      | cons y' ys =>
        simp only [mapOp] at h2
        injection h2 with h2 h3
        cases ys with
        | nil => exact ⟨y, y', rfl, h1, h2⟩
        | cons _ _ => cases h3
  unfold builtinA at h
  split at h
  · rename_i x hxs
    obtain ⟨y, hy, hyx⟩ := one _ hxs
    split at h
    · rename_i T ts hts
      split at h
      · rename_i hT hA
        exact ⟨_, h, fun _ => len_str_ok hE ho hc hts hT hA hy hyx⟩
      · cases h
    · cases h
  · rename_i x hxs
    obtain ⟨y, hy, hyx⟩ := one _ (by assumption)
    split at h
    · rename_i T ts hts
      split at h
      · rename_i e hT
        split at h
        · rename_i t ht
          split at h
          · rename_i l ns hr
            exact ⟨_, h, fun _ => len_row_ok hE ho hc hts hT ht hy (by rw [hyx]; exact hr)⟩
          · cases h
        · cases h
      · split at h
        · rename_i kv n hT
          obtain ⟨k, v⟩ := kv
          split at h
          · rename_i T' ak tk av tv es hm
            split at h
            · rename_i hTT
              have := Nat.eq_of_beq_eq_true hTT; subst this
              exact ⟨_, h, fun _ => len_map_ok hE ho hc hts hT hy hyx hm⟩
            · cases h
          · cases h
        · cases h
    · cases h
  · rename_i x y hxs
    obtain ⟨x', y', hl, rfl, rfl⟩ := two _ _ hxs
    split at h
    · rename_i T T' hts
      split at h
      · rename_i e hTT hT
        have := Nat.eq_of_beq_eq_true hTT; subst this
        split at h
        · rename_i t ht
          split at h
          · rename_i l ns h1
            split at h
            · rename_i l' ns' h2
              obtain ⟨hlim, h⟩ := ite_some h
              have hcl : cl = { callee := .builtin .append, args := #[x', y'], argTypes := #[T, T] } := by
                have e1 : cl.args = #[x', y'] := Array.toList_inj.1 (by rw [hl])
                have e2 : cl.argTypes = #[T, T] := Array.toList_inj.1 (by rw [hts])
                cases cl
                simp only at hc e1 e2
                simp [hc, e1, e2]
              have ho' : o.op = .call { callee := .builtin .append, args := #[x', y'], argTypes := #[T, T] } := by rw [ho, hcl]
              split at h
              · rename_i hd _ hfl
                exact ⟨_, h, fun _ => append_flat_ok hE ho' hT ht h1 h2 hd hlim hfl⟩
              · rename_i hd _ hfl
                exact ⟨_, h, fun _ => append_deep_ok hE ho' hT ht h1 h2 hd hlim⟩
              · cases h
            · cases h
          · cases h
        · cases h
      · rename_i e hTT hT
        split at h
        · obtain ⟨hlim, h2⟩ := ite_some h
          clear h
          have h := h2
          clear h2
          simp only [Bool.and_eq_true, decide_eq_true_eq] at hlim
          have hcl : cl = { callee := .builtin .append, args := #[x', y'], argTypes := #[T, T'] } := by
            have e1 : cl.args = #[x', y'] := Array.toList_inj.1 (by rw [hl])
            have e2 : cl.argTypes = #[T, T'] := Array.toList_inj.1 (by rw [hts])
            cases cl
            simp only at hc e1 e2
            simp [hc, e1, e2]
          have ho' : o.op = .call { callee := .builtin .append, args := #[x', y'], argTypes := #[T, T'] } := by rw [ho, hcl]
          split at h
          · rename_i hb
            exact ⟨_, h, fun _ => append_zeros_ok hE ho' hT (by assumption) (by assumption) (by assumption) (by assumption) hlim.1 hlim.2⟩
          · cases h
        · cases h
      · cases h
    · cases h
  · rename_i hxs
    obtain ⟨y, hy, hyx⟩ := one _ hxs
    split at h
    · rename_i T ts hts
      split at h
      · rename_i e hT
        exact ⟨_, h, fun _ => cap_nil_ok hE ho hc hts hT hy hyx⟩
      · cases h
    · cases h
  · rename_i x l hxs
    split at h
    · rename_i v hv
      exact ⟨_, h, fun _ => minmax_ok (mx := false) ho hc hxs hv⟩
    · cases h
  · rename_i x l hxs
    split at h
    · rename_i v hv
      exact ⟨_, h, fun _ => minmax_ok (mx := true) ho hc hxs hv⟩
    · cases h
  · cases h

theorem callA_ok (hE : EnvOK P E) {k : Nat} {cl : Call} {f : Operand} {g : FuncId} {caps : List AV} (ho : o.op = .call cl) (hc : cl.callee = .value f) (hf : s.op f = .clo g caps) (h : callA E k g (mapOp s cl.args.toList ++ caps) b s κ = some r) : ∃ e, κ e = some r ∧ (freshB s.mem b e.upd = true → OpOK P c o s b e) := by
  unfold callA at h
  split at h
  · rename_i F hF
    split at h
    · rename_i x ns pn is hp
      split at h
      · rename_i hchk
        rw [Option.bind_eq_some_iff] at h
        obtain ⟨q, hq, h⟩ := h
        split at h
        rename_i vs us b1 hi
        split at h
        rename_i us2 b2 hi2
        have e1 : vs = (impR F.rs q.1 b).1 := by rw [hi]
        have e2 : us = (impR F.rs q.1 b).2.1 := by rw [hi]
        have e3 : b1 = (impR F.rs q.1 b).2.2 := by rw [hi]
        subst e1; subst e2; subst e3
        have e4 : us2 = (outP F.ps q.2 (nthN pn) 0 (impR F.rs q.1 b).2.2).1 := by rw [hi2]
        have e5 : b2 = outB F.ps F.rs q (nthN pn) b := by unfold outB; rw [hi2]
        subst e4; subst e5
        have hmem : ∀ n ∈ ns ++ (pn ++ is), n ∈ ns ++ (pn ++ is) ++ namesOf ((impR F.rs q.1 b).2.1 ++ (outP F.ps q.2 (nthN pn) 0 (impR F.rs q.1 b).2.2).1) := fun n hn => List.mem_append_left _ hn
        split at h
        · rename_i hb hfl
          exact ⟨_, h, fun _ => call_ok hE ho hc hf hF hp hchk hq (Nat.le_of_ble_eq_true hb) hmem (.inl ⟨hfl, rfl⟩)⟩
        · rename_i hb hfl
          split at h
          · rename_i hrows
            exact ⟨_, h, fun _ => call_ok hE ho hc hf hF hp hchk hq (Nat.le_of_ble_eq_true hb) hmem (.inr ⟨hrows, rfl⟩)⟩
          · cases h
        · cases h
      · cases h
    · cases h
  · cases h

theorem mapA_ok (hE : EnvOK P E) {T : TypeId} {x i y : Operand} (ho : o.op = .mapUpdate T x i y ∨ o.op = .insert T x i y) (h : mapA E T (s.op x) (s.op i) (s.op y) s κ = some r) : ∃ e, κ e = some r ∧ (freshB s.mem b e.upd = true → OpOK P c o s b e) := by
  unfold mapA at h
  split at h
  · rename_i n hx
    split at h
    · rename_i T' ak tk av tv es hm
      split at h
      · rename_i hB
        simp only [Bool.and_eq_true] at hB
        have := Nat.eq_of_beq_eq_true hB.1; subst this
        split at h
        · rename_i d ns0 z ns hp hq
          split at h
          · rename_i hns
            exact ⟨_, h, fun _ => update_ok hE ho hx hm hB.2 hp hq hns⟩
          · cases h
        · cases h
      · cases h
    · cases h
  · cases h

theorem absOp_ok (hE : EnvOK P E) {k : Nat} (h : absOp E k o b s κ = some r) : ∃ e, κ e = some r ∧ (freshB s.mem b e.upd = true → OpOK P c o s b e) := by
  unfold absOp at h
  split at h
  · rename_i x ho; exact ⟨_, h, fun _ => move_ok ho⟩
  · rename_i x ho
    split at h
    · exact ⟨_, h, fun _ => assign_ok ho⟩
    · split at h
      · rename_i v us b' hz
        split at h
        · rename_i hb; exact ⟨_, h, fun _ => assign_z ho hz (Nat.le_of_ble_eq_true hb)⟩
        · cases h
      · cases h
  · rename_i x i ho
    split at h
    · rename_i vs hx
      split at h
      · rename_i hi; exact ⟨_, h, fun _ => extract_ok ho hx hi⟩
      · cases h
    · cases h
  · rename_i q x y ho
    split at h
    · rename_i t ht
      cases t with
      | true => rw [if_pos rfl] at h; exact ⟨_, h, fun _ => pick_ok1 ho ht⟩
      | false => rw [if_neg (by simp)] at h; exact ⟨_, h, fun _ => pick_ok2 ho ht⟩
    · cases h
  · rename_i op T x y T' ho; exact bin_ok hE ho h
  · rename_i op T x ho; exact un_ok ho h
  · rename_i a t x ho
    split at h
    · rename_i kk n hx
      split at h
      · rename_i k' hk hn
        obtain ⟨u, hu⟩ := isNone_ne hn
        exact ⟨_, h, fun _ => convert_ok hE ho hx hk hu⟩
      · cases h
    · cases h
  · rename_i x ho
    split at h
    · rename_i n off hx; rw [← hx] at h; exact ⟨_, h, fun _ => nilCheck_ok (n := n) ho (.inl ⟨_, _, hx⟩)⟩
    · rename_i n z i off hx; rw [← hx] at h; exact ⟨_, h, fun _ => nilCheck_ok (n := n) ho (.inr (.inl ⟨_, _, _, _, hx⟩))⟩
    · rename_i t y off hx; rw [← hx] at h; exact ⟨_, h, fun _ => nilCheck_ok (n := 0) ho (.inr (.inr (.inl ⟨_, _, _, hx⟩)))⟩
    · rename_i p c' j hx; rw [← hx] at h; exact ⟨_, h, fun _ => nilCheck_ok (n := 0) ho (.inr (.inr (.inr ⟨_, _, _, hx⟩)))⟩
    · cases h
  · rename_i T x ho
    split at h
    · rename_i hb
      simp only [Bool.and_eq_true] at hb
      split at h
      · exact ⟨_, h, fun _ => box_ok ho hb.2⟩
      · split at h
        rename_i cs us b' hz
        split at h
        · rename_i hb'; exact ⟨_, h, fun _ => box_z ho hb.2 hz (Nat.le_of_ble_eq_true hb')⟩
        · cases h
    · cases h
  · rename_i T ho
    split at h
    · rename_i t hb ht
      split at h
      · exact ⟨_, h, fun _ => alloc_ok hE ho ht⟩
      · split at h
        rename_i cs us b' hz
        split at h
        · rename_i hb'; exact ⟨_, h, fun _ => alloc_z hE ho ht hz (Nat.le_of_ble_eq_true hb')⟩
        · cases h
    · cases h
  · rename_i T x ho
    split at h
    · rename_i n off hx
      split at h
      · rename_i U cs hm
        split at h
        · rename_i v hl; exact ⟨_, h, fun _ => load_ptr_ok hE ho (fun h => by rwa [hx] at h) hm hl⟩
        · cases h
      · cases h
    · rename_i t y off hx
      split at h
      · rename_i v hl; exact ⟨_, h, fun _ => load_elr_ok hE ho (fun h => by rwa [hx] at h) hl⟩
      · cases h
    · rename_i n z i off hx
      split at h
      · rename_i f e t xs hm
        split at h
        · rename_i hz
          split at h
          · rename_i v hl; exact ⟨_, h, fun _ => load_elo_ok hE ho (fun h => by rwa [hx] at h) hm (Nat.eq_of_beq_eq_true hz) hl⟩
          · cases h
        · cases h
      · cases h
    · rename_i p c' j hx
      split at h
      · rename_i n off
        split at h
        · rename_i U cs hm
          split at h
          · rename_i v hl; exact ⟨_, h, fun _ => (load_dyn_ok hE ho hx).1 rfl hm hl⟩
          · cases h
        · cases h
      · rename_i t y off
        split at h
        · rename_i v hl; exact ⟨_, h, fun _ => (load_dyn_ok hE ho hx).2.1 rfl hl⟩
        · cases h
      · rename_i n z i off
        split at h
        · rename_i f e t xs hm
          split at h
          · rename_i hz
            split at h
            · rename_i v hl; exact ⟨_, h, fun _ => (load_dyn_ok hE ho hx).2.2 rfl hm (Nat.eq_of_beq_eq_true hz) hl⟩
            · cases h
          · cases h
        · cases h
      · cases h
    · cases h
  · rename_i T p x ho
    split at h
    · rename_i n off hp
      split at h
      · rename_i U cs hm
        split at h
        · rename_i u hT
          split at h
          · rename_i hb
            simp only [Bool.and_eq_true] at hb
            rw [lenA_eq, lenA_eq] at hb
            rw [takeA_eq, dropA_eq] at h
            exact ⟨_, h, fun _ => store_box_ok hE ho (fun h => by rwa [hp] at h) hm hT (Nat.eq_of_beq_eq_true hb.1) (Nat.le_of_ble_eq_true hb.2.1) hb.2.2⟩
          · cases h
        · cases h
      · cases h
    · rename_i n z i off hp
      split at h
      · rename_i e t xs hm
        split at h
        · rename_i u hT
          split at h
          · rename_i hb
            simp only [Bool.and_eq_true] at hb
            rw [lenA_eq] at hb
            rw [takeA_eq, dropA_eq] at h
            split at h
            · rename_i d ns hpk
              split at h
              · rename_i hns
                exact ⟨_, h, fun _ => store_row_ok hE ho (fun h => by rwa [hp] at h) hm hT (Nat.eq_of_beq_eq_true hb.1) (Nat.eq_of_beq_eq_true hb.2.1) (Nat.le_of_ble_eq_true hb.2.2.1) hb.2.2.2 hpk hns⟩
              · cases h
            · cases h
          · cases h
        · cases h
      · cases h
    · rename_i q c' j hp
      split at h
      · rename_i n off
        split at h
        · rename_i U cs hm
          split at h
          · rename_i cs' hs; exact ⟨_, h, fun _ => store_dyn_box hE ho hp hm hs⟩
          · cases h
        · cases h
      · rename_i n z i off
        split at h
        · rename_i e t xs hm
          split at h
          · rename_i cs' hz hs
            split at h
            · rename_i d ns hpk
              split at h
              · rename_i hns; exact ⟨_, h, fun _ => store_dyn_row hE ho hp hm (Nat.eq_of_beq_eq_true hz) hs hpk hns⟩
              · cases h
            · cases h
          · cases h
        · cases h
      · cases h
    · cases h
  · rename_i T x f ho
    split at h
    · rename_i off U hf
      split at h
      · rename_i hU
        obtain ⟨u, hu⟩ := isNone_ne hU
        split at h
        · rename_i n off hx; exact ⟨_, h, fun _ => fieldAddr_ptr_ok hE ho hf hu hx⟩
        · rename_i n z i off hx; exact ⟨_, h, fun _ => fieldAddr_elo_ok hE ho hf hu hx⟩
        · rename_i t y off hx; exact ⟨_, h, fun _ => fieldAddr_elr_ok hE ho hf hu hx⟩
        · cases h
      · cases h
    · cases h
  · rename_i T x f ho
    split at h
    · rename_i off U cs hf hx
      split at h
      · rename_i v hl; exact ⟨_, h, fun _ => field_ok hE ho hf hx hl⟩
      · cases h
    · cases h
  · rename_i T x i ho
    split at h
    · rename_i kk j hi
      split at h
      · rename_i e hT
        split at h
        · rename_i t ht
          split at h
          · rename_i xs ns hrow
            obtain ⟨hb, h⟩ := ite_some h
            simp only [Bool.and_eq_true, decide_eq_true_eq] at hb
            split at h
            · rename_i n hx
              split at h
              · rename_i hl; exact ⟨_, h, fun _ => index_own_ok hE ho hT ht hi hx hrow hl hb.1 hb.2⟩
              · rename_i hl; exact ⟨_, h, fun _ => index_ro_ok hE ho hT ht hi hrow (fun m hm => by rw [hx] at hm; injection hm with hm; subst hm; exact hl) (fun _ _ _ _ hm => by rw [hx] at hm; cases hm) hb.1 hb.2⟩
            · rename_i n z l hh hx
              split at h
              · rename_i e0 t0 ys hm0
                exact ⟨_, h, fun _ => index_vw_ok hE ho hT ht hi hx hrow hm0 hb.1 hb.2⟩
              · cases h
            · rename_i hno hno2
              exact ⟨_, h, fun _ => index_ro_ok hE ho hT ht hi hrow (fun m hm => absurd hm (hno m)) (fun m z l hh hm => hno2 m z l hh hm) hb.1 hb.2⟩
          · cases h
        · cases h
      · split at h
        · rename_i n U hA
          split at h
          · rename_i u hu
            obtain ⟨hb, h⟩ := ite_some h
            simp only [Bool.and_eq_true, decide_eq_true_eq] at hb
            split at h
            · split at h
              · rename_i m off hx; exact ⟨_, h, fun _ => index_arr_ok hE ho hA hu hi hb.1 hb.2 (.inl ⟨_, _, hx, rfl⟩)⟩
              · rename_i t y off hx; exact ⟨_, h, fun _ => index_arr_ok hE ho hA hu hi hb.1 hb.2 (.inr (.inl ⟨_, _, _, hx, rfl⟩))⟩
              · rename_i m z q off hx; exact ⟨_, h, fun _ => index_arr_ok hE ho hA hu hi hb.1 hb.2 (.inr (.inr (.inl ⟨_, _, _, _, hx, rfl⟩)))⟩
              · cases h
            · split at h
              · rename_i h1
                have h1 := Nat.eq_of_beq_eq_true h1
                split at h
                · rename_i m off hx; exact ⟨_, h, fun _ => index_arr_ok hE ho hA hu hi hb.1 hb.2 (.inr (.inr (.inr ⟨h1, .inl ⟨_, _, hx, rfl⟩⟩)))⟩
                · rename_i t y off hx; exact ⟨_, h, fun _ => index_arr_ok hE ho hA hu hi hb.1 hb.2 (.inr (.inr (.inr ⟨h1, .inr (.inl ⟨_, _, _, hx, rfl⟩)⟩)))⟩
                · rename_i m z q off hx; exact ⟨_, h, fun _ => index_arr_ok hE ho hA hu hi hb.1 hb.2 (.inr (.inr (.inr ⟨h1, .inr (.inr ⟨_, _, _, _, hx, rfl⟩)⟩)))⟩
                · cases h
              · cases h
          · cases h
        · cases h
    · cases h
  · rename_i T x i ho
    split at h
    · rename_i kk j cs hi hx
      split at h
      · rename_i n U hA
        split at h
        · rename_i u hu
          obtain ⟨hb, h⟩ := ite_some h
          simp only [Bool.and_eq_true, decide_eq_true_eq] at hb
          split at h
          · split at h
            · rename_i v hl; exact ⟨_, h, fun _ => index_ok hE ho hA hu hi hx hb.1 hb.2 hl⟩
            · cases h
          · split at h
            · rename_i h1
              split at h
              · rename_i v hl; exact ⟨_, h, fun _ => index_dyn_ok hE ho hA hu (Nat.eq_of_beq_eq_true h1) hi hx hb.1 hb.2 hl⟩
              · cases h
            · cases h
        · cases h
      · cases h
    · cases h
  · rename_i T x y ho
    split at h
    · rename_i n m hx hy
      split at h
      · rename_i e hb hT
        simp only [Bool.and_eq_true, Bool.not_eq_true'] at hb
        obtain ⟨d, hd⟩ := isNone_ne hb.2
        split at h
        · rename_i t ht
          obtain ⟨hnm, h1⟩ := ite_some h
          subst hnm
          obtain ⟨hl, h2⟩ := ite_some h1
          simp only [Bool.and_eq_true, decide_eq_true_eq] at hl
          exact ⟨_, h2, fun _ => make_ok hE ho hd hx hy hT ht hl.1 (Nat.le_of_ble_eq_true hl.2)⟩
        · cases h
      · cases h
    · cases h
  · rename_i T n ps ho
    split at h
    · rename_i e hb hT
      simp only [Bool.and_eq_true, Bool.not_eq_true'] at hb
      obtain ⟨d, hd⟩ := isNone_ne hb.2
      split at h
      · rename_i t ht
        split at h
        · rename_i xs ns hel
          split at h
          · rename_i hl
            simp only [Bool.and_eq_true] at hl
            rw [lenL_eq] at hl
            exact ⟨_, h, fun _ => buildSlice_ok hE ho hd hT ht hel (Nat.eq_of_beq_eq_true hl.1) (Nat.le_of_ble_eq_true hl.2)⟩
          · cases h
        · cases h
      · cases h
    · cases h
  · rename_i T ps ho
    split at h
    · rename_i t ht
      split at ht
      · rename_i hA
        split at h
        · rename_i cs hc
          split at h
          · exact ⟨_, h, fun _ => build_ok hE ho ht hA hc⟩
          · split at h
            rename_i cs' us b' hz
            split at h
            · rename_i hb'; exact ⟨_, h, fun _ => build_z hE ho ht hA hc hz (Nat.le_of_ble_eq_true hb')⟩
            · cases h
        · cases h
      · cases ht
    · cases h
  · rename_i T x lo hi ho
    split at h
    · rename_i e hT
      split at h
      · rename_i t ht
        split at h
        · rename_i xs ns hrow
          split at h
          · rename_i l hh hlo hhi
            obtain ⟨hb, h1⟩ := ite_some h
            clear h
            have h := h1
            clear h1
            simp only [Bool.and_eq_true, decide_eq_true_eq] at hb
            split at h
            · rename_i d hd
              split at h
              · rename_i m hhint hx
                split at h
                · rename_i e' t' ys hm
                  simp only [loA] at hlo
                  injection hlo with hlo; subst hlo
                  exact ⟨_, h, fun _ => slice_own_ok hE ho hT ht hx hrow (by simp [liveN, hm]) hhi hb.2.1 hb.2.2⟩
                · cases h
              · rename_i m hhint hx
                split at h
                · rename_i e' t' ys hm
                  exact ⟨_, h, fun _ => slice_view_ok hE ho hT ht hx hrow (by simp [liveN, hm]) hlo hhi hb.1 hb.2.1 hb.2.2⟩
                · exact ⟨_, h, fun _ => slice_ro_ok hE ho hT ht hrow hlo hhi hb.1 hb.2.1 hb.2.2⟩
              · rename_i hx
                exact ⟨_, h, fun _ => slice_nil_ok hE ho hT ht hx hrow hlo hhi hb.1 hb.2.1 hb.2.2⟩
              · exact ⟨_, h, fun _ => slice_ro_ok hE ho hT ht hrow hlo hhi hb.1 hb.2.1 hb.2.2⟩
            · cases h
          · cases h
        · cases h
      · cases h
    · cases h
  · rename_i cl ho
    split at h
    · rename_i bi hc; exact builtin_ok hE ho hc h
    · rename_i f hc
      split at h
      · rename_i g caps hf; exact callA_ok hE ho hc hf h
      · cases h
    · cases h
  · rename_i T q ho
    split at h
    · rename_i k v hb hT
      simp only [Bool.and_eq_true] at hb
      have := isNone_eq hb.2; subst this
      split at h
      · exact ⟨_, h, fun _ => makeMap_ok hE ho hT⟩
      · cases h
    · cases h
  · rename_i T x i cok ho
    split at h
    · rename_i n hx
      split at h
      · rename_i T' ak tk av tv es hm
        split at h
        · rename_i hB
          simp only [Bool.and_eq_true] at hB
          have := Nat.eq_of_beq_eq_true hB.1; subst this
          split at h
          · rename_i d ns hp
            split at h
            · exact ⟨_, h, fun _ => lookup_ok hE ho hx hm hB.2 hp rfl (.inl ⟨rfl, rfl⟩)⟩
            · exact ⟨_, h, fun _ => lookup_ok hE ho hx hm hB.2 hp rfl (.inr ⟨rfl, rfl⟩)⟩
          · cases h
        · cases h
      · cases h
    · cases h
  · rename_i T x i y ho
    exact mapA_ok hE (.inr ho) h
  · rename_i T x i y ho
    exact mapA_ok hE (.inl ho) h
  · rename_i g first caps ho
    split at h
    · rename_i hf; exact ⟨_, h, fun _ => makeFunc_ok ho hf⟩
    · cases h
  · cases h
end
end Go.Proofs.Ytinopkpnlibopaa.Ab
