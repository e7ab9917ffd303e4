/- Part of a proof about the given program: the abstract machine, the printed functions, the plain laws. (JN8, JN9, JN10, JN11, JN12, JLF29, JLF30, JLF10, JLF14, JLF19, JLF15, JLF31, JLF32, JLF33, JLF20, JLF27, JLF28, JLF21, JLF34, JLF35, JLF36, JLF22, JLF37, JLF23, JLF24, JLF25, JLF26) -/
import Derived.Test.YtbhjnlilfidalaaDoorA4
set_option linter.all false
set_option linter.unusedSectionVars false
set_option linter.unusedVariables false
set_option linter.unusedSimpArgs false

/- The printed lexer: a word hangs on its own bytes alone. -/
namespace Go.AM.Seat
open Go Go.AM
set_option linter.unusedVariables false

/-- A text that is empty or begins with a blank. -/
def Blank (v : Str) : Prop := v = [] ∨ ∃ r, v = 32 :: r

theorem takeWhile_app {p : UInt8 → Bool} {w v : Str} (h : ((w ++ v).takeWhile p).length ≤ w.length) : (w ++ v).takeWhile p = w.takeWhile p := by
  induction w with
  | nil =>
    simp only [List.nil_append, List.length_nil, Nat.le_zero, List.length_eq_zero_iff] at h ⊢
    rw [h]; rfl
  | cons c w ih =>
    rw [List.cons_append, List.takeWhile_cons] at h ⊢
    rw [List.takeWhile_cons]
    split
    · rename_i hp
      rw [if_pos hp] at h
      simp only [List.length_cons, Nat.add_le_add_iff_right] at h
      rw [ih h]
    · rfl

theorem takeWhile_blank {p : UInt8 → Bool} (hp : p 32 = false) {w v : Str} (hv : Blank v) : (w ++ v).takeWhile p = w.takeWhile p := by
  apply takeWhile_app
  induction w with
  | nil =>
    rcases hv with rfl | ⟨r, rfl⟩
    · simp
    · simp [List.takeWhile_cons, hp]
  | cons c w ih =>
    rw [List.cons_append, List.takeWhile_cons]
    split
    · simp only [List.length_cons]; omega
    · simp

theorem takeWhile_in {p : UInt8 → Bool} {w v v' : Str} (h : ((w ++ v).takeWhile p).length < w.length) : (w ++ v').takeWhile p = (w ++ v).takeWhile p := by
  induction w with
  | nil => simp at h
  | cons c w ih =>
    simp only [List.cons_append, List.takeWhile_cons] at h ⊢
    split
    · rename_i hp
      rw [if_pos hp] at h
      simp only [List.length_cons, Nat.add_lt_add_iff_right] at h
      rw [ih h]
    · rfl

theorem bt_app {w v v' : Str} {i : Int} (h : i < w.length) : bt (w ++ v') i = bt (w ++ v) i := by
  unfold bt
  split
  · simp only [List.getD_eq_getElem?_getD]
    rw [List.getElem?_append_left (by omega), List.getElem?_append_left (by omega)]
  · rfl

theorem bt_end {w v : Str} (hv : Blank v) : bt (w ++ v) w.length = 32 ∨ bt (w ++ v) w.length = 0 := by
  unfold bt
  rw [if_pos (by omega)]
  simp only [List.getD_eq_getElem?_getD, Int.toNat_natCast]
  rw [List.getElem?_append_right (Nat.le_refl _), Nat.sub_self]
  rcases hv with rfl | ⟨r, rfl⟩
  · right; rfl
  · left; rfl

theorem drop_app {w v : Str} {n : Nat} (h : n ≤ w.length) : (w ++ v).drop n = w.drop n ++ v := List.drop_append_of_le_length h
theorem take_app {w v : Str} {n : Nat} (h : n ≤ w.length) : (w ++ v).take n = w.take n := List.take_append_of_le_length h

/-! ### Numbers -/

theorem numFrom_app {w v v' : Str} (h : 0 < w.length) : numFrom (w ++ v') = numFrom (w ++ v) := by
  unfold numFrom; rw [bt_app (v := v) (v' := v') (by omega)]

theorem numDigits_app {w v v' : Str} (hv : Blank v') (h : 0 < w.length) (hl : numLen (w ++ v) ≤ w.length) : numDigits (w ++ v') = numDigits (w ++ v) := by
  have hf : numFrom (w ++ v) ≤ w.length := by unfold numLen at hl; omega
  unfold numDigits
  rw [numFrom_app (v := v) h, drop_app hf, drop_app hf, takeWhile_blank (by decide) hv, takeWhile_app]
  have : numFrom (w ++ v) + (numDigits (w ++ v)).length ≤ w.length := hl
  unfold numDigits at this
  rw [drop_app hf] at this
  rw [List.length_drop]; omega

theorem numLen_app {w v v' : Str} (hv : Blank v') (h : 0 < w.length) (hl : numLen (w ++ v) ≤ w.length) : numLen (w ++ v') = numLen (w ++ v) := by
  unfold numLen; rw [numFrom_app (v := v) h, numDigits_app hv h hl]

theorem numVal2_app {w v v' : Str} (hv : Blank v') (h : 0 < w.length) (hl : numLen (w ++ v) ≤ w.length) : numVal2 (w ++ v') = numVal2 (w ++ v) := by
  unfold numVal2; rw [numDigits_app hv h hl, bt_app (v := v) (v' := v') (by omega)]

theorem numLen_two {t : Str} (h : bt t 0 = 95) (h1 : isDig (bt t 1) = true) : 2 ≤ numLen t := by
  unfold numLen numDigits numFrom
  rw [if_pos h]
  match t with
  | [] => simp [bt] at h
  | [a] => simp [bt, isDig] at h1
  | a :: b :: r =>
    have : bt (a :: b :: r) 1 = b.toNat := by simp [bt]
    rw [this] at h1
    simp only [List.drop_succ_cons, List.drop_zero]
    rw [List.takeWhile_cons, if_pos (by simpa [dig] using h1)]
    simp; omega

theorem beginsN_app {w v v' : Str} (h : beginsN (w ++ v) = true) (hl : numLen (w ++ v) ≤ w.length) : beginsN (w ++ v') = true := by
  have hp := numLen_pos h
  unfold beginsN at h ⊢
  rw [bt_app (v := v) (v' := v') (i := 0) (by omega)]
  simp only [Bool.or_eq_true, Bool.and_eq_true, beq_iff_eq] at h ⊢
  rcases h with h | ⟨h, h1⟩
  · exact .inl h
  · have := numLen_two h h1
    rw [bt_app (v := v) (v' := v') (i := 1) (by omega)]
    exact .inr ⟨h, h1⟩

theorem numsGo_len {f : Nat} {t : Str} {i : Nat} {l l' : List Int} {k : Nat} (hb : beginsN t = true) (h : numsGo f t i l = .ok (l', k)) : i + numLen t ≤ k := by
  cases f with
  | zero => simp [numsGo] at h
  | succ f =>
    unfold numsGo at h
    split at h
    · simp at h
    · split at h
      · simp only [Except.ok.injEq, Prod.mk.injEq] at h; omega
      · rename_i h3
        simp only [not_or, Bool.not_eq_false] at h3
        have := numsGo_ok f _ _ _ _ _ h3.2 h
        omega

/-- Numbers come to an end behind n bytes. -/
def NumStop (t : Str) : Prop := (t.takeWhile blank).length = 0 ∨ beginsN (t.drop (t.takeWhile blank).length) = false

theorem numsGo_same : ∀ (f f' : Nat) (w v v' : Str) (i : Nat) (l l' : List Int) (k : Nat), Blank v' → beginsN (w ++ v) = true → numsGo f (w ++ v) i l = .ok (l', i + k) → k ≤ w.length → NumStop ((w ++ v').drop k) →
    w.length + v'.length < f' → numsGo f' (w ++ v') i l = .ok (l', i + k)
  | 0, f', w, v, v', i, l, l', k, hv, hb, h, hk, hs, hf => by simp [numsGo] at h
  | f + 1, 0, w, v, v', i, l, l', k, hv, hb, h, hk, hs, hf => by omega
  | f + 1, f' + 1, w, v, v', i, l, l', k, hv, hb, h, hk, hs, hf => by
    have hn := numsGo_len hb h
    have hp := numLen_pos hb
    have hw : 0 < w.length := by omega
    have e1 := numLen_app (v := v) (v' := v') hv hw (by omega)
    have e2 := numVal2_app (v := v) (v' := v') hv hw (by omega)
    unfold numsGo at h ⊢
    rw [e1, e2]
    split at h
    · simp at h
    rename_i hok
    rw [if_neg hok]
    split at h
    · simp only [Except.ok.injEq, Prod.mk.injEq] at h
      have hkk : k = numLen (w ++ v) := by omega
      rw [hkk] at hs
      unfold NumStop at hs
      rw [List.drop_drop] at hs
      rw [if_pos hs]
      simp only [Except.ok.injEq, Prod.mk.injEq]
      exact h
    · rename_i h3
      have h3' := h3
      simp only [not_or, Bool.not_eq_false] at h3'
      have hr := numsGo_len h3'.2 h
      have hp2 := numLen_pos h3'.2
      have hle : numLen (w ++ v) ≤ w.length := by omega
      have hbl : ((w.drop (numLen (w ++ v)) ++ v).takeWhile blank).length < (w.drop (numLen (w ++ v))).length := by
        rw [← drop_app hle, List.length_drop]; omega
      have e3 : ((w ++ v').drop (numLen (w ++ v))).takeWhile blank = ((w ++ v).drop (numLen (w ++ v))).takeWhile blank := by
        rw [drop_app hle, drop_app hle]; exact takeWhile_in hbl
      rw [e3]
      generalize hB : (((w ++ v).drop (numLen (w ++ v))).takeWhile blank).length = b at *
      have hle2 : numLen (w ++ v) + b ≤ w.length := by omega
      rw [drop_app hle2] at h3' h hr hp2
      have hb2 := beginsN_app (v' := v') h3'.2 (by rw [List.length_drop]; omega)
      rw [drop_app hle2, if_neg (by simp only [not_or, Bool.not_eq_false]; exact ⟨h3'.1, hb2⟩)]
      have hkk : i + k = i + numLen (w ++ v) + b + (k - numLen (w ++ v) - b) := by omega
      rw [hkk] at h ⊢
      refine numsGo_same f f' _ v v' _ _ _ _ hv h3'.2 h (by rw [List.length_drop]; omega) ?_ ?_
      · rw [← drop_app hle2, List.drop_drop]
        rw [show numLen (w ++ v) + b + (k - numLen (w ++ v) - b) = k from by omega]
        exact hs
      · rw [List.length_drop]; omega

theorem numsGo_stop : ∀ (f : Nat) (t : Str) (i : Nat) (l l' : List Int) (k : Nat), beginsN t = true → numsGo f t i l = .ok (l', i + k) → NumStop (t.drop k)
  | 0, t, i, l, l', k, hb, h => by simp [numsGo] at h
  | f + 1, t, i, l, l', k, hb, h => by
    have hn := numsGo_len hb h
    unfold numsGo at h
    split at h
    · simp at h
    split at h
    · rename_i h3
      simp only [Except.ok.injEq, Prod.mk.injEq] at h
      have hkk : k = numLen t := by omega
      rw [hkk]
      unfold NumStop
      rw [List.drop_drop]
      exact h3
    · rename_i h3
      simp only [not_or, Bool.not_eq_false] at h3
      have hr := numsGo_len h3.2 h
      have := numsGo_stop f _ _ _ _ (k - numLen t - ((t.drop (numLen t)).takeWhile blank).length) h3.2 (by rw [h]; congr 2; omega)
      rw [List.drop_drop] at this
      rw [show numLen t + ((t.drop (numLen t)).takeWhile blank).length + (k - numLen t - ((t.drop (numLen t)).takeWhile blank).length) = k from by omega] at this
      exact this

/-! ### Quoted texts -/

theorem oneN_quote {b : List Int} {k : Int} (h : oneN b = (39, k)) (hk : k ≠ 0) : k = 1 := by
  cases b with
  | nil => simp [oneN] at h
  | cons c r =>
    rw [oneN_cons] at h
    split at h
    · simp only [Prod.mk.injEq] at h; omega
    split at h
    · simp only [Prod.mk.injEq] at h; omega
    cases hc : contGo (r.take ((firstN c).1.toNat - 1)) (firstN c).2 with
    | error r' =>
      rw [hc] at h
      have he : ∀ m n r', contGo m n = .error r' → r' = (0, 0) := by
        intro m
        induction m with
        | nil => intro n r' h; simp [contGo] at h
        | cons x m ih =>
          intro n r' h
          simp only [contGo] at h
          split at h
          · simp only [Except.error.injEq] at h; exact h.symm
          · exact ih _ _ h
      rw [he _ _ _ hc] at h
      simp [oneRest] at h
    | ok n =>
      rw [hc] at h
      simp only [oneRest] at h
      split at h
      · simp at h
      split at h
      · simp at h
      · rename_i h1 h2
        simp only [Prod.mk.injEq] at h
        simp only [ne_eq, Decidable.not_not] at h2
        rw [h.1] at h2
        rw [← h.2, ← h2]; rfl

theorem textGo_same : ∀ (f f' : Nat) (w v v' : Str) (i : Nat) (l : List Int) (r : Arr × Int × Fault), Blank v' → textGo f (w ++ v) i l = .error r → r.2.2.err = 0 → r.2.1 ≤ i + w.length →
    w.length + v'.length < f' → textGo f' (w ++ v') i l = .error r
  | 0, f', w, v, v', i, l, r, hv, h, hr, hk, hf => by simp [textGo] at h
  | f + 1, 0, w, v, v', i, l, r, hv, h, hr, hk, hf => by omega
  | f + 1, f' + 1, w, v, v', i, l, r, hv, h, hr, hk, hf => by
    have hres := (textGo_res _ _ _ _ _ h).1 hr
    have hw : 0 < w.length := by omega
    have hk1 := oneN_k ((w ++ v).map u8I)
    unfold textGo at h ⊢
    rw [if_neg (by intro e; have := (List.append_eq_nil_iff.1 e).1; rw [this] at hw; simp at hw)]
    split at h
    · simp at h
    split at h
    · simp only [Except.error.injEq] at h; subst h; simp at hr
    rename_i hne hk0
    -- the sign is the same
    have hsame : (oneN ((w ++ v).map u8I)).2 ≤ w.length → oneN ((w ++ v').map u8I) = oneN ((w ++ v).map u8I) := by
      intro hle
      refine oneN_stable hk0 ?_ (by simp only [List.length_map, List.length_append]; omega)
      generalize (oneN ((w ++ v).map u8I)).2 = K at *
      rw [List.map_append, List.map_append, List.take_append_of_le_length (by simp only [List.length_map]; omega), List.take_append_of_le_length (by simp only [List.length_map]; omega)]
    split at h
    · rename_i h39
      have h1 : (oneN ((w ++ v).map u8I)).2 = 1 := oneN_quote (by rw [← h39]) hk0
      rw [hsame (by omega), if_neg hk0, if_pos h39]
      split at h
      · rename_i hq
        simp only [Except.error.injEq] at h
        have : bt (w ++ v') 1 ≠ 39 := by
          by_cases hw1 : 1 < w.length
          · rw [bt_app (v := v) (v' := v') (by omega)]; exact hq
          · have hw1 : w.length = 1 := by omega
            have := bt_end (w := w) hv
            rw [hw1] at this
            simp only [Int.natCast_one] at this
            omega
        rw [if_pos this, h]
      · rename_i hq
        have hres2 := (textGo_res _ _ _ _ _ h).1 hr
        rw [bt_app (v := v) (v' := v') (by omega), if_neg hq, drop_app (by omega)]
        rw [drop_app (by omega)] at h
        exact textGo_same f f' _ v v' _ _ _ hv h hr (by rw [List.length_drop]; omega) (by rw [List.length_drop]; omega)
    · rename_i h39
      split at h
      · simp only [Except.error.injEq] at h; subst h; simp at hr
      · rename_i hcond
        have hres2 := (textGo_res _ _ _ _ _ h).1 hr
        have hle : (oneN ((w ++ v).map u8I)).2 ≤ w.length := by omega
        rw [hsame hle, if_neg hk0, if_neg h39, if_neg hcond, drop_app (by omega)]
        rw [drop_app (by omega)] at h
        exact textGo_same f f' _ v v' _ _ _ hv h hr (by rw [List.length_drop]; omega) (by rw [List.length_drop]; omega)
end Go.AM.Seat

/- The printed lexer: a word hangs on its own bytes alone (names, the table, all). -/
namespace Go.AM.Seat
open Go Go.AM
set_option linter.unusedVariables false

theorem nameLen_app {w v v' : Str} (hv : Blank v') (h : 0 < w.length) (hl : nameLen (w ++ v) ≤ w.length) : nameLen (w ++ v') = nameLen (w ++ v) := by
  unfold nameLen at hl ⊢
  rw [drop_app (by omega)] at hl ⊢
  rw [drop_app (by omega), takeWhile_blank (by decide) hv, takeWhile_app (by rw [List.length_drop]; omega)]

theorem name_same {w v v' : Str} (hv : Blank v') (h : 0 < w.length) (hk : (nameN (w ++ v)).1.text.length ≤ w.length) : nameN (w ++ v') = nameN (w ++ v) := by
  have hne : w ++ v ≠ [] := by intro e; have := (List.append_eq_nil_iff.1 e).1; rw [this] at h; simp at h
  have hL := nameLen_le hne
  have hl : nameLen (w ++ v) ≤ w.length := by
    unfold nameN at hk
    split at hk
    · simp only [List.length_take] at hk; omega
    · split at hk <;> simp only [List.length_take] at hk <;> omega
  have e1 := nameLen_app (v := v) hv h hl
  have e2 : (w ++ v').take (nameLen (w ++ v)) = (w ++ v).take (nameLen (w ++ v)) := by rw [take_app hl, take_app hl]
  unfold nameN at hk ⊢
  rw [e1, e2]
  by_cases hd : bt (w ++ v) (nameLen (w ++ v)) = 46 ∨ bt (w ++ v) (nameLen (w ++ v)) = 58
  · rw [if_pos hd] at hk
    have hin := bt_pos_len (s := w ++ v) (i := nameLen (w ++ v)) (by omega) (by omega)
    simp only [List.length_take] at hk
    have hlt : nameLen (w ++ v) + 1 ≤ w.length := by omega
    rw [if_pos hd, bt_app (v := v) (v' := v') (by omega), if_pos hd, take_app hlt, take_app hlt]
  · have hd' : ¬ (bt (w ++ v') (nameLen (w ++ v)) = 46 ∨ bt (w ++ v') (nameLen (w ++ v)) = 58) := by
      by_cases hlt : nameLen (w ++ v) < w.length
      · rw [bt_app (v := v) (v' := v') (by omega)]; exact hd
      · have := bt_end (w := w) hv
        rw [show nameLen (w ++ v) = w.length from by omega]
        omega
    rw [if_neg hd, if_neg hd']

theorem hasPre_app {w v v' p : Str} (hv : Blank v') (hp : (32 : UInt8) ∉ p) (h : hasPre (w ++ v') p = true) : p.length ≤ w.length ∧ hasPre (w ++ v) p = true := by
  rw [hasPre_iff] at h
  have hle : p.length ≤ w.length := by
    by_cases hlt : p.length ≤ w.length
    · exact hlt
    · rcases hv with rfl | ⟨r, rfl⟩
      · have := congrArg List.length h
        simp only [List.length_take, List.append_nil] at this; omega
      · exfalso
        apply hp
        rw [← h]
        have : ((w ++ 32 :: r).take p.length)[w.length]? = some 32 := by
          rw [List.getElem?_take, if_pos (by omega), List.getElem?_append_right (Nat.le_refl _), Nat.sub_self]; rfl
        exact List.mem_of_getElem? this
  refine ⟨hle, ?_⟩
  rw [hasPre_iff, take_app hle]
  rw [take_app hle] at h
  exact h

theorem hasPre_app2 {w v v' p : Str} (hle : p.length ≤ w.length) (h : hasPre (w ++ v) p = true) : hasPre (w ++ v') p = true := by
  rw [hasPre_iff, take_app hle] at *
  exact h

theorem wordToks_32 : ∀ y ∈ wordToks, (32 : UInt8) ∉ y.text := by decide +kernel

theorem findGo_same {w v v' : Str} (hv : Blank v') : ∀ (m : List Token) (r : Token × Int × Fault), (∀ y ∈ m, (32 : UInt8) ∉ y.text) → findGo (w ++ v) m = .error r → r.2.2.err = 0 → r.2.1 ≤ w.length → findGo (w ++ v') m = .error r
  | [], r, hm, h, hr, hk => by simp [findGo] at h
  | y :: m, r, hm, h, hr, hk => by
    unfold findGo at h ⊢
    by_cases hp : hasPre (w ++ v) y.text = true
    · rw [if_pos hp] at h
      split at h
      · simp only [Except.error.injEq] at h; subst h; simp at hr
      · rename_i h1
        simp only [Except.error.injEq] at h
        have hle : y.text.length ≤ w.length := by subst h; simp only at hk; omega
        rw [if_pos (hasPre_app2 hle hp), if_neg ?_, h]
        rintro ⟨h2, h3⟩
        apply h1
        refine ⟨h2, ?_⟩
        rw [h2] at hle
        by_cases hl : 2 < w.length
        · rw [bt_app (v := v') (v' := v) (by omega)]; exact h3
        · have hl : w.length = 2 := by simp at hle; omega
          have := bt_end (w := w) hv
          rw [hl] at this
          rcases this with e | e <;> rw [show ((2 : Nat) : Int) = 2 from rfl] at e <;> rw [e] at h3 <;> simp [isDig] at h3
    · rw [if_neg hp] at h
      have hp' : ¬ hasPre (w ++ v') y.text = true := fun h' => hp (hasPre_app hv (hm y (List.mem_cons_self)) h').2
      rw [if_neg hp']
      exact findGo_same hv m r (fun y hy => hm y (List.mem_cons_of_mem _ hy)) h hr hk

theorem wordToks_ascii : ∀ y ∈ wordToks, bt y.text 0 < 128 ∧ bt y.text 0 ≠ 95 ∧ y.text ≠ [] ∧ bt y.text 0 ≠ 32 := by decide +kernel

theorem bt_hasPre {t p : Str} (h : hasPre t p = true) (hne : p ≠ []) : bt t 0 = bt p 0 := by
  have hl := hasPre_le h
  rw [hasPre_iff] at h
  have hp : 0 < p.length := List.length_pos_iff.2 hne
  rw [← h]
  unfold bt
  simp only [Int.le_refl, if_true, List.getD_eq_getElem?_getD, Int.toNat_zero]
  rw [List.getElem?_take, if_pos hp]

/-- A good word begins with an ASCII byte that is no blank. -/
theorem wordN_ascii {t : Str} (h : (wordN t).2.2.err = 0) : bt t 0 < 128 ∧ bt t 0 ≠ 32 := by
  unfold wordN at h
  split at h
  · simp at h
  split at h
  · rename_i hb
    unfold beginsN at hb
    simp only [Bool.or_eq_true, Bool.and_eq_true, beq_iff_eq] at hb
    rcases hb with hb | ⟨hb, _⟩
    · simp only [isDig, Bool.and_eq_true, decide_eq_true_eq] at hb; omega
    · omega
  split at h
  · omega
  split at h
  · rename_i hl
    simp only [isLet, Bool.and_eq_true, decide_eq_true_eq] at hl; omega
  · cases hg : findGo t wordToks with
    | ok u => rw [hg] at h; simp at h
    | error r =>
      have := findGo_res _ _ hg
      have h2 := wordToks_ascii _ this.1
      rw [bt_hasPre this.2.1 h2.2.2.1]
      exact ⟨h2.1, h2.2.2.2⟩

theorem oneN_ascii {t : Str} (h : bt t 0 < 128) (hne : t ≠ []) : (oneN (t.map u8I)).2 = 1 := by
  cases t with
  | nil => exact absurd rfl hne
  | cons c r =>
    have hc : (c.toNat : Int) < 128 := by simpa [bt] using h
    have hu : u8I c = (c.toNat : Int) := rfl
    have hf : firstN (u8I c) = (1, (c.toNat : Int)) := by
      unfold firstN
      rw [hu, if_pos hc, w64_id (by omega) (by omega)]
    rw [List.map_cons, oneN_cons, hf]
    simp only [Int.reduceToNat, Nat.sub_self, List.take_zero, contGo, oneRest]
    rw [if_neg (by decide), if_neg (by simp only [List.length_cons]; omega)]
    have hg : goodN (c.toNat : Int) = true := by
      unfold goodN
      simp; omega
    rw [if_neg (by rw [hg]; decide)]
    have hw : widthN (c.toNat : Int) = 1 := by unfold widthN; rw [if_pos hc]
    rw [if_neg (by rw [hw]; decide)]

/-- What a good word is, where what stands behind it is a blank. -/
theorem wordN_same {w v v' : Str} (hv : Blank v') (hne : w ++ v ≠ []) (hg : (wordN (w ++ v)).2.2.err = 0) (hk : (wordN (w ++ v)).2.1 ≤ w.length)
    (hs : beginsN (w ++ v) = true → ∀ k : Nat, (wordN (w ++ v)).2.1 = k → NumStop ((w ++ v').drop k)) : wordN (w ++ v') = wordN (w ++ v) := by
  have hk1 := ((wordN_res hne).1 hg).1
  have hw : 0 < w.length := by omega
  have hne' : w ++ v' ≠ [] := by intro e; have := (List.append_eq_nil_iff.1 e).1; rw [this] at hw; simp at hw
  have hb0 : bt (w ++ v') 0 = bt (w ++ v) 0 := bt_app (by omega)
  have hA := (wordN_ascii hg).1
  have o1 := oneN_ascii hA hne
  have o2 := oneN_ascii (by rw [hb0]; exact hA) hne'
  unfold wordN at hg hk hs ⊢
  rw [o1] at hg hk hs ⊢
  rw [o2]
  simp only [Int.reduceEq, if_false] at hg hk hs ⊢
  rw [hb0]
  by_cases hb : beginsN (w ++ v) = true
  · rw [if_pos hb] at hg hk hs ⊢
    cases hN : numsGo ((w ++ v).length + 1) (w ++ v) 0 [] with
    | error i => rw [hN] at hg; simp at hg
    | ok r =>
      obtain ⟨l, k⟩ := r
      rw [hN] at hk hs
      simp only at hk hs
      have hkn : k ≤ w.length := by omega
      have hN' : numsGo ((w ++ v).length + 1) (w ++ v) 0 [] = .ok (l, 0 + k) := by rw [hN, Nat.zero_add]
      have hlen := numsGo_len hb hN'
      have hb' := beginsN_app (v' := v') hb (by omega)
      rw [if_pos hb']
      have := numsGo_same _ ((w ++ v').length + 1) w v v' 0 [] l k hv hb hN' hkn (hs hb k rfl) (by rw [List.length_append]; omega)
      rw [this, Nat.zero_add]
  · have hb' : ¬ beginsN (w ++ v') = true := by
      intro h'
      apply hb
      unfold beginsN at h' ⊢
      rw [hb0] at h'
      simp only [Bool.or_eq_true, Bool.and_eq_true, beq_iff_eq] at h' ⊢
      rcases h' with h' | ⟨h1, h2⟩
      · exact .inl h'
      · refine .inr ⟨h1, ?_⟩
        by_cases hl : 1 < w.length
        · rw [bt_app (v := v') (v' := v) (by omega)]; exact h2
        · have hl : w.length = 1 := by omega
          have := bt_end (w := w) hv
          rw [hl] at this
          rcases this with e | e <;> rw [show ((1 : Nat) : Int) = 1 from rfl] at e <;> rw [e] at h2 <;> simp [isDig] at h2
    rw [if_neg hb] at hg hk ⊢
    rw [if_neg hb']
    by_cases hq : bt (w ++ v) 0 = 39
    · rw [if_pos hq] at hg hk ⊢
      rw [if_pos hq]
      simp only at hg hk
      have hT : textN (w ++ v') = textN (w ++ v) := by
        unfold textN at hg hk ⊢
        cases hN : textGo ((w ++ v).length + 1) ((w ++ v).drop 1) 1 [] with
        | ok u => rw [hN] at hg; simp at hg
        | error r =>
          rw [hN] at hg hk
          simp only at hg hk
          rw [drop_app (by omega)] at hN
          have := textGo_same _ ((w ++ v').length + 1) _ v v' 1 [] r hv hN hg (by rw [List.length_drop]; omega) (by rw [List.length_drop, List.length_append]; omega)
          rw [drop_app (by omega), this]
      rw [hT]
    rw [if_neg hq] at hg hk ⊢
    rw [if_neg hq]
    by_cases hl : isLet (bt (w ++ v) 0) = true
    · rw [if_pos hl] at hg hk ⊢
      rw [if_pos hl]
      by_cases hn : (nameN (w ++ v)).2 = false
      · rw [if_pos hn] at hg; simp at hg
      · rw [if_neg hn] at hk
        simp only at hk
        have hN := name_same (v := v) (v' := v') hv hw (by omega)
        rw [hN]
    rw [if_neg hl] at hg hk ⊢
    rw [if_neg hl]
    cases hF : findGo (w ++ v) wordToks with
    | ok u => rw [hF] at hg; simp at hg
    | error r =>
      rw [hF] at hg hk
      simp only at hg hk
      rw [findGo_same hv wordToks r wordToks_32 hF hg hk]
end Go.AM.Seat

/- The law JlexBlanks, over the printed functions. -/
namespace Go.AM.Seat
open Go Go.AM
set_option linter.unusedVariables false

def blanks (n : Nat) : Str := List.replicate n 32
theorem blanks_succ (n : Nat) : blanks (n + 1) = 32 :: blanks n := rfl
theorem blanks_length (n : Nat) : (blanks n).length = n := by simp [blanks]
theorem blanks_Blank (n : Nat) : Blank (blanks n) := by
  cases n with
  | zero => exact .inl rfl
  | succ n => exact .inr ⟨_, rfl⟩
theorem bt_cons0 (c : UInt8) (r : Str) : bt (c :: r) 0 = c.toNat := by simp [bt]
theorem takeWhile_blanks (n : Nat) (r : Str) : (blanks n ++ r).takeWhile blank = blanks n ++ r.takeWhile blank := by
  induction n with
  | zero => rfl
  | succ n ih =>
    rw [blanks_succ, List.cons_append, List.takeWhile_cons, if_pos (by decide), ih]; rfl

/-! ### Tokens that stand elsewhere -/

def sh (d : Int) (t : Token) : Token := Token.mk t.kind t.text t.lit (t.at_ + d)
def shE (d : Int) : Except (List Token × Fault) (List Token) → Except (List Token × Fault) (List Token)
  | .error r => .error (r.1, Fault.mk r.2.err (r.2.at_ + d) r.2.why)
  | .ok l => .ok (l.map (sh d))

theorem lexGo_shift (d : Nat) : ∀ (f : Nat) (t : Str) (i : Nat) (l : List Token), lexGo f t (i + d) (l.map (sh d)) = shE d (lexGo f t i l)
  | 0, t, i, l => rfl
  | f + 1, t, i, l => by
    unfold lexGo
    split
    · rfl
    split
    · rw [show i + d + 1 = i + 1 + d from by omega]; exact lexGo_shift d f _ _ _
    split
    · rfl
    rw [List.length_map]
    split
    · simp [shE]
    split
    · simp only [shE]
      congr 3
      omega
    · have := lexGo_shift d f (t.drop (wordN t).2.1.toNat) (i + (wordN t).2.1.toNat) (l ++ [Token.mk (wordN t).1.kind (wordN t).1.text (wordN t).1.lit i])
      rw [← this, List.map_append]
      rw [show i + d + (wordN t).2.1.toNat = i + (wordN t).2.1.toNat + d from by omega]
      simp [sh]

theorem lexGo_blanks : ∀ (n f : Nat) (t : Str) (i : Nat) (l : List Token), lexGo (f + n) (blanks n ++ t) i l = lexGo f t (i + n) l
  | 0, f, t, i, l => rfl
  | n + 1, f, t, i, l => by
    rw [← Nat.add_assoc, blanks_succ]
    rw [lexGo]
    rw [if_neg (by simp), if_pos (by rw [List.cons_append, bt_cons0]; rfl)]
    rw [List.cons_append, List.drop_succ_cons, List.drop_zero, lexGo_blanks n f t (i + 1) l]
    congr 1; omega

theorem lexGo_only_blanks : ∀ (n f i : Nat) (l : List Token), lexGo f (blanks n) i l = .ok l
  | n, 0, i, l => rfl
  | 0, f + 1, i, l => by rw [lexGo, if_pos (show blanks 0 = [] from rfl)]
  | n + 1, f + 1, i, l => by
    rw [lexGo, if_neg (by simp [blanks_succ]), if_pos (by rw [blanks_succ, bt_cons0]; rfl)]
    rw [blanks_succ, List.drop_succ_cons, List.drop_zero]
    exact lexGo_only_blanks n f (i + 1) l

theorem wordN_num {t : Str} (h : (wordN t).2.2.err = 0) (hb : beginsN t = true) : ∃ l k, numsGo (t.length + 1) t 0 [] = .ok (l, k) ∧ (wordN t).2.1 = k := by
  unfold wordN at h ⊢
  by_cases h0 : (oneN (t.map u8I)).2 = 0
  · rw [if_pos h0] at h; simp at h
  rw [if_neg h0, if_pos hb] at h ⊢
  cases hN : numsGo (t.length + 1) t 0 [] with
  | error i => rw [hN] at h; simp at h
  | ok r => exact ⟨r.1, r.2, rfl, rfl⟩

theorem drop_eq_cons {t : Str} (h : t ≠ []) : ∃ c r, t = c :: r := by
  cases t with
  | nil => exact absurd rfl h
  | cons c r => exact ⟨c, r, rfl⟩

theorem takeWhile_all {p : UInt8 → Bool} {u v : Str} (h : u.takeWhile p = u) : (u ++ v).takeWhile p = u ++ v.takeWhile p := by
  induction u with
  | nil => rfl
  | cons c u ih =>
    rw [List.takeWhile_cons] at h
    split at h
    · rename_i hp
      rw [List.cons_append, List.takeWhile_cons, if_pos hp, ih (by simpa using h)]; rfl
    · cases h

theorem takeWhile_drop_head {p : UInt8 → Bool} : ∀ (u : Str) {c : UInt8} {r : Str}, u.drop (u.takeWhile p).length = c :: r → p c = false
  | [], c, r, h => by simp at h
  | a :: u, c, r, h => by
    rw [List.takeWhile_cons] at h
    split at h
    · simp only [List.length_cons, List.drop_succ_cons] at h
      exact takeWhile_drop_head u h
    · rename_i hp
      simp only [List.length_nil, List.drop_zero, List.cons.injEq] at h
      rw [← h.1]; simpa using hp

/-- Blanks behind numbers change nothing. -/
theorem NumStop_blanks {u : Str} (n : Nat) (h : NumStop u) : NumStop (u ++ blanks n) := by
  unfold NumStop at *
  have hb := takeWhile_le blank u
  by_cases hall : (u.takeWhile blank).length = u.length
  · right
    have hu : u.takeWhile blank = u := (List.takeWhile_prefix blank).eq_of_length hall
    rw [takeWhile_all hu]
    have : (blanks n).takeWhile blank = blanks n := by
      have := takeWhile_blanks n []
      simpa using this
    rw [this, List.drop_length]
    rfl
  · have hin : (u ++ blanks n).takeWhile blank = u.takeWhile blank := by
      have := takeWhile_in (p := blank) (w := u) (v := []) (v' := blanks n) (by rw [List.append_nil]; omega)
      rw [List.append_nil] at this; exact this
    rw [hin]
    rcases h with h | h
    · exact .inl h
    · right
      rw [drop_app hb]
      cases hd : u.drop (u.takeWhile blank).length with
      | nil =>
        have := congrArg List.length hd
        rw [List.length_drop] at this
        simp at this; omega
      | cons c r =>
        rw [hd] at h
        cases hB : beginsN (c :: r ++ blanks n) with
        | false => rfl
        | true =>
          exfalso
          rw [Bool.eq_false_iff] at h
          apply h
          unfold beginsN at hB ⊢
          have e0 : bt (c :: r ++ blanks n) 0 = bt (c :: r) 0 := by rw [List.cons_append, bt_cons0, bt_cons0]
          rw [e0] at hB
          simp only [Bool.or_eq_true, Bool.and_eq_true, beq_iff_eq] at hB ⊢
          rcases hB with hB | ⟨h1, h2⟩
          · exact .inl hB
          · refine .inr ⟨h1, ?_⟩
            cases r with
            | nil =>
              have := bt_end (w := [c]) (blanks_Blank n)
              simp only [List.length_cons, List.length_nil] at this
              rcases this with e | e <;> rw [show ((0 + 1 : Nat) : Int) = 1 from rfl] at e <;> rw [e] at h2 <;> simp [isDig] at h2
            | cons c2 r =>
              have : bt (c :: c2 :: r ++ blanks n) 1 = bt (c :: c2 :: r) 1 := by simp [bt]
              rw [this] at h2; exact h2

theorem word_blanks {t : Str} (n : Nat) (hne : t ≠ []) (hg : (wordN t).2.2.err = 0) : wordN (t ++ blanks n) = wordN t := by
  have hw := (wordN_res hne).1 hg
  have := wordN_same (w := t) (v := []) (v' := blanks n) (blanks_Blank n) (by rw [List.append_nil]; exact hne) (by rw [List.append_nil]; exact hg) (by rw [List.append_nil]; omega) ?_
  · rw [List.append_nil] at this; exact this
  · rw [List.append_nil]
    intro hb k hk
    obtain ⟨l, k', h1, h2⟩ := wordN_num hg hb
    have hkk : k' = k := by omega
    subst hkk
    have hs := numsGo_stop _ t 0 [] l k' hb (by rw [h1, Nat.zero_add])
    rw [drop_app (by omega)]
    exact NumStop_blanks n hs

theorem hasPre_blanks {t p : Str} (n : Nat) (hp : (32 : UInt8) ∉ p) : hasPre (t ++ blanks n) p = hasPre t p := by
  rw [Bool.eq_iff_iff]
  constructor
  · intro h
    have := (hasPre_app (v := []) (blanks_Blank n) hp h).2
    rw [List.append_nil] at this; exact this
  · intro h
    have := hasPre_le h
    exact hasPre_app2 (v := []) this (by rw [List.append_nil]; exact h)

theorem lexGo_trail (n : Nat) : ∀ (f f' : Nat) (t : Str) (i : Nat) (l l' : List Token), t.length < f → t.length + n < f' → lexGo f t i l = .ok l' → lexGo f' (t ++ blanks n) i l = .ok l'
  | 0, f', t, i, l, l', hf, hf', h => by omega
  | f + 1, 0, t, i, l, l', hf, hf', h => by omega
  | f + 1, f' + 1, t, i, l, l', hf, hf', h => by
    by_cases hne : t = []
    · subst hne
      rw [lexGo, if_pos rfl] at h
      rw [← h, List.nil_append]
      exact lexGo_only_blanks n _ i l
    have hp : 0 < t.length := List.length_pos_iff.2 hne
    have hb0 : bt (t ++ blanks n) 0 = bt t 0 := by
      have := bt_app (w := t) (v := []) (v' := blanks n) (i := 0) (by omega)
      rw [List.append_nil] at this; exact this
    unfold lexGo at h ⊢
    rw [if_neg hne] at h
    rw [if_neg (by simp [hne]), hb0, hasPre_blanks n (by decide)]
    split at h
    · rename_i h32
      rw [if_pos h32, drop_app (by omega)]
      exact lexGo_trail n f f' _ _ _ _ (by rw [List.length_drop]; omega) (by rw [List.length_drop]; omega) h
    rename_i h32
    rw [if_neg h32]
    split at h
    · rename_i hnb
      rw [if_pos hnb, h]
    rename_i hnb
    rw [if_neg hnb]
    split at h
    · simp at h
    rename_i hlen
    rw [if_neg hlen]
    split at h
    · simp at h
    rename_i he
    have he' : (wordN t).2.2.err = 0 := by simpa using he
    have hw := (wordN_res hne).1 he'
    rw [word_blanks n hne he', if_neg he, drop_app (by omega)]
    exact lexGo_trail n f f' _ _ _ _ (by rw [List.length_drop]; omega) (by rw [List.length_drop]; omega) h

/-! ### What a token holds has no boxes -/

theorem numsGo_vals : ∀ (f : Nat) (t : Str) (i : Nat) (l l' : List Int) (k : Nat), numsGo f t i l = .ok (l', k) → l'.length ≤ l.length + f
  | 0, t, i, l, l', k, h => by simp [numsGo] at h
  | f + 1, t, i, l, l', k, h => by
    unfold numsGo at h
    split at h
    · simp at h
    · split at h
      · simp only [Except.ok.injEq, Prod.mk.injEq] at h
        rw [← h.1]; simp
      · have := numsGo_vals f _ _ _ _ _ h
        simp at this; omega

theorem numsArr_flat {l : List Int} (h : l.length < 4294967296) : Flat (numsArr l) := by
  have hb : ∀ c ∈ l.map (fun n => Cell.mk 0 n []), c.box = [] := fun c hc => by obtain ⟨n, _, rfl⟩ := List.mem_map.1 hc; rfl
  have hc : (l.map (fun n => Cell.mk 0 n [])).length < 4294967296 := by rw [List.length_map]; exact h
  unfold numsArr
  split
  · exact ⟨by show 0 < 4294967296; decide, hc, hb⟩
  · exact ⟨by show 1 < 4294967296; decide, hc, hb⟩
theorem textArr_flat {l : List Int} (h : l.length < 4294967296) : Flat (textArr l) := by
  have hb : ∀ c ∈ l.map (fun n => Cell.mk 1 n []), c.box = [] := fun c hc => by obtain ⟨n, _, rfl⟩ := List.mem_map.1 hc; rfl
  have hc : (l.map (fun n => Cell.mk 1 n [])).length < 4294967296 := by rw [List.length_map]; exact h
  refine ⟨?_, hc, hb⟩
  show (if l.length = 1 then ([] : List Int) else [(l.length : Int)]).length < _
  split <;> simp
theorem noArr_flat : Flat noArr := ⟨by decide, by decide, fun c hc => by cases hc⟩

theorem textGo_flat : ∀ (f : Nat) (t : Str) (i : Nat) (l : List Int) (r : Arr × Int × Fault), l.length + f < 4294967296 → textGo f t i l = .error r → Flat r.1
  | 0, t, i, l, r, hl, h => by simp [textGo] at h
  | f + 1, t, i, l, r, hl, h => by
    unfold textGo at h
    split at h
    · simp at h
    split at h
    · simp only [Except.error.injEq] at h; subst h; exact noArr_flat
    split at h
    · split at h
      · simp only [Except.error.injEq] at h; subst h; exact textArr_flat (by omega)
      · exact textGo_flat f _ _ _ _ (by simp; omega) h
    · split at h
      · simp only [Except.error.injEq] at h; subst h; exact noArr_flat
      · exact textGo_flat f _ _ _ _ (by simp; omega) h

theorem wordToks_flat : ∀ y ∈ wordToks, y.lit = noArr := by
  intro y hy
  obtain ⟨s, _, rfl⟩ := List.mem_map.1 hy
  rfl

theorem wordN_flat {t : Str} (hs : Short t) : Flat (wordN t).1.lit := by
  have hs' : t.length < 4294967295 := hs
  unfold wordN
  split
  · exact noArr_flat
  split
  · cases hN : numsGo (t.length + 1) t 0 [] with
    | error i => exact noArr_flat
    | ok r =>
      obtain ⟨l, k⟩ := r
      exact numsArr_flat (by have := numsGo_vals _ _ _ _ _ _ hN; simp at this; omega)
  split
  · unfold textN
    cases hN : textGo (t.length + 1) (t.drop 1) 1 [] with
    | ok u => exact noArr_flat
    | error r => exact textGo_flat _ _ _ _ _ (by simp; omega) hN
  split
  · have : (nameN t).1.lit = noArr := by
      unfold nameN
      split
      · rfl
      · split <;> rfl
    split <;> (simp only [this]; exact noArr_flat)
  · cases hg : findGo t wordToks with
    | ok u => exact noArr_flat
    | error r =>
      have := findGo_res _ _ hg
      simp only [wordToks_flat _ this.1]; exact noArr_flat

theorem lexGo_flat : ∀ (f : Nat) (t : Str) (i : Nat) (l l' : List Token), Short t → (∀ x ∈ l, Flat x.lit) → lexGo f t i l = .ok l' → ∀ x ∈ l', Flat x.lit
  | 0, t, i, l, l', hs, hl, h => by
    simp only [lexGo, Except.ok.injEq] at h; subst h; exact hl
  | f + 1, t, i, l, l', hs, hl, h => by
    unfold lexGo at h
    split at h
    · simp only [Except.ok.injEq] at h; subst h; exact hl
    split at h
    · exact lexGo_flat f _ _ _ _ (short_drop hs 1) hl h
    split at h
    · simp only [Except.ok.injEq] at h; subst h; exact hl
    split at h
    · simp at h
    split at h
    · simp at h
    · refine lexGo_flat f _ _ _ _ (short_drop hs _) ?_ h
      intro x hx
      rw [List.mem_append, List.mem_singleton] at hx
      rcases hx with hx | rfl
      · exact hl x hx
      · exact wordN_flat hs

/-! ### The law -/

theorem Blanks_l0_eq {n : Nat} (hn : n ≤ 255) : ∀ (k i : Nat), i + k = n → p_triglyphlaw13_JlexBlanks_l0 ((n : Int), blanks i, (i : Int)) = some (blanks n)
  | 0, i, h => by
    rw [p_triglyphlaw13_JlexBlanks_l0, w64_id (by omega) (by omega), if_neg (by simp; omega)]
    rw [show i = n from by omega]
  | k + 1, i, h => by
    rw [p_triglyphlaw13_JlexBlanks_l0, w64_id (x := (n : Int)) (by omega) (by omega), if_pos (by simp; omega)]
    rw [scat_eq (by rw [blanks_length]; simp; omega), w64_id (x := (i : Int) + 1) (by omega) (by omega)]
    simp only [Option.bind_eq_bind, Option.bind_some]
    rw [show blanks i ++ [32] = blanks (i + 1) from by unfold blanks; rw [List.replicate_succ']]
    rw [show (i : Int) + 1 = ((i + 1 : Nat) : Int) from by omega]
    exact Blanks_l0_eq hn k (i + 1) (by omega)

theorem Blanks_l1_eq {n : Nat} (hn : n ≤ 255) {a : List Token} (hl : a.length < 4294967296) (hat : ∀ t ∈ a, 0 ≤ t.at_ ∧ t.at_ < 4294967296) : ∀ (m : List Token) (i : Int), 0 ≤ i → a.drop i.toNat = m →
    p_triglyphlaw13_JlexBlanks_l1 ((n : Int), a, a.map (sh n), i) = some (.ok ())
  | [], i, h0, h => by
    rw [p_triglyphlaw13_JlexBlanks_l1]
    have := drop_nil_le h
    rw [if_neg (by simp; omega)]
  | t :: m, i, h0, h => by
    obtain ⟨h1, h2, h3⟩ := lget_cons h0 h
    have hm : t ∈ a := List.mem_of_mem_drop (by rw [h]; simp)
    have h4 : lget (a.map (sh n)) i = some (sh n t) := by
      refine lget_eq h0 ?_
      have : a[i.toNat]? = some t := by
        have : (a.drop i.toNat)[0]? = some t := by rw [h]; rfl
        simpa using this
      rw [List.getElem?_map, this]; rfl
    have ht := hat t hm
    rw [p_triglyphlaw13_JlexBlanks_l1]
    rw [if_pos (by simpa using h2), h1, h4]
    simp only [Option.bind_eq_bind, Option.bind_some]
    rw [w64_id (x := (n : Int)) (by omega) (by omega), w64_id (x := t.at_ + n) (by omega) (by omega), w64_id (x := i + 1) (by omega) (by omega)]
    rw [if_neg (by simp [sh]), if_neg (by simp [sh]), if_neg (by simp [sh])]
    exact Blanks_l1_eq hn hl hat m (i + 1) (by omega) h3

theorem placed_at {s : Str} (hs : s.length ≤ 8192) : ∀ (m : List Token) (n : Nat), Placed s n m → ∀ t ∈ m, 0 ≤ t.at_ ∧ t.at_ < 4294967296
  | [], n, h => by simp
  | x :: m, n, ⟨k, e1, e2, e3, e4, e5, e6⟩ => by
    intro t ht
    rcases List.mem_cons.1 ht with rfl | ht
    · omega
    · exact placed_at hs m _ e6 t ht

theorem JlexBlanks_true (s : Str) {n : Int} (h0 : 0 ≤ n) (hn : n ≤ 255) : p_triglyphlaw13_JlexBlanks s n = some true := by
  obtain ⟨n, rfl⟩ := Int.eq_ofNat_of_zero_le h0
  have hn' : n ≤ 255 := by omega
  unfold p_triglyphlaw13_JlexBlanks
  by_cases hlen : s.length > 4000
  · rw [if_pos (by simp; omega), works_eq]; rfl
  rw [if_neg (by simp; omega)]
  have hb := Blanks_l0_eq hn' n 0 (by omega)
  rw [show blanks 0 = ([] : Str) from rfl] at hb
  rw [show ((0 : Nat) : Int) = 0 from rfl] at hb
  rw [hb]
  simp only [Option.bind_eq_bind, Option.bind_some, Lex_eq]
  rw [scat_eq (by rw [blanks_length]; omega)]
  simp only [Option.bind_some, Lex_eq, works_eq]
  -- the same text behind blanks
  have hgo : lexGo ((blanks n ++ s).length + 1) (blanks n ++ s) 0 [] = shE n (lexGo (s.length + 1) s 0 []) := by
    rw [List.length_append, blanks_length, show n + s.length + 1 = s.length + 1 + n from by omega, lexGo_blanks]
    exact lexGo_shift n _ s 0 []
  have hB : lexN (blanks n ++ s) = ((lexN s).1.map (sh n), if (lexN s).2.err = 0 then Fault.mk 0 0 0 else Fault.mk (lexN s).2.err ((lexN s).2.at_ + n) (lexN s).2.why) := by
    unfold lexN
    rw [if_neg (by rw [List.length_append, blanks_length]; omega), if_neg (by omega), hgo]
    cases hg : lexGo (s.length + 1) s 0 [] with
    | error r =>
      have := lexGo_err (s := s) (s.length + 1) 0 [] r (by omega) (by omega) hg
      simp only [shE]
      rw [if_neg this.2.1, this.1]; rfl
    | ok l => simp [shE]
  rw [hB]
  by_cases he : (lexN s).2.err = 0
  · obtain ⟨g1, g2, g3⟩ := lexN_ok he
    obtain ⟨m, e1, e2, e3⟩ := lexGo_add (s := s) (s.length + 1) 0 [] _ (by omega) (by omega) (by simp) g2
    simp only [List.nil_append] at e1
    have hat := placed_at g1 m 0 e2
    rw [← e1] at hat
    rw [if_neg (by simp [he]), if_pos he, if_neg (by simp), if_neg (by simp)]
    rw [Blanks_l1_eq hn' (by omega) hat _ 0 (by decide) rfl]
    simp only [Option.bind_some]
    rw [scat_eq (by rw [blanks_length]; omega)]
    simp only [Option.bind_some, Lex_eq]
    have hC : lexN (s ++ blanks n) = lexN s := by
      have ht := lexGo_trail n (s.length + 1) ((s ++ blanks n).length + 1) s 0 [] _ (by omega) (by rw [List.length_append, blanks_length]; omega) g2
      have h1 : lexN (s ++ blanks n) = ((lexN s).1, Fault.mk 0 0 0) := by
        show (if (s ++ blanks n).length > 8192 then _ else _) = _
        rw [if_neg (by rw [List.length_append, blanks_length]; omega), ht]
      rw [h1, ← g3]
    rw [hC, if_pos (by simp [he]), TokSame_self (by omega) (lexGo_flat _ _ _ _ _ (by show s.length < 4294967295; omega) (by simp) g2)]
    rfl
  · have h2 := lexN_err he
    rw [if_pos (by simp [he]), if_neg he, if_pos (by simp), w64_id (x := (n : Int)) (by omega) (by omega), w64_id (by omega) (by omega), if_pos (by simp)]
end Go.AM.Seat

/- The law JlexApart, over the printed functions. -/
namespace Go.AM.Seat
open Go Go.AM
set_option linter.unusedVariables false

abbrev nb : Str := [78, 66, 46]

/-- The tokens of a text from a place on, with what stands between them. -/
def Toks (s : Str) : Nat → List Token → Prop
  | i, [] => ∃ g z, s.drop i = blanks g ++ z ∧ (z = [] ∨ (hasPre z nb = true ∧ bt z 0 ≠ 32))
  | i, t :: m => ∃ g, s.drop i = blanks g ++ s.drop (i + g) ∧ i + g < s.length ∧ t.at_ = ((i + g : Nat) : Int) ∧ bt (s.drop (i + g)) 0 ≠ 32 ∧ hasPre (s.drop (i + g)) nb = false ∧ (wordN (s.drop (i + g))).2.2.err = 0 ∧
      t.kind = (wordN (s.drop (i + g))).1.kind ∧ t.text = (wordN (s.drop (i + g))).1.text ∧ t.lit = (wordN (s.drop (i + g))).1.lit ∧ Toks s (i + g + (wordN (s.drop (i + g))).2.1.toNat) m

theorem Toks.blank {s : Str} {i : Nat} {c : UInt8} {r : Str} (hc : c.toNat = 32) (h : s.drop i = c :: r) : ∀ {m : List Token}, Toks s (i + 1) m → Toks s i m
  | [], hT => by
    obtain ⟨g, z, h1, h2⟩ := hT
    have hr : s.drop (i + 1) = r := by rw [← List.drop_drop, h]; rfl
    have hc' : c = 32 := UInt8.toNat_inj.1 hc
    exact ⟨g + 1, z, by rw [h, ← hr, h1, hc']; rfl, h2⟩
  | t :: m, hT => by
    obtain ⟨g, h1, h2⟩ := hT
    have hr : s.drop (i + 1) = r := by rw [← List.drop_drop, h]; rfl
    have hc' : c = 32 := UInt8.toNat_inj.1 hc
    have e : i + 1 + g = i + (g + 1) := by omega
    rw [e] at h1 h2
    exact ⟨g + 1, by rw [h, ← hr, h1, hc']; rfl, h2⟩

theorem lexGo_toks {s : Str} : ∀ (f i : Nat) (l l' : List Token), s.length < f + i → i ≤ s.length → lexGo f (s.drop i) i l = .ok l' → ∃ m, l' = l ++ m ∧ Toks s i m
  | 0, i, l, l', hf, hi, h => by omega
  | f + 1, i, l, l', hf, hi, h => by
    unfold lexGo at h
    split at h
    · rename_i hn
      simp only [Except.ok.injEq] at h
      exact ⟨[], by simp [h], 0, [], by rw [hn]; rfl, .inl rfl⟩
    rename_i hne
    have hp : 0 < (s.drop i).length := List.length_pos_iff.2 hne
    rw [List.length_drop] at hp
    split at h
    · rename_i h32
      rw [List.drop_drop] at h
      obtain ⟨m, h1, h2⟩ := lexGo_toks f (i + 1) l l' (by omega) (by omega) h
      obtain ⟨c, r, hcr⟩ := drop_eq_cons hne
      refine ⟨m, h1, Toks.blank ?_ hcr h2⟩
      rw [hcr, bt_cons0] at h32; omega
    rename_i h32
    split at h
    · rename_i hnb
      simp only [Except.ok.injEq] at h
      exact ⟨[], by simp [h], 0, s.drop i, rfl, .inr ⟨hnb, h32⟩⟩
    rename_i hnb
    split at h
    · simp at h
    split at h
    · simp at h
    rename_i hlen he
    simp only [ne_eq, Decidable.not_not] at he
    have hw := (wordN_res hne).1 he
    rw [List.length_drop] at hw
    rw [List.drop_drop] at h
    obtain ⟨m, h1, h2⟩ := lexGo_toks f _ _ l' (by omega) (by omega) h
    exact ⟨Token.mk (wordN (s.drop i)).1.kind (wordN (s.drop i)).1.text (wordN (s.drop i)).1.lit i :: m, by rw [h1, List.append_assoc]; rfl, 0, rfl, by omega, rfl, h32, by simpa using hnb, he, rfl, rfl, rfl, h2⟩

/-- Texts set apart. -/
def sep (s : Str) : List Token → Str
  | [] => []
  | [t] => s.drop t.at_.toNat ++ blanks 1
  | t :: t2 :: r => ((s.take t2.at_.toNat).drop t.at_.toNat) ++ (32 :: sep s (t2 :: r))

def clash : List Token → Bool
  | [] => false
  | [t] => false
  | t :: t2 :: r => (t.kind == 1 && t2.kind == 1) || (t.kind == 2 && t2.kind == 2) || clash (t2 :: r)

def Alike : List Token → List Token → Prop
  | [], [] => True
  | a :: l, b :: m => a.kind = b.kind ∧ a.text = b.text ∧ a.lit = b.lit ∧ Alike l m
  | _, _ => False

theorem Toks_len {s : Str} : ∀ {m : List Token} {i : Nat}, i ≤ s.length → Toks s i m → m.length ≤ s.length - i
  | [], i, hi, h => by simp
  | t :: m, i, hi, ⟨g, h1, h2, h3, h4, h5, h6, h7, h8, h9, hT⟩ => by
    have hne : s.drop (i + g) ≠ [] := by rw [← List.length_pos_iff, List.length_drop]; omega
    have hw := (wordN_res hne).1 h6
    rw [List.length_drop] at hw
    have := Toks_len (by omega) hT
    simp only [List.length_cons]; omega

theorem sep_len {s : Str} : ∀ {m : List Token} {i : Nat}, i ≤ s.length → Toks s i m → (sep s m).length ≤ s.length - i + m.length
  | [], i, hi, h => by simp [sep]
  | [t], i, hi, ⟨g, h1, h2, h3, _⟩ => by
    simp only [sep, List.length_append, List.length_drop, blanks_length, h3, Int.toNat_natCast, List.length_cons, List.length_nil]; omega
  | t :: t2 :: r, i, hi, ⟨g, h1, h2, h3, h4, h5, h6, h7, h8, h9, hT⟩ => by
    have hne : s.drop (i + g) ≠ [] := by rw [← List.length_pos_iff, List.length_drop]; omega
    have hw := (wordN_res hne).1 h6
    rw [List.length_drop] at hw
    obtain ⟨g2, k1, k2, k3, k4⟩ := hT
    have := sep_len (s := s) (m := t2 :: r) (i := i + g + (wordN (s.drop (i + g))).2.1.toNat + g2) (by omega) ⟨0, rfl, by rw [Nat.add_zero]; exact k2, by rw [Nat.add_zero]; exact k3, by rw [Nat.add_zero]; exact k4⟩
    simp only [sep, List.length_append, List.length_drop, List.length_take, h3, k3, Int.toNat_natCast, List.length_cons] at this ⊢
    omega

theorem blanks_add (a b : Nat) : blanks a ++ blanks b = blanks (a + b) := by simp [blanks, List.replicate_append_replicate]

theorem NumStop_rest {g : Nat} {r : Str} (h32 : bt r 0 ≠ 32) (hb : beginsN r = false) : NumStop (blanks g ++ r) := by
  unfold NumStop
  right
  have hr : r.takeWhile blank = [] := by
    cases r with
    | nil => rfl
    | cons c r =>
      rw [bt_cons0] at h32
      rw [List.takeWhile_cons, if_neg (by simp [blank]; omega)]
  rw [takeWhile_blanks, hr, List.append_nil, List.drop_left]
  exact hb

/-- A token's word is seen anew, set apart. -/
theorem sep_word {s : Str} : ∀ {m : List Token} {t : Token} {p : Nat}, Toks s p (t :: m) → t.at_ = (p : Int) → clash (t :: m) = false →
    wordN (sep s (t :: m)) = wordN (s.drop p) ∧ bt (sep s (t :: m)) 0 ≠ 32 ∧ hasPre (sep s (t :: m)) nb = false
  | [], t, p, ⟨g, h1, h2, h3, h4, h5, h6, h7, h8, h9, hT⟩, hat, hc => by
    have hg : g = 0 := by omega
    subst hg
    simp only [Nat.add_zero] at *
    have hne : s.drop p ≠ [] := by rw [← List.length_pos_iff, List.length_drop]; omega
    have hp : 0 < (s.drop p).length := List.length_pos_iff.2 hne
    simp only [sep, hat, Int.toNat_natCast]
    refine ⟨word_blanks 1 hne h6, ?_, ?_⟩
    · have := bt_app (w := s.drop p) (v := []) (v' := blanks 1) (i := 0) (by omega)
      rw [List.append_nil] at this
      rw [this]; exact h4
    · rw [hasPre_blanks 1 (by decide)]; exact h5
  | t2 :: r, t, p, ⟨g, h1, h2, h3, h4, h5, h6, h7, h8, h9, hT⟩, hat, hc => by
    have hg : g = 0 := by omega
    subst hg
    simp only [Nat.add_zero] at *
    have hne : s.drop p ≠ [] := by rw [← List.length_pos_iff, List.length_drop]; omega
    have hw := (wordN_res hne).1 h6
    rw [List.length_drop] at hw
    simp only [clash, Bool.or_eq_false_iff, Bool.and_eq_false_imp, beq_iff_eq] at hc
    obtain ⟨g2, k1, k2, k3, k4⟩ := hT
    generalize hK : (wordN (s.drop p)).2.1.toNat = K at *
    have ih := sep_word (m := r) (t := t2) (p := p + K + g2) ⟨0, rfl, by rw [Nat.add_zero]; exact k2, by rw [Nat.add_zero]; exact k3, by rw [Nat.add_zero]; exact k4⟩ k3 hc.2
    -- the text set apart: the word, blanks, the rest
    have hsp : (s.take (p + K + g2)).drop p = (s.drop p).take K ++ blanks g2 := by
      rw [List.drop_take, show p + K + g2 - p = K + g2 from by omega, List.take_add, List.drop_drop, k1, List.take_left' (blanks_length g2)]
    have hsep : sep s (t :: t2 :: r) = (s.drop p).take K ++ (blanks (g2 + 1) ++ sep s (t2 :: r)) := by
      simp only [sep, hat, k3, Int.toNat_natCast]
      rw [hsp, List.append_assoc]
      congr 1
      rw [← blanks_add, List.append_assoc]; rfl
    have hwl : ((s.drop p).take K).length = K := by rw [List.length_take, List.length_drop]; omega
    have hwv : s.drop p = (s.drop p).take K ++ (s.drop p).drop K := (List.take_append_drop K _).symm
    have hBl : Blank (blanks (g2 + 1) ++ sep s (t2 :: r)) := .inr ⟨_, rfl⟩
    generalize hW : (s.drop p).take K = W at *
    generalize hV : (s.drop p).drop K = V at *
    rw [hsep]
    have hw0 : 0 < W.length := by omega
    have hword : wordN (W ++ (blanks (g2 + 1) ++ sep s (t2 :: r))) = wordN (s.drop p) := by
      rw [hwv]
      refine wordN_same hBl (by rw [← hwv]; exact hne) (by rw [← hwv]; exact h6) (by rw [← hwv]; omega) ?_
      rw [← hwv]
      intro hb k hk
      have hkK : k = K := by omega
      rw [hkK, List.drop_left' hwl]
      refine NumStop_rest ih.2.1 ?_
      -- what follows is no number: the two would be numbers that stand together
      cases hbb : beginsN (sep s (t2 :: r)) with
      | false => rfl
      | true =>
        exfalso
        have hk1 : t.kind = 1 := by
          obtain ⟨l, kk, e1, e2⟩ := wordN_num h6 hb
          rw [h7]
          unfold wordN
          have h0 : ¬ (oneN ((s.drop p).map u8I)).2 = 0 := by
            intro h0
            unfold wordN at h6
            rw [if_pos h0] at h6
            simp at h6
          rw [if_neg h0, if_pos hb, e1]
        have hk2 : t2.kind = 1 := by
          obtain ⟨k41, k42, k43, k44, k45, k46, k47⟩ := k4
          rw [k44, ← ih.1]
          have hg2 : (wordN (sep s (t2 :: r))).2.2.err = 0 := by rw [ih.1]; exact k43
          obtain ⟨l, kk, e1, e2⟩ := wordN_num hg2 hbb
          unfold wordN
          have h0 : ¬ (oneN ((sep s (t2 :: r)).map u8I)).2 = 0 := by
            intro h0
            unfold wordN at hg2
            rw [if_pos h0] at hg2
            simp at hg2
          rw [if_neg h0, if_pos hbb, e1]
        have := hc.1.1 hk1
        rw [hk2] at this
        exact absurd this (by decide)
    refine ⟨hword, ?_, ?_⟩
    · have := bt_app (w := W) (v := V) (v' := blanks (g2 + 1) ++ sep s (t2 :: r)) (i := 0) (by omega)
      rw [this, ← hwv]; exact h4
    · rw [Bool.eq_false_iff]
      intro hp
      have := (hasPre_app (w := W) (v := V) hBl (by decide) hp).2
      rw [← hwv, h5] at this
      cases this

theorem sep_lex {s : Str} : ∀ {m : List Token} {t : Token} {p : Nat} (f j : Nat) (l : List Token), Toks s p (t :: m) → t.at_ = (p : Int) → clash (t :: m) = false → (sep s (t :: m)).length < f → l.length + (t :: m).length ≤ 2048 →
    ∃ m', lexGo f (sep s (t :: m)) j l = .ok (l ++ m') ∧ Alike (t :: m) m'
  | m, t, p, 0, j, l, hT, hat, hc, hf, hl => by omega
  | [], t, p, f + 1, j, l, hT, hat, hc, hf, hl => by
    obtain ⟨w1, w2, w3⟩ := sep_word hT hat hc
    obtain ⟨g, h1, h2, h3, h4, h5, h6, h7, h8, h9, hT⟩ := hT
    have hg : g = 0 := by omega
    subst hg
    simp only [Nat.add_zero] at *
    have hne : s.drop p ≠ [] := by rw [← List.length_pos_iff, List.length_drop]; omega
    have hw := (wordN_res hne).1 h6
    rw [List.length_drop] at hw
    obtain ⟨g, z, z1, z2⟩ := hT
    simp only [List.length_cons, List.length_nil] at hl
    rw [lexGo, if_neg (by simp [sep, blanks]), if_neg w2, if_neg (by rw [w3]; decide), if_neg (by omega), w1, if_neg (by simp [h6])]
    refine ⟨[Token.mk (wordN (s.drop p)).1.kind (wordN (s.drop p)).1.text (wordN (s.drop p)).1.lit j], ?_, h7, h8, h9, trivial⟩
    have hlen : (sep s [t]).length = s.length - p + 1 := by simp only [sep, hat, Int.toNat_natCast, List.length_append, List.length_drop, blanks_length]
    have hdrop : (sep s [t]).drop (wordN (s.drop p)).2.1.toNat = blanks g ++ (z ++ blanks 1) := by
      simp only [sep, hat, Int.toNat_natCast]
      rw [drop_app (by rw [List.length_drop]; omega), List.drop_drop, z1, List.append_assoc]
    rw [hdrop]
    have hgz : g + z.length = s.length - (p + (wordN (s.drop p)).2.1.toNat) := by
      have := congrArg List.length z1
      rw [List.length_drop, List.length_append, blanks_length] at this; omega
    obtain ⟨f3, rfl⟩ : ∃ f3, f = f3 + 1 + g := ⟨f - 1 - g, by omega⟩
    rw [lexGo_blanks]
    rcases z2 with rfl | ⟨z2, z3⟩
    · rw [List.nil_append]; exact lexGo_only_blanks 1 _ _ _
    · have hz := hasPre_le z2
      have hz3 : nb.length = 3 := rfl
      have hb0 : bt (z ++ blanks 1) 0 = bt z 0 := by
        have := bt_app (w := z) (v := []) (v' := blanks 1) (i := 0) (by omega)
        rw [List.append_nil] at this; exact this
      rw [lexGo, if_neg (by simp [blanks]), if_neg (by rw [hb0]; exact z3), if_pos (by rw [hasPre_blanks 1 (by decide)]; exact z2)]
  | t2 :: r, t, p, f + 1, j, l, hT, hat, hc, hf, hl => by
    obtain ⟨w1, w2, w3⟩ := sep_word hT hat hc
    obtain ⟨g, h1, h2, h3, h4, h5, h6, h7, h8, h9, hT⟩ := hT
    have hg : g = 0 := by omega
    subst hg
    simp only [Nat.add_zero] at *
    have hne : s.drop p ≠ [] := by rw [← List.length_pos_iff, List.length_drop]; omega
    have hw := (wordN_res hne).1 h6
    rw [List.length_drop] at hw
    have hc2 : clash (t2 :: r) = false := by
      simp only [clash, Bool.or_eq_false_iff] at hc; exact hc.2
    obtain ⟨g2, k1, k2, k3, k4⟩ := hT
    generalize hK : (wordN (s.drop p)).2.1.toNat = K at *
    have hsp : (s.take (p + K + g2)).drop p = (s.drop p).take K ++ blanks g2 := by
      rw [List.drop_take, show p + K + g2 - p = K + g2 from by omega, List.take_add, List.drop_drop, k1, List.take_left' (blanks_length g2)]
    have hsep : sep s (t :: t2 :: r) = (s.drop p).take K ++ (blanks (g2 + 1) ++ sep s (t2 :: r)) := by
      simp only [sep, hat, k3, Int.toNat_natCast]
      rw [hsp, List.append_assoc]
      congr 1
      rw [← blanks_add, List.append_assoc]; rfl
    have hwl : ((s.drop p).take K).length = K := by rw [List.length_take, List.length_drop]; omega
    simp only [List.length_cons] at hl
    have hsl : (sep s (t :: t2 :: r)).length = K + (g2 + 1 + (sep s (t2 :: r)).length) := by
      rw [hsep, List.length_append, hwl, List.length_append, blanks_length]
    rw [lexGo, if_neg (by intro e; rw [e] at hsl; simp at hsl; omega), if_neg w2, if_neg (by rw [w3]; decide), if_neg (by omega), w1, if_neg (by simp [h6]), hK]
    rw [hsep, List.drop_left' hwl]
    obtain ⟨f3, rfl⟩ : ∃ f3, f = f3 + (g2 + 1) := ⟨f - (g2 + 1), by omega⟩
    rw [lexGo_blanks]
    obtain ⟨m', e1, e2⟩ := sep_lex (m := r) (t := t2) (p := p + K + g2) f3 (j + K + (g2 + 1)) (l ++ [Token.mk (wordN (s.drop p)).1.kind (wordN (s.drop p)).1.text (wordN (s.drop p)).1.lit j])
      ⟨0, rfl, by rw [Nat.add_zero]; exact k2, by rw [Nat.add_zero]; exact k3, by rw [Nat.add_zero]; exact k4⟩ k3 hc2 (by omega) (by simp; omega)
    refine ⟨Token.mk (wordN (s.drop p)).1.kind (wordN (s.drop p)).1.text (wordN (s.drop p)).1.lit j :: m', ?_, h7, h8, h9, e2⟩
    rw [e1, List.append_assoc]; rfl
end Go.AM.Seat

/- The law JlexApart, over the printed functions: its loops. -/
namespace Go.AM.Seat
open Go Go.AM
set_option linter.unusedVariables false

theorem lget_next {α : Type} {l : List α} {i : Int} {x y : α} {r : List α} (h0 : 0 ≤ i) (h : l.drop i.toNat = x :: y :: r) : lget l (i + 1) = some y := by
  obtain ⟨_, _, h3⟩ := lget_cons h0 h
  exact (lget_cons (by omega) h3).1

theorem Apart_l0_eq {s : Str} (hs : s.length ≤ 2000) {l : List Token} (hl : l.length ≤ 2048) : ∀ (m : List Token) (n : Nat) (out : Str) (i : Int), 0 ≤ i → l.drop i.toNat = m → Placed s n m → out.length ≤ 2001 * i.toNat →
    p_triglyphlaw13_JlexApart_l0 (s, l, out, i) = some (if clash m = true then .error true else .ok (out ++ sep s m))
  | [], n, out, i, h0, h, hp, ho => by
    rw [p_triglyphlaw13_JlexApart_l0]
    have := drop_nil_le h
    rw [if_neg (by simp; omega)]
    simp [clash, sep]
  | [t], n, out, i, h0, h, hp, ho => by
    obtain ⟨h1, h2, h3⟩ := lget_cons h0 h
    obtain ⟨k, e1, e2, e3, e4, e5, e6⟩ := hp
    have hlen : l.length = i.toNat + 1 := by
      have := congrArg List.length h
      rw [List.length_drop] at this
      simp at this; omega
    have hlt : decide (w64 (i + 1) < (List.length l : Int)) = false := by
      rw [w64_id (by omega) (by omega)]; simp; omega
    rw [p_triglyphlaw13_JlexApart_l0]
    rw [if_pos (by simpa using h2)]
    simp only [hlt, Bool.false_eq_true, if_false, Option.bind_eq_bind, Option.bind_some, h1, e1]
    rw [smid_eq (by omega) (by omega) (by omega)]
    simp only [Option.bind_some, Int.toNat_natCast, List.take_length]
    rw [scat_eq (by rw [List.length_drop]; omega)]
    simp only [Option.bind_some]
    rw [scat_eq (by rw [List.length_append, List.length_drop]; simp; omega)]
    simp only [Option.bind_some]
    rw [w64_id (by omega) (by omega)]
    have := Apart_l0_eq hs hl [] 0 (out ++ s.drop k ++ [32]) (i + 1) (by omega) h3 trivial (by rw [List.length_append, List.length_append, List.length_drop]; simp; omega)
    rw [this]
    simp [clash, sep, e1, blanks]
  | t :: t2 :: r, n, out, i, h0, h, hp, ho => by
    obtain ⟨h1, h2, h3⟩ := lget_cons h0 h
    have h4 := lget_next h0 h
    obtain ⟨k, e1, e2, e3, e4, e5, e6⟩ := hp
    have e6' := e6
    obtain ⟨k2, a1, a2, a3, a4, a5, a6⟩ := e6
    have hlen : i.toNat + 2 ≤ l.length := by
      have := congrArg List.length h
      rw [List.length_drop] at this
      simp at this; omega
    have hw : w64 (i + 1) = i + 1 := w64_id (by omega) (by omega)
    have hlt : decide (i + 1 < (List.length l : Int)) = true := by simp; omega
    have hsl : ((s.take k2).drop k).length ≤ 2000 := by rw [List.length_drop, List.length_take]; omega
    rw [p_triglyphlaw13_JlexApart_l0]
    rw [if_pos (by simpa using h2)]
    simp only [hw, hlt, if_true, Option.bind_eq_bind, Option.bind_some, h1, h4, e1, a1]
    rw [smid_eq (by omega) (by omega) (by omega)]
    simp only [Option.bind_some, Int.toNat_natCast]
    rw [scat_eq (by omega)]
    simp only [Option.bind_some]
    rw [scat_eq (by rw [List.length_append]; simp; omega)]
    simp only [Option.bind_some, works_eq]
    have ih := Apart_l0_eq hs hl (t2 :: r) (k + 1) (out ++ (s.take k2).drop k ++ [32]) (i + 1) (by omega) h3 e6' (by rw [List.length_append, List.length_append]; simp only [List.length_cons, List.length_nil]; omega)
    have hc : clash (t :: t2 :: r) = ((t.kind == 1 && t2.kind == 1) || (t.kind == 2 && t2.kind == 2) || clash (t2 :: r)) := rfl
    have hsep : out ++ sep s (t :: t2 :: r) = out ++ (s.take k2).drop k ++ [32] ++ sep s (t2 :: r) := by
      simp [sep, e1, a1]
    rw [hc, hsep]
    by_cases c1 : t.kind = 1
    · by_cases c2 : t2.kind = 1
      · simp [c1, c2]
      · have c3 : ¬ t.kind = 2 := by omega
        simpa [c1, c2] using ih
    · by_cases c3 : t.kind = 2
      · by_cases c4 : t2.kind = 2
        · simp [c3, c4]
        · simpa [c1, c4, c3] using ih
      · simpa [c1, c3] using ih

theorem Alike_len : ∀ {a b : List Token}, Alike a b → a.length = b.length
  | [], [], h => rfl
  | a :: l, b :: m, h => by simp only [List.length_cons, Alike_len h.2.2.2]
  | [], _ :: _, h => h.elim
  | _ :: _, [], h => h.elim

theorem Alike_drop : ∀ {a b : List Token} (n : Nat), Alike a b → Alike (a.drop n) (b.drop n)
  | a, b, 0, h => h
  | [], [], n + 1, h => trivial
  | a :: l, b :: m, n + 1, h => Alike_drop n h.2.2.2
  | [], _ :: _, n + 1, h => h.elim
  | _ :: _, [], n + 1, h => h.elim

theorem Apart_l1_eq {a b : List Token} (hl : a.length < 4294967296) (hal : Alike a b) (hf : ∀ t ∈ a, Flat t.lit) : ∀ (m m' : List Token) (i : Int), 0 ≤ i → a.drop i.toNat = m → b.drop i.toNat = m' →
    p_triglyphlaw13_JlexApart_l1 (a, b, i) = some (.ok ())
  | [], m', i, h0, h, h' => by
    rw [p_triglyphlaw13_JlexApart_l1]
    have := drop_nil_le h
    rw [if_neg (by simp; omega)]
  | t :: m, m', i, h0, h, h' => by
    have hd := Alike_drop i.toNat hal
    rw [h, h'] at hd
    cases m' with
    | nil => exact hd.elim
    | cons t' m' =>
      obtain ⟨d1, d2, d3, d4⟩ := hd
      obtain ⟨h1, h2, h3⟩ := lget_cons h0 h
      obtain ⟨g1, g2, g3⟩ := lget_cons h0 h'
      have hm : t ∈ a := List.mem_of_mem_drop (by rw [h]; simp)
      rw [p_triglyphlaw13_JlexApart_l1]
      rw [if_pos (by simpa using h2)]
      simp only [h1, g1, Option.bind_eq_bind, Option.bind_some]
      rw [if_neg (by simp [d1]), if_neg (by simp [d2]), ← d3, Same_self (hf t hm)]
      simp only [Option.bind_some]
      rw [if_neg (by simp), w64_id (by omega) (by omega)]
      exact Apart_l1_eq hl hal hf m m' (i + 1) (by omega) h3 g3

theorem JlexApart_true (s : Str) : p_triglyphlaw13_JlexApart s = some true := by
  unfold p_triglyphlaw13_JlexApart
  by_cases hlen : s.length > 2000
  · rw [if_pos (by simp; omega), works_eq]; rfl
  rw [if_neg (by simp; omega), Lex_eq]
  simp only [Option.bind_eq_bind, Option.bind_some, works_eq]
  by_cases he' : (lexN s).2.err ≠ 0
  · rw [if_pos (by simp [he'])]
  have he : (lexN s).2.err = 0 := by simpa using he'
  rw [if_neg (by simp [he])]
  obtain ⟨g1, g2, g3⟩ := lexN_ok he
  obtain ⟨m, e1, e2, e3⟩ := lexGo_add (s := s) (s.length + 1) 0 [] _ (by omega) (by omega) (by simp) g2
  obtain ⟨m2, e4, e5⟩ := lexGo_toks (s := s) (s.length + 1) 0 [] _ (by omega) (by omega) g2
  simp only [List.nil_append] at e1 e4
  obtain rfl : m2 = m := by rw [← e1, ← e4]
  have hl : (lexN s).1.length ≤ 2048 := e3
  rw [Apart_l0_eq (by omega) hl m2 0 [] 0 (by decide) (by rw [e1]; rfl) e2 (by simp)]
  simp only [Option.bind_some, List.nil_append]
  cases hc : clash m2 with
  | true => rfl
  | false =>
    simp only [Bool.false_eq_true, if_false]
    have hflat := lexGo_flat _ _ _ _ _ (by show s.length < 4294967295; omega) (by simp) g2
    have hml := Toks_len (by omega) e5
    have hsl := sep_len (by omega) e5
    have hout : ∃ m', lexN (sep s m2) = (m', Fault.mk 0 0 0) ∧ Alike m2 m' := by
      unfold lexN
      rw [if_neg (by omega)]
      cases m2 with
      | nil => exact ⟨[], by simp [sep, lexGo], trivial⟩
      | cons t m3 =>
        obtain ⟨g, k1, k2, k3, k4⟩ := e5
        obtain ⟨m', q1, q2⟩ := sep_lex (m := m3) (t := t) (p := 0 + g) ((sep s (t :: m3)).length + 1) 0 [] ⟨0, rfl, by rw [Nat.add_zero]; exact k2, by rw [Nat.add_zero]; exact k3, by rw [Nat.add_zero]; exact k4⟩ k3 hc (by omega)
          (by rw [e1] at hl; simpa using hl)
        rw [q1]
        exact ⟨m', by simp, q2⟩
    obtain ⟨m', q1, q2⟩ := hout
    rw [Lex_eq, q1]
    simp only [Option.bind_some]
    have hlm := Alike_len q2
    rw [e1]
    rw [e1] at hl hflat
    rw [if_neg (by simp), if_neg (by simp [hlm]), Apart_l1_eq (by omega) q2 hflat m2 m' 0 (by decide) rfl rfl]
    rfl
end Go.AM.Seat

namespace Go.AM.Seat
open Go Go.AM Go.Proofs
set_option maxRecDepth 100000
set_option maxHeartbeats 4000000
set_option linter.unusedVariables false

theorem p_triglyphref03_ints_ok {a : Int} {b : Int} {r : Int} (h : p_triglyphref03_ints a b = some r) : aval X 29 [.d (.int .i64 a), .d (.int .i64 b)] [] (CRes.ret (.d (.int .i64 r)) []) := by
  unfold p_triglyphref03_ints at h
  refine aval_start (tm := [(0, .d (.int .i64 a)), (1, .d (.int .i64 b))]) (hp := []) (n := 0) rfl Tryd.func29 rfl rfl rfl rfl rfl rfl ?_
  refine ra rfl ?_
  refine awp_seq ?_
  refine ra rfl ?_
  rcases ite_inv h with ⟨hc, h⟩ | ⟨hc, h⟩
  · refine ct rfl hc ?_
    refine ra rfl ?_
    refine awp_ret ?_
    refine condQ.ret ?_
    refine seqQ.ret ?_
    cases h
    exact ⟨⟨_, _, _, _, rfl, rfl, rfl, rfl, rfl⟩⟩
  · refine cf rfl hc ?_
    refine awp_skip ?_
    refine cn rfl ?_
    refine seqQ.normal ?_
    refine awp_seq ?_
    refine ra rfl ?_
    rcases ite_inv h with ⟨hc, h⟩ | ⟨hc, h⟩
    · refine ct rfl hc ?_
      refine ra rfl ?_
      refine awp_ret ?_
      refine condQ.ret ?_
      refine seqQ.ret ?_
      cases h
      exact ⟨⟨_, _, _, _, rfl, rfl, rfl, rfl, rfl⟩⟩
    · refine cf rfl hc ?_
      refine awp_skip ?_
      refine cn rfl ?_
      refine seqQ.normal ?_
      refine ra rfl ?_
      refine awp_ret ?_
      cases h
      exact ⟨⟨_, _, _, _, rfl, rfl, rfl, rfl, rfl⟩⟩

end Go.AM.Seat

namespace Go.AM.Seat
open Go Go.AM Go.Proofs
set_option maxRecDepth 100000
set_option maxHeartbeats 4000000
set_option linter.unusedVariables false

theorem p_triglyphref03_Cmp_l0_ih : ∀ (a : Arr × Arr × Int × Int) (res : Int), p_triglyphref03_Cmp_l0 a = some res → (match a with | (a, b, o1, i) => awpL X 17 (codeAt [1, 1, 0, 1, 0, 0] (bodyOf Tryd.f17)) (cleanAt (X.H 17 3) 2) (exitQ 0 (X.H 17 1000000) 2 (NrmQ (fun (o3 : Int) => (⟨[(2, .c (.ptr 0 0)), (3, .c (.ptr 1 0)), (5, .d (.int .i64 o3))], [(1, [.d (.list 1 (List.map (D.int .i64) b.shape)), .d (.list 3 (List.map encCell b.cells))]), (0, [.d (.list 1 (List.map (D.int .i64) a.shape)), .d (.list 3 (List.map encCell a.cells))])], 2, [], none⟩ : St)) res)) ⟨[(2, .c (.ptr 0 0)), (3, .c (.ptr 1 0)), (5, .d (.int .i64 o1)), (6, .d (.int .i64 i))], [(1, [.d (.list 1 (List.map (D.int .i64) b.shape)), .d (.list 3 (List.map encCell b.cells))]), (0, [.d (.list 1 (List.map (D.int .i64) a.shape)), .d (.list 3 (List.map encCell a.cells))])], 2, [], none⟩) := by
  refine p_triglyphref03_Cmp_l0.partial_correctness (motive := (fun a res => match a with | (a, b, o1, i) => awpL X 17 (codeAt [1, 1, 0, 1, 0, 0] (bodyOf Tryd.f17)) (cleanAt (X.H 17 3) 2) (exitQ 0 (X.H 17 1000000) 2 (NrmQ (fun (o3 : Int) => (⟨[(2, .c (.ptr 0 0)), (3, .c (.ptr 1 0)), (5, .d (.int .i64 o3))], [(1, [.d (.list 1 (List.map (D.int .i64) b.shape)), .d (.list 3 (List.map encCell b.cells))]), (0, [.d (.list 1 (List.map (D.int .i64) a.shape)), .d (.list 3 (List.map encCell a.cells))])], 2, [], none⟩ : St)) res)) ⟨[(2, .c (.ptr 0 0)), (3, .c (.ptr 1 0)), (5, .d (.int .i64 o1)), (6, .d (.int .i64 i))], [(1, [.d (.list 1 (List.map (D.int .i64) b.shape)), .d (.list 3 (List.map encCell b.cells))]), (0, [.d (.list 1 (List.map (D.int .i64) a.shape)), .d (.list 3 (List.map encCell a.cells))])], 2, [], none⟩)) ?_
  rintro p_triglyphref03_Cmp_l0' ih_p_triglyphref03_Cmp_l0 ⟨a, b, o1, i⟩ res h
  refine lg rfl ?_
  refine awp_seq ?_
  refine awp_seq ?_
  refine rn 3 rfl ?_
  refine po (ellen rfl rfl rfl rfl rfl rfl rfl) rfl rfl ?_
  refine on 2 rfl ?_
  rcases ite_inv h with ⟨hc, h⟩ | ⟨hc, h⟩
  · refine gt rfl rfl rfl rfl hc rfl ?_
    refine on 3 rfl ?_
    refine rz ?_
    rcases ite_inv h with ⟨hc, h⟩ | ⟨hc, h⟩
    · refine ct rfl hc ?_
      refine awp_skip ?_
      refine cn rfl ?_
      refine seqQ.normal ?_
      refine awp_seq ?_
      refine awp_block ?_
      refine drn (m := 14) 3 rfl rfl ?_
      obtain ⟨y, hk, h⟩ := bind_inv h
      refine pd (elget (D.int .i64) (fun _ => rfl) hk rfl rfl rfl rfl rfl) rfl rfl rfl rfl rfl ?_
      refine don 4 rfl ?_
      obtain ⟨y1, hk, h⟩ := bind_inv h
      refine pd (elget (D.int .i64) (fun _ => rfl) hk rfl rfl rfl rfl rfl) rfl rfl rfl rfl rfl ?_
      refine don 1 rfl ?_
      obtain ⟨o2, hk, h⟩ := bind_inv h
      refine pd (ecall (p_triglyphref03_ints_ok hk) rfl rfl rfl rfl rfl rfl rfl rfl rfl) rfl rfl rfl rfl rfl ?_
      refine don 1 rfl ?_
      refine dz' (by kernel_rfl) ?_
      refine en rfl ?_
      refine seqQ.normal ?_
      refine rn 3 rfl ?_
      refine awpO_nil ?_
      refine loopQ.normal ?_
      exact awpL_at rfl rfl (ih_p_triglyphref03_Cmp_l0 _ _ h)
    · refine cf rfl hc ?_
      refine awp_exit ?_
      refine condQ.exit ?_
      refine seqQ.exit ?_
      refine loopQ.exit ?_
      refine eh rfl ?_
      cases h
      exact .ok rfl
  · refine gf rfl rfl rfl rfl hc rfl ?_
    refine on 3 rfl ?_
    refine rz ?_
    refine cf rfl rfl ?_
    refine awp_exit ?_
    refine condQ.exit ?_
    refine seqQ.exit ?_
    refine loopQ.exit ?_
    refine eh rfl ?_
    cases h
    exact .ok rfl

theorem p_triglyphref03_Cmp_l1_grp : (∀ (a : Arr × Arr × Int × Int) (res : Int), p_triglyphref03_Cmp_l1 a = some res → (match a with | (a, b, o4, i1) => awpL X 17 (codeAt [1, 1, 1, 0, 1, 0, 0] (bodyOf Tryd.f17)) (cleanAt (X.H 17 7) 2) (exitQ 2 (X.H 17 1000002) 2 (NrmQ (fun (o6 : Int) => (⟨[(2, .c (.ptr 0 0)), (3, .c (.ptr 1 0)), (5, .d (.int .i64 o6))], [(1, [.d (.list 1 (List.map (D.int .i64) b.shape)), .d (.list 3 (List.map encCell b.cells))]), (0, [.d (.list 1 (List.map (D.int .i64) a.shape)), .d (.list 3 (List.map encCell a.cells))])], 2, [], none⟩ : St)) res)) ⟨[(2, .c (.ptr 0 0)), (3, .c (.ptr 1 0)), (5, .d (.int .i64 o4)), (7, .d (.int .i64 i1))], [(1, [.d (.list 1 (List.map (D.int .i64) b.shape)), .d (.list 3 (List.map encCell b.cells))]), (0, [.d (.list 1 (List.map (D.int .i64) a.shape)), .d (.list 3 (List.map encCell a.cells))])], 2, [], none⟩)) ∧ (∀ (a : Cell × Cell) (res : Int), p_triglyphref03_Cell a = some res → (match a with | (a, b) => aval X 30 [.d (encCell a), .d (encCell b)] [] (CRes.ret (.d (.int .i64 res)) []))) ∧ (∀ (a : Arr × Arr) (res : Int), p_triglyphref03_Cmp a = some res → (match a with | (a, b) => aval X 17 [.d (encArr a), .d (encArr b)] [] (CRes.ret (.d (.int .i64 res)) []))) := by
  refine p_triglyphref03_Cmp_l1.mutual_partial_correctness (motive_1 := (fun a res => match a with | (a, b, o4, i1) => awpL X 17 (codeAt [1, 1, 1, 0, 1, 0, 0] (bodyOf Tryd.f17)) (cleanAt (X.H 17 7) 2) (exitQ 2 (X.H 17 1000002) 2 (NrmQ (fun (o6 : Int) => (⟨[(2, .c (.ptr 0 0)), (3, .c (.ptr 1 0)), (5, .d (.int .i64 o6))], [(1, [.d (.list 1 (List.map (D.int .i64) b.shape)), .d (.list 3 (List.map encCell b.cells))]), (0, [.d (.list 1 (List.map (D.int .i64) a.shape)), .d (.list 3 (List.map encCell a.cells))])], 2, [], none⟩ : St)) res)) ⟨[(2, .c (.ptr 0 0)), (3, .c (.ptr 1 0)), (5, .d (.int .i64 o4)), (7, .d (.int .i64 i1))], [(1, [.d (.list 1 (List.map (D.int .i64) b.shape)), .d (.list 3 (List.map encCell b.cells))]), (0, [.d (.list 1 (List.map (D.int .i64) a.shape)), .d (.list 3 (List.map encCell a.cells))])], 2, [], none⟩)) (motive_2 := (fun a res => match a with | (a, b) => aval X 30 [.d (encCell a), .d (encCell b)] [] (CRes.ret (.d (.int .i64 res)) []))) (motive_3 := (fun a res => match a with | (a, b) => aval X 17 [.d (encArr a), .d (encArr b)] [] (CRes.ret (.d (.int .i64 res)) []))) ?_ ?_ ?_
  · rintro p_triglyphref03_Cmp_l1' p_triglyphref03_Cell' ih_p_triglyphref03_Cmp_l1 ih_p_triglyphref03_Cell ⟨a, b, o4, i1⟩ res h
    refine lg rfl ?_
    refine awp_seq ?_
    refine awp_seq ?_
    refine rn 3 rfl ?_
    refine po (ellen rfl rfl rfl rfl rfl rfl rfl) rfl rfl ?_
    refine on 2 rfl ?_
    rcases ite_inv h with ⟨hc, h⟩ | ⟨hc, h⟩
    · refine gt rfl rfl rfl rfl hc rfl ?_
      refine on 3 rfl ?_
      refine po (ellen rfl rfl rfl rfl rfl rfl rfl) rfl rfl ?_
      refine on 3 rfl ?_
      rcases ite_inv h with ⟨hc, h⟩ | ⟨hc, h⟩
      · refine gt rfl rfl rfl rfl hc rfl ?_
        refine on 3 rfl ?_
        refine rz ?_
        rcases ite_inv h with ⟨hc, h⟩ | ⟨hc, h⟩
        · refine ct rfl hc ?_
          refine awp_skip ?_
          refine cn rfl ?_
          refine seqQ.normal ?_
          refine awp_seq ?_
          refine awp_block ?_
          refine drn (m := 14) 3 rfl rfl ?_
          obtain ⟨y2, hk, h⟩ := bind_inv h
          refine pd (elget encCell (fun _ => rfl) hk rfl rfl rfl rfl rfl) rfl rfl rfl rfl rfl ?_
          refine don 4 rfl ?_
          obtain ⟨y3, hk, h⟩ := bind_inv h
          refine pd (elget encCell (fun _ => rfl) hk rfl rfl rfl rfl rfl) rfl rfl rfl rfl rfl ?_
          refine don 1 rfl ?_
          obtain ⟨o5, hk, h⟩ := bind_inv h
          refine pd (ecall (ih_p_triglyphref03_Cell _ _ hk) rfl rfl rfl rfl rfl rfl rfl rfl rfl) rfl rfl rfl rfl rfl ?_
          refine don 1 rfl ?_
          refine dz' (by kernel_rfl) ?_
          refine en rfl ?_
          refine seqQ.normal ?_
          refine rn 3 rfl ?_
          refine awpO_nil ?_
          refine loopQ.normal ?_
          exact awpL_at rfl rfl (ih_p_triglyphref03_Cmp_l1 _ _ h)
        · refine cf rfl hc ?_
          refine awp_exit ?_
          refine condQ.exit ?_
          refine seqQ.exit ?_
          refine loopQ.exit ?_
          refine eh rfl ?_
          cases h
          exact .ok rfl
      · refine gf rfl rfl rfl rfl hc rfl ?_
        refine on 3 rfl ?_
        refine rz ?_
        refine cf rfl rfl ?_
        refine awp_exit ?_
        refine condQ.exit ?_
        refine seqQ.exit ?_
        refine loopQ.exit ?_
        refine eh rfl ?_
        cases h
        exact .ok rfl
    · refine gf rfl rfl rfl rfl hc rfl ?_
      refine on 10 rfl ?_
      refine rz ?_
      refine cf rfl rfl ?_
      refine awp_exit ?_
      refine condQ.exit ?_
      refine seqQ.exit ?_
      refine loopQ.exit ?_
      refine eh rfl ?_
      cases h
      exact .ok rfl
  · rintro p_triglyphref03_Cmp' ih_p_triglyphref03_Cmp ⟨a, b⟩ res h
    refine aval_start (tm := [(0, .d (encCell a)), (1, .d (encCell b))]) (hp := []) (n := 0) rfl Tryd.func30 rfl rfl rfl rfl rfl rfl ?_
    refine ra (nid' := 2) rfl ?_
    refine awp_seq ?_
    refine rn 4 rfl ?_
    obtain ⟨o, hk, h⟩ := bind_inv h
    refine po (ecall (p_triglyphref03_ints_ok hk) rfl rfl rfl rfl rfl rfl rfl rfl rfl) rfl rfl ?_
    refine on 1 rfl ?_
    refine rz ?_
    refine awp_seq ?_
    refine ra rfl ?_
    obtain ⟨o2, hs, h⟩ := bind_inv h
    refine awp_nrm (fun (o2 : Int) => (⟨[(2, .c (.ptr 0 0)), (3, .c (.ptr 1 0)), (5, .d (.int .i64 o2))], [(1, [.d (.int .i64 b.kind), .d (.int .i64 b.n), .d (.list 2 (List.map encArrR b.box))]), (0, [.d (.int .i64 a.kind), .d (.int .i64 a.n), .d (.list 2 (List.map encArrR a.box))])], 2, [], none⟩ : St)) (y := o2) ?_ ?_
    · replace h := hs
      rcases ite_inv h with ⟨hc, h⟩ | ⟨hc, h⟩
      · refine ct rfl hc ?_
        refine rn 4 rfl ?_
        obtain ⟨o1, hk, h⟩ := bind_inv h
        refine po (ecall (p_triglyphref03_ints_ok hk) rfl rfl rfl rfl rfl rfl rfl rfl rfl) rfl rfl ?_
        refine on 1 rfl ?_
        refine awpO_nil ?_
        refine cn rfl ?_
        cases h
        exact .ok rfl
      · refine cf rfl hc ?_
        refine awp_skip ?_
        refine cn rfl ?_
        cases h
        exact .ok rfl
    · refine seqQ.normal ?_
      refine awp_seq ?_
      refine awp_seq ?_
      refine rn 3 rfl ?_
      rcases ite_inv h with ⟨hc, h⟩ | ⟨hc, h⟩
      · refine gt rfl rfl rfl rfl hc rfl ?_
        refine on 2 rfl ?_
        refine po (ellen rfl rfl rfl rfl rfl rfl rfl) rfl rfl ?_
        refine on 3 rfl ?_
        rcases ite_inv h with ⟨hc, h⟩ | ⟨hc, h⟩
        · refine gt rfl rfl rfl rfl hc rfl ?_
          refine on 2 rfl ?_
          refine po (ellen rfl rfl rfl rfl rfl rfl rfl) rfl rfl ?_
          refine on 2 rfl ?_
          refine rz ?_
          rcases ite_inv h with ⟨hc, h⟩ | ⟨hc, h⟩
          · refine ct rfl hc ?_
            refine awp_seq ?_
            refine drn (m := 12) 2 rfl rfl ?_
            obtain ⟨y, hk, h⟩ := bind_inv h
            refine pd (elget encArr encArrR_eq hk rfl rfl rfl rfl rfl) rfl rfl rfl rfl rfl ?_
            refine don 3 rfl ?_
            obtain ⟨y1, hk, h⟩ := bind_inv h
            refine pd (elget encArr encArrR_eq hk rfl rfl rfl rfl rfl) rfl rfl rfl rfl rfl ?_
            refine don 1 rfl ?_
            obtain ⟨x, hk, h⟩ := bind_inv h
            refine pd (ecall (ih_p_triglyphref03_Cmp _ _ hk) rfl rfl rfl rfl rfl rfl rfl rfl rfl) rfl rfl rfl rfl rfl ?_
            refine don 1 rfl ?_
            refine dz (by kernel_rfl) ?_
            refine awp_ret ?_
            refine condQ.ret ?_
            refine seqQ.ret ?_
            cases h
            exact ⟨⟨_, _, _, _, rfl, rfl, rfl, rfl, rfl⟩⟩
          · refine cf rfl hc ?_
            refine awp_skip ?_
            refine cn rfl ?_
            refine seqQ.normal ?_
            refine awp_seq ?_
            refine ra rfl ?_
            obtain ⟨o4, hs, h⟩ := bind_inv h
            refine awp_nrm (fun (o4 : Int) => (⟨[(5, .d (.int .i64 o4))], [(1, [.d (.int .i64 b.kind), .d (.int .i64 b.n), .d (.list 2 (List.map encArrR b.box))]), (0, [.d (.int .i64 a.kind), .d (.int .i64 a.n), .d (.list 2 (List.map encArrR a.box))])], 2, [], none⟩ : St)) (y := o4) ?_ ?_
            · replace h := hs
              rcases ite_inv h with ⟨hc, h⟩ | ⟨hc, h⟩
              · refine ct rfl hc ?_
                refine rn 2 rfl ?_
                refine po (ellen rfl rfl rfl rfl rfl rfl rfl) rfl rfl ?_
                refine on 2 rfl ?_
                refine po (ellen rfl rfl rfl rfl rfl rfl rfl) rfl rfl ?_
                obtain ⟨o3, hk, h⟩ := bind_inv h
                refine po (ecall (p_triglyphref03_ints_ok hk) rfl rfl rfl rfl rfl rfl rfl rfl rfl) rfl rfl ?_
                refine on 1 rfl ?_
                refine awpO_nil ?_
                refine cn rfl ?_
                cases h
                exact .ok rfl
              · refine cf rfl hc ?_
                refine awp_skip ?_
                refine cn rfl ?_
                cases h
                exact .ok rfl
            · refine seqQ.normal ?_
              refine ra rfl ?_
              refine awp_ret ?_
              cases h
              exact ⟨⟨_, _, _, _, rfl, rfl, rfl, rfl, rfl⟩⟩
        · refine gf rfl rfl rfl rfl hc rfl ?_
          refine on 5 rfl ?_
          refine rz ?_
          refine cf rfl rfl ?_
          refine awp_skip ?_
          refine cn rfl ?_
          refine seqQ.normal ?_
          refine awp_seq ?_
          refine ra rfl ?_
          obtain ⟨o6, hs, h⟩ := bind_inv h
          refine awp_nrm (fun (o6 : Int) => (⟨[(5, .d (.int .i64 o6))], [(1, [.d (.int .i64 b.kind), .d (.int .i64 b.n), .d (.list 2 (List.map encArrR b.box))]), (0, [.d (.int .i64 a.kind), .d (.int .i64 a.n), .d (.list 2 (List.map encArrR a.box))])], 2, [], none⟩ : St)) (y := o6) ?_ ?_
          · replace h := hs
            rcases ite_inv h with ⟨hc, h⟩ | ⟨hc, h⟩
            · refine ct rfl hc ?_
              refine rn 2 rfl ?_
              refine po (ellen rfl rfl rfl rfl rfl rfl rfl) rfl rfl ?_
              refine on 2 rfl ?_
              refine po (ellen rfl rfl rfl rfl rfl rfl rfl) rfl rfl ?_
              obtain ⟨o5, hk, h⟩ := bind_inv h
              refine po (ecall (p_triglyphref03_ints_ok hk) rfl rfl rfl rfl rfl rfl rfl rfl rfl) rfl rfl ?_
              refine on 1 rfl ?_
              refine awpO_nil ?_
              refine cn rfl ?_
              cases h
              exact .ok rfl
            · refine cf rfl hc ?_
              refine awp_skip ?_
              refine cn rfl ?_
              cases h
              exact .ok rfl
          · refine seqQ.normal ?_
            refine ra rfl ?_
            refine awp_ret ?_
            cases h
            exact ⟨⟨_, _, _, _, rfl, rfl, rfl, rfl, rfl⟩⟩
      · refine gf rfl rfl rfl rfl hc rfl ?_
        refine on 11 rfl ?_
        refine rz ?_
        refine cf rfl rfl ?_
        refine awp_skip ?_
        refine cn rfl ?_
        refine seqQ.normal ?_
        refine awp_seq ?_
        refine ra rfl ?_
        obtain ⟨o8, hs, h⟩ := bind_inv h
        refine awp_nrm (fun (o8 : Int) => (⟨[(5, .d (.int .i64 o8))], [(1, [.d (.int .i64 b.kind), .d (.int .i64 b.n), .d (.list 2 (List.map encArrR b.box))]), (0, [.d (.int .i64 a.kind), .d (.int .i64 a.n), .d (.list 2 (List.map encArrR a.box))])], 2, [], none⟩ : St)) (y := o8) ?_ ?_
        · replace h := hs
          rcases ite_inv h with ⟨hc, h⟩ | ⟨hc, h⟩
          · refine ct rfl hc ?_
            refine rn 2 rfl ?_
            refine po (ellen rfl rfl rfl rfl rfl rfl rfl) rfl rfl ?_
            refine on 2 rfl ?_
            refine po (ellen rfl rfl rfl rfl rfl rfl rfl) rfl rfl ?_
            obtain ⟨o7, hk, h⟩ := bind_inv h
            refine po (ecall (p_triglyphref03_ints_ok hk) rfl rfl rfl rfl rfl rfl rfl rfl rfl) rfl rfl ?_
            refine on 1 rfl ?_
            refine awpO_nil ?_
            refine cn rfl ?_
            cases h
            exact .ok rfl
          · refine cf rfl hc ?_
            refine awp_skip ?_
            refine cn rfl ?_
            cases h
            exact .ok rfl
        · refine seqQ.normal ?_
          refine ra rfl ?_
          refine awp_ret ?_
          cases h
          exact ⟨⟨_, _, _, _, rfl, rfl, rfl, rfl, rfl⟩⟩
  · rintro p_triglyphref03_Cmp_l1' ih_p_triglyphref03_Cmp_l1 ⟨a, b⟩ res h
    refine aval_start (tm := [(0, .d (encArr a)), (1, .d (encArr b))]) (hp := []) (n := 0) rfl Tryd.func17 rfl rfl rfl rfl rfl rfl ?_
    refine ra (nid' := 2) rfl ?_
    refine awp_seq ?_
    refine rn 2 rfl ?_
    refine po (ellen rfl rfl rfl rfl rfl rfl rfl) rfl rfl ?_
    refine on 2 rfl ?_
    refine po (ellen rfl rfl rfl rfl rfl rfl rfl) rfl rfl ?_
    obtain ⟨o, hk, h⟩ := bind_inv h
    refine po (ecall (p_triglyphref03_ints_ok hk) rfl rfl rfl rfl rfl rfl rfl rfl rfl) rfl rfl ?_
    refine on 1 rfl ?_
    refine rz ?_
    refine awp_seq ?_
    refine ra rfl ?_
    obtain ⟨o3, hs, h⟩ := bind_inv h
    refine awp_nrm (fun (o3 : Int) => (⟨[(2, .c (.ptr 0 0)), (3, .c (.ptr 1 0)), (5, .d (.int .i64 o3))], [(1, [.d (.list 1 (List.map (D.int .i64) b.shape)), .d (.list 3 (List.map encCell b.cells))]), (0, [.d (.list 1 (List.map (D.int .i64) a.shape)), .d (.list 3 (List.map encCell a.cells))])], 2, [], none⟩ : St)) (y := o3) ?_ ?_
    · replace h := hs
      refine awp_block ?_
      refine awp_loop ?_
      exact awpL_at rfl rfl (p_triglyphref03_Cmp_l0_ih _ _ h)
    · refine seqQ.normal ?_
      refine awp_seq ?_
      refine ra rfl ?_
      obtain ⟨o6, hs, h⟩ := bind_inv h
      refine awp_nrm (fun (o6 : Int) => (⟨[(2, .c (.ptr 0 0)), (3, .c (.ptr 1 0)), (5, .d (.int .i64 o6))], [(1, [.d (.list 1 (List.map (D.int .i64) b.shape)), .d (.list 3 (List.map encCell b.cells))]), (0, [.d (.list 1 (List.map (D.int .i64) a.shape)), .d (.list 3 (List.map encCell a.cells))])], 2, [], none⟩ : St)) (y := o6) ?_ ?_
      · replace h := hs
        refine awp_block ?_
        refine awp_loop ?_
        exact awpL_at rfl rfl (ih_p_triglyphref03_Cmp_l1 _ _ h)
      · refine seqQ.normal ?_
        refine awp_seq ?_
        refine ra rfl ?_
        obtain ⟨o8, hs, h⟩ := bind_inv h
        refine awp_nrm (fun (o8 : Int) => (⟨[(5, .d (.int .i64 o8))], [(1, [.d (.list 1 (List.map (D.int .i64) b.shape)), .d (.list 3 (List.map encCell b.cells))]), (0, [.d (.list 1 (List.map (D.int .i64) a.shape)), .d (.list 3 (List.map encCell a.cells))])], 2, [], none⟩ : St)) (y := o8) ?_ ?_
        · replace h := hs
          rcases ite_inv h with ⟨hc, h⟩ | ⟨hc, h⟩
          · refine ct rfl hc ?_
            refine rn 2 rfl ?_
            refine po (ellen rfl rfl rfl rfl rfl rfl rfl) rfl rfl ?_
            refine on 2 rfl ?_
            refine po (ellen rfl rfl rfl rfl rfl rfl rfl) rfl rfl ?_
            obtain ⟨o7, hk, h⟩ := bind_inv h
            refine po (ecall (p_triglyphref03_ints_ok hk) rfl rfl rfl rfl rfl rfl rfl rfl rfl) rfl rfl ?_
            refine on 1 rfl ?_
            refine awpO_nil ?_
            refine cn rfl ?_
            cases h
            exact .ok rfl
          · refine cf rfl hc ?_
            refine awp_skip ?_
            refine cn rfl ?_
            cases h
            exact .ok rfl
        · refine seqQ.normal ?_
          refine ra rfl ?_
          refine awp_ret ?_
          cases h
          exact ⟨⟨_, _, _, _, rfl, rfl, rfl, rfl, rfl⟩⟩

theorem p_triglyphref03_Cmp_l1_ih : ∀ (a : Arr × Arr × Int × Int) (res : Int), p_triglyphref03_Cmp_l1 a = some res → (match a with | (a, b, o4, i1) => awpL X 17 (codeAt [1, 1, 1, 0, 1, 0, 0] (bodyOf Tryd.f17)) (cleanAt (X.H 17 7) 2) (exitQ 2 (X.H 17 1000002) 2 (NrmQ (fun (o6 : Int) => (⟨[(2, .c (.ptr 0 0)), (3, .c (.ptr 1 0)), (5, .d (.int .i64 o6))], [(1, [.d (.list 1 (List.map (D.int .i64) b.shape)), .d (.list 3 (List.map encCell b.cells))]), (0, [.d (.list 1 (List.map (D.int .i64) a.shape)), .d (.list 3 (List.map encCell a.cells))])], 2, [], none⟩ : St)) res)) ⟨[(2, .c (.ptr 0 0)), (3, .c (.ptr 1 0)), (5, .d (.int .i64 o4)), (7, .d (.int .i64 i1))], [(1, [.d (.list 1 (List.map (D.int .i64) b.shape)), .d (.list 3 (List.map encCell b.cells))]), (0, [.d (.list 1 (List.map (D.int .i64) a.shape)), .d (.list 3 (List.map encCell a.cells))])], 2, [], none⟩) := p_triglyphref03_Cmp_l1_grp.1
theorem p_triglyphref03_Cell_ih : ∀ (a : Cell × Cell) (res : Int), p_triglyphref03_Cell a = some res → (match a with | (a, b) => aval X 30 [.d (encCell a), .d (encCell b)] [] (CRes.ret (.d (.int .i64 res)) [])) := p_triglyphref03_Cmp_l1_grp.2.1
theorem p_triglyphref03_Cmp_ih : ∀ (a : Arr × Arr) (res : Int), p_triglyphref03_Cmp a = some res → (match a with | (a, b) => aval X 17 [.d (encArr a), .d (encArr b)] [] (CRes.ret (.d (.int .i64 res)) [])) := p_triglyphref03_Cmp_l1_grp.2.2
theorem p_triglyphref03_Cmp_ok {a : Arr × Arr} {res : Int} (h : p_triglyphref03_Cmp a = some res) : (match a with | (a, b) => aval X 17 [.d (encArr a), .d (encArr b)] [] (CRes.ret (.d (.int .i64 res)) [])) := p_triglyphref03_Cmp_ih a res h
theorem p_triglyphref03_Cell_ok {a : Cell × Cell} {res : Int} (h : p_triglyphref03_Cell a = some res) : (match a with | (a, b) => aval X 30 [.d (encCell a), .d (encCell b)] [] (CRes.ret (.d (.int .i64 res)) [])) := p_triglyphref03_Cell_ih a res h

end Go.AM.Seat

namespace Go.AM.Seat
open Go Go.AM Go.Proofs
set_option maxRecDepth 100000
set_option maxHeartbeats 4000000
set_option linter.unusedVariables false

theorem p_triglyphref03_Same_ok {a : Arr} {b : Arr} {r : Bool} (h : p_triglyphref03_Same a b = some r) : aval X 10 [.d (encArr a), .d (encArr b)] [] (CRes.ret (.d (.bool r)) []) := by
  unfold p_triglyphref03_Same at h
  refine aval_start (tm := [(0, .d (encArr a)), (1, .d (encArr b))]) (hp := []) (n := 0) rfl Tryd.func10 rfl rfl rfl rfl rfl rfl ?_
  refine ra (nid' := 2) rfl ?_
  refine awp_seq ?_
  refine rn 2 rfl ?_
  obtain ⟨x, hk, h⟩ := bind_inv h
  refine po (ecall (p_triglyphref03_Cmp_ok hk) rfl rfl rfl rfl rfl rfl rfl rfl rfl) rfl rfl ?_
  refine on 2 rfl ?_
  refine rz ?_
  refine awp_ret ?_
  cases h
  exact ⟨⟨_, _, _, _, rfl, rfl, rfl, rfl, rfl⟩⟩

end Go.AM.Seat

namespace Go.AM.Seat
open Go Go.AM Go.Proofs
set_option maxRecDepth 100000
set_option maxHeartbeats 4000000
set_option linter.unusedVariables false

theorem p_triglyphref03_Nums_l0_ok : ∀ (a : ((List Int)) × Int × (List Cell)) (res : (List Cell)), p_triglyphref03_Nums_l0 a = some res → (match a with | (l, i, out1) => awpL X 14 (codeAt [1, 1, 0, 1, 0, 0] (bodyOf Tryd.f14)) (cleanAt (X.H 14 3) 2) (exitQ 0 (X.H 14 1000000) 2 (NrmQ (fun (out11 : (List Cell)) => (⟨[(2, .c (.ptr 0 0)), (3, .c (.ptr 1 0))], [(1, [.d (.list 1 (List.map (D.int .i64) [(List.length l : Int)])), .own 3 (List.map encCell out11)]), (0, [.own 1 (List.map (D.int .i64) []), .own 3 (List.map encCell [])])], 2, [], none⟩ : St)) res)) ⟨[(0, .d (.list 1 (List.map (D.int .i64) l))), (2, .c (.ptr 0 0)), (3, .c (.ptr 1 0)), (4, .d (.int .i64 i))], [(1, [.d (.list 1 (List.map (D.int .i64) [(List.length l : Int)])), .own 3 (List.map encCell out1)]), (0, [.own 1 (List.map (D.int .i64) []), .own 3 (List.map encCell [])])], 2, [], none⟩) := by
  refine p_triglyphref03_Nums_l0.partial_correctness (motive := (fun a res => match a with | (l, i, out1) => awpL X 14 (codeAt [1, 1, 0, 1, 0, 0] (bodyOf Tryd.f14)) (cleanAt (X.H 14 3) 2) (exitQ 0 (X.H 14 1000000) 2 (NrmQ (fun (out11 : (List Cell)) => (⟨[(2, .c (.ptr 0 0)), (3, .c (.ptr 1 0))], [(1, [.d (.list 1 (List.map (D.int .i64) [(List.length l : Int)])), .own 3 (List.map encCell out11)]), (0, [.own 1 (List.map (D.int .i64) []), .own 3 (List.map encCell [])])], 2, [], none⟩ : St)) res)) ⟨[(0, .d (.list 1 (List.map (D.int .i64) l))), (2, .c (.ptr 0 0)), (3, .c (.ptr 1 0)), (4, .d (.int .i64 i))], [(1, [.d (.list 1 (List.map (D.int .i64) [(List.length l : Int)])), .own 3 (List.map encCell out1)]), (0, [.own 1 (List.map (D.int .i64) []), .own 3 (List.map encCell [])])], 2, [], none⟩)) ?_
  rintro p_triglyphref03_Nums_l0' ih ⟨l, i, out1⟩ res h
  refine lg rfl ?_
  refine awp_seq ?_
  refine awp_seq ?_
  refine rn 2 rfl ?_
  refine po (ellen rfl rfl rfl rfl rfl rfl rfl) rfl rfl ?_
  refine on 1 rfl ?_
  refine rz ?_
  rcases ite_inv h with ⟨hc, h⟩ | ⟨hc, h⟩
  · refine ct rfl hc ?_
    refine awp_skip ?_
    refine cn rfl ?_
    refine seqQ.normal ?_
    refine awp_seq ?_
    refine awp_block ?_
    refine drn (m := 13) 4 rfl rfl ?_
    obtain ⟨y, hk, h⟩ := bind_inv h
    refine pd (elget (D.int .i64) (fun _ => rfl) hk rfl rfl rfl rfl rfl) rfl rfl rfl rfl rfl ?_
    refine don 3 rfl ?_
    obtain ⟨l1, hk, h⟩ := bind_inv h
    refine pd (eappc hk rfl rfl rfl rfl rfl rfl rfl rfl rfl rfl rfl rfl rfl rfl ) rfl rfl rfl rfl rfl ?_
    refine don 2 rfl ?_
    refine dz' (by kernel_rfl) ?_
    refine en rfl ?_
    refine seqQ.normal ?_
    refine rn 3 rfl ?_
    refine awpO_nil ?_
    refine loopQ.normal ?_
    exact awpL_at rfl rfl (ih _ _ h)
  · refine cf rfl hc ?_
    refine awp_exit ?_
    refine condQ.exit ?_
    refine seqQ.exit ?_
    refine loopQ.exit ?_
    refine eh rfl ?_
    cases h
    exact .ok rfl

theorem p_triglyphref03_Nums_ok {l : (List Int)} {r : Arr} (h : p_triglyphref03_Nums l = some r) : aval X 14 [.d (.list 1 (List.map (D.int .i64) l))] [] (CRes.ret (.d (encArr r)) []) := by
  unfold p_triglyphref03_Nums at h
  refine aval_start (tm := [(0, .d (.list 1 (List.map (D.int .i64) l)))]) (hp := []) (n := 0) rfl Tryd.func14 rfl rfl rfl rfl rfl rfl ?_
  refine ra (nid' := 1) rfl ?_
  refine awp_seq ?_
  refine rn 1 rfl ?_
  refine po (ellen rfl rfl rfl rfl rfl rfl rfl) rfl rfl ?_
  refine on (nid' := 2) 4 rfl ?_
  refine rz ?_
  refine awp_seq ?_
  refine ra rfl ?_
  obtain ⟨out11, hs, h⟩ := bind_inv h
  refine awp_nrm (fun (out11 : (List Cell)) => (⟨[(2, .c (.ptr 0 0)), (3, .c (.ptr 1 0))], [(1, [.d (.list 1 (List.map (D.int .i64) [(List.length l : Int)])), .own 3 (List.map encCell out11)]), (0, [.own 1 (List.map (D.int .i64) []), .own 3 (List.map encCell [])])], 2, [], none⟩ : St)) (y := out11) ?_ ?_
  · replace h := hs
    refine awp_block ?_
    refine awp_loop ?_
    exact awpL_at rfl rfl (p_triglyphref03_Nums_l0_ok _ _ h)
  · refine seqQ.normal ?_
    refine ra rfl ?_
    refine awp_ret ?_
    cases h
    exact ⟨⟨_, _, _, _, rfl, rfl, rfl, rfl, rfl⟩⟩

end Go.AM.Seat

namespace Go.AM.Seat
open Go Go.AM Go.Proofs
set_option maxRecDepth 100000
set_option maxHeartbeats 4000000
set_option linter.unusedVariables false

theorem p_stringslite_HasPrefix_ok {s : Str} {prefix_ : Str} {r : Bool} (h : p_stringslite_HasPrefix s prefix_ = some r) : aval X 19 [.d (.str s), .d (.str prefix_)] [] (CRes.ret (.d (.bool r)) []) := by
  unfold p_stringslite_HasPrefix at h
  refine aval_start (tm := [(0, .d (.str s)), (1, .d (.str prefix_))]) (hp := []) (n := 0) rfl Tryd.func19 rfl rfl rfl rfl rfl rfl ?_
  refine ra rfl ?_
  refine awp_seq ?_
  refine rn 6 rfl ?_
  rcases ite_inv h with ⟨hc, h⟩ | ⟨hc, h⟩
  · refine gt rfl rfl rfl rfl hc rfl ?_
    refine on 3 rfl ?_
    obtain ⟨s1, hk, h⟩ := bind_inv h
    refine po (esto hk rfl rfl rfl rfl) rfl rfl ?_
    refine on 4 rfl ?_
    refine rz ?_
    refine awp_ret ?_
    cases h
    exact ⟨⟨_, _, _, _, rfl, rfl, rfl, rfl, rfl⟩⟩
  · refine gf rfl rfl rfl rfl hc rfl ?_
    refine on 8 rfl ?_
    refine rz ?_
    refine awp_ret ?_
    cases h
    exact ⟨⟨_, _, _, _, rfl, rfl, rfl, rfl, rfl⟩⟩

end Go.AM.Seat

namespace Go.AM.Seat
open Go Go.AM Go.Proofs
set_option maxRecDepth 100000
set_option maxHeartbeats 4000000
set_option linter.unusedVariables false

theorem p_strings_HasPrefix_ok {s : Str} {prefix_ : Str} {r : Bool} (h : p_strings_HasPrefix s prefix_ = some r) : aval X 15 [.d (.str s), .d (.str prefix_)] [] (CRes.ret (.d (.bool r)) []) := by
  unfold p_strings_HasPrefix at h
  refine aval_start (tm := [(0, .d (.str s)), (1, .d (.str prefix_))]) (hp := []) (n := 0) rfl Tryd.func15 rfl rfl rfl rfl rfl rfl ?_
  refine ra rfl ?_
  refine awp_seq ?_
  refine rn 2 rfl ?_
  obtain ⟨x, hk, h⟩ := bind_inv h
  refine po (ecall (p_stringslite_HasPrefix_ok hk) rfl rfl rfl rfl rfl rfl rfl rfl rfl) rfl rfl ?_
  refine on 1 rfl ?_
  refine rz ?_
  refine awp_ret ?_
  cases h
  exact ⟨⟨_, _, _, _, rfl, rfl, rfl, rfl, rfl⟩⟩

end Go.AM.Seat

namespace Go.AM.Seat
open Go Go.AM Go.Proofs
set_option maxRecDepth 100000
set_option maxHeartbeats 4000000
set_option linter.unusedVariables false

theorem p_runes_first_ok {c : Int} {r : Int × Int} (h : p_runes_first c = some r) : aval X 31 [.d (.int .u8 c)] [] (CRes.ret (.tuple [.d (.int .i64 r.1), .d (.int .i64 r.2)]) []) := by
  unfold p_runes_first at h
  refine aval_start (tm := [(0, .d (.int .u8 c))]) (hp := []) (n := 0) rfl Tryd.func31 rfl rfl rfl rfl rfl rfl ?_
  refine ra rfl ?_
  refine awp_seq ?_
  refine awp_block ?_
  refine awp_seq ?_
  refine awp_block ?_
  refine awp_seq ?_
  refine awp_block ?_
  refine awp_seq ?_
  refine awp_block ?_
  refine awp_block ?_
  refine awp_seq ?_
  refine awp_block ?_
  refine awp_seq ?_
  refine awp_seq ?_
  refine ra rfl ?_
  rcases ite_inv h with ⟨hc, h⟩ | ⟨hc, h⟩
  · refine ct rfl hc ?_
    refine awp_exit ?_
    refine condQ.exit ?_
    refine seqQ.exit ?_
    refine seqQ.exit ?_
    refine eh rfl ?_
    refine seqQ.normal ?_
    refine awp_seq ?_
    refine ra rfl ?_
    refine awp_ret ?_
    refine seqQ.ret ?_
    refine exitQ.ret ?_
    refine exitQ.ret ?_
    refine seqQ.ret ?_
    refine exitQ.ret ?_
    refine seqQ.ret ?_
    refine exitQ.ret ?_
    refine seqQ.ret ?_
    refine exitQ.ret ?_
    refine seqQ.ret ?_
    cases h
    exact ⟨⟨_, _, _, _, rfl, rfl, rfl, rfl, rfl⟩⟩
  · refine cf rfl hc ?_
    refine awp_skip ?_
    refine cn rfl ?_
    refine seqQ.normal ?_
    refine awp_seq ?_
    refine ra rfl ?_
    rcases ite_inv h with ⟨hc, h⟩ | ⟨hc, h⟩
    · refine ct rfl hc ?_
      refine awp_exit ?_
      refine condQ.exit ?_
      refine seqQ.exit ?_
      refine seqQ.exit ?_
      refine exitQ.there rfl ?_
      refine seqQ.exit ?_
      refine eh rfl ?_
      refine en rfl ?_
      refine seqQ.normal ?_
      refine awp_seq ?_
      refine ra rfl ?_
      refine awp_ret ?_
      refine seqQ.ret ?_
      refine exitQ.ret ?_
      refine seqQ.ret ?_
      refine exitQ.ret ?_
      refine seqQ.ret ?_
      refine exitQ.ret ?_
      refine seqQ.ret ?_
      cases h
      exact ⟨⟨_, _, _, _, rfl, rfl, rfl, rfl, rfl⟩⟩
    · refine cf rfl hc ?_
      refine awp_skip ?_
      refine cn rfl ?_
      refine seqQ.normal ?_
      refine awp_seq ?_
      refine ra rfl ?_
      rcases ite_inv h with ⟨hc, h⟩ | ⟨hc, h⟩
      · refine ct rfl hc ?_
        refine awp_exit ?_
        refine condQ.exit ?_
        refine seqQ.exit ?_
        refine seqQ.exit ?_
        refine exitQ.there rfl ?_
        refine seqQ.exit ?_
        refine exitQ.there rfl ?_
        refine eh rfl ?_
        refine seqQ.normal ?_
        refine awp_seq ?_
        refine ra rfl ?_
        refine awp_ret ?_
        refine seqQ.ret ?_
        refine exitQ.ret ?_
        refine seqQ.ret ?_
        refine exitQ.ret ?_
        refine seqQ.ret ?_
        refine exitQ.ret ?_
        refine seqQ.ret ?_
        cases h
        exact ⟨⟨_, _, _, _, rfl, rfl, rfl, rfl, rfl⟩⟩
      · refine cf rfl hc ?_
        refine awp_skip ?_
        refine cn rfl ?_
        refine seqQ.normal ?_
        refine awp_seq ?_
        refine ra rfl ?_
        rcases ite_inv h with ⟨hc, h⟩ | ⟨hc, h⟩
        · refine ct rfl hc ?_
          refine awp_exit ?_
          refine condQ.exit ?_
          refine seqQ.exit ?_
          refine seqQ.exit ?_
          refine exitQ.there rfl ?_
          refine seqQ.exit ?_
          refine exitQ.there rfl ?_
          refine exitQ.there rfl ?_
          refine seqQ.exit ?_
          refine eh rfl ?_
          refine seqQ.normal ?_
          refine awp_seq ?_
          refine ra rfl ?_
          refine awp_ret ?_
          refine seqQ.ret ?_
          refine exitQ.ret ?_
          refine seqQ.ret ?_
          refine exitQ.ret ?_
          refine seqQ.ret ?_
          cases h
          exact ⟨⟨_, _, _, _, rfl, rfl, rfl, rfl, rfl⟩⟩
        · refine cf rfl hc ?_
          refine awp_skip ?_
          refine cn rfl ?_
          refine seqQ.normal ?_
          refine ra rfl ?_
          rcases ite_inv h with ⟨hc, h⟩ | ⟨hc, h⟩
          · refine ct rfl hc ?_
            refine awp_exit ?_
            refine condQ.exit ?_
            refine seqQ.exit ?_
            refine exitQ.there rfl ?_
            refine seqQ.exit ?_
            refine exitQ.there rfl ?_
            refine exitQ.there rfl ?_
            refine seqQ.exit ?_
            refine exitQ.there rfl ?_
            refine seqQ.exit ?_
            refine eh rfl ?_
            refine seqQ.normal ?_
            refine awp_seq ?_
            refine ra rfl ?_
            refine awp_ret ?_
            refine seqQ.ret ?_
            refine exitQ.ret ?_
            refine seqQ.ret ?_
            cases h
            exact ⟨⟨_, _, _, _, rfl, rfl, rfl, rfl, rfl⟩⟩
          · refine cf rfl hc ?_
            refine awp_skip ?_
            refine cn rfl ?_
            refine seqQ.normal ?_
            refine awp_exit ?_
            refine exitQ.there rfl ?_
            refine seqQ.exit ?_
            refine exitQ.there rfl ?_
            refine exitQ.there rfl ?_
            refine seqQ.exit ?_
            refine exitQ.there rfl ?_
            refine seqQ.exit ?_
            refine exitQ.there rfl ?_
            refine seqQ.exit ?_
            refine eh rfl ?_
            refine seqQ.normal ?_
            refine ra rfl ?_
            refine awp_ret ?_
            cases h
            exact ⟨⟨_, _, _, _, rfl, rfl, rfl, rfl, rfl⟩⟩

end Go.AM.Seat

namespace Go.AM.Seat
open Go Go.AM Go.Proofs
set_option maxRecDepth 100000
set_option maxHeartbeats 4000000
set_option linter.unusedVariables false

theorem p_runes_Good_ok {n : Int} {r : Bool} (h : p_runes_Good n = some r) : aval X 32 [.d (.int .i64 n)] [] (CRes.ret (.d (.bool r)) []) := by
  unfold p_runes_Good at h
  refine aval_start (tm := [(0, .d (.int .i64 n))]) (hp := []) (n := 0) rfl Tryd.func32 rfl rfl rfl rfl rfl rfl ?_
  refine ra rfl ?_
  refine awp_seq ?_
  refine rn 3 rfl ?_
  rcases ite_inv h with ⟨hc, h⟩ | ⟨hc, h⟩
  · refine gt rfl rfl rfl rfl hc rfl ?_
    refine on 4 rfl ?_
    rcases ite_inv h with ⟨hc, h⟩ | ⟨hc, h⟩
    · refine gt rfl rfl rfl rfl hc rfl ?_
      refine on 3 rfl ?_
      rcases ite_inv h with ⟨hc, h⟩ | ⟨hc, h⟩
      · refine gt rfl rfl rfl rfl hc rfl ?_
        refine on 5 rfl ?_
        refine rz ?_
        refine awp_ret ?_
        cases h
        exact ⟨⟨_, _, _, _, rfl, rfl, rfl, rfl, rfl⟩⟩
      · refine gf rfl rfl rfl rfl hc rfl ?_
        refine on 5 rfl ?_
        refine rz ?_
        refine awp_ret ?_
        cases h
        exact ⟨⟨_, _, _, _, rfl, rfl, rfl, rfl, rfl⟩⟩
    · refine gf rfl rfl rfl rfl hc rfl ?_
      refine on 8 rfl ?_
      refine rz ?_
      refine awp_ret ?_
      cases h
      exact ⟨⟨_, _, _, _, rfl, rfl, rfl, rfl, rfl⟩⟩
  · refine gf rfl rfl rfl rfl hc rfl ?_
    refine on 12 rfl ?_
    refine rz ?_
    refine awp_ret ?_
    cases h
    exact ⟨⟨_, _, _, _, rfl, rfl, rfl, rfl, rfl⟩⟩

end Go.AM.Seat

namespace Go.AM.Seat
open Go Go.AM Go.Proofs
set_option maxRecDepth 100000
set_option maxHeartbeats 4000000
set_option linter.unusedVariables false

theorem p_runes_put_ok {n : Int} {r : (List Int)} (h : p_runes_put n = some r) : aval X 33 [.nilsl 1, .d (.int .i64 n)] [] (CRes.ret (.d (.list 1 (List.map (D.int .u8) r))) []) := by
  unfold p_runes_put at h
  refine aval_start (tm := [(0, .c (.nilsl 1)), (1, .d (.int .i64 n))]) (hp := []) (n := 0) rfl Tryd.func33 rfl rfl rfl rfl rfl rfl ?_
  refine ra rfl ?_
  refine awp_seq ?_
  refine awp_block ?_
  refine ra rfl ?_
  rcases ite_inv h with ⟨hc, h⟩ | ⟨hc, h⟩
  · refine ct rfl hc ?_
    refine awp_seq ?_
    refine rn 4 rfl ?_
    obtain ⟨l, hk, h⟩ := bind_inv h
    refine po (eappn hk rfl rfl rfl rfl rfl rfl rfl rfl rfl rfl rfl rfl ) rfl rfl ?_
    refine on 1 rfl ?_
    refine rz ?_
    refine awp_ret ?_
    refine condQ.ret ?_
    refine exitQ.ret ?_
    refine seqQ.ret ?_
    cases h
    exact ⟨⟨_, _, _, _, rfl, rfl, rfl, rfl, rfl⟩⟩
  · refine cf rfl hc ?_
    refine ra rfl ?_
    rcases ite_inv h with ⟨hc, h⟩ | ⟨hc, h⟩
    · refine ct rfl hc ?_
      refine awp_seq ?_
      refine rn 10 rfl ?_
      obtain ⟨l1, hk, h⟩ := bind_inv h
      refine po (eappn hk rfl rfl rfl rfl rfl rfl rfl rfl rfl rfl rfl rfl ) rfl rfl ?_
      refine on 1 rfl ?_
      refine rz ?_
      refine awp_ret ?_
      refine condQ.ret ?_
      refine condQ.ret ?_
      refine exitQ.ret ?_
      refine seqQ.ret ?_
      cases h
      exact ⟨⟨_, _, _, _, rfl, rfl, rfl, rfl, rfl⟩⟩
    · refine cf rfl hc ?_
      refine ra rfl ?_
      rcases ite_inv h with ⟨hc, h⟩ | ⟨hc, h⟩
      · refine ct rfl hc ?_
        refine awp_seq ?_
        refine rn 15 rfl ?_
        obtain ⟨l2, hk, h⟩ := bind_inv h
        refine po (eappn hk rfl rfl rfl rfl rfl rfl rfl rfl rfl rfl rfl rfl ) rfl rfl ?_
        refine on 1 rfl ?_
        refine rz ?_
        refine awp_ret ?_
        refine condQ.ret ?_
        refine condQ.ret ?_
        refine condQ.ret ?_
        refine exitQ.ret ?_
        refine seqQ.ret ?_
        cases h
        exact ⟨⟨_, _, _, _, rfl, rfl, rfl, rfl, rfl⟩⟩
      · refine cf rfl hc ?_
        refine awp_skip ?_
        refine cn rfl ?_
        refine cn rfl ?_
        refine cn rfl ?_
        refine en rfl ?_
        refine seqQ.normal ?_
        refine awp_seq ?_
        refine rn 20 rfl ?_
        obtain ⟨l3, hk, h⟩ := bind_inv h
        refine po (eappn hk rfl rfl rfl rfl rfl rfl rfl rfl rfl rfl rfl rfl ) rfl rfl ?_
        refine on 1 rfl ?_
        refine rz ?_
        refine awp_ret ?_
        cases h
        exact ⟨⟨_, _, _, _, rfl, rfl, rfl, rfl, rfl⟩⟩

end Go.AM.Seat

namespace Go.AM.Seat
open Go Go.AM Go.Proofs
set_option maxRecDepth 100000
set_option maxHeartbeats 4000000
set_option linter.unusedVariables false

theorem p_runes_One_l0_ok (k : Int) : ∀ (a : (List Int) × Int × Int) (res : Except (Int × Int) (Int)), p_runes_One_l0 a = some res → (match a with | (l, n1, x) => awpL X 20 (codeAt [1, 1, 1, 1, 0, 1, 0, 0] (bodyOf Tryd.f20)) (cleanAt (X.H 20 7) 0) (exitQ 0 (X.H 20 1000000) 0 (SubQ X Tryd.f20 0 (fun (r : Int × Int) => (CRes.ret (.tuple [.d (.int .i64 r.1), .d (.int .i64 r.2)]) [])) (fun (n2 : Int) => (⟨[(4, .d (.int .i64 k)), (5, .d (.int .i64 n2))], [], 0, [], none⟩ : St)) res)) ⟨[(4, .d (.int .i64 k)), (5, .d (.int .i64 n1)), (28, .d (.list 1 (List.map (D.int .u8) l))), (29, .d (.int .i64 (List.length l : Int))), (30, .d (.int .i64 x))], [], 0, [], none⟩) := by
  refine p_runes_One_l0.partial_correctness (motive := (fun a res => match a with | (l, n1, x) => awpL X 20 (codeAt [1, 1, 1, 1, 0, 1, 0, 0] (bodyOf Tryd.f20)) (cleanAt (X.H 20 7) 0) (exitQ 0 (X.H 20 1000000) 0 (SubQ X Tryd.f20 0 (fun (r : Int × Int) => (CRes.ret (.tuple [.d (.int .i64 r.1), .d (.int .i64 r.2)]) [])) (fun (n2 : Int) => (⟨[(4, .d (.int .i64 k)), (5, .d (.int .i64 n2))], [], 0, [], none⟩ : St)) res)) ⟨[(4, .d (.int .i64 k)), (5, .d (.int .i64 n1)), (28, .d (.list 1 (List.map (D.int .u8) l))), (29, .d (.int .i64 (List.length l : Int))), (30, .d (.int .i64 x))], [], 0, [], none⟩)) ?_
  rintro p_runes_One_l0' ih ⟨l, n1, x⟩ res h
  refine lg rfl ?_
  refine ra rfl ?_
  refine awp_seq ?_
  rcases ite_inv h with ⟨hc, h⟩ | ⟨hc, h⟩
  · refine ct rfl hc ?_
    refine awp_skip ?_
    refine cn rfl ?_
    refine seqQ.normal ?_
    refine awp_seq ?_
    refine awp_block ?_
    refine awp_seq ?_
    refine rn 0 rfl ?_
    obtain ⟨c, hk, h⟩ := bind_inv h
    refine po (elget (D.int .u8) (fun _ => rfl) hk rfl rfl rfl rfl rfl) rfl rfl ?_
    refine on 2 rfl ?_
    refine rz ?_
    refine awp_seq ?_
    refine ra rfl ?_
    rcases ite_inv h with ⟨hc, h⟩ | ⟨hc, h⟩
    · refine ct rfl hc ?_
      refine ra rfl ?_
      refine awp_ret ?_
      refine condQ.ret ?_
      refine seqQ.ret ?_
      refine exitQ.ret ?_
      refine seqQ.ret ?_
      refine loopQ.ret ?_
      refine exitQ.ret ?_
      cases h
      exact .err ⟨⟨_, _, _, _, rfl, rfl, rfl, rfl, rfl⟩⟩
    · refine cf rfl hc ?_
      refine awp_skip ?_
      refine cn rfl ?_
      refine seqQ.normal ?_
      refine rn 7 rfl ?_
      refine awpO_nil ?_
      refine en rfl ?_
      refine seqQ.normal ?_
      refine rn 2 rfl ?_
      refine awpO_nil ?_
      refine loopQ.normal ?_
      exact awpL_at rfl rfl (ih _ _ h)
  · refine cf rfl hc ?_
    refine awp_exit ?_
    refine condQ.exit ?_
    refine seqQ.exit ?_
    refine loopQ.exit ?_
    refine eh rfl ?_
    cases h
    exact .ok rfl

theorem p_runes_One_ok {b : (List Int)} {r : Int × Int} (h : p_runes_One b = some r) : aval X 20 [.d (.list 1 (List.map (D.int .u8) b))] [] (CRes.ret (.tuple [.d (.int .i64 r.1), .d (.int .i64 r.2)]) []) := by
  unfold p_runes_One at h
  refine aval_start (tm := [(0, .d (.list 1 (List.map (D.int .u8) b)))]) (hp := []) (n := 0) rfl Tryd.func20 rfl rfl rfl rfl rfl rfl ?_
  refine ra rfl ?_
  refine awp_seq ?_
  refine awp_seq ?_
  refine rn 1 rfl ?_
  refine po (ellen rfl rfl rfl rfl rfl rfl rfl) rfl rfl ?_
  refine on 1 rfl ?_
  refine rz ?_
  rcases ite_inv h with ⟨hc, h⟩ | ⟨hc, h⟩
  · refine ct rfl hc ?_
    refine ra rfl ?_
    refine awp_ret ?_
    refine condQ.ret ?_
    refine seqQ.ret ?_
    cases h
    exact ⟨⟨_, _, _, _, rfl, rfl, rfl, rfl, rfl⟩⟩
  · refine cf rfl hc ?_
    refine awp_skip ?_
    refine cn rfl ?_
    refine seqQ.normal ?_
    refine awp_seq ?_
    refine rn 1 rfl ?_
    obtain ⟨y, hk, h⟩ := bind_inv h
    refine po (elget (D.int .u8) (fun _ => rfl) hk rfl rfl rfl rfl rfl) rfl rfl ?_
    refine on 1 rfl ?_
    obtain ⟨⟨k, n⟩, hk, h⟩ := bind_inv h
    refine po (ecall (p_runes_first_ok hk) rfl rfl rfl rfl rfl rfl rfl rfl rfl) rfl rfl ?_
    refine on 5 rfl ?_
    refine rz ?_
    refine awp_seq ?_
    refine awp_seq ?_
    refine rn 3 rfl ?_
    rcases ite_inv h with ⟨hc, h⟩ | ⟨hc, h⟩
    · refine gt rfl rfl rfl rfl hc rfl ?_
      refine on 5 rfl ?_
      refine rz ?_
      refine ct rfl rfl ?_
      refine ra rfl ?_
      refine awp_ret ?_
      refine condQ.ret ?_
      refine seqQ.ret ?_
      cases h
      exact ⟨⟨_, _, _, _, rfl, rfl, rfl, rfl, rfl⟩⟩
    · refine gf rfl rfl rfl rfl hc rfl ?_
      refine on 2 rfl ?_
      refine po (ellen rfl rfl rfl rfl rfl rfl rfl) rfl rfl ?_
      refine on 2 rfl ?_
      refine rz ?_
      rcases ite_inv h with ⟨hc, h⟩ | ⟨hc, h⟩
      · refine ct rfl hc ?_
        refine ra rfl ?_
        refine awp_ret ?_
        refine condQ.ret ?_
        refine seqQ.ret ?_
        cases h
        exact ⟨⟨_, _, _, _, rfl, rfl, rfl, rfl, rfl⟩⟩
      · refine cf rfl hc ?_
        refine awp_skip ?_
        refine cn rfl ?_
        refine seqQ.normal ?_
        refine awp_seq ?_
        refine awp_seq ?_
        refine rn 2 rfl ?_
        obtain ⟨l, hk, h⟩ := bind_inv h
        refine po (elmid hk rfl rfl rfl rfl rfl rfl rfl) rfl rfl ?_
        refine po (ellen rfl rfl rfl rfl rfl rfl rfl) rfl rfl ?_
        refine on 1 rfl ?_
        refine rz ?_
        obtain ⟨res, hs, h⟩ := bind_inv h
        refine awp_sub Tryd.f20 0 (fun (r : Int × Int) => (CRes.ret (.tuple [.d (.int .i64 r.1), .d (.int .i64 r.2)]) [])) (fun (n2 : Int) => (⟨[(4, .d (.int .i64 k)), (5, .d (.int .i64 n2))], [], 0, [], none⟩ : St)) (res := res) ?_ (fun y hy => ?_) (fun r s' hr he => ?_)
        · replace h := hs
          refine awp_block ?_
          refine awp_loop ?_
          exact awpL_at rfl rfl (p_runes_One_l0_ok k _ _ h)
        · subst hy
          obtain n2 := y
          refine seqQ.normal ?_
          refine awp_seq ?_
          refine awp_seq ?_
          refine rn 1 rfl ?_
          obtain ⟨x1, hk, h⟩ := bind_inv h
          refine po (ecall (p_runes_Good_ok hk) rfl rfl rfl rfl rfl rfl rfl rfl rfl) rfl rfl ?_
          refine on 2 rfl ?_
          rcases ite_inv h with ⟨hc, h⟩ | ⟨hc, h⟩
          · refine gt rfl rfl rfl rfl hc rfl ?_
            refine on 6 rfl ?_
            refine rz ?_
            refine ct rfl rfl ?_
            refine ra rfl ?_
            refine awp_ret ?_
            refine condQ.ret ?_
            refine seqQ.ret ?_
            cases h
            exact ⟨⟨_, _, _, _, rfl, rfl, rfl, rfl, rfl⟩⟩
          · refine gf rfl rfl rfl rfl hc rfl ?_
            refine on 1 rfl ?_
            obtain ⟨x2, hk, h⟩ := bind_inv h
            refine po (ecallk (p_runes_put_ok hk) rfl rfl rfl rfl rfl rfl rfl) rfl rfl ?_
            refine po (ellen rfl rfl rfl rfl rfl rfl rfl) rfl rfl ?_
            refine on 3 rfl ?_
            refine rz ?_
            rcases ite_inv h with ⟨hc, h⟩ | ⟨hc, h⟩
            · refine ct rfl hc ?_
              refine ra rfl ?_
              refine awp_ret ?_
              refine condQ.ret ?_
              refine seqQ.ret ?_
              cases h
              exact ⟨⟨_, _, _, _, rfl, rfl, rfl, rfl, rfl⟩⟩
            · refine cf rfl hc ?_
              refine awp_skip ?_
              refine cn rfl ?_
              refine seqQ.normal ?_
              refine ra rfl ?_
              refine awp_ret ?_
              cases h
              exact ⟨⟨_, _, _, _, rfl, rfl, rfl, rfl, rfl⟩⟩
        · subst hr
          refine seqQ.ret ?_
          cases h
          exact he

end Go.AM.Seat

namespace Go.AM.Seat
open Go Go.AM Go.Proofs
set_option maxRecDepth 100000
set_option maxHeartbeats 4000000
set_option linter.unusedVariables false

theorem p_jlex_digit_ok {c : Int} {r : Bool} (h : p_jlex_digit c = some r) : aval X 27 [.d (.int .u8 c)] [] (CRes.ret (.d (.bool r)) []) := by
  unfold p_jlex_digit at h
  refine aval_start (tm := [(0, .d (.int .u8 c))]) (hp := []) (n := 0) rfl Tryd.func27 rfl rfl rfl rfl rfl rfl ?_
  refine ra rfl ?_
  refine awp_seq ?_
  refine rn 3 rfl ?_
  rcases ite_inv h with ⟨hc, h⟩ | ⟨hc, h⟩
  · refine gt rfl rfl rfl rfl hc rfl ?_
    refine on 4 rfl ?_
    refine rz ?_
    refine awp_ret ?_
    cases h
    exact ⟨⟨_, _, _, _, rfl, rfl, rfl, rfl, rfl⟩⟩
  · refine gf rfl rfl rfl rfl hc rfl ?_
    refine on 4 rfl ?_
    refine rz ?_
    refine awp_ret ?_
    cases h
    exact ⟨⟨_, _, _, _, rfl, rfl, rfl, rfl, rfl⟩⟩

end Go.AM.Seat

namespace Go.AM.Seat
open Go Go.AM Go.Proofs
set_option maxRecDepth 100000
set_option maxHeartbeats 4000000
set_option linter.unusedVariables false

theorem p_jlex_at_ok {s : Str} {i : Int} {r : Int} (h : p_jlex_at s i = some r) : aval X 28 [.d (.str s), .d (.int .i64 i)] [] (CRes.ret (.d (.int .u8 r)) []) := by
  unfold p_jlex_at at h
  refine aval_start (tm := [(0, .d (.str s)), (1, .d (.int .i64 i))]) (hp := []) (n := 0) rfl Tryd.func28 rfl rfl rfl rfl rfl rfl ?_
  refine ra rfl ?_
  refine awp_seq ?_
  refine ra rfl ?_
  rcases ite_inv h with ⟨hc, h⟩ | ⟨hc, h⟩
  · refine ct rfl hc ?_
    refine awp_seq ?_
    refine rn 2 rfl ?_
    obtain ⟨c, hk, h⟩ := bind_inv h
    refine po (esget hk rfl rfl rfl rfl) rfl rfl ?_
    refine on 1 rfl ?_
    refine rz ?_
    refine awp_ret ?_
    refine condQ.ret ?_
    refine seqQ.ret ?_
    cases h
    exact ⟨⟨_, _, _, _, rfl, rfl, rfl, rfl, rfl⟩⟩
  · refine cf rfl hc ?_
    refine awp_skip ?_
    refine cn rfl ?_
    refine seqQ.normal ?_
    refine ra rfl ?_
    refine awp_ret ?_
    cases h
    exact ⟨⟨_, _, _, _, rfl, rfl, rfl, rfl, rfl⟩⟩

end Go.AM.Seat

namespace Go.AM.Seat
open Go Go.AM Go.Proofs
set_option maxRecDepth 100000
set_option maxHeartbeats 4000000
set_option linter.unusedVariables false

theorem p_jlex_begins_ok {s : Str} {r : Bool} (h : p_jlex_begins s = some r) : aval X 21 [.d (.str s)] [] (CRes.ret (.d (.bool r)) []) := by
  unfold p_jlex_begins at h
  refine aval_start (tm := [(0, .d (.str s))]) (hp := []) (n := 0) rfl Tryd.func21 rfl rfl rfl rfl rfl rfl ?_
  refine ra rfl ?_
  refine awp_seq ?_
  refine rn 1 rfl ?_
  obtain ⟨x, hk, h⟩ := bind_inv h
  refine po (ecall (p_jlex_at_ok hk) rfl rfl rfl rfl rfl rfl rfl rfl rfl) rfl rfl ?_
  obtain ⟨x1, hk, h⟩ := bind_inv h
  refine po (ecall (p_jlex_digit_ok hk) rfl rfl rfl rfl rfl rfl rfl rfl rfl) rfl rfl ?_
  refine on 1 rfl ?_
  rcases ite_inv h with ⟨hc, h⟩ | ⟨hc, h⟩
  · refine gt rfl rfl rfl rfl hc rfl ?_
    refine on 10 rfl ?_
    refine rz ?_
    refine awp_ret ?_
    cases h
    exact ⟨⟨_, _, _, _, rfl, rfl, rfl, rfl, rfl⟩⟩
  · refine gf rfl rfl rfl rfl hc rfl ?_
    refine on 1 rfl ?_
    obtain ⟨x2, hk, h⟩ := bind_inv h
    refine po (ecall (p_jlex_at_ok hk) rfl rfl rfl rfl rfl rfl rfl rfl rfl) rfl rfl ?_
    refine on 2 rfl ?_
    rcases ite_inv h with ⟨hc, h⟩ | ⟨hc, h⟩
    · refine gt rfl rfl rfl rfl hc rfl ?_
      refine on 1 rfl ?_
      obtain ⟨x3, hk, h⟩ := bind_inv h
      refine po (ecall (p_jlex_at_ok hk) rfl rfl rfl rfl rfl rfl rfl rfl rfl) rfl rfl ?_
      obtain ⟨x4, hk, h⟩ := bind_inv h
      refine po (ecall (p_jlex_digit_ok hk) rfl rfl rfl rfl rfl rfl rfl rfl rfl) rfl rfl ?_
      refine on 3 rfl ?_
      refine rz ?_
      refine awp_ret ?_
      cases h
      exact ⟨⟨_, _, _, _, rfl, rfl, rfl, rfl, rfl⟩⟩
    · refine gf rfl rfl rfl rfl hc rfl ?_
      refine on 6 rfl ?_
      refine rz ?_
      refine awp_ret ?_
      cases h
      exact ⟨⟨_, _, _, _, rfl, rfl, rfl, rfl, rfl⟩⟩

end Go.AM.Seat

namespace Go.AM.Seat
open Go Go.AM Go.Proofs
set_option maxRecDepth 100000
set_option maxHeartbeats 4000000
set_option linter.unusedVariables false

theorem p_jlex_number_l0_ok : ∀ (a : Str × Int × Int × Bool) (res : Int × Int × Bool), p_jlex_number_l0 a = some res → (match a with | (s, k1, n, ok) => awpL X 34 (codeAt [1, 1, 1, 1, 0, 0, 0] (bodyOf Tryd.f34)) (cleanAt (X.H 34 5) 0) (exitQ 0 (X.H 34 1000000) 0 (NrmQ (fun ((k2, n2, ok2) : Int × Int × Bool) => (⟨[(0, .d (.str s)), (5, .d (.int .i64 k2)), (6, .d (.int .u64 n2)), (7, .d (.bool ok2))], [], 0, [], none⟩ : St)) res)) ⟨[(0, .d (.str s)), (5, .d (.int .i64 k1)), (6, .d (.int .u64 n)), (7, .d (.bool ok))], [], 0, [], none⟩) := by
  refine p_jlex_number_l0.partial_correctness (motive := (fun a res => match a with | (s, k1, n, ok) => awpL X 34 (codeAt [1, 1, 1, 1, 0, 0, 0] (bodyOf Tryd.f34)) (cleanAt (X.H 34 5) 0) (exitQ 0 (X.H 34 1000000) 0 (NrmQ (fun ((k2, n2, ok2) : Int × Int × Bool) => (⟨[(0, .d (.str s)), (5, .d (.int .i64 k2)), (6, .d (.int .u64 n2)), (7, .d (.bool ok2))], [], 0, [], none⟩ : St)) res)) ⟨[(0, .d (.str s)), (5, .d (.int .i64 k1)), (6, .d (.int .u64 n)), (7, .d (.bool ok))], [], 0, [], none⟩)) ?_
  rintro p_jlex_number_l0' ih ⟨s, k1, n, ok⟩ res h
  refine lg rfl ?_
  refine awp_seq ?_
  refine awp_seq ?_
  refine rn 2 rfl ?_
  obtain ⟨x, hk, h⟩ := bind_inv h
  refine po (ecall (p_jlex_at_ok hk) rfl rfl rfl rfl rfl rfl rfl rfl rfl) rfl rfl ?_
  obtain ⟨x1, hk, h⟩ := bind_inv h
  refine po (ecall (p_jlex_digit_ok hk) rfl rfl rfl rfl rfl rfl rfl rfl rfl) rfl rfl ?_
  refine rz ?_
  rcases ite_inv h with ⟨hc, h⟩ | ⟨hc, h⟩
  · refine ct rfl hc ?_
    refine awp_skip ?_
    refine cn rfl ?_
    refine seqQ.normal ?_
    refine awp_seq ?_
    obtain ⟨⟨n1, ok1⟩, hs, h⟩ := bind_inv h
    refine awp_nrm (fun ((n1, ok1) : Int × Bool) => (⟨[(0, .d (.str s)), (5, .d (.int .i64 k1)), (6, .d (.int .u64 n1)), (7, .d (.bool ok1))], [], 0, [], none⟩ : St)) (y := (n1, ok1)) ?_ ?_
    · replace h := hs
      refine awp_block ?_
      refine awp_seq ?_
      refine rn 2 rfl ?_
      obtain ⟨c1, hk, h⟩ := bind_inv h
      refine po (esget hk rfl rfl rfl rfl) rfl rfl ?_
      refine on 3 rfl ?_
      refine rz ?_
      refine awp_seq ?_
      refine rn 2 rfl ?_
      rcases ite_inv h with ⟨hc, h⟩ | ⟨hc, h⟩
      · refine gt rfl rfl rfl rfl hc rfl ?_
        refine on 7 rfl ?_
        refine rz ?_
        refine rn 5 rfl ?_
        refine awpO_nil ?_
        refine en rfl ?_
        cases h
        exact .ok rfl
      · refine gf rfl rfl rfl rfl hc rfl ?_
        refine on 7 rfl ?_
        refine rz ?_
        refine rn 5 rfl ?_
        refine awpO_nil ?_
        refine en rfl ?_
        cases h
        exact .ok rfl
    · refine seqQ.normal ?_
      refine rn 3 rfl ?_
      refine awpO_nil ?_
      refine loopQ.normal ?_
      exact awpL_at rfl rfl (ih _ _ h)
  · refine cf rfl hc ?_
    refine awp_exit ?_
    refine condQ.exit ?_
    refine seqQ.exit ?_
    refine loopQ.exit ?_
    refine eh rfl ?_
    cases h
    exact .ok rfl

theorem p_jlex_number_ok {s : Str} {r : Int × Int × Bool} (h : p_jlex_number s = some r) : aval X 34 [.d (.str s)] [] (CRes.ret (.tuple [.d (.int .i64 r.1), .d (.int .i64 r.2.1), .d (.bool r.2.2)]) []) := by
  unfold p_jlex_number at h
  refine aval_start (tm := [(0, .d (.str s))]) (hp := []) (n := 0) rfl Tryd.func34 rfl rfl rfl rfl rfl rfl ?_
  refine ra rfl ?_
  refine ra rfl ?_
  refine awp_seq ?_
  refine awp_seq ?_
  refine rn 1 rfl ?_
  obtain ⟨c, hk, h⟩ := bind_inv h
  refine po (esget hk rfl rfl rfl rfl) rfl rfl ?_
  refine on 1 rfl ?_
  refine rz ?_
  obtain ⟨k, hs, h⟩ := bind_inv h
  refine awp_nrm (fun (k : Int) => (⟨[(0, .d (.str s)), (5, .d (.int .i64 k))], [], 0, [], none⟩ : St)) (y := k) ?_ ?_
  · replace h := hs
    rcases ite_inv h with ⟨hc, h⟩ | ⟨hc, h⟩
    · refine ct rfl hc ?_
      refine rn 1 rfl ?_
      refine awpO_nil ?_
      refine cn rfl ?_
      cases h
      exact .ok rfl
    · refine cf rfl hc ?_
      refine awp_skip ?_
      refine cn rfl ?_
      cases h
      exact .ok rfl
  · refine seqQ.normal ?_
    refine ra rfl ?_
    refine awp_seq ?_
    obtain ⟨⟨k2, n2, ok2⟩, hs, h⟩ := bind_inv h
    refine awp_nrm (fun ((k2, n2, ok2) : Int × Int × Bool) => (⟨[(0, .d (.str s)), (5, .d (.int .i64 k2)), (6, .d (.int .u64 n2)), (7, .d (.bool ok2))], [], 0, [], none⟩ : St)) (y := (k2, n2, ok2)) ?_ ?_
    · replace h := hs
      refine awp_block ?_
      refine awp_loop ?_
      exact awpL_at rfl rfl (p_jlex_number_l0_ok _ _ h)
    · refine seqQ.normal ?_
      refine awp_seq ?_
      refine awp_seq ?_
      refine rn 1 rfl ?_
      obtain ⟨c2, hk, h⟩ := bind_inv h
      refine po (esget hk rfl rfl rfl rfl) rfl rfl ?_
      refine on 1 rfl ?_
      refine rz ?_
      rcases ite_inv h with ⟨hc, h⟩ | ⟨hc, h⟩
      · refine ct rfl hc ?_
        refine ra rfl ?_
        refine awp_ret ?_
        refine condQ.ret ?_
        refine seqQ.ret ?_
        cases h
        exact ⟨⟨_, _, _, _, rfl, rfl, rfl, rfl, rfl⟩⟩
      · refine cf rfl hc ?_
        refine awp_skip ?_
        refine cn rfl ?_
        refine seqQ.normal ?_
        refine awp_seq ?_
        refine rn 5 rfl ?_
        rcases ite_inv h with ⟨hc, h⟩ | ⟨hc, h⟩
        · refine gt rfl rfl rfl rfl hc rfl ?_
          refine on 6 rfl ?_
          refine rz ?_
          refine awp_ret ?_
          cases h
          exact ⟨⟨_, _, _, _, rfl, rfl, rfl, rfl, rfl⟩⟩
        · refine gf rfl rfl rfl rfl hc rfl ?_
          refine on 6 rfl ?_
          refine rz ?_
          refine awp_ret ?_
          cases h
          exact ⟨⟨_, _, _, _, rfl, rfl, rfl, rfl, rfl⟩⟩

end Go.AM.Seat

namespace Go.AM.Seat
open Go Go.AM Go.Proofs
set_option maxRecDepth 100000
set_option maxHeartbeats 4000000
set_option linter.unusedVariables false

theorem p_arr_Atom_ok {n : Int} {r : Arr} (h : p_arr_Atom n = some r) : aval X 35 [.d (.int .i64 n)] [] (CRes.ret (.d (encArr r)) []) := by
  unfold p_arr_Atom at h
  refine aval_start (tm := [(0, .d (.int .i64 n))]) (hp := []) (n := 0) rfl Tryd.func35 rfl rfl rfl rfl rfl rfl ?_
  refine ra (nid' := 1) rfl ?_
  refine ra rfl ?_
  refine awp_ret ?_
  cases h
  exact ⟨⟨_, _, _, _, rfl, rfl, rfl, rfl, rfl⟩⟩

end Go.AM.Seat

namespace Go.AM.Seat
open Go Go.AM Go.Proofs
set_option maxRecDepth 100000
set_option maxHeartbeats 4000000
set_option linter.unusedVariables false

theorem p_arr_Nums_l0_ok : ∀ (a : ((List Int)) × Int × (List Cell)) (res : (List Cell)), p_arr_Nums_l0 a = some res → (match a with | (l, x, a1) => awpL X 36 (codeAt [1, 1, 0, 1, 0, 0] (bodyOf Tryd.f36)) (cleanAt (X.H 36 3) 2) (exitQ 0 (X.H 36 1000000) 2 (NrmQ (fun (a11 : (List Cell)) => (⟨[(2, .c (.ptr 0 0)), (3, .c (.ptr 1 0))], [(1, [.d (.list 1 (List.map (D.int .i64) [(List.length l : Int)])), .own 3 (List.map encCell a11)]), (0, [.own 1 (List.map (D.int .i64) []), .own 3 (List.map encCell [])])], 2, [], none⟩ : St)) res)) ⟨[(2, .c (.ptr 0 0)), (3, .c (.ptr 1 0)), (10, .d (.list 1 (List.map (D.int .i64) l))), (11, .d (.int .i64 (List.length l : Int))), (12, .d (.int .i64 x))], [(1, [.d (.list 1 (List.map (D.int .i64) [(List.length l : Int)])), .own 3 (List.map encCell a1)]), (0, [.own 1 (List.map (D.int .i64) []), .own 3 (List.map encCell [])])], 2, [], none⟩) := by
  refine p_arr_Nums_l0.partial_correctness (motive := (fun a res => match a with | (l, x, a1) => awpL X 36 (codeAt [1, 1, 0, 1, 0, 0] (bodyOf Tryd.f36)) (cleanAt (X.H 36 3) 2) (exitQ 0 (X.H 36 1000000) 2 (NrmQ (fun (a11 : (List Cell)) => (⟨[(2, .c (.ptr 0 0)), (3, .c (.ptr 1 0))], [(1, [.d (.list 1 (List.map (D.int .i64) [(List.length l : Int)])), .own 3 (List.map encCell a11)]), (0, [.own 1 (List.map (D.int .i64) []), .own 3 (List.map encCell [])])], 2, [], none⟩ : St)) res)) ⟨[(2, .c (.ptr 0 0)), (3, .c (.ptr 1 0)), (10, .d (.list 1 (List.map (D.int .i64) l))), (11, .d (.int .i64 (List.length l : Int))), (12, .d (.int .i64 x))], [(1, [.d (.list 1 (List.map (D.int .i64) [(List.length l : Int)])), .own 3 (List.map encCell a1)]), (0, [.own 1 (List.map (D.int .i64) []), .own 3 (List.map encCell [])])], 2, [], none⟩)) ?_
  rintro p_arr_Nums_l0' ih ⟨l, x, a1⟩ res h
  refine lg rfl ?_
  refine ra rfl ?_
  refine awp_seq ?_
  rcases ite_inv h with ⟨hc, h⟩ | ⟨hc, h⟩
  · refine ct rfl hc ?_
    refine awp_skip ?_
    refine cn rfl ?_
    refine seqQ.normal ?_
    refine awp_seq ?_
    refine awp_block ?_
    refine awp_seq ?_
    refine rn 0 rfl ?_
    obtain ⟨n, hk, h⟩ := bind_inv h
    refine po (elget (D.int .i64) (fun _ => rfl) hk rfl rfl rfl rfl rfl) rfl rfl ?_
    refine on 2 rfl ?_
    refine rz ?_
    refine rn 5 rfl ?_
    obtain ⟨l1, hk, h⟩ := bind_inv h
    refine po (eappc hk rfl rfl rfl rfl rfl rfl rfl rfl rfl rfl rfl rfl rfl rfl ) rfl rfl ?_
    refine on 2 rfl ?_
    refine awpO_nil ?_
    refine en rfl ?_
    refine seqQ.normal ?_
    refine rn 2 rfl ?_
    refine awpO_nil ?_
    refine loopQ.normal ?_
    exact awpL_at rfl rfl (ih _ _ h)
  · refine cf rfl hc ?_
    refine awp_exit ?_
    refine condQ.exit ?_
    refine seqQ.exit ?_
    refine loopQ.exit ?_
    refine eh rfl ?_
    cases h
    exact .ok rfl

theorem p_arr_Nums_ok {l : (List Int)} {r : Arr} (h : p_arr_Nums l = some r) : aval X 36 [.d (.list 1 (List.map (D.int .i64) l))] [] (CRes.ret (.d (encArr r)) []) := by
  unfold p_arr_Nums at h
  refine aval_start (tm := [(0, .d (.list 1 (List.map (D.int .i64) l)))]) (hp := []) (n := 0) rfl Tryd.func36 rfl rfl rfl rfl rfl rfl ?_
  refine ra (nid' := 1) rfl ?_
  refine awp_seq ?_
  refine rn 1 rfl ?_
  refine po (ellen rfl rfl rfl rfl rfl rfl rfl) rfl rfl ?_
  refine on (nid' := 2) 4 rfl ?_
  refine rz ?_
  refine awp_seq ?_
  refine awp_seq ?_
  refine rn 1 rfl ?_
  refine po (ellen rfl rfl rfl rfl rfl rfl rfl) rfl rfl ?_
  refine on 1 rfl ?_
  refine rz ?_
  obtain ⟨a11, hs, h⟩ := bind_inv h
  refine awp_nrm (fun (a11 : (List Cell)) => (⟨[(2, .c (.ptr 0 0)), (3, .c (.ptr 1 0))], [(1, [.d (.list 1 (List.map (D.int .i64) [(List.length l : Int)])), .own 3 (List.map encCell a11)]), (0, [.own 1 (List.map (D.int .i64) []), .own 3 (List.map encCell [])])], 2, [], none⟩ : St)) (y := a11) ?_ ?_
  · replace h := hs
    refine awp_block ?_
    refine awp_loop ?_
    exact awpL_at rfl rfl (p_arr_Nums_l0_ok _ _ h)
  · refine seqQ.normal ?_
    refine ra rfl ?_
    refine awp_ret ?_
    cases h
    exact ⟨⟨_, _, _, _, rfl, rfl, rfl, rfl, rfl⟩⟩

end Go.AM.Seat

namespace Go.AM.Seat
open Go Go.AM Go.Proofs
set_option maxRecDepth 100000
set_option maxHeartbeats 4000000
set_option linter.unusedVariables false

theorem p_jlex_numbers_l1_ok (i : Int) (k : Int) (l1 : List Int) : ∀ (a : Str × Int) (res : Int), p_jlex_numbers_l1 a = some res → (match a with | (s, j) => awpL X 22 (codeAt [1, 0, 1, 1, 1, 0, 0, 0, 0, 1, 1, 1, 1, 0, 0, 0] (bodyOf Tryd.f22)) (cleanAt (X.H 22 8) 1) (exitQ 2 (X.H 22 1000002) 1 (NrmQ (fun (j1 : Int) => (⟨[(0, .d (.str s)), (2, .c (.ptr 0 0)), (5, .c (.own 1 (List.map (D.int .i64) l1))), (6, .d (.int .i64 (w64 (i + k)))), (10, .d (.int .i64 j1))], [(0, [.own 1 (List.map (D.int .i64) []), .own 3 (List.map encCell [])])], 1, [], none⟩ : St)) res)) ⟨[(0, .d (.str s)), (2, .c (.ptr 0 0)), (5, .c (.own 1 (List.map (D.int .i64) l1))), (6, .d (.int .i64 (w64 (i + k)))), (10, .d (.int .i64 j))], [(0, [.own 1 (List.map (D.int .i64) []), .own 3 (List.map encCell [])])], 1, [], none⟩) := by
  refine p_jlex_numbers_l1.partial_correctness (motive := (fun a res => match a with | (s, j) => awpL X 22 (codeAt [1, 0, 1, 1, 1, 0, 0, 0, 0, 1, 1, 1, 1, 0, 0, 0] (bodyOf Tryd.f22)) (cleanAt (X.H 22 8) 1) (exitQ 2 (X.H 22 1000002) 1 (NrmQ (fun (j1 : Int) => (⟨[(0, .d (.str s)), (2, .c (.ptr 0 0)), (5, .c (.own 1 (List.map (D.int .i64) l1))), (6, .d (.int .i64 (w64 (i + k)))), (10, .d (.int .i64 j1))], [(0, [.own 1 (List.map (D.int .i64) []), .own 3 (List.map encCell [])])], 1, [], none⟩ : St)) res)) ⟨[(0, .d (.str s)), (2, .c (.ptr 0 0)), (5, .c (.own 1 (List.map (D.int .i64) l1))), (6, .d (.int .i64 (w64 (i + k)))), (10, .d (.int .i64 j))], [(0, [.own 1 (List.map (D.int .i64) []), .own 3 (List.map encCell [])])], 1, [], none⟩)) ?_
  rintro p_jlex_numbers_l1' ih ⟨s, j⟩ res h
  refine lg rfl ?_
  refine awp_seq ?_
  refine awp_seq ?_
  refine rn 2 rfl ?_
  obtain ⟨x, hk, h⟩ := bind_inv h
  refine po (ecall (p_jlex_at_ok hk) rfl rfl rfl rfl rfl rfl rfl rfl rfl) rfl rfl ?_
  refine on 1 rfl ?_
  refine rz ?_
  rcases ite_inv h with ⟨hc, h⟩ | ⟨hc, h⟩
  · refine ct rfl hc ?_
    refine awp_skip ?_
    refine cn rfl ?_
    refine seqQ.normal ?_
    refine awp_block ?_
    refine rn 3 rfl ?_
    refine awpO_nil ?_
    refine en rfl ?_
    refine loopQ.normal ?_
    exact awpL_at rfl rfl (ih _ _ h)
  · refine cf rfl hc ?_
    refine awp_exit ?_
    refine condQ.exit ?_
    refine seqQ.exit ?_
    refine loopQ.exit ?_
    refine eh rfl ?_
    cases h
    exact .ok rfl

theorem p_jlex_numbers_l0_ok : ∀ (a : Str × (List Int) × Int) (res : Except (Arr × Int × Int) ((List Int) × Int)), p_jlex_numbers_l0 a = some res → (match a with | (s, l, i) => awpL X 22 (codeAt [1, 0, 1, 1, 1, 0, 0, 0] (bodyOf Tryd.f22)) (cleanAt (X.H 22 3) 1) (exitQ 0 (X.H 22 1000000) 1 (SubQ X Tryd.f22 0 (fun (r : Arr × Int × Int) => (CRes.ret (.tuple [.d (encArr r.1), .d (.int .i64 r.2.1), .d (.int .i64 r.2.2)]) [])) (fun ((l2, i1) : (List Int) × Int) => (⟨[(2, .c (.ptr 0 0)), (5, .c (.own 1 (List.map (D.int .i64) l2))), (6, .d (.int .i64 i1))], [(0, [.own 1 (List.map (D.int .i64) []), .own 3 (List.map encCell [])])], 1, [], none⟩ : St)) res)) ⟨[(0, .d (.str s)), (2, .c (.ptr 0 0)), (5, .c (.own 1 (List.map (D.int .i64) l))), (6, .d (.int .i64 i))], [(0, [.own 1 (List.map (D.int .i64) []), .own 3 (List.map encCell [])])], 1, [], none⟩) := by
  refine p_jlex_numbers_l0.partial_correctness (motive := (fun a res => match a with | (s, l, i) => awpL X 22 (codeAt [1, 0, 1, 1, 1, 0, 0, 0] (bodyOf Tryd.f22)) (cleanAt (X.H 22 3) 1) (exitQ 0 (X.H 22 1000000) 1 (SubQ X Tryd.f22 0 (fun (r : Arr × Int × Int) => (CRes.ret (.tuple [.d (encArr r.1), .d (.int .i64 r.2.1), .d (.int .i64 r.2.2)]) [])) (fun ((l2, i1) : (List Int) × Int) => (⟨[(2, .c (.ptr 0 0)), (5, .c (.own 1 (List.map (D.int .i64) l2))), (6, .d (.int .i64 i1))], [(0, [.own 1 (List.map (D.int .i64) []), .own 3 (List.map encCell [])])], 1, [], none⟩ : St)) res)) ⟨[(0, .d (.str s)), (2, .c (.ptr 0 0)), (5, .c (.own 1 (List.map (D.int .i64) l))), (6, .d (.int .i64 i))], [(0, [.own 1 (List.map (D.int .i64) []), .own 3 (List.map encCell [])])], 1, [], none⟩)) ?_
  rintro p_jlex_numbers_l0' ih ⟨s, l, i⟩ res h
  refine lg rfl ?_
  refine awp_block ?_
  refine awp_seq ?_
  refine rn 2 rfl ?_
  obtain ⟨s1, hk, h⟩ := bind_inv h
  refine po (esfrom hk rfl rfl rfl rfl) rfl rfl ?_
  obtain ⟨⟨n, k, ok⟩, hk, h⟩ := bind_inv h
  refine po (ecall (p_jlex_number_ok hk) rfl rfl rfl rfl rfl rfl rfl rfl rfl) rfl rfl ?_
  refine on 7 rfl ?_
  refine rz ?_
  refine awp_seq ?_
  refine ra rfl ?_
  rcases ite_inv h with ⟨hc, h⟩ | ⟨hc, h⟩
  · refine ct rfl hc ?_
    refine ra rfl ?_
    refine awp_ret ?_
    refine condQ.ret ?_
    refine seqQ.ret ?_
    refine exitQ.ret ?_
    refine loopQ.ret ?_
    refine exitQ.ret ?_
    cases h
    exact .err ⟨⟨_, _, _, _, rfl, rfl, rfl, rfl, rfl⟩⟩
  · refine cf rfl hc ?_
    refine awp_skip ?_
    refine cn rfl ?_
    refine seqQ.normal ?_
    refine awp_seq ?_
    refine rn 3 rfl ?_
    obtain ⟨l1, hk, h⟩ := bind_inv h
    refine po (eappv hk rfl rfl rfl rfl rfl rfl rfl rfl rfl rfl rfl rfl rfl ) rfl rfl ?_
    refine on 5 rfl ?_
    refine rz ?_
    refine ra rfl ?_
    refine awp_seq ?_
    obtain ⟨j1, hs, h⟩ := bind_inv h
    refine awp_nrm (fun (j1 : Int) => (⟨[(0, .d (.str s)), (2, .c (.ptr 0 0)), (5, .c (.own 1 (List.map (D.int .i64) l1))), (6, .d (.int .i64 (w64 (i + k)))), (10, .d (.int .i64 j1))], [(0, [.own 1 (List.map (D.int .i64) []), .own 3 (List.map encCell [])])], 1, [], none⟩ : St)) (y := j1) ?_ ?_
    · replace h := hs
      refine awp_block ?_
      refine awp_loop ?_
      exact awpL_at rfl rfl (p_jlex_numbers_l1_ok i k l1 _ _ h)
    · refine seqQ.normal ?_
      refine awp_seq ?_
      refine awp_seq ?_
      refine rn 4 rfl ?_
      rcases ite_inv h with ⟨hc, h⟩ | ⟨hc, h⟩
      · refine gt rfl rfl rfl rfl hc rfl ?_
        refine on 6 rfl ?_
        refine rz ?_
        refine ct rfl rfl ?_
        refine awp_exit ?_
        refine condQ.exit ?_
        refine seqQ.exit ?_
        refine exitQ.there rfl ?_
        refine loopQ.exit ?_
        refine eh rfl ?_
        cases h
        exact .ok rfl
      · refine gf rfl rfl rfl rfl hc rfl ?_
        refine on 2 rfl ?_
        obtain ⟨s2, hk, h⟩ := bind_inv h
        refine po (esfrom hk rfl rfl rfl rfl) rfl rfl ?_
        obtain ⟨x1, hk, h⟩ := bind_inv h
        refine po (ecall (p_jlex_begins_ok hk) rfl rfl rfl rfl rfl rfl rfl rfl rfl) rfl rfl ?_
        refine on 2 rfl ?_
        refine rz ?_
        rcases ite_inv h with ⟨hc, h⟩ | ⟨hc, h⟩
        · refine ct rfl hc ?_
          refine awp_exit ?_
          refine condQ.exit ?_
          refine seqQ.exit ?_
          refine exitQ.there rfl ?_
          refine loopQ.exit ?_
          refine eh rfl ?_
          cases h
          exact .ok rfl
        · refine cf rfl hc ?_
          refine awp_skip ?_
          refine cn rfl ?_
          refine seqQ.normal ?_
          refine rn 2 rfl ?_
          refine awpO_nil ?_
          refine en rfl ?_
          refine loopQ.normal ?_
          exact awpL_at rfl rfl (ih _ _ h)

theorem p_jlex_numbers_ok {s : Str} {r : Arr × Int × Int} (h : p_jlex_numbers s = some r) : aval X 22 [.d (.str s)] [] (CRes.ret (.tuple [.d (encArr r.1), .d (.int .i64 r.2.1), .d (.int .i64 r.2.2)]) []) := by
  unfold p_jlex_numbers at h
  refine aval_start (tm := [(0, .d (.str s))]) (hp := []) (n := 0) rfl Tryd.func22 rfl rfl rfl rfl rfl rfl ?_
  refine ra (nid' := 1) rfl ?_
  refine awp_scope ?_
  refine ra rfl ?_
  refine ra rfl ?_
  refine awp_seq ?_
  refine awp_label ?_
  refine seqQ.normal ?_
  refine awp_seq ?_
  obtain ⟨res, hs, h⟩ := bind_inv h
  refine awp_sub Tryd.f22 0 (fun (r : Arr × Int × Int) => (CRes.ret (.tuple [.d (encArr r.1), .d (.int .i64 r.2.1), .d (.int .i64 r.2.2)]) [])) (fun ((l2, i1) : (List Int) × Int) => (⟨[(2, .c (.ptr 0 0)), (5, .c (.own 1 (List.map (D.int .i64) l2))), (6, .d (.int .i64 i1))], [(0, [.own 1 (List.map (D.int .i64) []), .own 3 (List.map encCell [])])], 1, [], none⟩ : St)) (res := res) ?_ (fun y hy => ?_) (fun r s' hr he => ?_)
  · replace h := hs
    refine awp_block ?_
    refine awp_loop ?_
    exact awpL_at rfl rfl (p_jlex_numbers_l0_ok _ _ h)
  · subst hy
    obtain ⟨l2, i1⟩ := y
    refine seqQ.normal ?_
    refine awp_seq ?_
    refine awp_seq ?_
    refine rn 1 rfl ?_
    refine po (ellen rfl rfl rfl rfl rfl rfl rfl) rfl rfl ?_
    refine on 1 rfl ?_
    refine rz ?_
    rcases ite_inv h with ⟨hc, h⟩ | ⟨hc, h⟩
    · refine ct rfl hc ?_
      refine awp_seq ?_
      refine rn 1 rfl ?_
      obtain ⟨y, hk, h⟩ := bind_inv h
      refine po (elget (D.int .i64) (fun _ => rfl) hk rfl rfl rfl rfl rfl) rfl rfl ?_
      refine on 1 rfl ?_
      obtain ⟨x2, hk, h⟩ := bind_inv h
      refine po (ecall (p_arr_Atom_ok hk) rfl rfl rfl rfl rfl rfl rfl rfl rfl) rfl rfl ?_
      refine on 4 rfl ?_
      refine rz ?_
      refine awp_ret ?_
      refine condQ.ret ?_
      refine seqQ.ret ?_
      cases h
      exact ⟨⟨_, _, _, _, rfl, rfl, rfl, rfl, rfl⟩⟩
    · refine cf rfl hc ?_
      refine awp_skip ?_
      refine cn rfl ?_
      refine seqQ.normal ?_
      refine awp_seq ?_
      refine rn 1 rfl ?_
      obtain ⟨x3, hk, h⟩ := bind_inv h
      refine po (ecall (p_arr_Nums_ok hk) rfl rfl rfl rfl rfl rfl rfl rfl rfl) rfl rfl ?_
      refine on 4 rfl ?_
      refine rz ?_
      refine awp_ret ?_
      cases h
      exact ⟨⟨_, _, _, _, rfl, rfl, rfl, rfl, rfl⟩⟩
  · subst hr
    refine seqQ.ret ?_
    cases h
    exact he

end Go.AM.Seat

namespace Go.AM.Seat
open Go Go.AM Go.Proofs
set_option maxRecDepth 100000
set_option maxHeartbeats 4000000
set_option linter.unusedVariables false

theorem p_arr_Text_l0_ok : ∀ (a : ((List Int)) × Int × (List Cell)) (res : (List Cell)), p_arr_Text_l0 a = some res → (match a with | (l, x, a1) => awpL X 37 (codeAt [1, 1, 1, 0, 1, 0, 0] (bodyOf Tryd.f37)) (cleanAt (X.H 37 5) 2) (exitQ 0 (X.H 37 1000000) 2 (NrmQ (fun (a11 : (List Cell)) => (⟨[(2, .c (.ptr 0 0)), (3, .c (.ptr 1 0))], [(1, [.own 1 (List.map (D.int .i64) []), .own 3 (List.map encCell a11)]), (0, [.own 1 (List.map (D.int .i64) []), .own 3 (List.map encCell [])])], 2, [], none⟩ : St)) res)) ⟨[(2, .c (.ptr 0 0)), (3, .c (.ptr 1 0)), (14, .d (.list 1 (List.map (D.int .i64) l))), (15, .d (.int .i64 (List.length l : Int))), (16, .d (.int .i64 x))], [(1, [.own 1 (List.map (D.int .i64) []), .own 3 (List.map encCell a1)]), (0, [.own 1 (List.map (D.int .i64) []), .own 3 (List.map encCell [])])], 2, [], none⟩) := by
  refine p_arr_Text_l0.partial_correctness (motive := (fun a res => match a with | (l, x, a1) => awpL X 37 (codeAt [1, 1, 1, 0, 1, 0, 0] (bodyOf Tryd.f37)) (cleanAt (X.H 37 5) 2) (exitQ 0 (X.H 37 1000000) 2 (NrmQ (fun (a11 : (List Cell)) => (⟨[(2, .c (.ptr 0 0)), (3, .c (.ptr 1 0))], [(1, [.own 1 (List.map (D.int .i64) []), .own 3 (List.map encCell a11)]), (0, [.own 1 (List.map (D.int .i64) []), .own 3 (List.map encCell [])])], 2, [], none⟩ : St)) res)) ⟨[(2, .c (.ptr 0 0)), (3, .c (.ptr 1 0)), (14, .d (.list 1 (List.map (D.int .i64) l))), (15, .d (.int .i64 (List.length l : Int))), (16, .d (.int .i64 x))], [(1, [.own 1 (List.map (D.int .i64) []), .own 3 (List.map encCell a1)]), (0, [.own 1 (List.map (D.int .i64) []), .own 3 (List.map encCell [])])], 2, [], none⟩)) ?_
  rintro p_arr_Text_l0' ih ⟨l, x, a1⟩ res h
  refine lg rfl ?_
  refine ra rfl ?_
  refine awp_seq ?_
  rcases ite_inv h with ⟨hc, h⟩ | ⟨hc, h⟩
  · refine ct rfl hc ?_
    refine awp_skip ?_
    refine cn rfl ?_
    refine seqQ.normal ?_
    refine awp_seq ?_
    refine awp_block ?_
    refine awp_seq ?_
    refine rn 0 rfl ?_
    obtain ⟨n, hk, h⟩ := bind_inv h
    refine po (elget (D.int .i64) (fun _ => rfl) hk rfl rfl rfl rfl rfl) rfl rfl ?_
    refine on 2 rfl ?_
    refine rz ?_
    refine rn 5 rfl ?_
    obtain ⟨l1, hk, h⟩ := bind_inv h
    refine po (eappc hk rfl rfl rfl rfl rfl rfl rfl rfl rfl rfl rfl rfl rfl rfl ) rfl rfl ?_
    refine on 2 rfl ?_
    refine awpO_nil ?_
    refine en rfl ?_
    refine seqQ.normal ?_
    refine rn 2 rfl ?_
    refine awpO_nil ?_
    refine loopQ.normal ?_
    exact awpL_at rfl rfl (ih _ _ h)
  · refine cf rfl hc ?_
    refine awp_exit ?_
    refine condQ.exit ?_
    refine seqQ.exit ?_
    refine loopQ.exit ?_
    refine eh rfl ?_
    cases h
    exact .ok rfl

theorem p_arr_Text_l1_ok : ∀ (a : ((List Int)) × Int × (List Cell)) (res : (List Cell)), p_arr_Text_l1 a = some res → (match a with | (l, x1, a12) => awpL X 37 (codeAt [1, 1, 1, 0, 1, 0, 0] (bodyOf Tryd.f37)) (cleanAt (X.H 37 5) 2) (exitQ 0 (X.H 37 1000000) 2 (NrmQ (fun (a13 : (List Cell)) => (⟨[(2, .c (.ptr 0 0)), (3, .c (.ptr 1 0))], [(1, [.d (.list 1 (List.map (D.int .i64) [(List.length l : Int)])), .own 3 (List.map encCell a13)]), (0, [.own 1 (List.map (D.int .i64) []), .own 3 (List.map encCell [])])], 2, [], none⟩ : St)) res)) ⟨[(2, .c (.ptr 0 0)), (3, .c (.ptr 1 0)), (14, .d (.list 1 (List.map (D.int .i64) l))), (15, .d (.int .i64 (List.length l : Int))), (16, .d (.int .i64 x1))], [(1, [.d (.list 1 (List.map (D.int .i64) [(List.length l : Int)])), .own 3 (List.map encCell a12)]), (0, [.own 1 (List.map (D.int .i64) []), .own 3 (List.map encCell [])])], 2, [], none⟩) := by
  refine p_arr_Text_l1.partial_correctness (motive := (fun a res => match a with | (l, x1, a12) => awpL X 37 (codeAt [1, 1, 1, 0, 1, 0, 0] (bodyOf Tryd.f37)) (cleanAt (X.H 37 5) 2) (exitQ 0 (X.H 37 1000000) 2 (NrmQ (fun (a13 : (List Cell)) => (⟨[(2, .c (.ptr 0 0)), (3, .c (.ptr 1 0))], [(1, [.d (.list 1 (List.map (D.int .i64) [(List.length l : Int)])), .own 3 (List.map encCell a13)]), (0, [.own 1 (List.map (D.int .i64) []), .own 3 (List.map encCell [])])], 2, [], none⟩ : St)) res)) ⟨[(2, .c (.ptr 0 0)), (3, .c (.ptr 1 0)), (14, .d (.list 1 (List.map (D.int .i64) l))), (15, .d (.int .i64 (List.length l : Int))), (16, .d (.int .i64 x1))], [(1, [.d (.list 1 (List.map (D.int .i64) [(List.length l : Int)])), .own 3 (List.map encCell a12)]), (0, [.own 1 (List.map (D.int .i64) []), .own 3 (List.map encCell [])])], 2, [], none⟩)) ?_
  rintro p_arr_Text_l1' ih ⟨l, x1, a12⟩ res h
  refine lg rfl ?_
  refine ra rfl ?_
  refine awp_seq ?_
  rcases ite_inv h with ⟨hc, h⟩ | ⟨hc, h⟩
  · refine ct rfl hc ?_
    refine awp_skip ?_
    refine cn rfl ?_
    refine seqQ.normal ?_
    refine awp_seq ?_
    refine awp_block ?_
    refine awp_seq ?_
    refine rn 0 rfl ?_
    obtain ⟨n1, hk, h⟩ := bind_inv h
    refine po (elget (D.int .i64) (fun _ => rfl) hk rfl rfl rfl rfl rfl) rfl rfl ?_
    refine on 2 rfl ?_
    refine rz ?_
    refine rn 5 rfl ?_
    obtain ⟨l2, hk, h⟩ := bind_inv h
    refine po (eappc hk rfl rfl rfl rfl rfl rfl rfl rfl rfl rfl rfl rfl rfl rfl ) rfl rfl ?_
    refine on 2 rfl ?_
    refine awpO_nil ?_
    refine en rfl ?_
    refine seqQ.normal ?_
    refine rn 2 rfl ?_
    refine awpO_nil ?_
    refine loopQ.normal ?_
    exact awpL_at rfl rfl (ih _ _ h)
  · refine cf rfl hc ?_
    refine awp_exit ?_
    refine condQ.exit ?_
    refine seqQ.exit ?_
    refine loopQ.exit ?_
    refine eh rfl ?_
    cases h
    exact .ok rfl

theorem p_arr_Text_ok {l : (List Int)} {r : Arr} (h : p_arr_Text l = some r) : aval X 37 [.d (.list 1 (List.map (D.int .i64) l))] [] (CRes.ret (.d (encArr r)) []) := by
  unfold p_arr_Text at h
  refine aval_start (tm := [(0, .d (.list 1 (List.map (D.int .i64) l)))]) (hp := []) (n := 0) rfl Tryd.func37 rfl rfl rfl rfl rfl rfl ?_
  refine ra (nid' := 1) rfl ?_
  refine awp_seq ?_
  refine rn 1 rfl ?_
  refine po (ellen rfl rfl rfl rfl rfl rfl rfl) rfl rfl ?_
  refine on (nid' := 2) 4 rfl ?_
  refine rz ?_
  refine awp_seq ?_
  refine awp_seq ?_
  refine rn 1 rfl ?_
  refine po (ellen rfl rfl rfl rfl rfl rfl rfl) rfl rfl ?_
  refine on 1 rfl ?_
  refine rz ?_
  rcases ite_inv h with ⟨hc, h⟩ | ⟨hc, h⟩
  · refine ct rfl hc ?_
    refine rn 2 rfl ?_
    refine awpO_nil ?_
    refine cn rfl ?_
    refine seqQ.normal ?_
    refine awp_seq ?_
    refine awp_seq ?_
    refine rn 1 rfl ?_
    refine po (ellen rfl rfl rfl rfl rfl rfl rfl) rfl rfl ?_
    refine on 1 rfl ?_
    refine rz ?_
    obtain ⟨a11, hs, h⟩ := bind_inv h
    refine awp_nrm (fun (a11 : (List Cell)) => (⟨[(2, .c (.ptr 0 0)), (3, .c (.ptr 1 0))], [(1, [.own 1 (List.map (D.int .i64) []), .own 3 (List.map encCell a11)]), (0, [.own 1 (List.map (D.int .i64) []), .own 3 (List.map encCell [])])], 2, [], none⟩ : St)) (y := a11) ?_ ?_
    · replace h := hs
      refine awp_block ?_
      refine awp_loop ?_
      exact awpL_at rfl rfl (p_arr_Text_l0_ok _ _ h)
    · refine seqQ.normal ?_
      refine ra rfl ?_
      refine awp_ret ?_
      cases h
      exact ⟨⟨_, _, _, _, rfl, rfl, rfl, rfl, rfl⟩⟩
  · refine cf rfl hc ?_
    refine awp_skip ?_
    refine cn rfl ?_
    refine seqQ.normal ?_
    refine awp_seq ?_
    refine awp_seq ?_
    refine rn 1 rfl ?_
    refine po (ellen rfl rfl rfl rfl rfl rfl rfl) rfl rfl ?_
    refine on 1 rfl ?_
    refine rz ?_
    obtain ⟨a13, hs, h⟩ := bind_inv h
    refine awp_nrm (fun (a13 : (List Cell)) => (⟨[(2, .c (.ptr 0 0)), (3, .c (.ptr 1 0))], [(1, [.d (.list 1 (List.map (D.int .i64) [(List.length l : Int)])), .own 3 (List.map encCell a13)]), (0, [.own 1 (List.map (D.int .i64) []), .own 3 (List.map encCell [])])], 2, [], none⟩ : St)) (y := a13) ?_ ?_
    · replace h := hs
      refine awp_block ?_
      refine awp_loop ?_
      exact awpL_at rfl rfl (p_arr_Text_l1_ok _ _ h)
    · refine seqQ.normal ?_
      refine ra rfl ?_
      refine awp_ret ?_
      cases h
      exact ⟨⟨_, _, _, _, rfl, rfl, rfl, rfl, rfl⟩⟩

end Go.AM.Seat

namespace Go.AM.Seat
open Go Go.AM Go.Proofs
set_option maxRecDepth 100000
set_option maxHeartbeats 4000000
set_option linter.unusedVariables false

theorem p_jlex_text_l0_ok : ∀ (a : Str × (List Int) × Int) (res : Except (Arr × Int × Fault) (Unit)), p_jlex_text_l0 a = some res → (match a with | (s, l, i) => awpL X 23 (codeAt [1, 1, 0, 1, 0, 0] (bodyOf Tryd.f23)) (cleanAt (X.H 23 3) 2) (exitQ 0 (X.H 23 1000000) 2 (SubQ X Tryd.f23 0 (fun (r : Arr × Int × Fault) => (CRes.ret (.tuple [.d (encArr r.1), .d (.int .i64 r.2.1), .d (encFault r.2.2)]) [])) (fun (_ : Unit) => (⟨[(2, .c (.ptr 0 0)), (4, .c (.ptr 1 0))], [(1, [.d (.int .i64 0), .d (.int .i64 0), .d (.int .i64 0)]), (0, [.own 1 (List.map (D.int .i64) []), .own 3 (List.map encCell [])])], 2, [], none⟩ : St)) res)) ⟨[(0, .d (.str s)), (2, .c (.ptr 0 0)), (4, .c (.ptr 1 0)), (5, .c (.own 1 (List.map (D.int .i64) l))), (6, .d (.int .i64 i))], [(1, [.d (.int .i64 0), .d (.int .i64 0), .d (.int .i64 0)]), (0, [.own 1 (List.map (D.int .i64) []), .own 3 (List.map encCell [])])], 2, [], none⟩) := by
  refine p_jlex_text_l0.partial_correctness (motive := (fun a res => match a with | (s, l, i) => awpL X 23 (codeAt [1, 1, 0, 1, 0, 0] (bodyOf Tryd.f23)) (cleanAt (X.H 23 3) 2) (exitQ 0 (X.H 23 1000000) 2 (SubQ X Tryd.f23 0 (fun (r : Arr × Int × Fault) => (CRes.ret (.tuple [.d (encArr r.1), .d (.int .i64 r.2.1), .d (encFault r.2.2)]) [])) (fun (_ : Unit) => (⟨[(2, .c (.ptr 0 0)), (4, .c (.ptr 1 0))], [(1, [.d (.int .i64 0), .d (.int .i64 0), .d (.int .i64 0)]), (0, [.own 1 (List.map (D.int .i64) []), .own 3 (List.map encCell [])])], 2, [], none⟩ : St)) res)) ⟨[(0, .d (.str s)), (2, .c (.ptr 0 0)), (4, .c (.ptr 1 0)), (5, .c (.own 1 (List.map (D.int .i64) l))), (6, .d (.int .i64 i))], [(1, [.d (.int .i64 0), .d (.int .i64 0), .d (.int .i64 0)]), (0, [.own 1 (List.map (D.int .i64) []), .own 3 (List.map encCell [])])], 2, [], none⟩)) ?_
  rintro p_jlex_text_l0' ih ⟨s, l, i⟩ res h
  refine lg rfl ?_
  refine awp_seq ?_
  refine ra rfl ?_
  rcases ite_inv h with ⟨hc, h⟩ | ⟨hc, h⟩
  · refine ct rfl hc ?_
    refine awp_skip ?_
    refine cn rfl ?_
    refine seqQ.normal ?_
    refine awp_block ?_
    refine awp_seq ?_
    refine rn 2 rfl ?_
    obtain ⟨s1, hk, h⟩ := bind_inv h
    refine po (esfrom hk rfl rfl rfl rfl) rfl rfl ?_
    obtain ⟨b, hk, h⟩ := bind_inv h
    refine po (esbytes hk rfl rfl rfl rfl rfl rfl) rfl rfl ?_
    obtain ⟨⟨n, k⟩, hk, h⟩ := bind_inv h
    refine po (ecall (p_runes_One_ok hk) rfl rfl rfl rfl rfl rfl rfl rfl rfl) rfl rfl ?_
    refine on 5 rfl ?_
    refine rz ?_
    refine awp_seq ?_
    obtain ⟨res, hs, h⟩ := bind_inv h
    refine awp_sub Tryd.f23 0 (fun (r : Arr × Int × Fault) => (CRes.ret (.tuple [.d (encArr r.1), .d (.int .i64 r.2.1), .d (encFault r.2.2)]) [])) (fun (k1 : Int) => (⟨[(0, .d (.str s)), (2, .c (.ptr 0 0)), (4, .c (.ptr 1 0)), (5, .c (.own 1 (List.map (D.int .i64) l))), (6, .d (.int .i64 i)), (7, .d (.int .i64 n)), (8, .d (.int .i64 k1))], [(1, [.d (.int .i64 0), .d (.int .i64 0), .d (.int .i64 0)]), (0, [.own 1 (List.map (D.int .i64) []), .own 3 (List.map encCell [])])], 2, [], none⟩ : St)) (res := res) ?_ (fun y hy => ?_) (fun r s' hr he => ?_)
    · replace h := hs
      refine awp_block ?_
      refine ra rfl ?_
      rcases ite_inv h with ⟨hc, h⟩ | ⟨hc, h⟩
      · refine ct rfl hc ?_
        refine ra rfl ?_
        refine awp_ret ?_
        refine condQ.ret ?_
        refine exitQ.ret ?_
        cases h
        exact .err ⟨⟨_, _, _, _, rfl, rfl, rfl, rfl, rfl⟩⟩
      · refine cf rfl hc ?_
        refine awp_seq ?_
        refine rn 3 rfl ?_
        rcases ite_inv h with ⟨hc, h⟩ | ⟨hc, h⟩
        · refine gt rfl rfl rfl rfl hc rfl ?_
          refine on 3 rfl ?_
          obtain ⟨x, hk, h⟩ := bind_inv h
          refine po (ecall (p_jlex_at_ok hk) rfl rfl rfl rfl rfl rfl rfl rfl rfl) rfl rfl ?_
          refine on 3 rfl ?_
          refine rz ?_
          rcases ite_inv h with ⟨hc, h⟩ | ⟨hc, h⟩
          · refine ct rfl hc ?_
            refine awp_seq ?_
            refine rn 1 rfl ?_
            obtain ⟨x1, hk, h⟩ := bind_inv h
            refine po (ecall (p_arr_Text_ok hk) rfl rfl rfl rfl rfl rfl rfl rfl rfl) rfl rfl ?_
            refine on 6 rfl ?_
            refine rz ?_
            refine awp_ret ?_
            refine condQ.ret ?_
            refine condQ.ret ?_
            refine exitQ.ret ?_
            cases h
            exact .err ⟨⟨_, _, _, _, rfl, rfl, rfl, rfl, rfl⟩⟩
          · refine cf rfl hc ?_
            refine ra rfl ?_
            rcases ite_inv h with ⟨hc, h⟩ | ⟨hc, h⟩
            · refine ct rfl hc ?_
              refine rn 1 rfl ?_
              refine awpO_nil ?_
              refine cn rfl ?_
              refine cn rfl ?_
              refine cn rfl ?_
              refine en rfl ?_
              cases h
              exact .ok rfl
            · refine cf rfl hc ?_
              refine awp_seq ?_
              refine rn 3 rfl ?_
              rcases ite_inv h with ⟨hc, h⟩ | ⟨hc, h⟩
              · refine gt rfl rfl rfl rfl hc rfl ?_
                refine on 4 rfl ?_
                refine rz ?_
                refine ct rfl rfl ?_
                refine ra rfl ?_
                refine awp_ret ?_
                refine condQ.ret ?_
                refine condQ.ret ?_
                refine condQ.ret ?_
                refine condQ.ret ?_
                refine exitQ.ret ?_
                cases h
                exact .err ⟨⟨_, _, _, _, rfl, rfl, rfl, rfl, rfl⟩⟩
              · refine gf rfl rfl rfl rfl hc rfl ?_
                refine on 4 rfl ?_
                refine rz ?_
                rcases ite_inv h with ⟨hc, h⟩ | ⟨hc, h⟩
                · refine ct rfl hc ?_
                  refine ra rfl ?_
                  refine awp_ret ?_
                  refine condQ.ret ?_
                  refine condQ.ret ?_
                  refine condQ.ret ?_
                  refine condQ.ret ?_
                  refine exitQ.ret ?_
                  cases h
                  exact .err ⟨⟨_, _, _, _, rfl, rfl, rfl, rfl, rfl⟩⟩
                · refine cf rfl hc ?_
                  refine awp_skip ?_
                  refine cn rfl ?_
                  refine cn rfl ?_
                  refine cn rfl ?_
                  refine cn rfl ?_
                  refine en rfl ?_
                  cases h
                  exact .ok rfl
        · refine gf rfl rfl rfl rfl hc rfl ?_
          refine on 7 rfl ?_
          refine rz ?_
          refine cf rfl rfl ?_
          refine ra rfl ?_
          rcases ite_inv h with ⟨hc, h⟩ | ⟨hc, h⟩
          · refine ct rfl hc ?_
            refine rn 1 rfl ?_
            refine awpO_nil ?_
            refine cn rfl ?_
            refine cn rfl ?_
            refine cn rfl ?_
            refine en rfl ?_
            cases h
            exact .ok rfl
          · refine cf rfl hc ?_
            refine awp_seq ?_
            refine rn 3 rfl ?_
            rcases ite_inv h with ⟨hc, h⟩ | ⟨hc, h⟩
            · refine gt rfl rfl rfl rfl hc rfl ?_
              refine on 4 rfl ?_
              refine rz ?_
              refine ct rfl rfl ?_
              refine ra rfl ?_
              refine awp_ret ?_
              refine condQ.ret ?_
              refine condQ.ret ?_
              refine condQ.ret ?_
              refine condQ.ret ?_
              refine exitQ.ret ?_
              cases h
              exact .err ⟨⟨_, _, _, _, rfl, rfl, rfl, rfl, rfl⟩⟩
            · refine gf rfl rfl rfl rfl hc rfl ?_
              refine on 4 rfl ?_
              refine rz ?_
              rcases ite_inv h with ⟨hc, h⟩ | ⟨hc, h⟩
              · refine ct rfl hc ?_
                refine ra rfl ?_
                refine awp_ret ?_
                refine condQ.ret ?_
                refine condQ.ret ?_
                refine condQ.ret ?_
                refine condQ.ret ?_
                refine exitQ.ret ?_
                cases h
                exact .err ⟨⟨_, _, _, _, rfl, rfl, rfl, rfl, rfl⟩⟩
              · refine cf rfl hc ?_
                refine awp_skip ?_
                refine cn rfl ?_
                refine cn rfl ?_
                refine cn rfl ?_
                refine cn rfl ?_
                refine en rfl ?_
                cases h
                exact .ok rfl
    · subst hy
      obtain k1 := y
      refine seqQ.normal ?_
      refine rn 3 rfl ?_
      obtain ⟨l1, hk, h⟩ := bind_inv h
      refine po (eappv hk rfl rfl rfl rfl rfl rfl rfl rfl rfl rfl rfl rfl rfl ) rfl rfl ?_
      refine on 5 rfl ?_
      refine awpO_nil ?_
      refine en rfl ?_
      refine loopQ.normal ?_
      exact awpL_at rfl rfl (ih _ _ h)
    · subst hr
      refine seqQ.ret ?_
      refine exitQ.ret ?_
      refine loopQ.ret ?_
      refine exitQ.ret ?_
      cases h
      exact .err he
  · refine cf rfl hc ?_
    refine awp_exit ?_
    refine condQ.exit ?_
    refine seqQ.exit ?_
    refine loopQ.exit ?_
    refine eh rfl ?_
    cases h
    exact .ok rfl

theorem p_jlex_text_ok {s : Str} {r : Arr × Int × Fault} (h : p_jlex_text s = some r) : aval X 23 [.d (.str s)] [] (CRes.ret (.tuple [.d (encArr r.1), .d (.int .i64 r.2.1), .d (encFault r.2.2)]) []) := by
  unfold p_jlex_text at h
  refine aval_start (tm := [(0, .d (.str s))]) (hp := []) (n := 0) rfl Tryd.func23 rfl rfl rfl rfl rfl rfl ?_
  refine ra (nid' := 2) rfl ?_
  refine ra rfl ?_
  refine awp_seq ?_
  refine ra rfl ?_
  obtain ⟨res, hs, h⟩ := bind_inv h
  refine awp_sub Tryd.f23 0 (fun (r : Arr × Int × Fault) => (CRes.ret (.tuple [.d (encArr r.1), .d (.int .i64 r.2.1), .d (encFault r.2.2)]) [])) (fun (_ : Unit) => (⟨[(2, .c (.ptr 0 0)), (4, .c (.ptr 1 0))], [(1, [.d (.int .i64 0), .d (.int .i64 0), .d (.int .i64 0)]), (0, [.own 1 (List.map (D.int .i64) []), .own 3 (List.map encCell [])])], 2, [], none⟩ : St)) (res := res) ?_ (fun y hy => ?_) (fun r s' hr he => ?_)
  · replace h := hs
    refine awp_block ?_
    refine awp_loop ?_
    exact awpL_at rfl rfl (p_jlex_text_l0_ok _ _ h)
  · subst hy
    refine seqQ.normal ?_
    refine ra rfl ?_
    refine awp_ret ?_
    cases h
    exact ⟨⟨_, _, _, _, rfl, rfl, rfl, rfl, rfl⟩⟩
  · subst hr
    refine seqQ.ret ?_
    cases h
    exact he

end Go.AM.Seat

namespace Go.AM.Seat
open Go Go.AM Go.Proofs
set_option maxRecDepth 100000
set_option maxHeartbeats 4000000
set_option linter.unusedVariables false

theorem p_jlex_letter_ok {c : Int} {r : Bool} (h : p_jlex_letter c = some r) : aval X 24 [.d (.int .u8 c)] [] (CRes.ret (.d (.bool r)) []) := by
  unfold p_jlex_letter at h
  refine aval_start (tm := [(0, .d (.int .u8 c))]) (hp := []) (n := 0) rfl Tryd.func24 rfl rfl rfl rfl rfl rfl ?_
  refine ra rfl ?_
  refine awp_seq ?_
  refine rn 3 rfl ?_
  rcases ite_inv h with ⟨hc, h⟩ | ⟨hc, h⟩
  · refine gt rfl rfl rfl rfl hc rfl ?_
    refine on 4 rfl ?_
    refine rz ?_
    refine awp_ret ?_
    cases h
    exact ⟨⟨_, _, _, _, rfl, rfl, rfl, rfl, rfl⟩⟩
  · refine gf rfl rfl rfl rfl hc rfl ?_
    refine on 4 rfl ?_
    refine rz ?_
    refine awp_ret ?_
    cases h
    exact ⟨⟨_, _, _, _, rfl, rfl, rfl, rfl, rfl⟩⟩

end Go.AM.Seat

namespace Go.AM.Seat
open Go Go.AM Go.Proofs
set_option maxRecDepth 100000
set_option maxHeartbeats 4000000
set_option linter.unusedVariables false

theorem p_jlex_name_l0_ok : ∀ (a : Str × Int) (res : Int), p_jlex_name_l0 a = some res → (match a with | (s, k) => awpL X 25 (codeAt [1, 1, 0, 0, 0] (bodyOf Tryd.f25)) (cleanAt (X.H 25 2) 1) (exitQ 0 (X.H 25 1000000) 1 (NrmQ (fun (k1 : Int) => (⟨[(0, .d (.str s)), (2, .c (.ptr 0 0)), (4, .d (.int .i64 k1))], [(0, [.d (.int .i64 0), .d (.str []), .own 1 (List.map (D.int .i64) []), .own 3 (List.map encCell []), .d (.int .i64 0)])], 1, [], none⟩ : St)) res)) ⟨[(0, .d (.str s)), (2, .c (.ptr 0 0)), (4, .d (.int .i64 k))], [(0, [.d (.int .i64 0), .d (.str []), .own 1 (List.map (D.int .i64) []), .own 3 (List.map encCell []), .d (.int .i64 0)])], 1, [], none⟩) := by
  refine p_jlex_name_l0.partial_correctness (motive := (fun a res => match a with | (s, k) => awpL X 25 (codeAt [1, 1, 0, 0, 0] (bodyOf Tryd.f25)) (cleanAt (X.H 25 2) 1) (exitQ 0 (X.H 25 1000000) 1 (NrmQ (fun (k1 : Int) => (⟨[(0, .d (.str s)), (2, .c (.ptr 0 0)), (4, .d (.int .i64 k1))], [(0, [.d (.int .i64 0), .d (.str []), .own 1 (List.map (D.int .i64) []), .own 3 (List.map encCell []), .d (.int .i64 0)])], 1, [], none⟩ : St)) res)) ⟨[(0, .d (.str s)), (2, .c (.ptr 0 0)), (4, .d (.int .i64 k))], [(0, [.d (.int .i64 0), .d (.str []), .own 1 (List.map (D.int .i64) []), .own 3 (List.map encCell []), .d (.int .i64 0)])], 1, [], none⟩)) ?_
  rintro p_jlex_name_l0' ih ⟨s, k⟩ res h
  refine lg rfl ?_
  refine awp_seq ?_
  refine awp_seq ?_
  refine rn 2 rfl ?_
  obtain ⟨x, hk, h⟩ := bind_inv h
  refine po (ecall (p_jlex_at_ok hk) rfl rfl rfl rfl rfl rfl rfl rfl rfl) rfl rfl ?_
  obtain ⟨x1, hk, h⟩ := bind_inv h
  refine po (ecall (p_jlex_letter_ok hk) rfl rfl rfl rfl rfl rfl rfl rfl rfl) rfl rfl ?_
  refine on 1 rfl ?_
  rcases ite_inv h with ⟨hc, h⟩ | ⟨hc, h⟩
  · refine gt rfl rfl rfl rfl hc rfl ?_
    refine on 5 rfl ?_
    refine rz ?_
    refine ct rfl rfl ?_
    refine awp_skip ?_
    refine cn rfl ?_
    refine seqQ.normal ?_
    refine awp_block ?_
    refine rn 3 rfl ?_
    refine awpO_nil ?_
    refine en rfl ?_
    refine loopQ.normal ?_
    exact awpL_at rfl rfl (ih _ _ h)
  · refine gf rfl rfl rfl rfl hc rfl ?_
    refine on 2 rfl ?_
    obtain ⟨x2, hk, h⟩ := bind_inv h
    refine po (ecall (p_jlex_at_ok hk) rfl rfl rfl rfl rfl rfl rfl rfl rfl) rfl rfl ?_
    obtain ⟨x3, hk, h⟩ := bind_inv h
    refine po (ecall (p_jlex_digit_ok hk) rfl rfl rfl rfl rfl rfl rfl rfl rfl) rfl rfl ?_
    refine on 1 rfl ?_
    refine rz ?_
    rcases ite_inv h with ⟨hc, h⟩ | ⟨hc, h⟩
    · refine ct rfl hc ?_
      refine awp_skip ?_
      refine cn rfl ?_
      refine seqQ.normal ?_
      refine awp_block ?_
      refine rn 3 rfl ?_
      refine awpO_nil ?_
      refine en rfl ?_
      refine loopQ.normal ?_
      exact awpL_at rfl rfl (ih _ _ h)
    · refine cf rfl hc ?_
      refine awp_exit ?_
      refine condQ.exit ?_
      refine seqQ.exit ?_
      refine loopQ.exit ?_
      refine eh rfl ?_
      cases h
      exact .ok rfl

theorem p_jlex_name_l1_ok : ∀ (a : Str × Int × Str × Int) (res : Except (Token × Bool) (Unit)), p_jlex_name_l1 a = some res → (match a with | (s, k1, s1, x4) => awpL X 25 (codeAt [1, 1, 1, 1, 1, 1, 0, 1, 0, 0] (bodyOf Tryd.f25)) (cleanAt (X.H 25 12) 2) (exitQ 2 (X.H 25 1000002) 2 (SubQ X Tryd.f25 0 (fun (r : Token × Bool) => (CRes.ret (.tuple [.d (encToken r.1), .d (.bool r.2)]) [])) (fun (_ : Unit) => (⟨[(2, .c (.ptr 0 0)), (4, .d (.int .i64 k1)), (5, .c (.ptr 1 0))], [(1, [.d (.int .i64 3), .d (.str s1), .own 1 (List.map (D.int .i64) []), .own 3 (List.map encCell []), .d (.int .i64 0)]), (0, [.d (.int .i64 0), .d (.str []), .own 1 (List.map (D.int .i64) []), .own 3 (List.map encCell []), .d (.int .i64 0)])], 2, [], none⟩ : St)) res)) ⟨[(0, .d (.str s)), (2, .c (.ptr 0 0)), (4, .d (.int .i64 k1)), (5, .c (.ptr 1 0)), (56, .d (.int .i64 k1)), (57, .d (.int .i64 x4))], [(1, [.d (.int .i64 3), .d (.str s1), .own 1 (List.map (D.int .i64) []), .own 3 (List.map encCell []), .d (.int .i64 0)]), (0, [.d (.int .i64 0), .d (.str []), .own 1 (List.map (D.int .i64) []), .own 3 (List.map encCell []), .d (.int .i64 0)])], 2, [], none⟩) := by
  refine p_jlex_name_l1.partial_correctness (motive := (fun a res => match a with | (s, k1, s1, x4) => awpL X 25 (codeAt [1, 1, 1, 1, 1, 1, 0, 1, 0, 0] (bodyOf Tryd.f25)) (cleanAt (X.H 25 12) 2) (exitQ 2 (X.H 25 1000002) 2 (SubQ X Tryd.f25 0 (fun (r : Token × Bool) => (CRes.ret (.tuple [.d (encToken r.1), .d (.bool r.2)]) [])) (fun (_ : Unit) => (⟨[(2, .c (.ptr 0 0)), (4, .d (.int .i64 k1)), (5, .c (.ptr 1 0))], [(1, [.d (.int .i64 3), .d (.str s1), .own 1 (List.map (D.int .i64) []), .own 3 (List.map encCell []), .d (.int .i64 0)]), (0, [.d (.int .i64 0), .d (.str []), .own 1 (List.map (D.int .i64) []), .own 3 (List.map encCell []), .d (.int .i64 0)])], 2, [], none⟩ : St)) res)) ⟨[(0, .d (.str s)), (2, .c (.ptr 0 0)), (4, .d (.int .i64 k1)), (5, .c (.ptr 1 0)), (56, .d (.int .i64 k1)), (57, .d (.int .i64 x4))], [(1, [.d (.int .i64 3), .d (.str s1), .own 1 (List.map (D.int .i64) []), .own 3 (List.map encCell []), .d (.int .i64 0)]), (0, [.d (.int .i64 0), .d (.str []), .own 1 (List.map (D.int .i64) []), .own 3 (List.map encCell []), .d (.int .i64 0)])], 2, [], none⟩)) ?_
  rintro p_jlex_name_l1' ih ⟨s, k1, s1, x4⟩ res h
  refine lg rfl ?_
  refine ra rfl ?_
  refine awp_seq ?_
  rcases ite_inv h with ⟨hc, h⟩ | ⟨hc, h⟩
  · refine ct rfl hc ?_
    refine awp_skip ?_
    refine cn rfl ?_
    refine seqQ.normal ?_
    refine awp_seq ?_
    refine awp_block ?_
    refine ra rfl ?_
    refine awp_seq ?_
    refine rn 2 rfl ?_
    obtain ⟨c1, hk, h⟩ := bind_inv h
    refine po (esget hk rfl rfl rfl rfl) rfl rfl ?_
    refine on 1 rfl ?_
    refine rz ?_
    rcases ite_inv h with ⟨hc, h⟩ | ⟨hc, h⟩
    · refine ct rfl hc ?_
      refine ra rfl ?_
      refine awp_ret ?_
      refine condQ.ret ?_
      refine exitQ.ret ?_
      refine seqQ.ret ?_
      refine loopQ.ret ?_
      refine exitQ.ret ?_
      cases h
      exact .err ⟨⟨_, _, _, _, rfl, rfl, rfl, rfl, rfl⟩⟩
    · refine cf rfl hc ?_
      refine awp_skip ?_
      refine cn rfl ?_
      refine en rfl ?_
      refine seqQ.normal ?_
      refine rn 2 rfl ?_
      refine awpO_nil ?_
      refine loopQ.normal ?_
      exact awpL_at rfl rfl (ih _ _ h)
  · refine cf rfl hc ?_
    refine awp_exit ?_
    refine condQ.exit ?_
    refine seqQ.exit ?_
    refine loopQ.exit ?_
    refine eh rfl ?_
    cases h
    exact .ok rfl

theorem p_jlex_name_ok {s : Str} {r : Token × Bool} (h : p_jlex_name s = some r) : aval X 25 [.d (.str s)] [] (CRes.ret (.tuple [.d (encToken r.1), .d (.bool r.2)]) []) := by
  unfold p_jlex_name at h
  refine aval_start (tm := [(0, .d (.str s))]) (hp := []) (n := 0) rfl Tryd.func25 rfl rfl rfl rfl rfl rfl ?_
  refine ra (nid' := 1) rfl ?_
  refine ra rfl ?_
  refine awp_seq ?_
  obtain ⟨k1, hs, h⟩ := bind_inv h
  refine awp_nrm (fun (k1 : Int) => (⟨[(0, .d (.str s)), (2, .c (.ptr 0 0)), (4, .d (.int .i64 k1))], [(0, [.d (.int .i64 0), .d (.str []), .own 1 (List.map (D.int .i64) []), .own 3 (List.map encCell []), .d (.int .i64 0)])], 1, [], none⟩ : St)) (y := k1) ?_ ?_
  · replace h := hs
    refine awp_block ?_
    refine awp_loop ?_
    exact awpL_at rfl rfl (p_jlex_name_l0_ok _ _ h)
  · refine seqQ.normal ?_
    refine awp_seq ?_
    refine rn 2 rfl ?_
    obtain ⟨s1, hk, h⟩ := bind_inv h
    refine po (esto hk rfl rfl rfl rfl) rfl rfl ?_
    refine on (nid' := 2) 3 rfl ?_
    refine rz ?_
    refine awp_seq ?_
    refine awp_seq ?_
    refine rn 2 rfl ?_
    obtain ⟨c, hk, h⟩ := bind_inv h
    refine po (ecall (p_jlex_at_ok hk) rfl rfl rfl rfl rfl rfl rfl rfl rfl) rfl rfl ?_
    refine on 1 rfl ?_
    refine rz ?_
    refine awp_seq ?_
    refine rn 3 rfl ?_
    rcases ite_inv h with ⟨hc, h⟩ | ⟨hc, h⟩
    · refine gt rfl rfl rfl rfl hc rfl ?_
      refine on 3 rfl ?_
      refine rz ?_
      refine ct rfl rfl ?_
      refine awp_seq ?_
      refine rn 3 rfl ?_
      obtain ⟨s2, hk, h⟩ := bind_inv h
      refine po (esto hk rfl rfl rfl rfl) rfl rfl ?_
      refine on 2 rfl ?_
      refine rz ?_
      refine awp_seq ?_
      refine drn (m := 13) 5 rfl rfl ?_
      rcases ite_inv h with ⟨hc, h⟩ | ⟨hc, h⟩
      · refine dgt rfl rfl rfl rfl hc rfl ?_
        refine don 6 rfl ?_
        refine dz (by kernel_rfl) ?_
        refine awp_ret ?_
        refine condQ.ret ?_
        refine seqQ.ret ?_
        cases h
        exact ⟨⟨_, _, _, _, rfl, rfl, rfl, rfl, rfl⟩⟩
      · refine dgf rfl rfl rfl rfl hc rfl ?_
        refine don 6 rfl ?_
        refine dz (by kernel_rfl) ?_
        refine awp_ret ?_
        refine condQ.ret ?_
        refine seqQ.ret ?_
        cases h
        exact ⟨⟨_, _, _, _, rfl, rfl, rfl, rfl, rfl⟩⟩
    · refine gf rfl rfl rfl rfl hc rfl ?_
      refine on 3 rfl ?_
      refine rz ?_
      rcases ite_inv h with ⟨hc, h⟩ | ⟨hc, h⟩
      · refine ct rfl hc ?_
        refine awp_seq ?_
        refine rn 3 rfl ?_
        obtain ⟨s3, hk, h⟩ := bind_inv h
        refine po (esto hk rfl rfl rfl rfl) rfl rfl ?_
        refine on 2 rfl ?_
        refine rz ?_
        refine awp_seq ?_
        refine drn (m := 13) 5 rfl rfl ?_
        rcases ite_inv h with ⟨hc, h⟩ | ⟨hc, h⟩
        · refine dgt rfl rfl rfl rfl hc rfl ?_
          refine don 6 rfl ?_
          refine dz (by kernel_rfl) ?_
          refine awp_ret ?_
          refine condQ.ret ?_
          refine seqQ.ret ?_
          cases h
          exact ⟨⟨_, _, _, _, rfl, rfl, rfl, rfl, rfl⟩⟩
        · refine dgf rfl rfl rfl rfl hc rfl ?_
          refine don 6 rfl ?_
          refine dz (by kernel_rfl) ?_
          refine awp_ret ?_
          refine condQ.ret ?_
          refine seqQ.ret ?_
          cases h
          exact ⟨⟨_, _, _, _, rfl, rfl, rfl, rfl, rfl⟩⟩
      · refine cf rfl hc ?_
        refine awp_skip ?_
        refine cn rfl ?_
        refine seqQ.normal ?_
        refine awp_seq ?_
        refine awp_seq ?_
        refine rn 4 rfl ?_
        rcases ite_inv h with ⟨hc, h⟩ | ⟨hc, h⟩
        · refine gt rfl rfl rfl rfl hc rfl ?_
          refine on 4 rfl ?_
          refine rz ?_
          refine ct rfl rfl ?_
          refine ra rfl ?_
          refine awp_ret ?_
          refine condQ.ret ?_
          refine seqQ.ret ?_
          cases h
          exact ⟨⟨_, _, _, _, rfl, rfl, rfl, rfl, rfl⟩⟩
        · refine gf rfl rfl rfl rfl hc rfl ?_
          refine on 4 rfl ?_
          refine rz ?_
          rcases ite_inv h with ⟨hc, h⟩ | ⟨hc, h⟩
          · refine ct rfl hc ?_
            refine ra rfl ?_
            refine awp_ret ?_
            refine condQ.ret ?_
            refine seqQ.ret ?_
            cases h
            exact ⟨⟨_, _, _, _, rfl, rfl, rfl, rfl, rfl⟩⟩
          · refine cf rfl hc ?_
            refine awp_skip ?_
            refine cn rfl ?_
            refine seqQ.normal ?_
            refine awp_seq ?_
            refine ra rfl ?_
            obtain ⟨res, hs, h⟩ := bind_inv h
            refine awp_sub Tryd.f25 0 (fun (r : Token × Bool) => (CRes.ret (.tuple [.d (encToken r.1), .d (.bool r.2)]) [])) (fun (_ : Unit) => (⟨[(2, .c (.ptr 0 0)), (4, .d (.int .i64 k1)), (5, .c (.ptr 1 0))], [(1, [.d (.int .i64 3), .d (.str s1), .own 1 (List.map (D.int .i64) []), .own 3 (List.map encCell []), .d (.int .i64 0)]), (0, [.d (.int .i64 0), .d (.str []), .own 1 (List.map (D.int .i64) []), .own 3 (List.map encCell []), .d (.int .i64 0)])], 2, [], none⟩ : St)) (res := res) ?_ (fun y hy => ?_) (fun r s' hr he => ?_)
            · replace h := hs
              refine awp_block ?_
              refine awp_loop ?_
              exact awpL_at rfl rfl (p_jlex_name_l1_ok _ _ h)
            · subst hy
              refine seqQ.normal ?_
              refine ra rfl ?_
              refine awp_ret ?_
              cases h
              exact ⟨⟨_, _, _, _, rfl, rfl, rfl, rfl, rfl⟩⟩
            · subst hr
              refine seqQ.ret ?_
              cases h
              exact he

end Go.AM.Seat

namespace Go.AM.Seat
open Go Go.AM Go.Proofs
set_option maxRecDepth 100000
set_option maxHeartbeats 4000000
set_option linter.unusedVariables false

theorem p_jlex_words_l0_ok : ∀ (a : ((List Str)) × (List Token) × Int) (res : (List Token)), p_jlex_words_l0 a = some res → (match a with | (x, l, x1) => awpL X 26 (codeAt [1, 1, 0, 1, 0, 0] (bodyOf Tryd.f26)) (cleanAt (X.H 26 3) 0) (exitQ 0 (X.H 26 1000000) 0 (NrmQ (fun (l2 : (List Token)) => (⟨[(1, .c (.own 5 (List.map encToken l2)))], [], 0, [], none⟩ : St)) res)) ⟨[(1, .c (.own 5 (List.map encToken l))), (5, .d (.list 1 (List.map D.str x))), (6, .d (.int .i64 (List.length x : Int))), (7, .d (.int .i64 x1))], [], 0, [], none⟩) := by
  refine p_jlex_words_l0.partial_correctness (motive := (fun a res => match a with | (x, l, x1) => awpL X 26 (codeAt [1, 1, 0, 1, 0, 0] (bodyOf Tryd.f26)) (cleanAt (X.H 26 3) 0) (exitQ 0 (X.H 26 1000000) 0 (NrmQ (fun (l2 : (List Token)) => (⟨[(1, .c (.own 5 (List.map encToken l2)))], [], 0, [], none⟩ : St)) res)) ⟨[(1, .c (.own 5 (List.map encToken l))), (5, .d (.list 1 (List.map D.str x))), (6, .d (.int .i64 (List.length x : Int))), (7, .d (.int .i64 x1))], [], 0, [], none⟩)) ?_
  rintro p_jlex_words_l0' ih ⟨x, l, x1⟩ res h
  refine lg rfl ?_
  refine ra rfl ?_
  refine awp_seq ?_
  rcases ite_inv h with ⟨hc, h⟩ | ⟨hc, h⟩
  · refine ct rfl hc ?_
    refine awp_skip ?_
    refine cn rfl ?_
    refine seqQ.normal ?_
    refine awp_seq ?_
    refine awp_block ?_
    refine awp_seq ?_
    refine rn 0 rfl ?_
    obtain ⟨s, hk, h⟩ := bind_inv h
    refine po (elget D.str (fun _ => rfl) hk rfl rfl rfl rfl rfl) rfl rfl ?_
    refine on 2 rfl ?_
    refine rz ?_
    refine ra rfl ?_
    refine awp_seq ?_
    refine ra rfl ?_
    obtain ⟨kind, hs, h⟩ := bind_inv h
    refine awp_nrm (fun (kind : Int) => (⟨[(1, .c (.own 5 (List.map encToken l))), (3, .d (.str s)), (4, .d (.int .i64 kind)), (5, .d (.list 1 (List.map D.str x))), (6, .d (.int .i64 (List.length x : Int))), (7, .d (.int .i64 x1))], [], 0, [], none⟩ : St)) (y := kind) ?_ ?_
    · replace h := hs
      refine awp_block ?_
      refine ra rfl ?_
      rcases ite_inv h with ⟨hc, h⟩ | ⟨hc, h⟩
      · refine ct rfl hc ?_
        refine rn 1 rfl ?_
        refine awpO_nil ?_
        refine cn rfl ?_
        refine en rfl ?_
        cases h
        exact .ok rfl
      · refine cf rfl hc ?_
        refine awp_seq ?_
        refine ra rfl ?_
        obtain ⟨x2, hs, h⟩ := bind_inv h
        refine awp_nrm (fun (x2 : Bool) => (⟨[(1, .c (.own 5 (List.map encToken l))), (3, .d (.str s)), (4, .d (.int .i64 4)), (5, .d (.list 1 (List.map D.str x))), (6, .d (.int .i64 (List.length x : Int))), (7, .d (.int .i64 x1)), (11, .d (.str s)), (14, .d (.bool x2))], [], 0, [], none⟩ : St)) (y := x2) ?_ ?_
        · replace h := hs
          rcases ite_inv h with ⟨hc, h⟩ | ⟨hc, h⟩
          · refine ct rfl hc ?_
            refine awp_skip ?_
            refine cn rfl ?_
            cases h
            exact .ok rfl
          · refine cf rfl hc ?_
            refine rn 2 rfl ?_
            refine awpO_nil ?_
            refine cn rfl ?_
            cases h
            exact .ok rfl
        · refine seqQ.normal ?_
          rcases ite_inv h with ⟨hc, h⟩ | ⟨hc, h⟩
          · refine ct rfl hc ?_
            refine rn 1 rfl ?_
            refine awpO_nil ?_
            refine cn rfl ?_
            refine cn rfl ?_
            refine en rfl ?_
            cases h
            exact .ok rfl
          · refine cf rfl hc ?_
            refine awp_seq ?_
            refine ra rfl ?_
            obtain ⟨x3, hs, h⟩ := bind_inv h
            refine awp_nrm (fun (x3 : Bool) => (⟨[(1, .c (.own 5 (List.map encToken l))), (3, .d (.str s)), (4, .d (.int .i64 4)), (5, .d (.list 1 (List.map D.str x))), (6, .d (.int .i64 (List.length x : Int))), (7, .d (.int .i64 x1)), (17, .d (.bool x3))], [], 0, [], none⟩ : St)) (y := x3) ?_ ?_
            · replace h := hs
              rcases ite_inv h with ⟨hc, h⟩ | ⟨hc, h⟩
              · refine ct rfl hc ?_
                refine awp_skip ?_
                refine cn rfl ?_
                cases h
                exact .ok rfl
              · refine cf rfl hc ?_
                refine rn 2 rfl ?_
                refine awpO_nil ?_
                refine cn rfl ?_
                cases h
                exact .ok rfl
            · refine seqQ.normal ?_
              rcases ite_inv h with ⟨hc, h⟩ | ⟨hc, h⟩
              · refine ct rfl hc ?_
                refine rn 1 rfl ?_
                refine awpO_nil ?_
                refine cn rfl ?_
                refine cn rfl ?_
                refine cn rfl ?_
                refine en rfl ?_
                cases h
                exact .ok rfl
              · refine cf rfl hc ?_
                refine awp_skip ?_
                refine cn rfl ?_
                refine cn rfl ?_
                refine cn rfl ?_
                refine en rfl ?_
                cases h
                exact .ok rfl
    · refine seqQ.normal ?_
      refine rn 5 rfl ?_
      obtain ⟨l1, hk, h⟩ := bind_inv h
      refine po (eappv hk rfl rfl rfl rfl rfl rfl rfl rfl rfl rfl rfl rfl rfl ) rfl rfl ?_
      refine on 1 rfl ?_
      refine awpO_nil ?_
      refine en rfl ?_
      refine seqQ.normal ?_
      refine rn 2 rfl ?_
      refine awpO_nil ?_
      refine loopQ.normal ?_
      exact awpL_at rfl rfl (ih _ _ h)
  · refine cf rfl hc ?_
    refine awp_exit ?_
    refine condQ.exit ?_
    refine seqQ.exit ?_
    refine loopQ.exit ?_
    refine eh rfl ?_
    cases h
    exact .ok rfl

theorem p_jlex_words_ok  {r : (List Token)} (h : p_jlex_words = some r) : aval X 26 [] [] (CRes.ret (.d (.list 5 (List.map encToken r))) []) := by
  unfold p_jlex_words at h
  refine aval_start (tm := []) (hp := []) (n := 0) rfl Tryd.func26 rfl rfl rfl rfl rfl rfl ?_
  refine ra rfl ?_
  refine ra rfl ?_
  refine awp_seq ?_
  refine awp_seq ?_
  refine rn 0 rfl ?_
  obtain ⟨x, hk, h⟩ := bind_inv h
  refine po (ecall (goFields_ok hk) rfl rfl rfl rfl rfl rfl rfl rfl rfl) rfl rfl ?_
  refine po (ellen rfl rfl rfl rfl rfl rfl rfl) rfl rfl ?_
  refine on 1 rfl ?_
  refine rz ?_
  obtain ⟨l2, hs, h⟩ := bind_inv h
  refine awp_nrm (fun (l2 : (List Token)) => (⟨[(1, .c (.own 5 (List.map encToken l2)))], [], 0, [], none⟩ : St)) (y := l2) ?_ ?_
  · replace h := hs
    refine awp_block ?_
    refine awp_loop ?_
    exact awpL_at rfl rfl (p_jlex_words_l0_ok _ _ h)
  · refine seqQ.normal ?_
    refine ra rfl ?_
    refine awp_ret ?_
    cases h
    exact ⟨⟨_, _, _, _, rfl, rfl, rfl, rfl, rfl⟩⟩

end Go.AM.Seat
