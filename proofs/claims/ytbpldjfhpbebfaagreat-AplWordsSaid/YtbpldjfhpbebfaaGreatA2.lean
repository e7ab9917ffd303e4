/- Part of a proof about the given program: the abstract machine, the printed functions, the plain laws. (AMCall, AMCall2, AMCall3, AMAppend, AMAppend2, AMOp, AMOp2, AMRegion, AMSelf, AMSame, AMLocal, AMLocal2, AMLocal3, AMDraw, AMDraw2, AMDraw3, AMDraw4) -/
import Derived.Test.YtbpldjfhpbebfaaGreatA1
import Derived.LoopN
import Derived.Scope
import Derived.Orders
set_option linter.all false
set_option linter.unusedSectionVars false
set_option linter.unusedVariables false
set_option linter.unusedSimpArgs false

namespace Go.AM
open Go
variable [Globs]
theorem mapM?_spec {α β : Type} {f : α → Option β} : ∀ {l : List α} {r : List β}, mapM? f l = some r → r.length = l.length ∧ ∀ (i : Nat) (x : α), l[i]? = some x → ∃ y, f x = some y ∧ r[i]? = some y
 | [], r, h => by simp only [mapM?, Option.some.injEq] at h; subst h; simp
 | x :: l, r, h => by
  simp only [mapM?] at h
  split at h
  ·rename_i y ys hy hys
   simp only [Option.some.injEq] at h; subst h
   obtain ⟨h1, h2⟩ := mapM?_spec hys
   refine ⟨by simp [h1], fun i z hz => ?_⟩
   cases i with
   | zero => simp at hz; subst hz; exact ⟨y, hy, by simp⟩
   | succ i => simpa using h2 i z (by simpa using hz)
  ·simp at h
theorem mapM?_get {α β : Type} {f : α → Option β} {l : List α} {r : List β} (h : mapM? f l = some r) {i : Nat} {y : β} (hy : r[i]? = some y) : ∃ x, l[i]? = some x ∧ f x = some y := by
 obtain ⟨h1, h2⟩ := mapM?_spec h
 have hi : i < l.length := by rw [← h1]; exact (List.getElem?_eq_some_iff.1 hy).1
 obtain ⟨z, hz, hz'⟩ := h2 i l[i] (by simp [hi])
 rw [hy, Option.some.injEq] at hz'
 subst hz'
 exact ⟨l[i], by simp [hi], hz⟩
theorem reach_spec {hp : List (Nat × List C)} : ∀ {n : Nat} {todo seen ids : List Nat}, reach hp n todo seen = some ids → seen.Nodup →
  ids.Nodup ∧ (∃ r, ids = seen ++ r) ∧ ∀ b ∈ ids, b ∈ seen ∨ (look b hp).isSome = true
 | 0, _, _, _, h, _ => by simp [reach] at h
 | n + 1, [], seen, ids, h, hn => by
  simp only [reach, Option.some.injEq] at h; subst h
  exact ⟨hn, ⟨[], by simp⟩, fun b hb => .inl hb⟩
 | n + 1, b :: r, seen, ids, h, hn => by
  simp only [reach] at h
  split at h
  ·exact reach_spec h hn
  ·rename_i hb
   split at h
   ·rename_i cells hc
    obtain ⟨h1, ⟨q, h2⟩, h3⟩ := reach_spec h (by
     rw [List.nodup_append]
     exact ⟨hn, by simp, by intro x hx y hy; simp at hy; subst hy; intro e; subst e; exact hb hx⟩)
    refine ⟨h1, ⟨b :: q, by rw [h2]; simp⟩, fun x hx => ?_⟩
    rcases h3 x hx with h | h
    ·rcases List.mem_append.1 h with h | h
     ·exact .inl h
     ·simp at h; subst h; exact .inr (by rw [hc]; rfl)
    ·exact .inr h
   ·simp at h
theorem idx_some {b : Nat} : ∀ {l : List Nat} {n i : Nat}, idx b l n = some i → n ≤ i ∧ l[i - n]? = some b
 | [], n, i, h => by simp [idx] at h
 | x :: l, n, i, h => by
  simp only [idx] at h
  split at h
  ·rename_i hx
   simp only [Option.some.injEq] at h; subst h
   exact ⟨Nat.le_refl _, by simp [hx]⟩
  ·obtain ⟨h1, h2⟩ := idx_some h
   refine ⟨by omega, ?_⟩
   rw [show i - n = (i - (n + 1)) + 1 from by omega]
   simpa using h2
theorem idx_of {b : Nat} : ∀ {l : List Nat} {n i : Nat}, l.Nodup → l[i]? = some b → idx b l n = some (n + i)
 | [], n, i, _, h => by simp at h
 | x :: l, n, 0, _, h => by simp at h; simp [idx, h]
 | x :: l, n, i + 1, hn, h => by
  rw [List.nodup_cons] at hn
  have hb : b ∈ l := by exact List.mem_of_getElem? (by simpa using h)
  simp only [idx]
  rw [if_neg (fun e : x = b => hn.1 (e ▸ hb)), idx_of hn.2 (by simpa using h)]
  congr 1; omega
theorem idx_none {b : Nat} : ∀ {l : List Nat} {n : Nat}, b ∉ l → idx b l n = none
 | [], n, _ => rfl
 | x :: l, n, h => by
  simp only [List.mem_cons, not_or] at h
  simp only [idx]
  rw [if_neg (fun e => h.1 e.symm), idx_none h.2]
theorem idx_mem {b : Nat} {l : List Nat} {n i : Nat} (h : idx b l n = some i) : b ∈ l := List.mem_of_getElem? (idx_some h).2
section
variable {P : Program} {K K' : Col} {μ μ' : Nat → Nat} {w w' : World} {s : St} {a : Act}
mutual
theorem Rep.recolor (hK : ∀ b o, K b o = .ro → K' b o = .ro) : ∀ (d : D) (v : Value), Rep K w d v → Rep K' w d v
 | .bool _, _, h => h
 | .int _ _, _, h => h
 | .str _, _, h => h
 | .list sz xs, v, h => by
  simp only [Rep] at h ⊢
  rcases h with h | ⟨blk, off, cap, rfl, hc, he⟩
  ·exact .inl h
  ·exact .inr ⟨blk, off, cap, rfl, hc, RepE.recolor hK xs sz blk off he⟩
 | .agg cs, v, h => by
  simp only [Rep] at h ⊢
  obtain ⟨vs, rfl, hl⟩ := h
  exact ⟨vs, rfl, RepL.recolor hK cs vs hl⟩
 | .iface t d, v, h => by
  simp only [Rep] at h ⊢
  obtain ⟨u, rfl, hu⟩ := h
  exact ⟨u, rfl, Rep.recolor hK d u hu⟩
 | .nilIface, _, h => h
theorem RepL.recolor (hK : ∀ b o, K b o = .ro → K' b o = .ro) : ∀ (ds : List D) (vs : List Value), RepL K w ds vs → RepL K' w ds vs
 | [], _, h => h
 | d :: ds, vs, h => by
  simp only [RepL] at h ⊢
  obtain ⟨v, r, rfl, h1, hd, hr⟩ := h
  exact ⟨v, r, rfl, h1, Rep.recolor hK d v hd, RepL.recolor hK ds r hr⟩
theorem RepE.recolor (hK : ∀ b o, K b o = .ro → K' b o = .ro) : ∀ (ds : List D) (sz blk off : Nat), RepE K w sz blk off ds → RepE K' w sz blk off ds
 | [], _, _, _, _ => by simp only [RepE]
 | d :: ds, sz, blk, off, h => by
  simp only [RepE] at h ⊢
  obtain ⟨⟨v, hd, hz, hc⟩, hr⟩ := h
  exact ⟨⟨v, Rep.recolor hK d v hd, hz, fun i u hu => ⟨hK _ _ (hc i u hu).1, (hc i u hu).2⟩⟩, RepE.recolor hK ds sz blk (off + sz) hr⟩
end
theorem into_rep {ids : List Nat} (hK : ∀ b o, K b o = .ro → K' b o = .ro) (hμ : ∀ i b, ids[i]? = some b → μ' i = μ b) {c c' : C} {v : Value} (hc : C.into ids c = some c') (h : RepC K μ w c v) :
  RepC K' μ' w c' v ∧ (∀ i ∈ c'.ids, i < ids.length) ∧ (∀ sz xs, c' = .own sz xs ↔ c = .own sz xs) := by
 cases c with
 | d x => simp only [C.into, Option.some.injEq] at hc; subst hc; exact ⟨Rep.recolor hK x v h, by simp [C.ids], by simp⟩
 | own sz xs => simp only [C.into, Option.some.injEq] at hc; subst hc; exact ⟨Rep.recolor hK (.list sz xs) v h, by simp [C.ids], by simp⟩
 | ptr b off =>
  simp only [C.into, Option.map_eq_some_iff] at hc
  obtain ⟨i, hi, rfl⟩ := hc
  obtain ⟨_, h2⟩ := idx_some hi
  simp only [RepC] at h ⊢
  refine ⟨by rw [hμ i b (by simpa using h2)]; exact h, ?_, by simp⟩
  intro j hj
  simp [C.ids] at hj; subst hj
  exact (List.getElem?_eq_some_iff.1 (by simpa using h2)).1
 | arr b n sz =>
  simp only [C.into, Option.map_eq_some_iff] at hc
  obtain ⟨i, hi, rfl⟩ := hc
  obtain ⟨_, h2⟩ := idx_some hi
  simp only [RepC] at h ⊢
  refine ⟨by rw [hμ i b (by simpa using h2)]; exact h, ?_, by simp⟩
  intro j hj
  simp [C.ids] at hj; subst hj
  exact (List.getElem?_eq_some_iff.1 (by simpa using h2)).1
 | mp b =>
  simp only [C.into, Option.map_eq_some_iff] at hc
  obtain ⟨i, hi, rfl⟩ := hc
  obtain ⟨_, h2⟩ := idx_some hi
  simp only [RepC] at h ⊢
  refine ⟨by rw [hμ i b (by simpa using h2)]; exact h, ?_, by simp⟩
  intro j hj
  simp [C.ids] at hj; subst hj
  exact (List.getElem?_eq_some_iff.1 (by simpa using h2)).1
 | ment kvs => exact h.elim
 | seq sz ds => exact h.elim
 | hid => simp only [C.into, Option.some.injEq] at hc; subst hc; exact ⟨trivial, by simp [C.ids], by simp⟩
 | fn f caps =>
  simp only [C.into, Option.map_eq_some_iff] at hc
  obtain ⟨caps', hcaps, rfl⟩ := hc
  obtain ⟨h1, h2⟩ := mapM?_spec hcaps
  simp only [RepC] at h ⊢
  refine ⟨?_, ?_, by simp⟩
  ·rw [h]
   congr 2
   apply List.ext_getElem?
   intro i
   simp only [List.getElem?_map]
   cases hi : caps[i]? with
   | none =>
    have : caps'[i]? = none := by rw [List.getElem?_eq_none_iff] at hi ⊢; omega
    simp [this]
   | some b =>
    obtain ⟨j, hj, hj'⟩ := h2 i b hi
    obtain ⟨_, h4⟩ := idx_some hj
    simp [hj', hμ j b (by simpa using h4)]
  ·intro j hj
   simp only [C.ids] at hj
   obtain ⟨i, hi⟩ := List.getElem?_of_mem hj
   obtain ⟨b, _, hb⟩ := mapM?_get hcaps hi
   obtain ⟨_, h4⟩ := idx_some hb
   exact (List.getElem?_eq_some_iff.1 (by simpa using h4)).1
 | nilptr => simp only [C.into, Option.some.injEq] at hc; subst hc; exact ⟨h, by simp [C.ids], by simp⟩
 | nilfn => simp only [C.into, Option.some.injEq] at hc; subst hc; exact ⟨h, by simp [C.ids], by simp⟩
 | nilmap => simp only [C.into, Option.some.injEq] at hc; subst hc; exact ⟨h, by simp [C.ids], by simp⟩
 | nilchan => simp only [C.into, Option.some.injEq] at hc; subst hc; exact ⟨h, by simp [C.ids], by simp⟩
 | nilsl _ => simp only [C.into, Option.some.injEq] at hc; subst hc; exact ⟨h, by simp [C.ids], by simp⟩
 | full sz xs => simp only [C.into, Option.some.injEq] at hc; subst hc; exact ⟨⟨Rep.recolor hK (.list sz xs) v h.1, h.2⟩, by simp [C.ids], by simp⟩
 | undef => simp only [C.into, Option.some.injEq] at hc; subst hc; exact ⟨h, by simp [C.ids], by simp⟩
theorem back_rep {ids : List Nat} (hK : ∀ b o, K b o = .ro → K' b o = .ro) (hμ : ∀ i b, ids[i]? = some b → μ' b = μ i) {c c' : C} {v : Value} (hc : C.back ids c = some c') (h : RepC K μ w c v) :
  RepC K' μ' w c' v ∧ (∀ b ∈ c'.ids, b ∈ ids) ∧ (∀ sz xs, c' = .own sz xs ↔ c = .own sz xs) := by
 cases c with
 | d x => simp only [C.back, Option.some.injEq] at hc; subst hc; exact ⟨Rep.recolor hK x v h, by simp [C.ids], by simp⟩
 | own sz xs => simp only [C.back, Option.some.injEq] at hc; subst hc; exact ⟨Rep.recolor hK (.list sz xs) v h, by simp [C.ids], by simp⟩
 | ptr i off =>
  simp only [C.back] at hc
  split at hc
  ·rename_i b hb
   simp only [Option.some.injEq] at hc; subst hc
   simp only [RepC] at h ⊢
   refine ⟨by rw [hμ i b hb]; exact h, ?_, by simp⟩
   intro j hj
   simp [C.ids] at hj; subst hj
   exact List.mem_of_getElem? hb
  ·simp at hc
 | arr i n sz =>
  simp only [C.back] at hc
  split at hc
  ·rename_i b hb
   simp only [Option.some.injEq] at hc; subst hc
   simp only [RepC] at h ⊢
   refine ⟨by rw [hμ i b hb]; exact h, ?_, by simp⟩
   intro j hj
   simp [C.ids] at hj; subst hj
   exact List.mem_of_getElem? hb
  ·simp at hc
 | mp i =>
  simp only [C.back] at hc
  split at hc
  ·rename_i b hb
   simp only [Option.some.injEq] at hc; subst hc
   simp only [RepC] at h ⊢
   refine ⟨by rw [hμ i b hb]; exact h, ?_, by simp⟩
   intro j hj
   simp [C.ids] at hj; subst hj
   exact List.mem_of_getElem? hb
  ·simp at hc
 | ment kvs => exact h.elim
 | seq sz ds => exact h.elim
 | hid => simp only [C.back, Option.some.injEq] at hc; subst hc; exact ⟨trivial, by simp [C.ids], by simp⟩
 | fn f caps =>
  simp only [C.back, Option.map_eq_some_iff] at hc
  obtain ⟨caps', hcaps, rfl⟩ := hc
  obtain ⟨h1, h2⟩ := mapM?_spec hcaps
  simp only [RepC] at h ⊢
  refine ⟨?_, ?_, by simp⟩
  ·rw [h]
   congr 2
   apply List.ext_getElem?
   intro i
   simp only [List.getElem?_map]
   cases hi : caps[i]? with
   | none =>
    have : caps'[i]? = none := by rw [List.getElem?_eq_none_iff] at hi ⊢; omega
    simp [this]
   | some j =>
    obtain ⟨b, hb, hb'⟩ := h2 i j hi
    simp [hb', hμ j b hb]
  ·intro j hj
   simp only [C.ids] at hj
   obtain ⟨i, hi⟩ := List.getElem?_of_mem hj
   obtain ⟨b, _, hb⟩ := mapM?_get hcaps hi
   exact List.mem_of_getElem? hb
 | nilptr => simp only [C.back, Option.some.injEq] at hc; subst hc; exact ⟨h, by simp [C.ids], by simp⟩
 | nilfn => simp only [C.back, Option.some.injEq] at hc; subst hc; exact ⟨h, by simp [C.ids], by simp⟩
 | nilmap => simp only [C.back, Option.some.injEq] at hc; subst hc; exact ⟨h, by simp [C.ids], by simp⟩
 | nilchan => simp only [C.back, Option.some.injEq] at hc; subst hc; exact ⟨h, by simp [C.ids], by simp⟩
 | nilsl _ => simp only [C.back, Option.some.injEq] at hc; subst hc; exact ⟨h, by simp [C.ids], by simp⟩
 | full sz xs => simp only [C.back, Option.some.injEq] at hc; subst hc; exact ⟨⟨Rep.recolor hK (.list sz xs) v h.1, h.2⟩, by simp [C.ids], by simp⟩
 | undef => simp only [C.back, Option.some.injEq] at hc; subst hc; exact ⟨h, by simp [C.ids], by simp⟩
theorem thru_rep {f : Nat → Option Nat} {Q : Nat → Prop} (hK : ∀ b o, K b o = .ro → K' b o = .ro) (hf : ∀ b i, f b = some i → μ' i = μ b ∧ Q i) : ∀ {kvs kvs' : List (D × MV)} {es : List MapEntry}, mapM? (thruE f) kvs = some kvs' → MapRep K μ w kvs es →
  MapRep K' μ' w kvs' es ∧ ∀ x ∈ kvs', ∀ i ∈ x.2.ids, Q i
 | [], kvs', es, h, hr => by
  simp only [mapM?, Option.some.injEq] at h; subst h
  exact ⟨hr, by simp⟩
 | (k, m) :: r, kvs', es, h, hr => by
  simp only [mapM?] at h
  split at h
  ·rename_i y ys hy hys
   simp only [Option.some.injEq] at h; subst h
   simp only [MapRep] at hr
   obtain ⟨e, es', rfl, h1, h2, h3⟩ := hr
   obtain ⟨g1, g2⟩ := thru_rep hK hf hys h3
   simp only [thruE, Option.map_eq_some_iff] at hy
   obtain ⟨m', hm', rfl⟩ := hy
   have hmr : RepC K' μ' w m'.toC e.val ∧ ∀ i ∈ m'.ids, Q i := by
    cases m with
    | d x =>
     simp only [MV.thru, Option.some.injEq] at hm'; subst hm'
     exact ⟨Rep.recolor hK _ _ h2, by simp [MV.ids]⟩
    | fn g caps =>
     simp only [MV.thru, Option.map_eq_some_iff] at hm'
     obtain ⟨caps', hc, rfl⟩ := hm'
     obtain ⟨q1, q2⟩ := mapM?_spec hc
     simp only [MV.toC, RepC] at h2 ⊢
     refine ⟨?_, ?_⟩
     ·rw [h2]
      congr 2
      refine List.ext_getElem? fun i => ?_
      simp only [List.getElem?_map]
      cases hi : caps[i]? with
      | none =>
       have : caps'[i]? = none := by
        rw [List.getElem?_eq_none_iff] at hi ⊢
        omega
       rw [this]; rfl
      | some b =>
       obtain ⟨y, hy1, hy2⟩ := q2 i b hi
       rw [hy2]
       simp only [Option.map_some, (hf b y hy1).1]
     ·intro i hi
      simp only [MV.ids] at hi
      obtain ⟨j, hj⟩ := List.getElem?_of_mem hi
      obtain ⟨b, _, hb⟩ := mapM?_get hc hj
      exact (hf b i hb).2
   simp only [MapRep]
   refine ⟨⟨e, es', rfl, Rep.recolor hK _ _ h1, hmr.1, g1⟩, ?_⟩
   intro x hx
   rcases List.mem_cons.1 hx with rfl | hx
   ·exact hmr.2
   ·exact g2 x hx
  ·simp at h
theorem mapM_ment {f : C → Option C} {cells cells' : List C} (hf : ∀ c c', f c = some c' → ((∃ kvs, c = .ment kvs) ↔ ∃ kvs, c' = .ment kvs)) (h : mapM? f cells = some cells') : (mapOf cells).isSome = (mapOf cells').isSome := by
 match cells, cells', h with
 | [], cells', h => simp only [mapM?, Option.some.injEq] at h; subst h; rfl
 | [c], cells', h =>
  simp only [mapM?] at h
  split at h
  ·rename_i y ys hy hys
   simp only [Option.some.injEq] at h hys; subst hys; subst h
   have := hf c y hy
   cases c <;> cases y <;> simp_all [mapOf]
  ·simp at h
 | c :: c2 :: r, cells', h =>
  simp only [mapM?] at h
  split at h
  ·rename_i y ys hy hys
   simp only [Option.some.injEq] at h; subst h
   split at hys
   ·simp only [Option.some.injEq] at hys; subst hys
    simp [mapOf]
   ·simp at hys
  ·simp at h
theorem into_ment {ids : List Nat} (c c' : C) (h : C.into ids c = some c') : (∃ kvs, c = .ment kvs) ↔ ∃ kvs, c' = .ment kvs := by
 cases c <;> simp only [C.into, Option.some.injEq, Option.map_eq_some_iff] at h <;> first
  | (subst h; simp; done)
  | (obtain ⟨_, _, rfl⟩ := h; simp)
theorem back_ment {ids : List Nat} (c c' : C) (h : C.back ids c = some c') : (∃ kvs, c = .ment kvs) ↔ ∃ kvs, c' = .ment kvs := by
 cases c <;> simp only [C.back, Option.some.injEq, Option.map_eq_some_iff] at h <;> first
  | (subst h; simp; done)
  | (obtain ⟨_, _, rfl⟩ := h; simp; done)
  | (split at h <;> first | (simp only [Option.some.injEq] at h; subst h; simp; done) | (simp at h; done))
theorem mapM_flat {f : C → Option C} {cells cells' : List C} (hd : ∀ d, f (.d d) = some (.d d)) (hs : ∀ sz ds, f (.seq sz ds) = some (.seq sz ds)) (hs' : ∀ c sz ds, f c = some (.seq sz ds) → c = .seq sz ds)
  (h : mapM? f cells = some cells') : mapM? f (flatC cells) = some (flatC cells') ∧ (∀ sz ds, cells' = [.seq sz ds] ↔ cells = [.seq sz ds]) := by
 have hbk : ∀ sz ds, cells' = [.seq sz ds] ↔ cells = [.seq sz ds] := by
  intro sz ds
  constructor
  ·rintro rfl
   match cells, h with
   | [], h => simp [mapM?] at h
   | [c], h =>
    simp only [mapM?] at h
    split at h
    ·rename_i y ys hy hys
     simp only [Option.some.injEq, List.cons.injEq] at h hys
     rw [h.1] at hy
     rw [hs' _ _ _ hy]
    ·simp at h
   | c :: c2 :: r, h =>
    simp only [mapM?] at h
    split at h
    ·rename_i y ys hy hys
     split at hys
     ·simp only [Option.some.injEq] at hys; subst hys
      simp at h
     ·simp at hys
    ·simp at h
  ·rintro rfl
   simp only [mapM?, hs, Option.some.injEq] at h
   exact h.symm
 refine ⟨?_, hbk⟩
 by_cases hq : ∃ sz ds, cells = [.seq sz ds]
 ·obtain ⟨sz, ds, rfl⟩ := hq
  rw [(hbk sz ds).2 rfl]
  simp only [flatC]
  have : ∀ l : List D, mapM? f (l.map C.d) = some (l.map C.d) := by
   intro l
   induction l with
   | nil => rfl
   | cons x l ih => simp only [List.map_cons, mapM?, hd, ih]
  have hfl : flatD ds = (ds.flatMap D.cells).map C.d := by simp [flatD, List.map_flatMap]
  rw [hfl]; exact this _
 ·rw [flatC_other fun sz ds e => hq ⟨sz, ds, e⟩, flatC_other fun sz ds e => hq ⟨sz, ds, (hbk sz ds).1 e⟩]
  exact h
theorem into_flat {ids : List Nat} {cells cells' : List C} (h : mapM? (C.into ids) cells = some cells') : mapM? (C.into ids) (flatC cells) = some (flatC cells') ∧ (∀ sz ds, cells' = [.seq sz ds] ↔ cells = [.seq sz ds]) :=
 mapM_flat (fun _ => rfl) (fun _ _ => rfl) (fun c sz ds e => by
  cases c <;> simp only [C.into, Option.some.injEq, Option.map_eq_some_iff, reduceCtorEq, and_false, exists_false] at e ⊢ <;> exact e) h
theorem back_flat {ids : List Nat} {cells cells' : List C} (h : mapM? (C.back ids) cells = some cells') : mapM? (C.back ids) (flatC cells) = some (flatC cells') ∧ (∀ sz ds, cells' = [.seq sz ds] ↔ cells = [.seq sz ds]) :=
 mapM_flat (fun _ => rfl) (fun _ _ => rfl) (fun c sz ds e => by
  cases c <;> simp only [C.back, Option.some.injEq, Option.map_eq_some_iff, reduceCtorEq, and_false, exists_false] at e ⊢ <;> first | exact e | (split at e <;> simp at e)) h
theorem into_hid {ids : List Nat} {cells cells' : List C} (h : mapM? (C.into ids) cells = some cells') {o : Nat} (ho : cells[o]? = some C.hid) : cells'[o]? = some C.hid := by
 have hl := (mapM?_spec h).1
 have h2 := (List.getElem?_eq_some_iff.1 ho).1
 have : cells'[o]? = some cells'[o] := List.getElem?_eq_getElem (by omega)
 obtain ⟨c, hc, hcc⟩ := mapM?_get h this
 rw [ho, Option.some.injEq] at hc
 subst hc
 simp only [C.into, Option.some.injEq] at hcc
 rw [this, ← hcc]
theorem back_hid {ids : List Nat} {cells cells' : List C} (h : mapM? (C.back ids) cells = some cells') {o : Nat} (ho : cells[o]? = some C.hid) : cells'[o]? = some C.hid := by
 have hl := (mapM?_spec h).1
 have h2 := (List.getElem?_eq_some_iff.1 ho).1
 have : cells'[o]? = some cells'[o] := List.getElem?_eq_getElem (by omega)
 obtain ⟨c, hc, hcc⟩ := mapM?_get h this
 rw [ho, Option.some.injEq] at hc
 subst hc
 simp only [C.back, Option.some.injEq] at hcc
 rw [this, ← hcc]
theorem RepCs.mapM {f : C → Option C} {cs cs' : List C} {vs : List Value} (hm : mapM? f cs = some cs') (hr : RepCs K μ w cs vs)
  (hf : ∀ c c' v, f c = some c' → RepC K μ w c v → RepC K' μ' w c' v) : RepCs K' μ' w cs' vs := by
 obtain ⟨h1, _⟩ := mapM?_spec hm
 refine RepCs.of_get (by rw [h1, hr.length]) fun i c' v hc hv => ?_
 obtain ⟨c, hci, hcc⟩ := mapM?_get hm hc
 obtain ⟨u, hu, hru⟩ := hr.get hci
 rw [hv, Option.some.injEq] at hu
 subst hu
 exact hf c c' v hcc hru
def HRep (K : Col) (μ : Nat → Nat) (w : World) (lh : List (List C)) : Prop :=
 ∀ i cells, lh[i]? = some cells → (∀ c ∈ cells, ∀ j ∈ c.ids, j < lh.length) ∧ BlkRep K μ w i cells
def PlainV (v : V) : Prop := (∀ sz xs, v ≠ .c (.own sz xs)) ∧ ∀ l sz xs, v ≠ .view l sz xs
def BoundK (K : Col) (w : World) : Prop := ∀ blk off, w.heap.size ≤ blk → K blk off = .other
def CallOK (P : Program) (f : Nat) (args : List C) (lh : List (List C)) (r : CRes) : Prop :=
 ∀ K μ w vs, RepCs K μ w args vs → (∀ c ∈ args, ∀ b ∈ c.ids, b < lh.length) → HRep K μ w lh → BoundK K w → Glob K w →
  Calls P f vs.toArray w fun e w' => ∃ K' μ', Step mine K w K' w' ∧ BoundK K' w' ∧ (∀ i, i < lh.length → μ' i = μ i) ∧
   match r with
   | .ret v lh' => lh.length ≤ lh'.length ∧ HRep K' μ' w' lh' ∧ PlainV v ∧ (∀ b ∈ v.ids, b < lh'.length) ∧ ∃ u, e = .returned u ∧ RepV K' μ' w' v u
   | .pan d lh' => lh'.length = lh.length ∧ HRep K' μ' w' lh' ∧ ∃ u, e = .panicked [⟨u, false, false⟩] ∧ Rep K' w' d u
theorem Glob.recolor [Globs] {K K' : Col} {w : World} (hK : ∀ b o, K b o = .ro → K' b o = .ro) (h : Glob K w) : Glob K' w :=
 fun x hx i v hv => ⟨hK _ _ (h x hx i v hv).1, (h x hx i v hv).2⟩
def tagIn (ids : List Nat) : Tag → Tag
 | .ro => .ro
 | .other => .other
 | .blk b => match idx b ids 0 with
  | some i => .blk i
  | none => .other
 | .sp (.cell b o) => match idx b ids 0 with
  | some i => .sp (.cell i o)
  | none => .other
 | .sp (.tmp _) => .other
def tagOut (ids : List Nat) : Tag → Tag
 | .ro => .ro
 | .other => .other
 | .blk i => match ids[i]? with
  | some b => .blk b
  | none => .other
 | .sp (.cell i o) => match ids[i]? with
  | some b => .sp (.cell b o)
  | none => .other
 | .sp (.tmp _) => .other
def handed (ids : List Nat) (t : Tag) : Prop := ∃ b ∈ ids, t = .blk b ∨ ∃ o, t = .sp (.cell b o)
theorem tagIn_not {ids : List Nat} {t : Tag} (h : ¬ handed ids t) : ¬ mine (tagIn ids t) := by
 intro hm
 cases t with
 | ro => exact hm.1 rfl
 | other => exact hm.2 rfl
 | blk b =>
  simp only [tagIn] at hm
  split at hm
  ·rename_i i hi; exact h ⟨b, idx_mem hi, .inl rfl⟩
  ·exact hm.2 rfl
 | sp l =>
  cases l with
  | tmp t => exact hm.2 rfl
  | cell b o =>
   simp only [tagIn] at hm
   split at hm
   ·rename_i i hi; exact h ⟨b, idx_mem hi, .inr ⟨o, rfl⟩⟩
   ·exact hm.2 rfl
theorem tagIn_ro {ids : List Nat} {t : Tag} : tagIn ids t = .ro ↔ t = .ro := by
 cases t with
 | ro => simp [tagIn]
 | other => simp [tagIn]
 | blk b => simp only [tagIn]; split <;> simp
 | sp l => cases l with
  | tmp t => simp [tagIn]
  | cell b o => simp only [tagIn]; split <;> simp
def colBack (ids : List Nat) (K Kc Kc' : Col) (n : Nat) : Col := fun b o =>
 if b < n ∧ Kc b o = .other then K b o else tagOut ids (Kc' b o)
theorem colBack_known {ids : List Nat} {Kc Kc' : Col} (hst : Step mine Kc w Kc' w') {b o : Nat} (h : Kc' b o ≠ .other) :
  colBack ids K Kc Kc' w.heap.size b o = tagOut ids (Kc' b o) := by
 simp only [colBack]
 rw [if_neg]
 rintro ⟨h1, h2⟩
 exact h ((hst.cell b o h1 (by rw [h2]; exact fun hm => hm.2 rfl)).2.2.trans h2)
theorem colBack_ro {ids : List Nat} {Kc Kc' : Col} (hst : Step mine Kc w Kc' w') (b o : Nat) (h : Kc' b o = .ro) : colBack ids K Kc Kc' w.heap.size b o = .ro := by
 rw [colBack_known hst (by rw [h]; simp), h]; rfl
theorem step_back {ids ids' : List Nat} {Kc' : Col} (hst : Step mine (fun b o => tagIn ids (K b o)) w Kc' w') :
  Step (handed ids) K w (colBack ids' K (fun b o => tagIn ids (K b o)) Kc' w.heap.size) w' := by
 refine ⟨hst.os, hst.tape, hst.output, hst.size, fun b hb hn => hst.block b hb fun off => tagIn_not (hn off), fun b o hb hn => ?_⟩
 have h1 := hst.cell b o hb (tagIn_not hn)
 refine ⟨h1.1, h1.2.1, ?_⟩
 by_cases hro : K b o = .ro
 ·rw [colBack_ro hst b o (by rw [h1.2.2, hro]; rfl), hro]
 ·simp only [colBack]
  rw [if_pos]
  refine ⟨hb, ?_⟩
  have hm := tagIn_not hn
  have h2 : tagIn ids (K b o) ≠ .ro := fun e => hro (tagIn_ro.1 e)
  by_cases h3 : tagIn ids (K b o) = .other
  ·exact h3
  ·exact absurd ⟨h2, h3⟩ hm
end
end Go.AM

namespace Go.AM
open Go
variable [Globs]
theorem look_putBlks_out {b : Nat} : ∀ {ids : List Nat} {cs : List (List C)} {h : List (Nat × List C)}, b ∉ ids → look b (putBlks ids cs h) = look b h
 | [], _, _, _ => by simp [putBlks]
 | _ :: _, [], _, _ => by simp [putBlks]
 | x :: ids, c :: cs, h, hb => by
  simp only [List.mem_cons, not_or] at hb
  simp only [putBlks]
  rw [look_putBlks_out hb.2, look_upd_other hb.1]
theorem look_putBlks_in {b : Nat} {c : List C} : ∀ {ids : List Nat} {cs : List (List C)} {h : List (Nat × List C)} {i : Nat}, ids.Nodup → ids[i]? = some b → cs[i]? = some c → look b (putBlks ids cs h) = some c
 | [], _, _, i, _, hi, _ => by simp at hi
 | _ :: _, [], _, i, _, _, hc => by simp at hc
 | x :: ids, e :: cs, h, 0, hn, hi, hc => by
  simp at hi hc; subst hi; subst hc
  rw [List.nodup_cons] at hn
  simp only [putBlks]
  rw [look_putBlks_out hn.1, look_upd_same]
 | x :: ids, e :: cs, h, i + 1, hn, hi, hc => by
  rw [List.nodup_cons] at hn
  simp only [putBlks]
  exact look_putBlks_in hn.2 (by simpa using hi) (by simpa using hc)
theorem idsFrom_mem : ∀ {n k b : Nat}, b ∈ idsFrom n k ↔ n ≤ b ∧ b < n + k
 | n, 0, b => by simp [idsFrom]
 | n, k + 1, b => by simp only [idsFrom, List.mem_cons, idsFrom_mem]; omega
theorem idsFrom_length : ∀ n k : Nat, (idsFrom n k).length = k
 | _, 0 => rfl
 | n, k + 1 => by simp [idsFrom, idsFrom_length (n + 1) k]
theorem idsFrom_get : ∀ {n k i : Nat}, i < k → (idsFrom n k)[i]? = some (n + i)
 | n, 0, i, h => by omega
 | n, k + 1, 0, _ => by simp [idsFrom]
 | n, k + 1, i + 1, h => by simp only [idsFrom, List.getElem?_cons_succ]; rw [idsFrom_get (by omega)]; congr 1; omega
theorem idsFrom_nodup : ∀ n k : Nat, (idsFrom n k).Nodup
 | _, 0 => by simp [idsFrom]
 | n, k + 1 => by
  simp only [idsFrom, List.nodup_cons]
  exact ⟨by rw [idsFrom_mem]; omega, idsFrom_nodup (n + 1) k⟩
theorem look_unviewIn (ids : List Nat) (k : Nat) : ∀ tm : List (Nat × V), look k (unviewIn ids tm) = (look k tm).map fun v => match v with
  | .view (.cell b off) sz xs => if b ∈ ids then .d (.list sz xs) else .view (.cell b off) sz xs
  | v => v
 | [] => rfl
 | (j, v) :: r => by
  have ih := look_unviewIn ids k r
  by_cases hj : j = k
  ·subst hj
   cases v with
   | view l sz xs => cases l <;> simp [unviewIn, look]
   | _ => simp [unviewIn, look]
  ·cases v with
   | view l sz xs => cases l <;> simp [unviewIn, look, hj, ih]
   | _ => simp [unviewIn, look, hj, ih]
section
variable {P : Program} {K K' : Col} {μ μ' : Nat → Nat} {w w' : World} {s : St} {a : Act}
theorem back_unviewIn {ids : List Nat} {t : Nat} {v : V} (h : look t (unviewIn ids s.tmps) = some v) :
  ∃ v', look t s.tmps = some v' ∧ (v = v' ∨ ∃ b off sz xs, v' = .view (.cell b off) sz xs ∧ v = .d (.list sz xs)) ∧ ∀ b off sz xs, v = .view (.cell b off) sz xs → b ∉ ids := by
 rw [look_unviewIn] at h
 simp only [Option.map_eq_some_iff] at h
 obtain ⟨v', h1, rfl⟩ := h
 refine ⟨v', h1, ?_, ?_⟩
 ·cases v' with
  | view l sz xs =>
   cases l with
   | tmp t => simp
   | cell b off => by_cases hb : b ∈ ids <;> simp [hb]
  | _ => simp
 ·intro b off sz xs e
  cases v' with
  | view l sz' xs' =>
   cases l with
   | tmp t => simp at e
   | cell b' off' =>
    by_cases hb : b' ∈ ids
    ·simp [hb] at e
    ·simp only [hb, if_false, V.view.injEq, Loc.cell.injEq] at e
     rw [← e.1.1]; exact hb
  | _ => simp at e
theorem hrep_into (hs : Sim K μ s a w) {ids : List Nat} (hn : ids.Nodup) {lh : List (List C)} (hlh : blksInto s.heap ids = some lh) :
  HRep (fun b o => tagIn ids (K b o)) (fun i => μ (ids.getD i 0)) w lh ∧ lh.length = ids.length := by
 obtain ⟨h1, _⟩ := mapM?_spec hlh
 refine ⟨fun i cells hi => ?_, h1⟩
 obtain ⟨b, hb, hbc⟩ := mapM?_get hlh hi
 rw [Option.bind_eq_some_iff] at hbc
 obtain ⟨cs, hcs, hmap⟩ := hbc
 obtain ⟨k1, k2, k3, k4, k50⟩ := hs.heap b cs hcs
 have hib : idx b ids 0 = some i := by simpa using idx_of (n := 0) hn hb
 have hgd : ids.getD i 0 = b := by simp [List.getD, hb]
 have hro : ∀ b o, K b o = .ro → tagIn ids (K b o) = .ro := fun b o h => by rw [h]; rfl
 have hμ : ∀ i b, ids[i]? = some b → μ (ids.getD i 0) = μ b := fun i b h => by simp [List.getD, h]
 have hment := mapM_ment into_ment hmap
 obtain ⟨hmapF, hsq⟩ := into_flat hmap
 rcases k50 with ⟨hm0, k5, k6⟩ | ⟨kvs, hm0, es, clk, ho1, ho2, ho3⟩
 ·refine ⟨?_, ?_, by simp only [hgd]; exact k4, .inl ⟨?_, ?_, ?_⟩⟩
  ·intro c' hc' j hj
   by_cases hqq : ∃ sz ds, cells = [.seq sz ds]
   ·obtain ⟨sz, ds, rfl⟩ := hqq
    simp only [List.mem_singleton] at hc'; subst hc'
    simp [C.ids] at hj
   rw [← flatC_other fun sz ds e => hqq ⟨sz, ds, e⟩] at hc'
   obtain ⟨q, hq⟩ := List.getElem?_of_mem hc'
   obtain ⟨c, hc, hcc⟩ := mapM?_get hmapF hq
   by_cases hch : c = .hid
   ·subst hch; simp only [C.into, Option.some.injEq] at hcc; subst hcc; simp [C.ids] at hj
   obtain ⟨v, _, _, _, hr, _⟩ := k5 q c hc hch
   have := (into_rep (K' := fun b o => tagIn ids (K b o)) (μ' := fun i => μ (ids.getD i 0)) hro hμ hcc hr).2.1 j hj
   rw [h1]; exact this
  ·intro off ho
   have e := k3 off (fun e => ho (into_hid hmap e))
   simp only [hgd, e, tagIn, hib]
  ·rw [hm0] at hment
   cases hq : mapOf cells with
   | none => rfl
   | some _ => rw [hq] at hment; simp at hment
  rotate_left
  ·intro sz ds e
   exact k6 sz ds ((hsq sz ds).1 e)
  ·intro q c' hc' hnh
   obtain ⟨c, hc, hcc⟩ := mapM?_get hmapF hc'
   obtain ⟨v, hv, hv1, hv2, hr, hsp⟩ := k5 q c hc (by rintro rfl; simp only [C.into, Option.some.injEq] at hcc; exact hnh hcc.symm)
   obtain ⟨r1, r2, r3⟩ := into_rep (K' := fun b o => tagIn ids (K b o)) (μ' := fun i => μ (ids.getD i 0)) hro hμ hcc hr
   refine ⟨v, by simp only [hgd]; exact hv, hv1, by simp only [hgd]; exact hv2, r1, fun sz xs e => ?_⟩
   rcases hsp sz xs ((r3 sz xs).1 e) with e0 | ⟨blk, off, len, cap, e1, e2, e3⟩
   ·exact .inl e0
   refine .inr ⟨blk, off, len, cap, e1, e2, fun j hj hj' => ?_⟩
   obtain ⟨t1, t2, t3⟩ := e3 j hj hj'
   exact ⟨by simp only [t1, tagIn, hib], t2, t3⟩
 ·have := mapOf_some hm0
  subst this
  simp only [mapM?, C.into] at hmap
  split at hmap
  ·rename_i y ys hy hys
   simp only [Option.some.injEq, Option.map_eq_some_iff] at hmap hy hys
   obtain ⟨kvs', hkv, rfl⟩ := hy
   subst hys; subst hmap
   obtain ⟨g1, g2⟩ := thru_rep (K' := fun b o => tagIn ids (K b o)) (μ' := fun i => μ (ids.getD i 0)) (Q := fun i => i < ids.length) hro (fun b i hbi => by
    obtain ⟨_, hx⟩ := idx_some hbi
    have hx' : ids[i]? = some b := by simpa using hx
    exact ⟨by simp [List.getD, hx'], (List.getElem?_eq_some_iff.1 hx').1⟩) hkv ho2
   refine ⟨?_, ?_, by simp only [hgd]; exact k4, .inr ⟨kvs', rfl, es, clk, by simp only [hgd]; exact ho1, g1, ho3⟩⟩
   ·intro c' hc' j hj
    simp only [List.mem_singleton] at hc'; subst hc'
    simp only [C.ids, List.mem_flatMap] at hj
    obtain ⟨x, hx, hj⟩ := hj
    rw [h1]; exact g2 x hx j hj
   ·intro off ho
    have e := k3 off (by cases off <;> simp)
    simp only [hgd, e, tagIn, hib]
  ·simp at hmap
theorem sim_back (hs : Sim K μ s a w) {ids : List Nat} (hn : ids.Nodup) (hin : ∀ b ∈ ids, b < s.nid) {Kc' : Col} {k : Nat} {lh' lh'' : List (List C)}
  (hst : Step mine (fun b o => tagIn ids (K b o)) w Kc' w') (hbd : BoundK Kc' w') (hμ : ∀ i, i < ids.length → μ' i = μ (ids.getD i 0)) (hh : HRep Kc' μ' w' lh')
  (hlen : lh'.length = ids.length + k) (hback : mapM? (mapM? (C.back (ids ++ idsFrom s.nid k))) lh' = some lh'') :
  ∃ K₂ μ₂, Step (handed ids) K w K₂ w' ∧ (∀ b, b < s.nid → μ₂ b = μ b) ∧ (∀ b o, Kc' b o = .ro → K₂ b o = .ro) ∧
   (∀ i b, (ids ++ idsFrom s.nid k)[i]? = some b → μ₂ b = μ' i) ∧
   Sim K₂ μ₂ { s with tmps := unviewIn (ids ++ idsFrom s.nid k) s.tmps, heap := putBlks (ids ++ idsFrom s.nid k) lh'' s.heap, nid := s.nid + k } a w' := by
 generalize hids' : ids ++ idsFrom s.nid k = ids' at *
 have hlt' : ∀ b ∈ ids', b < s.nid + k := by
  intro b hb
  rw [← hids'] at hb
  rcases List.mem_append.1 hb with hb | hb
  ·have := hin b hb; omega
  ·exact (idsFrom_mem.1 hb).2
 have hn' : ids'.Nodup := by
  rw [← hids', List.nodup_append]
  refine ⟨hn, idsFrom_nodup _ _, fun x hx y hy e => ?_⟩
  subst e
  have := hin x hx
  have := (idsFrom_mem.1 hy).1
  omega
 have hold : ∀ b, b < s.nid → b ∈ ids' → b ∈ ids := by
  intro b hb hm
  rw [← hids'] at hm
  rcases List.mem_append.1 hm with hm | hm
  ·exact hm
  ·have := (idsFrom_mem.1 hm).1; omega
 have hlen' : ids'.length = lh'.length := by rw [← hids', List.length_append, idsFrom_length, hlen]
 obtain ⟨hl1, _⟩ := mapM?_spec hback
 let μ₂ : Nat → Nat := fun b => match idx b ids' 0 with | some i => μ' i | none => μ b
 have hμ₂in : ∀ i b, ids'[i]? = some b → μ₂ b = μ' i := by
  intro i b hb
  have := idx_of (n := 0) hn' hb
  simp only [Nat.zero_add] at this
  simp only [μ₂, this]
 have hμ₂ : ∀ b, b < s.nid → μ₂ b = μ b := by
  intro b hb
  by_cases hm : b ∈ ids'
  ·have hm' := hold b hb hm
   obtain ⟨i, hi⟩ := List.getElem?_of_mem hm'
   have hi' : ids'[i]? = some b := by
    rw [← hids', List.getElem?_append_left (List.getElem?_eq_some_iff.1 hi).1]; exact hi
   rw [hμ₂in i b hi', hμ i (List.getElem?_eq_some_iff.1 hi).1]
   simp [List.getD, hi]
  ·simp only [μ₂, idx_none hm]
 have hstep : Step (handed ids) K w (colBack ids' K (fun b o => tagIn ids (K b o)) Kc' w.heap.size) w' := step_back hst
 have hro : ¬ handed ids .ro := by rintro ⟨b, _, h | ⟨o, h⟩⟩ <;> simp at h
 have hrec : ∀ b o, Kc' b o = .ro → colBack ids' K (fun b o => tagIn ids (K b o)) Kc' w.heap.size b o = .ro := colBack_ro hst
 refine ⟨_, μ₂, hstep, hμ₂, hrec, hμ₂in, ?_⟩
 refine ⟨?_, ?_, ?_, ?_, ?_, ?_, ?_, ?_, hs.glob.step hstep (by simp [handed])⟩
 ·intro t V ht
  obtain ⟨v', h1, h2, _⟩ := back_unviewIn ht
  refine ⟨(hs.tm t v' h1).1, ?_⟩
  have hr : RepV (colBack ids' K (fun b o => tagIn ids (K b o)) Kc' w.heap.size) μ₂ w' v' (a.tmps.getD t Go.undef) :=
   ((hs.tm t v' h1).2.step hstep hro).mu fun b hb => hμ₂ b (hs.tids t v' h1 b hb)
  rcases h2 with rfl | ⟨b, off, sz, xs, rfl, rfl⟩
  ·exact hr
  ·exact hr
 ·intro t V ht b hb
  obtain ⟨v', h1, h2, _⟩ := back_unviewIn ht
  rcases h2 with rfl | ⟨b', off, sz, xs, rfl, rfl⟩
  ·have := hs.tids t _ h1 b hb
   show b < s.nid + k
   omega
  ·simp [Go.AM.V.ids, C.ids] at hb
 ·intro t sz xs ht
  obtain ⟨v', h1, h2, _⟩ := back_unviewIn ht
  rcases h2 with rfl | ⟨b', off, sz', xs', rfl, e⟩
  ·exact (hs.own t sz xs h1).step hstep (by rintro ⟨b, _, h | ⟨o, h⟩⟩ <;> simp at h)
  ·simp at e
 ·intro t l sz xs ht
  obtain ⟨v', h1, h2, h3⟩ := back_unviewIn ht
  rcases h2 with rfl | ⟨b', off, sz', xs', rfl, e⟩
  ·have hv := hs.view t l sz xs h1
   cases l with
   | tmp u =>
    intro z ys hu
    obtain ⟨v'', h4, h5, _⟩ := back_unviewIn hu
    rcases h5 with rfl | ⟨_, _, _, _, rfl, e⟩
    ·exact hv z ys h4
    ·simp at e
   | cell b off =>
    have hb := h3 b off sz xs rfl
    intro cells z ys hc hcc
    rw [show look b ({ s with tmps := unviewIn ids' s.tmps, heap := putBlks ids' lh'' s.heap, nid := s.nid + k } : St).heap = look b (putBlks ids' lh'' s.heap) from rfl, look_putBlks_out hb] at hc
    obtain ⟨q0, _, q1, q2, _⟩ := hs.heap b cells hc
    rw [hμ₂ b q0]
    rw [(hstep.cell (μ b) off q2 (by
     rw [(hs.heap b cells hc).2.2.tag (by rw [hcc]; simp)]
     rintro ⟨b', hb', h | ⟨o, h⟩⟩
     ·simp only [Tag.blk.injEq] at h; subst h
      exact hb (by rw [← hids']; exact List.mem_append.2 (.inl hb'))
     ·simp at h)).1]
    exact hv cells z ys hc hcc
  ·simp at e
 ·intro b cells hb
  by_cases hm : b ∈ ids'
  ·obtain ⟨i, hi⟩ := List.getElem?_of_mem hm
   have hi2 : i < lh''.length := by rw [hl1, ← hlen']; exact (List.getElem?_eq_some_iff.1 hi).1
   have hl2 : lh''[i]? = some lh''[i] := by simp [hi2]
   rw [show look b ({ s with tmps := unviewIn ids' s.tmps, heap := putBlks ids' lh'' s.heap, nid := s.nid + k } : St).heap = look b (putBlks ids' lh'' s.heap) from rfl, look_putBlks_in hn' hi hl2, Option.some.injEq] at hb
   subst hb
   obtain ⟨cs, hcs, hmap⟩ := mapM?_get hback hl2
   obtain ⟨g1, g2, g3, g40⟩ := hh i cs hcs
   have hbm := hμ₂in i b hi
   have hment := mapM_ment back_ment hmap
   have hcol : ∀ off, lh''[i][off]? ≠ some C.hid → colBack ids' K (fun b o => tagIn ids (K b o)) Kc' w.heap.size (μ₂ b) off = .blk b := by
    intro off ho
    have e := g2 off (fun e => ho (back_hid hmap e))
    rw [hbm, colBack_known hst (by rw [e]; simp), e]
    simp only [tagOut, hi]
   obtain ⟨hmapF, hsq⟩ := back_flat hmap
   rcases g40 with ⟨hm0, g4, g5⟩ | ⟨kvs, hm0, es, clk, ho1, ho2, ho3⟩
   ·refine ⟨hlt' b hm, ?_, hcol, by rw [hbm]; exact g3, .inl ⟨?_, ?_, fun sz ds e => g5 sz ds ((hsq sz ds).1 e)⟩⟩
    ·intro c' hc' j hj
     by_cases hqq : ∃ sz ds, lh''[i] = [.seq sz ds]
     ·obtain ⟨sz, ds, e⟩ := hqq
      rw [e] at hc'
      simp only [List.mem_singleton] at hc'; subst hc'
      simp [C.ids] at hj
     rw [← flatC_other fun sz ds e => hqq ⟨sz, ds, e⟩] at hc'
     obtain ⟨q, hq⟩ := List.getElem?_of_mem hc'
     obtain ⟨c, hc, hcc⟩ := mapM?_get hmapF hq
     by_cases hch : c = .hid
     ·subst hch; simp only [C.back, Option.some.injEq] at hcc; subst hcc; simp [C.ids] at hj
     obtain ⟨v, _, _, _, hr, _⟩ := g4 q c hc hch
     exact hlt' j ((back_rep (μ' := μ₂) hrec hμ₂in hcc hr).2.1 j hj)
    ·rw [hm0] at hment
     cases hq : mapOf lh''[i] with
     | none => rfl
     | some _ => rw [hq] at hment; simp at hment
    ·intro q c' hc' hnh
     obtain ⟨c, hc, hcc⟩ := mapM?_get hmapF hc'
     obtain ⟨v, hv, hv1, hv2, hr, hsp⟩ := g4 q c hc (by rintro rfl; simp only [C.back, Option.some.injEq] at hcc; exact hnh hcc.symm)
     obtain ⟨r1, r2, r3⟩ := back_rep (μ' := μ₂) hrec hμ₂in hcc hr
     rw [hbm]
     refine ⟨v, hv, hv1, hv2, r1, fun sz xs e => ?_⟩
     rcases hsp sz xs ((r3 sz xs).1 e) with e0 | ⟨blk, off, len, cap, e1, e2, e3⟩
     ·exact .inl e0
     refine .inr ⟨blk, off, len, cap, e1, e2, fun j hj hj' => ?_⟩
     obtain ⟨t1, t2, t3⟩ := e3 j hj hj'
     refine ⟨?_, t2, t3⟩
     rw [colBack_known hst (by rw [t1]; simp), t1]
     simp only [tagOut, hi]
   ·have := mapOf_some hm0
    subst this
    simp only [mapM?, C.back] at hmap
    split at hmap
    ·rename_i y ys hy hys
     simp only [Option.some.injEq, Option.map_eq_some_iff] at hmap hy hys
     obtain ⟨kvs', hkv, rfl⟩ := hy
     subst hys
     obtain ⟨q1, q2⟩ := thru_rep (K' := colBack ids' K (fun b o => tagIn ids (K b o)) Kc' w.heap.size) (μ' := μ₂) (Q := fun i => i < s.nid + k) hrec (fun j i' hij => ⟨hμ₂in j i' hij, hlt' i' (List.mem_of_getElem? hij)⟩) hkv ho2
     refine ⟨hlt' b hm, ?_, hcol, by rw [hbm]; exact g3, .inr ⟨kvs', by rw [← hmap]; rfl, es, clk, by rw [hbm]; exact ho1, q1, ho3⟩⟩
     intro c' hc' j hj
     rw [← hmap] at hc'
     simp only [List.mem_singleton] at hc'; subst hc'
     simp only [C.ids, List.mem_flatMap] at hj
     obtain ⟨x, hx, hj⟩ := hj
     exact q2 x hx j hj
    ·simp at hmap
  ·rw [show look b ({ s with tmps := unviewIn ids' s.tmps, heap := putBlks ids' lh'' s.heap, nid := s.nid + k } : St).heap = look b (putBlks ids' lh'' s.heap) from rfl, look_putBlks_out hm] at hb
   obtain ⟨k1, k2, k3⟩ := hs.heap b cells hb
   have hbn : b ∉ ids := fun h => hm (by rw [← hids']; exact List.mem_append.2 (.inl h))
   refine ⟨by show b < s.nid + k; omega, fun c hc i hi => by have := k2 c hc i hi; show i < s.nid + k; omega, ?_⟩
   have h1 := k3.step hstep hro (by
     rintro ⟨b', hb', h | ⟨o, h⟩⟩
     ·simp only [Tag.blk.injEq] at h; subst h; exact hbn hb'
     ·simp at h) (by
     rintro off sz xs _ ⟨b', hb', h | ⟨o, h⟩⟩
     ·simp at h
     ·simp only [Tag.sp.injEq, Loc.cell.injEq] at h; rw [h.1] at hbn; exact hbn hb')
   exact h1.mu (hμ₂ b k1) fun c hc j hj => hμ₂ j (k2 c hc j hj)
 ·intro blk off hl
  simp only [colBack]
  rw [if_neg (by have := hst.size; omega), hbd blk off hl]
  rfl
 ·show a.defers = s.defers.map (defOf μ₂)
  rw [hs.defs]
  refine List.map_congr_left fun x hx => ?_
  unfold defOf
  congr 3
  refine List.map_congr_left fun b hb => ?_
  rw [hμ₂ b (hs.dids x hx b hb)]
 ·intro x hx b hb
  have := hs.dids x hx b hb
  show b < s.nid + k
  omega
end
end Go.AM

namespace Go.AM
open Go
variable [Globs]
section
variable {P : Program} {K K' : Col} {μ μ' : Nat → Nat} {w w' : World} {s : St} {a : Act}
theorem handed_mine {ids : List Nat} {t : Tag} (h : handed ids t) : mine t := by
 obtain ⟨b, _, rfl | ⟨o, rfl⟩⟩ := h <;> simp [mine]
structure After (K : Col) (μ : Nat → Nat) (w : World) (n : Nat) (K' : Col) (μ' : Nat → Nat) (w' : World) : Prop where
 step : Step mine K w K' w'
 mu : ∀ b, b < n → μ' b = μ b
theorem After.refl (K : Col) (μ : Nat → Nat) (w : World) (n : Nat) : After K μ w n K μ w := ⟨Step.refl _ _ _, fun _ _ => rfl⟩
theorem After.trans {K₀ K₁ K₂ : Col} {μ₀ μ₁ μ₂ : Nat → Nat} {w₀ w₁ w₂ : World} {n m : Nat} (h : After K₀ μ₀ w₀ n K₁ μ₁ w₁) (k : After K₁ μ₁ w₁ m K₂ μ₂ w₂) (hnm : n ≤ m) :
  After K₀ μ₀ w₀ n K₂ μ₂ w₂ := ⟨h.step.trans k.step, fun b hb => (k.mu b (by omega)).trans (h.mu b hb)⟩
def Callee (P : Program) (f : Nat) : Prop := ∃ fn, P.funcs[f]? = some fn ∧ fn.body.isSome = true
def CallsOK (P : Program) (call : Call) : Prop := ∀ f args lh r, call f args lh = some r → Callee P f ∧ CallOK P f args lh r
theorem V.back_rep {ids : List Nat} (hK : ∀ b o, K b o = .ro → K' b o = .ro) (hμ : ∀ i b, ids[i]? = some b → μ' b = μ i) {c c' : V} {v : Value} (hc : V.back ids c = some c') (h : RepV K μ w c v)
  (hp : PlainV c) : RepV K' μ' w c' v ∧ (∀ b ∈ c'.ids, b ∈ ids) ∧ PlainV c' := by
 have many : ∀ {cs cs' : List C} {vs : List Value}, mapM? (C.back ids) cs = some cs' → RepCs K μ w cs vs → RepCs K' μ' w cs' vs ∧ ∀ c ∈ cs', ∀ b ∈ c.ids, b ∈ ids := by
  intro cs cs' vs hm hr
  refine ⟨hr.mapM hm fun c c' v h1 h2 => (AM.back_rep hK hμ h1 h2).1, ?_⟩
  intro c' hc' b hb
  obtain ⟨i, hi⟩ := List.getElem?_of_mem hc'
  obtain ⟨c, hci, hcc⟩ := mapM?_get hm hi
  obtain ⟨u, _, hru⟩ := hr.get hci
  exact (AM.back_rep hK hμ hcc hru).2.1 b hb
 cases c with
 | c x =>
  simp only [V.back, Option.map_eq_some_iff] at hc
  obtain ⟨x', hx, rfl⟩ := hc
  obtain ⟨h1, h2, h3⟩ := AM.back_rep (μ' := μ') hK hμ hx h
  refine ⟨h1, h2, ?_, by simp⟩
  intro sz xs e
  simp only [V.c.injEq] at e
  exact hp.1 sz xs (by rw [(h3 sz xs).1 e])
 | view l sz xs => exact absurd rfl (hp.2 l sz xs)
 | rptr cs =>
  simp only [V.back, Option.some.injEq] at hc; subst hc
  obtain ⟨blk, off, vs, h1, h2, h3⟩ := h
  exact ⟨⟨blk, off, vs, h1, fun i u hu => ⟨hK _ _ (h2 i u hu).1, (h2 i u hu).2⟩, RepL.recolor hK _ _ h3⟩, by simp [V.ids], hp⟩
 | vagg cs =>
  simp only [V.back, Option.map_eq_some_iff] at hc
  obtain ⟨cs', hm, rfl⟩ := hc
  obtain ⟨vs, h1, h2, h3⟩ := h
  obtain ⟨q1, q2⟩ := many hm h2
  refine ⟨⟨vs, h1, q1, h3⟩, ?_, by simp [PlainV]⟩
  intro b hb
  simp only [V.ids, List.mem_flatMap] at hb
  obtain ⟨c, hc, hb⟩ := hb
  exact q2 c hc b hb
 | tuple cs =>
  simp only [V.back, Option.map_eq_some_iff] at hc
  obtain ⟨cs', hm, rfl⟩ := hc
  obtain ⟨vs, h1, h2⟩ := h
  obtain ⟨q1, q2⟩ := many hm h2
  refine ⟨⟨vs, h1, q1⟩, ?_, by simp [PlainV]⟩
  intro b hb
  simp only [V.ids, List.mem_flatMap] at hb
  obtain ⟨c, hc, hb⟩ := hb
  exact q2 c hc b hb
def ResOf (K : Col) (μ : Nat → Nat) (s : St) (a : Act) (w : World) (n : Nat) : ORes → Ending → Prop
 | .val v s', e => Sim K μ s' a w ∧ n ≤ s'.nid ∧ PlainV v ∧ (∀ b ∈ v.ids, b < s'.nid) ∧ s'.defers = s.defers ∧ ∃ u, e = .returned u ∧ RepV K μ w v u
 | .pan d s', e => Sim K μ s' a w ∧ n ≤ s'.nid ∧ s'.defers = s.defers ∧ ∃ u, e = .panicked [⟨u, false, false⟩] ∧ Rep K w d u
theorem doCall_frame {call : Call} {f : Nat} {args : List C} {r : ORes} {ids : List Nat} (h : doCall call f args s = some (r, ids)) (hs : Sim K μ s a w)
  {vs : List Value} (hargs : RepCs K μ w args vs) :
  ∃ args' lh r', call f args' lh = some r' ∧ RepCs (fun b o => tagIn ids (K b o)) (fun i => μ (ids.getD i 0)) w args' vs ∧ (∀ c ∈ args', ∀ b ∈ c.ids, b < lh.length) ∧
   HRep (fun b o => tagIn ids (K b o)) (fun i => μ (ids.getD i 0)) w lh ∧ BoundK (fun b o => tagIn ids (K b o)) w ∧ Glob (fun b o => tagIn ids (K b o)) w ∧
   ∀ e w', (∃ K' μ', Step mine (fun b o => tagIn ids (K b o)) w K' w' ∧ BoundK K' w' ∧ (∀ i, i < lh.length → μ' i = μ (ids.getD i 0)) ∧
    match r' with
    | .ret v lh' => lh.length ≤ lh'.length ∧ HRep K' μ' w' lh' ∧ PlainV v ∧ (∀ b ∈ v.ids, b < lh'.length) ∧ ∃ u, e = .returned u ∧ RepV K' μ' w' v u
    | .pan d lh' => lh'.length = lh.length ∧ HRep K' μ' w' lh' ∧ ∃ u, e = .panicked [⟨u, false, false⟩] ∧ Rep K' w' d u) →
    ∃ K' μ', After K μ w s.nid K' μ' w' ∧ ResOf K' μ' s a w' s.nid r e := by
 unfold doCall at h
 split at h
 ·simp at h
 ·rename_i ids₀ hreach
  obtain ⟨hn, ⟨_, _⟩, hin0⟩ := reach_spec hreach (by simp)
  have hin : ∀ b ∈ ids₀, b < s.nid := by
   intro b hb
   rcases hin0 b hb with hb | hb
   ·simp at hb
   ·obtain ⟨cells, hc⟩ := Option.isSome_iff_exists.1 hb
    exact (hs.heap b cells hc).1
  split at h
  ·rename_i args' lh hargs' hlh
   obtain ⟨hrep, hlen⟩ := hrep_into hs hn hlh
   have hro : ∀ b o, K b o = .ro → tagIn ids₀ (K b o) = .ro := fun b o h => by rw [h]; rfl
   have hμ : ∀ i b, ids₀[i]? = some b → μ (ids₀.getD i 0) = μ b := fun i b h => by simp [List.getD, h]
   have hargr : RepCs (fun b o => tagIn ids₀ (K b o)) (fun i => μ (ids₀.getD i 0)) w args' vs :=
    hargs.mapM hargs' fun c c' v h1 h2 => (into_rep (K' := fun b o => tagIn ids₀ (K b o)) (μ' := fun i => μ (ids₀.getD i 0)) hro hμ h1 h2).1
   have hargi : ∀ c ∈ args', ∀ b ∈ c.ids, b < lh.length := by
    intro c' hc' b hb
    obtain ⟨i, hi⟩ := List.getElem?_of_mem hc'
    obtain ⟨c, hci, hcc⟩ := mapM?_get hargs' hi
    obtain ⟨u, _, hru⟩ := hargs.get hci
    rw [hlen]
    exact (into_rep (K' := fun b o => tagIn ids₀ (K b o)) (μ' := fun i => μ (ids₀.getD i 0)) hro hμ hcc hru).2.1 b hb
   have hbd : BoundK (fun b o => tagIn ids₀ (K b o)) w := fun blk off hl => by simp only [hs.bound blk off hl]; rfl
   split at h
   ·rename_i v lh' hc
    split at h
    ·rename_i lh'' v' hb1 hb2
     simp only [Option.some.injEq, Prod.mk.injEq] at h
     obtain ⟨rfl, rfl⟩ := h
     refine ⟨args', lh, _, hc, hargr, hargi, hrep, hbd, hs.glob.recolor hro, ?_⟩
     rintro e w' ⟨Kc', μ', hst, hbd', hmu, hl1, hh, hpl, hvi, u, rfl, hru⟩
     rw [hlen] at hl1 hmu
     obtain ⟨K₂, μ₂, h1, h2, h3, h4, h5⟩ := sim_back hs hn hin hst hbd' hmu hh (k := lh'.length - ids₀.length) (by omega) hb1
     obtain ⟨q1, q2, q3⟩ := V.back_rep (μ' := μ₂) h3 h4 hb2 hru hpl
     refine ⟨K₂, μ₂, ⟨h1.mono fun t => handed_mine, h2⟩, h5, by show s.nid ≤ s.nid + _; omega, q3, ?_, rfl, u, rfl, q1⟩
     intro b hb
     have := q2 b hb
     rcases List.mem_append.1 this with hm | hm
     ·have := hin b hm
      show b < s.nid + _
      omega
     ·exact (idsFrom_mem.1 hm).2
    ·simp at h
   ·rename_i d lh' hc
    split at h
    ·rename_i lh'' hb1
     simp only [Option.some.injEq, Prod.mk.injEq] at h
     obtain ⟨rfl, rfl⟩ := h
     refine ⟨args', lh, _, hc, hargr, hargi, hrep, hbd, hs.glob.recolor hro, ?_⟩
     rintro e w' ⟨Kc', μ', hst, hbd', hmu, hl1, hh, u, rfl, hru⟩
     rw [hlen] at hl1 hmu
     have hnil : ids₀ ++ idsFrom s.nid 0 = ids₀ := by simp [idsFrom]
     obtain ⟨K₂, μ₂, h1, h2, h3, h4, h5⟩ := sim_back hs hn hin hst hbd' hmu hh (k := 0) (by omega) (by rw [hnil]; exact hb1)
     rw [hnil] at h5
     exact ⟨K₂, μ₂, ⟨h1.mono fun t => handed_mine, h2⟩, h5, Nat.le_refl _, rfl, u, rfl, Rep.recolor h3 _ _ hru⟩
    ·simp at h
   ·simp at h
  ·simp at h
theorem doCall_sound {call : Call} (hcall : CallsOK P call) {f : Nat} {args : List C} {r : ORes} {ids : List Nat} (h : doCall call f args s = some (r, ids)) (hs : Sim K μ s a w)
  {vs : List Value} (hargs : RepCs K μ w args vs) :
  Calls P f vs.toArray w fun e w' => ∃ K' μ', After K μ w s.nid K' μ' w' ∧ ResOf K' μ' s a w' s.nid r e := by
 obtain ⟨args', lh, r', h1, h2, h3, h4, h5, h6, h7⟩ := doCall_frame h hs hargs
 exact ((hcall _ _ _ _ h1).2 _ _ _ _ h2 h3 h4 h5 h6).mono h7
theorem doCall_callee {call : Call} (hcall : CallsOK P call) {f : Nat} {args : List C} {r : ORes × List Nat} (h : doCall call f args s = some r) : Callee P f := by
 unfold doCall at h
 split at h
 ·simp at h
 ·split at h
  ·split at h
   ·rename_i hc; exact (hcall _ _ _ _ hc).1
   ·rename_i hc; exact (hcall _ _ _ _ hc).1
   ·simp at h
  ·simp at h
end
end Go.AM

namespace Go.AM
open Go
variable [Globs]
section
variable {P : Program} {K K' : Col} {μ μ' : Nat → Nat} {w w' : World} {s : St} {a : Act}
theorem isSource_run {u : TypeId} (h : isSource P u = true) : (∃ e, P.underlying u = some (.slice e)) ∨ P.underlying u = some .string := by
 unfold isSource at h
 split at h
 ·rename_i e hu; exact .inl ⟨e, hu⟩
 ·rename_i hu; exact .inr hu
 ·simp at h
theorem appended_run {y : V} {sz : Nat} {ys : List D} {v : Value} (h : appended y = some (sz, ys)) (hr : RepV K μ w y v) : ∃ vs, RepEs K w sz ys vs ∧
  (∀ w, (Builtin.lenOf v).run P w = .ok ys.length w) ∧ ∀ w₁, (∀ b o, w₁.cell? (ad b o) = w.cell? (ad b o)) → (Builtin.firstCells sz ys.length v).run P w₁ = .ok (cellsOf vs).toArray w₁ := by
 unfold appended at h
 split at h
 ·rename_i sz' xs hd
  simp only [Option.some.injEq, Prod.mk.injEq] at h
  obtain ⟨rfl, rfl⟩ := h
  have h1 := Go.AM.V.toD_rep hd hr
  simp only [Rep] at h1
  rcases h1 with ⟨rfl, rfl | ⟨ea, ecap, rfl⟩⟩ | ⟨blk, off, cap, rfl, _, he⟩
  ·exact ⟨[], .nil, fun w => by simp [Builtin.lenOf], fun w₁ _ => by simp [Builtin.firstCells, cellsOf]⟩
  ·exact ⟨[], .nil, fun w => by simp [Builtin.lenOf], fun w₁ _ => by
    have := run_firstCells_some (P := P) w₁ sz' 0 ea 0 ecap ([] : List Value) (by simp) (fun j u hu => by simp at hu)
    simpa [cellsOf] using this⟩
  obtain ⟨vs, hes, hca⟩ := he.es
  refine ⟨vs, hes, fun w => by simp [Builtin.lenOf], fun w₁ hw => ?_⟩
  exact run_firstCells_some (P := P) w₁ sz' xs.length (ad blk off) xs.length cap (cellsOf vs) hes.cells fun j u hu => by
   rw [Addr.add_lit]
   exact (hw blk (off + j)).trans (hca j u hu).2
 ·rename_i l hd
  simp only [Option.some.injEq, Prod.mk.injEq] at h
  obtain ⟨rfl, rfl⟩ := h
  have h1 := Go.AM.V.toD_rep hd hr
  simp only [Rep] at h1
  subst h1
  obtain ⟨hes, hcl⟩ := byteD_rep (K := K) (w := w) l
  refine ⟨_, hes, fun w => by simp [Builtin.lenOf, size_bytes], fun w₁ _ => ?_⟩
  rw [hcl]
  simp only [Builtin.firstCells, Sem.run_pure, List.length_map]
  congr 1
  have : (⟨l.toArray⟩ : ByteArray).extract 0 l.length = ⟨l.toArray⟩ := by
   apply ByteArray.ext; simp
  rw [this]
  simp
 ·simp at h
theorem run_append_room' {t u ty e : TypeId} {sz m : Nat} {x : Value} {news : List Value} (ht : P.underlying t = some (.slice e)) (hu : isSource P u = true) (hsz : tsz P e = some sz)
  {b o n cap : Nat} (hlen : ∀ w, (Builtin.lenOf x).run P w = .ok m w) (hfirst : (Builtin.firstCells sz m x).run P w = .ok news.toArray w) (hroom : n + m ≤ cap)
  (hex : ∀ j, j < news.length → (w.cell? (ad b (o + n * sz + j))).isSome = true ∧ w.frozen? (ad b (o + n * sz + j)) = false) (h1 : ∀ v ∈ news, isOne v = true) :
  (Builtin.append_ #[t, u] ty #[.slice (some (ad b o)) n cap, x]).run P w = .ok (.slice (some (ad b o)) (n + m) cap) (w.setCells b (o + n * sz) news) := by
 have hst := run_storeCells_cells (P := P) b (o + n * sz) news 0 w (fun j hj => by simpa using (hex j hj).1) (fun j hj => by simpa using (hex j hj).2) (fun v hv => by rw [← isOne_eq]; exact h1 v hv)
 simp at hst
 rcases isSource_run hu with ⟨e', hu'⟩ | hu' <;>
  simp [Builtin.append_, run_underlying ht, run_underlying hu', sizeOf_run hsz, hlen, hfirst, hroom, Addr.add_lit, hst]
theorem run_append_new {t u ty e : TypeId} {sz m : Nat} {x z : Value} {inf : TypeInfo} {olds news : List Value} (ht : P.underlying t = some (.slice e)) (hu : isSource P u = true) (hsz : tsz P e = some sz)
  (hi : P.info? e = some inf) (hz : inf.zero = some z) {base : Option Addr} {n cap : Nat}
  (hlen : ∀ w, (Builtin.lenOf x).run P w = .ok m w) (hfirst : (Builtin.firstCells sz m x).run P w.drew = .ok news.toArray w.drew) (hroom : cap < n + m)
  (hold : (Builtin.firstCells sz n (.slice base n cap)).run P w.drew = .ok olds.toArray w.drew) (hbound : n + m ≤ 4294967296) (hb : inf.bytes ≤ 1024) :
  (Builtin.append_ #[t, u] ty #[.slice base n cap, x]).run P w = .ok (.slice (some (ad w.heap.size 0)) (n + m) (grownCap w (n + m) cap e))
   (w.drew.alloc (.cells (olds ++ news ++ (Builtin.zeroCells z.cells (grownCap w (n + m) cap e - (n + m))).toList).toArray e)) := by
 have hn : ¬ (n + m ≤ cap) := by omega
 have h63' : ¬ (9223372036854775807 < ((n : Int) + (m : Int))) := by omega
 have hnc := nextslicecap_le hroom
 have h48' : ¬ (281474976710656 < Builtin.nextslicecap (n + m) cap * inf.bytes) := by
  have h1 : Builtin.nextslicecap (n + m) cap * inf.bytes ≤ (2 * (n + m)) * 1024 := Nat.mul_le_mul hnc hb
  omega
 have hsz' : inf.size = sz := by simp [tsz, hi] at hsz; exact hsz
 rcases isSource_run hu with ⟨e', hu'⟩ | hu' <;>
 ·simp [Builtin.append_, run_underlying ht, run_underlying hu', sizeOf_run hsz, hlen, hn, h63', h48', typeInfo, zeroValue, hi, hz, Question.forced, hfirst, hold, newRow, grownCap]
  congr 2
  apply Array.ext'
  simp [List.append_assoc]
end
end Go.AM

namespace Go.AM
open Go
variable [Globs]
section
variable {P : Program} {K K' : Col} {μ μ' : Nat → Nat} {w w' : World} {s : St} {a : Act}
theorem Sim.plainCell (h : Sim K μ s a w) {b off sz : Nat} {xs : List D} {cells : List C} (hb : look b s.heap = some cells) (hmo : mapOf cells = none) (hfl : flatC cells = cells) (hnh : cells[off]? ≠ some .hid) (v : Value) (hv : w.cell? (ad (μ b) off) = some v)
  (hr : Rep K w (.list sz xs) v) : Sim K μ { s with heap := upd b (cells.set off (.d (.list sz xs))) s.heap } a w := by
 have back : ∀ {b' : Nat} {cells' : List C}, look b' (upd b (cells.set off (.d (.list sz xs))) s.heap) = some cells' →
   ∃ c0, look b' s.heap = some c0 ∧ (cells' = c0 ∨ (b' = b ∧ c0 = cells ∧ cells' = cells.set off (.d (.list sz xs)))) := by
  intro b' cells' h'
  by_cases e : b' = b
  ·subst e
   rw [look_upd_same, Option.some.injEq] at h'
   exact ⟨cells, hb, .inr ⟨rfl, rfl, h'.symm⟩⟩
  ·rw [look_upd_other e] at h'
   exact ⟨cells', h', .inl rfl⟩
 refine ⟨h.tm, h.tids, h.own, ?_, ?_, h.bound, h.defs, h.dids, h.glob⟩
 ·intro t l z ys ht
  have hvw := h.view t l z ys ht
  cases l with
  | tmp u => exact hvw
  | cell b' off' =>
   intro cells' z' ys' hc hcc
   obtain ⟨c0, h0, h1⟩ := back hc
   rcases h1 with rfl | ⟨rfl, rfl, rfl⟩
   ·exact hvw cells' z' ys' h0 hcc
   ·by_cases ho : off' = off
    ·subst ho
     rw [List.getElem?_set_self' ] at hcc
     cases hq : c0[off']? <;> simp [hq] at hcc
    ·rw [List.getElem?_set_ne (by omega)] at hcc
     exact hvw c0 z' ys' h0 hcc
 ·intro b' cells' hc
  obtain ⟨c0, h0, h1⟩ := back hc
  rcases h1 with rfl | ⟨rfl, rfl, rfl⟩
  ·exact h.heap b' cells' h0
  ·obtain ⟨k1, k2, k3, k4, _⟩ := h.heap b' c0 h0
   have k5 := (h.heap b' c0 h0).2.2.cells hmo
   rw [hfl] at k5
   have hcr : CellsRep K μ w b' (c0.set off (.d (.list sz xs))) := by
    intro i c hi hnc
    by_cases ho : i = off
    ·subst ho
     have hlt : i < c0.length := by
      have := (List.getElem?_eq_some_iff.1 hi).1; simpa using this
     rw [List.getElem?_set_self hlt, Option.some.injEq] at hi
     subst hi
     obtain ⟨v', hv', g1, g2, _⟩ := k5 i c0[i] (by simp [hlt]) (fun e => hnh (by rw [List.getElem?_eq_getElem hlt, e]))
     rw [hv, Option.some.injEq] at hv'
     subst hv'
     exact ⟨v, hv, g1, g2, hr, by simp⟩
    ·rw [List.getElem?_set_ne (by omega)] at hi
     exact k5 i c hi hnc
   refine ⟨k1, ?_, fun o ho => k3 o (fun e1 => ?_), k4, .inl hcr.blk⟩
   rotate_left
   ·by_cases hoo : o = off
    ·subst hoo; exact hnh e1
    ·rw [List.getElem?_set_ne (by omega)] at ho; exact ho e1
   intro c hc i hi
   rcases List.mem_or_eq_of_mem_set hc with hc | rfl
   ·exact k2 c hc i hi
   ·simp [C.ids] at hi
theorem RepE.append : ∀ {xs ys : List D} {sz blk off : Nat}, RepE K w sz blk off xs → RepE K w sz blk (off + xs.length * sz) ys → RepE K w sz blk off (xs ++ ys)
 | [], ys, sz, blk, off, _, h => by simpa using h
 | x :: xs, ys, sz, blk, off, h1, h2 => by
  simp only [RepE] at h1
  simp only [List.cons_append, RepE]
  refine ⟨h1.1, RepE.append h1.2 ?_⟩
  rw [show off + sz + xs.length * sz = off + (x :: xs).length * sz from by simp only [List.length_cons, Nat.add_mul]; omega]
  exact h2
def DoneS (P : Program) (K : Col) (μ : Nat → Nat) (s : St) (a : Act) (w : World) (o : Oper) (V : V) (s' : St) : Prop :=
 ∃ v K' w', (execOp a.eval o).run P w = .ok (.value v) w' ∧ Step mine K w K' w' ∧ Sim K' μ s' a w' ∧ Good K' μ s' a w' o.dst V v ∧ s'.nid = s.nid ∧ s'.defers = s.defers
def dstTag : Option Nat → Tag
 | some d => .sp (.tmp d)
 | none => .other
theorem isOne_cells {d : D} {v : Value} (h : Rep K w d v) : ∀ x ∈ v.cells.toList, isOne x = true := (RepL.cs (μ := fun _ => 0) (rep_cells h)).2
theorem RepEs.ones {sz : Nat} {ds : List D} {vs : List Value} (h : RepEs K w sz ds vs) : ∀ x ∈ cellsOf vs, isOne x = true := by
 induction h with
 | nil => simp [cellsOf]
 | cons h1 _ _ ih =>
  intro x hx
  simp only [cellsOf, List.mem_append] at hx
  rcases hx with hx | hx
  ·exact isOne_cells h1 x hx
  ·exact ih x hx
theorem zeroCells_length (z : Array Value) (n : Nat) : (Builtin.zeroCells z n).toList.length = n * z.size := by simp [Builtin.zeroCells]
theorem append_nil_core {t u ty e : TypeId} {n : Nat} {inf : TypeInfo} {z : Value} (ht : P.underlying t = some (.slice e)) (hu : isSource P u = true) (hn : tsz P e = some n)
  (hi : P.info? e = some inf) (hz : inf.zero = some z) (hzs : z.cells.size = n) (hb : inf.bytes ≤ 1024)
  {ys : List D} {y : Value} {vs : List Value} (dst : Option Nat) (hys : RepEs K w n ys vs)
  (hlen : ∀ w, (Builtin.lenOf y).run P w = .ok ys.length w) (hfirst : ∀ w₁, (∀ b o, w₁.cell? (ad b o) = w.cell? (ad b o)) → (Builtin.firstCells n ys.length y).run P w₁ = .ok (cellsOf vs).toArray w₁)
  (hmax : ys.length ≤ 4294967296) (hbd : BoundK K w) (base : Option Addr) :
  ∃ v K' w', (Builtin.append_ #[t, u] ty #[.slice base 0 0, y]).run P w = .ok v w' ∧ Step (fun _ => False) K w K' w' ∧ BoundK K' w' ∧
   Rep K' w' (.list n ys) v ∧ ∀ d, dst = some d → Spare K' w' (.tmp d) n v := by
 by_cases hne : ys = []
 ·-- nothing, behind nothing
  subst hne
  have hrun : (Builtin.append_ #[t, u] ty #[.slice base 0 0, y]).run P w = .ok (.slice base 0 0) w := by
   have hf := hfirst w fun _ _ => rfl
   cases hys
   simp only [cellsOf, List.length_nil] at hf
   cases base with
   | none =>
    rcases isSource_run hu with ⟨e', hu'⟩ | hu' <;>
     simp [Builtin.append_, run_underlying ht, run_underlying hu', sizeOf_run hn, hlen, hf]
   | some ea =>
    have hst : (Go.storeCells ea []).run P w = .ok () w := rfl
    rcases isSource_run hu with ⟨e', hu'⟩ | hu' <;>
     simp [Builtin.append_, run_underlying ht, run_underlying hu', sizeOf_run hn, hlen, hf, Addr.add, hst]
  refine ⟨_, K, w, hrun, Step.refl _ _ _, hbd, ?_, fun d _ => ?_⟩
  ·simp only [Rep]
   cases base with
   | none => exact .inl ⟨by simp, .inl rfl⟩
   | some ea => exact .inl ⟨by simp, .inr ⟨ea, 0, rfl⟩⟩
  ·cases base with
   | none => exact .inl (.inl rfl)
   | some ea => exact .inl (.inr ⟨ea, rfl⟩)
 have hold : (Builtin.firstCells n 0 (.slice base 0 0)).run P w.drew = .ok (([] : List Value).toArray) w.drew := by
  cases base with
  | none => simp [Builtin.firstCells]
  | some ea =>
   have := run_firstCells_some (P := P) w.drew n 0 ea 0 0 ([] : List Value) (by simp) (fun j u hu => by simp at hu)
   simpa using this
 have hrun := run_append_new (P := P) (w := w) (ty := ty) (news := cellsOf vs) ht hu hn hi hz (n := 0) (cap := 0) hlen (hfirst w.drew fun _ _ => rfl)
  (by have := List.length_pos_iff.2 hne; omega) hold (by simpa using hmax) hb
 have hle := le_grownCap w ys.length e 0
 have hll := hys.cells
 let f : Nat → Tag := fun i => if i < ys.length * n then .ro else dstTag dst
 have hom := oneMore_drew w (.cells (cellsOf vs ++ (Builtin.zeroCells z.cells (grownCap w ys.length 0 e - ys.length)).toList).toArray e)
 simp only [List.nil_append, Nat.zero_add] at hrun
 refine ⟨_, colNew K w.heap.size f, _, hrun, (hom.step f).mono (by simp), hom.bound hbd f, ?_, ?_⟩
 ·exact rep_new (K := K) (w := w) (cap := grownCap w ys.length 0 e) f (by intro i hi'; rw [hll] at hi'; simp [f, hi']) hom hys hle
 ·intro d hd
  refine .inr ⟨w.heap.size, 0, ys.length, _, rfl, hle, fun j hj hj' => ⟨?_, ?_, ?_⟩⟩
  ·simp only [colNew, if_true, Nat.zero_add, f, hd]
   rw [if_neg (by omega)]; rfl
  ·rw [hom.cell, Nat.zero_add]
   simp only [List.getElem?_toArray]
   rw [getElem?_pos _ _ (by
    rw [List.length_append, hll, zeroCells_length, hzs, ← Nat.add_mul]
    rw [show ys.length + (grownCap w ys.length 0 e - ys.length) = grownCap w ys.length 0 e from by omega]
    exact hj')]
   rfl
  ·rw [hom.frozen]; simp
theorem append_core {t u ty e : TypeId} {n : Nat} {inf : TypeInfo} {z : Value} (ht : P.underlying t = some (.slice e)) (hu : isSource P u = true) (hn : tsz P e = some n)
  (hi : P.info? e = some inf) (hz : inf.zero = some z) (hzs : z.cells.size = n) (hb : inf.bytes ≤ 1024)
  {l : Loc} {xs ys : List D} {vx y : Value} {vs : List Value} (dst : Option Nat)
  (hx : Rep K w (.list n xs) vx) (hsp : Spare K w l n vx) (hys : RepEs K w n ys vs)
  (hlen : ∀ w, (Builtin.lenOf y).run P w = .ok ys.length w) (hfirst : ∀ w₁, (∀ b o, w₁.cell? (ad b o) = w.cell? (ad b o)) → (Builtin.firstCells n ys.length y).run P w₁ = .ok (cellsOf vs).toArray w₁)
  (hmax : xs.length + ys.length ≤ 4294967296) (hbd : BoundK K w) :
  ∃ v K' w', (Builtin.append_ #[t, u] ty #[vx, y]).run P w = .ok v w' ∧ Step (fun t => t = .sp l) K w K' w' ∧ BoundK K' w' ∧
   Rep K' w' (.list n (xs ++ ys)) v ∧ ∀ d, dst = some d → Spare K' w' (.tmp d) n v := by
 simp only [Rep] at hx
 have nilc : ∀ base : Option Addr, xs = [] → vx = .slice base 0 0 → ∃ v K' w', (Builtin.append_ #[t, u] ty #[vx, y]).run P w = .ok v w' ∧ Step (fun t => t = .sp l) K w K' w' ∧ BoundK K' w' ∧
   Rep K' w' (.list n (xs ++ ys)) v ∧ ∀ d, dst = some d → Spare K' w' (.tmp d) n v := by
  rintro base rfl rfl
  obtain ⟨v, K', w', r1, r2, r3, r4, r5⟩ := append_nil_core (P := P) (ty := ty) ht hu hn hi hz hzs hb dst hys hlen hfirst (by simpa using hmax) hbd base
  exact ⟨v, K', w', r1, r2.mono (by simp), r3, by simpa using r4, r5⟩
 have hx : ∃ blk off cap, vx = .slice (some (ad blk off)) xs.length cap ∧ xs.length ≤ cap ∧ RepE K w n blk off xs ∨ (xs = [] ∧ ∃ base, vx = .slice base 0 0) := by
  rcases hx with ⟨rfl, hv | ⟨ea, ecap, hv⟩⟩ | ⟨blk, off, cap, h⟩
  ·exact ⟨0, 0, 0, .inr ⟨rfl, _, hv⟩⟩
  ·rcases hsp with (h | ⟨a', h⟩) | ⟨blk', off', len', cap', e1, e2, e3⟩
   ·rw [hv] at h; simp at h
   ·exact ⟨0, 0, 0, .inr ⟨rfl, _, h⟩⟩
   ·rw [hv] at e1
    simp only [Value.slice.injEq, Option.some.injEq] at e1
    obtain ⟨rfl, rfl, rfl⟩ := e1
    exact ⟨blk', off', ecap, .inl ⟨hv, by simp, by simp [RepE]⟩⟩
  ·exact ⟨blk, off, cap, .inl h⟩
 obtain ⟨blk, off, cap, ⟨hvx, hcap, hxe⟩ | ⟨h1, base, h2⟩⟩ := hx
 rotate_left
 ·exact nilc base h1 h2
 by_cases hxn : xs = [] ∧ ∃ base, vx = .slice base 0 0
 ·obtain ⟨h1, base, h2⟩ := hxn
  exact nilc base h1 h2
 clear nilc
 have hsp : ∃ blk' off' len' cap', vx = .slice (some (ad blk' off')) len' cap' ∧ len' ≤ cap' ∧
   ∀ j, len' * n ≤ j → j < cap' * n → K blk' (off' + j) = .sp l ∧ (w.cell? (ad blk' (off' + j))).isSome = true ∧ w.frozen? (ad blk' (off' + j)) = false := by
  rcases hsp with (h | ⟨a', h⟩) | h
  ·rw [hvx] at h; simp at h
  ·exfalso
   rw [hvx] at h
   simp only [Value.slice.injEq] at h
   exact hxn ⟨List.eq_nil_of_length_eq_zero h.2.1, _, by rw [hvx, h.2.1, h.2.2]⟩
  ·exact h
 subst hvx
 obtain ⟨blk', off', len', cap', e1, e2, e3⟩ := hsp
 simp only [Value.slice.injEq, Option.some.injEq, Addr.mk.injEq, and_true] at e1
 obtain ⟨⟨rfl, rfl⟩, rfl, rfl⟩ := e1
 have hcl := hys.cells
 by_cases hroom : xs.length + ys.length ≤ cap
 ·-- within the capacity
  have hmul : (xs.length + ys.length) * n ≤ cap * n := Nat.mul_le_mul_right _ hroom
  have hadd : (xs.length + ys.length) * n = xs.length * n + ys.length * n := Nat.add_mul _ _ _
  have hex : ∀ j, j < (cellsOf vs).length → (w.cell? (ad blk (off + xs.length * n + j))).isSome = true ∧ w.frozen? (ad blk (off + xs.length * n + j)) = false ∧ K blk (off + xs.length * n + j) = .sp l := by
   intro j hj
   have := e3 (xs.length * n + j) (by omega) (by omega)
   rw [← Nat.add_assoc] at this
   exact ⟨this.2.1, this.2.2, this.1⟩
  have hrun := run_append_room' (P := P) (ty := ty) ht hu hn hlen (hfirst w fun _ _ => rfl) hroom (fun j hj => ⟨(hex j hj).1, (hex j hj).2.1⟩) hys.ones
  let K' : Col := fun b o => if K b o = .sp l then (if b = blk ∧ off + xs.length * n ≤ o ∧ o < off + (xs.length + ys.length) * n then .ro else dstTag dst) else K b o
  have hst : Step (fun t => t = .sp l) K w K' (w.setCells blk (off + xs.length * n) (cellsOf vs)) :=
   step_setCells (fun j hj => (hex j hj).2.2) fun b o hn => if_neg hn
  refine ⟨_, K', _, hrun, hst, ?_, ?_, ?_⟩
  ·intro b o hl
   rw [setCells_size] at hl
   simp only [K', hbd b o hl]; simp
  ·simp only [Rep]
   refine .inr ⟨blk, off, cap, by simp, by simpa using hroom, RepE.append (RepE.step hst (by simp) _ _ _ _ hxe) ?_⟩
   refine (hys.step hst (by simp)).lies ?_
   intro i v hv
   have hi' := (List.getElem?_eq_some_iff.1 hv).1
   have hc := World.cell?_setCells_in blk (cellsOf vs) (off + xs.length * n) w (fun j hj => (hex j hj).1) i hi'
   refine ⟨?_, ?_⟩
   ·simp only [K', (hex i hi').2.2, if_true]
    rw [if_pos ⟨by first | rfl | trivial, by omega, by omega⟩]
   ·rw [(List.getElem?_eq_some_iff.1 hv).2] at hc; exact hc
  ·intro d hd
   subst hd
   refine .inr ⟨blk, off, xs.length + ys.length, cap, rfl, hroom, fun j hj hj' => ?_⟩
   obtain ⟨t1, t2, t3⟩ := e3 j (by omega) hj'
   refine ⟨?_, ?_, by rw [World.frozen?_setCells]; exact t3⟩
   ·simp only [K', t1, if_true]
    rw [if_neg (by omega)]; rfl
   ·rw [World.cell?_setCells_out]
    ·exact t2
    ·intro _ _; simp only; omega
 ·-- a new array
  obtain ⟨vo, hvo, hco⟩ := hxe.es
  have hold : (Builtin.firstCells n xs.length (.slice (some (ad blk off)) xs.length cap)).run P w.drew = .ok (cellsOf vo).toArray w.drew :=
   run_firstCells_some (P := P) w.drew n xs.length (ad blk off) xs.length cap (cellsOf vo) hvo.cells fun j u hu => by
    rw [Addr.add_lit]; exact (hco j u hu).2
  have hrun := run_append_new (P := P) (ty := ty) ht hu hn hi hz hlen (hfirst w.drew fun _ _ => rfl) (by omega) hold hmax hb
  have hes : RepEs K w n (xs ++ ys) (vo ++ vs) := by
   have aux : ∀ {a b : List D} {c d : List Value}, RepEs K w n a c → RepEs K w n b d → RepEs K w n (a ++ b) (c ++ d) := by
    intro a b c d h1 h2
    induction h1 with
    | nil => exact h2
    | cons q1 q2 _ ih => exact .cons q1 q2 ih
   exact aux hvo hys
  have happ : ∀ l1 l2 : List Value, cellsOf (l1 ++ l2) = cellsOf l1 ++ cellsOf l2 := by
   intro l1 l2
   induction l1 with
   | nil => simp [cellsOf]
   | cons x l ih => simp [cellsOf, ih, List.append_assoc]
  rw [← happ] at hrun
  have hle := le_grownCap w (xs.length + ys.length) e cap
  have hll : (cellsOf (vo ++ vs)).length = (xs.length + ys.length) * n := by
   have := hes.cells; simpa using this
  let f : Nat → Tag := fun i => if i < (xs.length + ys.length) * n then .ro else dstTag dst
  have hom := oneMore_drew w (.cells (cellsOf (vo ++ vs) ++ (Builtin.zeroCells z.cells (grownCap w (xs.length + ys.length) cap e - (xs.length + ys.length))).toList).toArray e)
  refine ⟨_, colNew K w.heap.size f, _, hrun, (hom.step f).mono (by simp), hom.bound hbd f, ?_, ?_⟩
  ·have := rep_new (K := K) (w := w) (cap := grownCap w (xs.length + ys.length) cap e) f (by intro i hi'; rw [hll] at hi'; simp [f, hi']) hom hes (by simpa using hle)
   simpa using this
  ·intro d hd
   subst hd
   refine .inr ⟨w.heap.size, 0, xs.length + ys.length, _, rfl, hle, fun j hj hj' => ⟨?_, ?_, ?_⟩⟩
   ·simp only [colNew, if_true, Nat.zero_add, f]
    rw [if_neg (by omega)]; rfl
   ·rw [hom.cell, Nat.zero_add]
    simp only [List.getElem?_toArray]
    rw [getElem?_pos _ _ (by
     rw [List.length_append, hll, zeroCells_length, hzs, ← Nat.add_mul]
     rw [show xs.length + ys.length + (grownCap w (xs.length + ys.length) cap e - (xs.length + ys.length)) = grownCap w (xs.length + ys.length) cap e from by omega]
     exact hj')]
    rfl
   ·rw [hom.frozen]; simp
end
end Go.AM

namespace Go.AM
open Go
variable [Globs]
section
variable {P : Program} {K K' : Col} {μ μ' : Nat → Nat} {w w' : World} {s : St} {a : Act}
theorem sp_mine {l : Loc} {t : Tag} (h : t = .sp l) : mine t := by subst h; simp [mine]
theorem zeroFits_some {e : TypeId} {n : Nat} (h : zeroFits P e n = true) : ∃ inf z, P.info? e = some inf ∧ inf.zero = some z ∧ z.cells.size = n := by
 unfold zeroFits at h
 split at h
 ·rename_i z hz
  split at h
  ·rename_i cs hcs
   obtain ⟨v, _, hr, _, inf, hi, hz'⟩ := tzero_rep (P := P) (K := fun _ _ => .other) (μ := fun _ => 0) (w := default) hz
   have := (V.cells_rep hcs hr).1.length
   simp at h this
   exact ⟨inf, v, hi, hz', by omega⟩
  ·simp at h
 ·simp at h
theorem ev_const_view {tm : List (Nat × V)} (v : Value) {l : Loc} {sz : Nat} {xs : List D} : ev tm (.const v) ≠ some (.view l sz xs) := V.ofValue_no_view
theorem evT_const_own {P : Program} {t : TypeId} {tm : List (Nat × V)} {x : Operand} {sz : Nat} {xs : List D} (h : evT P t tm x = some (.c (.own sz xs))) : ∃ u, x = .tmp u ∧ look u tm = some (.c (.own sz xs)) := by
 have h := evT_own h
 cases x with
 | tmp u => exact ⟨u, rfl, h⟩
 | const v => exact absurd h V.ofValue_no_own
 | global g => simp [ev] at h
 | func f => simp [ev] at h
theorem owns_plainAt {u : Nat} {l : Loc} (h : ownsAt { s with tmps := AM.plainAt u s.tmps } l) : l ≠ .tmp u := by
 rintro rfl
 obtain ⟨sz, xs, h⟩ := h
 exact not_own_plainAt u s.tmps sz xs h
theorem owns_plainCell {b off sz : Nat} {xs : List D} {cells : List C} {l : Loc} (hb : look b s.heap = some cells) (h : ownsAt { s with heap := upd b (cells.set off (.d (.list sz xs))) s.heap } l) : l ≠ .cell b off := by
 rintro rfl
 obtain ⟨cells', z, ys, h1, h2⟩ := h
 rw [show look b ({ s with heap := upd b (cells.set off (.d (.list sz xs))) s.heap } : St).heap = look b (upd b (cells.set off (.d (.list sz xs))) s.heap) from rfl, look_upd_same, Option.some.injEq] at h1
 subst h1
 rw [List.getElem?_set_self'] at h2
 cases hq : cells[off]? <;> simp [hq] at h2
theorem op_append (hs : Sim K μ s a w) {o : Oper} {c : Go.Call} {t u : TypeId} {x y : Operand} (ho : o.op = .call c) (hc : c.callee = .builtin .append)
  (hargs : c.args.toList = [x, y]) (hty : c.argTypes.toList = [t, u]) {V : V} {s' : St} (h : doAppend P t u x y s = some (V, s')) : DoneS P K μ s a w o V s' := by
 have hargs' : c.args = #[x, y] := by apply Array.ext'; simpa using hargs
 have hty' : c.argTypes = #[t, u] := by apply Array.ext'; simpa using hty
 have exec : ∀ {v : Value} {w' : World}, (Builtin.append_ #[t, u] o.type #[a.eval x, a.eval y]).run P w = .ok v w' → (execOp a.eval o).run P w = .ok (.value v) w' := by
  intro v w' hr
  simp [execOp, ho, resolve, hc, hargs', hty', invoke, builtin, hr]
 unfold doAppend at h
 split at h
 ·rename_i e vx sz' ys ht hx hy
  have hte := telem_some ht
  rw [Option.bind_eq_some_iff] at hy
  obtain ⟨vy, hvy, happ⟩ := hy
  have hyr := evT_rep hs hvy
  have hxr := evT_rep hs hx
  split at h
  ·rename_i n hn hu
   split at h
   ·rename_i hcond
    obtain ⟨rfl, hb, hzf⟩ := hcond
    obtain ⟨inf, z, hi, hz, hzs⟩ := zeroFits_some hzf
    have hb' : inf.bytes ≤ 1024 := by simpa [Program.bytesOf, hi] using hb
    obtain ⟨vs, hes, hlen, hfirst⟩ := appended_run (P := P) happ hyr
    have core : ∀ {l : Loc} {xs : List D}, Rep K w (.list sz' xs) (a.eval x) → Spare K w l sz' (a.eval x) → xs.length + ys.length ≤ 4294967296 →
      ∀ s' : St, Sim K μ s' a w → (∀ l', ownsAt s' l' → l' ≠ l) → s'.nid = s.nid → s'.defers = s.defers → DoneS P K μ s a w o (.c (.own sz' (xs ++ ys))) s' := by
     intro l xs h1 h2 h3 s' h4 h5 h6 h7
     obtain ⟨v, K', w', r1, r2, r3, r4, r5⟩ := append_core (P := P) (ty := o.type) hte hu hn hi hz hzs hb' o.dst h1 h2 hes hlen hfirst h3 hs.bound
     refine ⟨v, K', w', exec r1, r2.mono fun t => sp_mine, ?_, ⟨r4, by simp [Go.AM.V.ids, C.ids], ?_, by simp⟩, h6, h7⟩
     ·refine h4.step r2 (by simp) (by simp) ?_ r3
      intro l' hl' e'
      simp only [Tag.sp.injEq] at e'
      exact h5 l' hl' e'
     ·intro sz' xs' e' t' ht'
      simp only [Go.AM.V.c.injEq, C.own.injEq] at e'
      rw [← e'.1]; exact r5 t' ht'
    split at h
    ·split at h
     ·rename_i hmax
      simp only [Option.some.injEq, Prod.mk.injEq] at h
      obtain ⟨rfl, rfl⟩ := h
      simp only [RepV, RepC] at hxr
      obtain ⟨v, K', w', r1, r2, r3, r4, r5⟩ := append_nil_core (P := P) (ty := o.type) hte hu hn hi hz hzs hb' o.dst hes hlen hfirst hmax hs.bound none
      rw [← hxr] at r1
      refine ⟨v, K', w', exec r1, r2.mono (by simp), ?_, ⟨r4, by simp [Go.AM.V.ids, C.ids], ?_, by simp⟩, rfl, rfl⟩
      ·exact hs.step r2 (by simp) (by simp) (by simp) r3
      ·intro sz' xs' e' t' ht'
       simp only [Go.AM.V.c.injEq, C.own.injEq] at e'
       rw [← e'.1]; exact r5 t' ht'
     ·simp at h
    ·rename_i sz xs
     split at h
     ·rename_i hc2
      obtain ⟨rfl, hmax⟩ := hc2
      simp only [Option.some.injEq, Prod.mk.injEq] at h
      obtain ⟨rfl, rfl⟩ := h
      simp only [RepV, RepC] at hxr
      refine core (l := .cell s.nid 0) hxr.1 (hxr.2.spare _ _) hmax _ hs ?_ rfl rfl
      rintro l' hl' rfl
      obtain ⟨cells, _, _, hb, _⟩ := hl'
      exact Nat.lt_irrefl _ (hs.heap _ _ hb).1
     ·simp at h
    ·rename_i sz xs
     obtain ⟨v, rfl, hv⟩ := evT_const_own hx
     simp only at h
     split at h
     ·rename_i hc2
      obtain ⟨rfl, hmax⟩ := hc2
      simp only [Option.some.injEq, Prod.mk.injEq] at h
      obtain ⟨rfl, rfl⟩ := h
      exact core (l := .tmp v) hxr (hs.own v _ _ hv) hmax _ (hs.plainAt v) (fun l' hl' => owns_plainAt hl') rfl rfl
     ·simp at h
    ·rename_i v sz xs
     replace hx := evT_view hx
     split at h
     ·rename_i sz'' xs'' hv
      split at h
      ·rename_i hc2
       obtain ⟨rfl, rfl, hmax⟩ := hc2
       simp only [Option.some.injEq, Prod.mk.injEq] at h
       obtain ⟨rfl, rfl⟩ := h
       cases x with
       | tmp tx =>
        have h1 := hs.view tx _ _ _ hx _ _ hv
        have h2 := hs.own v _ _ hv
        rw [h1] at h2
        exact core (l := .tmp v) hxr h2 hmax _ (hs.plainAt v) (fun l' hl' => owns_plainAt hl') rfl rfl
       | const cv => exact absurd hx (ev_const_view cv)
       | global g => simp [ev] at hx
       | func f => simp [ev] at hx
      ·simp at h
     ·simp at h
    ·rename_i b off sz xs
     replace hx := evT_view hx
     split at h
     ·rename_i cells hcells0
      obtain ⟨cs0, hcells, hmo, hfl0⟩ := lookC_some hcells0
      split at h
      ·rename_i sz'' xs'' hcc
       have hfl : flatC cs0 = cs0 := by rw [hfl0] at hcc; exact flatC_own hcc
       rw [hfl] at hfl0
       subst hfl0
       split at h
       ·rename_i hc2
        obtain ⟨rfl, rfl, hmax⟩ := hc2
        simp only [Option.some.injEq, Prod.mk.injEq] at h
        obtain ⟨rfl, rfl⟩ := h
        cases x with
        | tmp tx =>
         have h1 := hs.view tx _ _ _ hx _ _ _ hcells hcc
         obtain ⟨vv, g1, _, _, _, g5⟩ := (hs.heap b _ hcells).2.2.cells hmo off _ (by rw [hfl]; exact hcc) (by simp)
         rw [h1, Option.some.injEq] at g1
         have h2 := g5 _ _ rfl
         rw [← g1] at h2
         exact core (l := .cell b off) hxr h2 hmax _ (hs.plainCell hcells hmo hfl (by rw [hcc]; simp) _ h1 hxr) (fun l' hl' => owns_plainCell hcells hl') rfl rfl
        | const cv => exact absurd hx (ev_const_view cv)
        | global g => simp [ev] at hx
        | func f => simp [ev] at hx
       ·simp at h
      ·simp at h
     ·simp at h
    ·simp at h
   ·simp at h
  ·simp at h
 ·simp at h
end
end Go.AM

namespace Go.AM
open Go
variable [Globs]
def dstsBelow (n : Nat) : Code → Bool
 | .region _ ops _ => ops.toList.all fun o => match o.dst with | some d => decide (d < n) | none => true
 | .seq a b => dstsBelow n a && dstsBelow n b
 | .cond _ a b => dstsBelow n a && dstsBelow n b
 | .block _ c => dstsBelow n c
 | .loop c => dstsBelow n c
 | .scope c => dstsBelow n c
 | _ => true
def funcOK (fn : Func) : Bool :=
 !(fn.name == "runtime.NumGoroutine") && match fn.body with | some c => dstsBelow fn.ntmps c | none => true
structure ProgOK (P : Program) : Prop where
 func : ∀ (f : Nat) (fn : Func), P.funcs[f]? = some fn → funcOK fn = true
 mixed : P.follows .mixedOrders = true
section
variable {P : Program} {K K' : Col} {μ μ' : Nat → Nat} {w w' : World} {s : St} {a : Act}
theorem Sim.weaken (h : Sim K μ s a w) {tm : List (Nat × V)} (hb : ∀ t v, look t tm = some v → ∃ v', look t s.tmps = some v' ∧ (v = v' ∨ ∃ l sz xs, v' = .view l sz xs ∧ v = .d (.list sz xs))) :
  Sim K μ { s with tmps := tm } a w := by
 refine ⟨?_, ?_, ?_, ?_, h.heap, h.bound, h.defs, h.dids, h.glob⟩
 ·intro t V ht
  obtain ⟨v', h1, h2⟩ := hb t V ht
  refine ⟨(h.tm t v' h1).1, ?_⟩
  rcases h2 with rfl | ⟨l', sz, xs, rfl, rfl⟩
  ·exact (h.tm t _ h1).2
  ·exact (h.tm t _ h1).2
 ·intro t V ht b hbb
  obtain ⟨v', h1, h2⟩ := hb t V ht
  rcases h2 with rfl | ⟨l', sz, xs, rfl, rfl⟩
  ·exact h.tids t _ h1 b hbb
  ·simp [Go.AM.V.ids, C.ids] at hbb
 ·intro t sz xs ht
  obtain ⟨v', h1, h2⟩ := hb t _ ht
  rcases h2 with rfl | ⟨l', sz', xs', rfl, e⟩
  ·exact h.own t sz xs h1
  ·simp at e
 ·intro t l' sz xs ht
  obtain ⟨v', h1, h2⟩ := hb t _ ht
  rcases h2 with rfl | ⟨l'', sz', xs', rfl, e⟩
  ·have hv := h.view t l' sz xs h1
   cases l' with
   | cell b off => exact hv
   | tmp k =>
    intro z ys hk
    obtain ⟨v'', h3, h4⟩ := hb k _ hk
    rcases h4 with rfl | ⟨_, _, _, rfl, e⟩
    ·exact hv z ys h3
    ·simp at e
  ·simp at e
theorem Sim.unviewIn (h : Sim K μ s a w) (ids : List Nat) : Sim K μ { s with tmps := AM.unviewIn ids s.tmps } a w := by
 refine h.weaken fun t v ht => ?_
 obtain ⟨v', h1, h2, _⟩ := back_unviewIn ht
 refine ⟨v', h1, ?_⟩
 rcases h2 with rfl | ⟨b, off, sz, xs, e1, e2⟩
 ·exact .inl rfl
 ·exact .inr ⟨_, sz, xs, e1, e2⟩
theorem mem_key {t : Nat} {v : V} : ∀ {l : List (Nat × V)}, look t l = some v → ∃ u, (t, u) ∈ l
 | [], h => by simp [look] at h
 | (j, u) :: r, h => by
  simp only [look] at h
  split at h
  ·rename_i hj
   subst hj
   exact ⟨u, by simp⟩
  ·obtain ⟨w, hw⟩ := mem_key h
   exact ⟨w, List.mem_cons_of_mem _ hw⟩
theorem noView_spec {id : Nat} {tm : List (Nat × V)} (h : noView id tm = true) (t off sz : Nat) (xs : List D) : look t tm ≠ some (.view (.cell id off) sz xs) := by
 intro hl
 obtain ⟨u, hu⟩ := mem_key hl
 simp only [noView, List.all_eq_true] at h
 have := h _ hu
 simp [hl] at this
theorem noView_of {id : Nat} {tm : List (Nat × V)} (h : ∀ (t off sz : Nat) (xs : List D), look t tm ≠ some (.view (.cell id off) sz xs)) : noView id tm = true := by
 simp only [noView, List.all_eq_true]
 rintro ⟨t, v⟩ _
 cases hl : look t tm with
 | none => rfl
 | some u =>
  cases u with
  | view l sz xs =>
   cases l with
   | cell b off =>
    by_cases hb : b = id
    ·subst hb; exact absurd hl (h t off sz xs)
    ·simp [hb]
   | tmp _ => rfl
  | _ => rfl
theorem callFunc_run (hP : ProgOK P) {f : Nat} (hf : Callee P f) (args : Array Value) (w : World) : (callFunc f args).run P w = .ok (.enter f args) w := by
 obtain ⟨fn, h1, h2⟩ := hf
 have h3 := hP.func f fn h1
 simp only [funcOK, Bool.and_eq_true, Bool.not_eq_true'] at h3
 replace h3 := h3.1
 obtain ⟨c, hc⟩ := Option.isSome_iff_exists.1 h2
 simp [callFunc, h1, hc]
 intro h
 rw [beq_eq_false_iff_ne] at h3
 exact absurd h h3
structure Behind (P : Program) (K : Col) (μ : Nat → Nat) (s : St) (a : Act) (w : World) (o : Oper) (r : ORes) (next : Act → World → Prop) (Q : Exit → Act → World → Prop) : Prop where
 val : ∀ V s' K' μ' a' w', r = .val V s' → After K μ w s.nid K' μ' w' → s.nid ≤ s'.nid → Sim K' μ' (putDst o V s') a' w' → a'.tmps.size = a.tmps.size → next a' w'
 pan : ∀ d s' K' μ' w' u, r = .pan d s' → After K μ w s.nid K' μ' w' → s.nid ≤ s'.nid → Sim K' μ' s' a w' → Rep K' w' d u → Q (.panic [⟨u, false, false⟩]) a w'
theorem behind_val {o : Oper} {V : V} {s' : St} {next : Act → World → Prop} {Q : Exit → Act → World → Prop} (hb : Behind P K μ s a w o (.val V s') next Q)
  (hst : Step mine K w K' w') (hmu : ∀ b, b < s.nid → μ' b = μ b) (hnid : s.nid ≤ s'.nid) (hs' : Sim K' μ' s' a w') (hd : ∀ t, o.dst = some t → t < a.tmps.size) {v : Value} (hg : Good K' μ' s' a w' o.dst V v) :
  next (a.put o.dst v) w' := by
 refine hb.val V s' K' μ' (a.put o.dst v) w' rfl ⟨hst, hmu⟩ hnid ?_ (put_size _ _ _)
 exact hs'.put hd hg
def addNb (nb : Option (List C)) (s : St) : St :=
 match nb with
 | none => s
 | some cs => { s with heap := (s.nid, cs) :: s.heap, nid := s.nid + 1 }
theorem Step.none_mine {K : Col} {w : World} {K' : Col} {w' : World} (h : Step (fun _ => False) K w K' w') : Step mine K w K' w' := h.mono (by simp)
theorem op_quiet {o : Oper} (hs : Sim K μ s a w) (hd : ∀ t, o.dst = some t → t < a.tmps.size) {V : V} {nb : Option (List C)} (h : evR P s.nid o s.tmps s.heap = some (V, nb))
  {next : Act → World → Prop} {Q : Exit → Act → World → Prop}
  (hnv : nb.isSome = true → noView s.nid s.tmps = true) (hb : Behind P K μ s a w o (.val V (addNb nb s)) next Q) : o.wp P a w next Q := by
 rcases evR_sound hs h with ⟨rfl, v, K', w', hrun, hst, hbd, hg⟩ | ⟨cs, c, rfl, rfl, hmc, arr, e, hrun, hcs⟩
 ·simp only [Oper.wp, hrun, Oper.upon_value]
  refine behind_val hb hst.none_mine (fun _ _ => rfl) (Nat.le_refl _) ?_ hd hg
  exact hs.step hst (by simp) (by simp) (by simp) hbd
 ·simp only [Oper.wp, hrun, Oper.upon_value]
  have hom := oneMore_alloc w (.cells arr e)
  have hs1 : Sim (colNew K w.heap.size fun _ => .blk s.nid) μ s a (w.alloc (.cells arr e)) :=
   hs.step (hom.step fun _ => .blk s.nid) (by simp) (by simp) (by simp) (hom.bound hs.bound _)
  obtain ⟨h1, h2, h3, h4⟩ := hcs μ hs
  have hcell : ∀ i v, arr.toList[i]? = some v → (w.alloc (.cells arr e)).cell? (ad w.heap.size i) = some v ∧ (w.alloc (.cells arr e)).frozen? (ad w.heap.size i) = false := by
   intro i v hv
   refine ⟨?_, by rw [hom.frozen]; simp⟩
   rw [hom.cell]
   simpa using hv
  have hs2 := hs1.addBlk (g := w.heap.size) (cs := cs) (vs := arr.toList) (by simp) (fun off => by simp [colNew]) hcell (h1.step (hom.step fun _ => .blk s.nid) (by simp)) h2 h3 h4 (noView_spec (hnv rfl))
  refine behind_val hb (hom.step fun _ => .blk s.nid).none_mine (fun b hb => muSet_other μ _ (by omega)) (by show s.nid ≤ s.nid + 1; omega) hs2 hd ⟨?_, ?_, by intro sz xs e; rcases hmc with rfl | ⟨n, k, rfl⟩ <;> simp at e, by simp⟩
  ·exact hmc.rep (muSet_same _ _ _)
  ·intro b hb
   simp only [V.ids, hmc.ids, List.mem_singleton] at hb
   subst hb
   show s.nid < s.nid + 1
   omega
theorem op_doneS {o : Oper} (hd : ∀ t, o.dst = some t → t < a.tmps.size) {V : V} {s' : St} (h : DoneS P K μ s a w o V s') {next : Act → World → Prop} {Q : Exit → Act → World → Prop}
  (hb : Behind P K μ s a w o (.val V s') next Q) : o.wp P a w next Q := by
 obtain ⟨v, K', w', hrun, hst, hs', hg, hnid, _⟩ := h
 simp only [Oper.wp, hrun, Oper.upon_value]
 exact behind_val hb hst (fun _ _ => rfl) (by omega) hs' hd hg
theorem done_assign (hs : Sim K μ s a w) {o : Oper} {x : Operand} (ho : o.op = .assign x) {call : Call} {r : ORes} {ft : Foot} (h : evOp P call s.nid o s = some (r, ft)) :
  ∃ V s', r = .val V s' ∧ DoneS P K μ s a w o V s' := by
 have hrun : (execOp a.eval o).run P w = .ok (.value (a.eval x)) w := by simp [execOp, ho]
 simp only [evOp, ho] at h
 split at h
 ·rename_i sz xs hx
  split at h
  ·rename_i u
   simp only [Option.some.injEq, Prod.mk.injEq] at h
   obtain ⟨rfl, rfl⟩ := h
   refine ⟨_, _, rfl, a.eval (.tmp u), ?_⟩
   have hr := evT_rep hs hx
   replace hx := evT_own hx
   have hsp := hs.own u sz xs hx
   cases hdst : o.dst with
   | none =>
    exact ⟨K, w, hrun, Step.refl _ _ _, hs.plainAt u, ⟨hr, by simp [V.ids, C.ids], by intro _ _ _ t ht; simp at ht, by simp⟩, rfl, rfl⟩
   | some d =>
    have hst := step_move K w (.tmp u) (.tmp d)
    refine ⟨colMove K (.tmp u) (.tmp d), w, hrun, hst.mono fun t => sp_mine, ?_, ⟨hr.step hst (by simp), by simp [V.ids, C.ids], ?_, by simp⟩, rfl, rfl⟩
    ·refine (hs.plainAt u).step hst (by simp) (by simp) ?_ (bound_move hs.bound _ _)
     intro l hl e
     simp only [Tag.sp.injEq] at e
     exact owns_plainAt hl e
    ·intro sz' xs' e t ht
     simp only [V.c.injEq, C.own.injEq] at e
     simp only [Option.some.injEq] at ht
     subst ht
     rw [← e.1]
     exact hsp.move
  ·simp at h
 ·rename_i n hx
  simp only [Option.some.injEq, Prod.mk.injEq] at h
  obtain ⟨rfl, rfl⟩ := h
  have hq := evT_rep hs hx
  simp only [RepV, RepC] at hq
  exact ⟨_, _, rfl, a.eval x, K, w, hrun, Step.refl _ _ _, hs, ⟨by simp only [RepV, RepC, Rep]; exact .inl ⟨by simp, .inl hq⟩, by simp [V.ids, C.ids], fun sz xs e t ht => .inl (.inl hq), by simp⟩, rfl, rfl⟩
 ·rename_i n xs hx
  simp only [Option.some.injEq, Prod.mk.injEq] at h
  obtain ⟨rfl, rfl⟩ := h
  have hq := evT_rep hs hx
  simp only [RepV, RepC] at hq
  exact ⟨_, _, rfl, a.eval x, K, w, hrun, Step.refl _ _ _, hs, ⟨hq.1, by simp [V.ids, C.ids], fun sz xs e t ht => by simp only [V.c.injEq, C.own.injEq] at e; rw [← e.1]; exact hq.2.spare _ _, by simp⟩, rfl, rfl⟩
 ·rename_i l sz xs hx
  simp only [Option.some.injEq, Prod.mk.injEq] at h
  obtain ⟨rfl, rfl⟩ := h
  exact ⟨_, _, rfl, a.eval x, K, w, hrun, Step.refl _ _ _, hs, ⟨by have q := evT_rep hs hx; exact q, by simp [V.ids, C.ids], by simp, by simp⟩, rfl, rfl⟩
 ·rename_i v hno hnn hnf hnv hx
  simp only [Option.some.injEq, Prod.mk.injEq] at h
  obtain ⟨rfl, rfl⟩ := h
  exact ⟨_, _, rfl, a.eval x, K, w, hrun, Step.refl _ _ _, hs, ⟨evT_rep hs hx, evT_ids hs hx, fun sz xs e => (hno sz xs e).elim, fun l sz xs e => (hnv l sz xs e).elim⟩, rfl, rfl⟩
 ·simp at h
theorem storeVar_run {t : TypeId} {v : Value} {blk off : Nat} (hn : tsz P t = some v.cells.size) (hex : ∀ j, j < v.cells.toList.length → (w.cell? (ad blk (off + j))).isSome = true ∧ w.frozen? (ad blk (off + j)) = false)
  (h1 : ∀ x ∈ v.cells.toList, isOne x = true) : (storeVar t (ad blk off) v).run P w = .ok () (w.setCells blk off v.cells.toList) := by
 have hst := run_storeCells_cells (P := P) blk off v.cells.toList 0 w (fun j hj => by simpa using (hex j hj).1) (fun j hj => by simpa using (hex j hj).2) (fun v hv => by rw [← isOne_eq]; exact h1 v hv)
 simp at hst
 simp [storeVar, sizeOf_run hn, hst]
theorem op_store (hs : Sim K μ s a w) {o : Oper} {t : TypeId} {x y : Operand} (ho : o.op = .store t x y) {call : Call} {r : ORes} {ft : Foot} (h : evOp P call s.nid o s = some (r, ft)) :
  ∃ s' K' w', r = .val (.c .undef) s' ∧ (execOp a.eval o).run P w = .ok .skip w' ∧ Step mine K w K' w' ∧ Sim K' μ s' a w' ∧ s'.nid = s.nid ∧ s'.defers = s.defers := by
 simp only [evOp, ho] at h
 split at h
 ·rename_i b off sz xs hx hy
  split at h
  ·rename_i hn
   split at h
   ·rename_i u hp hst
    simp only [Option.some.injEq, Prod.mk.injEq] at h
    obtain ⟨rfl, rfl⟩ := h
    have hxr := ev_rep hs hx
    simp only [RepV, RepC] at hxr
    have hyr := evT_rep hs hy
    have hsp := hs.own u sz xs (evT_own hy)
    have h1 : isOne (a.eval (.tmp u)) = true := isOne_of_rep (d := .list sz xs) hyr (by simp)
    have hmv := step_move K w (.tmp u) (.cell b off)
    have hs1 := hs.plainAt u
    have hs2 : Sim (colMove K (.tmp u) (.cell b off)) μ { s with tmps := AM.plainAt u s.tmps } a w := by
     refine hs1.step hmv (by simp) (by simp) ?_ (bound_move hs.bound _ _)
     intro l hl e
     simp only [Tag.sp.injEq] at e
     exact owns_plainAt hl e
    obtain ⟨hs3, hnv⟩ := hs2.unview (.cell b off)
    have hcs : (a.eval (.tmp u)).cells.toList = [a.eval (.tmp u)] := by rw [cells_of_one h1]
    obtain ⟨q1, q2, q3⟩ := hs3.storeCells (ncs := [.own sz xs]) (nvs := [a.eval (.tmp u)]) hst
     (.cons (hyr.step hmv (by simp)) .nil) (by simpa using h1) (by simp [C.ids])
     (by
      intro i z ys hi v hv
      cases i with
      | zero =>
       simp at hi hv; subst hv
       rw [← hi.1]
       exact hsp.move
      | succ i => simp at hi)
     (by
      intro t i sz' xs' z ys ht hi
      cases i with
      | zero => exact hnv t sz' xs' (by simpa using ht)
      | succ i => simp at hi)
    refine ⟨_, _, _, rfl, ?_, (hmv.mono fun t => sp_mine).trans (q2.mono fun t ht => by subst ht; simp [mine]), q1, rfl, rfl⟩
    have hrun := storeVar_run (P := P) (w := w) (t := t) (v := a.eval (.tmp u)) (blk := μ b) (off := off) (by rw [hn, cells_of_one h1]; rfl) (by rw [hcs]; exact q3) (by rw [hcs]; simpa using h1)
    rw [hcs] at hrun
    simp [execOp, ho, hxr, Instr.storeAt, Instr.sureAddr, hrun]
   ·simp at h
  ·simp at h
 ·rename_i b off v hno hx hy
  split at h
  ·rename_i cs hcs
   split at h
   ·rename_i hn
    split at h
    ·split at h
     ·rename_i hp hst hnv
      simp only [Option.some.injEq, Prod.mk.injEq] at h
      obtain ⟨rfl, rfl⟩ := h
      have hxr := ev_rep hs hx
      simp only [RepV, RepC] at hxr
      have hyr := evT_rep hs hy
      obtain ⟨r1, r2⟩ := V.cells_rep hcs hyr
      obtain ⟨q1, q2, q3⟩ := hs.storeCells (ncs := cs.map C.placed) (nvs := (a.eval y).cells.toList) hst r1.placed r2
       (by
        intro c hc i hi
        simp only [List.mem_map] at hc
        obtain ⟨c', hc', rfl⟩ := hc
        rw [C.placed_ids] at hi
        exact evT_ids hs hy i (V.cells_ids hcs c' hc' i hi))
       (by
        intro i z ys hi v hv
        simp only [List.getElem?_map, Option.map_eq_some_iff] at hi
        obtain ⟨c', hci, hc'⟩ := hi
        obtain ⟨u, hu, hru⟩ := r1.get hci
        rw [hv, Option.some.injEq] at hu
        subst hu
        exact (C.placed_capped hc' hru).spare _ _)
       (by
        intro t i sz' xs' z ys ht hi
        exact absurd ht (noView_spec hnv t (off + i) sz' xs'))
      refine ⟨_, _, _, rfl, ?_, q2.mono fun t ht => by subst ht; simp [mine], q1, rfl, rfl⟩
      have hl := r1.length
      have hrun := storeVar_run (P := P) (w := w) (t := t) (v := a.eval y) (blk := μ b) (off := off) (by rw [hn, hl]; simp) q3 r2
      simp [execOp, ho, hxr, Instr.storeAt, Instr.sureAddr, hrun]
     ·simp at h
    split at h
    ·rename_i hp hst
     simp only [Option.some.injEq, Prod.mk.injEq] at h
     obtain ⟨rfl, rfl⟩ := h
     have hxr := ev_rep hs hx
     simp only [RepV, RepC] at hxr
     have hyr := evT_rep hs hy
     obtain ⟨r1, r2⟩ := V.cells_rep hcs hyr
     obtain ⟨q1, q2, q3⟩ := hs.storeCells (ncs := cs.map C.plain) (nvs := (a.eval y).cells.toList) hst r1.plain r2
      (by
       intro c hc i hi
       simp only [List.mem_map] at hc
       obtain ⟨c', hc', rfl⟩ := hc
       rw [C.plain_ids] at hi
       exact evT_ids hs hy i (V.cells_ids hcs c' hc' i hi))
      (by
       intro i z ys hi
       simp only [List.getElem?_map, Option.map_eq_some_iff] at hi
       obtain ⟨c', _, hc'⟩ := hi
       cases c' <;> simp [C.plain] at hc')
      (by
       intro t i sz' xs' z ys _ hi
       simp only [List.getElem?_map, Option.map_eq_some_iff] at hi
       obtain ⟨c', _, hc'⟩ := hi
       cases c' <;> simp [C.plain] at hc')
     refine ⟨_, _, _, rfl, ?_, q2.mono fun t ht => by subst ht; simp [mine], q1, rfl, rfl⟩
     have hl := r1.length
     have hrun := storeVar_run (P := P) (w := w) (t := t) (v := a.eval y) (blk := μ b) (off := off) (by rw [hn, hl]; simp) q3 r2
     simp [execOp, ho, hxr, Instr.storeAt, Instr.sureAddr, hrun]
    ·simp at h
   ·simp at h
  ·simp at h
 ·simp at h
theorem good_undef {K : Col} {w : World} {dst : Option Nat} : Good K μ s a w dst (.c .undef) Go.undef := ⟨by simp [RepV, RepC], by simp [V.ids, C.ids], by simp, by simp⟩
theorem repCaps : ∀ caps : List Nat, RepCs K μ w (caps.map fun b => C.ptr b 0) (caps.map fun b => Value.pointer (some (ad (μ b) 0)))
 | [] => .nil
 | _ :: caps => .cons rfl (repCaps caps)
theorem argsT_rep (hs : Sim K μ s a w) : ∀ {l : List Operand} {ts : List TypeId} {cs : List C}, argsT P s.tmps l ts = some cs → RepCs K μ w cs (l.map a.eval)
 | [], _, cs, h => by simp only [argsT, Option.some.injEq] at h; subst h; exact .nil
 | x :: l, ts, cs, h => by
  simp only [argsT] at h
  split at h
  ·rename_i c cs' hc hcs
   simp only [Option.some.injEq] at h; subst h
   rw [Option.bind_eq_some_iff] at hc
   obtain ⟨vx, hvx, hax⟩ := hc
   exact .cons (argC_rep (evT_rep hs hvx) hax).1 (argsT_rep hs hcs)
  ·simp at h
theorem MV.of_rep {v : V} {m : MV} {u : Value} (h : MV.of v = some m) (hr : RepV K μ w v u) : RepC K μ w m.toC u ∧ ∀ b ∈ m.ids, b ∈ v.ids := by
 unfold MV.of at h
 split at h
 ·simp only [Option.some.injEq] at h; subst h
  exact ⟨hr, fun b hb => hb⟩
 ·simp only [Option.map_eq_some_iff] at h
  obtain ⟨d, hd, rfl⟩ := h
  exact ⟨V.toD_rep hd hr, by simp [MV.ids]⟩
theorem setM_ids {x : D} {m : MV} {Q : Nat → Prop} (hm : ∀ b ∈ m.ids, Q b) : ∀ {kvs kvs' : List (D × MV)}, setM x m kvs = some kvs' → (∀ y ∈ kvs, ∀ b ∈ y.2.ids, Q b) → ∀ y ∈ kvs', ∀ b ∈ y.2.ids, Q b
 | [], kvs', h, _ => by
  simp only [setM, Option.some.injEq] at h; subst h
  intro y hy; simp only [List.mem_singleton] at hy; subst hy; exact hm
 | (k, m') :: r, kvs', h, hq => by
  simp only [setM] at h
  split at h
  ·simp only [Option.some.injEq] at h; subst h
   intro y hy
   rcases List.mem_cons.1 hy with rfl | hy
   ·exact hm
   ·exact hq y (by simp [hy])
  ·simp only [Option.map_eq_some_iff] at h
   obtain ⟨r', h, rfl⟩ := h
   intro y hy
   rcases List.mem_cons.1 hy with rfl | hy
   ·exact hq _ (by simp)
   ·exact setM_ids hm h (fun y hy => hq y (by simp [hy])) y hy
  ·simp at h
theorem op_mapUpdate (hs : Sim K μ s a w) {o : Oper} {t : TypeId} {m k v : Operand} (ho : o.op = .mapUpdate t m k v ∨ o.op = .insert t m k v) {call : Call} {r : ORes} {ft : Foot} (h : evOp P call s.nid o s = some (r, ft)) :
  ∃ s' K' w', r = .val (.c .undef) s' ∧ (execOp a.eval o).run P w = .ok .skip w' ∧ Step mine K w K' w' ∧ Sim K' μ s' a w' ∧ s'.nid = s.nid ∧ s'.defers = s.defers := by
 obtain ⟨s1, b1, h', hr1⟩ : ∃ s1 b1, doMap P t m k v s = some (s1, b1) ∧ r = .val (.c .undef) s1 := by
  rcases ho with ho | ho <;> simp only [evOp, ho] at h <;> split at h <;> first
   | (simp only [Option.some.injEq, Prod.mk.injEq] at h; obtain ⟨rfl, _⟩ := h; exact ⟨_, _, by assumption, rfl⟩)
   | (simp at h; done)
 subst hr1
 unfold doMap at h'
 have hexec : ∀ {w' : World}, (Instr.mapUpdate t (a.eval m) (a.eval k) (a.eval v)).run P w = .ok () w' → (execOp a.eval o).run P w = .ok .skip w' := by
  intro w' hr
  rcases ho with ho | ho <;> simp [execOp, ho, hr]
 split at h'
 ·rename_i kt e b kd hmt hx hy
  obtain ⟨htt, d, hkt⟩ := mapT_some hmt
  have hxr := ev_rep hs hx
  simp only [RepV, RepC] at hxr
  obtain ⟨yv, hyv, hyd⟩ := Option.bind_eq_some_iff.1 hy
  have hyr := V.toD_rep hyd (ev_rep hs hyv)
  split at h'
  ·rename_i mv cs hkey hv hb
   split at h'
   ·rename_i kvs hm
    split at h'
    ·rename_i kvs' hset
     simp only [Option.some.injEq, Prod.mk.injEq] at h'
     obtain ⟨rfl, rfl⟩ := h'
     obtain ⟨vv, hvv, hmv⟩ := Option.bind_eq_some_iff.1 hv
     obtain ⟨hvr, hvi⟩ := MV.of_rep hmv (evT_rep hs hvv)
     have hik := isKey_of hkey hkt hyr
     obtain ⟨es, clk, hobj, hrep, hbn⟩ := (hs.heap b cs hb).2.2.map hm
     have hids : ∀ x ∈ kvs', ∀ i ∈ x.2.ids, i < s.nid := by
      refine setM_ids (fun i hi => evT_ids hs hvv i (hvi i hi)) hset ?_
      have := mapOf_some hm
      subst this
      intro y hy i hi
      exact (hs.heap b _ hb).2.1 (.ment kvs) (by simp) i (by simp only [C.ids, List.mem_flatMap]; exact ⟨y, hy, hi⟩)
     rcases setM_spec hyr hik hvr 0 hset hrep with ⟨g1, g2⟩ | ⟨j, en, g1, g2, g3, g4⟩
     ·obtain ⟨q1, q2⟩ := hs.storeMap (clk' := clk + 1) (es' := es.push { key := a.eval k, val := a.eval v, born := clk }) hb hm hobj (by simpa using g2 clk) (by simpa using hbn.push rfl) hids
      refine ⟨_, _, _, rfl, hexec ?_, q2.mono fun t ht => by subst ht; simp [mine], q1, rfl, rfl⟩
      simp [Instr.mapUpdate, hxr, run_underlying htt, MapKept.run_getObj_map hobj, MapKept.run_checkKey hkt hik, MapKept.run_findKey hkt g1, MapKept.run_setObj_map _ hobj]
     ·have hj : es[j]? = some en := by simpa using g2
      have hmod : (es.modify j fun e => { e with key := a.eval k, val := a.eval v }).toList = es.toList.set j { en with key := a.eval k, val := a.eval v } := by
        apply List.ext_getElem?
        intro i
        rw [Array.getElem?_toList, Array.getElem?_modify, List.getElem?_set]
        by_cases hij : j = i
        ·subst hij
         have hl : j < es.toList.length := (List.getElem?_eq_some_iff.1 g2).1
         simp only [if_true, hj, Option.map_some, hl]
        ·simp only [hij, if_false, Array.getElem?_toList]
      obtain ⟨q1, q2⟩ := hs.storeMap (clk' := clk) (es' := es.modify j fun e => { e with key := a.eval k, val := a.eval v }) hb hm hobj (by
       rw [hmod]
       exact g4) (by
       rw [hmod]
       refine hbn.same ?_
       apply List.ext_getElem?
       intro i
       rw [List.map_set, List.getElem?_set]
       by_cases hij : j = i
       ·subst hij
        have hl : j < es.toList.length := (List.getElem?_eq_some_iff.1 g2).1
        rw [if_pos rfl, List.length_map, if_pos hl, List.getElem?_map, g2]
        rfl
       ·rw [if_neg hij]) hids
      refine ⟨_, _, _, rfl, hexec ?_, q2.mono fun t ht => by subst ht; simp [mine], q1, rfl, rfl⟩
      simp [Instr.mapUpdate, hxr, run_underlying htt, MapKept.run_getObj_map hobj, MapKept.run_checkKey hkt hik, MapKept.run_findKey hkt g1, hj, g3, MapKept.run_keyThatStays hik, MapKept.run_setObj_map _ hobj]
    ·simp at h'
   ·simp at h'
  ·simp at h'
 ·simp at h'
theorem op_makeMap {o : Oper} {t : TypeId} (ho : o.op = .makeMap t none) (hs : Sim K μ s a w) (hd : ∀ t, o.dst = some t → t < a.tmps.size) (hnv : noView s.nid s.tmps = true) {next : Act → World → Prop} {Q : Exit → Act → World → Prop}
  (hb : Behind P K μ s a w o (.val (.c (.mp s.nid)) { s with heap := (s.nid, [.ment []]) :: s.heap, nid := s.nid + 1 }) next Q) : o.wp P a w next Q := by
 have hrun : (execOp a.eval o).run P w = .ok (.value (.map (some w.heap.size))) (w.alloc (.map #[] 0)) := by
  simp [execOp, ho, run_makeMap_plain]
 simp only [Oper.wp, hrun, Oper.upon_value]
 have hom := oneMore_alloc w (.map #[] 0)
 have hs1 : Sim (colNew K w.heap.size fun _ => .blk s.nid) μ s a (w.alloc (.map #[] 0)) :=
  hs.step (hom.step fun _ => .blk s.nid) (by simp) (by simp) (by simp) (hom.bound hs.bound _)
 have hs2 := hs1.addB (g := w.heap.size) (cs := [.ment []]) ⟨fun off _ => by rw [muSet_same]; simp [colNew], by rw [muSet_same]; simp, .inr ⟨[], rfl, #[], 0, by rw [muSet_same]; exact hom.new, rfl, .nil _⟩⟩ (by simp [C.ids]) (noView_spec hnv)
 refine behind_val hb (hom.step fun _ => .blk s.nid).none_mine (fun b hb => muSet_other μ _ (by omega)) (by show s.nid ≤ s.nid + 1; omega) hs2 hd ⟨?_, ?_, by simp, by simp⟩
 ·simp only [RepV, RepC, muSet_same]
 ·intro b hb
  simp only [V.ids, C.ids, List.mem_singleton] at hb
  subst hb
  show s.nid < s.nid + 1
  omega
theorem op_sound {call : Call} (hcall : CallsOK P call) (hP : ProgOK P) (hs : Sim K μ s a w) {o : Oper} {r : ORes} {ft : Foot} (h : evOp P call s.nid o s = some (r, ft))
  (hd : ∀ t, o.dst = some t → t < a.tmps.size) {next : Act → World → Prop} {Q : Exit → Act → World → Prop} (hb : Behind P K μ s a w o r next Q) : o.wp P a w next Q := by
 have quiet : ∀ {V : V} {nb : Option (List C)}, evR P s.nid o s.tmps s.heap = some (V, nb) →
   (nb.isSome = true → noView s.nid s.tmps = true) → r = .val V (addNb nb s) → o.wp P a w next Q := by
  intro V nb h1 hnv h2
  subst h2
  exact op_quiet hs hd h1 hnv hb
 cases ho : o.op with
 | assign x =>
  obtain ⟨V, s', rfl, hdn⟩ := done_assign hs ho h
  exact op_doneS hd hdn hb
 | store t x y =>
  obtain ⟨s', K', w', rfl, hrun, hst, hs', hnid, _⟩ := op_store hs ho h
  simp only [Oper.wp, hrun, Oper.upon_skip]
  exact behind_val hb hst (fun _ _ => rfl) (by omega) hs' hd good_undef
 | defer c =>
  simp only [evOp, ho] at h
  split at h
  ·rename_i f hf hargs
   split at h
   ·rename_i g caps hx
    simp only [Option.some.injEq, Prod.mk.injEq] at h
    obtain ⟨rfl, rfl⟩ := h
    have hxr := ev_rep hs hx
    have hxi := ev_ids hs hx
    simp only [RepV, RepC] at hxr
    have hargs' : c.args = #[] := by apply Array.ext'; simpa using hargs
    have hrun : (execOp a.eval o).run P w = .ok (.defer (defOf μ (g, caps))) w := by
     simp [execOp, ho, resolve, hf, hargs', Deferred.ofValue, hxr, defOf]
    simp only [Oper.wp, hrun, Oper.upon_defer]
    have hs' : Sim K μ { s with defers := (g, caps) :: s.defers } { a with defers := defOf μ (g, caps) :: a.defers } w := by
     refine ⟨hs.tm, hs.tids, hs.own, ?_, hs.heap, hs.bound, by simp [hs.defs], ?_, hs.glob⟩
     ·intro t l sz xs ht
      have := hs.view t l sz xs ht
      cases l <;> exact this
     ·intro x hx b hb'
      rcases List.mem_cons.1 hx with rfl | hx
      ·exact hxi b (by simpa [V.ids, C.ids] using hb')
      ·exact hs.dids x hx b hb'
    refine hb.val _ _ K μ _ w rfl (After.refl _ _ _ _) (Nat.le_refl _) ?_ (by rw [put_size])
    exact hs'.put (dst := o.dst) hd good_undef
   ·simp at h
  ·simp at h
 | mapUpdate t m k v =>
  obtain ⟨s', K', w', rfl, hrun, hst, hs', hnid, _⟩ := op_mapUpdate hs (.inl ho) h
  simp only [Oper.wp, hrun, Oper.upon_skip]
  exact behind_val hb hst (fun _ _ => rfl) (by omega) hs' hd good_undef
 | insert t m k v =>
  obtain ⟨s', K', w', rfl, hrun, hst, hs', hnid, _⟩ := op_mapUpdate hs (.inr ho) h
  simp only [Oper.wp, hrun, Oper.upon_skip]
  exact behind_val hb hst (fun _ _ => rfl) (by omega) hs' hd good_undef
 | makeMap t res =>
  cases res with
  | none =>
   simp only [evOp, ho] at h
   split at h
   ·rename_i hnv
    simp only [Option.some.injEq, Prod.mk.injEq] at h
    obtain ⟨rfl, rfl⟩ := h
    exact op_makeMap ho hs hd hnv hb
   ·simp at h
  | some x => simp [evOp, ho, evR] at h
 | panic x =>
  simp only [evOp, ho] at h
  split at h
  ·rename_i t d hx
   simp only [Option.some.injEq, Prod.mk.injEq] at h
   obtain ⟨rfl, rfl⟩ := h
   rw [Option.bind_eq_some_iff] at hx
   obtain ⟨vx, hvx, hdx⟩ := hx
   have hr := V.toD_rep hdx (ev_rep hs hvx)
   have hr' := hr
   simp only [Rep] at hr
   obtain ⟨u, hu, _⟩ := hr
   have hrun : (execOp a.eval o).run P w = .halt (.panic (a.eval x)) w := by
    simp [execOp, ho, hu, Instr.panic]
   simp only [Oper.wp, hrun, Oper.upon_panic]
   exact hb.pan _ _ K μ w _ rfl (After.refl _ _ _ _) (Nat.le_refl _) hs hr'
  ·simp at h
 | call c =>
  simp only [evOp, ho] at h
  split at h
  ·rename_i hc
   split at h
   ·rename_i x y t u hargs hty
    split at h
    ·rename_i V s' hap
     simp only [Option.some.injEq, Prod.mk.injEq] at h
     obtain ⟨rfl, rfl⟩ := h
     exact op_doneS hd (op_append hs ho hc hargs hty hap) hb
    ·simp at h
   ·simp at h
  ·split at h
   ·rename_i V hev
    simp only [Option.some.injEq, Prod.mk.injEq] at h
    obtain ⟨rfl, rfl⟩ := h
    exact quiet hev (by simp) rfl
   ·simp at h
  ·rename_i f hc
   split at h
   ·rename_i g caps args hf hargs
    split at h
    ·rename_i r' ids hdc
     simp only [Option.some.injEq, Prod.mk.injEq] at h
     obtain ⟨rfl, rfl⟩ := h
     have hfr := ev_rep hs hf
     simp only [RepV, RepC] at hfr
     have hargr : RepCs K μ w args (c.args.toList.map a.eval) := argsT_rep hs hargs
     have happ : RepCs K μ w (args ++ caps.map fun b => .ptr b 0) (c.args.toList.map a.eval ++ caps.map fun b => Value.pointer (some (ad (μ b) 0))) := by
      have aux : ∀ {x y : List C} {p q : List Value}, RepCs K μ w x p → RepCs K μ w y q → RepCs K μ w (x ++ y) (p ++ q) := by
       intro x y p q h1 h2
       induction h1 with
       | nil => exact h2
       | cons q1 _ ih => exact .cons q1 ih
      refine aux hargr ?_
      exact repCaps caps
     have hcal := doCall_sound hcall hdc hs happ
     have hrun : (execOp a.eval o).run P w = .ok (.enter g ((c.args.toList.map a.eval ++ caps.map fun b => Value.pointer (some (ad (μ b) 0))).toArray)) w := by
      have he := callFunc_run hP (doCall_callee hcall hdc) (c.args.map a.eval ++ (caps.map fun b => Value.pointer (some (ad (μ b) 0))).toArray) w
      have e2 : (c.args.toList.map a.eval ++ caps.map fun b => Value.pointer (some (ad (μ b) 0))).toArray = c.args.map a.eval ++ (caps.map fun b => Value.pointer (some (ad (μ b) 0))).toArray := by
       apply Array.ext'; simp
      rw [e2]
      simp [execOp, ho, resolve, hc, Deferred.ofValue, hfr, invoke, he]
     simp only [Oper.wp, hrun, Oper.upon_enter]
     refine hcal.mono ?_
     rintro e w' ⟨K', μ', haf, hres⟩
     cases r' with
     | val v s' =>
      obtain ⟨h1, h2, h3, h4, _, u, rfl, h6⟩ := hres
      exact behind_val hb haf.step haf.mu h2 h1 hd ⟨h6, h4, fun sz xs e => absurd e (h3.1 sz xs), fun l sz xs e => absurd e (h3.2 l sz xs)⟩
     | pan d s' =>
      obtain ⟨h1, h2, _, u, rfl, h6⟩ := hres
      exact hb.pan d s' K' μ' w' u rfl haf h2 h1 h6
    ·simp at h
   ·simp at h
  ·simp at h
 | _ =>
  simp only [evOp, ho] at h
  split at h
  ·rename_i V hev
   simp only [Option.some.injEq, Prod.mk.injEq] at h
   obtain ⟨rfl, rfl⟩ := h
   exact quiet hev (by simp) rfl
  ·rename_i V cs hev
   split at h
   ·rename_i hnv
    simp only [Option.some.injEq, Prod.mk.injEq] at h
    obtain ⟨rfl, rfl⟩ := h
    exact quiet hev (fun _ => hnv) rfl
   ·simp at h
  ·simp at h
end
end Go.AM

namespace Go.AM
open Go
variable [Globs]
section
variable {P : Program} {K K' : Col} {μ μ' : Nat → Nat} {w w' : World} {s : St} {a : Act}
def Out (K : Col) (w : World) : AX → Exit → Prop
 | .normal, e => e = .normal
 | .exit id, e => e = .exit id
 | .ret, e => e = .ret
 | .pan d, e => ∃ u, e = .panic [⟨u, false, false⟩] ∧ Rep K w d u
def Goal (K : Col) (μ : Nat → Nat) (w : World) (n : Nat) (sz : Nat) (x : AX) (s' : St) (Q : Exit → Act → World → Prop) : Prop :=
 ∀ e K' μ' a' w', Out K' w' x e → After K μ w n K' μ' w' → n ≤ s'.nid → Sim K' μ' s' a' w' → a'.tmps.size = sz → Q e a' w'
theorem Goal.later {n m sz : Nat} {x : AX} {s' : St} {Q : Exit → Act → World → Prop} (h : Goal K μ w n sz x s' Q) (ha : After K μ w n K' μ' w') (hnm : n ≤ m) : Goal K' μ' w' m sz x s' Q :=
 fun e K'' μ'' a'' w'' ho ha' hn hs hsz => h e K'' μ'' a'' w'' ho (ha.trans ha' hnm) (by omega) hs hsz
theorem look_keepT : ∀ {ks : List Nat} {tm : List (Nat × V)} {t : Nat} {v : V}, look t (keepT ks tm) = some v →
  ∃ v', look t tm = some v' ∧ (v = v' ∨ ∃ l sz xs, v' = .view l sz xs ∧ v = .d (.list sz xs))
 | [], tm, t, v, h => by simp [keepT, look] at h
 | k :: ks, tm, t, v, h => by
  simp only [keepT] at h
  split at h
  ·rename_i l sz xs hk
   simp only [look] at h
   split at h
   ·rename_i hkt
    simp only [Option.some.injEq] at h; subst h; subst hkt
    exact ⟨_, hk, .inr ⟨l, sz, xs, rfl, rfl⟩⟩
   ·exact look_keepT h
  ·rename_i v' hno hk
   simp only [look] at h
   split at h
   ·rename_i hkt
    simp only [Option.some.injEq] at h; subst h; subst hkt
    exact ⟨_, hk, .inl rfl⟩
   ·exact look_keepT h
  ·exact look_keepT h
theorem Sim.keep (h : Sim K μ s a w) (ks : List Nat) : Sim K μ { s with tmps := keepT ks s.tmps } a w :=
 h.weaken fun _ _ ht => look_keepT ht
theorem look_filter {n b : Nat} : ∀ {hp : List (Nat × List C)} {cells : List C}, look b (hp.filter (·.1 < n)) = some cells → look b hp = some cells ∧ b < n
 | [], cells, h => by simp [look] at h
 | (j, c) :: r, cells, h => by
  by_cases hj : j < n
  ·simp only [List.filter_cons, hj, decide_true, if_true, look] at h ⊢
   split at h
   ·rename_i e; subst e
    simp only [if_true]; exact ⟨h, hj⟩
   ·rename_i e
    rw [if_neg e]; exact look_filter h
  ·simp only [List.filter_cons, hj, decide_false, Bool.false_eq_true, if_false] at h
   obtain ⟨h1, h2⟩ := look_filter h
   refine ⟨?_, h2⟩
   simp only [look]
   rw [if_neg (by omega)]; exact h1
theorem mem_of_look {α : Type} {k : Nat} {v : α} : ∀ {l : List (Nat × α)}, look k l = some v → (k, v) ∈ l
 | [], h => by simp [look] at h
 | (j, u) :: r, h => by
  simp only [look] at h
  split at h
  ·rename_i e; subst e; simp only [Option.some.injEq] at h; subst h; simp
  ·exact List.mem_cons_of_mem _ (mem_of_look h)
theorem C.below_ids {n : Nat} {c : C} (h : c.below n = true) : ∀ b ∈ c.ids, b < n := by
 simp only [C.below, List.all_eq_true, decide_eq_true_eq] at h
 exact h
theorem V.below_ids {n : Nat} {v : V} (h : v.below n = true) : ∀ b ∈ v.ids, b < n := by
 cases v with
 | c x => exact C.below_ids h
 | vagg cs =>
  simp only [V.below, List.all_eq_true] at h
  intro b hb
  simp only [V.ids, List.mem_flatMap] at hb
  obtain ⟨c, hc, hb⟩ := hb
  exact C.below_ids (h c hc) b hb
 | tuple cs =>
  simp only [V.below, List.all_eq_true] at h
  intro b hb
  simp only [V.ids, List.mem_flatMap] at hb
  obtain ⟨c, hc, hb⟩ := hb
  exact C.below_ids (h c hc) b hb
 | view l sz xs => simp [V.ids]
 | rptr cs => simp [V.ids]
theorem Sim.plainCellH (h : Sim K μ s a w) (b off : Nat) : Sim K μ { s with heap := AM.plainCellH b off s.heap } a w := by
 unfold AM.plainCellH
 split
 ·rename_i cells hb
  split
  ·rename_i sz xs hc
   have hm : mapOf cells = none := by
    cases hq : mapOf cells with
    | none => rfl
    | some kvs =>
     have := mapOf_some hq
     subst this
     cases off <;> simp at hc
   obtain ⟨v, hv, _, _, hr, _⟩ := (h.heap b cells hb).2.2.cells hm off _ (by rw [flatC_own' hc]; exact hc) (by simp)
   exact h.plainCell hb hm (flatC_own' hc) (by rw [hc]; simp) v hv hr
  ·exact h
 ·exact h
theorem Sim.demT : ∀ (ks : List Nat) {s : St}, Sim K μ s a w → Sim K μ { s with tmps := AM.demT ks s.tmps } a w
 | [], _, h => h
 | k :: r, s, h => by
  simp only [AM.demT]
  split
  ·exact Sim.demT r (h.plainAt (k - 5000000))
  ·exact Sim.demT r h
theorem Sim.demH : ∀ (ks : List Nat) {s : St}, Sim K μ s a w → Sim K μ { s with heap := AM.demH ks s.heap } a w
 | [], _, h => h
 | k :: r, s, h => by
  simp only [AM.demH]
  split
  ·exact Sim.demH r (h.plainCellH _ _)
  ·exact Sim.demH r h
theorem Sim.clean (h : Sim K μ s a w) {ks : List Nat} {n : Nat} {s' : St} (hc : cleanAt ks n s = some s') : Sim K μ s' a w ∧ s'.nid = n ∧ s'.defers = s.defers := by
 unfold cleanAt at hc
 simp only at hc
 split at hc
 ·rename_i hall
  simp only [Bool.and_eq_true, List.all_eq_true] at hall
  obtain ⟨⟨h1, h2⟩, h3⟩ := hall
  simp only [Option.some.injEq] at hc; subst hc
  have hd := Sim.demH ks (Sim.demT ks h)
  have hk := hd.keep ks
  refine ⟨⟨hk.tm, ?_, hk.own, ?_, ?_, hk.bound, hk.defs, ?_, hk.glob⟩, rfl, rfl⟩
  ·intro t v ht
   exact V.below_ids (h1 _ (mem_of_look ht))
  ·intro t l sz xs ht
   have := hk.view t l sz xs ht
   cases l with
   | tmp u => exact this
   | cell b off =>
    intro cells z ys hb hcc
    exact this cells z ys (look_filter hb).1 hcc
  ·intro b cells hb
   obtain ⟨hb1, hb2⟩ := look_filter hb
   refine ⟨hb2, ?_, (hd.heap b cells hb1).2.2⟩
   intro c hc
   exact C.below_ids (h2 _ (mem_of_look hb) c hc)
  ·intro x hx b hb
   have := h3 x hx b hb
   simpa using this
 ·simp at hc
theorem allD_map : ∀ ds : List D, allD (ds.map C.d) = some ds
 | [] => rfl
 | d :: ds => by simp only [List.map_cons, allD, C.toD, allD_map ds]
theorem flatD_rep {K' : Col} {g sz : Nat} : ∀ {off : Nat} {ds : List D}, (∀ d ∈ ds, d.cells.length = sz) →
  (∀ i c, (flatD ds)[i]? = some c → ∃ v, w.cell? (ad g (off + i)) = some v ∧ isOne v = true ∧ RepC K' μ w c v) → (∀ i, K' g i = .ro) →
  RepE K' w sz g off ds
 | off, [], _, _, _ => by simp only [RepE]
 | off, d :: ds, hl, hc, hk => by
  have hd := hl d (by simp)
  have ih := flatD_rep (off := off + sz) (ds := ds) (fun d hd => hl d (by simp [hd])) (fun i c hi => by
   rw [show off + sz + i = off + (sz + i) from by omega]
   refine hc _ c ?_
   rw [flatD_cons, List.getElem?_append_right (by simp; omega)]
   simpa [hd] using hi) hk
  have hvs : ∃ vs : List Value, vs.length = sz ∧ RepCs K' μ w (d.cells.map C.d) vs ∧ (∀ x ∈ vs, isOne x = true) ∧ ∀ i v, vs[i]? = some v → w.cell? (ad g (off + i)) = some v := by
   have hc' : ∀ i, i < sz → ∃ c v, (d.cells.map C.d)[i]? = some c ∧ w.cell? (ad g (off + i)) = some v ∧ isOne v = true ∧ RepC K' μ w c v := by
    intro i hi
    have hlt : i < (d.cells.map C.d).length := by simp; omega
    obtain ⟨v, h1, h2, h3⟩ := hc i (d.cells.map C.d)[i] (by rw [flatD_cons, List.getElem?_append_left hlt, List.getElem?_eq_getElem hlt])
    exact ⟨_, v, List.getElem?_eq_getElem hlt, h1, h2, h3⟩
   have hget : ∀ i, i < sz → ((List.range sz).map fun i => (w.cell? (ad g (off + i))).getD Go.undef)[i]? = some ((w.cell? (ad g (off + i))).getD Go.undef) := fun i hi => by
    simp [List.getElem?_map, List.getElem?_range hi]
   have hlt : ∀ i v, ((List.range sz).map fun i => (w.cell? (ad g (off + i))).getD Go.undef)[i]? = some v → i < sz := fun i v hv => by
    have := (List.getElem?_eq_some_iff.1 hv).1; simpa using this
   refine ⟨(List.range sz).map fun i => (w.cell? (ad g (off + i))).getD Go.undef, by simp, ?_, ?_, ?_⟩
   ·refine RepCs.of_get (by simp [hd]) fun i c v hi hv => ?_
    have hisz := hlt i v hv
    obtain ⟨c', v', h1, h2, _, h4⟩ := hc' i hisz
    rw [hi, Option.some.injEq] at h1; subst h1
    rw [hget i hisz, h2, Option.getD_some, Option.some.injEq] at hv
    subst hv; exact h4
   ·intro x hx
    obtain ⟨i, hi⟩ := List.getElem?_of_mem hx
    have hisz := hlt i x hi
    obtain ⟨c', v', h1, h2, h3, h4⟩ := hc' i hisz
    rw [hget i hisz, h2, Option.getD_some, Option.some.injEq] at hi
    subst hi; exact h3
   ·intro i v hv
    have hisz := hlt i v hv
    obtain ⟨c', v', h1, h2, h3, h4⟩ := hc' i hisz
    rw [hget i hisz, h2, Option.getD_some, Option.some.injEq] at hv
    subst hv; exact h2
  obtain ⟨vs, hvl, hrs, hone, hcell⟩ := hvs
  have hL := allD_rep (allD_map d.cells) hrs hone
  simp only [RepE]
  refine ⟨?_, ih⟩
  have mk : ∀ v : Value, Rep K' w d v → v.cells.toList = vs → ∃ v, Rep K' w d v ∧ v.cells.size = sz ∧ CellsAt K' w g off v.cells.toList := by
   intro v h1 h2
   refine ⟨v, h1, by rw [← Array.length_toList, h2]; exact hvl, ?_⟩
   rw [h2]
   intro i u hu
   exact ⟨hk _, hcell i u hu⟩
  cases d with
  | agg cs =>
   exact mk (.agg vs.toArray) (by simp only [Rep]; exact ⟨vs, rfl, hL⟩) (by simp [Value.cells])
  | _ =>
   simp only [D.cells, RepL] at hL
   obtain ⟨v, r, rfl, ho, hr, rfl⟩ := hL
   exact mk v hr (by rw [cells_of_one ho])
theorem look_filter_ne {b j : Nat} {hp : List (Nat × List C)} {cells : List C} : look j (hp.filter (·.1 != b)) = some cells → look j hp = some cells ∧ j ≠ b := by
 induction hp with
 | nil => intro h; simp [look] at h
 | cons x r ih =>
  obtain ⟨i, c⟩ := x
  intro h
  by_cases hi : i = b
  ·subst hi
   simp only [List.filter_cons, bne_self_eq_false, Bool.false_eq_true, if_false] at h
   obtain ⟨h1, h2⟩ := ih h
   refine ⟨?_, h2⟩
   simp only [look]
   rw [if_neg (fun e => h2 e.symm)]; exact h1
  ·have : (i != b) = true := by simpa using hi
   simp only [List.filter_cons, this, if_true, look] at h ⊢
   split at h
   ·rename_i e; subst e
    simp only [if_true]; exact ⟨h, hi⟩
   ·rename_i e
    rw [if_neg e]; exact ih h
theorem Sim.heapFilter (h : Sim K μ s a w) (b : Nat) : Sim K μ { s with heap := s.heap.filter (·.1 != b) } a w := by
 refine ⟨h.tm, h.tids, h.own, ?_, ?_, h.bound, h.defs, h.dids, h.glob⟩
 ·intro t l sz xs ht
  have := h.view t l sz xs ht
  cases l with
  | tmp u => exact this
  | cell b' off =>
   intro cells z ys hb hcc
   exact this cells z ys (look_filter_ne hb).1 hcc
 ·intro b' cells hb
  exact h.heap b' cells (look_filter_ne hb).1
theorem put_same (a : Act) {t : Nat} (h : t < a.tmps.size) : a.put (some t) (a.tmps.getD t Go.undef) = a := by
 obtain ⟨tmps, df⟩ := a
 simp only [Act.put, Act.mk.injEq, and_true]
 simp only at h
 apply Array.ext
 ·simp
 ·intro i h1 h2
  simp only [Array.getElem_setIfInBounds h2]
  split
  ·rename_i e; subst e; simp [Array.getD, h2]
  ·rfl
theorem frzT_sound (h : Sim K μ s a w) {t : Nat} {s' : St} (e : frzT t s = some s') :
  ∃ K', Step mine K w K' w ∧ s'.nid = s.nid ∧ s'.defers = s.defers ∧ Sim K' μ s' a w := by
 unfold frzT at e
 split at e
 ·rename_i b n sz ht
  split at e
  ·rename_i sz' ds hbl
   split at e
   ·rename_i hc
    obtain ⟨rfl, hlen⟩ := hc
    simp only [Option.some.injEq] at e; subst e
    obtain ⟨hlt, hrv⟩ := h.tm t _ ht
    simp only [RepV, RepC] at hrv
    obtain ⟨hbn, _, hblk⟩ := h.heap b _ hbl
    obtain ⟨htag, hsz, _⟩ := id hblk
    obtain ⟨hcells, hok⟩ := hblk.seq
    let K' : Col := fun blk off => if blk = μ b then .ro else K blk off
    have hst : Step (fun q => q = .blk b) K w K' w := by
     refine ⟨rfl, rfl, rfl, Nat.le_refl _, fun _ _ _ => rfl, fun blk off hl hn => ⟨rfl, rfl, ?_⟩⟩
     show (if blk = μ b then Tag.ro else K blk off) = K blk off
     split
     ·rename_i e; subst e; exact absurd (hblk.tag (by cases off <;> simp)) hn
     ·rfl
    have h1 := (h.heapFilter b).step (K' := K') (w' := w) hst (by simp) (fun b' cells' hb' e => (look_filter_ne hb').2 (by simpa using e)) (fun l _ e => by simp at e) (fun blk off hl => by
     show (if blk = μ b then Tag.ro else K blk off) = .other
     rw [if_neg (by omega)]; exact h.bound blk off hl)
    have hg := flatD_rep (K' := K') (w := w) (μ := μ) (g := μ b) (off := 0) hok.2 (fun i c hi => by
     obtain ⟨v, hv, hv1, _, hv3, _⟩ := hcells i c hi (by obtain ⟨d, rfl⟩ := flatD_ids (List.mem_of_getElem? hi); simp)
     rw [Nat.zero_add]
     exact ⟨v, hv, hv1, hv3.step hst (by simp)⟩) (fun i => by show (if μ b = μ b then Tag.ro else _) = .ro; rw [if_pos rfl])
    have hp := h1.put (dst := some t) (V := .c (.own sz' ds)) (v := a.tmps.getD t Go.undef) (by intro t' e; simp only [Option.some.injEq] at e; subst e; exact hlt) ⟨?_, by simp [V.ids, C.ids], ?_, by simp⟩
    ·rw [put_same a hlt] at hp
     exact ⟨K', hst.mono (by rintro q rfl; simp [mine]), rfl, rfl, hp⟩
    ·rw [hrv]
     simp only [RepV, RepC, Rep]
     exact .inr ⟨μ b, 0, n, by rw [hlen], by omega, hg⟩
    ·rintro sz2 xs' e' t' e2
     rw [hrv]
     exact .inr ⟨μ b, 0, n, n, rfl, Nat.le_refl _, fun j h1 h2 => by simp only [V.c.injEq, C.own.injEq] at e'; obtain ⟨rfl, _⟩ := e'; omega⟩
   ·simp at e
  ·simp at e
 ·simp at e
theorem frz_sound : ∀ {ks : List Nat} {K : Col} {s s' : St}, Sim K μ s a w → frz ks s = some s' → ∃ K', Step mine K w K' w ∧ s'.nid = s.nid ∧ s'.defers = s.defers ∧ Sim K' μ s' a w
 | [], K, s, s', h, e => by
  simp only [frz, Option.some.injEq] at e; subst e
  exact ⟨K, Step.refl _ _ _, rfl, rfl, h⟩
 | k :: r, K, s, s', h, e => by
  simp only [frz] at e
  split at e
  ·split at e
   ·rename_i s1 h1
    obtain ⟨K1, a1, a2, a3, a4⟩ := frzT_sound h h1
    obtain ⟨K2, b1, b2, b3, b4⟩ := frz_sound a4 e
    exact ⟨K2, a1.trans b1, b2.trans a2, b3.trans a3, b4⟩
   ·simp at e
  ·exact frz_sound h e
theorem wanted_eq (hs : Sim K μ s a w) {ops : Array Oper} {o : Oper} {b : Bool} (h : wantedAt ops s.tmps o = some b) : Region.wanted o (yielded ops a.tmps) = b := by
 unfold wantedAt at h
 unfold Region.wanted
 split at h
 ·rename_i hg; simp only [Option.some.injEq] at h; subst h; simp [hg]
 ·rename_i j want hg
  simp only [hg]
  split at h
  ·rename_i q hq
   split at h
   ·rename_i d hd
    have key : ∀ {v : V}, look d s.tmps = some v → a.tmps[d]? = some (a.tmps.getD d Go.undef) := by
     intro v hv
     have := (hs.tm d v hv).1
     simp [Array.getD, this]
    split at h
    ·rename_i b' hl
     simp only [Option.some.injEq] at h; subst h
     have hr := (hs.tm d _ hl).2
     simp only [RepV, RepC, Rep] at hr
     simp only [yielded, hq, Option.bind_some, hd, key hl, hr]
     simp
    ·rename_i hl
     simp only [Option.some.injEq] at h; subst h
     have hr := (hs.tm d _ hl).2
     simp only [RepV, RepC] at hr
     have hk : a.tmps[d]? = some Go.undef := by rw [key hl, hr]
     simp only [yielded, hq, Option.bind_some, hd, hk]
     rfl
    ·simp at h
   ·simp at h
  ·simp at h
theorem evOps_sound {call : Call} (hcall : CallsOK P call) (hP : ProgOK P) {ops : Array Oper} {sz : Nat} (hd : ∀ o ∈ ops.toList, ∀ t, o.dst = some t → t < sz) {x : AX} {s' : St} {fs' : List Foot}
  {Q : Exit → Act → World → Prop} : ∀ (l : List Oper) (i : Nat) (K : Col) (μ : Nat → Nat) (s : St) (a : Act) (w : World) (fs : List Foot), ops.toList.drop i = l → evOps P call ops l s fs = some (x, s', fs') →
   Sim K μ s a w → a.tmps.size = sz → Goal K μ w s.nid sz x s' Q → wpOps P ops Q (List.range' i l.length) a w
 | [], i, K, μ, s, a, w, fs, _, h, hs, hsz, hg => by
  simp only [evOps, Option.some.injEq, Prod.mk.injEq] at h
  obtain ⟨rfl, rfl, rfl⟩ := h
  exact hg .normal K μ a w rfl (After.refl _ _ _ _) (Nat.le_refl _) hs hsz
 | o :: l, i, K, μ, s, a, w, fs, hl, h, hs, hsz, hg => by
  have hoi : ops[i]? = some o := by
   have : (ops.toList.drop i)[0]? = some o := by rw [hl]; rfl
   rw [get_drop] at this
   simpa using this
  have hl' : ops.toList.drop (i + 1) = l := by
   rw [← List.drop_drop, hl]; rfl
  have hom : o ∈ ops.toList := by
   have : o ∈ ops.toList.drop i := by rw [hl]; simp
   exact List.mem_of_mem_drop this
  have hdo : ∀ t, o.dst = some t → t < a.tmps.size := by rw [hsz]; exact hd o hom
  simp only [List.length_cons, List.range'_succ, wpOps, hoi]
  simp only [evOps] at h
  split at h
  ·simp at h
  ·rename_i hw
   rw [wanted_eq hs hw]
   simp only [Bool.false_eq_true, if_false]
   have hs' := hs.put (dst := o.dst) (V := .c .undef) (v := Go.undef) hdo good_undef
   have hn : (putDst o (.c .undef) s).nid = s.nid := by unfold putDst putSt; cases o.dst <;> rfl
   exact evOps_sound hcall hP hd l (i + 1) K μ _ _ w _ hl' h hs' (by rw [put_size]; exact hsz) (by rw [hn]; exact hg)
  ·rename_i hw
   rw [wanted_eq hs hw]
   simp only [if_true]
   split at h
   ·simp at h
   ·rename_i d s1 f hop
    simp only [Option.some.injEq, Prod.mk.injEq] at h
    obtain ⟨rfl, rfl, rfl⟩ := h
    refine .inl (op_sound hcall hP hs hop hdo ⟨by simp, ?_⟩)
    intro d' s'' K' μ' w' u e haf hn hs' hr
    simp only [ORes.pan.injEq] at e
    obtain ⟨rfl, rfl⟩ := e
    exact hg _ K' μ' a w' ⟨u, rfl, hr⟩ haf hn hs' hsz
   ·rename_i v s1 f hop
    refine .inl (op_sound hcall hP hs hop hdo ⟨?_, by simp⟩)
    intro V s'' K' μ' a' w' e haf hn hs' hsz'
    simp only [ORes.val.injEq] at e
    obtain ⟨rfl, rfl⟩ := e
    have hn' : (putDst o v s1).nid = s1.nid := by unfold putDst putSt; cases o.dst <;> rfl
    exact evOps_sound hcall hP hd l (i + 1) K' μ' _ a' w' _ hl' h hs' (by rw [hsz', hsz]) (by rw [hn']; exact hg.later haf hn)
end
end Go.AM

namespace Go.AM
open Go
variable [Globs]
section
variable {P : Program} {K K' : Col} {μ μ' : Nat → Nat} {w w' : World} {s : St} {a : Act}
def colHide (K : Col) (μ : Nat → Nat) (b off : Nat) : Col := fun blk o => if (blk = μ b ∧ o = off) ∨ K blk o = .sp (.cell b off) then .other else K blk o
theorem step_hide {b off : Nat} {w : World} (h : K (μ b) off = .blk b) : Step (fun t => t = .blk b ∨ t = .sp (.cell b off)) K w (colHide K μ b off) w := by
 refine ⟨rfl, rfl, rfl, Nat.le_refl _, fun _ _ _ => rfl, fun blk o _ hn => ⟨rfl, rfl, ?_⟩⟩
 simp only [colHide]
 rw [if_neg]
 rintro (⟨rfl, rfl⟩ | e)
 ·exact hn (.inl h)
 ·exact hn (.inr e)
theorem Sim.hide (h : Sim K μ s a w) {b off sz : Nat} {xs : List D} {cells : List C} (hb : look b s.heap = some cells) (hc : cells[off]? = some (.own sz xs)) :
  ∃ v, w.cell? (ad (μ b) off) = some v ∧ isOne v = true ∧ w.frozen? (ad (μ b) off) = false ∧ Rep K w (.list sz xs) v ∧ Spare K w (.cell b off) sz v ∧ K (μ b) off = .blk b ∧ μ b < w.heap.size ∧
   Sim (colHide K μ b off) μ { s with heap := upd b (cells.set off .hid) s.heap } a w := by
 obtain ⟨k1, k2, kb⟩ := h.heap b cells hb
 have hmo : mapOf cells = none := by
  cases hq : mapOf cells with
  | none => rfl
  | some kvs =>
   have := mapOf_some hq
   subst this
   cases off <;> simp at hc
 have hfl := flatC_own' hc
 have hcr := kb.cells hmo
 rw [hfl] at hcr
 obtain ⟨v, hv, hv1, hv2, hv3, hv4⟩ := hcr off _ hc (by simp)
 have htag := kb.tag (off := off) (by rw [hc]; simp)
 have hst := step_hide (w := w) (off := off) htag
 have hro : ¬ ((Tag.ro = Tag.blk b) ∨ Tag.ro = Tag.sp (.cell b off)) := by simp
 refine ⟨v, hv, hv1, hv2, hv3, hv4 sz xs rfl, htag, kb.2.1, ?_⟩
 refine ⟨?_, h.tids, ?_, ?_, ?_, ?_, h.defs, h.dids, h.glob.step hst hro⟩
 ·intro t V ht
  exact ⟨(h.tm t V ht).1, (h.tm t V ht).2.step hst hro⟩
 ·intro t sz' xs' ht
  exact (h.own t sz' xs' ht).step hst (by simp)
 ·intro t l sz' xs' ht
  have hvw := h.view t l sz' xs' ht
  cases l with
  | tmp u => exact hvw
  | cell b' off' =>
   intro cells' z ys hb' hc'
   by_cases hbb : b' = b
   ·subst hbb
    rw [show (look b' ({ s with heap := upd b' (cells.set off .hid) s.heap } : St).heap) = look b' (upd b' (cells.set off .hid) s.heap) from rfl, look_upd_same, Option.some.injEq] at hb'
    subst hb'
    by_cases ho : off' = off
    ·subst ho
     rw [List.getElem?_set_self'] at hc'
     rw [hc] at hc'
     simp at hc'
    ·rw [List.getElem?_set_ne (by omega)] at hc'
     exact hvw cells z ys hb hc'
   ·rw [show (look b' ({ s with heap := upd b (cells.set off .hid) s.heap } : St).heap) = look b' (upd b (cells.set off .hid) s.heap) from rfl, look_upd_other hbb] at hb'
    exact hvw cells' z ys hb' hc'
 ·intro b' cells' hb'
  by_cases hbb : b' = b
  ·subst hbb
   rw [show (look b' ({ s with heap := upd b' (cells.set off .hid) s.heap } : St).heap) = look b' (upd b' (cells.set off .hid) s.heap) from rfl, look_upd_same, Option.some.injEq] at hb'
   subst hb'
   have hlt : off < cells.length := (List.getElem?_eq_some_iff.1 hc).1
   have hset : ∀ i c, (cells.set off .hid)[i]? = some c → (i = off ∧ c = .hid) ∨ (i ≠ off ∧ cells[i]? = some c) := by
    intro i c hi
    by_cases ho : i = off
    ·subst ho
     rw [List.getElem?_set_self hlt, Option.some.injEq] at hi
     exact .inl ⟨rfl, hi.symm⟩
    ·rw [List.getElem?_set_ne (by omega)] at hi
     exact .inr ⟨ho, hi⟩
   have hcr' : CellsRep (colHide K μ b' off) μ w b' (cells.set off .hid) := by
    intro i c hi hnh
    rcases hset i c hi with ⟨_, rfl⟩ | ⟨ho, hi⟩
    ·exact absurd rfl hnh
    ·obtain ⟨u, hu, hu1, hu2, hu3, hu4⟩ := hcr i c hi hnh
     exact ⟨u, hu, hu1, hu2, hu3.step hst hro, fun z ys e => (hu4 z ys e).step hst (by simp [ho])⟩
   refine ⟨k1, ?_, ?_, kb.2.1, .inl hcr'.blk⟩
   ·intro c hc' i hi
    rcases List.mem_or_eq_of_mem_set hc' with hc' | rfl
    ·exact k2 c hc' i hi
    ·simp [C.ids] at hi
   ·intro o ho
    have hoo : o ≠ off := by
     rintro rfl
     exact ho (by rw [List.getElem?_set_self hlt])
    rw [List.getElem?_set_ne (by omega)] at ho
    have := kb.1 o ho
    simp only [colHide]
    rw [if_neg]
    ·exact this
    ·rintro (⟨_, e⟩ | e)
     ·exact hoo e
     ·rw [this] at e; simp at e
  ·rw [show (look b' ({ s with heap := upd b (cells.set off .hid) s.heap } : St).heap) = look b' (upd b (cells.set off .hid) s.heap) from rfl, look_upd_other hbb] at hb'
   obtain ⟨q1, q2, q3⟩ := h.heap b' cells' hb'
   exact ⟨q1, q2, q3.step hst hro (by simp [hbb]) fun o z ys e => by simp [hbb]⟩
 ·intro blk o hl
  have := h.bound blk o hl
  simp only [colHide]
  split
  ·rfl
  ·exact this
def colShow (K K1 : Col) (μ : Nat → Nat) (w : World) (b off : Nat) : Col := fun blk o => if (blk = μ b ∧ o = off) ∨ (blk < w.heap.size ∧ K blk o = .sp (.cell b off)) then K blk o else K1 blk o
theorem Sim.unhide {K1 : Col} {w1 : World} {s1 : St} {a1 : Act} {b off sz : Nat} {xs : List D} {cells1 : List C} {v : Value} (hst : Step mine (colHide K μ b off) w K1 w1) (hmu : μ' b = μ b) (h : Sim K1 μ' s1 a1 w1)
  (hv : w.cell? (ad (μ b) off) = some v) (hv1 : isOne v = true) (hv2 : w.frozen? (ad (μ b) off) = false) (hv3 : Rep K w (.list sz xs) v) (hv4 : Spare K w (.cell b off) sz v) (htag : K (μ b) off = .blk b) (hlt : μ b < w.heap.size)
  (hb : look b s1.heap = some cells1) (hc : cells1[off]? = some .hid) :
  Step mine K w (colShow K K1 μ w b off) w1 ∧ Step (fun t => t = .other) K1 w1 (colShow K K1 μ w b off) w1 ∧ w1.cell? (ad (μ' b) off) = some v ∧
   Sim (colShow K K1 μ w b off) μ' { s1 with tmps := AM.unview (.cell b off) s1.tmps, heap := upd b (cells1.set off (.own sz xs)) s1.heap } a1 w1 := by
 have hid : colHide K μ b off (μ b) off = .other := by simp [colHide]
 have hcell := hst.cell (μ b) off hlt (by rw [hid]; simp [mine])
 have hsp : ∀ blk o, blk < w.heap.size → K blk o = .sp (.cell b off) → w1.cell? (ad blk o) = w.cell? (ad blk o) ∧ w1.frozen? (ad blk o) = w.frozen? (ad blk o) ∧ K1 blk o = .other := by
  intro blk o hl e
  have hh : colHide K μ b off blk o = .other := by simp [colHide, e]
  have := hst.cell blk o hl (by rw [hh]; simp [mine])
  rw [hh] at this
  exact this
 have hst2 : Step (fun t => t = .other) K1 w1 (colShow K K1 μ w b off) w1 := by
  refine ⟨rfl, rfl, rfl, Nat.le_refl _, fun _ _ _ => rfl, fun blk o _ hn => ⟨rfl, rfl, ?_⟩⟩
  simp only [colShow]
  rw [if_neg]
  rintro (⟨rfl, rfl⟩ | ⟨hl, e⟩)
  ·exact hn (by rw [hcell.2.2, hid])
  ·exact hn (hsp _ _ hl e).2.2
 have hstA : Step mine K w (colShow K K1 μ w b off) w1 := by
  have hkeep : ∀ blk o, ¬ mine (K blk o) → colHide K μ b off blk o = K blk o := by
   intro blk o hn
   simp only [colHide]
   rw [if_neg]
   rintro (⟨rfl, rfl⟩ | e)
   ·exact hn (by rw [htag]; simp [mine])
   ·exact hn (by rw [e]; simp [mine])
  refine ⟨hst.os, hst.tape, hst.output, hst.size, fun blk hl hn => hst.block blk hl fun o => by rw [hkeep blk o (hn o)]; exact hn o, fun blk o hl hn => ?_⟩
  have := hst.cell blk o hl (by rw [hkeep blk o hn]; exact hn)
  refine ⟨this.1, this.2.1, ?_⟩
  simp only [colShow]
  split
  ·rfl
  ·rw [this.2.2, hkeep blk o hn]
 have hw1 : w1.cell? (ad (μ' b) off) = some v := by rw [hmu]; exact hcell.1.trans hv
 have hro : ¬ (Tag.ro = Tag.other) := by simp
 have h2 := h.step hst2 hro (by simp) (by simp) (fun blk o hl => by
  have hsz := hst.size
  simp only [colShow]
  rw [if_neg]
  ·exact h.bound blk o hl
  ·rintro (⟨rfl, _⟩ | ⟨hl2, _⟩) <;> omega)
 obtain ⟨h3, hnv⟩ := h2.unview (.cell b off)
 refine ⟨hstA, hst2, hw1, ?_⟩
 obtain ⟨k1, k2, kb⟩ := h3.heap b cells1 hb
 have hmo : mapOf cells1 = none := by
  cases hq : mapOf cells1 with
  | none => rfl
  | some kvs =>
   have := mapOf_some hq
   subst this
   cases off <;> simp at hc
 have hfl : flatC cells1 = cells1 := by
  refine flatC_other ?_
  rintro z ds rfl
  cases off <;> simp at hc
 have hcr := kb.cells hmo
 rw [hfl] at hcr
 have hoff : off < cells1.length := (List.getElem?_eq_some_iff.1 hc).1
 have hset : ∀ i c, (cells1.set off (.own sz xs))[i]? = some c → (i = off ∧ c = .own sz xs) ∨ (i ≠ off ∧ cells1[i]? = some c) := by
  intro i c hi
  by_cases ho : i = off
  ·subst ho
   rw [List.getElem?_set_self hoff, Option.some.injEq] at hi
   exact .inl ⟨rfl, hi.symm⟩
  ·rw [List.getElem?_set_ne (by omega)] at hi
   exact .inr ⟨ho, hi⟩
 have hrep : Rep (colShow K K1 μ w b off) w1 (.list sz xs) v := Rep.step hstA (by simp [mine]) _ _ hv3
 have hspare : Spare (colShow K K1 μ w b off) w1 (.cell b off) sz v := by
  rcases hv4 with e | ⟨blk, o, len, cap, e1, e2, e3⟩
  ·exact .inl e
  ·refine .inr ⟨blk, o, len, cap, e1, e2, fun j hj hj' => ?_⟩
   obtain ⟨t1, t2, t3⟩ := e3 j hj hj'
   obtain ⟨u, hu⟩ := Option.isSome_iff_exists.1 t2
   obtain ⟨r1, r2, r3⟩ := hsp _ _ (block_lt hu) t1
   refine ⟨?_, by rw [r1]; exact t2, r2.trans t3⟩
   simp only [colShow]
   rw [if_pos (.inr ⟨block_lt hu, t1⟩), t1]
 refine ⟨h3.tm, h3.tids, h3.own, ?_, ?_, h3.bound, h3.defs, h3.dids, h3.glob⟩
 ·intro t l sz' xs' ht
  have hvw := h3.view t l sz' xs' ht
  cases l with
  | tmp u => exact hvw
  | cell b' off' =>
   intro cells' z ys hb' hc'
   by_cases hbb : b' = b
   ·subst hbb
    rw [show (look b' ({ s1 with tmps := AM.unview (.cell b' off) s1.tmps, heap := upd b' (cells1.set off (.own sz xs)) s1.heap } : St).heap) = look b' (upd b' (cells1.set off (.own sz xs)) s1.heap) from rfl, look_upd_same, Option.some.injEq] at hb'
    subst hb'
    rcases hset off' _ hc' with ⟨rfl, _⟩ | ⟨_, hc'⟩
    ·exact absurd ht (hnv t sz' xs')
    ·exact hvw cells1 z ys hb hc'
   ·rw [show (look b' ({ s1 with tmps := AM.unview (.cell b off) s1.tmps, heap := upd b (cells1.set off (.own sz xs)) s1.heap } : St).heap) = look b' (upd b (cells1.set off (.own sz xs)) s1.heap) from rfl, look_upd_other hbb] at hb'
    exact hvw cells' z ys hb' hc'
 ·intro b' cells' hb'
  by_cases hbb : b' = b
  ·subst hbb
   rw [show (look b' ({ s1 with tmps := AM.unview (.cell b' off) s1.tmps, heap := upd b' (cells1.set off (.own sz xs)) s1.heap } : St).heap) = look b' (upd b' (cells1.set off (.own sz xs)) s1.heap) from rfl, look_upd_same, Option.some.injEq] at hb'
   subst hb'
   have hcr' : CellsRep (colShow K K1 μ w b' off) μ' w1 b' (cells1.set off (.own sz xs)) := by
    intro i c hi hnh
    rcases hset i c hi with ⟨rfl, rfl⟩ | ⟨ho, hi⟩
    ·refine ⟨v, hw1, hv1, by rw [hmu]; exact hcell.2.1.trans hv2, hrep, fun z ys e => ?_⟩
     simp only [C.own.injEq] at e
     obtain ⟨rfl, rfl⟩ := e
     exact hspare
    ·exact hcr i c hi hnh
   refine ⟨k1, ?_, ?_, kb.2.1, .inl hcr'.blk⟩
   ·intro c hc' i hi
    rcases List.mem_or_eq_of_mem_set hc' with hc' | rfl
    ·exact k2 c hc' i hi
    ·simp [C.ids] at hi
   ·intro o ho
    by_cases hoo : o = off
    ·subst hoo
     simp only [colShow]
     rw [if_pos (.inl (by simp [hmu])), hmu]; exact htag
    ·rw [List.getElem?_set_ne (by omega)] at ho
     exact kb.1 o ho
  ·rw [show (look b' ({ s1 with tmps := AM.unview (.cell b off) s1.tmps, heap := upd b (cells1.set off (.own sz xs)) s1.heap } : St).heap) = look b' (upd b (cells1.set off (.own sz xs)) s1.heap) from rfl, look_upd_other hbb] at hb'
   exact h3.heap b' cells' hb'
end
end Go.AM

namespace Go.AM
open Go
variable [Globs]
def same (s t : St) : Lc → Prop
 | .tmp x => look x s.tmps = look x t.tmps
 | .blk b => look b s.heap = look b t.heap
 | .nid => s.nid = t.nid
 | .defs => s.defers = t.defers
 | .vb b => ∀ x off sz xs, look x s.tmps = some (.view (.cell b off) sz xs) ↔ look x t.tmps = some (.view (.cell b off) sz xs)
 | .vt u => ∀ x sz xs, look x s.tmps = some (.view (.tmp u) sz xs) ↔ look x t.tmps = some (.view (.tmp u) sz xs)
theorem same.refl (s : St) (l : Lc) : same s s l := by cases l <;> simp [same]
theorem same.symm {s t : St} {l : Lc} (h : same s t l) : same t s l := by
 cases l <;> simp only [same] at h ⊢
 case vb => exact fun x off sz xs => (h x off sz xs).symm
 case vt => exact fun x sz xs => (h x sz xs).symm
 all_goals exact h.symm
theorem same.trans {s t u : St} {l : Lc} (h : same s t l) (k : same t u l) : same s u l := by
 cases l <;> simp only [same] at h k ⊢
 case vb => exact fun x off sz xs => (h x off sz xs).trans (k x off sz xs)
 case vt => exact fun x sz xs => (h x sz xs).trans (k x sz xs)
 all_goals exact h.trans k
theorem Sim.same {K : Col} {μ : Nat → Nat} {w : World} {s t : St} {a : Act} (h : Sim K μ s a w) (hs : ∀ l, same s t l) : Sim K μ t a w := by
 have htm : ∀ x, look x s.tmps = look x t.tmps := fun x => hs (.tmp x)
 have hhp : ∀ b, look b s.heap = look b t.heap := fun b => hs (.blk b)
 have hn : s.nid = t.nid := hs .nid
 have hd : s.defers = t.defers := hs .defs
 refine ⟨?_, ?_, ?_, ?_, ?_, h.bound, by rw [← hd]; exact h.defs, by rw [← hd, ← hn]; exact h.dids, h.glob⟩
 ·intro x V hx; exact h.tm x V (by rw [htm]; exact hx)
 ·intro x V hx; rw [← hn]; exact h.tids x V (by rw [htm]; exact hx)
 ·intro x sz xs hx; exact h.own x sz xs (by rw [htm]; exact hx)
 ·intro x l sz xs hx
  have := h.view x l sz xs (by rw [htm]; exact hx)
  cases l with
  | tmp u => intro z ys hu; exact this z ys (by rw [htm]; exact hu)
  | cell b off => intro cells z ys hb hc; exact this cells z ys (by rw [hhp]; exact hb) hc
 ·intro b cells hb; rw [← hn]; exact h.heap b cells (by rw [hhp]; exact hb)
section
variable {P : Program}
theorem evT_congr {tm tm' : List (Nat × V)} {x : Operand} (h : ev tm x = ev tm' x) (t : TypeId) : evT P t tm x = evT P t tm' x := by
 simp only [evT, h]
theorem buildC_congr {tm tm' : List (Nat × V)} {t : TypeId} : ∀ {ps : List (Nat × Operand)} {cs : List C}, (∀ p ∈ ps, ev tm p.2 = ev tm' p.2) → buildC P t tm ps cs = buildC P t tm' ps cs
 | [], cs, _ => rfl
 | (i, o) :: r, cs, h => by
  have ih : ∀ cs, buildC P t tm r cs = buildC P t tm' r cs := fun cs => buildC_congr fun p hp => h p (by simp [hp])
  have ho : ev tm o = ev tm' o := h (i, o) (by simp)
  simp only [buildC, evT_congr ho, ih]
theorem elemsC_congr {tm tm' : List (Nat × V)} {e : TypeId} {sz : Nat} : ∀ {ps : List (Nat × Operand)} {n : Nat}, (∀ p ∈ ps, ev tm p.2 = ev tm' p.2) → elemsC P e sz tm n ps = elemsC P e sz tm' n ps
 | [], n, _ => rfl
 | (i, o) :: r, n, h => by
  have ih : elemsC P e sz tm (n + 1) r = elemsC P e sz tm' (n + 1) r := elemsC_congr fun p hp => h p (by simp [hp])
  have ho : ev tm o = ev tm' o := h (i, o) (by simp)
  simp only [elemsC, evT_congr ho, ih]
theorem mapM?_congr {α β : Type} {f g : α → Option β} : ∀ {l : List α}, (∀ x ∈ l, f x = g x) → mapM? f l = mapM? g l
 | [], _ => rfl
 | x :: r, h => by
  have ih : mapM? f r = mapM? g r := mapM?_congr fun y hy => h y (by simp [hy])
  simp only [mapM?, h x (by simp), ih]
theorem optNat_congr {tm tm' : List (Nat × V)} {o : Option Operand} {n : Nat} (h : ∀ x, o = some x → ev tm x = ev tm' x) : optNat tm o n = optNat tm' o n := by
 cases o with
 | none => rfl
 | some x => simp only [optNat]; rw [h x rfl]
theorem evR_congr {o : Oper} {tm tm' : List (Nat × V)} {hp hp' : List (Nat × List C)} {id id' : Nat} (hb : makesBlk o = false) (h : ∀ x ∈ o.op.operands.toList, ev tm x = ev tm' x)
  (hh : ∀ b ∈ readsBlk o tm, look b hp = look b hp') : evR P id o tm hp = evR P id' o tm' hp' := by
 unfold evR
 cases ho : o.op with
 | move x => simp only [evT_congr (P := P) (h x (by simp [ho, Op.operands]))]
 | pick c x y => simp only [h c (by simp [ho, Op.operands]), evT_congr (P := P) (h x (by simp [ho, Op.operands])), evT_congr (P := P) (h y (by simp [ho, Op.operands]))]
 | alloc t => simp [makesBlk, ho] at hb
 | box t x => simp [makesBlk, ho] at hb
 | build t parts =>
  have hb : ∀ cs, buildC P t tm parts.toList cs = buildC P t tm' parts.toList cs := fun cs => buildC_congr fun p hp =>
   h p.2 (by simp only [ho, Op.operands, Array.toList_map, List.mem_map]; exact ⟨p, hp, rfl⟩)
  simp only [hb]
 | buildSlice t len parts =>
  have hfn : fnPs parts.toList = none := by simpa [makesBlk, ho] using hb
  have hb2 : ∀ e n, elemsC P e n tm 0 parts.toList = elemsC P e n tm' 0 parts.toList := fun e n => elemsC_congr fun p hp =>
   h p.2 (by simp only [ho, Op.operands, Array.toList_map, List.mem_map]; exact ⟨p, hp, rfl⟩)
  simp only [hfn, hb2]
 | load t x =>
  simp only
  have hx := h x (by simp [ho, Op.operands])
  simp only [readsBlk, ho] at hh
  rw [← hx]
  split
  ·rename_i b off he
   rw [he] at hh
   have := hh b (by simp)
   simp only [lookC, this]
  ·rfl
  ·rfl
 | nilCheck x => simp only [h x (by simp [ho, Op.operands])]
 | binOp op t x y u => simp only [evT_congr (P := P) (h x (by simp [ho, Op.operands])), evT_congr (P := P) (h y (by simp [ho, Op.operands]))]
 | unOp op t x => simp only [h x (by simp [ho, Op.operands])]
 | convert src dst x => simp only [evT_congr (P := P) (h x (by simp [ho, Op.operands]))]
 | makeInterface t x => simp only [evT_congr (P := P) (h x (by simp [ho, Op.operands]))]
 | makeFunc fn first captured =>
  have hb : mapM? (fun x => match ev tm x with | some (.c (.ptr b 0)) => some b | _ => none) captured.toList = mapM? (fun x => match ev tm' x with | some (.c (.ptr b 0)) => some b | _ => none) captured.toList := by
   refine mapM?_congr fun x hx => ?_
   rw [h x (by simp only [ho, Op.operands, Array.toList_append, List.mem_append]; exact .inr hx)]
  cases fn with
  | func f =>
   simp only
   split
   ·exact congrArg (fun r : Option (List Nat) => (match r with | some ids => some (V.c (.fn f ids), none) | none => none : Option (V × Option (List C)))) hb
   ·rfl
  | _ => rfl
 | makeSlice t l c =>
  have hsame : sameTmp l c = false := by simpa [makesBlk, ho] using hb
  simp only [h l (by simp [ho, Op.operands]), h c (by simp [ho, Op.operands]), hsame, Bool.false_eq_true, if_false]
 | slice t x lo hi mx =>
  have h1 : evT P t tm x = evT P t tm' x := evT_congr (h x (by simp [ho, Op.operands])) t
  have h2 : ∀ n, optNat tm lo n = optNat tm' lo n := fun n => optNat_congr fun y hy => h y (by simp [ho, Op.operands, hy])
  have h3 : ∀ n, optNat tm hi n = optNat tm' hi n := fun n => optNat_congr fun y hy => h y (by simp [ho, Op.operands, hy])
  have h4 : ∀ m, mx = some m → optNat tm (some m) 0 = optNat tm' (some m) 0 := fun m hm => optNat_congr fun y hy => h y (by simp only [Option.some.injEq] at hy; subst hy; simp [ho, Op.operands, hm])
  simp only [h1, h2, h3]
  cases evT P t tm' x with
  | none => rfl
  | some a =>
   simp only
   cases lenV P t a with
   | none => rfl
   | some n =>
    simp only
    cases optNat tm' lo 0 with
    | none => rfl
    | some l =>
     cases optNat tm' hi n with
     | none => rfl
     | some r =>
      cases mx with
      | none => rfl
      | some m => simp only [h4 m rfl]
 | fieldAddr t x i => simp only [h x (by simp [ho, Op.operands])]
 | field t x i => simp only [h x (by simp [ho, Op.operands])]
 | indexAddr t x i => simp only [h x (by simp [ho, Op.operands]), h i (by simp [ho, Op.operands])]
 | index t x i => simp only [h x (by simp [ho, Op.operands]), h i (by simp [ho, Op.operands])]
 | typeAssert x u t ok => simp only [h x (by simp [ho, Op.operands])]
 | lookup t x y ok =>
  simp only
  have hx := h x (by simp [ho, Op.operands])
  have hy := h y (by simp [ho, Op.operands])
  simp only [readsBlk, ho] at hh
  rw [← hx, ← hy]
  split
  ·rename_i kt e b kd _ he _
   rw [he] at hh
   rw [hh b (by simp)]
  ·rfl
  ·rfl
 | extract x i => simp only [h x (by simp [ho, Op.operands])]
 | call c =>
  have ha : ∀ x ∈ c.args.toList, ev tm x = ev tm' x := fun x hx => h x (by simp [ho, Op.operands, Call.operands]; exact .inr (by simpa using hx))
  simp only
  split
  ·split
   ·rename_i x t he _
    rw [ha x (by rw [he]; simp)]
   ·rfl
  ·split
   ·rename_i x y he
    rw [ha x (by rw [he]; simp), ha y (by rw [he]; simp)]
   ·rfl
  ·split
   ·rename_i x y he
    rw [ha x (by rw [he]; simp), ha y (by rw [he]; simp)]
   ·rfl
  ·rfl
 | _ => rfl
end
end Go.AM

namespace Go.AM
open Go
variable [Globs]
section
variable {P : Program} {call : Call} {ops : Array Oper} {vs : List Nat} {S S' t : St} {o : Oper} {id : Nat}
theorem putD_local {dst : Option Nat} {v : V} (h : putD dst v S = some S') (hs : ∀ l ∈ dstLc dst v, same S t l) :
  ∃ t', putD dst v t = some t' ∧ (∀ l, same S t l → same S' t' l) ∧ (∀ l, l ∉ dstLc dst v → same t t' l) := by
 cases dst with
 | none =>
  simp only [putD, Option.some.injEq] at h; subst h
  exact ⟨t, rfl, fun _ h => h, fun l _ => same.refl t l⟩
 | some d =>
  simp only [putD] at h
  split at h
  ·rename_i hf
   simp only [Option.some.injEq] at h; subst h
   have hd : look d S.tmps = look d t.tmps := hs (.tmp d) (by simp [dstLc])
   have hft : freeAt d v t.tmps = true := by
    unfold freeAt at hf ⊢
    simp only [Bool.and_eq_true] at hf ⊢
    refine ⟨by rw [← hd]; exact hf.1, ?_⟩
    cases ho : v.isOwn with
    | false => rfl
    | true =>
     have h2 := hf.2
     simp only [ho, Bool.not_true, Bool.false_or] at h2 ⊢
     have hvt : same S t (.vt d) := hs _ (by
      cases v with
      | c x => cases x <;> simp [V.isOwn] at ho; simp [dstLc]
      | _ => simp [V.isOwn] at ho)
     simp only [List.all_eq_true] at h2 ⊢
     intro x hx
     cases hl : look x.1 t.tmps with
     | none => rfl
     | some u =>
      cases u with
      | view l sz xs =>
       cases l with
       | cell b off => rfl
       | tmp k =>
        by_cases hk : k = d
        ·subst hk
         have hS := (hvt x.1 sz xs).2 hl
         have := h2 _ (mem_of_look hS)
         simp only [hS, beq_self_eq_true, Bool.not_true] at this
         simp at this
        ·simp [hk]
      | _ => rfl
   refine ⟨{ t with tmps := (d, v) :: t.tmps }, by simp only [putD, hft, if_true], ?_, ?_⟩
   ·intro l hl
    cases l with
    | tmp x =>
     simp only [same, look] at hl ⊢
     by_cases hx : d = x <;> simp [hx, hl]
    | vb b =>
     simp only [same, look] at hl ⊢
     intro x off sz xs
     by_cases hx : d = x <;> simp [hx, hl]
    | vt u =>
     simp only [same, look] at hl ⊢
     intro x sz xs
     by_cases hx : d = x <;> simp [hx, hl]
    | _ => exact hl
   ·have hnv : ∀ l sz xs, look d t.tmps ≠ some (.view l sz xs) := by
     intro l sz xs e
     simp [freeAt, e] at hft
    intro l hl
    cases l with
    | tmp x =>
     have hx : d ≠ x := by rintro rfl; simp [dstLc] at hl
     simp [same, look, hx]
    | vb b =>
     simp only [same, look]
     intro x off sz xs
     by_cases hx : d = x
     ·subst hx
      simp only [if_true, Option.some.injEq]
      constructor
      ·intro e; exact absurd e (hnv _ _ _)
      ·intro e; subst e; simp [dstLc] at hl
     ·simp [hx]
    | vt u =>
     simp only [same, look]
     intro x sz xs
     by_cases hx : d = x
     ·subst hx
      simp only [if_true, Option.some.injEq]
      constructor
      ·intro e; exact absurd e (hnv _ _ _)
      ·intro e; subst e; simp [dstLc] at hl
     ·simp [hx]
    | _ => rfl
  ·simp at h
def OpLocal (P : Program) (call : Call) (ops : Array Oper) (vs : List Nat) (id : Nat) (o : Oper) (S t : St) (v : V) (S1 : St) (W : List Lc) : Prop :=
 ∃ t1 f', drawOp P call ops vs id o t = some (.val v t1, f') ∧ (∀ l ∈ W, same S1 t1 l) ∧ (∀ l, l ∉ W → same S S1 l ∧ same t t1 l)
theorem ev_same {x : Operand} (h : ∀ u, x = .tmp u → same S t (.tmp u)) : ev S.tmps x = ev t.tmps x := by
 cases x with
 | tmp u => exact h u rfl
 | const _ => rfl
 | global _ => rfl
 | func _ => rfl
theorem reads_mem {x : Operand} (hx : x ∈ o.op.operands.toList) {u : Nat} (e : x = .tmp u) : u ∈ readsOf ops o := by
 subst e
 unfold readsOf
 refine List.mem_append_left _ (List.mem_filterMap.2 ⟨_, hx, rfl⟩)
theorem ev_reads (h : ∀ u ∈ readsOf ops o, same S t (.tmp u)) {x : Operand} (hx : x ∈ o.op.operands.toList) : ev S.tmps x = ev t.tmps x :=
 ev_same fun _ e => h _ (reads_mem hx e)
theorem evR_none {o : Oper} {tm : List (Nat × V)} {hp : List (Nat × List C)} {id : Nat} {v : V} {cs : List C} (hb : makesBlk o = false) : evR P id o tm hp ≠ some (v, some cs) := by
 intro h
 unfold evR at h
 cases ho : o.op with
 | alloc t => simp [makesBlk, ho] at hb
 | box t x => simp [makesBlk, ho] at hb
 | makeSlice t l c =>
  have hsame : sameTmp l c = false := by simpa [makesBlk, ho] using hb
  simp only [ho, hsame, Bool.false_eq_true, if_false] at h
  repeat' (first | (simp at h; done) | split at h)
 | buildSlice t n ps =>
  have hfn : fnPs ps.toList = none := by simpa [makesBlk, ho] using hb
  simp only [ho, hfn] at h
  repeat' (first | (simp at h; done) | split at h)
 | slice t x lo hi mx =>
  simp only [ho] at h
  split at h <;> try (simp at h; done)
  split at h <;> try (simp at h; done)
  split at h <;> try (simp at h; done)
  split at h <;> try (simp at h; done)
 | _ => simp only [ho] at h <;> repeat' (first | (simp at h; done) | split at h)
theorem local_makes {v : V} {S1 : St} {f : Fp} (hm : makesBlk o = true) (h : drawOp P call ops vs id o S = some (.val v S1, f)) (hr : ∀ u ∈ readsOf ops o, same S t (.tmp u)) (hid : look id t.heap = none) :
  OpLocal P call ops vs id o S t v S1 [.blk id] ∧ f.reads = (readsOf ops o).map .tmp ∧ f.writes = dstLc o.dst v ++ [.blk id] ∧ f.all = false := by
 have he : evR P id o S.tmps S.heap = evR P id o t.tmps t.heap := by
  cases ho : o.op with
  | alloc e => simp only [evR, ho]
  | box e x =>
   have := evT_congr (P := P) (ev_reads hr (x := x) (by simp [ho, Op.operands])) e
   simp only [evR, ho, this]
  | makeSlice e l c =>
   simp only [evR, ho, ev_reads hr (x := l) (by simp [ho, Op.operands]), ev_reads hr (x := c) (by simp [ho, Op.operands])]
  | buildSlice e n ps =>
   cases hfn : fnPs ps.toList with
   | none => simp [makesBlk, ho, hfn] at hm
   | some gs => simp only [evR, ho, hfn]
  | _ => simp [makesBlk, ho] at hm
 simp only [drawOp, hm, if_true, drawNew] at h
 split at h
 ·rename_i v' cs h1
  split at h
  ·split at h
   ·simp at h
   rename_i hni
   simp only [Option.some.injEq, Prod.mk.injEq, ORes.val.injEq] at h
   obtain ⟨⟨rfl, rfl⟩, rfl⟩ := h
   refine ⟨⟨{ t with heap := (id, cs.map C.plain) :: t.heap }, ⟨(readsOf ops o).map .tmp, dstLc o.dst v' ++ [.blk id], [], false⟩, ?_, ?_, ?_⟩, rfl, rfl, rfl⟩
   ·simp only [drawOp, hm, if_true, drawNew]
    rw [← he, h1]; simp only [hid]
    rw [if_neg hni]
   ·intro l hl
    simp only [List.mem_singleton] at hl; subst hl
    simp [same, look]
   ·intro l hl
    cases l with
    | blk b =>
     have hb : id ≠ b := by rintro rfl; simp at hl
     simp [same, look, hb]
    | vb b => exact ⟨fun _ _ _ _ => Iff.rfl, fun _ _ _ _ => Iff.rfl⟩
    | vt b => exact ⟨fun _ _ _ => Iff.rfl, fun _ _ _ => Iff.rfl⟩
    | _ => exact ⟨rfl, rfl⟩
  ·simp at h
 ·simp at h
theorem drawOp_old (hm : makesBlk o = false) (s : St) : drawOp P call ops vs id o s = drawOld P call ops vs o s := by simp [drawOp, hm]
omit [Globs] in
theorem afterApp_id (h : appX o = []) (s : St) : afterApp o s = s := by
 unfold afterApp; rw [h]; rfl
omit [Globs] in
theorem appX_kind (hk : ∀ f, kindOf o f = .light) : appX o = [] := by
 unfold appX
 cases ho : o.op with
 | call c =>
  cases hc : c.callee with
  | builtin b =>
   cases b with
   | append =>
    have := hk Foot.none
    simp [kindOf, ho, hc, Foot.none] at this
   | _ => simp [hc]
  | _ => simp [hc]
 | _ => rfl
def evLight (P : Program) (id : Nat) (o : Oper) (s : St) : Option (ORes × List Nat) :=
 match evR P id o s.tmps s.heap with
 | some (v, none) => some (.val v s, readsBlk o s.tmps)
 | _ => none
theorem local_light {v : V} {S1 : St} {f : Fp} (hm : makesBlk o = false) (hev : ∀ s, evOp P call s.nid o s = match evLight P s.nid o s with
   | some (r, l) => some (r, ⟨l, [], []⟩)
   | none => none) (h : drawOp P call ops vs id o S = some (.val v S1, f)) (hk : ∀ f, kindOf o f = .light)
  (hr : ∀ l ∈ f.reads, same S t l) :
  OpLocal P call ops vs id o S t v S1 [] ∧ f.writes = dstLc o.dst v ∧ f.all = false := by
 have haf := afterApp_id (appX_kind hk)
 rw [drawOp_old hm] at h
 simp only [drawOld, hev, evLight] at h
 cases h1 : evR P S.nid o S.tmps S.heap with
 | none => simp [h1] at h
 | some r =>
  obtain ⟨v1, nb⟩ := r
  cases nb with
  | some cs => exact absurd h1 (evR_none hm)
  | none =>
   simp only [h1, haf, Option.some.injEq, Prod.mk.injEq, ORes.val.injEq] at h
   obtain ⟨⟨rfl, rfl⟩, rfl⟩ := h
   simp only [fpOf, hk] at hr ⊢
   have hrt : ∀ u ∈ readsOf ops o, same S t (.tmp u) := fun u hu => hr _ (List.mem_append_left _ (List.mem_map.2 ⟨u, hu, rfl⟩))
   have hrb : ∀ b ∈ readsBlk o S.tmps, look b S.heap = look b t.heap := fun b hb => hr (.blk b) (List.mem_append_right _ (List.mem_map.2 ⟨b, hb, rfl⟩))
   have he := evR_congr (P := P) (id := S.nid) (id' := t.nid) hm (fun x hx => ev_reads hrt hx) hrb
   refine ⟨⟨t, fpOf ops o t (calmAt vs o.dst v1) t ⟨readsBlk o t.tmps, [], []⟩, ?_, by simp, fun l _ => ⟨same.refl _ _, same.refl _ _⟩⟩, by first | rfl | trivial, by first | rfl | trivial⟩
   rw [drawOp_old hm]
   simp only [drawOld, hev, evLight, ← he, h1, haf]
theorem local_assign {v : V} {S1 : St} {f : Fp} {x : Operand} (ho : o.op = .assign x) (h : drawOp P call ops vs id o S = some (.val v S1, f)) (hall : f.all = false)
  (hr : ∀ l ∈ f.reads, same S t l) (hwt : ∀ l ∈ f.writes, same S t l) :
  ∃ W, OpLocal P call ops vs id o S t v S1 W ∧ f.writes = dstLc o.dst v ++ W := by
 have hm : makesBlk o = false := by simp [makesBlk, ho]
 have haf : ∀ s, afterApp o s = s := afterApp_id (by simp [appX, ho])
 rw [drawOp_old hm] at h
 simp only [drawOld, evOp, ho, haf] at h
 have hxe : (∀ u ∈ readsOf ops o, same S t (.tmp u)) → evT P o.type S.tmps x = evT P o.type t.tmps x := fun h => evT_congr (ev_reads (o := o) (ops := ops) h (by simp [ho, Op.operands])) _
 have key : ∀ {v0 : V}, (evT P o.type S.tmps x = some v0) → (∀ sz xs, v0 ≠ .c (.own sz xs)) → (∀ n, v0 ≠ .c (.nilsl n)) → (∀ n xs, v0 ≠ .c (.full n xs)) →
   (calmAt vs o.dst v0.calm = v ∧ S = S1 ∧ fpOf ops o S (calmAt vs o.dst v0.calm) S Foot.none = f) → OpLocal P call ops vs id o S t v S1 [] ∧ f.writes = dstLc o.dst v := by
  rintro v0 hx hno hnn hnf ⟨rfl, rfl, rfl⟩
  have hk : kindOf o Foot.none = .still := by simp [kindOf, ho, Foot.none]
  simp only [fpOf, hk] at hr ⊢
  have hxt := hxe (fun u hu => hr _ (List.mem_append_left _ (List.mem_map.2 ⟨u, hu, rfl⟩)))
  refine ⟨⟨t, fpOf ops o t (calmAt vs o.dst v0.calm) t Foot.none, ?_, by simp, fun l _ => ⟨same.refl _ _, same.refl _ _⟩⟩, by simp [Foot.none]⟩
  rw [drawOp_old hm]
  simp only [drawOld, evOp, ho, haf, ← hxt, hx]
  cases v0 with
  | view l sz xs => rfl
  | c y => cases y <;> first | rfl | exact absurd rfl (hno _ _) | exact absurd rfl (hnn _) | exact absurd rfl (hnf _ _)
  | _ => rfl
 have keyn : ∀ {n : Nat}, (evT P o.type S.tmps x = some (.c (.nilsl n))) →
   (calmAt vs o.dst (.c (.own n [])) = v ∧ S = S1 ∧ fpOf ops o S (calmAt vs o.dst (.c (.own n []))) S Foot.none = f) → OpLocal P call ops vs id o S t v S1 [] ∧ f.writes = dstLc o.dst v := by
  rintro n hx ⟨rfl, rfl, rfl⟩
  have hk : kindOf o Foot.none = .still := by simp [kindOf, ho, Foot.none]
  simp only [fpOf, hk] at hr ⊢
  have hxt := hxe (fun u hu => hr _ (List.mem_append_left _ (List.mem_map.2 ⟨u, hu, rfl⟩)))
  refine ⟨⟨t, fpOf ops o t (calmAt vs o.dst (.c (.own n []))) t Foot.none, ?_, by simp, fun l _ => ⟨same.refl _ _, same.refl _ _⟩⟩, by simp [Foot.none]⟩
  rw [drawOp_old hm]
  simp only [drawOld, evOp, ho, haf, ← hxt, hx]
 have keyf : ∀ {n : Nat} {ys : List D}, (evT P o.type S.tmps x = some (.c (.full n ys))) →
   (calmAt vs o.dst (.c (.own n ys)) = v ∧ S = S1 ∧ fpOf ops o S (calmAt vs o.dst (.c (.own n ys))) S Foot.none = f) → OpLocal P call ops vs id o S t v S1 [] ∧ f.writes = dstLc o.dst v := by
  rintro n ys hx ⟨rfl, rfl, rfl⟩
  have hk : kindOf o Foot.none = .still := by simp [kindOf, ho, Foot.none]
  simp only [fpOf, hk] at hr ⊢
  have hxt := hxe (fun u hu => hr _ (List.mem_append_left _ (List.mem_map.2 ⟨u, hu, rfl⟩)))
  refine ⟨⟨t, fpOf ops o t (calmAt vs o.dst (.c (.own n ys))) t Foot.none, ?_, by simp, fun l _ => ⟨same.refl _ _, same.refl _ _⟩⟩, by simp [Foot.none]⟩
  rw [drawOp_old hm]
  simp only [drawOld, evOp, ho, haf, ← hxt, hx]
 have wrap : (OpLocal P call ops vs id o S t v S1 [] ∧ f.writes = dstLc o.dst v) → ∃ W, OpLocal P call ops vs id o S t v S1 W ∧ f.writes = dstLc o.dst v ++ W := fun ⟨h1, h2⟩ => ⟨[], h1, by rw [h2]; simp⟩
 cases hx : evT P o.type S.tmps x with
 | none => simp [hx] at h
 | some v0 =>
  simp only [hx] at h
  cases v0 with
  | view l sz xs =>
   simp only [Option.some.injEq, Prod.mk.injEq, ORes.val.injEq, and_assoc] at h
   exact wrap (key hx (by simp) (by simp) (by simp) h)
  | c y =>
   cases y with
   | own sz xs =>
    cases x with
    | tmp u =>
     simp only [Option.some.injEq, Prod.mk.injEq, ORes.val.injEq] at h
     obtain ⟨⟨rfl, rfl⟩, rfl⟩ := h
     have hk : kindOf o ⟨[], [], [u]⟩ = .app := by simp [kindOf, ho]
     have hax : appX o = [] := by simp [appX, ho]
     simp only [fpOf, hk, hax] at hr hwt ⊢
     have hxt := hxe (fun u hu => hr _ (List.mem_append_left _ (List.mem_map.2 ⟨u, hu, rfl⟩)))
     have hu : look u S.tmps = look u t.tmps := hr (.tmp u) (by simp)
     have hvu : same S t (.vt u) := hwt (.vt u) (by simp)
     have hview : ∀ (tm : List (Nat × V)) (k : Nat) (l : Loc) (z : Nat) (xs : List D), (look k (plainAt u tm) = some (.view l z xs) ↔ look k tm = some (.view l z xs)) := by
      intro tm k l z xs
      rw [look_plainAt]
      cases look k tm with
      | none => simp
      | some q =>
       simp only [Option.map_some, Option.some.injEq]
       split
       ·cases q with
        | c cq => cases cq <;> simp
        | _ => simp
       ·simp
     refine ⟨_, ⟨{ t with tmps := plainAt u t.tmps }, fpOf ops o t (calmAt vs o.dst (.c (.own sz xs))) { t with tmps := plainAt u t.tmps } ⟨[], [], [u]⟩, ?_, ?_, ?_⟩, rfl⟩
     ·rw [drawOp_old hm]
      simp only [drawOld, evOp, ho, haf, ← hxt, hx]
     ·intro l hl
      simp only [List.map_cons, List.map_nil, List.append_nil, List.mem_append, List.mem_singleton] at hl
      rcases hl with rfl | rfl
      ·show look u (plainAt u S.tmps) = look u (plainAt u t.tmps)
       rw [look_plainAt, look_plainAt, hu]
      ·intro k z ys
       exact (hview S.tmps k _ z ys).trans ((hvu k z ys).trans (hview t.tmps k _ z ys).symm)
     ·have hid : ∀ (s : St) (l : Lc), l ≠ .tmp u → same s { s with tmps := plainAt u s.tmps } l := by
       intro s l hl
       cases l with
       | tmp k =>
        have hku : k ≠ u := by rintro rfl; exact hl rfl
        show look k s.tmps = look k (plainAt u s.tmps)
        rw [look_plainAt]
        cases look k s.tmps with
        | none => rfl
        | some q => simp [hku]
       | vb b => intro k off z ys; exact (hview s.tmps k _ z ys).symm
       | vt b => intro k z ys; exact (hview s.tmps k _ z ys).symm
       | _ => rfl
      intro l hl
      have : l ≠ .tmp u := by rintro rfl; simp at hl
      exact ⟨hid S l this, hid t l this⟩
    | _ => simp at h
   | nilsl n =>
    simp only [Option.some.injEq, Prod.mk.injEq, ORes.val.injEq, and_assoc] at h
    exact wrap (keyn hx h)
   | full n ys =>
    simp only [Option.some.injEq, Prod.mk.injEq, ORes.val.injEq, and_assoc] at h
    exact wrap (keyf hx h)
   | _ =>
    simp only [Option.some.injEq, Prod.mk.injEq, ORes.val.injEq, and_assoc] at h
    exact wrap (key hx (by simp) (by simp) (by simp) h)
  | _ =>
   simp only [Option.some.injEq, Prod.mk.injEq, ORes.val.injEq, and_assoc] at h
   exact wrap (key hx (by simp) (by simp) (by simp) h)
end
end Go.AM

namespace Go.AM
open Go
variable [Globs]
section
variable {P : Program} {call : Call} {ops : Array Oper} {vs : List Nat} {S S' t : St} {o : Oper} {id : Nat}
theorem storeCells_at {hp hp' : List (Nat × List C)} {b off : Nat} {ncs : List C} (h : storeCells hp b off ncs = some hp') :
  ∃ nc, hp' = upd b nc hp ∧ ∀ h2, look b hp = look b h2 → storeCells h2 b off ncs = some (upd b nc h2) := by
 unfold storeCells at h
 split at h
 ·rename_i sz ds hb
  simp only [Option.map_eq_some_iff] at h
  obtain ⟨ds', h1, rfl⟩ := h
  refine ⟨_, rfl, fun h2 e => ?_⟩
  rw [hb] at e
  simp only [storeCells, ← e, h1, Option.map_some]
 ·rename_i hns
  split at h
  ·rename_i cells hc
   split at h
   ·rename_i hle
    split at h
    rotate_left
    ·simp at h
    rename_i hnh
    simp only [Option.some.injEq] at h; subst h
    refine ⟨_, rfl, fun h2 e => ?_⟩
    have hc2 : lookC b h2 = some cells := by rw [← hc]; simp only [lookC, e]
    unfold storeCells
    split
    ·rename_i sz ds hb; exact absurd (e.trans hb) (hns sz ds)
    ·simp only [hc2, hle, if_true, hnh]
   ·simp at h
  ·simp at h
theorem local_store {v : V} {S1 : St} {f : Fp} {ty : TypeId} {p x : Operand} (ho : o.op = .store ty p x) (h : drawOp P call ops vs id o S = some (.val v S1, f)) (hall : f.all = false)
  (hr : ∀ l ∈ f.reads ++ f.writes, same S t l) :
  ∃ b, OpLocal P call ops vs id o S t v S1 [.blk b] ∧ f.writes = dstLc o.dst v ++ [.blk b] := by
 have hm : makesBlk o = false := by simp [makesBlk, ho]
 have haf : ∀ s, afterApp o s = s := afterApp_id (by simp [appX, ho])
 rw [drawOp_old hm] at h
 simp only [drawOld, evOp, ho, haf] at h
 have plain : ∀ {b off : Nat} {u : V} {cs : List C} {hp : List (Nat × List C)}, ev S.tmps p = some (.c (.ptr b off)) → evT P ty S.tmps x = some u → (∀ sz xs, u ≠ .c (.own sz xs)) → u.cells = some cs → tsz P ty = some cs.length →
   ∀ ncs : List C, (cs.any C.isNilsl = false ∧ ncs = cs.map C.plain ∨ cs.any C.isNilsl = true ∧ ncs = cs.map C.placed ∧ noView b S.tmps = true) → storeCells S.heap b off ncs = some hp →
   (calmAt vs o.dst (.c .undef) = v ∧ { S with heap := hp } = S1 ∧ fpOf ops o S (calmAt vs o.dst (.c .undef)) { S with heap := hp } ⟨[], [b], []⟩ = f) →
   ∃ b, OpLocal P call ops vs id o S t v S1 [.blk b] ∧ f.writes = dstLc o.dst v ++ [.blk b] := by
  rintro b off u cs hp hp1 hx hno hcs hsz ncs hnc hst ⟨rfl, rfl, rfl⟩
  have hk : kindOf o ⟨[], [b], []⟩ = .still := by simp [kindOf, ho]
  simp only [fpOf, hk] at hr ⊢
  have hrt : ∀ u ∈ readsOf ops o, same S t (.tmp u) := fun u hu => hr _ (List.mem_append_left _ (List.mem_append_left _ (List.mem_map.2 ⟨u, hu, rfl⟩)))
  have hvb : same S t (.vb b) := hr (.vb b) (by simp)
  have hpt : ev S.tmps p = ev t.tmps p := ev_reads (o := o) (ops := ops) hrt (by simp [ho, Op.operands])
  have hxt : evT P ty S.tmps x = evT P ty t.tmps x := evT_congr (ev_reads (o := o) (ops := ops) hrt (by simp [ho, Op.operands])) _
  have hb0 : look b S.heap = look b t.heap := hr (.blk b) (by simp)
  obtain ⟨nc, rfl, hst2⟩ := storeCells_at hst
  have hst' := hst2 t.heap hb0
  refine ⟨b, ⟨{ t with heap := upd b nc t.heap }, fpOf ops o t (calmAt vs o.dst (.c .undef)) { t with heap := upd b nc t.heap } ⟨[], [b], []⟩, ?_, ?_, ?_⟩, by simp⟩
  ·rw [drawOp_old hm]
   simp only [drawOld, evOp, ho, haf, ← hpt, ← hxt, hp1, hx]
   rcases hnc with ⟨hnn, rfl⟩ | ⟨hnn, rfl, hnv⟩
   ·cases u with
    | c y =>
     cases y <;> first
      | exact absurd rfl (hno _ _)
      | simp only [hcs, hsz, if_true, hst', hnn, Bool.false_eq_true, if_false]
    | _ => simp only [hcs, hsz, if_true, hst', hnn, Bool.false_eq_true, if_false]
   ·have hnt : noView b t.tmps = true := noView_of fun x o z zs e => noView_spec hnv x o z zs ((hvb x o z zs).2 e)
    cases u with
    | c y =>
     cases y <;> first
      | exact absurd rfl (hno _ _)
      | simp only [hcs, hsz, if_true, hst', hnn, hnt]
    | _ => simp only [hcs, hsz, if_true, hst', hnn, hnt]
  ·intro l hl
   simp only [List.mem_singleton] at hl; subst hl
   simp [same, look_upd_same]
  ·intro l hl
   cases l with
   | blk b' =>
    have hbb : b ≠ b' := by rintro rfl; simp at hl
    simp [same, look_upd_other (Ne.symm hbb)]
   | vb b => exact ⟨fun _ _ _ _ => Iff.rfl, fun _ _ _ _ => Iff.rfl⟩
   | vt b => exact ⟨fun _ _ _ => Iff.rfl, fun _ _ _ => Iff.rfl⟩
   | _ => exact ⟨rfl, rfl⟩
 cases hp1 : ev S.tmps p with
 | none => simp [hp1] at h
 | some q =>
  cases q with
  | c y =>
   cases y with
   | ptr b off =>
    cases hx : evT P ty S.tmps x with
    | none => simp [hp1, hx] at h
    | some u =>
     simp only [hp1, hx] at h
     by_cases hu : ∃ sz xs, u = .c (.own sz xs)
     ·obtain ⟨sz, xs, rfl⟩ := hu
      simp only at h
      split at h
      ·rename_i v0 s0 f0 h0
       split at h0
       ·split at h0
        ·simp only [Option.some.injEq, Prod.mk.injEq] at h0 h
         obtain ⟨_, rfl⟩ := h0
         obtain ⟨_, rfl⟩ := h
         simp [fpOf, kindOf, ho] at hall
        ·simp at h0
       ·simp at h0
      ·simp at h
      ·simp at h
     ·have hno : ∀ sz xs, u ≠ .c (.own sz xs) := fun sz xs e => hu ⟨sz, xs, e⟩
      have h' : ∃ cs, u.cells = some cs ∧ tsz P ty = some cs.length ∧ ∃ ncs hp, (cs.any C.isNilsl = false ∧ ncs = cs.map C.plain ∨ cs.any C.isNilsl = true ∧ ncs = cs.map C.placed ∧ noView b S.tmps = true) ∧ storeCells S.heap b off ncs = some hp ∧
        (calmAt vs o.dst (.c .undef) = v ∧ { S with heap := hp } = S1 ∧ fpOf ops o S (calmAt vs o.dst (.c .undef)) { S with heap := hp } ⟨[], [b], []⟩ = f) := by
       cases hcs : u.cells with
       | none =>
        exfalso
        cases u with
        | c y => cases y <;> first | exact absurd rfl (hno _ _) | simp [hcs] at h
        | _ => simp [hcs] at h
       | some cs =>
        by_cases hsz : tsz P ty = some cs.length
        ·by_cases hnn : cs.any C.isNilsl = true
         ·cases hst : storeCells S.heap b off (cs.map C.placed) with
          | none =>
           exfalso
           cases u with
           | c y => cases y <;> first | exact absurd rfl (hno _ _) | simp [hcs, hsz, hnn, hst] at h
           | _ => simp [hcs, hsz, hnn, hst] at h
          | some hp =>
           cases hnv : noView b S.tmps with
           | false =>
            exfalso
            cases u with
            | c y => cases y <;> first | exact absurd rfl (hno _ _) | simp [hcs, hsz, hnn, hst, hnv] at h
            | _ => simp [hcs, hsz, hnn, hst, hnv] at h
           | true =>
            refine ⟨cs, rfl, hsz, _, hp, .inr ⟨hnn, rfl, rfl⟩, hst, ?_⟩
            cases u with
            | c y => cases y <;> first | exact absurd rfl (hno _ _) | (simp only [hcs, hsz, hst, hnn, hnv, if_true, Option.some.injEq, Prod.mk.injEq, ORes.val.injEq, and_assoc] at h; exact h)
            | _ => simp only [hcs, hsz, hst, hnn, hnv, if_true, Option.some.injEq, Prod.mk.injEq, ORes.val.injEq, and_assoc] at h; exact h
         simp only [Bool.not_eq_true] at hnn
         cases hst : storeCells S.heap b off (cs.map C.plain) with
         | none =>
          exfalso
          cases u with
          | c y => cases y <;> first | exact absurd rfl (hno _ _) | simp [hcs, hsz, hst, hnn] at h
          | _ => simp [hcs, hsz, hst, hnn] at h
         | some hp =>
          refine ⟨cs, rfl, hsz, _, hp, .inl ⟨hnn, rfl⟩, hst, ?_⟩
          cases u with
          | c y => cases y <;> first | exact absurd rfl (hno _ _) | (simp only [hcs, hsz, hst, hnn, Bool.false_eq_true, if_false, if_true, Option.some.injEq, Prod.mk.injEq, ORes.val.injEq, and_assoc] at h; exact h)
          | _ => simp only [hcs, hsz, hst, hnn, Bool.false_eq_true, if_false, if_true, Option.some.injEq, Prod.mk.injEq, ORes.val.injEq, and_assoc] at h; exact h
        ·exfalso
         cases u with
         | c y => cases y <;> first | exact absurd rfl (hno _ _) | simp [hcs, hsz] at h
         | _ => simp [hcs, hsz] at h
      obtain ⟨cs, h1, h2, ncs, hp, h1', h3, h4⟩ := h'
      exact plain hp1 hx hno h1 h2 ncs h1' h3 h4
   | _ => simp [hp1] at h
  | _ => simp [hp1] at h
end
end Go.AM

namespace Go.AM
open Go
variable [Globs]
theorem reach_same {hp hp' : List (Nat × List C)} : ∀ {n : Nat} {todo seen ids : List Nat}, reach hp n todo seen = some ids → seen.Nodup → (∀ b ∈ ids, look b hp = look b hp') → reach hp' n todo seen = some ids
 | 0, _, _, _, h, _, _ => by simp [reach] at h
 | n + 1, [], seen, ids, h, _, _ => by simpa [reach] using h
 | n + 1, b :: r, seen, ids, h, hn, hs => by
  simp only [reach] at h ⊢
  split at h
  ·rename_i hb
   rw [if_pos hb]; exact reach_same h hn hs
  ·rename_i hb
   rw [if_neg hb]
   split at h
   ·rename_i cells hc
    have hn' : (seen ++ [b]).Nodup := by
     rw [List.nodup_append]
     exact ⟨hn, by simp, by intro x hx y hy; simp at hy; subst hy; intro e; subst e; exact hb hx⟩
    obtain ⟨_, ⟨q, h2⟩, _⟩ := reach_spec h hn'
    rw [← hs b (by rw [h2]; simp), hc]
    exact reach_same h hn' hs
   ·simp at h
theorem look_putBlks_same {b : Nat} : ∀ {ids : List Nat} {cs : List (List C)} {h h' : List (Nat × List C)}, look b h = look b h' → look b (putBlks ids cs h) = look b (putBlks ids cs h')
 | [], _, _, _, e => by simpa [putBlks] using e
 | _ :: _, [], _, _, e => by simpa [putBlks] using e
 | x :: ids, c :: cs, h, h', e => by
  simp only [putBlks]
  refine look_putBlks_same ?_
  by_cases hx : b = x
  ·subst hx; rw [look_upd_same, look_upd_same]
  ·rw [look_upd_other hx, look_upd_other hx, e]
def callW (ids' : List Nat) (S S1 : St) : List Lc :=
 ids'.map .blk ++ ids'.map .vb ++ (viewsIn ids' S.tmps).map .tmp ++ (if S1.nid = S.nid then [] else [.nid])
theorem mem_viewsIn {ids : List Nat} {tm : List (Nat × V)} {x b off sz : Nat} {xs : List D} (h : look x tm = some (.view (.cell b off) sz xs)) (hb : b ∈ ids) : x ∈ viewsIn ids tm := by
 unfold viewsIn
 refine List.mem_map.2 ⟨(x, .view (.cell b off) sz xs), List.mem_filter.2 ⟨mem_of_look h, ?_⟩, rfl⟩
 simp only [h]
 simpa using hb
section
variable {P : Program} {call : Call} {ops : Array Oper} {vs : List Nat} {S t : St} {o : Oper} {id : Nat}
theorem local_put {ids' : List Nat} {lh'' : List (List C)} {k : Nat} {S1 t1 : St} (hS : S1 = { S with tmps := unviewIn ids' S.tmps, heap := putBlks ids' lh'' S.heap, nid := S.nid + k })
  (ht : t1 = { t with tmps := unviewIn ids' t.tmps, heap := putBlks ids' lh'' t.heap, nid := t.nid + k }) (hs : ∀ l ∈ callW ids' S S1, same S t l) :
  (∀ l ∈ callW ids' S S1, same S1 t1 l) ∧ (∀ l, l ∉ callW ids' S S1 → same S S1 l ∧ same t t1 l) := by
 have vwS : ∀ (s : St) (x b off sz : Nat) (xs : List D), look x (unviewIn ids' s.tmps) = some (.view (.cell b off) sz xs) ↔ look x s.tmps = some (.view (.cell b off) sz xs) ∧ b ∉ ids' := by
  intro s x b off sz xs
  rw [look_unviewIn]
  cases hl : look x s.tmps with
  | none => simp
  | some v =>
   cases v with
   | view l z ys =>
    cases l with
    | tmp u => simp
    | cell b' off' =>
     by_cases hb : b' ∈ ids'
     ·simp only [Option.map_some, hb, if_true, Option.some.injEq]
      constructor
      ·intro e; simp at e
      ·rintro ⟨e, hn⟩
       simp only [V.view.injEq, Loc.cell.injEq] at e
       rw [e.1.1] at hb
       exact absurd hb hn
     ·simp only [Option.map_some, hb, if_false, Option.some.injEq]
      constructor
      ·intro e
       refine ⟨e, ?_⟩
       simp only [V.view.injEq, Loc.cell.injEq] at e
       rw [← e.1.1]; exact hb
      ·exact fun h => h.1
   | _ => simp
 have vtS : ∀ (s : St) (x u sz : Nat) (xs : List D), look x (unviewIn ids' s.tmps) = some (.view (.tmp u) sz xs) ↔ look x s.tmps = some (.view (.tmp u) sz xs) := by
  intro s x u sz xs
  rw [look_unviewIn]
  cases hl : look x s.tmps with
  | none => simp
  | some v =>
   cases v with
   | view l z ys =>
    cases l with
    | tmp u => simp
    | cell b' off' => by_cases hb : b' ∈ ids' <;> simp [hb]
   | _ => simp
 have stay : ∀ (s : St) (x : Nat), (∀ b off sz xs, look x s.tmps = some (.view (.cell b off) sz xs) → b ∉ ids') → look x s.tmps = look x (unviewIn ids' s.tmps) := by
  intro s x hx
  rw [look_unviewIn]
  cases hl : look x s.tmps with
  | none => simp
  | some v =>
   cases v with
   | view l z ys =>
    cases l with
    | tmp u => simp
    | cell b' off' => simp [hx b' off' z ys hl]
   | _ => simp
 subst hS; subst ht
 constructor
 ·intro l hl
  have hst := hs l hl
  cases l with
  | tmp x => simp only [same, look_unviewIn] at hst ⊢; rw [hst]
  | blk b => exact look_putBlks_same hst
  | nid => simp only [same] at hst ⊢; omega
  | defs => exact hst
  | vb b => simp only [same, vwS] at hst ⊢; intro x off sz xs; rw [hst]
  | vt u => simp only [same, vtS] at hst ⊢; exact hst
 ·intro l hl
  simp only [callW, List.mem_append, not_or] at hl
  obtain ⟨⟨⟨h1, h2⟩, h3⟩, h4⟩ := hl
  cases l with
  | tmp x =>
   have hx : x ∉ viewsIn ids' S.tmps := by simpa using h3
   refine ⟨stay S x fun b off sz xs e hb => hx (mem_viewsIn e hb), stay t x fun b off sz xs e hb => hx (mem_viewsIn (((hs (.vb b) (by simp [callW, hb])) x off sz xs).2 e) hb)⟩
  | blk b =>
   have hb : b ∉ ids' := by simpa using h1
   exact ⟨(look_putBlks_out hb).symm, (look_putBlks_out hb).symm⟩
  | nid =>
   split at h4
   ·rename_i e
    exact ⟨by simp only [same]; omega, by simp only [same]; omega⟩
   ·simp at h4
  | defs => exact ⟨rfl, rfl⟩
  | vb b =>
   have hb : b ∉ ids' := by simpa using h2
   exact ⟨fun x off sz xs => by simp only [vwS]; simp [hb], fun x off sz xs => by simp only [vwS]; simp [hb]⟩
  | vt u => exact ⟨fun x sz xs => by simp only [vtS], fun x sz xs => by simp only [vtS]⟩
theorem doCall_local {f : Nat} {args : List C} {v : V} {S1 : St} {ids : List Nat} (h : doCall call f args S = some (.val v S1, ids)) (hs : ∀ l ∈ callW (ids ++ newIds S S1) S S1, same S t l) :
  ∃ t1, doCall call f args t = some (.val v t1, ids) ∧ (∀ l ∈ callW (ids ++ newIds S S1) S S1, same S1 t1 l) ∧ (∀ l, l ∉ callW (ids ++ newIds S S1) S S1 → same S S1 l ∧ same t t1 l) := by
 unfold doCall at h ⊢
 split at h
 ·simp at h
 ·rename_i ids' hr
  split at h
  ·rename_i args' lh ha hl
   split at h
   ·rename_i v0 lh' hc
    split at h
    ·rename_i lh'' v' hb hv
     simp only [Option.some.injEq, Prod.mk.injEq, ORes.val.injEq] at h
     obtain ⟨⟨rfl, hS⟩, rfl⟩ := h
     have hnew : newIds S S1 = idsFrom S.nid (lh'.length - ids'.length) := by
      unfold newIds; rw [← hS]; simp only; congr 1; omega
     have hbl : ∀ b ∈ ids', look b S.heap = look b t.heap := fun b hb => hs (.blk b) (by simp [callW, hb])
     have hids : idsFrom S.nid (lh'.length - ids'.length) = idsFrom t.nid (lh'.length - ids'.length) := by
      by_cases hk : lh'.length - ids'.length = 0
      ·rw [hk]; rfl
      ·have : S.nid = t.nid := hs .nid (by
        have : S1.nid ≠ S.nid := by rw [← hS]; simp only; omega
        simp [callW, this])
       rw [this]
     have hl' : blksInto t.heap ids' = some lh := by
      rw [← hl]; unfold blksInto
      exact (mapM?_congr fun b hb => by rw [hbl b hb]).symm
     rw [hnew] at hs ⊢
     obtain ⟨q1, q2⟩ := local_put (t := t) (k := lh'.length - ids'.length) hS.symm rfl hs
     refine ⟨_, ?_, q1, q2⟩
     rw [reach_same hr (by simp) hbl]
     simp only [ha, hl', hc, ← hids, hb, hv]
    ·simp at h
   ·split at h <;> simp at h
   ·simp at h
  ·simp at h
theorem argsT_congr {P : Program} {tm tm' : List (Nat × V)} : ∀ {l : List Operand} {ts : List TypeId}, (∀ x ∈ l, ev tm x = ev tm' x) → argsT P tm l ts = argsT P tm' l ts
 | [], _, _ => rfl
 | x :: l, ts, h => by
  have ih : argsT P tm l ts.tail = argsT P tm' l ts.tail := argsT_congr fun y hy => h y (by simp [hy])
  simp only [argsT, evT_congr (P := P) (h x (by simp)), ih]
theorem local_call {v : V} {S1 : St} {f : Fp} {c : Go.Call} {x : Operand} (ho : o.op = .call c) (hcv : c.callee = .value x) (h : drawOp P call ops vs id o S = some (.val v S1, f))
  (hr : ∀ l ∈ f.reads ++ f.writes, same S t l) :
  ∃ W, OpLocal P call ops vs id o S t v S1 W ∧ f.writes = dstLc o.dst v ++ W ∧ f.all = false := by
 have hm : makesBlk o = false := by simp [makesBlk, ho]
 rw [drawOp_old hm] at h
 have haf : ∀ s, afterApp o s = s := afterApp_id (by simp [appX, ho, hcv])
 simp only [drawOld, evOp, ho, hcv, haf] at h
 cases hx : ev S.tmps x with
 | none => simp [hx] at h
 | some q =>
  cases q with
  | c y =>
   cases y with
   | fn g caps =>
    cases ha : argsT P S.tmps c.args.toList c.argTypes.toList with
    | none => simp [hx, ha] at h
    | some args =>
     cases hd : doCall call g (args ++ caps.map fun b => .ptr b 0) S with
     | none => simp [hx, ha, hd] at h
     | some r =>
      obtain ⟨r, ids⟩ := r
      cases r with
      | pan d s' => simp [hx, ha, hd] at h
      | val v0 s0 =>
       simp only [hx, ha, hd, Option.some.injEq, Prod.mk.injEq, ORes.val.injEq] at h
       obtain ⟨⟨rfl, rfl⟩, rfl⟩ := h
       have hk : kindOf o ⟨ids, ids, []⟩ = .call := by simp [kindOf, ho, hcv]
       simp only [fpOf, hk] at hr ⊢
       have hrt : ∀ u ∈ readsOf ops o, same S t (.tmp u) := fun u hu => hr _ (List.mem_append_left _ (List.mem_map.2 ⟨u, hu, rfl⟩))
       have hxt : ev S.tmps x = ev t.tmps x := ev_reads (o := o) (ops := ops) hrt (by simp [ho, Op.operands, Call.operands, hcv])
       have hat : argsT P S.tmps c.args.toList c.argTypes.toList = argsT P t.tmps c.args.toList c.argTypes.toList := by
        refine argsT_congr fun y hy => ?_
        rw [ev_reads (o := o) (ops := ops) hrt (x := y) (by simp [ho, Op.operands, Call.operands, hcv]; exact .inr (by simpa using hy))]
       obtain ⟨t1, h1, h2, h3⟩ := doCall_local (t := t) hd (fun l hl => hr l (by
        simp only [callW] at hl
        simp only [List.mem_append] at hl ⊢
        rcases hl with ((hl | hl) | hl) | hl
        ·exact .inr (.inl (.inl (.inl (.inr hl))))
        ·exact .inr (.inl (.inl (.inr hl)))
        ·exact .inr (.inl (.inr hl))
        ·exact .inr (.inr hl)))
       refine ⟨callW (ids ++ newIds S s0) S s0, ⟨t1, fpOf ops o t (calmAt vs o.dst v0) t1 ⟨ids, ids, []⟩, ?_, h2, h3⟩, by simp [callW], by first | rfl | trivial⟩
       rw [drawOp_old hm]
       simp only [drawOld, evOp, ho, hcv, haf, ← hxt, hx, ← hat, ha, h1]
   | _ => simp [hx] at h
  | _ => simp [hx] at h
theorem look_calmX (x k : Nat) (tm : List (Nat × V)) : look k (calmX x tm) = if k = x then (look k tm).map V.calm else look k tm := by
 unfold calmX
 split
 ·rename_i l sz xs hx
  simp only [look]
  by_cases hk : k = x
  ·subst hk; simp [hx, V.calm]
  ·rw [if_neg (Ne.symm hk), if_neg hk]
 ·rename_i hno
  by_cases hk : k = x
  ·subst hk
   rw [if_pos rfl]
   cases hl : look k tm with
   | none => rfl
   | some v =>
    cases v with
    | view l sz xs => exact absurd hl (hno _ _ _)
    | _ => rfl
  ·rw [if_neg hk]
theorem evT_ev {t : TypeId} {tm : List (Nat × V)} {x : Operand} {v : V} (h : evT P t tm x = some v) (hn : ∀ n, v ≠ .c (.nilsl n)) : ev tm x = some v := by
 unfold evT at h
 split at h
 ·rename_i n hx
  split at h
  ·split at h
   ·simp only [Option.some.injEq] at h; exact absurd h.symm (hn _)
   ·simp at h
  ·simp only [Option.some.injEq] at h; exact absurd h.symm (hn _)
 ·exact h
theorem evT_nilsl {t : TypeId} {tm : List (Nat × V)} {x : Operand} {m : Nat} (h : evT P t tm x = some (.c (.nilsl m))) : ∃ k, ev tm x = some (.c (.nilsl k)) := by
 unfold evT at h
 split at h
 ·rename_i n hx; exact ⟨n, hx⟩
 ·exact ⟨m, h⟩
theorem doAppend_local {t1 u1 : TypeId} {x y : Operand} {v : V} {S0 : St} (hx : ev S.tmps x = ev t.tmps x) (hy : ev S.tmps y = ev t.tmps y) (h : doAppend P t1 u1 x y S = some (v, S0)) (hw : (appendFoot x S.tmps).writes = [])
  (hu : ∀ u ∈ (appendFoot x S.tmps).tmps, look u S.tmps = look u t.tmps) :
  (S0 = S ∧ (appendFoot x S.tmps).tmps = [] ∧ (∀ l sz xs, ev S.tmps x ≠ some (.view l sz xs)) ∧ doAppend P t1 u1 x y t = some (v, t)) ∨
  ∃ u, (appendFoot x S.tmps).tmps = [u] ∧ S0 = { S with tmps := plainAt u S.tmps } ∧ (∀ l sz xs, ev S.tmps x = some (.view l sz xs) → l = .tmp u) ∧ doAppend P t1 u1 x y t = some (v, { t with tmps := plainAt u t.tmps }) := by
 have hxT := evT_congr (P := P) hx t1
 have hyT := evT_congr (P := P) hy u1
 unfold doAppend at h ⊢
 rw [← hxT, ← hyT]
 cases hte : telem P t1 with
 | none => simp [hte] at h
 | some e =>
  cases hev : evT P t1 S.tmps x with
  | none => simp [hte, hev] at h
  | some vx =>
   cases hey : (evT P u1 S.tmps y).bind appended with
   | none => simp [hte, hev, hey] at h
   | some p =>
    obtain ⟨sz', ys⟩ := p
    cases hn : tsz P e with
    | none => simp [hte, hev, hey, hn] at h
    | some n =>
     cases hs : isSource P u1 with
     | false => simp [hte, hev, hey, hn, hs] at h
     | true =>
      simp only [hte, hev, hey, hn, hs] at h ⊢
      split at h
      ·rename_i hc
       rw [if_pos hc]
       cases vx with
       | c cx =>
        cases cx with
        | nilsl m =>
         simp only at h ⊢
         split at h
         ·rename_i hl
          simp only [Option.some.injEq, Prod.mk.injEq] at h
          obtain ⟨rfl, rfl⟩ := h
          obtain ⟨k, hxx⟩ := evT_nilsl hev
          refine .inl ⟨rfl, ?_, ?_, by rw [if_pos hl]⟩
          ·unfold appendFoot; rw [hxx]; cases x <;> rfl
          ·intro l z xs e; rw [hxx] at e; simp at e
         ·simp at h
        | full z xs =>
         have hxx := evT_ev hev (by simp)
         simp only at h ⊢
         split at h
         ·rename_i hl
          simp only [Option.some.injEq, Prod.mk.injEq] at h
          obtain ⟨rfl, rfl⟩ := h
          refine .inl ⟨rfl, ?_, ?_, by rw [if_pos hl]⟩
          ·unfold appendFoot; rw [hxx]; cases x <;> rfl
          ·intro l z xs e; rw [hxx] at e; simp at e
         ·simp at h
        | own z xs =>
         have hxx := evT_ev hev (by simp)
         cases x with
         | tmp u =>
          simp only at h ⊢
          split at h
          ·rename_i hl
           simp only [Option.some.injEq, Prod.mk.injEq] at h
           obtain ⟨rfl, rfl⟩ := h
           refine .inr ⟨u, by unfold appendFoot; rw [hxx], rfl, ?_, by rw [if_pos hl]⟩
           intro l z xs e; rw [hxx] at e; simp at e
          ·simp at h
         | _ => simp at h
        | _ => simp at h
       | view l z xs =>
        have hxx := evT_ev hev (by simp)
        cases l with
        | tmp u =>
         have hft : (appendFoot x S.tmps).tmps = [u] := by unfold appendFoot; rw [hxx]; cases x <;> rfl
         have hlu := hu u (by rw [hft]; simp)
         try simp only at h
         try simp only
         rw [← hlu]
         split at h
         ·rename_i z2 xs2 hlk
          split at h
          ·rename_i hl
           simp only [Option.some.injEq, Prod.mk.injEq] at h
           obtain ⟨rfl, rfl⟩ := h
           refine .inr ⟨u, hft, rfl, ?_, by first | (rw [if_pos hl]) | (simp only [hlk]; rw [if_pos hl])⟩
           intro l z xs e
           rw [hxx] at e
           simp only [Option.some.injEq, V.view.injEq] at e
           exact e.1.symm
          ·simp at h
         ·simp at h
        | cell b off =>
         exfalso
         have : (appendFoot x S.tmps).writes = [b] := by unfold appendFoot; rw [hxx]; cases x <;> rfl
         rw [this] at hw; simp at hw
       | _ => simp at h
      ·simp at h
theorem local_append {v : V} {S1 : St} {f : Fp} {c : Go.Call} (ho : o.op = .call c) (hcv : c.callee = .builtin .append) (h : drawOp P call ops vs id o S = some (.val v S1, f)) (hall : f.all = false)
  (hr : ∀ l ∈ f.reads ++ f.writes, same S t l) :
  ∃ W, OpLocal P call ops vs id o S t v S1 W ∧ f.writes = dstLc o.dst v ++ W := by
 classical
 have hm : makesBlk o = false := by simp [makesBlk, ho]
 rw [drawOp_old hm] at h
 simp only [drawOld, evOp, ho, hcv] at h
 cases hca : c.args.toList with
 | nil => simp [hca] at h
 | cons x l1 =>
  cases l1 with
  | nil => simp [hca] at h
  | cons y l2 =>
   cases l2 with
   | cons _ _ => simp [hca] at h
   | nil =>
    cases hta : c.argTypes.toList with
    | nil => simp [hca, hta] at h
    | cons t1 l3 =>
     cases l3 with
     | nil => simp [hca, hta] at h
     | cons u1 l4 =>
      cases l4 with
      | cons _ _ => simp [hca, hta] at h
      | nil =>
       simp only [hca, hta] at h
       cases hd : doAppend P t1 u1 x y S with
       | none => simp [hd] at h
       | some p =>
        obtain ⟨v0, S0⟩ := p
        simp only [hd, Option.some.injEq, Prod.mk.injEq, ORes.val.injEq] at h
        obtain ⟨⟨rfl, rfl⟩, rfl⟩ := h
        have hwr : (appendFoot x S.tmps).writes = [] := by
         cases hq : (appendFoot x S.tmps).writes with
         | nil => rfl
         | cons b r =>
          exfalso
          have hk : kindOf o (appendFoot x S.tmps) = .all := by simp [kindOf, ho, hcv, hq]
          simp [fpOf, hk] at hall
        have hk : kindOf o (appendFoot x S.tmps) = .app := by simp [kindOf, ho, hcv, hwr]
        simp only [fpOf, hk] at hr ⊢
        have hrt : ∀ u ∈ readsOf ops o, same S t (.tmp u) := fun u hu => hr _ (List.mem_append_left _ (List.mem_append_left _ (List.mem_map.2 ⟨u, hu, rfl⟩)))
        have hax : x ∈ o.op.operands.toList := by
         simp only [ho, Op.operands, Call.operands, hcv]
         have : x ∈ c.args.toList := by rw [hca]; simp
         simpa using this
        have hay : y ∈ o.op.operands.toList := by
         simp only [ho, Op.operands, Call.operands, hcv]
         have : y ∈ c.args.toList := by rw [hca]; simp
         simpa using this
        have hxt : ev S.tmps x = ev t.tmps x := ev_reads (o := o) (ops := ops) hrt hax
        have hyt : ev S.tmps y = ev t.tmps y := ev_reads (o := o) (ops := ops) hrt hay
        have hut : ∀ u ∈ (appendFoot x S.tmps).tmps, look u S.tmps = look u t.tmps := fun u hu => hr (.tmp u) (List.mem_append_left _ (List.mem_append_right _ (List.mem_map.2 ⟨u, hu, rfl⟩)))
        have hap : appX o = (match x with | .tmp k => [k] | _ => []) := by
         unfold appX; simp only [ho, hcv, hca]
         cases x <;> rfl
        have hevx : ∀ k, x = .tmp k → ev S.tmps x = look k S.tmps := by rintro k rfl; rfl
        refine ⟨_, ?_, rfl⟩
        have after_look : ∀ (tm : List (Nat × V)) (k : Nat), look k (calmXs (appX o) tm) = if x = .tmp k then (look k tm).map V.calm else look k tm := by
         intro tm k
         rw [hap]
         cases x with
         | tmp j =>
          simp only [calmXs, look_calmX, Operand.tmp.injEq]
          by_cases hjk : k = j
          ·subst hjk; simp
          ·rw [if_neg hjk, if_neg (Ne.symm hjk)]
         | _ => simp [calmXs]
        rcases doAppend_local hxt hyt hd hwr hut with ⟨rfl, hf0, hnv, hdt⟩ | ⟨u, hfu, rfl, hvu, hdt⟩
        ·refine ⟨afterApp o t, fpOf ops o t (calmAt vs o.dst v0) t (appendFoot x t.tmps), ?_, ?_, ?_⟩
         ·rw [drawOp_old hm]
          simp only [drawOld, evOp, ho, hcv, hca, hta, hdt]
         ·intro l hl
          rw [hf0] at hl
          simp only [List.map_nil, List.nil_append, List.mem_map] at hl
          obtain ⟨k, hk2, rfl⟩ := hl
          have hxk : x = .tmp k := by
           rw [hap] at hk2
           cases x with
           | tmp j => simp only [List.mem_singleton] at hk2; rw [hk2]
           | _ => simp at hk2
          show look k (calmXs (appX o) S0.tmps) = look k (calmXs (appX o) t.tmps)
          rw [after_look, after_look, if_pos hxk, if_pos hxk]
          rw [← hevx k hxk, hxt, hxk]; rfl
         ·have hid : ∀ (s : St), (∀ k, x = .tmp k → ∀ l z xs, look k s.tmps ≠ some (.view l z xs)) → ∀ l, same s (afterApp o s) l := by
           intro s hs l
           have : ∀ k, look k s.tmps = look k (afterApp o s).tmps := by
            intro k
            show look k s.tmps = look k (calmXs (appX o) s.tmps)
            rw [after_look]
            split
            ·rename_i hxk
             cases hl : look k s.tmps with
             | none => rfl
             | some q =>
              cases q with
              | view l z xs => exact absurd hl (hs k hxk l z xs)
              | _ => rfl
            ·rfl
           cases l with
           | tmp k => exact this k
           | vb b => intro k off z xs; rw [this k]
           | vt b => intro k z xs; rw [this k]
           | _ => rfl
          intro l _
          refine ⟨hid S0 (fun k hk2 l z xs e => hnv l z xs (by rw [hevx k hk2]; exact e)) l, hid t (fun k hk2 l z xs e => hnv l z xs ?_) l⟩
          rw [hxt, hk2]; exact e
        ·refine ⟨afterApp o { t with tmps := plainAt u t.tmps }, fpOf ops o t (calmAt vs o.dst v0) { t with tmps := plainAt u t.tmps } (appendFoot x t.tmps), ?_, ?_, ?_⟩
         ·rw [drawOp_old hm]
          simp only [drawOld, evOp, ho, hcv, hca, hta, hdt]
         ·have hlk : ∀ k, look k S.tmps = look k t.tmps → look k (calmXs (appX o) (plainAt u S.tmps)) = look k (calmXs (appX o) (plainAt u t.tmps)) := by
           intro k e
           rw [after_look, after_look, look_plainAt, look_plainAt, e]
          intro l hl
          rw [hfu] at hl
          simp only [List.map_cons, List.map_nil, List.mem_append, List.mem_singleton, List.mem_map] at hl
          rcases hl with (rfl | rfl) | ⟨k, hk2, rfl⟩
          ·exact hlk u (hut u (by rw [hfu]; simp))
          ·have hvt : same S t (.vt u) := hr (.vt u) (by rw [hfu]; simp)
           intro k z xs
           show look k (calmXs (appX o) (plainAt u S.tmps)) = _ ↔ look k (calmXs (appX o) (plainAt u t.tmps)) = _
           by_cases hxk : x = .tmp k
           ·rw [hlk k (by rw [← hevx k hxk, hxt, hxk]; rfl)]
           ·rw [after_look, after_look, if_neg hxk, if_neg hxk, look_plainAt, look_plainAt]
            have hview : ∀ tm : List (Nat × V), ((look k tm).map fun v => if k = u then (match v with | .c (.own sz xs) => V.d (.list sz xs) | v => v) else v) = some (.view (.tmp u) z xs) ↔ look k tm = some (.view (.tmp u) z xs) := by
             intro tm
             cases look k tm with
             | none => simp
             | some q =>
              simp only [Option.map_some, Option.some.injEq]
              split
              ·cases q with
               | c cq => cases cq <;> simp
               | _ => simp
              ·simp
            exact (hview S.tmps).trans ((hvt k z xs).trans (hview t.tmps).symm)
          ·have hxk : x = .tmp k := by
            rw [hap] at hk2
            cases x with
            | tmp j => simp only [List.mem_singleton] at hk2; rw [hk2]
            | _ => simp at hk2
           exact hlk k (by rw [← hevx k hxk, hxt, hxk]; rfl)
         ·have hid : ∀ (s : St), (∀ k, x = .tmp k → ∀ l z xs, look k s.tmps = some (.view l z xs) → l = .tmp u) → ∀ l, l ∉ (List.map Lc.tmp (appendFoot x S.tmps).tmps ++ List.map Lc.vt (appendFoot x S.tmps).tmps ++ List.map Lc.tmp (appX o)) → same s (afterApp o { s with tmps := plainAt u s.tmps }) l := by
           intro s hs l hl
           rw [hfu] at hl
           simp only [List.map_cons, List.map_nil, List.mem_append, List.mem_singleton, List.mem_map, not_or] at hl
           have hlook : ∀ k, look k (afterApp o { s with tmps := plainAt u s.tmps }).tmps = if x = .tmp k then (look k (plainAt u s.tmps)).map V.calm else look k (plainAt u s.tmps) := fun k => after_look _ k
           have view_iff : ∀ k (l0 : Loc) z xs, l0 ≠ .tmp u → (look k s.tmps = some (.view l0 z xs) ↔ look k (afterApp o { s with tmps := plainAt u s.tmps }).tmps = some (.view l0 z xs)) := by
            intro k l0 z xs hne
            rw [hlook, look_plainAt]
            by_cases hxk : x = .tmp k
            ·rw [if_pos hxk]
             constructor
             ·intro e
              exact absurd (hs k hxk _ _ _ e) hne
             ·intro e
              exfalso
              cases hq : look k s.tmps with
              | none => simp [hq] at e
              | some q =>
               simp only [hq, Option.map_some, Option.some.injEq] at e
               split at e
               ·cases q with
                | c cq => cases cq <;> simp [V.calm] at e
                | _ => simp [V.calm] at e
               ·cases q <;> simp [V.calm] at e
            ·rw [if_neg hxk]
             cases hq : look k s.tmps with
             | none => simp
             | some q =>
              simp only [Option.map_some, Option.some.injEq]
              split
              ·cases q with
               | c cq => cases cq <;> simp
               | _ => simp
              ·simp
           cases l with
           | tmp k =>
            have hku : k ≠ u := by rintro rfl; exact hl.1.1 rfl
            have hkx : x ≠ .tmp k := by
             rintro rfl
             exact hl.2 ⟨k, by rw [hap]; simp, rfl⟩
            show look k s.tmps = look k (afterApp o { s with tmps := plainAt u s.tmps }).tmps
            rw [hlook, if_neg hkx, look_plainAt]
            cases look k s.tmps with
            | none => rfl
            | some q => simp [hku]
           | vb b => intro k off z xs; exact view_iff k _ z xs (by simp)
           | vt b =>
            have hbu : b ≠ u := by rintro rfl; exact hl.1.2 rfl
            intro k z xs
            exact view_iff k _ z xs (by simpa using hbu)
           | _ => rfl
          intro l hl
          refine ⟨hid S (fun k hk2 l z xs e => hvu l z xs (by rw [hevx k hk2]; exact e)) l hl, hid t (fun k hk2 l z xs e => hvu l z xs ?_) l hl⟩
          rw [hxt, hk2]; exact e
end
end Go.AM

namespace Go.AM
open Go
variable [Globs]
section
variable {P : Program} {call : Call} {ops : Array Oper} {vs : List Nat} {S S' t : St} {o : Oper} {id : Nat}
def StepD (P : Program) (call : Call) (ops : Array Oper) (vs : List Nat) (id : Nat) (o : Oper) (s s' : St) (f : Fp) : Prop :=
 (wantedAt ops s.tmps o = some false ∧ putD o.dst (.c .undef) s = some s' ∧ f = ⟨(readsOf ops o).map .tmp, dstLc o.dst (.c .undef), [], false⟩) ∨
 (wantedAt ops s.tmps o = some true ∧ ∃ v s1, drawOp P call ops vs id o s = some (.val v s1, f) ∧ putD o.dst v s1 = some s')
theorem wanted_same (h : ∀ u ∈ readsOf ops o, same S t (.tmp u)) : wantedAt ops S.tmps o = wantedAt ops t.tmps o := by
 unfold wantedAt
 cases hg : o.guard with
 | none => rfl
 | some g =>
  obtain ⟨j, want⟩ := g
  simp only
  cases hq : ops[j]? with
  | none => rfl
  | some q =>
   simp only
   cases hd : q.dst with
   | none => rfl
   | some d =>
    have : look d S.tmps = look d t.tmps := h d (by unfold readsOf; simp [hg, hq, hd])
    simp only [this]
theorem drawOp_reads {v : V} {S1 : St} {f : Fp} (h : drawOp P call ops vs id o S = some (.val v S1, f)) (hall : f.all = false) : ∀ u ∈ readsOf ops o, Lc.tmp u ∈ f.reads := by
 intro u hu
 have hm : Lc.tmp u ∈ (readsOf ops o).map Lc.tmp := List.mem_map.2 ⟨u, hu, rfl⟩
 simp only [drawOp] at h
 split at h
 ·simp only [drawNew] at h
  split at h
  ·split at h
   ·split at h
    ·simp at h
    simp only [Option.some.injEq, Prod.mk.injEq] at h
    obtain ⟨_, rfl⟩ := h
    exact hm
   ·simp at h
  ·simp at h
 ·simp only [drawOld] at h
  split at h
  ·simp only [Option.some.injEq, Prod.mk.injEq] at h
   obtain ⟨_, rfl⟩ := h
   unfold fpOf at hall ⊢
   split
   ·exact List.mem_append_left _ hm
   ·exact List.mem_append_left _ hm
   ·exact hm
   ·exact List.mem_append_left _ hm
   ·rename_i hk; rw [hk] at hall; simp at hall
  ·simp at h
  ·simp at h
theorem drawOp_local {v : V} {S1 : St} {f : Fp} (h : drawOp P call ops vs id o S = some (.val v S1, f)) (hall : f.all = false) (hr : ∀ l ∈ f.reads ++ f.writes, same S t l)
  (hid : makesBlk o = true → look id t.heap = none) : ∃ W, OpLocal P call ops vs id o S t v S1 W ∧ f.writes = dstLc o.dst v ++ W := by
 have hrt : ∀ u ∈ readsOf ops o, same S t (.tmp u) := fun u hu => hr _ (List.mem_append_left _ (drawOp_reads h hall u hu))
 have hrr : ∀ l ∈ f.reads, same S t l := fun l hl => hr l (List.mem_append_left _ hl)
 cases hm : makesBlk o with
 | true =>
  obtain ⟨h1, _, h2, _⟩ := local_makes hm h hrt (hid hm)
  exact ⟨_, h1, h2⟩
 | false =>
  have light : (∀ s, evOp P call s.nid o s = match evLight P s.nid o s with | some (r, l) => some (r, ⟨l, [], []⟩) | none => none) → (∀ f, kindOf o f = .light) →
    ∃ W, OpLocal P call ops vs id o S t v S1 W ∧ f.writes = dstLc o.dst v ++ W := by
   intro hev hk
   obtain ⟨h1, h2, _⟩ := local_light hm hev h hk hrr
   exact ⟨[], h1, by rw [h2]; simp⟩
  cases ho : o.op with
  | assign x =>
   exact local_assign ho h hall hrr fun l hl => hr l (List.mem_append_right _ hl)
  | store ty p x =>
   obtain ⟨b, h1, h2⟩ := local_store ho h hall hr
   exact ⟨_, h1, h2⟩
  | defer c =>
   exfalso
   rw [drawOp_old hm] at h
   simp only [drawOld] at h
   split at h
   ·simp only [Option.some.injEq, Prod.mk.injEq] at h
    obtain ⟨_, rfl⟩ := h
    simp [fpOf, kindOf, ho] at hall
   ·simp at h
   ·simp at h
  | panic x =>
   exfalso
   rw [drawOp_old hm] at h
   simp only [drawOld] at h
   split at h
   ·simp only [Option.some.injEq, Prod.mk.injEq] at h
    obtain ⟨_, rfl⟩ := h
    simp [fpOf, kindOf, ho] at hall
   ·simp at h
   ·simp at h
  | makeMap t r =>
   exfalso
   rw [drawOp_old hm] at h
   simp only [drawOld] at h
   split at h
   ·simp only [Option.some.injEq, Prod.mk.injEq] at h
    obtain ⟨_, rfl⟩ := h
    simp [fpOf, kindOf, ho] at hall
   ·simp at h
   ·simp at h
  | insert t m k v =>
   exfalso
   rw [drawOp_old hm] at h
   simp only [drawOld] at h
   split at h
   ·simp only [Option.some.injEq, Prod.mk.injEq] at h
    obtain ⟨_, rfl⟩ := h
    simp [fpOf, kindOf, ho] at hall
   ·simp at h
   ·simp at h
  | mapUpdate t m k v =>
   exfalso
   rw [drawOp_old hm] at h
   simp only [drawOld] at h
   split at h
   ·simp only [Option.some.injEq, Prod.mk.injEq] at h
    obtain ⟨_, rfl⟩ := h
    simp [fpOf, kindOf, ho] at hall
   ·simp at h
   ·simp at h
  | call c =>
   cases hc : c.callee with
   | value x =>
    obtain ⟨W, h1, h2, _⟩ := local_call ho hc h hr
    exact ⟨W, h1, h2⟩
   | invoke r m =>
    exfalso
    rw [drawOp_old hm] at h
    simp [drawOld, evOp, ho, hc] at h
   | builtin b =>
    cases b with
    | append => exact local_append ho hc h hall hr
    | _ =>
     refine light (fun s => ?_) (fun f => by simp [kindOf, ho, hc])
     simp only [evOp, ho, hc, evLight, readsBlk]
     cases hR : evR P s.nid o s.tmps s.heap with
     | none => rfl
     | some r =>
      obtain ⟨v, nb⟩ := r
      cases nb <;> rfl
  | alloc _ => simp [makesBlk, ho] at hm
  | box _ _ => simp [makesBlk, ho] at hm
  | _ =>
   refine light (fun s => ?_) (fun f => by simp [kindOf, ho])
   simp only [evOp, ho, evLight]
   cases hR : evR P s.nid o s.tmps s.heap with
   | none => rfl
   | some r =>
    obtain ⟨v, nb⟩ := r
    cases nb with
    | none => rfl
    | some cs => exact absurd hR (evR_none hm)
theorem step_local {f : Fp} (h : StepD P call ops vs id o S S' f) (hall : f.all = false) (hr : ∀ l ∈ f.reads ++ f.writes, same S t l) (hid : makesBlk o = true → look id t.heap = none) :
  ∃ t' f', StepD P call ops vs id o t t' f' ∧ (∀ l ∈ f.writes, same S' t' l) ∧ (∀ l, l ∉ f.writes → same S S' l ∧ same t t' l) := by
 rcases h with ⟨hw, hp, rfl⟩ | ⟨hw, v, S1, hop, hp⟩
 ·have hrt : ∀ u ∈ readsOf ops o, same S t (.tmp u) := fun u hu => hr _ (by simp [hu])
  obtain ⟨t', h1, h2, h3⟩ := putD_local (t := t) hp fun l hl => hr l (List.mem_append_right _ hl)
  obtain ⟨S'', h4, h5, h6⟩ := putD_local (t := S) hp fun l _ => same.refl S l
  rw [hp, Option.some.injEq] at h4; subst h4
  exact ⟨t', _, .inl ⟨by rw [← wanted_same hrt]; exact hw, h1, rfl⟩, fun l hl => h2 l (hr l (List.mem_append_right _ hl)), fun l hl => ⟨h6 l hl, h3 l hl⟩⟩
 ·have hrt : ∀ u ∈ readsOf ops o, same S t (.tmp u) := fun u hu => hr _ (List.mem_append_left _ (drawOp_reads hop hall u hu))
  obtain ⟨W, ⟨t1, f', h1, h2, h3⟩, h4⟩ := drawOp_local hop hall hr hid
  have h5 : ∀ l ∈ f.writes, same S1 t1 l := by
   intro l hl
   by_cases hW : l ∈ W
   ·exact h2 l hW
   ·exact ((h3 l hW).1.symm.trans (hr l (List.mem_append_right _ hl))).trans (h3 l hW).2
  obtain ⟨t', h6, h7, h8⟩ := putD_local (t := t1) hp fun l hl => h5 l (by rw [h4]; exact List.mem_append_left _ hl)
  obtain ⟨S'', h9, _, h10⟩ := putD_local (t := S1) hp fun l _ => same.refl S1 l
  rw [hp, Option.some.injEq] at h9; subst h9
  refine ⟨t', f', .inr ⟨by rw [← wanted_same hrt]; exact hw, v, t1, h1, h6⟩, fun l hl => h7 l (h5 l hl), fun l hl => ?_⟩
  rw [h4, List.mem_append, not_or] at hl
  exact ⟨(h3 l hl.2).1.trans (h10 l hl.1), (h3 l hl.2).2.trans (h8 l hl.1)⟩
theorem befores_append : ∀ (l : List Oper) (acc : List (List Nat)), ∃ r, befores l acc = acc ++ r ∧ r.length = l.length
 | [], acc => ⟨[], by simp [befores]⟩
 | o :: l, acc => by
  obtain ⟨r, h1, h2⟩ := befores_append l (acc ++ [o.after.toList.foldl (fun l e => if Region.binds .any e then e.on :: (acc.getD e.on [] ++ l) else l) []])
  exact ⟨o.after.toList.foldl (fun l e => if Region.binds .any e then e.on :: (acc.getD e.on [] ++ l) else l) [] :: r, by simp only [befores]; rw [h1]; simp, by simp [h2]⟩
theorem edges_mem {acc : List (List Nat)} {i : Nat} : ∀ {es : List Edge} {l : List Nat}, i ∈ es.foldl (fun l e => if Region.binds .any e then e.on :: (acc.getD e.on [] ++ l) else l) l →
  i ∈ l ∨ ∃ e ∈ es, Region.binds .any e = true ∧ (i = e.on ∨ i ∈ acc.getD e.on [])
 | [], l, h => .inl h
 | e :: es, l, h => by
  simp only [List.foldl_cons] at h
  rcases edges_mem h with h | ⟨e', he, h1, h2⟩
  ·split at h
   ·rename_i hb
    simp only [List.mem_cons, List.mem_append] at h
    rcases h with h | h | h
    ·exact .inr ⟨e, by simp, hb, .inl h⟩
    ·exact .inr ⟨e, by simp, hb, .inr h⟩
    ·exact .inl h
   ·exact .inl h
  ·exact .inr ⟨e', List.mem_cons_of_mem _ he, h1, h2⟩
theorem befores_get : ∀ (l : List Oper) (acc : List (List Nat)) (j i : Nat), acc.length ≤ j → i ∈ (befores l acc).getD j [] →
  ∃ o, l[j - acc.length]? = some o ∧ ∃ e ∈ o.after.toList, Region.binds .any e = true ∧ (i = e.on ∨ (e.on < j ∧ i ∈ (befores l acc).getD e.on []))
 | [], acc, j, i, hj, h => by simp only [befores] at h; simp [List.getD, List.getElem?_eq_none hj] at h
 | o :: l, acc, j, i, hj, h => by
  by_cases he : j = acc.length
  ·subst he
   refine ⟨o, by simp, ?_⟩
   obtain ⟨r, h1, h2⟩ := befores_append (o :: l) acc
   obtain ⟨r', h3, h4⟩ := befores_append l (acc ++ [o.after.toList.foldl (fun l e => if Region.binds .any e then e.on :: (acc.getD e.on [] ++ l) else l) []])
   simp only [befores] at h
   rw [h3] at h
   have h5 : i ∈ o.after.toList.foldl (fun l e => if Region.binds .any e then e.on :: (acc.getD e.on [] ++ l) else l) [] := by
    simpa [List.getD] using h
   rcases edges_mem h5 with h6 | ⟨e, he, hb, h6⟩
   ·simp at h6
   ·refine ⟨e, he, hb, h6.imp id fun h7 => ?_⟩
    have hlt : e.on < acc.length := by
     rcases Nat.lt_or_ge e.on acc.length with h | h
     ·exact h
     ·simp [List.getD, List.getElem?_eq_none h] at h7
    refine ⟨hlt, ?_⟩
    rw [h1]
    simp only [List.getD, List.getElem?_append_left hlt] at h7 ⊢
    exact h7
  ·have hj' : (acc ++ [o.after.toList.foldl (fun l e => if Region.binds .any e then e.on :: (acc.getD e.on [] ++ l) else l) []]).length ≤ j := by simp; omega
   obtain ⟨o', h1, h2⟩ := befores_get l _ j i hj' (by simpa only [befores] using h)
   refine ⟨o', ?_, by simpa only [befores] using h2⟩
   rw [← h1, show j - acc.length = (j - (acc.length + 1)) + 1 from by omega]
   simp
theorem befores_closed {D : Nat → Prop} (hD : ∀ j o, ops[j]? = some o → D j → ∀ e ∈ o.after, Region.binds .any e = true → D e.on) :
  ∀ (j i : Nat), i ∈ (befores ops.toList []).getD j [] → (∀ o, ops[j]? = some o → ∀ e ∈ o.after, Region.binds .any e = true → D e.on) → D i := by
 intro j
 induction j using Nat.strongRecOn with
 | ind j ih =>
  intro i hi hj
  obtain ⟨o, h1, e, he, hb, h2⟩ := befores_get ops.toList [] j i (by simp) hi
  have ho : ops[j]? = some o := by simpa using h1
  have hon : D e.on := hj o ho e (by simpa using he) hb
  rcases h2 with rfl | ⟨hlt, h3⟩
  ·exact hon
  ·exact ih e.on hlt i h3 fun o' ho' e' he' hb' => hD e.on o' ho' hon e' he' hb'
theorem drawOps_run {base : Nat} : ∀ (l : List Oper) (i : Nat) (s : St) {x : AX} {s' : St} {fs : List Fp}, drawOps P call ops vs base l i s = some (x, s', fs) →
  ∃ Ss : Nat → St, Ss i = s ∧
   ((x = .normal ∧ fs.length = l.length ∧ Ss (i + l.length) = s' ∧ ∀ j, j < l.length → ∃ o f, l[j]? = some o ∧ fs[j]? = some (f.fill (Ss (i + j + 1))) ∧ StepD P call ops vs (base + (i + j)) o (Ss (i + j)) (Ss (i + j + 1)) f) ∨
    (∃ d k o f, x = .pan d ∧ fs.length = k + 1 ∧ l[k]? = some o ∧ fs[k]? = some f ∧ wantedAt ops (dropT (looseDst ops (i + k)) (Ss (i + k))).tmps o = some true ∧ drawOp P call ops vs (base + (i + k)) o (dropT (looseDst ops (i + k)) (Ss (i + k))) = some (.pan d s', f) ∧
    ∀ j, j < k → ∃ o f, l[j]? = some o ∧ fs[j]? = some (f.fill (Ss (i + j + 1))) ∧ StepD P call ops vs (base + (i + j)) o (Ss (i + j)) (Ss (i + j + 1)) f))
 | [], i, s, x, s', fs, h => by
  simp only [drawOps, Option.some.injEq, Prod.mk.injEq] at h
  obtain ⟨rfl, rfl, rfl⟩ := h
  exact ⟨fun _ => s, rfl, .inl ⟨rfl, rfl, rfl, by simp⟩⟩
 | o :: l, i, s, x, s', fs, h => by
  have cont : ∀ {s1 : St} {f : Fp} {fs' : List Fp}, StepD P call ops vs (base + i) o s s1 f → drawOps P call ops vs base l (i + 1) s1 = some (x, s', fs') → fs = f.fill s1 :: fs' →
    ∃ Ss : Nat → St, Ss i = s ∧
   ((x = .normal ∧ fs.length = (o :: l).length ∧ Ss (i + (o :: l).length) = s' ∧ ∀ j, j < (o :: l).length → ∃ o' f, (o :: l)[j]? = some o' ∧ fs[j]? = some (f.fill (Ss (i + j + 1))) ∧ StepD P call ops vs (base + (i + j)) o' (Ss (i + j)) (Ss (i + j + 1)) f) ∨
    (∃ d k o' f, x = .pan d ∧ fs.length = k + 1 ∧ (o :: l)[k]? = some o' ∧ fs[k]? = some f ∧ wantedAt ops (dropT (looseDst ops (i + k)) (Ss (i + k))).tmps o' = some true ∧ drawOp P call ops vs (base + (i + k)) o' (dropT (looseDst ops (i + k)) (Ss (i + k))) = some (.pan d s', f) ∧
    ∀ j, j < k → ∃ o' f, (o :: l)[j]? = some o' ∧ fs[j]? = some (f.fill (Ss (i + j + 1))) ∧ StepD P call ops vs (base + (i + j)) o' (Ss (i + j)) (Ss (i + j + 1)) f)) := by
   intro s1 f fs' hst hrec e
   subst e
   obtain ⟨Ss, h0, h1⟩ := drawOps_run l (i + 1) s1 hrec
   refine ⟨fun j => if j = i then s else Ss j, by simp, ?_⟩
   have step : ∀ n, (∀ j, j < n → ∃ o f, l[j]? = some o ∧ fs'[j]? = some (f.fill (Ss (i + 1 + j + 1))) ∧ StepD P call ops vs (base + (i + 1 + j)) o (Ss (i + 1 + j)) (Ss (i + 1 + j + 1)) f) →
     ∀ j, j < n + 1 → ∃ o' f', (o :: l)[j]? = some o' ∧ (f.fill s1 :: fs')[j]? = some (f'.fill (if i + j + 1 = i then s else Ss (i + j + 1))) ∧ StepD P call ops vs (base + (i + j)) o' (if i + j = i then s else Ss (i + j)) (if i + j + 1 = i then s else Ss (i + j + 1)) f' := by
    intro n hn j hj
    cases j with
    | zero => exact ⟨o, f, rfl, by simp only [Nat.add_zero]; rw [if_neg (by omega), h0]; rfl, by simp only [Nat.add_zero, if_true]; rw [if_neg (by omega), h0]; exact hst⟩
    | succ j =>
     obtain ⟨o', f', q1, q2, q3⟩ := hn j (by omega)
     refine ⟨o', f', by simpa using q1, by rw [if_neg (by omega), show i + (j + 1) + 1 = i + 1 + j + 1 from by omega]; simpa using q2, ?_⟩
     rw [if_neg (by omega), if_neg (by omega), show i + (j + 1) = i + 1 + j from by omega]
     exact q3
   rcases h1 with ⟨rfl, hl, hs', hall⟩ | ⟨d, k, o', f', rfl, hl, ho', hf', hw, hdr, hall⟩
   ·refine .inl ⟨rfl, by simp [hl], ?_, step l.length hall⟩
    show (if i + (o :: l).length = i then s else Ss (i + (o :: l).length)) = s'
    rw [if_neg (by simp only [List.length_cons]; omega), ← hs']
    congr 1; simp only [List.length_cons]; omega
   ·refine .inr ⟨d, k + 1, o', f', rfl, by simp [hl], by simpa using ho', by simpa using hf', ?_, ?_, step k hall⟩
    ·show wantedAt ops (dropT (looseDst ops (i + (k + 1))) (if i + (k + 1) = i then s else Ss (i + (k + 1)))).tmps o' = some true
     rw [if_neg (by omega), show i + (k + 1) = i + 1 + k from by omega]; exact hw
    ·show drawOp P call ops vs (base + (i + (k + 1))) o' (dropT (looseDst ops (i + (k + 1))) (if i + (k + 1) = i then s else Ss (i + (k + 1)))) = some (.pan d s', f')
     rw [if_neg (by omega), show i + (k + 1) = i + 1 + k from by omega]; exact hdr
  simp only [drawOps] at h
  split at h
  ·simp at h
  ·rename_i hw
   split at h
   ·simp at h
   ·rename_i s1 hp
    split at h
    ·simp at h
    ·rename_i x' s2 fs' hrec
     simp only [Option.some.injEq, Prod.mk.injEq] at h
     obtain ⟨rfl, rfl, rfl⟩ := h
     exact cont (.inl ⟨hw, hp, rfl⟩) hrec rfl
  ·rename_i hw
   split at h
   ·simp at h
   ·split at h
    ·rename_i d s1 f hw' hop
     simp only [Option.some.injEq, Prod.mk.injEq] at h
     obtain ⟨rfl, rfl, rfl⟩ := h
     exact ⟨fun _ => s, rfl, .inr ⟨d, 0, o, f, rfl, rfl, rfl, rfl, by simpa using hw', by simpa using hop, by simp⟩⟩
    ·simp at h
   ·rename_i v s1 f hop
    split at h
    ·simp at h
    ·rename_i s2 hp
     split at h
     ·simp at h
     ·rename_i x' s3 fs' hrec
      simp only [Option.some.injEq, Prod.mk.injEq] at h
      obtain ⟨rfl, rfl, rfl⟩ := h
      exact cont (.inr ⟨hw, v, s1, hop, hp⟩) hrec rfl
end
end Go.AM

namespace Go.AM
open Go
variable [Globs]
structure Unref (id : Nat) (s : St) : Prop where
 tm : ∀ x V, look x s.tmps = some V → id ∉ V.ids
 heap : ∀ b cells, look b s.heap = some cells → ∀ c ∈ cells, id ∉ c.ids
 defs : ∀ x ∈ s.defers, id ∉ x.2
section
variable {P : Program} {K K' : Col} {μ μ' : Nat → Nat} {w w' : World} {s t : St} {a : Act}
theorem Sim.addAt (h : Sim K μ s a w) {id g : Nat} (hid : id < s.nid) (hnone : look id s.heap = none) (hun : Unref id s) {cs : List C} {vs : List Value} (hg : g < w.heap.size) (hK : ∀ off, K g off = .blk id)
  (hc : ∀ i v, vs[i]? = some v → w.cell? (ad g i) = some v ∧ w.frozen? (ad g i) = false) (hl : LayC K μ w cs vs) (h1 : ∀ x ∈ vs, isOne x = true)
  (hids : ∀ c ∈ cs, ∀ b ∈ c.ids, b < s.nid) (hni : ∀ c ∈ cs, id ∉ c.ids) (hno : ∀ c ∈ cs, ∀ sz xs, c ≠ .own sz xs) :
  Sim K (muSet μ id g) { s with heap := (id, cs) :: s.heap } a w := by
 obtain ⟨hr, hm0, hsq⟩ := hl
 have hm : ∀ b, b ≠ id → muSet μ id g b = μ b := fun b hb => muSet_other μ g hb
 have hmu : ∀ {c : C} {v : Value}, id ∉ c.ids → RepC K μ w c v → RepC K (muSet μ id g) w c v :=
  fun hc h => h.mu fun b hb => hm b fun e => hc (e ▸ hb)
 refine ⟨?_, h.tids, h.own, ?_, ?_, h.bound, ?_, h.dids, h.glob⟩
 ·intro t V ht
  exact ⟨(h.tm t V ht).1, (h.tm t V ht).2.mu fun b hb => hm b fun e => hun.tm t V ht (e ▸ hb)⟩
 ·intro t l sz xs ht
  have hv := h.view t l sz xs ht
  cases l with
  | tmp u => exact hv
  | cell b off =>
   intro cells z ys h2 h3
   by_cases hb : id = b
   ·subst hb
    simp only [look, if_true, Option.some.injEq] at h2; subst h2
    exact absurd rfl (hno _ (List.mem_of_getElem? h3) z ys)
   ·simp only [look, hb, if_false] at h2
    rw [muSet_other μ g (Ne.symm hb)]
    exact hv cells z ys h2 h3
 ·intro b cells hb
  by_cases e : id = b
  ·subst e
   simp only [look, if_true, Option.some.injEq] at hb; subst hb
   have hcr : CellsRep K (muSet μ id g) w id (flatC cs) := by
    intro i c hi _
    obtain ⟨v, hv, hrv⟩ := hr.get hi
    refine ⟨v, by rw [muSet_same]; exact (hc i v hv).1, h1 v (List.mem_of_getElem? hv), by rw [muSet_same]; exact (hc i v hv).2, ?_, ?_⟩
    ·refine hmu ?_ hrv
     rcases flatC_ids (List.mem_of_getElem? hi) with h | ⟨d, rfl⟩
     ·exact hni c h
     ·simp [C.ids]
    ·intro sz xs e
     rcases flatC_ids (List.mem_of_getElem? hi) with h | ⟨d, rfl⟩
     ·exact absurd e (hno c h sz xs)
     ·simp at e
   exact ⟨hid, hids, fun off _ => by rw [muSet_same]; exact hK off, by rw [muSet_same]; exact hg, .inl ⟨hm0, hcr, hsq⟩⟩
  ·simp only [look, e, if_false] at hb
   obtain ⟨k1, k2, k3⟩ := h.heap b cells hb
   exact ⟨k1, k2, k3.mu (hm b (Ne.symm e)) fun c hc j hj => hm j fun e' => hun.heap b cells hb c hc (e' ▸ hj)⟩
 ·rw [h.defs]
  refine List.map_congr_left fun x hx => ?_
  unfold defOf
  congr 3
  refine List.map_congr_left fun b hb => ?_
  rw [hm b fun e => hun.defs x hx (e ▸ hb)]
theorem putD_same {dst : Option Nat} {v : V} {s' : St} (h : putD dst v s = some s') (l : Lc) : same (putSt dst v s) s' l := by
 cases dst with
 | none => simp only [putD, Option.some.injEq] at h; subst h; exact same.refl _ _
 | some d =>
  simp only [putD] at h
  split at h
  ·rename_i hf
   simp only [Option.some.injEq] at h; subst h
   have hl : ∀ x, look x (setTmp d v s.tmps) = look x ((d, v) :: s.tmps) := by
    intro x
    unfold setTmp
    split
    ·rename_i sz xs
     simp only [look]
     split
     ·rfl
     ·rw [look_unview]
      cases hx : look x s.tmps with
      | none => rfl
      | some u =>
       cases u with
       | view l z ys =>
        simp only [Option.map_some]
        split
        ·rename_i e
         subst e
         exfalso
         simp only [freeAt, V.isOwn, Bool.not_true, Bool.false_or, Bool.and_eq_true, List.all_eq_true] at hf
         have := hf.2 _ (mem_of_look hx)
         simp [hx] at this
        ·rfl
       | _ => rfl
    ·rfl
   cases l with
   | tmp x => exact hl x
   | vb b => intro x off sz xs; simp only [putSt, hl]
   | vt b => intro x sz xs; simp only [putSt, hl]
   | _ => rfl
  ·simp at h
theorem Sim.calm {dst : Option Nat} {v : V} (h : Sim K μ (putSt dst v s) a w) (vs : List Nat) : Sim K μ (putSt dst (calmAt vs dst v) s) a w := by
 cases dst with
 | none => exact h
 | some d =>
  simp only [calmAt]
  split
  ·exact h
  ·cases v with
   | view l sz xs =>
    refine h.weaken (tm := (d, .d (.list sz xs)) :: s.tmps) fun x u hx => ?_
    simp only [putSt, setTmp]
    simp only [look] at hx ⊢
    by_cases hd : d = x
    ·subst hd
     simp only [if_true, Option.some.injEq] at hx ⊢
     exact ⟨_, rfl, .inr ⟨l, sz, xs, rfl, hx.symm⟩⟩
    ·simp only [hd, if_false] at hx ⊢
     exact ⟨u, hx, .inl rfl⟩
   | _ => exact h
theorem After.less {n m : Nat} (h : After K μ w m K' μ' w') (hn : n ≤ m) : After K μ w n K' μ' w' := ⟨h.step, fun b hb => h.mu b (by omega)⟩
theorem calmXs_back {l : List Nat} {tm : List (Nat × V)} {k : Nat} {v : V} (h : look k (calmXs l tm) = some v) : ∃ v', look k tm = some v' ∧ (v = v' ∨ ∃ l sz xs, v' = .view l sz xs ∧ v = .d (.list sz xs)) := by
 cases l with
 | nil => exact ⟨v, h, .inl rfl⟩
 | cons x l =>
  simp only [calmXs, look_calmX] at h
  split at h
  ·simp only [Option.map_eq_some_iff] at h
   obtain ⟨v', h1, rfl⟩ := h
   refine ⟨v', h1, ?_⟩
   cases v' with
   | view l sz xs => exact .inr ⟨l, sz, xs, rfl, rfl⟩
   | _ => exact .inl rfl
  ·exact ⟨v, h, .inl rfl⟩
theorem setTmp_back {d : Nat} {u : V} {tm tm' : List (Nat × V)} (hb : ∀ k v, look k tm' = some v → ∃ v', look k tm = some v' ∧ (v = v' ∨ ∃ l sz xs, v' = .view l sz xs ∧ v = .d (.list sz xs))) :
  ∀ k v, look k (setTmp d u tm') = some v → ∃ v', look k (setTmp d u tm) = some v' ∧ (v = v' ∨ ∃ l sz xs, v' = .view l sz xs ∧ v = .d (.list sz xs)) := by
 intro k v h
 unfold setTmp at h ⊢
 split
 ·rename_i sz xs
  simp only [look] at h ⊢
  by_cases hd : d = k
  ·rw [if_pos hd] at h ⊢
   exact ⟨v, h, .inl rfl⟩
  ·rw [if_neg hd] at h ⊢
   rw [look_unview] at h ⊢
   simp only [Option.map_eq_some_iff] at h
   obtain ⟨q, h1, rfl⟩ := h
   obtain ⟨q', h2, h3⟩ := hb k q h1
   rw [h2]
   refine ⟨_, rfl, ?_⟩
   rcases h3 with rfl | ⟨l, z, ys, rfl, rfl⟩
   ·exact .inl rfl
   ·simp only
    split
    ·exact .inl rfl
    ·exact .inr ⟨l, z, ys, rfl, rfl⟩
 ·rename_i hno
  have h' : look k ((d, u) :: tm') = some v := by
   cases u with
   | c x => cases x <;> first | exact h | exact absurd rfl (hno _ _)
   | _ => exact h
  simp only [look] at h' ⊢
  by_cases hd : d = k
  ·rw [if_pos hd] at h' ⊢
   exact ⟨v, h', .inl rfl⟩
  ·rw [if_neg hd] at h' ⊢
   exact hb k v h'
theorem Sim.afterApp {o : Oper} {dst : Option Nat} {v : V} (h : Sim K μ (putSt dst v s) a w) : Sim K μ (putSt dst v (AM.afterApp o s)) a w := by
 cases dst with
 | none => exact h.weaken (tm := calmXs (appX o) s.tmps) fun k v hk => calmXs_back hk
 | some d => exact h.weaken (tm := setTmp d v (calmXs (appX o) s.tmps)) (setTmp_back fun k v hk => calmXs_back hk)
theorem Sim.notedA {o : Oper} {v : V} {s' : St} {vs : List Nat} (h : Sim K μ (putDst o v s) a w) (hp : putD o.dst (calmAt vs o.dst v) (AM.afterApp o s) = some s') : Sim K μ s' a w :=
 ((Sim.calm (dst := o.dst) h vs).afterApp).same (putD_same hp)
theorem putSt_nid {dst : Option Nat} {v : V} : (putSt dst v s).nid = s.nid := by cases dst <;> rfl
theorem putD_nid {dst : Option Nat} {v : V} {s' : St} (h : putD dst v s = some s') : s'.nid = s.nid := by
 have := putD_same h .nid
 simp only [Go.AM.same, putSt_nid] at this
 exact this.symm
theorem stepD_sound {call : Call} (hcall : CallsOK P call) (hP : ProgOK P) {ops : Array Oper} {vs : List Nat} {id base i : Nat} {o : Oper} (ho : ops[i]? = some o) {t' : St} {f : Fp} (hs : Sim K μ t a w)
  (hd : ∀ d, o.dst = some d → d < a.tmps.size) (h : StepD P call ops vs id o t t' f) (hbase : base ≤ t.nid) (hmk : makesBlk o = true → id < t.nid ∧ base ≤ id ∧ Unref id t)
  {next : Act → World → Prop} {Q : Exit → Act → World → Prop}
  (hnext : ∀ K' μ' a' w', After K μ w base K' μ' w' → t.nid ≤ t'.nid → Sim K' μ' t' a' w' → a'.tmps.size = a.tmps.size → next a' w') : wpOp P ops Q i next a w := by
 unfold wpOp
 simp only [ho]
 rcases h with ⟨hw, hp, _⟩ | ⟨hw, v, t1, hop, hp⟩
 ·rw [wanted_eq hs hw]
  simp only [Bool.false_eq_true, if_false]
  refine hnext K μ _ w (After.refl _ _ _ _) (by rw [putD_nid hp]; exact Nat.le_refl _) ?_ (put_size _ _ _)
  exact (hs.put (dst := o.dst) (V := .c .undef) (v := Go.undef) hd good_undef).same (putD_same hp)
 ·rw [wanted_eq hs hw]
  simp only [if_true]
  refine .inl ?_
  cases hm : makesBlk o with
  | false =>
   rw [drawOp_old hm] at hop
   simp only [drawOld] at hop
   split at hop
   ·rename_i v0 s0 f0 h0
    simp only [Option.some.injEq, Prod.mk.injEq, ORes.val.injEq] at hop
    obtain ⟨⟨rfl, rfl⟩, _⟩ := hop
    refine op_sound hcall hP hs h0 hd ⟨?_, by simp⟩
    intro V s'' K' μ' a' w' e haf hn hs' hsz'
    simp only [ORes.val.injEq] at e
    obtain ⟨rfl, rfl⟩ := e
    exact hnext K' μ' a' w' (haf.less hbase) (by rw [putD_nid hp]; exact hn) (hs'.notedA hp) hsz'
   ·simp at hop
   ·simp at hop
  | true =>
   obtain ⟨hlt, hge, hun⟩ := hmk hm
   simp only [drawOp, hm, if_true, drawNew] at hop
   split at hop
   ·rename_i v0 cs h1
    split at hop
    ·rename_i hnone
     split at hop
     ·simp at hop
     rename_i hni
     simp only [Option.some.injEq, Prod.mk.injEq, ORes.val.injEq] at hop
     obtain ⟨⟨rfl, rfl⟩, _⟩ := hop
     have hblk : ∃ c, v0 = .c c ∧ MadeC id c ∧ DoneBlk P K t a w o c cs := by
      cases hop' : o.op with
      | alloc e =>
       obtain ⟨cs', e1, e2, e3⟩ := done_alloc (K := K) (a := a) (w := w) hop' h1
       simp only [Option.some.injEq] at e1; subst e1
       exact ⟨_, e2, .inl rfl, e3⟩
      | box e x =>
       obtain ⟨cs', e1, e2, e3⟩ := done_box (K := K) (a := a) (w := w) hop' h1
       simp only [Option.some.injEq] at e1; subst e1
       exact ⟨_, e2, .inl rfl, e3⟩
      | makeSlice e l c =>
       have hsame : sameTmp l c = true := by simpa [makesBlk, hop'] using hm
       obtain ⟨cs', c', e1, e2, e3, e4⟩ := done_makeArr (K := K) (a := a) (w := w) hop' h1 hsame ⟨_, hs⟩
       simp only [Option.some.injEq] at e1; subst e1
       exact ⟨_, e2, e3, e4⟩
      | buildSlice e n ps =>
       cases hfn : fnPs ps.toList with
       | none => simp [makesBlk, hop', hfn] at hm
       | some gs =>
        obtain ⟨cs', c', e1, e2, e3, e4⟩ := done_fns (K := K) (a := a) (w := w) hop' hfn h1 ⟨_, hs⟩
        simp only [Option.some.injEq] at e1; subst e1
        exact ⟨_, e2, e3, e4⟩
      | _ => simp [makesBlk, hop'] at hm
     obtain ⟨c0, rfl, hmc, arr, e, hrun, hcs⟩ := hblk
     simp only [Oper.wp, hrun, Oper.upon_value]
     have hom := oneMore_alloc w (.cells arr e)
     have hs1 : Sim (colNew K w.heap.size fun _ => .blk id) μ t a (w.alloc (.cells arr e)) :=
      hs.step (hom.step fun _ => .blk id) (by simp) (by simp) (by simp) (hom.bound hs.bound _)
     obtain ⟨g1, g2, g3, g4⟩ := hcs μ hs
     have hcell : ∀ i v, arr.toList[i]? = some v → (w.alloc (.cells arr e)).cell? (ad w.heap.size i) = some v ∧ (w.alloc (.cells arr e)).frozen? (ad w.heap.size i) = false := by
      intro i v hv
      refine ⟨?_, by rw [hom.frozen]; simp⟩
      rw [hom.cell]
      simpa using hv
     have g3' : ∀ c ∈ cs.map C.plain, ∀ b ∈ c.ids, b < t.nid := by
      intro c hc b hb
      simp only [List.mem_map] at hc
      obtain ⟨c', hc', rfl⟩ := hc
      rw [C.plain_ids] at hb
      exact g3 c' hc' b hb
     have g4' : ∀ c ∈ cs.map C.plain, ∀ sz xs, c ≠ .own sz xs := by
      intro c hc sz xs
      simp only [List.mem_map] at hc
      obtain ⟨c', _, rfl⟩ := hc
      cases c' <;> simp [C.plain]
     have hni' : ∀ c ∈ cs.map C.plain, id ∉ c.ids := by
      intro c hc hin
      exact hni (by simp only [List.contains_iff_mem, List.mem_flatMap]; exact ⟨c, hc, hin⟩)
     have hs2 := hs1.addAt hlt hnone hun (g := w.heap.size) (cs := cs.map C.plain) (vs := arr.toList) (by simp) (fun off => by simp [colNew]) hcell (g1.plain.step (hom.step fun _ => .blk id) (by simp)) g2 g3' hni' g4'
     have hgood : Good (colNew K w.heap.size fun _ => .blk id) (muSet μ id w.heap.size) { t with heap := (id, cs.map C.plain) :: t.heap } a (w.alloc (.cells arr e)) o.dst (.c c0) (blkVal w.heap.size c0) := by
      refine ⟨hmc.rep (muSet_same _ _ _), ?_, by intro sz xs e; rcases hmc with rfl | ⟨n, k, rfl⟩ <;> simp at e, by simp⟩
      intro b hb
      simp only [V.ids, hmc.ids, List.mem_singleton] at hb
      subst hb
      exact hlt
     refine hnext _ _ _ _ ⟨(hom.step fun _ => .blk id).none_mine, fun b hb => muSet_other μ w.heap.size (id := id) (b := b) (by omega)⟩ (by rw [putD_nid hp]; exact Nat.le_refl _) ?_ (put_size _ _ _)
     exact (hs2.put hd hgood).same (putD_same hp)
    ·simp at hop
   ·simp at hop
end
end Go.AM

namespace Go.AM
open Go
variable [Globs]
theorem same_tmp {s t : St} {x : Nat} (h : same s t (.tmp x)) : look x s.tmps = look x t.tmps := h
theorem same_blk {s t : St} {b : Nat} (h : same s t (.blk b)) : look b s.heap = look b t.heap := h
section
variable {P : Program} {call : Call} {ops : Array Oper} {vs : List Nat} {base kreg : Nat} {fs : List Fp} {Ss : Nat → St}
def Wr (fs : List Fp) (j : Nat) (l : Lc) : Prop := (fs.getD j default).all = true ∨ l ∈ (fs.getD j default).writes
def Us (fs : List Fp) (j : Nat) (l : Lc) : Prop := Wr fs j l ∨ l ∈ (fs.getD j default).reads
structure Checked (pn : Bool) (ops : Array Oper) (base : Nat) (fs : List Fp) : Prop where
 down : ∀ j o, ops[j]? = some o → ∀ e ∈ o.after, Region.binds .any e = true → e.on < j
 clash : ∀ i j l, i < j → j < ops.size → j < fs.length → (pn = true → j + 1 < fs.length) → (Wr fs i l ∧ Us fs j l ∨ Us fs i l ∧ Wr fs j l) → i ∈ (befores ops.toList []).getD j []
 loose : ∀ i j, i < j → j < ops.size → j + 1 = fs.length → pn = true → (fs.getD j default).all = true → i ∈ (befores ops.toList []).getD j [] ∨ AM.loose (ops.getD i default) (fs.getD i default) = true
 last : ∀ i j, i < j → j < ops.size → fs.length ≤ j → i + 1 = fs.length → i ∈ (befores ops.toList []).getD j []
 lead : ∀ i j o, i < fs.length → j < fs.length → ops[i]? = some o → makesBlk o = true → base + i ∈ (fs.getD j default).refs → i = j ∨ i ∈ (befores ops.toList []).getD j []
theorem not_apart {f g : Fp} {l : Lc} (h : f.apart g = true) :
  ¬ (((f.all = true ∨ l ∈ f.writes) ∧ ((g.all = true ∨ l ∈ g.writes) ∨ l ∈ g.reads)) ∨ (((f.all = true ∨ l ∈ f.writes) ∨ l ∈ f.reads) ∧ (g.all = true ∨ l ∈ g.writes))) := by
 simp only [Fp.apart, Bool.and_eq_true, Bool.not_eq_true', AM.apart, List.all_eq_true, List.contains_eq_mem, List.mem_append, decide_eq_false_iff_not, not_or] at h
 obtain ⟨⟨⟨h1, h2⟩, h3⟩, h4⟩ := h
 simp only [h1, h2, Bool.false_eq_true, false_or]
 rintro (⟨a, b | b⟩ | ⟨a | a, b⟩)
 ·exact (h3 l a).2 b
 ·exact (h3 l a).1 b
 ·exact (h3 l a).2 b
 ·exact h4 l b a
theorem checked_of {pn : Bool} (h : drawOk pn ops base fs = true) : Checked pn ops base fs := by
 simp only [drawOk, Bool.and_eq_true, List.all_eq_true, List.mem_range, Bool.or_eq_true, Bool.not_eq_true', decide_eq_true_eq, List.contains_iff_mem, beq_iff_eq] at h
 obtain ⟨h1, h2⟩ := h
 refine ⟨?_, ?_, ?_, ?_, ?_⟩
 ·intro j o ho e he hb
  have hj := (Array.getElem?_eq_some_iff.1 ho).1
  have := (h1 j hj).1 e (by simp [Array.getD, hj]; obtain ⟨_, e'⟩ := Array.getElem?_eq_some_iff.1 ho; rw [e']; exact he)
  rcases this with h | h
  ·rw [hb] at h; simp at h
  ·exact h
 ·intro i j l hij hj hjk hpn hc
  rcases (h1 j hj).2 i hij with h | h
  ·exact h
  ·rw [if_pos hjk] at h
   rcases Bool.or_eq_true _ _ |>.mp h with h | h
   ·exact absurd hc (not_apart h)
   ·simp only [Bool.and_eq_true, decide_eq_true_eq] at h
    have := hpn h.1.1
    omega
 ·intro i j hij hj hjk hpn hall
  rcases (h1 j hj).2 i hij with h | h
  ·exact .inl h
  ·rw [if_pos (by omega)] at h
   rcases Bool.or_eq_true _ _ |>.mp h with h | h
   ·exfalso; simp only [Fp.apart, hall, Bool.not_true, Bool.and_false, Bool.false_and, Bool.false_eq_true] at h
   ·simp only [Bool.and_eq_true, decide_eq_true_eq] at h
    exact .inr h.2
 ·intro i j hij hj hk hi
  rcases (h1 j hj).2 i hij with h | h
  ·exact h
  ·rw [if_neg (by omega)] at h
   simp at h; omega
 ·intro i j o hi hj ho hm hr
  have hio := (Array.getElem?_eq_some_iff.1 ho)
  have hgd : ops.getD i default = o := by simp [Array.getD, hio.1, hio.2]
  rcases h2 i hi with h | h
  ·rw [hgd, hm] at h; simp at h
  ·rcases h j hj with (h | h) | h
   ·exact .inl h
   ·exact .inr h
   ·rw [← Bool.not_eq_true, List.contains_iff_mem] at h
    exact absurd hr h
def Steps (P : Program) (call : Call) (ops : Array Oper) (vs : List Nat) (base : Nat) (fs : List Fp) (Ss : Nat → St) (kreg : Nat) : Prop :=
 kreg ≤ fs.length ∧ ∀ j, j < kreg → ∃ o f, ops[j]? = some o ∧ fs[j]? = some (f.fill (Ss (j + 1))) ∧ StepD P call ops vs (base + j) o (Ss j) (Ss (j + 1)) f
theorem makes_fresh {o : Oper} {id : Nat} {S S' : St} {f : Fp} (h : StepD P call ops vs id o S S' f) (hm : makesBlk o = true) (hw : wantedAt ops S.tmps o = some true) : look id S.heap = none ∧ Lc.blk id ∈ f.writes := by
 rcases h with ⟨hw', _, _⟩ | ⟨_, v, s1, hop, _⟩
 ·rw [hw] at hw'; simp at hw'
 ·simp only [drawOp, hm, if_true, drawNew] at hop
  split at hop
  ·split at hop
   ·rename_i hn
    split at hop
    ·simp at hop
    ·simp only [Option.some.injEq, Prod.mk.injEq] at hop
     obtain ⟨_, rfl⟩ := hop
     exact ⟨hn, by simp⟩
   ·simp at hop
  ·simp at hop
theorem step_local' {o : Oper} {id : Nat} {S S' t : St} {f : Fp} (h : StepD P call ops vs id o S S' f) (hall : f.all = false) (hr : ∀ l ∈ f.reads ++ f.writes, same S t l) :
  ∃ t' f', StepD P call ops vs id o t t' f' ∧ (∀ l ∈ f.writes, same S' t' l) ∧ (∀ l, l ∉ f.writes → same S S' l ∧ same t t' l) := by
 rcases h with h | h
 ·-- not wanted
  obtain ⟨hw, hp, rfl⟩ := h
  have hrt : ∀ u ∈ readsOf ops o, same S t (.tmp u) := fun u hu => hr _ (by simp [hu])
  obtain ⟨t', h1, h2, h3⟩ := putD_local (t := t) hp fun l hl => hr l (List.mem_append_right _ hl)
  obtain ⟨S'', h4, h5, h6⟩ := putD_local (t := S) hp fun l _ => same.refl S l
  rw [hp, Option.some.injEq] at h4; subst h4
  exact ⟨t', _, .inl ⟨by rw [← wanted_same hrt]; exact hw, h1, rfl⟩, fun l hl => h2 l (hr l (List.mem_append_right _ hl)), fun l hl => ⟨h6 l hl, h3 l hl⟩⟩
 ·refine step_local (.inr h) hall hr fun hm => ?_
  obtain ⟨hn, hb⟩ := makes_fresh (.inr h) hm h.1
  have : look id S.heap = look id t.heap := hr (.blk id) (List.mem_append_right _ hb)
  rw [← this]; exact hn
structure Inv (ops : Array Oper) (base : Nat) (fs : List Fp) (Ss : Nat → St) (kreg : Nat) (D : Nat → Prop) (t : St) : Prop where
 dom : ∀ j, D j → j < kreg
 closed : ∀ j o, ops[j]? = some o → D j → ∀ e ∈ o.after, Region.binds .any e = true → D e.on
 loc : ∀ l m, m ≤ kreg → (∀ j, j < m → Wr fs j l → D j) → (∀ j, m ≤ j → j < kreg → Wr fs j l → ¬ D j) → same (Ss m) t l
 unref : ∀ i o, i < kreg → ops[i]? = some o → makesBlk o = true → ¬ D i → Unref (base + i) t
theorem Steps.get (hst : Steps P call ops vs base fs Ss kreg) {j : Nat} (hj : j < kreg) : ∃ o f, ops[j]? = some o ∧ fs.getD j default = f.fill (Ss (j + 1)) ∧ StepD P call ops vs (base + j) o (Ss j) (Ss (j + 1)) f := by
 obtain ⟨o, f, h1, h2, h3⟩ := hst.2 j hj
 exact ⟨o, f, h1, by simp [List.getD, h2], h3⟩
theorem Steps.stay (hst : Steps P call ops vs base fs Ss kreg) {j : Nat} (hj : j < kreg) {l : Lc} (hw : ¬ Wr fs j l) : same (Ss j) (Ss (j + 1)) l := by
 obtain ⟨o, f, h1, h2, h3⟩ := hst.get hj
 unfold Wr at hw
 rw [h2] at hw
 simp only [Fp.fill, not_or, Bool.not_eq_true] at hw
 obtain ⟨t', f', _, _, h6⟩ := step_local' (t := Ss j) h3 hw.1 fun l _ => same.refl _ l
 exact (h6 l hw.2).1
theorem Steps.stays (hst : Steps P call ops vs base fs Ss kreg) {i : Nat} {l : Lc} : ∀ d, i + d ≤ kreg → (∀ j, i ≤ j → j < i + d → ¬ Wr fs j l) → same (Ss i) (Ss (i + d)) l
 | 0, _, _ => same.refl _ l
 | d + 1, hk, hw => (Steps.stays hst d (by omega) fun j h1 h2 => hw j h1 (by omega)).trans (hst.stay (j := i + d) (by omega) (hw _ (by omega) (by omega)))
theorem unref_of {id : Nat} {s : St} (h : id ∉ stRefs s) : Unref id s := by
 simp only [stRefs, List.mem_append, List.mem_flatMap, not_or, not_exists, not_and] at h
 obtain ⟨⟨h1, h2⟩, h3⟩ := h
 exact ⟨fun x V hx => h1 _ (mem_of_look hx), fun b cells hb c hc => h2 _ (mem_of_look hb) c hc, fun x hx => h3 x hx⟩
theorem Inv.next {pn : Bool} (hc : Checked pn ops base fs) (hpk : pn = true → kreg < fs.length) (hst : Steps P call ops vs base fs Ss kreg) (hk : kreg ≤ ops.size) {D : Nat → Prop} {t : St} (h : Inv ops base fs Ss kreg D t) {i : Nat} (hi : i < kreg) (hD : ¬ D i) {o : Oper} (ho : ops[i]? = some o)
  (he : ∀ e ∈ o.after, Region.binds .any e = true → D e.on) :
  ∃ t₀ t' f, (t₀ = t ∨ ∀ l, same t t₀ l) ∧ StepD P call ops vs (base + i) o t₀ t' f ∧ (makesBlk o = true → Unref (base + i) t₀) ∧ Inv ops base fs Ss kreg (fun j => j = i ∨ D j) t' := by
 have hfl := hst.1
 have below : ∀ j, D j → ∀ i', i' ∈ (befores ops.toList []).getD j [] → D i' := by
  intro j hj i' hi'
  refine befores_closed (ops := ops) (D := D) h.closed j i' hi' fun o' ho' e he' hb => h.closed j o' ho' hj e he' hb
 have before_i : ∀ i', i' ∈ (befores ops.toList []).getD i [] → D i' := by
  intro i' hi'
  refine befores_closed (ops := ops) (D := D) h.closed i i' hi' fun o' ho' e he' hb => ?_
  rw [ho, Option.some.injEq] at ho'; subst ho'
  exact he e he' hb
 have uses : ∀ l, Us fs i l → same (Ss i) t l := by
  intro l hl
  refine h.loc l i (by omega) ?_ ?_
  ·intro j hj hw
   exact before_i j (hc.clash j i l hj (by omega) (by omega) (fun h => by have := hpk h; omega) (.inl ⟨hw, hl⟩))
  ·intro j hj hjk hw hDj
   by_cases e : j = i
   ·exact hD (e ▸ hDj)
   ·exact hD (below j hDj i (hc.clash i j l (by omega) (by omega) (by omega) (fun h => by have := hpk h; omega) (.inr ⟨hl, hw⟩)))
 obtain ⟨o', f, ho', hf, hstep⟩ := hst.get hi
 rw [ho, Option.some.injEq] at ho'; subst ho'
 have hWr : ∀ l, Wr fs i l ↔ f.all = true ∨ l ∈ f.writes := by intro l; unfold Wr; rw [hf]; exact Iff.rfl
 have key : ∃ t₀ t' f', (t₀ = t ∨ ∀ l, same t t₀ l) ∧ StepD P call ops vs (base + i) o t₀ t' f' ∧ (∀ l, Wr fs i l → same (Ss (i + 1)) t' l) ∧ (∀ l, ¬ Wr fs i l → same t t' l) := by
  cases hall : f.all with
  | true =>
   refine ⟨Ss i, Ss (i + 1), f, .inr fun l => (uses l (.inl ((hWr l).2 (.inl hall)))).symm, hstep, fun l _ => same.refl _ l, fun l hl => absurd ((hWr l).2 (.inl hall)) hl⟩
  | false =>
   obtain ⟨t', f', h1, h2, h3⟩ := step_local' (t := t) hstep hall fun l hl => uses l (by
    rcases List.mem_append.1 hl with hl | hl
    ·exact .inr (by rw [hf]; exact hl)
    ·exact .inl ((hWr l).2 (.inr hl)))
   refine ⟨t, t', f', .inl rfl, h1, fun l hl => ?_, fun l hl => ?_⟩
   ·rcases (hWr l).1 hl with h | h
    ·rw [hall] at h; simp at h
    ·exact h2 l h
   ·exact (h3 l fun h => hl ((hWr l).2 (.inr h))).2
 obtain ⟨t₀, t', f', h1, h2, h3, h4⟩ := key
 refine ⟨t₀, t', f', h1, h2, ?_, ?_⟩
 ·intro hm
  have := h.unref i o hi ho hm hD
  rcases h1 with rfl | h1
  ·exact this
  ·refine ⟨fun x V hx => this.tm x V (Eq.trans (same_tmp (h1 (.tmp x))) hx), fun b cells hb => this.heap b cells (Eq.trans (same_blk (h1 (.blk b))) hb), fun x hx => this.defs x ?_⟩
   have : t.defers = t₀.defers := h1 .defs
   rw [this]; exact hx
 ·refine ⟨?_, ?_, ?_, ?_⟩
  ·rintro j (rfl | hj)
   ·exact hi
   ·exact h.dom j hj
  ·rintro j o' ho' (rfl | hj) e he' hb
   ·rw [ho, Option.some.injEq] at ho'; subst ho'
    exact .inr (he e he' hb)
   ·exact .inr (h.closed j o' ho' hj e he' hb)
  ·intro l m hm hb ha
   by_cases hw : Wr fs i l
   ·have him : i < m := by
     rcases Nat.lt_or_ge i m with h | h
     ·exact h
     ·exact absurd (.inl rfl) (ha i h hi hw)
    have hst' : same (Ss (i + 1)) (Ss m) l := by
     have := Steps.stays hst (i := i + 1) (l := l) (m - (i + 1)) (by omega) (by
      intro j hj1 hj2 hwj
      rcases hb j (by omega) hwj with e | hDj
      ·omega
      ·exact hD (below j hDj i (hc.clash i j l (by omega) (by omega) (by omega) (fun h => by have := hpk h; omega) (.inl ⟨hw, .inl hwj⟩))))
     rwa [show i + 1 + (m - (i + 1)) = m from by omega] at this
    exact hst'.symm.trans (h3 l hw)
   ·refine (h.loc l m hm ?_ ?_).trans (h4 l hw)
    ·intro j hj hwj
     rcases hb j hj hwj with e | hDj
     ·subst e; exact absurd hwj hw
     ·exact hDj
    ·intro j hj hjk hwj hDj
     exact ha j hj hjk hwj (.inr hDj)
  ·intro i' o' hi' ho' hm hD'
   have hne : i' ≠ i := fun e => hD' (.inl e)
   have hnD : ¬ D i' := fun h => hD' (.inr h)
   have hnr : base + i' ∉ (fs.getD i default).refs := by
    intro hr
    rcases hc.lead i' i o' (by omega) (by omega) ho' hm hr with e | hb
    ·exact hne e
    ·exact hnD (before_i i' hb)
   rw [hf] at hnr
   have hun := h.unref i' o' hi' ho' hm hnD
   cases hall : f.all with
   | true =>
    have hu : Unref (base + i') (Ss (i + 1)) := by
     refine unref_of ?_
     simpa [Fp.fill, hall] using hnr
    have hs : ∀ l, same (Ss (i + 1)) t' l := fun l => h3 l ((hWr l).2 (.inl hall))
    refine ⟨fun x V hx => hu.tm x V (Eq.trans (same_tmp (hs (.tmp x))) hx), fun b cells hb => hu.heap b cells (Eq.trans (same_blk (hs (.blk b))) hb), fun x hx => hu.defs x ?_⟩
    have : (Ss (i + 1)).defers = t'.defers := hs .defs
    rw [this]; exact hx
   | false =>
    have hnr' : ∀ l ∈ f.writes, base + i' ∉ lcRefs (Ss (i + 1)) l := by
     intro l hl hin
     refine hnr ?_
     simp only [Fp.fill, hall, Bool.false_eq_true, if_false, List.mem_flatMap]
     exact ⟨l, hl, hin⟩
    have hW : ∀ l, Wr fs i l → l ∈ f.writes := by
     intro l hl
     rcases (hWr l).1 hl with h | h
     ·rw [hall] at h; simp at h
     ·exact h
    refine ⟨fun x V hx => ?_, fun b cells hb => ?_, fun x hx => ?_⟩
    ·by_cases hw : Wr fs i (.tmp x)
     ·have e : look x (Ss (i + 1)).tmps = look x t'.tmps := h3 _ hw
      have := hnr' _ (hW _ hw)
      simpa [lcRefs, e, hx] using this
     ·have e : look x t.tmps = look x t'.tmps := h4 _ hw
      exact hun.tm x V (e.trans hx)
    ·by_cases hw : Wr fs i (.blk b)
     ·have e : look b (Ss (i + 1)).heap = look b t'.heap := h3 _ hw
      have := hnr' _ (hW _ hw)
      simp only [lcRefs, e, hb, List.mem_flatMap, not_exists, not_and] at this
      exact this
     ·have e : look b t.heap = look b t'.heap := h4 _ hw
      exact hun.heap b cells (e.trans hb)
    ·by_cases hw : Wr fs i .defs
     ·have e : (Ss (i + 1)).defers = t'.defers := h3 _ hw
      have := hnr' _ (hW _ hw)
      simp only [lcRefs, e, List.mem_flatMap, not_exists, not_and] at this
      exact this x hx
     ·have e : t.defers = t'.defers := h4 _ hw
      exact hun.defs x (by rw [e]; exact hx)
end
end Go.AM

namespace Go.AM
open Go
variable [Globs]
theorem count_set : ∀ (l : List Bool) (i : Nat), l[i]? = some false → (l.set i true).count false + 1 = l.count false
 | [], i, h => by simp at h
 | b :: l, 0, h => by simp at h; subst h; simp
 | b :: l, i + 1, h => by
  have := count_set l i (by simpa using h)
  cases b <;> simp [List.count_cons] <;> omega
theorem count_zero : ∀ (l : List Bool), l.count false = 0 → ∀ i, i < l.length → l[i]? = some true
 | [], _, i, h => by simp at h
 | b :: l, h, i, hi => by
  cases b with
  | false => simp at h
  | true =>
   cases i with
   | zero => rfl
   | succ i => simpa using count_zero l (by simpa using h) i (by simpa using hi)
section
variable {P : Program} {call : Call} {ops : Array Oper} {vs : List Nat} {base kreg : Nat} {fs : List Fp} {Ss : Nat → St}
theorem look_drop (xs : List Nat) : ∀ (tm : List (Nat × V)) (x : Nat), look x (tm.filter fun p => !xs.contains p.1) = if x ∈ xs then none else look x tm
 | [], x => by simp [look]
 | (y, v) :: tm, x => by
  have ih := look_drop xs tm x
  by_cases hy : y ∈ xs
  ·rw [List.filter_cons_of_neg (by simpa using hy), ih]
   simp only [look]
   by_cases e : y = x
   ·subst e; simp [hy]
   ·rw [if_neg e]
  ·rw [List.filter_cons_of_pos (by simpa using hy)]
   simp only [look, ih]
   by_cases e : y = x
   ·subst e; simp [hy]
   ·rw [if_neg e, if_neg e]
theorem same_drop {xs : List Nat} {s t : St} {l : Lc} (h : same s t l) : same (dropT xs s) (dropT xs t) l := by
 cases l <;> simp only [same, dropT, look_drop] at h ⊢
 case tmp x => rw [h]
 case blk => exact h
 case nid => exact h
 case defs => exact h
 case vb b =>
  intro x off sz ys
  split
  ·simp
  ·exact h x off sz ys
 case vt b =>
  intro x sz ys
  split
  ·simp
  ·exact h x sz ys
theorem Sim.dropped {K : Col} {μ : Nat → Nat} {w : World} {s : St} {a : Act} (h : Sim K μ s a w) (xs : List Nat) : Sim K μ (dropT xs s) a w :=
 h.weaken fun t v ht => by
  rw [look_drop] at ht
  split at ht
  ·simp at ht
  ·exact ⟨v, ht, .inl rfl⟩
def EndsD (P : Program) (call : Call) (ops : Array Oper) (vs : List Nat) (base : Nat) (fs : List Fp) (Ss : Nat → St) (kreg : Nat) (x : AX) (s' : St) : Prop :=
 (x = .normal ∧ kreg = ops.size ∧ Ss ops.size = s') ∨
 (∃ d o f, x = .pan d ∧ fs.length = kreg + 1 ∧ ops[kreg]? = some o ∧ fs[kreg]? = some f ∧ wantedAt ops (dropT (looseDst ops kreg) (Ss kreg)).tmps o = some true ∧ drawOp P call ops vs (base + kreg) o (dropT (looseDst ops kreg) (Ss kreg)) = some (.pan d s', f))
theorem pan_all {o : Oper} {id : Nat} {S s' : St} {d : D} {f : Fp} (h : drawOp P call ops vs id o S = some (.pan d s', f)) : f.all = true ∧ ∃ f0, evOp P call S.nid o S = some (.pan d s', f0) := by
 simp only [drawOp] at h
 split at h
 ·simp only [drawNew] at h
  split at h
  ·split at h
   ·split at h <;> simp at h
   ·simp at h
  ·simp at h
 ·simp only [drawOld] at h
  split at h
  ·simp at h
  ·rename_i d' s0 f0 h0
   simp only [Option.some.injEq, Prod.mk.injEq, ORes.pan.injEq] at h
   obtain ⟨⟨rfl, rfl⟩, rfl⟩ := h
   exact ⟨rfl, f0, h0⟩
  ·simp at h
def Dn (listed : Array Bool) (j : Nat) : Prop := listed.getD j false = true
theorem Dn_set {listed : Array Bool} {i : Nat} (hi : i < listed.size) : Dn (listed.setIfInBounds i true) = fun j => j = i ∨ Dn listed j := by
 funext j
 unfold Dn
 by_cases hj : i = j
 ·subst hj; simp [hi]
 ·rw [getD_set_ne false hj]
  simp [Ne.symm hj]
theorem ready_of_least {listed : Array Bool} (hsz : listed.size = ops.size) {pn : Bool} (hc : Checked pn ops base fs) (hr : Region.ready .any ops listed = []) : ∀ j, j < ops.size → Dn listed j := by
 intro j
 induction j using Nat.strongRecOn with
 | ind j ih =>
  intro hj
  rcases Bool.eq_false_or_eq_true (listed.getD j false) with h | h
  ·exact h
  ·exfalso
   have hm : j ∈ Region.ready .any ops listed := by
    rw [mem_ready]
    refine ⟨?_, ops[j], by simp [hj], fun e he hb => ?_⟩
    ·have hlt : j < listed.size := by omega
     simp only [Array.getD, hlt, dif_pos] at h ⊢
     exact h
    ·have hlt := hc.down j ops[j] (by simp [hj]) e he hb
     exact ih e.on hlt (by omega)
   rw [hr] at hm
   simp at hm
theorem draw_any (hcall : CallsOK P call) (hP : ProgOK P) {sz : Nat} (hd : ∀ o ∈ ops.toList, ∀ t, o.dst = some t → t < sz) {pn : Bool} (hc : Checked pn ops base fs) (hst : Steps P call ops vs base fs Ss kreg) (hk : kreg ≤ ops.size)
  (hpk : pn = true → kreg < fs.length) (hpn : kreg < fs.length → pn = true) {x : AX} {s' : St} (hend : EndsD P call ops vs base fs Ss kreg x s') {Q : Exit → Act → World → Prop} :
  ∀ (fuel : Nat) (listed : Array Bool) (K : Col) (μ : Nat → Nat) (t : St) (a : Act) (w : World), listed.size = ops.size → listed.toList.count false = fuel → Inv ops base fs Ss kreg (Dn listed) t →
   Sim K μ t a w → a.tmps.size = sz → base + ops.size ≤ t.nid → base ≤ s'.nid → Goal K μ w base sz x s' Q → wpAny P .any ops Q fuel listed a w := by
 have fin : ∀ {listed : Array Bool} {K : Col} {μ : Nat → Nat} {t : St} {a : Act} {w : World}, (∀ j, j < ops.size → Dn listed j) → Inv ops base fs Ss kreg (Dn listed) t →
   Sim K μ t a w → a.tmps.size = sz → base ≤ s'.nid → Goal K μ w base sz x s' Q → Q .normal a w := by
  intro listed K μ t a w hall hinv hs hsz hn hg
  rcases hend with ⟨rfl, hke, hss⟩ | ⟨d, o, f, _, hl, ho, _, _, _⟩
  ·have hsame : ∀ l, same t s' l := fun l => by
    rw [← hss, ← hke]
    exact (hinv.loc l kreg (Nat.le_refl _) (fun j hj _ => hall j (by omega)) (fun j h1 h2 => by omega)).symm
   exact hg .normal K μ a w rfl (After.refl _ _ _ _) hn (hs.same hsame) hsz
  ·exact absurd (hinv.dom kreg (hall kreg (Array.getElem?_eq_some_iff.1 ho).1)) (by omega)
 intro fuel
 induction fuel with
 | zero =>
  intro listed K μ t a w hls hcnt hinv hs hsz hnid hn hg
  have hall : ∀ j, j < ops.size → Dn listed j := by
   intro j hj
   have := count_zero _ hcnt j (by simpa [hls] using hj)
   simp only [Array.getElem?_toList] at this
   unfold Dn
   simp [Array.getD_eq_getD_getElem?, this]
  refine ⟨?_, fin hall hinv hs hsz hn hg⟩
  cases hr : Region.ready .any ops listed with
  | nil => rfl
  | cons j r =>
   have hm : j ∈ Region.ready .any ops listed := by rw [hr]; simp
   obtain ⟨h0, o, ho, _⟩ := mem_ready.1 hm
   have := hall j (Array.getElem?_eq_some_iff.1 ho).1
   unfold Dn at this
   have hlt : j < listed.size := by rw [hls]; exact (Array.getElem?_eq_some_iff.1 ho).1
   simp only [Array.getD, hlt, dif_pos] at this h0
   rw [this] at h0; simp at h0
 | succ fuel ih =>
  intro listed K μ t a w hls hcnt hinv hs hsz hnid hn hg
  refine ⟨fun hr => fin (ready_of_least hls hc hr) hinv hs hsz hn hg, fun i hi => ?_⟩
  obtain ⟨h0, o, ho, he⟩ := mem_ready.1 hi
  have hio := (Array.getElem?_eq_some_iff.1 ho).1
  have hlt : i < listed.size := by rw [hls]; exact hio
  have hli : listed[i]? = some false := by
   simp only [Array.getD, hlt, dif_pos] at h0
   simp [hlt]; exact h0
  have hnD : ¬ Dn listed i := by
   unfold Dn
   simp [Array.getD_eq_getD_getElem?, hli]
  have hom : o ∈ ops.toList := by
   have := Array.mem_of_getElem? ho
   simpa using this
  rcases Nat.lt_or_ge i kreg with hik | hik
  ·obtain ⟨t₀, t', f, h1, h2, h3, h4⟩ := hinv.next hc hpk hst hk hik hnD ho he
   have hs₀ : Sim K μ t₀ a w := by
    rcases h1 with rfl | h1
    ·exact hs
    ·exact hs.same h1
   have hn₀ : t₀.nid = t.nid := by
    rcases h1 with rfl | h1
    ·rfl
    ·exact (h1 .nid).symm
   refine stepD_sound (base := base) hcall hP ho hs₀ (fun d hd' => by rw [hsz]; exact hd o hom d hd') h2 (by omega) (fun hm => ⟨by omega, by omega, h3 hm⟩) ?_
   intro K' μ' a' w' haf hn' hs' hsz'
   refine ih (listed.setIfInBounds i true) K' μ' t' a' w' (by simp [hls]) ?_ (by rw [Dn_set hlt]; exact h4) hs' (by rw [hsz', hsz]) (by omega) hn (hg.later haf (Nat.le_refl _))
   have := count_set listed.toList i (by simpa using hli)
   rw [hcnt] at this
   simp only [Array.toList_setIfInBounds]
   omega
  ·rcases hend with ⟨_, hke, _⟩ | ⟨d, o', f, rfl, hl, ho', hf, hw, hop⟩
   ·omega
   ·have bef : ∀ i', i' ∈ (befores ops.toList []).getD i [] → Dn listed i' := by
     intro i' hi'
     refine befores_closed (ops := ops) (D := Dn listed) hinv.closed i i' hi' fun o'' ho'' e he' hb => ?_
     rw [ho, Option.some.injEq] at ho''; subst ho''
     exact he e he' hb
    rcases Nat.lt_or_ge kreg i with hlt' | hge
    ·have := hinv.dom kreg (bef kreg (hc.last kreg i hlt' hio (by omega) (by omega)))
     omega
    ·have hik' : i = kreg := by omega
     subst hik'
     rw [ho, Option.some.injEq] at ho'; subst ho'
     obtain ⟨hfa, f0, hev⟩ := pan_all hop
     have hfi : fs.getD i default = f := by simp [List.getD, hf]
     have hsame : ∀ l, same (dropT (looseDst ops i) t) (dropT (looseDst ops i) (Ss i)) l := fun l => by
      by_cases hl' : ∃ x ∈ looseDst ops i, l = .tmp x
      ·obtain ⟨x, hx, rfl⟩ := hl'
       show look x (List.filter _ _) = look x (List.filter _ _)
       rw [look_drop, look_drop, if_pos hx, if_pos hx]
      ·refine same_drop ?_
       refine (hinv.loc l i (Nat.le_refl _) (fun j hj hwj => ?_) (fun j h1 h2 => by omega)).symm
       rcases hc.loose j i hj hio (by omega) (hpn (by omega)) (by rw [hfi]; exact hfa) with h | h
       ·exact bef j h
       ·apply Classical.byContradiction; intro hnb
        simp only [AM.loose, Bool.and_eq_true, Bool.not_eq_true', List.all_eq_true] at h
        rcases hwj with h' | h'
        ·rw [h.1] at h'; simp at h'
        ·have h2 := h.2 l h'
         split at h2
         ·rename_i x hx
          rw [beq_iff_eq] at h2
          by_cases hbf : j ∈ (befores ops.toList []).getD i []
          ·exact absurd (bef j hbf) hnb
          ·refine hl' ⟨x, ?_, h2⟩
           simp only [looseDst, List.mem_filterMap, List.mem_range]
           exact ⟨j, hj, by rw [if_neg (by rw [List.contains_iff_mem]; exact hbf)]; exact hx⟩
         ·simp at h2
     have hs' := hs.dropped (looseDst ops i) |>.same hsame
     have hnn : t.nid = (dropT (looseDst ops i) (Ss i)).nid := hsame .nid
     unfold wpOp
     simp only [ho]
     rw [wanted_eq hs' hw]
     simp only [if_true]
     refine .inl (op_sound hcall hP hs' hev (fun d hd' => by rw [hsz]; exact hd o hom d hd') ⟨by simp, ?_⟩)
     intro d' s'' K' μ' w' u e haf hn' hs'' hr
     simp only [ORes.pan.injEq] at e
     obtain ⟨rfl, rfl⟩ := e
     exact hg _ K' μ' a w' ⟨u, rfl, hr⟩ (haf.less (by omega)) hn hs'' hsz
theorem Sim.up {K : Col} {μ : Nat → Nat} {w : World} {s : St} {a : Act} (h : Sim K μ s a w) (n : Nat) : Sim K μ { s with nid := s.nid + n } a w :=
 ⟨h.tm, fun t V ht b hb => by have := h.tids t V ht b hb; show b < s.nid + n; omega, h.own, h.view,
  fun b cells hc => by
   obtain ⟨h1, h2, h3⟩ := h.heap b cells hc
   exact ⟨by show b < s.nid + n; omega, fun c hc' i hi => by have := h2 c hc' i hi; show i < s.nid + n; omega, h3⟩,
  h.bound, h.defs, fun x hx b hb => by have := h.dids x hx b hb; show b < s.nid + n; omega, h.glob⟩
theorem Sim.drawn {K : Col} {μ : Nat → Nat} {w : World} {s : St} {a : Act} (h : Sim K μ s a w) (n : Nat) : Step mine K w K { w with drawn := n } ∧ Sim K μ s a { w with drawn := n } := by
 have hst : Step (fun _ => False) K w K { w with drawn := n } := ⟨rfl, rfl, rfl, Nat.le_refl _, fun _ _ _ => rfl, fun _ _ _ _ => ⟨rfl, rfl, rfl⟩⟩
 exact ⟨hst.none_mine, h.step hst (by simp) (by simp) (by simp) h.bound⟩
theorem draw_sound (hcall : CallsOK P call) (hP : ProgOK P) (hmix : P.follows .mixedOrders = true) {id sz : Nat} (hd : ∀ o ∈ ops.toList, ∀ t, o.dst = some t → t < sz) {K : Col} {μ : Nat → Nat} {w : World} {s : St} {a : Act} {x : AX} {s' : St}
  {Q : Exit → Act → World → Prop} (h : drawRegion P call ops s = some (x, s')) (hs : Sim K μ s a w) (hsz : a.tmps.size = sz) (hg : Goal K μ w s.nid sz x s' Q) :
  (Code.region id ops true).wp P Q a w := by
 unfold drawRegion at h
 split at h
 ·rename_i x' s1 fs hrun
  split at h
  ·rename_i hok
   simp only [Bool.and_eq_true, decide_eq_true_eq] at hok
   obtain ⟨hok, hnn⟩ := hok
   simp only [Option.some.injEq, Prod.mk.injEq] at h
   obtain ⟨rfl, rfl⟩ := h
   have hc := checked_of hok
   obtain ⟨Ss, h0, hcase⟩ := drawOps_run ops.toList 0 _ hrun
   obtain ⟨hdr, hs1⟩ := (hs.up ops.size).drawn (w.drawn + 1)
   have go : ∀ kreg, kreg ≤ ops.size → Steps P call ops (appended? ops) s.nid fs Ss kreg → EndsD P call ops (appended? ops) s.nid fs Ss kreg x' s1 → s.nid ≤ s1.nid → (x'.isPan = true → kreg < fs.length) → (kreg < fs.length → x'.isPan = true) → (Code.region id ops true).wp P Q a w := by
    intro kreg hk hst hend hn hp1 hp2
    refine wp_region_any hmix ?_
    refine draw_any hcall hP hd hc hst hk hp1 hp2 hend ops.size (Array.replicate ops.size false) K μ { s with nid := s.nid + ops.size } a _ (by simp) (by simp) ?_ hs1 hsz (Nat.le_refl _) hn (hg.later ⟨hdr, fun _ _ => rfl⟩ (Nat.le_refl _))
    have hno : ∀ j, ¬ Dn (Array.replicate ops.size false) j := by
     intro j h
     unfold Dn at h
     by_cases hj : j < ops.size <;> simp [Array.getD_eq_getD_getElem?, hj] at h
    refine ⟨fun j h => absurd h (hno j), fun j _ _ h => absurd h (hno j), ?_, ?_⟩
    ·intro l m hm hb _
     have := Steps.stays hst (i := 0) (l := l) m (by omega) fun j _ hj hw => hno j (hb j (by omega) hw)
     rw [Nat.zero_add, h0] at this
     exact this.symm
    ·intro i o hi ho hm _
     refine ⟨fun t V ht hb => ?_, fun b cells hb c hc' hin => ?_, fun y hy hin => ?_⟩
     ·have := hs.tids t V ht _ hb; omega
     ·have := (hs.heap b cells hb).2.1 c hc' _ hin; omega
     ·have := hs.dids y hy _ hin; omega
   rcases hcase with ⟨rfl, hl, hse, hall⟩ | ⟨d, k, o, f, rfl, hl, ho, hf, hw, hop, hall⟩
   ·refine go ops.size (Nat.le_refl _) ⟨by simp [hl], fun j hj => ?_⟩ (.inl ⟨rfl, rfl, by simpa using hse⟩) ?_ (by simp [AX.isPan]) (fun h => absurd h (by rw [hl]; simp))
    ·obtain ⟨o, f, q1, q2, q3⟩ := hall j (by simpa using hj)
     refine ⟨o, f, by simpa using q1, ?_, ?_⟩
     ·simpa using q2
     ·simpa using q3
    ·exact hnn
   ·have hkk : k < ops.size := by
     have := (List.getElem?_eq_some_iff.1 ho).1
     simpa using this
    refine go k (by omega) ⟨by omega, fun j hj => ?_⟩ (.inr ⟨d, o, f, rfl, hl, by simpa using ho, hf, by simpa using hw, by simpa using hop⟩) ?_ (by omega) (by simp [AX.isPan])
    ·obtain ⟨o, f, q1, q2, q3⟩ := hall j hj
     refine ⟨o, f, by simpa using q1, ?_, ?_⟩
     ·simpa using q2
     ·simpa using q3
    ·exact hnn
  ·simp at h
 ·simp at h
end
end Go.AM
