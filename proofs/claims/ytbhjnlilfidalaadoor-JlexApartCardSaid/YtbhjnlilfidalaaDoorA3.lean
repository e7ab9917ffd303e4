/- Part of a proof about the given program: the abstract machine, the printed functions, the plain laws. (AMDraw, AMDraw2, AMDraw3, AMDraw4, AMExec, AMAcall, AMTop, AMLogic, AMSteps, AMRun, AMWalk) -/
import Derived.Test.YtbhjnlilfidalaaDoorA2
import Derived.Below
set_option linter.all false
set_option linter.unusedSectionVars false
set_option linter.unusedVariables false
set_option linter.unusedSimpArgs false

/- One step of a region whose order is drawn. -/
namespace Go.AM
open Go
variable [Globs]

section
variable {P : Program} {call : Call} {ops : Array Oper} {vs : List Nat} {S S' t : St} {o : Oper} {id : Nat}

/-- One operation of a region whose order is drawn, wanted or not. -/
def StepD (P : Program) (call : Call) (ops : Array Oper) (vs : List Nat) (id : Nat) (o : Oper) (s s' : St) (f : Fp) : Prop :=
  (wantedAt ops s.tmps o = some false ∧ putD o.dst (.c .undef) s = some s' ∧ f = ⟨(readsOf ops o).map .tmp, dstLc o.dst (.c .undef), [], false⟩) ∨
  (wantedAt ops s.tmps o = some true ∧ ∃ v s1, drawOp P call ops vs id o s = some (.val v s1, f) ∧ putD o.dst v s1 = some s')

theorem wanted_same (h : ∀ u ∈ readsOf ops o, same S t (.tmp u)) : wantedAt ops S.tmps o = wantedAt ops t.tmps o := by
  unfold wantedAt
  cases hg : o.guard with
  | none => rfl
  | some g =>
    obtain ⟨j, want⟩ := g
    simp only
    cases hq : ops[j]? with
    | none => rfl
    | some q =>
      simp only
      cases hd : q.dst with
      | none => rfl
      | some d =>
        have : look d S.tmps = look d t.tmps := h d (by unfold readsOf; simp [hg, hq, hd])
        simp only [this]

theorem drawOp_reads {v : V} {S1 : St} {f : Fp} (h : drawOp P call ops vs id o S = some (.val v S1, f)) (hall : f.all = false) : ∀ u ∈ readsOf ops o, Lc.tmp u ∈ f.reads := by
  intro u hu
  have hm : Lc.tmp u ∈ (readsOf ops o).map Lc.tmp := List.mem_map.2 ⟨u, hu, rfl⟩
  simp only [drawOp] at h
  split at h
  · simp only [drawNew] at h
    split at h
    · split at h
      · split at h
        · simp at h
        simp only [Option.some.injEq, Prod.mk.injEq] at h
        obtain ⟨_, rfl⟩ := h
        exact hm
      · simp at h
    · simp at h
  · simp only [drawOld] at h
    split at h
    · simp only [Option.some.injEq, Prod.mk.injEq] at h
      obtain ⟨_, rfl⟩ := h
      unfold fpOf at hall ⊢
      split
      · exact List.mem_append_left _ hm
      · exact List.mem_append_left _ hm
      · exact hm
      · rename_i hk; rw [hk] at hall; simp at hall
    · simp at h
    · simp at h

theorem drawOp_local {v : V} {S1 : St} {f : Fp} (h : drawOp P call ops vs id o S = some (.val v S1, f)) (hall : f.all = false) (hr : ∀ l ∈ f.reads ++ f.writes, same S t l)
    (hid : makesBlk o = true → look id t.heap = none) : ∃ W, OpLocal P call ops vs id o S t v S1 W ∧ f.writes = dstLc o.dst v ++ W := by
  have hrt : ∀ u ∈ readsOf ops o, same S t (.tmp u) := fun u hu => hr _ (List.mem_append_left _ (drawOp_reads h hall u hu))
  have hrr : ∀ l ∈ f.reads, same S t l := fun l hl => hr l (List.mem_append_left _ hl)
  cases hm : makesBlk o with
  | true =>
    obtain ⟨h1, _, h2, _⟩ := local_makes hm h hrt (hid hm)
    exact ⟨_, h1, h2⟩
  | false =>
    have light : (∀ s, evOp P call s.nid o s = match evLight P s.nid o s with | some (r, l) => some (r, ⟨l, [], []⟩) | none => none) → (∀ f, kindOf o f = .light) →
        ∃ W, OpLocal P call ops vs id o S t v S1 W ∧ f.writes = dstLc o.dst v ++ W := by
      intro hev hk
      obtain ⟨h1, h2, _⟩ := local_light hm hev h hk hrr
      exact ⟨[], h1, by rw [h2]; simp⟩
    cases ho : o.op with
    | assign x =>
      obtain ⟨h1, h2⟩ := local_assign ho h hall hrr
      exact ⟨[], h1, by rw [h2]; simp⟩
    | store ty p x =>
      obtain ⟨b, h1, h2⟩ := local_store ho h hall hr
      exact ⟨_, h1, h2⟩
    | defer c =>
      exfalso
      rw [drawOp_old hm] at h
      simp only [drawOld] at h
      split at h
      · simp only [Option.some.injEq, Prod.mk.injEq] at h
        obtain ⟨_, rfl⟩ := h
        simp [fpOf, kindOf, ho] at hall
      · simp at h
      · simp at h
    | panic x =>
      exfalso
      rw [drawOp_old hm] at h
      simp only [drawOld] at h
      split at h
      · simp only [Option.some.injEq, Prod.mk.injEq] at h
        obtain ⟨_, rfl⟩ := h
        simp [fpOf, kindOf, ho] at hall
      · simp at h
      · simp at h
    | call c =>
      cases hc : c.callee with
      | value x =>
        obtain ⟨W, h1, h2, _⟩ := local_call ho hc h hr
        exact ⟨W, h1, h2⟩
      | invoke r m =>
        exfalso
        rw [drawOp_old hm] at h
        simp [drawOld, evOp, ho, hc] at h
      | builtin b =>
        cases b with
        | append =>
          exfalso
          rw [drawOp_old hm] at h
          simp only [drawOld] at h
          split at h
          · simp only [Option.some.injEq, Prod.mk.injEq] at h
            obtain ⟨_, rfl⟩ := h
            simp [fpOf, kindOf, ho, hc] at hall
          · simp at h
          · simp at h
        | _ =>
          refine light (fun s => ?_) (fun f => by simp [kindOf, ho, hc])
          simp only [evOp, ho, hc, evLight, readsBlk]
          cases hR : evR P s.nid o s.tmps s.heap with
          | none => rfl
          | some r =>
            obtain ⟨v, nb⟩ := r
            cases nb <;> rfl
    | alloc _ => simp [makesBlk, ho] at hm
    | box _ _ => simp [makesBlk, ho] at hm
    | _ =>
      refine light (fun s => ?_) (fun f => by simp [kindOf, ho])
      simp only [evOp, ho, evLight]
      cases hR : evR P s.nid o s.tmps s.heap with
      | none => rfl
      | some r =>
        obtain ⟨v, nb⟩ := r
        cases nb with
        | none => rfl
        | some cs => exact absurd hR (evR_none hm)

theorem step_local {f : Fp} (h : StepD P call ops vs id o S S' f) (hall : f.all = false) (hr : ∀ l ∈ f.reads ++ f.writes, same S t l) (hid : makesBlk o = true → look id t.heap = none) :
    ∃ t' f', StepD P call ops vs id o t t' f' ∧ (∀ l ∈ f.writes, same S' t' l) ∧ (∀ l, l ∉ f.writes → same S S' l ∧ same t t' l) := by
  rcases h with ⟨hw, hp, rfl⟩ | ⟨hw, v, S1, hop, hp⟩
  · have hrt : ∀ u ∈ readsOf ops o, same S t (.tmp u) := fun u hu => hr _ (by simp [hu])
    obtain ⟨t', h1, h2, h3⟩ := putD_local (t := t) hp fun l hl => hr l (List.mem_append_right _ hl)
    obtain ⟨S'', h4, h5, h6⟩ := putD_local (t := S) hp fun l _ => same.refl S l
    rw [hp, Option.some.injEq] at h4; subst h4
    exact ⟨t', _, .inl ⟨by rw [← wanted_same hrt]; exact hw, h1, rfl⟩, fun l hl => h2 l (hr l (List.mem_append_right _ hl)), fun l hl => ⟨h6 l hl, h3 l hl⟩⟩
  · have hrt : ∀ u ∈ readsOf ops o, same S t (.tmp u) := fun u hu => hr _ (List.mem_append_left _ (drawOp_reads hop hall u hu))
    obtain ⟨W, ⟨t1, f', h1, h2, h3⟩, h4⟩ := drawOp_local hop hall hr hid
    have h5 : ∀ l ∈ f.writes, same S1 t1 l := by
      intro l hl
      by_cases hW : l ∈ W
      · exact h2 l hW
      · exact ((h3 l hW).1.symm.trans (hr l (List.mem_append_right _ hl))).trans (h3 l hW).2
    obtain ⟨t', h6, h7, h8⟩ := putD_local (t := t1) hp fun l hl => h5 l (by rw [h4]; exact List.mem_append_left _ hl)
    obtain ⟨S'', h9, _, h10⟩ := putD_local (t := S1) hp fun l _ => same.refl S1 l
    rw [hp, Option.some.injEq] at h9; subst h9
    refine ⟨t', f', .inr ⟨by rw [← wanted_same hrt]; exact hw, v, t1, h1, h6⟩, fun l hl => h7 l (h5 l hl), fun l hl => ?_⟩
    rw [h4, List.mem_append, not_or] at hl
    exact ⟨(h3 l hl.2).1.trans (h10 l hl.1), (h3 l hl.2).2.trans (h8 l hl.1)⟩

/-! ### The edges -/

theorem befores_append : ∀ (l : List Oper) (acc : List (List Nat)), ∃ r, befores l acc = acc ++ r ∧ r.length = l.length
  | [], acc => ⟨[], by simp [befores]⟩
  | o :: l, acc => by
    obtain ⟨r, h1, h2⟩ := befores_append l (acc ++ [o.after.toList.foldl (fun l e => if Region.binds .any e then e.on :: (acc.getD e.on [] ++ l) else l) []])
    exact ⟨o.after.toList.foldl (fun l e => if Region.binds .any e then e.on :: (acc.getD e.on [] ++ l) else l) [] :: r, by simp only [befores]; rw [h1]; simp, by simp [h2]⟩

theorem edges_mem {acc : List (List Nat)} {i : Nat} : ∀ {es : List Edge} {l : List Nat}, i ∈ es.foldl (fun l e => if Region.binds .any e then e.on :: (acc.getD e.on [] ++ l) else l) l →
    i ∈ l ∨ ∃ e ∈ es, Region.binds .any e = true ∧ (i = e.on ∨ i ∈ acc.getD e.on [])
  | [], l, h => .inl h
  | e :: es, l, h => by
    simp only [List.foldl_cons] at h
    rcases edges_mem h with h | ⟨e', he, h1, h2⟩
    · split at h
      · rename_i hb
        simp only [List.mem_cons, List.mem_append] at h
        rcases h with h | h | h
        · exact .inr ⟨e, by simp, hb, .inl h⟩
        · exact .inr ⟨e, by simp, hb, .inr h⟩
        · exact .inl h
      · exact .inl h
    · exact .inr ⟨e', List.mem_cons_of_mem _ he, h1, h2⟩

theorem befores_get : ∀ (l : List Oper) (acc : List (List Nat)) (j i : Nat), acc.length ≤ j → i ∈ (befores l acc).getD j [] →
    ∃ o, l[j - acc.length]? = some o ∧ ∃ e ∈ o.after.toList, Region.binds .any e = true ∧ (i = e.on ∨ (e.on < j ∧ i ∈ (befores l acc).getD e.on []))
  | [], acc, j, i, hj, h => by simp only [befores] at h; simp [List.getD, List.getElem?_eq_none hj] at h
  | o :: l, acc, j, i, hj, h => by
    by_cases he : j = acc.length
    · subst he
      refine ⟨o, by simp, ?_⟩
      obtain ⟨r, h1, h2⟩ := befores_append (o :: l) acc
      obtain ⟨r', h3, h4⟩ := befores_append l (acc ++ [o.after.toList.foldl (fun l e => if Region.binds .any e then e.on :: (acc.getD e.on [] ++ l) else l) []])
      simp only [befores] at h
      rw [h3] at h
      have h5 : i ∈ o.after.toList.foldl (fun l e => if Region.binds .any e then e.on :: (acc.getD e.on [] ++ l) else l) [] := by
        simpa [List.getD] using h
      rcases edges_mem h5 with h6 | ⟨e, he, hb, h6⟩
      · simp at h6
      · refine ⟨e, he, hb, h6.imp id fun h7 => ?_⟩
        have hlt : e.on < acc.length := by
          rcases Nat.lt_or_ge e.on acc.length with h | h
          · exact h
          · simp [List.getD, List.getElem?_eq_none h] at h7
        refine ⟨hlt, ?_⟩
        rw [h1]
        simp only [List.getD, List.getElem?_append_left hlt] at h7 ⊢
        exact h7
    · have hj' : (acc ++ [o.after.toList.foldl (fun l e => if Region.binds .any e then e.on :: (acc.getD e.on [] ++ l) else l) []]).length ≤ j := by simp; omega
      obtain ⟨o', h1, h2⟩ := befores_get l _ j i hj' (by simpa only [befores] using h)
      refine ⟨o', ?_, by simpa only [befores] using h2⟩
      rw [← h1, show j - acc.length = (j - (acc.length + 1)) + 1 from by omega]
      simp

/-- What has all its edges behind it has all that is before it behind it. -/
theorem befores_closed {D : Nat → Prop} (hD : ∀ j o, ops[j]? = some o → D j → ∀ e ∈ o.after, Region.binds .any e = true → D e.on) :
    ∀ (j i : Nat), i ∈ (befores ops.toList []).getD j [] → (∀ o, ops[j]? = some o → ∀ e ∈ o.after, Region.binds .any e = true → D e.on) → D i := by
  intro j
  induction j using Nat.strongRecOn with
  | ind j ih =>
    intro i hi hj
    obtain ⟨o, h1, e, he, hb, h2⟩ := befores_get ops.toList [] j i (by simp) hi
    have ho : ops[j]? = some o := by simpa using h1
    have hon : D e.on := hj o ho e (by simpa using he) hb
    rcases h2 with rfl | ⟨hlt, h3⟩
    · exact hon
    · exact ih e.on hlt i h3 fun o' ho' e' he' hb' => hD e.on o' ho' hon e' he' hb'

/-! ### The states in the order of the text -/

theorem drawOps_run {base : Nat} : ∀ (l : List Oper) (i : Nat) (s : St) {x : AX} {s' : St} {fs : List Fp}, drawOps P call ops vs base l i s = some (x, s', fs) →
    ∃ Ss : Nat → St, Ss i = s ∧
      ((x = .normal ∧ fs.length = l.length ∧ Ss (i + l.length) = s' ∧ ∀ j, j < l.length → ∃ o f, l[j]? = some o ∧ fs[j]? = some (f.fill (Ss (i + j + 1))) ∧ StepD P call ops vs (base + (i + j)) o (Ss (i + j)) (Ss (i + j + 1)) f) ∨
       (∃ d k o f, x = .pan d ∧ fs.length = k + 1 ∧ l[k]? = some o ∧ fs[k]? = some f ∧ wantedAt ops (Ss (i + k)).tmps o = some true ∧ drawOp P call ops vs (base + (i + k)) o (Ss (i + k)) = some (.pan d s', f) ∧
        ∀ j, j < k → ∃ o f, l[j]? = some o ∧ fs[j]? = some (f.fill (Ss (i + j + 1))) ∧ StepD P call ops vs (base + (i + j)) o (Ss (i + j)) (Ss (i + j + 1)) f))
  | [], i, s, x, s', fs, h => by
    simp only [drawOps, Option.some.injEq, Prod.mk.injEq] at h
    obtain ⟨rfl, rfl, rfl⟩ := h
    exact ⟨fun _ => s, rfl, .inl ⟨rfl, rfl, rfl, by simp⟩⟩
  | o :: l, i, s, x, s', fs, h => by
    have cont : ∀ {s1 : St} {f : Fp} {fs' : List Fp}, StepD P call ops vs (base + i) o s s1 f → drawOps P call ops vs base l (i + 1) s1 = some (x, s', fs') → fs = f.fill s1 :: fs' →
        ∃ Ss : Nat → St, Ss i = s ∧
      ((x = .normal ∧ fs.length = (o :: l).length ∧ Ss (i + (o :: l).length) = s' ∧ ∀ j, j < (o :: l).length → ∃ o' f, (o :: l)[j]? = some o' ∧ fs[j]? = some (f.fill (Ss (i + j + 1))) ∧ StepD P call ops vs (base + (i + j)) o' (Ss (i + j)) (Ss (i + j + 1)) f) ∨
       (∃ d k o' f, x = .pan d ∧ fs.length = k + 1 ∧ (o :: l)[k]? = some o' ∧ fs[k]? = some f ∧ wantedAt ops (Ss (i + k)).tmps o' = some true ∧ drawOp P call ops vs (base + (i + k)) o' (Ss (i + k)) = some (.pan d s', f) ∧
        ∀ j, j < k → ∃ o' f, (o :: l)[j]? = some o' ∧ fs[j]? = some (f.fill (Ss (i + j + 1))) ∧ StepD P call ops vs (base + (i + j)) o' (Ss (i + j)) (Ss (i + j + 1)) f)) := by
      intro s1 f fs' hst hrec e
      subst e
      obtain ⟨Ss, h0, h1⟩ := drawOps_run l (i + 1) s1 hrec
      refine ⟨fun j => if j = i then s else Ss j, by simp, ?_⟩
      have step : ∀ n, (∀ j, j < n → ∃ o f, l[j]? = some o ∧ fs'[j]? = some (f.fill (Ss (i + 1 + j + 1))) ∧ StepD P call ops vs (base + (i + 1 + j)) o (Ss (i + 1 + j)) (Ss (i + 1 + j + 1)) f) →
          ∀ j, j < n + 1 → ∃ o' f', (o :: l)[j]? = some o' ∧ (f.fill s1 :: fs')[j]? = some (f'.fill (if i + j + 1 = i then s else Ss (i + j + 1))) ∧ StepD P call ops vs (base + (i + j)) o' (if i + j = i then s else Ss (i + j)) (if i + j + 1 = i then s else Ss (i + j + 1)) f' := by
        intro n hn j hj
        cases j with
        | zero => exact ⟨o, f, rfl, by simp only [Nat.add_zero]; rw [if_neg (by omega), h0]; rfl, by simp only [Nat.add_zero, if_true]; rw [if_neg (by omega), h0]; exact hst⟩
        | succ j =>
          obtain ⟨o', f', q1, q2, q3⟩ := hn j (by omega)
          refine ⟨o', f', by simpa using q1, by rw [if_neg (by omega), show i + (j + 1) + 1 = i + 1 + j + 1 from by omega]; simpa using q2, ?_⟩
          rw [if_neg (by omega), if_neg (by omega), show i + (j + 1) = i + 1 + j from by omega]
          exact q3
      rcases h1 with ⟨rfl, hl, hs', hall⟩ | ⟨d, k, o', f', rfl, hl, ho', hf', hw, hdr, hall⟩
      · refine .inl ⟨rfl, by simp [hl], ?_, step l.length hall⟩
        show (if i + (o :: l).length = i then s else Ss (i + (o :: l).length)) = s'
        rw [if_neg (by simp only [List.length_cons]; omega), ← hs']
        congr 1; simp only [List.length_cons]; omega
      · refine .inr ⟨d, k + 1, o', f', rfl, by simp [hl], by simpa using ho', by simpa using hf', ?_, ?_, step k hall⟩
        · show wantedAt ops (if i + (k + 1) = i then s else Ss (i + (k + 1))).tmps o' = some true
          rw [if_neg (by omega), show i + (k + 1) = i + 1 + k from by omega]; exact hw
        · show drawOp P call ops vs (base + (i + (k + 1))) o' (if i + (k + 1) = i then s else Ss (i + (k + 1))) = some (.pan d s', f')
          rw [if_neg (by omega), show i + (k + 1) = i + 1 + k from by omega]; exact hdr
    simp only [drawOps] at h
    split at h
    · simp at h
    · rename_i hw
      split at h
      · simp at h
      · rename_i s1 hp
        split at h
        · simp at h
        · rename_i x' s2 fs' hrec
          simp only [Option.some.injEq, Prod.mk.injEq] at h
          obtain ⟨rfl, rfl, rfl⟩ := h
          exact cont (.inl ⟨hw, hp, rfl⟩) hrec rfl
    · rename_i hw
      split at h
      · simp at h
      · rename_i d s1 f hop
        simp only [Option.some.injEq, Prod.mk.injEq] at h
        obtain ⟨rfl, rfl, rfl⟩ := h
        exact ⟨fun _ => s, rfl, .inr ⟨d, 0, o, f, rfl, rfl, rfl, rfl, hw, by simpa using hop, by simp⟩⟩
      · rename_i v s1 f hop
        split at h
        · simp at h
        · rename_i s2 hp
          split at h
          · simp at h
          · rename_i x' s3 fs' hrec
            simp only [Option.some.injEq, Prod.mk.injEq] at h
            obtain ⟨rfl, rfl, rfl⟩ := h
            exact cont (.inr ⟨hw, v, s1, hop, hp⟩) hrec rfl

end
end Go.AM

/- One step of a region whose order is drawn is one of the model's. -/
namespace Go.AM
open Go
variable [Globs]

/-- No value of a state leads to a block. -/
structure Unref (id : Nat) (s : St) : Prop where
  tm : ∀ x V, look x s.tmps = some V → id ∉ V.ids
  heap : ∀ b cells, look b s.heap = some cells → ∀ c ∈ cells, id ∉ c.ids
  defs : ∀ x ∈ s.defers, id ∉ x.2

section
variable {P : Program} {K K' : Col} {μ μ' : Nat → Nat} {w w' : World} {s t : St} {a : Act}

/-- A new block, with a number that nothing leads to. -/
theorem Sim.addAt (h : Sim K μ s a w) {id g : Nat} (hid : id < s.nid) (hnone : look id s.heap = none) (hun : Unref id s) {cs : List C} {vs : List Value} (hg : g < w.heap.size) (hK : ∀ off, K g off = .blk id)
    (hc : ∀ i v, vs[i]? = some v → w.cell? (ad g i) = some v ∧ w.frozen? (ad g i) = false) (hr : RepCs K μ w cs vs) (h1 : ∀ x ∈ vs, isOne x = true)
    (hids : ∀ c ∈ cs, ∀ b ∈ c.ids, b < s.nid) (hni : ∀ c ∈ cs, id ∉ c.ids) (hno : ∀ c ∈ cs, ∀ sz xs, c ≠ .own sz xs) :
    Sim K (muSet μ id g) { s with heap := (id, cs) :: s.heap } a w := by
  have hm : ∀ b, b ≠ id → muSet μ id g b = μ b := fun b hb => muSet_other μ g hb
  have hmu : ∀ {c : C} {v : Value}, id ∉ c.ids → RepC K μ w c v → RepC K (muSet μ id g) w c v :=
    fun hc h => h.mu fun b hb => hm b fun e => hc (e ▸ hb)
  refine ⟨?_, h.tids, h.own, ?_, ?_, h.bound, ?_, h.dids, h.glob⟩
  · intro t V ht
    exact ⟨(h.tm t V ht).1, (h.tm t V ht).2.mu fun b hb => hm b fun e => hun.tm t V ht (e ▸ hb)⟩
  · intro t l sz xs ht
    have hv := h.view t l sz xs ht
    cases l with
    | tmp u => exact hv
    | cell b off =>
      intro cells z ys h2 h3
      by_cases hb : id = b
      · subst hb
        simp only [look, if_true, Option.some.injEq] at h2; subst h2
        exact absurd rfl (hno _ (List.mem_of_getElem? h3) z ys)
      · simp only [look, hb, if_false] at h2
        rw [muSet_other μ g (Ne.symm hb)]
        exact hv cells z ys h2 h3
  · intro b cells hb
    by_cases e : id = b
    · subst e
      simp only [look, if_true, Option.some.injEq] at hb; subst hb
      refine ⟨hid, hids, ?_⟩
      refine ⟨fun off => by rw [muSet_same]; exact hK off, by rw [muSet_same]; exact hg, fun i c hi => ?_⟩
      obtain ⟨v, hv, hrv⟩ := hr.get hi
      refine ⟨v, by rw [muSet_same]; exact (hc i v hv).1, h1 v (List.mem_of_getElem? hv), by rw [muSet_same]; exact (hc i v hv).2, ?_, ?_⟩
      · exact hmu (hni c (List.mem_of_getElem? hi)) hrv
      · intro sz xs e; exact absurd e (hno c (List.mem_of_getElem? hi) sz xs)
    · simp only [look, e, if_false] at hb
      obtain ⟨k1, k2, k3, k4, k5⟩ := h.heap b cells hb
      have hbm := hm b (Ne.symm e)
      refine ⟨k1, k2, fun off => by rw [hbm]; exact k3 off, by rw [hbm]; exact k4, fun i c hi => ?_⟩
      rw [hbm]
      obtain ⟨v, hv1, hv2, hv3, hv4, hv5⟩ := k5 i c hi
      exact ⟨v, hv1, hv2, hv3, hmu (hun.heap b cells hb c (List.mem_of_getElem? hi)) hv4, hv5⟩
  · rw [h.defs]
    refine List.map_congr_left fun x hx => ?_
    unfold defOf
    congr 3
    refine List.map_congr_left fun b hb => ?_
    rw [hm b fun e => hun.defs x hx (e ▸ hb)]

theorem putD_same {dst : Option Nat} {v : V} {s' : St} (h : putD dst v s = some s') (l : Lc) : same (putSt dst v s) s' l := by
  cases dst with
  | none => simp only [putD, Option.some.injEq] at h; subst h; exact same.refl _ _
  | some d =>
    simp only [putD] at h
    split at h
    · rename_i hf
      simp only [Option.some.injEq] at h; subst h
      have hl : ∀ x, look x (setTmp d v s.tmps) = look x ((d, v) :: s.tmps) := by
        intro x
        unfold setTmp
        split
        · rename_i sz xs
          simp only [look]
          split
          · rfl
          · rw [look_unview]
            cases hx : look x s.tmps with
            | none => rfl
            | some u =>
              cases u with
              | view l z ys =>
                simp only [Option.map_some]
                split
                · rename_i e
                  subst e
                  exfalso
                  simp only [freeAt, V.isOwn, Bool.not_true, Bool.false_or, Bool.and_eq_true, List.all_eq_true] at hf
                  have := hf.2 _ (mem_of_look hx)
                  simp [hx] at this
                · rfl
              | _ => rfl
        · rfl
      cases l with
      | tmp x => exact hl x
      | vb b => intro x off sz xs; simp only [putSt, hl]
      | vt b => intro x sz xs; simp only [putSt, hl]
      | _ => rfl
    · simp at h

theorem Sim.calm {dst : Option Nat} {v : V} (h : Sim K μ (putSt dst v s) a w) (vs : List Nat) : Sim K μ (putSt dst (calmAt vs dst v) s) a w := by
  cases dst with
  | none => exact h
  | some d =>
    simp only [calmAt]
    split
    · exact h
    · cases v with
      | view l sz xs =>
        refine h.weaken (tm := (d, .d (.list sz xs)) :: s.tmps) fun x u hx => ?_
        simp only [putSt, setTmp]
        simp only [look] at hx ⊢
        by_cases hd : d = x
        · subst hd
          simp only [if_true, Option.some.injEq] at hx ⊢
          exact ⟨_, rfl, .inr ⟨l, sz, xs, rfl, hx.symm⟩⟩
        · simp only [hd, if_false] at hx ⊢
          exact ⟨u, hx, .inl rfl⟩
      | _ => exact h

theorem After.less {n m : Nat} (h : After K μ w m K' μ' w') (hn : n ≤ m) : After K μ w n K' μ' w' := ⟨h.step, fun b hb => h.mu b (by omega)⟩

/-- What an operation makes of the temporary, handed on to the state that it is noted in. -/
theorem Sim.noted {o : Oper} {v : V} {s' : St} {vs : List Nat} (h : Sim K μ (putDst o v s) a w) (hp : putD o.dst (calmAt vs o.dst v) s = some s') : Sim K μ s' a w :=
  (Sim.calm (dst := o.dst) h vs).same (putD_same hp)

theorem putSt_nid {dst : Option Nat} {v : V} : (putSt dst v s).nid = s.nid := by cases dst <;> rfl

theorem putD_nid {dst : Option Nat} {v : V} {s' : St} (h : putD dst v s = some s') : s'.nid = s.nid := by
  have := putD_same h .nid
  simp only [Go.AM.same, putSt_nid] at this
  exact this.symm

theorem stepD_sound {call : Call} (hcall : CallsOK P call) (hP : ProgOK P) {ops : Array Oper} {vs : List Nat} {id base i : Nat} {o : Oper} (ho : ops[i]? = some o) {t' : St} {f : Fp} (hs : Sim K μ t a w)
    (hd : ∀ d, o.dst = some d → d < a.tmps.size) (h : StepD P call ops vs id o t t' f) (hbase : base ≤ t.nid) (hmk : makesBlk o = true → id < t.nid ∧ base ≤ id ∧ Unref id t)
    {next : Act → World → Prop} {Q : Exit → Act → World → Prop}
    (hnext : ∀ K' μ' a' w', After K μ w base K' μ' w' → t.nid ≤ t'.nid → Sim K' μ' t' a' w' → a'.tmps.size = a.tmps.size → next a' w') : wpOp P ops Q i next a w := by
  unfold wpOp
  simp only [ho]
  rcases h with ⟨hw, hp, _⟩ | ⟨hw, v, t1, hop, hp⟩
  · rw [wanted_eq hs hw]
    simp only [Bool.false_eq_true, if_false]
    refine hnext K μ _ w (After.refl _ _ _ _) (by rw [putD_nid hp]; exact Nat.le_refl _) ?_ (put_size _ _ _)
    exact (hs.put (dst := o.dst) (V := .c .undef) (v := Go.undef) hd good_undef).same (putD_same hp)
  · rw [wanted_eq hs hw]
    simp only [if_true]
    refine .inl ?_
    cases hm : makesBlk o with
    | false =>
      rw [drawOp_old hm] at hop
      simp only [drawOld] at hop
      split at hop
      · rename_i v0 s0 f0 h0
        simp only [Option.some.injEq, Prod.mk.injEq, ORes.val.injEq] at hop
        obtain ⟨⟨rfl, rfl⟩, _⟩ := hop
        refine op_sound hcall hP hs h0 hd ⟨?_, by simp⟩
        intro V s'' K' μ' a' w' e haf hn hs' hsz'
        simp only [ORes.val.injEq] at e
        obtain ⟨rfl, rfl⟩ := e
        exact hnext K' μ' a' w' (haf.less hbase) (by rw [putD_nid hp]; exact hn) (hs'.noted hp) hsz'
      · simp at hop
      · simp at hop
    | true =>
      obtain ⟨hlt, hge, hun⟩ := hmk hm
      simp only [drawOp, hm, if_true, drawNew] at hop
      split at hop
      · rename_i v0 cs h1
        split at hop
        · rename_i hnone
          split at hop
          · simp at hop
          rename_i hni
          simp only [Option.some.injEq, Prod.mk.injEq, ORes.val.injEq] at hop
          obtain ⟨⟨rfl, rfl⟩, _⟩ := hop
          have hblk : v0 = .c (.ptr id 0) ∧ DoneBlk P K t a w o cs := by
            cases hop' : o.op with
            | alloc e =>
              obtain ⟨cs', e1, e2, e3⟩ := done_alloc (K := K) (a := a) (w := w) hop' h1
              simp only [Option.some.injEq] at e1; subst e1
              exact ⟨e2, e3⟩
            | box e x =>
              obtain ⟨cs', e1, e2, e3⟩ := done_box (K := K) (a := a) (w := w) hop' h1
              simp only [Option.some.injEq] at e1; subst e1
              exact ⟨e2, e3⟩
            | _ => simp [makesBlk, hop'] at hm
          obtain ⟨rfl, arr, e, hrun, hcs⟩ := hblk
          simp only [Oper.wp, hrun, Oper.upon_value]
          have hom := oneMore_alloc w (.cells arr e)
          have hs1 : Sim (colNew K w.heap.size fun _ => .blk id) μ t a (w.alloc (.cells arr e)) :=
            hs.step (hom.step fun _ => .blk id) (by simp) (by simp) (by simp) (hom.bound hs.bound _)
          obtain ⟨g1, g2, g3, g4⟩ := hcs μ hs
          have hcell : ∀ i v, arr.toList[i]? = some v → (w.alloc (.cells arr e)).cell? (ad w.heap.size i) = some v ∧ (w.alloc (.cells arr e)).frozen? (ad w.heap.size i) = false := by
            intro i v hv
            refine ⟨?_, by rw [hom.frozen]; simp⟩
            rw [hom.cell]
            simpa using hv
          have g3' : ∀ c ∈ cs.map C.plain, ∀ b ∈ c.ids, b < t.nid := by
            intro c hc b hb
            simp only [List.mem_map] at hc
            obtain ⟨c', hc', rfl⟩ := hc
            rw [C.plain_ids] at hb
            exact g3 c' hc' b hb
          have g4' : ∀ c ∈ cs.map C.plain, ∀ sz xs, c ≠ .own sz xs := by
            intro c hc sz xs
            simp only [List.mem_map] at hc
            obtain ⟨c', _, rfl⟩ := hc
            cases c' <;> simp [C.plain]
          have hni' : ∀ c ∈ cs.map C.plain, id ∉ c.ids := by
            intro c hc hin
            exact hni (by simp only [List.contains_iff_mem, List.mem_flatMap]; exact ⟨c, hc, hin⟩)
          have hs2 := hs1.addAt hlt hnone hun (g := w.heap.size) (cs := cs.map C.plain) (vs := arr.toList) (by simp) (fun off => by simp [colNew]) hcell (g1.plain.step (hom.step fun _ => .blk id) (by simp)) g2 g3' hni' g4'
          have hgood : Good (colNew K w.heap.size fun _ => .blk id) (muSet μ id w.heap.size) { t with heap := (id, cs.map C.plain) :: t.heap } a (w.alloc (.cells arr e)) o.dst (.c (.ptr id 0)) (.pointer (some (ad w.heap.size 0))) := by
            refine ⟨by simp only [RepV, RepC, muSet_same], ?_, by simp, by simp⟩
            intro b hb
            simp [V.ids, C.ids] at hb
            subst hb
            exact hlt
          refine hnext _ _ _ _ ⟨(hom.step fun _ => .blk id).none_mine, fun b hb => muSet_other μ w.heap.size (id := id) (b := b) (by omega)⟩ (by rw [putD_nid hp]; exact Nat.le_refl _) ?_ (put_size _ _ _)
          exact (hs2.put hd hgood).same (putD_same hp)
        · simp at hop
      · simp at hop

end
end Go.AM

/- A region whose order is drawn: all its orders come to the same. -/
namespace Go.AM
open Go
variable [Globs]

theorem same_tmp {s t : St} {x : Nat} (h : same s t (.tmp x)) : look x s.tmps = look x t.tmps := h
theorem same_blk {s t : St} {b : Nat} (h : same s t (.blk b)) : look b s.heap = look b t.heap := h

section
variable {P : Program} {call : Call} {ops : Array Oper} {vs : List Nat} {base kreg : Nat} {fs : List Fp} {Ss : Nat → St}

/-- Does an operation write a place? -/
def Wr (fs : List Fp) (j : Nat) (l : Lc) : Prop := (fs.getD j default).all = true ∨ l ∈ (fs.getD j default).writes

/-- Does an operation read or write a place? -/
def Us (fs : List Fp) (j : Nat) (l : Lc) : Prop := Wr fs j l ∨ l ∈ (fs.getD j default).reads

structure Checked (ops : Array Oper) (base : Nat) (fs : List Fp) : Prop where
  down : ∀ j o, ops[j]? = some o → ∀ e ∈ o.after, Region.binds .any e = true → e.on < j
  clash : ∀ i j l, i < j → j < ops.size → j < fs.length → (Wr fs i l ∧ Us fs j l ∨ Us fs i l ∧ Wr fs j l) → i ∈ (befores ops.toList []).getD j []
  last : ∀ i j, i < j → j < ops.size → fs.length ≤ j → i + 1 = fs.length → i ∈ (befores ops.toList []).getD j []
  lead : ∀ i j o, i < fs.length → j < fs.length → ops[i]? = some o → makesBlk o = true → base + i ∈ (fs.getD j default).refs → i = j ∨ i ∈ (befores ops.toList []).getD j []

theorem not_apart {f g : Fp} {l : Lc} (h : f.apart g = true) :
    ¬ (((f.all = true ∨ l ∈ f.writes) ∧ ((g.all = true ∨ l ∈ g.writes) ∨ l ∈ g.reads)) ∨ (((f.all = true ∨ l ∈ f.writes) ∨ l ∈ f.reads) ∧ (g.all = true ∨ l ∈ g.writes))) := by
  simp only [Fp.apart, Bool.and_eq_true, Bool.not_eq_true', AM.apart, List.all_eq_true, List.contains_eq_mem, List.mem_append, decide_eq_false_iff_not, not_or] at h
  obtain ⟨⟨⟨h1, h2⟩, h3⟩, h4⟩ := h
  simp only [h1, h2, Bool.false_eq_true, false_or]
  rintro (⟨a, b | b⟩ | ⟨a | a, b⟩)
  · exact (h3 l a).2 b
  · exact (h3 l a).1 b
  · exact (h3 l a).2 b
  · exact h4 l b a

theorem checked_of (h : drawOk ops base fs = true) : Checked ops base fs := by
  simp only [drawOk, Bool.and_eq_true, List.all_eq_true, List.mem_range, Bool.or_eq_true, Bool.not_eq_true', decide_eq_true_eq, List.contains_iff_mem, beq_iff_eq] at h
  obtain ⟨h1, h2⟩ := h
  refine ⟨?_, ?_, ?_, ?_⟩
  · intro j o ho e he hb
    have hj := (Array.getElem?_eq_some_iff.1 ho).1
    have := (h1 j hj).1 e (by simp [Array.getD, hj]; obtain ⟨_, e'⟩ := Array.getElem?_eq_some_iff.1 ho; rw [e']; exact he)
    rcases this with h | h
    · rw [hb] at h; simp at h
    · exact h
  · intro i j l hij hj hjk hc
    rcases (h1 j hj).2 i hij with h | h
    · exact h
    · rw [if_pos hjk] at h
      exact absurd hc (not_apart h)
  · intro i j hij hj hk hi
    rcases (h1 j hj).2 i hij with h | h
    · exact h
    · rw [if_neg (by omega)] at h
      simp at h; omega
  · intro i j o hi hj ho hm hr
    have hio := (Array.getElem?_eq_some_iff.1 ho)
    have hgd : ops.getD i default = o := by simp [Array.getD, hio.1, hio.2]
    rcases h2 i hi with h | h
    · rw [hgd, hm] at h; simp at h
    · rcases h j hj with (h | h) | h
      · exact .inl h
      · exact .inr h
      · rw [← Bool.not_eq_true, List.contains_iff_mem] at h
        exact absurd hr h

/-- The steps in the order of the text. -/
def Steps (P : Program) (call : Call) (ops : Array Oper) (vs : List Nat) (base : Nat) (fs : List Fp) (Ss : Nat → St) (kreg : Nat) : Prop :=
  kreg ≤ fs.length ∧ ∀ j, j < kreg → ∃ o f, ops[j]? = some o ∧ fs[j]? = some (f.fill (Ss (j + 1))) ∧ StepD P call ops vs (base + j) o (Ss j) (Ss (j + 1)) f

theorem makes_fresh {o : Oper} {id : Nat} {S S' : St} {f : Fp} (h : StepD P call ops vs id o S S' f) (hm : makesBlk o = true) (hw : wantedAt ops S.tmps o = some true) : look id S.heap = none ∧ Lc.blk id ∈ f.writes := by
  rcases h with ⟨hw', _, _⟩ | ⟨_, v, s1, hop, _⟩
  · rw [hw] at hw'; simp at hw'
  · simp only [drawOp, hm, if_true, drawNew] at hop
    split at hop
    · split at hop
      · rename_i hn
        split at hop
        · simp at hop
        · simp only [Option.some.injEq, Prod.mk.injEq] at hop
          obtain ⟨_, rfl⟩ := hop
          exact ⟨hn, by simp⟩
      · simp at hop
    · simp at hop

/-- As 'step_local', with what is fresh seen to. -/
theorem step_local' {o : Oper} {id : Nat} {S S' t : St} {f : Fp} (h : StepD P call ops vs id o S S' f) (hall : f.all = false) (hr : ∀ l ∈ f.reads ++ f.writes, same S t l) :
    ∃ t' f', StepD P call ops vs id o t t' f' ∧ (∀ l ∈ f.writes, same S' t' l) ∧ (∀ l, l ∉ f.writes → same S S' l ∧ same t t' l) := by
  rcases h with h | h
  · -- not wanted
    obtain ⟨hw, hp, rfl⟩ := h
    have hrt : ∀ u ∈ readsOf ops o, same S t (.tmp u) := fun u hu => hr _ (by simp [hu])
    obtain ⟨t', h1, h2, h3⟩ := putD_local (t := t) hp fun l hl => hr l (List.mem_append_right _ hl)
    obtain ⟨S'', h4, h5, h6⟩ := putD_local (t := S) hp fun l _ => same.refl S l
    rw [hp, Option.some.injEq] at h4; subst h4
    exact ⟨t', _, .inl ⟨by rw [← wanted_same hrt]; exact hw, h1, rfl⟩, fun l hl => h2 l (hr l (List.mem_append_right _ hl)), fun l hl => ⟨h6 l hl, h3 l hl⟩⟩
  · refine step_local (.inr h) hall hr fun hm => ?_
    obtain ⟨hn, hb⟩ := makes_fresh (.inr h) hm h.1
    have : look id S.heap = look id t.heap := hr (.blk id) (List.mem_append_right _ hb)
    rw [← this]; exact hn

/-- What is known of the state when some operations are done. -/
structure Inv (ops : Array Oper) (base : Nat) (fs : List Fp) (Ss : Nat → St) (kreg : Nat) (D : Nat → Prop) (t : St) : Prop where
  dom : ∀ j, D j → j < kreg
  closed : ∀ j o, ops[j]? = some o → D j → ∀ e ∈ o.after, Region.binds .any e = true → D e.on
  loc : ∀ l m, m ≤ kreg → (∀ j, j < m → Wr fs j l → D j) → (∀ j, m ≤ j → j < kreg → Wr fs j l → ¬ D j) → same (Ss m) t l
  unref : ∀ i o, i < kreg → ops[i]? = some o → makesBlk o = true → ¬ D i → Unref (base + i) t

theorem Steps.get (hst : Steps P call ops vs base fs Ss kreg) {j : Nat} (hj : j < kreg) : ∃ o f, ops[j]? = some o ∧ fs.getD j default = f.fill (Ss (j + 1)) ∧ StepD P call ops vs (base + j) o (Ss j) (Ss (j + 1)) f := by
  obtain ⟨o, f, h1, h2, h3⟩ := hst.2 j hj
  exact ⟨o, f, h1, by simp [List.getD, h2], h3⟩

theorem Steps.stay (hst : Steps P call ops vs base fs Ss kreg) {j : Nat} (hj : j < kreg) {l : Lc} (hw : ¬ Wr fs j l) : same (Ss j) (Ss (j + 1)) l := by
  obtain ⟨o, f, h1, h2, h3⟩ := hst.get hj
  unfold Wr at hw
  rw [h2] at hw
  simp only [Fp.fill, not_or, Bool.not_eq_true] at hw
  obtain ⟨t', f', _, _, h6⟩ := step_local' (t := Ss j) h3 hw.1 fun l _ => same.refl _ l
  exact (h6 l hw.2).1

theorem Steps.stays (hst : Steps P call ops vs base fs Ss kreg) {i : Nat} {l : Lc} : ∀ d, i + d ≤ kreg → (∀ j, i ≤ j → j < i + d → ¬ Wr fs j l) → same (Ss i) (Ss (i + d)) l
  | 0, _, _ => same.refl _ l
  | d + 1, hk, hw => (Steps.stays hst d (by omega) fun j h1 h2 => hw j h1 (by omega)).trans (hst.stay (j := i + d) (by omega) (hw _ (by omega) (by omega)))

theorem unref_of {id : Nat} {s : St} (h : id ∉ stRefs s) : Unref id s := by
  simp only [stRefs, List.mem_append, List.mem_flatMap, not_or, not_exists, not_and] at h
  obtain ⟨⟨h1, h2⟩, h3⟩ := h
  exact ⟨fun x V hx => h1 _ (mem_of_look hx), fun b cells hb c hc => h2 _ (mem_of_look hb) c hc, fun x hx => h3 x hx⟩

/-- One more operation is done. -/
theorem Inv.next (hc : Checked ops base fs) (hst : Steps P call ops vs base fs Ss kreg) (hk : kreg ≤ ops.size) {D : Nat → Prop} {t : St} (h : Inv ops base fs Ss kreg D t) {i : Nat} (hi : i < kreg) (hD : ¬ D i) {o : Oper} (ho : ops[i]? = some o)
    (he : ∀ e ∈ o.after, Region.binds .any e = true → D e.on) :
    ∃ t₀ t' f, (t₀ = t ∨ ∀ l, same t t₀ l) ∧ StepD P call ops vs (base + i) o t₀ t' f ∧ (makesBlk o = true → Unref (base + i) t₀) ∧ Inv ops base fs Ss kreg (fun j => j = i ∨ D j) t' := by
  have hfl := hst.1
  -- what is done, is done with all that is before it
  have below : ∀ j, D j → ∀ i', i' ∈ (befores ops.toList []).getD j [] → D i' := by
    intro j hj i' hi'
    refine befores_closed (ops := ops) (D := D) h.closed j i' hi' fun o' ho' e he' hb => h.closed j o' ho' hj e he' hb
  have before_i : ∀ i', i' ∈ (befores ops.toList []).getD i [] → D i' := by
    intro i' hi'
    refine befores_closed (ops := ops) (D := D) h.closed i i' hi' fun o' ho' e he' hb => ?_
    rw [ho, Option.some.injEq] at ho'; subst ho'
    exact he e he' hb
  -- what it uses, is as it was in the order of the text
  have uses : ∀ l, Us fs i l → same (Ss i) t l := by
    intro l hl
    refine h.loc l i (by omega) ?_ ?_
    · intro j hj hw
      exact before_i j (hc.clash j i l hj (by omega) (by omega) (.inl ⟨hw, hl⟩))
    · intro j hj hjk hw hDj
      by_cases e : j = i
      · exact hD (e ▸ hDj)
      · exact hD (below j hDj i (hc.clash i j l (by omega) (by omega) (by omega) (.inr ⟨hl, hw⟩)))
  obtain ⟨o', f, ho', hf, hstep⟩ := hst.get hi
  rw [ho, Option.some.injEq] at ho'; subst ho'
  have hWr : ∀ l, Wr fs i l ↔ f.all = true ∨ l ∈ f.writes := by intro l; unfold Wr; rw [hf]; exact Iff.rfl
  -- the state behind it
  have key : ∃ t₀ t' f', (t₀ = t ∨ ∀ l, same t t₀ l) ∧ StepD P call ops vs (base + i) o t₀ t' f' ∧ (∀ l, Wr fs i l → same (Ss (i + 1)) t' l) ∧ (∀ l, ¬ Wr fs i l → same t t' l) := by
    cases hall : f.all with
    | true =>
      refine ⟨Ss i, Ss (i + 1), f, .inr fun l => (uses l (.inl ((hWr l).2 (.inl hall)))).symm, hstep, fun l _ => same.refl _ l, fun l hl => absurd ((hWr l).2 (.inl hall)) hl⟩
    | false =>
      obtain ⟨t', f', h1, h2, h3⟩ := step_local' (t := t) hstep hall fun l hl => uses l (by
        rcases List.mem_append.1 hl with hl | hl
        · exact .inr (by rw [hf]; exact hl)
        · exact .inl ((hWr l).2 (.inr hl)))
      refine ⟨t, t', f', .inl rfl, h1, fun l hl => ?_, fun l hl => ?_⟩
      · rcases (hWr l).1 hl with h | h
        · rw [hall] at h; simp at h
        · exact h2 l h
      · exact (h3 l fun h => hl ((hWr l).2 (.inr h))).2
  obtain ⟨t₀, t', f', h1, h2, h3, h4⟩ := key
  refine ⟨t₀, t', f', h1, h2, ?_, ?_⟩
  · intro hm
    have := h.unref i o hi ho hm hD
    rcases h1 with rfl | h1
    · exact this
    · refine ⟨fun x V hx => this.tm x V (Eq.trans (same_tmp (h1 (.tmp x))) hx), fun b cells hb => this.heap b cells (Eq.trans (same_blk (h1 (.blk b))) hb), fun x hx => this.defs x ?_⟩
      have : t.defers = t₀.defers := h1 .defs
      rw [this]; exact hx
  · refine ⟨?_, ?_, ?_, ?_⟩
    · rintro j (rfl | hj)
      · exact hi
      · exact h.dom j hj
    · rintro j o' ho' (rfl | hj) e he' hb
      · rw [ho, Option.some.injEq] at ho'; subst ho'
        exact .inr (he e he' hb)
      · exact .inr (h.closed j o' ho' hj e he' hb)
    · intro l m hm hb ha
      by_cases hw : Wr fs i l
      · have him : i < m := by
          rcases Nat.lt_or_ge i m with h | h
          · exact h
          · exact absurd (.inl rfl) (ha i h hi hw)
        have hst' : same (Ss (i + 1)) (Ss m) l := by
          have := Steps.stays hst (i := i + 1) (l := l) (m - (i + 1)) (by omega) (by
            intro j hj1 hj2 hwj
            rcases hb j (by omega) hwj with e | hDj
            · omega
            · exact hD (below j hDj i (hc.clash i j l (by omega) (by omega) (by omega) (.inl ⟨hw, .inl hwj⟩))))
          rwa [show i + 1 + (m - (i + 1)) = m from by omega] at this
        exact hst'.symm.trans (h3 l hw)
      · refine (h.loc l m hm ?_ ?_).trans (h4 l hw)
        · intro j hj hwj
          rcases hb j hj hwj with e | hDj
          · subst e; exact absurd hwj hw
          · exact hDj
        · intro j hj hjk hwj hDj
          exact ha j hj hjk hwj (.inr hDj)
    · intro i' o' hi' ho' hm hD'
      have hne : i' ≠ i := fun e => hD' (.inl e)
      have hnD : ¬ D i' := fun h => hD' (.inr h)
      have hnr : base + i' ∉ (fs.getD i default).refs := by
        intro hr
        rcases hc.lead i' i o' (by omega) (by omega) ho' hm hr with e | hb
        · exact hne e
        · exact hnD (before_i i' hb)
      rw [hf] at hnr
      have hun := h.unref i' o' hi' ho' hm hnD
      cases hall : f.all with
      | true =>
        have hu : Unref (base + i') (Ss (i + 1)) := by
          refine unref_of ?_
          simpa [Fp.fill, hall] using hnr
        have hs : ∀ l, same (Ss (i + 1)) t' l := fun l => h3 l ((hWr l).2 (.inl hall))
        refine ⟨fun x V hx => hu.tm x V (Eq.trans (same_tmp (hs (.tmp x))) hx), fun b cells hb => hu.heap b cells (Eq.trans (same_blk (hs (.blk b))) hb), fun x hx => hu.defs x ?_⟩
        have : (Ss (i + 1)).defers = t'.defers := hs .defs
        rw [this]; exact hx
      | false =>
        have hnr' : ∀ l ∈ f.writes, base + i' ∉ lcRefs (Ss (i + 1)) l := by
          intro l hl hin
          refine hnr ?_
          simp only [Fp.fill, hall, Bool.false_eq_true, if_false, List.mem_flatMap]
          exact ⟨l, hl, hin⟩
        have hW : ∀ l, Wr fs i l → l ∈ f.writes := by
          intro l hl
          rcases (hWr l).1 hl with h | h
          · rw [hall] at h; simp at h
          · exact h
        refine ⟨fun x V hx => ?_, fun b cells hb => ?_, fun x hx => ?_⟩
        · by_cases hw : Wr fs i (.tmp x)
          · have e : look x (Ss (i + 1)).tmps = look x t'.tmps := h3 _ hw
            have := hnr' _ (hW _ hw)
            simpa [lcRefs, e, hx] using this
          · have e : look x t.tmps = look x t'.tmps := h4 _ hw
            exact hun.tm x V (e.trans hx)
        · by_cases hw : Wr fs i (.blk b)
          · have e : look b (Ss (i + 1)).heap = look b t'.heap := h3 _ hw
            have := hnr' _ (hW _ hw)
            simp only [lcRefs, e, hb, List.mem_flatMap, not_exists, not_and] at this
            exact this
          · have e : look b t.heap = look b t'.heap := h4 _ hw
            exact hun.heap b cells (e.trans hb)
        · by_cases hw : Wr fs i .defs
          · have e : (Ss (i + 1)).defers = t'.defers := h3 _ hw
            have := hnr' _ (hW _ hw)
            simp only [lcRefs, e, List.mem_flatMap, not_exists, not_and] at this
            exact this x hx
          · have e : t.defers = t'.defers := h4 _ hw
            exact hun.defs x (by rw [e]; exact hx)

end
end Go.AM

/- A region whose order is drawn comes to what it comes to in the order of the text. -/
namespace Go.AM
open Go
variable [Globs]

theorem count_set : ∀ (l : List Bool) (i : Nat), l[i]? = some false → (l.set i true).count false + 1 = l.count false
  | [], i, h => by simp at h
  | b :: l, 0, h => by simp at h; subst h; simp
  | b :: l, i + 1, h => by
    have := count_set l i (by simpa using h)
    cases b <;> simp [List.count_cons] <;> omega

theorem count_zero : ∀ (l : List Bool), l.count false = 0 → ∀ i, i < l.length → l[i]? = some true
  | [], _, i, h => by simp at h
  | b :: l, h, i, hi => by
    cases b with
    | false => simp at h
    | true =>
      cases i with
      | zero => rfl
      | succ i => simpa using count_zero l (by simpa using h) i (by simpa using hi)

section
variable {P : Program} {call : Call} {ops : Array Oper} {vs : List Nat} {base kreg : Nat} {fs : List Fp} {Ss : Nat → St}

/-- How the operations of a region end, in the order of the text. -/
def EndsD (P : Program) (call : Call) (ops : Array Oper) (vs : List Nat) (base : Nat) (fs : List Fp) (Ss : Nat → St) (kreg : Nat) (x : AX) (s' : St) : Prop :=
  (x = .normal ∧ kreg = ops.size ∧ Ss ops.size = s') ∨
  (∃ d o f, x = .pan d ∧ fs.length = kreg + 1 ∧ ops[kreg]? = some o ∧ fs[kreg]? = some f ∧ wantedAt ops (Ss kreg).tmps o = some true ∧ drawOp P call ops vs (base + kreg) o (Ss kreg) = some (.pan d s', f))

theorem pan_all {o : Oper} {id : Nat} {S s' : St} {d : D} {f : Fp} (h : drawOp P call ops vs id o S = some (.pan d s', f)) : f.all = true ∧ ∃ f0, evOp P call S.nid o S = some (.pan d s', f0) := by
  simp only [drawOp] at h
  split at h
  · simp only [drawNew] at h
    split at h
    · split at h
      · split at h <;> simp at h
      · simp at h
    · simp at h
  · simp only [drawOld] at h
    split at h
    · simp at h
    · rename_i d' s0 f0 h0
      simp only [Option.some.injEq, Prod.mk.injEq, ORes.pan.injEq] at h
      obtain ⟨⟨rfl, rfl⟩, rfl⟩ := h
      exact ⟨rfl, f0, h0⟩
    · simp at h

/-- The operations that are listed. -/
def Dn (listed : Array Bool) (j : Nat) : Prop := listed.getD j false = true

theorem Dn_set {listed : Array Bool} {i : Nat} (hi : i < listed.size) : Dn (listed.setIfInBounds i true) = fun j => j = i ∨ Dn listed j := by
  funext j
  unfold Dn
  by_cases hj : i = j
  · subst hj; simp [hi]
  · rw [getD_set_ne false hj]
    simp [Ne.symm hj]

theorem ready_of_least {listed : Array Bool} (hsz : listed.size = ops.size) (hc : Checked ops base fs) (hr : Region.ready .any ops listed = []) : ∀ j, j < ops.size → Dn listed j := by
  intro j
  induction j using Nat.strongRecOn with
  | ind j ih =>
    intro hj
    rcases Bool.eq_false_or_eq_true (listed.getD j false) with h | h
    · exact h
    · exfalso
      have hm : j ∈ Region.ready .any ops listed := by
        rw [mem_ready]
        refine ⟨?_, ops[j], by simp [hj], fun e he hb => ?_⟩
        · have hlt : j < listed.size := by omega
          simp only [Array.getD, hlt, dif_pos] at h ⊢
          exact h
        · have hlt := hc.down j ops[j] (by simp [hj]) e he hb
          exact ih e.on hlt (by omega)
      rw [hr] at hm
      simp at hm

theorem draw_any (hcall : CallsOK P call) (hP : ProgOK P) {sz : Nat} (hd : ∀ o ∈ ops.toList, ∀ t, o.dst = some t → t < sz) (hc : Checked ops base fs) (hst : Steps P call ops vs base fs Ss kreg) (hk : kreg ≤ ops.size)
    {x : AX} {s' : St} (hend : EndsD P call ops vs base fs Ss kreg x s') {Q : Exit → Act → World → Prop} :
    ∀ (fuel : Nat) (listed : Array Bool) (K : Col) (μ : Nat → Nat) (t : St) (a : Act) (w : World), listed.size = ops.size → listed.toList.count false = fuel → Inv ops base fs Ss kreg (Dn listed) t →
      Sim K μ t a w → a.tmps.size = sz → base + ops.size ≤ t.nid → base ≤ s'.nid → Goal K μ w base sz x s' Q → wpAny P .any ops Q fuel listed a w := by
  have fin : ∀ {listed : Array Bool} {K : Col} {μ : Nat → Nat} {t : St} {a : Act} {w : World}, (∀ j, j < ops.size → Dn listed j) → Inv ops base fs Ss kreg (Dn listed) t →
      Sim K μ t a w → a.tmps.size = sz → base ≤ s'.nid → Goal K μ w base sz x s' Q → Q .normal a w := by
    intro listed K μ t a w hall hinv hs hsz hn hg
    rcases hend with ⟨rfl, hke, hss⟩ | ⟨d, o, f, _, hl, ho, _, _, _⟩
    · have hsame : ∀ l, same t s' l := fun l => by
        rw [← hss, ← hke]
        exact (hinv.loc l kreg (Nat.le_refl _) (fun j hj _ => hall j (by omega)) (fun j h1 h2 => by omega)).symm
      exact hg .normal K μ a w rfl (After.refl _ _ _ _) hn (hs.same hsame) hsz
    · exact absurd (hinv.dom kreg (hall kreg (Array.getElem?_eq_some_iff.1 ho).1)) (by omega)
  intro fuel
  induction fuel with
  | zero =>
    intro listed K μ t a w hls hcnt hinv hs hsz hnid hn hg
    have hall : ∀ j, j < ops.size → Dn listed j := by
      intro j hj
      have := count_zero _ hcnt j (by simpa [hls] using hj)
      simp only [Array.getElem?_toList] at this
      unfold Dn
      simp [Array.getD_eq_getD_getElem?, this]
    refine ⟨?_, fin hall hinv hs hsz hn hg⟩
    cases hr : Region.ready .any ops listed with
    | nil => rfl
    | cons j r =>
      have hm : j ∈ Region.ready .any ops listed := by rw [hr]; simp
      obtain ⟨h0, o, ho, _⟩ := mem_ready.1 hm
      have := hall j (Array.getElem?_eq_some_iff.1 ho).1
      unfold Dn at this
      have hlt : j < listed.size := by rw [hls]; exact (Array.getElem?_eq_some_iff.1 ho).1
      simp only [Array.getD, hlt, dif_pos] at this h0
      rw [this] at h0; simp at h0
  | succ fuel ih =>
    intro listed K μ t a w hls hcnt hinv hs hsz hnid hn hg
    refine ⟨fun hr => fin (ready_of_least hls hc hr) hinv hs hsz hn hg, fun i hi => ?_⟩
    obtain ⟨h0, o, ho, he⟩ := mem_ready.1 hi
    have hio := (Array.getElem?_eq_some_iff.1 ho).1
    have hlt : i < listed.size := by rw [hls]; exact hio
    have hli : listed[i]? = some false := by
      simp only [Array.getD, hlt, dif_pos] at h0
      simp [hlt]; exact h0
    have hnD : ¬ Dn listed i := by
      unfold Dn
      simp [Array.getD_eq_getD_getElem?, hli]
    have hom : o ∈ ops.toList := by
      have := Array.mem_of_getElem? ho
      simpa using this
    rcases Nat.lt_or_ge i kreg with hik | hik
    · obtain ⟨t₀, t', f, h1, h2, h3, h4⟩ := hinv.next hc hst hk hik hnD ho he
      have hs₀ : Sim K μ t₀ a w := by
        rcases h1 with rfl | h1
        · exact hs
        · exact hs.same h1
      have hn₀ : t₀.nid = t.nid := by
        rcases h1 with rfl | h1
        · rfl
        · exact (h1 .nid).symm
      refine stepD_sound (base := base) hcall hP ho hs₀ (fun d hd' => by rw [hsz]; exact hd o hom d hd') h2 (by omega) (fun hm => ⟨by omega, by omega, h3 hm⟩) ?_
      intro K' μ' a' w' haf hn' hs' hsz'
      refine ih (listed.setIfInBounds i true) K' μ' t' a' w' (by simp [hls]) ?_ (by rw [Dn_set hlt]; exact h4) hs' (by rw [hsz', hsz]) (by omega) hn (hg.later haf (Nat.le_refl _))
      have := count_set listed.toList i (by simpa using hli)
      rw [hcnt] at this
      simp only [Array.toList_setIfInBounds]
      omega
    · rcases hend with ⟨_, hke, _⟩ | ⟨d, o', f, rfl, hl, ho', hf, hw, hop⟩
      · omega
      · have bef : ∀ i', i' ∈ (befores ops.toList []).getD i [] → Dn listed i' := by
          intro i' hi'
          refine befores_closed (ops := ops) (D := Dn listed) hinv.closed i i' hi' fun o'' ho'' e he' hb => ?_
          rw [ho, Option.some.injEq] at ho''; subst ho''
          exact he e he' hb
        rcases Nat.lt_or_ge kreg i with hlt' | hge
        · have := hinv.dom kreg (bef kreg (hc.last kreg i hlt' hio (by omega) (by omega)))
          omega
        · have hik' : i = kreg := by omega
          subst hik'
          rw [ho, Option.some.injEq] at ho'; subst ho'
          obtain ⟨hfa, f0, hev⟩ := pan_all hop
          have hfi : fs.getD i default = f := by simp [List.getD, hf]
          have hsame : ∀ l, same t (Ss i) l := fun l => by
            refine (hinv.loc l i (Nat.le_refl _) (fun j hj hwj => ?_) (fun j h1 h2 => by omega)).symm
            refine bef j (hc.clash j i l hj hio (by omega) (.inl ⟨hwj, .inl (.inl ?_)⟩))
            rw [hfi]; exact hfa
          have hs' := hs.same hsame
          have hnn : t.nid = (Ss i).nid := hsame .nid
          unfold wpOp
          simp only [ho]
          rw [wanted_eq hs' hw]
          simp only [if_true]
          refine .inl (op_sound hcall hP hs' hev (fun d hd' => by rw [hsz]; exact hd o hom d hd') ⟨by simp, ?_⟩)
          intro d' s'' K' μ' w' u e haf hn' hs'' hr
          simp only [ORes.pan.injEq] at e
          obtain ⟨rfl, rfl⟩ := e
          exact hg _ K' μ' a w' ⟨u, rfl, hr⟩ (haf.less (by omega)) hn hs'' hsz

theorem Sim.up {K : Col} {μ : Nat → Nat} {w : World} {s : St} {a : Act} (h : Sim K μ s a w) (n : Nat) : Sim K μ { s with nid := s.nid + n } a w :=
  ⟨h.tm, fun t V ht b hb => by have := h.tids t V ht b hb; show b < s.nid + n; omega, h.own, h.view,
    fun b cells hc => by
      obtain ⟨h1, h2, h3⟩ := h.heap b cells hc
      exact ⟨by show b < s.nid + n; omega, fun c hc' i hi => by have := h2 c hc' i hi; show i < s.nid + n; omega, h3⟩,
    h.bound, h.defs, fun x hx b hb => by have := h.dids x hx b hb; show b < s.nid + n; omega, h.glob⟩

theorem Sim.drawn {K : Col} {μ : Nat → Nat} {w : World} {s : St} {a : Act} (h : Sim K μ s a w) (n : Nat) : Step mine K w K { w with drawn := n } ∧ Sim K μ s a { w with drawn := n } := by
  have hst : Step (fun _ => False) K w K { w with drawn := n } := ⟨rfl, rfl, rfl, Nat.le_refl _, fun _ _ _ => rfl, fun _ _ _ _ => ⟨rfl, rfl, rfl⟩⟩
  exact ⟨hst.none_mine, h.step hst (by simp) (by simp) (by simp) h.bound⟩

theorem draw_sound (hcall : CallsOK P call) (hP : ProgOK P) (hmix : P.follows .mixedOrders = true) {id sz : Nat} (hd : ∀ o ∈ ops.toList, ∀ t, o.dst = some t → t < sz) {K : Col} {μ : Nat → Nat} {w : World} {s : St} {a : Act} {x : AX} {s' : St}
    {Q : Exit → Act → World → Prop} (h : drawRegion P call ops s = some (x, s')) (hs : Sim K μ s a w) (hsz : a.tmps.size = sz) (hg : Goal K μ w s.nid sz x s' Q) :
    (Code.region id ops true).wp P Q a w := by
  unfold drawRegion at h
  split at h
  · rename_i x' s1 fs hrun
    split at h
    · rename_i hok
      simp only [Bool.and_eq_true, decide_eq_true_eq] at hok
      obtain ⟨hok, hnn⟩ := hok
      simp only [Option.some.injEq, Prod.mk.injEq] at h
      obtain ⟨rfl, rfl⟩ := h
      have hc := checked_of hok
      obtain ⟨Ss, h0, hcase⟩ := drawOps_run ops.toList 0 _ hrun
      obtain ⟨hdr, hs1⟩ := (hs.up ops.size).drawn (w.drawn + 1)
      have go : ∀ kreg, kreg ≤ ops.size → Steps P call ops (appended? ops) s.nid fs Ss kreg → EndsD P call ops (appended? ops) s.nid fs Ss kreg x' s1 → s.nid ≤ s1.nid → (Code.region id ops true).wp P Q a w := by
        intro kreg hk hst hend hn
        refine wp_region_any hmix ?_
        refine draw_any hcall hP hd hc hst hk hend ops.size (Array.replicate ops.size false) K μ { s with nid := s.nid + ops.size } a _ (by simp) (by simp) ?_ hs1 hsz (Nat.le_refl _) hn (hg.later ⟨hdr, fun _ _ => rfl⟩ (Nat.le_refl _))
        have hno : ∀ j, ¬ Dn (Array.replicate ops.size false) j := by
          intro j h
          unfold Dn at h
          by_cases hj : j < ops.size <;> simp [Array.getD_eq_getD_getElem?, hj] at h
        refine ⟨fun j h => absurd h (hno j), fun j _ _ h => absurd h (hno j), ?_, ?_⟩
        · intro l m hm hb _
          have := Steps.stays hst (i := 0) (l := l) m (by omega) fun j _ hj hw => hno j (hb j (by omega) hw)
          rw [Nat.zero_add, h0] at this
          exact this.symm
        · intro i o hi ho hm _
          refine ⟨fun t V ht hb => ?_, fun b cells hb c hc' hin => ?_, fun y hy hin => ?_⟩
          · have := hs.tids t V ht _ hb; omega
          · have := (hs.heap b cells hb).2.1 c hc' _ hin; omega
          · have := hs.dids y hy _ hin; omega
      rcases hcase with ⟨rfl, hl, hse, hall⟩ | ⟨d, k, o, f, rfl, hl, ho, hf, hw, hop, hall⟩
      · refine go ops.size (Nat.le_refl _) ⟨by simp [hl], fun j hj => ?_⟩ (.inl ⟨rfl, rfl, by simpa using hse⟩) ?_
        · obtain ⟨o, f, q1, q2, q3⟩ := hall j (by simpa using hj)
          refine ⟨o, f, by simpa using q1, ?_, ?_⟩
          · simpa using q2
          · simpa using q3
        · exact hnn
      · have hkk : k < ops.size := by
          have := (List.getElem?_eq_some_iff.1 ho).1
          simpa using this
        refine go k (by omega) ⟨by omega, fun j hj => ?_⟩ (.inr ⟨d, o, f, rfl, hl, by simpa using ho, hf, by simpa using hw, by simpa using hop⟩) ?_
        · obtain ⟨o, f, q1, q2, q3⟩ := hall j hj
          refine ⟨o, f, by simpa using q1, ?_, ?_⟩
          · simpa using q2
          · simpa using q3
        · exact hnn
    · simp at h
  · simp at h

end
end Go.AM

/- Code, and calls: the abstract machine's answer is the model's. -/
namespace Go.AM
open Go
variable [Globs]

section
variable {P : Program} {K K' : Col} {μ μ' : Nat → Nat} {w w' : World} {s : St} {a : Act}

def exitOf : AX → Exit
  | .normal => .normal
  | .exit id => .exit id
  | .ret => .ret
  | .pan _ => .normal

theorem iter_sound {f : St → Option (AX × St)} {keep : List Nat} {n sz : Nat} {c : Code} {x : AX} {s' : St} {Q : Exit → Act → World → Prop}
    (hf : ∀ {K : Col} {μ : Nat → Nat} {w : World} {s : St} {a : Act} {x : AX} {s' : St} {Q : Exit → Act → World → Prop}, f s = some (x, s') → Sim K μ s a w → a.tmps.size = sz → Goal K μ w s.nid sz x s' Q → c.wp P Q a w) :
    ∀ (k : Nat) (K : Col) (μ : Nat → Nat) (s : St) (a : Act) (w : World), iter f (cleanAt keep n) k s = some (x, s') → Sim K μ s a w → a.tmps.size = sz → n ≤ s.nid → Goal K μ w n sz x s' Q → Code.rounds P c Q k a w
  | 0, K, μ, s, a, w, h, _, _, _, _ => by simp [iter] at h
  | k + 1, K, μ, s, a, w, h, hs, hsz, hn, hg => by
    simp only [iter] at h
    rw [rounds_succ]
    split at h
    · simp at h
    · rename_i s1 hc
      obtain ⟨hs1, hn1, _⟩ := hs.clean hc
      split at h
      · rename_i s2 hf2
        refine hf hf2 hs1 hsz ?_
        intro e K' μ' a' w' ho ha hn2 hs2 hsz2
        simp only [Out] at ho
        subst ho
        rw [hn1] at ha hn2
        exact iter_sound hf k K' μ' s2 a' w' h hs2 hsz2 hn2 (hg.later ha (Nat.le_refl _))
      · rename_i r hnot
        cases hr : f s1 with
        | none => rw [hr] at h; simp at h
        | some r' =>
          obtain ⟨x', s2⟩ := r'
          rw [hr] at h
          have hx' : x' ≠ .normal := by
            intro e; subst e
            exact hnot s2 hr
          simp only [Option.some.injEq, Prod.mk.injEq] at h
          obtain ⟨rfl, rfl⟩ := h
          refine hf hr hs1 hsz ?_
          intro e K' μ' a' w' ho ha hn2 hs2 hsz2
          rw [hn1] at ha hn2
          have hq := hg e K' μ' a' w' ho ha hn2 hs2 hsz2
          cases e with
          | normal => cases x' <;> simp [Out] at ho; exact absurd rfl hx'
          | _ => exact hq

theorem settle_some {h : List Nat} {n sz : Nat} {r : Option (AX × St)} {x : AX} {s' : St} (hr : settle h n r = some (x, s')) :
    ∃ s0, r = some (x, s0) ∧ ∀ {K : Col} {μ : Nat → Nat} {w : World} {Q : Exit → Act → World → Prop}, Goal K μ w n sz x s' Q → Goal K μ w n sz x s0 Q := by
  unfold settle at hr
  split at hr
  · rename_i s0
    split at hr
    · simp only [Option.some.injEq, Prod.mk.injEq] at hr
      obtain ⟨rfl, rfl⟩ := hr
      exact ⟨_, rfl, fun h => h⟩
    · split at hr
      · rename_i s1 hc
        simp only [Option.some.injEq, Prod.mk.injEq] at hr
        obtain ⟨rfl, rfl⟩ := hr
        refine ⟨_, rfl, fun hg e K' μ' a' w' ho ha hn hs hsz => ?_⟩
        obtain ⟨h1, h2, _⟩ := hs.clean hc
        exact hg e K' μ' a' w' ho ha (by omega) h1 hsz
      · simp at hr
  · exact ⟨_, hr, fun h => h⟩

theorem leaves_some {id : Nat} {r : Option (AX × St)} {x : AX} {s' : St} (hr : leaves id r = some (x, s')) :
    (x = .normal ∧ r = some (.exit id, s')) ∨ (r = some (x, s') ∧ x ≠ .exit id) := by
  unfold leaves at hr
  split at hr
  · rename_i id' s0
    split at hr
    · rename_i he
      simp only [Option.some.injEq, Prod.mk.injEq] at hr
      obtain ⟨rfl, rfl⟩ := hr
      exact .inl ⟨rfl, by rw [he]⟩
    · rename_i he
      simp only [Option.some.injEq, Prod.mk.injEq] at hr
      obtain ⟨rfl, rfl⟩ := hr
      exact .inr ⟨rfl, by simpa using he⟩
  · rename_i hno
    refine .inr ⟨hr, ?_⟩
    rintro rfl
    exact hno _ _ hr

theorem aexec_sound {H : Nat → List Nat} {call : Call} {rounds sz : Nat} (hcall : CallsOK P call) (hP : ProgOK P) :
    ∀ (c : Code) {K : Col} {μ : Nat → Nat} {w : World} {s : St} {a : Act} {x : AX} {s' : St} {Q : Exit → Act → World → Prop}, dstsBelow sz c = true → aexec P H call rounds c s = some (x, s') →
      Sim K μ s a w → a.tmps.size = sz → Goal K μ w s.nid sz x s' Q → c.wp P Q a w
  | .skip, K, μ, w, s, a, x, s', Q, _, h, hs, hsz, hg => by
    simp only [aexec, Option.some.injEq, Prod.mk.injEq] at h
    obtain ⟨rfl, rfl⟩ := h
    exact wp_skip (hg _ K μ a w rfl (After.refl _ _ _ _) (Nat.le_refl _) hs hsz)
  | .label l, K, μ, w, s, a, x, s', Q, _, h, hs, hsz, hg => by
    simp only [aexec, Option.some.injEq, Prod.mk.injEq] at h
    obtain ⟨rfl, rfl⟩ := h
    exact wp_label (hg _ K μ a w rfl (After.refl _ _ _ _) (Nat.le_refl _) hs hsz)
  | .ret, K, μ, w, s, a, x, s', Q, _, h, hs, hsz, hg => by
    simp only [aexec, Option.some.injEq, Prod.mk.injEq] at h
    obtain ⟨rfl, rfl⟩ := h
    exact wp_ret (hg _ K μ a w rfl (After.refl _ _ _ _) (Nat.le_refl _) hs hsz)
  | .exit id, K, μ, w, s, a, x, s', Q, _, h, hs, hsz, hg => by
    simp only [aexec, Option.some.injEq, Prod.mk.injEq] at h
    obtain ⟨rfl, rfl⟩ := h
    exact wp_exit (hg _ K μ a w rfl (After.refl _ _ _ _) (Nat.le_refl _) hs hsz)
  | .seq c d, K, μ, w, s, a, x, s', Q, hd, h, hs, hsz, hg => by
    simp only [dstsBelow, Bool.and_eq_true] at hd
    simp only [aexec] at h
    refine wp_seq ?_
    split at h
    · rename_i s1 h1
      refine aexec_sound hcall hP c hd.1 h1 hs hsz ?_
      intro e K' μ' a' w' ho ha hn hs1 hsz1
      simp only [Out] at ho; subst ho
      exact aexec_sound hcall hP d hd.2 h hs1 hsz1 (hg.later ha hn)
    · rename_i r hnot
      cases hr : aexec P H call rounds c s with
      | none => rw [hr] at h; simp at h
      | some r' =>
        obtain ⟨x', s2⟩ := r'
        rw [hr] at h
        have hx' : x' ≠ .normal := by intro e; subst e; exact hnot s2 hr
        simp only [Option.some.injEq, Prod.mk.injEq] at h
        obtain ⟨rfl, rfl⟩ := h
        refine aexec_sound hcall hP c hd.1 hr hs hsz ?_
        intro e K' μ' a' w' ho ha hn hs1 hsz1
        have hq := hg e K' μ' a' w' ho ha hn hs1 hsz1
        cases e with
        | normal => cases x' <;> simp [Out] at ho; exact absurd rfl hx'
        | _ => exact hq
  | .cond o c d, K, μ, w, s, a, x, s', Q, hd, h, hs, hsz, hg => by
    simp only [dstsBelow, Bool.and_eq_true] at hd
    simp only [aexec] at h
    split at h
    · rename_i ho
      have hr := ev_rep hs ho
      simp only [RepV, RepC, Rep] at hr
      obtain ⟨s0, h0, hgo⟩ := settle_some (sz := sz) h
      exact wp_cond_true hr (aexec_sound hcall hP c hd.1 h0 hs hsz (hgo hg))
    · rename_i ho
      have hr := ev_rep hs ho
      simp only [RepV, RepC, Rep] at hr
      obtain ⟨s0, h0, hgo⟩ := settle_some (sz := sz) h
      exact wp_cond_false hr (aexec_sound hcall hP d hd.2 h0 hs hsz (hgo hg))
    · simp at h
  | .block id c, K, μ, w, s, a, x, s', Q, hd, h, hs, hsz, hg => by
    simp only [dstsBelow] at hd
    simp only [aexec] at h
    obtain ⟨s0, h0, hgo⟩ := settle_some (sz := sz) h
    replace hg := hgo hg
    refine wp_block ?_
    rcases leaves_some h0 with ⟨rfl, h1⟩ | ⟨h1, hne⟩
    · refine aexec_sound hcall hP c hd h1 hs hsz ?_
      intro e K' μ' a' w' ho ha hn hs1 hsz1
      simp only [Out] at ho; subst ho
      simp only [Exit.inBlock, if_true]
      exact hg _ K' μ' a' w' rfl ha hn hs1 hsz1
    · refine aexec_sound hcall hP c hd h1 hs hsz ?_
      intro e K' μ' a' w' ho ha hn hs1 hsz1
      have hq := hg e K' μ' a' w' ho ha hn hs1 hsz1
      cases e with
      | exit id' =>
        cases x <;> simp [Out] at ho
        subst ho
        simp only [Exit.inBlock]
        rw [if_neg (by intro e; exact hne (by rw [e]))]
        exact hq
      | _ => exact hq
  | .scope c, K, μ, w, s, a, x, s', Q, hd, h, hs, hsz, hg => by
    simp only [dstsBelow] at hd
    simp only [aexec] at h
    refine wp_scope_straight ?_
    refine aexec_sound hcall hP c hd h hs hsz ?_
    intro e K' μ' a' w' ho ha hn hs1 hsz1
    have hq := hg e K' μ' a' w' ho ha hn hs1 hsz1
    cases e with
    | goto l => cases x <;> simp [Out] at ho
    | _ => exact hq
  | .loop c, K, μ, w, s, a, x, s', Q, hd, h, hs, hsz, hg => by
    simp only [dstsBelow] at hd
    simp only [aexec] at h
    exact wp_loop_rounds rounds (iter_sound (fun h1 h2 h3 h4 => aexec_sound hcall hP c hd h1 h2 h3 h4) rounds K μ s a w h hs hsz (Nat.le_refl _) hg)
  | .region id ops draw, K, μ, w, s, a, x, s', Q, hd, h, hs, hsz, hg => by
    simp only [dstsBelow, List.all_eq_true] at hd
    have hd' : ∀ o ∈ ops.toList, ∀ t, o.dst = some t → t < sz := by
      intro o ho t ht
      have := hd o ho
      rw [ht] at this
      simpa using this
    simp only [aexec] at h
    have hk := hs.keep (H id)
    cases draw with
    | true =>
      simp only [if_true] at h
      exact draw_sound hcall hP hP.mixed hd' h hk hsz hg
    | false =>
      simp only [Bool.false_eq_true, if_false] at h
      split at h
      · rename_i x1 s1 fs hev
        simp only [Option.some.injEq, Prod.mk.injEq] at h
        obtain ⟨rfl, rfl⟩ := h
        refine wp_region ?_
        have := evOps_sound hcall hP hd' ops.toList 0 K μ _ a w [] (by simp) hev hk hsz hg
        rw [List.range_eq_range']
        simpa using this
      · simp at h
  | .rangeFunc _ _ _ _, K, μ, w, s, a, x, s', Q, _, h, _, _, _ => by simp [aexec] at h
  | .goto _, K, μ, w, s, a, x, s', Q, _, h, _, _, _ => by simp [aexec] at h
  | .refuse _, K, μ, w, s, a, x, s', Q, _, h, _, _, _ => by simp [aexec] at h

end
end Go.AM

/- The abstract machine's calls are the model's. -/
namespace Go.AM
open Go
variable [Globs]

theorem dstsBelow_mono {n m : Nat} (h : n ≤ m) : ∀ c : Code, dstsBelow n c = true → dstsBelow m c = true
  | .region _ ops _, hd => by
    simp only [dstsBelow, List.all_eq_true] at hd ⊢
    intro o ho
    have := hd o ho
    cases hdst : o.dst with
    | none => rfl
    | some d =>
      rw [hdst] at this
      simp only [decide_eq_true_eq] at this ⊢
      exact Nat.lt_of_lt_of_le this h
  | .seq a b, hd => by
    simp only [dstsBelow, Bool.and_eq_true] at hd ⊢
    exact ⟨dstsBelow_mono h a hd.1, dstsBelow_mono h b hd.2⟩
  | .cond _ a b, hd => by
    simp only [dstsBelow, Bool.and_eq_true] at hd ⊢
    exact ⟨dstsBelow_mono h a hd.1, dstsBelow_mono h b hd.2⟩
  | .block _ c, hd => by simp only [dstsBelow] at hd ⊢; exact dstsBelow_mono h c hd
  | .loop c, hd => by simp only [dstsBelow] at hd ⊢; exact dstsBelow_mono h c hd
  | .scope c, hd => by simp only [dstsBelow] at hd ⊢; exact dstsBelow_mono h c hd
  | .skip, _ | .label _, _ | .ret, _ | .exit _, _ | .goto _, _ | .refuse _, _ => rfl
  | .rangeFunc _ _ _ _, _ => rfl

theorem look_zipIdx' {α : Type} : ∀ {l : List α} {n k : Nat}, look k (zipIdx' n l) = if n ≤ k then l[k - n]? else none
  | [], n, k => by simp [zipIdx', look]
  | x :: l, n, k => by
    simp only [zipIdx', look]
    by_cases h : n = k
    · subst h; simp
    · rw [if_neg h, look_zipIdx']
      by_cases h1 : n ≤ k
      · rw [if_pos (by omega), if_pos h1, show k - n = (k - (n + 1)) + 1 from by omega]; simp
      · rw [if_neg (by omega), if_neg h1]

def resSem (tmps : Array Value) : ResultVar → Sem Value
  | .tmp t => pure (tmps.getD t Go.undef)
  | .cell p t => do loadVar t (← asAddr (tmps.getD p Go.undef))

theorem results_eq (fn : Func) (tmps : Array Value) : results fn tmps = (do
    let vs ← fn.results.mapM (resSem tmps)
    pure (if h : vs.size = 1 then vs[0] else .tuple vs)) := by
  unfold results
  congr 2

section
variable {P : Program} {K K' : Col} {μ μ' : Nat → Nat} {w w' : World} {s : St} {a : Act}

theorem resC_run (hs : Sim K μ s a w) {r : ResultVar} {c : C} (h : resC P s r = some c) :
    ∃ u, (resSem a.tmps r).run P w = .ok u w ∧ RepC K μ w c u ∧
      (∀ b ∈ c.ids, b < s.nid) ∧ ∀ sz xs, c ≠ .own sz xs := by
  cases r with
  | tmp t =>
    simp only [resC, Option.map_eq_some_iff, Option.bind_eq_some_iff] at h
    obtain ⟨c', ⟨v, hv, hc⟩, rfl⟩ := h
    obtain ⟨_, hr⟩ := hs.tm t v hv
    exact ⟨_, rfl, C.still_rep (argC_rep hr hc).1, fun b hb => hs.tids t v hv b (argC_ids hc b (by rw [C.still_ids] at hb; exact hb)), by intro sz xs; cases c' <;> simp [C.still]⟩
  | cell p t =>
    simp only [resC] at h
    split at h
    · rename_i b off hp
      have hpr := (hs.tm p _ hp).2
      simp only [RepV, RepC] at hpr
      split at h
      · rename_i cs hb
        obtain ⟨vs, hrv, hcv⟩ := (hs.heap b cs hb).2.2.vals
        split at h
        · rename_i n ht hn
          split at h
          · rename_i hle
            simp only [Option.map_eq_some_iff] at h
            obtain ⟨ds, hds, rfl⟩ := h
            have hl := loadVar_agg (P := P) (w := w) ht hn (μ b) off ((vs.drop off).take n) (by have := hrv.length; simp; omega)
              (fun i v hv => by
                rw [List.getElem?_take] at hv
                split at hv
                · rw [get_drop] at hv; exact (hcv _ v hv).1
                · simp at hv)
            refine ⟨_, by simp only [resSem, hpr, asAddr, Sem.run_bind, Sem.run_pure, Result.andThen_ok]; exact hl, ?_, by simp [C.ids], by simp⟩
            simp only [RepC, Rep]
            refine ⟨_, rfl, allD_rep hds ((hrv.drop off).take n) ?_⟩
            intro u hu
            obtain ⟨i, hi⟩ := List.getElem?_of_mem (List.mem_of_mem_drop (List.mem_of_mem_take hu))
            exact (hcv i u hi).2.1
          · simp at h
        · rename_i ht
          simp only [Option.map_eq_some_iff] at h
          obtain ⟨c', hc', rfl⟩ := h
          obtain ⟨v, hv1, hv2⟩ := hrv.get hc'
          refine ⟨v, by simp only [resSem, hpr, asAddr, Sem.run_bind, Sem.run_pure, Result.andThen_ok]; exact loadVar_one ht _ _ _ (hcv off v hv1).1, C.still_rep hv2, ?_, by intro sz xs; cases c' <;> simp [C.still]⟩
          intro i hi
          rw [C.still_ids] at hi
          exact (hs.heap b cs hb).2.1 c' (List.mem_of_getElem? hc') i hi
        · simp at h
      · simp at h
    · simp at h

theorem results_list (hs : Sim K μ s a w) : ∀ {rs : List ResultVar} {cs : List C}, mapM? (resC P s) rs = some cs →
    ∃ us, (rs.mapM (resSem a.tmps)).run P w = .ok us w ∧
      RepCs K μ w cs us ∧ (∀ c ∈ cs, (∀ b ∈ c.ids, b < s.nid) ∧ ∀ sz xs, c ≠ .own sz xs)
  | [], cs, h => by
    simp only [mapM?, Option.some.injEq] at h; subst h
    exact ⟨[], by simp, .nil, by simp⟩
  | r :: rs, cs, h => by
    simp only [mapM?] at h
    split at h
    · rename_i c cs' hc hcs
      simp only [Option.some.injEq] at h; subst h
      obtain ⟨u, h1, h2, h3, h4⟩ := resC_run hs hc
      obtain ⟨us, h5, h6, h7⟩ := results_list hs hcs
      refine ⟨u :: us, ?_, .cons h2 h6, ?_⟩
      · simp only [List.mapM_cons, Sem.run_bind, h1, Result.andThen_ok, h5, Sem.run_pure]
      · intro x hx
        rcases List.mem_cons.1 hx with rfl | hx
        · exact ⟨h3, h4⟩
        · exact h7 x hx
    · simp at h

theorem resV_run (hs : Sim K μ s a w) {fn : Func} {v : V} (h : resV P s fn.results.toList = some v) :
    ∃ u, (results fn a.tmps).run P w = .ok u w ∧ RepV K μ w v u ∧ (∀ b ∈ v.ids, b < s.nid) ∧ PlainV v := by
  unfold resV at h
  have harr : ∀ us : List Value, (fn.results.toList.mapM (resSem a.tmps)).run P w = .ok us w →
      (results fn a.tmps).run P w = .ok (if h : us.toArray.size = 1 then us.toArray[0] else .tuple us.toArray) w := by
    intro us hu
    rw [results_eq, Sem.run_bind, Array.mapM_eq_mapM_toList, Sem.run_map, hu]
    rfl
  split at h
  · rename_i c hm
    simp only [Option.some.injEq] at h; subst h
    obtain ⟨us, h1, h2, h3⟩ := results_list hs hm
    cases h2 with
    | cons hc hn =>
      cases hn with
      | nil =>
        rename_i u
        refine ⟨u, ?_, hc, ?_, ?_⟩
        · rw [harr _ h1]; rfl
        · exact (h3 c (by simp)).1
        · refine ⟨fun sz xs e => ?_, by simp⟩
          simp only [V.c.injEq] at e
          exact (h3 c (by simp)).2 sz xs e
  · rename_i cs hno hm
    simp only [Option.some.injEq] at h; subst h
    obtain ⟨us, h1, h2, h3⟩ := results_list hs hm
    have hl : us.toArray.size ≠ 1 := by
      intro e
      have h4 := h2.length
      have h5 : cs.length = 1 := by simpa [h4] using e
      match cs, h5 with
      | [c], _ => exact hno c rfl
    refine ⟨.tuple us.toArray, ?_, ⟨us, rfl, h2⟩, ?_, by simp [PlainV]⟩
    · rw [harr _ h1]
      rw [dif_neg hl]
    · intro b hb
      simp only [V.ids, List.mem_flatMap] at hb
      obtain ⟨c, hc, hb⟩ := hb
      exact (h3 c hc).1 b hb
  · simp at h

theorem outBlks_rep (hs : Sim K μ s a w) {n : Nat} {extra ids : List Nat} {lh' : List (List C)} (h : outBlks s.heap n extra = some (ids, lh')) :
    HRep (fun b o => tagIn ids (K b o)) (fun i => μ (ids.getD i 0)) w lh' ∧ lh'.length = ids.length ∧ (∃ r, ids = idsFrom 0 n ++ r) := by
  unfold outBlks at h
  split at h
  · simp at h
  · split at h
    · simp at h
    · rename_i ids' hr
      split at h
      · rename_i lh hlh
        simp only [Option.some.injEq, Prod.mk.injEq] at h
        obtain ⟨rfl, rfl⟩ := h
        obtain ⟨h1, h2, h3⟩ := reach_spec hr (idsFrom_nodup 0 n)
        obtain ⟨h4, h5⟩ := hrep_into hs h1 hlh
        exact ⟨h4, h5, h2⟩
      · simp at h

theorem V.into_rep {ids : List Nat} (hK : ∀ b o, K b o = .ro → K' b o = .ro) (hμ : ∀ i b, ids[i]? = some b → μ' i = μ b) {c c' : V} {v : Value} (hc : V.into ids c = some c') (h : RepV K μ w c v)
    (hp : PlainV c) : RepV K' μ' w c' v ∧ (∀ b ∈ c'.ids, b < ids.length) ∧ PlainV c' := by
  have many : ∀ {cs cs' : List C} {vs : List Value}, mapM? (C.into ids) cs = some cs' → RepCs K μ w cs vs → RepCs K' μ' w cs' vs ∧ ∀ c ∈ cs', ∀ b ∈ c.ids, b < ids.length := by
    intro cs cs' vs hm hr
    refine ⟨hr.mapM hm fun c c' v h1 h2 => (AM.into_rep hK hμ h1 h2).1, ?_⟩
    intro c' hc' b hb
    obtain ⟨i, hi⟩ := List.getElem?_of_mem hc'
    obtain ⟨c, hci, hcc⟩ := mapM?_get hm hi
    obtain ⟨u, _, hru⟩ := hr.get hci
    exact (AM.into_rep hK hμ hcc hru).2.1 b hb
  cases c with
  | c x =>
    simp only [V.into, Option.map_eq_some_iff] at hc
    obtain ⟨x', hx, rfl⟩ := hc
    obtain ⟨h1, h2, h3⟩ := AM.into_rep (μ' := μ') hK hμ hx h
    refine ⟨h1, h2, ?_, by simp⟩
    intro sz xs e
    simp only [V.c.injEq] at e
    exact hp.1 sz xs (by rw [(h3 sz xs).1 e])
  | view l sz xs => exact absurd rfl (hp.2 l sz xs)
  | rptr cs =>
    simp only [V.into, Option.some.injEq] at hc; subst hc
    obtain ⟨blk, off, vs, h1, h2, h3⟩ := h
    exact ⟨⟨blk, off, vs, h1, fun i u hu => ⟨hK _ _ (h2 i u hu).1, (h2 i u hu).2⟩, RepL.recolor hK _ _ h3⟩, by simp [V.ids], hp⟩
  | vagg cs =>
    simp only [V.into, Option.map_eq_some_iff] at hc
    obtain ⟨cs', hm, rfl⟩ := hc
    obtain ⟨vs, h1, h2, h3⟩ := h
    obtain ⟨q1, q2⟩ := many hm h2
    refine ⟨⟨vs, h1, q1, h3⟩, ?_, by simp [PlainV]⟩
    intro b hb
    simp only [V.ids, List.mem_flatMap] at hb
    obtain ⟨c, hc, hb⟩ := hb
    exact q2 c hc b hb
  | tuple cs =>
    simp only [V.into, Option.map_eq_some_iff] at hc
    obtain ⟨cs', hm, rfl⟩ := hc
    obtain ⟨vs, h1, h2⟩ := h
    obtain ⟨q1, q2⟩ := many hm h2
    refine ⟨⟨vs, h1, q1⟩, ?_, by simp [PlainV]⟩
    intro b hb
    simp only [V.ids, List.mem_flatMap] at hb
    obtain ⟨c, hc, hb⟩ := hb
    exact q2 c hc b hb

theorem sim_enter {args : List C} {lh : List (List C)} {vs : List Value} {n : Nat} (hr : RepCs K μ w args vs) (hi : ∀ c ∈ args, ∀ b ∈ c.ids, b < lh.length) (hh : HRep K μ w lh) (hb : BoundK K w) (hgl : Glob K w) :
    Sim K μ { tmps := zipIdx' 0 (args.map fun c => V.c c.plain), heap := zipIdx' 0 lh, nid := lh.length, defers := [], pan := none }
      { tmps := vs.toArray ++ Array.replicate n Go.undef, defers := [] } w := by
  have back : ∀ {t : Nat} {v : V}, look t (zipIdx' 0 (args.map fun c => V.c c.plain)) = some v → ∃ c, args[t]? = some c ∧ v = .c c.plain := by
    intro t v h
    rw [look_zipIdx', if_pos (by omega)] at h
    simp only [Nat.sub_zero, List.getElem?_map, Option.map_eq_some_iff] at h
    obtain ⟨c, h1, rfl⟩ := h
    exact ⟨c, h1, rfl⟩
  refine ⟨?_, ?_, ?_, ?_, ?_, hb, rfl, by simp, hgl⟩
  · intro t v ht
    obtain ⟨c, h1, rfl⟩ := back ht
    obtain ⟨u, h2, h3⟩ := hr.get h1
    have hlt := (List.getElem?_eq_some_iff.1 h2).1
    refine ⟨by simp; omega, ?_⟩
    have : (vs.toArray ++ Array.replicate n Go.undef).getD t Go.undef = u := by
      simp only [Array.getD_eq_getD_getElem?]
      rw [Array.getElem?_append_left (by simpa using hlt)]
      simp [h2]
    rw [this]
    exact C.plain_rep h3
  · intro t v ht b hb'
    obtain ⟨c, h1, rfl⟩ := back ht
    simp only [V.ids, C.plain_ids] at hb'
    exact hi c (List.mem_of_getElem? h1) b hb'
  · intro t sz xs ht
    obtain ⟨c, _, e⟩ := back ht
    cases c <;> simp [C.plain] at e
  · intro t l sz xs ht
    obtain ⟨c, _, e⟩ := back ht
    simp at e
  · intro b cells hc
    rw [show (St.heap { tmps := zipIdx' 0 (args.map fun c => V.c c.plain), heap := zipIdx' 0 lh, nid := lh.length, defers := [], pan := none }) = zipIdx' 0 lh from rfl, look_zipIdx', if_pos (by omega), Nat.sub_zero] at hc
    obtain ⟨h1, h2⟩ := hh b cells hc
    exact ⟨(List.getElem?_eq_some_iff.1 hc).1, h1, h2⟩

theorem acall1_sound (hP : ProgOK P) {E : Nat → Option Call} (hE : ∀ f g, E f = some g → ∀ args lh r, g f args lh = some r → Callee P f ∧ CallOK P f args lh r) (H : Nat → Nat → List Nat) {call : Call} (ih : CallsOK P call) (k : Nat) : CallsOK P (acall1 P E H call k) := by
    intro f args lh r h
    simp only [acall1] at h
    split at h
    · rename_i g hg
      exact hE f g hg args lh r h
    · split at h
      · rename_i fn hfn
        split at h
        · rename_i code hcode
          split at h
          · rename_i hlen
            refine ⟨⟨fn, hfn, by rw [hcode]; rfl⟩, ?_⟩
            intro K μ w vs hr hi hh hb hgl
            have hfo := hP.func f fn hfn
            simp only [funcOK, hcode, Bool.and_eq_true] at hfo
            refine calls_of_wp hfn hcode ?_
            have hsim := sim_enter (n := fn.ntmps - vs.toArray.size) hr hi hh hb hgl
            have hdb := dstsBelow_mono (m := (vs.toArray ++ Array.replicate (fn.ntmps - vs.toArray.size) Go.undef).size) (by simp; omega) code hfo.2
            have fin : ∀ {x : AX} {s' : St}, aexec P (H f) call k code { tmps := zipIdx' 0 (args.map fun c => V.c c.plain), heap := zipIdx' 0 lh, nid := lh.length, defers := [], pan := none } = some (x, s') →
                ∀ {Q : Exit → Act → World → Prop}, Goal K μ w lh.length (vs.toArray ++ Array.replicate (fn.ntmps - vs.toArray.size) Go.undef).size x s' Q →
                code.wp P Q { tmps := vs.toArray ++ Array.replicate (fn.ntmps - vs.toArray.size) Go.undef, defers := [] } w :=
              fun hx _ hg => aexec_sound ih hP code hdb hx hsim rfl hg
            -- the end of a call
            have outs : ∀ {K' : Col} {μ' : Nat → Nat} {w' : World} {s' : St} {a' : Act} {extra ids : List Nat} {lh' : List (List C)}, After K μ w lh.length K' μ' w' → Sim K' μ' s' a' w' →
                outBlks s'.heap lh.length extra = some (ids, lh') →
                Step mine K w (fun b o => tagIn ids (K' b o)) w' ∧ BoundK (fun b o => tagIn ids (K' b o)) w' ∧ (∀ i, i < lh.length → μ' (ids.getD i 0) = μ i) ∧ lh.length ≤ lh'.length ∧
                  HRep (fun b o => tagIn ids (K' b o)) (fun i => μ' (ids.getD i 0)) w' lh' ∧ lh'.length = ids.length := by
              intro K' μ' w' s' a' extra ids lh' ha hs' ho
              obtain ⟨q1, q2, r', q3⟩ := outBlks_rep hs' ho
              refine ⟨⟨ha.step.os, ha.step.tape, ha.step.output, ha.step.size, ha.step.block, fun b o hb' hn => ?_⟩, fun b o hb' => by simp only [hs'.bound b o hb']; rfl, ?_, ?_, q1, q2⟩
              · have hc := ha.step.cell b o hb' hn
                refine ⟨hc.1, hc.2.1, ?_⟩
                simp only [hc.2.2]
                have : K b o = .ro ∨ K b o = .other := by
                  by_cases h1 : K b o = .ro
                  · exact .inl h1
                  · by_cases h2 : K b o = .other
                    · exact .inr h2
                    · exact absurd ⟨h1, h2⟩ hn
                rcases this with h1 | h1 <;> rw [h1] <;> rfl
              · intro i hi'
                have hgd : ids.getD i 0 = i := by
                  rw [q3]
                  simp only [List.getD, List.getElem?_append_left (show i < (idsFrom 0 lh.length).length by rw [idsFrom_length]; exact hi'), idsFrom_get hi']
                  simp
                rw [hgd, ha.mu i hi']
              · rw [q2, q3, List.length_append, idsFrom_length]; omega
            have ret : ∀ {x : AX} {s' : St}, (x = .normal ∨ x = .ret) → aexec P (H f) call k code { tmps := zipIdx' 0 (args.map fun c => V.c c.plain), heap := zipIdx' 0 lh, nid := lh.length, defers := [], pan := none } = some (x, s') →
                (if s'.defers.isEmpty then match resV P s' fn.results.toList with
                  | some v => match outBlks s'.heap lh.length v.ids with
                    | some (ids, lh') => match v.into ids with
                      | some v' => some (CRes.ret v' lh')
                      | none => none
                    | none => none
                  | none => none
                else none) = some r →
                code.wp P (bodyPost P fn fun e w' => ∃ K' μ', Step mine K w K' w' ∧ BoundK K' w' ∧ (∀ i, i < lh.length → μ' i = μ i) ∧
                  match r with
                  | .ret v lh' => lh.length ≤ lh'.length ∧ HRep K' μ' w' lh' ∧ PlainV v ∧ (∀ b ∈ v.ids, b < lh'.length) ∧ ∃ u, e = .returned u ∧ RepV K' μ' w' v u
                  | .pan d lh' => lh'.length = lh.length ∧ HRep K' μ' w' lh' ∧ ∃ u, e = .panicked [⟨u, false, false⟩] ∧ Rep K' w' d u)
                  { tmps := vs.toArray ++ Array.replicate (fn.ntmps - vs.toArray.size) Go.undef, defers := [] } w := by
              intro x s' hx hex hres
              refine fin hex ?_
              intro e K' μ' a' w' ho ha hn hs' hsz
              split at hres
              · rename_i hde
                split at hres
                · rename_i v hv
                  split at hres
                  · rename_i ids lh' hob
                    split at hres
                    · rename_i v' hv'
                      simp only [Option.some.injEq] at hres; subst hres
                      obtain ⟨u, hu, hru, hvi, hpl⟩ := resV_run hs' hv
                      obtain ⟨g1, g2, g3, g4, g5, g6⟩ := outs ha hs' hob
                      obtain ⟨k1, k2, k3⟩ := V.into_rep (K' := fun b o => tagIn ids (K' b o)) (μ' := fun i => μ' (ids.getD i 0)) (fun b o h => by rw [h]; rfl)
                        (fun i b h => by simp [List.getD, h]) hv' hru hpl
                      have hde' : a'.defers = [] := by
                        rw [hs'.defs]; simp [List.isEmpty_iff.1 hde]
                      have hpost : ∀ e, (e = .normal ∨ e = .ret) → bodyPost P fn (fun e w' => ∃ K' μ', Step mine K w K' w' ∧ BoundK K' w' ∧ (∀ i, i < lh.length → μ' i = μ i) ∧
                          (lh.length ≤ lh'.length ∧ HRep K' μ' w' lh' ∧ PlainV v' ∧ (∀ b ∈ v'.ids, b < lh'.length) ∧ ∃ u, e = .returned u ∧ RepV K' μ' w' v' u)) e a' w' := by
                        rintro e (rfl | rfl)
                        · exact ⟨hde', u, hu, _, _, g1, g2, g3, g4, g5, k3, by rw [g6]; exact k2, u, rfl, k1⟩
                        · exact ⟨hde', u, hu, _, _, g1, g2, g3, g4, g5, k3, by rw [g6]; exact k2, u, rfl, k1⟩
                      refine hpost e ?_
                      rcases hx with rfl | rfl
                      · exact .inl ho
                      · exact .inr ho
                    · simp at hres
                  · simp at hres
                · simp at hres
              · simp at hres
            split at h
            · rename_i s' hex
              have hh := ret (.inl rfl) hex h; clear ret fin outs h; cases r <;> exact hh
            · rename_i s' hex
              have hh := ret (.inr rfl) hex h; clear ret fin outs h; cases r <;> exact hh
            · rename_i d s' hex
              refine fin hex ?_
              rintro e K' μ' a' w' ⟨u, rfl, hru⟩ ha hn hs' hsz
              split at h
              · rename_i hde
                split at h
                · rename_i ids lh' hob
                  split at h
                  · rename_i hl
                    simp only [Option.some.injEq] at h; subst h
                    obtain ⟨g1, g2, g3, g4, g5, g6⟩ := outs ha hs' hob
                    have hde' : a'.defers = [] := by
                      rw [hs'.defs]; simp [List.isEmpty_iff.1 hde]
                    exact ⟨hde', _, _, g1, g2, g3, by rw [g6]; exact hl, g5, u, rfl, Rep.recolor (fun b o h => by rw [h]; rfl) _ _ hru⟩
                  · simp at h
                · simp at h
              · simp at h
            · simp at h
          · simp at h
        · simp at h
      · simp at h

theorem CallOK.of_still {f : Nat} {args : List C} {lh : List (List C)} {r : CRes} (h : CallOK P f (args.map C.still) lh r) : CallOK P f args lh r := by
  intro K μ w vs hr hi hh hb hg
  refine h K μ w vs hr.still ?_ hh hb hg
  intro c hc b hbb
  simp only [List.mem_map] at hc
  obtain ⟨c', hc', rfl⟩ := hc
  rw [C.still_ids] at hbb
  exact hi c' hc' b hbb

theorem acall_sound (hP : ProgOK P) {E : Nat → Option Call} (hE : ∀ f g, E f = some g → ∀ args lh r, g f args lh = some r → Callee P f ∧ CallOK P f args lh r) (H : Nat → Nat → List Nat) :
    ∀ k, CallsOK P (acall P E H k)
  | 0 => fun f args lh r h => by simp [acall] at h
  | k + 1 => fun f args lh r h => by
    have ih := acall1_sound hP hE H (acall_sound hP hE H k) k
    simp only [acall] at h
    have := ih _ _ _ _ h
    split at this
    · exact ⟨this.1, this.2.of_still⟩
    · exact this

end
end Go.AM

/- From the abstract machine's answer to what a call in the model returns, whatever the world. -/
namespace Go.AM
open Go Go.RowKit
variable [Globs]

/-- The colours of a world when a call begins: nothing that is there is ours. -/
def colRo (w : World) : Col := fun b _ => if b < w.heap.size then .ro else .other

theorem below_of_step {w w' : World} {K' : Col} (h : Step mine (colRo w) w K' w') : Below w.heap.size w w' :=
  ⟨h.os, h.tape, h.output, h.size, fun b hb => h.block b hb fun off hm => by
    simp only [colRo, hb, if_true] at hm
    exact hm.1 rfl⟩

/-- What lies in the globals of a world. -/
def GlobW (w : World) : Prop := ∀ x ∈ Globs.tab, ∀ i v, x.2[i]? = some v → w.cell? (ad x.1 i) = some v

theorem GlobW.glob {w : World} (h : GlobW w) : Glob (colRo w) w := by
  intro x hx i v hv
  have := h x hx i v hv
  rw [Nat.zero_add]
  exact ⟨by simp [colRo, block_lt this], this⟩

section
variable {P : Program} {f : Nat} {args : List C} {w : World} {vs : List Value}

theorem calls_ret {v : V} (h : CallOK P f args [] (.ret v [])) (hargs : RepCs (colRo w) (fun _ => 0) w args vs) (hids : ∀ c ∈ args, c.ids = []) (hg : GlobW w) :
    Calls P f vs.toArray w fun e w' => Below w.heap.size w w' ∧ ∃ u K' μ', e = .returned u ∧ RepV K' μ' w' v u := by
  refine (h (colRo w) (fun _ => 0) w vs hargs (fun c hc b hb => by rw [hids c hc] at hb; simp at hb) (fun i cells hi => by simp at hi)
    (fun b off hb => by simp only [colRo]; rw [if_neg (by omega)]) hg.glob).mono ?_
  rintro e w' ⟨K', μ', hst, _, _, _, _, _, _, u, rfl, hu⟩
  exact ⟨below_of_step hst, u, K', μ', rfl, hu⟩

/-- A law: it returns true, and what was there is as it was. -/
theorem calls_true (h : CallOK P f args [] (.ret (.d (.bool true)) [])) (hargs : RepCs (colRo w) (fun _ => 0) w args vs) (hids : ∀ c ∈ args, c.ids = []) (hg : GlobW w) :
    Calls P f vs.toArray w fun e w' => e = .returned (.bool true) ∧ Below w.heap.size w w' := by
  refine (calls_ret h hargs hids hg).mono ?_
  rintro e w' ⟨hb, u, K', μ', rfl, hu⟩
  simp only [RepV, RepC, Rep] at hu
  subst hu
  exact ⟨rfl, hb⟩

end
end Go.AM

/- A program logic over the abstract machine: whatever the fuel, if there is enough. -/
namespace Go.AM
open Go

/-- From some fuel on. -/
def Evt (p : Nat → Prop) : Prop := ∃ k₀, ∀ k, k₀ ≤ k → p k
theorem Evt.of {p : Nat → Prop} (h : ∀ k, p k) : Evt p := ⟨0, fun k _ => h k⟩
theorem Evt.and {p q : Nat → Prop} (h : Evt p) (h' : Evt q) : Evt fun k => p k ∧ q k := by
  obtain ⟨a, ha⟩ := h; obtain ⟨b, hb⟩ := h'
  exact ⟨max a b, fun k hk => ⟨ha k (by omega), hb k (by omega)⟩⟩
theorem Evt.imp {p q : Nat → Prop} (h : Evt p) (hq : ∀ k, p k → q k) : Evt q := by
  obtain ⟨a, ha⟩ := h; exact ⟨a, fun k hk => hq k (ha k hk)⟩
theorem Evt.succ {p : Nat → Prop} (h : Evt fun k => p (k + 1)) : Evt p := by
  obtain ⟨a, ha⟩ := h
  refine ⟨a + 1, fun k hk => ?_⟩
  obtain ⟨j, rfl⟩ : ∃ j, k = j + 1 := ⟨k - 1, by omega⟩
  exact ha j (by omega)

/-- What a program, its externals and its hints are. -/
structure Ctx where
  P : Program
  E : Nat → Option Call
  H : Nat → Nat → List Nat

abbrev Ctx.call (X : Ctx) (k : Nat) : Call := acall X.P X.E X.H k

/-- A call comes to this. -/
def aval (X : Ctx) (f : Nat) (args : List C) (lh : List (List C)) (r : CRes) : Prop := Evt fun k => X.call k f args lh = some r

structure awp (X : Ctx) (f : Nat) (c : Code) (Q : AX → St → Prop) (s : St) : Prop where
  ex : ∃ x s', (Evt fun k => aexec X.P (X.H f) (X.call k) k c s = some (x, s')) ∧ Q x s'

structure awpO (X : Ctx) (ops : Array Oper) (l : List Oper) (Q : AX → St → Prop) (s : St) : Prop where
  ex : ∃ x s', (Evt fun k => ∀ fs, ∃ fs', evOps X.P (X.call k) ops l s fs = some (x, s', fs')) ∧ Q x s'

structure awpD (X : Ctx) (ops : Array Oper) (vs : List Nat) (base : Nat) (pre : List Fp) (l : List Oper) (i : Nat) (Q : AX → St → Prop) (s : St) : Prop where
  ex : ∃ x s' fs, (Evt fun k => drawOps X.P (X.call k) ops vs base l i s = some (x, s', fs)) ∧ (drawOk ops base (pre ++ fs) && decide (base ≤ s'.nid)) = true ∧ Q x s'

structure awpL (X : Ctx) (f : Nat) (c : Code) (clean : St → Option St) (Q : AX → St → Prop) (s : St) : Prop where
  ex : ∃ x s', (∃ m₀, Evt fun k => ∀ m, m₀ ≤ m → iter (aexec X.P (X.H f) (X.call k) k c) clean m s = some (x, s')) ∧ Q x s'

/-- What is to be shown behind the first of two pieces of code. -/
inductive seqQ (X : Ctx) (f : Nat) (b : Code) (Q : AX → St → Prop) : AX → St → Prop where
  | normal {s : St} : awp X f b Q s → seqQ X f b Q .normal s
  | exit {id : Nat} {s : St} : Q (.exit id) s → seqQ X f b Q (.exit id) s
  | ret {s : St} : Q .ret s → seqQ X f b Q .ret s
  | pan {d : D} {s : St} : Q (.pan d) s → seqQ X f b Q (.pan d) s

/-- Where ways meet. -/
def settleS (h : List Nat) (n : Nat) (s : St) : Option St := match h with
  | [] => some s
  | _ :: ks => cleanAt ks n s

theorem settle_normal {h : List Nat} {n : Nat} {s s' : St} (hs : settleS h n s = some s') : settle h n (some (.normal, s)) = some (.normal, s') := by
  cases h with
  | nil => simp only [settleS, Option.some.injEq] at hs; subst hs; rfl
  | cons k ks => simp only [settleS] at hs; simp only [settle, hs]

/-- What is to be shown behind a block's body. -/
inductive exitQ (id : Nat) (hk : List Nat) (n : Nat) (Q : AX → St → Prop) : AX → St → Prop where
  | here {s s' : St} : settleS hk n s = some s' → Q .normal s' → exitQ id hk n Q (.exit id) s
  | there {id' : Nat} {s : St} : (id' == id) = false → Q (.exit id') s → exitQ id hk n Q (.exit id') s
  | normal {s s' : St} : settleS hk n s = some s' → Q .normal s' → exitQ id hk n Q .normal s
  | ret {s : St} : Q .ret s → exitQ id hk n Q .ret s
  | pan {d : D} {s : St} : Q (.pan d) s → exitQ id hk n Q (.pan d) s

/-- What is to be shown behind one way of two. -/
inductive condQ (hk : List Nat) (n : Nat) (Q : AX → St → Prop) : AX → St → Prop where
  | normal {s s' : St} : settleS hk n s = some s' → Q .normal s' → condQ hk n Q .normal s
  | exit {id : Nat} {s : St} : Q (.exit id) s → condQ hk n Q (.exit id) s
  | ret {s : St} : Q .ret s → condQ hk n Q .ret s
  | pan {d : D} {s : St} : Q (.pan d) s → condQ hk n Q (.pan d) s

theorem condQ.settled {hk : List Nat} {n : Nat} {Q : AX → St → Prop} {x : AX} {s : St} (h : condQ hk n Q x s) : ∃ s', settle hk n (some (x, s)) = some (x, s') ∧ Q x s' := by
  cases h with
  | normal h1 h2 => exact ⟨_, settle_normal h1, h2⟩
  | exit h => exact ⟨_, rfl, h⟩
  | ret h => exact ⟨_, rfl, h⟩
  | pan h => exact ⟨_, rfl, h⟩

theorem exitQ.settled {id : Nat} {hk : List Nat} {n : Nat} {Q : AX → St → Prop} {x : AX} {s : St} (h : exitQ id hk n Q x s) : ∃ x' s', settle hk n (leaves id (some (x, s))) = some (x', s') ∧ Q x' s' := by
  cases h with
  | here h1 h2 => exact ⟨_, _, by simp only [leaves, if_true]; exact settle_normal h1, h2⟩
  | there hn h =>
    refine ⟨_, _, ?_, h⟩
    simp only [leaves]
    rw [if_neg (by simpa using hn)]; rfl
  | normal h1 h2 => exact ⟨_, _, settle_normal h1, h2⟩
  | ret h => exact ⟨_, _, rfl, h⟩
  | pan h => exact ⟨_, _, rfl, h⟩

section
variable {X : Ctx} {f : Nat} {Q : AX → St → Prop} {s : St}

theorem awp_skip (h : Q .normal s) : awp X f .skip Q s := ⟨_, _, .of fun _ => rfl, h⟩
theorem awp_ret (h : Q .ret s) : awp X f .ret Q s := ⟨_, _, .of fun _ => rfl, h⟩
theorem awp_exit {id : Nat} (h : Q (.exit id) s) : awp X f (.exit id) Q s := ⟨_, _, .of fun _ => rfl, h⟩
theorem awp_label {id : Nat} (h : Q .normal s) : awp X f (.label id) Q s := ⟨_, _, .of fun _ => rfl, h⟩
theorem awp_seq {a b : Code} (h : awp X f a (seqQ X f b Q) s) : awp X f (.seq a b) Q s := by
  obtain ⟨x, s', h1, h2⟩ := h
  cases x with
  | normal =>
    cases h2 with | normal h2 =>
    obtain ⟨x2, s2, h3, h4⟩ := h2
    exact ⟨x2, s2, (h1.and h3).imp fun k ⟨p, q⟩ => by simp only [aexec, p, q], h4⟩
  | exit id => cases h2 with | exit h2 => exact ⟨_, s', h1.imp fun k p => by simp only [aexec, p], h2⟩
  | ret => cases h2 with | ret h2 => exact ⟨_, s', h1.imp fun k p => by simp only [aexec, p], h2⟩
  | pan d => cases h2 with | pan h2 => exact ⟨_, s', h1.imp fun k p => by simp only [aexec, p], h2⟩
theorem awp_cond {o : Operand} {a b : Code} {c : Bool} (hc : ev s.tmps o = some (.c (.d (.bool c)))) (h : c = true → awp X f a (condQ (X.H f (condKey a b)) s.nid Q) s) (h' : c = false → awp X f b (condQ (X.H f (condKey a b)) s.nid Q) s) : awp X f (.cond o a b) Q s := by
  cases c with
  | true =>
    obtain ⟨x, s', h1, h2⟩ := h rfl
    obtain ⟨s2, h3, h4⟩ := h2.settled
    exact ⟨x, s2, h1.imp fun k p => by simp only [aexec, hc, p, h3], h4⟩
  | false =>
    obtain ⟨x, s', h1, h2⟩ := h' rfl
    obtain ⟨s2, h3, h4⟩ := h2.settled
    exact ⟨x, s2, h1.imp fun k p => by simp only [aexec, hc, p, h3], h4⟩
theorem awp_block {id : Nat} {c : Code} (h : awp X f c (exitQ id (X.H f (1000000 + id)) s.nid Q) s) : awp X f (.block id c) Q s := by
  obtain ⟨x, s', h1, h2⟩ := h
  obtain ⟨x2, s2, h3, h4⟩ := h2.settled
  exact ⟨x2, s2, h1.imp fun k p => by simp only [aexec, p, h3], h4⟩
theorem awp_scope {c : Code} (h : awp X f c Q s) : awp X f (.scope c) Q s := by
  obtain ⟨x, s', h1, h2⟩ := h
  exact ⟨x, s', h1.imp fun k p => by simp only [aexec, p], h2⟩
theorem awp_region {id : Nat} {ops : Array Oper} (h : awpO X ops ops.toList Q { s with tmps := keepT (X.H f id) s.tmps }) : awp X f (.region id ops false) Q s := by
  obtain ⟨x, s', h1, h2⟩ := h
  refine ⟨x, s', h1.imp fun k p => ?_, h2⟩
  obtain ⟨fs', hp⟩ := p []
  simp only [aexec, Bool.false_eq_true, if_false, hp]
theorem awp_draw {id : Nat} {ops : Array Oper} (h : awpD X ops (appended? ops) s.nid [] ops.toList 0 Q { s with tmps := keepT (X.H f id) s.tmps, nid := s.nid + ops.size }) : awp X f (.region id ops true) Q s := by
  obtain ⟨x, s', fs, h1, h2, h3⟩ := h
  refine ⟨x, s', h1.imp fun k p => ?_, h3⟩
  simp only [aexec, if_true, drawRegion, p]
  simp only [List.nil_append] at h2
  rw [if_pos h2]
theorem awp_mono {c : Code} {Q' : AX → St → Prop} (h : awp X f c Q s) (hq : ∀ x s', Q x s' → Q' x s') : awp X f c Q' s := by
  obtain ⟨x, s', h1, h2⟩ := h
  exact ⟨x, s', h1, hq x s' h2⟩

/-! ### Regions -/

theorem awpO_nil {ops : Array Oper} (h : Q .normal s) : awpO X ops [] Q s := ⟨_, _, .of fun _ fs => ⟨fs, rfl⟩, h⟩
theorem awpO_skip {ops : Array Oper} {o : Oper} {l : List Oper} (hw : wantedAt ops s.tmps o = some false) (h : awpO X ops l Q (putDst o (.c .undef) s)) : awpO X ops (o :: l) Q s := by
  obtain ⟨x, s', h1, h2⟩ := h
  refine ⟨x, s', h1.imp fun k p fs => ?_, h2⟩
  obtain ⟨fs', hp⟩ := p (Foot.none :: fs)
  exact ⟨fs', by simp only [evOps, hw, hp]⟩
/-- An operation, if it comes to a value. -/
theorem awpO_op {ops : Array Oper} {o : Oper} {l : List Oper} {v : V} {s1 : St} {ft : Foot} (hw : wantedAt ops s.tmps o = some true) (hop : Evt fun k => evOp X.P (X.call k) s.nid o s = some (.val v s1, ft))
    (h : awpO X ops l Q (putDst o v s1)) : awpO X ops (o :: l) Q s := by
  obtain ⟨x, s', h1, h2⟩ := h
  refine ⟨x, s', (hop.and h1).imp fun k ⟨q, p⟩ fs => ?_, h2⟩
  obtain ⟨fs', hp⟩ := p (ft :: fs)
  exact ⟨fs', by simp only [evOps, hw, q, hp]⟩
/-- An operation that calls nothing, reckoned. -/
theorem awpO_rfl {ops : Array Oper} {o : Oper} {l : List Oper} {v : V} {s1 : St} {ft : Foot} (hw : wantedAt ops s.tmps o = some true) (hop : ∀ call, evOp X.P call s.nid o s = some (.val v s1, ft))
    (h : awpO X ops l Q (putDst o v s1)) : awpO X ops (o :: l) Q s := awpO_op hw (.of fun _ => hop _) h
theorem awpO_pan {ops : Array Oper} {o : Oper} {l : List Oper} {d : D} {s1 : St} {ft : Foot} (hw : wantedAt ops s.tmps o = some true) (hop : Evt fun k => evOp X.P (X.call k) s.nid o s = some (.pan d s1, ft))
    (h : Q (.pan d) s1) : awpO X ops (o :: l) Q s :=
  ⟨_, _, hop.imp fun k q fs => ⟨ft :: fs, by simp only [evOps, hw, q]⟩, h⟩

/-! ### Regions whose order is drawn -/

theorem awpD_nil {ops : Array Oper} {vs : List Nat} {base i : Nat} {pre : List Fp} (hok : (drawOk ops base pre && decide (base ≤ s.nid)) = true) (h : Q .normal s) : awpD X ops vs base pre [] i Q s :=
  ⟨_, _, [], .of fun _ => rfl, by rw [List.append_nil]; exact hok, h⟩
theorem awpD_skip {ops : Array Oper} {vs : List Nat} {base i : Nat} {pre : List Fp} {o : Oper} {l : List Oper} {s1 : St} (hw : wantedAt ops s.tmps o = some false) (hp : putD o.dst (.c .undef) s = some s1)
    (h : awpD X ops vs base (pre ++ [Fp.fill ⟨(readsOf ops o).map .tmp, dstLc o.dst (.c .undef), [], false⟩ s1]) l (i + 1) Q s1) : awpD X ops vs base pre (o :: l) i Q s := by
  obtain ⟨x, s', fs, h1, h2, h3⟩ := h
  refine ⟨x, s', Fp.fill ⟨(readsOf ops o).map .tmp, dstLc o.dst (.c .undef), [], false⟩ s1 :: fs, h1.imp fun k p => by simp only [drawOps, hw, hp, p], ?_, h3⟩
  rw [List.append_assoc] at h2; exact h2
theorem awpD_op {ops : Array Oper} {vs : List Nat} {base i : Nat} {pre : List Fp} {o : Oper} {l : List Oper} {v : V} {s1 s2 : St} {ft : Fp} (hw : wantedAt ops s.tmps o = some true)
    (hop : Evt fun k => drawOp X.P (X.call k) ops vs (base + i) o s = some (.val v s1, ft)) (hp : putD o.dst v s1 = some s2)
    (h : awpD X ops vs base (pre ++ [ft.fill s2]) l (i + 1) Q s2) : awpD X ops vs base pre (o :: l) i Q s := by
  obtain ⟨x, s', fs, h1, h2, h3⟩ := h
  refine ⟨x, s', ft.fill s2 :: fs, (hop.and h1).imp fun k ⟨q, p⟩ => by simp only [drawOps, hw, q, hp, p], ?_, h3⟩
  rw [List.append_assoc] at h2; exact h2
theorem awpD_rfl {ops : Array Oper} {vs : List Nat} {base i : Nat} {pre : List Fp} {o : Oper} {l : List Oper} {v : V} {s1 s2 : St} {ft : Fp} (hw : wantedAt ops s.tmps o = some true)
    (hop : ∀ call, drawOp X.P call ops vs (base + i) o s = some (.val v s1, ft)) (hp : putD o.dst v s1 = some s2)
    (h : awpD X ops vs base (pre ++ [ft.fill s2]) l (i + 1) Q s2) : awpD X ops vs base pre (o :: l) i Q s := awpD_op hw (.of fun _ => hop _) hp h
theorem awpD_pan {ops : Array Oper} {vs : List Nat} {base i : Nat} {pre : List Fp} {o : Oper} {l : List Oper} {d : D} {s1 : St} {ft : Fp} (hw : wantedAt ops s.tmps o = some true)
    (hop : Evt fun k => drawOp X.P (X.call k) ops vs (base + i) o s = some (.pan d s1, ft)) (hok : (drawOk ops base (pre ++ [ft]) && decide (base ≤ s1.nid)) = true) (h : Q (.pan d) s1) : awpD X ops vs base pre (o :: l) i Q s :=
  ⟨_, _, [ft], hop.imp fun k q => by simp only [drawOps, hw, q], hok, h⟩

/-! ### Loops -/

theorem awp_loop {c : Code} (h : awpL X f c (cleanAt (X.H f (firstRegion c)) s.nid) Q s) : awp X f (.loop c) Q s := by
  obtain ⟨x, s', ⟨m₀, a, h1⟩, h2⟩ := h
  exact ⟨x, s', ⟨max m₀ a, fun k hk => by simp only [aexec]; exact h1 k (by omega) k (by omega)⟩, h2⟩

theorem awpL_round {c : Code} {clean : St → Option St} {s1 : St} (hc : clean s = some s1) (h : awp X f c (fun x s' => match x with | .normal => awpL X f c clean Q s' | x => Q x s') s1) : awpL X f c clean Q s := by
  obtain ⟨x, s', h1, h2⟩ := h
  cases x with
  | normal =>
    obtain ⟨x2, s2, ⟨m₀, h3⟩, h4⟩ := h2
    refine ⟨x2, s2, ⟨m₀ + 1, (h1.and h3).imp fun k ⟨p, q⟩ m hm => ?_⟩, h4⟩
    obtain ⟨j, rfl⟩ : ∃ j, m = j + 1 := ⟨m - 1, by omega⟩
    simp only [iter, hc, p]
    exact q j (by omega)
  | _ =>
    refine ⟨_, s', ⟨1, h1.imp fun k p m hm => ?_⟩, h2⟩
    obtain ⟨j, rfl⟩ : ∃ j, m = j + 1 := ⟨m - 1, by omega⟩
    simp only [iter, hc, p]

/-! ### Calls -/

/-- What is to be shown at a body's end. -/
structure atEnd (X : Ctx) (fn : Func) (n : Nat) (r : CRes) (x : AX) (s : St) : Prop where
  ex :
    match x with
    | .normal | .ret => ∃ v v' ids lh', s.defers.isEmpty = true ∧ resV X.P s fn.results.toList = some v ∧ outBlks s.heap n v.ids = some (ids, lh') ∧ v.into ids = some v' ∧ CRes.ret v' lh' = r
    | .pan d => ∃ ids lh', s.defers.isEmpty = true ∧ outBlks s.heap n [] = some (ids, lh') ∧ ids.length = n ∧ CRes.pan d lh' = r
    | _ => False

theorem aval_of {fn : Func} {code : Code} {args args' : List C} {lh : List (List C)} {r : CRes} (hE : X.E f = none) (hf : X.P.funcs[f]? = some fn) (hb : fn.body = some code) (hst : (if (X.H f 999999).isEmpty then args.map C.still else args) = args') (hl : args'.length = fn.params.size + fn.nfree)
    (h : awp X f code (atEnd X fn lh.length r) { tmps := zipIdx' 0 (args'.map fun c => V.c c.plain), heap := zipIdx' 0 lh, nid := lh.length, defers := [], pan := none }) : aval X f args lh r := by
  obtain ⟨x, s', h1, h2⟩ := h
  refine Evt.succ (h1.imp fun k p => ?_)
  simp only [Ctx.call, acall, hst, acall1, hE, hf, hb, hl, if_true]
  simp only [Ctx.call] at p
  simp only [p]
  cases x with
  | normal => obtain ⟨v, v', ids, lh', a, b, c, d, rfl⟩ := h2.ex; simp only [a, if_true, b, c, d]
  | ret => obtain ⟨v, v', ids, lh', a, b, c, d, rfl⟩ := h2.ex; simp only [a, if_true, b, c, d]
  | pan d => obtain ⟨ids, lh', a, b, c, rfl⟩ := h2.ex; simp only [a, if_true, b, c]
  | exit id => exact h2.ex.elim

theorem C.still_still : ∀ l : List C, (l.map C.still).map C.still = l.map C.still
  | [] => rfl
  | c :: l => by
    have ih := C.still_still l
    simp only [List.map_cons, ih]
    cases c <;> rfl

/-- Arguments that may be appended to are as those that may not. -/
theorem aval_still {args : List C} {lh : List (List C)} {r : CRes} (h : aval X f (args.map C.still) lh r) (hH : (X.H f 999999).isEmpty = true) : aval X f args lh r := by
  obtain ⟨k₀, h⟩ := h
  refine ⟨k₀ + 1, fun k hk => ?_⟩
  obtain ⟨j, rfl⟩ : ∃ j, k = j + 1 := ⟨k - 1, by omega⟩
  have := h (j + 1) (by omega)
  simp only [Ctx.call, acall, hH, if_true] at this ⊢
  rw [C.still_still] at this
  exact this

theorem aval_ext {g : Call} {args args' : List C} {lh : List (List C)} {r : CRes} (hE : X.E f = some g) (hst : (if (X.H f 999999).isEmpty then args.map C.still else args) = args') (h : g f args' lh = some r) : aval X f args lh r :=
  Evt.succ (.of fun k => by simp only [Ctx.call, acall, hst, acall1, hE, h])

/-- A call within a region. -/
theorem evt_call {o : Oper} {c : Go.Call} {fo : Operand} {g : Nat} {caps ids : List Nat} {args args' : List C} {lh lh' lh'' : List (List C)} {v v' : V} (ho : o.op = .call c) (hc : c.callee = .value fo) (hf : ev s.tmps fo = some (.c (.fn g caps)))
    (ha : argsT X.P s.tmps c.args.toList c.argTypes.toList = some args) (hr : reach s.heap 64 ((args ++ caps.map fun b => C.ptr b 0).flatMap C.ids) [] = some ids) (hi : mapM? (C.into ids) (args ++ caps.map fun b => .ptr b 0) = some args')
    (hb : blksInto s.heap ids = some lh) (hv : aval X g args' lh (.ret v lh')) (hk : mapM? (mapM? (C.back (ids ++ idsFrom s.nid (lh'.length - ids.length)))) lh' = some lh'') (hv' : V.back (ids ++ idsFrom s.nid (lh'.length - ids.length)) v = some v') :
    Evt fun k => evOp X.P (X.call k) s.nid o s = some (.val v' { s with tmps := unviewIn (ids ++ idsFrom s.nid (lh'.length - ids.length)) s.tmps, heap := putBlks (ids ++ idsFrom s.nid (lh'.length - ids.length)) lh'' s.heap, nid := s.nid + (lh'.length - ids.length) }, ⟨ids, ids, []⟩) :=
  hv.imp fun k p => by simp only [evOp, ho, hc, hf, ha, doCall, hr, hi, hb, p, hk, hv']

end
end Go.AM

/- Operations whose outcome hangs on a condition. -/
namespace Go.AM
open Go

section
variable {P : Program} {call : Call} {id : Nat} {o : Oper} {s : St}

theorem ev_index_str {t : TypeId} {x i : Operand} {l : List UInt8} {k : IntKind} {n : Int} {b : UInt8} (ho : o.op = .index t x i) (ht : P.underlying t = some .string) (hx : ev s.tmps x = some (.c (.d (.str l))))
    (hi : ev s.tmps i = some (.c (.d (.int k n)))) (h0 : 0 ≤ n) (hb : l[n.toNat]? = some b) : evOp P call id o s = some (.val (.d (byteD b)) s, ⟨readsBlk o s.tmps, [], []⟩) := by
  simp only [evOp, ho, evR, ht, hx, hi, h0, if_true, hb]

theorem ev_indexAddr {t e : TypeId} {x i : Operand} {sz : Nat} {xs : List D} {k : IntKind} {n : Int} {d : D} (ho : o.op = .indexAddr t x i) (ht : telem P t = some e) (hz : some sz = tsz P e) (hx : (ev s.tmps x).bind V.toD = some (.list sz xs))
    (hi : ev s.tmps i = some (.c (.d (.int k n)))) (h0 : 0 ≤ n) (hb : xs[n.toNat]? = some d) : evOp P call id o s = some (.val (.rptr d.cells) s, ⟨readsBlk o s.tmps, [], []⟩) := by
  simp only [evOp, ho, evR, ht, hx, hi, h0, hz, and_self, if_true, hb]

/-- s[lo:hi] of a string. -/
theorem ev_slice_str {t : TypeId} {x : Operand} {lo hi : Option Operand} {l : List UInt8} {a b : Nat} (ho : o.op = .slice t x lo hi none) (ht : P.underlying t = some .string) (hx : evT P t s.tmps x = some (.c (.d (.str l))))
    (hl : optNat s.tmps lo 0 = some a) (hh : optNat s.tmps hi l.length = some b) (h1 : a ≤ b) (h2 : b ≤ l.length) :
    evOp P call id o s = some (.val (.d (.str ((l.take b).drop a))) s, ⟨readsBlk o s.tmps, [], []⟩) := by
  simp only [evOp, ho, evR, hx, lenV, ht, V.toD, C.toD, hl, hh, sliceV, h1, h2, and_self, if_true, Option.map_some]

theorem optNat_some {tm : List (Nat × V)} {x : Operand} {k : IntKind} {n : Int} {d : Nat} (hx : ev tm x = some (.c (.d (.int k n)))) (h : 0 ≤ n) : optNat tm (some x) d = some n.toNat := by
  simp only [optNat, hx, h, if_true]

/-- s[lo:hi] of a slice. -/
theorem ev_slice_list {t e : TypeId} {x : Operand} {lo hi : Option Operand} {v : V} {sz : Nat} {xs : List D} {a b : Nat} (ho : o.op = .slice t x lo hi none) (ht : P.underlying t = some (.slice e)) (hz : tsz P e = some sz) (hx : evT P t s.tmps x = some v) (hv : v.toD = some (.list sz xs))
    (hl : optNat s.tmps lo 0 = some a) (hh : optNat s.tmps hi xs.length = some b) (h1 : a ≤ b) (h2 : b ≤ xs.length) :
    evOp P call id o s = some (.val (.d (.list sz ((xs.take b).drop a))) s, ⟨readsBlk o s.tmps, [], []⟩) := by
  simp [evOp, ho, evR, hx, lenV, ht, hv, hl, hh, sliceV, h1, h2, hz]

theorem ev_concat {t u : TypeId} {x y : Operand} {a b : List UInt8} (ho : o.op = .binOp .add t x y u) (hx : evT P t s.tmps x = some (.c (.d (.str a)))) (hy : evT P t s.tmps y = some (.c (.d (.str b)))) (h : a.length + b.length ≤ room) :
    evOp P call id o s = some (.val (.d (.str (a ++ b))) s, ⟨readsBlk o s.tmps, [], []⟩) := by
  simp only [evOp, ho, evR, hx, hy, binV, strOp, h, if_true]

theorem ev_bytes {src dst e : TypeId} {x : Operand} {a : List UInt8} (ho : o.op = .convert src dst x) (hs : P.underlying src = some .string) (hd : P.underlying dst = some (.slice e)) (he : P.underlying e = some (.int .u8)) (hz : tsz P e = some 1)
    (hx : evT P src s.tmps x = some (.c (.d (.str a)))) (h : a.length ≤ room) : evOp P call id o s = some (.val (.c (.own 1 (a.map byteD))) s, ⟨readsBlk o s.tmps, [], []⟩) := by
  simp only [evOp, ho, evR, hx, convV, hs, hd, he, h, hz, and_self, if_true]

theorem toBytes_map : ∀ l : List UInt8, toBytes (l.map byteD) = some l
  | [] => rfl
  | b :: l => by simp [toBytes, byteD, toBytes_map l]

theorem ev_string {src dst e : TypeId} {x : Operand} {v : V} {a : List UInt8} (ho : o.op = .convert src dst x) (hs : P.underlying src = some (.slice e)) (hd : P.underlying dst = some .string) (he : P.underlying e = some (.int .u8))
    (hx : evT P src s.tmps x = some v) (hv : v.toD = some (.list 1 (a.map byteD))) : evOp P call id o s = some (.val (.d (.str a)) s, ⟨readsBlk o s.tmps, [], []⟩) := by
  have hcv : convV P src dst v = some (.d (.str a)) := by
    unfold convV
    rw [hs, hd]
    cases v with
    | c y =>
      cases y with
      | d z => simp only [V.toD, C.toD, Option.some.injEq] at hv; subst hv; simp only [he, V.toD, C.toD, toBytes_map, Option.map_some]
      | own z ys => simp only [V.toD, C.toD, Option.some.injEq, D.list.injEq] at hv; obtain ⟨rfl, rfl⟩ := hv; simp only [he, V.toD, C.toD, toBytes_map, Option.map_some]
      | nilsl z =>
        simp only [V.toD, C.toD, Option.some.injEq, D.list.injEq] at hv
        obtain ⟨rfl, h⟩ := hv
        have : a = [] := by cases a <;> simp_all
        subst this
        simp only [he, V.toD, C.toD, toBytes, Option.map_some]
      | _ => simp [V.toD, C.toD] at hv
    | view l z ys => simp only [V.toD, Option.some.injEq, D.list.injEq] at hv; obtain ⟨rfl, rfl⟩ := hv; simp only [he, V.toD, toBytes_map, Option.map_some]
    | vagg cs => simp [V.toD] at hv
    | _ => simp [V.toD] at hv
  simp only [evOp, ho, evR, hx, hcv]

/-- append to a slice that is nil. -/
theorem ev_append_nil {c : Go.Call} {t u e : TypeId} {x y : Operand} {n z : Nat} {yv : V} {ys : List D} (ho : o.op = .call c) (hc : c.callee = .builtin .append) (ha : c.args.toList = [x, y]) (hat : c.argTypes.toList = [t, u]) (ht : telem P t = some e) (hn : tsz P e = some n) (hu : isSource P u = true)
    (hb : P.bytesOf e ≤ 1024 ∧ zeroFits P e n = true) (hx : evT P t s.tmps x = some (.c (.nilsl z))) (hy : evT P u s.tmps y = some yv) (hys : appended yv = some (n, ys)) (hl : ys.length ≤ 4294967296) :
    evOp P call id o s = some (.val (.c (.own n ys)) s, appendFoot x s.tmps) := by
  simp only [evOp, ho, hc, ha, hat, doAppend, ht, hn, hu, hx, hy, hys, Option.bind_some, hb, and_self, if_true, hl]

/-- append to the slice of a temporary. -/
theorem ev_append_view {c : Go.Call} {t u e : TypeId} {x y : Operand} {n w : Nat} {yv : V} {xs ys zs : List D} (ho : o.op = .call c) (hc : c.callee = .builtin .append) (ha : c.args.toList = [x, y]) (hat : c.argTypes.toList = [t, u]) (ht : telem P t = some e) (hn : tsz P e = some n) (hu : isSource P u = true)
    (hb : P.bytesOf e ≤ 1024 ∧ zeroFits P e n = true) (hx : evT P t s.tmps x = some (.view (.tmp w) n xs)) (hw : look w s.tmps = some (.c (.own n zs))) (hy : evT P u s.tmps y = some yv) (hys : appended yv = some (n, ys)) (hl : xs.length + ys.length ≤ 4294967296) :
    evOp P call id o s = some (.val (.c (.own n (xs ++ ys))) { s with tmps := plainAt w s.tmps }, appendFoot x s.tmps) := by
  simp only [evOp, ho, hc, ha, hat, doAppend, ht, hn, hu, hx, hy, hys, Option.bind_some, hb, and_self, if_true, hw, hl]

/-- append to the slice of a cell. -/
theorem ev_append_cell {c : Go.Call} {t u e : TypeId} {x y : Operand} {n b off : Nat} {yv : V} {xs ys zs : List D} {cells : List C} (ho : o.op = .call c) (hc : c.callee = .builtin .append) (ha : c.args.toList = [x, y]) (hat : c.argTypes.toList = [t, u]) (ht : telem P t = some e) (hn : tsz P e = some n) (hu : isSource P u = true)
    (hb : P.bytesOf e ≤ 1024 ∧ zeroFits P e n = true) (hx : evT P t s.tmps x = some (.view (.cell b off) n xs)) (hw : look b s.heap = some cells) (hw' : cells[off]? = some (.own n zs)) (hy : evT P u s.tmps y = some yv) (hys : appended yv = some (n, ys)) (hl : xs.length + ys.length ≤ 4294967296) :
    evOp P call id o s = some (.val (.c (.own n (xs ++ ys))) { s with heap := upd b (cells.set off (.d (.list n xs))) s.heap }, appendFoot x s.tmps) := by
  simp only [evOp, ho, hc, ha, hat, doAppend, ht, hn, hu, hx, hy, hys, Option.bind_some, hb, and_self, if_true, hw, hw', hl]

end

section
variable {X : Ctx} {Q : AX → St → Prop} {s : St}

/-- In a region whose order is drawn: an operation that makes no block. -/
theorem awpD_ev {ops : Array Oper} {vs : List Nat} {base i : Nat} {pre : List Fp} {o : Oper} {l : List Oper} {v : V} {s1 s2 : St} {ft : Foot} (hw : wantedAt ops s.tmps o = some true) (hm : makesBlk o = false)
    (hop : Evt fun k => evOp X.P (X.call k) s.nid o s = some (.val v s1, ft)) (hp : putD o.dst (calmAt vs o.dst v) s1 = some s2)
    (h : awpD X ops vs base (pre ++ [(fpOf ops o s (calmAt vs o.dst v) s1 ft).fill s2]) l (i + 1) Q s2) : awpD X ops vs base pre (o :: l) i Q s :=
  awpD_op hw (hop.imp fun k p => by simp only [drawOp, hm, Bool.false_eq_true, if_false, drawOld, p]) hp h

end
end Go.AM

/- Steps of the logic whose states stand written out. -/
namespace Go.AM
open Go

section
variable {X : Ctx} {f : Nat} {Q : AX → St → Prop} {tm tm' : List (Nat × V)} {hp : List (Nat × List C)} {nid : Nat} {df : List (Nat × List Nat)} {pn : Option D}

/-- 'keepT', told so that reckoning it writes out what is kept. -/
def keepK {α : Type} : List Nat → List (Nat × V) → (List (Nat × V) → α) → α
  | [], _, k => k []
  | t :: r, tm, k => match look t tm with
    | some (.view _ sz xs) => keepK r tm fun l => k ((t, .d (.list sz xs)) :: l)
    | some v => keepK r tm fun l => k ((t, v) :: l)
    | none => keepK r tm k

theorem keepK_eq {α : Type} : ∀ (ks : List Nat) (tm : List (Nat × V)) (k : List (Nat × V) → α), keepK ks tm k = k (keepT ks tm)
  | [], _, _ => rfl
  | t :: r, tm, k => by
    simp only [keepK, keepT]
    cases h : look t tm with
    | none => simp only [keepK_eq]
    | some v => cases v <;> simp only [keepK_eq]

theorem run_region {id : Nat} {ops : Array Oper} (hk : keepK (X.H f id) tm some = some tm') (h : awpO X ops ops.toList Q ⟨tm', hp, nid, df, pn⟩) : awp X f (.region id ops false) Q ⟨tm, hp, nid, df, pn⟩ :=
  awp_region (by rw [keepK_eq, Option.some.injEq] at hk; rw [hk]; exact h)
theorem run_draw {id : Nat} {ops : Array Oper} {l : List Oper} {n : Nat} (hk : keepK (X.H f id) tm some = some tm') (hn : ops.size = n) (h : awpD X ops (appended? ops) nid [] ops.toList 0 Q ⟨tm', hp, nid + n, df, pn⟩) : awp X f (.region id ops true) Q ⟨tm, hp, nid, df, pn⟩ :=
  awp_draw (by subst hn; rw [keepK_eq, Option.some.injEq] at hk; rw [hk]; exact h)

/-- An operation that sets a temporary and nothing else. -/
theorem run_op {ops : Array Oper} {o : Oper} {l : List Oper} {v : V} {ft : Foot} {d : Nat} (hw : wantedAt ops tm o = some true) (hd : o.dst = some d) (hop : ∀ call, evOp X.P call nid o ⟨tm, hp, nid, df, pn⟩ = some (.val v ⟨tm, hp, nid, df, pn⟩, ft)) (hv : v.isOwn = false)
    (h : awpO X ops l Q ⟨(d, v) :: tm, hp, nid, df, pn⟩) : awpO X ops (o :: l) Q ⟨tm, hp, nid, df, pn⟩ := by
  refine awpO_rfl hw hop ?_
  have : putDst o v ⟨tm, hp, nid, df, pn⟩ = ⟨(d, v) :: tm, hp, nid, df, pn⟩ := by
    simp only [putDst, putSt, hd, setTmp]
    cases v with
    | c x => cases x <;> first | rfl | simp [V.isOwn] at hv
    | _ => rfl
  rw [this]; exact h
theorem run_skip {ops : Array Oper} {o : Oper} {l : List Oper} {d : Nat} (hw : wantedAt ops tm o = some false) (hd : o.dst = some d) (h : awpO X ops l Q ⟨(d, .c .undef) :: tm, hp, nid, df, pn⟩) : awpO X ops (o :: l) Q ⟨tm, hp, nid, df, pn⟩ := by
  refine awpO_skip hw ?_
  have : putDst o (.c .undef) ⟨tm, hp, nid, df, pn⟩ = ⟨(d, .c .undef) :: tm, hp, nid, df, pn⟩ := by simp only [putDst, putSt, hd, setTmp]
  rw [this]; exact h

theorem reach_nil (h : List (Nat × List C)) : reach h 64 [] [] = some [] := rfl

theorem look_unviewIn_nil : ∀ tm : List (Nat × V), unviewIn [] tm = tm
  | [] => rfl
  | (t, v) :: r => by
    cases v with
    | view l sz xs => cases l <;> simp [unviewIn, look_unviewIn_nil r]
    | _ => simp [unviewIn, look_unviewIn_nil r]

/-- A call that is handed no block, and hands none back. -/
theorem run_call {ops : Array Oper} {o : Oper} {l : List Oper} {c : Go.Call} {fo : Operand} {g d : Nat} {args args' : List C} {v : V} (hw : wantedAt ops tm o = some true) (hd : o.dst = some d) (ho : o.op = .call c) (hc : c.callee = .value fo) (hf : ev tm fo = some (.c (.fn g [])))
    (ha : argsT X.P tm c.args.toList c.argTypes.toList = some args) (hi : args.flatMap C.ids = []) (hj : mapM? (C.into []) args = some args) (hst : args.map C.still = args') (hH : (X.H g 999999).isEmpty = true) (hv : aval X g args' [] (.ret v [])) (hb : V.back [] v = some v) (hno : v.isOwn = false)
    (h : awpO X ops l Q ⟨(d, v) :: tm, hp, nid, df, pn⟩) : awpO X ops (o :: l) Q ⟨tm, hp, nid, df, pn⟩ := by
  refine awpO_op hw (evt_call (s := ⟨tm, hp, nid, df, pn⟩) (ids := []) (lh := []) (lh' := []) (lh'' := []) ho hc hf ha (by simp [hi, reach]) (by simpa using hj) rfl (aval_still (hst ▸ hv) hH) rfl (by simpa [idsFrom] using hb)) ?_
  have : putDst o v (⟨unviewIn ([] ++ idsFrom nid (([] : List (List C)).length - ([] : List Nat).length)) tm, putBlks ([] ++ idsFrom nid (([] : List (List C)).length - ([] : List Nat).length)) [] hp, nid + (([] : List (List C)).length - ([] : List Nat).length), df, pn⟩ : St) = ⟨(d, v) :: tm, hp, nid, df, pn⟩ := by
    simp only [putDst, putSt, hd, List.length_nil, Nat.sub_self, idsFrom, List.append_nil, look_unviewIn_nil, putBlks, Nat.add_zero, setTmp]
    cases v with
    | c x => cases x <;> first | rfl | simp [V.isOwn] at hno
    | _ => rfl
  rw [this]; exact h

theorem aval_start {fn : Func} {code : Code} {args args' : List C} {lh : List (List C)} {r : CRes} {n : Nat} (hE : X.E f = none) (hf : X.P.funcs[f]? = some fn) (hb : fn.body = some code) (hst : (if (X.H f 999999).isEmpty then args.map C.still else args) = args') (hl : args'.length = fn.params.size + fn.nfree)
    (ht : zipIdx' 0 (args'.map fun c => V.c c.plain) = tm) (hh : zipIdx' 0 lh = hp) (hn : lh.length = n) (h : awp X f code (atEnd X fn n r) ⟨tm, hp, n, [], none⟩) : aval X f args lh r :=
  aval_of hE hf hb hst hl (by rw [ht, hh, hn]; exact h)

/-- A loop at its head. -/
theorem run_loop {c : Code} (h : awpL X f c (cleanAt (X.H f (firstRegion c)) nid) Q ⟨tm, hp, nid, df, pn⟩) : awp X f (.loop c) Q ⟨tm, hp, nid, df, pn⟩ := awp_loop h

end
end Go.AM

namespace Go.AM
open Go
section
variable {X : Ctx} {f : Nat} {Q : AX → St → Prop} {s : St}

/-- What is to be shown behind a round of a loop. -/
inductive loopQ (R : St → Prop) (Q : AX → St → Prop) : AX → St → Prop where
  | normal {s : St} : R s → loopQ R Q .normal s
  | exit {id : Nat} {s : St} : Q (.exit id) s → loopQ R Q (.exit id) s
  | ret {s : St} : Q .ret s → loopQ R Q .ret s
  | pan {d : D} {s : St} : Q (.pan d) s → loopQ R Q (.pan d) s

/-- A loop by an invariant: 'st' is the state at its head. -/
theorem awpL_inv {α : Type} {c : Code} {clean : St → Option St} (m : α → Nat) (st : α → St) (I : α → Prop) {a : α} (h0 : I a) (hs : clean s = some (st a))
    (step : ∀ a, I a → awp X f c (loopQ (fun s' => ∃ a', I a' ∧ m a' < m a ∧ clean s' = some (st a')) Q) (st a)) : awpL X f c clean Q s := by
  have key : ∀ n a s, m a < n → I a → clean s = some (st a) → awpL X f c clean Q s := by
    intro n
    induction n with
    | zero => intro a s h; omega
    | succ n ih =>
      intro a s hn hI hc
      refine awpL_round hc (awp_mono (step a hI) ?_)
      intro x s' hx
      cases x with
      | normal =>
        cases hx with | normal hx =>
        obtain ⟨a', h1, h2, h3⟩ := hx
        exact ih a' s' (by omega) h1 h3
      | exit id => cases hx with | exit hx => exact hx
      | ret => cases hx with | ret hx => exact hx
      | pan d => cases hx with | pan hx => exact hx
  exact key (m a + 1) a s (by omega) h0 hs

end
end Go.AM

namespace Go.AM
open Go
section
variable {X : Ctx} {f : Nat} {Q : AX → St → Prop} {tm tm' : List (Nat × V)} {hp hp' : List (Nat × List C)} {nid nid' : Nat} {df df' : List (Nat × List Nat)} {pn pn' : Option D}

/-- An operation that sets no temporary. -/
theorem run_eff {ops : Array Oper} {o : Oper} {l : List Oper} {v : V} {ft : Foot} {s1 : St} (hw : wantedAt ops tm o = some true) (hd : o.dst = none) (hop : ∀ call, evOp X.P call nid o ⟨tm, hp, nid, df, pn⟩ = some (.val v s1, ft))
    (h : awpO X ops l Q s1) : awpO X ops (o :: l) Q ⟨tm, hp, nid, df, pn⟩ := by
  refine awpO_rfl hw hop ?_
  have : putDst o v s1 = s1 := by simp only [putDst, putSt, hd]
  rw [this]; exact h

/-- Any operation that calls nothing. -/
theorem run_any {ops : Array Oper} {o : Oper} {l : List Oper} {v : V} {ft : Foot} {d : Nat} (hw : wantedAt ops tm o = some true) (hd : o.dst = some d) (hop : ∀ call, evOp X.P call nid o ⟨tm, hp, nid, df, pn⟩ = some (.val v ⟨tm', hp', nid', df', pn'⟩, ft))
    (h : awpO X ops l Q ⟨setTmp d v tm', hp', nid', df', pn'⟩) : awpO X ops (o :: l) Q ⟨tm, hp, nid, df, pn⟩ := by
  refine awpO_rfl hw hop ?_
  have : putDst o v ⟨tm', hp', nid', df', pn'⟩ = ⟨setTmp d v tm', hp', nid', df', pn'⟩ := by simp only [putDst, putSt, hd]
  rw [this]; exact h
end
end Go.AM

/- Steps of the logic that leave their conditions as goals behind the way on. -/
namespace Go.AM
open Go

/-- A byte of a text; 0: there is none. -/
def btI (s : List UInt8) (i : Nat) : Int := (s.getD i 0).toNat

/-- A temporary's bool is told; reckoning it writes out what is kept. -/
def setBK {α : Type} (d : Nat) (b : Bool) : List (Nat × V) → (List (Nat × V) → α) → α
  | [], k => k []
  | (j, v) :: r, k => if j = d then k ((j, .d (.bool b)) :: r) else setBK d b r fun l => k ((j, v) :: l)

theorem setBK_eq {α : Type} {d : Nat} {b : Bool} : ∀ {tm : List (Nat × V)} {k : List (Nat × V) → α}, look d tm = some (.c (.d (.bool b))) → setBK d b tm k = k tm
  | [], _, h => by simp [look] at h
  | (j, v) :: r, k, h => by
    simp only [look] at h
    simp only [setBK]
    by_cases hj : j = d
    · rw [if_pos hj] at h ⊢
      simp only [Option.some.injEq] at h
      rw [h]
    · rw [if_neg hj] at h ⊢
      rw [setBK_eq h]

section
variable {X : Ctx} {f : Nat} {Q : AX → St → Prop} {tm tm0 tm1 : List (Nat × V)} {hp : List (Nat × List C)} {nid : Nat} {df : List (Nat × List Nat)} {pn : Option D}

/-- An operation's guard hangs on a bool that is not known. -/
theorem run_split {ops : Array Oper} {o q : Oper} {l : List Oper} {j d : Nat} {want b : Bool} (hg : o.guard = some (j, want)) (hq : ops[j]? = some q) (hd : q.dst = some d) (hl : look d tm = some (.c (.d (.bool b))))
    (e1 : setBK d true tm some = some tm1) (e0 : setBK d false tm some = some tm0)
    (h1 : b = true → awpO X ops (o :: l) Q ⟨tm1, hp, nid, df, pn⟩) (h0 : b = false → awpO X ops (o :: l) Q ⟨tm0, hp, nid, df, pn⟩) : awpO X ops (o :: l) Q ⟨tm, hp, nid, df, pn⟩ := by
  have _ := hg; have _ := hq; have _ := hd
  cases b with
  | true => rw [setBK_eq hl, Option.some.injEq] at e1; rw [e1]; exact h1 rfl
  | false => rw [setBK_eq hl, Option.some.injEq] at e0; rw [e0]; exact h0 rfl

theorem run_index_str {ops : Array Oper} {o : Oper} {l : List Oper} {d : Nat} {t : TypeId} {x i : Operand} {u : List UInt8} {k : IntKind} {n : Int}
    (h : awpO X ops l Q ⟨(d, .d (.int .u8 (btI u n.toNat))) :: tm, hp, nid, df, pn⟩)
    (hw : wantedAt ops tm o = some true) (hd : o.dst = some d) (ho : o.op = .index t x i) (ht : X.P.underlying t = some .string) (hx : ev tm x = some (.c (.d (.str u)))) (hi : ev tm i = some (.c (.d (.int k n))))
    (hb : 0 ≤ n ∧ n.toNat < u.length) : awpO X ops (o :: l) Q ⟨tm, hp, nid, df, pn⟩ := by
  refine run_op hw hd (fun _ => ev_index_str (s := ⟨tm, hp, nid, df, pn⟩) (b := u.getD n.toNat 0) ho ht hx hi hb.1 ?_) rfl ?_
  · simp [List.getD, hb.2]
  · exact h

theorem run_indexAddr_map {α : Type} {ops : Array Oper} {o : Oper} {l : List Oper} {d : Nat} {t e : TypeId} {x i : Operand} {u : List α} {g : α → D} {k : IntKind} {n : Int} {sz : Nat} 
    (h : ∀ a, u[n.toNat]? = some a → awpO X ops l Q ⟨(d, .rptr (g a).cells) :: tm, hp, nid, df, pn⟩)
    (hw : wantedAt ops tm o = some true) (hd : o.dst = some d) (ho : o.op = .indexAddr t x i) (ht : telem X.P t = some e) (hz : some sz = tsz X.P e) (hx : (ev tm x).bind V.toD = some (.list sz (u.map g))) (hi : ev tm i = some (.c (.d (.int k n))))
    (hb : 0 ≤ n ∧ n.toNat < u.length) : awpO X ops (o :: l) Q ⟨tm, hp, nid, df, pn⟩ := by
  refine run_op hw hd (fun _ => ev_indexAddr (s := ⟨tm, hp, nid, df, pn⟩) (d := g (u[n.toNat]'hb.2)) ho ht hz hx hi hb.1 ?_) rfl ?_
  · simp [hb.2]
  · exact h _ (by simp)

/-- s[lo:] of a string. -/
theorem run_from_str {ops : Array Oper} {o : Oper} {l : List Oper} {d : Nat} {t : TypeId} {x lo : Operand} {u : List UInt8} {k : IntKind} {n : Int}
    (h : awpO X ops l Q ⟨(d, .d (.str (u.drop n.toNat))) :: tm, hp, nid, df, pn⟩)
    (hw : wantedAt ops tm o = some true) (hd : o.dst = some d) (ho : o.op = .slice t x (some lo) none none) (ht : X.P.underlying t = some .string) (hx : evT X.P t tm x = some (.c (.d (.str u)))) (hi : ev tm lo = some (.c (.d (.int k n))))
    (hb : 0 ≤ n ∧ n.toNat ≤ u.length) : awpO X ops (o :: l) Q ⟨tm, hp, nid, df, pn⟩ := by
  refine run_op hw hd (fun _ => ev_slice_str (s := ⟨tm, hp, nid, df, pn⟩) (a := n.toNat) (b := u.length) ho ht hx (optNat_some hi hb.1) rfl hb.2 (Nat.le_refl _)) rfl ?_
  rw [List.take_length]
  exact h

/-- s[:hi] of a string. -/
theorem run_to_str {ops : Array Oper} {o : Oper} {l : List Oper} {d : Nat} {t : TypeId} {x hi : Operand} {u : List UInt8} {k : IntKind} {n : Int}
    (h : awpO X ops l Q ⟨(d, .d (.str (u.take n.toNat))) :: tm, hp, nid, df, pn⟩)
    (hw : wantedAt ops tm o = some true) (hd : o.dst = some d) (ho : o.op = .slice t x none (some hi) none) (ht : X.P.underlying t = some .string) (hx : evT X.P t tm x = some (.c (.d (.str u)))) (hi' : ev tm hi = some (.c (.d (.int k n))))
    (hb : 0 ≤ n ∧ n.toNat ≤ u.length) : awpO X ops (o :: l) Q ⟨tm, hp, nid, df, pn⟩ := by
  refine run_op hw hd (fun _ => ev_slice_str (s := ⟨tm, hp, nid, df, pn⟩) (a := 0) (b := n.toNat) ho ht hx rfl (optNat_some hi' hb.1) (Nat.zero_le _) hb.2) rfl ?_
  exact h

/-- s[lo:hi] of a string. -/
theorem run_mid_str {ops : Array Oper} {o : Oper} {l : List Oper} {d : Nat} {t : TypeId} {x lo hh : Operand} {u : List UInt8} {k k' : IntKind} {n m : Int}
    (h : awpO X ops l Q ⟨(d, .d (.str ((u.take m.toNat).drop n.toNat))) :: tm, hp, nid, df, pn⟩)
    (hw : wantedAt ops tm o = some true) (hd : o.dst = some d) (ho : o.op = .slice t x (some lo) (some hh) none) (ht : X.P.underlying t = some .string) (hx : evT X.P t tm x = some (.c (.d (.str u)))) (hi : ev tm lo = some (.c (.d (.int k n))))
    (hi' : ev tm hh = some (.c (.d (.int k' m)))) (hb : 0 ≤ n ∧ n ≤ m ∧ m.toNat ≤ u.length) : awpO X ops (o :: l) Q ⟨tm, hp, nid, df, pn⟩ := by
  refine run_op hw hd (fun _ => ev_slice_str (s := ⟨tm, hp, nid, df, pn⟩) (a := n.toNat) (b := m.toNat) ho ht hx (optNat_some hi hb.1) (optNat_some hi' (by omega)) (by omega) hb.2.2) rfl ?_
  exact h

theorem run_concat {ops : Array Oper} {o : Oper} {l : List Oper} {d : Nat} {t t' : TypeId} {x y : Operand} {a b : List UInt8}
    (h : awpO X ops l Q ⟨(d, .d (.str (a ++ b))) :: tm, hp, nid, df, pn⟩)
    (hw : wantedAt ops tm o = some true) (hd : o.dst = some d) (ho : o.op = .binOp .add t x y t') (hx : evT X.P t tm x = some (.c (.d (.str a)))) (hy : evT X.P t tm y = some (.c (.d (.str b))))
    (hb : a.length + b.length ≤ 1099511627776) : awpO X ops (o :: l) Q ⟨tm, hp, nid, df, pn⟩ :=
  run_op hw hd (fun _ => ev_concat (s := ⟨tm, hp, nid, df, pn⟩) ho hx hy hb) rfl h

theorem setTmp_own {t sz : Nat} {xs : List D} {tm : List (Nat × V)} : setTmp t (.c (.own sz xs)) tm = (t, .c (.own sz xs)) :: unview (.tmp t) tm := rfl

/-- 'unview', told so that reckoning it writes it out. -/
def unviewK {α : Type} (l : Loc) : List (Nat × V) → (List (Nat × V) → α) → α
  | [], k => k []
  | (t, v) :: r, k => match v with
    | .view l' sz xs => unviewK l r fun r => k ((t, if l' = l then .d (.list sz xs) else .view l' sz xs) :: r)
    | v => unviewK l r fun r => k ((t, v) :: r)

theorem unviewK_eq {α : Type} {l : Loc} : ∀ {tm : List (Nat × V)} {k : List (Nat × V) → α}, unviewK l tm k = k (unview l tm)
  | [], _ => rfl
  | (t, v) :: r, k => by cases v <;> simp only [unviewK, unview, unviewK_eq]

/-- Bytes of a string. -/
theorem run_bytes {ops : Array Oper} {o : Oper} {l : List Oper} {d : Nat} {src dst e : TypeId} {x : Operand} {a : List UInt8}
    (h : awpO X ops l Q ⟨(d, .c (.own 1 (a.map byteD))) :: tm1, hp, nid, df, pn⟩)
    (hw : wantedAt ops tm o = some true) (hd : o.dst = some d) (ho : o.op = .convert src dst x) (hs : X.P.underlying src = some .string) (hdd : X.P.underlying dst = some (.slice e)) (he : X.P.underlying e = some (.int .u8)) (hz : tsz X.P e = some 1)
    (hx : evT X.P src tm x = some (.c (.d (.str a)))) (hk : unviewK (.tmp d) tm some = some tm1) (hb : a.length ≤ 1099511627776) : awpO X ops (o :: l) Q ⟨tm, hp, nid, df, pn⟩ := by
  refine run_any hw hd (fun _ => ev_bytes (s := ⟨tm, hp, nid, df, pn⟩) ho hs hdd he hz hx hb) ?_
  rw [unviewK_eq, Option.some.injEq] at hk
  rw [setTmp_own, hk]
  exact h

end

section
variable {X : Ctx} {f : Nat} {Q : AX → St → Prop} {tm tm' tm1 tm2 : List (Nat × V)} {hp hp' : List (Nat × List C)} {nid : Nat} {df : List (Nat × List Nat)} {pn : Option D}

/-- 'plainAt', told so that reckoning it writes it out. -/
def plainAtK {α : Type} (t : Nat) : List (Nat × V) → (List (Nat × V) → α) → α
  | [], k => k []
  | (j, v) :: r, k => if j = t then (match v with | .c (.own sz xs) => k ((j, .d (.list sz xs)) :: r) | v => k ((j, v) :: r)) else plainAtK t r fun r => k ((j, v) :: r)

theorem plainAtK_eq {α : Type} {t : Nat} : ∀ {tm : List (Nat × V)} {k : List (Nat × V) → α}, plainAtK t tm k = k (plainAt t tm)
  | [], _ => rfl
  | (j, v) :: r, k => by
    simp only [plainAtK, plainAt]
    by_cases hj : j = t
    · rw [if_pos hj, if_pos hj]
      cases v with
      | c y => cases y <;> rfl
      | _ => rfl
    · rw [if_neg hj, if_neg hj, plainAtK_eq]

/-- append to the slice of a temporary. -/
theorem run_append_view {ops : Array Oper} {o : Oper} {l : List Oper} {d : Nat} {c : Go.Call} {t u e : TypeId} {x y : Operand} {n w : Nat} {yv : V} {xs ys zs : List D}
    (h : awpO X ops l Q ⟨(d, .c (.own n (xs ++ ys))) :: tm2, hp, nid, df, pn⟩)
    (hwa : wantedAt ops tm o = some true) (hd : o.dst = some d) (ho : o.op = .call c) (hc : c.callee = .builtin .append) (ha : c.args.toList = [x, y]) (hat : c.argTypes.toList = [t, u]) (ht : telem X.P t = some e) (hn : tsz X.P e = some n) (hu : isSource X.P u = true)
    (hb : (Nat.ble (X.P.bytesOf e) 1024 && zeroFits X.P e n) = true) (hx : evT X.P t tm x = some (.view (.tmp w) n xs)) (hw : look w tm = some (.c (.own n zs))) (hy : evT X.P u tm y = some yv) (hys : appended yv = some (n, ys))
    (hk1 : plainAtK w tm some = some tm1) (hk2 : unviewK (.tmp d) tm1 some = some tm2) (hl : xs.length + ys.length ≤ 4294967296) : awpO X ops (o :: l) Q ⟨tm, hp, nid, df, pn⟩ := by
  simp only [Bool.and_eq_true] at hb
  refine run_any hwa hd (fun _ => ev_append_view (s := ⟨tm, hp, nid, df, pn⟩) ho hc ha hat ht hn hu ⟨Nat.le_of_ble_eq_true hb.1, hb.2⟩ hx hw hy hys hl) ?_
  rw [plainAtK_eq, Option.some.injEq] at hk1
  rw [unviewK_eq, Option.some.injEq] at hk2
  rw [setTmp_own]
  simp only [hk1, hk2]
  exact h

/-- append to the slice of a cell. -/
theorem run_append_cell {ops : Array Oper} {o : Oper} {l : List Oper} {d : Nat} {c : Go.Call} {t u e : TypeId} {x y : Operand} {n b off : Nat} {yv : V} {xs ys zs : List D} {cells : List C}
    (h : awpO X ops l Q ⟨(d, .c (.own n (xs ++ ys))) :: tm2, hp', nid, df, pn⟩)
    (hwa : wantedAt ops tm o = some true) (hd : o.dst = some d) (ho : o.op = .call c) (hc : c.callee = .builtin .append) (ha : c.args.toList = [x, y]) (hat : c.argTypes.toList = [t, u]) (ht : telem X.P t = some e) (hn : tsz X.P e = some n) (hu : isSource X.P u = true)
    (hb : (Nat.ble (X.P.bytesOf e) 1024 && zeroFits X.P e n) = true) (hx : evT X.P t tm x = some (.view (.cell b off) n xs)) (hw : look b hp = some cells) (hw' : cells[off]? = some (.own n zs)) (hy : evT X.P u tm y = some yv) (hys : appended yv = some (n, ys))
    (hk2 : unviewK (.tmp d) tm some = some tm2) (hhp : upd b (cells.set off (.d (.list n xs))) hp = hp') (hl : xs.length + ys.length ≤ 4294967296) : awpO X ops (o :: l) Q ⟨tm, hp, nid, df, pn⟩ := by
  simp only [Bool.and_eq_true] at hb
  refine run_any hwa hd (fun _ => ev_append_cell (s := ⟨tm, hp, nid, df, pn⟩) ho hc ha hat ht hn hu ⟨Nat.le_of_ble_eq_true hb.1, hb.2⟩ hx hw hw' hy hys hl) ?_
  rw [unviewK_eq, Option.some.injEq] at hk2
  rw [setTmp_own]
  simp only [hk2, hhp]
  exact h
end

section
variable {X : Ctx} {f : Nat} {Q : AX → St → Prop} {tm : List (Nat × V)} {hp : List (Nat × List C)} {nid : Nat} {df : List (Nat × List Nat)} {pn : Option D}

/-- A call that is handed no block, and hands none back; the way on comes first. -/
theorem run_callc {ops : Array Oper} {o : Oper} {l : List Oper} {c : Go.Call} {fo : Operand} {g d : Nat} {args args' : List C} {v : V}
    (h : awpO X ops l Q ⟨(d, v) :: tm, hp, nid, df, pn⟩)
    (hw : wantedAt ops tm o = some true) (hd : o.dst = some d) (ho : o.op = .call c) (hc : c.callee = .value fo) (hf : ev tm fo = some (.c (.fn g [])))
    (ha : argsT X.P tm c.args.toList c.argTypes.toList = some args) (hi : args.flatMap C.ids = []) (hj : mapM? (C.into []) args = some args) (hst : args.map C.still = args') (hH : (X.H g 999999).isEmpty = true) (hv : aval X g args' [] (.ret v [])) (hb : V.back [] v = some v) (hno : v.isOwn = false) :
    awpO X ops (o :: l) Q ⟨tm, hp, nid, df, pn⟩ := run_call hw hd ho hc hf ha hi hj hst hH hv hb hno h
end
end Go.AM
