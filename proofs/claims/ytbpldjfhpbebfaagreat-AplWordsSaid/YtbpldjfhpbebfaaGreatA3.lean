/- Part of a proof about the given program: the abstract machine, the printed functions, the plain laws. (AMSelf2, AMExec, AMAcall, AMTop, AMLogic, AMSteps, AMRun, AMWalk, AMPrint, AMPrint2, AMFields, AMTypes, AMExt, AMArr, AMExt2, AMFx, AMSelf3, AW0, AW1, AMWp, AMRange, AX0, AX1, AXFrunes_Good, AXFrunes_first, AXFrunes_put_nil, AXFrunes_One, AXFstringslite_HasPrefix, AXFstrings_HasPrefix, AXT, AXFalex_lexer_fixed, AXP) -/
import Derived.Test.YtbpldjfhpbebfaaGreatA2
import Derived.Recover
import Derived.Below
import Derived.Shelf.Strings.Fields
import Derived.Shelf.Strings.OnBuilder
import Derived.Shelf.Strings.IndexAnyAll
import Derived.Shelf.Small.Strs
import Derived.Shelf.Strings.Search3
import Derived.Lib.IndexMore
import Derived.Test.YtbpldjfhpbebfaaGreatProg
import Derived.KernelRfl
import Derived.Maps.RangeRun
set_option linter.all false
set_option linter.unusedSectionVars false
set_option linter.unusedVariables false
set_option linter.unusedSimpArgs false

namespace Go.AM
open Go
variable [Globs]
section
variable {P : Program} {K K' : Col} {μ μ' : Nat → Nat} {w w' : World} {s : St} {a : Act}
theorem doCallH_sound {call : Call} (hcall : CallsOK P call) {f : Nat} {args : List C} {b off : Nat} {V : V} {s' : St} (h : doCallH call f args b off s = some (V, s')) (hs : Sim K μ s a w)
  {vs : List Value} (hargs : RepCs K μ w args vs) : Callee P f ∧ μ b < w.heap.size ∧ ∃ v, w.cell? (ad (μ b) off) = some v ∧ ∃ sz xs, cellOwn s.heap b off = some (sz, xs) ∧ cellOwn s'.heap b off = some (sz, xs) ∧
   Calls P f vs.toArray w fun e w' => ∃ K' μ', After K μ w s.nid K' μ' w' ∧ Sim K' μ' s' a w' ∧ s.nid ≤ s'.nid ∧ PlainV V ∧ (∀ b ∈ V.ids, b < s'.nid) ∧ w'.cell? (ad (μ' b) off) = some v ∧ μ' b = μ b ∧ ∃ u, e = .returned u ∧ RepV K' μ' w' V u := by
 unfold doCallH at h
 split at h
 ·rename_i cells hb
  split at h
  ·rename_i sz xs hc
   split at h
   ·rename_i V0 s1 ids hd
    split at h
    ·rename_i cells1 hb1
     split at h
     ·rename_i hc1
      simp only [Option.some.injEq, Prod.mk.injEq] at h
      obtain ⟨rfl, rfl⟩ := h
      obtain ⟨v, g1, g2, g3, g4, g5, g6, g7, hs1⟩ := hs.hide hb hc
      have hbn := (hs.heap b cells hb).1
      have hargs' : RepCs (colHide K μ b off) μ w args vs := hargs.step (step_hide g6) (by simp)
      refine ⟨doCall_callee hcall hd, g7, v, g1, sz, xs, by simp only [cellOwn, hb, hc], ?_, ?_⟩
      ·have hlt : off < cells1.length := (List.getElem?_eq_some_iff.1 hc1).1
       simp only [cellOwn, look_upd_same, List.getElem?_set_self hlt]
      refine (doCall_sound hcall hd hs1 hargs').mono ?_
      rintro e w' ⟨K1, μ1, hA, hR⟩
      obtain ⟨r1, r2, r3, r4, r5, u, rfl, r6⟩ := hR
      have hmu : μ1 b = μ b := hA.mu b hbn
      obtain ⟨q1, q2, q3, q4⟩ := r1.unhide hA.step hmu g1 g2 g3 g4 g5 g6 g7 hb1 hc1
      exact ⟨_, μ1, ⟨q1, hA.mu⟩, q4, r2, r3, r4, q3, hmu, u, rfl, r6.step q2 (by simp)⟩
     ·simp at h
    ·simp at h
   ·simp at h
  ·simp at h
 ·simp at h
theorem getD_put_ne (a : Act) {d t : Nat} (v : Value) (h : d ≠ t) : (a.put (some d) v).tmps.getD t Go.undef = a.tmps.getD t Go.undef := by
 rw [getD_put]; simp [h]
theorem ptr_yields {o : Oper} {ops : Array Oper} (hs : Sim K μ s a w) (hg : o.guard = none) (hl : (match o.op with | .move _ => true | .nilCheck _ => true | .fieldAddr _ _ _ => true | _ => false) = true) {b off : Nat}
  (h : evR P s.nid o s.tmps s.heap = some (.c (.ptr b off), none)) : Yields P ops o (.pointer (some (ad (μ b) off))) a ∧ b < s.nid := by
 have hw : Region.wanted o (yielded ops a.tmps) = true := by simp [Region.wanted, hg]
 cases ho : o.op with
 | move x =>
  simp only [evR, ho] at h
  split at h
  ·split at h <;> simp at h
  ·rename_i v _ hx
   simp only [Option.some.injEq, Prod.mk.injEq, and_true] at h
   subst h
   have hr := evT_rep hs hx
   simp only [RepV, RepC] at hr
   exact ⟨.inl ⟨hw, fun w' => by simp [execOp, ho, hr]⟩, evT_ids hs hx b (by simp [V.ids, C.ids])⟩
  ·simp at h
 | nilCheck x =>
  simp only [evR, ho] at h
  split at h
  ·rename_i b' off' hx
   simp only [Option.some.injEq, Prod.mk.injEq, V.c.injEq, C.ptr.injEq, and_true] at h
   obtain ⟨rfl, rfl⟩ := h
   have hr := ev_rep hs hx
   simp only [RepV, RepC] at hr
   exact ⟨.inl ⟨hw, fun w' => by simp [execOp, ho, hr]⟩, ev_ids hs hx b' (by simp [V.ids, C.ids])⟩
  ·simp at h
  ·simp at h
  ·simp at h
 | fieldAddr t x i =>
  simp only [evR, ho] at h
  split at h
  ·rename_i off0 ft b' o' hf hx
   split at h
   ·rename_i n hn
    simp only [Option.some.injEq, Prod.mk.injEq, V.c.injEq, C.ptr.injEq, and_true] at h
    obtain ⟨rfl, rfl⟩ := h
    obtain ⟨fs, f, ht, hfi, rfl, rfl⟩ := tfield_some hf
    have hr := ev_rep hs hx
    simp only [RepV, RepC] at hr
    refine ⟨.inl ⟨hw, fun w' => ?_⟩, ev_ids hs hx b' (by simp [V.ids, C.ids])⟩
    have hsz := sizeOf_run (w := w') hn
    simp [execOp, ho, hr, Instr.fieldAt, run_underlying ht, hfi, Instr.sureAddr, fieldPlace, hsz, Addr.add_lit]
   ·simp at h
  ·split at h <;> simp at h
  ·simp at h
 | _ => simp [ho] at hl
theorem take_ptrs {ops : Array Oper} {Q : Exit → Act → World → Prop} (hns : Region.noSelect ops = true) (hQ : ∀ c a w, ¬ Q (.panic c) a w) (hg : ∀ o ∈ ops.toList, o.guard = none) (hd : ∀ o ∈ ops.toList, ∀ t, o.dst = some t → t < a.tmps.size) :
  ∀ (is : List (Nat × Oper)) (fuel : Nat) (listed : Array Bool) (s s' : St) (a' : Act), a'.tmps.size = a.tmps.size → evPtrs P (is.map (·.2)) s = some s' → Sim K μ s a' w → (∀ x ∈ is, ops[x.1]? = some x.2) →
   (∀ pre i post, is.map (·.1) = pre ++ i :: post → Region.free .any ops (pre.foldl (fun r i => r.setIfInBounds i true) listed) i = true ∧ (Region.ready .any ops (pre.foldl (fun r i => r.setIfInBounds i true) listed)).contains i = true) →
   (∀ a'', Sim K μ s' a'' w → a''.tmps.size = a.tmps.size → wpAny P .any ops Q fuel ((is.map (·.1)).foldl (fun r i => r.setIfInBounds i true) listed) a'' w) → wpAny P .any ops Q (fuel + is.length) listed a' w
 | [], fuel, listed, s, s', a', hsz, he, hs, _, _, hk => by
  simp only [List.map_nil, evPtrs, Option.some.injEq] at he; subst he
  exact hk a' hs hsz
 | (i, o) :: is, fuel, listed, s, s', a', hsz, he, hs, hio, hfr, hk => by
  simp only [List.map_cons, evPtrs] at he
  split at he
  ·rename_i b off hl hev
   have ho := hio (i, o) (by simp)
   have hom : o ∈ ops.toList := by
    rw [← Array.getElem?_toList] at ho
    exact List.mem_of_getElem? ho
   obtain ⟨hy, hb⟩ := ptr_yields (ops := ops) hs (hg o hom) hl hev
   obtain ⟨f1, f2⟩ := hfr [] i (is.map (·.1)) (by simp)
   have hdd : ∀ t, o.dst = some t → t < a'.tmps.size := fun t ht => by rw [hsz]; exact hd o hom t ht
   have hs2 : Sim K μ (putDst o (.c (.ptr b off)) s) (a'.put o.dst (.pointer (some (ad (μ b) off)))) w :=
    hs.put hdd ⟨by simp [RepV, RepC], by simp [V.ids, C.ids]; exact hb, by simp, by simp⟩
   rw [show fuel + ((i, o) :: is).length = (fuel + is.length) + 1 from by simp; omega]
   refine wpAny_take ho hns f1 f2 (fun c a w h => absurd h (hQ c _ w)) hy ?_
   refine take_ptrs hns hQ hg hd is fuel _ _ s' _ (by rw [put_size]; exact hsz) he hs2 (fun x hx => hio x (by simp [hx])) ?_ ?_
   ·intro pre j post hp
    have := hfr (i :: pre) j post (by simp [hp])
    simpa using this
   ·intro a'' h1 h2
    have := hk a'' h1 h2
    simpa using this
  ·simp at he
theorem callH_wp {call : Call} (hcall : CallsOK P call) (hP : ProgOK P) {o : Oper} {b off d6 : Nat} {V : V} {s' : St} (h : evCallH P call b off o s = some (V, s')) (hs : Sim K μ s a w) (hd6 : o.dst = some d6) (hd : d6 < a.tmps.size)
  {next : Act → World → Prop} {Q : Exit → Act → World → Prop} (v : Value) (hv : w.cell? (ad (μ b) off) = some v)
  (hk : ∀ K' μ' a' w', After K μ w s.nid K' μ' w' → s.nid ≤ s'.nid → Sim K' μ' (putDst o V s') a' w' → a'.tmps.size = a.tmps.size → w'.cell? (ad (μ' b) off) = some v → μ' b = μ b → (∀ t, d6 ≠ t → a'.tmps.getD t Go.undef = a.tmps.getD t Go.undef) → next a' w') : o.wp P a w next Q := by
 unfold evCallH at h
 split at h
 ·rename_i c ho
  split at h
  ·rename_i f hc
   split at h
   ·rename_i g args hf hargs
    have hfr := ev_rep hs hf
    simp only [RepV, RepC] at hfr
    have hargr : RepCs K μ w args (c.args.toList.map a.eval) := argsT_rep hs hargs
    obtain ⟨hce, hlt, v0, hv0, sz, xs, hco, hco', hcal⟩ := doCallH_sound hcall h hs hargr
    rw [hv, Option.some.injEq] at hv0
    subst hv0
    have hrun : (execOp a.eval o).run P w = .ok (.enter g ((c.args.toList.map a.eval)).toArray) w := by
     have he := callFunc_run hP hce (c.args.map a.eval) w
     have e2 : (c.args.toList.map a.eval).toArray = c.args.map a.eval := by
      apply Array.ext'; simp
     rw [e2]
     simp [execOp, ho, resolve, hc, Deferred.ofValue, hfr, invoke, he]
    simp only [Oper.wp, hrun, Oper.upon_enter]
    refine hcal.mono ?_
    rintro e w' ⟨K', μ', haf, h1, h2, h3, h4, h5, h6, u, rfl, h7⟩
    refine hk K' μ' (a.put o.dst u) w' haf h2 ?_ (put_size _ _ _) h5 h6 ?_
    ·exact h1.put (fun t ht => by rw [hd6] at ht; simp only [Option.some.injEq] at ht; omega) ⟨h7, h4, fun sz xs e => absurd e (h3.1 sz xs), fun l sz xs e => absurd e (h3.2 l sz xs)⟩
    ·intro t ht
     rw [hd6]; exact getD_put_ne a u ht
   ·simp at h
  ·simp at h
 ·simp at h
theorem load_wp {o : Oper} {t : TypeId} {x d4 : Nat} {next : Act → World → Prop} {Q : Exit → Act → World → Prop} (ho : o.op = .load t (.tmp x)) (hd : o.dst = some d4) (ht : tagg P t = some false) {g off : Nat} {v : Value}
  (hx : a.tmps.getD x Go.undef = .pointer (some (ad g off))) (hv : w.cell? (ad g off) = some v) (h : next (a.put (some d4) v) w) : o.wp P a w next Q := by
 have hrun : (execOp a.eval o).run P w = .ok (.value v) w := by
  have hx' : a.eval (.tmp x) = .pointer (some (ad g off)) := hx
  simp [execOp, ho, hx', Instr.loadAt, Instr.sureAddr, loadVar_one ht _ _ _ hv]
 simp only [Oper.wp, hrun, Oper.upon_value, hd]
 exact h
theorem seq_any {call : Call} (hcall : CallsOK P call) (hP : ProgOK P) {ops : Array Oper} {Q : Exit → Act → World → Prop} {sz base : Nat} {K0 : Col} {μ0 : Nat → Nat} {w0 : World} (hg : ∀ o ∈ ops.toList, o.guard = none) (hd : ∀ o ∈ ops.toList, ∀ t, o.dst = some t → t < sz) :
  ∀ (is : List (Nat × Oper)) (listed : Array Bool) (K : Col) (μ : Nat → Nat) (s s' : St) (a : Act) (w : World), a.tmps.size = sz → evSeq P call (is.map (·.2)) s = some s' → Sim K μ s a w → (∀ x ∈ is, ops[x.1]? = some x.2) → After K0 μ0 w0 base K μ w → base ≤ s.nid →
   (∀ pre i post, is.map (·.1) = pre ++ i :: post → Region.ready .any ops (pre.foldl (fun r i => r.setIfInBounds i true) listed) = [i]) →
   Region.ready .any ops ((is.map (·.1)).foldl (fun r i => r.setIfInBounds i true) listed) = [] →
   (∀ K' μ' a' w', After K0 μ0 w0 base K' μ' w' → base ≤ s'.nid → Sim K' μ' s' a' w' → a'.tmps.size = sz → Q .normal a' w') → wpAny P .any ops Q is.length listed a w
 | [], listed, K, μ, s, s', a, w, hsz, he, hs, _, haf, hb, _, hfin, hk => by
  simp only [List.map_nil, evSeq, Option.some.injEq] at he; subst he
  exact wpAny_done (by simpa using hfin) (hk K μ a w haf hb hs hsz) _
 | (i, o) :: is, listed, K, μ, s, s', a, w, hsz, he, hs, hio, haf, hb, hfr, hfin, hk => by
  simp only [List.map_cons, evSeq] at he
  split at he
  ·rename_i V s1 ft hev
   have ho := hio (i, o) (by simp)
   have hom : o ∈ ops.toList := by
    rw [← Array.getElem?_toList] at ho
    exact List.mem_of_getElem? ho
   have f1 := hfr [] i (is.map (·.1)) (by simp)
   rw [show ((i, o) :: is).length = is.length + 1 from by simp]
   refine wpAny_all (rs := [i]) (by simpa using f1) (by simp) ?_
   intro j hj
   simp only [List.mem_singleton] at hj; subst hj
   unfold wpOp
   simp only at ho
   have hw : Region.wanted o (yielded ops a.tmps) = true := by simp [Region.wanted, hg o hom]
   simp only [ho, hw, if_true]
   refine .inl (op_sound hcall hP hs hev (fun t ht => by rw [hsz]; exact hd o hom t ht) ⟨?_, by intro d s' K' μ' w' u e; simp at e⟩)
   intro V' s'' K' μ' a' w' e haf' hn hs' hsz'
   simp only [ORes.val.injEq] at e
   obtain ⟨rfl, rfl⟩ := e
   refine seq_any hcall hP hg hd is _ K' μ' _ s' a' w' (by rw [hsz', hsz]) he hs' (fun x hx => hio x (by simp [hx])) (haf.trans haf' hb) ?_ ?_ ?_ hk
   ·show base ≤ (putDst o V s1).nid
    rw [putDst, putSt_nid]; omega
   ·intro pre k post hp
    have := hfr (j :: pre) k post (by simp [hp])
    simpa using this
   ·simpa using hfin
  ·simp at he
theorem Sim.forget (h : Sim K μ s a w) {d : Nat} (hd : d < a.tmps.size) (hn : look d s.tmps = none) (v : Value) {b off sz : Nat} {xs : List D} (hrep : Rep K w (.list sz xs) v) (htied : Tied μ s a w (.cell b off) v) : Sim K μ s (a.put (some d) v) w := by
 have h1 : Sim K μ (putSt (some d) (.view (.cell b off) sz xs) s) (a.put (some d) v) w :=
  h.put (fun t ht => by simp only [Option.some.injEq] at ht; omega) ⟨hrep, by simp [V.ids], by simp, fun l z ys e => by simp only [V.view.injEq] at e; obtain ⟨rfl, rfl, rfl⟩ := e; exact htied⟩
 have h2 := h1.weaken (tm := s.tmps) (fun t u ht => ⟨u, by
  have hne : d ≠ t := by rintro rfl; rw [hn] at ht; simp at ht
  simp only [putSt, setTmp, look]
  rw [if_neg hne]; exact ht, .inl rfl⟩)
 exact h2
theorem build_at {call : Call} {o : Oper} {t : TypeId} {n : Nat} {ps : Array (Nat × Operand)} {d4 d6 : Nat} (ho : o.op = .buildSlice t n ps) (hps : ps.toList = [(0, .tmp d6)]) (hne : d4 ≠ d6) {u V : V} {s s' : St} {ft : Foot}
  (h : evOp P call s.nid o { s with tmps := (d4, u) :: s.tmps } = some (.val V s', ft)) : s' = { s with tmps := (d4, u) :: s.tmps } ∧ (∃ z ys, V = .c (.own z ys)) ∧ ∃ ft', evOp P call s.nid o s = some (.val V s, ft') := by
 have hl : look d6 ((d4, u) :: s.tmps) = look d6 s.tmps := by simp only [look]; rw [if_neg hne]
 have he : ∀ e, evT P e ((d4, u) :: s.tmps) (.tmp d6) = evT P e s.tmps (.tmp d6) := fun e => by simp only [evT, ev, hl]
 have hel : ∀ e k, elemsC P e k ((d4, u) :: s.tmps) 0 [(0, .tmp d6)] = elemsC P e k s.tmps 0 [(0, .tmp d6)] := fun e k => by simp only [elemsC, he]
 have hfn : fnPs [(0, Operand.tmp d6)] = none := rfl
 simp only [evOp, ho, evR, hps, hel, hfn] at h ⊢
 split at h
 ·rename_i v hv
  simp only [Option.some.injEq, Prod.mk.injEq, ORes.val.injEq] at h
  obtain ⟨⟨rfl, rfl⟩, _⟩ := h
  refine ⟨rfl, ?_, ?_⟩
  ·split at hv
   ·split at hv
    ·split at hv
     ·split at hv
      ·simp only [Option.some.injEq, Prod.mk.injEq, and_true] at hv
       exact ⟨_, _, hv.symm⟩
      ·simp at hv
     ·simp at hv
    ·simp at hv
   ·simp at hv
  ·exact ⟨_, rfl⟩
 ·rename_i v cs hv
  exfalso
  split at hv
  ·split at hv
   ·split at hv
    ·split at hv <;> simp at hv
    ·simp at hv
   ·simp at hv
  ·simp at hv
 ·simp at h
theorem putSt_heap {d : Option Nat} {v : V} : (putSt d v s).heap = s.heap := by cases d <;> rfl
theorem evPtrs_nid : ∀ {l : List Oper} {s s' : St}, evPtrs P l s = some s' → s'.nid = s.nid
 | [], s, s', h => by simp only [evPtrs, Option.some.injEq] at h; subst h; rfl
 | o :: r, s, s', h => by
  simp only [evPtrs] at h
  split at h
  ·rw [evPtrs_nid h]; exact putSt_nid
  ·simp at h
theorem evCallH_own {call : Call} {b off : Nat} {o : Oper} {V : V} {s' : St} (h : evCallH P call b off o s = some (V, s')) : ∃ sz xs, cellOwn s.heap b off = some (sz, xs) := by
 unfold evCallH at h
 split at h
 ·split at h
  ·split at h
   ·unfold doCallH at h
    split at h
    ·rename_i cells hb
     split at h
     ·rename_i sz xs hc
      exact ⟨sz, xs, by simp only [cellOwn, hb, hc]⟩
     ·simp at h
    ·simp at h
   ·simp at h
  ·simp at h
 ·simp at h
theorem look_unviewIn_c (ids : List Nat) {t : Nat} {c : C} : ∀ {tm : List (Nat × V)}, look t tm = some (.c c) → look t (AM.unviewIn ids tm) = some (.c c)
 | [], h => by simp [look] at h
 | (j, v) :: r, h => by
  simp only [look] at h
  split at h
  ·rename_i e; subst e
   simp only [Option.some.injEq] at h; subst h
   simp only [AM.unviewIn, look, if_true]
  ·rename_i e
   have ih := look_unviewIn_c ids (tm := r) h
   cases v with
   | view l sz xs => cases l <;> simp only [AM.unviewIn, look] <;> rw [if_neg e] <;> exact ih
   | _ => simp only [AM.unviewIn, look]; rw [if_neg e]; exact ih
theorem look_unview_c (l : Loc) {t : Nat} {c : C} {tm : List (Nat × V)} (h : look t tm = some (.c c)) : look t (AM.unview l tm) = some (.c c) := by
 rw [look_unview, h]; rfl
theorem evCallH_tmp {call : Call} {b off : Nat} {o : Oper} {V : V} {s' : St} (h : evCallH P call b off o s = some (V, s')) {t : Nat} {c : C} (ht : look t s.tmps = some (.c c)) : look t s'.tmps = some (.c c) := by
 unfold evCallH at h
 split at h
 ·split at h
  ·split at h
   ·unfold doCallH at h
    split at h
    ·split at h
     ·split at h
      ·rename_i hdc
       split at h
       ·split at h
        ·simp only [Option.some.injEq, Prod.mk.injEq] at h
         obtain ⟨rfl, rfl⟩ := h
         refine look_unview_c _ ?_
         unfold doCall at hdc
         split at hdc
         ·simp at hdc
         ·split at hdc
          ·split at hdc
           ·split at hdc
            ·simp only [Option.some.injEq, Prod.mk.injEq, ORes.val.injEq] at hdc
             obtain ⟨⟨_, rfl⟩, _⟩ := hdc
             exact look_unviewIn_c _ ht
            ·simp at hdc
           ·split at hdc <;> simp at hdc
           ·simp at hdc
          ·simp at hdc
        ·simp at h
       ·simp at h
      ·simp at h
     ·simp at h
    ·simp at h
   ·simp at h
  ·simp at h
 ·simp at h
def noPan (Q : Exit → Act → World → Prop) : Exit → Act → World → Prop := fun e a w => (∀ c, e ≠ .panic c) ∧ Q e a w
theorem noPan_pan {Q : Exit → Act → World → Prop} {c} {a : Act} {w : World} : ¬ noPan Q (.panic c) a w := fun h => h.1 c rfl
theorem look_putDst_c {o : Oper} {d t : Nat} {V : V} {c : C} (hd : o.dst = some d) (hne : d ≠ t) (h : look t s.tmps = some (.c c)) : look t (putDst o V s).tmps = some (.c c) := by
 simp only [putDst, putSt, hd]
 unfold setTmp
 split
 ·simp only [look]; rw [if_neg hne]; exact look_unview_c _ h
 ·simp only [look]; rw [if_neg hne]; exact h
theorem lst_4 : (lst 12 [0, 1, 2, 3, 5]).setIfInBounds 4 true = lst 12 [0, 1, 2, 3, 5, 4] := by decide
theorem lst_46 : (lst 12 [0, 1, 2, 3, 5, 4]).setIfInBounds 6 true = lst 12 [0, 1, 2, 3, 5, 4, 6] := by decide
theorem lst_467 : (lst 12 [0, 1, 2, 3, 5, 4, 6]).setIfInBounds 7 true = lst 12 [0, 1, 2, 3, 5, 4, 6, 7] := by decide
theorem lst_6 : (lst 12 [0, 1, 2, 3, 5]).setIfInBounds 6 true = lst 12 [0, 1, 2, 3, 5, 6] := by decide
theorem lst_64 : (lst 12 [0, 1, 2, 3, 5, 6]).setIfInBounds 4 true = lst 12 [0, 1, 2, 3, 5, 6, 4] := by decide
theorem lst_647 : (lst 12 [0, 1, 2, 3, 5, 6, 4]).setIfInBounds 7 true = lst 12 [0, 1, 2, 3, 5, 4, 6, 7] := by decide
theorem lst_67 : (lst 12 [0, 1, 2, 3, 5, 6]).setIfInBounds 7 true = lst 12 [0, 1, 2, 3, 5, 6, 7] := by decide
theorem lst_674 : (lst 12 [0, 1, 2, 3, 5, 6, 7]).setIfInBounds 4 true = lst 12 [0, 1, 2, 3, 5, 4, 6, 7] := by decide
set_option maxHeartbeats 4000000 in
theorem selfApp_sound {call : Call} (hcall : CallsOK P call) (hP : ProgOK P) {ops : Array Oper} {sz : Nat} (hd : ∀ o ∈ ops.toList, ∀ t, o.dst = some t → t < sz) {x : AX} {s' : St} (h : selfApp P call ops s = some (x, s')) (hs : Sim K μ s a w) (hsz : a.tmps.size = sz)
  {Q : Exit → Act → World → Prop} (hg : Goal K μ w s.nid sz x s' Q) (id : Nat) : (Code.region id ops true).wp P Q a w := by
 unfold selfApp at h
 split at h
 ·rename_i o0 o1 o2 o3 o4 o5 o6 o7 o8 o9 o10 o11 hchk hops
  unfold selfChk at hchk
  rw [hops] at hchk
  simp only [Bool.and_eq_true, beq_iff_eq, List.all_eq_true, Option.isNone_iff_eq_none] at hchk
  obtain ⟨⟨⟨⟨hgd, hns⟩, hshape⟩, hfree⟩, hrdy⟩ := hchk
  obtain ⟨⟨⟨⟨⟨⟨⟨⟨⟨⟨r1, r2⟩, r3⟩, r4⟩, r5⟩, r6⟩, r7⟩, r8⟩, r9⟩, r10⟩, r11⟩ := hrdy
  have hsize : ops.size = 12 := by rw [← Array.length_toList, hops]; rfl
  have hget : ∀ (i : Nat) (o : Oper), [o0, o1, o2, o3, o4, o5, o6, o7, o8, o9, o10, o11][i]? = some o → ops[i]? = some o := by
   intro i o hi
   rw [← Array.getElem?_toList, hops]; exact hi
  split at h
  ·rename_i s0 t xx d4 d6 hp ho4 hd4 hd6
   rw [ho4, hd4, hd6] at hshape
   split at hshape
   ·rename_i tt xx' d4' d6' tb nb ps d7 e1 e2 e3 ho7 hd7
    simp only [Op.load.injEq, Operand.tmp.injEq, Option.some.injEq] at e1 e2 e3
    obtain ⟨rfl, rfl⟩ := e1
    subst e2; subst e3
    split at hshape
    ·rename_i pp hps
     simp only [Bool.and_eq_true, beq_iff_eq, bne_iff_ne, ne_eq] at hshape
     obtain ⟨⟨⟨⟨⟨⟨hpp, n46⟩, n47⟩, n67⟩, nx4⟩, nx6⟩, nx7⟩ := hshape
     replace hpp := hpp.symm
     subst hpp
     split at h
     ·rename_i b off hxx htg
      split at h
      ·rename_i Vc s1 hcl
       split at h
       ·rename_i szl xs hown
        split at h
        ·rename_i s2 hseq
         simp only [Option.some.injEq, Prod.mk.injEq] at h
         obtain ⟨rfl, rfl⟩ := h
         refine wp_mono (Q := fun e a w => (∀ c, e ≠ .panic c) ∧ Q e a w) ?_ (fun e a w h => h.2)
         refine wp_region_any hP.mixed ?_
         obtain ⟨hdr, hs1⟩ := hs.drawn (w.drawn + 1)
         generalize hw1 : ({ w with drawn := w.drawn + 1 } : World) = w1 at hdr hs1
         have hdd : ∀ o ∈ ops.toList, ∀ t, o.dst = some t → t < a.tmps.size := fun o ho t ht => by rw [hsz]; exact hd o ho t ht
         have hgd' : ∀ o ∈ ops.toList, o.guard = none := fun o ho => hgd o (by rw [hops] at ho; exact ho)
         rw [hsize]
         have hlst0 : Array.replicate 12 false = lst 12 [] := rfl
         rw [hlst0]
         refine take_ptrs (a := a) hns (fun _ _ _ => noPan_pan) hgd' hdd [(0, o0), (1, o1), (2, o2), (3, o3), (5, o5)] 7 (lst 12 []) s s0 a rfl hp hs1 ?_ ?_ ?_
         ·intro y hy
          simp only [List.mem_cons, List.not_mem_nil, or_false] at hy
          rcases hy with rfl | rfl | rfl | rfl | rfl <;> exact hget _ _ rfl
         ·intro pre i post hpre
          have hf : ∀ q ∈ [(([] : List Nat), 0), ([0], 1), ([0, 1], 2), ([0, 1, 2], 3), ([0, 1, 2, 3], 5)], Region.free .any ops (lst 12 q.1) q.2 = true ∧ (Region.ready .any ops (lst 12 q.1)).contains q.2 = true := hfree
          have hmem : (pre, i) ∈ [(([] : List Nat), 0), ([0], 1), ([0, 1], 2), ([0, 1, 2], 3), ([0, 1, 2, 3], 5)] := by
           rcases pre with _ | ⟨p0, _ | ⟨p1, _ | ⟨p2, _ | ⟨p3, _ | ⟨p4, pre⟩⟩⟩⟩⟩ <;> simp at hpre <;> simp [hpre]
          exact hf _ hmem
         intro a2 hs2 hsz2
         show wpAny P .any ops (noPan Q) 7 (lst 12 [0, 1, 2, 3, 5]) a2 w1
         have hnid0 : s0.nid = s.nid := evPtrs_nid hp
         have hxval : a2.tmps.getD xx Go.undef = .pointer (some (ad (μ b) off)) := by
          have := (hs2.tm xx _ hxx).2
          simpa [RepV, RepC] using this
         have hbn : b < s0.nid := hs2.tids xx _ hxx b (by simp [V.ids, C.ids])
         have hsD : Sim K μ (dropT [d4, d6] s0) a2 w1 := hs2.dropped _
         have h4lt : d4 < sz := hd o4 (by rw [hops]; simp) d4 hd4
         have h6lt : d6 < sz := hd o6 (by rw [hops]; simp) d6 hd6
         have h7lt : d7 < sz := hd o7 (by rw [hops]; simp) d7 hd7
         have hsz2' : a2.tmps.size = sz := by rw [hsz2, hsz]
         obtain ⟨v4, hv4, xs0, sz0, hrep0, hco0⟩ : ∃ v4, w1.cell? (ad (μ b) off) = some v4 ∧ ∃ xs0 sz0, Rep K w1 (.list sz0 xs0) v4 ∧ cellOwn (dropT [d4, d6] s0).heap b off = some (sz0, xs0) := by
          obtain ⟨sz0, xs0, hco⟩ := evCallH_own hcl
          unfold cellOwn at hco
          split at hco
          ·rename_i cells hb
           split at hco
           ·rename_i z ys hc
            simp only [Option.some.injEq, Prod.mk.injEq] at hco
            obtain ⟨rfl, rfl⟩ := hco
            obtain ⟨v, g1, _, _, g4, _⟩ := hsD.hide hb hc
            exact ⟨v, g1, ys, z, g4, by simp only [cellOwn, hb, hc]⟩
           ·simp at hco
          ·simp at hco
         have htied0 : ∀ A : Act, Tied μ (dropT [d4, d6] s0) A w1 (.cell b off) v4 := fun A cells z ys _ _ => hv4
         have rest8 : ∀ (K' : Col) (μ' : Nat → Nat) (A : Act) (W : World) (S : St), evSeq P call [o8, o9, o10, o11] S = some s2 → Sim K' μ' S A W → A.tmps.size = sz → After K μ w s.nid K' μ' W → s.nid ≤ S.nid →
           wpAny P .any ops (noPan Q) 4 (lst 12 [0, 1, 2, 3, 5, 4, 6, 7]) A W := by
          intro K' μ' A W S hev hS hA haf hn
          refine seq_any hcall hP hgd' hd [(8, o8), (9, o9), (10, o10), (11, o11)] _ K' μ' S s2 A W hA hev hS ?_ haf hn ?_ ?_ ?_
          ·intro y hy
           simp only [List.mem_cons, List.not_mem_nil, or_false] at hy
           rcases hy with rfl | rfl | rfl | rfl <;> exact hget _ _ rfl
          ·intro pre i post hpre
           rcases pre with _ | ⟨p0, _ | ⟨p1, _ | ⟨p2, _ | ⟨p3, pre⟩⟩⟩⟩ <;> simp at hpre
           ·obtain ⟨rfl, _⟩ := hpre; exact r7
           ·obtain ⟨rfl, rfl, _⟩ := hpre; exact r8
           ·obtain ⟨rfl, rfl, rfl, _⟩ := hpre; exact r9
           ·obtain ⟨rfl, rfl, rfl, rfl, _⟩ := hpre; exact r10
          ·exact List.isEmpty_iff.1 r11
          ·intro K2 μ2 A2 W2 haf2 hn2 hS2 hA2
           exact ⟨by simp, hg .normal K2 μ2 A2 W2 rfl haf2 hn2 hS2 hA2⟩
         simp only [evSeq] at hseq
         split at hseq
         ·rename_i V7 s3' ft7 hev7
          replace hev7 : evOp P call (putDst o6 Vc s1).nid o7 { putDst o6 Vc s1 with tmps := (d4, .view (.cell b off) szl xs) :: (putDst o6 Vc s1).tmps } = some (.val V7 s3', ft7) := hev7
          obtain ⟨rfl, ⟨z7, y7, rfl⟩, ft7', hev7'⟩ := build_at ho7 hps n46 hev7
          have hnidc : (putDst o6 Vc s1).nid = s1.nid := putSt_nid
          have hw67 : ∀ (o : Oper) (A : Act), o ∈ ops.toList → Region.wanted o (yielded ops A.tmps) = true := fun o A ho => by simp [Region.wanted, hgd' o ho]
          have m4 : o4 ∈ ops.toList := by rw [hops]; simp
          have m6 : o6 ∈ ops.toList := by rw [hops]; simp
          have m7 : o7 ∈ ops.toList := by rw [hops]; simp
          have do7 : ∀ (K' : Col) (μ' : Nat → Nat) (A : Act) (W : World), Sim K' μ' { putDst o6 Vc s1 with tmps := (d4, .view (.cell b off) szl xs) :: (putDst o6 Vc s1).tmps } A W → A.tmps.size = sz → After K μ w s.nid K' μ' W → s.nid ≤ s1.nid → ∀ L : Array Bool, L = lst 12 [0, 1, 2, 3, 5, 4, 6, 7] →
            wpOp P ops (noPan Q) 7 (wpAny P .any ops (noPan Q) 4 L) A W := by
           rintro K' μ' A W hS hA haf hn L rfl
           unfold wpOp
           rw [hget 7 o7 rfl]
           simp only [hw67 o7 A m7, if_true]
           refine .inl (op_sound hcall hP hS hev7 (fun t ht => by rw [hA]; exact hd o7 m7 t ht) ⟨?_, by intro d s' K' μ' w' u e; simp at e⟩)
           intro V' s'' K2 μ2 A2 W2 e haf2 hn2 hS2 hA2
           simp only [ORes.val.injEq] at e
           obtain ⟨rfl, rfl⟩ := e
           refine rest8 K2 μ2 A2 W2 _ hseq hS2 (by rw [hA2, hA]) (haf.trans haf2 ?_) ?_
           ·show s.nid ≤ (putDst o6 Vc s1).nid; rw [hnidc]; exact hn
           ·show s.nid ≤ (putDst o7 _ _).nid
            rw [putDst, putSt_nid]
            show s.nid ≤ (putDst o6 Vc s1).nid; rw [hnidc]; exact hn
          have hafw : ∀ {K' : Col} {μ' : Nat → Nat} {W : World}, After K μ w1 (dropT [d4, d6] s0).nid K' μ' W → After K μ w s.nid K' μ' W := by
           intro K' μ' W haf
           have : After K μ w s.nid K μ w1 := ⟨hdr, fun _ _ => rfl⟩
           exact this.trans haf (by show s.nid ≤ s0.nid; omega)
          have hcellrep : ∀ {K' : Col} {μ' : Nat → Nat} {A : Act} {W : World}, Sim K' μ' (putDst o6 Vc s1) A W → ∃ v, W.cell? (ad (μ' b) off) = some v ∧ Rep K' W (.list szl xs) v := by
           intro K' μ' A W hS
           unfold cellOwn at hown
           split at hown
           ·rename_i cells hb
            split at hown
            ·rename_i z ys hc
             simp only [Option.some.injEq, Prod.mk.injEq] at hown
             obtain ⟨rfl, rfl⟩ := hown
             obtain ⟨v, g1, _, _, g4, _⟩ := hS.hide (b := b) (off := off) (cells := cells) (by rw [show (putDst o6 Vc s1).heap = s1.heap from putSt_heap]; exact hb) hc
             exact ⟨v, g1, g4⟩
            ·simp at hown
           ·simp at hown
          have hview : ∀ {K' : Col} {μ' : Nat → Nat} {A : Act} {W : World} {v : Value}, Sim K' μ' (putDst o6 Vc s1) A W → W.cell? (ad (μ' b) off) = some v → A.tmps.getD d4 Go.undef = v → A.tmps.size = sz →
            Sim K' μ' { putDst o6 Vc s1 with tmps := (d4, .view (.cell b off) szl xs) :: (putDst o6 Vc s1).tmps } A W := by
           intro K' μ' A W v hS hv hAv hA
           obtain ⟨v', h1, h2⟩ := hcellrep hS
           rw [hv, Option.some.injEq] at h1; subst h1
           have := hS.put (dst := some d4) (V := .view (.cell b off) szl xs) (v := v) (fun t ht => by simp only [Option.some.injEq] at ht; subst ht; rw [hA]; exact h4lt)
            ⟨h2, by simp [V.ids], by simp, fun l z ys e => by simp only [V.view.injEq] at e; obtain ⟨rfl, rfl, rfl⟩ := e; exact fun cells z ys _ _ => hv⟩
           rw [← hAv, put_same A (by rw [hA]; exact h4lt)] at this
           exact this
          refine wpAny_all (rs := [4, 6]) r1 (by simp) ?_
          intro i hi
          simp only [List.mem_cons, List.not_mem_nil, or_false] at hi
          rcases hi with rfl | rfl
          ·-- the load
           unfold wpOp
           rw [hget 4 o4 rfl]
           simp only [hw67 o4 a2 m4, if_true]
           refine .inl (load_wp ho4 hd4 htg hxval hv4 ?_)
           rw [lst_4]
           have hsA : Sim K μ (dropT [d4, d6] s0) (a2.put (some d4) v4) w1 := hsD.forget (by rw [hsz2']; exact h4lt) (by
            show look d4 (s0.tmps.filter fun p => !([d4, d6] : List Nat).contains p.1) = none
            rw [look_drop]; simp) v4 hrep0 (htied0 a2)
           refine wpAny_all (rs := [6]) r2 (by simp) ?_
           intro i hi
           simp only [List.mem_singleton] at hi; subst hi
           unfold wpOp
           rw [hget 6 o6 rfl]
           simp only [hw67 o6 _ m6, if_true]
           refine .inl (callH_wp hcall hP hcl hsA hd6 (by rw [put_size, hsz2']; exact h6lt) v4 hv4 ?_)
           rw [lst_46]
           intro K' μ' A W haf hn hS hA hcv hmu hkeep
           have hA4 : A.tmps.getD d4 Go.undef = v4 := by
            rw [hkeep d4 (fun e => n46 e.symm), getD_put]; simp [show d4 < a2.tmps.size by rw [hsz2']; exact h4lt]
           have hAsz : A.tmps.size = sz := by rw [hA, put_size]; exact hsz2'
           refine wpAny_all (rs := [7]) r3 (by simp) ?_
           intro i hi
           simp only [List.mem_singleton] at hi; subst hi
           exact do7 K' μ' A W (hview hS hcv hA4 hAsz) hAsz (hafw haf) (by have : s0.nid ≤ s1.nid := hn; omega) _ lst_467
          ·-- the call
           unfold wpOp
           rw [hget 6 o6 rfl]
           simp only [hw67 o6 a2 m6, if_true]
           refine .inl (callH_wp hcall hP hcl hsD hd6 (by rw [hsz2']; exact h6lt) v4 hv4 ?_)
           rw [lst_6]
           intro K' μ' A W haf hn hS hA hcv hmu hkeep
           have hAsz : A.tmps.size = sz := by rw [hA]; exact hsz2'
           have hAx : A.tmps.getD xx Go.undef = .pointer (some (ad (μ' b) off)) := by
            rw [hkeep xx (fun e => nx6 e.symm), hxval, hmu]
           have hn1 : s.nid ≤ s1.nid := by have : s0.nid ≤ s1.nid := hn; omega
           refine wpAny_all (rs := [4, 7]) r4 (by simp) ?_
           intro i hi
           simp only [List.mem_cons, List.not_mem_nil, or_false] at hi
           rcases hi with rfl | rfl
           ·-- then the load
            unfold wpOp
            rw [hget 4 o4 rfl]
            simp only [hw67 o4 A m4, if_true]
            refine .inl (load_wp ho4 hd4 htg hAx hcv ?_)
            rw [lst_64]
            obtain ⟨v', g1, g2⟩ := hcellrep hS
            rw [hcv, Option.some.injEq] at g1; subst g1
            have hS2 := hS.put (dst := some d4) (V := .view (.cell b off) szl xs) (v := v4) (fun t ht => by simp only [Option.some.injEq] at ht; subst ht; rw [hAsz]; exact h4lt)
             ⟨g2, by simp [V.ids], by simp, fun l z ys e => by simp only [V.view.injEq] at e; obtain ⟨rfl, rfl, rfl⟩ := e; exact fun cells z ys _ _ => hcv⟩
            refine wpAny_all (rs := [7]) r5 (by simp) ?_
            intro i hi
            simp only [List.mem_singleton] at hi; subst hi
            exact do7 K' μ' _ W hS2 (by rw [put_size]; exact hAsz) (hafw haf) hn1 _ lst_647
           ·-- the slice is built ahead of the load
            unfold wpOp
            rw [hget 7 o7 rfl]
            simp only [hw67 o7 A m7, if_true]
            rw [lst_67]
            refine .inl (op_sound hcall hP hS hev7' (fun t ht => by rw [hAsz]; exact hd o7 m7 t ht) ⟨?_, by intro d s' K' μ' w' u e; simp at e⟩)
            intro V' s'' K2 μ2 A2 W2 e haf2 hn2 hS2 hA2
            simp only [ORes.val.injEq] at e
            obtain ⟨rfl, rfl⟩ := e
            refine wpAny_all (rs := [4]) r6 (by simp) ?_
            intro i hi
            simp only [List.mem_singleton] at hi; subst hi
            unfold wpOp
            rw [hget 4 o4 rfl]
            simp only [hw67 o4 A2 m4, if_true]
            have hAsz2 : A2.tmps.size = sz := by rw [hA2, hAsz]
            have hl0 : look xx (dropT [d4, d6] s0).tmps = some (.c (.ptr b off)) := by
             show look xx (s0.tmps.filter fun p => !([d4, d6] : List Nat).contains p.1) = _
             rw [look_drop, if_neg (by simp [nx4, nx6]), hxx]
            have hl1 := evCallH_tmp hcl hl0
            have hl2 : look xx (putDst o6 Vc s1).tmps = some (.c (.ptr b off)) := look_putDst_c hd6 (fun e => nx6 e.symm) hl1
            have hl3 : look xx (putDst o7 (.c (.own z7 y7)) (putDst o6 Vc s1)).tmps = some (.c (.ptr b off)) := look_putDst_c hd7 (fun e => nx7 e.symm) hl2
            have hAx2 : A2.tmps.getD xx Go.undef = .pointer (some (ad (μ2 b) off)) := by
             have := (hS2.tm xx _ hl3).2
             simpa [RepV, RepC] using this
            obtain ⟨v5, hv5, hrep5⟩ : ∃ v, W2.cell? (ad (μ2 b) off) = some v ∧ Rep K2 W2 (.list szl xs) v := by
             unfold cellOwn at hown
             split at hown
             ·rename_i cells hb
              split at hown
              ·rename_i z ys hc
               simp only [Option.some.injEq, Prod.mk.injEq] at hown
               obtain ⟨rfl, rfl⟩ := hown
               obtain ⟨v, g1, _, _, g4, _⟩ := hS2.hide (b := b) (off := off) (cells := cells) (by
                rw [show (putDst o7 (.c (.own z7 y7)) (putDst o6 Vc s1)).heap = s1.heap from by rw [putDst, putSt_heap, putDst, putSt_heap]]; exact hb) hc
               exact ⟨v, g1, g4⟩
              ·simp at hown
             ·simp at hown
            refine .inl (load_wp ho4 hd4 htg hAx2 hv5 ?_)
            have hS3 := hS2.put (dst := some d4) (V := .view (.cell b off) szl xs) (v := v5) (fun t ht => by simp only [Option.some.injEq] at ht; subst ht; rw [hAsz2]; exact h4lt)
             ⟨hrep5, by simp [V.ids], by simp, fun l z ys e => by simp only [V.view.injEq] at e; obtain ⟨rfl, rfl, rfl⟩ := e; exact fun cells z ys _ _ => hv5⟩
            have hS4 := hS3.weaken (tm := (putDst o7 (.c (.own z7 y7)) { putDst o6 Vc s1 with tmps := (d4, .view (.cell b off) szl xs) :: (putDst o6 Vc s1).tmps }).tmps) (fun t u ht => ⟨u, by
             simp only [putDst, putSt, hd7, setTmp, AM.unview] at ht ⊢
             simp only [look] at ht ⊢
             by_cases e1 : d7 = t
             ·subst e1
              rw [if_neg n47]
              simpa using ht
             ·rw [if_neg e1] at ht ⊢
              simpa using ht, .inl rfl⟩)
            rw [lst_674]
            refine rest8 K2 μ2 _ W2 _ hseq ?_ (by rw [put_size]; exact hAsz2) ((hafw haf).trans haf2 ?_) ?_
            ·have e : ({ putSt (some d4) (.view (.cell b off) szl xs) (putDst o7 (.c (.own z7 y7)) (putDst o6 Vc s1)) with tmps := (putDst o7 (.c (.own z7 y7)) { putDst o6 Vc s1 with tmps := (d4, .view (.cell b off) szl xs) :: (putDst o6 Vc s1).tmps }).tmps } : St) = putDst o7 (.c (.own z7 y7)) { putDst o6 Vc s1 with tmps := (d4, .view (.cell b off) szl xs) :: (putDst o6 Vc s1).tmps } := by
              simp only [putDst, putSt, hd7]
             rw [← e]; exact hS4
            ·show s.nid ≤ (putDst o6 Vc s1).nid; rw [hnidc]; exact hn1
            ·show s.nid ≤ (putDst o7 _ _).nid
             rw [putDst, putSt_nid]
             show s.nid ≤ (putDst o6 Vc s1).nid; rw [hnidc]; exact hn1
         ·simp at hseq
        ·simp at h
       ·simp at h
      ·simp at h
     ·simp at h
    ·simp at hshape
   ·simp at hshape
  ·simp at h
 ·simp at h
end
end Go.AM

namespace Go.AM
open Go
variable [Globs]
section
variable {P : Program} {K K' : Col} {μ μ' : Nat → Nat} {w w' : World} {s : St} {a : Act}
theorem iter_sound {f : St → Option (AX × St)} {keep : List Nat} {n sz : Nat} {c : Code} {x : AX} {s' : St} {Q : Exit → Act → World → Prop}
  (hf : ∀ {K : Col} {μ : Nat → Nat} {w : World} {s : St} {a : Act} {x : AX} {s' : St} {Q : Exit → Act → World → Prop}, f s = some (x, s') → Sim K μ s a w → a.tmps.size = sz → Goal K μ w s.nid sz x s' Q → c.wp P Q a w) :
  ∀ (k : Nat) (K : Col) (μ : Nat → Nat) (s : St) (a : Act) (w : World), iter f (cleanAt keep n) k s = some (x, s') → Sim K μ s a w → a.tmps.size = sz → n ≤ s.nid → Goal K μ w n sz x s' Q → Code.rounds P c Q k a w
 | 0, K, μ, s, a, w, h, _, _, _, _ => by simp [iter] at h
 | k + 1, K, μ, s, a, w, h, hs, hsz, hn, hg => by
  simp only [iter] at h
  rw [rounds_succ]
  split at h
  ·simp at h
  ·rename_i s1 hc
   obtain ⟨hs1, hn1, _⟩ := hs.clean hc
   split at h
   ·rename_i s2 hf2
    refine hf hf2 hs1 hsz ?_
    intro e K' μ' a' w' ho ha hn2 hs2 hsz2
    simp only [Out] at ho
    subst ho
    rw [hn1] at ha hn2
    exact iter_sound hf k K' μ' s2 a' w' h hs2 hsz2 hn2 (hg.later ha (Nat.le_refl _))
   ·rename_i r hnot
    cases hr : f s1 with
    | none => rw [hr] at h; simp at h
    | some r' =>
     obtain ⟨x', s2⟩ := r'
     rw [hr] at h
     have hx' : x' ≠ .normal := by
      intro e; subst e
      exact hnot s2 hr
     simp only [Option.some.injEq, Prod.mk.injEq] at h
     obtain ⟨rfl, rfl⟩ := h
     refine hf hr hs1 hsz ?_
     intro e K' μ' a' w' ho ha hn2 hs2 hsz2
     rw [hn1] at ha hn2
     have hq := hg e K' μ' a' w' ho ha hn2 hs2 hsz2
     cases e with
     | normal => cases x' <;> simp [Out] at ho; exact absurd rfl hx'
     | _ => exact hq
theorem settle_some {h : List Nat} {n sz : Nat} {r : Option (AX × St)} {x : AX} {s' : St} (hr : settle h n r = some (x, s')) :
  ∃ s0, r = some (x, s0) ∧ ∀ {K : Col} {μ : Nat → Nat} {w : World} {Q : Exit → Act → World → Prop}, Goal K μ w n sz x s' Q → Goal K μ w n sz x s0 Q := by
 unfold settle at hr
 split at hr
 ·rename_i s0
  split at hr
  ·simp only [Option.some.injEq, Prod.mk.injEq] at hr
   obtain ⟨rfl, rfl⟩ := hr
   exact ⟨_, rfl, fun h => h⟩
  ·split at hr
   ·rename_i s1 hc
    simp only [Option.some.injEq, Prod.mk.injEq] at hr
    obtain ⟨rfl, rfl⟩ := hr
    refine ⟨_, rfl, fun hg e K' μ' a' w' ho ha hn hs hsz => ?_⟩
    obtain ⟨h1, h2, _⟩ := hs.clean hc
    exact hg e K' μ' a' w' ho ha (by omega) h1 hsz
   ·simp at hr
 ·exact ⟨_, hr, fun h => h⟩
theorem leaves_some {id : Nat} {r : Option (AX × St)} {x : AX} {s' : St} (hr : leaves id r = some (x, s')) :
  (x = .normal ∧ r = some (.exit id, s')) ∨ (r = some (x, s') ∧ x ≠ .exit id) := by
 unfold leaves at hr
 split at hr
 ·rename_i id' s0
  split at hr
  ·rename_i he
   simp only [Option.some.injEq, Prod.mk.injEq] at hr
   obtain ⟨rfl, rfl⟩ := hr
   exact .inl ⟨rfl, by rw [he]⟩
  ·rename_i he
   simp only [Option.some.injEq, Prod.mk.injEq] at hr
   obtain ⟨rfl, rfl⟩ := hr
   exact .inr ⟨rfl, by simpa using he⟩
 ·rename_i hno
  refine .inr ⟨hr, ?_⟩
  rintro rfl
  exact hno _ _ hr
theorem aexec_sound {H : Nat → List Nat} {call : Call} {rounds sz : Nat} (hcall : CallsOK P call) (hP : ProgOK P) :
  ∀ (c : Code) {K : Col} {μ : Nat → Nat} {w : World} {s : St} {a : Act} {x : AX} {s' : St} {Q : Exit → Act → World → Prop}, dstsBelow sz c = true → aexec P H call rounds c s = some (x, s') →
   Sim K μ s a w → a.tmps.size = sz → Goal K μ w s.nid sz x s' Q → c.wp P Q a w
 | .skip, K, μ, w, s, a, x, s', Q, _, h, hs, hsz, hg => by
  simp only [aexec, Option.some.injEq, Prod.mk.injEq] at h
  obtain ⟨rfl, rfl⟩ := h
  exact wp_skip (hg _ K μ a w rfl (After.refl _ _ _ _) (Nat.le_refl _) hs hsz)
 | .label l, K, μ, w, s, a, x, s', Q, _, h, hs, hsz, hg => by
  simp only [aexec, Option.some.injEq, Prod.mk.injEq] at h
  obtain ⟨rfl, rfl⟩ := h
  exact wp_label (hg _ K μ a w rfl (After.refl _ _ _ _) (Nat.le_refl _) hs hsz)
 | .ret, K, μ, w, s, a, x, s', Q, _, h, hs, hsz, hg => by
  simp only [aexec, Option.some.injEq, Prod.mk.injEq] at h
  obtain ⟨rfl, rfl⟩ := h
  exact wp_ret (hg _ K μ a w rfl (After.refl _ _ _ _) (Nat.le_refl _) hs hsz)
 | .exit id, K, μ, w, s, a, x, s', Q, _, h, hs, hsz, hg => by
  simp only [aexec, Option.some.injEq, Prod.mk.injEq] at h
  obtain ⟨rfl, rfl⟩ := h
  exact wp_exit (hg _ K μ a w rfl (After.refl _ _ _ _) (Nat.le_refl _) hs hsz)
 | .seq c d, K, μ, w, s, a, x, s', Q, hd, h, hs, hsz, hg => by
  simp only [dstsBelow, Bool.and_eq_true] at hd
  simp only [aexec] at h
  refine wp_seq ?_
  split at h
  ·rename_i s1 h1
   refine aexec_sound hcall hP c hd.1 h1 hs hsz ?_
   intro e K' μ' a' w' ho ha hn hs1 hsz1
   simp only [Out] at ho; subst ho
   exact aexec_sound hcall hP d hd.2 h hs1 hsz1 (hg.later ha hn)
  ·rename_i r hnot
   cases hr : aexec P H call rounds c s with
   | none => rw [hr] at h; simp at h
   | some r' =>
    obtain ⟨x', s2⟩ := r'
    rw [hr] at h
    have hx' : x' ≠ .normal := by intro e; subst e; exact hnot s2 hr
    simp only [Option.some.injEq, Prod.mk.injEq] at h
    obtain ⟨rfl, rfl⟩ := h
    refine aexec_sound hcall hP c hd.1 hr hs hsz ?_
    intro e K' μ' a' w' ho ha hn hs1 hsz1
    have hq := hg e K' μ' a' w' ho ha hn hs1 hsz1
    cases e with
    | normal => cases x' <;> simp [Out] at ho; exact absurd rfl hx'
    | _ => exact hq
 | .cond o c d, K, μ, w, s, a, x, s', Q, hd, h, hs, hsz, hg => by
  simp only [dstsBelow, Bool.and_eq_true] at hd
  simp only [aexec] at h
  split at h
  ·rename_i ho
   have hr := ev_rep hs ho
   simp only [RepV, RepC, Rep] at hr
   obtain ⟨s0, h0, hgo⟩ := settle_some (sz := sz) h
   exact wp_cond_true hr (aexec_sound hcall hP c hd.1 h0 hs hsz (hgo hg))
  ·rename_i ho
   have hr := ev_rep hs ho
   simp only [RepV, RepC, Rep] at hr
   obtain ⟨s0, h0, hgo⟩ := settle_some (sz := sz) h
   exact wp_cond_false hr (aexec_sound hcall hP d hd.2 h0 hs hsz (hgo hg))
  ·simp at h
 | .block id c, K, μ, w, s, a, x, s', Q, hd, h, hs, hsz, hg => by
  simp only [dstsBelow] at hd
  simp only [aexec] at h
  obtain ⟨s0, h0, hgo⟩ := settle_some (sz := sz) h
  replace hg := hgo hg
  refine wp_block ?_
  rcases leaves_some h0 with ⟨rfl, h1⟩ | ⟨h1, hne⟩
  ·refine aexec_sound hcall hP c hd h1 hs hsz ?_
   intro e K' μ' a' w' ho ha hn hs1 hsz1
   simp only [Out] at ho; subst ho
   simp only [Exit.inBlock, if_true]
   exact hg _ K' μ' a' w' rfl ha hn hs1 hsz1
  ·refine aexec_sound hcall hP c hd h1 hs hsz ?_
   intro e K' μ' a' w' ho ha hn hs1 hsz1
   have hq := hg e K' μ' a' w' ho ha hn hs1 hsz1
   cases e with
   | exit id' =>
    cases x <;> simp [Out] at ho
    subst ho
    simp only [Exit.inBlock]
    rw [if_neg (by intro e; exact hne (by rw [e]))]
    exact hq
   | _ => exact hq
 | .scope c, K, μ, w, s, a, x, s', Q, hd, h, hs, hsz, hg => by
  simp only [dstsBelow] at hd
  simp only [aexec] at h
  refine wp_scope_straight ?_
  refine aexec_sound hcall hP c hd h hs hsz ?_
  intro e K' μ' a' w' ho ha hn hs1 hsz1
  have hq := hg e K' μ' a' w' ho ha hn hs1 hsz1
  cases e with
  | goto l => cases x <;> simp [Out] at ho
  | _ => exact hq
 | .loop c, K, μ, w, s, a, x, s', Q, hd, h, hs, hsz, hg => by
  simp only [dstsBelow] at hd
  simp only [aexec] at h
  exact wp_loop_rounds rounds (iter_sound (fun h1 h2 h3 h4 => aexec_sound hcall hP c hd h1 h2 h3 h4) rounds K μ s a w h hs hsz (Nat.le_refl _) hg)
 | .region id ops draw, K, μ, w, s, a, x, s', Q, hd, h, hs, hsz, hg => by
  simp only [dstsBelow, List.all_eq_true] at hd
  have hd' : ∀ o ∈ ops.toList, ∀ t, o.dst = some t → t < sz := by
   intro o ho t ht
   have := hd o ho
   rw [ht] at this
   simpa using this
  simp only [aexec] at h
  split at h
  ·simp at h
  rename_i s0 hfz
  obtain ⟨K0, hst0, hn0, _, hs0⟩ := frz_sound hs hfz
  have hg0 : Goal K0 μ w s0.nid sz x s' Q := hg.later ⟨hst0, fun _ _ => rfl⟩ (by rw [hn0]; exact Nat.le_refl _)
  have hk := hs0.keep (H id)
  cases draw with
  | true =>
   simp only [if_true] at h
   split at h
   ·exact draw_sound hcall hP hP.mixed hd' h hk hsz hg0
   ·exact selfApp_sound hcall hP hd' h hk hsz hg0 _
  | false =>
   simp only [Bool.false_eq_true, if_false] at h
   split at h
   ·rename_i x1 s1 fs hev
    simp only [Option.some.injEq, Prod.mk.injEq] at h
    obtain ⟨rfl, rfl⟩ := h
    refine wp_region ?_
    have := evOps_sound hcall hP hd' ops.toList 0 K0 μ _ a w [] (by simp) hev hk hsz hg0
    rw [List.range_eq_range']
    simpa using this
   ·simp at h
 | .rangeFunc _ _ _ _, K, μ, w, s, a, x, s', Q, _, h, _, _, _ => by simp [aexec] at h
 | .goto _, K, μ, w, s, a, x, s', Q, _, h, _, _, _ => by simp [aexec] at h
 | .refuse _, K, μ, w, s, a, x, s', Q, _, h, _, _, _ => by simp [aexec] at h
end
end Go.AM

namespace Go.AM
open Go
variable [Globs]
theorem dstsBelow_mono {n m : Nat} (h : n ≤ m) : ∀ c : Code, dstsBelow n c = true → dstsBelow m c = true
 | .region _ ops _, hd => by
  simp only [dstsBelow, List.all_eq_true] at hd ⊢
  intro o ho
  have := hd o ho
  cases hdst : o.dst with
  | none => rfl
  | some d =>
   rw [hdst] at this
   simp only [decide_eq_true_eq] at this ⊢
   exact Nat.lt_of_lt_of_le this h
 | .seq a b, hd => by
  simp only [dstsBelow, Bool.and_eq_true] at hd ⊢
  exact ⟨dstsBelow_mono h a hd.1, dstsBelow_mono h b hd.2⟩
 | .cond _ a b, hd => by
  simp only [dstsBelow, Bool.and_eq_true] at hd ⊢
  exact ⟨dstsBelow_mono h a hd.1, dstsBelow_mono h b hd.2⟩
 | .block _ c, hd => by simp only [dstsBelow] at hd ⊢; exact dstsBelow_mono h c hd
 | .loop c, hd => by simp only [dstsBelow] at hd ⊢; exact dstsBelow_mono h c hd
 | .scope c, hd => by simp only [dstsBelow] at hd ⊢; exact dstsBelow_mono h c hd
 | .skip, _ | .label _, _ | .ret, _ | .exit _, _ | .goto _, _ | .refuse _, _ => rfl
 | .rangeFunc _ _ _ _, _ => rfl
theorem look_zipIdx' {α : Type} : ∀ {l : List α} {n k : Nat}, look k (zipIdx' n l) = if n ≤ k then l[k - n]? else none
 | [], n, k => by simp [zipIdx', look]
 | x :: l, n, k => by
  simp only [zipIdx', look]
  by_cases h : n = k
  ·subst h; simp
  ·rw [if_neg h, look_zipIdx']
   by_cases h1 : n ≤ k
   ·rw [if_pos (by omega), if_pos h1, show k - n = (k - (n + 1)) + 1 from by omega]; simp
   ·rw [if_neg (by omega), if_neg h1]
def resSem (tmps : Array Value) : ResultVar → Sem Value
 | .tmp t => pure (tmps.getD t Go.undef)
 | .cell p t => do loadVar t (← asAddr (tmps.getD p Go.undef))
theorem results_eq (fn : Func) (tmps : Array Value) : results fn tmps = (do
  let vs ← fn.results.mapM (resSem tmps)
  pure (if h : vs.size = 1 then vs[0] else .tuple vs)) := by
 unfold results
 congr 2
section
variable {P : Program} {K K' : Col} {μ μ' : Nat → Nat} {w w' : World} {s : St} {a : Act}
theorem resC_run (hs : Sim K μ s a w) {r : ResultVar} {c : C} (h : resC P s r = some c) :
  ∃ u, (resSem a.tmps r).run P w = .ok u w ∧ RepC K μ w c u ∧
   (∀ b ∈ c.ids, b < s.nid) ∧ ∀ sz xs, c ≠ .own sz xs := by
 cases r with
 | tmp t =>
  simp only [resC, Option.map_eq_some_iff, Option.bind_eq_some_iff] at h
  obtain ⟨c', ⟨v, hv, hc⟩, rfl⟩ := h
  obtain ⟨_, hr⟩ := hs.tm t v hv
  exact ⟨_, rfl, C.still_rep (argC_rep hr hc).1, fun b hb => hs.tids t v hv b (argC_ids hc b (by rw [C.still_ids] at hb; exact hb)), by intro sz xs; cases c' <;> simp [C.still]⟩
 | cell p t =>
  simp only [resC] at h
  split at h
  ·rename_i b off hp
   have hpr := (hs.tm p _ hp).2
   simp only [RepV, RepC] at hpr
   split at h
   ·rename_i cs hb0
    obtain ⟨cs0, hb, hbm, rfl⟩ := lookC_some hb0
    obtain ⟨vs, hrv, hcv⟩ := (hs.heap b cs0 hb).2.2.vals hbm
    split at h
    ·rename_i n ht hn
     split at h
     ·rename_i hle
      simp only [Option.map_eq_some_iff] at h
      obtain ⟨ds, hds, rfl⟩ := h
      have hnh : ∀ i, i < n → (flatC cs0)[off + i]? ≠ some .hid := by
       intro i hi e
       have hm : C.hid ∈ ((flatC cs0).drop off).take n := by
        refine List.mem_of_getElem? (i := i) ?_
        rw [List.getElem?_take, if_pos hi, get_drop]; exact e
       exact allD_nhid hds _ hm rfl
      have hl := loadVar_agg (P := P) (w := w) ht hn (μ b) off ((vs.drop off).take n) (by have := hrv.length; simp; omega)
       (fun i v hv => by
        rw [List.getElem?_take] at hv
        split at hv
        ·rename_i hin; rw [get_drop] at hv; exact (hcv _ v hv (hnh i hin)).1
        ·simp at hv)
      refine ⟨_, by simp only [resSem, hpr, asAddr, Sem.run_bind, Sem.run_pure, Result.andThen_ok]; exact hl, ?_, by simp [C.ids], by simp⟩
      simp only [RepC, Rep]
      refine ⟨_, rfl, allD_rep hds ((hrv.drop off).take n) ?_⟩
      intro u hu
      obtain ⟨i, hi⟩ := List.getElem?_of_mem hu
      rw [List.getElem?_take] at hi
      split at hi
      ·rename_i hin; rw [get_drop] at hi; exact (hcv _ u hi (hnh i hin)).2.1
      ·simp at hi
     ·simp at h
    ·rename_i ht
     simp only [Option.bind_eq_some_iff] at h
     obtain ⟨c', hc', htold⟩ := h
     obtain ⟨hch, rfl⟩ : c' ≠ .hid ∧ c'.still = c := by
      cases c' <;> simp only [C.told, reduceCtorEq, Option.some.injEq] at htold <;> exact ⟨by simp, htold⟩
     obtain ⟨v, hv1, hv2⟩ := hrv.get hc'
     refine ⟨v, by simp only [resSem, hpr, asAddr, Sem.run_bind, Sem.run_pure, Result.andThen_ok]; exact loadVar_one ht _ _ _ (hcv off v hv1 (by rw [hc']; simpa using hch)).1, C.still_rep hv2, ?_, by intro sz xs; cases c' <;> simp [C.still]⟩
     intro i hi
     rw [C.still_ids] at hi
     exact hs.flat_ids hb (List.mem_of_getElem? hc') i hi
    ·simp at h
   ·simp at h
  ·simp at h
theorem results_list (hs : Sim K μ s a w) : ∀ {rs : List ResultVar} {cs : List C}, mapM? (resC P s) rs = some cs →
  ∃ us, (rs.mapM (resSem a.tmps)).run P w = .ok us w ∧
   RepCs K μ w cs us ∧ (∀ c ∈ cs, (∀ b ∈ c.ids, b < s.nid) ∧ ∀ sz xs, c ≠ .own sz xs)
 | [], cs, h => by
  simp only [mapM?, Option.some.injEq] at h; subst h
  exact ⟨[], by simp, .nil, by simp⟩
 | r :: rs, cs, h => by
  simp only [mapM?] at h
  split at h
  ·rename_i c cs' hc hcs
   simp only [Option.some.injEq] at h; subst h
   obtain ⟨u, h1, h2, h3, h4⟩ := resC_run hs hc
   obtain ⟨us, h5, h6, h7⟩ := results_list hs hcs
   refine ⟨u :: us, ?_, .cons h2 h6, ?_⟩
   ·simp only [List.mapM_cons, Sem.run_bind, h1, Result.andThen_ok, h5, Sem.run_pure]
   ·intro x hx
    rcases List.mem_cons.1 hx with rfl | hx
    ·exact ⟨h3, h4⟩
    ·exact h7 x hx
  ·simp at h
theorem resV_run (hs : Sim K μ s a w) {fn : Func} {v : V} (h : resV P s fn.results.toList = some v) :
  ∃ u, (results fn a.tmps).run P w = .ok u w ∧ RepV K μ w v u ∧ (∀ b ∈ v.ids, b < s.nid) ∧ PlainV v := by
 unfold resV at h
 have harr : ∀ us : List Value, (fn.results.toList.mapM (resSem a.tmps)).run P w = .ok us w →
   (results fn a.tmps).run P w = .ok (if h : us.toArray.size = 1 then us.toArray[0] else .tuple us.toArray) w := by
  intro us hu
  rw [results_eq, Sem.run_bind, Array.mapM_eq_mapM_toList, Sem.run_map, hu]
  rfl
 split at h
 ·rename_i c hm
  simp only [Option.some.injEq] at h; subst h
  obtain ⟨us, h1, h2, h3⟩ := results_list hs hm
  cases h2 with
  | cons hc hn =>
   cases hn with
   | nil =>
    rename_i u
    refine ⟨u, ?_, hc, ?_, ?_⟩
    ·rw [harr _ h1]; rfl
    ·exact (h3 c (by simp)).1
    ·refine ⟨fun sz xs e => ?_, by simp⟩
     simp only [V.c.injEq] at e
     exact (h3 c (by simp)).2 sz xs e
 ·rename_i cs hno hm
  simp only [Option.some.injEq] at h; subst h
  obtain ⟨us, h1, h2, h3⟩ := results_list hs hm
  have hl : us.toArray.size ≠ 1 := by
   intro e
   have h4 := h2.length
   have h5 : cs.length = 1 := by simpa [h4] using e
   match cs, h5 with
   | [c], _ => exact hno c rfl
  refine ⟨.tuple us.toArray, ?_, ⟨us, rfl, h2⟩, ?_, by simp [PlainV]⟩
  ·rw [harr _ h1]
   rw [dif_neg hl]
  ·intro b hb
   simp only [V.ids, List.mem_flatMap] at hb
   obtain ⟨c, hc, hb⟩ := hb
   exact (h3 c hc).1 b hb
 ·simp at h
theorem outBlks_rep (hs : Sim K μ s a w) {n : Nat} {extra ids : List Nat} {lh' : List (List C)} (h : outBlks s.heap n extra = some (ids, lh')) :
  HRep (fun b o => tagIn ids (K b o)) (fun i => μ (ids.getD i 0)) w lh' ∧ lh'.length = ids.length ∧ (∃ r, ids = idsFrom 0 n ++ r) := by
 unfold outBlks at h
 split at h
 ·simp at h
 ·split at h
  ·simp at h
  ·rename_i ids' hr
   split at h
   ·rename_i lh hlh
    simp only [Option.some.injEq, Prod.mk.injEq] at h
    obtain ⟨rfl, rfl⟩ := h
    obtain ⟨h1, h2, h3⟩ := reach_spec hr (idsFrom_nodup 0 n)
    obtain ⟨h4, h5⟩ := hrep_into hs h1 hlh
    exact ⟨h4, h5, h2⟩
   ·simp at h
theorem V.into_rep {ids : List Nat} (hK : ∀ b o, K b o = .ro → K' b o = .ro) (hμ : ∀ i b, ids[i]? = some b → μ' i = μ b) {c c' : V} {v : Value} (hc : V.into ids c = some c') (h : RepV K μ w c v)
  (hp : PlainV c) : RepV K' μ' w c' v ∧ (∀ b ∈ c'.ids, b < ids.length) ∧ PlainV c' := by
 have many : ∀ {cs cs' : List C} {vs : List Value}, mapM? (C.into ids) cs = some cs' → RepCs K μ w cs vs → RepCs K' μ' w cs' vs ∧ ∀ c ∈ cs', ∀ b ∈ c.ids, b < ids.length := by
  intro cs cs' vs hm hr
  refine ⟨hr.mapM hm fun c c' v h1 h2 => (AM.into_rep hK hμ h1 h2).1, ?_⟩
  intro c' hc' b hb
  obtain ⟨i, hi⟩ := List.getElem?_of_mem hc'
  obtain ⟨c, hci, hcc⟩ := mapM?_get hm hi
  obtain ⟨u, _, hru⟩ := hr.get hci
  exact (AM.into_rep hK hμ hcc hru).2.1 b hb
 cases c with
 | c x =>
  simp only [V.into, Option.map_eq_some_iff] at hc
  obtain ⟨x', hx, rfl⟩ := hc
  obtain ⟨h1, h2, h3⟩ := AM.into_rep (μ' := μ') hK hμ hx h
  refine ⟨h1, h2, ?_, by simp⟩
  intro sz xs e
  simp only [V.c.injEq] at e
  exact hp.1 sz xs (by rw [(h3 sz xs).1 e])
 | view l sz xs => exact absurd rfl (hp.2 l sz xs)
 | rptr cs =>
  simp only [V.into, Option.some.injEq] at hc; subst hc
  obtain ⟨blk, off, vs, h1, h2, h3⟩ := h
  exact ⟨⟨blk, off, vs, h1, fun i u hu => ⟨hK _ _ (h2 i u hu).1, (h2 i u hu).2⟩, RepL.recolor hK _ _ h3⟩, by simp [V.ids], hp⟩
 | vagg cs =>
  simp only [V.into, Option.map_eq_some_iff] at hc
  obtain ⟨cs', hm, rfl⟩ := hc
  obtain ⟨vs, h1, h2, h3⟩ := h
  obtain ⟨q1, q2⟩ := many hm h2
  refine ⟨⟨vs, h1, q1, h3⟩, ?_, by simp [PlainV]⟩
  intro b hb
  simp only [V.ids, List.mem_flatMap] at hb
  obtain ⟨c, hc, hb⟩ := hb
  exact q2 c hc b hb
 | tuple cs =>
  simp only [V.into, Option.map_eq_some_iff] at hc
  obtain ⟨cs', hm, rfl⟩ := hc
  obtain ⟨vs, h1, h2⟩ := h
  obtain ⟨q1, q2⟩ := many hm h2
  refine ⟨⟨vs, h1, q1⟩, ?_, by simp [PlainV]⟩
  intro b hb
  simp only [V.ids, List.mem_flatMap] at hb
  obtain ⟨c, hc, hb⟩ := hb
  exact q2 c hc b hb
theorem sim_enter {args : List C} {lh : List (List C)} {vs : List Value} {n : Nat} (hr : RepCs K μ w args vs) (hi : ∀ c ∈ args, ∀ b ∈ c.ids, b < lh.length) (hh : HRep K μ w lh) (hb : BoundK K w) (hgl : Glob K w) :
  Sim K μ { tmps := zipIdx' 0 (args.map fun c => V.c c.plain), heap := zipIdx' 0 lh, nid := lh.length, defers := [], pan := none }
   { tmps := vs.toArray ++ Array.replicate n Go.undef, defers := [] } w := by
 have back : ∀ {t : Nat} {v : V}, look t (zipIdx' 0 (args.map fun c => V.c c.plain)) = some v → ∃ c, args[t]? = some c ∧ v = .c c.plain := by
  intro t v h
  rw [look_zipIdx', if_pos (by omega)] at h
  simp only [Nat.sub_zero, List.getElem?_map, Option.map_eq_some_iff] at h
  obtain ⟨c, h1, rfl⟩ := h
  exact ⟨c, h1, rfl⟩
 refine ⟨?_, ?_, ?_, ?_, ?_, hb, rfl, by simp, hgl⟩
 ·intro t v ht
  obtain ⟨c, h1, rfl⟩ := back ht
  obtain ⟨u, h2, h3⟩ := hr.get h1
  have hlt := (List.getElem?_eq_some_iff.1 h2).1
  refine ⟨by simp; omega, ?_⟩
  have : (vs.toArray ++ Array.replicate n Go.undef).getD t Go.undef = u := by
   simp only [Array.getD_eq_getD_getElem?]
   rw [Array.getElem?_append_left (by simpa using hlt)]
   simp [h2]
  rw [this]
  exact C.plain_rep h3
 ·intro t v ht b hb'
  obtain ⟨c, h1, rfl⟩ := back ht
  simp only [V.ids, C.plain_ids] at hb'
  exact hi c (List.mem_of_getElem? h1) b hb'
 ·intro t sz xs ht
  obtain ⟨c, _, e⟩ := back ht
  cases c <;> simp [C.plain] at e
 ·intro t l sz xs ht
  obtain ⟨c, _, e⟩ := back ht
  simp at e
 ·intro b cells hc
  rw [show (St.heap { tmps := zipIdx' 0 (args.map fun c => V.c c.plain), heap := zipIdx' 0 lh, nid := lh.length, defers := [], pan := none }) = zipIdx' 0 lh from rfl, look_zipIdx', if_pos (by omega), Nat.sub_zero] at hc
  obtain ⟨h1, h2⟩ := hh b cells hc
  exact ⟨(List.getElem?_eq_some_iff.1 hc).1, h1, h2⟩
def EndOK (K : Col) (μ : Nat → Nat) (w : World) (n : Nat) (r : CRes) (e : Ending) (w' : World) : Prop :=
 ∃ K' μ', Step mine K w K' w' ∧ BoundK K' w' ∧ (∀ i, i < n → μ' i = μ i) ∧
   match r with
   | .ret v lh' => n ≤ lh'.length ∧ HRep K' μ' w' lh' ∧ PlainV v ∧ (∀ b ∈ v.ids, b < lh'.length) ∧ ∃ u, e = .returned u ∧ RepV K' μ' w' v u
   | .pan d lh' => lh'.length = n ∧ HRep K' μ' w' lh' ∧ ∃ u, e = .panicked [⟨u, false, false⟩] ∧ Rep K' w' d u
theorem outs_ok {n : Nat} {s' : St} {a' : Act} {extra ids : List Nat} {lh' : List (List C)} (ha : After K μ w n K' μ' w') (hs' : Sim K' μ' s' a' w')
  (ho : outBlks s'.heap n extra = some (ids, lh')) :
  Step mine K w (fun b o => tagIn ids (K' b o)) w' ∧ BoundK (fun b o => tagIn ids (K' b o)) w' ∧ (∀ i, i < n → μ' (ids.getD i 0) = μ i) ∧ n ≤ lh'.length ∧
   HRep (fun b o => tagIn ids (K' b o)) (fun i => μ' (ids.getD i 0)) w' lh' ∧ lh'.length = ids.length := by
 obtain ⟨q1, q2, r', q3⟩ := outBlks_rep hs' ho
 refine ⟨⟨ha.step.os, ha.step.tape, ha.step.output, ha.step.size, ha.step.block, fun b o hb' hn => ?_⟩, fun b o hb' => by simp only [hs'.bound b o hb']; rfl, ?_, ?_, q1, q2⟩
 ·have hc := ha.step.cell b o hb' hn
  refine ⟨hc.1, hc.2.1, ?_⟩
  simp only [hc.2.2]
  have : K b o = .ro ∨ K b o = .other := by
   by_cases h1 : K b o = .ro
   ·exact .inl h1
   ·by_cases h2 : K b o = .other
    ·exact .inr h2
    ·exact absurd ⟨h1, h2⟩ hn
  rcases this with h1 | h1 <;> rw [h1] <;> rfl
 ·intro i hi'
  have hgd : ids.getD i 0 = i := by
   rw [q3]
   simp only [List.getD, List.getElem?_append_left (show i < (idsFrom 0 n).length by rw [idsFrom_length]; exact hi'), idsFrom_get hi']
   simp
  rw [hgd, ha.mu i hi']
 ·rw [q2, q3, List.length_append, idsFrom_length]; omega
theorem endRet_sound {n : Nat} {s' : St} {a' : Act} {fn : Func} {r : CRes} (ha : After K μ w n K' μ' w') (hs' : Sim K' μ' s' a' w') (h : endRet P fn n s' = some r) :
  ∃ u, (results fn a'.tmps).run P w' = .ok u w' ∧ EndOK K μ w n r (.returned u) w' ∧ ∃ v lh, r = .ret v lh := by
 unfold endRet at h
 split at h
 ·rename_i v hv
  split at h
  ·rename_i ids lh' hob
   split at h
   ·rename_i v' hv'
    simp only [Option.some.injEq] at h; subst h
    obtain ⟨u, hu, hru, hvi, hpl⟩ := resV_run hs' hv
    obtain ⟨g1, g2, g3, g4, g5, g6⟩ := outs_ok ha hs' hob
    obtain ⟨k1, k2, k3⟩ := V.into_rep (K' := fun b o => tagIn ids (K' b o)) (μ' := fun i => μ' (ids.getD i 0)) (fun b o h => by rw [h]; rfl)
     (fun i b h => by simp [List.getD, h]) hv' hru hpl
    exact ⟨u, hu, ⟨_, _, g1, g2, g3, g4, g5, k3, by rw [g6]; exact k2, u, rfl, k1⟩, v', lh', rfl⟩
   ·simp at h
  ·simp at h
 ·simp at h
theorem endPan_sound {n : Nat} {s' : St} {a' : Act} {d : D} {u : Value} {r : CRes} (ha : After K μ w n K' μ' w') (hs' : Sim K' μ' s' a' w') (hu : Rep K' w' d u) (h : endPan d n s' = some r) :
  EndOK K μ w n r (.panicked [⟨u, false, false⟩]) w' := by
 unfold endPan at h
 split at h
 ·rename_i ids lh' hob
  split at h
  ·rename_i hl
   simp only [Option.some.injEq] at h; subst h
   obtain ⟨g1, g2, g3, g4, g5, g6⟩ := outs_ok ha hs' hob
   exact ⟨_, _, g1, g2, g3, by rw [g6]; exact hl, g5, u, rfl, Rep.recolor (fun b o h => by rw [h]; rfl) _ _ hu⟩
  ·simp at h
 ·simp at h
theorem Sim.defs_nil (hs : Sim K μ s a w) : Sim K μ { s with defers := [] } { a with defers := [] } w :=
 ⟨hs.tm, hs.tids, hs.own, hs.view, hs.heap, hs.bound, rfl, by simp, hs.glob⟩
def modeP : Option D → Value → FrameMode
 | none, _ => .returning
 | some _, u => .panicking [⟨u, false, false⟩]
def modeR : Option D → Value → FrameMode
 | none, _ => .returning
 | some _, u => .panicking [⟨u, true, false⟩]
def CallDOK (P : Program) (pan : Option D) (f : Nat) (args : List C) (lh : List (List C)) (r : CRes) : Prop :=
 ∀ K μ w vs pu, RepCs K μ w args vs → (∀ c ∈ args, ∀ b ∈ c.ids, b < lh.length) → HRep K μ w lh → BoundK K w → Glob K w → (∀ d, pan = some d → Rep K w d pu) →
  CallsD P f vs.toArray (modeP pan pu) w fun e m w' => EndOK K μ w lh.length r e w' ∧ m = (if recsF P f then modeR pan pu else modeP pan pu) ∧ ∃ u, e = .returned u
theorem run_recover {o : Oper} (h : recOp o = true) : (execOp a.eval o).run P w = .ok .recover w ∧ o.guard = none := by
 unfold recOp at h
 split at h
 ·rename_i c ho hg
  split at h
  ·rename_i hc
   refine ⟨?_, hg⟩
   simp [execOp, ho, resolve, hc, invoke, builtin]
  ·simp at h
 ·simp at h
theorem acallD_sound (hP : ProgOK P) (H : Nat → Nat → List Nat) {call : Call} (ih : CallsOK P call) (k : Nat) (pan : Option D) {f : Nat} {args : List C} {lh : List (List C)} {r : CRes} (h : acallD P H call k pan f args lh = some r) :
  Callee P f ∧ CallDOK P pan f args lh r := by
 unfold acallD at h
 split at h
 ·rename_i fn hfn
  split at h
  ·rename_i code hcode
   split at h
   ·rename_i hlen
    refine ⟨⟨fn, hfn, by rw [hcode]; rfl⟩, ?_⟩
    intro K μ w vs pu hr hi hh hb hgl hpu
    have hfo := hP.func f fn hfn
    simp only [funcOK, hcode, Bool.and_eq_true] at hfo
    have hsim := sim_enter (n := fn.ntmps - vs.toArray.size) hr hi hh hb hgl
    have hdb := dstsBelow_mono (m := (vs.toArray ++ Array.replicate (fn.ntmps - vs.toArray.size) Go.undef).size) (by simp; omega) code hfo.2
    have hrec : recsF P f = recs code := by simp only [recsF, hfn, hcode]
    have done : ∀ {x : AX} {s' : St} {e : Exit} {K' : Col} {μ' : Nat → Nat} {a' : Act} {w' : World}, (match x with | .normal | .ret => if s'.defers.isEmpty then endRet P fn lh.length s' else none | _ => none) = some r → Out K' w' x e → After K μ w lh.length K' μ' w' →
      Sim K' μ' s' a' w' → (e = .normal ∨ e = .ret) ∧ a'.defers = [] ∧ ∃ u, (results fn a'.tmps).run P w' = .ok u w' ∧ EndOK K μ w lh.length r (.returned u) w' := by
     intro x s' e K' μ' a' w' hx ho ha hs'
     have key : ∀ {o : Option CRes}, (if s'.defers.isEmpty then endRet P fn lh.length s' else none) = o → o = some r → a'.defers = [] ∧ ∃ u, (results fn a'.tmps).run P w' = .ok u w' ∧ EndOK K μ w lh.length r (.returned u) w' := by
      intro o h1 h2
      subst h2
      split at h1
      ·rename_i hd
       obtain ⟨u, hu, hE, _⟩ := endRet_sound ha hs' h1
       exact ⟨by rw [hs'.defs, List.isEmpty_iff.1 hd]; rfl, u, hu, hE⟩
      ·simp at h1
     cases x with
     | normal => exact ⟨.inl ho, key rfl hx⟩
     | ret => exact ⟨.inr ho, key rfl hx⟩
     | exit id => simp at hx
     | pan d => simp at hx
    have h' : ∃ x s', aexecR P (H f) call k pan code (enterSt args lh) = some (x, s') ∧ (match x with | .normal | .ret => if s'.defers.isEmpty then endRet P fn lh.length s' else none | _ => none) = some r := by
     split at h
     ·rename_i s' he; exact ⟨_, s', he, h⟩
     ·rename_i s' he; exact ⟨_, s', he, h⟩
     ·simp at h
    obtain ⟨x, s', hex, hx⟩ := h'
    unfold aexecR at hex
    split at hex
    ·rename_i hrc
     refine (callsD_of_wp (R := fun e w' => EndOK K μ w lh.length r e w' ∧ ∃ u, e = .returned u) hfn hcode (aexec_sound ih hP code hdb hex hsim rfl ?_)).mono ?_
     ·intro e K' μ' a' w' ho ha hn hs' hsz
      obtain ⟨he, hd, u, hu, hE⟩ := done hx ho ha hs'
      rcases he with rfl | rfl
      ·exact ⟨hd, u, hu, hE, u, rfl⟩
      ·exact ⟨hd, u, hu, hE, u, rfl⟩
     ·rintro e u' w' ⟨rfl, hE, hu⟩
      exact ⟨hE, by rw [hrec, hrc]; rfl, hu⟩
    ·rename_i hrc
     split at hex
     ·rename_i id ops b
      split at hex
      ·rename_i o o1 hops
       have hdops : ∀ q ∈ ops.toList, ∀ t, q.dst = some t → t < (vs.toArray ++ Array.replicate (fn.ntmps - vs.toArray.size) Go.undef).size := by
        intro q hq t ht
        simp only [dstsBelow, Bool.and_eq_true, List.all_eq_true] at hdb
        have := hdb.1 q hq
        rw [ht] at this
        simpa using this
       have hdbb : dstsBelow (vs.toArray ++ Array.replicate (fn.ntmps - vs.toArray.size) Go.undef).size b = true := by
        simp only [dstsBelow, Bool.and_eq_true] at hdb
        exact hdb.2
       simp only [recs, hops] at hrc
       obtain ⟨hr0, d, hd0, ha1, hg1⟩ : recOp o = true ∧ ∃ d, o.dst = some d ∧ o1.op = .assign (.tmp d) ∧ o1.guard = none := by
        revert hrc
        simp only [Bool.and_eq_true]
        rintro ⟨h1, h2⟩
        refine ⟨h1, ?_⟩
        split at h2
        ·rename_i d x e1 e2 e3
         simp only [beq_iff_eq] at h2
         subst h2
         exact ⟨_, e1, e2, e3⟩
        ·simp at h2
       refine callsD_of_wpS hfn hcode ?_
       generalize hA0 : ({ tmps := vs.toArray ++ Array.replicate (fn.ntmps - vs.toArray.size) Go.undef, defers := [] } : Act) = a0 at hsim ⊢
       have hsz0 : a0.tmps.size = (vs.toArray ++ Array.replicate (fn.ntmps - vs.toArray.size) Go.undef).size := by rw [← hA0]
       rw [← hsz0] at hdbb hdops
       intro c₀ cs hc0
       refine wpS_seq (wpS_region ?_)
       have h0 : ops[0]? = some o := by rw [← Array.getElem?_toList, hops]; rfl
       have h1 : ops[1]? = some o1 := by rw [← Array.getElem?_toList, hops]; rfl
       have hsize : ops.size = 2 := by rw [← Array.length_toList, hops]; rfl
       rw [hsize, show List.range 2 = [0, 1] from rfl]
       simp only [wpOpsS, h0, h1]
       have wanted : ∀ {q : Oper} {t : Array Value}, q.guard = none → Region.wanted q (yielded ops t) = true := by
        intro q t hq
        simp [Region.wanted, hq]
       rw [wanted (run_recover (a := { tmps := #[], defers := [] }) (P := P) (w := w) hr0).2]
       simp only [if_true]
       rw [(run_recover hr0).1]
       simp only
       have hdl : d < a0.tmps.size := hdops o (by rw [hops]; simp) d hd0
       have hrun1 : ∀ v, (execOp (Act.put a0 o.dst v).eval o1).run P w = .ok (.value v) w := by
        intro v
        have : (Act.put a0 o.dst v).eval (.tmp d) = v := by
         rw [hd0]
         show (Act.put a0 (some d) v).tmps.getD d Go.undef = v
         rw [getD_put, if_pos ⟨rfl, hdl⟩]
        simp [execOp, ha1, this]
       have fin : ∀ (v : Value) (cs' : List Frame), RepV K μ w (recV pan) v → (∃ u', cs' = { c₀ with mode := u' } :: cs ∧ u' = modeR pan pu) →
         b.wpS P (bodyPostS P fn c₀ cs fun e m w' => EndOK K μ w lh.length r e w' ∧ m = (if recsF P f then modeR pan pu else modeP pan pu) ∧ ∃ u, e = .returned u) ((Act.put a0 o.dst v).put o1.dst v) cs' w := by
        intro v cs' hv hcs
        refine wpS_of_wp ?_
        have hs0 := hsim.keep (H f id)
        have hgood : ∀ {K : Col} {μ : Nat → Nat} {s : St} {a : Act} {w : World} {dst : Option Nat}, RepV K μ w (recV pan) v → Good K μ s a w dst (recV pan) v := by
         intro K μ s a w dst hv
         refine ⟨hv, ?_, ?_, ?_⟩ <;> cases pan <;> simp [recV, Go.AM.V.ids, C.ids]
        have hs1 := hs0.put (dst := o.dst) (hdops o (by rw [hops]; simp)) (hgood hv)
        have hs2 := hs1.put (dst := o1.dst) (by rw [put_size]; exact hdops o1 (by rw [hops]; simp)) (hgood hv)
        have hnid : ∀ (q : Oper) (V : V) (s : St), (putDst q V s).nid = s.nid := by intro q V s; unfold putDst putSt; cases q.dst <;> rfl
        refine aexec_sound ih hP b (by rw [put_size, put_size]; exact hdbb) hex hs2 rfl ?_
        intro e K' μ' a' w' ho ha hn hs' hsz
        have hnid2 : ∀ (dst : Option Nat) (V : V) (s : St), (putSt dst V s).nid = s.nid := by intro dst V s; cases dst <;> rfl
        simp only [hnid, hnid2] at ha
        obtain ⟨he, hd, u, hu, hE⟩ := done hx ho ha hs'
        obtain ⟨u', hcs, hu'⟩ := hcs
        have hm : u' = (if recsF P f then modeR pan pu else modeP pan pu) := by
         rw [hrec, show recs (.seq (.region id ops false) b) = true from by simp only [recs, hops]; exact hrc]; exact hu'
        rcases he with rfl | rfl
        ·exact ⟨hd, u', hcs, u, hu, hE, hm, u, rfl⟩
        ·exact ⟨hd, u', hcs, u, hu, hE, hm, u, rfl⟩
       cases pan with
       | none =>
        have e : ({ c₀ with mode := .returning } : Frame) = c₀ := by cases c₀; simp only [modeP] at hc0; simp only [hc0]
        have : recoverD (c₀ :: cs) = none := by simp only [recoverD, hc0, modeP]
        rw [this]
        simp only [wanted hg1, if_true, hrun1, Oper.upon_value]
        exact fin .nilIface (c₀ :: cs) (by simp [recV, RepV, RepC, Rep]) ⟨.returning, by rw [e], rfl⟩
       | some d' =>
        have : recoverD (c₀ :: cs) = some (pu, { c₀ with mode := .panicking [⟨pu, true, false⟩] } :: cs) := by simp only [recoverD, hc0, modeP]
        rw [this]
        simp only [wanted hg1, if_true, hrun1, Oper.upon_value]
        exact fin pu _ (show Rep K w d' pu from hpu d' rfl) ⟨.panicking [⟨pu, true, false⟩], rfl, rfl⟩
      ·simp at hex
     ·simp at hex
   ·simp at h
  ·simp at h
 ·simp at h
theorem doCallD_sound (hP : ProgOK P) (H : Nat → Nat → List Nat) {call : Call} (ih : CallsOK P call) (k : Nat) (pan : Option D) {f : Nat} {args : List C} {r : ORes} {ids : List Nat} (h : doCall (acallD P H call k pan) f args s = some (r, ids)) (hs : Sim K μ s a w)
  {vs : List Value} (hargs : RepCs K μ w args vs) {pu : Value} (hpu : ∀ d, pan = some d → Rep K w d pu) :
  Callee P f ∧ CallsD P f vs.toArray (modeP pan pu) w fun e m w' => m = (if recsF P f then modeR pan pu else modeP pan pu) ∧ ∃ K' μ', After K μ w s.nid K' μ' w' ∧ ResOf K' μ' s a w' s.nid r e ∧ ∃ u, e = .returned u := by
 obtain ⟨args', lh, r', h1, h2, h3, h4, h5, h6, h7⟩ := doCall_frame h hs hargs
 obtain ⟨q1, q2⟩ := acallD_sound hP H ih k pan h1
 refine ⟨q1, (q2 _ _ _ _ _ h2 h3 h4 h5 h6 (fun d hd => ?_)).mono ?_⟩
 ·exact Rep.recolor (fun b o h => by rw [h]; rfl) _ _ (hpu d hd)
 ·rintro e m w' ⟨hE, hm, hu⟩
  obtain ⟨K', μ', hA, hR⟩ := h7 e w' hE
  exact ⟨hm, K', μ', hA, hR, hu⟩
theorem runDefers_sound (hP : ProgOK P) (H : Nat → Nat → List Nat) {call : Call} (ih : CallsOK P call) (k : Nat) {fn : Func} {tmps : Array Value} {R : Ending → World → Prop} :
  ∀ (ds : List (Nat × List Nat)) (pan : Option D) (pu : Value) (s : St) (K : Col) (μ : Nat → Nat) (w : World) {pan' : Option D} {s' : St}, runDefers P H call k ds pan s = some (pan', s') → s.defers = [] →
   Sim K μ s { tmps := tmps, defers := [] } w → (∀ x ∈ ds, ∀ b ∈ x.2, b < s.nid) → (∀ d, pan = some d → Rep K w d pu) →
   (∀ K' μ' w' pu', After K μ w s.nid K' μ' w' → s.nid ≤ s'.nid → Sim K' μ' s' { tmps := tmps, defers := [] } w' → (∀ d, pan' = some d → Rep K' w' d pu') → Leaves P fn tmps R [] (modeP pan' pu') w') →
   Leaves P fn tmps R (ds.map (defOf μ)) (modeP pan pu) w
 | [], pan, pu, s, K, μ, w, pan', s', h, _, hs, _, hpu, hend => by
  simp only [runDefers, Option.some.injEq, Prod.mk.injEq] at h
  obtain ⟨rfl, rfl⟩ := h
  exact hend K μ w pu (After.refl _ _ _ _) (Nat.le_refl _) hs hpu
 | (g, caps) :: ds, pan, pu, s, K, μ, w, pan', s', h, hd0, hs, hin, hpu, hend => by
  simp only [runDefers] at h
  split at h
  ·rename_i v s1 ids hc
   have hargs : RepCs K μ w (caps.map fun b => C.ptr b 0) (caps.map fun b => Value.pointer (some (ad (μ b) 0))) := by
    refine RepCs.of_get (by simp) fun i c v hc hv => ?_
    simp only [List.getElem?_map, Option.map_eq_some_iff] at hc hv
    obtain ⟨b, hb, rfl⟩ := hc
    obtain ⟨b', hb', rfl⟩ := hv
    rw [hb, Option.some.injEq] at hb'; subst hb'
    rfl
   obtain ⟨⟨fg, hfg, hbg⟩, hcall⟩ := doCallD_sound hP H ih k pan hc hs hargs hpu
   have hmode : modeP pan pu ≠ .run := by cases pan <;> simp [modeP]
   simp only [List.map_cons]
   refine leaves_cons (fv := .func g) (f := g) hmode ?_ (hcall.mono ?_)
   ·have hbn : fg.body.isNone = false := by cases hb : fg.body <;> simp [hb] at hbg ⊢
    have hnm : (fg.name == "runtime.NumGoroutine") = false := by
     have := hP.func g fg hfg
     simp only [funcOK, Bool.and_eq_true, Bool.not_eq_true'] at this
     exact this.1
    simp [invoke, callFunc, hfg, hnm, hbn, -beq_iff_eq, -beq_eq_false_iff_ne, -Option.isNone_iff_eq_none]
   ·rintro e m w' ⟨hm, K', μ', hA, hR, u, rfl⟩
    obtain ⟨hs', hn, hpl, hvi, hdf, _⟩ := hR
    have hset : Go.settle m = modeP (if recsF P g then none else pan) pu := by
     subst hm
     cases hr : recsF P g <;> cases pan <;> simp [modeP, modeR, Go.settle]
    show Leaves P fn tmps R (ds.map (defOf μ)) (Go.settle m) w'
    rw [hset]
    have hmap : ds.map (defOf μ) = ds.map (defOf μ') := by
     refine List.map_congr_left fun x hx => ?_
     unfold defOf
     congr 3
     refine List.map_congr_left fun b hb => ?_
     rw [hA.mu b (hin x (List.mem_cons_of_mem _ hx) b hb)]
    rw [hmap]
    refine runDefers_sound hP H ih k ds _ pu s1 K' μ' w' h (by rw [hdf, hd0]) hs' (fun x hx b hb => Nat.lt_of_lt_of_le (hin x (List.mem_cons_of_mem _ hx) b hb) hn) ?_ ?_
    ·intro d hd
     split at hd
     ·simp at hd
     ·exact Rep.step hA.step (by simp [mine]) _ _ (hpu d hd)
    ·intro K2 μ2 w2 pu2 hA2 hn2 hs2 hp2
     exact hend K2 μ2 w2 pu2 (hA.trans hA2 hn) (by omega) hs2 hp2
  ·simp at h
theorem finish_sound (hP : ProgOK P) (H : Nat → Nat → List Nat) {call : Call} (ih : CallsOK P call) (k : Nat) {fn : Func} {n : Nat} {x : AX} {s' : St} {r : CRes} {e : Exit} {a' : Act} (h : finish P H call k fn n x s' = some r)
  (ho : Out K' w' x e) (ha : After K μ w n K' μ' w') (hn : n ≤ s'.nid) (hs' : Sim K' μ' s' a' w') : bodyPostD P fn (fun e w' => EndOK K μ w n r e w') e a' w' := by
 have hs0 : Sim K' μ' { s' with defers := [] } { tmps := a'.tmps, defers := [] } w' := hs'.defs_nil
 have ret0 : ∀ {s2 : St} {K2 : Col} {μ2 : Nat → Nat} {w2 : World}, endRet P fn n s2 = some r → After K μ w n K2 μ2 w2 → Sim K2 μ2 s2 { tmps := a'.tmps, defers := [] } w2 → Leaves P fn a'.tmps (fun e w' => EndOK K μ w n r e w') [] .returning w2 := by
  intro s2 K2 μ2 w2 he ha2 hs2
  obtain ⟨u, hu, hE, _⟩ := endRet_sound ha2 hs2 he
  exact ⟨u, hu, hE⟩
 have pan0 : ∀ {d : D} {u : Value} {s2 : St} {K2 : Col} {μ2 : Nat → Nat} {w2 : World}, endPan d n s2 = some r → After K μ w n K2 μ2 w2 → Sim K2 μ2 s2 { tmps := a'.tmps, defers := [] } w2 → Rep K2 w2 d u → Leaves P fn a'.tmps (fun e w' => EndOK K μ w n r e w') [] (.panicking [⟨u, false, false⟩]) w2 :=
  fun he ha2 hs2 hu => endPan_sound ha2 hs2 hu he
 have normal : ∀ {o : Option CRes}, (if s'.defers.isEmpty then endRet P fn n s' else
   match runDefers P H call k s'.defers none { s' with defers := [] } with
   | some (none, s') => endRet P fn n s'
   | _ => none) = o → o = some r → Leaves P fn a'.tmps (fun e w' => EndOK K μ w n r e w') a'.defers .returning w' := by
  intro o h1 h2
  subst h2
  rw [hs'.defs]
  split at h1
  ·rename_i hd
   rw [List.isEmpty_iff.1 hd]
   refine ret0 (s2 := s') h1 ha ?_
   have := hs'.defs_nil
   rw [← List.isEmpty_iff.1 hd] at this
   exact this
  ·split at h1
   ·rename_i s2 hrun
    refine runDefers_sound hP H ih k s'.defers none Go.undef _ K' μ' w' hrun rfl hs0 hs'.dids (by simp) ?_
    intro K2 μ2 w2 pu2 hA hn2 hs2 _
    exact ret0 h1 (ha.trans hA hn) hs2
   ·simp at h1
 cases x with
 | normal => simp only [Out] at ho; subst ho; exact normal rfl h
 | ret => simp only [Out] at ho; subst ho; exact normal rfl h
 | exit id => simp [finish] at h
 | pan d =>
  obtain ⟨u, rfl, hu⟩ := ho
  show Leaves P fn a'.tmps _ a'.defers (.panicking [⟨u, false, false⟩]) w'
  rw [hs'.defs]
  simp only [finish] at h
  split at h
  ·rename_i hd
   rw [List.isEmpty_iff.1 hd]
   refine pan0 (s2 := s') h ha ?_ hu
   have := hs'.defs_nil
   rw [← List.isEmpty_iff.1 hd] at this
   exact this
  ·split at h
   ·rename_i s2 hrun
    refine runDefers_sound hP H ih k s'.defers (some d) u _ K' μ' w' hrun rfl hs0 hs'.dids (by intro d' e; simp only [Option.some.injEq] at e; subst e; exact hu) ?_
    intro K2 μ2 w2 pu2 hA hn2 hs2 _
    exact ret0 h (ha.trans hA hn) hs2
   ·rename_i d' s2 hrun
    refine runDefers_sound hP H ih k s'.defers (some d) u _ K' μ' w' hrun rfl hs0 hs'.dids (by intro d' e; simp only [Option.some.injEq] at e; subst e; exact hu) ?_
    intro K2 μ2 w2 pu2 hA hn2 hs2 hp2
    exact pan0 h (ha.trans hA hn) hs2 (hp2 d' rfl)
   ·simp at h
theorem acall1_sound (hP : ProgOK P) {E : Nat → Option Call} (hE : ∀ f g, E f = some g → ∀ args lh r, g f args lh = some r → Callee P f ∧ CallOK P f args lh r) (H : Nat → Nat → List Nat) {call : Call} (ih : CallsOK P call) (k : Nat) : CallsOK P (acall1 P E H call k) := by
 intro f args lh r h
 simp only [acall1] at h
 split at h
 ·rename_i g hg
  exact hE f g hg args lh r h
 ·split at h
  ·rename_i fn hfn
   split at h
   ·rename_i code hcode
    split at h
    ·rename_i hlen
     refine ⟨⟨fn, hfn, by rw [hcode]; rfl⟩, ?_⟩
     intro K μ w vs hr hi hh hb hgl
     have hfo := hP.func f fn hfn
     simp only [funcOK, hcode, Bool.and_eq_true] at hfo
     have hsim := sim_enter (n := fn.ntmps - vs.toArray.size) hr hi hh hb hgl
     have hdb := dstsBelow_mono (m := (vs.toArray ++ Array.replicate (fn.ntmps - vs.toArray.size) Go.undef).size) (by simp; omega) code hfo.2
     split at h
     ·rename_i x s' hex
      refine calls_of_wp_defers (R := fun e w' => EndOK K μ w lh.length r e w') hfn hcode (aexec_sound ih hP code hdb hex hsim rfl ?_)
      intro e K' μ' a' w' ho ha hn hs' hsz
      exact finish_sound hP H ih k h ho ha hn hs'
     ·simp at h
    ·simp at h
   ·simp at h
  ·simp at h
theorem CallOK.of_still {f : Nat} {args : List C} {lh : List (List C)} {r : CRes} (h : CallOK P f (args.map C.still) lh r) : CallOK P f args lh r := by
 intro K μ w vs hr hi hh hb hg
 refine h K μ w vs hr.still ?_ hh hb hg
 intro c hc b hbb
 simp only [List.mem_map] at hc
 obtain ⟨c', hc', rfl⟩ := hc
 rw [C.still_ids] at hbb
 exact hi c' hc' b hbb
theorem acall_sound (hP : ProgOK P) {E : Nat → Option Call} (hE : ∀ f g, E f = some g → ∀ args lh r, g f args lh = some r → Callee P f ∧ CallOK P f args lh r) (H : Nat → Nat → List Nat) :
  ∀ k, CallsOK P (acall P E H k)
 | 0 => fun f args lh r h => by simp [acall] at h
 | k + 1 => fun f args lh r h => by
  have ih := acall1_sound hP hE H (acall_sound hP hE H k) k
  simp only [acall] at h
  have := ih _ _ _ _ h
  split at this
  ·exact ⟨this.1, this.2.of_still⟩
  ·exact this
end
end Go.AM

namespace Go.AM
open Go Go.RowKit
variable [Globs]
def colRo (w : World) : Col := fun b _ => if b < w.heap.size then .ro else .other
theorem below_of_step {w w' : World} {K' : Col} (h : Step mine (colRo w) w K' w') : Below w.heap.size w w' :=
 ⟨h.os, h.tape, h.output, h.size, fun b hb => h.block b hb fun off hm => by
  simp only [colRo, hb, if_true] at hm
  exact hm.1 rfl⟩
def GlobW (w : World) : Prop := ∀ x ∈ Globs.tab, ∀ i v, x.2[i]? = some v → w.cell? (ad x.1 i) = some v
theorem GlobW.glob {w : World} (h : GlobW w) : Glob (colRo w) w := by
 intro x hx i v hv
 have := h x hx i v hv
 rw [Nat.zero_add]
 exact ⟨by simp [colRo, block_lt this], this⟩
section
variable {P : Program} {f : Nat} {args : List C} {w : World} {vs : List Value}
theorem calls_ret {v : V} (h : CallOK P f args [] (.ret v [])) (hargs : RepCs (colRo w) (fun _ => 0) w args vs) (hids : ∀ c ∈ args, c.ids = []) (hg : GlobW w) :
  Calls P f vs.toArray w fun e w' => Below w.heap.size w w' ∧ ∃ u K' μ', e = .returned u ∧ RepV K' μ' w' v u := by
 refine (h (colRo w) (fun _ => 0) w vs hargs (fun c hc b hb => by rw [hids c hc] at hb; simp at hb) (fun i cells hi => by simp at hi)
  (fun b off hb => by simp only [colRo]; rw [if_neg (by omega)]) hg.glob).mono ?_
 rintro e w' ⟨K', μ', hst, _, _, _, _, _, _, u, rfl, hu⟩
 exact ⟨below_of_step hst, u, K', μ', rfl, hu⟩
theorem calls_true (h : CallOK P f args [] (.ret (.d (.bool true)) [])) (hargs : RepCs (colRo w) (fun _ => 0) w args vs) (hids : ∀ c ∈ args, c.ids = []) (hg : GlobW w) :
  Calls P f vs.toArray w fun e w' => e = .returned (.bool true) ∧ Below w.heap.size w w' := by
 refine (calls_ret h hargs hids hg).mono ?_
 rintro e w' ⟨hb, u, K', μ', rfl, hu⟩
 simp only [RepV, RepC, Rep] at hu
 subst hu
 exact ⟨rfl, hb⟩
end
end Go.AM

namespace Go.AM
open Go
def Evt (p : Nat → Prop) : Prop := ∃ k₀, ∀ k, k₀ ≤ k → p k
theorem Evt.of {p : Nat → Prop} (h : ∀ k, p k) : Evt p := ⟨0, fun k _ => h k⟩
theorem Evt.and {p q : Nat → Prop} (h : Evt p) (h' : Evt q) : Evt fun k => p k ∧ q k := by
 obtain ⟨a, ha⟩ := h; obtain ⟨b, hb⟩ := h'
 exact ⟨max a b, fun k hk => ⟨ha k (by omega), hb k (by omega)⟩⟩
theorem Evt.imp {p q : Nat → Prop} (h : Evt p) (hq : ∀ k, p k → q k) : Evt q := by
 obtain ⟨a, ha⟩ := h; exact ⟨a, fun k hk => hq k (ha k hk)⟩
theorem Evt.succ {p : Nat → Prop} (h : Evt fun k => p (k + 1)) : Evt p := by
 obtain ⟨a, ha⟩ := h
 refine ⟨a + 1, fun k hk => ?_⟩
 obtain ⟨j, rfl⟩ : ∃ j, k = j + 1 := ⟨k - 1, by omega⟩
 exact ha j (by omega)
structure Ctx where
 P : Program
 E : Nat → Option Call
 H : Nat → Nat → List Nat
abbrev Ctx.call (X : Ctx) (k : Nat) : Call := acall X.P X.E X.H k
def aval (X : Ctx) (f : Nat) (args : List C) (lh : List (List C)) (r : CRes) : Prop := Evt fun k => X.call k f args lh = some r
structure awp (X : Ctx) (f : Nat) (c : Code) (Q : AX → St → Prop) (s : St) : Prop where
 ex : ∃ x s', (Evt fun k => aexec X.P (X.H f) (X.call k) k c s = some (x, s')) ∧ Q x s'
structure awpO (X : Ctx) (ops : Array Oper) (l : List Oper) (Q : AX → St → Prop) (s : St) : Prop where
 ex : ∃ x s', (Evt fun k => ∀ fs, ∃ fs', evOps X.P (X.call k) ops l s fs = some (x, s', fs')) ∧ Q x s'
structure awpD (X : Ctx) (ops : Array Oper) (vs : List Nat) (base : Nat) (pre : List Fp) (l : List Oper) (i : Nat) (Q : AX → St → Prop) (s : St) : Prop where
 ex : ∃ x s' fs, (Evt fun k => drawOps X.P (X.call k) ops vs base l i s = some (x, s', fs)) ∧ (drawOk x.isPan ops base (pre ++ fs) && decide (base ≤ s'.nid)) = true ∧ Q x s'
structure awpL (X : Ctx) (f : Nat) (c : Code) (clean : St → Option St) (Q : AX → St → Prop) (s : St) : Prop where
 ex : ∃ x s', (∃ m₀, Evt fun k => ∀ m, m₀ ≤ m → iter (aexec X.P (X.H f) (X.call k) k c) clean m s = some (x, s')) ∧ Q x s'
inductive seqQ (X : Ctx) (f : Nat) (b : Code) (Q : AX → St → Prop) : AX → St → Prop where
 | normal {s : St} : awp X f b Q s → seqQ X f b Q .normal s
 | exit {id : Nat} {s : St} : Q (.exit id) s → seqQ X f b Q (.exit id) s
 | ret {s : St} : Q .ret s → seqQ X f b Q .ret s
 | pan {d : D} {s : St} : Q (.pan d) s → seqQ X f b Q (.pan d) s
def settleS (h : List Nat) (n : Nat) (s : St) : Option St := match h with
 | [] => some s
 | _ :: ks => cleanAt ks n s
theorem settle_normal {h : List Nat} {n : Nat} {s s' : St} (hs : settleS h n s = some s') : settle h n (some (.normal, s)) = some (.normal, s') := by
 cases h with
 | nil => simp only [settleS, Option.some.injEq] at hs; subst hs; rfl
 | cons k ks => simp only [settleS] at hs; simp only [settle, hs]
inductive exitQ (id : Nat) (hk : List Nat) (n : Nat) (Q : AX → St → Prop) : AX → St → Prop where
 | here {s s' : St} : settleS hk n s = some s' → Q .normal s' → exitQ id hk n Q (.exit id) s
 | there {id' : Nat} {s : St} : (id' == id) = false → Q (.exit id') s → exitQ id hk n Q (.exit id') s
 | normal {s s' : St} : settleS hk n s = some s' → Q .normal s' → exitQ id hk n Q .normal s
 | ret {s : St} : Q .ret s → exitQ id hk n Q .ret s
 | pan {d : D} {s : St} : Q (.pan d) s → exitQ id hk n Q (.pan d) s
inductive condQ (hk : List Nat) (n : Nat) (Q : AX → St → Prop) : AX → St → Prop where
 | normal {s s' : St} : settleS hk n s = some s' → Q .normal s' → condQ hk n Q .normal s
 | exit {id : Nat} {s : St} : Q (.exit id) s → condQ hk n Q (.exit id) s
 | ret {s : St} : Q .ret s → condQ hk n Q .ret s
 | pan {d : D} {s : St} : Q (.pan d) s → condQ hk n Q (.pan d) s
theorem condQ.settled {hk : List Nat} {n : Nat} {Q : AX → St → Prop} {x : AX} {s : St} (h : condQ hk n Q x s) : ∃ s', settle hk n (some (x, s)) = some (x, s') ∧ Q x s' := by
 cases h with
 | normal h1 h2 => exact ⟨_, settle_normal h1, h2⟩
 | exit h => exact ⟨_, rfl, h⟩
 | ret h => exact ⟨_, rfl, h⟩
 | pan h => exact ⟨_, rfl, h⟩
theorem exitQ.settled {id : Nat} {hk : List Nat} {n : Nat} {Q : AX → St → Prop} {x : AX} {s : St} (h : exitQ id hk n Q x s) : ∃ x' s', settle hk n (leaves id (some (x, s))) = some (x', s') ∧ Q x' s' := by
 cases h with
 | here h1 h2 => exact ⟨_, _, by simp only [leaves, if_true]; exact settle_normal h1, h2⟩
 | there hn h =>
  refine ⟨_, _, ?_, h⟩
  simp only [leaves]
  rw [if_neg (by simpa using hn)]; rfl
 | normal h1 h2 => exact ⟨_, _, settle_normal h1, h2⟩
 | ret h => exact ⟨_, _, rfl, h⟩
 | pan h => exact ⟨_, _, rfl, h⟩
section
variable {X : Ctx} {f : Nat} {Q : AX → St → Prop} {s : St}
theorem awp_skip (h : Q .normal s) : awp X f .skip Q s := ⟨_, _, .of fun _ => rfl, h⟩
theorem awp_ret (h : Q .ret s) : awp X f .ret Q s := ⟨_, _, .of fun _ => rfl, h⟩
theorem awp_exit {id : Nat} (h : Q (.exit id) s) : awp X f (.exit id) Q s := ⟨_, _, .of fun _ => rfl, h⟩
theorem awp_seq {a b : Code} (h : awp X f a (seqQ X f b Q) s) : awp X f (.seq a b) Q s := by
 obtain ⟨x, s', h1, h2⟩ := h
 cases x with
 | normal =>
  cases h2 with | normal h2 =>
  obtain ⟨x2, s2, h3, h4⟩ := h2
  exact ⟨x2, s2, (h1.and h3).imp fun k ⟨p, q⟩ => by simp only [aexec, p, q], h4⟩
 | exit id => cases h2 with | exit h2 => exact ⟨_, s', h1.imp fun k p => by simp only [aexec, p], h2⟩
 | ret => cases h2 with | ret h2 => exact ⟨_, s', h1.imp fun k p => by simp only [aexec, p], h2⟩
 | pan d => cases h2 with | pan h2 => exact ⟨_, s', h1.imp fun k p => by simp only [aexec, p], h2⟩
theorem awp_cond {o : Operand} {a b : Code} {c : Bool} (hc : ev s.tmps o = some (.c (.d (.bool c)))) (h : c = true → awp X f a (condQ (X.H f (condKey a b)) s.nid Q) s) (h' : c = false → awp X f b (condQ (X.H f (condKey a b)) s.nid Q) s) : awp X f (.cond o a b) Q s := by
 cases c with
 | true =>
  obtain ⟨x, s', h1, h2⟩ := h rfl
  obtain ⟨s2, h3, h4⟩ := h2.settled
  exact ⟨x, s2, h1.imp fun k p => by simp only [aexec, hc, p, h3], h4⟩
 | false =>
  obtain ⟨x, s', h1, h2⟩ := h' rfl
  obtain ⟨s2, h3, h4⟩ := h2.settled
  exact ⟨x, s2, h1.imp fun k p => by simp only [aexec, hc, p, h3], h4⟩
theorem awp_block {id : Nat} {c : Code} (h : awp X f c (exitQ id (X.H f (1000000 + id)) s.nid Q) s) : awp X f (.block id c) Q s := by
 obtain ⟨x, s', h1, h2⟩ := h
 obtain ⟨x2, s2, h3, h4⟩ := h2.settled
 exact ⟨x2, s2, h1.imp fun k p => by simp only [aexec, p, h3], h4⟩
theorem awp_regionF {id : Nat} {ops : Array Oper} {s0 : St} (hz : frz (X.H f id) s = some s0) (h : awpO X ops ops.toList Q { s0 with tmps := keepT (X.H f id) s0.tmps }) : awp X f (.region id ops false) Q s := by
 obtain ⟨x, s', h1, h2⟩ := h
 refine ⟨x, s', h1.imp fun k p => ?_, h2⟩
 obtain ⟨fs', hp⟩ := p []
 simp only [aexec, hz, Bool.false_eq_true, if_false, hp]
theorem awp_drawF {id : Nat} {ops : Array Oper} {s0 : St} (hns : (X.H f id).contains 4999999 = false) (hz : frz (X.H f id) s = some s0) (h : awpD X ops (appended? ops) s0.nid [] ops.toList 0 Q { s0 with tmps := keepT (X.H f id) s0.tmps, nid := s0.nid + ops.size }) : awp X f (.region id ops true) Q s := by
 obtain ⟨x, s', fs, h1, h2, h3⟩ := h
 refine ⟨x, s', h1.imp fun k p => ?_, h3⟩
 simp only [aexec, hz, if_true, hns, drawRegion, p]
 simp only [List.nil_append] at h2
 rw [if_pos h2]
def noF (ks : List Nat) : Bool := ks.all fun k => !Nat.ble 7000000 k
theorem frz_noF : ∀ {ks : List Nat} {s : St}, noF ks = true → frz ks s = some s
 | [], _, _ => rfl
 | k :: r, s, h => by
  simp only [noF, List.all_cons, Bool.and_eq_true, Bool.not_eq_true'] at h
  simp only [frz, h.1]
  exact frz_noF h.2
theorem awp_region {id : Nat} {ops : Array Oper} (hz : noF (X.H f id) = true) (h : awpO X ops ops.toList Q { s with tmps := keepT (X.H f id) s.tmps }) : awp X f (.region id ops false) Q s := awp_regionF (frz_noF hz) h
theorem awp_draw {id : Nat} {ops : Array Oper} (hz : (noF (X.H f id) && !(X.H f id).contains 4999999) = true) (h : awpD X ops (appended? ops) s.nid [] ops.toList 0 Q { s with tmps := keepT (X.H f id) s.tmps, nid := s.nid + ops.size }) : awp X f (.region id ops true) Q s := awp_drawF (by simp only [Bool.and_eq_true, Bool.not_eq_true'] at hz; exact hz.2) (frz_noF (by simp only [Bool.and_eq_true] at hz; exact hz.1)) h
theorem awp_mono {c : Code} {Q' : AX → St → Prop} (h : awp X f c Q s) (hq : ∀ x s', Q x s' → Q' x s') : awp X f c Q' s := by
 obtain ⟨x, s', h1, h2⟩ := h
 exact ⟨x, s', h1, hq x s' h2⟩
theorem awpO_nil {ops : Array Oper} (h : Q .normal s) : awpO X ops [] Q s := ⟨_, _, .of fun _ fs => ⟨fs, rfl⟩, h⟩
theorem awpO_skip {ops : Array Oper} {o : Oper} {l : List Oper} (hw : wantedAt ops s.tmps o = some false) (h : awpO X ops l Q (putDst o (.c .undef) s)) : awpO X ops (o :: l) Q s := by
 obtain ⟨x, s', h1, h2⟩ := h
 refine ⟨x, s', h1.imp fun k p fs => ?_, h2⟩
 obtain ⟨fs', hp⟩ := p (Foot.none :: fs)
 exact ⟨fs', by simp only [evOps, hw, hp]⟩
theorem awpO_op {ops : Array Oper} {o : Oper} {l : List Oper} {v : V} {s1 : St} {ft : Foot} (hw : wantedAt ops s.tmps o = some true) (hop : Evt fun k => evOp X.P (X.call k) s.nid o s = some (.val v s1, ft))
  (h : awpO X ops l Q (putDst o v s1)) : awpO X ops (o :: l) Q s := by
 obtain ⟨x, s', h1, h2⟩ := h
 refine ⟨x, s', (hop.and h1).imp fun k ⟨q, p⟩ fs => ?_, h2⟩
 obtain ⟨fs', hp⟩ := p (ft :: fs)
 exact ⟨fs', by simp only [evOps, hw, q, hp]⟩
theorem awpO_rfl {ops : Array Oper} {o : Oper} {l : List Oper} {v : V} {s1 : St} {ft : Foot} (hw : wantedAt ops s.tmps o = some true) (hop : ∀ call, evOp X.P call s.nid o s = some (.val v s1, ft))
  (h : awpO X ops l Q (putDst o v s1)) : awpO X ops (o :: l) Q s := awpO_op hw (.of fun _ => hop _) h
theorem awpO_pan {ops : Array Oper} {o : Oper} {l : List Oper} {d : D} {s1 : St} {ft : Foot} (hw : wantedAt ops s.tmps o = some true) (hop : Evt fun k => evOp X.P (X.call k) s.nid o s = some (.pan d s1, ft))
  (h : Q (.pan d) s1) : awpO X ops (o :: l) Q s :=
 ⟨_, _, hop.imp fun k q fs => ⟨ft :: fs, by simp only [evOps, hw, q]⟩, h⟩
theorem awpD_nil {ops : Array Oper} {vs : List Nat} {base i : Nat} {pre : List Fp} (hok : (drawOk false ops base pre && decide (base ≤ s.nid)) = true) (h : Q .normal s) : awpD X ops vs base pre [] i Q s :=
 ⟨_, _, [], .of fun _ => rfl, by rw [List.append_nil]; exact hok, h⟩
theorem awpD_skip {ops : Array Oper} {vs : List Nat} {base i : Nat} {pre : List Fp} {o : Oper} {l : List Oper} {s1 : St} (hw : wantedAt ops s.tmps o = some false) (hp : putD o.dst (.c .undef) s = some s1)
  (h : awpD X ops vs base (pre ++ [Fp.fill ⟨(readsOf ops o).map .tmp, dstLc o.dst (.c .undef), [], false⟩ s1]) l (i + 1) Q s1) : awpD X ops vs base pre (o :: l) i Q s := by
 obtain ⟨x, s', fs, h1, h2, h3⟩ := h
 refine ⟨x, s', Fp.fill ⟨(readsOf ops o).map .tmp, dstLc o.dst (.c .undef), [], false⟩ s1 :: fs, h1.imp fun k p => by simp only [drawOps, hw, hp, p], ?_, h3⟩
 rw [List.append_assoc] at h2; exact h2
theorem awpD_op {ops : Array Oper} {vs : List Nat} {base i : Nat} {pre : List Fp} {o : Oper} {l : List Oper} {v : V} {s1 s2 : St} {ft : Fp} (hw : wantedAt ops s.tmps o = some true)
  (hop : Evt fun k => drawOp X.P (X.call k) ops vs (base + i) o s = some (.val v s1, ft)) (hp : putD o.dst v s1 = some s2)
  (h : awpD X ops vs base (pre ++ [ft.fill s2]) l (i + 1) Q s2) : awpD X ops vs base pre (o :: l) i Q s := by
 obtain ⟨x, s', fs, h1, h2, h3⟩ := h
 refine ⟨x, s', ft.fill s2 :: fs, (hop.and h1).imp fun k ⟨q, p⟩ => by simp only [drawOps, hw, q, hp, p], ?_, h3⟩
 rw [List.append_assoc] at h2; exact h2
theorem awpD_rfl {ops : Array Oper} {vs : List Nat} {base i : Nat} {pre : List Fp} {o : Oper} {l : List Oper} {v : V} {s1 s2 : St} {ft : Fp} (hw : wantedAt ops s.tmps o = some true)
  (hop : ∀ call, drawOp X.P call ops vs (base + i) o s = some (.val v s1, ft)) (hp : putD o.dst v s1 = some s2)
  (h : awpD X ops vs base (pre ++ [ft.fill s2]) l (i + 1) Q s2) : awpD X ops vs base pre (o :: l) i Q s := awpD_op hw (.of fun _ => hop _) hp h
theorem awp_loop {c : Code} (h : awpL X f c (cleanAt (X.H f (firstRegion c)) s.nid) Q s) : awp X f (.loop c) Q s := by
 obtain ⟨x, s', ⟨m₀, a, h1⟩, h2⟩ := h
 exact ⟨x, s', ⟨max m₀ a, fun k hk => by simp only [aexec]; exact h1 k (by omega) k (by omega)⟩, h2⟩
theorem awpL_round {c : Code} {clean : St → Option St} {s1 : St} (hc : clean s = some s1) (h : awp X f c (fun x s' => match x with | .normal => awpL X f c clean Q s' | x => Q x s') s1) : awpL X f c clean Q s := by
 obtain ⟨x, s', h1, h2⟩ := h
 cases x with
 | normal =>
  obtain ⟨x2, s2, ⟨m₀, h3⟩, h4⟩ := h2
  refine ⟨x2, s2, ⟨m₀ + 1, (h1.and h3).imp fun k ⟨p, q⟩ m hm => ?_⟩, h4⟩
  obtain ⟨j, rfl⟩ : ∃ j, m = j + 1 := ⟨m - 1, by omega⟩
  simp only [iter, hc, p]
  exact q j (by omega)
 | _ =>
  refine ⟨_, s', ⟨1, h1.imp fun k p m hm => ?_⟩, h2⟩
  obtain ⟨j, rfl⟩ : ∃ j, m = j + 1 := ⟨m - 1, by omega⟩
  simp only [iter, hc, p]
structure atEnd (X : Ctx) (fn : Func) (n : Nat) (r : CRes) (x : AX) (s : St) : Prop where
 ex : Evt fun k => finish X.P X.H (X.call k) k fn n x s = some r
structure rdef (X : Ctx) (ds : List (Nat × List Nat)) (pan : Option D) (s : St) (pan' : Option D) (s' : St) : Prop where
 ex : Evt fun k => runDefers X.P X.H (X.call k) k ds pan s = some (pan', s')
theorem atEnd.ret {fn : Func} {n : Nat} {r : CRes} (hd : s.defers = []) (h : endRet X.P fn n s = some r) : atEnd X fn n r .ret s :=
 ⟨.of fun k => by simp only [finish, hd, List.isEmpty_nil, if_true, h]⟩
theorem atEnd.normal {fn : Func} {n : Nat} {r : CRes} (hd : s.defers = []) (h : endRet X.P fn n s = some r) : atEnd X fn n r .normal s :=
 ⟨.of fun k => by simp only [finish, hd, List.isEmpty_nil, if_true, h]⟩
theorem atEnd.pan {fn : Func} {n : Nat} {r : CRes} {d : D} (hd : s.defers = []) (h : endPan d n s = some r) : atEnd X fn n r (.pan d) s :=
 ⟨.of fun k => by simp only [finish, hd, List.isEmpty_nil, if_true, h]⟩
def avalD (X : Ctx) (pan : Option D) (f : Nat) (args : List C) (lh : List (List C)) (r : CRes) : Prop := Evt fun k => acallD X.P X.H (X.call k) k pan f args lh = some r
theorem rdef.nil {pan : Option D} : rdef X [] pan s pan s := ⟨.of fun _ => rfl⟩
theorem rdef.cons {g : Nat} {caps ids : List Nat} {l : List (Nat × List Nat)} {pan pan' : Option D} {s' : St} {args' : List C} {lh lh' lh'' : List (List C)} {v v' : V} (hr : reach s.heap 64 ((caps.map fun b => C.ptr b 0).flatMap C.ids) [] = some ids) (hi : mapM? (C.into ids) (caps.map fun b => .ptr b 0) = some args')
  (hb : blksInto s.heap ids = some lh) (hv : avalD X pan g args' lh (.ret v lh')) (hk : mapM? (mapM? (C.back (ids ++ idsFrom s.nid (lh'.length - ids.length)))) lh' = some lh'') (hv' : V.back (ids ++ idsFrom s.nid (lh'.length - ids.length)) v = some v')
  (h : rdef X l (if recsF X.P g then none else pan) { s with tmps := unviewIn (ids ++ idsFrom s.nid (lh'.length - ids.length)) s.tmps, heap := putBlks (ids ++ idsFrom s.nid (lh'.length - ids.length)) lh'' s.heap, nid := s.nid + (lh'.length - ids.length) } pan' s') :
  rdef X ((g, caps) :: l) pan s pan' s' :=
 ⟨(hv.and h.ex).imp fun k ⟨p, q⟩ => by simp only [runDefers, doCall, hr, hi, hb, p, hk, hv']; exact q⟩
theorem aval_of {fn : Func} {code : Code} {args args' : List C} {lh : List (List C)} {r : CRes} (hE : X.E f = none) (hf : X.P.funcs[f]? = some fn) (hb : fn.body = some code) (hst : (if (X.H f 999999).isEmpty then args.map C.still else args) = args') (hl : args'.length = fn.params.size + fn.nfree)
  (h : awp X f code (atEnd X fn lh.length r) (enterSt args' lh)) : aval X f args lh r := by
 obtain ⟨x, s', h1, h2⟩ := h
 refine Evt.succ ((h1.and h2.ex).imp fun k ⟨p, q⟩ => ?_)
 simp only [Ctx.call, acall, hst, acall1, hE, hf, hb, hl, if_true]
 simp only [Ctx.call] at p q
 simp only [p]
 exact q
structure atEndD (X : Ctx) (fn : Func) (n : Nat) (r : CRes) (x : AX) (s : St) : Prop where
 ex : (x = .normal ∨ x = .ret) ∧ s.defers = [] ∧ endRet X.P fn n s = some r
theorem C.still_still : ∀ l : List C, (l.map C.still).map C.still = l.map C.still
 | [] => rfl
 | c :: l => by
  have ih := C.still_still l
  simp only [List.map_cons, ih]
  cases c <;> rfl
theorem aval_still {args : List C} {lh : List (List C)} {r : CRes} (h : aval X f (args.map C.still) lh r) (hH : (X.H f 999999).isEmpty = true) : aval X f args lh r := by
 obtain ⟨k₀, h⟩ := h
 refine ⟨k₀ + 1, fun k hk => ?_⟩
 obtain ⟨j, rfl⟩ : ∃ j, k = j + 1 := ⟨k - 1, by omega⟩
 have := h (j + 1) (by omega)
 simp only [Ctx.call, acall, hH, if_true] at this ⊢
 rw [C.still_still] at this
 exact this
theorem aval_ext {g : Call} {args args' : List C} {lh : List (List C)} {r : CRes} (hE : X.E f = some g) (hst : (if (X.H f 999999).isEmpty then args.map C.still else args) = args') (h : g f args' lh = some r) : aval X f args lh r :=
 Evt.succ (.of fun k => by simp only [Ctx.call, acall, hst, acall1, hE, h])
theorem evt_call {o : Oper} {c : Go.Call} {fo : Operand} {g : Nat} {caps ids : List Nat} {args args' : List C} {lh lh' lh'' : List (List C)} {v v' : V} (ho : o.op = .call c) (hc : c.callee = .value fo) (hf : ev s.tmps fo = some (.c (.fn g caps)))
  (ha : argsT X.P s.tmps c.args.toList c.argTypes.toList = some args) (hr : reach s.heap 64 ((args ++ caps.map fun b => C.ptr b 0).flatMap C.ids) [] = some ids) (hi : mapM? (C.into ids) (args ++ caps.map fun b => .ptr b 0) = some args')
  (hb : blksInto s.heap ids = some lh) (hv : aval X g args' lh (.ret v lh')) (hk : mapM? (mapM? (C.back (ids ++ idsFrom s.nid (lh'.length - ids.length)))) lh' = some lh'') (hv' : V.back (ids ++ idsFrom s.nid (lh'.length - ids.length)) v = some v') :
  Evt fun k => evOp X.P (X.call k) s.nid o s = some (.val v' { s with tmps := unviewIn (ids ++ idsFrom s.nid (lh'.length - ids.length)) s.tmps, heap := putBlks (ids ++ idsFrom s.nid (lh'.length - ids.length)) lh'' s.heap, nid := s.nid + (lh'.length - ids.length) }, ⟨ids, ids, []⟩) :=
 hv.imp fun k p => by simp only [evOp, ho, hc, hf, ha, doCall, hr, hi, hb, p, hk, hv']
end
end Go.AM

namespace Go.AM
open Go
section
variable {P : Program} {call : Call} {id : Nat} {o : Oper} {s : St}
theorem ev_indexAddr {t e : TypeId} {x i : Operand} {sz : Nat} {xs : List D} {k : IntKind} {n : Int} {d : D} (ho : o.op = .indexAddr t x i) (ht : telem P t = some e) (hz : some sz = tsz P e) (hx : (ev s.tmps x).bind V.toD = some (.list sz xs))
  (hi : ev s.tmps i = some (.c (.d (.int k n)))) (h0 : 0 ≤ n) (hb : xs[n.toNat]? = some d) : evOp P call id o s = some (.val (.rptr d.cells) s, ⟨readsBlk o s.tmps, [], []⟩) := by
 obtain ⟨v, hv, hd⟩ := Option.bind_eq_some_iff.1 hx
 cases v with
 | c y =>
  cases y with
  | arr b n k => simp [V.toD, C.toD] at hd
  | _ => simp only [evOp, ho, evR, ht, hv, hi, hd, h0, hz, and_self, if_true, hb]
 | _ => simp only [evOp, ho, evR, ht, hv, hi, hd, h0, hz, and_self, if_true, hb]
theorem ev_slice_str {t : TypeId} {x : Operand} {lo hi : Option Operand} {l : List UInt8} {a b : Nat} (ho : o.op = .slice t x lo hi none) (ht : P.underlying t = some .string) (hx : evT P t s.tmps x = some (.c (.d (.str l))))
  (hl : optNat s.tmps lo 0 = some a) (hh : optNat s.tmps hi l.length = some b) (h1 : a ≤ b) (h2 : b ≤ l.length) :
  evOp P call id o s = some (.val (.d (.str ((l.take b).drop a))) s, ⟨readsBlk o s.tmps, [], []⟩) := by
 simp only [evOp, ho, evR, hx, lenV, ht, V.toD, C.toD, hl, hh, sliceV, h1, h2, and_self, if_true, Option.map_some]
theorem optNat_some {tm : List (Nat × V)} {x : Operand} {k : IntKind} {n : Int} {d : Nat} (hx : ev tm x = some (.c (.d (.int k n)))) (h : 0 ≤ n) : optNat tm (some x) d = some n.toNat := by
 simp only [optNat, hx, h, if_true]
theorem ev_slice_list {t e : TypeId} {x : Operand} {lo hi : Option Operand} {v : V} {sz : Nat} {xs : List D} {a b : Nat} (ho : o.op = .slice t x lo hi none) (ht : P.underlying t = some (.slice e)) (hz : tsz P e = some sz) (hx : evT P t s.tmps x = some v) (hv : v.toD = some (.list sz xs))
  (hl : optNat s.tmps lo 0 = some a) (hh : optNat s.tmps hi xs.length = some b) (h1 : a ≤ b) (h2 : b ≤ xs.length) :
  evOp P call id o s = some (.val (.d (.list sz ((xs.take b).drop a))) s, ⟨readsBlk o s.tmps, [], []⟩) := by
 simp [evOp, ho, evR, hx, lenV_data hv, ht, hv, hl, hh, sliceV, h1, h2, hz]
theorem ev_bytes {src dst e : TypeId} {x : Operand} {a : List UInt8} (ho : o.op = .convert src dst x) (hs : P.underlying src = some .string) (hd : P.underlying dst = some (.slice e)) (he : P.underlying e = some (.int .u8)) (hz : tsz P e = some 1)
  (hx : evT P src s.tmps x = some (.c (.d (.str a)))) (h : a.length ≤ room) : evOp P call id o s = some (.val (.c (.own 1 (a.map byteD))) s, ⟨readsBlk o s.tmps, [], []⟩) := by
 simp only [evOp, ho, evR, hx, convV, hs, hd, he, h, hz, and_self, if_true]
theorem ev_append_nil {c : Go.Call} {t u e : TypeId} {x y : Operand} {n z : Nat} {yv : V} {ys : List D} (ho : o.op = .call c) (hc : c.callee = .builtin .append) (ha : c.args.toList = [x, y]) (hat : c.argTypes.toList = [t, u]) (ht : telem P t = some e) (hn : tsz P e = some n) (hu : isSource P u = true)
  (hb : P.bytesOf e ≤ 1024 ∧ zeroFits P e n = true) (hx : evT P t s.tmps x = some (.c (.nilsl z))) (hy : evT P u s.tmps y = some yv) (hys : appended yv = some (n, ys)) (hl : ys.length ≤ 4294967296) :
  evOp P call id o s = some (.val (.c (.own n ys)) s, appendFoot x s.tmps) := by
 simp only [evOp, ho, hc, ha, hat, doAppend, ht, hn, hu, hx, hy, hys, Option.bind_some, hb, and_self, if_true, hl]
end
section
variable {X : Ctx} {Q : AX → St → Prop} {s : St}
theorem awpD_ev {ops : Array Oper} {vs : List Nat} {base i : Nat} {pre : List Fp} {o : Oper} {l : List Oper} {v : V} {s1 s2 : St} {ft : Foot} (hw : wantedAt ops s.tmps o = some true) (hm : makesBlk o = false)
  (hop : Evt fun k => evOp X.P (X.call k) s.nid o s = some (.val v s1, ft)) (hp : putD o.dst (calmAt vs o.dst v) (afterApp o s1) = some s2)
  (h : awpD X ops vs base (pre ++ [(fpOf ops o s (calmAt vs o.dst v) s1 ft).fill s2]) l (i + 1) Q s2) : awpD X ops vs base pre (o :: l) i Q s :=
 awpD_op hw (hop.imp fun k p => by simp only [drawOp, hm, Bool.false_eq_true, if_false, drawOld, p]) hp h
end
end Go.AM

namespace Go.AM
open Go
section
variable {X : Ctx} {f : Nat} {Q : AX → St → Prop} {tm tm' : List (Nat × V)} {hp : List (Nat × List C)} {nid : Nat} {df : List (Nat × List Nat)} {pn : Option D}
def keepK {α : Type} : List Nat → List (Nat × V) → (List (Nat × V) → α) → α
 | [], _, k => k []
 | t :: r, tm, k => match look t tm with
  | some (.view _ sz xs) => keepK r tm fun l => k ((t, .d (.list sz xs)) :: l)
  | some v => keepK r tm fun l => k ((t, v) :: l)
  | none => keepK r tm k
theorem keepK_eq {α : Type} : ∀ (ks : List Nat) (tm : List (Nat × V)) (k : List (Nat × V) → α), keepK ks tm k = k (keepT ks tm)
 | [], _, _ => rfl
 | t :: r, tm, k => by
  simp only [keepK, keepT]
  cases h : look t tm with
  | none => simp only [keepK_eq]
  | some v => cases v <;> simp only [keepK_eq]
theorem look_unviewIn_nil : ∀ tm : List (Nat × V), unviewIn [] tm = tm
 | [] => rfl
 | (t, v) :: r => by
  cases v with
  | view l sz xs => cases l <;> simp [unviewIn, look_unviewIn_nil r]
  | _ => simp [unviewIn, look_unviewIn_nil r]
theorem aval_start {fn : Func} {code : Code} {args args' : List C} {lh : List (List C)} {r : CRes} {n : Nat} (hE : X.E f = none) (hf : X.P.funcs[f]? = some fn) (hb : fn.body = some code) (hst : (if (X.H f 999999).isEmpty then args.map C.still else args) = args') (hl : args'.length = fn.params.size + fn.nfree)
  (ht : zipIdx' 0 (args'.map fun c => V.c c.plain) = tm) (hh : zipIdx' 0 lh = hp) (hn : lh.length = n) (h : awp X f code (atEnd X fn n r) ⟨tm, hp, n, [], none⟩) : aval X f args lh r :=
 aval_of hE hf hb hst hl (by unfold enterSt; rw [ht, hh, hn]; exact h)
end
end Go.AM
namespace Go.AM
open Go
section
variable {X : Ctx} {f : Nat} {Q : AX → St → Prop} {s : St}
inductive loopQ (R : St → Prop) (Q : AX → St → Prop) : AX → St → Prop where
 | normal {s : St} : R s → loopQ R Q .normal s
 | exit {id : Nat} {s : St} : Q (.exit id) s → loopQ R Q (.exit id) s
 | ret {s : St} : Q .ret s → loopQ R Q .ret s
 | pan {d : D} {s : St} : Q (.pan d) s → loopQ R Q (.pan d) s
end
end Go.AM
namespace Go.AM
open Go
section
variable {X : Ctx} {f : Nat} {Q : AX → St → Prop} {tm tm' : List (Nat × V)} {hp hp' : List (Nat × List C)} {nid nid' : Nat} {df df' : List (Nat × List Nat)} {pn pn' : Option D}
end
end Go.AM

namespace Go.AM
open Go
def setBK {α : Type} (d : Nat) (b : Bool) : List (Nat × V) → (List (Nat × V) → α) → α
 | [], k => k []
 | (j, v) :: r, k => if j = d then k ((j, .d (.bool b)) :: r) else setBK d b r fun l => k ((j, v) :: l)
theorem setBK_eq {α : Type} {d : Nat} {b : Bool} : ∀ {tm : List (Nat × V)} {k : List (Nat × V) → α}, look d tm = some (.c (.d (.bool b))) → setBK d b tm k = k tm
 | [], _, h => by simp [look] at h
 | (j, v) :: r, k, h => by
  simp only [look] at h
  simp only [setBK]
  by_cases hj : j = d
  ·rw [if_pos hj] at h ⊢
   simp only [Option.some.injEq] at h
   rw [h]
  ·rw [if_neg hj] at h ⊢
   rw [setBK_eq h]
section
variable {X : Ctx} {f : Nat} {Q : AX → St → Prop} {tm tm0 tm1 : List (Nat × V)} {hp : List (Nat × List C)} {nid : Nat} {df : List (Nat × List Nat)} {pn : Option D}
def unviewK {α : Type} (l : Loc) : List (Nat × V) → (List (Nat × V) → α) → α
 | [], k => k []
 | (t, v) :: r, k => match v with
  | .view l' sz xs => unviewK l r fun r => k ((t, if l' = l then .d (.list sz xs) else .view l' sz xs) :: r)
  | v => unviewK l r fun r => k ((t, v) :: r)
theorem unviewK_eq {α : Type} {l : Loc} : ∀ {tm : List (Nat × V)} {k : List (Nat × V) → α}, unviewK l tm k = k (unview l tm)
 | [], _ => rfl
 | (t, v) :: r, k => by cases v <;> simp only [unviewK, unview, unviewK_eq]
end
section
variable {X : Ctx} {f : Nat} {Q : AX → St → Prop} {tm tm' tm1 tm2 : List (Nat × V)} {hp hp' : List (Nat × List C)} {nid : Nat} {df : List (Nat × List Nat)} {pn : Option D}
end
section
variable {X : Ctx} {f : Nat} {Q : AX → St → Prop} {tm : List (Nat × V)} {hp : List (Nat × List C)} {nid : Nat} {df : List (Nat × List Nat)} {pn : Option D}
end
end Go.AM

namespace Go.AM
open Go
abbrev Str := List UInt8
def lget {α : Type} (l : List α) (i : Int) : Option α := if 0 ≤ i then l[i.toNat]? else none
def sfrom (s : Str) (lo : Int) : Option Str := if 0 ≤ lo ∧ lo.toNat ≤ s.length then some (s.drop lo.toNat) else none
def sto (s : Str) (hi : Int) : Option Str := if 0 ≤ hi ∧ hi.toNat ≤ s.length then some (s.take hi.toNat) else none
def smid (s : Str) (lo hi : Int) : Option Str := if 0 ≤ lo ∧ lo ≤ hi ∧ hi.toNat ≤ s.length then some ((s.take hi.toNat).drop lo.toNat) else none
def lmid {α : Type} (s : List α) (lo hi : Int) : Option (List α) := if 0 ≤ lo ∧ lo ≤ hi ∧ hi.toNat ≤ s.length then some ((s.take hi.toNat).drop lo.toNat) else none
def lapp {α : Type} (l m : List α) : Option (List α) := if l.length + m.length ≤ 4294967296 then some (l ++ m) else none
def u8I (b : UInt8) : Int := b.toNat
def sbytes (s : Str) : Option (List Int) := if s.length ≤ 1099511627776 then some (s.map u8I) else none
def w64 (x : Int) : Int := IntKind.i64.wrap x
theorem ite_inv {α : Type} {c : Bool} {a b : Option α} {r : α} (h : (if c = true then a else b) = some r) : (c = true ∧ a = some r) ∨ (c = false ∧ b = some r) := by
 cases c with
 | true => exact .inl ⟨rfl, h⟩
 | false => exact .inr ⟨rfl, h⟩
theorem bind_inv {α β : Type} {x : Option α} {k : α → Option β} {r : β} (h : (x >>= k) = some r) : ∃ y, x = some y ∧ k y = some r := by
 cases x with
 | none => cases h
 | some y => exact ⟨y, rfl, h⟩
def noCall : Call := fun _ _ _ => none
theorem doCall_noCall (f : Nat) (args : List C) (s : St) : doCall noCall f args s = none := by
 unfold doCall
 split
 ·rfl
 ·split <;> rfl
theorem evOp_noCall {P : Program} {id : Nat} {o : Oper} {s : St} {r : ORes × Foot} (h : evOp P noCall id o s = some r) (call : Call) : evOp P call id o s = some r := by
 unfold evOp at h ⊢
 cases ho : o.op with
 | call c =>
  simp only [ho] at h ⊢
  cases hc : c.callee with
  | value f =>
   simp only [hc] at h
   split at h
   ·rw [doCall_noCall] at h; simp at h
   ·simp at h
  | builtin b => cases b <;> (simp only [hc] at h ⊢; exact h)
  | invoke a b => simp [hc] at h
 | makeMap t r => cases r <;> (simp only [ho] at h ⊢; exact h)
 | _ => simp only [ho] at h ⊢; exact h
def copyL {α β : Type} : List α → (List α → β) → β
 | [], k => k []
 | x :: r, k => copyL r fun r => k (x :: r)
theorem copyL_eq {α β : Type} : ∀ {l : List α} {k : List α → β}, copyL l k = k l
 | [], _ => rfl
 | x :: r, k => by simp only [copyL, copyL_eq]
def putK {α : Type} (dst : Option Nat) (v : V) (tm : List (Nat × V)) (k : List (Nat × V) → Option α) : Option α := match dst with
 | none => copyL tm k
 | some d => match v with
  | .c (.own sz xs) => unviewK (.tmp d) tm fun r => k ((d, .c (.own sz xs)) :: r)
  | v => copyL tm fun tm => k ((d, v) :: tm)
theorem putK_eq {α : Type} {dst : Option Nat} {v : V} {s : St} {k : List (Nat × V) → Option α} : putK dst v s.tmps k = k (putSt dst v s).tmps := by
 cases dst with
 | none => simp only [putK, putSt, copyL_eq]
 | some d =>
  cases v with
  | c x => cases x <;> simp only [putK, putSt, setTmp, unviewK_eq, copyL_eq]
  | _ => simp only [putK, putSt, setTmp, copyL_eq]
theorem putSt_rest (dst : Option Nat) (v : V) (s : St) : putSt dst v s = ⟨(putSt dst v s).tmps, s.heap, s.nid, s.defers, s.pan⟩ := by
 cases dst <;> rfl
def copyHp {β : Type} : List (Nat × List C) → (List (Nat × List C) → β) → β
 | [], k => k []
 | (b, cs) :: r, k => copyL cs fun cs => copyHp r fun r => k ((b, cs) :: r)
theorem copyHp_eq {β : Type} : ∀ {l : List (Nat × List C)} {k : List (Nat × List C) → β}, copyHp l k = k l
 | [], _ => rfl
 | (b, cs) :: r, k => by simp only [copyHp, copyL_eq, copyHp_eq]
def isDefer (o : Oper) : Bool := match o.op with
 | .defer _ | .makeMap _ _ | .insert _ _ _ _ | .mapUpdate _ _ _ _ => true
 | _ => false
theorem evOp_rest {P : Program} {call : Call} {id : Nat} {o : Oper} {tm : List (Nat × V)} {hp : List (Nat × List C)} {nid : Nat} {df : List (Nat × List Nat)} {pn : Option D} {v : V} {s' : St} {ft : Foot} (hc : call = noCall) (hid : makesBlk o = true → id = nid)
  (h : evOp P call id o ⟨tm, hp, nid, df, pn⟩ = some (.val v s', ft)) (hd : isDefer o = false) :
  s' = ⟨s'.tmps, s'.heap, (match makesBlk o with | true => nid + 1 | false => nid), df, pn⟩ := by
 subst hc
 unfold evOp at h
 cases ho : o.op with
 | assign x =>
  simp only [ho] at h
  simp only [makesBlk, ho]
  split at h
  ·split at h
   ·simp only [Option.some.injEq, Prod.mk.injEq, ORes.val.injEq] at h
    obtain ⟨⟨_, rfl⟩, _⟩ := h; rfl
   ·simp at h
  ·simp only [Option.some.injEq, Prod.mk.injEq, ORes.val.injEq] at h
   obtain ⟨⟨_, rfl⟩, _⟩ := h; rfl
  ·simp only [Option.some.injEq, Prod.mk.injEq, ORes.val.injEq] at h
   obtain ⟨⟨_, rfl⟩, _⟩ := h; rfl
  ·simp only [Option.some.injEq, Prod.mk.injEq, ORes.val.injEq] at h
   obtain ⟨⟨_, rfl⟩, _⟩ := h; rfl
  ·simp only [Option.some.injEq, Prod.mk.injEq, ORes.val.injEq] at h
   obtain ⟨⟨_, rfl⟩, _⟩ := h; rfl
  ·simp at h
 | store t x y =>
  simp only [ho] at h
  simp only [makesBlk, ho]
  repeat' (first | (split at h) | (simp at h; done))
  all_goals first
   | (simp at h; done)
   | (simp only [Option.some.injEq, Prod.mk.injEq, ORes.val.injEq] at h; obtain ⟨⟨_, rfl⟩, _⟩ := h; rfl)
 | defer c => simp [isDefer, ho] at hd
 | makeMap t r => simp [isDefer, ho] at hd
 | insert t m k x => simp [isDefer, ho] at hd
 | mapUpdate t m k x => simp [isDefer, ho] at hd
 | panic x =>
  simp only [ho] at h
  split at h <;> simp at h
 | call c =>
  simp only [ho] at h
  simp only [makesBlk, ho]
  split at h
  ·split at h
   ·split at h
    ·rename_i hap
     simp only [Option.some.injEq, Prod.mk.injEq, ORes.val.injEq] at h
     obtain ⟨⟨_, rfl⟩, _⟩ := h
     unfold doAppend at hap
     repeat' (first | (split at hap) | (simp at hap; done))
     all_goals first
      | (simp at hap; done)
      | (simp only [Option.some.injEq, Prod.mk.injEq] at hap; obtain ⟨_, rfl⟩ := hap; rfl)
    ·simp at h
   ·simp at h
  ·split at h
   ·simp only [Option.some.injEq, Prod.mk.injEq, ORes.val.injEq] at h
    obtain ⟨⟨_, rfl⟩, _⟩ := h; rfl
   ·simp at h
  ·split at h
   ·rw [doCall_noCall] at h; simp at h
   ·simp at h
  ·simp at h
 | makeSlice t l c =>
  simp only [ho] at h
  split at h
  ·rename_i hev
   simp only [Option.some.injEq, Prod.mk.injEq, ORes.val.injEq] at h
   obtain ⟨⟨_, rfl⟩, _⟩ := h
   have hm : makesBlk o = false := by
    cases hs : sameTmp l c with
    | false => simp [makesBlk, ho, hs]
    | true =>
     exfalso
     simp only [evR, ho, hs, if_true] at hev
     repeat' (first | (split at hev) | (simp at hev; done))
   rw [hm]
  ·split at h
   ·rename_i hev _
    simp only [Option.some.injEq, Prod.mk.injEq, ORes.val.injEq] at h
    obtain ⟨⟨_, rfl⟩, _⟩ := h
    by_cases hm : makesBlk o = true
    ·rw [hm, hid hm]
    ·haveI : Globs := ⟨[]⟩
     exact absurd hev (evR_none (by simpa using hm))
   ·simp at h
  ·simp at h
 | buildSlice t n ps =>
  simp only [ho] at h
  split at h
  ·rename_i hev
   simp only [Option.some.injEq, Prod.mk.injEq, ORes.val.injEq] at h
   obtain ⟨⟨_, rfl⟩, _⟩ := h
   have hm : makesBlk o = false := by
    cases hs : fnPs ps.toList with
    | none => simp [makesBlk, ho, hs]
    | some gs =>
     exfalso
     simp only [evR, ho, hs, fnsV] at hev
     repeat' (first | (split at hev) | (simp at hev; done))
   rw [hm]
  ·split at h
   ·rename_i hev _
    simp only [Option.some.injEq, Prod.mk.injEq, ORes.val.injEq] at h
    obtain ⟨⟨_, rfl⟩, _⟩ := h
    by_cases hm : makesBlk o = true
    ·rw [hm, hid hm]
    ·haveI : Globs := ⟨[]⟩
     exact absurd hev (evR_none (by simpa using hm))
   ·simp at h
  ·simp at h
 | _ =>
  simp only [ho] at h
  split at h
  ·rename_i hev
   simp only [Option.some.injEq, Prod.mk.injEq, ORes.val.injEq] at h
   obtain ⟨⟨_, rfl⟩, _⟩ := h
   first
    | (simp only [makesBlk, ho]; done)
    | (exfalso; simp only [evR, ho] at hev; repeat' (first | (split at hev) | (simp at hev; done)))
    | rfl
  ·split at h
   ·rename_i hev _
    simp only [Option.some.injEq, Prod.mk.injEq, ORes.val.injEq] at h
    obtain ⟨⟨_, rfl⟩, _⟩ := h
    by_cases hm : makesBlk o = true
    ·rw [hm, hid hm]
    ·haveI : Globs := ⟨[]⟩
     exact absurd hev (evR_none (by simpa using hm))
   ·simp at h
  ·simp at h
def opsK {α : Type} (P : Program) (ops : Array Oper) : Nat → List Oper → List (Nat × V) → List (Nat × List C) → Nat → List (Nat × List Nat) → Option D → (List Oper → List (Nat × V) → List (Nat × List C) → Nat → List (Nat × List Nat) → Option D → Option α) → Option α
 | 0, l, tm, hp, nid, df, pn, k => k l tm hp nid df pn
 | _ + 1, [], _, _, _, _, _, _ => none
 | n + 1, o :: l, tm, hp, nid, df, pn, k => match wantedAt ops tm o with
  | none => none
  | some false => putK o.dst (.c .undef) tm fun tm => opsK P ops n l tm hp nid df pn k
  | some true => match isDefer o with
   | true => none
   | false => match evOp P noCall nid o ⟨tm, hp, nid, df, pn⟩ with
    | some (.val v s', _) => putK o.dst v s'.tmps fun tm => copyHp s'.heap fun hp => match makesBlk o with
     | true => opsK P ops n l tm hp (nid + 1) df pn k
     | false => opsK P ops n l tm hp nid df pn k
    | _ => none
section
variable {X : Ctx} {f : Nat} {Q : AX → St → Prop} {tm tm' : List (Nat × V)} {hp hp' : List (Nat × List C)} {nid nid' : Nat} {df : List (Nat × List Nat)} {pn : Option D}
theorem opsK_sound {α : Type} {ops : Array Oper} : ∀ {n : Nat} {l : List Oper} {tm : List (Nat × V)} {hp : List (Nat × List C)} {nid : Nat} {df : List (Nat × List Nat)} {pn : Option D} {k : List Oper → List (Nat × V) → List (Nat × List C) → Nat → List (Nat × List Nat) → Option D → Option α} {a : α},
  opsK X.P ops n l tm hp nid df pn k = some a → ∃ l' tm' hp' nid' df' pn', k l' tm' hp' nid' df' pn' = some a ∧ (awpO X ops l' Q ⟨tm', hp', nid', df', pn'⟩ → awpO X ops l Q ⟨tm, hp, nid, df, pn⟩)
 | 0, l, tm, hp, nid, df, pn, k, a, h => by
  simp only [opsK] at h
  exact ⟨l, tm, hp, nid, df, pn, h, fun h => h⟩
 | n + 1, [], tm, hp, nid, df, pn, k, a, h => by simp [opsK] at h
 | n + 1, o :: l, tm, hp, nid, df, pn, k, a, h => by
  simp only [opsK] at h
  split at h
  ·simp at h
  ·rename_i hw
   rw [show tm = (⟨tm, hp, nid, df, pn⟩ : St).tmps from rfl, putK_eq] at h
   obtain ⟨l', tm', hp', nid', df', pn', h1, h2⟩ := opsK_sound h
   refine ⟨l', tm', hp', nid', df', pn', h1, fun hh => awpO_skip hw ?_⟩
   have := h2 hh
   rw [putDst, putSt_rest]
   exact this
  ·rename_i hw
   split at h
   ·simp at h
   ·rename_i hd
    split at h
    ·rename_i v s' ft hev
     have hr := evOp_rest rfl (fun _ => rfl) hev hd
     rw [putK_eq, copyHp_eq] at h
     cases hm : makesBlk o with
     | true =>
      simp only [hm] at h hr
      obtain ⟨l', tm', hp', nid', df', pn', h1, h2⟩ := opsK_sound h
      refine ⟨l', tm', hp', nid', df', pn', h1, fun hh => awpO_rfl hw (fun call => evOp_noCall hev call) ?_⟩
      have := h2 hh
      rw [putDst, putSt_rest]
      rw [hr] at this ⊢
      exact this
     | false =>
      simp only [hm] at h hr
      obtain ⟨l', tm', hp', nid', df', pn', h1, h2⟩ := opsK_sound h
      refine ⟨l', tm', hp', nid', df', pn', h1, fun hh => awpO_rfl hw (fun call => evOp_noCall hev call) ?_⟩
      have := h2 hh
      rw [putDst, putSt_rest]
      rw [hr] at this ⊢
      exact this
    ·simp at h
def finK (l : List Oper) (tm : List (Nat × V)) (hp : List (Nat × List C)) (nid : Nat) (df : List (Nat × List Nat)) (pn : Option D) : Option (List Oper × List (Nat × V) × List (Nat × List C) × Nat × List (Nat × List Nat) × Option D) := some (l, tm, hp, nid, df, pn)
variable {df' : List (Nat × List Nat)} {pn' : Option D}
theorem on (n : Nat) {ops : Array Oper} {l l' : List Oper} (h : opsK X.P ops n l tm hp nid df pn finK = some (l', tm', hp', nid', df', pn')) (hh : awpO X ops l' Q ⟨tm', hp', nid', df', pn'⟩) : awpO X ops l Q ⟨tm, hp, nid, df, pn⟩ := by
 obtain ⟨_, _, _, _, _, _, h1, h2⟩ := opsK_sound (Q := Q) h
 simp only [finK, Option.some.injEq, Prod.mk.injEq] at h1
 obtain ⟨rfl, rfl, rfl, rfl, rfl, rfl⟩ := h1
 exact h2 hh
theorem rn (n : Nat) {id : Nat} {ops : Array Oper} {l' : List Oper} (h : keepK (X.H f id) tm (fun tm => opsK X.P ops n ops.toList tm hp nid df pn finK) = some (l', tm', hp', nid', df', pn')) (hh : awpO X ops l' Q ⟨tm', hp', nid', df', pn'⟩) (hz : noF (X.H f id) = true := by rfl) :
  awp X f (.region id ops false) Q ⟨tm, hp, nid, df, pn⟩ := by
 rw [keepK_eq] at h
 exact awp_region hz (on n h hh)
theorem ra {id : Nat} {ops : Array Oper} {b : Code} (h : keepK (X.H f id) tm (fun tm => opsK X.P ops ops.size ops.toList tm hp nid df pn finK) = some ([], tm', hp', nid', df', pn')) (hh : awp X f b Q ⟨tm', hp', nid', df', pn'⟩) (hz : noF (X.H f id) = true := by rfl) :
  awp X f (.seq (.region id ops false) b) Q ⟨tm, hp, nid, df, pn⟩ :=
 awp_seq (rn _ h (awpO_nil (.normal hh)) hz)
theorem rz {ops : Array Oper} {b : Code} (hh : awp X f b Q ⟨tm, hp, nid, df, pn⟩) : awpO X ops [] (seqQ X f b Q) ⟨tm, hp, nid, df, pn⟩ := awpO_nil (.normal hh)
theorem ct {o : Operand} {a b : Code} {c : Bool} (hc : ev tm o = some (.c (.d (.bool c)))) (e : c = true) (h : awp X f a (condQ (X.H f (condKey a b)) nid Q) ⟨tm, hp, nid, df, pn⟩) : awp X f (.cond o a b) Q ⟨tm, hp, nid, df, pn⟩ :=
 awp_cond hc (fun _ => h) (fun e' => by rw [e] at e'; cases e')
theorem cf {o : Operand} {a b : Code} {c : Bool} (hc : ev tm o = some (.c (.d (.bool c)))) (e : c = false) (h : awp X f b (condQ (X.H f (condKey a b)) nid Q) ⟨tm, hp, nid, df, pn⟩) : awp X f (.cond o a b) Q ⟨tm, hp, nid, df, pn⟩ :=
 awp_cond hc (fun e' => by rw [e] at e'; cases e') (fun _ => h)
theorem gt {ops : Array Oper} {o q : Oper} {l : List Oper} {j d : Nat} {want b : Bool} (hg : o.guard = some (j, want)) (hq : ops[j]? = some q) (hd : q.dst = some d) (hl : look d tm = some (.c (.d (.bool b)))) (e : b = true)
  (e1 : setBK d true tm some = some tm') (h : awpO X ops (o :: l) Q ⟨tm', hp, nid, df, pn⟩) : awpO X ops (o :: l) Q ⟨tm, hp, nid, df, pn⟩ := by
 have _ := hg; have _ := hq; have _ := hd
 subst e
 rw [setBK_eq hl, Option.some.injEq] at e1
 rw [e1]; exact h
theorem gf {ops : Array Oper} {o q : Oper} {l : List Oper} {j d : Nat} {want b : Bool} (hg : o.guard = some (j, want)) (hq : ops[j]? = some q) (hd : q.dst = some d) (hl : look d tm = some (.c (.d (.bool b)))) (e : b = false)
  (e1 : setBK d false tm some = some tm') (h : awpO X ops (o :: l) Q ⟨tm', hp, nid, df, pn⟩) : awpO X ops (o :: l) Q ⟨tm, hp, nid, df, pn⟩ := by
 have _ := hg; have _ := hq; have _ := hd
 subst e
 rw [setBK_eq hl, Option.some.injEq] at e1
 rw [e1]; exact h
theorem lget_some {α : Type} {l : List α} {i : Int} {x : α} (h : lget l i = some x) : 0 ≤ i ∧ l[i.toNat]? = some x := by
 unfold lget at h
 split at h
 ·exact ⟨by assumption, h⟩
 ·cases h
def EvO (X : Ctx) (o : Oper) (s : St) (v : V) (s1 : St) (ft : Foot) : Prop := Evt fun k => evOp X.P (X.call k) s.nid o s = some (.val v s1, ft)
theorem po {ops : Array Oper} {o : Oper} {l : List Oper} {v : V} {tm1 : List (Nat × V)} {hp1 : List (Nat × List C)} {ft : Foot} {nid1 : Nat} (hop : EvO X o ⟨tm, hp, nid, df, pn⟩ v ⟨tm1, hp1, nid1, df, pn⟩ ft) (hw : wantedAt ops tm o = some true)
  (hk : putK o.dst v tm1 (fun tm => copyHp hp1 fun hp => some (tm, hp)) = some (tm', hp')) (h : awpO X ops l Q ⟨tm', hp', nid1, df, pn⟩) : awpO X ops (o :: l) Q ⟨tm, hp, nid, df, pn⟩ := by
 refine awpO_op (s := ⟨tm, hp, nid, df, pn⟩) hw hop ?_
 rw [show tm1 = (⟨tm1, hp1, nid1, df, pn⟩ : St).tmps from rfl, putK_eq, copyHp_eq] at hk
 simp only [Option.some.injEq, Prod.mk.injEq] at hk
 obtain ⟨rfl, rfl⟩ := hk
 rw [putDst, putSt_rest]
 exact h
def copyLc {β : Type} : List Lc → (List Lc → β) → β
 | [], k => k []
 | x :: r, k => match x with
  | .tmp a => copyLc r fun r => k (.tmp a :: r)
  | .blk a => copyLc r fun r => k (.blk a :: r)
  | .nid => copyLc r fun r => k (.nid :: r)
  | .defs => copyLc r fun r => k (.defs :: r)
  | .vb a => copyLc r fun r => k (.vb a :: r)
  | .vt a => copyLc r fun r => k (.vt a :: r)
theorem copyLc_eq {β : Type} : ∀ {l : List Lc} {k : List Lc → β}, copyLc l k = k l
 | [], _ => rfl
 | x :: r, k => by cases x <;> simp only [copyLc, copyLc_eq]
def fpK {β : Type} (f : Fp) (k : Fp → β) : β := match f with
 | ⟨rd, wr, refs, all⟩ => copyLc rd fun rd => copyLc wr fun wr => copyL refs fun refs => match all with
  | true => k ⟨rd, wr, refs, true⟩
  | false => k ⟨rd, wr, refs, false⟩
theorem fpK_eq {β : Type} {f : Fp} {k : Fp → β} : fpK f k = k f := by
 obtain ⟨rd, wr, refs, all⟩ := f
 simp only [fpK, copyLc_eq, copyL_eq]
 cases all <;> rfl
theorem putD_rest {dst : Option Nat} {v : V} {tm1 : List (Nat × V)} {hp1 : List (Nat × List C)} {s2 : St} (h : putD dst v ⟨tm1, hp1, nid, df, pn⟩ = some s2) : s2 = ⟨s2.tmps, s2.heap, nid, df, pn⟩ := by
 cases dst with
 | none => simp only [putD, Option.some.injEq] at h; subst h; rfl
 | some d =>
  simp only [putD] at h
  split at h
  ·simp only [Option.some.injEq] at h; subst h; rfl
  ·simp at h
theorem pd {ops : Array Oper} {vs : List Nat} {base i i' : Nat} {pre pre' : List Fp} {o : Oper} {l : List Oper} {v : V} {tm1 : List (Nat × V)} {hp1 : List (Nat × List C)} {ft : Foot} {nid1 : Nat} (hop : EvO X o ⟨tm, hp, nid, df, pn⟩ v ⟨tm1, hp1, nid1, df, pn⟩ ft) (hw : wantedAt ops tm o = some true) (hm : makesBlk o = false)
  (hk : (putD o.dst (calmAt vs o.dst v) (afterApp o ⟨tm1, hp1, nid1, df, pn⟩)).bind (fun s2 => copyL s2.tmps fun tm => copyHp s2.heap fun hp => some (tm, hp)) = some (tm', hp'))
  (hf : fpK ((fpOf ops o ⟨tm, hp, nid, df, pn⟩ (calmAt vs o.dst v) ⟨tm1, hp1, nid1, df, pn⟩ ft).fill ⟨tm', hp', nid1, df, pn⟩) (fun fp => copyL (pre ++ [fp]) some) = some pre') (hi : i + 1 = i')
  (h : awpD X ops vs base pre' l i' Q ⟨tm', hp', nid1, df, pn⟩) : awpD X ops vs base pre (o :: l) i Q ⟨tm, hp, nid, df, pn⟩ := by
 rw [fpK_eq, copyL_eq, Option.some.injEq] at hf
 subst hi hf
 rw [Option.bind_eq_some_iff] at hk
 obtain ⟨s2, h2, hk⟩ := hk
 rw [copyL_eq, copyHp_eq] at hk
 simp only [Option.some.injEq, Prod.mk.injEq] at hk
 have hs2 := putD_rest h2
 obtain ⟨rfl, rfl⟩ := hk
 rw [← hs2] at h
 exact awpD_ev (s := ⟨tm, hp, nid, df, pn⟩) hw hm hop h2 h
def dopsK {α : Type} (P : Program) (ops : Array Oper) (vs : List Nat) (base : Nat) (nid : Nat) (df : List (Nat × List Nat)) (pn : Option D) : Nat → List Oper → Nat → List Fp → List (Nat × V) → List (Nat × List C) → (List Oper → Nat → List Fp → List (Nat × V) → List (Nat × List C) → Option α) → Option α
 | 0, l, i, pre, tm, hp, k => copyL pre fun pre => k l i pre tm hp
 | _ + 1, [], _, _, _, _, _ => none
 | n + 1, o :: l, i, pre, tm, hp, k => match wantedAt ops tm o with
  | none => none
  | some false => match putD o.dst (.c .undef) ⟨tm, hp, nid, df, pn⟩ with
   | some s1 => copyL s1.tmps fun tm => copyHp s1.heap fun hp => fpK (Fp.fill ⟨(readsOf ops o).map .tmp, dstLc o.dst (.c .undef), [], false⟩ ⟨tm, hp, nid, df, pn⟩) fun fp => dopsK P ops vs base nid df pn n l (i + 1) (pre ++ [fp]) tm hp k
   | none => none
  | some true => match isDefer o with
   | true => none
   | false => match drawOp P noCall ops vs (base + i) o ⟨tm, hp, nid, df, pn⟩ with
    | some (.val v s1, ft) => match putD o.dst v s1 with
     | some s2 => copyL s2.tmps fun tm => copyHp s2.heap fun hp => fpK (ft.fill ⟨tm, hp, nid, df, pn⟩) fun fp => dopsK P ops vs base nid df pn n l (i + 1) (pre ++ [fp]) tm hp k
     | none => none
    | _ => none
theorem drawOp_rest {P : Program} {ops : Array Oper} {vs : List Nat} {id : Nat} {o : Oper} {tm : List (Nat × V)} {hp : List (Nat × List C)} {nid : Nat} {df : List (Nat × List Nat)} {pn : Option D} {v : V} {s1 : St} {ft : Fp}
  (h : drawOp P noCall ops vs id o ⟨tm, hp, nid, df, pn⟩ = some (.val v s1, ft)) (hd : isDefer o = false) : s1 = ⟨s1.tmps, s1.heap, nid, df, pn⟩ := by
 unfold drawOp at h
 split at h
 ·unfold drawNew at h
  split at h
  ·split at h
   ·split at h
    ·simp at h
    ·simp only [Option.some.injEq, Prod.mk.injEq, ORes.val.injEq] at h
     obtain ⟨⟨_, rfl⟩, _⟩ := h; rfl
   ·simp at h
  ·simp at h
 ·rename_i hm
  unfold drawOld at h
  split at h
  ·rename_i hev
   simp only [Option.some.injEq, Prod.mk.injEq, ORes.val.injEq] at h
   obtain ⟨⟨_, rfl⟩, _⟩ := h
   have := evOp_rest rfl (fun e => absurd e hm) hev hd
   simp only [Bool.not_eq_true] at hm
   simp only [hm] at this
   rw [this]; rfl
  ·simp at h
  ·simp at h
theorem drawOp_noCall {P : Program} {ops : Array Oper} {vs : List Nat} {id : Nat} {o : Oper} {s s1 : St} {v : V} {ft : Fp} (h : drawOp P noCall ops vs id o s = some (.val v s1, ft)) (call : Call) : drawOp P call ops vs id o s = some (.val v s1, ft) := by
 unfold drawOp at h ⊢
 split at h
 ·rename_i hm
  rw [if_pos hm]; exact h
 ·rename_i hm
  rw [if_neg hm]
  unfold drawOld at h ⊢
  split at h
  ·rename_i hev
   rw [evOp_noCall hev call]; exact h
  ·simp at h
  ·simp at h
theorem dopsK_sound {α : Type} {ops : Array Oper} {vs : List Nat} {base : Nat} : ∀ {n : Nat} {l : List Oper} {i : Nat} {pre : List Fp} {tm : List (Nat × V)} {hp : List (Nat × List C)} {k : List Oper → Nat → List Fp → List (Nat × V) → List (Nat × List C) → Option α} {a : α},
  dopsK X.P ops vs base nid df pn n l i pre tm hp k = some a → ∃ l' i' pre' tm' hp', k l' i' pre' tm' hp' = some a ∧ (awpD X ops vs base pre' l' i' Q ⟨tm', hp', nid, df, pn⟩ → awpD X ops vs base pre l i Q ⟨tm, hp, nid, df, pn⟩)
 | 0, l, i, pre, tm, hp, k, a, h => by
  simp only [dopsK, copyL_eq] at h
  exact ⟨l, i, pre, _, _, h, fun h => h⟩
 | n + 1, [], i, pre, tm, hp, k, a, h => by simp [dopsK] at h
 | n + 1, o :: l, i, pre, tm, hp, k, a, h => by
  simp only [dopsK, copyL_eq, copyHp_eq, fpK_eq] at h
  split at h
  ·simp at h
  ·rename_i hw
   split at h
   ·rename_i s1 hp
    have hr := putD_rest hp
    obtain ⟨l', i', pre', tm', hp', h1, h2⟩ := dopsK_sound h
    refine ⟨l', i', pre', tm', hp', h1, fun hh => awpD_skip hw hp ?_⟩
    have := h2 hh
    rw [← hr] at this
    exact this
   ·simp at h
  ·rename_i hw
   split at h
   ·simp at h
   ·rename_i hd
    split at h
    ·rename_i v s1 ft hop
     have hr1 := drawOp_rest hop hd
     split at h
     ·rename_i s2 hp
      have hr : s2 = ⟨s2.tmps, s2.heap, nid, df, pn⟩ := by
       rw [hr1] at hp
       exact putD_rest hp
      obtain ⟨l', i', pre', tm', hp', h1, h2⟩ := dopsK_sound h
      refine ⟨l', i', pre', tm', hp', h1, fun hh => awpD_rfl hw (fun call => drawOp_noCall hop call) hp ?_⟩
      have := h2 hh
      rw [← hr] at this
      exact this
     ·simp at h
    ·simp at h
def dfinK (l : List Oper) (i : Nat) (pre : List Fp) (tm : List (Nat × V)) (hp : List (Nat × List C)) : Option (List Oper × Nat × List Fp × List (Nat × V) × List (Nat × List C)) := some (l, i, pre, tm, hp)
theorem don (n : Nat) {ops : Array Oper} {vs : List Nat} {base i i' : Nat} {pre pre' : List Fp} {l l' : List Oper} (h : dopsK X.P ops vs base nid df pn n l i pre tm hp dfinK = some (l', i', pre', tm', hp'))
  (hh : awpD X ops vs base pre' l' i' Q ⟨tm', hp', nid, df, pn⟩) : awpD X ops vs base pre l i Q ⟨tm, hp, nid, df, pn⟩ := by
 obtain ⟨_, _, _, _, _, h1, h2⟩ := dopsK_sound (Q := Q) h
 simp only [dfinK, Option.some.injEq, Prod.mk.injEq] at h1
 obtain ⟨rfl, rfl, rfl, rfl, rfl⟩ := h1
 exact h2 hh
theorem drn (n : Nat) {id i' m : Nat} {ops : Array Oper} {pre' : List Fp} {l' : List Oper} (hn : nid + ops.size = m)
  (h : keepK (X.H f id) tm (fun tm => dopsK X.P ops (appended? ops) nid m df pn n ops.toList 0 [] tm hp dfinK) = some (l', i', pre', tm', hp')) (hh : awpD X ops (appended? ops) nid pre' l' i' Q ⟨tm', hp', m, df, pn⟩) (hz : (noF (X.H f id) && !(X.H f id).contains 4999999) = true := by rfl) :
  awp X f (.region id ops true) Q ⟨tm, hp, nid, df, pn⟩ := by
 rw [keepK_eq] at h
 subst hn
 exact awp_draw hz (don n h hh)
def Lc.code : Lc → Nat
 | .tmp x => 6 * x
 | .blk b => 6 * b + 1
 | .nid => 2
 | .defs => 3
 | .vb b => 6 * b + 4
 | .vt u => 6 * u + 5
def maskL : List Lc → Nat
 | [] => 0
 | x :: r => Nat.lor (Nat.shiftLeft 1 x.code) (maskL r)
theorem maskL_mem {x : Lc} : ∀ {l : List Lc}, x ∈ l → (maskL l).testBit x.code = true
 | [], h => by simp at h
 | y :: r, h => by
  show ((1 <<< y.code) ||| maskL r).testBit x.code = true
  rw [Nat.testBit_or]
  rcases List.mem_cons.1 h with rfl | h
  ·simp
  ·rw [maskL_mem h]; simp
theorem apart_of {l m : List Lc} (h : Nat.beq (Nat.land (maskL l) (maskL m)) 0 = true) : apart l m = true := by
 have h := Nat.eq_of_beq_eq_true h
 simp only [apart, List.all_eq_true, Bool.not_eq_true']
 intro x hx
 cases hc : m.contains x with
 | false => rfl
 | true =>
  rw [List.contains_iff_mem] at hc
  have h1 : (maskL l &&& maskL m).testBit x.code = true := by rw [Nat.testBit_and, maskL_mem hx, maskL_mem hc]; rfl
  rw [show maskL l &&& maskL m = 0 from h] at h1
  simp at h1
structure FpM where
 r : Nat
 w : Nat
 all : Bool
def Fp.toM (f : Fp) : FpM := ⟨maskL f.reads, maskL f.writes, f.all⟩
def FpM.apart (f g : FpM) : Bool := match f.all, g.all with
 | false, false => Nat.beq (Nat.land f.w (Nat.lor g.r g.w)) 0 && Nat.beq (Nat.land g.w f.r) 0
 | _, _ => false
theorem maskL_append : ∀ l m : List Lc, maskL (l ++ m) = Nat.lor (maskL l) (maskL m)
 | [], m => by show maskL m = 0 ||| maskL m; simp
 | x :: l, m => by
  show (1 <<< x.code) ||| maskL (l ++ m) = ((1 <<< x.code) ||| maskL l) ||| maskL m
  rw [maskL_append l m]
  exact (Nat.or_assoc ..).symm
theorem FpM.apart_ok {f g : Fp} (h : f.toM.apart g.toM = true) : f.apart g = true := by
 unfold FpM.apart Fp.toM at h
 simp only at h
 split at h
 ·rename_i hf hg
  simp only [Bool.and_eq_true] at h
  simp only [Fp.apart, hf, hg, Bool.not_false, Bool.true_and, Bool.and_eq_true]
  exact ⟨apart_of (by rw [maskL_append]; exact h.1), apart_of h.2⟩
 ·simp at h
def edgesM (acc : List Nat) : List Edge → Nat → Nat
 | [], m => m
 | e :: r, m => edgesM acc r (match Region.binds .any e with
  | true => Nat.lor (Nat.lor (Nat.shiftLeft 1 e.on) (acc.getD e.on 0)) m
  | false => m)
def beforesM : List Oper → List Nat → List Nat
 | [], acc => acc
 | o :: r, acc => beforesM r (acc ++ [edgesM acc o.after.toList 0])
def BitsIn (m : Nat) (l : List Nat) : Prop := ∀ i, m.testBit i = true → i ∈ l
theorem edgesM_in {accM : List Nat} {acc : List (List Nat)} (ha : ∀ j, BitsIn (accM.getD j 0) (acc.getD j [])) : ∀ (es : List Edge) (m : Nat) (l : List Nat), BitsIn m l →
  BitsIn (edgesM accM es m) (es.foldl (fun l e => if Region.binds .any e then e.on :: (acc.getD e.on [] ++ l) else l) l)
 | [], m, l, h => h
 | e :: es, m, l, h => by
  simp only [edgesM, List.foldl_cons]
  refine edgesM_in ha es _ _ ?_
  cases hb : Region.binds .any e with
  | false => simpa using h
  | true =>
   simp only [if_true]
   intro i hi
   rw [show Nat.lor (Nat.lor (Nat.shiftLeft 1 e.on) (accM.getD e.on 0)) m = ((1 <<< e.on) ||| accM.getD e.on 0) ||| m from rfl, Nat.testBit_or, Nat.testBit_or] at hi
   simp only [Bool.or_eq_true] at hi
   rcases hi with (hi | hi) | hi
   ·have : i = e.on := by
     rw [Nat.testBit_shiftLeft] at hi
     simp only [Bool.and_eq_true, decide_eq_true_eq] at hi
     have h2 := hi.2
     by_cases hz : i - e.on = 0
     ·omega
     ·rw [Nat.testBit_one_eq_true_iff_self_eq_zero] at h2
      exact absurd h2 hz
    rw [this]; simp
   ·exact List.mem_cons_of_mem _ (List.mem_append_left _ (ha _ _ hi))
   ·exact List.mem_cons_of_mem _ (List.mem_append_right _ (h _ hi))
theorem beforesM_in : ∀ (ops : List Oper) (accM : List Nat) (acc : List (List Nat)), accM.length = acc.length → (∀ j, BitsIn (accM.getD j 0) (acc.getD j [])) →
  ∀ j, BitsIn ((beforesM ops accM).getD j 0) ((befores ops acc).getD j [])
 | [], accM, acc, _, h => by simpa [beforesM, befores] using h
 | o :: r, accM, acc, hl, h => by
  simp only [beforesM, befores]
  refine beforesM_in r _ _ (by simp [hl]) ?_
  intro j
  have he := edgesM_in h o.after.toList 0 [] (by intro i hi; simp at hi)
  by_cases hj : j < accM.length
  ·simp only [List.getD_eq_getElem?_getD]
   rw [List.getElem?_append_left hj, List.getElem?_append_left (hl ▸ hj), ← List.getD_eq_getElem?_getD, ← List.getD_eq_getElem?_getD]
   exact h j
  ·by_cases hj' : j = accM.length
   ·subst hj'
    simp only [List.getD_eq_getElem?_getD, List.getElem?_append_right (Nat.le_refl _), Nat.sub_self]
    rw [List.getElem?_append_right (by omega)]
    simpa [hl] using he
   ·intro i hi
    simp only [List.getD_eq_getElem?_getD] at hi
    rw [List.getElem?_eq_none (by simp; omega)] at hi
    simp at hi
def looseK (o : Oper) (f : Fp) : Bool :=
 !f.all && f.writes.all fun l => match l, o.dst with
  | .tmp y, some x => Nat.beq y x
  | _, _ => false
theorem looseK_ok {o : Oper} {f : Fp} (h : looseK o f = true) : loose o f = true := by
 simp only [looseK, loose, Bool.and_eq_true, List.all_eq_true] at h ⊢
 refine ⟨h.1, fun l hl => ?_⟩
 have := h.2 l hl
 split at this
 ·rename_i y x hx
  rw [hx]
  simp only [beq_iff_eq, Lc.tmp.injEq]
  exact Nat.eq_of_beq_eq_true this
 ·simp at this
def drawOkM (pn : Bool) (ops : Array Oper) (base : Nat) (fs : List Fp) : Bool :=
 let bs := beforesM ops.toList []
 let ms := fs.map Fp.toM
 let k := fs.length
 ((List.range ops.size).all fun j =>
  ((ops.getD j default).after.toList.all fun e => !Region.binds .any e || Nat.blt e.on j) &&
  (List.range j).all fun i =>
   (bs.getD j 0).testBit i ||
   (match Nat.blt j k with
    | true => match ms[i]?, ms[j]? with
     | some a, some b => a.apart b || pn && Nat.beq (j + 1) k && looseK (ops.getD i default) (fs.getD i default)
     | _, _ => false
    | false => !(Nat.beq (i + 1) k))) &&
 (List.range k).all fun i => !makesBlk (ops.getD i default) ||
  (List.range k).all fun j => i == j || (bs.getD j 0).testBit i || !(fs.getD j default).refs.contains (base + i)
theorem drawOkM_ok {pn : Bool} {ops : Array Oper} {base : Nat} {fs : List Fp} (h : drawOkM pn ops base fs = true) : drawOk pn ops base fs = true := by
 have hb := beforesM_in ops.toList [] [] rfl (by intro j i hi; simp at hi)
 have blt : ∀ {a b : Nat}, Nat.blt a b = true → a < b := fun h => Nat.le_of_ble_eq_true h
 unfold drawOkM at h
 unfold drawOk
 simp only [Bool.and_eq_true, List.all_eq_true, List.mem_range, Bool.or_eq_true, Bool.not_eq_true'] at h ⊢
 refine ⟨fun j hj => ⟨fun e he => ?_, fun i hi => ?_⟩, fun i hi => ?_⟩
 ·rcases (h.1 j hj).1 e he with h1 | h1
  ·exact .inl h1
  ·exact .inr (by simpa using blt h1)
 ·rcases (h.1 j hj).2 i hi with h1 | h1
  ·exact .inl (by rw [List.contains_iff_mem]; exact hb j i h1)
  ·right
   split at h1
   ·rename_i hjk
    rw [if_pos (blt hjk)]
    split at h1
    ·rename_i a b ha hb'
     rw [List.getElem?_map, Option.map_eq_some_iff] at ha hb'
     obtain ⟨fa, hfa, rfl⟩ := ha
     obtain ⟨fb, hfb, rfl⟩ := hb'
     rcases Bool.or_eq_true _ _ |>.mp h1 with h1 | h1
     ·have := FpM.apart_ok h1
      rw [Bool.or_eq_true]; left
      simpa [List.getD_eq_getElem?_getD, hfa, hfb] using this
     ·simp only [Bool.and_eq_true] at h1
      rw [Bool.or_eq_true]; right
      simp only [Bool.and_eq_true, decide_eq_true_eq]
      exact ⟨⟨h1.1.1, Nat.eq_of_beq_eq_true h1.1.2⟩, looseK_ok h1.2⟩
    ·simp at h1
   ·rename_i hjk
    have hk : ¬ j < fs.length := by
     intro hlt
     have : Nat.blt j fs.length = true := Nat.ble_eq_true_of_le hlt
     rw [hjk] at this; simp at this
    rw [if_neg hk]
    simp only [decide_eq_true_eq]
    intro e
    rw [e] at h1
    simp at h1
 ·rcases h.2 i hi with h1 | h1
  ·exact .inl h1
  ·refine .inr fun j hj => ?_
   rcases h1 j hj with (h2 | h2) | h2
   ·exact .inl (.inl h2)
   ·exact .inl (.inr (by rw [List.contains_iff_mem]; exact hb j i h2))
   ·exact .inr h2
theorem dz {ops : Array Oper} {vs : List Nat} {base i : Nat} {pre : List Fp} {b : Code} (hok : (drawOkM false ops base pre && Nat.ble base nid) = true) (hh : awp X f b Q ⟨tm, hp, nid, df, pn⟩) : awpD X ops vs base pre [] i (seqQ X f b Q) ⟨tm, hp, nid, df, pn⟩ := by
 simp only [Bool.and_eq_true] at hok
 exact awpD_nil (by simp only [Bool.and_eq_true, decide_eq_true_eq]; exact ⟨drawOkM_ok hok.1, Nat.le_of_ble_eq_true hok.2⟩) (.normal hh)
theorem dz' {ops : Array Oper} {vs : List Nat} {base i : Nat} {pre : List Fp} (hok : (drawOkM false ops base pre && Nat.ble base nid) = true) (hh : Q .normal ⟨tm, hp, nid, df, pn⟩) : awpD X ops vs base pre [] i Q ⟨tm, hp, nid, df, pn⟩ := by
 simp only [Bool.and_eq_true] at hok
 exact awpD_nil (by simp only [Bool.and_eq_true, decide_eq_true_eq]; exact ⟨drawOkM_ok hok.1, Nat.le_of_ble_eq_true hok.2⟩) hh
theorem dgt {ops : Array Oper} {vs : List Nat} {base i : Nat} {pre : List Fp} {o q : Oper} {l : List Oper} {j d : Nat} {want b : Bool} (hg : o.guard = some (j, want)) (hq : ops[j]? = some q) (hd : q.dst = some d) (hl : look d tm = some (.c (.d (.bool b)))) (e : b = true)
  (e1 : setBK d true tm some = some tm') (h : awpD X ops vs base pre (o :: l) i Q ⟨tm', hp, nid, df, pn⟩) : awpD X ops vs base pre (o :: l) i Q ⟨tm, hp, nid, df, pn⟩ := by
 have _ := hg; have _ := hq; have _ := hd
 subst e
 rw [setBK_eq hl, Option.some.injEq] at e1
 rw [e1]; exact h
theorem dgf {ops : Array Oper} {vs : List Nat} {base i : Nat} {pre : List Fp} {o q : Oper} {l : List Oper} {j d : Nat} {want b : Bool} (hg : o.guard = some (j, want)) (hq : ops[j]? = some q) (hd : q.dst = some d) (hl : look d tm = some (.c (.d (.bool b)))) (e : b = false)
  (e1 : setBK d false tm some = some tm') (h : awpD X ops vs base pre (o :: l) i Q ⟨tm', hp, nid, df, pn⟩) : awpD X ops vs base pre (o :: l) i Q ⟨tm, hp, nid, df, pn⟩ := by
 have _ := hg; have _ := hq; have _ := hd
 subst e
 rw [setBK_eq hl, Option.some.injEq] at e1
 rw [e1]; exact h
theorem elget {α : Type} {g : α → D} (g' : α → D) (hg : ∀ a, g a = g' a) {u : List α} {y : α} {n : Int} {o : Oper} {t e : TypeId} {x i : Operand} {k : IntKind} {sz : Nat} (hy : lget u n = some y)
  (ho : o.op = .indexAddr t x i) (ht : telem X.P t = some e) (hz : some sz = tsz X.P e) (hx : (ev tm x).bind V.toD = some (.list sz (u.map g))) (hi : ev tm i = some (.c (.d (.int k n)))) :
  EvO X o ⟨tm, hp, nid, df, pn⟩ (.rptr (g' y).cells) ⟨tm, hp, nid, df, pn⟩ ⟨readsBlk o tm, [], []⟩ := by
 obtain ⟨h0, hy⟩ := lget_some hy
 rw [← hg]
 exact .of fun _ => ev_indexAddr (s := ⟨tm, hp, nid, df, pn⟩) (d := g y) ho ht hz hx hi h0 (by simp [hy])
theorem esfrom {o : Oper} {t : TypeId} {x lo : Operand} {u y : Str} {k : IntKind} {n : Int} (hy : sfrom u n = some y)
  (ho : o.op = .slice t x (some lo) none none) (ht : X.P.underlying t = some .string) (hx : evT X.P t tm x = some (.c (.d (.str u)))) (hi : ev tm lo = some (.c (.d (.int k n)))) :
  EvO X o ⟨tm, hp, nid, df, pn⟩ (.d (.str y)) ⟨tm, hp, nid, df, pn⟩ ⟨readsBlk o tm, [], []⟩ := by
 unfold sfrom at hy
 split at hy
 ·rename_i hb
  simp only [Option.some.injEq] at hy; subst hy
  have := fun call => ev_slice_str (P := X.P) (call := call) (id := nid) (s := ⟨tm, hp, nid, df, pn⟩) (a := n.toNat) (b := u.length) ho ht hx (optNat_some hi hb.1) rfl hb.2 (Nat.le_refl _)
  rw [List.take_length] at this
  exact .of fun _ => this _
 ·cases hy
theorem esto {o : Oper} {t : TypeId} {x hh : Operand} {u y : Str} {k : IntKind} {n : Int} (hy : sto u n = some y)
  (ho : o.op = .slice t x none (some hh) none) (ht : X.P.underlying t = some .string) (hx : evT X.P t tm x = some (.c (.d (.str u)))) (hi : ev tm hh = some (.c (.d (.int k n)))) :
  EvO X o ⟨tm, hp, nid, df, pn⟩ (.d (.str y)) ⟨tm, hp, nid, df, pn⟩ ⟨readsBlk o tm, [], []⟩ := by
 unfold sto at hy
 split at hy
 ·rename_i hb
  simp only [Option.some.injEq] at hy; subst hy
  exact .of fun _ => ev_slice_str (s := ⟨tm, hp, nid, df, pn⟩) (a := 0) (b := n.toNat) ho ht hx rfl (optNat_some hi hb.1) (Nat.zero_le _) hb.2
 ·cases hy
theorem esmid {o : Oper} {t : TypeId} {x lo hh : Operand} {u y : Str} {k k' : IntKind} {n m : Int} (hy : smid u n m = some y)
  (ho : o.op = .slice t x (some lo) (some hh) none) (ht : X.P.underlying t = some .string) (hx : evT X.P t tm x = some (.c (.d (.str u)))) (hi : ev tm lo = some (.c (.d (.int k n)))) (hi' : ev tm hh = some (.c (.d (.int k' m)))) :
  EvO X o ⟨tm, hp, nid, df, pn⟩ (.d (.str y)) ⟨tm, hp, nid, df, pn⟩ ⟨readsBlk o tm, [], []⟩ := by
 unfold smid at hy
 split at hy
 ·rename_i hb
  simp only [Option.some.injEq] at hy; subst hy
  exact .of fun _ => ev_slice_str (s := ⟨tm, hp, nid, df, pn⟩) (a := n.toNat) (b := m.toNat) ho ht hx (optNat_some hi hb.1) (optNat_some hi' (by omega)) (by omega) hb.2.2
 ·cases hy
theorem elmid {α : Type} {g : α → D} {u y : List α} {o : Oper} {t e : TypeId} {x lo hh : Operand} {v : V} {k k' : IntKind} {n m : Int} {sz : Nat} (hy : lmid u n m = some y)
  (ho : o.op = .slice t x (some lo) (some hh) none) (ht : X.P.underlying t = some (.slice e)) (hz : tsz X.P e = some sz) (hx : evT X.P t tm x = some v) (hv : v.toD = some (.list sz (u.map g))) (hi : ev tm lo = some (.c (.d (.int k n)))) (hi' : ev tm hh = some (.c (.d (.int k' m)))) :
  EvO X o ⟨tm, hp, nid, df, pn⟩ (.d (.list sz (y.map g))) ⟨tm, hp, nid, df, pn⟩ ⟨readsBlk o tm, [], []⟩ := by
 unfold lmid at hy
 split at hy
 ·rename_i hb
  simp only [Option.some.injEq] at hy; subst hy
  have := fun call => ev_slice_list (P := X.P) (call := call) (id := nid) (s := ⟨tm, hp, nid, df, pn⟩) (a := n.toNat) (b := m.toNat) ho ht hz hx hv (optNat_some hi hb.1) (optNat_some hi' (by omega)) (by omega) (by simpa using hb.2.2)
  rw [← List.map_take, ← List.map_drop] at this
  exact .of fun _ => this _
 ·cases hy
theorem ellen {α : Type} {g : α → D} {u : List α} {o : Oper} {c : Go.Call} {t e : TypeId} {x : Operand} {v : V} {sz : Nat}
  (ho : o.op = .call c) (hc : c.callee = .builtin .len) (ha : c.args.toList = [x]) (hat : c.argTypes.toList = [t]) (ht : X.P.underlying t = some (.slice e)) (hx : ev tm x = some v) (hv : v.toD = some (.list sz (u.map g))) :
  EvO X o ⟨tm, hp, nid, df, pn⟩ (.d (.int .i64 u.length)) ⟨tm, hp, nid, df, pn⟩ Foot.none :=
 .of fun _ => by simp only [evOp, evR, ho, hc, ha, hat, hx, Option.bind_some, lenV_data hv, ht, List.length_map]
theorem esbytes {o : Oper} {src dst e : TypeId} {x : Operand} {a : Str} {y : List Int} (hy : sbytes a = some y)
  (ho : o.op = .convert src dst x) (hs : X.P.underlying src = some .string) (hdd : X.P.underlying dst = some (.slice e)) (he : X.P.underlying e = some (.int .u8)) (hz : tsz X.P e = some 1) (hx : evT X.P src tm x = some (.c (.d (.str a)))) :
  EvO X o ⟨tm, hp, nid, df, pn⟩ (.c (.own 1 (y.map (D.int .u8)))) ⟨tm, hp, nid, df, pn⟩ ⟨readsBlk o tm, [], []⟩ := by
 unfold sbytes at hy
 split at hy
 ·rename_i hb
  simp only [Option.some.injEq] at hy; subst hy
  have := fun call => ev_bytes (P := X.P) (call := call) (id := nid) (s := ⟨tm, hp, nid, df, pn⟩) ho hs hdd he hz hx hb
  rw [show a.map byteD = (a.map u8I).map (D.int .u8) from by rw [List.map_map]; rfl] at this
  exact .of fun _ => this _
 ·cases hy
theorem eappn {α : Type} {g : α → D} {m y : List α} {o : Oper} {c : Go.Call} {t s e : TypeId} {x z : Operand} {n k : Nat} {zv : V} {ms : List D} (hy : lapp [] m = some y) (hm : ms = m.map g)
  (ho : o.op = .call c) (hc : c.callee = .builtin .append) (ha : c.args.toList = [x, z]) (hat : c.argTypes.toList = [t, s]) (ht : telem X.P t = some e) (hn : tsz X.P e = some n) (hu : isSource X.P s = true)
  (hb : (Nat.ble (X.P.bytesOf e) 1024 && zeroFits X.P e n) = true) (hx : evT X.P t tm x = some (.c (.nilsl k))) (hz : evT X.P s tm z = some zv) (hzz : appended zv = some (n, ms)) :
  EvO X o ⟨tm, hp, nid, df, pn⟩ (.c (.own n (y.map g))) ⟨tm, hp, nid, df, pn⟩ (appendFoot x tm) := by
 subst hm
 unfold lapp at hy
 split at hy
 ·rename_i hl
  simp only [List.nil_append, Option.some.injEq] at hy; subst hy
  simp only [Bool.and_eq_true] at hb
  exact .of fun _ => ev_append_nil (s := ⟨tm, hp, nid, df, pn⟩) ho hc ha hat ht hn hu ⟨Nat.le_of_ble_eq_true hb.1, hb.2⟩ hx hz hzz (by simpa using hl)
 ·cases hy
theorem ecall {o : Oper} {c : Go.Call} {fo : Operand} {g : Nat} {args args' : List C} {v v' : V} (hv : aval X g args' [] (.ret v []))
  (ho : o.op = .call c) (hc : c.callee = .value fo) (hf : ev tm fo = some (.c (.fn g [])))
  (ha : argsT X.P tm c.args.toList c.argTypes.toList = some args) (hi : args.flatMap C.ids = []) (hj : mapM? (C.into []) args = some args) (hst : args.map C.still = args') (hH : (X.H g 999999).isEmpty = true) (hb : V.back [] v = some v') :
  EvO X o ⟨tm, hp, nid, df, pn⟩ v' ⟨tm, hp, nid, df, pn⟩ ⟨[], [], []⟩ := by
 have := evt_call (X := X) (s := ⟨tm, hp, nid, df, pn⟩) (ids := []) (lh := []) (lh' := []) (lh'' := []) ho hc hf (by simpa using ha) (by simp [hi, reach]) (by simpa using hj) rfl (aval_still (hst ▸ hv) hH) rfl (by simpa [idsFrom] using hb)
 refine this.imp fun k p => ?_
 rw [p]
 simp [idsFrom, look_unviewIn_nil, putBlks]
theorem ecallk {o : Oper} {c : Go.Call} {fo : Operand} {g : Nat} {args : List C} {v v' : V} (hv : aval X g args [] (.ret v []))
  (ho : o.op = .call c) (hc : c.callee = .value fo) (hf : ev tm fo = some (.c (.fn g [])))
  (ha : argsT X.P tm c.args.toList c.argTypes.toList = some args) (hi : args.flatMap C.ids = []) (hj : mapM? (C.into []) args = some args) (hb : V.back [] v = some v') :
  EvO X o ⟨tm, hp, nid, df, pn⟩ v' ⟨tm, hp, nid, df, pn⟩ ⟨[], [], []⟩ := by
 have := evt_call (X := X) (s := ⟨tm, hp, nid, df, pn⟩) (ids := []) (lh := []) (lh' := []) (lh'' := []) ho hc hf (by simpa using ha) (by simp [hi, reach]) (by simpa using hj) rfl hv rfl (by simpa [idsFrom] using hb)
 refine this.imp fun k p => ?_
 rw [p]
 simp [idsFrom, look_unviewIn_nil, putBlks]
def AX.isOut : AX → Bool
 | .ret => true
 | .pan _ => true
 | _ => false
theorem seqQ.out {b : Code} {x : AX} {s : St} (hx : x.isOut = true) (h : Q x s) : seqQ X f b Q x s := by
 cases x <;> first | exact .ret h | exact .pan h | simp [AX.isOut] at hx
theorem condQ.out {hk : List Nat} {n : Nat} {x : AX} {s : St} (hx : x.isOut = true) (h : Q x s) : condQ hk n Q x s := by
 cases x <;> first | exact .ret h | exact .pan h | simp [AX.isOut] at hx
theorem exitQ.out {id : Nat} {hk : List Nat} {n : Nat} {x : AX} {s : St} (hx : x.isOut = true) (h : Q x s) : exitQ id hk n Q x s := by
 cases x <;> first | exact .ret h | exact .pan h | simp [AX.isOut] at hx
theorem loopQ.out {A : St → Prop} {x : AX} {s : St} (hx : x.isOut = true) (h : Q x s) : loopQ A Q x s := by
 cases x <;> first | exact .ret h | exact .pan h | simp [AX.isOut] at hx
inductive SubQ (X : Ctx) (fn : Func) (n : Nat) {ρ σ : Type} (E : ρ → CRes) (st : σ → St) : Except ρ σ → AX → St → Prop where
 | ok {a : σ} {s : St} : s = st a → SubQ X fn n E st (.ok a) .normal s
 | err {r : ρ} {x : AX} {s : St} : x.isOut = true → atEnd X fn n (E r) x s → SubQ X fn n E st (.error r) x s
theorem awp_sub (fn : Func) (n : Nat) {ρ σ : Type} (E : ρ → CRes) (st : σ → St) {res : Except ρ σ} {a : Code} {s : St} (h1 : awp X f a (SubQ X fn n E st res) s) (h2 : ∀ y, res = .ok y → Q .normal (st y))
  (h3 : ∀ r x s', res = .error r → x.isOut = true → atEnd X fn n (E r) x s' → Q x s') : awp X f a Q s := by
 refine awp_mono h1 ?_
 intro x s' hq
 cases hq with
 | ok e => subst e; exact h2 _ rfl
 | err hx e => exact h3 _ _ _ rfl hx e
inductive NrmQ {σ : Type} (st : σ → St) (y : σ) : AX → St → Prop where
 | ok {s : St} : s = st y → NrmQ st y .normal s
theorem awp_nrm {σ : Type} (st : σ → St) {y : σ} {a : Code} {s : St} (h1 : awp X f a (NrmQ st y) s) (h2 : Q .normal (st y)) : awp X f a Q s := by
 refine awp_mono h1 ?_
 intro x s' hq
 cases hq with
 | ok e => subst e; exact h2
theorem awpL_at {c : Code} {clean : St → Option St} {s s1 : St} (hc : clean s = some s1) (hc1 : clean s1 = some s1) (h : awpL X f c clean Q s1) : awpL X f c clean Q s := by
 obtain ⟨x, s', ⟨m₀, h1⟩, h2⟩ := h
 refine ⟨x, s', ⟨m₀ + 1, h1.imp fun k p m hm => ?_⟩, h2⟩
 obtain ⟨j, rfl⟩ : ∃ j, m = j + 1 := ⟨m - 1, by omega⟩
 have := p (j + 1) (by omega)
 simp only [iter, hc1] at this
 simp only [iter, hc]
 exact this
theorem awpL_go {c : Code} {clean : St → Option St} {s s1 : St} (hc : clean s = some s1) (h : awp X f c (loopQ (awpL X f c clean Q) Q) s1) : awpL X f c clean Q s := by
 refine awpL_round hc (awp_mono h ?_)
 intro x s' hq
 cases hq with
 | normal h => exact h
 | exit h => exact h
 | ret h => exact h
 | pan h => exact h
def filtK {β : Type} (n : Nat) : List (Nat × List C) → (List (Nat × List C) → β) → β
 | [], k => k []
 | (b, cs) :: r, k => match decide (b < n) with
  | true => copyL cs fun cs => filtK n r fun r => k ((b, cs) :: r)
  | false => filtK n r k
theorem filtK_eq {β : Type} {n : Nat} : ∀ {l : List (Nat × List C)} {k : List (Nat × List C) → β}, filtK n l k = k (l.filter (·.1 < n))
 | [], _ => rfl
 | (b, cs) :: r, k => by
  simp only [filtK, List.filter_cons, copyL_eq]
  cases h : decide (b < n) with
  | true => simp only [filtK_eq, if_true]
  | false => simp only [filtK_eq, Bool.false_eq_true, if_false]
def cleanK {α : Type} (ks : List Nat) (n : Nat) (tm : List (Nat × V)) (hp : List (Nat × List C)) (df : List (Nat × List Nat)) (k : List (Nat × V) → List (Nat × List C) → Option α) : Option α :=
 keepK ks (demT ks tm) fun tm => filtK n (demH ks hp) fun hp => match tm.all (fun x => x.2.below n) && hp.all (fun x => x.2.all (C.below n)) && df.all (fun x => x.2.all (· < n)) with
  | true => k tm hp
  | false => none
def pairK (tm : List (Nat × V)) (hp : List (Nat × List C)) : Option (List (Nat × V) × List (Nat × List C)) := some (tm, hp)
theorem cleanK_eq {α : Type} {ks : List Nat} {n : Nat} {k : List (Nat × V) → List (Nat × List C) → Option α} {a : α} (h : cleanK ks n tm hp df k = some a) :
  ∃ tm' hp', k tm' hp' = some a ∧ cleanAt ks n ⟨tm, hp, nid, df, pn⟩ = some ⟨tm', hp', n, df, pn⟩ := by
 unfold cleanK at h
 rw [keepK_eq, filtK_eq] at h
 split at h
 ·rename_i hc
  refine ⟨_, _, h, ?_⟩
  unfold cleanAt
  simp only
  rw [if_pos hc]
 ·simp at h
theorem lg {ks : List Nat} {n : Nat} {c : Code} (hc : cleanK ks n tm hp df pairK = some (tm', hp')) (h : awp X f c (loopQ (awpL X f c (cleanAt ks n) Q) Q) ⟨tm', hp', n, df, pn⟩) : awpL X f c (cleanAt ks n) Q ⟨tm, hp, nid, df, pn⟩ := by
 obtain ⟨_, _, h1, h2⟩ := cleanK_eq (nid := nid) (pn := pn) hc
 simp only [pairK, Option.some.injEq, Prod.mk.injEq] at h1
 obtain ⟨rfl, rfl⟩ := h1
 exact awpL_go h2 h
def settleK {α : Type} (hk : List Nat) (n : Nat) (tm : List (Nat × V)) (hp : List (Nat × List C)) (nid : Nat) (df : List (Nat × List Nat)) (k : List (Nat × V) → List (Nat × List C) → Nat → Option α) : Option α := match hk with
 | [] => k tm hp nid
 | _ :: ks => cleanK ks n tm hp df fun tm hp => k tm hp n
def triK (tm : List (Nat × V)) (hp : List (Nat × List C)) (nid : Nat) : Option (List (Nat × V) × List (Nat × List C) × Nat) := some (tm, hp, nid)
theorem settleK_eq {hk : List Nat} {n : Nat} (h : settleK hk n tm hp nid df triK = some (tm', hp', nid')) : settleS hk n ⟨tm, hp, nid, df, pn⟩ = some ⟨tm', hp', nid', df, pn⟩ := by
 unfold settleK at h
 split at h
 ·simp only [triK, Option.some.injEq, Prod.mk.injEq] at h
  obtain ⟨rfl, rfl, rfl⟩ := h; rfl
 ·obtain ⟨_, _, h1, h2⟩ := cleanK_eq (nid := nid) (pn := pn) h
  simp only [triK, Option.some.injEq, Prod.mk.injEq] at h1
  obtain ⟨rfl, rfl, rfl⟩ := h1
  exact h2
theorem eh {id : Nat} {hk : List Nat} {n : Nat} (hs : settleK hk n tm hp nid df triK = some (tm', hp', nid')) (h : Q .normal ⟨tm', hp', nid', df, pn⟩) : exitQ id hk n Q (.exit id) ⟨tm, hp, nid, df, pn⟩ := .here (settleK_eq hs) h
theorem en {id : Nat} {hk : List Nat} {n : Nat} (hs : settleK hk n tm hp nid df triK = some (tm', hp', nid')) (h : Q .normal ⟨tm', hp', nid', df, pn⟩) : exitQ id hk n Q .normal ⟨tm, hp, nid, df, pn⟩ := .normal (settleK_eq hs) h
theorem cn {hk : List Nat} {n : Nat} (hs : settleK hk n tm hp nid df triK = some (tm', hp', nid')) (h : Q .normal ⟨tm', hp', nid', df, pn⟩) : condQ hk n Q .normal ⟨tm, hp, nid, df, pn⟩ := .normal (settleK_eq hs) h
def codeAt : List Nat → Code → Code
 | [], c => c
 | i :: r, .seq a b => codeAt r (if i = 0 then a else b)
 | i :: r, .cond _ a b => codeAt r (if i = 0 then a else b)
 | _ :: r, .block _ c => codeAt r c
 | _ :: r, .loop c => codeAt r c
 | _ :: r, .scope c => codeAt r c
 | _, c => c
def bodyOf (fn : Func) : Code := fn.body.getD .skip
end
end Go.AM

namespace Go.AM
open Go
section
variable {X : Ctx} {f : Nat} {Q : AX → St → Prop} {tm tm' : List (Nat × V)} {hp hp' : List (Nat × List C)} {nid nid' : Nat} {df df' : List (Nat × List Nat)} {pn : Option D}
def EvP (X : Ctx) (o : Oper) (s : St) (d : D) (s1 : St) (ft : Foot) : Prop := Evt fun k => evOp X.P (X.call k) s.nid o s = some (.pan d s1, ft)
theorem pp {ops : Array Oper} {o : Oper} {l : List Oper} {d : D} {tm1 : List (Nat × V)} {hp1 : List (Nat × List C)} {ft : Foot} (hop : EvP X o ⟨tm, hp, nid, df, pn⟩ d ⟨tm1, hp1, nid, df, pn⟩ ft) (hw : wantedAt ops tm o = some true)
  (hk : (copyL tm1 fun tm => copyHp hp1 fun hp => some (tm, hp)) = some (tm', hp')) (h : Q (.pan d) ⟨tm', hp', nid, df, pn⟩) : awpO X ops (o :: l) Q ⟨tm, hp, nid, df, pn⟩ := by
 rw [copyL_eq, copyHp_eq] at hk
 simp only [Option.some.injEq, Prod.mk.injEq] at hk
 obtain ⟨rfl, rfl⟩ := hk
 exact awpO_pan (s := ⟨tm, hp, nid, df, pn⟩) hw hop h
def encI {α : Type} (j : IntKind) (g : α → D) (x : Int × α) : D × MV := (.int j x.1, .d (g x.2))
theorem pmk {ops : Array Oper} {o : Oper} {l : List Oper} {t : TypeId} (ho : o.op = .makeMap t none) (hw : wantedAt ops tm o = some true) (hv : noView nid tm = true)
  (hk : putK o.dst (.c (.mp nid)) tm (fun tm => some tm) = some tm') (hn : nid + 1 = nid') (h : awpO X ops l Q ⟨tm', (nid, [.ment []]) :: hp, nid', df, pn⟩) : awpO X ops (o :: l) Q ⟨tm, hp, nid, df, pn⟩ := by
 refine awpO_op (s := ⟨tm, hp, nid, df, pn⟩) (v := .c (.mp nid)) (s1 := ⟨tm, (nid, [.ment []]) :: hp, nid + 1, df, pn⟩) (ft := Foot.none) hw (.of fun k => by simp only [evOp, ho, hv, if_true]) ?_
 subst hn
 rw [show tm = (⟨tm, (nid, [.ment []]) :: hp, nid + 1, df, pn⟩ : St).tmps from rfl, putK_eq] at hk
 simp only [Option.some.injEq] at hk
 subst hk
 rw [putDst, putSt_rest]
 exact h
theorem emap {o : Oper} {t kt e : TypeId} {m k v : Operand} {b : Nat} {kd : D} {mv : MV} {cs : List C} {kvs kvs' : List (D × MV)} (hs : setM kd mv kvs = some kvs') (ho : o.op = .insert t m k v ∨ o.op = .mapUpdate t m k v) (hm : mapT X.P t = some (kt, e)) (hx : ev tm m = some (.c (.mp b))) (hy : (ev tm k).bind V.toD = some kd) (hk : keyD X.P kt kd = true)
  (hv : (evT X.P e tm v).bind MV.of = some mv) (hb : look b hp = some cs) (hc : mapOf cs = some kvs) : EvO X o ⟨tm, hp, nid, df, pn⟩ (.c .undef) ⟨tm, upd b [.ment kvs'] hp, nid, df, pn⟩ ⟨[], [b], []⟩ :=
 .of fun call => by rcases ho with ho | ho <;> simp only [evOp, ho, doMap, hm, hx, hy, hk, hv, hb, hc, hs]
def irem (a b : Int) : Option Int := if b = 0 then none else some (a.tmod b)
theorem eirem {o : Oper} {t u : TypeId} {x z : Operand} {k : IntKind} {a b y : Int} (hy : irem a b = some y) (ho : o.op = .binOp .rem t x z u) (hx : evT X.P t tm x = some (.c (.d (.int k a)))) (hz : evT X.P t tm z = some (.c (.d (.int k b)))) :
  EvO X o ⟨tm, hp, nid, df, pn⟩ (.d (.int k y)) ⟨tm, hp, nid, df, pn⟩ ⟨readsBlk o tm, [], []⟩ := by
 unfold irem at hy
 split at hy
 ·cases hy
 ·rename_i hb
  simp only [Option.some.injEq] at hy; subst hy
  exact .of fun _ => by simp only [evOp, ho, evR, hx, hz, binV, if_true, intOp, hb, if_false]
end
end Go.AM

namespace Go.AM
open Go
variable [Globs]
end Go.AM

namespace Go.AM
open Go
mutual
inductive Arr where
 | mk (shape : List Int) (cells : List Cell)
inductive Cell where
 | mk (kind : Int) (n : Int) (box : List Arr)
end
instance : Inhabited Arr := ⟨.mk [] []⟩
instance : Inhabited Cell := ⟨.mk 0 0 []⟩
def Arr.shape : Arr → List Int | .mk s _ => s
def Arr.cells : Arr → List Cell | .mk _ c => c
def Cell.kind : Cell → Int | .mk k _ _ => k
def Cell.n : Cell → Int | .mk _ n _ => n
def Cell.box : Cell → List Arr | .mk _ _ b => b
mutual
def encArrR : Arr → D
 | .mk sh cs => .agg [.list 1 (sh.map (D.int .i64)), .list 3 (encCellsR cs)]
def encCellsR : List Cell → List D
 | [] => []
 | c :: cs => encCellR c :: encCellsR cs
def encCellR : Cell → D
 | .mk k n b => .agg [.int .i64 k, .int .i64 n, .list 2 (encArrsR b)]
def encArrsR : List Arr → List D
 | [] => []
 | a :: l => encArrR a :: encArrsR l
end
def encCell (c : Cell) : D := .agg [.int .i64 c.kind, .int .i64 c.n, .list 2 (c.box.map encArrR)]
structure Token where
 kind : Int
 text : Str
 lit : Arr
 at_ : Int
 deriving Inhabited
def encToken (t : Token) : D := .agg [.int .i64 t.kind, .str t.text, .list 1 (t.lit.shape.map (D.int .i64)), .list 3 (t.lit.cells.map encCell), .int .i64 t.at_]
structure Fault where
 err : Int
 at_ : Int
 why : Int
 deriving Inhabited
inductive Node where
 | mk (kind op : Int) (name : Str) (lit : Arr) (kids : List Node) (at_ : Int)
instance : Inhabited Node := ⟨.mk 0 0 [] (.mk [] []) [] 0⟩
def Node.kind : Node → Int | .mk k _ _ _ _ _ => k
def Node.name : Node → Str | .mk _ _ n _ _ _ => n
def Node.lit : Node → Arr | .mk _ _ _ l _ _ => l
def Node.kids : Node → List Node | .mk _ _ _ _ k _ => k
def Node.at_ : Node → Int | .mk _ _ _ _ _ a => a
mutual
def encNodeR : Node → D
 | .mk k o n l ks a => .agg [.int .i64 k, .int .i64 o, .str n, .list 1 (l.shape.map (D.int .i64)), .list 3 (l.cells.map encCell), .list 7 (encNodesR ks), .int .i64 a]
def encNodesR : List Node → List D
 | [] => []
 | n :: l => encNodeR n :: encNodesR l
end
structure Prgm where
 set_ : Str
 origin : Int
 expr : Node
 deriving Inhabited
structure Grammar where
 verbs : List Str
 adverbs : List Str
 behind : List Str
 outer : Str
 power : Str
 open_ : Str
 close : Str
 left : Str
 right : Str
 minus : Str
 quote : Str
 trains : Bool
 lone : Bool
 square : Bool
 deriving Inhabited
def encGrammar (g : Grammar) : D := .agg [.list 1 (g.verbs.map D.str), .list 1 (g.adverbs.map D.str), .list 1 (g.behind.map D.str), .str g.outer, .str g.power, .str g.open_, .str g.close, .str g.left, .str g.right, .str g.minus, .str g.quote, .bool g.trains, .bool g.lone, .bool g.square]
end Go.AM

namespace Go.AM
open Go
variable [Globs]
def strsOf : List D → Option (List (List UInt8))
 | [] => some []
 | .str s :: r => (strsOf r).map (s :: ·)
 | _ :: _ => none
theorem strsOf_eq : ∀ {ds : List D} {l : List (List UInt8)}, strsOf ds = some l → ds = l.map .str
 | [], l, h => by simp only [strsOf, Option.some.injEq] at h; subst h; rfl
 | d :: ds, l, h => by
  cases d <;> simp only [strsOf, Option.map_eq_some_iff, reduceCtorEq] at h
  obtain ⟨r, hr, rfl⟩ := h
  rw [strsOf_eq hr]; rfl
def joinS (l : List (List UInt8)) (s : List UInt8) : Option (List UInt8) :=
 if l.length ≤ 140737488355328 ∧ (Lib.join l s).length ≤ 140737488355328 then some (Lib.join l s) else none
def joinCall : Call := fun _ args lh => match args with
 | [.d (.list 1 ds), .d (.str s)] => (strsOf ds).bind fun l => (joinS l s).map fun r => .ret (.d (.str r)) lh
 | _ => none
def indexByteS (s : List UInt8) (c : Int) : Int := Lib.indexByte s c.toNat.toUInt8
def indexByteCall : Call := fun _ args lh => match args with
 | [.d (.str s), .d (.int .u8 c)] => some (.ret (.d (.int .i64 (indexByteS s c))) lh)
 | _ => none
def containsAnyS (s t : List UInt8) : Option Bool :=
 if s.length < 4294967281 ∧ t.length < 4294967281 ∧ (s.all fun b => decide (b.toNat < 128)) = true ∧ (t.all fun b => decide (b.toNat < 128)) = true then some (Lib.containsAny s t) else none
def containsAnyCall : Call := fun _ args lh => match args with
 | [.d (.str s), .d (.str t)] => (containsAnyS s t).map fun r => .ret (.d (.bool r)) lh
 | _ => none
theorem step_below {K : Col} {w w' : World} (h : Go.RowKit.Below w.heap.size w w') : Step mine K w K w' :=
 ⟨h.os, h.tape, h.output, h.size, fun b hb _ => h.block b hb, fun b off hb _ =>
  ⟨by simp [World.cell?, h.block b hb], by simp [World.frozen?, h.block b hb], rfl⟩⟩
theorem callOK_below {P : Program} {f : Nat} {args : List C} {lh : List (List C)} {d : D}
  (h : ∀ K μ w vs, RepCs K μ w args vs → BoundK K w → Glob K w → Calls P f vs.toArray w fun e w' => (∃ u, e = .returned u ∧ Rep K w' d u) ∧ Go.RowKit.Below w.heap.size w w') :
  CallOK P f args lh (.ret (.d d) lh) := by
 intro K μ w vs hr hi hh hb hgl
 refine (h K μ w vs hr hb hgl).mono ?_
 rintro e w' ⟨⟨u, rfl, hu⟩, hbw⟩
 have hst := step_below (K := K) hbw
 refine ⟨K, μ, hst, fun blk off hl => hb _ _ (Nat.le_trans hbw.size hl), fun _ _ => rfl, Nat.le_refl _, ?_, by simp [PlainV], by simp [V.ids, C.ids], _, rfl, hu⟩
 intro i cells hic
 refine ⟨(hh i cells hic).1, (hh i cells hic).2.step (W := fun _ => False) ⟨hst.os, hst.tape, hst.output, hst.size, fun b hb _ => hbw.block b hb, fun b off hb _ => ⟨by simp [World.cell?, hbw.block b hb], by simp [World.frozen?, hbw.block b hb], rfl⟩⟩ (by simp) (by simp) (by simp)⟩
theorem repE_strs {K : Col} {w : World} : ∀ {l : List (List UInt8)} {blk off : Nat}, RepE K w 1 blk off (l.map .str) → ∀ (j : Nat) s, l[j]? = some s → w.cell? ⟨blk, off + j, none⟩ = some (.string ⟨s.toArray⟩)
 | s :: l, blk, off, h, j, t, ht => by
  simp only [List.map_cons, RepE] at h
  obtain ⟨⟨v, hv, hz, hc⟩, hr⟩ := h
  cases j with
  | zero =>
   simp only [List.getElem?_cons_zero, Option.some.injEq] at ht; subst ht
   simp only [Rep] at hv; subst hv
   exact (hc 0 _ rfl).2
  | succ j =>
   have := repE_strs hr j t (by simpa using ht)
   rw [show off + (j + 1) = off + 1 + j from by omega]
   exact this
theorem join_ok {P : Program} {ρ : Shelf.Ren} (L : Go.Proofs.Lays.n156 P ρ) (X : Go.Proofs.Builder.Extra P ρ) {args : List C} {lh : List (List C)} {r : CRes}
  (h : joinCall (ρ.f 156) args lh = some r) : CallOK P (ρ.f 156) args lh r := by
 unfold joinCall at h
 split at h
 ·rename_i ds s
  simp only [Option.bind_eq_some_iff, Option.map_eq_some_iff, joinS] at h
  obtain ⟨l, hl, q, hq, rfl⟩ := h
  have hds := strsOf_eq hl; subst hds
  split at hq
  ·rename_i hb
   simp only [Option.some.injEq] at hq; subst hq
   refine callOK_below fun K μ w vs hr hbd hgl => ?_
   cases hr with
   | cons hc hn =>
    cases hn with
    | cons hs hn =>
     cases hn
     rename_i v u
     simp only [RepC, Rep] at hc hs; subst hs
     rcases hc with ⟨he, rfl | ⟨ea, ecap, rfl⟩⟩ | ⟨blk, off, cap, rfl, hcap, he⟩
     ·have : l = [] := by simpa using he
      subst this
      refine (Go.Proofs.Any.strings_Join_none L X none 0 ⟨s.toArray⟩ w).mono ?_
      rintro e w' ⟨rfl, rfl⟩
      exact ⟨⟨_, rfl, by simp [Rep, Lib.join_nil]⟩, Go.RowKit.Below.refl _ _⟩
     ·have : l = [] := by simpa using he
      subst this
      refine (Go.Proofs.Any.strings_Join_none L X (some ea) ecap ⟨s.toArray⟩ w).mono ?_
      rintro e w' ⟨rfl, rfl⟩
      exact ⟨⟨_, rfl, by simp [Rep, Lib.join_nil]⟩, Go.RowKit.Below.refl _ _⟩
     ·cases l with
      | nil =>
       refine (Go.Proofs.Any.strings_Join_none L X (some (ad blk off)) cap ⟨s.toArray⟩ w).mono ?_
       rintro e w' ⟨rfl, rfl⟩
       exact ⟨⟨_, rfl, by simp [Rep, Lib.join_nil]⟩, Go.RowKit.Below.refl _ _⟩
      | cons x l =>
       have hcell := repE_strs he
       have hlt : blk < w.heap.size := block_lt (off := off + 0) (hcell 0 x rfl)
       have hm : (((x :: l).map fun s => ByteArray.mk s.toArray).map fun b => b.data.toList) = x :: l := by simp [List.map_map, Function.comp_def]
       have := Go.Proofs.Any.strings_Join L X blk off cap ((x :: l).map fun s => ByteArray.mk s.toArray) ⟨s.toArray⟩ w (fun j y hy => by
        simp only [List.getElem?_map, Option.map_eq_some_iff] at hy
        obtain ⟨t, ht, rfl⟩ := hy
        exact hcell j t ht) hlt (by simpa using hb.1) (by simpa using hcap) (by rw [hm]; simpa using hb.2)
       rw [hm] at this
       simp only [List.length_map] at this ⊢
       refine this.mono ?_
       rintro e w' ⟨rfl, hw⟩
       exact ⟨⟨_, rfl, by simp [Rep]⟩, hw⟩
  ·simp at hq
 ·simp at h
theorem indexByte_ok {P : Program} {ρ : Shelf.Ren} (L : Go.Proofs.Lays.n137 P ρ) {args : List C} {lh : List (List C)} {r : CRes}
  (h : indexByteCall (ρ.f 137) args lh = some r) : CallOK P (ρ.f 137) args lh r := by
 unfold indexByteCall at h
 split at h
 ·rename_i s c
  simp only [Option.some.injEq] at h; subst h
  refine callOK_below fun K μ w vs hr hbd hgl => ?_
  cases hr with
  | cons hc hn =>
   cases hn with
   | cons hs hn =>
    cases hn
    simp only [RepC, Rep] at hc hs; subst hc; subst hs
    refine (Go.Proofs.Any.strings_IndexByte L ⟨s.toArray⟩ c w).mono ?_
    rintro e w' ⟨rfl, rfl⟩
    exact ⟨⟨_, rfl, by simp [Rep, indexByteS]⟩, Go.RowKit.Below.refl _ _⟩
 ·simp at h
theorem containsAny_ok {P : Program} {ρ : Shelf.Ren} (L : Go.Proofs.Lays.n150 P ρ) (h116 : (P.info? (ρ.t 116)).map (fun i => (i.zero, i.size)) = some (some (.agg (Array.replicate 256 (.bool false))), 256))
  {args : List C} {lh : List (List C)} {r : CRes} (h : containsAnyCall (ρ.f 150) args lh = some r) : CallOK P (ρ.f 150) args lh r := by
 unfold containsAnyCall at h
 split at h
 ·rename_i s t
  simp only [Option.map_eq_some_iff, containsAnyS] at h
  obtain ⟨q, hq, rfl⟩ := h
  split at hq
  ·rename_i hb
   simp only [Option.some.injEq] at hq; subst hq
   simp only [List.all_eq_true, decide_eq_true_eq] at hb
   refine callOK_below fun K μ w vs hr hbd hgl => ?_
   cases hr with
   | cons hc hn =>
    cases hn with
    | cons hs hn =>
     cases hn
     simp only [RepC, Rep] at hc hs; subst hc; subst hs
     refine (Go.Proofs.Any.strings_ContainsAny_laid L h116 ⟨s.toArray⟩ ⟨t.toArray⟩ w (by show s.toArray.size < _; simpa using hb.1) (by show t.toArray.size < _; simpa using hb.2.1)
      (fun j b hj => hb.2.2.1 b (List.mem_of_getElem? (by simpa using hj))) (fun j b hj => hb.2.2.2 b (List.mem_of_getElem? (by simpa using hj)))).mono ?_
     rintro e w' ⟨rfl, hw⟩
     exact ⟨⟨_, rfl, by simp [Rep]⟩, hw⟩
  ·simp at hq
 ·simp at h
end Go.AM

namespace Go.AM
open Go
section
variable {X : Ctx} {f : Nat} {Q : AX → St → Prop} {tm tm' : List (Nat × V)} {hp hp' : List (Nat × List C)} {nid nid' : Nat} {df : List (Nat × List Nat)} {pn : Option D}
end
end Go.AM

namespace Go.AM
open Go
variable [Globs]
def subB : List UInt8 → List UInt8 → Bool
 | [], s => s.isEmpty
 | b :: l, s => s.isPrefixOf (b :: l) || subB l s
omit [Globs] in
theorem contains_eq : ∀ l s : List UInt8, Lib.contains l s = subB l s
 | [], s => by cases s <;> rfl
 | b :: l, s => by
  have ih := contains_eq l s
  unfold Lib.contains at ih ⊢
  unfold subB Lib.index
  by_cases h : s.isPrefixOf (b :: l) = true
  ·rw [if_pos h, h]; rfl
  ·rw [if_neg h, Bool.eq_false_iff.2 h, Bool.false_or, ← ih]
   have hge := Lib.index_ge l s
   by_cases h1 : Lib.index l s = -1
   ·rw [h1]; rfl
   ·have : (Lib.index l s == -1) = false := by rw [beq_eq_false_iff_ne]; exact h1
    rw [this]
    simp only [Bool.false_eq_true, if_false]
    have h0 : 0 ≤ Lib.index l s := by omega
    rw [decide_eq_true (by omega), decide_eq_true h0]
def containsCall : Call := fun _ args lh => match args with
 | [.d (.str s), .d (.str t)] => if s.length < 4294967281 then some (.ret (.d (.bool (subB s t))) lh) else none
 | _ => none
theorem contains_ok {P : Program} {ρ : Shelf.Ren} (L : Go.Proofs.Lays.n144 P ρ) {m : Int} (htab : (ρ.g 1, [Value.int .i64 m]) ∈ Globs.tab) {args : List C} {lh : List (List C)} {r : CRes}
  (h : containsCall (ρ.f 144) args lh = some r) : CallOK P (ρ.f 144) args lh r := by
 unfold containsCall at h
 split at h
 ·rename_i s t
  split at h
  ·rename_i hl
   simp only [Option.some.injEq] at h; subst h
   refine callOK_below fun K μ w vs hr hbd hgl => ?_
   cases hr with
   | cons hc hn =>
    cases hn with
    | cons hs hn =>
     cases hn
     simp only [RepC, Rep] at hc hs; subst hc; subst hs
     have hm := (hgl _ htab 0 (.int .i64 m) (by simp)).2
     refine (Go.Proofs.Any.strings_Contains L ⟨s.toArray⟩ ⟨t.toArray⟩ m w (by show s.toArray.size < _; simpa using hl) hm).mono ?_
     rintro e w' ⟨rfl, rfl⟩
     exact ⟨⟨_, rfl, by simp [Rep, contains_eq]⟩, Go.RowKit.Below.refl _ _⟩
  ·simp at h
 ·simp at h
omit [Globs]
def fxVerbs : Str := [43, 45, 195, 151, 124, 126, 226, 141, 179, 226, 141, 180, 226, 137, 162, 44, 226, 138, 150, 226, 140, 189, 226, 141, 137, 226, 141, 139, 226, 141, 146, 226, 136, 170, 226, 138, 130, 226, 138, 131, 195, 183, 226, 140, 138, 226, 140, 136, 61, 226, 137, 160, 60, 62, 226, 137, 164, 226, 137, 165, 226, 134, 145, 226, 134, 147, 226, 141, 170, 226, 136, 138, 226, 140, 191, 47, 92, 226, 141, 128, 226, 140, 183, 226, 141, 168, 226, 141, 163, 226, 139, 132]
def fxOpen : Str := [40, 123, 91]
def fxShut : Str := [41, 125, 93]
def noLit : Arr := Arr.mk [] []
def tailS (s : Str) (at_ : Int) : Option (Token × Bool) :=
 if s.isEmpty then none else
 if subB fxVerbs s then some (Token.mk 4 s noLit at_, true) else
 if subB fxOpen s then some (Token.mk 5 s noLit at_, true) else
 if subB fxShut s then some (Token.mk 6 s noLit at_, true) else some (Token.mk 0 [] noLit 0, false)
theorem sub_mem {c : UInt8} {s : Str} : ∀ {l : Str}, subB l (c :: s) = true → c ∈ l
 | [], h => by simp [subB] at h
 | b :: l, h => by
  simp only [subB, Bool.or_eq_true] at h
  rcases h with h | h
  ·simp only [List.isPrefixOf, Bool.and_eq_true, beq_iff_eq] at h
   rw [h.1]; simp
  ·exact List.mem_cons_of_mem _ (sub_mem h)
theorem fx_apart : (∀ c ∈ fxOpen, c ∉ fxVerbs) ∧ (∀ c ∈ fxShut, c ∉ fxVerbs) ∧ (∀ c ∈ fxShut, c ∉ fxOpen) := by decide
theorem tailS_some {s : Str} {a : Int} {r : Token × Bool} (h : tailS s a = some r) : (subB fxVerbs s = true → r = (Token.mk 4 s noLit a, true)) ∧ (subB fxOpen s = true → r = (Token.mk 5 s noLit a, true)) ∧
  (subB fxShut s = true → r = (Token.mk 6 s noLit a, true)) ∧ (subB fxVerbs s = false → subB fxOpen s = false → subB fxShut s = false → r = (Token.mk 0 [] noLit 0, false)) := by
 cases s with
 | nil => simp [tailS] at h
 | cons c s =>
  obtain ⟨h1, h2, h3⟩ := fx_apart
  have e : ∀ {l : Str}, c ∉ l → subB l (c :: s) = false := fun hn => Bool.eq_false_iff.2 fun hh => hn (sub_mem hh)
  simp only [tailS, List.isEmpty_cons, Bool.false_eq_true, if_false] at h
  refine ⟨fun g => ?_, fun g => ?_, fun g => ?_, fun g g' g'' => ?_⟩
  ·rw [if_pos g] at h; exact (Option.some.inj h).symm
  ·have := e (h1 c (sub_mem g))
   rw [this, g] at h
   simpa using h.symm
  ·have q1 := e (h2 c (sub_mem g)); have q2 := e (h3 c (sub_mem g))
   rw [q1, q2, g] at h
   simpa using h.symm
  ·rw [g, g', g''] at h
   simpa using h.symm
end Go.AM

namespace Go.AM.Fx
open Go Go.AM
def firstN (c : Int) : Int × Int :=
 if c < 128 then (1, w64 c) else if c < 192 then (0, 0) else if c ≥ 248 then (0, 0)
 else if c < 224 then (2, w64 (IntKind.u8.wrap ((BitVec.ofInt 8 c &&& BitVec.ofInt 8 31).toNat)))
 else if c < 240 then (3, w64 (IntKind.u8.wrap ((BitVec.ofInt 8 c &&& BitVec.ofInt 8 15).toNat)))
 else (4, w64 (IntKind.u8.wrap ((BitVec.ofInt 8 c &&& BitVec.ofInt 8 7).toNat)))
def goodN (n : Int) : Bool := decide (n ≥ 0) && decide (n ≤ 1114111) && (decide (n < 55296) || decide (n > 57343))
def widthN (n : Int) : Int := if n < 128 then 1 else if n < 2048 then 2 else if n < 65536 then 3 else 4
def pushN (n : Int) (c : Int) : Int := w64 ((BitVec.ofInt 64 (w64 (n * 2 ^ 6)) ||| BitVec.ofInt 64 (w64 (IntKind.u8.wrap ((BitVec.ofInt 8 c &&& BitVec.ofInt 8 63).toNat)))).toNat)
def contN (c : Int) : Bool := (IntKind.u8.wrap ((BitVec.ofInt 8 c &&& BitVec.ofInt 8 192).toNat)) != 128
def contGo : List Int → Int → Except (Int × Int) Int
 | [], n => .ok n
 | c :: r, n => if contN c then .error (0, 0) else contGo r (pushN n c)
def oneRest (k : Int) : Except (Int × Int) Int → Int × Int
 | .error r => r
 | .ok n => if goodN n = false then (0, 0) else if widthN n ≠ k then (0, 0) else (n, k)
def oneN : List Int → Int × Int
 | [] => (0, 0)
 | c :: r => if (firstN c).1 = 0 then (0, 0) else if (firstN c).1 > (c :: r).length then (0, 0) else
  oneRest (firstN c).1 (contGo (r.take ((firstN c).1.toNat - 1)) (firstN c).2)
def fixedS (b : Str) (a : Int) : Option (Token × Bool) :=
 if 0 ≤ a ∧ a ≤ b.length ∧ b.length < 4294967296 then
  if List.isPrefixOf [226, 142, 149, 73, 79] (b.drop a.toNat) then some (Token.mk 3 [226, 142, 149, 73, 79] noLit a, true)
  else if List.isPrefixOf [226, 141, 186] (b.drop a.toNat) then some (Token.mk 3 [226, 141, 186] noLit a, true)
  else if List.isPrefixOf [226, 141, 181] (b.drop a.toNat) then some (Token.mk 3 [226, 141, 181] noLit a, true)
  else if List.isPrefixOf [226, 136, 152, 46] (b.drop a.toNat) then some (Token.mk 4 [226, 136, 152, 46] noLit a, true)
  else if List.isPrefixOf [226, 134, 144] (b.drop a.toNat) then some (Token.mk 7 [226, 134, 144] noLit a, true)
  else tailS ((b.drop a.toNat).take (oneN ((b.drop a.toNat).map u8I)).2.toNat) a
 else none
def fixedCall : Call := fun _ args lh => match args, lh with
 | [.ptr 0 0], [[.d (.str b), .d (.int .i64 a), .hid, .d (.int .i64 e), .d (.int .i64 a1), .d (.int .i64 y)]] =>
  (fixedS b a).map fun r => .ret (.tuple [.d (encToken r.1), .d (.bool r.2)]) [[.d (.str b), .d (.int .i64 a), .hid, .d (.int .i64 e), .d (.int .i64 a1), .d (.int .i64 y)]]
 | _, _ => none
end Go.AM.Fx

namespace Go.AM
open Go
inductive nrmQ (Q : AX → St → Prop) : AX → St → Prop where
 | mk {s : St} : Q .normal s → nrmQ Q .normal s
section
variable {X : Ctx} {f : Nat} {Q : AX → St → Prop} {tm tm' : List (Nat × V)} {hp hp' : List (Nat × List C)} {nid nid' : Nat} {df : List (Nat × List Nat)} {pn : Option D}
end
end Go.AM

namespace Go.AM.Seat
open Go Go.AM Go.Proofs
set_option maxRecDepth 100000
def h6 : Nat → List Nat | 0 => [0] | 1 => [0] | 2 => [0, 3, 4] | 3 => [3, 4, 5] | 4 => [3, 4, 5, 6] | 6 => [3, 4, 5] | 7 => [3, 4, 5, 7] | 8 => [3, 4, 5, 7, 8] | 9 => [3, 4, 5, 7, 8] | 10 => [3, 4, 5, 7, 8] | 11 => [3, 4, 7] | 12 => [3, 4, 7, 9] | 13 => [3, 4, 7, 9] | 14 => [3, 4, 7, 9] | 15 => [3, 4, 7] | 16 => [3, 4, 7, 10] | 17 => [3, 4, 7, 10] | 18 => [3, 4, 7, 10] | 19 => [3, 4, 7] | 1000000 => [0, 3, 4, 7] | 1000001 => [0, 3, 4, 5, 7, 8] | 1000002 => [0, 3, 4, 7] | 1000003 => [0, 3, 4, 7, 9] | 1000004 => [0, 3, 4, 7] | 1000005 => [0, 3, 4, 7, 10] | _ => []
def h17 : Nat → List Nat | 1 => [0] | _ => []
def h18 : Nat → List Nat | 1 => [0] | _ => []
def H : Nat → Nat → List Nat
  | 6 => h6
  | 17 => h17
  | 18 => h18
  | _ => fun _ => []
def g13 : Nat → List Nat | 2 => [1, 2] | 3 => [1, 2, 3, 4] | 4 => [1, 2, 3, 4, 6] | _ => []
def g14 : Nat → List Nat | 0 => [0] | 1 => [0, 2, 3] | 2 => [0, 2, 3, 4, 5] | 3 => [2, 3, 5] | 4 => [0, 2, 3, 4, 5] | 5 => [0, 2, 3, 4, 5, 6] | 6 => [0, 2, 3, 4, 5, 6, 7, 8] | 7 => [2, 3, 5] | 8 => [0, 2, 3, 4, 5, 6, 7, 8] | 9 => [0, 2, 3, 4, 5, 6] | 10 => [0, 2, 3, 4, 5, 6] | 11 => [0, 2, 3, 4, 5, 6] | 12 => [2, 3, 5, 6] | 13 => [2, 3, 5] | 14 => [2, 3, 6] | 2000010 => [0, 0, 2, 3, 4, 5, 6] | _ => []
def g15 : Nat → List Nat | 0 => [0] | 1 => [1] | 3 => [1] | 4 => [1, 4, 5] | 5 => [5] | 6 => [1, 4] | 7 => [1, 4] | 8 => [1, 4] | 9 => [1, 4] | 10 => [1, 4] | 11 => [1, 4, 6, 7] | 13 => [4] | 2000007 => [0, 1, 4] | 2000009 => [0, 1, 4] | _ => []
def g20 : Nat → List Nat | 0 => [0] | 1 => [0] | 2 => [0, 6, 7] | 3 => [0, 6, 7] | 4 => [0, 3, 6, 7] | 5 => [0, 3, 4, 6, 7] | 7 => [0, 6, 7] | 8 => [0] | 1000000 => [0, 0] | 1000001 => [0, 0, 6, 7] | _ => []
def g21 : Nat → List Nat | 0 => [0, 1, 2] | 1 => [1, 2, 3, 6, 7] | 2 => [1, 2, 3, 6, 7] | 3 => [1, 6, 7, 8] | 4 => [1, 6, 7, 8] | 5 => [6, 7, 8] | 6 => [6, 7] | 2000005 => [0, 6, 7] | _ => []
def g22 : Nat → List Nat | 0 => [0, 1] | 1 => [2, 3] | 2 => [3, 6] | 3 => [6] | 5 => [6] | _ => []
def g24 : Nat → List Nat | 0 => [0, 1] | 1 => [2, 3] | 3 => [2, 3] | 4 => [2, 3, 44, 45] | 5 => [2, 3, 44, 45] | 6 => [2, 3, 5, 44, 45] | 8 => [2, 3, 44, 45] | 1000000 => [0] | _ => []
def g26 : Nat → List Nat | 0 => [0] | 1 => [0, 3] | 2 => [3] | 3 => [0, 3] | 4 => [0, 3, 4] | 5 => [0, 3, 4] | 6 => [0, 3, 4] | 7 => [0, 3, 4] | 8 => [3, 4] | 9 => [0, 3, 4] | 10 => [3, 4] | 11 => [4999999, 0, 3, 4] | 12 => [3, 4] | 13 => [3, 4] | 14 => [3, 4] | 1000000 => [0, 3, 4] | _ => []
def g27 : Nat → List Nat | 0 => [0, 1] | 1 => [0, 1, 6] | 2 => [6] | 3 => [0, 1, 6] | 4 => [0, 1, 6, 20, 21, 22] | 5 => [0, 1, 6, 20, 21, 22] | 6 => [0, 1, 6, 7, 8, 20, 21, 22] | 7 => [1, 6] | 8 => [0, 1, 6, 7, 8, 20, 21, 22] | 9 => [0, 6, 7] | 10 => [0, 1, 6, 20, 21, 22] | 11 => [0, 6] | _ => []
def g32 : Nat → List Nat | 0 => [0, 1] | 1 => [0, 1, 2] | 2 => [0, 1, 2] | 3 => [0, 1, 2, 3, 4] | 4 => [0, 1, 2, 3] | 5 => [0, 1, 3] | _ => []
def g33 : Nat → List Nat | 0 => [0] | 1 => [1, 2] | 2 => [1, 2] | 3 => [1, 2] | 4 => [1, 2, 3] | 5 => [1, 2, 3] | 6 => [1, 2, 3, 4] | 7 => [1, 2, 3] | 8 => [1, 2, 3, 5] | 9 => [2, 5] | 10 => [1, 2, 3, 5] | 11 => [1, 2, 3, 5] | 12 => [1, 2, 3, 5] | 13 => [1, 2, 3, 5, 6] | 14 => [1, 2, 3, 5, 6, 7] | 15 => [1, 2, 3, 5, 6, 7] | 16 => [1, 2, 3, 6, 7, 8, 9] | 17 => [1, 2, 3, 6, 7, 8] | 18 => [1, 2, 3, 7, 8] | 19 => [1, 2, 3, 7] | 20 => [1, 2, 3, 5, 7] | 1000000 => [0, 1, 2, 3, 5] | 2000017 => [0, 1, 2, 3, 7, 8] | _ => []
def g34 : Nat → List Nat | 0 => [0, 1, 2] | 1 => [0, 1, 2, 6] | 2 => [0, 1, 2] | 3 => [1, 6] | 2000002 => [0, 1, 6] | _ => []
def g35 : Nat → List Nat | 0 => [0, 1] | 1 => [0, 3] | 2 => [0, 3] | 3 => [0, 3, 5] | 4 => [0, 3] | 5 => [0, 3] | 6 => [0, 3] | 7 => [0, 3, 5] | 8 => [0, 3] | 9 => [0, 3] | 10 => [0, 3] | 11 => [0, 3] | _ => []
def g37 : Nat → List Nat | 0 => [0, 1] | 1 => [2, 3] | _ => []
def g39 : Nat → List Nat | 0 => [0, 1] | 1 => [0, 1] | _ => []
def g40 : Nat → List Nat | 0 => [0] | 1 => [0, 2] | 2 => [0, 2, 4] | 3 => [0, 2] | 4 => [2] | 5 => [0, 2] | 6 => [0, 2, 5] | 7 => [0, 2] | 8 => [0, 2, 5] | 9 => [0, 2] | 10 => [0, 2, 5] | 11 => [0, 2] | 12 => [0, 2] | 13 => [0, 2, 6, 7] | 14 => [0, 2, 6] | 15 => [0, 2, 6] | 16 => [2, 6] | 2000014 => [0, 0, 2, 6] | _ => []
def g41 : Nat → List Nat | 0 => [0] | _ => []
def g42 : Nat → List Nat | 0 => [0] | 1 => [1] | _ => []
def g43 : Nat → List Nat | 0 => [0] | 1 => [1] | _ => []
def g44 : Nat → List Nat | 0 => [0] | 1 => [1] | _ => []
def g45 : Nat → List Nat | 0 => [0] | 1 => [0] | 3 => [0] | 4 => [0, 4, 5] | 6 => [0, 4, 5] | 7 => [4, 5, 28, 29, 30] | 8 => [4, 5, 28, 29, 30] | 9 => [4, 5, 7, 28, 29, 30] | 11 => [4, 5, 7, 28, 29, 30] | 12 => [4, 5, 28, 29, 30] | 13 => [4, 5] | 15 => [4, 5] | 1000000 => [0, 4, 5] | _ => []
def g54 : Nat → List Nat | 0 => [0] | 1 => [0] | 2 => [0] | _ => []
def g55 : Nat → List Nat | 0 => [0] | _ => []
def g56 : Nat → List Nat | 0 => [0] | 1 => [0] | 2 => [0] | 3 => [0] | _ => []
def g57 : Nat → List Nat | 0 => [0, 1, 2] | 1 => [0, 1, 2] | 2 => [0, 1] | 3 => [0, 1] | 5 => [0, 1, 2] | 6 => [0, 1] | 7 => [0, 1, 2] | 8 => [0, 1] | 9 => [0, 1] | 11 => [0, 1] | 12 => [0, 1, 2] | 13 => [0, 1, 2] | 14 => [0, 1] | 16 => [0, 1] | 17 => [0, 1] | 18 => [0, 1] | 19 => [0, 1, 8] | 20 => [0, 1] | 21 => [1] | 1000000 => [0, 0, 1] | 1000001 => [0, 6] | 2000002 => [0, 0, 1, 2] | _ => []
def g58 : Nat → List Nat | 0 => [0, 1] | 1 => [1, 2, 4] | 2 => [1, 2, 4] | 3 => [1, 2, 4] | 4 => [1, 2, 4, 5] | 5 => [1, 2, 4, 5, 6] | 6 => [2, 4, 5, 6] | 7 => [2, 4, 5, 6] | 8 => [1, 2, 4, 5, 6] | 9 => [2, 4, 5, 6, 7] | 10 => [2, 4, 5, 7] | 11 => [2, 4, 5, 7, 6015003, 6015004] | 12 => [2, 4, 5, 7] | 13 => [2, 4, 5, 7] | 14 => [2, 4, 5, 7] | 15 => [2, 4, 5, 7, 8, 9] | 16 => [2, 4, 5, 7, 8] | 17 => [2, 4, 5, 7] | 18 => [4, 7] | 1000000 => [0, 4] | 2000006 => [0, 1, 2, 4, 5, 6] | 2000010 => [0, 2, 4, 5, 7, 6015003, 6015004] | _ => []
def g59 : Nat → List Nat | 0 => [0] | 1 => [0, 2] | 2 => [0, 2] | 3 => [0, 2] | 4 => [0, 2, 3] | 5 => [0, 2, 3, 4] | 6 => [0, 2, 3, 4] | 7 => [0, 2, 3, 4] | 8 => [0, 2, 3, 4] | 9 => [0, 2, 3, 4] | 10 => [0, 2, 3, 4] | 11 => [0, 2, 3, 4] | 12 => [0, 2, 3, 4] | 13 => [0, 2, 3, 4] | 14 => [0, 2, 3, 4] | 15 => [0, 2, 3, 4] | 16 => [0, 2, 3, 4] | 17 => [0, 2, 3, 4] | 18 => [0, 2, 3, 4] | 19 => [0, 2, 3, 4] | 20 => [0, 2, 3, 4] | 21 => [0, 2, 3, 4] | 22 => [0, 2, 3, 4, 6024003, 6024004] | 23 => [0, 2, 3, 4] | 24 => [0, 2, 3, 4] | 25 => [0, 2, 3, 4, 5] | 26 => [0, 2, 3, 4, 5] | 27 => [2, 4] | 1000000 => [0, 0, 2, 3, 4, 6024003, 6024004, 6024005] | 1000001 => [0, 2, 4] | 2000002 => [0, 0, 2] | _ => []
def g60 : Nat → List Nat | 0 => [0] | 1 => [1] | 3 => [1] | _ => []
def g61 : Nat → List Nat | 0 => [0, 1, 2] | 1 => [0, 2, 4] | 2 => [0, 2, 4] | 3 => [0] | _ => []
def g62 : Nat → List Nat | 0 => [0, 1] | 1 => [0, 3] | 2 => [0, 3] | 3 => [0, 3] | 4 => [0, 3] | 5 => [0] | 6 => [0, 3] | 2000003 => [0] | _ => []
def g63 : Nat → List Nat | 0 => [0, 1] | 1 => [0, 3] | 2 => [0] | 3 => [0, 3, 7] | 4 => [0, 3] | 5 => [0, 3, 4, 5] | 6 => [0, 3, 4] | 7 => [0, 4] | 8 => [0, 3, 7] | 9 => [0, 3] | 10 => [0, 3] | 11 => [0, 3, 7] | 12 => [0, 3] | 13 => [0] | 14 => [0, 3, 7] | 15 => [0, 3] | 16 => [0] | 17 => [0, 3, 7] | 18 => [0, 3] | 19 => [0, 3] | 20 => [0, 3] | 21 => [0, 3] | 22 => [0] | 23 => [0, 3, 7] | 24 => [0, 3, 7] | 25 => [0, 3] | 26 => [0, 3] | 27 => [0] | 2000024 => [0, 0, 3, 99] | _ => []
def g64 : Nat → List Nat | 0 => [0, 1] | 1 => [0, 3] | 2 => [0, 3] | 3 => [0, 3] | 4 => [0] | 5 => [0, 3] | _ => []
def g68 : Nat → List Nat | 0 => [0, 1] | 1 => [2, 3] | 2 => [2, 3, 5] | 3 => [2, 3, 5, 6] | 4 => [6] | 5 => [2, 3, 5] | 6 => [2, 3, 5, 7] | 7 => [7] | 8 => [2, 3, 5] | 9 => [2, 3, 8] | 10 => [8] | 11 => [2, 3] | _ => []
def g71 : Nat → List Nat | 0 => [0, 1] | 1 => [0, 1] | _ => []
def g72 : Nat → List Nat | 0 => [0, 1, 2] | 1 => [0, 1, 2] | _ => []
def g73 : Nat → List Nat | 0 => [0, 1] | 1 => [0, 1] | 2 => [0, 1] | _ => []
def g74 : Nat → List Nat | 0 => [0] | 1 => [0] | 2 => [0, 3, 4] | _ => []
def g75 : Nat → List Nat | 0 => [0] | 1 => [0, 2] | 2 => [0, 2, 3] | 3 => [0, 2, 3, 4] | 4 => [0, 2, 3, 4] | 5 => [0, 2, 3, 4, 5] | 6 => [0, 2, 3, 4, 5] | 7 => [0, 2, 3, 4, 5] | 8 => [0, 2, 3, 4, 5] | 9 => [0, 2, 3, 4] | 10 => [2, 3, 4] | 11 => [2, 3, 4] | 12 => [2, 3, 4] | 13 => [2, 3] | 1000000 => [0, 2, 3, 4] | 1000002 => [0, 0, 2, 3, 4, 5] | 2000012 => [0, 2, 3] | _ => []
def g76 : Nat → List Nat | 0 => [0] | 1 => [0, 2] | 2 => [0, 2, 3] | 3 => [0, 2, 3, 4] | 4 => [0, 2, 3, 4] | 5 => [0, 2, 3] | 6 => [2, 3] | 7 => [0, 2, 3, 4] | 8 => [0, 2, 3, 4, 5, 6] | 9 => [0, 2, 3] | 10 => [2, 3] | 11 => [0, 2, 3, 4, 5, 6] | 12 => [0, 2, 3, 4] | 13 => [2, 3, 4] | 14 => [2, 3] | 15 => [0, 2, 3, 4, 5, 6] | 16 => [0, 2, 3, 4, 5] | 17 => [0, 2, 3, 4, 5, 6] | 18 => [0, 2, 3] | 19 => [2, 3] | 20 => [0, 2, 3, 4, 5, 6] | 1000000 => [0, 2] | 1000002 => [0, 0, 2, 3, 4, 5, 6] | _ => []
def g77 : Nat → List Nat | 0 => [0] | 1 => [0] | _ => []
def g78 : Nat → List Nat | 0 => [0] | 1 => [0, 2] | 2 => [0, 2, 3] | 3 => [0, 2, 3] | 4 => [0, 2, 3] | 5 => [0, 2, 3, 4] | 6 => [0, 2, 3, 4] | 7 => [0, 2, 3, 4] | 8 => [2, 4] | 1000000 => [0, 0, 2, 3] | 2000006 => [0, 0, 2, 3, 4] | _ => []
def g80 : Nat → List Nat | 0 => [0] | 1 => [0] | 2 => [0] | 3 => [0] | 4 => [0] | 5 => [0] | 6 => [0] | 8 => [0] | 9 => [0] | 10 => [0] | _ => []
def g81 : Nat → List Nat | 0 => [0] | 1 => [0] | _ => []
def g82 : Nat → List Nat | 0 => [0, 1] | 1 => [0, 1] | 2 => [0, 1] | 3 => [0, 1] | 4 => [0, 1] | 5 => [0, 1] | 6 => [0, 1] | 7 => [0, 1] | 999999 => [1] | _ => []
def g86 : Nat → List Nat | 0 => [0] | 1 => [0, 2] | _ => []
def g87 : Nat → List Nat | 0 => [0] | 1 => [0, 2] | 2 => [0, 2, 3] | 3 => [2, 3, 10, 11, 12] | 4 => [2, 3, 10, 11, 12] | 5 => [2, 3, 5, 10, 11, 12] | 6 => [2, 3, 10, 11, 12] | 7 => [2, 3] | 1000000 => [0, 2, 3] | _ => []
def g88 : Nat → List Nat | 0 => [0] | 1 => [0, 2] | 2 => [0, 2, 3] | 3 => [0, 2, 3] | 4 => [0, 2, 3] | 5 => [2, 3, 14, 15, 16] | 6 => [2, 3, 14, 15, 16] | 7 => [2, 3, 5, 14, 15, 16] | 8 => [2, 3, 14, 15, 16] | 9 => [2, 3] | 1000000 => [0, 2, 3] | 2000003 => [0, 0, 2, 3, 6001000] | _ => []
def g90 : Nat → List Nat | 0 => [0, 1, 2, 3] | 1 => [0, 1, 2, 3] | _ => []
def g91 : Nat → List Nat | 0 => [0, 1, 2] | 1 => [0, 1, 2] | _ => []
def g92 : Nat → List Nat | 0 => [0, 1] | 1 => [0, 1] | 2 => [0, 1, 5] | 3 => [0, 5, 6] | 4 => [0, 5, 6] | 5 => [0, 5, 6] | 6 => [0, 5, 6, 24] | 7 => [0, 5, 6] | 8 => [0, 5, 6, 24] | 9 => [0, 5, 6] | 10 => [0, 5, 6] | 11 => [6] | 1000000 => [0] | 1000001 => [0, 0, 5, 6] | _ => []
def g93 : Nat → List Nat | 0 => [0, 1, 2] | 1 => [0, 1, 2] | 2 => [0, 1, 2, 7] | 3 => [0, 1, 2, 7] | 4 => [0, 1, 2, 7] | 5 => [0, 1, 2, 7] | 7 => [0, 1, 2, 7] | 8 => [0, 1, 7] | 9 => [1] | 1000000 => [0, 0, 1, 7] | _ => []
def g94 : Nat → List Nat | 0 => [0, 1] | 1 => [0, 1] | 3 => [0, 1] | _ => []
def g95 : Nat → List Nat | 0 => [0] | _ => []
def g96 : Nat → List Nat | 0 => [0, 1] | 1 => [0, 1, 4] | 2 => [0, 1, 4, 5] | 3 => [0, 4] | 4 => [0, 1, 4, 5] | 5 => [0, 1, 4, 5] | 6 => [0, 1, 4, 5] | 7 => [0, 1, 4, 5, 6] | 8 => [0, 1, 4, 5, 6] | 9 => [0, 4, 5, 6] | 10 => [4, 5, 6] | 11 => [4, 5, 6, 59] | 12 => [4, 6] | 13 => [4, 5, 6, 59] | 14 => [4, 5, 6] | 15 => [4, 5, 6] | 16 => [0, 4, 5] | 17 => [0, 4, 7] | 18 => [4, 7] | 1000001 => [0, 0, 4, 5, 6] | _ => []
def g97 : Nat → List Nat | 0 => [0, 1, 2] | 1 => [0] | 2 => [0] | 2000001 => [0, 0] | _ => []
def g98 : Nat → List Nat | 0 => [0, 1] | 1 => [0, 6, 7, 8] | 2 => [0, 6, 7, 8] | 3 => [0, 5, 6, 7, 8] | 4 => [0, 5, 6, 7, 8] | 5 => [0, 5, 6, 7, 8] | 6 => [0, 6, 7, 8] | 1000000 => [0] | 2000004 => [0, 0, 5, 6, 7, 8] | _ => []
def g99 : Nat → List Nat | 0 => [0, 1] | 1 => [0, 1] | 2 => [0, 1] | 3 => [0] | _ => []
def g100 : Nat → List Nat | 0 => [0, 1] | 1 => [0, 3] | 2 => [0, 3, 4] | 3 => [0, 3] | 4 => [0] | 5 => [0, 3, 18] | 6 => [0, 3] | 7 => [0, 3, 18] | 8 => [0, 3, 18] | 9 => [0, 3] | 10 => [0, 3, 18] | 11 => [0, 3] | 12 => [0, 3] | 13 => [0, 3, 18] | 14 => [0, 3] | 15 => [0, 3] | 16 => [0, 3] | 17 => [0, 3, 18] | 18 => [0, 3] | 19 => [0, 3] | 20 => [0, 3, 18] | 21 => [0, 3, 18] | 22 => [0, 3] | 23 => [0, 3] | 24 => [0, 107, 108, 109] | 25 => [0, 107, 108, 109] | 26 => [0, 6, 107, 108, 109] | 27 => [0, 107, 108, 109] | 28 => [0] | 1000001 => [0, 0] | 2000008 => [0, 0, 3, 18, 29] | 2000021 => [0, 0, 3, 100] | _ => []
def g101 : Nat → List Nat | 0 => [0, 1] | _ => []
def g102 : Nat → List Nat | 0 => [0, 1] | 1 => [2, 3] | 3 => [2, 3] | 4 => [2, 3, 6] | 5 => [2, 3, 6] | 6 => [3, 6, 29, 30, 31] | 7 => [3, 6, 29, 30, 31] | 8 => [3, 6, 8, 29, 30, 31] | 9 => [3, 6, 29, 30, 31] | 10 => [6] | 11 => [2, 3, 6] | 12 => [3, 6, 47, 48, 49] | 13 => [3, 6, 47, 48, 49] | 14 => [3, 6, 10, 47, 48, 49] | 15 => [3, 6, 11, 47, 48, 49] | 16 => [3, 6, 47, 48, 49] | 17 => [3, 6] | 1000000 => [0, 6] | 1000002 => [0, 3, 6] | _ => []
def g105 : Nat → List Nat | 0 => [0, 1] | 1 => [0, 1] | 2 => [1, 7, 8] | 3 => [1, 7, 8] | 4 => [1, 5, 7, 8] | 5 => [1, 6, 7, 8] | 6 => [6] | 7 => [1, 7, 8] | 1000000 => [0] | _ => []
def g106 : Nat → List Nat | 0 => [0, 1] | 1 => [0, 1] | 3 => [0, 1] | _ => []
def g107 : Nat → List Nat | 0 => [0, 1, 2] | 1 => [0, 1, 2] | _ => []
def g108 : Nat → List Nat | 0 => [0, 1, 2] | 1 => [0, 1, 2] | _ => []
def g109 : Nat → List Nat | 0 => [0, 1] | 1 => [2, 3] | 2 => [2, 3, 5] | 3 => [5] | 4 => [2, 3] | 5 => [2, 3, 6] | 6 => [2, 3, 6] | 7 => [2, 3] | 8 => [6] | 9 => [2, 3] | _ => []
def g110 : Nat → List Nat | 0 => [0, 1] | 1 => [0, 1] | _ => []
def g111 : Nat → List Nat | 0 => [0] | 1 => [0] | _ => []
def g112 : Nat → List Nat | 0 => [0] | 1 => [0] | 2 => [0, 3] | 3 => [0, 3, 4, 5] | 4 => [0, 3, 4, 5] | 5 => [0, 3, 4, 5] | 6 => [0, 3, 4, 5, 6, 7] | 7 => [0, 3, 4, 5, 6, 7, 8] | 8 => [0, 3, 4, 5, 6, 7, 8] | 9 => [0, 3, 4, 5, 6, 7, 8, 9] | 10 => [0, 3, 4, 5, 6, 7, 8, 9] | 11 => [0, 3, 5, 6, 7, 8] | 12 => [0, 3, 5, 6, 7] | 13 => [0, 3] | 15 => [5, 6] | 16 => [6] | 17 => [6] | 1000000 => [0, 0, 3, 5, 6, 7, 8] | 1000002 => [0, 6] | 2000004 => [0, 0, 3, 4, 5] | _ => []
def g116 : Nat → List Nat | 0 => [0, 1] | 1 => [0, 1] | _ => []
def g117 : Nat → List Nat | 0 => [0] | 1 => [0, 2] | 2 => [0, 2, 3] | 3 => [0, 2, 3, 4] | 4 => [0, 2, 3, 4] | 5 => [0, 2, 3, 4] | 6 => [0, 2, 3, 4, 5] | 7 => [0, 2, 3, 4, 5] | 8 => [0, 2, 3, 4, 5] | 9 => [0, 2, 3, 4, 5, 6, 7] | 10 => [2, 4, 5] | 11 => [0, 2, 3, 4, 5, 6, 7] | 12 => [0, 2, 3, 4, 5] | 13 => [2, 4, 5] | 1000000 => [0, 2, 4, 5] | _ => []
def g118 : Nat → List Nat | 0 => [0] | 1 => [0] | 2 => [0, 3] | 3 => [0] | 4 => [0, 3] | 2000003 => [0, 0, 3] | _ => []
def g119 : Nat → List Nat | 0 => [0, 1] | 1 => [0, 3] | 2 => [0, 3, 4] | 3 => [0, 3, 4] | 4 => [0, 3, 4] | 5 => [0, 3, 4] | 6 => [0, 3, 4] | 7 => [0, 4] | 8 => [0, 4] | 2000004 => [0, 0, 3, 4] | _ => []
def g120 : Nat → List Nat | 0 => [0, 1] | 1 => [0, 3] | 2 => [0, 3] | 3 => [0, 3] | 4 => [0] | 5 => [0, 3, 5] | 6 => [0, 3, 5] | 7 => [0, 3, 5] | 8 => [0, 3, 5] | 9 => [0, 3, 5] | 10 => [0, 3] | 2000006 => [0, 0, 3, 15] | _ => []
def g121 : Nat → List Nat | 0 => [0] | 1 => [1] | 3 => [1] | 4 => [1, 27, 28, 29] | 5 => [1, 27, 28, 29] | 6 => [1, 4, 27, 28, 29] | 8 => [1, 27, 28, 29] | 1000000 => [0] | 1000001 => [0, 1, 27, 28, 29] | _ => []
def g122 : Nat → List Nat | 0 => [0] | 1 => [0] | 2 => [0, 4] | 3 => [4, 7, 8, 9, 5000004] | 4 => [4, 7, 8, 9] | 5 => [4, 6, 7, 8, 9] | 7 => [4, 6, 7, 8, 9] | 8 => [4, 7, 8, 9] | 9 => [4] | 1000000 => [0, 4] | _ => []
def g123 : Nat → List Nat | 0 => [0, 1] | 1 => [0, 3] | 3 => [0, 3] | 4 => [0] | 5 => [0] | 1000000 => [0, 0] | _ => []
def g126 : Nat → List Nat | 0 => [0, 1] | 1 => [0, 1] | 3 => [0, 1] | _ => []
def g127 : Nat → List Nat | 0 => [0, 1] | 1 => [0, 1] | 2 => [0] | 3 => [0, 1] | _ => []
def g134 : Nat → List Nat | 0 => [0, 1] | 1 => [0, 1] | 2 => [0, 1, 7, 8] | 3 => [0, 1, 7, 8] | 4 => [0, 1, 5, 7, 8] | 5 => [5] | 6 => [0, 1, 7, 8] | 1000000 => [0] | _ => []
def g135 : Nat → List Nat | 0 => [0, 1] | 1 => [2, 3] | 3 => [2, 3] | _ => []
def g136 : Nat → List Nat | 0 => [0] | 1 => [1, 2] | 2 => [1, 2] | 3 => [1, 2] | 4 => [1, 2] | 5 => [1, 2] | 6 => [1, 2, 3] | 7 => [1, 2, 3] | 8 => [1, 2, 22, 23, 24] | 9 => [1, 2, 22, 23, 24] | 10 => [1, 2, 5, 22, 23, 24] | 11 => [1, 2, 22, 23, 24] | 12 => [1, 2] | 1000000 => [0, 1, 2] | 2000002 => [0, 1, 2] | _ => []
def g137 : Nat → List Nat | 0 => [0] | 1 => [1] | _ => []
def g142 : Nat → List Nat | 0 => [0, 1] | 1 => [0, 1] | _ => []
def g143 : Nat → List Nat | 0 => [0, 1] | 1 => [1, 2] | _ => []
def g144 : Nat → List Nat | 0 => [0, 1] | 1 => [1, 2] | 2 => [1, 2, 5, 6] | 3 => [6] | 4 => [1, 2, 5] | 6 => [1, 2] | 7 => [1, 2, 27, 28, 29] | 8 => [1, 2, 27, 28, 29] | 9 => [1, 2, 8, 27, 28, 29] | 11 => [1, 2, 27, 28, 29] | 12 => [1, 2] | 13 => [1, 37, 38, 39] | 14 => [1, 37, 38, 39] | 15 => [1, 10, 37, 38, 39] | 16 => [1, 10, 37, 38, 39] | 18 => [1, 10, 37, 38, 39] | 19 => [1, 11, 37, 38, 39] | 20 => [11] | 21 => [1, 10, 37, 38, 39] | 23 => [1, 37, 38, 39] | 1000000 => [0, 1, 2] | 1000002 => [0] | 1000003 => [0, 1, 37, 38, 39] | _ => []
def g146 : Nat → List Nat | 0 => [0, 1] | 1 => [0, 1] | 2 => [0, 1, 7, 8] | 3 => [0, 1, 7, 8] | 4 => [0, 1, 5, 7, 8] | 5 => [5] | 6 => [0, 1, 7, 8] | 1000000 => [0] | _ => []
def g147 : Nat → List Nat | 0 => [0] | 1 => [0] | 3 => [0] | 4 => [0, 4, 5] | 5 => [0, 4, 5, 13, 14, 15] | 6 => [0, 4, 5, 13, 14, 15] | 7 => [0, 4, 5, 7, 13, 14, 15] | 9 => [0, 4, 5, 7, 13, 14, 15] | 10 => [0, 4, 5, 13, 14, 15] | 11 => [0, 4, 5] | 13 => [0, 4] | 14 => [4, 28, 29, 30] | 15 => [4, 28, 29, 30] | 16 => [4, 9, 28, 29, 30] | 18 => [4, 9, 28, 29, 30] | 19 => [4, 28, 29, 30] | 20 => [4] | 1000000 => [0, 0, 4, 5] | 1000001 => [0, 0, 4, 5, 13, 14, 15] | 1000002 => [0, 4] | _ => []
def g148 : Nat → List Nat | 0 => [0] | 1 => [0] | _ => []
def H0 : Nat → Nat → List Nat
  | 13 => g13
  | 14 => g14
  | 15 => g15
  | 20 => g20
  | 21 => g21
  | 22 => g22
  | 24 => g24
  | 26 => g26
  | 27 => g27
  | 32 => g32
  | 33 => g33
  | 34 => g34
  | 35 => g35
  | 37 => g37
  | 39 => g39
  | 40 => g40
  | 41 => g41
  | 42 => g42
  | 43 => g43
  | 44 => g44
  | 45 => g45
  | 54 => g54
  | 55 => g55
  | 56 => g56
  | 57 => g57
  | 58 => g58
  | 59 => g59
  | 60 => g60
  | 61 => g61
  | 62 => g62
  | 63 => g63
  | 64 => g64
  | 68 => g68
  | 71 => g71
  | 72 => g72
  | 73 => g73
  | 74 => g74
  | 75 => g75
  | 76 => g76
  | 77 => g77
  | 78 => g78
  | 80 => g80
  | 81 => g81
  | 82 => g82
  | 86 => g86
  | 87 => g87
  | 88 => g88
  | 90 => g90
  | 91 => g91
  | 92 => g92
  | 93 => g93
  | 94 => g94
  | 95 => g95
  | 96 => g96
  | 97 => g97
  | 98 => g98
  | 99 => g99
  | 100 => g100
  | 101 => g101
  | 102 => g102
  | 105 => g105
  | 106 => g106
  | 107 => g107
  | 108 => g108
  | 109 => g109
  | 110 => g110
  | 111 => g111
  | 112 => g112
  | 116 => g116
  | 117 => g117
  | 118 => g118
  | 119 => g119
  | 120 => g120
  | 121 => g121
  | 122 => g122
  | 123 => g123
  | 126 => g126
  | 127 => g127
  | 134 => g134
  | 135 => g135
  | 136 => g136
  | 137 => g137
  | 142 => g142
  | 143 => g143
  | 144 => g144
  | 146 => g146
  | 147 => g147
  | 148 => g148
  | n => H n
noncomputable abbrev P := Go.Proofs.Tryz.prog
def go_works : Option Bool := some true
def worksCall : Call := fun _ args lh => match args, lh with
  | [], [] => some (.ret (.d (.bool true)) [])
  | _, _ => none
def E0 : Nat → Option Call := fun f => if f = 36 then some joinCall else if f = 83 then some indexByteCall else if f = 89 then some containsAnyCall else if f = 79 then some Fx.fixedCall else none
def E : Nat → Option Call := fun f => if f = 13 then some worksCall else E0 f
noncomputable abbrev X : Ctx := ⟨P, E, H⟩
theorem go_works_ok {r : Bool} (h : go_works = some r) : aval X 13 [] [] (.ret (.d (.bool r)) []) :=
  aval_ext (g := worksCall) (args' := []) rfl rfl (by cases h; rfl)
theorem I {α : Sort _} {a : α} : a = a := rfl
abbrev iZ (n : Int) : D := .int .i64 n
abbrev lI (l : List Int) : D := .list 1 (List.map (D.int .i64) l)
abbrev oI (l : List Int) : C := .own 1 (List.map (D.int .i64) l)
abbrev lS (l : List Str) : D := .list 1 (List.map D.str l)
abbrev oS (l : List Str) : C := .own 1 (List.map D.str l)
abbrev lC (l : List Cell) : D := .list 3 (List.map encCell l)
abbrev oC (l : List Cell) : C := .own 3 (List.map encCell l)
abbrev lN (l : List Node) : D := .list 7 (List.map encNodeR l)
abbrev oN (l : List Node) : C := .own 7 (List.map encNodeR l)
abbrev lT (l : List Token) : D := .list 5 (List.map encToken l)
abbrev oT (l : List Token) : C := .own 5 (List.map encToken l)
abbrev B := @bind_inv
abbrev E_ := @ite_inv
abbrev S_ := @awp_seq
abbrev N_ := @seqQ.normal
abbrev P_ := @condQ.pan
abbrev C_ := @condQ.ret
abbrev R_ := @awp_ret
abbrev K_ := @awp_skip
abbrev W_ := @awp_block
abbrev Q_ := @seqQ.ret
abbrev U_ := @seqQ.pan
abbrev O_ := @awpO_nil
abbrev X_ := @awp_exit
end Go.AM.Seat
namespace Go.AM.Seat
open Go Go.AM Go.Proofs
set_option maxRecDepth 100000
set_option maxHeartbeats 4000000
set_option linter.unusedVariables false
def p_apl_Grammar  : Option (Grammar) :=
  some (Grammar.mk [[43], [45], [195, 151], [124], [126], [226, 141, 179], [226, 141, 180], [226, 137, 162], [44], [226, 138, 150], [226, 140, 189], [226, 141, 137], [226, 141, 139], [226, 141, 146], [226, 136, 170], [226, 138, 130], [226, 138, 131], [195, 183], [226, 140, 138], [226, 140, 136], [61], [226, 137, 160], [60], [62], [226, 137, 164], [226, 137, 165], [226, 134, 145], [226, 134, 147], [226, 141, 170], [226, 136, 138], [226, 140, 183]] [[47], [226, 140, 191], [92], [226, 141, 128], [226, 141, 168]] [[47], [226, 140, 191]] [226, 136, 152, 46] [226, 141, 163] [123] [125] [226, 141, 186] [226, 141, 181] [194, 175] [39] false false true)
def p_triglyphref15_APL  : Option (Grammar) :=
  some (Grammar.mk [[43], [45], [195, 151], [124], [126], [226, 141, 179], [226, 141, 180], [226, 137, 162], [44], [226, 138, 150], [226, 140, 189], [226, 141, 137], [226, 141, 139], [226, 141, 146], [226, 136, 170], [226, 138, 130], [226, 138, 131], [195, 183], [226, 140, 138], [226, 140, 136], [61], [226, 137, 160], [60], [62], [226, 137, 164], [226, 137, 165], [226, 134, 145], [226, 134, 147], [226, 141, 170], [226, 136, 138], [226, 140, 183]] [[47], [226, 140, 191], [92], [226, 141, 128], [226, 141, 168]] [[47], [226, 140, 191]] [226, 136, 152, 46] [226, 141, 163] [123] [125] [226, 141, 186] [226, 141, 181] [194, 175] [39] false false true)
def p_triglyphlaw17_AplWords_l0 (a : Grammar × Grammar × Int × Bool × Int) : Option (Bool) := match a with
  | (x, x1, q, found, j) =>
    if (decide (j < (List.length x.verbs : Int))) then
      (
        if found then
          some true
        else
          lget x.verbs j >>= fun y =>
          lget x1.verbs (w64 q) >>= fun y1 =>
          some (y == y1)
      : Option (Bool)) >>= fun found1 =>
      p_triglyphlaw17_AplWords_l0 (x, x1, q, found1, (w64 (j + 1)))
    else
      some found
 partial_fixpoint
def p_triglyphlaw17_AplWords_l1 (a : Grammar × Grammar × Bool × Int) : Option (Bool) := match a with
  | (x, x1, found3, j1) =>
    if (decide (j1 < (List.length x1.adverbs : Int))) then
      (
        if found3 then
          lget x.adverbs j1 >>= fun y2 =>
          lget x1.adverbs j1 >>= fun y3 =>
          some (y2 == y3)
        else
          some false
      : Option (Bool)) >>= fun found4 =>
      p_triglyphlaw17_AplWords_l1 (x, x1, found4, (w64 (j1 + 1)))
    else
      some found3
 partial_fixpoint
def p_triglyphlaw17_AplWords_l2 (a : Grammar × Grammar × Bool × Int) : Option (Bool) := match a with
  | (x, x1, found6, j2) =>
    if (decide (j2 < (List.length x1.behind : Int))) then
      (
        if found6 then
          lget x.behind j2 >>= fun y4 =>
          lget x1.behind j2 >>= fun y5 =>
          some (y4 == y5)
        else
          some false
      : Option (Bool)) >>= fun found7 =>
      p_triglyphlaw17_AplWords_l2 (x, x1, found7, (w64 (j2 + 1)))
    else
      some found6
 partial_fixpoint
def p_triglyphlaw17_AplWords (i : Int) : Option (Bool) :=
  p_apl_Grammar >>= fun x =>
  p_triglyphref15_APL >>= fun x1 =>
  irem (IntKind.u64.wrap i) (IntKind.u64.wrap (List.length x1.verbs : Int)) >>= fun q =>
  if ((List.length x.verbs : Int) == (List.length x1.verbs : Int)) then
    if ((List.length x.adverbs : Int) == (List.length x1.adverbs : Int)) then
      if (!((List.length x.behind : Int) == (List.length x1.behind : Int))) then
        some false
      else
        (
          p_triglyphlaw17_AplWords_l0 (x, x1, q, false, 0)
        : Option (Bool)) >>= fun found2 =>
        (
          p_triglyphlaw17_AplWords_l1 (x, x1, found2, 0)
        : Option (Bool)) >>= fun found5 =>
        (
          p_triglyphlaw17_AplWords_l2 (x, x1, found5, 0)
        : Option (Bool)) >>= fun found8 =>
        if found8 then
          if (x.outer == x1.outer) then
            if (x.power == x1.power) then
              if (x.open_ == x1.open_) then
                if (x.close == x1.close) then
                  if (x.left == x1.left) then
                    if (x.right == x1.right) then
                      if (x.minus == x1.minus) then
                        if (x.quote == x1.quote) then
                          if (x.trains == x1.trains) then
                            if (x.lone == x1.lone) then
                              if (x.square == x1.square) then
                                go_works >>= fun x2 =>
                                some x2
                              else
                                some false
                            else
                              some false
                          else
                            some false
                        else
                          some false
                      else
                        some false
                    else
                      some false
                  else
                    some false
                else
                  some false
              else
                some false
            else
              some false
          else
            some false
        else
          some false
    else
      some false
  else
    some false
end Go.AM.Seat

namespace Go.AM
open Go
variable [Globs]
def wpN (X : Ctx) (sz : Nat) (c : Code) (Q : AX → St → Prop) (s : St) : Prop :=
 (∀ k, CallsOK X.P (X.call k)) → ProgOK X.P → ∀ (K : Col) (μ : Nat → Nat) (w : World) (a : Act) (Qm : Exit → Act → World → Prop),
  Sim K μ s a w → a.tmps.size = sz → (∀ x s', Q x s' → Goal K μ w s.nid sz x s' Qm) → c.wp X.P Qm a w
inductive seqN (X : Ctx) (sz : Nat) (b : Code) (Q : AX → St → Prop) : AX → St → Prop where
 | normal {s : St} : wpN X sz b Q s → seqN X sz b Q .normal s
 | exit {id : Nat} {s : St} : Q (.exit id) s → seqN X sz b Q (.exit id) s
 | ret {s : St} : Q .ret s → seqN X sz b Q .ret s
 | pan {d : D} {s : St} : Q (.pan d) s → seqN X sz b Q (.pan d) s
section
variable {X : Ctx} {f sz : Nat} {Q : AX → St → Prop} {s : St}
theorem wpN_of {c : Code} (h : awp X f c Q s) (hd : dstsBelow sz c = true) : wpN X sz c Q s := by
 intro hc hP K μ w a Qm hs hsz hg
 obtain ⟨x, s', ⟨k0, hk⟩, hq⟩ := h.ex
 exact aexec_sound (hc k0) hP c hd (hk k0 (Nat.le_refl _)) hs hsz (hg x s' hq)
theorem wpN_seq' {b c : Code} (h : wpN X sz c (seqN X sz b Q) s) : wpN X sz (.seq c b) Q s := by
 intro hc hP K μ w a Qm hs hsz hg
 refine wp_seq (h hc hP K μ w a _ hs hsz ?_)
 intro x s' hq e K' μ' a' w' ho ha hn hs' hsz'
 cases hq with
 | normal hb =>
  simp only [Out] at ho; subst ho
  exact hb hc hP K' μ' w' a' Qm hs' hsz' fun x s'' hq' => (hg x s'' hq').later ha hn
 | exit hq => simp only [Out] at ho; subst ho; exact hg _ _ hq _ K' μ' a' w' rfl ha hn hs' hsz'
 | ret hq => simp only [Out] at ho; subst ho; exact hg _ _ hq _ K' μ' a' w' rfl ha hn hs' hsz'
 | pan hq => obtain ⟨u, rfl, hu⟩ := ho; exact hg _ _ hq _ K' μ' a' w' ⟨u, rfl, hu⟩ ha hn hs' hsz'
theorem wpN_seq {b c : Code} (h : awp X f c (seqN X sz b Q) s) (hd : dstsBelow sz c = true) : wpN X sz (.seq c b) Q s :=
 wpN_seq' (wpN_of h hd)
theorem callOK_of_wpN (hX : ∀ k, CallsOK X.P (X.call k)) (hP : ProgOK X.P) {fn : Func} {code : Code} {args : List C} {lh : List (List C)} {r : CRes} (hf : X.P.funcs[f]? = some fn) (hb : fn.body = some code)
  (hl : args.length = fn.params.size + fn.nfree) (hnt : fn.params.size + fn.nfree ≤ fn.ntmps) (h : wpN X fn.ntmps code (atEnd X fn lh.length r) (enterSt args lh)) : CallOK X.P f args lh r := by
 intro K μ w vs hr hi hh hbk hgl
 have hvl : vs.length = args.length := hr.length.symm
 have hsim := sim_enter (n := fn.ntmps - vs.toArray.size) hr hi hh hbk hgl
 refine calls_of_wp_defers (R := fun e w' => EndOK K μ w lh.length r e w') hf hb (h hX hP K μ w _ _ hsim (by simp; omega) ?_)
 intro x s' hq e K' μ' a' w' ho ha hn hs' hsz
 obtain ⟨k0, hk⟩ := hq.ex
 exact finish_sound hP X.H (hX k0) k0 (hk k0 (Nat.le_refl _)) ho ha hn hs'
theorem aval_endN {fn : Func} {code : Code} {args : List C} {lh : List (List C)} {r : CRes} {tm : List (Nat × V)} {hp : List (Nat × List C)} {n : Nat}
  (ht : zipIdx' 0 (args.map fun c => V.c c.plain) = tm) (hh : zipIdx' 0 lh = hp) (hn : lh.length = n) (h : wpN X sz code (atEnd X fn n r) ⟨tm, hp, n, [], none⟩) : wpN X sz code (atEnd X fn lh.length r) (enterSt args lh) := by
 unfold enterSt; rw [ht, hh, hn]; exact h
end
section
variable {P : Program} {K K' : Col} {μ μ' : Nat → Nat} {w w' : World} {s : St} {a : Act}
theorem evOps_pre {call : Call} (hcall : CallsOK P call) (hP : ProgOK P) {ops : Array Oper} {sz : Nat} (hd : ∀ o ∈ ops.toList, ∀ t, o.dst = some t → t < sz) {s' : St} {fs' : List Foot}
  {Q : Exit → Act → World → Prop} (post : List Oper) : ∀ (l : List Oper) (i : Nat) (K : Col) (μ : Nat → Nat) (s : St) (a : Act) (w : World) (fs : List Foot), ops.toList.drop i = l ++ post → evOps P call ops l s fs = some (.normal, s', fs') →
   Sim K μ s a w → a.tmps.size = sz →
   (∀ K' μ' a' w', After K μ w s.nid K' μ' w' → s.nid ≤ s'.nid → Sim K' μ' s' a' w' → a'.tmps.size = sz → wpOps P ops Q (List.range' (i + l.length) post.length) a' w') →
   wpOps P ops Q (List.range' i (l.length + post.length)) a w
 | [], i, K, μ, s, a, w, fs, _, h, hs, hsz, hg => by
  simp only [evOps, Option.some.injEq, Prod.mk.injEq, true_and] at h
  obtain ⟨rfl, rfl⟩ := h
  simpa using hg K μ a w (After.refl _ _ _ _) (Nat.le_refl _) hs hsz
 | o :: l, i, K, μ, s, a, w, fs, hl, h, hs, hsz, hg => by
  have hoi : ops[i]? = some o := by
   have : (ops.toList.drop i)[0]? = some o := by rw [hl]; rfl
   rw [get_drop] at this
   simpa using this
  have hl' : ops.toList.drop (i + 1) = l ++ post := by
   rw [← List.drop_drop, hl]; rfl
  have hom : o ∈ ops.toList := by
   have : o ∈ ops.toList.drop i := by rw [hl]; simp
   exact List.mem_of_mem_drop this
  have hdo : ∀ t, o.dst = some t → t < a.tmps.size := by rw [hsz]; exact hd o hom
  rw [List.length_cons, show l.length + 1 + post.length = (l.length + post.length) + 1 from by omega, List.range'_succ]
  simp only [wpOps, hoi]
  simp only [evOps] at h
  split at h
  ·simp at h
  ·rename_i hw
   rw [wanted_eq hs hw]
   simp only [Bool.false_eq_true, if_false]
   have hs' := hs.put (dst := o.dst) (V := .c .undef) (v := Go.undef) hdo good_undef
   have hn : (putDst o (.c .undef) s).nid = s.nid := by unfold putDst putSt; cases o.dst <;> rfl
   refine evOps_pre hcall hP hd post l (i + 1) K μ _ _ w _ hl' h hs' (by rw [put_size]; exact hsz) ?_
   intro K' μ' a' w' hA h3 hs2 hsz2
   rw [hn] at hA h3
   have := hg K' μ' a' w' hA h3 hs2 hsz2
   rw [List.length_cons, show i + (l.length + 1) = i + 1 + l.length from by omega] at this
   exact this
  ·rename_i hw
   rw [wanted_eq hs hw]
   simp only [if_true]
   split at h
   ·simp at h
   ·simp at h
   ·rename_i v s1 f hop
    refine .inl (op_sound hcall hP hs hop hdo ⟨?_, by simp⟩)
    intro V s'' K' μ' a' w' e haf hn hs' hsz'
    simp only [ORes.val.injEq] at e
    obtain ⟨rfl, rfl⟩ := e
    have hn' : (putDst o v s1).nid = s1.nid := by unfold putDst putSt; cases o.dst <;> rfl
    refine evOps_pre hcall hP hd post l (i + 1) K' μ' _ a' w' _ hl' h hs' (by rw [hsz', hsz]) ?_
    intro K2 μ2 a2 w2 hA h3 hs2 hsz2
    rw [hn'] at hA h3
    have := hg K2 μ2 a2 w2 (haf.trans hA hn) (by omega) hs2 hsz2
    rw [List.length_cons, show i + (l.length + 1) = i + 1 + l.length from by omega] at this
    exact this
theorem look_dropB {b b' : Nat} : ∀ {hp : List (Nat × List C)}, look b' (hp.filter fun p => p.1 != b) = if b' = b then none else look b' hp
 | [] => by simp [look]
 | (j, c) :: r => by
  have ih := look_dropB (b := b) (b' := b') (hp := r)
  by_cases hj : j = b
  ·subst hj
   simp only [List.filter_cons, bne_self_eq_false, Bool.false_eq_true, if_false, ih, look]
   by_cases h : b' = j
   ·simp [h]
   ·rw [if_neg h, if_neg h, if_neg (Ne.symm h)]
  ·have : (j != b) = true := by simp [hj]
   simp only [List.filter_cons, this, if_true, look, ih]
   by_cases h : j = b'
   ·subst h; simp [hj]
   ·simp [h]
def colGone (K : Col) (b : Nat) : Col := fun g o => if K g o = .blk b then .other else K g o
theorem step_gone {b : Nat} {w : World} : Step (fun t => t = .blk b) K w (colGone K b) w :=
 ⟨rfl, rfl, rfl, Nat.le_refl _, fun _ _ _ => rfl, fun g o _ hn => ⟨rfl, rfl, by simp only [colGone]; rw [if_neg hn]⟩⟩
theorem Sim.gone (h : Sim K μ s a w) (b : Nat) : Sim (colGone K b) μ { s with heap := s.heap.filter fun p => p.1 != b } a w := by
 have h1 : Sim K μ { s with heap := s.heap.filter fun p => p.1 != b } a w := by
  refine ⟨h.tm, h.tids, h.own, ?_, ?_, h.bound, h.defs, h.dids, h.glob⟩
  ·intro t l sz xs ht
   have hv := h.view t l sz xs ht
   cases l with
   | tmp u => exact hv
   | cell b' off =>
    intro cells z ys hb hc
    rw [look_dropB] at hb
    split at hb
    ·simp at hb
    ·exact hv cells z ys hb hc
  ·intro b' cells hb
   rw [look_dropB] at hb
   split at hb
   ·simp at hb
   ·exact h.heap b' cells hb
 refine h1.step step_gone (by simp) ?_ (by simp) ?_
 ·intro b' cells hb e
  simp only [Tag.blk.injEq] at e
  subst e
  rw [look_dropB, if_pos rfl] at hb
  simp at hb
 ·intro g o hl
  simp only [colGone, h.bound g o hl]
  simp
end
end Go.AM

namespace Go.AM
open Go
open Go.ChangeMaps (setBlock)
variable [Globs]
def kvM (kvs : List (D × D)) : List (D × MV) := kvs.map fun p => (p.1, .d p.2)
def EntRep (K : Col) (w : World) (kvs : List (D × D)) (es : List MapEntry) : Prop :=
 kvs.length = es.length ∧ ∀ (i : Nat) (k v : D), kvs[i]? = some (k, v) → ∃ e : MapEntry, es[i]? = some e ∧ Rep K w k e.key ∧ Rep K w v e.val
theorem entRep_of {K : Col} {μ : Nat → Nat} {w : World} : ∀ {kvs : List (D × D)} {es : List MapEntry}, MapRep K μ w (kvM kvs) es → EntRep K w kvs es
 | [], es, h => by
  simp only [kvM, List.map_nil, MapRep] at h
  subst h
  exact ⟨rfl, fun i k v h => by simp at h⟩
 | (k, v) :: r, es, h => by
  simp only [kvM, List.map_cons, MapRep] at h
  obtain ⟨e, es', rfl, h1, h2, h3⟩ := h
  obtain ⟨g1, g2⟩ := entRep_of h3
  refine ⟨by simp [g1], fun i k' v' hi => ?_⟩
  cases i with
  | zero =>
   simp only [List.getElem?_cons_zero, Option.some.injEq, Prod.mk.injEq] at hi
   obtain ⟨rfl, rfl⟩ := hi
   exact ⟨e, by simp, h1, by simpa [MV.toC, RepC] using h2⟩
  | succ i =>
   simp only [List.getElem?_cons_succ] at hi ⊢
   exact g2 i k' v' hi
theorem EntRep.step {W : Tag → Prop} {K K' : Col} {w w' : World} {kvs : List (D × D)} {es : List MapEntry} (h : EntRep K w kvs es) (hs : Step W K w K' w') (hro : ¬ W .ro) : EntRep K' w' kvs es :=
 ⟨h.1, fun i k v hi => by
  obtain ⟨e, h1, h2, h3⟩ := h.2 i k v hi
  exact ⟨e, h1, Rep.step hs hro _ _ h2, Rep.step hs hro _ _ h3⟩⟩
theorem step_block {K : Col} {w w' : World} {r : Nat} {o : Obj} (hw : w' = w ∨ w' = w.drew) (hK : ∀ off, K r off = .other) : Step (fun t => t = .other) K w K (setBlock w' r o) := by
 have hh : w'.heap = w.heap := by rcases hw with rfl | rfl <;> rfl
 have hne : ∀ b, b ≠ r → (setBlock w' r o).heap[b]? = w.heap[b]? := by
  intro b hb
  simp only [setBlock, hh]
  rw [Array.getElem?_setIfInBounds_ne (Ne.symm hb)]
 refine ⟨?_, ?_, ?_, ?_, fun b _ hn => ?_, fun b off _ hn => ?_⟩
 ·rcases hw with rfl | rfl <;> rfl
 ·rcases hw with rfl | rfl <;> rfl
 ·rcases hw with rfl | rfl <;> rfl
 ·simp [setBlock, hh]
 ·refine hne b ?_
  rintro rfl
  exact hn 0 (hK 0)
 ·have hb : b ≠ r := by
   rintro rfl
   exact hn (hK off)
  exact ⟨cell_of_block (hne b hb) off, frozen_of_block (hne b hb) off, rfl⟩
theorem after_block {K₀ K : Col} {μ₀ μ : Nat → Nat} {w₀ w w' : World} {n r : Nat} {o : Obj} (h : After K₀ μ₀ w₀ n K μ w) (hw : w' = w ∨ w' = w.drew) (hK : ∀ off, K r off = .other) (hr : w₀.heap.size ≤ r) : After K₀ μ₀ w₀ n K μ (setBlock w' r o) := by
 have hh : w'.heap = w.heap := by rcases hw with rfl | rfl <;> rfl
 have hne : ∀ b, b ≠ r → (setBlock w' r o).heap[b]? = w.heap[b]? := by
  intro b hb
  simp only [setBlock, hh]
  rw [Array.getElem?_setIfInBounds_ne (Ne.symm hb)]
 refine ⟨⟨?_, ?_, ?_, ?_, fun b hb hn => ?_, fun b off hb hn => ?_⟩, h.mu⟩
 ·rw [← h.step.os]; rcases hw with rfl | rfl <;> rfl
 ·rw [← h.step.tape]; rcases hw with rfl | rfl <;> rfl
 ·rw [← h.step.output]; rcases hw with rfl | rfl <;> rfl
 ·have := h.step.size
  simp [setBlock, hh]
  omega
 ·rw [hne b (by omega)]; exact h.step.block b hb hn
 ·have hb' : b ≠ r := by omega
  obtain ⟨g1, g2, g3⟩ := h.step.cell b off hb hn
  exact ⟨(cell_of_block (hne b hb') off).trans g1, (frozen_of_block (hne b hb') off).trans g2, g3⟩
section
variable {X : Ctx} {sz : Nat} {Q : AX → St → Prop}
def opsTo (X : Ctx) (ops : Array Oper) (l : List Oper) (s s' : St) : Prop := awpO X ops l (fun x t => x = .normal ∧ t = s') s
theorem opsTo.sound {ops : Array Oper} {l : List Oper} {s s' : St} (h : opsTo X ops l s s') (hc : ∀ k, CallsOK X.P (X.call k)) (hP : ProgOK X.P) {i : Nat} (hd : ∀ o ∈ ops.toList, ∀ t, o.dst = some t → t < sz) (hl : ops.toList.drop i = l)
  {K : Col} {μ : Nat → Nat} {a : Act} {w : World} {Qm : Exit → Act → World → Prop} (hs : Sim K μ s a w) (hsz : a.tmps.size = sz)
  (hg : ∀ K' μ' a' w', After K μ w s.nid K' μ' w' → s.nid ≤ s'.nid → Sim K' μ' s' a' w' → a'.tmps.size = sz → Qm .normal a' w') : wpOps X.P ops Qm (List.range' i l.length) a w := by
 obtain ⟨x, s1, ⟨k0, hk0⟩, rfl, rfl⟩ := h.ex
 obtain ⟨fs', hev⟩ := hk0 k0 (Nat.le_refl _) []
 refine evOps_sound (hc k0) hP hd l i K μ s a w [] hl hev hs hsz ?_
 intro e K' μ' a' w' ho ha hn hs' hsz'
 simp only [Out] at ho; subst ho
 exact hg K' μ' a' w' ha hn hs' hsz'
theorem wanted_none {K : Col} {μ : Nat → Nat} {s : St} {a : Act} {w : World} (hs : Sim K μ s a w) {ops : Array Oper} {o : Oper} (hg : o.guard = none) : Region.wanted o (yielded ops a.tmps) = true :=
 wanted_eq hs (b := true) (by simp [wantedAt, hg])
theorem good_c {K : Col} {μ : Nat → Nat} {s : St} {a : Act} {w : World} {dst : Option Nat} {c : C} {v : Value} (hr : RepC K μ w c v) (hi : ∀ b ∈ c.ids, b < s.nid) (hno : ∀ z xs, c ≠ .own z xs) : Good K μ s a w dst (.c c) v :=
 ⟨by simpa [RepV] using hr, by simpa [V.ids] using hi, fun z xs e => absurd (by simpa using e) (hno z xs), by simp⟩
theorem good_tuple {K : Col} {μ : Nat → Nat} {s : St} {a : Act} {w : World} {dst : Option Nat} {ds : List D} {vs : List Value} (hr : RepCs K μ w (ds.map .d) vs) : Good K μ s a w dst (.tuple (ds.map .d)) (.tuple vs.toArray) :=
 ⟨by simp only [RepV]; exact ⟨vs, rfl, hr⟩, by simp [V.ids, C.ids], by simp, by simp⟩
theorem wpN_range {id9 id10 id11 B B3 : Nat} {ops9 ops10 ops11 : Array Oper} {body : Code} {pre rest : List Oper} {o9 oN oX oE : Oper} {t tk te : TypeId} {t74 t75 t76 t77 t78 n n1 b : Nat} {kvs : List (D × D)} {tm0 tm1 tmH : List (Nat × V)} {hp0 hp1 hpH : List (Nat × List C)} {ks : List Nat} {done : D → Prop} {sB : D → D → St}
  (h9 : ops9.toList = pre ++ [o9]) (h9o : o9.op = .range t (.tmp t74)) (h9d : o9.dst = some t75) (h9g : o9.guard = none)
  (h10 : ops10.toList = [oN, oX]) (hNo : oN.op = .next (.tmp t75) false) (hNd : oN.dst = some t76) (hNg : oN.guard = none)
  (h11 : ops11.toList = oE :: rest) (hEo : oE.op = .entry (.tmp t75)) (hEd : oE.dst = some t78) (hEg : oE.guard = none)
  (hdb : dstsBelow sz (.seq (.region id9 ops9 false) (.block B (.loop (.seq (.region id10 ops10 false) (.seq (.cond (.tmp t77) .skip (.exit B)) (.block B3 (.seq (.region id11 ops11 false) body))))))) = true)
  (htt : X.P.underlying t = some (.map tk te)) (h76 : t76 ≠ t75) (h77 : t77 ≠ t75)
  (hpre : opsTo X ops9 pre ⟨tm0, hp0, n, [], none⟩ ⟨tm1, hp1, n1, [], none⟩)
  (hmp : look t74 tm1 = some (.c (.mp b))) (hmb : look b hp1 = some [.ment (kvM kvs)]) (hkeep : keepT ks tm1 = tmH) (hhp : (((n1, []) :: hp1).filter (fun p => p.1 != n1)).filter (fun p => p.1 != b) = hpH) (hn1 : noView n1 tmH = true) (hbn : b ≠ n1)
  (hX : ∀ c cs, opsTo X ops10 [oX] ⟨(t76, .tuple (.d (.bool c) :: cs)) :: (t75, .c (.ptr n1 0)) :: tmH, hpH, n1 + 1, [], none⟩ ⟨(t77, .d (.bool c)) :: (t76, .tuple (.d (.bool c) :: cs)) :: (t75, .c (.ptr n1 0)) :: tmH, hpH, n1 + 1, [], none⟩)
  (hrest : ∀ k v, (k, v) ∈ kvs → opsTo X ops11 rest ⟨(t78, .tuple [.d k, .d v]) :: (t77, .d (.bool true)) :: (t76, .tuple [.d (.bool true), .d k, .d v]) :: (t75, .c (.ptr n1 0)) :: tmH, hpH, n1 + 1, [], none⟩ (sB k v))
  (hsB : ∀ k v, (sB k v).nid = n1 + 1)
  (hbody : ∀ k v, (k, v) ∈ kvs → wpN X sz body (fun x s' => (x = .normal ∧ done k ∧ ∃ ks' tm', s' = ⟨tm', hpH, n1 + 1, [], none⟩ ∧ keepT ks' tm' = (t75, .c (.ptr n1 0)) :: tmH) ∨ ((x = .ret ∨ ∃ d, x = .pan d) ∧ Q x s')) (sB k v))
  (hend : (∀ p ∈ kvs, done p.1) → Q .normal ⟨(t77, .d (.bool false)) :: (t76, .tuple [.d (.bool false)]) :: (t75, .c (.ptr n1 0)) :: tmH, hpH, n1 + 1, [], none⟩) :
  wpN X sz (.seq (.region id9 ops9 false) (.block B (.loop (.seq (.region id10 ops10 false) (.seq (.cond (.tmp t77) .skip (.exit B)) (.block B3 (.seq (.region id11 ops11 false) body))))))) Q ⟨tm0, hp0, n, [], none⟩ := by
 intro hc hP K μ w a Qm hs hsz hg
 simp only [dstsBelow, Bool.and_eq_true, List.all_eq_true] at hdb
 have toB : ∀ {ops : Array Oper}, (∀ o ∈ ops.toList, (match o.dst with | some t => decide (t < sz) | none => true) = true) → ∀ o ∈ ops.toList, ∀ t, o.dst = some t → t < sz := by
  intro ops h o ho t ht
  have := h o ho
  rw [ht] at this
  simpa using this
 have hd9 := toB hdb.1
 have hd10 := toB hdb.2.1
 have hd11 := toB hdb.2.2.2.1
 obtain ⟨x, s1, ⟨k0, hk0⟩, rfl, rfl⟩ := hpre.ex
 obtain ⟨fs', hev⟩ := hk0 k0 (Nat.le_refl _) []
 have hsize : ops9.size = pre.length + [o9].length := by rw [← Array.length_toList, h9, List.length_append]
 refine wp_seq (wp_region ?_)
 rw [List.range_eq_range', hsize]
 refine evOps_pre (hc k0) hP hd9 [o9] pre 0 K μ _ a w [] (by simp [h9]) hev hs hsz ?_
 intro K1 μ1 a1 w1 hA1 hle1 hs1 hsz1
 have ho9 : ops9[0 + pre.length]? = some o9 := by
  rw [← Array.getElem?_toList, h9]; simp
 show wpOps X.P ops9 _ [0 + pre.length] a1 w1
 simp only [wpOps, ho9, wanted_none hs1 h9g, if_true]
 refine .inl ?_
 obtain ⟨es, clk, hobj, hrep, hborn⟩ := (hs1.heap b _ hmb).2.2.map rfl
 have hv74 : a1.tmps.getD t74 Go.undef = .map (some (μ1 b)) := by
  have := (hs1.tm t74 _ hmp).2
  simpa [RepV, RepC] using this
 have hgl : μ1 b < w1.heap.size := (hs1.heap b _ hmb).2.2.2.1
 have hrun : (execOp a1.eval o9).run X.P w1 = .ok (.value (.pointer (some (ad w1.heap.size 0)))) (w1.alloc (.mapIter (some (μ1 b)) clk #[] clk)) := by
  simp [execOp, h9o, Act.eval, hv74, run_range_map w1 t tk te _ es clk htt hobj]
 simp only [Oper.wp, hrun, Oper.upon_value]
 have hom := oneMore_alloc w1 (.mapIter (some (μ1 b)) clk #[] clk)
 have hs1k := hs1.keep ks
 simp only [hkeep] at hs1k
 have hs2 : Sim (colNew K1 w1.heap.size fun _ => .blk n1) μ1 ⟨tmH, hp1, n1, [], none⟩ a1 (w1.alloc (.mapIter (some (μ1 b)) clk #[] clk)) :=
  hs1k.step (hom.step fun _ => .blk n1) (by simp) (by simp) (by simp) (hom.bound hs1k.bound _)
 have hs3 := hs2.addB (g := w1.heap.size) (cs := []) ⟨fun off _ => by rw [muSet_same]; simp [colNew], by rw [muSet_same]; simp, .inl ⟨rfl, fun i c h => by simp [flatC] at h, fun z ds e => by simp at e⟩⟩ (by simp) (noView_spec hn1)
 have hdo9 : ∀ t, o9.dst = some t → t < a1.tmps.size := by rw [hsz1]; exact hd9 o9 (by simp [h9])
 have hs4 := hs3.put (dst := o9.dst) (V := .c (.ptr n1 0)) (v := .pointer (some (ad w1.heap.size 0))) hdo9 (good_c (by simp only [RepC, muSet_same]) (by simp [C.ids]) (by simp))
 rw [h9d] at hs4
 have hs5 := (hs4.gone n1).gone b
 have hhp' : ((putSt (some t75) (.c (.ptr n1 0)) ({ tmps := tmH, heap := (n1, []) :: hp1, nid := n1 + 1, defers := [], pan := none } : St)).heap.filter (fun p => p.1 != n1)).filter (fun p => p.1 != b) = hpH := hhp
 have hs6 : Sim (colGone (colGone (colNew K1 w1.heap.size fun _ => .blk n1) n1) b) (muSet μ1 n1 w1.heap.size) ⟨(t75, .c (.ptr n1 0)) :: tmH, hpH, n1 + 1, [], none⟩ (a1.put (some t75) (.pointer (some (ad w1.heap.size 0)))) (w1.alloc (.mapIter (some (μ1 b)) clk #[] clk)) := by
  rw [← hhp']
  exact hs5
 have hA2 : After K μ w n (colGone (colGone (colNew K1 w1.heap.size fun _ => .blk n1) n1) b) (muSet μ1 n1 w1.heap.size) (w1.alloc (.mapIter (some (μ1 b)) clk #[] clk)) := by
  refine hA1.trans (m := n1) ⟨?_, fun i hi => muSet_other μ1 _ (by omega)⟩ hle1
  have e1 := (hom.step (K := K1) fun _ => .blk n1).none_mine
  have e2 := (step_gone (K := colNew K1 w1.heap.size fun _ => .blk n1) (b := n1) (w := w1.alloc (.mapIter (some (μ1 b)) clk #[] clk))).mono (W' := mine) (fun t ht => by subst ht; simp [mine])
  have e3 := (step_gone (K := colGone (colNew K1 w1.heap.size fun _ => .blk n1) n1) (b := b) (w := w1.alloc (.mapIter (some (μ1 b)) clk #[] clk))).mono (W' := mine) (fun t ht => by subst ht; simp [mine])
  exact (e1.trans e2).trans e3
 have hKr : ∀ off, colGone (colGone (colNew K1 w1.heap.size fun _ => .blk n1) n1) b w1.heap.size off = .other := by
  intro off; simp [colGone, colNew]
 have hKg : ∀ off, colGone (colGone (colNew K1 w1.heap.size fun _ => .blk n1) n1) b (μ1 b) off = .other := by
  intro off
  have := (hs1.heap b _ hmb).2.2.1 off (by cases off <;> simp)
  have hne : ¬ (μ1 b = w1.heap.size) := by omega
  simp [colGone, colNew, this, hne, hbn]
 have hE : EntRep (colGone (colGone (colNew K1 w1.heap.size fun _ => .blk n1) n1) b) (w1.alloc (.mapIter (some (μ1 b)) clk #[] clk)) kvs es.toList := by
  refine (((entRep_of hrep).step (hom.step fun _ => .blk n1) (by simp)).step step_gone (by simp)).step step_gone (by simp)
 have hsz2 : (a1.put (some t75) (.pointer (some (ad w1.heap.size 0)))).tmps.size = sz := by rw [put_size]; exact hsz1
 have hgr : (w1.alloc (.mapIter (some (μ1 b)) clk #[] clk)).heap[μ1 b]? = some (.map es clk) := (hom.old hgl).trans hobj
 have hrr := hom.new
 have hsr : w.heap.size ≤ w1.heap.size := hA1.step.size
 rw [h9d]
 generalize a1.put (some t75) (.pointer (some (ad w1.heap.size 0))) = a2 at *
 generalize w1.alloc (.mapIter (some (μ1 b)) clk #[] clk) = w2 at *
 generalize colGone (colGone (colNew K1 w1.heap.size fun _ => .blk n1) n1) b = K2 at *
 have hμr : muSet μ1 n1 w1.heap.size n1 = w1.heap.size := muSet_same _ _ _
 generalize muSet μ1 n1 w1.heap.size = μ2 at *
 generalize μ1 b = g at *
 generalize w1.heap.size = r at *
 clear hs5 hs4 hs3 hs2 hs1k hs1 hrun hom hrep hobj hv74 hdo9 hhp' hA1 hgl ho9 hev hk0
 show (Code.block B _).wp X.P Qm a2 w2
 refine wp_block (wp_loop_rounds (es.size + 1) ?_)
 have hwN : ∀ {K : Col} {μ : Nat → Nat} {s : St} {a : Act} {w : World}, Sim K μ s a w → Region.wanted oN (yielded ops10 a.tmps) = true := fun h => wanted_none h hNg
 have ho10 : ops10[0]? = some oN := by rw [← Array.getElem?_toList, h10]; rfl
 have ho11 : ops11[0]? = some oE := by rw [← Array.getElem?_toList, h11]; rfl
 have hz10 : ops10.size = 2 := by rw [← Array.length_toList, h10]; rfl
 have hz11 : ops11.size = rest.length + 1 := by rw [← Array.length_toList, h11]; rfl
 have round : ∀ (m : Nat) (seen : Array Nat) (K3 : Col) (μ3 : Nat → Nat) (a3 : Act) (w3 : World) (c0 : Nat),
   (∀ (seen' : Array Nat) (K4 : Col) (μ4 : Nat → Nat) (a4 : Act) (w4 : World) (c1 : Nat), (leftOf es seen').size < m → Sim K4 μ4 ⟨(t75, .c (.ptr n1 0)) :: tmH, hpH, n1 + 1, [], none⟩ a4 w4 → a4.tmps.size = sz → After K μ w n K4 μ4 w4 → μ4 n1 = r →
    w4.heap[r]? = some (.mapIter (some g) clk seen' c1) → w4.heap[g]? = some (.map es clk) → (∀ off, K4 r off = .other) → (∀ off, K4 g off = .other) → EntRep K4 w4 kvs es.toList → clk ≤ c1 →
    (∀ (i : Nat) (e : MapEntry) (p : D × D), es.toList[i]? = some e → seen'.contains e.born = true → kvs[i]? = some p → done p.1) →
    Code.rounds X.P (.seq (.region id10 ops10 false) (.seq (.cond (.tmp t77) .skip (.exit B)) (.block B3 (.seq (.region id11 ops11 false) body)))) (Exit.inBlock B Qm) m a4 w4) →
   (leftOf es seen).size ≤ m → Sim K3 μ3 ⟨(t75, .c (.ptr n1 0)) :: tmH, hpH, n1 + 1, [], none⟩ a3 w3 → a3.tmps.size = sz → After K μ w n K3 μ3 w3 → μ3 n1 = r →
   w3.heap[r]? = some (.mapIter (some g) clk seen c0) → w3.heap[g]? = some (.map es clk) → (∀ off, K3 r off = .other) → (∀ off, K3 g off = .other) → EntRep K3 w3 kvs es.toList → clk ≤ c0 →
   (∀ (i : Nat) (e : MapEntry) (p : D × D), es.toList[i]? = some e → seen.contains e.born = true → kvs[i]? = some p → done p.1) →
   Code.rounds X.P (.seq (.region id10 ops10 false) (.seq (.cond (.tmp t77) .skip (.exit B)) (.block B3 (.seq (.region id11 ops11 false) body)))) (Exit.inBlock B Qm) (m + 1) a3 w3 := by
  intro m seen K3 μ3 a3 w3 c0 ih hm hs3 hsz3 hA3 hμ3 hr3 hg3 hKr3 hKg3 hE3 hcc hdone
  have hlr : r < w3.heap.size := by
   rcases Nat.lt_or_ge r w3.heap.size with h | h
   ·exact h
   ·simp [Array.getElem?_eq_none h] at hr3
  have hlg : g < w3.heap.size := by
   rcases Nat.lt_or_ge g w3.heap.size with h | h
   ·exact h
   ·simp [Array.getElem?_eq_none h] at hg3
  rw [rounds_succ]
  refine wp_seq (wp_region ?_)
  rw [hz10]
  show wpOps X.P ops10 _ [0, 1] a3 w3
  have hv75 : a3.tmps.getD t75 Go.undef = .pointer (some (ad r 0)) := by
   have := (hs3.tm t75 (.c (.ptr n1 0)) (by simp only [look, if_true])).2
   simp only [RepV, RepC, hμ3] at this
   exact this
  have hdoN : ∀ t, oN.dst = some t → t < a3.tmps.size := by rw [hsz3]; exact hd10 oN (by simp [h10])
  rw [wpOps.eq_2]
  simp only [ho10, hwN hs3, if_true]
  refine .inl ?_
  have law := run_next_at (P := X.P) w3 oN.type r g clk c0 seen es clk hr3 hg3 hborn.1 hcc
  rcases law with ⟨h0, hrun⟩ | ⟨e, he, w', hw', hrun⟩
  ·have hrun' : (execOp a3.eval oN).run X.P w3 = .ok (.value (.tuple #[.bool false])) w3 := by
    simp [execOp, hNo, Act.eval, hv75, hrun]
   simp only [Oper.wp, hrun', Oper.upon_value]
   have hs4 := hs3.put (dst := oN.dst) (V := .tuple [.d (.bool false)]) (v := .tuple #[.bool false]) hdoN (good_tuple (ds := [.bool false]) (vs := [.bool false]) (.cons (by simp [RepC, Rep]) .nil))
   rw [hNd] at hs4 ⊢
   refine (hX false []).sound hc hP (i := 1) hd10 (by simp [h10]) hs4 (by rw [put_size]; exact hsz3) ?_
   intro K5 μ5 a5 w5 hA5 hn5 hs5 hsz5
   show (Code.seq (.cond (.tmp t77) .skip (.exit B)) _).wp X.P _ a5 w5
   have hb : a5.eval (.tmp t77) = .bool false := by
    have := (hs5.tm t77 (.d (.bool false)) (by simp only [look, if_true])).2
    simpa [RepV, RepC, Rep, Act.eval] using this
   refine wp_seq (wp_cond_false hb (wp_exit ?_))
   show (if B = B then Qm .normal a5 w5 else Qm (.exit B) a5 w5)
   rw [if_pos rfl]
   refine hg _ _ (hend ?_) .normal K5 μ5 a5 w5 rfl (hA3.trans hA5 (by show n ≤ n1 + 1; simp only at hle1; omega)) (by show n ≤ n1 + 1; simp only at hle1; omega) hs5 hsz5
   intro p hp
   obtain ⟨i, hi⟩ := List.mem_iff_getElem?.1 hp
   obtain ⟨e, he, _⟩ := hE3.2 i p.1 p.2 hi
   exact hdone i e p he (all_seen es seen h0 e (List.mem_of_getElem? he)) hi
  ·have hmem := mem_left he
   obtain ⟨i, hi⟩ := List.mem_iff_getElem?.1 hmem.1
   have hil : i < kvs.length := by rw [hE3.1]; exact (List.getElem?_eq_some_iff.1 hi).1
   obtain ⟨⟨k, v⟩, hkv⟩ : ∃ p, kvs[i]? = some p := ⟨kvs[i], List.getElem?_eq_getElem hil⟩
   have hkm : (k, v) ∈ kvs := List.mem_of_getElem? hkv
   have hrun' : (execOp a3.eval oN).run X.P w3 = .ok (.value (.tuple #[.bool true, e.key, e.val])) (setBlock w' r (.mapIter (some g) clk (seen.push e.born) clk)) := by
    simp [execOp, hNo, Act.eval, hv75, hrun]
   simp only [Oper.wp, hrun', Oper.upon_value]
   have hst4 := step_block (w' := w') (o := .mapIter (some g) clk (seen.push e.born) clk) hw' hKr3
   have hh' : w'.heap = w3.heap := by rcases hw' with rfl | rfl <;> rfl
   have hs4 : Sim K3 μ3 ⟨(t75, .c (.ptr n1 0)) :: tmH, hpH, n1 + 1, [], none⟩ a3 (setBlock w' r (.mapIter (some g) clk (seen.push e.born) clk)) :=
    hs3.step hst4 (by simp) (by simp) (by simp) (fun blk off hl => hs3.bound blk off (by simpa [setBlock, hh'] using hl))
   have hA4 := after_block (o := .mapIter (some g) clk (seen.push e.born) clk) hA3 hw' hKr3 hsr
   have hE4 := hE3.step hst4 (by simp)
   have hr4 : (setBlock w' r (.mapIter (some g) clk (seen.push e.born) clk)).heap[r]? = some (.mapIter (some g) clk (seen.push e.born) clk) := by
    simp [setBlock, hh', hlr]
   have hgne : g ≠ r := by
    rintro rfl
    rw [hr3] at hg3; simp at hg3
   have hg4 : (setBlock w' r (.mapIter (some g) clk (seen.push e.born) clk)).heap[g]? = some (.map es clk) := by
    simp only [setBlock, hh']
    rw [Array.getElem?_setIfInBounds_ne (Ne.symm hgne)]
    exact hg3
   have hz4 : (setBlock w' r (.mapIter (some g) clk (seen.push e.born) clk)).heap.size = w3.heap.size := by simp [setBlock, hh']
   generalize setBlock w' r (.mapIter (some g) clk (seen.push e.born) clk) = w4 at *
   have hrep : ∀ {K' : Col} {w'' : World}, EntRep K' w'' kvs es.toList → Rep K' w'' k e.key ∧ Rep K' w'' v e.val := by
    intro K' w'' h
    obtain ⟨e', h1, h2, h3⟩ := h.2 i k v hkv
    rw [hi] at h1
    simp only [Option.some.injEq] at h1
    subst h1
    exact ⟨h2, h3⟩
   have hs5 := hs4.put (dst := oN.dst) (V := .tuple [.d (.bool true), .d k, .d v]) (v := .tuple #[.bool true, e.key, e.val]) hdoN
    (good_tuple (ds := [.bool true, k, v]) (vs := [.bool true, e.key, e.val]) (.cons (by simp [RepC, Rep]) (.cons (by simpa [RepC] using (hrep hE4).1) (.cons (by simpa [RepC] using (hrep hE4).2) .nil))))
   rw [hNd] at hs5 ⊢
   refine (hX true [.d k, .d v]).sound hc hP (i := 1) hd10 (by simp [h10]) hs5 (by rw [put_size]; exact hsz3) ?_
   intro K6 μ6 a6 w6 hA6 hn6 hs6 hsz6
   show (Code.seq (.cond (.tmp t77) .skip (.exit B)) _).wp X.P _ a6 w6
   have hb : a6.eval (.tmp t77) = .bool true := by
    have := (hs6.tm t77 (.d (.bool true)) (by simp only [look, if_true])).2
    simpa [RepV, RepC, Rep, Act.eval] using this
   refine wp_seq (wp_cond_true hb (wp_skip ?_))
   show (Code.block B3 _).wp X.P _ a6 w6
   refine wp_block (wp_seq (wp_region ?_))
   rw [hz11, List.range_eq_range', List.range'_succ]
   have notmine : ¬ mine Tag.other := by simp [mine]
   have keepr : ∀ {K' : Col} {μ' : Nat → Nat} {w'' : World}, After K3 μ3 w4 (n1 + 1) K' μ' w'' → w''.heap[r]? = some (.mapIter (some g) clk (seen.push e.born) clk) ∧ w''.heap[g]? = some (.map es clk) ∧ (∀ off, K' r off = .other) ∧ (∀ off, K' g off = .other) ∧ EntRep K' w'' kvs es.toList ∧ μ' n1 = r := by
    intro K' μ' w'' h
    refine ⟨(h.step.block r (by omega) fun off => by rw [hKr3]; exact notmine).trans hr4, (h.step.block g (by omega) fun off => by rw [hKg3]; exact notmine).trans hg4, fun off => ?_, fun off => ?_, hE4.step h.step (by simp [mine]), (h.mu n1 (by omega)).trans hμ3⟩
    ·rw [(h.step.cell r off (by omega) (by rw [hKr3]; exact notmine)).2.2, hKr3]
    ·rw [(h.step.cell g off (by omega) (by rw [hKg3]; exact notmine)).2.2, hKg3]
   obtain ⟨hr6, hg6, hKr6, hKg6, hE6, hμ6⟩ := keepr hA6
   have hv75' : a6.tmps.getD t75 Go.undef = .pointer (some (ad r 0)) := by
    have := (hs6.tm t75 (.c (.ptr n1 0)) (by simp only [look, if_neg h77, if_neg h76, if_true])).2
    simp only [RepV, RepC, hμ6] at this
    exact this
   rw [wpOps.eq_2]
   simp only [ho11, wanted_none hs6 hEg, if_true]
   refine .inl ?_
   have hrunE : (execOp a6.eval oE).run X.P w6 = .ok (.value (.tuple #[e.key, e.val])) w6 := by
    simp [execOp, hEo, Act.eval, hv75', run_entry_at w6 r g clk seen es clk e hr6 hg6 hmem.1 hborn.2]
   simp only [Oper.wp, hrunE, Oper.upon_value]
   have hdoE : ∀ t, oE.dst = some t → t < a6.tmps.size := by rw [hsz6]; exact hd11 oE (by simp [h11])
   have hs7 := hs6.put (dst := oE.dst) (V := .tuple [.d k, .d v]) (v := .tuple #[e.key, e.val]) hdoE
    (good_tuple (ds := [k, v]) (vs := [e.key, e.val]) (.cons (by simpa [RepC] using (hrep hE6).1) (.cons (by simpa [RepC] using (hrep hE6).2) .nil)))
   rw [hEd] at hs7 ⊢
   refine (hrest k v hkm).sound hc hP (i := 0 + 1) hd11 (by simp [h11]) hs7 (by rw [put_size]; exact hsz6) ?_
   intro K8 μ8 a8 w8 hA8 hn8 hs8 hsz8
   show body.wp X.P _ a8 w8
   refine hbody k v hkm hc hP K8 μ8 w8 a8 _ hs8 hsz8 ?_
   intro x s' hq e' K9 μ9 a9 w9 ho hA9 hn9 hs9 hsz9
   rw [hsB] at hA9 hn9
   have hA49 : After K3 μ3 w4 (n1 + 1) K9 μ9 w9 := hA6.trans (hA8.trans hA9 (Nat.le_refl _)) (Nat.le_refl _)
   have hle : n ≤ n1 + 1 := by simp only at hle1; omega
   have hA09 : After K μ w n K9 μ9 w9 := hA4.trans hA49 hle
   rcases hq with ⟨rfl, hdk, ks', tm', rfl, hkt⟩ | ⟨hx, hq⟩
   ·simp only [Out] at ho; subst ho
    show Code.rounds X.P _ (Exit.inBlock B Qm) m a9 w9
    obtain ⟨q1, q2, q3, q4, q5, q6⟩ := keepr hA49
    have hs10 := hs9.keep ks'
    simp only [hkt] at hs10
    refine ih (seen.push e.born) K9 μ9 a9 w9 clk (Nat.lt_of_lt_of_le (left_shrinks es seen e he) hm) hs10 hsz9 hA09 q6 q1 q2 q3 q4 q5 (Nat.le_refl _) ?_
    intro j e2 p hj hc2 hp
    rw [contains_push] at hc2
    rcases Bool.or_eq_true _ _ ▸ hc2 with h1 | h1
    ·exact hdone j e2 p hj h1 hp
    ·have : e2 = e := born_inj hborn.2 (List.mem_of_getElem? hj) hmem.1 (beq_iff_eq.1 h1)
     subst this
     have hij : j = i := by
      have h3 : (es.toList.map (·.born))[j]? = some e2.born := by rw [List.getElem?_map, hj]; rfl
      have h4 : (es.toList.map (·.born))[i]? = some e2.born := by rw [List.getElem?_map, hi]; rfl
      exact (List.getElem?_inj (by rw [List.length_map]; exact (List.getElem?_eq_some_iff.1 hj).1) hborn.2).1 (h3.trans h4.symm)
     subst hij
     rw [hkv] at hp
     simp only [Option.some.injEq] at hp
     subst hp
     exact hdk
   ·have hn9' : n ≤ s'.nid := by omega
    rcases hx with rfl | ⟨d, rfl⟩
    ·simp only [Out] at ho; subst ho
     exact hg _ _ hq .ret K9 μ9 a9 w9 rfl hA09 hn9' hs9 hsz9
    ·obtain ⟨u, rfl, hu⟩ := ho
     exact hg _ _ hq _ K9 μ9 a9 w9 ⟨u, rfl, hu⟩ hA09 hn9' hs9 hsz9
 have key : ∀ (m : Nat) (seen : Array Nat) (K3 : Col) (μ3 : Nat → Nat) (a3 : Act) (w3 : World) (c0 : Nat),
   (leftOf es seen).size ≤ m → Sim K3 μ3 ⟨(t75, .c (.ptr n1 0)) :: tmH, hpH, n1 + 1, [], none⟩ a3 w3 → a3.tmps.size = sz → After K μ w n K3 μ3 w3 → μ3 n1 = r →
   w3.heap[r]? = some (.mapIter (some g) clk seen c0) → w3.heap[g]? = some (.map es clk) → (∀ off, K3 r off = .other) → (∀ off, K3 g off = .other) → EntRep K3 w3 kvs es.toList → clk ≤ c0 →
   (∀ (i : Nat) (e : MapEntry) (p : D × D), es.toList[i]? = some e → seen.contains e.born = true → kvs[i]? = some p → done p.1) →
   Code.rounds X.P (.seq (.region id10 ops10 false) (.seq (.cond (.tmp t77) .skip (.exit B)) (.block B3 (.seq (.region id11 ops11 false) body)))) (Exit.inBlock B Qm) (m + 1) a3 w3 := by
  intro m
  induction m with
  | zero => exact fun seen K3 μ3 a3 w3 c0 => round 0 seen K3 μ3 a3 w3 c0 (fun seen' K4 μ4 a4 w4 c1 h => absurd h (by omega))
  | succ m ih => exact fun seen K3 μ3 a3 w3 c0 => round (m + 1) seen K3 μ3 a3 w3 c0 (fun seen' K4 μ4 a4 w4 c1 h => ih seen' K4 μ4 a4 w4 c1 (by omega))
 exact key es.size #[] K2 μ2 a2 w2 clk (by simpa [leftOf] using Array.size_filter_le) hs6 hsz2 hA2 hμr hrr hgr hKr hKg hE (Nat.le_refl _) (fun i e p _ h => by simp at h)
end
end Go.AM

namespace Go.AM.SeatX
open Go Go.AM Go.Proofs
set_option maxRecDepth 100000
structure S_text_kind where
 text : Str
 kind : Int
 deriving Inhabited
def encS_text_kind (x : S_text_kind) : D := .agg [(.str x.text), (.int .i64 x.kind)]
def h39 : Nat → List Nat | 0 => [0, 1] | 1 => [0, 1] | _ => []
def h45 : Nat → List Nat | 0 => [0] | 1 => [0] | 3 => [0] | 4 => [0, 4, 5] | 6 => [0, 4, 5] | 7 => [4, 5, 28, 29, 30] | 8 => [4, 5, 28, 29, 30] | 9 => [4, 5, 7, 28, 29, 30] | 11 => [4, 5, 7, 28, 29, 30] | 12 => [4, 5, 28, 29, 30] | 13 => [4, 5] | 15 => [4, 5] | 1000000 => [0, 4, 5] | _ => []
def h71 : Nat → List Nat | 0 => [0, 1] | 1 => [0, 1] | _ => []
def h79 : Nat → List Nat | 0 => [0] | 1 => [0, 2] | 2 => [0, 2, 16, 17, 18] | 3 => [0, 2, 16, 17, 18] | 4 => [0, 2, 5, 16, 17, 18] | 5 => [0, 2, 5] | 6 => [0, 2, 16, 17, 18] | 7 => [0, 2] | 8 => [0, 2, 7] | 9 => [0, 2, 8] | 10 => [0, 2, 8, 75] | 11 => [0, 2, 8, 75] | 12 => [0, 2, 8, 9, 10, 75] | 13 => [0, 2, 8, 9] | 14 => [2] | _ => []
def h80 : Nat → List Nat | 0 => [0] | 1 => [0] | 2 => [0] | 3 => [0] | 4 => [0] | 5 => [0] | 6 => [0] | 8 => [0] | 9 => [0] | 10 => [0] | _ => []
def h81 : Nat → List Nat | 0 => [0] | 1 => [0] | _ => []
def h82 : Nat → List Nat | 0 => [0, 1] | 1 => [0, 1] | 2 => [0, 1] | 3 => [0, 1] | 4 => [0, 1] | 5 => [0, 1] | 6 => [0, 1] | 7 => [0, 1] | 999999 => [1] | _ => []
def H : Nat → Nat → List Nat
 | 39 => h39
 | 45 => h45
 | 71 => h71
 | 79 => h79
 | 80 => h80
 | 81 => h81
 | 82 => h82
 | _ => fun _ => []
noncomputable abbrev P := Go.Proofs.Tryz.prog
def E : Nat → Option Call := fun f => if f = 113 then some containsCall else none
noncomputable abbrev X : Ctx := ⟨P, E, H⟩
def go_Contains (s t : Str) : Option Bool := if s.length < 4294967281 then some (subB s t) else none
theorem go_Contains_ok {s t : Str} {r : Bool} (h : go_Contains s t = some r) : aval X 113 [.d (.str s), .d (.str t)] [] (.ret (.d (.bool r)) []) :=
 aval_ext (g := containsCall) (args' := [.d (.str s), .d (.str t)]) rfl rfl (by
  unfold go_Contains at h
  split at h
  ·rename_i hl; cases h; simp only [containsCall, if_pos hl]
  ·cases h)
theorem I {α : Sort _} {a : α} : a = a := rfl
abbrev iZ (n : Int) : D := .int .i64 n
abbrev lI (l : List Int) : D := .list 1 (List.map (D.int .i64) l)
abbrev oI (l : List Int) : C := .own 1 (List.map (D.int .i64) l)
abbrev lS (l : List Str) : D := .list 1 (List.map D.str l)
abbrev oS (l : List Str) : C := .own 1 (List.map D.str l)
abbrev lC (l : List Cell) : D := .list 3 (List.map encCell l)
abbrev oC (l : List Cell) : C := .own 3 (List.map encCell l)
abbrev lN (l : List Node) : D := .list 7 (List.map encNodeR l)
abbrev oN (l : List Node) : C := .own 7 (List.map encNodeR l)
abbrev lT (l : List Token) : D := .list 5 (List.map encToken l)
abbrev oT (l : List Token) : C := .own 5 (List.map encToken l)
abbrev B := @bind_inv
abbrev E_ := @ite_inv
abbrev S_ := @awp_seq
abbrev N_ := @seqQ.normal
abbrev P_ := @condQ.pan
abbrev C_ := @condQ.ret
abbrev R_ := @awp_ret
abbrev K_ := @awp_skip
abbrev W_ := @awp_block
abbrev Q_ := @seqQ.ret
abbrev U_ := @seqQ.pan
abbrev O_ := @awpO_nil
abbrev X_ := @awp_exit
end Go.AM.SeatX

namespace Go.AM.SeatX
open Go Go.AM Go.Proofs
set_option maxRecDepth 100000
set_option maxHeartbeats 4000000
set_option linter.unusedVariables false
variable [Globs]
def p_stringslite_HasPrefix (s : Str) (prefix_ : Str) : Option (Bool) :=
 if (decide ((List.length s : Int) ≥ (List.length prefix_ : Int))) then
  sto s (List.length prefix_ : Int) >>= fun s1 =>
  some (s1 == prefix_)
 else
  some false
def p_strings_HasPrefix (s : Str) (prefix_ : Str) : Option (Bool) :=
 p_stringslite_HasPrefix s prefix_ >>= fun x =>
 some x
def p_runes_first (c : Int) : Option (Int × Int) :=
 if (decide (c < 128)) then
  some (1, (w64 c))
 else
  if (decide (c < 192)) then
   some (0, 0)
  else
   if (decide (c ≥ 248)) then
    some (0, 0)
   else
    if (decide (c < 224)) then
     some (2, (w64 (IntKind.u8.wrap ((BitVec.ofInt 8 c &&& BitVec.ofInt 8 31).toNat))))
    else
     if (decide (c < 240)) then
      some (3, (w64 (IntKind.u8.wrap ((BitVec.ofInt 8 c &&& BitVec.ofInt 8 15).toNat))))
     else
      some (4, (w64 (IntKind.u8.wrap ((BitVec.ofInt 8 c &&& BitVec.ofInt 8 7).toNat))))
def p_runes_Good (n : Int) : Option (Bool) :=
 if (decide (n ≥ 0)) then
  if (decide (n ≤ 1114111)) then
   if (decide (n < 55296)) then
    some true
   else
    some (decide (n > 57343))
  else
   some false
 else
  some false
def p_runes_put_nil (n : Int) : Option ((List Int)) :=
 if (decide (n < 128)) then
  lapp [] [(IntKind.u8.wrap n)] >>= fun l =>
  some l
 else
  if (decide (n < 2048)) then
   lapp [] [(IntKind.u8.wrap (w64 ((BitVec.ofInt 64 192 ||| BitVec.ofInt 64 (Int.fdiv n (2 ^ 6))).toNat))), (IntKind.u8.wrap (w64 ((BitVec.ofInt 64 128 ||| BitVec.ofInt 64 (w64 ((BitVec.ofInt 64 n &&& BitVec.ofInt 64 63).toNat))).toNat)))] >>= fun l1 =>
   some l1
  else
   if (decide (n < 65536)) then
    lapp [] [(IntKind.u8.wrap (w64 ((BitVec.ofInt 64 224 ||| BitVec.ofInt 64 (Int.fdiv n (2 ^ 12))).toNat))), (IntKind.u8.wrap (w64 ((BitVec.ofInt 64 128 ||| BitVec.ofInt 64 (w64 ((BitVec.ofInt 64 (Int.fdiv n (2 ^ 6)) &&& BitVec.ofInt 64 63).toNat))).toNat))), (IntKind.u8.wrap (w64 ((BitVec.ofInt 64 128 ||| BitVec.ofInt 64 (w64 ((BitVec.ofInt 64 n &&& BitVec.ofInt 64 63).toNat))).toNat)))] >>= fun l2 =>
    some l2
   else
    lapp [] [(IntKind.u8.wrap (w64 ((BitVec.ofInt 64 240 ||| BitVec.ofInt 64 (Int.fdiv n (2 ^ 18))).toNat))), (IntKind.u8.wrap (w64 ((BitVec.ofInt 64 128 ||| BitVec.ofInt 64 (w64 ((BitVec.ofInt 64 (Int.fdiv n (2 ^ 12)) &&& BitVec.ofInt 64 63).toNat))).toNat))), (IntKind.u8.wrap (w64 ((BitVec.ofInt 64 128 ||| BitVec.ofInt 64 (w64 ((BitVec.ofInt 64 (Int.fdiv n (2 ^ 6)) &&& BitVec.ofInt 64 63).toNat))).toNat))), (IntKind.u8.wrap (w64 ((BitVec.ofInt 64 128 ||| BitVec.ofInt 64 (w64 ((BitVec.ofInt 64 n &&& BitVec.ofInt 64 63).toNat))).toNat)))] >>= fun l3 =>
    some l3
def p_runes_One_l0 (a : (List Int) × Int × Int) : Option (Except (Int × Int) (Int)) := match a with
 | (l, n1, x) =>
  if (decide (x < (List.length l : Int))) then
   lget l x >>= fun c =>
   if ((IntKind.u8.wrap ((BitVec.ofInt 8 c &&& BitVec.ofInt 8 192).toNat)) != 128) then
    some (.error (0, 0))
   else
    p_runes_One_l0 (l, (w64 ((BitVec.ofInt 64 (w64 (n1 * 2 ^ 6)) ||| BitVec.ofInt 64 (w64 (IntKind.u8.wrap ((BitVec.ofInt 8 c &&& BitVec.ofInt 8 63).toNat)))).toNat)), (w64 (x + 1)))
  else
   some (.ok n1)
 partial_fixpoint
def p_runes_One (b : (List Int)) : Option (Int × Int) :=
 if ((List.length b : Int) == 0) then
  some (0, 0)
 else
  lget b 0 >>= fun y =>
  p_runes_first y >>= fun (k, n) =>
  if (k == 0) then
   some (0, 0)
  else
   if (decide (k > (List.length b : Int))) then
    some (0, 0)
   else
    lmid b 1 k >>= fun l =>
    (
     p_runes_One_l0 (l, n, 0)
    : Option (Except (Int × Int) (Int))) >>= fun res => match res with
    | .error r => some r
    | .ok n2 =>
     p_runes_Good n2 >>= fun x1 =>
     if (!x1) then
      some (0, 0)
     else
      p_runes_put_nil n2 >>= fun x2 =>
      if ((List.length x2 : Int) != k) then
       some (0, 0)
      else
       some (n2, k)
def p_alex_lexer_fixed (b : Str) (at_ : Int) (err : Int) (at_1 : Int) (why : Int) : Option (Token × Bool) :=
 lget [(S_text_kind.mk [226, 142, 149, 73, 79] 3), (S_text_kind.mk [226, 141, 186] 3), (S_text_kind.mk [226, 141, 181] 3), (S_text_kind.mk [226, 136, 152, 46] 4), (S_text_kind.mk [226, 134, 144] 7)] 0 >>= fun y =>
 sfrom b at_ >>= fun s =>
 p_strings_HasPrefix s y.text >>= fun x =>
 if x then
  some ((Token.mk y.kind y.text (Arr.mk [] []) at_), true)
 else
  lget [(S_text_kind.mk [226, 142, 149, 73, 79] 3), (S_text_kind.mk [226, 141, 186] 3), (S_text_kind.mk [226, 141, 181] 3), (S_text_kind.mk [226, 136, 152, 46] 4), (S_text_kind.mk [226, 134, 144] 7)] 1 >>= fun y1 =>
  sfrom b at_ >>= fun s1 =>
  p_strings_HasPrefix s1 y1.text >>= fun x1 =>
  if x1 then
   some ((Token.mk y1.kind y1.text (Arr.mk [] []) at_), true)
  else
   lget [(S_text_kind.mk [226, 142, 149, 73, 79] 3), (S_text_kind.mk [226, 141, 186] 3), (S_text_kind.mk [226, 141, 181] 3), (S_text_kind.mk [226, 136, 152, 46] 4), (S_text_kind.mk [226, 134, 144] 7)] 2 >>= fun y2 =>
   sfrom b at_ >>= fun s2 =>
   p_strings_HasPrefix s2 y2.text >>= fun x2 =>
   if x2 then
    some ((Token.mk y2.kind y2.text (Arr.mk [] []) at_), true)
   else
    lget [(S_text_kind.mk [226, 142, 149, 73, 79] 3), (S_text_kind.mk [226, 141, 186] 3), (S_text_kind.mk [226, 141, 181] 3), (S_text_kind.mk [226, 136, 152, 46] 4), (S_text_kind.mk [226, 134, 144] 7)] 3 >>= fun y3 =>
    sfrom b at_ >>= fun s3 =>
    p_strings_HasPrefix s3 y3.text >>= fun x3 =>
    if x3 then
     some ((Token.mk y3.kind y3.text (Arr.mk [] []) at_), true)
    else
     lget [(S_text_kind.mk [226, 142, 149, 73, 79] 3), (S_text_kind.mk [226, 141, 186] 3), (S_text_kind.mk [226, 141, 181] 3), (S_text_kind.mk [226, 136, 152, 46] 4), (S_text_kind.mk [226, 134, 144] 7)] 4 >>= fun y4 =>
     sfrom b at_ >>= fun s4 =>
     p_strings_HasPrefix s4 y4.text >>= fun x4 =>
     if x4 then
      some ((Token.mk y4.kind y4.text (Arr.mk [] []) at_), true)
     else
      sfrom b at_ >>= fun s5 =>
      sbytes s5 >>= fun b1 =>
      p_runes_One b1 >>= fun (x5, k) =>
      smid b at_ (w64 (at_ + k)) >>= fun s6 =>
      tailS s6 at_
end Go.AM.SeatX

namespace Go.AM.SeatX
open Go Go.AM Go.Proofs
set_option maxRecDepth 100000
set_option maxHeartbeats 4000000
set_option linter.unusedVariables false
variable [Globs]
theorem p_runes_Good_ok {n : Int} {r : Bool} (h : p_runes_Good n = some r) : aval X 81 [.d (iZ n)] [] (CRes.ret (.d (.bool r)) []) := by
 unfold p_runes_Good at h
 refine aval_start (tm := [(0, .d (iZ n))]) (hp := []) (n := 0) I Tryz.func81 I I I I I I (ra I (S_ (rn 3 I ?_)))
 rcases E_ h with ⟨hc, h⟩ | ⟨hc, h⟩
 ·refine gt I I I I hc I (on 4 I ?_)
  rcases E_ h with ⟨hc, h⟩ | ⟨hc, h⟩
  ·refine gt I I I I hc I (on 3 I ?_)
   rcases E_ h with ⟨hc, h⟩ | ⟨hc, h⟩
   ·refine gt I I I I hc I (on 5 I (rz (R_ ?_)))
    cases h
    exact .ret I I
   refine gf I I I I hc I (on 5 I (rz (R_ ?_)))
   cases h
   exact .ret I I
  refine gf I I I I hc I (on 8 I (rz (R_ ?_)))
  cases h
  exact .ret I I
 refine gf I I I I hc I (on 12 I (rz (R_ ?_)))
 cases h
 exact .ret I I
end Go.AM.SeatX

namespace Go.AM.SeatX
open Go Go.AM Go.Proofs
set_option maxRecDepth 100000
set_option maxHeartbeats 4000000
set_option linter.unusedVariables false
variable [Globs]
theorem p_runes_first_ok {c : Int} {r : Int × Int} (h : p_runes_first c = some r) : aval X 80 [.d (.int .u8 c)] [] (CRes.ret (.tuple [.d (iZ r.1), .d (iZ r.2)]) []) := by
 unfold p_runes_first at h
 refine aval_start (tm := [(0, .d (.int .u8 c))]) (hp := []) (n := 0) I Tryz.func80 I I I I I I (ra I (S_ (W_ (S_ (W_ (S_ (W_ (S_ (W_ (W_ (S_ (W_ (S_ (S_ (ra I ?_)))))))))))))))
 rcases E_ h with ⟨hc, h⟩ | ⟨hc, h⟩
 ·refine ct I hc (X_ (condQ.exit (seqQ.exit (seqQ.exit (eh I (N_ (S_ (ra I (R_ (Q_ (exitQ.ret (exitQ.ret (Q_ (exitQ.ret (Q_ (exitQ.ret (Q_ (exitQ.ret (Q_ ?_)))))))))))))))))))
  cases h
  exact .ret I I
 refine cf I hc (K_ (cn I (N_ (S_ (ra I ?_)))))
 rcases E_ h with ⟨hc, h⟩ | ⟨hc, h⟩
 ·refine ct I hc (X_ (condQ.exit (seqQ.exit (seqQ.exit (exitQ.there I (seqQ.exit (eh I (en I (N_ (S_ (ra I (R_ (Q_ (exitQ.ret (Q_ (exitQ.ret (Q_ (exitQ.ret (Q_ ?_)))))))))))))))))))
  cases h
  exact .ret I I
 refine cf I hc (K_ (cn I (N_ (S_ (ra I ?_)))))
 rcases E_ h with ⟨hc, h⟩ | ⟨hc, h⟩
 ·refine ct I hc (X_ (condQ.exit (seqQ.exit (seqQ.exit (exitQ.there I (seqQ.exit (exitQ.there I (eh I (N_ (S_ (ra I (R_ (Q_ (exitQ.ret (Q_ (exitQ.ret (Q_ (exitQ.ret (Q_ ?_)))))))))))))))))))
  cases h
  exact .ret I I
 refine cf I hc (K_ (cn I (N_ (S_ (ra I ?_)))))
 rcases E_ h with ⟨hc, h⟩ | ⟨hc, h⟩
 ·refine ct I hc (X_ (condQ.exit (seqQ.exit (seqQ.exit (exitQ.there I (seqQ.exit (exitQ.there I (exitQ.there I (seqQ.exit (eh I (N_ (S_ (ra I (R_ (Q_ (exitQ.ret (Q_ (exitQ.ret (Q_ ?_)))))))))))))))))))
  cases h
  exact .ret I I
 refine cf I hc (K_ (cn I (N_ (ra I ?_))))
 rcases E_ h with ⟨hc, h⟩ | ⟨hc, h⟩
 ·refine ct I hc (X_ (condQ.exit (seqQ.exit (exitQ.there I (seqQ.exit (exitQ.there I (exitQ.there I (seqQ.exit (exitQ.there I (seqQ.exit (eh I (N_ (S_ (ra I (R_ (Q_ (exitQ.ret (Q_ ?_))))))))))))))))))
  cases h
  exact .ret I I
 refine cf I hc (K_ (cn I (N_ (X_ (exitQ.there I (seqQ.exit (exitQ.there I (exitQ.there I (seqQ.exit (exitQ.there I (seqQ.exit (exitQ.there I (seqQ.exit (eh I (N_ (ra I (R_ ?_)))))))))))))))))
 cases h
 exact .ret I I
end Go.AM.SeatX

namespace Go.AM.SeatX
open Go Go.AM Go.Proofs
set_option maxRecDepth 100000
set_option maxHeartbeats 4000000
set_option linter.unusedVariables false
variable [Globs]
theorem p_runes_put_nil_ok {n : Int} {r : (List Int)} (h : p_runes_put_nil n = some r) : aval X 82 [.nilsl 1, .d (iZ n)] [] (CRes.ret (.d (.list 1 (List.map (D.int .u8) r))) []) := by
 unfold p_runes_put_nil at h
 refine aval_start (tm := [(0, .c (.nilsl 1)), (1, .d (iZ n))]) (hp := []) (n := 0) I Tryz.func82 I I I I I I (ra I (S_ (W_ (ra I ?_))))
 rcases E_ h with ⟨hc, h⟩ | ⟨hc, h⟩
 ·refine ct I hc (S_ (rn 4 I ?_))
  obtain ⟨l, hk, h⟩ := B h
  refine po (eappn hk I I I I I I I I I I I I ) I I (on 1 I (rz (R_ (C_ (exitQ.ret (Q_ ?_))))))
  cases h
  exact .ret I I
 refine cf I hc (ra I ?_)
 rcases E_ h with ⟨hc, h⟩ | ⟨hc, h⟩
 ·refine ct I hc (S_ (rn 10 I ?_))
  obtain ⟨l1, hk, h⟩ := B h
  refine po (eappn hk I I I I I I I I I I I I ) I I (on 1 I (rz (R_ (C_ (C_ (exitQ.ret (Q_ ?_)))))))
  cases h
  exact .ret I I
 refine cf I hc (ra I ?_)
 rcases E_ h with ⟨hc, h⟩ | ⟨hc, h⟩
 ·refine ct I hc (S_ (rn 15 I ?_))
  obtain ⟨l2, hk, h⟩ := B h
  refine po (eappn hk I I I I I I I I I I I I ) I I (on 1 I (rz (R_ (C_ (C_ (C_ (exitQ.ret (Q_ ?_))))))))
  cases h
  exact .ret I I
 refine cf I hc (K_ (cn I (cn I (cn I (en I (N_ (S_ (rn 20 I ?_))))))))
 obtain ⟨l3, hk, h⟩ := B h
 refine po (eappn hk I I I I I I I I I I I I ) I I (on 1 I (rz (R_ ?_)))
 cases h
 exact .ret I I
end Go.AM.SeatX

namespace Go.AM.SeatX
open Go Go.AM Go.Proofs
set_option maxRecDepth 100000
set_option maxHeartbeats 4000000
set_option linter.unusedVariables false
variable [Globs]
theorem p_runes_One_l0_ok (k : Int) : ∀ (a : (List Int) × Int × Int) (res : Except (Int × Int) (Int)), p_runes_One_l0 a = some res → (match a with | (l, n1, x) => awpL X 45 (codeAt [1, 1, 1, 1, 0, 1, 0, 0] (bodyOf Tryz.f45)) (cleanAt (X.H 45 7) 0) (exitQ 0 (X.H 45 1000000) 0 (SubQ X Tryz.f45 0 (fun (r : Int × Int) => (CRes.ret (.tuple [.d (iZ r.1), .d (iZ r.2)]) [])) (fun (n2 : Int) => (⟨[(4, .d (iZ k)), (5, .d (iZ n2))], [], 0, [], none⟩ : St)) res)) ⟨[(4, .d (iZ k)), (5, .d (iZ n1)), (28, .d (.list 1 (List.map (D.int .u8) l))), (29, .d (iZ (List.length l : Int))), (30, .d (iZ x))], [], 0, [], none⟩) := by
 refine p_runes_One_l0.partial_correctness _ ?_
 rintro p_runes_One_l0' ih ⟨l, n1, x⟩ res h
 refine lg I (ra I (S_ ?_))
 rcases E_ h with ⟨hc, h⟩ | ⟨hc, h⟩
 ·refine ct I hc (K_ (cn I (N_ (S_ (W_ (S_ (rn 0 I ?_)))))))
  obtain ⟨c, hk, h⟩ := B h
  refine po (elget (D.int .u8) (fun _ => I) hk I I I I I) I I (on 2 I (rz (S_ (ra I ?_))))
  rcases E_ h with ⟨hc, h⟩ | ⟨hc, h⟩
  ·refine ct I hc (ra I (R_ (C_ (Q_ (exitQ.ret (Q_ (loopQ.ret (exitQ.ret ?_))))))))
   cases h
   exact .err I (.ret I I)
  refine cf I hc (K_ (cn I (N_ (rn 7 I (O_ (en I (N_ (rn 2 I (O_ (loopQ.normal ?_))))))))))
  exact awpL_at I I (ih _ _ h)
 refine cf I hc (X_ (condQ.exit (seqQ.exit (loopQ.exit (eh I ?_)))))
 cases h
 exact .ok I
theorem p_runes_One_ok {b : (List Int)} {r : Int × Int} (h : p_runes_One b = some r) : aval X 45 [.d (.list 1 (List.map (D.int .u8) b))] [] (CRes.ret (.tuple [.d (iZ r.1), .d (iZ r.2)]) []) := by
 unfold p_runes_One at h
 refine aval_start (tm := [(0, .d (.list 1 (List.map (D.int .u8) b)))]) (hp := []) (n := 0) I Tryz.func45 I I I I I I (ra I (S_ (S_ (rn 1 I (po (ellen I I I I I I I) I I (on 1 I (rz ?_)))))))
 rcases E_ h with ⟨hc, h⟩ | ⟨hc, h⟩
 ·refine ct I hc (ra I (R_ (C_ (Q_ ?_))))
  cases h
  exact .ret I I
 refine cf I hc (K_ (cn I (N_ (S_ (rn 1 I ?_)))))
 obtain ⟨y, hk, h⟩ := B h
 refine po (elget (D.int .u8) (fun _ => I) hk I I I I I) I I (on 1 I ?_)
 obtain ⟨⟨k, n⟩, hk, h⟩ := B h
 refine po (ecall (p_runes_first_ok hk) I I I I I I I I I) I I (on 5 I (rz (S_ (S_ (rn 3 I ?_)))))
 rcases E_ h with ⟨hc, h⟩ | ⟨hc, h⟩
 ·refine gt I I I I hc I (on 5 I (rz (ct I I (ra I (R_ (C_ (Q_ ?_)))))))
  cases h
  exact .ret I I
 refine gf I I I I hc I (on 2 I (po (ellen I I I I I I I) I I (on 2 I (rz ?_))))
 rcases E_ h with ⟨hc, h⟩ | ⟨hc, h⟩
 ·refine ct I hc (ra I (R_ (C_ (Q_ ?_))))
  cases h
  exact .ret I I
 refine cf I hc (K_ (cn I (N_ (S_ (S_ (rn 2 I ?_))))))
 obtain ⟨l, hk, h⟩ := B h
 refine po (elmid hk I I I I I I I) I I (po (ellen I I I I I I I) I I (on 1 I (rz ?_)))
 obtain ⟨res, hs, h⟩ := B h
 refine awp_sub Tryz.f45 0 (fun (r : Int × Int) => (CRes.ret (.tuple [.d (iZ r.1), .d (iZ r.2)]) [])) (fun (n2 : Int) => (⟨[(4, .d (iZ k)), (5, .d (iZ n2))], [], 0, [], none⟩ : St)) (res := res) ?_ (fun y hy => ?_) (fun r x s' hr hx he => ?_)
 ·replace h := hs
  refine W_ (awp_loop ?_)
  exact awpL_at I I (p_runes_One_l0_ok k _ _ h)
 ·subst hy
  obtain n2 := y
  refine N_ (S_ (S_ (rn 1 I ?_)))
  obtain ⟨x1, hk, h⟩ := B h
  refine po (ecall (p_runes_Good_ok hk) I I I I I I I I I) I I (on 2 I ?_)
  rcases E_ h with ⟨hc, h⟩ | ⟨hc, h⟩
  ·refine gt I I I I hc I (on 6 I (rz (ct I I (ra I (R_ (C_ (Q_ ?_)))))))
   cases h
   exact .ret I I
  refine gf I I I I hc I (on 1 I ?_)
  obtain ⟨x2, hk, h⟩ := B h
  refine po (ecallk (p_runes_put_nil_ok hk) I I I I I I I) I I (po (ellen I I I I I I I) I I (on 3 I (rz ?_)))
  rcases E_ h with ⟨hc, h⟩ | ⟨hc, h⟩
  ·refine ct I hc (ra I (R_ (C_ (Q_ ?_))))
   cases h
   exact .ret I I
  refine cf I hc (K_ (cn I (N_ (ra I (R_ ?_)))))
  cases h
  exact .ret I I
 subst hr
 refine seqQ.out hx ?_
 cases h
 exact he
end Go.AM.SeatX

namespace Go.AM.SeatX
open Go Go.AM Go.Proofs
set_option maxRecDepth 100000
set_option maxHeartbeats 4000000
set_option linter.unusedVariables false
variable [Globs]
theorem p_stringslite_HasPrefix_ok {s : Str} {prefix_ : Str} {r : Bool} (h : p_stringslite_HasPrefix s prefix_ = some r) : aval X 71 [.d (.str s), .d (.str prefix_)] [] (CRes.ret (.d (.bool r)) []) := by
 unfold p_stringslite_HasPrefix at h
 refine aval_start (tm := [(0, .d (.str s)), (1, .d (.str prefix_))]) (hp := []) (n := 0) I Tryz.func71 I I I I I I (ra I (S_ (rn 6 I ?_)))
 rcases E_ h with ⟨hc, h⟩ | ⟨hc, h⟩
 ·refine gt I I I I hc I (on 3 I ?_)
  obtain ⟨s1, hk, h⟩ := B h
  refine po (esto hk I I I I) I I (on 4 I (rz (R_ ?_)))
  cases h
  exact .ret I I
 refine gf I I I I hc I (on 8 I (rz (R_ ?_)))
 cases h
 exact .ret I I
end Go.AM.SeatX

namespace Go.AM.SeatX
open Go Go.AM Go.Proofs
set_option maxRecDepth 100000
set_option maxHeartbeats 4000000
set_option linter.unusedVariables false
variable [Globs]
theorem p_strings_HasPrefix_ok {s : Str} {prefix_ : Str} {r : Bool} (h : p_strings_HasPrefix s prefix_ = some r) : aval X 39 [.d (.str s), .d (.str prefix_)] [] (CRes.ret (.d (.bool r)) []) := by
 unfold p_strings_HasPrefix at h
 refine aval_start (tm := [(0, .d (.str s)), (1, .d (.str prefix_))]) (hp := []) (n := 0) I Tryz.func39 I I I I I I (ra I (S_ (rn 2 I ?_)))
 obtain ⟨x, hk, h⟩ := B h
 refine po (ecall (p_stringslite_HasPrefix_ok hk) I I I I I I I I I) I I (on 1 I (rz (R_ ?_)))
 cases h
 exact .ret I I
end Go.AM.SeatX

namespace Go.AM.SeatX
open Go Go.AM Go.Proofs
set_option maxRecDepth 100000
set_option maxHeartbeats 4000000
set_option linter.unusedVariables false
variable [Globs]
theorem wpN_keep {X : Ctx} {sz : Nat} {c : Code} {Q : AX → St → Prop} {tm tm' : List (Nat × V)} {hp : List (Nat × List C)} {n : Nat} {df : List (Nat × List Nat)} {pn : Option D} {ks : List Nat} (hk : keepT ks tm = tm') (h : wpN X sz c Q ⟨tm', hp, n, df, pn⟩) : wpN X sz c Q ⟨tm, hp, n, df, pn⟩ := by
 intro hc hP K μ w a Qm hs hsz hg
 subst hk
 exact h hc hP K μ w a Qm (hs.keep ks) hsz hg
def opsAt : Code → Array Oper | .region _ ops _ => ops | _ => #[]
noncomputable abbrev o9 : Array Oper := opsAt (codeAt [1, 1, 1, 1, 0, 0] (bodyOf Tryz.f79))
def allOf (n : Int) : Str := if n = 4 then fxVerbs else if n = 5 then fxOpen else fxShut
def doneOf (s : Str) (k : D) : Prop := ∀ n, k = .int .i64 n → subB (allOf n) s = false
def kvsX : List (D × D) := [(.int .i64 4, .str fxVerbs), (.int .i64 5, .str fxOpen), (.int .i64 6, .str fxShut)]
abbrev hp0 (b : Str) (at_ err at_1 why : Int) : List (Nat × List C) :=
 [(1, [.d (.int .i64 0), .d (.str []), .own 1 (List.map (D.int .i64) []), .own 3 (List.map encCell []), .d (.int .i64 0)]), (0, [.d (.str b), .d (.int .i64 at_), .hid, .d (.int .i64 err), .d (.int .i64 at_1), .d (.int .i64 why)])]
abbrev tmHX (s : Str) : List (Nat × V) := [(0, .c (.ptr 0 0)), (2, .c (.ptr 1 0)), (8, .d (.str s))]
abbrev sBX (b s : Str) (at_ err at_1 why : Int) (k v : D) : St :=
 ⟨(10, .d v) :: (9, .d k) :: (80, .d v) :: (79, .d k) :: (78, .tuple [.d k, .d v]) :: (77, .d (.bool true)) :: (76, .tuple [.d (.bool true), .d k, .d v]) :: (75, .c (.ptr 35 0)) :: tmHX s, hp0 b at_ err at_1 why, 36, [], none⟩
theorem body_ok {b s : Str} {at_ err at_1 why n : Int} {all : Str} {r : Token × Bool} (hall : all.length < 4294967281) (h1 : subB all s = true → r = (Token.mk n s noLit at_, true)) {done : D → Prop} (h2 : subB all s = false → done (.int .i64 n)) :
  wpN X 92 (codeAt [1, 1, 1, 1, 0, 1, 0, 0, 1, 1, 0, 1] (bodyOf Tryz.f79))
   (fun x s' => (x = .normal ∧ done (.int .i64 n) ∧ ∃ ks' tm', s' = ⟨tm', hp0 b at_ err at_1 why, 36, [], none⟩ ∧ keepT ks' tm' = (75, .c (.ptr 35 0)) :: tmHX s) ∨ ((x = .ret ∨ ∃ d, x = .pan d) ∧
    (seqN X 92 (codeAt [1, 1, 1, 1, 1] (bodyOf Tryz.f79)) (atEnd X Tryz.f79 1 (CRes.ret (.tuple [.d (encToken r.1), .d (.bool r.2)]) [[.d (.str b), .d (.int .i64 at_), .hid, .d (.int .i64 err), .d (.int .i64 at_1), .d (.int .i64 why)]]))) x s'))
   (sBX b s at_ err at_1 why (.int .i64 n) (.str all)) := by
 refine wpN_of (f := 79) ?_ (by kernel_rfl)
 refine awp_seq ?_
 refine rn 2 rfl ?_
 refine po (ecall (go_Contains_ok (s := all) (t := s) (r := subB all s) (by unfold go_Contains; rw [if_pos hall])) rfl rfl rfl rfl rfl rfl rfl rfl rfl) rfl rfl ?_
 refine rz ?_
 cases hb : subB all s with
 | true =>
  refine ct rfl rfl ?_
  refine awp_seq ?_
  refine rn 9 rfl ?_
  refine rz ?_
  refine awp_ret ?_
  refine condQ.ret ?_
  refine .inr ⟨.inl rfl, seqN.ret ?_⟩
  rw [h1 hb]
  exact .ret rfl rfl
 | false =>
  refine cf rfl rfl ?_
  refine awp_skip ?_
  refine cn rfl ?_
  exact .inl ⟨rfl, h2 hb, [75, 0, 2, 8], _, rfl, rfl⟩
theorem tail_ok' {b s : Str} {at_ err at_1 why : Int} {r : Token × Bool} (h : tailS s at_ = some r) :
  wpN X 92 (codeAt [1, 1, 1, 1] (bodyOf Tryz.f79)) (atEnd X Tryz.f79 1 (CRes.ret (.tuple [.d (encToken r.1), .d (.bool r.2)]) [[.d (.str b), .d (.int .i64 at_), .hid, .d (.int .i64 err), .d (.int .i64 at_1), .d (.int .i64 why)]]))
   ⟨tmHX s, hp0 b at_ err at_1 why, 34, [], none⟩ := by
 obtain ⟨q1, q2, q3, q4⟩ := tailS_some h
 show wpN X 92 (.seq (codeAt [1, 1, 1, 1, 0] (bodyOf Tryz.f79)) (codeAt [1, 1, 1, 1, 1] (bodyOf Tryz.f79))) _ _
 refine wpN_seq' ?_
 refine wpN_range (n1 := 35) (kvs := kvsX) (ks := [0, 2, 8]) (pre := o9.toList.take 5) (done := doneOf s) (sB := sBX b s at_ err at_1 why) (tmH := tmHX s) (hpH := hp0 b at_ err at_1 why) (t74 := 74) (b := 34) (hp1 := (34, [.ment (kvM kvsX)]) :: hp0 b at_ err at_1 why) (tm1 := (74, .c (.mp 34)) :: (73, .c (.mp 34)) :: tmHX s)
  rfl rfl rfl rfl rfl rfl rfl rfl rfl rfl rfl rfl (by kernel_rfl) (Tryz.underlying144) (by decide) (by decide) ?_ rfl rfl rfl rfl rfl (by decide) ?_ ?_ ?_ ?_ ?_
 ·unfold opsTo
  refine pmk (nid' := 35) rfl rfl rfl rfl rfl ?_
  refine po (emap (kvs' := List.map (encI .i64 D.str) [(4, fxVerbs)]) rfl (.inl rfl) rfl rfl rfl rfl rfl rfl rfl) rfl rfl ?_
  refine po (emap (kvs' := List.map (encI .i64 D.str) [(4, fxVerbs), (5, fxOpen)]) rfl (.inl rfl) rfl rfl rfl rfl rfl rfl rfl) rfl rfl ?_
  refine po (emap (kvs' := List.map (encI .i64 D.str) [(4, fxVerbs), (5, fxOpen), (6, fxShut)]) rfl (.inl rfl) rfl rfl rfl rfl rfl rfl rfl) rfl rfl ?_
  refine on 1 rfl ?_
  exact awpO_nil ⟨rfl, rfl⟩
 ·intro c cs
  unfold opsTo
  refine on 1 rfl ?_
  exact awpO_nil ⟨rfl, rfl⟩
 ·intro k v hkv
  unfold opsTo
  refine on 4 rfl ?_
  exact awpO_nil ⟨rfl, rfl⟩
 ·intro k v; rfl
 ·intro k v hkv
  simp only [kvsX, List.mem_cons, Prod.mk.injEq, List.not_mem_nil, or_false] at hkv
  rcases hkv with ⟨rfl, rfl⟩ | ⟨rfl, rfl⟩ | ⟨rfl, rfl⟩
  ·exact body_ok (by decide) q1 (fun hb n e => by cases e; exact hb)
  ·exact body_ok (by decide) q2 (fun hb n e => by cases e; exact hb)
  ·exact body_ok (by decide) q3 (fun hb n e => by cases e; exact hb)
 ·intro hd
  have hr := q4 (hd (.int .i64 4, .str fxVerbs) (by simp [kvsX]) 4 rfl) (hd (.int .i64 5, .str fxOpen) (by simp [kvsX]) 5 rfl) (hd (.int .i64 6, .str fxShut) (by simp [kvsX]) 6 rfl)
  subst hr
  refine seqN.normal (wpN_of (f := 79) ?_ (by kernel_rfl))
  refine awp_seq ?_
  refine rn 3 rfl ?_
  refine rz ?_
  refine awp_ret ?_
  exact .ret rfl rfl
theorem tail_ok {b s : Str} {at_ err at_1 why : Int} {r : Token × Bool} {tm : List (Nat × V)} (hk : keepT [0, 2, 8] tm = tmHX s) (h : tailS s at_ = some r) :
  wpN X 92 (codeAt [1, 1, 1, 1] (bodyOf Tryz.f79)) (atEnd X Tryz.f79 1 (CRes.ret (.tuple [.d (encToken r.1), .d (.bool r.2)]) [[.d (.str b), .d (.int .i64 at_), .hid, .d (.int .i64 err), .d (.int .i64 at_1), .d (.int .i64 why)]]))
   ⟨tm, hp0 b at_ err at_1 why, 34, [], none⟩ := wpN_keep hk (tail_ok' h)
end Go.AM.SeatX

namespace Go.AM.SeatX
open Go Go.AM Go.Proofs
set_option maxRecDepth 100000
set_option maxHeartbeats 4000000
set_option linter.unusedVariables false
variable [Globs]
theorem p_alex_lexer_fixed_ok {b : Str} {at_ : Int} {err : Int} {at_1 : Int} {why : Int} {r : Token × Bool} (h : p_alex_lexer_fixed b at_ err at_1 why = some r) : wpN X 92 (bodyOf Tryz.f79) (atEnd X Tryz.f79 1 (CRes.ret (.tuple [.d (encToken r.1), .d (.bool r.2)]) [[.d (.str b), .d (iZ at_), .hid, .d (iZ err), .d (iZ at_1), .d (iZ why)]])) ⟨[(0, .c (.ptr 0 0))], [(0, [.d (.str b), .d (iZ at_), .hid, .d (iZ err), .d (iZ at_1), .d (iZ why)])], 1, [], none⟩ := by
 unfold p_alex_lexer_fixed at h
 show wpN X _ (codeAt [] (bodyOf Tryz.f79)) _ _
 refine wpN_seq (f := 79) ?_ (by kernel_rfl)
 refine rn (nid' := 2) 2 I (O_ (seqN.normal ?_))
 refine wpN_seq (f := 79) ?_ (by kernel_rfl)
 refine ra I (W_ (awp_loop (lg I (ra I (S_ (ct I I (K_ (cn I (N_ (S_ (W_ (S_ (rn 0 I ?_)))))))))))))
 obtain ⟨y, hk, h⟩ := B h
 refine po (elget encS_text_kind (fun _ => I) hk I I I I I) I I (on (nid' := 3) 3 I (rz (S_ (drn (m := 15) 8 I I ?_))))
 obtain ⟨s, hk, h⟩ := B h
 refine pd (esfrom hk I I I I) I I I I I (don 2 I ?_)
 obtain ⟨x, hk, h⟩ := B h
 refine pd (ecall (p_strings_HasPrefix_ok hk) I I I I I I I I I) I I I I I (dz (by kernel_rfl) ?_)
 rcases E_ h with ⟨hc, h⟩ | ⟨hc, h⟩
 ·refine ct I hc (S_ (drn (m := 26) 11 I I (dz (by kernel_rfl) (R_ (C_ (exitQ.ret (Q_ (loopQ.ret (exitQ.ret (seqN.ret ?_))))))))))
  cases h
  exact .ret I I
 refine cf I hc (K_ (cn I (en I (N_ (rn 2 I (O_ (loopQ.normal (lg I (ra I (S_ (ct I I (K_ (cn I (N_ (S_ (W_ (S_ (rn 0 I ?_))))))))))))))))))
 obtain ⟨y1, hk, h⟩ := B h
 refine po (elget encS_text_kind (fun _ => I) hk I I I I I) I I (on (nid' := 3) 3 I (rz (S_ (drn (m := 15) 8 I I ?_))))
 obtain ⟨s1, hk, h⟩ := B h
 refine pd (esfrom hk I I I I) I I I I I (don 2 I ?_)
 obtain ⟨x1, hk, h⟩ := B h
 refine pd (ecall (p_strings_HasPrefix_ok hk) I I I I I I I I I) I I I I I (dz (by kernel_rfl) ?_)
 rcases E_ h with ⟨hc, h⟩ | ⟨hc, h⟩
 ·refine ct I hc (S_ (drn (m := 26) 11 I I (dz (by kernel_rfl) (R_ (C_ (exitQ.ret (Q_ (loopQ.ret (exitQ.ret (seqN.ret ?_))))))))))
  cases h
  exact .ret I I
 refine cf I hc (K_ (cn I (en I (N_ (rn 2 I (O_ (loopQ.normal (lg I (ra I (S_ (ct I I (K_ (cn I (N_ (S_ (W_ (S_ (rn 0 I ?_))))))))))))))))))
 obtain ⟨y2, hk, h⟩ := B h
 refine po (elget encS_text_kind (fun _ => I) hk I I I I I) I I (on (nid' := 3) 3 I (rz (S_ (drn (m := 15) 8 I I ?_))))
 obtain ⟨s2, hk, h⟩ := B h
 refine pd (esfrom hk I I I I) I I I I I (don 2 I ?_)
 obtain ⟨x2, hk, h⟩ := B h
 refine pd (ecall (p_strings_HasPrefix_ok hk) I I I I I I I I I) I I I I I (dz (by kernel_rfl) ?_)
 rcases E_ h with ⟨hc, h⟩ | ⟨hc, h⟩
 ·refine ct I hc (S_ (drn (m := 26) 11 I I (dz (by kernel_rfl) (R_ (C_ (exitQ.ret (Q_ (loopQ.ret (exitQ.ret (seqN.ret ?_))))))))))
  cases h
  exact .ret I I
 refine cf I hc (K_ (cn I (en I (N_ (rn 2 I (O_ (loopQ.normal (lg I (ra I (S_ (ct I I (K_ (cn I (N_ (S_ (W_ (S_ (rn 0 I ?_))))))))))))))))))
 obtain ⟨y3, hk, h⟩ := B h
 refine po (elget encS_text_kind (fun _ => I) hk I I I I I) I I (on (nid' := 3) 3 I (rz (S_ (drn (m := 15) 8 I I ?_))))
 obtain ⟨s3, hk, h⟩ := B h
 refine pd (esfrom hk I I I I) I I I I I (don 2 I ?_)
 obtain ⟨x3, hk, h⟩ := B h
 refine pd (ecall (p_strings_HasPrefix_ok hk) I I I I I I I I I) I I I I I (dz (by kernel_rfl) ?_)
 rcases E_ h with ⟨hc, h⟩ | ⟨hc, h⟩
 ·refine ct I hc (S_ (drn (m := 26) 11 I I (dz (by kernel_rfl) (R_ (C_ (exitQ.ret (Q_ (loopQ.ret (exitQ.ret (seqN.ret ?_))))))))))
  cases h
  exact .ret I I
 refine cf I hc (K_ (cn I (en I (N_ (rn 2 I (O_ (loopQ.normal (lg I (ra I (S_ (ct I I (K_ (cn I (N_ (S_ (W_ (S_ (rn 0 I ?_))))))))))))))))))
 obtain ⟨y4, hk, h⟩ := B h
 refine po (elget encS_text_kind (fun _ => I) hk I I I I I) I I (on (nid' := 3) 3 I (rz (S_ (drn (m := 15) 8 I I ?_))))
 obtain ⟨s4, hk, h⟩ := B h
 refine pd (esfrom hk I I I I) I I I I I (don 2 I ?_)
 obtain ⟨x4, hk, h⟩ := B h
 refine pd (ecall (p_strings_HasPrefix_ok hk) I I I I I I I I I) I I I I I (dz (by kernel_rfl) ?_)
 rcases E_ h with ⟨hc, h⟩ | ⟨hc, h⟩
 ·refine ct I hc (S_ (drn (m := 26) 11 I I (dz (by kernel_rfl) (R_ (C_ (exitQ.ret (Q_ (loopQ.ret (exitQ.ret (seqN.ret ?_))))))))))
  cases h
  exact .ret I I
 refine cf I hc (K_ (cn I (en I (N_ (rn 2 I (O_ (loopQ.normal (lg I (ra I (S_ (cf I I (X_ (condQ.exit (seqQ.exit (loopQ.exit (eh I (seqN.normal ?_)))))))))))))))))
 refine wpN_seq (f := 79) ?_ (by kernel_rfl)
 refine drn (m := 18) 8 I I ?_
 obtain ⟨s5, hk, h⟩ := B h
 refine pd (esfrom hk I I I I) I I I I I ?_
 obtain ⟨b1, hk, h⟩ := B h
 refine pd (esbytes hk I I I I I I) I I I I I ?_
 obtain ⟨⟨x5, k⟩, hk, h⟩ := B h
 refine pd (ecall (p_runes_One_ok hk) I I I I I I I I I) I I I I I (don 5 I (dz' (by kernel_rfl) (seqN.normal ?_)))
 refine wpN_seq (f := 79) ?_ (by kernel_rfl)
 refine drn (m := 34) 14 I I ?_
 obtain ⟨s6, hk, h⟩ := B h
 refine pd (esmid hk I I I I I) I I I I I (don 1 I (dz' (by kernel_rfl) (seqN.normal ?_)))
 exact tail_ok I h
end Go.AM.SeatX

namespace Go.AM.SeatX
open Go Go.AM Go.AM.Fx
set_option linter.unusedVariables false
theorem w64_id {x : Int} (h1 : -9223372036854775808 ≤ x) (h2 : x < 9223372036854775808) : w64 x = x := by
 unfold w64; rw [IntKind.wrap_i64]; omega
theorem sfrom_eq {s : Str} {i : Int} (h0 : 0 ≤ i) (h : i ≤ s.length) : sfrom s i = some (s.drop i.toNat) := by
 unfold sfrom; rw [if_pos ⟨h0, by omega⟩]
theorem sto_eq {s : Str} {i : Int} (h0 : 0 ≤ i) (h : i ≤ s.length) : sto s i = some (s.take i.toNat) := by
 unfold sto; rw [if_pos ⟨h0, by omega⟩]
theorem smid_eq {s : Str} {i j : Int} (h0 : 0 ≤ i) (h1 : i ≤ j) (h : j ≤ s.length) : smid s i j = some ((s.take j.toNat).drop i.toNat) := by
 unfold smid; rw [if_pos ⟨h0, h1, by omega⟩]
theorem lget_eq {α : Type} {l : List α} {i : Int} {x : α} (h0 : 0 ≤ i) (h : l[i.toNat]? = some x) : lget l i = some x := by
 unfold lget; rw [if_pos h0, h]
theorem lapp_eq {α : Type} {l m : List α} (h : l.length + m.length ≤ 4294967296) : lapp l m = some (l ++ m) := by
 unfold lapp; rw [if_pos h]
theorem sbytes_eq {s : Str} (h : s.length ≤ 1099511627776) : sbytes s = some (s.map u8I) := by
 unfold sbytes; rw [if_pos h]
def hasPre (s p : Str) : Bool := p.isPrefixOf s
theorem HasPrefix_eq (s p : Str) : p_strings_HasPrefix s p = some (hasPre s p) := by
 unfold p_strings_HasPrefix p_stringslite_HasPrefix hasPre
 by_cases h : (List.length s : Int) ≥ (List.length p : Int)
 ·rw [if_pos (by simpa using h), sto_eq (by omega) (by omega)]
  simp only [Option.bind_eq_bind, Option.bind_some, Option.some.injEq, Int.toNat_natCast]
  rw [Bool.eq_iff_iff, beq_iff_eq, List.isPrefixOf_iff_prefix]
  constructor
  ·intro e
   have := List.take_append_drop p.length s
   rw [e] at this
   exact ⟨_, this⟩
  ·rintro ⟨r, rfl⟩; simp
 ·rw [if_neg (by simpa using h)]
  simp only [Option.bind_eq_bind, Option.bind_some, Option.some.injEq]
  rw [eq_comm, Bool.eq_false_iff]
  intro e
  rw [List.isPrefixOf_iff_prefix] at e
  have := e.length_le
  omega
theorem lget_cons {α : Type} {l : List α} {i : Int} {x : α} {r : List α} (h0 : 0 ≤ i) (h : l.drop i.toNat = x :: r) : lget l i = some x ∧ i < l.length ∧ l.drop (i + 1).toNat = r := by
 have h1 : l[i.toNat]? = some x := by
  have : (l.drop i.toNat)[0]? = some x := by rw [h]; rfl
  simpa using this
 have h2 : i.toNat < l.length := (List.getElem?_eq_some_iff.1 h1).1
 refine ⟨lget_eq h0 h1, by omega, ?_⟩
 rw [show (i + 1).toNat = i.toNat + 1 from by omega, ← List.drop_drop, h]; rfl
theorem drop_nil_le {α : Type} {l : List α} {i : Int} (h : l.drop i.toNat = []) : (l.length : Int) ≤ i ∨ i < 0 := by
 have : l.length ≤ i.toNat := by simpa using h
 omega
theorem first_eq (c : Int) : p_runes_first c = some (firstN c) := by
 unfold p_runes_first firstN
 simp only [decide_eq_true_eq]
 split
 ·rfl
 split
 ·rfl
 split
 ·rfl
 split
 ·rfl
 split <;> rfl
theorem firstN_bounds (c : Int) : 0 ≤ (firstN c).1 ∧ (firstN c).1 ≤ 4 := by
 unfold firstN
 split
 ·simp
 split
 ·simp
 split
 ·simp
 split
 ·simp
 split <;> simp
theorem Good_eq (n : Int) : p_runes_Good n = some (goodN n) := by
 unfold p_runes_Good goodN
 simp only [decide_eq_true_eq]
 split
 ·split
  ·split
   ·simp [*]
   ·rename_i h1 h2 h3; simp [h1, h2, h3]
  ·rename_i h1 h2; simp [h1, h2]
 ·rename_i h1; simp [h1]
theorem put_eq (n : Int) : ∃ l, p_runes_put_nil n = some l ∧ (l.length : Int) = widthN n := by
 unfold p_runes_put_nil widthN
 simp only [decide_eq_true_eq]
 split
 ·exact ⟨_, by rw [lapp_eq (by simp)]; rfl, by simp⟩
 split
 ·exact ⟨_, by rw [lapp_eq (by simp)]; rfl, by simp⟩
 split
 ·exact ⟨_, by rw [lapp_eq (by simp)]; rfl, by simp⟩
 ·exact ⟨_, by rw [lapp_eq (by simp)]; rfl, by simp⟩
theorem One_l0_eq {l : List Int} (hl : l.length < 4294967296) : ∀ (m : List Int) (x n : Int), 0 ≤ x → l.drop x.toNat = m → p_runes_One_l0 (l, n, x) = some (contGo m n)
 | [], x, n, h0, h => by
  rw [p_runes_One_l0]
  have := drop_nil_le h
  rw [if_neg (by simp; omega)]; rfl
 | c :: m, x, n, h0, h => by
  obtain ⟨h1, h2, h3⟩ := lget_cons h0 h
  rw [p_runes_One_l0]
  rw [if_pos (by simpa using h2), h1]
  simp only [Option.bind_eq_bind, Option.bind_some]
  by_cases hc : contN c = true
  ·rw [if_pos (by exact hc)]
   simp [contGo, hc]
  ·have hw : w64 (x + 1) = x + 1 := w64_id (by omega) (by omega)
   rw [if_neg (by exact hc), hw, One_l0_eq hl m (x + 1) _ (by omega) h3]
   simp only [contGo, if_neg hc]; rfl
theorem oneN_cons (c : Int) (r : List Int) : oneN (c :: r) = if (firstN c).1 = 0 then (0, 0) else if (firstN c).1 > (c :: r).length then (0, 0) else
  oneRest (firstN c).1 (contGo (r.take ((firstN c).1.toNat - 1)) (firstN c).2) := rfl
theorem One_eq {b : List Int} (hb : b.length < 4294967296) : p_runes_One b = some (oneN b) := by
 unfold p_runes_One
 cases b with
 | nil => rfl
 | cons c r =>
  rw [if_neg (by simp; omega), lget_eq (x := c) (by decide) rfl]
  simp only [Option.bind_eq_bind, Option.bind_some, first_eq]
  have hk := firstN_bounds c
  rw [oneN_cons]
  by_cases h0 : (firstN c).1 = 0
  ·rw [if_pos (by simp [h0]), if_pos h0]
  ·rw [if_neg (by simp [h0]), if_neg h0]
   by_cases h1 : (firstN c).1 > (c :: r).length
   ·rw [if_pos (by simpa using h1), if_pos h1]
   ·rw [if_neg (by simpa using h1), if_neg h1]
    have hm : lmid (c :: r) 1 (firstN c).1 = some (r.take ((firstN c).1.toNat - 1)) := by
     unfold lmid
     rw [if_pos ⟨by decide, by omega, by omega⟩]
     congr 1
     have : (firstN c).1.toNat = ((firstN c).1.toNat - 1) + 1 := by omega
     rw [this, List.take_succ_cons]; rfl
    rw [hm]
    simp only [Option.bind_some]
    rw [One_l0_eq (by have := List.length_take_le ((firstN c).1.toNat - 1) r; simp only [List.length_cons] at hb; omega) _ 0 _ (by decide) rfl]
    simp only [Option.bind_some, Int.toNat_zero, List.drop_zero]
    cases contGo (r.take ((firstN c).1.toNat - 1)) (firstN c).2 with
    | error r => rfl
    | ok n =>
     simp only [oneRest, Good_eq, Option.bind_some]
     cases hg : goodN n with
     | false => simp
     | true =>
      obtain ⟨l, hl, hw⟩ := put_eq n
      simp only [Bool.not_true, Bool.false_eq_true, if_false, hl, Option.bind_some, Bool.true_eq_false, if_false]
      rw [← hw]
      by_cases hx : (l.length : Int) = (firstN c).1
      ·rw [if_neg (by simp [hx]), if_neg (by simp [hx])]
      ·rw [if_pos (by simp [hx]), if_pos (by simp [hx])]
theorem oneN_k (b : List Int) : (oneN b).2 = 0 ∨ (1 ≤ (oneN b).2 ∧ (oneN b).2 ≤ 4 ∧ (oneN b).2 ≤ b.length) := by
 cases b with
 | nil => left; rfl
 | cons c r =>
  have hk := firstN_bounds c
  rw [oneN_cons]
  split
  ·left; rfl
  ·split
   ·left; rfl
   ·rename_i h0 h1
    have he : ∀ m n r', contGo m n = .error r' → r' = (0, 0) := by
     intro m
     induction m with
     | nil => intro n r' h; simp [contGo] at h
     | cons x m ih =>
      intro n r' h
      simp only [contGo] at h
      split at h
      ·simp only [Except.error.injEq] at h; exact h.symm
      ·exact ih _ _ h
    cases hc : contGo (r.take ((firstN c).1.toNat - 1)) (firstN c).2 with
    | error r' => left; rw [he _ _ _ hc]; rfl
    | ok n =>
     simp only [oneRest]
     split
     ·left; rfl
     ·split
      ·left; rfl
      ·right; simp only; omega
theorem fixed_plain {b : Str} {a e a1 y : Int} {r : Token × Bool} (h : fixedS b a = some r) : p_alex_lexer_fixed b a e a1 y = some r := by
 unfold fixedS at h
 split at h
 ·rename_i hc
  obtain ⟨h0, h1, h2⟩ := hc
  have hf : sfrom b a = some (b.drop a.toNat) := sfrom_eq h0 h1
  have g : ∀ {α : Type} (l : List α) (i : Nat) (x : α), l[i]? = some x → lget l (i : Int) = some x := fun l i x hx => lget_eq (by omega) (by simpa using hx)
  unfold p_alex_lexer_fixed
  rw [show lget _ 0 = some (S_text_kind.mk [226, 142, 149, 73, 79] 3) from rfl]
  simp only [Option.bind_eq_bind, Option.bind_some, hf, HasPrefix_eq]
  rcases Bool.eq_false_or_eq_true (List.isPrefixOf [226, 142, 149, 73, 79] (b.drop a.toNat)) with c1 | c1
  ·rw [if_pos c1] at h; rw [if_pos (by exact c1)]; exact h
  rw [if_neg (by simp [c1])] at h; rw [if_neg (by simp [hasPre, c1])]
  rw [show lget _ 1 = some (S_text_kind.mk [226, 141, 186] 3) from rfl]
  simp only [Option.bind_some]
  rcases Bool.eq_false_or_eq_true (List.isPrefixOf [226, 141, 186] (b.drop a.toNat)) with c2 | c2
  ·rw [if_pos c2] at h; rw [if_pos (by exact c2)]; exact h
  rw [if_neg (by simp [c2])] at h; rw [if_neg (by simp [hasPre, c2])]
  rw [show lget _ 2 = some (S_text_kind.mk [226, 141, 181] 3) from rfl]
  simp only [Option.bind_some]
  rcases Bool.eq_false_or_eq_true (List.isPrefixOf [226, 141, 181] (b.drop a.toNat)) with c3 | c3
  ·rw [if_pos c3] at h; rw [if_pos (by exact c3)]; exact h
  rw [if_neg (by simp [c3])] at h; rw [if_neg (by simp [hasPre, c3])]
  rw [show lget _ 3 = some (S_text_kind.mk [226, 136, 152, 46] 4) from rfl]
  simp only [Option.bind_some]
  rcases Bool.eq_false_or_eq_true (List.isPrefixOf [226, 136, 152, 46] (b.drop a.toNat)) with c4 | c4
  ·rw [if_pos c4] at h; rw [if_pos (by exact c4)]; exact h
  rw [if_neg (by simp [c4])] at h; rw [if_neg (by simp [hasPre, c4])]
  rw [show lget _ 4 = some (S_text_kind.mk [226, 134, 144] 7) from rfl]
  simp only [Option.bind_some]
  rcases Bool.eq_false_or_eq_true (List.isPrefixOf [226, 134, 144] (b.drop a.toNat)) with c5 | c5
  ·rw [if_pos c5] at h; rw [if_pos (by exact c5)]; exact h
  rw [if_neg (by simp [c5])] at h; rw [if_neg (by simp [hasPre, c5])]
  have hl : ((b.drop a.toNat).map u8I).length = b.length - a.toNat := by simp
  rw [sbytes_eq (by rw [List.length_drop]; omega)]
  simp only [Option.bind_some]
  rw [One_eq (by rw [hl]; omega)]
  simp only [Option.bind_some]
  have hk := oneN_k ((b.drop a.toNat).map u8I)
  rw [hl] at hk
  have hk0 : 0 ≤ (oneN ((b.drop a.toNat).map u8I)).2 := by omega
  have hkl : a + (oneN ((b.drop a.toNat).map u8I)).2 ≤ b.length := by omega
  have hw : w64 (a + (oneN ((b.drop a.toNat).map u8I)).2) = a + (oneN ((b.drop a.toNat).map u8I)).2 := w64_id (by omega) (by omega)
  rw [hw, smid_eq h0 (by omega) hkl]
  simp only [Option.bind_some]
  rw [show (List.take (a + (oneN ((b.drop a.toNat).map u8I)).2).toNat b).drop a.toNat = (b.drop a.toNat).take (oneN ((b.drop a.toNat).map u8I)).2.toNat from by
   rw [List.drop_take]
   congr 1
   omega]
  exact h
 ·cases h
theorem fixed_call [Globs] (hX : ∀ k, CallsOK X.P (X.call k)) (hP : ProgOK X.P) {args : List C} {lh : List (List C)} {r : CRes} (h : fixedCall 79 args lh = some r) : CallOK X.P 79 args lh r := by
 unfold fixedCall at h
 split at h
 ·rw [Option.map_eq_some_iff] at h
  obtain ⟨r, h, rfl⟩ := h
  exact callOK_of_wpN hX hP (fn := Go.Proofs.Tryz.f79) Go.Proofs.Tryz.func79 rfl rfl (by decide) (aval_endN rfl rfl rfl (p_alex_lexer_fixed_ok (fixed_plain h)))
 ·cases h
end Go.AM.SeatX
