/- Part of a proof about the given program: the abstract machine, the printed functions, the plain laws. (AMSelf2, AMExec, AMAcall, AMTop, AMLogic, AMSteps, AMRun, AMWalk, AMPrint, AMPrint2, AMFields, AMTypes, AMExt, AMArr, AMExt2, AMFx, AMSelf3, AO0) -/
import Derived.Test.YtbpldjfhpbebfaaGreatA2
import Derived.Recover
import Derived.Below
import Derived.Shelf.Strings.Fields
import Derived.Shelf.Strings.OnBuilder
import Derived.Shelf.Strings.IndexAnyAll
import Derived.Shelf.Small.Strs
import Derived.Shelf.Strings.Search3
import Derived.Lib.IndexMore
import Derived.Test.YtbpldjfhpbebfaaGreatProg
import Derived.KernelRfl
set_option linter.all false
set_option linter.unusedSectionVars false
set_option linter.unusedVariables false
set_option linter.unusedSimpArgs false

namespace Go.AM
open Go
variable [Globs]
section
variable {P : Program} {K K' : Col} {μ μ' : Nat → Nat} {w w' : World} {s : St} {a : Act}
theorem doCallH_sound {call : Call} (hcall : CallsOK P call) {f : Nat} {args : List C} {b off : Nat} {V : V} {s' : St} (h : doCallH call f args b off s = some (V, s')) (hs : Sim K μ s a w)
  {vs : List Value} (hargs : RepCs K μ w args vs) : Callee P f ∧ μ b < w.heap.size ∧ ∃ v, w.cell? (ad (μ b) off) = some v ∧ ∃ sz xs, cellOwn s.heap b off = some (sz, xs) ∧ cellOwn s'.heap b off = some (sz, xs) ∧
   Calls P f vs.toArray w fun e w' => ∃ K' μ', After K μ w s.nid K' μ' w' ∧ Sim K' μ' s' a w' ∧ s.nid ≤ s'.nid ∧ PlainV V ∧ (∀ b ∈ V.ids, b < s'.nid) ∧ w'.cell? (ad (μ' b) off) = some v ∧ μ' b = μ b ∧ ∃ u, e = .returned u ∧ RepV K' μ' w' V u := by
 unfold doCallH at h
 split at h
 ·rename_i cells hb
  split at h
  ·rename_i sz xs hc
   split at h
   ·rename_i V0 s1 ids hd
    split at h
    ·rename_i cells1 hb1
     split at h
     ·rename_i hc1
      simp only [Option.some.injEq, Prod.mk.injEq] at h
      obtain ⟨rfl, rfl⟩ := h
      obtain ⟨v, g1, g2, g3, g4, g5, g6, g7, hs1⟩ := hs.hide hb hc
      have hbn := (hs.heap b cells hb).1
      have hargs' : RepCs (colHide K μ b off) μ w args vs := hargs.step (step_hide g6) (by simp)
      refine ⟨doCall_callee hcall hd, g7, v, g1, sz, xs, by simp only [cellOwn, hb, hc], ?_, ?_⟩
      ·have hlt : off < cells1.length := (List.getElem?_eq_some_iff.1 hc1).1
       simp only [cellOwn, look_upd_same, List.getElem?_set_self hlt]
      refine (doCall_sound hcall hd hs1 hargs').mono ?_
      rintro e w' ⟨K1, μ1, hA, hR⟩
      obtain ⟨r1, r2, r3, r4, r5, u, rfl, r6⟩ := hR
      have hmu : μ1 b = μ b := hA.mu b hbn
      obtain ⟨q1, q2, q3, q4⟩ := r1.unhide hA.step hmu g1 g2 g3 g4 g5 g6 g7 hb1 hc1
      exact ⟨_, μ1, ⟨q1, hA.mu⟩, q4, r2, r3, r4, q3, hmu, u, rfl, r6.step q2 (by simp)⟩
     ·simp at h
    ·simp at h
   ·simp at h
  ·simp at h
 ·simp at h
theorem getD_put_ne (a : Act) {d t : Nat} (v : Value) (h : d ≠ t) : (a.put (some d) v).tmps.getD t Go.undef = a.tmps.getD t Go.undef := by
 rw [getD_put]; simp [h]
theorem ptr_yields {o : Oper} {ops : Array Oper} (hs : Sim K μ s a w) (hg : o.guard = none) (hl : (match o.op with | .move _ => true | .nilCheck _ => true | .fieldAddr _ _ _ => true | _ => false) = true) {b off : Nat}
  (h : evR P s.nid o s.tmps s.heap = some (.c (.ptr b off), none)) : Yields P ops o (.pointer (some (ad (μ b) off))) a ∧ b < s.nid := by
 have hw : Region.wanted o (yielded ops a.tmps) = true := by simp [Region.wanted, hg]
 cases ho : o.op with
 | move x =>
  simp only [evR, ho] at h
  split at h
  ·split at h <;> simp at h
  ·rename_i v _ hx
   simp only [Option.some.injEq, Prod.mk.injEq, and_true] at h
   subst h
   have hr := evT_rep hs hx
   simp only [RepV, RepC] at hr
   exact ⟨.inl ⟨hw, fun w' => by simp [execOp, ho, hr]⟩, evT_ids hs hx b (by simp [V.ids, C.ids])⟩
  ·simp at h
 | nilCheck x =>
  simp only [evR, ho] at h
  split at h
  ·rename_i b' off' hx
   simp only [Option.some.injEq, Prod.mk.injEq, V.c.injEq, C.ptr.injEq, and_true] at h
   obtain ⟨rfl, rfl⟩ := h
   have hr := ev_rep hs hx
   simp only [RepV, RepC] at hr
   exact ⟨.inl ⟨hw, fun w' => by simp [execOp, ho, hr]⟩, ev_ids hs hx b' (by simp [V.ids, C.ids])⟩
  ·simp at h
  ·simp at h
  ·simp at h
 | fieldAddr t x i =>
  simp only [evR, ho] at h
  split at h
  ·rename_i off0 ft b' o' hf hx
   split at h
   ·rename_i n hn
    simp only [Option.some.injEq, Prod.mk.injEq, V.c.injEq, C.ptr.injEq, and_true] at h
    obtain ⟨rfl, rfl⟩ := h
    obtain ⟨fs, f, ht, hfi, rfl, rfl⟩ := tfield_some hf
    have hr := ev_rep hs hx
    simp only [RepV, RepC] at hr
    refine ⟨.inl ⟨hw, fun w' => ?_⟩, ev_ids hs hx b' (by simp [V.ids, C.ids])⟩
    have hsz := sizeOf_run (w := w') hn
    simp [execOp, ho, hr, Instr.fieldAt, run_underlying ht, hfi, Instr.sureAddr, fieldPlace, hsz, Addr.add_lit]
   ·simp at h
  ·split at h <;> simp at h
  ·simp at h
 | _ => simp [ho] at hl
theorem take_ptrs {ops : Array Oper} {Q : Exit → Act → World → Prop} (hns : Region.noSelect ops = true) (hQ : ∀ c a w, ¬ Q (.panic c) a w) (hg : ∀ o ∈ ops.toList, o.guard = none) (hd : ∀ o ∈ ops.toList, ∀ t, o.dst = some t → t < a.tmps.size) :
  ∀ (is : List (Nat × Oper)) (fuel : Nat) (listed : Array Bool) (s s' : St) (a' : Act), a'.tmps.size = a.tmps.size → evPtrs P (is.map (·.2)) s = some s' → Sim K μ s a' w → (∀ x ∈ is, ops[x.1]? = some x.2) →
   (∀ pre i post, is.map (·.1) = pre ++ i :: post → Region.free .any ops (pre.foldl (fun r i => r.setIfInBounds i true) listed) i = true ∧ (Region.ready .any ops (pre.foldl (fun r i => r.setIfInBounds i true) listed)).contains i = true) →
   (∀ a'', Sim K μ s' a'' w → a''.tmps.size = a.tmps.size → wpAny P .any ops Q fuel ((is.map (·.1)).foldl (fun r i => r.setIfInBounds i true) listed) a'' w) → wpAny P .any ops Q (fuel + is.length) listed a' w
 | [], fuel, listed, s, s', a', hsz, he, hs, _, _, hk => by
  simp only [List.map_nil, evPtrs, Option.some.injEq] at he; subst he
  exact hk a' hs hsz
 | (i, o) :: is, fuel, listed, s, s', a', hsz, he, hs, hio, hfr, hk => by
  simp only [List.map_cons, evPtrs] at he
  split at he
  ·rename_i b off hl hev
   have ho := hio (i, o) (by simp)
   have hom : o ∈ ops.toList := by
    rw [← Array.getElem?_toList] at ho
    exact List.mem_of_getElem? ho
   obtain ⟨hy, hb⟩ := ptr_yields (ops := ops) hs (hg o hom) hl hev
   obtain ⟨f1, f2⟩ := hfr [] i (is.map (·.1)) (by simp)
   have hdd : ∀ t, o.dst = some t → t < a'.tmps.size := fun t ht => by rw [hsz]; exact hd o hom t ht
   have hs2 : Sim K μ (putDst o (.c (.ptr b off)) s) (a'.put o.dst (.pointer (some (ad (μ b) off)))) w :=
    hs.put hdd ⟨by simp [RepV, RepC], by simp [V.ids, C.ids]; exact hb, by simp, by simp⟩
   rw [show fuel + ((i, o) :: is).length = (fuel + is.length) + 1 from by simp; omega]
   refine wpAny_take ho hns f1 f2 (fun c a w h => absurd h (hQ c _ w)) hy ?_
   refine take_ptrs hns hQ hg hd is fuel _ _ s' _ (by rw [put_size]; exact hsz) he hs2 (fun x hx => hio x (by simp [hx])) ?_ ?_
   ·intro pre j post hp
    have := hfr (i :: pre) j post (by simp [hp])
    simpa using this
   ·intro a'' h1 h2
    have := hk a'' h1 h2
    simpa using this
  ·simp at he
theorem callH_wp {call : Call} (hcall : CallsOK P call) (hP : ProgOK P) {o : Oper} {b off d6 : Nat} {V : V} {s' : St} (h : evCallH P call b off o s = some (V, s')) (hs : Sim K μ s a w) (hd6 : o.dst = some d6) (hd : d6 < a.tmps.size)
  {next : Act → World → Prop} {Q : Exit → Act → World → Prop} (v : Value) (hv : w.cell? (ad (μ b) off) = some v)
  (hk : ∀ K' μ' a' w', After K μ w s.nid K' μ' w' → s.nid ≤ s'.nid → Sim K' μ' (putDst o V s') a' w' → a'.tmps.size = a.tmps.size → w'.cell? (ad (μ' b) off) = some v → μ' b = μ b → (∀ t, d6 ≠ t → a'.tmps.getD t Go.undef = a.tmps.getD t Go.undef) → next a' w') : o.wp P a w next Q := by
 unfold evCallH at h
 split at h
 ·rename_i c ho
  split at h
  ·rename_i f hc
   split at h
   ·rename_i g args hf hargs
    have hfr := ev_rep hs hf
    simp only [RepV, RepC] at hfr
    have hargr : RepCs K μ w args (c.args.toList.map a.eval) := argsT_rep hs hargs
    obtain ⟨hce, hlt, v0, hv0, sz, xs, hco, hco', hcal⟩ := doCallH_sound hcall h hs hargr
    rw [hv, Option.some.injEq] at hv0
    subst hv0
    have hrun : (execOp a.eval o).run P w = .ok (.enter g ((c.args.toList.map a.eval)).toArray) w := by
     have he := callFunc_run hP hce (c.args.map a.eval) w
     have e2 : (c.args.toList.map a.eval).toArray = c.args.map a.eval := by
      apply Array.ext'; simp
     rw [e2]
     simp [execOp, ho, resolve, hc, Deferred.ofValue, hfr, invoke, he]
    simp only [Oper.wp, hrun, Oper.upon_enter]
    refine hcal.mono ?_
    rintro e w' ⟨K', μ', haf, h1, h2, h3, h4, h5, h6, u, rfl, h7⟩
    refine hk K' μ' (a.put o.dst u) w' haf h2 ?_ (put_size _ _ _) h5 h6 ?_
    ·exact h1.put (fun t ht => by rw [hd6] at ht; simp only [Option.some.injEq] at ht; omega) ⟨h7, h4, fun sz xs e => absurd e (h3.1 sz xs), fun l sz xs e => absurd e (h3.2 l sz xs)⟩
    ·intro t ht
     rw [hd6]; exact getD_put_ne a u ht
   ·simp at h
  ·simp at h
 ·simp at h
theorem load_wp {o : Oper} {t : TypeId} {x d4 : Nat} {next : Act → World → Prop} {Q : Exit → Act → World → Prop} (ho : o.op = .load t (.tmp x)) (hd : o.dst = some d4) (ht : tagg P t = some false) {g off : Nat} {v : Value}
  (hx : a.tmps.getD x Go.undef = .pointer (some (ad g off))) (hv : w.cell? (ad g off) = some v) (h : next (a.put (some d4) v) w) : o.wp P a w next Q := by
 have hrun : (execOp a.eval o).run P w = .ok (.value v) w := by
  have hx' : a.eval (.tmp x) = .pointer (some (ad g off)) := hx
  simp [execOp, ho, hx', Instr.loadAt, Instr.sureAddr, loadVar_one ht _ _ _ hv]
 simp only [Oper.wp, hrun, Oper.upon_value, hd]
 exact h
theorem seq_any {call : Call} (hcall : CallsOK P call) (hP : ProgOK P) {ops : Array Oper} {Q : Exit → Act → World → Prop} {sz base : Nat} {K0 : Col} {μ0 : Nat → Nat} {w0 : World} (hg : ∀ o ∈ ops.toList, o.guard = none) (hd : ∀ o ∈ ops.toList, ∀ t, o.dst = some t → t < sz) :
  ∀ (is : List (Nat × Oper)) (listed : Array Bool) (K : Col) (μ : Nat → Nat) (s s' : St) (a : Act) (w : World), a.tmps.size = sz → evSeq P call (is.map (·.2)) s = some s' → Sim K μ s a w → (∀ x ∈ is, ops[x.1]? = some x.2) → After K0 μ0 w0 base K μ w → base ≤ s.nid →
   (∀ pre i post, is.map (·.1) = pre ++ i :: post → Region.ready .any ops (pre.foldl (fun r i => r.setIfInBounds i true) listed) = [i]) →
   Region.ready .any ops ((is.map (·.1)).foldl (fun r i => r.setIfInBounds i true) listed) = [] →
   (∀ K' μ' a' w', After K0 μ0 w0 base K' μ' w' → base ≤ s'.nid → Sim K' μ' s' a' w' → a'.tmps.size = sz → Q .normal a' w') → wpAny P .any ops Q is.length listed a w
 | [], listed, K, μ, s, s', a, w, hsz, he, hs, _, haf, hb, _, hfin, hk => by
  simp only [List.map_nil, evSeq, Option.some.injEq] at he; subst he
  exact wpAny_done (by simpa using hfin) (hk K μ a w haf hb hs hsz) _
 | (i, o) :: is, listed, K, μ, s, s', a, w, hsz, he, hs, hio, haf, hb, hfr, hfin, hk => by
  simp only [List.map_cons, evSeq] at he
  split at he
  ·rename_i V s1 ft hev
   have ho := hio (i, o) (by simp)
   have hom : o ∈ ops.toList := by
    rw [← Array.getElem?_toList] at ho
    exact List.mem_of_getElem? ho
   have f1 := hfr [] i (is.map (·.1)) (by simp)
   rw [show ((i, o) :: is).length = is.length + 1 from by simp]
   refine wpAny_all (rs := [i]) (by simpa using f1) (by simp) ?_
   intro j hj
   simp only [List.mem_singleton] at hj; subst hj
   unfold wpOp
   simp only at ho
   have hw : Region.wanted o (yielded ops a.tmps) = true := by simp [Region.wanted, hg o hom]
   simp only [ho, hw, if_true]
   refine .inl (op_sound hcall hP hs hev (fun t ht => by rw [hsz]; exact hd o hom t ht) ⟨?_, by intro d s' K' μ' w' u e; simp at e⟩)
   intro V' s'' K' μ' a' w' e haf' hn hs' hsz'
   simp only [ORes.val.injEq] at e
   obtain ⟨rfl, rfl⟩ := e
   refine seq_any hcall hP hg hd is _ K' μ' _ s' a' w' (by rw [hsz', hsz]) he hs' (fun x hx => hio x (by simp [hx])) (haf.trans haf' hb) ?_ ?_ ?_ hk
   ·show base ≤ (putDst o V s1).nid
    rw [putDst, putSt_nid]; omega
   ·intro pre k post hp
    have := hfr (j :: pre) k post (by simp [hp])
    simpa using this
   ·simpa using hfin
  ·simp at he
theorem Sim.forget (h : Sim K μ s a w) {d : Nat} (hd : d < a.tmps.size) (hn : look d s.tmps = none) (v : Value) {b off sz : Nat} {xs : List D} (hrep : Rep K w (.list sz xs) v) (htied : Tied μ s a w (.cell b off) v) : Sim K μ s (a.put (some d) v) w := by
 have h1 : Sim K μ (putSt (some d) (.view (.cell b off) sz xs) s) (a.put (some d) v) w :=
  h.put (fun t ht => by simp only [Option.some.injEq] at ht; omega) ⟨hrep, by simp [V.ids], by simp, fun l z ys e => by simp only [V.view.injEq] at e; obtain ⟨rfl, rfl, rfl⟩ := e; exact htied⟩
 have h2 := h1.weaken (tm := s.tmps) (fun t u ht => ⟨u, by
  have hne : d ≠ t := by rintro rfl; rw [hn] at ht; simp at ht
  simp only [putSt, setTmp, look]
  rw [if_neg hne]; exact ht, .inl rfl⟩)
 exact h2
theorem build_at {call : Call} {o : Oper} {t : TypeId} {n : Nat} {ps : Array (Nat × Operand)} {d4 d6 : Nat} (ho : o.op = .buildSlice t n ps) (hps : ps.toList = [(0, .tmp d6)]) (hne : d4 ≠ d6) {u V : V} {s s' : St} {ft : Foot}
  (h : evOp P call s.nid o { s with tmps := (d4, u) :: s.tmps } = some (.val V s', ft)) : s' = { s with tmps := (d4, u) :: s.tmps } ∧ (∃ z ys, V = .c (.own z ys)) ∧ ∃ ft', evOp P call s.nid o s = some (.val V s, ft') := by
 have hl : look d6 ((d4, u) :: s.tmps) = look d6 s.tmps := by simp only [look]; rw [if_neg hne]
 have he : ∀ e, evT P e ((d4, u) :: s.tmps) (.tmp d6) = evT P e s.tmps (.tmp d6) := fun e => by simp only [evT, ev, hl]
 have hel : ∀ e k, elemsC P e k ((d4, u) :: s.tmps) 0 [(0, .tmp d6)] = elemsC P e k s.tmps 0 [(0, .tmp d6)] := fun e k => by simp only [elemsC, he]
 have hfn : fnPs [(0, Operand.tmp d6)] = none := rfl
 simp only [evOp, ho, evR, hps, hel, hfn] at h ⊢
 split at h
 ·rename_i v hv
  simp only [Option.some.injEq, Prod.mk.injEq, ORes.val.injEq] at h
  obtain ⟨⟨rfl, rfl⟩, _⟩ := h
  refine ⟨rfl, ?_, ?_⟩
  ·split at hv
   ·split at hv
    ·split at hv
     ·split at hv
      ·simp only [Option.some.injEq, Prod.mk.injEq, and_true] at hv
       exact ⟨_, _, hv.symm⟩
      ·simp at hv
     ·simp at hv
    ·simp at hv
   ·simp at hv
  ·exact ⟨_, rfl⟩
 ·rename_i v cs hv
  exfalso
  split at hv
  ·split at hv
   ·split at hv
    ·split at hv <;> simp at hv
    ·simp at hv
   ·simp at hv
  ·simp at hv
 ·simp at h
theorem putSt_heap {d : Option Nat} {v : V} : (putSt d v s).heap = s.heap := by cases d <;> rfl
theorem evPtrs_nid : ∀ {l : List Oper} {s s' : St}, evPtrs P l s = some s' → s'.nid = s.nid
 | [], s, s', h => by simp only [evPtrs, Option.some.injEq] at h; subst h; rfl
 | o :: r, s, s', h => by
  simp only [evPtrs] at h
  split at h
  ·rw [evPtrs_nid h]; exact putSt_nid
  ·simp at h
theorem evCallH_own {call : Call} {b off : Nat} {o : Oper} {V : V} {s' : St} (h : evCallH P call b off o s = some (V, s')) : ∃ sz xs, cellOwn s.heap b off = some (sz, xs) := by
 unfold evCallH at h
 split at h
 ·split at h
  ·split at h
   ·unfold doCallH at h
    split at h
    ·rename_i cells hb
     split at h
     ·rename_i sz xs hc
      exact ⟨sz, xs, by simp only [cellOwn, hb, hc]⟩
     ·simp at h
    ·simp at h
   ·simp at h
  ·simp at h
 ·simp at h
theorem look_unviewIn_c (ids : List Nat) {t : Nat} {c : C} : ∀ {tm : List (Nat × V)}, look t tm = some (.c c) → look t (AM.unviewIn ids tm) = some (.c c)
 | [], h => by simp [look] at h
 | (j, v) :: r, h => by
  simp only [look] at h
  split at h
  ·rename_i e; subst e
   simp only [Option.some.injEq] at h; subst h
   simp only [AM.unviewIn, look, if_true]
  ·rename_i e
   have ih := look_unviewIn_c ids (tm := r) h
   cases v with
   | view l sz xs => cases l <;> simp only [AM.unviewIn, look] <;> rw [if_neg e] <;> exact ih
   | _ => simp only [AM.unviewIn, look]; rw [if_neg e]; exact ih
theorem look_unview_c (l : Loc) {t : Nat} {c : C} {tm : List (Nat × V)} (h : look t tm = some (.c c)) : look t (AM.unview l tm) = some (.c c) := by
 rw [look_unview, h]; rfl
theorem evCallH_tmp {call : Call} {b off : Nat} {o : Oper} {V : V} {s' : St} (h : evCallH P call b off o s = some (V, s')) {t : Nat} {c : C} (ht : look t s.tmps = some (.c c)) : look t s'.tmps = some (.c c) := by
 unfold evCallH at h
 split at h
 ·split at h
  ·split at h
   ·unfold doCallH at h
    split at h
    ·split at h
     ·split at h
      ·rename_i hdc
       split at h
       ·split at h
        ·simp only [Option.some.injEq, Prod.mk.injEq] at h
         obtain ⟨rfl, rfl⟩ := h
         refine look_unview_c _ ?_
         unfold doCall at hdc
         split at hdc
         ·simp at hdc
         ·split at hdc
          ·split at hdc
           ·split at hdc
            ·simp only [Option.some.injEq, Prod.mk.injEq, ORes.val.injEq] at hdc
             obtain ⟨⟨_, rfl⟩, _⟩ := hdc
             exact look_unviewIn_c _ ht
            ·simp at hdc
           ·split at hdc <;> simp at hdc
           ·simp at hdc
          ·simp at hdc
        ·simp at h
       ·simp at h
      ·simp at h
     ·simp at h
    ·simp at h
   ·simp at h
  ·simp at h
 ·simp at h
def noPan (Q : Exit → Act → World → Prop) : Exit → Act → World → Prop := fun e a w => (∀ c, e ≠ .panic c) ∧ Q e a w
theorem noPan_pan {Q : Exit → Act → World → Prop} {c} {a : Act} {w : World} : ¬ noPan Q (.panic c) a w := fun h => h.1 c rfl
theorem look_putDst_c {o : Oper} {d t : Nat} {V : V} {c : C} (hd : o.dst = some d) (hne : d ≠ t) (h : look t s.tmps = some (.c c)) : look t (putDst o V s).tmps = some (.c c) := by
 simp only [putDst, putSt, hd]
 unfold setTmp
 split
 ·simp only [look]; rw [if_neg hne]; exact look_unview_c _ h
 ·simp only [look]; rw [if_neg hne]; exact h
theorem lst_4 : (lst 12 [0, 1, 2, 3, 5]).setIfInBounds 4 true = lst 12 [0, 1, 2, 3, 5, 4] := by decide
theorem lst_46 : (lst 12 [0, 1, 2, 3, 5, 4]).setIfInBounds 6 true = lst 12 [0, 1, 2, 3, 5, 4, 6] := by decide
theorem lst_467 : (lst 12 [0, 1, 2, 3, 5, 4, 6]).setIfInBounds 7 true = lst 12 [0, 1, 2, 3, 5, 4, 6, 7] := by decide
theorem lst_6 : (lst 12 [0, 1, 2, 3, 5]).setIfInBounds 6 true = lst 12 [0, 1, 2, 3, 5, 6] := by decide
theorem lst_64 : (lst 12 [0, 1, 2, 3, 5, 6]).setIfInBounds 4 true = lst 12 [0, 1, 2, 3, 5, 6, 4] := by decide
theorem lst_647 : (lst 12 [0, 1, 2, 3, 5, 6, 4]).setIfInBounds 7 true = lst 12 [0, 1, 2, 3, 5, 4, 6, 7] := by decide
theorem lst_67 : (lst 12 [0, 1, 2, 3, 5, 6]).setIfInBounds 7 true = lst 12 [0, 1, 2, 3, 5, 6, 7] := by decide
theorem lst_674 : (lst 12 [0, 1, 2, 3, 5, 6, 7]).setIfInBounds 4 true = lst 12 [0, 1, 2, 3, 5, 4, 6, 7] := by decide
set_option maxHeartbeats 4000000 in
theorem selfApp_sound {call : Call} (hcall : CallsOK P call) (hP : ProgOK P) {ops : Array Oper} {sz : Nat} (hd : ∀ o ∈ ops.toList, ∀ t, o.dst = some t → t < sz) {x : AX} {s' : St} (h : selfApp P call ops s = some (x, s')) (hs : Sim K μ s a w) (hsz : a.tmps.size = sz)
  {Q : Exit → Act → World → Prop} (hg : Goal K μ w s.nid sz x s' Q) (id : Nat) : (Code.region id ops true).wp P Q a w := by
 unfold selfApp at h
 split at h
 ·rename_i o0 o1 o2 o3 o4 o5 o6 o7 o8 o9 o10 o11 hchk hops
  unfold selfChk at hchk
  rw [hops] at hchk
  simp only [Bool.and_eq_true, beq_iff_eq, List.all_eq_true, Option.isNone_iff_eq_none] at hchk
  obtain ⟨⟨⟨⟨hgd, hns⟩, hshape⟩, hfree⟩, hrdy⟩ := hchk
  obtain ⟨⟨⟨⟨⟨⟨⟨⟨⟨⟨r1, r2⟩, r3⟩, r4⟩, r5⟩, r6⟩, r7⟩, r8⟩, r9⟩, r10⟩, r11⟩ := hrdy
  have hsize : ops.size = 12 := by rw [← Array.length_toList, hops]; rfl
  have hget : ∀ (i : Nat) (o : Oper), [o0, o1, o2, o3, o4, o5, o6, o7, o8, o9, o10, o11][i]? = some o → ops[i]? = some o := by
   intro i o hi
   rw [← Array.getElem?_toList, hops]; exact hi
  split at h
  ·rename_i s0 t xx d4 d6 hp ho4 hd4 hd6
   rw [ho4, hd4, hd6] at hshape
   split at hshape
   ·rename_i tt xx' d4' d6' tb nb ps d7 e1 e2 e3 ho7 hd7
    simp only [Op.load.injEq, Operand.tmp.injEq, Option.some.injEq] at e1 e2 e3
    obtain ⟨rfl, rfl⟩ := e1
    subst e2; subst e3
    split at hshape
    ·rename_i pp hps
     simp only [Bool.and_eq_true, beq_iff_eq, bne_iff_ne, ne_eq] at hshape
     obtain ⟨⟨⟨⟨⟨⟨hpp, n46⟩, n47⟩, n67⟩, nx4⟩, nx6⟩, nx7⟩ := hshape
     replace hpp := hpp.symm
     subst hpp
     split at h
     ·rename_i b off hxx htg
      split at h
      ·rename_i Vc s1 hcl
       split at h
       ·rename_i szl xs hown
        split at h
        ·rename_i s2 hseq
         simp only [Option.some.injEq, Prod.mk.injEq] at h
         obtain ⟨rfl, rfl⟩ := h
         refine wp_mono (Q := fun e a w => (∀ c, e ≠ .panic c) ∧ Q e a w) ?_ (fun e a w h => h.2)
         refine wp_region_any hP.mixed ?_
         obtain ⟨hdr, hs1⟩ := hs.drawn (w.drawn + 1)
         generalize hw1 : ({ w with drawn := w.drawn + 1 } : World) = w1 at hdr hs1
         have hdd : ∀ o ∈ ops.toList, ∀ t, o.dst = some t → t < a.tmps.size := fun o ho t ht => by rw [hsz]; exact hd o ho t ht
         have hgd' : ∀ o ∈ ops.toList, o.guard = none := fun o ho => hgd o (by rw [hops] at ho; exact ho)
         rw [hsize]
         have hlst0 : Array.replicate 12 false = lst 12 [] := rfl
         rw [hlst0]
         refine take_ptrs (a := a) hns (fun _ _ _ => noPan_pan) hgd' hdd [(0, o0), (1, o1), (2, o2), (3, o3), (5, o5)] 7 (lst 12 []) s s0 a rfl hp hs1 ?_ ?_ ?_
         ·intro y hy
          simp only [List.mem_cons, List.not_mem_nil, or_false] at hy
          rcases hy with rfl | rfl | rfl | rfl | rfl <;> exact hget _ _ rfl
         ·intro pre i post hpre
          have hf : ∀ q ∈ [(([] : List Nat), 0), ([0], 1), ([0, 1], 2), ([0, 1, 2], 3), ([0, 1, 2, 3], 5)], Region.free .any ops (lst 12 q.1) q.2 = true ∧ (Region.ready .any ops (lst 12 q.1)).contains q.2 = true := hfree
          have hmem : (pre, i) ∈ [(([] : List Nat), 0), ([0], 1), ([0, 1], 2), ([0, 1, 2], 3), ([0, 1, 2, 3], 5)] := by
           rcases pre with _ | ⟨p0, _ | ⟨p1, _ | ⟨p2, _ | ⟨p3, _ | ⟨p4, pre⟩⟩⟩⟩⟩ <;> simp at hpre <;> simp [hpre]
          exact hf _ hmem
         intro a2 hs2 hsz2
         show wpAny P .any ops (noPan Q) 7 (lst 12 [0, 1, 2, 3, 5]) a2 w1
         have hnid0 : s0.nid = s.nid := evPtrs_nid hp
         have hxval : a2.tmps.getD xx Go.undef = .pointer (some (ad (μ b) off)) := by
          have := (hs2.tm xx _ hxx).2
          simpa [RepV, RepC] using this
         have hbn : b < s0.nid := hs2.tids xx _ hxx b (by simp [V.ids, C.ids])
         have hsD : Sim K μ (dropT [d4, d6] s0) a2 w1 := hs2.dropped _
         have h4lt : d4 < sz := hd o4 (by rw [hops]; simp) d4 hd4
         have h6lt : d6 < sz := hd o6 (by rw [hops]; simp) d6 hd6
         have h7lt : d7 < sz := hd o7 (by rw [hops]; simp) d7 hd7
         have hsz2' : a2.tmps.size = sz := by rw [hsz2, hsz]
         obtain ⟨v4, hv4, xs0, sz0, hrep0, hco0⟩ : ∃ v4, w1.cell? (ad (μ b) off) = some v4 ∧ ∃ xs0 sz0, Rep K w1 (.list sz0 xs0) v4 ∧ cellOwn (dropT [d4, d6] s0).heap b off = some (sz0, xs0) := by
          obtain ⟨sz0, xs0, hco⟩ := evCallH_own hcl
          unfold cellOwn at hco
          split at hco
          ·rename_i cells hb
           split at hco
           ·rename_i z ys hc
            simp only [Option.some.injEq, Prod.mk.injEq] at hco
            obtain ⟨rfl, rfl⟩ := hco
            obtain ⟨v, g1, _, _, g4, _⟩ := hsD.hide hb hc
            exact ⟨v, g1, ys, z, g4, by simp only [cellOwn, hb, hc]⟩
           ·simp at hco
          ·simp at hco
         have htied0 : ∀ A : Act, Tied μ (dropT [d4, d6] s0) A w1 (.cell b off) v4 := fun A cells z ys _ _ => hv4
         have rest8 : ∀ (K' : Col) (μ' : Nat → Nat) (A : Act) (W : World) (S : St), evSeq P call [o8, o9, o10, o11] S = some s2 → Sim K' μ' S A W → A.tmps.size = sz → After K μ w s.nid K' μ' W → s.nid ≤ S.nid →
           wpAny P .any ops (noPan Q) 4 (lst 12 [0, 1, 2, 3, 5, 4, 6, 7]) A W := by
          intro K' μ' A W S hev hS hA haf hn
          refine seq_any hcall hP hgd' hd [(8, o8), (9, o9), (10, o10), (11, o11)] _ K' μ' S s2 A W hA hev hS ?_ haf hn ?_ ?_ ?_
          ·intro y hy
           simp only [List.mem_cons, List.not_mem_nil, or_false] at hy
           rcases hy with rfl | rfl | rfl | rfl <;> exact hget _ _ rfl
          ·intro pre i post hpre
           rcases pre with _ | ⟨p0, _ | ⟨p1, _ | ⟨p2, _ | ⟨p3, pre⟩⟩⟩⟩ <;> simp at hpre
           ·obtain ⟨rfl, _⟩ := hpre; exact r7
           ·obtain ⟨rfl, rfl, _⟩ := hpre; exact r8
           ·obtain ⟨rfl, rfl, rfl, _⟩ := hpre; exact r9
           ·obtain ⟨rfl, rfl, rfl, rfl, _⟩ := hpre; exact r10
          ·exact List.isEmpty_iff.1 r11
          ·intro K2 μ2 A2 W2 haf2 hn2 hS2 hA2
           exact ⟨by simp, hg .normal K2 μ2 A2 W2 rfl haf2 hn2 hS2 hA2⟩
         simp only [evSeq] at hseq
         split at hseq
         ·rename_i V7 s3' ft7 hev7
          replace hev7 : evOp P call (putDst o6 Vc s1).nid o7 { putDst o6 Vc s1 with tmps := (d4, .view (.cell b off) szl xs) :: (putDst o6 Vc s1).tmps } = some (.val V7 s3', ft7) := hev7
          obtain ⟨rfl, ⟨z7, y7, rfl⟩, ft7', hev7'⟩ := build_at ho7 hps n46 hev7
          have hnidc : (putDst o6 Vc s1).nid = s1.nid := putSt_nid
          have hw67 : ∀ (o : Oper) (A : Act), o ∈ ops.toList → Region.wanted o (yielded ops A.tmps) = true := fun o A ho => by simp [Region.wanted, hgd' o ho]
          have m4 : o4 ∈ ops.toList := by rw [hops]; simp
          have m6 : o6 ∈ ops.toList := by rw [hops]; simp
          have m7 : o7 ∈ ops.toList := by rw [hops]; simp
          have do7 : ∀ (K' : Col) (μ' : Nat → Nat) (A : Act) (W : World), Sim K' μ' { putDst o6 Vc s1 with tmps := (d4, .view (.cell b off) szl xs) :: (putDst o6 Vc s1).tmps } A W → A.tmps.size = sz → After K μ w s.nid K' μ' W → s.nid ≤ s1.nid → ∀ L : Array Bool, L = lst 12 [0, 1, 2, 3, 5, 4, 6, 7] →
            wpOp P ops (noPan Q) 7 (wpAny P .any ops (noPan Q) 4 L) A W := by
           rintro K' μ' A W hS hA haf hn L rfl
           unfold wpOp
           rw [hget 7 o7 rfl]
           simp only [hw67 o7 A m7, if_true]
           refine .inl (op_sound hcall hP hS hev7 (fun t ht => by rw [hA]; exact hd o7 m7 t ht) ⟨?_, by intro d s' K' μ' w' u e; simp at e⟩)
           intro V' s'' K2 μ2 A2 W2 e haf2 hn2 hS2 hA2
           simp only [ORes.val.injEq] at e
           obtain ⟨rfl, rfl⟩ := e
           refine rest8 K2 μ2 A2 W2 _ hseq hS2 (by rw [hA2, hA]) (haf.trans haf2 ?_) ?_
           ·show s.nid ≤ (putDst o6 Vc s1).nid; rw [hnidc]; exact hn
           ·show s.nid ≤ (putDst o7 _ _).nid
            rw [putDst, putSt_nid]
            show s.nid ≤ (putDst o6 Vc s1).nid; rw [hnidc]; exact hn
          have hafw : ∀ {K' : Col} {μ' : Nat → Nat} {W : World}, After K μ w1 (dropT [d4, d6] s0).nid K' μ' W → After K μ w s.nid K' μ' W := by
           intro K' μ' W haf
           have : After K μ w s.nid K μ w1 := ⟨hdr, fun _ _ => rfl⟩
           exact this.trans haf (by show s.nid ≤ s0.nid; omega)
          have hcellrep : ∀ {K' : Col} {μ' : Nat → Nat} {A : Act} {W : World}, Sim K' μ' (putDst o6 Vc s1) A W → ∃ v, W.cell? (ad (μ' b) off) = some v ∧ Rep K' W (.list szl xs) v := by
           intro K' μ' A W hS
           unfold cellOwn at hown
           split at hown
           ·rename_i cells hb
            split at hown
            ·rename_i z ys hc
             simp only [Option.some.injEq, Prod.mk.injEq] at hown
             obtain ⟨rfl, rfl⟩ := hown
             obtain ⟨v, g1, _, _, g4, _⟩ := hS.hide (b := b) (off := off) (cells := cells) (by rw [show (putDst o6 Vc s1).heap = s1.heap from putSt_heap]; exact hb) hc
             exact ⟨v, g1, g4⟩
            ·simp at hown
           ·simp at hown
          have hview : ∀ {K' : Col} {μ' : Nat → Nat} {A : Act} {W : World} {v : Value}, Sim K' μ' (putDst o6 Vc s1) A W → W.cell? (ad (μ' b) off) = some v → A.tmps.getD d4 Go.undef = v → A.tmps.size = sz →
            Sim K' μ' { putDst o6 Vc s1 with tmps := (d4, .view (.cell b off) szl xs) :: (putDst o6 Vc s1).tmps } A W := by
           intro K' μ' A W v hS hv hAv hA
           obtain ⟨v', h1, h2⟩ := hcellrep hS
           rw [hv, Option.some.injEq] at h1; subst h1
           have := hS.put (dst := some d4) (V := .view (.cell b off) szl xs) (v := v) (fun t ht => by simp only [Option.some.injEq] at ht; subst ht; rw [hA]; exact h4lt)
            ⟨h2, by simp [V.ids], by simp, fun l z ys e => by simp only [V.view.injEq] at e; obtain ⟨rfl, rfl, rfl⟩ := e; exact fun cells z ys _ _ => hv⟩
           rw [← hAv, put_same A (by rw [hA]; exact h4lt)] at this
           exact this
          refine wpAny_all (rs := [4, 6]) r1 (by simp) ?_
          intro i hi
          simp only [List.mem_cons, List.not_mem_nil, or_false] at hi
          rcases hi with rfl | rfl
          ·-- the load
           unfold wpOp
           rw [hget 4 o4 rfl]
           simp only [hw67 o4 a2 m4, if_true]
           refine .inl (load_wp ho4 hd4 htg hxval hv4 ?_)
           rw [lst_4]
           have hsA : Sim K μ (dropT [d4, d6] s0) (a2.put (some d4) v4) w1 := hsD.forget (by rw [hsz2']; exact h4lt) (by
            show look d4 (s0.tmps.filter fun p => !([d4, d6] : List Nat).contains p.1) = none
            rw [look_drop]; simp) v4 hrep0 (htied0 a2)
           refine wpAny_all (rs := [6]) r2 (by simp) ?_
           intro i hi
           simp only [List.mem_singleton] at hi; subst hi
           unfold wpOp
           rw [hget 6 o6 rfl]
           simp only [hw67 o6 _ m6, if_true]
           refine .inl (callH_wp hcall hP hcl hsA hd6 (by rw [put_size, hsz2']; exact h6lt) v4 hv4 ?_)
           rw [lst_46]
           intro K' μ' A W haf hn hS hA hcv hmu hkeep
           have hA4 : A.tmps.getD d4 Go.undef = v4 := by
            rw [hkeep d4 (fun e => n46 e.symm), getD_put]; simp [show d4 < a2.tmps.size by rw [hsz2']; exact h4lt]
           have hAsz : A.tmps.size = sz := by rw [hA, put_size]; exact hsz2'
           refine wpAny_all (rs := [7]) r3 (by simp) ?_
           intro i hi
           simp only [List.mem_singleton] at hi; subst hi
           exact do7 K' μ' A W (hview hS hcv hA4 hAsz) hAsz (hafw haf) (by have : s0.nid ≤ s1.nid := hn; omega) _ lst_467
          ·-- the call
           unfold wpOp
           rw [hget 6 o6 rfl]
           simp only [hw67 o6 a2 m6, if_true]
           refine .inl (callH_wp hcall hP hcl hsD hd6 (by rw [hsz2']; exact h6lt) v4 hv4 ?_)
           rw [lst_6]
           intro K' μ' A W haf hn hS hA hcv hmu hkeep
           have hAsz : A.tmps.size = sz := by rw [hA]; exact hsz2'
           have hAx : A.tmps.getD xx Go.undef = .pointer (some (ad (μ' b) off)) := by
            rw [hkeep xx (fun e => nx6 e.symm), hxval, hmu]
           have hn1 : s.nid ≤ s1.nid := by have : s0.nid ≤ s1.nid := hn; omega
           refine wpAny_all (rs := [4, 7]) r4 (by simp) ?_
           intro i hi
           simp only [List.mem_cons, List.not_mem_nil, or_false] at hi
           rcases hi with rfl | rfl
           ·-- then the load
            unfold wpOp
            rw [hget 4 o4 rfl]
            simp only [hw67 o4 A m4, if_true]
            refine .inl (load_wp ho4 hd4 htg hAx hcv ?_)
            rw [lst_64]
            obtain ⟨v', g1, g2⟩ := hcellrep hS
            rw [hcv, Option.some.injEq] at g1; subst g1
            have hS2 := hS.put (dst := some d4) (V := .view (.cell b off) szl xs) (v := v4) (fun t ht => by simp only [Option.some.injEq] at ht; subst ht; rw [hAsz]; exact h4lt)
             ⟨g2, by simp [V.ids], by simp, fun l z ys e => by simp only [V.view.injEq] at e; obtain ⟨rfl, rfl, rfl⟩ := e; exact fun cells z ys _ _ => hcv⟩
            refine wpAny_all (rs := [7]) r5 (by simp) ?_
            intro i hi
            simp only [List.mem_singleton] at hi; subst hi
            exact do7 K' μ' _ W hS2 (by rw [put_size]; exact hAsz) (hafw haf) hn1 _ lst_647
           ·-- the slice is built ahead of the load
            unfold wpOp
            rw [hget 7 o7 rfl]
            simp only [hw67 o7 A m7, if_true]
            rw [lst_67]
            refine .inl (op_sound hcall hP hS hev7' (fun t ht => by rw [hAsz]; exact hd o7 m7 t ht) ⟨?_, by intro d s' K' μ' w' u e; simp at e⟩)
            intro V' s'' K2 μ2 A2 W2 e haf2 hn2 hS2 hA2
            simp only [ORes.val.injEq] at e
            obtain ⟨rfl, rfl⟩ := e
            refine wpAny_all (rs := [4]) r6 (by simp) ?_
            intro i hi
            simp only [List.mem_singleton] at hi; subst hi
            unfold wpOp
            rw [hget 4 o4 rfl]
            simp only [hw67 o4 A2 m4, if_true]
            have hAsz2 : A2.tmps.size = sz := by rw [hA2, hAsz]
            have hl0 : look xx (dropT [d4, d6] s0).tmps = some (.c (.ptr b off)) := by
             show look xx (s0.tmps.filter fun p => !([d4, d6] : List Nat).contains p.1) = _
             rw [look_drop, if_neg (by simp [nx4, nx6]), hxx]
            have hl1 := evCallH_tmp hcl hl0
            have hl2 : look xx (putDst o6 Vc s1).tmps = some (.c (.ptr b off)) := look_putDst_c hd6 (fun e => nx6 e.symm) hl1
            have hl3 : look xx (putDst o7 (.c (.own z7 y7)) (putDst o6 Vc s1)).tmps = some (.c (.ptr b off)) := look_putDst_c hd7 (fun e => nx7 e.symm) hl2
            have hAx2 : A2.tmps.getD xx Go.undef = .pointer (some (ad (μ2 b) off)) := by
             have := (hS2.tm xx _ hl3).2
             simpa [RepV, RepC] using this
            obtain ⟨v5, hv5, hrep5⟩ : ∃ v, W2.cell? (ad (μ2 b) off) = some v ∧ Rep K2 W2 (.list szl xs) v := by
             unfold cellOwn at hown
             split at hown
             ·rename_i cells hb
              split at hown
              ·rename_i z ys hc
               simp only [Option.some.injEq, Prod.mk.injEq] at hown
               obtain ⟨rfl, rfl⟩ := hown
               obtain ⟨v, g1, _, _, g4, _⟩ := hS2.hide (b := b) (off := off) (cells := cells) (by
                rw [show (putDst o7 (.c (.own z7 y7)) (putDst o6 Vc s1)).heap = s1.heap from by rw [putDst, putSt_heap, putDst, putSt_heap]]; exact hb) hc
               exact ⟨v, g1, g4⟩
              ·simp at hown
             ·simp at hown
            refine .inl (load_wp ho4 hd4 htg hAx2 hv5 ?_)
            have hS3 := hS2.put (dst := some d4) (V := .view (.cell b off) szl xs) (v := v5) (fun t ht => by simp only [Option.some.injEq] at ht; subst ht; rw [hAsz2]; exact h4lt)
             ⟨hrep5, by simp [V.ids], by simp, fun l z ys e => by simp only [V.view.injEq] at e; obtain ⟨rfl, rfl, rfl⟩ := e; exact fun cells z ys _ _ => hv5⟩
            have hS4 := hS3.weaken (tm := (putDst o7 (.c (.own z7 y7)) { putDst o6 Vc s1 with tmps := (d4, .view (.cell b off) szl xs) :: (putDst o6 Vc s1).tmps }).tmps) (fun t u ht => ⟨u, by
             simp only [putDst, putSt, hd7, setTmp, AM.unview] at ht ⊢
             simp only [look] at ht ⊢
             by_cases e1 : d7 = t
             ·subst e1
              rw [if_neg n47]
              simpa using ht
             ·rw [if_neg e1] at ht ⊢
              simpa using ht, .inl rfl⟩)
            rw [lst_674]
            refine rest8 K2 μ2 _ W2 _ hseq ?_ (by rw [put_size]; exact hAsz2) ((hafw haf).trans haf2 ?_) ?_
            ·have e : ({ putSt (some d4) (.view (.cell b off) szl xs) (putDst o7 (.c (.own z7 y7)) (putDst o6 Vc s1)) with tmps := (putDst o7 (.c (.own z7 y7)) { putDst o6 Vc s1 with tmps := (d4, .view (.cell b off) szl xs) :: (putDst o6 Vc s1).tmps }).tmps } : St) = putDst o7 (.c (.own z7 y7)) { putDst o6 Vc s1 with tmps := (d4, .view (.cell b off) szl xs) :: (putDst o6 Vc s1).tmps } := by
              simp only [putDst, putSt, hd7]
             rw [← e]; exact hS4
            ·show s.nid ≤ (putDst o6 Vc s1).nid; rw [hnidc]; exact hn1
            ·show s.nid ≤ (putDst o7 _ _).nid
             rw [putDst, putSt_nid]
             show s.nid ≤ (putDst o6 Vc s1).nid; rw [hnidc]; exact hn1
         ·simp at hseq
        ·simp at h
       ·simp at h
      ·simp at h
     ·simp at h
    ·simp at hshape
   ·simp at hshape
  ·simp at h
 ·simp at h
end
end Go.AM

namespace Go.AM
open Go
variable [Globs]
section
variable {P : Program} {K K' : Col} {μ μ' : Nat → Nat} {w w' : World} {s : St} {a : Act}
theorem iter_sound {f : St → Option (AX × St)} {keep : List Nat} {n sz : Nat} {c : Code} {x : AX} {s' : St} {Q : Exit → Act → World → Prop}
  (hf : ∀ {K : Col} {μ : Nat → Nat} {w : World} {s : St} {a : Act} {x : AX} {s' : St} {Q : Exit → Act → World → Prop}, f s = some (x, s') → Sim K μ s a w → a.tmps.size = sz → Goal K μ w s.nid sz x s' Q → c.wp P Q a w) :
  ∀ (k : Nat) (K : Col) (μ : Nat → Nat) (s : St) (a : Act) (w : World), iter f (cleanAt keep n) k s = some (x, s') → Sim K μ s a w → a.tmps.size = sz → n ≤ s.nid → Goal K μ w n sz x s' Q → Code.rounds P c Q k a w
 | 0, K, μ, s, a, w, h, _, _, _, _ => by simp [iter] at h
 | k + 1, K, μ, s, a, w, h, hs, hsz, hn, hg => by
  simp only [iter] at h
  rw [rounds_succ]
  split at h
  ·simp at h
  ·rename_i s1 hc
   obtain ⟨hs1, hn1, _⟩ := hs.clean hc
   split at h
   ·rename_i s2 hf2
    refine hf hf2 hs1 hsz ?_
    intro e K' μ' a' w' ho ha hn2 hs2 hsz2
    simp only [Out] at ho
    subst ho
    rw [hn1] at ha hn2
    exact iter_sound hf k K' μ' s2 a' w' h hs2 hsz2 hn2 (hg.later ha (Nat.le_refl _))
   ·rename_i r hnot
    cases hr : f s1 with
    | none => rw [hr] at h; simp at h
    | some r' =>
     obtain ⟨x', s2⟩ := r'
     rw [hr] at h
     have hx' : x' ≠ .normal := by
      intro e; subst e
      exact hnot s2 hr
     simp only [Option.some.injEq, Prod.mk.injEq] at h
     obtain ⟨rfl, rfl⟩ := h
     refine hf hr hs1 hsz ?_
     intro e K' μ' a' w' ho ha hn2 hs2 hsz2
     rw [hn1] at ha hn2
     have hq := hg e K' μ' a' w' ho ha hn2 hs2 hsz2
     cases e with
     | normal => cases x' <;> simp [Out] at ho; exact absurd rfl hx'
     | _ => exact hq
theorem settle_some {h : List Nat} {n sz : Nat} {r : Option (AX × St)} {x : AX} {s' : St} (hr : settle h n r = some (x, s')) :
  ∃ s0, r = some (x, s0) ∧ ∀ {K : Col} {μ : Nat → Nat} {w : World} {Q : Exit → Act → World → Prop}, Goal K μ w n sz x s' Q → Goal K μ w n sz x s0 Q := by
 unfold settle at hr
 split at hr
 ·rename_i s0
  split at hr
  ·simp only [Option.some.injEq, Prod.mk.injEq] at hr
   obtain ⟨rfl, rfl⟩ := hr
   exact ⟨_, rfl, fun h => h⟩
  ·split at hr
   ·rename_i s1 hc
    simp only [Option.some.injEq, Prod.mk.injEq] at hr
    obtain ⟨rfl, rfl⟩ := hr
    refine ⟨_, rfl, fun hg e K' μ' a' w' ho ha hn hs hsz => ?_⟩
    obtain ⟨h1, h2, _⟩ := hs.clean hc
    exact hg e K' μ' a' w' ho ha (by omega) h1 hsz
   ·simp at hr
 ·exact ⟨_, hr, fun h => h⟩
theorem leaves_some {id : Nat} {r : Option (AX × St)} {x : AX} {s' : St} (hr : leaves id r = some (x, s')) :
  (x = .normal ∧ r = some (.exit id, s')) ∨ (r = some (x, s') ∧ x ≠ .exit id) := by
 unfold leaves at hr
 split at hr
 ·rename_i id' s0
  split at hr
  ·rename_i he
   simp only [Option.some.injEq, Prod.mk.injEq] at hr
   obtain ⟨rfl, rfl⟩ := hr
   exact .inl ⟨rfl, by rw [he]⟩
  ·rename_i he
   simp only [Option.some.injEq, Prod.mk.injEq] at hr
   obtain ⟨rfl, rfl⟩ := hr
   exact .inr ⟨rfl, by simpa using he⟩
 ·rename_i hno
  refine .inr ⟨hr, ?_⟩
  rintro rfl
  exact hno _ _ hr
theorem aexec_sound {H : Nat → List Nat} {call : Call} {rounds sz : Nat} (hcall : CallsOK P call) (hP : ProgOK P) :
  ∀ (c : Code) {K : Col} {μ : Nat → Nat} {w : World} {s : St} {a : Act} {x : AX} {s' : St} {Q : Exit → Act → World → Prop}, dstsBelow sz c = true → aexec P H call rounds c s = some (x, s') →
   Sim K μ s a w → a.tmps.size = sz → Goal K μ w s.nid sz x s' Q → c.wp P Q a w
 | .skip, K, μ, w, s, a, x, s', Q, _, h, hs, hsz, hg => by
  simp only [aexec, Option.some.injEq, Prod.mk.injEq] at h
  obtain ⟨rfl, rfl⟩ := h
  exact wp_skip (hg _ K μ a w rfl (After.refl _ _ _ _) (Nat.le_refl _) hs hsz)
 | .label l, K, μ, w, s, a, x, s', Q, _, h, hs, hsz, hg => by
  simp only [aexec, Option.some.injEq, Prod.mk.injEq] at h
  obtain ⟨rfl, rfl⟩ := h
  exact wp_label (hg _ K μ a w rfl (After.refl _ _ _ _) (Nat.le_refl _) hs hsz)
 | .ret, K, μ, w, s, a, x, s', Q, _, h, hs, hsz, hg => by
  simp only [aexec, Option.some.injEq, Prod.mk.injEq] at h
  obtain ⟨rfl, rfl⟩ := h
  exact wp_ret (hg _ K μ a w rfl (After.refl _ _ _ _) (Nat.le_refl _) hs hsz)
 | .exit id, K, μ, w, s, a, x, s', Q, _, h, hs, hsz, hg => by
  simp only [aexec, Option.some.injEq, Prod.mk.injEq] at h
  obtain ⟨rfl, rfl⟩ := h
  exact wp_exit (hg _ K μ a w rfl (After.refl _ _ _ _) (Nat.le_refl _) hs hsz)
 | .seq c d, K, μ, w, s, a, x, s', Q, hd, h, hs, hsz, hg => by
  simp only [dstsBelow, Bool.and_eq_true] at hd
  simp only [aexec] at h
  refine wp_seq ?_
  split at h
  ·rename_i s1 h1
   refine aexec_sound hcall hP c hd.1 h1 hs hsz ?_
   intro e K' μ' a' w' ho ha hn hs1 hsz1
   simp only [Out] at ho; subst ho
   exact aexec_sound hcall hP d hd.2 h hs1 hsz1 (hg.later ha hn)
  ·rename_i r hnot
   cases hr : aexec P H call rounds c s with
   | none => rw [hr] at h; simp at h
   | some r' =>
    obtain ⟨x', s2⟩ := r'
    rw [hr] at h
    have hx' : x' ≠ .normal := by intro e; subst e; exact hnot s2 hr
    simp only [Option.some.injEq, Prod.mk.injEq] at h
    obtain ⟨rfl, rfl⟩ := h
    refine aexec_sound hcall hP c hd.1 hr hs hsz ?_
    intro e K' μ' a' w' ho ha hn hs1 hsz1
    have hq := hg e K' μ' a' w' ho ha hn hs1 hsz1
    cases e with
    | normal => cases x' <;> simp [Out] at ho; exact absurd rfl hx'
    | _ => exact hq
 | .cond o c d, K, μ, w, s, a, x, s', Q, hd, h, hs, hsz, hg => by
  simp only [dstsBelow, Bool.and_eq_true] at hd
  simp only [aexec] at h
  split at h
  ·rename_i ho
   have hr := ev_rep hs ho
   simp only [RepV, RepC, Rep] at hr
   obtain ⟨s0, h0, hgo⟩ := settle_some (sz := sz) h
   exact wp_cond_true hr (aexec_sound hcall hP c hd.1 h0 hs hsz (hgo hg))
  ·rename_i ho
   have hr := ev_rep hs ho
   simp only [RepV, RepC, Rep] at hr
   obtain ⟨s0, h0, hgo⟩ := settle_some (sz := sz) h
   exact wp_cond_false hr (aexec_sound hcall hP d hd.2 h0 hs hsz (hgo hg))
  ·simp at h
 | .block id c, K, μ, w, s, a, x, s', Q, hd, h, hs, hsz, hg => by
  simp only [dstsBelow] at hd
  simp only [aexec] at h
  obtain ⟨s0, h0, hgo⟩ := settle_some (sz := sz) h
  replace hg := hgo hg
  refine wp_block ?_
  rcases leaves_some h0 with ⟨rfl, h1⟩ | ⟨h1, hne⟩
  ·refine aexec_sound hcall hP c hd h1 hs hsz ?_
   intro e K' μ' a' w' ho ha hn hs1 hsz1
   simp only [Out] at ho; subst ho
   simp only [Exit.inBlock, if_true]
   exact hg _ K' μ' a' w' rfl ha hn hs1 hsz1
  ·refine aexec_sound hcall hP c hd h1 hs hsz ?_
   intro e K' μ' a' w' ho ha hn hs1 hsz1
   have hq := hg e K' μ' a' w' ho ha hn hs1 hsz1
   cases e with
   | exit id' =>
    cases x <;> simp [Out] at ho
    subst ho
    simp only [Exit.inBlock]
    rw [if_neg (by intro e; exact hne (by rw [e]))]
    exact hq
   | _ => exact hq
 | .scope c, K, μ, w, s, a, x, s', Q, hd, h, hs, hsz, hg => by
  simp only [dstsBelow] at hd
  simp only [aexec] at h
  refine wp_scope_straight ?_
  refine aexec_sound hcall hP c hd h hs hsz ?_
  intro e K' μ' a' w' ho ha hn hs1 hsz1
  have hq := hg e K' μ' a' w' ho ha hn hs1 hsz1
  cases e with
  | goto l => cases x <;> simp [Out] at ho
  | _ => exact hq
 | .loop c, K, μ, w, s, a, x, s', Q, hd, h, hs, hsz, hg => by
  simp only [dstsBelow] at hd
  simp only [aexec] at h
  exact wp_loop_rounds rounds (iter_sound (fun h1 h2 h3 h4 => aexec_sound hcall hP c hd h1 h2 h3 h4) rounds K μ s a w h hs hsz (Nat.le_refl _) hg)
 | .region id ops draw, K, μ, w, s, a, x, s', Q, hd, h, hs, hsz, hg => by
  simp only [dstsBelow, List.all_eq_true] at hd
  have hd' : ∀ o ∈ ops.toList, ∀ t, o.dst = some t → t < sz := by
   intro o ho t ht
   have := hd o ho
   rw [ht] at this
   simpa using this
  simp only [aexec] at h
  split at h
  ·simp at h
  rename_i s0 hfz
  obtain ⟨K0, hst0, hn0, _, hs0⟩ := frz_sound hs hfz
  have hg0 : Goal K0 μ w s0.nid sz x s' Q := hg.later ⟨hst0, fun _ _ => rfl⟩ (by rw [hn0]; exact Nat.le_refl _)
  have hk := hs0.keep (H id)
  cases draw with
  | true =>
   simp only [if_true] at h
   split at h
   ·exact draw_sound hcall hP hP.mixed hd' h hk hsz hg0
   ·exact selfApp_sound hcall hP hd' h hk hsz hg0 _
  | false =>
   simp only [Bool.false_eq_true, if_false] at h
   split at h
   ·rename_i x1 s1 fs hev
    simp only [Option.some.injEq, Prod.mk.injEq] at h
    obtain ⟨rfl, rfl⟩ := h
    refine wp_region ?_
    have := evOps_sound hcall hP hd' ops.toList 0 K0 μ _ a w [] (by simp) hev hk hsz hg0
    rw [List.range_eq_range']
    simpa using this
   ·simp at h
 | .rangeFunc _ _ _ _, K, μ, w, s, a, x, s', Q, _, h, _, _, _ => by simp [aexec] at h
 | .goto _, K, μ, w, s, a, x, s', Q, _, h, _, _, _ => by simp [aexec] at h
 | .refuse _, K, μ, w, s, a, x, s', Q, _, h, _, _, _ => by simp [aexec] at h
end
end Go.AM

namespace Go.AM
open Go
variable [Globs]
theorem dstsBelow_mono {n m : Nat} (h : n ≤ m) : ∀ c : Code, dstsBelow n c = true → dstsBelow m c = true
 | .region _ ops _, hd => by
  simp only [dstsBelow, List.all_eq_true] at hd ⊢
  intro o ho
  have := hd o ho
  cases hdst : o.dst with
  | none => rfl
  | some d =>
   rw [hdst] at this
   simp only [decide_eq_true_eq] at this ⊢
   exact Nat.lt_of_lt_of_le this h
 | .seq a b, hd => by
  simp only [dstsBelow, Bool.and_eq_true] at hd ⊢
  exact ⟨dstsBelow_mono h a hd.1, dstsBelow_mono h b hd.2⟩
 | .cond _ a b, hd => by
  simp only [dstsBelow, Bool.and_eq_true] at hd ⊢
  exact ⟨dstsBelow_mono h a hd.1, dstsBelow_mono h b hd.2⟩
 | .block _ c, hd => by simp only [dstsBelow] at hd ⊢; exact dstsBelow_mono h c hd
 | .loop c, hd => by simp only [dstsBelow] at hd ⊢; exact dstsBelow_mono h c hd
 | .scope c, hd => by simp only [dstsBelow] at hd ⊢; exact dstsBelow_mono h c hd
 | .skip, _ | .label _, _ | .ret, _ | .exit _, _ | .goto _, _ | .refuse _, _ => rfl
 | .rangeFunc _ _ _ _, _ => rfl
theorem look_zipIdx' {α : Type} : ∀ {l : List α} {n k : Nat}, look k (zipIdx' n l) = if n ≤ k then l[k - n]? else none
 | [], n, k => by simp [zipIdx', look]
 | x :: l, n, k => by
  simp only [zipIdx', look]
  by_cases h : n = k
  ·subst h; simp
  ·rw [if_neg h, look_zipIdx']
   by_cases h1 : n ≤ k
   ·rw [if_pos (by omega), if_pos h1, show k - n = (k - (n + 1)) + 1 from by omega]; simp
   ·rw [if_neg (by omega), if_neg h1]
def resSem (tmps : Array Value) : ResultVar → Sem Value
 | .tmp t => pure (tmps.getD t Go.undef)
 | .cell p t => do loadVar t (← asAddr (tmps.getD p Go.undef))
theorem results_eq (fn : Func) (tmps : Array Value) : results fn tmps = (do
  let vs ← fn.results.mapM (resSem tmps)
  pure (if h : vs.size = 1 then vs[0] else .tuple vs)) := by
 unfold results
 congr 2
section
variable {P : Program} {K K' : Col} {μ μ' : Nat → Nat} {w w' : World} {s : St} {a : Act}
theorem resC_run (hs : Sim K μ s a w) {r : ResultVar} {c : C} (h : resC P s r = some c) :
  ∃ u, (resSem a.tmps r).run P w = .ok u w ∧ RepC K μ w c u ∧
   (∀ b ∈ c.ids, b < s.nid) ∧ ∀ sz xs, c ≠ .own sz xs := by
 cases r with
 | tmp t =>
  simp only [resC, Option.map_eq_some_iff, Option.bind_eq_some_iff] at h
  obtain ⟨c', ⟨v, hv, hc⟩, rfl⟩ := h
  obtain ⟨_, hr⟩ := hs.tm t v hv
  exact ⟨_, rfl, C.still_rep (argC_rep hr hc).1, fun b hb => hs.tids t v hv b (argC_ids hc b (by rw [C.still_ids] at hb; exact hb)), by intro sz xs; cases c' <;> simp [C.still]⟩
 | cell p t =>
  simp only [resC] at h
  split at h
  ·rename_i b off hp
   have hpr := (hs.tm p _ hp).2
   simp only [RepV, RepC] at hpr
   split at h
   ·rename_i cs hb0
    obtain ⟨cs0, hb, hbm, rfl⟩ := lookC_some hb0
    obtain ⟨vs, hrv, hcv⟩ := (hs.heap b cs0 hb).2.2.vals hbm
    split at h
    ·rename_i n ht hn
     split at h
     ·rename_i hle
      simp only [Option.map_eq_some_iff] at h
      obtain ⟨ds, hds, rfl⟩ := h
      have hnh : ∀ i, i < n → (flatC cs0)[off + i]? ≠ some .hid := by
       intro i hi e
       have hm : C.hid ∈ ((flatC cs0).drop off).take n := by
        refine List.mem_of_getElem? (i := i) ?_
        rw [List.getElem?_take, if_pos hi, get_drop]; exact e
       exact allD_nhid hds _ hm rfl
      have hl := loadVar_agg (P := P) (w := w) ht hn (μ b) off ((vs.drop off).take n) (by have := hrv.length; simp; omega)
       (fun i v hv => by
        rw [List.getElem?_take] at hv
        split at hv
        ·rename_i hin; rw [get_drop] at hv; exact (hcv _ v hv (hnh i hin)).1
        ·simp at hv)
      refine ⟨_, by simp only [resSem, hpr, asAddr, Sem.run_bind, Sem.run_pure, Result.andThen_ok]; exact hl, ?_, by simp [C.ids], by simp⟩
      simp only [RepC, Rep]
      refine ⟨_, rfl, allD_rep hds ((hrv.drop off).take n) ?_⟩
      intro u hu
      obtain ⟨i, hi⟩ := List.getElem?_of_mem hu
      rw [List.getElem?_take] at hi
      split at hi
      ·rename_i hin; rw [get_drop] at hi; exact (hcv _ u hi (hnh i hin)).2.1
      ·simp at hi
     ·simp at h
    ·rename_i ht
     simp only [Option.bind_eq_some_iff] at h
     obtain ⟨c', hc', htold⟩ := h
     obtain ⟨hch, rfl⟩ : c' ≠ .hid ∧ c'.still = c := by
      cases c' <;> simp only [C.told, reduceCtorEq, Option.some.injEq] at htold <;> exact ⟨by simp, htold⟩
     obtain ⟨v, hv1, hv2⟩ := hrv.get hc'
     refine ⟨v, by simp only [resSem, hpr, asAddr, Sem.run_bind, Sem.run_pure, Result.andThen_ok]; exact loadVar_one ht _ _ _ (hcv off v hv1 (by rw [hc']; simpa using hch)).1, C.still_rep hv2, ?_, by intro sz xs; cases c' <;> simp [C.still]⟩
     intro i hi
     rw [C.still_ids] at hi
     exact hs.flat_ids hb (List.mem_of_getElem? hc') i hi
    ·simp at h
   ·simp at h
  ·simp at h
theorem results_list (hs : Sim K μ s a w) : ∀ {rs : List ResultVar} {cs : List C}, mapM? (resC P s) rs = some cs →
  ∃ us, (rs.mapM (resSem a.tmps)).run P w = .ok us w ∧
   RepCs K μ w cs us ∧ (∀ c ∈ cs, (∀ b ∈ c.ids, b < s.nid) ∧ ∀ sz xs, c ≠ .own sz xs)
 | [], cs, h => by
  simp only [mapM?, Option.some.injEq] at h; subst h
  exact ⟨[], by simp, .nil, by simp⟩
 | r :: rs, cs, h => by
  simp only [mapM?] at h
  split at h
  ·rename_i c cs' hc hcs
   simp only [Option.some.injEq] at h; subst h
   obtain ⟨u, h1, h2, h3, h4⟩ := resC_run hs hc
   obtain ⟨us, h5, h6, h7⟩ := results_list hs hcs
   refine ⟨u :: us, ?_, .cons h2 h6, ?_⟩
   ·simp only [List.mapM_cons, Sem.run_bind, h1, Result.andThen_ok, h5, Sem.run_pure]
   ·intro x hx
    rcases List.mem_cons.1 hx with rfl | hx
    ·exact ⟨h3, h4⟩
    ·exact h7 x hx
  ·simp at h
theorem resV_run (hs : Sim K μ s a w) {fn : Func} {v : V} (h : resV P s fn.results.toList = some v) :
  ∃ u, (results fn a.tmps).run P w = .ok u w ∧ RepV K μ w v u ∧ (∀ b ∈ v.ids, b < s.nid) ∧ PlainV v := by
 unfold resV at h
 have harr : ∀ us : List Value, (fn.results.toList.mapM (resSem a.tmps)).run P w = .ok us w →
   (results fn a.tmps).run P w = .ok (if h : us.toArray.size = 1 then us.toArray[0] else .tuple us.toArray) w := by
  intro us hu
  rw [results_eq, Sem.run_bind, Array.mapM_eq_mapM_toList, Sem.run_map, hu]
  rfl
 split at h
 ·rename_i c hm
  simp only [Option.some.injEq] at h; subst h
  obtain ⟨us, h1, h2, h3⟩ := results_list hs hm
  cases h2 with
  | cons hc hn =>
   cases hn with
   | nil =>
    rename_i u
    refine ⟨u, ?_, hc, ?_, ?_⟩
    ·rw [harr _ h1]; rfl
    ·exact (h3 c (by simp)).1
    ·refine ⟨fun sz xs e => ?_, by simp⟩
     simp only [V.c.injEq] at e
     exact (h3 c (by simp)).2 sz xs e
 ·rename_i cs hno hm
  simp only [Option.some.injEq] at h; subst h
  obtain ⟨us, h1, h2, h3⟩ := results_list hs hm
  have hl : us.toArray.size ≠ 1 := by
   intro e
   have h4 := h2.length
   have h5 : cs.length = 1 := by simpa [h4] using e
   match cs, h5 with
   | [c], _ => exact hno c rfl
  refine ⟨.tuple us.toArray, ?_, ⟨us, rfl, h2⟩, ?_, by simp [PlainV]⟩
  ·rw [harr _ h1]
   rw [dif_neg hl]
  ·intro b hb
   simp only [V.ids, List.mem_flatMap] at hb
   obtain ⟨c, hc, hb⟩ := hb
   exact (h3 c hc).1 b hb
 ·simp at h
theorem outBlks_rep (hs : Sim K μ s a w) {n : Nat} {extra ids : List Nat} {lh' : List (List C)} (h : outBlks s.heap n extra = some (ids, lh')) :
  HRep (fun b o => tagIn ids (K b o)) (fun i => μ (ids.getD i 0)) w lh' ∧ lh'.length = ids.length ∧ (∃ r, ids = idsFrom 0 n ++ r) := by
 unfold outBlks at h
 split at h
 ·simp at h
 ·split at h
  ·simp at h
  ·rename_i ids' hr
   split at h
   ·rename_i lh hlh
    simp only [Option.some.injEq, Prod.mk.injEq] at h
    obtain ⟨rfl, rfl⟩ := h
    obtain ⟨h1, h2, h3⟩ := reach_spec hr (idsFrom_nodup 0 n)
    obtain ⟨h4, h5⟩ := hrep_into hs h1 hlh
    exact ⟨h4, h5, h2⟩
   ·simp at h
theorem V.into_rep {ids : List Nat} (hK : ∀ b o, K b o = .ro → K' b o = .ro) (hμ : ∀ i b, ids[i]? = some b → μ' i = μ b) {c c' : V} {v : Value} (hc : V.into ids c = some c') (h : RepV K μ w c v)
  (hp : PlainV c) : RepV K' μ' w c' v ∧ (∀ b ∈ c'.ids, b < ids.length) ∧ PlainV c' := by
 have many : ∀ {cs cs' : List C} {vs : List Value}, mapM? (C.into ids) cs = some cs' → RepCs K μ w cs vs → RepCs K' μ' w cs' vs ∧ ∀ c ∈ cs', ∀ b ∈ c.ids, b < ids.length := by
  intro cs cs' vs hm hr
  refine ⟨hr.mapM hm fun c c' v h1 h2 => (AM.into_rep hK hμ h1 h2).1, ?_⟩
  intro c' hc' b hb
  obtain ⟨i, hi⟩ := List.getElem?_of_mem hc'
  obtain ⟨c, hci, hcc⟩ := mapM?_get hm hi
  obtain ⟨u, _, hru⟩ := hr.get hci
  exact (AM.into_rep hK hμ hcc hru).2.1 b hb
 cases c with
 | c x =>
  simp only [V.into, Option.map_eq_some_iff] at hc
  obtain ⟨x', hx, rfl⟩ := hc
  obtain ⟨h1, h2, h3⟩ := AM.into_rep (μ' := μ') hK hμ hx h
  refine ⟨h1, h2, ?_, by simp⟩
  intro sz xs e
  simp only [V.c.injEq] at e
  exact hp.1 sz xs (by rw [(h3 sz xs).1 e])
 | view l sz xs => exact absurd rfl (hp.2 l sz xs)
 | rptr cs =>
  simp only [V.into, Option.some.injEq] at hc; subst hc
  obtain ⟨blk, off, vs, h1, h2, h3⟩ := h
  exact ⟨⟨blk, off, vs, h1, fun i u hu => ⟨hK _ _ (h2 i u hu).1, (h2 i u hu).2⟩, RepL.recolor hK _ _ h3⟩, by simp [V.ids], hp⟩
 | vagg cs =>
  simp only [V.into, Option.map_eq_some_iff] at hc
  obtain ⟨cs', hm, rfl⟩ := hc
  obtain ⟨vs, h1, h2, h3⟩ := h
  obtain ⟨q1, q2⟩ := many hm h2
  refine ⟨⟨vs, h1, q1, h3⟩, ?_, by simp [PlainV]⟩
  intro b hb
  simp only [V.ids, List.mem_flatMap] at hb
  obtain ⟨c, hc, hb⟩ := hb
  exact q2 c hc b hb
 | tuple cs =>
  simp only [V.into, Option.map_eq_some_iff] at hc
  obtain ⟨cs', hm, rfl⟩ := hc
  obtain ⟨vs, h1, h2⟩ := h
  obtain ⟨q1, q2⟩ := many hm h2
  refine ⟨⟨vs, h1, q1⟩, ?_, by simp [PlainV]⟩
  intro b hb
  simp only [V.ids, List.mem_flatMap] at hb
  obtain ⟨c, hc, hb⟩ := hb
  exact q2 c hc b hb
theorem sim_enter {args : List C} {lh : List (List C)} {vs : List Value} {n : Nat} (hr : RepCs K μ w args vs) (hi : ∀ c ∈ args, ∀ b ∈ c.ids, b < lh.length) (hh : HRep K μ w lh) (hb : BoundK K w) (hgl : Glob K w) :
  Sim K μ { tmps := zipIdx' 0 (args.map fun c => V.c c.plain), heap := zipIdx' 0 lh, nid := lh.length, defers := [], pan := none }
   { tmps := vs.toArray ++ Array.replicate n Go.undef, defers := [] } w := by
 have back : ∀ {t : Nat} {v : V}, look t (zipIdx' 0 (args.map fun c => V.c c.plain)) = some v → ∃ c, args[t]? = some c ∧ v = .c c.plain := by
  intro t v h
  rw [look_zipIdx', if_pos (by omega)] at h
  simp only [Nat.sub_zero, List.getElem?_map, Option.map_eq_some_iff] at h
  obtain ⟨c, h1, rfl⟩ := h
  exact ⟨c, h1, rfl⟩
 refine ⟨?_, ?_, ?_, ?_, ?_, hb, rfl, by simp, hgl⟩
 ·intro t v ht
  obtain ⟨c, h1, rfl⟩ := back ht
  obtain ⟨u, h2, h3⟩ := hr.get h1
  have hlt := (List.getElem?_eq_some_iff.1 h2).1
  refine ⟨by simp; omega, ?_⟩
  have : (vs.toArray ++ Array.replicate n Go.undef).getD t Go.undef = u := by
   simp only [Array.getD_eq_getD_getElem?]
   rw [Array.getElem?_append_left (by simpa using hlt)]
   simp [h2]
  rw [this]
  exact C.plain_rep h3
 ·intro t v ht b hb'
  obtain ⟨c, h1, rfl⟩ := back ht
  simp only [V.ids, C.plain_ids] at hb'
  exact hi c (List.mem_of_getElem? h1) b hb'
 ·intro t sz xs ht
  obtain ⟨c, _, e⟩ := back ht
  cases c <;> simp [C.plain] at e
 ·intro t l sz xs ht
  obtain ⟨c, _, e⟩ := back ht
  simp at e
 ·intro b cells hc
  rw [show (St.heap { tmps := zipIdx' 0 (args.map fun c => V.c c.plain), heap := zipIdx' 0 lh, nid := lh.length, defers := [], pan := none }) = zipIdx' 0 lh from rfl, look_zipIdx', if_pos (by omega), Nat.sub_zero] at hc
  obtain ⟨h1, h2⟩ := hh b cells hc
  exact ⟨(List.getElem?_eq_some_iff.1 hc).1, h1, h2⟩
def EndOK (K : Col) (μ : Nat → Nat) (w : World) (n : Nat) (r : CRes) (e : Ending) (w' : World) : Prop :=
 ∃ K' μ', Step mine K w K' w' ∧ BoundK K' w' ∧ (∀ i, i < n → μ' i = μ i) ∧
   match r with
   | .ret v lh' => n ≤ lh'.length ∧ HRep K' μ' w' lh' ∧ PlainV v ∧ (∀ b ∈ v.ids, b < lh'.length) ∧ ∃ u, e = .returned u ∧ RepV K' μ' w' v u
   | .pan d lh' => lh'.length = n ∧ HRep K' μ' w' lh' ∧ ∃ u, e = .panicked [⟨u, false, false⟩] ∧ Rep K' w' d u
theorem outs_ok {n : Nat} {s' : St} {a' : Act} {extra ids : List Nat} {lh' : List (List C)} (ha : After K μ w n K' μ' w') (hs' : Sim K' μ' s' a' w')
  (ho : outBlks s'.heap n extra = some (ids, lh')) :
  Step mine K w (fun b o => tagIn ids (K' b o)) w' ∧ BoundK (fun b o => tagIn ids (K' b o)) w' ∧ (∀ i, i < n → μ' (ids.getD i 0) = μ i) ∧ n ≤ lh'.length ∧
   HRep (fun b o => tagIn ids (K' b o)) (fun i => μ' (ids.getD i 0)) w' lh' ∧ lh'.length = ids.length := by
 obtain ⟨q1, q2, r', q3⟩ := outBlks_rep hs' ho
 refine ⟨⟨ha.step.os, ha.step.tape, ha.step.output, ha.step.size, ha.step.block, fun b o hb' hn => ?_⟩, fun b o hb' => by simp only [hs'.bound b o hb']; rfl, ?_, ?_, q1, q2⟩
 ·have hc := ha.step.cell b o hb' hn
  refine ⟨hc.1, hc.2.1, ?_⟩
  simp only [hc.2.2]
  have : K b o = .ro ∨ K b o = .other := by
   by_cases h1 : K b o = .ro
   ·exact .inl h1
   ·by_cases h2 : K b o = .other
    ·exact .inr h2
    ·exact absurd ⟨h1, h2⟩ hn
  rcases this with h1 | h1 <;> rw [h1] <;> rfl
 ·intro i hi'
  have hgd : ids.getD i 0 = i := by
   rw [q3]
   simp only [List.getD, List.getElem?_append_left (show i < (idsFrom 0 n).length by rw [idsFrom_length]; exact hi'), idsFrom_get hi']
   simp
  rw [hgd, ha.mu i hi']
 ·rw [q2, q3, List.length_append, idsFrom_length]; omega
theorem endRet_sound {n : Nat} {s' : St} {a' : Act} {fn : Func} {r : CRes} (ha : After K μ w n K' μ' w') (hs' : Sim K' μ' s' a' w') (h : endRet P fn n s' = some r) :
  ∃ u, (results fn a'.tmps).run P w' = .ok u w' ∧ EndOK K μ w n r (.returned u) w' ∧ ∃ v lh, r = .ret v lh := by
 unfold endRet at h
 split at h
 ·rename_i v hv
  split at h
  ·rename_i ids lh' hob
   split at h
   ·rename_i v' hv'
    simp only [Option.some.injEq] at h; subst h
    obtain ⟨u, hu, hru, hvi, hpl⟩ := resV_run hs' hv
    obtain ⟨g1, g2, g3, g4, g5, g6⟩ := outs_ok ha hs' hob
    obtain ⟨k1, k2, k3⟩ := V.into_rep (K' := fun b o => tagIn ids (K' b o)) (μ' := fun i => μ' (ids.getD i 0)) (fun b o h => by rw [h]; rfl)
     (fun i b h => by simp [List.getD, h]) hv' hru hpl
    exact ⟨u, hu, ⟨_, _, g1, g2, g3, g4, g5, k3, by rw [g6]; exact k2, u, rfl, k1⟩, v', lh', rfl⟩
   ·simp at h
  ·simp at h
 ·simp at h
theorem endPan_sound {n : Nat} {s' : St} {a' : Act} {d : D} {u : Value} {r : CRes} (ha : After K μ w n K' μ' w') (hs' : Sim K' μ' s' a' w') (hu : Rep K' w' d u) (h : endPan d n s' = some r) :
  EndOK K μ w n r (.panicked [⟨u, false, false⟩]) w' := by
 unfold endPan at h
 split at h
 ·rename_i ids lh' hob
  split at h
  ·rename_i hl
   simp only [Option.some.injEq] at h; subst h
   obtain ⟨g1, g2, g3, g4, g5, g6⟩ := outs_ok ha hs' hob
   exact ⟨_, _, g1, g2, g3, by rw [g6]; exact hl, g5, u, rfl, Rep.recolor (fun b o h => by rw [h]; rfl) _ _ hu⟩
  ·simp at h
 ·simp at h
theorem Sim.defs_nil (hs : Sim K μ s a w) : Sim K μ { s with defers := [] } { a with defers := [] } w :=
 ⟨hs.tm, hs.tids, hs.own, hs.view, hs.heap, hs.bound, rfl, by simp, hs.glob⟩
def modeP : Option D → Value → FrameMode
 | none, _ => .returning
 | some _, u => .panicking [⟨u, false, false⟩]
def modeR : Option D → Value → FrameMode
 | none, _ => .returning
 | some _, u => .panicking [⟨u, true, false⟩]
def CallDOK (P : Program) (pan : Option D) (f : Nat) (args : List C) (lh : List (List C)) (r : CRes) : Prop :=
 ∀ K μ w vs pu, RepCs K μ w args vs → (∀ c ∈ args, ∀ b ∈ c.ids, b < lh.length) → HRep K μ w lh → BoundK K w → Glob K w → (∀ d, pan = some d → Rep K w d pu) →
  CallsD P f vs.toArray (modeP pan pu) w fun e m w' => EndOK K μ w lh.length r e w' ∧ m = (if recsF P f then modeR pan pu else modeP pan pu) ∧ ∃ u, e = .returned u
theorem run_recover {o : Oper} (h : recOp o = true) : (execOp a.eval o).run P w = .ok .recover w ∧ o.guard = none := by
 unfold recOp at h
 split at h
 ·rename_i c ho hg
  split at h
  ·rename_i hc
   refine ⟨?_, hg⟩
   simp [execOp, ho, resolve, hc, invoke, builtin]
  ·simp at h
 ·simp at h
theorem acallD_sound (hP : ProgOK P) (H : Nat → Nat → List Nat) {call : Call} (ih : CallsOK P call) (k : Nat) (pan : Option D) {f : Nat} {args : List C} {lh : List (List C)} {r : CRes} (h : acallD P H call k pan f args lh = some r) :
  Callee P f ∧ CallDOK P pan f args lh r := by
 unfold acallD at h
 split at h
 ·rename_i fn hfn
  split at h
  ·rename_i code hcode
   split at h
   ·rename_i hlen
    refine ⟨⟨fn, hfn, by rw [hcode]; rfl⟩, ?_⟩
    intro K μ w vs pu hr hi hh hb hgl hpu
    have hfo := hP.func f fn hfn
    simp only [funcOK, hcode, Bool.and_eq_true] at hfo
    have hsim := sim_enter (n := fn.ntmps - vs.toArray.size) hr hi hh hb hgl
    have hdb := dstsBelow_mono (m := (vs.toArray ++ Array.replicate (fn.ntmps - vs.toArray.size) Go.undef).size) (by simp; omega) code hfo.2
    have hrec : recsF P f = recs code := by simp only [recsF, hfn, hcode]
    have done : ∀ {x : AX} {s' : St} {e : Exit} {K' : Col} {μ' : Nat → Nat} {a' : Act} {w' : World}, (match x with | .normal | .ret => if s'.defers.isEmpty then endRet P fn lh.length s' else none | _ => none) = some r → Out K' w' x e → After K μ w lh.length K' μ' w' →
      Sim K' μ' s' a' w' → (e = .normal ∨ e = .ret) ∧ a'.defers = [] ∧ ∃ u, (results fn a'.tmps).run P w' = .ok u w' ∧ EndOK K μ w lh.length r (.returned u) w' := by
     intro x s' e K' μ' a' w' hx ho ha hs'
     have key : ∀ {o : Option CRes}, (if s'.defers.isEmpty then endRet P fn lh.length s' else none) = o → o = some r → a'.defers = [] ∧ ∃ u, (results fn a'.tmps).run P w' = .ok u w' ∧ EndOK K μ w lh.length r (.returned u) w' := by
      intro o h1 h2
      subst h2
      split at h1
      ·rename_i hd
       obtain ⟨u, hu, hE, _⟩ := endRet_sound ha hs' h1
       exact ⟨by rw [hs'.defs, List.isEmpty_iff.1 hd]; rfl, u, hu, hE⟩
      ·simp at h1
     cases x with
     | normal => exact ⟨.inl ho, key rfl hx⟩
     | ret => exact ⟨.inr ho, key rfl hx⟩
     | exit id => simp at hx
     | pan d => simp at hx
    have h' : ∃ x s', aexecR P (H f) call k pan code (enterSt args lh) = some (x, s') ∧ (match x with | .normal | .ret => if s'.defers.isEmpty then endRet P fn lh.length s' else none | _ => none) = some r := by
     split at h
     ·rename_i s' he; exact ⟨_, s', he, h⟩
     ·rename_i s' he; exact ⟨_, s', he, h⟩
     ·simp at h
    obtain ⟨x, s', hex, hx⟩ := h'
    unfold aexecR at hex
    split at hex
    ·rename_i hrc
     refine (callsD_of_wp (R := fun e w' => EndOK K μ w lh.length r e w' ∧ ∃ u, e = .returned u) hfn hcode (aexec_sound ih hP code hdb hex hsim rfl ?_)).mono ?_
     ·intro e K' μ' a' w' ho ha hn hs' hsz
      obtain ⟨he, hd, u, hu, hE⟩ := done hx ho ha hs'
      rcases he with rfl | rfl
      ·exact ⟨hd, u, hu, hE, u, rfl⟩
      ·exact ⟨hd, u, hu, hE, u, rfl⟩
     ·rintro e u' w' ⟨rfl, hE, hu⟩
      exact ⟨hE, by rw [hrec, hrc]; rfl, hu⟩
    ·rename_i hrc
     split at hex
     ·rename_i id ops b
      split at hex
      ·rename_i o o1 hops
       have hdops : ∀ q ∈ ops.toList, ∀ t, q.dst = some t → t < (vs.toArray ++ Array.replicate (fn.ntmps - vs.toArray.size) Go.undef).size := by
        intro q hq t ht
        simp only [dstsBelow, Bool.and_eq_true, List.all_eq_true] at hdb
        have := hdb.1 q hq
        rw [ht] at this
        simpa using this
       have hdbb : dstsBelow (vs.toArray ++ Array.replicate (fn.ntmps - vs.toArray.size) Go.undef).size b = true := by
        simp only [dstsBelow, Bool.and_eq_true] at hdb
        exact hdb.2
       simp only [recs, hops] at hrc
       obtain ⟨hr0, d, hd0, ha1, hg1⟩ : recOp o = true ∧ ∃ d, o.dst = some d ∧ o1.op = .assign (.tmp d) ∧ o1.guard = none := by
        revert hrc
        simp only [Bool.and_eq_true]
        rintro ⟨h1, h2⟩
        refine ⟨h1, ?_⟩
        split at h2
        ·rename_i d x e1 e2 e3
         simp only [beq_iff_eq] at h2
         subst h2
         exact ⟨_, e1, e2, e3⟩
        ·simp at h2
       refine callsD_of_wpS hfn hcode ?_
       generalize hA0 : ({ tmps := vs.toArray ++ Array.replicate (fn.ntmps - vs.toArray.size) Go.undef, defers := [] } : Act) = a0 at hsim ⊢
       have hsz0 : a0.tmps.size = (vs.toArray ++ Array.replicate (fn.ntmps - vs.toArray.size) Go.undef).size := by rw [← hA0]
       rw [← hsz0] at hdbb hdops
       intro c₀ cs hc0
       refine wpS_seq (wpS_region ?_)
       have h0 : ops[0]? = some o := by rw [← Array.getElem?_toList, hops]; rfl
       have h1 : ops[1]? = some o1 := by rw [← Array.getElem?_toList, hops]; rfl
       have hsize : ops.size = 2 := by rw [← Array.length_toList, hops]; rfl
       rw [hsize, show List.range 2 = [0, 1] from rfl]
       simp only [wpOpsS, h0, h1]
       have wanted : ∀ {q : Oper} {t : Array Value}, q.guard = none → Region.wanted q (yielded ops t) = true := by
        intro q t hq
        simp [Region.wanted, hq]
       rw [wanted (run_recover (a := { tmps := #[], defers := [] }) (P := P) (w := w) hr0).2]
       simp only [if_true]
       rw [(run_recover hr0).1]
       simp only
       have hdl : d < a0.tmps.size := hdops o (by rw [hops]; simp) d hd0
       have hrun1 : ∀ v, (execOp (Act.put a0 o.dst v).eval o1).run P w = .ok (.value v) w := by
        intro v
        have : (Act.put a0 o.dst v).eval (.tmp d) = v := by
         rw [hd0]
         show (Act.put a0 (some d) v).tmps.getD d Go.undef = v
         rw [getD_put, if_pos ⟨rfl, hdl⟩]
        simp [execOp, ha1, this]
       have fin : ∀ (v : Value) (cs' : List Frame), RepV K μ w (recV pan) v → (∃ u', cs' = { c₀ with mode := u' } :: cs ∧ u' = modeR pan pu) →
         b.wpS P (bodyPostS P fn c₀ cs fun e m w' => EndOK K μ w lh.length r e w' ∧ m = (if recsF P f then modeR pan pu else modeP pan pu) ∧ ∃ u, e = .returned u) ((Act.put a0 o.dst v).put o1.dst v) cs' w := by
        intro v cs' hv hcs
        refine wpS_of_wp ?_
        have hs0 := hsim.keep (H f id)
        have hgood : ∀ {K : Col} {μ : Nat → Nat} {s : St} {a : Act} {w : World} {dst : Option Nat}, RepV K μ w (recV pan) v → Good K μ s a w dst (recV pan) v := by
         intro K μ s a w dst hv
         refine ⟨hv, ?_, ?_, ?_⟩ <;> cases pan <;> simp [recV, Go.AM.V.ids, C.ids]
        have hs1 := hs0.put (dst := o.dst) (hdops o (by rw [hops]; simp)) (hgood hv)
        have hs2 := hs1.put (dst := o1.dst) (by rw [put_size]; exact hdops o1 (by rw [hops]; simp)) (hgood hv)
        have hnid : ∀ (q : Oper) (V : V) (s : St), (putDst q V s).nid = s.nid := by intro q V s; unfold putDst putSt; cases q.dst <;> rfl
        refine aexec_sound ih hP b (by rw [put_size, put_size]; exact hdbb) hex hs2 rfl ?_
        intro e K' μ' a' w' ho ha hn hs' hsz
        have hnid2 : ∀ (dst : Option Nat) (V : V) (s : St), (putSt dst V s).nid = s.nid := by intro dst V s; cases dst <;> rfl
        simp only [hnid, hnid2] at ha
        obtain ⟨he, hd, u, hu, hE⟩ := done hx ho ha hs'
        obtain ⟨u', hcs, hu'⟩ := hcs
        have hm : u' = (if recsF P f then modeR pan pu else modeP pan pu) := by
         rw [hrec, show recs (.seq (.region id ops false) b) = true from by simp only [recs, hops]; exact hrc]; exact hu'
        rcases he with rfl | rfl
        ·exact ⟨hd, u', hcs, u, hu, hE, hm, u, rfl⟩
        ·exact ⟨hd, u', hcs, u, hu, hE, hm, u, rfl⟩
       cases pan with
       | none =>
        have e : ({ c₀ with mode := .returning } : Frame) = c₀ := by cases c₀; simp only [modeP] at hc0; simp only [hc0]
        have : recoverD (c₀ :: cs) = none := by simp only [recoverD, hc0, modeP]
        rw [this]
        simp only [wanted hg1, if_true, hrun1, Oper.upon_value]
        exact fin .nilIface (c₀ :: cs) (by simp [recV, RepV, RepC, Rep]) ⟨.returning, by rw [e], rfl⟩
       | some d' =>
        have : recoverD (c₀ :: cs) = some (pu, { c₀ with mode := .panicking [⟨pu, true, false⟩] } :: cs) := by simp only [recoverD, hc0, modeP]
        rw [this]
        simp only [wanted hg1, if_true, hrun1, Oper.upon_value]
        exact fin pu _ (show Rep K w d' pu from hpu d' rfl) ⟨.panicking [⟨pu, true, false⟩], rfl, rfl⟩
      ·simp at hex
     ·simp at hex
   ·simp at h
  ·simp at h
 ·simp at h
theorem doCallD_sound (hP : ProgOK P) (H : Nat → Nat → List Nat) {call : Call} (ih : CallsOK P call) (k : Nat) (pan : Option D) {f : Nat} {args : List C} {r : ORes} {ids : List Nat} (h : doCall (acallD P H call k pan) f args s = some (r, ids)) (hs : Sim K μ s a w)
  {vs : List Value} (hargs : RepCs K μ w args vs) {pu : Value} (hpu : ∀ d, pan = some d → Rep K w d pu) :
  Callee P f ∧ CallsD P f vs.toArray (modeP pan pu) w fun e m w' => m = (if recsF P f then modeR pan pu else modeP pan pu) ∧ ∃ K' μ', After K μ w s.nid K' μ' w' ∧ ResOf K' μ' s a w' s.nid r e ∧ ∃ u, e = .returned u := by
 obtain ⟨args', lh, r', h1, h2, h3, h4, h5, h6, h7⟩ := doCall_frame h hs hargs
 obtain ⟨q1, q2⟩ := acallD_sound hP H ih k pan h1
 refine ⟨q1, (q2 _ _ _ _ _ h2 h3 h4 h5 h6 (fun d hd => ?_)).mono ?_⟩
 ·exact Rep.recolor (fun b o h => by rw [h]; rfl) _ _ (hpu d hd)
 ·rintro e m w' ⟨hE, hm, hu⟩
  obtain ⟨K', μ', hA, hR⟩ := h7 e w' hE
  exact ⟨hm, K', μ', hA, hR, hu⟩
theorem runDefers_sound (hP : ProgOK P) (H : Nat → Nat → List Nat) {call : Call} (ih : CallsOK P call) (k : Nat) {fn : Func} {tmps : Array Value} {R : Ending → World → Prop} :
  ∀ (ds : List (Nat × List Nat)) (pan : Option D) (pu : Value) (s : St) (K : Col) (μ : Nat → Nat) (w : World) {pan' : Option D} {s' : St}, runDefers P H call k ds pan s = some (pan', s') → s.defers = [] →
   Sim K μ s { tmps := tmps, defers := [] } w → (∀ x ∈ ds, ∀ b ∈ x.2, b < s.nid) → (∀ d, pan = some d → Rep K w d pu) →
   (∀ K' μ' w' pu', After K μ w s.nid K' μ' w' → s.nid ≤ s'.nid → Sim K' μ' s' { tmps := tmps, defers := [] } w' → (∀ d, pan' = some d → Rep K' w' d pu') → Leaves P fn tmps R [] (modeP pan' pu') w') →
   Leaves P fn tmps R (ds.map (defOf μ)) (modeP pan pu) w
 | [], pan, pu, s, K, μ, w, pan', s', h, _, hs, _, hpu, hend => by
  simp only [runDefers, Option.some.injEq, Prod.mk.injEq] at h
  obtain ⟨rfl, rfl⟩ := h
  exact hend K μ w pu (After.refl _ _ _ _) (Nat.le_refl _) hs hpu
 | (g, caps) :: ds, pan, pu, s, K, μ, w, pan', s', h, hd0, hs, hin, hpu, hend => by
  simp only [runDefers] at h
  split at h
  ·rename_i v s1 ids hc
   have hargs : RepCs K μ w (caps.map fun b => C.ptr b 0) (caps.map fun b => Value.pointer (some (ad (μ b) 0))) := by
    refine RepCs.of_get (by simp) fun i c v hc hv => ?_
    simp only [List.getElem?_map, Option.map_eq_some_iff] at hc hv
    obtain ⟨b, hb, rfl⟩ := hc
    obtain ⟨b', hb', rfl⟩ := hv
    rw [hb, Option.some.injEq] at hb'; subst hb'
    rfl
   obtain ⟨⟨fg, hfg, hbg⟩, hcall⟩ := doCallD_sound hP H ih k pan hc hs hargs hpu
   have hmode : modeP pan pu ≠ .run := by cases pan <;> simp [modeP]
   simp only [List.map_cons]
   refine leaves_cons (fv := .func g) (f := g) hmode ?_ (hcall.mono ?_)
   ·have hbn : fg.body.isNone = false := by cases hb : fg.body <;> simp [hb] at hbg ⊢
    have hnm : (fg.name == "runtime.NumGoroutine") = false := by
     have := hP.func g fg hfg
     simp only [funcOK, Bool.and_eq_true, Bool.not_eq_true'] at this
     exact this.1
    simp [invoke, callFunc, hfg, hnm, hbn, -beq_iff_eq, -beq_eq_false_iff_ne, -Option.isNone_iff_eq_none]
   ·rintro e m w' ⟨hm, K', μ', hA, hR, u, rfl⟩
    obtain ⟨hs', hn, hpl, hvi, hdf, _⟩ := hR
    have hset : Go.settle m = modeP (if recsF P g then none else pan) pu := by
     subst hm
     cases hr : recsF P g <;> cases pan <;> simp [modeP, modeR, Go.settle]
    show Leaves P fn tmps R (ds.map (defOf μ)) (Go.settle m) w'
    rw [hset]
    have hmap : ds.map (defOf μ) = ds.map (defOf μ') := by
     refine List.map_congr_left fun x hx => ?_
     unfold defOf
     congr 3
     refine List.map_congr_left fun b hb => ?_
     rw [hA.mu b (hin x (List.mem_cons_of_mem _ hx) b hb)]
    rw [hmap]
    refine runDefers_sound hP H ih k ds _ pu s1 K' μ' w' h (by rw [hdf, hd0]) hs' (fun x hx b hb => Nat.lt_of_lt_of_le (hin x (List.mem_cons_of_mem _ hx) b hb) hn) ?_ ?_
    ·intro d hd
     split at hd
     ·simp at hd
     ·exact Rep.step hA.step (by simp [mine]) _ _ (hpu d hd)
    ·intro K2 μ2 w2 pu2 hA2 hn2 hs2 hp2
     exact hend K2 μ2 w2 pu2 (hA.trans hA2 hn) (by omega) hs2 hp2
  ·simp at h
theorem finish_sound (hP : ProgOK P) (H : Nat → Nat → List Nat) {call : Call} (ih : CallsOK P call) (k : Nat) {fn : Func} {n : Nat} {x : AX} {s' : St} {r : CRes} {e : Exit} {a' : Act} (h : finish P H call k fn n x s' = some r)
  (ho : Out K' w' x e) (ha : After K μ w n K' μ' w') (hn : n ≤ s'.nid) (hs' : Sim K' μ' s' a' w') : bodyPostD P fn (fun e w' => EndOK K μ w n r e w') e a' w' := by
 have hs0 : Sim K' μ' { s' with defers := [] } { tmps := a'.tmps, defers := [] } w' := hs'.defs_nil
 have ret0 : ∀ {s2 : St} {K2 : Col} {μ2 : Nat → Nat} {w2 : World}, endRet P fn n s2 = some r → After K μ w n K2 μ2 w2 → Sim K2 μ2 s2 { tmps := a'.tmps, defers := [] } w2 → Leaves P fn a'.tmps (fun e w' => EndOK K μ w n r e w') [] .returning w2 := by
  intro s2 K2 μ2 w2 he ha2 hs2
  obtain ⟨u, hu, hE, _⟩ := endRet_sound ha2 hs2 he
  exact ⟨u, hu, hE⟩
 have pan0 : ∀ {d : D} {u : Value} {s2 : St} {K2 : Col} {μ2 : Nat → Nat} {w2 : World}, endPan d n s2 = some r → After K μ w n K2 μ2 w2 → Sim K2 μ2 s2 { tmps := a'.tmps, defers := [] } w2 → Rep K2 w2 d u → Leaves P fn a'.tmps (fun e w' => EndOK K μ w n r e w') [] (.panicking [⟨u, false, false⟩]) w2 :=
  fun he ha2 hs2 hu => endPan_sound ha2 hs2 hu he
 have normal : ∀ {o : Option CRes}, (if s'.defers.isEmpty then endRet P fn n s' else
   match runDefers P H call k s'.defers none { s' with defers := [] } with
   | some (none, s') => endRet P fn n s'
   | _ => none) = o → o = some r → Leaves P fn a'.tmps (fun e w' => EndOK K μ w n r e w') a'.defers .returning w' := by
  intro o h1 h2
  subst h2
  rw [hs'.defs]
  split at h1
  ·rename_i hd
   rw [List.isEmpty_iff.1 hd]
   refine ret0 (s2 := s') h1 ha ?_
   have := hs'.defs_nil
   rw [← List.isEmpty_iff.1 hd] at this
   exact this
  ·split at h1
   ·rename_i s2 hrun
    refine runDefers_sound hP H ih k s'.defers none Go.undef _ K' μ' w' hrun rfl hs0 hs'.dids (by simp) ?_
    intro K2 μ2 w2 pu2 hA hn2 hs2 _
    exact ret0 h1 (ha.trans hA hn) hs2
   ·simp at h1
 cases x with
 | normal => simp only [Out] at ho; subst ho; exact normal rfl h
 | ret => simp only [Out] at ho; subst ho; exact normal rfl h
 | exit id => simp [finish] at h
 | pan d =>
  obtain ⟨u, rfl, hu⟩ := ho
  show Leaves P fn a'.tmps _ a'.defers (.panicking [⟨u, false, false⟩]) w'
  rw [hs'.defs]
  simp only [finish] at h
  split at h
  ·rename_i hd
   rw [List.isEmpty_iff.1 hd]
   refine pan0 (s2 := s') h ha ?_ hu
   have := hs'.defs_nil
   rw [← List.isEmpty_iff.1 hd] at this
   exact this
  ·split at h
   ·rename_i s2 hrun
    refine runDefers_sound hP H ih k s'.defers (some d) u _ K' μ' w' hrun rfl hs0 hs'.dids (by intro d' e; simp only [Option.some.injEq] at e; subst e; exact hu) ?_
    intro K2 μ2 w2 pu2 hA hn2 hs2 _
    exact ret0 h (ha.trans hA hn) hs2
   ·rename_i d' s2 hrun
    refine runDefers_sound hP H ih k s'.defers (some d) u _ K' μ' w' hrun rfl hs0 hs'.dids (by intro d' e; simp only [Option.some.injEq] at e; subst e; exact hu) ?_
    intro K2 μ2 w2 pu2 hA hn2 hs2 hp2
    exact pan0 h (ha.trans hA hn) hs2 (hp2 d' rfl)
   ·simp at h
theorem acall1_sound (hP : ProgOK P) {E : Nat → Option Call} (hE : ∀ f g, E f = some g → ∀ args lh r, g f args lh = some r → Callee P f ∧ CallOK P f args lh r) (H : Nat → Nat → List Nat) {call : Call} (ih : CallsOK P call) (k : Nat) : CallsOK P (acall1 P E H call k) := by
 intro f args lh r h
 simp only [acall1] at h
 split at h
 ·rename_i g hg
  exact hE f g hg args lh r h
 ·split at h
  ·rename_i fn hfn
   split at h
   ·rename_i code hcode
    split at h
    ·rename_i hlen
     refine ⟨⟨fn, hfn, by rw [hcode]; rfl⟩, ?_⟩
     intro K μ w vs hr hi hh hb hgl
     have hfo := hP.func f fn hfn
     simp only [funcOK, hcode, Bool.and_eq_true] at hfo
     have hsim := sim_enter (n := fn.ntmps - vs.toArray.size) hr hi hh hb hgl
     have hdb := dstsBelow_mono (m := (vs.toArray ++ Array.replicate (fn.ntmps - vs.toArray.size) Go.undef).size) (by simp; omega) code hfo.2
     split at h
     ·rename_i x s' hex
      refine calls_of_wp_defers (R := fun e w' => EndOK K μ w lh.length r e w') hfn hcode (aexec_sound ih hP code hdb hex hsim rfl ?_)
      intro e K' μ' a' w' ho ha hn hs' hsz
      exact finish_sound hP H ih k h ho ha hn hs'
     ·simp at h
    ·simp at h
   ·simp at h
  ·simp at h
theorem CallOK.of_still {f : Nat} {args : List C} {lh : List (List C)} {r : CRes} (h : CallOK P f (args.map C.still) lh r) : CallOK P f args lh r := by
 intro K μ w vs hr hi hh hb hg
 refine h K μ w vs hr.still ?_ hh hb hg
 intro c hc b hbb
 simp only [List.mem_map] at hc
 obtain ⟨c', hc', rfl⟩ := hc
 rw [C.still_ids] at hbb
 exact hi c' hc' b hbb
theorem acall_sound (hP : ProgOK P) {E : Nat → Option Call} (hE : ∀ f g, E f = some g → ∀ args lh r, g f args lh = some r → Callee P f ∧ CallOK P f args lh r) (H : Nat → Nat → List Nat) :
  ∀ k, CallsOK P (acall P E H k)
 | 0 => fun f args lh r h => by simp [acall] at h
 | k + 1 => fun f args lh r h => by
  have ih := acall1_sound hP hE H (acall_sound hP hE H k) k
  simp only [acall] at h
  have := ih _ _ _ _ h
  split at this
  ·exact ⟨this.1, this.2.of_still⟩
  ·exact this
end
end Go.AM

namespace Go.AM
open Go Go.RowKit
variable [Globs]
def colRo (w : World) : Col := fun b _ => if b < w.heap.size then .ro else .other
theorem below_of_step {w w' : World} {K' : Col} (h : Step mine (colRo w) w K' w') : Below w.heap.size w w' :=
 ⟨h.os, h.tape, h.output, h.size, fun b hb => h.block b hb fun off hm => by
  simp only [colRo, hb, if_true] at hm
  exact hm.1 rfl⟩
def GlobW (w : World) : Prop := ∀ x ∈ Globs.tab, ∀ i v, x.2[i]? = some v → w.cell? (ad x.1 i) = some v
theorem GlobW.glob {w : World} (h : GlobW w) : Glob (colRo w) w := by
 intro x hx i v hv
 have := h x hx i v hv
 rw [Nat.zero_add]
 exact ⟨by simp [colRo, block_lt this], this⟩
section
variable {P : Program} {f : Nat} {args : List C} {w : World} {vs : List Value}
theorem calls_ret {v : V} (h : CallOK P f args [] (.ret v [])) (hargs : RepCs (colRo w) (fun _ => 0) w args vs) (hids : ∀ c ∈ args, c.ids = []) (hg : GlobW w) :
  Calls P f vs.toArray w fun e w' => Below w.heap.size w w' ∧ ∃ u K' μ', e = .returned u ∧ RepV K' μ' w' v u := by
 refine (h (colRo w) (fun _ => 0) w vs hargs (fun c hc b hb => by rw [hids c hc] at hb; simp at hb) (fun i cells hi => by simp at hi)
  (fun b off hb => by simp only [colRo]; rw [if_neg (by omega)]) hg.glob).mono ?_
 rintro e w' ⟨K', μ', hst, _, _, _, _, _, _, u, rfl, hu⟩
 exact ⟨below_of_step hst, u, K', μ', rfl, hu⟩
theorem calls_true (h : CallOK P f args [] (.ret (.d (.bool true)) [])) (hargs : RepCs (colRo w) (fun _ => 0) w args vs) (hids : ∀ c ∈ args, c.ids = []) (hg : GlobW w) :
  Calls P f vs.toArray w fun e w' => e = .returned (.bool true) ∧ Below w.heap.size w w' := by
 refine (calls_ret h hargs hids hg).mono ?_
 rintro e w' ⟨hb, u, K', μ', rfl, hu⟩
 simp only [RepV, RepC, Rep] at hu
 subst hu
 exact ⟨rfl, hb⟩
end
end Go.AM

namespace Go.AM
open Go
def Evt (p : Nat → Prop) : Prop := ∃ k₀, ∀ k, k₀ ≤ k → p k
theorem Evt.of {p : Nat → Prop} (h : ∀ k, p k) : Evt p := ⟨0, fun k _ => h k⟩
theorem Evt.and {p q : Nat → Prop} (h : Evt p) (h' : Evt q) : Evt fun k => p k ∧ q k := by
 obtain ⟨a, ha⟩ := h; obtain ⟨b, hb⟩ := h'
 exact ⟨max a b, fun k hk => ⟨ha k (by omega), hb k (by omega)⟩⟩
theorem Evt.imp {p q : Nat → Prop} (h : Evt p) (hq : ∀ k, p k → q k) : Evt q := by
 obtain ⟨a, ha⟩ := h; exact ⟨a, fun k hk => hq k (ha k hk)⟩
theorem Evt.succ {p : Nat → Prop} (h : Evt fun k => p (k + 1)) : Evt p := by
 obtain ⟨a, ha⟩ := h
 refine ⟨a + 1, fun k hk => ?_⟩
 obtain ⟨j, rfl⟩ : ∃ j, k = j + 1 := ⟨k - 1, by omega⟩
 exact ha j (by omega)
structure Ctx where
 P : Program
 E : Nat → Option Call
 H : Nat → Nat → List Nat
abbrev Ctx.call (X : Ctx) (k : Nat) : Call := acall X.P X.E X.H k
def aval (X : Ctx) (f : Nat) (args : List C) (lh : List (List C)) (r : CRes) : Prop := Evt fun k => X.call k f args lh = some r
structure awp (X : Ctx) (f : Nat) (c : Code) (Q : AX → St → Prop) (s : St) : Prop where
 ex : ∃ x s', (Evt fun k => aexec X.P (X.H f) (X.call k) k c s = some (x, s')) ∧ Q x s'
structure awpO (X : Ctx) (ops : Array Oper) (l : List Oper) (Q : AX → St → Prop) (s : St) : Prop where
 ex : ∃ x s', (Evt fun k => ∀ fs, ∃ fs', evOps X.P (X.call k) ops l s fs = some (x, s', fs')) ∧ Q x s'
structure awpD (X : Ctx) (ops : Array Oper) (vs : List Nat) (base : Nat) (pre : List Fp) (l : List Oper) (i : Nat) (Q : AX → St → Prop) (s : St) : Prop where
 ex : ∃ x s' fs, (Evt fun k => drawOps X.P (X.call k) ops vs base l i s = some (x, s', fs)) ∧ (drawOk x.isPan ops base (pre ++ fs) && decide (base ≤ s'.nid)) = true ∧ Q x s'
structure awpL (X : Ctx) (f : Nat) (c : Code) (clean : St → Option St) (Q : AX → St → Prop) (s : St) : Prop where
 ex : ∃ x s', (∃ m₀, Evt fun k => ∀ m, m₀ ≤ m → iter (aexec X.P (X.H f) (X.call k) k c) clean m s = some (x, s')) ∧ Q x s'
inductive seqQ (X : Ctx) (f : Nat) (b : Code) (Q : AX → St → Prop) : AX → St → Prop where
 | normal {s : St} : awp X f b Q s → seqQ X f b Q .normal s
 | exit {id : Nat} {s : St} : Q (.exit id) s → seqQ X f b Q (.exit id) s
 | ret {s : St} : Q .ret s → seqQ X f b Q .ret s
 | pan {d : D} {s : St} : Q (.pan d) s → seqQ X f b Q (.pan d) s
def settleS (h : List Nat) (n : Nat) (s : St) : Option St := match h with
 | [] => some s
 | _ :: ks => cleanAt ks n s
theorem settle_normal {h : List Nat} {n : Nat} {s s' : St} (hs : settleS h n s = some s') : settle h n (some (.normal, s)) = some (.normal, s') := by
 cases h with
 | nil => simp only [settleS, Option.some.injEq] at hs; subst hs; rfl
 | cons k ks => simp only [settleS] at hs; simp only [settle, hs]
inductive exitQ (id : Nat) (hk : List Nat) (n : Nat) (Q : AX → St → Prop) : AX → St → Prop where
 | here {s s' : St} : settleS hk n s = some s' → Q .normal s' → exitQ id hk n Q (.exit id) s
 | there {id' : Nat} {s : St} : (id' == id) = false → Q (.exit id') s → exitQ id hk n Q (.exit id') s
 | normal {s s' : St} : settleS hk n s = some s' → Q .normal s' → exitQ id hk n Q .normal s
 | ret {s : St} : Q .ret s → exitQ id hk n Q .ret s
 | pan {d : D} {s : St} : Q (.pan d) s → exitQ id hk n Q (.pan d) s
inductive condQ (hk : List Nat) (n : Nat) (Q : AX → St → Prop) : AX → St → Prop where
 | normal {s s' : St} : settleS hk n s = some s' → Q .normal s' → condQ hk n Q .normal s
 | exit {id : Nat} {s : St} : Q (.exit id) s → condQ hk n Q (.exit id) s
 | ret {s : St} : Q .ret s → condQ hk n Q .ret s
 | pan {d : D} {s : St} : Q (.pan d) s → condQ hk n Q (.pan d) s
theorem condQ.settled {hk : List Nat} {n : Nat} {Q : AX → St → Prop} {x : AX} {s : St} (h : condQ hk n Q x s) : ∃ s', settle hk n (some (x, s)) = some (x, s') ∧ Q x s' := by
 cases h with
 | normal h1 h2 => exact ⟨_, settle_normal h1, h2⟩
 | exit h => exact ⟨_, rfl, h⟩
 | ret h => exact ⟨_, rfl, h⟩
 | pan h => exact ⟨_, rfl, h⟩
theorem exitQ.settled {id : Nat} {hk : List Nat} {n : Nat} {Q : AX → St → Prop} {x : AX} {s : St} (h : exitQ id hk n Q x s) : ∃ x' s', settle hk n (leaves id (some (x, s))) = some (x', s') ∧ Q x' s' := by
 cases h with
 | here h1 h2 => exact ⟨_, _, by simp only [leaves, if_true]; exact settle_normal h1, h2⟩
 | there hn h =>
  refine ⟨_, _, ?_, h⟩
  simp only [leaves]
  rw [if_neg (by simpa using hn)]; rfl
 | normal h1 h2 => exact ⟨_, _, settle_normal h1, h2⟩
 | ret h => exact ⟨_, _, rfl, h⟩
 | pan h => exact ⟨_, _, rfl, h⟩
section
variable {X : Ctx} {f : Nat} {Q : AX → St → Prop} {s : St}
theorem awp_skip (h : Q .normal s) : awp X f .skip Q s := ⟨_, _, .of fun _ => rfl, h⟩
theorem awp_ret (h : Q .ret s) : awp X f .ret Q s := ⟨_, _, .of fun _ => rfl, h⟩
theorem awp_exit {id : Nat} (h : Q (.exit id) s) : awp X f (.exit id) Q s := ⟨_, _, .of fun _ => rfl, h⟩
theorem awp_seq {a b : Code} (h : awp X f a (seqQ X f b Q) s) : awp X f (.seq a b) Q s := by
 obtain ⟨x, s', h1, h2⟩ := h
 cases x with
 | normal =>
  cases h2 with | normal h2 =>
  obtain ⟨x2, s2, h3, h4⟩ := h2
  exact ⟨x2, s2, (h1.and h3).imp fun k ⟨p, q⟩ => by simp only [aexec, p, q], h4⟩
 | exit id => cases h2 with | exit h2 => exact ⟨_, s', h1.imp fun k p => by simp only [aexec, p], h2⟩
 | ret => cases h2 with | ret h2 => exact ⟨_, s', h1.imp fun k p => by simp only [aexec, p], h2⟩
 | pan d => cases h2 with | pan h2 => exact ⟨_, s', h1.imp fun k p => by simp only [aexec, p], h2⟩
theorem awp_cond {o : Operand} {a b : Code} {c : Bool} (hc : ev s.tmps o = some (.c (.d (.bool c)))) (h : c = true → awp X f a (condQ (X.H f (condKey a b)) s.nid Q) s) (h' : c = false → awp X f b (condQ (X.H f (condKey a b)) s.nid Q) s) : awp X f (.cond o a b) Q s := by
 cases c with
 | true =>
  obtain ⟨x, s', h1, h2⟩ := h rfl
  obtain ⟨s2, h3, h4⟩ := h2.settled
  exact ⟨x, s2, h1.imp fun k p => by simp only [aexec, hc, p, h3], h4⟩
 | false =>
  obtain ⟨x, s', h1, h2⟩ := h' rfl
  obtain ⟨s2, h3, h4⟩ := h2.settled
  exact ⟨x, s2, h1.imp fun k p => by simp only [aexec, hc, p, h3], h4⟩
theorem awp_block {id : Nat} {c : Code} (h : awp X f c (exitQ id (X.H f (1000000 + id)) s.nid Q) s) : awp X f (.block id c) Q s := by
 obtain ⟨x, s', h1, h2⟩ := h
 obtain ⟨x2, s2, h3, h4⟩ := h2.settled
 exact ⟨x2, s2, h1.imp fun k p => by simp only [aexec, p, h3], h4⟩
theorem awp_regionF {id : Nat} {ops : Array Oper} {s0 : St} (hz : frz (X.H f id) s = some s0) (h : awpO X ops ops.toList Q { s0 with tmps := keepT (X.H f id) s0.tmps }) : awp X f (.region id ops false) Q s := by
 obtain ⟨x, s', h1, h2⟩ := h
 refine ⟨x, s', h1.imp fun k p => ?_, h2⟩
 obtain ⟨fs', hp⟩ := p []
 simp only [aexec, hz, Bool.false_eq_true, if_false, hp]
theorem awp_drawF {id : Nat} {ops : Array Oper} {s0 : St} (hns : (X.H f id).contains 4999999 = false) (hz : frz (X.H f id) s = some s0) (h : awpD X ops (appended? ops) s0.nid [] ops.toList 0 Q { s0 with tmps := keepT (X.H f id) s0.tmps, nid := s0.nid + ops.size }) : awp X f (.region id ops true) Q s := by
 obtain ⟨x, s', fs, h1, h2, h3⟩ := h
 refine ⟨x, s', h1.imp fun k p => ?_, h3⟩
 simp only [aexec, hz, if_true, hns, drawRegion, p]
 simp only [List.nil_append] at h2
 rw [if_pos h2]
def noF (ks : List Nat) : Bool := ks.all fun k => !Nat.ble 7000000 k
theorem frz_noF : ∀ {ks : List Nat} {s : St}, noF ks = true → frz ks s = some s
 | [], _, _ => rfl
 | k :: r, s, h => by
  simp only [noF, List.all_cons, Bool.and_eq_true, Bool.not_eq_true'] at h
  simp only [frz, h.1]
  exact frz_noF h.2
theorem awp_region {id : Nat} {ops : Array Oper} (hz : noF (X.H f id) = true) (h : awpO X ops ops.toList Q { s with tmps := keepT (X.H f id) s.tmps }) : awp X f (.region id ops false) Q s := awp_regionF (frz_noF hz) h
theorem awp_draw {id : Nat} {ops : Array Oper} (hz : (noF (X.H f id) && !(X.H f id).contains 4999999) = true) (h : awpD X ops (appended? ops) s.nid [] ops.toList 0 Q { s with tmps := keepT (X.H f id) s.tmps, nid := s.nid + ops.size }) : awp X f (.region id ops true) Q s := awp_drawF (by simp only [Bool.and_eq_true, Bool.not_eq_true'] at hz; exact hz.2) (frz_noF (by simp only [Bool.and_eq_true] at hz; exact hz.1)) h
theorem awp_mono {c : Code} {Q' : AX → St → Prop} (h : awp X f c Q s) (hq : ∀ x s', Q x s' → Q' x s') : awp X f c Q' s := by
 obtain ⟨x, s', h1, h2⟩ := h
 exact ⟨x, s', h1, hq x s' h2⟩
theorem awpO_nil {ops : Array Oper} (h : Q .normal s) : awpO X ops [] Q s := ⟨_, _, .of fun _ fs => ⟨fs, rfl⟩, h⟩
theorem awpO_skip {ops : Array Oper} {o : Oper} {l : List Oper} (hw : wantedAt ops s.tmps o = some false) (h : awpO X ops l Q (putDst o (.c .undef) s)) : awpO X ops (o :: l) Q s := by
 obtain ⟨x, s', h1, h2⟩ := h
 refine ⟨x, s', h1.imp fun k p fs => ?_, h2⟩
 obtain ⟨fs', hp⟩ := p (Foot.none :: fs)
 exact ⟨fs', by simp only [evOps, hw, hp]⟩
theorem awpO_op {ops : Array Oper} {o : Oper} {l : List Oper} {v : V} {s1 : St} {ft : Foot} (hw : wantedAt ops s.tmps o = some true) (hop : Evt fun k => evOp X.P (X.call k) s.nid o s = some (.val v s1, ft))
  (h : awpO X ops l Q (putDst o v s1)) : awpO X ops (o :: l) Q s := by
 obtain ⟨x, s', h1, h2⟩ := h
 refine ⟨x, s', (hop.and h1).imp fun k ⟨q, p⟩ fs => ?_, h2⟩
 obtain ⟨fs', hp⟩ := p (ft :: fs)
 exact ⟨fs', by simp only [evOps, hw, q, hp]⟩
theorem awpO_rfl {ops : Array Oper} {o : Oper} {l : List Oper} {v : V} {s1 : St} {ft : Foot} (hw : wantedAt ops s.tmps o = some true) (hop : ∀ call, evOp X.P call s.nid o s = some (.val v s1, ft))
  (h : awpO X ops l Q (putDst o v s1)) : awpO X ops (o :: l) Q s := awpO_op hw (.of fun _ => hop _) h
theorem awpO_pan {ops : Array Oper} {o : Oper} {l : List Oper} {d : D} {s1 : St} {ft : Foot} (hw : wantedAt ops s.tmps o = some true) (hop : Evt fun k => evOp X.P (X.call k) s.nid o s = some (.pan d s1, ft))
  (h : Q (.pan d) s1) : awpO X ops (o :: l) Q s :=
 ⟨_, _, hop.imp fun k q fs => ⟨ft :: fs, by simp only [evOps, hw, q]⟩, h⟩
theorem awpD_nil {ops : Array Oper} {vs : List Nat} {base i : Nat} {pre : List Fp} (hok : (drawOk false ops base pre && decide (base ≤ s.nid)) = true) (h : Q .normal s) : awpD X ops vs base pre [] i Q s :=
 ⟨_, _, [], .of fun _ => rfl, by rw [List.append_nil]; exact hok, h⟩
theorem awpD_skip {ops : Array Oper} {vs : List Nat} {base i : Nat} {pre : List Fp} {o : Oper} {l : List Oper} {s1 : St} (hw : wantedAt ops s.tmps o = some false) (hp : putD o.dst (.c .undef) s = some s1)
  (h : awpD X ops vs base (pre ++ [Fp.fill ⟨(readsOf ops o).map .tmp, dstLc o.dst (.c .undef), [], false⟩ s1]) l (i + 1) Q s1) : awpD X ops vs base pre (o :: l) i Q s := by
 obtain ⟨x, s', fs, h1, h2, h3⟩ := h
 refine ⟨x, s', Fp.fill ⟨(readsOf ops o).map .tmp, dstLc o.dst (.c .undef), [], false⟩ s1 :: fs, h1.imp fun k p => by simp only [drawOps, hw, hp, p], ?_, h3⟩
 rw [List.append_assoc] at h2; exact h2
theorem awpD_op {ops : Array Oper} {vs : List Nat} {base i : Nat} {pre : List Fp} {o : Oper} {l : List Oper} {v : V} {s1 s2 : St} {ft : Fp} (hw : wantedAt ops s.tmps o = some true)
  (hop : Evt fun k => drawOp X.P (X.call k) ops vs (base + i) o s = some (.val v s1, ft)) (hp : putD o.dst v s1 = some s2)
  (h : awpD X ops vs base (pre ++ [ft.fill s2]) l (i + 1) Q s2) : awpD X ops vs base pre (o :: l) i Q s := by
 obtain ⟨x, s', fs, h1, h2, h3⟩ := h
 refine ⟨x, s', ft.fill s2 :: fs, (hop.and h1).imp fun k ⟨q, p⟩ => by simp only [drawOps, hw, q, hp, p], ?_, h3⟩
 rw [List.append_assoc] at h2; exact h2
theorem awpD_rfl {ops : Array Oper} {vs : List Nat} {base i : Nat} {pre : List Fp} {o : Oper} {l : List Oper} {v : V} {s1 s2 : St} {ft : Fp} (hw : wantedAt ops s.tmps o = some true)
  (hop : ∀ call, drawOp X.P call ops vs (base + i) o s = some (.val v s1, ft)) (hp : putD o.dst v s1 = some s2)
  (h : awpD X ops vs base (pre ++ [ft.fill s2]) l (i + 1) Q s2) : awpD X ops vs base pre (o :: l) i Q s := awpD_op hw (.of fun _ => hop _) hp h
theorem awpD_pan {ops : Array Oper} {vs : List Nat} {base i : Nat} {pre : List Fp} {o : Oper} {l : List Oper} {d d0 : D} {s1 s0 : St} {ft ft0 : Fp} (hw : wantedAt ops s.tmps o = some true)
  (hop0 : Evt fun k => drawOp X.P (X.call k) ops vs (base + i) o s = some (.pan d0 s0, ft0)) (hw' : wantedAt ops (dropT (looseDst ops i) s).tmps o = some true)
  (hop : Evt fun k => drawOp X.P (X.call k) ops vs (base + i) o (dropT (looseDst ops i) s) = some (.pan d s1, ft)) (hok : (drawOk true ops base (pre ++ [ft]) && decide (base ≤ s1.nid)) = true) (h : Q (.pan d) s1) : awpD X ops vs base pre (o :: l) i Q s := by
 refine ⟨.pan d, s1, [ft], (hop0.and hop).imp fun k p => ?_, hok, h⟩
 obtain ⟨q, p⟩ := p
 rw [drawOps]
 simp only [hw, q]
 rw [hw', p]
theorem awp_loop {c : Code} (h : awpL X f c (cleanAt (X.H f (firstRegion c)) s.nid) Q s) : awp X f (.loop c) Q s := by
 obtain ⟨x, s', ⟨m₀, a, h1⟩, h2⟩ := h
 exact ⟨x, s', ⟨max m₀ a, fun k hk => by simp only [aexec]; exact h1 k (by omega) k (by omega)⟩, h2⟩
theorem awpL_round {c : Code} {clean : St → Option St} {s1 : St} (hc : clean s = some s1) (h : awp X f c (fun x s' => match x with | .normal => awpL X f c clean Q s' | x => Q x s') s1) : awpL X f c clean Q s := by
 obtain ⟨x, s', h1, h2⟩ := h
 cases x with
 | normal =>
  obtain ⟨x2, s2, ⟨m₀, h3⟩, h4⟩ := h2
  refine ⟨x2, s2, ⟨m₀ + 1, (h1.and h3).imp fun k ⟨p, q⟩ m hm => ?_⟩, h4⟩
  obtain ⟨j, rfl⟩ : ∃ j, m = j + 1 := ⟨m - 1, by omega⟩
  simp only [iter, hc, p]
  exact q j (by omega)
 | _ =>
  refine ⟨_, s', ⟨1, h1.imp fun k p m hm => ?_⟩, h2⟩
  obtain ⟨j, rfl⟩ : ∃ j, m = j + 1 := ⟨m - 1, by omega⟩
  simp only [iter, hc, p]
structure atEnd (X : Ctx) (fn : Func) (n : Nat) (r : CRes) (x : AX) (s : St) : Prop where
 ex : Evt fun k => finish X.P X.H (X.call k) k fn n x s = some r
structure rdef (X : Ctx) (ds : List (Nat × List Nat)) (pan : Option D) (s : St) (pan' : Option D) (s' : St) : Prop where
 ex : Evt fun k => runDefers X.P X.H (X.call k) k ds pan s = some (pan', s')
theorem atEnd.ret {fn : Func} {n : Nat} {r : CRes} (hd : s.defers = []) (h : endRet X.P fn n s = some r) : atEnd X fn n r .ret s :=
 ⟨.of fun k => by simp only [finish, hd, List.isEmpty_nil, if_true, h]⟩
theorem atEnd.normal {fn : Func} {n : Nat} {r : CRes} (hd : s.defers = []) (h : endRet X.P fn n s = some r) : atEnd X fn n r .normal s :=
 ⟨.of fun k => by simp only [finish, hd, List.isEmpty_nil, if_true, h]⟩
theorem atEnd.pan {fn : Func} {n : Nat} {r : CRes} {d : D} (hd : s.defers = []) (h : endPan d n s = some r) : atEnd X fn n r (.pan d) s :=
 ⟨.of fun k => by simp only [finish, hd, List.isEmpty_nil, if_true, h]⟩
theorem atEnd.dret {fn : Func} {n : Nat} {r : CRes} {x : Nat × List Nat} {l : List (Nat × List Nat)} {s' : St} (hd : s.defers = x :: l) (h : rdef X (x :: l) none { s with defers := [] } none s') (h' : endRet X.P fn n s' = some r) : atEnd X fn n r .ret s :=
 ⟨h.ex.imp fun k p => by simp only [finish, hd, List.isEmpty_cons, Bool.false_eq_true, if_false, p, h']⟩
theorem atEnd.dpan {fn : Func} {n : Nat} {r : CRes} {d d' : D} {x : Nat × List Nat} {l : List (Nat × List Nat)} {s' : St} (hd : s.defers = x :: l) (h : rdef X (x :: l) (some d) { s with defers := [] } (some d') s') (h' : endPan d' n s' = some r) : atEnd X fn n r (.pan d) s :=
 ⟨h.ex.imp fun k p => by simp only [finish, hd, List.isEmpty_cons, Bool.false_eq_true, if_false, p, h']⟩
theorem atEnd.drec {fn : Func} {n : Nat} {r : CRes} {d : D} {x : Nat × List Nat} {l : List (Nat × List Nat)} {s' : St} (hd : s.defers = x :: l) (h : rdef X (x :: l) (some d) { s with defers := [] } none s') (h' : endRet X.P fn n s' = some r) : atEnd X fn n r (.pan d) s :=
 ⟨h.ex.imp fun k p => by simp only [finish, hd, List.isEmpty_cons, Bool.false_eq_true, if_false, p, h']⟩
def avalD (X : Ctx) (pan : Option D) (f : Nat) (args : List C) (lh : List (List C)) (r : CRes) : Prop := Evt fun k => acallD X.P X.H (X.call k) k pan f args lh = some r
theorem rdef.nil {pan : Option D} : rdef X [] pan s pan s := ⟨.of fun _ => rfl⟩
theorem rdef.cons {g : Nat} {caps ids : List Nat} {l : List (Nat × List Nat)} {pan pan' : Option D} {s' : St} {args' : List C} {lh lh' lh'' : List (List C)} {v v' : V} (hr : reach s.heap 64 ((caps.map fun b => C.ptr b 0).flatMap C.ids) [] = some ids) (hi : mapM? (C.into ids) (caps.map fun b => .ptr b 0) = some args')
  (hb : blksInto s.heap ids = some lh) (hv : avalD X pan g args' lh (.ret v lh')) (hk : mapM? (mapM? (C.back (ids ++ idsFrom s.nid (lh'.length - ids.length)))) lh' = some lh'') (hv' : V.back (ids ++ idsFrom s.nid (lh'.length - ids.length)) v = some v')
  (h : rdef X l (if recsF X.P g then none else pan) { s with tmps := unviewIn (ids ++ idsFrom s.nid (lh'.length - ids.length)) s.tmps, heap := putBlks (ids ++ idsFrom s.nid (lh'.length - ids.length)) lh'' s.heap, nid := s.nid + (lh'.length - ids.length) } pan' s') :
  rdef X ((g, caps) :: l) pan s pan' s' :=
 ⟨(hv.and h.ex).imp fun k ⟨p, q⟩ => by simp only [runDefers, doCall, hr, hi, hb, p, hk, hv']; exact q⟩
theorem aval_of {fn : Func} {code : Code} {args args' : List C} {lh : List (List C)} {r : CRes} (hE : X.E f = none) (hf : X.P.funcs[f]? = some fn) (hb : fn.body = some code) (hst : (if (X.H f 999999).isEmpty then args.map C.still else args) = args') (hl : args'.length = fn.params.size + fn.nfree)
  (h : awp X f code (atEnd X fn lh.length r) (enterSt args' lh)) : aval X f args lh r := by
 obtain ⟨x, s', h1, h2⟩ := h
 refine Evt.succ ((h1.and h2.ex).imp fun k ⟨p, q⟩ => ?_)
 simp only [Ctx.call, acall, hst, acall1, hE, hf, hb, hl, if_true]
 simp only [Ctx.call] at p q
 simp only [p]
 exact q
structure atEndD (X : Ctx) (fn : Func) (n : Nat) (r : CRes) (x : AX) (s : St) : Prop where
 ex : (x = .normal ∨ x = .ret) ∧ s.defers = [] ∧ endRet X.P fn n s = some r
theorem avalD_of {fn : Func} {code : Code} {pan : Option D} {args : List C} {lh : List (List C)} {r : CRes} (hf : X.P.funcs[f]? = some fn) (hb : fn.body = some code) (hl : args.length = fn.params.size + fn.nfree) (hrc : recs code = false)
  (h : awp X f code (atEndD X fn lh.length r) (enterSt args lh)) : avalD X pan f args lh r := by
 obtain ⟨x, s', h1, ⟨hx, hd, h2⟩⟩ := h
 refine h1.imp fun k p => ?_
 simp only [acallD, hf, hb, hl, if_true, aexecR, hrc, p]
 rcases hx with rfl | rfl <;> simp only [hd, List.isEmpty_nil, if_true, h2]
theorem avalD_rec {fn : Func} {id : Nat} {ops : Array Oper} {o o1 : Oper} {b : Code} {pan : Option D} {args : List C} {lh : List (List C)} {r : CRes} (hf : X.P.funcs[f]? = some fn) (hb : fn.body = some (.seq (.region id ops false) b)) (hl : args.length = fn.params.size + fn.nfree) (hrc : recs (.seq (.region id ops false) b) = true) (ho : ops.toList = [o, o1])
  (h : awp X f b (atEndD X fn lh.length r) (putDst o1 (recV pan) (putDst o (recV pan) { enterSt args lh with tmps := keepT (X.H f id) (enterSt args lh).tmps }))) : avalD X pan f args lh r := by
 obtain ⟨x, s', h1, ⟨hx, hd, h2⟩⟩ := h
 refine h1.imp fun k p => ?_
 simp only [acallD, hf, hb, hl, if_true, aexecR, hrc, ho, p]
 rcases hx with rfl | rfl <;> simp only [hd, List.isEmpty_nil, if_true, h2]
theorem C.still_still : ∀ l : List C, (l.map C.still).map C.still = l.map C.still
 | [] => rfl
 | c :: l => by
  have ih := C.still_still l
  simp only [List.map_cons, ih]
  cases c <;> rfl
theorem aval_still {args : List C} {lh : List (List C)} {r : CRes} (h : aval X f (args.map C.still) lh r) (hH : (X.H f 999999).isEmpty = true) : aval X f args lh r := by
 obtain ⟨k₀, h⟩ := h
 refine ⟨k₀ + 1, fun k hk => ?_⟩
 obtain ⟨j, rfl⟩ : ∃ j, k = j + 1 := ⟨k - 1, by omega⟩
 have := h (j + 1) (by omega)
 simp only [Ctx.call, acall, hH, if_true] at this ⊢
 rw [C.still_still] at this
 exact this
theorem aval_ext {g : Call} {args args' : List C} {lh : List (List C)} {r : CRes} (hE : X.E f = some g) (hst : (if (X.H f 999999).isEmpty then args.map C.still else args) = args') (h : g f args' lh = some r) : aval X f args lh r :=
 Evt.succ (.of fun k => by simp only [Ctx.call, acall, hst, acall1, hE, h])
theorem evt_call {o : Oper} {c : Go.Call} {fo : Operand} {g : Nat} {caps ids : List Nat} {args args' : List C} {lh lh' lh'' : List (List C)} {v v' : V} (ho : o.op = .call c) (hc : c.callee = .value fo) (hf : ev s.tmps fo = some (.c (.fn g caps)))
  (ha : argsT X.P s.tmps c.args.toList c.argTypes.toList = some args) (hr : reach s.heap 64 ((args ++ caps.map fun b => C.ptr b 0).flatMap C.ids) [] = some ids) (hi : mapM? (C.into ids) (args ++ caps.map fun b => .ptr b 0) = some args')
  (hb : blksInto s.heap ids = some lh) (hv : aval X g args' lh (.ret v lh')) (hk : mapM? (mapM? (C.back (ids ++ idsFrom s.nid (lh'.length - ids.length)))) lh' = some lh'') (hv' : V.back (ids ++ idsFrom s.nid (lh'.length - ids.length)) v = some v') :
  Evt fun k => evOp X.P (X.call k) s.nid o s = some (.val v' { s with tmps := unviewIn (ids ++ idsFrom s.nid (lh'.length - ids.length)) s.tmps, heap := putBlks (ids ++ idsFrom s.nid (lh'.length - ids.length)) lh'' s.heap, nid := s.nid + (lh'.length - ids.length) }, ⟨ids, ids, []⟩) :=
 hv.imp fun k p => by simp only [evOp, ho, hc, hf, ha, doCall, hr, hi, hb, p, hk, hv']
end
end Go.AM

namespace Go.AM
open Go
section
variable {P : Program} {call : Call} {id : Nat} {o : Oper} {s : St}
theorem ev_index_str {t : TypeId} {x i : Operand} {l : List UInt8} {k : IntKind} {n : Int} {b : UInt8} (ho : o.op = .index t x i) (ht : P.underlying t = some .string) (hx : ev s.tmps x = some (.c (.d (.str l))))
  (hi : ev s.tmps i = some (.c (.d (.int k n)))) (h0 : 0 ≤ n) (hb : l[n.toNat]? = some b) : evOp P call id o s = some (.val (.d (byteD b)) s, ⟨readsBlk o s.tmps, [], []⟩) := by
 simp only [evOp, ho, evR, ht, hx, hi, h0, if_true, hb]
theorem ev_indexAddr {t e : TypeId} {x i : Operand} {sz : Nat} {xs : List D} {k : IntKind} {n : Int} {d : D} (ho : o.op = .indexAddr t x i) (ht : telem P t = some e) (hz : some sz = tsz P e) (hx : (ev s.tmps x).bind V.toD = some (.list sz xs))
  (hi : ev s.tmps i = some (.c (.d (.int k n)))) (h0 : 0 ≤ n) (hb : xs[n.toNat]? = some d) : evOp P call id o s = some (.val (.rptr d.cells) s, ⟨readsBlk o s.tmps, [], []⟩) := by
 obtain ⟨v, hv, hd⟩ := Option.bind_eq_some_iff.1 hx
 cases v with
 | c y =>
  cases y with
  | arr b n k => simp [V.toD, C.toD] at hd
  | _ => simp only [evOp, ho, evR, ht, hv, hi, hd, h0, hz, and_self, if_true, hb]
 | _ => simp only [evOp, ho, evR, ht, hv, hi, hd, h0, hz, and_self, if_true, hb]
theorem ev_slice_str {t : TypeId} {x : Operand} {lo hi : Option Operand} {l : List UInt8} {a b : Nat} (ho : o.op = .slice t x lo hi none) (ht : P.underlying t = some .string) (hx : evT P t s.tmps x = some (.c (.d (.str l))))
  (hl : optNat s.tmps lo 0 = some a) (hh : optNat s.tmps hi l.length = some b) (h1 : a ≤ b) (h2 : b ≤ l.length) :
  evOp P call id o s = some (.val (.d (.str ((l.take b).drop a))) s, ⟨readsBlk o s.tmps, [], []⟩) := by
 simp only [evOp, ho, evR, hx, lenV, ht, V.toD, C.toD, hl, hh, sliceV, h1, h2, and_self, if_true, Option.map_some]
theorem optNat_some {tm : List (Nat × V)} {x : Operand} {k : IntKind} {n : Int} {d : Nat} (hx : ev tm x = some (.c (.d (.int k n)))) (h : 0 ≤ n) : optNat tm (some x) d = some n.toNat := by
 simp only [optNat, hx, h, if_true]
theorem ev_slice_list {t e : TypeId} {x : Operand} {lo hi : Option Operand} {v : V} {sz : Nat} {xs : List D} {a b : Nat} (ho : o.op = .slice t x lo hi none) (ht : P.underlying t = some (.slice e)) (hz : tsz P e = some sz) (hx : evT P t s.tmps x = some v) (hv : v.toD = some (.list sz xs))
  (hl : optNat s.tmps lo 0 = some a) (hh : optNat s.tmps hi xs.length = some b) (h1 : a ≤ b) (h2 : b ≤ xs.length) :
  evOp P call id o s = some (.val (.d (.list sz ((xs.take b).drop a))) s, ⟨readsBlk o s.tmps, [], []⟩) := by
 simp [evOp, ho, evR, hx, lenV_data hv, ht, hv, hl, hh, sliceV, h1, h2, hz]
theorem ev_concat {t u : TypeId} {x y : Operand} {a b : List UInt8} (ho : o.op = .binOp .add t x y u) (hx : evT P t s.tmps x = some (.c (.d (.str a)))) (hy : evT P t s.tmps y = some (.c (.d (.str b)))) (h : a.length + b.length ≤ room) :
  evOp P call id o s = some (.val (.d (.str (a ++ b))) s, ⟨readsBlk o s.tmps, [], []⟩) := by
 simp only [evOp, ho, evR, hx, hy, binV, strOp, h, if_true]
theorem ev_bytes {src dst e : TypeId} {x : Operand} {a : List UInt8} (ho : o.op = .convert src dst x) (hs : P.underlying src = some .string) (hd : P.underlying dst = some (.slice e)) (he : P.underlying e = some (.int .u8)) (hz : tsz P e = some 1)
  (hx : evT P src s.tmps x = some (.c (.d (.str a)))) (h : a.length ≤ room) : evOp P call id o s = some (.val (.c (.own 1 (a.map byteD))) s, ⟨readsBlk o s.tmps, [], []⟩) := by
 simp only [evOp, ho, evR, hx, convV, hs, hd, he, h, hz, and_self, if_true]
theorem ev_append_nil {c : Go.Call} {t u e : TypeId} {x y : Operand} {n z : Nat} {yv : V} {ys : List D} (ho : o.op = .call c) (hc : c.callee = .builtin .append) (ha : c.args.toList = [x, y]) (hat : c.argTypes.toList = [t, u]) (ht : telem P t = some e) (hn : tsz P e = some n) (hu : isSource P u = true)
  (hb : P.bytesOf e ≤ 1024 ∧ zeroFits P e n = true) (hx : evT P t s.tmps x = some (.c (.nilsl z))) (hy : evT P u s.tmps y = some yv) (hys : appended yv = some (n, ys)) (hl : ys.length ≤ 4294967296) :
  evOp P call id o s = some (.val (.c (.own n ys)) s, appendFoot x s.tmps) := by
 simp only [evOp, ho, hc, ha, hat, doAppend, ht, hn, hu, hx, hy, hys, Option.bind_some, hb, and_self, if_true, hl]
theorem ev_append_view {c : Go.Call} {t u e : TypeId} {x y : Operand} {n w : Nat} {yv : V} {xs ys zs : List D} (ho : o.op = .call c) (hc : c.callee = .builtin .append) (ha : c.args.toList = [x, y]) (hat : c.argTypes.toList = [t, u]) (ht : telem P t = some e) (hn : tsz P e = some n) (hu : isSource P u = true)
  (hb : P.bytesOf e ≤ 1024 ∧ zeroFits P e n = true) (hx : evT P t s.tmps x = some (.view (.tmp w) n xs)) (hw : look w s.tmps = some (.c (.own n zs))) (hy : evT P u s.tmps y = some yv) (hys : appended yv = some (n, ys)) (hl : xs.length + ys.length ≤ 4294967296) :
  evOp P call id o s = some (.val (.c (.own n (xs ++ ys))) { s with tmps := plainAt w s.tmps }, appendFoot x s.tmps) := by
 simp only [evOp, ho, hc, ha, hat, doAppend, ht, hn, hu, hx, hy, hys, Option.bind_some, hb, and_self, if_true, hw, hl]
theorem ev_append_cell {c : Go.Call} {t u e : TypeId} {x y : Operand} {n b off : Nat} {yv : V} {xs ys zs : List D} {cells : List C} (ho : o.op = .call c) (hc : c.callee = .builtin .append) (ha : c.args.toList = [x, y]) (hat : c.argTypes.toList = [t, u]) (ht : telem P t = some e) (hn : tsz P e = some n) (hu : isSource P u = true)
  (hb : P.bytesOf e ≤ 1024 ∧ zeroFits P e n = true) (hx : evT P t s.tmps x = some (.view (.cell b off) n xs)) (hw : lookC b s.heap = some cells) (hw' : cells[off]? = some (.own n zs)) (hy : evT P u s.tmps y = some yv) (hys : appended yv = some (n, ys)) (hl : xs.length + ys.length ≤ 4294967296) :
  evOp P call id o s = some (.val (.c (.own n (xs ++ ys))) { s with heap := upd b (cells.set off (.d (.list n xs))) s.heap }, appendFoot x s.tmps) := by
 simp only [evOp, ho, hc, ha, hat, doAppend, ht, hn, hu, hx, hy, hys, Option.bind_some, hb, and_self, if_true, hw, hw', hl]
end
section
variable {X : Ctx} {Q : AX → St → Prop} {s : St}
theorem awpD_ev {ops : Array Oper} {vs : List Nat} {base i : Nat} {pre : List Fp} {o : Oper} {l : List Oper} {v : V} {s1 s2 : St} {ft : Foot} (hw : wantedAt ops s.tmps o = some true) (hm : makesBlk o = false)
  (hop : Evt fun k => evOp X.P (X.call k) s.nid o s = some (.val v s1, ft)) (hp : putD o.dst (calmAt vs o.dst v) (afterApp o s1) = some s2)
  (h : awpD X ops vs base (pre ++ [(fpOf ops o s (calmAt vs o.dst v) s1 ft).fill s2]) l (i + 1) Q s2) : awpD X ops vs base pre (o :: l) i Q s :=
 awpD_op hw (hop.imp fun k p => by simp only [drawOp, hm, Bool.false_eq_true, if_false, drawOld, p]) hp h
end
end Go.AM

namespace Go.AM
open Go
section
variable {X : Ctx} {f : Nat} {Q : AX → St → Prop} {tm tm' : List (Nat × V)} {hp : List (Nat × List C)} {nid : Nat} {df : List (Nat × List Nat)} {pn : Option D}
def keepK {α : Type} : List Nat → List (Nat × V) → (List (Nat × V) → α) → α
 | [], _, k => k []
 | t :: r, tm, k => match look t tm with
  | some (.view _ sz xs) => keepK r tm fun l => k ((t, .d (.list sz xs)) :: l)
  | some v => keepK r tm fun l => k ((t, v) :: l)
  | none => keepK r tm k
theorem keepK_eq {α : Type} : ∀ (ks : List Nat) (tm : List (Nat × V)) (k : List (Nat × V) → α), keepK ks tm k = k (keepT ks tm)
 | [], _, _ => rfl
 | t :: r, tm, k => by
  simp only [keepK, keepT]
  cases h : look t tm with
  | none => simp only [keepK_eq]
  | some v => cases v <;> simp only [keepK_eq]
theorem look_unviewIn_nil : ∀ tm : List (Nat × V), unviewIn [] tm = tm
 | [] => rfl
 | (t, v) :: r => by
  cases v with
  | view l sz xs => cases l <;> simp [unviewIn, look_unviewIn_nil r]
  | _ => simp [unviewIn, look_unviewIn_nil r]
theorem aval_start {fn : Func} {code : Code} {args args' : List C} {lh : List (List C)} {r : CRes} {n : Nat} (hE : X.E f = none) (hf : X.P.funcs[f]? = some fn) (hb : fn.body = some code) (hst : (if (X.H f 999999).isEmpty then args.map C.still else args) = args') (hl : args'.length = fn.params.size + fn.nfree)
  (ht : zipIdx' 0 (args'.map fun c => V.c c.plain) = tm) (hh : zipIdx' 0 lh = hp) (hn : lh.length = n) (h : awp X f code (atEnd X fn n r) ⟨tm, hp, n, [], none⟩) : aval X f args lh r :=
 aval_of hE hf hb hst hl (by unfold enterSt; rw [ht, hh, hn]; exact h)
end
end Go.AM
namespace Go.AM
open Go
section
variable {X : Ctx} {f : Nat} {Q : AX → St → Prop} {s : St}
inductive loopQ (R : St → Prop) (Q : AX → St → Prop) : AX → St → Prop where
 | normal {s : St} : R s → loopQ R Q .normal s
 | exit {id : Nat} {s : St} : Q (.exit id) s → loopQ R Q (.exit id) s
 | ret {s : St} : Q .ret s → loopQ R Q .ret s
 | pan {d : D} {s : St} : Q (.pan d) s → loopQ R Q (.pan d) s
end
end Go.AM
namespace Go.AM
open Go
section
variable {X : Ctx} {f : Nat} {Q : AX → St → Prop} {tm tm' : List (Nat × V)} {hp hp' : List (Nat × List C)} {nid nid' : Nat} {df df' : List (Nat × List Nat)} {pn pn' : Option D}
end
end Go.AM

namespace Go.AM
open Go
def setBK {α : Type} (d : Nat) (b : Bool) : List (Nat × V) → (List (Nat × V) → α) → α
 | [], k => k []
 | (j, v) :: r, k => if j = d then k ((j, .d (.bool b)) :: r) else setBK d b r fun l => k ((j, v) :: l)
theorem setBK_eq {α : Type} {d : Nat} {b : Bool} : ∀ {tm : List (Nat × V)} {k : List (Nat × V) → α}, look d tm = some (.c (.d (.bool b))) → setBK d b tm k = k tm
 | [], _, h => by simp [look] at h
 | (j, v) :: r, k, h => by
  simp only [look] at h
  simp only [setBK]
  by_cases hj : j = d
  ·rw [if_pos hj] at h ⊢
   simp only [Option.some.injEq] at h
   rw [h]
  ·rw [if_neg hj] at h ⊢
   rw [setBK_eq h]
section
variable {X : Ctx} {f : Nat} {Q : AX → St → Prop} {tm tm0 tm1 : List (Nat × V)} {hp : List (Nat × List C)} {nid : Nat} {df : List (Nat × List Nat)} {pn : Option D}
def unviewK {α : Type} (l : Loc) : List (Nat × V) → (List (Nat × V) → α) → α
 | [], k => k []
 | (t, v) :: r, k => match v with
  | .view l' sz xs => unviewK l r fun r => k ((t, if l' = l then .d (.list sz xs) else .view l' sz xs) :: r)
  | v => unviewK l r fun r => k ((t, v) :: r)
theorem unviewK_eq {α : Type} {l : Loc} : ∀ {tm : List (Nat × V)} {k : List (Nat × V) → α}, unviewK l tm k = k (unview l tm)
 | [], _ => rfl
 | (t, v) :: r, k => by cases v <;> simp only [unviewK, unview, unviewK_eq]
end
section
variable {X : Ctx} {f : Nat} {Q : AX → St → Prop} {tm tm' tm1 tm2 : List (Nat × V)} {hp hp' : List (Nat × List C)} {nid : Nat} {df : List (Nat × List Nat)} {pn : Option D}
end
section
variable {X : Ctx} {f : Nat} {Q : AX → St → Prop} {tm : List (Nat × V)} {hp : List (Nat × List C)} {nid : Nat} {df : List (Nat × List Nat)} {pn : Option D}
end
end Go.AM

namespace Go.AM
open Go
abbrev Str := List UInt8
def lget {α : Type} (l : List α) (i : Int) : Option α := if 0 ≤ i then l[i.toNat]? else none
def sget (s : Str) (i : Int) : Option Int := if 0 ≤ i then (s[i.toNat]?).map fun b => (b.toNat : Int) else none
def sfrom (s : Str) (lo : Int) : Option Str := if 0 ≤ lo ∧ lo.toNat ≤ s.length then some (s.drop lo.toNat) else none
def sto (s : Str) (hi : Int) : Option Str := if 0 ≤ hi ∧ hi.toNat ≤ s.length then some (s.take hi.toNat) else none
def smid (s : Str) (lo hi : Int) : Option Str := if 0 ≤ lo ∧ lo ≤ hi ∧ hi.toNat ≤ s.length then some ((s.take hi.toNat).drop lo.toNat) else none
def lfrom {α : Type} (s : List α) (lo : Int) : Option (List α) := if 0 ≤ lo ∧ lo.toNat ≤ s.length then some (s.drop lo.toNat) else none
def lto {α : Type} (s : List α) (hi : Int) : Option (List α) := if 0 ≤ hi ∧ hi.toNat ≤ s.length then some (s.take hi.toNat) else none
def lmid {α : Type} (s : List α) (lo hi : Int) : Option (List α) := if 0 ≤ lo ∧ lo ≤ hi ∧ hi.toNat ≤ s.length then some ((s.take hi.toNat).drop lo.toNat) else none
def lapp {α : Type} (l m : List α) : Option (List α) := if l.length + m.length ≤ 4294967296 then some (l ++ m) else none
def scat (a b : Str) : Option Str := if a.length + b.length ≤ 1099511627776 then some (a ++ b) else none
def u8I (b : UInt8) : Int := b.toNat
def sbytes (s : Str) : Option (List Int) := if s.length ≤ 1099511627776 then some (s.map u8I) else none
def bstr (l : List Int) : Str := l.map fun n => UInt8.ofNat n.toNat
def w64 (x : Int) : Int := IntKind.i64.wrap x
theorem ite_inv {α : Type} {c : Bool} {a b : Option α} {r : α} (h : (if c = true then a else b) = some r) : (c = true ∧ a = some r) ∨ (c = false ∧ b = some r) := by
 cases c with
 | true => exact .inl ⟨rfl, h⟩
 | false => exact .inr ⟨rfl, h⟩
theorem bind_inv {α β : Type} {x : Option α} {k : α → Option β} {r : β} (h : (x >>= k) = some r) : ∃ y, x = some y ∧ k y = some r := by
 cases x with
 | none => cases h
 | some y => exact ⟨y, rfl, h⟩
def noCall : Call := fun _ _ _ => none
theorem doCall_noCall (f : Nat) (args : List C) (s : St) : doCall noCall f args s = none := by
 unfold doCall
 split
 ·rfl
 ·split <;> rfl
theorem evOp_noCall {P : Program} {id : Nat} {o : Oper} {s : St} {r : ORes × Foot} (h : evOp P noCall id o s = some r) (call : Call) : evOp P call id o s = some r := by
 unfold evOp at h ⊢
 cases ho : o.op with
 | call c =>
  simp only [ho] at h ⊢
  cases hc : c.callee with
  | value f =>
   simp only [hc] at h
   split at h
   ·rw [doCall_noCall] at h; simp at h
   ·simp at h
  | builtin b => cases b <;> (simp only [hc] at h ⊢; exact h)
  | invoke a b => simp [hc] at h
 | makeMap t r => cases r <;> (simp only [ho] at h ⊢; exact h)
 | _ => simp only [ho] at h ⊢; exact h
def copyL {α β : Type} : List α → (List α → β) → β
 | [], k => k []
 | x :: r, k => copyL r fun r => k (x :: r)
theorem copyL_eq {α β : Type} : ∀ {l : List α} {k : List α → β}, copyL l k = k l
 | [], _ => rfl
 | x :: r, k => by simp only [copyL, copyL_eq]
def putK {α : Type} (dst : Option Nat) (v : V) (tm : List (Nat × V)) (k : List (Nat × V) → Option α) : Option α := match dst with
 | none => copyL tm k
 | some d => match v with
  | .c (.own sz xs) => unviewK (.tmp d) tm fun r => k ((d, .c (.own sz xs)) :: r)
  | v => copyL tm fun tm => k ((d, v) :: tm)
theorem putK_eq {α : Type} {dst : Option Nat} {v : V} {s : St} {k : List (Nat × V) → Option α} : putK dst v s.tmps k = k (putSt dst v s).tmps := by
 cases dst with
 | none => simp only [putK, putSt, copyL_eq]
 | some d =>
  cases v with
  | c x => cases x <;> simp only [putK, putSt, setTmp, unviewK_eq, copyL_eq]
  | _ => simp only [putK, putSt, setTmp, copyL_eq]
theorem putSt_rest (dst : Option Nat) (v : V) (s : St) : putSt dst v s = ⟨(putSt dst v s).tmps, s.heap, s.nid, s.defers, s.pan⟩ := by
 cases dst <;> rfl
def copyHp {β : Type} : List (Nat × List C) → (List (Nat × List C) → β) → β
 | [], k => k []
 | (b, cs) :: r, k => copyL cs fun cs => copyHp r fun r => k ((b, cs) :: r)
theorem copyHp_eq {β : Type} : ∀ {l : List (Nat × List C)} {k : List (Nat × List C) → β}, copyHp l k = k l
 | [], _ => rfl
 | (b, cs) :: r, k => by simp only [copyHp, copyL_eq, copyHp_eq]
def isDefer (o : Oper) : Bool := match o.op with
 | .defer _ | .makeMap _ _ | .insert _ _ _ _ | .mapUpdate _ _ _ _ => true
 | _ => false
theorem evOp_rest {P : Program} {call : Call} {id : Nat} {o : Oper} {tm : List (Nat × V)} {hp : List (Nat × List C)} {nid : Nat} {df : List (Nat × List Nat)} {pn : Option D} {v : V} {s' : St} {ft : Foot} (hc : call = noCall) (hid : makesBlk o = true → id = nid)
  (h : evOp P call id o ⟨tm, hp, nid, df, pn⟩ = some (.val v s', ft)) (hd : isDefer o = false) :
  s' = ⟨s'.tmps, s'.heap, (match makesBlk o with | true => nid + 1 | false => nid), df, pn⟩ := by
 subst hc
 unfold evOp at h
 cases ho : o.op with
 | assign x =>
  simp only [ho] at h
  simp only [makesBlk, ho]
  split at h
  ·split at h
   ·simp only [Option.some.injEq, Prod.mk.injEq, ORes.val.injEq] at h
    obtain ⟨⟨_, rfl⟩, _⟩ := h; rfl
   ·simp at h
  ·simp only [Option.some.injEq, Prod.mk.injEq, ORes.val.injEq] at h
   obtain ⟨⟨_, rfl⟩, _⟩ := h; rfl
  ·simp only [Option.some.injEq, Prod.mk.injEq, ORes.val.injEq] at h
   obtain ⟨⟨_, rfl⟩, _⟩ := h; rfl
  ·simp only [Option.some.injEq, Prod.mk.injEq, ORes.val.injEq] at h
   obtain ⟨⟨_, rfl⟩, _⟩ := h; rfl
  ·simp only [Option.some.injEq, Prod.mk.injEq, ORes.val.injEq] at h
   obtain ⟨⟨_, rfl⟩, _⟩ := h; rfl
  ·simp at h
 | store t x y =>
  simp only [ho] at h
  simp only [makesBlk, ho]
  repeat' (first | (split at h) | (simp at h; done))
  all_goals first
   | (simp at h; done)
   | (simp only [Option.some.injEq, Prod.mk.injEq, ORes.val.injEq] at h; obtain ⟨⟨_, rfl⟩, _⟩ := h; rfl)
 | defer c => simp [isDefer, ho] at hd
 | makeMap t r => simp [isDefer, ho] at hd
 | insert t m k x => simp [isDefer, ho] at hd
 | mapUpdate t m k x => simp [isDefer, ho] at hd
 | panic x =>
  simp only [ho] at h
  split at h <;> simp at h
 | call c =>
  simp only [ho] at h
  simp only [makesBlk, ho]
  split at h
  ·split at h
   ·split at h
    ·rename_i hap
     simp only [Option.some.injEq, Prod.mk.injEq, ORes.val.injEq] at h
     obtain ⟨⟨_, rfl⟩, _⟩ := h
     unfold doAppend at hap
     repeat' (first | (split at hap) | (simp at hap; done))
     all_goals first
      | (simp at hap; done)
      | (simp only [Option.some.injEq, Prod.mk.injEq] at hap; obtain ⟨_, rfl⟩ := hap; rfl)
    ·simp at h
   ·simp at h
  ·split at h
   ·simp only [Option.some.injEq, Prod.mk.injEq, ORes.val.injEq] at h
    obtain ⟨⟨_, rfl⟩, _⟩ := h; rfl
   ·simp at h
  ·split at h
   ·rw [doCall_noCall] at h; simp at h
   ·simp at h
  ·simp at h
 | makeSlice t l c =>
  simp only [ho] at h
  split at h
  ·rename_i hev
   simp only [Option.some.injEq, Prod.mk.injEq, ORes.val.injEq] at h
   obtain ⟨⟨_, rfl⟩, _⟩ := h
   have hm : makesBlk o = false := by
    cases hs : sameTmp l c with
    | false => simp [makesBlk, ho, hs]
    | true =>
     exfalso
     simp only [evR, ho, hs, if_true] at hev
     repeat' (first | (split at hev) | (simp at hev; done))
   rw [hm]
  ·split at h
   ·rename_i hev _
    simp only [Option.some.injEq, Prod.mk.injEq, ORes.val.injEq] at h
    obtain ⟨⟨_, rfl⟩, _⟩ := h
    by_cases hm : makesBlk o = true
    ·rw [hm, hid hm]
    ·haveI : Globs := ⟨[]⟩
     exact absurd hev (evR_none (by simpa using hm))
   ·simp at h
  ·simp at h
 | buildSlice t n ps =>
  simp only [ho] at h
  split at h
  ·rename_i hev
   simp only [Option.some.injEq, Prod.mk.injEq, ORes.val.injEq] at h
   obtain ⟨⟨_, rfl⟩, _⟩ := h
   have hm : makesBlk o = false := by
    cases hs : fnPs ps.toList with
    | none => simp [makesBlk, ho, hs]
    | some gs =>
     exfalso
     simp only [evR, ho, hs, fnsV] at hev
     repeat' (first | (split at hev) | (simp at hev; done))
   rw [hm]
  ·split at h
   ·rename_i hev _
    simp only [Option.some.injEq, Prod.mk.injEq, ORes.val.injEq] at h
    obtain ⟨⟨_, rfl⟩, _⟩ := h
    by_cases hm : makesBlk o = true
    ·rw [hm, hid hm]
    ·haveI : Globs := ⟨[]⟩
     exact absurd hev (evR_none (by simpa using hm))
   ·simp at h
  ·simp at h
 | _ =>
  simp only [ho] at h
  split at h
  ·rename_i hev
   simp only [Option.some.injEq, Prod.mk.injEq, ORes.val.injEq] at h
   obtain ⟨⟨_, rfl⟩, _⟩ := h
   first
    | (simp only [makesBlk, ho]; done)
    | (exfalso; simp only [evR, ho] at hev; repeat' (first | (split at hev) | (simp at hev; done)))
    | rfl
  ·split at h
   ·rename_i hev _
    simp only [Option.some.injEq, Prod.mk.injEq, ORes.val.injEq] at h
    obtain ⟨⟨_, rfl⟩, _⟩ := h
    by_cases hm : makesBlk o = true
    ·rw [hm, hid hm]
    ·haveI : Globs := ⟨[]⟩
     exact absurd hev (evR_none (by simpa using hm))
   ·simp at h
  ·simp at h
def opsK {α : Type} (P : Program) (ops : Array Oper) : Nat → List Oper → List (Nat × V) → List (Nat × List C) → Nat → List (Nat × List Nat) → Option D → (List Oper → List (Nat × V) → List (Nat × List C) → Nat → List (Nat × List Nat) → Option D → Option α) → Option α
 | 0, l, tm, hp, nid, df, pn, k => k l tm hp nid df pn
 | _ + 1, [], _, _, _, _, _, _ => none
 | n + 1, o :: l, tm, hp, nid, df, pn, k => match wantedAt ops tm o with
  | none => none
  | some false => putK o.dst (.c .undef) tm fun tm => opsK P ops n l tm hp nid df pn k
  | some true => match isDefer o with
   | true => none
   | false => match evOp P noCall nid o ⟨tm, hp, nid, df, pn⟩ with
    | some (.val v s', _) => putK o.dst v s'.tmps fun tm => copyHp s'.heap fun hp => match makesBlk o with
     | true => opsK P ops n l tm hp (nid + 1) df pn k
     | false => opsK P ops n l tm hp nid df pn k
    | _ => none
section
variable {X : Ctx} {f : Nat} {Q : AX → St → Prop} {tm tm' : List (Nat × V)} {hp hp' : List (Nat × List C)} {nid nid' : Nat} {df : List (Nat × List Nat)} {pn : Option D}
theorem opsK_sound {α : Type} {ops : Array Oper} : ∀ {n : Nat} {l : List Oper} {tm : List (Nat × V)} {hp : List (Nat × List C)} {nid : Nat} {df : List (Nat × List Nat)} {pn : Option D} {k : List Oper → List (Nat × V) → List (Nat × List C) → Nat → List (Nat × List Nat) → Option D → Option α} {a : α},
  opsK X.P ops n l tm hp nid df pn k = some a → ∃ l' tm' hp' nid' df' pn', k l' tm' hp' nid' df' pn' = some a ∧ (awpO X ops l' Q ⟨tm', hp', nid', df', pn'⟩ → awpO X ops l Q ⟨tm, hp, nid, df, pn⟩)
 | 0, l, tm, hp, nid, df, pn, k, a, h => by
  simp only [opsK] at h
  exact ⟨l, tm, hp, nid, df, pn, h, fun h => h⟩
 | n + 1, [], tm, hp, nid, df, pn, k, a, h => by simp [opsK] at h
 | n + 1, o :: l, tm, hp, nid, df, pn, k, a, h => by
  simp only [opsK] at h
  split at h
  ·simp at h
  ·rename_i hw
   rw [show tm = (⟨tm, hp, nid, df, pn⟩ : St).tmps from rfl, putK_eq] at h
   obtain ⟨l', tm', hp', nid', df', pn', h1, h2⟩ := opsK_sound h
   refine ⟨l', tm', hp', nid', df', pn', h1, fun hh => awpO_skip hw ?_⟩
   have := h2 hh
   rw [putDst, putSt_rest]
   exact this
  ·rename_i hw
   split at h
   ·simp at h
   ·rename_i hd
    split at h
    ·rename_i v s' ft hev
     have hr := evOp_rest rfl (fun _ => rfl) hev hd
     rw [putK_eq, copyHp_eq] at h
     cases hm : makesBlk o with
     | true =>
      simp only [hm] at h hr
      obtain ⟨l', tm', hp', nid', df', pn', h1, h2⟩ := opsK_sound h
      refine ⟨l', tm', hp', nid', df', pn', h1, fun hh => awpO_rfl hw (fun call => evOp_noCall hev call) ?_⟩
      have := h2 hh
      rw [putDst, putSt_rest]
      rw [hr] at this ⊢
      exact this
     | false =>
      simp only [hm] at h hr
      obtain ⟨l', tm', hp', nid', df', pn', h1, h2⟩ := opsK_sound h
      refine ⟨l', tm', hp', nid', df', pn', h1, fun hh => awpO_rfl hw (fun call => evOp_noCall hev call) ?_⟩
      have := h2 hh
      rw [putDst, putSt_rest]
      rw [hr] at this ⊢
      exact this
    ·simp at h
def finK (l : List Oper) (tm : List (Nat × V)) (hp : List (Nat × List C)) (nid : Nat) (df : List (Nat × List Nat)) (pn : Option D) : Option (List Oper × List (Nat × V) × List (Nat × List C) × Nat × List (Nat × List Nat) × Option D) := some (l, tm, hp, nid, df, pn)
variable {df' : List (Nat × List Nat)} {pn' : Option D}
theorem on (n : Nat) {ops : Array Oper} {l l' : List Oper} (h : opsK X.P ops n l tm hp nid df pn finK = some (l', tm', hp', nid', df', pn')) (hh : awpO X ops l' Q ⟨tm', hp', nid', df', pn'⟩) : awpO X ops l Q ⟨tm, hp, nid, df, pn⟩ := by
 obtain ⟨_, _, _, _, _, _, h1, h2⟩ := opsK_sound (Q := Q) h
 simp only [finK, Option.some.injEq, Prod.mk.injEq] at h1
 obtain ⟨rfl, rfl, rfl, rfl, rfl, rfl⟩ := h1
 exact h2 hh
theorem rn (n : Nat) {id : Nat} {ops : Array Oper} {l' : List Oper} (h : keepK (X.H f id) tm (fun tm => opsK X.P ops n ops.toList tm hp nid df pn finK) = some (l', tm', hp', nid', df', pn')) (hh : awpO X ops l' Q ⟨tm', hp', nid', df', pn'⟩) (hz : noF (X.H f id) = true := by rfl) :
  awp X f (.region id ops false) Q ⟨tm, hp, nid, df, pn⟩ := by
 rw [keepK_eq] at h
 exact awp_region hz (on n h hh)
theorem ra {id : Nat} {ops : Array Oper} {b : Code} (h : keepK (X.H f id) tm (fun tm => opsK X.P ops ops.size ops.toList tm hp nid df pn finK) = some ([], tm', hp', nid', df', pn')) (hh : awp X f b Q ⟨tm', hp', nid', df', pn'⟩) (hz : noF (X.H f id) = true := by rfl) :
  awp X f (.seq (.region id ops false) b) Q ⟨tm, hp, nid, df, pn⟩ :=
 awp_seq (rn _ h (awpO_nil (.normal hh)) hz)
theorem rz {ops : Array Oper} {b : Code} (hh : awp X f b Q ⟨tm, hp, nid, df, pn⟩) : awpO X ops [] (seqQ X f b Q) ⟨tm, hp, nid, df, pn⟩ := awpO_nil (.normal hh)
theorem ct {o : Operand} {a b : Code} {c : Bool} (hc : ev tm o = some (.c (.d (.bool c)))) (e : c = true) (h : awp X f a (condQ (X.H f (condKey a b)) nid Q) ⟨tm, hp, nid, df, pn⟩) : awp X f (.cond o a b) Q ⟨tm, hp, nid, df, pn⟩ :=
 awp_cond hc (fun _ => h) (fun e' => by rw [e] at e'; cases e')
theorem cf {o : Operand} {a b : Code} {c : Bool} (hc : ev tm o = some (.c (.d (.bool c)))) (e : c = false) (h : awp X f b (condQ (X.H f (condKey a b)) nid Q) ⟨tm, hp, nid, df, pn⟩) : awp X f (.cond o a b) Q ⟨tm, hp, nid, df, pn⟩ :=
 awp_cond hc (fun e' => by rw [e] at e'; cases e') (fun _ => h)
theorem gt {ops : Array Oper} {o q : Oper} {l : List Oper} {j d : Nat} {want b : Bool} (hg : o.guard = some (j, want)) (hq : ops[j]? = some q) (hd : q.dst = some d) (hl : look d tm = some (.c (.d (.bool b)))) (e : b = true)
  (e1 : setBK d true tm some = some tm') (h : awpO X ops (o :: l) Q ⟨tm', hp, nid, df, pn⟩) : awpO X ops (o :: l) Q ⟨tm, hp, nid, df, pn⟩ := by
 have _ := hg; have _ := hq; have _ := hd
 subst e
 rw [setBK_eq hl, Option.some.injEq] at e1
 rw [e1]; exact h
theorem gf {ops : Array Oper} {o q : Oper} {l : List Oper} {j d : Nat} {want b : Bool} (hg : o.guard = some (j, want)) (hq : ops[j]? = some q) (hd : q.dst = some d) (hl : look d tm = some (.c (.d (.bool b)))) (e : b = false)
  (e1 : setBK d false tm some = some tm') (h : awpO X ops (o :: l) Q ⟨tm', hp, nid, df, pn⟩) : awpO X ops (o :: l) Q ⟨tm, hp, nid, df, pn⟩ := by
 have _ := hg; have _ := hq; have _ := hd
 subst e
 rw [setBK_eq hl, Option.some.injEq] at e1
 rw [e1]; exact h
theorem lget_some {α : Type} {l : List α} {i : Int} {x : α} (h : lget l i = some x) : 0 ≤ i ∧ l[i.toNat]? = some x := by
 unfold lget at h
 split at h
 ·exact ⟨by assumption, h⟩
 ·cases h
def EvO (X : Ctx) (o : Oper) (s : St) (v : V) (s1 : St) (ft : Foot) : Prop := Evt fun k => evOp X.P (X.call k) s.nid o s = some (.val v s1, ft)
theorem po {ops : Array Oper} {o : Oper} {l : List Oper} {v : V} {tm1 : List (Nat × V)} {hp1 : List (Nat × List C)} {ft : Foot} {nid1 : Nat} (hop : EvO X o ⟨tm, hp, nid, df, pn⟩ v ⟨tm1, hp1, nid1, df, pn⟩ ft) (hw : wantedAt ops tm o = some true)
  (hk : putK o.dst v tm1 (fun tm => copyHp hp1 fun hp => some (tm, hp)) = some (tm', hp')) (h : awpO X ops l Q ⟨tm', hp', nid1, df, pn⟩) : awpO X ops (o :: l) Q ⟨tm, hp, nid, df, pn⟩ := by
 refine awpO_op (s := ⟨tm, hp, nid, df, pn⟩) hw hop ?_
 rw [show tm1 = (⟨tm1, hp1, nid1, df, pn⟩ : St).tmps from rfl, putK_eq, copyHp_eq] at hk
 simp only [Option.some.injEq, Prod.mk.injEq] at hk
 obtain ⟨rfl, rfl⟩ := hk
 rw [putDst, putSt_rest]
 exact h
def copyLc {β : Type} : List Lc → (List Lc → β) → β
 | [], k => k []
 | x :: r, k => match x with
  | .tmp a => copyLc r fun r => k (.tmp a :: r)
  | .blk a => copyLc r fun r => k (.blk a :: r)
  | .nid => copyLc r fun r => k (.nid :: r)
  | .defs => copyLc r fun r => k (.defs :: r)
  | .vb a => copyLc r fun r => k (.vb a :: r)
  | .vt a => copyLc r fun r => k (.vt a :: r)
theorem copyLc_eq {β : Type} : ∀ {l : List Lc} {k : List Lc → β}, copyLc l k = k l
 | [], _ => rfl
 | x :: r, k => by cases x <;> simp only [copyLc, copyLc_eq]
def fpK {β : Type} (f : Fp) (k : Fp → β) : β := match f with
 | ⟨rd, wr, refs, all⟩ => copyLc rd fun rd => copyLc wr fun wr => copyL refs fun refs => match all with
  | true => k ⟨rd, wr, refs, true⟩
  | false => k ⟨rd, wr, refs, false⟩
theorem fpK_eq {β : Type} {f : Fp} {k : Fp → β} : fpK f k = k f := by
 obtain ⟨rd, wr, refs, all⟩ := f
 simp only [fpK, copyLc_eq, copyL_eq]
 cases all <;> rfl
theorem putD_rest {dst : Option Nat} {v : V} {tm1 : List (Nat × V)} {hp1 : List (Nat × List C)} {s2 : St} (h : putD dst v ⟨tm1, hp1, nid, df, pn⟩ = some s2) : s2 = ⟨s2.tmps, s2.heap, nid, df, pn⟩ := by
 cases dst with
 | none => simp only [putD, Option.some.injEq] at h; subst h; rfl
 | some d =>
  simp only [putD] at h
  split at h
  ·simp only [Option.some.injEq] at h; subst h; rfl
  ·simp at h
theorem pd {ops : Array Oper} {vs : List Nat} {base i i' : Nat} {pre pre' : List Fp} {o : Oper} {l : List Oper} {v : V} {tm1 : List (Nat × V)} {hp1 : List (Nat × List C)} {ft : Foot} {nid1 : Nat} (hop : EvO X o ⟨tm, hp, nid, df, pn⟩ v ⟨tm1, hp1, nid1, df, pn⟩ ft) (hw : wantedAt ops tm o = some true) (hm : makesBlk o = false)
  (hk : (putD o.dst (calmAt vs o.dst v) (afterApp o ⟨tm1, hp1, nid1, df, pn⟩)).bind (fun s2 => copyL s2.tmps fun tm => copyHp s2.heap fun hp => some (tm, hp)) = some (tm', hp'))
  (hf : fpK ((fpOf ops o ⟨tm, hp, nid, df, pn⟩ (calmAt vs o.dst v) ⟨tm1, hp1, nid1, df, pn⟩ ft).fill ⟨tm', hp', nid1, df, pn⟩) (fun fp => copyL (pre ++ [fp]) some) = some pre') (hi : i + 1 = i')
  (h : awpD X ops vs base pre' l i' Q ⟨tm', hp', nid1, df, pn⟩) : awpD X ops vs base pre (o :: l) i Q ⟨tm, hp, nid, df, pn⟩ := by
 rw [fpK_eq, copyL_eq, Option.some.injEq] at hf
 subst hi hf
 rw [Option.bind_eq_some_iff] at hk
 obtain ⟨s2, h2, hk⟩ := hk
 rw [copyL_eq, copyHp_eq] at hk
 simp only [Option.some.injEq, Prod.mk.injEq] at hk
 have hs2 := putD_rest h2
 obtain ⟨rfl, rfl⟩ := hk
 rw [← hs2] at h
 exact awpD_ev (s := ⟨tm, hp, nid, df, pn⟩) hw hm hop h2 h
def dopsK {α : Type} (P : Program) (ops : Array Oper) (vs : List Nat) (base : Nat) (nid : Nat) (df : List (Nat × List Nat)) (pn : Option D) : Nat → List Oper → Nat → List Fp → List (Nat × V) → List (Nat × List C) → (List Oper → Nat → List Fp → List (Nat × V) → List (Nat × List C) → Option α) → Option α
 | 0, l, i, pre, tm, hp, k => copyL pre fun pre => k l i pre tm hp
 | _ + 1, [], _, _, _, _, _ => none
 | n + 1, o :: l, i, pre, tm, hp, k => match wantedAt ops tm o with
  | none => none
  | some false => match putD o.dst (.c .undef) ⟨tm, hp, nid, df, pn⟩ with
   | some s1 => copyL s1.tmps fun tm => copyHp s1.heap fun hp => fpK (Fp.fill ⟨(readsOf ops o).map .tmp, dstLc o.dst (.c .undef), [], false⟩ ⟨tm, hp, nid, df, pn⟩) fun fp => dopsK P ops vs base nid df pn n l (i + 1) (pre ++ [fp]) tm hp k
   | none => none
  | some true => match isDefer o with
   | true => none
   | false => match drawOp P noCall ops vs (base + i) o ⟨tm, hp, nid, df, pn⟩ with
    | some (.val v s1, ft) => match putD o.dst v s1 with
     | some s2 => copyL s2.tmps fun tm => copyHp s2.heap fun hp => fpK (ft.fill ⟨tm, hp, nid, df, pn⟩) fun fp => dopsK P ops vs base nid df pn n l (i + 1) (pre ++ [fp]) tm hp k
     | none => none
    | _ => none
theorem drawOp_rest {P : Program} {ops : Array Oper} {vs : List Nat} {id : Nat} {o : Oper} {tm : List (Nat × V)} {hp : List (Nat × List C)} {nid : Nat} {df : List (Nat × List Nat)} {pn : Option D} {v : V} {s1 : St} {ft : Fp}
  (h : drawOp P noCall ops vs id o ⟨tm, hp, nid, df, pn⟩ = some (.val v s1, ft)) (hd : isDefer o = false) : s1 = ⟨s1.tmps, s1.heap, nid, df, pn⟩ := by
 unfold drawOp at h
 split at h
 ·unfold drawNew at h
  split at h
  ·split at h
   ·split at h
    ·simp at h
    ·simp only [Option.some.injEq, Prod.mk.injEq, ORes.val.injEq] at h
     obtain ⟨⟨_, rfl⟩, _⟩ := h; rfl
   ·simp at h
  ·simp at h
 ·rename_i hm
  unfold drawOld at h
  split at h
  ·rename_i hev
   simp only [Option.some.injEq, Prod.mk.injEq, ORes.val.injEq] at h
   obtain ⟨⟨_, rfl⟩, _⟩ := h
   have := evOp_rest rfl (fun e => absurd e hm) hev hd
   simp only [Bool.not_eq_true] at hm
   simp only [hm] at this
   rw [this]; rfl
  ·simp at h
  ·simp at h
theorem drawOp_noCall {P : Program} {ops : Array Oper} {vs : List Nat} {id : Nat} {o : Oper} {s s1 : St} {v : V} {ft : Fp} (h : drawOp P noCall ops vs id o s = some (.val v s1, ft)) (call : Call) : drawOp P call ops vs id o s = some (.val v s1, ft) := by
 unfold drawOp at h ⊢
 split at h
 ·rename_i hm
  rw [if_pos hm]; exact h
 ·rename_i hm
  rw [if_neg hm]
  unfold drawOld at h ⊢
  split at h
  ·rename_i hev
   rw [evOp_noCall hev call]; exact h
  ·simp at h
  ·simp at h
theorem dopsK_sound {α : Type} {ops : Array Oper} {vs : List Nat} {base : Nat} : ∀ {n : Nat} {l : List Oper} {i : Nat} {pre : List Fp} {tm : List (Nat × V)} {hp : List (Nat × List C)} {k : List Oper → Nat → List Fp → List (Nat × V) → List (Nat × List C) → Option α} {a : α},
  dopsK X.P ops vs base nid df pn n l i pre tm hp k = some a → ∃ l' i' pre' tm' hp', k l' i' pre' tm' hp' = some a ∧ (awpD X ops vs base pre' l' i' Q ⟨tm', hp', nid, df, pn⟩ → awpD X ops vs base pre l i Q ⟨tm, hp, nid, df, pn⟩)
 | 0, l, i, pre, tm, hp, k, a, h => by
  simp only [dopsK, copyL_eq] at h
  exact ⟨l, i, pre, _, _, h, fun h => h⟩
 | n + 1, [], i, pre, tm, hp, k, a, h => by simp [dopsK] at h
 | n + 1, o :: l, i, pre, tm, hp, k, a, h => by
  simp only [dopsK, copyL_eq, copyHp_eq, fpK_eq] at h
  split at h
  ·simp at h
  ·rename_i hw
   split at h
   ·rename_i s1 hp
    have hr := putD_rest hp
    obtain ⟨l', i', pre', tm', hp', h1, h2⟩ := dopsK_sound h
    refine ⟨l', i', pre', tm', hp', h1, fun hh => awpD_skip hw hp ?_⟩
    have := h2 hh
    rw [← hr] at this
    exact this
   ·simp at h
  ·rename_i hw
   split at h
   ·simp at h
   ·rename_i hd
    split at h
    ·rename_i v s1 ft hop
     have hr1 := drawOp_rest hop hd
     split at h
     ·rename_i s2 hp
      have hr : s2 = ⟨s2.tmps, s2.heap, nid, df, pn⟩ := by
       rw [hr1] at hp
       exact putD_rest hp
      obtain ⟨l', i', pre', tm', hp', h1, h2⟩ := dopsK_sound h
      refine ⟨l', i', pre', tm', hp', h1, fun hh => awpD_rfl hw (fun call => drawOp_noCall hop call) hp ?_⟩
      have := h2 hh
      rw [← hr] at this
      exact this
     ·simp at h
    ·simp at h
def dfinK (l : List Oper) (i : Nat) (pre : List Fp) (tm : List (Nat × V)) (hp : List (Nat × List C)) : Option (List Oper × Nat × List Fp × List (Nat × V) × List (Nat × List C)) := some (l, i, pre, tm, hp)
theorem don (n : Nat) {ops : Array Oper} {vs : List Nat} {base i i' : Nat} {pre pre' : List Fp} {l l' : List Oper} (h : dopsK X.P ops vs base nid df pn n l i pre tm hp dfinK = some (l', i', pre', tm', hp'))
  (hh : awpD X ops vs base pre' l' i' Q ⟨tm', hp', nid, df, pn⟩) : awpD X ops vs base pre l i Q ⟨tm, hp, nid, df, pn⟩ := by
 obtain ⟨_, _, _, _, _, h1, h2⟩ := dopsK_sound (Q := Q) h
 simp only [dfinK, Option.some.injEq, Prod.mk.injEq] at h1
 obtain ⟨rfl, rfl, rfl, rfl, rfl⟩ := h1
 exact h2 hh
theorem drn (n : Nat) {id i' m : Nat} {ops : Array Oper} {pre' : List Fp} {l' : List Oper} (hn : nid + ops.size = m)
  (h : keepK (X.H f id) tm (fun tm => dopsK X.P ops (appended? ops) nid m df pn n ops.toList 0 [] tm hp dfinK) = some (l', i', pre', tm', hp')) (hh : awpD X ops (appended? ops) nid pre' l' i' Q ⟨tm', hp', m, df, pn⟩) (hz : (noF (X.H f id) && !(X.H f id).contains 4999999) = true := by rfl) :
  awp X f (.region id ops true) Q ⟨tm, hp, nid, df, pn⟩ := by
 rw [keepK_eq] at h
 subst hn
 exact awp_draw hz (don n h hh)
def Lc.code : Lc → Nat
 | .tmp x => 6 * x
 | .blk b => 6 * b + 1
 | .nid => 2
 | .defs => 3
 | .vb b => 6 * b + 4
 | .vt u => 6 * u + 5
def maskL : List Lc → Nat
 | [] => 0
 | x :: r => Nat.lor (Nat.shiftLeft 1 x.code) (maskL r)
theorem maskL_mem {x : Lc} : ∀ {l : List Lc}, x ∈ l → (maskL l).testBit x.code = true
 | [], h => by simp at h
 | y :: r, h => by
  show ((1 <<< y.code) ||| maskL r).testBit x.code = true
  rw [Nat.testBit_or]
  rcases List.mem_cons.1 h with rfl | h
  ·simp
  ·rw [maskL_mem h]; simp
theorem apart_of {l m : List Lc} (h : Nat.beq (Nat.land (maskL l) (maskL m)) 0 = true) : apart l m = true := by
 have h := Nat.eq_of_beq_eq_true h
 simp only [apart, List.all_eq_true, Bool.not_eq_true']
 intro x hx
 cases hc : m.contains x with
 | false => rfl
 | true =>
  rw [List.contains_iff_mem] at hc
  have h1 : (maskL l &&& maskL m).testBit x.code = true := by rw [Nat.testBit_and, maskL_mem hx, maskL_mem hc]; rfl
  rw [show maskL l &&& maskL m = 0 from h] at h1
  simp at h1
structure FpM where
 r : Nat
 w : Nat
 all : Bool
def Fp.toM (f : Fp) : FpM := ⟨maskL f.reads, maskL f.writes, f.all⟩
def FpM.apart (f g : FpM) : Bool := match f.all, g.all with
 | false, false => Nat.beq (Nat.land f.w (Nat.lor g.r g.w)) 0 && Nat.beq (Nat.land g.w f.r) 0
 | _, _ => false
theorem maskL_append : ∀ l m : List Lc, maskL (l ++ m) = Nat.lor (maskL l) (maskL m)
 | [], m => by show maskL m = 0 ||| maskL m; simp
 | x :: l, m => by
  show (1 <<< x.code) ||| maskL (l ++ m) = ((1 <<< x.code) ||| maskL l) ||| maskL m
  rw [maskL_append l m]
  exact (Nat.or_assoc ..).symm
theorem FpM.apart_ok {f g : Fp} (h : f.toM.apart g.toM = true) : f.apart g = true := by
 unfold FpM.apart Fp.toM at h
 simp only at h
 split at h
 ·rename_i hf hg
  simp only [Bool.and_eq_true] at h
  simp only [Fp.apart, hf, hg, Bool.not_false, Bool.true_and, Bool.and_eq_true]
  exact ⟨apart_of (by rw [maskL_append]; exact h.1), apart_of h.2⟩
 ·simp at h
def edgesM (acc : List Nat) : List Edge → Nat → Nat
 | [], m => m
 | e :: r, m => edgesM acc r (match Region.binds .any e with
  | true => Nat.lor (Nat.lor (Nat.shiftLeft 1 e.on) (acc.getD e.on 0)) m
  | false => m)
def beforesM : List Oper → List Nat → List Nat
 | [], acc => acc
 | o :: r, acc => beforesM r (acc ++ [edgesM acc o.after.toList 0])
def BitsIn (m : Nat) (l : List Nat) : Prop := ∀ i, m.testBit i = true → i ∈ l
theorem edgesM_in {accM : List Nat} {acc : List (List Nat)} (ha : ∀ j, BitsIn (accM.getD j 0) (acc.getD j [])) : ∀ (es : List Edge) (m : Nat) (l : List Nat), BitsIn m l →
  BitsIn (edgesM accM es m) (es.foldl (fun l e => if Region.binds .any e then e.on :: (acc.getD e.on [] ++ l) else l) l)
 | [], m, l, h => h
 | e :: es, m, l, h => by
  simp only [edgesM, List.foldl_cons]
  refine edgesM_in ha es _ _ ?_
  cases hb : Region.binds .any e with
  | false => simpa using h
  | true =>
   simp only [if_true]
   intro i hi
   rw [show Nat.lor (Nat.lor (Nat.shiftLeft 1 e.on) (accM.getD e.on 0)) m = ((1 <<< e.on) ||| accM.getD e.on 0) ||| m from rfl, Nat.testBit_or, Nat.testBit_or] at hi
   simp only [Bool.or_eq_true] at hi
   rcases hi with (hi | hi) | hi
   ·have : i = e.on := by
     rw [Nat.testBit_shiftLeft] at hi
     simp only [Bool.and_eq_true, decide_eq_true_eq] at hi
     have h2 := hi.2
     by_cases hz : i - e.on = 0
     ·omega
     ·rw [Nat.testBit_one_eq_true_iff_self_eq_zero] at h2
      exact absurd h2 hz
    rw [this]; simp
   ·exact List.mem_cons_of_mem _ (List.mem_append_left _ (ha _ _ hi))
   ·exact List.mem_cons_of_mem _ (List.mem_append_right _ (h _ hi))
theorem beforesM_in : ∀ (ops : List Oper) (accM : List Nat) (acc : List (List Nat)), accM.length = acc.length → (∀ j, BitsIn (accM.getD j 0) (acc.getD j [])) →
  ∀ j, BitsIn ((beforesM ops accM).getD j 0) ((befores ops acc).getD j [])
 | [], accM, acc, _, h => by simpa [beforesM, befores] using h
 | o :: r, accM, acc, hl, h => by
  simp only [beforesM, befores]
  refine beforesM_in r _ _ (by simp [hl]) ?_
  intro j
  have he := edgesM_in h o.after.toList 0 [] (by intro i hi; simp at hi)
  by_cases hj : j < accM.length
  ·simp only [List.getD_eq_getElem?_getD]
   rw [List.getElem?_append_left hj, List.getElem?_append_left (hl ▸ hj), ← List.getD_eq_getElem?_getD, ← List.getD_eq_getElem?_getD]
   exact h j
  ·by_cases hj' : j = accM.length
   ·subst hj'
    simp only [List.getD_eq_getElem?_getD, List.getElem?_append_right (Nat.le_refl _), Nat.sub_self]
    rw [List.getElem?_append_right (by omega)]
    simpa [hl] using he
   ·intro i hi
    simp only [List.getD_eq_getElem?_getD] at hi
    rw [List.getElem?_eq_none (by simp; omega)] at hi
    simp at hi
def looseK (o : Oper) (f : Fp) : Bool :=
 !f.all && f.writes.all fun l => match l, o.dst with
  | .tmp y, some x => Nat.beq y x
  | _, _ => false
theorem looseK_ok {o : Oper} {f : Fp} (h : looseK o f = true) : loose o f = true := by
 simp only [looseK, loose, Bool.and_eq_true, List.all_eq_true] at h ⊢
 refine ⟨h.1, fun l hl => ?_⟩
 have := h.2 l hl
 split at this
 ·rename_i y x hx
  rw [hx]
  simp only [beq_iff_eq, Lc.tmp.injEq]
  exact Nat.eq_of_beq_eq_true this
 ·simp at this
def drawOkM (pn : Bool) (ops : Array Oper) (base : Nat) (fs : List Fp) : Bool :=
 let bs := beforesM ops.toList []
 let ms := fs.map Fp.toM
 let k := fs.length
 ((List.range ops.size).all fun j =>
  ((ops.getD j default).after.toList.all fun e => !Region.binds .any e || Nat.blt e.on j) &&
  (List.range j).all fun i =>
   (bs.getD j 0).testBit i ||
   (match Nat.blt j k with
    | true => match ms[i]?, ms[j]? with
     | some a, some b => a.apart b || pn && Nat.beq (j + 1) k && looseK (ops.getD i default) (fs.getD i default)
     | _, _ => false
    | false => !(Nat.beq (i + 1) k))) &&
 (List.range k).all fun i => !makesBlk (ops.getD i default) ||
  (List.range k).all fun j => i == j || (bs.getD j 0).testBit i || !(fs.getD j default).refs.contains (base + i)
theorem drawOkM_ok {pn : Bool} {ops : Array Oper} {base : Nat} {fs : List Fp} (h : drawOkM pn ops base fs = true) : drawOk pn ops base fs = true := by
 have hb := beforesM_in ops.toList [] [] rfl (by intro j i hi; simp at hi)
 have blt : ∀ {a b : Nat}, Nat.blt a b = true → a < b := fun h => Nat.le_of_ble_eq_true h
 unfold drawOkM at h
 unfold drawOk
 simp only [Bool.and_eq_true, List.all_eq_true, List.mem_range, Bool.or_eq_true, Bool.not_eq_true'] at h ⊢
 refine ⟨fun j hj => ⟨fun e he => ?_, fun i hi => ?_⟩, fun i hi => ?_⟩
 ·rcases (h.1 j hj).1 e he with h1 | h1
  ·exact .inl h1
  ·exact .inr (by simpa using blt h1)
 ·rcases (h.1 j hj).2 i hi with h1 | h1
  ·exact .inl (by rw [List.contains_iff_mem]; exact hb j i h1)
  ·right
   split at h1
   ·rename_i hjk
    rw [if_pos (blt hjk)]
    split at h1
    ·rename_i a b ha hb'
     rw [List.getElem?_map, Option.map_eq_some_iff] at ha hb'
     obtain ⟨fa, hfa, rfl⟩ := ha
     obtain ⟨fb, hfb, rfl⟩ := hb'
     rcases Bool.or_eq_true _ _ |>.mp h1 with h1 | h1
     ·have := FpM.apart_ok h1
      rw [Bool.or_eq_true]; left
      simpa [List.getD_eq_getElem?_getD, hfa, hfb] using this
     ·simp only [Bool.and_eq_true] at h1
      rw [Bool.or_eq_true]; right
      simp only [Bool.and_eq_true, decide_eq_true_eq]
      exact ⟨⟨h1.1.1, Nat.eq_of_beq_eq_true h1.1.2⟩, looseK_ok h1.2⟩
    ·simp at h1
   ·rename_i hjk
    have hk : ¬ j < fs.length := by
     intro hlt
     have : Nat.blt j fs.length = true := Nat.ble_eq_true_of_le hlt
     rw [hjk] at this; simp at this
    rw [if_neg hk]
    simp only [decide_eq_true_eq]
    intro e
    rw [e] at h1
    simp at h1
 ·rcases h.2 i hi with h1 | h1
  ·exact .inl h1
  ·refine .inr fun j hj => ?_
   rcases h1 j hj with (h2 | h2) | h2
   ·exact .inl (.inl h2)
   ·exact .inl (.inr (by rw [List.contains_iff_mem]; exact hb j i h2))
   ·exact .inr h2
theorem dz {ops : Array Oper} {vs : List Nat} {base i : Nat} {pre : List Fp} {b : Code} (hok : (drawOkM false ops base pre && Nat.ble base nid) = true) (hh : awp X f b Q ⟨tm, hp, nid, df, pn⟩) : awpD X ops vs base pre [] i (seqQ X f b Q) ⟨tm, hp, nid, df, pn⟩ := by
 simp only [Bool.and_eq_true] at hok
 exact awpD_nil (by simp only [Bool.and_eq_true, decide_eq_true_eq]; exact ⟨drawOkM_ok hok.1, Nat.le_of_ble_eq_true hok.2⟩) (.normal hh)
theorem dz' {ops : Array Oper} {vs : List Nat} {base i : Nat} {pre : List Fp} (hok : (drawOkM false ops base pre && Nat.ble base nid) = true) (hh : Q .normal ⟨tm, hp, nid, df, pn⟩) : awpD X ops vs base pre [] i Q ⟨tm, hp, nid, df, pn⟩ := by
 simp only [Bool.and_eq_true] at hok
 exact awpD_nil (by simp only [Bool.and_eq_true, decide_eq_true_eq]; exact ⟨drawOkM_ok hok.1, Nat.le_of_ble_eq_true hok.2⟩) hh
theorem dgt {ops : Array Oper} {vs : List Nat} {base i : Nat} {pre : List Fp} {o q : Oper} {l : List Oper} {j d : Nat} {want b : Bool} (hg : o.guard = some (j, want)) (hq : ops[j]? = some q) (hd : q.dst = some d) (hl : look d tm = some (.c (.d (.bool b)))) (e : b = true)
  (e1 : setBK d true tm some = some tm') (h : awpD X ops vs base pre (o :: l) i Q ⟨tm', hp, nid, df, pn⟩) : awpD X ops vs base pre (o :: l) i Q ⟨tm, hp, nid, df, pn⟩ := by
 have _ := hg; have _ := hq; have _ := hd
 subst e
 rw [setBK_eq hl, Option.some.injEq] at e1
 rw [e1]; exact h
theorem dgf {ops : Array Oper} {vs : List Nat} {base i : Nat} {pre : List Fp} {o q : Oper} {l : List Oper} {j d : Nat} {want b : Bool} (hg : o.guard = some (j, want)) (hq : ops[j]? = some q) (hd : q.dst = some d) (hl : look d tm = some (.c (.d (.bool b)))) (e : b = false)
  (e1 : setBK d false tm some = some tm') (h : awpD X ops vs base pre (o :: l) i Q ⟨tm', hp, nid, df, pn⟩) : awpD X ops vs base pre (o :: l) i Q ⟨tm, hp, nid, df, pn⟩ := by
 have _ := hg; have _ := hq; have _ := hd
 subst e
 rw [setBK_eq hl, Option.some.injEq] at e1
 rw [e1]; exact h
theorem esget {o : Oper} {t : TypeId} {x i : Operand} {u : Str} {k : IntKind} {n y : Int} (hy : sget u n = some y) (ho : o.op = .index t x i) (ht : X.P.underlying t = some .string) (hx : ev tm x = some (.c (.d (.str u)))) (hi : ev tm i = some (.c (.d (.int k n)))) :
  EvO X o ⟨tm, hp, nid, df, pn⟩ (.d (.int .u8 y)) ⟨tm, hp, nid, df, pn⟩ ⟨readsBlk o tm, [], []⟩ := by
 unfold sget at hy
 split at hy
 ·rename_i h0
  rw [Option.map_eq_some_iff] at hy
  obtain ⟨b, hb, rfl⟩ := hy
  exact .of fun _ => ev_index_str (s := ⟨tm, hp, nid, df, pn⟩) ho ht hx hi h0 hb
 ·cases hy
theorem elget {α : Type} {g : α → D} (g' : α → D) (hg : ∀ a, g a = g' a) {u : List α} {y : α} {n : Int} {o : Oper} {t e : TypeId} {x i : Operand} {k : IntKind} {sz : Nat} (hy : lget u n = some y)
  (ho : o.op = .indexAddr t x i) (ht : telem X.P t = some e) (hz : some sz = tsz X.P e) (hx : (ev tm x).bind V.toD = some (.list sz (u.map g))) (hi : ev tm i = some (.c (.d (.int k n)))) :
  EvO X o ⟨tm, hp, nid, df, pn⟩ (.rptr (g' y).cells) ⟨tm, hp, nid, df, pn⟩ ⟨readsBlk o tm, [], []⟩ := by
 obtain ⟨h0, hy⟩ := lget_some hy
 rw [← hg]
 exact .of fun _ => ev_indexAddr (s := ⟨tm, hp, nid, df, pn⟩) (d := g y) ho ht hz hx hi h0 (by simp [hy])
theorem esfrom {o : Oper} {t : TypeId} {x lo : Operand} {u y : Str} {k : IntKind} {n : Int} (hy : sfrom u n = some y)
  (ho : o.op = .slice t x (some lo) none none) (ht : X.P.underlying t = some .string) (hx : evT X.P t tm x = some (.c (.d (.str u)))) (hi : ev tm lo = some (.c (.d (.int k n)))) :
  EvO X o ⟨tm, hp, nid, df, pn⟩ (.d (.str y)) ⟨tm, hp, nid, df, pn⟩ ⟨readsBlk o tm, [], []⟩ := by
 unfold sfrom at hy
 split at hy
 ·rename_i hb
  simp only [Option.some.injEq] at hy; subst hy
  have := fun call => ev_slice_str (P := X.P) (call := call) (id := nid) (s := ⟨tm, hp, nid, df, pn⟩) (a := n.toNat) (b := u.length) ho ht hx (optNat_some hi hb.1) rfl hb.2 (Nat.le_refl _)
  rw [List.take_length] at this
  exact .of fun _ => this _
 ·cases hy
theorem esto {o : Oper} {t : TypeId} {x hh : Operand} {u y : Str} {k : IntKind} {n : Int} (hy : sto u n = some y)
  (ho : o.op = .slice t x none (some hh) none) (ht : X.P.underlying t = some .string) (hx : evT X.P t tm x = some (.c (.d (.str u)))) (hi : ev tm hh = some (.c (.d (.int k n)))) :
  EvO X o ⟨tm, hp, nid, df, pn⟩ (.d (.str y)) ⟨tm, hp, nid, df, pn⟩ ⟨readsBlk o tm, [], []⟩ := by
 unfold sto at hy
 split at hy
 ·rename_i hb
  simp only [Option.some.injEq] at hy; subst hy
  exact .of fun _ => ev_slice_str (s := ⟨tm, hp, nid, df, pn⟩) (a := 0) (b := n.toNat) ho ht hx rfl (optNat_some hi hb.1) (Nat.zero_le _) hb.2
 ·cases hy
theorem esmid {o : Oper} {t : TypeId} {x lo hh : Operand} {u y : Str} {k k' : IntKind} {n m : Int} (hy : smid u n m = some y)
  (ho : o.op = .slice t x (some lo) (some hh) none) (ht : X.P.underlying t = some .string) (hx : evT X.P t tm x = some (.c (.d (.str u)))) (hi : ev tm lo = some (.c (.d (.int k n)))) (hi' : ev tm hh = some (.c (.d (.int k' m)))) :
  EvO X o ⟨tm, hp, nid, df, pn⟩ (.d (.str y)) ⟨tm, hp, nid, df, pn⟩ ⟨readsBlk o tm, [], []⟩ := by
 unfold smid at hy
 split at hy
 ·rename_i hb
  simp only [Option.some.injEq] at hy; subst hy
  exact .of fun _ => ev_slice_str (s := ⟨tm, hp, nid, df, pn⟩) (a := n.toNat) (b := m.toNat) ho ht hx (optNat_some hi hb.1) (optNat_some hi' (by omega)) (by omega) hb.2.2
 ·cases hy
theorem escat {o : Oper} {t t' : TypeId} {x y : Operand} {a b r : Str} (hy : scat a b = some r)
  (ho : o.op = .binOp .add t x y t') (hx : evT X.P t tm x = some (.c (.d (.str a)))) (hy' : evT X.P t tm y = some (.c (.d (.str b)))) :
  EvO X o ⟨tm, hp, nid, df, pn⟩ (.d (.str r)) ⟨tm, hp, nid, df, pn⟩ ⟨readsBlk o tm, [], []⟩ := by
 unfold scat at hy
 split at hy
 ·simp only [Option.some.injEq] at hy; subst hy
  exact .of fun _ => ev_concat (s := ⟨tm, hp, nid, df, pn⟩) ho hx hy' (by assumption)
 ·cases hy
theorem elfrom {α : Type} {g : α → D} {u y : List α} {o : Oper} {t e : TypeId} {x lo : Operand} {v : V} {k : IntKind} {n : Int} {sz : Nat} (hy : lfrom u n = some y)
  (ho : o.op = .slice t x (some lo) none none) (ht : X.P.underlying t = some (.slice e)) (hz : tsz X.P e = some sz) (hx : evT X.P t tm x = some v) (hv : v.toD = some (.list sz (u.map g))) (hi : ev tm lo = some (.c (.d (.int k n)))) :
  EvO X o ⟨tm, hp, nid, df, pn⟩ (.d (.list sz (y.map g))) ⟨tm, hp, nid, df, pn⟩ ⟨readsBlk o tm, [], []⟩ := by
 unfold lfrom at hy
 split at hy
 ·rename_i hb
  simp only [Option.some.injEq] at hy; subst hy
  have := fun call => ev_slice_list (P := X.P) (call := call) (id := nid) (s := ⟨tm, hp, nid, df, pn⟩) (a := n.toNat) (b := u.length) (lo := some lo) (hi := none) ho ht hz hx hv (optNat_some hi hb.1) (by simp [optNat]) hb.2 (by simp)
  rw [show u.length = (u.map g).length from (List.length_map ..).symm, List.take_length, ← List.map_drop] at this
  exact .of fun _ => this _
 ·cases hy
theorem elmid {α : Type} {g : α → D} {u y : List α} {o : Oper} {t e : TypeId} {x lo hh : Operand} {v : V} {k k' : IntKind} {n m : Int} {sz : Nat} (hy : lmid u n m = some y)
  (ho : o.op = .slice t x (some lo) (some hh) none) (ht : X.P.underlying t = some (.slice e)) (hz : tsz X.P e = some sz) (hx : evT X.P t tm x = some v) (hv : v.toD = some (.list sz (u.map g))) (hi : ev tm lo = some (.c (.d (.int k n)))) (hi' : ev tm hh = some (.c (.d (.int k' m)))) :
  EvO X o ⟨tm, hp, nid, df, pn⟩ (.d (.list sz (y.map g))) ⟨tm, hp, nid, df, pn⟩ ⟨readsBlk o tm, [], []⟩ := by
 unfold lmid at hy
 split at hy
 ·rename_i hb
  simp only [Option.some.injEq] at hy; subst hy
  have := fun call => ev_slice_list (P := X.P) (call := call) (id := nid) (s := ⟨tm, hp, nid, df, pn⟩) (a := n.toNat) (b := m.toNat) ho ht hz hx hv (optNat_some hi hb.1) (optNat_some hi' (by omega)) (by omega) (by simpa using hb.2.2)
  rw [← List.map_take, ← List.map_drop] at this
  exact .of fun _ => this _
 ·cases hy
theorem ellen {α : Type} {g : α → D} {u : List α} {o : Oper} {c : Go.Call} {t e : TypeId} {x : Operand} {v : V} {sz : Nat}
  (ho : o.op = .call c) (hc : c.callee = .builtin .len) (ha : c.args.toList = [x]) (hat : c.argTypes.toList = [t]) (ht : X.P.underlying t = some (.slice e)) (hx : ev tm x = some v) (hv : v.toD = some (.list sz (u.map g))) :
  EvO X o ⟨tm, hp, nid, df, pn⟩ (.d (.int .i64 u.length)) ⟨tm, hp, nid, df, pn⟩ Foot.none :=
 .of fun _ => by simp only [evOp, evR, ho, hc, ha, hat, hx, Option.bind_some, lenV_data hv, ht, List.length_map]
theorem esbytes {o : Oper} {src dst e : TypeId} {x : Operand} {a : Str} {y : List Int} (hy : sbytes a = some y)
  (ho : o.op = .convert src dst x) (hs : X.P.underlying src = some .string) (hdd : X.P.underlying dst = some (.slice e)) (he : X.P.underlying e = some (.int .u8)) (hz : tsz X.P e = some 1) (hx : evT X.P src tm x = some (.c (.d (.str a)))) :
  EvO X o ⟨tm, hp, nid, df, pn⟩ (.c (.own 1 (y.map (D.int .u8)))) ⟨tm, hp, nid, df, pn⟩ ⟨readsBlk o tm, [], []⟩ := by
 unfold sbytes at hy
 split at hy
 ·rename_i hb
  simp only [Option.some.injEq] at hy; subst hy
  have := fun call => ev_bytes (P := X.P) (call := call) (id := nid) (s := ⟨tm, hp, nid, df, pn⟩) ho hs hdd he hz hx hb
  rw [show a.map byteD = (a.map u8I).map (D.int .u8) from by rw [List.map_map]; rfl] at this
  exact .of fun _ => this _
 ·cases hy
theorem toBytes_ints : ∀ a : List Int, toBytes (a.map (D.int .u8)) = some (bstr a)
 | [] => rfl
 | n :: a => by
  show (toBytes (a.map (D.int .u8))).map (UInt8.ofNat n.toNat :: ·) = _
  rw [toBytes_ints a]; rfl
theorem ebstr {o : Oper} {src dst e : TypeId} {x : Operand} {v : V} {a : List Int}
  (ho : o.op = .convert src dst x) (hs : X.P.underlying src = some (.slice e)) (hdd : X.P.underlying dst = some .string) (he : X.P.underlying e = some (.int .u8)) (hx : evT X.P src tm x = some v) (hv : v.toD = some (.list 1 (a.map (D.int .u8)))) :
  EvO X o ⟨tm, hp, nid, df, pn⟩ (.d (.str (bstr a))) ⟨tm, hp, nid, df, pn⟩ ⟨readsBlk o tm, [], []⟩ := by
 have hcv : convV X.P src dst v = some (.d (.str (bstr a))) := by
  unfold convV
  rw [hs, hdd]
  cases v with
  | c y =>
   cases y with
   | d z => simp only [V.toD, C.toD, Option.some.injEq] at hv; subst hv; simp only [he, V.toD, C.toD, toBytes_ints, Option.map_some]
   | own z ys => simp only [V.toD, C.toD, Option.some.injEq, D.list.injEq] at hv; obtain ⟨rfl, rfl⟩ := hv; simp only [he, V.toD, C.toD, toBytes_ints, Option.map_some]
   | full z ys => simp only [V.toD, C.toD, Option.some.injEq, D.list.injEq] at hv; obtain ⟨rfl, rfl⟩ := hv; simp only [he, V.toD, C.toD, toBytes_ints, Option.map_some]
   | nilsl z =>
    simp only [V.toD, C.toD, Option.some.injEq, D.list.injEq] at hv
    obtain ⟨rfl, h⟩ := hv
    have : a = [] := by cases a <;> simp_all
    subst this
    simp only [he, V.toD, C.toD, toBytes, Option.map_some]
    rfl
   | _ => simp [V.toD, C.toD] at hv
  | view l z ys => simp only [V.toD, Option.some.injEq, D.list.injEq] at hv; obtain ⟨rfl, rfl⟩ := hv; simp only [he, V.toD, toBytes_ints, Option.map_some]
  | vagg cs => simp [V.toD] at hv
  | _ => simp [V.toD] at hv
 exact .of fun _ => by simp only [evOp, ho, evR, hx, hcv]
theorem eappv {α : Type} {g : α → D} {u m y : List α} {o : Oper} {c : Go.Call} {t s e : TypeId} {x z : Operand} {n w : Nat} {zs : List D} {zv : V} {ms : List D} (hy : lapp u m = some y) (hm : ms = m.map g)
  (ho : o.op = .call c) (hc : c.callee = .builtin .append) (ha : c.args.toList = [x, z]) (hat : c.argTypes.toList = [t, s]) (ht : telem X.P t = some e) (hn : tsz X.P e = some n) (hu : isSource X.P s = true)
  (hb : (Nat.ble (X.P.bytesOf e) 1024 && zeroFits X.P e n) = true) (hx : evT X.P t tm x = some (.view (.tmp w) n (u.map g))) (hw : look w tm = some (.c (.own n zs))) (hz : evT X.P s tm z = some zv) (hzz : appended zv = some (n, ms)) :
  EvO X o ⟨tm, hp, nid, df, pn⟩ (.c (.own n (y.map g))) ⟨plainAt w tm, hp, nid, df, pn⟩ (appendFoot x tm) := by
 subst hm
 unfold lapp at hy
 split at hy
 ·rename_i hl
  simp only [Option.some.injEq] at hy; subst hy
  simp only [Bool.and_eq_true] at hb
  have := fun call => ev_append_view (P := X.P) (call := call) (id := nid) (s := ⟨tm, hp, nid, df, pn⟩) ho hc ha hat ht hn hu ⟨Nat.le_of_ble_eq_true hb.1, hb.2⟩ hx hw hz hzz (by simpa using hl)
  rw [← List.map_append] at this
  exact .of fun _ => this _
 ·cases hy
theorem eappc {α : Type} {g : α → D} {u m y : List α} {o : Oper} {c : Go.Call} {t s e : TypeId} {x z : Operand} {n b off : Nat} {zs : List D} {cells : List C} {zv : V} {ms : List D} (hy : lapp u m = some y) (hm : ms = m.map g)
  (ho : o.op = .call c) (hc : c.callee = .builtin .append) (ha : c.args.toList = [x, z]) (hat : c.argTypes.toList = [t, s]) (ht : telem X.P t = some e) (hn : tsz X.P e = some n) (hu : isSource X.P s = true)
  (hb : (Nat.ble (X.P.bytesOf e) 1024 && zeroFits X.P e n) = true) (hx : evT X.P t tm x = some (.view (.cell b off) n (u.map g))) (hw : lookC b hp = some cells) (hw' : cells[off]? = some (.own n zs)) (hz : evT X.P s tm z = some zv) (hzz : appended zv = some (n, ms)) :
  EvO X o ⟨tm, hp, nid, df, pn⟩ (.c (.own n (y.map g))) ⟨tm, upd b (cells.set off (.d (.list n (u.map g)))) hp, nid, df, pn⟩ (appendFoot x tm) := by
 subst hm
 unfold lapp at hy
 split at hy
 ·rename_i hl
  simp only [Option.some.injEq] at hy; subst hy
  simp only [Bool.and_eq_true] at hb
  have := fun call => ev_append_cell (P := X.P) (call := call) (id := nid) (s := ⟨tm, hp, nid, df, pn⟩) ho hc ha hat ht hn hu ⟨Nat.le_of_ble_eq_true hb.1, hb.2⟩ hx hw hw' hz hzz (by simpa using hl)
  rw [← List.map_append] at this
  exact .of fun _ => this _
 ·cases hy
theorem eappn {α : Type} {g : α → D} {m y : List α} {o : Oper} {c : Go.Call} {t s e : TypeId} {x z : Operand} {n k : Nat} {zv : V} {ms : List D} (hy : lapp [] m = some y) (hm : ms = m.map g)
  (ho : o.op = .call c) (hc : c.callee = .builtin .append) (ha : c.args.toList = [x, z]) (hat : c.argTypes.toList = [t, s]) (ht : telem X.P t = some e) (hn : tsz X.P e = some n) (hu : isSource X.P s = true)
  (hb : (Nat.ble (X.P.bytesOf e) 1024 && zeroFits X.P e n) = true) (hx : evT X.P t tm x = some (.c (.nilsl k))) (hz : evT X.P s tm z = some zv) (hzz : appended zv = some (n, ms)) :
  EvO X o ⟨tm, hp, nid, df, pn⟩ (.c (.own n (y.map g))) ⟨tm, hp, nid, df, pn⟩ (appendFoot x tm) := by
 subst hm
 unfold lapp at hy
 split at hy
 ·rename_i hl
  simp only [List.nil_append, Option.some.injEq] at hy; subst hy
  simp only [Bool.and_eq_true] at hb
  exact .of fun _ => ev_append_nil (s := ⟨tm, hp, nid, df, pn⟩) ho hc ha hat ht hn hu ⟨Nat.le_of_ble_eq_true hb.1, hb.2⟩ hx hz hzz (by simpa using hl)
 ·cases hy
theorem ecall {o : Oper} {c : Go.Call} {fo : Operand} {g : Nat} {args args' : List C} {v v' : V} (hv : aval X g args' [] (.ret v []))
  (ho : o.op = .call c) (hc : c.callee = .value fo) (hf : ev tm fo = some (.c (.fn g [])))
  (ha : argsT X.P tm c.args.toList c.argTypes.toList = some args) (hi : args.flatMap C.ids = []) (hj : mapM? (C.into []) args = some args) (hst : args.map C.still = args') (hH : (X.H g 999999).isEmpty = true) (hb : V.back [] v = some v') :
  EvO X o ⟨tm, hp, nid, df, pn⟩ v' ⟨tm, hp, nid, df, pn⟩ ⟨[], [], []⟩ := by
 have := evt_call (X := X) (s := ⟨tm, hp, nid, df, pn⟩) (ids := []) (lh := []) (lh' := []) (lh'' := []) ho hc hf (by simpa using ha) (by simp [hi, reach]) (by simpa using hj) rfl (aval_still (hst ▸ hv) hH) rfl (by simpa [idsFrom] using hb)
 refine this.imp fun k p => ?_
 rw [p]
 simp [idsFrom, look_unviewIn_nil, putBlks]
theorem ecallk {o : Oper} {c : Go.Call} {fo : Operand} {g : Nat} {args : List C} {v v' : V} (hv : aval X g args [] (.ret v []))
  (ho : o.op = .call c) (hc : c.callee = .value fo) (hf : ev tm fo = some (.c (.fn g [])))
  (ha : argsT X.P tm c.args.toList c.argTypes.toList = some args) (hi : args.flatMap C.ids = []) (hj : mapM? (C.into []) args = some args) (hb : V.back [] v = some v') :
  EvO X o ⟨tm, hp, nid, df, pn⟩ v' ⟨tm, hp, nid, df, pn⟩ ⟨[], [], []⟩ := by
 have := evt_call (X := X) (s := ⟨tm, hp, nid, df, pn⟩) (ids := []) (lh := []) (lh' := []) (lh'' := []) ho hc hf (by simpa using ha) (by simp [hi, reach]) (by simpa using hj) rfl hv rfl (by simpa [idsFrom] using hb)
 refine this.imp fun k p => ?_
 rw [p]
 simp [idsFrom, look_unviewIn_nil, putBlks]
def AX.isOut : AX → Bool
 | .ret => true
 | .pan _ => true
 | _ => false
theorem seqQ.out {b : Code} {x : AX} {s : St} (hx : x.isOut = true) (h : Q x s) : seqQ X f b Q x s := by
 cases x <;> first | exact .ret h | exact .pan h | simp [AX.isOut] at hx
theorem condQ.out {hk : List Nat} {n : Nat} {x : AX} {s : St} (hx : x.isOut = true) (h : Q x s) : condQ hk n Q x s := by
 cases x <;> first | exact .ret h | exact .pan h | simp [AX.isOut] at hx
theorem exitQ.out {id : Nat} {hk : List Nat} {n : Nat} {x : AX} {s : St} (hx : x.isOut = true) (h : Q x s) : exitQ id hk n Q x s := by
 cases x <;> first | exact .ret h | exact .pan h | simp [AX.isOut] at hx
theorem loopQ.out {A : St → Prop} {x : AX} {s : St} (hx : x.isOut = true) (h : Q x s) : loopQ A Q x s := by
 cases x <;> first | exact .ret h | exact .pan h | simp [AX.isOut] at hx
inductive SubQ (X : Ctx) (fn : Func) (n : Nat) {ρ σ : Type} (E : ρ → CRes) (st : σ → St) : Except ρ σ → AX → St → Prop where
 | ok {a : σ} {s : St} : s = st a → SubQ X fn n E st (.ok a) .normal s
 | err {r : ρ} {x : AX} {s : St} : x.isOut = true → atEnd X fn n (E r) x s → SubQ X fn n E st (.error r) x s
theorem awp_sub (fn : Func) (n : Nat) {ρ σ : Type} (E : ρ → CRes) (st : σ → St) {res : Except ρ σ} {a : Code} {s : St} (h1 : awp X f a (SubQ X fn n E st res) s) (h2 : ∀ y, res = .ok y → Q .normal (st y))
  (h3 : ∀ r x s', res = .error r → x.isOut = true → atEnd X fn n (E r) x s' → Q x s') : awp X f a Q s := by
 refine awp_mono h1 ?_
 intro x s' hq
 cases hq with
 | ok e => subst e; exact h2 _ rfl
 | err hx e => exact h3 _ _ _ rfl hx e
inductive NrmQ {σ : Type} (st : σ → St) (y : σ) : AX → St → Prop where
 | ok {s : St} : s = st y → NrmQ st y .normal s
theorem awp_nrm {σ : Type} (st : σ → St) {y : σ} {a : Code} {s : St} (h1 : awp X f a (NrmQ st y) s) (h2 : Q .normal (st y)) : awp X f a Q s := by
 refine awp_mono h1 ?_
 intro x s' hq
 cases hq with
 | ok e => subst e; exact h2
theorem awpL_at {c : Code} {clean : St → Option St} {s s1 : St} (hc : clean s = some s1) (hc1 : clean s1 = some s1) (h : awpL X f c clean Q s1) : awpL X f c clean Q s := by
 obtain ⟨x, s', ⟨m₀, h1⟩, h2⟩ := h
 refine ⟨x, s', ⟨m₀ + 1, h1.imp fun k p m hm => ?_⟩, h2⟩
 obtain ⟨j, rfl⟩ : ∃ j, m = j + 1 := ⟨m - 1, by omega⟩
 have := p (j + 1) (by omega)
 simp only [iter, hc1] at this
 simp only [iter, hc]
 exact this
theorem awpL_go {c : Code} {clean : St → Option St} {s s1 : St} (hc : clean s = some s1) (h : awp X f c (loopQ (awpL X f c clean Q) Q) s1) : awpL X f c clean Q s := by
 refine awpL_round hc (awp_mono h ?_)
 intro x s' hq
 cases hq with
 | normal h => exact h
 | exit h => exact h
 | ret h => exact h
 | pan h => exact h
def filtK {β : Type} (n : Nat) : List (Nat × List C) → (List (Nat × List C) → β) → β
 | [], k => k []
 | (b, cs) :: r, k => match decide (b < n) with
  | true => copyL cs fun cs => filtK n r fun r => k ((b, cs) :: r)
  | false => filtK n r k
theorem filtK_eq {β : Type} {n : Nat} : ∀ {l : List (Nat × List C)} {k : List (Nat × List C) → β}, filtK n l k = k (l.filter (·.1 < n))
 | [], _ => rfl
 | (b, cs) :: r, k => by
  simp only [filtK, List.filter_cons, copyL_eq]
  cases h : decide (b < n) with
  | true => simp only [filtK_eq, if_true]
  | false => simp only [filtK_eq, Bool.false_eq_true, if_false]
def cleanK {α : Type} (ks : List Nat) (n : Nat) (tm : List (Nat × V)) (hp : List (Nat × List C)) (df : List (Nat × List Nat)) (k : List (Nat × V) → List (Nat × List C) → Option α) : Option α :=
 keepK ks (demT ks tm) fun tm => filtK n (demH ks hp) fun hp => match tm.all (fun x => x.2.below n) && hp.all (fun x => x.2.all (C.below n)) && df.all (fun x => x.2.all (· < n)) with
  | true => k tm hp
  | false => none
def pairK (tm : List (Nat × V)) (hp : List (Nat × List C)) : Option (List (Nat × V) × List (Nat × List C)) := some (tm, hp)
theorem cleanK_eq {α : Type} {ks : List Nat} {n : Nat} {k : List (Nat × V) → List (Nat × List C) → Option α} {a : α} (h : cleanK ks n tm hp df k = some a) :
  ∃ tm' hp', k tm' hp' = some a ∧ cleanAt ks n ⟨tm, hp, nid, df, pn⟩ = some ⟨tm', hp', n, df, pn⟩ := by
 unfold cleanK at h
 rw [keepK_eq, filtK_eq] at h
 split at h
 ·rename_i hc
  refine ⟨_, _, h, ?_⟩
  unfold cleanAt
  simp only
  rw [if_pos hc]
 ·simp at h
theorem lg {ks : List Nat} {n : Nat} {c : Code} (hc : cleanK ks n tm hp df pairK = some (tm', hp')) (h : awp X f c (loopQ (awpL X f c (cleanAt ks n) Q) Q) ⟨tm', hp', n, df, pn⟩) : awpL X f c (cleanAt ks n) Q ⟨tm, hp, nid, df, pn⟩ := by
 obtain ⟨_, _, h1, h2⟩ := cleanK_eq (nid := nid) (pn := pn) hc
 simp only [pairK, Option.some.injEq, Prod.mk.injEq] at h1
 obtain ⟨rfl, rfl⟩ := h1
 exact awpL_go h2 h
def settleK {α : Type} (hk : List Nat) (n : Nat) (tm : List (Nat × V)) (hp : List (Nat × List C)) (nid : Nat) (df : List (Nat × List Nat)) (k : List (Nat × V) → List (Nat × List C) → Nat → Option α) : Option α := match hk with
 | [] => k tm hp nid
 | _ :: ks => cleanK ks n tm hp df fun tm hp => k tm hp n
def triK (tm : List (Nat × V)) (hp : List (Nat × List C)) (nid : Nat) : Option (List (Nat × V) × List (Nat × List C) × Nat) := some (tm, hp, nid)
theorem settleK_eq {hk : List Nat} {n : Nat} (h : settleK hk n tm hp nid df triK = some (tm', hp', nid')) : settleS hk n ⟨tm, hp, nid, df, pn⟩ = some ⟨tm', hp', nid', df, pn⟩ := by
 unfold settleK at h
 split at h
 ·simp only [triK, Option.some.injEq, Prod.mk.injEq] at h
  obtain ⟨rfl, rfl, rfl⟩ := h; rfl
 ·obtain ⟨_, _, h1, h2⟩ := cleanK_eq (nid := nid) (pn := pn) h
  simp only [triK, Option.some.injEq, Prod.mk.injEq] at h1
  obtain ⟨rfl, rfl, rfl⟩ := h1
  exact h2
theorem eh {id : Nat} {hk : List Nat} {n : Nat} (hs : settleK hk n tm hp nid df triK = some (tm', hp', nid')) (h : Q .normal ⟨tm', hp', nid', df, pn⟩) : exitQ id hk n Q (.exit id) ⟨tm, hp, nid, df, pn⟩ := .here (settleK_eq hs) h
theorem en {id : Nat} {hk : List Nat} {n : Nat} (hs : settleK hk n tm hp nid df triK = some (tm', hp', nid')) (h : Q .normal ⟨tm', hp', nid', df, pn⟩) : exitQ id hk n Q .normal ⟨tm, hp, nid, df, pn⟩ := .normal (settleK_eq hs) h
theorem cn {hk : List Nat} {n : Nat} (hs : settleK hk n tm hp nid df triK = some (tm', hp', nid')) (h : Q .normal ⟨tm', hp', nid', df, pn⟩) : condQ hk n Q .normal ⟨tm, hp, nid, df, pn⟩ := .normal (settleK_eq hs) h
def codeAt : List Nat → Code → Code
 | [], c => c
 | i :: r, .seq a b => codeAt r (if i = 0 then a else b)
 | i :: r, .cond _ a b => codeAt r (if i = 0 then a else b)
 | _ :: r, .block _ c => codeAt r c
 | _ :: r, .loop c => codeAt r c
 | _ :: r, .scope c => codeAt r c
 | _, c => c
def bodyOf (fn : Func) : Code := fn.body.getD .skip
end
end Go.AM

namespace Go.AM
open Go
section
variable {X : Ctx} {f : Nat} {Q : AX → St → Prop} {tm tm' : List (Nat × V)} {hp hp' : List (Nat × List C)} {nid nid' : Nat} {df df' : List (Nat × List Nat)} {pn : Option D}
def EvP (X : Ctx) (o : Oper) (s : St) (d : D) (s1 : St) (ft : Foot) : Prop := Evt fun k => evOp X.P (X.call k) s.nid o s = some (.pan d s1, ft)
theorem ecallb {o : Oper} {c : Go.Call} {fo : Operand} {g : Nat} {caps ids : List Nat} {args args' args'' : List C} {lh lh' lh'' : List (List C)} {v v' : V} (hv : aval X g args'' lh (.ret v lh'))
  (ho : o.op = .call c) (hc : c.callee = .value fo) (hf : ev tm fo = some (.c (.fn g caps)))
  (ha : argsT X.P tm c.args.toList c.argTypes.toList = some args) (hr : reach hp 64 ((args ++ caps.map fun b => C.ptr b 0).flatMap C.ids) [] = some ids) (hi : mapM? (C.into ids) (args ++ caps.map fun b => .ptr b 0) = some args')
  (hst : args'.map C.still = args'') (hH : (X.H g 999999).isEmpty = true)
  (hb : blksInto hp ids = some lh) (hk : mapM? (mapM? (C.back (ids ++ idsFrom nid (lh'.length - ids.length)))) lh' = some lh'') (hv' : V.back (ids ++ idsFrom nid (lh'.length - ids.length)) v = some v') (hn : nid + (lh'.length - ids.length) = nid') :
  EvO X o ⟨tm, hp, nid, df, pn⟩ v' ⟨unviewIn (ids ++ idsFrom nid (lh'.length - ids.length)) tm, putBlks (ids ++ idsFrom nid (lh'.length - ids.length)) lh'' hp, nid', df, pn⟩ ⟨ids, ids, []⟩ := by
 subst hn hst
 exact evt_call (X := X) (s := ⟨tm, hp, nid, df, pn⟩) ho hc hf ha hr hi hb (aval_still hv hH) hk hv'
theorem ecallp {o : Oper} {c : Go.Call} {fo : Operand} {g : Nat} {caps ids : List Nat} {args args' args'' : List C} {lh lh' lh'' : List (List C)} {d : D} (hv : aval X g args'' lh (.pan d lh'))
  (ho : o.op = .call c) (hc : c.callee = .value fo) (hf : ev tm fo = some (.c (.fn g caps)))
  (ha : argsT X.P tm c.args.toList c.argTypes.toList = some args) (hr : reach hp 64 ((args ++ caps.map fun b => C.ptr b 0).flatMap C.ids) [] = some ids) (hi : mapM? (C.into ids) (args ++ caps.map fun b => .ptr b 0) = some args')
  (hst : args'.map C.still = args'') (hH : (X.H g 999999).isEmpty = true)
  (hb : blksInto hp ids = some lh) (hk : mapM? (mapM? (C.back ids)) lh' = some lh'') :
  EvP X o ⟨tm, hp, nid, df, pn⟩ d ⟨unviewIn ids tm, putBlks ids lh'' hp, nid, df, pn⟩ ⟨ids, ids, []⟩ := by
 subst hst
 refine (aval_still hv hH).imp fun k p => ?_
 simp only [evOp, ho, hc, hf, ha, doCall, hr, hi, hb, p, hk]
theorem epanic {o : Oper} {d : D} {ft : Foot} (h : ∀ call, evOp X.P call nid o ⟨tm, hp, nid, df, pn⟩ = some (.pan d ⟨tm, hp, nid, df, pn⟩, ft)) : EvP X o ⟨tm, hp, nid, df, pn⟩ d ⟨tm, hp, nid, df, pn⟩ ft := .of fun _ => h _
theorem pp {ops : Array Oper} {o : Oper} {l : List Oper} {d : D} {tm1 : List (Nat × V)} {hp1 : List (Nat × List C)} {ft : Foot} (hop : EvP X o ⟨tm, hp, nid, df, pn⟩ d ⟨tm1, hp1, nid, df, pn⟩ ft) (hw : wantedAt ops tm o = some true)
  (hk : (copyL tm1 fun tm => copyHp hp1 fun hp => some (tm, hp)) = some (tm', hp')) (h : Q (.pan d) ⟨tm', hp', nid, df, pn⟩) : awpO X ops (o :: l) Q ⟨tm, hp, nid, df, pn⟩ := by
 rw [copyL_eq, copyHp_eq] at hk
 simp only [Option.some.injEq, Prod.mk.injEq] at hk
 obtain ⟨rfl, rfl⟩ := hk
 exact awpO_pan (s := ⟨tm, hp, nid, df, pn⟩) hw hop h
theorem dp {ops : Array Oper} {vs : List Nat} {base i : Nat} {pre : List Fp} {o : Oper} {l : List Oper} {d d0 : D} {tm0 tm1 tmd : List (Nat × V)} {hp0 hp1 : List (Nat × List C)} {nid0 : Nat} {ft ft0 : Foot} (hd : copyL (tm.filter fun p => !(looseDst ops i).contains p.1) some = some tmd)
  (hop0 : EvP X o ⟨tm, hp, nid, df, pn⟩ d0 ⟨tm0, hp0, nid0, df, pn⟩ ft0) (hop : EvP X o ⟨tmd, hp, nid, df, pn⟩ d ⟨tm1, hp1, nid, df, pn⟩ ft) (hw : wantedAt ops tm o = some true) (hw' : wantedAt ops tmd o = some true) (hm : makesBlk o = false)
  (hk : (copyL tm1 fun tm => copyHp hp1 fun hp => some (tm, hp)) = some (tm', hp')) (hok : (drawOkM true ops base (pre ++ [⟨[], [], [], true⟩]) && Nat.ble base nid) = true) (h : Q (.pan d) ⟨tm', hp', nid, df, pn⟩) : awpD X ops vs base pre (o :: l) i Q ⟨tm, hp, nid, df, pn⟩ := by
 rw [copyL_eq, Option.some.injEq] at hd
 rw [copyL_eq, copyHp_eq] at hk
 simp only [Option.some.injEq, Prod.mk.injEq] at hk
 obtain ⟨rfl, rfl⟩ := hk
 simp only [Bool.and_eq_true] at hok
 have hdr : dropT (looseDst ops i) ⟨tm, hp, nid, df, pn⟩ = ⟨tmd, hp, nid, df, pn⟩ := by simp only [dropT, hd]
 refine awpD_pan (s := ⟨tm, hp, nid, df, pn⟩) (ft := ⟨[], [], [], true⟩) (ft0 := ⟨[], [], [], true⟩) (d0 := d0) (s0 := ⟨tm0, hp0, nid0, df, pn⟩) hw (hop0.imp fun k p => ?_) (by rw [hdr]; exact hw') (hop.imp fun k p => ?_) ?_ h
 ·simp only [drawOp, hm, Bool.false_eq_true, if_false, drawOld, p]
 ·rw [hdr]; simp only [drawOp, hm, Bool.false_eq_true, if_false, drawOld, p]
 ·simp only [Bool.and_eq_true, decide_eq_true_eq]
  exact ⟨drawOkM_ok hok.1, Nat.le_of_ble_eq_true hok.2⟩
theorem pdef {ops : Array Oper} {o : Oper} {l : List Oper} {v : V} {ft : Foot} (hop : ∀ call, evOp X.P call nid o ⟨tm, hp, nid, df, pn⟩ = some (.val v ⟨tm, hp, nid, df', pn⟩, ft)) (hw : wantedAt ops tm o = some true)
  (hk : putK o.dst v tm (fun tm => some tm) = some tm') (h : awpO X ops l Q ⟨tm', hp, nid, df', pn⟩) : awpO X ops (o :: l) Q ⟨tm, hp, nid, df, pn⟩ := by
 refine awpO_op (s := ⟨tm, hp, nid, df, pn⟩) hw (.of fun k => hop _) ?_
 rw [show tm = (⟨tm, hp, nid, df', pn⟩ : St).tmps from rfl, putK_eq] at hk
 simp only [Option.some.injEq] at hk
 subst hk
 rw [putDst, putSt_rest]
 exact h
def mset {κ α : Type} [BEq κ] (l : List (κ × α)) (k : κ) (v : α) : List (κ × α) := match l with
 | [] => [(k, v)]
 | (k', v') :: r => if k == k' then (k, v) :: r else (k', v') :: mset r k v
def mget {κ α : Type} [BEq κ] (l : List (κ × α)) (k : κ) (z : α) : α := match l with
 | [] => z
 | (k', v) :: r => if k == k' then v else mget r k z
def mhas {κ α : Type} [BEq κ] (l : List (κ × α)) (k : κ) : Bool := match l with
 | [] => false
 | (k', _) :: r => if k == k' then true else mhas r k
def encI {α : Type} (j : IntKind) (g : α → D) (x : Int × α) : D × MV := (.int j x.1, .d (g x.2))
theorem findM_I {α : Type} {j : IntKind} {g : α → D} {k : Int} {z : α} : ∀ l : List (Int × α), ∃ r, findM (.int j k) (l.map (encI j g)) = some r ∧ (mhas l k = true → r = some (.d (g (mget l k z)))) ∧ (mhas l k = false → r = none ∧ mget l k z = z)
 | [] => ⟨none, rfl, by simp [mhas], fun _ => ⟨rfl, rfl⟩⟩
 | (k', v') :: r => by
  simp only [List.map_cons, encI, findM, eqKey, mget, mhas, if_true]
  cases h : k == k' with
  | true => exact ⟨_, rfl, by simp, by simp⟩
  | false =>
   obtain ⟨q, h1, h2, h3⟩ := findM_I (j := j) (g := g) (k := k) (z := z) r
   exact ⟨q, h1, by simpa using h2, by simpa using h3⟩
theorem lookM_I {α : Type} {j : IntKind} {g : α → D} {k : Int} {z : α} {e : TypeId} {ok : Bool} (hz : zeroM X.P e = some (.d (g z))) (l : List (Int × α)) : lookM X.P e ok (.int j k) (l.map (encI j g)) = some (tellM ok (.d (g (mget l k z))) (mhas l k)) := by
 obtain ⟨r, h1, h2, h3⟩ := findM_I (j := j) (g := g) (k := k) (z := z) l
 unfold lookM
 rw [h1]
 cases h : mhas l k with
 | true => rw [h2 h]; rfl
 | false => obtain ⟨rfl, e'⟩ := h3 h; rw [e']; simp only [hz, Option.map_some]
theorem elookI {α : Type} {j : IntKind} {g : α → D} {o : Oper} {t kt e : TypeId} {m k : Operand} {b : Nat} {l : List (Int × α)} {s : Int} (z : α) (ho : o.op = .lookup t m k false) (hm : mapT X.P t = some (kt, e)) (hx : ev tm m = some (.c (.mp b))) (hy : (ev tm k).bind V.toD = some (.int j s)) (hk : keyD X.P kt (.int j s) = true)
  (hb : look b hp = some [.ment (l.map (encI j g))]) (hz : zeroM X.P e = some (.d (g z))) : EvO X o ⟨tm, hp, nid, df, pn⟩ (.d (g (mget l s z))) ⟨tm, hp, nid, df, pn⟩ ⟨readsBlk o tm, [], []⟩ :=
 .of fun call => by simp only [evOp, ho, evR, hm, hx, hy, hk, if_true, hb, mapOf, lookM_I (j := j) (g := g) (z := z) hz, Option.map_some, tellM, Bool.false_eq_true, if_false]
theorem pmk {ops : Array Oper} {o : Oper} {l : List Oper} {t : TypeId} (ho : o.op = .makeMap t none) (hw : wantedAt ops tm o = some true) (hv : noView nid tm = true)
  (hk : putK o.dst (.c (.mp nid)) tm (fun tm => some tm) = some tm') (hn : nid + 1 = nid') (h : awpO X ops l Q ⟨tm', (nid, [.ment []]) :: hp, nid', df, pn⟩) : awpO X ops (o :: l) Q ⟨tm, hp, nid, df, pn⟩ := by
 refine awpO_op (s := ⟨tm, hp, nid, df, pn⟩) (v := .c (.mp nid)) (s1 := ⟨tm, (nid, [.ment []]) :: hp, nid + 1, df, pn⟩) (ft := Foot.none) hw (.of fun k => by simp only [evOp, ho, hv, if_true]) ?_
 subst hn
 rw [show tm = (⟨tm, (nid, [.ment []]) :: hp, nid + 1, df, pn⟩ : St).tmps from rfl, putK_eq] at hk
 simp only [Option.some.injEq] at hk
 subst hk
 rw [putDst, putSt_rest]
 exact h
theorem emap {o : Oper} {t kt e : TypeId} {m k v : Operand} {b : Nat} {kd : D} {mv : MV} {cs : List C} {kvs kvs' : List (D × MV)} (hs : setM kd mv kvs = some kvs') (ho : o.op = .insert t m k v ∨ o.op = .mapUpdate t m k v) (hm : mapT X.P t = some (kt, e)) (hx : ev tm m = some (.c (.mp b))) (hy : (ev tm k).bind V.toD = some kd) (hk : keyD X.P kt kd = true)
  (hv : (evT X.P e tm v).bind MV.of = some mv) (hb : look b hp = some cs) (hc : mapOf cs = some kvs) : EvO X o ⟨tm, hp, nid, df, pn⟩ (.c .undef) ⟨tm, upd b [.ment kvs'] hp, nid, df, pn⟩ ⟨[], [b], []⟩ :=
 .of fun call => by rcases ho with ho | ho <;> simp only [evOp, ho, doMap, hm, hx, hy, hk, hv, hb, hc, hs]
theorem eappf {α : Type} {g : α → D} {u m y : List α} {o : Oper} {c : Go.Call} {t s e : TypeId} {x z : Operand} {n : Nat} {zv : V} {ms : List D} (hy : lapp u m = some y) (hm : ms = m.map g)
  (ho : o.op = .call c) (hc : c.callee = .builtin .append) (ha : c.args.toList = [x, z]) (hat : c.argTypes.toList = [t, s]) (ht : telem X.P t = some e) (hn : tsz X.P e = some n) (hu : isSource X.P s = true)
  (hb : (Nat.ble (X.P.bytesOf e) 1024 && zeroFits X.P e n) = true) (hx : evT X.P t tm x = some (.c (.full n (u.map g)))) (hz : evT X.P s tm z = some zv) (hzz : appended zv = some (n, ms)) :
  EvO X o ⟨tm, hp, nid, df, pn⟩ (.c (.own n (y.map g))) ⟨tm, hp, nid, df, pn⟩ (appendFoot x tm) := by
 subst hm
 unfold lapp at hy
 split at hy
 ·rename_i hl
  simp only [Option.some.injEq] at hy; subst hy
  simp only [Bool.and_eq_true] at hb
  refine .of fun call => ?_
  have h2 : X.P.bytesOf e ≤ 1024 ∧ zeroFits X.P e n = true := ⟨Nat.le_of_ble_eq_true hb.1, hb.2⟩
  simp only [evOp, ho, hc, ha, hat, doAppend, ht, hn, hu, hx, hz, hzz, Option.bind_some, h2, and_self, if_true, List.length_map, hl, List.map_append]
 ·cases hy
theorem elfull {α : Type} {g : α → D} {u y : List α} {o : Oper} {t e : TypeId} {x hh mm : Operand} {v : V} {k k' : IntKind} {n : Int} {sz : Nat} (hy : lto u n = some y)
  (ho : o.op = .slice t x none (some hh) (some mm)) (ht : X.P.underlying t = some (.slice e)) (hz : tsz X.P e = some sz) (hx : evT X.P t tm x = some v) (hv : v.toD = some (.list sz (u.map g))) (hi : ev tm hh = some (.c (.d (.int k n)))) (hi' : ev tm mm = some (.c (.d (.int k' n)))) :
  EvO X o ⟨tm, hp, nid, df, pn⟩ (.c (.full sz (y.map g))) ⟨tm, hp, nid, df, pn⟩ ⟨readsBlk o tm, [], []⟩ := by
 unfold lto at hy
 split at hy
 ·rename_i hb
  simp only [Option.some.injEq] at hy; subst hy
  refine .of fun call => ?_
  have h1 : n.toNat ≤ (u.map g).length := by simpa using hb.2
  simp [evOp, ho, evR, hx, lenV_data hv, ht, hv, optNat, hi, hi', hb.1, sliceV, hz, List.map_take, hb.2]
 ·cases hy
def idiv (k : IntKind) (a b : Int) : Option Int := if b = 0 then none else some (k.wrap (a.tdiv b))
theorem eidiv {o : Oper} {t u : TypeId} {x z : Operand} {k : IntKind} {a b y : Int} (hy : idiv k a b = some y) (ho : o.op = .binOp .quo t x z u) (hx : evT X.P t tm x = some (.c (.d (.int k a)))) (hz : evT X.P t tm z = some (.c (.d (.int k b)))) :
  EvO X o ⟨tm, hp, nid, df, pn⟩ (.d (.int k y)) ⟨tm, hp, nid, df, pn⟩ ⟨readsBlk o tm, [], []⟩ := by
 unfold idiv at hy
 split at hy
 ·cases hy
 ·rename_i hb
  simp only [Option.some.injEq] at hy; subst hy
  exact .of fun _ => by simp only [evOp, ho, evR, hx, hz, binV, if_true, intOp, hb, if_false]
theorem recsF_of {P : Program} {g : Nat} {fn : Func} {c : Code} {b : Bool} (hf : P.funcs[g]? = some fn) (hc : fn.body = some c) (hb : recs c = b) : recsF P g = b := by simp only [recsF, hf, hc, hb]
theorem rdc {g : Nat} {caps ids : List Nat} {l : List (Nat × List Nat)} {pan pan2 pan' : Option D} {s' : St} {args' : List C} {lh lh' lh'' : List (List C)} {v v' : V} {rec : Bool} (hv : avalD X pan g args' lh (.ret v lh')) (hrc : recsF X.P g = rec) (hr : reach hp 64 ((caps.map fun b => C.ptr b 0).flatMap C.ids) [] = some ids) (hi : mapM? (C.into ids) (caps.map fun b => .ptr b 0) = some args')
  (hb : blksInto hp ids = some lh) (hk : mapM? (mapM? (C.back (ids ++ idsFrom nid (lh'.length - ids.length)))) lh' = some lh'') (hv' : V.back (ids ++ idsFrom nid (lh'.length - ids.length)) v = some v') (hn : nid + (lh'.length - ids.length) = nid') (hp2 : (match rec with | true => none | false => pan) = pan2)
  (hf : (copyL (unviewIn (ids ++ idsFrom nid (lh'.length - ids.length)) tm) fun tm => copyHp (putBlks (ids ++ idsFrom nid (lh'.length - ids.length)) lh'' hp) fun hp => some (tm, hp)) = some (tm', hp'))
  (h : rdef X l pan2 ⟨tm', hp', nid', df, pn⟩ pan' s') : rdef X ((g, caps) :: l) pan ⟨tm, hp, nid, df, pn⟩ pan' s' := by
 subst hn
 rw [copyL_eq, copyHp_eq] at hf
 simp only [Option.some.injEq, Prod.mk.injEq] at hf
 obtain ⟨rfl, rfl⟩ := hf
 refine rdef.cons (s := ⟨tm, hp, nid, df, pn⟩) hr hi hb hv hk hv' ?_
 rw [hrc]
 cases rec with
 | true => simp only at hp2; subst hp2; simpa using h
 | false => simp only at hp2; subst hp2; simpa using h
theorem avalD_start {fn : Func} {code : Code} {pan : Option D} {args : List C} {lh : List (List C)} {r : CRes} {n : Nat} (hf : X.P.funcs[f]? = some fn) (hb : fn.body = some code) (hl : args.length = fn.params.size + fn.nfree) (hrc : recs code = false)
  (ht : zipIdx' 0 (args.map fun c => V.c c.plain) = tm) (hh : zipIdx' 0 lh = hp) (hn : lh.length = n) (h : awp X f code (atEndD X fn n r) ⟨tm, hp, n, [], none⟩) : avalD X pan f args lh r :=
 avalD_of hf hb hl hrc (by unfold enterSt; rw [ht, hh, hn]; exact h)
theorem avalD_rstart {fn : Func} {code b : Code} {id : Nat} {ops : Array Oper} {o o1 : Oper} {pan : Option D} {args : List C} {lh : List (List C)} {r : CRes} {n : Nat} (hf : X.P.funcs[f]? = some fn) (hb : fn.body = some code) (hl : args.length = fn.params.size + fn.nfree) (hcode : code = .seq (.region id ops false) b) (hrc : recs code = true) (ho : ops.toList = [o, o1])
  (ht : keepK (X.H f id) (zipIdx' 0 (args.map fun c => V.c c.plain)) (fun tm => putK o.dst (recV pan) tm fun tm => putK o1.dst (recV pan) tm fun tm => some tm) = some tm) (hh : zipIdx' 0 lh = hp) (hn : lh.length = n) (h : awp X f b (atEndD X fn n r) ⟨tm, hp, n, [], none⟩) : avalD X pan f args lh r := by
 subst hcode
 refine avalD_rec hf hb hl hrc ho ?_
 rw [keepK_eq] at ht
 rw [show keepT (X.H f id) (zipIdx' 0 (args.map fun c => V.c c.plain)) = ({ enterSt args lh with tmps := keepT (X.H f id) (enterSt args lh).tmps } : St).tmps from rfl, putK_eq, putK_eq, Option.some.injEq] at ht
 have e : putDst o1 (recV pan) (putDst o (recV pan) { enterSt args lh with tmps := keepT (X.H f id) (enterSt args lh).tmps }) = ⟨tm, hp, n, [], none⟩ := by
  rw [putDst, putDst, putSt_rest, ht, putSt_rest]
  simp only [enterSt, hh, hn]
 rw [e, hn]; exact h
theorem eplain {o : Oper} {s s1 : St} {v : V} {ft : Foot} (h : evOp X.P noCall s.nid o s = some (.val v s1, ft)) : EvO X o s v s1 ft :=
 ⟨0, fun _ _ => evOp_noCall h _⟩
theorem erw' {o : Oper} {s s1 : St} {v v' : V} {ft : Foot} (hv : v = v') (h : EvO X o s v s1 ft) : EvO X o s v' s1 ft := hv ▸ h
end
end Go.AM

namespace Go.AM
open Go
variable [Globs]
end Go.AM

namespace Go.AM
open Go
mutual
inductive Arr where
 | mk (shape : List Int) (cells : List Cell)
inductive Cell where
 | mk (kind : Int) (n : Int) (box : List Arr)
end
instance : Inhabited Arr := ⟨.mk [] []⟩
instance : Inhabited Cell := ⟨.mk 0 0 []⟩
def Arr.shape : Arr → List Int | .mk s _ => s
def Arr.cells : Arr → List Cell | .mk _ c => c
def Cell.kind : Cell → Int | .mk k _ _ => k
def Cell.n : Cell → Int | .mk _ n _ => n
def Cell.box : Cell → List Arr | .mk _ _ b => b
mutual
def encArrR : Arr → D
 | .mk sh cs => .agg [.list 1 (sh.map (D.int .i64)), .list 3 (encCellsR cs)]
def encCellsR : List Cell → List D
 | [] => []
 | c :: cs => encCellR c :: encCellsR cs
def encCellR : Cell → D
 | .mk k n b => .agg [.int .i64 k, .int .i64 n, .list 2 (encArrsR b)]
def encArrsR : List Arr → List D
 | [] => []
 | a :: l => encArrR a :: encArrsR l
end
def encCell (c : Cell) : D := .agg [.int .i64 c.kind, .int .i64 c.n, .list 2 (c.box.map encArrR)]
def encArr (a : Arr) : D := .agg [.list 1 (a.shape.map (D.int .i64)), .list 3 (a.cells.map encCell)]
theorem encArrsR_map : ∀ l : List Arr, encArrsR l = l.map encArrR
 | [] => rfl
 | a :: l => by simp only [encArrsR, encArrsR_map l, List.map_cons]
theorem encCellR_eq : ∀ c : Cell, encCellR c = encCell c
 | .mk k n b => by simp only [encCellR, encCell, encArrsR_map, Cell.kind, Cell.n, Cell.box]
theorem encCellsR_map : ∀ l : List Cell, encCellsR l = l.map encCell
 | [] => rfl
 | c :: l => by simp only [encCellsR, encCellsR_map l, encCellR_eq, List.map_cons]
theorem encArrR_eq : ∀ a : Arr, encArrR a = encArr a
 | .mk sh cs => by simp only [encArrR, encArr, encCellsR_map, Arr.shape, Arr.cells]
structure Token where
 kind : Int
 text : Str
 lit : Arr
 at_ : Int
 deriving Inhabited
def encToken (t : Token) : D := .agg [.int .i64 t.kind, .str t.text, .list 1 (t.lit.shape.map (D.int .i64)), .list 3 (t.lit.cells.map encCell), .int .i64 t.at_]
structure Fault where
 err : Int
 at_ : Int
 why : Int
 deriving Inhabited
def encFault (f : Fault) : D := .agg [.int .i64 f.err, .int .i64 f.at_, .int .i64 f.why]
inductive Node where
 | mk (kind op : Int) (name : Str) (lit : Arr) (kids : List Node) (at_ : Int)
instance : Inhabited Node := ⟨.mk 0 0 [] (.mk [] []) [] 0⟩
def Node.kind : Node → Int | .mk k _ _ _ _ _ => k
def Node.op_ : Node → Int | .mk _ o _ _ _ _ => o
def Node.name : Node → Str | .mk _ _ n _ _ _ => n
def Node.lit : Node → Arr | .mk _ _ _ l _ _ => l
def Node.kids : Node → List Node | .mk _ _ _ _ k _ => k
def Node.at_ : Node → Int | .mk _ _ _ _ _ a => a
mutual
def encNodeR : Node → D
 | .mk k o n l ks a => .agg [.int .i64 k, .int .i64 o, .str n, .list 1 (l.shape.map (D.int .i64)), .list 3 (l.cells.map encCell), .list 7 (encNodesR ks), .int .i64 a]
def encNodesR : List Node → List D
 | [] => []
 | n :: l => encNodeR n :: encNodesR l
end
def encNode (n : Node) : D := .agg [.int .i64 n.kind, .int .i64 n.op_, .str n.name, .list 1 (n.lit.shape.map (D.int .i64)), .list 3 (n.lit.cells.map encCell), .list 7 (n.kids.map encNodeR), .int .i64 n.at_]
theorem encNodesR_map : ∀ l : List Node, encNodesR l = l.map encNodeR
 | [] => rfl
 | n :: l => by simp only [encNodesR, encNodesR_map l, List.map_cons]
theorem encNodeR_eq : ∀ n : Node, encNodeR n = encNode n
 | .mk k o n l ks a => by simp only [encNodeR, encNode, encNodesR_map, Node.kind, Node.op_, Node.name, Node.lit, Node.kids, Node.at_]
structure Prgm where
 set_ : Str
 origin : Int
 expr : Node
 deriving Inhabited
def encPrgm (p : Prgm) : D := .agg [.str p.set_, .int .i64 p.origin, .int .i64 p.expr.kind, .int .i64 p.expr.op_, .str p.expr.name, .list 1 (p.expr.lit.shape.map (D.int .i64)), .list 3 (p.expr.lit.cells.map encCell), .list 7 (p.expr.kids.map encNodeR), .int .i64 p.expr.at_]
structure Grammar where
 verbs : List Str
 adverbs : List Str
 behind : List Str
 outer : Str
 power : Str
 open_ : Str
 close : Str
 left : Str
 right : Str
 minus : Str
 quote : Str
 trains : Bool
 lone : Bool
 square : Bool
 deriving Inhabited
def encGrammar (g : Grammar) : D := .agg [.list 1 (g.verbs.map D.str), .list 1 (g.adverbs.map D.str), .list 1 (g.behind.map D.str), .str g.outer, .str g.power, .str g.open_, .str g.close, .str g.left, .str g.right, .str g.minus, .str g.quote, .bool g.trains, .bool g.lone, .bool g.square]
end Go.AM

namespace Go.AM
open Go
variable [Globs]
def strsOf : List D → Option (List (List UInt8))
 | [] => some []
 | .str s :: r => (strsOf r).map (s :: ·)
 | _ :: _ => none
theorem strsOf_eq : ∀ {ds : List D} {l : List (List UInt8)}, strsOf ds = some l → ds = l.map .str
 | [], l, h => by simp only [strsOf, Option.some.injEq] at h; subst h; rfl
 | d :: ds, l, h => by
  cases d <;> simp only [strsOf, Option.map_eq_some_iff, reduceCtorEq] at h
  obtain ⟨r, hr, rfl⟩ := h
  rw [strsOf_eq hr]; rfl
theorem strsOf_map : ∀ l : List (List UInt8), strsOf (l.map .str) = some l
 | [] => rfl
 | s :: l => by simp only [List.map_cons, strsOf, strsOf_map l]; rfl
def joinS (l : List (List UInt8)) (s : List UInt8) : Option (List UInt8) :=
 if l.length ≤ 140737488355328 ∧ (Lib.join l s).length ≤ 140737488355328 then some (Lib.join l s) else none
def joinCall : Call := fun _ args lh => match args with
 | [.d (.list 1 ds), .d (.str s)] => (strsOf ds).bind fun l => (joinS l s).map fun r => .ret (.d (.str r)) lh
 | _ => none
def indexByteS (s : List UInt8) (c : Int) : Int := Lib.indexByte s c.toNat.toUInt8
def indexByteCall : Call := fun _ args lh => match args with
 | [.d (.str s), .d (.int .u8 c)] => some (.ret (.d (.int .i64 (indexByteS s c))) lh)
 | _ => none
def containsAnyS (s t : List UInt8) : Option Bool :=
 if s.length < 4294967281 ∧ t.length < 4294967281 ∧ (s.all fun b => decide (b.toNat < 128)) = true ∧ (t.all fun b => decide (b.toNat < 128)) = true then some (Lib.containsAny s t) else none
def containsAnyCall : Call := fun _ args lh => match args with
 | [.d (.str s), .d (.str t)] => (containsAnyS s t).map fun r => .ret (.d (.bool r)) lh
 | _ => none
theorem step_below {K : Col} {w w' : World} (h : Go.RowKit.Below w.heap.size w w') : Step mine K w K w' :=
 ⟨h.os, h.tape, h.output, h.size, fun b hb _ => h.block b hb, fun b off hb _ =>
  ⟨by simp [World.cell?, h.block b hb], by simp [World.frozen?, h.block b hb], rfl⟩⟩
theorem callOK_below {P : Program} {f : Nat} {args : List C} {lh : List (List C)} {d : D}
  (h : ∀ K μ w vs, RepCs K μ w args vs → BoundK K w → Glob K w → Calls P f vs.toArray w fun e w' => (∃ u, e = .returned u ∧ Rep K w' d u) ∧ Go.RowKit.Below w.heap.size w w') :
  CallOK P f args lh (.ret (.d d) lh) := by
 intro K μ w vs hr hi hh hb hgl
 refine (h K μ w vs hr hb hgl).mono ?_
 rintro e w' ⟨⟨u, rfl, hu⟩, hbw⟩
 have hst := step_below (K := K) hbw
 refine ⟨K, μ, hst, fun blk off hl => hb _ _ (Nat.le_trans hbw.size hl), fun _ _ => rfl, Nat.le_refl _, ?_, by simp [PlainV], by simp [V.ids, C.ids], _, rfl, hu⟩
 intro i cells hic
 refine ⟨(hh i cells hic).1, (hh i cells hic).2.step (W := fun _ => False) ⟨hst.os, hst.tape, hst.output, hst.size, fun b hb _ => hbw.block b hb, fun b off hb _ => ⟨by simp [World.cell?, hbw.block b hb], by simp [World.frozen?, hbw.block b hb], rfl⟩⟩ (by simp) (by simp) (by simp)⟩
theorem repE_strs {K : Col} {w : World} : ∀ {l : List (List UInt8)} {blk off : Nat}, RepE K w 1 blk off (l.map .str) → ∀ (j : Nat) s, l[j]? = some s → w.cell? ⟨blk, off + j, none⟩ = some (.string ⟨s.toArray⟩)
 | s :: l, blk, off, h, j, t, ht => by
  simp only [List.map_cons, RepE] at h
  obtain ⟨⟨v, hv, hz, hc⟩, hr⟩ := h
  cases j with
  | zero =>
   simp only [List.getElem?_cons_zero, Option.some.injEq] at ht; subst ht
   simp only [Rep] at hv; subst hv
   exact (hc 0 _ rfl).2
  | succ j =>
   have := repE_strs hr j t (by simpa using ht)
   rw [show off + (j + 1) = off + 1 + j from by omega]
   exact this
theorem join_ok {P : Program} {ρ : Shelf.Ren} (L : Go.Proofs.Lays.n156 P ρ) (X : Go.Proofs.Builder.Extra P ρ) {args : List C} {lh : List (List C)} {r : CRes}
  (h : joinCall (ρ.f 156) args lh = some r) : CallOK P (ρ.f 156) args lh r := by
 unfold joinCall at h
 split at h
 ·rename_i ds s
  simp only [Option.bind_eq_some_iff, Option.map_eq_some_iff, joinS] at h
  obtain ⟨l, hl, q, hq, rfl⟩ := h
  have hds := strsOf_eq hl; subst hds
  split at hq
  ·rename_i hb
   simp only [Option.some.injEq] at hq; subst hq
   refine callOK_below fun K μ w vs hr hbd hgl => ?_
   cases hr with
   | cons hc hn =>
    cases hn with
    | cons hs hn =>
     cases hn
     rename_i v u
     simp only [RepC, Rep] at hc hs; subst hs
     rcases hc with ⟨he, rfl | ⟨ea, ecap, rfl⟩⟩ | ⟨blk, off, cap, rfl, hcap, he⟩
     ·have : l = [] := by simpa using he
      subst this
      refine (Go.Proofs.Any.strings_Join_none L X none 0 ⟨s.toArray⟩ w).mono ?_
      rintro e w' ⟨rfl, rfl⟩
      exact ⟨⟨_, rfl, by simp [Rep, Lib.join_nil]⟩, Go.RowKit.Below.refl _ _⟩
     ·have : l = [] := by simpa using he
      subst this
      refine (Go.Proofs.Any.strings_Join_none L X (some ea) ecap ⟨s.toArray⟩ w).mono ?_
      rintro e w' ⟨rfl, rfl⟩
      exact ⟨⟨_, rfl, by simp [Rep, Lib.join_nil]⟩, Go.RowKit.Below.refl _ _⟩
     ·cases l with
      | nil =>
       refine (Go.Proofs.Any.strings_Join_none L X (some (ad blk off)) cap ⟨s.toArray⟩ w).mono ?_
       rintro e w' ⟨rfl, rfl⟩
       exact ⟨⟨_, rfl, by simp [Rep, Lib.join_nil]⟩, Go.RowKit.Below.refl _ _⟩
      | cons x l =>
       have hcell := repE_strs he
       have hlt : blk < w.heap.size := block_lt (off := off + 0) (hcell 0 x rfl)
       have hm : (((x :: l).map fun s => ByteArray.mk s.toArray).map fun b => b.data.toList) = x :: l := by simp [List.map_map, Function.comp_def]
       have := Go.Proofs.Any.strings_Join L X blk off cap ((x :: l).map fun s => ByteArray.mk s.toArray) ⟨s.toArray⟩ w (fun j y hy => by
        simp only [List.getElem?_map, Option.map_eq_some_iff] at hy
        obtain ⟨t, ht, rfl⟩ := hy
        exact hcell j t ht) hlt (by simpa using hb.1) (by simpa using hcap) (by rw [hm]; simpa using hb.2)
       rw [hm] at this
       simp only [List.length_map] at this ⊢
       refine this.mono ?_
       rintro e w' ⟨rfl, hw⟩
       exact ⟨⟨_, rfl, by simp [Rep]⟩, hw⟩
  ·simp at hq
 ·simp at h
theorem indexByte_ok {P : Program} {ρ : Shelf.Ren} (L : Go.Proofs.Lays.n137 P ρ) {args : List C} {lh : List (List C)} {r : CRes}
  (h : indexByteCall (ρ.f 137) args lh = some r) : CallOK P (ρ.f 137) args lh r := by
 unfold indexByteCall at h
 split at h
 ·rename_i s c
  simp only [Option.some.injEq] at h; subst h
  refine callOK_below fun K μ w vs hr hbd hgl => ?_
  cases hr with
  | cons hc hn =>
   cases hn with
   | cons hs hn =>
    cases hn
    simp only [RepC, Rep] at hc hs; subst hc; subst hs
    refine (Go.Proofs.Any.strings_IndexByte L ⟨s.toArray⟩ c w).mono ?_
    rintro e w' ⟨rfl, rfl⟩
    exact ⟨⟨_, rfl, by simp [Rep, indexByteS]⟩, Go.RowKit.Below.refl _ _⟩
 ·simp at h
theorem containsAny_ok {P : Program} {ρ : Shelf.Ren} (L : Go.Proofs.Lays.n150 P ρ) (h116 : (P.info? (ρ.t 116)).map (fun i => (i.zero, i.size)) = some (some (.agg (Array.replicate 256 (.bool false))), 256))
  {args : List C} {lh : List (List C)} {r : CRes} (h : containsAnyCall (ρ.f 150) args lh = some r) : CallOK P (ρ.f 150) args lh r := by
 unfold containsAnyCall at h
 split at h
 ·rename_i s t
  simp only [Option.map_eq_some_iff, containsAnyS] at h
  obtain ⟨q, hq, rfl⟩ := h
  split at hq
  ·rename_i hb
   simp only [Option.some.injEq] at hq; subst hq
   simp only [List.all_eq_true, decide_eq_true_eq] at hb
   refine callOK_below fun K μ w vs hr hbd hgl => ?_
   cases hr with
   | cons hc hn =>
    cases hn with
    | cons hs hn =>
     cases hn
     simp only [RepC, Rep] at hc hs; subst hc; subst hs
     refine (Go.Proofs.Any.strings_ContainsAny_laid L h116 ⟨s.toArray⟩ ⟨t.toArray⟩ w (by show s.toArray.size < _; simpa using hb.1) (by show t.toArray.size < _; simpa using hb.2.1)
      (fun j b hj => hb.2.2.1 b (List.mem_of_getElem? (by simpa using hj))) (fun j b hj => hb.2.2.2 b (List.mem_of_getElem? (by simpa using hj)))).mono ?_
     rintro e w' ⟨rfl, hw⟩
     exact ⟨⟨_, rfl, by simp [Rep]⟩, hw⟩
  ·simp at hq
 ·simp at h
end Go.AM

namespace Go.AM
open Go
section
variable {X : Ctx} {f : Nat} {Q : AX → St → Prop} {tm tm' : List (Nat × V)} {hp hp' : List (Nat × List C)} {nid nid' : Nat} {df : List (Nat × List Nat)} {pn : Option D}
end
end Go.AM

namespace Go.AM
open Go
variable [Globs]
def subB : List UInt8 → List UInt8 → Bool
 | [], s => s.isEmpty
 | b :: l, s => s.isPrefixOf (b :: l) || subB l s
omit [Globs] in
theorem contains_eq : ∀ l s : List UInt8, Lib.contains l s = subB l s
 | [], s => by cases s <;> rfl
 | b :: l, s => by
  have ih := contains_eq l s
  unfold Lib.contains at ih ⊢
  unfold subB Lib.index
  by_cases h : s.isPrefixOf (b :: l) = true
  ·rw [if_pos h, h]; rfl
  ·rw [if_neg h, Bool.eq_false_iff.2 h, Bool.false_or, ← ih]
   have hge := Lib.index_ge l s
   by_cases h1 : Lib.index l s = -1
   ·rw [h1]; rfl
   ·have : (Lib.index l s == -1) = false := by rw [beq_eq_false_iff_ne]; exact h1
    rw [this]
    simp only [Bool.false_eq_true, if_false]
    have h0 : 0 ≤ Lib.index l s := by omega
    rw [decide_eq_true (by omega), decide_eq_true h0]
def containsCall : Call := fun _ args lh => match args with
 | [.d (.str s), .d (.str t)] => if s.length < 4294967281 then some (.ret (.d (.bool (subB s t))) lh) else none
 | _ => none
theorem contains_ok {P : Program} {ρ : Shelf.Ren} (L : Go.Proofs.Lays.n144 P ρ) {m : Int} (htab : (ρ.g 1, [Value.int .i64 m]) ∈ Globs.tab) {args : List C} {lh : List (List C)} {r : CRes}
  (h : containsCall (ρ.f 144) args lh = some r) : CallOK P (ρ.f 144) args lh r := by
 unfold containsCall at h
 split at h
 ·rename_i s t
  split at h
  ·rename_i hl
   simp only [Option.some.injEq] at h; subst h
   refine callOK_below fun K μ w vs hr hbd hgl => ?_
   cases hr with
   | cons hc hn =>
    cases hn with
    | cons hs hn =>
     cases hn
     simp only [RepC, Rep] at hc hs; subst hc; subst hs
     have hm := (hgl _ htab 0 (.int .i64 m) (by simp)).2
     refine (Go.Proofs.Any.strings_Contains L ⟨s.toArray⟩ ⟨t.toArray⟩ m w (by show s.toArray.size < _; simpa using hl) hm).mono ?_
     rintro e w' ⟨rfl, rfl⟩
     exact ⟨⟨_, rfl, by simp [Rep, contains_eq]⟩, Go.RowKit.Below.refl _ _⟩
  ·simp at h
 ·simp at h
omit [Globs]
def fxVerbs : Str := [43, 45, 195, 151, 124, 126, 226, 141, 179, 226, 141, 180, 226, 137, 162, 44, 226, 138, 150, 226, 140, 189, 226, 141, 137, 226, 141, 139, 226, 141, 146, 226, 136, 170, 226, 138, 130, 226, 138, 131, 195, 183, 226, 140, 138, 226, 140, 136, 61, 226, 137, 160, 60, 62, 226, 137, 164, 226, 137, 165, 226, 134, 145, 226, 134, 147, 226, 141, 170, 226, 136, 138, 226, 140, 191, 47, 92, 226, 141, 128, 226, 140, 183, 226, 141, 168, 226, 141, 163, 226, 139, 132]
def fxOpen : Str := [40, 123, 91]
def fxShut : Str := [41, 125, 93]
def noLit : Arr := Arr.mk [] []
def tailS (s : Str) (at_ : Int) : Option (Token × Bool) :=
 if s.isEmpty then none else
 if subB fxVerbs s then some (Token.mk 4 s noLit at_, true) else
 if subB fxOpen s then some (Token.mk 5 s noLit at_, true) else
 if subB fxShut s then some (Token.mk 6 s noLit at_, true) else some (Token.mk 0 [] noLit 0, false)
theorem sub_mem {c : UInt8} {s : Str} : ∀ {l : Str}, subB l (c :: s) = true → c ∈ l
 | [], h => by simp [subB] at h
 | b :: l, h => by
  simp only [subB, Bool.or_eq_true] at h
  rcases h with h | h
  ·simp only [List.isPrefixOf, Bool.and_eq_true, beq_iff_eq] at h
   rw [h.1]; simp
  ·exact List.mem_cons_of_mem _ (sub_mem h)
theorem fx_apart : (∀ c ∈ fxOpen, c ∉ fxVerbs) ∧ (∀ c ∈ fxShut, c ∉ fxVerbs) ∧ (∀ c ∈ fxShut, c ∉ fxOpen) := by decide
theorem tailS_some {s : Str} {a : Int} {r : Token × Bool} (h : tailS s a = some r) : (subB fxVerbs s = true → r = (Token.mk 4 s noLit a, true)) ∧ (subB fxOpen s = true → r = (Token.mk 5 s noLit a, true)) ∧
  (subB fxShut s = true → r = (Token.mk 6 s noLit a, true)) ∧ (subB fxVerbs s = false → subB fxOpen s = false → subB fxShut s = false → r = (Token.mk 0 [] noLit 0, false)) := by
 cases s with
 | nil => simp [tailS] at h
 | cons c s =>
  obtain ⟨h1, h2, h3⟩ := fx_apart
  have e : ∀ {l : Str}, c ∉ l → subB l (c :: s) = false := fun hn => Bool.eq_false_iff.2 fun hh => hn (sub_mem hh)
  simp only [tailS, List.isEmpty_cons, Bool.false_eq_true, if_false] at h
  refine ⟨fun g => ?_, fun g => ?_, fun g => ?_, fun g g' g'' => ?_⟩
  ·rw [if_pos g] at h; exact (Option.some.inj h).symm
  ·have := e (h1 c (sub_mem g))
   rw [this, g] at h
   simpa using h.symm
  ·have q1 := e (h2 c (sub_mem g)); have q2 := e (h3 c (sub_mem g))
   rw [q1, q2, g] at h
   simpa using h.symm
  ·rw [g, g', g''] at h
   simpa using h.symm
end Go.AM

namespace Go.AM.Fx
open Go Go.AM
def firstN (c : Int) : Int × Int :=
 if c < 128 then (1, w64 c) else if c < 192 then (0, 0) else if c ≥ 248 then (0, 0)
 else if c < 224 then (2, w64 (IntKind.u8.wrap ((BitVec.ofInt 8 c &&& BitVec.ofInt 8 31).toNat)))
 else if c < 240 then (3, w64 (IntKind.u8.wrap ((BitVec.ofInt 8 c &&& BitVec.ofInt 8 15).toNat)))
 else (4, w64 (IntKind.u8.wrap ((BitVec.ofInt 8 c &&& BitVec.ofInt 8 7).toNat)))
def goodN (n : Int) : Bool := decide (n ≥ 0) && decide (n ≤ 1114111) && (decide (n < 55296) || decide (n > 57343))
def widthN (n : Int) : Int := if n < 128 then 1 else if n < 2048 then 2 else if n < 65536 then 3 else 4
def pushN (n : Int) (c : Int) : Int := w64 ((BitVec.ofInt 64 (w64 (n * 2 ^ 6)) ||| BitVec.ofInt 64 (w64 (IntKind.u8.wrap ((BitVec.ofInt 8 c &&& BitVec.ofInt 8 63).toNat)))).toNat)
def contN (c : Int) : Bool := (IntKind.u8.wrap ((BitVec.ofInt 8 c &&& BitVec.ofInt 8 192).toNat)) != 128
def contGo : List Int → Int → Except (Int × Int) Int
 | [], n => .ok n
 | c :: r, n => if contN c then .error (0, 0) else contGo r (pushN n c)
def oneRest (k : Int) : Except (Int × Int) Int → Int × Int
 | .error r => r
 | .ok n => if goodN n = false then (0, 0) else if widthN n ≠ k then (0, 0) else (n, k)
def oneN : List Int → Int × Int
 | [] => (0, 0)
 | c :: r => if (firstN c).1 = 0 then (0, 0) else if (firstN c).1 > (c :: r).length then (0, 0) else
  oneRest (firstN c).1 (contGo (r.take ((firstN c).1.toNat - 1)) (firstN c).2)
def fixedS (b : Str) (a : Int) : Option (Token × Bool) :=
 if 0 ≤ a ∧ a ≤ b.length ∧ b.length < 4294967296 then
  if List.isPrefixOf [226, 142, 149, 73, 79] (b.drop a.toNat) then some (Token.mk 3 [226, 142, 149, 73, 79] noLit a, true)
  else if List.isPrefixOf [226, 141, 186] (b.drop a.toNat) then some (Token.mk 3 [226, 141, 186] noLit a, true)
  else if List.isPrefixOf [226, 141, 181] (b.drop a.toNat) then some (Token.mk 3 [226, 141, 181] noLit a, true)
  else if List.isPrefixOf [226, 136, 152, 46] (b.drop a.toNat) then some (Token.mk 4 [226, 136, 152, 46] noLit a, true)
  else if List.isPrefixOf [226, 134, 144] (b.drop a.toNat) then some (Token.mk 7 [226, 134, 144] noLit a, true)
  else tailS ((b.drop a.toNat).take (oneN ((b.drop a.toNat).map u8I)).2.toNat) a
 else none
def fixedCall : Call := fun _ args lh => match args, lh with
 | [.ptr 0 0], [[.d (.str b), .d (.int .i64 a), .hid, .d (.int .i64 e), .d (.int .i64 a1), .d (.int .i64 y)]] =>
  (fixedS b a).map fun r => .ret (.tuple [.d (encToken r.1), .d (.bool r.2)]) [[.d (.str b), .d (.int .i64 a), .hid, .d (.int .i64 e), .d (.int .i64 a1), .d (.int .i64 y)]]
 | _, _ => none
end Go.AM.Fx

namespace Go.AM
open Go
inductive nrmQ (Q : AX → St → Prop) : AX → St → Prop where
 | mk {s : St} : Q .normal s → nrmQ Q .normal s
section
variable {X : Ctx} {f : Nat} {Q : AX → St → Prop} {tm tm' : List (Nat × V)} {hp hp' : List (Nat × List C)} {nid nid' : Nat} {df : List (Nat × List Nat)} {pn : Option D}
theorem evSeq_of {P : Program} {call : Call} {ops : Array Oper} : ∀ {l : List Oper} {s s' : St} {fs fs' : List Foot}, (∀ o ∈ l, o.guard = none) → evOps P call ops l s fs = some (.normal, s', fs') → evSeq P call l s = some s'
 | [], s, s', fs, fs', _, h => by
  simp only [evOps, Option.some.injEq, Prod.mk.injEq, true_and] at h
  rw [evSeq, h.1]
 | o :: l, s, s', fs, fs', hg, h => by
  have ho : wantedAt ops s.tmps o = some true := by simp only [wantedAt, hg o (by simp)]
  simp only [evOps, ho] at h
  split at h
  ·simp at h
  ·simp at h
  ·rename_i v s1 ft hev
   simp only [evSeq, hev]
   exact evSeq_of (fun o ho => hg o (by simp [ho])) h
theorem selfApp_of {P : Program} {call : Call} {ops : Array Oper} {s sD s1 s2 : St} {b off d4 sz : Nat} {o6 : Oper} {rest : List Oper} {v : V} {xs : List D} (hchk : selfChk ops = true) (hA : selfA P ops s = some (sD, b, off, d4, o6, rest)) (hC : evCallH P call b off o6 sD = some (v, s1))
  (hown : cellOwn s1.heap b off = some (sz, xs)) (hB : evSeq P call rest { putDst o6 v s1 with tmps := (d4, .view (.cell b off) sz xs) :: (putDst o6 v s1).tmps } = some s2) : selfApp P call ops s = some (.normal, s2) := by
 unfold selfA at hA
 split at hA
 ·rename_i hops
  split at hA
  ·rename_i hp ho4 hd4 hd6
   split at hA
   ·rename_i hx ht
    simp only [Option.some.injEq, Prod.mk.injEq] at hA
    obtain ⟨rfl, rfl, rfl, rfl, rfl, rfl⟩ := hA
    simp only [selfApp, hchk, hops, hp, ho4, hd4, hd6, hx, ht, hC, hown, hB]
   ·simp at hA
  ·simp at hA
 ·simp at hA
theorem selfA_guard {P : Program} {ops : Array Oper} {s sD : St} {b off d4 : Nat} {o6 : Oper} {rest : List Oper} (hchk : selfChk ops = true) (hA : selfA P ops s = some (sD, b, off, d4, o6, rest)) : ∀ o ∈ rest, o.guard = none := by
 unfold selfA at hA
 split at hA
 ·rename_i hops
  have hall : ∀ o ∈ ops.toList, o.guard = none := by
   unfold selfChk at hchk
   rw [hops] at hchk ⊢
   simp only [Bool.and_eq_true, List.all_eq_true, Option.isNone_iff_eq_none] at hchk
   exact hchk.1.1.1.1
  split at hA
  ·split at hA
   ·simp only [Option.some.injEq, Prod.mk.injEq] at hA
    obtain ⟨_, _, _, _, _, rfl⟩ := hA
    intro o ho
    refine hall o ?_
    rw [hops]
    simp only [List.mem_cons, List.not_mem_nil, or_false] at ho ⊢
    rcases ho with h | h | h | h | h <;> simp [h]
   ·simp at hA
  ·simp at hA
 ·simp at hA
theorem rself {id : Nat} {ops : Array Oper} {sD s1 : St} {b off d4 sz : Nat} {o6 : Oper} {rest : List Oper} {v : V} {xs : List D} (hc : (noF (X.H f id) && (X.H f id).contains 4999999) = true) (hchk : selfChk ops = true) (hA : keepK (X.H f id) tm (fun tm => selfA X.P ops ⟨tm, hp, nid, df, pn⟩) = some (sD, b, off, d4, o6, rest))
  (hC : Evt fun k => evCallH X.P (X.call k) b off o6 sD = some (v, s1)) (hown : cellOwn s1.heap b off = some (sz, xs)) (hst : { putDst o6 v s1 with tmps := (d4, .view (.cell b off) sz xs) :: (putDst o6 v s1).tmps } = (⟨tm', hp', nid', df, pn⟩ : St))
  (h : awpO X ops rest (nrmQ Q) ⟨tm', hp', nid', df, pn⟩) : awp X f (.region id ops true) Q ⟨tm, hp, nid, df, pn⟩ := by
 simp only [Bool.and_eq_true] at hc
 rw [keepK_eq] at hA
 have hg := selfA_guard hchk hA
 obtain ⟨x, s', h1, h2⟩ := h
 cases h2 with
 | mk h2 =>
  refine ⟨.normal, s', (hC.and h1).imp fun k ⟨p, q⟩ => ?_, h2⟩
  obtain ⟨fs', q⟩ := q []
  have hB := evSeq_of hg q
  rw [← hst] at hB
  simp only [aexec, frz_noF hc.1, if_true, hc.2]
  exact selfApp_of hchk hA p hown hB
theorem ecallh {o : Oper} {c : Go.Call} {fo : Operand} {g b off sz : Nat} {xs : List D} {cells cells' : List C} {ids : List Nat} {args args' args'' : List C} {lh lh' lh'' : List (List C)} {v v' : V} {hp1 hp2 hp3 : List (Nat × List C)} (hv : aval X g args'' lh (.ret v lh'))
  (ho : o.op = .call c) (hc : c.callee = .value fo) (hf : ev tm fo = some (.c (.fn g [])))
  (ha : argsT X.P tm c.args.toList c.argTypes.toList = some args) (hb0 : look b hp = some cells) (hc0 : cells[off]? = some (.own sz xs)) (h1 : upd b (cells.set off .hid) hp = hp1) (hr : reach hp1 64 (args.flatMap C.ids) [] = some ids) (hi : mapM? (C.into ids) args = some args')
  (hst : args'.map C.still = args'') (hH : (X.H g 999999).isEmpty = true)
  (hb : blksInto hp1 ids = some lh) (hk : mapM? (mapM? (C.back (ids ++ idsFrom nid (lh'.length - ids.length)))) lh' = some lh'') (hv' : V.back (ids ++ idsFrom nid (lh'.length - ids.length)) v = some v') (hn : nid + (lh'.length - ids.length) = nid')
  (h2 : putBlks (ids ++ idsFrom nid (lh'.length - ids.length)) lh'' hp1 = hp2) (hb2 : look b hp2 = some cells') (hc2 : cells'[off]? = some .hid) (h3 : upd b (cells'.set off (.own sz xs)) hp2 = hp3) (ht : unview (.cell b off) (unviewIn (ids ++ idsFrom nid (lh'.length - ids.length)) tm) = tm') :
  Evt fun k => evCallH X.P (X.call k) b off o ⟨tm, hp, nid, df, pn⟩ = some (v', ⟨tm', hp3, nid', df, pn⟩) := by
 subst hn hst h1 h2 h3 ht
 exact (aval_still hv hH).imp fun k p => by
  simp only [evCallH, ho, hc, hf, ha, doCallH, hb0, hc0, doCall, hr, hi, hb, p, hk, hv', hb2, hc2]
end
end Go.AM

namespace Go.AM.Seat
open Go Go.AM Go.Proofs
set_option maxRecDepth 100000
structure Grammar_parser where
  g : Grammar
  l : (List Token)
  i : Int
  end_ : Int
  deep : Int
  in_ : Int
  deriving Inhabited
structure Spell_writer where
  g : Grammar
  out : (List Str)
  right : Str
  nodes : Int
  bad : Bool
  deriving Inhabited
def h5 : Nat → List Nat | 0 => [0] | 1 => [0] | 3 => [0] | 4 => [3, 4] | 6 => [3, 4] | 7 => [3, 4, 5, 6] | 9 => [3, 4, 5] | 10 => [3, 4, 5, 7] | 11 => [3, 4, 5, 6, 7, 8] | _ => []
def h14 : Nat → List Nat | 0 => [0] | 1 => [0, 2, 3] | 2 => [0, 2, 3, 4, 5] | 3 => [2, 3, 5] | 4 => [0, 2, 3, 4, 5] | 5 => [0, 2, 3, 4, 5, 6] | 6 => [0, 2, 3, 4, 5, 6, 7, 8] | 7 => [2, 3, 5] | 8 => [0, 2, 3, 4, 5, 6, 7, 8] | 9 => [0, 2, 3, 4, 5, 6] | 10 => [0, 2, 3, 4, 5, 6] | 11 => [0, 2, 3, 4, 5, 6] | 12 => [2, 3, 5, 6] | 13 => [2, 3, 5] | 14 => [2, 3, 6] | 2000010 => [0, 0, 2, 3, 4, 5, 6] | _ => []
def h15 : Nat → List Nat | 0 => [0] | 1 => [1] | 3 => [1] | 4 => [1, 4, 5] | 5 => [5] | 6 => [1, 4] | 7 => [1, 4] | 8 => [1, 4] | 9 => [1, 4] | 10 => [1, 4] | 11 => [1, 4, 6, 7] | 13 => [4] | 2000007 => [0, 1, 4] | 2000009 => [0, 1, 4] | _ => []
def h16 : Nat → List Nat | 0 => [0, 1] | 1 => [2, 3] | _ => []
def h17 : Nat → List Nat | 1 => [0] | _ => []
def h20 : Nat → List Nat | 0 => [0] | 1 => [0] | 2 => [0, 6, 7] | 3 => [0, 6, 7] | 4 => [0, 3, 6, 7] | 5 => [0, 3, 4, 6, 7] | 7 => [0, 6, 7] | 8 => [0] | 1000000 => [0, 0] | 1000001 => [0, 0, 6, 7] | _ => []
def h21 : Nat → List Nat | 0 => [0, 1, 2] | 1 => [1, 2, 3, 6, 7] | 2 => [1, 2, 3, 6, 7] | 3 => [1, 6, 7, 8] | 4 => [1, 6, 7, 8] | 5 => [6, 7, 8] | 6 => [6, 7] | 2000005 => [0, 6, 7] | _ => []
def h22 : Nat → List Nat | 0 => [0, 1] | 1 => [2, 3] | 2 => [3, 6] | 3 => [6] | 5 => [6] | _ => []
def h24 : Nat → List Nat | 0 => [0, 1] | 1 => [2, 3] | 3 => [2, 3] | 4 => [2, 3, 44, 45] | 5 => [2, 3, 44, 45] | 6 => [2, 3, 5, 44, 45] | 8 => [2, 3, 44, 45] | 1000000 => [0] | _ => []
def h25 : Nat → List Nat | 0 => [0, 1] | 1 => [2, 3] | 3 => [2, 3] | 4 => [2, 3, 5] | 5 => [2, 3, 5] | 6 => [2, 3, 5] | 1000000 => [0] | _ => []
def h26 : Nat → List Nat | 0 => [0] | 1 => [0, 3] | 2 => [3] | 3 => [0, 3] | 4 => [0, 3, 4] | 5 => [0, 3, 4] | 6 => [0, 3, 4] | 7 => [0, 3, 4] | 8 => [3, 4] | 9 => [0, 3, 4] | 10 => [3, 4] | 11 => [4999999, 0, 3, 4] | 12 => [3, 4] | 13 => [3, 4] | 14 => [3, 4] | 1000000 => [0, 3, 4] | _ => []
def h27 : Nat → List Nat | 0 => [0, 1] | 1 => [0, 1, 6] | 2 => [6] | 3 => [0, 1, 6] | 4 => [0, 1, 6, 20, 21, 22] | 5 => [0, 1, 6, 20, 21, 22] | 6 => [0, 1, 6, 7, 8, 20, 21, 22] | 7 => [1, 6] | 8 => [0, 1, 6, 7, 8, 20, 21, 22] | 9 => [0, 6, 7] | 10 => [0, 1, 6, 20, 21, 22] | 11 => [0, 6] | _ => []
def h32 : Nat → List Nat | 0 => [0, 1] | 1 => [0, 1, 2] | 2 => [0, 1, 2] | 3 => [0, 1, 2, 3, 4] | 4 => [0, 1, 2, 3] | 5 => [0, 1, 3] | _ => []
def h33 : Nat → List Nat | 0 => [0] | 1 => [1, 2] | 2 => [1, 2] | 3 => [1, 2] | 4 => [1, 2, 3] | 5 => [1, 2, 3] | 6 => [1, 2, 3, 4] | 7 => [1, 2, 3] | 8 => [1, 2, 3, 5] | 9 => [2, 5] | 10 => [1, 2, 3, 5] | 11 => [1, 2, 3, 5] | 12 => [1, 2, 3, 5] | 13 => [1, 2, 3, 5, 6] | 14 => [1, 2, 3, 5, 6, 7] | 15 => [1, 2, 3, 5, 6, 7] | 16 => [1, 2, 3, 6, 7, 8, 9] | 17 => [1, 2, 3, 6, 7, 8] | 18 => [1, 2, 3, 7, 8] | 19 => [1, 2, 3, 7] | 20 => [1, 2, 3, 5, 7] | 1000000 => [0, 1, 2, 3, 5] | 2000017 => [0, 1, 2, 3, 7, 8] | _ => []
def h34 : Nat → List Nat | 0 => [0, 1, 2] | 1 => [0, 1, 2, 6] | 2 => [0, 1, 2] | 3 => [1, 6] | 2000002 => [0, 1, 6] | _ => []
def h35 : Nat → List Nat | 0 => [0, 1] | 1 => [0, 3] | 2 => [0, 3] | 3 => [0, 3, 5] | 4 => [0, 3] | 5 => [0, 3] | 6 => [0, 3] | 7 => [0, 3, 5] | 8 => [0, 3] | 9 => [0, 3] | 10 => [0, 3] | 11 => [0, 3] | _ => []
def h37 : Nat → List Nat | 0 => [0, 1] | 1 => [2, 3] | _ => []
def h38 : Nat → List Nat | 0 => [0, 1] | 1 => [2, 3] | 2 => [2, 3, 5] | 3 => [2, 3, 5, 6] | 4 => [2, 3, 5, 6] | 5 => [2, 3, 6] | 6 => [2, 3, 5] | 7 => [2, 3, 5, 7] | 8 => [2, 3, 5, 7] | 9 => [2, 3, 7] | 10 => [2, 3, 5] | 11 => [2, 3] | 12 => [5] | 1000000 => [0, 2, 3, 5] | 1000002 => [0, 2, 3, 5] | 2000011 => [0, 5] | _ => []
def h39 : Nat → List Nat | 0 => [0, 1] | 1 => [0, 1] | _ => []
def h40 : Nat → List Nat | 0 => [0] | 1 => [0, 2] | 2 => [0, 2, 4] | 3 => [0, 2] | 4 => [2] | 5 => [0, 2] | 6 => [0, 2, 5] | 7 => [0, 2] | 8 => [0, 2, 5] | 9 => [0, 2] | 10 => [0, 2, 5] | 11 => [0, 2] | 12 => [0, 2] | 13 => [0, 2, 6, 7] | 14 => [0, 2, 6] | 15 => [0, 2, 6] | 16 => [2, 6] | 2000014 => [0, 0, 2, 6] | _ => []
def h41 : Nat → List Nat | 0 => [0] | _ => []
def h42 : Nat → List Nat | 0 => [0] | 1 => [1] | _ => []
def h43 : Nat → List Nat | 0 => [0] | 1 => [1] | _ => []
def h44 : Nat → List Nat | 0 => [0] | 1 => [1] | _ => []
def h45 : Nat → List Nat | 0 => [0] | 1 => [0] | 3 => [0] | 4 => [0, 4, 5] | 6 => [0, 4, 5] | 7 => [4, 5, 28, 29, 30] | 8 => [4, 5, 28, 29, 30] | 9 => [4, 5, 7, 28, 29, 30] | 11 => [4, 5, 7, 28, 29, 30] | 12 => [4, 5, 28, 29, 30] | 13 => [4, 5] | 15 => [4, 5] | 1000000 => [0, 4, 5] | _ => []
def h54 : Nat → List Nat | 0 => [0] | 1 => [0] | 2 => [0] | _ => []
def h55 : Nat → List Nat | 0 => [0] | _ => []
def h56 : Nat → List Nat | 0 => [0] | 1 => [0] | 2 => [0] | 3 => [0] | _ => []
def h57 : Nat → List Nat | 0 => [0, 1, 2] | 1 => [0, 1, 2] | 2 => [0, 1] | 3 => [0, 1] | 5 => [0, 1, 2] | 6 => [0, 1] | 7 => [0, 1, 2] | 8 => [0, 1] | 9 => [0, 1] | 11 => [0, 1] | 12 => [0, 1, 2] | 13 => [0, 1, 2] | 14 => [0, 1] | 16 => [0, 1] | 17 => [0, 1] | 18 => [0, 1] | 19 => [0, 1, 8] | 20 => [0, 1] | 21 => [1] | 1000000 => [0, 0, 1] | 1000001 => [0, 6] | 2000002 => [0, 0, 1, 2] | _ => []
def h58 : Nat → List Nat | 0 => [0, 1] | 1 => [1, 2, 4] | 2 => [1, 2, 4] | 3 => [1, 2, 4] | 4 => [1, 2, 4, 5] | 5 => [1, 2, 4, 5, 6] | 6 => [2, 4, 5, 6] | 7 => [2, 4, 5, 6] | 8 => [1, 2, 4, 5, 6] | 9 => [2, 4, 5, 6, 7] | 10 => [2, 4, 5, 7] | 11 => [2, 4, 5, 7, 6015003, 6015004] | 12 => [2, 4, 5, 7] | 13 => [2, 4, 5, 7] | 14 => [2, 4, 5, 7] | 15 => [2, 4, 5, 7, 8, 9] | 16 => [2, 4, 5, 7, 8] | 17 => [2, 4, 5, 7] | 18 => [4, 7] | 1000000 => [0, 4] | 2000006 => [0, 1, 2, 4, 5, 6] | 2000010 => [0, 2, 4, 5, 7, 6015003, 6015004] | _ => []
def h59 : Nat → List Nat | 0 => [0] | 1 => [0, 2] | 2 => [0, 2] | 3 => [0, 2] | 4 => [0, 2, 3] | 5 => [0, 2, 3, 4] | 6 => [0, 2, 3, 4] | 7 => [0, 2, 3, 4] | 8 => [0, 2, 3, 4] | 9 => [0, 2, 3, 4] | 10 => [0, 2, 3, 4] | 11 => [0, 2, 3, 4] | 12 => [0, 2, 3, 4] | 13 => [0, 2, 3, 4] | 14 => [0, 2, 3, 4] | 15 => [0, 2, 3, 4] | 16 => [0, 2, 3, 4] | 17 => [0, 2, 3, 4] | 18 => [0, 2, 3, 4] | 19 => [0, 2, 3, 4] | 20 => [0, 2, 3, 4] | 21 => [0, 2, 3, 4] | 22 => [0, 2, 3, 4, 6024003, 6024004] | 23 => [0, 2, 3, 4] | 24 => [0, 2, 3, 4] | 25 => [0, 2, 3, 4, 5] | 26 => [0, 2, 3, 4, 5] | 27 => [2, 4] | 1000000 => [0, 0, 2, 3, 4, 6024003, 6024004, 6024005] | 1000001 => [0, 2, 4] | 2000002 => [0, 0, 2] | _ => []
def h60 : Nat → List Nat | 0 => [0] | 1 => [1] | 3 => [1] | _ => []
def h61 : Nat → List Nat | 0 => [0, 1, 2] | 1 => [0, 2, 4] | 2 => [0, 2, 4] | 3 => [0] | _ => []
def h62 : Nat → List Nat | 0 => [0, 1] | 1 => [0, 3] | 2 => [0, 3] | 3 => [0, 3] | 4 => [0, 3] | 5 => [0] | 6 => [0, 3] | 2000003 => [0] | _ => []
def h63 : Nat → List Nat | 0 => [0, 1] | 1 => [0, 3] | 2 => [0] | 3 => [0, 3, 7] | 4 => [0, 3] | 5 => [0, 3, 4, 5] | 6 => [0, 3, 4] | 7 => [0, 4] | 8 => [0, 3, 7] | 9 => [0, 3] | 10 => [0, 3] | 11 => [0, 3, 7] | 12 => [0, 3] | 13 => [0] | 14 => [0, 3, 7] | 15 => [0, 3] | 16 => [0] | 17 => [0, 3, 7] | 18 => [0, 3] | 19 => [0, 3] | 20 => [0, 3] | 21 => [0, 3] | 22 => [0] | 23 => [0, 3, 7] | 24 => [0, 3, 7] | 25 => [0, 3] | 26 => [0, 3] | 27 => [0] | 2000024 => [0, 0, 3, 99] | _ => []
def h64 : Nat → List Nat | 0 => [0, 1] | 1 => [0, 3] | 2 => [0, 3] | 3 => [0, 3] | 4 => [0] | 5 => [0, 3] | _ => []
def h68 : Nat → List Nat | 0 => [0, 1] | 1 => [2, 3] | 2 => [2, 3, 5] | 3 => [2, 3, 5, 6] | 4 => [6] | 5 => [2, 3, 5] | 6 => [2, 3, 5, 7] | 7 => [7] | 8 => [2, 3, 5] | 9 => [2, 3, 8] | 10 => [8] | 11 => [2, 3] | _ => []
def h69 : Nat → List Nat | 0 => [0, 1] | 1 => [0, 1] | 3 => [0, 1] | _ => []
def h70 : Nat → List Nat | 0 => [0, 1] | 1 => [2, 3] | 2 => [2, 3, 5] | 3 => [2, 3] | 4 => [2, 3, 5] | 5 => [2, 3] | 6 => [2, 3, 5] | 7 => [2, 3] | 8 => [5] | 2000003 => [0, 2, 3, 5] | 2000007 => [0, 5] | _ => []
def h71 : Nat → List Nat | 0 => [0, 1] | 1 => [0, 1] | _ => []
def h72 : Nat → List Nat | 0 => [0, 1, 2] | 1 => [0, 1, 2] | _ => []
def h73 : Nat → List Nat | 0 => [0, 1] | 1 => [0, 1] | 2 => [0, 1] | _ => []
def h74 : Nat → List Nat | 0 => [0] | 1 => [0] | 2 => [0, 3, 4] | _ => []
def h75 : Nat → List Nat | 0 => [0] | 1 => [0, 2] | 2 => [0, 2, 3] | 3 => [0, 2, 3, 4] | 4 => [0, 2, 3, 4] | 5 => [0, 2, 3, 4, 5] | 6 => [0, 2, 3, 4, 5] | 7 => [0, 2, 3, 4, 5] | 8 => [0, 2, 3, 4, 5] | 9 => [0, 2, 3, 4] | 10 => [2, 3, 4] | 11 => [2, 3, 4] | 12 => [2, 3, 4] | 13 => [2, 3] | 1000000 => [0, 2, 3, 4] | 1000002 => [0, 0, 2, 3, 4, 5] | 2000012 => [0, 2, 3] | _ => []
def h76 : Nat → List Nat | 0 => [0] | 1 => [0, 2] | 2 => [0, 2, 3] | 3 => [0, 2, 3, 4] | 4 => [0, 2, 3, 4] | 5 => [0, 2, 3] | 6 => [2, 3] | 7 => [0, 2, 3, 4] | 8 => [0, 2, 3, 4, 5, 6] | 9 => [0, 2, 3] | 10 => [2, 3] | 11 => [0, 2, 3, 4, 5, 6] | 12 => [0, 2, 3, 4] | 13 => [2, 3, 4] | 14 => [2, 3] | 15 => [0, 2, 3, 4, 5, 6] | 16 => [0, 2, 3, 4, 5] | 17 => [0, 2, 3, 4, 5, 6] | 18 => [0, 2, 3] | 19 => [2, 3] | 20 => [0, 2, 3, 4, 5, 6] | 1000000 => [0, 2] | 1000002 => [0, 0, 2, 3, 4, 5, 6] | _ => []
def h77 : Nat → List Nat | 0 => [0] | 1 => [0] | _ => []
def h78 : Nat → List Nat | 0 => [0] | 1 => [0, 2] | 2 => [0, 2, 3] | 3 => [0, 2, 3] | 4 => [0, 2, 3] | 5 => [0, 2, 3, 4] | 6 => [0, 2, 3, 4] | 7 => [0, 2, 3, 4] | 8 => [2, 4] | 1000000 => [0, 0, 2, 3] | 2000006 => [0, 0, 2, 3, 4] | _ => []
def h80 : Nat → List Nat | 0 => [0] | 1 => [0] | 2 => [0] | 3 => [0] | 4 => [0] | 5 => [0] | 6 => [0] | 8 => [0] | 9 => [0] | 10 => [0] | _ => []
def h81 : Nat → List Nat | 0 => [0] | 1 => [0] | _ => []
def h82 : Nat → List Nat | 0 => [0, 1] | 1 => [0, 1] | 2 => [0, 1] | 3 => [0, 1] | 4 => [0, 1] | 5 => [0, 1] | 6 => [0, 1] | 7 => [0, 1] | 999999 => [1] | _ => []
def h86 : Nat → List Nat | 0 => [0] | 1 => [0, 2] | _ => []
def h87 : Nat → List Nat | 0 => [0] | 1 => [0, 2] | 2 => [0, 2, 3] | 3 => [2, 3, 10, 11, 12] | 4 => [2, 3, 10, 11, 12] | 5 => [2, 3, 5, 10, 11, 12] | 6 => [2, 3, 10, 11, 12] | 7 => [2, 3] | 1000000 => [0, 2, 3] | _ => []
def h88 : Nat → List Nat | 0 => [0] | 1 => [0, 2] | 2 => [0, 2, 3] | 3 => [0, 2, 3] | 4 => [0, 2, 3] | 5 => [2, 3, 14, 15, 16] | 6 => [2, 3, 14, 15, 16] | 7 => [2, 3, 5, 14, 15, 16] | 8 => [2, 3, 14, 15, 16] | 9 => [2, 3] | 1000000 => [0, 2, 3] | 2000003 => [0, 0, 2, 3, 6001000] | _ => []
def h90 : Nat → List Nat | 0 => [0, 1, 2, 3] | 1 => [0, 1, 2, 3] | _ => []
def h91 : Nat → List Nat | 0 => [0, 1, 2] | 1 => [0, 1, 2] | _ => []
def h92 : Nat → List Nat | 0 => [0, 1] | 1 => [0, 1] | 2 => [0, 1, 5] | 3 => [0, 5, 6] | 4 => [0, 5, 6] | 5 => [0, 5, 6] | 6 => [0, 5, 6, 24] | 7 => [0, 5, 6] | 8 => [0, 5, 6, 24] | 9 => [0, 5, 6] | 10 => [0, 5, 6] | 11 => [6] | 1000000 => [0] | 1000001 => [0, 0, 5, 6] | _ => []
def h93 : Nat → List Nat | 0 => [0, 1, 2] | 1 => [0, 1, 2] | 2 => [0, 1, 2, 7] | 3 => [0, 1, 2, 7] | 4 => [0, 1, 2, 7] | 5 => [0, 1, 2, 7] | 7 => [0, 1, 2, 7] | 8 => [0, 1, 7] | 9 => [1] | 1000000 => [0, 0, 1, 7] | _ => []
def h94 : Nat → List Nat | 0 => [0, 1] | 1 => [0, 1] | 3 => [0, 1] | _ => []
def h95 : Nat → List Nat | 0 => [0] | _ => []
def h96 : Nat → List Nat | 0 => [0, 1] | 1 => [0, 1, 4] | 2 => [0, 1, 4, 5] | 3 => [0, 4] | 4 => [0, 1, 4, 5] | 5 => [0, 1, 4, 5] | 6 => [0, 1, 4, 5] | 7 => [0, 1, 4, 5, 6] | 8 => [0, 1, 4, 5, 6] | 9 => [0, 4, 5, 6] | 10 => [4, 5, 6] | 11 => [4, 5, 6, 59] | 12 => [4, 6] | 13 => [4, 5, 6, 59] | 14 => [4, 5, 6] | 15 => [4, 5, 6] | 16 => [0, 4, 5] | 17 => [0, 4, 7] | 18 => [4, 7] | 1000001 => [0, 0, 4, 5, 6] | _ => []
def h97 : Nat → List Nat | 0 => [0, 1, 2] | 1 => [0] | 2 => [0] | 2000001 => [0, 0] | _ => []
def h98 : Nat → List Nat | 0 => [0, 1] | 1 => [0, 6, 7, 8] | 2 => [0, 6, 7, 8] | 3 => [0, 5, 6, 7, 8] | 4 => [0, 5, 6, 7, 8] | 5 => [0, 5, 6, 7, 8] | 6 => [0, 6, 7, 8] | 1000000 => [0] | 2000004 => [0, 0, 5, 6, 7, 8] | _ => []
def h99 : Nat → List Nat | 0 => [0, 1] | 1 => [0, 1] | 2 => [0, 1] | 3 => [0] | _ => []
def h100 : Nat → List Nat | 0 => [0, 1] | 1 => [0, 3] | 2 => [0, 3, 4] | 3 => [0, 3] | 4 => [0] | 5 => [0, 3, 18] | 6 => [0, 3] | 7 => [0, 3, 18] | 8 => [0, 3, 18] | 9 => [0, 3] | 10 => [0, 3, 18] | 11 => [0, 3] | 12 => [0, 3] | 13 => [0, 3, 18] | 14 => [0, 3] | 15 => [0, 3] | 16 => [0, 3] | 17 => [0, 3, 18] | 18 => [0, 3] | 19 => [0, 3] | 20 => [0, 3, 18] | 21 => [0, 3, 18] | 22 => [0, 3] | 23 => [0, 3] | 24 => [0, 107, 108, 109] | 25 => [0, 107, 108, 109] | 26 => [0, 6, 107, 108, 109] | 27 => [0, 107, 108, 109] | 28 => [0] | 1000001 => [0, 0] | 2000008 => [0, 0, 3, 18, 29] | 2000021 => [0, 0, 3, 100] | _ => []
def h101 : Nat → List Nat | 0 => [0, 1] | _ => []
def h102 : Nat → List Nat | 0 => [0, 1] | 1 => [2, 3] | 3 => [2, 3] | 4 => [2, 3, 6] | 5 => [2, 3, 6] | 6 => [3, 6, 29, 30, 31] | 7 => [3, 6, 29, 30, 31] | 8 => [3, 6, 8, 29, 30, 31] | 9 => [3, 6, 29, 30, 31] | 10 => [6] | 11 => [2, 3, 6] | 12 => [3, 6, 47, 48, 49] | 13 => [3, 6, 47, 48, 49] | 14 => [3, 6, 10, 47, 48, 49] | 15 => [3, 6, 11, 47, 48, 49] | 16 => [3, 6, 47, 48, 49] | 17 => [3, 6] | 1000000 => [0, 6] | 1000002 => [0, 3, 6] | _ => []
def h105 : Nat → List Nat | 0 => [0, 1] | 1 => [0, 1] | 2 => [1, 7, 8] | 3 => [1, 7, 8] | 4 => [1, 5, 7, 8] | 5 => [1, 6, 7, 8] | 6 => [6] | 7 => [1, 7, 8] | 1000000 => [0] | _ => []
def h106 : Nat → List Nat | 0 => [0, 1] | 1 => [0, 1] | 3 => [0, 1] | _ => []
def h107 : Nat → List Nat | 0 => [0, 1, 2] | 1 => [0, 1, 2] | _ => []
def h108 : Nat → List Nat | 0 => [0, 1, 2] | 1 => [0, 1, 2] | _ => []
def h109 : Nat → List Nat | 0 => [0, 1] | 1 => [2, 3] | 2 => [2, 3, 5] | 3 => [5] | 4 => [2, 3] | 5 => [2, 3, 6] | 6 => [2, 3, 6] | 7 => [2, 3] | 8 => [6] | 9 => [2, 3] | _ => []
def h110 : Nat → List Nat | 0 => [0, 1] | 1 => [0, 1] | _ => []
def h111 : Nat → List Nat | 0 => [0] | 1 => [0] | _ => []
def h112 : Nat → List Nat | 0 => [0] | 1 => [0] | 2 => [0, 3] | 3 => [0, 3, 4, 5] | 4 => [0, 3, 4, 5] | 5 => [0, 3, 4, 5] | 6 => [0, 3, 4, 5, 6, 7] | 7 => [0, 3, 4, 5, 6, 7, 8] | 8 => [0, 3, 4, 5, 6, 7, 8] | 9 => [0, 3, 4, 5, 6, 7, 8, 9] | 10 => [0, 3, 4, 5, 6, 7, 8, 9] | 11 => [0, 3, 5, 6, 7, 8] | 12 => [0, 3, 5, 6, 7] | 13 => [0, 3] | 15 => [5, 6] | 16 => [6] | 17 => [6] | 1000000 => [0, 0, 3, 5, 6, 7, 8] | 1000002 => [0, 6] | 2000004 => [0, 0, 3, 4, 5] | _ => []
def h116 : Nat → List Nat | 0 => [0, 1] | 1 => [0, 1] | _ => []
def h117 : Nat → List Nat | 0 => [0] | 1 => [0, 2] | 2 => [0, 2, 3] | 3 => [0, 2, 3, 4] | 4 => [0, 2, 3, 4] | 5 => [0, 2, 3, 4] | 6 => [0, 2, 3, 4, 5] | 7 => [0, 2, 3, 4, 5] | 8 => [0, 2, 3, 4, 5] | 9 => [0, 2, 3, 4, 5, 6, 7] | 10 => [2, 4, 5] | 11 => [0, 2, 3, 4, 5, 6, 7] | 12 => [0, 2, 3, 4, 5] | 13 => [2, 4, 5] | 1000000 => [0, 2, 4, 5] | _ => []
def h118 : Nat → List Nat | 0 => [0] | 1 => [0] | 2 => [0, 3] | 3 => [0] | 4 => [0, 3] | 2000003 => [0, 0, 3] | _ => []
def h119 : Nat → List Nat | 0 => [0, 1] | 1 => [0, 3] | 2 => [0, 3, 4] | 3 => [0, 3, 4] | 4 => [0, 3, 4] | 5 => [0, 3, 4] | 6 => [0, 3, 4] | 7 => [0, 4] | 8 => [0, 4] | 2000004 => [0, 0, 3, 4] | _ => []
def h120 : Nat → List Nat | 0 => [0, 1] | 1 => [0, 3] | 2 => [0, 3] | 3 => [0, 3] | 4 => [0] | 5 => [0, 3, 5] | 6 => [0, 3, 5] | 7 => [0, 3, 5] | 8 => [0, 3, 5] | 9 => [0, 3, 5] | 10 => [0, 3] | 2000006 => [0, 0, 3, 15] | _ => []
def h121 : Nat → List Nat | 0 => [0] | 1 => [1] | 3 => [1] | 4 => [1, 27, 28, 29] | 5 => [1, 27, 28, 29] | 6 => [1, 4, 27, 28, 29] | 8 => [1, 27, 28, 29] | 1000000 => [0] | 1000001 => [0, 1, 27, 28, 29] | _ => []
def h122 : Nat → List Nat | 0 => [0] | 1 => [0] | 2 => [0, 4] | 3 => [4, 7, 8, 9, 5000004] | 4 => [4, 7, 8, 9] | 5 => [4, 6, 7, 8, 9] | 7 => [4, 6, 7, 8, 9] | 8 => [4, 7, 8, 9] | 9 => [4] | 1000000 => [0, 4] | _ => []
def h123 : Nat → List Nat | 0 => [0, 1] | 1 => [0, 3] | 3 => [0, 3] | 4 => [0] | 5 => [0] | 1000000 => [0, 0] | _ => []
def h126 : Nat → List Nat | 0 => [0, 1] | 1 => [0, 1] | 3 => [0, 1] | _ => []
def h127 : Nat → List Nat | 0 => [0, 1] | 1 => [0, 1] | 2 => [0] | 3 => [0, 1] | _ => []
def h134 : Nat → List Nat | 0 => [0, 1] | 1 => [0, 1] | 2 => [0, 1, 7, 8] | 3 => [0, 1, 7, 8] | 4 => [0, 1, 5, 7, 8] | 5 => [5] | 6 => [0, 1, 7, 8] | 1000000 => [0] | _ => []
def h135 : Nat → List Nat | 0 => [0, 1] | 1 => [2, 3] | 3 => [2, 3] | _ => []
def h136 : Nat → List Nat | 0 => [0] | 1 => [1, 2] | 2 => [1, 2] | 3 => [1, 2] | 4 => [1, 2] | 5 => [1, 2] | 6 => [1, 2, 3] | 7 => [1, 2, 3] | 8 => [1, 2, 22, 23, 24] | 9 => [1, 2, 22, 23, 24] | 10 => [1, 2, 5, 22, 23, 24] | 11 => [1, 2, 22, 23, 24] | 12 => [1, 2] | 1000000 => [0, 1, 2] | 2000002 => [0, 1, 2] | _ => []
def h137 : Nat → List Nat | 0 => [0] | 1 => [1] | _ => []
def h142 : Nat → List Nat | 0 => [0, 1] | 1 => [0, 1] | _ => []
def h143 : Nat → List Nat | 0 => [0, 1] | 1 => [1, 2] | _ => []
def h144 : Nat → List Nat | 0 => [0, 1] | 1 => [1, 2] | 2 => [1, 2, 5, 6] | 3 => [6] | 4 => [1, 2, 5] | 6 => [1, 2] | 7 => [1, 2, 27, 28, 29] | 8 => [1, 2, 27, 28, 29] | 9 => [1, 2, 8, 27, 28, 29] | 11 => [1, 2, 27, 28, 29] | 12 => [1, 2] | 13 => [1, 37, 38, 39] | 14 => [1, 37, 38, 39] | 15 => [1, 10, 37, 38, 39] | 16 => [1, 10, 37, 38, 39] | 18 => [1, 10, 37, 38, 39] | 19 => [1, 11, 37, 38, 39] | 20 => [11] | 21 => [1, 10, 37, 38, 39] | 23 => [1, 37, 38, 39] | 1000000 => [0, 1, 2] | 1000002 => [0] | 1000003 => [0, 1, 37, 38, 39] | _ => []
def h146 : Nat → List Nat | 0 => [0, 1] | 1 => [0, 1] | 2 => [0, 1, 7, 8] | 3 => [0, 1, 7, 8] | 4 => [0, 1, 5, 7, 8] | 5 => [5] | 6 => [0, 1, 7, 8] | 1000000 => [0] | _ => []
def h147 : Nat → List Nat | 0 => [0] | 1 => [0] | 3 => [0] | 4 => [0, 4, 5] | 5 => [0, 4, 5, 13, 14, 15] | 6 => [0, 4, 5, 13, 14, 15] | 7 => [0, 4, 5, 7, 13, 14, 15] | 9 => [0, 4, 5, 7, 13, 14, 15] | 10 => [0, 4, 5, 13, 14, 15] | 11 => [0, 4, 5] | 13 => [0, 4] | 14 => [4, 28, 29, 30] | 15 => [4, 28, 29, 30] | 16 => [4, 9, 28, 29, 30] | 18 => [4, 9, 28, 29, 30] | 19 => [4, 28, 29, 30] | 20 => [4] | 1000000 => [0, 0, 4, 5] | 1000001 => [0, 0, 4, 5, 13, 14, 15] | 1000002 => [0, 4] | _ => []
def h148 : Nat → List Nat | 0 => [0] | 1 => [0] | _ => []
def H : Nat → Nat → List Nat
  | 5 => h5
  | 14 => h14
  | 15 => h15
  | 16 => h16
  | 17 => h17
  | 20 => h20
  | 21 => h21
  | 22 => h22
  | 24 => h24
  | 25 => h25
  | 26 => h26
  | 27 => h27
  | 32 => h32
  | 33 => h33
  | 34 => h34
  | 35 => h35
  | 37 => h37
  | 38 => h38
  | 39 => h39
  | 40 => h40
  | 41 => h41
  | 42 => h42
  | 43 => h43
  | 44 => h44
  | 45 => h45
  | 54 => h54
  | 55 => h55
  | 56 => h56
  | 57 => h57
  | 58 => h58
  | 59 => h59
  | 60 => h60
  | 61 => h61
  | 62 => h62
  | 63 => h63
  | 64 => h64
  | 68 => h68
  | 69 => h69
  | 70 => h70
  | 71 => h71
  | 72 => h72
  | 73 => h73
  | 74 => h74
  | 75 => h75
  | 76 => h76
  | 77 => h77
  | 78 => h78
  | 80 => h80
  | 81 => h81
  | 82 => h82
  | 86 => h86
  | 87 => h87
  | 88 => h88
  | 90 => h90
  | 91 => h91
  | 92 => h92
  | 93 => h93
  | 94 => h94
  | 95 => h95
  | 96 => h96
  | 97 => h97
  | 98 => h98
  | 99 => h99
  | 100 => h100
  | 101 => h101
  | 102 => h102
  | 105 => h105
  | 106 => h106
  | 107 => h107
  | 108 => h108
  | 109 => h109
  | 110 => h110
  | 111 => h111
  | 112 => h112
  | 116 => h116
  | 117 => h117
  | 118 => h118
  | 119 => h119
  | 120 => h120
  | 121 => h121
  | 122 => h122
  | 123 => h123
  | 126 => h126
  | 127 => h127
  | 134 => h134
  | 135 => h135
  | 136 => h136
  | 137 => h137
  | 142 => h142
  | 143 => h143
  | 144 => h144
  | 146 => h146
  | 147 => h147
  | 148 => h148
  | _ => fun _ => []
def g13 : Nat → List Nat | 2 => [1, 2] | 3 => [1, 2, 3, 4] | 4 => [1, 2, 3, 4, 6] | _ => []
def H0 : Nat → Nat → List Nat
  | 13 => g13
  | n => H n
noncomputable abbrev P := Go.Proofs.Tryz.prog
def go_works : Option Bool := some true
def worksCall : Call := fun _ args lh => match args, lh with
  | [], [] => some (.ret (.d (.bool true)) [])
  | _, _ => none
def E0 : Nat → Option Call := fun f => if f = 36 then some joinCall else if f = 83 then some indexByteCall else if f = 89 then some containsAnyCall else if f = 79 then some Fx.fixedCall else none
def E : Nat → Option Call := fun f => if f = 13 then some worksCall else E0 f
noncomputable abbrev X : Ctx := ⟨P, E, H⟩
theorem go_works_ok {r : Bool} (h : go_works = some r) : aval X 13 [] [] (.ret (.d (.bool r)) []) :=
  aval_ext (g := worksCall) (args' := []) rfl rfl (by cases h; rfl)
def go_Join (l : List Str) (s : Str) : Option Str := joinS l s
theorem go_Join_ok {l : List Str} {s r : Str} (h : go_Join l s = some r) : aval X 36 [.d (.list 1 (l.map D.str)), .d (.str s)] [] (.ret (.d (.str r)) []) :=
  aval_ext (g := joinCall) (args' := [.d (.list 1 (l.map D.str)), .d (.str s)]) rfl rfl (by haveI : Globs := ⟨[]⟩; show Option.bind _ _ = _; rw [strsOf_map]; show Option.map _ (joinS l s) = _; rw [show joinS l s = some r from h]; rfl)
def go_fixed (b : Str) (a e a1 y : Int) : Option (Token × Bool) := Fx.fixedS b a
theorem go_fixed_ok {b : Str} {a e a1 y : Int} {r : Token × Bool} (h : go_fixed b a e a1 y = some r) : aval X 79 [.ptr 0 0] [[.d (.str b), .d (.int .i64 a), .hid, .d (.int .i64 e), .d (.int .i64 a1), .d (.int .i64 y)]]
    (.ret (.tuple [.d (encToken r.1), .d (.bool r.2)]) [[.d (.str b), .d (.int .i64 a), .hid, .d (.int .i64 e), .d (.int .i64 a1), .d (.int .i64 y)]]) :=
  aval_ext (g := Fx.fixedCall) (args' := [.ptr 0 0]) rfl rfl (by show Option.map _ (Fx.fixedS b a) = _; rw [show Fx.fixedS b a = some r from h]; rfl)
abbrev pC (g : Grammar) (l : List Token) (i e d n : Int) : List C := [.d (.list 1 (List.map D.str g.verbs)), .d (.list 1 (List.map D.str g.adverbs)), .d (.list 1 (List.map D.str g.behind)), .d (.str g.outer), .d (.str g.power), .d (.str g.open_), .d (.str g.close), .d (.str g.left), .d (.str g.right), .d (.str g.minus), .d (.str g.quote), .d (.bool g.trains), .d (.bool g.lone), .d (.bool g.square), .d (.list 5 (List.map encToken l)), .d (.int .i64 i), .d (.int .i64 e), .d (.int .i64 d), .d (.int .i64 n)]
theorem I {α : Sort _} {a : α} : a = a := rfl
abbrev iZ (n : Int) : D := .int .i64 n
abbrev lI (l : List Int) : D := .list 1 (List.map (D.int .i64) l)
abbrev oI (l : List Int) : C := .own 1 (List.map (D.int .i64) l)
abbrev lS (l : List Str) : D := .list 1 (List.map D.str l)
abbrev oS (l : List Str) : C := .own 1 (List.map D.str l)
abbrev lC (l : List Cell) : D := .list 3 (List.map encCell l)
abbrev oC (l : List Cell) : C := .own 3 (List.map encCell l)
abbrev lN (l : List Node) : D := .list 7 (List.map encNodeR l)
abbrev oN (l : List Node) : C := .own 7 (List.map encNodeR l)
abbrev lT (l : List Token) : D := .list 5 (List.map encToken l)
abbrev oT (l : List Token) : C := .own 5 (List.map encToken l)
abbrev B := @bind_inv
abbrev E_ := @ite_inv
abbrev S_ := @awp_seq
abbrev N_ := @seqQ.normal
abbrev P_ := @condQ.pan
abbrev C_ := @condQ.ret
abbrev R_ := @awp_ret
abbrev K_ := @awp_skip
abbrev W_ := @awp_block
abbrev Q_ := @seqQ.ret
abbrev U_ := @seqQ.pan
abbrev O_ := @awpO_nil
abbrev X_ := @awp_exit
end Go.AM.Seat
