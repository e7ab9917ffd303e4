/- Part of a proof about the given program: the abstract machine, the printed functions, the plain laws. (AMConv, AMQuiet, AMLoud, AMCall, AMCall2, AMCall3, AMAppend, AMAppend2, AMOp, AMOp2, AMRegion, AMSame, AMLocal, AMLocal2, AMLocal3) -/
import Derived.Test.YtbhjnlilfidalaaDoorA1
import Derived.Laws.IdiomCopy
import Derived.LoopN
import Derived.Scope
import Derived.Orders
set_option linter.all false
set_option linter.unusedSectionVars false
set_option linter.unusedVariables false
set_option linter.unusedSimpArgs false

/- What operations come to: slice expressions, conversions; all quiet operations together. -/
namespace Go.AM
open Go
variable [Globs]

section
variable {P : Program} {K : Col} {μ : Nat → Nat} {w w' : World} {s : St} {a : Act}

theorem optNat_run (hs : Sim K μ s a w) {x : Option Operand} {d n : Nat} (h : optNat s.tmps x d = some n) :
    (x = none ∧ n = d) ∨ ∃ o k i, x = some o ∧ a.eval o = .int k i ∧ 0 ≤ i ∧ n = i.toNat := by
  cases x with
  | none => simp only [optNat, Option.some.injEq] at h; exact .inl ⟨rfl, h.symm⟩
  | some o =>
    simp only [optNat] at h
    split at h
    · rename_i k i hx
      split at h
      · rename_i hi
        simp only [Option.some.injEq] at h; subst h
        have hr := ev_rep hs hx
        simp only [RepV, RepC, Rep] at hr
        exact .inr ⟨o, k, i, rfl, hr, hi, rfl⟩
      · simp at h
    · simp at h

theorem sliceBound_run {k : IntKind} {i : Int} {y : Nat} {code : BoundsCode} (h0 : 0 ≤ i) (h1 : i ≤ y) : (Instr.sliceBound (.int k i) y code).run P w = .ok i.toNat w := by
  simp [Instr.sliceBound, asIntOf, h0, h1]

/-- The bounds of a slice expression. -/
theorem bounds_run (hs : Sim K μ s a w) {lo hi mx : Option Operand} {len cap l h : Nat} (isS : Bool) (hl : optNat s.tmps lo 0 = some l) (hh : optNat s.tmps hi len = some h)
    (hlh : l ≤ h) (hhl : h ≤ len) (hlc : len ≤ cap) (m : Nat)
    (hm : (mx = none ∧ m = cap) ∨ (hi.isSome = true ∧ ∃ o, mx = some o ∧ optNat s.tmps (some o) 0 = some h ∧ m = h)) :
    (Instr.sliceBounds isS len cap (lo.map a.eval) (hi.map a.eval) (mx.map a.eval)).run P w = .ok (l, h, m) w := by
  have hlo : ∀ code, (match lo.map a.eval with | some v => Instr.sliceBound v h code | none => pure 0 : Sem Nat).run P w = .ok l w := by
    intro code
    rcases optNat_run hs hl with ⟨rfl, rfl⟩ | ⟨o, k, i, rfl, he, h0, rfl⟩
    · rfl
    · simp only [Option.map_some, he]; exact sliceBound_run h0 (by omega)
  rcases hm with ⟨rfl, rfl⟩ | ⟨hsome, o, rfl, hmo, rfl⟩
  · have hhi : ∀ code, (match hi.map a.eval with | some v => Instr.sliceBound v m code | none => pure len : Sem Nat).run P w = .ok h w := by
      intro code
      rcases optNat_run hs hh with ⟨rfl, rfl⟩ | ⟨o, k, i, rfl, he, h0, rfl⟩
      · rfl
      · simp only [Option.map_some, he]; exact sliceBound_run h0 (by omega)
    cases hi with
    | none =>
      rcases optNat_run hs hh with ⟨_, rfl⟩ | ⟨o, k, i, e, _⟩
      · cases lo with
        | none =>
          rcases optNat_run hs hl with ⟨_, rfl⟩ | ⟨o, k, i, e, _⟩
          · simp [Instr.sliceBounds]
          · simp at e
        | some lo =>
          have := hlo .sliceB
          simp at this
          simp [Instr.sliceBounds, this]
      · simp at e
    | some hi =>
      have h1 := hhi (if isS then .sliceAcap else .sliceAlen)
      simp at h1
      cases lo with
      | none =>
        rcases optNat_run hs hl with ⟨_, rfl⟩ | ⟨o, k, i, e, _⟩
        · simp [Instr.sliceBounds, h1]
        · simp at e
      | some lo =>
        have := hlo .sliceB
        simp at this
        simp [Instr.sliceBounds, h1, this]
  · cases hi with
    | none => simp at hsome
    | some hi =>
      rcases optNat_run hs hmo with ⟨e, _⟩ | ⟨o', k, i, e, he, h0, hie⟩
      · simp at e
      · simp only [Option.some.injEq] at e; subst e
        have hm1 : (Instr.sliceBound (a.eval o) cap (if isS then .slice3Acap else .slice3Alen)).run P w = .ok m w := by
          rw [he, hie]; exact sliceBound_run h0 (by omega)
        have hh1 : (Instr.sliceBound (a.eval hi) m .slice3B).run P w = .ok m w := by
          rcases optNat_run hs hh with ⟨e, _⟩ | ⟨o', k, i, e, he, h0, hie⟩
          · simp at e
          · simp only [Option.some.injEq] at e; subst e
            rw [he]; rw [hie]; exact sliceBound_run h0 (by omega)
        cases lo with
        | none =>
          rcases optNat_run hs hl with ⟨_, rfl⟩ | ⟨o, k, i, e, _⟩
          · simp [Instr.sliceBounds, hm1, hh1]
          · simp at e
        | some lo =>
          have := hlo .slice3C
          simp at this
          simp [Instr.sliceBounds, hm1, hh1, this]

theorem sliceAt_eq (t : TypeId) (x : Value) (lo hi mx : Option Value) {d : TypeDesc} (ht : P.underlying t = some d) (hd : ∀ n e, d ≠ .array n e) :
    (Instr.sliceAt t x lo hi mx).run P w = (Instr.slice t x lo hi mx).run P w := by
  cases d <;> first | (exact absurd rfl (hd _ _)) | simp [Instr.sliceAt, run_underlying ht]

/-- The slice expression, its bounds told. -/
theorem slice_core (hs : Sim K μ s a w) {t : TypeId} {x : Operand} {lo hi mx : Option Operand} {V : V} {n l h : Nat} {full : Bool} {c : C}
    (hx : evT P t s.tmps x = some V) (hlen : lenV P t V = some n) (hl : optNat s.tmps lo 0 = some l) (hh : optNat s.tmps hi n = some h)
    (hm : (full = false ∧ mx = none) ∨ (full = true ∧ hi.isSome = true ∧ ∃ o, mx = some o ∧ optNat s.tmps (some o) 0 = some h))
    (hc : sliceV P t V l h full = some c) :
    ∃ v, (Instr.sliceAt t (a.eval x) (lo.map a.eval) (hi.map a.eval) (mx.map a.eval)).run P w = .ok v w ∧ RepC K μ w c v ∧ c.ids = [] ∧
      ∀ sz xs, c = .own sz xs → ∀ l, Spare K w l sz v := by
  have hxr := evT_rep hs hx
  unfold sliceV at hc
  split at hc
  · rename_i st ht hd
    split at hc
    · rename_i hcond
      obtain ⟨h1, h2, h3⟩ := hcond
      simp only [Option.some.injEq] at hc; subst hc
      have hr := Go.AM.V.toD_rep hd hxr
      simp only [Rep] at hr
      have hn : n = st.length := by
        unfold lenV at hlen
        rw [ht, hd] at hlen
        simpa using hlen.symm
      subst hn
      rcases hm with ⟨_, rfl⟩ | ⟨rfl, _⟩
      · have hb := bounds_run (P := P) (mx := none) hs false hl hh h1 h2 (Nat.le_refl _) st.length (.inl ⟨rfl, rfl⟩)
        refine ⟨.string ⟨((st.take h).drop l).toArray⟩, ?_, by simp [RepC, Rep], rfl, by simp⟩
        rw [sliceAt_eq _ _ _ _ _ ht (by simp)]
        have hext : (⟨st.toArray⟩ : ByteArray).extract l h = ⟨((st.take h).drop l).toArray⟩ := by
          apply ByteArray.ext
          simp [List.drop_take]
        simp only [Instr.slice, Sem.run_bind, run_underlying ht, Result.andThen_ok, hr, size_bytes, Option.map_none, Option.isSome_none, Bool.false_eq_true, if_false]
        simp only [Option.map_none] at hb
        simp [hb, hext]
      · simp at h3
    · simp at hc
  · rename_i e sz xs ht hd
    split at hc
    · rename_i hcond
      obtain ⟨h1, h2, h3⟩ := hcond
      simp only [Option.some.injEq] at hc
      have hr := Go.AM.V.toD_rep hd hxr
      simp only [Rep] at hr
      have hn : n = xs.length := by
        unfold lenV at hlen
        rw [ht, hd] at hlen
        simpa using hlen.symm
      subst hn
      rcases hr with ⟨rfl, hr⟩ | ⟨blk, off, cap, hv, hcap, he⟩
      · have hh0 : h = 0 := by simpa using h2
        subst hh0
        have hl0 : l = 0 := by omega
        subst hl0
        have hb : (Instr.sliceBounds true 0 0 (lo.map a.eval) (hi.map a.eval) (mx.map a.eval)).run P w = .ok (0, 0, 0) w := by
          rcases hm with ⟨_, rfl⟩ | ⟨_, hs1, o, rfl, hmo⟩
          · exact bounds_run (P := P) (mx := none) hs true hl hh (Nat.le_refl _) (Nat.le_refl _) (Nat.le_refl _) 0 (.inl ⟨rfl, rfl⟩)
          · exact bounds_run (P := P) (mx := some o) hs true hl hh (Nat.le_refl _) (Nat.le_refl _) (Nat.le_refl _) 0 (.inr ⟨hs1, o, rfl, hmo, rfl⟩)
        refine ⟨.slice none 0 0, ?_, ?_, ?_, ?_⟩
        · rw [sliceAt_eq _ _ _ _ _ ht (by simp)]
          simp [Instr.slice, run_underlying ht, hr, hb, sizeOf_run h3]
        · rw [← hc]; cases full <;> simp [RepC, Rep]
        · rw [← hc]; cases full <;> rfl
        · intro sz' xs' _ l'; exact .inl rfl
      obtain ⟨m, hmh, hmc, hb⟩ : ∃ m, h ≤ m ∧ (full = true → m = h) ∧
          (Instr.sliceBounds true xs.length cap (lo.map a.eval) (hi.map a.eval) (mx.map a.eval)).run P w = .ok (l, h, m) w := by
        rcases hm with ⟨rfl, rfl⟩ | ⟨rfl, hs1, o, rfl, hmo⟩
        · exact ⟨cap, by omega, by simp, bounds_run (P := P) (mx := none) hs true hl hh h1 h2 hcap cap (.inl ⟨rfl, rfl⟩)⟩
        · exact ⟨h, Nat.le_refl _, fun _ => rfl, bounds_run (P := P) (mx := some o) hs true hl hh h1 h2 hcap h (.inr ⟨hs1, o, rfl, hmo, rfl⟩)⟩
      have hlen' : ((xs.take h).drop l).length = h - l := by simp; omega
      have hrep : ∀ off', (m ≠ l → off' = off + l * sz) → Rep K w (.list sz ((xs.take h).drop l)) (.slice (some (ad blk off')) (h - l) (m - l)) := by
        intro off' ho
        simp only [Rep]
        refine .inr ⟨blk, off', m - l, by rw [hlen'], by rw [hlen']; omega, ?_⟩
        by_cases hml : m = l
        · have : (xs.take h).drop l = [] := by
            apply List.eq_nil_of_length_eq_zero
            rw [hlen']; omega
          rw [this]; simp [RepE]
        · rw [ho hml]
          exact (he.take h).drop l
      have hrun : ∃ off', (m ≠ l → off' = off + l * sz) ∧ (Instr.sliceAt t (a.eval x) (lo.map a.eval) (hi.map a.eval) (mx.map a.eval)).run P w = .ok (.slice (some (ad blk off')) (h - l) (m - l)) w := by
        rw [sliceAt_eq _ _ _ _ _ ht (by simp)]
        by_cases hml : m = l
        · exact ⟨off, fun h => absurd hml h, by simp [Instr.slice, run_underlying ht, hv, hb, sizeOf_run h3, hml]⟩
        · exact ⟨off + l * sz, fun _ => rfl, by simp [Instr.slice, run_underlying ht, hv, hb, sizeOf_run h3, hml, Addr.add_lit]⟩
      obtain ⟨off', ho', hrun⟩ := hrun
      refine ⟨_, hrun, ?_, ?_, ?_⟩
      · rw [← hc]
        cases full
        · simpa [RepC] using hrep off' ho'
        · simpa [RepC] using hrep off' ho'
      · rw [← hc]; cases full <;> rfl
      · intro sz' xs' e' l'
        rw [← hc] at e'
        cases full with
        | false => simp at e'
        | true =>
          rw [hmc rfl]
          exact spare_full _ _ _ _ _ _ _
    · simp at hc
  · simp at hc

theorem done_slice (hs : Sim K μ s a w) {o : Oper} {t : TypeId} {x : Operand} {lo hi mx : Option Operand} (ho : o.op = .slice t x lo hi mx) {V : V} {nb : Option (List C)} {id : Nat}
    (h : evR P id o s.tmps s.heap = some (V, nb)) : nb = none ∧ Done P K μ s a w o V := by
  simp only [evR, ho] at h
  have fin : ∀ {full : Bool} {c : C} {vx : Go.AM.V} {n l hh : Nat}, evT P t s.tmps x = some vx → lenV P t vx = some n → optNat s.tmps lo 0 = some l → optNat s.tmps hi n = some hh →
      ((full = false ∧ mx = none) ∨ (full = true ∧ hi.isSome = true ∧ ∃ o, mx = some o ∧ optNat s.tmps (some o) 0 = some hh)) →
      sliceV P t vx l hh full = some c → V = .c c → nb = none → nb = none ∧ Done P K μ s a w o V := by
    intro full c vx n l hh h1 h2 h3 h4 h5 h6 h7 h8
    obtain ⟨v, hv, hr, hi, hsp⟩ := slice_core hs h1 h2 h3 h4 h5 h6
    subst h7
    refine ⟨h8, Done.still hs (v := v) (by simp [execOp, ho, hv]) hr (by simp [Go.AM.V.ids, hi]) ?_ (by simp)⟩
    intro sz xs e l
    simp only [V.c.injEq] at e
    exact hsp sz xs e l
  split at h
  · rename_i vx hx
    split at h
    · rename_i n hn
      split at h
      · rename_i l hh hl hhh
        simp only [Option.map_eq_some_iff, Prod.mk.injEq] at h
        obtain ⟨c, hc, rfl, rfl⟩ := h
        exact fin hx hn hl hhh (.inl ⟨rfl, rfl⟩) hc rfl rfl
      · rename_i l hh m hl hhh
        split at h
        · rename_i mm hmm
          split at h
          · rename_i hcond
            obtain ⟨rfl, hsome⟩ := hcond
            simp only [Option.map_eq_some_iff, Prod.mk.injEq] at h
            obtain ⟨c, hc, rfl, rfl⟩ := h
            exact fin hx hn hl hhh (.inr ⟨rfl, hsome, m, rfl, hmm⟩) hc rfl rfl
          · simp at h
        · simp at h
      · simp at h
    · simp at h
  · simp at h

end
end Go.AM

/- What operations come to: conversions, new blocks; all quiet operations together. -/
namespace Go.AM
open Go
variable [Globs]

section
variable {P : Program} {K : Col} {μ : Nat → Nat} {w w' : World} {s : St} {a : Act}

theorem toBytes_rep : ∀ {xs : List D} {bs : List UInt8} {vs : List Value}, toBytes xs = some bs → RepEs K w 1 xs vs →
    ∃ ns : List Int, cellsOf vs = ns.map (Value.int .u8) ∧ bs = ns.map fun n => UInt8.ofNat n.toNat
  | [], bs, vs, h, hr => by
    simp only [toBytes, Option.some.injEq] at h; subst h
    cases hr; exact ⟨[], rfl, rfl⟩
  | x :: xs, bs, vs, h, hr => by
    cases hr with
    | cons h1 h2 h3 =>
      cases x with
      | int k n =>
        cases k <;> simp only [toBytes] at h <;> first
          | (simp at h; done)
          | (simp only [Option.map_eq_some_iff] at h
             obtain ⟨r, h, rfl⟩ := h
             obtain ⟨ns, h4, h5⟩ := toBytes_rep h h3
             simp only [Rep] at h1; subst h1
             exact ⟨n :: ns, by simp [cellsOf, Value.cells, h4], by simp [h5]⟩)
      | _ => simp [toBytes] at h

theorem foldl_push : ∀ (ns : List Int) (r : ByteArray), ns.foldl (fun r n => r.push (UInt8.ofNat n.toNat)) r = ⟨r.data ++ (ns.map fun n => UInt8.ofNat n.toNat).toArray⟩
  | [], r => by apply ByteArray.ext; simp
  | n :: ns, r => by
    simp only [List.foldl_cons, foldl_push ns]
    apply ByteArray.ext
    simp [ByteArray.push]

theorem byteD_rep : ∀ (l : List UInt8), RepEs K w 1 (l.map byteD) (l.map fun b => Value.int .u8 b.toNat) ∧ cellsOf (l.map fun b => Value.int .u8 b.toNat) = l.map fun b => Value.int .u8 b.toNat
  | [] => ⟨.nil, rfl⟩
  | b :: l => by
    obtain ⟨h1, h2⟩ := byteD_rep l
    exact ⟨.cons (by simp [Rep, byteD]) rfl h1, by simp [cellsOf, Value.cells, h2]⟩

theorem le_grownCap (w : World) (n : Nat) (e : TypeId) (o : Nat) : n ≤ grownCap w n o e := by
  simp only [grownCap, Question.cut]; omega

theorem done_convert (hs : Sim K μ s a w) {o : Oper} {src dst : TypeId} {x : Operand} (ho : o.op = .convert src dst x) {V : V} {nb : Option (List C)} {id : Nat}
    (h : evR P id o s.tmps s.heap = some (V, nb)) : nb = none ∧ Done P K μ s a w o V := by
  simp only [evR, ho] at h
  split at h
  · rename_i vx hx
    split at h
    · rename_i c hc
      simp only [Option.some.injEq, Prod.mk.injEq] at h
      obtain ⟨rfl, rfl⟩ := h
      have hxr := evT_rep hs hx
      refine ⟨rfl, ?_⟩
      unfold convV at hc
      split at hc
      · rename_i us k k' n hsrc hdst
        simp only [Option.some.injEq] at hc; subst hc
        simp only [RepV, RepC, Rep] at hxr
        exact Done.datum hs (v := .int k (k.wrap n)) (by simp [execOp, ho, hxr, convert, run_underlying hsrc, run_underlying hdst, Conv.intToInt]) (by simp [Rep])
      · rename_i us l hsrc hdst
        simp only [Option.some.injEq] at hc; subst hc
        simp only [RepV, RepC, Rep] at hxr
        exact Done.datum hs (v := .string ⟨l.toArray⟩) (by simp [execOp, ho, hxr, convert, run_underlying hsrc, run_underlying hdst]) (by simp [Rep])
      · rename_i us k n hsrc hdst
        simp only [Option.some.injEq] at hc; subst hc
        simp only [RepV, RepC, Rep] at hxr
        exact Done.datum hs (v := .string (Utf8.encode n)) (by simp [execOp, ho, hxr, convert, run_underlying hsrc, run_underlying hdst, Conv.intToString]) (by simp [Rep])
      · rename_i e l hsrc hdst
        split at hc
        · rename_i he
          split at hc
          · rename_i hcond
            simp only [Option.some.injEq] at hc; subst hc
            simp only [RepV, RepC, Rep] at hxr
            have hrun : (execOp a.eval o).run P w = .ok (.value (.slice (some ⟨w.heap.size, 0, none⟩) (⟨l.toArray⟩ : ByteArray).size (grownCap w (⟨l.toArray⟩ : ByteArray).size 0 e)))
                (w.drew.alloc (.cells (bytesRow ⟨l.toArray⟩ (grownCap w (⟨l.toArray⟩ : ByteArray).size 0 e)) e
                  ((bytesRow ⟨l.toArray⟩ (grownCap w (⟨l.toArray⟩ : ByteArray).size 0 e)).size, (bytesRow ⟨l.toArray⟩ (grownCap w (⟨l.toArray⟩ : ByteArray).size 0 e)).size + 1))) := by
              simp only [execOp, ho, Sem.run_bind, hxr, run_bytes_of_string w src dst e ⟨l.toArray⟩ hsrc hdst he, Result.andThen_ok, Sem.run_pure]
            rw [size_bytes] at hrun
            have hrow : bytesRow ⟨l.toArray⟩ (grownCap w l.length 0 e) = (cellsOf (l.map fun b => Value.int .u8 b.toNat) ++ List.replicate (grownCap w l.length 0 e - l.length) (Value.int .u8 0) : List Value).toArray := by
              rw [(byteD_rep (K := K) (w := w) l).2]
              apply Array.ext'
              simp [bytesRow, size_bytes]
            rw [hrow] at hrun
            obtain ⟨fz, hfz, w', hrun, hom⟩ : ∃ fz : Nat × Nat, grownCap w l.length 0 e ≤ fz.1 ∧ ∃ w', (execOp a.eval o).run P w = .ok (.value (.slice (some (ad w.heap.size 0)) l.length (grownCap w l.length 0 e))) w' ∧
                OneMore w w' (.cells (cellsOf (l.map fun b => Value.int .u8 b.toNat) ++ List.replicate (grownCap w l.length 0 e - l.length) (Value.int .u8 0) : List Value).toArray e fz) := by
              refine ⟨_, ?_, _, hrun, oneMore_drew _ _⟩
              rw [(byteD_rep (K := K) (w := w) l).2]
              simp
              omega
            obtain ⟨hes, hcl⟩ := byteD_rep (K := K) (w := w) l
            have hle := le_grownCap w l.length e 0
            have hrep : ∀ f : Nat → Tag, (∀ i, i < l.length → f i = .ro) → Rep (colNew K w.heap.size f) w' (.list 1 (l.map byteD)) (.slice (some (ad w.heap.size 0)) l.length (grownCap w l.length 0 e)) := by
              intro f hf
              have := rep_new (K := K) (w := w) (cap := grownCap w l.length 0 e) f (by rw [hcl]; simpa using hf) hom hes (by simpa using hle)
              simpa using this
            cases hd : o.dst with
            | none =>
              refine Done.new hs hrun hom (fun _ => .ro) ⟨?_, by simp [Go.AM.V.ids, C.ids], ?_, by simp⟩
              · simp only [RepV, RepC]
                exact hrep _ fun _ _ => rfl
              · intro sz xs _ t ht; rw [hd] at ht; simp at ht
            | some dt =>
              refine Done.new hs hrun hom (fun i => if i < l.length then .ro else .sp (.tmp dt)) ⟨?_, by simp [Go.AM.V.ids, C.ids], ?_, by simp⟩
              · simp only [RepV, RepC]
                exact hrep _ fun i hi => by simp [hi]
              · intro sz xs e' t' ht'
                simp only [V.c.injEq, C.own.injEq] at e'
                obtain ⟨rfl, _⟩ := e'
                rw [hd] at ht'; simp only [Option.some.injEq] at ht'; subst ht'
                refine .inr ⟨w.heap.size, 0, l.length, grownCap w l.length 0 e, rfl, hle, fun j h1 h2 => ⟨?_, ?_, ?_⟩⟩
                · simp only [colNew, if_true, Nat.zero_add]; rw [if_neg (by omega)]
                · rw [hom.cell, Nat.zero_add]
                  simp only [List.getElem?_toArray]
                  rw [getElem?_pos _ _ (by rw [hcl]; simp; omega)]
                  rfl
                · rw [hom.frozen]
                  simp
                  omega
          · simp at hc
        · simp at hc
      · rename_i e hsrc hdst _ _
        split at hc
        · rename_i xs he hd
          simp only [Option.map_eq_some_iff] at hc
          obtain ⟨bs, hbs, rfl⟩ := hc
          have hr := Go.AM.V.toD_rep hd hxr
          simp only [Rep] at hr
          rcases hr with ⟨rfl, hr⟩ | ⟨blk, off, cap, hv, _, hre⟩
          · simp only [toBytes, Option.some.injEq] at hbs; subst hbs
            exact Done.datum hs (v := .string ⟨([] : List UInt8).toArray⟩) (by
              simp only [execOp, ho, Sem.run_bind, hr, run_convert_bytes_string w src dst e none 0 0 hsrc he hdst, Conv.bytesToString, Sem.run_pure, Result.andThen_ok]
              rfl) (by simp [Rep])
          obtain ⟨vs, hes, hca⟩ := hre.es
          obtain ⟨ns, hns, hbn⟩ := toBytes_rep hbs hes
          have hl : ns.length = xs.length := by
            have := hes.cells; rw [hns] at this; simpa using this
          have hload : (loadCells (ad blk off) xs.length).run P w = .ok (ns.map (Value.int .u8)).toArray w := by
            have := run_loadCells_list (P := P) w (ad blk off) (ns.map (Value.int .u8)) fun j v hv => by
              rw [Addr.add_lit]; exact (hca j v (by rw [hns]; exact hv)).2
            rw [List.length_map, hl] at this
            exact this
          refine Done.datum hs (v := .string ⟨bs.toArray⟩) ?_ (by simp [Rep])
          simp only [execOp, ho, Sem.run_bind, hv, run_convert_bytes_string w src dst e _ _ _ hsrc he hdst, run_bytesToString w _ _ _ ns hload, Result.andThen_ok, Sem.run_pure, foldl_push, hbn]
          congr 2
          apply congrArg
          apply ByteArray.ext
          simp [ByteArray.empty, ByteArray.emptyWithCapacity] <;> rfl
        · simp at hc
      · simp at hc
    · simp at h
  · simp at h

/-- An operation that makes a block. -/
def DoneBlk (P : Program) (K : Col) (s : St) (a : Act) (w : World) (o : Oper) (cs : List C) : Prop :=
  ∃ arr e, (execOp a.eval o).run P w = .ok (.value (.pointer (some (ad w.heap.size 0)))) (w.alloc (.cells arr e)) ∧
    ∀ μ, Sim K μ s a w → RepCs K μ w cs arr.toList ∧ (∀ x ∈ arr.toList, isOne x = true) ∧ (∀ c ∈ cs, ∀ b ∈ c.ids, b < s.nid) ∧ (∀ (i sz : Nat) (xs : List D) (v : Value), cs[i]? = some (.own sz xs) → arr.toList[i]? = some v → v = .slice none 0 0)

theorem done_alloc {o : Oper} {t : TypeId} (ho : o.op = .alloc t) {V : V} {nb : Option (List C)} {id : Nat}
    (h : evR P id o s.tmps s.heap = some (V, nb)) : ∃ cs, nb = some cs ∧ V = .c (.ptr id 0) ∧ DoneBlk P K s a w o cs := by
  simp only [evR, ho] at h
  split at h
  · rename_i z hz
    split at h
    · rename_i cs hcs
      simp only [Option.some.injEq, Prod.mk.injEq] at h
      obtain ⟨rfl, rfl⟩ := h
      refine ⟨_, rfl, rfl, ?_⟩
      obtain ⟨v, hv, _, _, inf, hinf, hinz⟩ := tzero_rep (P := P) (K := K) (μ := fun _ => 0) (w := w) hz
      refine ⟨v.cells, t, by simp [execOp, ho, Instr.alloc, hv, newVar, newRow], fun μ hs => ?_⟩
      obtain ⟨v', hv', hr, hi, _⟩ := tzero_rep (P := P) (K := K) (μ := μ) (w := w) hz
      rw [hv] at hv'
      simp only [Result.ok.injEq, and_true] at hv'
      subst hv'
      obtain ⟨h1, h2⟩ := V.cells_rep hcs hr
      have h1' := retypeC_rep (P := P) (k := 4) (t := t) (off := 0) h1
      refine ⟨h1'.placed, h2, ?_, ?_⟩
      · intro c hc b hb
        simp only [List.mem_map] at hc
        obtain ⟨c', hc', rfl⟩ := hc
        rw [C.placed_ids] at hb
        exact retypeC_ids (Q := fun b => b < s.nid) (fun c hc b hb => by have := V.cells_ids hcs c hc b hb; rw [hi] at this; simp at this) c' hc' b hb
      · intro i sz xs u hc hu
        simp only [List.getElem?_map, Option.map_eq_some_iff] at hc
        obtain ⟨c', hc', he⟩ := hc
        obtain ⟨rfl, rfl⟩ := C.placed_own he
        obtain ⟨u', hu', hr'⟩ := h1'.get hc'
        rw [hu, Option.some.injEq] at hu'
        subst hu'; exact hr'
    · simp at h
  · simp at h

theorem done_box {o : Oper} {t : TypeId} {x : Operand} (ho : o.op = .box t x) {V : V} {nb : Option (List C)} {id : Nat}
    (h : evR P id o s.tmps s.heap = some (V, nb)) : ∃ cs, nb = some cs ∧ V = .c (.ptr id 0) ∧ DoneBlk P K s a w o cs := by
  simp only [evR, ho] at h
  split at h
  · rename_i z hz
    split at h
    · rename_i cs hcs
      simp only [Option.some.injEq, Prod.mk.injEq] at h
      obtain ⟨rfl, rfl⟩ := h
      refine ⟨_, rfl, rfl, (a.eval x).cells, t, by simp [execOp, ho, Instr.box, newVar, newRow], fun μ hs => ?_⟩
      obtain ⟨h1, h2⟩ := V.cells_rep hcs (evT_rep hs hz)
      refine ⟨h1.placed, h2, ?_, ?_⟩
      · intro c hc b hb
        simp only [List.mem_map] at hc
        obtain ⟨c', hc', rfl⟩ := hc
        rw [C.placed_ids] at hb
        exact evT_ids hs hz b (V.cells_ids hcs c' hc' b hb)
      · intro i sz xs u hc hu
        simp only [List.getElem?_map, Option.map_eq_some_iff] at hc
        obtain ⟨c', hc', he⟩ := hc
        obtain ⟨rfl, rfl⟩ := C.placed_own he
        obtain ⟨u', hu', hr'⟩ := h1.get hc'
        rw [hu, Option.some.injEq] at hu'
        subst hu'; exact hr'
    · simp at h
  · simp at h

/-- A quiet operation: a value, or a new block. -/
theorem evR_sound (hs : Sim K μ s a w) {o : Oper} {V : V} {nb : Option (List C)} (h : evR P s.nid o s.tmps s.heap = some (V, nb)) :
    (nb = none ∧ Done P K μ s a w o V) ∨ ∃ cs, nb = some cs ∧ V = .c (.ptr s.nid 0) ∧ DoneBlk P K s a w o cs := by
  cases ho : o.op with
  | move x => exact .inl (done_move hs ho h)
  | pick c x y => exact .inl (done_pick hs ho h)
  | alloc t => exact .inr (done_alloc ho h)
  | box t x => exact .inr (done_box ho h)
  | build t parts => exact .inl (done_build hs ho h)
  | buildSlice t len parts => exact .inl (done_buildSlice hs ho h)
  | load t x => exact .inl (done_load hs ho h)
  | nilCheck x => exact .inl (done_nilCheck hs ho h)
  | binOp op t x y u => exact .inl (done_binOp hs ho h)
  | unOp op t x => exact .inl (done_unOp hs ho h)
  | convert src dst x => exact .inl (done_convert hs ho h)
  | makeInterface t x => exact .inl (done_makeInterface hs ho h)
  | makeFunc fn first captured => exact .inl (done_makeFunc hs ho h)
  | makeSlice t l c => exact .inl (done_makeSlice hs ho h)
  | slice t x lo hi mx => exact .inl (done_slice hs ho h)
  | fieldAddr t x i => exact .inl (done_fieldAddr hs ho h)
  | field t x i => exact .inl (done_field hs ho h)
  | indexAddr t x i => exact .inl (done_indexAddr hs ho h)
  | index t x i => exact .inl (done_index hs ho h)
  | typeAssert x u t ok => exact .inl (done_typeAssert hs ho h)
  | extract x i => exact .inl (done_extract hs ho h)
  | call c =>
    cases hc : c.callee with
    | builtin b =>
      cases b <;> first
        | exact .inl (done_len hs ho hc h)
        | exact .inl (done_min hs ho hc h)
        | exact .inl (done_max hs ho hc h)
        | (simp [evR, ho, hc] at h; done)
    | value f => simp [evR, ho, hc] at h
    | invoke r m => simp [evR, ho, hc] at h
  | _ => simp [evR, ho] at h

end
end Go.AM

/- Operations that turn the state: cells written. -/
namespace Go.AM
open Go
variable [Globs]

section
variable {P : Program} {K K' : Col} {μ : Nat → Nat} {w w' : World} {s : St} {a : Act}

theorem setCells_size (b : Nat) : ∀ (vs : List Value) (o : Nat) (w : World), (w.setCells b o vs).heap.size = w.heap.size
  | [], _, _ => rfl
  | v :: r, o, w => by rw [World.setCells, setCells_size b r]; simp

theorem setCells_same (b : Nat) : ∀ (vs : List Value) (o : Nat) (w : World), (w.setCells b o vs).os = w.os ∧ (w.setCells b o vs).tape = w.tape ∧ (w.setCells b o vs).output = w.output
  | [], _, _ => ⟨rfl, rfl, rfl⟩
  | v :: r, o, w => by
    obtain ⟨h1, h2, h3⟩ := setCells_same b r (o + 1) (w.setCell ⟨b, o, none⟩ v)
    exact ⟨h1, h2, h3⟩

theorem setCells_block (b : Nat) : ∀ (vs : List Value) (o : Nat) (w : World) (k : Nat), k ≠ b → (w.setCells b o vs).heap[k]? = w.heap[k]?
  | [], _, _, _, _ => rfl
  | v :: r, o, w, k, hk => by
    rw [World.setCells, setCells_block b r _ _ k hk]
    simp only [World.setCell, Array.getElem?_modify]
    rw [if_neg (by omega)]

/-- Cells of one block are written, all of them tagged in W; some may be tagged anew. -/
theorem step_setCells {W : Tag → Prop} {b o : Nat} {vs : List Value} (hW : ∀ j, j < vs.length → W (K b (o + j))) (hK : ∀ blk off, ¬ W (K blk off) → K' blk off = K blk off) :
    Step W K w K' (w.setCells b o vs) := by
  obtain ⟨h1, h2, h3⟩ := setCells_same b vs o w
  refine ⟨h1, h2, h3, by rw [setCells_size]; exact Nat.le_refl _, fun k _ hn => ?_, fun k off _ hn => ⟨?_, by rw [World.frozen?_setCells], hK _ _ hn⟩⟩
  · by_cases hk : k = b
    · subst hk
      cases vs with
      | nil => rfl
      | cons v r => exact absurd (hW 0 (by simp)) (hn _)
    · exact setCells_block b vs o w k hk
  · refine World.cell?_setCells_out b vs o w _ fun e _ => ?_
    simp only at e
    subst e
    simp only
    rcases Nat.lt_or_ge off o with h | h
    · exact .inl h
    · rcases Nat.lt_or_ge off (o + vs.length) with h' | h'
      · exact absurd (by have := hW (off - o) (by omega); rwa [show o + (off - o) = off from by omega] at this) hn
      · exact .inr h'

theorem look_upd_same {α : Type} (k : Nat) (v : α) : ∀ l : List (Nat × α), look k (upd k v l) = some v
  | [] => by simp [upd, look]
  | (j, u) :: r => by
    by_cases h : j = k
    · simp [upd, look, h]
    · simp [upd, look, h, look_upd_same k v r]

theorem look_upd_other {α : Type} {k j : Nat} (h : j ≠ k) (v : α) : ∀ l : List (Nat × α), look j (upd k v l) = look j l
  | [] => by simp [upd, look, Ne.symm h]
  | (i, u) :: r => by
    by_cases hi : i = k
    · subst hi; simp [upd, look, Ne.symm h]
    · simp only [upd, hi, if_false, look]
      by_cases hij : i = j
      · simp [hij]
      · simp [hij, look_upd_other h v r]

theorem look_plainAt (u k : Nat) : ∀ tm : List (Nat × V), look k (plainAt u tm) = (look k tm).map fun v => if k = u then (match v with | .c (.own sz xs) => .d (.list sz xs) | v => v) else v
  | [] => rfl
  | (j, v) :: r => by
    by_cases hj : j = u
    · by_cases hk : j = k
      · subst hk; subst hj
        cases v with
        | c x => cases x <;> simp [plainAt, look]
        | _ => simp [plainAt, look]
      · subst hj
        have hkj : ¬ k = j := fun e => hk e.symm
        cases v with
        | c x => cases x <;> simp [plainAt, look, hk, hkj]
        | _ => simp [plainAt, look, hk, hkj]
    · simp only [plainAt, hj, if_false, look]
      by_cases hk : j = k
      · subst hk; simp [hj]
      · simp [hk, look_plainAt u k r]

/-- The right to append is given up at a temporary. -/
theorem Sim.plainAt (h : Sim K μ s a w) (u : Nat) : Sim K μ { s with tmps := plainAt u s.tmps } a w := by
  have back : ∀ {k : Nat} {v : V}, look k (AM.plainAt u s.tmps) = some v → ∃ v', look k s.tmps = some v' ∧ (v = v' ∨ ∃ sz xs, v' = .c (.own sz xs) ∧ v = .d (.list sz xs)) := by
    intro k v hk
    rw [look_plainAt] at hk
    simp only [Option.map_eq_some_iff] at hk
    obtain ⟨v', h1, rfl⟩ := hk
    refine ⟨v', h1, ?_⟩
    by_cases hku : k = u
    · simp only [hku, if_true]
      cases v' with
      | c x => cases x <;> simp
      | _ => simp
    · simp [hku]
  refine ⟨?_, ?_, ?_, ?_, h.heap, h.bound, h.defs, h.dids, h.glob⟩
  · intro t V ht
    obtain ⟨v', h1, h2⟩ := back ht
    refine ⟨(h.tm t v' h1).1, ?_⟩
    rcases h2 with rfl | ⟨sz, xs, rfl, rfl⟩
    · exact (h.tm t _ h1).2
    · exact (h.tm t _ h1).2
  · intro t V ht b hb
    obtain ⟨v', h1, h2⟩ := back ht
    rcases h2 with rfl | ⟨sz, xs, rfl, rfl⟩
    · exact h.tids t _ h1 b hb
    · simp [Go.AM.V.ids, C.ids] at hb
  · intro t sz xs ht
    obtain ⟨v', h1, h2⟩ := back ht
    rcases h2 with rfl | ⟨sz', xs', rfl, e⟩
    · exact h.own t sz xs h1
    · simp at e
  · intro t l sz xs ht
    obtain ⟨v', h1, h2⟩ := back ht
    rcases h2 with rfl | ⟨sz', xs', rfl, e⟩
    · have hv := h.view t l sz xs h1
      cases l with
      | cell b off => exact hv
      | tmp k =>
        intro z ys hk
        obtain ⟨v'', h3, h4⟩ := back hk
        rcases h4 with rfl | ⟨_, _, rfl, e⟩
        · exact hv z ys h3
        · simp at e
    · simp at e

theorem not_own_plainAt (u : Nat) (tm : List (Nat × V)) (sz : Nat) (xs : List D) : look u (AM.plainAt u tm) ≠ some (.c (.own sz xs)) := by
  rw [look_plainAt]
  intro h
  simp only [Option.map_eq_some_iff, if_true] at h
  obtain ⟨v, _, h⟩ := h
  cases v with
  | c x => cases x <;> simp at h
  | _ => simp at h

/-- Views of a place become plain. -/
theorem Sim.unview (h : Sim K μ s a w) (l : Loc) : Sim K μ { s with tmps := unview l s.tmps } a w ∧
    ∀ t sz xs, look t (AM.unview l s.tmps) ≠ some (.view l sz xs) := by
  have back : ∀ {k : Nat} {v : V}, look k (AM.unview l s.tmps) = some v → ∃ v', look k s.tmps = some v' ∧ (v = v' ∨ ∃ l' sz xs, v' = .view l' sz xs ∧ v = .d (.list sz xs)) ∧ ∀ sz xs, v ≠ .view l sz xs := by
    intro k v hk
    rw [look_unview] at hk
    simp only [Option.map_eq_some_iff] at hk
    obtain ⟨v', h1, rfl⟩ := hk
    refine ⟨v', h1, ?_, ?_⟩
    · cases v' with
      | view l' sz xs => by_cases hl : l' = l <;> simp [hl]
      | _ => simp
    · cases v' with
      | view l' sz xs => by_cases hl : l' = l <;> simp [hl]
      | _ => simp
  refine ⟨⟨?_, ?_, ?_, ?_, h.heap, h.bound, h.defs, h.dids, h.glob⟩, ?_⟩
  · intro t V ht
    obtain ⟨v', h1, h2, _⟩ := back ht
    refine ⟨(h.tm t v' h1).1, ?_⟩
    rcases h2 with rfl | ⟨l', sz, xs, rfl, rfl⟩
    · exact (h.tm t _ h1).2
    · exact (h.tm t _ h1).2
  · intro t V ht b hb
    obtain ⟨v', h1, h2, _⟩ := back ht
    rcases h2 with rfl | ⟨l', sz, xs, rfl, rfl⟩
    · exact h.tids t _ h1 b hb
    · simp [Go.AM.V.ids, C.ids] at hb
  · intro t sz xs ht
    obtain ⟨v', h1, h2, _⟩ := back ht
    rcases h2 with rfl | ⟨l', sz', xs', rfl, e⟩
    · exact h.own t sz xs h1
    · simp at e
  · intro t l' sz xs ht
    obtain ⟨v', h1, h2, _⟩ := back ht
    rcases h2 with rfl | ⟨l'', sz', xs', rfl, e⟩
    · have hv := h.view t l' sz xs h1
      cases l' with
      | cell b off => exact hv
      | tmp k =>
        intro z ys hk
        obtain ⟨v'', h3, h4, _⟩ := back hk
        rcases h4 with rfl | ⟨_, _, _, rfl, e⟩
        · exact hv z ys h3
        · simp at e
    · simp at e
  · intro t sz xs ht
    obtain ⟨_, _, _, h3⟩ := back ht
    exact h3 sz xs rfl

theorem getElem?_fillL {α : Type} : ∀ (r l : List α) (off i : Nat), off + r.length ≤ l.length → (fillL l off r)[i]? = if off ≤ i ∧ i < off + r.length then r[i - off]? else l[i]?
  | [], l, off, i, h => by
    rw [if_neg (by simp only [List.length_nil]; omega)]; rfl
  | c :: r, l, off, i, h => by
    simp only [fillL, List.length_cons] at h ⊢
    rw [getElem?_fillL r (l.set off c) (off + 1) i (by simp; omega)]
    by_cases h1 : i = off
    · subst h1
      rw [if_neg (by omega), if_pos (by omega)]
      simp [show i < l.length by omega]
    · by_cases h2 : off + 1 ≤ i ∧ i < off + 1 + r.length
      · rw [if_pos h2, if_pos (by omega), show i - off = (i - (off + 1)) + 1 from by omega]
        simp
      · rw [if_neg h2, if_neg (by omega)]
        rw [List.getElem?_set_ne (by omega)]

/-- The cells of a block of the machine's own are written. -/
theorem Sim.store (h : Sim K μ s a w) {b off : Nat} {cells ncs : List C} {nvs : List Value} (hb : look b s.heap = some cells) (hle : off + ncs.length ≤ cells.length)
    (hr : RepCs K μ w ncs nvs) (h1 : ∀ x ∈ nvs, isOne x = true) (hids : ∀ c ∈ ncs, ∀ i ∈ c.ids, i < s.nid)
    (hsp : ∀ i sz xs, ncs[i]? = some (.own sz xs) → ∀ v, nvs[i]? = some v → Spare K w (.cell b (off + i)) sz v)
    (hvw : ∀ t i sz xs z ys, look t s.tmps = some (.view (.cell b (off + i)) sz xs) → ncs[i]? ≠ some (.own z ys)) :
    Sim K μ { s with heap := upd b (fillL cells off ncs) s.heap } a (w.setCells (μ b) off nvs) ∧ Step (fun t => t = .blk b) K w K (w.setCells (μ b) off nvs) ∧
      (∀ j, j < nvs.length → (w.cell? (ad (μ b) (off + j))).isSome = true ∧ w.frozen? (ad (μ b) (off + j)) = false) := by
  have hlen := hr.length
  obtain ⟨k1, k2, k3, k4, k5⟩ := h.heap b cells hb
  have hex : ∀ j, j < nvs.length → (w.cell? (ad (μ b) (off + j))).isSome = true ∧ w.frozen? (ad (μ b) (off + j)) = false := by
    intro j hj
    obtain ⟨v, hv, _, hf, _⟩ := k5 (off + j) cells[off + j] (by simp [show off + j < cells.length by omega])
    exact ⟨by rw [hv]; rfl, hf⟩
  have hstep : Step (fun t => t = .blk b) K w K (w.setCells (μ b) off nvs) := step_setCells (fun j _ => k3 _) fun _ _ _ => rfl
  have hro : ¬ (Tag.ro = Tag.blk b) := by simp
  have hspw : ∀ l, ¬ (Tag.sp l = Tag.blk b) := by simp
  refine ⟨?_, hstep, hex⟩
  have hother : ∀ {b' : Nat} {cells' : List C}, b' ≠ b → look b' s.heap = some cells' → BlkRep K μ (w.setCells (μ b) off nvs) b' cells' := by
    intro b' cells' hne hb'
    exact (h.heap b' cells' hb').2.2.step hstep hro (by simpa using hne) fun _ _ _ _ => hspw _
  refine ⟨?_, h.tids, ?_, ?_, ?_, ?_, h.defs, h.dids, h.glob.step hstep hro⟩
  · intro t V ht
    exact ⟨(h.tm t V ht).1, (h.tm t V ht).2.step hstep hro⟩
  · intro t sz xs ht
    exact (h.own t sz xs ht).step hstep (hspw _)
  · intro t l sz xs ht
    have hv := h.view t l sz xs ht
    cases l with
    | tmp u => exact hv
    | cell b' off' =>
      intro cells' z ys hb' hc'
      by_cases hbb : b' = b
      · subst hbb
        rw [show (look b' ({ s with heap := upd b' (fillL cells off ncs) s.heap } : St).heap) = look b' (upd b' (fillL cells off ncs) s.heap) from rfl, look_upd_same, Option.some.injEq] at hb'
        subst hb'
        rw [getElem?_fillL _ _ _ _ hle] at hc'
        split at hc'
        · rename_i hin
          have := hvw t (off' - off) sz xs z ys (by rw [show off + (off' - off) = off' from by omega]; exact ht)
          exact absurd hc' this
        · rename_i hout
          rw [World.cell?_setCells_out]
          · exact hv cells z ys hb hc'
          · intro _ _; simp only; rw [← hlen]; omega
      · rw [show (look b' ({ s with heap := upd b (fillL cells off ncs) s.heap } : St).heap) = look b' (upd b (fillL cells off ncs) s.heap) from rfl, look_upd_other hbb] at hb'
        obtain ⟨q1, q2, _⟩ := (h.heap b' cells' hb').2.2
        rw [(hstep.cell (μ b') off' q2 (by rw [q1]; simpa using hbb)).1]
        exact hv cells' z ys hb' hc'
  · intro b' cells' hb'
    by_cases hbb : b' = b
    · subst hbb
      rw [show (look b' ({ s with heap := upd b' (fillL cells off ncs) s.heap } : St).heap) = look b' (upd b' (fillL cells off ncs) s.heap) from rfl, look_upd_same, Option.some.injEq] at hb'
      subst hb'
      refine ⟨k1, ?_, k3, by rw [setCells_size]; exact k4, ?_⟩
      · intro c hc i hi
        rcases mem_fillL _ _ _ hc with hc | hc
        · exact k2 c hc i hi
        · exact hids c hc i hi
      · intro i c hi
        rw [getElem?_fillL _ _ _ _ hle] at hi
        split at hi
        · rename_i hin
          obtain ⟨v, hv, hrv⟩ := hr.get hi
          have hj : i - off < nvs.length := (List.getElem?_eq_some_iff.1 hv).1
          have hcell := World.cell?_setCells_in (μ b') nvs off w (fun j hj => (hex j hj).1) (i - off) hj
          rw [show off + (i - off) = i from by omega] at hcell
          have hv' : nvs[i - off] = v := (List.getElem?_eq_some_iff.1 hv).2
          rw [hv'] at hcell
          refine ⟨v, hcell, h1 v (List.mem_of_getElem? hv), ?_, hrv.step hstep hro, ?_⟩
          · rw [World.frozen?_setCells]
            have := (hex (i - off) hj).2
            rwa [show off + (i - off) = i from by omega] at this
          · intro sz xs e
            subst e
            have := hsp (i - off) sz xs hi v hv
            rw [show off + (i - off) = i from by omega] at this
            exact this.step hstep (hspw _)
        · rename_i hout
          obtain ⟨v, hv1, hv2, hv3, hv4, hv5⟩ := k5 i c hi
          refine ⟨v, ?_, hv2, by rw [World.frozen?_setCells]; exact hv3, hv4.step hstep hro, fun sz xs e => (hv5 sz xs e).step hstep (hspw _)⟩
          rw [World.cell?_setCells_out]
          · exact hv1
          · intro _ _; simp only; rw [← hlen]; omega
    · rw [show (look b' ({ s with heap := upd b (fillL cells off ncs) s.heap } : St).heap) = look b' (upd b (fillL cells off ncs) s.heap) from rfl, look_upd_other hbb] at hb'
      exact ⟨(h.heap b' cells' hb').1, (h.heap b' cells' hb').2.1, hother hbb hb'⟩
  · intro blk o' hl
    rw [setCells_size] at hl
    exact h.bound blk o' hl

/-- A place's spare cells are given to another place. -/
def colMove (K : Col) (l l' : Loc) : Col := fun b off => if K b off = .sp l then .sp l' else K b off

theorem step_move (K : Col) (w : World) (l l' : Loc) : Step (fun t => t = .sp l) K w (colMove K l l') w :=
  ⟨rfl, rfl, rfl, Nat.le_refl _, fun _ _ _ => rfl, fun b off _ hn => ⟨rfl, rfl, by simp only [colMove]; rw [if_neg hn]⟩⟩

theorem Spare.move {l l' : Loc} {sz : Nat} {v : Value} (h : Spare K w l sz v) : Spare (colMove K l l') w l' sz v := by
  rcases h with h | ⟨blk, off, len, cap, h1, h2, h3⟩
  · exact .inl h
  refine .inr ⟨blk, off, len, cap, h1, h2, fun j hj hj' => ?_⟩
  obtain ⟨ha, hb, hc⟩ := h3 j hj hj'
  exact ⟨by simp [colMove, ha], hb, hc⟩

theorem bound_move (hb : ∀ blk off, w.heap.size ≤ blk → K blk off = .other) (l l' : Loc) : ∀ blk off, w.heap.size ≤ blk → colMove K l l' blk off = .other := by
  intro blk off h
  simp only [colMove, hb blk off h]
  simp

end
end Go.AM

/- Calls: what goes with a call, and what comes back. -/
namespace Go.AM
open Go
variable [Globs]

theorem mapM?_spec {α β : Type} {f : α → Option β} : ∀ {l : List α} {r : List β}, mapM? f l = some r → r.length = l.length ∧ ∀ (i : Nat) (x : α), l[i]? = some x → ∃ y, f x = some y ∧ r[i]? = some y
  | [], r, h => by simp only [mapM?, Option.some.injEq] at h; subst h; simp
  | x :: l, r, h => by
    simp only [mapM?] at h
    split at h
    · rename_i y ys hy hys
      simp only [Option.some.injEq] at h; subst h
      obtain ⟨h1, h2⟩ := mapM?_spec hys
      refine ⟨by simp [h1], fun i z hz => ?_⟩
      cases i with
      | zero => simp at hz; subst hz; exact ⟨y, hy, by simp⟩
      | succ i => simpa using h2 i z (by simpa using hz)
    · simp at h

theorem mapM?_get {α β : Type} {f : α → Option β} {l : List α} {r : List β} (h : mapM? f l = some r) {i : Nat} {y : β} (hy : r[i]? = some y) : ∃ x, l[i]? = some x ∧ f x = some y := by
  obtain ⟨h1, h2⟩ := mapM?_spec h
  have hi : i < l.length := by rw [← h1]; exact (List.getElem?_eq_some_iff.1 hy).1
  obtain ⟨z, hz, hz'⟩ := h2 i l[i] (by simp [hi])
  rw [hy, Option.some.injEq] at hz'
  subst hz'
  exact ⟨l[i], by simp [hi], hz⟩

theorem reach_spec {hp : List (Nat × List C)} : ∀ {n : Nat} {todo seen ids : List Nat}, reach hp n todo seen = some ids → seen.Nodup →
    ids.Nodup ∧ (∃ r, ids = seen ++ r) ∧ ∀ b ∈ ids, b ∈ seen ∨ (look b hp).isSome = true
  | 0, _, _, _, h, _ => by simp [reach] at h
  | n + 1, [], seen, ids, h, hn => by
    simp only [reach, Option.some.injEq] at h; subst h
    exact ⟨hn, ⟨[], by simp⟩, fun b hb => .inl hb⟩
  | n + 1, b :: r, seen, ids, h, hn => by
    simp only [reach] at h
    split at h
    · exact reach_spec h hn
    · rename_i hb
      split at h
      · rename_i cells hc
        obtain ⟨h1, ⟨q, h2⟩, h3⟩ := reach_spec h (by
          rw [List.nodup_append]
          exact ⟨hn, by simp, by intro x hx y hy; simp at hy; subst hy; intro e; subst e; exact hb hx⟩)
        refine ⟨h1, ⟨b :: q, by rw [h2]; simp⟩, fun x hx => ?_⟩
        rcases h3 x hx with h | h
        · rcases List.mem_append.1 h with h | h
          · exact .inl h
          · simp at h; subst h; exact .inr (by rw [hc]; rfl)
        · exact .inr h
      · simp at h

theorem idx_some {b : Nat} : ∀ {l : List Nat} {n i : Nat}, idx b l n = some i → n ≤ i ∧ l[i - n]? = some b
  | [], n, i, h => by simp [idx] at h
  | x :: l, n, i, h => by
    simp only [idx] at h
    split at h
    · rename_i hx
      simp only [Option.some.injEq] at h; subst h
      exact ⟨Nat.le_refl _, by simp [hx]⟩
    · obtain ⟨h1, h2⟩ := idx_some h
      refine ⟨by omega, ?_⟩
      rw [show i - n = (i - (n + 1)) + 1 from by omega]
      simpa using h2

theorem idx_of {b : Nat} : ∀ {l : List Nat} {n i : Nat}, l.Nodup → l[i]? = some b → idx b l n = some (n + i)
  | [], n, i, _, h => by simp at h
  | x :: l, n, 0, _, h => by simp at h; simp [idx, h]
  | x :: l, n, i + 1, hn, h => by
    rw [List.nodup_cons] at hn
    have hb : b ∈ l := by exact List.mem_of_getElem? (by simpa using h)
    simp only [idx]
    rw [if_neg (fun e : x = b => hn.1 (e ▸ hb)), idx_of hn.2 (by simpa using h)]
    congr 1; omega

theorem idx_none {b : Nat} : ∀ {l : List Nat} {n : Nat}, b ∉ l → idx b l n = none
  | [], n, _ => rfl
  | x :: l, n, h => by
    simp only [List.mem_cons, not_or] at h
    simp only [idx]
    rw [if_neg (fun e => h.1 e.symm), idx_none h.2]

theorem idx_mem {b : Nat} {l : List Nat} {n i : Nat} (h : idx b l n = some i) : b ∈ l := List.mem_of_getElem? (idx_some h).2

section
variable {P : Program} {K K' : Col} {μ μ' : Nat → Nat} {w w' : World} {s : St} {a : Act}

mutual
theorem Rep.recolor (hK : ∀ b o, K b o = .ro → K' b o = .ro) : ∀ (d : D) (v : Value), Rep K w d v → Rep K' w d v
  | .bool _, _, h => h
  | .int _ _, _, h => h
  | .str _, _, h => h
  | .list sz xs, v, h => by
    simp only [Rep] at h ⊢
    rcases h with h | ⟨blk, off, cap, rfl, hc, he⟩
    · exact .inl h
    · exact .inr ⟨blk, off, cap, rfl, hc, RepE.recolor hK xs sz blk off he⟩
  | .agg cs, v, h => by
    simp only [Rep] at h ⊢
    obtain ⟨vs, rfl, hl⟩ := h
    exact ⟨vs, rfl, RepL.recolor hK cs vs hl⟩
  | .iface t d, v, h => by
    simp only [Rep] at h ⊢
    obtain ⟨u, rfl, hu⟩ := h
    exact ⟨u, rfl, Rep.recolor hK d u hu⟩
  | .nilIface, _, h => h
theorem RepL.recolor (hK : ∀ b o, K b o = .ro → K' b o = .ro) : ∀ (ds : List D) (vs : List Value), RepL K w ds vs → RepL K' w ds vs
  | [], _, h => h
  | d :: ds, vs, h => by
    simp only [RepL] at h ⊢
    obtain ⟨v, r, rfl, h1, hd, hr⟩ := h
    exact ⟨v, r, rfl, h1, Rep.recolor hK d v hd, RepL.recolor hK ds r hr⟩
theorem RepE.recolor (hK : ∀ b o, K b o = .ro → K' b o = .ro) : ∀ (ds : List D) (sz blk off : Nat), RepE K w sz blk off ds → RepE K' w sz blk off ds
  | [], _, _, _, _ => by simp only [RepE]
  | d :: ds, sz, blk, off, h => by
    simp only [RepE] at h ⊢
    obtain ⟨⟨v, hd, hz, hc⟩, hr⟩ := h
    exact ⟨⟨v, Rep.recolor hK d v hd, hz, fun i u hu => ⟨hK _ _ (hc i u hu).1, (hc i u hu).2⟩⟩, RepE.recolor hK ds sz blk (off + sz) hr⟩
end

/-- An address told by its place in a list of blocks. -/
theorem into_rep {ids : List Nat} (hK : ∀ b o, K b o = .ro → K' b o = .ro) (hμ : ∀ i b, ids[i]? = some b → μ' i = μ b) {c c' : C} {v : Value} (hc : C.into ids c = some c') (h : RepC K μ w c v) :
    RepC K' μ' w c' v ∧ (∀ i ∈ c'.ids, i < ids.length) ∧ (∀ sz xs, c' = .own sz xs ↔ c = .own sz xs) := by
  cases c with
  | d x => simp only [C.into, Option.some.injEq] at hc; subst hc; exact ⟨Rep.recolor hK x v h, by simp [C.ids], by simp⟩
  | own sz xs => simp only [C.into, Option.some.injEq] at hc; subst hc; exact ⟨Rep.recolor hK (.list sz xs) v h, by simp [C.ids], by simp⟩
  | ptr b off =>
    simp only [C.into, Option.map_eq_some_iff] at hc
    obtain ⟨i, hi, rfl⟩ := hc
    obtain ⟨_, h2⟩ := idx_some hi
    simp only [RepC] at h ⊢
    refine ⟨by rw [hμ i b (by simpa using h2)]; exact h, ?_, by simp⟩
    intro j hj
    simp [C.ids] at hj; subst hj
    exact (List.getElem?_eq_some_iff.1 (by simpa using h2)).1
  | fn f caps =>
    simp only [C.into, Option.map_eq_some_iff] at hc
    obtain ⟨caps', hcaps, rfl⟩ := hc
    obtain ⟨h1, h2⟩ := mapM?_spec hcaps
    simp only [RepC] at h ⊢
    refine ⟨?_, ?_, by simp⟩
    · rw [h]
      congr 2
      apply List.ext_getElem?
      intro i
      simp only [List.getElem?_map]
      cases hi : caps[i]? with
      | none =>
        have : caps'[i]? = none := by rw [List.getElem?_eq_none_iff] at hi ⊢; omega
        simp [this]
      | some b =>
        obtain ⟨j, hj, hj'⟩ := h2 i b hi
        obtain ⟨_, h4⟩ := idx_some hj
        simp [hj', hμ j b (by simpa using h4)]
    · intro j hj
      simp only [C.ids] at hj
      obtain ⟨i, hi⟩ := List.getElem?_of_mem hj
      obtain ⟨b, _, hb⟩ := mapM?_get hcaps hi
      obtain ⟨_, h4⟩ := idx_some hb
      exact (List.getElem?_eq_some_iff.1 (by simpa using h4)).1
  | nilptr => simp only [C.into, Option.some.injEq] at hc; subst hc; exact ⟨h, by simp [C.ids], by simp⟩
  | nilfn => simp only [C.into, Option.some.injEq] at hc; subst hc; exact ⟨h, by simp [C.ids], by simp⟩
  | nilmap => simp only [C.into, Option.some.injEq] at hc; subst hc; exact ⟨h, by simp [C.ids], by simp⟩
  | nilchan => simp only [C.into, Option.some.injEq] at hc; subst hc; exact ⟨h, by simp [C.ids], by simp⟩
  | nilsl _ => simp only [C.into, Option.some.injEq] at hc; subst hc; exact ⟨h, by simp [C.ids], by simp⟩
  | undef => simp only [C.into, Option.some.injEq] at hc; subst hc; exact ⟨h, by simp [C.ids], by simp⟩

theorem back_rep {ids : List Nat} (hK : ∀ b o, K b o = .ro → K' b o = .ro) (hμ : ∀ i b, ids[i]? = some b → μ' b = μ i) {c c' : C} {v : Value} (hc : C.back ids c = some c') (h : RepC K μ w c v) :
    RepC K' μ' w c' v ∧ (∀ b ∈ c'.ids, b ∈ ids) ∧ (∀ sz xs, c' = .own sz xs ↔ c = .own sz xs) := by
  cases c with
  | d x => simp only [C.back, Option.some.injEq] at hc; subst hc; exact ⟨Rep.recolor hK x v h, by simp [C.ids], by simp⟩
  | own sz xs => simp only [C.back, Option.some.injEq] at hc; subst hc; exact ⟨Rep.recolor hK (.list sz xs) v h, by simp [C.ids], by simp⟩
  | ptr i off =>
    simp only [C.back] at hc
    split at hc
    · rename_i b hb
      simp only [Option.some.injEq] at hc; subst hc
      simp only [RepC] at h ⊢
      refine ⟨by rw [hμ i b hb]; exact h, ?_, by simp⟩
      intro j hj
      simp [C.ids] at hj; subst hj
      exact List.mem_of_getElem? hb
    · simp at hc
  | fn f caps =>
    simp only [C.back, Option.map_eq_some_iff] at hc
    obtain ⟨caps', hcaps, rfl⟩ := hc
    obtain ⟨h1, h2⟩ := mapM?_spec hcaps
    simp only [RepC] at h ⊢
    refine ⟨?_, ?_, by simp⟩
    · rw [h]
      congr 2
      apply List.ext_getElem?
      intro i
      simp only [List.getElem?_map]
      cases hi : caps[i]? with
      | none =>
        have : caps'[i]? = none := by rw [List.getElem?_eq_none_iff] at hi ⊢; omega
        simp [this]
      | some j =>
        obtain ⟨b, hb, hb'⟩ := h2 i j hi
        simp [hb', hμ j b hb]
    · intro j hj
      simp only [C.ids] at hj
      obtain ⟨i, hi⟩ := List.getElem?_of_mem hj
      obtain ⟨b, _, hb⟩ := mapM?_get hcaps hi
      exact List.mem_of_getElem? hb
  | nilptr => simp only [C.back, Option.some.injEq] at hc; subst hc; exact ⟨h, by simp [C.ids], by simp⟩
  | nilfn => simp only [C.back, Option.some.injEq] at hc; subst hc; exact ⟨h, by simp [C.ids], by simp⟩
  | nilmap => simp only [C.back, Option.some.injEq] at hc; subst hc; exact ⟨h, by simp [C.ids], by simp⟩
  | nilchan => simp only [C.back, Option.some.injEq] at hc; subst hc; exact ⟨h, by simp [C.ids], by simp⟩
  | nilsl _ => simp only [C.back, Option.some.injEq] at hc; subst hc; exact ⟨h, by simp [C.ids], by simp⟩
  | undef => simp only [C.back, Option.some.injEq] at hc; subst hc; exact ⟨h, by simp [C.ids], by simp⟩

theorem RepCs.mapM {f : C → Option C} {cs cs' : List C} {vs : List Value} (hm : mapM? f cs = some cs') (hr : RepCs K μ w cs vs)
    (hf : ∀ c c' v, f c = some c' → RepC K μ w c v → RepC K' μ' w c' v) : RepCs K' μ' w cs' vs := by
  obtain ⟨h1, _⟩ := mapM?_spec hm
  refine RepCs.of_get (by rw [h1, hr.length]) fun i c' v hc hv => ?_
  obtain ⟨c, hci, hcc⟩ := mapM?_get hm hc
  obtain ⟨u, hu, hru⟩ := hr.get hci
  rw [hv, Option.some.injEq] at hu
  subst hu
  exact hf c c' v hcc hru

def HRep (K : Col) (μ : Nat → Nat) (w : World) (lh : List (List C)) : Prop :=
  ∀ i cells, lh[i]? = some cells → (∀ c ∈ cells, ∀ j ∈ c.ids, j < lh.length) ∧ BlkRep K μ w i cells

def PlainV (v : V) : Prop := (∀ sz xs, v ≠ .c (.own sz xs)) ∧ ∀ l sz xs, v ≠ .view l sz xs

def BoundK (K : Col) (w : World) : Prop := ∀ blk off, w.heap.size ≤ blk → K blk off = .other

/-- What a call of the machine's says of the model's. -/
def CallOK (P : Program) (f : Nat) (args : List C) (lh : List (List C)) (r : CRes) : Prop :=
  ∀ K μ w vs, RepCs K μ w args vs → (∀ c ∈ args, ∀ b ∈ c.ids, b < lh.length) → HRep K μ w lh → BoundK K w → Glob K w →
    Calls P f vs.toArray w fun e w' => ∃ K' μ', Step mine K w K' w' ∧ BoundK K' w' ∧ (∀ i, i < lh.length → μ' i = μ i) ∧
      match r with
      | .ret v lh' => lh.length ≤ lh'.length ∧ HRep K' μ' w' lh' ∧ PlainV v ∧ (∀ b ∈ v.ids, b < lh'.length) ∧ ∃ u, e = .returned u ∧ RepV K' μ' w' v u
      | .pan d lh' => lh'.length = lh.length ∧ HRep K' μ' w' lh' ∧ ∃ u, e = .panicked [⟨u, false, false⟩] ∧ Rep K' w' d u

theorem Glob.recolor [Globs] {K K' : Col} {w : World} (hK : ∀ b o, K b o = .ro → K' b o = .ro) (h : Glob K w) : Glob K' w :=
  fun x hx i v hv => ⟨hK _ _ (h x hx i v hv).1, (h x hx i v hv).2⟩

/-- Tags as the callee sees them. -/
def tagIn (ids : List Nat) : Tag → Tag
  | .ro => .ro
  | .other => .other
  | .blk b => match idx b ids 0 with
    | some i => .blk i
    | none => .other
  | .sp (.cell b o) => match idx b ids 0 with
    | some i => .sp (.cell i o)
    | none => .other
  | .sp (.tmp _) => .other

/-- Tags as the caller sees them again. -/
def tagOut (ids : List Nat) : Tag → Tag
  | .ro => .ro
  | .other => .other
  | .blk i => match ids[i]? with
    | some b => .blk b
    | none => .other
  | .sp (.cell i o) => match ids[i]? with
    | some b => .sp (.cell b o)
    | none => .other
  | .sp (.tmp _) => .other

/-- What of the caller's a callee may write. -/
def handed (ids : List Nat) (t : Tag) : Prop := ∃ b ∈ ids, t = .blk b ∨ ∃ o, t = .sp (.cell b o)

theorem tagIn_not {ids : List Nat} {t : Tag} (h : ¬ handed ids t) : ¬ mine (tagIn ids t) := by
  intro hm
  cases t with
  | ro => exact hm.1 rfl
  | other => exact hm.2 rfl
  | blk b =>
    simp only [tagIn] at hm
    split at hm
    · rename_i i hi; exact h ⟨b, idx_mem hi, .inl rfl⟩
    · exact hm.2 rfl
  | sp l =>
    cases l with
    | tmp t => exact hm.2 rfl
    | cell b o =>
      simp only [tagIn] at hm
      split at hm
      · rename_i i hi; exact h ⟨b, idx_mem hi, .inr ⟨o, rfl⟩⟩
      · exact hm.2 rfl

theorem tagIn_ro {ids : List Nat} {t : Tag} : tagIn ids t = .ro ↔ t = .ro := by
  cases t with
  | ro => simp [tagIn]
  | other => simp [tagIn]
  | blk b => simp only [tagIn]; split <;> simp
  | sp l => cases l with
    | tmp t => simp [tagIn]
    | cell b o => simp only [tagIn]; split <;> simp

/-- The callee's tags, and the caller's own where the callee knows nothing. -/
def colBack (ids : List Nat) (K Kc Kc' : Col) (n : Nat) : Col := fun b o =>
  if b < n ∧ Kc b o = .other then K b o else tagOut ids (Kc' b o)

theorem colBack_known {ids : List Nat} {Kc Kc' : Col} (hst : Step mine Kc w Kc' w') {b o : Nat} (h : Kc' b o ≠ .other) :
    colBack ids K Kc Kc' w.heap.size b o = tagOut ids (Kc' b o) := by
  simp only [colBack]
  rw [if_neg]
  rintro ⟨h1, h2⟩
  exact h ((hst.cell b o h1 (by rw [h2]; exact fun hm => hm.2 rfl)).2.2.trans h2)

theorem colBack_ro {ids : List Nat} {Kc Kc' : Col} (hst : Step mine Kc w Kc' w') (b o : Nat) (h : Kc' b o = .ro) : colBack ids K Kc Kc' w.heap.size b o = .ro := by
  rw [colBack_known hst (by rw [h]; simp), h]; rfl

theorem step_back {ids ids' : List Nat} {Kc' : Col} (hst : Step mine (fun b o => tagIn ids (K b o)) w Kc' w') :
    Step (handed ids) K w (colBack ids' K (fun b o => tagIn ids (K b o)) Kc' w.heap.size) w' := by
  refine ⟨hst.os, hst.tape, hst.output, hst.size, fun b hb hn => hst.block b hb fun off => tagIn_not (hn off), fun b o hb hn => ?_⟩
  have h1 := hst.cell b o hb (tagIn_not hn)
  refine ⟨h1.1, h1.2.1, ?_⟩
  by_cases hro : K b o = .ro
  · rw [colBack_ro hst b o (by rw [h1.2.2, hro]; rfl), hro]
  · simp only [colBack]
    rw [if_pos]
    refine ⟨hb, ?_⟩
    have hm := tagIn_not hn
    have h2 : tagIn ids (K b o) ≠ .ro := fun e => hro (tagIn_ro.1 e)
    by_cases h3 : tagIn ids (K b o) = .other
    · exact h3
    · exact absurd ⟨h2, h3⟩ hm

end
end Go.AM

/- A call of the machine's is one of the model's. -/
namespace Go.AM
open Go
variable [Globs]

theorem look_putBlks_out {b : Nat} : ∀ {ids : List Nat} {cs : List (List C)} {h : List (Nat × List C)}, b ∉ ids → look b (putBlks ids cs h) = look b h
  | [], _, _, _ => by simp [putBlks]
  | _ :: _, [], _, _ => by simp [putBlks]
  | x :: ids, c :: cs, h, hb => by
    simp only [List.mem_cons, not_or] at hb
    simp only [putBlks]
    rw [look_putBlks_out hb.2, look_upd_other hb.1]

theorem look_putBlks_in {b : Nat} {c : List C} : ∀ {ids : List Nat} {cs : List (List C)} {h : List (Nat × List C)} {i : Nat}, ids.Nodup → ids[i]? = some b → cs[i]? = some c → look b (putBlks ids cs h) = some c
  | [], _, _, i, _, hi, _ => by simp at hi
  | _ :: _, [], _, i, _, _, hc => by simp at hc
  | x :: ids, e :: cs, h, 0, hn, hi, hc => by
    simp at hi hc; subst hi; subst hc
    rw [List.nodup_cons] at hn
    simp only [putBlks]
    rw [look_putBlks_out hn.1, look_upd_same]
  | x :: ids, e :: cs, h, i + 1, hn, hi, hc => by
    rw [List.nodup_cons] at hn
    simp only [putBlks]
    exact look_putBlks_in hn.2 (by simpa using hi) (by simpa using hc)

theorem idsFrom_mem : ∀ {n k b : Nat}, b ∈ idsFrom n k ↔ n ≤ b ∧ b < n + k
  | n, 0, b => by simp [idsFrom]
  | n, k + 1, b => by simp only [idsFrom, List.mem_cons, idsFrom_mem]; omega

theorem idsFrom_length : ∀ n k : Nat, (idsFrom n k).length = k
  | _, 0 => rfl
  | n, k + 1 => by simp [idsFrom, idsFrom_length (n + 1) k]

theorem idsFrom_get : ∀ {n k i : Nat}, i < k → (idsFrom n k)[i]? = some (n + i)
  | n, 0, i, h => by omega
  | n, k + 1, 0, _ => by simp [idsFrom]
  | n, k + 1, i + 1, h => by simp only [idsFrom, List.getElem?_cons_succ]; rw [idsFrom_get (by omega)]; congr 1; omega

theorem idsFrom_nodup : ∀ n k : Nat, (idsFrom n k).Nodup
  | _, 0 => by simp [idsFrom]
  | n, k + 1 => by
    simp only [idsFrom, List.nodup_cons]
    exact ⟨by rw [idsFrom_mem]; omega, idsFrom_nodup (n + 1) k⟩

theorem look_unviewIn (ids : List Nat) (k : Nat) : ∀ tm : List (Nat × V), look k (unviewIn ids tm) = (look k tm).map fun v => match v with
    | .view (.cell b off) sz xs => if b ∈ ids then .d (.list sz xs) else .view (.cell b off) sz xs
    | v => v
  | [] => rfl
  | (j, v) :: r => by
    have ih := look_unviewIn ids k r
    by_cases hj : j = k
    · subst hj
      cases v with
      | view l sz xs => cases l <;> simp [unviewIn, look]
      | _ => simp [unviewIn, look]
    · cases v with
      | view l sz xs => cases l <;> simp [unviewIn, look, hj, ih]
      | _ => simp [unviewIn, look, hj, ih]

section
variable {P : Program} {K K' : Col} {μ μ' : Nat → Nat} {w w' : World} {s : St} {a : Act}

theorem back_unviewIn {ids : List Nat} {t : Nat} {v : V} (h : look t (unviewIn ids s.tmps) = some v) :
    ∃ v', look t s.tmps = some v' ∧ (v = v' ∨ ∃ b off sz xs, v' = .view (.cell b off) sz xs ∧ v = .d (.list sz xs)) ∧ ∀ b off sz xs, v = .view (.cell b off) sz xs → b ∉ ids := by
  rw [look_unviewIn] at h
  simp only [Option.map_eq_some_iff] at h
  obtain ⟨v', h1, rfl⟩ := h
  refine ⟨v', h1, ?_, ?_⟩
  · cases v' with
    | view l sz xs =>
      cases l with
      | tmp t => simp
      | cell b off => by_cases hb : b ∈ ids <;> simp [hb]
    | _ => simp
  · intro b off sz xs e
    cases v' with
    | view l sz' xs' =>
      cases l with
      | tmp t => simp at e
      | cell b' off' =>
        by_cases hb : b' ∈ ids
        · simp [hb] at e
        · simp only [hb, if_false, V.view.injEq, Loc.cell.injEq] at e
          rw [← e.1.1]; exact hb
    | _ => simp at e

/-- Blocks of a state, renamed for a callee. -/
theorem hrep_into (hs : Sim K μ s a w) {ids : List Nat} (hn : ids.Nodup) {lh : List (List C)} (hlh : blksInto s.heap ids = some lh) :
    HRep (fun b o => tagIn ids (K b o)) (fun i => μ (ids.getD i 0)) w lh ∧ lh.length = ids.length := by
  obtain ⟨h1, _⟩ := mapM?_spec hlh
  refine ⟨fun i cells hi => ?_, h1⟩
  obtain ⟨b, hb, hbc⟩ := mapM?_get hlh hi
  rw [Option.bind_eq_some_iff] at hbc
  obtain ⟨cs, hcs, hmap⟩ := hbc
  obtain ⟨k1, k2, k3, k4, k5⟩ := hs.heap b cs hcs
  have hib : idx b ids 0 = some i := by simpa using idx_of (n := 0) hn hb
  have hgd : ids.getD i 0 = b := by simp [List.getD, hb]
  have hro : ∀ b o, K b o = .ro → tagIn ids (K b o) = .ro := fun b o h => by rw [h]; rfl
  have hμ : ∀ i b, ids[i]? = some b → μ (ids.getD i 0) = μ b := fun i b h => by simp [List.getD, h]
  refine ⟨?_, ?_, by simp only [hgd]; exact k4, ?_⟩
  · intro c' hc' j hj
    obtain ⟨q, hq⟩ := List.getElem?_of_mem hc'
    obtain ⟨c, hc, hcc⟩ := mapM?_get hmap hq
    obtain ⟨v, _, _, _, hr, _⟩ := k5 q c hc
    have := (into_rep (K' := fun b o => tagIn ids (K b o)) (μ' := fun i => μ (ids.getD i 0)) hro hμ hcc hr).2.1 j hj
    rw [h1]; exact this
  · intro off
    simp only [hgd, k3 off, tagIn, hib]
  · intro q c' hc'
    obtain ⟨c, hc, hcc⟩ := mapM?_get hmap hc'
    obtain ⟨v, hv, hv1, hv2, hr, hsp⟩ := k5 q c hc
    obtain ⟨r1, r2, r3⟩ := into_rep (K' := fun b o => tagIn ids (K b o)) (μ' := fun i => μ (ids.getD i 0)) hro hμ hcc hr
    refine ⟨v, by simp only [hgd]; exact hv, hv1, by simp only [hgd]; exact hv2, r1, fun sz xs e => ?_⟩
    rcases hsp sz xs ((r3 sz xs).1 e) with e0 | ⟨blk, off, len, cap, e1, e2, e3⟩
    · exact .inl e0
    refine .inr ⟨blk, off, len, cap, e1, e2, fun j hj hj' => ?_⟩
    obtain ⟨t1, t2, t3⟩ := e3 j hj hj'
    exact ⟨by simp only [t1, tagIn, hib], t2, t3⟩

/-- What the caller's state is behind a call. -/
theorem sim_back (hs : Sim K μ s a w) {ids : List Nat} (hn : ids.Nodup) (hin : ∀ b ∈ ids, b < s.nid) {Kc' : Col} {k : Nat} {lh' lh'' : List (List C)}
    (hst : Step mine (fun b o => tagIn ids (K b o)) w Kc' w') (hbd : BoundK Kc' w') (hμ : ∀ i, i < ids.length → μ' i = μ (ids.getD i 0)) (hh : HRep Kc' μ' w' lh')
    (hlen : lh'.length = ids.length + k) (hback : mapM? (mapM? (C.back (ids ++ idsFrom s.nid k))) lh' = some lh'') :
    ∃ K₂ μ₂, Step (handed ids) K w K₂ w' ∧ (∀ b, b < s.nid → μ₂ b = μ b) ∧ (∀ b o, Kc' b o = .ro → K₂ b o = .ro) ∧
      (∀ i b, (ids ++ idsFrom s.nid k)[i]? = some b → μ₂ b = μ' i) ∧
      Sim K₂ μ₂ { s with tmps := unviewIn (ids ++ idsFrom s.nid k) s.tmps, heap := putBlks (ids ++ idsFrom s.nid k) lh'' s.heap, nid := s.nid + k } a w' := by
  generalize hids' : ids ++ idsFrom s.nid k = ids' at *
  have hlt' : ∀ b ∈ ids', b < s.nid + k := by
    intro b hb
    rw [← hids'] at hb
    rcases List.mem_append.1 hb with hb | hb
    · have := hin b hb; omega
    · exact (idsFrom_mem.1 hb).2
  have hn' : ids'.Nodup := by
    rw [← hids', List.nodup_append]
    refine ⟨hn, idsFrom_nodup _ _, fun x hx y hy e => ?_⟩
    subst e
    have := hin x hx
    have := (idsFrom_mem.1 hy).1
    omega
  have hold : ∀ b, b < s.nid → b ∈ ids' → b ∈ ids := by
    intro b hb hm
    rw [← hids'] at hm
    rcases List.mem_append.1 hm with hm | hm
    · exact hm
    · have := (idsFrom_mem.1 hm).1; omega
  have hlen' : ids'.length = lh'.length := by rw [← hids', List.length_append, idsFrom_length, hlen]
  obtain ⟨hl1, _⟩ := mapM?_spec hback
  let μ₂ : Nat → Nat := fun b => match idx b ids' 0 with | some i => μ' i | none => μ b
  have hμ₂in : ∀ i b, ids'[i]? = some b → μ₂ b = μ' i := by
    intro i b hb
    have := idx_of (n := 0) hn' hb
    simp only [Nat.zero_add] at this
    simp only [μ₂, this]
  have hμ₂ : ∀ b, b < s.nid → μ₂ b = μ b := by
    intro b hb
    by_cases hm : b ∈ ids'
    · have hm' := hold b hb hm
      obtain ⟨i, hi⟩ := List.getElem?_of_mem hm'
      have hi' : ids'[i]? = some b := by
        rw [← hids', List.getElem?_append_left (List.getElem?_eq_some_iff.1 hi).1]; exact hi
      rw [hμ₂in i b hi', hμ i (List.getElem?_eq_some_iff.1 hi).1]
      simp [List.getD, hi]
    · simp only [μ₂, idx_none hm]
  have hstep : Step (handed ids) K w (colBack ids' K (fun b o => tagIn ids (K b o)) Kc' w.heap.size) w' := step_back hst
  have hro : ¬ handed ids .ro := by rintro ⟨b, _, h | ⟨o, h⟩⟩ <;> simp at h
  have hrec : ∀ b o, Kc' b o = .ro → colBack ids' K (fun b o => tagIn ids (K b o)) Kc' w.heap.size b o = .ro := colBack_ro hst
  refine ⟨_, μ₂, hstep, hμ₂, hrec, hμ₂in, ?_⟩
  refine ⟨?_, ?_, ?_, ?_, ?_, ?_, ?_, ?_, hs.glob.step hstep (by simp [handed])⟩
  · intro t V ht
    obtain ⟨v', h1, h2, _⟩ := back_unviewIn ht
    refine ⟨(hs.tm t v' h1).1, ?_⟩
    have hr : RepV (colBack ids' K (fun b o => tagIn ids (K b o)) Kc' w.heap.size) μ₂ w' v' (a.tmps.getD t Go.undef) :=
      ((hs.tm t v' h1).2.step hstep hro).mu fun b hb => hμ₂ b (hs.tids t v' h1 b hb)
    rcases h2 with rfl | ⟨b, off, sz, xs, rfl, rfl⟩
    · exact hr
    · exact hr
  · intro t V ht b hb
    obtain ⟨v', h1, h2, _⟩ := back_unviewIn ht
    rcases h2 with rfl | ⟨b', off, sz, xs, rfl, rfl⟩
    · have := hs.tids t _ h1 b hb
      show b < s.nid + k
      omega
    · simp [Go.AM.V.ids, C.ids] at hb
  · intro t sz xs ht
    obtain ⟨v', h1, h2, _⟩ := back_unviewIn ht
    rcases h2 with rfl | ⟨b', off, sz', xs', rfl, e⟩
    · exact (hs.own t sz xs h1).step hstep (by rintro ⟨b, _, h | ⟨o, h⟩⟩ <;> simp at h)
    · simp at e
  · intro t l sz xs ht
    obtain ⟨v', h1, h2, h3⟩ := back_unviewIn ht
    rcases h2 with rfl | ⟨b', off, sz', xs', rfl, e⟩
    · have hv := hs.view t l sz xs h1
      cases l with
      | tmp u =>
        intro z ys hu
        obtain ⟨v'', h4, h5, _⟩ := back_unviewIn hu
        rcases h5 with rfl | ⟨_, _, _, _, rfl, e⟩
        · exact hv z ys h4
        · simp at e
      | cell b off =>
        have hb := h3 b off sz xs rfl
        intro cells z ys hc hcc
        rw [show look b ({ s with tmps := unviewIn ids' s.tmps, heap := putBlks ids' lh'' s.heap, nid := s.nid + k } : St).heap = look b (putBlks ids' lh'' s.heap) from rfl, look_putBlks_out hb] at hc
        obtain ⟨q0, _, q1, q2, _⟩ := hs.heap b cells hc
        rw [hμ₂ b q0]
        rw [(hstep.cell (μ b) off q2 (by
          rw [q1]
          rintro ⟨b', hb', h | ⟨o, h⟩⟩
          · simp only [Tag.blk.injEq] at h; subst h
            exact hb (by rw [← hids']; exact List.mem_append.2 (.inl hb'))
          · simp at h)).1]
        exact hv cells z ys hc hcc
    · simp at e
  · intro b cells hb
    by_cases hm : b ∈ ids'
    · obtain ⟨i, hi⟩ := List.getElem?_of_mem hm
      have hi2 : i < lh''.length := by rw [hl1, ← hlen']; exact (List.getElem?_eq_some_iff.1 hi).1
      have hl2 : lh''[i]? = some lh''[i] := by simp [hi2]
      rw [show look b ({ s with tmps := unviewIn ids' s.tmps, heap := putBlks ids' lh'' s.heap, nid := s.nid + k } : St).heap = look b (putBlks ids' lh'' s.heap) from rfl, look_putBlks_in hn' hi hl2, Option.some.injEq] at hb
      subst hb
      obtain ⟨cs, hcs, hmap⟩ := mapM?_get hback hl2
      obtain ⟨g1, g2, g3, g4⟩ := hh i cs hcs
      have hbm := hμ₂in i b hi
      refine ⟨hlt' b hm, ?_, ?_, by rw [hbm]; exact g3, ?_⟩
      · intro c' hc' j hj
        obtain ⟨q, hq⟩ := List.getElem?_of_mem hc'
        obtain ⟨c, hc, hcc⟩ := mapM?_get hmap hq
        obtain ⟨v, _, _, _, hr, _⟩ := g4 q c hc
        exact hlt' j ((back_rep (μ' := μ₂) hrec hμ₂in hcc hr).2.1 j hj)
      · intro off
        rw [hbm, colBack_known hst (by rw [g2 off]; simp), g2 off]
        simp only [tagOut, hi]
      · intro q c' hc'
        obtain ⟨c, hc, hcc⟩ := mapM?_get hmap hc'
        obtain ⟨v, hv, hv1, hv2, hr, hsp⟩ := g4 q c hc
        obtain ⟨r1, r2, r3⟩ := back_rep (μ' := μ₂) hrec hμ₂in hcc hr
        rw [hbm]
        refine ⟨v, hv, hv1, hv2, r1, fun sz xs e => ?_⟩
        rcases hsp sz xs ((r3 sz xs).1 e) with e0 | ⟨blk, off, len, cap, e1, e2, e3⟩
        · exact .inl e0
        refine .inr ⟨blk, off, len, cap, e1, e2, fun j hj hj' => ?_⟩
        obtain ⟨t1, t2, t3⟩ := e3 j hj hj'
        refine ⟨?_, t2, t3⟩
        rw [colBack_known hst (by rw [t1]; simp), t1]
        simp only [tagOut, hi]
    · rw [show look b ({ s with tmps := unviewIn ids' s.tmps, heap := putBlks ids' lh'' s.heap, nid := s.nid + k } : St).heap = look b (putBlks ids' lh'' s.heap) from rfl, look_putBlks_out hm] at hb
      obtain ⟨k1, k2, k3⟩ := hs.heap b cells hb
      have hbn : b ∉ ids := fun h => hm (by rw [← hids']; exact List.mem_append.2 (.inl h))
      refine ⟨by show b < s.nid + k; omega, fun c hc i hi => by have := k2 c hc i hi; show i < s.nid + k; omega, ?_⟩
      have h1 := k3.step hstep hro (by
          rintro ⟨b', hb', h | ⟨o, h⟩⟩
          · simp only [Tag.blk.injEq] at h; subst h; exact hbn hb'
          · simp at h) (by
          rintro off sz xs _ ⟨b', hb', h | ⟨o, h⟩⟩
          · simp at h
          · simp only [Tag.sp.injEq, Loc.cell.injEq] at h; rw [h.1] at hbn; exact hbn hb')
      obtain ⟨g2, g3, g4⟩ := h1
      have hbm := hμ₂ b k1
      refine ⟨fun off => by rw [hbm]; exact g2 off, by rw [hbm]; exact g3, fun i c hi => ?_⟩
      rw [hbm]
      obtain ⟨v, hv, hv1, hv2, hr, hsp⟩ := g4 i c hi
      exact ⟨v, hv, hv1, hv2, hr.mu fun j hj => hμ₂ j (k2 c (List.mem_of_getElem? hi) j hj), hsp⟩
  · intro blk off hl
    simp only [colBack]
    rw [if_neg (by have := hst.size; omega), hbd blk off hl]
    rfl
  · show a.defers = s.defers.map (defOf μ₂)
    rw [hs.defs]
    refine List.map_congr_left fun x hx => ?_
    unfold defOf
    congr 3
    refine List.map_congr_left fun b hb => ?_
    rw [hμ₂ b (hs.dids x hx b hb)]
  · intro x hx b hb
    have := hs.dids x hx b hb
    show b < s.nid + k
    omega

end
end Go.AM

/- A call of the machine's, at the model's call. -/
namespace Go.AM
open Go
variable [Globs]

section
variable {P : Program} {K K' : Col} {μ μ' : Nat → Nat} {w w' : World} {s : St} {a : Act}

theorem handed_mine {ids : List Nat} {t : Tag} (h : handed ids t) : mine t := by
  obtain ⟨b, _, rfl | ⟨o, rfl⟩⟩ := h <;> simp [mine]

/-- What an operation that turned the state left. -/
structure After (K : Col) (μ : Nat → Nat) (w : World) (n : Nat) (K' : Col) (μ' : Nat → Nat) (w' : World) : Prop where
  step : Step mine K w K' w'
  mu : ∀ b, b < n → μ' b = μ b

theorem After.refl (K : Col) (μ : Nat → Nat) (w : World) (n : Nat) : After K μ w n K μ w := ⟨Step.refl _ _ _, fun _ _ => rfl⟩

theorem After.trans {K₀ K₁ K₂ : Col} {μ₀ μ₁ μ₂ : Nat → Nat} {w₀ w₁ w₂ : World} {n m : Nat} (h : After K₀ μ₀ w₀ n K₁ μ₁ w₁) (k : After K₁ μ₁ w₁ m K₂ μ₂ w₂) (hnm : n ≤ m) :
    After K₀ μ₀ w₀ n K₂ μ₂ w₂ := ⟨h.step.trans k.step, fun b hb => (k.mu b (by omega)).trans (h.mu b hb)⟩

def Callee (P : Program) (f : Nat) : Prop := ∃ fn, P.funcs[f]? = some fn ∧ fn.body.isSome = true

def CallsOK (P : Program) (call : Call) : Prop := ∀ f args lh r, call f args lh = some r → Callee P f ∧ CallOK P f args lh r

theorem V.back_rep {ids : List Nat} (hK : ∀ b o, K b o = .ro → K' b o = .ro) (hμ : ∀ i b, ids[i]? = some b → μ' b = μ i) {c c' : V} {v : Value} (hc : V.back ids c = some c') (h : RepV K μ w c v)
    (hp : PlainV c) : RepV K' μ' w c' v ∧ (∀ b ∈ c'.ids, b ∈ ids) ∧ PlainV c' := by
  have many : ∀ {cs cs' : List C} {vs : List Value}, mapM? (C.back ids) cs = some cs' → RepCs K μ w cs vs → RepCs K' μ' w cs' vs ∧ ∀ c ∈ cs', ∀ b ∈ c.ids, b ∈ ids := by
    intro cs cs' vs hm hr
    refine ⟨hr.mapM hm fun c c' v h1 h2 => (AM.back_rep hK hμ h1 h2).1, ?_⟩
    intro c' hc' b hb
    obtain ⟨i, hi⟩ := List.getElem?_of_mem hc'
    obtain ⟨c, hci, hcc⟩ := mapM?_get hm hi
    obtain ⟨u, _, hru⟩ := hr.get hci
    exact (AM.back_rep hK hμ hcc hru).2.1 b hb
  cases c with
  | c x =>
    simp only [V.back, Option.map_eq_some_iff] at hc
    obtain ⟨x', hx, rfl⟩ := hc
    obtain ⟨h1, h2, h3⟩ := AM.back_rep (μ' := μ') hK hμ hx h
    refine ⟨h1, h2, ?_, by simp⟩
    intro sz xs e
    simp only [V.c.injEq] at e
    exact hp.1 sz xs (by rw [(h3 sz xs).1 e])
  | view l sz xs => exact absurd rfl (hp.2 l sz xs)
  | rptr cs =>
    simp only [V.back, Option.some.injEq] at hc; subst hc
    obtain ⟨blk, off, vs, h1, h2, h3⟩ := h
    exact ⟨⟨blk, off, vs, h1, fun i u hu => ⟨hK _ _ (h2 i u hu).1, (h2 i u hu).2⟩, RepL.recolor hK _ _ h3⟩, by simp [V.ids], hp⟩
  | vagg cs =>
    simp only [V.back, Option.map_eq_some_iff] at hc
    obtain ⟨cs', hm, rfl⟩ := hc
    obtain ⟨vs, h1, h2, h3⟩ := h
    obtain ⟨q1, q2⟩ := many hm h2
    refine ⟨⟨vs, h1, q1, h3⟩, ?_, by simp [PlainV]⟩
    intro b hb
    simp only [V.ids, List.mem_flatMap] at hb
    obtain ⟨c, hc, hb⟩ := hb
    exact q2 c hc b hb
  | tuple cs =>
    simp only [V.back, Option.map_eq_some_iff] at hc
    obtain ⟨cs', hm, rfl⟩ := hc
    obtain ⟨vs, h1, h2⟩ := h
    obtain ⟨q1, q2⟩ := many hm h2
    refine ⟨⟨vs, h1, q1⟩, ?_, by simp [PlainV]⟩
    intro b hb
    simp only [V.ids, List.mem_flatMap] at hb
    obtain ⟨c, hc, hb⟩ := hb
    exact q2 c hc b hb

def ResOf (K : Col) (μ : Nat → Nat) (s : St) (a : Act) (w : World) (n : Nat) : ORes → Ending → Prop
  | .val v s', e => Sim K μ s' a w ∧ n ≤ s'.nid ∧ PlainV v ∧ (∀ b ∈ v.ids, b < s'.nid) ∧ s'.defers = s.defers ∧ ∃ u, e = .returned u ∧ RepV K μ w v u
  | .pan d s', e => Sim K μ s' a w ∧ n ≤ s'.nid ∧ s'.defers = s.defers ∧ ∃ u, e = .panicked [⟨u, false, false⟩] ∧ Rep K w d u

theorem doCall_sound {call : Call} (hcall : CallsOK P call) {f : Nat} {args : List C} {r : ORes} {ids : List Nat} (h : doCall call f args s = some (r, ids)) (hs : Sim K μ s a w)
    {vs : List Value} (hargs : RepCs K μ w args vs) :
    Calls P f vs.toArray w fun e w' => ∃ K' μ', After K μ w s.nid K' μ' w' ∧ ResOf K' μ' s a w' s.nid r e := by
  unfold doCall at h
  split at h
  · simp at h
  · rename_i ids₀ hreach
    obtain ⟨hn, ⟨_, _⟩, hin0⟩ := reach_spec hreach (by simp)
    have hin : ∀ b ∈ ids₀, b < s.nid := by
      intro b hb
      rcases hin0 b hb with hb | hb
      · simp at hb
      · obtain ⟨cells, hc⟩ := Option.isSome_iff_exists.1 hb
        exact (hs.heap b cells hc).1
    split at h
    · rename_i args' lh hargs' hlh
      obtain ⟨hrep, hlen⟩ := hrep_into hs hn hlh
      have hro : ∀ b o, K b o = .ro → tagIn ids₀ (K b o) = .ro := fun b o h => by rw [h]; rfl
      have hμ : ∀ i b, ids₀[i]? = some b → μ (ids₀.getD i 0) = μ b := fun i b h => by simp [List.getD, h]
      have hargr : RepCs (fun b o => tagIn ids₀ (K b o)) (fun i => μ (ids₀.getD i 0)) w args' vs :=
        hargs.mapM hargs' fun c c' v h1 h2 => (into_rep (K' := fun b o => tagIn ids₀ (K b o)) (μ' := fun i => μ (ids₀.getD i 0)) hro hμ h1 h2).1
      have hargi : ∀ c ∈ args', ∀ b ∈ c.ids, b < lh.length := by
        intro c' hc' b hb
        obtain ⟨i, hi⟩ := List.getElem?_of_mem hc'
        obtain ⟨c, hci, hcc⟩ := mapM?_get hargs' hi
        obtain ⟨u, _, hru⟩ := hargs.get hci
        rw [hlen]
        exact (into_rep (K' := fun b o => tagIn ids₀ (K b o)) (μ' := fun i => μ (ids₀.getD i 0)) hro hμ hcc hru).2.1 b hb
      have hbd : BoundK (fun b o => tagIn ids₀ (K b o)) w := fun blk off hl => by simp only [hs.bound blk off hl]; rfl
      split at h
      · rename_i v lh' hc
        split at h
        · rename_i lh'' v' hb1 hb2
          simp only [Option.some.injEq, Prod.mk.injEq] at h
          obtain ⟨rfl, rfl⟩ := h
          refine ((hcall _ _ _ _ hc).2 _ _ _ _ hargr hargi hrep hbd (hs.glob.recolor hro)).mono ?_
          rintro e w' ⟨Kc', μ', hst, hbd', hmu, hl1, hh, hpl, hvi, u, rfl, hru⟩
          rw [hlen] at hl1 hmu
          obtain ⟨K₂, μ₂, h1, h2, h3, h4, h5⟩ := sim_back hs hn hin hst hbd' hmu hh (k := lh'.length - ids₀.length) (by omega) hb1
          obtain ⟨q1, q2, q3⟩ := V.back_rep (μ' := μ₂) h3 h4 hb2 hru hpl
          refine ⟨K₂, μ₂, ⟨h1.mono fun t => handed_mine, h2⟩, h5, by show s.nid ≤ s.nid + _; omega, q3, ?_, rfl, u, rfl, q1⟩
          intro b hb
          have := q2 b hb
          rcases List.mem_append.1 this with hm | hm
          · have := hin b hm
            show b < s.nid + _
            omega
          · exact (idsFrom_mem.1 hm).2
        · simp at h
      · rename_i d lh' hc
        split at h
        · rename_i lh'' hb1
          simp only [Option.some.injEq, Prod.mk.injEq] at h
          obtain ⟨rfl, rfl⟩ := h
          refine ((hcall _ _ _ _ hc).2 _ _ _ _ hargr hargi hrep hbd (hs.glob.recolor hro)).mono ?_
          rintro e w' ⟨Kc', μ', hst, hbd', hmu, hl1, hh, u, rfl, hru⟩
          rw [hlen] at hl1 hmu
          have hnil : ids₀ ++ idsFrom s.nid 0 = ids₀ := by simp [idsFrom]
          obtain ⟨K₂, μ₂, h1, h2, h3, h4, h5⟩ := sim_back hs hn hin hst hbd' hmu hh (k := 0) (by omega) (by rw [hnil]; exact hb1)
          rw [hnil] at h5
          exact ⟨K₂, μ₂, ⟨h1.mono fun t => handed_mine, h2⟩, h5, Nat.le_refl _, rfl, u, rfl, Rep.recolor h3 _ _ hru⟩
        · simp at h
      · simp at h
    · simp at h

theorem doCall_callee {call : Call} (hcall : CallsOK P call) {f : Nat} {args : List C} {r : ORes × List Nat} (h : doCall call f args s = some r) : Callee P f := by
  unfold doCall at h
  split at h
  · simp at h
  · split at h
    · split at h
      · rename_i hc; exact (hcall _ _ _ _ hc).1
      · rename_i hc; exact (hcall _ _ _ _ hc).1
      · simp at h
    · simp at h

end
end Go.AM

/- append: within the capacity, or into a new array. -/
namespace Go.AM
open Go
variable [Globs]

section
variable {P : Program} {K K' : Col} {μ μ' : Nat → Nat} {w w' : World} {s : St} {a : Act}

theorem isSource_run {u : TypeId} (h : isSource P u = true) : (∃ e, P.underlying u = some (.slice e)) ∨ P.underlying u = some .string := by
  unfold isSource at h
  split at h
  · rename_i e hu; exact .inl ⟨e, hu⟩
  · rename_i hu; exact .inr hu
  · simp at h

/-- What is appended, as cells. -/
theorem appended_run {y : V} {sz : Nat} {ys : List D} {v : Value} (h : appended y = some (sz, ys)) (hr : RepV K μ w y v) : ∃ vs, RepEs K w sz ys vs ∧
    (∀ w, (Builtin.lenOf v).run P w = .ok ys.length w) ∧ ∀ w₁, (∀ b o, w₁.cell? (ad b o) = w.cell? (ad b o)) → (Builtin.firstCells sz ys.length v).run P w₁ = .ok (cellsOf vs).toArray w₁ := by
  unfold appended at h
  split at h
  · rename_i sz' xs hd
    simp only [Option.some.injEq, Prod.mk.injEq] at h
    obtain ⟨rfl, rfl⟩ := h
    have h1 := Go.AM.V.toD_rep hd hr
    simp only [Rep] at h1
    rcases h1 with ⟨rfl, rfl⟩ | ⟨blk, off, cap, rfl, _, he⟩
    · exact ⟨[], .nil, fun w => by simp [Builtin.lenOf], fun w₁ _ => by simp [Builtin.firstCells, cellsOf]⟩
    obtain ⟨vs, hes, hca⟩ := he.es
    refine ⟨vs, hes, fun w => by simp [Builtin.lenOf], fun w₁ hw => ?_⟩
    exact run_firstCells_some (P := P) w₁ sz' xs.length (ad blk off) xs.length cap (cellsOf vs) hes.cells fun j u hu => by
      rw [Addr.add_lit]
      exact (hw blk (off + j)).trans (hca j u hu).2
  · rename_i l hd
    simp only [Option.some.injEq, Prod.mk.injEq] at h
    obtain ⟨rfl, rfl⟩ := h
    have h1 := Go.AM.V.toD_rep hd hr
    simp only [Rep] at h1
    subst h1
    obtain ⟨hes, hcl⟩ := byteD_rep (K := K) (w := w) l
    refine ⟨_, hes, fun w => by simp [Builtin.lenOf, size_bytes], fun w₁ _ => ?_⟩
    rw [hcl]
    simp only [Builtin.firstCells, Sem.run_pure, List.length_map]
    congr 1
    have : (⟨l.toArray⟩ : ByteArray).extract 0 l.length = ⟨l.toArray⟩ := by
      apply ByteArray.ext; simp
    rw [this]
    simp
  · simp at h

theorem run_append_room' {t u ty e : TypeId} {sz m : Nat} {x : Value} {news : List Value} (ht : P.underlying t = some (.slice e)) (hu : isSource P u = true) (hsz : tsz P e = some sz)
    {b o n cap : Nat} (hlen : ∀ w, (Builtin.lenOf x).run P w = .ok m w) (hfirst : (Builtin.firstCells sz m x).run P w = .ok news.toArray w) (hroom : n + m ≤ cap)
    (hex : ∀ j, j < news.length → (w.cell? (ad b (o + n * sz + j))).isSome = true ∧ w.frozen? (ad b (o + n * sz + j)) = false) (h1 : ∀ v ∈ news, isOne v = true) :
    (Builtin.append_ #[t, u] ty #[.slice (some (ad b o)) n cap, x]).run P w = .ok (.slice (some (ad b o)) (n + m) cap) (w.setCells b (o + n * sz) news) := by
  have hst := run_storeCells_cells (P := P) b (o + n * sz) news 0 w (fun j hj => by simpa using (hex j hj).1) (fun j hj => by simpa using (hex j hj).2) (fun v hv => by rw [← isOne_eq]; exact h1 v hv)
  simp at hst
  rcases isSource_run hu with ⟨e', hu'⟩ | hu' <;>
    simp [Builtin.append_, run_underlying ht, run_underlying hu', sizeOf_run hsz, hlen, hfirst, hroom, Addr.add_lit, hst]

theorem run_append_new {t u ty e : TypeId} {sz m : Nat} {x z : Value} {inf : TypeInfo} {olds news : List Value} (ht : P.underlying t = some (.slice e)) (hu : isSource P u = true) (hsz : tsz P e = some sz)
    (hi : P.info? e = some inf) (hz : inf.zero = some z) {base : Option Addr} {n cap : Nat}
    (hlen : ∀ w, (Builtin.lenOf x).run P w = .ok m w) (hfirst : (Builtin.firstCells sz m x).run P w.drew = .ok news.toArray w.drew) (hroom : cap < n + m)
    (hold : (Builtin.firstCells sz n (.slice base n cap)).run P w.drew = .ok olds.toArray w.drew) (hbound : n + m ≤ 4294967296) (hb : inf.bytes ≤ 1024) :
    (Builtin.append_ #[t, u] ty #[.slice base n cap, x]).run P w = .ok (.slice (some (ad w.heap.size 0)) (n + m) (grownCap w (n + m) cap e))
      (w.drew.alloc (.cells (olds ++ news ++ (Builtin.zeroCells z.cells (grownCap w (n + m) cap e - (n + m))).toList).toArray e)) := by
  have hn : ¬ (n + m ≤ cap) := by omega
  have h63' : ¬ (9223372036854775807 < ((n : Int) + (m : Int))) := by omega
  have hnc := nextslicecap_le hroom
  have h48' : ¬ (281474976710656 < Builtin.nextslicecap (n + m) cap * inf.bytes) := by
    have h1 : Builtin.nextslicecap (n + m) cap * inf.bytes ≤ (2 * (n + m)) * 1024 := Nat.mul_le_mul hnc hb
    omega
  have hsz' : inf.size = sz := by simp [tsz, hi] at hsz; exact hsz
  rcases isSource_run hu with ⟨e', hu'⟩ | hu' <;>
  · simp [Builtin.append_, run_underlying ht, run_underlying hu', sizeOf_run hsz, hlen, hn, h63', h48', typeInfo, zeroValue, hi, hz, Question.forced, hfirst, hold, newRow, grownCap]
    congr 2
    apply Array.ext'
    simp [List.append_assoc]

end
end Go.AM

/- append, at the abstract machine. -/
namespace Go.AM
open Go
variable [Globs]

section
variable {P : Program} {K K' : Col} {μ μ' : Nat → Nat} {w w' : World} {s : St} {a : Act}

/-- The right to append is given up at a cell. -/
theorem Sim.plainCell (h : Sim K μ s a w) {b off sz : Nat} {xs : List D} {cells : List C} (hb : look b s.heap = some cells) (v : Value) (hv : w.cell? (ad (μ b) off) = some v)
    (hr : Rep K w (.list sz xs) v) : Sim K μ { s with heap := upd b (cells.set off (.d (.list sz xs))) s.heap } a w := by
  have back : ∀ {b' : Nat} {cells' : List C}, look b' (upd b (cells.set off (.d (.list sz xs))) s.heap) = some cells' →
      ∃ c0, look b' s.heap = some c0 ∧ (cells' = c0 ∨ (b' = b ∧ c0 = cells ∧ cells' = cells.set off (.d (.list sz xs)))) := by
    intro b' cells' h'
    by_cases e : b' = b
    · subst e
      rw [look_upd_same, Option.some.injEq] at h'
      exact ⟨cells, hb, .inr ⟨rfl, rfl, h'.symm⟩⟩
    · rw [look_upd_other e] at h'
      exact ⟨cells', h', .inl rfl⟩
  refine ⟨h.tm, h.tids, h.own, ?_, ?_, h.bound, h.defs, h.dids, h.glob⟩
  · intro t l z ys ht
    have hvw := h.view t l z ys ht
    cases l with
    | tmp u => exact hvw
    | cell b' off' =>
      intro cells' z' ys' hc hcc
      obtain ⟨c0, h0, h1⟩ := back hc
      rcases h1 with rfl | ⟨rfl, rfl, rfl⟩
      · exact hvw cells' z' ys' h0 hcc
      · by_cases ho : off' = off
        · subst ho
          rw [List.getElem?_set_self' ] at hcc
          cases hq : c0[off']? <;> simp [hq] at hcc
        · rw [List.getElem?_set_ne (by omega)] at hcc
          exact hvw c0 z' ys' h0 hcc
  · intro b' cells' hc
    obtain ⟨c0, h0, h1⟩ := back hc
    rcases h1 with rfl | ⟨rfl, rfl, rfl⟩
    · exact h.heap b' cells' h0
    · obtain ⟨k1, k2, k3, k4, k5⟩ := h.heap b' c0 h0
      refine ⟨k1, ?_, k3, k4, ?_⟩
      · intro c hc i hi
        rcases List.mem_or_eq_of_mem_set hc with hc | rfl
        · exact k2 c hc i hi
        · simp [C.ids] at hi
      · intro i c hi
        by_cases ho : i = off
        · subst ho
          have hlt : i < c0.length := by
            have := (List.getElem?_eq_some_iff.1 hi).1; simpa using this
          rw [List.getElem?_set_self hlt, Option.some.injEq] at hi
          subst hi
          obtain ⟨v', hv', g1, g2, _⟩ := k5 i c0[i] (by simp [hlt])
          rw [hv, Option.some.injEq] at hv'
          subst hv'
          exact ⟨v, hv, g1, g2, hr, by simp⟩
        · rw [List.getElem?_set_ne (by omega)] at hi
          exact k5 i c hi

theorem RepE.append : ∀ {xs ys : List D} {sz blk off : Nat}, RepE K w sz blk off xs → RepE K w sz blk (off + xs.length * sz) ys → RepE K w sz blk off (xs ++ ys)
  | [], ys, sz, blk, off, _, h => by simpa using h
  | x :: xs, ys, sz, blk, off, h1, h2 => by
    simp only [RepE] at h1
    simp only [List.cons_append, RepE]
    refine ⟨h1.1, RepE.append h1.2 ?_⟩
    rw [show off + sz + xs.length * sz = off + (x :: xs).length * sz from by simp only [List.length_cons, Nat.add_mul]; omega]
    exact h2

/-- What an operation that turned the state comes to. -/
def DoneS (P : Program) (K : Col) (μ : Nat → Nat) (s : St) (a : Act) (w : World) (o : Oper) (V : V) (s' : St) : Prop :=
  ∃ v K' w', (execOp a.eval o).run P w = .ok (.value v) w' ∧ Step mine K w K' w' ∧ Sim K' μ s' a w' ∧ Good K' μ s' a w' o.dst V v ∧ s'.nid = s.nid ∧ s'.defers = s.defers

def dstTag : Option Nat → Tag
  | some d => .sp (.tmp d)
  | none => .other

theorem mem_cellsOf : ∀ {vs : List Value} {x : Value}, x ∈ cellsOf vs → ∃ v ∈ vs, x ∈ v.cells.toList
  | [], x, h => by simp [cellsOf] at h
  | v :: vs, x, h => by
    simp only [cellsOf, List.mem_append] at h
    rcases h with h | h
    · exact ⟨v, by simp, h⟩
    · obtain ⟨u, hu, hx⟩ := mem_cellsOf h; exact ⟨u, by simp [hu], hx⟩

theorem isOne_cells {d : D} {v : Value} (h : Rep K w d v) : ∀ x ∈ v.cells.toList, isOne x = true := (RepL.cs (μ := fun _ => 0) (rep_cells h)).2

theorem RepEs.ones {sz : Nat} {ds : List D} {vs : List Value} (h : RepEs K w sz ds vs) : ∀ x ∈ cellsOf vs, isOne x = true := by
  induction h with
  | nil => simp [cellsOf]
  | cons h1 _ _ ih =>
    intro x hx
    simp only [cellsOf, List.mem_append] at hx
    rcases hx with hx | hx
    · exact isOne_cells h1 x hx
    · exact ih x hx

theorem zeroCells_length (z : Array Value) (n : Nat) : (Builtin.zeroCells z n).toList.length = n * z.size := by simp [Builtin.zeroCells]

/-- Appending to nothing. -/
theorem append_nil_core {t u ty e : TypeId} {n : Nat} {inf : TypeInfo} {z : Value} (ht : P.underlying t = some (.slice e)) (hu : isSource P u = true) (hn : tsz P e = some n)
    (hi : P.info? e = some inf) (hz : inf.zero = some z) (hzs : z.cells.size = n) (hb : inf.bytes ≤ 1024)
    {ys : List D} {y : Value} {vs : List Value} (dst : Option Nat) (hys : RepEs K w n ys vs)
    (hlen : ∀ w, (Builtin.lenOf y).run P w = .ok ys.length w) (hfirst : ∀ w₁, (∀ b o, w₁.cell? (ad b o) = w.cell? (ad b o)) → (Builtin.firstCells n ys.length y).run P w₁ = .ok (cellsOf vs).toArray w₁)
    (hmax : ys.length ≤ 4294967296) (hbd : BoundK K w) :
    ∃ v K' w', (Builtin.append_ #[t, u] ty #[.slice none 0 0, y]).run P w = .ok v w' ∧ Step (fun _ => False) K w K' w' ∧ BoundK K' w' ∧
      Rep K' w' (.list n ys) v ∧ ∀ d, dst = some d → Spare K' w' (.tmp d) n v := by
  by_cases hne : ys = []
  · -- nothing, behind nothing
    subst hne
    have hrun : (Builtin.append_ #[t, u] ty #[.slice none 0 0, y]).run P w = .ok (.slice none 0 0) w := by
      have hf := hfirst w fun _ _ => rfl
      cases hys
      simp only [cellsOf, List.length_nil] at hf
      rcases isSource_run hu with ⟨e', hu'⟩ | hu' <;>
        simp [Builtin.append_, run_underlying ht, run_underlying hu', sizeOf_run hn, hlen, hf]
    exact ⟨_, K, w, hrun, Step.refl _ _ _, hbd, by simp [Rep], fun d _ => .inl rfl⟩
  have hold : (Builtin.firstCells n 0 (.slice none 0 0)).run P w.drew = .ok (([] : List Value).toArray) w.drew := by simp [Builtin.firstCells]
  have hrun := run_append_new (P := P) (w := w) (ty := ty) (news := cellsOf vs) ht hu hn hi hz (n := 0) (cap := 0) hlen (hfirst w.drew fun _ _ => rfl)
    (by have := List.length_pos_iff.2 hne; omega) hold (by simpa using hmax) hb
  have hle := le_grownCap w ys.length e 0
  have hll := hys.cells
  let f : Nat → Tag := fun i => if i < ys.length * n then .ro else dstTag dst
  have hom := oneMore_drew w (.cells (cellsOf vs ++ (Builtin.zeroCells z.cells (grownCap w ys.length 0 e - ys.length)).toList).toArray e)
  simp only [List.nil_append, Nat.zero_add] at hrun
  refine ⟨_, colNew K w.heap.size f, _, hrun, (hom.step f).mono (by simp), hom.bound hbd f, ?_, ?_⟩
  · exact rep_new (K := K) (w := w) (cap := grownCap w ys.length 0 e) f (by intro i hi'; rw [hll] at hi'; simp [f, hi']) hom hys hle
  · intro d hd
    refine .inr ⟨w.heap.size, 0, ys.length, _, rfl, hle, fun j hj hj' => ⟨?_, ?_, ?_⟩⟩
    · simp only [colNew, if_true, Nat.zero_add, f, hd]
      rw [if_neg (by omega)]; rfl
    · rw [hom.cell, Nat.zero_add]
      simp only [List.getElem?_toArray]
      rw [getElem?_pos _ _ (by
        rw [List.length_append, hll, zeroCells_length, hzs, ← Nat.add_mul]
        rw [show ys.length + (grownCap w ys.length 0 e - ys.length) = grownCap w ys.length 0 e from by omega]
        exact hj')]
      rfl
    · rw [hom.frozen]; simp
/-- The slice that comes of appending to one whose spare cells are a place's own. -/
theorem append_core {t u ty e : TypeId} {n : Nat} {inf : TypeInfo} {z : Value} (ht : P.underlying t = some (.slice e)) (hu : isSource P u = true) (hn : tsz P e = some n)
    (hi : P.info? e = some inf) (hz : inf.zero = some z) (hzs : z.cells.size = n) (hb : inf.bytes ≤ 1024)
    {l : Loc} {xs ys : List D} {vx y : Value} {vs : List Value} (dst : Option Nat)
    (hx : Rep K w (.list n xs) vx) (hsp : Spare K w l n vx) (hys : RepEs K w n ys vs)
    (hlen : ∀ w, (Builtin.lenOf y).run P w = .ok ys.length w) (hfirst : ∀ w₁, (∀ b o, w₁.cell? (ad b o) = w.cell? (ad b o)) → (Builtin.firstCells n ys.length y).run P w₁ = .ok (cellsOf vs).toArray w₁)
    (hmax : xs.length + ys.length ≤ 4294967296) (hbd : BoundK K w) :
    ∃ v K' w', (Builtin.append_ #[t, u] ty #[vx, y]).run P w = .ok v w' ∧ Step (fun t => t = .sp l) K w K' w' ∧ BoundK K' w' ∧
      Rep K' w' (.list n (xs ++ ys)) v ∧ ∀ d, dst = some d → Spare K' w' (.tmp d) n v := by
  simp only [Rep] at hx
  rcases hx with ⟨rfl, rfl⟩ | hx
  · obtain ⟨v, K', w', r1, r2, r3, r4, r5⟩ := append_nil_core (P := P) (ty := ty) ht hu hn hi hz hzs hb dst hys hlen hfirst (by simpa using hmax) hbd
    exact ⟨v, K', w', r1, r2.mono (by simp), r3, by simpa using r4, r5⟩
  obtain ⟨blk, off, cap, rfl, hcap, hxe⟩ := hx
  rcases hsp with hsp | ⟨blk', off', len', cap', e1, e2, e3⟩
  · simp at hsp
  simp only [Value.slice.injEq, Option.some.injEq, Addr.mk.injEq, and_true] at e1
  obtain ⟨⟨rfl, rfl⟩, rfl, rfl⟩ := e1
  have hcl := hys.cells
  by_cases hroom : xs.length + ys.length ≤ cap
  · -- within the capacity
    have hmul : (xs.length + ys.length) * n ≤ cap * n := Nat.mul_le_mul_right _ hroom
    have hadd : (xs.length + ys.length) * n = xs.length * n + ys.length * n := Nat.add_mul _ _ _
    have hex : ∀ j, j < (cellsOf vs).length → (w.cell? (ad blk (off + xs.length * n + j))).isSome = true ∧ w.frozen? (ad blk (off + xs.length * n + j)) = false ∧ K blk (off + xs.length * n + j) = .sp l := by
      intro j hj
      have := e3 (xs.length * n + j) (by omega) (by omega)
      rw [← Nat.add_assoc] at this
      exact ⟨this.2.1, this.2.2, this.1⟩
    have hrun := run_append_room' (P := P) (ty := ty) ht hu hn hlen (hfirst w fun _ _ => rfl) hroom (fun j hj => ⟨(hex j hj).1, (hex j hj).2.1⟩) hys.ones
    let K' : Col := fun b o => if K b o = .sp l then (if b = blk ∧ off + xs.length * n ≤ o ∧ o < off + (xs.length + ys.length) * n then .ro else dstTag dst) else K b o
    have hst : Step (fun t => t = .sp l) K w K' (w.setCells blk (off + xs.length * n) (cellsOf vs)) :=
      step_setCells (fun j hj => (hex j hj).2.2) fun b o hn => if_neg hn
    refine ⟨_, K', _, hrun, hst, ?_, ?_, ?_⟩
    · intro b o hl
      rw [setCells_size] at hl
      simp only [K', hbd b o hl]; simp
    · simp only [Rep]
      refine .inr ⟨blk, off, cap, by simp, by simpa using hroom, RepE.append (RepE.step hst (by simp) _ _ _ _ hxe) ?_⟩
      refine (hys.step hst (by simp)).lies ?_
      intro i v hv
      have hi' := (List.getElem?_eq_some_iff.1 hv).1
      have hc := World.cell?_setCells_in blk (cellsOf vs) (off + xs.length * n) w (fun j hj => (hex j hj).1) i hi'
      refine ⟨?_, ?_⟩
      · simp only [K', (hex i hi').2.2, if_true]
        rw [if_pos ⟨by first | rfl | trivial, by omega, by omega⟩]
      · rw [(List.getElem?_eq_some_iff.1 hv).2] at hc; exact hc
    · intro d hd
      subst hd
      refine .inr ⟨blk, off, xs.length + ys.length, cap, rfl, hroom, fun j hj hj' => ?_⟩
      obtain ⟨t1, t2, t3⟩ := e3 j (by omega) hj'
      refine ⟨?_, ?_, by rw [World.frozen?_setCells]; exact t3⟩
      · simp only [K', t1, if_true]
        rw [if_neg (by omega)]; rfl
      · rw [World.cell?_setCells_out]
        · exact t2
        · intro _ _; simp only; omega
  · -- a new array
    obtain ⟨vo, hvo, hco⟩ := hxe.es
    have hold : (Builtin.firstCells n xs.length (.slice (some (ad blk off)) xs.length cap)).run P w.drew = .ok (cellsOf vo).toArray w.drew :=
      run_firstCells_some (P := P) w.drew n xs.length (ad blk off) xs.length cap (cellsOf vo) hvo.cells fun j u hu => by
        rw [Addr.add_lit]; exact (hco j u hu).2
    have hrun := run_append_new (P := P) (ty := ty) ht hu hn hi hz hlen (hfirst w.drew fun _ _ => rfl) (by omega) hold hmax hb
    have hes : RepEs K w n (xs ++ ys) (vo ++ vs) := by
      have aux : ∀ {a b : List D} {c d : List Value}, RepEs K w n a c → RepEs K w n b d → RepEs K w n (a ++ b) (c ++ d) := by
        intro a b c d h1 h2
        induction h1 with
        | nil => exact h2
        | cons q1 q2 _ ih => exact .cons q1 q2 ih
      exact aux hvo hys
    have happ : ∀ l1 l2 : List Value, cellsOf (l1 ++ l2) = cellsOf l1 ++ cellsOf l2 := by
      intro l1 l2
      induction l1 with
      | nil => simp [cellsOf]
      | cons x l ih => simp [cellsOf, ih, List.append_assoc]
    rw [← happ] at hrun
    have hle := le_grownCap w (xs.length + ys.length) e cap
    have hll : (cellsOf (vo ++ vs)).length = (xs.length + ys.length) * n := by
      have := hes.cells; simpa using this
    let f : Nat → Tag := fun i => if i < (xs.length + ys.length) * n then .ro else dstTag dst
    have hom := oneMore_drew w (.cells (cellsOf (vo ++ vs) ++ (Builtin.zeroCells z.cells (grownCap w (xs.length + ys.length) cap e - (xs.length + ys.length))).toList).toArray e)
    refine ⟨_, colNew K w.heap.size f, _, hrun, (hom.step f).mono (by simp), hom.bound hbd f, ?_, ?_⟩
    · have := rep_new (K := K) (w := w) (cap := grownCap w (xs.length + ys.length) cap e) f (by intro i hi'; rw [hll] at hi'; simp [f, hi']) hom hes (by simpa using hle)
      simpa using this
    · intro d hd
      subst hd
      refine .inr ⟨w.heap.size, 0, xs.length + ys.length, _, rfl, hle, fun j hj hj' => ⟨?_, ?_, ?_⟩⟩
      · simp only [colNew, if_true, Nat.zero_add, f]
        rw [if_neg (by omega)]; rfl
      · rw [hom.cell, Nat.zero_add]
        simp only [List.getElem?_toArray]
        rw [getElem?_pos _ _ (by
          rw [List.length_append, hll, zeroCells_length, hzs, ← Nat.add_mul]
          rw [show xs.length + ys.length + (grownCap w (xs.length + ys.length) cap e - (xs.length + ys.length)) = grownCap w (xs.length + ys.length) cap e from by omega]
          exact hj')]
        rfl
      · rw [hom.frozen]; simp

end
end Go.AM

/- Every operation of the abstract machine is one of the model's. -/
namespace Go.AM
open Go
variable [Globs]

section
variable {P : Program} {K K' : Col} {μ μ' : Nat → Nat} {w w' : World} {s : St} {a : Act}

theorem sp_mine {l : Loc} {t : Tag} (h : t = .sp l) : mine t := by subst h; simp [mine]

theorem zeroFits_some {e : TypeId} {n : Nat} (h : zeroFits P e n = true) : ∃ inf z, P.info? e = some inf ∧ inf.zero = some z ∧ z.cells.size = n := by
  unfold zeroFits at h
  split at h
  · rename_i z hz
    split at h
    · rename_i cs hcs
      obtain ⟨v, _, hr, _, inf, hi, hz'⟩ := tzero_rep (P := P) (K := fun _ _ => .other) (μ := fun _ => 0) (w := default) hz
      have := (V.cells_rep hcs hr).1.length
      simp at h this
      exact ⟨inf, v, hi, hz', by omega⟩
    · simp at h
  · simp at h

theorem ev_const_view {tm : List (Nat × V)} (v : Value) {l : Loc} {sz : Nat} {xs : List D} : ev tm (.const v) ≠ some (.view l sz xs) := V.ofValue_no_view

theorem evT_const_own {P : Program} {t : TypeId} {tm : List (Nat × V)} {x : Operand} {sz : Nat} {xs : List D} (h : evT P t tm x = some (.c (.own sz xs))) : ∃ u, x = .tmp u ∧ look u tm = some (.c (.own sz xs)) := by
  have h := evT_own h
  cases x with
  | tmp u => exact ⟨u, rfl, h⟩
  | const v => exact absurd h V.ofValue_no_own
  | global g => simp [ev] at h
  | func f => simp [ev] at h

theorem owns_plainAt {u : Nat} {l : Loc} (h : ownsAt { s with tmps := AM.plainAt u s.tmps } l) : l ≠ .tmp u := by
  rintro rfl
  obtain ⟨sz, xs, h⟩ := h
  exact not_own_plainAt u s.tmps sz xs h

theorem owns_plainCell {b off sz : Nat} {xs : List D} {cells : List C} {l : Loc} (hb : look b s.heap = some cells) (h : ownsAt { s with heap := upd b (cells.set off (.d (.list sz xs))) s.heap } l) : l ≠ .cell b off := by
  rintro rfl
  obtain ⟨cells', z, ys, h1, h2⟩ := h
  rw [show look b ({ s with heap := upd b (cells.set off (.d (.list sz xs))) s.heap } : St).heap = look b (upd b (cells.set off (.d (.list sz xs))) s.heap) from rfl, look_upd_same, Option.some.injEq] at h1
  subst h1
  rw [List.getElem?_set_self'] at h2
  cases hq : cells[off]? <;> simp [hq] at h2

theorem op_append (hs : Sim K μ s a w) {o : Oper} {c : Go.Call} {t u : TypeId} {x y : Operand} (ho : o.op = .call c) (hc : c.callee = .builtin .append)
    (hargs : c.args.toList = [x, y]) (hty : c.argTypes.toList = [t, u]) {V : V} {s' : St} (h : doAppend P t u x y s = some (V, s')) : DoneS P K μ s a w o V s' := by
  have hargs' : c.args = #[x, y] := by apply Array.ext'; simpa using hargs
  have hty' : c.argTypes = #[t, u] := by apply Array.ext'; simpa using hty
  have exec : ∀ {v : Value} {w' : World}, (Builtin.append_ #[t, u] o.type #[a.eval x, a.eval y]).run P w = .ok v w' → (execOp a.eval o).run P w = .ok (.value v) w' := by
    intro v w' hr
    simp [execOp, ho, resolve, hc, hargs', hty', invoke, builtin, hr]
  unfold doAppend at h
  split at h
  · rename_i e vx sz' ys ht hx hy
    have hte := telem_some ht
    rw [Option.bind_eq_some_iff] at hy
    obtain ⟨vy, hvy, happ⟩ := hy
    have hyr := evT_rep hs hvy
    have hxr := evT_rep hs hx
    split at h
    · rename_i n hn hu
      split at h
      · rename_i hcond
        obtain ⟨rfl, hb, hzf⟩ := hcond
        obtain ⟨inf, z, hi, hz, hzs⟩ := zeroFits_some hzf
        have hb' : inf.bytes ≤ 1024 := by simpa [Program.bytesOf, hi] using hb
        obtain ⟨vs, hes, hlen, hfirst⟩ := appended_run (P := P) happ hyr
        have core : ∀ {l : Loc} {xs : List D}, Rep K w (.list sz' xs) (a.eval x) → Spare K w l sz' (a.eval x) → xs.length + ys.length ≤ 4294967296 →
            ∀ s' : St, Sim K μ s' a w → (∀ l', ownsAt s' l' → l' ≠ l) → s'.nid = s.nid → s'.defers = s.defers → DoneS P K μ s a w o (.c (.own sz' (xs ++ ys))) s' := by
          intro l xs h1 h2 h3 s' h4 h5 h6 h7
          obtain ⟨v, K', w', r1, r2, r3, r4, r5⟩ := append_core (P := P) (ty := o.type) hte hu hn hi hz hzs hb' o.dst h1 h2 hes hlen hfirst h3 hs.bound
          refine ⟨v, K', w', exec r1, r2.mono fun t => sp_mine, ?_, ⟨r4, by simp [Go.AM.V.ids, C.ids], ?_, by simp⟩, h6, h7⟩
          · refine h4.step r2 (by simp) (by simp) ?_ r3
            intro l' hl' e'
            simp only [Tag.sp.injEq] at e'
            exact h5 l' hl' e'
          · intro sz' xs' e' t' ht'
            simp only [Go.AM.V.c.injEq, C.own.injEq] at e'
            rw [← e'.1]; exact r5 t' ht'
        split at h
        · split at h
          · rename_i hmax
            simp only [Option.some.injEq, Prod.mk.injEq] at h
            obtain ⟨rfl, rfl⟩ := h
            simp only [RepV, RepC] at hxr
            obtain ⟨v, K', w', r1, r2, r3, r4, r5⟩ := append_nil_core (P := P) (ty := o.type) hte hu hn hi hz hzs hb' o.dst hes hlen hfirst hmax hs.bound
            rw [← hxr] at r1
            refine ⟨v, K', w', exec r1, r2.mono (by simp), ?_, ⟨r4, by simp [Go.AM.V.ids, C.ids], ?_, by simp⟩, rfl, rfl⟩
            · exact hs.step r2 (by simp) (by simp) (by simp) r3
            · intro sz' xs' e' t' ht'
              simp only [Go.AM.V.c.injEq, C.own.injEq] at e'
              rw [← e'.1]; exact r5 t' ht'
          · simp at h
        · rename_i sz xs
          obtain ⟨v, rfl, hv⟩ := evT_const_own hx
          simp only at h
          split at h
          · rename_i hc2
            obtain ⟨rfl, hmax⟩ := hc2
            simp only [Option.some.injEq, Prod.mk.injEq] at h
            obtain ⟨rfl, rfl⟩ := h
            exact core (l := .tmp v) hxr (hs.own v _ _ hv) hmax _ (hs.plainAt v) (fun l' hl' => owns_plainAt hl') rfl rfl
          · simp at h
        · rename_i v sz xs
          replace hx := evT_view hx
          split at h
          · rename_i sz'' xs'' hv
            split at h
            · rename_i hc2
              obtain ⟨rfl, rfl, hmax⟩ := hc2
              simp only [Option.some.injEq, Prod.mk.injEq] at h
              obtain ⟨rfl, rfl⟩ := h
              cases x with
              | tmp tx =>
                have h1 := hs.view tx _ _ _ hx _ _ hv
                have h2 := hs.own v _ _ hv
                rw [h1] at h2
                exact core (l := .tmp v) hxr h2 hmax _ (hs.plainAt v) (fun l' hl' => owns_plainAt hl') rfl rfl
              | const cv => exact absurd hx (ev_const_view cv)
              | global g => simp [ev] at hx
              | func f => simp [ev] at hx
            · simp at h
          · simp at h
        · rename_i b off sz xs
          replace hx := evT_view hx
          split at h
          · rename_i cells hcells
            split at h
            · rename_i sz'' xs'' hcc
              split at h
              · rename_i hc2
                obtain ⟨rfl, rfl, hmax⟩ := hc2
                simp only [Option.some.injEq, Prod.mk.injEq] at h
                obtain ⟨rfl, rfl⟩ := h
                cases x with
                | tmp tx =>
                  have h1 := hs.view tx _ _ _ hx _ _ _ hcells hcc
                  obtain ⟨vv, g1, _, _, _, g5⟩ := (hs.heap b cells hcells).2.2.2.2 off _ hcc
                  rw [h1, Option.some.injEq] at g1
                  have h2 := g5 _ _ rfl
                  rw [← g1] at h2
                  exact core (l := .cell b off) hxr h2 hmax _ (hs.plainCell hcells _ h1 hxr) (fun l' hl' => owns_plainCell hcells hl') rfl rfl
                | const cv => exact absurd hx (ev_const_view cv)
                | global g => simp [ev] at hx
                | func f => simp [ev] at hx
              · simp at h
            · simp at h
          · simp at h
        · simp at h
      · simp at h
    · simp at h
  · simp at h

end
end Go.AM

/- Every operation of the abstract machine, at the model's rule for operations. -/
namespace Go.AM
open Go
variable [Globs]

/-- All temporaries that a piece of code sets. -/
def dstsBelow (n : Nat) : Code → Bool
  | .region _ ops _ => ops.toList.all fun o => match o.dst with | some d => decide (d < n) | none => true
  | .seq a b => dstsBelow n a && dstsBelow n b
  | .cond _ a b => dstsBelow n a && dstsBelow n b
  | .block _ c => dstsBelow n c
  | .loop c => dstsBelow n c
  | .scope c => dstsBelow n c
  | _ => true

/-- No function bears a name that the model keeps for itself; each sets its own temporaries alone. -/
def funcOK (fn : Func) : Bool :=
  !(fn.name == "runtime.NumGoroutine") && match fn.body with | some c => dstsBelow fn.ntmps c | none => true

structure ProgOK (P : Program) : Prop where
  func : ∀ (f : Nat) (fn : Func), P.funcs[f]? = some fn → funcOK fn = true
  mixed : P.follows .mixedOrders = true

section
variable {P : Program} {K K' : Col} {μ μ' : Nat → Nat} {w w' : World} {s : St} {a : Act}

/-- Temporaries are forgotten, views made plain. -/
theorem Sim.weaken (h : Sim K μ s a w) {tm : List (Nat × V)} (hb : ∀ t v, look t tm = some v → ∃ v', look t s.tmps = some v' ∧ (v = v' ∨ ∃ l sz xs, v' = .view l sz xs ∧ v = .d (.list sz xs))) :
    Sim K μ { s with tmps := tm } a w := by
  refine ⟨?_, ?_, ?_, ?_, h.heap, h.bound, h.defs, h.dids, h.glob⟩
  · intro t V ht
    obtain ⟨v', h1, h2⟩ := hb t V ht
    refine ⟨(h.tm t v' h1).1, ?_⟩
    rcases h2 with rfl | ⟨l', sz, xs, rfl, rfl⟩
    · exact (h.tm t _ h1).2
    · exact (h.tm t _ h1).2
  · intro t V ht b hbb
    obtain ⟨v', h1, h2⟩ := hb t V ht
    rcases h2 with rfl | ⟨l', sz, xs, rfl, rfl⟩
    · exact h.tids t _ h1 b hbb
    · simp [Go.AM.V.ids, C.ids] at hbb
  · intro t sz xs ht
    obtain ⟨v', h1, h2⟩ := hb t _ ht
    rcases h2 with rfl | ⟨l', sz', xs', rfl, e⟩
    · exact h.own t sz xs h1
    · simp at e
  · intro t l' sz xs ht
    obtain ⟨v', h1, h2⟩ := hb t _ ht
    rcases h2 with rfl | ⟨l'', sz', xs', rfl, e⟩
    · have hv := h.view t l' sz xs h1
      cases l' with
      | cell b off => exact hv
      | tmp k =>
        intro z ys hk
        obtain ⟨v'', h3, h4⟩ := hb k _ hk
        rcases h4 with rfl | ⟨_, _, _, rfl, e⟩
        · exact hv z ys h3
        · simp at e
    · simp at e

theorem Sim.unviewIn (h : Sim K μ s a w) (ids : List Nat) : Sim K μ { s with tmps := AM.unviewIn ids s.tmps } a w := by
  refine h.weaken fun t v ht => ?_
  obtain ⟨v', h1, h2, _⟩ := back_unviewIn ht
  refine ⟨v', h1, ?_⟩
  rcases h2 with rfl | ⟨b, off, sz, xs, e1, e2⟩
  · exact .inl rfl
  · exact .inr ⟨_, sz, xs, e1, e2⟩

theorem mem_key {t : Nat} {v : V} : ∀ {l : List (Nat × V)}, look t l = some v → ∃ u, (t, u) ∈ l
  | [], h => by simp [look] at h
  | (j, u) :: r, h => by
    simp only [look] at h
    split at h
    · rename_i hj
      subst hj
      exact ⟨u, by simp⟩
    · obtain ⟨w, hw⟩ := mem_key h
      exact ⟨w, List.mem_cons_of_mem _ hw⟩

theorem noView_spec {id : Nat} {tm : List (Nat × V)} (h : noView id tm = true) (t off sz : Nat) (xs : List D) : look t tm ≠ some (.view (.cell id off) sz xs) := by
  intro hl
  obtain ⟨u, hu⟩ := mem_key hl
  simp only [noView, List.all_eq_true] at h
  have := h _ hu
  simp [hl] at this

theorem noView_of {id : Nat} {tm : List (Nat × V)} (h : ∀ (t off sz : Nat) (xs : List D), look t tm ≠ some (.view (.cell id off) sz xs)) : noView id tm = true := by
  simp only [noView, List.all_eq_true]
  rintro ⟨t, v⟩ _
  cases hl : look t tm with
  | none => rfl
  | some u =>
    cases u with
    | view l sz xs =>
      cases l with
      | cell b off =>
        by_cases hb : b = id
        · subst hb; exact absurd hl (h t off sz xs)
        · simp [hb]
      | tmp _ => rfl
    | _ => rfl

theorem callFunc_run (hP : ProgOK P) {f : Nat} (hf : Callee P f) (args : Array Value) (w : World) : (callFunc f args).run P w = .ok (.enter f args) w := by
  obtain ⟨fn, h1, h2⟩ := hf
  have h3 := hP.func f fn h1
  simp only [funcOK, Bool.and_eq_true, Bool.not_eq_true'] at h3
  replace h3 := h3.1
  obtain ⟨c, hc⟩ := Option.isSome_iff_exists.1 h2
  simp [callFunc, h1, hc]
  intro h
  rw [beq_eq_false_iff_ne] at h3
  exact absurd h h3

/-- What is to be shown behind an operation. -/
structure Behind (P : Program) (K : Col) (μ : Nat → Nat) (s : St) (a : Act) (w : World) (o : Oper) (r : ORes) (next : Act → World → Prop) (Q : Exit → Act → World → Prop) : Prop where
  val : ∀ V s' K' μ' a' w', r = .val V s' → After K μ w s.nid K' μ' w' → s.nid ≤ s'.nid → Sim K' μ' (putDst o V s') a' w' → a'.tmps.size = a.tmps.size → next a' w'
  pan : ∀ d s' K' μ' w' u, r = .pan d s' → After K μ w s.nid K' μ' w' → s.nid ≤ s'.nid → Sim K' μ' s' a w' → Rep K' w' d u → Q (.panic [⟨u, false, false⟩]) a w'

theorem behind_val {o : Oper} {V : V} {s' : St} {next : Act → World → Prop} {Q : Exit → Act → World → Prop} (hb : Behind P K μ s a w o (.val V s') next Q)
    (hst : Step mine K w K' w') (hmu : ∀ b, b < s.nid → μ' b = μ b) (hnid : s.nid ≤ s'.nid) (hs' : Sim K' μ' s' a w') (hd : ∀ t, o.dst = some t → t < a.tmps.size) {v : Value} (hg : Good K' μ' s' a w' o.dst V v) :
    next (a.put o.dst v) w' := by
  refine hb.val V s' K' μ' (a.put o.dst v) w' rfl ⟨hst, hmu⟩ hnid ?_ (put_size _ _ _)
  exact hs'.put hd hg

/-- A state with a new block, if there is one. -/
def addNb (nb : Option (List C)) (s : St) : St :=
  match nb with
  | none => s
  | some cs => { s with heap := (s.nid, cs) :: s.heap, nid := s.nid + 1 }

theorem Step.none_mine {K : Col} {w : World} {K' : Col} {w' : World} (h : Step (fun _ => False) K w K' w') : Step mine K w K' w' := h.mono (by simp)

theorem op_quiet {o : Oper} (hs : Sim K μ s a w) (hd : ∀ t, o.dst = some t → t < a.tmps.size) {V : V} {nb : Option (List C)} (h : evR P s.nid o s.tmps s.heap = some (V, nb))
    {next : Act → World → Prop} {Q : Exit → Act → World → Prop}
    (hnv : nb.isSome = true → noView s.nid s.tmps = true) (hb : Behind P K μ s a w o (.val V (addNb nb s)) next Q) : o.wp P a w next Q := by
  rcases evR_sound hs h with ⟨rfl, v, K', w', hrun, hst, hbd, hg⟩ | ⟨cs, rfl, rfl, arr, e, hrun, hcs⟩
  · simp only [Oper.wp, hrun, Oper.upon_value]
    refine behind_val hb hst.none_mine (fun _ _ => rfl) (Nat.le_refl _) ?_ hd hg
    exact hs.step hst (by simp) (by simp) (by simp) hbd
  · simp only [Oper.wp, hrun, Oper.upon_value]
    have hom := oneMore_alloc w (.cells arr e)
    have hs1 : Sim (colNew K w.heap.size fun _ => .blk s.nid) μ s a (w.alloc (.cells arr e)) :=
      hs.step (hom.step fun _ => .blk s.nid) (by simp) (by simp) (by simp) (hom.bound hs.bound _)
    obtain ⟨h1, h2, h3, h4⟩ := hcs μ hs
    have hcell : ∀ i v, arr.toList[i]? = some v → (w.alloc (.cells arr e)).cell? (ad w.heap.size i) = some v ∧ (w.alloc (.cells arr e)).frozen? (ad w.heap.size i) = false := by
      intro i v hv
      refine ⟨?_, by rw [hom.frozen]; simp⟩
      rw [hom.cell]
      simpa using hv
    have hs2 := hs1.addBlk (g := w.heap.size) (cs := cs) (vs := arr.toList) (by simp) (fun off => by simp [colNew]) hcell (h1.step (hom.step fun _ => .blk s.nid) (by simp)) h2 h3 h4 (noView_spec (hnv rfl))
    refine behind_val hb (hom.step fun _ => .blk s.nid).none_mine (fun b hb => muSet_other μ _ (by omega)) (by show s.nid ≤ s.nid + 1; omega) hs2 hd ⟨?_, ?_, by simp, by simp⟩
    · simp only [RepV, RepC, muSet_same]
    · intro b hb
      simp [V.ids, C.ids] at hb
      subst hb
      show s.nid < s.nid + 1
      omega

theorem op_doneS {o : Oper} (hd : ∀ t, o.dst = some t → t < a.tmps.size) {V : V} {s' : St} (h : DoneS P K μ s a w o V s') {next : Act → World → Prop} {Q : Exit → Act → World → Prop}
    (hb : Behind P K μ s a w o (.val V s') next Q) : o.wp P a w next Q := by
  obtain ⟨v, K', w', hrun, hst, hs', hg, hnid, _⟩ := h
  simp only [Oper.wp, hrun, Oper.upon_value]
  exact behind_val hb hst (fun _ _ => rfl) (by omega) hs' hd hg

theorem done_assign (hs : Sim K μ s a w) {o : Oper} {x : Operand} (ho : o.op = .assign x) {call : Call} {r : ORes} {ft : Foot} (h : evOp P call s.nid o s = some (r, ft)) :
    ∃ V s', r = .val V s' ∧ DoneS P K μ s a w o V s' := by
  have hrun : (execOp a.eval o).run P w = .ok (.value (a.eval x)) w := by simp [execOp, ho]
  simp only [evOp, ho] at h
  split at h
  · rename_i sz xs hx
    split at h
    · rename_i u
      simp only [Option.some.injEq, Prod.mk.injEq] at h
      obtain ⟨rfl, rfl⟩ := h
      refine ⟨_, _, rfl, a.eval (.tmp u), ?_⟩
      have hr := evT_rep hs hx
      replace hx := evT_own hx
      have hsp := hs.own u sz xs hx
      cases hdst : o.dst with
      | none =>
        exact ⟨K, w, hrun, Step.refl _ _ _, hs.plainAt u, ⟨hr, by simp [V.ids, C.ids], by intro _ _ _ t ht; simp at ht, by simp⟩, rfl, rfl⟩
      | some d =>
        have hst := step_move K w (.tmp u) (.tmp d)
        refine ⟨colMove K (.tmp u) (.tmp d), w, hrun, hst.mono fun t => sp_mine, ?_, ⟨hr.step hst (by simp), by simp [V.ids, C.ids], ?_, by simp⟩, rfl, rfl⟩
        · refine (hs.plainAt u).step hst (by simp) (by simp) ?_ (bound_move hs.bound _ _)
          intro l hl e
          simp only [Tag.sp.injEq] at e
          exact owns_plainAt hl e
        · intro sz' xs' e t ht
          simp only [V.c.injEq, C.own.injEq] at e
          simp only [Option.some.injEq] at ht
          subst ht
          rw [← e.1]
          exact hsp.move
    · simp at h
  · rename_i n hx
    simp only [Option.some.injEq, Prod.mk.injEq] at h
    obtain ⟨rfl, rfl⟩ := h
    have hq := evT_rep hs hx
    simp only [RepV, RepC] at hq
    exact ⟨_, _, rfl, a.eval x, K, w, hrun, Step.refl _ _ _, hs, ⟨by simp only [RepV, RepC, Rep]; exact .inl ⟨by simp, hq⟩, by simp [V.ids, C.ids], fun sz xs e t ht => .inl hq, by simp⟩, rfl, rfl⟩
  · rename_i l sz xs hx
    simp only [Option.some.injEq, Prod.mk.injEq] at h
    obtain ⟨rfl, rfl⟩ := h
    exact ⟨_, _, rfl, a.eval x, K, w, hrun, Step.refl _ _ _, hs, ⟨by have q := evT_rep hs hx; exact q, by simp [V.ids, C.ids], by simp, by simp⟩, rfl, rfl⟩
  · rename_i v hno hnn hnv hx
    simp only [Option.some.injEq, Prod.mk.injEq] at h
    obtain ⟨rfl, rfl⟩ := h
    exact ⟨_, _, rfl, a.eval x, K, w, hrun, Step.refl _ _ _, hs, ⟨evT_rep hs hx, evT_ids hs hx, fun sz xs e => (hno sz xs e).elim, fun l sz xs e => (hnv l sz xs e).elim⟩, rfl, rfl⟩
  · simp at h

theorem storeVar_run {t : TypeId} {v : Value} {blk off : Nat} (hn : tsz P t = some v.cells.size) (hex : ∀ j, j < v.cells.toList.length → (w.cell? (ad blk (off + j))).isSome = true ∧ w.frozen? (ad blk (off + j)) = false)
    (h1 : ∀ x ∈ v.cells.toList, isOne x = true) : (storeVar t (ad blk off) v).run P w = .ok () (w.setCells blk off v.cells.toList) := by
  have hst := run_storeCells_cells (P := P) blk off v.cells.toList 0 w (fun j hj => by simpa using (hex j hj).1) (fun j hj => by simpa using (hex j hj).2) (fun v hv => by rw [← isOne_eq]; exact h1 v hv)
  simp at hst
  simp [storeVar, sizeOf_run hn, hst]

/-- A store. -/
theorem op_store (hs : Sim K μ s a w) {o : Oper} {t : TypeId} {x y : Operand} (ho : o.op = .store t x y) {call : Call} {r : ORes} {ft : Foot} (h : evOp P call s.nid o s = some (r, ft)) :
    ∃ s' K' w', r = .val (.c .undef) s' ∧ (execOp a.eval o).run P w = .ok .skip w' ∧ Step mine K w K' w' ∧ Sim K' μ s' a w' ∧ s'.nid = s.nid ∧ s'.defers = s.defers := by
  simp only [evOp, ho] at h
  split at h
  · rename_i b off sz xs hx hy
    split at h
    · rename_i hn
      split at h
      · rename_i u hp hst
        simp only [Option.some.injEq, Prod.mk.injEq] at h
        obtain ⟨rfl, rfl⟩ := h
        have hxr := ev_rep hs hx
        simp only [RepV, RepC] at hxr
        have hyr := evT_rep hs hy
        have hsp := hs.own u sz xs (evT_own hy)
        unfold storeCells at hst
        split at hst
        · rename_i cells hb
          split at hst
          · rename_i hle
            simp only [Option.some.injEq] at hst; subst hst
            rw [fillC_eq]
            have h1 : isOne (a.eval (.tmp u)) = true := isOne_of_rep (d := .list sz xs) hyr (by simp)
            -- the spare cells go to the cell
            have hmv := step_move K w (.tmp u) (.cell b off)
            have hs1 := hs.plainAt u
            have hs2 : Sim (colMove K (.tmp u) (.cell b off)) μ { s with tmps := AM.plainAt u s.tmps } a w := by
              refine hs1.step hmv (by simp) (by simp) ?_ (bound_move hs.bound _ _)
              intro l hl e
              simp only [Tag.sp.injEq] at e
              exact owns_plainAt hl e
            obtain ⟨hs3, hnv⟩ := hs2.unview (.cell b off)
            have hcs : (a.eval (.tmp u)).cells.toList = [a.eval (.tmp u)] := by rw [cells_of_one h1]
            obtain ⟨q1, q2, q3⟩ := hs3.store (b := b) (off := off) (cells := cells) (ncs := [.own sz xs]) (nvs := [a.eval (.tmp u)]) hb (by simpa using hle)
              (.cons (hyr.step hmv (by simp)) .nil) (by simpa using h1) (by simp [C.ids])
              (by
                intro i z ys hi v hv
                cases i with
                | zero =>
                  simp at hi hv; subst hv
                  rw [← hi.1]
                  exact hsp.move
                | succ i => simp at hi)
              (by
                intro t i sz' xs' z ys ht hi
                cases i with
                | zero => exact hnv t sz' xs' (by simpa using ht)
                | succ i => simp at hi)
            refine ⟨_, _, _, rfl, ?_, (hmv.mono fun t => sp_mine).trans (q2.mono fun t ht => by subst ht; simp [mine]), q1, rfl, rfl⟩
            have hrun := storeVar_run (P := P) (w := w) (t := t) (v := a.eval (.tmp u)) (blk := μ b) (off := off) (by rw [hn, cells_of_one h1]; rfl) (by rw [hcs]; exact q3) (by rw [hcs]; simpa using h1)
            rw [hcs] at hrun
            simp [execOp, ho, hxr, Instr.storeAt, Instr.sureAddr, hrun]
          · simp at hst
        · simp at hst
      · simp at h
    · simp at h
  · rename_i b off v hno hx hy
    split at h
    · rename_i cs hcs
      split at h
      · rename_i hn
        split at h
        · split at h
          · rename_i hp hst hnv
            simp only [Option.some.injEq, Prod.mk.injEq] at h
            obtain ⟨rfl, rfl⟩ := h
            have hxr := ev_rep hs hx
            simp only [RepV, RepC] at hxr
            have hyr := evT_rep hs hy
            obtain ⟨r1, r2⟩ := V.cells_rep hcs hyr
            unfold storeCells at hst
            split at hst
            · rename_i cells hb
              split at hst
              · rename_i hle
                simp only [Option.some.injEq] at hst; subst hst
                rw [fillC_eq]
                obtain ⟨q1, q2, q3⟩ := hs.store (b := b) (off := off) (cells := cells) (ncs := cs.map C.placed) (nvs := (a.eval y).cells.toList) hb (by simpa using hle) r1.placed r2
                  (by
                    intro c hc i hi
                    simp only [List.mem_map] at hc
                    obtain ⟨c', hc', rfl⟩ := hc
                    rw [C.placed_ids] at hi
                    exact evT_ids hs hy i (V.cells_ids hcs c' hc' i hi))
                  (by
                    intro i z ys hi v hv
                    simp only [List.getElem?_map, Option.map_eq_some_iff] at hi
                    obtain ⟨c', hci, hc'⟩ := hi
                    obtain ⟨rfl, rfl⟩ := C.placed_own hc'
                    obtain ⟨u, hu, hru⟩ := r1.get hci
                    rw [hv, Option.some.injEq] at hu
                    subst hu
                    exact .inl hru)
                  (by
                    intro t i sz' xs' z ys ht hi
                    exact absurd ht (noView_spec hnv t (off + i) sz' xs'))
                refine ⟨_, _, _, rfl, ?_, q2.mono fun t ht => by subst ht; simp [mine], q1, rfl, rfl⟩
                have hl := r1.length
                have hrun := storeVar_run (P := P) (w := w) (t := t) (v := a.eval y) (blk := μ b) (off := off) (by rw [hn, hl]; simp) q3 r2
                simp [execOp, ho, hxr, Instr.storeAt, Instr.sureAddr, hrun]
              · simp at hst
            · simp at hst
          · simp at h
        split at h
        · rename_i hp hst
          simp only [Option.some.injEq, Prod.mk.injEq] at h
          obtain ⟨rfl, rfl⟩ := h
          have hxr := ev_rep hs hx
          simp only [RepV, RepC] at hxr
          have hyr := evT_rep hs hy
          obtain ⟨r1, r2⟩ := V.cells_rep hcs hyr
          unfold storeCells at hst
          split at hst
          · rename_i cells hb
            split at hst
            · rename_i hle
              simp only [Option.some.injEq] at hst; subst hst
              rw [fillC_eq]
              obtain ⟨q1, q2, q3⟩ := hs.store (b := b) (off := off) (cells := cells) (ncs := cs.map C.plain) (nvs := (a.eval y).cells.toList) hb (by simpa using hle) r1.plain r2
                (by
                  intro c hc i hi
                  simp only [List.mem_map] at hc
                  obtain ⟨c', hc', rfl⟩ := hc
                  rw [C.plain_ids] at hi
                  exact evT_ids hs hy i (V.cells_ids hcs c' hc' i hi))
                (by
                  intro i z ys hi
                  simp only [List.getElem?_map, Option.map_eq_some_iff] at hi
                  obtain ⟨c', _, hc'⟩ := hi
                  cases c' <;> simp [C.plain] at hc')
                (by
                  intro t i sz' xs' z ys _ hi
                  simp only [List.getElem?_map, Option.map_eq_some_iff] at hi
                  obtain ⟨c', _, hc'⟩ := hi
                  cases c' <;> simp [C.plain] at hc')
              refine ⟨_, _, _, rfl, ?_, q2.mono fun t ht => by subst ht; simp [mine], q1, rfl, rfl⟩
              have hl := r1.length
              have hrun := storeVar_run (P := P) (w := w) (t := t) (v := a.eval y) (blk := μ b) (off := off) (by rw [hn, hl]; simp) q3 r2
              simp [execOp, ho, hxr, Instr.storeAt, Instr.sureAddr, hrun]
            · simp at hst
          · simp at hst
        · simp at h
      · simp at h
    · simp at h
  · simp at h

theorem good_undef {K : Col} {w : World} {dst : Option Nat} : Good K μ s a w dst (.c .undef) Go.undef := ⟨by simp [RepV, RepC], by simp [V.ids, C.ids], by simp, by simp⟩

theorem repCaps : ∀ caps : List Nat, RepCs K μ w (caps.map fun b => C.ptr b 0) (caps.map fun b => Value.pointer (some (ad (μ b) 0)))
  | [] => .nil
  | _ :: caps => .cons rfl (repCaps caps)

theorem argsT_rep (hs : Sim K μ s a w) : ∀ {l : List Operand} {ts : List TypeId} {cs : List C}, argsT P s.tmps l ts = some cs → RepCs K μ w cs (l.map a.eval)
  | [], _, cs, h => by simp only [argsT, Option.some.injEq] at h; subst h; exact .nil
  | x :: l, ts, cs, h => by
    simp only [argsT] at h
    split at h
    · rename_i c cs' hc hcs
      simp only [Option.some.injEq] at h; subst h
      rw [Option.bind_eq_some_iff] at hc
      obtain ⟨vx, hvx, hax⟩ := hc
      exact .cons (argC_rep (evT_rep hs hvx) hax).1 (argsT_rep hs hcs)
    · simp at h

theorem op_sound {call : Call} (hcall : CallsOK P call) (hP : ProgOK P) (hs : Sim K μ s a w) {o : Oper} {r : ORes} {ft : Foot} (h : evOp P call s.nid o s = some (r, ft))
    (hd : ∀ t, o.dst = some t → t < a.tmps.size) {next : Act → World → Prop} {Q : Exit → Act → World → Prop} (hb : Behind P K μ s a w o r next Q) : o.wp P a w next Q := by
  have quiet : ∀ {V : V} {nb : Option (List C)}, evR P s.nid o s.tmps s.heap = some (V, nb) →
      (nb.isSome = true → noView s.nid s.tmps = true) → r = .val V (addNb nb s) → o.wp P a w next Q := by
    intro V nb h1 hnv h2
    subst h2
    exact op_quiet hs hd h1 hnv hb
  cases ho : o.op with
  | assign x =>
    obtain ⟨V, s', rfl, hdn⟩ := done_assign hs ho h
    exact op_doneS hd hdn hb
  | store t x y =>
    obtain ⟨s', K', w', rfl, hrun, hst, hs', hnid, _⟩ := op_store hs ho h
    simp only [Oper.wp, hrun, Oper.upon_skip]
    exact behind_val hb hst (fun _ _ => rfl) (by omega) hs' hd good_undef
  | defer c =>
    simp only [evOp, ho] at h
    split at h
    · rename_i f hf hargs
      split at h
      · rename_i g caps hx
        simp only [Option.some.injEq, Prod.mk.injEq] at h
        obtain ⟨rfl, rfl⟩ := h
        have hxr := ev_rep hs hx
        have hxi := ev_ids hs hx
        simp only [RepV, RepC] at hxr
        have hargs' : c.args = #[] := by apply Array.ext'; simpa using hargs
        have hrun : (execOp a.eval o).run P w = .ok (.defer (defOf μ (g, caps))) w := by
          simp [execOp, ho, resolve, hf, hargs', Deferred.ofValue, hxr, defOf]
        simp only [Oper.wp, hrun, Oper.upon_defer]
        have hs' : Sim K μ { s with defers := (g, caps) :: s.defers } { a with defers := defOf μ (g, caps) :: a.defers } w := by
          refine ⟨hs.tm, hs.tids, hs.own, ?_, hs.heap, hs.bound, by simp [hs.defs], ?_, hs.glob⟩
          · intro t l sz xs ht
            have := hs.view t l sz xs ht
            cases l <;> exact this
          · intro x hx b hb'
            rcases List.mem_cons.1 hx with rfl | hx
            · exact hxi b (by simpa [V.ids, C.ids] using hb')
            · exact hs.dids x hx b hb'
        refine hb.val _ _ K μ _ w rfl (After.refl _ _ _ _) (Nat.le_refl _) ?_ (by rw [put_size])
        exact hs'.put (dst := o.dst) hd good_undef
      · simp at h
    · simp at h
  | panic x =>
    simp only [evOp, ho] at h
    split at h
    · rename_i t d hx
      simp only [Option.some.injEq, Prod.mk.injEq] at h
      obtain ⟨rfl, rfl⟩ := h
      rw [Option.bind_eq_some_iff] at hx
      obtain ⟨vx, hvx, hdx⟩ := hx
      have hr := V.toD_rep hdx (ev_rep hs hvx)
      have hr' := hr
      simp only [Rep] at hr
      obtain ⟨u, hu, _⟩ := hr
      have hrun : (execOp a.eval o).run P w = .halt (.panic (a.eval x)) w := by
        simp [execOp, ho, hu, Instr.panic]
      simp only [Oper.wp, hrun, Oper.upon_panic]
      exact hb.pan _ _ K μ w _ rfl (After.refl _ _ _ _) (Nat.le_refl _) hs hr'
    · simp at h
  | call c =>
    simp only [evOp, ho] at h
    split at h
    · rename_i hc
      split at h
      · rename_i x y t u hargs hty
        split at h
        · rename_i V s' hap
          simp only [Option.some.injEq, Prod.mk.injEq] at h
          obtain ⟨rfl, rfl⟩ := h
          exact op_doneS hd (op_append hs ho hc hargs hty hap) hb
        · simp at h
      · simp at h
    · split at h
      · rename_i V hev
        simp only [Option.some.injEq, Prod.mk.injEq] at h
        obtain ⟨rfl, rfl⟩ := h
        exact quiet hev (by simp) rfl
      · simp at h
    · rename_i f hc
      split at h
      · rename_i g caps args hf hargs
        split at h
        · rename_i r' ids hdc
          simp only [Option.some.injEq, Prod.mk.injEq] at h
          obtain ⟨rfl, rfl⟩ := h
          have hfr := ev_rep hs hf
          simp only [RepV, RepC] at hfr
          have hargr : RepCs K μ w args (c.args.toList.map a.eval) := argsT_rep hs hargs
          have happ : RepCs K μ w (args ++ caps.map fun b => .ptr b 0) (c.args.toList.map a.eval ++ caps.map fun b => Value.pointer (some (ad (μ b) 0))) := by
            have aux : ∀ {x y : List C} {p q : List Value}, RepCs K μ w x p → RepCs K μ w y q → RepCs K μ w (x ++ y) (p ++ q) := by
              intro x y p q h1 h2
              induction h1 with
              | nil => exact h2
              | cons q1 _ ih => exact .cons q1 ih
            refine aux hargr ?_
            exact repCaps caps
          have hcal := doCall_sound hcall hdc hs happ
          have hrun : (execOp a.eval o).run P w = .ok (.enter g ((c.args.toList.map a.eval ++ caps.map fun b => Value.pointer (some (ad (μ b) 0))).toArray)) w := by
            have he := callFunc_run hP (doCall_callee hcall hdc) (c.args.map a.eval ++ (caps.map fun b => Value.pointer (some (ad (μ b) 0))).toArray) w
            have e2 : (c.args.toList.map a.eval ++ caps.map fun b => Value.pointer (some (ad (μ b) 0))).toArray = c.args.map a.eval ++ (caps.map fun b => Value.pointer (some (ad (μ b) 0))).toArray := by
              apply Array.ext'; simp
            rw [e2]
            simp [execOp, ho, resolve, hc, Deferred.ofValue, hfr, invoke, he]
          simp only [Oper.wp, hrun, Oper.upon_enter]
          refine hcal.mono ?_
          rintro e w' ⟨K', μ', haf, hres⟩
          cases r' with
          | val v s' =>
            obtain ⟨h1, h2, h3, h4, _, u, rfl, h6⟩ := hres
            exact behind_val hb haf.step haf.mu h2 h1 hd ⟨h6, h4, fun sz xs e => absurd e (h3.1 sz xs), fun l sz xs e => absurd e (h3.2 l sz xs)⟩
          | pan d s' =>
            obtain ⟨h1, h2, _, u, rfl, h6⟩ := hres
            exact hb.pan d s' K' μ' w' u rfl haf h2 h1 h6
        · simp at h
      · simp at h
    · simp at h
  | _ =>
    simp only [evOp, ho] at h
    split at h
    · rename_i V hev
      simp only [Option.some.injEq, Prod.mk.injEq] at h
      obtain ⟨rfl, rfl⟩ := h
      exact quiet hev (by simp) rfl
    · rename_i V cs hev
      split at h
      · rename_i hnv
        simp only [Option.some.injEq, Prod.mk.injEq] at h
        obtain ⟨rfl, rfl⟩ := h
        exact quiet hev (fun _ => hnv) rfl
      · simp at h
    · simp at h

end
end Go.AM

/- The operations of a region, in the order of the text. -/
namespace Go.AM
open Go
variable [Globs]

section
variable {P : Program} {K K' : Col} {μ μ' : Nat → Nat} {w w' : World} {s : St} {a : Act}

/-- How a piece of code is left, in the model's words. -/
def Out (K : Col) (w : World) : AX → Exit → Prop
  | .normal, e => e = .normal
  | .exit id, e => e = .exit id
  | .ret, e => e = .ret
  | .pan d, e => ∃ u, e = .panic [⟨u, false, false⟩] ∧ Rep K w d u

/-- What is to be shown behind a piece of code. -/
def Goal (K : Col) (μ : Nat → Nat) (w : World) (n : Nat) (sz : Nat) (x : AX) (s' : St) (Q : Exit → Act → World → Prop) : Prop :=
  ∀ e K' μ' a' w', Out K' w' x e → After K μ w n K' μ' w' → n ≤ s'.nid → Sim K' μ' s' a' w' → a'.tmps.size = sz → Q e a' w'

theorem Goal.later {n m sz : Nat} {x : AX} {s' : St} {Q : Exit → Act → World → Prop} (h : Goal K μ w n sz x s' Q) (ha : After K μ w n K' μ' w') (hnm : n ≤ m) : Goal K' μ' w' m sz x s' Q :=
  fun e K'' μ'' a'' w'' ho ha' hn hs hsz => h e K'' μ'' a'' w'' ho (ha.trans ha' hnm) (by omega) hs hsz

theorem look_keepT : ∀ {ks : List Nat} {tm : List (Nat × V)} {t : Nat} {v : V}, look t (keepT ks tm) = some v →
    ∃ v', look t tm = some v' ∧ (v = v' ∨ ∃ l sz xs, v' = .view l sz xs ∧ v = .d (.list sz xs))
  | [], tm, t, v, h => by simp [keepT, look] at h
  | k :: ks, tm, t, v, h => by
    simp only [keepT] at h
    split at h
    · rename_i l sz xs hk
      simp only [look] at h
      split at h
      · rename_i hkt
        simp only [Option.some.injEq] at h; subst h; subst hkt
        exact ⟨_, hk, .inr ⟨l, sz, xs, rfl, rfl⟩⟩
      · exact look_keepT h
    · rename_i v' hno hk
      simp only [look] at h
      split at h
      · rename_i hkt
        simp only [Option.some.injEq] at h; subst h; subst hkt
        exact ⟨_, hk, .inl rfl⟩
      · exact look_keepT h
    · exact look_keepT h

theorem Sim.keep (h : Sim K μ s a w) (ks : List Nat) : Sim K μ { s with tmps := keepT ks s.tmps } a w :=
  h.weaken fun _ _ ht => look_keepT ht

theorem look_filter {n b : Nat} : ∀ {hp : List (Nat × List C)} {cells : List C}, look b (hp.filter (·.1 < n)) = some cells → look b hp = some cells ∧ b < n
  | [], cells, h => by simp [look] at h
  | (j, c) :: r, cells, h => by
    by_cases hj : j < n
    · simp only [List.filter_cons, hj, decide_true, if_true, look] at h ⊢
      split at h
      · rename_i e; subst e
        simp only [if_true]; exact ⟨h, hj⟩
      · rename_i e
        rw [if_neg e]; exact look_filter h
    · simp only [List.filter_cons, hj, decide_false, Bool.false_eq_true, if_false] at h
      obtain ⟨h1, h2⟩ := look_filter h
      refine ⟨?_, h2⟩
      simp only [look]
      rw [if_neg (by omega)]; exact h1

theorem mem_of_look {α : Type} {k : Nat} {v : α} : ∀ {l : List (Nat × α)}, look k l = some v → (k, v) ∈ l
  | [], h => by simp [look] at h
  | (j, u) :: r, h => by
    simp only [look] at h
    split at h
    · rename_i e; subst e; simp only [Option.some.injEq] at h; subst h; simp
    · exact List.mem_cons_of_mem _ (mem_of_look h)

theorem C.below_ids {n : Nat} {c : C} (h : c.below n = true) : ∀ b ∈ c.ids, b < n := by
  simp only [C.below, List.all_eq_true, decide_eq_true_eq] at h
  exact h

theorem V.below_ids {n : Nat} {v : V} (h : v.below n = true) : ∀ b ∈ v.ids, b < n := by
  cases v with
  | c x => exact C.below_ids h
  | vagg cs =>
    simp only [V.below, List.all_eq_true] at h
    intro b hb
    simp only [V.ids, List.mem_flatMap] at hb
    obtain ⟨c, hc, hb⟩ := hb
    exact C.below_ids (h c hc) b hb
  | tuple cs =>
    simp only [V.below, List.all_eq_true] at h
    intro b hb
    simp only [V.ids, List.mem_flatMap] at hb
    obtain ⟨c, hc, hb⟩ := hb
    exact C.below_ids (h c hc) b hb
  | view l sz xs => simp [V.ids]
  | rptr cs => simp [V.ids]

theorem Sim.clean (h : Sim K μ s a w) {ks : List Nat} {n : Nat} {s' : St} (hc : cleanAt ks n s = some s') : Sim K μ s' a w ∧ s'.nid = n ∧ s'.defers = s.defers := by
  unfold cleanAt at hc
  simp only at hc
  split at hc
  · rename_i hall
    simp only [Bool.and_eq_true, List.all_eq_true] at hall
    obtain ⟨⟨h1, h2⟩, h3⟩ := hall
    simp only [Option.some.injEq] at hc; subst hc
    have hk := h.keep ks
    refine ⟨⟨hk.tm, ?_, hk.own, ?_, ?_, hk.bound, hk.defs, ?_, hk.glob⟩, rfl, rfl⟩
    · intro t v ht
      exact V.below_ids (h1 _ (mem_of_look ht))
    · intro t l sz xs ht
      have := hk.view t l sz xs ht
      cases l with
      | tmp u => exact this
      | cell b off =>
        intro cells z ys hb hcc
        exact this cells z ys (look_filter hb).1 hcc
    · intro b cells hb
      obtain ⟨hb1, hb2⟩ := look_filter hb
      refine ⟨hb2, ?_, (h.heap b cells hb1).2.2⟩
      intro c hc
      exact C.below_ids (h2 _ (mem_of_look hb) c hc)
    · intro x hx b hb
      have := h3 x hx b hb
      simpa using this
  · simp at hc

/-- An operation that isn't wanted. -/
theorem wanted_eq (hs : Sim K μ s a w) {ops : Array Oper} {o : Oper} {b : Bool} (h : wantedAt ops s.tmps o = some b) : Region.wanted o (yielded ops a.tmps) = b := by
  unfold wantedAt at h
  unfold Region.wanted
  split at h
  · rename_i hg; simp only [Option.some.injEq] at h; subst h; simp [hg]
  · rename_i j want hg
    simp only [hg]
    split at h
    · rename_i q hq
      split at h
      · rename_i d hd
        have key : ∀ {v : V}, look d s.tmps = some v → a.tmps[d]? = some (a.tmps.getD d Go.undef) := by
          intro v hv
          have := (hs.tm d v hv).1
          simp [Array.getD, this]
        split at h
        · rename_i b' hl
          simp only [Option.some.injEq] at h; subst h
          have hr := (hs.tm d _ hl).2
          simp only [RepV, RepC, Rep] at hr
          simp only [yielded, hq, Option.bind_some, hd, key hl, hr]
          simp
        · rename_i hl
          simp only [Option.some.injEq] at h; subst h
          have hr := (hs.tm d _ hl).2
          simp only [RepV, RepC] at hr
          have hk : a.tmps[d]? = some Go.undef := by rw [key hl, hr]
          simp only [yielded, hq, Option.bind_some, hd, hk]
          rfl
        · simp at h
      · simp at h
    · simp at h

theorem evOps_sound {call : Call} (hcall : CallsOK P call) (hP : ProgOK P) {ops : Array Oper} {sz : Nat} (hd : ∀ o ∈ ops.toList, ∀ t, o.dst = some t → t < sz) {x : AX} {s' : St} {fs' : List Foot}
    {Q : Exit → Act → World → Prop} : ∀ (l : List Oper) (i : Nat) (K : Col) (μ : Nat → Nat) (s : St) (a : Act) (w : World) (fs : List Foot), ops.toList.drop i = l → evOps P call ops l s fs = some (x, s', fs') →
      Sim K μ s a w → a.tmps.size = sz → Goal K μ w s.nid sz x s' Q → wpOps P ops Q (List.range' i l.length) a w
  | [], i, K, μ, s, a, w, fs, _, h, hs, hsz, hg => by
    simp only [evOps, Option.some.injEq, Prod.mk.injEq] at h
    obtain ⟨rfl, rfl, rfl⟩ := h
    exact hg .normal K μ a w rfl (After.refl _ _ _ _) (Nat.le_refl _) hs hsz
  | o :: l, i, K, μ, s, a, w, fs, hl, h, hs, hsz, hg => by
    have hoi : ops[i]? = some o := by
      have : (ops.toList.drop i)[0]? = some o := by rw [hl]; rfl
      rw [get_drop] at this
      simpa using this
    have hl' : ops.toList.drop (i + 1) = l := by
      rw [← List.drop_drop, hl]; rfl
    have hom : o ∈ ops.toList := by
      have : o ∈ ops.toList.drop i := by rw [hl]; simp
      exact List.mem_of_mem_drop this
    have hdo : ∀ t, o.dst = some t → t < a.tmps.size := by rw [hsz]; exact hd o hom
    simp only [List.length_cons, List.range'_succ, wpOps, hoi]
    simp only [evOps] at h
    split at h
    · simp at h
    · rename_i hw
      rw [wanted_eq hs hw]
      simp only [Bool.false_eq_true, if_false]
      have hs' := hs.put (dst := o.dst) (V := .c .undef) (v := Go.undef) hdo good_undef
      have hn : (putDst o (.c .undef) s).nid = s.nid := by unfold putDst putSt; cases o.dst <;> rfl
      exact evOps_sound hcall hP hd l (i + 1) K μ _ _ w _ hl' h hs' (by rw [put_size]; exact hsz) (by rw [hn]; exact hg)
    · rename_i hw
      rw [wanted_eq hs hw]
      simp only [if_true]
      split at h
      · simp at h
      · rename_i d s1 f hop
        simp only [Option.some.injEq, Prod.mk.injEq] at h
        obtain ⟨rfl, rfl, rfl⟩ := h
        refine .inl (op_sound hcall hP hs hop hdo ⟨by simp, ?_⟩)
        intro d' s'' K' μ' w' u e haf hn hs' hr
        simp only [ORes.pan.injEq] at e
        obtain ⟨rfl, rfl⟩ := e
        exact hg _ K' μ' a w' ⟨u, rfl, hr⟩ haf hn hs' hsz
      · rename_i v s1 f hop
        refine .inl (op_sound hcall hP hs hop hdo ⟨?_, by simp⟩)
        intro V s'' K' μ' a' w' e haf hn hs' hsz'
        simp only [ORes.val.injEq] at e
        obtain ⟨rfl, rfl⟩ := e
        have hn' : (putDst o v s1).nid = s1.nid := by unfold putDst putSt; cases o.dst <;> rfl
        exact evOps_sound hcall hP hd l (i + 1) K' μ' _ a' w' _ hl' h hs' (by rw [hsz', hsz]) (by rw [hn']; exact hg.later haf hn)

end
end Go.AM

/- Two states that are the same at some places. -/
namespace Go.AM
open Go
variable [Globs]

/-- What two states have at a place is the same. -/
def same (s t : St) : Lc → Prop
  | .tmp x => look x s.tmps = look x t.tmps
  | .blk b => look b s.heap = look b t.heap
  | .nid => s.nid = t.nid
  | .defs => s.defers = t.defers
  | .vb b => ∀ x off sz xs, look x s.tmps = some (.view (.cell b off) sz xs) ↔ look x t.tmps = some (.view (.cell b off) sz xs)
  | .vt u => ∀ x sz xs, look x s.tmps = some (.view (.tmp u) sz xs) ↔ look x t.tmps = some (.view (.tmp u) sz xs)

theorem same.refl (s : St) (l : Lc) : same s s l := by cases l <;> simp [same]
theorem same.symm {s t : St} {l : Lc} (h : same s t l) : same t s l := by
  cases l <;> simp only [same] at h ⊢
  case vb => exact fun x off sz xs => (h x off sz xs).symm
  case vt => exact fun x sz xs => (h x sz xs).symm
  all_goals exact h.symm
theorem same.trans {s t u : St} {l : Lc} (h : same s t l) (k : same t u l) : same s u l := by
  cases l <;> simp only [same] at h k ⊢
  case vb => exact fun x off sz xs => (h x off sz xs).trans (k x off sz xs)
  case vt => exact fun x sz xs => (h x sz xs).trans (k x sz xs)
  all_goals exact h.trans k

theorem Sim.same {K : Col} {μ : Nat → Nat} {w : World} {s t : St} {a : Act} (h : Sim K μ s a w) (hs : ∀ l, same s t l) : Sim K μ t a w := by
  have htm : ∀ x, look x s.tmps = look x t.tmps := fun x => hs (.tmp x)
  have hhp : ∀ b, look b s.heap = look b t.heap := fun b => hs (.blk b)
  have hn : s.nid = t.nid := hs .nid
  have hd : s.defers = t.defers := hs .defs
  refine ⟨?_, ?_, ?_, ?_, ?_, h.bound, by rw [← hd]; exact h.defs, by rw [← hd, ← hn]; exact h.dids, h.glob⟩
  · intro x V hx; exact h.tm x V (by rw [htm]; exact hx)
  · intro x V hx; rw [← hn]; exact h.tids x V (by rw [htm]; exact hx)
  · intro x sz xs hx; exact h.own x sz xs (by rw [htm]; exact hx)
  · intro x l sz xs hx
    have := h.view x l sz xs (by rw [htm]; exact hx)
    cases l with
    | tmp u => intro z ys hu; exact this z ys (by rw [htm]; exact hu)
    | cell b off => intro cells z ys hb hc; exact this cells z ys (by rw [hhp]; exact hb) hc
  · intro b cells hb; rw [← hn]; exact h.heap b cells (by rw [hhp]; exact hb)

section
variable {P : Program}

theorem evT_congr {tm tm' : List (Nat × V)} {x : Operand} (h : ev tm x = ev tm' x) (t : TypeId) : evT P t tm x = evT P t tm' x := by
  simp only [evT, h]

theorem buildC_congr {tm tm' : List (Nat × V)} {t : TypeId} : ∀ {ps : List (Nat × Operand)} {cs : List C}, (∀ p ∈ ps, ev tm p.2 = ev tm' p.2) → buildC P t tm ps cs = buildC P t tm' ps cs
  | [], cs, _ => rfl
  | (i, o) :: r, cs, h => by
    have ih : ∀ cs, buildC P t tm r cs = buildC P t tm' r cs := fun cs => buildC_congr fun p hp => h p (by simp [hp])
    have ho : ev tm o = ev tm' o := h (i, o) (by simp)
    simp only [buildC, evT_congr ho, ih]

theorem elemsC_congr {tm tm' : List (Nat × V)} {e : TypeId} {sz : Nat} : ∀ {ps : List (Nat × Operand)} {n : Nat}, (∀ p ∈ ps, ev tm p.2 = ev tm' p.2) → elemsC P e sz tm n ps = elemsC P e sz tm' n ps
  | [], n, _ => rfl
  | (i, o) :: r, n, h => by
    have ih : elemsC P e sz tm (n + 1) r = elemsC P e sz tm' (n + 1) r := elemsC_congr fun p hp => h p (by simp [hp])
    have ho : ev tm o = ev tm' o := h (i, o) (by simp)
    simp only [elemsC, evT_congr ho, ih]

theorem mapM?_congr {α β : Type} {f g : α → Option β} : ∀ {l : List α}, (∀ x ∈ l, f x = g x) → mapM? f l = mapM? g l
  | [], _ => rfl
  | x :: r, h => by
    have ih : mapM? f r = mapM? g r := mapM?_congr fun y hy => h y (by simp [hy])
    simp only [mapM?, h x (by simp), ih]

theorem optNat_congr {tm tm' : List (Nat × V)} {o : Option Operand} {n : Nat} (h : ∀ x, o = some x → ev tm x = ev tm' x) : optNat tm o n = optNat tm' o n := by
  cases o with
  | none => rfl
  | some x => simp only [optNat]; rw [h x rfl]

/-- A quiet operation looks at its operands, and at the block that it reads. -/
theorem evR_congr {o : Oper} {tm tm' : List (Nat × V)} {hp hp' : List (Nat × List C)} {id id' : Nat} (hb : makesBlk o = false) (h : ∀ x ∈ o.op.operands.toList, ev tm x = ev tm' x)
    (hh : ∀ b ∈ readsBlk o tm, look b hp = look b hp') : evR P id o tm hp = evR P id' o tm' hp' := by
  unfold evR
  cases ho : o.op with
  | move x => simp only [evT_congr (P := P) (h x (by simp [ho, Op.operands]))]
  | pick c x y => simp only [h c (by simp [ho, Op.operands]), evT_congr (P := P) (h x (by simp [ho, Op.operands])), evT_congr (P := P) (h y (by simp [ho, Op.operands]))]
  | alloc t => simp [makesBlk, ho] at hb
  | box t x => simp [makesBlk, ho] at hb
  | build t parts =>
    have hb : ∀ cs, buildC P t tm parts.toList cs = buildC P t tm' parts.toList cs := fun cs => buildC_congr fun p hp =>
      h p.2 (by simp only [ho, Op.operands, Array.toList_map, List.mem_map]; exact ⟨p, hp, rfl⟩)
    simp only [hb]
  | buildSlice t len parts =>
    have hb : ∀ e n, elemsC P e n tm 0 parts.toList = elemsC P e n tm' 0 parts.toList := fun e n => elemsC_congr fun p hp =>
      h p.2 (by simp only [ho, Op.operands, Array.toList_map, List.mem_map]; exact ⟨p, hp, rfl⟩)
    simp only [hb]
  | load t x =>
    simp only
    have hx := h x (by simp [ho, Op.operands])
    simp only [readsBlk, ho] at hh
    rw [← hx]
    split
    · rename_i b off he
      rw [he] at hh
      simp only [hh b (by simp)]
    · rfl
    · rfl
  | nilCheck x => simp only [h x (by simp [ho, Op.operands])]
  | binOp op t x y u => simp only [evT_congr (P := P) (h x (by simp [ho, Op.operands])), evT_congr (P := P) (h y (by simp [ho, Op.operands]))]
  | unOp op t x => simp only [h x (by simp [ho, Op.operands])]
  | convert src dst x => simp only [evT_congr (P := P) (h x (by simp [ho, Op.operands]))]
  | makeInterface t x => simp only [evT_congr (P := P) (h x (by simp [ho, Op.operands]))]
  | makeFunc fn first captured =>
    have hb : mapM? (fun x => match ev tm x with | some (.c (.ptr b 0)) => some b | _ => none) captured.toList = mapM? (fun x => match ev tm' x with | some (.c (.ptr b 0)) => some b | _ => none) captured.toList := by
      refine mapM?_congr fun x hx => ?_
      rw [h x (by simp only [ho, Op.operands, Array.toList_append, List.mem_append]; exact .inr hx)]
    cases fn with
    | func f =>
      simp only
      split
      · exact congrArg (fun r : Option (List Nat) => (match r with | some ids => some (V.c (.fn f ids), none) | none => none : Option (V × Option (List C)))) hb
      · rfl
    | _ => rfl
  | makeSlice t l c => simp only [h l (by simp [ho, Op.operands]), h c (by simp [ho, Op.operands])]
  | slice t x lo hi mx =>
    have h1 : evT P t tm x = evT P t tm' x := evT_congr (h x (by simp [ho, Op.operands])) t
    have h2 : ∀ n, optNat tm lo n = optNat tm' lo n := fun n => optNat_congr fun y hy => h y (by simp [ho, Op.operands, hy])
    have h3 : ∀ n, optNat tm hi n = optNat tm' hi n := fun n => optNat_congr fun y hy => h y (by simp [ho, Op.operands, hy])
    have h4 : ∀ m, mx = some m → optNat tm (some m) 0 = optNat tm' (some m) 0 := fun m hm => optNat_congr fun y hy => h y (by simp only [Option.some.injEq] at hy; subst hy; simp [ho, Op.operands, hm])
    simp only [h1, h2, h3]
    cases evT P t tm' x with
    | none => rfl
    | some a =>
      simp only
      cases lenV P t a with
      | none => rfl
      | some n =>
        simp only
        cases optNat tm' lo 0 with
        | none => rfl
        | some l =>
          cases optNat tm' hi n with
          | none => rfl
          | some r =>
            cases mx with
            | none => rfl
            | some m => simp only [h4 m rfl]
  | fieldAddr t x i => simp only [h x (by simp [ho, Op.operands])]
  | field t x i => simp only [h x (by simp [ho, Op.operands])]
  | indexAddr t x i => simp only [h x (by simp [ho, Op.operands]), h i (by simp [ho, Op.operands])]
  | index t x i => simp only [h x (by simp [ho, Op.operands]), h i (by simp [ho, Op.operands])]
  | typeAssert x u t ok => simp only [h x (by simp [ho, Op.operands])]
  | extract x i => simp only [h x (by simp [ho, Op.operands])]
  | call c =>
    have ha : ∀ x ∈ c.args.toList, ev tm x = ev tm' x := fun x hx => h x (by simp [ho, Op.operands, Call.operands]; exact .inr (by simpa using hx))
    simp only
    split
    · split
      · rename_i x t he _
        rw [ha x (by rw [he]; simp)]
      · rfl
    · split
      · rename_i x y he
        rw [ha x (by rw [he]; simp), ha y (by rw [he]; simp)]
      · rfl
    · split
      · rename_i x y he
        rw [ha x (by rw [he]; simp), ha y (by rw [he]; simp)]
      · rfl
    · rfl
  | _ => rfl

end
end Go.AM

/- What an operation does hangs on what it reads alone. -/
namespace Go.AM
open Go
variable [Globs]

section
variable {P : Program} {call : Call} {ops : Array Oper} {vs : List Nat} {S S' t : St} {o : Oper} {id : Nat}

theorem putD_local {dst : Option Nat} {v : V} (h : putD dst v S = some S') (hs : ∀ l ∈ dstLc dst v, same S t l) :
    ∃ t', putD dst v t = some t' ∧ (∀ l, same S t l → same S' t' l) ∧ (∀ l, l ∉ dstLc dst v → same t t' l) := by
  cases dst with
  | none =>
    simp only [putD, Option.some.injEq] at h; subst h
    exact ⟨t, rfl, fun _ h => h, fun l _ => same.refl t l⟩
  | some d =>
    simp only [putD] at h
    split at h
    · rename_i hf
      simp only [Option.some.injEq] at h; subst h
      have hd : look d S.tmps = look d t.tmps := hs (.tmp d) (by simp [dstLc])
      have hft : freeAt d v t.tmps = true := by
        unfold freeAt at hf ⊢
        simp only [Bool.and_eq_true] at hf ⊢
        refine ⟨by rw [← hd]; exact hf.1, ?_⟩
        cases ho : v.isOwn with
        | false => rfl
        | true =>
          have h2 := hf.2
          simp only [ho, Bool.not_true, Bool.false_or] at h2 ⊢
          have hvt : same S t (.vt d) := hs _ (by
            cases v with
            | c x => cases x <;> simp [V.isOwn] at ho; simp [dstLc]
            | _ => simp [V.isOwn] at ho)
          simp only [List.all_eq_true] at h2 ⊢
          intro x hx
          cases hl : look x.1 t.tmps with
          | none => rfl
          | some u =>
            cases u with
            | view l sz xs =>
              cases l with
              | cell b off => rfl
              | tmp k =>
                by_cases hk : k = d
                · subst hk
                  have hS := (hvt x.1 sz xs).2 hl
                  have := h2 _ (mem_of_look hS)
                  simp only [hS, beq_self_eq_true, Bool.not_true] at this
                  simp at this
                · simp [hk]
            | _ => rfl
      refine ⟨{ t with tmps := (d, v) :: t.tmps }, by simp only [putD, hft, if_true], ?_, ?_⟩
      · intro l hl
        cases l with
        | tmp x =>
          simp only [same, look] at hl ⊢
          by_cases hx : d = x <;> simp [hx, hl]
        | vb b =>
          simp only [same, look] at hl ⊢
          intro x off sz xs
          by_cases hx : d = x <;> simp [hx, hl]
        | vt u =>
          simp only [same, look] at hl ⊢
          intro x sz xs
          by_cases hx : d = x <;> simp [hx, hl]
        | _ => exact hl
      · have hnv : ∀ l sz xs, look d t.tmps ≠ some (.view l sz xs) := by
          intro l sz xs e
          simp [freeAt, e] at hft
        intro l hl
        cases l with
        | tmp x =>
          have hx : d ≠ x := by rintro rfl; simp [dstLc] at hl
          simp [same, look, hx]
        | vb b =>
          simp only [same, look]
          intro x off sz xs
          by_cases hx : d = x
          · subst hx
            simp only [if_true, Option.some.injEq]
            constructor
            · intro e; exact absurd e (hnv _ _ _)
            · intro e; subst e; simp [dstLc] at hl
          · simp [hx]
        | vt u =>
          simp only [same, look]
          intro x sz xs
          by_cases hx : d = x
          · subst hx
            simp only [if_true, Option.some.injEq]
            constructor
            · intro e; exact absurd e (hnv _ _ _)
            · intro e; subst e; simp [dstLc] at hl
          · simp [hx]
        | _ => rfl
    · simp at h

/-- The part of an operation behind which its temporary is set. -/
def OpLocal (P : Program) (call : Call) (ops : Array Oper) (vs : List Nat) (id : Nat) (o : Oper) (S t : St) (v : V) (S1 : St) (W : List Lc) : Prop :=
  ∃ t1 f', drawOp P call ops vs id o t = some (.val v t1, f') ∧ (∀ l ∈ W, same S1 t1 l) ∧ (∀ l, l ∉ W → same S S1 l ∧ same t t1 l)

theorem ev_same {x : Operand} (h : ∀ u, x = .tmp u → same S t (.tmp u)) : ev S.tmps x = ev t.tmps x := by
  cases x with
  | tmp u => exact h u rfl
  | const _ => rfl
  | global _ => rfl
  | func _ => rfl

theorem reads_mem {x : Operand} (hx : x ∈ o.op.operands.toList) {u : Nat} (e : x = .tmp u) : u ∈ readsOf ops o := by
  subst e
  unfold readsOf
  refine List.mem_append_left _ (List.mem_filterMap.2 ⟨_, hx, rfl⟩)

theorem ev_reads (h : ∀ u ∈ readsOf ops o, same S t (.tmp u)) {x : Operand} (hx : x ∈ o.op.operands.toList) : ev S.tmps x = ev t.tmps x :=
  ev_same fun _ e => h _ (reads_mem hx e)

theorem evR_none {o : Oper} {tm : List (Nat × V)} {hp : List (Nat × List C)} {id : Nat} {v : V} {cs : List C} (hb : makesBlk o = false) : evR P id o tm hp ≠ some (v, some cs) := by
  intro h
  unfold evR at h
  cases ho : o.op with
  | alloc t => simp [makesBlk, ho] at hb
  | box t x => simp [makesBlk, ho] at hb
  | slice t x lo hi mx =>
    simp only [ho] at h
    split at h <;> try (simp at h; done)
    split at h <;> try (simp at h; done)
    split at h <;> try (simp at h; done)
    split at h <;> try (simp at h; done)
  | _ => simp only [ho] at h <;> repeat' (first | (simp at h; done) | split at h)

theorem local_makes {v : V} {S1 : St} {f : Fp} (hm : makesBlk o = true) (h : drawOp P call ops vs id o S = some (.val v S1, f)) (hr : ∀ u ∈ readsOf ops o, same S t (.tmp u)) (hid : look id t.heap = none) :
    OpLocal P call ops vs id o S t v S1 [.blk id] ∧ f.reads = (readsOf ops o).map .tmp ∧ f.writes = dstLc o.dst v ++ [.blk id] ∧ f.all = false := by
  have he : evR P id o S.tmps S.heap = evR P id o t.tmps t.heap := by
    cases ho : o.op with
    | alloc e => simp only [evR, ho]
    | box e x =>
      have := evT_congr (P := P) (ev_reads hr (x := x) (by simp [ho, Op.operands])) e
      simp only [evR, ho, this]
    | _ => simp [makesBlk, ho] at hm
  simp only [drawOp, hm, if_true, drawNew] at h
  split at h
  · rename_i v' cs h1
    split at h
    · split at h
      · simp at h
      rename_i hni
      simp only [Option.some.injEq, Prod.mk.injEq, ORes.val.injEq] at h
      obtain ⟨⟨rfl, rfl⟩, rfl⟩ := h
      refine ⟨⟨{ t with heap := (id, cs.map C.plain) :: t.heap }, ⟨(readsOf ops o).map .tmp, dstLc o.dst v' ++ [.blk id], [], false⟩, ?_, ?_, ?_⟩, rfl, rfl, rfl⟩
      · simp only [drawOp, hm, if_true, drawNew]
        rw [← he, h1]; simp only [hid]
        rw [if_neg hni]
      · intro l hl
        simp only [List.mem_singleton] at hl; subst hl
        simp [same, look]
      · intro l hl
        cases l with
        | blk b =>
          have hb : id ≠ b := by rintro rfl; simp at hl
          simp [same, look, hb]
        | vb b => exact ⟨fun _ _ _ _ => Iff.rfl, fun _ _ _ _ => Iff.rfl⟩
        | vt b => exact ⟨fun _ _ _ => Iff.rfl, fun _ _ _ => Iff.rfl⟩
        | _ => exact ⟨rfl, rfl⟩
    · simp at h
  · simp at h

theorem drawOp_old (hm : makesBlk o = false) (s : St) : drawOp P call ops vs id o s = drawOld P call ops vs o s := by simp [drawOp, hm]

def evLight (P : Program) (id : Nat) (o : Oper) (s : St) : Option (ORes × List Nat) :=
  match evR P id o s.tmps s.heap with
  | some (v, none) => some (.val v s, readsBlk o s.tmps)
  | _ => none

/-- An operation that turns nothing. -/
theorem local_light {v : V} {S1 : St} {f : Fp} (hm : makesBlk o = false) (hev : ∀ s, evOp P call s.nid o s = match evLight P s.nid o s with
      | some (r, l) => some (r, ⟨l, [], []⟩)
      | none => none) (h : drawOp P call ops vs id o S = some (.val v S1, f)) (hk : ∀ f, kindOf o f = .light)
    (hr : ∀ l ∈ f.reads, same S t l) :
    OpLocal P call ops vs id o S t v S1 [] ∧ f.writes = dstLc o.dst v ∧ f.all = false := by
  rw [drawOp_old hm] at h
  simp only [drawOld, hev, evLight] at h
  cases h1 : evR P S.nid o S.tmps S.heap with
  | none => simp [h1] at h
  | some r =>
    obtain ⟨v1, nb⟩ := r
    cases nb with
    | some cs => exact absurd h1 (evR_none hm)
    | none =>
      simp only [h1, Option.some.injEq, Prod.mk.injEq, ORes.val.injEq] at h
      obtain ⟨⟨rfl, rfl⟩, rfl⟩ := h
      simp only [fpOf, hk] at hr ⊢
      have hrt : ∀ u ∈ readsOf ops o, same S t (.tmp u) := fun u hu => hr _ (List.mem_append_left _ (List.mem_map.2 ⟨u, hu, rfl⟩))
      have hrb : ∀ b ∈ readsBlk o S.tmps, look b S.heap = look b t.heap := fun b hb => hr (.blk b) (List.mem_append_right _ (List.mem_map.2 ⟨b, hb, rfl⟩))
      have he := evR_congr (P := P) (id := S.nid) (id' := t.nid) hm (fun x hx => ev_reads hrt hx) hrb
      refine ⟨⟨t, fpOf ops o t (calmAt vs o.dst v1) t ⟨readsBlk o t.tmps, [], []⟩, ?_, by simp, fun l _ => ⟨same.refl _ _, same.refl _ _⟩⟩, by first | rfl | trivial, by first | rfl | trivial⟩
      rw [drawOp_old hm]
      simp only [drawOld, hev, evLight, ← he, h1]

/-- A value is handed on. -/
theorem local_assign {v : V} {S1 : St} {f : Fp} {x : Operand} (ho : o.op = .assign x) (h : drawOp P call ops vs id o S = some (.val v S1, f)) (hall : f.all = false)
    (hr : ∀ l ∈ f.reads, same S t l) :
    OpLocal P call ops vs id o S t v S1 [] ∧ f.writes = dstLc o.dst v := by
  have hm : makesBlk o = false := by simp [makesBlk, ho]
  rw [drawOp_old hm] at h
  simp only [drawOld, evOp, ho] at h
  have hxe : (∀ u ∈ readsOf ops o, same S t (.tmp u)) → evT P o.type S.tmps x = evT P o.type t.tmps x := fun h => evT_congr (ev_reads (o := o) (ops := ops) h (by simp [ho, Op.operands])) _
  have key : ∀ {v0 : V}, (evT P o.type S.tmps x = some v0) → (∀ sz xs, v0 ≠ .c (.own sz xs)) → (∀ n, v0 ≠ .c (.nilsl n)) →
      (calmAt vs o.dst v0.calm = v ∧ S = S1 ∧ fpOf ops o S (calmAt vs o.dst v0.calm) S Foot.none = f) → OpLocal P call ops vs id o S t v S1 [] ∧ f.writes = dstLc o.dst v := by
    rintro v0 hx hno hnn ⟨rfl, rfl, rfl⟩
    have hk : kindOf o Foot.none = .still := by simp [kindOf, ho, Foot.none]
    simp only [fpOf, hk] at hr ⊢
    have hxt := hxe (fun u hu => hr _ (List.mem_append_left _ (List.mem_map.2 ⟨u, hu, rfl⟩)))
    refine ⟨⟨t, fpOf ops o t (calmAt vs o.dst v0.calm) t Foot.none, ?_, by simp, fun l _ => ⟨same.refl _ _, same.refl _ _⟩⟩, by simp [Foot.none]⟩
    rw [drawOp_old hm]
    simp only [drawOld, evOp, ho, ← hxt, hx]
    cases v0 with
    | view l sz xs => rfl
    | c y => cases y <;> first | rfl | exact absurd rfl (hno _ _) | exact absurd rfl (hnn _)
    | _ => rfl
  have keyn : ∀ {n : Nat}, (evT P o.type S.tmps x = some (.c (.nilsl n))) →
      (calmAt vs o.dst (.c (.own n [])) = v ∧ S = S1 ∧ fpOf ops o S (calmAt vs o.dst (.c (.own n []))) S Foot.none = f) → OpLocal P call ops vs id o S t v S1 [] ∧ f.writes = dstLc o.dst v := by
    rintro n hx ⟨rfl, rfl, rfl⟩
    have hk : kindOf o Foot.none = .still := by simp [kindOf, ho, Foot.none]
    simp only [fpOf, hk] at hr ⊢
    have hxt := hxe (fun u hu => hr _ (List.mem_append_left _ (List.mem_map.2 ⟨u, hu, rfl⟩)))
    refine ⟨⟨t, fpOf ops o t (calmAt vs o.dst (.c (.own n []))) t Foot.none, ?_, by simp, fun l _ => ⟨same.refl _ _, same.refl _ _⟩⟩, by simp [Foot.none]⟩
    rw [drawOp_old hm]
    simp only [drawOld, evOp, ho, ← hxt, hx]
  cases hx : evT P o.type S.tmps x with
  | none => simp [hx] at h
  | some v0 =>
    simp only [hx] at h
    cases v0 with
    | view l sz xs =>
      simp only [Option.some.injEq, Prod.mk.injEq, ORes.val.injEq, and_assoc] at h
      exact key hx (by simp) (by simp) h
    | c y =>
      cases y with
      | own sz xs =>
        cases x with
        | tmp u =>
          simp only [Option.some.injEq, Prod.mk.injEq, ORes.val.injEq] at h
          obtain ⟨_, rfl⟩ := h
          simp [fpOf, kindOf, ho] at hall
        | _ => simp at h
      | nilsl n =>
        simp only [Option.some.injEq, Prod.mk.injEq, ORes.val.injEq, and_assoc] at h
        exact keyn hx h
      | _ =>
        simp only [Option.some.injEq, Prod.mk.injEq, ORes.val.injEq, and_assoc] at h
        exact key hx (by simp) (by simp) h
    | _ =>
      simp only [Option.some.injEq, Prod.mk.injEq, ORes.val.injEq, and_assoc] at h
      exact key hx (by simp) (by simp) h

end
end Go.AM

/- What a store, and a call, do hangs on what they read and write alone. -/
namespace Go.AM
open Go
variable [Globs]

section
variable {P : Program} {call : Call} {ops : Array Oper} {vs : List Nat} {S S' t : St} {o : Oper} {id : Nat}

theorem local_store {v : V} {S1 : St} {f : Fp} {ty : TypeId} {p x : Operand} (ho : o.op = .store ty p x) (h : drawOp P call ops vs id o S = some (.val v S1, f)) (hall : f.all = false)
    (hr : ∀ l ∈ f.reads ++ f.writes, same S t l) :
    ∃ b, OpLocal P call ops vs id o S t v S1 [.blk b] ∧ f.writes = dstLc o.dst v ++ [.blk b] := by
  have hm : makesBlk o = false := by simp [makesBlk, ho]
  rw [drawOp_old hm] at h
  simp only [drawOld, evOp, ho] at h
  have plain : ∀ {b off : Nat} {u : V} {cs : List C} {hp : List (Nat × List C)}, ev S.tmps p = some (.c (.ptr b off)) → evT P ty S.tmps x = some u → (∀ sz xs, u ≠ .c (.own sz xs)) → u.cells = some cs → tsz P ty = some cs.length →
      ∀ ncs : List C, (cs.any C.isNilsl = false ∧ ncs = cs.map C.plain ∨ cs.any C.isNilsl = true ∧ ncs = cs.map C.placed ∧ noView b S.tmps = true) → storeCells S.heap b off ncs = some hp →
      (calmAt vs o.dst (.c .undef) = v ∧ { S with heap := hp } = S1 ∧ fpOf ops o S (calmAt vs o.dst (.c .undef)) { S with heap := hp } ⟨[], [b], []⟩ = f) →
      ∃ b, OpLocal P call ops vs id o S t v S1 [.blk b] ∧ f.writes = dstLc o.dst v ++ [.blk b] := by
    rintro b off u cs hp hp1 hx hno hcs hsz ncs hnc hst ⟨rfl, rfl, rfl⟩
    have hk : kindOf o ⟨[], [b], []⟩ = .still := by simp [kindOf, ho]
    simp only [fpOf, hk] at hr ⊢
    have hrt : ∀ u ∈ readsOf ops o, same S t (.tmp u) := fun u hu => hr _ (List.mem_append_left _ (List.mem_append_left _ (List.mem_map.2 ⟨u, hu, rfl⟩)))
    have hvb : same S t (.vb b) := hr (.vb b) (by simp)
    have hpt : ev S.tmps p = ev t.tmps p := ev_reads (o := o) (ops := ops) hrt (by simp [ho, Op.operands])
    have hxt : evT P ty S.tmps x = evT P ty t.tmps x := evT_congr (ev_reads (o := o) (ops := ops) hrt (by simp [ho, Op.operands])) _
    have hb : look b S.heap = look b t.heap := hr (.blk b) (by simp)
    simp only [storeCells] at hst
    split at hst
    · rename_i cells hc
      split at hst
      · rename_i hle
        simp only [Option.some.injEq] at hst; subst hst
        refine ⟨b, ⟨{ t with heap := upd b (fillC cells off ncs) t.heap }, fpOf ops o t (calmAt vs o.dst (.c .undef)) { t with heap := upd b (fillC cells off ncs) t.heap } ⟨[], [b], []⟩, ?_, ?_, ?_⟩, by simp⟩
        · rw [drawOp_old hm]
          have hst' : storeCells t.heap b off ncs = some (upd b (fillC cells off ncs) t.heap) := by
            simp only [storeCells, ← hb, hc, hle, if_true]
          simp only [drawOld, evOp, ho, ← hpt, ← hxt, hp1, hx]
          rcases hnc with ⟨hnn, rfl⟩ | ⟨hnn, rfl, hnv⟩
          · cases u with
            | c y =>
              cases y <;> first
                | exact absurd rfl (hno _ _)
                | simp only [hcs, hsz, if_true, hst', hnn, Bool.false_eq_true, if_false]
            | _ => simp only [hcs, hsz, if_true, hst', hnn, Bool.false_eq_true, if_false]
          · have hnt : noView b t.tmps = true := noView_of fun x o z zs e => noView_spec hnv x o z zs ((hvb x o z zs).2 e)
            cases u with
            | c y =>
              cases y <;> first
                | exact absurd rfl (hno _ _)
                | simp only [hcs, hsz, if_true, hst', hnn, hnt]
            | _ => simp only [hcs, hsz, if_true, hst', hnn, hnt]
        · intro l hl
          simp only [List.mem_singleton] at hl; subst hl
          simp [same, look_upd_same]
        · intro l hl
          cases l with
          | blk b' =>
            have hbb : b ≠ b' := by rintro rfl; simp at hl
            simp [same, look_upd_other (Ne.symm hbb)]
          | vb b => exact ⟨fun _ _ _ _ => Iff.rfl, fun _ _ _ _ => Iff.rfl⟩
          | vt b => exact ⟨fun _ _ _ => Iff.rfl, fun _ _ _ => Iff.rfl⟩
          | _ => exact ⟨rfl, rfl⟩
      · simp at hst
    · simp at hst
  cases hp1 : ev S.tmps p with
  | none => simp [hp1] at h
  | some q =>
    cases q with
    | c y =>
      cases y with
      | ptr b off =>
        cases hx : evT P ty S.tmps x with
        | none => simp [hp1, hx] at h
        | some u =>
          simp only [hp1, hx] at h
          by_cases hu : ∃ sz xs, u = .c (.own sz xs)
          · obtain ⟨sz, xs, rfl⟩ := hu
            simp only at h
            split at h
            · rename_i v0 s0 f0 h0
              split at h0
              · split at h0
                · simp only [Option.some.injEq, Prod.mk.injEq] at h0 h
                  obtain ⟨_, rfl⟩ := h0
                  obtain ⟨_, rfl⟩ := h
                  simp [fpOf, kindOf, ho] at hall
                · simp at h0
              · simp at h0
            · simp at h
            · simp at h
          · have hno : ∀ sz xs, u ≠ .c (.own sz xs) := fun sz xs e => hu ⟨sz, xs, e⟩
            have h' : ∃ cs, u.cells = some cs ∧ tsz P ty = some cs.length ∧ ∃ ncs hp, (cs.any C.isNilsl = false ∧ ncs = cs.map C.plain ∨ cs.any C.isNilsl = true ∧ ncs = cs.map C.placed ∧ noView b S.tmps = true) ∧ storeCells S.heap b off ncs = some hp ∧
                (calmAt vs o.dst (.c .undef) = v ∧ { S with heap := hp } = S1 ∧ fpOf ops o S (calmAt vs o.dst (.c .undef)) { S with heap := hp } ⟨[], [b], []⟩ = f) := by
              cases hcs : u.cells with
              | none =>
                exfalso
                cases u with
                | c y => cases y <;> first | exact absurd rfl (hno _ _) | simp [hcs] at h
                | _ => simp [hcs] at h
              | some cs =>
                by_cases hsz : tsz P ty = some cs.length
                · by_cases hnn : cs.any C.isNilsl = true
                  · cases hst : storeCells S.heap b off (cs.map C.placed) with
                    | none =>
                      exfalso
                      cases u with
                      | c y => cases y <;> first | exact absurd rfl (hno _ _) | simp [hcs, hsz, hnn, hst] at h
                      | _ => simp [hcs, hsz, hnn, hst] at h
                    | some hp =>
                      cases hnv : noView b S.tmps with
                      | false =>
                        exfalso
                        cases u with
                        | c y => cases y <;> first | exact absurd rfl (hno _ _) | simp [hcs, hsz, hnn, hst, hnv] at h
                        | _ => simp [hcs, hsz, hnn, hst, hnv] at h
                      | true =>
                        refine ⟨cs, rfl, hsz, _, hp, .inr ⟨hnn, rfl, rfl⟩, hst, ?_⟩
                        cases u with
                        | c y => cases y <;> first | exact absurd rfl (hno _ _) | (simp only [hcs, hsz, hst, hnn, hnv, if_true, Option.some.injEq, Prod.mk.injEq, ORes.val.injEq, and_assoc] at h; exact h)
                        | _ => simp only [hcs, hsz, hst, hnn, hnv, if_true, Option.some.injEq, Prod.mk.injEq, ORes.val.injEq, and_assoc] at h; exact h
                  simp only [Bool.not_eq_true] at hnn
                  cases hst : storeCells S.heap b off (cs.map C.plain) with
                  | none =>
                    exfalso
                    cases u with
                    | c y => cases y <;> first | exact absurd rfl (hno _ _) | simp [hcs, hsz, hst, hnn] at h
                    | _ => simp [hcs, hsz, hst, hnn] at h
                  | some hp =>
                    refine ⟨cs, rfl, hsz, _, hp, .inl ⟨hnn, rfl⟩, hst, ?_⟩
                    cases u with
                    | c y => cases y <;> first | exact absurd rfl (hno _ _) | (simp only [hcs, hsz, hst, hnn, Bool.false_eq_true, if_false, if_true, Option.some.injEq, Prod.mk.injEq, ORes.val.injEq, and_assoc] at h; exact h)
                    | _ => simp only [hcs, hsz, hst, hnn, Bool.false_eq_true, if_false, if_true, Option.some.injEq, Prod.mk.injEq, ORes.val.injEq, and_assoc] at h; exact h
                · exfalso
                  cases u with
                  | c y => cases y <;> first | exact absurd rfl (hno _ _) | simp [hcs, hsz] at h
                  | _ => simp [hcs, hsz] at h
            obtain ⟨cs, h1, h2, ncs, hp, h1', h3, h4⟩ := h'
            exact plain hp1 hx hno h1 h2 ncs h1' h3 h4
      | _ => simp [hp1] at h
    | _ => simp [hp1] at h

end
end Go.AM

/- What a call does hangs on the blocks that go with it. -/
namespace Go.AM
open Go
variable [Globs]

theorem reach_same {hp hp' : List (Nat × List C)} : ∀ {n : Nat} {todo seen ids : List Nat}, reach hp n todo seen = some ids → seen.Nodup → (∀ b ∈ ids, look b hp = look b hp') → reach hp' n todo seen = some ids
  | 0, _, _, _, h, _, _ => by simp [reach] at h
  | n + 1, [], seen, ids, h, _, _ => by simpa [reach] using h
  | n + 1, b :: r, seen, ids, h, hn, hs => by
    simp only [reach] at h ⊢
    split at h
    · rename_i hb
      rw [if_pos hb]; exact reach_same h hn hs
    · rename_i hb
      rw [if_neg hb]
      split at h
      · rename_i cells hc
        have hn' : (seen ++ [b]).Nodup := by
          rw [List.nodup_append]
          exact ⟨hn, by simp, by intro x hx y hy; simp at hy; subst hy; intro e; subst e; exact hb hx⟩
        obtain ⟨_, ⟨q, h2⟩, _⟩ := reach_spec h hn'
        rw [← hs b (by rw [h2]; simp), hc]
        exact reach_same h hn' hs
      · simp at h

theorem look_putBlks_same {b : Nat} : ∀ {ids : List Nat} {cs : List (List C)} {h h' : List (Nat × List C)}, look b h = look b h' → look b (putBlks ids cs h) = look b (putBlks ids cs h')
  | [], _, _, _, e => by simpa [putBlks] using e
  | _ :: _, [], _, _, e => by simpa [putBlks] using e
  | x :: ids, c :: cs, h, h', e => by
    simp only [putBlks]
    refine look_putBlks_same ?_
    by_cases hx : b = x
    · subst hx; rw [look_upd_same, look_upd_same]
    · rw [look_upd_other hx, look_upd_other hx, e]

/-- Where a call writes. -/
def callW (ids' : List Nat) (S S1 : St) : List Lc :=
  ids'.map .blk ++ ids'.map .vb ++ (viewsIn ids' S.tmps).map .tmp ++ (if S1.nid = S.nid then [] else [.nid])

theorem mem_viewsIn {ids : List Nat} {tm : List (Nat × V)} {x b off sz : Nat} {xs : List D} (h : look x tm = some (.view (.cell b off) sz xs)) (hb : b ∈ ids) : x ∈ viewsIn ids tm := by
  unfold viewsIn
  refine List.mem_map.2 ⟨(x, .view (.cell b off) sz xs), List.mem_filter.2 ⟨mem_of_look h, ?_⟩, rfl⟩
  simp only [h]
  simpa using hb

section
variable {P : Program} {call : Call} {ops : Array Oper} {vs : List Nat} {S t : St} {o : Oper} {id : Nat}

theorem local_put {ids' : List Nat} {lh'' : List (List C)} {k : Nat} {S1 t1 : St} (hS : S1 = { S with tmps := unviewIn ids' S.tmps, heap := putBlks ids' lh'' S.heap, nid := S.nid + k })
    (ht : t1 = { t with tmps := unviewIn ids' t.tmps, heap := putBlks ids' lh'' t.heap, nid := t.nid + k }) (hs : ∀ l ∈ callW ids' S S1, same S t l) :
    (∀ l ∈ callW ids' S S1, same S1 t1 l) ∧ (∀ l, l ∉ callW ids' S S1 → same S S1 l ∧ same t t1 l) := by
  have vwS : ∀ (s : St) (x b off sz : Nat) (xs : List D), look x (unviewIn ids' s.tmps) = some (.view (.cell b off) sz xs) ↔ look x s.tmps = some (.view (.cell b off) sz xs) ∧ b ∉ ids' := by
    intro s x b off sz xs
    rw [look_unviewIn]
    cases hl : look x s.tmps with
    | none => simp
    | some v =>
      cases v with
      | view l z ys =>
        cases l with
        | tmp u => simp
        | cell b' off' =>
          by_cases hb : b' ∈ ids'
          · simp only [Option.map_some, hb, if_true, Option.some.injEq]
            constructor
            · intro e; simp at e
            · rintro ⟨e, hn⟩
              simp only [V.view.injEq, Loc.cell.injEq] at e
              rw [e.1.1] at hb
              exact absurd hb hn
          · simp only [Option.map_some, hb, if_false, Option.some.injEq]
            constructor
            · intro e
              refine ⟨e, ?_⟩
              simp only [V.view.injEq, Loc.cell.injEq] at e
              rw [← e.1.1]; exact hb
            · exact fun h => h.1
      | _ => simp
  have vtS : ∀ (s : St) (x u sz : Nat) (xs : List D), look x (unviewIn ids' s.tmps) = some (.view (.tmp u) sz xs) ↔ look x s.tmps = some (.view (.tmp u) sz xs) := by
    intro s x u sz xs
    rw [look_unviewIn]
    cases hl : look x s.tmps with
    | none => simp
    | some v =>
      cases v with
      | view l z ys =>
        cases l with
        | tmp u => simp
        | cell b' off' => by_cases hb : b' ∈ ids' <;> simp [hb]
      | _ => simp
  have stay : ∀ (s : St) (x : Nat), (∀ b off sz xs, look x s.tmps = some (.view (.cell b off) sz xs) → b ∉ ids') → look x s.tmps = look x (unviewIn ids' s.tmps) := by
    intro s x hx
    rw [look_unviewIn]
    cases hl : look x s.tmps with
    | none => simp
    | some v =>
      cases v with
      | view l z ys =>
        cases l with
        | tmp u => simp
        | cell b' off' => simp [hx b' off' z ys hl]
      | _ => simp
  subst hS; subst ht
  constructor
  · intro l hl
    have hst := hs l hl
    cases l with
    | tmp x => simp only [same, look_unviewIn] at hst ⊢; rw [hst]
    | blk b => exact look_putBlks_same hst
    | nid => simp only [same] at hst ⊢; omega
    | defs => exact hst
    | vb b => simp only [same, vwS] at hst ⊢; intro x off sz xs; rw [hst]
    | vt u => simp only [same, vtS] at hst ⊢; exact hst
  · intro l hl
    simp only [callW, List.mem_append, not_or] at hl
    obtain ⟨⟨⟨h1, h2⟩, h3⟩, h4⟩ := hl
    cases l with
    | tmp x =>
      have hx : x ∉ viewsIn ids' S.tmps := by simpa using h3
      refine ⟨stay S x fun b off sz xs e hb => hx (mem_viewsIn e hb), stay t x fun b off sz xs e hb => hx (mem_viewsIn (((hs (.vb b) (by simp [callW, hb])) x off sz xs).2 e) hb)⟩
    | blk b =>
      have hb : b ∉ ids' := by simpa using h1
      exact ⟨(look_putBlks_out hb).symm, (look_putBlks_out hb).symm⟩
    | nid =>
      split at h4
      · rename_i e
        exact ⟨by simp only [same]; omega, by simp only [same]; omega⟩
      · simp at h4
    | defs => exact ⟨rfl, rfl⟩
    | vb b =>
      have hb : b ∉ ids' := by simpa using h2
      exact ⟨fun x off sz xs => by simp only [vwS]; simp [hb], fun x off sz xs => by simp only [vwS]; simp [hb]⟩
    | vt u => exact ⟨fun x sz xs => by simp only [vtS], fun x sz xs => by simp only [vtS]⟩

theorem doCall_local {f : Nat} {args : List C} {v : V} {S1 : St} {ids : List Nat} (h : doCall call f args S = some (.val v S1, ids)) (hs : ∀ l ∈ callW (ids ++ newIds S S1) S S1, same S t l) :
    ∃ t1, doCall call f args t = some (.val v t1, ids) ∧ (∀ l ∈ callW (ids ++ newIds S S1) S S1, same S1 t1 l) ∧ (∀ l, l ∉ callW (ids ++ newIds S S1) S S1 → same S S1 l ∧ same t t1 l) := by
  unfold doCall at h ⊢
  split at h
  · simp at h
  · rename_i ids' hr
    split at h
    · rename_i args' lh ha hl
      split at h
      · rename_i v0 lh' hc
        split at h
        · rename_i lh'' v' hb hv
          simp only [Option.some.injEq, Prod.mk.injEq, ORes.val.injEq] at h
          obtain ⟨⟨rfl, hS⟩, rfl⟩ := h
          have hnew : newIds S S1 = idsFrom S.nid (lh'.length - ids'.length) := by
            unfold newIds; rw [← hS]; simp only; congr 1; omega
          have hbl : ∀ b ∈ ids', look b S.heap = look b t.heap := fun b hb => hs (.blk b) (by simp [callW, hb])
          have hids : idsFrom S.nid (lh'.length - ids'.length) = idsFrom t.nid (lh'.length - ids'.length) := by
            by_cases hk : lh'.length - ids'.length = 0
            · rw [hk]; rfl
            · have : S.nid = t.nid := hs .nid (by
                have : S1.nid ≠ S.nid := by rw [← hS]; simp only; omega
                simp [callW, this])
              rw [this]
          have hl' : blksInto t.heap ids' = some lh := by
            rw [← hl]; unfold blksInto
            exact (mapM?_congr fun b hb => by rw [hbl b hb]).symm
          rw [hnew] at hs ⊢
          obtain ⟨q1, q2⟩ := local_put (t := t) (k := lh'.length - ids'.length) hS.symm rfl hs
          refine ⟨_, ?_, q1, q2⟩
          rw [reach_same hr (by simp) hbl]
          simp only [ha, hl', hc, ← hids, hb, hv]
        · simp at h
      · split at h <;> simp at h
      · simp at h
    · simp at h

theorem argsT_congr {P : Program} {tm tm' : List (Nat × V)} : ∀ {l : List Operand} {ts : List TypeId}, (∀ x ∈ l, ev tm x = ev tm' x) → argsT P tm l ts = argsT P tm' l ts
  | [], _, _ => rfl
  | x :: l, ts, h => by
    have ih : argsT P tm l ts.tail = argsT P tm' l ts.tail := argsT_congr fun y hy => h y (by simp [hy])
    simp only [argsT, evT_congr (P := P) (h x (by simp)), ih]

theorem local_call {v : V} {S1 : St} {f : Fp} {c : Go.Call} {x : Operand} (ho : o.op = .call c) (hcv : c.callee = .value x) (h : drawOp P call ops vs id o S = some (.val v S1, f))
    (hr : ∀ l ∈ f.reads ++ f.writes, same S t l) :
    ∃ W, OpLocal P call ops vs id o S t v S1 W ∧ f.writes = dstLc o.dst v ++ W ∧ f.all = false := by
  have hm : makesBlk o = false := by simp [makesBlk, ho]
  rw [drawOp_old hm] at h
  simp only [drawOld, evOp, ho, hcv] at h
  cases hx : ev S.tmps x with
  | none => simp [hx] at h
  | some q =>
    cases q with
    | c y =>
      cases y with
      | fn g caps =>
        cases ha : argsT P S.tmps c.args.toList c.argTypes.toList with
        | none => simp [hx, ha] at h
        | some args =>
          cases hd : doCall call g (args ++ caps.map fun b => .ptr b 0) S with
          | none => simp [hx, ha, hd] at h
          | some r =>
            obtain ⟨r, ids⟩ := r
            cases r with
            | pan d s' => simp [hx, ha, hd] at h
            | val v0 s0 =>
              simp only [hx, ha, hd, Option.some.injEq, Prod.mk.injEq, ORes.val.injEq] at h
              obtain ⟨⟨rfl, rfl⟩, rfl⟩ := h
              have hk : kindOf o ⟨ids, ids, []⟩ = .call := by simp [kindOf, ho, hcv]
              simp only [fpOf, hk] at hr ⊢
              have hrt : ∀ u ∈ readsOf ops o, same S t (.tmp u) := fun u hu => hr _ (List.mem_append_left _ (List.mem_map.2 ⟨u, hu, rfl⟩))
              have hxt : ev S.tmps x = ev t.tmps x := ev_reads (o := o) (ops := ops) hrt (by simp [ho, Op.operands, Call.operands, hcv])
              have hat : argsT P S.tmps c.args.toList c.argTypes.toList = argsT P t.tmps c.args.toList c.argTypes.toList := by
                refine argsT_congr fun y hy => ?_
                rw [ev_reads (o := o) (ops := ops) hrt (x := y) (by simp [ho, Op.operands, Call.operands, hcv]; exact .inr (by simpa using hy))]
              obtain ⟨t1, h1, h2, h3⟩ := doCall_local (t := t) hd (fun l hl => hr l (by
                simp only [callW] at hl
                simp only [List.mem_append] at hl ⊢
                rcases hl with ((hl | hl) | hl) | hl
                · exact .inr (.inl (.inl (.inl (.inr hl))))
                · exact .inr (.inl (.inl (.inr hl)))
                · exact .inr (.inl (.inr hl))
                · exact .inr (.inr hl)))
              refine ⟨callW (ids ++ newIds S s0) S s0, ⟨t1, fpOf ops o t (calmAt vs o.dst v0) t1 ⟨ids, ids, []⟩, ?_, h2, h3⟩, by simp [callW], by first | rfl | trivial⟩
              rw [drawOp_old hm]
              simp only [drawOld, evOp, ho, hcv, ← hxt, hx, ← hat, ha, h1]
      | _ => simp [hx] at h
    | _ => simp [hx] at h

end
end Go.AM
