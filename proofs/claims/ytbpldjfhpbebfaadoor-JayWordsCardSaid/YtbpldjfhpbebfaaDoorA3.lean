/- Part of a proof about the given program: the abstract machine, the printed functions, the plain laws. (AMRun, AMWalk, AMPrint, AMPrint2, AMFields, AMTypes, AMExt, YW0, YW1, YWR0, YWQ, YWN, YWFjay_Grammar, YWFtriglyphref15_J, YWFtriglyphlaw18_JayWords) -/
import Derived.Test.YtbpldjfhpbebfaaDoorA2
import Derived.Shelf.Strings.Fields
import Derived.Shelf.Strings.OnBuilder
import Derived.Shelf.Strings.IndexAnyAll
import Derived.Shelf.Small.Strs
import Derived.Test.YtbpldjfhpbebfaaDoorProg
import Derived.KernelRfl
import Derived.Lib.LaidTab
import Derived.LaidSub
import Derived.MakeChecks
import Derived.Test.YtbpldjfhpbebfaaDoorRows
set_option linter.all false
set_option linter.unusedSectionVars false
set_option linter.unusedVariables false
set_option linter.unusedSimpArgs false

/- Steps of the logic whose states stand written out. -/
namespace Go.AM
open Go

section
variable {X : Ctx} {f : Nat} {Q : AX → St → Prop} {tm tm' : List (Nat × V)} {hp : List (Nat × List C)} {nid : Nat} {df : List (Nat × List Nat)} {pn : Option D}

/-- 'keepT', told so that reckoning it writes out what is kept. -/
def keepK {α : Type} : List Nat → List (Nat × V) → (List (Nat × V) → α) → α
  | [], _, k => k []
  | t :: r, tm, k => match look t tm with
    | some (.view _ sz xs) => keepK r tm fun l => k ((t, .d (.list sz xs)) :: l)
    | some v => keepK r tm fun l => k ((t, v) :: l)
    | none => keepK r tm k

theorem keepK_eq {α : Type} : ∀ (ks : List Nat) (tm : List (Nat × V)) (k : List (Nat × V) → α), keepK ks tm k = k (keepT ks tm)
  | [], _, _ => rfl
  | t :: r, tm, k => by
    simp only [keepK, keepT]
    cases h : look t tm with
    | none => simp only [keepK_eq]
    | some v => cases v <;> simp only [keepK_eq]

theorem run_region {id : Nat} {ops : Array Oper} (hk : keepK (X.H f id) tm some = some tm') (h : awpO X ops ops.toList Q ⟨tm', hp, nid, df, pn⟩) : awp X f (.region id ops false) Q ⟨tm, hp, nid, df, pn⟩ :=
  awp_region (by rw [keepK_eq, Option.some.injEq] at hk; rw [hk]; exact h)
theorem run_draw {id : Nat} {ops : Array Oper} {l : List Oper} {n : Nat} (hk : keepK (X.H f id) tm some = some tm') (hn : ops.size = n) (h : awpD X ops (appended? ops) nid [] ops.toList 0 Q ⟨tm', hp, nid + n, df, pn⟩) : awp X f (.region id ops true) Q ⟨tm, hp, nid, df, pn⟩ :=
  awp_draw (by subst hn; rw [keepK_eq, Option.some.injEq] at hk; rw [hk]; exact h)

/-- An operation that sets a temporary and nothing else. -/
theorem run_op {ops : Array Oper} {o : Oper} {l : List Oper} {v : V} {ft : Foot} {d : Nat} (hw : wantedAt ops tm o = some true) (hd : o.dst = some d) (hop : ∀ call, evOp X.P call nid o ⟨tm, hp, nid, df, pn⟩ = some (.val v ⟨tm, hp, nid, df, pn⟩, ft)) (hv : v.isOwn = false)
    (h : awpO X ops l Q ⟨(d, v) :: tm, hp, nid, df, pn⟩) : awpO X ops (o :: l) Q ⟨tm, hp, nid, df, pn⟩ := by
  refine awpO_rfl hw hop ?_
  have : putDst o v ⟨tm, hp, nid, df, pn⟩ = ⟨(d, v) :: tm, hp, nid, df, pn⟩ := by
    simp only [putDst, putSt, hd, setTmp]
    cases v with
    | c x => cases x <;> first | rfl | simp [V.isOwn] at hv
    | _ => rfl
  rw [this]; exact h
theorem run_skip {ops : Array Oper} {o : Oper} {l : List Oper} {d : Nat} (hw : wantedAt ops tm o = some false) (hd : o.dst = some d) (h : awpO X ops l Q ⟨(d, .c .undef) :: tm, hp, nid, df, pn⟩) : awpO X ops (o :: l) Q ⟨tm, hp, nid, df, pn⟩ := by
  refine awpO_skip hw ?_
  have : putDst o (.c .undef) ⟨tm, hp, nid, df, pn⟩ = ⟨(d, .c .undef) :: tm, hp, nid, df, pn⟩ := by simp only [putDst, putSt, hd, setTmp]
  rw [this]; exact h

theorem reach_nil (h : List (Nat × List C)) : reach h 64 [] [] = some [] := rfl

theorem look_unviewIn_nil : ∀ tm : List (Nat × V), unviewIn [] tm = tm
  | [] => rfl
  | (t, v) :: r => by
    cases v with
    | view l sz xs => cases l <;> simp [unviewIn, look_unviewIn_nil r]
    | _ => simp [unviewIn, look_unviewIn_nil r]

/-- A call that is handed no block, and hands none back. -/
theorem run_call {ops : Array Oper} {o : Oper} {l : List Oper} {c : Go.Call} {fo : Operand} {g d : Nat} {args args' : List C} {v : V} (hw : wantedAt ops tm o = some true) (hd : o.dst = some d) (ho : o.op = .call c) (hc : c.callee = .value fo) (hf : ev tm fo = some (.c (.fn g [])))
    (ha : argsT X.P tm c.args.toList c.argTypes.toList = some args) (hi : args.flatMap C.ids = []) (hj : mapM? (C.into []) args = some args) (hst : args.map C.still = args') (hH : (X.H g 999999).isEmpty = true) (hv : aval X g args' [] (.ret v [])) (hb : V.back [] v = some v) (hno : v.isOwn = false)
    (h : awpO X ops l Q ⟨(d, v) :: tm, hp, nid, df, pn⟩) : awpO X ops (o :: l) Q ⟨tm, hp, nid, df, pn⟩ := by
  refine awpO_op hw (evt_call (s := ⟨tm, hp, nid, df, pn⟩) (ids := []) (lh := []) (lh' := []) (lh'' := []) ho hc hf ha (by simp [hi, reach]) (by simpa using hj) rfl (aval_still (hst ▸ hv) hH) rfl (by simpa [idsFrom] using hb)) ?_
  have : putDst o v (⟨unviewIn ([] ++ idsFrom nid (([] : List (List C)).length - ([] : List Nat).length)) tm, putBlks ([] ++ idsFrom nid (([] : List (List C)).length - ([] : List Nat).length)) [] hp, nid + (([] : List (List C)).length - ([] : List Nat).length), df, pn⟩ : St) = ⟨(d, v) :: tm, hp, nid, df, pn⟩ := by
    simp only [putDst, putSt, hd, List.length_nil, Nat.sub_self, idsFrom, List.append_nil, look_unviewIn_nil, putBlks, Nat.add_zero, setTmp]
    cases v with
    | c x => cases x <;> first | rfl | simp [V.isOwn] at hno
    | _ => rfl
  rw [this]; exact h

theorem aval_start {fn : Func} {code : Code} {args args' : List C} {lh : List (List C)} {r : CRes} {n : Nat} (hE : X.E f = none) (hf : X.P.funcs[f]? = some fn) (hb : fn.body = some code) (hst : (if (X.H f 999999).isEmpty then args.map C.still else args) = args') (hl : args'.length = fn.params.size + fn.nfree)
    (ht : zipIdx' 0 (args'.map fun c => V.c c.plain) = tm) (hh : zipIdx' 0 lh = hp) (hn : lh.length = n) (h : awp X f code (atEnd X fn n r) ⟨tm, hp, n, [], none⟩) : aval X f args lh r :=
  aval_of hE hf hb hst hl (by unfold enterSt; rw [ht, hh, hn]; exact h)

/-- A loop at its head. -/
theorem run_loop {c : Code} (h : awpL X f c (cleanAt (X.H f (firstRegion c)) nid) Q ⟨tm, hp, nid, df, pn⟩) : awp X f (.loop c) Q ⟨tm, hp, nid, df, pn⟩ := awp_loop h

end
end Go.AM

namespace Go.AM
open Go
section
variable {X : Ctx} {f : Nat} {Q : AX → St → Prop} {s : St}

/-- What is to be shown behind a round of a loop. -/
inductive loopQ (R : St → Prop) (Q : AX → St → Prop) : AX → St → Prop where
  | normal {s : St} : R s → loopQ R Q .normal s
  | exit {id : Nat} {s : St} : Q (.exit id) s → loopQ R Q (.exit id) s
  | ret {s : St} : Q .ret s → loopQ R Q .ret s
  | pan {d : D} {s : St} : Q (.pan d) s → loopQ R Q (.pan d) s

/-- A loop by an invariant: 'st' is the state at its head. -/
theorem awpL_inv {α : Type} {c : Code} {clean : St → Option St} (m : α → Nat) (st : α → St) (I : α → Prop) {a : α} (h0 : I a) (hs : clean s = some (st a))
    (step : ∀ a, I a → awp X f c (loopQ (fun s' => ∃ a', I a' ∧ m a' < m a ∧ clean s' = some (st a')) Q) (st a)) : awpL X f c clean Q s := by
  have key : ∀ n a s, m a < n → I a → clean s = some (st a) → awpL X f c clean Q s := by
    intro n
    induction n with
    | zero => intro a s h; omega
    | succ n ih =>
      intro a s hn hI hc
      refine awpL_round hc (awp_mono (step a hI) ?_)
      intro x s' hx
      cases x with
      | normal =>
        cases hx with | normal hx =>
        obtain ⟨a', h1, h2, h3⟩ := hx
        exact ih a' s' (by omega) h1 h3
      | exit id => cases hx with | exit hx => exact hx
      | ret => cases hx with | ret hx => exact hx
      | pan d => cases hx with | pan hx => exact hx
  exact key (m a + 1) a s (by omega) h0 hs

end
end Go.AM

namespace Go.AM
open Go
section
variable {X : Ctx} {f : Nat} {Q : AX → St → Prop} {tm tm' : List (Nat × V)} {hp hp' : List (Nat × List C)} {nid nid' : Nat} {df df' : List (Nat × List Nat)} {pn pn' : Option D}

/-- An operation that sets no temporary. -/
theorem run_eff {ops : Array Oper} {o : Oper} {l : List Oper} {v : V} {ft : Foot} {s1 : St} (hw : wantedAt ops tm o = some true) (hd : o.dst = none) (hop : ∀ call, evOp X.P call nid o ⟨tm, hp, nid, df, pn⟩ = some (.val v s1, ft))
    (h : awpO X ops l Q s1) : awpO X ops (o :: l) Q ⟨tm, hp, nid, df, pn⟩ := by
  refine awpO_rfl hw hop ?_
  have : putDst o v s1 = s1 := by simp only [putDst, putSt, hd]
  rw [this]; exact h

/-- Any operation that calls nothing. -/
theorem run_any {ops : Array Oper} {o : Oper} {l : List Oper} {v : V} {ft : Foot} {d : Nat} (hw : wantedAt ops tm o = some true) (hd : o.dst = some d) (hop : ∀ call, evOp X.P call nid o ⟨tm, hp, nid, df, pn⟩ = some (.val v ⟨tm', hp', nid', df', pn'⟩, ft))
    (h : awpO X ops l Q ⟨setTmp d v tm', hp', nid', df', pn'⟩) : awpO X ops (o :: l) Q ⟨tm, hp, nid, df, pn⟩ := by
  refine awpO_rfl hw hop ?_
  have : putDst o v ⟨tm', hp', nid', df', pn'⟩ = ⟨setTmp d v tm', hp', nid', df', pn'⟩ := by simp only [putDst, putSt, hd]
  rw [this]; exact h
end
end Go.AM

/- Steps of the logic that leave their conditions as goals behind the way on. -/
namespace Go.AM
open Go

/-- A byte of a text; 0: there is none. -/
def btI (s : List UInt8) (i : Nat) : Int := (s.getD i 0).toNat

/-- A temporary's bool is told; reckoning it writes out what is kept. -/
def setBK {α : Type} (d : Nat) (b : Bool) : List (Nat × V) → (List (Nat × V) → α) → α
  | [], k => k []
  | (j, v) :: r, k => if j = d then k ((j, .d (.bool b)) :: r) else setBK d b r fun l => k ((j, v) :: l)

theorem setBK_eq {α : Type} {d : Nat} {b : Bool} : ∀ {tm : List (Nat × V)} {k : List (Nat × V) → α}, look d tm = some (.c (.d (.bool b))) → setBK d b tm k = k tm
  | [], _, h => by simp [look] at h
  | (j, v) :: r, k, h => by
    simp only [look] at h
    simp only [setBK]
    by_cases hj : j = d
    · rw [if_pos hj] at h ⊢
      simp only [Option.some.injEq] at h
      rw [h]
    · rw [if_neg hj] at h ⊢
      rw [setBK_eq h]

section
variable {X : Ctx} {f : Nat} {Q : AX → St → Prop} {tm tm0 tm1 : List (Nat × V)} {hp : List (Nat × List C)} {nid : Nat} {df : List (Nat × List Nat)} {pn : Option D}

/-- An operation's guard hangs on a bool that is not known. -/
theorem run_split {ops : Array Oper} {o q : Oper} {l : List Oper} {j d : Nat} {want b : Bool} (hg : o.guard = some (j, want)) (hq : ops[j]? = some q) (hd : q.dst = some d) (hl : look d tm = some (.c (.d (.bool b))))
    (e1 : setBK d true tm some = some tm1) (e0 : setBK d false tm some = some tm0)
    (h1 : b = true → awpO X ops (o :: l) Q ⟨tm1, hp, nid, df, pn⟩) (h0 : b = false → awpO X ops (o :: l) Q ⟨tm0, hp, nid, df, pn⟩) : awpO X ops (o :: l) Q ⟨tm, hp, nid, df, pn⟩ := by
  have _ := hg; have _ := hq; have _ := hd
  cases b with
  | true => rw [setBK_eq hl, Option.some.injEq] at e1; rw [e1]; exact h1 rfl
  | false => rw [setBK_eq hl, Option.some.injEq] at e0; rw [e0]; exact h0 rfl

theorem run_index_str {ops : Array Oper} {o : Oper} {l : List Oper} {d : Nat} {t : TypeId} {x i : Operand} {u : List UInt8} {k : IntKind} {n : Int}
    (h : awpO X ops l Q ⟨(d, .d (.int .u8 (btI u n.toNat))) :: tm, hp, nid, df, pn⟩)
    (hw : wantedAt ops tm o = some true) (hd : o.dst = some d) (ho : o.op = .index t x i) (ht : X.P.underlying t = some .string) (hx : ev tm x = some (.c (.d (.str u)))) (hi : ev tm i = some (.c (.d (.int k n))))
    (hb : 0 ≤ n ∧ n.toNat < u.length) : awpO X ops (o :: l) Q ⟨tm, hp, nid, df, pn⟩ := by
  refine run_op hw hd (fun _ => ev_index_str (s := ⟨tm, hp, nid, df, pn⟩) (b := u.getD n.toNat 0) ho ht hx hi hb.1 ?_) rfl ?_
  · simp [List.getD, hb.2]
  · exact h

theorem run_indexAddr_map {α : Type} {ops : Array Oper} {o : Oper} {l : List Oper} {d : Nat} {t e : TypeId} {x i : Operand} {u : List α} {g : α → D} {k : IntKind} {n : Int} {sz : Nat} 
    (h : ∀ a, u[n.toNat]? = some a → awpO X ops l Q ⟨(d, .rptr (g a).cells) :: tm, hp, nid, df, pn⟩)
    (hw : wantedAt ops tm o = some true) (hd : o.dst = some d) (ho : o.op = .indexAddr t x i) (ht : telem X.P t = some e) (hz : some sz = tsz X.P e) (hx : (ev tm x).bind V.toD = some (.list sz (u.map g))) (hi : ev tm i = some (.c (.d (.int k n))))
    (hb : 0 ≤ n ∧ n.toNat < u.length) : awpO X ops (o :: l) Q ⟨tm, hp, nid, df, pn⟩ := by
  refine run_op hw hd (fun _ => ev_indexAddr (s := ⟨tm, hp, nid, df, pn⟩) (d := g (u[n.toNat]'hb.2)) ho ht hz hx hi hb.1 ?_) rfl ?_
  · simp [hb.2]
  · exact h _ (by simp)

/-- s[lo:] of a string. -/
theorem run_from_str {ops : Array Oper} {o : Oper} {l : List Oper} {d : Nat} {t : TypeId} {x lo : Operand} {u : List UInt8} {k : IntKind} {n : Int}
    (h : awpO X ops l Q ⟨(d, .d (.str (u.drop n.toNat))) :: tm, hp, nid, df, pn⟩)
    (hw : wantedAt ops tm o = some true) (hd : o.dst = some d) (ho : o.op = .slice t x (some lo) none none) (ht : X.P.underlying t = some .string) (hx : evT X.P t tm x = some (.c (.d (.str u)))) (hi : ev tm lo = some (.c (.d (.int k n))))
    (hb : 0 ≤ n ∧ n.toNat ≤ u.length) : awpO X ops (o :: l) Q ⟨tm, hp, nid, df, pn⟩ := by
  refine run_op hw hd (fun _ => ev_slice_str (s := ⟨tm, hp, nid, df, pn⟩) (a := n.toNat) (b := u.length) ho ht hx (optNat_some hi hb.1) rfl hb.2 (Nat.le_refl _)) rfl ?_
  rw [List.take_length]
  exact h

/-- s[:hi] of a string. -/
theorem run_to_str {ops : Array Oper} {o : Oper} {l : List Oper} {d : Nat} {t : TypeId} {x hi : Operand} {u : List UInt8} {k : IntKind} {n : Int}
    (h : awpO X ops l Q ⟨(d, .d (.str (u.take n.toNat))) :: tm, hp, nid, df, pn⟩)
    (hw : wantedAt ops tm o = some true) (hd : o.dst = some d) (ho : o.op = .slice t x none (some hi) none) (ht : X.P.underlying t = some .string) (hx : evT X.P t tm x = some (.c (.d (.str u)))) (hi' : ev tm hi = some (.c (.d (.int k n))))
    (hb : 0 ≤ n ∧ n.toNat ≤ u.length) : awpO X ops (o :: l) Q ⟨tm, hp, nid, df, pn⟩ := by
  refine run_op hw hd (fun _ => ev_slice_str (s := ⟨tm, hp, nid, df, pn⟩) (a := 0) (b := n.toNat) ho ht hx rfl (optNat_some hi' hb.1) (Nat.zero_le _) hb.2) rfl ?_
  exact h

/-- s[lo:hi] of a string. -/
theorem run_mid_str {ops : Array Oper} {o : Oper} {l : List Oper} {d : Nat} {t : TypeId} {x lo hh : Operand} {u : List UInt8} {k k' : IntKind} {n m : Int}
    (h : awpO X ops l Q ⟨(d, .d (.str ((u.take m.toNat).drop n.toNat))) :: tm, hp, nid, df, pn⟩)
    (hw : wantedAt ops tm o = some true) (hd : o.dst = some d) (ho : o.op = .slice t x (some lo) (some hh) none) (ht : X.P.underlying t = some .string) (hx : evT X.P t tm x = some (.c (.d (.str u)))) (hi : ev tm lo = some (.c (.d (.int k n))))
    (hi' : ev tm hh = some (.c (.d (.int k' m)))) (hb : 0 ≤ n ∧ n ≤ m ∧ m.toNat ≤ u.length) : awpO X ops (o :: l) Q ⟨tm, hp, nid, df, pn⟩ := by
  refine run_op hw hd (fun _ => ev_slice_str (s := ⟨tm, hp, nid, df, pn⟩) (a := n.toNat) (b := m.toNat) ho ht hx (optNat_some hi hb.1) (optNat_some hi' (by omega)) (by omega) hb.2.2) rfl ?_
  exact h

theorem run_concat {ops : Array Oper} {o : Oper} {l : List Oper} {d : Nat} {t t' : TypeId} {x y : Operand} {a b : List UInt8}
    (h : awpO X ops l Q ⟨(d, .d (.str (a ++ b))) :: tm, hp, nid, df, pn⟩)
    (hw : wantedAt ops tm o = some true) (hd : o.dst = some d) (ho : o.op = .binOp .add t x y t') (hx : evT X.P t tm x = some (.c (.d (.str a)))) (hy : evT X.P t tm y = some (.c (.d (.str b))))
    (hb : a.length + b.length ≤ 1099511627776) : awpO X ops (o :: l) Q ⟨tm, hp, nid, df, pn⟩ :=
  run_op hw hd (fun _ => ev_concat (s := ⟨tm, hp, nid, df, pn⟩) ho hx hy hb) rfl h

theorem setTmp_own {t sz : Nat} {xs : List D} {tm : List (Nat × V)} : setTmp t (.c (.own sz xs)) tm = (t, .c (.own sz xs)) :: unview (.tmp t) tm := rfl

/-- 'unview', told so that reckoning it writes it out. -/
def unviewK {α : Type} (l : Loc) : List (Nat × V) → (List (Nat × V) → α) → α
  | [], k => k []
  | (t, v) :: r, k => match v with
    | .view l' sz xs => unviewK l r fun r => k ((t, if l' = l then .d (.list sz xs) else .view l' sz xs) :: r)
    | v => unviewK l r fun r => k ((t, v) :: r)

theorem unviewK_eq {α : Type} {l : Loc} : ∀ {tm : List (Nat × V)} {k : List (Nat × V) → α}, unviewK l tm k = k (unview l tm)
  | [], _ => rfl
  | (t, v) :: r, k => by cases v <;> simp only [unviewK, unview, unviewK_eq]

/-- Bytes of a string. -/
theorem run_bytes {ops : Array Oper} {o : Oper} {l : List Oper} {d : Nat} {src dst e : TypeId} {x : Operand} {a : List UInt8}
    (h : awpO X ops l Q ⟨(d, .c (.own 1 (a.map byteD))) :: tm1, hp, nid, df, pn⟩)
    (hw : wantedAt ops tm o = some true) (hd : o.dst = some d) (ho : o.op = .convert src dst x) (hs : X.P.underlying src = some .string) (hdd : X.P.underlying dst = some (.slice e)) (he : X.P.underlying e = some (.int .u8)) (hz : tsz X.P e = some 1)
    (hx : evT X.P src tm x = some (.c (.d (.str a)))) (hk : unviewK (.tmp d) tm some = some tm1) (hb : a.length ≤ 1099511627776) : awpO X ops (o :: l) Q ⟨tm, hp, nid, df, pn⟩ := by
  refine run_any hw hd (fun _ => ev_bytes (s := ⟨tm, hp, nid, df, pn⟩) ho hs hdd he hz hx hb) ?_
  rw [unviewK_eq, Option.some.injEq] at hk
  rw [setTmp_own, hk]
  exact h

end

section
variable {X : Ctx} {f : Nat} {Q : AX → St → Prop} {tm tm' tm1 tm2 : List (Nat × V)} {hp hp' : List (Nat × List C)} {nid : Nat} {df : List (Nat × List Nat)} {pn : Option D}

/-- 'plainAt', told so that reckoning it writes it out. -/
def plainAtK {α : Type} (t : Nat) : List (Nat × V) → (List (Nat × V) → α) → α
  | [], k => k []
  | (j, v) :: r, k => if j = t then (match v with | .c (.own sz xs) => k ((j, .d (.list sz xs)) :: r) | v => k ((j, v) :: r)) else plainAtK t r fun r => k ((j, v) :: r)

theorem plainAtK_eq {α : Type} {t : Nat} : ∀ {tm : List (Nat × V)} {k : List (Nat × V) → α}, plainAtK t tm k = k (plainAt t tm)
  | [], _ => rfl
  | (j, v) :: r, k => by
    simp only [plainAtK, plainAt]
    by_cases hj : j = t
    · rw [if_pos hj, if_pos hj]
      cases v with
      | c y => cases y <;> rfl
      | _ => rfl
    · rw [if_neg hj, if_neg hj, plainAtK_eq]

/-- append to the slice of a temporary. -/
theorem run_append_view {ops : Array Oper} {o : Oper} {l : List Oper} {d : Nat} {c : Go.Call} {t u e : TypeId} {x y : Operand} {n w : Nat} {yv : V} {xs ys zs : List D}
    (h : awpO X ops l Q ⟨(d, .c (.own n (xs ++ ys))) :: tm2, hp, nid, df, pn⟩)
    (hwa : wantedAt ops tm o = some true) (hd : o.dst = some d) (ho : o.op = .call c) (hc : c.callee = .builtin .append) (ha : c.args.toList = [x, y]) (hat : c.argTypes.toList = [t, u]) (ht : telem X.P t = some e) (hn : tsz X.P e = some n) (hu : isSource X.P u = true)
    (hb : (Nat.ble (X.P.bytesOf e) 1024 && zeroFits X.P e n) = true) (hx : evT X.P t tm x = some (.view (.tmp w) n xs)) (hw : look w tm = some (.c (.own n zs))) (hy : evT X.P u tm y = some yv) (hys : appended yv = some (n, ys))
    (hk1 : plainAtK w tm some = some tm1) (hk2 : unviewK (.tmp d) tm1 some = some tm2) (hl : xs.length + ys.length ≤ 4294967296) : awpO X ops (o :: l) Q ⟨tm, hp, nid, df, pn⟩ := by
  simp only [Bool.and_eq_true] at hb
  refine run_any hwa hd (fun _ => ev_append_view (s := ⟨tm, hp, nid, df, pn⟩) ho hc ha hat ht hn hu ⟨Nat.le_of_ble_eq_true hb.1, hb.2⟩ hx hw hy hys hl) ?_
  rw [plainAtK_eq, Option.some.injEq] at hk1
  rw [unviewK_eq, Option.some.injEq] at hk2
  rw [setTmp_own]
  simp only [hk1, hk2]
  exact h

/-- append to the slice of a cell. -/
theorem run_append_cell {ops : Array Oper} {o : Oper} {l : List Oper} {d : Nat} {c : Go.Call} {t u e : TypeId} {x y : Operand} {n b off : Nat} {yv : V} {xs ys zs : List D} {cells : List C}
    (h : awpO X ops l Q ⟨(d, .c (.own n (xs ++ ys))) :: tm2, hp', nid, df, pn⟩)
    (hwa : wantedAt ops tm o = some true) (hd : o.dst = some d) (ho : o.op = .call c) (hc : c.callee = .builtin .append) (ha : c.args.toList = [x, y]) (hat : c.argTypes.toList = [t, u]) (ht : telem X.P t = some e) (hn : tsz X.P e = some n) (hu : isSource X.P u = true)
    (hb : (Nat.ble (X.P.bytesOf e) 1024 && zeroFits X.P e n) = true) (hx : evT X.P t tm x = some (.view (.cell b off) n xs)) (hw : lookC b hp = some cells) (hw' : cells[off]? = some (.own n zs)) (hy : evT X.P u tm y = some yv) (hys : appended yv = some (n, ys))
    (hk2 : unviewK (.tmp d) tm some = some tm2) (hhp : upd b (cells.set off (.d (.list n xs))) hp = hp') (hl : xs.length + ys.length ≤ 4294967296) : awpO X ops (o :: l) Q ⟨tm, hp, nid, df, pn⟩ := by
  simp only [Bool.and_eq_true] at hb
  refine run_any hwa hd (fun _ => ev_append_cell (s := ⟨tm, hp, nid, df, pn⟩) ho hc ha hat ht hn hu ⟨Nat.le_of_ble_eq_true hb.1, hb.2⟩ hx hw hw' hy hys hl) ?_
  rw [unviewK_eq, Option.some.injEq] at hk2
  rw [setTmp_own]
  simp only [hk2, hhp]
  exact h
end

section
variable {X : Ctx} {f : Nat} {Q : AX → St → Prop} {tm : List (Nat × V)} {hp : List (Nat × List C)} {nid : Nat} {df : List (Nat × List Nat)} {pn : Option D}

/-- A call that is handed no block, and hands none back; the way on comes first. -/
theorem run_callc {ops : Array Oper} {o : Oper} {l : List Oper} {c : Go.Call} {fo : Operand} {g d : Nat} {args args' : List C} {v : V}
    (h : awpO X ops l Q ⟨(d, v) :: tm, hp, nid, df, pn⟩)
    (hw : wantedAt ops tm o = some true) (hd : o.dst = some d) (ho : o.op = .call c) (hc : c.callee = .value fo) (hf : ev tm fo = some (.c (.fn g [])))
    (ha : argsT X.P tm c.args.toList c.argTypes.toList = some args) (hi : args.flatMap C.ids = []) (hj : mapM? (C.into []) args = some args) (hst : args.map C.still = args') (hH : (X.H g 999999).isEmpty = true) (hv : aval X g args' [] (.ret v [])) (hb : V.back [] v = some v) (hno : v.isOwn = false) :
    awpO X ops (o :: l) Q ⟨tm, hp, nid, df, pn⟩ := run_call hw hd ho hc hf ha hi hj hst hH hv hb hno h
end
end Go.AM

/- What printed functions are written with, and the steps that show that the code comes to them. -/
namespace Go.AM
open Go

/-! ### Operations of printed functions -/

abbrev Str := List UInt8
def lget {α : Type} (l : List α) (i : Int) : Option α := if 0 ≤ i then l[i.toNat]? else none
def sget (s : Str) (i : Int) : Option Int := if 0 ≤ i then (s[i.toNat]?).map fun b => (b.toNat : Int) else none
def sfrom (s : Str) (lo : Int) : Option Str := if 0 ≤ lo ∧ lo.toNat ≤ s.length then some (s.drop lo.toNat) else none
def sto (s : Str) (hi : Int) : Option Str := if 0 ≤ hi ∧ hi.toNat ≤ s.length then some (s.take hi.toNat) else none
def smid (s : Str) (lo hi : Int) : Option Str := if 0 ≤ lo ∧ lo ≤ hi ∧ hi.toNat ≤ s.length then some ((s.take hi.toNat).drop lo.toNat) else none
def lfrom {α : Type} (s : List α) (lo : Int) : Option (List α) := if 0 ≤ lo ∧ lo.toNat ≤ s.length then some (s.drop lo.toNat) else none
def lto {α : Type} (s : List α) (hi : Int) : Option (List α) := if 0 ≤ hi ∧ hi.toNat ≤ s.length then some (s.take hi.toNat) else none
def lmid {α : Type} (s : List α) (lo hi : Int) : Option (List α) := if 0 ≤ lo ∧ lo ≤ hi ∧ hi.toNat ≤ s.length then some ((s.take hi.toNat).drop lo.toNat) else none
def lapp {α : Type} (l m : List α) : Option (List α) := if l.length + m.length ≤ 4294967296 then some (l ++ m) else none
def scat (a b : Str) : Option Str := if a.length + b.length ≤ 1099511627776 then some (a ++ b) else none
def u8I (b : UInt8) : Int := b.toNat
def sbytes (s : Str) : Option (List Int) := if s.length ≤ 1099511627776 then some (s.map u8I) else none
def bstr (l : List Int) : Str := l.map fun n => UInt8.ofNat n.toNat
def w64 (x : Int) : Int := IntKind.i64.wrap x

theorem ite_inv {α : Type} {c : Bool} {a b : Option α} {r : α} (h : (if c = true then a else b) = some r) : (c = true ∧ a = some r) ∨ (c = false ∧ b = some r) := by
  cases c with
  | true => exact .inl ⟨rfl, h⟩
  | false => exact .inr ⟨rfl, h⟩
theorem bind_inv {α β : Type} {x : Option α} {k : α → Option β} {r : β} (h : (x >>= k) = some r) : ∃ y, x = some y ∧ k y = some r := by
  cases x with
  | none => cases h
  | some y => exact ⟨y, rfl, h⟩

/-! ### Many operations at once -/

def noCall : Call := fun _ _ _ => none

theorem doCall_noCall (f : Nat) (args : List C) (s : St) : doCall noCall f args s = none := by
  unfold doCall
  split
  · rfl
  · split <;> rfl

theorem evOp_noCall {P : Program} {id : Nat} {o : Oper} {s : St} {r : ORes × Foot} (h : evOp P noCall id o s = some r) (call : Call) : evOp P call id o s = some r := by
  unfold evOp at h ⊢
  cases ho : o.op with
  | call c =>
    simp only [ho] at h ⊢
    cases hc : c.callee with
    | value f =>
      simp only [hc] at h
      split at h
      · rw [doCall_noCall] at h; simp at h
      · simp at h
    | builtin b => cases b <;> (simp only [hc] at h ⊢; exact h)
    | invoke a b => simp [hc] at h
  | makeMap t r => cases r <;> (simp only [ho] at h ⊢; exact h)
  | _ => simp only [ho] at h ⊢; exact h

def copyL {α β : Type} : List α → (List α → β) → β
  | [], k => k []
  | x :: r, k => copyL r fun r => k (x :: r)
theorem copyL_eq {α β : Type} : ∀ {l : List α} {k : List α → β}, copyL l k = k l
  | [], _ => rfl
  | x :: r, k => by simp only [copyL, copyL_eq]
/-- 'putDst', told so that reckoning it writes out what is kept. -/
def putK {α : Type} (dst : Option Nat) (v : V) (tm : List (Nat × V)) (k : List (Nat × V) → Option α) : Option α := match dst with
  | none => copyL tm k
  | some d => match v with
    | .c (.own sz xs) => unviewK (.tmp d) tm fun r => k ((d, .c (.own sz xs)) :: r)
    | v => copyL tm fun tm => k ((d, v) :: tm)

theorem putK_eq {α : Type} {dst : Option Nat} {v : V} {s : St} {k : List (Nat × V) → Option α} : putK dst v s.tmps k = k (putSt dst v s).tmps := by
  cases dst with
  | none => simp only [putK, putSt, copyL_eq]
  | some d =>
    cases v with
    | c x => cases x <;> simp only [putK, putSt, setTmp, unviewK_eq, copyL_eq]
    | _ => simp only [putK, putSt, setTmp, copyL_eq]

theorem putSt_rest (dst : Option Nat) (v : V) (s : St) : putSt dst v s = ⟨(putSt dst v s).tmps, s.heap, s.nid, s.defers, s.pan⟩ := by
  cases dst <;> rfl

def copyHp {β : Type} : List (Nat × List C) → (List (Nat × List C) → β) → β
  | [], k => k []
  | (b, cs) :: r, k => copyL cs fun cs => copyHp r fun r => k ((b, cs) :: r)
theorem copyHp_eq {β : Type} : ∀ {l : List (Nat × List C)} {k : List (Nat × List C) → β}, copyHp l k = k l
  | [], _ => rfl
  | (b, cs) :: r, k => by simp only [copyHp, copyL_eq, copyHp_eq]

def isDefer (o : Oper) : Bool := match o.op with
  | .defer _ | .makeMap _ _ | .insert _ _ _ _ | .mapUpdate _ _ _ _ => true
  | _ => false

theorem evOp_rest {P : Program} {call : Call} {id : Nat} {o : Oper} {tm : List (Nat × V)} {hp : List (Nat × List C)} {nid : Nat} {df : List (Nat × List Nat)} {pn : Option D} {v : V} {s' : St} {ft : Foot} (hc : call = noCall) (hid : makesBlk o = true → id = nid)
    (h : evOp P call id o ⟨tm, hp, nid, df, pn⟩ = some (.val v s', ft)) (hd : isDefer o = false) :
    s' = ⟨s'.tmps, s'.heap, (match makesBlk o with | true => nid + 1 | false => nid), df, pn⟩ := by
  subst hc
  unfold evOp at h
  cases ho : o.op with
  | assign x =>
    simp only [ho] at h
    simp only [makesBlk, ho]
    split at h
    · split at h
      · simp only [Option.some.injEq, Prod.mk.injEq, ORes.val.injEq] at h
        obtain ⟨⟨_, rfl⟩, _⟩ := h; rfl
      · simp at h
    · simp only [Option.some.injEq, Prod.mk.injEq, ORes.val.injEq] at h
      obtain ⟨⟨_, rfl⟩, _⟩ := h; rfl
    · simp only [Option.some.injEq, Prod.mk.injEq, ORes.val.injEq] at h
      obtain ⟨⟨_, rfl⟩, _⟩ := h; rfl
    · simp only [Option.some.injEq, Prod.mk.injEq, ORes.val.injEq] at h
      obtain ⟨⟨_, rfl⟩, _⟩ := h; rfl
    · simp only [Option.some.injEq, Prod.mk.injEq, ORes.val.injEq] at h
      obtain ⟨⟨_, rfl⟩, _⟩ := h; rfl
    · simp at h
  | store t x y =>
    simp only [ho] at h
    simp only [makesBlk, ho]
    repeat' (first | (split at h) | (simp at h; done))
    all_goals first
      | (simp at h; done)
      | (simp only [Option.some.injEq, Prod.mk.injEq, ORes.val.injEq] at h
         obtain ⟨⟨_, rfl⟩, _⟩ := h; rfl)
  | defer c => simp [isDefer, ho] at hd
  | makeMap t r => simp [isDefer, ho] at hd
  | insert t m k x => simp [isDefer, ho] at hd
  | mapUpdate t m k x => simp [isDefer, ho] at hd
  | panic x =>
    simp only [ho] at h
    split at h <;> simp at h
  | call c =>
    simp only [ho] at h
    simp only [makesBlk, ho]
    split at h
    · split at h
      · split at h
        · rename_i hap
          simp only [Option.some.injEq, Prod.mk.injEq, ORes.val.injEq] at h
          obtain ⟨⟨_, rfl⟩, _⟩ := h
          unfold doAppend at hap
          repeat' (first | (split at hap) | (simp at hap; done))
          all_goals first
            | (simp at hap; done)
            | (simp only [Option.some.injEq, Prod.mk.injEq] at hap
               obtain ⟨_, rfl⟩ := hap; rfl)
        · simp at h
      · simp at h
    · split at h
      · simp only [Option.some.injEq, Prod.mk.injEq, ORes.val.injEq] at h
        obtain ⟨⟨_, rfl⟩, _⟩ := h; rfl
      · simp at h
    · split at h
      · rw [doCall_noCall] at h; simp at h
      · simp at h
    · simp at h
  | makeSlice t l c =>
    simp only [ho] at h
    split at h
    · rename_i hev
      simp only [Option.some.injEq, Prod.mk.injEq, ORes.val.injEq] at h
      obtain ⟨⟨_, rfl⟩, _⟩ := h
      have hm : makesBlk o = false := by
        cases hs : sameTmp l c with
        | false => simp [makesBlk, ho, hs]
        | true =>
          exfalso
          simp only [evR, ho, hs, if_true] at hev
          repeat' (first | (split at hev) | (simp at hev; done))
      rw [hm]
    · split at h
      · rename_i hev _
        simp only [Option.some.injEq, Prod.mk.injEq, ORes.val.injEq] at h
        obtain ⟨⟨_, rfl⟩, _⟩ := h
        by_cases hm : makesBlk o = true
        · rw [hm, hid hm]
        · haveI : Globs := ⟨[]⟩
          exact absurd hev (evR_none (by simpa using hm))
      · simp at h
    · simp at h
  | _ =>
    simp only [ho] at h
    split at h
    · rename_i hev
      simp only [Option.some.injEq, Prod.mk.injEq, ORes.val.injEq] at h
      obtain ⟨⟨_, rfl⟩, _⟩ := h
      first
        | (simp only [makesBlk, ho]; done)
        | (exfalso; simp only [evR, ho] at hev; repeat' (first | (split at hev) | (simp at hev; done)))
        | rfl
    · split at h
      · rename_i hev _
        simp only [Option.some.injEq, Prod.mk.injEq, ORes.val.injEq] at h
        obtain ⟨⟨_, rfl⟩, _⟩ := h
        by_cases hm : makesBlk o = true
        · rw [hm, hid hm]
        · haveI : Globs := ⟨[]⟩
          exact absurd hev (evR_none (by simpa using hm))
      · simp at h
    · simp at h

def opsK {α : Type} (P : Program) (ops : Array Oper) : Nat → List Oper → List (Nat × V) → List (Nat × List C) → Nat → List (Nat × List Nat) → Option D → (List Oper → List (Nat × V) → List (Nat × List C) → Nat → List (Nat × List Nat) → Option D → Option α) → Option α
  | 0, l, tm, hp, nid, df, pn, k => k l tm hp nid df pn
  | _ + 1, [], _, _, _, _, _, _ => none
  | n + 1, o :: l, tm, hp, nid, df, pn, k => match wantedAt ops tm o with
    | none => none
    | some false => putK o.dst (.c .undef) tm fun tm => opsK P ops n l tm hp nid df pn k
    | some true => match isDefer o with
      | true => none
      | false => match evOp P noCall nid o ⟨tm, hp, nid, df, pn⟩ with
        | some (.val v s', _) => putK o.dst v s'.tmps fun tm => copyHp s'.heap fun hp => match makesBlk o with
          | true => opsK P ops n l tm hp (nid + 1) df pn k
          | false => opsK P ops n l tm hp nid df pn k
        | _ => none

section
variable {X : Ctx} {f : Nat} {Q : AX → St → Prop} {tm tm' : List (Nat × V)} {hp hp' : List (Nat × List C)} {nid nid' : Nat} {df : List (Nat × List Nat)} {pn : Option D}

theorem opsK_sound {α : Type} {ops : Array Oper} : ∀ {n : Nat} {l : List Oper} {tm : List (Nat × V)} {hp : List (Nat × List C)} {nid : Nat} {df : List (Nat × List Nat)} {pn : Option D} {k : List Oper → List (Nat × V) → List (Nat × List C) → Nat → List (Nat × List Nat) → Option D → Option α} {a : α},
    opsK X.P ops n l tm hp nid df pn k = some a → ∃ l' tm' hp' nid' df' pn', k l' tm' hp' nid' df' pn' = some a ∧ (awpO X ops l' Q ⟨tm', hp', nid', df', pn'⟩ → awpO X ops l Q ⟨tm, hp, nid, df, pn⟩)
  | 0, l, tm, hp, nid, df, pn, k, a, h => by
    simp only [opsK] at h
    exact ⟨l, tm, hp, nid, df, pn, h, fun h => h⟩
  | n + 1, [], tm, hp, nid, df, pn, k, a, h => by simp [opsK] at h
  | n + 1, o :: l, tm, hp, nid, df, pn, k, a, h => by
    simp only [opsK] at h
    split at h
    · simp at h
    · rename_i hw
      rw [show tm = (⟨tm, hp, nid, df, pn⟩ : St).tmps from rfl, putK_eq] at h
      obtain ⟨l', tm', hp', nid', df', pn', h1, h2⟩ := opsK_sound h
      refine ⟨l', tm', hp', nid', df', pn', h1, fun hh => awpO_skip hw ?_⟩
      have := h2 hh
      rw [putDst, putSt_rest]
      exact this
    · rename_i hw
      split at h
      · simp at h
      · rename_i hd
        split at h
        · rename_i v s' ft hev
          have hr := evOp_rest rfl (fun _ => rfl) hev hd
          rw [putK_eq, copyHp_eq] at h
          cases hm : makesBlk o with
          | true =>
            simp only [hm] at h hr
            obtain ⟨l', tm', hp', nid', df', pn', h1, h2⟩ := opsK_sound h
            refine ⟨l', tm', hp', nid', df', pn', h1, fun hh => awpO_rfl hw (fun call => evOp_noCall hev call) ?_⟩
            have := h2 hh
            rw [putDst, putSt_rest]
            rw [hr] at this ⊢
            exact this
          | false =>
            simp only [hm] at h hr
            obtain ⟨l', tm', hp', nid', df', pn', h1, h2⟩ := opsK_sound h
            refine ⟨l', tm', hp', nid', df', pn', h1, fun hh => awpO_rfl hw (fun call => evOp_noCall hev call) ?_⟩
            have := h2 hh
            rw [putDst, putSt_rest]
            rw [hr] at this ⊢
            exact this
        · simp at h

/-- What is told at the end of some operations. -/
def finK (l : List Oper) (tm : List (Nat × V)) (hp : List (Nat × List C)) (nid : Nat) (df : List (Nat × List Nat)) (pn : Option D) : Option (List Oper × List (Nat × V) × List (Nat × List C) × Nat × List (Nat × List Nat) × Option D) := some (l, tm, hp, nid, df, pn)

variable {df' : List (Nat × List Nat)} {pn' : Option D}

/-- Some operations. -/
theorem on (n : Nat) {ops : Array Oper} {l l' : List Oper} (h : opsK X.P ops n l tm hp nid df pn finK = some (l', tm', hp', nid', df', pn')) (hh : awpO X ops l' Q ⟨tm', hp', nid', df', pn'⟩) : awpO X ops l Q ⟨tm, hp, nid, df, pn⟩ := by
  obtain ⟨_, _, _, _, _, _, h1, h2⟩ := opsK_sound (Q := Q) h
  simp only [finK, Option.some.injEq, Prod.mk.injEq] at h1
  obtain ⟨rfl, rfl, rfl, rfl, rfl, rfl⟩ := h1
  exact h2 hh

/-- A region's first operations. -/
theorem rn (n : Nat) {id : Nat} {ops : Array Oper} {l' : List Oper} (h : keepK (X.H f id) tm (fun tm => opsK X.P ops n ops.toList tm hp nid df pn finK) = some (l', tm', hp', nid', df', pn')) (hh : awpO X ops l' Q ⟨tm', hp', nid', df', pn'⟩) :
    awp X f (.region id ops false) Q ⟨tm, hp, nid, df, pn⟩ := by
  rw [keepK_eq] at h
  exact awp_region (on n h hh)

/-- A whole region, and what stands behind it. -/
theorem ra {id : Nat} {ops : Array Oper} {b : Code} (h : keepK (X.H f id) tm (fun tm => opsK X.P ops ops.size ops.toList tm hp nid df pn finK) = some ([], tm', hp', nid', df', pn')) (hh : awp X f b Q ⟨tm', hp', nid', df', pn'⟩) :
    awp X f (.seq (.region id ops false) b) Q ⟨tm, hp, nid, df, pn⟩ :=
  awp_seq (rn _ h (awpO_nil (.normal hh)))

/-- A region's end. -/
theorem rz {ops : Array Oper} {b : Code} (hh : awp X f b Q ⟨tm, hp, nid, df, pn⟩) : awpO X ops [] (seqQ X f b Q) ⟨tm, hp, nid, df, pn⟩ := awpO_nil (.normal hh)

/-! ### Steps that hang on a condition -/

theorem ct {o : Operand} {a b : Code} {c : Bool} (hc : ev tm o = some (.c (.d (.bool c)))) (e : c = true) (h : awp X f a (condQ (X.H f (condKey a b)) nid Q) ⟨tm, hp, nid, df, pn⟩) : awp X f (.cond o a b) Q ⟨tm, hp, nid, df, pn⟩ :=
  awp_cond hc (fun _ => h) (fun e' => by rw [e] at e'; cases e')
theorem cf {o : Operand} {a b : Code} {c : Bool} (hc : ev tm o = some (.c (.d (.bool c)))) (e : c = false) (h : awp X f b (condQ (X.H f (condKey a b)) nid Q) ⟨tm, hp, nid, df, pn⟩) : awp X f (.cond o a b) Q ⟨tm, hp, nid, df, pn⟩ :=
  awp_cond hc (fun e' => by rw [e] at e'; cases e') (fun _ => h)
theorem gt {ops : Array Oper} {o q : Oper} {l : List Oper} {j d : Nat} {want b : Bool} (hg : o.guard = some (j, want)) (hq : ops[j]? = some q) (hd : q.dst = some d) (hl : look d tm = some (.c (.d (.bool b)))) (e : b = true)
    (e1 : setBK d true tm some = some tm') (h : awpO X ops (o :: l) Q ⟨tm', hp, nid, df, pn⟩) : awpO X ops (o :: l) Q ⟨tm, hp, nid, df, pn⟩ := by
  have _ := hg; have _ := hq; have _ := hd
  subst e
  rw [setBK_eq hl, Option.some.injEq] at e1
  rw [e1]; exact h
theorem gf {ops : Array Oper} {o q : Oper} {l : List Oper} {j d : Nat} {want b : Bool} (hg : o.guard = some (j, want)) (hq : ops[j]? = some q) (hd : q.dst = some d) (hl : look d tm = some (.c (.d (.bool b)))) (e : b = false)
    (e1 : setBK d false tm some = some tm') (h : awpO X ops (o :: l) Q ⟨tm', hp, nid, df, pn⟩) : awpO X ops (o :: l) Q ⟨tm, hp, nid, df, pn⟩ := by
  have _ := hg; have _ := hq; have _ := hd
  subst e
  rw [setBK_eq hl, Option.some.injEq] at e1
  rw [e1]; exact h

theorem lget_some {α : Type} {l : List α} {i : Int} {x : α} (h : lget l i = some x) : 0 ≤ i ∧ l[i.toNat]? = some x := by
  unfold lget at h
  split at h
  · exact ⟨by assumption, h⟩
  · cases h

/-- What an operation comes to, whatever the fuel. -/
def EvO (X : Ctx) (o : Oper) (s : St) (v : V) (s1 : St) (ft : Foot) : Prop := Evt fun k => evOp X.P (X.call k) s.nid o s = some (.val v s1, ft)

/-- An operation of a region done in the order of the text. -/
def stK {α : Type} (s : St) (k : List (Nat × V) → List (Nat × List C) → Nat → List (Nat × List Nat) → Option D → α) : α := match s with
  | ⟨tm, hp, nid, df, pn⟩ => k tm hp nid df pn

theorem po {ops : Array Oper} {o : Oper} {l : List Oper} {v : V} {tm1 : List (Nat × V)} {hp1 : List (Nat × List C)} {ft : Foot} {nid1 : Nat} (hop : EvO X o ⟨tm, hp, nid, df, pn⟩ v ⟨tm1, hp1, nid1, df, pn⟩ ft) (hw : wantedAt ops tm o = some true)
    (hk : putK o.dst v tm1 (fun tm => copyHp hp1 fun hp => some (tm, hp)) = some (tm', hp')) (h : awpO X ops l Q ⟨tm', hp', nid1, df, pn⟩) : awpO X ops (o :: l) Q ⟨tm, hp, nid, df, pn⟩ := by
  refine awpO_op (s := ⟨tm, hp, nid, df, pn⟩) hw hop ?_
  rw [show tm1 = (⟨tm1, hp1, nid1, df, pn⟩ : St).tmps from rfl, putK_eq, copyHp_eq] at hk
  simp only [Option.some.injEq, Prod.mk.injEq] at hk
  obtain ⟨rfl, rfl⟩ := hk
  rw [putDst, putSt_rest]
  exact h

def copyLc {β : Type} : List Lc → (List Lc → β) → β
  | [], k => k []
  | x :: r, k => match x with
    | .tmp a => copyLc r fun r => k (.tmp a :: r)
    | .blk a => copyLc r fun r => k (.blk a :: r)
    | .nid => copyLc r fun r => k (.nid :: r)
    | .defs => copyLc r fun r => k (.defs :: r)
    | .vb a => copyLc r fun r => k (.vb a :: r)
    | .vt a => copyLc r fun r => k (.vt a :: r)
theorem copyLc_eq {β : Type} : ∀ {l : List Lc} {k : List Lc → β}, copyLc l k = k l
  | [], _ => rfl
  | x :: r, k => by cases x <;> simp only [copyLc, copyLc_eq]
/-- What an operation touched, written out. -/
def fpK {β : Type} (f : Fp) (k : Fp → β) : β := match f with
  | ⟨rd, wr, refs, all⟩ => copyLc rd fun rd => copyLc wr fun wr => copyL refs fun refs => match all with
    | true => k ⟨rd, wr, refs, true⟩
    | false => k ⟨rd, wr, refs, false⟩
theorem fpK_eq {β : Type} {f : Fp} {k : Fp → β} : fpK f k = k f := by
  obtain ⟨rd, wr, refs, all⟩ := f
  simp only [fpK, copyLc_eq, copyL_eq]
  cases all <;> rfl

theorem putD_rest {dst : Option Nat} {v : V} {tm1 : List (Nat × V)} {hp1 : List (Nat × List C)} {s2 : St} (h : putD dst v ⟨tm1, hp1, nid, df, pn⟩ = some s2) : s2 = ⟨s2.tmps, s2.heap, nid, df, pn⟩ := by
  cases dst with
  | none => simp only [putD, Option.some.injEq] at h; subst h; rfl
  | some d =>
    simp only [putD] at h
    split at h
    · simp only [Option.some.injEq] at h; subst h; rfl
    · simp at h

/-- .. of a region whose order is drawn. -/
theorem pd {ops : Array Oper} {vs : List Nat} {base i i' : Nat} {pre pre' : List Fp} {o : Oper} {l : List Oper} {v : V} {tm1 : List (Nat × V)} {hp1 : List (Nat × List C)} {ft : Foot} {nid1 : Nat} (hop : EvO X o ⟨tm, hp, nid, df, pn⟩ v ⟨tm1, hp1, nid1, df, pn⟩ ft) (hw : wantedAt ops tm o = some true) (hm : makesBlk o = false)
    (hk : (putD o.dst (calmAt vs o.dst v) ⟨tm1, hp1, nid1, df, pn⟩).bind (fun s2 => copyL s2.tmps fun tm => copyHp s2.heap fun hp => some (tm, hp)) = some (tm', hp'))
    (hf : fpK ((fpOf ops o ⟨tm, hp, nid, df, pn⟩ (calmAt vs o.dst v) ⟨tm1, hp1, nid1, df, pn⟩ ft).fill ⟨tm', hp', nid1, df, pn⟩) (fun fp => copyL (pre ++ [fp]) some) = some pre') (hi : i + 1 = i')
    (h : awpD X ops vs base pre' l i' Q ⟨tm', hp', nid1, df, pn⟩) : awpD X ops vs base pre (o :: l) i Q ⟨tm, hp, nid, df, pn⟩ := by
  rw [fpK_eq, copyL_eq, Option.some.injEq] at hf
  subst hi hf
  rw [Option.bind_eq_some_iff] at hk
  obtain ⟨s2, h2, hk⟩ := hk
  rw [copyL_eq, copyHp_eq] at hk
  simp only [Option.some.injEq, Prod.mk.injEq] at hk
  have hs2 := putD_rest h2
  obtain ⟨rfl, rfl⟩ := hk
  rw [← hs2] at h
  exact awpD_ev (s := ⟨tm, hp, nid, df, pn⟩) hw hm hop h2 h

def dopsK {α : Type} (P : Program) (ops : Array Oper) (vs : List Nat) (base : Nat) (nid : Nat) (df : List (Nat × List Nat)) (pn : Option D) : Nat → List Oper → Nat → List Fp → List (Nat × V) → List (Nat × List C) → (List Oper → Nat → List Fp → List (Nat × V) → List (Nat × List C) → Option α) → Option α
  | 0, l, i, pre, tm, hp, k => copyL pre fun pre => k l i pre tm hp
  | _ + 1, [], _, _, _, _, _ => none
  | n + 1, o :: l, i, pre, tm, hp, k => match wantedAt ops tm o with
    | none => none
    | some false => match putD o.dst (.c .undef) ⟨tm, hp, nid, df, pn⟩ with
      | some s1 => copyL s1.tmps fun tm => copyHp s1.heap fun hp => fpK (Fp.fill ⟨(readsOf ops o).map .tmp, dstLc o.dst (.c .undef), [], false⟩ ⟨tm, hp, nid, df, pn⟩) fun fp => dopsK P ops vs base nid df pn n l (i + 1) (pre ++ [fp]) tm hp k
      | none => none
    | some true => match isDefer o with
      | true => none
      | false => match drawOp P noCall ops vs (base + i) o ⟨tm, hp, nid, df, pn⟩ with
        | some (.val v s1, ft) => match putD o.dst v s1 with
          | some s2 => copyL s2.tmps fun tm => copyHp s2.heap fun hp => fpK (ft.fill ⟨tm, hp, nid, df, pn⟩) fun fp => dopsK P ops vs base nid df pn n l (i + 1) (pre ++ [fp]) tm hp k
          | none => none
        | _ => none

theorem drawOp_rest {P : Program} {ops : Array Oper} {vs : List Nat} {id : Nat} {o : Oper} {tm : List (Nat × V)} {hp : List (Nat × List C)} {nid : Nat} {df : List (Nat × List Nat)} {pn : Option D} {v : V} {s1 : St} {ft : Fp}
    (h : drawOp P noCall ops vs id o ⟨tm, hp, nid, df, pn⟩ = some (.val v s1, ft)) (hd : isDefer o = false) : s1 = ⟨s1.tmps, s1.heap, nid, df, pn⟩ := by
  unfold drawOp at h
  split at h
  · unfold drawNew at h
    split at h
    · split at h
      · split at h
        · simp at h
        · simp only [Option.some.injEq, Prod.mk.injEq, ORes.val.injEq] at h
          obtain ⟨⟨_, rfl⟩, _⟩ := h; rfl
      · simp at h
    · simp at h
  · rename_i hm
    unfold drawOld at h
    split at h
    · rename_i hev
      simp only [Option.some.injEq, Prod.mk.injEq, ORes.val.injEq] at h
      obtain ⟨⟨_, rfl⟩, _⟩ := h
      have := evOp_rest rfl (fun e => absurd e hm) hev hd
      simp only [Bool.not_eq_true] at hm
      simpa only [hm] using this
    · simp at h
    · simp at h

theorem drawOp_noCall {P : Program} {ops : Array Oper} {vs : List Nat} {id : Nat} {o : Oper} {s s1 : St} {v : V} {ft : Fp} (h : drawOp P noCall ops vs id o s = some (.val v s1, ft)) (call : Call) : drawOp P call ops vs id o s = some (.val v s1, ft) := by
  unfold drawOp at h ⊢
  split at h
  · rename_i hm
    rw [if_pos hm]; exact h
  · rename_i hm
    rw [if_neg hm]
    unfold drawOld at h ⊢
    split at h
    · rename_i hev
      rw [evOp_noCall hev call]; exact h
    · simp at h
    · simp at h

theorem dopsK_sound {α : Type} {ops : Array Oper} {vs : List Nat} {base : Nat} : ∀ {n : Nat} {l : List Oper} {i : Nat} {pre : List Fp} {tm : List (Nat × V)} {hp : List (Nat × List C)} {k : List Oper → Nat → List Fp → List (Nat × V) → List (Nat × List C) → Option α} {a : α},
    dopsK X.P ops vs base nid df pn n l i pre tm hp k = some a → ∃ l' i' pre' tm' hp', k l' i' pre' tm' hp' = some a ∧ (awpD X ops vs base pre' l' i' Q ⟨tm', hp', nid, df, pn⟩ → awpD X ops vs base pre l i Q ⟨tm, hp, nid, df, pn⟩)
  | 0, l, i, pre, tm, hp, k, a, h => by
    simp only [dopsK, copyL_eq] at h
    exact ⟨l, i, pre, _, _, h, fun h => h⟩
  | n + 1, [], i, pre, tm, hp, k, a, h => by simp [dopsK] at h
  | n + 1, o :: l, i, pre, tm, hp, k, a, h => by
    simp only [dopsK, copyL_eq, copyHp_eq, fpK_eq] at h
    split at h
    · simp at h
    · rename_i hw
      split at h
      · rename_i s1 hp
        have hr := putD_rest hp
        obtain ⟨l', i', pre', tm', hp', h1, h2⟩ := dopsK_sound h
        refine ⟨l', i', pre', tm', hp', h1, fun hh => awpD_skip hw hp ?_⟩
        have := h2 hh
        rw [← hr] at this
        exact this
      · simp at h
    · rename_i hw
      split at h
      · simp at h
      · rename_i hd
        split at h
        · rename_i v s1 ft hop
          have hr1 := drawOp_rest hop hd
          split at h
          · rename_i s2 hp
            have hr : s2 = ⟨s2.tmps, s2.heap, nid, df, pn⟩ := by
              rw [hr1] at hp
              exact putD_rest hp
            obtain ⟨l', i', pre', tm', hp', h1, h2⟩ := dopsK_sound h
            refine ⟨l', i', pre', tm', hp', h1, fun hh => awpD_rfl hw (fun call => drawOp_noCall hop call) hp ?_⟩
            have := h2 hh
            rw [← hr] at this
            exact this
          · simp at h
        · simp at h

def dfinK (l : List Oper) (i : Nat) (pre : List Fp) (tm : List (Nat × V)) (hp : List (Nat × List C)) : Option (List Oper × Nat × List Fp × List (Nat × V) × List (Nat × List C)) := some (l, i, pre, tm, hp)

/-- Some operations of a region whose order is drawn. -/
theorem don (n : Nat) {ops : Array Oper} {vs : List Nat} {base i i' : Nat} {pre pre' : List Fp} {l l' : List Oper} (h : dopsK X.P ops vs base nid df pn n l i pre tm hp dfinK = some (l', i', pre', tm', hp'))
    (hh : awpD X ops vs base pre' l' i' Q ⟨tm', hp', nid, df, pn⟩) : awpD X ops vs base pre l i Q ⟨tm, hp, nid, df, pn⟩ := by
  obtain ⟨_, _, _, _, _, h1, h2⟩ := dopsK_sound (Q := Q) h
  simp only [dfinK, Option.some.injEq, Prod.mk.injEq] at h1
  obtain ⟨rfl, rfl, rfl, rfl, rfl⟩ := h1
  exact h2 hh

theorem drn (n : Nat) {id i' m : Nat} {ops : Array Oper} {pre' : List Fp} {l' : List Oper} (hn : nid + ops.size = m)
    (h : keepK (X.H f id) tm (fun tm => dopsK X.P ops (appended? ops) nid m df pn n ops.toList 0 [] tm hp dfinK) = some (l', i', pre', tm', hp')) (hh : awpD X ops (appended? ops) nid pre' l' i' Q ⟨tm', hp', m, df, pn⟩) :
    awp X f (.region id ops true) Q ⟨tm, hp, nid, df, pn⟩ := by
  rw [keepK_eq] at h
  subst hn
  exact awp_draw (don n h hh)

/-! ### The check of an order, by numbers -/

def Lc.code : Lc → Nat
  | .tmp x => 6 * x
  | .blk b => 6 * b + 1
  | .nid => 2
  | .defs => 3
  | .vb b => 6 * b + 4
  | .vt u => 6 * u + 5

theorem Lc.code_inj {x y : Lc} (h : x.code = y.code) : x = y := by
  cases x <;> cases y <;> simp only [Lc.code] at h <;> first | rfl | omega | (congr 1; omega)

def maskL : List Lc → Nat
  | [] => 0
  | x :: r => Nat.lor (Nat.shiftLeft 1 x.code) (maskL r)

theorem maskL_mem {x : Lc} : ∀ {l : List Lc}, x ∈ l → (maskL l).testBit x.code = true
  | [], h => by simp at h
  | y :: r, h => by
    show ((1 <<< y.code) ||| maskL r).testBit x.code = true
    rw [Nat.testBit_or]
    rcases List.mem_cons.1 h with rfl | h
    · simp
    · rw [maskL_mem h]; simp

theorem apart_of {l m : List Lc} (h : Nat.beq (Nat.land (maskL l) (maskL m)) 0 = true) : apart l m = true := by
  have h := Nat.eq_of_beq_eq_true h
  simp only [apart, List.all_eq_true, Bool.not_eq_true']
  intro x hx
  cases hc : m.contains x with
  | false => rfl
  | true =>
    rw [List.contains_iff_mem] at hc
    have h1 : (maskL l &&& maskL m).testBit x.code = true := by rw [Nat.testBit_and, maskL_mem hx, maskL_mem hc]; rfl
    rw [show maskL l &&& maskL m = 0 from h] at h1
    simp at h1

/-- What an operation touched, as numbers. -/
structure FpM where
  r : Nat
  w : Nat
  all : Bool

def Fp.toM (f : Fp) : FpM := ⟨maskL f.reads, maskL f.writes, f.all⟩

def FpM.apart (f g : FpM) : Bool := match f.all, g.all with
  | false, false => Nat.beq (Nat.land f.w (Nat.lor g.r g.w)) 0 && Nat.beq (Nat.land g.w f.r) 0
  | _, _ => false

theorem maskL_append : ∀ l m : List Lc, maskL (l ++ m) = Nat.lor (maskL l) (maskL m)
  | [], m => by show maskL m = 0 ||| maskL m; simp
  | x :: l, m => by
    show (1 <<< x.code) ||| maskL (l ++ m) = ((1 <<< x.code) ||| maskL l) ||| maskL m
    rw [maskL_append l m]
    exact (Nat.or_assoc ..).symm

theorem FpM.apart_ok {f g : Fp} (h : f.toM.apart g.toM = true) : f.apart g = true := by
  unfold FpM.apart Fp.toM at h
  simp only at h
  split at h
  · rename_i hf hg
    simp only [Bool.and_eq_true] at h
    simp only [Fp.apart, hf, hg, Bool.not_false, Bool.true_and, Bool.and_eq_true]
    exact ⟨apart_of (by rw [maskL_append]; exact h.1), apart_of h.2⟩
  · simp at h

/-- Which operations come before an operation, as numbers. -/
def edgesM (acc : List Nat) : List Edge → Nat → Nat
  | [], m => m
  | e :: r, m => edgesM acc r (match Region.binds .any e with
    | true => Nat.lor (Nat.lor (Nat.shiftLeft 1 e.on) (acc.getD e.on 0)) m
    | false => m)
def beforesM : List Oper → List Nat → List Nat
  | [], acc => acc
  | o :: r, acc => beforesM r (acc ++ [edgesM acc o.after.toList 0])

def BitsIn (m : Nat) (l : List Nat) : Prop := ∀ i, m.testBit i = true → i ∈ l

theorem edgesM_in {accM : List Nat} {acc : List (List Nat)} (ha : ∀ j, BitsIn (accM.getD j 0) (acc.getD j [])) : ∀ (es : List Edge) (m : Nat) (l : List Nat), BitsIn m l →
    BitsIn (edgesM accM es m) (es.foldl (fun l e => if Region.binds .any e then e.on :: (acc.getD e.on [] ++ l) else l) l)
  | [], m, l, h => h
  | e :: es, m, l, h => by
    simp only [edgesM, List.foldl_cons]
    refine edgesM_in ha es _ _ ?_
    cases hb : Region.binds .any e with
    | false => simpa using h
    | true =>
      simp only [if_true]
      intro i hi
      rw [show Nat.lor (Nat.lor (Nat.shiftLeft 1 e.on) (accM.getD e.on 0)) m = ((1 <<< e.on) ||| accM.getD e.on 0) ||| m from rfl, Nat.testBit_or, Nat.testBit_or] at hi
      simp only [Bool.or_eq_true] at hi
      rcases hi with (hi | hi) | hi
      · have : i = e.on := by
          rw [Nat.testBit_shiftLeft] at hi
          simp only [Bool.and_eq_true, decide_eq_true_eq] at hi
          have h2 := hi.2
          by_cases hz : i - e.on = 0
          · omega
          · rw [Nat.testBit_one_eq_true_iff_self_eq_zero] at h2
            exact absurd h2 hz
        rw [this]; simp
      · exact List.mem_cons_of_mem _ (List.mem_append_left _ (ha _ _ hi))
      · exact List.mem_cons_of_mem _ (List.mem_append_right _ (h _ hi))

theorem beforesM_in : ∀ (ops : List Oper) (accM : List Nat) (acc : List (List Nat)), accM.length = acc.length → (∀ j, BitsIn (accM.getD j 0) (acc.getD j [])) →
    ∀ j, BitsIn ((beforesM ops accM).getD j 0) ((befores ops acc).getD j [])
  | [], accM, acc, _, h => by simpa [beforesM, befores] using h
  | o :: r, accM, acc, hl, h => by
    simp only [beforesM, befores]
    refine beforesM_in r _ _ (by simp [hl]) ?_
    intro j
    have he := edgesM_in h o.after.toList 0 [] (by intro i hi; simp at hi)
    by_cases hj : j < accM.length
    · simp only [List.getD_eq_getElem?_getD]
      rw [List.getElem?_append_left hj, List.getElem?_append_left (hl ▸ hj), ← List.getD_eq_getElem?_getD, ← List.getD_eq_getElem?_getD]
      exact h j
    · by_cases hj' : j = accM.length
      · subst hj'
        simp only [List.getD_eq_getElem?_getD, List.getElem?_append_right (Nat.le_refl _), Nat.sub_self]
        rw [List.getElem?_append_right (by omega)]
        simpa [hl] using he
      · intro i hi
        simp only [List.getD_eq_getElem?_getD] at hi
        rw [List.getElem?_eq_none (by simp; omega)] at hi
        simp at hi

def looseK (o : Oper) (f : Fp) : Bool :=
  !f.all && f.writes.all fun l => match l, o.dst with
    | .tmp y, some x => Nat.beq y x
    | _, _ => false

theorem looseK_ok {o : Oper} {f : Fp} (h : looseK o f = true) : loose o f = true := by
  simp only [looseK, loose, Bool.and_eq_true, List.all_eq_true] at h ⊢
  refine ⟨h.1, fun l hl => ?_⟩
  have := h.2 l hl
  split at this
  · rename_i y x hx
    rw [hx]
    simp only [beq_iff_eq, Lc.tmp.injEq]
    exact Nat.eq_of_beq_eq_true this
  · simp at this

def drawOkM (pn : Bool) (ops : Array Oper) (base : Nat) (fs : List Fp) : Bool :=
  let bs := beforesM ops.toList []
  let ms := fs.map Fp.toM
  let k := fs.length
  ((List.range ops.size).all fun j =>
    ((ops.getD j default).after.toList.all fun e => !Region.binds .any e || Nat.blt e.on j) &&
    (List.range j).all fun i =>
      (bs.getD j 0).testBit i ||
      (match Nat.blt j k with
        | true => match ms[i]?, ms[j]? with
          | some a, some b => a.apart b || pn && Nat.beq (j + 1) k && looseK (ops.getD i default) (fs.getD i default)
          | _, _ => false
        | false => !(Nat.beq (i + 1) k))) &&
  (List.range k).all fun i => !makesBlk (ops.getD i default) ||
    (List.range k).all fun j => i == j || (bs.getD j 0).testBit i || !(fs.getD j default).refs.contains (base + i)

theorem drawOkM_ok {pn : Bool} {ops : Array Oper} {base : Nat} {fs : List Fp} (h : drawOkM pn ops base fs = true) : drawOk pn ops base fs = true := by
  have hb := beforesM_in ops.toList [] [] rfl (by intro j i hi; simp at hi)
  have blt : ∀ {a b : Nat}, Nat.blt a b = true → a < b := fun h => Nat.le_of_ble_eq_true h
  unfold drawOkM at h
  unfold drawOk
  simp only [Bool.and_eq_true, List.all_eq_true, List.mem_range, Bool.or_eq_true, Bool.not_eq_true'] at h ⊢
  refine ⟨fun j hj => ⟨fun e he => ?_, fun i hi => ?_⟩, fun i hi => ?_⟩
  · rcases (h.1 j hj).1 e he with h1 | h1
    · exact .inl h1
    · exact .inr (by simpa using blt h1)
  · rcases (h.1 j hj).2 i hi with h1 | h1
    · exact .inl (by rw [List.contains_iff_mem]; exact hb j i h1)
    · right
      split at h1
      · rename_i hjk
        rw [if_pos (blt hjk)]
        split at h1
        · rename_i a b ha hb'
          rw [List.getElem?_map, Option.map_eq_some_iff] at ha hb'
          obtain ⟨fa, hfa, rfl⟩ := ha
          obtain ⟨fb, hfb, rfl⟩ := hb'
          rcases Bool.or_eq_true _ _ |>.mp h1 with h1 | h1
          · have := FpM.apart_ok h1
            rw [Bool.or_eq_true]; left
            simpa [List.getD_eq_getElem?_getD, hfa, hfb] using this
          · simp only [Bool.and_eq_true] at h1
            rw [Bool.or_eq_true]; right
            simp only [Bool.and_eq_true, decide_eq_true_eq]
            exact ⟨⟨h1.1.1, Nat.eq_of_beq_eq_true h1.1.2⟩, looseK_ok h1.2⟩
        · simp at h1
      · rename_i hjk
        have hk : ¬ j < fs.length := by
          intro hlt
          have : Nat.blt j fs.length = true := Nat.ble_eq_true_of_le hlt
          rw [hjk] at this; simp at this
        rw [if_neg hk]
        simp only [decide_eq_true_eq]
        intro e
        rw [e] at h1
        simp at h1
  · rcases h.2 i hi with h1 | h1
    · exact .inl h1
    · refine .inr fun j hj => ?_
      rcases h1 j hj with (h2 | h2) | h2
      · exact .inl (.inl h2)
      · exact .inl (.inr (by rw [List.contains_iff_mem]; exact hb j i h2))
      · exact .inr h2

theorem dz {ops : Array Oper} {vs : List Nat} {base i : Nat} {pre : List Fp} {b : Code} (hok : (drawOkM false ops base pre && Nat.ble base nid) = true) (hh : awp X f b Q ⟨tm, hp, nid, df, pn⟩) : awpD X ops vs base pre [] i (seqQ X f b Q) ⟨tm, hp, nid, df, pn⟩ := by
  simp only [Bool.and_eq_true] at hok
  exact awpD_nil (by simp only [Bool.and_eq_true, decide_eq_true_eq]; exact ⟨drawOkM_ok hok.1, Nat.le_of_ble_eq_true hok.2⟩) (.normal hh)
theorem dz' {ops : Array Oper} {vs : List Nat} {base i : Nat} {pre : List Fp} (hok : (drawOkM false ops base pre && Nat.ble base nid) = true) (hh : Q .normal ⟨tm, hp, nid, df, pn⟩) : awpD X ops vs base pre [] i Q ⟨tm, hp, nid, df, pn⟩ := by
  simp only [Bool.and_eq_true] at hok
  exact awpD_nil (by simp only [Bool.and_eq_true, decide_eq_true_eq]; exact ⟨drawOkM_ok hok.1, Nat.le_of_ble_eq_true hok.2⟩) hh

theorem dgt {ops : Array Oper} {vs : List Nat} {base i : Nat} {pre : List Fp} {o q : Oper} {l : List Oper} {j d : Nat} {want b : Bool} (hg : o.guard = some (j, want)) (hq : ops[j]? = some q) (hd : q.dst = some d) (hl : look d tm = some (.c (.d (.bool b)))) (e : b = true)
    (e1 : setBK d true tm some = some tm') (h : awpD X ops vs base pre (o :: l) i Q ⟨tm', hp, nid, df, pn⟩) : awpD X ops vs base pre (o :: l) i Q ⟨tm, hp, nid, df, pn⟩ := by
  have _ := hg; have _ := hq; have _ := hd
  subst e
  rw [setBK_eq hl, Option.some.injEq] at e1
  rw [e1]; exact h
theorem dgf {ops : Array Oper} {vs : List Nat} {base i : Nat} {pre : List Fp} {o q : Oper} {l : List Oper} {j d : Nat} {want b : Bool} (hg : o.guard = some (j, want)) (hq : ops[j]? = some q) (hd : q.dst = some d) (hl : look d tm = some (.c (.d (.bool b)))) (e : b = false)
    (e1 : setBK d false tm some = some tm') (h : awpD X ops vs base pre (o :: l) i Q ⟨tm', hp, nid, df, pn⟩) : awpD X ops vs base pre (o :: l) i Q ⟨tm, hp, nid, df, pn⟩ := by
  have _ := hg; have _ := hq; have _ := hd
  subst e
  rw [setBK_eq hl, Option.some.injEq] at e1
  rw [e1]; exact h

/-! ### What operations come to -/

/-- s[i] of a string. -/
theorem esget {o : Oper} {t : TypeId} {x i : Operand} {u : Str} {k : IntKind} {n y : Int} (hy : sget u n = some y) (ho : o.op = .index t x i) (ht : X.P.underlying t = some .string) (hx : ev tm x = some (.c (.d (.str u)))) (hi : ev tm i = some (.c (.d (.int k n)))) :
    EvO X o ⟨tm, hp, nid, df, pn⟩ (.d (.int .u8 y)) ⟨tm, hp, nid, df, pn⟩ ⟨readsBlk o tm, [], []⟩ := by
  unfold sget at hy
  split at hy
  · rename_i h0
    rw [Option.map_eq_some_iff] at hy
    obtain ⟨b, hb, rfl⟩ := hy
    exact .of fun _ => ev_index_str (s := ⟨tm, hp, nid, df, pn⟩) ho ht hx hi h0 hb
  · cases hy

/-- An element of a slice. -/
theorem elget {α : Type} {g : α → D} (g' : α → D) (hg : ∀ a, g a = g' a) {u : List α} {y : α} {n : Int} {o : Oper} {t e : TypeId} {x i : Operand} {k : IntKind} {sz : Nat} (hy : lget u n = some y)
    (ho : o.op = .indexAddr t x i) (ht : telem X.P t = some e) (hz : some sz = tsz X.P e) (hx : (ev tm x).bind V.toD = some (.list sz (u.map g))) (hi : ev tm i = some (.c (.d (.int k n)))) :
    EvO X o ⟨tm, hp, nid, df, pn⟩ (.rptr (g' y).cells) ⟨tm, hp, nid, df, pn⟩ ⟨readsBlk o tm, [], []⟩ := by
  obtain ⟨h0, hy⟩ := lget_some hy
  rw [← hg]
  exact .of fun _ => ev_indexAddr (s := ⟨tm, hp, nid, df, pn⟩) (d := g y) ho ht hz hx hi h0 (by simp [hy])

theorem esfrom {o : Oper} {t : TypeId} {x lo : Operand} {u y : Str} {k : IntKind} {n : Int} (hy : sfrom u n = some y)
    (ho : o.op = .slice t x (some lo) none none) (ht : X.P.underlying t = some .string) (hx : evT X.P t tm x = some (.c (.d (.str u)))) (hi : ev tm lo = some (.c (.d (.int k n)))) :
    EvO X o ⟨tm, hp, nid, df, pn⟩ (.d (.str y)) ⟨tm, hp, nid, df, pn⟩ ⟨readsBlk o tm, [], []⟩ := by
  unfold sfrom at hy
  split at hy
  · rename_i hb
    simp only [Option.some.injEq] at hy; subst hy
    have := fun call => ev_slice_str (P := X.P) (call := call) (id := nid) (s := ⟨tm, hp, nid, df, pn⟩) (a := n.toNat) (b := u.length) ho ht hx (optNat_some hi hb.1) rfl hb.2 (Nat.le_refl _)
    rw [List.take_length] at this
    exact .of fun _ => this _
  · cases hy
theorem esto {o : Oper} {t : TypeId} {x hh : Operand} {u y : Str} {k : IntKind} {n : Int} (hy : sto u n = some y)
    (ho : o.op = .slice t x none (some hh) none) (ht : X.P.underlying t = some .string) (hx : evT X.P t tm x = some (.c (.d (.str u)))) (hi : ev tm hh = some (.c (.d (.int k n)))) :
    EvO X o ⟨tm, hp, nid, df, pn⟩ (.d (.str y)) ⟨tm, hp, nid, df, pn⟩ ⟨readsBlk o tm, [], []⟩ := by
  unfold sto at hy
  split at hy
  · rename_i hb
    simp only [Option.some.injEq] at hy; subst hy
    exact .of fun _ => ev_slice_str (s := ⟨tm, hp, nid, df, pn⟩) (a := 0) (b := n.toNat) ho ht hx rfl (optNat_some hi hb.1) (Nat.zero_le _) hb.2
  · cases hy
theorem esmid {o : Oper} {t : TypeId} {x lo hh : Operand} {u y : Str} {k k' : IntKind} {n m : Int} (hy : smid u n m = some y)
    (ho : o.op = .slice t x (some lo) (some hh) none) (ht : X.P.underlying t = some .string) (hx : evT X.P t tm x = some (.c (.d (.str u)))) (hi : ev tm lo = some (.c (.d (.int k n)))) (hi' : ev tm hh = some (.c (.d (.int k' m)))) :
    EvO X o ⟨tm, hp, nid, df, pn⟩ (.d (.str y)) ⟨tm, hp, nid, df, pn⟩ ⟨readsBlk o tm, [], []⟩ := by
  unfold smid at hy
  split at hy
  · rename_i hb
    simp only [Option.some.injEq] at hy; subst hy
    exact .of fun _ => ev_slice_str (s := ⟨tm, hp, nid, df, pn⟩) (a := n.toNat) (b := m.toNat) ho ht hx (optNat_some hi hb.1) (optNat_some hi' (by omega)) (by omega) hb.2.2
  · cases hy
theorem escat {o : Oper} {t t' : TypeId} {x y : Operand} {a b r : Str} (hy : scat a b = some r)
    (ho : o.op = .binOp .add t x y t') (hx : evT X.P t tm x = some (.c (.d (.str a)))) (hy' : evT X.P t tm y = some (.c (.d (.str b)))) :
    EvO X o ⟨tm, hp, nid, df, pn⟩ (.d (.str r)) ⟨tm, hp, nid, df, pn⟩ ⟨readsBlk o tm, [], []⟩ := by
  unfold scat at hy
  split at hy
  · simp only [Option.some.injEq] at hy; subst hy
    exact .of fun _ => ev_concat (s := ⟨tm, hp, nid, df, pn⟩) ho hx hy' (by assumption)
  · cases hy

/-- A piece of a slice. -/
theorem elfrom {α : Type} {g : α → D} {u y : List α} {o : Oper} {t e : TypeId} {x lo : Operand} {v : V} {k : IntKind} {n : Int} {sz : Nat} (hy : lfrom u n = some y)
    (ho : o.op = .slice t x (some lo) none none) (ht : X.P.underlying t = some (.slice e)) (hz : tsz X.P e = some sz) (hx : evT X.P t tm x = some v) (hv : v.toD = some (.list sz (u.map g))) (hi : ev tm lo = some (.c (.d (.int k n)))) :
    EvO X o ⟨tm, hp, nid, df, pn⟩ (.d (.list sz (y.map g))) ⟨tm, hp, nid, df, pn⟩ ⟨readsBlk o tm, [], []⟩ := by
  unfold lfrom at hy
  split at hy
  · rename_i hb
    simp only [Option.some.injEq] at hy; subst hy
    have := fun call => ev_slice_list (P := X.P) (call := call) (id := nid) (s := ⟨tm, hp, nid, df, pn⟩) (a := n.toNat) (b := u.length) (lo := some lo) (hi := none) ho ht hz hx hv (optNat_some hi hb.1) (by simp [optNat]) hb.2 (by simp)
    rw [show u.length = (u.map g).length from (List.length_map ..).symm, List.take_length, ← List.map_drop] at this
    exact .of fun _ => this _
  · cases hy
theorem elto {α : Type} {g : α → D} {u y : List α} {o : Oper} {t e : TypeId} {x hh : Operand} {v : V} {k : IntKind} {n : Int} {sz : Nat} (hy : lto u n = some y)
    (ho : o.op = .slice t x none (some hh) none) (ht : X.P.underlying t = some (.slice e)) (hz : tsz X.P e = some sz) (hx : evT X.P t tm x = some v) (hv : v.toD = some (.list sz (u.map g))) (hi : ev tm hh = some (.c (.d (.int k n)))) :
    EvO X o ⟨tm, hp, nid, df, pn⟩ (.d (.list sz (y.map g))) ⟨tm, hp, nid, df, pn⟩ ⟨readsBlk o tm, [], []⟩ := by
  unfold lto at hy
  split at hy
  · rename_i hb
    simp only [Option.some.injEq] at hy; subst hy
    have := fun call => ev_slice_list (P := X.P) (call := call) (id := nid) (s := ⟨tm, hp, nid, df, pn⟩) (a := 0) (b := n.toNat) (lo := none) (hi := some hh) ho ht hz hx hv rfl (optNat_some hi hb.1) (Nat.zero_le _) (by simpa using hb.2)
    rw [List.drop_zero, ← List.map_take] at this
    exact .of fun _ => this _
  · cases hy
theorem elmid {α : Type} {g : α → D} {u y : List α} {o : Oper} {t e : TypeId} {x lo hh : Operand} {v : V} {k k' : IntKind} {n m : Int} {sz : Nat} (hy : lmid u n m = some y)
    (ho : o.op = .slice t x (some lo) (some hh) none) (ht : X.P.underlying t = some (.slice e)) (hz : tsz X.P e = some sz) (hx : evT X.P t tm x = some v) (hv : v.toD = some (.list sz (u.map g))) (hi : ev tm lo = some (.c (.d (.int k n)))) (hi' : ev tm hh = some (.c (.d (.int k' m)))) :
    EvO X o ⟨tm, hp, nid, df, pn⟩ (.d (.list sz (y.map g))) ⟨tm, hp, nid, df, pn⟩ ⟨readsBlk o tm, [], []⟩ := by
  unfold lmid at hy
  split at hy
  · rename_i hb
    simp only [Option.some.injEq] at hy; subst hy
    have := fun call => ev_slice_list (P := X.P) (call := call) (id := nid) (s := ⟨tm, hp, nid, df, pn⟩) (a := n.toNat) (b := m.toNat) ho ht hz hx hv (optNat_some hi hb.1) (optNat_some hi' (by omega)) (by omega) (by simpa using hb.2.2)
    rw [← List.map_take, ← List.map_drop] at this
    exact .of fun _ => this _
  · cases hy

/-- The length of a slice. -/
theorem ellen {α : Type} {g : α → D} {u : List α} {o : Oper} {c : Go.Call} {t e : TypeId} {x : Operand} {v : V} {sz : Nat}
    (ho : o.op = .call c) (hc : c.callee = .builtin .len) (ha : c.args.toList = [x]) (hat : c.argTypes.toList = [t]) (ht : X.P.underlying t = some (.slice e)) (hx : ev tm x = some v) (hv : v.toD = some (.list sz (u.map g))) :
    EvO X o ⟨tm, hp, nid, df, pn⟩ (.d (.int .i64 u.length)) ⟨tm, hp, nid, df, pn⟩ Foot.none :=
  .of fun _ => by simp only [evOp, evR, ho, hc, ha, hat, hx, Option.bind_some, lenV_data hv, ht, List.length_map]

/-- []byte of a string. -/
theorem esbytes {o : Oper} {src dst e : TypeId} {x : Operand} {a : Str} {y : List Int} (hy : sbytes a = some y)
    (ho : o.op = .convert src dst x) (hs : X.P.underlying src = some .string) (hdd : X.P.underlying dst = some (.slice e)) (he : X.P.underlying e = some (.int .u8)) (hz : tsz X.P e = some 1) (hx : evT X.P src tm x = some (.c (.d (.str a)))) :
    EvO X o ⟨tm, hp, nid, df, pn⟩ (.c (.own 1 (y.map (D.int .u8)))) ⟨tm, hp, nid, df, pn⟩ ⟨readsBlk o tm, [], []⟩ := by
  unfold sbytes at hy
  split at hy
  · rename_i hb
    simp only [Option.some.injEq] at hy; subst hy
    have := fun call => ev_bytes (P := X.P) (call := call) (id := nid) (s := ⟨tm, hp, nid, df, pn⟩) ho hs hdd he hz hx hb
    rw [show a.map byteD = (a.map u8I).map (D.int .u8) from by rw [List.map_map]; rfl] at this
    exact .of fun _ => this _
  · cases hy

theorem toBytes_ints : ∀ a : List Int, toBytes (a.map (D.int .u8)) = some (bstr a)
  | [] => rfl
  | n :: a => by
    show (toBytes (a.map (D.int .u8))).map (UInt8.ofNat n.toNat :: ·) = _
    rw [toBytes_ints a]; rfl

/-- A string of bytes. -/
theorem ebstr {o : Oper} {src dst e : TypeId} {x : Operand} {v : V} {a : List Int}
    (ho : o.op = .convert src dst x) (hs : X.P.underlying src = some (.slice e)) (hdd : X.P.underlying dst = some .string) (he : X.P.underlying e = some (.int .u8)) (hx : evT X.P src tm x = some v) (hv : v.toD = some (.list 1 (a.map (D.int .u8)))) :
    EvO X o ⟨tm, hp, nid, df, pn⟩ (.d (.str (bstr a))) ⟨tm, hp, nid, df, pn⟩ ⟨readsBlk o tm, [], []⟩ := by
  have hcv : convV X.P src dst v = some (.d (.str (bstr a))) := by
    unfold convV
    rw [hs, hdd]
    cases v with
    | c y =>
      cases y with
      | d z => simp only [V.toD, C.toD, Option.some.injEq] at hv; subst hv; simp only [he, V.toD, C.toD, toBytes_ints, Option.map_some]
      | own z ys => simp only [V.toD, C.toD, Option.some.injEq, D.list.injEq] at hv; obtain ⟨rfl, rfl⟩ := hv; simp only [he, V.toD, C.toD, toBytes_ints, Option.map_some]
      | full z ys => simp only [V.toD, C.toD, Option.some.injEq, D.list.injEq] at hv; obtain ⟨rfl, rfl⟩ := hv; simp only [he, V.toD, C.toD, toBytes_ints, Option.map_some]
      | nilsl z =>
        simp only [V.toD, C.toD, Option.some.injEq, D.list.injEq] at hv
        obtain ⟨rfl, h⟩ := hv
        have : a = [] := by cases a <;> simp_all
        subst this
        simp only [he, V.toD, C.toD, toBytes, Option.map_some]
        rfl
      | _ => simp [V.toD, C.toD] at hv
    | view l z ys => simp only [V.toD, Option.some.injEq, D.list.injEq] at hv; obtain ⟨rfl, rfl⟩ := hv; simp only [he, V.toD, toBytes_ints, Option.map_some]
    | vagg cs => simp [V.toD] at hv
    | _ => simp [V.toD] at hv
  exact .of fun _ => by simp only [evOp, ho, evR, hx, hcv]

/-- append to the slice of a temporary, told by its elements. -/
theorem eappv {α : Type} {g : α → D} {u m y : List α} {o : Oper} {c : Go.Call} {t s e : TypeId} {x z : Operand} {n w : Nat} {zs : List D} {zv : V} {ms : List D} (hy : lapp u m = some y) (hm : ms = m.map g)
    (ho : o.op = .call c) (hc : c.callee = .builtin .append) (ha : c.args.toList = [x, z]) (hat : c.argTypes.toList = [t, s]) (ht : telem X.P t = some e) (hn : tsz X.P e = some n) (hu : isSource X.P s = true)
    (hb : (Nat.ble (X.P.bytesOf e) 1024 && zeroFits X.P e n) = true) (hx : evT X.P t tm x = some (.view (.tmp w) n (u.map g))) (hw : look w tm = some (.c (.own n zs))) (hz : evT X.P s tm z = some zv) (hzz : appended zv = some (n, ms)) :
    EvO X o ⟨tm, hp, nid, df, pn⟩ (.c (.own n (y.map g))) ⟨plainAt w tm, hp, nid, df, pn⟩ (appendFoot x tm) := by
  subst hm
  unfold lapp at hy
  split at hy
  · rename_i hl
    simp only [Option.some.injEq] at hy; subst hy
    simp only [Bool.and_eq_true] at hb
    have := fun call => ev_append_view (P := X.P) (call := call) (id := nid) (s := ⟨tm, hp, nid, df, pn⟩) ho hc ha hat ht hn hu ⟨Nat.le_of_ble_eq_true hb.1, hb.2⟩ hx hw hz hzz (by simpa using hl)
    rw [← List.map_append] at this
    exact .of fun _ => this _
  · cases hy

/-- append to the slice of a cell. -/
theorem eappc {α : Type} {g : α → D} {u m y : List α} {o : Oper} {c : Go.Call} {t s e : TypeId} {x z : Operand} {n b off : Nat} {zs : List D} {cells : List C} {zv : V} {ms : List D} (hy : lapp u m = some y) (hm : ms = m.map g)
    (ho : o.op = .call c) (hc : c.callee = .builtin .append) (ha : c.args.toList = [x, z]) (hat : c.argTypes.toList = [t, s]) (ht : telem X.P t = some e) (hn : tsz X.P e = some n) (hu : isSource X.P s = true)
    (hb : (Nat.ble (X.P.bytesOf e) 1024 && zeroFits X.P e n) = true) (hx : evT X.P t tm x = some (.view (.cell b off) n (u.map g))) (hw : lookC b hp = some cells) (hw' : cells[off]? = some (.own n zs)) (hz : evT X.P s tm z = some zv) (hzz : appended zv = some (n, ms)) :
    EvO X o ⟨tm, hp, nid, df, pn⟩ (.c (.own n (y.map g))) ⟨tm, upd b (cells.set off (.d (.list n (u.map g)))) hp, nid, df, pn⟩ (appendFoot x tm) := by
  subst hm
  unfold lapp at hy
  split at hy
  · rename_i hl
    simp only [Option.some.injEq] at hy; subst hy
    simp only [Bool.and_eq_true] at hb
    have := fun call => ev_append_cell (P := X.P) (call := call) (id := nid) (s := ⟨tm, hp, nid, df, pn⟩) ho hc ha hat ht hn hu ⟨Nat.le_of_ble_eq_true hb.1, hb.2⟩ hx hw hw' hz hzz (by simpa using hl)
    rw [← List.map_append] at this
    exact .of fun _ => this _
  · cases hy

/-- append to nil. -/
theorem eappn {α : Type} {g : α → D} {m y : List α} {o : Oper} {c : Go.Call} {t s e : TypeId} {x z : Operand} {n k : Nat} {zv : V} {ms : List D} (hy : lapp [] m = some y) (hm : ms = m.map g)
    (ho : o.op = .call c) (hc : c.callee = .builtin .append) (ha : c.args.toList = [x, z]) (hat : c.argTypes.toList = [t, s]) (ht : telem X.P t = some e) (hn : tsz X.P e = some n) (hu : isSource X.P s = true)
    (hb : (Nat.ble (X.P.bytesOf e) 1024 && zeroFits X.P e n) = true) (hx : evT X.P t tm x = some (.c (.nilsl k))) (hz : evT X.P s tm z = some zv) (hzz : appended zv = some (n, ms)) :
    EvO X o ⟨tm, hp, nid, df, pn⟩ (.c (.own n (y.map g))) ⟨tm, hp, nid, df, pn⟩ (appendFoot x tm) := by
  subst hm
  unfold lapp at hy
  split at hy
  · rename_i hl
    simp only [List.nil_append, Option.some.injEq] at hy; subst hy
    simp only [Bool.and_eq_true] at hb
    exact .of fun _ => ev_append_nil (s := ⟨tm, hp, nid, df, pn⟩) ho hc ha hat ht hn hu ⟨Nat.le_of_ble_eq_true hb.1, hb.2⟩ hx hz hzz (by simpa using hl)
  · cases hy

/-- A call that is handed no block. -/
theorem ecall {o : Oper} {c : Go.Call} {fo : Operand} {g : Nat} {args args' : List C} {v v' : V} (hv : aval X g args' [] (.ret v []))
    (ho : o.op = .call c) (hc : c.callee = .value fo) (hf : ev tm fo = some (.c (.fn g [])))
    (ha : argsT X.P tm c.args.toList c.argTypes.toList = some args) (hi : args.flatMap C.ids = []) (hj : mapM? (C.into []) args = some args) (hst : args.map C.still = args') (hH : (X.H g 999999).isEmpty = true) (hb : V.back [] v = some v') :
    EvO X o ⟨tm, hp, nid, df, pn⟩ v' ⟨tm, hp, nid, df, pn⟩ ⟨[], [], []⟩ := by
  have := evt_call (X := X) (s := ⟨tm, hp, nid, df, pn⟩) (ids := []) (lh := []) (lh' := []) (lh'' := []) ho hc hf (by simpa using ha) (by simp [hi, reach]) (by simpa using hj) rfl (aval_still (hst ▸ hv) hH) rfl (by simpa [idsFrom] using hb)
  refine this.imp fun k p => ?_
  rw [p]
  simp [idsFrom, look_unviewIn_nil, putBlks]

/-- .. whose arguments may be appended to. -/
theorem ecallk {o : Oper} {c : Go.Call} {fo : Operand} {g : Nat} {args : List C} {v v' : V} (hv : aval X g args [] (.ret v []))
    (ho : o.op = .call c) (hc : c.callee = .value fo) (hf : ev tm fo = some (.c (.fn g [])))
    (ha : argsT X.P tm c.args.toList c.argTypes.toList = some args) (hi : args.flatMap C.ids = []) (hj : mapM? (C.into []) args = some args) (hb : V.back [] v = some v') :
    EvO X o ⟨tm, hp, nid, df, pn⟩ v' ⟨tm, hp, nid, df, pn⟩ ⟨[], [], []⟩ := by
  have := evt_call (X := X) (s := ⟨tm, hp, nid, df, pn⟩) (ids := []) (lh := []) (lh' := []) (lh'' := []) ho hc hf (by simpa using ha) (by simp [hi, reach]) (by simpa using hj) rfl hv rfl (by simpa [idsFrom] using hb)
  refine this.imp fun k p => ?_
  rw [p]
  simp [idsFrom, look_unviewIn_nil, putBlks]

/-! ### Where ways meet, and loops -/

/-- Is a function left so? -/
def AX.isOut : AX → Bool
  | .ret => true
  | .pan _ => true
  | _ => false

theorem seqQ.out {b : Code} {x : AX} {s : St} (hx : x.isOut = true) (h : Q x s) : seqQ X f b Q x s := by
  cases x <;> first | exact .ret h | exact .pan h | simp [AX.isOut] at hx
theorem condQ.out {hk : List Nat} {n : Nat} {x : AX} {s : St} (hx : x.isOut = true) (h : Q x s) : condQ hk n Q x s := by
  cases x <;> first | exact .ret h | exact .pan h | simp [AX.isOut] at hx
theorem exitQ.out {id : Nat} {hk : List Nat} {n : Nat} {x : AX} {s : St} (hx : x.isOut = true) (h : Q x s) : exitQ id hk n Q x s := by
  cases x <;> first | exact .ret h | exact .pan h | simp [AX.isOut] at hx
theorem loopQ.out {A : St → Prop} {x : AX} {s : St} (hx : x.isOut = true) (h : Q x s) : loopQ A Q x s := by
  cases x <;> first | exact .ret h | exact .pan h | simp [AX.isOut] at hx

/-- What a piece of code that printed as a value of its own comes to: it goes on, or the function returns. -/
inductive SubQ (X : Ctx) (fn : Func) (n : Nat) {ρ σ : Type} (E : ρ → CRes) (st : σ → St) : Except ρ σ → AX → St → Prop where
  | ok {a : σ} {s : St} : s = st a → SubQ X fn n E st (.ok a) .normal s
  | err {r : ρ} {x : AX} {s : St} : x.isOut = true → atEnd X fn n (E r) x s → SubQ X fn n E st (.error r) x s

theorem awp_sub (fn : Func) (n : Nat) {ρ σ : Type} (E : ρ → CRes) (st : σ → St) {res : Except ρ σ} {a : Code} {s : St} (h1 : awp X f a (SubQ X fn n E st res) s) (h2 : ∀ y, res = .ok y → Q .normal (st y))
    (h3 : ∀ r x s', res = .error r → x.isOut = true → atEnd X fn n (E r) x s' → Q x s') : awp X f a Q s := by
  refine awp_mono h1 ?_
  intro x s' hq
  cases hq with
  | ok e => subst e; exact h2 _ rfl
  | err hx e => exact h3 _ _ _ rfl hx e

/-- .. where the function does not return within. -/
inductive NrmQ {σ : Type} (st : σ → St) (y : σ) : AX → St → Prop where
  | ok {s : St} : s = st y → NrmQ st y .normal s

theorem awp_nrm {σ : Type} (st : σ → St) {y : σ} {a : Code} {s : St} (h1 : awp X f a (NrmQ st y) s) (h2 : Q .normal (st y)) : awp X f a Q s := by
  refine awp_mono h1 ?_
  intro x s' hq
  cases hq with
  | ok e => subst e; exact h2

theorem awpL_at {c : Code} {clean : St → Option St} {s s1 : St} (hc : clean s = some s1) (hc1 : clean s1 = some s1) (h : awpL X f c clean Q s1) : awpL X f c clean Q s := by
  obtain ⟨x, s', ⟨m₀, h1⟩, h2⟩ := h
  refine ⟨x, s', ⟨m₀ + 1, h1.imp fun k p m hm => ?_⟩, h2⟩
  obtain ⟨j, rfl⟩ : ∃ j, m = j + 1 := ⟨m - 1, by omega⟩
  have := p (j + 1) (by omega)
  simp only [iter, hc1] at this
  simp only [iter, hc]
  exact this

theorem awpL_go {c : Code} {clean : St → Option St} {s s1 : St} (hc : clean s = some s1) (h : awp X f c (loopQ (awpL X f c clean Q) Q) s1) : awpL X f c clean Q s := by
  refine awpL_round hc (awp_mono h ?_)
  intro x s' hq
  cases hq with
  | normal h => exact h
  | exit h => exact h
  | ret h => exact h
  | pan h => exact h

def filtK {β : Type} (n : Nat) : List (Nat × List C) → (List (Nat × List C) → β) → β
  | [], k => k []
  | (b, cs) :: r, k => match decide (b < n) with
    | true => copyL cs fun cs => filtK n r fun r => k ((b, cs) :: r)
    | false => filtK n r k
theorem filtK_eq {β : Type} {n : Nat} : ∀ {l : List (Nat × List C)} {k : List (Nat × List C) → β}, filtK n l k = k (l.filter (·.1 < n))
  | [], _ => rfl
  | (b, cs) :: r, k => by
    simp only [filtK, List.filter_cons, copyL_eq]
    cases h : decide (b < n) with
    | true => simp only [filtK_eq, if_true]
    | false => simp only [filtK_eq, Bool.false_eq_true, if_false]

def cleanK {α : Type} (ks : List Nat) (n : Nat) (tm : List (Nat × V)) (hp : List (Nat × List C)) (df : List (Nat × List Nat)) (k : List (Nat × V) → List (Nat × List C) → Option α) : Option α :=
  keepK ks (demT ks tm) fun tm => filtK n (demH ks hp) fun hp => match tm.all (fun x => x.2.below n) && hp.all (fun x => x.2.all (C.below n)) && df.all (fun x => x.2.all (· < n)) with
    | true => k tm hp
    | false => none

def pairK (tm : List (Nat × V)) (hp : List (Nat × List C)) : Option (List (Nat × V) × List (Nat × List C)) := some (tm, hp)

theorem cleanK_eq {α : Type} {ks : List Nat} {n : Nat} {k : List (Nat × V) → List (Nat × List C) → Option α} {a : α} (h : cleanK ks n tm hp df k = some a) :
    ∃ tm' hp', k tm' hp' = some a ∧ cleanAt ks n ⟨tm, hp, nid, df, pn⟩ = some ⟨tm', hp', n, df, pn⟩ := by
  unfold cleanK at h
  rw [keepK_eq, filtK_eq] at h
  split at h
  · rename_i hc
    refine ⟨_, _, h, ?_⟩
    unfold cleanAt
    simp only
    rw [if_pos hc]
  · simp at h

/-- A loop's round. -/
theorem lg {ks : List Nat} {n : Nat} {c : Code} (hc : cleanK ks n tm hp df pairK = some (tm', hp')) (h : awp X f c (loopQ (awpL X f c (cleanAt ks n) Q) Q) ⟨tm', hp', n, df, pn⟩) : awpL X f c (cleanAt ks n) Q ⟨tm, hp, nid, df, pn⟩ := by
  obtain ⟨_, _, h1, h2⟩ := cleanK_eq (nid := nid) (pn := pn) hc
  simp only [pairK, Option.some.injEq, Prod.mk.injEq] at h1
  obtain ⟨rfl, rfl⟩ := h1
  exact awpL_go h2 h

def settleK {α : Type} (hk : List Nat) (n : Nat) (tm : List (Nat × V)) (hp : List (Nat × List C)) (nid : Nat) (df : List (Nat × List Nat)) (k : List (Nat × V) → List (Nat × List C) → Nat → Option α) : Option α := match hk with
  | [] => k tm hp nid
  | _ :: ks => cleanK ks n tm hp df fun tm hp => k tm hp n

def triK (tm : List (Nat × V)) (hp : List (Nat × List C)) (nid : Nat) : Option (List (Nat × V) × List (Nat × List C) × Nat) := some (tm, hp, nid)

theorem settleK_eq {hk : List Nat} {n : Nat} (h : settleK hk n tm hp nid df triK = some (tm', hp', nid')) : settleS hk n ⟨tm, hp, nid, df, pn⟩ = some ⟨tm', hp', nid', df, pn⟩ := by
  unfold settleK at h
  split at h
  · simp only [triK, Option.some.injEq, Prod.mk.injEq] at h
    obtain ⟨rfl, rfl, rfl⟩ := h; rfl
  · obtain ⟨_, _, h1, h2⟩ := cleanK_eq (nid := nid) (pn := pn) h
    simp only [triK, Option.some.injEq, Prod.mk.injEq] at h1
    obtain ⟨rfl, rfl, rfl⟩ := h1
    exact h2

theorem eh {id : Nat} {hk : List Nat} {n : Nat} (hs : settleK hk n tm hp nid df triK = some (tm', hp', nid')) (h : Q .normal ⟨tm', hp', nid', df, pn⟩) : exitQ id hk n Q (.exit id) ⟨tm, hp, nid, df, pn⟩ := .here (settleK_eq hs) h
theorem en {id : Nat} {hk : List Nat} {n : Nat} (hs : settleK hk n tm hp nid df triK = some (tm', hp', nid')) (h : Q .normal ⟨tm', hp', nid', df, pn⟩) : exitQ id hk n Q .normal ⟨tm, hp, nid, df, pn⟩ := .normal (settleK_eq hs) h
theorem cn {hk : List Nat} {n : Nat} (hs : settleK hk n tm hp nid df triK = some (tm', hp', nid')) (h : Q .normal ⟨tm', hp', nid', df, pn⟩) : condQ hk n Q .normal ⟨tm, hp, nid, df, pn⟩ := .normal (settleK_eq hs) h

/-- A piece of a piece of code. -/
def codeAt : List Nat → Code → Code
  | [], c => c
  | i :: r, .seq a b => codeAt r (if i = 0 then a else b)
  | i :: r, .cond _ a b => codeAt r (if i = 0 then a else b)
  | _ :: r, .block _ c => codeAt r c
  | _ :: r, .loop c => codeAt r c
  | _ :: r, .scope c => codeAt r c
  | _, c => c

def bodyOf (fn : Func) : Code := fn.body.getD .skip
end
end Go.AM

/- Steps of printed functions: calls that blocks go with, panics, deferred calls, maps. -/
namespace Go.AM
open Go

section
variable {X : Ctx} {f : Nat} {Q : AX → St → Prop} {tm tm' : List (Nat × V)} {hp hp' : List (Nat × List C)} {nid nid' : Nat} {df df' : List (Nat × List Nat)} {pn : Option D}

/-- What an operation panics with. -/
def EvP (X : Ctx) (o : Oper) (s : St) (d : D) (s1 : St) (ft : Foot) : Prop := Evt fun k => evOp X.P (X.call k) s.nid o s = some (.pan d s1, ft)

/-- A call that blocks go with. -/
theorem ecallb {o : Oper} {c : Go.Call} {fo : Operand} {g : Nat} {caps ids : List Nat} {args args' args'' : List C} {lh lh' lh'' : List (List C)} {v v' : V} (hv : aval X g args'' lh (.ret v lh'))
    (ho : o.op = .call c) (hc : c.callee = .value fo) (hf : ev tm fo = some (.c (.fn g caps)))
    (ha : argsT X.P tm c.args.toList c.argTypes.toList = some args) (hr : reach hp 64 ((args ++ caps.map fun b => C.ptr b 0).flatMap C.ids) [] = some ids) (hi : mapM? (C.into ids) (args ++ caps.map fun b => .ptr b 0) = some args')
    (hst : args'.map C.still = args'') (hH : (X.H g 999999).isEmpty = true)
    (hb : blksInto hp ids = some lh) (hk : mapM? (mapM? (C.back (ids ++ idsFrom nid (lh'.length - ids.length)))) lh' = some lh'') (hv' : V.back (ids ++ idsFrom nid (lh'.length - ids.length)) v = some v') (hn : nid + (lh'.length - ids.length) = nid') :
    EvO X o ⟨tm, hp, nid, df, pn⟩ v' ⟨unviewIn (ids ++ idsFrom nid (lh'.length - ids.length)) tm, putBlks (ids ++ idsFrom nid (lh'.length - ids.length)) lh'' hp, nid', df, pn⟩ ⟨ids, ids, []⟩ := by
  subst hn hst
  exact evt_call (X := X) (s := ⟨tm, hp, nid, df, pn⟩) ho hc hf ha hr hi hb (aval_still hv hH) hk hv'

/-- .. whose arguments may be appended to. -/
theorem ecallbk {o : Oper} {c : Go.Call} {fo : Operand} {g : Nat} {caps ids : List Nat} {args args' : List C} {lh lh' lh'' : List (List C)} {v v' : V} (hv : aval X g args' lh (.ret v lh'))
    (ho : o.op = .call c) (hc : c.callee = .value fo) (hf : ev tm fo = some (.c (.fn g caps)))
    (ha : argsT X.P tm c.args.toList c.argTypes.toList = some args) (hr : reach hp 64 ((args ++ caps.map fun b => C.ptr b 0).flatMap C.ids) [] = some ids) (hi : mapM? (C.into ids) (args ++ caps.map fun b => .ptr b 0) = some args')
    (hb : blksInto hp ids = some lh) (hk : mapM? (mapM? (C.back (ids ++ idsFrom nid (lh'.length - ids.length)))) lh' = some lh'') (hv' : V.back (ids ++ idsFrom nid (lh'.length - ids.length)) v = some v') (hn : nid + (lh'.length - ids.length) = nid') :
    EvO X o ⟨tm, hp, nid, df, pn⟩ v' ⟨unviewIn (ids ++ idsFrom nid (lh'.length - ids.length)) tm, putBlks (ids ++ idsFrom nid (lh'.length - ids.length)) lh'' hp, nid', df, pn⟩ ⟨ids, ids, []⟩ := by
  subst hn
  exact evt_call (X := X) (s := ⟨tm, hp, nid, df, pn⟩) ho hc hf ha hr hi hb hv hk hv'

/-- A call that panics. -/
theorem ecallp {o : Oper} {c : Go.Call} {fo : Operand} {g : Nat} {caps ids : List Nat} {args args' args'' : List C} {lh lh' lh'' : List (List C)} {d : D} (hv : aval X g args'' lh (.pan d lh'))
    (ho : o.op = .call c) (hc : c.callee = .value fo) (hf : ev tm fo = some (.c (.fn g caps)))
    (ha : argsT X.P tm c.args.toList c.argTypes.toList = some args) (hr : reach hp 64 ((args ++ caps.map fun b => C.ptr b 0).flatMap C.ids) [] = some ids) (hi : mapM? (C.into ids) (args ++ caps.map fun b => .ptr b 0) = some args')
    (hst : args'.map C.still = args'') (hH : (X.H g 999999).isEmpty = true)
    (hb : blksInto hp ids = some lh) (hk : mapM? (mapM? (C.back ids)) lh' = some lh'') :
    EvP X o ⟨tm, hp, nid, df, pn⟩ d ⟨unviewIn ids tm, putBlks ids lh'' hp, nid, df, pn⟩ ⟨ids, ids, []⟩ := by
  subst hst
  refine (aval_still hv hH).imp fun k p => ?_
  simp only [evOp, ho, hc, hf, ha, doCall, hr, hi, hb, p, hk]

theorem epanic {o : Oper} {d : D} {ft : Foot} (h : ∀ call, evOp X.P call nid o ⟨tm, hp, nid, df, pn⟩ = some (.pan d ⟨tm, hp, nid, df, pn⟩, ft)) : EvP X o ⟨tm, hp, nid, df, pn⟩ d ⟨tm, hp, nid, df, pn⟩ ft := .of fun _ => h _

/-- The panic of an operation of a region. -/
theorem pp {ops : Array Oper} {o : Oper} {l : List Oper} {d : D} {tm1 : List (Nat × V)} {hp1 : List (Nat × List C)} {ft : Foot} (hop : EvP X o ⟨tm, hp, nid, df, pn⟩ d ⟨tm1, hp1, nid, df, pn⟩ ft) (hw : wantedAt ops tm o = some true)
    (hk : (copyL tm1 fun tm => copyHp hp1 fun hp => some (tm, hp)) = some (tm', hp')) (h : Q (.pan d) ⟨tm', hp', nid, df, pn⟩) : awpO X ops (o :: l) Q ⟨tm, hp, nid, df, pn⟩ := by
  rw [copyL_eq, copyHp_eq] at hk
  simp only [Option.some.injEq, Prod.mk.injEq] at hk
  obtain ⟨rfl, rfl⟩ := hk
  exact awpO_pan (s := ⟨tm, hp, nid, df, pn⟩) hw hop h
/-- .. whose order is drawn. -/
theorem dp {ops : Array Oper} {vs : List Nat} {base i : Nat} {pre : List Fp} {o : Oper} {l : List Oper} {d d0 : D} {tm0 tm1 tmd : List (Nat × V)} {hp0 hp1 : List (Nat × List C)} {nid0 : Nat} {ft ft0 : Foot} (hd : copyL (tm.filter fun p => !(looseDst ops i).contains p.1) some = some tmd)
    (hop0 : EvP X o ⟨tm, hp, nid, df, pn⟩ d0 ⟨tm0, hp0, nid0, df, pn⟩ ft0) (hop : EvP X o ⟨tmd, hp, nid, df, pn⟩ d ⟨tm1, hp1, nid, df, pn⟩ ft) (hw : wantedAt ops tm o = some true) (hw' : wantedAt ops tmd o = some true) (hm : makesBlk o = false)
    (hk : (copyL tm1 fun tm => copyHp hp1 fun hp => some (tm, hp)) = some (tm', hp')) (hok : (drawOkM true ops base (pre ++ [⟨[], [], [], true⟩]) && Nat.ble base nid) = true) (h : Q (.pan d) ⟨tm', hp', nid, df, pn⟩) : awpD X ops vs base pre (o :: l) i Q ⟨tm, hp, nid, df, pn⟩ := by
  rw [copyL_eq, Option.some.injEq] at hd
  rw [copyL_eq, copyHp_eq] at hk
  simp only [Option.some.injEq, Prod.mk.injEq] at hk
  obtain ⟨rfl, rfl⟩ := hk
  simp only [Bool.and_eq_true] at hok
  have hdr : dropT (looseDst ops i) ⟨tm, hp, nid, df, pn⟩ = ⟨tmd, hp, nid, df, pn⟩ := by simp only [dropT, hd]
  refine awpD_pan (s := ⟨tm, hp, nid, df, pn⟩) (ft := ⟨[], [], [], true⟩) (ft0 := ⟨[], [], [], true⟩) (d0 := d0) (s0 := ⟨tm0, hp0, nid0, df, pn⟩) hw (hop0.imp fun k p => ?_) (by rw [hdr]; exact hw') (hop.imp fun k p => ?_) ?_ h
  · simp only [drawOp, hm, Bool.false_eq_true, if_false, drawOld, p]
  · rw [hdr]; simp only [drawOp, hm, Bool.false_eq_true, if_false, drawOld, p]
  · simp only [Bool.and_eq_true, decide_eq_true_eq]
    exact ⟨drawOkM_ok hok.1, Nat.le_of_ble_eq_true hok.2⟩

/-- A call is put off. -/
theorem pdef {ops : Array Oper} {o : Oper} {l : List Oper} {v : V} {ft : Foot} (hop : ∀ call, evOp X.P call nid o ⟨tm, hp, nid, df, pn⟩ = some (.val v ⟨tm, hp, nid, df', pn⟩, ft)) (hw : wantedAt ops tm o = some true)
    (hk : putK o.dst v tm (fun tm => some tm) = some tm') (h : awpO X ops l Q ⟨tm', hp, nid, df', pn⟩) : awpO X ops (o :: l) Q ⟨tm, hp, nid, df, pn⟩ := by
  refine awpO_op (s := ⟨tm, hp, nid, df, pn⟩) hw (.of fun k => hop _) ?_
  rw [show tm = (⟨tm, hp, nid, df', pn⟩ : St).tmps from rfl, putK_eq] at hk
  simp only [Option.some.injEq] at hk
  subst hk
  rw [putDst, putSt_rest]
  exact h

/-! ### Maps -/

def mset {κ α : Type} [BEq κ] (l : List (κ × α)) (k : κ) (v : α) : List (κ × α) := match l with
  | [] => [(k, v)]
  | (k', v') :: r => if k == k' then (k, v) :: r else (k', v') :: mset r k v
def mget {κ α : Type} [BEq κ] (l : List (κ × α)) (k : κ) (z : α) : α := match l with
  | [] => z
  | (k', v) :: r => if k == k' then v else mget r k z
def mhas {κ α : Type} [BEq κ] (l : List (κ × α)) (k : κ) : Bool := match l with
  | [] => false
  | (k', _) :: r => if k == k' then true else mhas r k

def encS {α : Type} (g : α → D) (x : Str × α) : D × MV := (.str x.1, .d (g x.2))
def encI {α : Type} (j : IntKind) (g : α → D) (x : Int × α) : D × MV := (.int j x.1, .d (g x.2))

theorem setM_S {α : Type} {g : α → D} {k : Str} {v : α} : ∀ l : List (Str × α), setM (.str k) (.d (g v)) (l.map (encS g)) = some ((mset l k v).map (encS g))
  | [] => rfl
  | (k', v') :: r => by
    simp only [List.map_cons, encS, setM, eqKey, mset]
    cases h : k == k' with
    | true => simp [encS]
    | false =>
      have := setM_S (g := g) (k := k) (v := v) r
      simp [this, encS]
theorem setM_I {α : Type} {j : IntKind} {g : α → D} {k : Int} {v : α} : ∀ l : List (Int × α), setM (.int j k) (.d (g v)) (l.map (encI j g)) = some ((mset l k v).map (encI j g))
  | [] => rfl
  | (k', v') :: r => by
    simp only [List.map_cons, encI, setM, eqKey, mset, if_true]
    cases h : k == k' with
    | true => simp [encI]
    | false =>
      have := setM_I (j := j) (g := g) (k := k) (v := v) r
      simp [this, encI]

theorem findM_S {α : Type} {g : α → D} {k : Str} {z : α} : ∀ l : List (Str × α), ∃ r, findM (.str k) (l.map (encS g)) = some r ∧ (mhas l k = true → r = some (.d (g (mget l k z)))) ∧ (mhas l k = false → r = none ∧ mget l k z = z)
  | [] => ⟨none, rfl, by simp [mhas], fun _ => ⟨rfl, rfl⟩⟩
  | (k', v') :: r => by
    simp only [List.map_cons, encS, findM, eqKey, mget, mhas]
    cases h : k == k' with
    | true => exact ⟨_, rfl, by simp, by simp⟩
    | false =>
      obtain ⟨q, h1, h2, h3⟩ := findM_S (g := g) (k := k) (z := z) r
      exact ⟨q, h1, by simpa using h2, by simpa using h3⟩
theorem findM_I {α : Type} {j : IntKind} {g : α → D} {k : Int} {z : α} : ∀ l : List (Int × α), ∃ r, findM (.int j k) (l.map (encI j g)) = some r ∧ (mhas l k = true → r = some (.d (g (mget l k z)))) ∧ (mhas l k = false → r = none ∧ mget l k z = z)
  | [] => ⟨none, rfl, by simp [mhas], fun _ => ⟨rfl, rfl⟩⟩
  | (k', v') :: r => by
    simp only [List.map_cons, encI, findM, eqKey, mget, mhas, if_true]
    cases h : k == k' with
    | true => exact ⟨_, rfl, by simp, by simp⟩
    | false =>
      obtain ⟨q, h1, h2, h3⟩ := findM_I (j := j) (g := g) (k := k) (z := z) r
      exact ⟨q, h1, by simpa using h2, by simpa using h3⟩

theorem lookM_S {α : Type} {g : α → D} {k : Str} {z : α} {e : TypeId} {ok : Bool} (hz : zeroM X.P e = some (.d (g z))) (l : List (Str × α)) : lookM X.P e ok (.str k) (l.map (encS g)) = some (tellM ok (.d (g (mget l k z))) (mhas l k)) := by
  obtain ⟨r, h1, h2, h3⟩ := findM_S (g := g) (k := k) (z := z) l
  unfold lookM
  rw [h1]
  cases h : mhas l k with
  | true => rw [h2 h]; rfl
  | false => obtain ⟨rfl, e'⟩ := h3 h; rw [e']; simp only [hz, Option.map_some]
theorem lookM_I {α : Type} {j : IntKind} {g : α → D} {k : Int} {z : α} {e : TypeId} {ok : Bool} (hz : zeroM X.P e = some (.d (g z))) (l : List (Int × α)) : lookM X.P e ok (.int j k) (l.map (encI j g)) = some (tellM ok (.d (g (mget l k z))) (mhas l k)) := by
  obtain ⟨r, h1, h2, h3⟩ := findM_I (j := j) (g := g) (k := k) (z := z) l
  unfold lookM
  rw [h1]
  cases h : mhas l k with
  | true => rw [h2 h]; rfl
  | false => obtain ⟨rfl, e'⟩ := h3 h; rw [e']; simp only [hz, Option.map_some]

/-- m[k]. -/
theorem elookS {α : Type} {g : α → D} {o : Oper} {t kt e : TypeId} {m k : Operand} {b : Nat} {l : List (Str × α)} {s : Str} (z : α) (ho : o.op = .lookup t m k false) (hm : mapT X.P t = some (kt, e)) (hx : ev tm m = some (.c (.mp b))) (hy : (ev tm k).bind V.toD = some (.str s)) (hk : keyD X.P kt (.str s) = true)
    (hb : look b hp = some [.ment (l.map (encS g))]) (hz : zeroM X.P e = some (.d (g z))) : EvO X o ⟨tm, hp, nid, df, pn⟩ (.d (g (mget l s z))) ⟨tm, hp, nid, df, pn⟩ ⟨readsBlk o tm, [], []⟩ :=
  .of fun call => by simp only [evOp, ho, evR, hm, hx, hy, hk, if_true, hb, mapOf, lookM_S (g := g) (z := z) hz, Option.map_some, tellM, Bool.false_eq_true, if_false]
theorem elookI {α : Type} {j : IntKind} {g : α → D} {o : Oper} {t kt e : TypeId} {m k : Operand} {b : Nat} {l : List (Int × α)} {s : Int} (z : α) (ho : o.op = .lookup t m k false) (hm : mapT X.P t = some (kt, e)) (hx : ev tm m = some (.c (.mp b))) (hy : (ev tm k).bind V.toD = some (.int j s)) (hk : keyD X.P kt (.int j s) = true)
    (hb : look b hp = some [.ment (l.map (encI j g))]) (hz : zeroM X.P e = some (.d (g z))) : EvO X o ⟨tm, hp, nid, df, pn⟩ (.d (g (mget l s z))) ⟨tm, hp, nid, df, pn⟩ ⟨readsBlk o tm, [], []⟩ :=
  .of fun call => by simp only [evOp, ho, evR, hm, hx, hy, hk, if_true, hb, mapOf, lookM_I (j := j) (g := g) (z := z) hz, Option.map_some, tellM, Bool.false_eq_true, if_false]

/-- A new map. -/
theorem pmk {ops : Array Oper} {o : Oper} {l : List Oper} {t : TypeId} (ho : o.op = .makeMap t none) (hw : wantedAt ops tm o = some true) (hv : noView nid tm = true)
    (hk : putK o.dst (.c (.mp nid)) tm (fun tm => some tm) = some tm') (hn : nid + 1 = nid') (h : awpO X ops l Q ⟨tm', (nid, [.ment []]) :: hp, nid', df, pn⟩) : awpO X ops (o :: l) Q ⟨tm, hp, nid, df, pn⟩ := by
  refine awpO_op (s := ⟨tm, hp, nid, df, pn⟩) (v := .c (.mp nid)) (s1 := ⟨tm, (nid, [.ment []]) :: hp, nid + 1, df, pn⟩) (ft := Foot.none) hw (.of fun k => by simp only [evOp, ho, hv, if_true]) ?_
  subst hn
  rw [show tm = (⟨tm, (nid, [.ment []]) :: hp, nid + 1, df, pn⟩ : St).tmps from rfl, putK_eq] at hk
  simp only [Option.some.injEq] at hk
  subst hk
  rw [putDst, putSt_rest]
  exact h

/-- m[k] = v. -/
theorem emap {o : Oper} {t kt e : TypeId} {m k v : Operand} {b : Nat} {kd : D} {mv : MV} {cs : List C} {kvs kvs' : List (D × MV)} (hs : setM kd mv kvs = some kvs') (ho : o.op = .insert t m k v ∨ o.op = .mapUpdate t m k v) (hm : mapT X.P t = some (kt, e)) (hx : ev tm m = some (.c (.mp b))) (hy : (ev tm k).bind V.toD = some kd) (hk : keyD X.P kt kd = true)
    (hv : (evT X.P e tm v).bind MV.of = some mv) (hb : look b hp = some cs) (hc : mapOf cs = some kvs) : EvO X o ⟨tm, hp, nid, df, pn⟩ (.c .undef) ⟨tm, upd b [.ment kvs'] hp, nid, df, pn⟩ ⟨[], [b], []⟩ :=
  .of fun call => by rcases ho with ho | ho <;> simp only [evOp, ho, doMap, hm, hx, hy, hk, hv, hb, hc, hs]

/-- append to a slice that has no spare cells. -/
theorem eappf {α : Type} {g : α → D} {u m y : List α} {o : Oper} {c : Go.Call} {t s e : TypeId} {x z : Operand} {n : Nat} {zv : V} {ms : List D} (hy : lapp u m = some y) (hm : ms = m.map g)
    (ho : o.op = .call c) (hc : c.callee = .builtin .append) (ha : c.args.toList = [x, z]) (hat : c.argTypes.toList = [t, s]) (ht : telem X.P t = some e) (hn : tsz X.P e = some n) (hu : isSource X.P s = true)
    (hb : (Nat.ble (X.P.bytesOf e) 1024 && zeroFits X.P e n) = true) (hx : evT X.P t tm x = some (.c (.full n (u.map g)))) (hz : evT X.P s tm z = some zv) (hzz : appended zv = some (n, ms)) :
    EvO X o ⟨tm, hp, nid, df, pn⟩ (.c (.own n (y.map g))) ⟨tm, hp, nid, df, pn⟩ (appendFoot x tm) := by
  subst hm
  unfold lapp at hy
  split at hy
  · rename_i hl
    simp only [Option.some.injEq] at hy; subst hy
    simp only [Bool.and_eq_true] at hb
    refine .of fun call => ?_
    have h2 : X.P.bytesOf e ≤ 1024 ∧ zeroFits X.P e n = true := ⟨Nat.le_of_ble_eq_true hb.1, hb.2⟩
    simp only [evOp, ho, hc, ha, hat, doAppend, ht, hn, hu, hx, hz, hzz, Option.bind_some, h2, and_self, if_true, List.length_map, hl, List.map_append]
  · cases hy

/-- s[:n:n]. -/
theorem elfull {α : Type} {g : α → D} {u y : List α} {o : Oper} {t e : TypeId} {x hh mm : Operand} {v : V} {k k' : IntKind} {n : Int} {sz : Nat} (hy : lto u n = some y)
    (ho : o.op = .slice t x none (some hh) (some mm)) (ht : X.P.underlying t = some (.slice e)) (hz : tsz X.P e = some sz) (hx : evT X.P t tm x = some v) (hv : v.toD = some (.list sz (u.map g))) (hi : ev tm hh = some (.c (.d (.int k n)))) (hi' : ev tm mm = some (.c (.d (.int k' n)))) :
    EvO X o ⟨tm, hp, nid, df, pn⟩ (.c (.full sz (y.map g))) ⟨tm, hp, nid, df, pn⟩ ⟨readsBlk o tm, [], []⟩ := by
  unfold lto at hy
  split at hy
  · rename_i hb
    simp only [Option.some.injEq] at hy; subst hy
    refine .of fun call => ?_
    have h1 : n.toNat ≤ (u.map g).length := by simpa using hb.2
    simp [evOp, ho, evR, hx, lenV_data hv, ht, hv, optNat, hi, hi', hb.1, sliceV, hz, List.map_take, hb.2]
  · cases hy

def idiv (k : IntKind) (a b : Int) : Option Int := if b = 0 then none else some (k.wrap (a.tdiv b))
def irem (a b : Int) : Option Int := if b = 0 then none else some (a.tmod b)

theorem eidiv {o : Oper} {t u : TypeId} {x z : Operand} {k : IntKind} {a b y : Int} (hy : idiv k a b = some y) (ho : o.op = .binOp .quo t x z u) (hx : evT X.P t tm x = some (.c (.d (.int k a)))) (hz : evT X.P t tm z = some (.c (.d (.int k b)))) :
    EvO X o ⟨tm, hp, nid, df, pn⟩ (.d (.int k y)) ⟨tm, hp, nid, df, pn⟩ ⟨readsBlk o tm, [], []⟩ := by
  unfold idiv at hy
  split at hy
  · cases hy
  · rename_i hb
    simp only [Option.some.injEq] at hy; subst hy
    exact .of fun _ => by simp only [evOp, ho, evR, hx, hz, binV, if_true, intOp, hb, if_false]
theorem eirem {o : Oper} {t u : TypeId} {x z : Operand} {k : IntKind} {a b y : Int} (hy : irem a b = some y) (ho : o.op = .binOp .rem t x z u) (hx : evT X.P t tm x = some (.c (.d (.int k a)))) (hz : evT X.P t tm z = some (.c (.d (.int k b)))) :
    EvO X o ⟨tm, hp, nid, df, pn⟩ (.d (.int k y)) ⟨tm, hp, nid, df, pn⟩ ⟨readsBlk o tm, [], []⟩ := by
  unfold irem at hy
  split at hy
  · cases hy
  · rename_i hb
    simp only [Option.some.injEq] at hy; subst hy
    exact .of fun _ => by simp only [evOp, ho, evR, hx, hz, binV, if_true, intOp, hb, if_false]

/-! ### Deferred calls -/

theorem recsF_of {P : Program} {g : Nat} {fn : Func} {c : Code} {b : Bool} (hf : P.funcs[g]? = some fn) (hc : fn.body = some c) (hb : recs c = b) : recsF P g = b := by simp only [recsF, hf, hc, hb]

theorem rdc {g : Nat} {caps ids : List Nat} {l : List (Nat × List Nat)} {pan pan2 pan' : Option D} {s' : St} {args' : List C} {lh lh' lh'' : List (List C)} {v v' : V} {rec : Bool} (hv : avalD X pan g args' lh (.ret v lh')) (hrc : recsF X.P g = rec) (hr : reach hp 64 ((caps.map fun b => C.ptr b 0).flatMap C.ids) [] = some ids) (hi : mapM? (C.into ids) (caps.map fun b => .ptr b 0) = some args')
    (hb : blksInto hp ids = some lh) (hk : mapM? (mapM? (C.back (ids ++ idsFrom nid (lh'.length - ids.length)))) lh' = some lh'') (hv' : V.back (ids ++ idsFrom nid (lh'.length - ids.length)) v = some v') (hn : nid + (lh'.length - ids.length) = nid') (hp2 : (match rec with | true => none | false => pan) = pan2)
    (hf : (copyL (unviewIn (ids ++ idsFrom nid (lh'.length - ids.length)) tm) fun tm => copyHp (putBlks (ids ++ idsFrom nid (lh'.length - ids.length)) lh'' hp) fun hp => some (tm, hp)) = some (tm', hp'))
    (h : rdef X l pan2 ⟨tm', hp', nid', df, pn⟩ pan' s') : rdef X ((g, caps) :: l) pan ⟨tm, hp, nid, df, pn⟩ pan' s' := by
  subst hn
  rw [copyL_eq, copyHp_eq] at hf
  simp only [Option.some.injEq, Prod.mk.injEq] at hf
  obtain ⟨rfl, rfl⟩ := hf
  refine rdef.cons (s := ⟨tm, hp, nid, df, pn⟩) hr hi hb hv hk hv' ?_
  rw [hrc]
  cases rec with
  | true => simp only at hp2; subst hp2; simpa using h
  | false => simp only at hp2; subst hp2; simpa using h

theorem avalD_start {fn : Func} {code : Code} {pan : Option D} {args : List C} {lh : List (List C)} {r : CRes} {n : Nat} (hf : X.P.funcs[f]? = some fn) (hb : fn.body = some code) (hl : args.length = fn.params.size + fn.nfree) (hrc : recs code = false)
    (ht : zipIdx' 0 (args.map fun c => V.c c.plain) = tm) (hh : zipIdx' 0 lh = hp) (hn : lh.length = n) (h : awp X f code (atEndD X fn n r) ⟨tm, hp, n, [], none⟩) : avalD X pan f args lh r :=
  avalD_of hf hb hl hrc (by unfold enterSt; rw [ht, hh, hn]; exact h)

theorem avalD_rstart {fn : Func} {code b : Code} {id : Nat} {ops : Array Oper} {o o1 : Oper} {pan : Option D} {args : List C} {lh : List (List C)} {r : CRes} {n : Nat} (hf : X.P.funcs[f]? = some fn) (hb : fn.body = some code) (hl : args.length = fn.params.size + fn.nfree) (hcode : code = .seq (.region id ops false) b) (hrc : recs code = true) (ho : ops.toList = [o, o1])
    (ht : keepK (X.H f id) (zipIdx' 0 (args.map fun c => V.c c.plain)) (fun tm => putK o.dst (recV pan) tm fun tm => putK o1.dst (recV pan) tm fun tm => some tm) = some tm) (hh : zipIdx' 0 lh = hp) (hn : lh.length = n) (h : awp X f b (atEndD X fn n r) ⟨tm, hp, n, [], none⟩) : avalD X pan f args lh r := by
  subst hcode
  refine avalD_rec hf hb hl hrc ho ?_
  rw [keepK_eq] at ht
  rw [show keepT (X.H f id) (zipIdx' 0 (args.map fun c => V.c c.plain)) = ({ enterSt args lh with tmps := keepT (X.H f id) (enterSt args lh).tmps } : St).tmps from rfl, putK_eq, putK_eq, Option.some.injEq] at ht
  have e : putDst o1 (recV pan) (putDst o (recV pan) { enterSt args lh with tmps := keepT (X.H f id) (enterSt args lh).tmps }) = ⟨tm, hp, n, [], none⟩ := by
    rw [putDst, putDst, putSt_rest, ht, putSt_rest]
    simp only [enterSt, hh, hn]
  rw [e, hn]; exact h

theorem eplain {o : Oper} {s s1 : St} {v : V} {ft : Foot} (h : evOp X.P noCall s.nid o s = some (.val v s1, ft)) : EvO X o s v s1 ft :=
  ⟨0, fun _ _ => evOp_noCall h _⟩

theorem erw' {o : Oper} {s s1 : St} {v v' : V} {ft : Foot} (hv : v = v') (h : EvO X o s v s1 ft) : EvO X o s v' s1 ft := hv ▸ h

end
end Go.AM

/- strings.Fields on ASCII bytes, as the abstract machine takes it. -/
namespace Go.AM
open Go
variable [Globs]

/-- A call whose value is a slice of strings made anew, all else as it was. -/
def fieldsCall : Call := fun _ args lh => match args with
  | [.d (.str s)] => if s.all (fun b => decide (b.toNat < 128)) && decide (s.length < 4294967281) then some (.ret (.d (.list 1 ((Lib.fields s).map .str))) lh) else none
  | _ => none

theorem repEs_strs {K : Col} {w : World} : ∀ l : List (List UInt8), RepEs K w 1 (l.map .str) (l.map fun s => Value.string ⟨s.toArray⟩)
  | [] => .nil
  | s :: l => .cons (by simp only [Rep]) (by rfl) (repEs_strs l)

theorem cellsOf_strs : ∀ l : List (List UInt8), cellsOf (l.map fun s => Value.string ⟨s.toArray⟩) = l.map fun s => Value.string ⟨s.toArray⟩
  | [] => rfl
  | s :: l => by simp only [List.map_cons, cellsOf]; rw [cellsOf_strs l]; rfl

theorem fields_ok {P : Program} {ρ : Shelf.Ren} (L : Go.Proofs.Lays.n157 P ρ) (hi9 : (P.info? (ρ.t 9)).map (fun i => (i.zero, i.size, i.bytes)) = some (some (.string ByteArray.empty), 1, 16))
    (htab : (ρ.g 0, (List.range 256).map fun c => Value.int .u8 (if Lib.isSp (UInt8.ofNat c) then 1 else 0)) ∈ Globs.tab) {args : List C} {lh : List (List C)} {r : CRes}
    (h : fieldsCall (ρ.f 157) args lh = some r) : CallOK P (ρ.f 157) args lh r := by
  unfold fieldsCall at h
  split at h
  · rename_i s
    split at h
    · rename_i hs
      simp only [Bool.and_eq_true, List.all_eq_true, decide_eq_true_eq] at hs
      simp only [Option.some.injEq] at h; subst h
      intro K μ w vs hr hi hh hb hgl
      cases hr with
      | cons hc hn =>
        cases hn
        rename_i v
        simp only [RepC, Rep] at hc; subst hc
        refine (Go.Proofs.Any.strings_Fields_core L hi9 ⟨s.toArray⟩ w (by show s.toArray.size < _; simpa using hs.2) (fun j b hj => hs.1 b (List.mem_of_getElem? (by simpa using hj))) ?_).mono ?_
        · intro c hc
          have := (hgl _ htab c (.int .u8 (if Lib.isSp (UInt8.ofNat c) then 1 else 0)) (by simp [hc])).2
          rw [Nat.zero_add] at this
          exact this
        · rintro e w' ⟨rfl, rfl⟩
          have hom := oneMore_alloc w (.cells ((Lib.fields (ByteArray.mk s.toArray).data.toList).map fun l => Value.string ⟨l.toArray⟩).toArray (ρ.t 9))
          have hst := hom.step (K := K) fun _ => .ro
          refine ⟨colNew K w.heap.size fun _ => .ro, μ, hst.none_mine, hom.bound hb _, fun _ _ => rfl, Nat.le_refl _, ?_, by simp [PlainV], by simp [V.ids, C.ids], _, rfl, ?_⟩
          · intro i cells hic
            exact ⟨(hh i cells hic).1, (hh i cells hic).2.step hst (by simp) (by simp) (by simp)⟩
          · simp only [RepV, RepC]
            have := rep_new (K := K) (w := w) (sz := 1) (ds := (Lib.fields s).map .str) (vs := (Lib.fields s).map fun l => Value.string ⟨l.toArray⟩) (rest := []) (e := ρ.t 9) (fun _ => .ro) (fun _ _ => rfl)
              (by rw [cellsOf_strs, List.append_nil]; simpa using hom) (repEs_strs _) (Nat.le_refl _)
            simpa using this
    · simp at h
  · simp at h

end Go.AM

/- The program's types, and how they stand as data. -/
namespace Go.AM
open Go

mutual
inductive Arr where
  | mk (shape : List Int) (cells : List Cell)
inductive Cell where
  | mk (kind : Int) (n : Int) (box : List Arr)
end
instance : Inhabited Arr := ⟨.mk [] []⟩
instance : Inhabited Cell := ⟨.mk 0 0 []⟩
def Arr.shape : Arr → List Int | .mk s _ => s
def Arr.cells : Arr → List Cell | .mk _ c => c
def Cell.kind : Cell → Int | .mk k _ _ => k
def Cell.n : Cell → Int | .mk _ n _ => n
def Cell.box : Cell → List Arr | .mk _ _ b => b

mutual
def encArrR : Arr → D
  | .mk sh cs => .agg [.list 1 (sh.map (D.int .i64)), .list 3 (encCellsR cs)]
def encCellsR : List Cell → List D
  | [] => []
  | c :: cs => encCellR c :: encCellsR cs
def encCellR : Cell → D
  | .mk k n b => .agg [.int .i64 k, .int .i64 n, .list 2 (encArrsR b)]
def encArrsR : List Arr → List D
  | [] => []
  | a :: l => encArrR a :: encArrsR l
end
def encCell (c : Cell) : D := .agg [.int .i64 c.kind, .int .i64 c.n, .list 2 (c.box.map encArrR)]
def encArr (a : Arr) : D := .agg [.list 1 (a.shape.map (D.int .i64)), .list 3 (a.cells.map encCell)]
theorem encArrsR_map : ∀ l : List Arr, encArrsR l = l.map encArrR
  | [] => rfl
  | a :: l => by simp only [encArrsR, encArrsR_map l, List.map_cons]
theorem encCellR_eq : ∀ c : Cell, encCellR c = encCell c
  | .mk k n b => by simp only [encCellR, encCell, encArrsR_map, Cell.kind, Cell.n, Cell.box]
theorem encCellsR_map : ∀ l : List Cell, encCellsR l = l.map encCell
  | [] => rfl
  | c :: l => by simp only [encCellsR, encCellsR_map l, encCellR_eq, List.map_cons]
theorem encArrR_eq : ∀ a : Arr, encArrR a = encArr a
  | .mk sh cs => by simp only [encArrR, encArr, encCellsR_map, Arr.shape, Arr.cells]

structure Token where
  kind : Int
  text : Str
  lit : Arr
  at_ : Int
  deriving Inhabited
def encToken (t : Token) : D := .agg [.int .i64 t.kind, .str t.text, .list 1 (t.lit.shape.map (D.int .i64)), .list 3 (t.lit.cells.map encCell), .int .i64 t.at_]
structure Fault where
  err : Int
  at_ : Int
  why : Int
  deriving Inhabited
def encFault (f : Fault) : D := .agg [.int .i64 f.err, .int .i64 f.at_, .int .i64 f.why]
inductive Node where
  | mk (kind op : Int) (name : Str) (lit : Arr) (kids : List Node) (at_ : Int)
instance : Inhabited Node := ⟨.mk 0 0 [] (.mk [] []) [] 0⟩
def Node.kind : Node → Int | .mk k _ _ _ _ _ => k
def Node.op_ : Node → Int | .mk _ o _ _ _ _ => o
def Node.name : Node → Str | .mk _ _ n _ _ _ => n
def Node.lit : Node → Arr | .mk _ _ _ l _ _ => l
def Node.kids : Node → List Node | .mk _ _ _ _ k _ => k
def Node.at_ : Node → Int | .mk _ _ _ _ _ a => a
mutual
def encNodeR : Node → D
  | .mk k o n l ks a => .agg [.int .i64 k, .int .i64 o, .str n, .list 1 (l.shape.map (D.int .i64)), .list 3 (l.cells.map encCell), .list 7 (encNodesR ks), .int .i64 a]
def encNodesR : List Node → List D
  | [] => []
  | n :: l => encNodeR n :: encNodesR l
end
def encNode (n : Node) : D := .agg [.int .i64 n.kind, .int .i64 n.op_, .str n.name, .list 1 (n.lit.shape.map (D.int .i64)), .list 3 (n.lit.cells.map encCell), .list 7 (n.kids.map encNodeR), .int .i64 n.at_]
theorem encNodesR_map : ∀ l : List Node, encNodesR l = l.map encNodeR
  | [] => rfl
  | n :: l => by simp only [encNodesR, encNodesR_map l, List.map_cons]
theorem encNodeR_eq : ∀ n : Node, encNodeR n = encNode n
  | .mk k o n l ks a => by simp only [encNodeR, encNode, encNodesR_map, Node.kind, Node.op_, Node.name, Node.lit, Node.kids, Node.at_]
structure Prgm where
  set_ : Str
  origin : Int
  expr : Node
  deriving Inhabited
def encPrgm (p : Prgm) : D := .agg [.str p.set_, .int .i64 p.origin, .int .i64 p.expr.kind, .int .i64 p.expr.op_, .str p.expr.name, .list 1 (p.expr.lit.shape.map (D.int .i64)), .list 3 (p.expr.lit.cells.map encCell), .list 7 (p.expr.kids.map encNodeR), .int .i64 p.expr.at_]
structure Grammar where
  verbs : List Str
  adverbs : List Str
  behind : List Str
  outer : Str
  power : Str
  open_ : Str
  close : Str
  left : Str
  right : Str
  minus : Str
  quote : Str
  trains : Bool
  lone : Bool
  square : Bool
  deriving Inhabited
def encGrammar (g : Grammar) : D := .agg [.list 1 (g.verbs.map D.str), .list 1 (g.adverbs.map D.str), .list 1 (g.behind.map D.str), .str g.outer, .str g.power, .str g.open_, .str g.close, .str g.left, .str g.right, .str g.minus, .str g.quote, .bool g.trains, .bool g.lone, .bool g.square]
def encL {α : Type} (sz : Nat) (g : α → D) (l : List α) : D := .list sz (l.map g)

/-- strings.Fields, on ASCII bytes. -/
def goFields (s : Str) : Option (List Str) := if (s.all (fun b => decide (b.toNat < 128)) && decide (s.length < 4294967281)) = true then some (Lib.fields s) else none

theorem goFields_inv {s : Str} {r : List Str} (h : goFields s = some r) : (s.all (fun b => decide (b.toNat < 128)) && decide (s.length < 4294967281)) = true ∧ r = Lib.fields s := by
  unfold goFields at h
  split at h
  · rename_i hc
    simp only [Option.some.injEq] at h
    exact ⟨hc, h.symm⟩
  · cases h
end Go.AM

/- Calls of Go's strings that the shelf knows, as the abstract machine takes them. -/
namespace Go.AM
open Go
variable [Globs]

def strsOf : List D → Option (List (List UInt8))
  | [] => some []
  | .str s :: r => (strsOf r).map (s :: ·)
  | _ :: _ => none

theorem strsOf_eq : ∀ {ds : List D} {l : List (List UInt8)}, strsOf ds = some l → ds = l.map .str
  | [], l, h => by simp only [strsOf, Option.some.injEq] at h; subst h; rfl
  | d :: ds, l, h => by
    cases d <;> simp only [strsOf, Option.map_eq_some_iff, reduceCtorEq] at h
    obtain ⟨r, hr, rfl⟩ := h
    rw [strsOf_eq hr]; rfl

theorem strsOf_map : ∀ l : List (List UInt8), strsOf (l.map .str) = some l
  | [] => rfl
  | s :: l => by simp only [List.map_cons, strsOf, strsOf_map l]; rfl

def joinS (l : List (List UInt8)) (s : List UInt8) : Option (List UInt8) :=
  if l.length ≤ 140737488355328 ∧ (Lib.join l s).length ≤ 140737488355328 then some (Lib.join l s) else none
def joinCall : Call := fun _ args lh => match args with
  | [.d (.list 1 ds), .d (.str s)] => (strsOf ds).bind fun l => (joinS l s).map fun r => .ret (.d (.str r)) lh
  | _ => none

def indexByteS (s : List UInt8) (c : Int) : Int := Lib.indexByte s c.toNat.toUInt8
def indexByteCall : Call := fun _ args lh => match args with
  | [.d (.str s), .d (.int .u8 c)] => some (.ret (.d (.int .i64 (indexByteS s c))) lh)
  | _ => none

def containsAnyS (s t : List UInt8) : Option Bool :=
  if s.length < 4294967281 ∧ t.length < 4294967281 ∧ (s.all fun b => decide (b.toNat < 128)) = true ∧ (t.all fun b => decide (b.toNat < 128)) = true then some (Lib.containsAny s t) else none
def containsAnyCall : Call := fun _ args lh => match args with
  | [.d (.str s), .d (.str t)] => (containsAnyS s t).map fun r => .ret (.d (.bool r)) lh
  | _ => none

theorem step_below {K : Col} {w w' : World} (h : Go.RowKit.Below w.heap.size w w') : Step mine K w K w' :=
  ⟨h.os, h.tape, h.output, h.size, fun b hb _ => h.block b hb, fun b off hb _ =>
    ⟨by simp [World.cell?, h.block b hb], by simp [World.frozen?, h.block b hb], rfl⟩⟩

/-- A call that hands back a plain value and makes at most new blocks. -/
theorem callOK_below {P : Program} {f : Nat} {args : List C} {lh : List (List C)} {d : D}
    (h : ∀ K μ w vs, RepCs K μ w args vs → BoundK K w → Glob K w → Calls P f vs.toArray w fun e w' => (∃ u, e = .returned u ∧ Rep K w' d u) ∧ Go.RowKit.Below w.heap.size w w') :
    CallOK P f args lh (.ret (.d d) lh) := by
  intro K μ w vs hr hi hh hb hgl
  refine (h K μ w vs hr hb hgl).mono ?_
  rintro e w' ⟨⟨u, rfl, hu⟩, hbw⟩
  have hst := step_below (K := K) hbw
  refine ⟨K, μ, hst, fun blk off hl => hb _ _ (Nat.le_trans hbw.size hl), fun _ _ => rfl, Nat.le_refl _, ?_, by simp [PlainV], by simp [V.ids, C.ids], _, rfl, hu⟩
  intro i cells hic
  refine ⟨(hh i cells hic).1, (hh i cells hic).2.step (W := fun _ => False) ⟨hst.os, hst.tape, hst.output, hst.size, fun b hb _ => hbw.block b hb, fun b off hb _ => ⟨by simp [World.cell?, hbw.block b hb], by simp [World.frozen?, hbw.block b hb], rfl⟩⟩ (by simp) (by simp) (by simp)⟩

theorem repE_strs {K : Col} {w : World} : ∀ {l : List (List UInt8)} {blk off : Nat}, RepE K w 1 blk off (l.map .str) → ∀ (j : Nat) s, l[j]? = some s → w.cell? ⟨blk, off + j, none⟩ = some (.string ⟨s.toArray⟩)
  | s :: l, blk, off, h, j, t, ht => by
    simp only [List.map_cons, RepE] at h
    obtain ⟨⟨v, hv, hz, hc⟩, hr⟩ := h
    cases j with
    | zero =>
      simp only [List.getElem?_cons_zero, Option.some.injEq] at ht; subst ht
      simp only [Rep] at hv; subst hv
      exact (hc 0 _ rfl).2
    | succ j =>
      have := repE_strs hr j t (by simpa using ht)
      rw [show off + (j + 1) = off + 1 + j from by omega]
      exact this

theorem join_ok {P : Program} {ρ : Shelf.Ren} (L : Go.Proofs.Lays.n156 P ρ) (X : Go.Proofs.Builder.Extra P ρ) {args : List C} {lh : List (List C)} {r : CRes}
    (h : joinCall (ρ.f 156) args lh = some r) : CallOK P (ρ.f 156) args lh r := by
  unfold joinCall at h
  split at h
  · rename_i ds s
    simp only [Option.bind_eq_some_iff, Option.map_eq_some_iff, joinS] at h
    obtain ⟨l, hl, q, hq, rfl⟩ := h
    have hds := strsOf_eq hl; subst hds
    split at hq
    · rename_i hb
      simp only [Option.some.injEq] at hq; subst hq
      refine callOK_below fun K μ w vs hr hbd hgl => ?_
      cases hr with
      | cons hc hn =>
        cases hn with
        | cons hs hn =>
          cases hn
          rename_i v u
          simp only [RepC, Rep] at hc hs; subst hs
          rcases hc with ⟨he, rfl⟩ | ⟨blk, off, cap, rfl, hcap, he⟩
          · have : l = [] := by simpa using he
            subst this
            refine (Go.Proofs.Any.strings_Join_none L X none 0 ⟨s.toArray⟩ w).mono ?_
            rintro e w' ⟨rfl, rfl⟩
            exact ⟨⟨_, rfl, by simp [Rep, Lib.join_nil]⟩, Go.RowKit.Below.refl _ _⟩
          · cases l with
            | nil =>
              refine (Go.Proofs.Any.strings_Join_none L X (some (ad blk off)) cap ⟨s.toArray⟩ w).mono ?_
              rintro e w' ⟨rfl, rfl⟩
              exact ⟨⟨_, rfl, by simp [Rep, Lib.join_nil]⟩, Go.RowKit.Below.refl _ _⟩
            | cons x l =>
              have hcell := repE_strs he
              have hlt : blk < w.heap.size := block_lt (off := off + 0) (hcell 0 x rfl)
              have hm : (((x :: l).map fun s => ByteArray.mk s.toArray).map fun b => b.data.toList) = x :: l := by simp [List.map_map, Function.comp_def]
              have := Go.Proofs.Any.strings_Join L X blk off cap ((x :: l).map fun s => ByteArray.mk s.toArray) ⟨s.toArray⟩ w (fun j y hy => by
                simp only [List.getElem?_map, Option.map_eq_some_iff] at hy
                obtain ⟨t, ht, rfl⟩ := hy
                exact hcell j t ht) hlt (by simpa using hb.1) (by simpa using hcap) (by rw [hm]; simpa using hb.2)
              rw [hm] at this
              simp only [List.length_map] at this ⊢
              refine this.mono ?_
              rintro e w' ⟨rfl, hw⟩
              exact ⟨⟨_, rfl, by simp [Rep]⟩, hw⟩
    · simp at hq
  · simp at h

theorem indexByte_ok {P : Program} {ρ : Shelf.Ren} (L : Go.Proofs.Lays.n137 P ρ) {args : List C} {lh : List (List C)} {r : CRes}
    (h : indexByteCall (ρ.f 137) args lh = some r) : CallOK P (ρ.f 137) args lh r := by
  unfold indexByteCall at h
  split at h
  · rename_i s c
    simp only [Option.some.injEq] at h; subst h
    refine callOK_below fun K μ w vs hr hbd hgl => ?_
    cases hr with
    | cons hc hn =>
      cases hn with
      | cons hs hn =>
        cases hn
        simp only [RepC, Rep] at hc hs; subst hc; subst hs
        refine (Go.Proofs.Any.strings_IndexByte L ⟨s.toArray⟩ c w).mono ?_
        rintro e w' ⟨rfl, rfl⟩
        exact ⟨⟨_, rfl, by simp [Rep, indexByteS]⟩, Go.RowKit.Below.refl _ _⟩
  · simp at h

theorem containsAny_ok {P : Program} {ρ : Shelf.Ren} (L : Go.Proofs.Lays.n150 P ρ) (h116 : (P.info? (ρ.t 116)).map (fun i => (i.zero, i.size)) = some (some (.agg (Array.replicate 256 (.bool false))), 256))
    {args : List C} {lh : List (List C)} {r : CRes} (h : containsAnyCall (ρ.f 150) args lh = some r) : CallOK P (ρ.f 150) args lh r := by
  unfold containsAnyCall at h
  split at h
  · rename_i s t
    simp only [Option.map_eq_some_iff, containsAnyS] at h
    obtain ⟨q, hq, rfl⟩ := h
    split at hq
    · rename_i hb
      simp only [Option.some.injEq] at hq; subst hq
      simp only [List.all_eq_true, decide_eq_true_eq] at hb
      refine callOK_below fun K μ w vs hr hbd hgl => ?_
      cases hr with
      | cons hc hn =>
        cases hn with
        | cons hs hn =>
          cases hn
          simp only [RepC, Rep] at hc hs; subst hc; subst hs
          refine (Go.Proofs.Any.strings_ContainsAny_laid L h116 ⟨s.toArray⟩ ⟨t.toArray⟩ w (by show s.toArray.size < _; simpa using hb.1) (by show t.toArray.size < _; simpa using hb.2.1)
            (fun j b hj => hb.2.2.1 b (List.mem_of_getElem? (by simpa using hj))) (fun j b hj => hb.2.2.2 b (List.mem_of_getElem? (by simpa using hj)))).mono ?_
          rintro e w' ⟨rfl, hw⟩
          exact ⟨⟨_, rfl, by simp [Rep]⟩, hw⟩
    · simp at hq
  · simp at h

end Go.AM

namespace Go.AM.Seat
open Go Go.AM Go.Proofs
set_option maxRecDepth 100000

def h3 : Nat → List Nat | 0 => [0] | 1 => [0] | 2 => [0, 3, 4] | 3 => [3, 4, 5] | 4 => [3, 4, 5, 6] | 6 => [3, 4, 5] | 7 => [3, 4, 5, 7] | 8 => [3, 4, 5, 7, 8] | 9 => [3, 4, 5, 7, 8] | 10 => [3, 4, 5, 7, 8] | 11 => [3, 4, 7] | 12 => [3, 4, 7, 9] | 13 => [3, 4, 7, 9] | 14 => [3, 4, 7, 9] | 15 => [3, 4, 7] | 16 => [3, 4, 7, 10] | 17 => [3, 4, 7, 10] | 18 => [3, 4, 7, 10] | 19 => [3, 4, 7] | 1000000 => [0, 3, 4, 7] | 1000001 => [0, 3, 4, 5, 7, 8] | 1000002 => [0, 3, 4, 7] | 1000003 => [0, 3, 4, 7, 9] | 1000004 => [0, 3, 4, 7] | 1000005 => [0, 3, 4, 7, 10] | _ => []
def h4 : Nat → List Nat | 1 => [0] | _ => []
def h5 : Nat → List Nat | 1 => [0] | _ => []
def H : Nat → Nat → List Nat
  | 3 => h3
  | 4 => h4
  | 5 => h5
  | _ => fun _ => []
def g4 : Nat → List Nat | 1 => [0] | _ => []
def g6 : Nat → List Nat | 2 => [1, 2] | 3 => [1, 2, 3, 4] | 4 => [1, 2, 3, 4, 6] | _ => []
def g8 : Nat → List Nat | 0 => [0] | 1 => [0, 2, 3] | 2 => [0, 2, 3, 4, 5] | 3 => [2, 3, 5] | 4 => [0, 2, 3, 4, 5] | 5 => [0, 2, 3, 4, 5, 6] | 6 => [0, 2, 3, 4, 5, 6] | 7 => [0, 2, 3, 4, 5, 6] | 8 => [2, 3, 5, 6] | 9 => [2, 3, 5] | 10 => [2, 3, 6] | 2000006 => [0, 0, 2, 3, 4, 5, 6] | _ => []
def g9 : Nat → List Nat | 0 => [0] | 1 => [1] | 3 => [1] | 4 => [1, 4, 5] | 5 => [5] | 6 => [1, 4] | 7 => [1, 4] | 8 => [1, 4] | 9 => [1, 4, 6, 7] | 11 => [4] | 2000007 => [0, 1, 4] | _ => []
def g12 : Nat → List Nat | 0 => [0] | 1 => [0, 3] | 2 => [3] | 3 => [0, 3] | 4 => [0, 3, 4] | 5 => [0, 3, 4, 5] | 6 => [0, 3, 4, 5] | 7 => [0, 3, 4, 5] | 8 => [0, 3, 4, 5] | 9 => [0, 3, 4, 5] | 10 => [3, 5] | 11 => [0, 3, 4, 5] | 12 => [0, 3, 4, 5, 6, 7, 8] | 13 => [3, 5, 8] | 14 => [3, 8] | 15 => [0, 3, 4, 5, 6, 7] | 16 => [0, 3, 4, 5, 6, 7] | 17 => [3, 4] | 1000000 => [0, 3, 4] | _ => []
def g13 : Nat → List Nat | 0 => [0] | 1 => [0] | 2 => [0, 6, 7] | 3 => [0, 6, 7] | 4 => [0, 3, 6, 7] | 5 => [0, 3, 4, 6, 7] | 7 => [0, 6, 7] | 8 => [0] | 1000000 => [0, 0] | 1000001 => [0, 0, 6, 7] | _ => []
def g14 : Nat → List Nat | 0 => [0, 1, 2] | 1 => [1, 2, 3, 6, 7] | 2 => [1, 2, 3, 6, 7] | 3 => [1, 6, 7, 8] | 4 => [1, 6, 7, 8] | 5 => [6, 7, 8] | 6 => [6, 7] | 2000005 => [0, 6, 7] | _ => []
def g15 : Nat → List Nat | 0 => [0, 1] | 1 => [2, 3] | 2 => [3, 6] | 3 => [6] | 5 => [6] | _ => []
def g16 : Nat → List Nat | 0 => [0, 1] | 1 => [2, 3] | 3 => [2, 3] | 4 => [2, 3, 44, 45] | 5 => [2, 3, 44, 45] | 6 => [2, 3, 5, 44, 45] | 8 => [2, 3, 44, 45] | 1000000 => [0] | _ => []
def g18 : Nat → List Nat | 0 => [0, 1] | 1 => [0, 1] | _ => []
def g19 : Nat → List Nat | 0 => [0] | 1 => [0, 2, 4] | 2 => [0, 2, 4, 5] | 3 => [0, 2, 4, 5, 7] | 4 => [2, 4] | 5 => [0, 2, 4, 5] | 6 => [0, 2, 4] | 7 => [2, 4, 8, 9, 10] | 8 => [2, 4, 10] | 9 => [2, 4, 8, 9] | 10 => [0, 2, 4, 5] | 11 => [0, 2, 4] | 12 => [2, 4, 11, 12, 13] | 13 => [0, 2, 4, 5] | 14 => [0, 2, 4, 5] | 15 => [2, 4, 5, 14, 15] | 16 => [2, 4, 5, 14] | 17 => [2, 4, 14] | 18 => [0, 2, 4, 5] | 19 => [0, 2, 4, 5, 79, 80, 81] | 20 => [0, 2, 4, 5, 79, 80, 81] | 21 => [0, 2, 4, 5, 17, 79, 80, 81] | 22 => [0, 2, 4, 5, 17] | 23 => [2, 4, 5, 17] | 24 => [2, 4, 17] | 25 => [0, 2, 4, 5, 79, 80, 81] | 26 => [2, 4, 5] | 1000001 => [0, 2, 4, 5] | _ => []
def g20 : Nat → List Nat | 0 => [0, 1] | 1 => [0, 1, 2] | 2 => [0, 1, 2] | 3 => [0, 1, 2, 3, 4] | 4 => [0, 1, 2, 3] | 5 => [0, 1, 3] | _ => []
def g21 : Nat → List Nat | 0 => [0] | 1 => [1, 2] | 2 => [1, 2] | 3 => [1, 2] | 4 => [1, 2, 3] | 5 => [1, 2, 3] | 6 => [1, 2, 3, 4] | 7 => [1, 2, 3] | 8 => [1, 2, 3, 5] | 9 => [2, 5] | 10 => [1, 2, 3, 5] | 11 => [1, 2, 3, 5] | 12 => [1, 2, 3, 5] | 13 => [1, 2, 3, 5, 6] | 14 => [1, 2, 3, 5, 6, 7] | 15 => [1, 2, 3, 5, 6, 7] | 16 => [1, 2, 3, 6, 7, 8, 9] | 17 => [1, 2, 3, 6, 7, 8] | 18 => [1, 2, 3, 7, 8] | 19 => [1, 2, 3, 7] | 20 => [1, 2, 3, 5, 7] | 1000000 => [0, 1, 2, 3, 5] | 2000017 => [0, 1, 2, 3, 7, 8] | _ => []
def g22 : Nat → List Nat | 0 => [0, 1, 2] | 1 => [0, 1, 2, 6] | 2 => [0, 1, 2] | 3 => [1, 6] | 2000002 => [0, 1, 6] | _ => []
def g23 : Nat → List Nat | 0 => [0, 1] | 1 => [0, 3] | 2 => [0, 3] | 3 => [0, 3, 5] | 4 => [0, 3] | 5 => [0, 3] | 6 => [0, 3] | 7 => [0, 3, 5] | 8 => [0, 3] | 9 => [0, 3] | 10 => [0, 3] | 11 => [0, 3] | _ => []
def g25 : Nat → List Nat | 0 => [0, 1] | 1 => [2, 3] | _ => []
def g28 : Nat → List Nat | 0 => [0, 1] | 1 => [0, 1] | _ => []
def g29 : Nat → List Nat | 0 => [0] | 1 => [0] | 3 => [0] | 4 => [0, 4, 5] | 6 => [0, 4, 5] | 7 => [4, 5, 28, 29, 30] | 8 => [4, 5, 28, 29, 30] | 9 => [4, 5, 7, 28, 29, 30] | 11 => [4, 5, 7, 28, 29, 30] | 12 => [4, 5, 28, 29, 30] | 13 => [4, 5] | 15 => [4, 5] | 1000000 => [0, 4, 5] | _ => []
def g30 : Nat → List Nat | 0 => [0] | 1 => [0] | _ => []
def g31 : Nat → List Nat | 0 => [0] | 1 => [0, 2] | 2 => [0, 2, 5] | 3 => [0, 2, 5, 6] | 4 => [0, 2, 5, 6, 7, 8, 9] | 5 => [2, 6] | 6 => [0, 2, 5, 6, 7, 8] | 7 => [0, 2, 5, 6] | 8 => [0, 2, 5, 6, 10] | 9 => [0, 2, 5, 6, 10] | 10 => [0, 2, 5, 6, 10] | 11 => [0, 2, 5, 10] | 12 => [2, 5, 6] | 13 => [2, 5, 6] | 14 => [2, 5, 6] | 1000000 => [0, 2, 5, 6] | 1000002 => [0, 0, 2, 5, 6, 10] | _ => []
def g32 : Nat → List Nat | 0 => [0] | 1 => [0, 2, 4] | 2 => [0, 2, 4, 5] | 3 => [0, 2, 4, 5, 6] | 4 => [0, 2, 4, 5, 6] | 5 => [0, 2, 4, 5, 6, 7, 8] | 6 => [2, 4, 6] | 7 => [0, 2, 4, 5, 6, 7, 8] | 8 => [2, 4, 5, 6] | 9 => [0, 2, 4, 5, 6, 7, 8] | 10 => [0, 2, 4, 5, 6, 7] | 11 => [0, 2, 4, 5, 6, 7, 8] | 12 => [2, 4, 6] | 13 => [0, 2, 4, 5, 6, 7, 8] | 14 => [2, 4] | 1000000 => [0, 2, 4] | 1000002 => [0, 0, 2, 4, 5, 6, 7, 8] | _ => []
def g33 : Nat → List Nat | 0 => [0] | 1 => [0] | _ => []
def g34 : Nat → List Nat | 0 => [0] | 1 => [0, 2] | 2 => [0, 2, 4] | 3 => [0, 2, 4] | 4 => [0, 2, 4] | 5 => [0, 2, 4, 5] | 6 => [0, 2, 4, 5, 6] | 7 => [0, 2, 4, 5] | 8 => [2, 5] | 9 => [0, 2, 4, 5] | 10 => [2, 5] | 11 => [0, 2, 4, 5] | 12 => [0, 2, 4, 5, 56, 57] | 13 => [0, 2, 4, 5, 56, 57] | 14 => [0, 2, 4, 5, 7, 56, 57] | 15 => [2, 5] | 16 => [0, 2, 4, 5, 56, 57] | 17 => [2, 4, 5] | 1000000 => [0, 0, 2, 4] | 1000002 => [0, 2, 4, 5] | _ => []
def g35 : Nat → List Nat | 2 => [1] | 3 => [1, 5, 6, 7] | 4 => [1, 5, 6, 7] | 5 => [1, 3, 5, 6, 7] | 6 => [1, 3, 4, 5, 6, 7] | 7 => [1, 3, 4, 5, 6, 7, 11] | 8 => [1, 3, 5, 6, 7] | 9 => [1, 3, 4, 5, 6, 7, 11] | 10 => [1, 3, 4, 5, 6, 7, 11] | 11 => [1, 3, 5, 6, 7] | 12 => [1, 3, 4, 5, 6, 7, 11] | 13 => [1, 3, 4, 5, 6, 7, 11] | 14 => [1, 3, 5, 6, 7] | 15 => [1, 3, 4, 5, 6, 7] | 16 => [1, 5, 6, 7] | 17 => [1] | 1000000 => [0, 1] | 1000002 => [0, 1, 3, 4, 5, 6, 7] | 2000010 => [0, 1, 3, 4, 5, 6, 7, 11, 14] | 2000013 => [0, 1, 3, 4, 5, 6, 7, 17] | _ => []
def g36 : Nat → List Nat | 0 => [0] | 1 => [0] | _ => []
def g37 : Nat → List Nat | 0 => [0, 1] | 1 => [0, 1] | 2 => [0, 1] | _ => []
def g38 : Nat → List Nat | 0 => [0] | 1 => [0] | 2 => [0] | _ => []
def g39 : Nat → List Nat | 0 => [0] | _ => []
def g40 : Nat → List Nat | 0 => [0] | 1 => [0] | 2 => [0] | 3 => [0] | _ => []
def g41 : Nat → List Nat | 0 => [0, 1, 2] | 1 => [0, 1, 2] | 2 => [0, 1] | 3 => [0, 1] | 5 => [0, 1, 2] | 6 => [0, 1] | 7 => [0, 1, 2] | 8 => [0, 1] | 9 => [0, 1] | 11 => [0, 1] | 12 => [0, 1, 2] | 13 => [0, 1, 2] | 14 => [0, 1] | 16 => [0, 1] | 17 => [0, 1] | 18 => [0, 1] | 19 => [0, 1, 8] | 20 => [0, 1] | 21 => [1] | 1000000 => [0, 0, 1] | 1000001 => [0, 6] | 2000002 => [0, 0, 1, 2] | _ => []
def g42 : Nat → List Nat | 0 => [0, 1] | 1 => [1, 2, 4] | 2 => [1, 2, 4] | 3 => [1, 2, 4] | 4 => [1, 2, 4, 5] | 5 => [1, 2, 4, 5, 6] | 6 => [2, 4, 5, 6] | 7 => [2, 4, 5, 6] | 8 => [1, 2, 4, 5, 6] | 9 => [2, 4, 5, 6, 7] | 10 => [2, 4, 5, 7] | 11 => [2, 4, 5, 7, 6015003, 6015004] | 12 => [2, 4, 5, 7] | 13 => [2, 4, 5, 7] | 14 => [2, 4, 5, 7] | 15 => [2, 4, 5, 7, 8, 9] | 16 => [2, 4, 5, 7, 8] | 17 => [2, 4, 5, 7] | 18 => [4, 7] | 1000000 => [0, 4] | 2000006 => [0, 1, 2, 4, 5, 6] | 2000010 => [0, 2, 4, 5, 7, 6015003, 6015004] | _ => []
def g43 : Nat → List Nat | 0 => [0] | 1 => [0, 2] | 2 => [0, 2] | 3 => [0, 2] | 4 => [0, 2, 3] | 5 => [0, 2, 3, 4] | 6 => [0, 2, 3, 4] | 7 => [0, 2, 3, 4] | 8 => [0, 2, 3, 4] | 9 => [0, 2, 3, 4] | 10 => [0, 2, 3, 4] | 11 => [0, 2, 3, 4] | 12 => [0, 2, 3, 4] | 13 => [0, 2, 3, 4] | 14 => [0, 2, 3, 4] | 15 => [0, 2, 3, 4] | 16 => [0, 2, 3, 4] | 17 => [0, 2, 3, 4] | 18 => [0, 2, 3, 4] | 19 => [0, 2, 3, 4] | 20 => [0, 2, 3, 4] | 21 => [0, 2, 3, 4] | 22 => [0, 2, 3, 4, 6024003, 6024004] | 23 => [0, 2, 3, 4] | 24 => [0, 2, 3, 4] | 25 => [0, 2, 3, 4, 5] | 26 => [0, 2, 3, 4, 5] | 27 => [2, 4] | 1000000 => [0, 0, 2, 3, 4, 6024003, 6024004, 6024005] | 1000001 => [0, 2, 4] | 2000002 => [0, 0, 2] | _ => []
def g44 : Nat → List Nat | 0 => [0] | 1 => [1] | 3 => [1] | _ => []
def g45 : Nat → List Nat | 0 => [0, 1, 2] | 1 => [0, 2, 4] | 2 => [0, 2, 4] | 3 => [0] | _ => []
def g46 : Nat → List Nat | 0 => [0, 1] | 1 => [0, 3] | 2 => [0, 3] | 3 => [0, 3] | 4 => [0, 3] | 5 => [0] | 6 => [0, 3] | 2000003 => [0] | _ => []
def g47 : Nat → List Nat | 0 => [0, 1] | 1 => [0, 3] | 2 => [0] | 3 => [0, 3, 7] | 4 => [0, 3] | 5 => [0, 3, 4, 5] | 6 => [0, 3, 4] | 7 => [0, 4] | 8 => [0, 3, 7] | 9 => [0, 3] | 10 => [0, 3] | 11 => [0, 3, 7] | 12 => [0, 3] | 13 => [0] | 14 => [0, 3, 7] | 15 => [0, 3] | 16 => [0] | 17 => [0, 3, 7] | 18 => [0, 3] | 19 => [0, 3] | 20 => [0, 3] | 21 => [0, 3] | 22 => [0] | 23 => [0, 3, 7] | 24 => [0, 3, 7] | 25 => [0, 3] | 26 => [0, 3] | 27 => [0] | 2000024 => [0, 0, 3, 99] | _ => []
def g48 : Nat → List Nat | 0 => [0, 1] | 1 => [0, 3] | 2 => [0, 3] | 3 => [0, 3] | 4 => [0] | 5 => [0, 3] | _ => []
def g52 : Nat → List Nat | 0 => [0, 1] | 1 => [2, 3] | 2 => [2, 3, 5] | 3 => [2, 3, 5, 6] | 4 => [6] | 5 => [2, 3, 5] | 6 => [2, 3, 5, 7] | 7 => [7] | 8 => [2, 3, 5] | 9 => [2, 3, 8] | 10 => [8] | 11 => [2, 3] | _ => []
def g53 : Nat → List Nat | 0 => [0] | 1 => [0] | 2 => [0] | 3 => [0] | 4 => [0] | 5 => [0] | 6 => [0] | 8 => [0] | 9 => [0] | 10 => [0] | _ => []
def g54 : Nat → List Nat | 0 => [0] | 1 => [0] | _ => []
def g55 : Nat → List Nat | 0 => [0, 1] | 1 => [0, 1] | 2 => [0, 1] | 3 => [0, 1] | 4 => [0, 1] | 5 => [0, 1] | 6 => [0, 1] | 7 => [0, 1] | 999999 => [1] | _ => []
def g56 : Nat → List Nat | 0 => [0] | 1 => [0] | 2 => [0, 5] | 3 => [0] | 4 => [0, 5] | 5 => [0, 5, 6, 7] | 6 => [0, 5, 6, 7] | 7 => [0, 5, 6, 7] | 8 => [0, 5, 6, 7, 8] | 9 => [0, 5, 6, 7, 8] | 10 => [0, 5, 6, 7] | 11 => [5, 6, 7] | 12 => [5, 6, 7] | 1000000 => [0, 0, 5, 6, 7] | 1000001 => [0, 0, 5, 6, 7] | 2000003 => [0, 0, 5] | _ => []
def g57 : Nat → List Nat | 0 => [0] | 1 => [0, 2] | _ => []
def g58 : Nat → List Nat | 0 => [0] | 1 => [0, 2] | 2 => [0, 2, 3] | 3 => [2, 3, 10, 11, 12] | 4 => [2, 3, 10, 11, 12] | 5 => [2, 3, 5, 10, 11, 12] | 6 => [2, 3, 10, 11, 12] | 7 => [2, 3] | 1000000 => [0, 2, 3] | _ => []
def g59 : Nat → List Nat | 0 => [0] | 1 => [0, 2] | 2 => [0, 2, 3] | 3 => [0, 2, 3] | 4 => [0, 2, 3] | 5 => [2, 3, 14, 15, 16] | 6 => [2, 3, 14, 15, 16] | 7 => [2, 3, 5, 14, 15, 16] | 8 => [2, 3, 14, 15, 16] | 9 => [2, 3] | 1000000 => [0, 2, 3] | 2000003 => [0, 0, 2, 3, 6001000] | _ => []
def g60 : Nat → List Nat | 0 => [0, 1, 2, 3] | 1 => [0, 1, 2, 3] | _ => []
def g61 : Nat → List Nat | 0 => [0, 1, 2] | 1 => [0, 1, 2] | _ => []
def g62 : Nat → List Nat | 0 => [0, 1] | 1 => [0, 1] | 2 => [0, 1, 5] | 3 => [0, 5, 6] | 4 => [0, 5, 6] | 5 => [0, 5, 6] | 6 => [0, 5, 6, 24] | 7 => [0, 5, 6] | 8 => [0, 5, 6, 24] | 9 => [0, 5, 6] | 10 => [0, 5, 6] | 11 => [6] | 1000000 => [0] | 1000001 => [0, 0, 5, 6] | _ => []
def g63 : Nat → List Nat | 0 => [0, 1, 2] | 1 => [0, 1, 2] | 2 => [0, 1, 2, 7] | 3 => [0, 1, 2, 7] | 4 => [0, 1, 2, 7] | 5 => [0, 1, 2, 7] | 7 => [0, 1, 2, 7] | 8 => [0, 1, 7] | 9 => [1] | 1000000 => [0, 0, 1, 7] | _ => []
def g64 : Nat → List Nat | 0 => [0, 1] | 1 => [0, 1] | 3 => [0, 1] | _ => []
def g65 : Nat → List Nat | 0 => [0] | _ => []
def g66 : Nat → List Nat | 0 => [0, 1] | 1 => [0, 1, 4] | 2 => [0, 1, 4, 5] | 3 => [0, 4] | 4 => [0, 1, 4, 5] | 5 => [0, 1, 4, 5] | 6 => [0, 1, 4, 5] | 7 => [0, 1, 4, 5, 6] | 8 => [0, 1, 4, 5, 6] | 9 => [0, 4, 5, 6] | 10 => [4, 5, 6] | 11 => [4, 5, 6, 59] | 12 => [4, 6] | 13 => [4, 5, 6, 59] | 14 => [4, 5, 6] | 15 => [4, 5, 6] | 16 => [0, 4, 5] | 17 => [0, 4, 7] | 18 => [4, 7] | 1000001 => [0, 0, 4, 5, 6] | _ => []
def g67 : Nat → List Nat | 0 => [0, 1, 2] | 1 => [0] | 2 => [0] | 2000001 => [0, 0] | _ => []
def g68 : Nat → List Nat | 0 => [0, 1] | 1 => [0, 6, 7, 8] | 2 => [0, 6, 7, 8] | 3 => [0, 5, 6, 7, 8] | 4 => [0, 5, 6, 7, 8] | 5 => [0, 5, 6, 7, 8] | 6 => [0, 6, 7, 8] | 1000000 => [0] | 2000004 => [0, 0, 5, 6, 7, 8] | _ => []
def g69 : Nat → List Nat | 0 => [0, 1] | 1 => [0, 1] | 2 => [0, 1] | 3 => [0] | _ => []
def g70 : Nat → List Nat | 0 => [0, 1] | 1 => [0, 3] | 2 => [0, 3, 4] | 3 => [0, 3] | 4 => [0] | 5 => [0, 3, 18] | 6 => [0, 3] | 7 => [0, 3, 18] | 8 => [0, 3, 18] | 9 => [0, 3] | 10 => [0, 3, 18] | 11 => [0, 3] | 12 => [0, 3] | 13 => [0, 3, 18] | 14 => [0, 3] | 15 => [0, 3] | 16 => [0, 3] | 17 => [0, 3, 18] | 18 => [0, 3] | 19 => [0, 3] | 20 => [0, 3, 18] | 21 => [0, 3, 18] | 22 => [0, 3] | 23 => [0, 3] | 24 => [0, 107, 108, 109] | 25 => [0, 107, 108, 109] | 26 => [0, 6, 107, 108, 109] | 27 => [0, 107, 108, 109] | 28 => [0] | 1000001 => [0, 0] | 2000008 => [0, 0, 3, 18, 29] | 2000021 => [0, 0, 3, 100] | _ => []
def g71 : Nat → List Nat | 0 => [0, 1] | _ => []
def g72 : Nat → List Nat | 0 => [0, 1] | 1 => [2, 3] | 3 => [2, 3] | 4 => [2, 3, 6] | 5 => [2, 3, 6] | 6 => [3, 6, 29, 30, 31] | 7 => [3, 6, 29, 30, 31] | 8 => [3, 6, 8, 29, 30, 31] | 9 => [3, 6, 29, 30, 31] | 10 => [6] | 11 => [2, 3, 6] | 12 => [3, 6, 47, 48, 49] | 13 => [3, 6, 47, 48, 49] | 14 => [3, 6, 10, 47, 48, 49] | 15 => [3, 6, 11, 47, 48, 49] | 16 => [3, 6, 47, 48, 49] | 17 => [3, 6] | 1000000 => [0, 6] | 1000002 => [0, 3, 6] | _ => []
def g75 : Nat → List Nat | 0 => [0, 1] | 1 => [0, 1] | 2 => [1, 7, 8] | 3 => [1, 7, 8] | 4 => [1, 5, 7, 8] | 5 => [1, 6, 7, 8] | 6 => [6] | 7 => [1, 7, 8] | 1000000 => [0] | _ => []
def g76 : Nat → List Nat | 0 => [0, 1] | 1 => [0, 1] | 3 => [0, 1] | _ => []
def g77 : Nat → List Nat | 0 => [0, 1, 2] | 1 => [0, 1, 2] | _ => []
def g78 : Nat → List Nat | 0 => [0, 1, 2] | 1 => [0, 1, 2] | _ => []
def g79 : Nat → List Nat | 0 => [0, 1] | 1 => [2, 3] | 2 => [2, 3, 5] | 3 => [5] | 4 => [2, 3] | 5 => [2, 3, 6] | 6 => [2, 3, 6] | 7 => [2, 3] | 8 => [6] | 9 => [2, 3] | _ => []
def g80 : Nat → List Nat | 0 => [0, 1] | 1 => [0, 1] | _ => []
def g81 : Nat → List Nat | 0 => [0] | 1 => [0, 2] | 2 => [0, 2, 3] | 3 => [0, 2, 3, 4] | 4 => [0, 2, 3, 4] | 5 => [0, 2, 3, 4] | 6 => [0, 2, 3, 4, 5] | 7 => [0, 2, 3, 4, 5] | 8 => [0, 2, 3, 4, 5] | 9 => [0, 2, 3, 4, 5, 6, 7] | 10 => [2, 4, 5] | 11 => [0, 2, 3, 4, 5, 6, 7] | 12 => [0, 2, 3, 4, 5] | 13 => [2, 4, 5] | 1000000 => [0, 2, 4, 5] | _ => []
def g82 : Nat → List Nat | 0 => [0] | 1 => [0] | 2 => [0, 3] | 3 => [0] | 4 => [0, 3] | 2000003 => [0, 0, 3] | _ => []
def g83 : Nat → List Nat | 0 => [0, 1] | 1 => [0, 3] | 2 => [0, 3, 4] | 3 => [0, 3, 4] | 4 => [0, 3, 4] | 5 => [0, 3, 4] | 6 => [0, 3, 4] | 7 => [0, 4] | 8 => [0, 4] | 2000004 => [0, 0, 3, 4] | _ => []
def g84 : Nat → List Nat | 0 => [0, 1] | 1 => [0, 3] | 2 => [0, 3] | 3 => [0, 3] | 4 => [0] | 5 => [0, 3, 5] | 6 => [0, 3, 5] | 7 => [0, 3, 5] | 8 => [0, 3, 5] | 9 => [0, 3, 5] | 10 => [0, 3] | 2000006 => [0, 0, 3, 15] | _ => []
def g85 : Nat → List Nat | 0 => [0] | 1 => [1] | 3 => [1] | 4 => [1, 27, 28, 29] | 5 => [1, 27, 28, 29] | 6 => [1, 4, 27, 28, 29] | 8 => [1, 27, 28, 29] | 1000000 => [0] | 1000001 => [0, 1, 27, 28, 29] | _ => []
def g86 : Nat → List Nat | 0 => [0] | 1 => [0] | 2 => [0, 4] | 3 => [4, 7, 8, 9, 5000004] | 4 => [4, 7, 8, 9] | 5 => [4, 6, 7, 8, 9] | 7 => [4, 6, 7, 8, 9] | 8 => [4, 7, 8, 9] | 9 => [4] | 1000000 => [0, 4] | _ => []
def g87 : Nat → List Nat | 0 => [0, 1] | 1 => [0, 3] | 3 => [0, 3] | 4 => [0] | 5 => [0] | 1000000 => [0, 0] | _ => []
def g90 : Nat → List Nat | 0 => [0, 1] | 1 => [0, 1] | 3 => [0, 1] | _ => []
def g91 : Nat → List Nat | 0 => [0, 1] | 1 => [0, 1] | 2 => [0, 1, 7, 8] | 3 => [0, 1, 7, 8] | 4 => [0, 1, 5, 7, 8] | 5 => [5] | 6 => [0, 1, 7, 8] | 1000000 => [0] | _ => []
def g92 : Nat → List Nat | 0 => [0, 1] | 1 => [2, 3] | 3 => [2, 3] | _ => []
def g93 : Nat → List Nat | 0 => [0] | 1 => [1, 2] | 2 => [1, 2] | 3 => [1, 2] | 4 => [1, 2] | 5 => [1, 2] | 6 => [1, 2, 3] | 7 => [1, 2, 3] | 8 => [1, 2, 22, 23, 24] | 9 => [1, 2, 22, 23, 24] | 10 => [1, 2, 5, 22, 23, 24] | 11 => [1, 2, 22, 23, 24] | 12 => [1, 2] | 1000000 => [0, 1, 2] | 2000002 => [0, 1, 2] | _ => []
def g94 : Nat → List Nat | 0 => [0] | 1 => [1] | _ => []
def g95 : Nat → List Nat | 0 => [0, 1] | 1 => [0, 1] | _ => []
def g96 : Nat → List Nat | 0 => [0, 1] | 1 => [1, 2] | _ => []
def g97 : Nat → List Nat | 0 => [0, 1] | 1 => [1, 2] | 2 => [1, 2, 5, 6] | 3 => [6] | 4 => [1, 2, 5] | 6 => [1, 2] | 7 => [1, 2, 27, 28, 29] | 8 => [1, 2, 27, 28, 29] | 9 => [1, 2, 8, 27, 28, 29] | 11 => [1, 2, 27, 28, 29] | 12 => [1, 2] | 13 => [1, 37, 38, 39] | 14 => [1, 37, 38, 39] | 15 => [1, 10, 37, 38, 39] | 16 => [1, 10, 37, 38, 39] | 18 => [1, 10, 37, 38, 39] | 19 => [1, 11, 37, 38, 39] | 20 => [11] | 21 => [1, 10, 37, 38, 39] | 23 => [1, 37, 38, 39] | 1000000 => [0, 1, 2] | 1000002 => [0] | 1000003 => [0, 1, 37, 38, 39] | _ => []
def g98 : Nat → List Nat | 0 => [0, 1] | 1 => [0, 1] | 2 => [0, 1, 7, 8] | 3 => [0, 1, 7, 8] | 4 => [0, 1, 5, 7, 8] | 5 => [5] | 6 => [0, 1, 7, 8] | 1000000 => [0] | _ => []
def g99 : Nat → List Nat | 0 => [0] | 1 => [0] | 3 => [0] | 4 => [0, 4, 5] | 5 => [0, 4, 5, 13, 14, 15] | 6 => [0, 4, 5, 13, 14, 15] | 7 => [0, 4, 5, 7, 13, 14, 15] | 9 => [0, 4, 5, 7, 13, 14, 15] | 10 => [0, 4, 5, 13, 14, 15] | 11 => [0, 4, 5] | 13 => [0, 4] | 14 => [4, 28, 29, 30] | 15 => [4, 28, 29, 30] | 16 => [4, 9, 28, 29, 30] | 18 => [4, 9, 28, 29, 30] | 19 => [4, 28, 29, 30] | 20 => [4] | 1000000 => [0, 0, 4, 5] | 1000001 => [0, 0, 4, 5, 13, 14, 15] | 1000002 => [0, 4] | _ => []
def g100 : Nat → List Nat | 0 => [0] | 1 => [0] | _ => []
def H0 : Nat → Nat → List Nat
  | 4 => g4
  | 6 => g6
  | 8 => g8
  | 9 => g9
  | 12 => g12
  | 13 => g13
  | 14 => g14
  | 15 => g15
  | 16 => g16
  | 18 => g18
  | 19 => g19
  | 20 => g20
  | 21 => g21
  | 22 => g22
  | 23 => g23
  | 25 => g25
  | 28 => g28
  | 29 => g29
  | 30 => g30
  | 31 => g31
  | 32 => g32
  | 33 => g33
  | 34 => g34
  | 35 => g35
  | 36 => g36
  | 37 => g37
  | 38 => g38
  | 39 => g39
  | 40 => g40
  | 41 => g41
  | 42 => g42
  | 43 => g43
  | 44 => g44
  | 45 => g45
  | 46 => g46
  | 47 => g47
  | 48 => g48
  | 52 => g52
  | 53 => g53
  | 54 => g54
  | 55 => g55
  | 56 => g56
  | 57 => g57
  | 58 => g58
  | 59 => g59
  | 60 => g60
  | 61 => g61
  | 62 => g62
  | 63 => g63
  | 64 => g64
  | 65 => g65
  | 66 => g66
  | 67 => g67
  | 68 => g68
  | 69 => g69
  | 70 => g70
  | 71 => g71
  | 72 => g72
  | 75 => g75
  | 76 => g76
  | 77 => g77
  | 78 => g78
  | 79 => g79
  | 80 => g80
  | 81 => g81
  | 82 => g82
  | 83 => g83
  | 84 => g84
  | 85 => g85
  | 86 => g86
  | 87 => g87
  | 90 => g90
  | 91 => g91
  | 92 => g92
  | 93 => g93
  | 94 => g94
  | 95 => g95
  | 96 => g96
  | 97 => g97
  | 98 => g98
  | 99 => g99
  | 100 => g100
  | _ => fun _ => []
noncomputable abbrev P := Go.Proofs.Tryd.prog
def go_works : Option Bool := some true
def worksCall : Call := fun _ args lh => match args, lh with
  | [], [] => some (.ret (.d (.bool true)) [])
  | _, _ => none
instance : Globs := ⟨[(0, (List.range 256).map fun c => Value.int .u8 (if Lib.isSp (UInt8.ofNat c) then 1 else 0))]⟩
def E0 : Nat → Option Call := fun f => if f = 7 then some fieldsCall else if f = 24 then some joinCall else none
def E : Nat → Option Call := fun f => if f = 6 then some worksCall else E0 f
noncomputable abbrev X : Ctx := ⟨P, E, H⟩
theorem go_works_ok {r : Bool} (h : go_works = some r) : aval X 6 [] [] (.ret (.d (.bool r)) []) :=
  aval_ext (g := worksCall) (args' := []) rfl rfl (by cases h; rfl)
theorem goFields_ok {s : Str} {r : List Str} (h : goFields s = some r) : aval X 7 [.d (.str s)] [] (.ret (.d (.list 1 (r.map D.str))) []) := by
  obtain ⟨hc, rfl⟩ := goFields_inv h
  refine aval_ext (g := fieldsCall) (args' := [.d (.str s)]) rfl rfl ?_
  show fieldsCall 7 [.d (.str s)] [] = _
  simp only [fieldsCall]
  rw [if_pos hc]
def go_Join (l : List Str) (s : Str) : Option Str := joinS l s
theorem go_Join_ok {l : List Str} {s r : Str} (h : go_Join l s = some r) : aval X 24 [.d (.list 1 (l.map D.str)), .d (.str s)] [] (.ret (.d (.str r)) []) :=
  aval_ext (g := joinCall) (args' := [.d (.list 1 (l.map D.str)), .d (.str s)]) rfl rfl (by show Option.bind _ _ = _; rw [strsOf_map]; show Option.map _ (joinS l s) = _; rw [show joinS l s = some r from h]; rfl)

end Go.AM.Seat

namespace Go.AM.Seat
open Go Go.AM Go.Proofs
set_option maxRecDepth 100000
set_option maxHeartbeats 4000000
set_option linter.unusedVariables false


def p_jay_Grammar  : Option (Grammar) :=
  goFields [45, 32, 45, 46, 32, 42, 32, 124, 32, 124, 46, 32, 124, 58, 32, 37, 32, 43, 32, 60, 32, 60, 46, 32, 60, 58, 32, 62, 32, 62, 46, 32, 62, 58, 32, 61, 32, 126, 46, 32, 126, 58, 32, 36, 32, 35, 32, 44, 32, 44, 58, 32, 47, 58, 32, 92, 58, 32, 123, 46, 32, 125, 46, 32, 123, 32, 105, 46, 32, 101, 46] >>= fun x =>
  some (Grammar.mk x [[47], [92], [126], [34, 49]] [] [] [94, 58] [123, 123] [125, 125] [120] [121] [95] [39] true false false)

def p_triglyphref15_J  : Option (Grammar) :=
  some (Grammar.mk [[45, 46], [124, 46], [124, 58], [60, 46], [60, 58], [62, 46], [62, 58], [126, 46], [126, 58], [44, 58], [47, 58], [92, 58], [123, 46], [125, 46], [45], [42], [124], [37], [43], [60], [62], [61], [36], [35], [44], [123], [105, 46], [101, 46]] [[47], [92], [126], [34, 49]] [] [] [94, 58] [123, 123] [125, 125] [120] [121] [95] [39] true false false)

def p_triglyphlaw18_JayWords_l0 (a : Grammar × Grammar × Int × Bool × Int) : Option (Bool) := match a with
  | (x, x1, q, found, j) =>
    if (decide (j < (List.length x.verbs : Int))) then
      (
        if found then
          some true
        else
          lget x.verbs j >>= fun y =>
          lget x1.verbs (w64 q) >>= fun y1 =>
          some (y == y1)
      : Option (Bool)) >>= fun found1 =>
      p_triglyphlaw18_JayWords_l0 (x, x1, q, found1, (w64 (j + 1)))
    else
      some found
 partial_fixpoint

def p_triglyphlaw18_JayWords_l1 (a : Grammar × Grammar × Bool × Int) : Option (Bool) := match a with
  | (x, x1, found3, j1) =>
    if (decide (j1 < (List.length x1.adverbs : Int))) then
      (
        if found3 then
          lget x.adverbs j1 >>= fun y2 =>
          lget x1.adverbs j1 >>= fun y3 =>
          some (y2 == y3)
        else
          some false
      : Option (Bool)) >>= fun found4 =>
      p_triglyphlaw18_JayWords_l1 (x, x1, found4, (w64 (j1 + 1)))
    else
      some found3
 partial_fixpoint

def p_triglyphlaw18_JayWords_l2 (a : Grammar × Grammar × Bool × Int) : Option (Bool) := match a with
  | (x, x1, found6, j2) =>
    if (decide (j2 < (List.length x1.behind : Int))) then
      (
        if found6 then
          lget x.behind j2 >>= fun y4 =>
          lget x1.behind j2 >>= fun y5 =>
          some (y4 == y5)
        else
          some false
      : Option (Bool)) >>= fun found7 =>
      p_triglyphlaw18_JayWords_l2 (x, x1, found7, (w64 (j2 + 1)))
    else
      some found6
 partial_fixpoint

def p_triglyphlaw18_JayWords (i : Int) : Option (Bool) :=
  p_jay_Grammar >>= fun x =>
  p_triglyphref15_J >>= fun x1 =>
  irem (IntKind.u64.wrap i) (IntKind.u64.wrap (List.length x1.verbs : Int)) >>= fun q =>
  if ((List.length x.verbs : Int) == (List.length x1.verbs : Int)) then
    if ((List.length x.adverbs : Int) == (List.length x1.adverbs : Int)) then
      if (!((List.length x.behind : Int) == (List.length x1.behind : Int))) then
        some false
      else
        (
          p_triglyphlaw18_JayWords_l0 (x, x1, q, false, 0)
        : Option (Bool)) >>= fun found2 =>
        (
          p_triglyphlaw18_JayWords_l1 (x, x1, found2, 0)
        : Option (Bool)) >>= fun found5 =>
        (
          p_triglyphlaw18_JayWords_l2 (x, x1, found5, 0)
        : Option (Bool)) >>= fun found8 =>
        if found8 then
          if (x.outer == x1.outer) then
            if (x.power == x1.power) then
              if (x.open_ == x1.open_) then
                if (x.close == x1.close) then
                  if (x.left == x1.left) then
                    if (x.right == x1.right) then
                      if (x.minus == x1.minus) then
                        if (x.quote == x1.quote) then
                          if (x.trains == x1.trains) then
                            if (x.lone == x1.lone) then
                              if (x.square == x1.square) then
                                go_works >>= fun x2 =>
                                some x2
                              else
                                some false
                            else
                              some false
                          else
                            some false
                        else
                          some false
                      else
                        some false
                    else
                      some false
                  else
                    some false
                else
                  some false
              else
                some false
            else
              some false
          else
            some false
        else
          some false
    else
      some false
  else
    some false

end Go.AM.Seat

/- The seat's program at the abstract machine: its shape, the library's calls that it makes, the table that lies in memory. -/
namespace Go.Proofs
open Go.Shelf
def Tryd.lays156_ren : Go.Shelf.Ren := ⟨fun | 156 => 24 | 165 => 49 | 166 => 50 | 169 => 51 | 240 => 73 | 241 => 74 | 276 => 88 | 277 => 89 | n => n, fun | 31 => 22 | 9 => 9 | 3 => 3 | 4 => 4 | 0 => 0 | 20 => 20 | 72 => 111 | 76 => 115 | 70 => 109 | 37 => 93 | 75 => 114 | 127 => 142 | 164 => 153 | 5 => 5 | 80 => 117 | n => n, fun | n => n⟩
theorem Tryd.lays156 : Go.Proofs.Lays.n156 Tryd.prog Tryd.lays156_ren := {
  mixed := by kernel_rfl
  f156 := Tryd.func24.trans (congrArg some (by kernel_rfl))
  f165 := Tryd.func49.trans (congrArg some (by kernel_rfl))
  f166 := Tryd.func50.trans (congrArg some (by kernel_rfl))
  f169 := Tryd.func51.trans (congrArg some (by kernel_rfl))
  f240 := Tryd.func73.trans (congrArg some (by kernel_rfl))
  f241 := Tryd.func74.trans (congrArg some (by kernel_rfl))
  f276 := Tryd.func88.trans (congrArg some (by kernel_rfl))
  f277 := Tryd.func89.trans (congrArg some (by kernel_rfl))
  t0 := Tryd.underlying0
  a0 := Tryd.isAgg0
  z0 := Tryd.sizeOf0
  v0 := Tryd.zeroValue0
  t3 := Tryd.underlying3
  a3 := Tryd.isAgg3
  z3 := Tryd.sizeOf3
  v3 := Tryd.zeroValue3
  t4 := Tryd.underlying4
  a4 := Tryd.isAgg4
  z4 := Tryd.sizeOf4
  v4 := Tryd.zeroValue4
  t9 := Tryd.underlying9
  a9 := Tryd.isAgg9
  z9 := Tryd.sizeOf9
  v9 := Tryd.zeroValue9
  t20 := Tryd.underlying20
  a20 := Tryd.isAgg20
  z20 := Tryd.sizeOf20
  v20 := Tryd.zeroValue20
  t31 := Tryd.underlying22
  a31 := Tryd.isAgg22
  z31 := Tryd.sizeOf22
  v31 := Tryd.zeroValue22
  t37 := Tryd.underlying93
  a37 := Tryd.isAgg93
  z37 := Tryd.sizeOf93
  v37 := Tryd.zeroValue93
  t70 := Tryd.underlying109
  a70 := Tryd.isAgg109
  z70 := Tryd.sizeOf109
  v70 := Tryd.zeroValue109
  t72 := Tryd.underlying111
  a72 := Tryd.isAgg111
  z72 := Tryd.sizeOf111
  v72 := Tryd.zeroValue111
  t75 := Tryd.underlying114
  a75 := Tryd.isAgg114
  z75 := Tryd.sizeOf114
  v75 := Tryd.zeroValue114
  t76 := Tryd.underlying115
  a76 := Tryd.isAgg115
  z76 := Tryd.sizeOf115
  v76 := Tryd.zeroValue115
  t127 := Tryd.underlying142
  a127 := Tryd.isAgg142
  z127 := Tryd.sizeOf142
  v127 := Tryd.zeroValue142
  t164 := Tryd.underlying153
  a164 := Tryd.isAgg153
  z164 := Tryd.sizeOf153
  v164 := Tryd.zeroValue153 }
theorem Tryd.Builder_Extra_156 : Builder.Extra Tryd.prog Tryd.lays156_ren := {
  sizeBuilder := by kernel_rfl
  liesBuilder := by kernel_rfl
  t5 := Tryd.underlying5
  a5 := Tryd.isAgg5
  z5 := Tryd.sizeOf5
  v5 := Tryd.zeroValue5
  infoByte := by kernel_rfl
  cellsByte := by kernel_rfl
  sizeByte := by kernel_rfl
  neB5 := by decide }
def Tryd.lays157_ren : Go.Shelf.Ren := ⟨fun | 157 => 7 | 229 => 10 | 199 => 11 | 261 => 17 | 311 => 26 | 312 => 27 | n => n, fun | 9 => 9 | 31 => 22 | 3 => 3 | 5 => 5 | 4 => 4 | 119 => 46 | 0 => 0 | 40 => 48 | 152 => 59 | 21 => 21 | 154 => 61 | 51 => 62 | 141 => 64 | 196 => 83 | 193 => 80 | 198 => 86 | 49 => 84 | 194 => 81 | 201 => 89 | 226 => 119 | 46 => 120 | 227 => 121 | n => n, fun | 0 => 0 | 6 => 1 | n => n⟩
theorem Tryd.lays157 : Go.Proofs.Lays.n157 Tryd.prog Tryd.lays157_ren := {
  mixed := by kernel_rfl
  f157 := Tryd.func7.trans (congrArg some (by kernel_rfl))
  f199 := Tryd.func11.trans (congrArg some (by kernel_rfl))
  f229 := Tryd.func10.trans (congrArg some (by kernel_rfl))
  f261 := Tryd.func17.trans (congrArg some (by kernel_rfl))
  f311 := Tryd.func26.trans (congrArg some (by kernel_rfl))
  f312 := Tryd.func27.trans (congrArg some (by kernel_rfl))
  t0 := Tryd.underlying0
  a0 := Tryd.isAgg0
  z0 := Tryd.sizeOf0
  v0 := Tryd.zeroValue0
  t3 := Tryd.underlying3
  a3 := Tryd.isAgg3
  z3 := Tryd.sizeOf3
  v3 := Tryd.zeroValue3
  t4 := Tryd.underlying4
  a4 := Tryd.isAgg4
  z4 := Tryd.sizeOf4
  v4 := Tryd.zeroValue4
  t5 := Tryd.underlying5
  a5 := Tryd.isAgg5
  z5 := Tryd.sizeOf5
  v5 := Tryd.zeroValue5
  t9 := Tryd.underlying9
  a9 := Tryd.isAgg9
  z9 := Tryd.sizeOf9
  v9 := Tryd.zeroValue9
  t21 := Tryd.underlying21
  a21 := Tryd.isAgg21
  z21 := Tryd.sizeOf21
  v21 := Tryd.zeroValue21
  t31 := Tryd.underlying22
  a31 := Tryd.isAgg22
  z31 := Tryd.sizeOf22
  v31 := Tryd.zeroValue22
  t40 := Tryd.underlying48
  a40 := Tryd.isAgg48
  z40 := Tryd.sizeOf48
  v40 := Tryd.zeroValue48
  t46 := Tryd.underlying120
  a46 := Tryd.isAgg120
  z46 := Tryd.sizeOf120
  v46 := Tryd.zeroValue120
  t49 := Tryd.underlying84
  a49 := Tryd.isAgg84
  z49 := Tryd.sizeOf84
  v49 := Tryd.zeroValue84
  t51 := Tryd.underlying62
  a51 := Tryd.isAgg62
  z51 := Tryd.sizeOf62
  v51 := Tryd.zeroValue62
  t119 := Tryd.underlying46
  a119 := Tryd.isAgg46
  z119 := Tryd.sizeOf46
  t141 := Tryd.underlying64
  a141 := Tryd.isAgg64
  z141 := Tryd.sizeOf64
  v141 := Tryd.zeroValue64
  t152 := Tryd.underlying59
  a152 := Tryd.isAgg59
  z152 := Tryd.sizeOf59
  v152 := Tryd.zeroValue59
  t154 := Tryd.underlying61
  a154 := Tryd.isAgg61
  z154 := Tryd.sizeOf61
  v154 := Tryd.zeroValue61
  t193 := Tryd.underlying80
  a193 := Tryd.isAgg80
  z193 := Tryd.sizeOf80
  v193 := Tryd.zeroValue80
  t194 := Tryd.underlying81
  a194 := Tryd.isAgg81
  z194 := Tryd.sizeOf81
  v194 := Tryd.zeroValue81
  t196 := Tryd.underlying83
  a196 := Tryd.isAgg83
  z196 := Tryd.sizeOf83
  v196 := Tryd.zeroValue83
  t198 := Tryd.underlying86
  a198 := Tryd.isAgg86
  z198 := Tryd.sizeOf86
  v198 := Tryd.zeroValue86
  t201 := Tryd.underlying89
  a201 := Tryd.isAgg89
  z201 := Tryd.sizeOf89
  v201 := Tryd.zeroValue89
  t226 := Tryd.underlying119
  a226 := Tryd.isAgg119
  z226 := Tryd.sizeOf119
  v226 := Tryd.zeroValue119
  t227 := Tryd.underlying121
  a227 := Tryd.isAgg121
  z227 := Tryd.sizeOf121
  v227 := Tryd.zeroValue121
  g0 := by kernel_rfl
  g6 := by kernel_rfl }
end Go.Proofs
namespace Go.AM.Seat
open Go Go.AM Go.Proofs
set_option maxRecDepth 100000

theorem progOK : ProgOK P where
  func f fn h := by
    have hall : (P.funcs.toList.all funcOK) = true := by kernel_rfl
    exact List.all_eq_true.1 hall fn (by rw [← Array.getElem?_toList] at h; exact List.mem_of_getElem? h)
  mixed := Tryd.lays157.mixed

theorem callee_fields : Callee P 7 := ⟨_, Tryd.func7, by kernel_rfl⟩
theorem callee_join : Callee P 24 := ⟨_, Tryd.func24, by kernel_rfl⟩

theorem extern0_ok : ∀ f g, E0 f = some g → ∀ args lh r, g f args lh = some r → Callee P f ∧ CallOK P f args lh r := by
  intro f g hf args lh r h
  unfold E0 at hf
  split at hf
  · rename_i e
    subst e
    simp only [Option.some.injEq] at hf
    subst hf
    exact ⟨callee_fields, fields_ok (ρ := Tryd.lays157_ren) Tryd.lays157 (by kernel_rfl) (by simp only [Globs.tab]; exact List.mem_cons_self) h⟩
  · split at hf
    · rename_i e
      subst e
      simp only [Option.some.injEq] at hf
      subst hf
      exact ⟨callee_join, join_ok (ρ := Tryd.lays156_ren) Tryd.lays156 Tryd.Builder_Extra_156 h⟩
    · cases hf

/-- The law's 'works', reckoned by the abstract machine. -/
theorem works_run : acall P E0 H0 200 6 [] [] = some (.ret (.d (.bool true)) []) := by kernel_rfl

theorem extern_ok : ∀ f g, E f = some g → ∀ args lh r, g f args lh = some r → Callee P f ∧ CallOK P f args lh r := by
  intro f g hf args lh r h
  unfold E at hf
  split at hf
  · rename_i e
    subst e
    simp only [Option.some.injEq] at hf
    subst hf
    unfold worksCall at h
    split at h
    · simp only [Option.some.injEq] at h
      subst h
      exact acall_sound progOK extern0_ok H0 200 6 [] [] _ works_run
    · cases h
  · exact extern0_ok f g hf args lh r h

/-- What the abstract machine says that a function comes to, it does. -/
theorem call_ok {f : Nat} {args : List C} {lh : List (List C)} {r : CRes} (h : aval X f args lh r) : CallOK P f args lh r := by
  obtain ⟨k, hk⟩ := h
  exact (acall_sound progOK extern_ok H k f args lh r (hk k (Nat.le_refl k))).2

theorem space_glob {w : World} (h : laidMetH P [("unicode.White_Space", YtbpldjfhpbebfaaDoor.Rows.laid_unicode_White_Space), ("strings.asciiSpace", YtbpldjfhpbebfaaDoor.Rows.laid_strings_asciiSpace)] w) : GlobW w := by
  rw [MakeChecks.laidMetH_plain _ _ _ (by kernel_rfl)] at h
  have h2 := h.filter (fun x => x.1 == "strings.asciiSpace")
  have e : ([("unicode.White_Space", YtbpldjfhpbebfaaDoor.Rows.laid_unicode_White_Space), ("strings.asciiSpace", YtbpldjfhpbebfaaDoor.Rows.laid_strings_asciiSpace)] : List (String × DataW Unit)).filter (fun x => x.1 == "strings.asciiSpace") = [("strings.asciiSpace", Lib.tabData .u8 Lib.asciiSpaceTab)] := by kernel_rfl
  rw [e] at h2
  have hg : P.globalNamed "strings.asciiSpace" = some 0 := by kernel_rfl
  have hT := Lib.tabIs_of_head hg (t := 46) (e := 5) (n := 256) (by kernel_rfl) Tryd.underlying46 Tryd.underlying5 (by kernel_rfl) (by kernel_rfl) h2
  intro x hx i v hv
  simp only [Globs.tab, List.mem_singleton] at hx
  subst hx
  simp only [List.getElem?_map, Option.map_eq_some_iff] at hv
  obtain ⟨c, hc, rfl⟩ := hv
  have hi : i < 256 := by
    have := (List.getElem?_eq_some_iff.1 hc).1
    simpa using this
  have hci : c = i := by
    have := (List.getElem?_eq_some_iff.1 hc).2
    simpa using this.symm
  subst hci
  have := hT.cell hg c (by rw [Lib.asciiSpaceTab_length]; exact hi)
  rw [Lib.asciiSpaceTab_at c hi] at this
  exact this
end Go.AM.Seat

namespace Go.AM.Seat
open Go Go.AM Go.Proofs
set_option maxRecDepth 100000
set_option maxHeartbeats 4000000
set_option linter.unusedVariables false

/-- What the first comes to, the second comes to. -/
def Le {α : Type} (x y : Option α) : Prop := ∀ r, x = some r → y = some r
theorem Le.refl {α : Type} (x : Option α) : Le x x := fun _ h => h
theorem Le.none {α : Type} {x : Option α} : Le Option.none x := fun _ h => by simp at h
theorem Le.ite {α : Type} {c : Bool} {a b a' b' : Option α} (h : Le a a') (h' : Le b b') : Le (if c = true then a else b) (if c = true then a' else b') := by
  cases c
  · exact h'
  · exact h
theorem Le.bind {α β : Type} {x y : Option α} {f g : α → Option β} (h : Le x y) (h' : ∀ a, Le (f a) (g a)) : Le (x >>= f) (y >>= g) := by
  intro r hr
  cases x with
  | none => simp at hr
  | some v => rw [h v rfl]; exact h' v r hr

def q_jay_Grammar (k_ : Nat)  : Option (Grammar) :=
  goFields [45, 32, 45, 46, 32, 42, 32, 124, 32, 124, 46, 32, 124, 58, 32, 37, 32, 43, 32, 60, 32, 60, 46, 32, 60, 58, 32, 62, 32, 62, 46, 32, 62, 58, 32, 61, 32, 126, 46, 32, 126, 58, 32, 36, 32, 35, 32, 44, 32, 44, 58, 32, 47, 58, 32, 92, 58, 32, 123, 46, 32, 125, 46, 32, 123, 32, 105, 46, 32, 101, 46] >>= fun x =>
  some (Grammar.mk x [[47], [92], [126], [34, 49]] [] [] [94, 58] [123, 123] [125, 125] [120] [121] [95] [39] true false false)

def q_triglyphref15_J (k_ : Nat)  : Option (Grammar) :=
  some (Grammar.mk [[45, 46], [124, 46], [124, 58], [60, 46], [60, 58], [62, 46], [62, 58], [126, 46], [126, 58], [44, 58], [47, 58], [92, 58], [123, 46], [125, 46], [45], [42], [124], [37], [43], [60], [62], [61], [36], [35], [44], [123], [105, 46], [101, 46]] [[47], [92], [126], [34, 49]] [] [] [94, 58] [123, 123] [125, 125] [120] [121] [95] [39] true false false)

def q_triglyphlaw18_JayWords_l0 (k_ : Nat) (a : Grammar × Grammar × Int × Bool × Int) : Option (Bool) := match k_ with | 0 => none | k_ + 1 => match a with
  | (x, x1, q, found, j) =>
    if (decide (j < (List.length x.verbs : Int))) then
      (
        if found then
          some true
        else
          lget x.verbs j >>= fun y =>
          lget x1.verbs (w64 q) >>= fun y1 =>
          some (y == y1)
      : Option (Bool)) >>= fun found1 =>
      q_triglyphlaw18_JayWords_l0 k_ (x, x1, q, found1, (w64 (j + 1)))
    else
      some found
termination_by structural k_

def q_triglyphlaw18_JayWords_l1 (k_ : Nat) (a : Grammar × Grammar × Bool × Int) : Option (Bool) := match k_ with | 0 => none | k_ + 1 => match a with
  | (x, x1, found3, j1) =>
    if (decide (j1 < (List.length x1.adverbs : Int))) then
      (
        if found3 then
          lget x.adverbs j1 >>= fun y2 =>
          lget x1.adverbs j1 >>= fun y3 =>
          some (y2 == y3)
        else
          some false
      : Option (Bool)) >>= fun found4 =>
      q_triglyphlaw18_JayWords_l1 k_ (x, x1, found4, (w64 (j1 + 1)))
    else
      some found3
termination_by structural k_

def q_triglyphlaw18_JayWords_l2 (k_ : Nat) (a : Grammar × Grammar × Bool × Int) : Option (Bool) := match k_ with | 0 => none | k_ + 1 => match a with
  | (x, x1, found6, j2) =>
    if (decide (j2 < (List.length x1.behind : Int))) then
      (
        if found6 then
          lget x.behind j2 >>= fun y4 =>
          lget x1.behind j2 >>= fun y5 =>
          some (y4 == y5)
        else
          some false
      : Option (Bool)) >>= fun found7 =>
      q_triglyphlaw18_JayWords_l2 k_ (x, x1, found7, (w64 (j2 + 1)))
    else
      some found6
termination_by structural k_

def q_triglyphlaw18_JayWords (k_ : Nat) (i : Int) : Option (Bool) :=
  q_jay_Grammar k_ >>= fun x =>
  q_triglyphref15_J k_ >>= fun x1 =>
  irem (IntKind.u64.wrap i) (IntKind.u64.wrap (List.length x1.verbs : Int)) >>= fun q =>
  if ((List.length x.verbs : Int) == (List.length x1.verbs : Int)) then
    if ((List.length x.adverbs : Int) == (List.length x1.adverbs : Int)) then
      if (!((List.length x.behind : Int) == (List.length x1.behind : Int))) then
        some false
      else
        (
          q_triglyphlaw18_JayWords_l0 k_ (x, x1, q, false, 0)
        : Option (Bool)) >>= fun found2 =>
        (
          q_triglyphlaw18_JayWords_l1 k_ (x, x1, found2, 0)
        : Option (Bool)) >>= fun found5 =>
        (
          q_triglyphlaw18_JayWords_l2 k_ (x, x1, found5, 0)
        : Option (Bool)) >>= fun found8 =>
        if found8 then
          if (x.outer == x1.outer) then
            if (x.power == x1.power) then
              if (x.open_ == x1.open_) then
                if (x.close == x1.close) then
                  if (x.left == x1.left) then
                    if (x.right == x1.right) then
                      if (x.minus == x1.minus) then
                        if (x.quote == x1.quote) then
                          if (x.trains == x1.trains) then
                            if (x.lone == x1.lone) then
                              if (x.square == x1.square) then
                                go_works >>= fun x2 =>
                                some x2
                              else
                                some false
                            else
                              some false
                          else
                            some false
                        else
                          some false
                      else
                        some false
                    else
                      some false
                  else
                    some false
                else
                  some false
              else
                some false
            else
              some false
          else
            some false
        else
          some false
    else
      some false
  else
    some false

theorem q_jay_Grammar_le (k_ : Nat)  : Le (q_jay_Grammar k_ ) (p_jay_Grammar ) := by
  unfold q_jay_Grammar p_jay_Grammar
  repeat' (first | exact Le.refl _  | refine Le.ite ?_ ?_ | refine Le.bind ?_ (fun _ => ?_) | split)

theorem q_triglyphref15_J_le (k_ : Nat)  : Le (q_triglyphref15_J k_ ) (p_triglyphref15_J ) := by
  unfold q_triglyphref15_J p_triglyphref15_J
  repeat' (first | exact Le.refl _  | refine Le.ite ?_ ?_ | refine Le.bind ?_ (fun _ => ?_) | split)

theorem q_triglyphlaw18_JayWords_l0_grp (k_ : Nat) : (∀ a, Le (q_triglyphlaw18_JayWords_l0 k_ a) (p_triglyphlaw18_JayWords_l0 a)) := by
  induction k_ with
  | zero => exact fun _ => Le.none
  | succ k_ ih =>
    refine fun a => ?_
    · rw [q_triglyphlaw18_JayWords_l0, p_triglyphlaw18_JayWords_l0]
      repeat' (first | exact Le.refl _ | exact ih _ | refine Le.ite ?_ ?_ | refine Le.bind ?_ (fun _ => ?_) | split)

theorem q_triglyphlaw18_JayWords_l0_le (k_ : Nat) (a) : Le (q_triglyphlaw18_JayWords_l0 k_ a) (p_triglyphlaw18_JayWords_l0 a) := (q_triglyphlaw18_JayWords_l0_grp k_) a

theorem q_triglyphlaw18_JayWords_l1_grp (k_ : Nat) : (∀ a, Le (q_triglyphlaw18_JayWords_l1 k_ a) (p_triglyphlaw18_JayWords_l1 a)) := by
  induction k_ with
  | zero => exact fun _ => Le.none
  | succ k_ ih =>
    refine fun a => ?_
    · rw [q_triglyphlaw18_JayWords_l1, p_triglyphlaw18_JayWords_l1]
      repeat' (first | exact Le.refl _ | exact ih _ | refine Le.ite ?_ ?_ | refine Le.bind ?_ (fun _ => ?_) | split)

theorem q_triglyphlaw18_JayWords_l1_le (k_ : Nat) (a) : Le (q_triglyphlaw18_JayWords_l1 k_ a) (p_triglyphlaw18_JayWords_l1 a) := (q_triglyphlaw18_JayWords_l1_grp k_) a

theorem q_triglyphlaw18_JayWords_l2_grp (k_ : Nat) : (∀ a, Le (q_triglyphlaw18_JayWords_l2 k_ a) (p_triglyphlaw18_JayWords_l2 a)) := by
  induction k_ with
  | zero => exact fun _ => Le.none
  | succ k_ ih =>
    refine fun a => ?_
    · rw [q_triglyphlaw18_JayWords_l2, p_triglyphlaw18_JayWords_l2]
      repeat' (first | exact Le.refl _ | exact ih _ | refine Le.ite ?_ ?_ | refine Le.bind ?_ (fun _ => ?_) | split)

theorem q_triglyphlaw18_JayWords_l2_le (k_ : Nat) (a) : Le (q_triglyphlaw18_JayWords_l2 k_ a) (p_triglyphlaw18_JayWords_l2 a) := (q_triglyphlaw18_JayWords_l2_grp k_) a

theorem q_triglyphlaw18_JayWords_le (k_ : Nat) (i : Int) : Le (q_triglyphlaw18_JayWords k_ i) (p_triglyphlaw18_JayWords i) := by
  unfold q_triglyphlaw18_JayWords p_triglyphlaw18_JayWords
  repeat' (first | exact Le.refl _ | exact q_jay_Grammar_le _| exact q_triglyphlaw18_JayWords_l0_le _ _| exact q_triglyphlaw18_JayWords_l1_le _ _| exact q_triglyphlaw18_JayWords_l2_le _ _| exact q_triglyphref15_J_le _ | refine Le.ite ?_ ?_ | refine Le.bind ?_ (fun _ => ?_) | split)

end Go.AM.Seat

namespace Go.AM.Seat
open Go Go.AM Go.Proofs
set_option maxRecDepth 100000
set_option maxHeartbeats 4000000


theorem words_small : ((List.range 28).all fun n => q_triglyphlaw18_JayWords 40 (n : Int) == some true) = true := by kernel_rfl

theorem words_rem (i : Int) : ∃ n : Nat, n < 28 ∧ irem (IntKind.u64.wrap i) 28 = some (n : Int) ∧ irem (IntKind.u64.wrap (n : Int)) 28 = some (n : Int) := by
  have h0 : 0 ≤ IntKind.u64.wrap i := by
    have : IntKind.u64.wrap i = i % 18446744073709551616 := by rfl
    omega
  refine ⟨(IntKind.u64.wrap i % 28).toNat, by omega, ?_, ?_⟩
  · simp only [irem]
    rw [if_neg (by decide), Int.tmod_eq_emod_of_nonneg h0]
    congr 1; omega
  · have h1 : IntKind.u64.wrap ((IntKind.u64.wrap i % 28).toNat : Int) = (IntKind.u64.wrap i % 28) := by
      show ((IntKind.u64.wrap i % 28).toNat : Int) % 18446744073709551616 = _
      omega
    rw [h1]
    simp only [irem]
    rw [if_neg (by decide), Int.tmod_eq_emod_of_nonneg (by omega)]
    congr 1; omega

theorem JayWords_eq (i : Int) : p_triglyphlaw18_JayWords i = some true := by
  obtain ⟨n, hn, h1, h2⟩ := words_rem i
  have e : p_triglyphlaw18_JayWords i = p_triglyphlaw18_JayWords (n : Int) := by
    unfold p_triglyphlaw18_JayWords
    simp only [p_triglyphref15_J, Option.bind_eq_bind, Option.bind_some]
    have hl : IntKind.u64.wrap (([[45, 46], [124, 46], [124, 58], [60, 46], [60, 58], [62, 46], [62, 58], [126, 46], [126, 58], [44, 58], [47, 58], [92, 58], [123, 46], [125, 46], [45], [42], [124], [37], [43], [60], [62], [61], [36], [35], [44], [123], [105, 46], [101, 46]] : List Str).length : Int) = 28 := by rfl
    rw [hl, h1, h2]
  rw [e]
  refine q_triglyphlaw18_JayWords_le 40 _ _ ?_
  have := List.all_eq_true.1 words_small n (by simpa using hn)
  simpa using this
end Go.AM.Seat

namespace Go.AM.Seat
open Go Go.AM Go.Proofs
set_option maxRecDepth 100000
set_option maxHeartbeats 4000000
set_option linter.unusedVariables false

theorem p_jay_Grammar_ok  {r : Grammar} (h : p_jay_Grammar = some r) : aval X 4 [] [] (CRes.ret (.d (encGrammar r)) []) := by
  unfold p_jay_Grammar at h
  refine aval_start (tm := []) (hp := []) (n := 0) rfl Tryd.func4 rfl rfl rfl rfl rfl rfl ?_
  refine ra (nid' := 1) rfl ?_
  refine awp_seq ?_
  refine rn 0 rfl ?_
  obtain ⟨x, hk, h⟩ := bind_inv h
  refine po (ecall (goFields_ok hk) rfl rfl rfl rfl rfl rfl rfl rfl rfl) rfl rfl ?_
  refine on 3 rfl ?_
  refine rz ?_
  refine awp_ret ?_
  cases h
  exact .ret rfl rfl

end Go.AM.Seat

namespace Go.AM.Seat
open Go Go.AM Go.Proofs
set_option maxRecDepth 100000
set_option maxHeartbeats 4000000
set_option linter.unusedVariables false

theorem p_triglyphref15_J_ok  {r : Grammar} (h : p_triglyphref15_J = some r) : aval X 5 [] [] (CRes.ret (.d (encGrammar r)) []) := by
  unfold p_triglyphref15_J at h
  refine aval_start (tm := []) (hp := []) (n := 0) rfl Tryd.func5 rfl rfl rfl rfl rfl rfl ?_
  refine ra (nid' := 1) rfl ?_
  refine ra rfl ?_
  refine awp_ret ?_
  cases h
  exact .ret rfl rfl

end Go.AM.Seat

namespace Go.AM.Seat
open Go Go.AM Go.Proofs
set_option maxRecDepth 100000
set_option maxHeartbeats 4000000
set_option linter.unusedVariables false

theorem p_triglyphlaw18_JayWords_l0_ok : ∀ (a : Grammar × Grammar × Int × Bool × Int) (res : Bool), p_triglyphlaw18_JayWords_l0 a = some res → (match a with | (x, x1, q, found, j) => awpL X 3 (codeAt [1, 1, 1, 1, 1, 1, 0, 1, 0, 0] (bodyOf Tryd.f3)) (cleanAt (X.H 3 8) 2) (exitQ 0 (X.H 3 1000000) 2 (NrmQ (fun (found2 : Bool) => (⟨[(3, .c (.ptr 0 0)), (4, .c (.ptr 1 0)), (7, .d (.bool found2))], [(1, [.d (.list 1 (List.map D.str x1.verbs)), .d (.list 1 (List.map D.str x1.adverbs)), .d (.list 1 (List.map D.str x1.behind)), .d (.str x1.outer), .d (.str x1.power), .d (.str x1.open_), .d (.str x1.close), .d (.str x1.left), .d (.str x1.right), .d (.str x1.minus), .d (.str x1.quote), .d (.bool x1.trains), .d (.bool x1.lone), .d (.bool x1.square)]), (0, [.d (.list 1 (List.map D.str x.verbs)), .d (.list 1 (List.map D.str x.adverbs)), .d (.list 1 (List.map D.str x.behind)), .d (.str x.outer), .d (.str x.power), .d (.str x.open_), .d (.str x.close), .d (.str x.left), .d (.str x.right), .d (.str x.minus), .d (.str x.quote), .d (.bool x.trains), .d (.bool x.lone), .d (.bool x.square)])], 2, [], none⟩ : St)) res)) ⟨[(3, .c (.ptr 0 0)), (4, .c (.ptr 1 0)), (5, .d (.int .i64 (w64 q))), (7, .d (.bool found)), (8, .d (.int .i64 j))], [(1, [.d (.list 1 (List.map D.str x1.verbs)), .d (.list 1 (List.map D.str x1.adverbs)), .d (.list 1 (List.map D.str x1.behind)), .d (.str x1.outer), .d (.str x1.power), .d (.str x1.open_), .d (.str x1.close), .d (.str x1.left), .d (.str x1.right), .d (.str x1.minus), .d (.str x1.quote), .d (.bool x1.trains), .d (.bool x1.lone), .d (.bool x1.square)]), (0, [.d (.list 1 (List.map D.str x.verbs)), .d (.list 1 (List.map D.str x.adverbs)), .d (.list 1 (List.map D.str x.behind)), .d (.str x.outer), .d (.str x.power), .d (.str x.open_), .d (.str x.close), .d (.str x.left), .d (.str x.right), .d (.str x.minus), .d (.str x.quote), .d (.bool x.trains), .d (.bool x.lone), .d (.bool x.square)])], 2, [], none⟩) := by
  refine p_triglyphlaw18_JayWords_l0.partial_correctness (motive := (fun a res => match a with | (x, x1, q, found, j) => awpL X 3 (codeAt [1, 1, 1, 1, 1, 1, 0, 1, 0, 0] (bodyOf Tryd.f3)) (cleanAt (X.H 3 8) 2) (exitQ 0 (X.H 3 1000000) 2 (NrmQ (fun (found2 : Bool) => (⟨[(3, .c (.ptr 0 0)), (4, .c (.ptr 1 0)), (7, .d (.bool found2))], [(1, [.d (.list 1 (List.map D.str x1.verbs)), .d (.list 1 (List.map D.str x1.adverbs)), .d (.list 1 (List.map D.str x1.behind)), .d (.str x1.outer), .d (.str x1.power), .d (.str x1.open_), .d (.str x1.close), .d (.str x1.left), .d (.str x1.right), .d (.str x1.minus), .d (.str x1.quote), .d (.bool x1.trains), .d (.bool x1.lone), .d (.bool x1.square)]), (0, [.d (.list 1 (List.map D.str x.verbs)), .d (.list 1 (List.map D.str x.adverbs)), .d (.list 1 (List.map D.str x.behind)), .d (.str x.outer), .d (.str x.power), .d (.str x.open_), .d (.str x.close), .d (.str x.left), .d (.str x.right), .d (.str x.minus), .d (.str x.quote), .d (.bool x.trains), .d (.bool x.lone), .d (.bool x.square)])], 2, [], none⟩ : St)) res)) ⟨[(3, .c (.ptr 0 0)), (4, .c (.ptr 1 0)), (5, .d (.int .i64 (w64 q))), (7, .d (.bool found)), (8, .d (.int .i64 j))], [(1, [.d (.list 1 (List.map D.str x1.verbs)), .d (.list 1 (List.map D.str x1.adverbs)), .d (.list 1 (List.map D.str x1.behind)), .d (.str x1.outer), .d (.str x1.power), .d (.str x1.open_), .d (.str x1.close), .d (.str x1.left), .d (.str x1.right), .d (.str x1.minus), .d (.str x1.quote), .d (.bool x1.trains), .d (.bool x1.lone), .d (.bool x1.square)]), (0, [.d (.list 1 (List.map D.str x.verbs)), .d (.list 1 (List.map D.str x.adverbs)), .d (.list 1 (List.map D.str x.behind)), .d (.str x.outer), .d (.str x.power), .d (.str x.open_), .d (.str x.close), .d (.str x.left), .d (.str x.right), .d (.str x.minus), .d (.str x.quote), .d (.bool x.trains), .d (.bool x.lone), .d (.bool x.square)])], 2, [], none⟩)) ?_
  rintro p_triglyphlaw18_JayWords_l0' ih ⟨x, x1, q, found, j⟩ res h
  refine lg rfl ?_
  refine awp_seq ?_
  refine awp_seq ?_
  refine rn 3 rfl ?_
  refine po (ellen rfl rfl rfl rfl rfl rfl rfl) rfl rfl ?_
  refine on 1 rfl ?_
  refine rz ?_
  rcases ite_inv h with ⟨hc, h⟩ | ⟨hc, h⟩
  · refine ct rfl hc ?_
    refine awp_skip ?_
    refine cn rfl ?_
    refine seqQ.normal ?_
    refine awp_seq ?_
    obtain ⟨found1, hs, h⟩ := bind_inv h
    refine awp_nrm (fun (found1 : Bool) => (⟨[(3, .c (.ptr 0 0)), (4, .c (.ptr 1 0)), (5, .d (.int .i64 (w64 q))), (7, .d (.bool found1)), (8, .d (.int .i64 j))], [(1, [.d (.list 1 (List.map D.str x1.verbs)), .d (.list 1 (List.map D.str x1.adverbs)), .d (.list 1 (List.map D.str x1.behind)), .d (.str x1.outer), .d (.str x1.power), .d (.str x1.open_), .d (.str x1.close), .d (.str x1.left), .d (.str x1.right), .d (.str x1.minus), .d (.str x1.quote), .d (.bool x1.trains), .d (.bool x1.lone), .d (.bool x1.square)]), (0, [.d (.list 1 (List.map D.str x.verbs)), .d (.list 1 (List.map D.str x.adverbs)), .d (.list 1 (List.map D.str x.behind)), .d (.str x.outer), .d (.str x.power), .d (.str x.open_), .d (.str x.close), .d (.str x.left), .d (.str x.right), .d (.str x.minus), .d (.str x.quote), .d (.bool x.trains), .d (.bool x.lone), .d (.bool x.square)])], 2, [], none⟩ : St)) (y := found1) ?_ ?_
    · replace h := hs
      refine awp_block ?_
      refine drn (m := 17) 2 rfl rfl ?_
      rcases ite_inv h with ⟨hc, h⟩ | ⟨hc, h⟩
      · refine dgt rfl rfl rfl rfl hc rfl ?_
        refine don 13 rfl ?_
        refine dz' (by kernel_rfl) ?_
        refine en rfl ?_
        cases h
        exact .ok rfl
      · refine dgf rfl rfl rfl rfl hc rfl ?_
        refine don 3 rfl ?_
        obtain ⟨y, hk, h⟩ := bind_inv h
        refine pd (elget D.str (fun _ => rfl) hk rfl rfl rfl rfl rfl) rfl rfl rfl rfl rfl ?_
        refine don 4 rfl ?_
        obtain ⟨y1, hk, h⟩ := bind_inv h
        refine pd (elget D.str (fun _ => rfl) hk rfl rfl rfl rfl rfl) rfl rfl rfl rfl rfl ?_
        refine don 4 rfl ?_
        refine dz' (by kernel_rfl) ?_
        refine en rfl ?_
        cases h
        exact .ok rfl
    · refine seqQ.normal ?_
      refine rn 3 rfl ?_
      refine awpO_nil ?_
      refine loopQ.normal ?_
      exact awpL_at rfl rfl (ih _ _ h)
  · refine cf rfl hc ?_
    refine awp_exit ?_
    refine condQ.exit ?_
    refine seqQ.exit ?_
    refine loopQ.exit ?_
    refine eh rfl ?_
    cases h
    exact .ok rfl

theorem p_triglyphlaw18_JayWords_l1_ok : ∀ (a : Grammar × Grammar × Bool × Int) (res : Bool), p_triglyphlaw18_JayWords_l1 a = some res → (match a with | (x, x1, found3, j1) => awpL X 3 (codeAt [1, 1, 1, 1, 1, 1, 1, 0, 1, 0, 0] (bodyOf Tryd.f3)) (cleanAt (X.H 3 12) 2) (exitQ 2 (X.H 3 1000002) 2 (NrmQ (fun (found5 : Bool) => (⟨[(3, .c (.ptr 0 0)), (4, .c (.ptr 1 0)), (7, .d (.bool found5))], [(1, [.d (.list 1 (List.map D.str x1.verbs)), .d (.list 1 (List.map D.str x1.adverbs)), .d (.list 1 (List.map D.str x1.behind)), .d (.str x1.outer), .d (.str x1.power), .d (.str x1.open_), .d (.str x1.close), .d (.str x1.left), .d (.str x1.right), .d (.str x1.minus), .d (.str x1.quote), .d (.bool x1.trains), .d (.bool x1.lone), .d (.bool x1.square)]), (0, [.d (.list 1 (List.map D.str x.verbs)), .d (.list 1 (List.map D.str x.adverbs)), .d (.list 1 (List.map D.str x.behind)), .d (.str x.outer), .d (.str x.power), .d (.str x.open_), .d (.str x.close), .d (.str x.left), .d (.str x.right), .d (.str x.minus), .d (.str x.quote), .d (.bool x.trains), .d (.bool x.lone), .d (.bool x.square)])], 2, [], none⟩ : St)) res)) ⟨[(3, .c (.ptr 0 0)), (4, .c (.ptr 1 0)), (7, .d (.bool found3)), (9, .d (.int .i64 j1))], [(1, [.d (.list 1 (List.map D.str x1.verbs)), .d (.list 1 (List.map D.str x1.adverbs)), .d (.list 1 (List.map D.str x1.behind)), .d (.str x1.outer), .d (.str x1.power), .d (.str x1.open_), .d (.str x1.close), .d (.str x1.left), .d (.str x1.right), .d (.str x1.minus), .d (.str x1.quote), .d (.bool x1.trains), .d (.bool x1.lone), .d (.bool x1.square)]), (0, [.d (.list 1 (List.map D.str x.verbs)), .d (.list 1 (List.map D.str x.adverbs)), .d (.list 1 (List.map D.str x.behind)), .d (.str x.outer), .d (.str x.power), .d (.str x.open_), .d (.str x.close), .d (.str x.left), .d (.str x.right), .d (.str x.minus), .d (.str x.quote), .d (.bool x.trains), .d (.bool x.lone), .d (.bool x.square)])], 2, [], none⟩) := by
  refine p_triglyphlaw18_JayWords_l1.partial_correctness (motive := (fun a res => match a with | (x, x1, found3, j1) => awpL X 3 (codeAt [1, 1, 1, 1, 1, 1, 1, 0, 1, 0, 0] (bodyOf Tryd.f3)) (cleanAt (X.H 3 12) 2) (exitQ 2 (X.H 3 1000002) 2 (NrmQ (fun (found5 : Bool) => (⟨[(3, .c (.ptr 0 0)), (4, .c (.ptr 1 0)), (7, .d (.bool found5))], [(1, [.d (.list 1 (List.map D.str x1.verbs)), .d (.list 1 (List.map D.str x1.adverbs)), .d (.list 1 (List.map D.str x1.behind)), .d (.str x1.outer), .d (.str x1.power), .d (.str x1.open_), .d (.str x1.close), .d (.str x1.left), .d (.str x1.right), .d (.str x1.minus), .d (.str x1.quote), .d (.bool x1.trains), .d (.bool x1.lone), .d (.bool x1.square)]), (0, [.d (.list 1 (List.map D.str x.verbs)), .d (.list 1 (List.map D.str x.adverbs)), .d (.list 1 (List.map D.str x.behind)), .d (.str x.outer), .d (.str x.power), .d (.str x.open_), .d (.str x.close), .d (.str x.left), .d (.str x.right), .d (.str x.minus), .d (.str x.quote), .d (.bool x.trains), .d (.bool x.lone), .d (.bool x.square)])], 2, [], none⟩ : St)) res)) ⟨[(3, .c (.ptr 0 0)), (4, .c (.ptr 1 0)), (7, .d (.bool found3)), (9, .d (.int .i64 j1))], [(1, [.d (.list 1 (List.map D.str x1.verbs)), .d (.list 1 (List.map D.str x1.adverbs)), .d (.list 1 (List.map D.str x1.behind)), .d (.str x1.outer), .d (.str x1.power), .d (.str x1.open_), .d (.str x1.close), .d (.str x1.left), .d (.str x1.right), .d (.str x1.minus), .d (.str x1.quote), .d (.bool x1.trains), .d (.bool x1.lone), .d (.bool x1.square)]), (0, [.d (.list 1 (List.map D.str x.verbs)), .d (.list 1 (List.map D.str x.adverbs)), .d (.list 1 (List.map D.str x.behind)), .d (.str x.outer), .d (.str x.power), .d (.str x.open_), .d (.str x.close), .d (.str x.left), .d (.str x.right), .d (.str x.minus), .d (.str x.quote), .d (.bool x.trains), .d (.bool x.lone), .d (.bool x.square)])], 2, [], none⟩)) ?_
  rintro p_triglyphlaw18_JayWords_l1' ih ⟨x, x1, found3, j1⟩ res h
  refine lg rfl ?_
  refine awp_seq ?_
  refine awp_seq ?_
  refine rn 3 rfl ?_
  refine po (ellen rfl rfl rfl rfl rfl rfl rfl) rfl rfl ?_
  refine on 1 rfl ?_
  refine rz ?_
  rcases ite_inv h with ⟨hc, h⟩ | ⟨hc, h⟩
  · refine ct rfl hc ?_
    refine awp_skip ?_
    refine cn rfl ?_
    refine seqQ.normal ?_
    refine awp_seq ?_
    obtain ⟨found4, hs, h⟩ := bind_inv h
    refine awp_nrm (fun (found4 : Bool) => (⟨[(3, .c (.ptr 0 0)), (4, .c (.ptr 1 0)), (7, .d (.bool found4)), (9, .d (.int .i64 j1))], [(1, [.d (.list 1 (List.map D.str x1.verbs)), .d (.list 1 (List.map D.str x1.adverbs)), .d (.list 1 (List.map D.str x1.behind)), .d (.str x1.outer), .d (.str x1.power), .d (.str x1.open_), .d (.str x1.close), .d (.str x1.left), .d (.str x1.right), .d (.str x1.minus), .d (.str x1.quote), .d (.bool x1.trains), .d (.bool x1.lone), .d (.bool x1.square)]), (0, [.d (.list 1 (List.map D.str x.verbs)), .d (.list 1 (List.map D.str x.adverbs)), .d (.list 1 (List.map D.str x.behind)), .d (.str x.outer), .d (.str x.power), .d (.str x.open_), .d (.str x.close), .d (.str x.left), .d (.str x.right), .d (.str x.minus), .d (.str x.quote), .d (.bool x.trains), .d (.bool x.lone), .d (.bool x.square)])], 2, [], none⟩ : St)) (y := found4) ?_ ?_
    · replace h := hs
      refine awp_block ?_
      refine drn (m := 17) 2 rfl rfl ?_
      rcases ite_inv h with ⟨hc, h⟩ | ⟨hc, h⟩
      · refine dgt rfl rfl rfl rfl hc rfl ?_
        refine don 3 rfl ?_
        obtain ⟨y2, hk, h⟩ := bind_inv h
        refine pd (elget D.str (fun _ => rfl) hk rfl rfl rfl rfl rfl) rfl rfl rfl rfl rfl ?_
        refine don 4 rfl ?_
        obtain ⟨y3, hk, h⟩ := bind_inv h
        refine pd (elget D.str (fun _ => rfl) hk rfl rfl rfl rfl rfl) rfl rfl rfl rfl rfl ?_
        refine don 4 rfl ?_
        refine dz' (by kernel_rfl) ?_
        refine en rfl ?_
        cases h
        exact .ok rfl
      · refine dgf rfl rfl rfl rfl hc rfl ?_
        refine don 13 rfl ?_
        refine dz' (by kernel_rfl) ?_
        refine en rfl ?_
        cases h
        exact .ok rfl
    · refine seqQ.normal ?_
      refine rn 3 rfl ?_
      refine awpO_nil ?_
      refine loopQ.normal ?_
      exact awpL_at rfl rfl (ih _ _ h)
  · refine cf rfl hc ?_
    refine awp_exit ?_
    refine condQ.exit ?_
    refine seqQ.exit ?_
    refine loopQ.exit ?_
    refine eh rfl ?_
    cases h
    exact .ok rfl

theorem p_triglyphlaw18_JayWords_l2_ok : ∀ (a : Grammar × Grammar × Bool × Int) (res : Bool), p_triglyphlaw18_JayWords_l2 a = some res → (match a with | (x, x1, found6, j2) => awpL X 3 (codeAt [1, 1, 1, 1, 1, 1, 1, 1, 0, 1, 0, 0] (bodyOf Tryd.f3)) (cleanAt (X.H 3 16) 2) (exitQ 4 (X.H 3 1000004) 2 (NrmQ (fun (found8 : Bool) => (⟨[(3, .c (.ptr 0 0)), (4, .c (.ptr 1 0)), (7, .d (.bool found8))], [(1, [.d (.list 1 (List.map D.str x1.verbs)), .d (.list 1 (List.map D.str x1.adverbs)), .d (.list 1 (List.map D.str x1.behind)), .d (.str x1.outer), .d (.str x1.power), .d (.str x1.open_), .d (.str x1.close), .d (.str x1.left), .d (.str x1.right), .d (.str x1.minus), .d (.str x1.quote), .d (.bool x1.trains), .d (.bool x1.lone), .d (.bool x1.square)]), (0, [.d (.list 1 (List.map D.str x.verbs)), .d (.list 1 (List.map D.str x.adverbs)), .d (.list 1 (List.map D.str x.behind)), .d (.str x.outer), .d (.str x.power), .d (.str x.open_), .d (.str x.close), .d (.str x.left), .d (.str x.right), .d (.str x.minus), .d (.str x.quote), .d (.bool x.trains), .d (.bool x.lone), .d (.bool x.square)])], 2, [], none⟩ : St)) res)) ⟨[(3, .c (.ptr 0 0)), (4, .c (.ptr 1 0)), (7, .d (.bool found6)), (10, .d (.int .i64 j2))], [(1, [.d (.list 1 (List.map D.str x1.verbs)), .d (.list 1 (List.map D.str x1.adverbs)), .d (.list 1 (List.map D.str x1.behind)), .d (.str x1.outer), .d (.str x1.power), .d (.str x1.open_), .d (.str x1.close), .d (.str x1.left), .d (.str x1.right), .d (.str x1.minus), .d (.str x1.quote), .d (.bool x1.trains), .d (.bool x1.lone), .d (.bool x1.square)]), (0, [.d (.list 1 (List.map D.str x.verbs)), .d (.list 1 (List.map D.str x.adverbs)), .d (.list 1 (List.map D.str x.behind)), .d (.str x.outer), .d (.str x.power), .d (.str x.open_), .d (.str x.close), .d (.str x.left), .d (.str x.right), .d (.str x.minus), .d (.str x.quote), .d (.bool x.trains), .d (.bool x.lone), .d (.bool x.square)])], 2, [], none⟩) := by
  refine p_triglyphlaw18_JayWords_l2.partial_correctness (motive := (fun a res => match a with | (x, x1, found6, j2) => awpL X 3 (codeAt [1, 1, 1, 1, 1, 1, 1, 1, 0, 1, 0, 0] (bodyOf Tryd.f3)) (cleanAt (X.H 3 16) 2) (exitQ 4 (X.H 3 1000004) 2 (NrmQ (fun (found8 : Bool) => (⟨[(3, .c (.ptr 0 0)), (4, .c (.ptr 1 0)), (7, .d (.bool found8))], [(1, [.d (.list 1 (List.map D.str x1.verbs)), .d (.list 1 (List.map D.str x1.adverbs)), .d (.list 1 (List.map D.str x1.behind)), .d (.str x1.outer), .d (.str x1.power), .d (.str x1.open_), .d (.str x1.close), .d (.str x1.left), .d (.str x1.right), .d (.str x1.minus), .d (.str x1.quote), .d (.bool x1.trains), .d (.bool x1.lone), .d (.bool x1.square)]), (0, [.d (.list 1 (List.map D.str x.verbs)), .d (.list 1 (List.map D.str x.adverbs)), .d (.list 1 (List.map D.str x.behind)), .d (.str x.outer), .d (.str x.power), .d (.str x.open_), .d (.str x.close), .d (.str x.left), .d (.str x.right), .d (.str x.minus), .d (.str x.quote), .d (.bool x.trains), .d (.bool x.lone), .d (.bool x.square)])], 2, [], none⟩ : St)) res)) ⟨[(3, .c (.ptr 0 0)), (4, .c (.ptr 1 0)), (7, .d (.bool found6)), (10, .d (.int .i64 j2))], [(1, [.d (.list 1 (List.map D.str x1.verbs)), .d (.list 1 (List.map D.str x1.adverbs)), .d (.list 1 (List.map D.str x1.behind)), .d (.str x1.outer), .d (.str x1.power), .d (.str x1.open_), .d (.str x1.close), .d (.str x1.left), .d (.str x1.right), .d (.str x1.minus), .d (.str x1.quote), .d (.bool x1.trains), .d (.bool x1.lone), .d (.bool x1.square)]), (0, [.d (.list 1 (List.map D.str x.verbs)), .d (.list 1 (List.map D.str x.adverbs)), .d (.list 1 (List.map D.str x.behind)), .d (.str x.outer), .d (.str x.power), .d (.str x.open_), .d (.str x.close), .d (.str x.left), .d (.str x.right), .d (.str x.minus), .d (.str x.quote), .d (.bool x.trains), .d (.bool x.lone), .d (.bool x.square)])], 2, [], none⟩)) ?_
  rintro p_triglyphlaw18_JayWords_l2' ih ⟨x, x1, found6, j2⟩ res h
  refine lg rfl ?_
  refine awp_seq ?_
  refine awp_seq ?_
  refine rn 3 rfl ?_
  refine po (ellen rfl rfl rfl rfl rfl rfl rfl) rfl rfl ?_
  refine on 1 rfl ?_
  refine rz ?_
  rcases ite_inv h with ⟨hc, h⟩ | ⟨hc, h⟩
  · refine ct rfl hc ?_
    refine awp_skip ?_
    refine cn rfl ?_
    refine seqQ.normal ?_
    refine awp_seq ?_
    obtain ⟨found7, hs, h⟩ := bind_inv h
    refine awp_nrm (fun (found7 : Bool) => (⟨[(3, .c (.ptr 0 0)), (4, .c (.ptr 1 0)), (7, .d (.bool found7)), (10, .d (.int .i64 j2))], [(1, [.d (.list 1 (List.map D.str x1.verbs)), .d (.list 1 (List.map D.str x1.adverbs)), .d (.list 1 (List.map D.str x1.behind)), .d (.str x1.outer), .d (.str x1.power), .d (.str x1.open_), .d (.str x1.close), .d (.str x1.left), .d (.str x1.right), .d (.str x1.minus), .d (.str x1.quote), .d (.bool x1.trains), .d (.bool x1.lone), .d (.bool x1.square)]), (0, [.d (.list 1 (List.map D.str x.verbs)), .d (.list 1 (List.map D.str x.adverbs)), .d (.list 1 (List.map D.str x.behind)), .d (.str x.outer), .d (.str x.power), .d (.str x.open_), .d (.str x.close), .d (.str x.left), .d (.str x.right), .d (.str x.minus), .d (.str x.quote), .d (.bool x.trains), .d (.bool x.lone), .d (.bool x.square)])], 2, [], none⟩ : St)) (y := found7) ?_ ?_
    · replace h := hs
      refine awp_block ?_
      refine drn (m := 17) 2 rfl rfl ?_
      rcases ite_inv h with ⟨hc, h⟩ | ⟨hc, h⟩
      · refine dgt rfl rfl rfl rfl hc rfl ?_
        refine don 3 rfl ?_
        obtain ⟨y4, hk, h⟩ := bind_inv h
        refine pd (elget D.str (fun _ => rfl) hk rfl rfl rfl rfl rfl) rfl rfl rfl rfl rfl ?_
        refine don 4 rfl ?_
        obtain ⟨y5, hk, h⟩ := bind_inv h
        refine pd (elget D.str (fun _ => rfl) hk rfl rfl rfl rfl rfl) rfl rfl rfl rfl rfl ?_
        refine don 4 rfl ?_
        refine dz' (by kernel_rfl) ?_
        refine en rfl ?_
        cases h
        exact .ok rfl
      · refine dgf rfl rfl rfl rfl hc rfl ?_
        refine don 13 rfl ?_
        refine dz' (by kernel_rfl) ?_
        refine en rfl ?_
        cases h
        exact .ok rfl
    · refine seqQ.normal ?_
      refine rn 3 rfl ?_
      refine awpO_nil ?_
      refine loopQ.normal ?_
      exact awpL_at rfl rfl (ih _ _ h)
  · refine cf rfl hc ?_
    refine awp_exit ?_
    refine condQ.exit ?_
    refine seqQ.exit ?_
    refine loopQ.exit ?_
    refine eh rfl ?_
    cases h
    exact .ok rfl

theorem p_triglyphlaw18_JayWords_ok {i : Int} {r : Bool} (h : p_triglyphlaw18_JayWords i = some r) : aval X 3 [.d (.int .i64 i)] [] (CRes.ret (.d (.bool r)) []) := by
  unfold p_triglyphlaw18_JayWords at h
  refine aval_start (tm := [(0, .d (.int .i64 i))]) (hp := []) (n := 0) rfl Tryd.func3 rfl rfl rfl rfl rfl rfl ?_
  refine ra rfl ?_
  refine awp_seq ?_
  refine rn 0 rfl ?_
  obtain ⟨x, hk, h⟩ := bind_inv h
  refine po (ecall (p_jay_Grammar_ok hk) rfl rfl rfl rfl rfl rfl rfl rfl rfl) rfl rfl ?_
  obtain ⟨x1, hk, h⟩ := bind_inv h
  refine po (ecall (p_triglyphref15_J_ok hk) rfl rfl rfl rfl rfl rfl rfl rfl rfl) rfl rfl ?_
  refine on (nid' := 2) 4 rfl ?_
  refine rz ?_
  refine awp_seq ?_
  refine rn 4 rfl ?_
  refine po (ellen rfl rfl rfl rfl rfl rfl rfl) rfl rfl ?_
  refine on 1 rfl ?_
  obtain ⟨q, hk, h⟩ := bind_inv h
  refine po (eirem hk rfl rfl rfl) rfl rfl ?_
  refine on 2 rfl ?_
  refine rz ?_
  refine awp_seq ?_
  refine rn 2 rfl ?_
  refine po (ellen rfl rfl rfl rfl rfl rfl rfl) rfl rfl ?_
  refine on 2 rfl ?_
  refine po (ellen rfl rfl rfl rfl rfl rfl rfl) rfl rfl ?_
  refine on 2 rfl ?_
  rcases ite_inv h with ⟨hc, h⟩ | ⟨hc, h⟩
  · refine gt rfl rfl rfl rfl hc rfl ?_
    refine on 2 rfl ?_
    refine po (ellen rfl rfl rfl rfl rfl rfl rfl) rfl rfl ?_
    refine on 2 rfl ?_
    refine po (ellen rfl rfl rfl rfl rfl rfl rfl) rfl rfl ?_
    refine on 3 rfl ?_
    rcases ite_inv h with ⟨hc, h⟩ | ⟨hc, h⟩
    · refine gt rfl rfl rfl rfl hc rfl ?_
      refine on 2 rfl ?_
      refine po (ellen rfl rfl rfl rfl rfl rfl rfl) rfl rfl ?_
      refine on 2 rfl ?_
      refine po (ellen rfl rfl rfl rfl rfl rfl rfl) rfl rfl ?_
      refine on 3 rfl ?_
      refine rz ?_
      refine awp_seq ?_
      refine ra rfl ?_
      rcases ite_inv h with ⟨hc, h⟩ | ⟨hc, h⟩
      · refine ct rfl hc ?_
        refine ra rfl ?_
        refine awp_ret ?_
        refine condQ.ret ?_
        refine seqQ.ret ?_
        cases h
        exact .ret rfl rfl
      · refine cf rfl hc ?_
        refine awp_skip ?_
        refine cn rfl ?_
        refine seqQ.normal ?_
        refine ra rfl ?_
        refine awp_seq ?_
        refine ra rfl ?_
        obtain ⟨found2, hs, h⟩ := bind_inv h
        refine awp_nrm (fun (found2 : Bool) => (⟨[(3, .c (.ptr 0 0)), (4, .c (.ptr 1 0)), (7, .d (.bool found2))], [(1, [.d (.list 1 (List.map D.str x1.verbs)), .d (.list 1 (List.map D.str x1.adverbs)), .d (.list 1 (List.map D.str x1.behind)), .d (.str x1.outer), .d (.str x1.power), .d (.str x1.open_), .d (.str x1.close), .d (.str x1.left), .d (.str x1.right), .d (.str x1.minus), .d (.str x1.quote), .d (.bool x1.trains), .d (.bool x1.lone), .d (.bool x1.square)]), (0, [.d (.list 1 (List.map D.str x.verbs)), .d (.list 1 (List.map D.str x.adverbs)), .d (.list 1 (List.map D.str x.behind)), .d (.str x.outer), .d (.str x.power), .d (.str x.open_), .d (.str x.close), .d (.str x.left), .d (.str x.right), .d (.str x.minus), .d (.str x.quote), .d (.bool x.trains), .d (.bool x.lone), .d (.bool x.square)])], 2, [], none⟩ : St)) (y := found2) ?_ ?_
        · replace h := hs
          refine awp_block ?_
          refine awp_loop ?_
          exact awpL_at rfl rfl (p_triglyphlaw18_JayWords_l0_ok _ _ h)
        · refine seqQ.normal ?_
          refine awp_seq ?_
          refine ra rfl ?_
          obtain ⟨found5, hs, h⟩ := bind_inv h
          refine awp_nrm (fun (found5 : Bool) => (⟨[(3, .c (.ptr 0 0)), (4, .c (.ptr 1 0)), (7, .d (.bool found5))], [(1, [.d (.list 1 (List.map D.str x1.verbs)), .d (.list 1 (List.map D.str x1.adverbs)), .d (.list 1 (List.map D.str x1.behind)), .d (.str x1.outer), .d (.str x1.power), .d (.str x1.open_), .d (.str x1.close), .d (.str x1.left), .d (.str x1.right), .d (.str x1.minus), .d (.str x1.quote), .d (.bool x1.trains), .d (.bool x1.lone), .d (.bool x1.square)]), (0, [.d (.list 1 (List.map D.str x.verbs)), .d (.list 1 (List.map D.str x.adverbs)), .d (.list 1 (List.map D.str x.behind)), .d (.str x.outer), .d (.str x.power), .d (.str x.open_), .d (.str x.close), .d (.str x.left), .d (.str x.right), .d (.str x.minus), .d (.str x.quote), .d (.bool x.trains), .d (.bool x.lone), .d (.bool x.square)])], 2, [], none⟩ : St)) (y := found5) ?_ ?_
          · replace h := hs
            refine awp_block ?_
            refine awp_loop ?_
            exact awpL_at rfl rfl (p_triglyphlaw18_JayWords_l1_ok _ _ h)
          · refine seqQ.normal ?_
            refine awp_seq ?_
            refine ra rfl ?_
            obtain ⟨found8, hs, h⟩ := bind_inv h
            refine awp_nrm (fun (found8 : Bool) => (⟨[(3, .c (.ptr 0 0)), (4, .c (.ptr 1 0)), (7, .d (.bool found8))], [(1, [.d (.list 1 (List.map D.str x1.verbs)), .d (.list 1 (List.map D.str x1.adverbs)), .d (.list 1 (List.map D.str x1.behind)), .d (.str x1.outer), .d (.str x1.power), .d (.str x1.open_), .d (.str x1.close), .d (.str x1.left), .d (.str x1.right), .d (.str x1.minus), .d (.str x1.quote), .d (.bool x1.trains), .d (.bool x1.lone), .d (.bool x1.square)]), (0, [.d (.list 1 (List.map D.str x.verbs)), .d (.list 1 (List.map D.str x.adverbs)), .d (.list 1 (List.map D.str x.behind)), .d (.str x.outer), .d (.str x.power), .d (.str x.open_), .d (.str x.close), .d (.str x.left), .d (.str x.right), .d (.str x.minus), .d (.str x.quote), .d (.bool x.trains), .d (.bool x.lone), .d (.bool x.square)])], 2, [], none⟩ : St)) (y := found8) ?_ ?_
            · replace h := hs
              refine awp_block ?_
              refine awp_loop ?_
              exact awpL_at rfl rfl (p_triglyphlaw18_JayWords_l2_ok _ _ h)
            · refine seqQ.normal ?_
              refine awp_seq ?_
              refine rn 2 rfl ?_
              rcases ite_inv h with ⟨hc, h⟩ | ⟨hc, h⟩
              · refine gt rfl rfl rfl rfl hc rfl ?_
                refine on 7 rfl ?_
                rcases ite_inv h with ⟨hc, h⟩ | ⟨hc, h⟩
                · refine gt rfl rfl rfl rfl hc rfl ?_
                  refine on 7 rfl ?_
                  rcases ite_inv h with ⟨hc, h⟩ | ⟨hc, h⟩
                  · refine gt rfl rfl rfl rfl hc rfl ?_
                    refine on 7 rfl ?_
                    rcases ite_inv h with ⟨hc, h⟩ | ⟨hc, h⟩
                    · refine gt rfl rfl rfl rfl hc rfl ?_
                      refine on 7 rfl ?_
                      rcases ite_inv h with ⟨hc, h⟩ | ⟨hc, h⟩
                      · refine gt rfl rfl rfl rfl hc rfl ?_
                        refine on 7 rfl ?_
                        rcases ite_inv h with ⟨hc, h⟩ | ⟨hc, h⟩
                        · refine gt rfl rfl rfl rfl hc rfl ?_
                          refine on 7 rfl ?_
                          rcases ite_inv h with ⟨hc, h⟩ | ⟨hc, h⟩
                          · refine gt rfl rfl rfl rfl hc rfl ?_
                            refine on 7 rfl ?_
                            rcases ite_inv h with ⟨hc, h⟩ | ⟨hc, h⟩
                            · refine gt rfl rfl rfl rfl hc rfl ?_
                              refine on 7 rfl ?_
                              rcases ite_inv h with ⟨hc, h⟩ | ⟨hc, h⟩
                              · refine gt rfl rfl rfl rfl hc rfl ?_
                                refine on 7 rfl ?_
                                rcases ite_inv h with ⟨hc, h⟩ | ⟨hc, h⟩
                                · refine gt rfl rfl rfl rfl hc rfl ?_
                                  refine on 7 rfl ?_
                                  rcases ite_inv h with ⟨hc, h⟩ | ⟨hc, h⟩
                                  · refine gt rfl rfl rfl rfl hc rfl ?_
                                    refine on 7 rfl ?_
                                    rcases ite_inv h with ⟨hc, h⟩ | ⟨hc, h⟩
                                    · refine gt rfl rfl rfl rfl hc rfl ?_
                                      obtain ⟨x2, hk, h⟩ := bind_inv h
                                      refine po (ecall (go_works_ok hk) rfl rfl rfl rfl rfl rfl rfl rfl rfl) rfl rfl ?_
                                      refine on 2 rfl ?_
                                      refine rz ?_
                                      refine awp_ret ?_
                                      cases h
                                      exact .ret rfl rfl
                                    · refine gf rfl rfl rfl rfl hc rfl ?_
                                      refine on 3 rfl ?_
                                      refine rz ?_
                                      refine awp_ret ?_
                                      cases h
                                      exact .ret rfl rfl
                                  · refine gf rfl rfl rfl rfl hc rfl ?_
                                    refine on 10 rfl ?_
                                    refine rz ?_
                                    refine awp_ret ?_
                                    cases h
                                    exact .ret rfl rfl
                                · refine gf rfl rfl rfl rfl hc rfl ?_
                                  refine on 17 rfl ?_
                                  refine rz ?_
                                  refine awp_ret ?_
                                  cases h
                                  exact .ret rfl rfl
                              · refine gf rfl rfl rfl rfl hc rfl ?_
                                refine on 24 rfl ?_
                                refine rz ?_
                                refine awp_ret ?_
                                cases h
                                exact .ret rfl rfl
                            · refine gf rfl rfl rfl rfl hc rfl ?_
                              refine on 31 rfl ?_
                              refine rz ?_
                              refine awp_ret ?_
                              cases h
                              exact .ret rfl rfl
                          · refine gf rfl rfl rfl rfl hc rfl ?_
                            refine on 38 rfl ?_
                            refine rz ?_
                            refine awp_ret ?_
                            cases h
                            exact .ret rfl rfl
                        · refine gf rfl rfl rfl rfl hc rfl ?_
                          refine on 45 rfl ?_
                          refine rz ?_
                          refine awp_ret ?_
                          cases h
                          exact .ret rfl rfl
                      · refine gf rfl rfl rfl rfl hc rfl ?_
                        refine on 52 rfl ?_
                        refine rz ?_
                        refine awp_ret ?_
                        cases h
                        exact .ret rfl rfl
                    · refine gf rfl rfl rfl rfl hc rfl ?_
                      refine on 59 rfl ?_
                      refine rz ?_
                      refine awp_ret ?_
                      cases h
                      exact .ret rfl rfl
                  · refine gf rfl rfl rfl rfl hc rfl ?_
                    refine on 66 rfl ?_
                    refine rz ?_
                    refine awp_ret ?_
                    cases h
                    exact .ret rfl rfl
                · refine gf rfl rfl rfl rfl hc rfl ?_
                  refine on 73 rfl ?_
                  refine rz ?_
                  refine awp_ret ?_
                  cases h
                  exact .ret rfl rfl
              · refine gf rfl rfl rfl rfl hc rfl ?_
                refine on 80 rfl ?_
                refine rz ?_
                refine awp_ret ?_
                cases h
                exact .ret rfl rfl
    · refine gf rfl rfl rfl rfl hc rfl ?_
      refine on 9 rfl ?_
      refine rz ?_
      refine awp_seq ?_
      refine ra rfl ?_
      refine ct rfl rfl ?_
      refine ra rfl ?_
      refine awp_ret ?_
      refine condQ.ret ?_
      refine seqQ.ret ?_
      cases h
      exact .ret rfl rfl
  · refine gf rfl rfl rfl rfl hc rfl ?_
    refine on 18 rfl ?_
    refine rz ?_
    refine awp_seq ?_
    refine ra rfl ?_
    refine ct rfl rfl ?_
    refine ra rfl ?_
    refine awp_ret ?_
    refine condQ.ret ?_
    refine seqQ.ret ?_
    cases h
    exact .ret rfl rfl

end Go.AM.Seat
