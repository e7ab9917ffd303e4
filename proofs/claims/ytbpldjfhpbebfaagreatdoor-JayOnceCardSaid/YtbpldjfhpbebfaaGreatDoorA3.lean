/- Part of a proof about the given program: the abstract machine, the printed functions, the plain laws. (AMPrint, AMPrint2, AMFields, AMTypes, AMExt, Y0, Y1, YOR0, YFcore_Name, YFgrammar_Parse_1_p, YFgrammar_Parse_1_p_2, YFgrammar_Parse_1_q, YFgrammar_parser_fail, YFgrammar_parser_down, YFgrammar_parser_expr_1, YFgrammar_parser_function_1, YFgrammar_parser_here, YFgrammar_parser_is, YFgrammar_times, YFgrammar_parser_power, YFslices_Index_string, YFslices_Contains_string, YFgrammar_parser_sign, YFgrammar_parser_shut) -/
import Derived.Test.YtbpldjfhpbebfaaGreatDoorA2
import Derived.Shelf.Strings.Fields
import Derived.Shelf.Strings.OnBuilder
import Derived.Shelf.Strings.IndexAnyAll
import Derived.Shelf.Small.Strs
import Derived.Test.YtbpldjfhpbebfaaGreatDoorProg
import Derived.KernelRfl
import Derived.Lib.LaidTab
import Derived.LaidSub
import Derived.MakeChecks
import Derived.Test.YtbpldjfhpbebfaaGreatDoorRows
set_option linter.all false
set_option linter.unusedSectionVars false
set_option linter.unusedVariables false
set_option linter.unusedSimpArgs false

namespace Go.AM
open Go
abbrev Str := List UInt8
def lget {α : Type} (l : List α) (i : Int) : Option α := if 0 ≤ i then l[i.toNat]? else none
def sget (s : Str) (i : Int) : Option Int := if 0 ≤ i then (s[i.toNat]?).map fun b => (b.toNat : Int) else none
def sfrom (s : Str) (lo : Int) : Option Str := if 0 ≤ lo ∧ lo.toNat ≤ s.length then some (s.drop lo.toNat) else none
def sto (s : Str) (hi : Int) : Option Str := if 0 ≤ hi ∧ hi.toNat ≤ s.length then some (s.take hi.toNat) else none
def lfrom {α : Type} (s : List α) (lo : Int) : Option (List α) := if 0 ≤ lo ∧ lo.toNat ≤ s.length then some (s.drop lo.toNat) else none
def lto {α : Type} (s : List α) (hi : Int) : Option (List α) := if 0 ≤ hi ∧ hi.toNat ≤ s.length then some (s.take hi.toNat) else none
def lmid {α : Type} (s : List α) (lo hi : Int) : Option (List α) := if 0 ≤ lo ∧ lo ≤ hi ∧ hi.toNat ≤ s.length then some ((s.take hi.toNat).drop lo.toNat) else none
def lapp {α : Type} (l m : List α) : Option (List α) := if l.length + m.length ≤ 4294967296 then some (l ++ m) else none
def scat (a b : Str) : Option Str := if a.length + b.length ≤ 1099511627776 then some (a ++ b) else none
def u8I (b : UInt8) : Int := b.toNat
def sbytes (s : Str) : Option (List Int) := if s.length ≤ 1099511627776 then some (s.map u8I) else none
def bstr (l : List Int) : Str := l.map fun n => UInt8.ofNat n.toNat
def w64 (x : Int) : Int := IntKind.i64.wrap x
theorem ite_inv {α : Type} {c : Bool} {a b : Option α} {r : α} (h : (if c = true then a else b) = some r) : (c = true ∧ a = some r) ∨ (c = false ∧ b = some r) := by
 cases c with
 | true => exact .inl ⟨rfl, h⟩
 | false => exact .inr ⟨rfl, h⟩
theorem bind_inv {α β : Type} {x : Option α} {k : α → Option β} {r : β} (h : (x >>= k) = some r) : ∃ y, x = some y ∧ k y = some r := by
 cases x with
 | none => cases h
 | some y => exact ⟨y, rfl, h⟩
def noCall : Call := fun _ _ _ => none
theorem doCall_noCall (f : Nat) (args : List C) (s : St) : doCall noCall f args s = none := by
 unfold doCall
 split
 ·rfl
 ·split <;> rfl
theorem evOp_noCall {P : Program} {id : Nat} {o : Oper} {s : St} {r : ORes × Foot} (h : evOp P noCall id o s = some r) (call : Call) : evOp P call id o s = some r := by
 unfold evOp at h ⊢
 cases ho : o.op with
 | call c =>
  simp only [ho] at h ⊢
  cases hc : c.callee with
  | value f =>
   simp only [hc] at h
   split at h
   ·rw [doCall_noCall] at h; simp at h
   ·simp at h
  | builtin b => cases b <;> (simp only [hc] at h ⊢; exact h)
  | invoke a b => simp [hc] at h
 | makeMap t r => cases r <;> (simp only [ho] at h ⊢; exact h)
 | _ => simp only [ho] at h ⊢; exact h
def copyL {α β : Type} : List α → (List α → β) → β
 | [], k => k []
 | x :: r, k => copyL r fun r => k (x :: r)
theorem copyL_eq {α β : Type} : ∀ {l : List α} {k : List α → β}, copyL l k = k l
 | [], _ => rfl
 | x :: r, k => by simp only [copyL, copyL_eq]
def putK {α : Type} (dst : Option Nat) (v : V) (tm : List (Nat × V)) (k : List (Nat × V) → Option α) : Option α := match dst with
 | none => copyL tm k
 | some d => match v with
  | .c (.own sz xs) => unviewK (.tmp d) tm fun r => k ((d, .c (.own sz xs)) :: r)
  | v => copyL tm fun tm => k ((d, v) :: tm)
theorem putK_eq {α : Type} {dst : Option Nat} {v : V} {s : St} {k : List (Nat × V) → Option α} : putK dst v s.tmps k = k (putSt dst v s).tmps := by
 cases dst with
 | none => simp only [putK, putSt, copyL_eq]
 | some d =>
  cases v with
  | c x => cases x <;> simp only [putK, putSt, setTmp, unviewK_eq, copyL_eq]
  | _ => simp only [putK, putSt, setTmp, copyL_eq]
theorem putSt_rest (dst : Option Nat) (v : V) (s : St) : putSt dst v s = ⟨(putSt dst v s).tmps, s.heap, s.nid, s.defers, s.pan⟩ := by
 cases dst <;> rfl
def copyHp {β : Type} : List (Nat × List C) → (List (Nat × List C) → β) → β
 | [], k => k []
 | (b, cs) :: r, k => copyL cs fun cs => copyHp r fun r => k ((b, cs) :: r)
theorem copyHp_eq {β : Type} : ∀ {l : List (Nat × List C)} {k : List (Nat × List C) → β}, copyHp l k = k l
 | [], _ => rfl
 | (b, cs) :: r, k => by simp only [copyHp, copyL_eq, copyHp_eq]
def isDefer (o : Oper) : Bool := match o.op with
 | .defer _ | .makeMap _ _ | .insert _ _ _ _ | .mapUpdate _ _ _ _ => true
 | _ => false
theorem evOp_rest {P : Program} {call : Call} {id : Nat} {o : Oper} {tm : List (Nat × V)} {hp : List (Nat × List C)} {nid : Nat} {df : List (Nat × List Nat)} {pn : Option D} {v : V} {s' : St} {ft : Foot} (hc : call = noCall) (hid : makesBlk o = true → id = nid)
  (h : evOp P call id o ⟨tm, hp, nid, df, pn⟩ = some (.val v s', ft)) (hd : isDefer o = false) :
  s' = ⟨s'.tmps, s'.heap, (match makesBlk o with | true => nid + 1 | false => nid), df, pn⟩ := by
 subst hc
 unfold evOp at h
 cases ho : o.op with
 | assign x =>
  simp only [ho] at h
  simp only [makesBlk, ho]
  split at h
  ·split at h
   ·simp only [Option.some.injEq, Prod.mk.injEq, ORes.val.injEq] at h
    obtain ⟨⟨_, rfl⟩, _⟩ := h; rfl
   ·simp at h
  ·simp only [Option.some.injEq, Prod.mk.injEq, ORes.val.injEq] at h
   obtain ⟨⟨_, rfl⟩, _⟩ := h; rfl
  ·simp only [Option.some.injEq, Prod.mk.injEq, ORes.val.injEq] at h
   obtain ⟨⟨_, rfl⟩, _⟩ := h; rfl
  ·simp only [Option.some.injEq, Prod.mk.injEq, ORes.val.injEq] at h
   obtain ⟨⟨_, rfl⟩, _⟩ := h; rfl
  ·simp only [Option.some.injEq, Prod.mk.injEq, ORes.val.injEq] at h
   obtain ⟨⟨_, rfl⟩, _⟩ := h; rfl
  ·simp at h
 | store t x y =>
  simp only [ho] at h
  simp only [makesBlk, ho]
  repeat' (first | (split at h) | (simp at h; done))
  all_goals first
   | (simp at h; done)
   | (simp only [Option.some.injEq, Prod.mk.injEq, ORes.val.injEq] at h; obtain ⟨⟨_, rfl⟩, _⟩ := h; rfl)
 | defer c => simp [isDefer, ho] at hd
 | makeMap t r => simp [isDefer, ho] at hd
 | insert t m k x => simp [isDefer, ho] at hd
 | mapUpdate t m k x => simp [isDefer, ho] at hd
 | panic x =>
  simp only [ho] at h
  split at h <;> simp at h
 | call c =>
  simp only [ho] at h
  simp only [makesBlk, ho]
  split at h
  ·split at h
   ·split at h
    ·rename_i hap
     simp only [Option.some.injEq, Prod.mk.injEq, ORes.val.injEq] at h
     obtain ⟨⟨_, rfl⟩, _⟩ := h
     unfold doAppend at hap
     repeat' (first | (split at hap) | (simp at hap; done))
     all_goals first
      | (simp at hap; done)
      | (simp only [Option.some.injEq, Prod.mk.injEq] at hap; obtain ⟨_, rfl⟩ := hap; rfl)
    ·simp at h
   ·simp at h
  ·split at h
   ·simp only [Option.some.injEq, Prod.mk.injEq, ORes.val.injEq] at h
    obtain ⟨⟨_, rfl⟩, _⟩ := h; rfl
   ·simp at h
  ·split at h
   ·rw [doCall_noCall] at h; simp at h
   ·simp at h
  ·simp at h
 | makeSlice t l c =>
  simp only [ho] at h
  split at h
  ·rename_i hev
   simp only [Option.some.injEq, Prod.mk.injEq, ORes.val.injEq] at h
   obtain ⟨⟨_, rfl⟩, _⟩ := h
   have hm : makesBlk o = false := by
    cases hs : sameTmp l c with
    | false => simp [makesBlk, ho, hs]
    | true =>
     exfalso
     simp only [evR, ho, hs, if_true] at hev
     repeat' (first | (split at hev) | (simp at hev; done))
   rw [hm]
  ·split at h
   ·rename_i hev _
    simp only [Option.some.injEq, Prod.mk.injEq, ORes.val.injEq] at h
    obtain ⟨⟨_, rfl⟩, _⟩ := h
    by_cases hm : makesBlk o = true
    ·rw [hm, hid hm]
    ·haveI : Globs := ⟨[]⟩
     exact absurd hev (evR_none (by simpa using hm))
   ·simp at h
  ·simp at h
 | _ =>
  simp only [ho] at h
  split at h
  ·rename_i hev
   simp only [Option.some.injEq, Prod.mk.injEq, ORes.val.injEq] at h
   obtain ⟨⟨_, rfl⟩, _⟩ := h
   first
    | (simp only [makesBlk, ho]; done)
    | (exfalso; simp only [evR, ho] at hev; repeat' (first | (split at hev) | (simp at hev; done)))
    | rfl
  ·split at h
   ·rename_i hev _
    simp only [Option.some.injEq, Prod.mk.injEq, ORes.val.injEq] at h
    obtain ⟨⟨_, rfl⟩, _⟩ := h
    by_cases hm : makesBlk o = true
    ·rw [hm, hid hm]
    ·haveI : Globs := ⟨[]⟩
     exact absurd hev (evR_none (by simpa using hm))
   ·simp at h
  ·simp at h
def opsK {α : Type} (P : Program) (ops : Array Oper) : Nat → List Oper → List (Nat × V) → List (Nat × List C) → Nat → List (Nat × List Nat) → Option D → (List Oper → List (Nat × V) → List (Nat × List C) → Nat → List (Nat × List Nat) → Option D → Option α) → Option α
 | 0, l, tm, hp, nid, df, pn, k => k l tm hp nid df pn
 | _ + 1, [], _, _, _, _, _, _ => none
 | n + 1, o :: l, tm, hp, nid, df, pn, k => match wantedAt ops tm o with
  | none => none
  | some false => putK o.dst (.c .undef) tm fun tm => opsK P ops n l tm hp nid df pn k
  | some true => match isDefer o with
   | true => none
   | false => match evOp P noCall nid o ⟨tm, hp, nid, df, pn⟩ with
    | some (.val v s', _) => putK o.dst v s'.tmps fun tm => copyHp s'.heap fun hp => match makesBlk o with
     | true => opsK P ops n l tm hp (nid + 1) df pn k
     | false => opsK P ops n l tm hp nid df pn k
    | _ => none
section
variable {X : Ctx} {f : Nat} {Q : AX → St → Prop} {tm tm' : List (Nat × V)} {hp hp' : List (Nat × List C)} {nid nid' : Nat} {df : List (Nat × List Nat)} {pn : Option D}
theorem opsK_sound {α : Type} {ops : Array Oper} : ∀ {n : Nat} {l : List Oper} {tm : List (Nat × V)} {hp : List (Nat × List C)} {nid : Nat} {df : List (Nat × List Nat)} {pn : Option D} {k : List Oper → List (Nat × V) → List (Nat × List C) → Nat → List (Nat × List Nat) → Option D → Option α} {a : α},
  opsK X.P ops n l tm hp nid df pn k = some a → ∃ l' tm' hp' nid' df' pn', k l' tm' hp' nid' df' pn' = some a ∧ (awpO X ops l' Q ⟨tm', hp', nid', df', pn'⟩ → awpO X ops l Q ⟨tm, hp, nid, df, pn⟩)
 | 0, l, tm, hp, nid, df, pn, k, a, h => by
  simp only [opsK] at h
  exact ⟨l, tm, hp, nid, df, pn, h, fun h => h⟩
 | n + 1, [], tm, hp, nid, df, pn, k, a, h => by simp [opsK] at h
 | n + 1, o :: l, tm, hp, nid, df, pn, k, a, h => by
  simp only [opsK] at h
  split at h
  ·simp at h
  ·rename_i hw
   rw [show tm = (⟨tm, hp, nid, df, pn⟩ : St).tmps from rfl, putK_eq] at h
   obtain ⟨l', tm', hp', nid', df', pn', h1, h2⟩ := opsK_sound h
   refine ⟨l', tm', hp', nid', df', pn', h1, fun hh => awpO_skip hw ?_⟩
   have := h2 hh
   rw [putDst, putSt_rest]
   exact this
  ·rename_i hw
   split at h
   ·simp at h
   ·rename_i hd
    split at h
    ·rename_i v s' ft hev
     have hr := evOp_rest rfl (fun _ => rfl) hev hd
     rw [putK_eq, copyHp_eq] at h
     cases hm : makesBlk o with
     | true =>
      simp only [hm] at h hr
      obtain ⟨l', tm', hp', nid', df', pn', h1, h2⟩ := opsK_sound h
      refine ⟨l', tm', hp', nid', df', pn', h1, fun hh => awpO_rfl hw (fun call => evOp_noCall hev call) ?_⟩
      have := h2 hh
      rw [putDst, putSt_rest]
      rw [hr] at this ⊢
      exact this
     | false =>
      simp only [hm] at h hr
      obtain ⟨l', tm', hp', nid', df', pn', h1, h2⟩ := opsK_sound h
      refine ⟨l', tm', hp', nid', df', pn', h1, fun hh => awpO_rfl hw (fun call => evOp_noCall hev call) ?_⟩
      have := h2 hh
      rw [putDst, putSt_rest]
      rw [hr] at this ⊢
      exact this
    ·simp at h
def finK (l : List Oper) (tm : List (Nat × V)) (hp : List (Nat × List C)) (nid : Nat) (df : List (Nat × List Nat)) (pn : Option D) : Option (List Oper × List (Nat × V) × List (Nat × List C) × Nat × List (Nat × List Nat) × Option D) := some (l, tm, hp, nid, df, pn)
variable {df' : List (Nat × List Nat)} {pn' : Option D}
theorem on (n : Nat) {ops : Array Oper} {l l' : List Oper} (h : opsK X.P ops n l tm hp nid df pn finK = some (l', tm', hp', nid', df', pn')) (hh : awpO X ops l' Q ⟨tm', hp', nid', df', pn'⟩) : awpO X ops l Q ⟨tm, hp, nid, df, pn⟩ := by
 obtain ⟨_, _, _, _, _, _, h1, h2⟩ := opsK_sound (Q := Q) h
 simp only [finK, Option.some.injEq, Prod.mk.injEq] at h1
 obtain ⟨rfl, rfl, rfl, rfl, rfl, rfl⟩ := h1
 exact h2 hh
theorem rn (n : Nat) {id : Nat} {ops : Array Oper} {l' : List Oper} (h : keepK (X.H f id) tm (fun tm => opsK X.P ops n ops.toList tm hp nid df pn finK) = some (l', tm', hp', nid', df', pn')) (hh : awpO X ops l' Q ⟨tm', hp', nid', df', pn'⟩) :
  awp X f (.region id ops false) Q ⟨tm, hp, nid, df, pn⟩ := by
 rw [keepK_eq] at h
 exact awp_region (on n h hh)
theorem ra {id : Nat} {ops : Array Oper} {b : Code} (h : keepK (X.H f id) tm (fun tm => opsK X.P ops ops.size ops.toList tm hp nid df pn finK) = some ([], tm', hp', nid', df', pn')) (hh : awp X f b Q ⟨tm', hp', nid', df', pn'⟩) :
  awp X f (.seq (.region id ops false) b) Q ⟨tm, hp, nid, df, pn⟩ :=
 awp_seq (rn _ h (awpO_nil (.normal hh)))
theorem rz {ops : Array Oper} {b : Code} (hh : awp X f b Q ⟨tm, hp, nid, df, pn⟩) : awpO X ops [] (seqQ X f b Q) ⟨tm, hp, nid, df, pn⟩ := awpO_nil (.normal hh)
theorem ct {o : Operand} {a b : Code} {c : Bool} (hc : ev tm o = some (.c (.d (.bool c)))) (e : c = true) (h : awp X f a (condQ (X.H f (condKey a b)) nid Q) ⟨tm, hp, nid, df, pn⟩) : awp X f (.cond o a b) Q ⟨tm, hp, nid, df, pn⟩ :=
 awp_cond hc (fun _ => h) (fun e' => by rw [e] at e'; cases e')
theorem cf {o : Operand} {a b : Code} {c : Bool} (hc : ev tm o = some (.c (.d (.bool c)))) (e : c = false) (h : awp X f b (condQ (X.H f (condKey a b)) nid Q) ⟨tm, hp, nid, df, pn⟩) : awp X f (.cond o a b) Q ⟨tm, hp, nid, df, pn⟩ :=
 awp_cond hc (fun e' => by rw [e] at e'; cases e') (fun _ => h)
theorem gt {ops : Array Oper} {o q : Oper} {l : List Oper} {j d : Nat} {want b : Bool} (hg : o.guard = some (j, want)) (hq : ops[j]? = some q) (hd : q.dst = some d) (hl : look d tm = some (.c (.d (.bool b)))) (e : b = true)
  (e1 : setBK d true tm some = some tm') (h : awpO X ops (o :: l) Q ⟨tm', hp, nid, df, pn⟩) : awpO X ops (o :: l) Q ⟨tm, hp, nid, df, pn⟩ := by
 have _ := hg; have _ := hq; have _ := hd
 subst e
 rw [setBK_eq hl, Option.some.injEq] at e1
 rw [e1]; exact h
theorem gf {ops : Array Oper} {o q : Oper} {l : List Oper} {j d : Nat} {want b : Bool} (hg : o.guard = some (j, want)) (hq : ops[j]? = some q) (hd : q.dst = some d) (hl : look d tm = some (.c (.d (.bool b)))) (e : b = false)
  (e1 : setBK d false tm some = some tm') (h : awpO X ops (o :: l) Q ⟨tm', hp, nid, df, pn⟩) : awpO X ops (o :: l) Q ⟨tm, hp, nid, df, pn⟩ := by
 have _ := hg; have _ := hq; have _ := hd
 subst e
 rw [setBK_eq hl, Option.some.injEq] at e1
 rw [e1]; exact h
theorem lget_some {α : Type} {l : List α} {i : Int} {x : α} (h : lget l i = some x) : 0 ≤ i ∧ l[i.toNat]? = some x := by
 unfold lget at h
 split at h
 ·exact ⟨by assumption, h⟩
 ·cases h
def EvO (X : Ctx) (o : Oper) (s : St) (v : V) (s1 : St) (ft : Foot) : Prop := Evt fun k => evOp X.P (X.call k) s.nid o s = some (.val v s1, ft)
theorem po {ops : Array Oper} {o : Oper} {l : List Oper} {v : V} {tm1 : List (Nat × V)} {hp1 : List (Nat × List C)} {ft : Foot} {nid1 : Nat} (hop : EvO X o ⟨tm, hp, nid, df, pn⟩ v ⟨tm1, hp1, nid1, df, pn⟩ ft) (hw : wantedAt ops tm o = some true)
  (hk : putK o.dst v tm1 (fun tm => copyHp hp1 fun hp => some (tm, hp)) = some (tm', hp')) (h : awpO X ops l Q ⟨tm', hp', nid1, df, pn⟩) : awpO X ops (o :: l) Q ⟨tm, hp, nid, df, pn⟩ := by
 refine awpO_op (s := ⟨tm, hp, nid, df, pn⟩) hw hop ?_
 rw [show tm1 = (⟨tm1, hp1, nid1, df, pn⟩ : St).tmps from rfl, putK_eq, copyHp_eq] at hk
 simp only [Option.some.injEq, Prod.mk.injEq] at hk
 obtain ⟨rfl, rfl⟩ := hk
 rw [putDst, putSt_rest]
 exact h
def copyLc {β : Type} : List Lc → (List Lc → β) → β
 | [], k => k []
 | x :: r, k => match x with
  | .tmp a => copyLc r fun r => k (.tmp a :: r)
  | .blk a => copyLc r fun r => k (.blk a :: r)
  | .nid => copyLc r fun r => k (.nid :: r)
  | .defs => copyLc r fun r => k (.defs :: r)
  | .vb a => copyLc r fun r => k (.vb a :: r)
  | .vt a => copyLc r fun r => k (.vt a :: r)
theorem copyLc_eq {β : Type} : ∀ {l : List Lc} {k : List Lc → β}, copyLc l k = k l
 | [], _ => rfl
 | x :: r, k => by cases x <;> simp only [copyLc, copyLc_eq]
def fpK {β : Type} (f : Fp) (k : Fp → β) : β := match f with
 | ⟨rd, wr, refs, all⟩ => copyLc rd fun rd => copyLc wr fun wr => copyL refs fun refs => match all with
  | true => k ⟨rd, wr, refs, true⟩
  | false => k ⟨rd, wr, refs, false⟩
theorem fpK_eq {β : Type} {f : Fp} {k : Fp → β} : fpK f k = k f := by
 obtain ⟨rd, wr, refs, all⟩ := f
 simp only [fpK, copyLc_eq, copyL_eq]
 cases all <;> rfl
theorem putD_rest {dst : Option Nat} {v : V} {tm1 : List (Nat × V)} {hp1 : List (Nat × List C)} {s2 : St} (h : putD dst v ⟨tm1, hp1, nid, df, pn⟩ = some s2) : s2 = ⟨s2.tmps, s2.heap, nid, df, pn⟩ := by
 cases dst with
 | none => simp only [putD, Option.some.injEq] at h; subst h; rfl
 | some d =>
  simp only [putD] at h
  split at h
  ·simp only [Option.some.injEq] at h; subst h; rfl
  ·simp at h
theorem pd {ops : Array Oper} {vs : List Nat} {base i i' : Nat} {pre pre' : List Fp} {o : Oper} {l : List Oper} {v : V} {tm1 : List (Nat × V)} {hp1 : List (Nat × List C)} {ft : Foot} {nid1 : Nat} (hop : EvO X o ⟨tm, hp, nid, df, pn⟩ v ⟨tm1, hp1, nid1, df, pn⟩ ft) (hw : wantedAt ops tm o = some true) (hm : makesBlk o = false)
  (hk : (putD o.dst (calmAt vs o.dst v) ⟨tm1, hp1, nid1, df, pn⟩).bind (fun s2 => copyL s2.tmps fun tm => copyHp s2.heap fun hp => some (tm, hp)) = some (tm', hp'))
  (hf : fpK ((fpOf ops o ⟨tm, hp, nid, df, pn⟩ (calmAt vs o.dst v) ⟨tm1, hp1, nid1, df, pn⟩ ft).fill ⟨tm', hp', nid1, df, pn⟩) (fun fp => copyL (pre ++ [fp]) some) = some pre') (hi : i + 1 = i')
  (h : awpD X ops vs base pre' l i' Q ⟨tm', hp', nid1, df, pn⟩) : awpD X ops vs base pre (o :: l) i Q ⟨tm, hp, nid, df, pn⟩ := by
 rw [fpK_eq, copyL_eq, Option.some.injEq] at hf
 subst hi hf
 rw [Option.bind_eq_some_iff] at hk
 obtain ⟨s2, h2, hk⟩ := hk
 rw [copyL_eq, copyHp_eq] at hk
 simp only [Option.some.injEq, Prod.mk.injEq] at hk
 have hs2 := putD_rest h2
 obtain ⟨rfl, rfl⟩ := hk
 rw [← hs2] at h
 exact awpD_ev (s := ⟨tm, hp, nid, df, pn⟩) hw hm hop h2 h
def dopsK {α : Type} (P : Program) (ops : Array Oper) (vs : List Nat) (base : Nat) (nid : Nat) (df : List (Nat × List Nat)) (pn : Option D) : Nat → List Oper → Nat → List Fp → List (Nat × V) → List (Nat × List C) → (List Oper → Nat → List Fp → List (Nat × V) → List (Nat × List C) → Option α) → Option α
 | 0, l, i, pre, tm, hp, k => copyL pre fun pre => k l i pre tm hp
 | _ + 1, [], _, _, _, _, _ => none
 | n + 1, o :: l, i, pre, tm, hp, k => match wantedAt ops tm o with
  | none => none
  | some false => match putD o.dst (.c .undef) ⟨tm, hp, nid, df, pn⟩ with
   | some s1 => copyL s1.tmps fun tm => copyHp s1.heap fun hp => fpK (Fp.fill ⟨(readsOf ops o).map .tmp, dstLc o.dst (.c .undef), [], false⟩ ⟨tm, hp, nid, df, pn⟩) fun fp => dopsK P ops vs base nid df pn n l (i + 1) (pre ++ [fp]) tm hp k
   | none => none
  | some true => match isDefer o with
   | true => none
   | false => match drawOp P noCall ops vs (base + i) o ⟨tm, hp, nid, df, pn⟩ with
    | some (.val v s1, ft) => match putD o.dst v s1 with
     | some s2 => copyL s2.tmps fun tm => copyHp s2.heap fun hp => fpK (ft.fill ⟨tm, hp, nid, df, pn⟩) fun fp => dopsK P ops vs base nid df pn n l (i + 1) (pre ++ [fp]) tm hp k
     | none => none
    | _ => none
theorem drawOp_rest {P : Program} {ops : Array Oper} {vs : List Nat} {id : Nat} {o : Oper} {tm : List (Nat × V)} {hp : List (Nat × List C)} {nid : Nat} {df : List (Nat × List Nat)} {pn : Option D} {v : V} {s1 : St} {ft : Fp}
  (h : drawOp P noCall ops vs id o ⟨tm, hp, nid, df, pn⟩ = some (.val v s1, ft)) (hd : isDefer o = false) : s1 = ⟨s1.tmps, s1.heap, nid, df, pn⟩ := by
 unfold drawOp at h
 split at h
 ·unfold drawNew at h
  split at h
  ·split at h
   ·split at h
    ·simp at h
    ·simp only [Option.some.injEq, Prod.mk.injEq, ORes.val.injEq] at h
     obtain ⟨⟨_, rfl⟩, _⟩ := h; rfl
   ·simp at h
  ·simp at h
 ·rename_i hm
  unfold drawOld at h
  split at h
  ·rename_i hev
   simp only [Option.some.injEq, Prod.mk.injEq, ORes.val.injEq] at h
   obtain ⟨⟨_, rfl⟩, _⟩ := h
   have := evOp_rest rfl (fun e => absurd e hm) hev hd
   simp only [Bool.not_eq_true] at hm
   simpa only [hm] using this
  ·simp at h
  ·simp at h
theorem drawOp_noCall {P : Program} {ops : Array Oper} {vs : List Nat} {id : Nat} {o : Oper} {s s1 : St} {v : V} {ft : Fp} (h : drawOp P noCall ops vs id o s = some (.val v s1, ft)) (call : Call) : drawOp P call ops vs id o s = some (.val v s1, ft) := by
 unfold drawOp at h ⊢
 split at h
 ·rename_i hm
  rw [if_pos hm]; exact h
 ·rename_i hm
  rw [if_neg hm]
  unfold drawOld at h ⊢
  split at h
  ·rename_i hev
   rw [evOp_noCall hev call]; exact h
  ·simp at h
  ·simp at h
theorem dopsK_sound {α : Type} {ops : Array Oper} {vs : List Nat} {base : Nat} : ∀ {n : Nat} {l : List Oper} {i : Nat} {pre : List Fp} {tm : List (Nat × V)} {hp : List (Nat × List C)} {k : List Oper → Nat → List Fp → List (Nat × V) → List (Nat × List C) → Option α} {a : α},
  dopsK X.P ops vs base nid df pn n l i pre tm hp k = some a → ∃ l' i' pre' tm' hp', k l' i' pre' tm' hp' = some a ∧ (awpD X ops vs base pre' l' i' Q ⟨tm', hp', nid, df, pn⟩ → awpD X ops vs base pre l i Q ⟨tm, hp, nid, df, pn⟩)
 | 0, l, i, pre, tm, hp, k, a, h => by
  simp only [dopsK, copyL_eq] at h
  exact ⟨l, i, pre, _, _, h, fun h => h⟩
 | n + 1, [], i, pre, tm, hp, k, a, h => by simp [dopsK] at h
 | n + 1, o :: l, i, pre, tm, hp, k, a, h => by
  simp only [dopsK, copyL_eq, copyHp_eq, fpK_eq] at h
  split at h
  ·simp at h
  ·rename_i hw
   split at h
   ·rename_i s1 hp
    have hr := putD_rest hp
    obtain ⟨l', i', pre', tm', hp', h1, h2⟩ := dopsK_sound h
    refine ⟨l', i', pre', tm', hp', h1, fun hh => awpD_skip hw hp ?_⟩
    have := h2 hh
    rw [← hr] at this
    exact this
   ·simp at h
  ·rename_i hw
   split at h
   ·simp at h
   ·rename_i hd
    split at h
    ·rename_i v s1 ft hop
     have hr1 := drawOp_rest hop hd
     split at h
     ·rename_i s2 hp
      have hr : s2 = ⟨s2.tmps, s2.heap, nid, df, pn⟩ := by
       rw [hr1] at hp
       exact putD_rest hp
      obtain ⟨l', i', pre', tm', hp', h1, h2⟩ := dopsK_sound h
      refine ⟨l', i', pre', tm', hp', h1, fun hh => awpD_rfl hw (fun call => drawOp_noCall hop call) hp ?_⟩
      have := h2 hh
      rw [← hr] at this
      exact this
     ·simp at h
    ·simp at h
def dfinK (l : List Oper) (i : Nat) (pre : List Fp) (tm : List (Nat × V)) (hp : List (Nat × List C)) : Option (List Oper × Nat × List Fp × List (Nat × V) × List (Nat × List C)) := some (l, i, pre, tm, hp)
theorem don (n : Nat) {ops : Array Oper} {vs : List Nat} {base i i' : Nat} {pre pre' : List Fp} {l l' : List Oper} (h : dopsK X.P ops vs base nid df pn n l i pre tm hp dfinK = some (l', i', pre', tm', hp'))
  (hh : awpD X ops vs base pre' l' i' Q ⟨tm', hp', nid, df, pn⟩) : awpD X ops vs base pre l i Q ⟨tm, hp, nid, df, pn⟩ := by
 obtain ⟨_, _, _, _, _, h1, h2⟩ := dopsK_sound (Q := Q) h
 simp only [dfinK, Option.some.injEq, Prod.mk.injEq] at h1
 obtain ⟨rfl, rfl, rfl, rfl, rfl⟩ := h1
 exact h2 hh
theorem drn (n : Nat) {id i' m : Nat} {ops : Array Oper} {pre' : List Fp} {l' : List Oper} (hn : nid + ops.size = m)
  (h : keepK (X.H f id) tm (fun tm => dopsK X.P ops (appended? ops) nid m df pn n ops.toList 0 [] tm hp dfinK) = some (l', i', pre', tm', hp')) (hh : awpD X ops (appended? ops) nid pre' l' i' Q ⟨tm', hp', m, df, pn⟩) :
  awp X f (.region id ops true) Q ⟨tm, hp, nid, df, pn⟩ := by
 rw [keepK_eq] at h
 subst hn
 exact awp_draw (don n h hh)
def Lc.code : Lc → Nat
 | .tmp x => 6 * x
 | .blk b => 6 * b + 1
 | .nid => 2
 | .defs => 3
 | .vb b => 6 * b + 4
 | .vt u => 6 * u + 5
def maskL : List Lc → Nat
 | [] => 0
 | x :: r => Nat.lor (Nat.shiftLeft 1 x.code) (maskL r)
theorem maskL_mem {x : Lc} : ∀ {l : List Lc}, x ∈ l → (maskL l).testBit x.code = true
 | [], h => by simp at h
 | y :: r, h => by
  show ((1 <<< y.code) ||| maskL r).testBit x.code = true
  rw [Nat.testBit_or]
  rcases List.mem_cons.1 h with rfl | h
  ·simp
  ·rw [maskL_mem h]; simp
theorem apart_of {l m : List Lc} (h : Nat.beq (Nat.land (maskL l) (maskL m)) 0 = true) : apart l m = true := by
 have h := Nat.eq_of_beq_eq_true h
 simp only [apart, List.all_eq_true, Bool.not_eq_true']
 intro x hx
 cases hc : m.contains x with
 | false => rfl
 | true =>
  rw [List.contains_iff_mem] at hc
  have h1 : (maskL l &&& maskL m).testBit x.code = true := by rw [Nat.testBit_and, maskL_mem hx, maskL_mem hc]; rfl
  rw [show maskL l &&& maskL m = 0 from h] at h1
  simp at h1
structure FpM where
 r : Nat
 w : Nat
 all : Bool
def Fp.toM (f : Fp) : FpM := ⟨maskL f.reads, maskL f.writes, f.all⟩
def FpM.apart (f g : FpM) : Bool := match f.all, g.all with
 | false, false => Nat.beq (Nat.land f.w (Nat.lor g.r g.w)) 0 && Nat.beq (Nat.land g.w f.r) 0
 | _, _ => false
theorem maskL_append : ∀ l m : List Lc, maskL (l ++ m) = Nat.lor (maskL l) (maskL m)
 | [], m => by show maskL m = 0 ||| maskL m; simp
 | x :: l, m => by
  show (1 <<< x.code) ||| maskL (l ++ m) = ((1 <<< x.code) ||| maskL l) ||| maskL m
  rw [maskL_append l m]
  exact (Nat.or_assoc ..).symm
theorem FpM.apart_ok {f g : Fp} (h : f.toM.apart g.toM = true) : f.apart g = true := by
 unfold FpM.apart Fp.toM at h
 simp only at h
 split at h
 ·rename_i hf hg
  simp only [Bool.and_eq_true] at h
  simp only [Fp.apart, hf, hg, Bool.not_false, Bool.true_and, Bool.and_eq_true]
  exact ⟨apart_of (by rw [maskL_append]; exact h.1), apart_of h.2⟩
 ·simp at h
def edgesM (acc : List Nat) : List Edge → Nat → Nat
 | [], m => m
 | e :: r, m => edgesM acc r (match Region.binds .any e with
  | true => Nat.lor (Nat.lor (Nat.shiftLeft 1 e.on) (acc.getD e.on 0)) m
  | false => m)
def beforesM : List Oper → List Nat → List Nat
 | [], acc => acc
 | o :: r, acc => beforesM r (acc ++ [edgesM acc o.after.toList 0])
def BitsIn (m : Nat) (l : List Nat) : Prop := ∀ i, m.testBit i = true → i ∈ l
theorem edgesM_in {accM : List Nat} {acc : List (List Nat)} (ha : ∀ j, BitsIn (accM.getD j 0) (acc.getD j [])) : ∀ (es : List Edge) (m : Nat) (l : List Nat), BitsIn m l →
  BitsIn (edgesM accM es m) (es.foldl (fun l e => if Region.binds .any e then e.on :: (acc.getD e.on [] ++ l) else l) l)
 | [], m, l, h => h
 | e :: es, m, l, h => by
  simp only [edgesM, List.foldl_cons]
  refine edgesM_in ha es _ _ ?_
  cases hb : Region.binds .any e with
  | false => simpa using h
  | true =>
   simp only [if_true]
   intro i hi
   rw [show Nat.lor (Nat.lor (Nat.shiftLeft 1 e.on) (accM.getD e.on 0)) m = ((1 <<< e.on) ||| accM.getD e.on 0) ||| m from rfl, Nat.testBit_or, Nat.testBit_or] at hi
   simp only [Bool.or_eq_true] at hi
   rcases hi with (hi | hi) | hi
   ·have : i = e.on := by
     rw [Nat.testBit_shiftLeft] at hi
     simp only [Bool.and_eq_true, decide_eq_true_eq] at hi
     have h2 := hi.2
     by_cases hz : i - e.on = 0
     ·omega
     ·rw [Nat.testBit_one_eq_true_iff_self_eq_zero] at h2
      exact absurd h2 hz
    rw [this]; simp
   ·exact List.mem_cons_of_mem _ (List.mem_append_left _ (ha _ _ hi))
   ·exact List.mem_cons_of_mem _ (List.mem_append_right _ (h _ hi))
theorem beforesM_in : ∀ (ops : List Oper) (accM : List Nat) (acc : List (List Nat)), accM.length = acc.length → (∀ j, BitsIn (accM.getD j 0) (acc.getD j [])) →
  ∀ j, BitsIn ((beforesM ops accM).getD j 0) ((befores ops acc).getD j [])
 | [], accM, acc, _, h => by simpa [beforesM, befores] using h
 | o :: r, accM, acc, hl, h => by
  simp only [beforesM, befores]
  refine beforesM_in r _ _ (by simp [hl]) ?_
  intro j
  have he := edgesM_in h o.after.toList 0 [] (by intro i hi; simp at hi)
  by_cases hj : j < accM.length
  ·simp only [List.getD_eq_getElem?_getD]
   rw [List.getElem?_append_left hj, List.getElem?_append_left (hl ▸ hj), ← List.getD_eq_getElem?_getD, ← List.getD_eq_getElem?_getD]
   exact h j
  ·by_cases hj' : j = accM.length
   ·subst hj'
    simp only [List.getD_eq_getElem?_getD, List.getElem?_append_right (Nat.le_refl _), Nat.sub_self]
    rw [List.getElem?_append_right (by omega)]
    simpa [hl] using he
   ·intro i hi
    simp only [List.getD_eq_getElem?_getD] at hi
    rw [List.getElem?_eq_none (by simp; omega)] at hi
    simp at hi
def looseK (o : Oper) (f : Fp) : Bool :=
 !f.all && f.writes.all fun l => match l, o.dst with
  | .tmp y, some x => Nat.beq y x
  | _, _ => false
theorem looseK_ok {o : Oper} {f : Fp} (h : looseK o f = true) : loose o f = true := by
 simp only [looseK, loose, Bool.and_eq_true, List.all_eq_true] at h ⊢
 refine ⟨h.1, fun l hl => ?_⟩
 have := h.2 l hl
 split at this
 ·rename_i y x hx
  rw [hx]
  simp only [beq_iff_eq, Lc.tmp.injEq]
  exact Nat.eq_of_beq_eq_true this
 ·simp at this
def drawOkM (pn : Bool) (ops : Array Oper) (base : Nat) (fs : List Fp) : Bool :=
 let bs := beforesM ops.toList []
 let ms := fs.map Fp.toM
 let k := fs.length
 ((List.range ops.size).all fun j =>
  ((ops.getD j default).after.toList.all fun e => !Region.binds .any e || Nat.blt e.on j) &&
  (List.range j).all fun i =>
   (bs.getD j 0).testBit i ||
   (match Nat.blt j k with
    | true => match ms[i]?, ms[j]? with
     | some a, some b => a.apart b || pn && Nat.beq (j + 1) k && looseK (ops.getD i default) (fs.getD i default)
     | _, _ => false
    | false => !(Nat.beq (i + 1) k))) &&
 (List.range k).all fun i => !makesBlk (ops.getD i default) ||
  (List.range k).all fun j => i == j || (bs.getD j 0).testBit i || !(fs.getD j default).refs.contains (base + i)
theorem drawOkM_ok {pn : Bool} {ops : Array Oper} {base : Nat} {fs : List Fp} (h : drawOkM pn ops base fs = true) : drawOk pn ops base fs = true := by
 have hb := beforesM_in ops.toList [] [] rfl (by intro j i hi; simp at hi)
 have blt : ∀ {a b : Nat}, Nat.blt a b = true → a < b := fun h => Nat.le_of_ble_eq_true h
 unfold drawOkM at h
 unfold drawOk
 simp only [Bool.and_eq_true, List.all_eq_true, List.mem_range, Bool.or_eq_true, Bool.not_eq_true'] at h ⊢
 refine ⟨fun j hj => ⟨fun e he => ?_, fun i hi => ?_⟩, fun i hi => ?_⟩
 ·rcases (h.1 j hj).1 e he with h1 | h1
  ·exact .inl h1
  ·exact .inr (by simpa using blt h1)
 ·rcases (h.1 j hj).2 i hi with h1 | h1
  ·exact .inl (by rw [List.contains_iff_mem]; exact hb j i h1)
  ·right
   split at h1
   ·rename_i hjk
    rw [if_pos (blt hjk)]
    split at h1
    ·rename_i a b ha hb'
     rw [List.getElem?_map, Option.map_eq_some_iff] at ha hb'
     obtain ⟨fa, hfa, rfl⟩ := ha
     obtain ⟨fb, hfb, rfl⟩ := hb'
     rcases Bool.or_eq_true _ _ |>.mp h1 with h1 | h1
     ·have := FpM.apart_ok h1
      rw [Bool.or_eq_true]; left
      simpa [List.getD_eq_getElem?_getD, hfa, hfb] using this
     ·simp only [Bool.and_eq_true] at h1
      rw [Bool.or_eq_true]; right
      simp only [Bool.and_eq_true, decide_eq_true_eq]
      exact ⟨⟨h1.1.1, Nat.eq_of_beq_eq_true h1.1.2⟩, looseK_ok h1.2⟩
    ·simp at h1
   ·rename_i hjk
    have hk : ¬ j < fs.length := by
     intro hlt
     have : Nat.blt j fs.length = true := Nat.ble_eq_true_of_le hlt
     rw [hjk] at this; simp at this
    rw [if_neg hk]
    simp only [decide_eq_true_eq]
    intro e
    rw [e] at h1
    simp at h1
 ·rcases h.2 i hi with h1 | h1
  ·exact .inl h1
  ·refine .inr fun j hj => ?_
   rcases h1 j hj with (h2 | h2) | h2
   ·exact .inl (.inl h2)
   ·exact .inl (.inr (by rw [List.contains_iff_mem]; exact hb j i h2))
   ·exact .inr h2
theorem dz {ops : Array Oper} {vs : List Nat} {base i : Nat} {pre : List Fp} {b : Code} (hok : (drawOkM false ops base pre && Nat.ble base nid) = true) (hh : awp X f b Q ⟨tm, hp, nid, df, pn⟩) : awpD X ops vs base pre [] i (seqQ X f b Q) ⟨tm, hp, nid, df, pn⟩ := by
 simp only [Bool.and_eq_true] at hok
 exact awpD_nil (by simp only [Bool.and_eq_true, decide_eq_true_eq]; exact ⟨drawOkM_ok hok.1, Nat.le_of_ble_eq_true hok.2⟩) (.normal hh)
theorem dz' {ops : Array Oper} {vs : List Nat} {base i : Nat} {pre : List Fp} (hok : (drawOkM false ops base pre && Nat.ble base nid) = true) (hh : Q .normal ⟨tm, hp, nid, df, pn⟩) : awpD X ops vs base pre [] i Q ⟨tm, hp, nid, df, pn⟩ := by
 simp only [Bool.and_eq_true] at hok
 exact awpD_nil (by simp only [Bool.and_eq_true, decide_eq_true_eq]; exact ⟨drawOkM_ok hok.1, Nat.le_of_ble_eq_true hok.2⟩) hh
theorem dgt {ops : Array Oper} {vs : List Nat} {base i : Nat} {pre : List Fp} {o q : Oper} {l : List Oper} {j d : Nat} {want b : Bool} (hg : o.guard = some (j, want)) (hq : ops[j]? = some q) (hd : q.dst = some d) (hl : look d tm = some (.c (.d (.bool b)))) (e : b = true)
  (e1 : setBK d true tm some = some tm') (h : awpD X ops vs base pre (o :: l) i Q ⟨tm', hp, nid, df, pn⟩) : awpD X ops vs base pre (o :: l) i Q ⟨tm, hp, nid, df, pn⟩ := by
 have _ := hg; have _ := hq; have _ := hd
 subst e
 rw [setBK_eq hl, Option.some.injEq] at e1
 rw [e1]; exact h
theorem dgf {ops : Array Oper} {vs : List Nat} {base i : Nat} {pre : List Fp} {o q : Oper} {l : List Oper} {j d : Nat} {want b : Bool} (hg : o.guard = some (j, want)) (hq : ops[j]? = some q) (hd : q.dst = some d) (hl : look d tm = some (.c (.d (.bool b)))) (e : b = false)
  (e1 : setBK d false tm some = some tm') (h : awpD X ops vs base pre (o :: l) i Q ⟨tm', hp, nid, df, pn⟩) : awpD X ops vs base pre (o :: l) i Q ⟨tm, hp, nid, df, pn⟩ := by
 have _ := hg; have _ := hq; have _ := hd
 subst e
 rw [setBK_eq hl, Option.some.injEq] at e1
 rw [e1]; exact h
theorem esget {o : Oper} {t : TypeId} {x i : Operand} {u : Str} {k : IntKind} {n y : Int} (hy : sget u n = some y) (ho : o.op = .index t x i) (ht : X.P.underlying t = some .string) (hx : ev tm x = some (.c (.d (.str u)))) (hi : ev tm i = some (.c (.d (.int k n)))) :
  EvO X o ⟨tm, hp, nid, df, pn⟩ (.d (.int .u8 y)) ⟨tm, hp, nid, df, pn⟩ ⟨readsBlk o tm, [], []⟩ := by
 unfold sget at hy
 split at hy
 ·rename_i h0
  rw [Option.map_eq_some_iff] at hy
  obtain ⟨b, hb, rfl⟩ := hy
  exact .of fun _ => ev_index_str (s := ⟨tm, hp, nid, df, pn⟩) ho ht hx hi h0 hb
 ·cases hy
theorem elget {α : Type} {g : α → D} (g' : α → D) (hg : ∀ a, g a = g' a) {u : List α} {y : α} {n : Int} {o : Oper} {t e : TypeId} {x i : Operand} {k : IntKind} {sz : Nat} (hy : lget u n = some y)
  (ho : o.op = .indexAddr t x i) (ht : telem X.P t = some e) (hz : some sz = tsz X.P e) (hx : (ev tm x).bind V.toD = some (.list sz (u.map g))) (hi : ev tm i = some (.c (.d (.int k n)))) :
  EvO X o ⟨tm, hp, nid, df, pn⟩ (.rptr (g' y).cells) ⟨tm, hp, nid, df, pn⟩ ⟨readsBlk o tm, [], []⟩ := by
 obtain ⟨h0, hy⟩ := lget_some hy
 rw [← hg]
 exact .of fun _ => ev_indexAddr (s := ⟨tm, hp, nid, df, pn⟩) (d := g y) ho ht hz hx hi h0 (by simp [hy])
theorem esfrom {o : Oper} {t : TypeId} {x lo : Operand} {u y : Str} {k : IntKind} {n : Int} (hy : sfrom u n = some y)
  (ho : o.op = .slice t x (some lo) none none) (ht : X.P.underlying t = some .string) (hx : evT X.P t tm x = some (.c (.d (.str u)))) (hi : ev tm lo = some (.c (.d (.int k n)))) :
  EvO X o ⟨tm, hp, nid, df, pn⟩ (.d (.str y)) ⟨tm, hp, nid, df, pn⟩ ⟨readsBlk o tm, [], []⟩ := by
 unfold sfrom at hy
 split at hy
 ·rename_i hb
  simp only [Option.some.injEq] at hy; subst hy
  have := fun call => ev_slice_str (P := X.P) (call := call) (id := nid) (s := ⟨tm, hp, nid, df, pn⟩) (a := n.toNat) (b := u.length) ho ht hx (optNat_some hi hb.1) rfl hb.2 (Nat.le_refl _)
  rw [List.take_length] at this
  exact .of fun _ => this _
 ·cases hy
theorem esto {o : Oper} {t : TypeId} {x hh : Operand} {u y : Str} {k : IntKind} {n : Int} (hy : sto u n = some y)
  (ho : o.op = .slice t x none (some hh) none) (ht : X.P.underlying t = some .string) (hx : evT X.P t tm x = some (.c (.d (.str u)))) (hi : ev tm hh = some (.c (.d (.int k n)))) :
  EvO X o ⟨tm, hp, nid, df, pn⟩ (.d (.str y)) ⟨tm, hp, nid, df, pn⟩ ⟨readsBlk o tm, [], []⟩ := by
 unfold sto at hy
 split at hy
 ·rename_i hb
  simp only [Option.some.injEq] at hy; subst hy
  exact .of fun _ => ev_slice_str (s := ⟨tm, hp, nid, df, pn⟩) (a := 0) (b := n.toNat) ho ht hx rfl (optNat_some hi hb.1) (Nat.zero_le _) hb.2
 ·cases hy
theorem escat {o : Oper} {t t' : TypeId} {x y : Operand} {a b r : Str} (hy : scat a b = some r)
  (ho : o.op = .binOp .add t x y t') (hx : evT X.P t tm x = some (.c (.d (.str a)))) (hy' : evT X.P t tm y = some (.c (.d (.str b)))) :
  EvO X o ⟨tm, hp, nid, df, pn⟩ (.d (.str r)) ⟨tm, hp, nid, df, pn⟩ ⟨readsBlk o tm, [], []⟩ := by
 unfold scat at hy
 split at hy
 ·simp only [Option.some.injEq] at hy; subst hy
  exact .of fun _ => ev_concat (s := ⟨tm, hp, nid, df, pn⟩) ho hx hy' (by assumption)
 ·cases hy
theorem elfrom {α : Type} {g : α → D} {u y : List α} {o : Oper} {t e : TypeId} {x lo : Operand} {v : V} {k : IntKind} {n : Int} {sz : Nat} (hy : lfrom u n = some y)
  (ho : o.op = .slice t x (some lo) none none) (ht : X.P.underlying t = some (.slice e)) (hz : tsz X.P e = some sz) (hx : evT X.P t tm x = some v) (hv : v.toD = some (.list sz (u.map g))) (hi : ev tm lo = some (.c (.d (.int k n)))) :
  EvO X o ⟨tm, hp, nid, df, pn⟩ (.d (.list sz (y.map g))) ⟨tm, hp, nid, df, pn⟩ ⟨readsBlk o tm, [], []⟩ := by
 unfold lfrom at hy
 split at hy
 ·rename_i hb
  simp only [Option.some.injEq] at hy; subst hy
  have := fun call => ev_slice_list (P := X.P) (call := call) (id := nid) (s := ⟨tm, hp, nid, df, pn⟩) (a := n.toNat) (b := u.length) (lo := some lo) (hi := none) ho ht hz hx hv (optNat_some hi hb.1) (by simp [optNat]) hb.2 (by simp)
  rw [show u.length = (u.map g).length from (List.length_map ..).symm, List.take_length, ← List.map_drop] at this
  exact .of fun _ => this _
 ·cases hy
theorem elmid {α : Type} {g : α → D} {u y : List α} {o : Oper} {t e : TypeId} {x lo hh : Operand} {v : V} {k k' : IntKind} {n m : Int} {sz : Nat} (hy : lmid u n m = some y)
  (ho : o.op = .slice t x (some lo) (some hh) none) (ht : X.P.underlying t = some (.slice e)) (hz : tsz X.P e = some sz) (hx : evT X.P t tm x = some v) (hv : v.toD = some (.list sz (u.map g))) (hi : ev tm lo = some (.c (.d (.int k n)))) (hi' : ev tm hh = some (.c (.d (.int k' m)))) :
  EvO X o ⟨tm, hp, nid, df, pn⟩ (.d (.list sz (y.map g))) ⟨tm, hp, nid, df, pn⟩ ⟨readsBlk o tm, [], []⟩ := by
 unfold lmid at hy
 split at hy
 ·rename_i hb
  simp only [Option.some.injEq] at hy; subst hy
  have := fun call => ev_slice_list (P := X.P) (call := call) (id := nid) (s := ⟨tm, hp, nid, df, pn⟩) (a := n.toNat) (b := m.toNat) ho ht hz hx hv (optNat_some hi hb.1) (optNat_some hi' (by omega)) (by omega) (by simpa using hb.2.2)
  rw [← List.map_take, ← List.map_drop] at this
  exact .of fun _ => this _
 ·cases hy
theorem ellen {α : Type} {g : α → D} {u : List α} {o : Oper} {c : Go.Call} {t e : TypeId} {x : Operand} {v : V} {sz : Nat}
  (ho : o.op = .call c) (hc : c.callee = .builtin .len) (ha : c.args.toList = [x]) (hat : c.argTypes.toList = [t]) (ht : X.P.underlying t = some (.slice e)) (hx : ev tm x = some v) (hv : v.toD = some (.list sz (u.map g))) :
  EvO X o ⟨tm, hp, nid, df, pn⟩ (.d (.int .i64 u.length)) ⟨tm, hp, nid, df, pn⟩ Foot.none :=
 .of fun _ => by simp only [evOp, evR, ho, hc, ha, hat, hx, Option.bind_some, lenV_data hv, ht, List.length_map]
theorem esbytes {o : Oper} {src dst e : TypeId} {x : Operand} {a : Str} {y : List Int} (hy : sbytes a = some y)
  (ho : o.op = .convert src dst x) (hs : X.P.underlying src = some .string) (hdd : X.P.underlying dst = some (.slice e)) (he : X.P.underlying e = some (.int .u8)) (hz : tsz X.P e = some 1) (hx : evT X.P src tm x = some (.c (.d (.str a)))) :
  EvO X o ⟨tm, hp, nid, df, pn⟩ (.c (.own 1 (y.map (D.int .u8)))) ⟨tm, hp, nid, df, pn⟩ ⟨readsBlk o tm, [], []⟩ := by
 unfold sbytes at hy
 split at hy
 ·rename_i hb
  simp only [Option.some.injEq] at hy; subst hy
  have := fun call => ev_bytes (P := X.P) (call := call) (id := nid) (s := ⟨tm, hp, nid, df, pn⟩) ho hs hdd he hz hx hb
  rw [show a.map byteD = (a.map u8I).map (D.int .u8) from by rw [List.map_map]; rfl] at this
  exact .of fun _ => this _
 ·cases hy
theorem toBytes_ints : ∀ a : List Int, toBytes (a.map (D.int .u8)) = some (bstr a)
 | [] => rfl
 | n :: a => by
  show (toBytes (a.map (D.int .u8))).map (UInt8.ofNat n.toNat :: ·) = _
  rw [toBytes_ints a]; rfl
theorem ebstr {o : Oper} {src dst e : TypeId} {x : Operand} {v : V} {a : List Int}
  (ho : o.op = .convert src dst x) (hs : X.P.underlying src = some (.slice e)) (hdd : X.P.underlying dst = some .string) (he : X.P.underlying e = some (.int .u8)) (hx : evT X.P src tm x = some v) (hv : v.toD = some (.list 1 (a.map (D.int .u8)))) :
  EvO X o ⟨tm, hp, nid, df, pn⟩ (.d (.str (bstr a))) ⟨tm, hp, nid, df, pn⟩ ⟨readsBlk o tm, [], []⟩ := by
 have hcv : convV X.P src dst v = some (.d (.str (bstr a))) := by
  unfold convV
  rw [hs, hdd]
  cases v with
  | c y =>
   cases y with
   | d z => simp only [V.toD, C.toD, Option.some.injEq] at hv; subst hv; simp only [he, V.toD, C.toD, toBytes_ints, Option.map_some]
   | own z ys => simp only [V.toD, C.toD, Option.some.injEq, D.list.injEq] at hv; obtain ⟨rfl, rfl⟩ := hv; simp only [he, V.toD, C.toD, toBytes_ints, Option.map_some]
   | full z ys => simp only [V.toD, C.toD, Option.some.injEq, D.list.injEq] at hv; obtain ⟨rfl, rfl⟩ := hv; simp only [he, V.toD, C.toD, toBytes_ints, Option.map_some]
   | nilsl z =>
    simp only [V.toD, C.toD, Option.some.injEq, D.list.injEq] at hv
    obtain ⟨rfl, h⟩ := hv
    have : a = [] := by cases a <;> simp_all
    subst this
    simp only [he, V.toD, C.toD, toBytes, Option.map_some]
    rfl
   | _ => simp [V.toD, C.toD] at hv
  | view l z ys => simp only [V.toD, Option.some.injEq, D.list.injEq] at hv; obtain ⟨rfl, rfl⟩ := hv; simp only [he, V.toD, toBytes_ints, Option.map_some]
  | vagg cs => simp [V.toD] at hv
  | _ => simp [V.toD] at hv
 exact .of fun _ => by simp only [evOp, ho, evR, hx, hcv]
theorem eappv {α : Type} {g : α → D} {u m y : List α} {o : Oper} {c : Go.Call} {t s e : TypeId} {x z : Operand} {n w : Nat} {zs : List D} {zv : V} {ms : List D} (hy : lapp u m = some y) (hm : ms = m.map g)
  (ho : o.op = .call c) (hc : c.callee = .builtin .append) (ha : c.args.toList = [x, z]) (hat : c.argTypes.toList = [t, s]) (ht : telem X.P t = some e) (hn : tsz X.P e = some n) (hu : isSource X.P s = true)
  (hb : (Nat.ble (X.P.bytesOf e) 1024 && zeroFits X.P e n) = true) (hx : evT X.P t tm x = some (.view (.tmp w) n (u.map g))) (hw : look w tm = some (.c (.own n zs))) (hz : evT X.P s tm z = some zv) (hzz : appended zv = some (n, ms)) :
  EvO X o ⟨tm, hp, nid, df, pn⟩ (.c (.own n (y.map g))) ⟨plainAt w tm, hp, nid, df, pn⟩ (appendFoot x tm) := by
 subst hm
 unfold lapp at hy
 split at hy
 ·rename_i hl
  simp only [Option.some.injEq] at hy; subst hy
  simp only [Bool.and_eq_true] at hb
  have := fun call => ev_append_view (P := X.P) (call := call) (id := nid) (s := ⟨tm, hp, nid, df, pn⟩) ho hc ha hat ht hn hu ⟨Nat.le_of_ble_eq_true hb.1, hb.2⟩ hx hw hz hzz (by simpa using hl)
  rw [← List.map_append] at this
  exact .of fun _ => this _
 ·cases hy
theorem eappc {α : Type} {g : α → D} {u m y : List α} {o : Oper} {c : Go.Call} {t s e : TypeId} {x z : Operand} {n b off : Nat} {zs : List D} {cells : List C} {zv : V} {ms : List D} (hy : lapp u m = some y) (hm : ms = m.map g)
  (ho : o.op = .call c) (hc : c.callee = .builtin .append) (ha : c.args.toList = [x, z]) (hat : c.argTypes.toList = [t, s]) (ht : telem X.P t = some e) (hn : tsz X.P e = some n) (hu : isSource X.P s = true)
  (hb : (Nat.ble (X.P.bytesOf e) 1024 && zeroFits X.P e n) = true) (hx : evT X.P t tm x = some (.view (.cell b off) n (u.map g))) (hw : lookC b hp = some cells) (hw' : cells[off]? = some (.own n zs)) (hz : evT X.P s tm z = some zv) (hzz : appended zv = some (n, ms)) :
  EvO X o ⟨tm, hp, nid, df, pn⟩ (.c (.own n (y.map g))) ⟨tm, upd b (cells.set off (.d (.list n (u.map g)))) hp, nid, df, pn⟩ (appendFoot x tm) := by
 subst hm
 unfold lapp at hy
 split at hy
 ·rename_i hl
  simp only [Option.some.injEq] at hy; subst hy
  simp only [Bool.and_eq_true] at hb
  have := fun call => ev_append_cell (P := X.P) (call := call) (id := nid) (s := ⟨tm, hp, nid, df, pn⟩) ho hc ha hat ht hn hu ⟨Nat.le_of_ble_eq_true hb.1, hb.2⟩ hx hw hw' hz hzz (by simpa using hl)
  rw [← List.map_append] at this
  exact .of fun _ => this _
 ·cases hy
theorem eappn {α : Type} {g : α → D} {m y : List α} {o : Oper} {c : Go.Call} {t s e : TypeId} {x z : Operand} {n k : Nat} {zv : V} {ms : List D} (hy : lapp [] m = some y) (hm : ms = m.map g)
  (ho : o.op = .call c) (hc : c.callee = .builtin .append) (ha : c.args.toList = [x, z]) (hat : c.argTypes.toList = [t, s]) (ht : telem X.P t = some e) (hn : tsz X.P e = some n) (hu : isSource X.P s = true)
  (hb : (Nat.ble (X.P.bytesOf e) 1024 && zeroFits X.P e n) = true) (hx : evT X.P t tm x = some (.c (.nilsl k))) (hz : evT X.P s tm z = some zv) (hzz : appended zv = some (n, ms)) :
  EvO X o ⟨tm, hp, nid, df, pn⟩ (.c (.own n (y.map g))) ⟨tm, hp, nid, df, pn⟩ (appendFoot x tm) := by
 subst hm
 unfold lapp at hy
 split at hy
 ·rename_i hl
  simp only [List.nil_append, Option.some.injEq] at hy; subst hy
  simp only [Bool.and_eq_true] at hb
  exact .of fun _ => ev_append_nil (s := ⟨tm, hp, nid, df, pn⟩) ho hc ha hat ht hn hu ⟨Nat.le_of_ble_eq_true hb.1, hb.2⟩ hx hz hzz (by simpa using hl)
 ·cases hy
theorem ecall {o : Oper} {c : Go.Call} {fo : Operand} {g : Nat} {args args' : List C} {v v' : V} (hv : aval X g args' [] (.ret v []))
  (ho : o.op = .call c) (hc : c.callee = .value fo) (hf : ev tm fo = some (.c (.fn g [])))
  (ha : argsT X.P tm c.args.toList c.argTypes.toList = some args) (hi : args.flatMap C.ids = []) (hj : mapM? (C.into []) args = some args) (hst : args.map C.still = args') (hH : (X.H g 999999).isEmpty = true) (hb : V.back [] v = some v') :
  EvO X o ⟨tm, hp, nid, df, pn⟩ v' ⟨tm, hp, nid, df, pn⟩ ⟨[], [], []⟩ := by
 have := evt_call (X := X) (s := ⟨tm, hp, nid, df, pn⟩) (ids := []) (lh := []) (lh' := []) (lh'' := []) ho hc hf (by simpa using ha) (by simp [hi, reach]) (by simpa using hj) rfl (aval_still (hst ▸ hv) hH) rfl (by simpa [idsFrom] using hb)
 refine this.imp fun k p => ?_
 rw [p]
 simp [idsFrom, look_unviewIn_nil, putBlks]
theorem ecallk {o : Oper} {c : Go.Call} {fo : Operand} {g : Nat} {args : List C} {v v' : V} (hv : aval X g args [] (.ret v []))
  (ho : o.op = .call c) (hc : c.callee = .value fo) (hf : ev tm fo = some (.c (.fn g [])))
  (ha : argsT X.P tm c.args.toList c.argTypes.toList = some args) (hi : args.flatMap C.ids = []) (hj : mapM? (C.into []) args = some args) (hb : V.back [] v = some v') :
  EvO X o ⟨tm, hp, nid, df, pn⟩ v' ⟨tm, hp, nid, df, pn⟩ ⟨[], [], []⟩ := by
 have := evt_call (X := X) (s := ⟨tm, hp, nid, df, pn⟩) (ids := []) (lh := []) (lh' := []) (lh'' := []) ho hc hf (by simpa using ha) (by simp [hi, reach]) (by simpa using hj) rfl hv rfl (by simpa [idsFrom] using hb)
 refine this.imp fun k p => ?_
 rw [p]
 simp [idsFrom, look_unviewIn_nil, putBlks]
def AX.isOut : AX → Bool
 | .ret => true
 | .pan _ => true
 | _ => false
theorem seqQ.out {b : Code} {x : AX} {s : St} (hx : x.isOut = true) (h : Q x s) : seqQ X f b Q x s := by
 cases x <;> first | exact .ret h | exact .pan h | simp [AX.isOut] at hx
theorem condQ.out {hk : List Nat} {n : Nat} {x : AX} {s : St} (hx : x.isOut = true) (h : Q x s) : condQ hk n Q x s := by
 cases x <;> first | exact .ret h | exact .pan h | simp [AX.isOut] at hx
theorem exitQ.out {id : Nat} {hk : List Nat} {n : Nat} {x : AX} {s : St} (hx : x.isOut = true) (h : Q x s) : exitQ id hk n Q x s := by
 cases x <;> first | exact .ret h | exact .pan h | simp [AX.isOut] at hx
theorem loopQ.out {A : St → Prop} {x : AX} {s : St} (hx : x.isOut = true) (h : Q x s) : loopQ A Q x s := by
 cases x <;> first | exact .ret h | exact .pan h | simp [AX.isOut] at hx
inductive SubQ (X : Ctx) (fn : Func) (n : Nat) {ρ σ : Type} (E : ρ → CRes) (st : σ → St) : Except ρ σ → AX → St → Prop where
 | ok {a : σ} {s : St} : s = st a → SubQ X fn n E st (.ok a) .normal s
 | err {r : ρ} {x : AX} {s : St} : x.isOut = true → atEnd X fn n (E r) x s → SubQ X fn n E st (.error r) x s
theorem awp_sub (fn : Func) (n : Nat) {ρ σ : Type} (E : ρ → CRes) (st : σ → St) {res : Except ρ σ} {a : Code} {s : St} (h1 : awp X f a (SubQ X fn n E st res) s) (h2 : ∀ y, res = .ok y → Q .normal (st y))
  (h3 : ∀ r x s', res = .error r → x.isOut = true → atEnd X fn n (E r) x s' → Q x s') : awp X f a Q s := by
 refine awp_mono h1 ?_
 intro x s' hq
 cases hq with
 | ok e => subst e; exact h2 _ rfl
 | err hx e => exact h3 _ _ _ rfl hx e
inductive NrmQ {σ : Type} (st : σ → St) (y : σ) : AX → St → Prop where
 | ok {s : St} : s = st y → NrmQ st y .normal s
theorem awp_nrm {σ : Type} (st : σ → St) {y : σ} {a : Code} {s : St} (h1 : awp X f a (NrmQ st y) s) (h2 : Q .normal (st y)) : awp X f a Q s := by
 refine awp_mono h1 ?_
 intro x s' hq
 cases hq with
 | ok e => subst e; exact h2
theorem awpL_at {c : Code} {clean : St → Option St} {s s1 : St} (hc : clean s = some s1) (hc1 : clean s1 = some s1) (h : awpL X f c clean Q s1) : awpL X f c clean Q s := by
 obtain ⟨x, s', ⟨m₀, h1⟩, h2⟩ := h
 refine ⟨x, s', ⟨m₀ + 1, h1.imp fun k p m hm => ?_⟩, h2⟩
 obtain ⟨j, rfl⟩ : ∃ j, m = j + 1 := ⟨m - 1, by omega⟩
 have := p (j + 1) (by omega)
 simp only [iter, hc1] at this
 simp only [iter, hc]
 exact this
theorem awpL_go {c : Code} {clean : St → Option St} {s s1 : St} (hc : clean s = some s1) (h : awp X f c (loopQ (awpL X f c clean Q) Q) s1) : awpL X f c clean Q s := by
 refine awpL_round hc (awp_mono h ?_)
 intro x s' hq
 cases hq with
 | normal h => exact h
 | exit h => exact h
 | ret h => exact h
 | pan h => exact h
def filtK {β : Type} (n : Nat) : List (Nat × List C) → (List (Nat × List C) → β) → β
 | [], k => k []
 | (b, cs) :: r, k => match decide (b < n) with
  | true => copyL cs fun cs => filtK n r fun r => k ((b, cs) :: r)
  | false => filtK n r k
theorem filtK_eq {β : Type} {n : Nat} : ∀ {l : List (Nat × List C)} {k : List (Nat × List C) → β}, filtK n l k = k (l.filter (·.1 < n))
 | [], _ => rfl
 | (b, cs) :: r, k => by
  simp only [filtK, List.filter_cons, copyL_eq]
  cases h : decide (b < n) with
  | true => simp only [filtK_eq, if_true]
  | false => simp only [filtK_eq, Bool.false_eq_true, if_false]
def cleanK {α : Type} (ks : List Nat) (n : Nat) (tm : List (Nat × V)) (hp : List (Nat × List C)) (df : List (Nat × List Nat)) (k : List (Nat × V) → List (Nat × List C) → Option α) : Option α :=
 keepK ks (demT ks tm) fun tm => filtK n (demH ks hp) fun hp => match tm.all (fun x => x.2.below n) && hp.all (fun x => x.2.all (C.below n)) && df.all (fun x => x.2.all (· < n)) with
  | true => k tm hp
  | false => none
def pairK (tm : List (Nat × V)) (hp : List (Nat × List C)) : Option (List (Nat × V) × List (Nat × List C)) := some (tm, hp)
theorem cleanK_eq {α : Type} {ks : List Nat} {n : Nat} {k : List (Nat × V) → List (Nat × List C) → Option α} {a : α} (h : cleanK ks n tm hp df k = some a) :
  ∃ tm' hp', k tm' hp' = some a ∧ cleanAt ks n ⟨tm, hp, nid, df, pn⟩ = some ⟨tm', hp', n, df, pn⟩ := by
 unfold cleanK at h
 rw [keepK_eq, filtK_eq] at h
 split at h
 ·rename_i hc
  refine ⟨_, _, h, ?_⟩
  unfold cleanAt
  simp only
  rw [if_pos hc]
 ·simp at h
theorem lg {ks : List Nat} {n : Nat} {c : Code} (hc : cleanK ks n tm hp df pairK = some (tm', hp')) (h : awp X f c (loopQ (awpL X f c (cleanAt ks n) Q) Q) ⟨tm', hp', n, df, pn⟩) : awpL X f c (cleanAt ks n) Q ⟨tm, hp, nid, df, pn⟩ := by
 obtain ⟨_, _, h1, h2⟩ := cleanK_eq (nid := nid) (pn := pn) hc
 simp only [pairK, Option.some.injEq, Prod.mk.injEq] at h1
 obtain ⟨rfl, rfl⟩ := h1
 exact awpL_go h2 h
def settleK {α : Type} (hk : List Nat) (n : Nat) (tm : List (Nat × V)) (hp : List (Nat × List C)) (nid : Nat) (df : List (Nat × List Nat)) (k : List (Nat × V) → List (Nat × List C) → Nat → Option α) : Option α := match hk with
 | [] => k tm hp nid
 | _ :: ks => cleanK ks n tm hp df fun tm hp => k tm hp n
def triK (tm : List (Nat × V)) (hp : List (Nat × List C)) (nid : Nat) : Option (List (Nat × V) × List (Nat × List C) × Nat) := some (tm, hp, nid)
theorem settleK_eq {hk : List Nat} {n : Nat} (h : settleK hk n tm hp nid df triK = some (tm', hp', nid')) : settleS hk n ⟨tm, hp, nid, df, pn⟩ = some ⟨tm', hp', nid', df, pn⟩ := by
 unfold settleK at h
 split at h
 ·simp only [triK, Option.some.injEq, Prod.mk.injEq] at h
  obtain ⟨rfl, rfl, rfl⟩ := h; rfl
 ·obtain ⟨_, _, h1, h2⟩ := cleanK_eq (nid := nid) (pn := pn) h
  simp only [triK, Option.some.injEq, Prod.mk.injEq] at h1
  obtain ⟨rfl, rfl, rfl⟩ := h1
  exact h2
theorem eh {id : Nat} {hk : List Nat} {n : Nat} (hs : settleK hk n tm hp nid df triK = some (tm', hp', nid')) (h : Q .normal ⟨tm', hp', nid', df, pn⟩) : exitQ id hk n Q (.exit id) ⟨tm, hp, nid, df, pn⟩ := .here (settleK_eq hs) h
theorem en {id : Nat} {hk : List Nat} {n : Nat} (hs : settleK hk n tm hp nid df triK = some (tm', hp', nid')) (h : Q .normal ⟨tm', hp', nid', df, pn⟩) : exitQ id hk n Q .normal ⟨tm, hp, nid, df, pn⟩ := .normal (settleK_eq hs) h
theorem cn {hk : List Nat} {n : Nat} (hs : settleK hk n tm hp nid df triK = some (tm', hp', nid')) (h : Q .normal ⟨tm', hp', nid', df, pn⟩) : condQ hk n Q .normal ⟨tm, hp, nid, df, pn⟩ := .normal (settleK_eq hs) h
def codeAt : List Nat → Code → Code
 | [], c => c
 | i :: r, .seq a b => codeAt r (if i = 0 then a else b)
 | i :: r, .cond _ a b => codeAt r (if i = 0 then a else b)
 | _ :: r, .block _ c => codeAt r c
 | _ :: r, .loop c => codeAt r c
 | _ :: r, .scope c => codeAt r c
 | _, c => c
def bodyOf (fn : Func) : Code := fn.body.getD .skip
end
end Go.AM

namespace Go.AM
open Go
section
variable {X : Ctx} {f : Nat} {Q : AX → St → Prop} {tm tm' : List (Nat × V)} {hp hp' : List (Nat × List C)} {nid nid' : Nat} {df df' : List (Nat × List Nat)} {pn : Option D}
def EvP (X : Ctx) (o : Oper) (s : St) (d : D) (s1 : St) (ft : Foot) : Prop := Evt fun k => evOp X.P (X.call k) s.nid o s = some (.pan d s1, ft)
theorem ecallb {o : Oper} {c : Go.Call} {fo : Operand} {g : Nat} {caps ids : List Nat} {args args' args'' : List C} {lh lh' lh'' : List (List C)} {v v' : V} (hv : aval X g args'' lh (.ret v lh'))
  (ho : o.op = .call c) (hc : c.callee = .value fo) (hf : ev tm fo = some (.c (.fn g caps)))
  (ha : argsT X.P tm c.args.toList c.argTypes.toList = some args) (hr : reach hp 64 ((args ++ caps.map fun b => C.ptr b 0).flatMap C.ids) [] = some ids) (hi : mapM? (C.into ids) (args ++ caps.map fun b => .ptr b 0) = some args')
  (hst : args'.map C.still = args'') (hH : (X.H g 999999).isEmpty = true)
  (hb : blksInto hp ids = some lh) (hk : mapM? (mapM? (C.back (ids ++ idsFrom nid (lh'.length - ids.length)))) lh' = some lh'') (hv' : V.back (ids ++ idsFrom nid (lh'.length - ids.length)) v = some v') (hn : nid + (lh'.length - ids.length) = nid') :
  EvO X o ⟨tm, hp, nid, df, pn⟩ v' ⟨unviewIn (ids ++ idsFrom nid (lh'.length - ids.length)) tm, putBlks (ids ++ idsFrom nid (lh'.length - ids.length)) lh'' hp, nid', df, pn⟩ ⟨ids, ids, []⟩ := by
 subst hn hst
 exact evt_call (X := X) (s := ⟨tm, hp, nid, df, pn⟩) ho hc hf ha hr hi hb (aval_still hv hH) hk hv'
theorem ecallp {o : Oper} {c : Go.Call} {fo : Operand} {g : Nat} {caps ids : List Nat} {args args' args'' : List C} {lh lh' lh'' : List (List C)} {d : D} (hv : aval X g args'' lh (.pan d lh'))
  (ho : o.op = .call c) (hc : c.callee = .value fo) (hf : ev tm fo = some (.c (.fn g caps)))
  (ha : argsT X.P tm c.args.toList c.argTypes.toList = some args) (hr : reach hp 64 ((args ++ caps.map fun b => C.ptr b 0).flatMap C.ids) [] = some ids) (hi : mapM? (C.into ids) (args ++ caps.map fun b => .ptr b 0) = some args')
  (hst : args'.map C.still = args'') (hH : (X.H g 999999).isEmpty = true)
  (hb : blksInto hp ids = some lh) (hk : mapM? (mapM? (C.back ids)) lh' = some lh'') :
  EvP X o ⟨tm, hp, nid, df, pn⟩ d ⟨unviewIn ids tm, putBlks ids lh'' hp, nid, df, pn⟩ ⟨ids, ids, []⟩ := by
 subst hst
 refine (aval_still hv hH).imp fun k p => ?_
 simp only [evOp, ho, hc, hf, ha, doCall, hr, hi, hb, p, hk]
theorem epanic {o : Oper} {d : D} {ft : Foot} (h : ∀ call, evOp X.P call nid o ⟨tm, hp, nid, df, pn⟩ = some (.pan d ⟨tm, hp, nid, df, pn⟩, ft)) : EvP X o ⟨tm, hp, nid, df, pn⟩ d ⟨tm, hp, nid, df, pn⟩ ft := .of fun _ => h _
theorem pp {ops : Array Oper} {o : Oper} {l : List Oper} {d : D} {tm1 : List (Nat × V)} {hp1 : List (Nat × List C)} {ft : Foot} (hop : EvP X o ⟨tm, hp, nid, df, pn⟩ d ⟨tm1, hp1, nid, df, pn⟩ ft) (hw : wantedAt ops tm o = some true)
  (hk : (copyL tm1 fun tm => copyHp hp1 fun hp => some (tm, hp)) = some (tm', hp')) (h : Q (.pan d) ⟨tm', hp', nid, df, pn⟩) : awpO X ops (o :: l) Q ⟨tm, hp, nid, df, pn⟩ := by
 rw [copyL_eq, copyHp_eq] at hk
 simp only [Option.some.injEq, Prod.mk.injEq] at hk
 obtain ⟨rfl, rfl⟩ := hk
 exact awpO_pan (s := ⟨tm, hp, nid, df, pn⟩) hw hop h
theorem dp {ops : Array Oper} {vs : List Nat} {base i : Nat} {pre : List Fp} {o : Oper} {l : List Oper} {d d0 : D} {tm0 tm1 tmd : List (Nat × V)} {hp0 hp1 : List (Nat × List C)} {nid0 : Nat} {ft ft0 : Foot} (hd : copyL (tm.filter fun p => !(looseDst ops i).contains p.1) some = some tmd)
  (hop0 : EvP X o ⟨tm, hp, nid, df, pn⟩ d0 ⟨tm0, hp0, nid0, df, pn⟩ ft0) (hop : EvP X o ⟨tmd, hp, nid, df, pn⟩ d ⟨tm1, hp1, nid, df, pn⟩ ft) (hw : wantedAt ops tm o = some true) (hw' : wantedAt ops tmd o = some true) (hm : makesBlk o = false)
  (hk : (copyL tm1 fun tm => copyHp hp1 fun hp => some (tm, hp)) = some (tm', hp')) (hok : (drawOkM true ops base (pre ++ [⟨[], [], [], true⟩]) && Nat.ble base nid) = true) (h : Q (.pan d) ⟨tm', hp', nid, df, pn⟩) : awpD X ops vs base pre (o :: l) i Q ⟨tm, hp, nid, df, pn⟩ := by
 rw [copyL_eq, Option.some.injEq] at hd
 rw [copyL_eq, copyHp_eq] at hk
 simp only [Option.some.injEq, Prod.mk.injEq] at hk
 obtain ⟨rfl, rfl⟩ := hk
 simp only [Bool.and_eq_true] at hok
 have hdr : dropT (looseDst ops i) ⟨tm, hp, nid, df, pn⟩ = ⟨tmd, hp, nid, df, pn⟩ := by simp only [dropT, hd]
 refine awpD_pan (s := ⟨tm, hp, nid, df, pn⟩) (ft := ⟨[], [], [], true⟩) (ft0 := ⟨[], [], [], true⟩) (d0 := d0) (s0 := ⟨tm0, hp0, nid0, df, pn⟩) hw (hop0.imp fun k p => ?_) (by rw [hdr]; exact hw') (hop.imp fun k p => ?_) ?_ h
 ·simp only [drawOp, hm, Bool.false_eq_true, if_false, drawOld, p]
 ·rw [hdr]; simp only [drawOp, hm, Bool.false_eq_true, if_false, drawOld, p]
 ·simp only [Bool.and_eq_true, decide_eq_true_eq]
  exact ⟨drawOkM_ok hok.1, Nat.le_of_ble_eq_true hok.2⟩
theorem pdef {ops : Array Oper} {o : Oper} {l : List Oper} {v : V} {ft : Foot} (hop : ∀ call, evOp X.P call nid o ⟨tm, hp, nid, df, pn⟩ = some (.val v ⟨tm, hp, nid, df', pn⟩, ft)) (hw : wantedAt ops tm o = some true)
  (hk : putK o.dst v tm (fun tm => some tm) = some tm') (h : awpO X ops l Q ⟨tm', hp, nid, df', pn⟩) : awpO X ops (o :: l) Q ⟨tm, hp, nid, df, pn⟩ := by
 refine awpO_op (s := ⟨tm, hp, nid, df, pn⟩) hw (.of fun k => hop _) ?_
 rw [show tm = (⟨tm, hp, nid, df', pn⟩ : St).tmps from rfl, putK_eq] at hk
 simp only [Option.some.injEq] at hk
 subst hk
 rw [putDst, putSt_rest]
 exact h
def mset {κ α : Type} [BEq κ] (l : List (κ × α)) (k : κ) (v : α) : List (κ × α) := match l with
 | [] => [(k, v)]
 | (k', v') :: r => if k == k' then (k, v) :: r else (k', v') :: mset r k v
def mget {κ α : Type} [BEq κ] (l : List (κ × α)) (k : κ) (z : α) : α := match l with
 | [] => z
 | (k', v) :: r => if k == k' then v else mget r k z
def mhas {κ α : Type} [BEq κ] (l : List (κ × α)) (k : κ) : Bool := match l with
 | [] => false
 | (k', _) :: r => if k == k' then true else mhas r k
def encI {α : Type} (j : IntKind) (g : α → D) (x : Int × α) : D × MV := (.int j x.1, .d (g x.2))
theorem findM_I {α : Type} {j : IntKind} {g : α → D} {k : Int} {z : α} : ∀ l : List (Int × α), ∃ r, findM (.int j k) (l.map (encI j g)) = some r ∧ (mhas l k = true → r = some (.d (g (mget l k z)))) ∧ (mhas l k = false → r = none ∧ mget l k z = z)
 | [] => ⟨none, rfl, by simp [mhas], fun _ => ⟨rfl, rfl⟩⟩
 | (k', v') :: r => by
  simp only [List.map_cons, encI, findM, eqKey, mget, mhas, if_true]
  cases h : k == k' with
  | true => exact ⟨_, rfl, by simp, by simp⟩
  | false =>
   obtain ⟨q, h1, h2, h3⟩ := findM_I (j := j) (g := g) (k := k) (z := z) r
   exact ⟨q, h1, by simpa using h2, by simpa using h3⟩
theorem lookM_I {α : Type} {j : IntKind} {g : α → D} {k : Int} {z : α} {e : TypeId} {ok : Bool} (hz : zeroM X.P e = some (.d (g z))) (l : List (Int × α)) : lookM X.P e ok (.int j k) (l.map (encI j g)) = some (tellM ok (.d (g (mget l k z))) (mhas l k)) := by
 obtain ⟨r, h1, h2, h3⟩ := findM_I (j := j) (g := g) (k := k) (z := z) l
 unfold lookM
 rw [h1]
 cases h : mhas l k with
 | true => rw [h2 h]; rfl
 | false => obtain ⟨rfl, e'⟩ := h3 h; rw [e']; simp only [hz, Option.map_some]
theorem elookI {α : Type} {j : IntKind} {g : α → D} {o : Oper} {t kt e : TypeId} {m k : Operand} {b : Nat} {l : List (Int × α)} {s : Int} (z : α) (ho : o.op = .lookup t m k false) (hm : mapT X.P t = some (kt, e)) (hx : ev tm m = some (.c (.mp b))) (hy : (ev tm k).bind V.toD = some (.int j s)) (hk : keyD X.P kt (.int j s) = true)
  (hb : look b hp = some [.ment (l.map (encI j g))]) (hz : zeroM X.P e = some (.d (g z))) : EvO X o ⟨tm, hp, nid, df, pn⟩ (.d (g (mget l s z))) ⟨tm, hp, nid, df, pn⟩ ⟨readsBlk o tm, [], []⟩ :=
 .of fun call => by simp only [evOp, ho, evR, hm, hx, hy, hk, if_true, hb, mapOf, lookM_I (j := j) (g := g) (z := z) hz, Option.map_some, tellM, Bool.false_eq_true, if_false]
theorem pmk {ops : Array Oper} {o : Oper} {l : List Oper} {t : TypeId} (ho : o.op = .makeMap t none) (hw : wantedAt ops tm o = some true) (hv : noView nid tm = true)
  (hk : putK o.dst (.c (.mp nid)) tm (fun tm => some tm) = some tm') (hn : nid + 1 = nid') (h : awpO X ops l Q ⟨tm', (nid, [.ment []]) :: hp, nid', df, pn⟩) : awpO X ops (o :: l) Q ⟨tm, hp, nid, df, pn⟩ := by
 refine awpO_op (s := ⟨tm, hp, nid, df, pn⟩) (v := .c (.mp nid)) (s1 := ⟨tm, (nid, [.ment []]) :: hp, nid + 1, df, pn⟩) (ft := Foot.none) hw (.of fun k => by simp only [evOp, ho, hv, if_true]) ?_
 subst hn
 rw [show tm = (⟨tm, (nid, [.ment []]) :: hp, nid + 1, df, pn⟩ : St).tmps from rfl, putK_eq] at hk
 simp only [Option.some.injEq] at hk
 subst hk
 rw [putDst, putSt_rest]
 exact h
theorem emap {o : Oper} {t kt e : TypeId} {m k v : Operand} {b : Nat} {kd : D} {mv : MV} {cs : List C} {kvs kvs' : List (D × MV)} (hs : setM kd mv kvs = some kvs') (ho : o.op = .insert t m k v ∨ o.op = .mapUpdate t m k v) (hm : mapT X.P t = some (kt, e)) (hx : ev tm m = some (.c (.mp b))) (hy : (ev tm k).bind V.toD = some kd) (hk : keyD X.P kt kd = true)
  (hv : (evT X.P e tm v).bind MV.of = some mv) (hb : look b hp = some cs) (hc : mapOf cs = some kvs) : EvO X o ⟨tm, hp, nid, df, pn⟩ (.c .undef) ⟨tm, upd b [.ment kvs'] hp, nid, df, pn⟩ ⟨[], [b], []⟩ :=
 .of fun call => by rcases ho with ho | ho <;> simp only [evOp, ho, doMap, hm, hx, hy, hk, hv, hb, hc, hs]
theorem eappf {α : Type} {g : α → D} {u m y : List α} {o : Oper} {c : Go.Call} {t s e : TypeId} {x z : Operand} {n : Nat} {zv : V} {ms : List D} (hy : lapp u m = some y) (hm : ms = m.map g)
  (ho : o.op = .call c) (hc : c.callee = .builtin .append) (ha : c.args.toList = [x, z]) (hat : c.argTypes.toList = [t, s]) (ht : telem X.P t = some e) (hn : tsz X.P e = some n) (hu : isSource X.P s = true)
  (hb : (Nat.ble (X.P.bytesOf e) 1024 && zeroFits X.P e n) = true) (hx : evT X.P t tm x = some (.c (.full n (u.map g)))) (hz : evT X.P s tm z = some zv) (hzz : appended zv = some (n, ms)) :
  EvO X o ⟨tm, hp, nid, df, pn⟩ (.c (.own n (y.map g))) ⟨tm, hp, nid, df, pn⟩ (appendFoot x tm) := by
 subst hm
 unfold lapp at hy
 split at hy
 ·rename_i hl
  simp only [Option.some.injEq] at hy; subst hy
  simp only [Bool.and_eq_true] at hb
  refine .of fun call => ?_
  have h2 : X.P.bytesOf e ≤ 1024 ∧ zeroFits X.P e n = true := ⟨Nat.le_of_ble_eq_true hb.1, hb.2⟩
  simp only [evOp, ho, hc, ha, hat, doAppend, ht, hn, hu, hx, hz, hzz, Option.bind_some, h2, and_self, if_true, List.length_map, hl, List.map_append]
 ·cases hy
theorem elfull {α : Type} {g : α → D} {u y : List α} {o : Oper} {t e : TypeId} {x hh mm : Operand} {v : V} {k k' : IntKind} {n : Int} {sz : Nat} (hy : lto u n = some y)
  (ho : o.op = .slice t x none (some hh) (some mm)) (ht : X.P.underlying t = some (.slice e)) (hz : tsz X.P e = some sz) (hx : evT X.P t tm x = some v) (hv : v.toD = some (.list sz (u.map g))) (hi : ev tm hh = some (.c (.d (.int k n)))) (hi' : ev tm mm = some (.c (.d (.int k' n)))) :
  EvO X o ⟨tm, hp, nid, df, pn⟩ (.c (.full sz (y.map g))) ⟨tm, hp, nid, df, pn⟩ ⟨readsBlk o tm, [], []⟩ := by
 unfold lto at hy
 split at hy
 ·rename_i hb
  simp only [Option.some.injEq] at hy; subst hy
  refine .of fun call => ?_
  have h1 : n.toNat ≤ (u.map g).length := by simpa using hb.2
  simp [evOp, ho, evR, hx, lenV_data hv, ht, hv, optNat, hi, hi', hb.1, sliceV, hz, List.map_take, hb.2]
 ·cases hy
def idiv (k : IntKind) (a b : Int) : Option Int := if b = 0 then none else some (k.wrap (a.tdiv b))
theorem eidiv {o : Oper} {t u : TypeId} {x z : Operand} {k : IntKind} {a b y : Int} (hy : idiv k a b = some y) (ho : o.op = .binOp .quo t x z u) (hx : evT X.P t tm x = some (.c (.d (.int k a)))) (hz : evT X.P t tm z = some (.c (.d (.int k b)))) :
  EvO X o ⟨tm, hp, nid, df, pn⟩ (.d (.int k y)) ⟨tm, hp, nid, df, pn⟩ ⟨readsBlk o tm, [], []⟩ := by
 unfold idiv at hy
 split at hy
 ·cases hy
 ·rename_i hb
  simp only [Option.some.injEq] at hy; subst hy
  exact .of fun _ => by simp only [evOp, ho, evR, hx, hz, binV, if_true, intOp, hb, if_false]
theorem recsF_of {P : Program} {g : Nat} {fn : Func} {c : Code} {b : Bool} (hf : P.funcs[g]? = some fn) (hc : fn.body = some c) (hb : recs c = b) : recsF P g = b := by simp only [recsF, hf, hc, hb]
theorem rdc {g : Nat} {caps ids : List Nat} {l : List (Nat × List Nat)} {pan pan2 pan' : Option D} {s' : St} {args' : List C} {lh lh' lh'' : List (List C)} {v v' : V} {rec : Bool} (hv : avalD X pan g args' lh (.ret v lh')) (hrc : recsF X.P g = rec) (hr : reach hp 64 ((caps.map fun b => C.ptr b 0).flatMap C.ids) [] = some ids) (hi : mapM? (C.into ids) (caps.map fun b => .ptr b 0) = some args')
  (hb : blksInto hp ids = some lh) (hk : mapM? (mapM? (C.back (ids ++ idsFrom nid (lh'.length - ids.length)))) lh' = some lh'') (hv' : V.back (ids ++ idsFrom nid (lh'.length - ids.length)) v = some v') (hn : nid + (lh'.length - ids.length) = nid') (hp2 : (match rec with | true => none | false => pan) = pan2)
  (hf : (copyL (unviewIn (ids ++ idsFrom nid (lh'.length - ids.length)) tm) fun tm => copyHp (putBlks (ids ++ idsFrom nid (lh'.length - ids.length)) lh'' hp) fun hp => some (tm, hp)) = some (tm', hp'))
  (h : rdef X l pan2 ⟨tm', hp', nid', df, pn⟩ pan' s') : rdef X ((g, caps) :: l) pan ⟨tm, hp, nid, df, pn⟩ pan' s' := by
 subst hn
 rw [copyL_eq, copyHp_eq] at hf
 simp only [Option.some.injEq, Prod.mk.injEq] at hf
 obtain ⟨rfl, rfl⟩ := hf
 refine rdef.cons (s := ⟨tm, hp, nid, df, pn⟩) hr hi hb hv hk hv' ?_
 rw [hrc]
 cases rec with
 | true => simp only at hp2; subst hp2; simpa using h
 | false => simp only at hp2; subst hp2; simpa using h
theorem avalD_start {fn : Func} {code : Code} {pan : Option D} {args : List C} {lh : List (List C)} {r : CRes} {n : Nat} (hf : X.P.funcs[f]? = some fn) (hb : fn.body = some code) (hl : args.length = fn.params.size + fn.nfree) (hrc : recs code = false)
  (ht : zipIdx' 0 (args.map fun c => V.c c.plain) = tm) (hh : zipIdx' 0 lh = hp) (hn : lh.length = n) (h : awp X f code (atEndD X fn n r) ⟨tm, hp, n, [], none⟩) : avalD X pan f args lh r :=
 avalD_of hf hb hl hrc (by unfold enterSt; rw [ht, hh, hn]; exact h)
theorem avalD_rstart {fn : Func} {code b : Code} {id : Nat} {ops : Array Oper} {o o1 : Oper} {pan : Option D} {args : List C} {lh : List (List C)} {r : CRes} {n : Nat} (hf : X.P.funcs[f]? = some fn) (hb : fn.body = some code) (hl : args.length = fn.params.size + fn.nfree) (hcode : code = .seq (.region id ops false) b) (hrc : recs code = true) (ho : ops.toList = [o, o1])
  (ht : keepK (X.H f id) (zipIdx' 0 (args.map fun c => V.c c.plain)) (fun tm => putK o.dst (recV pan) tm fun tm => putK o1.dst (recV pan) tm fun tm => some tm) = some tm) (hh : zipIdx' 0 lh = hp) (hn : lh.length = n) (h : awp X f b (atEndD X fn n r) ⟨tm, hp, n, [], none⟩) : avalD X pan f args lh r := by
 subst hcode
 refine avalD_rec hf hb hl hrc ho ?_
 rw [keepK_eq] at ht
 rw [show keepT (X.H f id) (zipIdx' 0 (args.map fun c => V.c c.plain)) = ({ enterSt args lh with tmps := keepT (X.H f id) (enterSt args lh).tmps } : St).tmps from rfl, putK_eq, putK_eq, Option.some.injEq] at ht
 have e : putDst o1 (recV pan) (putDst o (recV pan) { enterSt args lh with tmps := keepT (X.H f id) (enterSt args lh).tmps }) = ⟨tm, hp, n, [], none⟩ := by
  rw [putDst, putDst, putSt_rest, ht, putSt_rest]
  simp only [enterSt, hh, hn]
 rw [e, hn]; exact h
theorem estne {o : Oper} {t u : TypeId} {x z : Operand} {fs : Array Field} {xs ys : List D} {b : Bool} (hS : (X.P.stoodInHeld t || X.P.eqGuardType X.P.depth t) = false) (ho : o.op = .binOp .neq t x z u) (hf : X.P.underlying t = some (.struct fs))
  (hx : evT X.P t tm x = some (.c (.d (.agg xs)))) (hz : evT X.P t tm z = some (.c (.d (.agg ys)))) (hq : eqFs X.P fs.toList xs ys = some b) :
  EvO X o ⟨tm, hp, nid, df, pn⟩ (.d (.bool !b)) ⟨tm, hp, nid, df, pn⟩ ⟨readsBlk o tm, [], []⟩ :=
 .of fun _ => by simp only [evOp, ho, evR, hx, hz, binV, eqlV, hf, hS, Bool.false_eq_true, if_false, hq]; rfl
theorem eplain {o : Oper} {s s1 : St} {v : V} {ft : Foot} (h : evOp X.P noCall s.nid o s = some (.val v s1, ft)) : EvO X o s v s1 ft :=
 ⟨0, fun _ _ => evOp_noCall h _⟩
theorem erw' {o : Oper} {s s1 : St} {v v' : V} {ft : Foot} (hv : v = v') (h : EvO X o s v s1 ft) : EvO X o s v' s1 ft := hv ▸ h
end
end Go.AM

namespace Go.AM
open Go
variable [Globs]
def fieldsCall : Call := fun _ args lh => match args with
 | [.d (.str s)] => if s.all (fun b => decide (b.toNat < 128)) && decide (s.length < 4294967281) then some (.ret (.d (.list 1 ((Lib.fields s).map .str))) lh) else none
 | _ => none
theorem repEs_strs {K : Col} {w : World} : ∀ l : List (List UInt8), RepEs K w 1 (l.map .str) (l.map fun s => Value.string ⟨s.toArray⟩)
 | [] => .nil
 | s :: l => .cons (by simp only [Rep]) (by rfl) (repEs_strs l)
theorem cellsOf_strs : ∀ l : List (List UInt8), cellsOf (l.map fun s => Value.string ⟨s.toArray⟩) = l.map fun s => Value.string ⟨s.toArray⟩
 | [] => rfl
 | s :: l => by simp only [List.map_cons, cellsOf]; rw [cellsOf_strs l]; rfl
theorem fields_ok {P : Program} {ρ : Shelf.Ren} (L : Go.Proofs.Lays.n157 P ρ) (hi9 : (P.info? (ρ.t 9)).map (fun i => (i.zero, i.size, i.bytes)) = some (some (.string ByteArray.empty), 1, 16))
  (htab : (ρ.g 0, (List.range 256).map fun c => Value.int .u8 (if Lib.isSp (UInt8.ofNat c) then 1 else 0)) ∈ Globs.tab) {args : List C} {lh : List (List C)} {r : CRes}
  (h : fieldsCall (ρ.f 157) args lh = some r) : CallOK P (ρ.f 157) args lh r := by
 unfold fieldsCall at h
 split at h
 ·rename_i s
  split at h
  ·rename_i hs
   simp only [Bool.and_eq_true, List.all_eq_true, decide_eq_true_eq] at hs
   simp only [Option.some.injEq] at h; subst h
   intro K μ w vs hr hi hh hb hgl
   cases hr with
   | cons hc hn =>
    cases hn
    rename_i v
    simp only [RepC, Rep] at hc; subst hc
    refine (Go.Proofs.Any.strings_Fields_core L hi9 ⟨s.toArray⟩ w (by show s.toArray.size < _; simpa using hs.2) (fun j b hj => hs.1 b (List.mem_of_getElem? (by simpa using hj))) ?_).mono ?_
    ·intro c hc
     have := (hgl _ htab c (.int .u8 (if Lib.isSp (UInt8.ofNat c) then 1 else 0)) (by simp [hc])).2
     rw [Nat.zero_add] at this
     exact this
    ·rintro e w' ⟨rfl, rfl⟩
     have hom := oneMore_alloc w (.cells ((Lib.fields (ByteArray.mk s.toArray).data.toList).map fun l => Value.string ⟨l.toArray⟩).toArray (ρ.t 9))
     have hst := hom.step (K := K) fun _ => .ro
     refine ⟨colNew K w.heap.size fun _ => .ro, μ, hst.none_mine, hom.bound hb _, fun _ _ => rfl, Nat.le_refl _, ?_, by simp [PlainV], by simp [V.ids, C.ids], _, rfl, ?_⟩
     ·intro i cells hic
      exact ⟨(hh i cells hic).1, (hh i cells hic).2.step hst (by simp) (by simp) (by simp)⟩
     ·simp only [RepV, RepC]
      have := rep_new (K := K) (w := w) (sz := 1) (ds := (Lib.fields s).map .str) (vs := (Lib.fields s).map fun l => Value.string ⟨l.toArray⟩) (rest := []) (e := ρ.t 9) (fun _ => .ro) (fun _ _ => rfl)
       (by rw [cellsOf_strs, List.append_nil]; simpa using hom) (repEs_strs _) (Nat.le_refl _)
      simpa using this
  ·simp at h
 ·simp at h
end Go.AM

namespace Go.AM
open Go
mutual
inductive Arr where
 | mk (shape : List Int) (cells : List Cell)
inductive Cell where
 | mk (kind : Int) (n : Int) (box : List Arr)
end
instance : Inhabited Arr := ⟨.mk [] []⟩
instance : Inhabited Cell := ⟨.mk 0 0 []⟩
def Arr.shape : Arr → List Int | .mk s _ => s
def Arr.cells : Arr → List Cell | .mk _ c => c
def Cell.kind : Cell → Int | .mk k _ _ => k
def Cell.n : Cell → Int | .mk _ n _ => n
def Cell.box : Cell → List Arr | .mk _ _ b => b
mutual
def encArrR : Arr → D
 | .mk sh cs => .agg [.list 1 (sh.map (D.int .i64)), .list 3 (encCellsR cs)]
def encCellsR : List Cell → List D
 | [] => []
 | c :: cs => encCellR c :: encCellsR cs
def encCellR : Cell → D
 | .mk k n b => .agg [.int .i64 k, .int .i64 n, .list 2 (encArrsR b)]
def encArrsR : List Arr → List D
 | [] => []
 | a :: l => encArrR a :: encArrsR l
end
def encCell (c : Cell) : D := .agg [.int .i64 c.kind, .int .i64 c.n, .list 2 (c.box.map encArrR)]
def encArr (a : Arr) : D := .agg [.list 1 (a.shape.map (D.int .i64)), .list 3 (a.cells.map encCell)]
theorem encArrsR_map : ∀ l : List Arr, encArrsR l = l.map encArrR
 | [] => rfl
 | a :: l => by simp only [encArrsR, encArrsR_map l, List.map_cons]
theorem encCellR_eq : ∀ c : Cell, encCellR c = encCell c
 | .mk k n b => by simp only [encCellR, encCell, encArrsR_map, Cell.kind, Cell.n, Cell.box]
theorem encCellsR_map : ∀ l : List Cell, encCellsR l = l.map encCell
 | [] => rfl
 | c :: l => by simp only [encCellsR, encCellsR_map l, encCellR_eq, List.map_cons]
theorem encArrR_eq : ∀ a : Arr, encArrR a = encArr a
 | .mk sh cs => by simp only [encArrR, encArr, encCellsR_map, Arr.shape, Arr.cells]
structure Token where
 kind : Int
 text : Str
 lit : Arr
 at_ : Int
 deriving Inhabited
def encToken (t : Token) : D := .agg [.int .i64 t.kind, .str t.text, .list 1 (t.lit.shape.map (D.int .i64)), .list 3 (t.lit.cells.map encCell), .int .i64 t.at_]
structure Fault where
 err : Int
 at_ : Int
 why : Int
 deriving Inhabited
def encFault (f : Fault) : D := .agg [.int .i64 f.err, .int .i64 f.at_, .int .i64 f.why]
inductive Node where
 | mk (kind op : Int) (name : Str) (lit : Arr) (kids : List Node) (at_ : Int)
instance : Inhabited Node := ⟨.mk 0 0 [] (.mk [] []) [] 0⟩
def Node.kind : Node → Int | .mk k _ _ _ _ _ => k
def Node.op_ : Node → Int | .mk _ o _ _ _ _ => o
def Node.name : Node → Str | .mk _ _ n _ _ _ => n
def Node.lit : Node → Arr | .mk _ _ _ l _ _ => l
def Node.kids : Node → List Node | .mk _ _ _ _ k _ => k
def Node.at_ : Node → Int | .mk _ _ _ _ _ a => a
mutual
def encNodeR : Node → D
 | .mk k o n l ks a => .agg [.int .i64 k, .int .i64 o, .str n, .list 1 (l.shape.map (D.int .i64)), .list 3 (l.cells.map encCell), .list 7 (encNodesR ks), .int .i64 a]
def encNodesR : List Node → List D
 | [] => []
 | n :: l => encNodeR n :: encNodesR l
end
def encNode (n : Node) : D := .agg [.int .i64 n.kind, .int .i64 n.op_, .str n.name, .list 1 (n.lit.shape.map (D.int .i64)), .list 3 (n.lit.cells.map encCell), .list 7 (n.kids.map encNodeR), .int .i64 n.at_]
theorem encNodesR_map : ∀ l : List Node, encNodesR l = l.map encNodeR
 | [] => rfl
 | n :: l => by simp only [encNodesR, encNodesR_map l, List.map_cons]
theorem encNodeR_eq : ∀ n : Node, encNodeR n = encNode n
 | .mk k o n l ks a => by simp only [encNodeR, encNode, encNodesR_map, Node.kind, Node.op_, Node.name, Node.lit, Node.kids, Node.at_]
structure Prgm where
 set_ : Str
 origin : Int
 expr : Node
 deriving Inhabited
def encPrgm (p : Prgm) : D := .agg [.str p.set_, .int .i64 p.origin, .int .i64 p.expr.kind, .int .i64 p.expr.op_, .str p.expr.name, .list 1 (p.expr.lit.shape.map (D.int .i64)), .list 3 (p.expr.lit.cells.map encCell), .list 7 (p.expr.kids.map encNodeR), .int .i64 p.expr.at_]
structure Grammar where
 verbs : List Str
 adverbs : List Str
 behind : List Str
 outer : Str
 power : Str
 open_ : Str
 close : Str
 left : Str
 right : Str
 minus : Str
 quote : Str
 trains : Bool
 lone : Bool
 square : Bool
 deriving Inhabited
def encGrammar (g : Grammar) : D := .agg [.list 1 (g.verbs.map D.str), .list 1 (g.adverbs.map D.str), .list 1 (g.behind.map D.str), .str g.outer, .str g.power, .str g.open_, .str g.close, .str g.left, .str g.right, .str g.minus, .str g.quote, .bool g.trains, .bool g.lone, .bool g.square]
def goFields (s : Str) : Option (List Str) := if (s.all (fun b => decide (b.toNat < 128)) && decide (s.length < 4294967281)) = true then some (Lib.fields s) else none
theorem goFields_inv {s : Str} {r : List Str} (h : goFields s = some r) : (s.all (fun b => decide (b.toNat < 128)) && decide (s.length < 4294967281)) = true ∧ r = Lib.fields s := by
 unfold goFields at h
 split at h
 ·rename_i hc
  simp only [Option.some.injEq] at h
  exact ⟨hc, h.symm⟩
 ·cases h
end Go.AM

namespace Go.AM
open Go
variable [Globs]
def strsOf : List D → Option (List (List UInt8))
 | [] => some []
 | .str s :: r => (strsOf r).map (s :: ·)
 | _ :: _ => none
theorem strsOf_eq : ∀ {ds : List D} {l : List (List UInt8)}, strsOf ds = some l → ds = l.map .str
 | [], l, h => by simp only [strsOf, Option.some.injEq] at h; subst h; rfl
 | d :: ds, l, h => by
  cases d <;> simp only [strsOf, Option.map_eq_some_iff, reduceCtorEq] at h
  obtain ⟨r, hr, rfl⟩ := h
  rw [strsOf_eq hr]; rfl
theorem strsOf_map : ∀ l : List (List UInt8), strsOf (l.map .str) = some l
 | [] => rfl
 | s :: l => by simp only [List.map_cons, strsOf, strsOf_map l]; rfl
def joinS (l : List (List UInt8)) (s : List UInt8) : Option (List UInt8) :=
 if l.length ≤ 140737488355328 ∧ (Lib.join l s).length ≤ 140737488355328 then some (Lib.join l s) else none
def joinCall : Call := fun _ args lh => match args with
 | [.d (.list 1 ds), .d (.str s)] => (strsOf ds).bind fun l => (joinS l s).map fun r => .ret (.d (.str r)) lh
 | _ => none
theorem step_below {K : Col} {w w' : World} (h : Go.RowKit.Below w.heap.size w w') : Step mine K w K w' :=
 ⟨h.os, h.tape, h.output, h.size, fun b hb _ => h.block b hb, fun b off hb _ =>
  ⟨by simp [World.cell?, h.block b hb], by simp [World.frozen?, h.block b hb], rfl⟩⟩
theorem callOK_below {P : Program} {f : Nat} {args : List C} {lh : List (List C)} {d : D}
  (h : ∀ K μ w vs, RepCs K μ w args vs → BoundK K w → Glob K w → Calls P f vs.toArray w fun e w' => (∃ u, e = .returned u ∧ Rep K w' d u) ∧ Go.RowKit.Below w.heap.size w w') :
  CallOK P f args lh (.ret (.d d) lh) := by
 intro K μ w vs hr hi hh hb hgl
 refine (h K μ w vs hr hb hgl).mono ?_
 rintro e w' ⟨⟨u, rfl, hu⟩, hbw⟩
 have hst := step_below (K := K) hbw
 refine ⟨K, μ, hst, fun blk off hl => hb _ _ (Nat.le_trans hbw.size hl), fun _ _ => rfl, Nat.le_refl _, ?_, by simp [PlainV], by simp [V.ids, C.ids], _, rfl, hu⟩
 intro i cells hic
 refine ⟨(hh i cells hic).1, (hh i cells hic).2.step (W := fun _ => False) ⟨hst.os, hst.tape, hst.output, hst.size, fun b hb _ => hbw.block b hb, fun b off hb _ => ⟨by simp [World.cell?, hbw.block b hb], by simp [World.frozen?, hbw.block b hb], rfl⟩⟩ (by simp) (by simp) (by simp)⟩
theorem repE_strs {K : Col} {w : World} : ∀ {l : List (List UInt8)} {blk off : Nat}, RepE K w 1 blk off (l.map .str) → ∀ (j : Nat) s, l[j]? = some s → w.cell? ⟨blk, off + j, none⟩ = some (.string ⟨s.toArray⟩)
 | s :: l, blk, off, h, j, t, ht => by
  simp only [List.map_cons, RepE] at h
  obtain ⟨⟨v, hv, hz, hc⟩, hr⟩ := h
  cases j with
  | zero =>
   simp only [List.getElem?_cons_zero, Option.some.injEq] at ht; subst ht
   simp only [Rep] at hv; subst hv
   exact (hc 0 _ rfl).2
  | succ j =>
   have := repE_strs hr j t (by simpa using ht)
   rw [show off + (j + 1) = off + 1 + j from by omega]
   exact this
theorem join_ok {P : Program} {ρ : Shelf.Ren} (L : Go.Proofs.Lays.n156 P ρ) (X : Go.Proofs.Builder.Extra P ρ) {args : List C} {lh : List (List C)} {r : CRes}
  (h : joinCall (ρ.f 156) args lh = some r) : CallOK P (ρ.f 156) args lh r := by
 unfold joinCall at h
 split at h
 ·rename_i ds s
  simp only [Option.bind_eq_some_iff, Option.map_eq_some_iff, joinS] at h
  obtain ⟨l, hl, q, hq, rfl⟩ := h
  have hds := strsOf_eq hl; subst hds
  split at hq
  ·rename_i hb
   simp only [Option.some.injEq] at hq; subst hq
   refine callOK_below fun K μ w vs hr hbd hgl => ?_
   cases hr with
   | cons hc hn =>
    cases hn with
    | cons hs hn =>
     cases hn
     rename_i v u
     simp only [RepC, Rep] at hc hs; subst hs
     rcases hc with ⟨he, rfl⟩ | ⟨blk, off, cap, rfl, hcap, he⟩
     ·have : l = [] := by simpa using he
      subst this
      refine (Go.Proofs.Any.strings_Join_none L X none 0 ⟨s.toArray⟩ w).mono ?_
      rintro e w' ⟨rfl, rfl⟩
      exact ⟨⟨_, rfl, by simp [Rep, Lib.join_nil]⟩, Go.RowKit.Below.refl _ _⟩
     ·cases l with
      | nil =>
       refine (Go.Proofs.Any.strings_Join_none L X (some (ad blk off)) cap ⟨s.toArray⟩ w).mono ?_
       rintro e w' ⟨rfl, rfl⟩
       exact ⟨⟨_, rfl, by simp [Rep, Lib.join_nil]⟩, Go.RowKit.Below.refl _ _⟩
      | cons x l =>
       have hcell := repE_strs he
       have hlt : blk < w.heap.size := block_lt (off := off + 0) (hcell 0 x rfl)
       have hm : (((x :: l).map fun s => ByteArray.mk s.toArray).map fun b => b.data.toList) = x :: l := by simp [List.map_map, Function.comp_def]
       have := Go.Proofs.Any.strings_Join L X blk off cap ((x :: l).map fun s => ByteArray.mk s.toArray) ⟨s.toArray⟩ w (fun j y hy => by
        simp only [List.getElem?_map, Option.map_eq_some_iff] at hy
        obtain ⟨t, ht, rfl⟩ := hy
        exact hcell j t ht) hlt (by simpa using hb.1) (by simpa using hcap) (by rw [hm]; simpa using hb.2)
       rw [hm] at this
       simp only [List.length_map] at this ⊢
       refine this.mono ?_
       rintro e w' ⟨rfl, hw⟩
       exact ⟨⟨_, rfl, by simp [Rep]⟩, hw⟩
  ·simp at hq
 ·simp at h
end Go.AM

namespace Go.AM.Seat
open Go Go.AM Go.Proofs
set_option maxRecDepth 100000
structure Grammar_parser where
  g : Grammar
  l : (List Token)
  i : Int
  end_ : Int
  deep : Int
  in_ : Int
  deriving Inhabited
structure Spell_writer where
  g : Grammar
  out : (List Str)
  right : Str
  nodes : Int
  bad : Bool
  deriving Inhabited
def h3 : Nat → List Nat | 0 => [0] | 1 => [0] | 3 => [0] | 4 => [3, 4] | 6 => [3, 4] | 7 => [3, 4, 5, 6] | 9 => [3, 4, 5] | 10 => [3, 4, 5, 7] | 11 => [3, 4, 5, 6, 7, 8] | _ => []
def h5 : Nat → List Nat | 0 => [0] | 1 => [0, 2, 3] | 2 => [0, 2, 3, 4, 5] | 3 => [2, 3, 5] | 4 => [0, 2, 3, 4, 5] | 5 => [0, 2, 3, 4, 5, 6] | 6 => [0, 2, 3, 4, 5, 6] | 7 => [0, 2, 3, 4, 5, 6] | 8 => [2, 3, 5, 6] | 9 => [2, 3, 5] | 10 => [2, 3, 6] | 2000006 => [0, 0, 2, 3, 4, 5, 6] | _ => []
def h6 : Nat → List Nat | 0 => [0] | 1 => [1] | 3 => [1] | 4 => [1, 4, 5] | 5 => [5] | 6 => [1, 4] | 7 => [1, 4] | 8 => [1, 4] | 9 => [1, 4, 6, 7] | 11 => [4] | 2000007 => [0, 1, 4] | _ => []
def h7 : Nat → List Nat | 0 => [0, 1] | 1 => [2, 3] | _ => []
def h8 : Nat → List Nat | 0 => [0] | 1 => [0, 3] | 2 => [3] | 3 => [0, 3] | 4 => [0, 3, 4] | 5 => [0, 3, 4, 5] | 6 => [0, 3, 4, 5] | 7 => [0, 3, 4, 5] | 8 => [0, 3, 4, 5] | 9 => [0, 3, 4, 5] | 10 => [3, 5] | 11 => [0, 3, 4, 5] | 12 => [0, 3, 4, 5, 6, 7, 8] | 13 => [3, 5, 8] | 14 => [3, 8] | 15 => [0, 3, 4, 5, 6, 7] | 16 => [0, 3, 4, 5, 6, 7] | 17 => [3, 4] | 1000000 => [0, 3, 4] | _ => []
def h9 : Nat → List Nat | 0 => [0] | 1 => [0] | 2 => [0, 6, 7] | 3 => [0, 6, 7] | 4 => [0, 3, 6, 7] | 5 => [0, 3, 4, 6, 7] | 7 => [0, 6, 7] | 8 => [0] | 1000000 => [0, 0] | 1000001 => [0, 0, 6, 7] | _ => []
def h10 : Nat → List Nat | 0 => [0, 1, 2] | 1 => [1, 2, 3, 6, 7] | 2 => [1, 2, 3, 6, 7] | 3 => [1, 6, 7, 8] | 4 => [1, 6, 7, 8] | 5 => [6, 7, 8] | 6 => [6, 7] | 2000005 => [0, 6, 7] | _ => []
def h11 : Nat → List Nat | 1 => [0] | _ => []
def h12 : Nat → List Nat | 0 => [0, 1] | 1 => [2, 3] | 2 => [3, 6] | 3 => [6] | 5 => [6] | _ => []
def h13 : Nat → List Nat | 0 => [0, 1] | 1 => [2, 3] | 3 => [2, 3] | 4 => [2, 3, 44, 45] | 5 => [2, 3, 44, 45] | 6 => [2, 3, 5, 44, 45] | 8 => [2, 3, 44, 45] | 1000000 => [0] | _ => []
def h14 : Nat → List Nat | 0 => [0, 1] | 1 => [2, 3] | 3 => [2, 3] | 4 => [2, 3, 5] | 5 => [2, 3, 5] | 6 => [2, 3, 5] | 1000000 => [0] | _ => []
def h15 : Nat → List Nat | 0 => [0, 1] | 1 => [0, 1] | _ => []
def h16 : Nat → List Nat | 0 => [0] | 1 => [0, 2, 4] | 2 => [0, 2, 4, 5] | 3 => [0, 2, 4, 5, 7] | 4 => [2, 4] | 5 => [0, 2, 4, 5] | 6 => [0, 2, 4] | 7 => [2, 4, 8, 9, 10] | 8 => [2, 4, 10] | 9 => [2, 4, 8, 9] | 10 => [0, 2, 4, 5] | 11 => [0, 2, 4] | 12 => [2, 4, 11, 12, 13] | 13 => [0, 2, 4, 5] | 14 => [0, 2, 4, 5] | 15 => [2, 4, 5, 14, 15] | 16 => [2, 4, 5, 14] | 17 => [2, 4, 14] | 18 => [0, 2, 4, 5] | 19 => [0, 2, 4, 5, 79, 80, 81] | 20 => [0, 2, 4, 5, 79, 80, 81] | 21 => [0, 2, 4, 5, 17, 79, 80, 81] | 22 => [0, 2, 4, 5, 17] | 23 => [2, 4, 5, 17] | 24 => [2, 4, 17] | 25 => [0, 2, 4, 5, 79, 80, 81] | 26 => [2, 4, 5] | 1000001 => [0, 2, 4, 5] | _ => []
def h17 : Nat → List Nat | 0 => [0, 1] | 1 => [0, 1, 2] | 2 => [0, 1, 2] | 3 => [0, 1, 2, 3, 4] | 4 => [0, 1, 2, 3] | 5 => [0, 1, 3] | _ => []
def h18 : Nat → List Nat | 0 => [0] | 1 => [1, 2] | 2 => [1, 2] | 3 => [1, 2] | 4 => [1, 2, 3] | 5 => [1, 2, 3] | 6 => [1, 2, 3, 4] | 7 => [1, 2, 3] | 8 => [1, 2, 3, 5] | 9 => [2, 5] | 10 => [1, 2, 3, 5] | 11 => [1, 2, 3, 5] | 12 => [1, 2, 3, 5] | 13 => [1, 2, 3, 5, 6] | 14 => [1, 2, 3, 5, 6, 7] | 15 => [1, 2, 3, 5, 6, 7] | 16 => [1, 2, 3, 6, 7, 8, 9] | 17 => [1, 2, 3, 6, 7, 8] | 18 => [1, 2, 3, 7, 8] | 19 => [1, 2, 3, 7] | 20 => [1, 2, 3, 5, 7] | 1000000 => [0, 1, 2, 3, 5] | 2000017 => [0, 1, 2, 3, 7, 8] | _ => []
def h19 : Nat → List Nat | 0 => [0, 1, 2] | 1 => [0, 1, 2, 6] | 2 => [0, 1, 2] | 3 => [1, 6] | 2000002 => [0, 1, 6] | _ => []
def h21 : Nat → List Nat | 0 => [0, 1] | 1 => [0, 3] | 2 => [0, 3] | 3 => [0, 3, 5] | 4 => [0, 3] | 5 => [0, 3] | 6 => [0, 3] | 7 => [0, 3, 5] | 8 => [0, 3] | 9 => [0, 3] | 10 => [0, 3] | 11 => [0, 3] | _ => []
def h23 : Nat → List Nat | 0 => [0, 1] | 1 => [2, 3] | _ => []
def h24 : Nat → List Nat | 0 => [0, 1] | 1 => [2, 3] | 2 => [2, 3, 5] | 3 => [2, 3, 5, 6] | 4 => [2, 3, 5, 6] | 5 => [2, 3, 6] | 6 => [2, 3, 5] | 7 => [2, 3, 5, 7] | 8 => [2, 3, 5, 7] | 9 => [2, 3, 7] | 10 => [2, 3, 5] | 11 => [2, 3] | 12 => [5] | 1000000 => [0, 2, 3, 5] | 1000002 => [0, 2, 3, 5] | 2000011 => [0, 5] | _ => []
def h25 : Nat → List Nat | 0 => [0, 1] | 1 => [0, 1] | _ => []
def h26 : Nat → List Nat | 0 => [0] | 1 => [0] | 3 => [0] | 4 => [0, 4, 5] | 6 => [0, 4, 5] | 7 => [4, 5, 28, 29, 30] | 8 => [4, 5, 28, 29, 30] | 9 => [4, 5, 7, 28, 29, 30] | 11 => [4, 5, 7, 28, 29, 30] | 12 => [4, 5, 28, 29, 30] | 13 => [4, 5] | 15 => [4, 5] | 1000000 => [0, 4, 5] | _ => []
def h27 : Nat → List Nat | 0 => [0] | 1 => [0] | _ => []
def h28 : Nat → List Nat | 0 => [0] | 1 => [0, 2] | 2 => [0, 2, 5] | 3 => [0, 2, 5, 6] | 4 => [0, 2, 5, 6, 7, 8, 9] | 5 => [2, 6] | 6 => [0, 2, 5, 6, 7, 8] | 7 => [0, 2, 5, 6] | 8 => [0, 2, 5, 6, 10] | 9 => [0, 2, 5, 6, 10] | 10 => [0, 2, 5, 6, 10] | 11 => [0, 2, 5, 10] | 12 => [2, 5, 6] | 13 => [2, 5, 6] | 14 => [2, 5, 6] | 1000000 => [0, 2, 5, 6] | 1000002 => [0, 0, 2, 5, 6, 10] | _ => []
def h29 : Nat → List Nat | 0 => [0] | 1 => [0, 2, 4] | 2 => [0, 2, 4, 5] | 3 => [0, 2, 4, 5, 6] | 4 => [0, 2, 4, 5, 6] | 5 => [0, 2, 4, 5, 6, 7, 8] | 6 => [2, 4, 6] | 7 => [0, 2, 4, 5, 6, 7, 8] | 8 => [2, 4, 5, 6] | 9 => [0, 2, 4, 5, 6, 7, 8] | 10 => [0, 2, 4, 5, 6, 7] | 11 => [0, 2, 4, 5, 6, 7, 8] | 12 => [2, 4, 6] | 13 => [0, 2, 4, 5, 6, 7, 8] | 14 => [2, 4] | 1000000 => [0, 2, 4] | 1000002 => [0, 0, 2, 4, 5, 6, 7, 8] | _ => []
def h30 : Nat → List Nat | 0 => [0] | 1 => [0] | _ => []
def h31 : Nat → List Nat | 0 => [0] | 1 => [0, 2] | 2 => [0, 2, 4] | 3 => [0, 2, 4] | 4 => [0, 2, 4] | 5 => [0, 2, 4, 5] | 6 => [0, 2, 4, 5, 6] | 7 => [0, 2, 4, 5] | 8 => [2, 5] | 9 => [0, 2, 4, 5] | 10 => [2, 5] | 11 => [0, 2, 4, 5] | 12 => [0, 2, 4, 5, 56, 57] | 13 => [0, 2, 4, 5, 56, 57] | 14 => [0, 2, 4, 5, 7, 56, 57] | 15 => [2, 5] | 16 => [0, 2, 4, 5, 56, 57] | 17 => [2, 4, 5] | 1000000 => [0, 0, 2, 4] | 1000002 => [0, 2, 4, 5] | _ => []
def h32 : Nat → List Nat | 2 => [1] | 3 => [1, 5, 6, 7] | 4 => [1, 5, 6, 7] | 5 => [1, 3, 5, 6, 7] | 6 => [1, 3, 4, 5, 6, 7] | 7 => [1, 3, 4, 5, 6, 7, 11] | 8 => [1, 3, 5, 6, 7] | 9 => [1, 3, 4, 5, 6, 7, 11] | 10 => [1, 3, 4, 5, 6, 7, 11] | 11 => [1, 3, 5, 6, 7] | 12 => [1, 3, 4, 5, 6, 7, 11] | 13 => [1, 3, 4, 5, 6, 7, 11] | 14 => [1, 3, 5, 6, 7] | 15 => [1, 3, 4, 5, 6, 7] | 16 => [1, 5, 6, 7] | 17 => [1] | 1000000 => [0, 1] | 1000002 => [0, 1, 3, 4, 5, 6, 7] | 2000010 => [0, 1, 3, 4, 5, 6, 7, 11, 14] | 2000013 => [0, 1, 3, 4, 5, 6, 7, 17] | _ => []
def h33 : Nat → List Nat | 0 => [0] | 1 => [0] | _ => []
def h34 : Nat → List Nat | 0 => [0, 1] | 1 => [0, 1] | 2 => [0, 1] | _ => []
def h35 : Nat → List Nat | 0 => [0] | 1 => [0] | 2 => [0] | _ => []
def h36 : Nat → List Nat | 0 => [0] | _ => []
def h37 : Nat → List Nat | 0 => [0] | 1 => [0] | 2 => [0] | 3 => [0] | _ => []
def h38 : Nat → List Nat | 0 => [0, 1, 2] | 1 => [0, 1, 2] | 2 => [0, 1] | 3 => [0, 1] | 5 => [0, 1, 2] | 6 => [0, 1] | 7 => [0, 1, 2] | 8 => [0, 1] | 9 => [0, 1] | 11 => [0, 1] | 12 => [0, 1, 2] | 13 => [0, 1, 2] | 14 => [0, 1] | 16 => [0, 1] | 17 => [0, 1] | 18 => [0, 1] | 19 => [0, 1, 8] | 20 => [0, 1] | 21 => [1] | 1000000 => [0, 0, 1] | 1000001 => [0, 6] | 2000002 => [0, 0, 1, 2] | _ => []
def h39 : Nat → List Nat | 0 => [0, 1] | 1 => [1, 2, 4] | 2 => [1, 2, 4] | 3 => [1, 2, 4] | 4 => [1, 2, 4, 5] | 5 => [1, 2, 4, 5, 6] | 6 => [2, 4, 5, 6] | 7 => [2, 4, 5, 6] | 8 => [1, 2, 4, 5, 6] | 9 => [2, 4, 5, 6, 7] | 10 => [2, 4, 5, 7] | 11 => [2, 4, 5, 7, 6015003, 6015004] | 12 => [2, 4, 5, 7] | 13 => [2, 4, 5, 7] | 14 => [2, 4, 5, 7] | 15 => [2, 4, 5, 7, 8, 9] | 16 => [2, 4, 5, 7, 8] | 17 => [2, 4, 5, 7] | 18 => [4, 7] | 1000000 => [0, 4] | 2000006 => [0, 1, 2, 4, 5, 6] | 2000010 => [0, 2, 4, 5, 7, 6015003, 6015004] | _ => []
def h40 : Nat → List Nat | 0 => [0] | 1 => [0, 2] | 2 => [0, 2] | 3 => [0, 2] | 4 => [0, 2, 3] | 5 => [0, 2, 3, 4] | 6 => [0, 2, 3, 4] | 7 => [0, 2, 3, 4] | 8 => [0, 2, 3, 4] | 9 => [0, 2, 3, 4] | 10 => [0, 2, 3, 4] | 11 => [0, 2, 3, 4] | 12 => [0, 2, 3, 4] | 13 => [0, 2, 3, 4] | 14 => [0, 2, 3, 4] | 15 => [0, 2, 3, 4] | 16 => [0, 2, 3, 4] | 17 => [0, 2, 3, 4] | 18 => [0, 2, 3, 4] | 19 => [0, 2, 3, 4] | 20 => [0, 2, 3, 4] | 21 => [0, 2, 3, 4] | 22 => [0, 2, 3, 4, 6024003, 6024004] | 23 => [0, 2, 3, 4] | 24 => [0, 2, 3, 4] | 25 => [0, 2, 3, 4, 5] | 26 => [0, 2, 3, 4, 5] | 27 => [2, 4] | 1000000 => [0, 0, 2, 3, 4, 6024003, 6024004, 6024005] | 1000001 => [0, 2, 4] | 2000002 => [0, 0, 2] | _ => []
def h41 : Nat → List Nat | 0 => [0] | 1 => [1] | 3 => [1] | _ => []
def h44 : Nat → List Nat | 0 => [0, 1, 2] | 1 => [0, 2, 4] | 2 => [0, 2, 4] | 3 => [0] | _ => []
def h45 : Nat → List Nat | 0 => [0, 1] | 1 => [0, 3] | 2 => [0, 3] | 3 => [0, 3] | 4 => [0, 3] | 5 => [0] | 6 => [0, 3] | 2000003 => [0] | _ => []
def h46 : Nat → List Nat | 0 => [0, 1] | 1 => [0, 3] | 2 => [0] | 3 => [0, 3, 7] | 4 => [0, 3] | 5 => [0, 3, 4, 5] | 6 => [0, 3, 4] | 7 => [0, 4] | 8 => [0, 3, 7] | 9 => [0, 3] | 10 => [0, 3] | 11 => [0, 3, 7] | 12 => [0, 3] | 13 => [0] | 14 => [0, 3, 7] | 15 => [0, 3] | 16 => [0] | 17 => [0, 3, 7] | 18 => [0, 3] | 19 => [0, 3] | 20 => [0, 3] | 21 => [0, 3] | 22 => [0] | 23 => [0, 3, 7] | 24 => [0, 3, 7] | 25 => [0, 3] | 26 => [0, 3] | 27 => [0] | 2000024 => [0, 0, 3, 99] | _ => []
def h47 : Nat → List Nat | 0 => [0, 1] | 1 => [0, 3] | 2 => [0, 3] | 3 => [0, 3] | 4 => [0] | 5 => [0, 3] | _ => []
def h51 : Nat → List Nat | 0 => [0, 1] | 1 => [2, 3] | 2 => [2, 3, 5] | 3 => [2, 3, 5, 6] | 4 => [6] | 5 => [2, 3, 5] | 6 => [2, 3, 5, 7] | 7 => [7] | 8 => [2, 3, 5] | 9 => [2, 3, 8] | 10 => [8] | 11 => [2, 3] | _ => []
def h52 : Nat → List Nat | 0 => [0, 1] | 1 => [0, 1] | 3 => [0, 1] | _ => []
def h53 : Nat → List Nat | 0 => [0, 1] | 1 => [2, 3] | 2 => [2, 3, 5] | 3 => [2, 3] | 4 => [2, 3, 5] | 5 => [2, 3] | 6 => [2, 3, 5] | 7 => [2, 3] | 8 => [5] | 2000003 => [0, 2, 3, 5] | 2000007 => [0, 5] | _ => []
def h54 : Nat → List Nat | 0 => [0] | 1 => [0] | 2 => [0] | 3 => [0] | 4 => [0] | 5 => [0] | 6 => [0] | 8 => [0] | 9 => [0] | 10 => [0] | _ => []
def h55 : Nat → List Nat | 0 => [0] | 1 => [0] | _ => []
def h56 : Nat → List Nat | 0 => [0, 1] | 1 => [0, 1] | 2 => [0, 1] | 3 => [0, 1] | 4 => [0, 1] | 5 => [0, 1] | 6 => [0, 1] | 7 => [0, 1] | 999999 => [1] | _ => []
def h57 : Nat → List Nat | 0 => [0] | 1 => [0] | 2 => [0, 5] | 3 => [0] | 4 => [0, 5] | 5 => [0, 5, 6, 7] | 6 => [0, 5, 6, 7] | 7 => [0, 5, 6, 7] | 8 => [0, 5, 6, 7, 8] | 9 => [0, 5, 6, 7, 8] | 10 => [0, 5, 6, 7] | 11 => [5, 6, 7] | 12 => [5, 6, 7] | 1000000 => [0, 0, 5, 6, 7] | 1000001 => [0, 0, 5, 6, 7] | 2000003 => [0, 0, 5] | _ => []
def h58 : Nat → List Nat | 0 => [0] | 1 => [0, 2] | _ => []
def h59 : Nat → List Nat | 0 => [0] | 1 => [0, 2] | 2 => [0, 2, 3] | 3 => [2, 3, 10, 11, 12] | 4 => [2, 3, 10, 11, 12] | 5 => [2, 3, 5, 10, 11, 12] | 6 => [2, 3, 10, 11, 12] | 7 => [2, 3] | 1000000 => [0, 2, 3] | _ => []
def h60 : Nat → List Nat | 0 => [0] | 1 => [0, 2] | 2 => [0, 2, 3] | 3 => [0, 2, 3] | 4 => [0, 2, 3] | 5 => [2, 3, 14, 15, 16] | 6 => [2, 3, 14, 15, 16] | 7 => [2, 3, 5, 14, 15, 16] | 8 => [2, 3, 14, 15, 16] | 9 => [2, 3] | 1000000 => [0, 2, 3] | 2000003 => [0, 0, 2, 3, 6001000] | _ => []
def h61 : Nat → List Nat | 0 => [0, 1, 2, 3] | 1 => [0, 1, 2, 3] | _ => []
def h62 : Nat → List Nat | 0 => [0, 1, 2] | 1 => [0, 1, 2] | _ => []
def h63 : Nat → List Nat | 0 => [0, 1] | 1 => [0, 1] | 2 => [0, 1, 5] | 3 => [0, 5, 6] | 4 => [0, 5, 6] | 5 => [0, 5, 6] | 6 => [0, 5, 6, 24] | 7 => [0, 5, 6] | 8 => [0, 5, 6, 24] | 9 => [0, 5, 6] | 10 => [0, 5, 6] | 11 => [6] | 1000000 => [0] | 1000001 => [0, 0, 5, 6] | _ => []
def h64 : Nat → List Nat | 0 => [0, 1, 2] | 1 => [0, 1, 2] | 2 => [0, 1, 2, 7] | 3 => [0, 1, 2, 7] | 4 => [0, 1, 2, 7] | 5 => [0, 1, 2, 7] | 7 => [0, 1, 2, 7] | 8 => [0, 1, 7] | 9 => [1] | 1000000 => [0, 0, 1, 7] | _ => []
def h65 : Nat → List Nat | 0 => [0, 1] | 1 => [0, 1] | 3 => [0, 1] | _ => []
def h66 : Nat → List Nat | 0 => [0] | _ => []
def h67 : Nat → List Nat | 0 => [0, 1] | 1 => [0, 1, 4] | 2 => [0, 1, 4, 5] | 3 => [0, 4] | 4 => [0, 1, 4, 5] | 5 => [0, 1, 4, 5] | 6 => [0, 1, 4, 5] | 7 => [0, 1, 4, 5, 6] | 8 => [0, 1, 4, 5, 6] | 9 => [0, 4, 5, 6] | 10 => [4, 5, 6] | 11 => [4, 5, 6, 59] | 12 => [4, 6] | 13 => [4, 5, 6, 59] | 14 => [4, 5, 6] | 15 => [4, 5, 6] | 16 => [0, 4, 5] | 17 => [0, 4, 7] | 18 => [4, 7] | 1000001 => [0, 0, 4, 5, 6] | _ => []
def h68 : Nat → List Nat | 0 => [0, 1, 2] | 1 => [0] | 2 => [0] | 2000001 => [0, 0] | _ => []
def h70 : Nat → List Nat | 0 => [0, 1] | 1 => [0, 6, 7, 8] | 2 => [0, 6, 7, 8] | 3 => [0, 5, 6, 7, 8] | 4 => [0, 5, 6, 7, 8] | 5 => [0, 5, 6, 7, 8] | 6 => [0, 6, 7, 8] | 1000000 => [0] | 2000004 => [0, 0, 5, 6, 7, 8] | _ => []
def h71 : Nat → List Nat | 0 => [0, 1] | 1 => [0, 1] | 2 => [0, 1] | 3 => [0] | _ => []
def h72 : Nat → List Nat | 0 => [0, 1] | 1 => [0, 3] | 2 => [0, 3, 4] | 3 => [0, 3] | 4 => [0] | 5 => [0, 3, 18] | 6 => [0, 3] | 7 => [0, 3, 18] | 8 => [0, 3, 18] | 9 => [0, 3] | 10 => [0, 3, 18] | 11 => [0, 3] | 12 => [0, 3] | 13 => [0, 3, 18] | 14 => [0, 3] | 15 => [0, 3] | 16 => [0, 3] | 17 => [0, 3, 18] | 18 => [0, 3] | 19 => [0, 3] | 20 => [0, 3, 18] | 21 => [0, 3, 18] | 22 => [0, 3] | 23 => [0, 3] | 24 => [0, 107, 108, 109] | 25 => [0, 107, 108, 109] | 26 => [0, 6, 107, 108, 109] | 27 => [0, 107, 108, 109] | 28 => [0] | 1000001 => [0, 0] | 2000008 => [0, 0, 3, 18, 29] | 2000021 => [0, 0, 3, 100] | _ => []
def h73 : Nat → List Nat | 0 => [0, 1] | _ => []
def h74 : Nat → List Nat | 0 => [0, 1] | 1 => [2, 3] | 3 => [2, 3] | 4 => [2, 3, 6] | 5 => [2, 3, 6] | 6 => [3, 6, 29, 30, 31] | 7 => [3, 6, 29, 30, 31] | 8 => [3, 6, 8, 29, 30, 31] | 9 => [3, 6, 29, 30, 31] | 10 => [6] | 11 => [2, 3, 6] | 12 => [3, 6, 47, 48, 49] | 13 => [3, 6, 47, 48, 49] | 14 => [3, 6, 10, 47, 48, 49] | 15 => [3, 6, 11, 47, 48, 49] | 16 => [3, 6, 47, 48, 49] | 17 => [3, 6] | 1000000 => [0, 6] | 1000002 => [0, 3, 6] | _ => []
def h77 : Nat → List Nat | 0 => [0, 1] | 1 => [0, 1] | 2 => [1, 7, 8] | 3 => [1, 7, 8] | 4 => [1, 5, 7, 8] | 5 => [1, 6, 7, 8] | 6 => [6] | 7 => [1, 7, 8] | 1000000 => [0] | _ => []
def h78 : Nat → List Nat | 0 => [0, 1] | 1 => [0, 1] | 3 => [0, 1] | _ => []
def h79 : Nat → List Nat | 0 => [0, 1, 2] | 1 => [0, 1, 2] | _ => []
def h80 : Nat → List Nat | 0 => [0, 1, 2] | 1 => [0, 1, 2] | _ => []
def h81 : Nat → List Nat | 0 => [0, 1] | 1 => [2, 3] | 2 => [2, 3, 5] | 3 => [5] | 4 => [2, 3] | 5 => [2, 3, 6] | 6 => [2, 3, 6] | 7 => [2, 3] | 8 => [6] | 9 => [2, 3] | _ => []
def h82 : Nat → List Nat | 0 => [0, 1] | 1 => [0, 1] | _ => []
def h83 : Nat → List Nat | 0 => [0] | 1 => [0, 2] | 2 => [0, 2, 3] | 3 => [0, 2, 3, 4] | 4 => [0, 2, 3, 4] | 5 => [0, 2, 3, 4] | 6 => [0, 2, 3, 4, 5] | 7 => [0, 2, 3, 4, 5] | 8 => [0, 2, 3, 4, 5] | 9 => [0, 2, 3, 4, 5, 6, 7] | 10 => [2, 4, 5] | 11 => [0, 2, 3, 4, 5, 6, 7] | 12 => [0, 2, 3, 4, 5] | 13 => [2, 4, 5] | 1000000 => [0, 2, 4, 5] | _ => []
def h86 : Nat → List Nat | 0 => [0] | 1 => [0] | 2 => [0, 3] | 3 => [0] | 4 => [0, 3] | 2000003 => [0, 0, 3] | _ => []
def h87 : Nat → List Nat | 0 => [0, 1] | 1 => [0, 3] | 2 => [0, 3, 4] | 3 => [0, 3, 4] | 4 => [0, 3, 4] | 5 => [0, 3, 4] | 6 => [0, 3, 4] | 7 => [0, 4] | 8 => [0, 4] | 2000004 => [0, 0, 3, 4] | _ => []
def h88 : Nat → List Nat | 0 => [0, 1] | 1 => [0, 3] | 2 => [0, 3] | 3 => [0, 3] | 4 => [0] | 5 => [0, 3, 5] | 6 => [0, 3, 5] | 7 => [0, 3, 5] | 8 => [0, 3, 5] | 9 => [0, 3, 5] | 10 => [0, 3] | 2000006 => [0, 0, 3, 15] | _ => []
def h89 : Nat → List Nat | 0 => [0] | 1 => [1] | 3 => [1] | 4 => [1, 27, 28, 29] | 5 => [1, 27, 28, 29] | 6 => [1, 4, 27, 28, 29] | 8 => [1, 27, 28, 29] | 1000000 => [0] | 1000001 => [0, 1, 27, 28, 29] | _ => []
def h90 : Nat → List Nat | 0 => [0] | 1 => [0] | 2 => [0, 4] | 3 => [4, 7, 8, 9, 5000004] | 4 => [4, 7, 8, 9] | 5 => [4, 6, 7, 8, 9] | 7 => [4, 6, 7, 8, 9] | 8 => [4, 7, 8, 9] | 9 => [4] | 1000000 => [0, 4] | _ => []
def h91 : Nat → List Nat | 0 => [0, 1] | 1 => [0, 3] | 3 => [0, 3] | 4 => [0] | 5 => [0] | 1000000 => [0, 0] | _ => []
def h94 : Nat → List Nat | 0 => [0, 1] | 1 => [0, 1] | 3 => [0, 1] | _ => []
def h95 : Nat → List Nat | 0 => [0, 1] | 1 => [0, 1] | 2 => [0, 1, 7, 8] | 3 => [0, 1, 7, 8] | 4 => [0, 1, 5, 7, 8] | 5 => [5] | 6 => [0, 1, 7, 8] | 1000000 => [0] | _ => []
def h96 : Nat → List Nat | 0 => [0, 1] | 1 => [2, 3] | 3 => [2, 3] | _ => []
def h97 : Nat → List Nat | 0 => [0] | 1 => [1, 2] | 2 => [1, 2] | 3 => [1, 2] | 4 => [1, 2] | 5 => [1, 2] | 6 => [1, 2, 3] | 7 => [1, 2, 3] | 8 => [1, 2, 22, 23, 24] | 9 => [1, 2, 22, 23, 24] | 10 => [1, 2, 5, 22, 23, 24] | 11 => [1, 2, 22, 23, 24] | 12 => [1, 2] | 1000000 => [0, 1, 2] | 2000002 => [0, 1, 2] | _ => []
def h98 : Nat → List Nat | 0 => [0] | 1 => [1] | _ => []
def h99 : Nat → List Nat | 0 => [0, 1] | 1 => [0, 1] | _ => []
def h100 : Nat → List Nat | 0 => [0, 1] | 1 => [1, 2] | _ => []
def h101 : Nat → List Nat | 0 => [0, 1] | 1 => [1, 2] | 2 => [1, 2, 5, 6] | 3 => [6] | 4 => [1, 2, 5] | 6 => [1, 2] | 7 => [1, 2, 27, 28, 29] | 8 => [1, 2, 27, 28, 29] | 9 => [1, 2, 8, 27, 28, 29] | 11 => [1, 2, 27, 28, 29] | 12 => [1, 2] | 13 => [1, 37, 38, 39] | 14 => [1, 37, 38, 39] | 15 => [1, 10, 37, 38, 39] | 16 => [1, 10, 37, 38, 39] | 18 => [1, 10, 37, 38, 39] | 19 => [1, 11, 37, 38, 39] | 20 => [11] | 21 => [1, 10, 37, 38, 39] | 23 => [1, 37, 38, 39] | 1000000 => [0, 1, 2] | 1000002 => [0] | 1000003 => [0, 1, 37, 38, 39] | _ => []
def h102 : Nat → List Nat | 0 => [0, 1] | 1 => [0, 1] | 2 => [0, 1, 7, 8] | 3 => [0, 1, 7, 8] | 4 => [0, 1, 5, 7, 8] | 5 => [5] | 6 => [0, 1, 7, 8] | 1000000 => [0] | _ => []
def h103 : Nat → List Nat | 0 => [0] | 1 => [0] | 3 => [0] | 4 => [0, 4, 5] | 5 => [0, 4, 5, 13, 14, 15] | 6 => [0, 4, 5, 13, 14, 15] | 7 => [0, 4, 5, 7, 13, 14, 15] | 9 => [0, 4, 5, 7, 13, 14, 15] | 10 => [0, 4, 5, 13, 14, 15] | 11 => [0, 4, 5] | 13 => [0, 4] | 14 => [4, 28, 29, 30] | 15 => [4, 28, 29, 30] | 16 => [4, 9, 28, 29, 30] | 18 => [4, 9, 28, 29, 30] | 19 => [4, 28, 29, 30] | 20 => [4] | 1000000 => [0, 0, 4, 5] | 1000001 => [0, 0, 4, 5, 13, 14, 15] | 1000002 => [0, 4] | _ => []
def h104 : Nat → List Nat | 0 => [0] | 1 => [0] | _ => []
def H : Nat → Nat → List Nat
  | 3 => h3
  | 5 => h5
  | 6 => h6
  | 7 => h7
  | 8 => h8
  | 9 => h9
  | 10 => h10
  | 11 => h11
  | 12 => h12
  | 13 => h13
  | 14 => h14
  | 15 => h15
  | 16 => h16
  | 17 => h17
  | 18 => h18
  | 19 => h19
  | 21 => h21
  | 23 => h23
  | 24 => h24
  | 25 => h25
  | 26 => h26
  | 27 => h27
  | 28 => h28
  | 29 => h29
  | 30 => h30
  | 31 => h31
  | 32 => h32
  | 33 => h33
  | 34 => h34
  | 35 => h35
  | 36 => h36
  | 37 => h37
  | 38 => h38
  | 39 => h39
  | 40 => h40
  | 41 => h41
  | 44 => h44
  | 45 => h45
  | 46 => h46
  | 47 => h47
  | 51 => h51
  | 52 => h52
  | 53 => h53
  | 54 => h54
  | 55 => h55
  | 56 => h56
  | 57 => h57
  | 58 => h58
  | 59 => h59
  | 60 => h60
  | 61 => h61
  | 62 => h62
  | 63 => h63
  | 64 => h64
  | 65 => h65
  | 66 => h66
  | 67 => h67
  | 68 => h68
  | 70 => h70
  | 71 => h71
  | 72 => h72
  | 73 => h73
  | 74 => h74
  | 77 => h77
  | 78 => h78
  | 79 => h79
  | 80 => h80
  | 81 => h81
  | 82 => h82
  | 83 => h83
  | 86 => h86
  | 87 => h87
  | 88 => h88
  | 89 => h89
  | 90 => h90
  | 91 => h91
  | 94 => h94
  | 95 => h95
  | 96 => h96
  | 97 => h97
  | 98 => h98
  | 99 => h99
  | 100 => h100
  | 101 => h101
  | 102 => h102
  | 103 => h103
  | 104 => h104
  | _ => fun _ => []
def g4 : Nat → List Nat | 2 => [1, 2] | 3 => [1, 2, 3, 4] | 4 => [1, 2, 3, 4, 6] | _ => []
def H0 : Nat → Nat → List Nat
  | 4 => g4
  | n => H n
noncomputable abbrev P := Go.Proofs.Tryz.prog
def go_works : Option Bool := some true
def worksCall : Call := fun _ args lh => match args, lh with
  | [], [] => some (.ret (.d (.bool true)) [])
  | _, _ => none
instance : Globs := ⟨[(0, (List.range 256).map fun c => Value.int .u8 (if Lib.isSp (UInt8.ofNat c) then 1 else 0))]⟩
def E0 : Nat → Option Call := fun f => if f = 20 then some fieldsCall else if f = 22 then some joinCall else none
def E : Nat → Option Call := fun f => if f = 4 then some worksCall else E0 f
noncomputable abbrev X : Ctx := ⟨P, E, H⟩
theorem go_works_ok {r : Bool} (h : go_works = some r) : aval X 4 [] [] (.ret (.d (.bool r)) []) :=
  aval_ext (g := worksCall) (args' := []) rfl rfl (by cases h; rfl)
theorem goFields_ok {s : Str} {r : List Str} (h : goFields s = some r) : aval X 20 [.d (.str s)] [] (.ret (.d (.list 1 (r.map D.str))) []) := by
  obtain ⟨hc, rfl⟩ := goFields_inv h
  refine aval_ext (g := fieldsCall) (args' := [.d (.str s)]) rfl rfl ?_
  show fieldsCall 20 [.d (.str s)] [] = _
  simp only [fieldsCall]
  rw [if_pos hc]
def go_Join (l : List Str) (s : Str) : Option Str := joinS l s
theorem go_Join_ok {l : List Str} {s r : Str} (h : go_Join l s = some r) : aval X 22 [.d (.list 1 (l.map D.str)), .d (.str s)] [] (.ret (.d (.str r)) []) :=
  aval_ext (g := joinCall) (args' := [.d (.list 1 (l.map D.str)), .d (.str s)]) rfl rfl (by show Option.bind _ _ = _; rw [strsOf_map]; show Option.map _ (joinS l s) = _; rw [show joinS l s = some r from h]; rfl)
end Go.AM.Seat
namespace Go.AM.Seat
open Go Go.AM Go.Proofs
set_option maxRecDepth 100000
set_option maxHeartbeats 4000000
set_option linter.unusedVariables false
def p_grammar_Parse_1_q (a_ : Node) (a_1 : Fault) : Option (Unit) :=
 some ()
def p_grammar_Parse_1_p (e : Fault) (a_ : Node) (a_1 : Fault) : Option (Int × Int × Str × (List Int) × (List Cell) × (List Node) × Int × Int × Int × Int) :=
 some (0, 0, [], [], [], [], 0, e.err, e.at_, e.why)
def p_grammar_Parse_1_p_2 (e : Fault) (a_ : Node) (a_1 : Fault) : Option (Int × Int × Str × (List Int) × (List Cell) × (List Node) × Int × Int × Int × Int) :=
 some (0, 0, [], [], [], [], 0, e.err, e.at_, e.why)
def p_grammar_parser_fail (e : Int) (i : Int) (p : Grammar_parser) : Option (Except (Fault) (Unit)) :=
 (
  if (decide (i < (List.length p.l : Int))) then
   lget p.l i >>= fun y =>
   some y.at_
  else
   some p.end_
 : Option (Int)) >>= fun at_ =>
 some (.error (Fault.mk e at_ 0))
def p_grammar_parser_down (p : Grammar_parser) : Option (Except (Fault × Int) (Int)) :=
 if (decide ((w64 (p.deep + 1)) > 24)) then
  p_grammar_parser_fail 15 p.i (Grammar_parser.mk p.g p.l p.i p.end_ (w64 (p.deep + 1)) p.in_) >>= fun res => match res with
  | .error e =>
    some (.error (e, (w64 (p.deep + 1))))
  | .ok _ =>
   some (.ok (w64 (p.deep + 1)))
 else
  some (.ok (w64 (p.deep + 1)))
def p_grammar_parser_expr_1 (b : Grammar_parser) : Option (Int) :=
 some (w64 (b.deep - 1))
def p_grammar_parser_here (p : Grammar_parser) : Option (Int) :=
 if (decide (p.i < (List.length p.l : Int))) then
  lget p.l p.i >>= fun y =>
  some y.at_
 else
  some p.end_
def p_grammar_parser_is (i : Int) (kind : Int) (text : Str) (p : Grammar_parser) : Option (Bool) :=
 if (decide (i < (List.length p.l : Int))) then
  lget p.l i >>= fun y =>
  if (y.kind == kind) then
   lget p.l i >>= fun y1 =>
   if (y1.text == text) then
    some (!(text == []))
   else
    some false
  else
   some false
 else
  some false
def p_slices_Index_string_l0 (a : ((List Str)) × Str × Int) : Option (Except (Int) (Unit)) := match a with
 | (s, v, x) =>
  if (decide (x < (List.length s : Int))) then
   lget s x >>= fun y =>
   if (v == y) then
    some (.error x)
   else
    p_slices_Index_string_l0 (s, v, (w64 (x + 1)))
  else
   some (.ok ())
 partial_fixpoint
def p_slices_Index_string (s : (List Str)) (v : Str) : Option (Int) :=
 (
  p_slices_Index_string_l0 (s, v, 0)
 : Option (Except (Int) (Unit))) >>= fun res => match res with
 | .error r => some r
 | .ok _ =>
  some (-1)
def p_slices_Contains_string (s : (List Str)) (v : Str) : Option (Bool) :=
 p_slices_Index_string s v >>= fun x =>
 some (decide (x ≥ 0))
def p_grammar_parser_sign (i : Int) (l : (List Str)) (p : Grammar_parser) : Option (Bool) :=
 if (decide (i < (List.length p.l : Int))) then
  lget p.l i >>= fun y =>
  if (y.kind == 4) then
   lget p.l i >>= fun y1 =>
   p_slices_Contains_string l y1.text >>= fun x =>
   some x
  else
   some false
 else
  some false
def p_grammar_parser_shut_l0 (a : Grammar_parser × Int × Int) : Option (Except (Int) (Unit)) := match a with
 | (p, n, k) =>
  if (decide (k < (List.length p.l : Int))) then
   (
    lget p.l k >>= fun y =>
    if (y.kind == 5) then
     some (.ok (w64 (n + 1)))
    else
     if (y.kind == 6) then
      if ((w64 (n - 1)) == 0) then
       some (.error k)
      else
       some (.ok (w64 (n - 1)))
     else
      some (.ok n)
   : Option (Except (Int) (Int))) >>= fun res => match res with
   | .error r => some (.error r)
   | .ok n1 =>
    p_grammar_parser_shut_l0 (p, n1, (w64 (k + 1)))
  else
   some (.ok ())
 partial_fixpoint
def p_grammar_parser_shut (i : Int) (p : Grammar_parser) : Option (Int) :=
 (
  p_grammar_parser_shut_l0 (p, 0, i)
 : Option (Except (Int) (Unit))) >>= fun res => match res with
 | .error r => some r
 | .ok _ =>
  some (-1)
def p_grammar_times (a_ : Arr) : Option (Int × Bool) :=
 if (decide ((List.length a_.shape : Int) > 0)) then
  some (0, false)
 else
  if ((List.length a_.cells : Int) != 1) then
   some (0, false)
  else
   lget a_.cells 0 >>= fun y =>
   if (y.kind != 0) then
    some (0, false)
   else
    lget a_.cells 0 >>= fun y1 =>
    if (decide (y1.n < 0)) then
     some (0, false)
    else
     lget a_.cells 0 >>= fun y2 =>
     if (decide (y2.n > 4096)) then
      some (0, false)
     else
      lget a_.cells 0 >>= fun y3 =>
      some (y3.n, true)
def p_grammar_parser_power (i : Int) (p : Grammar_parser) : Option (Int × Bool) :=
 p_grammar_parser_is i 4 p.g.power p >>= fun x =>
 if (!x) then
  some (0, false)
 else
  if (decide ((w64 (i + 1)) ≥ (List.length p.l : Int))) then
   some (0, false)
  else
   lget p.l (w64 (i + 1)) >>= fun y =>
   if (y.kind != 1) then
    some (0, false)
   else
    lget p.l (w64 (i + 1)) >>= fun y1 =>
    p_grammar_times y1.lit >>= fun (x1, x2) =>
    some (x1, x2)
def p_grammar_parser_skip_l0 (a : Grammar_parser × Int) : Option (Except (Int) (Unit)) := match a with
 | (p, i7) =>
  p_grammar_parser_sign i7 p.g.adverbs p >>= fun x7 =>
  if x7 then
   p_grammar_parser_skip_l0 (p, (w64 (i7 + 1)))
  else
   p_grammar_parser_power i7 p >>= fun (x8, ok) =>
   if ok then
    p_grammar_parser_skip_l0 (p, (w64 (i7 + 2)))
   else
    some (.error i7)
 partial_fixpoint
mutual
def p_grammar_parser_skip (a : Int × Bool × Grammar_parser) : Option (Int) := match a with
 | (i, behind, p) =>
  p_grammar_parser_is i 4 p.g.outer p >>= fun x =>
  (
   if x then
    some ((w64 (i + 1)), false)
   else
    some (i, behind)
  : Option (Int × Bool)) >>= fun (i1, behind1) =>
  (
   p_grammar_parser_sign i1 p.g.verbs p >>= fun x1 =>
   if x1 then
    some (.ok (w64 (i1 + 1)))
   else
    if behind1 then
     p_grammar_parser_sign i1 p.g.behind p >>= fun x2 =>
     if x2 then
      some (.ok (w64 (i1 + 1)))
     else
      p_grammar_parser_is i1 5 p.g.open_ p >>= fun x3 =>
      if x3 then
       p_grammar_parser_shut i1 p >>= fun i2 =>
       if (decide (i2 < 0)) then
        some (.error (-1))
       else
        some (.ok (w64 (i2 + 1)))
      else
       p_grammar_parser_is i1 5 [40] p >>= fun x4 =>
       if x4 then
        p_grammar_parser_group (i1, behind1, p) >>= fun i3 =>
        if (decide (i3 < 0)) then
         some (.error (-1))
        else
         some (.ok i3)
       else
        some (.error (-1))
    else
     p_grammar_parser_is i1 5 p.g.open_ p >>= fun x5 =>
     if x5 then
      p_grammar_parser_shut i1 p >>= fun i4 =>
      if (decide (i4 < 0)) then
       some (.error (-1))
      else
       some (.ok (w64 (i4 + 1)))
     else
      p_grammar_parser_is i1 5 [40] p >>= fun x6 =>
      if x6 then
       p_grammar_parser_group (i1, behind1, p) >>= fun i5 =>
       if (decide (i5 < 0)) then
        some (.error (-1))
       else
        some (.ok i5)
      else
       some (.error (-1))
  : Option (Except (Int) (Int))) >>= fun res => match res with
  | .error r => some r
  | .ok i6 =>
   p_grammar_parser_skip_l0 (p, i6) >>= fun res => match res with
   | .error r => some r
   | .ok _ => none
 partial_fixpoint
def p_grammar_parser_group_l0 (a : Bool × Grammar_parser × Int × Int) : Option (Except (Int) (Int × Int)) := match a with
 | (behind, p, i1, n) =>
  p_grammar_parser_is i1 6 [41] p >>= fun x =>
  if (!x) then
   p_grammar_parser_skip (i1, behind, p) >>= fun i2 =>
   if (decide (i2 < 0)) then
    some (.error (-1))
   else
    p_grammar_parser_group_l0 (behind, p, i2, (w64 (n + 1)))
  else
   some (.ok (i1, n))
 partial_fixpoint
def p_grammar_parser_group (a : Int × Bool × Grammar_parser) : Option (Int) := match a with
 | (i, behind, p) =>
  (
   p_grammar_parser_group_l0 (behind, p, (w64 (i + 1)), 0)
  : Option (Except (Int) (Int × Int))) >>= fun res => match res with
  | .error r => some r
  | .ok (i3, n1) =>
   if (n1 == 1) then
    some (w64 (i3 + 1))
   else
    if p.g.trains then
     if (n1 == 2) then
      some (w64 (i3 + 1))
     else
      if (n1 == 3) then
       some (w64 (i3 + 1))
      else
       some (-1)
    else
     some (-1)
 partial_fixpoint
end
def p_grammar_parser_function_1 (b : Grammar_parser) : Option (Int) :=
 some (w64 (b.deep - 1))
def p_grammar_parser_take (kind : Int) (text : Str) (p : Grammar_parser) : Option (Except (Fault) (Int)) :=
 p_grammar_parser_is p.i kind text p >>= fun x =>
 (
  if (!x) then
   p_grammar_parser_fail 2 p.i p >>= fun res => match res with
   | .error e =>
     some (.error (.error e))
   | .ok _ =>
    some (.ok ())
  else
   some (.ok ())
 : Option (Except (Except (Fault) (Int)) (Unit))) >>= fun res => match res with
 | .error r => some r
 | .ok _ =>
  some (.ok (w64 (p.i + 1)))
mutual
def p_grammar_uses (a : Node × Int) : Option (Bool) := match a with
 | (n, kind) =>
  if (n.kind == 22) then
   some false
  else
   if (n.kind == 23) then
    some false
   else
    if (n.kind == kind) then
     some true
    else
     p_slices_ContainsFunc_Node__grammar_uses_1 (n.kids, kind) >>= fun x =>
     some x
 partial_fixpoint
def p_slices_ContainsFunc_Node__grammar_uses_1 (a : (List Node) × Int) : Option (Bool) := match a with
 | (s, b) =>
  p_slices_IndexFunc_Node__grammar_uses_1 (s, b) >>= fun x =>
  some (decide (x ≥ 0))
 partial_fixpoint
def p_grammar_uses_1 (a : Node × Int) : Option (Bool) := match a with
 | (k, a_) =>
  p_grammar_uses (k, a_) >>= fun x =>
  some x
 partial_fixpoint
def p_slices_IndexFunc_Node__grammar_uses_1_l0 (a : ((List Node)) × Int × Int) : Option (Except (Int) (Unit)) := match a with
 | (s, b, x) =>
  if (decide (x < (List.length s : Int))) then
   lget s x >>= fun y =>
   p_grammar_uses_1 (y, b) >>= fun x1 =>
   if x1 then
    some (.error x)
   else
    p_slices_IndexFunc_Node__grammar_uses_1_l0 (s, b, (w64 (x + 1)))
  else
   some (.ok ())
 partial_fixpoint
def p_slices_IndexFunc_Node__grammar_uses_1 (a : (List Node) × Int) : Option (Int) := match a with
 | (s, b) =>
  (
   p_slices_IndexFunc_Node__grammar_uses_1_l0 (s, b, 0)
  : Option (Except (Int) (Unit))) >>= fun res => match res with
  | .error r => some r
  | .ok _ =>
   some (-1)
 partial_fixpoint
end
mutual
def p_grammar_righted_l0 (a : Node × Int × (List Node)) : Option ((List Node)) := match a with
 | (n, x, n5) =>
  if (decide (x < (List.length n.kids : Int))) then
   lget n.kids x >>= fun y =>
   p_grammar_righted y >>= fun x1 =>
   lapp n5 [x1] >>= fun l =>
   p_grammar_righted_l0 (n, (w64 (x + 1)), l)
  else
   some n5
 partial_fixpoint
def p_grammar_righted (a : Node) : Option (Node) := match a with
 | n =>
  (
   if (n.kind == 3) then
    some 4
   else
    some n.kind
  : Option (Int)) >>= fun x0 =>
  if (x0 == 22) then
   some (Node.mk x0 n.op_ n.name n.lit n.kids n.at_)
  else
   if (x0 == 23) then
    some (Node.mk x0 n.op_ n.name n.lit n.kids n.at_)
   else
    (
     p_grammar_righted_l0 (n, 0, [])
    : Option ((List Node))) >>= fun n51 =>
    some (Node.mk x0 n.op_ n.name n.lit n51 n.at_)
 partial_fixpoint
end
def p_core_Name_l0 (a : Str × Int) : Option (Except (Bool) (Unit)) := match a with
 | (s, x) =>
  if (decide (x < (List.length s : Int))) then
   (
    sget s x >>= fun c =>
    if (decide (c ≥ 97)) then
     sget s x >>= fun c1 =>
     if (!(decide (c1 ≤ 119))) then
      if (x == 0) then
       some (.error false)
      else
       sget s x >>= fun c2 =>
       if (decide (c2 < 48)) then
        some (.error false)
       else
        sget s x >>= fun c3 =>
        if (decide (c3 > 57)) then
         some (.error false)
        else
         some (.ok ())
     else
      some (.ok ())
    else
     if (x == 0) then
      some (.error false)
     else
      sget s x >>= fun c4 =>
      if (decide (c4 < 48)) then
       some (.error false)
      else
       sget s x >>= fun c5 =>
       if (decide (c5 > 57)) then
        some (.error false)
       else
        some (.ok ())
   : Option (Except (Bool) (Unit))) >>= fun res => match res with
   | .error r => some (.error r)
   | .ok _ =>
    p_core_Name_l0 (s, (w64 (x + 1)))
  else
   some (.ok ())
 partial_fixpoint
def p_core_Name (s : Str) : Option (Bool) :=
 (
  p_core_Name_l0 (s, 0)
 : Option (Except (Bool) (Unit))) >>= fun res => match res with
 | .error r => some r
 | .ok _ =>
  if (decide ((List.length s : Int) > 0)) then
   some (decide ((List.length s : Int) ≤ 8))
  else
   some false
def p_grammar_parser_function_l0 (a : Grammar_parser × Int × Int × Int × Int × Int × Str × (List Int) × (List Cell) × (List Node) × Int × Int) : Option (Except (Except (Fault × Int × Int × Int) (Node × Int × Int × Int)) (Unit)) := match a with
 | (p, at_, deep1, in_, f01, f11, f21, f31, f41, f51, f61, c151) =>
  p_grammar_parser_sign c151 p.g.adverbs (Grammar_parser.mk p.g p.l c151 p.end_ deep1 in_) >>= fun x1 =>
  if x1 then
   lget p.l c151 >>= fun y =>
   p_grammar_parser_function_l0 (p, at_, deep1, in_, 24, 0, y.text, [], [], [(Node.mk f01 f11 f21 (Arr.mk f31 f41) f51 f61)], at_, (w64 (c151 + 1)))
  else
   p_grammar_parser_power c151 (Grammar_parser.mk p.g p.l c151 p.end_ deep1 in_) >>= fun (n, ok) =>
   if ok then
    p_grammar_parser_function_l0 (p, at_, deep1, in_, 26, n, [], [], [], [(Node.mk f01 f11 f21 (Arr.mk f31 f41) f51 f61)], at_, (w64 (c151 + 2)))
   else
    p_grammar_parser_function_1 (Grammar_parser.mk p.g p.l c151 p.end_ deep1 in_) >>= fun deep2 =>
    some (.error (.ok ((Node.mk f01 f11 f21 (Arr.mk f31 f41) f51 f61), c151, deep2, in_)))
 partial_fixpoint
mutual
def p_grammar_parser_expr (a : Grammar_parser) : Option (Except (Fault × Int × Int × Int) (Node × Int × Int × Int)) := match a with
 | p =>
  p_grammar_parser_down p >>= fun res => match res with
  | .error (e12, deep42) =>
    some (.error (e12, p.i, deep42, p.in_))
  | .ok deep =>
   p_grammar_parser_here (Grammar_parser.mk p.g p.l p.i p.end_ deep p.in_) >>= fun at_ =>
   p_grammar_parser_skip (p.i, false, (Grammar_parser.mk p.g p.l p.i p.end_ deep p.in_)) >>= fun x =>
   if (decide (x ≥ 0)) then
    p_grammar_parser_function (false, (Grammar_parser.mk p.g p.l p.i p.end_ deep p.in_)) >>= fun res => match res with
    | .error (e1, i3, deep6, in_3) =>
      p_grammar_parser_expr_1 (Grammar_parser.mk p.g p.l i3 p.end_ deep6 in_3) >>= fun deep7 =>
      some (.error (e1, i3, deep7, in_3))
    | .ok (x1, i, deep1, in_) =>
     p_grammar_parser_expr (Grammar_parser.mk p.g p.l i p.end_ deep1 in_) >>= fun res => match res with
     | .error (e, i2, deep4, in_2) =>
       p_grammar_parser_expr_1 (Grammar_parser.mk p.g p.l i2 p.end_ deep4 in_2) >>= fun deep5 =>
       some (.error (e, i2, deep5, in_2))
     | .ok (x2, i1, deep2, in_1) =>
      p_grammar_parser_expr_1 (Grammar_parser.mk p.g p.l i1 p.end_ deep2 in_1) >>= fun deep3 =>
      some (.ok ((Node.mk 5 0 [] (Arr.mk [] []) [x1, x2] at_), i1, deep3, in_1))
   else
    p_grammar_parser_operand (Grammar_parser.mk p.g p.l p.i p.end_ deep p.in_) >>= fun res => match res with
    | .error (e11, i19, deep40, in_19) =>
      p_grammar_parser_expr_1 (Grammar_parser.mk p.g p.l i19 p.end_ deep40 in_19) >>= fun deep41 =>
      some (.error (e11, i19, deep41, in_19))
    | .ok (x3, i4, deep8, in_4) =>
     (
      if (decide (i4 ≥ (List.length p.l : Int))) then
       p_grammar_parser_expr_1 (Grammar_parser.mk p.g p.l i4 p.end_ deep8 in_4) >>= fun deep9 =>
       some (.error (.ok (x3, i4, deep9, in_4)))
      else
       lget p.l i4 >>= fun y =>
       if (y.kind == 6) then
        p_grammar_parser_expr_1 (Grammar_parser.mk p.g p.l i4 p.end_ deep8 in_4) >>= fun deep10 =>
        some (.error (.ok (x3, i4, deep10, in_4)))
       else
        p_grammar_parser_skip (i4, true, (Grammar_parser.mk p.g p.l i4 p.end_ deep8 in_4)) >>= fun x4 =>
        if (decide (x4 < 0)) then
         p_grammar_parser_fail 2 i4 (Grammar_parser.mk p.g p.l i4 p.end_ deep8 in_4) >>= fun res => match res with
         | .error e2 =>
           p_grammar_parser_expr_1 (Grammar_parser.mk p.g p.l i4 p.end_ deep8 in_4) >>= fun deep11 =>
           some (.error (.error (e2, i4, deep11, in_4)))
         | .ok _ =>
          some (.ok ())
        else
         some (.ok ())
     : Option (Except (Except (Fault × Int × Int × Int) (Node × Int × Int × Int)) (Unit))) >>= fun res => match res with
     | .error r => some r
     | .ok _ =>
      p_grammar_parser_function (true, (Grammar_parser.mk p.g p.l i4 p.end_ deep8 in_4)) >>= fun res => match res with
      | .error (e10, i18, deep38, in_18) =>
        p_grammar_parser_expr_1 (Grammar_parser.mk p.g p.l i18 p.end_ deep38 in_18) >>= fun deep39 =>
        some (.error (e10, i18, deep39, in_18))
      | .ok (x5, i5, deep12, in_5) =>
       if p.g.lone then
        if (x5.kind == 24) then
         if (x5.name == [47]) then
          lget x5.kids 0 >>= fun y1 =>
          if (y1.kind == 22) then
           if (x3.kind == 1) then
            p_grammar_times x3.lit >>= fun (n, ok) =>
            (
             if (!ok) then
              p_grammar_parser_fail 2 i4 (Grammar_parser.mk p.g p.l i5 p.end_ deep12 in_5) >>= fun res => match res with
              | .error e3 =>
                p_grammar_parser_expr_1 (Grammar_parser.mk p.g p.l i5 p.end_ deep12 in_5) >>= fun deep13 =>
                some (.error (.error (e3, i5, deep13, in_5)))
              | .ok _ =>
               some (.ok ())
             else
              some (.ok ())
            : Option (Except (Except (Fault × Int × Int × Int) (Node × Int × Int × Int)) (Unit))) >>= fun res => match res with
            | .error r => some r
            | .ok _ =>
             p_grammar_parser_expr (Grammar_parser.mk p.g p.l i5 p.end_ deep12 in_5) >>= fun res => match res with
             | .error (e4, i7, deep16, in_7) =>
               p_grammar_parser_expr_1 (Grammar_parser.mk p.g p.l i7 p.end_ deep16 in_7) >>= fun deep17 =>
               some (.error (e4, i7, deep17, in_7))
             | .ok (x6, i6, deep14, in_6) =>
              p_grammar_parser_expr_1 (Grammar_parser.mk p.g p.l i6 p.end_ deep14 in_6) >>= fun deep15 =>
              some (.ok ((Node.mk 5 0 [] (Arr.mk [] []) [(Node.mk 26 n [] (Arr.mk [] []) x5.kids at_), x6] at_), i6, deep15, in_6))
           else
            p_grammar_parser_expr (Grammar_parser.mk p.g p.l i5 p.end_ deep12 in_5) >>= fun res => match res with
            | .error (e5, i9, deep20, in_9) =>
              p_grammar_parser_expr_1 (Grammar_parser.mk p.g p.l i9 p.end_ deep20 in_9) >>= fun deep21 =>
              some (.error (e5, i9, deep21, in_9))
            | .ok (x7, i8, deep18, in_8) =>
             p_grammar_parser_expr_1 (Grammar_parser.mk p.g p.l i8 p.end_ deep18 in_8) >>= fun deep19 =>
             some (.ok ((Node.mk 6 0 [] (Arr.mk [] []) [x5, x3, x7] at_), i8, deep19, in_8))
          else
           p_grammar_parser_expr (Grammar_parser.mk p.g p.l i5 p.end_ deep12 in_5) >>= fun res => match res with
           | .error (e6, i11, deep24, in_11) =>
             p_grammar_parser_expr_1 (Grammar_parser.mk p.g p.l i11 p.end_ deep24 in_11) >>= fun deep25 =>
             some (.error (e6, i11, deep25, in_11))
           | .ok (x8, i10, deep22, in_10) =>
            p_grammar_parser_expr_1 (Grammar_parser.mk p.g p.l i10 p.end_ deep22 in_10) >>= fun deep23 =>
            some (.ok ((Node.mk 6 0 [] (Arr.mk [] []) [x5, x3, x8] at_), i10, deep23, in_10))
         else
          p_grammar_parser_expr (Grammar_parser.mk p.g p.l i5 p.end_ deep12 in_5) >>= fun res => match res with
          | .error (e7, i13, deep28, in_13) =>
            p_grammar_parser_expr_1 (Grammar_parser.mk p.g p.l i13 p.end_ deep28 in_13) >>= fun deep29 =>
            some (.error (e7, i13, deep29, in_13))
          | .ok (x9, i12, deep26, in_12) =>
           p_grammar_parser_expr_1 (Grammar_parser.mk p.g p.l i12 p.end_ deep26 in_12) >>= fun deep27 =>
           some (.ok ((Node.mk 6 0 [] (Arr.mk [] []) [x5, x3, x9] at_), i12, deep27, in_12))
        else
         p_grammar_parser_expr (Grammar_parser.mk p.g p.l i5 p.end_ deep12 in_5) >>= fun res => match res with
         | .error (e8, i15, deep32, in_15) =>
           p_grammar_parser_expr_1 (Grammar_parser.mk p.g p.l i15 p.end_ deep32 in_15) >>= fun deep33 =>
           some (.error (e8, i15, deep33, in_15))
         | .ok (x10, i14, deep30, in_14) =>
          p_grammar_parser_expr_1 (Grammar_parser.mk p.g p.l i14 p.end_ deep30 in_14) >>= fun deep31 =>
          some (.ok ((Node.mk 6 0 [] (Arr.mk [] []) [x5, x3, x10] at_), i14, deep31, in_14))
       else
        p_grammar_parser_expr (Grammar_parser.mk p.g p.l i5 p.end_ deep12 in_5) >>= fun res => match res with
        | .error (e9, i17, deep36, in_17) =>
          p_grammar_parser_expr_1 (Grammar_parser.mk p.g p.l i17 p.end_ deep36 in_17) >>= fun deep37 =>
          some (.error (e9, i17, deep37, in_17))
        | .ok (x11, i16, deep34, in_16) =>
         p_grammar_parser_expr_1 (Grammar_parser.mk p.g p.l i16 p.end_ deep34 in_16) >>= fun deep35 =>
         some (.ok ((Node.mk 6 0 [] (Arr.mk [] []) [x5, x3, x11] at_), i16, deep35, in_16))
 partial_fixpoint
def p_grammar_parser_function (a : Bool × Grammar_parser) : Option (Except (Fault × Int × Int × Int) (Node × Int × Int × Int)) := match a with
 | (behind, p) =>
  p_grammar_parser_down p >>= fun res => match res with
  | .error (e1, deep5) =>
    some (.error (e1, p.i, deep5, p.in_))
  | .ok deep =>
   p_grammar_parser_here (Grammar_parser.mk p.g p.l p.i p.end_ deep p.in_) >>= fun at_ =>
   p_grammar_parser_is p.i 4 p.g.outer (Grammar_parser.mk p.g p.l p.i p.end_ deep p.in_) >>= fun outer =>
   (
    if outer then
     some (false, (w64 (p.i + 1)))
    else
     some (behind, p.i)
   : Option (Bool × Int)) >>= fun (behind1, c15) =>
   p_grammar_parser_base (behind1, (Grammar_parser.mk p.g p.l c15 p.end_ deep p.in_)) >>= fun res => match res with
   | .error (e, i1, deep3, in_1) =>
     p_grammar_parser_function_1 (Grammar_parser.mk p.g p.l i1 p.end_ deep3 in_1) >>= fun deep4 =>
     some (.error (e, i1, deep4, in_1))
   | .ok (x, i, deep1, in_) =>
    (
     if outer then
      some (25, 0, [], [], [], [x], at_)
     else
      some (x.kind, x.op_, x.name, x.lit.shape, x.lit.cells, x.kids, x.at_)
    : Option (Int × Int × Str × (List Int) × (List Cell) × (List Node) × Int)) >>= fun (f0, f1, f2, f3, f4, f5, f6) =>
    p_grammar_parser_function_l0 (p, at_, deep1, in_, f0, f1, f2, f3, f4, f5, f6, i) >>= fun res => match res with
    | .error r => some r
    | .ok _ => none
 partial_fixpoint
def p_grammar_parser_operand_l0 (a : Grammar_parser × Token × Int × Int × Str × (List Int) × (List Cell) × (List Node) × Int × Int × Int × Int) : Option (Except (Except (Fault × Int × Int × Int) (Node × Int × Int × Int)) (Int × Int × Str × (List Int) × (List Cell) × (List Node) × Int × Int × Int × Int)) := match a with
 | (p, y, n01, n11, n21, n31, n41, n51, n61, p151, p171, p181) =>
  if p.g.square then
   p_grammar_parser_is p151 5 [91] (Grammar_parser.mk p.g p.l p151 p.end_ p171 p181) >>= fun x45 =>
   if x45 then
    p_grammar_parser_expr (Grammar_parser.mk p.g p.l (w64 (p151 + 1)) p.end_ p171 p181) >>= fun res => match res with
    | .error (e56, i56, deep37, in_37) =>
      some (.error (.error (e56, i56, deep37, in_37)))
    | .ok (x46, i54, deep36, in_36) =>
     p_grammar_parser_take 6 [93] (Grammar_parser.mk p.g p.l i54 p.end_ deep36 in_36) >>= fun res => match res with
     | .error e55 =>
       some (.error (.error (e55, i54, deep36, in_36)))
     | .ok i55 =>
      p_grammar_parser_operand_l0 (p, y, 8, 0, [], [], [], [(Node.mk n01 n11 n21 (Arr.mk n31 n41) n51 n61), x46], y.at_, i55, deep36, in_36)
   else
    some (.ok (n01, n11, n21, n31, n41, n51, n61, p151, p171, p181))
  else
   some (.ok (n01, n11, n21, n31, n41, n51, n61, p151, p171, p181))
 partial_fixpoint
def p_grammar_parser_operand (a : Grammar_parser) : Option (Except (Fault × Int × Int × Int) (Node × Int × Int × Int)) := match a with
 | p =>
  (
   if (decide (p.i ≥ (List.length p.l : Int))) then
    p_grammar_parser_fail 2 p.i p >>= fun res => match res with
    | .error e =>
      some (.error (.error (e, p.i, p.deep, p.in_)))
    | .ok _ =>
     some (.ok ())
   else
    some (.ok ())
  : Option (Except (Except (Fault × Int × Int × Int) (Node × Int × Int × Int)) (Unit))) >>= fun res => match res with
  | .error r => some r
  | .ok _ =>
   lget p.l p.i >>= fun y =>
   (
    if (y.kind == 1) then
     some (.ok (1, 0, [], y.lit.shape, y.lit.cells, [], y.at_, (w64 (p.i + 1)), p.deep, p.in_))
    else
     if (y.kind == 2) then
      some (.ok (1, 0, [], y.lit.shape, y.lit.cells, [], y.at_, (w64 (p.i + 1)), p.deep, p.in_))
     else
      if (y.kind == 3) then
       if (decide (p.in_ > 0)) then
        if (y.text == p.g.left) then
         some (.ok (3, 0, [], [], [], [], y.at_, (w64 (p.i + 1)), p.deep, p.in_))
        else
         if (y.kind == 3) then
          if (decide (p.in_ > 0)) then
           if (y.text == p.g.right) then
            some (.ok (4, 0, [], [], [], [], y.at_, (w64 (p.i + 1)), p.deep, p.in_))
           else
            if (y.kind == 3) then
             p_core_Name y.text >>= fun x =>
             if x then
              some (.ok (2, 0, y.text, [], [], [], y.at_, (w64 (p.i + 1)), p.deep, p.in_))
             else
              p_grammar_parser_is p.i 5 [40] p >>= fun x1 =>
              if x1 then
               p_grammar_parser_expr (Grammar_parser.mk p.g p.l (w64 (p.i + 1)) p.end_ p.deep p.in_) >>= fun res => match res with
               | .error (e2, i2, deep1, in_1) =>
                 some (.error (.error (e2, i2, deep1, in_1)))
               | .ok (x2, i, deep, in_) =>
                p_grammar_parser_take 6 [41] (Grammar_parser.mk p.g p.l i p.end_ deep in_) >>= fun res => match res with
                | .error e1 =>
                  some (.error (.error (e1, i, deep, in_)))
                | .ok i1 =>
                 some (.ok (x2.kind, x2.op_, x2.name, x2.lit.shape, x2.lit.cells, x2.kids, x2.at_, i1, deep, in_))
              else
               p_grammar_parser_fail 2 p.i p >>= fun res => match res with
               | .error e3 =>
                 some (.error (.error (e3, p.i, p.deep, p.in_)))
               | .ok _ =>
                some (.ok (0, 0, [], [], [], [], y.at_, p.i, p.deep, p.in_))
            else
             p_grammar_parser_is p.i 5 [40] p >>= fun x3 =>
             if x3 then
              p_grammar_parser_expr (Grammar_parser.mk p.g p.l (w64 (p.i + 1)) p.end_ p.deep p.in_) >>= fun res => match res with
              | .error (e5, i5, deep3, in_3) =>
                some (.error (.error (e5, i5, deep3, in_3)))
              | .ok (x4, i3, deep2, in_2) =>
               p_grammar_parser_take 6 [41] (Grammar_parser.mk p.g p.l i3 p.end_ deep2 in_2) >>= fun res => match res with
               | .error e4 =>
                 some (.error (.error (e4, i3, deep2, in_2)))
               | .ok i4 =>
                some (.ok (x4.kind, x4.op_, x4.name, x4.lit.shape, x4.lit.cells, x4.kids, x4.at_, i4, deep2, in_2))
             else
              p_grammar_parser_fail 2 p.i p >>= fun res => match res with
              | .error e6 =>
                some (.error (.error (e6, p.i, p.deep, p.in_)))
              | .ok _ =>
               some (.ok (0, 0, [], [], [], [], y.at_, p.i, p.deep, p.in_))
          else
           if (y.kind == 3) then
            p_core_Name y.text >>= fun x5 =>
            if x5 then
             some (.ok (2, 0, y.text, [], [], [], y.at_, (w64 (p.i + 1)), p.deep, p.in_))
            else
             p_grammar_parser_is p.i 5 [40] p >>= fun x6 =>
             if x6 then
              p_grammar_parser_expr (Grammar_parser.mk p.g p.l (w64 (p.i + 1)) p.end_ p.deep p.in_) >>= fun res => match res with
              | .error (e8, i8, deep5, in_5) =>
                some (.error (.error (e8, i8, deep5, in_5)))
              | .ok (x7, i6, deep4, in_4) =>
               p_grammar_parser_take 6 [41] (Grammar_parser.mk p.g p.l i6 p.end_ deep4 in_4) >>= fun res => match res with
               | .error e7 =>
                 some (.error (.error (e7, i6, deep4, in_4)))
               | .ok i7 =>
                some (.ok (x7.kind, x7.op_, x7.name, x7.lit.shape, x7.lit.cells, x7.kids, x7.at_, i7, deep4, in_4))
             else
              p_grammar_parser_fail 2 p.i p >>= fun res => match res with
              | .error e9 =>
                some (.error (.error (e9, p.i, p.deep, p.in_)))
              | .ok _ =>
               some (.ok (0, 0, [], [], [], [], y.at_, p.i, p.deep, p.in_))
           else
            p_grammar_parser_is p.i 5 [40] p >>= fun x8 =>
            if x8 then
             p_grammar_parser_expr (Grammar_parser.mk p.g p.l (w64 (p.i + 1)) p.end_ p.deep p.in_) >>= fun res => match res with
             | .error (e11, i11, deep7, in_7) =>
               some (.error (.error (e11, i11, deep7, in_7)))
             | .ok (x9, i9, deep6, in_6) =>
              p_grammar_parser_take 6 [41] (Grammar_parser.mk p.g p.l i9 p.end_ deep6 in_6) >>= fun res => match res with
              | .error e10 =>
                some (.error (.error (e10, i9, deep6, in_6)))
              | .ok i10 =>
               some (.ok (x9.kind, x9.op_, x9.name, x9.lit.shape, x9.lit.cells, x9.kids, x9.at_, i10, deep6, in_6))
            else
             p_grammar_parser_fail 2 p.i p >>= fun res => match res with
             | .error e12 =>
               some (.error (.error (e12, p.i, p.deep, p.in_)))
             | .ok _ =>
              some (.ok (0, 0, [], [], [], [], y.at_, p.i, p.deep, p.in_))
         else
          if (y.kind == 3) then
           p_core_Name y.text >>= fun x10 =>
           if x10 then
            some (.ok (2, 0, y.text, [], [], [], y.at_, (w64 (p.i + 1)), p.deep, p.in_))
           else
            p_grammar_parser_is p.i 5 [40] p >>= fun x11 =>
            if x11 then
             p_grammar_parser_expr (Grammar_parser.mk p.g p.l (w64 (p.i + 1)) p.end_ p.deep p.in_) >>= fun res => match res with
             | .error (e14, i14, deep9, in_9) =>
               some (.error (.error (e14, i14, deep9, in_9)))
             | .ok (x12, i12, deep8, in_8) =>
              p_grammar_parser_take 6 [41] (Grammar_parser.mk p.g p.l i12 p.end_ deep8 in_8) >>= fun res => match res with
              | .error e13 =>
                some (.error (.error (e13, i12, deep8, in_8)))
              | .ok i13 =>
               some (.ok (x12.kind, x12.op_, x12.name, x12.lit.shape, x12.lit.cells, x12.kids, x12.at_, i13, deep8, in_8))
            else
             p_grammar_parser_fail 2 p.i p >>= fun res => match res with
             | .error e15 =>
               some (.error (.error (e15, p.i, p.deep, p.in_)))
             | .ok _ =>
              some (.ok (0, 0, [], [], [], [], y.at_, p.i, p.deep, p.in_))
          else
           p_grammar_parser_is p.i 5 [40] p >>= fun x13 =>
           if x13 then
            p_grammar_parser_expr (Grammar_parser.mk p.g p.l (w64 (p.i + 1)) p.end_ p.deep p.in_) >>= fun res => match res with
            | .error (e17, i17, deep11, in_11) =>
              some (.error (.error (e17, i17, deep11, in_11)))
            | .ok (x14, i15, deep10, in_10) =>
             p_grammar_parser_take 6 [41] (Grammar_parser.mk p.g p.l i15 p.end_ deep10 in_10) >>= fun res => match res with
             | .error e16 =>
               some (.error (.error (e16, i15, deep10, in_10)))
             | .ok i16 =>
              some (.ok (x14.kind, x14.op_, x14.name, x14.lit.shape, x14.lit.cells, x14.kids, x14.at_, i16, deep10, in_10))
           else
            p_grammar_parser_fail 2 p.i p >>= fun res => match res with
            | .error e18 =>
              some (.error (.error (e18, p.i, p.deep, p.in_)))
            | .ok _ =>
             some (.ok (0, 0, [], [], [], [], y.at_, p.i, p.deep, p.in_))
       else
        if (y.kind == 3) then
         if (decide (p.in_ > 0)) then
          if (y.text == p.g.right) then
           some (.ok (4, 0, [], [], [], [], y.at_, (w64 (p.i + 1)), p.deep, p.in_))
          else
           if (y.kind == 3) then
            p_core_Name y.text >>= fun x15 =>
            if x15 then
             some (.ok (2, 0, y.text, [], [], [], y.at_, (w64 (p.i + 1)), p.deep, p.in_))
            else
             p_grammar_parser_is p.i 5 [40] p >>= fun x16 =>
             if x16 then
              p_grammar_parser_expr (Grammar_parser.mk p.g p.l (w64 (p.i + 1)) p.end_ p.deep p.in_) >>= fun res => match res with
              | .error (e20, i20, deep13, in_13) =>
                some (.error (.error (e20, i20, deep13, in_13)))
              | .ok (x17, i18, deep12, in_12) =>
               p_grammar_parser_take 6 [41] (Grammar_parser.mk p.g p.l i18 p.end_ deep12 in_12) >>= fun res => match res with
               | .error e19 =>
                 some (.error (.error (e19, i18, deep12, in_12)))
               | .ok i19 =>
                some (.ok (x17.kind, x17.op_, x17.name, x17.lit.shape, x17.lit.cells, x17.kids, x17.at_, i19, deep12, in_12))
             else
              p_grammar_parser_fail 2 p.i p >>= fun res => match res with
              | .error e21 =>
                some (.error (.error (e21, p.i, p.deep, p.in_)))
              | .ok _ =>
               some (.ok (0, 0, [], [], [], [], y.at_, p.i, p.deep, p.in_))
           else
            p_grammar_parser_is p.i 5 [40] p >>= fun x18 =>
            if x18 then
             p_grammar_parser_expr (Grammar_parser.mk p.g p.l (w64 (p.i + 1)) p.end_ p.deep p.in_) >>= fun res => match res with
             | .error (e23, i23, deep15, in_15) =>
               some (.error (.error (e23, i23, deep15, in_15)))
             | .ok (x19, i21, deep14, in_14) =>
              p_grammar_parser_take 6 [41] (Grammar_parser.mk p.g p.l i21 p.end_ deep14 in_14) >>= fun res => match res with
              | .error e22 =>
                some (.error (.error (e22, i21, deep14, in_14)))
              | .ok i22 =>
               some (.ok (x19.kind, x19.op_, x19.name, x19.lit.shape, x19.lit.cells, x19.kids, x19.at_, i22, deep14, in_14))
            else
             p_grammar_parser_fail 2 p.i p >>= fun res => match res with
             | .error e24 =>
               some (.error (.error (e24, p.i, p.deep, p.in_)))
             | .ok _ =>
              some (.ok (0, 0, [], [], [], [], y.at_, p.i, p.deep, p.in_))
         else
          if (y.kind == 3) then
           p_core_Name y.text >>= fun x20 =>
           if x20 then
            some (.ok (2, 0, y.text, [], [], [], y.at_, (w64 (p.i + 1)), p.deep, p.in_))
           else
            p_grammar_parser_is p.i 5 [40] p >>= fun x21 =>
            if x21 then
             p_grammar_parser_expr (Grammar_parser.mk p.g p.l (w64 (p.i + 1)) p.end_ p.deep p.in_) >>= fun res => match res with
             | .error (e26, i26, deep17, in_17) =>
               some (.error (.error (e26, i26, deep17, in_17)))
             | .ok (x22, i24, deep16, in_16) =>
              p_grammar_parser_take 6 [41] (Grammar_parser.mk p.g p.l i24 p.end_ deep16 in_16) >>= fun res => match res with
              | .error e25 =>
                some (.error (.error (e25, i24, deep16, in_16)))
              | .ok i25 =>
               some (.ok (x22.kind, x22.op_, x22.name, x22.lit.shape, x22.lit.cells, x22.kids, x22.at_, i25, deep16, in_16))
            else
             p_grammar_parser_fail 2 p.i p >>= fun res => match res with
             | .error e27 =>
               some (.error (.error (e27, p.i, p.deep, p.in_)))
             | .ok _ =>
              some (.ok (0, 0, [], [], [], [], y.at_, p.i, p.deep, p.in_))
          else
           p_grammar_parser_is p.i 5 [40] p >>= fun x23 =>
           if x23 then
            p_grammar_parser_expr (Grammar_parser.mk p.g p.l (w64 (p.i + 1)) p.end_ p.deep p.in_) >>= fun res => match res with
            | .error (e29, i29, deep19, in_19) =>
              some (.error (.error (e29, i29, deep19, in_19)))
            | .ok (x24, i27, deep18, in_18) =>
             p_grammar_parser_take 6 [41] (Grammar_parser.mk p.g p.l i27 p.end_ deep18 in_18) >>= fun res => match res with
             | .error e28 =>
               some (.error (.error (e28, i27, deep18, in_18)))
             | .ok i28 =>
              some (.ok (x24.kind, x24.op_, x24.name, x24.lit.shape, x24.lit.cells, x24.kids, x24.at_, i28, deep18, in_18))
           else
            p_grammar_parser_fail 2 p.i p >>= fun res => match res with
            | .error e30 =>
              some (.error (.error (e30, p.i, p.deep, p.in_)))
            | .ok _ =>
             some (.ok (0, 0, [], [], [], [], y.at_, p.i, p.deep, p.in_))
        else
         if (y.kind == 3) then
          p_core_Name y.text >>= fun x25 =>
          if x25 then
           some (.ok (2, 0, y.text, [], [], [], y.at_, (w64 (p.i + 1)), p.deep, p.in_))
          else
           p_grammar_parser_is p.i 5 [40] p >>= fun x26 =>
           if x26 then
            p_grammar_parser_expr (Grammar_parser.mk p.g p.l (w64 (p.i + 1)) p.end_ p.deep p.in_) >>= fun res => match res with
            | .error (e32, i32, deep21, in_21) =>
              some (.error (.error (e32, i32, deep21, in_21)))
            | .ok (x27, i30, deep20, in_20) =>
             p_grammar_parser_take 6 [41] (Grammar_parser.mk p.g p.l i30 p.end_ deep20 in_20) >>= fun res => match res with
             | .error e31 =>
               some (.error (.error (e31, i30, deep20, in_20)))
             | .ok i31 =>
              some (.ok (x27.kind, x27.op_, x27.name, x27.lit.shape, x27.lit.cells, x27.kids, x27.at_, i31, deep20, in_20))
           else
            p_grammar_parser_fail 2 p.i p >>= fun res => match res with
            | .error e33 =>
              some (.error (.error (e33, p.i, p.deep, p.in_)))
            | .ok _ =>
             some (.ok (0, 0, [], [], [], [], y.at_, p.i, p.deep, p.in_))
         else
          p_grammar_parser_is p.i 5 [40] p >>= fun x28 =>
          if x28 then
           p_grammar_parser_expr (Grammar_parser.mk p.g p.l (w64 (p.i + 1)) p.end_ p.deep p.in_) >>= fun res => match res with
           | .error (e35, i35, deep23, in_23) =>
             some (.error (.error (e35, i35, deep23, in_23)))
           | .ok (x29, i33, deep22, in_22) =>
            p_grammar_parser_take 6 [41] (Grammar_parser.mk p.g p.l i33 p.end_ deep22 in_22) >>= fun res => match res with
            | .error e34 =>
              some (.error (.error (e34, i33, deep22, in_22)))
            | .ok i34 =>
             some (.ok (x29.kind, x29.op_, x29.name, x29.lit.shape, x29.lit.cells, x29.kids, x29.at_, i34, deep22, in_22))
          else
           p_grammar_parser_fail 2 p.i p >>= fun res => match res with
           | .error e36 =>
             some (.error (.error (e36, p.i, p.deep, p.in_)))
           | .ok _ =>
            some (.ok (0, 0, [], [], [], [], y.at_, p.i, p.deep, p.in_))
      else
       if (y.kind == 3) then
        if (decide (p.in_ > 0)) then
         if (y.text == p.g.right) then
          some (.ok (4, 0, [], [], [], [], y.at_, (w64 (p.i + 1)), p.deep, p.in_))
         else
          if (y.kind == 3) then
           p_core_Name y.text >>= fun x30 =>
           if x30 then
            some (.ok (2, 0, y.text, [], [], [], y.at_, (w64 (p.i + 1)), p.deep, p.in_))
           else
            p_grammar_parser_is p.i 5 [40] p >>= fun x31 =>
            if x31 then
             p_grammar_parser_expr (Grammar_parser.mk p.g p.l (w64 (p.i + 1)) p.end_ p.deep p.in_) >>= fun res => match res with
             | .error (e38, i38, deep25, in_25) =>
               some (.error (.error (e38, i38, deep25, in_25)))
             | .ok (x32, i36, deep24, in_24) =>
              p_grammar_parser_take 6 [41] (Grammar_parser.mk p.g p.l i36 p.end_ deep24 in_24) >>= fun res => match res with
              | .error e37 =>
                some (.error (.error (e37, i36, deep24, in_24)))
              | .ok i37 =>
               some (.ok (x32.kind, x32.op_, x32.name, x32.lit.shape, x32.lit.cells, x32.kids, x32.at_, i37, deep24, in_24))
            else
             p_grammar_parser_fail 2 p.i p >>= fun res => match res with
             | .error e39 =>
               some (.error (.error (e39, p.i, p.deep, p.in_)))
             | .ok _ =>
              some (.ok (0, 0, [], [], [], [], y.at_, p.i, p.deep, p.in_))
          else
           p_grammar_parser_is p.i 5 [40] p >>= fun x33 =>
           if x33 then
            p_grammar_parser_expr (Grammar_parser.mk p.g p.l (w64 (p.i + 1)) p.end_ p.deep p.in_) >>= fun res => match res with
            | .error (e41, i41, deep27, in_27) =>
              some (.error (.error (e41, i41, deep27, in_27)))
            | .ok (x34, i39, deep26, in_26) =>
             p_grammar_parser_take 6 [41] (Grammar_parser.mk p.g p.l i39 p.end_ deep26 in_26) >>= fun res => match res with
             | .error e40 =>
               some (.error (.error (e40, i39, deep26, in_26)))
             | .ok i40 =>
              some (.ok (x34.kind, x34.op_, x34.name, x34.lit.shape, x34.lit.cells, x34.kids, x34.at_, i40, deep26, in_26))
           else
            p_grammar_parser_fail 2 p.i p >>= fun res => match res with
            | .error e42 =>
              some (.error (.error (e42, p.i, p.deep, p.in_)))
            | .ok _ =>
             some (.ok (0, 0, [], [], [], [], y.at_, p.i, p.deep, p.in_))
        else
         if (y.kind == 3) then
          p_core_Name y.text >>= fun x35 =>
          if x35 then
           some (.ok (2, 0, y.text, [], [], [], y.at_, (w64 (p.i + 1)), p.deep, p.in_))
          else
           p_grammar_parser_is p.i 5 [40] p >>= fun x36 =>
           if x36 then
            p_grammar_parser_expr (Grammar_parser.mk p.g p.l (w64 (p.i + 1)) p.end_ p.deep p.in_) >>= fun res => match res with
            | .error (e44, i44, deep29, in_29) =>
              some (.error (.error (e44, i44, deep29, in_29)))
            | .ok (x37, i42, deep28, in_28) =>
             p_grammar_parser_take 6 [41] (Grammar_parser.mk p.g p.l i42 p.end_ deep28 in_28) >>= fun res => match res with
             | .error e43 =>
               some (.error (.error (e43, i42, deep28, in_28)))
             | .ok i43 =>
              some (.ok (x37.kind, x37.op_, x37.name, x37.lit.shape, x37.lit.cells, x37.kids, x37.at_, i43, deep28, in_28))
           else
            p_grammar_parser_fail 2 p.i p >>= fun res => match res with
            | .error e45 =>
              some (.error (.error (e45, p.i, p.deep, p.in_)))
            | .ok _ =>
             some (.ok (0, 0, [], [], [], [], y.at_, p.i, p.deep, p.in_))
         else
          p_grammar_parser_is p.i 5 [40] p >>= fun x38 =>
          if x38 then
           p_grammar_parser_expr (Grammar_parser.mk p.g p.l (w64 (p.i + 1)) p.end_ p.deep p.in_) >>= fun res => match res with
           | .error (e47, i47, deep31, in_31) =>
             some (.error (.error (e47, i47, deep31, in_31)))
           | .ok (x39, i45, deep30, in_30) =>
            p_grammar_parser_take 6 [41] (Grammar_parser.mk p.g p.l i45 p.end_ deep30 in_30) >>= fun res => match res with
            | .error e46 =>
              some (.error (.error (e46, i45, deep30, in_30)))
            | .ok i46 =>
             some (.ok (x39.kind, x39.op_, x39.name, x39.lit.shape, x39.lit.cells, x39.kids, x39.at_, i46, deep30, in_30))
          else
           p_grammar_parser_fail 2 p.i p >>= fun res => match res with
           | .error e48 =>
             some (.error (.error (e48, p.i, p.deep, p.in_)))
           | .ok _ =>
            some (.ok (0, 0, [], [], [], [], y.at_, p.i, p.deep, p.in_))
       else
        if (y.kind == 3) then
         p_core_Name y.text >>= fun x40 =>
         if x40 then
          some (.ok (2, 0, y.text, [], [], [], y.at_, (w64 (p.i + 1)), p.deep, p.in_))
         else
          p_grammar_parser_is p.i 5 [40] p >>= fun x41 =>
          if x41 then
           p_grammar_parser_expr (Grammar_parser.mk p.g p.l (w64 (p.i + 1)) p.end_ p.deep p.in_) >>= fun res => match res with
           | .error (e50, i50, deep33, in_33) =>
             some (.error (.error (e50, i50, deep33, in_33)))
           | .ok (x42, i48, deep32, in_32) =>
            p_grammar_parser_take 6 [41] (Grammar_parser.mk p.g p.l i48 p.end_ deep32 in_32) >>= fun res => match res with
            | .error e49 =>
              some (.error (.error (e49, i48, deep32, in_32)))
            | .ok i49 =>
             some (.ok (x42.kind, x42.op_, x42.name, x42.lit.shape, x42.lit.cells, x42.kids, x42.at_, i49, deep32, in_32))
          else
           p_grammar_parser_fail 2 p.i p >>= fun res => match res with
           | .error e51 =>
             some (.error (.error (e51, p.i, p.deep, p.in_)))
           | .ok _ =>
            some (.ok (0, 0, [], [], [], [], y.at_, p.i, p.deep, p.in_))
        else
         p_grammar_parser_is p.i 5 [40] p >>= fun x43 =>
         if x43 then
          p_grammar_parser_expr (Grammar_parser.mk p.g p.l (w64 (p.i + 1)) p.end_ p.deep p.in_) >>= fun res => match res with
          | .error (e53, i53, deep35, in_35) =>
            some (.error (.error (e53, i53, deep35, in_35)))
          | .ok (x44, i51, deep34, in_34) =>
           p_grammar_parser_take 6 [41] (Grammar_parser.mk p.g p.l i51 p.end_ deep34 in_34) >>= fun res => match res with
           | .error e52 =>
             some (.error (.error (e52, i51, deep34, in_34)))
           | .ok i52 =>
            some (.ok (x44.kind, x44.op_, x44.name, x44.lit.shape, x44.lit.cells, x44.kids, x44.at_, i52, deep34, in_34))
         else
          p_grammar_parser_fail 2 p.i p >>= fun res => match res with
          | .error e54 =>
            some (.error (.error (e54, p.i, p.deep, p.in_)))
          | .ok _ =>
           some (.ok (0, 0, [], [], [], [], y.at_, p.i, p.deep, p.in_))
   : Option (Except (Except (Fault × Int × Int × Int) (Node × Int × Int × Int)) (Int × Int × Str × (List Int) × (List Cell) × (List Node) × Int × Int × Int × Int))) >>= fun res => match res with
   | .error r => some r
   | .ok (n0, n1, n2, n3, n4, n5, n6, p15, p17, p18) =>
    (
     p_grammar_parser_operand_l0 (p, y, n0, n1, n2, n3, n4, n5, n6, p15, p17, p18)
    : Option (Except (Except (Fault × Int × Int × Int) (Node × Int × Int × Int)) (Int × Int × Str × (List Int) × (List Cell) × (List Node) × Int × Int × Int × Int))) >>= fun res => match res with
    | .error r => some r
    | .ok (n02, n12, n22, n32, n42, n52, n62, c15, c17, c18) =>
     some (.ok ((Node.mk n02 n12 n22 (Arr.mk n32 n42) n52 n62), c15, c17, c18))
 partial_fixpoint
def p_grammar_parser_base_l0 (a : Bool × Grammar_parser × (List Node) × Int × Int × Int) : Option (Except (Except (Fault × Int × Int × Int) (Node × Int × Int × Int)) ((List Node) × Int × Int × Int)) := match a with
 | (behind, p, l, p15, p17, p18) =>
  p_grammar_parser_is p15 6 [41] (Grammar_parser.mk p.g p.l p15 p.end_ p17 p18) >>= fun x3 =>
  if (!x3) then
   p_grammar_parser_function (behind, (Grammar_parser.mk p.g p.l p15 p.end_ p17 p18)) >>= fun res => match res with
   | .error (e1, i3, deep3, in_3) =>
     some (.error (.error (e1, i3, deep3, in_3)))
   | .ok (x4, i2, deep2, in_2) =>
    lapp l [x4] >>= fun l1 =>
    p_grammar_parser_base_l0 (behind, p, l1, i2, deep2, in_2)
  else
   some (.ok (l, p15, p17, p18))
 partial_fixpoint
def p_grammar_parser_base (a : Bool × Grammar_parser) : Option (Except (Fault × Int × Int × Int) (Node × Int × Int × Int)) := match a with
 | (behind, p) =>
  p_grammar_parser_here p >>= fun at_ =>
  p_grammar_parser_is p.i 5 p.g.open_ p >>= fun x =>
  if x then
   p_grammar_parser_lambda p >>= fun res => match res with
   | .error (e, i1, deep1, in_1) =>
     some (.error (e, i1, deep1, in_1))
   | .ok (x1, i, deep, in_) =>
    some (.ok (x1, i, deep, in_))
  else
   p_grammar_parser_is p.i 5 [40] p >>= fun x2 =>
   if x2 then
    (
     p_grammar_parser_base_l0 (behind, p, [], (w64 (p.i + 1)), p.deep, p.in_)
    : Option (Except (Except (Fault × Int × Int × Int) (Node × Int × Int × Int)) ((List Node) × Int × Int × Int))) >>= fun res => match res with
    | .error r => some r
    | .ok (l2, p151, p171, p181) =>
     if ((List.length l2 : Int) == 1) then
      lget l2 0 >>= fun y =>
      some (.ok (y, (w64 (p151 + 1)), p171, p181))
     else
      if ((List.length l2 : Int) == 2) then
       some (.ok ((Node.mk 28 0 [] (Arr.mk [] []) l2 at_), (w64 (p151 + 1)), p171, p181))
      else
       some (.ok ((Node.mk 27 0 [] (Arr.mk [] []) l2 at_), (w64 (p151 + 1)), p171, p181))
   else
    lget p.l p.i >>= fun y1 =>
    some (.ok ((Node.mk 21 0 y1.text (Arr.mk [] []) [] at_), (w64 (p.i + 1)), p.deep, p.in_))
 partial_fixpoint
def p_grammar_parser_lambda (a : Grammar_parser) : Option (Except (Fault × Int × Int × Int) (Node × Int × Int × Int)) := match a with
 | p =>
  p_grammar_parser_here p >>= fun at_ =>
  p_grammar_parser_expr (Grammar_parser.mk p.g p.l (w64 (p.i + 1)) p.end_ p.deep (w64 (p.in_ + 1))) >>= fun res => match res with
  | .error (e7, i2, deep1, in_1) =>
    some (.error (e7, i2, deep1, in_1))
  | .ok (x, i, deep, in_) =>
   p_grammar_parser_take 6 p.g.close (Grammar_parser.mk p.g p.l i p.end_ deep (w64 (in_ - 1))) >>= fun res => match res with
   | .error e6 =>
     some (.error (e6, i, deep, (w64 (in_ - 1))))
   | .ok i1 =>
    p_grammar_uses (x, 3) >>= fun left =>
    p_grammar_uses (x, 4) >>= fun right =>
    (
     if left then
      if right then
       some (.error (.ok ((Node.mk 23 0 [] (Arr.mk [] []) [x] at_), i1, deep, (w64 (in_ - 1)))))
      else
       if p.g.lone then
        if right then
         p_grammar_parser_fail 2 p.i (Grammar_parser.mk p.g p.l i1 p.end_ deep (w64 (in_ - 1))) >>= fun res => match res with
         | .error e =>
           some (.error (.error (e, i1, deep, (w64 (in_ - 1)))))
         | .ok _ =>
          some (.ok ())
        else
         if (!p.g.lone) then
          if left then
           p_grammar_parser_fail 2 p.i (Grammar_parser.mk p.g p.l i1 p.end_ deep (w64 (in_ - 1))) >>= fun res => match res with
           | .error e1 =>
             some (.error (.error (e1, i1, deep, (w64 (in_ - 1)))))
           | .ok _ =>
            some (.ok ())
          else
           some (.ok ())
         else
          some (.ok ())
       else
        if (!p.g.lone) then
         if left then
          p_grammar_parser_fail 2 p.i (Grammar_parser.mk p.g p.l i1 p.end_ deep (w64 (in_ - 1))) >>= fun res => match res with
          | .error e2 =>
            some (.error (.error (e2, i1, deep, (w64 (in_ - 1)))))
          | .ok _ =>
           some (.ok ())
         else
          some (.ok ())
        else
         some (.ok ())
     else
      if p.g.lone then
       if right then
        p_grammar_parser_fail 2 p.i (Grammar_parser.mk p.g p.l i1 p.end_ deep (w64 (in_ - 1))) >>= fun res => match res with
        | .error e3 =>
          some (.error (.error (e3, i1, deep, (w64 (in_ - 1)))))
        | .ok _ =>
         some (.ok ())
       else
        if (!p.g.lone) then
         if left then
          p_grammar_parser_fail 2 p.i (Grammar_parser.mk p.g p.l i1 p.end_ deep (w64 (in_ - 1))) >>= fun res => match res with
          | .error e4 =>
            some (.error (.error (e4, i1, deep, (w64 (in_ - 1)))))
          | .ok _ =>
           some (.ok ())
         else
          some (.ok ())
        else
         some (.ok ())
      else
       if (!p.g.lone) then
        if left then
         p_grammar_parser_fail 2 p.i (Grammar_parser.mk p.g p.l i1 p.end_ deep (w64 (in_ - 1))) >>= fun res => match res with
         | .error e5 =>
           some (.error (.error (e5, i1, deep, (w64 (in_ - 1)))))
         | .ok _ =>
          some (.ok ())
        else
         some (.ok ())
       else
        some (.ok ())
    : Option (Except (Except (Fault × Int × Int × Int) (Node × Int × Int × Int)) (Unit))) >>= fun res => match res with
    | .error r => some r
    | .ok _ =>
     p_grammar_righted x >>= fun x1 =>
     some (.ok ((Node.mk 22 0 [] (Arr.mk [] []) [x1] at_), i1, deep, (w64 (in_ - 1))))
 partial_fixpoint
end
def p_grammar_Parse (g : Grammar) (l : (List Token)) (end_ : Int) : Option (Node × Fault) :=
 p_grammar_parser_expr (Grammar_parser.mk g l 0 end_ 0 0) >>= fun res => match res with
 | .error (e1, i1, deep1, in_1) =>
   p_grammar_Parse_1_p_2 e1 (Node.mk 0 0 [] (Arr.mk [] []) [] 0) (Fault.mk 0 0 0) >>= fun (kind1, op_1, name1, shape1, cells1, kids1, at_2, err1, at_3, why1) =>
   some ((Node.mk kind1 op_1 name1 (Arr.mk shape1 cells1) kids1 at_2), (Fault.mk err1 at_3 why1))
 | .ok (x, i, deep, in_) =>
  (
   if (decide (i < (List.length l : Int))) then
    p_grammar_parser_fail 2 i (Grammar_parser.mk (Grammar_parser.mk g l 0 end_ 0 0).g (Grammar_parser.mk g l 0 end_ 0 0).l i (Grammar_parser.mk g l 0 end_ 0 0).end_ deep in_) >>= fun res => match res with
    | .error e =>
      p_grammar_Parse_1_p e x (Fault.mk 0 0 0) >>= fun (kind, op_, name, shape, cells, kids, at_, err, at_1, why) =>
      some (.error ((Node.mk kind op_ name (Arr.mk shape cells) kids at_), (Fault.mk err at_1 why)))
    | .ok _ =>
     some (.ok ())
   else
    some (.ok ())
  : Option (Except (Node × Fault) (Unit))) >>= fun res => match res with
  | .error r => some r
  | .ok _ =>
   p_grammar_Parse_1_q x (Fault.mk 0 0 0) >>= fun _ =>
   some (x, (Fault.mk 0 0 0))
def p_arr_Size_l0 (a : ((List Int)) × Bool × Int) : Option (Except (Int × Int) (Bool)) := match a with
 | (shape, none_, x) =>
  if (decide (x < (List.length shape : Int))) then
   (
    lget shape x >>= fun d =>
    if (decide (d < 0)) then
     some (.error (0, 1))
    else
     if none_ then
      some (.ok true)
     else
      some (.ok (d == 0))
   : Option (Except (Int × Int) (Bool))) >>= fun res => match res with
   | .error r => some (.error r)
   | .ok none_1 =>
    p_arr_Size_l0 (shape, none_1, (w64 (x + 1)))
  else
   some (.ok none_)
 partial_fixpoint
def p_arr_Size_l1 (a : ((List Int)) × Int × Int) : Option (Except (Int × Int) (Int)) := match a with
 | (shape, n, x1) =>
  if (decide (x1 < (List.length shape : Int))) then
   lget shape x1 >>= fun d1 =>
   idiv .i64 16384 n >>= fun q =>
   if (decide (d1 > q)) then
    some (.error (0, 12))
   else
    p_arr_Size_l1 (shape, (w64 (n * d1)), (w64 (x1 + 1)))
  else
   some (.ok n)
 partial_fixpoint
def p_arr_Size (shape : (List Int)) : Option (Int × Int) :=
 if (decide ((List.length shape : Int) > 8)) then
  some (0, 6)
 else
  (
   p_arr_Size_l0 (shape, false, 0)
  : Option (Except (Int × Int) (Bool))) >>= fun res => match res with
  | .error r => some r
  | .ok none_2 =>
   if none_2 then
    some (0, 0)
   else
    (
     p_arr_Size_l1 (shape, 1, 0)
    : Option (Except (Int × Int) (Int))) >>= fun res => match res with
    | .error r => some r
    | .ok n1 =>
     some (n1, 0)
def p_arr_good (n : Int) : Option (Bool) :=
 if (decide (n ≥ 0)) then
  if (decide (n ≤ 1114111)) then
   if (decide (n < 55296)) then
    some true
   else
    some (decide (n > 57343))
  else
   some false
 else
  some false
def p_arr_check_l0 (a : Arr × Int) : Option (Except (Int) (Unit)) := match a with
 | (a_, x) =>
  if (decide (x < (List.length a_.shape : Int))) then
   lget a_.shape x >>= fun d =>
   if (decide (d > 16384)) then
    some (.error 12)
   else
    p_arr_check_l0 (a_, (w64 (x + 1)))
  else
   some (.ok ())
 partial_fixpoint
mutual
def p_arr_check_l1 (a : Arr × Int × Int) : Option (Except (Int) (Unit)) := match a with
 | (a_, deep, x1) =>
  if (decide (x1 < (List.length a_.cells : Int))) then
   (
    lget a_.cells x1 >>= fun y =>
    if (y.kind == 2) then
     if (y.n == 0) then
      if ((List.length y.box : Int) == 1) then
       if (decide (deep ≥ 8)) then
        some (.error 15)
       else
        lget y.box 0 >>= fun y1 =>
        p_arr_check (y1, (w64 (deep + 1))) >>= fun e1 =>
        if (e1 != 0) then
         some (.error e1)
        else
         some (.ok ())
      else
       if (decide ((List.length y.box : Int) > 0)) then
        some (.error 1)
       else
        if (y.kind != 0) then
         if (y.kind != 1) then
          some (.error 1)
         else
          p_arr_good y.n >>= fun x2 =>
          if (!x2) then
           some (.error 1)
          else
           some (.ok ())
        else
         some (.ok ())
     else
      if (decide ((List.length y.box : Int) > 0)) then
       some (.error 1)
      else
       if (y.kind != 0) then
        if (y.kind != 1) then
         some (.error 1)
        else
         p_arr_good y.n >>= fun x3 =>
         if (!x3) then
          some (.error 1)
         else
          some (.ok ())
       else
        some (.ok ())
    else
     if (decide ((List.length y.box : Int) > 0)) then
      some (.error 1)
     else
      if (y.kind != 0) then
       if (y.kind != 1) then
        some (.error 1)
       else
        p_arr_good y.n >>= fun x4 =>
        if (!x4) then
         some (.error 1)
        else
         some (.ok ())
      else
       some (.ok ())
   : Option (Except (Int) (Unit))) >>= fun res => match res with
   | .error r => some (.error r)
   | .ok _ =>
    p_arr_check_l1 (a_, deep, (w64 (x1 + 1)))
  else
   some (.ok ())
 partial_fixpoint
def p_arr_check (a : Arr × Int) : Option (Int) := match a with
 | (a_, deep) =>
  p_arr_Size a_.shape >>= fun (n, e) =>
  if (e != 0) then
   some e
  else
   if (n != (List.length a_.cells : Int)) then
    some 1
   else
    (
     p_arr_check_l0 (a_, 0)
    : Option (Except (Int) (Unit))) >>= fun res => match res with
    | .error r => some r
    | .ok _ =>
     (
      p_arr_check_l1 (a_, deep, 0)
     : Option (Except (Int) (Unit))) >>= fun res => match res with
     | .error r => some r
     | .ok _ =>
      some 0
 partial_fixpoint
end
def p_jay_Grammar  : Option (Grammar) :=
 goFields [45, 32, 45, 46, 32, 42, 32, 124, 32, 124, 46, 32, 124, 58, 32, 37, 32, 43, 32, 60, 32, 60, 46, 32, 60, 58, 32, 62, 32, 62, 46, 32, 62, 58, 32, 61, 32, 126, 46, 32, 126, 58, 32, 36, 32, 35, 32, 44, 32, 44, 58, 32, 47, 58, 32, 92, 58, 32, 123, 46, 32, 125, 46, 32, 123, 32, 105, 46, 32, 101, 46] >>= fun x =>
 some (Grammar.mk x [[47], [92], [126], [34, 49]] [] [] [94, 58] [123, 123] [125, 125] [120] [121] [95] [39] true false false)
def p_spell_writer_fits (n : Node) (kids : Int) (w : Spell_writer) : Option (Bool × Int × Bool) :=
 if w.bad then
  some (false, (w64 (w.nodes + 1)), true)
 else
  if (decide ((w64 (w.nodes + 1)) > 2048)) then
   some (false, (w64 (w.nodes + 1)), true)
  else
   some ((!((List.length n.kids : Int) != kids)), (w64 (w.nodes + 1)), ((List.length n.kids : Int) != kids))
def p_spell_writer_words_l0 (a : ((List Str)) × Int × (List Str)) : Option ((List Str)) := match a with
 | (l, x, w14) =>
  if (decide (x < (List.length l : Int))) then
   lget l x >>= fun s =>
   (
    if (decide ((List.length w14 : Int) > 0)) then
     lapp w14 [[32]] >>= fun l1 =>
     some l1
    else
     some w14
   : Option ((List Str))) >>= fun x14 =>
   lapp x14 [s] >>= fun l2 =>
   p_spell_writer_words_l0 (l, (w64 (x + 1)), l2)
  else
   some w14
 partial_fixpoint
def p_spell_writer_words (l : (List Str)) (w : Spell_writer) : Option ((List Str)) :=
 (
  p_spell_writer_words_l0 (l, 0, w.out)
 : Option ((List Str))) >>= fun c14 =>
 some c14
def p_spell_digits (a : Int) : Option (Str) := match a with
 | n =>
  (
   if (decide (n ≥ 10)) then
    p_spell_digits (IntKind.u64.wrap (Int.tdiv n 10)) >>= fun s =>
    some s
   else
    some []
  : Option (Str)) >>= fun s1 =>
  scat s1 (Utf8.encode (IntKind.i32.wrap (IntKind.u64.wrap (48 + (Int.tmod n 10))))).data.toList >>= fun s2 =>
  some s2
 partial_fixpoint
def p_spell_Number (n : Int) (minus : Str) : Option (Str) :=
 if (decide (n < 0)) then
  p_spell_digits (IntKind.u64.wrap (0 - (IntKind.u64.wrap n))) >>= fun x =>
  scat minus x >>= fun s =>
  some s
 else
  p_spell_digits (IntKind.u64.wrap n) >>= fun x1 =>
  some x1
def p_spell_writer_glue (l : (List Str)) (w : Spell_writer) : Option ((List Str)) :=
 lapp w.out l >>= fun l1 =>
 some l1
def p_arr_Check (a_ : Arr) : Option (Int) :=
 p_arr_check (a_, 0) >>= fun x =>
 some x
def p_core_Literal_l0 (a : Arr × Int) : Option (Except (Bool) (Unit)) := match a with
 | (a_, x1) =>
  if (decide (x1 < (List.length a_.cells : Int))) then
   (
    lget a_.cells x1 >>= fun y =>
    if (y.kind == 2) then
     some (.error false)
    else
     lget a_.cells 0 >>= fun y1 =>
     if (y.kind != y1.kind) then
      some (.error false)
     else
      if (y.kind == 1) then
       if (decide (y.n < 32)) then
        some (.error false)
       else
        if (y.n == 127) then
         some (.error false)
        else
         some (.ok ())
      else
       some (.ok ())
   : Option (Except (Bool) (Unit))) >>= fun res => match res with
   | .error r => some (.error r)
   | .ok _ =>
    p_core_Literal_l0 (a_, (w64 (x1 + 1)))
  else
   some (.ok ())
 partial_fixpoint
def p_core_Literal_l1 (a : Arr × Int) : Option (Except (Bool) (Unit)) := match a with
 | (a_, x2) =>
  if (decide (x2 < (List.length a_.cells : Int))) then
   (
    lget a_.cells x2 >>= fun y2 =>
    if (y2.kind == 2) then
     some (.error false)
    else
     lget a_.cells 0 >>= fun y3 =>
     if (y2.kind != y3.kind) then
      some (.error false)
     else
      if (y2.kind == 1) then
       if (decide (y2.n < 32)) then
        some (.error false)
       else
        if (y2.n == 127) then
         some (.error false)
        else
         some (.ok ())
      else
       some (.ok ())
   : Option (Except (Bool) (Unit))) >>= fun res => match res with
   | .error r => some (.error r)
   | .ok _ =>
    p_core_Literal_l1 (a_, (w64 (x2 + 1)))
  else
   some (.ok ())
 partial_fixpoint
def p_core_Literal (a_ : Arr) : Option (Bool) :=
 p_arr_Check a_ >>= fun x =>
 if (x != 0) then
  some false
 else
  if (decide ((List.length a_.shape : Int) > 1)) then
   some false
  else
   if ((List.length a_.shape : Int) == 1) then
    if ((List.length a_.cells : Int) == 1) then
     some false
    else
     (
      p_core_Literal_l0 (a_, 0)
     : Option (Except (Bool) (Unit))) >>= fun res => match res with
     | .error r => some r
     | .ok _ =>
      some true
   else
    (
     p_core_Literal_l1 (a_, 0)
    : Option (Except (Bool) (Unit))) >>= fun res => match res with
    | .error r => some r
    | .ok _ =>
     some true
def p_runes_Good (n : Int) : Option (Bool) :=
 if (decide (n ≥ 0)) then
  if (decide (n ≤ 1114111)) then
   if (decide (n < 55296)) then
    some true
   else
    some (decide (n > 57343))
  else
   some false
 else
  some false
def p_runes_put_full (b : (List Int)) (n : Int) : Option ((List Int)) :=
 if (decide (n < 128)) then
  lapp b [(IntKind.u8.wrap n)] >>= fun l =>
  some l
 else
  if (decide (n < 2048)) then
   lapp b [(IntKind.u8.wrap (w64 ((BitVec.ofInt 64 192 ||| BitVec.ofInt 64 (Int.fdiv n (2 ^ 6))).toNat))), (IntKind.u8.wrap (w64 ((BitVec.ofInt 64 128 ||| BitVec.ofInt 64 (w64 ((BitVec.ofInt 64 n &&& BitVec.ofInt 64 63).toNat))).toNat)))] >>= fun l1 =>
   some l1
  else
   if (decide (n < 65536)) then
    lapp b [(IntKind.u8.wrap (w64 ((BitVec.ofInt 64 224 ||| BitVec.ofInt 64 (Int.fdiv n (2 ^ 12))).toNat))), (IntKind.u8.wrap (w64 ((BitVec.ofInt 64 128 ||| BitVec.ofInt 64 (w64 ((BitVec.ofInt 64 (Int.fdiv n (2 ^ 6)) &&& BitVec.ofInt 64 63).toNat))).toNat))), (IntKind.u8.wrap (w64 ((BitVec.ofInt 64 128 ||| BitVec.ofInt 64 (w64 ((BitVec.ofInt 64 n &&& BitVec.ofInt 64 63).toNat))).toNat)))] >>= fun l2 =>
    some l2
   else
    lapp b [(IntKind.u8.wrap (w64 ((BitVec.ofInt 64 240 ||| BitVec.ofInt 64 (Int.fdiv n (2 ^ 18))).toNat))), (IntKind.u8.wrap (w64 ((BitVec.ofInt 64 128 ||| BitVec.ofInt 64 (w64 ((BitVec.ofInt 64 (Int.fdiv n (2 ^ 12)) &&& BitVec.ofInt 64 63).toNat))).toNat))), (IntKind.u8.wrap (w64 ((BitVec.ofInt 64 128 ||| BitVec.ofInt 64 (w64 ((BitVec.ofInt 64 (Int.fdiv n (2 ^ 6)) &&& BitVec.ofInt 64 63).toNat))).toNat))), (IntKind.u8.wrap (w64 ((BitVec.ofInt 64 128 ||| BitVec.ofInt 64 (w64 ((BitVec.ofInt 64 n &&& BitVec.ofInt 64 63).toNat))).toNat)))] >>= fun l3 =>
    some l3
def p_runes_Write_l0 (a : ((List Int)) × (List Int) × Int) : Option (Except ((List Int) × Int) ((List Int))) := match a with
 | (l, b, x) =>
  if (decide (x < (List.length l : Int))) then
   lget l x >>= fun n =>
   p_runes_Good n >>= fun x1 =>
   if (!x1) then
    some (.error ([], 3))
   else
    lto b (List.length b : Int) >>= fun l1 =>
    p_runes_put_full l1 n >>= fun b1 =>
    p_runes_Write_l0 (l, b1, (w64 (x + 1)))
  else
   some (.ok b)
 partial_fixpoint
def p_runes_Write (l : (List Int)) : Option ((List Int) × Int) :=
 (
  p_runes_Write_l0 (l, [], 0)
 : Option (Except ((List Int) × Int) ((List Int)))) >>= fun res => match res with
 | .error r => some r
 | .ok b2 =>
  some (b2, 0)
def p_spell_sign (s : Str) (g : Grammar) : Option (Str) :=
 (
  if (g.quote == [39]) then
   if (s == [39]) then
    some (.error [39, 39])
   else
    if (!(g.quote == [39])) then
     if (s == [34]) then
      scat [92] s >>= fun s1 =>
      some (.error s1)
     else
      if (s == [92]) then
       scat [92] s >>= fun s2 =>
       some (.error s2)
      else
       some (.ok ())
    else
     some (.ok ())
  else
   if (!(g.quote == [39])) then
    if (s == [34]) then
     scat [92] s >>= fun s3 =>
     some (.error s3)
    else
     if (s == [92]) then
      scat [92] s >>= fun s4 =>
      some (.error s4)
     else
      some (.ok ())
   else
    some (.ok ())
 : Option (Except (Str) (Unit))) >>= fun res => match res with
 | .error r => some r
 | .ok _ =>
  some s
def p_spell_Literal_l0 (a : Arr × Grammar × (List Str) × Int) : Option ((List Str)) := match a with
 | (a_, g, l, x1) =>
  if (decide (x1 < (List.length a_.cells : Int))) then
   lget a_.cells x1 >>= fun y1 =>
   p_spell_Number y1.n g.minus >>= fun x2 =>
   lapp l [x2] >>= fun l1 =>
   p_spell_Literal_l0 (a_, g, l1, (w64 (x1 + 1)))
  else
   some l
 partial_fixpoint
def p_spell_Literal_l1 (a : Arr × Grammar × (List Str) × Int) : Option ((List Str)) := match a with
 | (a_, g, l3, x4) =>
  if (decide (x4 < (List.length a_.cells : Int))) then
   lget a_.cells x4 >>= fun y2 =>
   p_runes_Write [y2.n] >>= fun (b, x5) =>
   p_spell_sign (bstr b) g >>= fun x6 =>
   lapp l3 [x6] >>= fun l4 =>
   p_spell_Literal_l1 (a_, g, l4, (w64 (x4 + 1)))
  else
   some l3
 partial_fixpoint
def p_spell_Literal_l2 (a : Arr × Grammar × (List Str) × Int) : Option ((List Str)) := match a with
 | (a_, g, l6, x8) =>
  if (decide (x8 < (List.length a_.cells : Int))) then
   lget a_.cells x8 >>= fun y3 =>
   p_runes_Write [y3.n] >>= fun (b1, x9) =>
   p_spell_sign (bstr b1) g >>= fun x10 =>
   lapp l6 [x10] >>= fun l7 =>
   p_spell_Literal_l2 (a_, g, l7, (w64 (x8 + 1)))
  else
   some l6
 partial_fixpoint
def p_spell_Literal (a_ : Arr) (g : Grammar) : Option (Str × Int) :=
 p_core_Literal a_ >>= fun x =>
 if (!x) then
  some ([], 1)
 else
  if (decide ((List.length a_.cells : Int) > 0)) then
   lget a_.cells 0 >>= fun y =>
   if (y.kind == 0) then
    (
     p_spell_Literal_l0 (a_, g, [], 0)
    : Option ((List Str))) >>= fun l2 =>
    go_Join l2 [32] >>= fun x3 =>
    some (x3, 0)
   else
    (
     p_spell_Literal_l1 (a_, g, [], 0)
    : Option ((List Str))) >>= fun l5 =>
    go_Join l5 [] >>= fun x7 =>
    scat g.quote x7 >>= fun s =>
    scat s g.quote >>= fun s1 =>
    some (s1, 0)
  else
   (
    p_spell_Literal_l2 (a_, g, [], 0)
   : Option ((List Str))) >>= fun l8 =>
   go_Join l8 [] >>= fun x11 =>
   scat g.quote x11 >>= fun s2 =>
   scat s2 g.quote >>= fun s3 =>
   some (s3, 0)
mutual
def p_spell_writer_expr (a : Node × Spell_writer) : Option ((List Str) × Int × Bool) := match a with
 | (n, w) =>
  if (n.kind == 5) then
   p_spell_writer_fits n 2 w >>= fun (x, nodes, bad) =>
   if x then
    lget n.kids 0 >>= fun y =>
    p_spell_writer_call (y, (Spell_writer.mk w.g w.out w.right nodes bad)) >>= fun (out, nodes1, bad1) =>
    lget n.kids 1 >>= fun y1 =>
    p_spell_writer_expr (y1, (Spell_writer.mk w.g out w.right nodes1 bad1)) >>= fun (out1, nodes2, bad2) =>
    some (out1, nodes2, bad2)
   else
    some (w.out, nodes, bad)
  else
   if (n.kind == 6) then
    p_spell_writer_fits n 3 w >>= fun (x1, nodes3, bad3) =>
    if x1 then
     lget n.kids 1 >>= fun y2 =>
     p_spell_writer_operand (y2, (Spell_writer.mk w.g w.out w.right nodes3 bad3)) >>= fun (out2, nodes4, bad4) =>
     lget n.kids 0 >>= fun y3 =>
     p_spell_writer_applied (y3, (Spell_writer.mk w.g out2 w.right nodes4 bad4)) >>= fun (out3, nodes5, bad5) =>
     lget n.kids 2 >>= fun y4 =>
     p_spell_writer_expr (y4, (Spell_writer.mk w.g out3 w.right nodes5 bad5)) >>= fun (out4, nodes6, bad6) =>
     some (out4, nodes6, bad6)
    else
     some (w.out, nodes3, bad3)
   else
    p_spell_writer_operand (n, w) >>= fun (out5, nodes7, bad7) =>
    some (out5, nodes7, bad7)
 partial_fixpoint
def p_spell_writer_call (a : Node × Spell_writer) : Option ((List Str) × Int × Bool) := match a with
 | (f, w) =>
  if w.g.lone then
   if (f.kind == 26) then
    p_spell_writer_fits f 1 w >>= fun (x, nodes, bad) =>
    (
     if x then
      p_spell_Number f.op_ w.g.minus >>= fun x1 =>
      p_spell_writer_words [x1] (Spell_writer.mk w.g w.out w.right nodes bad) >>= fun out =>
      lget f.kids 0 >>= fun y =>
      p_spell_writer_function (y, (Spell_writer.mk w.g out w.right nodes bad)) >>= fun (out1, nodes1, bad1) =>
      p_spell_writer_glue [[47]] (Spell_writer.mk w.g out1 w.right nodes1 bad1) >>= fun out2 =>
      some (out2, nodes1, bad1)
     else
      some (w.out, nodes, bad)
    : Option ((List Str) × Int × Bool)) >>= fun (x14, x16, x17) =>
    some (x14, x16, x17)
   else
    p_spell_writer_applied (f, w) >>= fun (out3, nodes2, bad2) =>
    some (out3, nodes2, bad2)
  else
   p_spell_writer_applied (f, w) >>= fun (out4, nodes3, bad3) =>
   some (out4, nodes3, bad3)
 partial_fixpoint
def p_spell_writer_operand (a : Node × Spell_writer) : Option ((List Str) × Int × Bool) := match a with
 | (n, w) =>
  if (n.kind == 1) then
   p_spell_Literal n.lit w.g >>= fun (s, e) =>
   if w.bad then
    p_spell_writer_fits n 0 (Spell_writer.mk w.g w.out w.right w.nodes true) >>= fun (x, nodes, bad) =>
    p_spell_writer_words [s] (Spell_writer.mk w.g w.out w.right nodes bad) >>= fun out =>
    some (out, nodes, bad)
   else
    p_spell_writer_fits n 0 (Spell_writer.mk w.g w.out w.right w.nodes (e != 0)) >>= fun (x1, nodes1, bad1) =>
    p_spell_writer_words [s] (Spell_writer.mk w.g w.out w.right nodes1 bad1) >>= fun out1 =>
    some (out1, nodes1, bad1)
  else
   if (n.kind == 2) then
    p_spell_writer_fits n 0 w >>= fun (x2, nodes2, bad2) =>
    p_spell_writer_words [n.name] (Spell_writer.mk w.g w.out w.right nodes2 bad2) >>= fun out2 =>
    some (out2, nodes2, bad2)
   else
    if (n.kind == 3) then
     p_spell_writer_fits n 0 w >>= fun (x3, nodes3, bad3) =>
     p_spell_writer_words [w.g.left] (Spell_writer.mk w.g w.out w.right nodes3 bad3) >>= fun out3 =>
     some (out3, nodes3, bad3)
    else
     if (n.kind == 4) then
      p_spell_writer_fits n 0 w >>= fun (x4, nodes4, bad4) =>
      p_spell_writer_words [w.right] (Spell_writer.mk w.g w.out w.right nodes4 bad4) >>= fun out4 =>
      some (out4, nodes4, bad4)
     else
      if (n.kind == 8) then
       p_spell_writer_fits n 2 w >>= fun (x5, nodes5, bad5) =>
       if x5 then
        lget n.kids 0 >>= fun y =>
        p_spell_writer_operand (y, (Spell_writer.mk w.g w.out w.right nodes5 bad5)) >>= fun (out5, nodes6, bad6) =>
        p_spell_writer_words [[91]] (Spell_writer.mk w.g out5 w.right nodes6 bad6) >>= fun out6 =>
        lget n.kids 1 >>= fun y1 =>
        p_spell_writer_expr (y1, (Spell_writer.mk w.g out6 w.right nodes6 bad6)) >>= fun (out7, nodes7, bad7) =>
        p_spell_writer_words [[93]] (Spell_writer.mk w.g out7 w.right nodes7 bad7) >>= fun out8 =>
        some (out8, nodes7, bad7)
       else
        some (w.out, nodes5, bad5)
      else
       (
        if (n.kind == 5) then
         some (n.kind == 5)
        else
         some (n.kind == 6)
       : Option (Bool)) >>= fun x6 =>
       if x6 then
        p_spell_writer_words [[40]] w >>= fun out9 =>
        p_spell_writer_expr (n, (Spell_writer.mk w.g out9 w.right w.nodes w.bad)) >>= fun (out10, nodes8, bad8) =>
        p_spell_writer_words [[41]] (Spell_writer.mk w.g out10 w.right nodes8 bad8) >>= fun out11 =>
        some (out11, nodes8, bad8)
       else
        some (w.out, w.nodes, true)
 partial_fixpoint
def p_spell_writer_applied (a : Node × Spell_writer) : Option ((List Str) × Int × Bool) := match a with
 | (f, w) =>
  if (f.kind == 26) then
   p_spell_writer_words [[40]] w >>= fun out =>
   p_spell_writer_function (f, (Spell_writer.mk w.g out w.right w.nodes w.bad)) >>= fun (out1, nodes, bad) =>
   p_spell_writer_words [[41]] (Spell_writer.mk w.g out1 w.right nodes bad) >>= fun out2 =>
   some (out2, nodes, bad)
  else
   p_spell_writer_function (f, w) >>= fun (out3, nodes1, bad1) =>
   some (out3, nodes1, bad1)
 partial_fixpoint
def p_spell_writer_function_l0 (a : Node × Spell_writer × Int × (List Str) × Int × Bool) : Option ((List Str) × Int × Bool) := match a with
 | (f, w, x5, w14, w16, w17) =>
  if (decide (x5 < (List.length f.kids : Int))) then
   lget f.kids x5 >>= fun y4 =>
   p_spell_writer_function (y4, (Spell_writer.mk w.g w14 w.right w16 w17)) >>= fun (out11, nodes6, bad6) =>
   p_spell_writer_function_l0 (f, w, (w64 (x5 + 1)), out11, nodes6, bad6)
  else
   some (w14, w16, w17)
 partial_fixpoint
def p_spell_writer_function (a : Node × Spell_writer) : Option ((List Str) × Int × Bool) := match a with
 | (f, w) =>
  p_spell_writer_fits f (mget [(22, 1), (23, 1), (24, 1), (25, 1), (26, 1), (27, 3), (28, 2)] f.kind 0) w >>= fun (x, nodes, bad) =>
  if (!x) then
   some (w.out, nodes, bad)
  else
   if (f.kind == 21) then
    p_spell_writer_words [f.name] (Spell_writer.mk w.g w.out w.right nodes bad) >>= fun out =>
    some (out, nodes, bad)
   else
    (
     if (f.kind == 22) then
      some (f.kind == 22)
     else
      some (f.kind == 23)
    : Option (Bool)) >>= fun x1 =>
    if x1 then
     p_spell_writer_lambda (f, (Spell_writer.mk w.g w.out w.right nodes bad)) >>= fun (out1, nodes1, bad1) =>
     some (out1, nodes1, bad1)
    else
     if (f.kind == 24) then
      lget f.kids 0 >>= fun y =>
      p_spell_writer_function (y, (Spell_writer.mk w.g w.out w.right nodes bad)) >>= fun (out2, nodes2, bad2) =>
      p_spell_writer_glue [f.name] (Spell_writer.mk w.g out2 w.right nodes2 bad2) >>= fun out3 =>
      some (out3, nodes2, bad2)
     else
      if (f.kind == 26) then
       if bad then
        lget f.kids 0 >>= fun y1 =>
        p_spell_writer_function (y1, (Spell_writer.mk w.g w.out w.right nodes true)) >>= fun (out4, nodes3, bad3) =>
        p_spell_Number f.op_ w.g.minus >>= fun x2 =>
        p_spell_writer_glue [w.g.power, x2] (Spell_writer.mk w.g out4 w.right nodes3 bad3) >>= fun out5 =>
        some (out5, nodes3, bad3)
       else
        lget f.kids 0 >>= fun y2 =>
        p_spell_writer_function (y2, (Spell_writer.mk w.g w.out w.right nodes (decide (f.op_ < 0)))) >>= fun (out6, nodes4, bad4) =>
        p_spell_Number f.op_ w.g.minus >>= fun x3 =>
        p_spell_writer_glue [w.g.power, x3] (Spell_writer.mk w.g out6 w.right nodes4 bad4) >>= fun out7 =>
        some (out7, nodes4, bad4)
      else
       if (f.kind == 25) then
        p_spell_writer_words [w.g.outer] (Spell_writer.mk w.g w.out w.right nodes bad) >>= fun out8 =>
        lget f.kids 0 >>= fun y3 =>
        p_spell_writer_base (y3, (Spell_writer.mk w.g out8 w.right nodes bad)) >>= fun (out9, nodes5, bad5) =>
        some (out9, nodes5, bad5)
       else
        (
         if (f.kind == 27) then
          some (f.kind == 27)
         else
          some (f.kind == 28)
        : Option (Bool)) >>= fun x4 =>
        if x4 then
         p_spell_writer_words [[40]] (Spell_writer.mk w.g w.out w.right nodes bad) >>= fun out10 =>
         (
          p_spell_writer_function_l0 (f, w, 0, out10, nodes, bad)
         : Option ((List Str) × Int × Bool)) >>= fun (w141, w161, w171) =>
         p_spell_writer_words [[41]] (Spell_writer.mk w.g w141 w.right w161 w171) >>= fun out12 =>
         some (out12, w161, w171)
        else
         some (w.out, nodes, true)
 partial_fixpoint
def p_spell_writer_lambda (a : Node × Spell_writer) : Option ((List Str) × Int × Bool) := match a with
 | (n, w) =>
  if w.g.lone then
   (
    if (n.kind == 22) then
     some w.g.left
    else
     some w.g.right
   : Option (Str)) >>= fun x15 =>
   p_spell_writer_words [w.g.open_] (Spell_writer.mk w.g w.out x15 w.nodes w.bad) >>= fun out =>
   lget n.kids 0 >>= fun y =>
   p_spell_writer_expr (y, (Spell_writer.mk w.g out x15 w.nodes w.bad)) >>= fun (out1, nodes, bad) =>
   p_spell_writer_words [w.g.close] (Spell_writer.mk w.g out1 x15 nodes bad) >>= fun out2 =>
   some (out2, nodes, bad)
  else
   p_spell_writer_words [w.g.open_] (Spell_writer.mk w.g w.out w.g.right w.nodes w.bad) >>= fun out3 =>
   lget n.kids 0 >>= fun y1 =>
   p_spell_writer_expr (y1, (Spell_writer.mk w.g out3 w.g.right w.nodes w.bad)) >>= fun (out4, nodes1, bad1) =>
   p_spell_writer_words [w.g.close] (Spell_writer.mk w.g out4 w.g.right nodes1 bad1) >>= fun out5 =>
   some (out5, nodes1, bad1)
 partial_fixpoint
def p_spell_writer_base (a : Node × Spell_writer) : Option ((List Str) × Int × Bool) := match a with
 | (f, w) =>
  (
   if (f.kind == 21) then
    some (f.kind == 21)
   else
    if (f.kind == 22) then
     some (f.kind == 22)
    else
     if (f.kind == 23) then
      some (f.kind == 23)
     else
      if (f.kind == 27) then
       some (f.kind == 27)
      else
       some (f.kind == 28)
  : Option (Bool)) >>= fun x =>
  if x then
   p_spell_writer_function (f, w) >>= fun (out, nodes, bad) =>
   some (out, nodes, bad)
  else
   p_spell_writer_words [[40]] w >>= fun out1 =>
   p_spell_writer_function (f, (Spell_writer.mk w.g out1 w.right w.nodes w.bad)) >>= fun (out2, nodes1, bad1) =>
   p_spell_writer_words [[41]] (Spell_writer.mk w.g out2 w.right nodes1 bad1) >>= fun out3 =>
   some (out3, nodes1, bad1)
 partial_fixpoint
end
def p_spell_Write (g : Grammar) (n : Node) : Option (Str × Int) :=
 p_spell_writer_expr (n, (Spell_writer.mk g [] g.right 0 false)) >>= fun (out, nodes, bad) =>
 if bad then
  some ([], 1)
 else
  go_Join out [] >>= fun x =>
  some (x, 0)
def p_arr_order_int (a_ : Int) (b : Int) : Option (Int) :=
 if (decide (a_ < b)) then
  some (-1)
 else
  if (decide (a_ > b)) then
   some 1
  else
   some 0
def p_arr_Cmp_2 (i : Int) (a_ : Arr) (a_1 : Arr) : Option (Int) :=
 lget a_.shape i >>= fun y =>
 lget a_1.shape i >>= fun y1 =>
 p_arr_order_int y y1 >>= fun x =>
 some x
def p_arr_Cmp_1__arr_Cmp_2_l0 (a : Int × Arr × Arr × Int) : Option (Except (Int) (Unit)) := match a with
 | (n, b, b1, x) =>
  if (decide (x < n)) then
   p_arr_Cmp_2 x b b1 >>= fun o =>
   if (o != 0) then
    some (.error o)
   else
    p_arr_Cmp_1__arr_Cmp_2_l0 (n, b, b1, (w64 (x + 1)))
  else
   some (.ok ())
 partial_fixpoint
def p_arr_Cmp_1__arr_Cmp_2 (n : Int) (b : Arr) (b1 : Arr) : Option (Int) :=
 (
  p_arr_Cmp_1__arr_Cmp_2_l0 (n, b, b1, 0)
 : Option (Except (Int) (Unit))) >>= fun res => match res with
 | .error r => some r
 | .ok _ =>
  some 0
def p_arr_order_int64 (a_ : Int) (b : Int) : Option (Int) :=
 if (decide (a_ < b)) then
  some (-1)
 else
  if (decide (a_ > b)) then
   some 1
  else
   some 0
mutual
def p_arr_Cmp (a : Arr × Arr) : Option (Int) := match a with
 | (a_, b) =>
  p_arr_order_int (List.length a_.shape : Int) (List.length b.shape : Int) >>= fun o =>
  if (o != 0) then
   some o
  else
   p_arr_Cmp_1__arr_Cmp_2 (List.length a_.shape : Int) a_ b >>= fun o1 =>
   if (o1 != 0) then
    some o1
   else
    p_arr_Cmp_1__arr_Cmp_3 ((if (List.length b.cells : Int) < (List.length a_.cells : Int) then (List.length b.cells : Int) else (List.length a_.cells : Int)), a_, b) >>= fun o2 =>
    if (o2 != 0) then
     some o2
    else
     p_arr_order_int (List.length a_.cells : Int) (List.length b.cells : Int) >>= fun x =>
     some x
 partial_fixpoint
def p_arr_Cmp_1__arr_Cmp_3_l0 (a : Int × Arr × Arr × Int) : Option (Except (Int) (Unit)) := match a with
 | (n, b, b1, x) =>
  if (decide (x < n)) then
   p_arr_Cmp_3 (x, b, b1) >>= fun o =>
   if (o != 0) then
    some (.error o)
   else
    p_arr_Cmp_1__arr_Cmp_3_l0 (n, b, b1, (w64 (x + 1)))
  else
   some (.ok ())
 partial_fixpoint
def p_arr_Cmp_1__arr_Cmp_3 (a : Int × Arr × Arr) : Option (Int) := match a with
 | (n, b, b1) =>
  (
   p_arr_Cmp_1__arr_Cmp_3_l0 (n, b, b1, 0)
  : Option (Except (Int) (Unit))) >>= fun res => match res with
  | .error r => some r
  | .ok _ =>
   some 0
 partial_fixpoint
def p_arr_Cmp_3 (a : Int × Arr × Arr) : Option (Int) := match a with
 | (i, a_, a_1) =>
  lget a_.cells i >>= fun y =>
  lget a_1.cells i >>= fun y1 =>
  p_arr_Cell (y, y1) >>= fun x =>
  some x
 partial_fixpoint
def p_arr_Cell (a : Cell × Cell) : Option (Int) := match a with
 | (a_, b) =>
  p_arr_order_int a_.kind b.kind >>= fun o =>
  if (o != 0) then
   some o
  else
   p_arr_order_int64 a_.n b.n >>= fun o1 =>
   if (o1 != 0) then
    if (o1 == 0) then
     p_arr_order_int (List.length a_.box : Int) (List.length b.box : Int) >>= fun x =>
     some x
    else
     some o1
   else
    if ((List.length a_.box : Int) == 0) then
     if (o1 == 0) then
      p_arr_order_int (List.length a_.box : Int) (List.length b.box : Int) >>= fun x1 =>
      some x1
     else
      some o1
    else
     if ((List.length b.box : Int) == 0) then
      if (o1 == 0) then
       p_arr_order_int (List.length a_.box : Int) (List.length b.box : Int) >>= fun x2 =>
       some x2
      else
       some o1
     else
      lget a_.box 0 >>= fun y =>
      lget b.box 0 >>= fun y1 =>
      p_arr_Cmp (y, y1) >>= fun x3 =>
      some x3
 partial_fixpoint
end
def p_arr_Same (a_ : Arr) (b : Arr) : Option (Bool) :=
 p_arr_Cmp (a_, b) >>= fun x =>
 some (x == 0)
mutual
def p_core_Same_l0 (a : Node × Node × Int) : Option (Except (Bool) (Unit)) := match a with
 | (a_, b, x1) =>
  if (decide (x1 < (List.length a_.kids : Int))) then
   lget a_.kids x1 >>= fun y =>
   lget b.kids x1 >>= fun y1 =>
   p_core_Same (y, y1) >>= fun x2 =>
   if (!x2) then
    some (.error false)
   else
    p_core_Same_l0 (a_, b, (w64 (x1 + 1)))
  else
   some (.ok ())
 partial_fixpoint
def p_core_Same (a : Node × Node) : Option (Bool) := match a with
 | (a_, b) =>
  if (a_.kind != b.kind) then
   some false
  else
   if (a_.op_ != b.op_) then
    some false
   else
    if (!(a_.name == b.name)) then
     some false
    else
     p_arr_Same a_.lit b.lit >>= fun x =>
     if (!x) then
      some false
     else
      if ((List.length a_.kids : Int) != (List.length b.kids : Int)) then
       some false
      else
       (
        p_core_Same_l0 (a_, b, 0)
       : Option (Except (Bool) (Unit))) >>= fun res => match res with
       | .error r => some r
       | .ok _ =>
        some true
 partial_fixpoint
end
def p_triglyphref03_ints (a_ : Int) (b : Int) : Option (Int) :=
 if (decide (a_ < b)) then
  some (-1)
 else
  if (decide (a_ > b)) then
   some 1
  else
   some 0
def p_triglyphref03_Cmp_l0 (a : Arr × Arr × Int × Int) : Option (Int) := match a with
 | (a_, b, o1, i) =>
  if (decide (i < (List.length a_.shape : Int))) then
   if (o1 == 0) then
    lget a_.shape i >>= fun y =>
    lget b.shape i >>= fun y1 =>
    p_triglyphref03_ints y y1 >>= fun o2 =>
    p_triglyphref03_Cmp_l0 (a_, b, o2, (w64 (i + 1)))
   else
    some o1
  else
   some o1
 partial_fixpoint
mutual
def p_triglyphref03_Cmp_l1 (a : Arr × Arr × Int × Int) : Option (Int) := match a with
 | (a_, b, o4, i1) =>
  if (decide (i1 < (List.length a_.cells : Int))) then
   if (decide (i1 < (List.length b.cells : Int))) then
    if (o4 == 0) then
     lget a_.cells i1 >>= fun y2 =>
     lget b.cells i1 >>= fun y3 =>
     p_triglyphref03_Cell (y2, y3) >>= fun o5 =>
     p_triglyphref03_Cmp_l1 (a_, b, o5, (w64 (i1 + 1)))
    else
     some o4
   else
    some o4
  else
   some o4
 partial_fixpoint
def p_triglyphref03_Cmp (a : Arr × Arr) : Option (Int) := match a with
 | (a_, b) =>
  p_triglyphref03_ints (List.length a_.shape : Int) (List.length b.shape : Int) >>= fun o =>
  (
   p_triglyphref03_Cmp_l0 (a_, b, o, 0)
  : Option (Int)) >>= fun o3 =>
  (
   p_triglyphref03_Cmp_l1 (a_, b, o3, 0)
  : Option (Int)) >>= fun o6 =>
  (
   if (o6 == 0) then
    p_triglyphref03_ints (List.length a_.cells : Int) (List.length b.cells : Int) >>= fun o7 =>
    some o7
   else
    some o6
  : Option (Int)) >>= fun o8 =>
  some o8
 partial_fixpoint
def p_triglyphref03_Cell (a : Cell × Cell) : Option (Int) := match a with
 | (a_, b) =>
  p_triglyphref03_ints a_.kind b.kind >>= fun o =>
  (
   if (o == 0) then
    p_triglyphref03_ints a_.n b.n >>= fun o1 =>
    some o1
   else
    some o
  : Option (Int)) >>= fun o2 =>
  if (o2 == 0) then
   if (decide ((List.length a_.box : Int) > 0)) then
    if (decide ((List.length b.box : Int) > 0)) then
     lget a_.box 0 >>= fun y =>
     lget b.box 0 >>= fun y1 =>
     p_triglyphref03_Cmp (y, y1) >>= fun x =>
     some x
    else
     (
      if (o2 == 0) then
       p_triglyphref03_ints (List.length a_.box : Int) (List.length b.box : Int) >>= fun o3 =>
       some o3
      else
       some o2
     : Option (Int)) >>= fun o4 =>
     some o4
   else
    (
     if (o2 == 0) then
      p_triglyphref03_ints (List.length a_.box : Int) (List.length b.box : Int) >>= fun o5 =>
      some o5
     else
      some o2
    : Option (Int)) >>= fun o6 =>
    some o6
  else
   (
    if (o2 == 0) then
     p_triglyphref03_ints (List.length a_.box : Int) (List.length b.box : Int) >>= fun o7 =>
     some o7
    else
     some o2
   : Option (Int)) >>= fun o8 =>
   some o8
 partial_fixpoint
end
mutual
def p_triglyphref10_Same_l0 (a : Node × Node × Int) : Option (Except (Bool) (Unit)) := match a with
 | (a_, b, i) =>
  if (decide (i < (List.length a_.kids : Int))) then
   lget a_.kids i >>= fun y =>
   lget b.kids i >>= fun y1 =>
   p_triglyphref10_Same (y, y1) >>= fun x1 =>
   if (!x1) then
    some (.error false)
   else
    p_triglyphref10_Same_l0 (a_, b, (w64 (i + 1)))
  else
   some (.ok ())
 partial_fixpoint
def p_triglyphref10_Same (a : Node × Node) : Option (Bool) := match a with
 | (a_, b) =>
  if (a_.kind != b.kind) then
   some false
  else
   if (a_.op_ != b.op_) then
    some false
   else
    if (!(a_.name == b.name)) then
     some false
    else
     if ((List.length a_.kids : Int) != (List.length b.kids : Int)) then
      some false
     else
      p_triglyphref03_Cmp (a_.lit, b.lit) >>= fun x =>
      if (x != 0) then
       some false
      else
       (
        p_triglyphref10_Same_l0 (a_, b, 0)
       : Option (Except (Bool) (Unit))) >>= fun res => match res with
       | .error r => some r
       | .ok _ =>
        some true
 partial_fixpoint
end
def p_stringslite_HasPrefix (s : Str) (prefix_ : Str) : Option (Bool) :=
 if (decide ((List.length s : Int) ≥ (List.length prefix_ : Int))) then
  sto s (List.length prefix_ : Int) >>= fun s1 =>
  some (s1 == prefix_)
 else
  some false
def p_strings_HasPrefix (s : Str) (prefix_ : Str) : Option (Bool) :=
 p_stringslite_HasPrefix s prefix_ >>= fun x =>
 some x
def p_runes_first (c : Int) : Option (Int × Int) :=
 if (decide (c < 128)) then
  some (1, (w64 c))
 else
  if (decide (c < 192)) then
   some (0, 0)
  else
   if (decide (c ≥ 248)) then
    some (0, 0)
   else
    if (decide (c < 224)) then
     some (2, (w64 (IntKind.u8.wrap ((BitVec.ofInt 8 c &&& BitVec.ofInt 8 31).toNat))))
    else
     if (decide (c < 240)) then
      some (3, (w64 (IntKind.u8.wrap ((BitVec.ofInt 8 c &&& BitVec.ofInt 8 15).toNat))))
     else
      some (4, (w64 (IntKind.u8.wrap ((BitVec.ofInt 8 c &&& BitVec.ofInt 8 7).toNat))))
def p_runes_put_nil (n : Int) : Option ((List Int)) :=
 if (decide (n < 128)) then
  lapp [] [(IntKind.u8.wrap n)] >>= fun l =>
  some l
 else
  if (decide (n < 2048)) then
   lapp [] [(IntKind.u8.wrap (w64 ((BitVec.ofInt 64 192 ||| BitVec.ofInt 64 (Int.fdiv n (2 ^ 6))).toNat))), (IntKind.u8.wrap (w64 ((BitVec.ofInt 64 128 ||| BitVec.ofInt 64 (w64 ((BitVec.ofInt 64 n &&& BitVec.ofInt 64 63).toNat))).toNat)))] >>= fun l1 =>
   some l1
  else
   if (decide (n < 65536)) then
    lapp [] [(IntKind.u8.wrap (w64 ((BitVec.ofInt 64 224 ||| BitVec.ofInt 64 (Int.fdiv n (2 ^ 12))).toNat))), (IntKind.u8.wrap (w64 ((BitVec.ofInt 64 128 ||| BitVec.ofInt 64 (w64 ((BitVec.ofInt 64 (Int.fdiv n (2 ^ 6)) &&& BitVec.ofInt 64 63).toNat))).toNat))), (IntKind.u8.wrap (w64 ((BitVec.ofInt 64 128 ||| BitVec.ofInt 64 (w64 ((BitVec.ofInt 64 n &&& BitVec.ofInt 64 63).toNat))).toNat)))] >>= fun l2 =>
    some l2
   else
    lapp [] [(IntKind.u8.wrap (w64 ((BitVec.ofInt 64 240 ||| BitVec.ofInt 64 (Int.fdiv n (2 ^ 18))).toNat))), (IntKind.u8.wrap (w64 ((BitVec.ofInt 64 128 ||| BitVec.ofInt 64 (w64 ((BitVec.ofInt 64 (Int.fdiv n (2 ^ 12)) &&& BitVec.ofInt 64 63).toNat))).toNat))), (IntKind.u8.wrap (w64 ((BitVec.ofInt 64 128 ||| BitVec.ofInt 64 (w64 ((BitVec.ofInt 64 (Int.fdiv n (2 ^ 6)) &&& BitVec.ofInt 64 63).toNat))).toNat))), (IntKind.u8.wrap (w64 ((BitVec.ofInt 64 128 ||| BitVec.ofInt 64 (w64 ((BitVec.ofInt 64 n &&& BitVec.ofInt 64 63).toNat))).toNat)))] >>= fun l3 =>
    some l3
def p_runes_One_l0 (a : (List Int) × Int × Int) : Option (Except (Int × Int) (Int)) := match a with
 | (l, n1, x) =>
  if (decide (x < (List.length l : Int))) then
   lget l x >>= fun c =>
   if ((IntKind.u8.wrap ((BitVec.ofInt 8 c &&& BitVec.ofInt 8 192).toNat)) != 128) then
    some (.error (0, 0))
   else
    p_runes_One_l0 (l, (w64 ((BitVec.ofInt 64 (w64 (n1 * 2 ^ 6)) ||| BitVec.ofInt 64 (w64 (IntKind.u8.wrap ((BitVec.ofInt 8 c &&& BitVec.ofInt 8 63).toNat)))).toNat)), (w64 (x + 1)))
  else
   some (.ok n1)
 partial_fixpoint
def p_runes_One (b : (List Int)) : Option (Int × Int) :=
 if ((List.length b : Int) == 0) then
  some (0, 0)
 else
  lget b 0 >>= fun y =>
  p_runes_first y >>= fun (k, n) =>
  if (k == 0) then
   some (0, 0)
  else
   if (decide (k > (List.length b : Int))) then
    some (0, 0)
   else
    lmid b 1 k >>= fun l =>
    (
     p_runes_One_l0 (l, n, 0)
    : Option (Except (Int × Int) (Int))) >>= fun res => match res with
    | .error r => some r
    | .ok n2 =>
     p_runes_Good n2 >>= fun x1 =>
     if (!x1) then
      some (0, 0)
     else
      p_runes_put_nil n2 >>= fun x2 =>
      if ((List.length x2 : Int) != k) then
       some (0, 0)
      else
       some (n2, k)
def p_jlex_digit (c : Int) : Option (Bool) :=
 if (decide (c ≥ 48)) then
  some (decide (c ≤ 57))
 else
  some false
def p_jlex_at (s : Str) (i : Int) : Option (Int) :=
 if (decide (i < (List.length s : Int))) then
  sget s i >>= fun c =>
  some c
 else
  some 0
def p_jlex_begins (s : Str) : Option (Bool) :=
 p_jlex_at s 0 >>= fun x =>
 p_jlex_digit x >>= fun x1 =>
 if x1 then
  some true
 else
  p_jlex_at s 0 >>= fun x2 =>
  if (x2 == 95) then
   p_jlex_at s 1 >>= fun x3 =>
   p_jlex_digit x3 >>= fun x4 =>
   some x4
  else
   some false
def p_jlex_number_l0 (a : Str × Int × Int × Bool) : Option (Int × Int × Bool) := match a with
 | (s, k1, n, ok) =>
  p_jlex_at s k1 >>= fun x =>
  p_jlex_digit x >>= fun x1 =>
  if x1 then
   (
    sget s k1 >>= fun c1 =>
    if ok then
     some ((IntKind.u64.wrap ((IntKind.u64.wrap (n * 10)) + (IntKind.u64.wrap (IntKind.u8.wrap (c1 - 48))))), (decide (n ≤ (IntKind.u64.wrap (Int.tdiv (IntKind.u64.wrap (9223372036854775808 - (IntKind.u64.wrap (IntKind.u8.wrap (c1 - 48))))) 10)))))
    else
     some ((IntKind.u64.wrap ((IntKind.u64.wrap (n * 10)) + (IntKind.u64.wrap (IntKind.u8.wrap (c1 - 48))))), false)
   : Option (Int × Bool)) >>= fun (n1, ok1) =>
   p_jlex_number_l0 (s, (w64 (k1 + 1)), n1, ok1)
  else
   some (k1, n, ok)
 partial_fixpoint
def p_jlex_number (s : Str) : Option (Int × Int × Bool) :=
 sget s 0 >>= fun c =>
 (
  if (c == 95) then
   some 1
  else
   some 0
 : Option (Int)) >>= fun k =>
 (
  p_jlex_number_l0 (s, k, 0, true)
 : Option (Int × Int × Bool)) >>= fun (k2, n2, ok2) =>
 sget s 0 >>= fun c2 =>
 if (c2 == 95) then
  some ((w64 (IntKind.u64.wrap (0 - n2))), k2, ok2)
 else
  if ok2 then
   some ((w64 n2), k2, (decide (n2 < 9223372036854775808)))
  else
   some ((w64 n2), k2, false)
def p_arr_Atom (n : Int) : Option (Arr) :=
 some (Arr.mk [] [(Cell.mk 0 n [])])
def p_arr_Nums_l0 (a : ((List Int)) × Int × (List Cell)) : Option ((List Cell)) := match a with
 | (l, x, a1) =>
  if (decide (x < (List.length l : Int))) then
   lget l x >>= fun n =>
   lapp a1 [(Cell.mk 0 n [])] >>= fun l1 =>
   p_arr_Nums_l0 (l, (w64 (x + 1)), l1)
  else
   some a1
 partial_fixpoint
def p_arr_Nums (l : (List Int)) : Option (Arr) :=
 (
  p_arr_Nums_l0 (l, 0, [])
 : Option ((List Cell))) >>= fun a11 =>
 some (Arr.mk [(List.length l : Int)] a11)
def p_jlex_numbers_l1 (a : Str × Int) : Option (Int) := match a with
 | (s, j) =>
  p_jlex_at s j >>= fun x =>
  if (x == 32) then
   p_jlex_numbers_l1 (s, (w64 (j + 1)))
  else
   some j
 partial_fixpoint
def p_jlex_numbers_l0 (a : Str × (List Int) × Int) : Option (Except (Arr × Int × Int) ((List Int) × Int)) := match a with
 | (s, l, i) =>
  sfrom s i >>= fun s1 =>
  p_jlex_number s1 >>= fun (n, k, ok) =>
  if (!ok) then
   some (.error ((Arr.mk [] []), 0, i))
  else
   lapp l [n] >>= fun l1 =>
   (
    p_jlex_numbers_l1 (s, (w64 (i + k)))
   : Option (Int)) >>= fun j1 =>
   if (j1 == (w64 (i + k))) then
    some (.ok (l1, (w64 (i + k))))
   else
    sfrom s j1 >>= fun s2 =>
    p_jlex_begins s2 >>= fun x1 =>
    if (!x1) then
     some (.ok (l1, (w64 (i + k))))
    else
     p_jlex_numbers_l0 (s, l1, j1)
 partial_fixpoint
def p_jlex_numbers (s : Str) : Option (Arr × Int × Int) :=
 (
  p_jlex_numbers_l0 (s, [], 0)
 : Option (Except (Arr × Int × Int) ((List Int) × Int))) >>= fun res => match res with
 | .error r => some r
 | .ok (l2, i1) =>
  if ((List.length l2 : Int) == 1) then
   lget l2 0 >>= fun y =>
   p_arr_Atom y >>= fun x2 =>
   some (x2, i1, (-1))
  else
   p_arr_Nums l2 >>= fun x3 =>
   some (x3, i1, (-1))
def p_arr_Text_l0 (a : ((List Int)) × Int × (List Cell)) : Option ((List Cell)) := match a with
 | (l, x, a1) =>
  if (decide (x < (List.length l : Int))) then
   lget l x >>= fun n =>
   lapp a1 [(Cell.mk 1 n [])] >>= fun l1 =>
   p_arr_Text_l0 (l, (w64 (x + 1)), l1)
  else
   some a1
 partial_fixpoint
def p_arr_Text (l : (List Int)) : Option (Arr) :=
 (
  if ((List.length l : Int) == 1) then
   some []
  else
   some [(List.length l : Int)]
 : Option ((List Int))) >>= fun a0 =>
 (
  p_arr_Text_l0 (l, 0, [])
 : Option ((List Cell))) >>= fun a11 =>
 some (Arr.mk a0 a11)
def p_jlex_text_l0 (a : Str × (List Int) × Int) : Option (Except (Arr × Int × Fault) (Unit)) := match a with
 | (s, l, i) =>
  if (decide (i < (List.length s : Int))) then
   sfrom s i >>= fun s1 =>
   sbytes s1 >>= fun b =>
   p_runes_One b >>= fun (n, k) =>
   (
    if (k == 0) then
     some (.error ((Arr.mk [] []), 0, (Fault.mk 3 i 0)))
    else
     if (n == 39) then
      p_jlex_at s (w64 (i + 1)) >>= fun x =>
      if (x != 39) then
       p_arr_Text l >>= fun x1 =>
       some (.error (x1, (w64 (i + 1)), (Fault.mk 0 0 0)))
      else
       if (n == 39) then
        some (.ok 2)
       else
        if (decide (n < 32)) then
         some (.error ((Arr.mk [] []), 0, (Fault.mk 2 i 0)))
        else
         if (n == 127) then
          some (.error ((Arr.mk [] []), 0, (Fault.mk 2 i 0)))
         else
          some (.ok k)
     else
      if (n == 39) then
       some (.ok 2)
      else
       if (decide (n < 32)) then
        some (.error ((Arr.mk [] []), 0, (Fault.mk 2 i 0)))
       else
        if (n == 127) then
         some (.error ((Arr.mk [] []), 0, (Fault.mk 2 i 0)))
        else
         some (.ok k)
   : Option (Except (Arr × Int × Fault) (Int))) >>= fun res => match res with
   | .error r => some (.error r)
   | .ok k1 =>
    lapp l [n] >>= fun l1 =>
    p_jlex_text_l0 (s, l1, (w64 (i + k1)))
  else
   some (.ok ())
 partial_fixpoint
def p_jlex_text (s : Str) : Option (Arr × Int × Fault) :=
 (
  p_jlex_text_l0 (s, [], 1)
 : Option (Except (Arr × Int × Fault) (Unit))) >>= fun res => match res with
 | .error r => some r
 | .ok _ =>
  some ((Arr.mk [] []), 0, (Fault.mk 2 0 0))
def p_jlex_letter (c : Int) : Option (Bool) :=
 if (decide (c ≥ 97)) then
  some (decide (c ≤ 122))
 else
  some false
def p_jlex_name_l0 (a : Str × Int) : Option (Int) := match a with
 | (s, k) =>
  p_jlex_at s k >>= fun x =>
  p_jlex_letter x >>= fun x1 =>
  if x1 then
   p_jlex_name_l0 (s, (w64 (k + 1)))
  else
   p_jlex_at s k >>= fun x2 =>
   p_jlex_digit x2 >>= fun x3 =>
   if x3 then
    p_jlex_name_l0 (s, (w64 (k + 1)))
   else
    some k
 partial_fixpoint
def p_jlex_name_l1 (a : Str × Int × Str × Int) : Option (Except (Token × Bool) (Unit)) := match a with
 | (s, k1, s1, x4) =>
  if (decide (x4 < k1)) then
   sget s x4 >>= fun c1 =>
   if (decide (c1 > 119)) then
    some (.error ((Token.mk 3 s1 (Arr.mk [] []) 0), false))
   else
    p_jlex_name_l1 (s, k1, s1, (w64 (x4 + 1)))
  else
   some (.ok ())
 partial_fixpoint
def p_jlex_name (s : Str) : Option (Token × Bool) :=
 (
  p_jlex_name_l0 (s, 1)
 : Option (Int)) >>= fun k1 =>
 sto s k1 >>= fun s1 =>
 p_jlex_at s k1 >>= fun c =>
 if (c == 46) then
  sto s (w64 (k1 + 1)) >>= fun s2 =>
  if (s2 == [105, 46]) then
   some ((Token.mk 4 s2 (Arr.mk [] []) 0), true)
  else
   some ((Token.mk 4 s2 (Arr.mk [] []) 0), (s2 == [101, 46]))
 else
  if (c == 58) then
   sto s (w64 (k1 + 1)) >>= fun s3 =>
   if (s3 == [105, 46]) then
    some ((Token.mk 4 s3 (Arr.mk [] []) 0), true)
   else
    some ((Token.mk 4 s3 (Arr.mk [] []) 0), (s3 == [101, 46]))
  else
   if (s1 == [120]) then
    some ((Token.mk 3 s1 (Arr.mk [] []) 0), true)
   else
    if (s1 == [121]) then
     some ((Token.mk 3 s1 (Arr.mk [] []) 0), true)
    else
     (
      p_jlex_name_l1 (s, k1, s1, 0)
     : Option (Except (Token × Bool) (Unit))) >>= fun res => match res with
     | .error r => some r
     | .ok _ =>
      some ((Token.mk 3 s1 (Arr.mk [] []) 0), (decide (k1 ≤ 8)))
def p_jlex_words_l0 (a : ((List Str)) × (List Token) × Int) : Option ((List Token)) := match a with
 | (x, l, x1) =>
  if (decide (x1 < (List.length x : Int))) then
   lget x x1 >>= fun s =>
   (
    if (s == [61, 58]) then
     some 7
    else
     (
      if (s == [123, 123]) then
       some (s == [123, 123])
      else
       some (s == [40])
     : Option (Bool)) >>= fun x2 =>
     if x2 then
      some 5
     else
      (
       if (s == [125, 125]) then
        some (s == [125, 125])
       else
        some (s == [41])
      : Option (Bool)) >>= fun x3 =>
      if x3 then
       some 6
      else
       some 4
   : Option (Int)) >>= fun kind =>
   lapp l [(Token.mk kind s (Arr.mk [] []) 0)] >>= fun l1 =>
   p_jlex_words_l0 (x, l1, (w64 (x1 + 1)))
  else
   some l
 partial_fixpoint
def p_jlex_words  : Option ((List Token)) :=
 goFields [61, 58, 32, 123, 123, 32, 125, 125, 32, 40, 32, 41, 32, 45, 46, 32, 124, 46, 32, 124, 58, 32, 60, 46, 32, 60, 58, 32, 62, 46, 32, 62, 58, 32, 126, 46, 32, 126, 58, 32, 44, 58, 32, 47, 58, 32, 92, 58, 32, 123, 46, 32, 125, 46, 32, 94, 58, 32, 34, 49, 32, 45, 32, 42, 32, 124, 32, 37, 32, 43, 32, 60, 32, 62, 32, 61, 32, 126, 32, 36, 32, 35, 32, 44, 32, 47, 32, 92, 32, 123] >>= fun x =>
 (
  p_jlex_words_l0 (x, [], 0)
 : Option ((List Token))) >>= fun l2 =>
 some l2
def p_jlex_word_l0 (a : Str × ((List Token)) × Int) : Option (Except (Token × Int × Fault) (Unit)) := match a with
 | (s, x7, x8) =>
  if (decide (x8 < (List.length x7 : Int))) then
   lget x7 x8 >>= fun y =>
   p_strings_HasPrefix s y.text >>= fun x9 =>
   if x9 then
    if (y.text == [34, 49]) then
     p_jlex_at s 2 >>= fun x10 =>
     p_jlex_digit x10 >>= fun x11 =>
     if x11 then
      some (.error (y, 0, (Fault.mk 2 0 0)))
     else
      some (.error (y, (List.length y.text : Int), (Fault.mk 0 0 0)))
    else
     some (.error (y, (List.length y.text : Int), (Fault.mk 0 0 0)))
   else
    p_jlex_word_l0 (s, x7, (w64 (x8 + 1)))
  else
   some (.ok ())
 partial_fixpoint
def p_jlex_word (s : Str) : Option (Token × Int × Fault) :=
 sbytes s >>= fun b =>
 p_runes_One b >>= fun (x, k) =>
 if (k == 0) then
  some ((Token.mk 0 [] (Arr.mk [] []) 0), 0, (Fault.mk 3 0 0))
 else
  p_jlex_begins s >>= fun x1 =>
  if x1 then
   p_jlex_numbers s >>= fun (x2, k1, where_) =>
   if (decide (where_ ≥ 0)) then
    some ((Token.mk 0 [] (Arr.mk [] []) 0), 0, (Fault.mk 2 where_ 0))
   else
    some ((Token.mk 1 [] x2 0), k1, (Fault.mk 0 0 0))
  else
   sget s 0 >>= fun c =>
   if (c == 39) then
    p_jlex_text s >>= fun (x3, k2, x4) =>
    some ((Token.mk 2 [] x3 0), k2, x4)
   else
    sget s 0 >>= fun c1 =>
    p_jlex_letter c1 >>= fun x5 =>
    if x5 then
     p_jlex_name s >>= fun (x6, ok) =>
     if (!ok) then
      some (x6, 0, (Fault.mk 2 0 0))
     else
      some (x6, (List.length x6.text : Int), (Fault.mk 0 0 0))
    else
     p_jlex_words >>= fun x7 =>
     (
      p_jlex_word_l0 (s, x7, 0)
     : Option (Except (Token × Int × Fault) (Unit))) >>= fun res => match res with
     | .error r => some r
     | .ok _ =>
      some ((Token.mk 0 [] (Arr.mk [] []) 0), 0, (Fault.mk 2 0 0))
def p_jlex_Lex_l0 (a : Str × Int × (List Token)) : Option (Except ((List Token) × Fault) ((List Token))) := match a with
 | (s, i, l) =>
  if (decide (i < (List.length s : Int))) then
   sget s i >>= fun c =>
   if (c == 32) then
    p_jlex_Lex_l0 (s, (w64 (i + 1)), l)
   else
    sfrom s i >>= fun s1 =>
    p_strings_HasPrefix s1 [78, 66, 46] >>= fun x =>
    if x then
     some (.ok l)
    else
     if ((List.length l : Int) == 2048) then
      some (.error ([], (Fault.mk 14 i 0)))
     else
      sfrom s i >>= fun s2 =>
      p_jlex_word s2 >>= fun (x1, k, x2) =>
      if (x2.err != 0) then
       some (.error ([], (Fault.mk x2.err (w64 (x2.at_ + i)) x2.why)))
      else
       lapp l [(Token.mk x1.kind x1.text x1.lit i)] >>= fun l1 =>
       p_jlex_Lex_l0 (s, (w64 (i + k)), l1)
  else
   some (.ok l)
 partial_fixpoint
def p_jlex_Lex (s : Str) : Option ((List Token) × Fault) :=
 if (decide ((List.length s : Int) > 8192)) then
  some ([], (Fault.mk 14 0 0))
 else
  (
   p_jlex_Lex_l0 (s, 0, [])
  : Option (Except ((List Token) × Fault) ((List Token)))) >>= fun res => match res with
  | .error r => some r
  | .ok l2 =>
   some (l2, (Fault.mk 0 0 0))
def p_jay_Parse (s : Str) : Option (Prgm × Fault) :=
 p_jlex_Lex s >>= fun (l, x) =>
 if (!((x.err == (Fault.mk 0 0 0).err) && ((x.at_ == (Fault.mk 0 0 0).at_) && ((x.why == (Fault.mk 0 0 0).why) && true)))) then
  some ((Prgm.mk [] 0 (Node.mk 0 0 [] (Arr.mk [] []) [] 0)), x)
 else
  if (decide ((List.length l : Int) > 1)) then
   lget l 0 >>= fun y =>
   if (y.kind == 3) then
    lget l 1 >>= fun y1 =>
    if (y1.kind == 7) then
     lget l 0 >>= fun y2 =>
     p_core_Name y2.text >>= fun x1 =>
     (
      if x1 then
       lget l 0 >>= fun y3 =>
       lfrom l 2 >>= fun l1 =>
       some (l1, y3.text)
      else
       some (l, [])
     : Option ((List Token) × Str)) >>= fun (l2, p0) =>
     p_jay_Grammar >>= fun x2 =>
     p_grammar_Parse x2 l2 (List.length s : Int) >>= fun (x3, x4) =>
     if (x4.err != 0) then
      some ((Prgm.mk [] 0 (Node.mk 0 0 [] (Arr.mk [] []) [] 0)), x4)
     else
      some ((Prgm.mk p0 0 x3), (Fault.mk 0 0 0))
    else
     p_jay_Grammar >>= fun x5 =>
     p_grammar_Parse x5 l (List.length s : Int) >>= fun (x6, x7) =>
     if (x7.err != 0) then
      some ((Prgm.mk [] 0 (Node.mk 0 0 [] (Arr.mk [] []) [] 0)), x7)
     else
      some ((Prgm.mk [] 0 x6), (Fault.mk 0 0 0))
   else
    p_jay_Grammar >>= fun x8 =>
    p_grammar_Parse x8 l (List.length s : Int) >>= fun (x9, x10) =>
    if (x10.err != 0) then
     some ((Prgm.mk [] 0 (Node.mk 0 0 [] (Arr.mk [] []) [] 0)), x10)
    else
     some ((Prgm.mk [] 0 x9), (Fault.mk 0 0 0))
  else
   p_jay_Grammar >>= fun x11 =>
   p_grammar_Parse x11 l (List.length s : Int) >>= fun (x12, x13) =>
   if (x13.err != 0) then
    some ((Prgm.mk [] 0 (Node.mk 0 0 [] (Arr.mk [] []) [] 0)), x13)
   else
    some ((Prgm.mk [] 0 x12), (Fault.mk 0 0 0))
def p_jay_Print (p : Prgm) : Option (Str × Int) :=
 if (!(p.set_ == [])) then
  p_core_Name p.set_ >>= fun x =>
  if (!x) then
   some ([], 1)
  else
   if (p.origin != 0) then
    some ([], 1)
   else
    p_jay_Grammar >>= fun x1 =>
    p_spell_Write x1 p.expr >>= fun (s, e) =>
    if (e != 0) then
     some ([], e)
    else
     (
      if (!(p.set_ == [])) then
       scat p.set_ [32, 61, 58, 32] >>= fun s1 =>
       scat s1 s >>= fun s2 =>
       some s2
      else
       some s
     : Option (Str)) >>= fun s3 =>
     p_jay_Parse s3 >>= fun (x2, x3) =>
     if (x3.err != 0) then
      some ([], 1)
     else
      if (!(x2.set_ == p.set_)) then
       some ([], 1)
      else
       if (x2.origin != p.origin) then
        some ([], 1)
       else
        p_core_Same (x2.expr, p.expr) >>= fun x4 =>
        if (!x4) then
         some ([], 1)
        else
         some (s3, 0)
 else
  if (p.origin != 0) then
   some ([], 1)
  else
   p_jay_Grammar >>= fun x5 =>
   p_spell_Write x5 p.expr >>= fun (s4, e1) =>
   if (e1 != 0) then
    some ([], e1)
   else
    (
     if (!(p.set_ == [])) then
      scat p.set_ [32, 61, 58, 32] >>= fun s5 =>
      scat s5 s4 >>= fun s6 =>
      some s6
     else
      some s4
    : Option (Str)) >>= fun s7 =>
    p_jay_Parse s7 >>= fun (x6, x7) =>
    if (x7.err != 0) then
     some ([], 1)
    else
     if (!(x6.set_ == p.set_)) then
      some ([], 1)
     else
      if (x6.origin != p.origin) then
       some ([], 1)
      else
       p_core_Same (x6.expr, p.expr) >>= fun x8 =>
       if (!x8) then
        some ([], 1)
       else
        some (s7, 0)
def p_triglyphref18_Same (a_ : Prgm) (b : Prgm) : Option (Bool) :=
 if (a_.set_ == b.set_) then
  if (a_.origin == b.origin) then
   p_triglyphref10_Same (a_.expr, b.expr) >>= fun x =>
   some x
  else
   some false
 else
  some false
def p_triglyphlaw18_JayOnce (s : Str) : Option (Bool) :=
 if (decide ((List.length s : Int) > 2000)) then
  go_works >>= fun x =>
  some x
 else
  p_jay_Parse s >>= fun (x1, x2) =>
  if (x2.err != 0) then
   go_works >>= fun x3 =>
   some x3
  else
   p_jay_Print x1 >>= fun (t, e) =>
   if (e != 0) then
    go_works >>= fun x4 =>
    some x4
   else
    p_jay_Parse t >>= fun (x5, x6) =>
    p_jay_Print x5 >>= fun (u, e1) =>
    if (x6.err == 0) then
     if (e1 == 0) then
      if (t == u) then
       p_triglyphref18_Same x1 x5 >>= fun x7 =>
       if x7 then
        go_works >>= fun x8 =>
        some x8
       else
        some false
      else
       some false
     else
      some false
    else
     some false
end Go.AM.Seat

namespace Go.Proofs
open Go.Shelf
def Tryz.lays156_ren : Go.Shelf.Ren := ⟨fun | 156 => 22 | 165 => 48 | 166 => 49 | 169 => 50 | 240 => 75 | 241 => 76 | 276 => 92 | 277 => 93 | n => n, fun | 31 => 48 | 9 => 9 | 3 => 3 | 4 => 4 | 0 => 0 | 20 => 20 | 72 => 94 | 76 => 98 | 70 => 92 | 37 => 73 | 75 => 97 | 127 => 130 | 164 => 152 | 5 => 5 | 80 => 100 | n => n, fun | n => n⟩
theorem Tryz.lays156 : Go.Proofs.Lays.n156 Tryz.prog Tryz.lays156_ren := {
 mixed := by kernel_rfl
 f156 := Tryz.func22.trans (congrArg some (by kernel_rfl))
 f165 := Tryz.func48.trans (congrArg some (by kernel_rfl))
 f166 := Tryz.func49.trans (congrArg some (by kernel_rfl))
 f169 := Tryz.func50.trans (congrArg some (by kernel_rfl))
 f240 := Tryz.func75.trans (congrArg some (by kernel_rfl))
 f241 := Tryz.func76.trans (congrArg some (by kernel_rfl))
 f276 := Tryz.func92.trans (congrArg some (by kernel_rfl))
 f277 := Tryz.func93.trans (congrArg some (by kernel_rfl))
 t0 := Tryz.underlying0
 a0 := Tryz.isAgg0
 z0 := Tryz.sizeOf0
 v0 := Tryz.zeroValue0
 t3 := Tryz.underlying3
 a3 := Tryz.isAgg3
 z3 := Tryz.sizeOf3
 v3 := Tryz.zeroValue3
 t4 := Tryz.underlying4
 a4 := Tryz.isAgg4
 z4 := Tryz.sizeOf4
 v4 := Tryz.zeroValue4
 t9 := Tryz.underlying9
 a9 := Tryz.isAgg9
 z9 := Tryz.sizeOf9
 v9 := Tryz.zeroValue9
 t20 := Tryz.underlying20
 a20 := Tryz.isAgg20
 z20 := Tryz.sizeOf20
 v20 := Tryz.zeroValue20
 t31 := Tryz.underlying48
 a31 := Tryz.isAgg48
 z31 := Tryz.sizeOf48
 v31 := Tryz.zeroValue48
 t37 := Tryz.underlying73
 a37 := Tryz.isAgg73
 z37 := Tryz.sizeOf73
 v37 := Tryz.zeroValue73
 t70 := Tryz.underlying92
 a70 := Tryz.isAgg92
 z70 := Tryz.sizeOf92
 v70 := Tryz.zeroValue92
 t72 := Tryz.underlying94
 a72 := Tryz.isAgg94
 z72 := Tryz.sizeOf94
 v72 := Tryz.zeroValue94
 t75 := Tryz.underlying97
 a75 := Tryz.isAgg97
 z75 := Tryz.sizeOf97
 v75 := Tryz.zeroValue97
 t76 := Tryz.underlying98
 a76 := Tryz.isAgg98
 z76 := Tryz.sizeOf98
 v76 := Tryz.zeroValue98
 t127 := Tryz.underlying130
 a127 := Tryz.isAgg130
 z127 := Tryz.sizeOf130
 v127 := Tryz.zeroValue130
 t164 := Tryz.underlying152
 a164 := Tryz.isAgg152
 z164 := Tryz.sizeOf152
 v164 := Tryz.zeroValue152 }
theorem Tryz.Builder_Extra_156 : Builder.Extra Tryz.prog Tryz.lays156_ren := {
 sizeBuilder := by kernel_rfl
 liesBuilder := by kernel_rfl
 t5 := Tryz.underlying5
 a5 := Tryz.isAgg5
 z5 := Tryz.sizeOf5
 v5 := Tryz.zeroValue5
 infoByte := by kernel_rfl
 cellsByte := by kernel_rfl
 sizeByte := by kernel_rfl
 neB5 := by decide }
def Tryz.lays157_ren : Go.Shelf.Ren := ⟨fun | 157 => 20 | 229 => 42 | 199 => 43 | 261 => 69 | 311 => 84 | 312 => 85 | n => n, fun | 9 => 9 | 31 => 48 | 3 => 3 | 5 => 5 | 4 => 4 | 119 => 88 | 0 => 0 | 40 => 90 | 152 => 121 | 21 => 21 | 154 => 123 | 51 => 124 | 141 => 126 | 196 => 138 | 193 => 135 | 198 => 141 | 49 => 139 | 194 => 136 | 201 => 144 | 226 => 157 | 46 => 108 | 227 => 158 | n => n, fun | 0 => 0 | 6 => 1 | n => n⟩
theorem Tryz.lays157 : Go.Proofs.Lays.n157 Tryz.prog Tryz.lays157_ren := {
 mixed := by kernel_rfl
 f157 := Tryz.func20.trans (congrArg some (by kernel_rfl))
 f199 := Tryz.func43.trans (congrArg some (by kernel_rfl))
 f229 := Tryz.func42.trans (congrArg some (by kernel_rfl))
 f261 := Tryz.func69.trans (congrArg some (by kernel_rfl))
 f311 := Tryz.func84.trans (congrArg some (by kernel_rfl))
 f312 := Tryz.func85.trans (congrArg some (by kernel_rfl))
 t0 := Tryz.underlying0
 a0 := Tryz.isAgg0
 z0 := Tryz.sizeOf0
 v0 := Tryz.zeroValue0
 t3 := Tryz.underlying3
 a3 := Tryz.isAgg3
 z3 := Tryz.sizeOf3
 v3 := Tryz.zeroValue3
 t4 := Tryz.underlying4
 a4 := Tryz.isAgg4
 z4 := Tryz.sizeOf4
 v4 := Tryz.zeroValue4
 t5 := Tryz.underlying5
 a5 := Tryz.isAgg5
 z5 := Tryz.sizeOf5
 v5 := Tryz.zeroValue5
 t9 := Tryz.underlying9
 a9 := Tryz.isAgg9
 z9 := Tryz.sizeOf9
 v9 := Tryz.zeroValue9
 t21 := Tryz.underlying21
 a21 := Tryz.isAgg21
 z21 := Tryz.sizeOf21
 v21 := Tryz.zeroValue21
 t31 := Tryz.underlying48
 a31 := Tryz.isAgg48
 z31 := Tryz.sizeOf48
 v31 := Tryz.zeroValue48
 t40 := Tryz.underlying90
 a40 := Tryz.isAgg90
 z40 := Tryz.sizeOf90
 v40 := Tryz.zeroValue90
 t46 := Tryz.underlying108
 a46 := Tryz.isAgg108
 z46 := Tryz.sizeOf108
 v46 := Tryz.zeroValue108
 t49 := Tryz.underlying139
 a49 := Tryz.isAgg139
 z49 := Tryz.sizeOf139
 v49 := Tryz.zeroValue139
 t51 := Tryz.underlying124
 a51 := Tryz.isAgg124
 z51 := Tryz.sizeOf124
 v51 := Tryz.zeroValue124
 t119 := Tryz.underlying88
 a119 := Tryz.isAgg88
 z119 := Tryz.sizeOf88
 t141 := Tryz.underlying126
 a141 := Tryz.isAgg126
 z141 := Tryz.sizeOf126
 v141 := Tryz.zeroValue126
 t152 := Tryz.underlying121
 a152 := Tryz.isAgg121
 z152 := Tryz.sizeOf121
 v152 := Tryz.zeroValue121
 t154 := Tryz.underlying123
 a154 := Tryz.isAgg123
 z154 := Tryz.sizeOf123
 v154 := Tryz.zeroValue123
 t193 := Tryz.underlying135
 a193 := Tryz.isAgg135
 z193 := Tryz.sizeOf135
 v193 := Tryz.zeroValue135
 t194 := Tryz.underlying136
 a194 := Tryz.isAgg136
 z194 := Tryz.sizeOf136
 v194 := Tryz.zeroValue136
 t196 := Tryz.underlying138
 a196 := Tryz.isAgg138
 z196 := Tryz.sizeOf138
 v196 := Tryz.zeroValue138
 t198 := Tryz.underlying141
 a198 := Tryz.isAgg141
 z198 := Tryz.sizeOf141
 v198 := Tryz.zeroValue141
 t201 := Tryz.underlying144
 a201 := Tryz.isAgg144
 z201 := Tryz.sizeOf144
 v201 := Tryz.zeroValue144
 t226 := Tryz.underlying157
 a226 := Tryz.isAgg157
 z226 := Tryz.sizeOf157
 v226 := Tryz.zeroValue157
 t227 := Tryz.underlying158
 a227 := Tryz.isAgg158
 z227 := Tryz.sizeOf158
 v227 := Tryz.zeroValue158
 g0 := by kernel_rfl
 g6 := by kernel_rfl }
end Go.Proofs
namespace Go.AM.Seat
open Go Go.AM Go.Proofs
set_option maxRecDepth 100000
theorem progOK : ProgOK P where
 func f fn h := by
  have hall : (P.funcs.toList.all funcOK) = true := by kernel_rfl
  exact List.all_eq_true.1 hall fn (by rw [← Array.getElem?_toList] at h; exact List.mem_of_getElem? h)
 mixed := Tryz.lays157.mixed
theorem callee_fields : Callee P 20 := ⟨_, Tryz.func20, by kernel_rfl⟩
theorem callee_join : Callee P 22 := ⟨_, Tryz.func22, by kernel_rfl⟩
theorem extern0_ok : ∀ f g, E0 f = some g → ∀ args lh r, g f args lh = some r → Callee P f ∧ CallOK P f args lh r := by
 intro f g hf args lh r h
 unfold E0 at hf
 split at hf
 ·rename_i e
  subst e
  simp only [Option.some.injEq] at hf
  subst hf
  exact ⟨callee_fields, fields_ok (ρ := Tryz.lays157_ren) Tryz.lays157 (by kernel_rfl) (by simp only [Globs.tab]; exact List.mem_cons_self) h⟩
 ·split at hf
  ·rename_i e
   subst e
   simp only [Option.some.injEq] at hf
   subst hf
   exact ⟨callee_join, join_ok (ρ := Tryz.lays156_ren) Tryz.lays156 Tryz.Builder_Extra_156 h⟩
  ·cases hf
theorem works_run : acall P E0 H0 200 4 [] [] = some (.ret (.d (.bool true)) []) := by kernel_rfl
theorem extern_ok : ∀ f g, E f = some g → ∀ args lh r, g f args lh = some r → Callee P f ∧ CallOK P f args lh r := by
 intro f g hf args lh r h
 unfold E at hf
 split at hf
 ·rename_i e
  subst e
  simp only [Option.some.injEq] at hf
  subst hf
  unfold worksCall at h
  split at h
  ·simp only [Option.some.injEq] at h
   subst h
   exact acall_sound progOK extern0_ok H0 200 4 [] [] _ works_run
  ·cases h
 ·exact extern0_ok f g hf args lh r h
theorem call_ok {f : Nat} {args : List C} {lh : List (List C)} {r : CRes} (h : aval X f args lh r) : CallOK P f args lh r := by
 obtain ⟨k, hk⟩ := h
 exact (acall_sound progOK extern_ok H k f args lh r (hk k (Nat.le_refl k))).2
theorem space_glob {w : World} (h : laidMetH P [("unicode.White_Space", YtbpldjfhpbebfaaGreatDoor.Rows.laid_unicode_White_Space), ("strings.asciiSpace", YtbpldjfhpbebfaaGreatDoor.Rows.laid_strings_asciiSpace)] w) : GlobW w := by
 rw [MakeChecks.laidMetH_plain _ _ _ (by kernel_rfl)] at h
 have h2 := h.filter (fun x => x.1 == "strings.asciiSpace")
 have e : ([("unicode.White_Space", YtbpldjfhpbebfaaGreatDoor.Rows.laid_unicode_White_Space), ("strings.asciiSpace", YtbpldjfhpbebfaaGreatDoor.Rows.laid_strings_asciiSpace)] : List (String × DataW Unit)).filter (fun x => x.1 == "strings.asciiSpace") = [("strings.asciiSpace", Lib.tabData .u8 Lib.asciiSpaceTab)] := by kernel_rfl
 rw [e] at h2
 have hg : P.globalNamed "strings.asciiSpace" = some 0 := by kernel_rfl
 have hT := Lib.tabIs_of_head hg (t := 88) (e := 5) (n := 256) (by kernel_rfl) Tryz.underlying88 Tryz.underlying5 (by kernel_rfl) (by kernel_rfl) h2
 intro x hx i v hv
 simp only [Globs.tab, List.mem_singleton] at hx
 subst hx
 simp only [List.getElem?_map, Option.map_eq_some_iff] at hv
 obtain ⟨c, hc, rfl⟩ := hv
 have hi : i < 256 := by
  have := (List.getElem?_eq_some_iff.1 hc).1
  simpa using this
 have hci : c = i := by
  have := (List.getElem?_eq_some_iff.1 hc).2
  simpa using this.symm
 subst hci
 have := hT.cell hg c (by rw [Lib.asciiSpaceTab_length]; exact hi)
 rw [Lib.asciiSpaceTab_at c hi] at this
 exact this
end Go.AM.Seat
namespace Go.AM.Seat
open Go Go.AM Go.Proofs
set_option maxRecDepth 100000
set_option maxHeartbeats 4000000
set_option linter.unusedVariables false
theorem p_core_Name_l0_ok : ∀ (a : Str × Int) (res : Except (Bool) (Unit)), p_core_Name_l0 a = some res → (match a with | (s, x) => awpL X 9 (codeAt [1, 0, 1, 0, 0] (bodyOf Tryz.f9)) (cleanAt (X.H 9 2) 0) (exitQ 0 (X.H 9 1000000) 0 (SubQ X Tryz.f9 0 (fun (r : Bool) => (CRes.ret (.d (.bool r)) [])) (fun (_ : Unit) => (⟨[(0, .d (.str s))], [], 0, [], none⟩ : St)) res)) ⟨[(0, .d (.str s)), (6, .d (.int .i64 (List.length s : Int))), (7, .d (.int .i64 x))], [], 0, [], none⟩) := by
 refine p_core_Name_l0.partial_correctness _ ?_
 rintro p_core_Name_l0' ih ⟨s, x⟩ res h
 refine lg rfl ?_
 refine ra rfl ?_
 refine awp_seq ?_
 rcases ite_inv h with ⟨hc, h⟩ | ⟨hc, h⟩
 ·refine ct rfl hc ?_
  refine awp_skip ?_
  refine cn rfl ?_
  refine seqQ.normal ?_
  refine awp_seq ?_
  obtain ⟨res, hs, h⟩ := bind_inv h
  refine awp_sub Tryz.f9 0 (fun (r : Bool) => (CRes.ret (.d (.bool r)) [])) (fun (_ : Unit) => (⟨[(0, .d (.str s)), (6, .d (.int .i64 (List.length s : Int))), (7, .d (.int .i64 x))], [], 0, [], none⟩ : St)) (res := res) ?_ (fun y hy => ?_) (fun r x s' hr hx he => ?_)
  ·replace h := hs
   refine awp_block ?_
   refine ra rfl ?_
   refine awp_seq ?_
   refine rn 2 rfl ?_
   obtain ⟨c, hk, h⟩ := bind_inv h
   refine po (esget hk rfl rfl rfl rfl) rfl rfl ?_
   refine on 2 rfl ?_
   rcases ite_inv h with ⟨hc, h⟩ | ⟨hc, h⟩
   ·refine gt rfl rfl rfl rfl hc rfl ?_
    refine on 2 rfl ?_
    obtain ⟨c1, hk, h⟩ := bind_inv h
    refine po (esget hk rfl rfl rfl rfl) rfl rfl ?_
    refine on 3 rfl ?_
    refine rz ?_
    refine awp_seq ?_
    refine rn 3 rfl ?_
    rcases ite_inv h with ⟨hc, h⟩ | ⟨hc, h⟩
    ·refine gt rfl rfl rfl rfl hc rfl ?_
     refine on 3 rfl ?_
     rcases ite_inv h with ⟨hc, h⟩ | ⟨hc, h⟩
     ·refine gt rfl rfl rfl rfl hc rfl ?_
      refine on 12 rfl ?_
      refine rz ?_
      refine ct rfl rfl ?_
      refine ra rfl ?_
      refine awp_ret ?_
      refine condQ.ret ?_
      refine exitQ.ret ?_
      cases h
      exact .err rfl (.ret rfl rfl)
     ·refine gf rfl rfl rfl rfl hc rfl ?_
      refine on 2 rfl ?_
      obtain ⟨c2, hk, h⟩ := bind_inv h
      refine po (esget hk rfl rfl rfl rfl) rfl rfl ?_
      refine on 3 rfl ?_
      rcases ite_inv h with ⟨hc, h⟩ | ⟨hc, h⟩
      ·refine gt rfl rfl rfl rfl hc rfl ?_
       refine on 6 rfl ?_
       refine rz ?_
       refine ct rfl rfl ?_
       refine ra rfl ?_
       refine awp_ret ?_
       refine condQ.ret ?_
       refine exitQ.ret ?_
       cases h
       exact .err rfl (.ret rfl rfl)
      ·refine gf rfl rfl rfl rfl hc rfl ?_
       refine on 2 rfl ?_
       obtain ⟨c3, hk, h⟩ := bind_inv h
       refine po (esget hk rfl rfl rfl rfl) rfl rfl ?_
       refine on 3 rfl ?_
       refine rz ?_
       rcases ite_inv h with ⟨hc, h⟩ | ⟨hc, h⟩
       ·refine ct rfl hc ?_
        refine ra rfl ?_
        refine awp_ret ?_
        refine condQ.ret ?_
        refine exitQ.ret ?_
        cases h
        exact .err rfl (.ret rfl rfl)
       ·refine cf rfl hc ?_
        refine awp_skip ?_
        refine cn rfl ?_
        refine en rfl ?_
        cases h
        exact .ok rfl
    ·refine gf rfl rfl rfl rfl hc rfl ?_
     refine on 15 rfl ?_
     refine rz ?_
     refine cf rfl rfl ?_
     refine awp_skip ?_
     refine cn rfl ?_
     refine en rfl ?_
     cases h
     exact .ok rfl
   ·refine gf rfl rfl rfl rfl hc rfl ?_
    refine on 6 rfl ?_
    refine rz ?_
    refine awp_seq ?_
    refine rn 6 rfl ?_
    rcases ite_inv h with ⟨hc, h⟩ | ⟨hc, h⟩
    ·refine gt rfl rfl rfl rfl hc rfl ?_
     refine on 12 rfl ?_
     refine rz ?_
     refine ct rfl rfl ?_
     refine ra rfl ?_
     refine awp_ret ?_
     refine condQ.ret ?_
     refine exitQ.ret ?_
     cases h
     exact .err rfl (.ret rfl rfl)
    ·refine gf rfl rfl rfl rfl hc rfl ?_
     refine on 2 rfl ?_
     obtain ⟨c4, hk, h⟩ := bind_inv h
     refine po (esget hk rfl rfl rfl rfl) rfl rfl ?_
     refine on 3 rfl ?_
     rcases ite_inv h with ⟨hc, h⟩ | ⟨hc, h⟩
     ·refine gt rfl rfl rfl rfl hc rfl ?_
      refine on 6 rfl ?_
      refine rz ?_
      refine ct rfl rfl ?_
      refine ra rfl ?_
      refine awp_ret ?_
      refine condQ.ret ?_
      refine exitQ.ret ?_
      cases h
      exact .err rfl (.ret rfl rfl)
     ·refine gf rfl rfl rfl rfl hc rfl ?_
      refine on 2 rfl ?_
      obtain ⟨c5, hk, h⟩ := bind_inv h
      refine po (esget hk rfl rfl rfl rfl) rfl rfl ?_
      refine on 3 rfl ?_
      refine rz ?_
      rcases ite_inv h with ⟨hc, h⟩ | ⟨hc, h⟩
      ·refine ct rfl hc ?_
       refine ra rfl ?_
       refine awp_ret ?_
       refine condQ.ret ?_
       refine exitQ.ret ?_
       cases h
       exact .err rfl (.ret rfl rfl)
      ·refine cf rfl hc ?_
       refine awp_skip ?_
       refine cn rfl ?_
       refine en rfl ?_
       cases h
       exact .ok rfl
  ·subst hy
   refine seqQ.normal ?_
   refine rn 2 rfl ?_
   refine awpO_nil ?_
   refine loopQ.normal ?_
   exact awpL_at rfl rfl (ih _ _ h)
  ·subst hr
   refine seqQ.out hx ?_
   refine loopQ.out hx ?_
   refine exitQ.out hx ?_
   cases h
   exact .err hx he
 ·refine cf rfl hc ?_
  refine awp_exit ?_
  refine condQ.exit ?_
  refine seqQ.exit ?_
  refine loopQ.exit ?_
  refine eh rfl ?_
  cases h
  exact .ok rfl
theorem p_core_Name_ok {s : Str} {r : Bool} (h : p_core_Name s = some r) : aval X 9 [.d (.str s)] [] (CRes.ret (.d (.bool r)) []) := by
 unfold p_core_Name at h
 refine aval_start (tm := [(0, .d (.str s))]) (hp := []) (n := 0) rfl Tryz.func9 rfl rfl rfl rfl rfl rfl ?_
 refine ra rfl ?_
 refine awp_seq ?_
 refine ra rfl ?_
 obtain ⟨res, hs, h⟩ := bind_inv h
 refine awp_sub Tryz.f9 0 (fun (r : Bool) => (CRes.ret (.d (.bool r)) [])) (fun (_ : Unit) => (⟨[(0, .d (.str s))], [], 0, [], none⟩ : St)) (res := res) ?_ (fun y hy => ?_) (fun r x s' hr hx he => ?_)
 ·replace h := hs
  refine awp_block ?_
  refine awp_loop ?_
  exact awpL_at rfl rfl (p_core_Name_l0_ok _ _ h)
 ·subst hy
  refine seqQ.normal ?_
  refine awp_seq ?_
  refine rn 4 rfl ?_
  rcases ite_inv h with ⟨hc, h⟩ | ⟨hc, h⟩
  ·refine gt rfl rfl rfl rfl hc rfl ?_
   refine on 5 rfl ?_
   refine rz ?_
   refine awp_ret ?_
   cases h
   exact .ret rfl rfl
  ·refine gf rfl rfl rfl rfl hc rfl ?_
   refine on 5 rfl ?_
   refine rz ?_
   refine awp_ret ?_
   cases h
   exact .ret rfl rfl
 ·subst hr
  refine seqQ.out hx ?_
  cases h
  exact he
theorem p_grammar_Parse_1_p_ok {e : Fault} {a_ : Node} {a_1 : Fault} {r : Int × Int × Str × (List Int) × (List Cell) × (List Node) × Int × Int × Int × Int} (h : p_grammar_Parse_1_p e a_ a_1 = some r) : avalD X (some (.iface 34 (encFault e))) 17 [.ptr 0 0, .ptr 1 0] [[.d (.int .i64 a_.kind), .d (.int .i64 a_.op_), .d (.str a_.name), .d (.list 1 (List.map (D.int .i64) a_.lit.shape)), .d (.list 3 (List.map encCell a_.lit.cells)), .d (.list 7 (List.map encNodeR a_.kids)), .d (.int .i64 a_.at_)], [.d (.int .i64 a_1.err), .d (.int .i64 a_1.at_), .d (.int .i64 a_1.why)]] (CRes.ret (.tuple []) [[.d (.int .i64 r.1), .d (.int .i64 r.2.1), .d (.str r.2.2.1), .own 1 (List.map (D.int .i64) r.2.2.2.1), .own 3 (List.map encCell r.2.2.2.2.1), .own 7 (List.map encNodeR r.2.2.2.2.2.1), .d (.int .i64 r.2.2.2.2.2.2.1)], [.d (.int .i64 r.2.2.2.2.2.2.2.1), .d (.int .i64 r.2.2.2.2.2.2.2.2.1), .d (.int .i64 r.2.2.2.2.2.2.2.2.2)]]) := by
 unfold p_grammar_Parse_1_p at h
 refine avalD_rstart (tm := [(2, .d (.iface 34 (encFault e))), (5, .d (.iface 34 (encFault e))), (0, .c (.ptr 0 0)), (1, .c (.ptr 1 0))]) (hp := [(0, [.d (.int .i64 a_.kind), .d (.int .i64 a_.op_), .d (.str a_.name), .d (.list 1 (List.map (D.int .i64) a_.lit.shape)), .d (.list 3 (List.map encCell a_.lit.cells)), .d (.list 7 (List.map encNodeR a_.kids)), .d (.int .i64 a_.at_)]), (1, [.d (.int .i64 a_1.err), .d (.int .i64 a_1.at_), .d (.int .i64 a_1.why)])]) (n := 2) Tryz.func17 rfl rfl rfl rfl rfl rfl rfl rfl ?_
 refine ra rfl ?_
 refine ct rfl rfl ?_
 refine ra (nid' := 3) rfl ?_
 refine awp_seq ?_
 refine ra rfl ?_
 refine cf rfl rfl ?_
 refine awp_skip ?_
 refine cn rfl ?_
 refine seqQ.normal ?_
 refine drn (m := 7) 4 rfl rfl ?_
 refine dz' (by kernel_rfl) ?_
 refine cn rfl ?_
 cases h
 exact ⟨⟨.inl rfl, rfl, rfl⟩⟩
theorem p_grammar_Parse_1_p_2_ok {e : Fault} {a_ : Node} {a_1 : Fault} {r : Int × Int × Str × (List Int) × (List Cell) × (List Node) × Int × Int × Int × Int} (h : p_grammar_Parse_1_p_2 e a_ a_1 = some r) : avalD X (some (.iface 34 (encFault e))) 17 [.ptr 0 0, .ptr 1 0] [[.d (.int .i64 a_.kind), .d (.int .i64 a_.op_), .d (.str a_.name), .own 1 (List.map (D.int .i64) a_.lit.shape), .own 3 (List.map encCell a_.lit.cells), .own 7 (List.map encNodeR a_.kids), .d (.int .i64 a_.at_)], [.d (.int .i64 a_1.err), .d (.int .i64 a_1.at_), .d (.int .i64 a_1.why)]] (CRes.ret (.tuple []) [[.d (.int .i64 r.1), .d (.int .i64 r.2.1), .d (.str r.2.2.1), .own 1 (List.map (D.int .i64) r.2.2.2.1), .own 3 (List.map encCell r.2.2.2.2.1), .own 7 (List.map encNodeR r.2.2.2.2.2.1), .d (.int .i64 r.2.2.2.2.2.2.1)], [.d (.int .i64 r.2.2.2.2.2.2.2.1), .d (.int .i64 r.2.2.2.2.2.2.2.2.1), .d (.int .i64 r.2.2.2.2.2.2.2.2.2)]]) := by
 unfold p_grammar_Parse_1_p_2 at h
 refine avalD_rstart (tm := [(2, .d (.iface 34 (encFault e))), (5, .d (.iface 34 (encFault e))), (0, .c (.ptr 0 0)), (1, .c (.ptr 1 0))]) (hp := [(0, [.d (.int .i64 a_.kind), .d (.int .i64 a_.op_), .d (.str a_.name), .own 1 (List.map (D.int .i64) a_.lit.shape), .own 3 (List.map encCell a_.lit.cells), .own 7 (List.map encNodeR a_.kids), .d (.int .i64 a_.at_)]), (1, [.d (.int .i64 a_1.err), .d (.int .i64 a_1.at_), .d (.int .i64 a_1.why)])]) (n := 2) Tryz.func17 rfl rfl rfl rfl rfl rfl rfl rfl ?_
 refine ra rfl ?_
 refine ct rfl rfl ?_
 refine ra (nid' := 3) rfl ?_
 refine awp_seq ?_
 refine ra rfl ?_
 refine cf rfl rfl ?_
 refine awp_skip ?_
 refine cn rfl ?_
 refine seqQ.normal ?_
 refine drn (m := 7) 4 rfl rfl ?_
 refine dz' (by kernel_rfl) ?_
 refine cn rfl ?_
 cases h
 exact ⟨⟨.inl rfl, rfl, rfl⟩⟩
theorem p_grammar_Parse_1_q_ok {a_ : Node} {a_1 : Fault} {r : Unit} (h : p_grammar_Parse_1_q a_ a_1 = some r) : avalD X none 17 [.ptr 0 0, .ptr 1 0] [[.d (.int .i64 a_.kind), .d (.int .i64 a_.op_), .d (.str a_.name), .d (.list 1 (List.map (D.int .i64) a_.lit.shape)), .d (.list 3 (List.map encCell a_.lit.cells)), .d (.list 7 (List.map encNodeR a_.kids)), .d (.int .i64 a_.at_)], [.d (.int .i64 a_1.err), .d (.int .i64 a_1.at_), .d (.int .i64 a_1.why)]] (CRes.ret (.tuple []) [[.d (.int .i64 a_.kind), .d (.int .i64 a_.op_), .d (.str a_.name), .d (.list 1 (List.map (D.int .i64) a_.lit.shape)), .d (.list 3 (List.map encCell a_.lit.cells)), .d (.list 7 (List.map encNodeR a_.kids)), .d (.int .i64 a_.at_)], [.d (.int .i64 a_1.err), .d (.int .i64 a_1.at_), .d (.int .i64 a_1.why)]]) := by
 unfold p_grammar_Parse_1_q at h
 refine avalD_rstart (tm := [(2, .d .nilIface), (5, .d .nilIface), (0, .c (.ptr 0 0)), (1, .c (.ptr 1 0))]) (hp := [(0, [.d (.int .i64 a_.kind), .d (.int .i64 a_.op_), .d (.str a_.name), .d (.list 1 (List.map (D.int .i64) a_.lit.shape)), .d (.list 3 (List.map encCell a_.lit.cells)), .d (.list 7 (List.map encNodeR a_.kids)), .d (.int .i64 a_.at_)]), (1, [.d (.int .i64 a_1.err), .d (.int .i64 a_1.at_), .d (.int .i64 a_1.why)])]) (n := 2) Tryz.func17 rfl rfl rfl rfl rfl rfl rfl rfl ?_
 refine ra rfl ?_
 refine cf rfl rfl ?_
 refine awp_skip ?_
 refine cn rfl ?_
 cases h
 exact ⟨⟨.inl rfl, rfl, rfl⟩⟩
theorem p_grammar_parser_fail_ok {e : Int} {i : Int} {p : Grammar_parser} {r : Except (Fault) (Unit)} (h : p_grammar_parser_fail e i p = some r) : aval X 19 [.ptr 0 0, .d (.int .i64 e), .d (.int .i64 i)] [[.d (.list 1 (List.map D.str p.g.verbs)), .d (.list 1 (List.map D.str p.g.adverbs)), .d (.list 1 (List.map D.str p.g.behind)), .d (.str p.g.outer), .d (.str p.g.power), .d (.str p.g.open_), .d (.str p.g.close), .d (.str p.g.left), .d (.str p.g.right), .d (.str p.g.minus), .d (.str p.g.quote), .d (.bool p.g.trains), .d (.bool p.g.lone), .d (.bool p.g.square), .d (.list 5 (List.map encToken p.l)), .d (.int .i64 p.i), .d (.int .i64 p.end_), .d (.int .i64 p.deep), .d (.int .i64 p.in_)]] (match (generalizing := false) r with | .ok r => (CRes.ret (.tuple []) [[.d (.list 1 (List.map D.str p.g.verbs)), .d (.list 1 (List.map D.str p.g.adverbs)), .d (.list 1 (List.map D.str p.g.behind)), .d (.str p.g.outer), .d (.str p.g.power), .d (.str p.g.open_), .d (.str p.g.close), .d (.str p.g.left), .d (.str p.g.right), .d (.str p.g.minus), .d (.str p.g.quote), .d (.bool p.g.trains), .d (.bool p.g.lone), .d (.bool p.g.square), .d (.list 5 (List.map encToken p.l)), .d (.int .i64 p.i), .d (.int .i64 p.end_), .d (.int .i64 p.deep), .d (.int .i64 p.in_)]]) | .error r => (CRes.pan (.iface 34 (encFault r)) [[.d (.list 1 (List.map D.str p.g.verbs)), .d (.list 1 (List.map D.str p.g.adverbs)), .d (.list 1 (List.map D.str p.g.behind)), .d (.str p.g.outer), .d (.str p.g.power), .d (.str p.g.open_), .d (.str p.g.close), .d (.str p.g.left), .d (.str p.g.right), .d (.str p.g.minus), .d (.str p.g.quote), .d (.bool p.g.trains), .d (.bool p.g.lone), .d (.bool p.g.square), .d (.list 5 (List.map encToken p.l)), .d (.int .i64 p.i), .d (.int .i64 p.end_), .d (.int .i64 p.deep), .d (.int .i64 p.in_)]])) := by
 unfold p_grammar_parser_fail at h
 refine aval_start (tm := [(0, .c (.ptr 0 0)), (1, .d (.int .i64 e)), (2, .d (.int .i64 i))]) (hp := [(0, [.d (.list 1 (List.map D.str p.g.verbs)), .d (.list 1 (List.map D.str p.g.adverbs)), .d (.list 1 (List.map D.str p.g.behind)), .d (.str p.g.outer), .d (.str p.g.power), .d (.str p.g.open_), .d (.str p.g.close), .d (.str p.g.left), .d (.str p.g.right), .d (.str p.g.minus), .d (.str p.g.quote), .d (.bool p.g.trains), .d (.bool p.g.lone), .d (.bool p.g.square), .d (.list 5 (List.map encToken p.l)), .d (.int .i64 p.i), .d (.int .i64 p.end_), .d (.int .i64 p.deep), .d (.int .i64 p.in_)])]) (n := 1) rfl Tryz.func19 rfl rfl rfl rfl rfl rfl ?_
 refine ra rfl ?_
 refine awp_seq ?_
 refine awp_seq ?_
 refine rn 5 rfl ?_
 refine po (ellen rfl rfl rfl rfl rfl rfl rfl) rfl rfl ?_
 refine on 1 rfl ?_
 refine rz ?_
 obtain ⟨at_, hs, h⟩ := bind_inv h
 refine awp_nrm (fun (at_ : Int) => (⟨[(1, .d (.int .i64 e)), (6, .d (.int .i64 at_))], [(0, [.d (.list 1 (List.map D.str p.g.verbs)), .d (.list 1 (List.map D.str p.g.adverbs)), .d (.list 1 (List.map D.str p.g.behind)), .d (.str p.g.outer), .d (.str p.g.power), .d (.str p.g.open_), .d (.str p.g.close), .d (.str p.g.left), .d (.str p.g.right), .d (.str p.g.minus), .d (.str p.g.quote), .d (.bool p.g.trains), .d (.bool p.g.lone), .d (.bool p.g.square), .d (.list 5 (List.map encToken p.l)), .d (.int .i64 p.i), .d (.int .i64 p.end_), .d (.int .i64 p.deep), .d (.int .i64 p.in_)])], 1, [], none⟩ : St)) (y := at_) ?_ ?_
 ·replace h := hs
  rcases ite_inv h with ⟨hc, h⟩ | ⟨hc, h⟩
  ·refine ct rfl hc ?_
   refine rn 5 rfl ?_
   obtain ⟨y, hk, h⟩ := bind_inv h
   refine po (elget encToken (fun _ => rfl) hk rfl rfl rfl rfl rfl) rfl rfl ?_
   refine on 3 rfl ?_
   refine awpO_nil ?_
   refine cn rfl ?_
   cases h
   exact .ok rfl
  ·refine cf rfl hc ?_
   refine awp_skip ?_
   refine cn rfl ?_
   cases h
   exact .ok rfl
 ·refine seqQ.normal ?_
  refine rn 4 rfl ?_
  refine pp (epanic fun _ => rfl) rfl rfl ?_
  cases h
  exact .pan rfl rfl
theorem p_grammar_parser_down_ok {p : Grammar_parser} {r : Except (Fault × Int) (Int)} (h : p_grammar_parser_down p = some r) : aval X 35 [.ptr 0 0] [[.d (.list 1 (List.map D.str p.g.verbs)), .d (.list 1 (List.map D.str p.g.adverbs)), .d (.list 1 (List.map D.str p.g.behind)), .d (.str p.g.outer), .d (.str p.g.power), .d (.str p.g.open_), .d (.str p.g.close), .d (.str p.g.left), .d (.str p.g.right), .d (.str p.g.minus), .d (.str p.g.quote), .d (.bool p.g.trains), .d (.bool p.g.lone), .d (.bool p.g.square), .d (.list 5 (List.map encToken p.l)), .d (.int .i64 p.i), .d (.int .i64 p.end_), .d (.int .i64 p.deep), .d (.int .i64 p.in_)]] (match (generalizing := false) r with | .ok r => (CRes.ret (.tuple []) [[.d (.list 1 (List.map D.str p.g.verbs)), .d (.list 1 (List.map D.str p.g.adverbs)), .d (.list 1 (List.map D.str p.g.behind)), .d (.str p.g.outer), .d (.str p.g.power), .d (.str p.g.open_), .d (.str p.g.close), .d (.str p.g.left), .d (.str p.g.right), .d (.str p.g.minus), .d (.str p.g.quote), .d (.bool p.g.trains), .d (.bool p.g.lone), .d (.bool p.g.square), .d (.list 5 (List.map encToken p.l)), .d (.int .i64 p.i), .d (.int .i64 p.end_), .d (.int .i64 r), .d (.int .i64 p.in_)]]) | .error r => (CRes.pan (.iface 34 (encFault r.1)) [[.d (.list 1 (List.map D.str p.g.verbs)), .d (.list 1 (List.map D.str p.g.adverbs)), .d (.list 1 (List.map D.str p.g.behind)), .d (.str p.g.outer), .d (.str p.g.power), .d (.str p.g.open_), .d (.str p.g.close), .d (.str p.g.left), .d (.str p.g.right), .d (.str p.g.minus), .d (.str p.g.quote), .d (.bool p.g.trains), .d (.bool p.g.lone), .d (.bool p.g.square), .d (.list 5 (List.map encToken p.l)), .d (.int .i64 p.i), .d (.int .i64 p.end_), .d (.int .i64 r.2), .d (.int .i64 p.in_)]])) := by
 unfold p_grammar_parser_down at h
 refine aval_start (tm := [(0, .c (.ptr 0 0))]) (hp := [(0, [.d (.list 1 (List.map D.str p.g.verbs)), .d (.list 1 (List.map D.str p.g.adverbs)), .d (.list 1 (List.map D.str p.g.behind)), .d (.str p.g.outer), .d (.str p.g.power), .d (.str p.g.open_), .d (.str p.g.close), .d (.str p.g.left), .d (.str p.g.right), .d (.str p.g.minus), .d (.str p.g.quote), .d (.bool p.g.trains), .d (.bool p.g.lone), .d (.bool p.g.square), .d (.list 5 (List.map encToken p.l)), .d (.int .i64 p.i), .d (.int .i64 p.end_), .d (.int .i64 p.deep), .d (.int .i64 p.in_)])]) (n := 1) rfl Tryz.func35 rfl rfl rfl rfl rfl rfl ?_
 refine ra rfl ?_
 refine ra rfl ?_
 rcases ite_inv h with ⟨hc, h⟩ | ⟨hc, h⟩
 ·refine ct rfl hc ?_
  refine rn 5 rfl ?_
  obtain ⟨res, hk, h⟩ := bind_inv h
  rcases res with e | y
  ·refine pp (ecallp (p_grammar_parser_fail_ok hk) rfl rfl rfl rfl rfl rfl rfl rfl rfl rfl) rfl rfl ?_
   refine condQ.pan ?_
   cases h
   exact .pan rfl rfl
  ·refine po (ecallb (nid' := 1) (p_grammar_parser_fail_ok hk) rfl rfl rfl rfl rfl rfl rfl rfl rfl rfl rfl rfl) rfl rfl ?_
   refine awpO_nil ?_
   refine cn rfl ?_
   cases h
   exact .normal rfl rfl
 ·refine cf rfl hc ?_
  refine awp_skip ?_
  refine cn rfl ?_
  cases h
  exact .normal rfl rfl
theorem p_grammar_parser_expr_1_ok {pan : Option D} {b : Grammar_parser} {r : Int} (h : p_grammar_parser_expr_1 b = some r) : avalD X pan 36 [.ptr 0 0] [[.ptr 1 0], [.d (.list 1 (List.map D.str b.g.verbs)), .d (.list 1 (List.map D.str b.g.adverbs)), .d (.list 1 (List.map D.str b.g.behind)), .d (.str b.g.outer), .d (.str b.g.power), .d (.str b.g.open_), .d (.str b.g.close), .d (.str b.g.left), .d (.str b.g.right), .d (.str b.g.minus), .d (.str b.g.quote), .d (.bool b.g.trains), .d (.bool b.g.lone), .d (.bool b.g.square), .d (.list 5 (List.map encToken b.l)), .d (.int .i64 b.i), .d (.int .i64 b.end_), .d (.int .i64 b.deep), .d (.int .i64 b.in_)]] (CRes.ret (.tuple []) [[.ptr 1 0], [.d (.list 1 (List.map D.str b.g.verbs)), .d (.list 1 (List.map D.str b.g.adverbs)), .d (.list 1 (List.map D.str b.g.behind)), .d (.str b.g.outer), .d (.str b.g.power), .d (.str b.g.open_), .d (.str b.g.close), .d (.str b.g.left), .d (.str b.g.right), .d (.str b.g.minus), .d (.str b.g.quote), .d (.bool b.g.trains), .d (.bool b.g.lone), .d (.bool b.g.square), .d (.list 5 (List.map encToken b.l)), .d (.int .i64 b.i), .d (.int .i64 b.end_), .d (.int .i64 r), .d (.int .i64 b.in_)]]) := by
 unfold p_grammar_parser_expr_1 at h
 refine avalD_start (tm := [(0, .c (.ptr 0 0))]) (hp := [(0, [.ptr 1 0]), (1, [.d (.list 1 (List.map D.str b.g.verbs)), .d (.list 1 (List.map D.str b.g.adverbs)), .d (.list 1 (List.map D.str b.g.behind)), .d (.str b.g.outer), .d (.str b.g.power), .d (.str b.g.open_), .d (.str b.g.close), .d (.str b.g.left), .d (.str b.g.right), .d (.str b.g.minus), .d (.str b.g.quote), .d (.bool b.g.trains), .d (.bool b.g.lone), .d (.bool b.g.square), .d (.list 5 (List.map encToken b.l)), .d (.int .i64 b.i), .d (.int .i64 b.end_), .d (.int .i64 b.deep), .d (.int .i64 b.in_)])]) (n := 2) Tryz.func36 rfl rfl rfl rfl rfl rfl ?_
 refine rn 8 rfl ?_
 refine awpO_nil ?_
 cases h
 exact ⟨⟨.inl rfl, rfl, rfl⟩⟩
theorem p_grammar_parser_function_1_ok {pan : Option D} {b : Grammar_parser} {r : Int} (h : p_grammar_parser_function_1 b = some r) : avalD X pan 66 [.ptr 0 0] [[.ptr 1 0], [.d (.list 1 (List.map D.str b.g.verbs)), .d (.list 1 (List.map D.str b.g.adverbs)), .d (.list 1 (List.map D.str b.g.behind)), .d (.str b.g.outer), .d (.str b.g.power), .d (.str b.g.open_), .d (.str b.g.close), .d (.str b.g.left), .d (.str b.g.right), .d (.str b.g.minus), .d (.str b.g.quote), .d (.bool b.g.trains), .d (.bool b.g.lone), .d (.bool b.g.square), .d (.list 5 (List.map encToken b.l)), .d (.int .i64 b.i), .d (.int .i64 b.end_), .d (.int .i64 b.deep), .d (.int .i64 b.in_)]] (CRes.ret (.tuple []) [[.ptr 1 0], [.d (.list 1 (List.map D.str b.g.verbs)), .d (.list 1 (List.map D.str b.g.adverbs)), .d (.list 1 (List.map D.str b.g.behind)), .d (.str b.g.outer), .d (.str b.g.power), .d (.str b.g.open_), .d (.str b.g.close), .d (.str b.g.left), .d (.str b.g.right), .d (.str b.g.minus), .d (.str b.g.quote), .d (.bool b.g.trains), .d (.bool b.g.lone), .d (.bool b.g.square), .d (.list 5 (List.map encToken b.l)), .d (.int .i64 b.i), .d (.int .i64 b.end_), .d (.int .i64 r), .d (.int .i64 b.in_)]]) := by
 unfold p_grammar_parser_function_1 at h
 refine avalD_start (tm := [(0, .c (.ptr 0 0))]) (hp := [(0, [.ptr 1 0]), (1, [.d (.list 1 (List.map D.str b.g.verbs)), .d (.list 1 (List.map D.str b.g.adverbs)), .d (.list 1 (List.map D.str b.g.behind)), .d (.str b.g.outer), .d (.str b.g.power), .d (.str b.g.open_), .d (.str b.g.close), .d (.str b.g.left), .d (.str b.g.right), .d (.str b.g.minus), .d (.str b.g.quote), .d (.bool b.g.trains), .d (.bool b.g.lone), .d (.bool b.g.square), .d (.list 5 (List.map encToken b.l)), .d (.int .i64 b.i), .d (.int .i64 b.end_), .d (.int .i64 b.deep), .d (.int .i64 b.in_)])]) (n := 2) Tryz.func66 rfl rfl rfl rfl rfl rfl ?_
 refine rn 8 rfl ?_
 refine awpO_nil ?_
 cases h
 exact ⟨⟨.inl rfl, rfl, rfl⟩⟩
theorem p_grammar_parser_here_ok {p : Grammar_parser} {r : Int} (h : p_grammar_parser_here p = some r) : aval X 37 [.ptr 0 0] [[.d (.list 1 (List.map D.str p.g.verbs)), .d (.list 1 (List.map D.str p.g.adverbs)), .d (.list 1 (List.map D.str p.g.behind)), .d (.str p.g.outer), .d (.str p.g.power), .d (.str p.g.open_), .d (.str p.g.close), .d (.str p.g.left), .d (.str p.g.right), .d (.str p.g.minus), .d (.str p.g.quote), .d (.bool p.g.trains), .d (.bool p.g.lone), .d (.bool p.g.square), .d (.list 5 (List.map encToken p.l)), .d (.int .i64 p.i), .d (.int .i64 p.end_), .d (.int .i64 p.deep), .d (.int .i64 p.in_)]] (CRes.ret (.d (.int .i64 r)) [[.d (.list 1 (List.map D.str p.g.verbs)), .d (.list 1 (List.map D.str p.g.adverbs)), .d (.list 1 (List.map D.str p.g.behind)), .d (.str p.g.outer), .d (.str p.g.power), .d (.str p.g.open_), .d (.str p.g.close), .d (.str p.g.left), .d (.str p.g.right), .d (.str p.g.minus), .d (.str p.g.quote), .d (.bool p.g.trains), .d (.bool p.g.lone), .d (.bool p.g.square), .d (.list 5 (List.map encToken p.l)), .d (.int .i64 p.i), .d (.int .i64 p.end_), .d (.int .i64 p.deep), .d (.int .i64 p.in_)]]) := by
 unfold p_grammar_parser_here at h
 refine aval_start (tm := [(0, .c (.ptr 0 0))]) (hp := [(0, [.d (.list 1 (List.map D.str p.g.verbs)), .d (.list 1 (List.map D.str p.g.adverbs)), .d (.list 1 (List.map D.str p.g.behind)), .d (.str p.g.outer), .d (.str p.g.power), .d (.str p.g.open_), .d (.str p.g.close), .d (.str p.g.left), .d (.str p.g.right), .d (.str p.g.minus), .d (.str p.g.quote), .d (.bool p.g.trains), .d (.bool p.g.lone), .d (.bool p.g.square), .d (.list 5 (List.map encToken p.l)), .d (.int .i64 p.i), .d (.int .i64 p.end_), .d (.int .i64 p.deep), .d (.int .i64 p.in_)])]) (n := 1) rfl Tryz.func37 rfl rfl rfl rfl rfl rfl ?_
 refine ra rfl ?_
 refine awp_seq ?_
 refine awp_seq ?_
 refine drn (m := 11) 8 rfl rfl ?_
 refine pd (ellen rfl rfl rfl rfl rfl rfl rfl) rfl rfl rfl rfl rfl ?_
 refine don 1 rfl ?_
 refine dz (by kernel_rfl) ?_
 rcases ite_inv h with ⟨hc, h⟩ | ⟨hc, h⟩
 ·refine ct rfl hc ?_
  refine awp_seq ?_
  refine drn (m := 23) 8 rfl rfl ?_
  obtain ⟨y, hk, h⟩ := bind_inv h
  refine pd (elget encToken (fun _ => rfl) hk rfl rfl rfl rfl rfl) rfl rfl rfl rfl rfl ?_
  refine don 3 rfl ?_
  refine dz (by kernel_rfl) ?_
  refine awp_ret ?_
  refine condQ.ret ?_
  refine seqQ.ret ?_
  cases h
  exact .ret rfl rfl
 ·refine cf rfl hc ?_
  refine awp_skip ?_
  refine cn rfl ?_
  refine seqQ.normal ?_
  refine ra rfl ?_
  refine awp_ret ?_
  cases h
  exact .ret rfl rfl
theorem p_grammar_parser_is_ok {i : Int} {kind : Int} {text : Str} {p : Grammar_parser} {r : Bool} (h : p_grammar_parser_is i kind text p = some r) : aval X 61 [.ptr 0 0, .d (.int .i64 i), .d (.int .i64 kind), .d (.str text)] [[.d (.list 1 (List.map D.str p.g.verbs)), .d (.list 1 (List.map D.str p.g.adverbs)), .d (.list 1 (List.map D.str p.g.behind)), .d (.str p.g.outer), .d (.str p.g.power), .d (.str p.g.open_), .d (.str p.g.close), .d (.str p.g.left), .d (.str p.g.right), .d (.str p.g.minus), .d (.str p.g.quote), .d (.bool p.g.trains), .d (.bool p.g.lone), .d (.bool p.g.square), .d (.list 5 (List.map encToken p.l)), .d (.int .i64 p.i), .d (.int .i64 p.end_), .d (.int .i64 p.deep), .d (.int .i64 p.in_)]] (CRes.ret (.d (.bool r)) [[.d (.list 1 (List.map D.str p.g.verbs)), .d (.list 1 (List.map D.str p.g.adverbs)), .d (.list 1 (List.map D.str p.g.behind)), .d (.str p.g.outer), .d (.str p.g.power), .d (.str p.g.open_), .d (.str p.g.close), .d (.str p.g.left), .d (.str p.g.right), .d (.str p.g.minus), .d (.str p.g.quote), .d (.bool p.g.trains), .d (.bool p.g.lone), .d (.bool p.g.square), .d (.list 5 (List.map encToken p.l)), .d (.int .i64 p.i), .d (.int .i64 p.end_), .d (.int .i64 p.deep), .d (.int .i64 p.in_)]]) := by
 unfold p_grammar_parser_is at h
 refine aval_start (tm := [(0, .c (.ptr 0 0)), (1, .d (.int .i64 i)), (2, .d (.int .i64 kind)), (3, .d (.str text))]) (hp := [(0, [.d (.list 1 (List.map D.str p.g.verbs)), .d (.list 1 (List.map D.str p.g.adverbs)), .d (.list 1 (List.map D.str p.g.behind)), .d (.str p.g.outer), .d (.str p.g.power), .d (.str p.g.open_), .d (.str p.g.close), .d (.str p.g.left), .d (.str p.g.right), .d (.str p.g.minus), .d (.str p.g.quote), .d (.bool p.g.trains), .d (.bool p.g.lone), .d (.bool p.g.square), .d (.list 5 (List.map encToken p.l)), .d (.int .i64 p.i), .d (.int .i64 p.end_), .d (.int .i64 p.deep), .d (.int .i64 p.in_)])]) (n := 1) rfl Tryz.func61 rfl rfl rfl rfl rfl rfl ?_
 refine ra rfl ?_
 refine awp_seq ?_
 refine rn 5 rfl ?_
 refine po (ellen rfl rfl rfl rfl rfl rfl rfl) rfl rfl ?_
 refine on 2 rfl ?_
 rcases ite_inv h with ⟨hc, h⟩ | ⟨hc, h⟩
 ·refine gt rfl rfl rfl rfl hc rfl ?_
  refine on 5 rfl ?_
  obtain ⟨y, hk, h⟩ := bind_inv h
  refine po (elget encToken (fun _ => rfl) hk rfl rfl rfl rfl rfl) rfl rfl ?_
  refine on 6 rfl ?_
  rcases ite_inv h with ⟨hc, h⟩ | ⟨hc, h⟩
  ·refine gt rfl rfl rfl rfl hc rfl ?_
   refine on 5 rfl ?_
   obtain ⟨y1, hk, h⟩ := bind_inv h
   refine po (elget encToken (fun _ => rfl) hk rfl rfl rfl rfl rfl) rfl rfl ?_
   refine on 6 rfl ?_
   rcases ite_inv h with ⟨hc, h⟩ | ⟨hc, h⟩
   ·refine gt rfl rfl rfl rfl hc rfl ?_
    refine on 4 rfl ?_
    refine rz ?_
    refine awp_ret ?_
    cases h
    exact .ret rfl rfl
   ·refine gf rfl rfl rfl rfl hc rfl ?_
    refine on 4 rfl ?_
    refine rz ?_
    refine awp_ret ?_
    cases h
    exact .ret rfl rfl
  ·refine gf rfl rfl rfl rfl hc rfl ?_
   refine on 16 rfl ?_
   refine rz ?_
   refine awp_ret ?_
   cases h
   exact .ret rfl rfl
 ·refine gf rfl rfl rfl rfl hc rfl ?_
  refine on 28 rfl ?_
  refine rz ?_
  refine awp_ret ?_
  cases h
  exact .ret rfl rfl
theorem p_grammar_times_ok {a_ : Arr} {r : Int × Bool} (h : p_grammar_times a_ = some r) : aval X 41 [.d (encArr a_)] [] (CRes.ret (.tuple [.d (.int .i64 r.1), .d (.bool r.2)]) []) := by
 unfold p_grammar_times at h
 refine aval_start (tm := [(0, .d (encArr a_))]) (hp := []) (n := 0) rfl Tryz.func41 rfl rfl rfl rfl rfl rfl ?_
 refine ra (nid' := 1) rfl ?_
 refine awp_seq ?_
 refine awp_seq ?_
 refine rn 2 rfl ?_
 refine po (ellen rfl rfl rfl rfl rfl rfl rfl) rfl rfl ?_
 refine on 2 rfl ?_
 rcases ite_inv h with ⟨hc, h⟩ | ⟨hc, h⟩
 ·refine gt rfl rfl rfl rfl hc rfl ?_
  refine on 29 rfl ?_
  refine rz ?_
  refine ct rfl rfl ?_
  refine ra rfl ?_
  refine awp_ret ?_
  refine condQ.ret ?_
  refine seqQ.ret ?_
  cases h
  exact .ret rfl rfl
 ·refine gf rfl rfl rfl rfl hc rfl ?_
  refine on 2 rfl ?_
  refine po (ellen rfl rfl rfl rfl rfl rfl rfl) rfl rfl ?_
  refine on 3 rfl ?_
  rcases ite_inv h with ⟨hc, h⟩ | ⟨hc, h⟩
  ·refine gt rfl rfl rfl rfl hc rfl ?_
   refine on 23 rfl ?_
   refine rz ?_
   refine ct rfl rfl ?_
   refine ra rfl ?_
   refine awp_ret ?_
   refine condQ.ret ?_
   refine seqQ.ret ?_
   cases h
   exact .ret rfl rfl
  ·refine gf rfl rfl rfl rfl hc rfl ?_
   refine on 2 rfl ?_
   obtain ⟨y, hk, h⟩ := bind_inv h
   refine po (elget encCell (fun _ => rfl) hk rfl rfl rfl rfl rfl) rfl rfl ?_
   refine on 5 rfl ?_
   rcases ite_inv h with ⟨hc, h⟩ | ⟨hc, h⟩
   ·refine gt rfl rfl rfl rfl hc rfl ?_
    refine on 15 rfl ?_
    refine rz ?_
    refine ct rfl rfl ?_
    refine ra rfl ?_
    refine awp_ret ?_
    refine condQ.ret ?_
    refine seqQ.ret ?_
    cases h
    exact .ret rfl rfl
   ·refine gf rfl rfl rfl rfl hc rfl ?_
    refine on 2 rfl ?_
    obtain ⟨y1, hk, h⟩ := bind_inv h
    refine po (elget encCell (fun _ => rfl) hk rfl rfl rfl rfl rfl) rfl rfl ?_
    refine on 5 rfl ?_
    rcases ite_inv h with ⟨hc, h⟩ | ⟨hc, h⟩
    ·refine gt rfl rfl rfl rfl hc rfl ?_
     refine on 7 rfl ?_
     refine rz ?_
     refine ct rfl rfl ?_
     refine ra rfl ?_
     refine awp_ret ?_
     refine condQ.ret ?_
     refine seqQ.ret ?_
     cases h
     exact .ret rfl rfl
    ·refine gf rfl rfl rfl rfl hc rfl ?_
     refine on 2 rfl ?_
     obtain ⟨y2, hk, h⟩ := bind_inv h
     refine po (elget encCell (fun _ => rfl) hk rfl rfl rfl rfl rfl) rfl rfl ?_
     refine on 4 rfl ?_
     refine rz ?_
     rcases ite_inv h with ⟨hc, h⟩ | ⟨hc, h⟩
     ·refine ct rfl hc ?_
      refine ra rfl ?_
      refine awp_ret ?_
      refine condQ.ret ?_
      refine seqQ.ret ?_
      cases h
      exact .ret rfl rfl
     ·refine cf rfl hc ?_
      refine awp_skip ?_
      refine cn rfl ?_
      refine seqQ.normal ?_
      refine awp_seq ?_
      refine rn 2 rfl ?_
      obtain ⟨y3, hk, h⟩ := bind_inv h
      refine po (elget encCell (fun _ => rfl) hk rfl rfl rfl rfl rfl) rfl rfl ?_
      refine on 4 rfl ?_
      refine rz ?_
      refine awp_ret ?_
      cases h
      exact .ret rfl rfl
theorem p_grammar_parser_power_ok {i : Int} {p : Grammar_parser} {r : Int × Bool} (h : p_grammar_parser_power i p = some r) : aval X 65 [.ptr 0 0, .d (.int .i64 i)] [[.d (.list 1 (List.map D.str p.g.verbs)), .d (.list 1 (List.map D.str p.g.adverbs)), .d (.list 1 (List.map D.str p.g.behind)), .d (.str p.g.outer), .d (.str p.g.power), .d (.str p.g.open_), .d (.str p.g.close), .d (.str p.g.left), .d (.str p.g.right), .d (.str p.g.minus), .d (.str p.g.quote), .d (.bool p.g.trains), .d (.bool p.g.lone), .d (.bool p.g.square), .d (.list 5 (List.map encToken p.l)), .d (.int .i64 p.i), .d (.int .i64 p.end_), .d (.int .i64 p.deep), .d (.int .i64 p.in_)]] (CRes.ret (.tuple [.d (.int .i64 r.1), .d (.bool r.2)]) [[.d (.list 1 (List.map D.str p.g.verbs)), .d (.list 1 (List.map D.str p.g.adverbs)), .d (.list 1 (List.map D.str p.g.behind)), .d (.str p.g.outer), .d (.str p.g.power), .d (.str p.g.open_), .d (.str p.g.close), .d (.str p.g.left), .d (.str p.g.right), .d (.str p.g.minus), .d (.str p.g.quote), .d (.bool p.g.trains), .d (.bool p.g.lone), .d (.bool p.g.square), .d (.list 5 (List.map encToken p.l)), .d (.int .i64 p.i), .d (.int .i64 p.end_), .d (.int .i64 p.deep), .d (.int .i64 p.in_)]]) := by
 unfold p_grammar_parser_power at h
 refine aval_start (tm := [(0, .c (.ptr 0 0)), (1, .d (.int .i64 i))]) (hp := [(0, [.d (.list 1 (List.map D.str p.g.verbs)), .d (.list 1 (List.map D.str p.g.adverbs)), .d (.list 1 (List.map D.str p.g.behind)), .d (.str p.g.outer), .d (.str p.g.power), .d (.str p.g.open_), .d (.str p.g.close), .d (.str p.g.left), .d (.str p.g.right), .d (.str p.g.minus), .d (.str p.g.quote), .d (.bool p.g.trains), .d (.bool p.g.lone), .d (.bool p.g.square), .d (.list 5 (List.map encToken p.l)), .d (.int .i64 p.i), .d (.int .i64 p.end_), .d (.int .i64 p.deep), .d (.int .i64 p.in_)])]) (n := 1) rfl Tryz.func65 rfl rfl rfl rfl rfl rfl ?_
 refine ra rfl ?_
 refine awp_seq ?_
 refine awp_seq ?_
 refine rn 7 rfl ?_
 obtain ⟨x, hk, h⟩ := bind_inv h
 refine po (ecallb (nid' := 1) (p_grammar_parser_is_ok hk) rfl rfl rfl rfl rfl rfl rfl rfl rfl rfl rfl rfl) rfl rfl ?_
 refine on 2 rfl ?_
 rcases ite_inv h with ⟨hc, h⟩ | ⟨hc, h⟩
 ·refine gt rfl rfl rfl rfl hc rfl ?_
  refine on 21 rfl ?_
  refine rz ?_
  refine ct rfl rfl ?_
  refine ra rfl ?_
  refine awp_ret ?_
  refine condQ.ret ?_
  refine seqQ.ret ?_
  cases h
  exact .ret rfl rfl
 ·refine gf rfl rfl rfl rfl hc rfl ?_
  refine on 6 rfl ?_
  refine po (ellen rfl rfl rfl rfl rfl rfl rfl) rfl rfl ?_
  refine on 3 rfl ?_
  rcases ite_inv h with ⟨hc, h⟩ | ⟨hc, h⟩
  ·refine gt rfl rfl rfl rfl hc rfl ?_
   refine on 11 rfl ?_
   refine rz ?_
   refine ct rfl rfl ?_
   refine ra rfl ?_
   refine awp_ret ?_
   refine condQ.ret ?_
   refine seqQ.ret ?_
   cases h
   exact .ret rfl rfl
  ·refine gf rfl rfl rfl rfl hc rfl ?_
   refine on 6 rfl ?_
   obtain ⟨y, hk, h⟩ := bind_inv h
   refine po (elget encToken (fun _ => rfl) hk rfl rfl rfl rfl rfl) rfl rfl ?_
   refine on 4 rfl ?_
   refine rz ?_
   rcases ite_inv h with ⟨hc, h⟩ | ⟨hc, h⟩
   ·refine ct rfl hc ?_
    refine ra rfl ?_
    refine awp_ret ?_
    refine condQ.ret ?_
    refine seqQ.ret ?_
    cases h
    exact .ret rfl rfl
   ·refine cf rfl hc ?_
    refine awp_skip ?_
    refine cn rfl ?_
    refine seqQ.normal ?_
    refine awp_seq ?_
    refine rn 6 rfl ?_
    obtain ⟨y1, hk, h⟩ := bind_inv h
    refine po (elget encToken (fun _ => rfl) hk rfl rfl rfl rfl rfl) rfl rfl ?_
    refine on 2 rfl ?_
    obtain ⟨⟨x1, x2⟩, hk, h⟩ := bind_inv h
    refine po (ecall (p_grammar_times_ok hk) rfl rfl rfl rfl rfl rfl rfl rfl rfl) rfl rfl ?_
    refine on 4 rfl ?_
    refine rz ?_
    refine awp_ret ?_
    cases h
    exact .ret rfl rfl
theorem p_slices_Index_string_l0_ok : ∀ (a : ((List Str)) × Str × Int) (res : Except (Int) (Unit)), p_slices_Index_string_l0 a = some res → (match a with | (s, v, x) => awpL X 95 (codeAt [1, 0, 1, 0, 0] (bodyOf Tryz.f95)) (cleanAt (X.H 95 2) 0) (exitQ 0 (X.H 95 1000000) 0 (SubQ X Tryz.f95 0 (fun (r : Int) => (CRes.ret (.d (.int .i64 r)) [])) (fun (_ : Unit) => (⟨[], [], 0, [], none⟩ : St)) res)) ⟨[(0, .d (.list 1 (List.map D.str s))), (1, .d (.str v)), (7, .d (.int .i64 (List.length s : Int))), (8, .d (.int .i64 x))], [], 0, [], none⟩) := by
 refine p_slices_Index_string_l0.partial_correctness _ ?_
 rintro p_slices_Index_string_l0' ih ⟨s, v, x⟩ res h
 refine lg rfl ?_
 refine ra rfl ?_
 refine awp_seq ?_
 rcases ite_inv h with ⟨hc, h⟩ | ⟨hc, h⟩
 ·refine ct rfl hc ?_
  refine awp_skip ?_
  refine cn rfl ?_
  refine seqQ.normal ?_
  refine awp_seq ?_
  refine awp_block ?_
  refine ra rfl ?_
  refine awp_seq ?_
  refine rn 3 rfl ?_
  obtain ⟨y, hk, h⟩ := bind_inv h
  refine po (elget D.str (fun _ => rfl) hk rfl rfl rfl rfl rfl) rfl rfl ?_
  refine on 2 rfl ?_
  refine rz ?_
  rcases ite_inv h with ⟨hc, h⟩ | ⟨hc, h⟩
  ·refine ct rfl hc ?_
   refine ra rfl ?_
   refine awp_ret ?_
   refine condQ.ret ?_
   refine exitQ.ret ?_
   refine seqQ.ret ?_
   refine loopQ.ret ?_
   refine exitQ.ret ?_
   cases h
   exact .err rfl (.ret rfl rfl)
  ·refine cf rfl hc ?_
   refine awp_skip ?_
   refine cn rfl ?_
   refine en rfl ?_
   refine seqQ.normal ?_
   refine rn 2 rfl ?_
   refine awpO_nil ?_
   refine loopQ.normal ?_
   exact awpL_at rfl rfl (ih _ _ h)
 ·refine cf rfl hc ?_
  refine awp_exit ?_
  refine condQ.exit ?_
  refine seqQ.exit ?_
  refine loopQ.exit ?_
  refine eh rfl ?_
  cases h
  exact .ok rfl
theorem p_slices_Index_string_ok {s : (List Str)} {v : Str} {r : Int} (h : p_slices_Index_string s v = some r) : aval X 95 [.d (.list 1 (List.map D.str s)), .d (.str v)] [] (CRes.ret (.d (.int .i64 r)) []) := by
 unfold p_slices_Index_string at h
 refine aval_start (tm := [(0, .d (.list 1 (List.map D.str s))), (1, .d (.str v))]) (hp := []) (n := 0) rfl Tryz.func95 rfl rfl rfl rfl rfl rfl ?_
 refine ra rfl ?_
 refine awp_seq ?_
 refine awp_seq ?_
 refine rn 1 rfl ?_
 refine po (ellen rfl rfl rfl rfl rfl rfl rfl) rfl rfl ?_
 refine on 1 rfl ?_
 refine rz ?_
 obtain ⟨res, hs, h⟩ := bind_inv h
 refine awp_sub Tryz.f95 0 (fun (r : Int) => (CRes.ret (.d (.int .i64 r)) [])) (fun (_ : Unit) => (⟨[], [], 0, [], none⟩ : St)) (res := res) ?_ (fun y hy => ?_) (fun r x s' hr hx he => ?_)
 ·replace h := hs
  refine awp_block ?_
  refine awp_loop ?_
  exact awpL_at rfl rfl (p_slices_Index_string_l0_ok _ _ h)
 ·subst hy
  refine seqQ.normal ?_
  refine ra rfl ?_
  refine awp_ret ?_
  cases h
  exact .ret rfl rfl
 ·subst hr
  refine seqQ.out hx ?_
  cases h
  exact he
theorem p_slices_Contains_string_ok {s : (List Str)} {v : Str} {r : Bool} (h : p_slices_Contains_string s v = some r) : aval X 82 [.d (.list 1 (List.map D.str s)), .d (.str v)] [] (CRes.ret (.d (.bool r)) []) := by
 unfold p_slices_Contains_string at h
 refine aval_start (tm := [(0, .d (.list 1 (List.map D.str s))), (1, .d (.str v))]) (hp := []) (n := 0) rfl Tryz.func82 rfl rfl rfl rfl rfl rfl ?_
 refine ra rfl ?_
 refine awp_seq ?_
 refine rn 2 rfl ?_
 obtain ⟨x, hk, h⟩ := bind_inv h
 refine po (ecall (p_slices_Index_string_ok hk) rfl rfl rfl rfl rfl rfl rfl rfl rfl) rfl rfl ?_
 refine on 2 rfl ?_
 refine rz ?_
 refine awp_ret ?_
 cases h
 exact .ret rfl rfl
theorem p_grammar_parser_sign_ok {i : Int} {l : (List Str)} {p : Grammar_parser} {r : Bool} (h : p_grammar_parser_sign i l p = some r) : aval X 62 [.ptr 0 0, .d (.int .i64 i), .d (.list 1 (List.map D.str l))] [[.d (.list 1 (List.map D.str p.g.verbs)), .d (.list 1 (List.map D.str p.g.adverbs)), .d (.list 1 (List.map D.str p.g.behind)), .d (.str p.g.outer), .d (.str p.g.power), .d (.str p.g.open_), .d (.str p.g.close), .d (.str p.g.left), .d (.str p.g.right), .d (.str p.g.minus), .d (.str p.g.quote), .d (.bool p.g.trains), .d (.bool p.g.lone), .d (.bool p.g.square), .d (.list 5 (List.map encToken p.l)), .d (.int .i64 p.i), .d (.int .i64 p.end_), .d (.int .i64 p.deep), .d (.int .i64 p.in_)]] (CRes.ret (.d (.bool r)) [[.d (.list 1 (List.map D.str p.g.verbs)), .d (.list 1 (List.map D.str p.g.adverbs)), .d (.list 1 (List.map D.str p.g.behind)), .d (.str p.g.outer), .d (.str p.g.power), .d (.str p.g.open_), .d (.str p.g.close), .d (.str p.g.left), .d (.str p.g.right), .d (.str p.g.minus), .d (.str p.g.quote), .d (.bool p.g.trains), .d (.bool p.g.lone), .d (.bool p.g.square), .d (.list 5 (List.map encToken p.l)), .d (.int .i64 p.i), .d (.int .i64 p.end_), .d (.int .i64 p.deep), .d (.int .i64 p.in_)]]) := by
 unfold p_grammar_parser_sign at h
 refine aval_start (tm := [(0, .c (.ptr 0 0)), (1, .d (.int .i64 i)), (2, .d (.list 1 (List.map D.str l)))]) (hp := [(0, [.d (.list 1 (List.map D.str p.g.verbs)), .d (.list 1 (List.map D.str p.g.adverbs)), .d (.list 1 (List.map D.str p.g.behind)), .d (.str p.g.outer), .d (.str p.g.power), .d (.str p.g.open_), .d (.str p.g.close), .d (.str p.g.left), .d (.str p.g.right), .d (.str p.g.minus), .d (.str p.g.quote), .d (.bool p.g.trains), .d (.bool p.g.lone), .d (.bool p.g.square), .d (.list 5 (List.map encToken p.l)), .d (.int .i64 p.i), .d (.int .i64 p.end_), .d (.int .i64 p.deep), .d (.int .i64 p.in_)])]) (n := 1) rfl Tryz.func62 rfl rfl rfl rfl rfl rfl ?_
 refine ra rfl ?_
 refine awp_seq ?_
 refine rn 5 rfl ?_
 refine po (ellen rfl rfl rfl rfl rfl rfl rfl) rfl rfl ?_
 refine on 2 rfl ?_
 rcases ite_inv h with ⟨hc, h⟩ | ⟨hc, h⟩
 ·refine gt rfl rfl rfl rfl hc rfl ?_
  refine on 5 rfl ?_
  obtain ⟨y, hk, h⟩ := bind_inv h
  refine po (elget encToken (fun _ => rfl) hk rfl rfl rfl rfl rfl) rfl rfl ?_
  refine on 5 rfl ?_
  rcases ite_inv h with ⟨hc, h⟩ | ⟨hc, h⟩
  ·refine gt rfl rfl rfl rfl hc rfl ?_
   refine on 6 rfl ?_
   obtain ⟨y1, hk, h⟩ := bind_inv h
   refine po (elget encToken (fun _ => rfl) hk rfl rfl rfl rfl rfl) rfl rfl ?_
   refine on 2 rfl ?_
   obtain ⟨x, hk, h⟩ := bind_inv h
   refine po (ecall (p_slices_Contains_string_ok hk) rfl rfl rfl rfl rfl rfl rfl rfl rfl) rfl rfl ?_
   refine on 2 rfl ?_
   refine rz ?_
   refine awp_ret ?_
   cases h
   exact .ret rfl rfl
  ·refine gf rfl rfl rfl rfl hc rfl ?_
   refine on 12 rfl ?_
   refine rz ?_
   refine awp_ret ?_
   cases h
   exact .ret rfl rfl
 ·refine gf rfl rfl rfl rfl hc rfl ?_
  refine on 23 rfl ?_
  refine rz ?_
  refine awp_ret ?_
  cases h
  exact .ret rfl rfl
theorem p_grammar_parser_shut_l0_ok : ∀ (a : Grammar_parser × Int × Int) (res : Except (Int) (Unit)), p_grammar_parser_shut_l0 a = some res → (match a with | (p, n, k) => awpL X 63 (codeAt [1, 1, 0, 1, 0, 0] (bodyOf Tryz.f63)) (cleanAt (X.H 63 3) 1) (exitQ 0 (X.H 63 1000000) 1 (SubQ X Tryz.f63 1 (fun (r : Int) => (CRes.ret (.d (.int .i64 r)) [[.d (.list 1 (List.map D.str p.g.verbs)), .d (.list 1 (List.map D.str p.g.adverbs)), .d (.list 1 (List.map D.str p.g.behind)), .d (.str p.g.outer), .d (.str p.g.power), .d (.str p.g.open_), .d (.str p.g.close), .d (.str p.g.left), .d (.str p.g.right), .d (.str p.g.minus), .d (.str p.g.quote), .d (.bool p.g.trains), .d (.bool p.g.lone), .d (.bool p.g.square), .d (.list 5 (List.map encToken p.l)), .d (.int .i64 p.i), .d (.int .i64 p.end_), .d (.int .i64 p.deep), .d (.int .i64 p.in_)]])) (fun (_ : Unit) => (⟨[], [(0, [.d (.list 1 (List.map D.str p.g.verbs)), .d (.list 1 (List.map D.str p.g.adverbs)), .d (.list 1 (List.map D.str p.g.behind)), .d (.str p.g.outer), .d (.str p.g.power), .d (.str p.g.open_), .d (.str p.g.close), .d (.str p.g.left), .d (.str p.g.right), .d (.str p.g.minus), .d (.str p.g.quote), .d (.bool p.g.trains), .d (.bool p.g.lone), .d (.bool p.g.square), .d (.list 5 (List.map encToken p.l)), .d (.int .i64 p.i), .d (.int .i64 p.end_), .d (.int .i64 p.deep), .d (.int .i64 p.in_)])], 1, [], none⟩ : St)) res)) ⟨[(0, .c (.ptr 0 0)), (5, .d (.int .i64 n)), (6, .d (.int .i64 k))], [(0, [.d (.list 1 (List.map D.str p.g.verbs)), .d (.list 1 (List.map D.str p.g.adverbs)), .d (.list 1 (List.map D.str p.g.behind)), .d (.str p.g.outer), .d (.str p.g.power), .d (.str p.g.open_), .d (.str p.g.close), .d (.str p.g.left), .d (.str p.g.right), .d (.str p.g.minus), .d (.str p.g.quote), .d (.bool p.g.trains), .d (.bool p.g.lone), .d (.bool p.g.square), .d (.list 5 (List.map encToken p.l)), .d (.int .i64 p.i), .d (.int .i64 p.end_), .d (.int .i64 p.deep), .d (.int .i64 p.in_)])], 1, [], none⟩) := by
 refine p_grammar_parser_shut_l0.partial_correctness _ ?_
 rintro p_grammar_parser_shut_l0' ih ⟨p, n, k⟩ res h
 refine lg rfl ?_
 refine awp_seq ?_
 refine awp_seq ?_
 refine rn 5 rfl ?_
 refine po (ellen rfl rfl rfl rfl rfl rfl rfl) rfl rfl ?_
 refine on 1 rfl ?_
 refine rz ?_
 rcases ite_inv h with ⟨hc, h⟩ | ⟨hc, h⟩
 ·refine ct rfl hc ?_
  refine awp_skip ?_
  refine cn rfl ?_
  refine seqQ.normal ?_
  refine awp_seq ?_
  obtain ⟨res, hs, h⟩ := bind_inv h
  refine awp_sub Tryz.f63 1 (fun (r : Int) => (CRes.ret (.d (.int .i64 r)) [[.d (.list 1 (List.map D.str p.g.verbs)), .d (.list 1 (List.map D.str p.g.adverbs)), .d (.list 1 (List.map D.str p.g.behind)), .d (.str p.g.outer), .d (.str p.g.power), .d (.str p.g.open_), .d (.str p.g.close), .d (.str p.g.left), .d (.str p.g.right), .d (.str p.g.minus), .d (.str p.g.quote), .d (.bool p.g.trains), .d (.bool p.g.lone), .d (.bool p.g.square), .d (.list 5 (List.map encToken p.l)), .d (.int .i64 p.i), .d (.int .i64 p.end_), .d (.int .i64 p.deep), .d (.int .i64 p.in_)]])) (fun (n1 : Int) => (⟨[(0, .c (.ptr 0 0)), (5, .d (.int .i64 n1)), (6, .d (.int .i64 k))], [(0, [.d (.list 1 (List.map D.str p.g.verbs)), .d (.list 1 (List.map D.str p.g.adverbs)), .d (.list 1 (List.map D.str p.g.behind)), .d (.str p.g.outer), .d (.str p.g.power), .d (.str p.g.open_), .d (.str p.g.close), .d (.str p.g.left), .d (.str p.g.right), .d (.str p.g.minus), .d (.str p.g.quote), .d (.bool p.g.trains), .d (.bool p.g.lone), .d (.bool p.g.square), .d (.list 5 (List.map encToken p.l)), .d (.int .i64 p.i), .d (.int .i64 p.end_), .d (.int .i64 p.deep), .d (.int .i64 p.in_)])], 1, [], none⟩ : St)) (res := res) ?_ (fun y hy => ?_) (fun r x s' hr hx he => ?_)
  ·replace h := hs
   refine awp_block ?_
   refine awp_seq ?_
   refine rn 5 rfl ?_
   obtain ⟨y, hk, h⟩ := bind_inv h
   refine po (elget encToken (fun _ => rfl) hk rfl rfl rfl rfl rfl) rfl rfl ?_
   refine on 2 rfl ?_
   refine rz ?_
   refine awp_block ?_
   refine ra rfl ?_
   rcases ite_inv h with ⟨hc, h⟩ | ⟨hc, h⟩
   ·refine ct rfl hc ?_
    refine rn 3 rfl ?_
    refine awpO_nil ?_
    refine cn rfl ?_
    refine en rfl ?_
    refine en rfl ?_
    cases h
    exact .ok rfl
   ·refine cf rfl hc ?_
    refine ra rfl ?_
    rcases ite_inv h with ⟨hc, h⟩ | ⟨hc, h⟩
    ·refine ct rfl hc ?_
     refine ra rfl ?_
     refine ra rfl ?_
     rcases ite_inv h with ⟨hc, h⟩ | ⟨hc, h⟩
     ·refine ct rfl hc ?_
      refine ra rfl ?_
      refine awp_ret ?_
      refine condQ.ret ?_
      refine condQ.ret ?_
      refine condQ.ret ?_
      refine exitQ.ret ?_
      refine exitQ.ret ?_
      cases h
      exact .err rfl (.ret rfl rfl)
     ·refine cf rfl hc ?_
      refine awp_skip ?_
      refine cn rfl ?_
      refine cn rfl ?_
      refine cn rfl ?_
      refine en rfl ?_
      refine en rfl ?_
      cases h
      exact .ok rfl
    ·refine cf rfl hc ?_
     refine awp_skip ?_
     refine cn rfl ?_
     refine cn rfl ?_
     refine en rfl ?_
     refine en rfl ?_
     cases h
     exact .ok rfl
  ·subst hy
   obtain n1 := y
   refine seqQ.normal ?_
   refine rn 3 rfl ?_
   refine awpO_nil ?_
   refine loopQ.normal ?_
   exact awpL_at rfl rfl (ih _ _ h)
  ·subst hr
   refine seqQ.out hx ?_
   refine loopQ.out hx ?_
   refine exitQ.out hx ?_
   cases h
   exact .err hx he
 ·refine cf rfl hc ?_
  refine awp_exit ?_
  refine condQ.exit ?_
  refine seqQ.exit ?_
  refine loopQ.exit ?_
  refine eh rfl ?_
  cases h
  exact .ok rfl
theorem p_grammar_parser_shut_ok {i : Int} {p : Grammar_parser} {r : Int} (h : p_grammar_parser_shut i p = some r) : aval X 63 [.ptr 0 0, .d (.int .i64 i)] [[.d (.list 1 (List.map D.str p.g.verbs)), .d (.list 1 (List.map D.str p.g.adverbs)), .d (.list 1 (List.map D.str p.g.behind)), .d (.str p.g.outer), .d (.str p.g.power), .d (.str p.g.open_), .d (.str p.g.close), .d (.str p.g.left), .d (.str p.g.right), .d (.str p.g.minus), .d (.str p.g.quote), .d (.bool p.g.trains), .d (.bool p.g.lone), .d (.bool p.g.square), .d (.list 5 (List.map encToken p.l)), .d (.int .i64 p.i), .d (.int .i64 p.end_), .d (.int .i64 p.deep), .d (.int .i64 p.in_)]] (CRes.ret (.d (.int .i64 r)) [[.d (.list 1 (List.map D.str p.g.verbs)), .d (.list 1 (List.map D.str p.g.adverbs)), .d (.list 1 (List.map D.str p.g.behind)), .d (.str p.g.outer), .d (.str p.g.power), .d (.str p.g.open_), .d (.str p.g.close), .d (.str p.g.left), .d (.str p.g.right), .d (.str p.g.minus), .d (.str p.g.quote), .d (.bool p.g.trains), .d (.bool p.g.lone), .d (.bool p.g.square), .d (.list 5 (List.map encToken p.l)), .d (.int .i64 p.i), .d (.int .i64 p.end_), .d (.int .i64 p.deep), .d (.int .i64 p.in_)]]) := by
 unfold p_grammar_parser_shut at h
 refine aval_start (tm := [(0, .c (.ptr 0 0)), (1, .d (.int .i64 i))]) (hp := [(0, [.d (.list 1 (List.map D.str p.g.verbs)), .d (.list 1 (List.map D.str p.g.adverbs)), .d (.list 1 (List.map D.str p.g.behind)), .d (.str p.g.outer), .d (.str p.g.power), .d (.str p.g.open_), .d (.str p.g.close), .d (.str p.g.left), .d (.str p.g.right), .d (.str p.g.minus), .d (.str p.g.quote), .d (.bool p.g.trains), .d (.bool p.g.lone), .d (.bool p.g.square), .d (.list 5 (List.map encToken p.l)), .d (.int .i64 p.i), .d (.int .i64 p.end_), .d (.int .i64 p.deep), .d (.int .i64 p.in_)])]) (n := 1) rfl Tryz.func63 rfl rfl rfl rfl rfl rfl ?_
 refine ra rfl ?_
 refine ra rfl ?_
 refine awp_seq ?_
 refine ra rfl ?_
 obtain ⟨res, hs, h⟩ := bind_inv h
 refine awp_sub Tryz.f63 1 (fun (r : Int) => (CRes.ret (.d (.int .i64 r)) [[.d (.list 1 (List.map D.str p.g.verbs)), .d (.list 1 (List.map D.str p.g.adverbs)), .d (.list 1 (List.map D.str p.g.behind)), .d (.str p.g.outer), .d (.str p.g.power), .d (.str p.g.open_), .d (.str p.g.close), .d (.str p.g.left), .d (.str p.g.right), .d (.str p.g.minus), .d (.str p.g.quote), .d (.bool p.g.trains), .d (.bool p.g.lone), .d (.bool p.g.square), .d (.list 5 (List.map encToken p.l)), .d (.int .i64 p.i), .d (.int .i64 p.end_), .d (.int .i64 p.deep), .d (.int .i64 p.in_)]])) (fun (_ : Unit) => (⟨[], [(0, [.d (.list 1 (List.map D.str p.g.verbs)), .d (.list 1 (List.map D.str p.g.adverbs)), .d (.list 1 (List.map D.str p.g.behind)), .d (.str p.g.outer), .d (.str p.g.power), .d (.str p.g.open_), .d (.str p.g.close), .d (.str p.g.left), .d (.str p.g.right), .d (.str p.g.minus), .d (.str p.g.quote), .d (.bool p.g.trains), .d (.bool p.g.lone), .d (.bool p.g.square), .d (.list 5 (List.map encToken p.l)), .d (.int .i64 p.i), .d (.int .i64 p.end_), .d (.int .i64 p.deep), .d (.int .i64 p.in_)])], 1, [], none⟩ : St)) (res := res) ?_ (fun y hy => ?_) (fun r x s' hr hx he => ?_)
 ·replace h := hs
  refine awp_block ?_
  refine awp_loop ?_
  exact awpL_at rfl rfl (p_grammar_parser_shut_l0_ok _ _ h)
 ·subst hy
  refine seqQ.normal ?_
  refine ra rfl ?_
  refine awp_ret ?_
  cases h
  exact .ret rfl rfl
 ·subst hr
  refine seqQ.out hx ?_
  cases h
  exact he
end Go.AM.Seat
