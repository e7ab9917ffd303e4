/- Part of a proof about the given program: the abstract machine, the printed functions, the plain laws. (AMPrint, AMPrint2, AMFields, AMTypes, AMExt, AMArr, T0, T1, AMRow, TR0, TN1, TN2, TN3, TN4, TN5, TN6, TN7, TN8, TN9, TFjlex_at, TFjlex_digit, TFjlex_begins, TFjlex_letter, TFjlex_name, TFarr_Atom, TFarr_Nums, TFjlex_number, TFjlex_numbers, TFarr_Text, TFrunes_Good, TFrunes_first, TFrunes_put_nil, TFrunes_One, TFjlex_text, TFjlex_words, TFstringslite_HasPrefix, TFstrings_HasPrefix, TFjlex_word, TFjlex_Lex) -/
import Derived.Test.YtbhjnlilfidalaaDoorA2
import Derived.Shelf.Strings.Fields
import Derived.Shelf.Strings.OnBuilder
import Derived.Shelf.Strings.IndexAnyAll
import Derived.Shelf.Small.Strs
import Derived.Test.YtbhjnlilfidalaaDoorProg
import Derived.KernelRfl
import Derived.ChangeSlices
import Derived.Lib.LaidTab
import Derived.LaidSub
import Derived.MakeChecks
import Derived.Test.YtbhjnlilfidalaaDoorRows
set_option linter.all false
set_option linter.unusedSectionVars false
set_option linter.unusedVariables false
set_option linter.unusedSimpArgs false

namespace Go.AM
open Go
abbrev Str := List UInt8
def lget {α : Type} (l : List α) (i : Int) : Option α := if 0 ≤ i then l[i.toNat]? else none
def sget (s : Str) (i : Int) : Option Int := if 0 ≤ i then (s[i.toNat]?).map fun b => (b.toNat : Int) else none
def sfrom (s : Str) (lo : Int) : Option Str := if 0 ≤ lo ∧ lo.toNat ≤ s.length then some (s.drop lo.toNat) else none
def sto (s : Str) (hi : Int) : Option Str := if 0 ≤ hi ∧ hi.toNat ≤ s.length then some (s.take hi.toNat) else none
def lmid {α : Type} (s : List α) (lo hi : Int) : Option (List α) := if 0 ≤ lo ∧ lo ≤ hi ∧ hi.toNat ≤ s.length then some ((s.take hi.toNat).drop lo.toNat) else none
def lapp {α : Type} (l m : List α) : Option (List α) := if l.length + m.length ≤ 4294967296 then some (l ++ m) else none
def scat (a b : Str) : Option Str := if a.length + b.length ≤ 1099511627776 then some (a ++ b) else none
def u8I (b : UInt8) : Int := b.toNat
def sbytes (s : Str) : Option (List Int) := if s.length ≤ 1099511627776 then some (s.map u8I) else none
def bstr (l : List Int) : Str := l.map fun n => UInt8.ofNat n.toNat
def w64 (x : Int) : Int := IntKind.i64.wrap x
theorem ite_inv {α : Type} {c : Bool} {a b : Option α} {r : α} (h : (if c = true then a else b) = some r) : (c = true ∧ a = some r) ∨ (c = false ∧ b = some r) := by
 cases c with
 | true => exact .inl ⟨rfl, h⟩
 | false => exact .inr ⟨rfl, h⟩
theorem bind_inv {α β : Type} {x : Option α} {k : α → Option β} {r : β} (h : (x >>= k) = some r) : ∃ y, x = some y ∧ k y = some r := by
 cases x with
 | none => cases h
 | some y => exact ⟨y, rfl, h⟩
def noCall : Call := fun _ _ _ => none
theorem doCall_noCall (f : Nat) (args : List C) (s : St) : doCall noCall f args s = none := by
 unfold doCall
 split
 ·rfl
 ·split <;> rfl
theorem evOp_noCall {P : Program} {id : Nat} {o : Oper} {s : St} {r : ORes × Foot} (h : evOp P noCall id o s = some r) (call : Call) : evOp P call id o s = some r := by
 unfold evOp at h ⊢
 cases ho : o.op with
 | call c =>
  simp only [ho] at h ⊢
  cases hc : c.callee with
  | value f =>
   simp only [hc] at h
   split at h
   ·rw [doCall_noCall] at h; simp at h
   ·simp at h
  | builtin b => cases b <;> (simp only [hc] at h ⊢; exact h)
  | invoke a b => simp [hc] at h
 | makeMap t r => cases r <;> (simp only [ho] at h ⊢; exact h)
 | _ => simp only [ho] at h ⊢; exact h
def copyL {α β : Type} : List α → (List α → β) → β
 | [], k => k []
 | x :: r, k => copyL r fun r => k (x :: r)
theorem copyL_eq {α β : Type} : ∀ {l : List α} {k : List α → β}, copyL l k = k l
 | [], _ => rfl
 | x :: r, k => by simp only [copyL, copyL_eq]
def putK {α : Type} (dst : Option Nat) (v : V) (tm : List (Nat × V)) (k : List (Nat × V) → Option α) : Option α := match dst with
 | none => copyL tm k
 | some d => match v with
  | .c (.own sz xs) => unviewK (.tmp d) tm fun r => k ((d, .c (.own sz xs)) :: r)
  | v => copyL tm fun tm => k ((d, v) :: tm)
theorem putK_eq {α : Type} {dst : Option Nat} {v : V} {s : St} {k : List (Nat × V) → Option α} : putK dst v s.tmps k = k (putSt dst v s).tmps := by
 cases dst with
 | none => simp only [putK, putSt, copyL_eq]
 | some d =>
  cases v with
  | c x => cases x <;> simp only [putK, putSt, setTmp, unviewK_eq, copyL_eq]
  | _ => simp only [putK, putSt, setTmp, copyL_eq]
theorem putSt_rest (dst : Option Nat) (v : V) (s : St) : putSt dst v s = ⟨(putSt dst v s).tmps, s.heap, s.nid, s.defers, s.pan⟩ := by
 cases dst <;> rfl
def copyHp {β : Type} : List (Nat × List C) → (List (Nat × List C) → β) → β
 | [], k => k []
 | (b, cs) :: r, k => copyL cs fun cs => copyHp r fun r => k ((b, cs) :: r)
theorem copyHp_eq {β : Type} : ∀ {l : List (Nat × List C)} {k : List (Nat × List C) → β}, copyHp l k = k l
 | [], _ => rfl
 | (b, cs) :: r, k => by simp only [copyHp, copyL_eq, copyHp_eq]
def isDefer (o : Oper) : Bool := match o.op with
 | .defer _ | .makeMap _ _ | .insert _ _ _ _ | .mapUpdate _ _ _ _ => true
 | _ => false
theorem evOp_rest {P : Program} {call : Call} {id : Nat} {o : Oper} {tm : List (Nat × V)} {hp : List (Nat × List C)} {nid : Nat} {df : List (Nat × List Nat)} {pn : Option D} {v : V} {s' : St} {ft : Foot} (hc : call = noCall) (hid : makesBlk o = true → id = nid)
  (h : evOp P call id o ⟨tm, hp, nid, df, pn⟩ = some (.val v s', ft)) (hd : isDefer o = false) :
  s' = ⟨s'.tmps, s'.heap, (match makesBlk o with | true => nid + 1 | false => nid), df, pn⟩ := by
 subst hc
 unfold evOp at h
 cases ho : o.op with
 | assign x =>
  simp only [ho] at h
  simp only [makesBlk, ho]
  split at h
  ·split at h
   ·simp only [Option.some.injEq, Prod.mk.injEq, ORes.val.injEq] at h
    obtain ⟨⟨_, rfl⟩, _⟩ := h; rfl
   ·simp at h
  ·simp only [Option.some.injEq, Prod.mk.injEq, ORes.val.injEq] at h
   obtain ⟨⟨_, rfl⟩, _⟩ := h; rfl
  ·simp only [Option.some.injEq, Prod.mk.injEq, ORes.val.injEq] at h
   obtain ⟨⟨_, rfl⟩, _⟩ := h; rfl
  ·simp only [Option.some.injEq, Prod.mk.injEq, ORes.val.injEq] at h
   obtain ⟨⟨_, rfl⟩, _⟩ := h; rfl
  ·simp only [Option.some.injEq, Prod.mk.injEq, ORes.val.injEq] at h
   obtain ⟨⟨_, rfl⟩, _⟩ := h; rfl
  ·simp at h
 | store t x y =>
  simp only [ho] at h
  simp only [makesBlk, ho]
  repeat' (first | (split at h) | (simp at h; done))
  all_goals first
   | (simp at h; done)
   | (simp only [Option.some.injEq, Prod.mk.injEq, ORes.val.injEq] at h; obtain ⟨⟨_, rfl⟩, _⟩ := h; rfl)
 | defer c => simp [isDefer, ho] at hd
 | makeMap t r => simp [isDefer, ho] at hd
 | insert t m k x => simp [isDefer, ho] at hd
 | mapUpdate t m k x => simp [isDefer, ho] at hd
 | panic x =>
  simp only [ho] at h
  split at h <;> simp at h
 | call c =>
  simp only [ho] at h
  simp only [makesBlk, ho]
  split at h
  ·split at h
   ·split at h
    ·rename_i hap
     simp only [Option.some.injEq, Prod.mk.injEq, ORes.val.injEq] at h
     obtain ⟨⟨_, rfl⟩, _⟩ := h
     unfold doAppend at hap
     repeat' (first | (split at hap) | (simp at hap; done))
     all_goals first
      | (simp at hap; done)
      | (simp only [Option.some.injEq, Prod.mk.injEq] at hap; obtain ⟨_, rfl⟩ := hap; rfl)
    ·simp at h
   ·simp at h
  ·split at h
   ·simp only [Option.some.injEq, Prod.mk.injEq, ORes.val.injEq] at h
    obtain ⟨⟨_, rfl⟩, _⟩ := h; rfl
   ·simp at h
  ·split at h
   ·rw [doCall_noCall] at h; simp at h
   ·simp at h
  ·simp at h
 | makeSlice t l c =>
  simp only [ho] at h
  split at h
  ·rename_i hev
   simp only [Option.some.injEq, Prod.mk.injEq, ORes.val.injEq] at h
   obtain ⟨⟨_, rfl⟩, _⟩ := h
   have hm : makesBlk o = false := by
    cases hs : sameTmp l c with
    | false => simp [makesBlk, ho, hs]
    | true =>
     exfalso
     simp only [evR, ho, hs, if_true] at hev
     repeat' (first | (split at hev) | (simp at hev; done))
   rw [hm]
  ·split at h
   ·rename_i hev _
    simp only [Option.some.injEq, Prod.mk.injEq, ORes.val.injEq] at h
    obtain ⟨⟨_, rfl⟩, _⟩ := h
    by_cases hm : makesBlk o = true
    ·rw [hm, hid hm]
    ·haveI : Globs := ⟨[]⟩
     exact absurd hev (evR_none (by simpa using hm))
   ·simp at h
  ·simp at h
 | _ =>
  simp only [ho] at h
  split at h
  ·rename_i hev
   simp only [Option.some.injEq, Prod.mk.injEq, ORes.val.injEq] at h
   obtain ⟨⟨_, rfl⟩, _⟩ := h
   first
    | (simp only [makesBlk, ho]; done)
    | (exfalso; simp only [evR, ho] at hev; repeat' (first | (split at hev) | (simp at hev; done)))
    | rfl
  ·split at h
   ·rename_i hev _
    simp only [Option.some.injEq, Prod.mk.injEq, ORes.val.injEq] at h
    obtain ⟨⟨_, rfl⟩, _⟩ := h
    by_cases hm : makesBlk o = true
    ·rw [hm, hid hm]
    ·haveI : Globs := ⟨[]⟩
     exact absurd hev (evR_none (by simpa using hm))
   ·simp at h
  ·simp at h
def opsK {α : Type} (P : Program) (ops : Array Oper) : Nat → List Oper → List (Nat × V) → List (Nat × List C) → Nat → List (Nat × List Nat) → Option D → (List Oper → List (Nat × V) → List (Nat × List C) → Nat → List (Nat × List Nat) → Option D → Option α) → Option α
 | 0, l, tm, hp, nid, df, pn, k => k l tm hp nid df pn
 | _ + 1, [], _, _, _, _, _, _ => none
 | n + 1, o :: l, tm, hp, nid, df, pn, k => match wantedAt ops tm o with
  | none => none
  | some false => putK o.dst (.c .undef) tm fun tm => opsK P ops n l tm hp nid df pn k
  | some true => match isDefer o with
   | true => none
   | false => match evOp P noCall nid o ⟨tm, hp, nid, df, pn⟩ with
    | some (.val v s', _) => putK o.dst v s'.tmps fun tm => copyHp s'.heap fun hp => match makesBlk o with
     | true => opsK P ops n l tm hp (nid + 1) df pn k
     | false => opsK P ops n l tm hp nid df pn k
    | _ => none
section
variable {X : Ctx} {f : Nat} {Q : AX → St → Prop} {tm tm' : List (Nat × V)} {hp hp' : List (Nat × List C)} {nid nid' : Nat} {df : List (Nat × List Nat)} {pn : Option D}
theorem opsK_sound {α : Type} {ops : Array Oper} : ∀ {n : Nat} {l : List Oper} {tm : List (Nat × V)} {hp : List (Nat × List C)} {nid : Nat} {df : List (Nat × List Nat)} {pn : Option D} {k : List Oper → List (Nat × V) → List (Nat × List C) → Nat → List (Nat × List Nat) → Option D → Option α} {a : α},
  opsK X.P ops n l tm hp nid df pn k = some a → ∃ l' tm' hp' nid' df' pn', k l' tm' hp' nid' df' pn' = some a ∧ (awpO X ops l' Q ⟨tm', hp', nid', df', pn'⟩ → awpO X ops l Q ⟨tm, hp, nid, df, pn⟩)
 | 0, l, tm, hp, nid, df, pn, k, a, h => by
  simp only [opsK] at h
  exact ⟨l, tm, hp, nid, df, pn, h, fun h => h⟩
 | n + 1, [], tm, hp, nid, df, pn, k, a, h => by simp [opsK] at h
 | n + 1, o :: l, tm, hp, nid, df, pn, k, a, h => by
  simp only [opsK] at h
  split at h
  ·simp at h
  ·rename_i hw
   rw [show tm = (⟨tm, hp, nid, df, pn⟩ : St).tmps from rfl, putK_eq] at h
   obtain ⟨l', tm', hp', nid', df', pn', h1, h2⟩ := opsK_sound h
   refine ⟨l', tm', hp', nid', df', pn', h1, fun hh => awpO_skip hw ?_⟩
   have := h2 hh
   rw [putDst, putSt_rest]
   exact this
  ·rename_i hw
   split at h
   ·simp at h
   ·rename_i hd
    split at h
    ·rename_i v s' ft hev
     have hr := evOp_rest rfl (fun _ => rfl) hev hd
     rw [putK_eq, copyHp_eq] at h
     cases hm : makesBlk o with
     | true =>
      simp only [hm] at h hr
      obtain ⟨l', tm', hp', nid', df', pn', h1, h2⟩ := opsK_sound h
      refine ⟨l', tm', hp', nid', df', pn', h1, fun hh => awpO_rfl hw (fun call => evOp_noCall hev call) ?_⟩
      have := h2 hh
      rw [putDst, putSt_rest]
      rw [hr] at this ⊢
      exact this
     | false =>
      simp only [hm] at h hr
      obtain ⟨l', tm', hp', nid', df', pn', h1, h2⟩ := opsK_sound h
      refine ⟨l', tm', hp', nid', df', pn', h1, fun hh => awpO_rfl hw (fun call => evOp_noCall hev call) ?_⟩
      have := h2 hh
      rw [putDst, putSt_rest]
      rw [hr] at this ⊢
      exact this
    ·simp at h
def finK (l : List Oper) (tm : List (Nat × V)) (hp : List (Nat × List C)) (nid : Nat) (df : List (Nat × List Nat)) (pn : Option D) : Option (List Oper × List (Nat × V) × List (Nat × List C) × Nat × List (Nat × List Nat) × Option D) := some (l, tm, hp, nid, df, pn)
variable {df' : List (Nat × List Nat)} {pn' : Option D}
theorem on (n : Nat) {ops : Array Oper} {l l' : List Oper} (h : opsK X.P ops n l tm hp nid df pn finK = some (l', tm', hp', nid', df', pn')) (hh : awpO X ops l' Q ⟨tm', hp', nid', df', pn'⟩) : awpO X ops l Q ⟨tm, hp, nid, df, pn⟩ := by
 obtain ⟨_, _, _, _, _, _, h1, h2⟩ := opsK_sound (Q := Q) h
 simp only [finK, Option.some.injEq, Prod.mk.injEq] at h1
 obtain ⟨rfl, rfl, rfl, rfl, rfl, rfl⟩ := h1
 exact h2 hh
theorem rn (n : Nat) {id : Nat} {ops : Array Oper} {l' : List Oper} (h : keepK (X.H f id) tm (fun tm => opsK X.P ops n ops.toList tm hp nid df pn finK) = some (l', tm', hp', nid', df', pn')) (hh : awpO X ops l' Q ⟨tm', hp', nid', df', pn'⟩) (hz : noF (X.H f id) = true := by rfl) :
  awp X f (.region id ops false) Q ⟨tm, hp, nid, df, pn⟩ := by
 rw [keepK_eq] at h
 exact awp_region hz (on n h hh)
theorem rnF (n : Nat) {id : Nat} {ops : Array Oper} {l' : List Oper} {tm0 : List (Nat × V)} {hp0 : List (Nat × List C)} (hz : frz (X.H f id) ⟨tm, hp, nid, df, pn⟩ = some ⟨tm0, hp0, nid, df, pn⟩) (h : keepK (X.H f id) tm0 (fun tm => opsK X.P ops n ops.toList tm hp0 nid df pn finK) = some (l', tm', hp', nid', df', pn')) (hh : awpO X ops l' Q ⟨tm', hp', nid', df', pn'⟩) :
  awp X f (.region id ops false) Q ⟨tm, hp, nid, df, pn⟩ := by
 rw [keepK_eq] at h
 exact awp_regionF hz (on n h hh)
theorem ra {id : Nat} {ops : Array Oper} {b : Code} (h : keepK (X.H f id) tm (fun tm => opsK X.P ops ops.size ops.toList tm hp nid df pn finK) = some ([], tm', hp', nid', df', pn')) (hh : awp X f b Q ⟨tm', hp', nid', df', pn'⟩) (hz : noF (X.H f id) = true := by rfl) :
  awp X f (.seq (.region id ops false) b) Q ⟨tm, hp, nid, df, pn⟩ :=
 awp_seq (rn _ h (awpO_nil (.normal hh)) hz)
theorem rz {ops : Array Oper} {b : Code} (hh : awp X f b Q ⟨tm, hp, nid, df, pn⟩) : awpO X ops [] (seqQ X f b Q) ⟨tm, hp, nid, df, pn⟩ := awpO_nil (.normal hh)
theorem ct {o : Operand} {a b : Code} {c : Bool} (hc : ev tm o = some (.c (.d (.bool c)))) (e : c = true) (h : awp X f a (condQ (X.H f (condKey a b)) nid Q) ⟨tm, hp, nid, df, pn⟩) : awp X f (.cond o a b) Q ⟨tm, hp, nid, df, pn⟩ :=
 awp_cond hc (fun _ => h) (fun e' => by rw [e] at e'; cases e')
theorem cf {o : Operand} {a b : Code} {c : Bool} (hc : ev tm o = some (.c (.d (.bool c)))) (e : c = false) (h : awp X f b (condQ (X.H f (condKey a b)) nid Q) ⟨tm, hp, nid, df, pn⟩) : awp X f (.cond o a b) Q ⟨tm, hp, nid, df, pn⟩ :=
 awp_cond hc (fun e' => by rw [e] at e'; cases e') (fun _ => h)
theorem gt {ops : Array Oper} {o q : Oper} {l : List Oper} {j d : Nat} {want b : Bool} (hg : o.guard = some (j, want)) (hq : ops[j]? = some q) (hd : q.dst = some d) (hl : look d tm = some (.c (.d (.bool b)))) (e : b = true)
  (e1 : setBK d true tm some = some tm') (h : awpO X ops (o :: l) Q ⟨tm', hp, nid, df, pn⟩) : awpO X ops (o :: l) Q ⟨tm, hp, nid, df, pn⟩ := by
 have _ := hg; have _ := hq; have _ := hd
 subst e
 rw [setBK_eq hl, Option.some.injEq] at e1
 rw [e1]; exact h
theorem gf {ops : Array Oper} {o q : Oper} {l : List Oper} {j d : Nat} {want b : Bool} (hg : o.guard = some (j, want)) (hq : ops[j]? = some q) (hd : q.dst = some d) (hl : look d tm = some (.c (.d (.bool b)))) (e : b = false)
  (e1 : setBK d false tm some = some tm') (h : awpO X ops (o :: l) Q ⟨tm', hp, nid, df, pn⟩) : awpO X ops (o :: l) Q ⟨tm, hp, nid, df, pn⟩ := by
 have _ := hg; have _ := hq; have _ := hd
 subst e
 rw [setBK_eq hl, Option.some.injEq] at e1
 rw [e1]; exact h
theorem lget_some {α : Type} {l : List α} {i : Int} {x : α} (h : lget l i = some x) : 0 ≤ i ∧ l[i.toNat]? = some x := by
 unfold lget at h
 split at h
 ·exact ⟨by assumption, h⟩
 ·cases h
def EvO (X : Ctx) (o : Oper) (s : St) (v : V) (s1 : St) (ft : Foot) : Prop := Evt fun k => evOp X.P (X.call k) s.nid o s = some (.val v s1, ft)
theorem po {ops : Array Oper} {o : Oper} {l : List Oper} {v : V} {tm1 : List (Nat × V)} {hp1 : List (Nat × List C)} {ft : Foot} {nid1 : Nat} (hop : EvO X o ⟨tm, hp, nid, df, pn⟩ v ⟨tm1, hp1, nid1, df, pn⟩ ft) (hw : wantedAt ops tm o = some true)
  (hk : putK o.dst v tm1 (fun tm => copyHp hp1 fun hp => some (tm, hp)) = some (tm', hp')) (h : awpO X ops l Q ⟨tm', hp', nid1, df, pn⟩) : awpO X ops (o :: l) Q ⟨tm, hp, nid, df, pn⟩ := by
 refine awpO_op (s := ⟨tm, hp, nid, df, pn⟩) hw hop ?_
 rw [show tm1 = (⟨tm1, hp1, nid1, df, pn⟩ : St).tmps from rfl, putK_eq, copyHp_eq] at hk
 simp only [Option.some.injEq, Prod.mk.injEq] at hk
 obtain ⟨rfl, rfl⟩ := hk
 rw [putDst, putSt_rest]
 exact h
def copyLc {β : Type} : List Lc → (List Lc → β) → β
 | [], k => k []
 | x :: r, k => match x with
  | .tmp a => copyLc r fun r => k (.tmp a :: r)
  | .blk a => copyLc r fun r => k (.blk a :: r)
  | .nid => copyLc r fun r => k (.nid :: r)
  | .defs => copyLc r fun r => k (.defs :: r)
  | .vb a => copyLc r fun r => k (.vb a :: r)
  | .vt a => copyLc r fun r => k (.vt a :: r)
theorem copyLc_eq {β : Type} : ∀ {l : List Lc} {k : List Lc → β}, copyLc l k = k l
 | [], _ => rfl
 | x :: r, k => by cases x <;> simp only [copyLc, copyLc_eq]
def fpK {β : Type} (f : Fp) (k : Fp → β) : β := match f with
 | ⟨rd, wr, refs, all⟩ => copyLc rd fun rd => copyLc wr fun wr => copyL refs fun refs => match all with
  | true => k ⟨rd, wr, refs, true⟩
  | false => k ⟨rd, wr, refs, false⟩
theorem fpK_eq {β : Type} {f : Fp} {k : Fp → β} : fpK f k = k f := by
 obtain ⟨rd, wr, refs, all⟩ := f
 simp only [fpK, copyLc_eq, copyL_eq]
 cases all <;> rfl
theorem putD_rest {dst : Option Nat} {v : V} {tm1 : List (Nat × V)} {hp1 : List (Nat × List C)} {s2 : St} (h : putD dst v ⟨tm1, hp1, nid, df, pn⟩ = some s2) : s2 = ⟨s2.tmps, s2.heap, nid, df, pn⟩ := by
 cases dst with
 | none => simp only [putD, Option.some.injEq] at h; subst h; rfl
 | some d =>
  simp only [putD] at h
  split at h
  ·simp only [Option.some.injEq] at h; subst h; rfl
  ·simp at h
theorem pd {ops : Array Oper} {vs : List Nat} {base i i' : Nat} {pre pre' : List Fp} {o : Oper} {l : List Oper} {v : V} {tm1 : List (Nat × V)} {hp1 : List (Nat × List C)} {ft : Foot} {nid1 : Nat} (hop : EvO X o ⟨tm, hp, nid, df, pn⟩ v ⟨tm1, hp1, nid1, df, pn⟩ ft) (hw : wantedAt ops tm o = some true) (hm : makesBlk o = false)
  (hk : (putD o.dst (calmAt vs o.dst v) ⟨tm1, hp1, nid1, df, pn⟩).bind (fun s2 => copyL s2.tmps fun tm => copyHp s2.heap fun hp => some (tm, hp)) = some (tm', hp'))
  (hf : fpK ((fpOf ops o ⟨tm, hp, nid, df, pn⟩ (calmAt vs o.dst v) ⟨tm1, hp1, nid1, df, pn⟩ ft).fill ⟨tm', hp', nid1, df, pn⟩) (fun fp => copyL (pre ++ [fp]) some) = some pre') (hi : i + 1 = i')
  (h : awpD X ops vs base pre' l i' Q ⟨tm', hp', nid1, df, pn⟩) : awpD X ops vs base pre (o :: l) i Q ⟨tm, hp, nid, df, pn⟩ := by
 rw [fpK_eq, copyL_eq, Option.some.injEq] at hf
 subst hi hf
 rw [Option.bind_eq_some_iff] at hk
 obtain ⟨s2, h2, hk⟩ := hk
 rw [copyL_eq, copyHp_eq] at hk
 simp only [Option.some.injEq, Prod.mk.injEq] at hk
 have hs2 := putD_rest h2
 obtain ⟨rfl, rfl⟩ := hk
 rw [← hs2] at h
 exact awpD_ev (s := ⟨tm, hp, nid, df, pn⟩) hw hm hop h2 h
def dopsK {α : Type} (P : Program) (ops : Array Oper) (vs : List Nat) (base : Nat) (nid : Nat) (df : List (Nat × List Nat)) (pn : Option D) : Nat → List Oper → Nat → List Fp → List (Nat × V) → List (Nat × List C) → (List Oper → Nat → List Fp → List (Nat × V) → List (Nat × List C) → Option α) → Option α
 | 0, l, i, pre, tm, hp, k => copyL pre fun pre => k l i pre tm hp
 | _ + 1, [], _, _, _, _, _ => none
 | n + 1, o :: l, i, pre, tm, hp, k => match wantedAt ops tm o with
  | none => none
  | some false => match putD o.dst (.c .undef) ⟨tm, hp, nid, df, pn⟩ with
   | some s1 => copyL s1.tmps fun tm => copyHp s1.heap fun hp => fpK (Fp.fill ⟨(readsOf ops o).map .tmp, dstLc o.dst (.c .undef), [], false⟩ ⟨tm, hp, nid, df, pn⟩) fun fp => dopsK P ops vs base nid df pn n l (i + 1) (pre ++ [fp]) tm hp k
   | none => none
  | some true => match isDefer o with
   | true => none
   | false => match drawOp P noCall ops vs (base + i) o ⟨tm, hp, nid, df, pn⟩ with
    | some (.val v s1, ft) => match putD o.dst v s1 with
     | some s2 => copyL s2.tmps fun tm => copyHp s2.heap fun hp => fpK (ft.fill ⟨tm, hp, nid, df, pn⟩) fun fp => dopsK P ops vs base nid df pn n l (i + 1) (pre ++ [fp]) tm hp k
     | none => none
    | _ => none
theorem drawOp_rest {P : Program} {ops : Array Oper} {vs : List Nat} {id : Nat} {o : Oper} {tm : List (Nat × V)} {hp : List (Nat × List C)} {nid : Nat} {df : List (Nat × List Nat)} {pn : Option D} {v : V} {s1 : St} {ft : Fp}
  (h : drawOp P noCall ops vs id o ⟨tm, hp, nid, df, pn⟩ = some (.val v s1, ft)) (hd : isDefer o = false) : s1 = ⟨s1.tmps, s1.heap, nid, df, pn⟩ := by
 unfold drawOp at h
 split at h
 ·unfold drawNew at h
  split at h
  ·split at h
   ·split at h
    ·simp at h
    ·simp only [Option.some.injEq, Prod.mk.injEq, ORes.val.injEq] at h
     obtain ⟨⟨_, rfl⟩, _⟩ := h; rfl
   ·simp at h
  ·simp at h
 ·rename_i hm
  unfold drawOld at h
  split at h
  ·rename_i hev
   simp only [Option.some.injEq, Prod.mk.injEq, ORes.val.injEq] at h
   obtain ⟨⟨_, rfl⟩, _⟩ := h
   have := evOp_rest rfl (fun e => absurd e hm) hev hd
   simp only [Bool.not_eq_true] at hm
   simpa only [hm] using this
  ·simp at h
  ·simp at h
theorem drawOp_noCall {P : Program} {ops : Array Oper} {vs : List Nat} {id : Nat} {o : Oper} {s s1 : St} {v : V} {ft : Fp} (h : drawOp P noCall ops vs id o s = some (.val v s1, ft)) (call : Call) : drawOp P call ops vs id o s = some (.val v s1, ft) := by
 unfold drawOp at h ⊢
 split at h
 ·rename_i hm
  rw [if_pos hm]; exact h
 ·rename_i hm
  rw [if_neg hm]
  unfold drawOld at h ⊢
  split at h
  ·rename_i hev
   rw [evOp_noCall hev call]; exact h
  ·simp at h
  ·simp at h
theorem dopsK_sound {α : Type} {ops : Array Oper} {vs : List Nat} {base : Nat} : ∀ {n : Nat} {l : List Oper} {i : Nat} {pre : List Fp} {tm : List (Nat × V)} {hp : List (Nat × List C)} {k : List Oper → Nat → List Fp → List (Nat × V) → List (Nat × List C) → Option α} {a : α},
  dopsK X.P ops vs base nid df pn n l i pre tm hp k = some a → ∃ l' i' pre' tm' hp', k l' i' pre' tm' hp' = some a ∧ (awpD X ops vs base pre' l' i' Q ⟨tm', hp', nid, df, pn⟩ → awpD X ops vs base pre l i Q ⟨tm, hp, nid, df, pn⟩)
 | 0, l, i, pre, tm, hp, k, a, h => by
  simp only [dopsK, copyL_eq] at h
  exact ⟨l, i, pre, _, _, h, fun h => h⟩
 | n + 1, [], i, pre, tm, hp, k, a, h => by simp [dopsK] at h
 | n + 1, o :: l, i, pre, tm, hp, k, a, h => by
  simp only [dopsK, copyL_eq, copyHp_eq, fpK_eq] at h
  split at h
  ·simp at h
  ·rename_i hw
   split at h
   ·rename_i s1 hp
    have hr := putD_rest hp
    obtain ⟨l', i', pre', tm', hp', h1, h2⟩ := dopsK_sound h
    refine ⟨l', i', pre', tm', hp', h1, fun hh => awpD_skip hw hp ?_⟩
    have := h2 hh
    rw [← hr] at this
    exact this
   ·simp at h
  ·rename_i hw
   split at h
   ·simp at h
   ·rename_i hd
    split at h
    ·rename_i v s1 ft hop
     have hr1 := drawOp_rest hop hd
     split at h
     ·rename_i s2 hp
      have hr : s2 = ⟨s2.tmps, s2.heap, nid, df, pn⟩ := by
       rw [hr1] at hp
       exact putD_rest hp
      obtain ⟨l', i', pre', tm', hp', h1, h2⟩ := dopsK_sound h
      refine ⟨l', i', pre', tm', hp', h1, fun hh => awpD_rfl hw (fun call => drawOp_noCall hop call) hp ?_⟩
      have := h2 hh
      rw [← hr] at this
      exact this
     ·simp at h
    ·simp at h
def dfinK (l : List Oper) (i : Nat) (pre : List Fp) (tm : List (Nat × V)) (hp : List (Nat × List C)) : Option (List Oper × Nat × List Fp × List (Nat × V) × List (Nat × List C)) := some (l, i, pre, tm, hp)
theorem don (n : Nat) {ops : Array Oper} {vs : List Nat} {base i i' : Nat} {pre pre' : List Fp} {l l' : List Oper} (h : dopsK X.P ops vs base nid df pn n l i pre tm hp dfinK = some (l', i', pre', tm', hp'))
  (hh : awpD X ops vs base pre' l' i' Q ⟨tm', hp', nid, df, pn⟩) : awpD X ops vs base pre l i Q ⟨tm, hp, nid, df, pn⟩ := by
 obtain ⟨_, _, _, _, _, h1, h2⟩ := dopsK_sound (Q := Q) h
 simp only [dfinK, Option.some.injEq, Prod.mk.injEq] at h1
 obtain ⟨rfl, rfl, rfl, rfl, rfl⟩ := h1
 exact h2 hh
theorem drn (n : Nat) {id i' m : Nat} {ops : Array Oper} {pre' : List Fp} {l' : List Oper} (hn : nid + ops.size = m)
  (h : keepK (X.H f id) tm (fun tm => dopsK X.P ops (appended? ops) nid m df pn n ops.toList 0 [] tm hp dfinK) = some (l', i', pre', tm', hp')) (hh : awpD X ops (appended? ops) nid pre' l' i' Q ⟨tm', hp', m, df, pn⟩) (hz : noF (X.H f id) = true := by rfl) :
  awp X f (.region id ops true) Q ⟨tm, hp, nid, df, pn⟩ := by
 rw [keepK_eq] at h
 subst hn
 exact awp_draw hz (don n h hh)
def Lc.code : Lc → Nat
 | .tmp x => 6 * x
 | .blk b => 6 * b + 1
 | .nid => 2
 | .defs => 3
 | .vb b => 6 * b + 4
 | .vt u => 6 * u + 5
def maskL : List Lc → Nat
 | [] => 0
 | x :: r => Nat.lor (Nat.shiftLeft 1 x.code) (maskL r)
theorem maskL_mem {x : Lc} : ∀ {l : List Lc}, x ∈ l → (maskL l).testBit x.code = true
 | [], h => by simp at h
 | y :: r, h => by
  show ((1 <<< y.code) ||| maskL r).testBit x.code = true
  rw [Nat.testBit_or]
  rcases List.mem_cons.1 h with rfl | h
  ·simp
  ·rw [maskL_mem h]; simp
theorem apart_of {l m : List Lc} (h : Nat.beq (Nat.land (maskL l) (maskL m)) 0 = true) : apart l m = true := by
 have h := Nat.eq_of_beq_eq_true h
 simp only [apart, List.all_eq_true, Bool.not_eq_true']
 intro x hx
 cases hc : m.contains x with
 | false => rfl
 | true =>
  rw [List.contains_iff_mem] at hc
  have h1 : (maskL l &&& maskL m).testBit x.code = true := by rw [Nat.testBit_and, maskL_mem hx, maskL_mem hc]; rfl
  rw [show maskL l &&& maskL m = 0 from h] at h1
  simp at h1
structure FpM where
 r : Nat
 w : Nat
 all : Bool
def Fp.toM (f : Fp) : FpM := ⟨maskL f.reads, maskL f.writes, f.all⟩
def FpM.apart (f g : FpM) : Bool := match f.all, g.all with
 | false, false => Nat.beq (Nat.land f.w (Nat.lor g.r g.w)) 0 && Nat.beq (Nat.land g.w f.r) 0
 | _, _ => false
theorem maskL_append : ∀ l m : List Lc, maskL (l ++ m) = Nat.lor (maskL l) (maskL m)
 | [], m => by show maskL m = 0 ||| maskL m; simp
 | x :: l, m => by
  show (1 <<< x.code) ||| maskL (l ++ m) = ((1 <<< x.code) ||| maskL l) ||| maskL m
  rw [maskL_append l m]
  exact (Nat.or_assoc ..).symm
theorem FpM.apart_ok {f g : Fp} (h : f.toM.apart g.toM = true) : f.apart g = true := by
 unfold FpM.apart Fp.toM at h
 simp only at h
 split at h
 ·rename_i hf hg
  simp only [Bool.and_eq_true] at h
  simp only [Fp.apart, hf, hg, Bool.not_false, Bool.true_and, Bool.and_eq_true]
  exact ⟨apart_of (by rw [maskL_append]; exact h.1), apart_of h.2⟩
 ·simp at h
def edgesM (acc : List Nat) : List Edge → Nat → Nat
 | [], m => m
 | e :: r, m => edgesM acc r (match Region.binds .any e with
  | true => Nat.lor (Nat.lor (Nat.shiftLeft 1 e.on) (acc.getD e.on 0)) m
  | false => m)
def beforesM : List Oper → List Nat → List Nat
 | [], acc => acc
 | o :: r, acc => beforesM r (acc ++ [edgesM acc o.after.toList 0])
def BitsIn (m : Nat) (l : List Nat) : Prop := ∀ i, m.testBit i = true → i ∈ l
theorem edgesM_in {accM : List Nat} {acc : List (List Nat)} (ha : ∀ j, BitsIn (accM.getD j 0) (acc.getD j [])) : ∀ (es : List Edge) (m : Nat) (l : List Nat), BitsIn m l →
  BitsIn (edgesM accM es m) (es.foldl (fun l e => if Region.binds .any e then e.on :: (acc.getD e.on [] ++ l) else l) l)
 | [], m, l, h => h
 | e :: es, m, l, h => by
  simp only [edgesM, List.foldl_cons]
  refine edgesM_in ha es _ _ ?_
  cases hb : Region.binds .any e with
  | false => simpa using h
  | true =>
   simp only [if_true]
   intro i hi
   rw [show Nat.lor (Nat.lor (Nat.shiftLeft 1 e.on) (accM.getD e.on 0)) m = ((1 <<< e.on) ||| accM.getD e.on 0) ||| m from rfl, Nat.testBit_or, Nat.testBit_or] at hi
   simp only [Bool.or_eq_true] at hi
   rcases hi with (hi | hi) | hi
   ·have : i = e.on := by
     rw [Nat.testBit_shiftLeft] at hi
     simp only [Bool.and_eq_true, decide_eq_true_eq] at hi
     have h2 := hi.2
     by_cases hz : i - e.on = 0
     ·omega
     ·rw [Nat.testBit_one_eq_true_iff_self_eq_zero] at h2
      exact absurd h2 hz
    rw [this]; simp
   ·exact List.mem_cons_of_mem _ (List.mem_append_left _ (ha _ _ hi))
   ·exact List.mem_cons_of_mem _ (List.mem_append_right _ (h _ hi))
theorem beforesM_in : ∀ (ops : List Oper) (accM : List Nat) (acc : List (List Nat)), accM.length = acc.length → (∀ j, BitsIn (accM.getD j 0) (acc.getD j [])) →
  ∀ j, BitsIn ((beforesM ops accM).getD j 0) ((befores ops acc).getD j [])
 | [], accM, acc, _, h => by simpa [beforesM, befores] using h
 | o :: r, accM, acc, hl, h => by
  simp only [beforesM, befores]
  refine beforesM_in r _ _ (by simp [hl]) ?_
  intro j
  have he := edgesM_in h o.after.toList 0 [] (by intro i hi; simp at hi)
  by_cases hj : j < accM.length
  ·simp only [List.getD_eq_getElem?_getD]
   rw [List.getElem?_append_left hj, List.getElem?_append_left (hl ▸ hj), ← List.getD_eq_getElem?_getD, ← List.getD_eq_getElem?_getD]
   exact h j
  ·by_cases hj' : j = accM.length
   ·subst hj'
    simp only [List.getD_eq_getElem?_getD, List.getElem?_append_right (Nat.le_refl _), Nat.sub_self]
    rw [List.getElem?_append_right (by omega)]
    simpa [hl] using he
   ·intro i hi
    simp only [List.getD_eq_getElem?_getD] at hi
    rw [List.getElem?_eq_none (by simp; omega)] at hi
    simp at hi
def looseK (o : Oper) (f : Fp) : Bool :=
 !f.all && f.writes.all fun l => match l, o.dst with
  | .tmp y, some x => Nat.beq y x
  | _, _ => false
theorem looseK_ok {o : Oper} {f : Fp} (h : looseK o f = true) : loose o f = true := by
 simp only [looseK, loose, Bool.and_eq_true, List.all_eq_true] at h ⊢
 refine ⟨h.1, fun l hl => ?_⟩
 have := h.2 l hl
 split at this
 ·rename_i y x hx
  rw [hx]
  simp only [beq_iff_eq, Lc.tmp.injEq]
  exact Nat.eq_of_beq_eq_true this
 ·simp at this
def drawOkM (pn : Bool) (ops : Array Oper) (base : Nat) (fs : List Fp) : Bool :=
 let bs := beforesM ops.toList []
 let ms := fs.map Fp.toM
 let k := fs.length
 ((List.range ops.size).all fun j =>
  ((ops.getD j default).after.toList.all fun e => !Region.binds .any e || Nat.blt e.on j) &&
  (List.range j).all fun i =>
   (bs.getD j 0).testBit i ||
   (match Nat.blt j k with
    | true => match ms[i]?, ms[j]? with
     | some a, some b => a.apart b || pn && Nat.beq (j + 1) k && looseK (ops.getD i default) (fs.getD i default)
     | _, _ => false
    | false => !(Nat.beq (i + 1) k))) &&
 (List.range k).all fun i => !makesBlk (ops.getD i default) ||
  (List.range k).all fun j => i == j || (bs.getD j 0).testBit i || !(fs.getD j default).refs.contains (base + i)
theorem drawOkM_ok {pn : Bool} {ops : Array Oper} {base : Nat} {fs : List Fp} (h : drawOkM pn ops base fs = true) : drawOk pn ops base fs = true := by
 have hb := beforesM_in ops.toList [] [] rfl (by intro j i hi; simp at hi)
 have blt : ∀ {a b : Nat}, Nat.blt a b = true → a < b := fun h => Nat.le_of_ble_eq_true h
 unfold drawOkM at h
 unfold drawOk
 simp only [Bool.and_eq_true, List.all_eq_true, List.mem_range, Bool.or_eq_true, Bool.not_eq_true'] at h ⊢
 refine ⟨fun j hj => ⟨fun e he => ?_, fun i hi => ?_⟩, fun i hi => ?_⟩
 ·rcases (h.1 j hj).1 e he with h1 | h1
  ·exact .inl h1
  ·exact .inr (by simpa using blt h1)
 ·rcases (h.1 j hj).2 i hi with h1 | h1
  ·exact .inl (by rw [List.contains_iff_mem]; exact hb j i h1)
  ·right
   split at h1
   ·rename_i hjk
    rw [if_pos (blt hjk)]
    split at h1
    ·rename_i a b ha hb'
     rw [List.getElem?_map, Option.map_eq_some_iff] at ha hb'
     obtain ⟨fa, hfa, rfl⟩ := ha
     obtain ⟨fb, hfb, rfl⟩ := hb'
     rcases Bool.or_eq_true _ _ |>.mp h1 with h1 | h1
     ·have := FpM.apart_ok h1
      rw [Bool.or_eq_true]; left
      simpa [List.getD_eq_getElem?_getD, hfa, hfb] using this
     ·simp only [Bool.and_eq_true] at h1
      rw [Bool.or_eq_true]; right
      simp only [Bool.and_eq_true, decide_eq_true_eq]
      exact ⟨⟨h1.1.1, Nat.eq_of_beq_eq_true h1.1.2⟩, looseK_ok h1.2⟩
    ·simp at h1
   ·rename_i hjk
    have hk : ¬ j < fs.length := by
     intro hlt
     have : Nat.blt j fs.length = true := Nat.ble_eq_true_of_le hlt
     rw [hjk] at this; simp at this
    rw [if_neg hk]
    simp only [decide_eq_true_eq]
    intro e
    rw [e] at h1
    simp at h1
 ·rcases h.2 i hi with h1 | h1
  ·exact .inl h1
  ·refine .inr fun j hj => ?_
   rcases h1 j hj with (h2 | h2) | h2
   ·exact .inl (.inl h2)
   ·exact .inl (.inr (by rw [List.contains_iff_mem]; exact hb j i h2))
   ·exact .inr h2
theorem dz {ops : Array Oper} {vs : List Nat} {base i : Nat} {pre : List Fp} {b : Code} (hok : (drawOkM false ops base pre && Nat.ble base nid) = true) (hh : awp X f b Q ⟨tm, hp, nid, df, pn⟩) : awpD X ops vs base pre [] i (seqQ X f b Q) ⟨tm, hp, nid, df, pn⟩ := by
 simp only [Bool.and_eq_true] at hok
 exact awpD_nil (by simp only [Bool.and_eq_true, decide_eq_true_eq]; exact ⟨drawOkM_ok hok.1, Nat.le_of_ble_eq_true hok.2⟩) (.normal hh)
theorem dz' {ops : Array Oper} {vs : List Nat} {base i : Nat} {pre : List Fp} (hok : (drawOkM false ops base pre && Nat.ble base nid) = true) (hh : Q .normal ⟨tm, hp, nid, df, pn⟩) : awpD X ops vs base pre [] i Q ⟨tm, hp, nid, df, pn⟩ := by
 simp only [Bool.and_eq_true] at hok
 exact awpD_nil (by simp only [Bool.and_eq_true, decide_eq_true_eq]; exact ⟨drawOkM_ok hok.1, Nat.le_of_ble_eq_true hok.2⟩) hh
theorem dgt {ops : Array Oper} {vs : List Nat} {base i : Nat} {pre : List Fp} {o q : Oper} {l : List Oper} {j d : Nat} {want b : Bool} (hg : o.guard = some (j, want)) (hq : ops[j]? = some q) (hd : q.dst = some d) (hl : look d tm = some (.c (.d (.bool b)))) (e : b = true)
  (e1 : setBK d true tm some = some tm') (h : awpD X ops vs base pre (o :: l) i Q ⟨tm', hp, nid, df, pn⟩) : awpD X ops vs base pre (o :: l) i Q ⟨tm, hp, nid, df, pn⟩ := by
 have _ := hg; have _ := hq; have _ := hd
 subst e
 rw [setBK_eq hl, Option.some.injEq] at e1
 rw [e1]; exact h
theorem dgf {ops : Array Oper} {vs : List Nat} {base i : Nat} {pre : List Fp} {o q : Oper} {l : List Oper} {j d : Nat} {want b : Bool} (hg : o.guard = some (j, want)) (hq : ops[j]? = some q) (hd : q.dst = some d) (hl : look d tm = some (.c (.d (.bool b)))) (e : b = false)
  (e1 : setBK d false tm some = some tm') (h : awpD X ops vs base pre (o :: l) i Q ⟨tm', hp, nid, df, pn⟩) : awpD X ops vs base pre (o :: l) i Q ⟨tm, hp, nid, df, pn⟩ := by
 have _ := hg; have _ := hq; have _ := hd
 subst e
 rw [setBK_eq hl, Option.some.injEq] at e1
 rw [e1]; exact h
theorem esget {o : Oper} {t : TypeId} {x i : Operand} {u : Str} {k : IntKind} {n y : Int} (hy : sget u n = some y) (ho : o.op = .index t x i) (ht : X.P.underlying t = some .string) (hx : ev tm x = some (.c (.d (.str u)))) (hi : ev tm i = some (.c (.d (.int k n)))) :
  EvO X o ⟨tm, hp, nid, df, pn⟩ (.d (.int .u8 y)) ⟨tm, hp, nid, df, pn⟩ ⟨readsBlk o tm, [], []⟩ := by
 unfold sget at hy
 split at hy
 ·rename_i h0
  rw [Option.map_eq_some_iff] at hy
  obtain ⟨b, hb, rfl⟩ := hy
  exact .of fun _ => ev_index_str (s := ⟨tm, hp, nid, df, pn⟩) ho ht hx hi h0 hb
 ·cases hy
theorem elget {α : Type} {g : α → D} (g' : α → D) (hg : ∀ a, g a = g' a) {u : List α} {y : α} {n : Int} {o : Oper} {t e : TypeId} {x i : Operand} {k : IntKind} {sz : Nat} (hy : lget u n = some y)
  (ho : o.op = .indexAddr t x i) (ht : telem X.P t = some e) (hz : some sz = tsz X.P e) (hx : (ev tm x).bind V.toD = some (.list sz (u.map g))) (hi : ev tm i = some (.c (.d (.int k n)))) :
  EvO X o ⟨tm, hp, nid, df, pn⟩ (.rptr (g' y).cells) ⟨tm, hp, nid, df, pn⟩ ⟨readsBlk o tm, [], []⟩ := by
 obtain ⟨h0, hy⟩ := lget_some hy
 rw [← hg]
 exact .of fun _ => ev_indexAddr (s := ⟨tm, hp, nid, df, pn⟩) (d := g y) ho ht hz hx hi h0 (by simp [hy])
theorem esfrom {o : Oper} {t : TypeId} {x lo : Operand} {u y : Str} {k : IntKind} {n : Int} (hy : sfrom u n = some y)
  (ho : o.op = .slice t x (some lo) none none) (ht : X.P.underlying t = some .string) (hx : evT X.P t tm x = some (.c (.d (.str u)))) (hi : ev tm lo = some (.c (.d (.int k n)))) :
  EvO X o ⟨tm, hp, nid, df, pn⟩ (.d (.str y)) ⟨tm, hp, nid, df, pn⟩ ⟨readsBlk o tm, [], []⟩ := by
 unfold sfrom at hy
 split at hy
 ·rename_i hb
  simp only [Option.some.injEq] at hy; subst hy
  have := fun call => ev_slice_str (P := X.P) (call := call) (id := nid) (s := ⟨tm, hp, nid, df, pn⟩) (a := n.toNat) (b := u.length) ho ht hx (optNat_some hi hb.1) rfl hb.2 (Nat.le_refl _)
  rw [List.take_length] at this
  exact .of fun _ => this _
 ·cases hy
theorem esto {o : Oper} {t : TypeId} {x hh : Operand} {u y : Str} {k : IntKind} {n : Int} (hy : sto u n = some y)
  (ho : o.op = .slice t x none (some hh) none) (ht : X.P.underlying t = some .string) (hx : evT X.P t tm x = some (.c (.d (.str u)))) (hi : ev tm hh = some (.c (.d (.int k n)))) :
  EvO X o ⟨tm, hp, nid, df, pn⟩ (.d (.str y)) ⟨tm, hp, nid, df, pn⟩ ⟨readsBlk o tm, [], []⟩ := by
 unfold sto at hy
 split at hy
 ·rename_i hb
  simp only [Option.some.injEq] at hy; subst hy
  exact .of fun _ => ev_slice_str (s := ⟨tm, hp, nid, df, pn⟩) (a := 0) (b := n.toNat) ho ht hx rfl (optNat_some hi hb.1) (Nat.zero_le _) hb.2
 ·cases hy
theorem escat {o : Oper} {t t' : TypeId} {x y : Operand} {a b r : Str} (hy : scat a b = some r)
  (ho : o.op = .binOp .add t x y t') (hx : evT X.P t tm x = some (.c (.d (.str a)))) (hy' : evT X.P t tm y = some (.c (.d (.str b)))) :
  EvO X o ⟨tm, hp, nid, df, pn⟩ (.d (.str r)) ⟨tm, hp, nid, df, pn⟩ ⟨readsBlk o tm, [], []⟩ := by
 unfold scat at hy
 split at hy
 ·simp only [Option.some.injEq] at hy; subst hy
  exact .of fun _ => ev_concat (s := ⟨tm, hp, nid, df, pn⟩) ho hx hy' (by assumption)
 ·cases hy
theorem elmid {α : Type} {g : α → D} {u y : List α} {o : Oper} {t e : TypeId} {x lo hh : Operand} {v : V} {k k' : IntKind} {n m : Int} {sz : Nat} (hy : lmid u n m = some y)
  (ho : o.op = .slice t x (some lo) (some hh) none) (ht : X.P.underlying t = some (.slice e)) (hz : tsz X.P e = some sz) (hx : evT X.P t tm x = some v) (hv : v.toD = some (.list sz (u.map g))) (hi : ev tm lo = some (.c (.d (.int k n)))) (hi' : ev tm hh = some (.c (.d (.int k' m)))) :
  EvO X o ⟨tm, hp, nid, df, pn⟩ (.d (.list sz (y.map g))) ⟨tm, hp, nid, df, pn⟩ ⟨readsBlk o tm, [], []⟩ := by
 unfold lmid at hy
 split at hy
 ·rename_i hb
  simp only [Option.some.injEq] at hy; subst hy
  have := fun call => ev_slice_list (P := X.P) (call := call) (id := nid) (s := ⟨tm, hp, nid, df, pn⟩) (a := n.toNat) (b := m.toNat) ho ht hz hx hv (optNat_some hi hb.1) (optNat_some hi' (by omega)) (by omega) (by simpa using hb.2.2)
  rw [← List.map_take, ← List.map_drop] at this
  exact .of fun _ => this _
 ·cases hy
theorem ellen {α : Type} {g : α → D} {u : List α} {o : Oper} {c : Go.Call} {t e : TypeId} {x : Operand} {v : V} {sz : Nat}
  (ho : o.op = .call c) (hc : c.callee = .builtin .len) (ha : c.args.toList = [x]) (hat : c.argTypes.toList = [t]) (ht : X.P.underlying t = some (.slice e)) (hx : ev tm x = some v) (hv : v.toD = some (.list sz (u.map g))) :
  EvO X o ⟨tm, hp, nid, df, pn⟩ (.d (.int .i64 u.length)) ⟨tm, hp, nid, df, pn⟩ Foot.none :=
 .of fun _ => by simp only [evOp, evR, ho, hc, ha, hat, hx, Option.bind_some, lenV_data hv, ht, List.length_map]
theorem esbytes {o : Oper} {src dst e : TypeId} {x : Operand} {a : Str} {y : List Int} (hy : sbytes a = some y)
  (ho : o.op = .convert src dst x) (hs : X.P.underlying src = some .string) (hdd : X.P.underlying dst = some (.slice e)) (he : X.P.underlying e = some (.int .u8)) (hz : tsz X.P e = some 1) (hx : evT X.P src tm x = some (.c (.d (.str a)))) :
  EvO X o ⟨tm, hp, nid, df, pn⟩ (.c (.own 1 (y.map (D.int .u8)))) ⟨tm, hp, nid, df, pn⟩ ⟨readsBlk o tm, [], []⟩ := by
 unfold sbytes at hy
 split at hy
 ·rename_i hb
  simp only [Option.some.injEq] at hy; subst hy
  have := fun call => ev_bytes (P := X.P) (call := call) (id := nid) (s := ⟨tm, hp, nid, df, pn⟩) ho hs hdd he hz hx hb
  rw [show a.map byteD = (a.map u8I).map (D.int .u8) from by rw [List.map_map]; rfl] at this
  exact .of fun _ => this _
 ·cases hy
theorem toBytes_ints : ∀ a : List Int, toBytes (a.map (D.int .u8)) = some (bstr a)
 | [] => rfl
 | n :: a => by
  show (toBytes (a.map (D.int .u8))).map (UInt8.ofNat n.toNat :: ·) = _
  rw [toBytes_ints a]; rfl
theorem ebstr {o : Oper} {src dst e : TypeId} {x : Operand} {v : V} {a : List Int}
  (ho : o.op = .convert src dst x) (hs : X.P.underlying src = some (.slice e)) (hdd : X.P.underlying dst = some .string) (he : X.P.underlying e = some (.int .u8)) (hx : evT X.P src tm x = some v) (hv : v.toD = some (.list 1 (a.map (D.int .u8)))) :
  EvO X o ⟨tm, hp, nid, df, pn⟩ (.d (.str (bstr a))) ⟨tm, hp, nid, df, pn⟩ ⟨readsBlk o tm, [], []⟩ := by
 have hcv : convV X.P src dst v = some (.d (.str (bstr a))) := by
  unfold convV
  rw [hs, hdd]
  cases v with
  | c y =>
   cases y with
   | d z => simp only [V.toD, C.toD, Option.some.injEq] at hv; subst hv; simp only [he, V.toD, C.toD, toBytes_ints, Option.map_some]
   | own z ys => simp only [V.toD, C.toD, Option.some.injEq, D.list.injEq] at hv; obtain ⟨rfl, rfl⟩ := hv; simp only [he, V.toD, C.toD, toBytes_ints, Option.map_some]
   | full z ys => simp only [V.toD, C.toD, Option.some.injEq, D.list.injEq] at hv; obtain ⟨rfl, rfl⟩ := hv; simp only [he, V.toD, C.toD, toBytes_ints, Option.map_some]
   | nilsl z =>
    simp only [V.toD, C.toD, Option.some.injEq, D.list.injEq] at hv
    obtain ⟨rfl, h⟩ := hv
    have : a = [] := by cases a <;> simp_all
    subst this
    simp only [he, V.toD, C.toD, toBytes, Option.map_some]
    rfl
   | _ => simp [V.toD, C.toD] at hv
  | view l z ys => simp only [V.toD, Option.some.injEq, D.list.injEq] at hv; obtain ⟨rfl, rfl⟩ := hv; simp only [he, V.toD, toBytes_ints, Option.map_some]
  | vagg cs => simp [V.toD] at hv
  | _ => simp [V.toD] at hv
 exact .of fun _ => by simp only [evOp, ho, evR, hx, hcv]
theorem eappv {α : Type} {g : α → D} {u m y : List α} {o : Oper} {c : Go.Call} {t s e : TypeId} {x z : Operand} {n w : Nat} {zs : List D} {zv : V} {ms : List D} (hy : lapp u m = some y) (hm : ms = m.map g)
  (ho : o.op = .call c) (hc : c.callee = .builtin .append) (ha : c.args.toList = [x, z]) (hat : c.argTypes.toList = [t, s]) (ht : telem X.P t = some e) (hn : tsz X.P e = some n) (hu : isSource X.P s = true)
  (hb : (Nat.ble (X.P.bytesOf e) 1024 && zeroFits X.P e n) = true) (hx : evT X.P t tm x = some (.view (.tmp w) n (u.map g))) (hw : look w tm = some (.c (.own n zs))) (hz : evT X.P s tm z = some zv) (hzz : appended zv = some (n, ms)) :
  EvO X o ⟨tm, hp, nid, df, pn⟩ (.c (.own n (y.map g))) ⟨plainAt w tm, hp, nid, df, pn⟩ (appendFoot x tm) := by
 subst hm
 unfold lapp at hy
 split at hy
 ·rename_i hl
  simp only [Option.some.injEq] at hy; subst hy
  simp only [Bool.and_eq_true] at hb
  have := fun call => ev_append_view (P := X.P) (call := call) (id := nid) (s := ⟨tm, hp, nid, df, pn⟩) ho hc ha hat ht hn hu ⟨Nat.le_of_ble_eq_true hb.1, hb.2⟩ hx hw hz hzz (by simpa using hl)
  rw [← List.map_append] at this
  exact .of fun _ => this _
 ·cases hy
theorem eappc {α : Type} {g : α → D} {u m y : List α} {o : Oper} {c : Go.Call} {t s e : TypeId} {x z : Operand} {n b off : Nat} {zs : List D} {cells : List C} {zv : V} {ms : List D} (hy : lapp u m = some y) (hm : ms = m.map g)
  (ho : o.op = .call c) (hc : c.callee = .builtin .append) (ha : c.args.toList = [x, z]) (hat : c.argTypes.toList = [t, s]) (ht : telem X.P t = some e) (hn : tsz X.P e = some n) (hu : isSource X.P s = true)
  (hb : (Nat.ble (X.P.bytesOf e) 1024 && zeroFits X.P e n) = true) (hx : evT X.P t tm x = some (.view (.cell b off) n (u.map g))) (hw : lookC b hp = some cells) (hw' : cells[off]? = some (.own n zs)) (hz : evT X.P s tm z = some zv) (hzz : appended zv = some (n, ms)) :
  EvO X o ⟨tm, hp, nid, df, pn⟩ (.c (.own n (y.map g))) ⟨tm, upd b (cells.set off (.d (.list n (u.map g)))) hp, nid, df, pn⟩ (appendFoot x tm) := by
 subst hm
 unfold lapp at hy
 split at hy
 ·rename_i hl
  simp only [Option.some.injEq] at hy; subst hy
  simp only [Bool.and_eq_true] at hb
  have := fun call => ev_append_cell (P := X.P) (call := call) (id := nid) (s := ⟨tm, hp, nid, df, pn⟩) ho hc ha hat ht hn hu ⟨Nat.le_of_ble_eq_true hb.1, hb.2⟩ hx hw hw' hz hzz (by simpa using hl)
  rw [← List.map_append] at this
  exact .of fun _ => this _
 ·cases hy
theorem eappn {α : Type} {g : α → D} {m y : List α} {o : Oper} {c : Go.Call} {t s e : TypeId} {x z : Operand} {n k : Nat} {zv : V} {ms : List D} (hy : lapp [] m = some y) (hm : ms = m.map g)
  (ho : o.op = .call c) (hc : c.callee = .builtin .append) (ha : c.args.toList = [x, z]) (hat : c.argTypes.toList = [t, s]) (ht : telem X.P t = some e) (hn : tsz X.P e = some n) (hu : isSource X.P s = true)
  (hb : (Nat.ble (X.P.bytesOf e) 1024 && zeroFits X.P e n) = true) (hx : evT X.P t tm x = some (.c (.nilsl k))) (hz : evT X.P s tm z = some zv) (hzz : appended zv = some (n, ms)) :
  EvO X o ⟨tm, hp, nid, df, pn⟩ (.c (.own n (y.map g))) ⟨tm, hp, nid, df, pn⟩ (appendFoot x tm) := by
 subst hm
 unfold lapp at hy
 split at hy
 ·rename_i hl
  simp only [List.nil_append, Option.some.injEq] at hy; subst hy
  simp only [Bool.and_eq_true] at hb
  exact .of fun _ => ev_append_nil (s := ⟨tm, hp, nid, df, pn⟩) ho hc ha hat ht hn hu ⟨Nat.le_of_ble_eq_true hb.1, hb.2⟩ hx hz hzz (by simpa using hl)
 ·cases hy
theorem ecall {o : Oper} {c : Go.Call} {fo : Operand} {g : Nat} {args args' : List C} {v v' : V} (hv : aval X g args' [] (.ret v []))
  (ho : o.op = .call c) (hc : c.callee = .value fo) (hf : ev tm fo = some (.c (.fn g [])))
  (ha : argsT X.P tm c.args.toList c.argTypes.toList = some args) (hi : args.flatMap C.ids = []) (hj : mapM? (C.into []) args = some args) (hst : args.map C.still = args') (hH : (X.H g 999999).isEmpty = true) (hb : V.back [] v = some v') :
  EvO X o ⟨tm, hp, nid, df, pn⟩ v' ⟨tm, hp, nid, df, pn⟩ ⟨[], [], []⟩ := by
 have := evt_call (X := X) (s := ⟨tm, hp, nid, df, pn⟩) (ids := []) (lh := []) (lh' := []) (lh'' := []) ho hc hf (by simpa using ha) (by simp [hi, reach]) (by simpa using hj) rfl (aval_still (hst ▸ hv) hH) rfl (by simpa [idsFrom] using hb)
 refine this.imp fun k p => ?_
 rw [p]
 simp [idsFrom, look_unviewIn_nil, putBlks]
theorem ecallk {o : Oper} {c : Go.Call} {fo : Operand} {g : Nat} {args : List C} {v v' : V} (hv : aval X g args [] (.ret v []))
  (ho : o.op = .call c) (hc : c.callee = .value fo) (hf : ev tm fo = some (.c (.fn g [])))
  (ha : argsT X.P tm c.args.toList c.argTypes.toList = some args) (hi : args.flatMap C.ids = []) (hj : mapM? (C.into []) args = some args) (hb : V.back [] v = some v') :
  EvO X o ⟨tm, hp, nid, df, pn⟩ v' ⟨tm, hp, nid, df, pn⟩ ⟨[], [], []⟩ := by
 have := evt_call (X := X) (s := ⟨tm, hp, nid, df, pn⟩) (ids := []) (lh := []) (lh' := []) (lh'' := []) ho hc hf (by simpa using ha) (by simp [hi, reach]) (by simpa using hj) rfl hv rfl (by simpa [idsFrom] using hb)
 refine this.imp fun k p => ?_
 rw [p]
 simp [idsFrom, look_unviewIn_nil, putBlks]
def AX.isOut : AX → Bool
 | .ret => true
 | .pan _ => true
 | _ => false
theorem seqQ.out {b : Code} {x : AX} {s : St} (hx : x.isOut = true) (h : Q x s) : seqQ X f b Q x s := by
 cases x <;> first | exact .ret h | exact .pan h | simp [AX.isOut] at hx
theorem condQ.out {hk : List Nat} {n : Nat} {x : AX} {s : St} (hx : x.isOut = true) (h : Q x s) : condQ hk n Q x s := by
 cases x <;> first | exact .ret h | exact .pan h | simp [AX.isOut] at hx
theorem exitQ.out {id : Nat} {hk : List Nat} {n : Nat} {x : AX} {s : St} (hx : x.isOut = true) (h : Q x s) : exitQ id hk n Q x s := by
 cases x <;> first | exact .ret h | exact .pan h | simp [AX.isOut] at hx
theorem loopQ.out {A : St → Prop} {x : AX} {s : St} (hx : x.isOut = true) (h : Q x s) : loopQ A Q x s := by
 cases x <;> first | exact .ret h | exact .pan h | simp [AX.isOut] at hx
inductive SubQ (X : Ctx) (fn : Func) (n : Nat) {ρ σ : Type} (E : ρ → CRes) (st : σ → St) : Except ρ σ → AX → St → Prop where
 | ok {a : σ} {s : St} : s = st a → SubQ X fn n E st (.ok a) .normal s
 | err {r : ρ} {x : AX} {s : St} : x.isOut = true → atEnd X fn n (E r) x s → SubQ X fn n E st (.error r) x s
theorem awp_sub (fn : Func) (n : Nat) {ρ σ : Type} (E : ρ → CRes) (st : σ → St) {res : Except ρ σ} {a : Code} {s : St} (h1 : awp X f a (SubQ X fn n E st res) s) (h2 : ∀ y, res = .ok y → Q .normal (st y))
  (h3 : ∀ r x s', res = .error r → x.isOut = true → atEnd X fn n (E r) x s' → Q x s') : awp X f a Q s := by
 refine awp_mono h1 ?_
 intro x s' hq
 cases hq with
 | ok e => subst e; exact h2 _ rfl
 | err hx e => exact h3 _ _ _ rfl hx e
inductive NrmQ {σ : Type} (st : σ → St) (y : σ) : AX → St → Prop where
 | ok {s : St} : s = st y → NrmQ st y .normal s
theorem awp_nrm {σ : Type} (st : σ → St) {y : σ} {a : Code} {s : St} (h1 : awp X f a (NrmQ st y) s) (h2 : Q .normal (st y)) : awp X f a Q s := by
 refine awp_mono h1 ?_
 intro x s' hq
 cases hq with
 | ok e => subst e; exact h2
theorem awpL_at {c : Code} {clean : St → Option St} {s s1 : St} (hc : clean s = some s1) (hc1 : clean s1 = some s1) (h : awpL X f c clean Q s1) : awpL X f c clean Q s := by
 obtain ⟨x, s', ⟨m₀, h1⟩, h2⟩ := h
 refine ⟨x, s', ⟨m₀ + 1, h1.imp fun k p m hm => ?_⟩, h2⟩
 obtain ⟨j, rfl⟩ : ∃ j, m = j + 1 := ⟨m - 1, by omega⟩
 have := p (j + 1) (by omega)
 simp only [iter, hc1] at this
 simp only [iter, hc]
 exact this
theorem awpL_go {c : Code} {clean : St → Option St} {s s1 : St} (hc : clean s = some s1) (h : awp X f c (loopQ (awpL X f c clean Q) Q) s1) : awpL X f c clean Q s := by
 refine awpL_round hc (awp_mono h ?_)
 intro x s' hq
 cases hq with
 | normal h => exact h
 | exit h => exact h
 | ret h => exact h
 | pan h => exact h
def filtK {β : Type} (n : Nat) : List (Nat × List C) → (List (Nat × List C) → β) → β
 | [], k => k []
 | (b, cs) :: r, k => match decide (b < n) with
  | true => copyL cs fun cs => filtK n r fun r => k ((b, cs) :: r)
  | false => filtK n r k
theorem filtK_eq {β : Type} {n : Nat} : ∀ {l : List (Nat × List C)} {k : List (Nat × List C) → β}, filtK n l k = k (l.filter (·.1 < n))
 | [], _ => rfl
 | (b, cs) :: r, k => by
  simp only [filtK, List.filter_cons, copyL_eq]
  cases h : decide (b < n) with
  | true => simp only [filtK_eq, if_true]
  | false => simp only [filtK_eq, Bool.false_eq_true, if_false]
def cleanK {α : Type} (ks : List Nat) (n : Nat) (tm : List (Nat × V)) (hp : List (Nat × List C)) (df : List (Nat × List Nat)) (k : List (Nat × V) → List (Nat × List C) → Option α) : Option α :=
 keepK ks (demT ks tm) fun tm => filtK n (demH ks hp) fun hp => match tm.all (fun x => x.2.below n) && hp.all (fun x => x.2.all (C.below n)) && df.all (fun x => x.2.all (· < n)) with
  | true => k tm hp
  | false => none
def pairK (tm : List (Nat × V)) (hp : List (Nat × List C)) : Option (List (Nat × V) × List (Nat × List C)) := some (tm, hp)
theorem cleanK_eq {α : Type} {ks : List Nat} {n : Nat} {k : List (Nat × V) → List (Nat × List C) → Option α} {a : α} (h : cleanK ks n tm hp df k = some a) :
  ∃ tm' hp', k tm' hp' = some a ∧ cleanAt ks n ⟨tm, hp, nid, df, pn⟩ = some ⟨tm', hp', n, df, pn⟩ := by
 unfold cleanK at h
 rw [keepK_eq, filtK_eq] at h
 split at h
 ·rename_i hc
  refine ⟨_, _, h, ?_⟩
  unfold cleanAt
  simp only
  rw [if_pos hc]
 ·simp at h
theorem lg {ks : List Nat} {n : Nat} {c : Code} (hc : cleanK ks n tm hp df pairK = some (tm', hp')) (h : awp X f c (loopQ (awpL X f c (cleanAt ks n) Q) Q) ⟨tm', hp', n, df, pn⟩) : awpL X f c (cleanAt ks n) Q ⟨tm, hp, nid, df, pn⟩ := by
 obtain ⟨_, _, h1, h2⟩ := cleanK_eq (nid := nid) (pn := pn) hc
 simp only [pairK, Option.some.injEq, Prod.mk.injEq] at h1
 obtain ⟨rfl, rfl⟩ := h1
 exact awpL_go h2 h
def settleK {α : Type} (hk : List Nat) (n : Nat) (tm : List (Nat × V)) (hp : List (Nat × List C)) (nid : Nat) (df : List (Nat × List Nat)) (k : List (Nat × V) → List (Nat × List C) → Nat → Option α) : Option α := match hk with
 | [] => k tm hp nid
 | _ :: ks => cleanK ks n tm hp df fun tm hp => k tm hp n
def triK (tm : List (Nat × V)) (hp : List (Nat × List C)) (nid : Nat) : Option (List (Nat × V) × List (Nat × List C) × Nat) := some (tm, hp, nid)
theorem settleK_eq {hk : List Nat} {n : Nat} (h : settleK hk n tm hp nid df triK = some (tm', hp', nid')) : settleS hk n ⟨tm, hp, nid, df, pn⟩ = some ⟨tm', hp', nid', df, pn⟩ := by
 unfold settleK at h
 split at h
 ·simp only [triK, Option.some.injEq, Prod.mk.injEq] at h
  obtain ⟨rfl, rfl, rfl⟩ := h; rfl
 ·obtain ⟨_, _, h1, h2⟩ := cleanK_eq (nid := nid) (pn := pn) h
  simp only [triK, Option.some.injEq, Prod.mk.injEq] at h1
  obtain ⟨rfl, rfl, rfl⟩ := h1
  exact h2
theorem eh {id : Nat} {hk : List Nat} {n : Nat} (hs : settleK hk n tm hp nid df triK = some (tm', hp', nid')) (h : Q .normal ⟨tm', hp', nid', df, pn⟩) : exitQ id hk n Q (.exit id) ⟨tm, hp, nid, df, pn⟩ := .here (settleK_eq hs) h
theorem en {id : Nat} {hk : List Nat} {n : Nat} (hs : settleK hk n tm hp nid df triK = some (tm', hp', nid')) (h : Q .normal ⟨tm', hp', nid', df, pn⟩) : exitQ id hk n Q .normal ⟨tm, hp, nid, df, pn⟩ := .normal (settleK_eq hs) h
theorem cn {hk : List Nat} {n : Nat} (hs : settleK hk n tm hp nid df triK = some (tm', hp', nid')) (h : Q .normal ⟨tm', hp', nid', df, pn⟩) : condQ hk n Q .normal ⟨tm, hp, nid, df, pn⟩ := .normal (settleK_eq hs) h
def codeAt : List Nat → Code → Code
 | [], c => c
 | i :: r, .seq a b => codeAt r (if i = 0 then a else b)
 | i :: r, .cond _ a b => codeAt r (if i = 0 then a else b)
 | _ :: r, .block _ c => codeAt r c
 | _ :: r, .loop c => codeAt r c
 | _ :: r, .scope c => codeAt r c
 | _, c => c
def bodyOf (fn : Func) : Code := fn.body.getD .skip
end
end Go.AM

namespace Go.AM
open Go
section
variable {X : Ctx} {f : Nat} {Q : AX → St → Prop} {tm tm' : List (Nat × V)} {hp hp' : List (Nat × List C)} {nid nid' : Nat} {df df' : List (Nat × List Nat)} {pn : Option D}
end
end Go.AM

namespace Go.AM
open Go
variable [Globs]
def fieldsCall : Call := fun _ args lh => match args with
 | [.d (.str s)] => if s.all (fun b => decide (b.toNat < 128)) && decide (s.length < 4294967281) then some (.ret (.d (.list 1 ((Lib.fields s).map .str))) lh) else none
 | _ => none
theorem repEs_strs {K : Col} {w : World} : ∀ l : List (List UInt8), RepEs K w 1 (l.map .str) (l.map fun s => Value.string ⟨s.toArray⟩)
 | [] => .nil
 | s :: l => .cons (by simp only [Rep]) (by rfl) (repEs_strs l)
theorem cellsOf_strs : ∀ l : List (List UInt8), cellsOf (l.map fun s => Value.string ⟨s.toArray⟩) = l.map fun s => Value.string ⟨s.toArray⟩
 | [] => rfl
 | s :: l => by simp only [List.map_cons, cellsOf]; rw [cellsOf_strs l]; rfl
theorem fields_ok {P : Program} {ρ : Shelf.Ren} (L : Go.Proofs.Lays.n157 P ρ) (hi9 : (P.info? (ρ.t 9)).map (fun i => (i.zero, i.size, i.bytes)) = some (some (.string ByteArray.empty), 1, 16))
  (htab : (ρ.g 0, (List.range 256).map fun c => Value.int .u8 (if Lib.isSp (UInt8.ofNat c) then 1 else 0)) ∈ Globs.tab) {args : List C} {lh : List (List C)} {r : CRes}
  (h : fieldsCall (ρ.f 157) args lh = some r) : CallOK P (ρ.f 157) args lh r := by
 unfold fieldsCall at h
 split at h
 ·rename_i s
  split at h
  ·rename_i hs
   simp only [Bool.and_eq_true, List.all_eq_true, decide_eq_true_eq] at hs
   simp only [Option.some.injEq] at h; subst h
   intro K μ w vs hr hi hh hb hgl
   cases hr with
   | cons hc hn =>
    cases hn
    rename_i v
    simp only [RepC, Rep] at hc; subst hc
    refine (Go.Proofs.Any.strings_Fields_core L hi9 ⟨s.toArray⟩ w (by show s.toArray.size < _; simpa using hs.2) (fun j b hj => hs.1 b (List.mem_of_getElem? (by simpa using hj))) ?_).mono ?_
    ·intro c hc
     have := (hgl _ htab c (.int .u8 (if Lib.isSp (UInt8.ofNat c) then 1 else 0)) (by simp [hc])).2
     rw [Nat.zero_add] at this
     exact this
    ·rintro e w' ⟨rfl, rfl⟩
     have hom := oneMore_alloc w (.cells ((Lib.fields (ByteArray.mk s.toArray).data.toList).map fun l => Value.string ⟨l.toArray⟩).toArray (ρ.t 9))
     have hst := hom.step (K := K) fun _ => .ro
     refine ⟨colNew K w.heap.size fun _ => .ro, μ, hst.none_mine, hom.bound hb _, fun _ _ => rfl, Nat.le_refl _, ?_, by simp [PlainV], by simp [V.ids, C.ids], _, rfl, ?_⟩
     ·intro i cells hic
      exact ⟨(hh i cells hic).1, (hh i cells hic).2.step hst (by simp) (by simp) (by simp)⟩
     ·simp only [RepV, RepC]
      have := rep_new (K := K) (w := w) (sz := 1) (ds := (Lib.fields s).map .str) (vs := (Lib.fields s).map fun l => Value.string ⟨l.toArray⟩) (rest := []) (e := ρ.t 9) (fun _ => .ro) (fun _ _ => rfl)
       (by rw [cellsOf_strs, List.append_nil]; simpa using hom) (repEs_strs _) (Nat.le_refl _)
      simpa using this
  ·simp at h
 ·simp at h
end Go.AM

namespace Go.AM
open Go
mutual
inductive Arr where
 | mk (shape : List Int) (cells : List Cell)
inductive Cell where
 | mk (kind : Int) (n : Int) (box : List Arr)
end
instance : Inhabited Arr := ⟨.mk [] []⟩
instance : Inhabited Cell := ⟨.mk 0 0 []⟩
def Arr.shape : Arr → List Int | .mk s _ => s
def Arr.cells : Arr → List Cell | .mk _ c => c
def Cell.kind : Cell → Int | .mk k _ _ => k
def Cell.n : Cell → Int | .mk _ n _ => n
def Cell.box : Cell → List Arr | .mk _ _ b => b
mutual
def encArrR : Arr → D
 | .mk sh cs => .agg [.list 1 (sh.map (D.int .i64)), .list 3 (encCellsR cs)]
def encCellsR : List Cell → List D
 | [] => []
 | c :: cs => encCellR c :: encCellsR cs
def encCellR : Cell → D
 | .mk k n b => .agg [.int .i64 k, .int .i64 n, .list 2 (encArrsR b)]
def encArrsR : List Arr → List D
 | [] => []
 | a :: l => encArrR a :: encArrsR l
end
def encCell (c : Cell) : D := .agg [.int .i64 c.kind, .int .i64 c.n, .list 2 (c.box.map encArrR)]
def encArr (a : Arr) : D := .agg [.list 1 (a.shape.map (D.int .i64)), .list 3 (a.cells.map encCell)]
theorem encArrsR_map : ∀ l : List Arr, encArrsR l = l.map encArrR
 | [] => rfl
 | a :: l => by simp only [encArrsR, encArrsR_map l, List.map_cons]
theorem encCellR_eq : ∀ c : Cell, encCellR c = encCell c
 | .mk k n b => by simp only [encCellR, encCell, encArrsR_map, Cell.kind, Cell.n, Cell.box]
theorem encCellsR_map : ∀ l : List Cell, encCellsR l = l.map encCell
 | [] => rfl
 | c :: l => by simp only [encCellsR, encCellsR_map l, encCellR_eq, List.map_cons]
theorem encArrR_eq : ∀ a : Arr, encArrR a = encArr a
 | .mk sh cs => by simp only [encArrR, encArr, encCellsR_map, Arr.shape, Arr.cells]
structure Token where
 kind : Int
 text : Str
 lit : Arr
 at_ : Int
 deriving Inhabited
def encToken (t : Token) : D := .agg [.int .i64 t.kind, .str t.text, .list 1 (t.lit.shape.map (D.int .i64)), .list 3 (t.lit.cells.map encCell), .int .i64 t.at_]
structure Fault where
 err : Int
 at_ : Int
 why : Int
 deriving Inhabited
def encFault (f : Fault) : D := .agg [.int .i64 f.err, .int .i64 f.at_, .int .i64 f.why]
inductive Node where
 | mk (kind op : Int) (name : Str) (lit : Arr) (kids : List Node) (at_ : Int)
instance : Inhabited Node := ⟨.mk 0 0 [] (.mk [] []) [] 0⟩
def Node.kind : Node → Int | .mk k _ _ _ _ _ => k
def Node.name : Node → Str | .mk _ _ n _ _ _ => n
def Node.lit : Node → Arr | .mk _ _ _ l _ _ => l
def Node.kids : Node → List Node | .mk _ _ _ _ k _ => k
def Node.at_ : Node → Int | .mk _ _ _ _ _ a => a
mutual
def encNodeR : Node → D
 | .mk k o n l ks a => .agg [.int .i64 k, .int .i64 o, .str n, .list 1 (l.shape.map (D.int .i64)), .list 3 (l.cells.map encCell), .list 7 (encNodesR ks), .int .i64 a]
def encNodesR : List Node → List D
 | [] => []
 | n :: l => encNodeR n :: encNodesR l
end
structure Prgm where
 set_ : Str
 origin : Int
 expr : Node
 deriving Inhabited
structure Grammar where
 verbs : List Str
 adverbs : List Str
 behind : List Str
 outer : Str
 power : Str
 open_ : Str
 close : Str
 left : Str
 right : Str
 minus : Str
 quote : Str
 trains : Bool
 lone : Bool
 square : Bool
 deriving Inhabited
def goFields (s : Str) : Option (List Str) := if (s.all (fun b => decide (b.toNat < 128)) && decide (s.length < 4294967281)) = true then some (Lib.fields s) else none
theorem goFields_inv {s : Str} {r : List Str} (h : goFields s = some r) : (s.all (fun b => decide (b.toNat < 128)) && decide (s.length < 4294967281)) = true ∧ r = Lib.fields s := by
 unfold goFields at h
 split at h
 ·rename_i hc
  simp only [Option.some.injEq] at h
  exact ⟨hc, h.symm⟩
 ·cases h
end Go.AM

namespace Go.AM
open Go
variable [Globs]
end Go.AM

namespace Go.AM
open Go
section
variable {X : Ctx} {f : Nat} {Q : AX → St → Prop} {tm tm' : List (Nat × V)} {hp hp' : List (Nat × List C)} {nid nid' : Nat} {df : List (Nat × List Nat)} {pn : Option D}
def mkarr {α : Type} (n : Int) (z : α) : Option (List α) := if 0 ≤ n ∧ n ≤ 4294967296 then some (List.replicate n.toNat z) else none
def aidx (m : Int) (n : Nat) : Option Nat := if 0 ≤ m ∧ m.toNat < n then some m.toNat else none
def aset {α : Type} (xs : List α) (j : Nat) (v : α) : Option (List α) := if j < xs.length then some (xs.set j v) else none
def afrz {α : Type} (n : Nat) (xs : List α) : Option (List α) := if xs.length = n then some xs else none
def EltG {α : Type} (g : α → D) (sz : Nat) : Prop := ∀ x, (g x).cells.length = sz ∧ mkE (g x).cells = g x ∧ (g x).cells.all isOneD = true
theorem emkarr {α : Type} (g : α → D) (z : α) {xs : List α} {n : Int} {o : Oper} {t e : TypeId} {l c : Operand} {k k' : IntKind} {sz : Nat} (hy : mkarr n z = some xs) (ho : o.op = .makeSlice t l c) (hs : sameTmp l c = true) (ht : telem X.P t = some e)
    (hl : ev tm l = some (.c (.d (.int k n)))) (hc : ev tm c = some (.c (.d (.int k' n)))) (hz : (tzero X.P e).bind V.toD = some (g z)) (hk : tsz X.P e = some sz) (hb : Nat.ble (X.P.bytesOf e) 1024 = true) (hzl : (g z).cells.length = sz) (h0 : Nat.ble 1 sz = true) (hnv : noView nid tm = true) (hn : nid + 1 = nid') :
    EvO X o ⟨tm, hp, nid, df, pn⟩ (.c (.arr nid n.toNat sz)) ⟨tm, (nid, [.seq sz (xs.map g)]) :: hp, nid', df, pn⟩ Foot.none := by
  unfold mkarr at hy
  split at hy
  · rename_i hc0
    simp only [Option.some.injEq] at hy; subst hy; subst hn
    have hb' := Nat.le_of_ble_eq_true hb
    have h0' : 0 < sz := Nat.le_of_ble_eq_true h0
    exact .of fun call => by simp [evOp, ho, evR, ht, hl, hc, hz, hk, hc0, hb', hzl, h0', hs, hnv]
  · simp at hy
theorem eidx {o : Oper} {t e : TypeId} {x i : Operand} {b n sz j : Nat} {k : IntKind} {m : Int} (hy : aidx m n = some j) (ho : o.op = .indexAddr t x i) (ht : telem X.P t = some e) (hz : some sz = tsz X.P e) (hx : ev tm x = some (.c (.arr b n sz))) (hi : ev tm i = some (.c (.d (.int k m)))) :
    EvO X o ⟨tm, hp, nid, df, pn⟩ (.c (.ptr b (j * sz))) ⟨tm, hp, nid, df, pn⟩ ⟨readsBlk o tm, [], []⟩ := by
  unfold aidx at hy
  split at hy
  · rename_i hc
    simp only [Option.some.injEq] at hy; subst hy
    exact .of fun call => by simp only [evOp, ho, evR, ht, hx, hi, hz, hc, and_self, if_true]
  · simp at hy
theorem cells_dat (d : D) : V.cells (.c (.d d)) = some (d.cells.map C.d) := by cases d <;> rfl
theorem datD_map : ∀ ds : List D, datD (ds.map C.d) = some ds
  | [] => rfl
  | d :: ds => by simp only [List.map_cons, datD, datD_map ds, Option.map_some]
theorem setSeq_elt {α : Type} {g : α → D} {sz : Nat} (hg : EltG g sz) (h0 : 0 < sz) {xs ys : List α} {j : Nat} {v : α} (hy : aset xs j v = some ys) : setSeq sz (j * sz) (xs.map g) ((g v).cells.map C.d) = some (ys.map g) := by
  unfold aset at hy
  split at hy
  · rename_i hj
    simp only [Option.some.injEq] at hy; subst hy
    unfold setSeq
    rw [datD_map, Nat.mul_div_cancel _ h0, List.getElem?_map, List.getElem?_eq_getElem hj]
    simp only [Option.map_some, Nat.mul_mod_left, Nat.zero_add, (hg v).1, Nat.le_refl, (hg v).2.2, h0, and_self, if_true, (hg v).2.1, List.map_set]
  · simp at hy
theorem est {α : Type} (g : α → D) {xs ys : List α} {v : α} {o : Oper} {t : TypeId} {a x : Operand} {b j sz : Nat} (hy : aset xs j v = some ys) (ho : o.op = .store t a x) (hn : tsz X.P t = some sz) (hg : EltG g sz) (h0 : Nat.ble 1 sz = true) (ha : ev tm a = some (.c (.ptr b (j * sz)))) (hx : evT X.P t tm x = some (.c (.d (g v)))) (hb : look b hp = some [.seq sz (xs.map g)]) :
    EvO X o ⟨tm, hp, nid, df, pn⟩ (.c .undef) ⟨tm, upd b [.seq sz (ys.map g)] hp, nid, df, pn⟩ ⟨[], [b], []⟩ := by
  have h0' : 0 < sz := Nat.le_of_ble_eq_true h0
  have hcn := cells_dat (g v)
  have hany : ((g v).cells.map C.d).any C.isNilsl = false := by
    rw [List.any_eq_false]
    intro c hc
    simp only [List.mem_map] at hc
    obtain ⟨d, _, rfl⟩ := hc
    simp [C.isNilsl]
  have hpl : ((g v).cells.map C.d).map C.plain = (g v).cells.map C.d := by simp [List.map_map, Function.comp_def, C.plain]
  have hst : storeCells hp b (j * sz) ((g v).cells.map C.d) = some (upd b [.seq sz (ys.map g)] hp) := by
    simp only [storeCells, hb, setSeq_elt hg h0' hy, Option.map_some]
  have hlen : tsz X.P t = some ((g v).cells.map C.d).length := by rw [List.length_map, (hg v).1]; exact hn
  exact .of fun call => by simp only [evOp, ho, ha, hx, hcn, hlen, if_true, hany, Bool.false_eq_true, if_false, hpl, hst]
theorem frz_c {t : Nat} {ks : List Nat} {s s1 s2 : St} (h : frzT t s = some s1) (h2 : frz ks s1 = some s2) : frz ((7000000 + t) :: ks) s = some s2 := by
  have hb : Nat.ble 7000000 (7000000 + t) = true := Nat.ble_eq_true_of_le (by omega)
  simp only [frz, hb, Nat.add_sub_cancel_left, h, h2]
theorem frzT_arr {α : Type} (g : α → D) {xs ys : List α} {t b n sz : Nat} (hy : afrz n xs = some ys) (ht : look t tm = some (.c (.arr b n sz))) (hb : look b hp = some [.seq sz (xs.map g)]) (h1 : setTmp t (.c (.own sz (ys.map g))) tm = tm') (h2 : hp.filter (·.1 != b) = hp') :
    frzT t ⟨tm, hp, nid, df, pn⟩ = some ⟨tm', hp', nid, df, pn⟩ := by
  unfold afrz at hy
  split at hy
  · rename_i hc
    simp only [Option.some.injEq] at hy; subst hy; subst h1; subst h2
    simp only [frzT, ht, hb, List.length_map, hc, and_self, if_true]
  · simp at hy
end
end Go.AM

namespace Go.AM.Seat
open Go Go.AM Go.Proofs
set_option maxRecDepth 100000
def h6 : Nat → List Nat | 0 => [0] | 1 => [0] | 3 => [0] | 4 => [0, 3] | 5 => [0, 3, 4] | 6 => [0, 3, 4] | 7 => [0, 3, 4] | 9 => [0, 3, 4] | 10 => [0, 3, 4] | 11 => [0, 3, 4] | 12 => [0, 3] | 13 => [0, 5, 6] | 1000000 => [0, 0, 3] | 2000010 => [0, 0, 3, 4] | _ => []
def h7 : Nat → List Nat | 2 => [1, 2] | 3 => [1, 2, 4] | _ => []
def h8 : Nat → List Nat | 0 => [0] | 1 => [0, 3] | 2 => [3] | 3 => [0, 3] | 4 => [0, 3, 4] | 5 => [0, 3, 4, 5] | 6 => [0, 3, 4, 5] | 7 => [0, 3, 4, 5] | 8 => [0, 3, 4, 5] | 9 => [0, 3, 4, 5] | 10 => [3, 5] | 11 => [0, 3, 4, 5] | 12 => [0, 3, 4, 5, 6, 7, 8] | 13 => [3, 5, 8] | 14 => [3, 8] | 15 => [0, 3, 4, 5, 6, 7] | 16 => [0, 3, 4, 5, 6, 7] | 17 => [3, 4] | 1000000 => [0, 3, 4] | _ => []
def h10 : Nat → List Nat | 0 => [0, 1] | 1 => [2, 3] | _ => []
def h11 : Nat → List Nat | 0 => [0] | 1 => [0] | _ => []
def h12 : Nat → List Nat | 0 => [0] | 1 => [0] | 2 => [0, 3] | 3 => [0, 3, 4] | 4 => [0, 3, 4, 5] | 5 => [0, 3, 4, 5] | 6 => [0, 3, 4, 5] | 7 => [0, 3, 4, 5] | 8 => [0, 3, 4] | 9 => [0, 4] | 10 => [0, 4, 25] | 11 => [0, 4] | 12 => [0, 4, 25] | 13 => [0, 4] | 14 => [0, 4, 25] | 15 => [0, 4] | 16 => [7000004, 4] | 1000000 => [0, 0, 3, 4] | 1000002 => [0, 4] | _ => []
def h13 : Nat → List Nat | 0 => [0] | 1 => [0, 2] | 2 => [0, 2, 3] | 3 => [0, 2, 3, 4] | 4 => [0, 2, 3, 4] | 5 => [0, 2, 3, 4] | 6 => [0, 2, 3] | 7 => [0, 2, 3] | 8 => [2, 3] | 1000000 => [0, 0, 2, 3] | 2000007 => [0, 2, 3] | _ => []
def h14 : Nat → List Nat | 0 => [0] | 1 => [0, 2] | 2 => [0, 2, 3] | 3 => [0, 2, 3, 4] | 4 => [0, 2, 3, 4] | 5 => [0, 2, 3, 4] | 6 => [2, 3] | 1000000 => [0, 2, 3] | _ => []
def h15 : Nat → List Nat | 0 => [0, 1] | 1 => [0, 1] | _ => []
def h16 : Nat → List Nat | 0 => [0] | 1 => [0, 2, 4] | 2 => [0, 2, 4, 5] | 3 => [0, 2, 4, 5, 7] | 4 => [2, 4] | 5 => [0, 2, 4, 5] | 6 => [0, 2, 4] | 7 => [2, 4, 8, 9, 10] | 8 => [2, 4, 10] | 9 => [2, 4, 8, 9] | 10 => [0, 2, 4, 5] | 11 => [0, 2, 4] | 12 => [2, 4, 11, 12, 13] | 13 => [0, 2, 4, 5] | 14 => [0, 2, 4, 5] | 15 => [2, 4, 5, 14, 15] | 16 => [2, 4, 5, 14] | 17 => [2, 4, 14] | 18 => [0, 2, 4, 5] | 19 => [0, 2, 4, 5, 79, 80, 81] | 20 => [0, 2, 4, 5, 79, 80, 81] | 21 => [0, 2, 4, 5, 17, 79, 80, 81] | 22 => [0, 2, 4, 5, 17] | 23 => [2, 4, 5, 17] | 24 => [2, 4, 17] | 25 => [0, 2, 4, 5, 79, 80, 81] | 26 => [2, 4, 5] | 1000001 => [0, 2, 4, 5] | _ => []
def h17 : Nat → List Nat | 0 => [0, 1] | 1 => [2, 3] | 2 => [2, 3, 5] | 3 => [2, 3, 5, 6] | 4 => [2, 3, 5, 6] | 5 => [2, 3, 6] | 6 => [2, 3, 5] | 7 => [2, 3, 5, 7] | 8 => [2, 3, 5, 7] | 9 => [2, 3, 7] | 10 => [2, 3, 5] | 11 => [2, 3] | 12 => [5] | 1000000 => [0, 2, 3, 5] | 1000002 => [0, 2, 3, 5] | 2000011 => [0, 5] | _ => []
def h18 : Nat → List Nat | 0 => [0] | 1 => [0] | 3 => [0] | 5 => [0] | _ => []
def h19 : Nat → List Nat | 0 => [0, 1] | 1 => [0, 1] | _ => []
def h20 : Nat → List Nat | 0 => [0] | 1 => [0] | 3 => [0] | 4 => [0, 4, 5] | 6 => [0, 4, 5] | 7 => [4, 5, 28, 29, 30] | 8 => [4, 5, 28, 29, 30] | 9 => [4, 5, 7, 28, 29, 30] | 11 => [4, 5, 7, 28, 29, 30] | 12 => [4, 5, 28, 29, 30] | 13 => [4, 5] | 15 => [4, 5] | 1000000 => [0, 4, 5] | _ => []
def h21 : Nat → List Nat | 0 => [0] | 1 => [0] | _ => []
def h22 : Nat → List Nat | 0 => [0] | 1 => [0, 2] | 2 => [0, 2, 5] | 3 => [0, 2, 5, 6] | 4 => [0, 2, 5, 6, 7, 8, 9] | 5 => [2, 6] | 6 => [0, 2, 5, 6, 7, 8] | 7 => [0, 2, 5, 6] | 8 => [0, 2, 5, 6, 10] | 9 => [0, 2, 5, 6, 10] | 10 => [0, 2, 5, 6, 10] | 11 => [0, 2, 5, 10] | 12 => [2, 5, 6] | 13 => [2, 5, 6] | 14 => [2, 5, 6] | 1000000 => [0, 2, 5, 6] | 1000002 => [0, 0, 2, 5, 6, 10] | _ => []
def h23 : Nat → List Nat | 0 => [0] | 1 => [0, 2, 4] | 2 => [0, 2, 4, 5] | 3 => [0, 2, 4, 5, 6] | 4 => [0, 2, 4, 5, 6] | 5 => [0, 2, 4, 5, 6, 7, 8] | 6 => [2, 4, 6] | 7 => [0, 2, 4, 5, 6, 7, 8] | 8 => [2, 4, 5, 6] | 9 => [0, 2, 4, 5, 6, 7, 8] | 10 => [0, 2, 4, 5, 6, 7] | 11 => [0, 2, 4, 5, 6, 7, 8] | 12 => [2, 4, 6] | 13 => [0, 2, 4, 5, 6, 7, 8] | 14 => [2, 4] | 1000000 => [0, 2, 4] | 1000002 => [0, 0, 2, 4, 5, 6, 7, 8] | _ => []
def h24 : Nat → List Nat | 0 => [0] | 1 => [0] | _ => []
def h25 : Nat → List Nat | 0 => [0] | 1 => [0, 2] | 2 => [0, 2, 4] | 3 => [0, 2, 4] | 4 => [0, 2, 4] | 5 => [0, 2, 4, 5] | 6 => [0, 2, 4, 5, 6] | 7 => [0, 2, 4, 5] | 8 => [2, 5] | 9 => [0, 2, 4, 5] | 10 => [2, 5] | 11 => [0, 2, 4, 5] | 12 => [0, 2, 4, 5, 56, 57] | 13 => [0, 2, 4, 5, 56, 57] | 14 => [0, 2, 4, 5, 7, 56, 57] | 15 => [2, 5] | 16 => [0, 2, 4, 5, 56, 57] | 17 => [2, 4, 5] | 1000000 => [0, 0, 2, 4] | 1000002 => [0, 2, 4, 5] | _ => []
def h26 : Nat → List Nat | 2 => [1] | 3 => [1, 5, 6, 7] | 4 => [1, 5, 6, 7] | 5 => [1, 3, 5, 6, 7] | 6 => [1, 3, 4, 5, 6, 7] | 7 => [1, 3, 4, 5, 6, 7, 11] | 8 => [1, 3, 5, 6, 7] | 9 => [1, 3, 4, 5, 6, 7, 11] | 10 => [1, 3, 4, 5, 6, 7, 11] | 11 => [1, 3, 5, 6, 7] | 12 => [1, 3, 4, 5, 6, 7, 11] | 13 => [1, 3, 4, 5, 6, 7, 11] | 14 => [1, 3, 5, 6, 7] | 15 => [1, 3, 4, 5, 6, 7] | 16 => [1, 5, 6, 7] | 17 => [1] | 1000000 => [0, 1] | 1000002 => [0, 1, 3, 4, 5, 6, 7] | 2000010 => [0, 1, 3, 4, 5, 6, 7, 11, 14] | 2000013 => [0, 1, 3, 4, 5, 6, 7, 17] | _ => []
def h27 : Nat → List Nat | 0 => [0] | 1 => [0] | _ => []
def h28 : Nat → List Nat | 0 => [0, 1] | 1 => [0, 1] | 2 => [0, 1] | _ => []
def h29 : Nat → List Nat | 0 => [0, 1] | 1 => [0, 1] | 3 => [0, 1] | _ => []
def h30 : Nat → List Nat | 0 => [0, 1] | 1 => [2, 3] | 2 => [2, 3, 5] | 3 => [2, 3] | 4 => [2, 3, 5] | 5 => [2, 3] | 6 => [2, 3, 5] | 7 => [2, 3] | 8 => [5] | 2000003 => [0, 2, 3, 5] | 2000007 => [0, 5] | _ => []
def h31 : Nat → List Nat | 0 => [0] | 1 => [0] | 2 => [0] | 3 => [0] | 4 => [0] | 5 => [0] | 6 => [0] | 8 => [0] | 9 => [0] | 10 => [0] | _ => []
def h32 : Nat → List Nat | 0 => [0] | 1 => [0] | _ => []
def h33 : Nat → List Nat | 0 => [0, 1] | 1 => [0, 1] | 2 => [0, 1] | 3 => [0, 1] | 4 => [0, 1] | 5 => [0, 1] | 6 => [0, 1] | 7 => [0, 1] | 999999 => [1] | _ => []
def h34 : Nat → List Nat | 0 => [0] | 1 => [0] | 2 => [0, 5] | 3 => [0] | 4 => [0, 5] | 5 => [0, 5, 6, 7] | 6 => [0, 5, 6, 7] | 7 => [0, 5, 6, 7] | 8 => [0, 5, 6, 7, 8] | 9 => [0, 5, 6, 7, 8] | 10 => [0, 5, 6, 7] | 11 => [5, 6, 7] | 12 => [5, 6, 7] | 1000000 => [0, 0, 5, 6, 7] | 1000001 => [0, 0, 5, 6, 7] | 2000003 => [0, 0, 5] | _ => []
def h35 : Nat → List Nat | 0 => [0] | 1 => [0, 2] | _ => []
def h36 : Nat → List Nat | 0 => [0] | 1 => [0, 2] | 2 => [0, 2, 3] | 3 => [2, 3, 10, 11, 12] | 4 => [2, 3, 10, 11, 12] | 5 => [2, 3, 5, 10, 11, 12] | 6 => [2, 3, 10, 11, 12] | 7 => [2, 3] | 1000000 => [0, 2, 3] | _ => []
def h37 : Nat → List Nat | 0 => [0] | 1 => [0, 2] | 2 => [0, 2, 3] | 3 => [0, 2, 3] | 4 => [0, 2, 3] | 5 => [2, 3, 14, 15, 16] | 6 => [2, 3, 14, 15, 16] | 7 => [2, 3, 5, 14, 15, 16] | 8 => [2, 3, 14, 15, 16] | 9 => [2, 3] | 1000000 => [0, 2, 3] | 2000003 => [0, 0, 2, 3, 6001000] | _ => []
def H : Nat → Nat → List Nat
  | 6 => h6
  | 7 => h7
  | 8 => h8
  | 10 => h10
  | 11 => h11
  | 12 => h12
  | 13 => h13
  | 14 => h14
  | 15 => h15
  | 16 => h16
  | 17 => h17
  | 18 => h18
  | 19 => h19
  | 20 => h20
  | 21 => h21
  | 22 => h22
  | 23 => h23
  | 24 => h24
  | 25 => h25
  | 26 => h26
  | 27 => h27
  | 28 => h28
  | 29 => h29
  | 30 => h30
  | 31 => h31
  | 32 => h32
  | 33 => h33
  | 34 => h34
  | 35 => h35
  | 36 => h36
  | 37 => h37
  | _ => fun _ => []
noncomputable abbrev P := Go.Proofs.Tryd.prog
instance : Globs := ⟨[(0, (List.range 256).map fun c => Value.int .u8 (if Lib.isSp (UInt8.ofNat c) then 1 else 0))]⟩
def E : Nat → Option Call := fun f => if f = 38 then some fieldsCall else none
noncomputable abbrev X : Ctx := ⟨P, E, H⟩
theorem goFields_ok {s : Str} {r : List Str} (h : goFields s = some r) : aval X 38 [.d (.str s)] [] (.ret (.d (.list 1 (r.map D.str))) []) := by
  obtain ⟨hc, rfl⟩ := goFields_inv h
  refine aval_ext (g := fieldsCall) (args' := [.d (.str s)]) rfl rfl ?_
  show fieldsCall 38 [.d (.str s)] [] = _
  simp only [fieldsCall]
  rw [if_pos hc]
end Go.AM.Seat
namespace Go.AM.Seat
open Go Go.AM Go.Proofs
set_option maxRecDepth 100000
set_option maxHeartbeats 4000000
set_option linter.unusedVariables false
def p_triglyphref03_ints (a_ : Int) (b : Int) : Option (Int) :=
  if (decide (a_ < b)) then
    some (-1)
  else
    if (decide (a_ > b)) then
      some 1
    else
      some 0
def p_triglyphref03_Cmp_l0 (a : Arr × Arr × Int × Int) : Option (Int) := match a with
  | (a_, b, o1, i) =>
    if (decide (i < (List.length a_.shape : Int))) then
      if (o1 == 0) then
        lget a_.shape i >>= fun y =>
        lget b.shape i >>= fun y1 =>
        p_triglyphref03_ints y y1 >>= fun o2 =>
        p_triglyphref03_Cmp_l0 (a_, b, o2, (w64 (i + 1)))
      else
        some o1
    else
      some o1
 partial_fixpoint
mutual
def p_triglyphref03_Cmp_l1 (a : Arr × Arr × Int × Int) : Option (Int) := match a with
  | (a_, b, o4, i1) =>
    if (decide (i1 < (List.length a_.cells : Int))) then
      if (decide (i1 < (List.length b.cells : Int))) then
        if (o4 == 0) then
          lget a_.cells i1 >>= fun y2 =>
          lget b.cells i1 >>= fun y3 =>
          p_triglyphref03_Cell (y2, y3) >>= fun o5 =>
          p_triglyphref03_Cmp_l1 (a_, b, o5, (w64 (i1 + 1)))
        else
          some o4
      else
        some o4
    else
      some o4
 partial_fixpoint
def p_triglyphref03_Cmp (a : Arr × Arr) : Option (Int) := match a with
  | (a_, b) =>
    p_triglyphref03_ints (List.length a_.shape : Int) (List.length b.shape : Int) >>= fun o =>
    (
      p_triglyphref03_Cmp_l0 (a_, b, o, 0)
    : Option (Int)) >>= fun o3 =>
    (
      p_triglyphref03_Cmp_l1 (a_, b, o3, 0)
    : Option (Int)) >>= fun o6 =>
    (
      if (o6 == 0) then
        p_triglyphref03_ints (List.length a_.cells : Int) (List.length b.cells : Int) >>= fun o7 =>
        some o7
      else
        some o6
    : Option (Int)) >>= fun o8 =>
    some o8
 partial_fixpoint
def p_triglyphref03_Cell (a : Cell × Cell) : Option (Int) := match a with
  | (a_, b) =>
    p_triglyphref03_ints a_.kind b.kind >>= fun o =>
    (
      if (o == 0) then
        p_triglyphref03_ints a_.n b.n >>= fun o1 =>
        some o1
      else
        some o
    : Option (Int)) >>= fun o2 =>
    if (o2 == 0) then
      if (decide ((List.length a_.box : Int) > 0)) then
        if (decide ((List.length b.box : Int) > 0)) then
          lget a_.box 0 >>= fun y =>
          lget b.box 0 >>= fun y1 =>
          p_triglyphref03_Cmp (y, y1) >>= fun x =>
          some x
        else
          (
            if (o2 == 0) then
              p_triglyphref03_ints (List.length a_.box : Int) (List.length b.box : Int) >>= fun o3 =>
              some o3
            else
              some o2
          : Option (Int)) >>= fun o4 =>
          some o4
      else
        (
          if (o2 == 0) then
            p_triglyphref03_ints (List.length a_.box : Int) (List.length b.box : Int) >>= fun o5 =>
            some o5
          else
            some o2
        : Option (Int)) >>= fun o6 =>
        some o6
    else
      (
        if (o2 == 0) then
          p_triglyphref03_ints (List.length a_.box : Int) (List.length b.box : Int) >>= fun o7 =>
          some o7
        else
          some o2
      : Option (Int)) >>= fun o8 =>
      some o8
 partial_fixpoint
end
def p_triglyphref03_Same (a_ : Arr) (b : Arr) : Option (Bool) :=
  p_triglyphref03_Cmp (a_, b) >>= fun x =>
  some (x == 0)
def p_triglyphref02_Good (n : Int) : Option (Bool) :=
  if (decide (n ≥ 0)) then
    if (decide (n < 55296)) then
      some true
    else
      if (decide (n > 57343)) then
        some (decide (n < 1114112))
      else
        some false
  else
    if (decide (n > 57343)) then
      some (decide (n < 1114112))
    else
      some false
def p_triglyphref02_width (n : Int) : Option (Int) :=
  if (decide (n < 128)) then
    some 1
  else
    if (decide (n < 2048)) then
      some 2
    else
      if (decide (n < 65536)) then
        some 3
      else
        some 4
def p_triglyphref02_Put_l0 (a : Int × Int × Int × (List Int)) : Option (Int × (List Int)) := match a with
  | (k, n1, i, out1) =>
    if (decide (i > 0)) then
      aidx i (Int.toNat k) >>= fun j =>
      aset out1 j (IntKind.u8.wrap (w64 (128 + (Int.tmod n1 64)))) >>= fun out2 =>
      p_triglyphref02_Put_l0 (k, (w64 (Int.tdiv n1 64)), (w64 (i - 1)), out2)
    else
      some (n1, out1)
 partial_fixpoint
def p_triglyphref02_Put (n : Int) : Option ((List Int)) :=
  p_triglyphref02_width n >>= fun k =>
  mkarr k 0 >>= fun out =>
  (
    p_triglyphref02_Put_l0 (k, n, (w64 (k - 1)), out)
  : Option (Int × (List Int))) >>= fun (n2, out3) =>
  (
    if (k == 1) then
      aidx 0 (Int.toNat k) >>= fun j1 =>
      aset out3 j1 (IntKind.u8.wrap n2) >>= fun out4 =>
      some out4
    else
      if (k == 2) then
        aidx 0 (Int.toNat k) >>= fun j2 =>
        aset out3 j2 (IntKind.u8.wrap (w64 (192 + n2))) >>= fun out5 =>
        some out5
      else
        if (k == 3) then
          aidx 0 (Int.toNat k) >>= fun j3 =>
          aset out3 j3 (IntKind.u8.wrap (w64 (224 + n2))) >>= fun out6 =>
          some out6
        else
          aidx 0 (Int.toNat k) >>= fun j4 =>
          aset out3 j4 (IntKind.u8.wrap (w64 (240 + n2))) >>= fun out7 =>
          some out7
  : Option ((List Int))) >>= fun out8 =>
  afrz (Int.toNat k) out8 >>= fun out9 =>
  some out9
def p_triglyphref03_Text_l0 (a : ((List Int)) × Int × (List Cell)) : Option ((List Cell)) := match a with
  | (l, i, out1) =>
    if (decide (i < (List.length l : Int))) then
      lget l i >>= fun y =>
      lapp out1 [(Cell.mk 1 y [])] >>= fun l1 =>
      p_triglyphref03_Text_l0 (l, (w64 (i + 1)), l1)
    else
      some out1
 partial_fixpoint
def p_triglyphref03_Text (l : (List Int)) : Option (Arr) :=
  (
    p_triglyphref03_Text_l0 (l, 0, [])
  : Option ((List Cell))) >>= fun out11 =>
  (
    if ((List.length l : Int) != 1) then
      some [(List.length l : Int)]
    else
      some []
  : Option ((List Int))) >>= fun out0 =>
  some (Arr.mk out0 out11)
def p_triglyphref03_Nums_l0 (a : ((List Int)) × Int × (List Cell)) : Option ((List Cell)) := match a with
  | (l, i, out1) =>
    if (decide (i < (List.length l : Int))) then
      lget l i >>= fun y =>
      lapp out1 [(Cell.mk 0 y [])] >>= fun l1 =>
      p_triglyphref03_Nums_l0 (l, (w64 (i + 1)), l1)
    else
      some out1
 partial_fixpoint
def p_triglyphref03_Nums (l : (List Int)) : Option (Arr) :=
  (
    p_triglyphref03_Nums_l0 (l, 0, [])
  : Option ((List Cell))) >>= fun out11 =>
  some (Arr.mk [(List.length l : Int)] out11)
def p_stringslite_HasPrefix (s : Str) (prefix_ : Str) : Option (Bool) :=
  if (decide ((List.length s : Int) ≥ (List.length prefix_ : Int))) then
    sto s (List.length prefix_ : Int) >>= fun s1 =>
    some (s1 == prefix_)
  else
    some false
def p_strings_HasPrefix (s : Str) (prefix_ : Str) : Option (Bool) :=
  p_stringslite_HasPrefix s prefix_ >>= fun x =>
  some x
def p_runes_first (c : Int) : Option (Int × Int) :=
  if (decide (c < 128)) then
    some (1, (w64 c))
  else
    if (decide (c < 192)) then
      some (0, 0)
    else
      if (decide (c ≥ 248)) then
        some (0, 0)
      else
        if (decide (c < 224)) then
          some (2, (w64 (IntKind.u8.wrap ((BitVec.ofInt 8 c &&& BitVec.ofInt 8 31).toNat))))
        else
          if (decide (c < 240)) then
            some (3, (w64 (IntKind.u8.wrap ((BitVec.ofInt 8 c &&& BitVec.ofInt 8 15).toNat))))
          else
            some (4, (w64 (IntKind.u8.wrap ((BitVec.ofInt 8 c &&& BitVec.ofInt 8 7).toNat))))
def p_runes_Good (n : Int) : Option (Bool) :=
  if (decide (n ≥ 0)) then
    if (decide (n ≤ 1114111)) then
      if (decide (n < 55296)) then
        some true
      else
        some (decide (n > 57343))
    else
      some false
  else
    some false
def p_runes_put_nil (n : Int) : Option ((List Int)) :=
  if (decide (n < 128)) then
    lapp [] [(IntKind.u8.wrap n)] >>= fun l =>
    some l
  else
    if (decide (n < 2048)) then
      lapp [] [(IntKind.u8.wrap (w64 ((BitVec.ofInt 64 192 ||| BitVec.ofInt 64 (Int.fdiv n (2 ^ 6))).toNat))), (IntKind.u8.wrap (w64 ((BitVec.ofInt 64 128 ||| BitVec.ofInt 64 (w64 ((BitVec.ofInt 64 n &&& BitVec.ofInt 64 63).toNat))).toNat)))] >>= fun l1 =>
      some l1
    else
      if (decide (n < 65536)) then
        lapp [] [(IntKind.u8.wrap (w64 ((BitVec.ofInt 64 224 ||| BitVec.ofInt 64 (Int.fdiv n (2 ^ 12))).toNat))), (IntKind.u8.wrap (w64 ((BitVec.ofInt 64 128 ||| BitVec.ofInt 64 (w64 ((BitVec.ofInt 64 (Int.fdiv n (2 ^ 6)) &&& BitVec.ofInt 64 63).toNat))).toNat))), (IntKind.u8.wrap (w64 ((BitVec.ofInt 64 128 ||| BitVec.ofInt 64 (w64 ((BitVec.ofInt 64 n &&& BitVec.ofInt 64 63).toNat))).toNat)))] >>= fun l2 =>
        some l2
      else
        lapp [] [(IntKind.u8.wrap (w64 ((BitVec.ofInt 64 240 ||| BitVec.ofInt 64 (Int.fdiv n (2 ^ 18))).toNat))), (IntKind.u8.wrap (w64 ((BitVec.ofInt 64 128 ||| BitVec.ofInt 64 (w64 ((BitVec.ofInt 64 (Int.fdiv n (2 ^ 12)) &&& BitVec.ofInt 64 63).toNat))).toNat))), (IntKind.u8.wrap (w64 ((BitVec.ofInt 64 128 ||| BitVec.ofInt 64 (w64 ((BitVec.ofInt 64 (Int.fdiv n (2 ^ 6)) &&& BitVec.ofInt 64 63).toNat))).toNat))), (IntKind.u8.wrap (w64 ((BitVec.ofInt 64 128 ||| BitVec.ofInt 64 (w64 ((BitVec.ofInt 64 n &&& BitVec.ofInt 64 63).toNat))).toNat)))] >>= fun l3 =>
        some l3
def p_runes_One_l0 (a : (List Int) × Int × Int) : Option (Except (Int × Int) (Int)) := match a with
  | (l, n1, x) =>
    if (decide (x < (List.length l : Int))) then
      lget l x >>= fun c =>
      if ((IntKind.u8.wrap ((BitVec.ofInt 8 c &&& BitVec.ofInt 8 192).toNat)) != 128) then
        some (.error (0, 0))
      else
        p_runes_One_l0 (l, (w64 ((BitVec.ofInt 64 (w64 (n1 * 2 ^ 6)) ||| BitVec.ofInt 64 (w64 (IntKind.u8.wrap ((BitVec.ofInt 8 c &&& BitVec.ofInt 8 63).toNat)))).toNat)), (w64 (x + 1)))
    else
      some (.ok n1)
 partial_fixpoint
def p_runes_One (b : (List Int)) : Option (Int × Int) :=
  if ((List.length b : Int) == 0) then
    some (0, 0)
  else
    lget b 0 >>= fun y =>
    p_runes_first y >>= fun (k, n) =>
    if (k == 0) then
      some (0, 0)
    else
      if (decide (k > (List.length b : Int))) then
        some (0, 0)
      else
        lmid b 1 k >>= fun l =>
        (
          p_runes_One_l0 (l, n, 0)
        : Option (Except (Int × Int) (Int))) >>= fun res => match res with
        | .error r => some r
        | .ok n2 =>
          p_runes_Good n2 >>= fun x1 =>
          if (!x1) then
            some (0, 0)
          else
            p_runes_put_nil n2 >>= fun x2 =>
            if ((List.length x2 : Int) != k) then
              some (0, 0)
            else
              some (n2, k)
def p_jlex_digit (c : Int) : Option (Bool) :=
  if (decide (c ≥ 48)) then
    some (decide (c ≤ 57))
  else
    some false
def p_jlex_at (s : Str) (i : Int) : Option (Int) :=
  if (decide (i < (List.length s : Int))) then
    sget s i >>= fun c =>
    some c
  else
    some 0
def p_jlex_begins (s : Str) : Option (Bool) :=
  p_jlex_at s 0 >>= fun x =>
  p_jlex_digit x >>= fun x1 =>
  if x1 then
    some true
  else
    p_jlex_at s 0 >>= fun x2 =>
    if (x2 == 95) then
      p_jlex_at s 1 >>= fun x3 =>
      p_jlex_digit x3 >>= fun x4 =>
      some x4
    else
      some false
def p_jlex_number_l0 (a : Str × Int × Int × Bool) : Option (Int × Int × Bool) := match a with
  | (s, k1, n, ok) =>
    p_jlex_at s k1 >>= fun x =>
    p_jlex_digit x >>= fun x1 =>
    if x1 then
      (
        sget s k1 >>= fun c1 =>
        if ok then
          some ((IntKind.u64.wrap ((IntKind.u64.wrap (n * 10)) + (IntKind.u64.wrap (IntKind.u8.wrap (c1 - 48))))), (decide (n ≤ (IntKind.u64.wrap (Int.tdiv (IntKind.u64.wrap (9223372036854775808 - (IntKind.u64.wrap (IntKind.u8.wrap (c1 - 48))))) 10)))))
        else
          some ((IntKind.u64.wrap ((IntKind.u64.wrap (n * 10)) + (IntKind.u64.wrap (IntKind.u8.wrap (c1 - 48))))), false)
      : Option (Int × Bool)) >>= fun (n1, ok1) =>
      p_jlex_number_l0 (s, (w64 (k1 + 1)), n1, ok1)
    else
      some (k1, n, ok)
 partial_fixpoint
def p_jlex_number (s : Str) : Option (Int × Int × Bool) :=
  sget s 0 >>= fun c =>
  (
    if (c == 95) then
      some 1
    else
      some 0
  : Option (Int)) >>= fun k =>
  (
    p_jlex_number_l0 (s, k, 0, true)
  : Option (Int × Int × Bool)) >>= fun (k2, n2, ok2) =>
  sget s 0 >>= fun c2 =>
  if (c2 == 95) then
    some ((w64 (IntKind.u64.wrap (0 - n2))), k2, ok2)
  else
    if ok2 then
      some ((w64 n2), k2, (decide (n2 < 9223372036854775808)))
    else
      some ((w64 n2), k2, false)
def p_arr_Atom (n : Int) : Option (Arr) :=
  some (Arr.mk [] [(Cell.mk 0 n [])])
def p_arr_Nums_l0 (a : ((List Int)) × Int × (List Cell)) : Option ((List Cell)) := match a with
  | (l, x, a1) =>
    if (decide (x < (List.length l : Int))) then
      lget l x >>= fun n =>
      lapp a1 [(Cell.mk 0 n [])] >>= fun l1 =>
      p_arr_Nums_l0 (l, (w64 (x + 1)), l1)
    else
      some a1
 partial_fixpoint
def p_arr_Nums (l : (List Int)) : Option (Arr) :=
  (
    p_arr_Nums_l0 (l, 0, [])
  : Option ((List Cell))) >>= fun a11 =>
  some (Arr.mk [(List.length l : Int)] a11)
def p_jlex_numbers_l1 (a : Str × Int) : Option (Int) := match a with
  | (s, j) =>
    p_jlex_at s j >>= fun x =>
    if (x == 32) then
      p_jlex_numbers_l1 (s, (w64 (j + 1)))
    else
      some j
 partial_fixpoint
def p_jlex_numbers_l0 (a : Str × (List Int) × Int) : Option (Except (Arr × Int × Int) ((List Int) × Int)) := match a with
  | (s, l, i) =>
    sfrom s i >>= fun s1 =>
    p_jlex_number s1 >>= fun (n, k, ok) =>
    if (!ok) then
      some (.error ((Arr.mk [] []), 0, i))
    else
      lapp l [n] >>= fun l1 =>
      (
        p_jlex_numbers_l1 (s, (w64 (i + k)))
      : Option (Int)) >>= fun j1 =>
      if (j1 == (w64 (i + k))) then
        some (.ok (l1, (w64 (i + k))))
      else
        sfrom s j1 >>= fun s2 =>
        p_jlex_begins s2 >>= fun x1 =>
        if (!x1) then
          some (.ok (l1, (w64 (i + k))))
        else
          p_jlex_numbers_l0 (s, l1, j1)
 partial_fixpoint
def p_jlex_numbers (s : Str) : Option (Arr × Int × Int) :=
  (
    p_jlex_numbers_l0 (s, [], 0)
  : Option (Except (Arr × Int × Int) ((List Int) × Int))) >>= fun res => match res with
  | .error r => some r
  | .ok (l2, i1) =>
    if ((List.length l2 : Int) == 1) then
      lget l2 0 >>= fun y =>
      p_arr_Atom y >>= fun x2 =>
      some (x2, i1, (-1))
    else
      p_arr_Nums l2 >>= fun x3 =>
      some (x3, i1, (-1))
def p_arr_Text_l0 (a : ((List Int)) × Int × (List Cell)) : Option ((List Cell)) := match a with
  | (l, x, a1) =>
    if (decide (x < (List.length l : Int))) then
      lget l x >>= fun n =>
      lapp a1 [(Cell.mk 1 n [])] >>= fun l1 =>
      p_arr_Text_l0 (l, (w64 (x + 1)), l1)
    else
      some a1
 partial_fixpoint
def p_arr_Text (l : (List Int)) : Option (Arr) :=
  (
    if ((List.length l : Int) == 1) then
      some []
    else
      some [(List.length l : Int)]
  : Option ((List Int))) >>= fun a0 =>
  (
    p_arr_Text_l0 (l, 0, [])
  : Option ((List Cell))) >>= fun a11 =>
  some (Arr.mk a0 a11)
def p_jlex_text_l0 (a : Str × (List Int) × Int) : Option (Except (Arr × Int × Fault) (Unit)) := match a with
  | (s, l, i) =>
    if (decide (i < (List.length s : Int))) then
      sfrom s i >>= fun s1 =>
      sbytes s1 >>= fun b =>
      p_runes_One b >>= fun (n, k) =>
      (
        if (k == 0) then
          some (.error ((Arr.mk [] []), 0, (Fault.mk 3 i 0)))
        else
          if (n == 39) then
            p_jlex_at s (w64 (i + 1)) >>= fun x =>
            if (x != 39) then
              p_arr_Text l >>= fun x1 =>
              some (.error (x1, (w64 (i + 1)), (Fault.mk 0 0 0)))
            else
              if (n == 39) then
                some (.ok 2)
              else
                if (decide (n < 32)) then
                  some (.error ((Arr.mk [] []), 0, (Fault.mk 2 i 0)))
                else
                  if (n == 127) then
                    some (.error ((Arr.mk [] []), 0, (Fault.mk 2 i 0)))
                  else
                    some (.ok k)
          else
            if (n == 39) then
              some (.ok 2)
            else
              if (decide (n < 32)) then
                some (.error ((Arr.mk [] []), 0, (Fault.mk 2 i 0)))
              else
                if (n == 127) then
                  some (.error ((Arr.mk [] []), 0, (Fault.mk 2 i 0)))
                else
                  some (.ok k)
      : Option (Except (Arr × Int × Fault) (Int))) >>= fun res => match res with
      | .error r => some (.error r)
      | .ok k1 =>
        lapp l [n] >>= fun l1 =>
        p_jlex_text_l0 (s, l1, (w64 (i + k1)))
    else
      some (.ok ())
 partial_fixpoint
def p_jlex_text (s : Str) : Option (Arr × Int × Fault) :=
  (
    p_jlex_text_l0 (s, [], 1)
  : Option (Except (Arr × Int × Fault) (Unit))) >>= fun res => match res with
  | .error r => some r
  | .ok _ =>
    some ((Arr.mk [] []), 0, (Fault.mk 2 0 0))
def p_jlex_letter (c : Int) : Option (Bool) :=
  if (decide (c ≥ 97)) then
    some (decide (c ≤ 122))
  else
    some false
def p_jlex_name_l0 (a : Str × Int) : Option (Int) := match a with
  | (s, k) =>
    p_jlex_at s k >>= fun x =>
    p_jlex_letter x >>= fun x1 =>
    if x1 then
      p_jlex_name_l0 (s, (w64 (k + 1)))
    else
      p_jlex_at s k >>= fun x2 =>
      p_jlex_digit x2 >>= fun x3 =>
      if x3 then
        p_jlex_name_l0 (s, (w64 (k + 1)))
      else
        some k
 partial_fixpoint
def p_jlex_name_l1 (a : Str × Int × Str × Int) : Option (Except (Token × Bool) (Unit)) := match a with
  | (s, k1, s1, x4) =>
    if (decide (x4 < k1)) then
      sget s x4 >>= fun c1 =>
      if (decide (c1 > 119)) then
        some (.error ((Token.mk 3 s1 (Arr.mk [] []) 0), false))
      else
        p_jlex_name_l1 (s, k1, s1, (w64 (x4 + 1)))
    else
      some (.ok ())
 partial_fixpoint
def p_jlex_name (s : Str) : Option (Token × Bool) :=
  (
    p_jlex_name_l0 (s, 1)
  : Option (Int)) >>= fun k1 =>
  sto s k1 >>= fun s1 =>
  p_jlex_at s k1 >>= fun c =>
  if (c == 46) then
    sto s (w64 (k1 + 1)) >>= fun s2 =>
    if (s2 == [105, 46]) then
      some ((Token.mk 4 s2 (Arr.mk [] []) 0), true)
    else
      some ((Token.mk 4 s2 (Arr.mk [] []) 0), (s2 == [101, 46]))
  else
    if (c == 58) then
      sto s (w64 (k1 + 1)) >>= fun s3 =>
      if (s3 == [105, 46]) then
        some ((Token.mk 4 s3 (Arr.mk [] []) 0), true)
      else
        some ((Token.mk 4 s3 (Arr.mk [] []) 0), (s3 == [101, 46]))
    else
      if (s1 == [120]) then
        some ((Token.mk 3 s1 (Arr.mk [] []) 0), true)
      else
        if (s1 == [121]) then
          some ((Token.mk 3 s1 (Arr.mk [] []) 0), true)
        else
          (
            p_jlex_name_l1 (s, k1, s1, 0)
          : Option (Except (Token × Bool) (Unit))) >>= fun res => match res with
          | .error r => some r
          | .ok _ =>
            some ((Token.mk 3 s1 (Arr.mk [] []) 0), (decide (k1 ≤ 8)))
def p_jlex_words_l0 (a : ((List Str)) × (List Token) × Int) : Option ((List Token)) := match a with
  | (x, l, x1) =>
    if (decide (x1 < (List.length x : Int))) then
      lget x x1 >>= fun s =>
      (
        if (s == [61, 58]) then
          some 7
        else
          (
            if (s == [123, 123]) then
              some (s == [123, 123])
            else
              some (s == [40])
          : Option (Bool)) >>= fun x2 =>
          if x2 then
            some 5
          else
            (
              if (s == [125, 125]) then
                some (s == [125, 125])
              else
                some (s == [41])
            : Option (Bool)) >>= fun x3 =>
            if x3 then
              some 6
            else
              some 4
      : Option (Int)) >>= fun kind =>
      lapp l [(Token.mk kind s (Arr.mk [] []) 0)] >>= fun l1 =>
      p_jlex_words_l0 (x, l1, (w64 (x1 + 1)))
    else
      some l
 partial_fixpoint
def p_jlex_words  : Option ((List Token)) :=
  goFields [61, 58, 32, 123, 123, 32, 125, 125, 32, 40, 32, 41, 32, 45, 46, 32, 124, 46, 32, 124, 58, 32, 60, 46, 32, 60, 58, 32, 62, 46, 32, 62, 58, 32, 126, 46, 32, 126, 58, 32, 44, 58, 32, 47, 58, 32, 92, 58, 32, 123, 46, 32, 125, 46, 32, 94, 58, 32, 34, 49, 32, 45, 32, 42, 32, 124, 32, 37, 32, 43, 32, 60, 32, 62, 32, 61, 32, 126, 32, 36, 32, 35, 32, 44, 32, 47, 32, 92, 32, 123] >>= fun x =>
  (
    p_jlex_words_l0 (x, [], 0)
  : Option ((List Token))) >>= fun l2 =>
  some l2
def p_jlex_word_l0 (a : Str × ((List Token)) × Int) : Option (Except (Token × Int × Fault) (Unit)) := match a with
  | (s, x7, x8) =>
    if (decide (x8 < (List.length x7 : Int))) then
      lget x7 x8 >>= fun y =>
      p_strings_HasPrefix s y.text >>= fun x9 =>
      if x9 then
        if (y.text == [34, 49]) then
          p_jlex_at s 2 >>= fun x10 =>
          p_jlex_digit x10 >>= fun x11 =>
          if x11 then
            some (.error (y, 0, (Fault.mk 2 0 0)))
          else
            some (.error (y, (List.length y.text : Int), (Fault.mk 0 0 0)))
        else
          some (.error (y, (List.length y.text : Int), (Fault.mk 0 0 0)))
      else
        p_jlex_word_l0 (s, x7, (w64 (x8 + 1)))
    else
      some (.ok ())
 partial_fixpoint
def p_jlex_word (s : Str) : Option (Token × Int × Fault) :=
  sbytes s >>= fun b =>
  p_runes_One b >>= fun (x, k) =>
  if (k == 0) then
    some ((Token.mk 0 [] (Arr.mk [] []) 0), 0, (Fault.mk 3 0 0))
  else
    p_jlex_begins s >>= fun x1 =>
    if x1 then
      p_jlex_numbers s >>= fun (x2, k1, where_) =>
      if (decide (where_ ≥ 0)) then
        some ((Token.mk 0 [] (Arr.mk [] []) 0), 0, (Fault.mk 2 where_ 0))
      else
        some ((Token.mk 1 [] x2 0), k1, (Fault.mk 0 0 0))
    else
      sget s 0 >>= fun c =>
      if (c == 39) then
        p_jlex_text s >>= fun (x3, k2, x4) =>
        some ((Token.mk 2 [] x3 0), k2, x4)
      else
        sget s 0 >>= fun c1 =>
        p_jlex_letter c1 >>= fun x5 =>
        if x5 then
          p_jlex_name s >>= fun (x6, ok) =>
          if (!ok) then
            some (x6, 0, (Fault.mk 2 0 0))
          else
            some (x6, (List.length x6.text : Int), (Fault.mk 0 0 0))
        else
          p_jlex_words >>= fun x7 =>
          (
            p_jlex_word_l0 (s, x7, 0)
          : Option (Except (Token × Int × Fault) (Unit))) >>= fun res => match res with
          | .error r => some r
          | .ok _ =>
            some ((Token.mk 0 [] (Arr.mk [] []) 0), 0, (Fault.mk 2 0 0))
def p_jlex_Lex_l0 (a : Str × Int × (List Token)) : Option (Except ((List Token) × Fault) ((List Token))) := match a with
  | (s, i, l) =>
    if (decide (i < (List.length s : Int))) then
      sget s i >>= fun c =>
      if (c == 32) then
        p_jlex_Lex_l0 (s, (w64 (i + 1)), l)
      else
        sfrom s i >>= fun s1 =>
        p_strings_HasPrefix s1 [78, 66, 46] >>= fun x =>
        if x then
          some (.ok l)
        else
          if ((List.length l : Int) == 2048) then
            some (.error ([], (Fault.mk 14 i 0)))
          else
            sfrom s i >>= fun s2 =>
            p_jlex_word s2 >>= fun (x1, k, x2) =>
            if (x2.err != 0) then
              some (.error ([], (Fault.mk x2.err (w64 (x2.at_ + i)) x2.why)))
            else
              lapp l [(Token.mk x1.kind x1.text x1.lit i)] >>= fun l1 =>
              p_jlex_Lex_l0 (s, (w64 (i + k)), l1)
    else
      some (.ok l)
 partial_fixpoint
def p_jlex_Lex (s : Str) : Option ((List Token) × Fault) :=
  if (decide ((List.length s : Int) > 8192)) then
    some ([], (Fault.mk 14 0 0))
  else
    (
      p_jlex_Lex_l0 (s, 0, [])
    : Option (Except ((List Token) × Fault) ((List Token)))) >>= fun res => match res with
    | .error r => some r
    | .ok l2 =>
      some (l2, (Fault.mk 0 0 0))
def p_triglyphlaw13_works  : Option (Bool) :=
  p_jlex_Lex [97, 61, 58, 32, 105, 46, 32, 49, 32, 95, 50, 32, 78, 66, 46, 32, 120] >>= fun (l, x) =>
  p_jlex_Lex [49, 32, 97, 98, 46] >>= fun (x1, x2) =>
  if (x.err == 0) then
    if ((List.length l : Int) == 4) then
      lget l 1 >>= fun y =>
      if (y.kind == 7) then
        lget l 2 >>= fun y1 =>
        if (y1.text == [105, 46]) then
          lget l 3 >>= fun y2 =>
          p_triglyphref03_Nums [1, (-2)] >>= fun x3 =>
          p_triglyphref03_Same y2.lit x3 >>= fun x4 =>
          if x4 then
            if (x2.err == 2) then
              some (x2.at_ == 2)
            else
              some false
          else
            some false
        else
          some false
      else
        some false
    else
      some false
  else
    some false
def p_triglyphlaw13_JlexTexts_l0 (a : ((List Int)) × (List Int) × Int) : Option (Except (Bool) ((List Int))) := match a with
  | (l, b, i) =>
    if (decide (i < (List.length l : Int))) then
      lget l i >>= fun y =>
      p_triglyphref02_Good y >>= fun x1 =>
      if (!x1) then
        p_triglyphlaw13_works >>= fun x2 =>
        some (.error x2)
      else
        lget l i >>= fun y1 =>
        if (decide (y1 < 32)) then
          p_triglyphlaw13_works >>= fun x3 =>
          some (.error x3)
        else
          lget l i >>= fun y2 =>
          if (y2 == 127) then
            p_triglyphlaw13_works >>= fun x4 =>
            some (.error x4)
          else
            lget l i >>= fun y3 =>
            (
              if (y3 == 39) then
                lapp b [39] >>= fun b1 =>
                some b1
              else
                some b
            : Option ((List Int))) >>= fun b2 =>
            lget l i >>= fun y4 =>
            p_triglyphref02_Put y4 >>= fun x5 =>
            lapp b2 x5 >>= fun b3 =>
            p_triglyphlaw13_JlexTexts_l0 (l, b3, (w64 (i + 1)))
    else
      some (.ok b)
 partial_fixpoint
def p_triglyphlaw13_JlexTexts (l : (List Int)) : Option (Bool) :=
  if (decide ((List.length l : Int) > 500)) then
    p_triglyphlaw13_works >>= fun x =>
    some x
  else
    (
      p_triglyphlaw13_JlexTexts_l0 (l, [], 0)
    : Option (Except (Bool) ((List Int)))) >>= fun res => match res with
    | .error r => some r
    | .ok b4 =>
      scat [39] (bstr b4) >>= fun s =>
      scat s [39] >>= fun s1 =>
      p_jlex_Lex s1 >>= fun (m, x6) =>
      if (x6.err == 0) then
        if ((List.length m : Int) == 1) then
          lget m 0 >>= fun y5 =>
          if (y5.kind == 2) then
            lget m 0 >>= fun y6 =>
            p_triglyphref03_Text l >>= fun x7 =>
            p_triglyphref03_Same y6.lit x7 >>= fun x8 =>
            if x8 then
              p_triglyphlaw13_works >>= fun x9 =>
              some x9
            else
              some false
          else
            some false
        else
          some false
      else
        some false
end Go.AM.Seat

namespace Go.AM
open Go Go.ChangeShapes
variable [Globs]
theorem addr_ad {a : Addr} (h : a.spot = none) : a = ad a.block a.off := by
  obtain ⟨b, o, s⟩ := a
  simp only at h; subst h; rfl
theorem rep_ints {H : Type} {enc : TypeId × Value → H} {P : Program} {w : World} {base : Nat} {sp : Nat → Bool} {held : Bool} {t e : TypeId} {k : IntKind} {v : Value} {d : DataW H} {ps : List MemPlace} (ht : P.underlying t = some (.slice e)) (he : P.underlying e = some (.int k)) (hc : P.cellsOf e = 1)
    (hv : ∃ a len cap, v = .slice a len cap) (h : DataW.Trod enc P w base sp held t v d ps) : ∃ xs : List Int, RepC (colRo w) (fun _ => 0) w (.d (.list 1 (xs.map (D.int k)))) v ∧ xs.length ≤ maxLen ∧ ∀ n ∈ xs, (Lit.int k n).wf = true := by
  obtain ⟨a0, len0, cap0, rfl⟩ := hv
  obtain ⟨fuel, hf⟩ := h
  rcases open_ints ht he hc hf with ⟨hcs, hx⟩ | ⟨a, len, cap, zs, hcs, _, hl, hm, hz, hx, hcell, hwz⟩
  · refine ⟨[], ?_, by simp, by simp⟩
    have : Value.slice a0 len0 cap0 = .slice none 0 0 := by simpa [Value.cells] using hcs
    rw [this]
    simp only [RepC, Rep, List.map_nil]
    exact .inl ⟨by simp, .inl rfl⟩
  · have hv : Value.slice a0 len0 cap0 = .slice (some a) len cap := by simpa [Value.cells] using hcs
    rw [hv]
    have hlz : len ≤ zs.length := by rw [hz]; split <;> omega
    refine ⟨zs.take len, ?_, by simp; omega, fun n hn => hwz n (List.mem_of_mem_take hn)⟩
    have hlen : ((zs.take len).map (D.int k)).length = len := by simp; omega
    simp only [RepC, Rep]
    by_cases h0 : len = 0
    · subst h0
      exact .inl ⟨by simp, .inr ⟨a, cap, rfl⟩⟩
    · have hsp : a.spot = none := by
        have := hcell 0 (by omega)
        rw [show a.add 0 = a from by simp [Addr.add]] at this
        unfold World.cell? at this
        split at this
        · split at this
          · simp at this
          · rename_i hs; simpa using hs
        · simp at this
      have hada := addr_ad hsp
      refine .inr ⟨a.block, a.off, cap, by rw [hlen, ← hada], by rw [hlen]; exact hl, ?_⟩
      have aux : ∀ (ys : List Int) (off : Nat), (∀ i y, ys[i]? = some y → w.cell? (ad a.block (off + i)) = some (.int k y)) → RepE (colRo w) w 1 a.block off (ys.map (D.int k)) := by
        intro ys
        induction ys with
        | nil => intro off _; simp [RepE]
        | cons y ys ih =>
          intro off h
          simp only [List.map_cons, RepE]
          refine ⟨⟨.int k y, by simp [Rep], rfl, ?_⟩, ih (off + 1) fun i z hz => by rw [show off + 1 + i = off + (i + 1) from by omega]; exact h (i + 1) z (by simpa using hz)⟩
          intro i u hu
          have hi : i = 0 := by
            rcases i with _ | i
            · rfl
            · simp [Value.cells] at hu
          subst hi
          have hu' : u = .int k y := by simpa [Value.cells] using hu.symm
          subst hu'
          have := h 0 y (by simp)
          refine ⟨?_, this⟩
          simp only [colRo]; rw [if_pos (block_lt this)]
      refine aux _ _ fun i y hy => ?_
      rw [List.getElem?_take] at hy
      split at hy
      · rename_i hi
        have := hcell i (by omega)
        have e : a.add i = ad a.block (a.off + i) := by
          rw [hada]; unfold Addr.add
          split
          · rename_i h; subst h; rfl
          · rfl
        rw [e] at this
        rw [this]
        simp [List.getD, hy]
      · simp at hy
end Go.AM

namespace Go.Proofs
open Go.Shelf
def Tryd.lays157_ren : Go.Shelf.Ren := ⟨fun | 157 => 38 | 229 => 39 | 199 => 40 | 261 => 41 | 311 => 42 | 312 => 43 | n => n, fun | 9 => 9 | 31 => 73 | 3 => 3 | 5 => 5 | 4 => 4 | 119 => 76 | 0 => 0 | 40 => 78 | 152 => 79 | 21 => 21 | 154 => 81 | 51 => 82 | 141 => 84 | 196 => 88 | 193 => 85 | 198 => 91 | 49 => 89 | 194 => 86 | 201 => 94 | 226 => 96 | 46 => 68 | 227 => 97 | n => n, fun | 0 => 0 | 6 => 1 | n => n⟩
theorem Tryd.lays157 : Go.Proofs.Lays.n157 Tryd.prog Tryd.lays157_ren := {
  mixed := by kernel_rfl
  f157 := Tryd.func38.trans (congrArg some (by kernel_rfl))
  f199 := Tryd.func40.trans (congrArg some (by kernel_rfl))
  f229 := Tryd.func39.trans (congrArg some (by kernel_rfl))
  f261 := Tryd.func41.trans (congrArg some (by kernel_rfl))
  f311 := Tryd.func42.trans (congrArg some (by kernel_rfl))
  f312 := Tryd.func43.trans (congrArg some (by kernel_rfl))
  t0 := Tryd.underlying0
  a0 := Tryd.isAgg0
  z0 := Tryd.sizeOf0
  v0 := Tryd.zeroValue0
  t3 := Tryd.underlying3
  a3 := Tryd.isAgg3
  z3 := Tryd.sizeOf3
  v3 := Tryd.zeroValue3
  t4 := Tryd.underlying4
  a4 := Tryd.isAgg4
  z4 := Tryd.sizeOf4
  v4 := Tryd.zeroValue4
  t5 := Tryd.underlying5
  a5 := Tryd.isAgg5
  z5 := Tryd.sizeOf5
  v5 := Tryd.zeroValue5
  t9 := Tryd.underlying9
  a9 := Tryd.isAgg9
  z9 := Tryd.sizeOf9
  v9 := Tryd.zeroValue9
  t21 := Tryd.underlying21
  a21 := Tryd.isAgg21
  z21 := Tryd.sizeOf21
  v21 := Tryd.zeroValue21
  t31 := Tryd.underlying73
  a31 := Tryd.isAgg73
  z31 := Tryd.sizeOf73
  v31 := Tryd.zeroValue73
  t40 := Tryd.underlying78
  a40 := Tryd.isAgg78
  z40 := Tryd.sizeOf78
  v40 := Tryd.zeroValue78
  t46 := Tryd.underlying68
  a46 := Tryd.isAgg68
  z46 := Tryd.sizeOf68
  v46 := Tryd.zeroValue68
  t49 := Tryd.underlying89
  a49 := Tryd.isAgg89
  z49 := Tryd.sizeOf89
  v49 := Tryd.zeroValue89
  t51 := Tryd.underlying82
  a51 := Tryd.isAgg82
  z51 := Tryd.sizeOf82
  v51 := Tryd.zeroValue82
  t119 := Tryd.underlying76
  a119 := Tryd.isAgg76
  z119 := Tryd.sizeOf76
  t141 := Tryd.underlying84
  a141 := Tryd.isAgg84
  z141 := Tryd.sizeOf84
  v141 := Tryd.zeroValue84
  t152 := Tryd.underlying79
  a152 := Tryd.isAgg79
  z152 := Tryd.sizeOf79
  v152 := Tryd.zeroValue79
  t154 := Tryd.underlying81
  a154 := Tryd.isAgg81
  z154 := Tryd.sizeOf81
  v154 := Tryd.zeroValue81
  t193 := Tryd.underlying85
  a193 := Tryd.isAgg85
  z193 := Tryd.sizeOf85
  v193 := Tryd.zeroValue85
  t194 := Tryd.underlying86
  a194 := Tryd.isAgg86
  z194 := Tryd.sizeOf86
  v194 := Tryd.zeroValue86
  t196 := Tryd.underlying88
  a196 := Tryd.isAgg88
  z196 := Tryd.sizeOf88
  v196 := Tryd.zeroValue88
  t198 := Tryd.underlying91
  a198 := Tryd.isAgg91
  z198 := Tryd.sizeOf91
  v198 := Tryd.zeroValue91
  t201 := Tryd.underlying94
  a201 := Tryd.isAgg94
  z201 := Tryd.sizeOf94
  v201 := Tryd.zeroValue94
  t226 := Tryd.underlying96
  a226 := Tryd.isAgg96
  z226 := Tryd.sizeOf96
  v226 := Tryd.zeroValue96
  t227 := Tryd.underlying97
  a227 := Tryd.isAgg97
  z227 := Tryd.sizeOf97
  v227 := Tryd.zeroValue97
  g0 := by kernel_rfl
  g6 := by kernel_rfl }
end Go.Proofs
namespace Go.AM.Seat
open Go Go.AM Go.Proofs
set_option maxRecDepth 100000
theorem progOK : ProgOK P where
  func f fn h := by
    have hall : (P.funcs.toList.all funcOK) = true := by kernel_rfl
    exact List.all_eq_true.1 hall fn (by rw [← Array.getElem?_toList] at h; exact List.mem_of_getElem? h)
  mixed := Tryd.lays157.mixed
theorem callee_fields : Callee P 38 := ⟨_, Tryd.func38, by kernel_rfl⟩
theorem extern_ok : ∀ f g, E f = some g → ∀ args lh r, g f args lh = some r → Callee P f ∧ CallOK P f args lh r := by
  intro f g hf args lh r h
  unfold E at hf
  split at hf
  · rename_i e
    subst e
    simp only [Option.some.injEq] at hf
    subst hf
    exact ⟨callee_fields, fields_ok (ρ := Tryd.lays157_ren) Tryd.lays157 (by kernel_rfl) (by simp only [Globs.tab]; exact List.mem_cons_self) h⟩
  · cases hf
theorem call_ok {f : Nat} {args : List C} {lh : List (List C)} {r : CRes} (h : aval X f args lh r) : CallOK P f args lh r := by
  obtain ⟨k, hk⟩ := h
  exact (acall_sound progOK extern_ok H k f args lh r (hk k (Nat.le_refl k))).2
theorem space_glob {w : World} (h : laidMetH P [("unicode.White_Space", YtbhjnlilfidalaaDoor.Rows.laid_unicode_White_Space), ("strings.asciiSpace", YtbhjnlilfidalaaDoor.Rows.laid_strings_asciiSpace)] w) : GlobW w := by
  rw [MakeChecks.laidMetH_plain _ _ _ (by kernel_rfl)] at h
  have h2 := h.filter (fun x => x.1 == "strings.asciiSpace")
  have e : ([("unicode.White_Space", YtbhjnlilfidalaaDoor.Rows.laid_unicode_White_Space), ("strings.asciiSpace", YtbhjnlilfidalaaDoor.Rows.laid_strings_asciiSpace)] : List (String × DataW Unit)).filter (fun x => x.1 == "strings.asciiSpace") = [("strings.asciiSpace", Lib.tabData .u8 Lib.asciiSpaceTab)] := by kernel_rfl
  rw [e] at h2
  have hg : P.globalNamed "strings.asciiSpace" = some 0 := by kernel_rfl
  have hT := Lib.tabIs_of_head hg (t := 76) (e := 5) (n := 256) (by kernel_rfl) Tryd.underlying76 Tryd.underlying5 (by kernel_rfl) (by kernel_rfl) h2
  intro x hx i v hv
  simp only [Globs.tab, List.mem_singleton] at hx
  subst hx
  simp only [List.getElem?_map, Option.map_eq_some_iff] at hv
  obtain ⟨c, hc, rfl⟩ := hv
  have hi : i < 256 := by
    have := (List.getElem?_eq_some_iff.1 hc).1
    simpa using this
  have hci : c = i := by
    have := (List.getElem?_eq_some_iff.1 hc).2
    simpa using this.symm
  subst hci
  have := hT.cell hg c (by rw [Lib.asciiSpaceTab_length]; exact hi)
  rw [Lib.asciiSpaceTab_at c hi] at this
  exact this
end Go.AM.Seat

namespace Go.AM.Seat
open Go Go.AM
set_option linter.unusedVariables false
theorem w64_id {x : Int} (h1 : -9223372036854775808 ≤ x) (h2 : x < 9223372036854775808) : w64 x = x := by
  unfold w64; rw [IntKind.wrap_i64]; omega
def bt (s : Str) (i : Int) : Int := if 0 ≤ i then (s.getD i.toNat 0).toNat else 0
def isDig (n : Int) : Bool := decide (48 ≤ n) && decide (n ≤ 57)
def isLet (n : Int) : Bool := decide (97 ≤ n) && decide (n ≤ 122)
theorem sget_eq {s : Str} {i : Int} (h0 : 0 ≤ i) (h : i < s.length) : sget s i = some (bt s i) := by
  have hl : i.toNat < s.length := by omega
  unfold sget bt
  rw [if_pos h0, if_pos h0]
  simp [List.getD, hl]
theorem bt_out {s : Str} {i : Int} (h : (s.length : Int) ≤ i) : bt s i = 0 := by
  unfold bt
  split
  · have : s.length ≤ i.toNat := by omega
    simp [List.getD, this]
  · rfl
theorem at_eq {s : Str} {i : Int} (h0 : 0 ≤ i) : p_jlex_at s i = some (bt s i) := by
  unfold p_jlex_at
  by_cases h : i < (s.length : Int)
  · rw [if_pos (by simpa using h), sget_eq h0 h]; rfl
  · rw [if_neg (by simpa using h), bt_out (by omega)]
theorem digit_eq (c : Int) : p_jlex_digit c = some (isDig c) := by
  unfold p_jlex_digit isDig
  by_cases h : c ≥ 48
  · rw [if_pos (by simpa using h)]; simp [h]
  · rw [if_neg (by simpa using h)]; simp; omega
theorem letter_eq (c : Int) : p_jlex_letter c = some (isLet c) := by
  unfold p_jlex_letter isLet
  by_cases h : c ≥ 97
  · rw [if_pos (by simpa using h)]; simp [h]
  · rw [if_neg (by simpa using h)]; simp; omega
def beginsN (s : Str) : Bool := isDig (bt s 0) || (bt s 0 == 95 && isDig (bt s 1))
theorem begins_eq (s : Str) : p_jlex_begins s = some (beginsN s) := by
  unfold p_jlex_begins beginsN
  rw [at_eq (by decide)]
  simp only [Option.bind_eq_bind, Option.bind_some, digit_eq]
  cases h : isDig (bt s 0)
  · simp only [Bool.false_eq_true, if_false, Bool.false_or, at_eq (s := s) (i := 0) (by decide), at_eq (s := s) (i := 1) (by decide), Option.bind_some, digit_eq]
    cases h2 : (bt s 0 == 95) <;> simp
  · simp
theorem sfrom_eq {s : Str} {i : Int} (h0 : 0 ≤ i) (h : i ≤ s.length) : sfrom s i = some (s.drop i.toNat) := by
  unfold sfrom; rw [if_pos ⟨h0, by omega⟩]
theorem sto_eq {s : Str} {i : Int} (h0 : 0 ≤ i) (h : i ≤ s.length) : sto s i = some (s.take i.toNat) := by
  unfold sto; rw [if_pos ⟨h0, by omega⟩]
theorem lget_eq {α : Type} {l : List α} {i : Int} {x : α} (h0 : 0 ≤ i) (h : l[i.toNat]? = some x) : lget l i = some x := by
  unfold lget; rw [if_pos h0, h]
theorem lapp_eq {α : Type} {l m : List α} (h : l.length + m.length ≤ 4294967296) : lapp l m = some (l ++ m) := by
  unfold lapp; rw [if_pos h]
theorem sbytes_eq {s : Str} (h : s.length ≤ 1099511627776) : sbytes s = some (s.map u8I) := by
  unfold sbytes; rw [if_pos h]
theorem bt_drop (s : Str) {i j : Int} (hi : 0 ≤ i) (hj : 0 ≤ j) : bt (s.drop i.toNat) j = bt s (i + j) := by
  unfold bt
  rw [if_pos hj, if_pos (by omega)]
  simp only [List.getD_eq_getElem?_getD, List.getElem?_drop]
  rw [show i.toNat + j.toNat = (i + j).toNat from by omega]
def hasPre (s p : Str) : Bool := p.isPrefixOf s
theorem HasPrefix_eq (s p : Str) : p_strings_HasPrefix s p = some (hasPre s p) := by
  unfold p_strings_HasPrefix p_stringslite_HasPrefix hasPre
  by_cases h : (List.length s : Int) ≥ (List.length p : Int)
  · rw [if_pos (by simpa using h), sto_eq (by omega) (by omega)]
    simp only [Option.bind_eq_bind, Option.bind_some, Option.some.injEq, Int.toNat_natCast]
    rw [Bool.eq_iff_iff, beq_iff_eq, List.isPrefixOf_iff_prefix]
    constructor
    · intro e
      have := List.take_append_drop p.length s
      rw [e] at this
      exact ⟨_, this⟩
    · rintro ⟨r, rfl⟩; simp
  · rw [if_neg (by simpa using h)]
    simp only [Option.bind_eq_bind, Option.bind_some, Option.some.injEq]
    rw [eq_comm, Bool.eq_false_iff]
    intro e
    rw [List.isPrefixOf_iff_prefix] at e
    have := e.length_le
    omega
end Go.AM.Seat

namespace Go.AM.Seat
open Go Go.AM
set_option linter.unusedVariables false
def dig (b : UInt8) : Bool := isDig b.toNat
def alnum (b : UInt8) : Bool := isLet b.toNat || isDig b.toNat
def blank (b : UInt8) : Bool := b.toNat == 32
theorem bt_cons {s : Str} {i : Int} {c : UInt8} {r : Str} (h0 : 0 ≤ i) (h : s.drop i.toNat = c :: r) : bt s i = c.toNat ∧ i < s.length ∧ s.drop (i + 1).toNat = r := by
  have h1 : s[i.toNat]? = some c := by
    have : (s.drop i.toNat)[0]? = some c := by rw [h]; rfl
    simpa using this
  have h2 : i.toNat < s.length := (List.getElem?_eq_some_iff.1 h1).1
  refine ⟨by unfold bt; rw [if_pos h0]; simp [List.getD, h1], by omega, ?_⟩
  rw [show (i + 1).toNat = i.toNat + 1 from by omega, ← List.drop_drop, h]; rfl
theorem bt_nil {s : Str} {i : Int} (h0 : 0 ≤ i) (h : s.drop i.toNat = []) : bt s i = 0 ∧ (s.length : Int) ≤ i := by
  have : s.length ≤ i.toNat := by simpa using h
  exact ⟨bt_out (by omega), by omega⟩
abbrev Short (s : Str) : Prop := s.length < 4294967295
def addDigit (n : Int) (c : UInt8) : Int := IntKind.u64.wrap ((IntKind.u64.wrap (n * 10)) + (IntKind.u64.wrap (IntKind.u8.wrap ((c.toNat : Int) - 48))))
def fitsDigit (n : Int) (c : UInt8) : Bool := decide (n ≤ (IntKind.u64.wrap (Int.tdiv (IntKind.u64.wrap (9223372036854775808 - (IntKind.u64.wrap (IntKind.u8.wrap ((c.toNat : Int) - 48))))) 10)))
def numVal : List UInt8 → Int → Bool → Int × Bool
  | [], n, ok => (n, ok)
  | c :: r, n, ok => numVal r (addDigit n c) (ok && fitsDigit n c)
theorem number_l0_eq {s : Str} (hs : Short s) : ∀ (l : Str) (k n : Int) (ok : Bool), 0 ≤ k → k ≤ s.length → s.drop k.toNat = l →
    p_jlex_number_l0 (s, k, n, ok) = some (k + ((l.takeWhile dig).length : Nat), (numVal (l.takeWhile dig) n ok).1, (numVal (l.takeWhile dig) n ok).2)
  | [], k, n, ok, h0, hk, h => by
    obtain ⟨h1, h2⟩ := bt_nil h0 h
    rw [p_jlex_number_l0]
    simp only [at_eq h0, Option.bind_eq_bind, Option.bind_some, digit_eq, h1]
    simp [isDig, numVal]
  | c :: r, k, n, ok, h0, hk, h => by
    obtain ⟨h1, h2, h3⟩ := bt_cons h0 h
    rw [p_jlex_number_l0]
    simp only [at_eq h0, Option.bind_eq_bind, Option.bind_some, digit_eq, h1]
    cases hd : isDig (c.toNat : Int) with
    | false => simp [List.takeWhile_cons, dig, hd, numVal]
    | true =>
      have hw : w64 (k + 1) = k + 1 := w64_id (by omega) (by have : s.length < 4294967295 := hs; omega)
      have ih := fun n ok => number_l0_eq hs r (k + 1) n ok (by omega) (by omega) h3
      simp only [if_true, sget_eq h0 h2, Option.bind_some, h1]
      have htw : (c :: r).takeWhile dig = c :: r.takeWhile dig := by rw [List.takeWhile_cons, if_pos (by simpa [dig] using hd)]
      rw [htw]
      cases ok with
      | true =>
        simp only [if_true, Option.bind_some, hw, ih]
        simp only [numVal, Bool.true_and, List.length_cons]
        congr 2
        omega
      | false =>
        simp only [Bool.false_eq_true, if_false, Option.bind_some, hw, ih]
        simp only [numVal, Bool.false_and, List.length_cons]
        congr 2
        omega
def numFrom (t : Str) : Nat := if bt t 0 = 95 then 1 else 0
def numDigits (t : Str) : Str := (t.drop (numFrom t)).takeWhile dig
def numLen (t : Str) : Nat := numFrom t + (numDigits t).length
def numVal2 (t : Str) : Int × Bool :=
  if bt t 0 = 95 then (w64 (IntKind.u64.wrap (0 - (numVal (numDigits t) 0 true).1)), (numVal (numDigits t) 0 true).2)
  else (w64 (numVal (numDigits t) 0 true).1, (numVal (numDigits t) 0 true).2 && decide ((numVal (numDigits t) 0 true).1 < 9223372036854775808))
theorem number_eq {t : Str} (hs : Short t) (hne : t ≠ []) : p_jlex_number t = some ((numVal2 t).1, (numLen t : Int), (numVal2 t).2) := by
  have hp : 0 < t.length := List.length_pos_iff.2 hne
  unfold p_jlex_number
  simp only [sget_eq (s := t) (i := 0) (by decide) (by omega), Option.bind_eq_bind, Option.bind_some]
  by_cases h : bt t 0 = 95
  · rw [if_pos (by simpa using h)]
    simp only [Option.bind_some]
    rw [number_l0_eq hs _ 1 0 true (by decide) (by omega) rfl]
    simp only [Option.bind_some]
    rw [if_pos (by simpa using h)]
    simp only [numVal2, numLen, numFrom, numDigits, if_pos h]
    simp
  · rw [if_neg (by simpa using h)]
    simp only [Option.bind_some]
    rw [number_l0_eq hs _ 0 0 true (by decide) (by omega) rfl]
    simp only [Option.bind_some]
    rw [if_neg (by simpa using h)]
    simp only [numVal2, numLen, numFrom, numDigits, if_neg h, Int.toNat_zero, List.drop_zero]
    cases h2 : (numVal (t.takeWhile dig) 0 true).2 <;> simp
end Go.AM.Seat

namespace Go.AM.Seat
open Go Go.AM
set_option linter.unusedVariables false
theorem lget_cons {α : Type} {l : List α} {i : Int} {x : α} {r : List α} (h0 : 0 ≤ i) (h : l.drop i.toNat = x :: r) : lget l i = some x ∧ i < l.length ∧ l.drop (i + 1).toNat = r := by
  have h1 : l[i.toNat]? = some x := by
    have : (l.drop i.toNat)[0]? = some x := by rw [h]; rfl
    simpa using this
  have h2 : i.toNat < l.length := (List.getElem?_eq_some_iff.1 h1).1
  refine ⟨lget_eq h0 h1, by omega, ?_⟩
  rw [show (i + 1).toNat = i.toNat + 1 from by omega, ← List.drop_drop, h]; rfl
theorem drop_nil_le {α : Type} {l : List α} {i : Int} (h : l.drop i.toNat = []) : (l.length : Int) ≤ i ∨ i < 0 := by
  have : l.length ≤ i.toNat := by simpa using h
  omega
theorem Nums_l0_eq {l : List Int} (hl : l.length < 4294967296) : ∀ (m : List Int) (x : Int) (acc : List Cell), 0 ≤ x → acc.length + m.length ≤ 4294967296 → l.drop x.toNat = m →
    p_arr_Nums_l0 (l, x, acc) = some (acc ++ m.map fun n => Cell.mk 0 n [])
  | [], x, acc, h0, ha, h => by
    rw [p_arr_Nums_l0]
    have := drop_nil_le h
    rw [if_neg (by simp; omega)]; simp
  | n :: m, x, acc, h0, ha, h => by
    obtain ⟨h1, h2, h3⟩ := lget_cons h0 h
    simp only [List.length_cons] at ha
    rw [p_arr_Nums_l0]
    rw [if_pos (by simpa using h2), h1]
    simp only [Option.bind_eq_bind, Option.bind_some]
    rw [lapp_eq (by simp; omega), w64_id (by omega) (by omega)]
    simp only [Option.bind_some]
    rw [Nums_l0_eq hl m (x + 1) _ (by omega) (by simp; omega) h3]
    simp
theorem Nums_eq {l : List Int} (hl : l.length < 4294967296) : p_arr_Nums l = some (Arr.mk [(l.length : Int)] (l.map fun n => Cell.mk 0 n [])) := by
  unfold p_arr_Nums
  rw [Nums_l0_eq hl l 0 [] (by decide) (by simp; omega) rfl]; rfl
theorem Text_l0_eq {l : List Int} (hl : l.length < 4294967296) : ∀ (m : List Int) (x : Int) (acc : List Cell), 0 ≤ x → acc.length + m.length ≤ 4294967296 → l.drop x.toNat = m →
    p_arr_Text_l0 (l, x, acc) = some (acc ++ m.map fun n => Cell.mk 1 n [])
  | [], x, acc, h0, ha, h => by
    rw [p_arr_Text_l0]
    have := drop_nil_le h
    rw [if_neg (by simp; omega)]; simp
  | n :: m, x, acc, h0, ha, h => by
    obtain ⟨h1, h2, h3⟩ := lget_cons h0 h
    simp only [List.length_cons] at ha
    rw [p_arr_Text_l0]
    rw [if_pos (by simpa using h2), h1]
    simp only [Option.bind_eq_bind, Option.bind_some]
    rw [lapp_eq (by simp; omega), w64_id (by omega) (by omega)]
    simp only [Option.bind_some]
    rw [Text_l0_eq hl m (x + 1) _ (by omega) (by simp; omega) h3]
    simp
theorem Text_l1_eq {l : List Int} (hl : l.length < 4294967296) : ∀ (m : List Int) (x : Int) (acc : List Cell), 0 ≤ x → acc.length + m.length ≤ 4294967296 → l.drop x.toNat = m →
    p_arr_Text_l0 (l, x, acc) = some (acc ++ m.map fun n => Cell.mk 1 n [])
  | [], x, acc, h0, ha, h => by
    rw [p_arr_Text_l0]
    have := drop_nil_le h
    rw [if_neg (by simp; omega)]; simp
  | n :: m, x, acc, h0, ha, h => by
    obtain ⟨h1, h2, h3⟩ := lget_cons h0 h
    simp only [List.length_cons] at ha
    rw [p_arr_Text_l0]
    rw [if_pos (by simpa using h2), h1]
    simp only [Option.bind_eq_bind, Option.bind_some]
    rw [lapp_eq (by simp; omega), w64_id (by omega) (by omega)]
    simp only [Option.bind_some]
    rw [Text_l1_eq hl m (x + 1) _ (by omega) (by simp; omega) h3]
    simp
def textArr (l : List Int) : Arr := Arr.mk (if l.length = 1 then [] else [(l.length : Int)]) (l.map fun n => Cell.mk 1 n [])
theorem Text_eq {l : List Int} (hl : l.length < 4294967296) : p_arr_Text l = some (textArr l) := by
  unfold p_arr_Text textArr
  by_cases h : l.length = 1
  · rw [if_pos (by simp [h]), Text_l0_eq hl l 0 [] (by decide) (by simp; omega) rfl, if_pos h]; rfl
  · rw [if_neg (by simp; omega), Text_l1_eq hl l 0 [] (by decide) (by simp; omega) rfl, if_neg h]; rfl
def numsArr (l : List Int) : Arr := if l.length = 1 then Arr.mk [] (l.map fun n => Cell.mk 0 n []) else Arr.mk [(l.length : Int)] (l.map fun n => Cell.mk 0 n [])
theorem numbers_l1_eq {s : Str} (hs : Short s) : ∀ (l : Str) (j : Int), 0 ≤ j → j ≤ s.length → s.drop j.toNat = l → p_jlex_numbers_l1 (s, j) = some (j + ((l.takeWhile blank).length : Nat))
  | [], j, h0, hj, h => by
    obtain ⟨h1, h2⟩ := bt_nil h0 h
    rw [p_jlex_numbers_l1]
    simp [at_eq h0, h1]
  | c :: r, j, h0, hj, h => by
    obtain ⟨h1, h2, h3⟩ := bt_cons h0 h
    rw [p_jlex_numbers_l1]
    simp only [at_eq h0, Option.bind_eq_bind, Option.bind_some, h1]
    by_cases hc : c.toNat = 32
    · rw [if_pos (by simp [hc]), w64_id (by omega) (by have : s.length < 4294967295 := hs; omega), numbers_l1_eq hs r (j + 1) (by omega) (by omega) h3]
      have : (c :: r).takeWhile blank = c :: r.takeWhile blank := by rw [List.takeWhile_cons, if_pos (by simp [blank, hc])]
      rw [this]
      simp only [List.length_cons, Option.some.injEq]
      omega
    · rw [if_neg (by simp; omega)]
      have : (c :: r).takeWhile blank = [] := by rw [List.takeWhile_cons, if_neg (by simp [blank, hc])]
      rw [this]; simp
theorem takeWhile_le {α : Type} (p : α → Bool) (l : List α) : (l.takeWhile p).length ≤ l.length := (List.takeWhile_prefix p).length_le
theorem numLen_le {t : Str} (hne : t ≠ []) : numLen t ≤ t.length := by
  have hp : 0 < t.length := List.length_pos_iff.2 hne
  unfold numLen numDigits
  have := takeWhile_le dig (t.drop (numFrom t))
  simp only [List.length_drop] at this
  have : numFrom t ≤ 1 := by unfold numFrom; split <;> omega
  omega
theorem beginsN_ne {t : Str} (h : beginsN t = true) : t ≠ [] := by
  rintro rfl
  simp [beginsN, bt, isDig] at h
theorem numLen_pos {t : Str} (h : beginsN t = true) : 0 < numLen t := by
  unfold numLen
  by_cases h1 : bt t 0 = 95
  · unfold numFrom; rw [if_pos h1]; omega
  · have hd : isDig (bt t 0) = true := by
      unfold beginsN at h
      simp only [Bool.or_eq_true, Bool.and_eq_true, beq_iff_eq] at h
      rcases h with h | ⟨h, _⟩
      · exact h
      · exact absurd h h1
    unfold numDigits numFrom
    rw [if_neg h1, List.drop_zero]
    cases t with
    | nil => exact absurd rfl (beginsN_ne h)
    | cons c r =>
      have : bt (c :: r) 0 = c.toNat := by simp [bt]
      rw [this] at hd
      rw [List.takeWhile_cons, if_pos (by simpa [dig] using hd)]
      simp
def numsGo : Nat → Str → Nat → List Int → Except Nat (List Int × Nat)
  | 0, _, i, _ => .error i
  | f + 1, t, i, l =>
    if (numVal2 t).2 = false then .error i else
    if (((t.drop (numLen t)).takeWhile blank).length = 0 ∨ beginsN (t.drop (numLen t + ((t.drop (numLen t)).takeWhile blank).length)) = false) then .ok (l ++ [(numVal2 t).1], i + numLen t)
    else numsGo f (t.drop (numLen t + ((t.drop (numLen t)).takeWhile blank).length)) (i + numLen t + ((t.drop (numLen t)).takeWhile blank).length) (l ++ [(numVal2 t).1])
def numsRes : Except Nat (List Int × Nat) → Except (Arr × Int × Int) (List Int × Int)
  | .error i => .error (Arr.mk [] [], 0, (i : Int))
  | .ok (l, i) => .ok (l, (i : Int))
theorem numbers_l0_eq {s : Str} (hs : Short s) : ∀ (f i : Nat) (l : List Int), s.length < f + i → i < s.length → l.length ≤ i →
    p_jlex_numbers_l0 (s, l, (i : Int)) = some (numsRes (numsGo f (s.drop i) i l))
  | 0, i, l, hf, hi, hl => by omega
  | f + 1, i, l, hf, hi, hl => by
    have hs' : s.length < 4294967295 := hs
    have hne : s.drop i ≠ [] := by rw [← List.length_pos_iff, List.length_drop]; omega
    have hk := numLen_le hne
    rw [List.length_drop] at hk
    have hsd : Short (s.drop i) := by show (s.drop i).length < 4294967295; rw [List.length_drop]; omega
    rw [p_jlex_numbers_l0]
    rw [sfrom_eq (by omega) (by omega)]
    simp only [Option.bind_eq_bind, Option.bind_some, Int.toNat_natCast, number_eq hsd hne]
    cases hok : (numVal2 (s.drop i)).2 with
    | false => simp [numsGo, hok, numsRes]
    | true =>
      simp only [Bool.not_true, Bool.false_eq_true, if_false]
      rw [lapp_eq (by simp; omega)]
      simp only [Option.bind_some]
      rw [w64_id (by omega) (by omega)]
      rw [numbers_l1_eq hs _ ((i : Int) + (numLen (s.drop i) : Nat)) (by omega) (by omega) rfl]
      simp only [Option.bind_some]
      rw [show ((i : Int) + (numLen (s.drop i) : Nat)).toNat = i + numLen (s.drop i) from by omega, ← List.drop_drop]
      generalize hk2 : numLen (s.drop i) = k at *
      generalize hb : (((s.drop i).drop k).takeWhile blank).length = b at *
      have hbl : b ≤ s.length - i - k := by
        have := takeWhile_le blank ((s.drop i).drop k)
        rw [hb] at this
        simp only [List.length_drop] at this; omega
      have hG : numsGo (f + 1) (s.drop i) i l = if (b = 0 ∨ beginsN ((s.drop i).drop (k + b)) = false) then .ok (l ++ [(numVal2 (s.drop i)).1], i + k)
          else numsGo f ((s.drop i).drop (k + b)) (i + k + b) (l ++ [(numVal2 (s.drop i)).1]) := by
        show (if (numVal2 (s.drop i)).2 = false then _ else _) = _
        rw [hok]
        simp only [Bool.true_eq_false, if_false]
        rw [hk2, hb]
      rw [hG]
      by_cases hb0 : b = 0
      · rw [if_pos (by simp [hb0]), if_pos (.inl hb0)]
        simp [numsRes]
      · rw [if_neg (by simp; omega)]
        rw [show ((i : Int) + (k : Nat) + (b : Nat)) = ((i + k + b : Nat) : Int) from by omega, sfrom_eq (by omega) (by omega)]
        simp only [Option.bind_some, Int.toNat_natCast, begins_eq]
        have hdd : s.drop (i + k + b) = (s.drop i).drop (k + b) := by rw [List.drop_drop]; congr 1; omega
        rw [hdd]
        cases hbg : beginsN ((s.drop i).drop (k + b)) with
        | false =>
          rw [if_pos (by simp), if_pos (.inr rfl)]
          simp [numsRes]
        | true =>
          have hne2 := beginsN_ne hbg
          rw [← List.length_pos_iff, List.length_drop, List.length_drop] at hne2
          rw [if_neg (by simp), if_neg (by simp [hb0])]
          rw [numbers_l0_eq hs f (i + k + b) (l ++ [(numVal2 (s.drop i)).1]) (by omega) (by omega) (by simp; omega), hdd]
theorem numbers_eq {s : Str} (hs : Short s) (hne : s ≠ []) : p_jlex_numbers s = some (match numsGo (s.length + 1) s 0 [] with
    | .error i => (Arr.mk [] [], 0, (i : Int))
    | .ok (l, i) => (numsArr l, (i : Int), -1)) := by
  have hp : 0 < s.length := List.length_pos_iff.2 hne
  have hlen : ∀ f t i l l' k, numsGo f t i l = .ok (l', k) → l'.length ≤ l.length + f := by
    intro f
    induction f with
    | zero => intro t i l l' k h; simp [numsGo] at h
    | succ f ih =>
      intro t i l l' k h
      unfold numsGo at h
      split at h
      · simp at h
      · split at h
        · simp only [Except.ok.injEq, Prod.mk.injEq] at h
          rw [← h.1]; simp
        · have := ih _ _ _ _ _ h
          simp at this; omega
  unfold p_jlex_numbers
  rw [show (0 : Int) = ((0 : Nat) : Int) from rfl, numbers_l0_eq hs (s.length + 1) 0 [] (by omega) hp (by simp)]
  simp only [Option.bind_eq_bind, Option.bind_some, List.drop_zero]
  cases hg : numsGo (s.length + 1) s 0 [] with
  | error i => rfl
  | ok r =>
    obtain ⟨l, i⟩ := r
    have hll := hlen _ _ _ _ _ _ hg
    have hs' : s.length < 4294967295 := hs
    simp only [numsRes]
    by_cases h1 : l.length = 1
    · rw [if_pos (by simp [h1])]
      obtain ⟨x, rfl⟩ := List.length_eq_one_iff.1 h1
      rw [lget_eq (x := x) (by decide) rfl]
      simp [p_arr_Atom, numsArr]
    · rw [if_neg (by simp; omega), Nums_eq (by simp only [List.length_nil] at hll; omega)]
      simp [numsArr, h1]
end Go.AM.Seat

namespace Go.AM.Seat
open Go Go.AM
set_option linter.unusedVariables false
def firstN (c : Int) : Int × Int :=
  if c < 128 then (1, w64 c) else if c < 192 then (0, 0) else if c ≥ 248 then (0, 0)
  else if c < 224 then (2, w64 (IntKind.u8.wrap ((BitVec.ofInt 8 c &&& BitVec.ofInt 8 31).toNat)))
  else if c < 240 then (3, w64 (IntKind.u8.wrap ((BitVec.ofInt 8 c &&& BitVec.ofInt 8 15).toNat)))
  else (4, w64 (IntKind.u8.wrap ((BitVec.ofInt 8 c &&& BitVec.ofInt 8 7).toNat)))
theorem first_eq (c : Int) : p_runes_first c = some (firstN c) := by
  unfold p_runes_first firstN
  simp only [decide_eq_true_eq]
  split
  · rfl
  split
  · rfl
  split
  · rfl
  split
  · rfl
  split <;> rfl
theorem firstN_bounds (c : Int) : 0 ≤ (firstN c).1 ∧ (firstN c).1 ≤ 4 := by
  unfold firstN
  split
  · simp
  split
  · simp
  split
  · simp
  split
  · simp
  split <;> simp
def goodN (n : Int) : Bool := decide (n ≥ 0) && decide (n ≤ 1114111) && (decide (n < 55296) || decide (n > 57343))
theorem Good_eq (n : Int) : p_runes_Good n = some (goodN n) := by
  unfold p_runes_Good goodN
  simp only [decide_eq_true_eq]
  split
  · split
    · split
      · simp [*]
      · rename_i h1 h2 h3; simp [h1, h2, h3]
    · rename_i h1 h2; simp [h1, h2]
  · rename_i h1; simp [h1]
def widthN (n : Int) : Int := if n < 128 then 1 else if n < 2048 then 2 else if n < 65536 then 3 else 4
theorem put_eq (n : Int) : ∃ l, p_runes_put_nil n = some l ∧ (l.length : Int) = widthN n := by
  unfold p_runes_put_nil widthN
  simp only [decide_eq_true_eq]
  split
  · exact ⟨_, by rw [lapp_eq (by simp)]; rfl, by simp⟩
  split
  · exact ⟨_, by rw [lapp_eq (by simp)]; rfl, by simp⟩
  split
  · exact ⟨_, by rw [lapp_eq (by simp)]; rfl, by simp⟩
  · exact ⟨_, by rw [lapp_eq (by simp)]; rfl, by simp⟩
def pushN (n : Int) (c : Int) : Int := w64 ((BitVec.ofInt 64 (w64 (n * 2 ^ 6)) ||| BitVec.ofInt 64 (w64 (IntKind.u8.wrap ((BitVec.ofInt 8 c &&& BitVec.ofInt 8 63).toNat)))).toNat)
def contN (c : Int) : Bool := (IntKind.u8.wrap ((BitVec.ofInt 8 c &&& BitVec.ofInt 8 192).toNat)) != 128
def contGo : List Int → Int → Except (Int × Int) Int
  | [], n => .ok n
  | c :: r, n => if contN c then .error (0, 0) else contGo r (pushN n c)
theorem One_l0_eq {l : List Int} (hl : l.length < 4294967296) : ∀ (m : List Int) (x n : Int), 0 ≤ x → l.drop x.toNat = m → p_runes_One_l0 (l, n, x) = some (contGo m n)
  | [], x, n, h0, h => by
    rw [p_runes_One_l0]
    have := drop_nil_le h
    rw [if_neg (by simp; omega)]; rfl
  | c :: m, x, n, h0, h => by
    obtain ⟨h1, h2, h3⟩ := lget_cons h0 h
    rw [p_runes_One_l0]
    rw [if_pos (by simpa using h2), h1]
    simp only [Option.bind_eq_bind, Option.bind_some]
    by_cases hc : contN c = true
    · rw [if_pos (by exact hc)]
      simp [contGo, hc]
    · have hw : w64 (x + 1) = x + 1 := w64_id (by omega) (by omega)
      rw [if_neg (by exact hc), hw, One_l0_eq hl m (x + 1) _ (by omega) h3]
      simp only [contGo, if_neg hc]; rfl
def oneRest (k : Int) : Except (Int × Int) Int → Int × Int
  | .error r => r
  | .ok n => if goodN n = false then (0, 0) else if widthN n ≠ k then (0, 0) else (n, k)
def oneN : List Int → Int × Int
  | [] => (0, 0)
  | c :: r => if (firstN c).1 = 0 then (0, 0) else if (firstN c).1 > (c :: r).length then (0, 0) else
    oneRest (firstN c).1 (contGo (r.take ((firstN c).1.toNat - 1)) (firstN c).2)
theorem oneN_cons (c : Int) (r : List Int) : oneN (c :: r) = if (firstN c).1 = 0 then (0, 0) else if (firstN c).1 > (c :: r).length then (0, 0) else
    oneRest (firstN c).1 (contGo (r.take ((firstN c).1.toNat - 1)) (firstN c).2) := rfl
theorem One_eq {b : List Int} (hb : b.length < 4294967296) : p_runes_One b = some (oneN b) := by
  unfold p_runes_One
  cases b with
  | nil => rfl
  | cons c r =>
    rw [if_neg (by simp; omega), lget_eq (x := c) (by decide) rfl]
    simp only [Option.bind_eq_bind, Option.bind_some, first_eq]
    have hk := firstN_bounds c
    rw [oneN_cons]
    by_cases h0 : (firstN c).1 = 0
    · rw [if_pos (by simp [h0]), if_pos h0]
    · rw [if_neg (by simp [h0]), if_neg h0]
      by_cases h1 : (firstN c).1 > (c :: r).length
      · rw [if_pos (by simpa using h1), if_pos h1]
      · rw [if_neg (by simpa using h1), if_neg h1]
        have hm : lmid (c :: r) 1 (firstN c).1 = some (r.take ((firstN c).1.toNat - 1)) := by
          unfold lmid
          rw [if_pos ⟨by decide, by omega, by omega⟩]
          congr 1
          have : (firstN c).1.toNat = ((firstN c).1.toNat - 1) + 1 := by omega
          rw [this, List.take_succ_cons]; rfl
        rw [hm]
        simp only [Option.bind_some]
        rw [One_l0_eq (by have := List.length_take_le ((firstN c).1.toNat - 1) r; simp only [List.length_cons] at hb; omega) _ 0 _ (by decide) rfl]
        simp only [Option.bind_some, Int.toNat_zero, List.drop_zero]
        cases contGo (r.take ((firstN c).1.toNat - 1)) (firstN c).2 with
        | error r => rfl
        | ok n =>
          simp only [oneRest, Good_eq, Option.bind_some]
          cases hg : goodN n with
          | false => simp
          | true =>
            obtain ⟨l, hl, hw⟩ := put_eq n
            simp only [Bool.not_true, Bool.false_eq_true, if_false, hl, Option.bind_some, Bool.true_eq_false, if_false]
            rw [← hw]
            by_cases hx : (l.length : Int) = (firstN c).1
            · rw [if_neg (by simp [hx]), if_neg (by simp [hx])]
            · rw [if_pos (by simp [hx]), if_pos (by simp [hx])]
theorem oneN_k (b : List Int) : (oneN b).2 = 0 ∨ (1 ≤ (oneN b).2 ∧ (oneN b).2 ≤ 4 ∧ (oneN b).2 ≤ b.length) := by
  cases b with
  | nil => left; rfl
  | cons c r =>
    have hk := firstN_bounds c
    rw [oneN_cons]
    split
    · left; rfl
    · split
      · left; rfl
      · rename_i h0 h1
        have he : ∀ m n r', contGo m n = .error r' → r' = (0, 0) := by
          intro m
          induction m with
          | nil => intro n r' h; simp [contGo] at h
          | cons x m ih =>
            intro n r' h
            simp only [contGo] at h
            split at h
            · simp only [Except.error.injEq] at h; exact h.symm
            · exact ih _ _ h
        cases hc : contGo (r.take ((firstN c).1.toNat - 1)) (firstN c).2 with
        | error r' => left; rw [he _ _ _ hc]; rfl
        | ok n =>
          simp only [oneRest]
          split
          · left; rfl
          · split
            · left; rfl
            · right; simp only; omega
theorem name_l0_eq {s : Str} (hs : Short s) : ∀ (l : Str) (k : Int), 0 ≤ k → k ≤ s.length → s.drop k.toNat = l → p_jlex_name_l0 (s, k) = some (k + ((l.takeWhile alnum).length : Nat))
  | [], k, h0, hk, h => by
    obtain ⟨h1, h2⟩ := bt_nil h0 h
    rw [p_jlex_name_l0]
    simp [at_eq h0, h1, letter_eq, digit_eq, isLet, isDig]
  | c :: r, k, h0, hk, h => by
    obtain ⟨h1, h2, h3⟩ := bt_cons h0 h
    have hw : w64 (k + 1) = k + 1 := w64_id (by omega) (by have : s.length < 4294967295 := hs; omega)
    rw [p_jlex_name_l0]
    simp only [at_eq h0, Option.bind_eq_bind, Option.bind_some, h1, letter_eq, digit_eq, hw, name_l0_eq hs r (k + 1) (by omega) (by omega) h3]
    rw [List.takeWhile_cons]
    cases hL : isLet (c.toNat : Int)
    · cases hD : isDig (c.toNat : Int)
      · simp [alnum, hL, hD]
      · simp [alnum, hL, hD]; omega
    · simp [alnum, hL]; omega
def nameLen (t : Str) : Nat := 1 + ((t.drop 1).takeWhile alnum).length
theorem nameLen_le {t : Str} (hne : t ≠ []) : nameLen t ≤ t.length := by
  have hp : 0 < t.length := List.length_pos_iff.2 hne
  have := takeWhile_le alnum (t.drop 1)
  simp only [List.length_drop] at this
  unfold nameLen; omega
theorem name_l1_eq {s s1 : Str} (hs : Short s) {k : Nat} (hk : k ≤ s.length) : ∀ (m : Str) (x : Int), 0 ≤ x → (s.take k).drop x.toNat = m →
    p_jlex_name_l1 (s, (k : Int), s1, x) = some (if m.any (fun b => decide (b.toNat > 119)) then .error (Token.mk 3 s1 (Arr.mk [] []) 0, false) else .ok ())
  | [], x, h0, h => by
    rw [p_jlex_name_l1]
    have := drop_nil_le h
    simp only [List.length_take] at this
    rw [if_neg (by simp; omega)]; simp
  | c :: m, x, h0, h => by
    obtain ⟨h1, h2, h3⟩ := bt_cons (s := s.take k) h0 h
    simp only [List.length_take] at h2
    have hb : bt s x = c.toNat := by
      rw [← h1]
      unfold bt
      rw [if_pos h0, if_pos h0]
      simp only [List.getD_eq_getElem?_getD]
      rw [List.getElem?_take, if_pos (by omega)]
    rw [p_jlex_name_l1]
    rw [if_pos (by simp; omega), sget_eq h0 (by omega)]
    simp only [Option.bind_eq_bind, Option.bind_some, hb]
    by_cases hc : c.toNat > 119
    · rw [if_pos (by simp; omega)]
      simp [hc]
    · rw [if_neg (by simp; omega), w64_id (by omega) (by have : s.length < 4294967295 := hs; omega), name_l1_eq hs hk m (x + 1) (by omega) h3]
      simp [hc]
def nameN (t : Str) : Token × Bool :=
  if bt t (nameLen t) = 46 ∨ bt t (nameLen t) = 58 then (Token.mk 4 (t.take (nameLen t + 1)) (Arr.mk [] []) 0, t.take (nameLen t + 1) == [105, 46] || t.take (nameLen t + 1) == [101, 46])
  else if t.take (nameLen t) = [120] ∨ t.take (nameLen t) = [121] then (Token.mk 3 (t.take (nameLen t)) (Arr.mk [] []) 0, true)
  else (Token.mk 3 (t.take (nameLen t)) (Arr.mk [] []) 0, !((t.take (nameLen t)).any (fun b => decide (b.toNat > 119))) && decide (nameLen t ≤ 8))
theorem name_eq {t : Str} (hs : Short t) (hne : t ≠ []) : p_jlex_name t = some (nameN t) := by
  have hp : 0 < t.length := List.length_pos_iff.2 hne
  have hk := nameLen_le hne
  have hs' : t.length < 4294967295 := hs
  unfold p_jlex_name
  rw [name_l0_eq hs _ 1 (by decide) (by omega) rfl]
  simp only [Option.bind_eq_bind, Option.bind_some]
  rw [show (1 : Int) + (((t.drop (1 : Int).toNat).takeWhile alnum).length : Nat) = (nameLen t : Int) from by unfold nameLen; simp]
  rw [sto_eq (by omega) (by omega), at_eq (by omega)]
  simp only [Option.bind_some, Int.toNat_natCast]
  unfold nameN
  by_cases h1 : bt t (nameLen t) = 46 ∨ bt t (nameLen t) = 58
  · have hlt : nameLen t < t.length := by
      rcases Nat.lt_or_ge (nameLen t) t.length with h | h
      · exact h
      · have := bt_out (s := t) (i := nameLen t) (by omega)
        rcases h1 with h1 | h1 <;> omega
    rw [if_pos h1, w64_id (by omega) (by omega), sto_eq (by omega) (by omega)]
    simp only [Option.bind_some]
    rw [show ((nameLen t : Int) + 1).toNat = nameLen t + 1 from by omega]
    rcases h1 with h1 | h1
    · rw [if_pos (by simp [h1])]
      cases h2 : (t.take (nameLen t + 1) == [105, 46]) <;> simp
    · rw [if_neg (by simp [h1]), if_pos (by simp [h1])]
      cases h2 : (t.take (nameLen t + 1) == [105, 46]) <;> simp
  · rw [if_neg h1]
    simp only [not_or] at h1
    rw [if_neg (by simp [h1.1]), if_neg (by simp [h1.2])]
    by_cases h2 : t.take (nameLen t) = [120]
    · rw [if_pos (by simp [h2]), if_pos (.inl h2)]
    · rw [if_neg (by simp [h2])]
      by_cases h3 : t.take (nameLen t) = [121]
      · rw [if_pos (by simp [h3]), if_pos (.inr h3)]
      · rw [if_neg (by simp [h3]), if_neg (by simp [h2, h3]), name_l1_eq hs hk _ 0 (by decide) rfl]
        simp only [Int.toNat_zero, List.drop_zero, Option.bind_some]
        cases h4 : (t.take (nameLen t)).any (fun b => decide (b.toNat > 119)) with
        | true => simp
        | false => simp; omega
end Go.AM.Seat

namespace Go.AM.Seat
open Go Go.AM
set_option linter.unusedVariables false
abbrev noArr : Arr := Arr.mk [] []
abbrev noTok : Token := Token.mk 0 [] noArr 0
theorem short_drop {s : Str} (hs : Short s) (n : Nat) : Short (s.drop n) := by
  show (s.drop n).length < 4294967295
  have : s.length < 4294967295 := hs
  rw [List.length_drop]; omega
def textGo : Nat → Str → Nat → List Int → Except (Arr × Int × Fault) Unit
  | 0, _, _, _ => .ok ()
  | f + 1, t, i, l =>
    if t = [] then .ok () else
    if (oneN (t.map u8I)).2 = 0 then .error (noArr, 0, Fault.mk 3 i 0) else
    if (oneN (t.map u8I)).1 = 39 then
      if bt t 1 ≠ 39 then .error (textArr l, i + 1, Fault.mk 0 0 0) else textGo f (t.drop 2) (i + 2) (l ++ [39])
    else if (oneN (t.map u8I)).1 < 32 ∨ (oneN (t.map u8I)).1 = 127 then .error (noArr, 0, Fault.mk 2 i 0)
    else textGo f (t.drop (oneN (t.map u8I)).2.toNat) (i + (oneN (t.map u8I)).2.toNat) (l ++ [(oneN (t.map u8I)).1])
theorem bt_pos_len {s : Str} {i : Int} (h0 : 0 ≤ i) (h : bt s i ≠ 0) : i < s.length := by
  by_cases h1 : i < s.length
  · exact h1
  · exact absurd (bt_out (by omega)) h
theorem text_l0_eq {s : Str} (hs : Short s) : ∀ (f i : Nat) (l : List Int), s.length < f + i → i ≤ s.length → l.length ≤ i →
    p_jlex_text_l0 (s, l, (i : Int)) = some (textGo f (s.drop i) i l)
  | 0, i, l, hf, hi, hl => by omega
  | f + 1, i, l, hf, hi, hl => by
    have hs' : s.length < 4294967295 := hs
    rw [p_jlex_text_l0]
    by_cases hlt : i < s.length
    · have hne : s.drop i ≠ [] := by rw [← List.length_pos_iff, List.length_drop]; omega
      have hsd := short_drop hs i
      have hsd' : (s.drop i).length < 4294967295 := hsd
      rw [if_pos (by simpa using hlt), sfrom_eq (by omega) (by omega)]
      simp only [Option.bind_eq_bind, Option.bind_some, Int.toNat_natCast]
      rw [sbytes_eq (by omega)]
      simp only [Option.bind_some]
      rw [One_eq (by simp only [List.length_map]; omega)]
      have hk := oneN_k ((s.drop i).map u8I)
      unfold textGo
      rw [if_neg hne]
      have hat : p_jlex_at s (w64 ((i : Int) + 1)) = some (bt (s.drop i) 1) := by
        rw [w64_id (by omega) (by omega), at_eq (by omega)]
        have := bt_drop s (i := i) (j := 1) (by omega) (by decide)
        rw [Int.toNat_natCast] at this
        rw [this]
      generalize hO : oneN ((s.drop i).map u8I) = o at *
      obtain ⟨n, k⟩ := o
      simp only [List.length_map, List.length_drop] at hk
      simp only [Option.bind_some]
      by_cases hk0 : k = 0
      · rw [if_pos (by simp [hk0]), if_pos hk0]; rfl
      · rw [if_neg (by simp [hk0]), if_neg hk0]
        by_cases hn : n = 39
        · rw [if_pos (by simp [hn]), if_pos hn, hat]
          simp only [Option.bind_some]
          by_cases hq : bt (s.drop i) 1 = 39
          · rw [if_neg (by rw [hq]; decide), if_pos (by simp [hn]), if_neg (by rw [hq]; decide)]
            have h2 := bt_pos_len (s := s.drop i) (i := 1) (by decide) (by omega)
            simp only [List.length_drop] at h2
            subst hn
            simp only [Option.bind_some]
            rw [lapp_eq (by simp; omega), w64_id (by omega) (by omega)]
            simp only [Option.bind_some]
            rw [show (i : Int) + 2 = ((i + 2 : Nat) : Int) from by omega, text_l0_eq hs f (i + 2) _ (by omega) (by omega) (by simp; omega), ← List.drop_drop]
          · rw [if_pos (by simp [hq]), if_pos hq, Text_eq (by omega)]
            rw [w64_id (by omega) (by omega)]
            rfl
        · rw [if_neg (by simp [hn]), if_neg hn]
          by_cases h32 : n < 32
          · rw [if_neg (by simp [hn]), if_pos (by simp [h32]), if_pos (.inl h32)]; rfl
          · by_cases h127 : n = 127
            · rw [if_neg (by simp [hn]), if_neg (by simp; omega), if_pos (by simp [h127]), if_pos (.inr h127)]; rfl
            · rw [if_neg (by simp [hn]), if_neg (by simp; omega), if_neg (by simp [h127]), if_neg (by omega)]
              simp only [Option.bind_some]
              rw [lapp_eq (by simp; omega), w64_id (by omega) (by omega)]
              simp only [Option.bind_some]
              rw [show (i : Int) + k = ((i + k.toNat : Nat) : Int) from by omega, text_l0_eq hs f (i + k.toNat) _ (by omega) (by omega) (by simp; omega), ← List.drop_drop]
    · rw [if_neg (by simp; omega)]
      have : s.drop i = [] := by rw [List.drop_eq_nil_iff]; omega
      rw [this]; rfl
def textN (t : Str) : Arr × Int × Fault :=
  match textGo (t.length + 1) (t.drop 1) 1 [] with
  | .error r => r
  | .ok _ => (noArr, 0, Fault.mk 2 0 0)
theorem text_eq {t : Str} (hs : Short t) (hne : t ≠ []) : p_jlex_text t = some (textN t) := by
  have hp : 0 < t.length := List.length_pos_iff.2 hne
  unfold p_jlex_text textN
  rw [show (1 : Int) = ((1 : Nat) : Int) from rfl, text_l0_eq hs (t.length + 1) 1 [] (by omega) (by omega) (by simp)]
  simp only [Option.bind_eq_bind, Option.bind_some]
  cases textGo (t.length + 1) (t.drop 1) 1 [] <;> rfl
def wordTexts : List Str := [[61, 58], [123, 123], [125, 125], [40], [41], [45, 46], [124, 46], [124, 58], [60, 46], [60, 58], [62, 46], [62, 58], [126, 46], [126, 58], [44, 58], [47, 58], [92, 58], [123, 46], [125, 46], [94, 58], [34, 49],
  [45], [42], [124], [37], [43], [60], [62], [61], [126], [36], [35], [44], [47], [92], [123]]
def wordKind (s : Str) : Int := if s = [61, 58] then 7 else if s = [123, 123] ∨ s = [40] then 5 else if s = [125, 125] ∨ s = [41] then 6 else 4
def wordTok (s : Str) : Token := Token.mk (wordKind s) s noArr 0
theorem words_fields : goFields [61, 58, 32, 123, 123, 32, 125, 125, 32, 40, 32, 41, 32, 45, 46, 32, 124, 46, 32, 124, 58, 32, 60, 46, 32, 60, 58, 32, 62, 46, 32, 62, 58, 32, 126, 46, 32, 126, 58, 32, 44, 58, 32, 47, 58, 32, 92, 58, 32, 123, 46, 32, 125, 46, 32, 94, 58, 32, 34, 49, 32, 45, 32, 42, 32, 124, 32, 37, 32, 43, 32, 60, 32, 62, 32, 61, 32, 126, 32, 36, 32, 35, 32, 44, 32, 47, 32, 92, 32, 123] = some wordTexts := by
  decide +kernel
theorem words_l0_eq {x : List Str} (hl : x.length < 4294967296) : ∀ (m : List Str) (i : Int) (acc : List Token), 0 ≤ i → acc.length + m.length ≤ 4294967296 → x.drop i.toNat = m →
    p_jlex_words_l0 (x, acc, i) = some (acc ++ m.map wordTok)
  | [], i, acc, h0, ha, h => by
    rw [p_jlex_words_l0]
    have := drop_nil_le h
    rw [if_neg (by simp; omega)]; simp
  | s :: m, i, acc, h0, ha, h => by
    obtain ⟨h1, h2, h3⟩ := lget_cons h0 h
    simp only [List.length_cons] at ha
    rw [p_jlex_words_l0]
    rw [if_pos (by simpa using h2), h1]
    simp only [Option.bind_eq_bind, Option.bind_some]
    have hK : (if (s == [61, 58]) = true then some (7 : Int) else ((if (s == [123, 123]) = true then some (s == [123, 123]) else some (s == [40]) : Option Bool)).bind fun x2 => if x2 = true then some 5 else
        ((if (s == [125, 125]) = true then some (s == [125, 125]) else some (s == [41]) : Option Bool)).bind fun x3 => if x3 = true then some 6 else some 4) = some (wordKind s) := by
      unfold wordKind
      by_cases h1 : s = [61, 58]
      · simp [h1]
      by_cases h2 : s = [123, 123]
      · simp [h2]
      by_cases h3 : s = [40]
      · simp [h3]
      by_cases h4 : s = [125, 125]
      · simp [h4]
      by_cases h5 : s = [41]
      · simp [h5]
      simp [h1, h2, h3, h4, h5]
    rw [hK]
    simp only [Option.bind_some]
    rw [lapp_eq (by simp; omega), w64_id (by omega) (by omega)]
    simp only [Option.bind_some]
    rw [words_l0_eq hl m (i + 1) _ (by omega) (by simp; omega) h3]
    simp [wordTok]
def wordToks : List Token := wordTexts.map wordTok
theorem words_eq : p_jlex_words = some wordToks := by
  unfold p_jlex_words
  rw [words_fields]
  simp only [Option.bind_eq_bind, Option.bind_some]
  rw [words_l0_eq (x := wordTexts) (by decide) wordTexts 0 [] (by decide) (by decide) rfl]
  rfl
def findGo (s : Str) : List Token → Except (Token × Int × Fault) Unit
  | [] => .ok ()
  | y :: r => if hasPre s y.text then (if y.text = [34, 49] ∧ isDig (bt s 2) = true then .error (y, 0, Fault.mk 2 0 0) else .error (y, (y.text.length : Int), Fault.mk 0 0 0)) else findGo s r
theorem word_l0_eq {s : Str} {x : List Token} (hl : x.length < 4294967296) : ∀ (m : List Token) (i : Int), 0 ≤ i → x.drop i.toNat = m → p_jlex_word_l0 (s, x, i) = some (findGo s m)
  | [], i, h0, h => by
    rw [p_jlex_word_l0]
    have := drop_nil_le h
    rw [if_neg (by simp; omega)]; rfl
  | y :: m, i, h0, h => by
    obtain ⟨h1, h2, h3⟩ := lget_cons h0 h
    rw [p_jlex_word_l0]
    rw [if_pos (by simpa using h2), h1]
    simp only [Option.bind_eq_bind, Option.bind_some, HasPrefix_eq]
    unfold findGo
    by_cases hp : hasPre s y.text = true
    · rw [if_pos hp, if_pos hp]
      by_cases ht : y.text = [34, 49]
      · rw [if_pos (by simp [ht]), at_eq (by decide)]
        simp only [Option.bind_some, digit_eq]
        by_cases hd : isDig (bt s 2) = true
        · rw [if_pos hd, if_pos ⟨ht, hd⟩]
        · rw [if_neg hd, if_neg (fun h => hd h.2)]
      · rw [if_neg (by simp [ht]), if_neg (fun h => ht h.1)]
    · rw [if_neg hp, if_neg hp, w64_id (by omega) (by omega), word_l0_eq hl m (i + 1) (by omega) h3]
end Go.AM.Seat

namespace Go.AM.Seat
open Go Go.AM
set_option linter.unusedVariables false
def wordN (t : Str) : Token × Int × Fault :=
  if (oneN (t.map u8I)).2 = 0 then (noTok, 0, Fault.mk 3 0 0) else
  if beginsN t = true then (match numsGo (t.length + 1) t 0 [] with | .error i => (noTok, 0, Fault.mk 2 (i : Int) 0) | .ok (l, i) => (Token.mk 1 [] (numsArr l) 0, (i : Int), Fault.mk 0 0 0)) else
  if bt t 0 = 39 then (Token.mk 2 [] (textN t).1 0, (textN t).2.1, (textN t).2.2) else
  if isLet (bt t 0) = true then (if (nameN t).2 = false then ((nameN t).1, 0, Fault.mk 2 0 0) else ((nameN t).1, ((nameN t).1.text.length : Int), Fault.mk 0 0 0)) else
  match findGo t wordToks with | .error r => r | .ok _ => (noTok, 0, Fault.mk 2 0 0)
theorem word_eq {t : Str} (hs : Short t) (hne : t ≠ []) : p_jlex_word t = some (wordN t) := by
  have hs' : t.length < 4294967295 := hs
  have hp : 0 < t.length := List.length_pos_iff.2 hne
  unfold p_jlex_word wordN
  rw [sbytes_eq (by omega)]
  simp only [Option.bind_eq_bind, Option.bind_some]
  rw [One_eq (by simp only [List.length_map]; omega)]
  generalize oneN (t.map u8I) = o
  obtain ⟨n, k⟩ := o
  simp only [Option.bind_some]
  by_cases hk : k = 0
  · rw [if_pos (by simp [hk]), if_pos hk]
  rw [if_neg (by simp [hk]), if_neg hk, begins_eq]
  simp only [Option.bind_some]
  by_cases hb : beginsN t = true
  · rw [if_pos hb, if_pos hb, numbers_eq hs hne]
    simp only [Option.bind_some]
    cases numsGo (t.length + 1) t 0 [] with
    | error i => simp only; rw [if_pos (by simp)]
    | ok r => obtain ⟨l, i⟩ := r; simp only; rw [if_neg (by simp)]
  rw [if_neg hb, if_neg hb, sget_eq (by decide) (by omega)]
  simp only [Option.bind_some]
  by_cases hq : bt t 0 = 39
  · rw [if_pos (by simp [hq]), if_pos hq, text_eq hs hne]; rfl
  rw [if_neg (by simp [hq]), if_neg hq, letter_eq]
  simp only [Option.bind_some]
  by_cases hl : isLet (bt t 0) = true
  · rw [if_pos hl, if_pos hl, name_eq hs hne]
    simp only [Option.bind_some]
    cases (nameN t).2 <;> simp
  rw [if_neg hl, if_neg hl, words_eq]
  simp only [Option.bind_some]
  rw [word_l0_eq (x := wordToks) (by decide) wordToks 0 (by decide) rfl]
  simp only [Option.bind_some]
  cases findGo t wordToks <;> rfl
theorem numsGo_ok : ∀ (f : Nat) (t : Str) (i : Nat) (l l' : List Int) (k : Nat), beginsN t = true → numsGo f t i l = .ok (l', k) → i < k ∧ k ≤ i + t.length
  | 0, t, i, l, l', k, hb, h => by simp [numsGo] at h
  | f + 1, t, i, l, l', k, hb, h => by
    have h1 := numLen_pos hb
    have h2 := numLen_le (beginsN_ne hb)
    unfold numsGo at h
    split at h
    · simp at h
    · split at h
      · simp only [Except.ok.injEq, Prod.mk.injEq] at h
        omega
      · rename_i h3
        simp only [not_or, Bool.not_eq_false] at h3
        have hne := beginsN_ne h3.2
        rw [← List.length_pos_iff, List.length_drop] at hne
        have := numsGo_ok f _ _ _ _ _ h3.2 h
        rw [List.length_drop] at this
        omega
theorem numsGo_err : ∀ (f : Nat) (t : Str) (i : Nat) (l : List Int) (k : Nat), beginsN t = true → numsGo f t i l = .error k → k ≤ i + t.length
  | 0, t, i, l, k, hb, h => by
    simp only [numsGo, Except.error.injEq] at h; omega
  | f + 1, t, i, l, k, hb, h => by
    have h1 := numLen_pos hb
    have h2 := numLen_le (beginsN_ne hb)
    unfold numsGo at h
    split at h
    · simp only [Except.error.injEq] at h; omega
    · split at h
      · simp at h
      · rename_i h3
        simp only [not_or, Bool.not_eq_false] at h3
        have hne := beginsN_ne h3.2
        rw [← List.length_pos_iff, List.length_drop] at hne
        have := numsGo_err f _ _ _ _ h3.2 h
        rw [List.length_drop] at this
        omega
theorem textGo_res : ∀ (f : Nat) (t : Str) (i : Nat) (l : List Int) (r : Arr × Int × Fault), textGo f t i l = .error r →
    (r.2.2.err = 0 → (i : Int) + 1 ≤ r.2.1 ∧ r.2.1 ≤ (i : Int) + t.length) ∧ (r.2.2.err ≠ 0 → (i : Int) ≤ r.2.2.at_ ∧ r.2.2.at_ ≤ (i : Int) + t.length)
  | 0, t, i, l, r, h => by simp [textGo] at h
  | f + 1, t, i, l, r, h => by
    have hk := oneN_k (t.map u8I)
    simp only [List.length_map] at hk
    unfold textGo at h
    split at h
    · simp at h
    rename_i hne
    have hp : 0 < t.length := List.length_pos_iff.2 hne
    split at h
    · simp only [Except.error.injEq] at h; subst h; simp; omega
    rename_i hk0
    split at h
    · split at h
      · simp only [Except.error.injEq] at h; subst h; simp; omega
      · rename_i hq
        have h2 := bt_pos_len (s := t) (i := 1) (by decide) (by simp only [ne_eq, Decidable.not_not] at hq; omega)
        have := textGo_res f _ _ _ _ h
        rw [List.length_drop] at this
        omega
    · split at h
      · simp only [Except.error.injEq] at h; subst h; simp; omega
      · have := textGo_res f _ _ _ _ h
        rw [List.length_drop] at this
        omega
theorem hasPre_iff {s p : Str} : hasPre s p = true ↔ s.take p.length = p := by
  unfold hasPre
  rw [List.isPrefixOf_iff_prefix, List.prefix_iff_eq_take, eq_comm]
theorem hasPre_le {s p : Str} (h : hasPre s p = true) : p.length ≤ s.length := by
  unfold hasPre at h
  rw [List.isPrefixOf_iff_prefix] at h
  exact h.length_le
theorem findGo_res {t : Str} : ∀ (m : List Token) (r : Token × Int × Fault), findGo t m = .error r → r.1 ∈ m ∧ hasPre t r.1.text = true ∧ (r.2.2.err = 0 → r.2.1 = r.1.text.length) ∧ (r.2.2.err ≠ 0 → r.2.2.at_ = 0)
  | [], r, h => by simp [findGo] at h
  | y :: m, r, h => by
    unfold findGo at h
    split at h
    · rename_i hp
      split at h
      · simp only [Except.error.injEq] at h; subst h; simp [hp]
      · simp only [Except.error.injEq] at h; subst h; simp [hp]
    · have := findGo_res m r h
      exact ⟨List.mem_cons_of_mem _ this.1, this.2⟩
theorem wordToks_ne : ∀ y ∈ wordToks, 1 ≤ y.text.length := by decide +kernel
theorem nameN_text {t : Str} (hne : t ≠ []) : 1 ≤ (nameN t).1.text.length ∧ (nameN t).1.text.length ≤ t.length ∧ t.take (nameN t).1.text.length = (nameN t).1.text := by
  have hk := nameLen_le hne
  have h1 : 1 ≤ nameLen t := by unfold nameLen; omega
  unfold nameN
  split
  · rename_i h
    have := bt_pos_len (s := t) (i := nameLen t) (by omega) (by omega)
    simp only [List.length_take]
    rw [show min (nameLen t + 1) t.length = nameLen t + 1 from by omega]
    refine ⟨by omega, by omega, rfl⟩
  · split <;>
    · simp only [List.length_take]
      rw [show min (nameLen t) t.length = nameLen t from by omega]
      exact ⟨h1, hk, rfl⟩
theorem wordN_res {t : Str} (hne : t ≠ []) : ((wordN t).2.2.err = 0 → 1 ≤ (wordN t).2.1 ∧ (wordN t).2.1 ≤ t.length ∧ t.take (wordN t).1.text.length = (wordN t).1.text ∧ (wordN t).1.text.length ≤ t.length) ∧
    ((wordN t).2.2.err ≠ 0 → 0 ≤ (wordN t).2.2.at_ ∧ (wordN t).2.2.at_ ≤ t.length) := by
  have hp : 0 < t.length := List.length_pos_iff.2 hne
  unfold wordN
  split
  · simp
  split
  · rename_i hb
    cases hg : numsGo (t.length + 1) t 0 [] with
    | error i =>
      have := numsGo_err _ _ _ _ _ hb hg
      simp; omega
    | ok r =>
      obtain ⟨l, i⟩ := r
      have := numsGo_ok _ _ _ _ _ _ hb hg
      simp; omega
  split
  · unfold textN
    cases hg : textGo (t.length + 1) (t.drop 1) 1 [] with
    | ok u => simp
    | error r =>
      have := textGo_res _ _ _ _ _ hg
      rw [List.length_drop] at this
      simp only [List.length_nil, List.take_zero, true_and]
      refine ⟨fun h => ?_, fun h => ?_⟩
      · have := this.1 h
        refine ⟨by omega, by omega, by omega⟩
      · have := this.2 h
        omega
  split
  · have hn := nameN_text hne
    split
    · simp
    · refine ⟨fun _ => ⟨?_, ?_, hn.2.2, hn.2.1⟩, fun h => absurd rfl h⟩
      · show (1 : Int) ≤ ((nameN t).1.text.length : Int); omega
      · show ((nameN t).1.text.length : Int) ≤ _; omega
  · cases hg : findGo t wordToks with
    | ok u => simp
    | error r =>
      have := findGo_res _ _ hg
      obtain ⟨h1, h2, h3, h4⟩ := this
      have h5 := wordToks_ne _ h1
      have h6 := hasPre_le h2
      refine ⟨fun h => ⟨?_, ?_, hasPre_iff.1 h2, h6⟩, fun h => ?_⟩
      · have := h3 h; simp only at this ⊢; omega
      · have := h3 h; simp only at this ⊢; omega
      · have := h4 h; simp only at this ⊢; omega
def lexGo : Nat → Str → Nat → List Token → Except (List Token × Fault) (List Token)
  | 0, _, _, l => .ok l
  | f + 1, t, i, l =>
    if t = [] then .ok l else
    if bt t 0 = 32 then lexGo f (t.drop 1) (i + 1) l else
    if hasPre t [78, 66, 46] = true then .ok l else
    if l.length = 2048 then .error ([], Fault.mk 14 i 0) else
    if (wordN t).2.2.err ≠ 0 then .error ([], Fault.mk (wordN t).2.2.err ((wordN t).2.2.at_ + i) (wordN t).2.2.why) else
    lexGo f (t.drop (wordN t).2.1.toNat) (i + (wordN t).2.1.toNat) (l ++ [Token.mk (wordN t).1.kind (wordN t).1.text (wordN t).1.lit i])
theorem Lex_l0_eq {s : Str} (hs : Short s) : ∀ (f i : Nat) (l : List Token), s.length < f + i → i ≤ s.length → l.length ≤ i →
    p_jlex_Lex_l0 (s, (i : Int), l) = some (lexGo f (s.drop i) i l)
  | 0, i, l, hf, hi, hl => by omega
  | f + 1, i, l, hf, hi, hl => by
    have hs' : s.length < 4294967295 := hs
    rw [p_jlex_Lex_l0]
    unfold lexGo
    by_cases hlt : i < s.length
    · have hne : s.drop i ≠ [] := by rw [← List.length_pos_iff, List.length_drop]; omega
      have hsd := short_drop hs i
      have hb : bt s i = bt (s.drop i) 0 := by
        have := bt_drop s (i := i) (j := 0) (by omega) (by decide)
        rw [Int.toNat_natCast, Int.add_zero] at this
        exact this.symm
      rw [if_pos (by simpa using hlt), sget_eq (by omega) (by omega), if_neg hne]
      simp only [Option.bind_eq_bind, Option.bind_some]
      rw [hb]
      by_cases h32 : bt (s.drop i) 0 = 32
      · rw [if_pos (by simp [h32]), if_pos h32, w64_id (by omega) (by omega)]
        rw [show (i : Int) + 1 = ((i + 1 : Nat) : Int) from by omega, Lex_l0_eq hs f (i + 1) _ (by omega) (by omega) (by omega), List.drop_drop]
      rw [if_neg (by simpa using h32), if_neg h32, sfrom_eq (by omega) (by omega)]
      simp only [Option.bind_some, Int.toNat_natCast, HasPrefix_eq]
      by_cases hp : hasPre (s.drop i) [78, 66, 46] = true
      · rw [if_pos hp, if_pos hp]
      rw [if_neg hp, if_neg hp]
      by_cases hm : l.length = 2048
      · rw [if_pos (by simp [hm]), if_pos hm]
      rw [if_neg (by simp; omega), if_neg hm, word_eq hsd hne]
      simp only [Option.bind_some]
      have hw := wordN_res hne
      simp only [List.length_drop] at hw
      generalize hW : wordN (s.drop i) = W at *
      obtain ⟨tok, k, fl⟩ := W
      simp only at hw ⊢
      by_cases he : fl.err = 0
      · have hw := hw.1 he
        rw [if_neg (by simp [he]), if_neg (by simp [he]), lapp_eq (by simp; omega), w64_id (by omega) (by omega)]
        simp only [Option.bind_some]
        rw [show (i : Int) + k = ((i + k.toNat : Nat) : Int) from by omega,
          Lex_l0_eq hs f _ _ (by omega) (by omega) (by simp; omega), ← List.drop_drop]
      · have hw := hw.2 he
        rw [if_pos (by simp [he]), if_pos he, w64_id (by omega) (by omega)]
    · rw [if_neg (by simp; omega)]
      have : s.drop i = [] := by rw [List.drop_eq_nil_iff]; omega
      rw [if_pos this]
def lexN (s : Str) : List Token × Fault :=
  if s.length > 8192 then ([], Fault.mk 14 0 0) else
  match lexGo (s.length + 1) s 0 [] with
  | .error r => r
  | .ok l => (l, Fault.mk 0 0 0)
theorem Lex_eq (s : Str) : p_jlex_Lex s = some (lexN s) := by
  unfold p_jlex_Lex lexN
  by_cases h : s.length > 8192
  · rw [if_pos (by simp; omega), if_pos h]
  · rw [if_neg (by simp; omega), if_neg h, show (0 : Int) = ((0 : Nat) : Int) from rfl, Lex_l0_eq (s := s) (by show s.length < 4294967295; omega) (s.length + 1) 0 [] (by omega) (by omega) (by simp)]
    simp only [Option.bind_eq_bind, Option.bind_some, List.drop_zero]
    cases lexGo (s.length + 1) s 0 [] <;> rfl
end Go.AM.Seat

namespace Go.AM.Seat
open Go Go.AM
set_option linter.unusedVariables false
def Flat (a : Arr) : Prop := a.shape.length < 4294967296 ∧ a.cells.length < 4294967296 ∧ ∀ c ∈ a.cells, c.box = []
theorem ints_self (a : Int) : p_triglyphref03_ints a a = some 0 := by
  unfold p_triglyphref03_ints
  rw [if_neg (by simp), if_neg (by simp)]
theorem Cell_self {c : Cell} (h : c.box = []) : p_triglyphref03_Cell (c, c) = some 0 := by
  rw [p_triglyphref03_Cell]
  simp [ints_self, h]
theorem Cmp_l0_self {a : Arr} (hl : a.shape.length < 4294967296) : ∀ (m : List Int) (i : Int), 0 ≤ i → a.shape.drop i.toNat = m → p_triglyphref03_Cmp_l0 (a, a, 0, i) = some 0
  | [], i, h0, h => by
    rw [p_triglyphref03_Cmp_l0]
    have := drop_nil_le h
    rw [if_neg (by simp; omega)]
  | c :: m, i, h0, h => by
    obtain ⟨h1, h2, h3⟩ := lget_cons h0 h
    rw [p_triglyphref03_Cmp_l0]
    rw [if_pos (by simpa using h2), if_pos (by rfl), h1]
    simp only [Option.bind_eq_bind, Option.bind_some, ints_self]
    rw [w64_id (by omega) (by omega), Cmp_l0_self hl m (i + 1) (by omega) h3]
theorem Cmp_l1_self {a : Arr} (hl : a.cells.length < 4294967296) (hb : ∀ c ∈ a.cells, c.box = []) : ∀ (m : List Cell) (i : Int), 0 ≤ i → a.cells.drop i.toNat = m → p_triglyphref03_Cmp_l1 (a, a, 0, i) = some 0
  | [], i, h0, h => by
    rw [p_triglyphref03_Cmp_l1]
    have := drop_nil_le h
    rw [if_neg (by simp; omega)]
  | c :: m, i, h0, h => by
    obtain ⟨h1, h2, h3⟩ := lget_cons h0 h
    have hm : c ∈ a.cells := by
      have : c ∈ a.cells.drop i.toNat := by rw [h]; simp
      exact List.mem_of_mem_drop this
    rw [p_triglyphref03_Cmp_l1]
    rw [if_pos (by simpa using h2), if_pos (by simpa using h2), if_pos (by rfl), h1]
    simp only [Option.bind_eq_bind, Option.bind_some, Cell_self (hb c hm)]
    rw [w64_id (by omega) (by omega), Cmp_l1_self hl hb m (i + 1) (by omega) h3]
theorem Same_self {a : Arr} (h : Flat a) : p_triglyphref03_Same a a = some true := by
  obtain ⟨h1, h2, h3⟩ := h
  unfold p_triglyphref03_Same
  rw [p_triglyphref03_Cmp]
  simp only [Option.bind_eq_bind, ints_self, Option.bind_some]
  rw [Cmp_l0_self h1 _ 0 (by decide) rfl]
  simp only [Option.bind_some]
  rw [Cmp_l1_self h2 h3 _ 0 (by decide) rfl]
  rfl
theorem Text2_l0_eq {l : List Int} (hl : l.length < 4294967296) : ∀ (m : List Int) (x : Int) (acc : List Cell), 0 ≤ x → acc.length + m.length ≤ 4294967296 → l.drop x.toNat = m →
    p_triglyphref03_Text_l0 (l, x, acc) = some (acc ++ m.map fun n => Cell.mk 1 n [])
  | [], x, acc, h0, ha, h => by
    rw [p_triglyphref03_Text_l0]
    have := drop_nil_le h
    rw [if_neg (by simp; omega)]; simp
  | n :: m, x, acc, h0, ha, h => by
    obtain ⟨h1, h2, h3⟩ := lget_cons h0 h
    simp only [List.length_cons] at ha
    rw [p_triglyphref03_Text_l0]
    rw [if_pos (by simpa using h2), h1]
    simp only [Option.bind_eq_bind, Option.bind_some]
    rw [lapp_eq (by simp; omega), w64_id (by omega) (by omega)]
    simp only [Option.bind_some]
    rw [Text2_l0_eq hl m (x + 1) _ (by omega) (by simp; omega) h3]
    simp
theorem Nums2_l0_eq {l : List Int} (hl : l.length < 4294967296) : ∀ (m : List Int) (x : Int) (acc : List Cell), 0 ≤ x → acc.length + m.length ≤ 4294967296 → l.drop x.toNat = m →
    p_triglyphref03_Nums_l0 (l, x, acc) = some (acc ++ m.map fun n => Cell.mk 0 n [])
  | [], x, acc, h0, ha, h => by
    rw [p_triglyphref03_Nums_l0]
    have := drop_nil_le h
    rw [if_neg (by simp; omega)]; simp
  | n :: m, x, acc, h0, ha, h => by
    obtain ⟨h1, h2, h3⟩ := lget_cons h0 h
    simp only [List.length_cons] at ha
    rw [p_triglyphref03_Nums_l0]
    rw [if_pos (by simpa using h2), h1]
    simp only [Option.bind_eq_bind, Option.bind_some]
    rw [lapp_eq (by simp; omega), w64_id (by omega) (by omega)]
    simp only [Option.bind_some]
    rw [Nums2_l0_eq hl m (x + 1) _ (by omega) (by simp; omega) h3]
    simp
theorem Nums2_eq {l : List Int} (hl : l.length < 4294967296) : p_triglyphref03_Nums l = some (Arr.mk [(l.length : Int)] (l.map fun n => Cell.mk 0 n [])) := by
  unfold p_triglyphref03_Nums
  rw [Nums2_l0_eq hl l 0 [] (by decide) (by simp; omega) rfl]; rfl
theorem works_lex1 : lexN [97, 61, 58, 32, 105, 46, 32, 49, 32, 95, 50, 32, 78, 66, 46, 32, 120] =
    ([Token.mk 3 [97] noArr 0, Token.mk 7 [61, 58] noArr 1, Token.mk 4 [105, 46] noArr 4, Token.mk 1 [] (Arr.mk [2] [Cell.mk 0 1 [], Cell.mk 0 (-2) []]) 7], Fault.mk 0 0 0) := by
  kernel_rfl
theorem works_lex2 : lexN [49, 32, 97, 98, 46] = ([], Fault.mk 2 2 0) := by
  kernel_rfl
theorem works_eq : p_triglyphlaw13_works = some true := by
  unfold p_triglyphlaw13_works
  rw [Lex_eq, works_lex1, Lex_eq, works_lex2]
  simp only [Option.bind_eq_bind, Option.bind_some]
  rw [if_pos (by rfl), if_pos (by rfl)]
  rw [lget_eq (x := Token.mk 7 [61, 58] noArr 1) (by decide) rfl]
  simp only [Option.bind_some]
  rw [if_pos (by rfl), lget_eq (x := Token.mk 4 [105, 46] noArr 4) (by decide) rfl]
  simp only [Option.bind_some]
  rw [if_pos (by rfl), lget_eq (x := Token.mk 1 [] (Arr.mk [2] [Cell.mk 0 1 [], Cell.mk 0 (-2) []]) 7) (by decide) rfl]
  simp only [Option.bind_some]
  rw [Nums2_eq (by decide)]
  simp only [Option.bind_some]
  have : p_triglyphref03_Same (Arr.mk [2] [Cell.mk 0 1 [], Cell.mk 0 (-2) []]) (Arr.mk [(([1, (-2)] : List Int).length : Int)] (([1, (-2)] : List Int).map fun n => Cell.mk 0 n [])) = some true :=
    Same_self ⟨by decide, by decide, by decide +kernel⟩
  rw [this]
  rfl
end Go.AM.Seat

namespace Go.AM.Seat
open Go Go.AM
set_option linter.unusedVariables false
def GoodN (n : Int) : Prop := 0 ≤ n ∧ n < 1114112 ∧ (n < 55296 ∨ n > 57343)
theorem Good2_true {n : Int} (h : GoodN n) : p_triglyphref02_Good n = some true := by
  obtain ⟨h0, h1, h2⟩ := h
  unfold p_triglyphref02_Good
  simp only [decide_eq_true_eq]
  rw [if_pos h0]
  by_cases h : n < 55296
  · rw [if_pos h]
  · rw [if_neg h, if_pos (by omega), decide_eq_true h1]
theorem Good2_false {n : Int} (h : ¬ GoodN n) : p_triglyphref02_Good n = some false := by
  unfold GoodN at h
  unfold p_triglyphref02_Good
  simp only [decide_eq_true_eq]
  by_cases h0 : n ≥ 0
  · rw [if_pos h0]
    by_cases h1 : n < 55296
    · omega
    · rw [if_neg h1]
      by_cases h2 : n > 57343
      · rw [if_pos h2, decide_eq_false (by omega)]
      · rw [if_neg h2]
  · rw [if_neg h0, if_neg (by omega)]
theorem width2_eq (n : Int) : p_triglyphref02_width n = some (widthN n) := by
  unfold p_triglyphref02_width widthN
  simp only [decide_eq_true_eq]
  split
  · rfl
  split
  · rfl
  split <;> rfl
def putN (n : Int) : List Int :=
  if n < 128 then [n] else if n < 2048 then [192 + n / 64, 128 + n % 64] else if n < 65536 then [224 + n / 4096, 128 + n / 64 % 64, 128 + n % 64]
  else [240 + n / 262144, 128 + n / 4096 % 64, 128 + n / 64 % 64, 128 + n % 64]
theorem wrap8 {x : Int} (h0 : 0 ≤ x) (h1 : x < 256) : IntKind.u8.wrap x = x := by
  show x % 256 = x
  omega
theorem aidx_ok {m : Int} {n : Nat} (h0 : 0 ≤ m) (h1 : m.toNat < n) : aidx m n = some m.toNat := by
  unfold aidx; rw [if_pos ⟨h0, h1⟩]
theorem aset_ok {α : Type} {xs : List α} {j : Nat} {v : α} (h : j < xs.length) : aset xs j v = some (xs.set j v) := by
  unfold aset; rw [if_pos h]
theorem Put_step {k n i : Int} {out : List Int} (hi : 0 < i) (hik : i.toNat < k.toNat) (hil : i.toNat < out.length) (h0 : 0 ≤ n) (hn : n < 1114112) (hi2 : i < 100) :
    p_triglyphref02_Put_l0 (k, n, i, out) = p_triglyphref02_Put_l0 (k, n / 64, i - 1, out.set i.toNat (128 + n % 64)) := by
  conv => lhs; rw [p_triglyphref02_Put_l0]
  rw [if_pos (by simpa using hi), aidx_ok (by omega) hik]
  simp only [Option.bind_eq_bind, Option.bind_some]
  rw [aset_ok hil]
  simp only [Option.bind_some]
  rw [Int.tmod_eq_emod_of_nonneg h0, Int.tdiv_eq_ediv_of_nonneg h0, w64_id (x := 128 + n % 64) (by omega) (by omega), wrap8 (x := 128 + n % 64) (by omega) (by omega), w64_id (x := n / 64) (by omega) (by omega), w64_id (x := i - 1) (by omega) (by omega)]
theorem Put_end {k n i : Int} {out : List Int} (hi : ¬ 0 < i) : p_triglyphref02_Put_l0 (k, n, i, out) = some (n, out) := by
  rw [p_triglyphref02_Put_l0, if_neg (by simpa using hi)]
theorem Put_eq {n : Int} (h0 : 0 ≤ n) (hn : n < 1114112) : p_triglyphref02_Put n = some (putN n) := by
  unfold p_triglyphref02_Put
  rw [width2_eq]
  simp only [Option.bind_eq_bind, Option.bind_some]
  unfold putN widthN
  by_cases h1 : n < 128
  · simp only [if_pos h1]
    rw [show mkarr (1 : Int) (0 : Int) = some [0] from rfl]
    simp only [Option.bind_some]
    rw [w64_id (by omega) (by omega), Put_end (by omega)]
    simp only [Option.bind_some]
    rw [if_pos (by rfl), aidx_ok (by decide) (by decide)]
    simp only [Option.bind_some]
    rw [aset_ok (by decide), wrap8 h0 (by omega)]
    rfl
  by_cases h2 : n < 2048
  · simp only [if_neg h1, if_pos h2]
    rw [show mkarr (2 : Int) (0 : Int) = some [0, 0] from rfl]
    simp only [Option.bind_some]
    rw [w64_id (by omega) (by omega), Put_step (by decide) (by decide) (by decide) h0 hn (by decide), Put_end (by decide)]
    simp only [Option.bind_some]
    rw [if_neg (by decide), if_pos (by rfl), aidx_ok (by decide) (by decide)]
    simp only [Option.bind_some]
    rw [aset_ok (by simp), w64_id (by omega) (by omega), wrap8 (by omega) (by omega)]
    rfl
  by_cases h3 : n < 65536
  · simp only [if_neg h1, if_neg h2, if_pos h3]
    rw [show mkarr (3 : Int) (0 : Int) = some [0, 0, 0] from rfl]
    simp only [Option.bind_some]
    rw [w64_id (by omega) (by omega), Put_step (by decide) (by decide) (by decide) h0 hn (by decide), Put_step (by decide) (by decide) (by simp) (by omega) (by omega) (by decide), Put_end (by decide)]
    simp only [Option.bind_some]
    rw [if_neg (by decide), if_neg (by decide), if_pos (by rfl), aidx_ok (by decide) (by decide)]
    simp only [Option.bind_some]
    rw [aset_ok (by simp), w64_id (by omega) (by omega), wrap8 (by omega) (by omega), Int.ediv_ediv_of_nonneg (by decide)]
    rfl
  · simp only [if_neg h1, if_neg h2, if_neg h3]
    rw [show mkarr (4 : Int) (0 : Int) = some [0, 0, 0, 0] from rfl]
    simp only [Option.bind_some]
    rw [w64_id (by omega) (by omega), Put_step (by decide) (by decide) (by decide) h0 hn (by decide), Put_step (by decide) (by decide) (by simp) (by omega) (by omega) (by decide),
      Put_step (by decide) (by decide) (by simp) (by omega) (by omega) (by decide), Put_end (by decide)]
    simp only [Option.bind_some]
    rw [if_neg (by decide), if_neg (by decide), if_neg (by decide), aidx_ok (by decide) (by decide)]
    simp only [Option.bind_some]
    rw [aset_ok (by simp), w64_id (by omega) (by omega), wrap8 (by omega) (by omega), Int.ediv_ediv_of_nonneg (by decide), Int.ediv_ediv_of_nonneg (by decide)]
    rfl
theorem first_tab : ∀ c ∈ List.range 256, firstN (c : Int) = if c < 128 then (1, (c : Int)) else if c < 192 then (0, 0) else if c ≥ 248 then (0, 0) else if c < 224 then (2, (c : Int) - 192) else if c < 240 then (3, (c : Int) - 224) else (4, (c : Int) - 240) := by
  decide +kernel
theorem firstN_lo {c : Int} (h0 : 0 ≤ c) (h : c < 128) : firstN c = (1, c) := by
  have := first_tab c.toNat (by simp; omega)
  rw [show ((c.toNat : Nat) : Int) = c from by omega] at this
  rw [this, if_pos (by omega)]
theorem firstN_2 {c : Int} (h0 : 192 ≤ c) (h : c < 224) : firstN c = (2, c - 192) := by
  have := first_tab c.toNat (by simp; omega)
  rw [show ((c.toNat : Nat) : Int) = c from by omega] at this
  rw [this, if_neg (by omega), if_neg (by omega), if_neg (by omega), if_pos (by omega)]
theorem firstN_3 {c : Int} (h0 : 224 ≤ c) (h : c < 240) : firstN c = (3, c - 224) := by
  have := first_tab c.toNat (by simp; omega)
  rw [show ((c.toNat : Nat) : Int) = c from by omega] at this
  rw [this, if_neg (by omega), if_neg (by omega), if_neg (by omega), if_neg (by omega), if_pos (by omega)]
theorem firstN_4 {c : Int} (h0 : 240 ≤ c) (h : c < 248) : firstN c = (4, c - 240) := by
  have := first_tab c.toNat (by simp; omega)
  rw [show ((c.toNat : Nat) : Int) = c from by omega] at this
  rw [this, if_neg (by omega), if_neg (by omega), if_neg (by omega), if_neg (by omega), if_neg (by omega)]
theorem cont_tab : ∀ c ∈ List.range 64, contN (((128 + c : Nat) : Int)) = false ∧ (IntKind.u8.wrap ((BitVec.ofInt 8 ((128 + c : Nat) : Int) &&& BitVec.ofInt 8 63).toNat)) = (c : Int) := by
  decide +kernel
theorem push_eq {n c : Int} (h0 : 0 ≤ n) (hn : n < 65536) (c0 : 0 ≤ c) (hc : c < 64) : contN (128 + c) = false ∧ pushN n (128 + c) = n * 64 + c := by
  have := cont_tab c.toNat (by simp; omega)
  rw [show (((128 + c.toNat : Nat) : Int)) = 128 + c from by omega, show ((c.toNat : Nat) : Int) = c from by omega] at this
  refine ⟨this.1, ?_⟩
  unfold pushN
  rw [this.2, w64_id (x := n * 2 ^ 6) (by omega) (by omega), w64_id (x := c) (by omega) (by omega)]
  obtain ⟨a, rfl⟩ : ∃ a : Nat, n = a := ⟨n.toNat, by omega⟩
  obtain ⟨b, rfl⟩ : ∃ b : Nat, c = b := ⟨c.toNat, by omega⟩
  have ha : (BitVec.ofInt 64 ((a : Int) * 2 ^ 6)).toNat = a <<< 6 := by
    rw [BitVec.toNat_ofInt]
    have : ((a : Int) * 2 ^ 6) % ((2 ^ 64 : Nat) : Int) = (a : Int) * 64 := by
      have : ((2 ^ 64 : Nat) : Int) = 18446744073709551616 := by decide
      rw [this]; omega
    rw [this, Nat.shiftLeft_eq]; omega
  have hb : (BitVec.ofInt 64 (b : Int)).toNat = b := by
    rw [BitVec.toNat_ofInt]
    have : (b : Int) % ((2 ^ 64 : Nat) : Int) = b := by
      have : ((2 ^ 64 : Nat) : Int) = 18446744073709551616 := by decide
      rw [this]; omega
    rw [this]; omega
  rw [BitVec.toNat_or, ha, hb, ← Nat.shiftLeft_add_eq_or_of_lt (by omega), Nat.shiftLeft_eq, w64_id (by omega) (by omega)]
  omega
theorem goodN_of {n : Int} (h : GoodN n) : goodN n = true := by
  obtain ⟨h1, h2, h3⟩ := h
  unfold goodN
  simp only [Bool.and_eq_true, Bool.or_eq_true, decide_eq_true_eq]
  omega
theorem one_put {n : Int} (h : GoodN n) (r : List Int) : oneN (putN n ++ r) = (n, widthN n) := by
  have hg := goodN_of h
  obtain ⟨h0, hn, hs⟩ := h
  unfold putN
  by_cases h1 : n < 128
  · rw [if_pos h1, List.cons_append, List.nil_append, oneN_cons, firstN_lo h0 h1, if_neg (by simp), if_neg (by simp; omega)]
    simp [contGo, oneRest, hg, widthN, h1]
  by_cases h2 : n < 2048
  · rw [if_neg h1, if_pos h2]
    simp only [List.cons_append, List.nil_append]
    rw [oneN_cons, firstN_2 (by omega) (by omega), if_neg (by simp), if_neg (by simp; omega)]
    have p1 := push_eq (n := 192 + n / 64 - 192) (c := n % 64) (by omega) (by omega) (by omega) (by omega)
    simp only [show (2 : Int).toNat - 1 = 1 from rfl, List.take_succ_cons, List.take_zero, contGo, p1.1, p1.2, Bool.false_eq_true, if_false]
    rw [show (192 + n / 64 - 192) * 64 + n % 64 = n from by omega]
    simp [oneRest, hg, widthN, h1, h2]
  by_cases h3 : n < 65536
  · rw [if_neg h1, if_neg h2, if_pos h3]
    simp only [List.cons_append, List.nil_append]
    rw [oneN_cons, firstN_3 (by omega) (by omega), if_neg (by simp), if_neg (by simp; omega)]
    have p1 := push_eq (n := 224 + n / 4096 - 224) (c := n / 64 % 64) (by omega) (by omega) (by omega) (by omega)
    have e1 : (224 + n / 4096 - 224) * 64 + n / 64 % 64 = n / 64 := by omega
    have p2 := push_eq (n := n / 64) (c := n % 64) (by omega) (by omega) (by omega) (by omega)
    simp only [show (3 : Int).toNat - 1 = 2 from rfl, List.take_succ_cons, List.take_zero, contGo, p1.1, p1.2, e1, p2.1, p2.2, Bool.false_eq_true, if_false]
    rw [show n / 64 * 64 + n % 64 = n from by omega]
    simp [oneRest, hg, widthN, h1, h2, h3]
  · rw [if_neg h1, if_neg h2, if_neg h3]
    simp only [List.cons_append, List.nil_append]
    rw [oneN_cons, firstN_4 (by omega) (by omega), if_neg (by simp), if_neg (by simp; omega)]
    have p0 := push_eq (n := 240 + n / 262144 - 240) (c := n / 4096 % 64) (by omega) (by omega) (by omega) (by omega)
    have e0 : (240 + n / 262144 - 240) * 64 + n / 4096 % 64 = n / 4096 := by omega
    have p1 := push_eq (n := n / 4096) (c := n / 64 % 64) (by omega) (by omega) (by omega) (by omega)
    have e1 : n / 4096 * 64 + n / 64 % 64 = n / 64 := by omega
    have p2 := push_eq (n := n / 64) (c := n % 64) (by omega) (by omega) (by omega) (by omega)
    simp only [show (4 : Int).toNat - 1 = 3 from rfl, List.take_succ_cons, List.take_zero, contGo, p0.1, p0.2, e0, p1.1, p1.2, e1, p2.1, p2.2, Bool.false_eq_true, if_false]
    rw [show n / 64 * 64 + n % 64 = n from by omega]
    simp [oneRest, hg, widthN, h1, h2, h3]
theorem putN_len (n : Int) : ((putN n).length : Int) = widthN n := by
  unfold putN widthN
  split
  · rfl
  split
  · rfl
  split <;> rfl
theorem putN_bytes {n : Int} (h0 : 0 ≤ n) (hn : n < 1114112) : ∀ c ∈ putN n, 0 ≤ c ∧ c < 256 := by
  unfold putN
  split
  · simp; omega
  split
  · simp; omega
  split
  · simp; omega
  · simp; omega
end Go.AM.Seat

namespace Go.AM.Seat
open Go Go.AM
set_option linter.unusedVariables false
def OKN (n : Int) : Prop := GoodN n ∧ 32 ≤ n ∧ n ≠ 127
def escB : List Int → List Int
  | [] => []
  | n :: r => (if n = 39 then [39, 39] else putN n) ++ escB r
theorem escB_len : ∀ l : List Int, (escB l).length ≤ 4 * l.length
  | [] => by simp [escB]
  | n :: r => by
    have := escB_len r
    have h := putN_len n
    unfold widthN at h
    simp only [escB, List.length_append, List.length_cons]
    split
    · simp; omega
    · split at h <;> (try split at h) <;> (try split at h) <;> omega
theorem escB_bytes : ∀ {l : List Int}, (∀ n ∈ l, OKN n) → ∀ c ∈ escB l, 0 ≤ c ∧ c < 256
  | [], _, c, hc => by simp [escB] at hc
  | n :: r, h, c, hc => by
    simp only [escB, List.mem_append] at hc
    rcases hc with hc | hc
    · split at hc
      · simp at hc; omega
      · obtain ⟨⟨g1, g2, _⟩, _⟩ := h n (by simp)
        exact putN_bytes g1 g2 c hc
    · exact escB_bytes (fun n hn => h n (by simp [hn])) c hc
theorem putN_39 : putN 39 = [39] := rfl
theorem loop_ok {l : List Int} (hl : l.length ≤ 500) : ∀ (m : List Int) (i : Int) (acc : List Int), 0 ≤ i → l.drop i.toNat = m → acc.length + 4 * m.length ≤ 2000 → (∀ n ∈ m, OKN n) →
    p_triglyphlaw13_JlexTexts_l0 (l, acc, i) = some (.ok (acc ++ escB m))
  | [], i, acc, h0, h, ha, hm => by
    rw [p_triglyphlaw13_JlexTexts_l0]
    have := drop_nil_le h
    rw [if_neg (by simp; omega)]; simp [escB]
  | n :: m, i, acc, h0, h, ha, hm => by
    obtain ⟨h1, h2, h3⟩ := lget_cons h0 h
    simp only [List.length_cons] at ha
    obtain ⟨hg, h32, h127⟩ := hm n (by simp)
    rw [p_triglyphlaw13_JlexTexts_l0]
    rw [if_pos (by simpa using h2), h1]
    simp only [Option.bind_eq_bind, Option.bind_some, Good2_true hg, Bool.not_true, Bool.false_eq_true, if_false]
    rw [if_neg (by simp; omega), if_neg (by simpa using h127)]
    have hput := Put_eq hg.1 hg.2.1
    have hlen := putN_len n
    have hw : widthN n ≤ 4 := by unfold widthN; split <;> (try split) <;> (try split) <;> omega
    by_cases h39 : n = 39
    · subst h39
      rw [if_pos (by rfl), lapp_eq (by simp; omega)]
      simp only [Option.bind_some, hput, putN_39]
      rw [lapp_eq (by simp; omega), w64_id (by omega) (by omega)]
      simp only [Option.bind_some]
      rw [loop_ok hl m (i + 1) _ (by omega) h3 (by simp; omega) (fun n hn => hm n (by simp [hn]))]
      simp [escB]
    · rw [if_neg (by simpa using h39)]
      simp only [Option.bind_some, hput]
      rw [lapp_eq (by omega), w64_id (by omega) (by omega)]
      simp only [Option.bind_some]
      rw [loop_ok hl m (i + 1) _ (by omega) h3 (by simp only [List.length_append]; omega) (fun n hn => hm n (by simp [hn]))]
      simp [escB, h39]
theorem loop_bad {l : List Int} (hl : l.length ≤ 500) : ∀ (m : List Int) (i : Int) (acc : List Int), 0 ≤ i → l.drop i.toNat = m → acc.length + 4 * m.length ≤ 2000 → (¬ ∀ n ∈ m, OKN n) →
    p_triglyphlaw13_JlexTexts_l0 (l, acc, i) = some (.error true)
  | [], i, acc, h0, h, ha, hm => by simp at hm
  | n :: m, i, acc, h0, h, ha, hm => by
    obtain ⟨h1, h2, h3⟩ := lget_cons h0 h
    simp only [List.length_cons] at ha
    rw [p_triglyphlaw13_JlexTexts_l0]
    rw [if_pos (by simpa using h2), h1]
    simp only [Option.bind_eq_bind, Option.bind_some]
    by_cases hg : GoodN n
    · simp only [Good2_true hg, Option.bind_some, Bool.not_true, Bool.false_eq_true, if_false]
      by_cases h32 : n < 32
      · rw [if_pos (by simpa using h32), works_eq]; rfl
      rw [if_neg (by simpa using h32)]
      by_cases h127 : n = 127
      · rw [if_pos (by simpa using h127), works_eq]; rfl
      rw [if_neg (by simpa using h127)]
      have hok : OKN n := ⟨hg, by omega, h127⟩
      have hm' : ¬ ∀ n ∈ m, OKN n := fun h => hm (by intro x hx; rcases List.mem_cons.1 hx with rfl | hx; exact hok; exact h x hx)
      have hput := Put_eq hg.1 hg.2.1
      have hlen := putN_len n
      have hw : widthN n ≤ 4 := by unfold widthN; split <;> (try split) <;> (try split) <;> omega
      by_cases h39 : n = 39
      · subst h39
        rw [if_pos (by rfl), lapp_eq (by simp; omega)]
        simp only [Option.bind_some, hput, putN_39]
        rw [lapp_eq (by simp; omega), w64_id (by omega) (by omega)]
        simp only [Option.bind_some]
        rw [loop_bad hl m (i + 1) _ (by omega) h3 (by simp; omega) hm']
      · rw [if_neg (by simpa using h39)]
        simp only [Option.bind_some, hput]
        rw [lapp_eq (by omega), w64_id (by omega) (by omega)]
        simp only [Option.bind_some]
        rw [loop_bad hl m (i + 1) _ (by omega) h3 (by simp only [List.length_append]; omega) hm']
    · simp only [Good2_false hg, Option.bind_some, Bool.not_false, if_true, works_eq]
theorem bstr_u8 {l : List Int} (h : ∀ c ∈ l, 0 ≤ c ∧ c < 256) : (bstr l).map u8I = l := by
  unfold bstr
  rw [List.map_map]
  conv => rhs; rw [← List.map_id l]
  refine List.map_congr_left fun c hc => ?_
  obtain ⟨h0, h1⟩ := h c hc
  show ((UInt8.ofNat c.toNat).toNat : Int) = c
  rw [UInt8.toNat_ofNat', Nat.mod_eq_of_lt (by omega)]
  omega
theorem bstr_append (a b : List Int) : bstr (a ++ b) = bstr a ++ bstr b := by simp [bstr]
theorem bstr_length (a : List Int) : (bstr a).length = a.length := by simp [bstr]
theorem textGo_esc : ∀ (m : List Int) (f i : Nat) (acc : List Int), (∀ n ∈ m, OKN n) → (escB m).length < f →
    textGo f (bstr (escB m ++ [39])) i acc = .error (textArr (acc ++ m), ((i + (escB m).length : Nat) : Int) + 1, Fault.mk 0 0 0)
  | [], 0, i, acc, h, hf => by simp at hf
  | [], f + 1, i, acc, h, hf => by
    unfold textGo
    rw [if_neg (by simp [bstr])]
    have ho : oneN ((bstr (escB [] ++ [39])).map u8I) = (39, 1) := by decide +kernel
    have hb : bt (bstr (escB [] ++ [39])) 1 = 0 := by decide +kernel
    rw [ho, if_neg (by decide), if_pos rfl, hb, if_pos (by decide)]
    simp [escB]
  | n :: m, 0, i, acc, h, hf => by omega
  | n :: m, f + 1, i, acc, h, hf => by
    obtain ⟨hg, h32, h127⟩ := h n (by simp)
    have hrest : ∀ n ∈ m, OKN n := fun n hn => h n (by simp [hn])
    have hby := escB_bytes h
    by_cases h39 : n = 39
    · subst h39
      have he : bstr (escB (39 :: m) ++ [39]) = [39, 39] ++ bstr (escB m ++ [39]) := by
        simp [escB, bstr]
      simp only [escB, if_true, List.length_append, List.length_cons, List.length_nil] at hf ⊢
      unfold textGo
      rw [if_neg (by simp [bstr])]
      have ho : oneN ((bstr (escB (39 :: m) ++ [39])).map u8I) = (39, 1) := by
        rw [he, List.map_append]
        exact one_put (n := 39) ⟨by decide, by decide, by decide⟩ (39 :: (bstr (escB m ++ [39])).map u8I)
      have hb : bt (bstr (escB (39 :: m) ++ [39])) 1 = 39 := by
        rw [he]; rfl
      have he2 : bstr ([39, 39] ++ escB m ++ [39]) = [39, 39] ++ bstr (escB m ++ [39]) := by simp [bstr]
      simp only [escB, if_true] at ho hb
      rw [ho, if_neg (by decide), if_pos rfl, hb, if_neg (by decide), he2]
      rw [show List.drop 2 (([39, 39] : Str) ++ bstr (escB m ++ [39])) = bstr (escB m ++ [39]) from rfl]
      rw [textGo_esc m f (i + 2) _ hrest (by omega)]
      congr 2
      · simp
      · congr 1; omega
    · have hw := putN_len n
      have hwp : 1 ≤ widthN n := by unfold widthN; split <;> (try split) <;> (try split) <;> omega
      simp only [escB, if_neg h39, List.length_append] at hf ⊢
      unfold textGo
      have hpb := putN_bytes hg.1 hg.2.1
      have he2 : bstr (putN n ++ escB m ++ [39]) = bstr (putN n) ++ bstr (escB m ++ [39]) := by rw [List.append_assoc, bstr_append]
      have ho : oneN ((bstr (putN n ++ escB m ++ [39])).map u8I) = (n, widthN n) := by
        rw [he2, List.map_append, bstr_u8 hpb]
        exact one_put hg _
      rw [if_neg (by
        intro e
        have := congrArg List.length e
        rw [bstr_length] at this
        simp at this), ho]
      rw [if_neg (by simp only; omega), if_neg h39, if_neg (by simp only; omega)]
      simp only
      rw [he2, List.drop_append, List.drop_eq_nil_of_le (by rw [bstr_length]; omega), List.nil_append, bstr_length, show (widthN n).toNat - (putN n).length = 0 from by omega, List.drop_zero]
      rw [textGo_esc m f _ _ hrest (by omega)]
      congr 2
      · simp
      · congr 1; omega
theorem lex_text {l : List Int} (hl : l.length ≤ 500) (h : ∀ n ∈ l, OKN n) :
    lexN ([39] ++ bstr (escB l) ++ [39]) = ([Token.mk 2 [] (textArr l) 0], Fault.mk 0 0 0) := by
  have hle := escB_len l
  have hs : ([39] ++ bstr (escB l) ++ [39] : Str) = 39 :: bstr (escB l ++ [39]) := by simp [bstr]
  have hlen : (39 :: bstr (escB l ++ [39]) : Str).length = (escB l).length + 2 := by simp [bstr]
  rw [hs]
  unfold lexN
  rw [hlen, if_neg (by omega)]
  have hb0 : bt (39 :: bstr (escB l ++ [39])) 0 = 39 := rfl
  have hw : wordN (39 :: bstr (escB l ++ [39])) = (Token.mk 2 [] (textArr l) 0, (((escB l).length + 2 : Nat) : Int), Fault.mk 0 0 0) := by
    unfold wordN
    have ho : oneN ((39 :: bstr (escB l ++ [39]) : Str).map u8I) = (39, 1) :=
      one_put (n := 39) ⟨by decide, by decide, by decide⟩ ((bstr (escB l ++ [39])).map u8I)
    have hbg : beginsN (39 :: bstr (escB l ++ [39])) = false := by
      unfold beginsN; rw [hb0]; rfl
    have ht : textN (39 :: bstr (escB l ++ [39])) = (textArr l, (((escB l).length + 2 : Nat) : Int), Fault.mk 0 0 0) := by
      unfold textN
      rw [hlen, show (39 :: bstr (escB l ++ [39]) : Str).drop 1 = bstr (escB l ++ [39]) from rfl, textGo_esc l _ 1 [] h (by omega)]
      simp only [List.nil_append]
      congr 2
      omega
    rw [ho, if_neg (by decide), if_neg (by rw [hbg]; decide), if_pos hb0, ht]
  unfold lexGo
  rw [if_neg (by simp), if_neg (by rw [hb0]; decide), if_neg (by rw [hasPre_iff]; intro e; have := congrArg (fun l => l.head?) e; simp at this), if_neg (by simp), hw]
  rw [if_neg (by simp)]
  simp only [List.nil_append]
  have hdrop : (39 :: bstr (escB l ++ [39]) : Str).drop ((((escB l).length + 2 : Nat) : Int)).toNat = [] := by
    rw [List.drop_eq_nil_iff, hlen]; omega
  rw [hdrop]
  have : ∀ f i l', lexGo f [] i l' = .ok l' := by
    intro f i l'
    cases f with
    | zero => rfl
    | succ f => unfold lexGo; rw [if_pos rfl]
  rw [this]
  rfl
theorem jlexTexts (l : List Int) : p_triglyphlaw13_JlexTexts l = some true := by
  unfold p_triglyphlaw13_JlexTexts
  by_cases hl : (l.length : Int) > 500
  · rw [if_pos (by simpa using hl), works_eq]; rfl
  rw [if_neg (by simpa using hl)]
  by_cases h : ∀ n ∈ l, OKN n
  · rw [loop_ok (by omega) l 0 [] (by decide) rfl (by simp; omega) h]
    simp only [Option.bind_eq_bind, Option.bind_some, List.nil_append]
    have hle := escB_len l
    have e1 : scat [39] (bstr (escB l)) = some ([39] ++ bstr (escB l)) := by
      unfold scat; rw [if_pos (by rw [bstr_length]; simp [room]; omega)]
    have e2 : scat ([39] ++ bstr (escB l)) [39] = some ([39] ++ bstr (escB l) ++ [39]) := by
      unfold scat; rw [if_pos (by rw [List.length_append, bstr_length]; simp [room]; omega)]
    rw [e1]
    simp only [Option.bind_some]
    rw [e2]
    simp only [Option.bind_some]
    rw [Lex_eq, lex_text (by omega) h]
    simp only [Option.bind_some]
    rw [if_pos (by rfl), if_pos (by rfl), lget_eq (x := Token.mk 2 [] (textArr l) 0) (by decide) rfl]
    simp only [Option.bind_some]
    rw [if_pos (by rfl)]
    have ht : p_triglyphref03_Text l = some (textArr l) := by
      unfold p_triglyphref03_Text textArr
      rw [Text2_l0_eq (by omega) l 0 [] (by decide) (by simp; omega) rfl]
      simp only [Option.bind_eq_bind, Option.bind_some, List.nil_append]
      by_cases h1 : l.length = 1
      · rw [if_neg (by simp [h1]), if_pos h1]; rfl
      · rw [if_pos (by simp; omega), if_neg h1]; rfl
    rw [ht]
    simp only [Option.bind_some]
    have hf : Flat (textArr l) := by
      unfold textArr
      refine ⟨?_, ?_, ?_⟩
      · show (if l.length = 1 then ([] : List Int) else [(l.length : Int)]).length < _
        split <;> simp
      · show (l.map fun n => Cell.mk 1 n []).length < _
        simp; omega
      · intro c hc
        have hc : c ∈ l.map fun n => Cell.mk 1 n [] := hc
        simp only [List.mem_map] at hc
        obtain ⟨n, _, rfl⟩ := hc
        rfl
    rw [Same_self hf]
    simp only [Option.bind_some, if_true, works_eq]
  · rw [loop_bad (by omega) l 0 [] (by decide) rfl (by simp; omega) h]
    rfl
end Go.AM.Seat
namespace Go.AM.Seat
open Go Go.AM Go.Proofs
set_option maxRecDepth 100000
set_option maxHeartbeats 4000000
set_option linter.unusedVariables false
theorem p_jlex_at_ok {s : Str} {i : Int} {r : Int} (h : p_jlex_at s i = some r) : aval X 28 [.d (.str s), .d (.int .i64 i)] [] (CRes.ret (.d (.int .u8 r)) []) := by
  unfold p_jlex_at at h
  refine aval_start (tm := [(0, .d (.str s)), (1, .d (.int .i64 i))]) (hp := []) (n := 0) rfl Tryd.func28 rfl rfl rfl rfl rfl rfl ?_
  refine ra rfl ?_
  refine awp_seq ?_
  refine ra rfl ?_
  rcases ite_inv h with ⟨hc, h⟩ | ⟨hc, h⟩
  · refine ct rfl hc ?_
    refine awp_seq ?_
    refine rn 2 rfl ?_
    obtain ⟨c, hk, h⟩ := bind_inv h
    refine po (esget hk rfl rfl rfl rfl) rfl rfl ?_
    refine on 1 rfl ?_
    refine rz ?_
    refine awp_ret ?_
    refine condQ.ret ?_
    refine seqQ.ret ?_
    cases h
    exact .ret rfl rfl
  · refine cf rfl hc ?_
    refine awp_skip ?_
    refine cn rfl ?_
    refine seqQ.normal ?_
    refine ra rfl ?_
    refine awp_ret ?_
    cases h
    exact .ret rfl rfl
theorem p_jlex_digit_ok {c : Int} {r : Bool} (h : p_jlex_digit c = some r) : aval X 27 [.d (.int .u8 c)] [] (CRes.ret (.d (.bool r)) []) := by
  unfold p_jlex_digit at h
  refine aval_start (tm := [(0, .d (.int .u8 c))]) (hp := []) (n := 0) rfl Tryd.func27 rfl rfl rfl rfl rfl rfl ?_
  refine ra rfl ?_
  refine awp_seq ?_
  refine rn 3 rfl ?_
  rcases ite_inv h with ⟨hc, h⟩ | ⟨hc, h⟩
  · refine gt rfl rfl rfl rfl hc rfl ?_
    refine on 4 rfl ?_
    refine rz ?_
    refine awp_ret ?_
    cases h
    exact .ret rfl rfl
  · refine gf rfl rfl rfl rfl hc rfl ?_
    refine on 4 rfl ?_
    refine rz ?_
    refine awp_ret ?_
    cases h
    exact .ret rfl rfl
theorem p_jlex_begins_ok {s : Str} {r : Bool} (h : p_jlex_begins s = some r) : aval X 21 [.d (.str s)] [] (CRes.ret (.d (.bool r)) []) := by
  unfold p_jlex_begins at h
  refine aval_start (tm := [(0, .d (.str s))]) (hp := []) (n := 0) rfl Tryd.func21 rfl rfl rfl rfl rfl rfl ?_
  refine ra rfl ?_
  refine awp_seq ?_
  refine rn 1 rfl ?_
  obtain ⟨x, hk, h⟩ := bind_inv h
  refine po (ecall (p_jlex_at_ok hk) rfl rfl rfl rfl rfl rfl rfl rfl rfl) rfl rfl ?_
  obtain ⟨x1, hk, h⟩ := bind_inv h
  refine po (ecall (p_jlex_digit_ok hk) rfl rfl rfl rfl rfl rfl rfl rfl rfl) rfl rfl ?_
  refine on 1 rfl ?_
  rcases ite_inv h with ⟨hc, h⟩ | ⟨hc, h⟩
  · refine gt rfl rfl rfl rfl hc rfl ?_
    refine on 10 rfl ?_
    refine rz ?_
    refine awp_ret ?_
    cases h
    exact .ret rfl rfl
  · refine gf rfl rfl rfl rfl hc rfl ?_
    refine on 1 rfl ?_
    obtain ⟨x2, hk, h⟩ := bind_inv h
    refine po (ecall (p_jlex_at_ok hk) rfl rfl rfl rfl rfl rfl rfl rfl rfl) rfl rfl ?_
    refine on 2 rfl ?_
    rcases ite_inv h with ⟨hc, h⟩ | ⟨hc, h⟩
    · refine gt rfl rfl rfl rfl hc rfl ?_
      refine on 1 rfl ?_
      obtain ⟨x3, hk, h⟩ := bind_inv h
      refine po (ecall (p_jlex_at_ok hk) rfl rfl rfl rfl rfl rfl rfl rfl rfl) rfl rfl ?_
      obtain ⟨x4, hk, h⟩ := bind_inv h
      refine po (ecall (p_jlex_digit_ok hk) rfl rfl rfl rfl rfl rfl rfl rfl rfl) rfl rfl ?_
      refine on 3 rfl ?_
      refine rz ?_
      refine awp_ret ?_
      cases h
      exact .ret rfl rfl
    · refine gf rfl rfl rfl rfl hc rfl ?_
      refine on 6 rfl ?_
      refine rz ?_
      refine awp_ret ?_
      cases h
      exact .ret rfl rfl
theorem p_jlex_letter_ok {c : Int} {r : Bool} (h : p_jlex_letter c = some r) : aval X 24 [.d (.int .u8 c)] [] (CRes.ret (.d (.bool r)) []) := by
  unfold p_jlex_letter at h
  refine aval_start (tm := [(0, .d (.int .u8 c))]) (hp := []) (n := 0) rfl Tryd.func24 rfl rfl rfl rfl rfl rfl ?_
  refine ra rfl ?_
  refine awp_seq ?_
  refine rn 3 rfl ?_
  rcases ite_inv h with ⟨hc, h⟩ | ⟨hc, h⟩
  · refine gt rfl rfl rfl rfl hc rfl ?_
    refine on 4 rfl ?_
    refine rz ?_
    refine awp_ret ?_
    cases h
    exact .ret rfl rfl
  · refine gf rfl rfl rfl rfl hc rfl ?_
    refine on 4 rfl ?_
    refine rz ?_
    refine awp_ret ?_
    cases h
    exact .ret rfl rfl
theorem p_jlex_name_l0_ok : ∀ (a : Str × Int) (res : Int), p_jlex_name_l0 a = some res → (match a with | (s, k) => awpL X 25 (codeAt [1, 1, 0, 0, 0] (bodyOf Tryd.f25)) (cleanAt (X.H 25 2) 1) (exitQ 0 (X.H 25 1000000) 1 (NrmQ (fun (k1 : Int) => (⟨[(0, .d (.str s)), (2, .c (.ptr 0 0)), (4, .d (.int .i64 k1))], [(0, [.d (.int .i64 0), .d (.str []), .own 1 (List.map (D.int .i64) []), .own 3 (List.map encCell []), .d (.int .i64 0)])], 1, [], none⟩ : St)) res)) ⟨[(0, .d (.str s)), (2, .c (.ptr 0 0)), (4, .d (.int .i64 k))], [(0, [.d (.int .i64 0), .d (.str []), .own 1 (List.map (D.int .i64) []), .own 3 (List.map encCell []), .d (.int .i64 0)])], 1, [], none⟩) := by
  refine p_jlex_name_l0.partial_correctness _ ?_
  rintro p_jlex_name_l0' ih ⟨s, k⟩ res h
  refine lg rfl ?_
  refine awp_seq ?_
  refine awp_seq ?_
  refine rn 2 rfl ?_
  obtain ⟨x, hk, h⟩ := bind_inv h
  refine po (ecall (p_jlex_at_ok hk) rfl rfl rfl rfl rfl rfl rfl rfl rfl) rfl rfl ?_
  obtain ⟨x1, hk, h⟩ := bind_inv h
  refine po (ecall (p_jlex_letter_ok hk) rfl rfl rfl rfl rfl rfl rfl rfl rfl) rfl rfl ?_
  refine on 1 rfl ?_
  rcases ite_inv h with ⟨hc, h⟩ | ⟨hc, h⟩
  · refine gt rfl rfl rfl rfl hc rfl ?_
    refine on 5 rfl ?_
    refine rz ?_
    refine ct rfl rfl ?_
    refine awp_skip ?_
    refine cn rfl ?_
    refine seqQ.normal ?_
    refine awp_block ?_
    refine rn 3 rfl ?_
    refine awpO_nil ?_
    refine en rfl ?_
    refine loopQ.normal ?_
    exact awpL_at rfl rfl (ih _ _ h)
  · refine gf rfl rfl rfl rfl hc rfl ?_
    refine on 2 rfl ?_
    obtain ⟨x2, hk, h⟩ := bind_inv h
    refine po (ecall (p_jlex_at_ok hk) rfl rfl rfl rfl rfl rfl rfl rfl rfl) rfl rfl ?_
    obtain ⟨x3, hk, h⟩ := bind_inv h
    refine po (ecall (p_jlex_digit_ok hk) rfl rfl rfl rfl rfl rfl rfl rfl rfl) rfl rfl ?_
    refine on 1 rfl ?_
    refine rz ?_
    rcases ite_inv h with ⟨hc, h⟩ | ⟨hc, h⟩
    · refine ct rfl hc ?_
      refine awp_skip ?_
      refine cn rfl ?_
      refine seqQ.normal ?_
      refine awp_block ?_
      refine rn 3 rfl ?_
      refine awpO_nil ?_
      refine en rfl ?_
      refine loopQ.normal ?_
      exact awpL_at rfl rfl (ih _ _ h)
    · refine cf rfl hc ?_
      refine awp_exit ?_
      refine condQ.exit ?_
      refine seqQ.exit ?_
      refine loopQ.exit ?_
      refine eh rfl ?_
      cases h
      exact .ok rfl
theorem p_jlex_name_l1_ok : ∀ (a : Str × Int × Str × Int) (res : Except (Token × Bool) (Unit)), p_jlex_name_l1 a = some res → (match a with | (s, k1, s1, x4) => awpL X 25 (codeAt [1, 1, 1, 1, 1, 1, 0, 1, 0, 0] (bodyOf Tryd.f25)) (cleanAt (X.H 25 12) 2) (exitQ 2 (X.H 25 1000002) 2 (SubQ X Tryd.f25 0 (fun (r : Token × Bool) => (CRes.ret (.tuple [.d (encToken r.1), .d (.bool r.2)]) [])) (fun (_ : Unit) => (⟨[(2, .c (.ptr 0 0)), (4, .d (.int .i64 k1)), (5, .c (.ptr 1 0))], [(1, [.d (.int .i64 3), .d (.str s1), .own 1 (List.map (D.int .i64) []), .own 3 (List.map encCell []), .d (.int .i64 0)]), (0, [.d (.int .i64 0), .d (.str []), .own 1 (List.map (D.int .i64) []), .own 3 (List.map encCell []), .d (.int .i64 0)])], 2, [], none⟩ : St)) res)) ⟨[(0, .d (.str s)), (2, .c (.ptr 0 0)), (4, .d (.int .i64 k1)), (5, .c (.ptr 1 0)), (56, .d (.int .i64 k1)), (57, .d (.int .i64 x4))], [(1, [.d (.int .i64 3), .d (.str s1), .own 1 (List.map (D.int .i64) []), .own 3 (List.map encCell []), .d (.int .i64 0)]), (0, [.d (.int .i64 0), .d (.str []), .own 1 (List.map (D.int .i64) []), .own 3 (List.map encCell []), .d (.int .i64 0)])], 2, [], none⟩) := by
  refine p_jlex_name_l1.partial_correctness _ ?_
  rintro p_jlex_name_l1' ih ⟨s, k1, s1, x4⟩ res h
  refine lg rfl ?_
  refine ra rfl ?_
  refine awp_seq ?_
  rcases ite_inv h with ⟨hc, h⟩ | ⟨hc, h⟩
  · refine ct rfl hc ?_
    refine awp_skip ?_
    refine cn rfl ?_
    refine seqQ.normal ?_
    refine awp_seq ?_
    refine awp_block ?_
    refine ra rfl ?_
    refine awp_seq ?_
    refine rn 2 rfl ?_
    obtain ⟨c1, hk, h⟩ := bind_inv h
    refine po (esget hk rfl rfl rfl rfl) rfl rfl ?_
    refine on 1 rfl ?_
    refine rz ?_
    rcases ite_inv h with ⟨hc, h⟩ | ⟨hc, h⟩
    · refine ct rfl hc ?_
      refine ra rfl ?_
      refine awp_ret ?_
      refine condQ.ret ?_
      refine exitQ.ret ?_
      refine seqQ.ret ?_
      refine loopQ.ret ?_
      refine exitQ.ret ?_
      cases h
      exact .err rfl (.ret rfl rfl)
    · refine cf rfl hc ?_
      refine awp_skip ?_
      refine cn rfl ?_
      refine en rfl ?_
      refine seqQ.normal ?_
      refine rn 2 rfl ?_
      refine awpO_nil ?_
      refine loopQ.normal ?_
      exact awpL_at rfl rfl (ih _ _ h)
  · refine cf rfl hc ?_
    refine awp_exit ?_
    refine condQ.exit ?_
    refine seqQ.exit ?_
    refine loopQ.exit ?_
    refine eh rfl ?_
    cases h
    exact .ok rfl
theorem p_jlex_name_ok {s : Str} {r : Token × Bool} (h : p_jlex_name s = some r) : aval X 25 [.d (.str s)] [] (CRes.ret (.tuple [.d (encToken r.1), .d (.bool r.2)]) []) := by
  unfold p_jlex_name at h
  refine aval_start (tm := [(0, .d (.str s))]) (hp := []) (n := 0) rfl Tryd.func25 rfl rfl rfl rfl rfl rfl ?_
  refine ra (nid' := 1) rfl ?_
  refine ra rfl ?_
  refine awp_seq ?_
  obtain ⟨k1, hs, h⟩ := bind_inv h
  refine awp_nrm (fun (k1 : Int) => (⟨[(0, .d (.str s)), (2, .c (.ptr 0 0)), (4, .d (.int .i64 k1))], [(0, [.d (.int .i64 0), .d (.str []), .own 1 (List.map (D.int .i64) []), .own 3 (List.map encCell []), .d (.int .i64 0)])], 1, [], none⟩ : St)) (y := k1) ?_ ?_
  · replace h := hs
    refine awp_block ?_
    refine awp_loop ?_
    exact awpL_at rfl rfl (p_jlex_name_l0_ok _ _ h)
  · refine seqQ.normal ?_
    refine awp_seq ?_
    refine rn 2 rfl ?_
    obtain ⟨s1, hk, h⟩ := bind_inv h
    refine po (esto hk rfl rfl rfl rfl) rfl rfl ?_
    refine on (nid' := 2) 3 rfl ?_
    refine rz ?_
    refine awp_seq ?_
    refine awp_seq ?_
    refine rn 2 rfl ?_
    obtain ⟨c, hk, h⟩ := bind_inv h
    refine po (ecall (p_jlex_at_ok hk) rfl rfl rfl rfl rfl rfl rfl rfl rfl) rfl rfl ?_
    refine on 1 rfl ?_
    refine rz ?_
    refine awp_seq ?_
    refine rn 3 rfl ?_
    rcases ite_inv h with ⟨hc, h⟩ | ⟨hc, h⟩
    · refine gt rfl rfl rfl rfl hc rfl ?_
      refine on 3 rfl ?_
      refine rz ?_
      refine ct rfl rfl ?_
      refine awp_seq ?_
      refine rn 3 rfl ?_
      obtain ⟨s2, hk, h⟩ := bind_inv h
      refine po (esto hk rfl rfl rfl rfl) rfl rfl ?_
      refine on 2 rfl ?_
      refine rz ?_
      refine awp_seq ?_
      refine drn (m := 13) 5 rfl rfl ?_
      rcases ite_inv h with ⟨hc, h⟩ | ⟨hc, h⟩
      · refine dgt rfl rfl rfl rfl hc rfl ?_
        refine don 6 rfl ?_
        refine dz (by kernel_rfl) ?_
        refine awp_ret ?_
        refine condQ.ret ?_
        refine seqQ.ret ?_
        cases h
        exact .ret rfl rfl
      · refine dgf rfl rfl rfl rfl hc rfl ?_
        refine don 6 rfl ?_
        refine dz (by kernel_rfl) ?_
        refine awp_ret ?_
        refine condQ.ret ?_
        refine seqQ.ret ?_
        cases h
        exact .ret rfl rfl
    · refine gf rfl rfl rfl rfl hc rfl ?_
      refine on 3 rfl ?_
      refine rz ?_
      rcases ite_inv h with ⟨hc, h⟩ | ⟨hc, h⟩
      · refine ct rfl hc ?_
        refine awp_seq ?_
        refine rn 3 rfl ?_
        obtain ⟨s3, hk, h⟩ := bind_inv h
        refine po (esto hk rfl rfl rfl rfl) rfl rfl ?_
        refine on 2 rfl ?_
        refine rz ?_
        refine awp_seq ?_
        refine drn (m := 13) 5 rfl rfl ?_
        rcases ite_inv h with ⟨hc, h⟩ | ⟨hc, h⟩
        · refine dgt rfl rfl rfl rfl hc rfl ?_
          refine don 6 rfl ?_
          refine dz (by kernel_rfl) ?_
          refine awp_ret ?_
          refine condQ.ret ?_
          refine seqQ.ret ?_
          cases h
          exact .ret rfl rfl
        · refine dgf rfl rfl rfl rfl hc rfl ?_
          refine don 6 rfl ?_
          refine dz (by kernel_rfl) ?_
          refine awp_ret ?_
          refine condQ.ret ?_
          refine seqQ.ret ?_
          cases h
          exact .ret rfl rfl
      · refine cf rfl hc ?_
        refine awp_skip ?_
        refine cn rfl ?_
        refine seqQ.normal ?_
        refine awp_seq ?_
        refine awp_seq ?_
        refine rn 4 rfl ?_
        rcases ite_inv h with ⟨hc, h⟩ | ⟨hc, h⟩
        · refine gt rfl rfl rfl rfl hc rfl ?_
          refine on 4 rfl ?_
          refine rz ?_
          refine ct rfl rfl ?_
          refine ra rfl ?_
          refine awp_ret ?_
          refine condQ.ret ?_
          refine seqQ.ret ?_
          cases h
          exact .ret rfl rfl
        · refine gf rfl rfl rfl rfl hc rfl ?_
          refine on 4 rfl ?_
          refine rz ?_
          rcases ite_inv h with ⟨hc, h⟩ | ⟨hc, h⟩
          · refine ct rfl hc ?_
            refine ra rfl ?_
            refine awp_ret ?_
            refine condQ.ret ?_
            refine seqQ.ret ?_
            cases h
            exact .ret rfl rfl
          · refine cf rfl hc ?_
            refine awp_skip ?_
            refine cn rfl ?_
            refine seqQ.normal ?_
            refine awp_seq ?_
            refine ra rfl ?_
            obtain ⟨res, hs, h⟩ := bind_inv h
            refine awp_sub Tryd.f25 0 (fun (r : Token × Bool) => (CRes.ret (.tuple [.d (encToken r.1), .d (.bool r.2)]) [])) (fun (_ : Unit) => (⟨[(2, .c (.ptr 0 0)), (4, .d (.int .i64 k1)), (5, .c (.ptr 1 0))], [(1, [.d (.int .i64 3), .d (.str s1), .own 1 (List.map (D.int .i64) []), .own 3 (List.map encCell []), .d (.int .i64 0)]), (0, [.d (.int .i64 0), .d (.str []), .own 1 (List.map (D.int .i64) []), .own 3 (List.map encCell []), .d (.int .i64 0)])], 2, [], none⟩ : St)) (res := res) ?_ (fun y hy => ?_) (fun r x s' hr hx he => ?_)
            · replace h := hs
              refine awp_block ?_
              refine awp_loop ?_
              exact awpL_at rfl rfl (p_jlex_name_l1_ok _ _ h)
            · subst hy
              refine seqQ.normal ?_
              refine ra rfl ?_
              refine awp_ret ?_
              cases h
              exact .ret rfl rfl
            · subst hr
              refine seqQ.out hx ?_
              cases h
              exact he
theorem p_arr_Atom_ok {n : Int} {r : Arr} (h : p_arr_Atom n = some r) : aval X 35 [.d (.int .i64 n)] [] (CRes.ret (.d (encArr r)) []) := by
  unfold p_arr_Atom at h
  refine aval_start (tm := [(0, .d (.int .i64 n))]) (hp := []) (n := 0) rfl Tryd.func35 rfl rfl rfl rfl rfl rfl ?_
  refine ra (nid' := 1) rfl ?_
  refine ra rfl ?_
  refine awp_ret ?_
  cases h
  exact .ret rfl rfl
theorem p_arr_Nums_l0_ok : ∀ (a : ((List Int)) × Int × (List Cell)) (res : (List Cell)), p_arr_Nums_l0 a = some res → (match a with | (l, x, a1) => awpL X 36 (codeAt [1, 1, 0, 1, 0, 0] (bodyOf Tryd.f36)) (cleanAt (X.H 36 3) 2) (exitQ 0 (X.H 36 1000000) 2 (NrmQ (fun (a11 : (List Cell)) => (⟨[(2, .c (.ptr 0 0)), (3, .c (.ptr 1 0))], [(1, [.d (.list 1 (List.map (D.int .i64) [(List.length l : Int)])), .own 3 (List.map encCell a11)]), (0, [.own 1 (List.map (D.int .i64) []), .own 3 (List.map encCell [])])], 2, [], none⟩ : St)) res)) ⟨[(2, .c (.ptr 0 0)), (3, .c (.ptr 1 0)), (10, .d (.list 1 (List.map (D.int .i64) l))), (11, .d (.int .i64 (List.length l : Int))), (12, .d (.int .i64 x))], [(1, [.d (.list 1 (List.map (D.int .i64) [(List.length l : Int)])), .own 3 (List.map encCell a1)]), (0, [.own 1 (List.map (D.int .i64) []), .own 3 (List.map encCell [])])], 2, [], none⟩) := by
  refine p_arr_Nums_l0.partial_correctness _ ?_
  rintro p_arr_Nums_l0' ih ⟨l, x, a1⟩ res h
  refine lg rfl ?_
  refine ra rfl ?_
  refine awp_seq ?_
  rcases ite_inv h with ⟨hc, h⟩ | ⟨hc, h⟩
  · refine ct rfl hc ?_
    refine awp_skip ?_
    refine cn rfl ?_
    refine seqQ.normal ?_
    refine awp_seq ?_
    refine awp_block ?_
    refine awp_seq ?_
    refine rn 0 rfl ?_
    obtain ⟨n, hk, h⟩ := bind_inv h
    refine po (elget (D.int .i64) (fun _ => rfl) hk rfl rfl rfl rfl rfl) rfl rfl ?_
    refine on 2 rfl ?_
    refine rz ?_
    refine rn 5 rfl ?_
    obtain ⟨l1, hk, h⟩ := bind_inv h
    refine po (eappc hk rfl rfl rfl rfl rfl rfl rfl rfl rfl rfl rfl rfl rfl rfl ) rfl rfl ?_
    refine on 2 rfl ?_
    refine awpO_nil ?_
    refine en rfl ?_
    refine seqQ.normal ?_
    refine rn 2 rfl ?_
    refine awpO_nil ?_
    refine loopQ.normal ?_
    exact awpL_at rfl rfl (ih _ _ h)
  · refine cf rfl hc ?_
    refine awp_exit ?_
    refine condQ.exit ?_
    refine seqQ.exit ?_
    refine loopQ.exit ?_
    refine eh rfl ?_
    cases h
    exact .ok rfl
theorem p_arr_Nums_ok {l : (List Int)} {r : Arr} (h : p_arr_Nums l = some r) : aval X 36 [.d (.list 1 (List.map (D.int .i64) l))] [] (CRes.ret (.d (encArr r)) []) := by
  unfold p_arr_Nums at h
  refine aval_start (tm := [(0, .d (.list 1 (List.map (D.int .i64) l)))]) (hp := []) (n := 0) rfl Tryd.func36 rfl rfl rfl rfl rfl rfl ?_
  refine ra (nid' := 1) rfl ?_
  refine awp_seq ?_
  refine rn 1 rfl ?_
  refine po (ellen rfl rfl rfl rfl rfl rfl rfl) rfl rfl ?_
  refine on (nid' := 2) 4 rfl ?_
  refine rz ?_
  refine awp_seq ?_
  refine awp_seq ?_
  refine rn 1 rfl ?_
  refine po (ellen rfl rfl rfl rfl rfl rfl rfl) rfl rfl ?_
  refine on 1 rfl ?_
  refine rz ?_
  obtain ⟨a11, hs, h⟩ := bind_inv h
  refine awp_nrm (fun (a11 : (List Cell)) => (⟨[(2, .c (.ptr 0 0)), (3, .c (.ptr 1 0))], [(1, [.d (.list 1 (List.map (D.int .i64) [(List.length l : Int)])), .own 3 (List.map encCell a11)]), (0, [.own 1 (List.map (D.int .i64) []), .own 3 (List.map encCell [])])], 2, [], none⟩ : St)) (y := a11) ?_ ?_
  · replace h := hs
    refine awp_block ?_
    refine awp_loop ?_
    exact awpL_at rfl rfl (p_arr_Nums_l0_ok _ _ h)
  · refine seqQ.normal ?_
    refine ra rfl ?_
    refine awp_ret ?_
    cases h
    exact .ret rfl rfl
theorem p_jlex_number_l0_ok : ∀ (a : Str × Int × Int × Bool) (res : Int × Int × Bool), p_jlex_number_l0 a = some res → (match a with | (s, k1, n, ok) => awpL X 34 (codeAt [1, 1, 1, 1, 0, 0, 0] (bodyOf Tryd.f34)) (cleanAt (X.H 34 5) 0) (exitQ 0 (X.H 34 1000000) 0 (NrmQ (fun ((k2, n2, ok2) : Int × Int × Bool) => (⟨[(0, .d (.str s)), (5, .d (.int .i64 k2)), (6, .d (.int .u64 n2)), (7, .d (.bool ok2))], [], 0, [], none⟩ : St)) res)) ⟨[(0, .d (.str s)), (5, .d (.int .i64 k1)), (6, .d (.int .u64 n)), (7, .d (.bool ok))], [], 0, [], none⟩) := by
  refine p_jlex_number_l0.partial_correctness _ ?_
  rintro p_jlex_number_l0' ih ⟨s, k1, n, ok⟩ res h
  refine lg rfl ?_
  refine awp_seq ?_
  refine awp_seq ?_
  refine rn 2 rfl ?_
  obtain ⟨x, hk, h⟩ := bind_inv h
  refine po (ecall (p_jlex_at_ok hk) rfl rfl rfl rfl rfl rfl rfl rfl rfl) rfl rfl ?_
  obtain ⟨x1, hk, h⟩ := bind_inv h
  refine po (ecall (p_jlex_digit_ok hk) rfl rfl rfl rfl rfl rfl rfl rfl rfl) rfl rfl ?_
  refine rz ?_
  rcases ite_inv h with ⟨hc, h⟩ | ⟨hc, h⟩
  · refine ct rfl hc ?_
    refine awp_skip ?_
    refine cn rfl ?_
    refine seqQ.normal ?_
    refine awp_seq ?_
    obtain ⟨⟨n1, ok1⟩, hs, h⟩ := bind_inv h
    refine awp_nrm (fun ((n1, ok1) : Int × Bool) => (⟨[(0, .d (.str s)), (5, .d (.int .i64 k1)), (6, .d (.int .u64 n1)), (7, .d (.bool ok1))], [], 0, [], none⟩ : St)) (y := (n1, ok1)) ?_ ?_
    · replace h := hs
      refine awp_block ?_
      refine awp_seq ?_
      refine rn 2 rfl ?_
      obtain ⟨c1, hk, h⟩ := bind_inv h
      refine po (esget hk rfl rfl rfl rfl) rfl rfl ?_
      refine on 3 rfl ?_
      refine rz ?_
      refine awp_seq ?_
      refine rn 2 rfl ?_
      rcases ite_inv h with ⟨hc, h⟩ | ⟨hc, h⟩
      · refine gt rfl rfl rfl rfl hc rfl ?_
        refine on 7 rfl ?_
        refine rz ?_
        refine rn 5 rfl ?_
        refine awpO_nil ?_
        refine en rfl ?_
        cases h
        exact .ok rfl
      · refine gf rfl rfl rfl rfl hc rfl ?_
        refine on 7 rfl ?_
        refine rz ?_
        refine rn 5 rfl ?_
        refine awpO_nil ?_
        refine en rfl ?_
        cases h
        exact .ok rfl
    · refine seqQ.normal ?_
      refine rn 3 rfl ?_
      refine awpO_nil ?_
      refine loopQ.normal ?_
      exact awpL_at rfl rfl (ih _ _ h)
  · refine cf rfl hc ?_
    refine awp_exit ?_
    refine condQ.exit ?_
    refine seqQ.exit ?_
    refine loopQ.exit ?_
    refine eh rfl ?_
    cases h
    exact .ok rfl
theorem p_jlex_number_ok {s : Str} {r : Int × Int × Bool} (h : p_jlex_number s = some r) : aval X 34 [.d (.str s)] [] (CRes.ret (.tuple [.d (.int .i64 r.1), .d (.int .i64 r.2.1), .d (.bool r.2.2)]) []) := by
  unfold p_jlex_number at h
  refine aval_start (tm := [(0, .d (.str s))]) (hp := []) (n := 0) rfl Tryd.func34 rfl rfl rfl rfl rfl rfl ?_
  refine ra rfl ?_
  refine ra rfl ?_
  refine awp_seq ?_
  refine awp_seq ?_
  refine rn 1 rfl ?_
  obtain ⟨c, hk, h⟩ := bind_inv h
  refine po (esget hk rfl rfl rfl rfl) rfl rfl ?_
  refine on 1 rfl ?_
  refine rz ?_
  obtain ⟨k, hs, h⟩ := bind_inv h
  refine awp_nrm (fun (k : Int) => (⟨[(0, .d (.str s)), (5, .d (.int .i64 k))], [], 0, [], none⟩ : St)) (y := k) ?_ ?_
  · replace h := hs
    rcases ite_inv h with ⟨hc, h⟩ | ⟨hc, h⟩
    · refine ct rfl hc ?_
      refine rn 1 rfl ?_
      refine awpO_nil ?_
      refine cn rfl ?_
      cases h
      exact .ok rfl
    · refine cf rfl hc ?_
      refine awp_skip ?_
      refine cn rfl ?_
      cases h
      exact .ok rfl
  · refine seqQ.normal ?_
    refine ra rfl ?_
    refine awp_seq ?_
    obtain ⟨⟨k2, n2, ok2⟩, hs, h⟩ := bind_inv h
    refine awp_nrm (fun ((k2, n2, ok2) : Int × Int × Bool) => (⟨[(0, .d (.str s)), (5, .d (.int .i64 k2)), (6, .d (.int .u64 n2)), (7, .d (.bool ok2))], [], 0, [], none⟩ : St)) (y := (k2, n2, ok2)) ?_ ?_
    · replace h := hs
      refine awp_block ?_
      refine awp_loop ?_
      exact awpL_at rfl rfl (p_jlex_number_l0_ok _ _ h)
    · refine seqQ.normal ?_
      refine awp_seq ?_
      refine awp_seq ?_
      refine rn 1 rfl ?_
      obtain ⟨c2, hk, h⟩ := bind_inv h
      refine po (esget hk rfl rfl rfl rfl) rfl rfl ?_
      refine on 1 rfl ?_
      refine rz ?_
      rcases ite_inv h with ⟨hc, h⟩ | ⟨hc, h⟩
      · refine ct rfl hc ?_
        refine ra rfl ?_
        refine awp_ret ?_
        refine condQ.ret ?_
        refine seqQ.ret ?_
        cases h
        exact .ret rfl rfl
      · refine cf rfl hc ?_
        refine awp_skip ?_
        refine cn rfl ?_
        refine seqQ.normal ?_
        refine awp_seq ?_
        refine rn 5 rfl ?_
        rcases ite_inv h with ⟨hc, h⟩ | ⟨hc, h⟩
        · refine gt rfl rfl rfl rfl hc rfl ?_
          refine on 6 rfl ?_
          refine rz ?_
          refine awp_ret ?_
          cases h
          exact .ret rfl rfl
        · refine gf rfl rfl rfl rfl hc rfl ?_
          refine on 6 rfl ?_
          refine rz ?_
          refine awp_ret ?_
          cases h
          exact .ret rfl rfl
theorem p_jlex_numbers_l1_ok (i : Int) (k : Int) (l1 : List Int) : ∀ (a : Str × Int) (res : Int), p_jlex_numbers_l1 a = some res → (match a with | (s, j) => awpL X 22 (codeAt [1, 0, 1, 1, 1, 0, 0, 0, 0, 1, 1, 1, 1, 0, 0, 0] (bodyOf Tryd.f22)) (cleanAt (X.H 22 8) 1) (exitQ 2 (X.H 22 1000002) 1 (NrmQ (fun (j1 : Int) => (⟨[(0, .d (.str s)), (2, .c (.ptr 0 0)), (5, .c (.own 1 (List.map (D.int .i64) l1))), (6, .d (.int .i64 (w64 (i + k)))), (10, .d (.int .i64 j1))], [(0, [.own 1 (List.map (D.int .i64) []), .own 3 (List.map encCell [])])], 1, [], none⟩ : St)) res)) ⟨[(0, .d (.str s)), (2, .c (.ptr 0 0)), (5, .c (.own 1 (List.map (D.int .i64) l1))), (6, .d (.int .i64 (w64 (i + k)))), (10, .d (.int .i64 j))], [(0, [.own 1 (List.map (D.int .i64) []), .own 3 (List.map encCell [])])], 1, [], none⟩) := by
  refine p_jlex_numbers_l1.partial_correctness _ ?_
  rintro p_jlex_numbers_l1' ih ⟨s, j⟩ res h
  refine lg rfl ?_
  refine awp_seq ?_
  refine awp_seq ?_
  refine rn 2 rfl ?_
  obtain ⟨x, hk, h⟩ := bind_inv h
  refine po (ecall (p_jlex_at_ok hk) rfl rfl rfl rfl rfl rfl rfl rfl rfl) rfl rfl ?_
  refine on 1 rfl ?_
  refine rz ?_
  rcases ite_inv h with ⟨hc, h⟩ | ⟨hc, h⟩
  · refine ct rfl hc ?_
    refine awp_skip ?_
    refine cn rfl ?_
    refine seqQ.normal ?_
    refine awp_block ?_
    refine rn 3 rfl ?_
    refine awpO_nil ?_
    refine en rfl ?_
    refine loopQ.normal ?_
    exact awpL_at rfl rfl (ih _ _ h)
  · refine cf rfl hc ?_
    refine awp_exit ?_
    refine condQ.exit ?_
    refine seqQ.exit ?_
    refine loopQ.exit ?_
    refine eh rfl ?_
    cases h
    exact .ok rfl
theorem p_jlex_numbers_l0_ok : ∀ (a : Str × (List Int) × Int) (res : Except (Arr × Int × Int) ((List Int) × Int)), p_jlex_numbers_l0 a = some res → (match a with | (s, l, i) => awpL X 22 (codeAt [1, 0, 1, 1, 1, 0, 0, 0] (bodyOf Tryd.f22)) (cleanAt (X.H 22 3) 1) (exitQ 0 (X.H 22 1000000) 1 (SubQ X Tryd.f22 0 (fun (r : Arr × Int × Int) => (CRes.ret (.tuple [.d (encArr r.1), .d (.int .i64 r.2.1), .d (.int .i64 r.2.2)]) [])) (fun ((l2, i1) : (List Int) × Int) => (⟨[(2, .c (.ptr 0 0)), (5, .c (.own 1 (List.map (D.int .i64) l2))), (6, .d (.int .i64 i1))], [(0, [.own 1 (List.map (D.int .i64) []), .own 3 (List.map encCell [])])], 1, [], none⟩ : St)) res)) ⟨[(0, .d (.str s)), (2, .c (.ptr 0 0)), (5, .c (.own 1 (List.map (D.int .i64) l))), (6, .d (.int .i64 i))], [(0, [.own 1 (List.map (D.int .i64) []), .own 3 (List.map encCell [])])], 1, [], none⟩) := by
  refine p_jlex_numbers_l0.partial_correctness _ ?_
  rintro p_jlex_numbers_l0' ih ⟨s, l, i⟩ res h
  refine lg rfl ?_
  refine awp_block ?_
  refine awp_seq ?_
  refine rn 2 rfl ?_
  obtain ⟨s1, hk, h⟩ := bind_inv h
  refine po (esfrom hk rfl rfl rfl rfl) rfl rfl ?_
  obtain ⟨⟨n, k, ok⟩, hk, h⟩ := bind_inv h
  refine po (ecall (p_jlex_number_ok hk) rfl rfl rfl rfl rfl rfl rfl rfl rfl) rfl rfl ?_
  refine on 7 rfl ?_
  refine rz ?_
  refine awp_seq ?_
  refine ra rfl ?_
  rcases ite_inv h with ⟨hc, h⟩ | ⟨hc, h⟩
  · refine ct rfl hc ?_
    refine ra rfl ?_
    refine awp_ret ?_
    refine condQ.ret ?_
    refine seqQ.ret ?_
    refine exitQ.ret ?_
    refine loopQ.ret ?_
    refine exitQ.ret ?_
    cases h
    exact .err rfl (.ret rfl rfl)
  · refine cf rfl hc ?_
    refine awp_skip ?_
    refine cn rfl ?_
    refine seqQ.normal ?_
    refine awp_seq ?_
    refine rn 3 rfl ?_
    obtain ⟨l1, hk, h⟩ := bind_inv h
    refine po (eappv hk rfl rfl rfl rfl rfl rfl rfl rfl rfl rfl rfl rfl rfl ) rfl rfl ?_
    refine on 5 rfl ?_
    refine rz ?_
    refine ra rfl ?_
    refine awp_seq ?_
    obtain ⟨j1, hs, h⟩ := bind_inv h
    refine awp_nrm (fun (j1 : Int) => (⟨[(0, .d (.str s)), (2, .c (.ptr 0 0)), (5, .c (.own 1 (List.map (D.int .i64) l1))), (6, .d (.int .i64 (w64 (i + k)))), (10, .d (.int .i64 j1))], [(0, [.own 1 (List.map (D.int .i64) []), .own 3 (List.map encCell [])])], 1, [], none⟩ : St)) (y := j1) ?_ ?_
    · replace h := hs
      refine awp_block ?_
      refine awp_loop ?_
      exact awpL_at rfl rfl (p_jlex_numbers_l1_ok i k l1 _ _ h)
    · refine seqQ.normal ?_
      refine awp_seq ?_
      refine awp_seq ?_
      refine rn 4 rfl ?_
      rcases ite_inv h with ⟨hc, h⟩ | ⟨hc, h⟩
      · refine gt rfl rfl rfl rfl hc rfl ?_
        refine on 6 rfl ?_
        refine rz ?_
        refine ct rfl rfl ?_
        refine awp_exit ?_
        refine condQ.exit ?_
        refine seqQ.exit ?_
        refine exitQ.there rfl ?_
        refine loopQ.exit ?_
        refine eh rfl ?_
        cases h
        exact .ok rfl
      · refine gf rfl rfl rfl rfl hc rfl ?_
        refine on 2 rfl ?_
        obtain ⟨s2, hk, h⟩ := bind_inv h
        refine po (esfrom hk rfl rfl rfl rfl) rfl rfl ?_
        obtain ⟨x1, hk, h⟩ := bind_inv h
        refine po (ecall (p_jlex_begins_ok hk) rfl rfl rfl rfl rfl rfl rfl rfl rfl) rfl rfl ?_
        refine on 2 rfl ?_
        refine rz ?_
        rcases ite_inv h with ⟨hc, h⟩ | ⟨hc, h⟩
        · refine ct rfl hc ?_
          refine awp_exit ?_
          refine condQ.exit ?_
          refine seqQ.exit ?_
          refine exitQ.there rfl ?_
          refine loopQ.exit ?_
          refine eh rfl ?_
          cases h
          exact .ok rfl
        · refine cf rfl hc ?_
          refine awp_skip ?_
          refine cn rfl ?_
          refine seqQ.normal ?_
          refine rn 2 rfl ?_
          refine awpO_nil ?_
          refine en rfl ?_
          refine loopQ.normal ?_
          exact awpL_at rfl rfl (ih _ _ h)
theorem p_jlex_numbers_ok {s : Str} {r : Arr × Int × Int} (h : p_jlex_numbers s = some r) : aval X 22 [.d (.str s)] [] (CRes.ret (.tuple [.d (encArr r.1), .d (.int .i64 r.2.1), .d (.int .i64 r.2.2)]) []) := by
  unfold p_jlex_numbers at h
  refine aval_start (tm := [(0, .d (.str s))]) (hp := []) (n := 0) rfl Tryd.func22 rfl rfl rfl rfl rfl rfl ?_
  refine ra (nid' := 1) rfl ?_
  refine awp_scope ?_
  refine ra rfl ?_
  refine ra rfl ?_
  refine awp_seq ?_
  refine awp_label ?_
  refine seqQ.normal ?_
  refine awp_seq ?_
  obtain ⟨res, hs, h⟩ := bind_inv h
  refine awp_sub Tryd.f22 0 (fun (r : Arr × Int × Int) => (CRes.ret (.tuple [.d (encArr r.1), .d (.int .i64 r.2.1), .d (.int .i64 r.2.2)]) [])) (fun ((l2, i1) : (List Int) × Int) => (⟨[(2, .c (.ptr 0 0)), (5, .c (.own 1 (List.map (D.int .i64) l2))), (6, .d (.int .i64 i1))], [(0, [.own 1 (List.map (D.int .i64) []), .own 3 (List.map encCell [])])], 1, [], none⟩ : St)) (res := res) ?_ (fun y hy => ?_) (fun r x s' hr hx he => ?_)
  · replace h := hs
    refine awp_block ?_
    refine awp_loop ?_
    exact awpL_at rfl rfl (p_jlex_numbers_l0_ok _ _ h)
  · subst hy
    obtain ⟨l2, i1⟩ := y
    refine seqQ.normal ?_
    refine awp_seq ?_
    refine awp_seq ?_
    refine rn 1 rfl ?_
    refine po (ellen rfl rfl rfl rfl rfl rfl rfl) rfl rfl ?_
    refine on 1 rfl ?_
    refine rz ?_
    rcases ite_inv h with ⟨hc, h⟩ | ⟨hc, h⟩
    · refine ct rfl hc ?_
      refine awp_seq ?_
      refine rn 1 rfl ?_
      obtain ⟨y, hk, h⟩ := bind_inv h
      refine po (elget (D.int .i64) (fun _ => rfl) hk rfl rfl rfl rfl rfl) rfl rfl ?_
      refine on 1 rfl ?_
      obtain ⟨x2, hk, h⟩ := bind_inv h
      refine po (ecall (p_arr_Atom_ok hk) rfl rfl rfl rfl rfl rfl rfl rfl rfl) rfl rfl ?_
      refine on 4 rfl ?_
      refine rz ?_
      refine awp_ret ?_
      refine condQ.ret ?_
      refine seqQ.ret ?_
      cases h
      exact .ret rfl rfl
    · refine cf rfl hc ?_
      refine awp_skip ?_
      refine cn rfl ?_
      refine seqQ.normal ?_
      refine awp_seq ?_
      refine rn 1 rfl ?_
      obtain ⟨x3, hk, h⟩ := bind_inv h
      refine po (ecall (p_arr_Nums_ok hk) rfl rfl rfl rfl rfl rfl rfl rfl rfl) rfl rfl ?_
      refine on 4 rfl ?_
      refine rz ?_
      refine awp_ret ?_
      cases h
      exact .ret rfl rfl
  · subst hr
    refine seqQ.out hx ?_
    cases h
    exact he
theorem p_arr_Text_l0_ok (a0 : List Int) : ∀ (a : ((List Int)) × Int × (List Cell)) (res : (List Cell)), p_arr_Text_l0 a = some res → (match a with | (l, x, a1) => awpL X 37 (codeAt [1, 1, 1, 0, 1, 0, 0] (bodyOf Tryd.f37)) (cleanAt (X.H 37 5) 2) (exitQ 0 (X.H 37 1000000) 2 (NrmQ (fun (a11 : (List Cell)) => (⟨[(2, .c (.ptr 0 0)), (3, .c (.ptr 1 0))], [(1, [.d (.list 1 (List.map (D.int .i64) a0)), .own 3 (List.map encCell a11)]), (0, [.own 1 (List.map (D.int .i64) []), .own 3 (List.map encCell [])])], 2, [], none⟩ : St)) res)) ⟨[(2, .c (.ptr 0 0)), (3, .c (.ptr 1 0)), (14, .d (.list 1 (List.map (D.int .i64) l))), (15, .d (.int .i64 (List.length l : Int))), (16, .d (.int .i64 x))], [(1, [.d (.list 1 (List.map (D.int .i64) a0)), .own 3 (List.map encCell a1)]), (0, [.own 1 (List.map (D.int .i64) []), .own 3 (List.map encCell [])])], 2, [], none⟩) := by
  refine p_arr_Text_l0.partial_correctness _ ?_
  rintro p_arr_Text_l0' ih ⟨l, x, a1⟩ res h
  refine lg rfl ?_
  refine ra rfl ?_
  refine awp_seq ?_
  rcases ite_inv h with ⟨hc, h⟩ | ⟨hc, h⟩
  · refine ct rfl hc ?_
    refine awp_skip ?_
    refine cn rfl ?_
    refine seqQ.normal ?_
    refine awp_seq ?_
    refine awp_block ?_
    refine awp_seq ?_
    refine rn 0 rfl ?_
    obtain ⟨n, hk, h⟩ := bind_inv h
    refine po (elget (D.int .i64) (fun _ => rfl) hk rfl rfl rfl rfl rfl) rfl rfl ?_
    refine on 2 rfl ?_
    refine rz ?_
    refine rn 5 rfl ?_
    obtain ⟨l1, hk, h⟩ := bind_inv h
    refine po (eappc hk rfl rfl rfl rfl rfl rfl rfl rfl rfl rfl rfl rfl rfl rfl ) rfl rfl ?_
    refine on 2 rfl ?_
    refine awpO_nil ?_
    refine en rfl ?_
    refine seqQ.normal ?_
    refine rn 2 rfl ?_
    refine awpO_nil ?_
    refine loopQ.normal ?_
    exact awpL_at rfl rfl (ih _ _ h)
  · refine cf rfl hc ?_
    refine awp_exit ?_
    refine condQ.exit ?_
    refine seqQ.exit ?_
    refine loopQ.exit ?_
    refine eh rfl ?_
    cases h
    exact .ok rfl
theorem p_arr_Text_ok {l : (List Int)} {r : Arr} (h : p_arr_Text l = some r) : aval X 37 [.d (.list 1 (List.map (D.int .i64) l))] [] (CRes.ret (.d (encArr r)) []) := by
  unfold p_arr_Text at h
  refine aval_start (tm := [(0, .d (.list 1 (List.map (D.int .i64) l)))]) (hp := []) (n := 0) rfl Tryd.func37 rfl rfl rfl rfl rfl rfl ?_
  refine ra (nid' := 1) rfl ?_
  refine awp_seq ?_
  refine rn 1 rfl ?_
  refine po (ellen rfl rfl rfl rfl rfl rfl rfl) rfl rfl ?_
  refine on (nid' := 2) 4 rfl ?_
  refine rz ?_
  refine awp_seq ?_
  refine awp_seq ?_
  refine rn 1 rfl ?_
  refine po (ellen rfl rfl rfl rfl rfl rfl rfl) rfl rfl ?_
  refine on 1 rfl ?_
  refine rz ?_
  obtain ⟨a0, hs, h⟩ := bind_inv h
  refine awp_nrm (fun (a0 : (List Int)) => (⟨[(0, .d (.list 1 (List.map (D.int .i64) l))), (2, .c (.ptr 0 0)), (3, .c (.ptr 1 0))], [(1, [.d (.list 1 (List.map (D.int .i64) a0)), .own 3 (List.map encCell [])]), (0, [.own 1 (List.map (D.int .i64) []), .own 3 (List.map encCell [])])], 2, [], none⟩ : St)) (y := a0) ?_ ?_
  · replace h := hs
    rcases ite_inv h with ⟨hc, h⟩ | ⟨hc, h⟩
    · refine ct rfl hc ?_
      refine rn 2 rfl ?_
      refine awpO_nil ?_
      refine cn rfl ?_
      cases h
      exact .ok rfl
    · refine cf rfl hc ?_
      refine awp_skip ?_
      refine cn rfl ?_
      cases h
      exact .ok rfl
  · refine seqQ.normal ?_
    refine awp_seq ?_
    refine awp_seq ?_
    refine rn 1 rfl ?_
    refine po (ellen rfl rfl rfl rfl rfl rfl rfl) rfl rfl ?_
    refine on 1 rfl ?_
    refine rz ?_
    obtain ⟨a11, hs, h⟩ := bind_inv h
    refine awp_nrm (fun (a11 : (List Cell)) => (⟨[(2, .c (.ptr 0 0)), (3, .c (.ptr 1 0))], [(1, [.d (.list 1 (List.map (D.int .i64) a0)), .own 3 (List.map encCell a11)]), (0, [.own 1 (List.map (D.int .i64) []), .own 3 (List.map encCell [])])], 2, [], none⟩ : St)) (y := a11) ?_ ?_
    · replace h := hs
      refine awp_block ?_
      refine awp_loop ?_
      exact awpL_at rfl rfl (p_arr_Text_l0_ok a0 _ _ h)
    · refine seqQ.normal ?_
      refine ra rfl ?_
      refine awp_ret ?_
      cases h
      exact .ret rfl rfl
theorem p_runes_Good_ok {n : Int} {r : Bool} (h : p_runes_Good n = some r) : aval X 32 [.d (.int .i64 n)] [] (CRes.ret (.d (.bool r)) []) := by
  unfold p_runes_Good at h
  refine aval_start (tm := [(0, .d (.int .i64 n))]) (hp := []) (n := 0) rfl Tryd.func32 rfl rfl rfl rfl rfl rfl ?_
  refine ra rfl ?_
  refine awp_seq ?_
  refine rn 3 rfl ?_
  rcases ite_inv h with ⟨hc, h⟩ | ⟨hc, h⟩
  · refine gt rfl rfl rfl rfl hc rfl ?_
    refine on 4 rfl ?_
    rcases ite_inv h with ⟨hc, h⟩ | ⟨hc, h⟩
    · refine gt rfl rfl rfl rfl hc rfl ?_
      refine on 3 rfl ?_
      rcases ite_inv h with ⟨hc, h⟩ | ⟨hc, h⟩
      · refine gt rfl rfl rfl rfl hc rfl ?_
        refine on 5 rfl ?_
        refine rz ?_
        refine awp_ret ?_
        cases h
        exact .ret rfl rfl
      · refine gf rfl rfl rfl rfl hc rfl ?_
        refine on 5 rfl ?_
        refine rz ?_
        refine awp_ret ?_
        cases h
        exact .ret rfl rfl
    · refine gf rfl rfl rfl rfl hc rfl ?_
      refine on 8 rfl ?_
      refine rz ?_
      refine awp_ret ?_
      cases h
      exact .ret rfl rfl
  · refine gf rfl rfl rfl rfl hc rfl ?_
    refine on 12 rfl ?_
    refine rz ?_
    refine awp_ret ?_
    cases h
    exact .ret rfl rfl
theorem p_runes_first_ok {c : Int} {r : Int × Int} (h : p_runes_first c = some r) : aval X 31 [.d (.int .u8 c)] [] (CRes.ret (.tuple [.d (.int .i64 r.1), .d (.int .i64 r.2)]) []) := by
  unfold p_runes_first at h
  refine aval_start (tm := [(0, .d (.int .u8 c))]) (hp := []) (n := 0) rfl Tryd.func31 rfl rfl rfl rfl rfl rfl ?_
  refine ra rfl ?_
  refine awp_seq ?_
  refine awp_block ?_
  refine awp_seq ?_
  refine awp_block ?_
  refine awp_seq ?_
  refine awp_block ?_
  refine awp_seq ?_
  refine awp_block ?_
  refine awp_block ?_
  refine awp_seq ?_
  refine awp_block ?_
  refine awp_seq ?_
  refine awp_seq ?_
  refine ra rfl ?_
  rcases ite_inv h with ⟨hc, h⟩ | ⟨hc, h⟩
  · refine ct rfl hc ?_
    refine awp_exit ?_
    refine condQ.exit ?_
    refine seqQ.exit ?_
    refine seqQ.exit ?_
    refine eh rfl ?_
    refine seqQ.normal ?_
    refine awp_seq ?_
    refine ra rfl ?_
    refine awp_ret ?_
    refine seqQ.ret ?_
    refine exitQ.ret ?_
    refine exitQ.ret ?_
    refine seqQ.ret ?_
    refine exitQ.ret ?_
    refine seqQ.ret ?_
    refine exitQ.ret ?_
    refine seqQ.ret ?_
    refine exitQ.ret ?_
    refine seqQ.ret ?_
    cases h
    exact .ret rfl rfl
  · refine cf rfl hc ?_
    refine awp_skip ?_
    refine cn rfl ?_
    refine seqQ.normal ?_
    refine awp_seq ?_
    refine ra rfl ?_
    rcases ite_inv h with ⟨hc, h⟩ | ⟨hc, h⟩
    · refine ct rfl hc ?_
      refine awp_exit ?_
      refine condQ.exit ?_
      refine seqQ.exit ?_
      refine seqQ.exit ?_
      refine exitQ.there rfl ?_
      refine seqQ.exit ?_
      refine eh rfl ?_
      refine en rfl ?_
      refine seqQ.normal ?_
      refine awp_seq ?_
      refine ra rfl ?_
      refine awp_ret ?_
      refine seqQ.ret ?_
      refine exitQ.ret ?_
      refine seqQ.ret ?_
      refine exitQ.ret ?_
      refine seqQ.ret ?_
      refine exitQ.ret ?_
      refine seqQ.ret ?_
      cases h
      exact .ret rfl rfl
    · refine cf rfl hc ?_
      refine awp_skip ?_
      refine cn rfl ?_
      refine seqQ.normal ?_
      refine awp_seq ?_
      refine ra rfl ?_
      rcases ite_inv h with ⟨hc, h⟩ | ⟨hc, h⟩
      · refine ct rfl hc ?_
        refine awp_exit ?_
        refine condQ.exit ?_
        refine seqQ.exit ?_
        refine seqQ.exit ?_
        refine exitQ.there rfl ?_
        refine seqQ.exit ?_
        refine exitQ.there rfl ?_
        refine eh rfl ?_
        refine seqQ.normal ?_
        refine awp_seq ?_
        refine ra rfl ?_
        refine awp_ret ?_
        refine seqQ.ret ?_
        refine exitQ.ret ?_
        refine seqQ.ret ?_
        refine exitQ.ret ?_
        refine seqQ.ret ?_
        refine exitQ.ret ?_
        refine seqQ.ret ?_
        cases h
        exact .ret rfl rfl
      · refine cf rfl hc ?_
        refine awp_skip ?_
        refine cn rfl ?_
        refine seqQ.normal ?_
        refine awp_seq ?_
        refine ra rfl ?_
        rcases ite_inv h with ⟨hc, h⟩ | ⟨hc, h⟩
        · refine ct rfl hc ?_
          refine awp_exit ?_
          refine condQ.exit ?_
          refine seqQ.exit ?_
          refine seqQ.exit ?_
          refine exitQ.there rfl ?_
          refine seqQ.exit ?_
          refine exitQ.there rfl ?_
          refine exitQ.there rfl ?_
          refine seqQ.exit ?_
          refine eh rfl ?_
          refine seqQ.normal ?_
          refine awp_seq ?_
          refine ra rfl ?_
          refine awp_ret ?_
          refine seqQ.ret ?_
          refine exitQ.ret ?_
          refine seqQ.ret ?_
          refine exitQ.ret ?_
          refine seqQ.ret ?_
          cases h
          exact .ret rfl rfl
        · refine cf rfl hc ?_
          refine awp_skip ?_
          refine cn rfl ?_
          refine seqQ.normal ?_
          refine ra rfl ?_
          rcases ite_inv h with ⟨hc, h⟩ | ⟨hc, h⟩
          · refine ct rfl hc ?_
            refine awp_exit ?_
            refine condQ.exit ?_
            refine seqQ.exit ?_
            refine exitQ.there rfl ?_
            refine seqQ.exit ?_
            refine exitQ.there rfl ?_
            refine exitQ.there rfl ?_
            refine seqQ.exit ?_
            refine exitQ.there rfl ?_
            refine seqQ.exit ?_
            refine eh rfl ?_
            refine seqQ.normal ?_
            refine awp_seq ?_
            refine ra rfl ?_
            refine awp_ret ?_
            refine seqQ.ret ?_
            refine exitQ.ret ?_
            refine seqQ.ret ?_
            cases h
            exact .ret rfl rfl
          · refine cf rfl hc ?_
            refine awp_skip ?_
            refine cn rfl ?_
            refine seqQ.normal ?_
            refine awp_exit ?_
            refine exitQ.there rfl ?_
            refine seqQ.exit ?_
            refine exitQ.there rfl ?_
            refine exitQ.there rfl ?_
            refine seqQ.exit ?_
            refine exitQ.there rfl ?_
            refine seqQ.exit ?_
            refine exitQ.there rfl ?_
            refine seqQ.exit ?_
            refine eh rfl ?_
            refine seqQ.normal ?_
            refine ra rfl ?_
            refine awp_ret ?_
            cases h
            exact .ret rfl rfl
theorem p_runes_put_nil_ok {n : Int} {r : (List Int)} (h : p_runes_put_nil n = some r) : aval X 33 [.nilsl 1, .d (.int .i64 n)] [] (CRes.ret (.d (.list 1 (List.map (D.int .u8) r))) []) := by
  unfold p_runes_put_nil at h
  refine aval_start (tm := [(0, .c (.nilsl 1)), (1, .d (.int .i64 n))]) (hp := []) (n := 0) rfl Tryd.func33 rfl rfl rfl rfl rfl rfl ?_
  refine ra rfl ?_
  refine awp_seq ?_
  refine awp_block ?_
  refine ra rfl ?_
  rcases ite_inv h with ⟨hc, h⟩ | ⟨hc, h⟩
  · refine ct rfl hc ?_
    refine awp_seq ?_
    refine rn 4 rfl ?_
    obtain ⟨l, hk, h⟩ := bind_inv h
    refine po (eappn hk rfl rfl rfl rfl rfl rfl rfl rfl rfl rfl rfl rfl ) rfl rfl ?_
    refine on 1 rfl ?_
    refine rz ?_
    refine awp_ret ?_
    refine condQ.ret ?_
    refine exitQ.ret ?_
    refine seqQ.ret ?_
    cases h
    exact .ret rfl rfl
  · refine cf rfl hc ?_
    refine ra rfl ?_
    rcases ite_inv h with ⟨hc, h⟩ | ⟨hc, h⟩
    · refine ct rfl hc ?_
      refine awp_seq ?_
      refine rn 10 rfl ?_
      obtain ⟨l1, hk, h⟩ := bind_inv h
      refine po (eappn hk rfl rfl rfl rfl rfl rfl rfl rfl rfl rfl rfl rfl ) rfl rfl ?_
      refine on 1 rfl ?_
      refine rz ?_
      refine awp_ret ?_
      refine condQ.ret ?_
      refine condQ.ret ?_
      refine exitQ.ret ?_
      refine seqQ.ret ?_
      cases h
      exact .ret rfl rfl
    · refine cf rfl hc ?_
      refine ra rfl ?_
      rcases ite_inv h with ⟨hc, h⟩ | ⟨hc, h⟩
      · refine ct rfl hc ?_
        refine awp_seq ?_
        refine rn 15 rfl ?_
        obtain ⟨l2, hk, h⟩ := bind_inv h
        refine po (eappn hk rfl rfl rfl rfl rfl rfl rfl rfl rfl rfl rfl rfl ) rfl rfl ?_
        refine on 1 rfl ?_
        refine rz ?_
        refine awp_ret ?_
        refine condQ.ret ?_
        refine condQ.ret ?_
        refine condQ.ret ?_
        refine exitQ.ret ?_
        refine seqQ.ret ?_
        cases h
        exact .ret rfl rfl
      · refine cf rfl hc ?_
        refine awp_skip ?_
        refine cn rfl ?_
        refine cn rfl ?_
        refine cn rfl ?_
        refine en rfl ?_
        refine seqQ.normal ?_
        refine awp_seq ?_
        refine rn 20 rfl ?_
        obtain ⟨l3, hk, h⟩ := bind_inv h
        refine po (eappn hk rfl rfl rfl rfl rfl rfl rfl rfl rfl rfl rfl rfl ) rfl rfl ?_
        refine on 1 rfl ?_
        refine rz ?_
        refine awp_ret ?_
        cases h
        exact .ret rfl rfl
theorem p_runes_One_l0_ok (k : Int) : ∀ (a : (List Int) × Int × Int) (res : Except (Int × Int) (Int)), p_runes_One_l0 a = some res → (match a with | (l, n1, x) => awpL X 20 (codeAt [1, 1, 1, 1, 0, 1, 0, 0] (bodyOf Tryd.f20)) (cleanAt (X.H 20 7) 0) (exitQ 0 (X.H 20 1000000) 0 (SubQ X Tryd.f20 0 (fun (r : Int × Int) => (CRes.ret (.tuple [.d (.int .i64 r.1), .d (.int .i64 r.2)]) [])) (fun (n2 : Int) => (⟨[(4, .d (.int .i64 k)), (5, .d (.int .i64 n2))], [], 0, [], none⟩ : St)) res)) ⟨[(4, .d (.int .i64 k)), (5, .d (.int .i64 n1)), (28, .d (.list 1 (List.map (D.int .u8) l))), (29, .d (.int .i64 (List.length l : Int))), (30, .d (.int .i64 x))], [], 0, [], none⟩) := by
  refine p_runes_One_l0.partial_correctness _ ?_
  rintro p_runes_One_l0' ih ⟨l, n1, x⟩ res h
  refine lg rfl ?_
  refine ra rfl ?_
  refine awp_seq ?_
  rcases ite_inv h with ⟨hc, h⟩ | ⟨hc, h⟩
  · refine ct rfl hc ?_
    refine awp_skip ?_
    refine cn rfl ?_
    refine seqQ.normal ?_
    refine awp_seq ?_
    refine awp_block ?_
    refine awp_seq ?_
    refine rn 0 rfl ?_
    obtain ⟨c, hk, h⟩ := bind_inv h
    refine po (elget (D.int .u8) (fun _ => rfl) hk rfl rfl rfl rfl rfl) rfl rfl ?_
    refine on 2 rfl ?_
    refine rz ?_
    refine awp_seq ?_
    refine ra rfl ?_
    rcases ite_inv h with ⟨hc, h⟩ | ⟨hc, h⟩
    · refine ct rfl hc ?_
      refine ra rfl ?_
      refine awp_ret ?_
      refine condQ.ret ?_
      refine seqQ.ret ?_
      refine exitQ.ret ?_
      refine seqQ.ret ?_
      refine loopQ.ret ?_
      refine exitQ.ret ?_
      cases h
      exact .err rfl (.ret rfl rfl)
    · refine cf rfl hc ?_
      refine awp_skip ?_
      refine cn rfl ?_
      refine seqQ.normal ?_
      refine rn 7 rfl ?_
      refine awpO_nil ?_
      refine en rfl ?_
      refine seqQ.normal ?_
      refine rn 2 rfl ?_
      refine awpO_nil ?_
      refine loopQ.normal ?_
      exact awpL_at rfl rfl (ih _ _ h)
  · refine cf rfl hc ?_
    refine awp_exit ?_
    refine condQ.exit ?_
    refine seqQ.exit ?_
    refine loopQ.exit ?_
    refine eh rfl ?_
    cases h
    exact .ok rfl
theorem p_runes_One_ok {b : (List Int)} {r : Int × Int} (h : p_runes_One b = some r) : aval X 20 [.d (.list 1 (List.map (D.int .u8) b))] [] (CRes.ret (.tuple [.d (.int .i64 r.1), .d (.int .i64 r.2)]) []) := by
  unfold p_runes_One at h
  refine aval_start (tm := [(0, .d (.list 1 (List.map (D.int .u8) b)))]) (hp := []) (n := 0) rfl Tryd.func20 rfl rfl rfl rfl rfl rfl ?_
  refine ra rfl ?_
  refine awp_seq ?_
  refine awp_seq ?_
  refine rn 1 rfl ?_
  refine po (ellen rfl rfl rfl rfl rfl rfl rfl) rfl rfl ?_
  refine on 1 rfl ?_
  refine rz ?_
  rcases ite_inv h with ⟨hc, h⟩ | ⟨hc, h⟩
  · refine ct rfl hc ?_
    refine ra rfl ?_
    refine awp_ret ?_
    refine condQ.ret ?_
    refine seqQ.ret ?_
    cases h
    exact .ret rfl rfl
  · refine cf rfl hc ?_
    refine awp_skip ?_
    refine cn rfl ?_
    refine seqQ.normal ?_
    refine awp_seq ?_
    refine rn 1 rfl ?_
    obtain ⟨y, hk, h⟩ := bind_inv h
    refine po (elget (D.int .u8) (fun _ => rfl) hk rfl rfl rfl rfl rfl) rfl rfl ?_
    refine on 1 rfl ?_
    obtain ⟨⟨k, n⟩, hk, h⟩ := bind_inv h
    refine po (ecall (p_runes_first_ok hk) rfl rfl rfl rfl rfl rfl rfl rfl rfl) rfl rfl ?_
    refine on 5 rfl ?_
    refine rz ?_
    refine awp_seq ?_
    refine awp_seq ?_
    refine rn 3 rfl ?_
    rcases ite_inv h with ⟨hc, h⟩ | ⟨hc, h⟩
    · refine gt rfl rfl rfl rfl hc rfl ?_
      refine on 5 rfl ?_
      refine rz ?_
      refine ct rfl rfl ?_
      refine ra rfl ?_
      refine awp_ret ?_
      refine condQ.ret ?_
      refine seqQ.ret ?_
      cases h
      exact .ret rfl rfl
    · refine gf rfl rfl rfl rfl hc rfl ?_
      refine on 2 rfl ?_
      refine po (ellen rfl rfl rfl rfl rfl rfl rfl) rfl rfl ?_
      refine on 2 rfl ?_
      refine rz ?_
      rcases ite_inv h with ⟨hc, h⟩ | ⟨hc, h⟩
      · refine ct rfl hc ?_
        refine ra rfl ?_
        refine awp_ret ?_
        refine condQ.ret ?_
        refine seqQ.ret ?_
        cases h
        exact .ret rfl rfl
      · refine cf rfl hc ?_
        refine awp_skip ?_
        refine cn rfl ?_
        refine seqQ.normal ?_
        refine awp_seq ?_
        refine awp_seq ?_
        refine rn 2 rfl ?_
        obtain ⟨l, hk, h⟩ := bind_inv h
        refine po (elmid hk rfl rfl rfl rfl rfl rfl rfl) rfl rfl ?_
        refine po (ellen rfl rfl rfl rfl rfl rfl rfl) rfl rfl ?_
        refine on 1 rfl ?_
        refine rz ?_
        obtain ⟨res, hs, h⟩ := bind_inv h
        refine awp_sub Tryd.f20 0 (fun (r : Int × Int) => (CRes.ret (.tuple [.d (.int .i64 r.1), .d (.int .i64 r.2)]) [])) (fun (n2 : Int) => (⟨[(4, .d (.int .i64 k)), (5, .d (.int .i64 n2))], [], 0, [], none⟩ : St)) (res := res) ?_ (fun y hy => ?_) (fun r x s' hr hx he => ?_)
        · replace h := hs
          refine awp_block ?_
          refine awp_loop ?_
          exact awpL_at rfl rfl (p_runes_One_l0_ok k _ _ h)
        · subst hy
          obtain n2 := y
          refine seqQ.normal ?_
          refine awp_seq ?_
          refine awp_seq ?_
          refine rn 1 rfl ?_
          obtain ⟨x1, hk, h⟩ := bind_inv h
          refine po (ecall (p_runes_Good_ok hk) rfl rfl rfl rfl rfl rfl rfl rfl rfl) rfl rfl ?_
          refine on 2 rfl ?_
          rcases ite_inv h with ⟨hc, h⟩ | ⟨hc, h⟩
          · refine gt rfl rfl rfl rfl hc rfl ?_
            refine on 6 rfl ?_
            refine rz ?_
            refine ct rfl rfl ?_
            refine ra rfl ?_
            refine awp_ret ?_
            refine condQ.ret ?_
            refine seqQ.ret ?_
            cases h
            exact .ret rfl rfl
          · refine gf rfl rfl rfl rfl hc rfl ?_
            refine on 1 rfl ?_
            obtain ⟨x2, hk, h⟩ := bind_inv h
            refine po (ecallk (p_runes_put_nil_ok hk) rfl rfl rfl rfl rfl rfl rfl) rfl rfl ?_
            refine po (ellen rfl rfl rfl rfl rfl rfl rfl) rfl rfl ?_
            refine on 3 rfl ?_
            refine rz ?_
            rcases ite_inv h with ⟨hc, h⟩ | ⟨hc, h⟩
            · refine ct rfl hc ?_
              refine ra rfl ?_
              refine awp_ret ?_
              refine condQ.ret ?_
              refine seqQ.ret ?_
              cases h
              exact .ret rfl rfl
            · refine cf rfl hc ?_
              refine awp_skip ?_
              refine cn rfl ?_
              refine seqQ.normal ?_
              refine ra rfl ?_
              refine awp_ret ?_
              cases h
              exact .ret rfl rfl
        · subst hr
          refine seqQ.out hx ?_
          cases h
          exact he
theorem p_jlex_text_l0_ok : ∀ (a : Str × (List Int) × Int) (res : Except (Arr × Int × Fault) (Unit)), p_jlex_text_l0 a = some res → (match a with | (s, l, i) => awpL X 23 (codeAt [1, 1, 0, 1, 0, 0] (bodyOf Tryd.f23)) (cleanAt (X.H 23 3) 2) (exitQ 0 (X.H 23 1000000) 2 (SubQ X Tryd.f23 0 (fun (r : Arr × Int × Fault) => (CRes.ret (.tuple [.d (encArr r.1), .d (.int .i64 r.2.1), .d (encFault r.2.2)]) [])) (fun (_ : Unit) => (⟨[(2, .c (.ptr 0 0)), (4, .c (.ptr 1 0))], [(1, [.d (.int .i64 0), .d (.int .i64 0), .d (.int .i64 0)]), (0, [.own 1 (List.map (D.int .i64) []), .own 3 (List.map encCell [])])], 2, [], none⟩ : St)) res)) ⟨[(0, .d (.str s)), (2, .c (.ptr 0 0)), (4, .c (.ptr 1 0)), (5, .c (.own 1 (List.map (D.int .i64) l))), (6, .d (.int .i64 i))], [(1, [.d (.int .i64 0), .d (.int .i64 0), .d (.int .i64 0)]), (0, [.own 1 (List.map (D.int .i64) []), .own 3 (List.map encCell [])])], 2, [], none⟩) := by
  refine p_jlex_text_l0.partial_correctness _ ?_
  rintro p_jlex_text_l0' ih ⟨s, l, i⟩ res h
  refine lg rfl ?_
  refine awp_seq ?_
  refine ra rfl ?_
  rcases ite_inv h with ⟨hc, h⟩ | ⟨hc, h⟩
  · refine ct rfl hc ?_
    refine awp_skip ?_
    refine cn rfl ?_
    refine seqQ.normal ?_
    refine awp_block ?_
    refine awp_seq ?_
    refine rn 2 rfl ?_
    obtain ⟨s1, hk, h⟩ := bind_inv h
    refine po (esfrom hk rfl rfl rfl rfl) rfl rfl ?_
    obtain ⟨b, hk, h⟩ := bind_inv h
    refine po (esbytes hk rfl rfl rfl rfl rfl rfl) rfl rfl ?_
    obtain ⟨⟨n, k⟩, hk, h⟩ := bind_inv h
    refine po (ecall (p_runes_One_ok hk) rfl rfl rfl rfl rfl rfl rfl rfl rfl) rfl rfl ?_
    refine on 5 rfl ?_
    refine rz ?_
    refine awp_seq ?_
    obtain ⟨res, hs, h⟩ := bind_inv h
    refine awp_sub Tryd.f23 0 (fun (r : Arr × Int × Fault) => (CRes.ret (.tuple [.d (encArr r.1), .d (.int .i64 r.2.1), .d (encFault r.2.2)]) [])) (fun (k1 : Int) => (⟨[(0, .d (.str s)), (2, .c (.ptr 0 0)), (4, .c (.ptr 1 0)), (5, .c (.own 1 (List.map (D.int .i64) l))), (6, .d (.int .i64 i)), (7, .d (.int .i64 n)), (8, .d (.int .i64 k1))], [(1, [.d (.int .i64 0), .d (.int .i64 0), .d (.int .i64 0)]), (0, [.own 1 (List.map (D.int .i64) []), .own 3 (List.map encCell [])])], 2, [], none⟩ : St)) (res := res) ?_ (fun y hy => ?_) (fun r x s' hr hx he => ?_)
    · replace h := hs
      refine awp_block ?_
      refine ra rfl ?_
      rcases ite_inv h with ⟨hc, h⟩ | ⟨hc, h⟩
      · refine ct rfl hc ?_
        refine ra rfl ?_
        refine awp_ret ?_
        refine condQ.ret ?_
        refine exitQ.ret ?_
        cases h
        exact .err rfl (.ret rfl rfl)
      · refine cf rfl hc ?_
        refine awp_seq ?_
        refine rn 3 rfl ?_
        rcases ite_inv h with ⟨hc, h⟩ | ⟨hc, h⟩
        · refine gt rfl rfl rfl rfl hc rfl ?_
          refine on 3 rfl ?_
          obtain ⟨x, hk, h⟩ := bind_inv h
          refine po (ecall (p_jlex_at_ok hk) rfl rfl rfl rfl rfl rfl rfl rfl rfl) rfl rfl ?_
          refine on 3 rfl ?_
          refine rz ?_
          rcases ite_inv h with ⟨hc, h⟩ | ⟨hc, h⟩
          · refine ct rfl hc ?_
            refine awp_seq ?_
            refine rn 1 rfl ?_
            obtain ⟨x1, hk, h⟩ := bind_inv h
            refine po (ecall (p_arr_Text_ok hk) rfl rfl rfl rfl rfl rfl rfl rfl rfl) rfl rfl ?_
            refine on 6 rfl ?_
            refine rz ?_
            refine awp_ret ?_
            refine condQ.ret ?_
            refine condQ.ret ?_
            refine exitQ.ret ?_
            cases h
            exact .err rfl (.ret rfl rfl)
          · refine cf rfl hc ?_
            refine ra rfl ?_
            rcases ite_inv h with ⟨hc, h⟩ | ⟨hc, h⟩
            · refine ct rfl hc ?_
              refine rn 1 rfl ?_
              refine awpO_nil ?_
              refine cn rfl ?_
              refine cn rfl ?_
              refine cn rfl ?_
              refine en rfl ?_
              cases h
              exact .ok rfl
            · refine cf rfl hc ?_
              refine awp_seq ?_
              refine rn 3 rfl ?_
              rcases ite_inv h with ⟨hc, h⟩ | ⟨hc, h⟩
              · refine gt rfl rfl rfl rfl hc rfl ?_
                refine on 4 rfl ?_
                refine rz ?_
                refine ct rfl rfl ?_
                refine ra rfl ?_
                refine awp_ret ?_
                refine condQ.ret ?_
                refine condQ.ret ?_
                refine condQ.ret ?_
                refine condQ.ret ?_
                refine exitQ.ret ?_
                cases h
                exact .err rfl (.ret rfl rfl)
              · refine gf rfl rfl rfl rfl hc rfl ?_
                refine on 4 rfl ?_
                refine rz ?_
                rcases ite_inv h with ⟨hc, h⟩ | ⟨hc, h⟩
                · refine ct rfl hc ?_
                  refine ra rfl ?_
                  refine awp_ret ?_
                  refine condQ.ret ?_
                  refine condQ.ret ?_
                  refine condQ.ret ?_
                  refine condQ.ret ?_
                  refine exitQ.ret ?_
                  cases h
                  exact .err rfl (.ret rfl rfl)
                · refine cf rfl hc ?_
                  refine awp_skip ?_
                  refine cn rfl ?_
                  refine cn rfl ?_
                  refine cn rfl ?_
                  refine cn rfl ?_
                  refine en rfl ?_
                  cases h
                  exact .ok rfl
        · refine gf rfl rfl rfl rfl hc rfl ?_
          refine on 7 rfl ?_
          refine rz ?_
          refine cf rfl rfl ?_
          refine ra rfl ?_
          rcases ite_inv h with ⟨hc, h⟩ | ⟨hc, h⟩
          · refine ct rfl hc ?_
            refine rn 1 rfl ?_
            refine awpO_nil ?_
            refine cn rfl ?_
            refine cn rfl ?_
            refine cn rfl ?_
            refine en rfl ?_
            cases h
            exact .ok rfl
          · refine cf rfl hc ?_
            refine awp_seq ?_
            refine rn 3 rfl ?_
            rcases ite_inv h with ⟨hc, h⟩ | ⟨hc, h⟩
            · refine gt rfl rfl rfl rfl hc rfl ?_
              refine on 4 rfl ?_
              refine rz ?_
              refine ct rfl rfl ?_
              refine ra rfl ?_
              refine awp_ret ?_
              refine condQ.ret ?_
              refine condQ.ret ?_
              refine condQ.ret ?_
              refine condQ.ret ?_
              refine exitQ.ret ?_
              cases h
              exact .err rfl (.ret rfl rfl)
            · refine gf rfl rfl rfl rfl hc rfl ?_
              refine on 4 rfl ?_
              refine rz ?_
              rcases ite_inv h with ⟨hc, h⟩ | ⟨hc, h⟩
              · refine ct rfl hc ?_
                refine ra rfl ?_
                refine awp_ret ?_
                refine condQ.ret ?_
                refine condQ.ret ?_
                refine condQ.ret ?_
                refine condQ.ret ?_
                refine exitQ.ret ?_
                cases h
                exact .err rfl (.ret rfl rfl)
              · refine cf rfl hc ?_
                refine awp_skip ?_
                refine cn rfl ?_
                refine cn rfl ?_
                refine cn rfl ?_
                refine cn rfl ?_
                refine en rfl ?_
                cases h
                exact .ok rfl
    · subst hy
      obtain k1 := y
      refine seqQ.normal ?_
      refine rn 3 rfl ?_
      obtain ⟨l1, hk, h⟩ := bind_inv h
      refine po (eappv hk rfl rfl rfl rfl rfl rfl rfl rfl rfl rfl rfl rfl rfl ) rfl rfl ?_
      refine on 5 rfl ?_
      refine awpO_nil ?_
      refine en rfl ?_
      refine loopQ.normal ?_
      exact awpL_at rfl rfl (ih _ _ h)
    · subst hr
      refine seqQ.out hx ?_
      refine exitQ.out hx ?_
      refine loopQ.out hx ?_
      refine exitQ.out hx ?_
      cases h
      exact .err hx he
  · refine cf rfl hc ?_
    refine awp_exit ?_
    refine condQ.exit ?_
    refine seqQ.exit ?_
    refine loopQ.exit ?_
    refine eh rfl ?_
    cases h
    exact .ok rfl
theorem p_jlex_text_ok {s : Str} {r : Arr × Int × Fault} (h : p_jlex_text s = some r) : aval X 23 [.d (.str s)] [] (CRes.ret (.tuple [.d (encArr r.1), .d (.int .i64 r.2.1), .d (encFault r.2.2)]) []) := by
  unfold p_jlex_text at h
  refine aval_start (tm := [(0, .d (.str s))]) (hp := []) (n := 0) rfl Tryd.func23 rfl rfl rfl rfl rfl rfl ?_
  refine ra (nid' := 2) rfl ?_
  refine ra rfl ?_
  refine awp_seq ?_
  refine ra rfl ?_
  obtain ⟨res, hs, h⟩ := bind_inv h
  refine awp_sub Tryd.f23 0 (fun (r : Arr × Int × Fault) => (CRes.ret (.tuple [.d (encArr r.1), .d (.int .i64 r.2.1), .d (encFault r.2.2)]) [])) (fun (_ : Unit) => (⟨[(2, .c (.ptr 0 0)), (4, .c (.ptr 1 0))], [(1, [.d (.int .i64 0), .d (.int .i64 0), .d (.int .i64 0)]), (0, [.own 1 (List.map (D.int .i64) []), .own 3 (List.map encCell [])])], 2, [], none⟩ : St)) (res := res) ?_ (fun y hy => ?_) (fun r x s' hr hx he => ?_)
  · replace h := hs
    refine awp_block ?_
    refine awp_loop ?_
    exact awpL_at rfl rfl (p_jlex_text_l0_ok _ _ h)
  · subst hy
    refine seqQ.normal ?_
    refine ra rfl ?_
    refine awp_ret ?_
    cases h
    exact .ret rfl rfl
  · subst hr
    refine seqQ.out hx ?_
    cases h
    exact he
theorem p_jlex_words_l0_ok : ∀ (a : ((List Str)) × (List Token) × Int) (res : (List Token)), p_jlex_words_l0 a = some res → (match a with | (x, l, x1) => awpL X 26 (codeAt [1, 1, 0, 1, 0, 0] (bodyOf Tryd.f26)) (cleanAt (X.H 26 3) 0) (exitQ 0 (X.H 26 1000000) 0 (NrmQ (fun (l2 : (List Token)) => (⟨[(1, .c (.own 5 (List.map encToken l2)))], [], 0, [], none⟩ : St)) res)) ⟨[(1, .c (.own 5 (List.map encToken l))), (5, .d (.list 1 (List.map D.str x))), (6, .d (.int .i64 (List.length x : Int))), (7, .d (.int .i64 x1))], [], 0, [], none⟩) := by
  refine p_jlex_words_l0.partial_correctness _ ?_
  rintro p_jlex_words_l0' ih ⟨x, l, x1⟩ res h
  refine lg rfl ?_
  refine ra rfl ?_
  refine awp_seq ?_
  rcases ite_inv h with ⟨hc, h⟩ | ⟨hc, h⟩
  · refine ct rfl hc ?_
    refine awp_skip ?_
    refine cn rfl ?_
    refine seqQ.normal ?_
    refine awp_seq ?_
    refine awp_block ?_
    refine awp_seq ?_
    refine rn 0 rfl ?_
    obtain ⟨s, hk, h⟩ := bind_inv h
    refine po (elget D.str (fun _ => rfl) hk rfl rfl rfl rfl rfl) rfl rfl ?_
    refine on 2 rfl ?_
    refine rz ?_
    refine ra rfl ?_
    refine awp_seq ?_
    refine ra rfl ?_
    obtain ⟨kind, hs, h⟩ := bind_inv h
    refine awp_nrm (fun (kind : Int) => (⟨[(1, .c (.own 5 (List.map encToken l))), (3, .d (.str s)), (4, .d (.int .i64 kind)), (5, .d (.list 1 (List.map D.str x))), (6, .d (.int .i64 (List.length x : Int))), (7, .d (.int .i64 x1))], [], 0, [], none⟩ : St)) (y := kind) ?_ ?_
    · replace h := hs
      refine awp_block ?_
      refine ra rfl ?_
      rcases ite_inv h with ⟨hc, h⟩ | ⟨hc, h⟩
      · refine ct rfl hc ?_
        refine rn 1 rfl ?_
        refine awpO_nil ?_
        refine cn rfl ?_
        refine en rfl ?_
        cases h
        exact .ok rfl
      · refine cf rfl hc ?_
        refine awp_seq ?_
        refine ra rfl ?_
        obtain ⟨x2, hs, h⟩ := bind_inv h
        refine awp_nrm (fun (x2 : Bool) => (⟨[(1, .c (.own 5 (List.map encToken l))), (3, .d (.str s)), (4, .d (.int .i64 4)), (5, .d (.list 1 (List.map D.str x))), (6, .d (.int .i64 (List.length x : Int))), (7, .d (.int .i64 x1)), (11, .d (.str s)), (14, .d (.bool x2))], [], 0, [], none⟩ : St)) (y := x2) ?_ ?_
        · replace h := hs
          rcases ite_inv h with ⟨hc, h⟩ | ⟨hc, h⟩
          · refine ct rfl hc ?_
            refine awp_skip ?_
            refine cn rfl ?_
            cases h
            exact .ok rfl
          · refine cf rfl hc ?_
            refine rn 2 rfl ?_
            refine awpO_nil ?_
            refine cn rfl ?_
            cases h
            exact .ok rfl
        · refine seqQ.normal ?_
          rcases ite_inv h with ⟨hc, h⟩ | ⟨hc, h⟩
          · refine ct rfl hc ?_
            refine rn 1 rfl ?_
            refine awpO_nil ?_
            refine cn rfl ?_
            refine cn rfl ?_
            refine en rfl ?_
            cases h
            exact .ok rfl
          · refine cf rfl hc ?_
            refine awp_seq ?_
            refine ra rfl ?_
            obtain ⟨x3, hs, h⟩ := bind_inv h
            refine awp_nrm (fun (x3 : Bool) => (⟨[(1, .c (.own 5 (List.map encToken l))), (3, .d (.str s)), (4, .d (.int .i64 4)), (5, .d (.list 1 (List.map D.str x))), (6, .d (.int .i64 (List.length x : Int))), (7, .d (.int .i64 x1)), (17, .d (.bool x3))], [], 0, [], none⟩ : St)) (y := x3) ?_ ?_
            · replace h := hs
              rcases ite_inv h with ⟨hc, h⟩ | ⟨hc, h⟩
              · refine ct rfl hc ?_
                refine awp_skip ?_
                refine cn rfl ?_
                cases h
                exact .ok rfl
              · refine cf rfl hc ?_
                refine rn 2 rfl ?_
                refine awpO_nil ?_
                refine cn rfl ?_
                cases h
                exact .ok rfl
            · refine seqQ.normal ?_
              rcases ite_inv h with ⟨hc, h⟩ | ⟨hc, h⟩
              · refine ct rfl hc ?_
                refine rn 1 rfl ?_
                refine awpO_nil ?_
                refine cn rfl ?_
                refine cn rfl ?_
                refine cn rfl ?_
                refine en rfl ?_
                cases h
                exact .ok rfl
              · refine cf rfl hc ?_
                refine awp_skip ?_
                refine cn rfl ?_
                refine cn rfl ?_
                refine cn rfl ?_
                refine en rfl ?_
                cases h
                exact .ok rfl
    · refine seqQ.normal ?_
      refine rn 5 rfl ?_
      obtain ⟨l1, hk, h⟩ := bind_inv h
      refine po (eappv hk rfl rfl rfl rfl rfl rfl rfl rfl rfl rfl rfl rfl rfl ) rfl rfl ?_
      refine on 1 rfl ?_
      refine awpO_nil ?_
      refine en rfl ?_
      refine seqQ.normal ?_
      refine rn 2 rfl ?_
      refine awpO_nil ?_
      refine loopQ.normal ?_
      exact awpL_at rfl rfl (ih _ _ h)
  · refine cf rfl hc ?_
    refine awp_exit ?_
    refine condQ.exit ?_
    refine seqQ.exit ?_
    refine loopQ.exit ?_
    refine eh rfl ?_
    cases h
    exact .ok rfl
theorem p_jlex_words_ok  {r : (List Token)} (h : p_jlex_words = some r) : aval X 26 [] [] (CRes.ret (.d (.list 5 (List.map encToken r))) []) := by
  unfold p_jlex_words at h
  refine aval_start (tm := []) (hp := []) (n := 0) rfl Tryd.func26 rfl rfl rfl rfl rfl rfl ?_
  refine ra rfl ?_
  refine ra rfl ?_
  refine awp_seq ?_
  refine awp_seq ?_
  refine rn 0 rfl ?_
  obtain ⟨x, hk, h⟩ := bind_inv h
  refine po (ecall (goFields_ok hk) rfl rfl rfl rfl rfl rfl rfl rfl rfl) rfl rfl ?_
  refine po (ellen rfl rfl rfl rfl rfl rfl rfl) rfl rfl ?_
  refine on 1 rfl ?_
  refine rz ?_
  obtain ⟨l2, hs, h⟩ := bind_inv h
  refine awp_nrm (fun (l2 : (List Token)) => (⟨[(1, .c (.own 5 (List.map encToken l2)))], [], 0, [], none⟩ : St)) (y := l2) ?_ ?_
  · replace h := hs
    refine awp_block ?_
    refine awp_loop ?_
    exact awpL_at rfl rfl (p_jlex_words_l0_ok _ _ h)
  · refine seqQ.normal ?_
    refine ra rfl ?_
    refine awp_ret ?_
    cases h
    exact .ret rfl rfl
theorem p_stringslite_HasPrefix_ok {s : Str} {prefix_ : Str} {r : Bool} (h : p_stringslite_HasPrefix s prefix_ = some r) : aval X 19 [.d (.str s), .d (.str prefix_)] [] (CRes.ret (.d (.bool r)) []) := by
  unfold p_stringslite_HasPrefix at h
  refine aval_start (tm := [(0, .d (.str s)), (1, .d (.str prefix_))]) (hp := []) (n := 0) rfl Tryd.func19 rfl rfl rfl rfl rfl rfl ?_
  refine ra rfl ?_
  refine awp_seq ?_
  refine rn 6 rfl ?_
  rcases ite_inv h with ⟨hc, h⟩ | ⟨hc, h⟩
  · refine gt rfl rfl rfl rfl hc rfl ?_
    refine on 3 rfl ?_
    obtain ⟨s1, hk, h⟩ := bind_inv h
    refine po (esto hk rfl rfl rfl rfl) rfl rfl ?_
    refine on 4 rfl ?_
    refine rz ?_
    refine awp_ret ?_
    cases h
    exact .ret rfl rfl
  · refine gf rfl rfl rfl rfl hc rfl ?_
    refine on 8 rfl ?_
    refine rz ?_
    refine awp_ret ?_
    cases h
    exact .ret rfl rfl
theorem p_strings_HasPrefix_ok {s : Str} {prefix_ : Str} {r : Bool} (h : p_strings_HasPrefix s prefix_ = some r) : aval X 15 [.d (.str s), .d (.str prefix_)] [] (CRes.ret (.d (.bool r)) []) := by
  unfold p_strings_HasPrefix at h
  refine aval_start (tm := [(0, .d (.str s)), (1, .d (.str prefix_))]) (hp := []) (n := 0) rfl Tryd.func15 rfl rfl rfl rfl rfl rfl ?_
  refine ra rfl ?_
  refine awp_seq ?_
  refine rn 2 rfl ?_
  obtain ⟨x, hk, h⟩ := bind_inv h
  refine po (ecall (p_stringslite_HasPrefix_ok hk) rfl rfl rfl rfl rfl rfl rfl rfl rfl) rfl rfl ?_
  refine on 1 rfl ?_
  refine rz ?_
  refine awp_ret ?_
  cases h
  exact .ret rfl rfl
theorem p_jlex_word_l0_ok : ∀ (a : Str × ((List Token)) × Int) (res : Except (Token × Int × Fault) (Unit)), p_jlex_word_l0 a = some res → (match a with | (s, x7, x8) => awpL X 16 (codeAt [1, 1, 1, 1, 0, 1, 0, 0] (bodyOf Tryd.f16)) (cleanAt (X.H 16 19) 3) (exitQ 1 (X.H 16 1000001) 3 (SubQ X Tryd.f16 0 (fun (r : Token × Int × Fault) => (CRes.ret (.tuple [.d (encToken r.1), .d (.int .i64 r.2.1), .d (encFault r.2.2)]) [])) (fun (_ : Unit) => (⟨[(2, .c (.ptr 0 0)), (4, .c (.ptr 1 0)), (5, .c (.ptr 2 0))], [(2, [.d (.int .i64 (Fault.mk 2 0 0).err), .d (.int .i64 (Fault.mk 2 0 0).at_), .d (.int .i64 (Fault.mk 2 0 0).why)]), (1, [.d (.int .i64 0), .d (.int .i64 0), .d (.int .i64 0)]), (0, [.d (.int .i64 0), .d (.str []), .own 1 (List.map (D.int .i64) []), .own 3 (List.map encCell []), .d (.int .i64 0)])], 3, [], none⟩ : St)) res)) ⟨[(0, .d (.str s)), (2, .c (.ptr 0 0)), (4, .c (.ptr 1 0)), (5, .c (.ptr 2 0)), (79, .d (.list 5 (List.map encToken x7))), (80, .d (.int .i64 (List.length x7 : Int))), (81, .d (.int .i64 x8))], [(2, [.d (.int .i64 (Fault.mk 2 0 0).err), .d (.int .i64 (Fault.mk 2 0 0).at_), .d (.int .i64 (Fault.mk 2 0 0).why)]), (1, [.d (.int .i64 0), .d (.int .i64 0), .d (.int .i64 0)]), (0, [.d (.int .i64 0), .d (.str []), .own 1 (List.map (D.int .i64) []), .own 3 (List.map encCell []), .d (.int .i64 0)])], 3, [], none⟩) := by
  refine p_jlex_word_l0.partial_correctness _ ?_
  rintro p_jlex_word_l0' ih ⟨s, x7, x8⟩ res h
  refine lg rfl ?_
  refine ra rfl ?_
  refine awp_seq ?_
  rcases ite_inv h with ⟨hc, h⟩ | ⟨hc, h⟩
  · refine ct rfl hc ?_
    refine awp_skip ?_
    refine cn rfl ?_
    refine seqQ.normal ?_
    refine awp_seq ?_
    refine awp_block ?_
    refine awp_seq ?_
    refine rn 0 rfl ?_
    obtain ⟨y, hk, h⟩ := bind_inv h
    refine po (elget encToken (fun _ => rfl) hk rfl rfl rfl rfl rfl) rfl rfl ?_
    refine on (nid' := 4) 3 rfl ?_
    refine rz ?_
    refine awp_seq ?_
    refine rn 3 rfl ?_
    obtain ⟨x9, hk, h⟩ := bind_inv h
    refine po (ecall (p_strings_HasPrefix_ok hk) rfl rfl rfl rfl rfl rfl rfl rfl rfl) rfl rfl ?_
    refine rz ?_
    rcases ite_inv h with ⟨hc, h⟩ | ⟨hc, h⟩
    · refine ct rfl hc ?_
      refine awp_seq ?_
      refine awp_seq ?_
      refine rn 4 rfl ?_
      rcases ite_inv h with ⟨hc, h⟩ | ⟨hc, h⟩
      · refine gt rfl rfl rfl rfl hc rfl ?_
        refine on 1 rfl ?_
        obtain ⟨x10, hk, h⟩ := bind_inv h
        refine po (ecall (p_jlex_at_ok hk) rfl rfl rfl rfl rfl rfl rfl rfl rfl) rfl rfl ?_
        obtain ⟨x11, hk, h⟩ := bind_inv h
        refine po (ecall (p_jlex_digit_ok hk) rfl rfl rfl rfl rfl rfl rfl rfl rfl) rfl rfl ?_
        refine on 1 rfl ?_
        refine rz ?_
        rcases ite_inv h with ⟨hc, h⟩ | ⟨hc, h⟩
        · refine ct rfl hc ?_
          refine awp_seq ?_
          refine drn (m := 9) 5 rfl rfl ?_
          refine dz (by kernel_rfl) ?_
          refine awp_ret ?_
          refine condQ.ret ?_
          refine seqQ.ret ?_
          refine condQ.ret ?_
          refine exitQ.ret ?_
          refine seqQ.ret ?_
          refine loopQ.ret ?_
          refine exitQ.ret ?_
          cases h
          exact .err rfl (.ret rfl rfl)
        · refine cf rfl hc ?_
          refine awp_skip ?_
          refine cn rfl ?_
          refine seqQ.normal ?_
          refine awp_seq ?_
          refine drn (m := 12) 8 rfl rfl ?_
          refine dz (by kernel_rfl) ?_
          refine awp_ret ?_
          refine condQ.ret ?_
          refine exitQ.ret ?_
          refine seqQ.ret ?_
          refine loopQ.ret ?_
          refine exitQ.ret ?_
          cases h
          exact .err rfl (.ret rfl rfl)
      · refine gf rfl rfl rfl rfl hc rfl ?_
        refine on 4 rfl ?_
        refine rz ?_
        refine cf rfl rfl ?_
        refine awp_skip ?_
        refine cn rfl ?_
        refine seqQ.normal ?_
        refine awp_seq ?_
        refine drn (m := 12) 8 rfl rfl ?_
        refine dz (by kernel_rfl) ?_
        refine awp_ret ?_
        refine condQ.ret ?_
        refine exitQ.ret ?_
        refine seqQ.ret ?_
        refine loopQ.ret ?_
        refine exitQ.ret ?_
        cases h
        exact .err rfl (.ret rfl rfl)
    · refine cf rfl hc ?_
      refine awp_skip ?_
      refine cn rfl ?_
      refine en rfl ?_
      refine seqQ.normal ?_
      refine rn 2 rfl ?_
      refine awpO_nil ?_
      refine loopQ.normal ?_
      exact awpL_at rfl rfl (ih _ _ h)
  · refine cf rfl hc ?_
    refine awp_exit ?_
    refine condQ.exit ?_
    refine seqQ.exit ?_
    refine loopQ.exit ?_
    refine eh rfl ?_
    cases h
    exact .ok rfl
theorem p_jlex_word_ok {s : Str} {r : Token × Int × Fault} (h : p_jlex_word s = some r) : aval X 16 [.d (.str s)] [] (CRes.ret (.tuple [.d (encToken r.1), .d (.int .i64 r.2.1), .d (encFault r.2.2)]) []) := by
  unfold p_jlex_word at h
  refine aval_start (tm := [(0, .d (.str s))]) (hp := []) (n := 0) rfl Tryd.func16 rfl rfl rfl rfl rfl rfl ?_
  refine ra (nid' := 2) rfl ?_
  refine ra (nid' := 3) rfl ?_
  refine awp_seq ?_
  refine awp_seq ?_
  refine rn 1 rfl ?_
  obtain ⟨b, hk, h⟩ := bind_inv h
  refine po (esbytes hk rfl rfl rfl rfl rfl rfl) rfl rfl ?_
  obtain ⟨⟨x, k⟩, hk, h⟩ := bind_inv h
  refine po (ecall (p_runes_One_ok hk) rfl rfl rfl rfl rfl rfl rfl rfl rfl) rfl rfl ?_
  refine on 5 rfl ?_
  refine rz ?_
  refine ra rfl ?_
  rcases ite_inv h with ⟨hc, h⟩ | ⟨hc, h⟩
  · refine ct rfl hc ?_
    refine ra rfl ?_
    refine awp_ret ?_
    refine condQ.ret ?_
    refine seqQ.ret ?_
    cases h
    exact .ret rfl rfl
  · refine cf rfl hc ?_
    refine awp_skip ?_
    refine cn rfl ?_
    refine seqQ.normal ?_
    refine awp_seq ?_
    refine awp_block ?_
    refine awp_seq ?_
    refine rn 1 rfl ?_
    obtain ⟨x1, hk, h⟩ := bind_inv h
    refine po (ecall (p_jlex_begins_ok hk) rfl rfl rfl rfl rfl rfl rfl rfl rfl) rfl rfl ?_
    refine on 1 rfl ?_
    refine rz ?_
    rcases ite_inv h with ⟨hc, h⟩ | ⟨hc, h⟩
    · refine ct rfl hc ?_
      refine awp_seq ?_
      refine rn 1 rfl ?_
      obtain ⟨⟨x2, k1, where_⟩, hk, h⟩ := bind_inv h
      refine po (ecall (p_jlex_numbers_ok hk) rfl rfl rfl rfl rfl rfl rfl rfl rfl) rfl rfl ?_
      refine on (nid' := 4) 8 rfl ?_
      refine rz ?_
      refine awp_seq ?_
      refine ra rfl ?_
      rcases ite_inv h with ⟨hc, h⟩ | ⟨hc, h⟩
      · refine ct rfl hc ?_
        refine ra rfl ?_
        refine awp_ret ?_
        refine condQ.ret ?_
        refine seqQ.ret ?_
        refine condQ.ret ?_
        refine exitQ.ret ?_
        refine seqQ.ret ?_
        cases h
        exact .ret rfl rfl
      · refine cf rfl hc ?_
        refine awp_skip ?_
        refine cn rfl ?_
        refine seqQ.normal ?_
        refine ra rfl ?_
        refine awp_ret ?_
        refine condQ.ret ?_
        refine exitQ.ret ?_
        refine seqQ.ret ?_
        cases h
        exact .ret rfl rfl
    · refine cf rfl hc ?_
      refine awp_seq ?_
      refine rn 1 rfl ?_
      obtain ⟨c, hk, h⟩ := bind_inv h
      refine po (esget hk rfl rfl rfl rfl) rfl rfl ?_
      refine on 2 rfl ?_
      refine rz ?_
      rcases ite_inv h with ⟨hc, h⟩ | ⟨hc, h⟩
      · refine ct rfl hc ?_
        refine awp_seq ?_
        refine rn 1 rfl ?_
        obtain ⟨⟨x3, k2, x4⟩, hk, h⟩ := bind_inv h
        refine po (ecall (p_jlex_text_ok hk) rfl rfl rfl rfl rfl rfl rfl rfl rfl) rfl rfl ?_
        refine on (nid' := 5) 9 rfl ?_
        refine rz ?_
        refine awp_seq ?_
        refine drn (m := 12) 7 rfl rfl ?_
        refine dz (by kernel_rfl) ?_
        refine awp_ret ?_
        refine condQ.ret ?_
        refine condQ.ret ?_
        refine exitQ.ret ?_
        refine seqQ.ret ?_
        cases h
        exact .ret rfl rfl
      · refine cf rfl hc ?_
        refine awp_seq ?_
        refine rn 1 rfl ?_
        obtain ⟨c1, hk, h⟩ := bind_inv h
        refine po (esget hk rfl rfl rfl rfl) rfl rfl ?_
        obtain ⟨x5, hk, h⟩ := bind_inv h
        refine po (ecall (p_jlex_letter_ok hk) rfl rfl rfl rfl rfl rfl rfl rfl rfl) rfl rfl ?_
        refine on 1 rfl ?_
        refine rz ?_
        rcases ite_inv h with ⟨hc, h⟩ | ⟨hc, h⟩
        · refine ct rfl hc ?_
          refine awp_seq ?_
          refine rn 1 rfl ?_
          obtain ⟨⟨x6, ok⟩, hk, h⟩ := bind_inv h
          refine po (ecall (p_jlex_name_ok hk) rfl rfl rfl rfl rfl rfl rfl rfl rfl) rfl rfl ?_
          refine on (nid' := 4) 6 rfl ?_
          refine rz ?_
          refine awp_seq ?_
          refine ra rfl ?_
          rcases ite_inv h with ⟨hc, h⟩ | ⟨hc, h⟩
          · refine ct rfl hc ?_
            refine awp_seq ?_
            refine drn (m := 9) 5 rfl rfl ?_
            refine dz (by kernel_rfl) ?_
            refine awp_ret ?_
            refine condQ.ret ?_
            refine seqQ.ret ?_
            refine condQ.ret ?_
            refine condQ.ret ?_
            refine condQ.ret ?_
            refine exitQ.ret ?_
            refine seqQ.ret ?_
            cases h
            exact .ret rfl rfl
          · refine cf rfl hc ?_
            refine awp_skip ?_
            refine cn rfl ?_
            refine seqQ.normal ?_
            refine awp_seq ?_
            refine drn (m := 12) 8 rfl rfl ?_
            refine dz (by kernel_rfl) ?_
            refine awp_ret ?_
            refine condQ.ret ?_
            refine condQ.ret ?_
            refine condQ.ret ?_
            refine exitQ.ret ?_
            refine seqQ.ret ?_
            cases h
            exact .ret rfl rfl
        · refine cf rfl hc ?_
          refine awp_skip ?_
          refine cn rfl ?_
          refine cn rfl ?_
          refine cn rfl ?_
          refine en rfl ?_
          refine seqQ.normal ?_
          refine awp_seq ?_
          refine awp_seq ?_
          refine rn 0 rfl ?_
          obtain ⟨x7, hk, h⟩ := bind_inv h
          refine po (ecall (p_jlex_words_ok hk) rfl rfl rfl rfl rfl rfl rfl rfl rfl) rfl rfl ?_
          refine po (ellen rfl rfl rfl rfl rfl rfl rfl) rfl rfl ?_
          refine on 1 rfl ?_
          refine rz ?_
          obtain ⟨res, hs, h⟩ := bind_inv h
          refine awp_sub Tryd.f16 0 (fun (r : Token × Int × Fault) => (CRes.ret (.tuple [.d (encToken r.1), .d (.int .i64 r.2.1), .d (encFault r.2.2)]) [])) (fun (_ : Unit) => (⟨[(2, .c (.ptr 0 0)), (4, .c (.ptr 1 0)), (5, .c (.ptr 2 0))], [(2, [.d (.int .i64 (Fault.mk 2 0 0).err), .d (.int .i64 (Fault.mk 2 0 0).at_), .d (.int .i64 (Fault.mk 2 0 0).why)]), (1, [.d (.int .i64 0), .d (.int .i64 0), .d (.int .i64 0)]), (0, [.d (.int .i64 0), .d (.str []), .own 1 (List.map (D.int .i64) []), .own 3 (List.map encCell []), .d (.int .i64 0)])], 3, [], none⟩ : St)) (res := res) ?_ (fun y hy => ?_) (fun r x s' hr hx he => ?_)
          · replace h := hs
            refine awp_block ?_
            refine awp_loop ?_
            exact awpL_at rfl rfl (p_jlex_word_l0_ok _ _ h)
          · subst hy
            refine seqQ.normal ?_
            refine awp_seq ?_
            refine drn (m := 8) 5 rfl rfl ?_
            refine dz (by kernel_rfl) ?_
            refine awp_ret ?_
            cases h
            exact .ret rfl rfl
          · subst hr
            refine seqQ.out hx ?_
            cases h
            exact he
theorem p_jlex_Lex_l0_ok : ∀ (a : Str × Int × (List Token)) (res : Except ((List Token) × Fault) ((List Token))), p_jlex_Lex_l0 a = some res → (match a with | (s, i, l) => awpL X 8 (codeAt [1, 1, 1, 0, 1, 0, 0] (bodyOf Tryd.f8)) (cleanAt (X.H 8 5) 1) (exitQ 0 (X.H 8 1000000) 1 (SubQ X Tryd.f8 0 (fun (r : (List Token) × Fault) => (CRes.ret (.tuple [.d (.list 5 (List.map encToken r.1)), .d (encFault r.2)]) [])) (fun (l2 : (List Token)) => (⟨[(3, .c (.ptr 0 0)), (4, .c (.own 5 (List.map encToken l2)))], [(0, [.d (.int .i64 0), .d (.int .i64 0), .d (.int .i64 0)])], 1, [], none⟩ : St)) res)) ⟨[(0, .d (.str s)), (3, .c (.ptr 0 0)), (4, .c (.own 5 (List.map encToken l))), (5, .d (.int .i64 i))], [(0, [.d (.int .i64 0), .d (.int .i64 0), .d (.int .i64 0)])], 1, [], none⟩) := by
  refine p_jlex_Lex_l0.partial_correctness _ ?_
  rintro p_jlex_Lex_l0' ih ⟨s, i, l⟩ res h
  refine lg rfl ?_
  refine awp_seq ?_
  refine ra rfl ?_
  rcases ite_inv h with ⟨hc, h⟩ | ⟨hc, h⟩
  · refine ct rfl hc ?_
    refine awp_skip ?_
    refine cn rfl ?_
    refine seqQ.normal ?_
    refine awp_block ?_
    refine awp_seq ?_
    refine awp_seq ?_
    refine rn 2 rfl ?_
    obtain ⟨c, hk, h⟩ := bind_inv h
    refine po (esget hk rfl rfl rfl rfl) rfl rfl ?_
    refine on 1 rfl ?_
    refine rz ?_
    rcases ite_inv h with ⟨hc, h⟩ | ⟨hc, h⟩
    · refine ct rfl hc ?_
      refine ra rfl ?_
      refine awp_exit ?_
      refine condQ.exit ?_
      refine seqQ.exit ?_
      refine eh rfl ?_
      refine loopQ.normal ?_
      exact awpL_at rfl rfl (ih _ _ h)
    · refine cf rfl hc ?_
      refine awp_skip ?_
      refine cn rfl ?_
      refine seqQ.normal ?_
      refine awp_seq ?_
      refine awp_seq ?_
      refine rn 2 rfl ?_
      obtain ⟨s1, hk, h⟩ := bind_inv h
      refine po (esfrom hk rfl rfl rfl rfl) rfl rfl ?_
      obtain ⟨x, hk, h⟩ := bind_inv h
      refine po (ecall (p_strings_HasPrefix_ok hk) rfl rfl rfl rfl rfl rfl rfl rfl rfl) rfl rfl ?_
      refine rz ?_
      rcases ite_inv h with ⟨hc, h⟩ | ⟨hc, h⟩
      · refine ct rfl hc ?_
        refine awp_exit ?_
        refine condQ.exit ?_
        refine seqQ.exit ?_
        refine exitQ.there rfl ?_
        refine loopQ.exit ?_
        refine eh rfl ?_
        cases h
        exact .ok rfl
      · refine cf rfl hc ?_
        refine awp_skip ?_
        refine cn rfl ?_
        refine seqQ.normal ?_
        refine awp_seq ?_
        refine awp_seq ?_
        refine rn 1 rfl ?_
        refine po (ellen rfl rfl rfl rfl rfl rfl rfl) rfl rfl ?_
        refine on 1 rfl ?_
        refine rz ?_
        rcases ite_inv h with ⟨hc, h⟩ | ⟨hc, h⟩
        · refine ct rfl hc ?_
          refine ra rfl ?_
          refine awp_ret ?_
          refine condQ.ret ?_
          refine seqQ.ret ?_
          refine exitQ.ret ?_
          refine loopQ.ret ?_
          refine exitQ.ret ?_
          cases h
          exact .err rfl (.ret rfl rfl)
        · refine cf rfl hc ?_
          refine awp_skip ?_
          refine cn rfl ?_
          refine seqQ.normal ?_
          refine awp_seq ?_
          refine rn 2 rfl ?_
          obtain ⟨s2, hk, h⟩ := bind_inv h
          refine po (esfrom hk rfl rfl rfl rfl) rfl rfl ?_
          obtain ⟨⟨x1, k, x2⟩, hk, h⟩ := bind_inv h
          refine po (ecall (p_jlex_word_ok hk) rfl rfl rfl rfl rfl rfl rfl rfl rfl) rfl rfl ?_
          refine on (nid' := 3) 9 rfl ?_
          refine rz ?_
          refine awp_seq ?_
          refine ra rfl ?_
          rcases ite_inv h with ⟨hc, h⟩ | ⟨hc, h⟩
          · refine ct rfl hc ?_
            refine ra rfl ?_
            refine awp_seq ?_
            refine drn (m := 6) 3 rfl rfl ?_
            refine dz (by kernel_rfl) ?_
            refine awp_ret ?_
            refine condQ.ret ?_
            refine seqQ.ret ?_
            refine exitQ.ret ?_
            refine loopQ.ret ?_
            refine exitQ.ret ?_
            cases h
            exact .err rfl (.ret rfl rfl)
          · refine cf rfl hc ?_
            refine awp_skip ?_
            refine cn rfl ?_
            refine seqQ.normal ?_
            refine ra rfl ?_
            refine rn 3 rfl ?_
            obtain ⟨l1, hk, h⟩ := bind_inv h
            refine po (eappv hk rfl rfl rfl rfl rfl rfl rfl rfl rfl rfl rfl rfl rfl ) rfl rfl ?_
            refine on 5 rfl ?_
            refine awpO_nil ?_
            refine en rfl ?_
            refine loopQ.normal ?_
            exact awpL_at rfl rfl (ih _ _ h)
  · refine cf rfl hc ?_
    refine awp_exit ?_
    refine condQ.exit ?_
    refine seqQ.exit ?_
    refine loopQ.exit ?_
    refine eh rfl ?_
    cases h
    exact .ok rfl
theorem p_jlex_Lex_ok {s : Str} {r : (List Token) × Fault} (h : p_jlex_Lex s = some r) : aval X 8 [.d (.str s)] [] (CRes.ret (.tuple [.d (.list 5 (List.map encToken r.1)), .d (encFault r.2)]) []) := by
  unfold p_jlex_Lex at h
  refine aval_start (tm := [(0, .d (.str s))]) (hp := []) (n := 0) rfl Tryd.func8 rfl rfl rfl rfl rfl rfl ?_
  refine ra (nid' := 1) rfl ?_
  refine awp_seq ?_
  refine ra rfl ?_
  rcases ite_inv h with ⟨hc, h⟩ | ⟨hc, h⟩
  · refine ct rfl hc ?_
    refine ra rfl ?_
    refine awp_ret ?_
    refine condQ.ret ?_
    refine seqQ.ret ?_
    cases h
    exact .ret rfl rfl
  · refine cf rfl hc ?_
    refine awp_skip ?_
    refine cn rfl ?_
    refine seqQ.normal ?_
    refine ra rfl ?_
    refine awp_seq ?_
    refine ra rfl ?_
    obtain ⟨res, hs, h⟩ := bind_inv h
    refine awp_sub Tryd.f8 0 (fun (r : (List Token) × Fault) => (CRes.ret (.tuple [.d (.list 5 (List.map encToken r.1)), .d (encFault r.2)]) [])) (fun (l2 : (List Token)) => (⟨[(3, .c (.ptr 0 0)), (4, .c (.own 5 (List.map encToken l2)))], [(0, [.d (.int .i64 0), .d (.int .i64 0), .d (.int .i64 0)])], 1, [], none⟩ : St)) (res := res) ?_ (fun y hy => ?_) (fun r x s' hr hx he => ?_)
    · replace h := hs
      refine awp_block ?_
      refine awp_loop ?_
      exact awpL_at rfl rfl (p_jlex_Lex_l0_ok _ _ h)
    · subst hy
      obtain l2 := y
      refine seqQ.normal ?_
      refine ra rfl ?_
      refine awp_ret ?_
      cases h
      exact .ret rfl rfl
    · subst hr
      refine seqQ.out hx ?_
      cases h
      exact he
end Go.AM.Seat
