/- Part of a proof about the given program: the abstract machine, the printed functions, the plain laws. (ZP) -/
import Derived.Test.YtbpldjfhpbebfaaGreatA5
import Derived.Laws.Cover4
set_option linter.all false
set_option linter.unusedSectionVars false
set_option linter.unusedVariables false
set_option linter.unusedSimpArgs false

namespace Go.AM.Seat
open Go Go.AM
def T {α : Type} (x : Option α) (Q : α → Prop) : Prop := ∃ r, x = some r ∧ Q r
section
variable {α β : Type} {Q R : α → Prop} {S : β → Prop}
theorem T.ret {v : α} (h : Q v) : T (some v) Q := ⟨v, rfl, h⟩
theorem T.bind {x : Option α} {f : α → Option β} (h : T x R) (k : ∀ v, R v → T (f v) S) : T (x >>= f) S := by
 obtain ⟨v, rfl, hv⟩ := h; exact k v hv
theorem T.ite {c : Bool} {a b : Option α} (h : c = true → T a Q) (k : c = false → T b Q) : T (if c = true then a else b) Q := by
 cases c
 ·exact k rfl
 exact h rfl
theorem T.imp {x : Option α} (h : T x R) (k : ∀ v, R v → Q v) : T x Q := by
 obtain ⟨v, e, hv⟩ := h; exact ⟨v, e, k v hv⟩
theorem T.val {x : Option α} {v : α} (h : x = some v) (k : Q v) : T x Q := ⟨v, h, k⟩
theorem T.lget {l : List α} {i : Int} (h0 : 0 ≤ i) (h1 : i < l.length) (k : ∀ v, l[i.toNat]? = some v → Q v) : T (lget l i) Q := by
 have hl : i.toNat < l.length := by omega
 refine ⟨l[i.toNat], ?_, k _ (by simp [hl])⟩
 unfold AM.lget
 rw [if_pos h0]; simp [hl]
theorem T.lapp {l m : List α} {Q : List α → Prop} (h : l.length + m.length ≤ 4294967296) (k : Q (l ++ m)) : T (lapp l m) Q := ⟨_, by unfold AM.lapp; rw [if_pos h], k⟩
theorem T.lfrom {l : List α} {lo : Int} {Q : List α → Prop} (h0 : 0 ≤ lo) (h1 : lo ≤ l.length) (k : Q (l.drop lo.toNat)) : T (lfrom l lo) Q :=
 ⟨_, by unfold AM.lfrom; rw [if_pos ⟨h0, by omega⟩], k⟩
end
theorem T.sget {s : Str} {i : Int} {Q : Int → Prop} (h0 : 0 ≤ i) (h1 : i < s.length) (k : ∀ b, s[i.toNat]? = some b → Q (b.toNat : Int)) : T (sget s i) Q := by
 have hl : i.toNat < s.length := by omega
 refine ⟨(s[i.toNat].toNat : Int), ?_, k _ (by simp [hl])⟩
 unfold AM.sget
 rw [if_pos h0]; simp [hl]
theorem T.sfrom {s : Str} {lo : Int} {Q : Str → Prop} (h0 : 0 ≤ lo) (h1 : lo ≤ s.length) (k : Q (s.drop lo.toNat)) : T (sfrom s lo) Q :=
 ⟨_, by unfold AM.sfrom; rw [if_pos ⟨h0, by omega⟩], k⟩
theorem T.smid {s : Str} {lo hi : Int} {Q : Str → Prop} (h0 : 0 ≤ lo) (h1 : lo ≤ hi) (h2 : hi ≤ s.length) (k : Q ((s.take hi.toNat).drop lo.toNat)) : T (smid s lo hi) Q :=
 ⟨_, by unfold AM.smid; rw [if_pos ⟨h0, h1, by omega⟩], k⟩
theorem T.scat {a b : Str} {Q : Str → Prop} (h : a.length + b.length ≤ 1099511627776) (k : Q (a ++ b)) : T (scat a b) Q := ⟨_, by unfold AM.scat; rw [if_pos h], k⟩
theorem T.sbytes {s : Str} {Q : List Int → Prop} (h : s.length ≤ 1099511627776) (k : Q (s.map u8I)) : T (sbytes s) Q := ⟨_, by unfold AM.sbytes; rw [if_pos h], k⟩
theorem w64_id {x : Int} (h1 : -9223372036854775808 ≤ x) (h2 : x < 9223372036854775808) : w64 x = x := by
 unfold w64; rw [IntKind.wrap_i64]; omega
theorem lget_some {α : Type} {l : List α} {i : Nat} (h : i < l.length) : lget l (i : Int) = some l[i] := by
 unfold AM.lget
 rw [if_pos (by omega)]; simp [h]
end Go.AM.Seat

namespace Go.AM.Seat
open Go Go.AM
theorem Arr.ext' {a b : Arr} (h1 : a.shape = b.shape) (h2 : a.cells = b.cells) : a = b := by
 cases a; cases b; simp only [Arr.shape, Arr.cells] at h1 h2; subst h1; subst h2; rfl
theorem Cell.ext' {a b : Cell} (h1 : a.kind = b.kind) (h2 : a.n = b.n) (h3 : a.box = b.box) : a = b := by
 cases a; cases b; simp only [Cell.kind, Cell.n, Cell.box] at h1 h2 h3; subst h1; subst h2; subst h3; rfl
structure Flat (a : Arr) : Prop where
 shape : a.shape.length ≤ 1
 len : a.cells.length ≤ 9000
 box : ∀ c ∈ a.cells, c.box = []
def cmpI (a b : Int) : Int := if a < b then -1 else if a > b then 1 else 0
theorem cmpI_zero {a b : Int} : cmpI a b = 0 ↔ a = b := by unfold cmpI; constructor <;> intro h <;> (repeat' split at h) <;> (repeat' split) <;> omega
theorem cmpI_self (a : Int) : cmpI a a = 0 := cmpI_zero.2 rfl
theorem ints_eq (a b : Int) : p_triglyphref03_ints a b = some (cmpI a b) := by
 unfold p_triglyphref03_ints cmpI
 by_cases h : a < b
 ·rw [if_pos (by simpa using h), if_pos h]
 rw [if_neg (by simpa using h), if_neg h]
 by_cases h' : a > b
 ·rw [if_pos (by simpa using h'), if_pos h']
 rw [if_neg (by simpa using h'), if_neg h']
theorem order_int_eq (a b : Int) : p_arr_order_int a b = some (cmpI a b) := by
 unfold p_arr_order_int cmpI
 by_cases h : a < b
 ·rw [if_pos (by simpa using h), if_pos h]
 rw [if_neg (by simpa using h), if_neg h]
 by_cases h' : a > b
 ·rw [if_pos (by simpa using h'), if_pos h']
 rw [if_neg (by simpa using h'), if_neg h']
theorem order_int64_eq (a b : Int) : p_arr_order_int64 a b = some (cmpI a b) := by
 unfold p_arr_order_int64 cmpI
 by_cases h : a < b
 ·rw [if_pos (by simpa using h), if_pos h]
 rw [if_neg (by simpa using h), if_neg h]
 by_cases h' : a > b
 ·rw [if_pos (by simpa using h'), if_pos h']
 rw [if_neg (by simpa using h'), if_neg h']
def orI (a b : Int) : Int := if a = 0 then b else a
theorem arr_Cell_eq {a b : Cell} (ha : a.box = []) (hb : b.box = []) : p_arr_Cell (a, b) = some (orI (cmpI a.kind b.kind) (cmpI a.n b.n)) := by
 rw [p_arr_Cell]
 simp only [order_int_eq, order_int64_eq, ha, hb, Option.bind_eq_bind, Option.bind_some, List.length_nil, orI]
 by_cases h : cmpI a.kind b.kind = 0
 ·simp only [h, bne_self_eq_false, Bool.false_eq_true, if_false, if_true]
  by_cases h' : cmpI a.n b.n = 0
  ·simp [h', cmpI_self]
  simp [h']
 simp [h]
theorem ref_Cell_eq {a b : Cell} (ha : a.box = []) (hb : b.box = []) : p_triglyphref03_Cell (a, b) = some (orI (cmpI a.kind b.kind) (cmpI a.n b.n)) := by
 rw [p_triglyphref03_Cell]
 simp only [ints_eq, ha, hb, Option.bind_eq_bind, Option.bind_some, List.length_nil, orI]
 by_cases h : cmpI a.kind b.kind = 0
 ·simp only [h, if_true]
  by_cases h' : cmpI a.n b.n = 0
  ·simp [h', cmpI_self]
  simp [h']
 simp [h]
theorem orI_zero {a b : Int} : orI a b = 0 ↔ a = 0 ∧ b = 0 := by unfold orI; split <;> constructor <;> intro h <;> omega
theorem getD_of {α : Type} {l : List α} {i : Nat} (h : i < l.length) : l[i]? = some l[i] := by simp [h]
theorem arr_Cmp2_T {a b : Arr} (ha : a.shape.length ≤ 1) (hs : a.shape.length = b.shape.length) : T (p_arr_Cmp_1__arr_Cmp_2 (a.shape.length : Int) a b) fun r => r = 0 ↔ a.shape = b.shape := by
 unfold p_arr_Cmp_1__arr_Cmp_2
 match h1 : a.shape, h2 : b.shape with
 | [], [] => rw [p_arr_Cmp_1__arr_Cmp_2_l0]; exact ⟨0, rfl, by simp⟩
 | [x], [y] =>
  rw [p_arr_Cmp_1__arr_Cmp_2_l0]
  simp only [List.length_cons, List.length_nil, p_arr_Cmp_2, h1, h2, AM.lget, order_int_eq]
  by_cases e : cmpI x y = 0
  ·rw [p_arr_Cmp_1__arr_Cmp_2_l0]
   have := cmpI_zero.1 e
   subst this
   exact ⟨0, by simp [e, w64_id], by simp⟩
  refine ⟨cmpI x y, by simp [e], ?_⟩
  simp only [e, false_iff, List.cons.injEq, and_true]
  exact fun h => e (cmpI_zero.2 h)
 | [], y :: r => rw [h1, h2] at hs; simp at hs
 | [x], [] => rw [h1, h2] at hs; simp at hs
 | [x], y :: z :: r => rw [h1, h2] at hs; simp at hs
 | x :: z :: r, _ => rw [h1] at ha; simp at ha
theorem arr_Cmp3_T {a b : Arr} (ha : Flat a) (hb : Flat b) {n : Nat} (hn : n ≤ a.cells.length) (hm : n ≤ b.cells.length) : ∀ d i, i + d = n →
  T (p_arr_Cmp_1__arr_Cmp_3_l0 ((n : Int), a, b, (i : Int))) fun r => match r with
   | .ok _ => ∀ j, i ≤ j → j < n → a.cells[j]? = b.cells[j]?
   | .error o => o ≠ 0 ∧ ∃ j, j < n ∧ a.cells[j]? ≠ b.cells[j]?
 | 0, i, hi => by
  rw [p_arr_Cmp_1__arr_Cmp_3_l0]
  rw [if_neg (by simp; omega)]
  exact .ret fun j h1 h2 => by omega
 | d + 1, i, hi => by
  rw [p_arr_Cmp_1__arr_Cmp_3_l0]
  rw [if_pos (by simp; omega), p_arr_Cmp_3]
  have ea : lget a.cells (i : Int) = some a.cells[i] := lget_some (by omega)
  have eb : lget b.cells (i : Int) = some b.cells[i] := lget_some (by omega)
  simp only [ea, eb, Option.bind_eq_bind, Option.bind_some]
  rw [arr_Cell_eq (ha.box _ (List.getElem_mem _)) (hb.box _ (List.getElem_mem _))]
  simp only [Option.bind_some]
  have hla := ha.len
  by_cases e : orI (cmpI a.cells[i].kind b.cells[i].kind) (cmpI a.cells[i].n b.cells[i].n) = 0
  ·rw [if_neg (by simp [e]), show w64 ((i : Int) + 1) = ((i + 1 : Nat) : Int) from by rw [w64_id] <;> omega]
   refine (arr_Cmp3_T ha hb hn hm d (i + 1) (by omega)).imp fun r hr => ?_
   cases r with
   | error o => exact hr
   | ok u =>
    intro j h1 h2
    by_cases hj : j = i
    ·subst hj
     obtain ⟨e1, e2⟩ := orI_zero.1 e
     rw [getD_of (show j < a.cells.length by omega), getD_of (show j < b.cells.length by omega), Option.some.injEq]
     exact Cell.ext' (cmpI_zero.1 e1) (cmpI_zero.1 e2) (by rw [ha.box _ (List.getElem_mem _), hb.box _ (List.getElem_mem _)])
    exact hr j (by omega) h2
  rw [if_pos (by simp [e])]
  refine .ret ⟨e, i, by omega, fun h => e (orI_zero.2 ?_)⟩
  rw [getD_of (show i < a.cells.length by omega), getD_of (show i < b.cells.length by omega), Option.some.injEq] at h
  rw [h]
  exact ⟨cmpI_self _, cmpI_self _⟩
theorem arr_Cmp_T {a b : Arr} (ha : Flat a) (hb : Flat b) : T (p_arr_Cmp (a, b)) fun r => r = 0 ↔ a = b := by
 rw [p_arr_Cmp]
 simp only [order_int_eq, Option.bind_eq_bind, Option.bind_some]
 by_cases e : cmpI (a.shape.length : Int) (b.shape.length : Int) = 0
 ·rw [if_neg (by simp [e])]
  have hl : a.shape.length = b.shape.length := by have := cmpI_zero.1 e; omega
  refine T.bind (arr_Cmp2_T ha.shape hl) fun r hr => ?_
  by_cases e1 : r = 0
  ·rw [if_neg (by simp [e1]), p_arr_Cmp_1__arr_Cmp_3]
   have hs := hr.1 e1
   have hmin : (if (b.cells.length : Int) < (a.cells.length : Int) then (b.cells.length : Int) else (a.cells.length : Int)) = ((min a.cells.length b.cells.length : Nat) : Int) := by split <;> omega
   rw [hmin]
   have h3 := arr_Cmp3_T ha hb (n := min a.cells.length b.cells.length) (by omega) (by omega) _ 0 (Nat.zero_add _)
   simp only [Option.bind_eq_bind]
   refine T.bind (R := fun r => (r = 0 ∧ ∀ j, j < min a.cells.length b.cells.length → a.cells[j]? = b.cells[j]?) ∨ (r ≠ 0 ∧ a.cells ≠ b.cells)) ?_ fun r2 hr2 => ?_
   ·refine T.bind h3 fun x hx => ?_
    cases x with
    | ok u => exact .ret (.inl ⟨rfl, fun j hj => hx j (Nat.zero_le _) hj⟩)
    | error o => exact .ret (.inr ⟨hx.1, fun h => by obtain ⟨j, _, hj⟩ := hx.2; rw [h] at hj; exact hj rfl⟩)
   rcases hr2 with ⟨rfl, hall⟩ | ⟨hne, hcells⟩
   ·rw [if_neg (by simp)]
    refine .ret ?_
    rw [cmpI_zero]
    constructor
    ·intro h
     have h : a.cells.length = b.cells.length := by omega
     refine Arr.ext' hs (List.ext_getElem? fun j => ?_)
     by_cases hj : j < a.cells.length
     ·exact hall j (by omega)
     rw [List.getElem?_eq_none (by omega), List.getElem?_eq_none (by omega)]
    intro h; rw [h]
   rw [if_pos (by simpa using hne)]
   exact .ret ⟨fun h => absurd h hne, fun h => absurd (congrArg Arr.cells h) hcells⟩
  rw [if_pos (by simpa using e1)]
  exact .ret ⟨fun h => absurd h e1, fun h => absurd (hr.2 (by rw [h])) e1⟩
 rw [if_pos (by simpa using e)]
 exact .ret ⟨fun h => absurd h e, fun h => absurd (cmpI_zero.2 (by rw [h])) e⟩
theorem arr_Same_T {a b : Arr} (ha : Flat a) (hb : Flat b) : T (p_arr_Same a b) fun r => r = true ↔ a = b := by
 unfold p_arr_Same
 exact T.bind (arr_Cmp_T ha hb) fun r hr => .ret (by rw [beq_iff_eq]; exact hr)
theorem ref_Cmp0_self {a : Arr} (hl : a.shape.length ≤ 1) : ∀ d i, i + d = a.shape.length → p_triglyphref03_Cmp_l0 (a, a, 0, (i : Int)) = some 0
 | 0, i, hi => by rw [p_triglyphref03_Cmp_l0, if_neg (by simp; omega)]
 | d + 1, i, hi => by
  rw [p_triglyphref03_Cmp_l0, if_pos (by simp; omega)]
  have ea : lget a.shape (i : Int) = some a.shape[i] := lget_some (by omega)
  simp only [beq_self_eq_true, if_true, ea, Option.bind_eq_bind, Option.bind_some, ints_eq, cmpI_self]
  rw [show w64 ((i : Int) + 1) = ((i + 1 : Nat) : Int) from by rw [w64_id] <;> omega]
  exact ref_Cmp0_self hl d (i + 1) (by omega)
theorem ref_Cmp1_self {a : Arr} (ha : Flat a) : ∀ d i, i + d = a.cells.length → p_triglyphref03_Cmp_l1 (a, a, 0, (i : Int)) = some 0
 | 0, i, hi => by rw [p_triglyphref03_Cmp_l1, if_neg (by simp; omega)]
 | d + 1, i, hi => by
  rw [p_triglyphref03_Cmp_l1, if_pos (by simp; omega), if_pos (by simp; omega)]
  have ea : lget a.cells (i : Int) = some a.cells[i] := lget_some (by omega)
  have hla := ha.len
  simp only [beq_self_eq_true, if_true, ea, Option.bind_eq_bind, Option.bind_some]
  rw [ref_Cell_eq (ha.box _ (List.getElem_mem _)) (ha.box _ (List.getElem_mem _))]
  simp only [cmpI_self, orI, if_true, Option.bind_some]
  rw [show w64 ((i : Int) + 1) = ((i + 1 : Nat) : Int) from by rw [w64_id] <;> omega]
  exact ref_Cmp1_self ha d (i + 1) (by omega)
theorem ref_Cmp_self {a : Arr} (ha : Flat a) : p_triglyphref03_Cmp (a, a) = some 0 := by
 rw [p_triglyphref03_Cmp]
 have h0 := ref_Cmp0_self ha.shape _ 0 (Nat.zero_add _)
 have h1 := ref_Cmp1_self ha _ 0 (Nat.zero_add _)
 simp only [Int.ofNat_zero, Int.natCast_zero] at h0 h1
 simp [ints_eq, cmpI_self, h0, h1]
end Go.AM.Seat

namespace Go.AM.Seat
open Go Go.AM
inductive GN : Node → Prop where
 | mk {n : Node} : Flat n.lit → n.name.length ≤ 9000 → n.kids.length ≤ 4096 → (∀ x ∈ n.kids, GN x) → GN n
inductive Sm : Node → Node → Prop where
 | mk {a b : Node} : a.kind = b.kind → a.op_ = b.op_ → a.name = b.name → a.lit = b.lit → a.kids.length = b.kids.length → (∀ (i : Nat) (x y : Node), a.kids[i]? = some x → b.kids[i]? = some y → Sm x y) → Sm a b
theorem GN.flat {n : Node} (h : GN n) : Flat n.lit := by cases h; assumption
theorem GN.name {n : Node} (h : GN n) : n.name.length ≤ 9000 := by cases h; assumption
theorem GN.len {n : Node} (h : GN n) : n.kids.length ≤ 4096 := by cases h; assumption
theorem GN.kid {n : Node} (h : GN n) {x : Node} (hx : x ∈ n.kids) : GN x := by cases h with | mk _ _ _ k => exact k x hx
theorem Sm.symm {a b : Node} (h : Sm a b) : Sm b a := by
 induction h with
 | mk h1 h2 h3 h4 h5 _ ih => exact .mk h1.symm h2.symm h3.symm h4.symm h5.symm fun i x y hx hy => ih i y x hy hx
theorem GN.refl {a : Node} (h : GN a) : Sm a a := by
 induction h with
 | mk _ _ _ _ ih => exact .mk rfl rfl rfl rfl rfl fun i x y hx hy => by rw [hx, Option.some.injEq] at hy; subst hy; exact ih _ (List.mem_of_getElem? hx)
theorem core_Same_T {a : Node} (ha : GN a) : ∀ {b : Node}, GN b → T (p_core_Same (a, b)) fun r => r = true ↔ Sm a b := by
 induction ha with
 | @mk a h1 h2 h3 hk ih =>
  intro b hb
  have loop : a.kids.length = b.kids.length → ∀ d i, i + d = a.kids.length → T (p_core_Same_l0 (a, b, (i : Int))) fun r => match r with
    | .ok _ => ∀ (j : Nat) (x y : Node), i ≤ j → a.kids[j]? = some x → b.kids[j]? = some y → Sm x y
    | .error r => r = false ∧ ∃ (j : Nat) (x y : Node), a.kids[j]? = some x ∧ b.kids[j]? = some y ∧ ¬ Sm x y := by
   intro hl d
   induction d with
   | zero =>
    intro i hi
    rw [p_core_Same_l0, if_neg (by simp; omega)]
    exact .ret fun j x y h hx hy => by rw [List.getElem?_eq_none (by omega)] at hx; simp at hx
   | succ d ihd =>
    intro i hi
    rw [p_core_Same_l0, if_pos (by simp; omega)]
    have ea : lget a.kids (i : Int) = some a.kids[i] := lget_some (by omega)
    have eb : lget b.kids (i : Int) = some b.kids[i] := lget_some (by omega)
    simp only [ea, eb, Option.bind_eq_bind, Option.bind_some]
    refine T.bind (ih _ (List.getElem_mem _) (hb.kid (List.getElem_mem _))) fun r hr => ?_
    cases r with
    | false =>
     rw [if_pos (by rfl)]
     exact .ret ⟨rfl, i, _, _, getD_of (by omega), getD_of (by omega), fun h => by simpa using hr.2 h⟩
    | true =>
     rw [if_neg (by decide), show w64 ((i : Int) + 1) = ((i + 1 : Nat) : Int) from by rw [w64_id] <;> omega]
     refine (ihd (i + 1) (by omega)).imp fun r' hr' => ?_
     cases r' with
     | error o => exact hr'
     | ok u =>
      intro j x y h hx hy
      by_cases e : j = i
      ·subst e
       rw [getD_of (by omega), Option.some.injEq] at hx hy
       subst hx; subst hy
       exact hr.1 rfl
      exact hr' j x y (by omega) hx hy
  have no : ∀ {p : Prop}, (Sm a b → p) → ¬ p → T (some false) fun r => r = true ↔ Sm a b := fun h hp => .ret ⟨fun h => by simp at h, fun h' => absurd (h h') hp⟩
  rw [p_core_Same]
  refine T.ite (fun h => no (p := a.kind = b.kind) (fun h => by cases h; assumption) (by simpa using h)) fun e1 => ?_
  refine T.ite (fun h => no (p := a.op_ = b.op_) (fun h => by cases h; assumption) (by simpa using h)) fun e2 => ?_
  refine T.ite (fun h => no (p := a.name = b.name) (fun h => by cases h; assumption) (by simpa using h)) fun e3 => ?_
  refine T.bind (arr_Same_T h1 hb.flat) fun r hr => ?_
  refine T.ite (fun h => no (p := a.lit = b.lit) (fun h => by cases h; assumption) (fun h' => by have := hr.2 h'; simp [this] at h)) fun e4 => ?_
  refine T.ite (fun h => no (p := a.kids.length = b.kids.length) (fun h => by cases h; assumption) (by simp at h; omega)) fun e5 => ?_
  have hl : a.kids.length = b.kids.length := by simp at e5; omega
  refine T.bind (loop hl _ 0 (Nat.zero_add _)) fun r' hr' => ?_
  cases r' with
  | error o =>
   obtain ⟨rfl, j, x, y, hx, hy, hn⟩ := hr'
   exact no (p := Sm x y) (fun h => by cases h with | mk _ _ _ _ _ k => exact k j x y hx hy) hn
  | ok u =>
   refine .ret ⟨fun _ => .mk (by simpa using e1) (by simpa using e2) (by simpa using e3) (hr.1 (by simpa using e4)) hl fun i x y hx hy => hr' i x y (Nat.zero_le _) hx hy, fun _ => rfl⟩
theorem ref_Same_T {a : Node} (ha : GN a) : ∀ {b : Node}, GN b → Sm a b → p_triglyphref10_Same (a, b) = some true := by
 induction ha with
 | @mk a h1 h2 h3 hk ih =>
  intro b hb hs
  cases hs with
  | mk q1 q2 q3 q4 q5 q6 =>
  have loop : ∀ d i, i + d = a.kids.length → p_triglyphref10_Same_l0 (a, b, (i : Int)) = some (.ok ()) := by
   intro d
   induction d with
   | zero =>
    intro i hi
    rw [p_triglyphref10_Same_l0, if_neg (by simp; omega)]
   | succ d ihd =>
    intro i hi
    rw [p_triglyphref10_Same_l0, if_pos (by simp; omega)]
    have ea : lget a.kids (i : Int) = some a.kids[i] := lget_some (by omega)
    have eb : lget b.kids (i : Int) = some b.kids[i] := lget_some (by omega)
    simp only [ea, eb, Option.bind_eq_bind, Option.bind_some]
    rw [ih _ (List.getElem_mem _) (hb.kid (List.getElem_mem _)) (q6 i _ _ (getD_of (by omega)) (getD_of (by omega)))]
    simp only [Option.bind_some, Bool.not_true, Bool.false_eq_true, if_false]
    rw [show w64 ((i : Int) + 1) = ((i + 1 : Nat) : Int) from by rw [w64_id] <;> omega]
    exact ihd (i + 1) (by omega)
  have h0 := loop _ 0 (Nat.zero_add _)
  simp only [Int.ofNat_zero, Int.natCast_zero] at h0
  have hc : p_triglyphref03_Cmp (a.lit, b.lit) = some 0 := by rw [← q4]; exact ref_Cmp_self h1
  rw [p_triglyphref10_Same]
  simp [q1, q2, q3, q5, hc, h0]
end Go.AM.Seat

namespace Go.AM.Seat
open Go Go.AM
set_option maxRecDepth 10000
theorem Eqb {α β : Type} {x y : Option α} {f g : α → Option β} (h : x = y) (k : ∀ v, f v = g v) : (x >>= f) = (y >>= g) := by
 subst h; congr 1; funext v; exact k v
theorem Eqi {α : Type} {c : Bool} {a b a' b' : Option α} (h : a = a') (k : b = b') : (if c = true then a else b) = (if c = true then a' else b') := by rw [h, k]
theorem Eqic {α : Type} {c : Bool} {a b a' b' : Option α} (h : c = true → a = a') (k : c = false → b = b') : (if c = true then a else b) = (if c = true then a' else b') := by
 cases c
 ·exact k rfl
 exact h rfl
structure St (a b : Node) : Prop where
 expr : ∀ w, p_spell_writer_expr (a, w) = p_spell_writer_expr (b, w)
 call : ∀ w, p_spell_writer_call (a, w) = p_spell_writer_call (b, w)
 operand : ∀ w, p_spell_writer_operand (a, w) = p_spell_writer_operand (b, w)
 applied : ∀ w, p_spell_writer_applied (a, w) = p_spell_writer_applied (b, w)
 function : ∀ w, p_spell_writer_function (a, w) = p_spell_writer_function (b, w)
 base : ∀ w, p_spell_writer_base (a, w) = p_spell_writer_base (b, w)
theorem kids_bind {a b : Node} {β : Type} {f g : Node → Option β} {i : Int} (hl : a.kids.length = b.kids.length) (hk : ∀ (i : Nat) (x y : Node), a.kids[i]? = some x → b.kids[i]? = some y → St x y)
  (h : ∀ x y, St x y → f x = g y) : (lget a.kids i >>= f) = (lget b.kids i >>= g) := by
 unfold lget
 split
 ·by_cases hi : i.toNat < a.kids.length
  ·have h1 := getD_of hi
   have h2 := getD_of (show i.toNat < b.kids.length by omega)
   rw [h1, h2]
   exact h _ _ (hk _ _ _ h1 h2)
  ·rw [List.getElem?_eq_none (by omega), List.getElem?_eq_none (by omega)]; rfl
 rfl
theorem Eqbk {α β : Type} {x : Option α} {f g : α → Option β} (k : ∀ v, x = some v → f v = g v) : (x >>= f) = (x >>= g) := by
 cases x with
 | none => rfl
 | some v => exact k v rfl
theorem Sm.st {a b : Node} (h : Sm a b) : GN a → St a b := by
 induction h with
 | @mk a b h1 h2 h3 h4 hl _ hk0 =>
  intro hga
  have hk : ∀ (i : Nat) (x y : Node), a.kids[i]? = some x → b.kids[i]? = some y → St x y := fun i x y hx hy => hk0 i x y hx hy (hga.kid (List.mem_of_getElem? hx))
  have hlen := hga.len
  have hfits : ∀ k w, p_spell_writer_fits a k w = p_spell_writer_fits b k w := by intro k w; unfold p_spell_writer_fits; rw [hl]
  have loop : ∀ w d i o n bd, i + d = a.kids.length → p_spell_writer_function_l0 (a, w, (i : Int), o, n, bd) = p_spell_writer_function_l0 (b, w, (i : Int), o, n, bd) := by
   intro w d
   induction d with
   | zero =>
    intro i o n bd hi
    rw [p_spell_writer_function_l0, p_spell_writer_function_l0, if_neg (by simp; omega), if_neg (by simp; omega)]
   | succ d ih =>
    intro i o n bd hi
    rw [p_spell_writer_function_l0, p_spell_writer_function_l0, if_pos (by simp; omega), if_pos (by simp; omega)]
    refine kids_bind hl hk fun x y hxy => Eqb (hxy.function _) fun v => ?_
    obtain ⟨o', n', b'⟩ := v
    show p_spell_writer_function_l0 (a, w, w64 ((i : Int) + 1), _, _, _) = p_spell_writer_function_l0 (b, w, w64 ((i : Int) + 1), _, _, _)
    rw [show w64 ((i : Int) + 1) = ((i + 1 : Nat) : Int) from by rw [w64_id] <;> omega]
    exact ih (i + 1) _ _ _ (by omega)
  have hlam : ∀ w, p_spell_writer_lambda (a, w) = p_spell_writer_lambda (b, w) := by
   intro w
   rw [p_spell_writer_lambda, p_spell_writer_lambda, h1]
   repeat' (first | with_reducible rfl | exact St.expr (by assumption) _ | (refine kids_bind hl hk fun _ _ _ => ?_) | refine Eqi ?_ ?_ | refine Eqb ?_ (fun _ => ?_))
  have hfun : ∀ w, p_spell_writer_function (a, w) = p_spell_writer_function (b, w) := by
   intro w
   rw [p_spell_writer_function, p_spell_writer_function, h1, h2, h3, hfits]
   have hloop : ∀ o n bd, p_spell_writer_function_l0 (a, w, 0, o, n, bd) = p_spell_writer_function_l0 (b, w, 0, o, n, bd) := fun o n bd => loop w _ 0 o n bd (Nat.zero_add _)
   repeat' (first | with_reducible rfl | exact St.function (by assumption) _ | exact St.base (by assumption) _ | exact hlam _ | exact hloop _ _ _ | (refine kids_bind hl hk fun _ _ _ => ?_) | refine Eqi ?_ ?_ | refine Eqb ?_ (fun _ => ?_))
  have happ : ∀ w, p_spell_writer_applied (a, w) = p_spell_writer_applied (b, w) := by
   intro w
   rw [p_spell_writer_applied, p_spell_writer_applied, h1]
   repeat' (first | with_reducible rfl | exact hfun _ | refine Eqi ?_ ?_ | refine Eqb ?_ (fun _ => ?_))
  have hcall : ∀ w, p_spell_writer_call (a, w) = p_spell_writer_call (b, w) := by
   intro w
   rw [p_spell_writer_call, p_spell_writer_call, h1, h2, hfits]
   repeat' (first | with_reducible rfl | exact happ _ | exact St.function (by assumption) _ | (refine kids_bind hl hk fun _ _ _ => ?_) | refine Eqi ?_ ?_ | refine Eqb ?_ (fun _ => ?_))
  have hbase : ∀ w, p_spell_writer_base (a, w) = p_spell_writer_base (b, w) := by
   intro w
   rw [p_spell_writer_base, p_spell_writer_base, h1]
   repeat' (first | with_reducible rfl | exact hfun _ | refine Eqi ?_ ?_ | refine Eqb ?_ (fun _ => ?_))
  have hexpr0 : b.kind = 5 ∨ b.kind = 6 → ∀ w, p_spell_writer_expr (a, w) = p_spell_writer_expr (b, w) := by
   intro hb w
   rw [p_spell_writer_expr, p_spell_writer_expr, h1, hfits, hfits]
   refine Eqic (fun _ => ?_) fun e => ?_
   ·repeat' (first | with_reducible rfl | exact St.call (by assumption) _ | exact St.expr (by assumption) _ | (refine kids_bind hl hk fun _ _ _ => ?_) | refine Eqi ?_ ?_ | refine Eqb ?_ (fun _ => ?_))
   refine Eqic (fun _ => ?_) fun e' => ?_
   ·repeat' (first | with_reducible rfl | exact St.operand (by assumption) _ | exact St.applied (by assumption) _ | exact St.expr (by assumption) _ | (refine kids_bind hl hk fun _ _ _ => ?_) | refine Eqi ?_ ?_ | refine Eqb ?_ (fun _ => ?_))
   exfalso
   simp at e e'
   rcases hb with h | h
   ·exact e h
   exact e' h
  have hop : ∀ w, p_spell_writer_operand (a, w) = p_spell_writer_operand (b, w) := by
   intro w
   rw [p_spell_writer_operand, p_spell_writer_operand, h1, h3, h4, hfits]
   simp only [hfits]
   have : ∀ (x : Bool) w, (if (b.kind == 5) then some (b.kind == 5) else some (b.kind == 6)) = some x → x = true → p_spell_writer_expr (a, w) = p_spell_writer_expr (b, w) := by
    intro x w hx hx'
    subst hx'
    refine hexpr0 ?_ w
    split at hx
    ·rename_i h; exact .inl (by simpa using h)
    simp only [Option.some.injEq] at hx; exact .inr (by simpa using hx)
   refine Eqi rfl (Eqi rfl (Eqi rfl (Eqi rfl (Eqi ?_ ?_))))
   ·repeat' (first | with_reducible rfl | exact St.operand (by assumption) _ | exact St.expr (by assumption) _ | (refine kids_bind hl hk fun _ _ _ => ?_) | refine Eqi ?_ ?_ | refine Eqb ?_ (fun _ => ?_))
   refine Eqbk fun v hv => Eqic (fun hx => ?_) fun _ => rfl
   refine Eqb rfl fun _ => Eqb (this _ _ hv hx) fun _ => rfl
  have hexpr : ∀ w, p_spell_writer_expr (a, w) = p_spell_writer_expr (b, w) := by
   intro w
   by_cases hb : b.kind = 5 ∨ b.kind = 6
   ·exact hexpr0 hb w
   rw [p_spell_writer_expr, p_spell_writer_expr, h1, hfits, hfits]
   refine Eqic (fun e => absurd (.inl (by simpa using e)) hb) fun e => Eqic (fun e => absurd (.inr (by simpa using e)) hb) fun e' => ?_
   exact Eqb (hop _) fun _ => rfl
  exact ⟨hexpr, hcall, hop, happ, hfun, hbase⟩
end Go.AM.Seat

namespace Go.AM.Seat
open Go Go.AM
theorem w64_succ {i : Nat} (h : i < 9223372036854775000) : w64 ((i : Int) + 1) = ((i + 1 : Nat) : Int) := by rw [w64_id] <;> omega
theorem arr_Size_T {shape : List Int} (hl : shape.length ≤ 1) : T (p_arr_Size shape) fun _ => True := by
 have l0 : ∀ d i nn, i + d = shape.length → T (p_arr_Size_l0 (shape, nn, (i : Int))) fun _ => True := by
  intro d
  induction d with
  | zero =>
   intro i nn hi
   rw [p_arr_Size_l0, if_neg (by simp; omega)]
   exact .ret trivial
  | succ d ih =>
   intro i nn hi
   rw [p_arr_Size_l0, if_pos (by simp; omega), w64_succ (by omega)]
   refine T.bind (R := fun _ => True) ?_ fun r _ => ?_
   ·refine T.bind (T.lget (Q := fun _ => True) (by omega) (by omega) fun _ _ => trivial) fun v _ => ?_
    exact T.ite (fun _ => .ret trivial) fun _ => T.ite (fun _ => .ret trivial) fun _ => .ret trivial
   cases r with
   | error e => exact .ret trivial
   | ok b => exact ih (i + 1) b (by omega)
 unfold p_arr_Size
 refine T.ite (fun _ => .ret trivial) fun _ => ?_
 refine T.bind (l0 _ 0 false (Nat.zero_add _)) fun r _ => ?_
 cases r with
 | error e => exact .ret trivial
 | ok b =>
  refine T.ite (fun _ => .ret trivial) fun _ => ?_
  refine T.bind (R := fun _ => True) ?_ fun r _ => by cases r <;> exact .ret trivial
  match h : shape with
  | [] => rw [p_arr_Size_l1, if_neg (by simp)]; exact .ret trivial
  | [x] =>
   rw [p_arr_Size_l1, if_pos (by simp)]
   refine T.bind (T.lget (Q := fun _ => True) (by omega) (by simp) fun _ _ => trivial) fun v _ => ?_
   refine T.bind (R := fun _ => True) ⟨_, rfl, trivial⟩ fun q _ => ?_
   refine T.ite (fun _ => .ret trivial) fun _ => ?_
   rw [p_arr_Size_l1, if_neg (by rw [w64_id] <;> simp)]
   exact .ret trivial
  | x :: y :: r => simp at hl
theorem arr_good_T (n : Int) : T (p_arr_good n) fun _ => True := by
 unfold p_arr_good
 repeat' (first | exact .ret trivial | refine T.ite (fun _ => ?_) fun _ => ?_)
theorem runes_Good_T (n : Int) : T (p_runes_Good n) fun _ => True := by
 unfold p_runes_Good
 repeat' (first | exact .ret trivial | refine T.ite (fun _ => ?_) fun _ => ?_)
theorem arr_check_T {a : Arr} (ha : Flat a) (deep : Int) : T (p_arr_check (a, deep)) fun _ => True := by
 have hs := ha.shape
 have hc := ha.len
 have l0 : ∀ d i, i + d = a.shape.length → T (p_arr_check_l0 (a, (i : Int))) fun _ => True := by
  intro d
  induction d with
  | zero => intro i hi; rw [p_arr_check_l0, if_neg (by simp; omega)]; exact .ret trivial
  | succ d ih =>
   intro i hi
   rw [p_arr_check_l0, if_pos (by simp; omega), w64_succ (by omega)]
   refine T.bind (T.lget (Q := fun _ => True) (by omega) (by omega) fun _ _ => trivial) fun v _ => ?_
   exact T.ite (fun _ => .ret trivial) fun _ => ih (i + 1) (by omega)
 have l1 : ∀ d i, i + d = a.cells.length → T (p_arr_check_l1 (a, deep, (i : Int))) fun _ => True := by
  intro d
  induction d with
  | zero => intro i hi; rw [p_arr_check_l1, if_neg (by simp; omega)]; exact .ret trivial
  | succ d ih =>
   intro i hi
   rw [p_arr_check_l1, if_pos (by simp; omega), w64_succ (by omega)]
   refine T.bind (R := fun _ => True) ?_ fun r _ => ?_
   ·refine T.bind (T.lget (Q := fun c => c.box = []) (by omega) (by omega) fun c hc => ha.box c (List.mem_of_getElem? hc)) fun v hv => ?_
    rw [hv]
    have hg := arr_good_T v.n
    repeat' (first | exact .ret trivial | (exfalso; simp at *; done) | refine T.ite (fun _ => ?_) fun _ => ?_ | refine T.bind hg fun _ _ => ?_)
   cases r with
   | error e => exact .ret trivial
   | ok b => exact ih (i + 1) (by omega)
 rw [p_arr_check]
 refine T.bind (arr_Size_T ha.shape) fun r _ => ?_
 refine T.ite (fun _ => .ret trivial) fun _ => T.ite (fun _ => .ret trivial) fun _ => ?_
 refine T.bind (l0 _ 0 (Nat.zero_add _)) fun r _ => ?_
 cases r with
 | error e => exact .ret trivial
 | ok b =>
  refine T.bind (l1 _ 0 (Nat.zero_add _)) fun r _ => ?_
  cases r <;> exact .ret trivial
theorem core_Literal_T {a : Arr} (ha : Flat a) : T (p_core_Literal a) fun _ => True := by
 have hc := ha.len
 have l0 : ∀ d i, i + d = a.cells.length → T (p_core_Literal_l0 (a, (i : Int))) fun _ => True := by
  intro d
  induction d with
  | zero => intro i hi; rw [p_core_Literal_l0, if_neg (by simp; omega)]; exact .ret trivial
  | succ d ih =>
   intro i hi
   rw [p_core_Literal_l0, if_pos (by simp; omega), w64_succ (by omega)]
   refine T.bind (R := fun _ => True) ?_ fun r _ => ?_
   ·refine T.bind (T.lget (Q := fun _ => True) (by omega) (by omega) fun _ _ => trivial) fun v _ => ?_
    refine T.ite (fun _ => .ret trivial) fun _ => ?_
    refine T.bind (T.lget (Q := fun _ => True) (by omega) (by omega) fun _ _ => trivial) fun v _ => ?_
    repeat' (first | exact .ret trivial | refine T.ite (fun _ => ?_) fun _ => ?_)
   cases r with
   | error e => exact .ret trivial
   | ok b => exact ih (i + 1) (by omega)
 have l1 : ∀ d i, i + d = a.cells.length → T (p_core_Literal_l1 (a, (i : Int))) fun _ => True := by
  intro d
  induction d with
  | zero => intro i hi; rw [p_core_Literal_l1, if_neg (by simp; omega)]; exact .ret trivial
  | succ d ih =>
   intro i hi
   rw [p_core_Literal_l1, if_pos (by simp; omega), w64_succ (by omega)]
   refine T.bind (R := fun _ => True) ?_ fun r _ => ?_
   ·refine T.bind (T.lget (Q := fun _ => True) (by omega) (by omega) fun _ _ => trivial) fun v _ => ?_
    refine T.ite (fun _ => .ret trivial) fun _ => ?_
    refine T.bind (T.lget (Q := fun _ => True) (by omega) (by omega) fun _ _ => trivial) fun v _ => ?_
    repeat' (first | exact .ret trivial | refine T.ite (fun _ => ?_) fun _ => ?_)
   cases r with
   | error e => exact .ret trivial
   | ok b => exact ih (i + 1) (by omega)
 have h0 := l0 _ 0 (Nat.zero_add _)
 have h1 := l1 _ 0 (Nat.zero_add _)
 unfold p_core_Literal p_arr_Check
 refine T.bind (R := fun _ => True) (T.bind (arr_check_T ha 0) fun _ _ => .ret trivial) fun x _ => ?_
 refine T.ite (fun _ => .ret trivial) fun _ => T.ite (fun _ => .ret trivial) fun _ => T.ite (fun _ => T.ite (fun _ => .ret trivial) fun _ => ?_) fun _ => ?_
 ·refine T.bind h0 fun r _ => by cases r <;> exact .ret trivial
 refine T.bind h1 fun r _ => by cases r <;> exact .ret trivial
theorem enc_len (i : Int) : (Utf8.encode i).data.toList.length ≤ 4 := by
 have := encode_size_le i
 simpa using this
theorem digits_T : ∀ (d : Nat) (n : Int), d ≤ 30 → 0 ≤ n → n < 18446744073709551616 → n < 10 ^ (d + 1) → T (p_spell_digits n) fun s => s.length ≤ 4 * (d + 1)
 | 0, n, hd, h0, h1, h2 => by
  rw [p_spell_digits, if_neg (by simp; omega)]
  refine T.bind (T.ret (Q := fun s => s = ([] : Str)) rfl) fun s hs => ?_
  subst hs
  refine T.bind (T.scat (Q := fun s => s.length ≤ 4) ?_ ?_) fun s hs => .ret (by omega)
  ·have := enc_len (IntKind.i32.wrap (IntKind.u64.wrap (48 + (Int.tmod n 10)))); simp only [List.length_nil]; omega
  have := enc_len (IntKind.i32.wrap (IntKind.u64.wrap (48 + (Int.tmod n 10)))); simpa using this
 | d + 1, n, hd, h0, h1, h2 => by
  rw [p_spell_digits]
  have hw : IntKind.u64.wrap (Int.tdiv n 10) = n / 10 := by
   rw [Int.tdiv_eq_ediv_of_nonneg h0]
   show (n / 10) % 18446744073709551616 = n / 10
   omega
  refine T.bind (R := fun s : Str => s.length ≤ 4 * (d + 1)) ?_ fun s hs => ?_
  ·refine T.ite (fun _ => ?_) fun _ => .ret (by simp)
   rw [hw]
   refine T.bind (digits_T d (n / 10) (by omega) (by omega) (by omega) (by rw [Int.pow_succ] at h2; omega)) fun s hs => .ret hs
  have he := enc_len (IntKind.i32.wrap (IntKind.u64.wrap (48 + (Int.tmod n 10))))
  exact T.bind (T.scat (Q := fun s : Str => s.length ≤ 4 * (d + 1 + 1)) (by omega) (by rw [List.length_append]; omega)) fun s hs => .ret hs
theorem Number_T {n : Int} {m : Str} (hm : m.length ≤ 1000) : T (p_spell_Number n m) fun s => s.length ≤ 1100 := by
 have hd : ∀ x : Int, T (p_spell_digits (IntKind.u64.wrap x)) fun s => s.length ≤ 84 := by
  intro x
  have h : IntKind.u64.wrap x = x % 18446744073709551616 := rfl
  exact (digits_T 20 (IntKind.u64.wrap x) (by omega) (by omega) (by omega) (by rw [h]; omega)).imp fun s hs => by omega
 unfold p_spell_Number
 refine T.ite (fun _ => ?_) fun _ => T.bind (hd _) fun s hs => .ret (by omega)
 refine T.bind (hd _) fun s hs => T.bind (T.scat (Q := fun s : Str => s.length ≤ 1100) (by omega) (by rw [List.length_append]; omega)) fun s hs => .ret hs
theorem sign_T {s : Str} {g : Grammar} (h : s.length ≤ 100) : T (p_spell_sign s g) fun r => r.length ≤ 101 := by
 have hs : ∀ {Q : Str → Prop}, Q ([92] ++ s) → T (scat [92] s) Q := fun h' => T.scat (by simp; omega) h'
 unfold p_spell_sign
 refine T.bind (R := fun r => match r with | .error e => e.length ≤ 101 | .ok _ => True) ?_ fun r hr => by
  cases r with
  | error e => exact .ret hr
  | ok u => exact .ret (by omega)
 repeat' (first | exact .ret trivial | exact .ret (show List.length _ ≤ 101 by simp) | (refine T.bind (hs (Q := fun r => r.length ≤ 101) (by simp; omega)) fun r hr => .ret hr) | refine T.ite (fun _ => ?_) fun _ => ?_)
theorem put_full_T (n : Int) : T (p_runes_put_full [] n) fun r => r.length ≤ 4 := by
 unfold p_runes_put_full
 repeat' (first | (refine T.bind (T.lapp (Q := fun r => r.length ≤ 4) (by simp) (by simp)) fun r hr => .ret hr) | refine T.ite (fun _ => ?_) fun _ => ?_)
theorem runes_Write_T (n : Int) : T (p_runes_Write [n]) fun r => r.1.length ≤ 4 := by
 unfold p_runes_Write
 refine T.bind (R := fun r => match r with | .error e => e.1.length ≤ 4 | .ok b => b.length ≤ 4) ?_ fun r hr => by
  cases r with
  | error e => exact .ret hr
  | ok u => exact .ret hr
 rw [p_runes_Write_l0, if_pos (by simp)]
 refine T.bind (T.lget (Q := fun _ => True) (by omega) (by simp) fun _ _ => trivial) fun v _ => ?_
 refine T.bind (runes_Good_T v) fun x _ => T.ite (fun _ => .ret (by simp)) fun _ => ?_
 refine T.bind (R := fun l => l = []) ⟨[], rfl, rfl⟩ fun l hl => ?_
 subst hl
 refine T.bind (put_full_T v) fun b hb => ?_
 rw [p_runes_Write_l0, if_neg (by rw [w64_id] <;> simp)]
 exact .ret hb
theorem lens_le {l : List Str} {K : Nat} (h : ∀ s ∈ l, s.length ≤ K) : Lib.lens l ≤ K * l.length := by
 induction l with
 | nil => simp [Lib.lens]
 | cons a l ih =>
  have h1 := ih fun s hs => h s (List.mem_cons_of_mem _ hs)
  have h2 := h a List.mem_cons_self
  simp only [Lib.lens, List.map_cons, List.sum_cons, List.length_cons, Nat.mul_add] at h1 ⊢
  omega
theorem Join_T {l : List Str} {sep : Str} {K : Nat} (hl : l.length ≤ 100000) (hK : K ≤ 100000000) (hs : sep.length ≤ 1) (h : ∀ s ∈ l, s.length ≤ K) : T (go_Join l sep) fun r => r.length ≤ (K + 1) * l.length := by
 have hlen : (Lib.join l sep).length ≤ (K + 1) * l.length := by
  cases l with
  | nil => simp [Lib.join_nil]
  | cons x r =>
   rw [Lib.join_length]
   have := lens_le h
   have h3 : sep.length * r.length ≤ 1 * r.length := Nat.mul_le_mul_right _ hs
   simp only [List.length_cons, Nat.add_mul, Nat.mul_add] at this ⊢
   omega
 have hb : (K + 1) * l.length ≤ 100000001 * 100000 := Nat.mul_le_mul (by omega) hl
 refine ⟨Lib.join l sep, ?_, hlen⟩
 show joinS l sep = _
 unfold joinS
 rw [if_pos ⟨by omega, by omega⟩]
structure Short (g : Grammar) : Prop where
 outer : g.outer.length ≤ 1000
 power : g.power.length ≤ 1000
 open_ : g.open_.length ≤ 1000
 close : g.close.length ≤ 1000
 left : g.left.length ≤ 1000
 right : g.right.length ≤ 1000
 minus : g.minus.length ≤ 1000
 quote : g.quote.length ≤ 1000
theorem spell_Literal_T {a : Arr} {g : Grammar} (ha : Flat a) (hg : Short g) : T (p_spell_Literal a g) fun r => r.1.length ≤ 20000000 := by
 have hc := ha.len
 have l0 : ∀ d i l, i + d = a.cells.length → l.length = i → (∀ s ∈ l, s.length ≤ 1100) → T (p_spell_Literal_l0 (a, g, l, (i : Int))) fun r => r.length ≤ 9000 ∧ ∀ s ∈ r, s.length ≤ 1100 := by
  intro d
  induction d with
  | zero => intro i l hi hl hs; rw [p_spell_Literal_l0, if_neg (by simp; omega)]; exact .ret ⟨by omega, hs⟩
  | succ d ih =>
   intro i l hi hl hs
   rw [p_spell_Literal_l0, if_pos (by simp; omega), w64_succ (by omega)]
   refine T.bind (T.lget (Q := fun _ => True) (by omega) (by omega) fun _ _ => trivial) fun v _ => ?_
   refine T.bind (Number_T hg.minus) fun s hs' => T.bind (T.lapp (Q := fun r => r = l ++ [s]) (by simp; omega) rfl) fun r hr => ?_
   subst hr
   refine ih (i + 1) _ (by omega) (by simp [hl]) fun t ht => ?_
   rcases List.mem_append.1 ht with h | h
   ·exact hs t h
   rw [List.mem_singleton] at h; subst h; exact hs'
 have l1 : ∀ d i l, i + d = a.cells.length → l.length = i → (∀ s ∈ l, s.length ≤ 1100) → T (p_spell_Literal_l1 (a, g, l, (i : Int))) fun r => r.length ≤ 9000 ∧ ∀ s ∈ r, s.length ≤ 1100 := by
  intro d
  induction d with
  | zero => intro i l hi hl hs; rw [p_spell_Literal_l1, if_neg (by simp; omega)]; exact .ret ⟨by omega, hs⟩
  | succ d ih =>
   intro i l hi hl hs
   rw [p_spell_Literal_l1, if_pos (by simp; omega), w64_succ (by omega)]
   refine T.bind (T.lget (Q := fun _ => True) (by omega) (by omega) fun _ _ => trivial) fun v _ => ?_
   refine T.bind (runes_Write_T _) fun b hb => T.bind (sign_T (by simp only [bstr, List.length_map]; omega)) fun s hs' => T.bind (T.lapp (Q := fun r => r = l ++ [s]) (by simp; omega) rfl) fun r hr => ?_
   subst hr
   refine ih (i + 1) _ (by omega) (by simp [hl]) fun t ht => ?_
   rcases List.mem_append.1 ht with h | h
   ·exact hs t h
   rw [List.mem_singleton] at h; subst h; omega
 have h0 := l0 _ 0 [] (Nat.zero_add _) rfl (by simp)
 have h1 := l1 _ 0 [] (Nat.zero_add _) rfl (by simp)
 have hq := hg.quote
 have fin : ∀ {l : List Str} {sep : Str}, sep.length ≤ 1 → l.length ≤ 9000 ∧ (∀ s ∈ l, s.length ≤ 1100) → T (go_Join l sep) fun r => r.length ≤ 10000000 := by
  intro l sep hsep hl
  exact (Join_T (K := 1100) (by omega) (by omega) hsep hl.2).imp fun r hr => by omega
 unfold p_spell_Literal
 refine T.bind (core_Literal_T ha) fun x _ => T.ite (fun _ => .ret (by simp)) fun _ => T.ite (fun hlen => ?_) fun hlen => ?_
 ·refine T.bind (T.lget (Q := fun _ => True) (by omega) (by simpa using hlen) fun _ _ => trivial) fun v _ => T.ite (fun _ => ?_) fun _ => ?_
  ·refine T.bind h0 fun l hl => T.bind (fin (by simp) hl) fun r hr => .ret (by show r.length ≤ _; omega)
  ·refine T.bind h1 fun l hl => T.bind (fin (by simp) hl) fun r hr => ?_
   refine T.bind (T.scat (Q := fun s : Str => s.length ≤ 10001000) (by omega) (by rw [List.length_append]; omega)) fun s hs => ?_
   exact T.bind (T.scat (Q := fun s : Str => s.length ≤ 20000000) (by omega) (by rw [List.length_append]; omega)) fun s hs => .ret hs
 have hz : a.cells.length = 0 := by simpa using hlen
 have h2 : T (p_spell_Literal_l2 (a, g, [], 0)) fun r => r.length ≤ 9000 ∧ ∀ s ∈ r, s.length ≤ 1100 := by
  rw [p_spell_Literal_l2, if_neg (by rw [hz]; simp)]; exact .ret (by simp)
 refine T.bind h2 fun l hl => T.bind (fin (by simp) hl) fun r hr => ?_
 refine T.bind (T.scat (Q := fun s : Str => s.length ≤ 10001000) (by omega) (by rw [List.length_append]; omega)) fun s hs => ?_
 exact T.bind (T.scat (Q := fun s : Str => s.length ≤ 20000000) (by omega) (by rw [List.length_append]; omega)) fun s hs => .ret hs
end Go.AM.Seat

namespace Go.AM
mutual
def Node.sz : Node → Nat
 | .mk _ _ _ _ ks _ => Node.szL ks + 1
def Node.szL : List Node → Nat
 | [] => 0
 | n :: l => n.sz + Node.szL l
end
end Go.AM
namespace Go.AM.Seat
open Go Go.AM
set_option maxRecDepth 10000
theorem sz_eq (n : Node) : n.sz = Node.szL n.kids + 1 := by cases n; rfl
structure Wr (w : Spell_writer) (c : Nat) : Prop where
 short : Short w.g
 right : w.right.length ≤ 1000
 out : ∀ s ∈ w.out, s.length ≤ 20000000
 room : w.out.length + c ≤ 100000
def Pl (w : Spell_writer) (c : Nat) (o : List Str) : Prop := o.length ≤ w.out.length + c ∧ ∀ s ∈ o, s.length ≤ 20000000
def Po (w : Spell_writer) (c : Nat) (r : List Str × Int × Bool) : Prop := Pl w c r.1
theorem Pl.wr {w : Spell_writer} {c d e : Nat} {o : List Str} {g : Grammar} {r : Str} {n : Int} {b : Bool} (h : Wr w d) (p : Pl w c o) (hg : g = w.g) (hr : r.length ≤ 1000) (hd : c + e ≤ d) : Wr ⟨g, o, r, n, b⟩ e := by
 subst hg
 exact ⟨h.short, hr, p.2, by have := h.room; have := p.1; show o.length + e ≤ _; omega⟩
theorem Wr.wr {w : Spell_writer} {d e : Nat} {g : Grammar} {r : Str} {n : Int} {b : Bool} (h : Wr w d) (hg : g = w.g) (hr : r.length ≤ 1000) (hd : e ≤ d) : Wr ⟨g, w.out, r, n, b⟩ e := by
 subst hg
 exact ⟨h.short, hr, h.out, by have := h.room; show w.out.length + e ≤ _; omega⟩
theorem Pl.trans {w w' : Spell_writer} {c d e : Nat} {o : List Str} (h : Pl w c w'.out) (k : Pl w' d o) (he : c + d ≤ e) : Pl w e o := ⟨by have := h.1; have := k.1; omega, k.2⟩
theorem Pl.same {w : Spell_writer} {d c : Nat} (h : Wr w d) : Pl w c w.out := ⟨by omega, h.out⟩
theorem Pl.le {w : Spell_writer} {c d : Nat} {o : List Str} (h : Pl w c o) (hd : c ≤ d) : Pl w d o := ⟨by have := h.1; omega, h.2⟩
theorem words_T {s : Str} {w : Spell_writer} {d : Nat} (h : Wr w d) (hd : 2 ≤ d) (hs : s.length ≤ 20000000) : T (p_spell_writer_words [s] w) (Pl w 2) := by
 have hr := h.room
 unfold p_spell_writer_words
 refine T.bind (R := Pl w 2) ?_ fun o ho => .ret ho
 rw [p_spell_writer_words_l0, if_pos (by simp)]
 refine T.bind (T.lget (Q := fun x => x = s) (by omega) (by simp) fun v hv => by simpa using hv.symm) fun x hx => ?_
 subst hx
 refine T.bind (R := Pl w 1) ?_ fun o ho => ?_
 ·refine T.ite (fun _ => ?_) fun _ => .ret (Pl.same h)
  refine T.bind (T.lapp (Q := Pl w 1) (by simp; omega) ⟨by simp, fun t ht => ?_⟩) fun o ho => .ret ho
  rcases List.mem_append.1 ht with h' | h'
  ·exact h.out t h'
  rw [List.mem_singleton] at h'; subst h'; simp
 have h1 := ho.1
 refine T.bind (T.lapp (Q := Pl w 2) (by simp; omega) ⟨by simp; omega, fun t ht => ?_⟩) fun o' ho' => ?_
 ·rcases List.mem_append.1 ht with h' | h'
  ·exact ho.2 t h'
  ·rw [List.mem_singleton] at h'; subst h'; exact hs
 rw [p_spell_writer_words_l0, if_neg (by rw [w64_id] <;> simp)]
 exact .ret ho'
theorem glue_T {l : List Str} {w : Spell_writer} {d : Nat} (h : Wr w d) (hd : l.length ≤ d) (hs : ∀ s ∈ l, s.length ≤ 20000000) : T (p_spell_writer_glue l w) (Pl w l.length) := by
 have hr := h.room
 unfold p_spell_writer_glue
 refine T.bind (T.lapp (Q := Pl w l.length) (by omega) ⟨by simp, fun t ht => ?_⟩) fun o ho => .ret ho
 rcases List.mem_append.1 ht with h' | h'
 ·exact h.out t h'
 exact hs t h'
theorem fits_T (n : Node) (k : Int) (w : Spell_writer) : T (p_spell_writer_fits n k w) fun r => r.1 = true → (n.kids.length : Int) = k := by
 unfold p_spell_writer_fits
 refine T.ite (fun _ => .ret (by simp)) fun _ => T.ite (fun _ => .ret (by simp)) fun _ => .ret (by simp)
theorem one_kid {n : Node} (h : (n.kids.length : Int) = 1) : ∃ x, n.kids = [x] ∧ n.sz = x.sz + 1 := by
 obtain ⟨x, hx⟩ := List.length_eq_one_iff.1 (show n.kids.length = 1 by omega)
 exact ⟨x, hx, by rw [sz_eq, hx]; simp [Node.szL]⟩
theorem two_kids {n : Node} (h : (n.kids.length : Int) = 2) : ∃ x y, n.kids = [x, y] ∧ n.sz = x.sz + y.sz + 1 := by
 match hk : n.kids with
 | [x, y] => exact ⟨x, y, rfl, by rw [sz_eq, hk]; simp [Node.szL]⟩
 | [] => rw [hk] at h; simp at h
 | [x] => rw [hk] at h; simp at h
 | x :: y :: z :: r => rw [hk] at h; simp at h; omega
theorem three_kids {n : Node} (h : (n.kids.length : Int) = 3) : ∃ x y z, n.kids = [x, y, z] ∧ n.sz = x.sz + y.sz + z.sz + 1 := by
 match hk : n.kids with
 | [x, y, z] => exact ⟨x, y, z, rfl, by rw [sz_eq, hk]; simp [Node.szL]; omega⟩
 | [] => rw [hk] at h; simp at h
 | [x] => rw [hk] at h; simp at h
 | [x, y] => rw [hk] at h; simp at h
 | x :: y :: z :: u :: r => rw [hk] at h; simp at h; omega
structure Tt (n : Node) : Prop where
 expr : ∀ w, Wr w (8 * n.sz) → T (p_spell_writer_expr (n, w)) (Po w (8 * n.sz))
 call : ∀ w, Wr w (8 * n.sz) → T (p_spell_writer_call (n, w)) (Po w (8 * n.sz))
 operand : ∀ w, Wr w (8 * n.sz) → T (p_spell_writer_operand (n, w)) (Po w (8 * n.sz))
 applied : ∀ w, Wr w (8 * n.sz) → T (p_spell_writer_applied (n, w)) (Po w (8 * n.sz))
 function : ∀ w, Wr w (8 * n.sz - 4) → T (p_spell_writer_function (n, w)) (Po w (8 * n.sz - 4))
 base : ∀ w, Wr w (8 * n.sz) → T (p_spell_writer_base (n, w)) (Po w (8 * n.sz))
theorem GN.tt {n : Node} (h : GN n) : Tt n := by
 induction h with
 | @mk n h1 h2 h3 _ ih =>
  have hpos : 1 ≤ n.sz := by rw [sz_eq]; omega
  have loop : ∀ w w0 : Spell_writer, w.g = w0.g → w.right.length ≤ 1000 → Short w.g → ∀ d i o nd bd, i + d = n.kids.length → (∀ s ∈ o, s.length ≤ 20000000) → o.length + 8 * Node.szL (n.kids.drop i) ≤ 100000 →
    T (p_spell_writer_function_l0 (n, w, (i : Int), o, nd, bd)) fun r => r.1.length ≤ o.length + 8 * Node.szL (n.kids.drop i) ∧ ∀ s ∈ r.1, s.length ≤ 20000000 := by
   intro w w0 hg hr hsh d
   induction d with
   | zero =>
    intro i o nd bd hi hs hl
    rw [p_spell_writer_function_l0, if_neg (by simp; omega)]
    exact .ret ⟨by show o.length ≤ _; omega, hs⟩
   | succ d ihd =>
    intro i o nd bd hi hs hl
    rw [p_spell_writer_function_l0, if_pos (by simp; omega), w64_succ (by omega)]
    have hdrop : n.kids.drop i = n.kids[i]'(by omega) :: n.kids.drop (i + 1) := List.drop_eq_getElem_cons (by omega)
    rw [lget_some (by omega)]
    rw [hdrop, Node.szL] at hl ⊢
    have hk := ih _ (List.getElem_mem (show i < n.kids.length by omega))
    have hw : Wr ⟨w.g, o, w.right, nd, bd⟩ (8 * (n.kids[i]'(by omega)).sz - 4) := ⟨hsh, hr, hs, by show o.length + _ ≤ _; omega⟩
    refine T.bind (R := fun x => x = n.kids[i]'(by omega)) ⟨_, rfl, rfl⟩ fun x hx => ?_
    subst hx
    refine T.bind (hk.function _ hw) fun r hr' => ?_
    obtain ⟨o', n', b'⟩ := r
    have h4 : o'.length ≤ o.length + (8 * (n.kids[i]'(by omega)).sz - 4) := hr'.1
    refine (ihd (i + 1) o' n' b' (by omega) hr'.2 (by omega)).imp fun r hr => ⟨by omega, hr.2⟩
  have hlam : n.kids.length = 1 → ∀ w, Wr w (8 * n.sz - 4) → T (p_spell_writer_lambda (n, w)) (Po w (8 * n.sz - 4)) := by
   intro hlen w hw
   obtain ⟨x, hx, hsz⟩ := one_kid (n := n) (by omega)
   have hk := ih x (by rw [hx]; simp)
   have e0 : lget n.kids 0 = some x := by rw [hx]; rfl
   have hsh := hw.short
   have core : ∀ r : Str, r.length ≤ 1000 → T (p_spell_writer_words [w.g.open_] (Spell_writer.mk w.g w.out r w.nodes w.bad) >>= fun out =>
     lget n.kids 0 >>= fun y =>
     p_spell_writer_expr (y, (Spell_writer.mk w.g out r w.nodes w.bad)) >>= fun (out1, nodes, bad) =>
     p_spell_writer_words [w.g.close] (Spell_writer.mk w.g out1 r nodes bad) >>= fun out2 =>
     some (out2, nodes, bad)) (Po w (8 * n.sz - 4)) := by
    intro r hr
    refine T.bind (words_T (hw.wr (e := 2) rfl hr (by omega)) (Nat.le_refl _) (by have := hsh.open_; omega)) fun o ho => ?_
    have ho' : Pl w 2 o := ho
    rw [e0]
    refine T.bind (R := fun y => y = x) ⟨_, rfl, rfl⟩ fun y hy => ?_
    subst hy
    refine T.bind (hk.expr _ (ho'.wr hw rfl hr (by omega))) fun p hp => ?_
    obtain ⟨o1, n1, b1⟩ := p
    have h1 : Pl w (2 + 8 * y.sz) o1 := ho'.trans (w' := ⟨w.g, o, r, w.nodes, w.bad⟩) hp (Nat.le_refl _)
    refine T.bind (words_T (h1.wr (e := 2) hw rfl hr (by omega)) (Nat.le_refl _) (by have := hsh.close; omega)) fun o2 ho2 => .ret ?_
    exact h1.trans (w' := ⟨w.g, o1, r, n1, b1⟩) ho2 (by omega)
   rw [p_spell_writer_lambda]
   refine T.ite (fun _ => ?_) fun _ => core _ hsh.right
   refine T.bind (R := fun r => r.length ≤ 1000) (T.ite (fun _ => .ret hsh.left) fun _ => .ret hsh.right) fun r hr => core r hr
  have hfun : ∀ w, Wr w (8 * n.sz - 4) → T (p_spell_writer_function (n, w)) (Po w (8 * n.sz - 4)) := by
   intro w hw
   have hsh := hw.short
   rw [p_spell_writer_function]
   refine T.bind (fits_T _ _ _) fun r hr => ?_
   obtain ⟨x, nodes, bad⟩ := r
   refine T.ite (fun _ => .ret (Pl.same hw)) fun hx => ?_
   have hlen := hr (by simpa using hx)
   refine T.ite (fun _ => ?_) fun hk21 => ?_
   ·refine T.bind (words_T (hw.wr (e := 2) rfl hw.right (by omega)) (Nat.le_refl _) (by omega)) fun o ho => .ret (Pl.le (show Pl w 2 o from ho) (by omega))
   refine T.bind (R := fun b => b = true → n.kids.length = 1) ?_ fun b hb => ?_
   ·refine T.ite (fun h => .ret fun _ => ?_) fun h => .ret fun h' => ?_
    ·have : n.kind = 22 := by simpa using h
     rw [this] at hlen
     exact Int.ofNat.inj hlen
    ·have : n.kind = 23 := by simpa using h'
     rw [this] at hlen
     exact Int.ofNat.inj hlen
   refine T.ite (fun h => ?_) fun _ => ?_
   ·refine T.bind (hlam (hb h) _ (hw.wr rfl hw.right (Nat.le_refl _))) fun r hr => ?_
    obtain ⟨o, n1, b1⟩ := r
    exact .ret hr
   refine T.ite (fun h => ?_) fun _ => ?_
   ·have : n.kind = 24 := by simpa using h
    rw [this] at hlen
    obtain ⟨x, hx, hsz⟩ := one_kid (n := n) hlen
    have hk := ih x (by rw [hx]; simp)
    rw [show lget n.kids 0 = some x by rw [hx]; rfl]
    refine T.bind (R := fun y => y = x) ⟨_, rfl, rfl⟩ fun y hy => ?_
    subst hy
    refine T.bind (hk.function _ (hw.wr rfl hw.right (by omega))) fun p hp => ?_
    obtain ⟨o1, n1, b1⟩ := p
    have h1 : Pl w (8 * y.sz - 4) o1 := hp
    refine T.bind (glue_T (h1.wr (e := 1) hw rfl hw.right (by omega)) (by simp) (by intro s hs; simp at hs; subst hs; omega)) fun o2 ho2 => .ret ?_
    exact h1.trans (w' := ⟨w.g, o1, w.right, n1, b1⟩) ho2 (by simp; omega)
   refine T.ite (fun h => ?_) fun _ => ?_
   ·have : n.kind = 26 := by simpa using h
    rw [this] at hlen
    obtain ⟨x, hx, hsz⟩ := one_kid (n := n) hlen
    have hk := ih x (by rw [hx]; simp)
    rw [show lget n.kids 0 = some x by rw [hx]; rfl]
    have both : ∀ bd : Bool, T ((some x : Option Node) >>= fun y1 =>
        p_spell_writer_function (y1, (Spell_writer.mk w.g w.out w.right nodes bd)) >>= fun (out4, nodes3, bad3) =>
        p_spell_Number n.op_ w.g.minus >>= fun x2 =>
        p_spell_writer_glue [w.g.power, x2] (Spell_writer.mk w.g out4 w.right nodes3 bad3) >>= fun out5 =>
        some (out5, nodes3, bad3)) (Po w (8 * n.sz - 4)) := by
     intro bd
     refine T.bind (R := fun y => y = x) ⟨_, rfl, rfl⟩ fun y hy => ?_
     subst hy
     refine T.bind (hk.function _ (hw.wr rfl hw.right (by omega))) fun p hp => ?_
     obtain ⟨o1, n1, b1⟩ := p
     have h1 : Pl w (8 * y.sz - 4) o1 := hp
     refine T.bind (Number_T hsh.minus) fun m hm => ?_
     refine T.bind (glue_T (h1.wr (e := 2) hw rfl hw.right (by omega)) (by simp) (by
      intro s hs
      have := hsh.power
      rcases List.mem_cons.1 hs with rfl | hs
      ·omega
      rw [List.mem_singleton] at hs; subst hs; omega)) fun o2 ho2 => .ret ?_
     exact h1.trans (w' := ⟨w.g, o1, w.right, n1, b1⟩) ho2 (by simp; omega)
    exact T.ite (fun _ => both _) fun _ => both _
   refine T.ite (fun h => ?_) fun _ => ?_
   ·have : n.kind = 25 := by simpa using h
    rw [this] at hlen
    obtain ⟨x, hx, hsz⟩ := one_kid (n := n) hlen
    have hk := ih x (by rw [hx]; simp)
    refine T.bind (words_T (hw.wr (e := 2) rfl hw.right (by omega)) (Nat.le_refl _) (by have := hsh.outer; omega)) fun o ho => ?_
    have ho' : Pl w 2 o := ho
    rw [show lget n.kids 0 = some x by rw [hx]; rfl]
    refine T.bind (R := fun y => y = x) ⟨_, rfl, rfl⟩ fun y hy => ?_
    subst hy
    refine T.bind (hk.base _ (ho'.wr hw rfl hw.right (by omega))) fun p hp => ?_
    obtain ⟨o1, n1, b1⟩ := p
    exact .ret (ho'.trans (w' := ⟨w.g, o, w.right, nodes, bad⟩) hp (by omega))
   refine T.bind (R := fun _ => True) (T.ite (fun _ => .ret trivial) fun _ => .ret trivial) fun b _ => ?_
   refine T.ite (fun _ => ?_) fun _ => .ret (Pl.same hw)
   refine T.bind (words_T (hw.wr (e := 2) rfl hw.right (by omega)) (Nat.le_refl _) (by simp)) fun o ho => ?_
   have ho' : Pl w 2 o := ho
   have hro := hw.room
   have hsz := sz_eq n
   have hol := ho'.1
   refine T.bind (R := Po w (2 + 8 * Node.szL n.kids)) ?_ fun r hr => ?_
   ·have := loop w w rfl hw.right hsh _ 0 o nodes bad (Nat.zero_add _) ho'.2 (by rw [List.drop_zero]; omega)
    rw [List.drop_zero] at this
    exact this.imp fun r hr => ⟨by omega, hr.2⟩
   obtain ⟨o1, n1, b1⟩ := r
   have h1 : Pl w (2 + 8 * Node.szL n.kids) o1 := hr
   refine T.bind (words_T (h1.wr (e := 2) hw rfl hw.right (by omega)) (Nat.le_refl _) (by simp)) fun o2 ho2 => .ret ?_
   exact h1.trans (w' := ⟨w.g, o1, w.right, n1, b1⟩) ho2 (by omega)
  have paren : ∀ (c : Nat) (m : Spell_writer → Option (List Str × Int × Bool)) (w : Spell_writer), Wr w (c + 4) → (∀ w', w'.g = w.g → Wr w' c → T (m w') (Po w' c)) →
    T (p_spell_writer_words [[40]] w >>= fun out => m (Spell_writer.mk w.g out w.right w.nodes w.bad) >>= fun (out1, nodes, bad) => p_spell_writer_words [[41]] (Spell_writer.mk w.g out1 w.right nodes bad) >>= fun out2 => some (out2, nodes, bad)) (Po w (c + 4)) := by
   intro c m w hw hm
   refine T.bind (words_T (hw.wr (e := 2) rfl hw.right (by omega)) (Nat.le_refl _) (by simp)) fun o ho => ?_
   have ho' : Pl w 2 o := ho
   refine T.bind (hm _ rfl (ho'.wr hw rfl hw.right (by omega))) fun p hp => ?_
   obtain ⟨o1, n1, b1⟩ := p
   have h1 : Pl w (2 + c) o1 := ho'.trans (w' := ⟨w.g, o, w.right, w.nodes, w.bad⟩) hp (Nat.le_refl _)
   refine T.bind (words_T (h1.wr (e := 2) hw rfl hw.right (by omega)) (Nat.le_refl _) (by simp)) fun o2 ho2 => .ret ?_
   exact h1.trans (w' := ⟨w.g, o1, w.right, n1, b1⟩) ho2 (by omega)
  have hsub : 8 * n.sz - 4 + 4 = 8 * n.sz := by omega
  have happ : ∀ w, Wr w (8 * n.sz) → T (p_spell_writer_applied (n, w)) (Po w (8 * n.sz)) := by
   intro w hw
   rw [p_spell_writer_applied]
   refine T.ite (fun _ => ?_) fun _ => ?_
   ·have := paren (8 * n.sz - 4) (fun w' => p_spell_writer_function (n, w')) w (by rw [hsub]; exact hw) fun w' _ hw' => hfun w' hw'
    rw [hsub] at this; exact this
   refine T.bind (hfun w ⟨hw.short, hw.right, hw.out, by have := hw.room; omega⟩) fun p hp => ?_
   obtain ⟨o1, n1, b1⟩ := p
   exact .ret (Pl.le (show Pl w (8 * n.sz - 4) o1 from hp) (by omega))
  have hbase : ∀ w, Wr w (8 * n.sz) → T (p_spell_writer_base (n, w)) (Po w (8 * n.sz)) := by
   intro w hw
   rw [p_spell_writer_base]
   refine T.bind (R := fun _ => True) ?_ fun b _ => ?_
   ·repeat' (first | exact .ret trivial | refine T.ite (fun _ => ?_) fun _ => ?_)
   refine T.ite (fun _ => ?_) fun _ => ?_
   ·refine T.bind (hfun w ⟨hw.short, hw.right, hw.out, by have := hw.room; omega⟩) fun p hp => ?_
    obtain ⟨o1, n1, b1⟩ := p
    exact .ret (Pl.le (show Pl w (8 * n.sz - 4) o1 from hp) (by omega))
   have := paren (8 * n.sz - 4) (fun w' => p_spell_writer_function (n, w')) w (by rw [hsub]; exact hw) fun w' _ hw' => hfun w' hw'
   rw [hsub] at this; exact this
  have hcall : ∀ w, Wr w (8 * n.sz) → T (p_spell_writer_call (n, w)) (Po w (8 * n.sz)) := by
   intro w hw
   have hsh := hw.short
   have app : T (p_spell_writer_applied (n, w) >>= fun (out3, nodes2, bad2) => some (out3, nodes2, bad2)) (Po w (8 * n.sz)) := by
    refine T.bind (happ w hw) fun p hp => ?_
    obtain ⟨o1, n1, b1⟩ := p
    exact .ret hp
   rw [p_spell_writer_call]
   refine T.ite (fun _ => T.ite (fun _ => ?_) fun _ => app) fun _ => app
   refine T.bind (fits_T _ _ _) fun r hr => ?_
   obtain ⟨x, nodes, bad⟩ := r
   refine T.bind (R := Po w (8 * n.sz)) ?_ fun p hp => ?_
   ·refine T.ite (fun hx => ?_) fun _ => .ret (Pl.same hw)
    obtain ⟨x, hx, hsz⟩ := one_kid (n := n) (hr hx)
    have hk := ih x (by rw [hx]; simp)
    refine T.bind (Number_T hsh.minus) fun m hm => ?_
    refine T.bind (words_T (hw.wr (e := 2) rfl hw.right (by omega)) (Nat.le_refl _) (by omega)) fun o ho => ?_
    have ho' : Pl w 2 o := ho
    rw [show lget n.kids 0 = some x by rw [hx]; rfl]
    refine T.bind (R := fun y => y = x) ⟨_, rfl, rfl⟩ fun y hy => ?_
    subst hy
    refine T.bind (hk.function _ (ho'.wr hw rfl hw.right (by omega))) fun p hp => ?_
    obtain ⟨o1, n1, b1⟩ := p
    have h1 : Pl w (2 + (8 * y.sz - 4)) o1 := ho'.trans (w' := ⟨w.g, o, w.right, nodes, bad⟩) hp (Nat.le_refl _)
    refine T.bind (glue_T (h1.wr (e := 1) hw rfl hw.right (by omega)) (by simp) (by intro s hs; simp at hs; subst hs; simp)) fun o2 ho2 => .ret ?_
    exact h1.trans (w' := ⟨w.g, o1, w.right, n1, b1⟩) ho2 (by simp; omega)
   obtain ⟨o1, n1, b1⟩ := p
   exact .ret hp
  have hexpr0 : n.kind = 5 ∨ n.kind = 6 → ∀ w, Wr w (8 * n.sz - 8) → T (p_spell_writer_expr (n, w)) (Po w (8 * n.sz - 8)) := by
   intro hb w hw
   rw [p_spell_writer_expr]
   refine T.ite (fun _ => ?_) fun h5 => T.ite (fun _ => ?_) fun h6 => ?_
   ·refine T.bind (fits_T _ _ _) fun r hr => ?_
    obtain ⟨b, nodes, bad⟩ := r
    refine T.ite (fun hx => ?_) fun _ => .ret (Pl.same hw)
    obtain ⟨x, y, hx, hsz⟩ := two_kids (n := n) (hr hx)
    have hkx := ih x (by rw [hx]; simp)
    have hky := ih y (by rw [hx]; simp)
    rw [show lget n.kids 0 = some x by rw [hx]; rfl, show lget n.kids 1 = some y by rw [hx]; rfl]
    refine T.bind (R := fun z => z = x) ⟨_, rfl, rfl⟩ fun z hz => ?_
    subst hz
    refine T.bind (hkx.call _ (hw.wr rfl hw.right (by omega))) fun p hp => ?_
    obtain ⟨o1, n1, b1⟩ := p
    have h1 : Pl w (8 * z.sz) o1 := hp
    refine T.bind (R := fun z => z = y) ⟨_, rfl, rfl⟩ fun u hu => ?_
    subst hu
    refine T.bind (hky.expr _ (h1.wr hw rfl hw.right (by omega))) fun p hp => ?_
    obtain ⟨o2, n2, b2⟩ := p
    exact .ret (h1.trans (w' := ⟨w.g, o1, w.right, n1, b1⟩) hp (by omega))
   ·refine T.bind (fits_T _ _ _) fun r hr => ?_
    obtain ⟨b, nodes, bad⟩ := r
    refine T.ite (fun hx => ?_) fun _ => .ret (Pl.same hw)
    obtain ⟨x, y, z, hx, hsz⟩ := three_kids (n := n) (hr hx)
    have hkx := ih x (by rw [hx]; simp)
    have hky := ih y (by rw [hx]; simp)
    have hkz := ih z (by rw [hx]; simp)
    rw [show lget n.kids 0 = some x by rw [hx]; rfl, show lget n.kids 1 = some y by rw [hx]; rfl, show lget n.kids 2 = some z by rw [hx]; rfl]
    refine T.bind (R := fun u => u = y) ⟨_, rfl, rfl⟩ fun u hu => ?_
    subst hu
    refine T.bind (hky.operand _ (hw.wr rfl hw.right (by omega))) fun p hp => ?_
    obtain ⟨o1, n1, b1⟩ := p
    have h1 : Pl w (8 * u.sz) o1 := hp
    refine T.bind (R := fun u => u = x) ⟨_, rfl, rfl⟩ fun v hv => ?_
    subst hv
    refine T.bind (hkx.applied _ (h1.wr hw rfl hw.right (by omega))) fun p hp => ?_
    obtain ⟨o2, n2, b2⟩ := p
    have h2 : Pl w (8 * u.sz + 8 * v.sz) o2 := h1.trans (w' := ⟨w.g, o1, w.right, n1, b1⟩) hp (Nat.le_refl _)
    refine T.bind (R := fun u => u = z) ⟨_, rfl, rfl⟩ fun q hq => ?_
    subst hq
    refine T.bind (hkz.expr _ (h2.wr hw rfl hw.right (by omega))) fun p hp => ?_
    obtain ⟨o3, n3, b3⟩ := p
    exact .ret (h2.trans (w' := ⟨w.g, o2, w.right, n2, b2⟩) hp (by omega))
   exfalso
   simp at h5 h6
   rcases hb with h | h
   ·exact h5 h
   exact h6 h
  have hop : ∀ w, Wr w (8 * n.sz) → T (p_spell_writer_operand (n, w)) (Po w (8 * n.sz)) := by
   intro w hw
   have hsh := hw.short
   have leaf : ∀ (k : Int) (w' : Spell_writer) (s : Str), w'.g = w.g → w'.out = w.out → w'.right = w.right → s.length ≤ 20000000 →
     T (p_spell_writer_fits n k w' >>= fun (x, nodes, bad) => p_spell_writer_words [s] (Spell_writer.mk w.g w.out w.right nodes bad) >>= fun out => some (out, nodes, bad)) (Po w (8 * n.sz)) := by
    intro k w' s _ _ _ hs
    refine T.bind (fits_T _ _ _) fun r hr => ?_
    obtain ⟨x, nodes, bad⟩ := r
    refine T.bind (words_T (hw.wr (e := 2) rfl hw.right (by omega)) (Nat.le_refl _) hs) fun o ho => .ret (Pl.le (show Pl w 2 o from ho) (by omega))
   rw [p_spell_writer_operand]
   refine T.ite (fun _ => ?_) fun _ => T.ite (fun _ => ?_) fun _ => T.ite (fun _ => ?_) fun _ => T.ite (fun _ => ?_) fun _ => T.ite (fun _ => ?_) fun _ => ?_
   ·refine T.bind (spell_Literal_T h1 hsh) fun p hp => ?_
    obtain ⟨s, e⟩ := p
    exact T.ite (fun _ => leaf 0 ⟨w.g, w.out, w.right, w.nodes, true⟩ s rfl rfl rfl hp) fun _ => leaf 0 ⟨w.g, w.out, w.right, w.nodes, (e != 0)⟩ s rfl rfl rfl hp
   ·exact leaf 0 w _ rfl rfl rfl (by omega)
   ·exact leaf 0 w _ rfl rfl rfl (by have := hsh.left; omega)
   ·exact leaf 0 w _ rfl rfl rfl (by have := hw.right; omega)
   ·refine T.bind (fits_T _ _ _) fun r hr => ?_
    obtain ⟨b, nodes, bad⟩ := r
    refine T.ite (fun hx => ?_) fun _ => .ret (Pl.same hw)
    obtain ⟨x, y, hx, hsz⟩ := two_kids (n := n) (hr hx)
    have hkx := ih x (by rw [hx]; simp)
    have hky := ih y (by rw [hx]; simp)
    rw [show lget n.kids 0 = some x by rw [hx]; rfl, show lget n.kids 1 = some y by rw [hx]; rfl]
    refine T.bind (R := fun z => z = x) ⟨_, rfl, rfl⟩ fun z hz => ?_
    subst hz
    refine T.bind (hkx.operand _ (hw.wr rfl hw.right (by omega))) fun p hp => ?_
    obtain ⟨o1, n1, b1⟩ := p
    have h1 : Pl w (8 * z.sz) o1 := hp
    refine T.bind (words_T (h1.wr (e := 2) hw rfl hw.right (by omega)) (Nat.le_refl _) (by simp)) fun o2 ho2 => ?_
    have h2 : Pl w (8 * z.sz + 2) o2 := h1.trans (w' := ⟨w.g, o1, w.right, n1, b1⟩) ho2 (Nat.le_refl _)
    refine T.bind (R := fun z => z = y) ⟨_, rfl, rfl⟩ fun u hu => ?_
    subst hu
    refine T.bind (hky.expr _ (h2.wr hw rfl hw.right (by omega))) fun p hp => ?_
    obtain ⟨o3, n3, b3⟩ := p
    have h3 : Pl w (8 * z.sz + 2 + 8 * u.sz) o3 := h2.trans (w' := ⟨w.g, o2, w.right, n1, b1⟩) hp (Nat.le_refl _)
    refine T.bind (words_T (h3.wr (e := 2) hw rfl hw.right (by omega)) (Nat.le_refl _) (by simp)) fun o4 ho4 => .ret ?_
    exact h3.trans (w' := ⟨w.g, o3, w.right, n3, b3⟩) ho4 (by omega)
   refine T.bind (R := fun b => b = true → n.kind = 5 ∨ n.kind = 6) (T.ite (fun h => .ret fun _ => .inl (by simpa using h)) fun h => .ret fun h' => .inr (by simpa using h')) fun b hb => ?_
   refine T.ite (fun h => ?_) fun _ => .ret (Pl.same hw)
   have := paren (8 * n.sz - 8) (fun w' => p_spell_writer_expr (n, w')) w ⟨hw.short, hw.right, hw.out, by have := hw.room; omega⟩ fun w' _ hw' => hexpr0 (hb h) w' hw'
   exact this.imp fun r hr => Pl.le hr (by omega)
  have hexpr : ∀ w, Wr w (8 * n.sz) → T (p_spell_writer_expr (n, w)) (Po w (8 * n.sz)) := by
   intro w hw
   by_cases hb : n.kind = 5 ∨ n.kind = 6
   ·exact (hexpr0 hb w ⟨hw.short, hw.right, hw.out, by have := hw.room; omega⟩).imp fun r hr => Pl.le hr (by omega)
   rw [p_spell_writer_expr]
   refine T.ite (fun h => absurd (.inl (by simpa using h)) hb) fun _ => T.ite (fun h => absurd (.inr (by simpa using h)) hb) fun _ => ?_
   refine T.bind (hop w hw) fun p hp => ?_
   obtain ⟨o1, n1, b1⟩ := p
   exact .ret hp
  exact ⟨hexpr, hcall, hop, happ, hfun, hbase⟩
theorem Write_T {g : Grammar} {n : Node} (hg : Short g) (hn : GN n) (hsz : n.sz ≤ 5000) : T (p_spell_Write g n) fun r => r.1.length ≤ 20000001 * 40000 := by
 unfold p_spell_Write
 have hw : Wr ⟨g, [], g.right, 0, false⟩ (8 * n.sz) := ⟨hg, hg.right, by simp, by simp; omega⟩
 refine T.bind (hn.tt.expr _ hw) fun p hp => ?_
 obtain ⟨o, nd, bd⟩ := p
 refine T.ite (fun _ => .ret (by simp)) fun _ => ?_
 have h1 : o.length ≤ 0 + 8 * n.sz := hp.1
 exact T.bind (Join_T (K := 20000000) (by omega) (by omega) (by simp) hp.2) fun r hr => .ret (show List.length r ≤ _ by omega)
end Go.AM.Seat

namespace Go.AM.Seat
open Go Go.AM
set_option maxRecDepth 10000
theorem T.getD {α : Type} {x : Option α} {Q : α → Prop} (h : T x Q) (d : α) : x = some (x.getD d) ∧ Q (x.getD d) := by
 obtain ⟨v, rfl, hv⟩ := h; exact ⟨rfl, hv⟩
structure WordsOK (l : List Token) : Prop where
 len : l.length ≤ 2048
 lit : ∀ t ∈ l, Flat t.lit
 text : ∀ t ∈ l, t.text.length ≤ 9000
def kd (l : List Token) (i : Nat) : Int := match l[i]? with
 | some t => t.kind
 | none => 0
theorem kd_lt {l : List Token} {i : Nat} (h : i < l.length) : kd l i = l[i].kind := by unfold kd; rw [getD_of h]
theorem tok_lget {l : List Token} {i : Nat} (h : i < l.length) : lget l (i : Int) = some l[i] := lget_some h
def isV (l : List Token) (i : Nat) (k : Int) (t : Str) : Bool := match l[i]? with
 | some y => (y.kind == k) && (y.text == t) && !(t == [])
 | none => false
theorem is_eq (i : Nat) (k : Int) (t : Str) (p : Grammar_parser) : p_grammar_parser_is (i : Int) k t p = some (isV p.l i k t) := by
 unfold p_grammar_parser_is isV
 by_cases h : i < p.l.length
 ·rw [if_pos (by simp; omega), tok_lget h, getD_of h]
  simp only [Option.bind_eq_bind, Option.bind_some]
  cases h1 : (p.l[i].kind == k) <;> cases h2 : (p.l[i].text == t) <;> simp
 rw [if_neg (by simp; omega), List.getElem?_eq_none (by omega)]
theorem isV_lt {l : List Token} {i : Nat} {k : Int} {t : Str} (h : isV l i k t = true) : i < l.length ∧ kd l i = k := by
 unfold isV at h
 split at h
 ·rename_i y hy
  have hi := (List.getElem?_eq_some_iff.1 hy).1
  refine ⟨hi, ?_⟩
  unfold kd
  rw [hy]
  simp only [Bool.and_eq_true, beq_iff_eq] at h
  exact h.1.1
 simp at h
theorem Contains_T {ls : List Str} {t : Str} (hl : ls.length ≤ 1000) : T (p_slices_Contains_string ls t) fun _ => True := by
 have loop : ∀ d i, i + d = ls.length → T (p_slices_Index_string_l0 (ls, t, (i : Int))) fun _ => True := by
  intro d
  induction d with
  | zero => intro i hi; rw [p_slices_Index_string_l0, if_neg (by simp; omega)]; exact .ret trivial
  | succ d ih =>
   intro i hi
   rw [p_slices_Index_string_l0, if_pos (by simp; omega), w64_succ (by omega)]
   refine T.bind (T.lget (Q := fun _ => True) (by omega) (by omega) fun _ _ => trivial) fun v _ => ?_
   exact T.ite (fun _ => .ret trivial) fun _ => ih (i + 1) (by omega)
 unfold p_slices_Contains_string p_slices_Index_string
 refine T.bind (R := fun _ => True) (T.bind (loop _ 0 (Nat.zero_add _)) fun r _ => by cases r <;> exact .ret trivial) fun _ _ => .ret trivial
def sgV (l : List Token) (i : Nat) (ls : List Str) : Bool := match l[i]? with
 | some y => (y.kind == 4) && (p_slices_Contains_string ls y.text).getD false
 | none => false
theorem sign_eq (i : Nat) {ls : List Str} (hl : ls.length ≤ 1000) (p : Grammar_parser) : p_grammar_parser_sign (i : Int) ls p = some (sgV p.l i ls) := by
 unfold p_grammar_parser_sign sgV
 by_cases h : i < p.l.length
 ·rw [if_pos (by simp; omega), tok_lget h, getD_of h]
  simp only [Option.bind_eq_bind, Option.bind_some]
  have := ((Contains_T (t := p.l[i].text) hl).getD false).1
  cases h1 : (p.l[i].kind == 4)
  ·simp
  simp only [if_true, Bool.true_and]
  rw [this]; rfl
 rw [if_neg (by simp; omega), List.getElem?_eq_none (by omega)]
theorem sgV_lt {l : List Token} {i : Nat} {ls : List Str} (h : sgV l i ls = true) : i < l.length ∧ kd l i = 4 := by
 unfold sgV at h
 split at h
 ·rename_i y hy
  have hi := (List.getElem?_eq_some_iff.1 hy).1
  refine ⟨hi, ?_⟩
  unfold kd
  rw [hy]
  simp only [Bool.and_eq_true, beq_iff_eq] at h
  exact h.1
 simp at h
theorem times_T (a : Arr) : T (p_grammar_times a) fun _ => True := by
 unfold p_grammar_times
 refine T.ite (fun _ => .ret trivial) fun _ => T.ite (fun _ => .ret trivial) fun h => ?_
 have hl : a.cells.length = 1 := by simp at h; omega
 have hg : T (lget a.cells 0) fun _ => True := T.lget (by omega) (by omega) fun _ _ => trivial
 repeat' (first | exact .ret trivial | refine T.ite (fun _ => ?_) fun _ => ?_ | refine T.bind hg fun _ _ => ?_)
def pwV (g : Grammar) (l : List Token) (i : Nat) : Int × Bool :=
 if isV l i 4 g.power then (match l[i + 1]? with
  | some y => if y.kind = 1 then (p_grammar_times y.lit).getD (0, false) else (0, false)
  | none => (0, false)) else (0, false)
theorem power_eq {i : Nat} (p : Grammar_parser) (hi : i < 9223372036854775000) : p_grammar_parser_power (i : Int) p = some (pwV p.g p.l i) := by
 unfold p_grammar_parser_power pwV
 rw [is_eq]
 simp only [Option.bind_eq_bind, Option.bind_some]
 cases h : isV p.l i 4 p.g.power
 ·simp
 simp only [Bool.not_true, Bool.false_eq_true, if_false, if_true]
 rw [w64_succ hi]
 by_cases h1 : i + 1 < p.l.length
 ·rw [if_neg (by simp; omega), tok_lget h1, getD_of h1]
  simp only [Option.bind_some]
  by_cases hk : p.l[i + 1].kind = 1
  ·have := ((times_T p.l[i + 1].lit).getD (0, false)).1
   simp only [hk, bne_self_eq_false, Bool.false_eq_true, if_false, if_true]
   rw [this]; rfl
  simp [hk]
 rw [if_pos (by simp; omega), List.getElem?_eq_none (by omega)]
theorem pwV_lt {g : Grammar} {l : List Token} {i : Nat} (h : (pwV g l i).2 = true) : i + 1 < l.length ∧ kd l i = 4 ∧ kd l (i + 1) = 1 := by
 unfold pwV at h
 split at h
 ·rename_i hi
  have h1 := isV_lt hi
  split at h
  ·rename_i y hy
   have h2 := (List.getElem?_eq_some_iff.1 hy).1
   refine ⟨h2, h1.2, ?_⟩
   unfold kd
   rw [hy]
   split at h
   ·assumption
   simp at h
  simp at h
 simp at h
theorem fail_eq (e : Int) {i : Int} (hi : 0 ≤ i) (p : Grammar_parser) : ∃ f, p_grammar_parser_fail e i p = some (.error f) ∧ f.err = e := by
 unfold p_grammar_parser_fail
 by_cases h : i < p.l.length
 ·rw [if_pos (by simpa using h)]
  obtain ⟨t, ht, _⟩ := T.lget (Q := fun _ => True) hi h fun _ _ => trivial
  rw [ht]
  exact ⟨_, rfl, rfl⟩
 rw [if_neg (by simpa using h)]
 exact ⟨_, rfl, rfl⟩
theorem here_T {p : Grammar_parser} (hi : 0 ≤ p.i) : T (p_grammar_parser_here p) fun _ => True := by
 unfold p_grammar_parser_here
 refine T.ite (fun h => ?_) fun _ => .ret trivial
 exact T.bind (T.lget (Q := fun _ => True) hi (by simpa using h) fun _ _ => trivial) fun _ _ => .ret trivial
theorem down_eq (p : Grammar_parser) (hi : 0 ≤ p.i) (h0 : 0 ≤ p.deep) (h1 : p.deep ≤ 24) :
  (p.deep < 24 ∧ p_grammar_parser_down p = some (.ok (p.deep + 1))) ∨ (p.deep = 24 ∧ ∃ f, p_grammar_parser_down p = some (.error (f, 25)) ∧ f.err = 15) := by
 unfold p_grammar_parser_down
 rw [w64_id (by omega) (by omega)]
 by_cases h : p.deep < 24
 ·rw [if_neg (by simp; omega)]; exact .inl ⟨h, rfl⟩
 have e : p.deep = 24 := by omega
 rw [if_pos (by simp; omega)]
 obtain ⟨f, hf, he⟩ := fail_eq 15 hi ⟨p.g, p.l, p.i, p.end_, p.deep + 1, p.in_⟩
 refine .inr ⟨e, f, ?_, he⟩
 rw [hf, e]; rfl
theorem take_eq {i : Nat} (k : Int) (t : Str) (p : Grammar_parser) (hp : p.i = i) (hi : i < 9223372036854775000) : (isV p.l i k t = true ∧ p_grammar_parser_take k t p = some (.ok ((i + 1 : Nat) : Int))) ∨ ∃ f, p_grammar_parser_take k t p = some (.error f) ∧ f.err = 2 := by
 unfold p_grammar_parser_take
 rw [hp, is_eq]
 simp only [Option.bind_eq_bind, Option.bind_some]
 cases h : isV p.l i k t
 ·obtain ⟨f, hf, he⟩ := fail_eq 2 (i := (i : Int)) (by omega) p
  refine .inr ⟨f, ?_, he⟩
  simp [hf]
 refine .inl ⟨rfl, ?_⟩
 simp [w64_succ hi]
end Go.AM.Seat

namespace Go.AM.Seat
open Go Go.AM
set_option maxRecDepth 10000
def bk (k : Int) : Int := if k = 5 then 1 else if k = 6 then -1 else 0
def dp (l : List Token) (i : Nat) : Nat → Int
 | 0 => 0
 | n + 1 => dp l i n + bk (kd l (i + n))
theorem bk_le (k : Int) : -1 ≤ bk k ∧ bk k ≤ 1 := by unfold bk; split <;> (try split) <;> omega
theorem dp_le (l : List Token) (i : Nat) : ∀ n : Nat, -(n : Int) ≤ dp l i n ∧ dp l i n ≤ n
 | 0 => by simp [dp]
 | n + 1 => by have := dp_le l i n; have := bk_le (kd l (i + n)); simp only [dp]; omega
theorem dp_add (l : List Token) (i m : Nat) : ∀ n, dp l i (m + n) = dp l i m + dp l (i + m) n
 | 0 => by simp [dp]
 | n + 1 => by rw [← Nat.add_assoc]; simp only [dp]; rw [dp_add l i m n, Nat.add_assoc i m n]; omega
structure Bal (l : List Token) (i n : Nat) : Prop where
 zero : dp l i n = 0
 pos : ∀ k, k ≤ n → 0 ≤ dp l i k
theorem Bal.nil (l : List Token) (i : Nat) : Bal l i 0 := ⟨rfl, fun k hk => by (obtain rfl : k = 0 := (by omega)); simp [dp]⟩
theorem Bal.append {l : List Token} {i m n : Nat} (h : Bal l i m) (k : Bal l (i + m) n) : Bal l i (m + n) := by
 refine ⟨by rw [dp_add, h.zero, k.zero]; rfl, fun j hj => ?_⟩
 by_cases hjm : j ≤ m
 ·exact h.pos j hjm
 have := k.pos (j - m) (by omega)
 have e := dp_add l i m (j - m)
 rw [show m + (j - m) = j from by omega, h.zero] at e
 omega
theorem Bal.one {l : List Token} {i : Nat} (h : bk (kd l i) = 0) : Bal l i 1 := by
 refine ⟨by simp [dp, h], fun k hk => ?_⟩
 rcases (show k = 0 ∨ k = 1 by omega) with rfl | rfl <;> simp [dp, h]
theorem Bal.wrap {l : List Token} {i n : Nat} (h5 : kd l i = 5) (h : Bal l (i + 1) n) (h6 : kd l (i + 1 + n) = 6) : Bal l i (n + 2) := by
 have e1 : dp l i 1 = 1 := by simp [dp, h5, bk]
 have e : ∀ j, dp l i (1 + j) = 1 + dp l (i + 1) j := fun j => by rw [dp_add, e1]
 refine ⟨?_, fun k hk => ?_⟩
 ·rw [show n + 2 = 1 + (n + 1) from by omega, e]
  simp only [dp, h.zero, h6, bk]
  decide
 rcases Nat.eq_zero_or_pos k with rfl | hk0
 ·simp [dp]
 obtain ⟨j, rfl⟩ : ∃ j, k = 1 + j := ⟨k - 1, by omega⟩
 rw [e]
 by_cases hj : j ≤ n
 ·have := h.pos j hj; omega
 obtain rfl : j = n + 1 := by omega
 simp only [dp, h.zero, h6, bk]
 decide
theorem Bal.uniq {l : List Token} {i m n : Nat} (h : Bal l i m) (hm : kd l (i + m) = 6) (k : Bal l i n) (hn : kd l (i + n) = 6) : m = n := by
 have key : ∀ {a b : Nat}, Bal l i a → kd l (i + a) = 6 → Bal l i b → ¬ a < b := by
  intro a b ha h6 hb hlt
  have := hb.pos (a + 1) (by omega)
  simp only [dp, ha.zero, h6, bk] at this
  revert this; decide
 have := key h hm k
 have := key k hn h
 omega
structure Gr (g : Grammar) : Prop where
 verbs : g.verbs.length ≤ 1000
 adverbs : g.adverbs.length ≤ 1000
 behind : g.behind.length ≤ 1000
def ShP (l : List Token) (i : Nat) : Except Int Unit → Prop
 | .error r => ∃ n, r = ((i + 1 + n : Nat) : Int) ∧ i + 1 + n < l.length ∧ Bal l (i + 1) n ∧ kd l (i + 1 + n) = 6
 | .ok _ => True
theorem shut_T {p : Grammar_parser} {i : Nat} (hw : p.l.length ≤ 2048) (h5 : kd p.l i = 5) (hi : i < p.l.length) :
  T (p_grammar_parser_shut (i : Int) p) fun r => r = -1 ∨ ∃ n, r = ((i + 1 + n : Nat) : Int) ∧ i + 1 + n < p.l.length ∧ Bal p.l (i + 1) n ∧ kd p.l (i + 1 + n) = 6 := by
 have loop : ∀ d j, i + 1 + j + d = p.l.length → (∀ k, k ≤ j → 0 ≤ dp p.l (i + 1) k) → T (p_grammar_parser_shut_l0 (p, 1 + dp p.l (i + 1) j, ((i + 1 + j : Nat) : Int))) (ShP p.l i) := by
  intro d
  induction d with
  | zero => intro j hj hp; rw [p_grammar_parser_shut_l0, if_neg (by simp; omega)]; exact .ret trivial
  | succ d ih =>
   intro j hj hp
   have hlt : i + 1 + j < p.l.length := by omega
   have hk := kd_lt hlt
   have hb := dp_le p.l (i + 1) j
   have h0 := hp j (Nat.le_refl _)
   have hnext : ∀ v : Int, v = 1 + dp p.l (i + 1) (j + 1) → 0 ≤ dp p.l (i + 1) (j + 1) → T (p_grammar_parser_shut_l0 (p, v, w64 (((i + 1 + j : Nat) : Int) + 1))) (ShP p.l i) := by
    intro v hv hpos
    have := ih (j + 1) (by omega) fun k hk => by
     rcases (show k ≤ j ∨ k = j + 1 by omega) with h | rfl
     ·exact hp k h
     exact hpos
    rw [w64_succ (by omega), hv]
    exact this
   have hd : dp p.l (i + 1) (j + 1) = dp p.l (i + 1) j + bk p.l[i + 1 + j].kind := by simp only [dp, hk]
   rw [p_grammar_parser_shut_l0, if_pos (by simp; omega), tok_lget hlt]
   simp only [Option.bind_eq_bind, Option.bind_some]
   by_cases e5 : p.l[i + 1 + j].kind = 5
   ·have e : bk 5 = 1 := by decide
    rw [e5, e] at hd
    simp only [e5, beq_self_eq_true, if_true, Option.bind_some]
    exact hnext _ (by rw [w64_id] <;> omega) (by omega)
   have b5 : (p.l[i + 1 + j].kind == 5) = false := by simpa using e5
   simp only [b5, Bool.false_eq_true, if_false]
   by_cases e6 : p.l[i + 1 + j].kind = 6
   ·have e : bk 6 = -1 := by decide
    rw [e6, e] at hd
    simp only [e6, beq_self_eq_true, if_true]
    rw [w64_id (by omega) (by omega)]
    by_cases hz : dp p.l (i + 1) j = 0
    ·rw [if_pos (by simp [hz])]
     exact .ret ⟨j, rfl, hlt, ⟨hz, hp⟩, by rw [hk]; exact e6⟩
    rw [if_neg (by simp; omega)]
    exact hnext _ (by omega) (by omega)
   have b6 : (p.l[i + 1 + j].kind == 6) = false := by simpa using e6
   have e : bk p.l[i + 1 + j].kind = 0 := by unfold bk; rw [if_neg e5, if_neg e6]
   rw [e] at hd
   simp only [b6, Bool.false_eq_true, if_false, Option.bind_some]
   exact hnext _ (by omega) (by omega)
 unfold p_grammar_parser_shut
 have hk := kd_lt hi
 rw [h5] at hk
 have l1 := loop (p.l.length - (i + 1)) 0 (by omega) fun k hk => by (obtain rfl : k = 0 := (by omega)); simp [dp]
 rw [p_grammar_parser_shut_l0, if_pos (by simp; omega), tok_lget hi]
 simp only [Option.bind_eq_bind, Option.bind_some, ← hk, beq_self_eq_true, if_true]
 rw [w64_succ (by omega)]
 refine T.bind (x := p_grammar_parser_shut_l0 (p, w64 (0 + 1), ((i + 1 : Nat) : Int))) (by simpa [dp, w64_id] using l1) fun r hr => ?_
 cases r with
 | error e => exact .ret (.inr hr)
 | ok u => exact .ret (.inl rfl)
theorem skip_l0_T {p : Grammar_parser} (hw : p.l.length ≤ 2048) (hg : Gr p.g) : ∀ (d i : Nat), i + d = p.l.length →
  T (p_grammar_parser_skip_l0 (p, (i : Int))) fun r => ∃ n, r = .error ((i + n : Nat) : Int) ∧ i + n ≤ p.l.length ∧ Bal p.l i n := by
 intro d
 induction d using Nat.strongRecOn with
 | ind d ih =>
  intro i hi
  rw [p_grammar_parser_skip_l0, sign_eq i hg.adverbs]
  simp only [Option.bind_eq_bind, Option.bind_some]
  cases h : sgV p.l i p.g.adverbs
  ·simp only [Bool.false_eq_true, if_false]
   rw [power_eq p (by omega)]
   simp only [Option.bind_some]
   cases h2 : (pwV p.g p.l i).2
   ·simp only [Bool.false_eq_true, if_false]
    exact .ret ⟨0, rfl, by omega, Bal.nil _ _⟩
   obtain ⟨q1, q2, q3⟩ := pwV_lt h2
   simp only [if_true]
   rw [show w64 ((i : Int) + 2) = ((i + 2 : Nat) : Int) from by rw [w64_id] <;> omega]
   refine (ih (d - 2) (by omega) (i + 2) (by omega)).imp fun r hr => ?_
   obtain ⟨n, rfl, h3, h4⟩ := hr
   refine ⟨2 + n, by rw [Nat.add_assoc], by omega, Bal.append (m := 2) (Bal.append (m := 1) (Bal.one (by rw [q2]; decide)) (Bal.one (by rw [q3]; decide))) h4⟩
  obtain ⟨q1, q2⟩ := sgV_lt h
  simp only [if_true]
  rw [w64_succ (by omega)]
  refine (ih (d - 1) (by omega) (i + 1) (by omega)).imp fun r hr => ?_
  obtain ⟨n, rfl, h3, h4⟩ := hr
  exact ⟨1 + n, by rw [Nat.add_assoc], by omega, Bal.append (Bal.one (by rw [q2]; decide)) h4⟩
def stg (p : Grammar_parser) (i1 : Nat) (b1 : Bool) : Option (Except Int Int) :=
 if sgV p.l i1 p.g.verbs = true then some (.ok ((i1 + 1 : Nat) : Int))
 else if (b1 && sgV p.l i1 p.g.behind) = true then some (.ok ((i1 + 1 : Nat) : Int))
 else if isV p.l i1 5 p.g.open_ = true then p_grammar_parser_shut (i1 : Int) p >>= fun i2 => if decide (i2 < 0) then some (.error (-1)) else some (.ok (w64 (i2 + 1)))
 else if isV p.l i1 5 [40] = true then p_grammar_parser_group ((i1 : Int), b1, p) >>= fun i3 => if decide (i3 < 0) then some (.error (-1)) else some (.ok i3)
 else some (.error (-1))
def i1V (p : Grammar_parser) (i : Nat) : Nat := if isV p.l i 4 p.g.outer = true then i + 1 else i
def b1V (p : Grammar_parser) (i : Nat) (b : Bool) : Bool := if isV p.l i 4 p.g.outer = true then false else b
theorem skip_eq {p : Grammar_parser} {i : Nat} {b : Bool} (hg : Gr p.g) (hi : i < 9223372036854775000) :
  p_grammar_parser_skip ((i : Int), b, p) = (stg p (i1V p i) (b1V p i b) >>= fun res => match res with
   | .error r => some r
   | .ok i6 => p_grammar_parser_skip_l0 (p, i6) >>= fun res => match res with
    | .error r => some r
    | .ok _ => none) := by
 have key : ∀ (j : Nat) (c : Bool), j < 9223372036854775001 → (p_grammar_parser_sign (j : Int) p.g.verbs p >>= fun x1 =>
   if x1 then
    some (Except.ok (w64 ((j : Int) + 1)) : Except Int Int)
   else
    if c then
     p_grammar_parser_sign (j : Int) p.g.behind p >>= fun x2 =>
     if x2 then
      some (.ok (w64 ((j : Int) + 1)))
     else
      p_grammar_parser_is (j : Int) 5 p.g.open_ p >>= fun x3 =>
      if x3 then
       p_grammar_parser_shut (j : Int) p >>= fun i2 =>
       if (decide (i2 < 0)) then
        some (.error (-1))
       else
        some (.ok (w64 (i2 + 1)))
      else
       p_grammar_parser_is (j : Int) 5 [40] p >>= fun x4 =>
       if x4 then
        p_grammar_parser_group ((j : Int), c, p) >>= fun i3 =>
        if (decide (i3 < 0)) then
         some (.error (-1))
        else
         some (.ok i3)
       else
        some (.error (-1))
    else
     p_grammar_parser_is (j : Int) 5 p.g.open_ p >>= fun x5 =>
     if x5 then
      p_grammar_parser_shut (j : Int) p >>= fun i4 =>
      if (decide (i4 < 0)) then
       some (.error (-1))
      else
       some (.ok (w64 (i4 + 1)))
     else
      p_grammar_parser_is (j : Int) 5 [40] p >>= fun x6 =>
      if x6 then
       p_grammar_parser_group ((j : Int), c, p) >>= fun i5 =>
       if (decide (i5 < 0)) then
        some (.error (-1))
       else
        some (.ok i5)
      else
       some (.error (-1))) = stg p j c := by
  intro j c hj
  unfold stg
  rw [sign_eq j hg.verbs, sign_eq j hg.behind, is_eq, is_eq, show w64 ((j : Int) + 1) = ((j + 1 : Nat) : Int) from by rw [w64_id] <;> omega]
  simp only [Option.bind_eq_bind, Option.bind_some]
  cases sgV p.l j p.g.verbs <;> cases c <;> cases sgV p.l j p.g.behind <;> simp
 rw [p_grammar_parser_skip, is_eq]
 simp only [Option.bind_eq_bind, Option.bind_some]
 unfold i1V b1V
 cases h : isV p.l i 4 p.g.outer
 ·simp only [Bool.false_eq_true, if_false, Option.bind_some]
  rw [← key i b (by omega)]
  rfl
 simp only [if_true, Option.bind_some]
 rw [← key (i + 1) false (by omega), w64_succ hi]
 rfl
def SkP (l : List Token) (i : Nat) (r : Int) : Prop := r < 0 ∨ ∃ n, 0 < n ∧ r = ((i + n : Nat) : Int) ∧ i + n ≤ l.length ∧ Bal l i n
theorem i1V_le {p : Grammar_parser} {i : Nat} : i ≤ i1V p i ∧ ∃ m, i1V p i = i + m ∧ Bal p.l i m := by
 unfold i1V
 split
 ·rename_i h
  have := isV_lt h
  exact ⟨by omega, 1, rfl, Bal.one (by rw [this.2]; decide)⟩
 exact ⟨Nat.le_refl _, 0, rfl, Bal.nil _ _⟩
theorem skip_T {p : Grammar_parser} (hw : p.l.length ≤ 2048) (hg : Gr p.g) : ∀ (d i : Nat) (b : Bool), i + d = p.l.length + 1 → T (p_grammar_parser_skip ((i : Int), b, p)) (SkP p.l i) := by
 intro d
 induction d using Nat.strongRecOn with
 | ind d ih =>
  intro i b hi
  have group : ∀ j c, i ≤ j → j < p.l.length → kd p.l j = 5 → T (p_grammar_parser_group ((j : Int), c, p)) fun r => r < 0 ∨ ∃ n, r = ((j + n + 2 : Nat) : Int) ∧ j + n + 2 ≤ p.l.length ∧ Bal p.l j (n + 2) := by
   intro j c hj hjl h5
   have loop : ∀ e k n, k + e = p.l.length + 1 → j + 1 ≤ k → Bal p.l (j + 1) (k - (j + 1)) → T (p_grammar_parser_group_l0 (c, p, (k : Int), n)) fun r => match r with
     | .error r => r < 0
     | .ok (i3, n1) => ∃ m, i3 = ((j + 1 + m : Nat) : Int) ∧ j + 1 + m < p.l.length ∧ Bal p.l (j + 1) m ∧ kd p.l (j + 1 + m) = 6 := by
    intro e
    induction e using Nat.strongRecOn with
    | ind e ihe =>
     intro k n hk hjk hb
     rw [p_grammar_parser_group_l0, is_eq]
     simp only [Option.bind_eq_bind, Option.bind_some]
     cases h : isV p.l k 6 [41]
     ·simp only [Bool.not_false, if_true]
      refine T.bind (ih e (by omega) k c (by omega)) fun r hr => ?_
      rcases hr with hr | ⟨m, hm, rfl, hml, hbm⟩
      ·rw [if_pos (by simpa using hr)]; exact .ret (show (-1 : Int) < 0 by decide)
      rw [if_neg (by simp; omega)]
      refine ihe (e - m) (by omega) (k + m) _ (by omega) (by omega) ?_
      rw [show k + m - (j + 1) = (k - (j + 1)) + m from by omega]
      exact hb.append (by rw [show j + 1 + (k - (j + 1)) = k from by omega]; exact hbm)
     simp only [Bool.not_true, Bool.false_eq_true, if_false]
     have := isV_lt h
     exact .ret ⟨k - (j + 1), by rw [show j + 1 + (k - (j + 1)) = k from by omega], by omega, hb, by rw [show j + 1 + (k - (j + 1)) = k from by omega]; exact this.2⟩
   rw [p_grammar_parser_group, w64_succ (by omega)]
   refine T.bind (loop (p.l.length - j) (j + 1) 0 (by omega) (Nat.le_refl _) (by rw [Nat.sub_self]; exact Bal.nil _ _)) fun r hr => ?_
   cases r with
   | error e => exact .ret (.inl hr)
   | ok v =>
    obtain ⟨i3, n1⟩ := v
    obtain ⟨m, rfl, h1, h2, h3⟩ := hr
    have good : T (some (w64 (((j + 1 + m : Nat) : Int) + 1))) fun r => r < 0 ∨ ∃ n, r = ((j + n + 2 : Nat) : Int) ∧ j + n + 2 ≤ p.l.length ∧ Bal p.l j (n + 2) := by
     rw [w64_succ (by omega)]
     exact .ret (.inr ⟨m, by congr 1; omega, by omega, Bal.wrap h5 h2 h3⟩)
    exact T.ite (fun _ => good) fun _ => T.ite (fun _ => T.ite (fun _ => good) fun _ => T.ite (fun _ => good) fun _ => .ret (.inl (by decide))) fun _ => .ret (.inl (by decide))
  rw [skip_eq hg (by omega)]
  obtain ⟨hle, m0, hm0, hb0⟩ := i1V_le (p := p) (i := i)
  have stage : T (stg p (i1V p i) (b1V p i b)) fun r => match r with
    | .error r => r < 0
    | .ok i6 => ∃ n, 0 < n ∧ i6 = ((i1V p i + n : Nat) : Int) ∧ i1V p i + n ≤ p.l.length ∧ Bal p.l (i1V p i) n := by
   unfold stg
   split
   ·rename_i h
    have := sgV_lt h
    exact .ret ⟨1, by omega, rfl, by omega, Bal.one (by rw [this.2]; decide)⟩
   split
   ·rename_i h
    simp only [Bool.and_eq_true] at h
    have := sgV_lt h.2
    exact .ret ⟨1, by omega, rfl, by omega, Bal.one (by rw [this.2]; decide)⟩
   split
   ·rename_i h
    have := isV_lt h
    refine T.bind (shut_T hw this.2 this.1) fun r hr => ?_
    rcases hr with rfl | ⟨n, rfl, h1, h2, h3⟩
    ·rw [if_pos (by decide)]; exact .ret (show (-1 : Int) < 0 by decide)
    rw [if_neg (by simp; omega), w64_succ (by omega)]
    exact .ret ⟨n + 2, by omega, by congr 1; omega, by omega, Bal.wrap this.2 h2 h3⟩
   split
   ·rename_i h
    have := isV_lt h
    refine T.bind (group _ _ hle this.1 this.2) fun r hr => ?_
    rcases hr with hr | ⟨n, rfl, h1, h2⟩
    ·rw [if_pos (by simpa using hr)]; exact .ret (show (-1 : Int) < 0 by decide)
    rw [if_neg (by simp; omega)]
    exact .ret ⟨n + 2, by omega, by congr 1, by omega, h2⟩
   exact .ret (show (-1 : Int) < 0 by decide)
  refine T.bind stage fun r hr => ?_
  cases r with
  | error e => exact .ret (.inl hr)
  | ok i6 =>
   obtain ⟨n, hn, rfl, h1, h2⟩ := hr
   refine T.bind (skip_l0_T hw hg (p.l.length - (i1V p i + n)) (i1V p i + n) (by omega)) fun r hr => ?_
   obtain ⟨m, rfl, h3, h4⟩ := hr
   refine .ret (.inr ⟨m0 + n + m, by omega, by congr 1; omega, by omega, ?_⟩)
   exact Bal.append (Bal.append hb0 (by rw [← hm0]; exact h2)) (by rw [← Nat.add_assoc, ← hm0]; exact h4)
end Go.AM.Seat

namespace Go.AM.Seat
open Go Go.AM
set_option maxRecDepth 10000
theorem node_eta (n : Node) : Node.mk n.kind n.op_ n.name (Arr.mk n.lit.shape n.lit.cells) n.kids n.at_ = n := by
 cases n with
 | mk k o nm l ks a => cases l; rfl
theorem core_Name_T {s : Str} (hs : s.length ≤ 100000) : T (p_core_Name s) fun _ => True := by
 have loop : ∀ d i, i + d = s.length → T (p_core_Name_l0 (s, (i : Int))) fun _ => True := by
  intro d
  induction d with
  | zero => intro i hi; rw [p_core_Name_l0, if_neg (by simp; omega)]; exact .ret trivial
  | succ d ih =>
   intro i hi
   rw [p_core_Name_l0, if_pos (by simp; omega), w64_succ (by omega)]
   refine T.bind (R := fun _ => True) ?_ fun r _ => ?_
   ·have hg : T (sget s (i : Int)) fun _ => True := T.sget (by omega) (by omega) fun _ _ => trivial
    repeat' (first | exact .ret trivial | refine T.ite (fun _ => ?_) fun _ => ?_ | refine T.bind hg fun _ _ => ?_)
   cases r with
   | error e => exact .ret trivial
   | ok b => exact ih (i + 1) (by omega)
 unfold p_core_Name
 refine T.bind (loop _ 0 (Nat.zero_add _)) fun r _ => ?_
 cases r with
 | error e => exact .ret trivial
 | ok b => exact T.ite (fun _ => .ret trivial) fun _ => .ret trivial
theorem uses_T {n : Node} (h : GN n) : ∀ k, T (p_grammar_uses (n, k)) fun _ => True := by
 induction h with
 | @mk n h1 h2 h3 _ ih =>
  intro k
  have loop : ∀ d i, i + d = n.kids.length → T (p_slices_IndexFunc_Node__grammar_uses_1_l0 (n.kids, k, (i : Int))) fun _ => True := by
   intro d
   induction d with
   | zero => intro i hi; rw [p_slices_IndexFunc_Node__grammar_uses_1_l0, if_neg (by simp; omega)]; exact .ret trivial
   | succ d ihd =>
    intro i hi
    rw [p_slices_IndexFunc_Node__grammar_uses_1_l0, if_pos (by simp; omega), w64_succ (by omega)]
    refine T.bind (T.lget (Q := fun x => x ∈ n.kids) (by omega) (by omega) fun v hv => List.mem_of_getElem? hv) fun v hv => ?_
    rw [p_grammar_uses_1]
    refine T.bind (R := fun _ => True) (T.bind (ih v hv k) fun _ _ => .ret trivial) fun x _ => ?_
    exact T.ite (fun _ => .ret trivial) fun _ => ihd (i + 1) (by omega)
  rw [p_grammar_uses]
  refine T.ite (fun _ => .ret trivial) fun _ => T.ite (fun _ => .ret trivial) fun _ => T.ite (fun _ => .ret trivial) fun _ => ?_
  refine T.bind (R := fun _ => True) ?_ fun _ _ => .ret trivial
  rw [p_slices_ContainsFunc_Node__grammar_uses_1, p_slices_IndexFunc_Node__grammar_uses_1]
  refine T.bind (R := fun _ => True) (T.bind (loop _ 0 (Nat.zero_add _)) fun r _ => by cases r <;> exact .ret trivial) fun _ _ => .ret trivial
theorem szL_append (l m : List Node) : Node.szL (l ++ m) = Node.szL l + Node.szL m := by
 induction l with
 | nil => simp [Node.szL]
 | cons a l ih => simp only [List.cons_append, Node.szL, ih]; omega
theorem righted_T {n : Node} (h : GN n) : T (p_grammar_righted n) fun m => GN m ∧ m.sz = n.sz := by
 induction h with
 | @mk n h1 h2 h3 hk ih =>
  have loop : ∀ d i (l : List Node), i + d = n.kids.length → l.length = i → (∀ x ∈ l, GN x) → T (p_grammar_righted_l0 (n, (i : Int), l)) fun r => r.length = n.kids.length ∧ (∀ x ∈ r, GN x) ∧ Node.szL r = Node.szL l + Node.szL (n.kids.drop i) := by
   intro d
   induction d with
   | zero =>
    intro i l hi hl hg
    rw [p_grammar_righted_l0, if_neg (by simp; omega)]
    exact .ret ⟨by omega, hg, by rw [List.drop_eq_nil_of_le (by omega)]; simp [Node.szL]⟩
   | succ d ihd =>
    intro i l hi hl hg
    rw [p_grammar_righted_l0, if_pos (by simp; omega), w64_succ (by omega), lget_some (by omega)]
    have hlt : i < n.kids.length := by omega
    refine T.bind (R := fun x => x = n.kids[i]) ⟨_, rfl, rfl⟩ fun x hx => ?_
    subst hx
    refine T.bind (ih _ (List.getElem_mem _)) fun m hm => ?_
    refine T.bind (T.lapp (Q := fun r => r = l ++ [m]) (by simp; omega) rfl) fun r hr => ?_
    subst hr
    refine (ihd (i + 1) (l ++ [m]) (by omega) (by simp [hl]) fun x hx => ?_).imp fun r hr => ⟨hr.1, hr.2.1, ?_⟩
    ·rcases List.mem_append.1 hx with h | h
     ·exact hg x h
     ·rw [List.mem_singleton] at h; subst h; exact hm.1
    rw [hr.2.2, szL_append, List.drop_eq_getElem_cons hlt]
    simp only [Node.szL, hm.2]; omega
  rw [p_grammar_righted]
  refine T.bind (R := fun _ => True) (T.ite (fun _ => .ret trivial) fun _ => .ret trivial) fun x0 _ => ?_
  have same : GN (Node.mk x0 n.op_ n.name n.lit n.kids n.at_) ∧ (Node.mk x0 n.op_ n.name n.lit n.kids n.at_).sz = n.sz := ⟨.mk h1 h2 h3 hk, by rw [sz_eq, sz_eq n]; rfl⟩
  refine T.ite (fun _ => .ret same) fun _ => T.ite (fun _ => .ret same) fun _ => ?_
  refine T.bind (loop _ 0 [] (Nat.zero_add _) rfl (by simp)) fun r hr => .ret ⟨.mk h1 h2 (by show r.length ≤ _; omega) hr.2.1, ?_⟩
  rw [sz_eq, sz_eq n]
  show Node.szL r + 1 = _
  rw [hr.2.2, List.drop_zero]; simp [Node.szL]
structure NB (n : Node) (c : Nat) : Prop where
 gn : GN n
 sz : n.sz + 1 ≤ 2 * c
 adv : n.kind = 24 → 1 ≤ n.kids.length
theorem flat_nil : Flat (Arr.mk [] []) := ⟨by simp [Arr.shape], by simp [Arr.cells], by simp [Arr.cells]⟩
theorem GN.of {k o : Int} {nm : Str} {l : Arr} {ks : List Node} {a : Int} (h1 : Flat l) (h2 : nm.length ≤ 9000) (h3 : ks.length ≤ 4096) (h4 : ∀ x ∈ ks, GN x) : GN (.mk k o nm l ks a) := .mk h1 h2 h3 h4
abbrev PR := Except (Fault × Int × Int × Int) (Node × Int × Int × Int)
def OkR (Q : Node → Int → Int → Prop) : PR → Prop
 | .error _ => True
 | .ok (n, i, d, _) => Q n i d
theorem function_l0_T {p p' : Grammar_parser} (hg : Gr p.g) (hgg : p'.g = p.g) (hll : p'.l = p.l) (hw : WordsOK p.l) (at_ deep1 in_ : Int) (hd0 : 0 < deep1) (hd1 : deep1 ≤ 24) :
  ∀ (d i c : Nat), i + d = p.l.length → ∀ r, p_grammar_parser_skip_l0 (p', (i : Int)) = some (.error r) → ∀ f0 f1 f2 f3 f4 f5 f6, NB (Node.mk f0 f1 f2 (Arr.mk f3 f4) f5 f6) c →
   T (p_grammar_parser_function_l0 (p, at_, deep1, in_, f0, f1, f2, f3, f4, f5, f6, (i : Int))) fun res => ∃ n m, res = .error (.ok (n, r, deep1 - 1, in_)) ∧ r = ((i + m : Nat) : Int) ∧ NB n (c + m) := by
 intro d
 induction d using Nat.strongRecOn with
 | ind d ih =>
  intro i c hi r hr f0 f1 f2 f3 f4 f5 f6 hn
  have hlen := hw.len
  rw [p_grammar_parser_skip_l0, hgg, sign_eq i hg.adverbs, hll] at hr
  rw [p_grammar_parser_function_l0, sign_eq i hg.adverbs]
  simp only [Option.bind_eq_bind, Option.bind_some] at hr ⊢
  have one : ∀ (k o : Int) (nm : Str), nm.length ≤ 9000 → ∀ a, NB (Node.mk k o nm (Arr.mk [] []) [Node.mk f0 f1 f2 (Arr.mk f3 f4) f5 f6] a) (c + 1) := by
   intro k o nm hnm a
   refine ⟨.of flat_nil hnm (by simp) (by intro x hx; rw [List.mem_singleton] at hx; subst hx; exact hn.gn), ?_, fun _ => by simp [Node.kids]⟩
   have := hn.sz
   rw [sz_eq]
   simp only [Node.kids, Node.szL]
   omega
  cases h : sgV p.l i p.g.adverbs
  ·simp only [h, Bool.false_eq_true, if_false] at hr ⊢
   rw [power_eq _ (by omega)] at hr ⊢
   simp only [hgg, hll, Option.bind_some] at hr ⊢
   cases h2 : (pwV p.g p.l i).2
   ·simp only [h2, Bool.false_eq_true, if_false, Option.some.injEq, Except.error.injEq] at hr ⊢
    subst hr
    refine ⟨_, by simp only [p_grammar_parser_function_1, Option.bind_some]; rfl, _, 0, ?_, rfl, hn⟩
    rw [w64_id (by omega) (by omega)]
   obtain ⟨q1, q2, q3⟩ := pwV_lt h2
   simp only [h2, if_true] at hr ⊢
   have e2 : w64 ((i : Int) + 2) = ((i + 2 : Nat) : Int) := by rw [w64_id] <;> omega
   rw [e2] at hr ⊢
   refine (ih (d - 2) (by omega) (i + 2) (c + 1) (by omega) r hr _ _ _ _ _ _ _ (one _ _ _ (by simp) _)).imp fun res hres => ?_
   obtain ⟨n, m, e, e', hb⟩ := hres
   refine ⟨n, 2 + m, e, by rw [e', Nat.add_assoc], hb.gn, by have := hb.sz; omega, hb.adv⟩
  obtain ⟨q1, q2⟩ := sgV_lt h
  simp only [h, if_true] at hr ⊢
  rw [w64_succ (by omega)] at hr ⊢
  rw [tok_lget q1]
  simp only [Option.bind_some]
  refine (ih (d - 1) (by omega) (i + 1) (c + 1) (by omega) r hr _ _ _ _ _ _ _ (one _ _ _ (hw.text _ (List.getElem_mem _)) _)).imp fun res hres => ?_
  obtain ⟨n, m, e, e', hb⟩ := hres
  exact ⟨n, 1 + m, e, by rw [e', Nat.add_assoc], hb.gn, by have := hb.sz; omega, hb.adv⟩
end Go.AM.Seat

namespace Go.AM.Seat
open Go Go.AM
set_option maxRecDepth 10000
structure Ok (p : Grammar_parser) (i : Nat) : Prop where
 words : WordsOK p.l
 gr : Gr p.g
 at_ : p.i = (i : Int)
 le : i ≤ p.l.length
 d0 : 0 ≤ p.deep
 d1 : p.deep ≤ 24
def EXQ (p : Grammar_parser) (i : Nat) (n : Node) (i' d' : Int) : Prop :=
 d' = p.deep ∧ ∃ m, i' = ((i + m : Nat) : Int) ∧ i + m ≤ p.l.length ∧ Bal p.l i m ∧ (i + m = p.l.length ∨ kd p.l (i + m) = 6) ∧ NB n m
def OPQ (p : Grammar_parser) (i : Nat) (n : Node) (i' d' : Int) : Prop :=
 d' = p.deep ∧ ∃ m, i' = ((i + m : Nat) : Int) ∧ i + m ≤ p.l.length ∧ Bal p.l i m ∧ NB n m
def FNQ (p : Grammar_parser) (i : Nat) (r : Int) (n : Node) (i' d' : Int) : Prop :=
 d' = p.deep ∧ i' = r ∧ ∃ m, r = ((i + m : Nat) : Int) ∧ NB n m
def EXT (p : Grammar_parser) (i : Nat) : Prop := T (p_grammar_parser_expr p) (OkR (EXQ p i))
def FNT (p : Grammar_parser) (i : Nat) : Prop := ∀ b p' r, p'.g = p.g → p'.l = p.l → p_grammar_parser_skip ((i : Int), b, p') = some r → 0 ≤ r → T (p_grammar_parser_function (b, p)) (OkR (FNQ p i r))
theorem failT (e : Int) {i : Int} (hi : 0 ≤ i) (p : Grammar_parser) : T (p_grammar_parser_fail e i p) fun res => ∃ f, res = .error f := by
 obtain ⟨f, hf, _⟩ := fail_eq e hi p
 exact ⟨_, hf, f, rfl⟩
theorem takeT {i : Nat} (k : Int) (t : Str) (p : Grammar_parser) (hp : p.i = i) (hi : i ≤ 100000) : T (p_grammar_parser_take k t p) fun res => (∃ f, res = .error f) ∨ (res = .ok ((i + 1 : Nat) : Int) ∧ i < p.l.length ∧ kd p.l i = k) := by
 rcases take_eq k t p hp (by omega) with ⟨h1, h2⟩ | ⟨f, h, _⟩
 ·exact ⟨_, h2, .inr ⟨rfl, isV_lt h1⟩⟩
 exact ⟨_, h, .inl ⟨f, rfl⟩⟩
theorem stg_err {p : Grammar_parser} {i : Nat} {b : Bool} {e : Int} (h : stg p i b = some (.error e)) : e = -1 := by
 unfold stg at h
 split at h
 ·simp at h
 split at h
 ·simp at h
 split at h
 ·simp only [Option.bind_eq_bind, Option.bind_eq_some_iff] at h
  obtain ⟨i2, _, h⟩ := h
  split at h
  ·simpa using h.symm
  simp at h
 split at h
 ·simp only [Option.bind_eq_bind, Option.bind_eq_some_iff] at h
  obtain ⟨i2, _, h⟩ := h
  split at h
  ·simpa using h.symm
  simp at h
 simpa using h.symm
theorem lambda_T {q q' : Grammar_parser} {i : Nat} (h : Ok q i) (h5 : isV q.l i 5 q.g.open_ = true) (hx : ∀ q2, q2.g = q.g → q2.l = q.l → q2.deep = q.deep → Ok q2 (i + 1) → EXT q2 (i + 1))
  {n : Nat} (hb : Bal q.l (i + 1) n) (h6 : kd q.l (i + 1 + n) = 6) : T (p_grammar_parser_lambda q) (OkR fun nd i' d' => d' = q.deep ∧ i' = ((i + (n + 2) : Nat) : Int) ∧ NB nd (n + 2)) := by
 have hlt := isV_lt h5
 have hlen := h.words.len
 have hat := h.at_
 rw [p_grammar_parser_lambda]
 refine T.bind (here_T (by omega)) fun at_ _ => ?_
 rw [hat, w64_succ (by omega)]
 have hok : Ok ⟨q.g, q.l, ((i + 1 : Nat) : Int), q.end_, q.deep, w64 (q.in_ + 1)⟩ (i + 1) := ⟨h.words, h.gr, rfl, by show i + 1 ≤ q.l.length; omega, h.d0, h.d1⟩
 refine T.bind (hx _ rfl rfl rfl hok) fun res hres => ?_
 cases res with
 | error e => obtain ⟨a, b, c, d⟩ := e; exact .ret trivial
 | ok v =>
  obtain ⟨x, i', d', in'⟩ := v
  obtain ⟨rfl, m, rfl, hm1, hm2, hm3, hnb⟩ := hres
  refine T.bind (takeT 6 q.g.close _ rfl (by show i + 1 + m ≤ 100000; have : i + 1 + m ≤ q.l.length := hm1; omega)) fun res hres => ?_
  rcases hres with ⟨f, rfl⟩ | ⟨rfl, ht1, ht2⟩
  ·exact .ret trivial
  obtain rfl : m = n := Bal.uniq hm2 ht2 hb h6
  have hone : ∀ (k : Int) (y : Node), GN y → y.sz = x.sz → k ≠ 24 → ∀ a, NB (Node.mk k 0 [] (Arr.mk [] []) [y] a) (m + 2) := by
   intro k y hy hs hk a
   refine ⟨.of flat_nil (by simp) (by simp) (by intro z hz; rw [List.mem_singleton] at hz; subst hz; exact hy), ?_, fun h => absurd h hk⟩
   have := hnb.sz
   rw [sz_eq]
   simp only [Node.kids, Node.szL]
   omega
  refine T.bind (uses_T hnb.gn 3) fun left _ => T.bind (uses_T hnb.gn 4) fun right _ => ?_
  refine T.bind (R := fun r => match r with | .error r => OkR (fun nd i' d' => d' = q.deep ∧ i' = ((i + (m + 2) : Nat) : Int) ∧ NB nd (m + 2)) r | .ok _ => True) ?_ fun r hr => ?_
  ·have hfa : ∀ p2, T (p_grammar_parser_fail 2 (i : Int) p2) fun res => ∃ f, res = .error f := fun p2 => failT 2 (by omega) p2
   have hgood : OkR (fun nd i' d' => d' = q.deep ∧ i' = ((i + (m + 2) : Nat) : Int) ∧ NB nd (m + 2)) (.ok ((Node.mk 23 0 [] (Arr.mk [] []) [x] at_), ((i + 1 + m + 1 : Nat) : Int), q.deep, w64 (in' - 1))) :=
    ⟨rfl, by congr 1; omega, hone _ _ hnb.gn rfl (by decide) _⟩
   repeat' (first | exact .ret trivial | exact .ret hgood | (refine T.bind (hfa _) fun r hr => ?_; obtain ⟨f, rfl⟩ := hr; exact .ret trivial) | refine T.ite (fun _ => ?_) fun _ => ?_)
  cases r with
  | error r => exact .ret hr
  | ok u =>
   refine T.bind (righted_T hnb.gn) fun y hy => .ret ⟨rfl, by congr 1; omega, hone _ _ hy.1 hy.2 (by decide) _⟩
end Go.AM.Seat

namespace Go.AM.Seat
open Go Go.AM
set_option maxRecDepth 10000
structure Ks (l : List Node) (m : Nat) : Prop where
 all : ∀ x ∈ l, GN x ∧ (x.kind = 24 → 1 ≤ x.kids.length)
 sz : Node.szL l + l.length ≤ 2 * m
 len : l.length ≤ m
theorem Ks.nil : Ks [] 0 := ⟨by simp, by simp [Node.szL], by simp⟩
theorem Ks.snoc {l : List Node} {m c : Nat} {x : Node} (h : Ks l m) (hx : NB x c) : Ks (l ++ [x]) (m + c) := by
 have h1 := hx.sz
 have h2 : 1 ≤ x.sz := by rw [sz_eq]; omega
 refine ⟨fun y hy => ?_, ?_, ?_⟩
 ·rcases List.mem_append.1 hy with hy | hy
  ·exact h.all y hy
  ·rw [List.mem_singleton] at hy; subst hy; exact ⟨hx.gn, hx.adv⟩
 ·have := h.sz
  rw [szL_append, List.length_append]
  simp only [Node.szL, List.length_singleton]; omega
 have := h.len
 rw [List.length_append]
 simp only [List.length_singleton]; omega
theorem base_l0_T {q q' : Grammar_parser} (hw : WordsOK q.l) (hg : Gr q.g) (hgg : q'.g = q.g) (hll : q'.l = q.l) (b : Bool) (hd0 : 0 ≤ q.deep) (hd1 : q.deep ≤ 24) (i0 : Nat)
  (hf : ∀ q2 j, q2.g = q.g → q2.l = q.l → q2.deep = q.deep → i0 < j → Ok q2 j → FNT q2 j) :
  ∀ (d k : Nat), k + d = q.l.length + 1 → i0 < k → ∀ n i3 n1, p_grammar_parser_group_l0 (b, q', (k : Int), n) = some (.ok (i3, n1)) → ∀ (l : List Node) (c : Nat) (in_ : Int), Ks l c → c ≤ k →
   T (p_grammar_parser_base_l0 (b, q, l, (k : Int), q.deep, in_)) fun res => match res with
    | .error r => ∃ e, r = .error e
    | .ok (l2, i', d', _) => d' = q.deep ∧ i' = i3 ∧ ∃ m, i3 = ((k + m : Nat) : Int) ∧ k + m < q.l.length ∧ kd q.l (k + m) = 6 ∧ Ks l2 (c + m) := by
 have hlen := hw.len
 intro d
 induction d using Nat.strongRecOn with
 | ind d ih =>
  intro k hk hik n i3 n1 hgr l c in_ hl hc
  rw [p_grammar_parser_group_l0, is_eq, hll] at hgr
  rw [p_grammar_parser_base_l0, is_eq]
  simp only [Option.bind_eq_bind, Option.bind_some] at hgr ⊢
  cases h : isV q.l k 6 [41]
  ·simp only [h, Bool.not_false, if_true] at hgr ⊢
   obtain ⟨r, hsk, hgr⟩ := Option.bind_eq_some_iff.1 hgr
   by_cases hk0 : k ≤ q.l.length
   ·have hsp := skip_T (p := q') (by rw [hll]; exact hlen) (by rw [hgg]; exact hg) (q.l.length + 1 - k) k b (by rw [hll]; omega)
    obtain ⟨r', hr', hsp⟩ := hsp
    rw [hsk, Option.some.injEq] at hr'; subst hr'
    split at hgr
    ·simp at hgr
    rename_i hneg
    simp only [decide_eq_true_eq] at hneg
    rcases hsp with hlt | ⟨mm, hmm, rfl, hml, hbal⟩
    ·exact absurd hlt hneg
    rw [hll] at hml
    have hok : Ok ⟨q.g, q.l, (k : Int), q.end_, q.deep, in_⟩ k := ⟨hw, hg, rfl, hk0, hd0, hd1⟩
    refine T.bind (hf ⟨q.g, q.l, (k : Int), q.end_, q.deep, in_⟩ k rfl rfl rfl hik hok b q' _ hgg hll hsk (by omega)) fun res hres => ?_
    cases res with
    | error e => obtain ⟨a1, a2, a3, a4⟩ := e; exact .ret ⟨_, rfl⟩
    | ok v =>
     obtain ⟨x, i', d', in'⟩ := v
     obtain ⟨rfl, rfl, m', hm', hnb⟩ := hres
     obtain rfl : m' = mm := by omega
     have hlc := hl.len
     refine T.bind (T.lapp (Q := fun r => r = l ++ [x]) (by simp; omega) rfl) fun l1 hl1 => ?_
     subst hl1
     refine (ih (d - m') (by omega) (k + m') (by omega) (by omega) _ i3 n1 hgr (l ++ [x]) (c + m') in' (hl.snoc hnb) (by omega)).imp fun res hres => ?_
     cases res with
     | error e => exact hres
     | ok w =>
      obtain ⟨l2, i'', d'', in''⟩ := w
      obtain ⟨h1, h2, m2, h3, h4, h5, h6⟩ := hres
      exact ⟨h1, h2, m' + m2, by rw [h3, Nat.add_assoc], by omega, by rw [← Nat.add_assoc]; exact h5, by rw [← Nat.add_assoc]; exact h6⟩
   exfalso
   have hsp := skip_T (p := q') (by rw [hll]; exact hlen) (by rw [hgg]; exact hg) 0 k b (by rw [hll]; omega)
   obtain ⟨r', hr', hsp⟩ := hsp
   rw [hsk, Option.some.injEq] at hr'; subst hr'
   rcases hsp with hlt | ⟨mm, hmm, rfl, hml, hbal⟩
   ·rw [if_pos (by simpa using hlt)] at hgr; simp at hgr
   rw [hll] at hml; omega
  simp only [h, Bool.not_true, Bool.false_eq_true, if_false, Option.some.injEq, Except.ok.injEq, Prod.mk.injEq] at hgr ⊢
  obtain ⟨rfl, rfl⟩ := hgr
  have := isV_lt h
  exact .ret ⟨rfl, rfl, 0, rfl, this.1, this.2, hl⟩
theorem base_T {q q' : Grammar_parser} {i : Nat} (h : Ok q i) (hgg : q'.g = q.g) (hll : q'.l = q.l) (b : Bool)
  (hx : ∀ q2, q2.g = q.g → q2.l = q.l → q2.deep = q.deep → Ok q2 (i + 1) → EXT q2 (i + 1))
  (hf : ∀ q2 j, q2.g = q.g → q2.l = q.l → q2.deep = q.deep → i < j → Ok q2 j → FNT q2 j)
  {i6 : Int} (hs : stg q' i b = some (.ok i6)) : T (p_grammar_parser_base (b, q)) (OkR fun n i' d' => d' = q.deep ∧ i' = i6 ∧ ∃ m, i6 = ((i + m : Nat) : Int) ∧ i + m ≤ q.l.length ∧ NB n m) := by
 have hlen := h.words.len
 have hat := h.at_
 have hle := h.le
 rw [p_grammar_parser_base]
 refine T.bind (here_T (by omega)) fun at_ _ => ?_
 rw [hat, is_eq, is_eq]
 simp only [Option.bind_eq_bind, Option.bind_some]
 have nosign : ∀ {t : Str} {ls : List Str}, isV q.l i 5 t = true → sgV q.l i ls = false := by
  intro t ls h5
  cases hsg : sgV q.l i ls
  ·rfl
  have := (isV_lt h5).2
  have h4 := (sgV_lt hsg).2
  rw [this] at h4
  exact absurd h4 (by decide)
 unfold stg at hs
 rw [hgg, hll] at hs
 cases ho : isV q.l i 5 q.g.open_
 ·simp only [ho, Bool.false_eq_true, if_false] at hs ⊢
  cases hp : isV q.l i 5 [40]
  ·simp only [hp, Bool.false_eq_true, if_false] at hs ⊢
   have hprim : i6 = ((i + 1 : Nat) : Int) ∧ i < q.l.length := by
    split at hs
    ·rename_i hv
     simp only [Option.some.injEq, Except.ok.injEq] at hs
     exact ⟨hs.symm, (sgV_lt hv).1⟩
    split at hs
    ·rename_i hv
     simp only [Bool.and_eq_true] at hv
     simp only [Option.some.injEq, Except.ok.injEq] at hs
     exact ⟨hs.symm, (sgV_lt hv.2).1⟩
    simp at hs
   obtain ⟨rfl, hlt⟩ := hprim
   rw [tok_lget hlt, w64_succ (by omega)]
   refine T.bind (R := fun y => y = q.l[i]) ⟨_, rfl, rfl⟩ fun y hy => ?_
   subst hy
   refine .ret ⟨rfl, rfl, 1, rfl, by omega, ⟨.of flat_nil (h.words.text _ (List.getElem_mem _)) (by simp) (by simp), ?_, fun h => by simp [Node.kind] at h⟩⟩
   rw [sz_eq]; simp [Node.kids, Node.szL]
  have hlt := isV_lt hp
  simp only [hp, if_true, nosign hp, Bool.and_false, Bool.false_eq_true, if_false] at hs ⊢
  obtain ⟨i3, hgrp, hs⟩ := Option.bind_eq_some_iff.1 hs
  split at hs
  ·simp at hs
  rename_i hneg
  simp only [decide_eq_true_eq] at hneg
  simp only [Option.some.injEq, Except.ok.injEq] at hs
  subst hs
  rw [p_grammar_parser_group, w64_succ (by omega)] at hgrp
  simp only [Option.bind_eq_bind] at hgrp
  obtain ⟨gr, hgl, hgrp⟩ := Option.bind_eq_some_iff.1 hgrp
  cases gr with
  | error e =>
   exfalso
   simp only [Option.some.injEq] at hgrp
   subst hgrp
   have : ∀ (d k : Nat), k + d = q.l.length + 1 → ∀ n e, p_grammar_parser_group_l0 (b, q', (k : Int), n) = some (.error e) → e < 0 := by
    intro d
    induction d using Nat.strongRecOn with
    | ind d ih =>
     intro k hk n e he
     rw [p_grammar_parser_group_l0, is_eq] at he
     simp only [Option.bind_eq_bind, Option.bind_some] at he
     cases h6 : isV q'.l k 6 [41]
     ·simp only [h6, Bool.not_false, if_true] at he
      obtain ⟨r, hsk, he⟩ := Option.bind_eq_some_iff.1 he
      have hsp := skip_T (p := q') (by rw [hll]; exact hlen) (by rw [hgg]; exact h.gr) d k b (by rw [hll]; omega)
      obtain ⟨r', hr', hsp⟩ := hsp
      rw [hsk, Option.some.injEq] at hr'; subst hr'
      rcases hsp with hlt | ⟨mm, hmm, rfl, hml, hbal⟩
      ·rw [if_pos (by simpa using hlt)] at he
       simp only [Option.some.injEq, Except.error.injEq] at he
       omega
      rw [if_neg (by simp; omega)] at he
      rw [hll] at hml
      exact ih (d - mm) (by omega) (k + mm) (by omega) _ _ he
     simp only [h6, Bool.not_true, Bool.false_eq_true, if_false, Option.some.injEq, reduceCtorEq] at he
   have := this (q.l.length - i) (i + 1) (by omega) _ _ hgl
   omega
  | ok v =>
   obtain ⟨i5, n1⟩ := v
   have hfin : i3 = w64 (i5 + 1) := by
    simp only at hgrp
    split at hgrp
    ·simpa using hgrp.symm
    split at hgrp
    ·split at hgrp
     ·simpa using hgrp.symm
     split at hgrp
     ·simpa using hgrp.symm
     simp at hgrp; omega
    simp at hgrp; omega
   subst hfin
   rw [w64_succ (by omega)]
   refine T.bind (base_l0_T h.words h.gr hgg hll b h.d0 h.d1 i hf (q.l.length - i) (i + 1) (by omega) (by omega) 0 i5 n1 hgl [] 0 q.in_ Ks.nil (by omega)) fun res hres => ?_
   cases res with
   | error r => obtain ⟨e, rfl⟩ := hres; exact .ret trivial
   | ok w =>
    obtain ⟨l2, i', d', in'⟩ := w
    obtain ⟨rfl, rfl, m, rfl, hm1, hm2, hks⟩ := hres
    rw [Nat.zero_add] at hks
    have hkl := hks.len
    have hksz := hks.sz
    have e1 : w64 (((i + 1 + m : Nat) : Int) + 1) = ((i + (m + 2) : Nat) : Int) := by rw [w64_succ (by omega)]; congr 1; omega
    dsimp only
    rw [e1]
    have node : ∀ k : Int, k ≠ 24 → OkR (fun n i' d' => d' = q.deep ∧ i' = ((i + (m + 2) : Nat) : Int) ∧ ∃ m', ((i + (m + 2) : Nat) : Int) = ((i + m' : Nat) : Int) ∧ i + m' ≤ q.l.length ∧ NB n m') (.ok ((Node.mk k 0 [] (Arr.mk [] []) l2 at_), ((i + (m + 2) : Nat) : Int), q.deep, in')) := by
     intro k hk
     refine ⟨rfl, rfl, m + 2, rfl, by omega, .of flat_nil (by simp) (by omega) (fun x hx => (hks.all x hx).1), ?_, fun h => absurd h hk⟩
     rw [sz_eq]; simp only [Node.kids]; omega
    refine T.ite (fun h1 => ?_) fun _ => T.ite (fun _ => .ret (node 28 (by decide))) fun _ => .ret (node 27 (by decide))
    have hl1 : l2.length = 1 := by simp at h1; omega
    obtain ⟨x, hx⟩ := List.length_eq_one_iff.1 hl1
    subst hx
    have hxx := hks.all x (by simp)
    refine T.bind (R := fun y => y = x) ⟨_, rfl, rfl⟩ fun y hy => ?_
    subst hy
    refine .ret ⟨rfl, rfl, m + 2, rfl, by omega, hxx.1, ?_, hxx.2⟩
    simp only [Node.szL, List.length_singleton] at hksz
    omega
 have hlt := isV_lt ho
 simp only [ho, if_true, nosign ho, Bool.and_false, Bool.false_eq_true, if_false] at hs ⊢
 obtain ⟨i2, hsh, hs⟩ := Option.bind_eq_some_iff.1 hs
 have hshT := shut_T (p := q') (i := i) (by rw [hll]; exact hlen) (by rw [hll]; exact hlt.2) (by rw [hll]; exact hlt.1)
 obtain ⟨v, hv, hsp⟩ := hshT
 rw [hsh, Option.some.injEq] at hv; subst hv
 rcases hsp with rfl | ⟨n, rfl, h1, h2, h3⟩
 ·rw [if_pos (by decide)] at hs; simp at hs
 rw [hll] at h1 h2 h3
 rw [if_neg (by simp; omega), w64_succ (by omega)] at hs
 simp only [Option.some.injEq, Except.ok.injEq] at hs
 subst hs
 refine T.bind (lambda_T (q' := q') h ho hx h2 h3) fun res hres => ?_
 cases res with
 | error e => obtain ⟨a1, a2, a3, a4⟩ := e; exact .ret trivial
 | ok w =>
  obtain ⟨nd, i', d', in'⟩ := w
  obtain ⟨rfl, rfl, hnb⟩ := hres
  exact .ret ⟨rfl, by congr 1; omega, n + 2, by congr 1; omega, by omega, hnb⟩
end Go.AM.Seat

namespace Go.AM.Seat
open Go Go.AM
set_option maxRecDepth 10000
set_option maxHeartbeats 1000000
theorem i1V_of {p p' : Grammar_parser} (hg : p'.g = p.g) (hl : p'.l = p.l) (i : Nat) : i1V p' i = i1V p i := by unfold i1V; rw [hg, hl]
theorem b1V_of {p p' : Grammar_parser} (hg : p'.g = p.g) (hl : p'.l = p.l) (i : Nat) (b : Bool) : b1V p' i b = b1V p i b := by unfold b1V; rw [hg, hl]
theorem function_T {p : Grammar_parser} {i : Nat} (h : Ok p i) (hx : ∀ q2 j, q2.g = p.g → q2.l = p.l → q2.deep = p.deep + 1 → Ok q2 j → EXT q2 j)
  (hf : ∀ q2 j, q2.g = p.g → q2.l = p.l → q2.deep = p.deep + 1 → Ok q2 j → FNT q2 j) : FNT p i := by
 intro b p' r hgg hll hsk hr0
 have hlen := h.words.len
 have hat := h.at_
 have hle := h.le
 have hd0 := h.d0
 have hd1 := h.d1
 rw [p_grammar_parser_function]
 rcases down_eq p (by omega) h.d0 h.d1 with ⟨hlt, hdn⟩ | ⟨_, f, hdn, _⟩
 ·rw [hdn]
  refine T.bind (R := fun x => x = .ok (p.deep + 1)) ⟨_, rfl, rfl⟩ fun x hxx => ?_
  subst hxx
  refine T.bind (here_T (by show 0 ≤ p.i; omega)) fun at_ _ => ?_
  dsimp only
  rw [hat, is_eq]
  simp only [Option.bind_eq_bind, Option.bind_some]
  rw [skip_eq (by rw [hgg]; exact h.gr) (by omega), i1V_of hgg hll, b1V_of hgg hll] at hsk
  obtain ⟨st, hst, hsk⟩ := Option.bind_eq_some_iff.1 hsk
  cases st with
  | error e =>
   exfalso
   have := stg_err hst
   simp only [Option.some.injEq] at hsk
   omega
  | ok i6 =>
   simp only [Option.bind_eq_bind] at hsk
   obtain ⟨lp, hlp, hsk⟩ := Option.bind_eq_some_iff.1 hsk
   cases lp with
   | ok u => simp at hsk
   | error rr =>
    simp only [Option.some.injEq] at hsk
    subst hsk
    obtain ⟨hle1, m0, hm0, _⟩ := i1V_le (p := p) (i := i)
    have hi1 : i1V p i ≤ p.l.length := by
     unfold i1V
     split
     ·rename_i hh; have := isV_lt hh; omega
     exact hle
    have core : ∀ (in_ : Int), T (p_grammar_parser_base (b1V p i b, ⟨p.g, p.l, (i1V p i : Int), p.end_, p.deep + 1, in_⟩)) (OkR fun n i' d' => d' = p.deep + 1 ∧ i' = i6 ∧ ∃ m, i6 = ((i1V p i + m : Nat) : Int) ∧ i1V p i + m ≤ p.l.length ∧ NB n m) := by
     intro in_
     exact base_T (q := ⟨p.g, p.l, (i1V p i : Int), p.end_, p.deep + 1, in_⟩) (q' := p') ⟨h.words, h.gr, rfl, hi1, by show 0 ≤ p.deep + 1; omega, by show p.deep + 1 ≤ 24; omega⟩ hgg hll _
      (fun q2 a1 a2 a3 ok => hx q2 _ a1 a2 a3 ok) (fun q2 j a1 a2 a3 _ ok => hf q2 j a1 a2 a3 ok) hst
    have e1 : (if isV p.l i 4 p.g.outer = true then some (false, w64 ((i : Int) + 1)) else some (b, (i : Int)) : Option (Bool × Int)) = some (b1V p i b, (i1V p i : Int)) := by
     unfold b1V i1V
     split
     ·rw [w64_succ (by omega)]
     rfl
    rw [e1]
    simp only [Option.bind_some]
    refine T.bind (core p.in_) fun res hres => ?_
    cases res with
    | error e => obtain ⟨a1, a2, a3, a4⟩ := e; exact .ret trivial
    | ok v =>
     obtain ⟨x, i', d', in'⟩ := v
     obtain ⟨rfl, rfl, m, rfl, hm1, hnb⟩ := hres
     dsimp only
     have fin : ∀ (f0 f1 : Int) (f2 : Str) (f3 : List Int) (f4 : List Cell) (f5 : List Node) (f6 : Int) (c : Nat), i + c = i1V p i + m → NB (Node.mk f0 f1 f2 (Arr.mk f3 f4) f5 f6) c →
       T (p_grammar_parser_function_l0 (p, at_, p.deep + 1, in', f0, f1, f2, f3, f4, f5, f6, ((i1V p i + m : Nat) : Int)) >>= fun res => match res with
        | .error r => some r
        | .ok _ => none) (OkR (FNQ p i rr)) := by
      intro f0 f1 f2 f3 f4 f5 f6 c hc hn
      refine T.bind (function_l0_T h.gr hgg hll h.words at_ (p.deep + 1) in' (by omega) (by omega) (p.l.length - (i1V p i + m)) (i1V p i + m) c (by omega) rr hlp f0 f1 f2 f3 f4 f5 f6 hn) fun res hres => ?_
      obtain ⟨n, m2, rfl, e, hb⟩ := hres
      exact .ret ⟨by omega, rfl, c + m2, by rw [e]; congr 1; omega, hb⟩
     cases ho : isV p.l i 4 p.g.outer
     ·have e0 : i1V p i = i := by unfold i1V; rw [ho]; rfl
      simp only [Bool.false_eq_true, if_false, Option.bind_some]
      exact fin _ _ _ _ _ _ _ m (by omega) (by rw [node_eta]; exact hnb)
     have e0 : i1V p i = i + 1 := by unfold i1V; rw [ho]; rfl
     simp only [if_true, Option.bind_some]
     refine fin _ _ _ _ _ _ _ (m + 1) (by omega) ⟨.of flat_nil (by simp) (by simp) (by intro z hz; rw [List.mem_singleton] at hz; subst hz; exact hnb.gn), ?_, fun h => by simp [Node.kind] at h⟩
     have := hnb.sz
     rw [sz_eq]; simp only [Node.kids, Node.szL]; omega
 rw [hdn]
 refine T.bind (R := fun x => x = .error (f, 25)) ⟨_, rfl, rfl⟩ fun x hxx => ?_
 subst hxx
 exact .ret trivial
end Go.AM.Seat

namespace Go.AM.Seat
open Go Go.AM
set_option maxRecDepth 10000
set_option maxHeartbeats 1000000
theorem operand_l0_T {p : Grammar_parser} (hw : WordsOK p.l) (hg : Gr p.g) (h0 : 0 ≤ p.deep) (h1 : p.deep ≤ 24) (i : Nat) (y : Token)
  (hx : ∀ q2 j, q2.g = p.g → q2.l = p.l → q2.deep = p.deep → Ok q2 j → EXT q2 j) :
  ∀ (d k : Nat), k + d = p.l.length → ∀ (m : Nat) (n0 n1 : Int) (n2 : Str) (n3 : List Int) (n4 : List Cell) (n5 : List Node) (n6 in_ : Int), k = i + m → Bal p.l i m → NB (Node.mk n0 n1 n2 (Arr.mk n3 n4) n5 n6) m →
   T (p_grammar_parser_operand_l0 (p, y, n0, n1, n2, n3, n4, n5, n6, (k : Int), p.deep, in_)) fun res => match res with
    | .error r => ∃ e, r = .error e
    | .ok (n0, n1, n2, n3, n4, n5, n6, i', d', _) => OPQ p i (Node.mk n0 n1 n2 (Arr.mk n3 n4) n5 n6) i' d' := by
 have hlen := hw.len
 intro d
 induction d using Nat.strongRecOn with
 | ind d ih =>
  intro k hk m n0 n1 n2 n3 n4 n5 n6 in_ hkm hbal hnb
  have stop : T (some (.ok (n0, n1, n2, n3, n4, n5, n6, (k : Int), p.deep, in_)) : Option (Except (Except (Fault × Int × Int × Int) (Node × Int × Int × Int)) (Int × Int × Str × (List Int) × (List Cell) × (List Node) × Int × Int × Int × Int))) fun res => match res with
    | .error r => ∃ e, r = .error e
    | .ok (n0, n1, n2, n3, n4, n5, n6, i', d', _) => OPQ p i (Node.mk n0 n1 n2 (Arr.mk n3 n4) n5 n6) i' d' :=
   .ret ⟨rfl, m, by rw [hkm], by omega, hbal, hnb⟩
  rw [p_grammar_parser_operand_l0]
  refine T.ite (fun _ => ?_) fun _ => stop
  rw [is_eq]
  simp only [Option.bind_eq_bind, Option.bind_some]
  cases h : isV p.l k 5 [91]
  ·simp only [Bool.false_eq_true, if_false]; exact stop
  simp only [if_true]
  have hlt := isV_lt h
  rw [w64_succ (by omega)]
  have hok : Ok ⟨p.g, p.l, ((k + 1 : Nat) : Int), p.end_, p.deep, in_⟩ (k + 1) := ⟨hw, hg, rfl, by show k + 1 ≤ p.l.length; omega, h0, h1⟩
  refine T.bind (hx _ (k + 1) rfl rfl rfl hok) fun res hres => ?_
  cases res with
  | error e => obtain ⟨a1, a2, a3, a4⟩ := e; exact .ret ⟨_, rfl⟩
  | ok v =>
   obtain ⟨x, i', d', in'⟩ := v
   obtain ⟨rfl, mm, rfl, hm1, hm2, hm3, hnx⟩ := hres
   have hm1 : k + 1 + mm ≤ p.l.length := hm1
   refine T.bind (takeT 6 [93] _ rfl (by show k + 1 + mm ≤ 100000; omega)) fun res hres => ?_
   rcases hres with ⟨f, rfl⟩ | ⟨rfl, ht1, ht2⟩
   ·exact .ret ⟨_, rfl⟩
   have ht1 : k + 1 + mm < p.l.length := ht1
   have s1 := hnb.sz
   have s2 := hnx.sz
   refine ih (d - (mm + 2)) (by omega) (k + 1 + mm + 1) (by omega) (m + (mm + 2)) _ _ _ _ _ _ _ _ (by omega) (hbal.append (by rw [← hkm]; exact Bal.wrap hlt.2 hm2 ht2)) ⟨.of flat_nil (by simp) (by simp) ?_, ?_, fun h => by simp [Node.kind] at h⟩
   ·intro z hz
    rcases List.mem_cons.1 hz with rfl | hz
    ·exact hnb.gn
    rw [List.mem_singleton] at hz; subst hz; exact hnx.gn
   rw [sz_eq]; simp only [Node.kids, Node.szL]; omega
theorem operand_T {p : Grammar_parser} {i : Nat} (h : Ok p i) (hx : ∀ q2 j, q2.g = p.g → q2.l = p.l → q2.deep = p.deep → Ok q2 j → EXT q2 j) : T (p_grammar_parser_operand p) (OkR (OPQ p i)) := by
 have hlen := h.words.len
 have hat := h.at_
 have hle := h.le
 rw [p_grammar_parser_operand]
 by_cases hi : i < p.l.length
 ·rw [if_neg (by rw [hat]; simp; omega)]
  simp only [Option.bind_eq_bind, Option.bind_some]
  rw [hat, tok_lget hi]
  simp only [Option.bind_some]
  have hkd := kd_lt hi
  let R : Except (Except (Fault × Int × Int × Int) (Node × Int × Int × Int)) (Int × Int × Str × (List Int) × (List Cell) × (List Node) × Int × Int × Int × Int) → Prop := fun res => match res with
    | .error r => ∃ e, r = .error e
    | .ok (n0, n1, n2, n3, n4, n5, n6, i', d', _) => OPQ p i (Node.mk n0 n1 n2 (Arr.mk n3 n4) n5 n6) i' d'
  have leaf : ∀ (k : Int) (nm : Str) (sh : List Int) (cs : List Cell), k ≠ 24 → nm.length ≤ 9000 → Flat (Arr.mk sh cs) → bk (kd p.l i) = 0 →
    R (.ok (k, 0, nm, sh, cs, [], p.l[i].at_, w64 ((i : Int) + 1), p.deep, p.in_)) := by
   intro k nm sh cs hk hnm hfl hb
   rw [w64_succ (by omega)]
   refine ⟨rfl, 1, rfl, by omega, Bal.one hb, .of hfl hnm (by simp) (by simp), ?_, fun h => absurd h hk⟩
   rw [sz_eq]; simp [Node.kids, Node.szL]
  have par : T (p_grammar_parser_is (i : Int) 5 [40] p >>= fun x1 =>
              if x1 then
               p_grammar_parser_expr (Grammar_parser.mk p.g p.l (w64 ((i : Int) + 1)) p.end_ p.deep p.in_) >>= fun res => match res with
               | .error (e2, i2, deep1, in_1) =>
                 some (.error (.error (e2, i2, deep1, in_1)))
               | .ok (x2, i, deep, in_) =>
                p_grammar_parser_take 6 [41] (Grammar_parser.mk p.g p.l i p.end_ deep in_) >>= fun res => match res with
                | .error e1 =>
                  some (.error (.error (e1, i, deep, in_)))
                | .ok i1 =>
                 some (.ok (x2.kind, x2.op_, x2.name, x2.lit.shape, x2.lit.cells, x2.kids, x2.at_, i1, deep, in_))
              else
               p_grammar_parser_fail 2 (i : Int) p >>= fun res => match res with
               | .error e3 =>
                 some (.error (.error (e3, (i : Int), p.deep, p.in_)))
               | .ok _ =>
                some (.ok (0, 0, [], [], [], [], p.l[i].at_, (i : Int), p.deep, p.in_))) R := by
   rw [is_eq]
   refine T.bind (R := fun x => x = isV p.l i 5 [40]) ⟨_, rfl, rfl⟩ fun x hxx => ?_
   subst hxx
   refine T.ite (fun h5 => ?_) fun _ => ?_
   ·have hlt := isV_lt h5
    rw [w64_succ (by omega)]
    have hok : Ok ⟨p.g, p.l, ((i + 1 : Nat) : Int), p.end_, p.deep, p.in_⟩ (i + 1) := ⟨h.words, h.gr, rfl, by show i + 1 ≤ p.l.length; omega, h.d0, h.d1⟩
    refine T.bind (hx _ (i + 1) rfl rfl rfl hok) fun res hres => ?_
    cases res with
    | error e => obtain ⟨a1, a2, a3, a4⟩ := e; exact .ret ⟨_, rfl⟩
    | ok v =>
     obtain ⟨x, i', d', in'⟩ := v
     obtain ⟨rfl, mm, rfl, hm1, hm2, hm3, hnx⟩ := hres
     have hm1 : i + 1 + mm ≤ p.l.length := hm1
     refine T.bind (takeT 6 [41] _ rfl (by show i + 1 + mm ≤ 100000; omega)) fun res hres => ?_
     rcases hres with ⟨f, rfl⟩ | ⟨rfl, ht1, ht2⟩
     ·exact .ret ⟨_, rfl⟩
     have ht1 : i + 1 + mm < p.l.length := ht1
     have s2 := hnx.sz
     exact .ret ⟨rfl, mm + 2, by congr 1; omega, by omega, Bal.wrap hlt.2 hm2 ht2, by rw [node_eta]; exact ⟨hnx.gn, by omega, hnx.adv⟩⟩
   refine T.bind (failT 2 (by omega) p) fun r hr => ?_
   obtain ⟨f, rfl⟩ := hr
   exact .ret ⟨_, rfl⟩
  have htok := h.words.text _ (List.getElem_mem hi)
  have hlit := h.words.lit _ (List.getElem_mem hi)
  have hlit' : Flat (Arr.mk p.l[i].lit.shape p.l[i].lit.cells) := ⟨hlit.shape, hlit.len, hlit.box⟩
  refine T.bind (R := R) ?_ fun res hres => ?_
  ·by_cases k1 : p.l[i].kind = 1
   ·rw [if_pos (by simpa using k1)]
    exact .ret (leaf 1 _ _ _ (by decide) (by simp) hlit' (by rw [hkd, k1]; decide))
   rw [if_neg (by simpa using k1)]
   by_cases k2 : p.l[i].kind = 2
   ·rw [if_pos (by simpa using k2)]
    exact .ret (leaf 1 _ _ _ (by decide) (by simp) hlit' (by rw [hkd, k2]; decide))
   rw [if_neg (by simpa using k2)]
   by_cases k3 : p.l[i].kind = 3
   ·have b0 : bk (kd p.l i) = 0 := by rw [hkd, k3]; decide
    have e3 : (p.l[i].kind == 3) = true := by simpa using k3
    have hname : T (p_core_Name p.l[i].text) fun _ => True := core_Name_T (by omega)
    have var : R (.ok (2, 0, p.l[i].text, [], [], [], p.l[i].at_, w64 ((i : Int) + 1), p.deep, p.in_)) := leaf 2 _ _ _ (by decide) htok flat_nil b0
    have lft : R (.ok (3, 0, [], [], [], [], p.l[i].at_, w64 ((i : Int) + 1), p.deep, p.in_)) := leaf 3 _ _ _ (by decide) (by simp) flat_nil b0
    have rgt : R (.ok (4, 0, [], [], [], [], p.l[i].at_, w64 ((i : Int) + 1), p.deep, p.in_)) := leaf 4 _ _ _ (by decide) (by simp) flat_nil b0
    simp only [e3, if_true]
    repeat' (first | exact .ret var | exact .ret lft | exact .ret rgt | exact par | (refine T.bind hname fun _ _ => ?_) | refine T.ite (fun _ => ?_) fun _ => ?_)
   have e3 : (p.l[i].kind == 3) = false := by simpa using k3
   simp only [e3, Bool.false_eq_true, if_false]
   exact par
  cases res with
  | error r => obtain ⟨e, rfl⟩ := hres; exact .ret trivial
  | ok v =>
   obtain ⟨n0, n1, n2, n3, n4, n5, n6, i', d', in'⟩ := v
   obtain ⟨rfl, m, rfl, hm1, hbal, hnb⟩ := hres
   refine T.bind (operand_l0_T h.words h.gr h.d0 h.d1 i p.l[i] hx (p.l.length - (i + m)) (i + m) (by omega) m n0 n1 n2 n3 n4 n5 n6 in' rfl hbal hnb) fun res hres => ?_
   cases res with
   | error r => obtain ⟨e, rfl⟩ := hres; exact .ret trivial
   | ok v =>
    obtain ⟨n0, n1, n2, n3, n4, n5, n6, i', d', in'⟩ := v
    exact .ret hres
 rw [if_pos (by rw [hat]; simp; omega)]
 refine T.bind (R := fun r => ∃ e, r = .error (.error e)) ?_ fun r hr => by obtain ⟨e, rfl⟩ := hr; exact .ret trivial
 refine T.bind (failT 2 (by omega) p) fun r hr => ?_
 obtain ⟨f, rfl⟩ := hr
 exact .ret ⟨_, rfl⟩
end Go.AM.Seat

namespace Go.AM.Seat
open Go Go.AM
set_option maxRecDepth 10000
set_option maxHeartbeats 1000000
theorem expr_1_eq (g : Grammar) (l : List Token) (i e d n : Int) (h0 : -1000 ≤ d) (h1 : d ≤ 1000) : p_grammar_parser_expr_1 ⟨g, l, i, e, d, n⟩ = some (d - 1) := by
 unfold p_grammar_parser_expr_1
 rw [w64_id (by show _ ≤ d - 1; omega) (by show d - 1 < _; omega)]
theorem expr_1_T (p : Grammar_parser) : T (p_grammar_parser_expr_1 p) fun _ => True := ⟨_, rfl, trivial⟩
theorem expr_T {p : Grammar_parser} {i : Nat} (h : Ok p i) (hx : ∀ q2 j, q2.g = p.g → q2.l = p.l → q2.deep = p.deep + 1 → Ok q2 j → EXT q2 j)
  (hf : ∀ q2 j, q2.g = p.g → q2.l = p.l → q2.deep = p.deep + 1 → Ok q2 j → FNT q2 j) : EXT p i := by
 have hlen := h.words.len
 have hat := h.at_
 have hle := h.le
 have hd0 := h.d0
 have hd1 := h.d1
 unfold EXT
 rw [p_grammar_parser_expr]
 rcases down_eq p (by omega) h.d0 h.d1 with ⟨hlt, hdn⟩ | ⟨_, f, hdn, _⟩
 ·rw [hdn]
  refine T.bind (R := fun x => x = .ok (p.deep + 1)) ⟨_, rfl, rfl⟩ fun x hxx => ?_
  subst hxx
  dsimp only
  refine T.bind (here_T (by show 0 ≤ p.i; omega)) fun at_ _ => ?_
  have mkOk : ∀ (k : Nat) (in_ : Int), k ≤ p.l.length → Ok ⟨p.g, p.l, (k : Int), p.end_, p.deep + 1, in_⟩ k := fun k in_ hk => ⟨h.words, h.gr, rfl, hk, by show 0 ≤ p.deep + 1; omega, by show p.deep + 1 ≤ 24; omega⟩
  have err : ∀ (e : Fault) (a b c : Int), T (p_grammar_parser_expr_1 (Grammar_parser.mk p.g p.l a p.end_ b c) >>= fun d => some (Except.error (e, a, d, c) : PR)) (OkR (EXQ p i)) := fun e a b c => T.bind (expr_1_T _) fun _ _ => .ret trivial
  have tail : ∀ (k : Nat) (in_ : Int) (F : Node → Int → Node), i ≤ k → k ≤ p.l.length → Bal p.l i (k - i) → (∀ x m, NB x m → ∀ a, NB (F x a) (k - i + m)) →
    T (p_grammar_parser_expr (Grammar_parser.mk p.g p.l (k : Int) p.end_ (p.deep + 1) in_) >>= fun res => match res with
     | .error (e, i2, deep4, in_2) =>
       p_grammar_parser_expr_1 (Grammar_parser.mk p.g p.l i2 p.end_ deep4 in_2) >>= fun deep5 =>
       some (.error (e, i2, deep5, in_2))
     | .ok (x2, i1, deep2, in_1) =>
      p_grammar_parser_expr_1 (Grammar_parser.mk p.g p.l i1 p.end_ deep2 in_1) >>= fun deep3 =>
      some (.ok (F x2 at_, i1, deep3, in_1))) (OkR (EXQ p i)) := by
   intro k in_ F hik hk hb hF
   refine T.bind (hx _ k rfl rfl rfl (mkOk k in_ hk)) fun res hres => ?_
   cases res with
   | error e => obtain ⟨a1, a2, a3, a4⟩ := e; exact err _ _ _ _
   | ok v =>
    obtain ⟨x, i', d', in'⟩ := v
    obtain ⟨rfl, m, rfl, hm1, hm2, hm3, hnb⟩ := hres
    dsimp only
    rw [expr_1_eq _ _ _ _ _ _ (by omega) (by omega)]
    refine T.bind (R := fun d => d = p.deep) ⟨_, rfl, by omega⟩ fun d hd => ?_
    subst hd
    refine .ret ⟨rfl, k - i + m, by congr 1; omega, by have : k + m ≤ p.l.length := hm1; omega, hb.append (by rw [show i + (k - i) = k from by omega]; exact hm2), ?_, hF _ _ hnb _⟩
    rw [show i + (k - i + m) = k + m from by omega]
    exact hm3
  rw [hat]
  obtain ⟨sk, hsk, hsp⟩ := skip_T (p := ⟨p.g, p.l, (i : Int), p.end_, p.deep + 1, p.in_⟩) hlen h.gr (p.l.length + 1 - i) i false (by show i + (p.l.length + 1 - i) = p.l.length + 1; omega)
  refine T.bind (R := fun x => x = sk) ⟨_, hsk, rfl⟩ fun x hxx => ?_
  subst hxx
  refine T.ite (fun hge => ?_) fun hge => ?_
  ·simp only [ge_iff_le, decide_eq_true_eq] at hge
   rcases hsp with hlt0 | ⟨n, hn, rfl, hnl, hbal⟩
   ·omega
   have hnl : i + n ≤ p.l.length := hnl
   refine T.bind (hf ⟨p.g, p.l, (i : Int), p.end_, p.deep + 1, p.in_⟩ i rfl rfl rfl (mkOk i p.in_ hle) false ⟨p.g, p.l, (i : Int), p.end_, p.deep + 1, p.in_⟩ _ rfl rfl hsk (by omega)) fun res hres => ?_
   cases res with
   | error e => obtain ⟨a1, a2, a3, a4⟩ := e; exact err _ _ _ _
   | ok v =>
    obtain ⟨x1, i', d', in'⟩ := v
    obtain ⟨rfl, rfl, m, hm, hnb⟩ := hres
    obtain rfl : m = n := by omega
    refine tail (i + m) in' (fun x2 a => Node.mk 5 0 [] (Arr.mk [] []) [x1, x2] a) (by omega) hnl (by rw [show i + m - i = m from by omega]; exact hbal) fun x c hxc a => ?_
    refine ⟨.of flat_nil (by simp) (by simp) ?_, ?_, fun h => by simp [Node.kind] at h⟩
    ·intro z hz
     rcases List.mem_cons.1 hz with rfl | hz
     ·exact hnb.gn
     rw [List.mem_singleton] at hz; subst hz; exact hxc.gn
    have s1 := hnb.sz
    have s2 := hxc.sz
    rw [sz_eq]; simp only [Node.kids, Node.szL]; omega
  refine T.bind (operand_T (p := ⟨p.g, p.l, (i : Int), p.end_, p.deep + 1, p.in_⟩) (mkOk i p.in_ hle) hx) fun res hres => ?_
  cases res with
  | error e => obtain ⟨a1, a2, a3, a4⟩ := e; exact err _ _ _ _
  | ok v =>
   obtain ⟨x3, i4, d8, in4⟩ := v
   obtain ⟨rfl, m3, rfl, hm3, hbal3, hnb3⟩ := hres
   have hm3 : i + m3 ≤ p.l.length := hm3
   have hbal3 : Bal p.l i m3 := hbal3
   dsimp only
   have stop : (i + m3 = p.l.length ∨ kd p.l (i + m3) = 6) → T (p_grammar_parser_expr_1 (Grammar_parser.mk p.g p.l ((i + m3 : Nat) : Int) p.end_ (p.deep + 1) in4) >>= fun d => some (Except.error (Except.ok (x3, ((i + m3 : Nat) : Int), d, in4)) : Except PR Unit)) fun r => match r with
     | .error r => OkR (EXQ p i) r
     | .ok _ => ∃ sk, p_grammar_parser_skip (((i + m3 : Nat) : Int), true, ⟨p.g, p.l, ((i + m3 : Nat) : Int), p.end_, p.deep + 1, in4⟩) = some sk ∧ 0 ≤ sk := by
    intro hend
    rw [expr_1_eq _ _ _ _ _ _ (by omega) (by omega)]
    refine T.bind (R := fun d => d = p.deep) ⟨_, rfl, by omega⟩ fun d hd => ?_
    subst hd
    exact .ret ⟨rfl, m3, rfl, hm3, hbal3, hend, hnb3⟩
   refine T.bind (R := fun r => match r with
     | .error r => OkR (EXQ p i) r
     | .ok _ => ∃ sk, p_grammar_parser_skip (((i + m3 : Nat) : Int), true, ⟨p.g, p.l, ((i + m3 : Nat) : Int), p.end_, p.deep + 1, in4⟩) = some sk ∧ 0 ≤ sk) ?_ fun r hr => ?_
   ·refine T.ite (fun hge => stop (.inl (by simp at hge; omega))) fun hge => ?_
    have hlt4 : i + m3 < p.l.length := by simp at hge; omega
    rw [tok_lget hlt4]
    refine T.bind (R := fun y => y = p.l[i + m3]) ⟨_, rfl, rfl⟩ fun y hy => ?_
    subst hy
    refine T.ite (fun h6 => stop (.inr (by rw [kd_lt hlt4]; simpa using h6))) fun _ => ?_
    obtain ⟨sk4, hsk4, hsp4⟩ := skip_T (p := ⟨p.g, p.l, ((i + m3 : Nat) : Int), p.end_, p.deep + 1, in4⟩) hlen h.gr (p.l.length + 1 - (i + m3)) (i + m3) true (by show i + m3 + (p.l.length + 1 - (i + m3)) = p.l.length + 1; omega)
    refine T.bind (R := fun x => x = sk4) ⟨_, hsk4, rfl⟩ fun x hxx => ?_
    subst hxx
    refine T.ite (fun _ => ?_) fun hneg => .ret ⟨x, hsk4, by simpa using hneg⟩
    refine T.bind (failT 2 (by omega) _) fun r hr => ?_
    obtain ⟨f, rfl⟩ := hr
    exact T.bind (expr_1_T _) fun _ _ => .ret trivial
   cases r with
   | error r => exact .ret hr
   | ok u =>
    obtain ⟨sk4, hsk4, hge4⟩ := hr
    dsimp only
    obtain ⟨sk5, hsk5, hsp4⟩ := skip_T (p := ⟨p.g, p.l, ((i + m3 : Nat) : Int), p.end_, p.deep + 1, in4⟩) hlen h.gr (p.l.length + 1 - (i + m3)) (i + m3) true (by show i + m3 + (p.l.length + 1 - (i + m3)) = p.l.length + 1; omega)
    rw [hsk4, Option.some.injEq] at hsk5
    subst hsk5
    rcases hsp4 with hlt0 | ⟨n5, hn5, rfl, hnl5, hbal5⟩
    ·omega
    have hnl5 : i + m3 + n5 ≤ p.l.length := hnl5
    refine T.bind (hf ⟨p.g, p.l, ((i + m3 : Nat) : Int), p.end_, p.deep + 1, in4⟩ (i + m3) rfl rfl rfl (mkOk (i + m3) in4 hm3) true ⟨p.g, p.l, ((i + m3 : Nat) : Int), p.end_, p.deep + 1, in4⟩ _ rfl rfl hsk4 (by omega)) fun res hres => ?_
    cases res with
    | error e => obtain ⟨a1, a2, a3, a4⟩ := e; exact err _ _ _ _
    | ok v =>
     obtain ⟨x5, i5, d12, in5⟩ := v
     obtain ⟨rfl, rfl, m5, hm5, hnb5⟩ := hres
     obtain rfl : m5 = n5 := by omega
     have hbb : Bal p.l i (i + m3 + m5 - i) := by rw [show i + m3 + m5 - i = m3 + m5 from by omega]; exact hbal3.append hbal5
     have dy := tail (i + m3 + m5) in5 (fun x2 a => Node.mk 6 0 [] (Arr.mk [] []) [x5, x3, x2] a) (by omega) hnl5 hbb fun x c hxc a => by
      refine ⟨.of flat_nil (by simp) (by simp) ?_, ?_, fun h => by simp [Node.kind] at h⟩
      ·intro z hz
       simp only [List.mem_cons, List.not_mem_nil, or_false] at hz
       rcases hz with rfl | rfl | rfl
       ·exact hnb5.gn
       ·exact hnb3.gn
       exact hxc.gn
      have s1 := hnb5.sz
      have s2 := hxc.sz
      have s3 := hnb3.sz
      rw [sz_eq]; simp only [Node.kids, Node.szL]; omega
     dsimp only
     refine T.ite (fun _ => T.ite (fun h24 => T.ite (fun _ => ?_) fun _ => dy) fun _ => dy) fun _ => dy
     have hk5 := hnb5.adv (by simpa using h24)
     refine T.bind (T.lget (Q := fun _ => True) (by omega) (by omega) fun _ _ => trivial) fun y1 _ => ?_
     refine T.ite (fun _ => T.ite (fun _ => ?_) fun _ => dy) fun _ => dy
     refine T.bind (times_T _) fun nk _ => ?_
     obtain ⟨n, ok⟩ := nk
     refine T.bind (R := fun r => match r with | .error r => ∃ e, r = .error e | .ok _ => True) ?_ fun r hr => ?_
     ·refine T.ite (fun _ => ?_) fun _ => .ret trivial
      refine T.bind (failT 2 (by omega) _) fun r hr => ?_
      obtain ⟨f, rfl⟩ := hr
      exact T.bind (expr_1_T _) fun _ _ => .ret ⟨_, rfl⟩
     cases r with
     | error r => obtain ⟨e, rfl⟩ := hr; exact .ret trivial
     | ok u =>
      refine tail (i + m3 + m5) in5 (fun x2 a => Node.mk 5 0 [] (Arr.mk [] []) [Node.mk 26 n [] (Arr.mk [] []) x5.kids a, x2] a) (by omega) hnl5 hbb fun x c hxc a => ?_
      refine ⟨.of flat_nil (by simp) (by simp) ?_, ?_, fun h => by simp [Node.kind] at h⟩
      ·intro z hz
       rcases List.mem_cons.1 hz with rfl | hz
       ·exact .of flat_nil (by simp) hnb5.gn.len fun w hw => hnb5.gn.kid hw
       rw [List.mem_singleton] at hz; subst hz; exact hxc.gn
      have s1 := hnb5.sz
      have s2 := hxc.sz
      have s5 : (Node.mk 26 n [] (Arr.mk [] []) x5.kids a).sz = x5.sz := by rw [sz_eq, sz_eq x5]; rfl
      rw [sz_eq]; simp only [Node.kids, Node.szL]; simp only [Node.kids] at s5; rw [s5]; omega
 rw [hdn]
 refine T.bind (R := fun x => x = .error (f, 25)) ⟨_, rfl, rfl⟩ fun x hxx => ?_
 subst hxx
 exact .ret trivial
theorem parse_T : ∀ (m : Nat) (p : Grammar_parser) (i : Nat), Ok p i → 24 - p.deep ≤ (m : Int) → EXT p i ∧ FNT p i := by
 intro m
 induction m with
 | zero =>
  intro p i h hm
  have hd1 := h.d1
  have none : ∀ {q2 : Grammar_parser} {j : Nat}, q2.deep = p.deep + 1 → Ok q2 j → False := by
   intro q2 j e ok
   have := ok.d1
   omega
  exact ⟨expr_T h (fun q2 j _ _ e ok => (none e ok).elim) fun q2 j _ _ e ok => (none e ok).elim, function_T h (fun q2 j _ _ e ok => (none e ok).elim) fun q2 j _ _ e ok => (none e ok).elim⟩
 | succ m ih =>
  intro p i h hm
  have go : ∀ {q2 : Grammar_parser} {j : Nat}, q2.deep = p.deep + 1 → Ok q2 j → EXT q2 j ∧ FNT q2 j := fun e ok => ih _ _ ok (by omega)
  exact ⟨expr_T h (fun q2 j _ _ e ok => (go e ok).1) fun q2 j _ _ e ok => (go e ok).2, function_T h (fun q2 j _ _ e ok => (go e ok).1) fun q2 j _ _ e ok => (go e ok).2⟩
theorem Parse_T {g : Grammar} {l : List Token} (hg : Gr g) (hw : WordsOK l) (e : Int) : T (p_grammar_Parse g l e) fun r => GN r.1 ∧ r.1.sz ≤ 5000 := by
 have hlen := hw.len
 have z : ∀ (a b : Int), GN (Node.mk a b [] (Arr.mk [] []) [] 0) := fun a b => .of flat_nil (by simp) (by simp) (by simp)
 have hz : GN (Node.mk 0 0 [] (Arr.mk [] []) [] 0) ∧ (Node.mk 0 0 [] (Arr.mk [] []) [] 0).sz ≤ 5000 := ⟨z _ _, by rw [sz_eq]; simp [Node.kids, Node.szL]⟩
 unfold p_grammar_Parse
 have hok : Ok ⟨g, l, ((0 : Nat) : Int), e, 0, 0⟩ 0 := ⟨hw, hg, rfl, Nat.zero_le _, Int.le_refl _, by show (0 : Int) ≤ 24; decide⟩
 refine T.bind ((parse_T 24 _ 0 hok (by show (24 : Int) - 0 ≤ _; decide)).1) fun res hres => ?_
 cases res with
 | error v =>
  obtain ⟨a1, a2, a3, a4⟩ := v
  exact .ret hz
 | ok v =>
  obtain ⟨x, i', d', in'⟩ := v
  obtain ⟨rfl, m, rfl, hm1, hm2, hm3, hnb⟩ := hres
  have hm1 : 0 + m ≤ l.length := hm1
  have hs := hnb.sz
  refine T.bind (R := fun r => match r with | .error r => GN r.1 ∧ r.1.sz ≤ 5000 | .ok _ => True) ?_ fun r hr => ?_
  ·refine T.ite (fun _ => ?_) fun _ => .ret trivial
   refine T.bind (failT 2 (by omega) _) fun r hr => ?_
   obtain ⟨f, rfl⟩ := hr
   exact .ret hz
  cases r with
  | error r => exact .ret hr
  | ok u => exact .ret ⟨hnb.gn, by show x.sz ≤ 5000; omega⟩
end Go.AM.Seat

namespace Go.AM.Seat
open Go Go.AM
set_option maxRecDepth 10000
set_option maxHeartbeats 1000000
theorem w64_succ' {n : Nat} (h : n < 100000) : w64 ((n : Int) + 1) = ((n + 1 : Nat) : Int) := by rw [w64_id (by omega) (by omega)]; omega
def At (s : Str) (r : Int) : Prop := ∃ j : Nat, r = (j : Int) ∧ j ≤ s.length
structure TokOK (t : Token) : Prop where
 lit : Flat t.lit
 text : t.text.length ≤ 9000
 atom : t.kind = 1 → t.lit.shape = [] → t.lit.cells ≠ []
theorem adigit_T (c : Int) : T (p_alex_digit c) fun r => r = true → 48 ≤ c := by
 unfold p_alex_digit
 exact T.ite (fun h => .ret fun _ => by simpa using h) fun _ => .ret fun h => by simp at h
theorem aletter_T (c : Int) : T (p_alex_letter c) fun r => r = true → 97 ≤ c := by
 unfold p_alex_letter
 exact T.ite (fun h => .ret fun _ => by simpa using h) fun _ => .ret fun h => by simp at h
theorem fail_T (e a : Int) (b : Str) (at_ err at_1 why : Int) : T (p_alex_lexer_fail e a b at_ err at_1 why) fun _ => True := by
 unfold p_alex_lexer_fail
 exact T.ite (fun _ => .ret trivial) fun _ => .ret trivial
theorem byte_T {b : Str} {i : Nat} {k err at_1 why : Int} (hl : b.length ≤ 8192) (hi : i ≤ b.length) (hk0 : 0 ≤ k) (hk1 : k ≤ 100000) :
  T (p_alex_lexer_byte k b (i : Int) err at_1 why) fun c => c ≠ 0 → (i : Int) + k < b.length := by
 unfold p_alex_lexer_byte
 rw [w64_id (by omega) (by omega)]
 refine T.ite (fun h => ?_) fun _ => .ret fun h => absurd rfl h
 have h : (i : Int) + k < b.length := by simpa using h
 exact T.bind (T.sget (Q := fun _ => True) (by omega) h fun _ _ => trivial) fun c _ => .ret fun _ => h
theorem hasPrefix_T (s p : Str) : T (p_stringslite_HasPrefix s p) fun r => r = true → p.length ≤ s.length := by
 unfold p_stringslite_HasPrefix
 refine T.ite (fun h => ?_) fun _ => .ret fun h => by simp at h
 have h : p.length ≤ s.length := by simp at h; omega
 exact ⟨_, by unfold AM.sto; rw [if_pos ⟨by omega, by omega⟩]; rfl, fun _ => h⟩
theorem sHasPrefix_T (s p : Str) : T (p_strings_HasPrefix s p) fun _ => True := by
 unfold p_strings_HasPrefix
 exact T.bind (hasPrefix_T s p) fun r _ => .ret trivial
theorem cut_T (s : Str) : T (p_strings_CutPrefix s [194, 175]) fun r => (r.2 = true ∧ r.1.length + 2 = s.length) ∨ (r.2 = false ∧ r.1 = s) := by
 unfold p_strings_CutPrefix p_stringslite_CutPrefix
 refine T.bind (R := fun r => (r.2 = true ∧ r.1.length + 2 = s.length) ∨ (r.2 = false ∧ r.1 = s)) ?_ fun r hr => .ret hr
 refine T.bind (hasPrefix_T s [194, 175]) fun r hr => T.ite (fun _ => .ret (.inr ⟨rfl, rfl⟩)) fun h => ?_
 have h2 : (2 : Nat) ≤ s.length := hr (by simpa using h)
 refine T.bind (T.sfrom (Q := fun x => x = s.drop 2) (by decide) (by show ((2 : Nat) : Int) ≤ s.length; omega) rfl) fun x hx => .ret (.inl ⟨rfl, ?_⟩)
 rw [hx]; simp; omega
theorem anumber_T {b : Str} {i : Nat} (err at_1 why : Int) (hl : b.length ≤ 8192) (hi : i ≤ b.length) : T (p_alex_lexer_number b (i : Int) err at_1 why) fun r => r = true → i < b.length := by
 unfold p_alex_lexer_number
 refine T.bind (T.sfrom (Q := fun s => s = b.drop i) (by omega) (by omega) rfl) fun s hs => ?_
 subst hs
 refine T.bind (cut_T _) fun r hr => ?_
 obtain ⟨rest, below⟩ := r
 have hlen : (b.drop i).length = b.length - i := by simp
 have hr : (below = true ∧ rest.length + 2 = (b.drop i).length) ∨ (below = false ∧ rest = b.drop i) := hr
 refine T.ite (fun h => ?_) fun _ => .ret fun h => by simp at h
 have h0 : 0 < rest.length := by simpa using h
 have hib : i < b.length := by
  rcases hr with ⟨_, h⟩ | ⟨_, h⟩
  ·omega
  rw [h, hlen] at h0; omega
 refine T.bind (T.sget (Q := fun _ => True) (by omega) (by omega) fun _ _ => trivial) fun c _ => ?_
 refine T.bind (adigit_T c) fun x _ => T.ite (fun _ => ?_) fun _ => .ret fun h => by simp at h
 refine T.ite (fun _ => .ret fun _ => hib) fun _ => ?_
 refine T.bind (T.sget (Q := fun _ => True) (by omega) (by omega) fun _ _ => trivial) fun c _ => T.bind (adigit_T c) fun x _ => .ret fun _ => hib
theorem one_T {b : Str} {i : Nat} (err at_1 why : Int) (hl : b.length ≤ 8192) (hi : i ≤ b.length) : T (p_alex_lexer_one b (i : Int) err at_1 why) fun r => ∃ j : Nat, r.2.1 = (j : Int) ∧ i ≤ j ∧ j ≤ b.length := by
 have loop : ∀ (rest : Str), rest.length ≤ 8192 → ∀ (d k : Nat) (n : Int) (over : Bool), k + d = rest.length → T (p_alex_lexer_one_l0 (rest, n, over, (k : Int))) fun r => ∃ j : Nat, r.2.2 = (j : Int) ∧ j ≤ rest.length := by
  intro rest hrl d
  induction d with
  | zero => intro k n over hk; rw [p_alex_lexer_one_l0, if_neg (by simp; omega)]; exact .ret ⟨k, rfl, by omega⟩
  | succ d ih =>
   intro k n over hk
   rw [p_alex_lexer_one_l0, if_pos (by simp; omega), w64_succ' (by omega)]
   refine T.bind (T.sget (Q := fun _ => True) (by omega) (by omega) fun _ _ => trivial) fun c _ => ?_
   refine T.bind (adigit_T c) fun x _ => T.ite (fun _ => ?_) fun _ => .ret ⟨k, rfl, by omega⟩
   refine T.bind (T.sget (Q := fun _ => True) (by omega) (by omega) fun _ _ => trivial) fun c1 _ => ?_
   exact T.ite (fun _ => ih (k + 1) _ _ (by omega)) fun _ => ih (k + 1) _ _ (by omega)
 unfold p_alex_lexer_one
 refine T.bind (T.sfrom (Q := fun s => s = b.drop i) (by omega) (by omega) rfl) fun s hs => ?_
 subst hs
 refine T.bind (cut_T _) fun r hr => ?_
 obtain ⟨rest, below⟩ := r
 have hlen : (b.drop i).length = b.length - i := by simp
 have hr : (below = true ∧ rest.length + 2 = (b.drop i).length) ∨ (below = false ∧ rest = b.drop i) := hr
 refine T.bind (R := fun x => ∃ j : Nat, x = (j : Int) ∧ i ≤ j ∧ j + rest.length = b.length) ?_ fun x1 hx1 => ?_
 ·refine T.ite (fun h => ?_) fun h => ?_
  ·rcases hr with ⟨_, h2⟩ | ⟨h2, _⟩
   ·rw [w64_id (by omega) (by omega)]
    exact .ret ⟨i + 2, by omega, by omega, by omega⟩
   ·rw [h2] at h; simp at h
  ·rcases hr with ⟨h2, _⟩ | ⟨_, h2⟩
   ·rw [h2] at h; simp at h
   ·exact .ret ⟨i, rfl, Nat.le_refl _, by rw [h2, hlen]; omega⟩
 obtain ⟨j, rfl, hj1, hj2⟩ := hx1
 refine T.bind (loop rest (by omega) _ 0 0 false (Nat.zero_add _)) fun r hr2 => ?_
 obtain ⟨n1, over1, k1⟩ := r
 obtain ⟨k, hk, hkl⟩ := hr2
 have hk : k1 = (k : Int) := hk
 subst hk
 have hw : w64 ((j : Int) + (k : Int)) = ((j + k : Nat) : Int) := by rw [w64_id (by omega) (by omega)]; omega
 have fin : ∃ q : Nat, ((j + k : Nat) : Int) = (q : Int) ∧ i ≤ q ∧ q ≤ b.length := ⟨j + k, rfl, by omega, by omega⟩
 refine T.bind (R := fun r => ∀ e, r = .error e → ∃ q : Nat, e.2.1 = (q : Int) ∧ i ≤ q ∧ q ≤ b.length) ?_ fun r hr3 => ?_
 ·rw [hw]
  have failed : T (p_alex_lexer_fail 2 (i : Int) b ((j + k : Nat) : Int) err at_1 why >>= fun (err1, at_2, why1) => some (Except.error (0, ((j + k : Nat) : Int), err1, at_2, why1) : Except (Int × Int × Int × Int × Int) Unit)) (fun r => ∀ e, r = .error e → ∃ q : Nat, e.2.1 = (q : Int) ∧ i ≤ q ∧ q ≤ b.length) :=
   T.bind (fail_T _ _ _ _ _ _ _) fun r _ => .ret fun e he => by cases he; exact fin
  refine T.ite (fun _ => failed) fun _ => ?_
  have good : ∀ v : Int, T (some (Except.error (v, ((j + k : Nat) : Int), err, at_1, why) : Except (Int × Int × Int × Int × Int) Unit)) (fun r => ∀ e, r = .error e → ∃ q : Nat, e.2.1 = (q : Int) ∧ i ≤ q ∧ q ≤ b.length) :=
   fun v => .ret fun e he => by cases he; exact fin
  have okk : T (some (Except.ok () : Except (Int × Int × Int × Int × Int) Unit)) (fun r => ∀ e, r = .error e → ∃ q : Nat, e.2.1 = (q : Int) ∧ i ≤ q ∧ q ≤ b.length) := .ret fun e he => by cases he
  exact T.ite (fun _ => T.ite (fun _ => failed) fun _ => T.ite (fun _ => good _) fun _ => okk) fun _ => T.ite (fun _ => good _) fun _ => okk
 cases r with
 | error e => exact .ret (hr3 e rfl)
 | ok u =>
  refine .ret ?_
  show ∃ q : Nat, w64 ((j : Int) + (k : Int)) = (q : Int) ∧ i ≤ q ∧ q ≤ b.length
  rw [hw]; exact fin
theorem Nums_T {l : List Int} (hl : l.length ≤ 9000) : T (p_arr_Nums l) fun a => Flat a ∧ a.shape ≠ [] := by
 have loop : ∀ (d i : Nat) (c : List Cell), i + d = l.length → c.length = i → (∀ x ∈ c, x.box = []) → T (p_arr_Nums_l0 (l, (i : Int), c)) fun r => r.length ≤ 9000 ∧ ∀ x ∈ r, x.box = [] := by
  intro d
  induction d with
  | zero => intro i c hi hc hb; rw [p_arr_Nums_l0, if_neg (by simp; omega)]; exact .ret ⟨by omega, hb⟩
  | succ d ih =>
   intro i c hi hc hb
   rw [p_arr_Nums_l0, if_pos (by simp; omega), w64_succ' (by omega)]
   refine T.bind (T.lget (Q := fun _ => True) (by omega) (by omega) fun _ _ => trivial) fun n _ => ?_
   refine T.bind (T.lapp (Q := fun r => r = c ++ [Cell.mk 0 n []]) (by simp; omega) rfl) fun r hr => ?_
   subst hr
   refine ih (i + 1) _ (by omega) (by simp [hc]) fun x hx => ?_
   rcases List.mem_append.1 hx with h | h
   ·exact hb x h
   rw [List.mem_singleton] at h; subst h; rfl
 unfold p_arr_Nums
 exact T.bind (loop _ 0 [] (Nat.zero_add _) rfl (by simp)) fun r hr => .ret ⟨⟨by simp [Arr.shape], hr.1, hr.2⟩, by simp [Arr.shape]⟩
theorem Text_T {l : List Int} (hl : l.length ≤ 9000) : T (p_arr_Text l) Flat := by
 have loop : ∀ (d i : Nat) (c : List Cell), i + d = l.length → c.length = i → (∀ x ∈ c, x.box = []) → T (p_arr_Text_l0 (l, (i : Int), c)) fun r => r.length ≤ 9000 ∧ ∀ x ∈ r, x.box = [] := by
  intro d
  induction d with
  | zero => intro i c hi hc hb; rw [p_arr_Text_l0, if_neg (by simp; omega)]; exact .ret ⟨by omega, hb⟩
  | succ d ih =>
   intro i c hi hc hb
   rw [p_arr_Text_l0, if_pos (by simp; omega), w64_succ' (by omega)]
   refine T.bind (T.lget (Q := fun _ => True) (by omega) (by omega) fun _ _ => trivial) fun n _ => ?_
   refine T.bind (T.lapp (Q := fun r => r = c ++ [Cell.mk 1 n []]) (by simp; omega) rfl) fun r hr => ?_
   subst hr
   refine ih (i + 1) _ (by omega) (by simp [hc]) fun x hx => ?_
   rcases List.mem_append.1 hx with h | h
   ·exact hb x h
   rw [List.mem_singleton] at h; subst h; rfl
 unfold p_arr_Text
 refine T.bind (R := fun s => s.length ≤ 1) (T.ite (fun _ => .ret (by simp)) fun _ => .ret (by simp)) fun s hs => ?_
 exact T.bind (loop _ 0 [] (Nat.zero_add _) rfl (by simp)) fun r hr => .ret ⟨hs, hr.1, hr.2⟩
theorem numbers_T {b : Str} {i : Nat} (err at_1 why : Int) (hl : b.length ≤ 8192) (hi : i ≤ b.length) : T (p_alex_lexer_numbers b (i : Int) err at_1 why) fun r => TokOK r.1 ∧ At b r.2.1 := by
 have blanks : ∀ (x3 x4 x5 : Int) (d k : Nat), k + d = b.length → T (p_alex_lexer_numbers_l1 (b, x3, x4, x5, (k : Int))) fun r => ∃ j : Nat, r = (j : Int) ∧ k ≤ j ∧ j ≤ b.length := by
  intro x3 x4 x5 d
  induction d with
  | zero =>
   intro k hk
   rw [p_alex_lexer_numbers_l1]
   refine T.bind (byte_T (i := k) hl (by omega) (by decide) (by decide)) fun c hc => T.ite (fun h => ?_) fun _ => .ret ⟨k, rfl, Nat.le_refl _, by omega⟩
   exfalso
   have h : c = 32 := by simpa using h
   have := hc (by omega)
   omega
  | succ d ih =>
   intro k hk
   rw [p_alex_lexer_numbers_l1]
   refine T.bind (byte_T (i := k) hl (by omega) (by decide) (by decide)) fun c hc => T.ite (fun h => ?_) fun _ => .ret ⟨k, rfl, Nat.le_refl _, by omega⟩
   rw [w64_succ' (by omega)]
   refine (ih (k + 1) (by omega)).imp fun r hr => ?_
   obtain ⟨j, rfl, h1, h2⟩ := hr
   exact ⟨j, rfl, by omega, h2⟩
 have loop : ∀ (d k : Nat) (l : List Int) (x3 x4 x5 : Int), k + d = b.length → l.length ≤ k + 1 → T (p_alex_lexer_numbers_l0 (b, l, (k : Int), x3, x4, x5)) fun r => r.1.length ≤ 9000 ∧ At b r.2.1 := by
  intro d
  induction d using Nat.strongRecOn with
  | ind d ih =>
   intro k l x3 x4 x5 hk hlk
   rw [p_alex_lexer_numbers_l0]
   have here : T (some (l, (k : Int), x3, x4, x5)) fun r => r.1.length ≤ 9000 ∧ At b r.2.1 := .ret ⟨by show l.length ≤ 9000; omega, k, rfl, by omega⟩
   refine T.ite (fun _ => ?_) fun _ => here
   refine T.bind (blanks x3 x4 x5 d k hk) fun r hr => ?_
   obtain ⟨j, rfl, hj1, hj2⟩ := hr
   refine T.ite (fun _ => here) fun hne => ?_
   have hkj : k < j := by
    have : (j : Int) ≠ (k : Int) := by simpa using hne
    omega
   refine T.bind (anumber_T x3 x4 x5 hl hj2) fun x6 _ => T.ite (fun _ => here) fun _ => ?_
   refine T.bind (one_T x3 x4 x5 hl hj2) fun r hr => ?_
   obtain ⟨x7, at_4, err2, at_5, why2⟩ := r
   obtain ⟨q, hq, hq1, hq2⟩ := hr
   have hq : at_4 = (q : Int) := hq
   subst hq
   refine T.bind (T.lapp (Q := fun r => r = l ++ [x7]) (by simp; omega) rfl) fun l1 hl1 => ?_
   subst hl1
   exact ih (b.length - q) (by omega) q (l ++ [x7]) err2 at_5 why2 (by omega) (by simp; omega)
 unfold p_alex_lexer_numbers
 refine T.bind (one_T err at_1 why hl hi) fun r hr => ?_
 obtain ⟨x, at_2, err1, at_3, why1⟩ := r
 obtain ⟨q, hq, hq1, hq2⟩ := hr
 have hq : at_2 = (q : Int) := hq
 subst hq
 refine T.bind (loop (b.length - q) q [x] err1 at_3 why1 (by omega) (by simp)) fun r hr => ?_
 obtain ⟨l2, c1, c3, c4, c5⟩ := r
 have hr : l2.length ≤ 9000 ∧ At b c1 := hr
 refine T.bind (Nums_T hr.1) fun x8 hx8 => ?_
 refine T.bind (R := fun r => Flat (Arr.mk r.1 r.2) ∧ (r.1 = [] → r.2 ≠ [])) ?_ fun r hr2 => ?_
 ·refine T.ite (fun h => ?_) fun _ => .ret ⟨⟨hx8.1.shape, hx8.1.len, hx8.1.box⟩, fun h => absurd h hx8.2⟩
  have h1 : l2.length = 1 := by simp at h; omega
  refine T.bind (T.lget (Q := fun _ => True) (by omega) (by omega) fun _ _ => trivial) fun y _ => ?_
  refine T.bind (R := fun a => a = Arr.mk [] [Cell.mk 0 y []]) ⟨_, rfl, rfl⟩ fun x9 hx9 => ?_
  subst hx9
  exact .ret ⟨⟨by simp [Arr.shape], by simp [Arr.cells], by intro c hc; simp [Arr.cells] at hc; subst hc; rfl⟩, fun _ => by simp [Arr.cells]⟩
 obtain ⟨t2, t3⟩ := r
 exact .ret ⟨⟨hr2.1, by simp, fun _ hs => hr2.2 hs⟩, hr.2⟩
end Go.AM.Seat

namespace Go.AM.Seat
open Go Go.AM Go.AM.Fx
set_option maxRecDepth 10000
theorem lget_eq {α : Type} {l : List α} {i : Int} {x : α} (h0 : 0 ≤ i) (h : l[i.toNat]? = some x) : lget l i = some x := by
 unfold lget; rw [if_pos h0, h]
theorem lapp_eq {α : Type} {l m : List α} (h : l.length + m.length ≤ 4294967296) : lapp l m = some (l ++ m) := by
 unfold lapp; rw [if_pos h]
theorem lget_cons {α : Type} {l : List α} {i : Int} {x : α} {r : List α} (h0 : 0 ≤ i) (h : l.drop i.toNat = x :: r) : lget l i = some x ∧ i < l.length ∧ l.drop (i + 1).toNat = r := by
 have h1 : l[i.toNat]? = some x := by
  have : (l.drop i.toNat)[0]? = some x := by rw [h]; rfl
  simpa using this
 have h2 : i.toNat < l.length := (List.getElem?_eq_some_iff.1 h1).1
 refine ⟨lget_eq h0 h1, by omega, ?_⟩
 rw [show (i + 1).toNat = i.toNat + 1 from by omega, ← List.drop_drop, h]; rfl
theorem drop_nil_le {α : Type} {l : List α} {i : Int} (h : l.drop i.toNat = []) : (l.length : Int) ≤ i ∨ i < 0 := by
 have : l.length ≤ i.toNat := by simpa using h
 omega
theorem first_eq (c : Int) : p_runes_first c = some (firstN c) := by
 unfold p_runes_first firstN
 simp only [decide_eq_true_eq]
 split
 ·rfl
 split
 ·rfl
 split
 ·rfl
 split
 ·rfl
 split <;> rfl
theorem firstN_bounds (c : Int) : 0 ≤ (firstN c).1 ∧ (firstN c).1 ≤ 4 := by
 unfold firstN
 split
 ·simp
 split
 ·simp
 split
 ·simp
 split
 ·simp
 split <;> simp
theorem Good_eq (n : Int) : p_runes_Good n = some (goodN n) := by
 unfold p_runes_Good goodN
 simp only [decide_eq_true_eq]
 split
 ·split
  ·split
   ·simp [*]
   ·rename_i h1 h2 h3; simp [h1, h2, h3]
  ·rename_i h1 h2; simp [h1, h2]
 rename_i h1; simp [h1]
theorem put_eq (n : Int) : ∃ l, p_runes_put_nil n = some l ∧ (l.length : Int) = widthN n := by
 unfold p_runes_put_nil widthN
 simp only [decide_eq_true_eq]
 split
 ·exact ⟨_, by rw [lapp_eq (by simp)]; rfl, by simp⟩
 split
 ·exact ⟨_, by rw [lapp_eq (by simp)]; rfl, by simp⟩
 split
 ·exact ⟨_, by rw [lapp_eq (by simp)]; rfl, by simp⟩
 exact ⟨_, by rw [lapp_eq (by simp)]; rfl, by simp⟩
theorem One_l0_eq {l : List Int} (hl : l.length < 4294967296) : ∀ (m : List Int) (x n : Int), 0 ≤ x → l.drop x.toNat = m → p_runes_One_l0 (l, n, x) = some (contGo m n)
 | [], x, n, h0, h => by
  rw [p_runes_One_l0]
  have := drop_nil_le h
  rw [if_neg (by simp; omega)]; rfl
 | c :: m, x, n, h0, h => by
  obtain ⟨h1, h2, h3⟩ := lget_cons h0 h
  rw [p_runes_One_l0]
  rw [if_pos (by simpa using h2), h1]
  simp only [Option.bind_eq_bind, Option.bind_some]
  by_cases hc : contN c = true
  ·rw [if_pos (by exact hc)]
   simp [contGo, hc]
  have hw : w64 (x + 1) = x + 1 := w64_id (by omega) (by omega)
  rw [if_neg (by exact hc), hw, One_l0_eq hl m (x + 1) _ (by omega) h3]
  simp only [contGo, if_neg hc]; rfl
theorem oneN_cons (c : Int) (r : List Int) : oneN (c :: r) = if (firstN c).1 = 0 then (0, 0) else if (firstN c).1 > (c :: r).length then (0, 0) else
  oneRest (firstN c).1 (contGo (r.take ((firstN c).1.toNat - 1)) (firstN c).2) := rfl
theorem One_eq {b : List Int} (hb : b.length < 4294967296) : p_runes_One b = some (oneN b) := by
 unfold p_runes_One
 cases b with
 | nil => rfl
 | cons c r =>
  rw [if_neg (by simp; omega), lget_eq (x := c) (by decide) rfl]
  simp only [Option.bind_eq_bind, Option.bind_some, first_eq]
  have hk := firstN_bounds c
  rw [oneN_cons]
  by_cases h0 : (firstN c).1 = 0
  ·rw [if_pos (by simp [h0]), if_pos h0]
  rw [if_neg (by simp [h0]), if_neg h0]
  by_cases h1 : (firstN c).1 > (c :: r).length
  ·rw [if_pos (by simpa using h1), if_pos h1]
  rw [if_neg (by simpa using h1), if_neg h1]
  have hm : lmid (c :: r) 1 (firstN c).1 = some (r.take ((firstN c).1.toNat - 1)) := by
   unfold lmid
   rw [if_pos ⟨by decide, by omega, by omega⟩]
   congr 1
   have : (firstN c).1.toNat = ((firstN c).1.toNat - 1) + 1 := by omega
   rw [this, List.take_succ_cons]; rfl
  rw [hm]
  simp only [Option.bind_some]
  rw [One_l0_eq (by have := List.length_take_le ((firstN c).1.toNat - 1) r; simp only [List.length_cons] at hb; omega) _ 0 _ (by decide) rfl]
  simp only [Option.bind_some, Int.toNat_zero, List.drop_zero]
  cases contGo (r.take ((firstN c).1.toNat - 1)) (firstN c).2 with
  | error r => rfl
  | ok n =>
   simp only [oneRest, Good_eq, Option.bind_some]
   cases hg : goodN n with
   | false => simp
   | true =>
    obtain ⟨l, hl, hw⟩ := put_eq n
    simp only [Bool.not_true, Bool.false_eq_true, if_false, hl, Option.bind_some, Bool.true_eq_false, if_false]
    rw [← hw]
    by_cases hx : (l.length : Int) = (firstN c).1
    ·rw [if_neg (by simp [hx]), if_neg (by simp [hx])]
    rw [if_pos (by simp [hx]), if_pos (by simp [hx])]
theorem oneN_k (b : List Int) : (oneN b).2 = 0 ∨ (1 ≤ (oneN b).2 ∧ (oneN b).2 ≤ 4 ∧ (oneN b).2 ≤ b.length) := by
 cases b with
 | nil => left; rfl
 | cons c r =>
  have hk := firstN_bounds c
  rw [oneN_cons]
  split
  ·left; rfl
  split
  ·left; rfl
  rename_i h0 h1
  have he : ∀ m n r', contGo m n = .error r' → r' = (0, 0) := by
   intro m
   induction m with
   | nil => intro n r' h; simp [contGo] at h
   | cons x m ih =>
    intro n r' h
    simp only [contGo] at h
    split at h
    ·simp only [Except.error.injEq] at h; exact h.symm
    exact ih _ _ h
  cases hc : contGo (r.take ((firstN c).1.toNat - 1)) (firstN c).2 with
  | error r' => left; rw [he _ _ _ hc]; rfl
  | ok n =>
   simp only [oneRest]
   split
   ·left; rfl
   split
   ·left; rfl
   right; simp only; omega
end Go.AM.Seat

namespace Go.AM.Seat
open Go Go.AM Go.AM.Fx
set_option maxRecDepth 10000
set_option maxHeartbeats 1000000
theorem One_T {b : List Int} (hb : b.length ≤ 8192) : T (p_runes_One b) fun r => r.2 = 0 ∨ 1 ≤ r.2 ∧ r.2 ≤ b.length :=
 ⟨_, One_eq (by omega), (oneN_k b).elim .inl fun h => .inr ⟨h.1, h.2.2⟩⟩
theorem tok_nil (k a : Int) (h : k ≠ 1) : TokOK (Token.mk k [] (Arr.mk [] []) a) := ⟨flat_nil, by simp, fun e => absurd e h⟩
theorem text_T {b : Str} {i : Nat} (err at_1 why : Int) (hl : b.length ≤ 8192) (hi : i < b.length) : T (p_alex_lexer_text b (i : Int) err at_1 why) fun r => TokOK r.1 ∧ At b r.2.1 := by
 have loop : ∀ (d k : Nat) (l : List Int), k + d = b.length → l.length ≤ k → T (p_alex_lexer_text_l0 (b, (i : Int), err, at_1, why, l, (k : Int))) fun r => ∃ e, r = .error e ∧ TokOK e.1 ∧ At b e.2.1 := by
  intro d
  induction d using Nat.strongRecOn with
  | ind d ih =>
   intro k l hk hlk
   have fl : ∀ (e a : Int), T (p_alex_lexer_fail e a b (k : Int) err at_1 why >>= fun (err1, at_2, why1) => some (Except.error ((Token.mk 2 [] (Arr.mk [] []) (i : Int)), (k : Int), err1, at_2, why1) : Except (Token × Int × Int × Int × Int) Unit)) (fun r => ∃ e, r = .error e ∧ TokOK e.1 ∧ At b e.2.1) :=
    fun e a => T.bind (fail_T _ _ _ _ _ _ _) fun r _ => .ret ⟨_, rfl, tok_nil _ _ (by decide), k, rfl, by omega⟩
   rw [p_alex_lexer_text_l0]
   refine T.ite (fun _ => fl _ _) fun hlt => ?_
   have hlt : k < b.length := by simp at hlt; omega
   refine T.bind (T.sfrom (Q := fun s => s.length = b.length - k) (by omega) (by omega) (by rw [List.length_drop]; omega)) fun s hs => ?_
   refine T.bind (T.sbytes (Q := fun b1 => b1.length = b.length - k) (by omega) (by rw [List.length_map]; exact hs)) fun b1 hb => ?_
   refine T.bind (One_T (b := b1) (by omega)) fun r hr => ?_
   obtain ⟨n, kk⟩ := r
   have hr : kk = 0 ∨ 1 ≤ kk ∧ kk ≤ b1.length := hr
   refine T.bind (R := fun r => match r with
    | .error e => TokOK e.1 ∧ At b e.2.1
    | .ok q => 1 ≤ q ∧ (k : Int) + q ≤ b.length) ?_ fun r hr2 => ?_
   ·have flI : ∀ (e a : Int), T (p_alex_lexer_fail e a b (k : Int) err at_1 why >>= fun (err1, at_2, why1) => some (Except.error ((Token.mk 2 [] (Arr.mk [] []) (i : Int)), (k : Int), err1, at_2, why1) : Except (Token × Int × Int × Int × Int) Int)) (fun r => match r with
      | .error e => TokOK e.1 ∧ At b e.2.1
      | .ok q => 1 ≤ q ∧ (k : Int) + q ≤ b.length) :=
     fun e a => T.bind (fail_T _ _ _ _ _ _ _) fun r _ => .ret ⟨tok_nil _ _ (by decide), k, rfl, by omega⟩
    refine T.ite (fun _ => flI _ _) fun hk0 => ?_
    have hkk : 1 ≤ kk ∧ kk ≤ b1.length := by
     rcases hr with h | h
     ·simp [h] at hk0
     exact h
    have good : (1 : Int) ≤ kk ∧ (k : Int) + kk ≤ b.length := ⟨hkk.1, by omega⟩
    refine T.ite (fun h39 => ?_) fun h39 => ?_
    ·refine T.bind (byte_T (i := k) (k := 1) hl (by omega) (by decide) (by decide)) fun x hx => ?_
     refine T.ite (fun _ => ?_) fun hx2 => ?_
     ·refine T.bind (Text_T (l := l) (by omega)) fun a ha => ?_
      rw [w64_succ' (by omega)]
      exact .ret ⟨⟨ha, by simp, fun e => by simp at e⟩, k + 1, rfl, by omega⟩
     have hx3 : x = 39 := by simpa using hx2
     have := hx (by omega)
     refine T.ite (fun _ => .ret ⟨by decide, by show (k : Int) + 2 ≤ b.length; omega⟩) fun h => ?_
     rw [h39] at h; simp at h
    refine T.ite (fun h => by rw [h39] at h; simp at h) fun _ => T.ite (fun _ => flI _ _) fun _ => T.ite (fun _ => flI _ _) fun _ => .ret good
   cases r with
   | error e => exact .ret ⟨e, rfl, hr2⟩
   | ok q =>
    have hq : 1 ≤ q ∧ (k : Int) + q ≤ b.length := hr2
    refine T.bind (T.lapp (Q := fun r => r = l ++ [n]) (by simp; omega) rfl) fun l1 hl1 => ?_
    subst hl1
    have hw : w64 ((k : Int) + q) = ((k + q.toNat : Nat) : Int) := by rw [w64_id (by omega) (by omega)]; omega
    rw [hw]
    exact ih (b.length - (k + q.toNat)) (by omega) (k + q.toNat) (l ++ [n]) (by omega) (by simp; omega)
 unfold p_alex_lexer_text
 rw [w64_succ' (by omega)]
 refine T.bind (loop (b.length - (i + 1)) (i + 1) [] (by omega) (by simp)) fun r hr => ?_
 obtain ⟨e, rfl, he⟩ := hr
 exact .ret he
theorem name_T {b : Str} {i : Nat} (err at_1 why : Int) (hl : b.length ≤ 8192) (hi : i < b.length) : T (p_alex_lexer_name b (i : Int) err at_1 why) fun r => TokOK r.1 ∧ At b r.2.1 := by
 have loop : ∀ (d k : Nat), i + k + d = b.length → T (p_alex_lexer_name_l0 (b, (i : Int), err, at_1, why, (k : Int))) fun r => ∃ j : Nat, r = (j : Int) ∧ k ≤ j ∧ i + j ≤ b.length := by
  intro d
  induction d with
  | zero =>
   intro k hk
   have bt := byte_T (b := b) (i := i) (k := (k : Int)) (err := err) (at_1 := at_1) (why := why) hl (by omega) (by omega) (by omega)
   rw [p_alex_lexer_name_l0]
   refine T.bind bt fun x hx => T.bind (aletter_T x) fun x1 hx1 => T.ite (fun h => ?_) fun _ => ?_
   ·have := hx1 h
    have := hx (by omega)
    omega
   refine T.bind bt fun x hx => T.bind (adigit_T x) fun x1 hx1 => T.ite (fun h => ?_) fun _ => .ret ⟨k, rfl, Nat.le_refl _, by omega⟩
   have := hx1 h
   have := hx (by omega)
   omega
  | succ d ih =>
   intro k hk
   have bt := byte_T (b := b) (i := i) (k := (k : Int)) (err := err) (at_1 := at_1) (why := why) hl (by omega) (by omega) (by omega)
   have next : T (p_alex_lexer_name_l0 (b, (i : Int), err, at_1, why, w64 ((k : Int) + 1))) fun r => ∃ j : Nat, r = (j : Int) ∧ k ≤ j ∧ i + j ≤ b.length := by
    rw [w64_succ' (by omega)]
    refine (ih (k + 1) (by omega)).imp fun r hr => ?_
    obtain ⟨j, rfl, h1, h2⟩ := hr
    exact ⟨j, rfl, by omega, h2⟩
   rw [p_alex_lexer_name_l0]
   refine T.bind bt fun x hx => T.bind (aletter_T x) fun x1 hx1 => T.ite (fun _ => next) fun _ => ?_
   exact T.bind bt fun x hx => T.bind (adigit_T x) fun x1 hx1 => T.ite (fun _ => next) fun _ => .ret ⟨k, rfl, Nat.le_refl _, by omega⟩
 unfold p_alex_lexer_name
 refine T.bind (loop (b.length - i - 1) 1 (by omega)) fun k1 hk1 => ?_
 obtain ⟨j, rfl, hj1, hj2⟩ := hk1
 have hw : w64 ((i : Int) + (j : Int)) = ((i + j : Nat) : Int) := by rw [w64_id (by omega) (by omega)]; omega
 rw [hw]
 refine T.bind (T.smid (Q := fun s => s.length ≤ 9000) (by omega) (by omega) (by omega) (by rw [List.length_drop, List.length_take]; omega)) fun s hs => ?_
 have fin : TokOK (Token.mk 3 s (Arr.mk [] []) (i : Int)) ∧ At b ((i + j : Nat) : Int) := ⟨⟨flat_nil, hs, fun e => by simp at e⟩, i + j, rfl, hj2⟩
 refine T.bind (R := fun _ => True) ?_ fun r _ => ?_
 ·refine T.ite (fun _ => ?_) fun _ => .ret trivial
  exact T.bind (fail_T _ _ _ _ _ _ _) fun r _ => .ret trivial
 obtain ⟨x, y, z⟩ := r
 exact .ret fin
theorem fixed_T {b : Str} {i : Nat} (err at_1 why : Int) (hl : b.length ≤ 8192) (hi : i ≤ b.length) (h1 : (oneN ((b.drop i).map u8I)).2 ≠ 0) :
  T (go_fixed b (i : Int) err at_1 why) fun r => TokOK r.1 ∧ i + r.1.text.length ≤ b.length := by
 have hlen : (b.drop i).length = b.length - i := by simp
 have pre : ∀ (p : Str) (k : Int), k ≠ 1 → p.length ≤ 9000 → List.isPrefixOf p (b.drop i) = true → TokOK (Token.mk k p noLit (i : Int)) ∧ i + (Token.mk k p noLit (i : Int)).text.length ≤ b.length := by
  intro p k hk hp h
  have h2 : p <+: b.drop i := List.isPrefixOf_iff_prefix.1 h
  have := h2.length_le
  exact ⟨⟨flat_nil, hp, fun e => absurd e hk⟩, by show i + p.length ≤ b.length; rw [hlen] at this; omega⟩
 show T (fixedS b (i : Int)) _
 unfold fixedS
 rw [if_pos ⟨by omega, by omega, by omega⟩]
 rw [show (i : Int).toNat = i from rfl]
 refine T.ite (fun h => .ret (pre _ _ (by decide) (by decide) h)) fun _ => ?_
 refine T.ite (fun h => .ret (pre _ _ (by decide) (by decide) h)) fun _ => ?_
 refine T.ite (fun h => .ret (pre _ _ (by decide) (by decide) h)) fun _ => ?_
 refine T.ite (fun h => .ret (pre _ _ (by decide) (by decide) h)) fun _ => ?_
 refine T.ite (fun h => .ret (pre _ _ (by decide) (by decide) h)) fun _ => ?_
 have hk := oneN_k ((b.drop i).map u8I)
 have hml : (((b.drop i).map u8I).length : Int) = b.length - i := by simp; omega
 have hne : ¬ ((b.drop i).take (oneN ((b.drop i).map u8I)).2.toNat).isEmpty = true := by
  intro h
  have h2 : ((b.drop i).take (oneN ((b.drop i).map u8I)).2.toNat).length = 0 := by rw [List.isEmpty_iff.1 h]; rfl
  rw [List.length_take, hlen] at h2
  rcases hk with hk | hk
  ·exact h1 hk
  rw [hml] at hk; omega
 have hst : ((b.drop i).take (oneN ((b.drop i).map u8I)).2.toNat).length ≤ b.length - i := by rw [List.length_take, hlen]; omega
 generalize (b.drop i).take (oneN ((b.drop i).map u8I)).2.toNat = s at hne hst
 unfold tailS
 rw [if_neg hne]
 have g : ∀ k : Int, k ≠ 1 → TokOK (Token.mk k s noLit (i : Int)) ∧ i + (Token.mk k s noLit (i : Int)).text.length ≤ b.length := fun k hk =>
  ⟨⟨flat_nil, by show s.length ≤ 9000; omega, fun e => absurd e hk⟩, by show i + s.length ≤ b.length; omega⟩
 exact T.ite (fun _ => .ret (g 4 (by decide))) fun _ => T.ite (fun _ => .ret (g 5 (by decide))) fun _ => T.ite (fun _ => .ret (g 6 (by decide))) fun _ => .ret ⟨tok_nil _ _ (by decide), by show i + 0 ≤ b.length; omega⟩
theorem word_T {b : Str} {i : Nat} (err at_1 why : Int) (hl : b.length ≤ 8192) (hi : i < b.length) : T (p_alex_lexer_word b (i : Int) err at_1 why) fun r => TokOK r.1 ∧ At b r.2.1 := by
 have here : At b (i : Int) := ⟨i, rfl, by omega⟩
 unfold p_alex_lexer_word
 refine T.bind (T.sfrom (Q := fun s => s = b.drop i) (by omega) (by omega) rfl) fun s hs => ?_
 subst hs
 refine T.bind (T.sbytes (Q := fun b1 => b1 = (b.drop i).map u8I) (by rw [List.length_drop]; omega) rfl) fun b1 hb => ?_
 subst hb
 refine T.bind (R := fun r => r = oneN ((b.drop i).map u8I)) ⟨_, One_eq (by simp; omega), rfl⟩ fun r hr => ?_
 obtain ⟨x, k⟩ := r
 refine T.ite (fun _ => T.bind (fail_T _ _ _ _ _ _ _) fun r _ => .ret ⟨tok_nil _ _ (by decide), here⟩) fun hk0 => ?_
 have hk0 : (oneN ((b.drop i).map u8I)).2 ≠ 0 := by rw [← hr]; simpa using hk0
 refine T.bind (byte_T (i := i) (k := 0) hl (by omega) (by decide) (by decide)) fun c _ => ?_
 refine T.bind (anumber_T err at_1 why hl (by omega)) fun x1 _ => T.ite (fun _ => T.bind (numbers_T err at_1 why hl (by omega)) fun r hr => .ret hr) fun _ => ?_
 refine T.ite (fun _ => T.bind (text_T err at_1 why hl hi) fun r hr => .ret hr) fun _ => ?_
 refine T.bind (aletter_T c) fun x4 _ => T.ite (fun _ => T.bind (name_T err at_1 why hl hi) fun r hr => .ret hr) fun _ => ?_
 refine T.bind (fixed_T err at_1 why hl (by omega) hk0) fun r hr => ?_
 obtain ⟨x6, ok⟩ := r
 have hr : TokOK x6 ∧ i + x6.text.length ≤ b.length := hr
 refine T.bind (R := fun _ => True) ?_ fun r _ => ?_
 ·refine T.ite (fun _ => ?_) fun _ => .ret trivial
  exact T.bind (fail_T _ _ _ _ _ _ _) fun r _ => .ret trivial
 obtain ⟨p, q, r⟩ := r
 refine .ret ⟨hr.1, i + x6.text.length, ?_, hr.2⟩
 show w64 _ = _
 rw [w64_id (by omega) (by omega)]; omega
structure WordsA (l : List Token) : Prop where
 ok : WordsOK l
 atom : ∀ t ∈ l, t.kind = 1 → t.lit.shape = [] → t.lit.cells ≠ []
theorem Lex_T (s : Str) : T (p_alex_Lex s) fun r => WordsA r.1 := by
 have nil : WordsA [] := ⟨⟨by simp, by simp, by simp⟩, by simp⟩
 unfold p_alex_Lex
 refine T.ite (fun _ => .ret nil) fun hl => ?_
 have hl : s.length ≤ 8192 := by simp at hl; omega
 have loop : ∀ (d e k : Nat) (l : List Token) (x3 x4 x5 : Int), l.length + d = 2048 → k + e = s.length → (∀ t ∈ l, TokOK t) → T (p_alex_Lex_l0 (s, (k : Int), l, x3, x4, x5)) fun r => match r with
   | .error v => WordsA v.1
   | .ok v => WordsA v.2.1 := by
  intro d
  induction d with
  | zero =>
   intro e
   induction e with
   | zero =>
    intro k l x3 x4 x5 hd he ht
    have hw : WordsA l := ⟨⟨by omega, fun t h => (ht t h).lit, fun t h => (ht t h).text⟩, fun t h => (ht t h).atom⟩
    rw [p_alex_Lex_l0, if_neg (by simp; omega)]
    exact .ret hw
   | succ e ihe =>
    intro k l x3 x4 x5 hd he ht
    have hw : WordsA l := ⟨⟨by omega, fun t h => (ht t h).lit, fun t h => (ht t h).text⟩, fun t h => (ht t h).atom⟩
    rw [p_alex_Lex_l0, if_pos (by simp; omega)]
    refine T.ite (fun _ => ?_) fun _ => .ret hw
    refine T.bind (T.sget (Q := fun _ => True) (by omega) (by omega) fun _ _ => trivial) fun c _ => ?_
    rw [w64_succ' (by omega)]
    refine T.ite (fun _ => ihe (k + 1) l x3 x4 x5 hd (by omega) ht) fun _ => ?_
    refine T.bind (T.sfrom (Q := fun _ => True) (by omega) (by omega) trivial) fun s1 _ => T.bind (sHasPrefix_T _ _) fun x _ => ?_
    refine T.ite (fun _ => .ret hw) fun _ => T.ite (fun _ => .ret nil) fun h => ?_
    exfalso
    have : (l.length : Int) ≠ 2048 := by simpa using h
    omega
  | succ d ih =>
   intro e
   induction e with
   | zero =>
    intro k l x3 x4 x5 hd he ht
    have hw : WordsA l := ⟨⟨by omega, fun t h => (ht t h).lit, fun t h => (ht t h).text⟩, fun t h => (ht t h).atom⟩
    rw [p_alex_Lex_l0, if_neg (by simp; omega)]
    exact .ret hw
   | succ e ihe =>
    intro k l x3 x4 x5 hd he ht
    have hw : WordsA l := ⟨⟨by omega, fun t h => (ht t h).lit, fun t h => (ht t h).text⟩, fun t h => (ht t h).atom⟩
    rw [p_alex_Lex_l0, if_pos (by simp; omega)]
    refine T.ite (fun _ => ?_) fun _ => .ret hw
    refine T.bind (T.sget (Q := fun _ => True) (by omega) (by omega) fun _ _ => trivial) fun c _ => ?_
    rw [w64_succ' (by omega)]
    refine T.ite (fun _ => ihe (k + 1) l x3 x4 x5 hd (by omega) ht) fun _ => ?_
    refine T.bind (T.sfrom (Q := fun _ => True) (by omega) (by omega) trivial) fun s1 _ => T.bind (sHasPrefix_T _ _) fun x _ => ?_
    refine T.ite (fun _ => .ret hw) fun _ => T.ite (fun _ => .ret nil) fun h => ?_
    refine T.bind (word_T (i := k) x3 x4 x5 hl (by omega)) fun r hr => ?_
    obtain ⟨t, at_, err, a1, why⟩ := r
    obtain ⟨htok, j, hj, hjl⟩ := hr
    have hj : at_ = (j : Int) := hj
    subst hj
    refine T.bind (T.lapp (Q := fun r => r = l ++ [t]) (by simp; omega) rfl) fun l1 hl1 => ?_
    subst hl1
    refine ih (s.length - j) j (l ++ [t]) err a1 why (by simp; omega) (by omega) fun u hu => ?_
    rcases List.mem_append.1 hu with h | h
    ·exact ht u h
    rw [List.mem_singleton] at h; subst h; exact htok
 refine T.bind (loop 2048 s.length 0 [] 0 0 0 rfl (by omega) (by simp)) fun r hr => ?_
 cases r with
 | error v => exact .ret hr
 | ok v =>
  obtain ⟨a, l, c, d, e⟩ := v
  exact T.ite (fun _ => .ret nil) fun _ => .ret hr
theorem origin_T {l : List Token} (hl : WordsA l) (e : Int) : T (p_apl_origin l e) fun r => 0 ≤ r.2.1 ∧ r.2.1 ≤ l.length := by
 have g : ∀ (i : Nat), i < l.length → T (lget l (i : Int)) fun y => y ∈ l := fun i hi => T.lget (by omega) (by omega) fun v hv => List.mem_of_getElem? hv
 have z : ∀ (a : Int) (f : Fault), T (some (a, (0 : Int), f)) fun r => 0 ≤ r.2.1 ∧ r.2.1 ≤ l.length := fun a f => .ret ⟨Int.le_refl _, by show (0 : Int) ≤ _; omega⟩
 unfold p_apl_origin
 refine T.ite (fun _ => z _ _) fun h0 => ?_
 have h0 : 0 < l.length := by simp at h0; cases l with | nil => exact absurd rfl h0 | cons a r => simp
 refine T.bind (g 0 h0) fun y _ => T.ite (fun _ => z _ _) fun _ => T.ite (fun _ => z _ _) fun _ => T.bind (g 0 h0) fun y1 _ => ?_
 refine T.bind (R := fun _ => True) ⟨_, rfl, trivial⟩ fun x _ => T.ite (fun _ => T.bind (g 0 h0) fun y2 _ => z _ _) fun _ => T.ite (fun _ => z _ _) fun h1 => ?_
 have h1 : 1 < l.length := by simp at h1; omega
 refine T.bind (g 1 h1) fun y3 _ => T.bind (R := fun _ => True) ⟨_, rfl, trivial⟩ fun x1 _ => T.ite (fun _ => T.bind (g 1 h1) fun y4 _ => z _ _) fun _ => T.ite (fun _ => z _ _) fun h2 => ?_
 have h2 : 2 < l.length := by simp at h2; omega
 have g2 : T (lget l ((2 : Nat) : Int)) fun y => y = l[2] := ⟨_, lget_some h2, rfl⟩
 refine T.bind g2 fun y5 hy5 => ?_
 have hmem : y5 ∈ l := by rw [hy5]; exact List.getElem_mem h2
 refine T.bind (R := fun x => x = true → y5.lit.cells ≠ []) ?_ fun x2 hx2 => ?_
 ·unfold p_apl_origin_3
  have c0 : y5.kind = 1 → y5.lit.shape = [] → T (lget y5.lit.cells 0) fun _ => True := by
   intro hk hs
   have := hl.atom y5 hmem hk hs
   refine T.lget (by decide) ?_ fun _ _ => trivial
   cases h : y5.lit.cells with
   | nil => exact absurd h this
   | cons a r => simp
  have ne : y5.kind = 1 → y5.lit.shape = [] → y5.lit.cells ≠ [] := hl.atom y5 hmem
  have no : T (some false) fun x => x = true → y5.lit.cells ≠ [] := .ret fun h => by simp at h
  refine T.ite (fun hk => T.ite (fun hs => ?_) fun _ => no) fun _ => no
  have hk : y5.kind = 1 := by simpa using hk
  have hs : y5.lit.shape = [] := by simpa using hs
  exact T.bind (c0 hk hs) fun _ _ => T.ite (fun _ => .ret fun _ => ne hk hs) fun _ => T.bind (c0 hk hs) fun _ _ => .ret fun _ => ne hk hs
 refine T.ite (fun _ => T.bind (g 2 h2) fun y6 _ => z _ _) fun hx => T.ite (fun _ => z _ _) fun h3 => ?_
 have hx : x2 = true := by simpa using hx
 have h3 : 3 < l.length := by simp at h3; omega
 refine T.bind (g 3 h3) fun y7 _ => T.bind (R := fun _ => True) ⟨_, rfl, trivial⟩ fun x3 _ => T.ite (fun _ => T.bind (g 3 h3) fun y8 _ => z _ _) fun _ => ?_
 refine T.bind g2 fun y9 hy9 => ?_
 have hc : y9.lit.cells ≠ [] := by rw [hy9, ← hy5]; exact hx2 hx
 refine T.bind (T.lget (Q := fun _ => True) (by decide) (by cases h : y9.lit.cells with | nil => exact absurd h hc | cons a r => simp) fun _ _ => trivial) fun y10 _ => ?_
 exact .ret ⟨by show (0 : Int) ≤ 4; decide, by show (4 : Int) ≤ _; omega⟩
end Go.AM.Seat

namespace Go.AM.Seat
open Go Go.AM
set_option maxRecDepth 10000
set_option maxHeartbeats 1000000
abbrev aplG : Grammar := (Grammar.mk [[43], [45], [195, 151], [124], [126], [226, 141, 179], [226, 141, 180], [226, 137, 162], [44], [226, 138, 150], [226, 140, 189], [226, 141, 137], [226, 141, 139], [226, 141, 146], [226, 136, 170], [226, 138, 130], [226, 138, 131], [195, 183], [226, 140, 138], [226, 140, 136], [61], [226, 137, 160], [60], [62], [226, 137, 164], [226, 137, 165], [226, 134, 145], [226, 134, 147], [226, 141, 170], [226, 136, 138], [226, 140, 183]] [[47], [226, 140, 191], [92], [226, 141, 128], [226, 141, 168]] [[47], [226, 140, 191]] [226, 136, 152, 46] [226, 141, 163] [123] [125] [226, 141, 186] [226, 141, 181] [194, 175] [39] false false true)
theorem apl_Grammar_eq : p_apl_Grammar = some aplG := rfl
theorem aplG_gr : Gr aplG := ⟨by decide, by decide, by decide⟩
theorem aplG_short : Short aplG := ⟨by decide, by decide, by decide, by decide, by decide, by decide, by decide, by decide⟩
structure PrOK (p : Prgm) : Prop where
 gn : GN p.expr
 sz : p.expr.sz ≤ 5000
 set : p.set_.length ≤ 9000
theorem emptyOK : PrOK (Prgm.mk [] 0 (Node.mk 0 0 [] (Arr.mk [] []) [] 0)) := ⟨.of flat_nil (by simp) (by simp) (by simp), by show Node.sz _ ≤ _; rw [sz_eq]; simp [Node.kids, Node.szL], by simp⟩
theorem WordsOK.drop {l : List Token} (h : WordsOK l) (k : Nat) : WordsOK (l.drop k) :=
 ⟨by have := h.len; rw [List.length_drop]; omega, fun t ht => h.lit t (List.mem_of_mem_drop ht), fun t ht => h.text t (List.mem_of_mem_drop ht)⟩
theorem apl_Parse_T (s : Str) : T (p_apl_Parse s) fun r => PrOK r.1 := by
 unfold p_apl_Parse
 refine T.bind (Lex_T s) fun r hr => ?_
 obtain ⟨l0, x⟩ := r
 have hw0 : WordsA l0 := hr
 refine T.ite (fun _ => .ret emptyOK) fun _ => ?_
 refine T.bind (origin_T hw0 _) fun r hr => ?_
 obtain ⟨from_, k, x1⟩ := r
 have hr : 0 ≤ k ∧ k ≤ l0.length := hr
 refine T.ite (fun _ => .ret emptyOK) fun _ => ?_
 refine T.bind (T.lfrom (Q := WordsOK) hr.1 hr.2 (hw0.ok.drop _)) fun l hw => ?_
 have tail : ∀ (l2 : List Token) (p0 : Str), WordsOK l2 → p0.length ≤ 9000 → T (p_grammar_Parse aplG l2 (List.length s : Int) >>= fun (x3, x4) =>
     if (x4.err != 0) then
      some ((Prgm.mk [] 0 (Node.mk 0 0 [] (Arr.mk [] []) [] 0)), x4)
     else
      some ((Prgm.mk p0 from_ x3), (Fault.mk 0 0 0))) fun r => PrOK r.1 := by
  intro l2 p0 h2 hp0
  refine T.bind (Parse_T aplG_gr h2 _) fun r hr => ?_
  obtain ⟨n, f⟩ := r
  exact T.ite (fun _ => .ret emptyOK) fun _ => .ret ⟨hr.1, hr.2, hp0⟩
 have plain := tail l [] hw (by simp)
 refine T.ite (fun hl => ?_) fun _ => plain
 have hl : 1 < l.length := by simp at hl; omega
 have g0 : T (lget l 0) fun y => y ∈ l := T.lget (by omega) (by omega) fun v hv => List.mem_of_getElem? hv
 refine T.bind g0 fun y _ => T.ite (fun _ => ?_) fun _ => plain
 refine T.bind (T.lget (Q := fun _ => True) (by omega) (by omega) fun _ _ => trivial) fun y1 _ => T.ite (fun _ => ?_) fun _ => plain
 refine T.bind g0 fun y2 hy2 => T.bind (core_Name_T (by have := hw.text _ hy2; omega)) fun x1 _ => ?_
 refine T.bind (R := fun r => WordsOK r.1 ∧ r.2.length ≤ 9000) ?_ fun r hr => ?_
 ·refine T.ite (fun _ => ?_) fun _ => .ret ⟨hw, by simp⟩
  refine T.bind g0 fun y3 hy3 => ?_
  refine T.bind (T.lfrom (Q := WordsOK) (by omega) (by omega) (hw.drop _)) fun l1 hl1 => .ret ⟨hl1, hw.text _ hy3⟩
 obtain ⟨l2, p0⟩ := r
 exact tail l2 p0 hr.1 hr.2
def textOf (o : Int) (st s : Str) : Option Str :=
 (if (!(st == [])) then (scat st [32, 226, 134, 144, 32] >>= fun s1 => scat s1 s >>= fun s2 => some s2) else some s) >>= fun s3 =>
 (if (o == 0) then (scat [226, 142, 149, 73, 79, 32, 226, 134, 144, 32, 48, 32, 226, 139, 132, 32] s3 >>= fun s4 => some s4) else some s3) >>= fun s5 => some s5
theorem textOf_T {o : Int} {st s : Str} (h1 : st.length ≤ 9000) (h2 : s.length ≤ 20000001 * 40000) : T (textOf o st s) fun _ => True := by
 unfold textOf
 refine T.bind (R := fun x => x.length ≤ 9005 + 20000001 * 40000) ?_ fun s3 h3 => ?_
 ·refine T.ite (fun _ => ?_) fun _ => .ret (by omega)
  refine T.bind (T.scat (Q := fun x => x.length ≤ 9005) (by simp; omega) (by simp; omega)) fun x hx => ?_
  exact T.bind (T.scat (Q := fun y => y.length ≤ 9005 + 20000001 * 40000) (by omega) (by rw [List.length_append]; omega)) fun y hy => .ret hy
 refine T.bind (R := fun _ => True) ?_ fun _ _ => .ret trivial
 refine T.ite (fun _ => ?_) fun _ => .ret trivial
 exact T.bind (T.scat (Q := fun _ => True) (by simp; omega) trivial) fun y hy => .ret trivial
def checkOf (p : Prgm) (t : Str) : Option (Str × Int) :=
 p_apl_Parse t >>= fun (x2, x3) =>
     if (x3.err != 0) then
      some ([], 1)
     else
      if (!(x2.set_ == p.set_)) then
       some ([], 1)
      else
       if (x2.origin != p.origin) then
        some ([], 1)
       else
        p_core_Same (x2.expr, p.expr) >>= fun x4 =>
        if (!x4) then
         some ([], 1)
        else
         some (t, 0)
def writeP (p : Prgm) : Option (Str × Int) :=
 p_spell_Write aplG p.expr >>= fun (s, e) => if (e != 0) then some ([], e) else textOf p.origin p.set_ s >>= fun t => checkOf p t
def bodyP (p : Prgm) : Option (Str × Int) :=
 if (p.origin != 0) then (if (p.origin != 1) then some ([], 1) else writeP p) else writeP p
theorem Print_eq (p : Prgm) : p_apl_Print p = if (!(p.set_ == [])) then (p_core_Name p.set_ >>= fun x => if (!x) then some ([], 1) else bodyP p) else bodyP p := by
 unfold p_apl_Print bodyP writeP textOf checkOf
 rw [apl_Grammar_eq]
 simp only [Option.bind_eq_bind, Option.bind_some, Option.bind_assoc]
theorem checkOf_T {p : Prgm} (hp : PrOK p) (t : Str) : T (checkOf p t) fun r => r.2 = 0 → r.1 = t ∧ ∃ q f, p_apl_Parse t = some (q, f) ∧ f.err = 0 ∧ q.set_ = p.set_ ∧ q.origin = p.origin ∧ PrOK q ∧ Sm q.expr p.expr := by
 unfold checkOf
 obtain ⟨r, hr, hq⟩ := apl_Parse_T t
 obtain ⟨q, f⟩ := r
 have hq : PrOK q := hq
 refine T.bind (R := fun r => r = (q, f)) ⟨_, hr, rfl⟩ fun r hr' => ?_
 subst hr'
 have no : T (some (([] : Str), (1 : Int))) fun r => r.2 = 0 → r.1 = t ∧ ∃ q f, p_apl_Parse t = some (q, f) ∧ f.err = 0 ∧ q.set_ = p.set_ ∧ q.origin = p.origin ∧ PrOK q ∧ Sm q.expr p.expr := .ret fun h => by simp at h
 refine T.ite (fun _ => no) fun h1 => T.ite (fun _ => no) fun h2 => T.ite (fun _ => no) fun h3 => ?_
 refine T.bind (core_Same_T hq.gn hp.gn) fun b hb => T.ite (fun _ => no) fun h4 => .ret fun _ => ?_
 exact ⟨rfl, q, f, hr, by simpa using h1, by simpa using h2, by simpa using h3, hq, hb.1 (by simpa using h4)⟩
def Made (p : Prgm) (r : Str × Int) : Prop := r.2 = 0 → ∃ s q f, p_spell_Write aplG p.expr = some (s, 0) ∧ textOf p.origin p.set_ s = some r.1 ∧ p_apl_Parse r.1 = some (q, f) ∧ f.err = 0 ∧ q.set_ = p.set_ ∧ q.origin = p.origin ∧ PrOK q ∧ Sm q.expr p.expr
theorem writeP_T {p : Prgm} (hp : PrOK p) : T (writeP p) (Made p) := by
 unfold writeP
 obtain ⟨w, hw, hwl⟩ := Write_T aplG_short hp.gn (by have := hp.sz; omega)
 obtain ⟨s, e⟩ := w
 refine T.bind (R := fun r => r = (s, e)) ⟨_, hw, rfl⟩ fun r hr => ?_
 subst hr
 refine T.ite (fun he => .ret fun h => ?_) fun he => ?_
 ·have h : e = 0 := h
  simp [h] at he
 have he : e = 0 := by simpa using he
 subst he
 obtain ⟨t, ht, _⟩ := textOf_T (o := p.origin) hp.set hwl
 refine T.bind (R := fun r => r = t) ⟨_, ht, rfl⟩ fun r hr => ?_
 subst hr
 refine (checkOf_T hp r).imp fun v hv h0 => ?_
 obtain ⟨h1, q, f, h2, h3, h4, h5, h6, h7⟩ := hv h0
 rw [h1]
 exact ⟨s, q, f, hw, ht, h2, h3, h4, h5, h6, h7⟩
theorem bodyP_T {p : Prgm} (hp : PrOK p) : T (bodyP p) fun r => Made p r ∧ (r.2 = 0 → p.origin = 0 ∨ p.origin = 1) := by
 unfold bodyP
 refine T.ite (fun h0 => T.ite (fun _ => .ret ⟨fun h => by simp at h, fun h => by simp at h⟩) fun h1 => ?_) fun h0 => ?_
 ·exact (writeP_T hp).imp fun r hr => ⟨hr, fun _ => .inr (by simpa using h1)⟩
 exact (writeP_T hp).imp fun r hr => ⟨hr, fun _ => .inl (by simpa using h0)⟩
theorem Write_same {a b : Node} (h : Sm a b) (ha : GN a) : p_spell_Write aplG a = p_spell_Write aplG b := by
 unfold p_spell_Write
 rw [(h.st ha).expr]
theorem bodyP_again {p q : Prgm} {s t : Str} {f : Fault} (ho : p.origin = 0 ∨ p.origin = 1) (hw : p_spell_Write aplG p.expr = some (s, 0)) (ht : textOf p.origin p.set_ s = some t) (hp : p_apl_Parse t = some (q, f)) (hf : f.err = 0)
  (hs : q.set_ = p.set_) (hqo : q.origin = p.origin) (hq : PrOK q) (hsm : Sm q.expr p.expr) : bodyP q = some (t, 0) := by
 have hself : p_core_Same (q.expr, q.expr) = some true := by
  obtain ⟨b, hb, hbt⟩ := core_Same_T hq.gn hq.gn
  rw [hb, hbt.2 hq.gn.refl]
 have hwp : writeP q = some (t, 0) := by
  unfold writeP checkOf
  rw [Write_same hsm hq.gn, hw, hs, hqo]
  simp [ht, hp, hf, hself, hs, hqo]
 unfold bodyP
 rw [hwp, hqo]
 rcases ho with h | h <;> simp [h]
theorem Print_T {p : Prgm} (hp : PrOK p) : T (p_apl_Print p) fun r => r.2 = 0 → ∃ q f, p_apl_Parse r.1 = some (q, f) ∧ f.err = 0 ∧ q.set_ = p.set_ ∧ q.origin = p.origin ∧ PrOK q ∧ Sm q.expr p.expr ∧ p_apl_Print q = some (r.1, 0) := by
 have core : ∀ r : Str × Int, (Made p r ∧ (r.2 = 0 → p.origin = 0 ∨ p.origin = 1)) →
   r.2 = 0 → (p.set_ = [] ∨ p_core_Name p.set_ = some true) → ∃ q f, p_apl_Parse r.1 = some (q, f) ∧ f.err = 0 ∧ q.set_ = p.set_ ∧ q.origin = p.origin ∧ PrOK q ∧ Sm q.expr p.expr ∧ p_apl_Print q = some (r.1, 0) := by
  intro r hr h0 hn
  obtain ⟨s, q, f, h1, h2, h3, h4, h5, h6, h7, h8⟩ := hr.1 h0
  refine ⟨q, f, h3, h4, h5, h6, h7, h8, ?_⟩
  have hb := bodyP_again (hr.2 h0) h1 h2 h3 h4 h5 h6 h7 h8
  rw [Print_eq, h5, hb]
  rcases hn with hn | hn
  ·simp [hn]
  cases he : (!(p.set_ == []))
  ·simp
  simp [hn]
 rw [Print_eq]
 refine T.ite (fun hne => ?_) fun he => ?_
 ·obtain ⟨b, hb, _⟩ := core_Name_T (s := p.set_) (by have := hp.set; omega)
  refine T.bind (R := fun x => x = b) ⟨_, hb, rfl⟩ fun x hx => ?_
  subst hx
  refine T.ite (fun _ => .ret fun h => by simp at h) fun hx => ?_
  have hx : x = true := by simpa using hx
  subst hx
  exact (bodyP_T hp).imp fun r hr h0 => core r hr h0 (.inr hb)
 exact (bodyP_T hp).imp fun r hr h0 => core r hr h0 (.inl (by simpa using he))
theorem AplOnce_true (s : Str) : p_triglyphlaw17_AplOnce s = some true := by
 have works : T go_works fun b => b = true := ⟨true, rfl, rfl⟩
 have wk : T (go_works >>= fun x => some x) fun b => b = true := T.bind works fun x hx => .ret hx
 have main : T (p_triglyphlaw17_AplOnce s) fun b => b = true := by
  unfold p_triglyphlaw17_AplOnce
  refine T.ite (fun _ => wk) fun _ => T.bind (apl_Parse_T s) fun r hr => ?_
  obtain ⟨p, f0⟩ := r
  have hp : PrOK p := hr
  refine T.ite (fun _ => wk) fun _ => T.bind (Print_T hp) fun r hr => ?_
  obtain ⟨t, e⟩ := r
  refine T.ite (fun _ => wk) fun he => ?_
  have he : e = 0 := by simpa using he
  obtain ⟨q, f, h1, h2, h3, h4, h5, h6, h7⟩ := hr he
  refine T.bind (R := fun r => r = (q, f)) ⟨_, h1, rfl⟩ fun r hr' => ?_
  subst hr'
  refine T.bind (R := fun r => r = (t, 0)) ⟨_, h7, rfl⟩ fun r hr' => ?_
  subst hr'
  rw [h2]
  refine T.ite (fun _ => ?_) fun h => by simp at h
  refine T.ite (fun _ => ?_) fun h => by simp at h
  refine T.ite (fun _ => ?_) fun h => by simp at h
  have hs : p_triglyphref17_Same p q = some true := by
   unfold p_triglyphref17_Same
   rw [h3, h4, ref_Same_T hp.gn h5.gn h6.symm]
   simp
  refine T.bind (R := fun b => b = true) ⟨_, hs, rfl⟩ fun b hb => T.ite (fun _ => wk) fun h => by rw [hb] at h; simp at h
 obtain ⟨b, hb, rfl⟩ := main
 exact hb
end Go.AM.Seat
