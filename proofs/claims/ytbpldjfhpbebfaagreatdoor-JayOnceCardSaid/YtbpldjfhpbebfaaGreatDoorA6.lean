/- Part of a proof about the given program: the abstract machine, the printed functions, the plain laws. (YP5, YP6, YP7, YP8, YP9, YP10, YP11, YP12, YP13, YP14, YP15, YP17) -/
import Derived.Test.YtbpldjfhpbebfaaGreatDoorA5
import Derived.KernelRfl
set_option linter.all false
set_option linter.unusedSectionVars false
set_option linter.unusedVariables false
set_option linter.unusedSimpArgs false

namespace Go.AM
mutual
def Node.sz : Node → Nat
 | .mk _ _ _ _ ks _ => Node.szL ks + 1
def Node.szL : List Node → Nat
 | [] => 0
 | n :: l => n.sz + Node.szL l
end
end Go.AM
namespace Go.AM.Seat
open Go Go.AM
set_option linter.unusedVariables false
set_option maxRecDepth 10000
theorem sz_eq (n : Node) : n.sz = Node.szL n.kids + 1 := by cases n; rfl
structure Wr (w : Spell_writer) (c : Nat) : Prop where
 short : Short w.g
 right : w.right.length ≤ 1000
 out : ∀ s ∈ w.out, s.length ≤ 20000000
 room : w.out.length + c ≤ 100000
def Pl (w : Spell_writer) (c : Nat) (o : List Str) : Prop := o.length ≤ w.out.length + c ∧ ∀ s ∈ o, s.length ≤ 20000000
def Po (w : Spell_writer) (c : Nat) (r : List Str × Int × Bool) : Prop := Pl w c r.1
theorem Pl.wr {w : Spell_writer} {c d e : Nat} {o : List Str} {g : Grammar} {r : Str} {n : Int} {b : Bool} (h : Wr w d) (p : Pl w c o) (hg : g = w.g) (hr : r.length ≤ 1000) (hd : c + e ≤ d) : Wr ⟨g, o, r, n, b⟩ e := by
 subst hg
 exact ⟨h.short, hr, p.2, by have := h.room; have := p.1; show o.length + e ≤ _; omega⟩
theorem Wr.wr {w : Spell_writer} {d e : Nat} {g : Grammar} {r : Str} {n : Int} {b : Bool} (h : Wr w d) (hg : g = w.g) (hr : r.length ≤ 1000) (hd : e ≤ d) : Wr ⟨g, w.out, r, n, b⟩ e := by
 subst hg
 exact ⟨h.short, hr, h.out, by have := h.room; show w.out.length + e ≤ _; omega⟩
theorem Pl.trans {w w' : Spell_writer} {c d e : Nat} {o : List Str} (h : Pl w c w'.out) (k : Pl w' d o) (he : c + d ≤ e) : Pl w e o := ⟨by have := h.1; have := k.1; omega, k.2⟩
theorem Pl.same {w : Spell_writer} {d c : Nat} (h : Wr w d) : Pl w c w.out := ⟨by omega, h.out⟩
theorem Pl.le {w : Spell_writer} {c d : Nat} {o : List Str} (h : Pl w c o) (hd : c ≤ d) : Pl w d o := ⟨by have := h.1; omega, h.2⟩
theorem words_T {s : Str} {w : Spell_writer} {d : Nat} (h : Wr w d) (hd : 2 ≤ d) (hs : s.length ≤ 20000000) : T (p_spell_writer_words [s] w) (Pl w 2) := by
 have hr := h.room
 unfold p_spell_writer_words
 refine T.bind (R := Pl w 2) ?_ fun o ho => .ret ho
 rw [p_spell_writer_words_l0, if_pos (by simp)]
 refine T.bind (T.lget (Q := fun x => x = s) (by omega) (by simp) fun v hv => by simpa using hv.symm) fun x hx => ?_
 subst hx
 refine T.bind (R := Pl w 1) ?_ fun o ho => ?_
 ·refine T.ite (fun _ => ?_) fun _ => .ret (Pl.same h)
  refine T.bind (T.lapp (Q := Pl w 1) (by simp; omega) ⟨by simp, fun t ht => ?_⟩) fun o ho => .ret ho
  rcases List.mem_append.1 ht with h' | h'
  ·exact h.out t h'
  ·rw [List.mem_singleton] at h'; subst h'; simp
 ·have h1 := ho.1
  refine T.bind (T.lapp (Q := Pl w 2) (by simp; omega) ⟨by simp; omega, fun t ht => ?_⟩) fun o' ho' => ?_
  ·rcases List.mem_append.1 ht with h' | h'
   ·exact ho.2 t h'
   ·rw [List.mem_singleton] at h'; subst h'; exact hs
  ·rw [p_spell_writer_words_l0, if_neg (by rw [w64_id] <;> simp)]
   exact .ret ho'
theorem glue_T {l : List Str} {w : Spell_writer} {d : Nat} (h : Wr w d) (hd : l.length ≤ d) (hs : ∀ s ∈ l, s.length ≤ 20000000) : T (p_spell_writer_glue l w) (Pl w l.length) := by
 have hr := h.room
 unfold p_spell_writer_glue
 refine T.bind (T.lapp (Q := Pl w l.length) (by omega) ⟨by simp, fun t ht => ?_⟩) fun o ho => .ret ho
 rcases List.mem_append.1 ht with h' | h'
 ·exact h.out t h'
 ·exact hs t h'
theorem fits_T (n : Node) (k : Int) (w : Spell_writer) : T (p_spell_writer_fits n k w) fun r => r.1 = true → (n.kids.length : Int) = k := by
 unfold p_spell_writer_fits
 refine T.ite (fun _ => .ret (by simp)) fun _ => T.ite (fun _ => .ret (by simp)) fun _ => .ret (by simp)
theorem one_kid {n : Node} (h : (n.kids.length : Int) = 1) : ∃ x, n.kids = [x] ∧ n.sz = x.sz + 1 := by
 obtain ⟨x, hx⟩ := List.length_eq_one_iff.1 (show n.kids.length = 1 by omega)
 exact ⟨x, hx, by rw [sz_eq, hx]; simp [Node.szL]⟩
theorem two_kids {n : Node} (h : (n.kids.length : Int) = 2) : ∃ x y, n.kids = [x, y] ∧ n.sz = x.sz + y.sz + 1 := by
 match hk : n.kids with
 | [x, y] => exact ⟨x, y, rfl, by rw [sz_eq, hk]; simp [Node.szL]⟩
 | [] => rw [hk] at h; simp at h
 | [x] => rw [hk] at h; simp at h
 | x :: y :: z :: r => rw [hk] at h; simp at h; omega
theorem three_kids {n : Node} (h : (n.kids.length : Int) = 3) : ∃ x y z, n.kids = [x, y, z] ∧ n.sz = x.sz + y.sz + z.sz + 1 := by
 match hk : n.kids with
 | [x, y, z] => exact ⟨x, y, z, rfl, by rw [sz_eq, hk]; simp [Node.szL]; omega⟩
 | [] => rw [hk] at h; simp at h
 | [x] => rw [hk] at h; simp at h
 | [x, y] => rw [hk] at h; simp at h
 | x :: y :: z :: u :: r => rw [hk] at h; simp at h; omega
structure Tt (n : Node) : Prop where
 expr : ∀ w, Wr w (8 * n.sz) → T (p_spell_writer_expr (n, w)) (Po w (8 * n.sz))
 call : ∀ w, Wr w (8 * n.sz) → T (p_spell_writer_call (n, w)) (Po w (8 * n.sz))
 operand : ∀ w, Wr w (8 * n.sz) → T (p_spell_writer_operand (n, w)) (Po w (8 * n.sz))
 applied : ∀ w, Wr w (8 * n.sz) → T (p_spell_writer_applied (n, w)) (Po w (8 * n.sz))
 function : ∀ w, Wr w (8 * n.sz - 4) → T (p_spell_writer_function (n, w)) (Po w (8 * n.sz - 4))
 base : ∀ w, Wr w (8 * n.sz) → T (p_spell_writer_base (n, w)) (Po w (8 * n.sz))
theorem GN.tt {n : Node} (h : GN n) : Tt n := by
 induction h with
 | @mk n h1 h2 h3 _ ih =>
  have hpos : 1 ≤ n.sz := by rw [sz_eq]; omega
  have loop : ∀ w w0 : Spell_writer, w.g = w0.g → w.right.length ≤ 1000 → Short w.g → ∀ d i o nd bd, i + d = n.kids.length → (∀ s ∈ o, s.length ≤ 20000000) → o.length + 8 * Node.szL (n.kids.drop i) ≤ 100000 →
    T (p_spell_writer_function_l0 (n, w, (i : Int), o, nd, bd)) fun r => r.1.length ≤ o.length + 8 * Node.szL (n.kids.drop i) ∧ ∀ s ∈ r.1, s.length ≤ 20000000 := by
   intro w w0 hg hr hsh d
   induction d with
   | zero =>
    intro i o nd bd hi hs hl
    rw [p_spell_writer_function_l0, if_neg (by simp; omega)]
    exact .ret ⟨by show o.length ≤ _; omega, hs⟩
   | succ d ihd =>
    intro i o nd bd hi hs hl
    rw [p_spell_writer_function_l0, if_pos (by simp; omega), w64_succ (by omega)]
    have hdrop : n.kids.drop i = n.kids[i]'(by omega) :: n.kids.drop (i + 1) := List.drop_eq_getElem_cons (by omega)
    rw [lget_some (by omega)]
    rw [hdrop, Node.szL] at hl ⊢
    have hk := ih _ (List.getElem_mem (show i < n.kids.length by omega))
    have hw : Wr ⟨w.g, o, w.right, nd, bd⟩ (8 * (n.kids[i]'(by omega)).sz - 4) := ⟨hsh, hr, hs, by show o.length + _ ≤ _; omega⟩
    refine T.bind (R := fun x => x = n.kids[i]'(by omega)) ⟨_, rfl, rfl⟩ fun x hx => ?_
    subst hx
    refine T.bind (hk.function _ hw) fun r hr' => ?_
    obtain ⟨o', n', b'⟩ := r
    have h4 : o'.length ≤ o.length + (8 * (n.kids[i]'(by omega)).sz - 4) := hr'.1
    refine (ihd (i + 1) o' n' b' (by omega) hr'.2 (by omega)).imp fun r hr => ⟨by omega, hr.2⟩
  have hlam : n.kids.length = 1 → ∀ w, Wr w (8 * n.sz - 4) → T (p_spell_writer_lambda (n, w)) (Po w (8 * n.sz - 4)) := by
   intro hlen w hw
   obtain ⟨x, hx, hsz⟩ := one_kid (n := n) (by omega)
   have hk := ih x (by rw [hx]; simp)
   have e0 : lget n.kids 0 = some x := by rw [hx]; rfl
   have hsh := hw.short
   have core : ∀ r : Str, r.length ≤ 1000 → T (p_spell_writer_words [w.g.open_] (Spell_writer.mk w.g w.out r w.nodes w.bad) >>= fun out =>
     lget n.kids 0 >>= fun y =>
     p_spell_writer_expr (y, (Spell_writer.mk w.g out r w.nodes w.bad)) >>= fun (out1, nodes, bad) =>
     p_spell_writer_words [w.g.close] (Spell_writer.mk w.g out1 r nodes bad) >>= fun out2 =>
     some (out2, nodes, bad)) (Po w (8 * n.sz - 4)) := by
    intro r hr
    refine T.bind (words_T (hw.wr (e := 2) rfl hr (by omega)) (Nat.le_refl _) (by have := hsh.open_; omega)) fun o ho => ?_
    have ho' : Pl w 2 o := ho
    rw [e0]
    refine T.bind (R := fun y => y = x) ⟨_, rfl, rfl⟩ fun y hy => ?_
    subst hy
    refine T.bind (hk.expr _ (ho'.wr hw rfl hr (by omega))) fun p hp => ?_
    obtain ⟨o1, n1, b1⟩ := p
    have h1 : Pl w (2 + 8 * y.sz) o1 := ho'.trans (w' := ⟨w.g, o, r, w.nodes, w.bad⟩) hp (Nat.le_refl _)
    refine T.bind (words_T (h1.wr (e := 2) hw rfl hr (by omega)) (Nat.le_refl _) (by have := hsh.close; omega)) fun o2 ho2 => .ret ?_
    exact h1.trans (w' := ⟨w.g, o1, r, n1, b1⟩) ho2 (by omega)
   rw [p_spell_writer_lambda]
   refine T.ite (fun _ => ?_) fun _ => core _ hsh.right
   refine T.bind (R := fun r => r.length ≤ 1000) (T.ite (fun _ => .ret hsh.left) fun _ => .ret hsh.right) fun r hr => core r hr
  have hfun : ∀ w, Wr w (8 * n.sz - 4) → T (p_spell_writer_function (n, w)) (Po w (8 * n.sz - 4)) := by
   intro w hw
   have hsh := hw.short
   rw [p_spell_writer_function]
   refine T.bind (fits_T _ _ _) fun r hr => ?_
   obtain ⟨x, nodes, bad⟩ := r
   refine T.ite (fun _ => .ret (Pl.same hw)) fun hx => ?_
   have hlen := hr (by simpa using hx)
   refine T.ite (fun _ => ?_) fun hk21 => ?_
   ·refine T.bind (words_T (hw.wr (e := 2) rfl hw.right (by omega)) (Nat.le_refl _) (by omega)) fun o ho => .ret (Pl.le (show Pl w 2 o from ho) (by omega))
   refine T.bind (R := fun b => b = true → n.kids.length = 1) ?_ fun b hb => ?_
   ·refine T.ite (fun h => .ret fun _ => ?_) fun h => .ret fun h' => ?_
    ·have : n.kind = 22 := by simpa using h
     rw [this] at hlen
     exact Int.ofNat.inj hlen
    ·have : n.kind = 23 := by simpa using h'
     rw [this] at hlen
     exact Int.ofNat.inj hlen
   refine T.ite (fun h => ?_) fun _ => ?_
   ·refine T.bind (hlam (hb h) _ (hw.wr rfl hw.right (Nat.le_refl _))) fun r hr => ?_
    obtain ⟨o, n1, b1⟩ := r
    exact .ret hr
   refine T.ite (fun h => ?_) fun _ => ?_
   ·have : n.kind = 24 := by simpa using h
    rw [this] at hlen
    obtain ⟨x, hx, hsz⟩ := one_kid (n := n) hlen
    have hk := ih x (by rw [hx]; simp)
    rw [show lget n.kids 0 = some x by rw [hx]; rfl]
    refine T.bind (R := fun y => y = x) ⟨_, rfl, rfl⟩ fun y hy => ?_
    subst hy
    refine T.bind (hk.function _ (hw.wr rfl hw.right (by omega))) fun p hp => ?_
    obtain ⟨o1, n1, b1⟩ := p
    have h1 : Pl w (8 * y.sz - 4) o1 := hp
    refine T.bind (glue_T (h1.wr (e := 1) hw rfl hw.right (by omega)) (by simp) (by intro s hs; simp at hs; subst hs; omega)) fun o2 ho2 => .ret ?_
    exact h1.trans (w' := ⟨w.g, o1, w.right, n1, b1⟩) ho2 (by simp; omega)
   refine T.ite (fun h => ?_) fun _ => ?_
   ·have : n.kind = 26 := by simpa using h
    rw [this] at hlen
    obtain ⟨x, hx, hsz⟩ := one_kid (n := n) hlen
    have hk := ih x (by rw [hx]; simp)
    rw [show lget n.kids 0 = some x by rw [hx]; rfl]
    have both : ∀ bd : Bool, T ((some x : Option Node) >>= fun y1 =>
        p_spell_writer_function (y1, (Spell_writer.mk w.g w.out w.right nodes bd)) >>= fun (out4, nodes3, bad3) =>
        p_spell_Number n.op_ w.g.minus >>= fun x2 =>
        p_spell_writer_glue [w.g.power, x2] (Spell_writer.mk w.g out4 w.right nodes3 bad3) >>= fun out5 =>
        some (out5, nodes3, bad3)) (Po w (8 * n.sz - 4)) := by
     intro bd
     refine T.bind (R := fun y => y = x) ⟨_, rfl, rfl⟩ fun y hy => ?_
     subst hy
     refine T.bind (hk.function _ (hw.wr rfl hw.right (by omega))) fun p hp => ?_
     obtain ⟨o1, n1, b1⟩ := p
     have h1 : Pl w (8 * y.sz - 4) o1 := hp
     refine T.bind (Number_T hsh.minus) fun m hm => ?_
     refine T.bind (glue_T (h1.wr (e := 2) hw rfl hw.right (by omega)) (by simp) (by
      intro s hs
      have := hsh.power
      rcases List.mem_cons.1 hs with rfl | hs
      ·omega
      ·rw [List.mem_singleton] at hs; subst hs; omega)) fun o2 ho2 => .ret ?_
     exact h1.trans (w' := ⟨w.g, o1, w.right, n1, b1⟩) ho2 (by simp; omega)
    exact T.ite (fun _ => both _) fun _ => both _
   refine T.ite (fun h => ?_) fun _ => ?_
   ·have : n.kind = 25 := by simpa using h
    rw [this] at hlen
    obtain ⟨x, hx, hsz⟩ := one_kid (n := n) hlen
    have hk := ih x (by rw [hx]; simp)
    refine T.bind (words_T (hw.wr (e := 2) rfl hw.right (by omega)) (Nat.le_refl _) (by have := hsh.outer; omega)) fun o ho => ?_
    have ho' : Pl w 2 o := ho
    rw [show lget n.kids 0 = some x by rw [hx]; rfl]
    refine T.bind (R := fun y => y = x) ⟨_, rfl, rfl⟩ fun y hy => ?_
    subst hy
    refine T.bind (hk.base _ (ho'.wr hw rfl hw.right (by omega))) fun p hp => ?_
    obtain ⟨o1, n1, b1⟩ := p
    exact .ret (ho'.trans (w' := ⟨w.g, o, w.right, nodes, bad⟩) hp (by omega))
   refine T.bind (R := fun _ => True) (T.ite (fun _ => .ret trivial) fun _ => .ret trivial) fun b _ => ?_
   refine T.ite (fun _ => ?_) fun _ => .ret (Pl.same hw)
   refine T.bind (words_T (hw.wr (e := 2) rfl hw.right (by omega)) (Nat.le_refl _) (by simp)) fun o ho => ?_
   have ho' : Pl w 2 o := ho
   have hro := hw.room
   have hsz := sz_eq n
   have hol := ho'.1
   refine T.bind (R := Po w (2 + 8 * Node.szL n.kids)) ?_ fun r hr => ?_
   ·have := loop w w rfl hw.right hsh _ 0 o nodes bad (Nat.zero_add _) ho'.2 (by rw [List.drop_zero]; omega)
    rw [List.drop_zero] at this
    exact this.imp fun r hr => ⟨by omega, hr.2⟩
   ·obtain ⟨o1, n1, b1⟩ := r
    have h1 : Pl w (2 + 8 * Node.szL n.kids) o1 := hr
    refine T.bind (words_T (h1.wr (e := 2) hw rfl hw.right (by omega)) (Nat.le_refl _) (by simp)) fun o2 ho2 => .ret ?_
    exact h1.trans (w' := ⟨w.g, o1, w.right, n1, b1⟩) ho2 (by omega)
  have paren : ∀ (c : Nat) (m : Spell_writer → Option (List Str × Int × Bool)) (w : Spell_writer), Wr w (c + 4) → (∀ w', w'.g = w.g → Wr w' c → T (m w') (Po w' c)) →
    T (p_spell_writer_words [[40]] w >>= fun out => m (Spell_writer.mk w.g out w.right w.nodes w.bad) >>= fun (out1, nodes, bad) => p_spell_writer_words [[41]] (Spell_writer.mk w.g out1 w.right nodes bad) >>= fun out2 => some (out2, nodes, bad)) (Po w (c + 4)) := by
   intro c m w hw hm
   refine T.bind (words_T (hw.wr (e := 2) rfl hw.right (by omega)) (Nat.le_refl _) (by simp)) fun o ho => ?_
   have ho' : Pl w 2 o := ho
   refine T.bind (hm _ rfl (ho'.wr hw rfl hw.right (by omega))) fun p hp => ?_
   obtain ⟨o1, n1, b1⟩ := p
   have h1 : Pl w (2 + c) o1 := ho'.trans (w' := ⟨w.g, o, w.right, w.nodes, w.bad⟩) hp (Nat.le_refl _)
   refine T.bind (words_T (h1.wr (e := 2) hw rfl hw.right (by omega)) (Nat.le_refl _) (by simp)) fun o2 ho2 => .ret ?_
   exact h1.trans (w' := ⟨w.g, o1, w.right, n1, b1⟩) ho2 (by omega)
  have hsub : 8 * n.sz - 4 + 4 = 8 * n.sz := by omega
  have happ : ∀ w, Wr w (8 * n.sz) → T (p_spell_writer_applied (n, w)) (Po w (8 * n.sz)) := by
   intro w hw
   rw [p_spell_writer_applied]
   refine T.ite (fun _ => ?_) fun _ => ?_
   ·have := paren (8 * n.sz - 4) (fun w' => p_spell_writer_function (n, w')) w (by rw [hsub]; exact hw) fun w' _ hw' => hfun w' hw'
    rw [hsub] at this; exact this
   ·refine T.bind (hfun w ⟨hw.short, hw.right, hw.out, by have := hw.room; omega⟩) fun p hp => ?_
    obtain ⟨o1, n1, b1⟩ := p
    exact .ret (Pl.le (show Pl w (8 * n.sz - 4) o1 from hp) (by omega))
  have hbase : ∀ w, Wr w (8 * n.sz) → T (p_spell_writer_base (n, w)) (Po w (8 * n.sz)) := by
   intro w hw
   rw [p_spell_writer_base]
   refine T.bind (R := fun _ => True) ?_ fun b _ => ?_
   ·repeat' (first | exact .ret trivial | refine T.ite (fun _ => ?_) fun _ => ?_)
   refine T.ite (fun _ => ?_) fun _ => ?_
   ·refine T.bind (hfun w ⟨hw.short, hw.right, hw.out, by have := hw.room; omega⟩) fun p hp => ?_
    obtain ⟨o1, n1, b1⟩ := p
    exact .ret (Pl.le (show Pl w (8 * n.sz - 4) o1 from hp) (by omega))
   ·have := paren (8 * n.sz - 4) (fun w' => p_spell_writer_function (n, w')) w (by rw [hsub]; exact hw) fun w' _ hw' => hfun w' hw'
    rw [hsub] at this; exact this
  have hcall : ∀ w, Wr w (8 * n.sz) → T (p_spell_writer_call (n, w)) (Po w (8 * n.sz)) := by
   intro w hw
   have hsh := hw.short
   have app : T (p_spell_writer_applied (n, w) >>= fun (out3, nodes2, bad2) => some (out3, nodes2, bad2)) (Po w (8 * n.sz)) := by
    refine T.bind (happ w hw) fun p hp => ?_
    obtain ⟨o1, n1, b1⟩ := p
    exact .ret hp
   rw [p_spell_writer_call]
   refine T.ite (fun _ => T.ite (fun _ => ?_) fun _ => app) fun _ => app
   refine T.bind (fits_T _ _ _) fun r hr => ?_
   obtain ⟨x, nodes, bad⟩ := r
   refine T.bind (R := Po w (8 * n.sz)) ?_ fun p hp => ?_
   ·refine T.ite (fun hx => ?_) fun _ => .ret (Pl.same hw)
    obtain ⟨x, hx, hsz⟩ := one_kid (n := n) (hr hx)
    have hk := ih x (by rw [hx]; simp)
    refine T.bind (Number_T hsh.minus) fun m hm => ?_
    refine T.bind (words_T (hw.wr (e := 2) rfl hw.right (by omega)) (Nat.le_refl _) (by omega)) fun o ho => ?_
    have ho' : Pl w 2 o := ho
    rw [show lget n.kids 0 = some x by rw [hx]; rfl]
    refine T.bind (R := fun y => y = x) ⟨_, rfl, rfl⟩ fun y hy => ?_
    subst hy
    refine T.bind (hk.function _ (ho'.wr hw rfl hw.right (by omega))) fun p hp => ?_
    obtain ⟨o1, n1, b1⟩ := p
    have h1 : Pl w (2 + (8 * y.sz - 4)) o1 := ho'.trans (w' := ⟨w.g, o, w.right, nodes, bad⟩) hp (Nat.le_refl _)
    refine T.bind (glue_T (h1.wr (e := 1) hw rfl hw.right (by omega)) (by simp) (by intro s hs; simp at hs; subst hs; simp)) fun o2 ho2 => .ret ?_
    exact h1.trans (w' := ⟨w.g, o1, w.right, n1, b1⟩) ho2 (by simp; omega)
   ·obtain ⟨o1, n1, b1⟩ := p
    exact .ret hp
  have hexpr0 : n.kind = 5 ∨ n.kind = 6 → ∀ w, Wr w (8 * n.sz - 8) → T (p_spell_writer_expr (n, w)) (Po w (8 * n.sz - 8)) := by
   intro hb w hw
   rw [p_spell_writer_expr]
   refine T.ite (fun _ => ?_) fun h5 => T.ite (fun _ => ?_) fun h6 => ?_
   ·refine T.bind (fits_T _ _ _) fun r hr => ?_
    obtain ⟨b, nodes, bad⟩ := r
    refine T.ite (fun hx => ?_) fun _ => .ret (Pl.same hw)
    obtain ⟨x, y, hx, hsz⟩ := two_kids (n := n) (hr hx)
    have hkx := ih x (by rw [hx]; simp)
    have hky := ih y (by rw [hx]; simp)
    rw [show lget n.kids 0 = some x by rw [hx]; rfl, show lget n.kids 1 = some y by rw [hx]; rfl]
    refine T.bind (R := fun z => z = x) ⟨_, rfl, rfl⟩ fun z hz => ?_
    subst hz
    refine T.bind (hkx.call _ (hw.wr rfl hw.right (by omega))) fun p hp => ?_
    obtain ⟨o1, n1, b1⟩ := p
    have h1 : Pl w (8 * z.sz) o1 := hp
    refine T.bind (R := fun z => z = y) ⟨_, rfl, rfl⟩ fun u hu => ?_
    subst hu
    refine T.bind (hky.expr _ (h1.wr hw rfl hw.right (by omega))) fun p hp => ?_
    obtain ⟨o2, n2, b2⟩ := p
    exact .ret (h1.trans (w' := ⟨w.g, o1, w.right, n1, b1⟩) hp (by omega))
   ·refine T.bind (fits_T _ _ _) fun r hr => ?_
    obtain ⟨b, nodes, bad⟩ := r
    refine T.ite (fun hx => ?_) fun _ => .ret (Pl.same hw)
    obtain ⟨x, y, z, hx, hsz⟩ := three_kids (n := n) (hr hx)
    have hkx := ih x (by rw [hx]; simp)
    have hky := ih y (by rw [hx]; simp)
    have hkz := ih z (by rw [hx]; simp)
    rw [show lget n.kids 0 = some x by rw [hx]; rfl, show lget n.kids 1 = some y by rw [hx]; rfl, show lget n.kids 2 = some z by rw [hx]; rfl]
    refine T.bind (R := fun u => u = y) ⟨_, rfl, rfl⟩ fun u hu => ?_
    subst hu
    refine T.bind (hky.operand _ (hw.wr rfl hw.right (by omega))) fun p hp => ?_
    obtain ⟨o1, n1, b1⟩ := p
    have h1 : Pl w (8 * u.sz) o1 := hp
    refine T.bind (R := fun u => u = x) ⟨_, rfl, rfl⟩ fun v hv => ?_
    subst hv
    refine T.bind (hkx.applied _ (h1.wr hw rfl hw.right (by omega))) fun p hp => ?_
    obtain ⟨o2, n2, b2⟩ := p
    have h2 : Pl w (8 * u.sz + 8 * v.sz) o2 := h1.trans (w' := ⟨w.g, o1, w.right, n1, b1⟩) hp (Nat.le_refl _)
    refine T.bind (R := fun u => u = z) ⟨_, rfl, rfl⟩ fun q hq => ?_
    subst hq
    refine T.bind (hkz.expr _ (h2.wr hw rfl hw.right (by omega))) fun p hp => ?_
    obtain ⟨o3, n3, b3⟩ := p
    exact .ret (h2.trans (w' := ⟨w.g, o2, w.right, n2, b2⟩) hp (by omega))
   ·exfalso
    simp at h5 h6
    rcases hb with h | h
    ·exact h5 h
    ·exact h6 h
  have hop : ∀ w, Wr w (8 * n.sz) → T (p_spell_writer_operand (n, w)) (Po w (8 * n.sz)) := by
   intro w hw
   have hsh := hw.short
   have leaf : ∀ (k : Int) (w' : Spell_writer) (s : Str), w'.g = w.g → w'.out = w.out → w'.right = w.right → s.length ≤ 20000000 →
     T (p_spell_writer_fits n k w' >>= fun (x, nodes, bad) => p_spell_writer_words [s] (Spell_writer.mk w.g w.out w.right nodes bad) >>= fun out => some (out, nodes, bad)) (Po w (8 * n.sz)) := by
    intro k w' s _ _ _ hs
    refine T.bind (fits_T _ _ _) fun r hr => ?_
    obtain ⟨x, nodes, bad⟩ := r
    refine T.bind (words_T (hw.wr (e := 2) rfl hw.right (by omega)) (Nat.le_refl _) hs) fun o ho => .ret (Pl.le (show Pl w 2 o from ho) (by omega))
   rw [p_spell_writer_operand]
   refine T.ite (fun _ => ?_) fun _ => T.ite (fun _ => ?_) fun _ => T.ite (fun _ => ?_) fun _ => T.ite (fun _ => ?_) fun _ => T.ite (fun _ => ?_) fun _ => ?_
   ·refine T.bind (spell_Literal_T h1 hsh) fun p hp => ?_
    obtain ⟨s, e⟩ := p
    exact T.ite (fun _ => leaf 0 ⟨w.g, w.out, w.right, w.nodes, true⟩ s rfl rfl rfl hp) fun _ => leaf 0 ⟨w.g, w.out, w.right, w.nodes, (e != 0)⟩ s rfl rfl rfl hp
   ·exact leaf 0 w _ rfl rfl rfl (by omega)
   ·exact leaf 0 w _ rfl rfl rfl (by have := hsh.left; omega)
   ·exact leaf 0 w _ rfl rfl rfl (by have := hw.right; omega)
   ·refine T.bind (fits_T _ _ _) fun r hr => ?_
    obtain ⟨b, nodes, bad⟩ := r
    refine T.ite (fun hx => ?_) fun _ => .ret (Pl.same hw)
    obtain ⟨x, y, hx, hsz⟩ := two_kids (n := n) (hr hx)
    have hkx := ih x (by rw [hx]; simp)
    have hky := ih y (by rw [hx]; simp)
    rw [show lget n.kids 0 = some x by rw [hx]; rfl, show lget n.kids 1 = some y by rw [hx]; rfl]
    refine T.bind (R := fun z => z = x) ⟨_, rfl, rfl⟩ fun z hz => ?_
    subst hz
    refine T.bind (hkx.operand _ (hw.wr rfl hw.right (by omega))) fun p hp => ?_
    obtain ⟨o1, n1, b1⟩ := p
    have h1 : Pl w (8 * z.sz) o1 := hp
    refine T.bind (words_T (h1.wr (e := 2) hw rfl hw.right (by omega)) (Nat.le_refl _) (by simp)) fun o2 ho2 => ?_
    have h2 : Pl w (8 * z.sz + 2) o2 := h1.trans (w' := ⟨w.g, o1, w.right, n1, b1⟩) ho2 (Nat.le_refl _)
    refine T.bind (R := fun z => z = y) ⟨_, rfl, rfl⟩ fun u hu => ?_
    subst hu
    refine T.bind (hky.expr _ (h2.wr hw rfl hw.right (by omega))) fun p hp => ?_
    obtain ⟨o3, n3, b3⟩ := p
    have h3 : Pl w (8 * z.sz + 2 + 8 * u.sz) o3 := h2.trans (w' := ⟨w.g, o2, w.right, n1, b1⟩) hp (Nat.le_refl _)
    refine T.bind (words_T (h3.wr (e := 2) hw rfl hw.right (by omega)) (Nat.le_refl _) (by simp)) fun o4 ho4 => .ret ?_
    exact h3.trans (w' := ⟨w.g, o3, w.right, n3, b3⟩) ho4 (by omega)
   ·refine T.bind (R := fun b => b = true → n.kind = 5 ∨ n.kind = 6) (T.ite (fun h => .ret fun _ => .inl (by simpa using h)) fun h => .ret fun h' => .inr (by simpa using h')) fun b hb => ?_
    refine T.ite (fun h => ?_) fun _ => .ret (Pl.same hw)
    have := paren (8 * n.sz - 8) (fun w' => p_spell_writer_expr (n, w')) w ⟨hw.short, hw.right, hw.out, by have := hw.room; omega⟩ fun w' _ hw' => hexpr0 (hb h) w' hw'
    exact this.imp fun r hr => Pl.le hr (by omega)
  have hexpr : ∀ w, Wr w (8 * n.sz) → T (p_spell_writer_expr (n, w)) (Po w (8 * n.sz)) := by
   intro w hw
   by_cases hb : n.kind = 5 ∨ n.kind = 6
   ·exact (hexpr0 hb w ⟨hw.short, hw.right, hw.out, by have := hw.room; omega⟩).imp fun r hr => Pl.le hr (by omega)
   ·rw [p_spell_writer_expr]
    refine T.ite (fun h => absurd (.inl (by simpa using h)) hb) fun _ => T.ite (fun h => absurd (.inr (by simpa using h)) hb) fun _ => ?_
    refine T.bind (hop w hw) fun p hp => ?_
    obtain ⟨o1, n1, b1⟩ := p
    exact .ret hp
  exact ⟨hexpr, hcall, hop, happ, hfun, hbase⟩
theorem Write_T {g : Grammar} {n : Node} (hg : Short g) (hn : GN n) (hsz : n.sz ≤ 5000) : T (p_spell_Write g n) fun r => r.1.length ≤ 20000001 * 40000 := by
 unfold p_spell_Write
 have hw : Wr ⟨g, [], g.right, 0, false⟩ (8 * n.sz) := ⟨hg, hg.right, by simp, by simp; omega⟩
 refine T.bind (hn.tt.expr _ hw) fun p hp => ?_
 obtain ⟨o, nd, bd⟩ := p
 refine T.ite (fun _ => .ret (by simp)) fun _ => ?_
 have h1 : o.length ≤ 0 + 8 * n.sz := hp.1
 exact T.bind (Join_T (K := 20000000) (by omega) (by omega) (by simp) hp.2) fun r hr => .ret (show List.length r ≤ _ by omega)
end Go.AM.Seat

namespace Go.AM.Seat
open Go Go.AM
set_option linter.unusedVariables false
set_option maxRecDepth 10000
theorem T.getD {α : Type} {x : Option α} {Q : α → Prop} (h : T x Q) (d : α) : x = some (x.getD d) ∧ Q (x.getD d) := by
 obtain ⟨v, rfl, hv⟩ := h; exact ⟨rfl, hv⟩
structure WordsOK (l : List Token) : Prop where
 len : l.length ≤ 2048
 lit : ∀ t ∈ l, Flat t.lit
 text : ∀ t ∈ l, t.text.length ≤ 9000
def kd (l : List Token) (i : Nat) : Int := match l[i]? with
 | some t => t.kind
 | none => 0
theorem kd_lt {l : List Token} {i : Nat} (h : i < l.length) : kd l i = l[i].kind := by unfold kd; rw [getD_of h]
theorem tok_lget {l : List Token} {i : Nat} (h : i < l.length) : lget l (i : Int) = some l[i] := lget_some h
def isV (l : List Token) (i : Nat) (k : Int) (t : Str) : Bool := match l[i]? with
 | some y => (y.kind == k) && (y.text == t) && !(t == [])
 | none => false
theorem is_eq (i : Nat) (k : Int) (t : Str) (p : Grammar_parser) : p_grammar_parser_is (i : Int) k t p = some (isV p.l i k t) := by
 unfold p_grammar_parser_is isV
 by_cases h : i < p.l.length
 ·rw [if_pos (by simp; omega), tok_lget h, getD_of h]
  simp only [Option.bind_eq_bind, Option.bind_some]
  cases h1 : (p.l[i].kind == k) <;> cases h2 : (p.l[i].text == t) <;> simp
 ·rw [if_neg (by simp; omega), List.getElem?_eq_none (by omega)]
theorem isV_lt {l : List Token} {i : Nat} {k : Int} {t : Str} (h : isV l i k t = true) : i < l.length ∧ kd l i = k := by
 unfold isV at h
 split at h
 ·rename_i y hy
  have hi := (List.getElem?_eq_some_iff.1 hy).1
  refine ⟨hi, ?_⟩
  unfold kd
  rw [hy]
  simp only [Bool.and_eq_true, beq_iff_eq] at h
  exact h.1.1
 ·simp at h
theorem Contains_T {ls : List Str} {t : Str} (hl : ls.length ≤ 1000) : T (p_slices_Contains_string ls t) fun _ => True := by
 have loop : ∀ d i, i + d = ls.length → T (p_slices_Index_string_l0 (ls, t, (i : Int))) fun _ => True := by
  intro d
  induction d with
  | zero => intro i hi; rw [p_slices_Index_string_l0, if_neg (by simp; omega)]; exact .ret trivial
  | succ d ih =>
   intro i hi
   rw [p_slices_Index_string_l0, if_pos (by simp; omega), w64_succ (by omega)]
   refine T.bind (T.lget (Q := fun _ => True) (by omega) (by omega) fun _ _ => trivial) fun v _ => ?_
   exact T.ite (fun _ => .ret trivial) fun _ => ih (i + 1) (by omega)
 unfold p_slices_Contains_string p_slices_Index_string
 refine T.bind (R := fun _ => True) (T.bind (loop _ 0 (Nat.zero_add _)) fun r _ => by cases r <;> exact .ret trivial) fun _ _ => .ret trivial
def sgV (l : List Token) (i : Nat) (ls : List Str) : Bool := match l[i]? with
 | some y => (y.kind == 4) && (p_slices_Contains_string ls y.text).getD false
 | none => false
theorem sign_eq (i : Nat) {ls : List Str} (hl : ls.length ≤ 1000) (p : Grammar_parser) : p_grammar_parser_sign (i : Int) ls p = some (sgV p.l i ls) := by
 unfold p_grammar_parser_sign sgV
 by_cases h : i < p.l.length
 ·rw [if_pos (by simp; omega), tok_lget h, getD_of h]
  simp only [Option.bind_eq_bind, Option.bind_some]
  have := ((Contains_T (t := p.l[i].text) hl).getD false).1
  cases h1 : (p.l[i].kind == 4)
  ·simp
  ·simp only [if_true, Bool.true_and]
   rw [this]; rfl
 ·rw [if_neg (by simp; omega), List.getElem?_eq_none (by omega)]
theorem sgV_lt {l : List Token} {i : Nat} {ls : List Str} (h : sgV l i ls = true) : i < l.length ∧ kd l i = 4 := by
 unfold sgV at h
 split at h
 ·rename_i y hy
  have hi := (List.getElem?_eq_some_iff.1 hy).1
  refine ⟨hi, ?_⟩
  unfold kd
  rw [hy]
  simp only [Bool.and_eq_true, beq_iff_eq] at h
  exact h.1
 ·simp at h
theorem times_T (a : Arr) : T (p_grammar_times a) fun _ => True := by
 unfold p_grammar_times
 refine T.ite (fun _ => .ret trivial) fun _ => T.ite (fun _ => .ret trivial) fun h => ?_
 have hl : a.cells.length = 1 := by simp at h; omega
 have hg : T (lget a.cells 0) fun _ => True := T.lget (by omega) (by omega) fun _ _ => trivial
 repeat' (first | exact .ret trivial | refine T.ite (fun _ => ?_) fun _ => ?_ | refine T.bind hg fun _ _ => ?_)
def pwV (g : Grammar) (l : List Token) (i : Nat) : Int × Bool :=
 if isV l i 4 g.power then (match l[i + 1]? with
  | some y => if y.kind = 1 then (p_grammar_times y.lit).getD (0, false) else (0, false)
  | none => (0, false)) else (0, false)
theorem power_eq {i : Nat} (p : Grammar_parser) (hi : i < 9223372036854775000) : p_grammar_parser_power (i : Int) p = some (pwV p.g p.l i) := by
 unfold p_grammar_parser_power pwV
 rw [is_eq]
 simp only [Option.bind_eq_bind, Option.bind_some]
 cases h : isV p.l i 4 p.g.power
 ·simp
 ·simp only [Bool.not_true, Bool.false_eq_true, if_false, if_true]
  rw [w64_succ hi]
  by_cases h1 : i + 1 < p.l.length
  ·rw [if_neg (by simp; omega), tok_lget h1, getD_of h1]
   simp only [Option.bind_some]
   by_cases hk : p.l[i + 1].kind = 1
   ·have := ((times_T p.l[i + 1].lit).getD (0, false)).1
    simp only [hk, bne_self_eq_false, Bool.false_eq_true, if_false, if_true]
    rw [this]; rfl
   ·simp [hk]
  ·rw [if_pos (by simp; omega), List.getElem?_eq_none (by omega)]
theorem pwV_lt {g : Grammar} {l : List Token} {i : Nat} (h : (pwV g l i).2 = true) : i + 1 < l.length ∧ kd l i = 4 ∧ kd l (i + 1) = 1 := by
 unfold pwV at h
 split at h
 ·rename_i hi
  have h1 := isV_lt hi
  split at h
  ·rename_i y hy
   have h2 := (List.getElem?_eq_some_iff.1 hy).1
   refine ⟨h2, h1.2, ?_⟩
   unfold kd
   rw [hy]
   split at h
   ·assumption
   ·simp at h
  ·simp at h
 ·simp at h
theorem fail_eq (e : Int) {i : Int} (hi : 0 ≤ i) (p : Grammar_parser) : ∃ f, p_grammar_parser_fail e i p = some (.error f) ∧ f.err = e := by
 unfold p_grammar_parser_fail
 by_cases h : i < p.l.length
 ·rw [if_pos (by simpa using h)]
  obtain ⟨t, ht, _⟩ := T.lget (Q := fun _ => True) hi h fun _ _ => trivial
  rw [ht]
  exact ⟨_, rfl, rfl⟩
 ·rw [if_neg (by simpa using h)]
  exact ⟨_, rfl, rfl⟩
theorem here_T {p : Grammar_parser} (hi : 0 ≤ p.i) : T (p_grammar_parser_here p) fun _ => True := by
 unfold p_grammar_parser_here
 refine T.ite (fun h => ?_) fun _ => .ret trivial
 exact T.bind (T.lget (Q := fun _ => True) hi (by simpa using h) fun _ _ => trivial) fun _ _ => .ret trivial
theorem down_eq (p : Grammar_parser) (hi : 0 ≤ p.i) (h0 : 0 ≤ p.deep) (h1 : p.deep ≤ 24) :
  (p.deep < 24 ∧ p_grammar_parser_down p = some (.ok (p.deep + 1))) ∨ (p.deep = 24 ∧ ∃ f, p_grammar_parser_down p = some (.error (f, 25)) ∧ f.err = 15) := by
 unfold p_grammar_parser_down
 rw [w64_id (by omega) (by omega)]
 by_cases h : p.deep < 24
 ·rw [if_neg (by simp; omega)]; exact .inl ⟨h, rfl⟩
 ·have e : p.deep = 24 := by omega
  rw [if_pos (by simp; omega)]
  obtain ⟨f, hf, he⟩ := fail_eq 15 hi ⟨p.g, p.l, p.i, p.end_, p.deep + 1, p.in_⟩
  refine .inr ⟨e, f, ?_, he⟩
  rw [hf, e]; rfl
theorem take_eq {i : Nat} (k : Int) (t : Str) (p : Grammar_parser) (hp : p.i = i) (hi : i < 9223372036854775000) : (isV p.l i k t = true ∧ p_grammar_parser_take k t p = some (.ok ((i + 1 : Nat) : Int))) ∨ ∃ f, p_grammar_parser_take k t p = some (.error f) ∧ f.err = 2 := by
 unfold p_grammar_parser_take
 rw [hp, is_eq]
 simp only [Option.bind_eq_bind, Option.bind_some]
 cases h : isV p.l i k t
 ·obtain ⟨f, hf, he⟩ := fail_eq 2 (i := (i : Int)) (by omega) p
  refine .inr ⟨f, ?_, he⟩
  simp [hf]
 ·refine .inl ⟨rfl, ?_⟩
  simp [w64_succ hi]
end Go.AM.Seat

namespace Go.AM.Seat
open Go Go.AM
set_option linter.unusedVariables false
set_option maxRecDepth 10000
def bk (k : Int) : Int := if k = 5 then 1 else if k = 6 then -1 else 0
def dp (l : List Token) (i : Nat) : Nat → Int
 | 0 => 0
 | n + 1 => dp l i n + bk (kd l (i + n))
theorem bk_le (k : Int) : -1 ≤ bk k ∧ bk k ≤ 1 := by unfold bk; split <;> (try split) <;> omega
theorem dp_le (l : List Token) (i : Nat) : ∀ n : Nat, -(n : Int) ≤ dp l i n ∧ dp l i n ≤ n
 | 0 => by simp [dp]
 | n + 1 => by have := dp_le l i n; have := bk_le (kd l (i + n)); simp only [dp]; omega
theorem dp_add (l : List Token) (i m : Nat) : ∀ n, dp l i (m + n) = dp l i m + dp l (i + m) n
 | 0 => by simp [dp]
 | n + 1 => by rw [← Nat.add_assoc]; simp only [dp]; rw [dp_add l i m n, Nat.add_assoc i m n]; omega
structure Bal (l : List Token) (i n : Nat) : Prop where
 zero : dp l i n = 0
 pos : ∀ k, k ≤ n → 0 ≤ dp l i k
theorem Bal.nil (l : List Token) (i : Nat) : Bal l i 0 := ⟨rfl, fun k hk => by (obtain rfl : k = 0 := (by omega)); simp [dp]⟩
theorem Bal.append {l : List Token} {i m n : Nat} (h : Bal l i m) (k : Bal l (i + m) n) : Bal l i (m + n) := by
 refine ⟨by rw [dp_add, h.zero, k.zero]; rfl, fun j hj => ?_⟩
 by_cases hjm : j ≤ m
 ·exact h.pos j hjm
 ·have := k.pos (j - m) (by omega)
  have e := dp_add l i m (j - m)
  rw [show m + (j - m) = j from by omega, h.zero] at e
  omega
theorem Bal.one {l : List Token} {i : Nat} (h : bk (kd l i) = 0) : Bal l i 1 := by
 refine ⟨by simp [dp, h], fun k hk => ?_⟩
 rcases (show k = 0 ∨ k = 1 by omega) with rfl | rfl <;> simp [dp, h]
theorem Bal.wrap {l : List Token} {i n : Nat} (h5 : kd l i = 5) (h : Bal l (i + 1) n) (h6 : kd l (i + 1 + n) = 6) : Bal l i (n + 2) := by
 have e1 : dp l i 1 = 1 := by simp [dp, h5, bk]
 have e : ∀ j, dp l i (1 + j) = 1 + dp l (i + 1) j := fun j => by rw [dp_add, e1]
 refine ⟨?_, fun k hk => ?_⟩
 ·rw [show n + 2 = 1 + (n + 1) from by omega, e]
  simp only [dp, h.zero, h6, bk]
  decide
 ·rcases Nat.eq_zero_or_pos k with rfl | hk0
  ·simp [dp]
  ·obtain ⟨j, rfl⟩ : ∃ j, k = 1 + j := ⟨k - 1, by omega⟩
   rw [e]
   by_cases hj : j ≤ n
   ·have := h.pos j hj; omega
   ·obtain rfl : j = n + 1 := by omega
    simp only [dp, h.zero, h6, bk]
    decide
theorem Bal.uniq {l : List Token} {i m n : Nat} (h : Bal l i m) (hm : kd l (i + m) = 6) (k : Bal l i n) (hn : kd l (i + n) = 6) : m = n := by
 have key : ∀ {a b : Nat}, Bal l i a → kd l (i + a) = 6 → Bal l i b → ¬ a < b := by
  intro a b ha h6 hb hlt
  have := hb.pos (a + 1) (by omega)
  simp only [dp, ha.zero, h6, bk] at this
  revert this; decide
 have := key h hm k
 have := key k hn h
 omega
structure Gr (g : Grammar) : Prop where
 verbs : g.verbs.length ≤ 1000
 adverbs : g.adverbs.length ≤ 1000
 behind : g.behind.length ≤ 1000
def ShP (l : List Token) (i : Nat) : Except Int Unit → Prop
 | .error r => ∃ n, r = ((i + 1 + n : Nat) : Int) ∧ i + 1 + n < l.length ∧ Bal l (i + 1) n ∧ kd l (i + 1 + n) = 6
 | .ok _ => True
theorem shut_T {p : Grammar_parser} {i : Nat} (hw : p.l.length ≤ 2048) (h5 : kd p.l i = 5) (hi : i < p.l.length) :
  T (p_grammar_parser_shut (i : Int) p) fun r => r = -1 ∨ ∃ n, r = ((i + 1 + n : Nat) : Int) ∧ i + 1 + n < p.l.length ∧ Bal p.l (i + 1) n ∧ kd p.l (i + 1 + n) = 6 := by
 have loop : ∀ d j, i + 1 + j + d = p.l.length → (∀ k, k ≤ j → 0 ≤ dp p.l (i + 1) k) → T (p_grammar_parser_shut_l0 (p, 1 + dp p.l (i + 1) j, ((i + 1 + j : Nat) : Int))) (ShP p.l i) := by
  intro d
  induction d with
  | zero => intro j hj hp; rw [p_grammar_parser_shut_l0, if_neg (by simp; omega)]; exact .ret trivial
  | succ d ih =>
   intro j hj hp
   have hlt : i + 1 + j < p.l.length := by omega
   have hk := kd_lt hlt
   have hb := dp_le p.l (i + 1) j
   have h0 := hp j (Nat.le_refl _)
   have hnext : ∀ v : Int, v = 1 + dp p.l (i + 1) (j + 1) → 0 ≤ dp p.l (i + 1) (j + 1) → T (p_grammar_parser_shut_l0 (p, v, w64 (((i + 1 + j : Nat) : Int) + 1))) (ShP p.l i) := by
    intro v hv hpos
    have := ih (j + 1) (by omega) fun k hk => by
     rcases (show k ≤ j ∨ k = j + 1 by omega) with h | rfl
     ·exact hp k h
     ·exact hpos
    rw [w64_succ (by omega), hv]
    exact this
   have hd : dp p.l (i + 1) (j + 1) = dp p.l (i + 1) j + bk p.l[i + 1 + j].kind := by simp only [dp, hk]
   rw [p_grammar_parser_shut_l0, if_pos (by simp; omega), tok_lget hlt]
   simp only [Option.bind_eq_bind, Option.bind_some]
   by_cases e5 : p.l[i + 1 + j].kind = 5
   ·have e : bk 5 = 1 := by decide
    rw [e5, e] at hd
    simp only [e5, beq_self_eq_true, if_true, Option.bind_some]
    exact hnext _ (by rw [w64_id] <;> omega) (by omega)
   ·have b5 : (p.l[i + 1 + j].kind == 5) = false := by simpa using e5
    simp only [b5, Bool.false_eq_true, if_false]
    by_cases e6 : p.l[i + 1 + j].kind = 6
    ·have e : bk 6 = -1 := by decide
     rw [e6, e] at hd
     simp only [e6, beq_self_eq_true, if_true]
     rw [w64_id (by omega) (by omega)]
     by_cases hz : dp p.l (i + 1) j = 0
     ·rw [if_pos (by simp [hz])]
      exact .ret ⟨j, rfl, hlt, ⟨hz, hp⟩, by rw [hk]; exact e6⟩
     ·rw [if_neg (by simp; omega)]
      exact hnext _ (by omega) (by omega)
    ·have b6 : (p.l[i + 1 + j].kind == 6) = false := by simpa using e6
     have e : bk p.l[i + 1 + j].kind = 0 := by unfold bk; rw [if_neg e5, if_neg e6]
     rw [e] at hd
     simp only [b6, Bool.false_eq_true, if_false, Option.bind_some]
     exact hnext _ (by omega) (by omega)
 unfold p_grammar_parser_shut
 have hk := kd_lt hi
 rw [h5] at hk
 have l1 := loop (p.l.length - (i + 1)) 0 (by omega) fun k hk => by (obtain rfl : k = 0 := (by omega)); simp [dp]
 rw [p_grammar_parser_shut_l0, if_pos (by simp; omega), tok_lget hi]
 simp only [Option.bind_eq_bind, Option.bind_some, ← hk, beq_self_eq_true, if_true]
 rw [w64_succ (by omega)]
 refine T.bind (x := p_grammar_parser_shut_l0 (p, w64 (0 + 1), ((i + 1 : Nat) : Int))) (by simpa [dp, w64_id] using l1) fun r hr => ?_
 cases r with
 | error e => exact .ret (.inr hr)
 | ok u => exact .ret (.inl rfl)
theorem skip_l0_T {p : Grammar_parser} (hw : p.l.length ≤ 2048) (hg : Gr p.g) : ∀ (d i : Nat), i + d = p.l.length →
  T (p_grammar_parser_skip_l0 (p, (i : Int))) fun r => ∃ n, r = .error ((i + n : Nat) : Int) ∧ i + n ≤ p.l.length ∧ Bal p.l i n := by
 intro d
 induction d using Nat.strongRecOn with
 | ind d ih =>
  intro i hi
  rw [p_grammar_parser_skip_l0, sign_eq i hg.adverbs]
  simp only [Option.bind_eq_bind, Option.bind_some]
  cases h : sgV p.l i p.g.adverbs
  ·simp only [Bool.false_eq_true, if_false]
   rw [power_eq p (by omega)]
   simp only [Option.bind_some]
   cases h2 : (pwV p.g p.l i).2
   ·simp only [Bool.false_eq_true, if_false]
    exact .ret ⟨0, rfl, by omega, Bal.nil _ _⟩
   ·obtain ⟨q1, q2, q3⟩ := pwV_lt h2
    simp only [if_true]
    rw [show w64 ((i : Int) + 2) = ((i + 2 : Nat) : Int) from by rw [w64_id] <;> omega]
    refine (ih (d - 2) (by omega) (i + 2) (by omega)).imp fun r hr => ?_
    obtain ⟨n, rfl, h3, h4⟩ := hr
    refine ⟨2 + n, by rw [Nat.add_assoc], by omega, Bal.append (m := 2) (Bal.append (m := 1) (Bal.one (by rw [q2]; decide)) (Bal.one (by rw [q3]; decide))) h4⟩
  ·obtain ⟨q1, q2⟩ := sgV_lt h
   simp only [if_true]
   rw [w64_succ (by omega)]
   refine (ih (d - 1) (by omega) (i + 1) (by omega)).imp fun r hr => ?_
   obtain ⟨n, rfl, h3, h4⟩ := hr
   exact ⟨1 + n, by rw [Nat.add_assoc], by omega, Bal.append (Bal.one (by rw [q2]; decide)) h4⟩
def stg (p : Grammar_parser) (i1 : Nat) (b1 : Bool) : Option (Except Int Int) :=
 if sgV p.l i1 p.g.verbs = true then some (.ok ((i1 + 1 : Nat) : Int))
 else if (b1 && sgV p.l i1 p.g.behind) = true then some (.ok ((i1 + 1 : Nat) : Int))
 else if isV p.l i1 5 p.g.open_ = true then p_grammar_parser_shut (i1 : Int) p >>= fun i2 => if decide (i2 < 0) then some (.error (-1)) else some (.ok (w64 (i2 + 1)))
 else if isV p.l i1 5 [40] = true then p_grammar_parser_group ((i1 : Int), b1, p) >>= fun i3 => if decide (i3 < 0) then some (.error (-1)) else some (.ok i3)
 else some (.error (-1))
def i1V (p : Grammar_parser) (i : Nat) : Nat := if isV p.l i 4 p.g.outer = true then i + 1 else i
def b1V (p : Grammar_parser) (i : Nat) (b : Bool) : Bool := if isV p.l i 4 p.g.outer = true then false else b
theorem skip_eq {p : Grammar_parser} {i : Nat} {b : Bool} (hg : Gr p.g) (hi : i < 9223372036854775000) :
  p_grammar_parser_skip ((i : Int), b, p) = (stg p (i1V p i) (b1V p i b) >>= fun res => match res with
   | .error r => some r
   | .ok i6 => p_grammar_parser_skip_l0 (p, i6) >>= fun res => match res with
    | .error r => some r
    | .ok _ => none) := by
 have key : ∀ (j : Nat) (c : Bool), j < 9223372036854775001 → (p_grammar_parser_sign (j : Int) p.g.verbs p >>= fun x1 =>
   if x1 then
    some (Except.ok (w64 ((j : Int) + 1)) : Except Int Int)
   else
    if c then
     p_grammar_parser_sign (j : Int) p.g.behind p >>= fun x2 =>
     if x2 then
      some (.ok (w64 ((j : Int) + 1)))
     else
      p_grammar_parser_is (j : Int) 5 p.g.open_ p >>= fun x3 =>
      if x3 then
       p_grammar_parser_shut (j : Int) p >>= fun i2 =>
       if (decide (i2 < 0)) then
        some (.error (-1))
       else
        some (.ok (w64 (i2 + 1)))
      else
       p_grammar_parser_is (j : Int) 5 [40] p >>= fun x4 =>
       if x4 then
        p_grammar_parser_group ((j : Int), c, p) >>= fun i3 =>
        if (decide (i3 < 0)) then
         some (.error (-1))
        else
         some (.ok i3)
       else
        some (.error (-1))
    else
     p_grammar_parser_is (j : Int) 5 p.g.open_ p >>= fun x5 =>
     if x5 then
      p_grammar_parser_shut (j : Int) p >>= fun i4 =>
      if (decide (i4 < 0)) then
       some (.error (-1))
      else
       some (.ok (w64 (i4 + 1)))
     else
      p_grammar_parser_is (j : Int) 5 [40] p >>= fun x6 =>
      if x6 then
       p_grammar_parser_group ((j : Int), c, p) >>= fun i5 =>
       if (decide (i5 < 0)) then
        some (.error (-1))
       else
        some (.ok i5)
      else
       some (.error (-1))) = stg p j c := by
  intro j c hj
  unfold stg
  rw [sign_eq j hg.verbs, sign_eq j hg.behind, is_eq, is_eq, show w64 ((j : Int) + 1) = ((j + 1 : Nat) : Int) from by rw [w64_id] <;> omega]
  simp only [Option.bind_eq_bind, Option.bind_some]
  cases sgV p.l j p.g.verbs <;> cases c <;> cases sgV p.l j p.g.behind <;> simp
 rw [p_grammar_parser_skip, is_eq]
 simp only [Option.bind_eq_bind, Option.bind_some]
 unfold i1V b1V
 cases h : isV p.l i 4 p.g.outer
 ·simp only [Bool.false_eq_true, if_false, Option.bind_some]
  rw [← key i b (by omega)]
  rfl
 ·simp only [if_true, Option.bind_some]
  rw [← key (i + 1) false (by omega), w64_succ hi]
  rfl
def SkP (l : List Token) (i : Nat) (r : Int) : Prop := r < 0 ∨ ∃ n, 0 < n ∧ r = ((i + n : Nat) : Int) ∧ i + n ≤ l.length ∧ Bal l i n
theorem i1V_le {p : Grammar_parser} {i : Nat} : i ≤ i1V p i ∧ ∃ m, i1V p i = i + m ∧ Bal p.l i m := by
 unfold i1V
 split
 ·rename_i h
  have := isV_lt h
  exact ⟨by omega, 1, rfl, Bal.one (by rw [this.2]; decide)⟩
 ·exact ⟨Nat.le_refl _, 0, rfl, Bal.nil _ _⟩
theorem skip_T {p : Grammar_parser} (hw : p.l.length ≤ 2048) (hg : Gr p.g) : ∀ (d i : Nat) (b : Bool), i + d = p.l.length + 1 → T (p_grammar_parser_skip ((i : Int), b, p)) (SkP p.l i) := by
 intro d
 induction d using Nat.strongRecOn with
 | ind d ih =>
  intro i b hi
  have group : ∀ j c, i ≤ j → j < p.l.length → kd p.l j = 5 → T (p_grammar_parser_group ((j : Int), c, p)) fun r => r < 0 ∨ ∃ n, r = ((j + n + 2 : Nat) : Int) ∧ j + n + 2 ≤ p.l.length ∧ Bal p.l j (n + 2) := by
   intro j c hj hjl h5
   have loop : ∀ e k n, k + e = p.l.length + 1 → j + 1 ≤ k → Bal p.l (j + 1) (k - (j + 1)) → T (p_grammar_parser_group_l0 (c, p, (k : Int), n)) fun r => match r with
     | .error r => r < 0
     | .ok (i3, n1) => ∃ m, i3 = ((j + 1 + m : Nat) : Int) ∧ j + 1 + m < p.l.length ∧ Bal p.l (j + 1) m ∧ kd p.l (j + 1 + m) = 6 := by
    intro e
    induction e using Nat.strongRecOn with
    | ind e ihe =>
     intro k n hk hjk hb
     rw [p_grammar_parser_group_l0, is_eq]
     simp only [Option.bind_eq_bind, Option.bind_some]
     cases h : isV p.l k 6 [41]
     ·simp only [Bool.not_false, if_true]
      refine T.bind (ih e (by omega) k c (by omega)) fun r hr => ?_
      rcases hr with hr | ⟨m, hm, rfl, hml, hbm⟩
      ·rw [if_pos (by simpa using hr)]; exact .ret (show (-1 : Int) < 0 by decide)
      ·rw [if_neg (by simp; omega)]
       refine ihe (e - m) (by omega) (k + m) _ (by omega) (by omega) ?_
       rw [show k + m - (j + 1) = (k - (j + 1)) + m from by omega]
       exact hb.append (by rw [show j + 1 + (k - (j + 1)) = k from by omega]; exact hbm)
     ·simp only [Bool.not_true, Bool.false_eq_true, if_false]
      have := isV_lt h
      exact .ret ⟨k - (j + 1), by rw [show j + 1 + (k - (j + 1)) = k from by omega], by omega, hb, by rw [show j + 1 + (k - (j + 1)) = k from by omega]; exact this.2⟩
   rw [p_grammar_parser_group, w64_succ (by omega)]
   refine T.bind (loop (p.l.length - j) (j + 1) 0 (by omega) (Nat.le_refl _) (by rw [Nat.sub_self]; exact Bal.nil _ _)) fun r hr => ?_
   cases r with
   | error e => exact .ret (.inl hr)
   | ok v =>
    obtain ⟨i3, n1⟩ := v
    obtain ⟨m, rfl, h1, h2, h3⟩ := hr
    have good : T (some (w64 (((j + 1 + m : Nat) : Int) + 1))) fun r => r < 0 ∨ ∃ n, r = ((j + n + 2 : Nat) : Int) ∧ j + n + 2 ≤ p.l.length ∧ Bal p.l j (n + 2) := by
     rw [w64_succ (by omega)]
     exact .ret (.inr ⟨m, by congr 1; omega, by omega, Bal.wrap h5 h2 h3⟩)
    exact T.ite (fun _ => good) fun _ => T.ite (fun _ => T.ite (fun _ => good) fun _ => T.ite (fun _ => good) fun _ => .ret (.inl (by decide))) fun _ => .ret (.inl (by decide))
  rw [skip_eq hg (by omega)]
  obtain ⟨hle, m0, hm0, hb0⟩ := i1V_le (p := p) (i := i)
  have stage : T (stg p (i1V p i) (b1V p i b)) fun r => match r with
    | .error r => r < 0
    | .ok i6 => ∃ n, 0 < n ∧ i6 = ((i1V p i + n : Nat) : Int) ∧ i1V p i + n ≤ p.l.length ∧ Bal p.l (i1V p i) n := by
   unfold stg
   split
   ·rename_i h
    have := sgV_lt h
    exact .ret ⟨1, by omega, rfl, by omega, Bal.one (by rw [this.2]; decide)⟩
   split
   ·rename_i h
    simp only [Bool.and_eq_true] at h
    have := sgV_lt h.2
    exact .ret ⟨1, by omega, rfl, by omega, Bal.one (by rw [this.2]; decide)⟩
   split
   ·rename_i h
    have := isV_lt h
    refine T.bind (shut_T hw this.2 this.1) fun r hr => ?_
    rcases hr with rfl | ⟨n, rfl, h1, h2, h3⟩
    ·rw [if_pos (by decide)]; exact .ret (show (-1 : Int) < 0 by decide)
    ·rw [if_neg (by simp; omega), w64_succ (by omega)]
     exact .ret ⟨n + 2, by omega, by congr 1; omega, by omega, Bal.wrap this.2 h2 h3⟩
   split
   ·rename_i h
    have := isV_lt h
    refine T.bind (group _ _ hle this.1 this.2) fun r hr => ?_
    rcases hr with hr | ⟨n, rfl, h1, h2⟩
    ·rw [if_pos (by simpa using hr)]; exact .ret (show (-1 : Int) < 0 by decide)
    ·rw [if_neg (by simp; omega)]
     exact .ret ⟨n + 2, by omega, by congr 1, by omega, h2⟩
   ·exact .ret (show (-1 : Int) < 0 by decide)
  refine T.bind stage fun r hr => ?_
  cases r with
  | error e => exact .ret (.inl hr)
  | ok i6 =>
   obtain ⟨n, hn, rfl, h1, h2⟩ := hr
   refine T.bind (skip_l0_T hw hg (p.l.length - (i1V p i + n)) (i1V p i + n) (by omega)) fun r hr => ?_
   obtain ⟨m, rfl, h3, h4⟩ := hr
   refine .ret (.inr ⟨m0 + n + m, by omega, by congr 1; omega, by omega, ?_⟩)
   exact Bal.append (Bal.append hb0 (by rw [← hm0]; exact h2)) (by rw [← Nat.add_assoc, ← hm0]; exact h4)
end Go.AM.Seat

namespace Go.AM.Seat
open Go Go.AM
set_option linter.unusedVariables false
set_option maxRecDepth 10000
theorem node_eta (n : Node) : Node.mk n.kind n.op_ n.name (Arr.mk n.lit.shape n.lit.cells) n.kids n.at_ = n := by
 cases n with
 | mk k o nm l ks a => cases l; rfl
theorem core_Name_T {s : Str} (hs : s.length ≤ 100000) : T (p_core_Name s) fun _ => True := by
 have loop : ∀ d i, i + d = s.length → T (p_core_Name_l0 (s, (i : Int))) fun _ => True := by
  intro d
  induction d with
  | zero => intro i hi; rw [p_core_Name_l0, if_neg (by simp; omega)]; exact .ret trivial
  | succ d ih =>
   intro i hi
   rw [p_core_Name_l0, if_pos (by simp; omega), w64_succ (by omega)]
   refine T.bind (R := fun _ => True) ?_ fun r _ => ?_
   ·have hg : T (sget s (i : Int)) fun _ => True := T.sget (by omega) (by omega) fun _ _ => trivial
    repeat' (first | exact .ret trivial | refine T.ite (fun _ => ?_) fun _ => ?_ | refine T.bind hg fun _ _ => ?_)
   ·cases r with
    | error e => exact .ret trivial
    | ok b => exact ih (i + 1) (by omega)
 unfold p_core_Name
 refine T.bind (loop _ 0 (Nat.zero_add _)) fun r _ => ?_
 cases r with
 | error e => exact .ret trivial
 | ok b => exact T.ite (fun _ => .ret trivial) fun _ => .ret trivial
theorem uses_T {n : Node} (h : GN n) : ∀ k, T (p_grammar_uses (n, k)) fun _ => True := by
 induction h with
 | @mk n h1 h2 h3 _ ih =>
  intro k
  have loop : ∀ d i, i + d = n.kids.length → T (p_slices_IndexFunc_Node__grammar_uses_1_l0 (n.kids, k, (i : Int))) fun _ => True := by
   intro d
   induction d with
   | zero => intro i hi; rw [p_slices_IndexFunc_Node__grammar_uses_1_l0, if_neg (by simp; omega)]; exact .ret trivial
   | succ d ihd =>
    intro i hi
    rw [p_slices_IndexFunc_Node__grammar_uses_1_l0, if_pos (by simp; omega), w64_succ (by omega)]
    refine T.bind (T.lget (Q := fun x => x ∈ n.kids) (by omega) (by omega) fun v hv => List.mem_of_getElem? hv) fun v hv => ?_
    rw [p_grammar_uses_1]
    refine T.bind (R := fun _ => True) (T.bind (ih v hv k) fun _ _ => .ret trivial) fun x _ => ?_
    exact T.ite (fun _ => .ret trivial) fun _ => ihd (i + 1) (by omega)
  rw [p_grammar_uses]
  refine T.ite (fun _ => .ret trivial) fun _ => T.ite (fun _ => .ret trivial) fun _ => T.ite (fun _ => .ret trivial) fun _ => ?_
  refine T.bind (R := fun _ => True) ?_ fun _ _ => .ret trivial
  rw [p_slices_ContainsFunc_Node__grammar_uses_1, p_slices_IndexFunc_Node__grammar_uses_1]
  refine T.bind (R := fun _ => True) (T.bind (loop _ 0 (Nat.zero_add _)) fun r _ => by cases r <;> exact .ret trivial) fun _ _ => .ret trivial
theorem szL_append (l m : List Node) : Node.szL (l ++ m) = Node.szL l + Node.szL m := by
 induction l with
 | nil => simp [Node.szL]
 | cons a l ih => simp only [List.cons_append, Node.szL, ih]; omega
theorem righted_T {n : Node} (h : GN n) : T (p_grammar_righted n) fun m => GN m ∧ m.sz = n.sz := by
 induction h with
 | @mk n h1 h2 h3 hk ih =>
  have loop : ∀ d i (l : List Node), i + d = n.kids.length → l.length = i → (∀ x ∈ l, GN x) → T (p_grammar_righted_l0 (n, (i : Int), l)) fun r => r.length = n.kids.length ∧ (∀ x ∈ r, GN x) ∧ Node.szL r = Node.szL l + Node.szL (n.kids.drop i) := by
   intro d
   induction d with
   | zero =>
    intro i l hi hl hg
    rw [p_grammar_righted_l0, if_neg (by simp; omega)]
    exact .ret ⟨by omega, hg, by rw [List.drop_eq_nil_of_le (by omega)]; simp [Node.szL]⟩
   | succ d ihd =>
    intro i l hi hl hg
    rw [p_grammar_righted_l0, if_pos (by simp; omega), w64_succ (by omega), lget_some (by omega)]
    have hlt : i < n.kids.length := by omega
    refine T.bind (R := fun x => x = n.kids[i]) ⟨_, rfl, rfl⟩ fun x hx => ?_
    subst hx
    refine T.bind (ih _ (List.getElem_mem _)) fun m hm => ?_
    refine T.bind (T.lapp (Q := fun r => r = l ++ [m]) (by simp; omega) rfl) fun r hr => ?_
    subst hr
    refine (ihd (i + 1) (l ++ [m]) (by omega) (by simp [hl]) fun x hx => ?_).imp fun r hr => ⟨hr.1, hr.2.1, ?_⟩
    ·rcases List.mem_append.1 hx with h | h
     ·exact hg x h
     ·rw [List.mem_singleton] at h; subst h; exact hm.1
    ·rw [hr.2.2, szL_append, List.drop_eq_getElem_cons hlt]
     simp only [Node.szL, hm.2]; omega
  rw [p_grammar_righted]
  refine T.bind (R := fun _ => True) (T.ite (fun _ => .ret trivial) fun _ => .ret trivial) fun x0 _ => ?_
  have same : GN (Node.mk x0 n.op_ n.name n.lit n.kids n.at_) ∧ (Node.mk x0 n.op_ n.name n.lit n.kids n.at_).sz = n.sz := ⟨.mk h1 h2 h3 hk, by rw [sz_eq, sz_eq n]; rfl⟩
  refine T.ite (fun _ => .ret same) fun _ => T.ite (fun _ => .ret same) fun _ => ?_
  refine T.bind (loop _ 0 [] (Nat.zero_add _) rfl (by simp)) fun r hr => .ret ⟨.mk h1 h2 (by show r.length ≤ _; omega) hr.2.1, ?_⟩
  rw [sz_eq, sz_eq n]
  show Node.szL r + 1 = _
  rw [hr.2.2, List.drop_zero]; simp [Node.szL]
structure NB (n : Node) (c : Nat) : Prop where
 gn : GN n
 sz : n.sz + 1 ≤ 2 * c
 adv : n.kind = 24 → 1 ≤ n.kids.length
theorem flat_nil : Flat (Arr.mk [] []) := ⟨by simp [Arr.shape], by simp [Arr.cells], by simp [Arr.cells]⟩
theorem GN.of {k o : Int} {nm : Str} {l : Arr} {ks : List Node} {a : Int} (h1 : Flat l) (h2 : nm.length ≤ 9000) (h3 : ks.length ≤ 4096) (h4 : ∀ x ∈ ks, GN x) : GN (.mk k o nm l ks a) := .mk h1 h2 h3 h4
abbrev PR := Except (Fault × Int × Int × Int) (Node × Int × Int × Int)
def OkR (Q : Node → Int → Int → Prop) : PR → Prop
 | .error _ => True
 | .ok (n, i, d, _) => Q n i d
theorem function_l0_T {p p' : Grammar_parser} (hg : Gr p.g) (hgg : p'.g = p.g) (hll : p'.l = p.l) (hw : WordsOK p.l) (at_ deep1 in_ : Int) (hd0 : 0 < deep1) (hd1 : deep1 ≤ 24) :
  ∀ (d i c : Nat), i + d = p.l.length → ∀ r, p_grammar_parser_skip_l0 (p', (i : Int)) = some (.error r) → ∀ f0 f1 f2 f3 f4 f5 f6, NB (Node.mk f0 f1 f2 (Arr.mk f3 f4) f5 f6) c →
   T (p_grammar_parser_function_l0 (p, at_, deep1, in_, f0, f1, f2, f3, f4, f5, f6, (i : Int))) fun res => ∃ n m, res = .error (.ok (n, r, deep1 - 1, in_)) ∧ r = ((i + m : Nat) : Int) ∧ NB n (c + m) := by
 intro d
 induction d using Nat.strongRecOn with
 | ind d ih =>
  intro i c hi r hr f0 f1 f2 f3 f4 f5 f6 hn
  have hlen := hw.len
  rw [p_grammar_parser_skip_l0, hgg, sign_eq i hg.adverbs, hll] at hr
  rw [p_grammar_parser_function_l0, sign_eq i hg.adverbs]
  simp only [Option.bind_eq_bind, Option.bind_some] at hr ⊢
  have one : ∀ (k o : Int) (nm : Str), nm.length ≤ 9000 → ∀ a, NB (Node.mk k o nm (Arr.mk [] []) [Node.mk f0 f1 f2 (Arr.mk f3 f4) f5 f6] a) (c + 1) := by
   intro k o nm hnm a
   refine ⟨.of flat_nil hnm (by simp) (by intro x hx; rw [List.mem_singleton] at hx; subst hx; exact hn.gn), ?_, fun _ => by simp [Node.kids]⟩
   have := hn.sz
   rw [sz_eq]
   simp only [Node.kids, Node.szL]
   omega
  cases h : sgV p.l i p.g.adverbs
  ·simp only [h, Bool.false_eq_true, if_false] at hr ⊢
   rw [power_eq _ (by omega)] at hr ⊢
   simp only [hgg, hll, Option.bind_some] at hr ⊢
   cases h2 : (pwV p.g p.l i).2
   ·simp only [h2, Bool.false_eq_true, if_false, Option.some.injEq, Except.error.injEq] at hr ⊢
    subst hr
    refine ⟨_, by simp only [p_grammar_parser_function_1, Option.bind_some]; rfl, _, 0, ?_, rfl, hn⟩
    rw [w64_id (by omega) (by omega)]
   ·obtain ⟨q1, q2, q3⟩ := pwV_lt h2
    simp only [h2, if_true] at hr ⊢
    have e2 : w64 ((i : Int) + 2) = ((i + 2 : Nat) : Int) := by rw [w64_id] <;> omega
    rw [e2] at hr ⊢
    refine (ih (d - 2) (by omega) (i + 2) (c + 1) (by omega) r hr _ _ _ _ _ _ _ (one _ _ _ (by simp) _)).imp fun res hres => ?_
    obtain ⟨n, m, e, e', hb⟩ := hres
    refine ⟨n, 2 + m, e, by rw [e', Nat.add_assoc], hb.gn, by have := hb.sz; omega, hb.adv⟩
  ·obtain ⟨q1, q2⟩ := sgV_lt h
   simp only [h, if_true] at hr ⊢
   rw [w64_succ (by omega)] at hr ⊢
   rw [tok_lget q1]
   simp only [Option.bind_some]
   refine (ih (d - 1) (by omega) (i + 1) (c + 1) (by omega) r hr _ _ _ _ _ _ _ (one _ _ _ (hw.text _ (List.getElem_mem _)) _)).imp fun res hres => ?_
   obtain ⟨n, m, e, e', hb⟩ := hres
   exact ⟨n, 1 + m, e, by rw [e', Nat.add_assoc], hb.gn, by have := hb.sz; omega, hb.adv⟩
end Go.AM.Seat

namespace Go.AM.Seat
open Go Go.AM
set_option linter.unusedVariables false
set_option maxRecDepth 10000
structure Ok (p : Grammar_parser) (i : Nat) : Prop where
 words : WordsOK p.l
 gr : Gr p.g
 at_ : p.i = (i : Int)
 le : i ≤ p.l.length
 d0 : 0 ≤ p.deep
 d1 : p.deep ≤ 24
def EXQ (p : Grammar_parser) (i : Nat) (n : Node) (i' d' : Int) : Prop :=
 d' = p.deep ∧ ∃ m, i' = ((i + m : Nat) : Int) ∧ i + m ≤ p.l.length ∧ Bal p.l i m ∧ (i + m = p.l.length ∨ kd p.l (i + m) = 6) ∧ NB n m
def OPQ (p : Grammar_parser) (i : Nat) (n : Node) (i' d' : Int) : Prop :=
 d' = p.deep ∧ ∃ m, i' = ((i + m : Nat) : Int) ∧ i + m ≤ p.l.length ∧ Bal p.l i m ∧ NB n m
def FNQ (p : Grammar_parser) (i : Nat) (r : Int) (n : Node) (i' d' : Int) : Prop :=
 d' = p.deep ∧ i' = r ∧ ∃ m, r = ((i + m : Nat) : Int) ∧ NB n m
def EXT (p : Grammar_parser) (i : Nat) : Prop := T (p_grammar_parser_expr p) (OkR (EXQ p i))
def FNT (p : Grammar_parser) (i : Nat) : Prop := ∀ b p' r, p'.g = p.g → p'.l = p.l → p_grammar_parser_skip ((i : Int), b, p') = some r → 0 ≤ r → T (p_grammar_parser_function (b, p)) (OkR (FNQ p i r))
theorem failT (e : Int) {i : Int} (hi : 0 ≤ i) (p : Grammar_parser) : T (p_grammar_parser_fail e i p) fun res => ∃ f, res = .error f := by
 obtain ⟨f, hf, _⟩ := fail_eq e hi p
 exact ⟨_, hf, f, rfl⟩
theorem takeT {i : Nat} (k : Int) (t : Str) (p : Grammar_parser) (hp : p.i = i) (hi : i ≤ 100000) : T (p_grammar_parser_take k t p) fun res => (∃ f, res = .error f) ∨ (res = .ok ((i + 1 : Nat) : Int) ∧ i < p.l.length ∧ kd p.l i = k) := by
 rcases take_eq k t p hp (by omega) with ⟨h1, h2⟩ | ⟨f, h, _⟩
 ·exact ⟨_, h2, .inr ⟨rfl, isV_lt h1⟩⟩
 ·exact ⟨_, h, .inl ⟨f, rfl⟩⟩
theorem stg_err {p : Grammar_parser} {i : Nat} {b : Bool} {e : Int} (h : stg p i b = some (.error e)) : e = -1 := by
 unfold stg at h
 split at h
 ·simp at h
 split at h
 ·simp at h
 split at h
 ·simp only [Option.bind_eq_bind, Option.bind_eq_some_iff] at h
  obtain ⟨i2, _, h⟩ := h
  split at h
  ·simpa using h.symm
  ·simp at h
 split at h
 ·simp only [Option.bind_eq_bind, Option.bind_eq_some_iff] at h
  obtain ⟨i2, _, h⟩ := h
  split at h
  ·simpa using h.symm
  ·simp at h
 ·simpa using h.symm
theorem lambda_T {q q' : Grammar_parser} {i : Nat} (h : Ok q i) (h5 : isV q.l i 5 q.g.open_ = true) (hx : ∀ q2, q2.g = q.g → q2.l = q.l → q2.deep = q.deep → Ok q2 (i + 1) → EXT q2 (i + 1))
  {n : Nat} (hb : Bal q.l (i + 1) n) (h6 : kd q.l (i + 1 + n) = 6) : T (p_grammar_parser_lambda q) (OkR fun nd i' d' => d' = q.deep ∧ i' = ((i + (n + 2) : Nat) : Int) ∧ NB nd (n + 2)) := by
 have hlt := isV_lt h5
 have hlen := h.words.len
 have hat := h.at_
 rw [p_grammar_parser_lambda]
 refine T.bind (here_T (by omega)) fun at_ _ => ?_
 rw [hat, w64_succ (by omega)]
 have hok : Ok ⟨q.g, q.l, ((i + 1 : Nat) : Int), q.end_, q.deep, w64 (q.in_ + 1)⟩ (i + 1) := ⟨h.words, h.gr, rfl, by show i + 1 ≤ q.l.length; omega, h.d0, h.d1⟩
 refine T.bind (hx _ rfl rfl rfl hok) fun res hres => ?_
 cases res with
 | error e => obtain ⟨a, b, c, d⟩ := e; exact .ret trivial
 | ok v =>
  obtain ⟨x, i', d', in'⟩ := v
  obtain ⟨rfl, m, rfl, hm1, hm2, hm3, hnb⟩ := hres
  refine T.bind (takeT 6 q.g.close _ rfl (by show i + 1 + m ≤ 100000; have : i + 1 + m ≤ q.l.length := hm1; omega)) fun res hres => ?_
  rcases hres with ⟨f, rfl⟩ | ⟨rfl, ht1, ht2⟩
  ·exact .ret trivial
  ·obtain rfl : m = n := Bal.uniq hm2 ht2 hb h6
   have hone : ∀ (k : Int) (y : Node), GN y → y.sz = x.sz → k ≠ 24 → ∀ a, NB (Node.mk k 0 [] (Arr.mk [] []) [y] a) (m + 2) := by
    intro k y hy hs hk a
    refine ⟨.of flat_nil (by simp) (by simp) (by intro z hz; rw [List.mem_singleton] at hz; subst hz; exact hy), ?_, fun h => absurd h hk⟩
    have := hnb.sz
    rw [sz_eq]
    simp only [Node.kids, Node.szL]
    omega
   refine T.bind (uses_T hnb.gn 3) fun left _ => T.bind (uses_T hnb.gn 4) fun right _ => ?_
   refine T.bind (R := fun r => match r with | .error r => OkR (fun nd i' d' => d' = q.deep ∧ i' = ((i + (m + 2) : Nat) : Int) ∧ NB nd (m + 2)) r | .ok _ => True) ?_ fun r hr => ?_
   ·have hfa : ∀ p2, T (p_grammar_parser_fail 2 (i : Int) p2) fun res => ∃ f, res = .error f := fun p2 => failT 2 (by omega) p2
    have hgood : OkR (fun nd i' d' => d' = q.deep ∧ i' = ((i + (m + 2) : Nat) : Int) ∧ NB nd (m + 2)) (.ok ((Node.mk 23 0 [] (Arr.mk [] []) [x] at_), ((i + 1 + m + 1 : Nat) : Int), q.deep, w64 (in' - 1))) :=
     ⟨rfl, by congr 1; omega, hone _ _ hnb.gn rfl (by decide) _⟩
    repeat' (first | exact .ret trivial | exact .ret hgood | (refine T.bind (hfa _) fun r hr => ?_; obtain ⟨f, rfl⟩ := hr; exact .ret trivial) | refine T.ite (fun _ => ?_) fun _ => ?_)
   ·cases r with
    | error r => exact .ret hr
    | ok u =>
     refine T.bind (righted_T hnb.gn) fun y hy => .ret ⟨rfl, by congr 1; omega, hone _ _ hy.1 hy.2 (by decide) _⟩
end Go.AM.Seat

namespace Go.AM.Seat
open Go Go.AM
set_option linter.unusedVariables false
set_option maxRecDepth 10000
structure Ks (l : List Node) (m : Nat) : Prop where
 all : ∀ x ∈ l, GN x ∧ (x.kind = 24 → 1 ≤ x.kids.length)
 sz : Node.szL l + l.length ≤ 2 * m
 len : l.length ≤ m
theorem Ks.nil : Ks [] 0 := ⟨by simp, by simp [Node.szL], by simp⟩
theorem Ks.snoc {l : List Node} {m c : Nat} {x : Node} (h : Ks l m) (hx : NB x c) : Ks (l ++ [x]) (m + c) := by
 have h1 := hx.sz
 have h2 : 1 ≤ x.sz := by rw [sz_eq]; omega
 refine ⟨fun y hy => ?_, ?_, ?_⟩
 ·rcases List.mem_append.1 hy with hy | hy
  ·exact h.all y hy
  ·rw [List.mem_singleton] at hy; subst hy; exact ⟨hx.gn, hx.adv⟩
 ·have := h.sz
  rw [szL_append, List.length_append]
  simp only [Node.szL, List.length_singleton]; omega
 ·have := h.len
  rw [List.length_append]
  simp only [List.length_singleton]; omega
theorem base_l0_T {q q' : Grammar_parser} (hw : WordsOK q.l) (hg : Gr q.g) (hgg : q'.g = q.g) (hll : q'.l = q.l) (b : Bool) (hd0 : 0 ≤ q.deep) (hd1 : q.deep ≤ 24) (i0 : Nat)
  (hf : ∀ q2 j, q2.g = q.g → q2.l = q.l → q2.deep = q.deep → i0 < j → Ok q2 j → FNT q2 j) :
  ∀ (d k : Nat), k + d = q.l.length + 1 → i0 < k → ∀ n i3 n1, p_grammar_parser_group_l0 (b, q', (k : Int), n) = some (.ok (i3, n1)) → ∀ (l : List Node) (c : Nat) (in_ : Int), Ks l c → c ≤ k →
   T (p_grammar_parser_base_l0 (b, q, l, (k : Int), q.deep, in_)) fun res => match res with
    | .error r => ∃ e, r = .error e
    | .ok (l2, i', d', _) => d' = q.deep ∧ i' = i3 ∧ ∃ m, i3 = ((k + m : Nat) : Int) ∧ k + m < q.l.length ∧ kd q.l (k + m) = 6 ∧ Ks l2 (c + m) := by
 have hlen := hw.len
 intro d
 induction d using Nat.strongRecOn with
 | ind d ih =>
  intro k hk hik n i3 n1 hgr l c in_ hl hc
  rw [p_grammar_parser_group_l0, is_eq, hll] at hgr
  rw [p_grammar_parser_base_l0, is_eq]
  simp only [Option.bind_eq_bind, Option.bind_some] at hgr ⊢
  cases h : isV q.l k 6 [41]
  ·simp only [h, Bool.not_false, if_true] at hgr ⊢
   obtain ⟨r, hsk, hgr⟩ := Option.bind_eq_some_iff.1 hgr
   by_cases hk0 : k ≤ q.l.length
   ·have hsp := skip_T (p := q') (by rw [hll]; exact hlen) (by rw [hgg]; exact hg) (q.l.length + 1 - k) k b (by rw [hll]; omega)
    obtain ⟨r', hr', hsp⟩ := hsp
    rw [hsk, Option.some.injEq] at hr'; subst hr'
    split at hgr
    ·simp at hgr
    ·rename_i hneg
     simp only [decide_eq_true_eq] at hneg
     rcases hsp with hlt | ⟨mm, hmm, rfl, hml, hbal⟩
     ·exact absurd hlt hneg
     rw [hll] at hml
     have hok : Ok ⟨q.g, q.l, (k : Int), q.end_, q.deep, in_⟩ k := ⟨hw, hg, rfl, hk0, hd0, hd1⟩
     refine T.bind (hf ⟨q.g, q.l, (k : Int), q.end_, q.deep, in_⟩ k rfl rfl rfl hik hok b q' _ hgg hll hsk (by omega)) fun res hres => ?_
     cases res with
     | error e => obtain ⟨a1, a2, a3, a4⟩ := e; exact .ret ⟨_, rfl⟩
     | ok v =>
      obtain ⟨x, i', d', in'⟩ := v
      obtain ⟨rfl, rfl, m', hm', hnb⟩ := hres
      obtain rfl : m' = mm := by omega
      have hlc := hl.len
      refine T.bind (T.lapp (Q := fun r => r = l ++ [x]) (by simp; omega) rfl) fun l1 hl1 => ?_
      subst hl1
      refine (ih (d - m') (by omega) (k + m') (by omega) (by omega) _ i3 n1 hgr (l ++ [x]) (c + m') in' (hl.snoc hnb) (by omega)).imp fun res hres => ?_
      cases res with
      | error e => exact hres
      | ok w =>
       obtain ⟨l2, i'', d'', in''⟩ := w
       obtain ⟨h1, h2, m2, h3, h4, h5, h6⟩ := hres
       exact ⟨h1, h2, m' + m2, by rw [h3, Nat.add_assoc], by omega, by rw [← Nat.add_assoc]; exact h5, by rw [← Nat.add_assoc]; exact h6⟩
   ·exfalso
    have hsp := skip_T (p := q') (by rw [hll]; exact hlen) (by rw [hgg]; exact hg) 0 k b (by rw [hll]; omega)
    obtain ⟨r', hr', hsp⟩ := hsp
    rw [hsk, Option.some.injEq] at hr'; subst hr'
    rcases hsp with hlt | ⟨mm, hmm, rfl, hml, hbal⟩
    ·rw [if_pos (by simpa using hlt)] at hgr; simp at hgr
    ·rw [hll] at hml; omega
  ·simp only [h, Bool.not_true, Bool.false_eq_true, if_false, Option.some.injEq, Except.ok.injEq, Prod.mk.injEq] at hgr ⊢
   obtain ⟨rfl, rfl⟩ := hgr
   have := isV_lt h
   exact .ret ⟨rfl, rfl, 0, rfl, this.1, this.2, hl⟩
theorem base_T {q q' : Grammar_parser} {i : Nat} (h : Ok q i) (hgg : q'.g = q.g) (hll : q'.l = q.l) (b : Bool)
  (hx : ∀ q2, q2.g = q.g → q2.l = q.l → q2.deep = q.deep → Ok q2 (i + 1) → EXT q2 (i + 1))
  (hf : ∀ q2 j, q2.g = q.g → q2.l = q.l → q2.deep = q.deep → i < j → Ok q2 j → FNT q2 j)
  {i6 : Int} (hs : stg q' i b = some (.ok i6)) : T (p_grammar_parser_base (b, q)) (OkR fun n i' d' => d' = q.deep ∧ i' = i6 ∧ ∃ m, i6 = ((i + m : Nat) : Int) ∧ i + m ≤ q.l.length ∧ NB n m) := by
 have hlen := h.words.len
 have hat := h.at_
 have hle := h.le
 rw [p_grammar_parser_base]
 refine T.bind (here_T (by omega)) fun at_ _ => ?_
 rw [hat, is_eq, is_eq]
 simp only [Option.bind_eq_bind, Option.bind_some]
 have nosign : ∀ {t : Str} {ls : List Str}, isV q.l i 5 t = true → sgV q.l i ls = false := by
  intro t ls h5
  cases hsg : sgV q.l i ls
  ·rfl
  ·have := (isV_lt h5).2
   have h4 := (sgV_lt hsg).2
   rw [this] at h4
   exact absurd h4 (by decide)
 unfold stg at hs
 rw [hgg, hll] at hs
 cases ho : isV q.l i 5 q.g.open_
 ·simp only [ho, Bool.false_eq_true, if_false] at hs ⊢
  cases hp : isV q.l i 5 [40]
  ·simp only [hp, Bool.false_eq_true, if_false] at hs ⊢
   have hprim : i6 = ((i + 1 : Nat) : Int) ∧ i < q.l.length := by
    split at hs
    ·rename_i hv
     simp only [Option.some.injEq, Except.ok.injEq] at hs
     exact ⟨hs.symm, (sgV_lt hv).1⟩
    split at hs
    ·rename_i hv
     simp only [Bool.and_eq_true] at hv
     simp only [Option.some.injEq, Except.ok.injEq] at hs
     exact ⟨hs.symm, (sgV_lt hv.2).1⟩
    ·simp at hs
   obtain ⟨rfl, hlt⟩ := hprim
   rw [tok_lget hlt, w64_succ (by omega)]
   refine T.bind (R := fun y => y = q.l[i]) ⟨_, rfl, rfl⟩ fun y hy => ?_
   subst hy
   refine .ret ⟨rfl, rfl, 1, rfl, by omega, ⟨.of flat_nil (h.words.text _ (List.getElem_mem _)) (by simp) (by simp), ?_, fun h => by simp [Node.kind] at h⟩⟩
   rw [sz_eq]; simp [Node.kids, Node.szL]
  ·have hlt := isV_lt hp
   simp only [hp, if_true, nosign hp, Bool.and_false, Bool.false_eq_true, if_false] at hs ⊢
   obtain ⟨i3, hgrp, hs⟩ := Option.bind_eq_some_iff.1 hs
   split at hs
   ·simp at hs
   rename_i hneg
   simp only [decide_eq_true_eq] at hneg
   simp only [Option.some.injEq, Except.ok.injEq] at hs
   subst hs
   rw [p_grammar_parser_group, w64_succ (by omega)] at hgrp
   simp only [Option.bind_eq_bind] at hgrp
   obtain ⟨gr, hgl, hgrp⟩ := Option.bind_eq_some_iff.1 hgrp
   cases gr with
   | error e =>
    exfalso
    simp only [Option.some.injEq] at hgrp
    subst hgrp
    have : ∀ (d k : Nat), k + d = q.l.length + 1 → ∀ n e, p_grammar_parser_group_l0 (b, q', (k : Int), n) = some (.error e) → e < 0 := by
     intro d
     induction d using Nat.strongRecOn with
     | ind d ih =>
      intro k hk n e he
      rw [p_grammar_parser_group_l0, is_eq] at he
      simp only [Option.bind_eq_bind, Option.bind_some] at he
      cases h6 : isV q'.l k 6 [41]
      ·simp only [h6, Bool.not_false, if_true] at he
       obtain ⟨r, hsk, he⟩ := Option.bind_eq_some_iff.1 he
       have hsp := skip_T (p := q') (by rw [hll]; exact hlen) (by rw [hgg]; exact h.gr) d k b (by rw [hll]; omega)
       obtain ⟨r', hr', hsp⟩ := hsp
       rw [hsk, Option.some.injEq] at hr'; subst hr'
       rcases hsp with hlt | ⟨mm, hmm, rfl, hml, hbal⟩
       ·rw [if_pos (by simpa using hlt)] at he
        simp only [Option.some.injEq, Except.error.injEq] at he
        omega
       ·rw [if_neg (by simp; omega)] at he
        rw [hll] at hml
        exact ih (d - mm) (by omega) (k + mm) (by omega) _ _ he
      ·simp only [h6, Bool.not_true, Bool.false_eq_true, if_false, Option.some.injEq, reduceCtorEq] at he
    have := this (q.l.length - i) (i + 1) (by omega) _ _ hgl
    omega
   | ok v =>
    obtain ⟨i5, n1⟩ := v
    have hfin : i3 = w64 (i5 + 1) := by
     simp only at hgrp
     split at hgrp
     ·simpa using hgrp.symm
     split at hgrp
     ·split at hgrp
      ·simpa using hgrp.symm
      split at hgrp
      ·simpa using hgrp.symm
      ·simp at hgrp; omega
     ·simp at hgrp; omega
    subst hfin
    rw [w64_succ (by omega)]
    refine T.bind (base_l0_T h.words h.gr hgg hll b h.d0 h.d1 i hf (q.l.length - i) (i + 1) (by omega) (by omega) 0 i5 n1 hgl [] 0 q.in_ Ks.nil (by omega)) fun res hres => ?_
    cases res with
    | error r => obtain ⟨e, rfl⟩ := hres; exact .ret trivial
    | ok w =>
     obtain ⟨l2, i', d', in'⟩ := w
     obtain ⟨rfl, rfl, m, rfl, hm1, hm2, hks⟩ := hres
     rw [Nat.zero_add] at hks
     have hkl := hks.len
     have hksz := hks.sz
     have e1 : w64 (((i + 1 + m : Nat) : Int) + 1) = ((i + (m + 2) : Nat) : Int) := by rw [w64_succ (by omega)]; congr 1; omega
     dsimp only
     rw [e1]
     have node : ∀ k : Int, k ≠ 24 → OkR (fun n i' d' => d' = q.deep ∧ i' = ((i + (m + 2) : Nat) : Int) ∧ ∃ m', ((i + (m + 2) : Nat) : Int) = ((i + m' : Nat) : Int) ∧ i + m' ≤ q.l.length ∧ NB n m') (.ok ((Node.mk k 0 [] (Arr.mk [] []) l2 at_), ((i + (m + 2) : Nat) : Int), q.deep, in')) := by
      intro k hk
      refine ⟨rfl, rfl, m + 2, rfl, by omega, .of flat_nil (by simp) (by omega) (fun x hx => (hks.all x hx).1), ?_, fun h => absurd h hk⟩
      rw [sz_eq]; simp only [Node.kids]; omega
     refine T.ite (fun h1 => ?_) fun _ => T.ite (fun _ => .ret (node 28 (by decide))) fun _ => .ret (node 27 (by decide))
     have hl1 : l2.length = 1 := by simp at h1; omega
     obtain ⟨x, hx⟩ := List.length_eq_one_iff.1 hl1
     subst hx
     have hxx := hks.all x (by simp)
     refine T.bind (R := fun y => y = x) ⟨_, rfl, rfl⟩ fun y hy => ?_
     subst hy
     refine .ret ⟨rfl, rfl, m + 2, rfl, by omega, hxx.1, ?_, hxx.2⟩
     simp only [Node.szL, List.length_singleton] at hksz
     omega
 ·have hlt := isV_lt ho
  simp only [ho, if_true, nosign ho, Bool.and_false, Bool.false_eq_true, if_false] at hs ⊢
  obtain ⟨i2, hsh, hs⟩ := Option.bind_eq_some_iff.1 hs
  have hshT := shut_T (p := q') (i := i) (by rw [hll]; exact hlen) (by rw [hll]; exact hlt.2) (by rw [hll]; exact hlt.1)
  obtain ⟨v, hv, hsp⟩ := hshT
  rw [hsh, Option.some.injEq] at hv; subst hv
  rcases hsp with rfl | ⟨n, rfl, h1, h2, h3⟩
  ·rw [if_pos (by decide)] at hs; simp at hs
  ·rw [hll] at h1 h2 h3
   rw [if_neg (by simp; omega), w64_succ (by omega)] at hs
   simp only [Option.some.injEq, Except.ok.injEq] at hs
   subst hs
   refine T.bind (lambda_T (q' := q') h ho hx h2 h3) fun res hres => ?_
   cases res with
   | error e => obtain ⟨a1, a2, a3, a4⟩ := e; exact .ret trivial
   | ok w =>
    obtain ⟨nd, i', d', in'⟩ := w
    obtain ⟨rfl, rfl, hnb⟩ := hres
    exact .ret ⟨rfl, by congr 1; omega, n + 2, by congr 1; omega, by omega, hnb⟩
end Go.AM.Seat

namespace Go.AM.Seat
open Go Go.AM
set_option linter.unusedVariables false
set_option maxRecDepth 10000
set_option maxHeartbeats 1000000
theorem i1V_of {p p' : Grammar_parser} (hg : p'.g = p.g) (hl : p'.l = p.l) (i : Nat) : i1V p' i = i1V p i := by unfold i1V; rw [hg, hl]
theorem b1V_of {p p' : Grammar_parser} (hg : p'.g = p.g) (hl : p'.l = p.l) (i : Nat) (b : Bool) : b1V p' i b = b1V p i b := by unfold b1V; rw [hg, hl]
theorem function_T {p : Grammar_parser} {i : Nat} (h : Ok p i) (hx : ∀ q2 j, q2.g = p.g → q2.l = p.l → q2.deep = p.deep + 1 → Ok q2 j → EXT q2 j)
  (hf : ∀ q2 j, q2.g = p.g → q2.l = p.l → q2.deep = p.deep + 1 → Ok q2 j → FNT q2 j) : FNT p i := by
 intro b p' r hgg hll hsk hr0
 have hlen := h.words.len
 have hat := h.at_
 have hle := h.le
 have hd0 := h.d0
 have hd1 := h.d1
 rw [p_grammar_parser_function]
 rcases down_eq p (by omega) h.d0 h.d1 with ⟨hlt, hdn⟩ | ⟨_, f, hdn, _⟩
 ·rw [hdn]
  refine T.bind (R := fun x => x = .ok (p.deep + 1)) ⟨_, rfl, rfl⟩ fun x hxx => ?_
  subst hxx
  refine T.bind (here_T (by show 0 ≤ p.i; omega)) fun at_ _ => ?_
  dsimp only
  rw [hat, is_eq]
  simp only [Option.bind_eq_bind, Option.bind_some]
  rw [skip_eq (by rw [hgg]; exact h.gr) (by omega), i1V_of hgg hll, b1V_of hgg hll] at hsk
  obtain ⟨st, hst, hsk⟩ := Option.bind_eq_some_iff.1 hsk
  cases st with
  | error e =>
   exfalso
   have := stg_err hst
   simp only [Option.some.injEq] at hsk
   omega
  | ok i6 =>
   simp only [Option.bind_eq_bind] at hsk
   obtain ⟨lp, hlp, hsk⟩ := Option.bind_eq_some_iff.1 hsk
   cases lp with
   | ok u => simp at hsk
   | error rr =>
    simp only [Option.some.injEq] at hsk
    subst hsk
    obtain ⟨hle1, m0, hm0, _⟩ := i1V_le (p := p) (i := i)
    have hi1 : i1V p i ≤ p.l.length := by
     unfold i1V
     split
     ·rename_i hh; have := isV_lt hh; omega
     ·exact hle
    have core : ∀ (in_ : Int), T (p_grammar_parser_base (b1V p i b, ⟨p.g, p.l, (i1V p i : Int), p.end_, p.deep + 1, in_⟩)) (OkR fun n i' d' => d' = p.deep + 1 ∧ i' = i6 ∧ ∃ m, i6 = ((i1V p i + m : Nat) : Int) ∧ i1V p i + m ≤ p.l.length ∧ NB n m) := by
     intro in_
     exact base_T (q := ⟨p.g, p.l, (i1V p i : Int), p.end_, p.deep + 1, in_⟩) (q' := p') ⟨h.words, h.gr, rfl, hi1, by show 0 ≤ p.deep + 1; omega, by show p.deep + 1 ≤ 24; omega⟩ hgg hll _
      (fun q2 a1 a2 a3 ok => hx q2 _ a1 a2 a3 ok) (fun q2 j a1 a2 a3 _ ok => hf q2 j a1 a2 a3 ok) hst
    have e1 : (if isV p.l i 4 p.g.outer = true then some (false, w64 ((i : Int) + 1)) else some (b, (i : Int)) : Option (Bool × Int)) = some (b1V p i b, (i1V p i : Int)) := by
     unfold b1V i1V
     split
     ·rw [w64_succ (by omega)]
     ·rfl
    rw [e1]
    simp only [Option.bind_some]
    refine T.bind (core p.in_) fun res hres => ?_
    cases res with
    | error e => obtain ⟨a1, a2, a3, a4⟩ := e; exact .ret trivial
    | ok v =>
     obtain ⟨x, i', d', in'⟩ := v
     obtain ⟨rfl, rfl, m, rfl, hm1, hnb⟩ := hres
     dsimp only
     have fin : ∀ (f0 f1 : Int) (f2 : Str) (f3 : List Int) (f4 : List Cell) (f5 : List Node) (f6 : Int) (c : Nat), i + c = i1V p i + m → NB (Node.mk f0 f1 f2 (Arr.mk f3 f4) f5 f6) c →
       T (p_grammar_parser_function_l0 (p, at_, p.deep + 1, in', f0, f1, f2, f3, f4, f5, f6, ((i1V p i + m : Nat) : Int)) >>= fun res => match res with
        | .error r => some r
        | .ok _ => none) (OkR (FNQ p i rr)) := by
      intro f0 f1 f2 f3 f4 f5 f6 c hc hn
      refine T.bind (function_l0_T h.gr hgg hll h.words at_ (p.deep + 1) in' (by omega) (by omega) (p.l.length - (i1V p i + m)) (i1V p i + m) c (by omega) rr hlp f0 f1 f2 f3 f4 f5 f6 hn) fun res hres => ?_
      obtain ⟨n, m2, rfl, e, hb⟩ := hres
      exact .ret ⟨by omega, rfl, c + m2, by rw [e]; congr 1; omega, hb⟩
     cases ho : isV p.l i 4 p.g.outer
     ·have e0 : i1V p i = i := by unfold i1V; rw [ho]; rfl
      simp only [Bool.false_eq_true, if_false, Option.bind_some]
      exact fin _ _ _ _ _ _ _ m (by omega) (by rw [node_eta]; exact hnb)
     ·have e0 : i1V p i = i + 1 := by unfold i1V; rw [ho]; rfl
      simp only [if_true, Option.bind_some]
      refine fin _ _ _ _ _ _ _ (m + 1) (by omega) ⟨.of flat_nil (by simp) (by simp) (by intro z hz; rw [List.mem_singleton] at hz; subst hz; exact hnb.gn), ?_, fun h => by simp [Node.kind] at h⟩
      have := hnb.sz
      rw [sz_eq]; simp only [Node.kids, Node.szL]; omega
 ·rw [hdn]
  refine T.bind (R := fun x => x = .error (f, 25)) ⟨_, rfl, rfl⟩ fun x hxx => ?_
  subst hxx
  exact .ret trivial
end Go.AM.Seat

namespace Go.AM.Seat
open Go Go.AM
set_option linter.unusedVariables false
set_option maxRecDepth 10000
set_option maxHeartbeats 1000000
theorem operand_l0_T {p : Grammar_parser} (hw : WordsOK p.l) (hg : Gr p.g) (h0 : 0 ≤ p.deep) (h1 : p.deep ≤ 24) (i : Nat) (y : Token)
  (hx : ∀ q2 j, q2.g = p.g → q2.l = p.l → q2.deep = p.deep → Ok q2 j → EXT q2 j) :
  ∀ (d k : Nat), k + d = p.l.length → ∀ (m : Nat) (n0 n1 : Int) (n2 : Str) (n3 : List Int) (n4 : List Cell) (n5 : List Node) (n6 in_ : Int), k = i + m → Bal p.l i m → NB (Node.mk n0 n1 n2 (Arr.mk n3 n4) n5 n6) m →
   T (p_grammar_parser_operand_l0 (p, y, n0, n1, n2, n3, n4, n5, n6, (k : Int), p.deep, in_)) fun res => match res with
    | .error r => ∃ e, r = .error e
    | .ok (n0, n1, n2, n3, n4, n5, n6, i', d', _) => OPQ p i (Node.mk n0 n1 n2 (Arr.mk n3 n4) n5 n6) i' d' := by
 have hlen := hw.len
 intro d
 induction d using Nat.strongRecOn with
 | ind d ih =>
  intro k hk m n0 n1 n2 n3 n4 n5 n6 in_ hkm hbal hnb
  have stop : T (some (.ok (n0, n1, n2, n3, n4, n5, n6, (k : Int), p.deep, in_)) : Option (Except (Except (Fault × Int × Int × Int) (Node × Int × Int × Int)) (Int × Int × Str × (List Int) × (List Cell) × (List Node) × Int × Int × Int × Int))) fun res => match res with
    | .error r => ∃ e, r = .error e
    | .ok (n0, n1, n2, n3, n4, n5, n6, i', d', _) => OPQ p i (Node.mk n0 n1 n2 (Arr.mk n3 n4) n5 n6) i' d' :=
   .ret ⟨rfl, m, by rw [hkm], by omega, hbal, hnb⟩
  rw [p_grammar_parser_operand_l0]
  refine T.ite (fun _ => ?_) fun _ => stop
  rw [is_eq]
  simp only [Option.bind_eq_bind, Option.bind_some]
  cases h : isV p.l k 5 [91]
  ·simp only [Bool.false_eq_true, if_false]; exact stop
  ·simp only [if_true]
   have hlt := isV_lt h
   rw [w64_succ (by omega)]
   have hok : Ok ⟨p.g, p.l, ((k + 1 : Nat) : Int), p.end_, p.deep, in_⟩ (k + 1) := ⟨hw, hg, rfl, by show k + 1 ≤ p.l.length; omega, h0, h1⟩
   refine T.bind (hx _ (k + 1) rfl rfl rfl hok) fun res hres => ?_
   cases res with
   | error e => obtain ⟨a1, a2, a3, a4⟩ := e; exact .ret ⟨_, rfl⟩
   | ok v =>
    obtain ⟨x, i', d', in'⟩ := v
    obtain ⟨rfl, mm, rfl, hm1, hm2, hm3, hnx⟩ := hres
    have hm1 : k + 1 + mm ≤ p.l.length := hm1
    refine T.bind (takeT 6 [93] _ rfl (by show k + 1 + mm ≤ 100000; omega)) fun res hres => ?_
    rcases hres with ⟨f, rfl⟩ | ⟨rfl, ht1, ht2⟩
    ·exact .ret ⟨_, rfl⟩
    ·have ht1 : k + 1 + mm < p.l.length := ht1
     have s1 := hnb.sz
     have s2 := hnx.sz
     refine ih (d - (mm + 2)) (by omega) (k + 1 + mm + 1) (by omega) (m + (mm + 2)) _ _ _ _ _ _ _ _ (by omega) (hbal.append (by rw [← hkm]; exact Bal.wrap hlt.2 hm2 ht2)) ⟨.of flat_nil (by simp) (by simp) ?_, ?_, fun h => by simp [Node.kind] at h⟩
     ·intro z hz
      rcases List.mem_cons.1 hz with rfl | hz
      ·exact hnb.gn
      ·rw [List.mem_singleton] at hz; subst hz; exact hnx.gn
     ·rw [sz_eq]; simp only [Node.kids, Node.szL]; omega
theorem operand_T {p : Grammar_parser} {i : Nat} (h : Ok p i) (hx : ∀ q2 j, q2.g = p.g → q2.l = p.l → q2.deep = p.deep → Ok q2 j → EXT q2 j) : T (p_grammar_parser_operand p) (OkR (OPQ p i)) := by
 have hlen := h.words.len
 have hat := h.at_
 have hle := h.le
 rw [p_grammar_parser_operand]
 by_cases hi : i < p.l.length
 ·rw [if_neg (by rw [hat]; simp; omega)]
  simp only [Option.bind_eq_bind, Option.bind_some]
  rw [hat, tok_lget hi]
  simp only [Option.bind_some]
  have hkd := kd_lt hi
  let R : Except (Except (Fault × Int × Int × Int) (Node × Int × Int × Int)) (Int × Int × Str × (List Int) × (List Cell) × (List Node) × Int × Int × Int × Int) → Prop := fun res => match res with
    | .error r => ∃ e, r = .error e
    | .ok (n0, n1, n2, n3, n4, n5, n6, i', d', _) => OPQ p i (Node.mk n0 n1 n2 (Arr.mk n3 n4) n5 n6) i' d'
  have leaf : ∀ (k : Int) (nm : Str) (sh : List Int) (cs : List Cell), k ≠ 24 → nm.length ≤ 9000 → Flat (Arr.mk sh cs) → bk (kd p.l i) = 0 →
    R (.ok (k, 0, nm, sh, cs, [], p.l[i].at_, w64 ((i : Int) + 1), p.deep, p.in_)) := by
   intro k nm sh cs hk hnm hfl hb
   rw [w64_succ (by omega)]
   refine ⟨rfl, 1, rfl, by omega, Bal.one hb, .of hfl hnm (by simp) (by simp), ?_, fun h => absurd h hk⟩
   rw [sz_eq]; simp [Node.kids, Node.szL]
  have par : T (p_grammar_parser_is (i : Int) 5 [40] p >>= fun x1 =>
              if x1 then
               p_grammar_parser_expr (Grammar_parser.mk p.g p.l (w64 ((i : Int) + 1)) p.end_ p.deep p.in_) >>= fun res => match res with
               | .error (e2, i2, deep1, in_1) =>
                 some (.error (.error (e2, i2, deep1, in_1)))
               | .ok (x2, i, deep, in_) =>
                p_grammar_parser_take 6 [41] (Grammar_parser.mk p.g p.l i p.end_ deep in_) >>= fun res => match res with
                | .error e1 =>
                  some (.error (.error (e1, i, deep, in_)))
                | .ok i1 =>
                 some (.ok (x2.kind, x2.op_, x2.name, x2.lit.shape, x2.lit.cells, x2.kids, x2.at_, i1, deep, in_))
              else
               p_grammar_parser_fail 2 (i : Int) p >>= fun res => match res with
               | .error e3 =>
                 some (.error (.error (e3, (i : Int), p.deep, p.in_)))
               | .ok _ =>
                some (.ok (0, 0, [], [], [], [], p.l[i].at_, (i : Int), p.deep, p.in_))) R := by
   rw [is_eq]
   refine T.bind (R := fun x => x = isV p.l i 5 [40]) ⟨_, rfl, rfl⟩ fun x hxx => ?_
   subst hxx
   refine T.ite (fun h5 => ?_) fun _ => ?_
   ·have hlt := isV_lt h5
    rw [w64_succ (by omega)]
    have hok : Ok ⟨p.g, p.l, ((i + 1 : Nat) : Int), p.end_, p.deep, p.in_⟩ (i + 1) := ⟨h.words, h.gr, rfl, by show i + 1 ≤ p.l.length; omega, h.d0, h.d1⟩
    refine T.bind (hx _ (i + 1) rfl rfl rfl hok) fun res hres => ?_
    cases res with
    | error e => obtain ⟨a1, a2, a3, a4⟩ := e; exact .ret ⟨_, rfl⟩
    | ok v =>
     obtain ⟨x, i', d', in'⟩ := v
     obtain ⟨rfl, mm, rfl, hm1, hm2, hm3, hnx⟩ := hres
     have hm1 : i + 1 + mm ≤ p.l.length := hm1
     refine T.bind (takeT 6 [41] _ rfl (by show i + 1 + mm ≤ 100000; omega)) fun res hres => ?_
     rcases hres with ⟨f, rfl⟩ | ⟨rfl, ht1, ht2⟩
     ·exact .ret ⟨_, rfl⟩
     ·have ht1 : i + 1 + mm < p.l.length := ht1
      have s2 := hnx.sz
      exact .ret ⟨rfl, mm + 2, by congr 1; omega, by omega, Bal.wrap hlt.2 hm2 ht2, by rw [node_eta]; exact ⟨hnx.gn, by omega, hnx.adv⟩⟩
   ·refine T.bind (failT 2 (by omega) p) fun r hr => ?_
    obtain ⟨f, rfl⟩ := hr
    exact .ret ⟨_, rfl⟩
  have htok := h.words.text _ (List.getElem_mem hi)
  have hlit := h.words.lit _ (List.getElem_mem hi)
  have hlit' : Flat (Arr.mk p.l[i].lit.shape p.l[i].lit.cells) := ⟨hlit.shape, hlit.len, hlit.box⟩
  refine T.bind (R := R) ?_ fun res hres => ?_
  ·by_cases k1 : p.l[i].kind = 1
   ·rw [if_pos (by simpa using k1)]
    exact .ret (leaf 1 _ _ _ (by decide) (by simp) hlit' (by rw [hkd, k1]; decide))
   rw [if_neg (by simpa using k1)]
   by_cases k2 : p.l[i].kind = 2
   ·rw [if_pos (by simpa using k2)]
    exact .ret (leaf 1 _ _ _ (by decide) (by simp) hlit' (by rw [hkd, k2]; decide))
   rw [if_neg (by simpa using k2)]
   by_cases k3 : p.l[i].kind = 3
   ·have b0 : bk (kd p.l i) = 0 := by rw [hkd, k3]; decide
    have e3 : (p.l[i].kind == 3) = true := by simpa using k3
    have hname : T (p_core_Name p.l[i].text) fun _ => True := core_Name_T (by omega)
    have var : R (.ok (2, 0, p.l[i].text, [], [], [], p.l[i].at_, w64 ((i : Int) + 1), p.deep, p.in_)) := leaf 2 _ _ _ (by decide) htok flat_nil b0
    have lft : R (.ok (3, 0, [], [], [], [], p.l[i].at_, w64 ((i : Int) + 1), p.deep, p.in_)) := leaf 3 _ _ _ (by decide) (by simp) flat_nil b0
    have rgt : R (.ok (4, 0, [], [], [], [], p.l[i].at_, w64 ((i : Int) + 1), p.deep, p.in_)) := leaf 4 _ _ _ (by decide) (by simp) flat_nil b0
    simp only [e3, if_true]
    repeat' (first | exact .ret var | exact .ret lft | exact .ret rgt | exact par | (refine T.bind hname fun _ _ => ?_) | refine T.ite (fun _ => ?_) fun _ => ?_)
   ·have e3 : (p.l[i].kind == 3) = false := by simpa using k3
    simp only [e3, Bool.false_eq_true, if_false]
    exact par
  ·cases res with
   | error r => obtain ⟨e, rfl⟩ := hres; exact .ret trivial
   | ok v =>
    obtain ⟨n0, n1, n2, n3, n4, n5, n6, i', d', in'⟩ := v
    obtain ⟨rfl, m, rfl, hm1, hbal, hnb⟩ := hres
    refine T.bind (operand_l0_T h.words h.gr h.d0 h.d1 i p.l[i] hx (p.l.length - (i + m)) (i + m) (by omega) m n0 n1 n2 n3 n4 n5 n6 in' rfl hbal hnb) fun res hres => ?_
    cases res with
    | error r => obtain ⟨e, rfl⟩ := hres; exact .ret trivial
    | ok v =>
     obtain ⟨n0, n1, n2, n3, n4, n5, n6, i', d', in'⟩ := v
     exact .ret hres
 ·rw [if_pos (by rw [hat]; simp; omega)]
  refine T.bind (R := fun r => ∃ e, r = .error (.error e)) ?_ fun r hr => by obtain ⟨e, rfl⟩ := hr; exact .ret trivial
  refine T.bind (failT 2 (by omega) p) fun r hr => ?_
  obtain ⟨f, rfl⟩ := hr
  exact .ret ⟨_, rfl⟩
end Go.AM.Seat

namespace Go.AM.Seat
open Go Go.AM
set_option linter.unusedVariables false
set_option maxRecDepth 10000
set_option maxHeartbeats 1000000
theorem expr_1_eq (g : Grammar) (l : List Token) (i e d n : Int) (h0 : -1000 ≤ d) (h1 : d ≤ 1000) : p_grammar_parser_expr_1 ⟨g, l, i, e, d, n⟩ = some (d - 1) := by
 unfold p_grammar_parser_expr_1
 rw [w64_id (by show _ ≤ d - 1; omega) (by show d - 1 < _; omega)]
theorem expr_1_T (p : Grammar_parser) : T (p_grammar_parser_expr_1 p) fun _ => True := ⟨_, rfl, trivial⟩
theorem expr_T {p : Grammar_parser} {i : Nat} (h : Ok p i) (hx : ∀ q2 j, q2.g = p.g → q2.l = p.l → q2.deep = p.deep + 1 → Ok q2 j → EXT q2 j)
  (hf : ∀ q2 j, q2.g = p.g → q2.l = p.l → q2.deep = p.deep + 1 → Ok q2 j → FNT q2 j) : EXT p i := by
 have hlen := h.words.len
 have hat := h.at_
 have hle := h.le
 have hd0 := h.d0
 have hd1 := h.d1
 unfold EXT
 rw [p_grammar_parser_expr]
 rcases down_eq p (by omega) h.d0 h.d1 with ⟨hlt, hdn⟩ | ⟨_, f, hdn, _⟩
 ·rw [hdn]
  refine T.bind (R := fun x => x = .ok (p.deep + 1)) ⟨_, rfl, rfl⟩ fun x hxx => ?_
  subst hxx
  dsimp only
  refine T.bind (here_T (by show 0 ≤ p.i; omega)) fun at_ _ => ?_
  have mkOk : ∀ (k : Nat) (in_ : Int), k ≤ p.l.length → Ok ⟨p.g, p.l, (k : Int), p.end_, p.deep + 1, in_⟩ k := fun k in_ hk => ⟨h.words, h.gr, rfl, hk, by show 0 ≤ p.deep + 1; omega, by show p.deep + 1 ≤ 24; omega⟩
  have err : ∀ (e : Fault) (a b c : Int), T (p_grammar_parser_expr_1 (Grammar_parser.mk p.g p.l a p.end_ b c) >>= fun d => some (Except.error (e, a, d, c) : PR)) (OkR (EXQ p i)) := fun e a b c => T.bind (expr_1_T _) fun _ _ => .ret trivial
  have tail : ∀ (k : Nat) (in_ : Int) (F : Node → Int → Node), i ≤ k → k ≤ p.l.length → Bal p.l i (k - i) → (∀ x m, NB x m → ∀ a, NB (F x a) (k - i + m)) →
    T (p_grammar_parser_expr (Grammar_parser.mk p.g p.l (k : Int) p.end_ (p.deep + 1) in_) >>= fun res => match res with
     | .error (e, i2, deep4, in_2) =>
       p_grammar_parser_expr_1 (Grammar_parser.mk p.g p.l i2 p.end_ deep4 in_2) >>= fun deep5 =>
       some (.error (e, i2, deep5, in_2))
     | .ok (x2, i1, deep2, in_1) =>
      p_grammar_parser_expr_1 (Grammar_parser.mk p.g p.l i1 p.end_ deep2 in_1) >>= fun deep3 =>
      some (.ok (F x2 at_, i1, deep3, in_1))) (OkR (EXQ p i)) := by
   intro k in_ F hik hk hb hF
   refine T.bind (hx _ k rfl rfl rfl (mkOk k in_ hk)) fun res hres => ?_
   cases res with
   | error e => obtain ⟨a1, a2, a3, a4⟩ := e; exact err _ _ _ _
   | ok v =>
    obtain ⟨x, i', d', in'⟩ := v
    obtain ⟨rfl, m, rfl, hm1, hm2, hm3, hnb⟩ := hres
    dsimp only
    rw [expr_1_eq _ _ _ _ _ _ (by omega) (by omega)]
    refine T.bind (R := fun d => d = p.deep) ⟨_, rfl, by omega⟩ fun d hd => ?_
    subst hd
    refine .ret ⟨rfl, k - i + m, by congr 1; omega, by have : k + m ≤ p.l.length := hm1; omega, hb.append (by rw [show i + (k - i) = k from by omega]; exact hm2), ?_, hF _ _ hnb _⟩
    rw [show i + (k - i + m) = k + m from by omega]
    exact hm3
  rw [hat]
  obtain ⟨sk, hsk, hsp⟩ := skip_T (p := ⟨p.g, p.l, (i : Int), p.end_, p.deep + 1, p.in_⟩) hlen h.gr (p.l.length + 1 - i) i false (by show i + (p.l.length + 1 - i) = p.l.length + 1; omega)
  refine T.bind (R := fun x => x = sk) ⟨_, hsk, rfl⟩ fun x hxx => ?_
  subst hxx
  refine T.ite (fun hge => ?_) fun hge => ?_
  ·simp only [ge_iff_le, decide_eq_true_eq] at hge
   rcases hsp with hlt0 | ⟨n, hn, rfl, hnl, hbal⟩
   ·omega
   have hnl : i + n ≤ p.l.length := hnl
   refine T.bind (hf ⟨p.g, p.l, (i : Int), p.end_, p.deep + 1, p.in_⟩ i rfl rfl rfl (mkOk i p.in_ hle) false ⟨p.g, p.l, (i : Int), p.end_, p.deep + 1, p.in_⟩ _ rfl rfl hsk (by omega)) fun res hres => ?_
   cases res with
   | error e => obtain ⟨a1, a2, a3, a4⟩ := e; exact err _ _ _ _
   | ok v =>
    obtain ⟨x1, i', d', in'⟩ := v
    obtain ⟨rfl, rfl, m, hm, hnb⟩ := hres
    obtain rfl : m = n := by omega
    refine tail (i + m) in' (fun x2 a => Node.mk 5 0 [] (Arr.mk [] []) [x1, x2] a) (by omega) hnl (by rw [show i + m - i = m from by omega]; exact hbal) fun x c hxc a => ?_
    refine ⟨.of flat_nil (by simp) (by simp) ?_, ?_, fun h => by simp [Node.kind] at h⟩
    ·intro z hz
     rcases List.mem_cons.1 hz with rfl | hz
     ·exact hnb.gn
     ·rw [List.mem_singleton] at hz; subst hz; exact hxc.gn
    ·have s1 := hnb.sz
     have s2 := hxc.sz
     rw [sz_eq]; simp only [Node.kids, Node.szL]; omega
  ·refine T.bind (operand_T (p := ⟨p.g, p.l, (i : Int), p.end_, p.deep + 1, p.in_⟩) (mkOk i p.in_ hle) hx) fun res hres => ?_
   cases res with
   | error e => obtain ⟨a1, a2, a3, a4⟩ := e; exact err _ _ _ _
   | ok v =>
    obtain ⟨x3, i4, d8, in4⟩ := v
    obtain ⟨rfl, m3, rfl, hm3, hbal3, hnb3⟩ := hres
    have hm3 : i + m3 ≤ p.l.length := hm3
    have hbal3 : Bal p.l i m3 := hbal3
    dsimp only
    have stop : (i + m3 = p.l.length ∨ kd p.l (i + m3) = 6) → T (p_grammar_parser_expr_1 (Grammar_parser.mk p.g p.l ((i + m3 : Nat) : Int) p.end_ (p.deep + 1) in4) >>= fun d => some (Except.error (Except.ok (x3, ((i + m3 : Nat) : Int), d, in4)) : Except PR Unit)) fun r => match r with
      | .error r => OkR (EXQ p i) r
      | .ok _ => ∃ sk, p_grammar_parser_skip (((i + m3 : Nat) : Int), true, ⟨p.g, p.l, ((i + m3 : Nat) : Int), p.end_, p.deep + 1, in4⟩) = some sk ∧ 0 ≤ sk := by
     intro hend
     rw [expr_1_eq _ _ _ _ _ _ (by omega) (by omega)]
     refine T.bind (R := fun d => d = p.deep) ⟨_, rfl, by omega⟩ fun d hd => ?_
     subst hd
     exact .ret ⟨rfl, m3, rfl, hm3, hbal3, hend, hnb3⟩
    refine T.bind (R := fun r => match r with
      | .error r => OkR (EXQ p i) r
      | .ok _ => ∃ sk, p_grammar_parser_skip (((i + m3 : Nat) : Int), true, ⟨p.g, p.l, ((i + m3 : Nat) : Int), p.end_, p.deep + 1, in4⟩) = some sk ∧ 0 ≤ sk) ?_ fun r hr => ?_
    ·refine T.ite (fun hge => stop (.inl (by simp at hge; omega))) fun hge => ?_
     have hlt4 : i + m3 < p.l.length := by simp at hge; omega
     rw [tok_lget hlt4]
     refine T.bind (R := fun y => y = p.l[i + m3]) ⟨_, rfl, rfl⟩ fun y hy => ?_
     subst hy
     refine T.ite (fun h6 => stop (.inr (by rw [kd_lt hlt4]; simpa using h6))) fun _ => ?_
     obtain ⟨sk4, hsk4, hsp4⟩ := skip_T (p := ⟨p.g, p.l, ((i + m3 : Nat) : Int), p.end_, p.deep + 1, in4⟩) hlen h.gr (p.l.length + 1 - (i + m3)) (i + m3) true (by show i + m3 + (p.l.length + 1 - (i + m3)) = p.l.length + 1; omega)
     refine T.bind (R := fun x => x = sk4) ⟨_, hsk4, rfl⟩ fun x hxx => ?_
     subst hxx
     refine T.ite (fun _ => ?_) fun hneg => .ret ⟨x, hsk4, by simpa using hneg⟩
     refine T.bind (failT 2 (by omega) _) fun r hr => ?_
     obtain ⟨f, rfl⟩ := hr
     exact T.bind (expr_1_T _) fun _ _ => .ret trivial
    ·cases r with
     | error r => exact .ret hr
     | ok u =>
      obtain ⟨sk4, hsk4, hge4⟩ := hr
      dsimp only
      obtain ⟨sk5, hsk5, hsp4⟩ := skip_T (p := ⟨p.g, p.l, ((i + m3 : Nat) : Int), p.end_, p.deep + 1, in4⟩) hlen h.gr (p.l.length + 1 - (i + m3)) (i + m3) true (by show i + m3 + (p.l.length + 1 - (i + m3)) = p.l.length + 1; omega)
      rw [hsk4, Option.some.injEq] at hsk5
      subst hsk5
      rcases hsp4 with hlt0 | ⟨n5, hn5, rfl, hnl5, hbal5⟩
      ·omega
      have hnl5 : i + m3 + n5 ≤ p.l.length := hnl5
      refine T.bind (hf ⟨p.g, p.l, ((i + m3 : Nat) : Int), p.end_, p.deep + 1, in4⟩ (i + m3) rfl rfl rfl (mkOk (i + m3) in4 hm3) true ⟨p.g, p.l, ((i + m3 : Nat) : Int), p.end_, p.deep + 1, in4⟩ _ rfl rfl hsk4 (by omega)) fun res hres => ?_
      cases res with
      | error e => obtain ⟨a1, a2, a3, a4⟩ := e; exact err _ _ _ _
      | ok v =>
       obtain ⟨x5, i5, d12, in5⟩ := v
       obtain ⟨rfl, rfl, m5, hm5, hnb5⟩ := hres
       obtain rfl : m5 = n5 := by omega
       have hbb : Bal p.l i (i + m3 + m5 - i) := by rw [show i + m3 + m5 - i = m3 + m5 from by omega]; exact hbal3.append hbal5
       have dy := tail (i + m3 + m5) in5 (fun x2 a => Node.mk 6 0 [] (Arr.mk [] []) [x5, x3, x2] a) (by omega) hnl5 hbb fun x c hxc a => by
        refine ⟨.of flat_nil (by simp) (by simp) ?_, ?_, fun h => by simp [Node.kind] at h⟩
        ·intro z hz
         simp only [List.mem_cons, List.not_mem_nil, or_false] at hz
         rcases hz with rfl | rfl | rfl
         ·exact hnb5.gn
         ·exact hnb3.gn
         ·exact hxc.gn
        ·have s1 := hnb5.sz
         have s2 := hxc.sz
         have s3 := hnb3.sz
         rw [sz_eq]; simp only [Node.kids, Node.szL]; omega
       dsimp only
       refine T.ite (fun _ => T.ite (fun h24 => T.ite (fun _ => ?_) fun _ => dy) fun _ => dy) fun _ => dy
       have hk5 := hnb5.adv (by simpa using h24)
       refine T.bind (T.lget (Q := fun _ => True) (by omega) (by omega) fun _ _ => trivial) fun y1 _ => ?_
       refine T.ite (fun _ => T.ite (fun _ => ?_) fun _ => dy) fun _ => dy
       refine T.bind (times_T _) fun nk _ => ?_
       obtain ⟨n, ok⟩ := nk
       refine T.bind (R := fun r => match r with | .error r => ∃ e, r = .error e | .ok _ => True) ?_ fun r hr => ?_
       ·refine T.ite (fun _ => ?_) fun _ => .ret trivial
        refine T.bind (failT 2 (by omega) _) fun r hr => ?_
        obtain ⟨f, rfl⟩ := hr
        exact T.bind (expr_1_T _) fun _ _ => .ret ⟨_, rfl⟩
       ·cases r with
        | error r => obtain ⟨e, rfl⟩ := hr; exact .ret trivial
        | ok u =>
         refine tail (i + m3 + m5) in5 (fun x2 a => Node.mk 5 0 [] (Arr.mk [] []) [Node.mk 26 n [] (Arr.mk [] []) x5.kids a, x2] a) (by omega) hnl5 hbb fun x c hxc a => ?_
         refine ⟨.of flat_nil (by simp) (by simp) ?_, ?_, fun h => by simp [Node.kind] at h⟩
         ·intro z hz
          rcases List.mem_cons.1 hz with rfl | hz
          ·exact .of flat_nil (by simp) hnb5.gn.len fun w hw => hnb5.gn.kid hw
          ·rw [List.mem_singleton] at hz; subst hz; exact hxc.gn
         ·have s1 := hnb5.sz
          have s2 := hxc.sz
          have s5 : (Node.mk 26 n [] (Arr.mk [] []) x5.kids a).sz = x5.sz := by rw [sz_eq, sz_eq x5]; rfl
          rw [sz_eq]; simp only [Node.kids, Node.szL]; simp only [Node.kids] at s5; rw [s5]; omega
 ·rw [hdn]
  refine T.bind (R := fun x => x = .error (f, 25)) ⟨_, rfl, rfl⟩ fun x hxx => ?_
  subst hxx
  exact .ret trivial
theorem parse_T : ∀ (m : Nat) (p : Grammar_parser) (i : Nat), Ok p i → 24 - p.deep ≤ (m : Int) → EXT p i ∧ FNT p i := by
 intro m
 induction m with
 | zero =>
  intro p i h hm
  have hd1 := h.d1
  have none : ∀ {q2 : Grammar_parser} {j : Nat}, q2.deep = p.deep + 1 → Ok q2 j → False := by
   intro q2 j e ok
   have := ok.d1
   omega
  exact ⟨expr_T h (fun q2 j _ _ e ok => (none e ok).elim) fun q2 j _ _ e ok => (none e ok).elim, function_T h (fun q2 j _ _ e ok => (none e ok).elim) fun q2 j _ _ e ok => (none e ok).elim⟩
 | succ m ih =>
  intro p i h hm
  have go : ∀ {q2 : Grammar_parser} {j : Nat}, q2.deep = p.deep + 1 → Ok q2 j → EXT q2 j ∧ FNT q2 j := fun e ok => ih _ _ ok (by omega)
  exact ⟨expr_T h (fun q2 j _ _ e ok => (go e ok).1) fun q2 j _ _ e ok => (go e ok).2, function_T h (fun q2 j _ _ e ok => (go e ok).1) fun q2 j _ _ e ok => (go e ok).2⟩
theorem Parse_T {g : Grammar} {l : List Token} (hg : Gr g) (hw : WordsOK l) (e : Int) : T (p_grammar_Parse g l e) fun r => GN r.1 ∧ r.1.sz ≤ 5000 := by
 have hlen := hw.len
 have z : ∀ (a b : Int), GN (Node.mk a b [] (Arr.mk [] []) [] 0) := fun a b => .of flat_nil (by simp) (by simp) (by simp)
 have hz : GN (Node.mk 0 0 [] (Arr.mk [] []) [] 0) ∧ (Node.mk 0 0 [] (Arr.mk [] []) [] 0).sz ≤ 5000 := ⟨z _ _, by rw [sz_eq]; simp [Node.kids, Node.szL]⟩
 unfold p_grammar_Parse
 have hok : Ok ⟨g, l, ((0 : Nat) : Int), e, 0, 0⟩ 0 := ⟨hw, hg, rfl, Nat.zero_le _, Int.le_refl _, by show (0 : Int) ≤ 24; decide⟩
 refine T.bind ((parse_T 24 _ 0 hok (by show (24 : Int) - 0 ≤ _; decide)).1) fun res hres => ?_
 cases res with
 | error v =>
  obtain ⟨a1, a2, a3, a4⟩ := v
  exact .ret hz
 | ok v =>
  obtain ⟨x, i', d', in'⟩ := v
  obtain ⟨rfl, m, rfl, hm1, hm2, hm3, hnb⟩ := hres
  have hm1 : 0 + m ≤ l.length := hm1
  have hs := hnb.sz
  refine T.bind (R := fun r => match r with | .error r => GN r.1 ∧ r.1.sz ≤ 5000 | .ok _ => True) ?_ fun r hr => ?_
  ·refine T.ite (fun _ => ?_) fun _ => .ret trivial
   refine T.bind (failT 2 (by omega) _) fun r hr => ?_
   obtain ⟨f, rfl⟩ := hr
   exact .ret hz
  ·cases r with
   | error r => exact .ret hr
   | ok u => exact .ret ⟨hnb.gn, by show x.sz ≤ 5000; omega⟩
end Go.AM.Seat

namespace Go.AM.Seat
open Go Go.AM
set_option linter.unusedVariables false
set_option maxRecDepth 10000
set_option maxHeartbeats 1000000
theorem first_T (c : Int) : T (p_runes_first c) fun r => r.1 = 0 ∨ 1 ≤ r.1 ∧ r.1 ≤ 4 := by
 unfold p_runes_first
 repeat' (first | exact .ret (.inl rfl) | exact .ret (.inr ⟨by simp, by simp⟩) | refine T.ite (fun _ => ?_) fun _ => ?_)
theorem put_nil_T (n : Int) : T (p_runes_put_nil n) fun _ => True := by
 unfold p_runes_put_nil
 repeat' (first | (refine T.bind (T.lapp (Q := fun _ => True) (by simp) trivial) fun r hr => .ret trivial) | refine T.ite (fun _ => ?_) fun _ => ?_)
theorem One_T {b : List Int} (hb : b.length ≤ 8192) : T (p_runes_One b) fun r => r.2 = 0 ∨ 1 ≤ r.2 ∧ r.2 ≤ b.length := by
 have loop : ∀ (l : List Int), l.length ≤ 8192 → ∀ (d i : Nat) (n : Int), i + d = l.length → T (p_runes_One_l0 (l, n, (i : Int))) fun r => ∀ e, r = .error e → e.2 = 0 := by
  intro l hl d
  induction d with
  | zero => intro i n hi; rw [p_runes_One_l0, if_neg (by simp; omega)]; exact .ret fun e h => by simp at h
  | succ d ih =>
   intro i n hi
   rw [p_runes_One_l0, if_pos (by simp; omega), w64_succ (by omega)]
   refine T.bind (T.lget (Q := fun _ => True) (by omega) (by omega) fun _ _ => trivial) fun c _ => ?_
   exact T.ite (fun _ => .ret fun e h => by simp at h; subst h; rfl) fun _ => ih (i + 1) _ (by omega)
 unfold p_runes_One
 refine T.ite (fun _ => .ret (.inl rfl)) fun h0 => ?_
 have h0 : b.length ≠ 0 := by simpa using h0
 refine T.bind (T.lget (Q := fun _ => True) (by omega) (by omega) fun _ _ => trivial) fun y _ => ?_
 refine T.bind (first_T y) fun r hr => ?_
 obtain ⟨k, n⟩ := r
 refine T.ite (fun _ => .ret (.inl rfl)) fun hk => T.ite (fun _ => .ret (.inl rfl)) fun hkb => ?_
 have hk : k ≠ 0 := by simpa using hk
 have hkb : k ≤ b.length := by simp at hkb; omega
 have hr : 1 ≤ k ∧ k ≤ 4 := by
  rcases hr with h | h
  ·exact absurd h hk
  ·exact h
 refine T.bind (R := fun l => l.length ≤ 8192) ⟨(b.take k.toNat).drop (1 : Int).toNat, by unfold lmid; rw [if_pos ⟨by omega, by omega, by omega⟩], by show List.length _ ≤ 8192; rw [List.length_drop, List.length_take]; omega⟩ fun l hl => ?_
 refine T.bind (loop l hl _ 0 n (Nat.zero_add _)) fun r hr2 => ?_
 cases r with
 | error e => exact .ret (.inl (hr2 e rfl))
 | ok n2 =>
  refine T.bind (runes_Good_T n2) fun x1 _ => T.ite (fun _ => .ret (.inl rfl)) fun _ => ?_
  refine T.bind (put_nil_T n2) fun x2 _ => T.ite (fun _ => .ret (.inl rfl)) fun _ => .ret (.inr ⟨hr.1, hkb⟩)
theorem Nums_T {l : List Int} (hl : l.length ≤ 9000) : T (p_arr_Nums l) Flat := by
 have loop : ∀ (d i : Nat) (c : List Cell), i + d = l.length → c.length = i → (∀ x ∈ c, x.box = []) → T (p_arr_Nums_l0 (l, (i : Int), c)) fun r => r.length ≤ 9000 ∧ ∀ x ∈ r, x.box = [] := by
  intro d
  induction d with
  | zero => intro i c hi hc hb; rw [p_arr_Nums_l0, if_neg (by simp; omega)]; exact .ret ⟨by omega, hb⟩
  | succ d ih =>
   intro i c hi hc hb
   rw [p_arr_Nums_l0, if_pos (by simp; omega), w64_succ (by omega)]
   refine T.bind (T.lget (Q := fun _ => True) (by omega) (by omega) fun _ _ => trivial) fun n _ => ?_
   refine T.bind (T.lapp (Q := fun r => r = c ++ [Cell.mk 0 n []]) (by simp; omega) rfl) fun r hr => ?_
   subst hr
   refine ih (i + 1) _ (by omega) (by simp [hc]) fun x hx => ?_
   rcases List.mem_append.1 hx with h | h
   ·exact hb x h
   ·rw [List.mem_singleton] at h; subst h; rfl
 unfold p_arr_Nums
 exact T.bind (loop _ 0 [] (Nat.zero_add _) rfl (by simp)) fun r hr => .ret ⟨by simp [Arr.shape], hr.1, hr.2⟩
theorem Text_T {l : List Int} (hl : l.length ≤ 9000) : T (p_arr_Text l) Flat := by
 have loop : ∀ (d i : Nat) (c : List Cell), i + d = l.length → c.length = i → (∀ x ∈ c, x.box = []) → T (p_arr_Text_l0 (l, (i : Int), c)) fun r => r.length ≤ 9000 ∧ ∀ x ∈ r, x.box = [] := by
  intro d
  induction d with
  | zero => intro i c hi hc hb; rw [p_arr_Text_l0, if_neg (by simp; omega)]; exact .ret ⟨by omega, hb⟩
  | succ d ih =>
   intro i c hi hc hb
   rw [p_arr_Text_l0, if_pos (by simp; omega), w64_succ (by omega)]
   refine T.bind (T.lget (Q := fun _ => True) (by omega) (by omega) fun _ _ => trivial) fun n _ => ?_
   refine T.bind (T.lapp (Q := fun r => r = c ++ [Cell.mk 1 n []]) (by simp; omega) rfl) fun r hr => ?_
   subst hr
   refine ih (i + 1) _ (by omega) (by simp [hc]) fun x hx => ?_
   rcases List.mem_append.1 hx with h | h
   ·exact hb x h
   ·rw [List.mem_singleton] at h; subst h; rfl
 unfold p_arr_Text
 refine T.bind (R := fun s => s.length ≤ 1) (T.ite (fun _ => .ret (by simp)) fun _ => .ret (by simp)) fun s hs => ?_
 exact T.bind (loop _ 0 [] (Nat.zero_add _) rfl (by simp)) fun r hr => .ret ⟨hs, hr.1, hr.2⟩
theorem digit_T (c : Int) : T (p_jlex_digit c) fun r => r = true → 48 ≤ c := by
 unfold p_jlex_digit
 exact T.ite (fun h => .ret fun _ => by simpa using h) fun _ => .ret fun h => by simp at h
theorem letter_T (c : Int) : T (p_jlex_letter c) fun r => r = true → 48 ≤ c := by
 unfold p_jlex_letter
 exact T.ite (fun h => .ret fun _ => by simp at h; omega) fun _ => .ret fun h => by simp at h
theorem at_T (s : Str) (i : Nat) : T (p_jlex_at s (i : Int)) fun c => c ≠ 0 → i < s.length := by
 unfold p_jlex_at
 refine T.ite (fun h => ?_) fun _ => .ret fun h => absurd rfl h
 have h : i < s.length := by simp at h; omega
 exact T.bind (T.sget (Q := fun _ => True) (by omega) (by omega) fun _ _ => trivial) fun c _ => .ret fun _ => h
theorem at0_T (s : Str) : T (p_jlex_at s 0) fun c => c ≠ 0 → 0 < s.length := at_T s 0
theorem at1_T (s : Str) : T (p_jlex_at s 1) fun c => c ≠ 0 → 1 < s.length := at_T s 1
theorem at2_T (s : Str) : T (p_jlex_at s 2) fun c => c ≠ 0 → 2 < s.length := at_T s 2
theorem begins_T (s : Str) : T (p_jlex_begins s) fun r => r = true → 0 < s.length := by
 unfold p_jlex_begins
 refine T.bind (at0_T s) fun c hc => T.bind (digit_T c) fun d hd => T.ite (fun h => .ret fun _ => hc (by have := hd h; omega)) fun _ => ?_
 refine T.bind (at0_T s) fun c2 hc2 => T.ite (fun h => ?_) fun _ => .ret fun h => by simp at h
 have h : c2 = 95 := by simpa using h
 exact T.bind (at1_T s) fun c3 _ => T.bind (digit_T c3) fun d _ => .ret fun _ => hc2 (by omega)
theorem number_T {s : Str} (hl : s.length ≤ 8192) (h0 : 0 < s.length) : T (p_jlex_number s) fun r => ∃ j : Nat, r.2.1 = (j : Int) ∧ j ≤ s.length := by
 have loop : ∀ (d k : Nat) (n : Int) (ok : Bool), k + d = s.length → T (p_jlex_number_l0 (s, (k : Int), n, ok)) fun r => ∃ j : Nat, r.1 = (j : Int) ∧ j ≤ s.length := by
  intro d
  induction d with
  | zero =>
   intro k n ok hk
   rw [p_jlex_number_l0]
   refine T.bind (at_T s k) fun c hc => T.bind (digit_T c) fun b hb => T.ite (fun h => ?_) fun _ => .ret ⟨k, rfl, by omega⟩
   have := hc (by have := hb h; omega)
   omega
  | succ d ih =>
   intro k n ok hk
   rw [p_jlex_number_l0]
   refine T.bind (at_T s k) fun c hc => T.bind (digit_T c) fun b hb => T.ite (fun h => ?_) fun _ => .ret ⟨k, rfl, by omega⟩
   rw [w64_succ (by omega)]
   refine T.bind (R := fun _ => True) ?_ fun r _ => ?_
   ·refine T.bind (T.sget (Q := fun _ => True) (by omega) (by omega) fun _ _ => trivial) fun c _ => ?_
    exact T.ite (fun _ => .ret trivial) fun _ => .ret trivial
   ·obtain ⟨n1, ok1⟩ := r
    exact ih (k + 1) n1 ok1 (by omega)
 have g0 : T (sget s 0) fun _ => True := T.sget (by omega) (by omega) fun _ _ => trivial
 unfold p_jlex_number
 refine T.bind g0 fun c _ => T.bind (R := fun k => ∃ j : Nat, k = (j : Int) ∧ j ≤ s.length) (T.ite (fun _ => .ret ⟨1, rfl, by omega⟩) fun _ => .ret ⟨0, rfl, by omega⟩) fun k hk => ?_
 obtain ⟨j, rfl, hj⟩ := hk
 refine T.bind (loop (s.length - j) j 0 true (by omega)) fun r hr => ?_
 obtain ⟨k2, n2, ok2⟩ := r
 refine T.bind g0 fun c2 _ => ?_
 exact T.ite (fun _ => .ret hr) fun _ => T.ite (fun _ => .ret hr) fun _ => .ret hr
theorem numbers_T {s : Str} (hl : s.length ≤ 8192) (h0 : 0 < s.length) : T (p_jlex_numbers s) fun r => Flat r.1 ∧ ∃ j : Nat, r.2.1 = (j : Int) ∧ j ≤ s.length := by
 have sp : ∀ (d j : Nat), j + d = s.length → T (p_jlex_numbers_l1 (s, (j : Int))) fun r => ∃ k : Nat, r = (k : Int) ∧ j ≤ k ∧ k ≤ s.length := by
  intro d
  induction d with
  | zero =>
   intro j hj
   rw [p_jlex_numbers_l1]
   refine T.bind (at_T s j) fun c hc => T.ite (fun h => ?_) fun _ => .ret ⟨j, rfl, Nat.le_refl _, by omega⟩
   have h : c = 32 := by simpa using h
   have := hc (by omega)
   omega
  | succ d ih =>
   intro j hj
   rw [p_jlex_numbers_l1]
   refine T.bind (at_T s j) fun c hc => T.ite (fun h => ?_) fun _ => .ret ⟨j, rfl, Nat.le_refl _, by omega⟩
   rw [w64_succ (by omega)]
   refine (ih (j + 1) (by omega)).imp fun r hr => ?_
   obtain ⟨k, rfl, h1, h2⟩ := hr
   exact ⟨k, rfl, by omega, h2⟩
 have loop : ∀ (d i : Nat) (l : List Int), i + d = s.length → 0 < d → l.length ≤ i → T (p_jlex_numbers_l0 (s, l, (i : Int))) fun r => match r with
   | .error r => Flat r.1 ∧ ∃ j : Nat, r.2.1 = (j : Int) ∧ j ≤ s.length
   | .ok r => r.1.length ≤ 9000 ∧ ∃ j : Nat, r.2 = (j : Int) ∧ j ≤ s.length := by
  intro d
  induction d using Nat.strongRecOn with
  | ind d ih =>
   intro i l hi hd hlk
   rw [p_jlex_numbers_l0]
   refine T.bind (T.sfrom (Q := fun t => t.length = s.length - i) (by omega) (by omega) (by rw [List.length_drop]; omega)) fun t ht => ?_
   refine T.bind (number_T (s := t) (by omega) (by omega)) fun r hr => ?_
   obtain ⟨n, k, ok⟩ := r
   obtain ⟨j, hj, hjl⟩ := hr
   have hj : k = (j : Int) := hj
   subst hj
   refine T.ite (fun _ => .ret ⟨flat_nil, 0, rfl, by omega⟩) fun _ => ?_
   refine T.bind (T.lapp (Q := fun r => r = l ++ [n]) (by simp; omega) rfl) fun l1 hl1 => ?_
   subst hl1
   have hlen1 : (l ++ [n]).length ≤ 9000 := by simp; omega
   have e : w64 ((i : Int) + (j : Int)) = ((i + j : Nat) : Int) := by rw [w64_id] <;> omega
   rw [e]
   refine T.bind (sp (s.length - (i + j)) (i + j) (by omega)) fun j1 hj1 => ?_
   obtain ⟨k1, rfl, hk1, hk2⟩ := hj1
   refine T.ite (fun _ => .ret ⟨hlen1, i + j, rfl, by omega⟩) fun hne => ?_
   have hne : k1 ≠ i + j := by
    intro h
    subst h
    simp at hne
   refine T.bind (T.sfrom (Q := fun t => t.length = s.length - k1) (by omega) (by omega) (by rw [List.length_drop]; omega)) fun t2 ht2 => ?_
   refine T.bind (begins_T t2) fun b hb => T.ite (fun _ => .ret ⟨hlen1, i + j, rfl, by omega⟩) fun hbb => ?_
   have := hb (by simpa using hbb)
   exact ih (s.length - k1) (by omega) k1 _ (by omega) (by omega) (by simp; omega)
 unfold p_jlex_numbers
 refine T.bind (loop s.length 0 [] (by omega) h0 (by simp)) fun r hr => ?_
 cases r with
 | error r => exact .ret hr
 | ok r =>
  obtain ⟨l2, i1⟩ := r
  refine T.ite (fun h1 => ?_) fun _ => T.bind (Nums_T hr.1) fun a ha => .ret ⟨ha, hr.2⟩
  have h1 : l2.length = 1 := by simp at h1; omega
  refine T.bind (T.lget (Q := fun _ => True) (by omega) (by omega) fun _ _ => trivial) fun y _ => ?_
  exact T.bind (R := Flat) ⟨_, rfl, by simp [Arr.shape], by simp [Arr.cells], by intro c hc; simp [Arr.cells] at hc; subst hc; rfl⟩ fun a ha => .ret ⟨ha, hr.2⟩
theorem text_T {s : Str} (hl : s.length ≤ 8192) (h0 : 0 < s.length) : T (p_jlex_text s) fun r => Flat r.1 ∧ ∃ j : Nat, r.2.1 = (j : Int) ∧ j ≤ s.length := by
 have loop : ∀ (d i : Nat) (l : List Int), i + d = s.length → l.length ≤ i → T (p_jlex_text_l0 (s, l, (i : Int))) fun r => match r with
   | .error r => Flat r.1 ∧ ∃ j : Nat, r.2.1 = (j : Int) ∧ j ≤ s.length
   | .ok _ => True := by
  intro d
  induction d using Nat.strongRecOn with
  | ind d ih =>
   intro i l hi hlk
   rw [p_jlex_text_l0]
   refine T.ite (fun hlt => ?_) fun _ => .ret trivial
   have hlt : i < s.length := by simp at hlt; omega
   refine T.bind (T.sfrom (Q := fun t => t.length = s.length - i) (by omega) (by omega) (by rw [List.length_drop]; omega)) fun t ht => ?_
   refine T.bind (T.sbytes (Q := fun b => b.length = s.length - i) (by omega) (by rw [List.length_map]; exact ht)) fun b hb => ?_
   refine T.bind (One_T (b := b) (by omega)) fun r hr => ?_
   obtain ⟨n, kk⟩ := r
   have hr : kk = 0 ∨ 1 ≤ kk ∧ kk ≤ b.length := hr
   rw [w64_succ (by omega)]
   have bad : ∀ f : Fault, Flat (Arr.mk [] [], (0 : Int), f).1 ∧ ∃ j : Nat, (Arr.mk [] [], (0 : Int), f).2.1 = (j : Int) ∧ j ≤ s.length := fun f => ⟨flat_nil, 0, rfl, by omega⟩
   refine T.bind (R := fun r => match r with
    | .error r => Flat r.1 ∧ ∃ j : Nat, r.2.1 = (j : Int) ∧ j ≤ s.length
    | .ok k => 1 ≤ k ∧ (i : Int) + k ≤ s.length) ?_ fun r hr2 => ?_
   ·refine T.ite (fun _ => .ret (bad _)) fun hk0 => ?_
    have hkk : 1 ≤ kk ∧ kk ≤ b.length := by
     rcases hr with h | h
     ·simp [h] at hk0
     ·exact h
    have good : (1 : Int) ≤ kk ∧ (i : Int) + kk ≤ s.length := ⟨hkk.1, by omega⟩
    refine T.ite (fun h39 => ?_) fun h39 => ?_
    ·refine T.bind (at_T s (i + 1)) fun c hc => T.ite (fun _ => ?_) fun hq => ?_
     ·refine T.bind (Text_T (l := l) (by omega)) fun a ha => .ret ⟨ha, i + 1, rfl, by omega⟩
     ·have hq : c = 39 := by simpa using hq
      have := hc (by omega)
      refine T.ite (fun _ => .ret ⟨by decide, by omega⟩) fun _ => T.ite (fun _ => .ret (bad _)) fun _ => T.ite (fun _ => .ret (bad _)) fun _ => .ret good
    ·refine T.ite (fun h => by rw [h39] at h; simp at h) fun _ => T.ite (fun _ => .ret (bad _)) fun _ => T.ite (fun _ => .ret (bad _)) fun _ => .ret good
   ·cases r with
    | error r => exact .ret hr2
    | ok k1 =>
     obtain ⟨h1, h2⟩ := hr2
     refine T.bind (T.lapp (Q := fun r => r = l ++ [n]) (by simp; omega) rfl) fun l1 hl1 => ?_
     subst hl1
     have e : w64 ((i : Int) + k1) = ((i + k1.toNat : Nat) : Int) := by rw [w64_id] <;> omega
     rw [e]
     exact ih (s.length - (i + k1.toNat)) (by omega) (i + k1.toNat) _ (by omega) (by simp; omega)
 unfold p_jlex_text
 refine T.bind (loop (s.length - 1) 1 [] (by omega) (by simp)) fun r hr => ?_
 cases r with
 | error r => exact .ret hr
 | ok r => exact .ret ⟨flat_nil, 0, rfl, by omega⟩
end Go.AM.Seat

namespace Go.AM.Seat
open Go Go.AM
set_option linter.unusedVariables false
set_option maxRecDepth 100000
set_option maxHeartbeats 1000000
def TokOK (t : Token) : Prop := Flat t.lit ∧ t.text.length ≤ 9000
theorem T.sto {s : Str} {hi : Int} {Q : Str → Prop} (h0 : 0 ≤ hi) (h1 : hi ≤ s.length) (k : Q (s.take hi.toNat)) : T (sto s hi) Q :=
 ⟨_, by unfold AM.sto; rw [if_pos ⟨h0, by omega⟩], k⟩
theorem prefix_T (s t : Str) : T (p_strings_HasPrefix s t) fun r => r = true → t.length ≤ s.length := by
 unfold p_strings_HasPrefix p_stringslite_HasPrefix
 refine T.bind (R := fun r => r = true → t.length ≤ s.length) ?_ fun r hr => .ret hr
 refine T.ite (fun h => ?_) fun _ => .ret fun h => by simp at h
 have h : t.length ≤ s.length := by simp at h; omega
 exact T.bind (T.sto (Q := fun _ => True) (by omega) (by omega) trivial) fun s1 _ => .ret fun _ => h
theorem name_T {s : Str} (hl : s.length ≤ 8192) (h0 : 0 < s.length) : T (p_jlex_name s) fun r => TokOK r.1 ∧ r.1.text.length ≤ s.length := by
 have loop : ∀ (d k : Nat), k + d = s.length → T (p_jlex_name_l0 (s, (k : Int))) fun r => ∃ j : Nat, r = (j : Int) ∧ j ≤ s.length := by
  intro d
  induction d with
  | zero =>
   intro k hk
   rw [p_jlex_name_l0]
   refine T.bind (at_T s k) fun c hc => T.bind (letter_T c) fun b hb => T.ite (fun h => ?_) fun _ => ?_
   ·have := hc (by have := hb h; omega)
    omega
   ·refine T.bind (at_T s k) fun c hc => T.bind (digit_T c) fun b hb => T.ite (fun h => ?_) fun _ => .ret ⟨k, rfl, by omega⟩
    have := hc (by have := hb h; omega)
    omega
  | succ d ih =>
   intro k hk
   rw [p_jlex_name_l0, w64_succ (by omega)]
   refine T.bind (at_T s k) fun c hc => T.bind (letter_T c) fun b hb => T.ite (fun h => ih (k + 1) (by omega)) fun _ => ?_
   exact T.bind (at_T s k) fun c hc => T.bind (digit_T c) fun b hb => T.ite (fun h => ih (k + 1) (by omega)) fun _ => .ret ⟨k, rfl, by omega⟩
 unfold p_jlex_name
 refine T.bind (loop (s.length - 1) 1 (by omega)) fun k1 hk1 => ?_
 obtain ⟨k, rfl, hk⟩ := hk1
 have st : ∀ (j : Nat), j ≤ s.length → T (sto s (j : Int)) fun t => t.length ≤ s.length := fun j hj => T.sto (by omega) (by omega) (by rw [List.length_take]; omega)
 refine T.bind (st k hk) fun s1 hs1 => T.bind (at_T s k) fun c hc => ?_
 have ok : ∀ (q : Int) (t : Str), t.length ≤ s.length → TokOK (Token.mk q t (Arr.mk [] []) 0) ∧ t.length ≤ s.length := fun q t ht => ⟨⟨flat_nil, by show t.length ≤ 9000; omega⟩, ht⟩
 refine T.ite (fun h => ?_) fun _ => T.ite (fun h => ?_) fun _ => T.ite (fun _ => .ret (ok _ _ hs1)) fun _ => T.ite (fun _ => .ret (ok _ _ hs1)) fun _ => ?_
 ·have := hc (by have h : c = 46 := (by simpa using h); omega)
  rw [w64_succ (by omega)]
  refine T.bind (st (k + 1) (by omega)) fun s2 hs2 => T.ite (fun _ => .ret (ok _ _ hs2)) fun _ => .ret (ok _ _ hs2)
 ·have := hc (by have h : c = 58 := (by simpa using h); omega)
  rw [w64_succ (by omega)]
  refine T.bind (st (k + 1) (by omega)) fun s2 hs2 => T.ite (fun _ => .ret (ok _ _ hs2)) fun _ => .ret (ok _ _ hs2)
 ·have l1 : ∀ (d i : Nat), i + d = k → T (p_jlex_name_l1 (s, (k : Int), s1, (i : Int))) fun r => ∀ v, r = .error v → v.1 = Token.mk 3 s1 (Arr.mk [] []) 0 := by
   intro d
   induction d with
   | zero => intro i hi; rw [p_jlex_name_l1, if_neg (by simp; omega)]; exact .ret fun v h => by simp at h
   | succ d ih =>
    intro i hi
    rw [p_jlex_name_l1, if_pos (by simp; omega), w64_succ (by omega)]
    refine T.bind (T.sget (Q := fun _ => True) (by omega) (by omega) fun _ _ => trivial) fun c _ => ?_
    exact T.ite (fun _ => .ret fun v h => by simp at h; subst h; rfl) fun _ => ih (i + 1) (by omega)
  refine T.bind (l1 k 0 (by omega)) fun r hr => ?_
  cases r with
  | error v => exact .ret (by have := hr v rfl; obtain ⟨a, b⟩ := v; simp only at this; subst this; exact ok _ _ hs1)
  | ok u => exact .ret (ok _ _ hs1)
theorem jwords_T : T p_jlex_words fun l => l.length ≤ 1000 ∧ ∀ t ∈ l, TokOK t := by
 have loop : ∀ (x : List Str), x.length ≤ 1000 → (∀ s ∈ x, s.length ≤ 9000) → ∀ (d i : Nat) (l : List Token), i + d = x.length → l.length = i → (∀ t ∈ l, TokOK t) → T (p_jlex_words_l0 (x, l, (i : Int))) fun r => r.length ≤ 1000 ∧ ∀ t ∈ r, TokOK t := by
  intro x hx hs d
  induction d with
  | zero => intro i l hi hl ht; rw [p_jlex_words_l0, if_neg (by simp; omega)]; exact .ret ⟨by omega, ht⟩
  | succ d ih =>
   intro i l hi hl ht
   rw [p_jlex_words_l0, if_pos (by simp; omega), w64_succ (by omega)]
   refine T.bind (T.lget (Q := fun s => s.length ≤ 9000) (by omega) (by omega) fun v hv => hs v (List.mem_of_getElem? hv)) fun s hs' => ?_
   refine T.bind (R := fun _ => True) ?_ fun k _ => ?_
   ·refine T.ite (fun _ => .ret trivial) fun _ => T.bind (R := fun _ => True) (T.ite (fun _ => .ret trivial) fun _ => .ret trivial) fun b _ => T.ite (fun _ => .ret trivial) fun _ => ?_
    exact T.bind (R := fun _ => True) (T.ite (fun _ => .ret trivial) fun _ => .ret trivial) fun b _ => T.ite (fun _ => .ret trivial) fun _ => .ret trivial
   ·refine T.bind (T.lapp (Q := fun r => r = l ++ [Token.mk k s (Arr.mk [] []) 0]) (by simp; omega) rfl) fun r hr => ?_
    subst hr
    refine ih (i + 1) _ (by omega) (by simp [hl]) fun t ht' => ?_
    rcases List.mem_append.1 ht' with h | h
    ·exact ht t h
    ·rw [List.mem_singleton] at h; subst h; exact ⟨flat_nil, hs'⟩
 unfold p_jlex_words
 refine T.bind (R := fun x => x.length ≤ 1000 ∧ ∀ s ∈ x, s.length ≤ 9000) ?_ fun x hx => ?_
 ·refine ⟨Lib.fields [61, 58, 32, 123, 123, 32, 125, 125, 32, 40, 32, 41, 32, 45, 46, 32, 124, 46, 32, 124, 58, 32, 60, 46, 32, 60, 58, 32, 62, 46, 32, 62, 58, 32, 126, 46, 32, 126, 58, 32, 44, 58, 32, 47, 58, 32, 92, 58, 32, 123, 46, 32, 125, 46, 32, 94, 58, 32, 34, 49, 32, 45, 32, 42, 32, 124, 32, 37, 32, 43, 32, 60, 32, 62, 32, 61, 32, 126, 32, 36, 32, 35, 32, 44, 32, 47, 32, 92, 32, 123], ?_, ?_⟩
  ·unfold goFields
   rw [if_pos (by kernel_rfl)]
  ·have h1 : Nat.ble (Lib.fields [61, 58, 32, 123, 123, 32, 125, 125, 32, 40, 32, 41, 32, 45, 46, 32, 124, 46, 32, 124, 58, 32, 60, 46, 32, 60, 58, 32, 62, 46, 32, 62, 58, 32, 126, 46, 32, 126, 58, 32, 44, 58, 32, 47, 58, 32, 92, 58, 32, 123, 46, 32, 125, 46, 32, 94, 58, 32, 34, 49, 32, 45, 32, 42, 32, 124, 32, 37, 32, 43, 32, 60, 32, 62, 32, 61, 32, 126, 32, 36, 32, 35, 32, 44, 32, 47, 32, 92, 32, 123]).length 1000 = true := by kernel_rfl
   have h2 : ((Lib.fields [61, 58, 32, 123, 123, 32, 125, 125, 32, 40, 32, 41, 32, 45, 46, 32, 124, 46, 32, 124, 58, 32, 60, 46, 32, 60, 58, 32, 62, 46, 32, 62, 58, 32, 126, 46, 32, 126, 58, 32, 44, 58, 32, 47, 58, 32, 92, 58, 32, 123, 46, 32, 125, 46, 32, 94, 58, 32, 34, 49, 32, 45, 32, 42, 32, 124, 32, 37, 32, 43, 32, 60, 32, 62, 32, 61, 32, 126, 32, 36, 32, 35, 32, 44, 32, 47, 32, 92, 32, 123]).all fun s => Nat.ble s.length 9000) = true := by kernel_rfl
   exact ⟨Nat.le_of_ble_eq_true h1, fun s hs => Nat.le_of_ble_eq_true (List.all_eq_true.1 h2 s hs)⟩
 ·refine T.bind (loop x hx.1 hx.2 _ 0 [] (Nat.zero_add _) rfl (by simp)) fun l hl => .ret hl
theorem word_T {s : Str} (hl : s.length ≤ 8192) (h0 : 0 < s.length) : T (p_jlex_word s) fun r => TokOK r.1 ∧ ∃ j : Nat, r.2.1 = (j : Int) ∧ j ≤ s.length := by
 have none : ∀ k a, TokOK (Token.mk k [] (Arr.mk [] []) a) := fun k a => ⟨flat_nil, by simp⟩
 have zero : ∃ j : Nat, (0 : Int) = (j : Int) ∧ j ≤ s.length := ⟨0, rfl, by omega⟩
 have g0 : T (sget s 0) fun _ => True := T.sget (by omega) (by omega) fun _ _ => trivial
 unfold p_jlex_word
 refine T.bind (T.sbytes (Q := fun b => b.length = s.length) (by omega) (by rw [List.length_map])) fun b hb => ?_
 refine T.bind (One_T (b := b) (by omega)) fun r hr => ?_
 obtain ⟨n, kk⟩ := r
 refine T.ite (fun _ => .ret ⟨none _ _, zero⟩) fun _ => ?_
 refine T.bind (begins_T s) fun b _ => T.ite (fun _ => ?_) fun _ => T.bind g0 fun c _ => T.ite (fun _ => ?_) fun _ => T.bind g0 fun c _ => T.bind (letter_T c) fun b _ => T.ite (fun _ => ?_) fun _ => ?_
 ·refine T.bind (numbers_T hl h0) fun r hr => ?_
  obtain ⟨a, k1, w⟩ := r
  exact T.ite (fun _ => .ret ⟨none _ _, zero⟩) fun _ => .ret ⟨⟨hr.1, by simp⟩, hr.2⟩
 ·refine T.bind (text_T hl h0) fun r hr => ?_
  obtain ⟨a, k2, f⟩ := r
  exact .ret ⟨⟨hr.1, by simp⟩, hr.2⟩
 ·refine T.bind (name_T hl h0) fun r hr => ?_
  obtain ⟨t, ok⟩ := r
  exact T.ite (fun _ => .ret ⟨hr.1, zero⟩) fun _ => .ret ⟨hr.1, t.text.length, rfl, hr.2⟩
 ·refine T.bind jwords_T fun l hlw => ?_
  have loop : ∀ (d i : Nat), i + d = l.length → T (p_jlex_word_l0 (s, l, (i : Int))) fun r => ∀ v, r = .error v → TokOK v.1 ∧ ∃ j : Nat, v.2.1 = (j : Int) ∧ j ≤ s.length := by
   intro d
   have hll := hlw.1
   induction d with
   | zero => intro i hi; rw [p_jlex_word_l0, if_neg (by simp; omega)]; exact .ret fun v h => by simp at h
   | succ d ih =>
    intro i hi
    rw [p_jlex_word_l0, if_pos (by simp; omega), w64_succ (by omega)]
    refine T.bind (T.lget (Q := fun t => TokOK t) (by omega) (by omega) fun v hv => hlw.2 v (List.mem_of_getElem? hv)) fun t ht => ?_
    refine T.bind (prefix_T s t.text) fun b hb => T.ite (fun h => ?_) fun _ => ih (i + 1) (by omega)
    have fin : ∀ v, (Except.error (t, (List.length t.text : Int), Fault.mk 0 0 0) : Except (Token × Int × Fault) Unit) = .error v → TokOK v.1 ∧ ∃ j : Nat, v.2.1 = (j : Int) ∧ j ≤ s.length := fun v hv => by
     simp only [Except.error.injEq] at hv; subst hv; exact ⟨ht, _, rfl, hb h⟩
    refine T.ite (fun _ => ?_) fun _ => .ret fin
    refine T.bind (at2_T s) fun c _ => T.bind (digit_T c) fun b2 _ => T.ite (fun _ => .ret fun v hv => ?_) fun _ => .ret fin
    simp only [Except.error.injEq] at hv; subst hv; exact ⟨ht, zero⟩
  refine T.bind (loop _ 0 (Nat.zero_add _)) fun r hr => ?_
  cases r with
  | error v => exact .ret (hr v rfl)
  | ok u => exact .ret ⟨none _ _, zero⟩
theorem Lex_T (s : Str) : T (p_jlex_Lex s) fun r => WordsOK r.1 := by
 have nil : WordsOK [] := ⟨by simp, by simp, by simp⟩
 unfold p_jlex_Lex
 refine T.ite (fun _ => .ret nil) fun hl => ?_
 have hl : s.length ≤ 8192 := by simp at hl; omega
 have loop : ∀ (m i u : Nat) (l : List Token), l.length + u = 2048 → u * 10000 + (s.length - i) ≤ m → i ≤ s.length → l.length ≤ 2048 → (∀ t ∈ l, TokOK t) → T (p_jlex_Lex_l0 (s, (i : Int), l)) fun r => match r with
   | .error v => WordsOK v.1
   | .ok l => WordsOK l := by
  intro m
  induction m using Nat.strongRecOn with
  | ind m ih =>
   intro i u l hu hm hi hll ht
   have hw : WordsOK l := ⟨hll, fun t h => (ht t h).1, fun t h => (ht t h).2⟩
   rw [p_jlex_Lex_l0]
   refine T.ite (fun hlt => ?_) fun _ => .ret hw
   have hlt : i < s.length := by simp at hlt; omega
   refine T.bind (T.sget (Q := fun _ => True) (by omega) (by omega) fun _ _ => trivial) fun c _ => T.ite (fun _ => ?_) fun _ => ?_
   ·rw [w64_succ (by omega)]
    exact ih (m - 1) (by omega) (i + 1) u l hu (by omega) (by omega) hll ht
   ·have sf : T (sfrom s (i : Int)) fun t => t.length = s.length - i := T.sfrom (by omega) (by omega) (by rw [List.length_drop]; omega)
    refine T.bind sf fun s1 _ => T.bind (prefix_T s1 _) fun b _ => T.ite (fun _ => .ret hw) fun _ => T.ite (fun _ => .ret nil) fun hfull => ?_
    have hfull : l.length < 2048 := by simp at hfull; omega
    refine T.bind sf fun s2 hs2 => T.bind (word_T (s := s2) (by omega) (by omega)) fun r hr => ?_
    obtain ⟨t, k, f⟩ := r
    obtain ⟨htok, j, hj, hjl⟩ := hr
    have hj : k = (j : Int) := hj
    subst hj
    refine T.ite (fun _ => .ret nil) fun _ => ?_
    refine T.bind (T.lapp (Q := fun r => r = l ++ [Token.mk t.kind t.text t.lit (i : Int)]) (by simp; omega) rfl) fun l1 hl1 => ?_
    subst hl1
    rw [show w64 ((i : Int) + (j : Int)) = ((i + j : Nat) : Int) from by rw [w64_id] <;> omega]
    obtain ⟨u', hu'⟩ : ∃ u', u = u' + 1 := ⟨u - 1, by omega⟩
    have hlen2 : (l ++ [Token.mk t.kind t.text t.lit (i : Int)]).length = l.length + 1 := by simp
    have e1 : (l ++ [Token.mk t.kind t.text t.lit (i : Int)]).length + u' = 2048 := by omega
    have e2 : (l ++ [Token.mk t.kind t.text t.lit (i : Int)]).length ≤ 2048 := by omega
    have e3 : u' * 10000 + (s.length - (i + j)) ≤ m - 1 := by omega
    refine ih (m - 1) (by omega) (i + j) u' (l ++ [Token.mk t.kind t.text t.lit (i : Int)]) e1 e3 (by omega) e2 fun u hu => ?_
    rcases List.mem_append.1 hu with h | h
    ·exact ht u h
    ·rw [List.mem_singleton] at h; subst h; exact htok
 refine T.bind (loop _ 0 2048 [] rfl (Nat.le_refl _) (Nat.zero_le _) (by simp) (by simp)) fun r hr => ?_
 cases r with
 | error v => exact .ret hr
 | ok l2 => exact .ret hr
end Go.AM.Seat

namespace Go.AM.Seat
open Go Go.AM
set_option linter.unusedVariables false
set_option maxRecDepth 10000
set_option maxHeartbeats 1000000
abbrev jayVerbs : List Str := Lib.fields [45, 32, 45, 46, 32, 42, 32, 124, 32, 124, 46, 32, 124, 58, 32, 37, 32, 43, 32, 60, 32, 60, 46, 32, 60, 58, 32, 62, 32, 62, 46, 32, 62, 58, 32, 61, 32, 126, 46, 32, 126, 58, 32, 36, 32, 35, 32, 44, 32, 44, 58, 32, 47, 58, 32, 92, 58, 32, 123, 46, 32, 125, 46, 32, 123, 32, 105, 46, 32, 101, 46]
abbrev jayG : Grammar := (Grammar.mk jayVerbs [[47], [92], [126], [34, 49]] [] [] [94, 58] [123, 123] [125, 125] [120] [121] [95] [39] true false false)
theorem jay_Grammar_eq : p_jay_Grammar = some jayG := by
 unfold p_jay_Grammar goFields
 rw [if_pos (by kernel_rfl)]
 rfl
theorem jayG_gr : Gr jayG := ⟨Nat.le_of_ble_eq_true (by kernel_rfl), by decide, by decide⟩
theorem jayG_short : Short jayG := ⟨by decide, by decide, by decide, by decide, by decide, by decide, by decide, by decide⟩
structure PrOK (p : Prgm) : Prop where
 gn : GN p.expr
 sz : p.expr.sz ≤ 5000
 set : p.set_.length ≤ 9000
theorem emptyOK : PrOK (Prgm.mk [] 0 (Node.mk 0 0 [] (Arr.mk [] []) [] 0)) := ⟨.of flat_nil (by simp) (by simp) (by simp), by show Node.sz _ ≤ _; rw [sz_eq]; simp [Node.kids, Node.szL], by simp⟩
theorem jay_Parse_T (s : Str) : T (p_jay_Parse s) fun r => PrOK r.1 := by
 unfold p_jay_Parse
 rw [jay_Grammar_eq]
 refine T.bind (Lex_T s) fun r hr => ?_
 obtain ⟨l, x⟩ := r
 have hw : WordsOK l := hr
 have tail : ∀ (l2 : List Token) (p0 : Str), WordsOK l2 → p0.length ≤ 9000 → T (p_grammar_Parse jayG l2 (List.length s : Int) >>= fun (x3, x4) =>
     if (x4.err != 0) then
      some ((Prgm.mk [] 0 (Node.mk 0 0 [] (Arr.mk [] []) [] 0)), x4)
     else
      some ((Prgm.mk p0 0 x3), (Fault.mk 0 0 0))) fun r => PrOK r.1 := by
  intro l2 p0 h2 hp0
  refine T.bind (Parse_T jayG_gr h2 _) fun r hr => ?_
  obtain ⟨n, f⟩ := r
  exact T.ite (fun _ => .ret emptyOK) fun _ => .ret ⟨hr.1, hr.2, hp0⟩
 have plain := tail l [] hw (by simp)
 refine T.ite (fun _ => .ret emptyOK) fun _ => T.ite (fun hl => ?_) fun _ => ?_
 ·have hl : 1 < l.length := by simp at hl; omega
  have g0 : T (lget l 0) fun y => y ∈ l := T.lget (by omega) (by omega) fun v hv => List.mem_of_getElem? hv
  refine T.bind g0 fun y _ => T.ite (fun _ => ?_) fun _ => plain
  refine T.bind (T.lget (Q := fun _ => True) (by omega) (by omega) fun _ _ => trivial) fun y1 _ => T.ite (fun _ => ?_) fun _ => plain
  refine T.bind g0 fun y2 hy2 => T.bind (core_Name_T (by have := hw.text _ hy2; omega)) fun x1 _ => ?_
  refine T.bind (R := fun r => WordsOK r.1 ∧ r.2.length ≤ 9000) ?_ fun r hr => ?_
  ·refine T.ite (fun _ => ?_) fun _ => .ret ⟨hw, by simp⟩
   refine T.bind g0 fun y3 hy3 => ?_
   refine T.bind (T.lfrom (Q := WordsOK) (by omega) (by omega) ⟨?_, fun t ht => hw.lit t (List.mem_of_mem_drop ht), fun t ht => hw.text t (List.mem_of_mem_drop ht)⟩) fun l1 hl1 => .ret ⟨hl1, hw.text _ hy3⟩
   have := hw.len
   rw [List.length_drop]; omega
  ·obtain ⟨l2, p0⟩ := r
   exact tail l2 p0 hr.1 hr.2
 ·exact plain
def textOf (st s : Str) : Option Str := if (!(st == [])) then (scat st [32, 61, 58, 32] >>= fun s1 => scat s1 s >>= fun s2 => some s2) else some s
theorem textOf_T {st s : Str} (h1 : st.length ≤ 9000) (h2 : s.length ≤ 20000001 * 40000) : T (textOf st s) fun _ => True := by
 unfold textOf
 refine T.ite (fun _ => ?_) fun _ => .ret trivial
 refine T.bind (T.scat (Q := fun t => t.length ≤ 9004) (by simp; omega) (by simp; omega)) fun s1 hs1 => ?_
 exact T.bind (T.scat (Q := fun _ => True) (by omega) trivial) fun _ _ => .ret trivial
def checkOf (p : Prgm) (t : Str) : Option (Str × Int) :=
 p_jay_Parse t >>= fun (x2, x3) =>
     if (x3.err != 0) then
      some ([], 1)
     else
      if (!(x2.set_ == p.set_)) then
       some ([], 1)
      else
       if (x2.origin != p.origin) then
        some ([], 1)
       else
        p_core_Same (x2.expr, p.expr) >>= fun x4 =>
        if (!x4) then
         some ([], 1)
        else
         some (t, 0)
def bodyP (p : Prgm) : Option (Str × Int) :=
 if (p.origin != 0) then some ([], 1) else
  p_spell_Write jayG p.expr >>= fun (s, e) => if (e != 0) then some ([], e) else textOf p.set_ s >>= fun t => checkOf p t
theorem Print_eq (p : Prgm) : p_jay_Print p = if (!(p.set_ == [])) then (p_core_Name p.set_ >>= fun x => if (!x) then some ([], 1) else bodyP p) else bodyP p := by
 unfold p_jay_Print bodyP textOf checkOf
 rw [jay_Grammar_eq]
 cases h : (!(p.set_ == [])) <;> rfl
theorem checkOf_T {p : Prgm} (hp : PrOK p) (t : Str) : T (checkOf p t) fun r => r.2 = 0 → r.1 = t ∧ ∃ q f, p_jay_Parse t = some (q, f) ∧ f.err = 0 ∧ q.set_ = p.set_ ∧ q.origin = p.origin ∧ PrOK q ∧ Sm q.expr p.expr := by
 unfold checkOf
 obtain ⟨r, hr, hq⟩ := jay_Parse_T t
 obtain ⟨q, f⟩ := r
 have hq : PrOK q := hq
 refine T.bind (R := fun r => r = (q, f)) ⟨_, hr, rfl⟩ fun r hr' => ?_
 subst hr'
 have no : T (some (([] : Str), (1 : Int))) fun r => r.2 = 0 → r.1 = t ∧ ∃ q f, p_jay_Parse t = some (q, f) ∧ f.err = 0 ∧ q.set_ = p.set_ ∧ q.origin = p.origin ∧ PrOK q ∧ Sm q.expr p.expr := .ret fun h => by simp at h
 refine T.ite (fun _ => no) fun h1 => T.ite (fun _ => no) fun h2 => T.ite (fun _ => no) fun h3 => ?_
 refine T.bind (core_Same_T hq.gn hp.gn) fun b hb => T.ite (fun _ => no) fun h4 => .ret fun _ => ?_
 exact ⟨rfl, q, f, hr, by simpa using h1, by simpa using h2, by simpa using h3, hq, hb.1 (by simpa using h4)⟩
theorem bodyP_T {p : Prgm} (hp : PrOK p) : T (bodyP p) fun r => r.2 = 0 → p.origin = 0 ∧ ∃ s q f, p_spell_Write jayG p.expr = some (s, 0) ∧ textOf p.set_ s = some r.1 ∧ p_jay_Parse r.1 = some (q, f) ∧ f.err = 0 ∧ q.set_ = p.set_ ∧ q.origin = p.origin ∧ PrOK q ∧ Sm q.expr p.expr := by
 unfold bodyP
 refine T.ite (fun _ => .ret fun h => by simp at h) fun ho => ?_
 obtain ⟨w, hw, hwl⟩ := Write_T jayG_short hp.gn (by have := hp.sz; omega)
 obtain ⟨s, e⟩ := w
 refine T.bind (R := fun r => r = (s, e)) ⟨_, hw, rfl⟩ fun r hr => ?_
 subst hr
 refine T.ite (fun he => .ret fun h => ?_) fun he => ?_
 ·have h : e = 0 := h
  simp [h] at he
 have he : e = 0 := by simpa using he
 subst he
 obtain ⟨t, ht, _⟩ := textOf_T hp.set hwl
 refine T.bind (R := fun r => r = t) ⟨_, ht, rfl⟩ fun r hr => ?_
 subst hr
 refine (checkOf_T hp r).imp fun v hv h0 => ?_
 obtain ⟨h1, q, f, h2, h3, h4, h5, h6, h7⟩ := hv h0
 rw [h1]
 exact ⟨by simpa using ho, s, q, f, hw, ht, h2, h3, h4, h5, h6, h7⟩
theorem Write_same {a b : Node} (h : Sm a b) (ha : GN a) : p_spell_Write jayG a = p_spell_Write jayG b := by
 unfold p_spell_Write
 rw [(h.st ha).expr]
theorem bodyP_again {p q : Prgm} {s t : Str} {f : Fault} (ho : p.origin = 0) (hw : p_spell_Write jayG p.expr = some (s, 0)) (ht : textOf p.set_ s = some t) (hp : p_jay_Parse t = some (q, f)) (hf : f.err = 0)
  (hs : q.set_ = p.set_) (hqo : q.origin = p.origin) (hq : PrOK q) (hsm : Sm q.expr p.expr) : bodyP q = some (t, 0) := by
 have hself : p_core_Same (q.expr, q.expr) = some true := by
  obtain ⟨b, hb, hbt⟩ := core_Same_T hq.gn hq.gn
  rw [hb, hbt.2 hq.gn.refl]
 unfold bodyP checkOf
 rw [Write_same hsm hq.gn, hw, hs]
 simp [hqo, ho, ht, hp, hf, hself, hs]
theorem Print_T {p : Prgm} (hp : PrOK p) : T (p_jay_Print p) fun r => r.2 = 0 → ∃ q f, p_jay_Parse r.1 = some (q, f) ∧ f.err = 0 ∧ q.set_ = p.set_ ∧ q.origin = p.origin ∧ PrOK q ∧ Sm q.expr p.expr ∧ p_jay_Print q = some (r.1, 0) := by
 have core : ∀ r : Str × Int, (r.2 = 0 → p.origin = 0 ∧ ∃ s q f, p_spell_Write jayG p.expr = some (s, 0) ∧ textOf p.set_ s = some r.1 ∧ p_jay_Parse r.1 = some (q, f) ∧ f.err = 0 ∧ q.set_ = p.set_ ∧ q.origin = p.origin ∧ PrOK q ∧ Sm q.expr p.expr) →
   r.2 = 0 → (p.set_ = [] ∨ p_core_Name p.set_ = some true) → ∃ q f, p_jay_Parse r.1 = some (q, f) ∧ f.err = 0 ∧ q.set_ = p.set_ ∧ q.origin = p.origin ∧ PrOK q ∧ Sm q.expr p.expr ∧ p_jay_Print q = some (r.1, 0) := by
  intro r hr h0 hn
  obtain ⟨ho, s, q, f, h1, h2, h3, h4, h5, h6, h7, h8⟩ := hr h0
  refine ⟨q, f, h3, h4, h5, h6, h7, h8, ?_⟩
  have hb := bodyP_again ho h1 h2 h3 h4 h5 h6 h7 h8
  rw [Print_eq, h5, hb]
  rcases hn with hn | hn
  ·simp [hn]
  ·cases he : (!(p.set_ == []))
   ·simp
   ·simp [hn]
 rw [Print_eq]
 refine T.ite (fun hne => ?_) fun he => ?_
 ·obtain ⟨b, hb, _⟩ := core_Name_T (s := p.set_) (by have := hp.set; omega)
  refine T.bind (R := fun x => x = b) ⟨_, hb, rfl⟩ fun x hx => ?_
  subst hx
  refine T.ite (fun _ => .ret fun h => by simp at h) fun hx => ?_
  have hx : x = true := by simpa using hx
  subst hx
  exact (bodyP_T hp).imp fun r hr h0 => core r hr h0 (.inr hb)
 ·exact (bodyP_T hp).imp fun r hr h0 => core r hr h0 (.inl (by simpa using he))
theorem JayOnce_true (s : Str) : p_triglyphlaw18_JayOnce s = some true := by
 have works : T go_works fun b => b = true := ⟨true, rfl, rfl⟩
 have wk : T (go_works >>= fun x => some x) fun b => b = true := T.bind works fun x hx => .ret hx
 have main : T (p_triglyphlaw18_JayOnce s) fun b => b = true := by
  unfold p_triglyphlaw18_JayOnce
  refine T.ite (fun _ => wk) fun _ => T.bind (jay_Parse_T s) fun r hr => ?_
  obtain ⟨p, f0⟩ := r
  have hp : PrOK p := hr
  refine T.ite (fun _ => wk) fun _ => T.bind (Print_T hp) fun r hr => ?_
  obtain ⟨t, e⟩ := r
  refine T.ite (fun _ => wk) fun he => ?_
  have he : e = 0 := by simpa using he
  obtain ⟨q, f, h1, h2, h3, h4, h5, h6, h7⟩ := hr he
  refine T.bind (R := fun r => r = (q, f)) ⟨_, h1, rfl⟩ fun r hr' => ?_
  subst hr'
  refine T.bind (R := fun r => r = (t, 0)) ⟨_, h7, rfl⟩ fun r hr' => ?_
  subst hr'
  rw [h2]
  refine T.ite (fun _ => ?_) fun h => by simp at h
  refine T.ite (fun _ => ?_) fun h => by simp at h
  refine T.ite (fun _ => ?_) fun h => by simp at h
  have hs : p_triglyphref18_Same p q = some true := by
   unfold p_triglyphref18_Same
   rw [h3, h4, ref_Same_T hp.gn h5.gn h6.symm]
   simp
  refine T.bind (R := fun b => b = true) ⟨_, hs, rfl⟩ fun b hb => T.ite (fun _ => wk) fun h => by rw [hb] at h; simp at h
 obtain ⟨b, hb, rfl⟩ := main
 exact hb
end Go.AM.Seat
