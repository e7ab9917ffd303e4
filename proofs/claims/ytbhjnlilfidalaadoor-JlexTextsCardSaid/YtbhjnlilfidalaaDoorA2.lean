/- Part of a proof about the given program: the abstract machine, the printed functions, the plain laws. (AMCall2, AMCall3, AMAppend, AMAppend2, AMOp, AMOp2, AMRegion, AMSame, AMLocal, AMLocal2, AMLocal3, AMDraw, AMDraw2, AMDraw3, AMDraw4, AMExec, AMAcall, AMTop, AMLogic, AMSteps, AMRun, AMWalk) -/
import Derived.Test.YtbhjnlilfidalaaDoorA1
import Derived.LoopN
import Derived.Scope
import Derived.Orders
import Derived.Recover
import Derived.Below
set_option linter.all false
set_option linter.unusedSectionVars false
set_option linter.unusedVariables false
set_option linter.unusedSimpArgs false

namespace Go.AM
open Go
variable [Globs]
theorem look_putBlks_out {b : Nat} : ∀ {ids : List Nat} {cs : List (List C)} {h : List (Nat × List C)}, b ∉ ids → look b (putBlks ids cs h) = look b h
 | [], _, _, _ => by simp [putBlks]
 | _ :: _, [], _, _ => by simp [putBlks]
 | x :: ids, c :: cs, h, hb => by
  simp only [List.mem_cons, not_or] at hb
  simp only [putBlks]
  rw [look_putBlks_out hb.2, look_upd_other hb.1]
theorem look_putBlks_in {b : Nat} {c : List C} : ∀ {ids : List Nat} {cs : List (List C)} {h : List (Nat × List C)} {i : Nat}, ids.Nodup → ids[i]? = some b → cs[i]? = some c → look b (putBlks ids cs h) = some c
 | [], _, _, i, _, hi, _ => by simp at hi
 | _ :: _, [], _, i, _, _, hc => by simp at hc
 | x :: ids, e :: cs, h, 0, hn, hi, hc => by
  simp at hi hc; subst hi; subst hc
  rw [List.nodup_cons] at hn
  simp only [putBlks]
  rw [look_putBlks_out hn.1, look_upd_same]
 | x :: ids, e :: cs, h, i + 1, hn, hi, hc => by
  rw [List.nodup_cons] at hn
  simp only [putBlks]
  exact look_putBlks_in hn.2 (by simpa using hi) (by simpa using hc)
theorem idsFrom_mem : ∀ {n k b : Nat}, b ∈ idsFrom n k ↔ n ≤ b ∧ b < n + k
 | n, 0, b => by simp [idsFrom]
 | n, k + 1, b => by simp only [idsFrom, List.mem_cons, idsFrom_mem]; omega
theorem idsFrom_length : ∀ n k : Nat, (idsFrom n k).length = k
 | _, 0 => rfl
 | n, k + 1 => by simp [idsFrom, idsFrom_length (n + 1) k]
theorem idsFrom_get : ∀ {n k i : Nat}, i < k → (idsFrom n k)[i]? = some (n + i)
 | n, 0, i, h => by omega
 | n, k + 1, 0, _ => by simp [idsFrom]
 | n, k + 1, i + 1, h => by simp only [idsFrom, List.getElem?_cons_succ]; rw [idsFrom_get (by omega)]; congr 1; omega
theorem idsFrom_nodup : ∀ n k : Nat, (idsFrom n k).Nodup
 | _, 0 => by simp [idsFrom]
 | n, k + 1 => by
  simp only [idsFrom, List.nodup_cons]
  exact ⟨by rw [idsFrom_mem]; omega, idsFrom_nodup (n + 1) k⟩
theorem look_unviewIn (ids : List Nat) (k : Nat) : ∀ tm : List (Nat × V), look k (unviewIn ids tm) = (look k tm).map fun v => match v with
  | .view (.cell b off) sz xs => if b ∈ ids then .d (.list sz xs) else .view (.cell b off) sz xs
  | v => v
 | [] => rfl
 | (j, v) :: r => by
  have ih := look_unviewIn ids k r
  by_cases hj : j = k
  ·subst hj
   cases v with
   | view l sz xs => cases l <;> simp [unviewIn, look]
   | _ => simp [unviewIn, look]
  ·cases v with
   | view l sz xs => cases l <;> simp [unviewIn, look, hj, ih]
   | _ => simp [unviewIn, look, hj, ih]
section
variable {P : Program} {K K' : Col} {μ μ' : Nat → Nat} {w w' : World} {s : St} {a : Act}
theorem back_unviewIn {ids : List Nat} {t : Nat} {v : V} (h : look t (unviewIn ids s.tmps) = some v) :
  ∃ v', look t s.tmps = some v' ∧ (v = v' ∨ ∃ b off sz xs, v' = .view (.cell b off) sz xs ∧ v = .d (.list sz xs)) ∧ ∀ b off sz xs, v = .view (.cell b off) sz xs → b ∉ ids := by
 rw [look_unviewIn] at h
 simp only [Option.map_eq_some_iff] at h
 obtain ⟨v', h1, rfl⟩ := h
 refine ⟨v', h1, ?_, ?_⟩
 ·cases v' with
  | view l sz xs =>
   cases l with
   | tmp t => simp
   | cell b off => by_cases hb : b ∈ ids <;> simp [hb]
  | _ => simp
 ·intro b off sz xs e
  cases v' with
  | view l sz' xs' =>
   cases l with
   | tmp t => simp at e
   | cell b' off' =>
    by_cases hb : b' ∈ ids
    ·simp [hb] at e
    ·simp only [hb, if_false, V.view.injEq, Loc.cell.injEq] at e
     rw [← e.1.1]; exact hb
  | _ => simp at e
theorem hrep_into (hs : Sim K μ s a w) {ids : List Nat} (hn : ids.Nodup) {lh : List (List C)} (hlh : blksInto s.heap ids = some lh) :
  HRep (fun b o => tagIn ids (K b o)) (fun i => μ (ids.getD i 0)) w lh ∧ lh.length = ids.length := by
 obtain ⟨h1, _⟩ := mapM?_spec hlh
 refine ⟨fun i cells hi => ?_, h1⟩
 obtain ⟨b, hb, hbc⟩ := mapM?_get hlh hi
 rw [Option.bind_eq_some_iff] at hbc
 obtain ⟨cs, hcs, hmap⟩ := hbc
 obtain ⟨k1, k2, k3, k4, k50⟩ := hs.heap b cs hcs
 have hib : idx b ids 0 = some i := by simpa using idx_of (n := 0) hn hb
 have hgd : ids.getD i 0 = b := by simp [List.getD, hb]
 have hro : ∀ b o, K b o = .ro → tagIn ids (K b o) = .ro := fun b o h => by rw [h]; rfl
 have hμ : ∀ i b, ids[i]? = some b → μ (ids.getD i 0) = μ b := fun i b h => by simp [List.getD, h]
 have hment := mapM_ment into_ment hmap
 obtain ⟨hmapF, hsq⟩ := into_flat hmap
 rcases k50 with ⟨hm0, k5, k6⟩ | ⟨kvs, hm0, es, clk, ho1, ho2⟩
 ·refine ⟨?_, ?_, by simp only [hgd]; exact k4, .inl ⟨?_, ?_, ?_⟩⟩
  ·intro c' hc' j hj
   by_cases hqq : ∃ sz ds, cells = [.seq sz ds]
   ·obtain ⟨sz, ds, rfl⟩ := hqq
    simp only [List.mem_singleton] at hc'; subst hc'
    simp [C.ids] at hj
   rw [← flatC_other fun sz ds e => hqq ⟨sz, ds, e⟩] at hc'
   obtain ⟨q, hq⟩ := List.getElem?_of_mem hc'
   obtain ⟨c, hc, hcc⟩ := mapM?_get hmapF hq
   obtain ⟨v, _, _, _, hr, _⟩ := k5 q c hc
   have := (into_rep (K' := fun b o => tagIn ids (K b o)) (μ' := fun i => μ (ids.getD i 0)) hro hμ hcc hr).2.1 j hj
   rw [h1]; exact this
  ·intro off
   simp only [hgd, k3 off, tagIn, hib]
  ·rw [hm0] at hment
   cases hq : mapOf cells with
   | none => rfl
   | some _ => rw [hq] at hment; simp at hment
  rotate_left
  ·intro sz ds e
   exact k6 sz ds ((hsq sz ds).1 e)
  ·intro q c' hc'
   obtain ⟨c, hc, hcc⟩ := mapM?_get hmapF hc'
   obtain ⟨v, hv, hv1, hv2, hr, hsp⟩ := k5 q c hc
   obtain ⟨r1, r2, r3⟩ := into_rep (K' := fun b o => tagIn ids (K b o)) (μ' := fun i => μ (ids.getD i 0)) hro hμ hcc hr
   refine ⟨v, by simp only [hgd]; exact hv, hv1, by simp only [hgd]; exact hv2, r1, fun sz xs e => ?_⟩
   rcases hsp sz xs ((r3 sz xs).1 e) with e0 | ⟨blk, off, len, cap, e1, e2, e3⟩
   ·exact .inl e0
   refine .inr ⟨blk, off, len, cap, e1, e2, fun j hj hj' => ?_⟩
   obtain ⟨t1, t2, t3⟩ := e3 j hj hj'
   exact ⟨by simp only [t1, tagIn, hib], t2, t3⟩
 ·have := mapOf_some hm0
  subst this
  simp only [mapM?, C.into] at hmap
  split at hmap
  ·rename_i y ys hy hys
   simp only [Option.some.injEq, Option.map_eq_some_iff] at hmap hy hys
   obtain ⟨kvs', hkv, rfl⟩ := hy
   subst hys; subst hmap
   obtain ⟨g1, g2⟩ := thru_rep (K' := fun b o => tagIn ids (K b o)) (μ' := fun i => μ (ids.getD i 0)) (Q := fun i => i < ids.length) hro (fun b i hbi => by
    obtain ⟨_, hx⟩ := idx_some hbi
    have hx' : ids[i]? = some b := by simpa using hx
    exact ⟨by simp [List.getD, hx'], (List.getElem?_eq_some_iff.1 hx').1⟩) hkv ho2
   refine ⟨?_, ?_, by simp only [hgd]; exact k4, .inr ⟨kvs', rfl, es, clk, by simp only [hgd]; exact ho1, g1⟩⟩
   ·intro c' hc' j hj
    simp only [List.mem_singleton] at hc'; subst hc'
    simp only [C.ids, List.mem_flatMap] at hj
    obtain ⟨x, hx, hj⟩ := hj
    rw [h1]; exact g2 x hx j hj
   ·intro off
    simp only [hgd, k3 off, tagIn, hib]
  ·simp at hmap
theorem sim_back (hs : Sim K μ s a w) {ids : List Nat} (hn : ids.Nodup) (hin : ∀ b ∈ ids, b < s.nid) {Kc' : Col} {k : Nat} {lh' lh'' : List (List C)}
  (hst : Step mine (fun b o => tagIn ids (K b o)) w Kc' w') (hbd : BoundK Kc' w') (hμ : ∀ i, i < ids.length → μ' i = μ (ids.getD i 0)) (hh : HRep Kc' μ' w' lh')
  (hlen : lh'.length = ids.length + k) (hback : mapM? (mapM? (C.back (ids ++ idsFrom s.nid k))) lh' = some lh'') :
  ∃ K₂ μ₂, Step (handed ids) K w K₂ w' ∧ (∀ b, b < s.nid → μ₂ b = μ b) ∧ (∀ b o, Kc' b o = .ro → K₂ b o = .ro) ∧
   (∀ i b, (ids ++ idsFrom s.nid k)[i]? = some b → μ₂ b = μ' i) ∧
   Sim K₂ μ₂ { s with tmps := unviewIn (ids ++ idsFrom s.nid k) s.tmps, heap := putBlks (ids ++ idsFrom s.nid k) lh'' s.heap, nid := s.nid + k } a w' := by
 generalize hids' : ids ++ idsFrom s.nid k = ids' at *
 have hlt' : ∀ b ∈ ids', b < s.nid + k := by
  intro b hb
  rw [← hids'] at hb
  rcases List.mem_append.1 hb with hb | hb
  ·have := hin b hb; omega
  ·exact (idsFrom_mem.1 hb).2
 have hn' : ids'.Nodup := by
  rw [← hids', List.nodup_append]
  refine ⟨hn, idsFrom_nodup _ _, fun x hx y hy e => ?_⟩
  subst e
  have := hin x hx
  have := (idsFrom_mem.1 hy).1
  omega
 have hold : ∀ b, b < s.nid → b ∈ ids' → b ∈ ids := by
  intro b hb hm
  rw [← hids'] at hm
  rcases List.mem_append.1 hm with hm | hm
  ·exact hm
  ·have := (idsFrom_mem.1 hm).1; omega
 have hlen' : ids'.length = lh'.length := by rw [← hids', List.length_append, idsFrom_length, hlen]
 obtain ⟨hl1, _⟩ := mapM?_spec hback
 let μ₂ : Nat → Nat := fun b => match idx b ids' 0 with | some i => μ' i | none => μ b
 have hμ₂in : ∀ i b, ids'[i]? = some b → μ₂ b = μ' i := by
  intro i b hb
  have := idx_of (n := 0) hn' hb
  simp only [Nat.zero_add] at this
  simp only [μ₂, this]
 have hμ₂ : ∀ b, b < s.nid → μ₂ b = μ b := by
  intro b hb
  by_cases hm : b ∈ ids'
  ·have hm' := hold b hb hm
   obtain ⟨i, hi⟩ := List.getElem?_of_mem hm'
   have hi' : ids'[i]? = some b := by
    rw [← hids', List.getElem?_append_left (List.getElem?_eq_some_iff.1 hi).1]; exact hi
   rw [hμ₂in i b hi', hμ i (List.getElem?_eq_some_iff.1 hi).1]
   simp [List.getD, hi]
  ·simp only [μ₂, idx_none hm]
 have hstep : Step (handed ids) K w (colBack ids' K (fun b o => tagIn ids (K b o)) Kc' w.heap.size) w' := step_back hst
 have hro : ¬ handed ids .ro := by rintro ⟨b, _, h | ⟨o, h⟩⟩ <;> simp at h
 have hrec : ∀ b o, Kc' b o = .ro → colBack ids' K (fun b o => tagIn ids (K b o)) Kc' w.heap.size b o = .ro := colBack_ro hst
 refine ⟨_, μ₂, hstep, hμ₂, hrec, hμ₂in, ?_⟩
 refine ⟨?_, ?_, ?_, ?_, ?_, ?_, ?_, ?_, hs.glob.step hstep (by simp [handed])⟩
 ·intro t V ht
  obtain ⟨v', h1, h2, _⟩ := back_unviewIn ht
  refine ⟨(hs.tm t v' h1).1, ?_⟩
  have hr : RepV (colBack ids' K (fun b o => tagIn ids (K b o)) Kc' w.heap.size) μ₂ w' v' (a.tmps.getD t Go.undef) :=
   ((hs.tm t v' h1).2.step hstep hro).mu fun b hb => hμ₂ b (hs.tids t v' h1 b hb)
  rcases h2 with rfl | ⟨b, off, sz, xs, rfl, rfl⟩
  ·exact hr
  ·exact hr
 ·intro t V ht b hb
  obtain ⟨v', h1, h2, _⟩ := back_unviewIn ht
  rcases h2 with rfl | ⟨b', off, sz, xs, rfl, rfl⟩
  ·have := hs.tids t _ h1 b hb
   show b < s.nid + k
   omega
  ·simp [Go.AM.V.ids, C.ids] at hb
 ·intro t sz xs ht
  obtain ⟨v', h1, h2, _⟩ := back_unviewIn ht
  rcases h2 with rfl | ⟨b', off, sz', xs', rfl, e⟩
  ·exact (hs.own t sz xs h1).step hstep (by rintro ⟨b, _, h | ⟨o, h⟩⟩ <;> simp at h)
  ·simp at e
 ·intro t l sz xs ht
  obtain ⟨v', h1, h2, h3⟩ := back_unviewIn ht
  rcases h2 with rfl | ⟨b', off, sz', xs', rfl, e⟩
  ·have hv := hs.view t l sz xs h1
   cases l with
   | tmp u =>
    intro z ys hu
    obtain ⟨v'', h4, h5, _⟩ := back_unviewIn hu
    rcases h5 with rfl | ⟨_, _, _, _, rfl, e⟩
    ·exact hv z ys h4
    ·simp at e
   | cell b off =>
    have hb := h3 b off sz xs rfl
    intro cells z ys hc hcc
    rw [show look b ({ s with tmps := unviewIn ids' s.tmps, heap := putBlks ids' lh'' s.heap, nid := s.nid + k } : St).heap = look b (putBlks ids' lh'' s.heap) from rfl, look_putBlks_out hb] at hc
    obtain ⟨q0, _, q1, q2, _⟩ := hs.heap b cells hc
    rw [hμ₂ b q0]
    rw [(hstep.cell (μ b) off q2 (by
     rw [q1]
     rintro ⟨b', hb', h | ⟨o, h⟩⟩
     ·simp only [Tag.blk.injEq] at h; subst h
      exact hb (by rw [← hids']; exact List.mem_append.2 (.inl hb'))
     ·simp at h)).1]
    exact hv cells z ys hc hcc
  ·simp at e
 ·intro b cells hb
  by_cases hm : b ∈ ids'
  ·obtain ⟨i, hi⟩ := List.getElem?_of_mem hm
   have hi2 : i < lh''.length := by rw [hl1, ← hlen']; exact (List.getElem?_eq_some_iff.1 hi).1
   have hl2 : lh''[i]? = some lh''[i] := by simp [hi2]
   rw [show look b ({ s with tmps := unviewIn ids' s.tmps, heap := putBlks ids' lh'' s.heap, nid := s.nid + k } : St).heap = look b (putBlks ids' lh'' s.heap) from rfl, look_putBlks_in hn' hi hl2, Option.some.injEq] at hb
   subst hb
   obtain ⟨cs, hcs, hmap⟩ := mapM?_get hback hl2
   obtain ⟨g1, g2, g3, g40⟩ := hh i cs hcs
   have hbm := hμ₂in i b hi
   have hment := mapM_ment back_ment hmap
   have hcol : ∀ off, colBack ids' K (fun b o => tagIn ids (K b o)) Kc' w.heap.size (μ₂ b) off = .blk b := by
    intro off
    rw [hbm, colBack_known hst (by rw [g2 off]; simp), g2 off]
    simp only [tagOut, hi]
   obtain ⟨hmapF, hsq⟩ := back_flat hmap
   rcases g40 with ⟨hm0, g4, g5⟩ | ⟨kvs, hm0, es, clk, ho1, ho2⟩
   ·refine ⟨hlt' b hm, ?_, hcol, by rw [hbm]; exact g3, .inl ⟨?_, ?_, fun sz ds e => g5 sz ds ((hsq sz ds).1 e)⟩⟩
    ·intro c' hc' j hj
     by_cases hqq : ∃ sz ds, lh''[i] = [.seq sz ds]
     ·obtain ⟨sz, ds, e⟩ := hqq
      rw [e] at hc'
      simp only [List.mem_singleton] at hc'; subst hc'
      simp [C.ids] at hj
     rw [← flatC_other fun sz ds e => hqq ⟨sz, ds, e⟩] at hc'
     obtain ⟨q, hq⟩ := List.getElem?_of_mem hc'
     obtain ⟨c, hc, hcc⟩ := mapM?_get hmapF hq
     obtain ⟨v, _, _, _, hr, _⟩ := g4 q c hc
     exact hlt' j ((back_rep (μ' := μ₂) hrec hμ₂in hcc hr).2.1 j hj)
    ·rw [hm0] at hment
     cases hq : mapOf lh''[i] with
     | none => rfl
     | some _ => rw [hq] at hment; simp at hment
    ·intro q c' hc'
     obtain ⟨c, hc, hcc⟩ := mapM?_get hmapF hc'
     obtain ⟨v, hv, hv1, hv2, hr, hsp⟩ := g4 q c hc
     obtain ⟨r1, r2, r3⟩ := back_rep (μ' := μ₂) hrec hμ₂in hcc hr
     rw [hbm]
     refine ⟨v, hv, hv1, hv2, r1, fun sz xs e => ?_⟩
     rcases hsp sz xs ((r3 sz xs).1 e) with e0 | ⟨blk, off, len, cap, e1, e2, e3⟩
     ·exact .inl e0
     refine .inr ⟨blk, off, len, cap, e1, e2, fun j hj hj' => ?_⟩
     obtain ⟨t1, t2, t3⟩ := e3 j hj hj'
     refine ⟨?_, t2, t3⟩
     rw [colBack_known hst (by rw [t1]; simp), t1]
     simp only [tagOut, hi]
   ·have := mapOf_some hm0
    subst this
    simp only [mapM?, C.back] at hmap
    split at hmap
    ·rename_i y ys hy hys
     simp only [Option.some.injEq, Option.map_eq_some_iff] at hmap hy hys
     obtain ⟨kvs', hkv, rfl⟩ := hy
     subst hys
     obtain ⟨q1, q2⟩ := thru_rep (K' := colBack ids' K (fun b o => tagIn ids (K b o)) Kc' w.heap.size) (μ' := μ₂) (Q := fun i => i < s.nid + k) hrec (fun j i' hij => ⟨hμ₂in j i' hij, hlt' i' (List.mem_of_getElem? hij)⟩) hkv ho2
     refine ⟨hlt' b hm, ?_, hcol, by rw [hbm]; exact g3, .inr ⟨kvs', by rw [← hmap]; rfl, es, clk, by rw [hbm]; exact ho1, q1⟩⟩
     intro c' hc' j hj
     rw [← hmap] at hc'
     simp only [List.mem_singleton] at hc'; subst hc'
     simp only [C.ids, List.mem_flatMap] at hj
     obtain ⟨x, hx, hj⟩ := hj
     exact q2 x hx j hj
    ·simp at hmap
  ·rw [show look b ({ s with tmps := unviewIn ids' s.tmps, heap := putBlks ids' lh'' s.heap, nid := s.nid + k } : St).heap = look b (putBlks ids' lh'' s.heap) from rfl, look_putBlks_out hm] at hb
   obtain ⟨k1, k2, k3⟩ := hs.heap b cells hb
   have hbn : b ∉ ids := fun h => hm (by rw [← hids']; exact List.mem_append.2 (.inl h))
   refine ⟨by show b < s.nid + k; omega, fun c hc i hi => by have := k2 c hc i hi; show i < s.nid + k; omega, ?_⟩
   have h1 := k3.step hstep hro (by
     rintro ⟨b', hb', h | ⟨o, h⟩⟩
     ·simp only [Tag.blk.injEq] at h; subst h; exact hbn hb'
     ·simp at h) (by
     rintro off sz xs _ ⟨b', hb', h | ⟨o, h⟩⟩
     ·simp at h
     ·simp only [Tag.sp.injEq, Loc.cell.injEq] at h; rw [h.1] at hbn; exact hbn hb')
   exact h1.mu (hμ₂ b k1) fun c hc j hj => hμ₂ j (k2 c hc j hj)
 ·intro blk off hl
  simp only [colBack]
  rw [if_neg (by have := hst.size; omega), hbd blk off hl]
  rfl
 ·show a.defers = s.defers.map (defOf μ₂)
  rw [hs.defs]
  refine List.map_congr_left fun x hx => ?_
  unfold defOf
  congr 3
  refine List.map_congr_left fun b hb => ?_
  rw [hμ₂ b (hs.dids x hx b hb)]
 ·intro x hx b hb
  have := hs.dids x hx b hb
  show b < s.nid + k
  omega
end
end Go.AM

namespace Go.AM
open Go
variable [Globs]
section
variable {P : Program} {K K' : Col} {μ μ' : Nat → Nat} {w w' : World} {s : St} {a : Act}
theorem handed_mine {ids : List Nat} {t : Tag} (h : handed ids t) : mine t := by
 obtain ⟨b, _, rfl | ⟨o, rfl⟩⟩ := h <;> simp [mine]
structure After (K : Col) (μ : Nat → Nat) (w : World) (n : Nat) (K' : Col) (μ' : Nat → Nat) (w' : World) : Prop where
 step : Step mine K w K' w'
 mu : ∀ b, b < n → μ' b = μ b
theorem After.refl (K : Col) (μ : Nat → Nat) (w : World) (n : Nat) : After K μ w n K μ w := ⟨Step.refl _ _ _, fun _ _ => rfl⟩
theorem After.trans {K₀ K₁ K₂ : Col} {μ₀ μ₁ μ₂ : Nat → Nat} {w₀ w₁ w₂ : World} {n m : Nat} (h : After K₀ μ₀ w₀ n K₁ μ₁ w₁) (k : After K₁ μ₁ w₁ m K₂ μ₂ w₂) (hnm : n ≤ m) :
  After K₀ μ₀ w₀ n K₂ μ₂ w₂ := ⟨h.step.trans k.step, fun b hb => (k.mu b (by omega)).trans (h.mu b hb)⟩
def Callee (P : Program) (f : Nat) : Prop := ∃ fn, P.funcs[f]? = some fn ∧ fn.body.isSome = true
def CallsOK (P : Program) (call : Call) : Prop := ∀ f args lh r, call f args lh = some r → Callee P f ∧ CallOK P f args lh r
theorem V.back_rep {ids : List Nat} (hK : ∀ b o, K b o = .ro → K' b o = .ro) (hμ : ∀ i b, ids[i]? = some b → μ' b = μ i) {c c' : V} {v : Value} (hc : V.back ids c = some c') (h : RepV K μ w c v)
  (hp : PlainV c) : RepV K' μ' w c' v ∧ (∀ b ∈ c'.ids, b ∈ ids) ∧ PlainV c' := by
 have many : ∀ {cs cs' : List C} {vs : List Value}, mapM? (C.back ids) cs = some cs' → RepCs K μ w cs vs → RepCs K' μ' w cs' vs ∧ ∀ c ∈ cs', ∀ b ∈ c.ids, b ∈ ids := by
  intro cs cs' vs hm hr
  refine ⟨hr.mapM hm fun c c' v h1 h2 => (AM.back_rep hK hμ h1 h2).1, ?_⟩
  intro c' hc' b hb
  obtain ⟨i, hi⟩ := List.getElem?_of_mem hc'
  obtain ⟨c, hci, hcc⟩ := mapM?_get hm hi
  obtain ⟨u, _, hru⟩ := hr.get hci
  exact (AM.back_rep hK hμ hcc hru).2.1 b hb
 cases c with
 | c x =>
  simp only [V.back, Option.map_eq_some_iff] at hc
  obtain ⟨x', hx, rfl⟩ := hc
  obtain ⟨h1, h2, h3⟩ := AM.back_rep (μ' := μ') hK hμ hx h
  refine ⟨h1, h2, ?_, by simp⟩
  intro sz xs e
  simp only [V.c.injEq] at e
  exact hp.1 sz xs (by rw [(h3 sz xs).1 e])
 | view l sz xs => exact absurd rfl (hp.2 l sz xs)
 | rptr cs =>
  simp only [V.back, Option.some.injEq] at hc; subst hc
  obtain ⟨blk, off, vs, h1, h2, h3⟩ := h
  exact ⟨⟨blk, off, vs, h1, fun i u hu => ⟨hK _ _ (h2 i u hu).1, (h2 i u hu).2⟩, RepL.recolor hK _ _ h3⟩, by simp [V.ids], hp⟩
 | vagg cs =>
  simp only [V.back, Option.map_eq_some_iff] at hc
  obtain ⟨cs', hm, rfl⟩ := hc
  obtain ⟨vs, h1, h2, h3⟩ := h
  obtain ⟨q1, q2⟩ := many hm h2
  refine ⟨⟨vs, h1, q1, h3⟩, ?_, by simp [PlainV]⟩
  intro b hb
  simp only [V.ids, List.mem_flatMap] at hb
  obtain ⟨c, hc, hb⟩ := hb
  exact q2 c hc b hb
 | tuple cs =>
  simp only [V.back, Option.map_eq_some_iff] at hc
  obtain ⟨cs', hm, rfl⟩ := hc
  obtain ⟨vs, h1, h2⟩ := h
  obtain ⟨q1, q2⟩ := many hm h2
  refine ⟨⟨vs, h1, q1⟩, ?_, by simp [PlainV]⟩
  intro b hb
  simp only [V.ids, List.mem_flatMap] at hb
  obtain ⟨c, hc, hb⟩ := hb
  exact q2 c hc b hb
def ResOf (K : Col) (μ : Nat → Nat) (s : St) (a : Act) (w : World) (n : Nat) : ORes → Ending → Prop
 | .val v s', e => Sim K μ s' a w ∧ n ≤ s'.nid ∧ PlainV v ∧ (∀ b ∈ v.ids, b < s'.nid) ∧ s'.defers = s.defers ∧ ∃ u, e = .returned u ∧ RepV K μ w v u
 | .pan d s', e => Sim K μ s' a w ∧ n ≤ s'.nid ∧ s'.defers = s.defers ∧ ∃ u, e = .panicked [⟨u, false, false⟩] ∧ Rep K w d u
theorem doCall_frame {call : Call} {f : Nat} {args : List C} {r : ORes} {ids : List Nat} (h : doCall call f args s = some (r, ids)) (hs : Sim K μ s a w)
  {vs : List Value} (hargs : RepCs K μ w args vs) :
  ∃ args' lh r', call f args' lh = some r' ∧ RepCs (fun b o => tagIn ids (K b o)) (fun i => μ (ids.getD i 0)) w args' vs ∧ (∀ c ∈ args', ∀ b ∈ c.ids, b < lh.length) ∧
   HRep (fun b o => tagIn ids (K b o)) (fun i => μ (ids.getD i 0)) w lh ∧ BoundK (fun b o => tagIn ids (K b o)) w ∧ Glob (fun b o => tagIn ids (K b o)) w ∧
   ∀ e w', (∃ K' μ', Step mine (fun b o => tagIn ids (K b o)) w K' w' ∧ BoundK K' w' ∧ (∀ i, i < lh.length → μ' i = μ (ids.getD i 0)) ∧
    match r' with
    | .ret v lh' => lh.length ≤ lh'.length ∧ HRep K' μ' w' lh' ∧ PlainV v ∧ (∀ b ∈ v.ids, b < lh'.length) ∧ ∃ u, e = .returned u ∧ RepV K' μ' w' v u
    | .pan d lh' => lh'.length = lh.length ∧ HRep K' μ' w' lh' ∧ ∃ u, e = .panicked [⟨u, false, false⟩] ∧ Rep K' w' d u) →
    ∃ K' μ', After K μ w s.nid K' μ' w' ∧ ResOf K' μ' s a w' s.nid r e := by
 unfold doCall at h
 split at h
 ·simp at h
 ·rename_i ids₀ hreach
  obtain ⟨hn, ⟨_, _⟩, hin0⟩ := reach_spec hreach (by simp)
  have hin : ∀ b ∈ ids₀, b < s.nid := by
   intro b hb
   rcases hin0 b hb with hb | hb
   ·simp at hb
   ·obtain ⟨cells, hc⟩ := Option.isSome_iff_exists.1 hb
    exact (hs.heap b cells hc).1
  split at h
  ·rename_i args' lh hargs' hlh
   obtain ⟨hrep, hlen⟩ := hrep_into hs hn hlh
   have hro : ∀ b o, K b o = .ro → tagIn ids₀ (K b o) = .ro := fun b o h => by rw [h]; rfl
   have hμ : ∀ i b, ids₀[i]? = some b → μ (ids₀.getD i 0) = μ b := fun i b h => by simp [List.getD, h]
   have hargr : RepCs (fun b o => tagIn ids₀ (K b o)) (fun i => μ (ids₀.getD i 0)) w args' vs :=
    hargs.mapM hargs' fun c c' v h1 h2 => (into_rep (K' := fun b o => tagIn ids₀ (K b o)) (μ' := fun i => μ (ids₀.getD i 0)) hro hμ h1 h2).1
   have hargi : ∀ c ∈ args', ∀ b ∈ c.ids, b < lh.length := by
    intro c' hc' b hb
    obtain ⟨i, hi⟩ := List.getElem?_of_mem hc'
    obtain ⟨c, hci, hcc⟩ := mapM?_get hargs' hi
    obtain ⟨u, _, hru⟩ := hargs.get hci
    rw [hlen]
    exact (into_rep (K' := fun b o => tagIn ids₀ (K b o)) (μ' := fun i => μ (ids₀.getD i 0)) hro hμ hcc hru).2.1 b hb
   have hbd : BoundK (fun b o => tagIn ids₀ (K b o)) w := fun blk off hl => by simp only [hs.bound blk off hl]; rfl
   split at h
   ·rename_i v lh' hc
    split at h
    ·rename_i lh'' v' hb1 hb2
     simp only [Option.some.injEq, Prod.mk.injEq] at h
     obtain ⟨rfl, rfl⟩ := h
     refine ⟨args', lh, _, hc, hargr, hargi, hrep, hbd, hs.glob.recolor hro, ?_⟩
     rintro e w' ⟨Kc', μ', hst, hbd', hmu, hl1, hh, hpl, hvi, u, rfl, hru⟩
     rw [hlen] at hl1 hmu
     obtain ⟨K₂, μ₂, h1, h2, h3, h4, h5⟩ := sim_back hs hn hin hst hbd' hmu hh (k := lh'.length - ids₀.length) (by omega) hb1
     obtain ⟨q1, q2, q3⟩ := V.back_rep (μ' := μ₂) h3 h4 hb2 hru hpl
     refine ⟨K₂, μ₂, ⟨h1.mono fun t => handed_mine, h2⟩, h5, by show s.nid ≤ s.nid + _; omega, q3, ?_, rfl, u, rfl, q1⟩
     intro b hb
     have := q2 b hb
     rcases List.mem_append.1 this with hm | hm
     ·have := hin b hm
      show b < s.nid + _
      omega
     ·exact (idsFrom_mem.1 hm).2
    ·simp at h
   ·rename_i d lh' hc
    split at h
    ·rename_i lh'' hb1
     simp only [Option.some.injEq, Prod.mk.injEq] at h
     obtain ⟨rfl, rfl⟩ := h
     refine ⟨args', lh, _, hc, hargr, hargi, hrep, hbd, hs.glob.recolor hro, ?_⟩
     rintro e w' ⟨Kc', μ', hst, hbd', hmu, hl1, hh, u, rfl, hru⟩
     rw [hlen] at hl1 hmu
     have hnil : ids₀ ++ idsFrom s.nid 0 = ids₀ := by simp [idsFrom]
     obtain ⟨K₂, μ₂, h1, h2, h3, h4, h5⟩ := sim_back hs hn hin hst hbd' hmu hh (k := 0) (by omega) (by rw [hnil]; exact hb1)
     rw [hnil] at h5
     exact ⟨K₂, μ₂, ⟨h1.mono fun t => handed_mine, h2⟩, h5, Nat.le_refl _, rfl, u, rfl, Rep.recolor h3 _ _ hru⟩
    ·simp at h
   ·simp at h
  ·simp at h
theorem doCall_sound {call : Call} (hcall : CallsOK P call) {f : Nat} {args : List C} {r : ORes} {ids : List Nat} (h : doCall call f args s = some (r, ids)) (hs : Sim K μ s a w)
  {vs : List Value} (hargs : RepCs K μ w args vs) :
  Calls P f vs.toArray w fun e w' => ∃ K' μ', After K μ w s.nid K' μ' w' ∧ ResOf K' μ' s a w' s.nid r e := by
 obtain ⟨args', lh, r', h1, h2, h3, h4, h5, h6, h7⟩ := doCall_frame h hs hargs
 exact ((hcall _ _ _ _ h1).2 _ _ _ _ h2 h3 h4 h5 h6).mono h7
theorem doCall_callee {call : Call} (hcall : CallsOK P call) {f : Nat} {args : List C} {r : ORes × List Nat} (h : doCall call f args s = some r) : Callee P f := by
 unfold doCall at h
 split at h
 ·simp at h
 ·split at h
  ·split at h
   ·rename_i hc; exact (hcall _ _ _ _ hc).1
   ·rename_i hc; exact (hcall _ _ _ _ hc).1
   ·simp at h
  ·simp at h
end
end Go.AM

namespace Go.AM
open Go
variable [Globs]
section
variable {P : Program} {K K' : Col} {μ μ' : Nat → Nat} {w w' : World} {s : St} {a : Act}
theorem isSource_run {u : TypeId} (h : isSource P u = true) : (∃ e, P.underlying u = some (.slice e)) ∨ P.underlying u = some .string := by
 unfold isSource at h
 split at h
 ·rename_i e hu; exact .inl ⟨e, hu⟩
 ·rename_i hu; exact .inr hu
 ·simp at h
theorem appended_run {y : V} {sz : Nat} {ys : List D} {v : Value} (h : appended y = some (sz, ys)) (hr : RepV K μ w y v) : ∃ vs, RepEs K w sz ys vs ∧
  (∀ w, (Builtin.lenOf v).run P w = .ok ys.length w) ∧ ∀ w₁, (∀ b o, w₁.cell? (ad b o) = w.cell? (ad b o)) → (Builtin.firstCells sz ys.length v).run P w₁ = .ok (cellsOf vs).toArray w₁ := by
 unfold appended at h
 split at h
 ·rename_i sz' xs hd
  simp only [Option.some.injEq, Prod.mk.injEq] at h
  obtain ⟨rfl, rfl⟩ := h
  have h1 := Go.AM.V.toD_rep hd hr
  simp only [Rep] at h1
  rcases h1 with ⟨rfl, rfl | ⟨ea, ecap, rfl⟩⟩ | ⟨blk, off, cap, rfl, _, he⟩
  ·exact ⟨[], .nil, fun w => by simp [Builtin.lenOf], fun w₁ _ => by simp [Builtin.firstCells, cellsOf]⟩
  ·exact ⟨[], .nil, fun w => by simp [Builtin.lenOf], fun w₁ _ => by
    have := run_firstCells_some (P := P) w₁ sz' 0 ea 0 ecap ([] : List Value) (by simp) (fun j u hu => by simp at hu)
    simpa [cellsOf] using this⟩
  obtain ⟨vs, hes, hca⟩ := he.es
  refine ⟨vs, hes, fun w => by simp [Builtin.lenOf], fun w₁ hw => ?_⟩
  exact run_firstCells_some (P := P) w₁ sz' xs.length (ad blk off) xs.length cap (cellsOf vs) hes.cells fun j u hu => by
   rw [Addr.add_lit]
   exact (hw blk (off + j)).trans (hca j u hu).2
 ·rename_i l hd
  simp only [Option.some.injEq, Prod.mk.injEq] at h
  obtain ⟨rfl, rfl⟩ := h
  have h1 := Go.AM.V.toD_rep hd hr
  simp only [Rep] at h1
  subst h1
  obtain ⟨hes, hcl⟩ := byteD_rep (K := K) (w := w) l
  refine ⟨_, hes, fun w => by simp [Builtin.lenOf, size_bytes], fun w₁ _ => ?_⟩
  rw [hcl]
  simp only [Builtin.firstCells, Sem.run_pure, List.length_map]
  congr 1
  have : (⟨l.toArray⟩ : ByteArray).extract 0 l.length = ⟨l.toArray⟩ := by
   apply ByteArray.ext; simp
  rw [this]
  simp
 ·simp at h
theorem run_append_room' {t u ty e : TypeId} {sz m : Nat} {x : Value} {news : List Value} (ht : P.underlying t = some (.slice e)) (hu : isSource P u = true) (hsz : tsz P e = some sz)
  {b o n cap : Nat} (hlen : ∀ w, (Builtin.lenOf x).run P w = .ok m w) (hfirst : (Builtin.firstCells sz m x).run P w = .ok news.toArray w) (hroom : n + m ≤ cap)
  (hex : ∀ j, j < news.length → (w.cell? (ad b (o + n * sz + j))).isSome = true ∧ w.frozen? (ad b (o + n * sz + j)) = false) (h1 : ∀ v ∈ news, isOne v = true) :
  (Builtin.append_ #[t, u] ty #[.slice (some (ad b o)) n cap, x]).run P w = .ok (.slice (some (ad b o)) (n + m) cap) (w.setCells b (o + n * sz) news) := by
 have hst := run_storeCells_cells (P := P) b (o + n * sz) news 0 w (fun j hj => by simpa using (hex j hj).1) (fun j hj => by simpa using (hex j hj).2) (fun v hv => by rw [← isOne_eq]; exact h1 v hv)
 simp at hst
 rcases isSource_run hu with ⟨e', hu'⟩ | hu' <;>
  simp [Builtin.append_, run_underlying ht, run_underlying hu', sizeOf_run hsz, hlen, hfirst, hroom, Addr.add_lit, hst]
theorem run_append_new {t u ty e : TypeId} {sz m : Nat} {x z : Value} {inf : TypeInfo} {olds news : List Value} (ht : P.underlying t = some (.slice e)) (hu : isSource P u = true) (hsz : tsz P e = some sz)
  (hi : P.info? e = some inf) (hz : inf.zero = some z) {base : Option Addr} {n cap : Nat}
  (hlen : ∀ w, (Builtin.lenOf x).run P w = .ok m w) (hfirst : (Builtin.firstCells sz m x).run P w.drew = .ok news.toArray w.drew) (hroom : cap < n + m)
  (hold : (Builtin.firstCells sz n (.slice base n cap)).run P w.drew = .ok olds.toArray w.drew) (hbound : n + m ≤ 4294967296) (hb : inf.bytes ≤ 1024) :
  (Builtin.append_ #[t, u] ty #[.slice base n cap, x]).run P w = .ok (.slice (some (ad w.heap.size 0)) (n + m) (grownCap w (n + m) cap e))
   (w.drew.alloc (.cells (olds ++ news ++ (Builtin.zeroCells z.cells (grownCap w (n + m) cap e - (n + m))).toList).toArray e)) := by
 have hn : ¬ (n + m ≤ cap) := by omega
 have h63' : ¬ (9223372036854775807 < ((n : Int) + (m : Int))) := by omega
 have hnc := nextslicecap_le hroom
 have h48' : ¬ (281474976710656 < Builtin.nextslicecap (n + m) cap * inf.bytes) := by
  have h1 : Builtin.nextslicecap (n + m) cap * inf.bytes ≤ (2 * (n + m)) * 1024 := Nat.mul_le_mul hnc hb
  omega
 have hsz' : inf.size = sz := by simp [tsz, hi] at hsz; exact hsz
 rcases isSource_run hu with ⟨e', hu'⟩ | hu' <;>
 ·simp [Builtin.append_, run_underlying ht, run_underlying hu', sizeOf_run hsz, hlen, hn, h63', h48', typeInfo, zeroValue, hi, hz, Question.forced, hfirst, hold, newRow, grownCap]
  congr 2
  apply Array.ext'
  simp [List.append_assoc]
end
end Go.AM

namespace Go.AM
open Go
variable [Globs]
section
variable {P : Program} {K K' : Col} {μ μ' : Nat → Nat} {w w' : World} {s : St} {a : Act}
theorem Sim.plainCell (h : Sim K μ s a w) {b off sz : Nat} {xs : List D} {cells : List C} (hb : look b s.heap = some cells) (hmo : mapOf cells = none) (hfl : flatC cells = cells) (v : Value) (hv : w.cell? (ad (μ b) off) = some v)
  (hr : Rep K w (.list sz xs) v) : Sim K μ { s with heap := upd b (cells.set off (.d (.list sz xs))) s.heap } a w := by
 have back : ∀ {b' : Nat} {cells' : List C}, look b' (upd b (cells.set off (.d (.list sz xs))) s.heap) = some cells' →
   ∃ c0, look b' s.heap = some c0 ∧ (cells' = c0 ∨ (b' = b ∧ c0 = cells ∧ cells' = cells.set off (.d (.list sz xs)))) := by
  intro b' cells' h'
  by_cases e : b' = b
  ·subst e
   rw [look_upd_same, Option.some.injEq] at h'
   exact ⟨cells, hb, .inr ⟨rfl, rfl, h'.symm⟩⟩
  ·rw [look_upd_other e] at h'
   exact ⟨cells', h', .inl rfl⟩
 refine ⟨h.tm, h.tids, h.own, ?_, ?_, h.bound, h.defs, h.dids, h.glob⟩
 ·intro t l z ys ht
  have hvw := h.view t l z ys ht
  cases l with
  | tmp u => exact hvw
  | cell b' off' =>
   intro cells' z' ys' hc hcc
   obtain ⟨c0, h0, h1⟩ := back hc
   rcases h1 with rfl | ⟨rfl, rfl, rfl⟩
   ·exact hvw cells' z' ys' h0 hcc
   ·by_cases ho : off' = off
    ·subst ho
     rw [List.getElem?_set_self' ] at hcc
     cases hq : c0[off']? <;> simp [hq] at hcc
    ·rw [List.getElem?_set_ne (by omega)] at hcc
     exact hvw c0 z' ys' h0 hcc
 ·intro b' cells' hc
  obtain ⟨c0, h0, h1⟩ := back hc
  rcases h1 with rfl | ⟨rfl, rfl, rfl⟩
  ·exact h.heap b' cells' h0
  ·obtain ⟨k1, k2, k3, k4, _⟩ := h.heap b' c0 h0
   have k5 := (h.heap b' c0 h0).2.2.cells hmo
   rw [hfl] at k5
   have hcr : CellsRep K μ w b' (c0.set off (.d (.list sz xs))) := by
    intro i c hi
    by_cases ho : i = off
    ·subst ho
     have hlt : i < c0.length := by
      have := (List.getElem?_eq_some_iff.1 hi).1; simpa using this
     rw [List.getElem?_set_self hlt, Option.some.injEq] at hi
     subst hi
     obtain ⟨v', hv', g1, g2, _⟩ := k5 i c0[i] (by simp [hlt])
     rw [hv, Option.some.injEq] at hv'
     subst hv'
     exact ⟨v, hv, g1, g2, hr, by simp⟩
    ·rw [List.getElem?_set_ne (by omega)] at hi
     exact k5 i c hi
   refine ⟨k1, ?_, k3, k4, .inl hcr.blk⟩
   intro c hc i hi
   rcases List.mem_or_eq_of_mem_set hc with hc | rfl
   ·exact k2 c hc i hi
   ·simp [C.ids] at hi
theorem RepE.append : ∀ {xs ys : List D} {sz blk off : Nat}, RepE K w sz blk off xs → RepE K w sz blk (off + xs.length * sz) ys → RepE K w sz blk off (xs ++ ys)
 | [], ys, sz, blk, off, _, h => by simpa using h
 | x :: xs, ys, sz, blk, off, h1, h2 => by
  simp only [RepE] at h1
  simp only [List.cons_append, RepE]
  refine ⟨h1.1, RepE.append h1.2 ?_⟩
  rw [show off + sz + xs.length * sz = off + (x :: xs).length * sz from by simp only [List.length_cons, Nat.add_mul]; omega]
  exact h2
def DoneS (P : Program) (K : Col) (μ : Nat → Nat) (s : St) (a : Act) (w : World) (o : Oper) (V : V) (s' : St) : Prop :=
 ∃ v K' w', (execOp a.eval o).run P w = .ok (.value v) w' ∧ Step mine K w K' w' ∧ Sim K' μ s' a w' ∧ Good K' μ s' a w' o.dst V v ∧ s'.nid = s.nid ∧ s'.defers = s.defers
def dstTag : Option Nat → Tag
 | some d => .sp (.tmp d)
 | none => .other
theorem isOne_cells {d : D} {v : Value} (h : Rep K w d v) : ∀ x ∈ v.cells.toList, isOne x = true := (RepL.cs (μ := fun _ => 0) (rep_cells h)).2
theorem RepEs.ones {sz : Nat} {ds : List D} {vs : List Value} (h : RepEs K w sz ds vs) : ∀ x ∈ cellsOf vs, isOne x = true := by
 induction h with
 | nil => simp [cellsOf]
 | cons h1 _ _ ih =>
  intro x hx
  simp only [cellsOf, List.mem_append] at hx
  rcases hx with hx | hx
  ·exact isOne_cells h1 x hx
  ·exact ih x hx
theorem zeroCells_length (z : Array Value) (n : Nat) : (Builtin.zeroCells z n).toList.length = n * z.size := by simp [Builtin.zeroCells]
theorem append_nil_core {t u ty e : TypeId} {n : Nat} {inf : TypeInfo} {z : Value} (ht : P.underlying t = some (.slice e)) (hu : isSource P u = true) (hn : tsz P e = some n)
  (hi : P.info? e = some inf) (hz : inf.zero = some z) (hzs : z.cells.size = n) (hb : inf.bytes ≤ 1024)
  {ys : List D} {y : Value} {vs : List Value} (dst : Option Nat) (hys : RepEs K w n ys vs)
  (hlen : ∀ w, (Builtin.lenOf y).run P w = .ok ys.length w) (hfirst : ∀ w₁, (∀ b o, w₁.cell? (ad b o) = w.cell? (ad b o)) → (Builtin.firstCells n ys.length y).run P w₁ = .ok (cellsOf vs).toArray w₁)
  (hmax : ys.length ≤ 4294967296) (hbd : BoundK K w) (base : Option Addr) :
  ∃ v K' w', (Builtin.append_ #[t, u] ty #[.slice base 0 0, y]).run P w = .ok v w' ∧ Step (fun _ => False) K w K' w' ∧ BoundK K' w' ∧
   Rep K' w' (.list n ys) v ∧ ∀ d, dst = some d → Spare K' w' (.tmp d) n v := by
 by_cases hne : ys = []
 ·-- nothing, behind nothing
  subst hne
  have hrun : (Builtin.append_ #[t, u] ty #[.slice base 0 0, y]).run P w = .ok (.slice base 0 0) w := by
   have hf := hfirst w fun _ _ => rfl
   cases hys
   simp only [cellsOf, List.length_nil] at hf
   cases base with
   | none =>
    rcases isSource_run hu with ⟨e', hu'⟩ | hu' <;>
     simp [Builtin.append_, run_underlying ht, run_underlying hu', sizeOf_run hn, hlen, hf]
   | some ea =>
    have hst : (Go.storeCells ea []).run P w = .ok () w := rfl
    rcases isSource_run hu with ⟨e', hu'⟩ | hu' <;>
     simp [Builtin.append_, run_underlying ht, run_underlying hu', sizeOf_run hn, hlen, hf, Addr.add, hst]
  refine ⟨_, K, w, hrun, Step.refl _ _ _, hbd, ?_, fun d _ => ?_⟩
  ·simp only [Rep]
   cases base with
   | none => exact .inl ⟨by simp, .inl rfl⟩
   | some ea => exact .inl ⟨by simp, .inr ⟨ea, 0, rfl⟩⟩
  ·cases base with
   | none => exact .inl (.inl rfl)
   | some ea => exact .inl (.inr ⟨ea, rfl⟩)
 have hold : (Builtin.firstCells n 0 (.slice base 0 0)).run P w.drew = .ok (([] : List Value).toArray) w.drew := by
  cases base with
  | none => simp [Builtin.firstCells]
  | some ea =>
   have := run_firstCells_some (P := P) w.drew n 0 ea 0 0 ([] : List Value) (by simp) (fun j u hu => by simp at hu)
   simpa using this
 have hrun := run_append_new (P := P) (w := w) (ty := ty) (news := cellsOf vs) ht hu hn hi hz (n := 0) (cap := 0) hlen (hfirst w.drew fun _ _ => rfl)
  (by have := List.length_pos_iff.2 hne; omega) hold (by simpa using hmax) hb
 have hle := le_grownCap w ys.length e 0
 have hll := hys.cells
 let f : Nat → Tag := fun i => if i < ys.length * n then .ro else dstTag dst
 have hom := oneMore_drew w (.cells (cellsOf vs ++ (Builtin.zeroCells z.cells (grownCap w ys.length 0 e - ys.length)).toList).toArray e)
 simp only [List.nil_append, Nat.zero_add] at hrun
 refine ⟨_, colNew K w.heap.size f, _, hrun, (hom.step f).mono (by simp), hom.bound hbd f, ?_, ?_⟩
 ·exact rep_new (K := K) (w := w) (cap := grownCap w ys.length 0 e) f (by intro i hi'; rw [hll] at hi'; simp [f, hi']) hom hys hle
 ·intro d hd
  refine .inr ⟨w.heap.size, 0, ys.length, _, rfl, hle, fun j hj hj' => ⟨?_, ?_, ?_⟩⟩
  ·simp only [colNew, if_true, Nat.zero_add, f, hd]
   rw [if_neg (by omega)]; rfl
  ·rw [hom.cell, Nat.zero_add]
   simp only [List.getElem?_toArray]
   rw [getElem?_pos _ _ (by
    rw [List.length_append, hll, zeroCells_length, hzs, ← Nat.add_mul]
    rw [show ys.length + (grownCap w ys.length 0 e - ys.length) = grownCap w ys.length 0 e from by omega]
    exact hj')]
   rfl
  ·rw [hom.frozen]; simp
theorem append_core {t u ty e : TypeId} {n : Nat} {inf : TypeInfo} {z : Value} (ht : P.underlying t = some (.slice e)) (hu : isSource P u = true) (hn : tsz P e = some n)
  (hi : P.info? e = some inf) (hz : inf.zero = some z) (hzs : z.cells.size = n) (hb : inf.bytes ≤ 1024)
  {l : Loc} {xs ys : List D} {vx y : Value} {vs : List Value} (dst : Option Nat)
  (hx : Rep K w (.list n xs) vx) (hsp : Spare K w l n vx) (hys : RepEs K w n ys vs)
  (hlen : ∀ w, (Builtin.lenOf y).run P w = .ok ys.length w) (hfirst : ∀ w₁, (∀ b o, w₁.cell? (ad b o) = w.cell? (ad b o)) → (Builtin.firstCells n ys.length y).run P w₁ = .ok (cellsOf vs).toArray w₁)
  (hmax : xs.length + ys.length ≤ 4294967296) (hbd : BoundK K w) :
  ∃ v K' w', (Builtin.append_ #[t, u] ty #[vx, y]).run P w = .ok v w' ∧ Step (fun t => t = .sp l) K w K' w' ∧ BoundK K' w' ∧
   Rep K' w' (.list n (xs ++ ys)) v ∧ ∀ d, dst = some d → Spare K' w' (.tmp d) n v := by
 simp only [Rep] at hx
 have nilc : ∀ base : Option Addr, xs = [] → vx = .slice base 0 0 → ∃ v K' w', (Builtin.append_ #[t, u] ty #[vx, y]).run P w = .ok v w' ∧ Step (fun t => t = .sp l) K w K' w' ∧ BoundK K' w' ∧
   Rep K' w' (.list n (xs ++ ys)) v ∧ ∀ d, dst = some d → Spare K' w' (.tmp d) n v := by
  rintro base rfl rfl
  obtain ⟨v, K', w', r1, r2, r3, r4, r5⟩ := append_nil_core (P := P) (ty := ty) ht hu hn hi hz hzs hb dst hys hlen hfirst (by simpa using hmax) hbd base
  exact ⟨v, K', w', r1, r2.mono (by simp), r3, by simpa using r4, r5⟩
 have hx : ∃ blk off cap, vx = .slice (some (ad blk off)) xs.length cap ∧ xs.length ≤ cap ∧ RepE K w n blk off xs ∨ (xs = [] ∧ ∃ base, vx = .slice base 0 0) := by
  rcases hx with ⟨rfl, hv | ⟨ea, ecap, hv⟩⟩ | ⟨blk, off, cap, h⟩
  ·exact ⟨0, 0, 0, .inr ⟨rfl, _, hv⟩⟩
  ·rcases hsp with (h | ⟨a', h⟩) | ⟨blk', off', len', cap', e1, e2, e3⟩
   ·rw [hv] at h; simp at h
   ·exact ⟨0, 0, 0, .inr ⟨rfl, _, h⟩⟩
   ·rw [hv] at e1
    simp only [Value.slice.injEq, Option.some.injEq] at e1
    obtain ⟨rfl, rfl, rfl⟩ := e1
    exact ⟨blk', off', ecap, .inl ⟨hv, by simp, by simp [RepE]⟩⟩
  ·exact ⟨blk, off, cap, .inl h⟩
 obtain ⟨blk, off, cap, ⟨hvx, hcap, hxe⟩ | ⟨h1, base, h2⟩⟩ := hx
 rotate_left
 ·exact nilc base h1 h2
 by_cases hxn : xs = [] ∧ ∃ base, vx = .slice base 0 0
 ·obtain ⟨h1, base, h2⟩ := hxn
  exact nilc base h1 h2
 clear nilc
 have hsp : ∃ blk' off' len' cap', vx = .slice (some (ad blk' off')) len' cap' ∧ len' ≤ cap' ∧
   ∀ j, len' * n ≤ j → j < cap' * n → K blk' (off' + j) = .sp l ∧ (w.cell? (ad blk' (off' + j))).isSome = true ∧ w.frozen? (ad blk' (off' + j)) = false := by
  rcases hsp with (h | ⟨a', h⟩) | h
  ·rw [hvx] at h; simp at h
  ·exfalso
   rw [hvx] at h
   simp only [Value.slice.injEq] at h
   exact hxn ⟨List.eq_nil_of_length_eq_zero h.2.1, _, by rw [hvx, h.2.1, h.2.2]⟩
  ·exact h
 subst hvx
 obtain ⟨blk', off', len', cap', e1, e2, e3⟩ := hsp
 simp only [Value.slice.injEq, Option.some.injEq, Addr.mk.injEq, and_true] at e1
 obtain ⟨⟨rfl, rfl⟩, rfl, rfl⟩ := e1
 have hcl := hys.cells
 by_cases hroom : xs.length + ys.length ≤ cap
 ·-- within the capacity
  have hmul : (xs.length + ys.length) * n ≤ cap * n := Nat.mul_le_mul_right _ hroom
  have hadd : (xs.length + ys.length) * n = xs.length * n + ys.length * n := Nat.add_mul _ _ _
  have hex : ∀ j, j < (cellsOf vs).length → (w.cell? (ad blk (off + xs.length * n + j))).isSome = true ∧ w.frozen? (ad blk (off + xs.length * n + j)) = false ∧ K blk (off + xs.length * n + j) = .sp l := by
   intro j hj
   have := e3 (xs.length * n + j) (by omega) (by omega)
   rw [← Nat.add_assoc] at this
   exact ⟨this.2.1, this.2.2, this.1⟩
  have hrun := run_append_room' (P := P) (ty := ty) ht hu hn hlen (hfirst w fun _ _ => rfl) hroom (fun j hj => ⟨(hex j hj).1, (hex j hj).2.1⟩) hys.ones
  let K' : Col := fun b o => if K b o = .sp l then (if b = blk ∧ off + xs.length * n ≤ o ∧ o < off + (xs.length + ys.length) * n then .ro else dstTag dst) else K b o
  have hst : Step (fun t => t = .sp l) K w K' (w.setCells blk (off + xs.length * n) (cellsOf vs)) :=
   step_setCells (fun j hj => (hex j hj).2.2) fun b o hn => if_neg hn
  refine ⟨_, K', _, hrun, hst, ?_, ?_, ?_⟩
  ·intro b o hl
   rw [setCells_size] at hl
   simp only [K', hbd b o hl]; simp
  ·simp only [Rep]
   refine .inr ⟨blk, off, cap, by simp, by simpa using hroom, RepE.append (RepE.step hst (by simp) _ _ _ _ hxe) ?_⟩
   refine (hys.step hst (by simp)).lies ?_
   intro i v hv
   have hi' := (List.getElem?_eq_some_iff.1 hv).1
   have hc := World.cell?_setCells_in blk (cellsOf vs) (off + xs.length * n) w (fun j hj => (hex j hj).1) i hi'
   refine ⟨?_, ?_⟩
   ·simp only [K', (hex i hi').2.2, if_true]
    rw [if_pos ⟨by first | rfl | trivial, by omega, by omega⟩]
   ·rw [(List.getElem?_eq_some_iff.1 hv).2] at hc; exact hc
  ·intro d hd
   subst hd
   refine .inr ⟨blk, off, xs.length + ys.length, cap, rfl, hroom, fun j hj hj' => ?_⟩
   obtain ⟨t1, t2, t3⟩ := e3 j (by omega) hj'
   refine ⟨?_, ?_, by rw [World.frozen?_setCells]; exact t3⟩
   ·simp only [K', t1, if_true]
    rw [if_neg (by omega)]; rfl
   ·rw [World.cell?_setCells_out]
    ·exact t2
    ·intro _ _; simp only; omega
 ·-- a new array
  obtain ⟨vo, hvo, hco⟩ := hxe.es
  have hold : (Builtin.firstCells n xs.length (.slice (some (ad blk off)) xs.length cap)).run P w.drew = .ok (cellsOf vo).toArray w.drew :=
   run_firstCells_some (P := P) w.drew n xs.length (ad blk off) xs.length cap (cellsOf vo) hvo.cells fun j u hu => by
    rw [Addr.add_lit]; exact (hco j u hu).2
  have hrun := run_append_new (P := P) (ty := ty) ht hu hn hi hz hlen (hfirst w.drew fun _ _ => rfl) (by omega) hold hmax hb
  have hes : RepEs K w n (xs ++ ys) (vo ++ vs) := by
   have aux : ∀ {a b : List D} {c d : List Value}, RepEs K w n a c → RepEs K w n b d → RepEs K w n (a ++ b) (c ++ d) := by
    intro a b c d h1 h2
    induction h1 with
    | nil => exact h2
    | cons q1 q2 _ ih => exact .cons q1 q2 ih
   exact aux hvo hys
  have happ : ∀ l1 l2 : List Value, cellsOf (l1 ++ l2) = cellsOf l1 ++ cellsOf l2 := by
   intro l1 l2
   induction l1 with
   | nil => simp [cellsOf]
   | cons x l ih => simp [cellsOf, ih, List.append_assoc]
  rw [← happ] at hrun
  have hle := le_grownCap w (xs.length + ys.length) e cap
  have hll : (cellsOf (vo ++ vs)).length = (xs.length + ys.length) * n := by
   have := hes.cells; simpa using this
  let f : Nat → Tag := fun i => if i < (xs.length + ys.length) * n then .ro else dstTag dst
  have hom := oneMore_drew w (.cells (cellsOf (vo ++ vs) ++ (Builtin.zeroCells z.cells (grownCap w (xs.length + ys.length) cap e - (xs.length + ys.length))).toList).toArray e)
  refine ⟨_, colNew K w.heap.size f, _, hrun, (hom.step f).mono (by simp), hom.bound hbd f, ?_, ?_⟩
  ·have := rep_new (K := K) (w := w) (cap := grownCap w (xs.length + ys.length) cap e) f (by intro i hi'; rw [hll] at hi'; simp [f, hi']) hom hes (by simpa using hle)
   simpa using this
  ·intro d hd
   subst hd
   refine .inr ⟨w.heap.size, 0, xs.length + ys.length, _, rfl, hle, fun j hj hj' => ⟨?_, ?_, ?_⟩⟩
   ·simp only [colNew, if_true, Nat.zero_add, f]
    rw [if_neg (by omega)]; rfl
   ·rw [hom.cell, Nat.zero_add]
    simp only [List.getElem?_toArray]
    rw [getElem?_pos _ _ (by
     rw [List.length_append, hll, zeroCells_length, hzs, ← Nat.add_mul]
     rw [show xs.length + ys.length + (grownCap w (xs.length + ys.length) cap e - (xs.length + ys.length)) = grownCap w (xs.length + ys.length) cap e from by omega]
     exact hj')]
    rfl
   ·rw [hom.frozen]; simp
end
end Go.AM

namespace Go.AM
open Go
variable [Globs]
section
variable {P : Program} {K K' : Col} {μ μ' : Nat → Nat} {w w' : World} {s : St} {a : Act}
theorem sp_mine {l : Loc} {t : Tag} (h : t = .sp l) : mine t := by subst h; simp [mine]
theorem zeroFits_some {e : TypeId} {n : Nat} (h : zeroFits P e n = true) : ∃ inf z, P.info? e = some inf ∧ inf.zero = some z ∧ z.cells.size = n := by
 unfold zeroFits at h
 split at h
 ·rename_i z hz
  split at h
  ·rename_i cs hcs
   obtain ⟨v, _, hr, _, inf, hi, hz'⟩ := tzero_rep (P := P) (K := fun _ _ => .other) (μ := fun _ => 0) (w := default) hz
   have := (V.cells_rep hcs hr).1.length
   simp at h this
   exact ⟨inf, v, hi, hz', by omega⟩
  ·simp at h
 ·simp at h
theorem ev_const_view {tm : List (Nat × V)} (v : Value) {l : Loc} {sz : Nat} {xs : List D} : ev tm (.const v) ≠ some (.view l sz xs) := V.ofValue_no_view
theorem evT_const_own {P : Program} {t : TypeId} {tm : List (Nat × V)} {x : Operand} {sz : Nat} {xs : List D} (h : evT P t tm x = some (.c (.own sz xs))) : ∃ u, x = .tmp u ∧ look u tm = some (.c (.own sz xs)) := by
 have h := evT_own h
 cases x with
 | tmp u => exact ⟨u, rfl, h⟩
 | const v => exact absurd h V.ofValue_no_own
 | global g => simp [ev] at h
 | func f => simp [ev] at h
theorem owns_plainAt {u : Nat} {l : Loc} (h : ownsAt { s with tmps := AM.plainAt u s.tmps } l) : l ≠ .tmp u := by
 rintro rfl
 obtain ⟨sz, xs, h⟩ := h
 exact not_own_plainAt u s.tmps sz xs h
theorem owns_plainCell {b off sz : Nat} {xs : List D} {cells : List C} {l : Loc} (hb : look b s.heap = some cells) (h : ownsAt { s with heap := upd b (cells.set off (.d (.list sz xs))) s.heap } l) : l ≠ .cell b off := by
 rintro rfl
 obtain ⟨cells', z, ys, h1, h2⟩ := h
 rw [show look b ({ s with heap := upd b (cells.set off (.d (.list sz xs))) s.heap } : St).heap = look b (upd b (cells.set off (.d (.list sz xs))) s.heap) from rfl, look_upd_same, Option.some.injEq] at h1
 subst h1
 rw [List.getElem?_set_self'] at h2
 cases hq : cells[off]? <;> simp [hq] at h2
theorem op_append (hs : Sim K μ s a w) {o : Oper} {c : Go.Call} {t u : TypeId} {x y : Operand} (ho : o.op = .call c) (hc : c.callee = .builtin .append)
  (hargs : c.args.toList = [x, y]) (hty : c.argTypes.toList = [t, u]) {V : V} {s' : St} (h : doAppend P t u x y s = some (V, s')) : DoneS P K μ s a w o V s' := by
 have hargs' : c.args = #[x, y] := by apply Array.ext'; simpa using hargs
 have hty' : c.argTypes = #[t, u] := by apply Array.ext'; simpa using hty
 have exec : ∀ {v : Value} {w' : World}, (Builtin.append_ #[t, u] o.type #[a.eval x, a.eval y]).run P w = .ok v w' → (execOp a.eval o).run P w = .ok (.value v) w' := by
  intro v w' hr
  simp [execOp, ho, resolve, hc, hargs', hty', invoke, builtin, hr]
 unfold doAppend at h
 split at h
 ·rename_i e vx sz' ys ht hx hy
  have hte := telem_some ht
  rw [Option.bind_eq_some_iff] at hy
  obtain ⟨vy, hvy, happ⟩ := hy
  have hyr := evT_rep hs hvy
  have hxr := evT_rep hs hx
  split at h
  ·rename_i n hn hu
   split at h
   ·rename_i hcond
    obtain ⟨rfl, hb, hzf⟩ := hcond
    obtain ⟨inf, z, hi, hz, hzs⟩ := zeroFits_some hzf
    have hb' : inf.bytes ≤ 1024 := by simpa [Program.bytesOf, hi] using hb
    obtain ⟨vs, hes, hlen, hfirst⟩ := appended_run (P := P) happ hyr
    have core : ∀ {l : Loc} {xs : List D}, Rep K w (.list sz' xs) (a.eval x) → Spare K w l sz' (a.eval x) → xs.length + ys.length ≤ 4294967296 →
      ∀ s' : St, Sim K μ s' a w → (∀ l', ownsAt s' l' → l' ≠ l) → s'.nid = s.nid → s'.defers = s.defers → DoneS P K μ s a w o (.c (.own sz' (xs ++ ys))) s' := by
     intro l xs h1 h2 h3 s' h4 h5 h6 h7
     obtain ⟨v, K', w', r1, r2, r3, r4, r5⟩ := append_core (P := P) (ty := o.type) hte hu hn hi hz hzs hb' o.dst h1 h2 hes hlen hfirst h3 hs.bound
     refine ⟨v, K', w', exec r1, r2.mono fun t => sp_mine, ?_, ⟨r4, by simp [Go.AM.V.ids, C.ids], ?_, by simp⟩, h6, h7⟩
     ·refine h4.step r2 (by simp) (by simp) ?_ r3
      intro l' hl' e'
      simp only [Tag.sp.injEq] at e'
      exact h5 l' hl' e'
     ·intro sz' xs' e' t' ht'
      simp only [Go.AM.V.c.injEq, C.own.injEq] at e'
      rw [← e'.1]; exact r5 t' ht'
    split at h
    ·split at h
     ·rename_i hmax
      simp only [Option.some.injEq, Prod.mk.injEq] at h
      obtain ⟨rfl, rfl⟩ := h
      simp only [RepV, RepC] at hxr
      obtain ⟨v, K', w', r1, r2, r3, r4, r5⟩ := append_nil_core (P := P) (ty := o.type) hte hu hn hi hz hzs hb' o.dst hes hlen hfirst hmax hs.bound none
      rw [← hxr] at r1
      refine ⟨v, K', w', exec r1, r2.mono (by simp), ?_, ⟨r4, by simp [Go.AM.V.ids, C.ids], ?_, by simp⟩, rfl, rfl⟩
      ·exact hs.step r2 (by simp) (by simp) (by simp) r3
      ·intro sz' xs' e' t' ht'
       simp only [Go.AM.V.c.injEq, C.own.injEq] at e'
       rw [← e'.1]; exact r5 t' ht'
     ·simp at h
    ·rename_i sz xs
     split at h
     ·rename_i hc2
      obtain ⟨rfl, hmax⟩ := hc2
      simp only [Option.some.injEq, Prod.mk.injEq] at h
      obtain ⟨rfl, rfl⟩ := h
      simp only [RepV, RepC] at hxr
      refine core (l := .cell s.nid 0) hxr.1 (hxr.2.spare _ _) hmax _ hs ?_ rfl rfl
      rintro l' hl' rfl
      obtain ⟨cells, _, _, hb, _⟩ := hl'
      exact Nat.lt_irrefl _ (hs.heap _ _ hb).1
     ·simp at h
    ·rename_i sz xs
     obtain ⟨v, rfl, hv⟩ := evT_const_own hx
     simp only at h
     split at h
     ·rename_i hc2
      obtain ⟨rfl, hmax⟩ := hc2
      simp only [Option.some.injEq, Prod.mk.injEq] at h
      obtain ⟨rfl, rfl⟩ := h
      exact core (l := .tmp v) hxr (hs.own v _ _ hv) hmax _ (hs.plainAt v) (fun l' hl' => owns_plainAt hl') rfl rfl
     ·simp at h
    ·rename_i v sz xs
     replace hx := evT_view hx
     split at h
     ·rename_i sz'' xs'' hv
      split at h
      ·rename_i hc2
       obtain ⟨rfl, rfl, hmax⟩ := hc2
       simp only [Option.some.injEq, Prod.mk.injEq] at h
       obtain ⟨rfl, rfl⟩ := h
       cases x with
       | tmp tx =>
        have h1 := hs.view tx _ _ _ hx _ _ hv
        have h2 := hs.own v _ _ hv
        rw [h1] at h2
        exact core (l := .tmp v) hxr h2 hmax _ (hs.plainAt v) (fun l' hl' => owns_plainAt hl') rfl rfl
       | const cv => exact absurd hx (ev_const_view cv)
       | global g => simp [ev] at hx
       | func f => simp [ev] at hx
      ·simp at h
     ·simp at h
    ·rename_i b off sz xs
     replace hx := evT_view hx
     split at h
     ·rename_i cells hcells0
      obtain ⟨cs0, hcells, hmo, hfl0⟩ := lookC_some hcells0
      split at h
      ·rename_i sz'' xs'' hcc
       have hfl : flatC cs0 = cs0 := by rw [hfl0] at hcc; exact flatC_own hcc
       rw [hfl] at hfl0
       subst hfl0
       split at h
       ·rename_i hc2
        obtain ⟨rfl, rfl, hmax⟩ := hc2
        simp only [Option.some.injEq, Prod.mk.injEq] at h
        obtain ⟨rfl, rfl⟩ := h
        cases x with
        | tmp tx =>
         have h1 := hs.view tx _ _ _ hx _ _ _ hcells hcc
         obtain ⟨vv, g1, _, _, _, g5⟩ := (hs.heap b _ hcells).2.2.cells hmo off _ (by rw [hfl]; exact hcc)
         rw [h1, Option.some.injEq] at g1
         have h2 := g5 _ _ rfl
         rw [← g1] at h2
         exact core (l := .cell b off) hxr h2 hmax _ (hs.plainCell hcells hmo hfl _ h1 hxr) (fun l' hl' => owns_plainCell hcells hl') rfl rfl
        | const cv => exact absurd hx (ev_const_view cv)
        | global g => simp [ev] at hx
        | func f => simp [ev] at hx
       ·simp at h
      ·simp at h
     ·simp at h
    ·simp at h
   ·simp at h
  ·simp at h
 ·simp at h
end
end Go.AM

namespace Go.AM
open Go
variable [Globs]
def dstsBelow (n : Nat) : Code → Bool
 | .region _ ops _ => ops.toList.all fun o => match o.dst with | some d => decide (d < n) | none => true
 | .seq a b => dstsBelow n a && dstsBelow n b
 | .cond _ a b => dstsBelow n a && dstsBelow n b
 | .block _ c => dstsBelow n c
 | .loop c => dstsBelow n c
 | .scope c => dstsBelow n c
 | _ => true
def funcOK (fn : Func) : Bool :=
 !(fn.name == "runtime.NumGoroutine") && match fn.body with | some c => dstsBelow fn.ntmps c | none => true
structure ProgOK (P : Program) : Prop where
 func : ∀ (f : Nat) (fn : Func), P.funcs[f]? = some fn → funcOK fn = true
 mixed : P.follows .mixedOrders = true
section
variable {P : Program} {K K' : Col} {μ μ' : Nat → Nat} {w w' : World} {s : St} {a : Act}
theorem Sim.weaken (h : Sim K μ s a w) {tm : List (Nat × V)} (hb : ∀ t v, look t tm = some v → ∃ v', look t s.tmps = some v' ∧ (v = v' ∨ ∃ l sz xs, v' = .view l sz xs ∧ v = .d (.list sz xs))) :
  Sim K μ { s with tmps := tm } a w := by
 refine ⟨?_, ?_, ?_, ?_, h.heap, h.bound, h.defs, h.dids, h.glob⟩
 ·intro t V ht
  obtain ⟨v', h1, h2⟩ := hb t V ht
  refine ⟨(h.tm t v' h1).1, ?_⟩
  rcases h2 with rfl | ⟨l', sz, xs, rfl, rfl⟩
  ·exact (h.tm t _ h1).2
  ·exact (h.tm t _ h1).2
 ·intro t V ht b hbb
  obtain ⟨v', h1, h2⟩ := hb t V ht
  rcases h2 with rfl | ⟨l', sz, xs, rfl, rfl⟩
  ·exact h.tids t _ h1 b hbb
  ·simp [Go.AM.V.ids, C.ids] at hbb
 ·intro t sz xs ht
  obtain ⟨v', h1, h2⟩ := hb t _ ht
  rcases h2 with rfl | ⟨l', sz', xs', rfl, e⟩
  ·exact h.own t sz xs h1
  ·simp at e
 ·intro t l' sz xs ht
  obtain ⟨v', h1, h2⟩ := hb t _ ht
  rcases h2 with rfl | ⟨l'', sz', xs', rfl, e⟩
  ·have hv := h.view t l' sz xs h1
   cases l' with
   | cell b off => exact hv
   | tmp k =>
    intro z ys hk
    obtain ⟨v'', h3, h4⟩ := hb k _ hk
    rcases h4 with rfl | ⟨_, _, _, rfl, e⟩
    ·exact hv z ys h3
    ·simp at e
  ·simp at e
theorem Sim.unviewIn (h : Sim K μ s a w) (ids : List Nat) : Sim K μ { s with tmps := AM.unviewIn ids s.tmps } a w := by
 refine h.weaken fun t v ht => ?_
 obtain ⟨v', h1, h2, _⟩ := back_unviewIn ht
 refine ⟨v', h1, ?_⟩
 rcases h2 with rfl | ⟨b, off, sz, xs, e1, e2⟩
 ·exact .inl rfl
 ·exact .inr ⟨_, sz, xs, e1, e2⟩
theorem mem_key {t : Nat} {v : V} : ∀ {l : List (Nat × V)}, look t l = some v → ∃ u, (t, u) ∈ l
 | [], h => by simp [look] at h
 | (j, u) :: r, h => by
  simp only [look] at h
  split at h
  ·rename_i hj
   subst hj
   exact ⟨u, by simp⟩
  ·obtain ⟨w, hw⟩ := mem_key h
   exact ⟨w, List.mem_cons_of_mem _ hw⟩
theorem noView_spec {id : Nat} {tm : List (Nat × V)} (h : noView id tm = true) (t off sz : Nat) (xs : List D) : look t tm ≠ some (.view (.cell id off) sz xs) := by
 intro hl
 obtain ⟨u, hu⟩ := mem_key hl
 simp only [noView, List.all_eq_true] at h
 have := h _ hu
 simp [hl] at this
theorem noView_of {id : Nat} {tm : List (Nat × V)} (h : ∀ (t off sz : Nat) (xs : List D), look t tm ≠ some (.view (.cell id off) sz xs)) : noView id tm = true := by
 simp only [noView, List.all_eq_true]
 rintro ⟨t, v⟩ _
 cases hl : look t tm with
 | none => rfl
 | some u =>
  cases u with
  | view l sz xs =>
   cases l with
   | cell b off =>
    by_cases hb : b = id
    ·subst hb; exact absurd hl (h t off sz xs)
    ·simp [hb]
   | tmp _ => rfl
  | _ => rfl
theorem callFunc_run (hP : ProgOK P) {f : Nat} (hf : Callee P f) (args : Array Value) (w : World) : (callFunc f args).run P w = .ok (.enter f args) w := by
 obtain ⟨fn, h1, h2⟩ := hf
 have h3 := hP.func f fn h1
 simp only [funcOK, Bool.and_eq_true, Bool.not_eq_true'] at h3
 replace h3 := h3.1
 obtain ⟨c, hc⟩ := Option.isSome_iff_exists.1 h2
 simp [callFunc, h1, hc]
 intro h
 rw [beq_eq_false_iff_ne] at h3
 exact absurd h h3
structure Behind (P : Program) (K : Col) (μ : Nat → Nat) (s : St) (a : Act) (w : World) (o : Oper) (r : ORes) (next : Act → World → Prop) (Q : Exit → Act → World → Prop) : Prop where
 val : ∀ V s' K' μ' a' w', r = .val V s' → After K μ w s.nid K' μ' w' → s.nid ≤ s'.nid → Sim K' μ' (putDst o V s') a' w' → a'.tmps.size = a.tmps.size → next a' w'
 pan : ∀ d s' K' μ' w' u, r = .pan d s' → After K μ w s.nid K' μ' w' → s.nid ≤ s'.nid → Sim K' μ' s' a w' → Rep K' w' d u → Q (.panic [⟨u, false, false⟩]) a w'
theorem behind_val {o : Oper} {V : V} {s' : St} {next : Act → World → Prop} {Q : Exit → Act → World → Prop} (hb : Behind P K μ s a w o (.val V s') next Q)
  (hst : Step mine K w K' w') (hmu : ∀ b, b < s.nid → μ' b = μ b) (hnid : s.nid ≤ s'.nid) (hs' : Sim K' μ' s' a w') (hd : ∀ t, o.dst = some t → t < a.tmps.size) {v : Value} (hg : Good K' μ' s' a w' o.dst V v) :
  next (a.put o.dst v) w' := by
 refine hb.val V s' K' μ' (a.put o.dst v) w' rfl ⟨hst, hmu⟩ hnid ?_ (put_size _ _ _)
 exact hs'.put hd hg
def addNb (nb : Option (List C)) (s : St) : St :=
 match nb with
 | none => s
 | some cs => { s with heap := (s.nid, cs) :: s.heap, nid := s.nid + 1 }
theorem Step.none_mine {K : Col} {w : World} {K' : Col} {w' : World} (h : Step (fun _ => False) K w K' w') : Step mine K w K' w' := h.mono (by simp)
theorem op_quiet {o : Oper} (hs : Sim K μ s a w) (hd : ∀ t, o.dst = some t → t < a.tmps.size) {V : V} {nb : Option (List C)} (h : evR P s.nid o s.tmps s.heap = some (V, nb))
  {next : Act → World → Prop} {Q : Exit → Act → World → Prop}
  (hnv : nb.isSome = true → noView s.nid s.tmps = true) (hb : Behind P K μ s a w o (.val V (addNb nb s)) next Q) : o.wp P a w next Q := by
 rcases evR_sound hs h with ⟨rfl, v, K', w', hrun, hst, hbd, hg⟩ | ⟨cs, c, rfl, rfl, hmc, arr, e, hrun, hcs⟩
 ·simp only [Oper.wp, hrun, Oper.upon_value]
  refine behind_val hb hst.none_mine (fun _ _ => rfl) (Nat.le_refl _) ?_ hd hg
  exact hs.step hst (by simp) (by simp) (by simp) hbd
 ·simp only [Oper.wp, hrun, Oper.upon_value]
  have hom := oneMore_alloc w (.cells arr e)
  have hs1 : Sim (colNew K w.heap.size fun _ => .blk s.nid) μ s a (w.alloc (.cells arr e)) :=
   hs.step (hom.step fun _ => .blk s.nid) (by simp) (by simp) (by simp) (hom.bound hs.bound _)
  obtain ⟨h1, h2, h3, h4⟩ := hcs μ hs
  have hcell : ∀ i v, arr.toList[i]? = some v → (w.alloc (.cells arr e)).cell? (ad w.heap.size i) = some v ∧ (w.alloc (.cells arr e)).frozen? (ad w.heap.size i) = false := by
   intro i v hv
   refine ⟨?_, by rw [hom.frozen]; simp⟩
   rw [hom.cell]
   simpa using hv
  have hs2 := hs1.addBlk (g := w.heap.size) (cs := cs) (vs := arr.toList) (by simp) (fun off => by simp [colNew]) hcell (h1.step (hom.step fun _ => .blk s.nid) (by simp)) h2 h3 h4 (noView_spec (hnv rfl))
  refine behind_val hb (hom.step fun _ => .blk s.nid).none_mine (fun b hb => muSet_other μ _ (by omega)) (by show s.nid ≤ s.nid + 1; omega) hs2 hd ⟨?_, ?_, by intro sz xs e; rcases hmc with rfl | ⟨n, k, rfl⟩ <;> simp at e, by simp⟩
  ·exact hmc.rep (muSet_same _ _ _)
  ·intro b hb
   simp only [V.ids, hmc.ids, List.mem_singleton] at hb
   subst hb
   show s.nid < s.nid + 1
   omega
theorem op_doneS {o : Oper} (hd : ∀ t, o.dst = some t → t < a.tmps.size) {V : V} {s' : St} (h : DoneS P K μ s a w o V s') {next : Act → World → Prop} {Q : Exit → Act → World → Prop}
  (hb : Behind P K μ s a w o (.val V s') next Q) : o.wp P a w next Q := by
 obtain ⟨v, K', w', hrun, hst, hs', hg, hnid, _⟩ := h
 simp only [Oper.wp, hrun, Oper.upon_value]
 exact behind_val hb hst (fun _ _ => rfl) (by omega) hs' hd hg
theorem done_assign (hs : Sim K μ s a w) {o : Oper} {x : Operand} (ho : o.op = .assign x) {call : Call} {r : ORes} {ft : Foot} (h : evOp P call s.nid o s = some (r, ft)) :
  ∃ V s', r = .val V s' ∧ DoneS P K μ s a w o V s' := by
 have hrun : (execOp a.eval o).run P w = .ok (.value (a.eval x)) w := by simp [execOp, ho]
 simp only [evOp, ho] at h
 split at h
 ·rename_i sz xs hx
  split at h
  ·rename_i u
   simp only [Option.some.injEq, Prod.mk.injEq] at h
   obtain ⟨rfl, rfl⟩ := h
   refine ⟨_, _, rfl, a.eval (.tmp u), ?_⟩
   have hr := evT_rep hs hx
   replace hx := evT_own hx
   have hsp := hs.own u sz xs hx
   cases hdst : o.dst with
   | none =>
    exact ⟨K, w, hrun, Step.refl _ _ _, hs.plainAt u, ⟨hr, by simp [V.ids, C.ids], by intro _ _ _ t ht; simp at ht, by simp⟩, rfl, rfl⟩
   | some d =>
    have hst := step_move K w (.tmp u) (.tmp d)
    refine ⟨colMove K (.tmp u) (.tmp d), w, hrun, hst.mono fun t => sp_mine, ?_, ⟨hr.step hst (by simp), by simp [V.ids, C.ids], ?_, by simp⟩, rfl, rfl⟩
    ·refine (hs.plainAt u).step hst (by simp) (by simp) ?_ (bound_move hs.bound _ _)
     intro l hl e
     simp only [Tag.sp.injEq] at e
     exact owns_plainAt hl e
    ·intro sz' xs' e t ht
     simp only [V.c.injEq, C.own.injEq] at e
     simp only [Option.some.injEq] at ht
     subst ht
     rw [← e.1]
     exact hsp.move
  ·simp at h
 ·rename_i n hx
  simp only [Option.some.injEq, Prod.mk.injEq] at h
  obtain ⟨rfl, rfl⟩ := h
  have hq := evT_rep hs hx
  simp only [RepV, RepC] at hq
  exact ⟨_, _, rfl, a.eval x, K, w, hrun, Step.refl _ _ _, hs, ⟨by simp only [RepV, RepC, Rep]; exact .inl ⟨by simp, .inl hq⟩, by simp [V.ids, C.ids], fun sz xs e t ht => .inl (.inl hq), by simp⟩, rfl, rfl⟩
 ·rename_i n xs hx
  simp only [Option.some.injEq, Prod.mk.injEq] at h
  obtain ⟨rfl, rfl⟩ := h
  have hq := evT_rep hs hx
  simp only [RepV, RepC] at hq
  exact ⟨_, _, rfl, a.eval x, K, w, hrun, Step.refl _ _ _, hs, ⟨hq.1, by simp [V.ids, C.ids], fun sz xs e t ht => by simp only [V.c.injEq, C.own.injEq] at e; rw [← e.1]; exact hq.2.spare _ _, by simp⟩, rfl, rfl⟩
 ·rename_i l sz xs hx
  simp only [Option.some.injEq, Prod.mk.injEq] at h
  obtain ⟨rfl, rfl⟩ := h
  exact ⟨_, _, rfl, a.eval x, K, w, hrun, Step.refl _ _ _, hs, ⟨by have q := evT_rep hs hx; exact q, by simp [V.ids, C.ids], by simp, by simp⟩, rfl, rfl⟩
 ·rename_i v hno hnn hnf hnv hx
  simp only [Option.some.injEq, Prod.mk.injEq] at h
  obtain ⟨rfl, rfl⟩ := h
  exact ⟨_, _, rfl, a.eval x, K, w, hrun, Step.refl _ _ _, hs, ⟨evT_rep hs hx, evT_ids hs hx, fun sz xs e => (hno sz xs e).elim, fun l sz xs e => (hnv l sz xs e).elim⟩, rfl, rfl⟩
 ·simp at h
theorem storeVar_run {t : TypeId} {v : Value} {blk off : Nat} (hn : tsz P t = some v.cells.size) (hex : ∀ j, j < v.cells.toList.length → (w.cell? (ad blk (off + j))).isSome = true ∧ w.frozen? (ad blk (off + j)) = false)
  (h1 : ∀ x ∈ v.cells.toList, isOne x = true) : (storeVar t (ad blk off) v).run P w = .ok () (w.setCells blk off v.cells.toList) := by
 have hst := run_storeCells_cells (P := P) blk off v.cells.toList 0 w (fun j hj => by simpa using (hex j hj).1) (fun j hj => by simpa using (hex j hj).2) (fun v hv => by rw [← isOne_eq]; exact h1 v hv)
 simp at hst
 simp [storeVar, sizeOf_run hn, hst]
theorem op_store (hs : Sim K μ s a w) {o : Oper} {t : TypeId} {x y : Operand} (ho : o.op = .store t x y) {call : Call} {r : ORes} {ft : Foot} (h : evOp P call s.nid o s = some (r, ft)) :
  ∃ s' K' w', r = .val (.c .undef) s' ∧ (execOp a.eval o).run P w = .ok .skip w' ∧ Step mine K w K' w' ∧ Sim K' μ s' a w' ∧ s'.nid = s.nid ∧ s'.defers = s.defers := by
 simp only [evOp, ho] at h
 split at h
 ·rename_i b off sz xs hx hy
  split at h
  ·rename_i hn
   split at h
   ·rename_i u hp hst
    simp only [Option.some.injEq, Prod.mk.injEq] at h
    obtain ⟨rfl, rfl⟩ := h
    have hxr := ev_rep hs hx
    simp only [RepV, RepC] at hxr
    have hyr := evT_rep hs hy
    have hsp := hs.own u sz xs (evT_own hy)
    have h1 : isOne (a.eval (.tmp u)) = true := isOne_of_rep (d := .list sz xs) hyr (by simp)
    have hmv := step_move K w (.tmp u) (.cell b off)
    have hs1 := hs.plainAt u
    have hs2 : Sim (colMove K (.tmp u) (.cell b off)) μ { s with tmps := AM.plainAt u s.tmps } a w := by
     refine hs1.step hmv (by simp) (by simp) ?_ (bound_move hs.bound _ _)
     intro l hl e
     simp only [Tag.sp.injEq] at e
     exact owns_plainAt hl e
    obtain ⟨hs3, hnv⟩ := hs2.unview (.cell b off)
    have hcs : (a.eval (.tmp u)).cells.toList = [a.eval (.tmp u)] := by rw [cells_of_one h1]
    obtain ⟨q1, q2, q3⟩ := hs3.storeCells (ncs := [.own sz xs]) (nvs := [a.eval (.tmp u)]) hst
     (.cons (hyr.step hmv (by simp)) .nil) (by simpa using h1) (by simp [C.ids])
     (by
      intro i z ys hi v hv
      cases i with
      | zero =>
       simp at hi hv; subst hv
       rw [← hi.1]
       exact hsp.move
      | succ i => simp at hi)
     (by
      intro t i sz' xs' z ys ht hi
      cases i with
      | zero => exact hnv t sz' xs' (by simpa using ht)
      | succ i => simp at hi)
    refine ⟨_, _, _, rfl, ?_, (hmv.mono fun t => sp_mine).trans (q2.mono fun t ht => by subst ht; simp [mine]), q1, rfl, rfl⟩
    have hrun := storeVar_run (P := P) (w := w) (t := t) (v := a.eval (.tmp u)) (blk := μ b) (off := off) (by rw [hn, cells_of_one h1]; rfl) (by rw [hcs]; exact q3) (by rw [hcs]; simpa using h1)
    rw [hcs] at hrun
    simp [execOp, ho, hxr, Instr.storeAt, Instr.sureAddr, hrun]
   ·simp at h
  ·simp at h
 ·rename_i b off v hno hx hy
  split at h
  ·rename_i cs hcs
   split at h
   ·rename_i hn
    split at h
    ·split at h
     ·rename_i hp hst hnv
      simp only [Option.some.injEq, Prod.mk.injEq] at h
      obtain ⟨rfl, rfl⟩ := h
      have hxr := ev_rep hs hx
      simp only [RepV, RepC] at hxr
      have hyr := evT_rep hs hy
      obtain ⟨r1, r2⟩ := V.cells_rep hcs hyr
      obtain ⟨q1, q2, q3⟩ := hs.storeCells (ncs := cs.map C.placed) (nvs := (a.eval y).cells.toList) hst r1.placed r2
       (by
        intro c hc i hi
        simp only [List.mem_map] at hc
        obtain ⟨c', hc', rfl⟩ := hc
        rw [C.placed_ids] at hi
        exact evT_ids hs hy i (V.cells_ids hcs c' hc' i hi))
       (by
        intro i z ys hi v hv
        simp only [List.getElem?_map, Option.map_eq_some_iff] at hi
        obtain ⟨c', hci, hc'⟩ := hi
        obtain ⟨u, hu, hru⟩ := r1.get hci
        rw [hv, Option.some.injEq] at hu
        subst hu
        exact (C.placed_capped hc' hru).spare _ _)
       (by
        intro t i sz' xs' z ys ht hi
        exact absurd ht (noView_spec hnv t (off + i) sz' xs'))
      refine ⟨_, _, _, rfl, ?_, q2.mono fun t ht => by subst ht; simp [mine], q1, rfl, rfl⟩
      have hl := r1.length
      have hrun := storeVar_run (P := P) (w := w) (t := t) (v := a.eval y) (blk := μ b) (off := off) (by rw [hn, hl]; simp) q3 r2
      simp [execOp, ho, hxr, Instr.storeAt, Instr.sureAddr, hrun]
     ·simp at h
    split at h
    ·rename_i hp hst
     simp only [Option.some.injEq, Prod.mk.injEq] at h
     obtain ⟨rfl, rfl⟩ := h
     have hxr := ev_rep hs hx
     simp only [RepV, RepC] at hxr
     have hyr := evT_rep hs hy
     obtain ⟨r1, r2⟩ := V.cells_rep hcs hyr
     obtain ⟨q1, q2, q3⟩ := hs.storeCells (ncs := cs.map C.plain) (nvs := (a.eval y).cells.toList) hst r1.plain r2
      (by
       intro c hc i hi
       simp only [List.mem_map] at hc
       obtain ⟨c', hc', rfl⟩ := hc
       rw [C.plain_ids] at hi
       exact evT_ids hs hy i (V.cells_ids hcs c' hc' i hi))
      (by
       intro i z ys hi
       simp only [List.getElem?_map, Option.map_eq_some_iff] at hi
       obtain ⟨c', _, hc'⟩ := hi
       cases c' <;> simp [C.plain] at hc')
      (by
       intro t i sz' xs' z ys _ hi
       simp only [List.getElem?_map, Option.map_eq_some_iff] at hi
       obtain ⟨c', _, hc'⟩ := hi
       cases c' <;> simp [C.plain] at hc')
     refine ⟨_, _, _, rfl, ?_, q2.mono fun t ht => by subst ht; simp [mine], q1, rfl, rfl⟩
     have hl := r1.length
     have hrun := storeVar_run (P := P) (w := w) (t := t) (v := a.eval y) (blk := μ b) (off := off) (by rw [hn, hl]; simp) q3 r2
     simp [execOp, ho, hxr, Instr.storeAt, Instr.sureAddr, hrun]
    ·simp at h
   ·simp at h
  ·simp at h
 ·simp at h
theorem good_undef {K : Col} {w : World} {dst : Option Nat} : Good K μ s a w dst (.c .undef) Go.undef := ⟨by simp [RepV, RepC], by simp [V.ids, C.ids], by simp, by simp⟩
theorem repCaps : ∀ caps : List Nat, RepCs K μ w (caps.map fun b => C.ptr b 0) (caps.map fun b => Value.pointer (some (ad (μ b) 0)))
 | [] => .nil
 | _ :: caps => .cons rfl (repCaps caps)
theorem argsT_rep (hs : Sim K μ s a w) : ∀ {l : List Operand} {ts : List TypeId} {cs : List C}, argsT P s.tmps l ts = some cs → RepCs K μ w cs (l.map a.eval)
 | [], _, cs, h => by simp only [argsT, Option.some.injEq] at h; subst h; exact .nil
 | x :: l, ts, cs, h => by
  simp only [argsT] at h
  split at h
  ·rename_i c cs' hc hcs
   simp only [Option.some.injEq] at h; subst h
   rw [Option.bind_eq_some_iff] at hc
   obtain ⟨vx, hvx, hax⟩ := hc
   exact .cons (argC_rep (evT_rep hs hvx) hax).1 (argsT_rep hs hcs)
  ·simp at h
theorem MV.of_rep {v : V} {m : MV} {u : Value} (h : MV.of v = some m) (hr : RepV K μ w v u) : RepC K μ w m.toC u ∧ ∀ b ∈ m.ids, b ∈ v.ids := by
 unfold MV.of at h
 split at h
 ·simp only [Option.some.injEq] at h; subst h
  exact ⟨hr, fun b hb => hb⟩
 ·simp only [Option.map_eq_some_iff] at h
  obtain ⟨d, hd, rfl⟩ := h
  exact ⟨V.toD_rep hd hr, by simp [MV.ids]⟩
theorem setM_ids {x : D} {m : MV} {Q : Nat → Prop} (hm : ∀ b ∈ m.ids, Q b) : ∀ {kvs kvs' : List (D × MV)}, setM x m kvs = some kvs' → (∀ y ∈ kvs, ∀ b ∈ y.2.ids, Q b) → ∀ y ∈ kvs', ∀ b ∈ y.2.ids, Q b
 | [], kvs', h, _ => by
  simp only [setM, Option.some.injEq] at h; subst h
  intro y hy; simp only [List.mem_singleton] at hy; subst hy; exact hm
 | (k, m') :: r, kvs', h, hq => by
  simp only [setM] at h
  split at h
  ·simp only [Option.some.injEq] at h; subst h
   intro y hy
   rcases List.mem_cons.1 hy with rfl | hy
   ·exact hm
   ·exact hq y (by simp [hy])
  ·simp only [Option.map_eq_some_iff] at h
   obtain ⟨r', h, rfl⟩ := h
   intro y hy
   rcases List.mem_cons.1 hy with rfl | hy
   ·exact hq _ (by simp)
   ·exact setM_ids hm h (fun y hy => hq y (by simp [hy])) y hy
  ·simp at h
theorem op_mapUpdate (hs : Sim K μ s a w) {o : Oper} {t : TypeId} {m k v : Operand} (ho : o.op = .mapUpdate t m k v ∨ o.op = .insert t m k v) {call : Call} {r : ORes} {ft : Foot} (h : evOp P call s.nid o s = some (r, ft)) :
  ∃ s' K' w', r = .val (.c .undef) s' ∧ (execOp a.eval o).run P w = .ok .skip w' ∧ Step mine K w K' w' ∧ Sim K' μ s' a w' ∧ s'.nid = s.nid ∧ s'.defers = s.defers := by
 obtain ⟨s1, b1, h', hr1⟩ : ∃ s1 b1, doMap P t m k v s = some (s1, b1) ∧ r = .val (.c .undef) s1 := by
  rcases ho with ho | ho <;> simp only [evOp, ho] at h <;> split at h <;> first
   | (simp only [Option.some.injEq, Prod.mk.injEq] at h; obtain ⟨rfl, _⟩ := h; exact ⟨_, _, by assumption, rfl⟩)
   | (simp at h; done)
 subst hr1
 unfold doMap at h'
 have hexec : ∀ {w' : World}, (Instr.mapUpdate t (a.eval m) (a.eval k) (a.eval v)).run P w = .ok () w' → (execOp a.eval o).run P w = .ok .skip w' := by
  intro w' hr
  rcases ho with ho | ho <;> simp [execOp, ho, hr]
 split at h'
 ·rename_i kt e b kd hmt hx hy
  obtain ⟨htt, d, hkt⟩ := mapT_some hmt
  have hxr := ev_rep hs hx
  simp only [RepV, RepC] at hxr
  obtain ⟨yv, hyv, hyd⟩ := Option.bind_eq_some_iff.1 hy
  have hyr := V.toD_rep hyd (ev_rep hs hyv)
  split at h'
  ·rename_i mv cs hkey hv hb
   split at h'
   ·rename_i kvs hm
    split at h'
    ·rename_i kvs' hset
     simp only [Option.some.injEq, Prod.mk.injEq] at h'
     obtain ⟨rfl, rfl⟩ := h'
     obtain ⟨vv, hvv, hmv⟩ := Option.bind_eq_some_iff.1 hv
     obtain ⟨hvr, hvi⟩ := MV.of_rep hmv (evT_rep hs hvv)
     have hik := isKey_of hkey hkt hyr
     obtain ⟨es, clk, hobj, hrep⟩ := (hs.heap b cs hb).2.2.map hm
     have hids : ∀ x ∈ kvs', ∀ i ∈ x.2.ids, i < s.nid := by
      refine setM_ids (fun i hi => evT_ids hs hvv i (hvi i hi)) hset ?_
      have := mapOf_some hm
      subst this
      intro y hy i hi
      exact (hs.heap b _ hb).2.1 (.ment kvs) (by simp) i (by simp only [C.ids, List.mem_flatMap]; exact ⟨y, hy, hi⟩)
     rcases setM_spec hyr hik hvr 0 hset hrep with ⟨g1, g2⟩ | ⟨j, en, g1, g2, g3, g4⟩
     ·obtain ⟨q1, q2⟩ := hs.storeMap (clk' := clk + 1) (es' := es.push { key := a.eval k, val := a.eval v, born := clk }) hb hm hobj (by simpa using g2 clk) hids
      refine ⟨_, _, _, rfl, hexec ?_, q2.mono fun t ht => by subst ht; simp [mine], q1, rfl, rfl⟩
      simp [Instr.mapUpdate, hxr, run_underlying htt, MapKept.run_getObj_map hobj, MapKept.run_checkKey hkt hik, MapKept.run_findKey hkt g1, MapKept.run_setObj_map _ hobj]
     ·have hj : es[j]? = some en := by simpa using g2
      obtain ⟨q1, q2⟩ := hs.storeMap (clk' := clk) (es' := es.modify j fun e => { e with key := a.eval k, val := a.eval v }) hb hm hobj (by
       rw [show (es.modify j fun e => { e with key := a.eval k, val := a.eval v }).toList = es.toList.set j { en with key := a.eval k, val := a.eval v } from by
        apply List.ext_getElem?
        intro i
        rw [Array.getElem?_toList, Array.getElem?_modify, List.getElem?_set]
        by_cases hij : j = i
        ·subst hij
         have hl : j < es.toList.length := (List.getElem?_eq_some_iff.1 g2).1
         simp only [if_true, hj, Option.map_some, hl]
        ·simp only [hij, if_false, Array.getElem?_toList]]
       exact g4) hids
      refine ⟨_, _, _, rfl, hexec ?_, q2.mono fun t ht => by subst ht; simp [mine], q1, rfl, rfl⟩
      simp [Instr.mapUpdate, hxr, run_underlying htt, MapKept.run_getObj_map hobj, MapKept.run_checkKey hkt hik, MapKept.run_findKey hkt g1, hj, g3, MapKept.run_keyThatStays hik, MapKept.run_setObj_map _ hobj]
    ·simp at h'
   ·simp at h'
  ·simp at h'
 ·simp at h'
theorem op_makeMap {o : Oper} {t : TypeId} (ho : o.op = .makeMap t none) (hs : Sim K μ s a w) (hd : ∀ t, o.dst = some t → t < a.tmps.size) (hnv : noView s.nid s.tmps = true) {next : Act → World → Prop} {Q : Exit → Act → World → Prop}
  (hb : Behind P K μ s a w o (.val (.c (.mp s.nid)) { s with heap := (s.nid, [.ment []]) :: s.heap, nid := s.nid + 1 }) next Q) : o.wp P a w next Q := by
 have hrun : (execOp a.eval o).run P w = .ok (.value (.map (some w.heap.size))) (w.alloc (.map #[] 0)) := by
  simp [execOp, ho, run_makeMap_plain]
 simp only [Oper.wp, hrun, Oper.upon_value]
 have hom := oneMore_alloc w (.map #[] 0)
 have hs1 : Sim (colNew K w.heap.size fun _ => .blk s.nid) μ s a (w.alloc (.map #[] 0)) :=
  hs.step (hom.step fun _ => .blk s.nid) (by simp) (by simp) (by simp) (hom.bound hs.bound _)
 have hs2 := hs1.addB (g := w.heap.size) (cs := [.ment []]) ⟨fun off => by rw [muSet_same]; simp [colNew], by rw [muSet_same]; simp, .inr ⟨[], rfl, #[], 0, by rw [muSet_same]; exact hom.new, rfl⟩⟩ (by simp [C.ids]) (noView_spec hnv)
 refine behind_val hb (hom.step fun _ => .blk s.nid).none_mine (fun b hb => muSet_other μ _ (by omega)) (by show s.nid ≤ s.nid + 1; omega) hs2 hd ⟨?_, ?_, by simp, by simp⟩
 ·simp only [RepV, RepC, muSet_same]
 ·intro b hb
  simp only [V.ids, C.ids, List.mem_singleton] at hb
  subst hb
  show s.nid < s.nid + 1
  omega
theorem op_sound {call : Call} (hcall : CallsOK P call) (hP : ProgOK P) (hs : Sim K μ s a w) {o : Oper} {r : ORes} {ft : Foot} (h : evOp P call s.nid o s = some (r, ft))
  (hd : ∀ t, o.dst = some t → t < a.tmps.size) {next : Act → World → Prop} {Q : Exit → Act → World → Prop} (hb : Behind P K μ s a w o r next Q) : o.wp P a w next Q := by
 have quiet : ∀ {V : V} {nb : Option (List C)}, evR P s.nid o s.tmps s.heap = some (V, nb) →
   (nb.isSome = true → noView s.nid s.tmps = true) → r = .val V (addNb nb s) → o.wp P a w next Q := by
  intro V nb h1 hnv h2
  subst h2
  exact op_quiet hs hd h1 hnv hb
 cases ho : o.op with
 | assign x =>
  obtain ⟨V, s', rfl, hdn⟩ := done_assign hs ho h
  exact op_doneS hd hdn hb
 | store t x y =>
  obtain ⟨s', K', w', rfl, hrun, hst, hs', hnid, _⟩ := op_store hs ho h
  simp only [Oper.wp, hrun, Oper.upon_skip]
  exact behind_val hb hst (fun _ _ => rfl) (by omega) hs' hd good_undef
 | defer c =>
  simp only [evOp, ho] at h
  split at h
  ·rename_i f hf hargs
   split at h
   ·rename_i g caps hx
    simp only [Option.some.injEq, Prod.mk.injEq] at h
    obtain ⟨rfl, rfl⟩ := h
    have hxr := ev_rep hs hx
    have hxi := ev_ids hs hx
    simp only [RepV, RepC] at hxr
    have hargs' : c.args = #[] := by apply Array.ext'; simpa using hargs
    have hrun : (execOp a.eval o).run P w = .ok (.defer (defOf μ (g, caps))) w := by
     simp [execOp, ho, resolve, hf, hargs', Deferred.ofValue, hxr, defOf]
    simp only [Oper.wp, hrun, Oper.upon_defer]
    have hs' : Sim K μ { s with defers := (g, caps) :: s.defers } { a with defers := defOf μ (g, caps) :: a.defers } w := by
     refine ⟨hs.tm, hs.tids, hs.own, ?_, hs.heap, hs.bound, by simp [hs.defs], ?_, hs.glob⟩
     ·intro t l sz xs ht
      have := hs.view t l sz xs ht
      cases l <;> exact this
     ·intro x hx b hb'
      rcases List.mem_cons.1 hx with rfl | hx
      ·exact hxi b (by simpa [V.ids, C.ids] using hb')
      ·exact hs.dids x hx b hb'
    refine hb.val _ _ K μ _ w rfl (After.refl _ _ _ _) (Nat.le_refl _) ?_ (by rw [put_size])
    exact hs'.put (dst := o.dst) hd good_undef
   ·simp at h
  ·simp at h
 | mapUpdate t m k v =>
  obtain ⟨s', K', w', rfl, hrun, hst, hs', hnid, _⟩ := op_mapUpdate hs (.inl ho) h
  simp only [Oper.wp, hrun, Oper.upon_skip]
  exact behind_val hb hst (fun _ _ => rfl) (by omega) hs' hd good_undef
 | insert t m k v =>
  obtain ⟨s', K', w', rfl, hrun, hst, hs', hnid, _⟩ := op_mapUpdate hs (.inr ho) h
  simp only [Oper.wp, hrun, Oper.upon_skip]
  exact behind_val hb hst (fun _ _ => rfl) (by omega) hs' hd good_undef
 | makeMap t res =>
  cases res with
  | none =>
   simp only [evOp, ho] at h
   split at h
   ·rename_i hnv
    simp only [Option.some.injEq, Prod.mk.injEq] at h
    obtain ⟨rfl, rfl⟩ := h
    exact op_makeMap ho hs hd hnv hb
   ·simp at h
  | some x => simp [evOp, ho, evR] at h
 | panic x =>
  simp only [evOp, ho] at h
  split at h
  ·rename_i t d hx
   simp only [Option.some.injEq, Prod.mk.injEq] at h
   obtain ⟨rfl, rfl⟩ := h
   rw [Option.bind_eq_some_iff] at hx
   obtain ⟨vx, hvx, hdx⟩ := hx
   have hr := V.toD_rep hdx (ev_rep hs hvx)
   have hr' := hr
   simp only [Rep] at hr
   obtain ⟨u, hu, _⟩ := hr
   have hrun : (execOp a.eval o).run P w = .halt (.panic (a.eval x)) w := by
    simp [execOp, ho, hu, Instr.panic]
   simp only [Oper.wp, hrun, Oper.upon_panic]
   exact hb.pan _ _ K μ w _ rfl (After.refl _ _ _ _) (Nat.le_refl _) hs hr'
  ·simp at h
 | call c =>
  simp only [evOp, ho] at h
  split at h
  ·rename_i hc
   split at h
   ·rename_i x y t u hargs hty
    split at h
    ·rename_i V s' hap
     simp only [Option.some.injEq, Prod.mk.injEq] at h
     obtain ⟨rfl, rfl⟩ := h
     exact op_doneS hd (op_append hs ho hc hargs hty hap) hb
    ·simp at h
   ·simp at h
  ·split at h
   ·rename_i V hev
    simp only [Option.some.injEq, Prod.mk.injEq] at h
    obtain ⟨rfl, rfl⟩ := h
    exact quiet hev (by simp) rfl
   ·simp at h
  ·rename_i f hc
   split at h
   ·rename_i g caps args hf hargs
    split at h
    ·rename_i r' ids hdc
     simp only [Option.some.injEq, Prod.mk.injEq] at h
     obtain ⟨rfl, rfl⟩ := h
     have hfr := ev_rep hs hf
     simp only [RepV, RepC] at hfr
     have hargr : RepCs K μ w args (c.args.toList.map a.eval) := argsT_rep hs hargs
     have happ : RepCs K μ w (args ++ caps.map fun b => .ptr b 0) (c.args.toList.map a.eval ++ caps.map fun b => Value.pointer (some (ad (μ b) 0))) := by
      have aux : ∀ {x y : List C} {p q : List Value}, RepCs K μ w x p → RepCs K μ w y q → RepCs K μ w (x ++ y) (p ++ q) := by
       intro x y p q h1 h2
       induction h1 with
       | nil => exact h2
       | cons q1 _ ih => exact .cons q1 ih
      refine aux hargr ?_
      exact repCaps caps
     have hcal := doCall_sound hcall hdc hs happ
     have hrun : (execOp a.eval o).run P w = .ok (.enter g ((c.args.toList.map a.eval ++ caps.map fun b => Value.pointer (some (ad (μ b) 0))).toArray)) w := by
      have he := callFunc_run hP (doCall_callee hcall hdc) (c.args.map a.eval ++ (caps.map fun b => Value.pointer (some (ad (μ b) 0))).toArray) w
      have e2 : (c.args.toList.map a.eval ++ caps.map fun b => Value.pointer (some (ad (μ b) 0))).toArray = c.args.map a.eval ++ (caps.map fun b => Value.pointer (some (ad (μ b) 0))).toArray := by
       apply Array.ext'; simp
      rw [e2]
      simp [execOp, ho, resolve, hc, Deferred.ofValue, hfr, invoke, he]
     simp only [Oper.wp, hrun, Oper.upon_enter]
     refine hcal.mono ?_
     rintro e w' ⟨K', μ', haf, hres⟩
     cases r' with
     | val v s' =>
      obtain ⟨h1, h2, h3, h4, _, u, rfl, h6⟩ := hres
      exact behind_val hb haf.step haf.mu h2 h1 hd ⟨h6, h4, fun sz xs e => absurd e (h3.1 sz xs), fun l sz xs e => absurd e (h3.2 l sz xs)⟩
     | pan d s' =>
      obtain ⟨h1, h2, _, u, rfl, h6⟩ := hres
      exact hb.pan d s' K' μ' w' u rfl haf h2 h1 h6
    ·simp at h
   ·simp at h
  ·simp at h
 | _ =>
  simp only [evOp, ho] at h
  split at h
  ·rename_i V hev
   simp only [Option.some.injEq, Prod.mk.injEq] at h
   obtain ⟨rfl, rfl⟩ := h
   exact quiet hev (by simp) rfl
  ·rename_i V cs hev
   split at h
   ·rename_i hnv
    simp only [Option.some.injEq, Prod.mk.injEq] at h
    obtain ⟨rfl, rfl⟩ := h
    exact quiet hev (fun _ => hnv) rfl
   ·simp at h
  ·simp at h
end
end Go.AM

namespace Go.AM
open Go
variable [Globs]
section
variable {P : Program} {K K' : Col} {μ μ' : Nat → Nat} {w w' : World} {s : St} {a : Act}
def Out (K : Col) (w : World) : AX → Exit → Prop
 | .normal, e => e = .normal
 | .exit id, e => e = .exit id
 | .ret, e => e = .ret
 | .pan d, e => ∃ u, e = .panic [⟨u, false, false⟩] ∧ Rep K w d u
def Goal (K : Col) (μ : Nat → Nat) (w : World) (n : Nat) (sz : Nat) (x : AX) (s' : St) (Q : Exit → Act → World → Prop) : Prop :=
 ∀ e K' μ' a' w', Out K' w' x e → After K μ w n K' μ' w' → n ≤ s'.nid → Sim K' μ' s' a' w' → a'.tmps.size = sz → Q e a' w'
theorem Goal.later {n m sz : Nat} {x : AX} {s' : St} {Q : Exit → Act → World → Prop} (h : Goal K μ w n sz x s' Q) (ha : After K μ w n K' μ' w') (hnm : n ≤ m) : Goal K' μ' w' m sz x s' Q :=
 fun e K'' μ'' a'' w'' ho ha' hn hs hsz => h e K'' μ'' a'' w'' ho (ha.trans ha' hnm) (by omega) hs hsz
theorem look_keepT : ∀ {ks : List Nat} {tm : List (Nat × V)} {t : Nat} {v : V}, look t (keepT ks tm) = some v →
  ∃ v', look t tm = some v' ∧ (v = v' ∨ ∃ l sz xs, v' = .view l sz xs ∧ v = .d (.list sz xs))
 | [], tm, t, v, h => by simp [keepT, look] at h
 | k :: ks, tm, t, v, h => by
  simp only [keepT] at h
  split at h
  ·rename_i l sz xs hk
   simp only [look] at h
   split at h
   ·rename_i hkt
    simp only [Option.some.injEq] at h; subst h; subst hkt
    exact ⟨_, hk, .inr ⟨l, sz, xs, rfl, rfl⟩⟩
   ·exact look_keepT h
  ·rename_i v' hno hk
   simp only [look] at h
   split at h
   ·rename_i hkt
    simp only [Option.some.injEq] at h; subst h; subst hkt
    exact ⟨_, hk, .inl rfl⟩
   ·exact look_keepT h
  ·exact look_keepT h
theorem Sim.keep (h : Sim K μ s a w) (ks : List Nat) : Sim K μ { s with tmps := keepT ks s.tmps } a w :=
 h.weaken fun _ _ ht => look_keepT ht
theorem look_filter {n b : Nat} : ∀ {hp : List (Nat × List C)} {cells : List C}, look b (hp.filter (·.1 < n)) = some cells → look b hp = some cells ∧ b < n
 | [], cells, h => by simp [look] at h
 | (j, c) :: r, cells, h => by
  by_cases hj : j < n
  ·simp only [List.filter_cons, hj, decide_true, if_true, look] at h ⊢
   split at h
   ·rename_i e; subst e
    simp only [if_true]; exact ⟨h, hj⟩
   ·rename_i e
    rw [if_neg e]; exact look_filter h
  ·simp only [List.filter_cons, hj, decide_false, Bool.false_eq_true, if_false] at h
   obtain ⟨h1, h2⟩ := look_filter h
   refine ⟨?_, h2⟩
   simp only [look]
   rw [if_neg (by omega)]; exact h1
theorem mem_of_look {α : Type} {k : Nat} {v : α} : ∀ {l : List (Nat × α)}, look k l = some v → (k, v) ∈ l
 | [], h => by simp [look] at h
 | (j, u) :: r, h => by
  simp only [look] at h
  split at h
  ·rename_i e; subst e; simp only [Option.some.injEq] at h; subst h; simp
  ·exact List.mem_cons_of_mem _ (mem_of_look h)
theorem C.below_ids {n : Nat} {c : C} (h : c.below n = true) : ∀ b ∈ c.ids, b < n := by
 simp only [C.below, List.all_eq_true, decide_eq_true_eq] at h
 exact h
theorem V.below_ids {n : Nat} {v : V} (h : v.below n = true) : ∀ b ∈ v.ids, b < n := by
 cases v with
 | c x => exact C.below_ids h
 | vagg cs =>
  simp only [V.below, List.all_eq_true] at h
  intro b hb
  simp only [V.ids, List.mem_flatMap] at hb
  obtain ⟨c, hc, hb⟩ := hb
  exact C.below_ids (h c hc) b hb
 | tuple cs =>
  simp only [V.below, List.all_eq_true] at h
  intro b hb
  simp only [V.ids, List.mem_flatMap] at hb
  obtain ⟨c, hc, hb⟩ := hb
  exact C.below_ids (h c hc) b hb
 | view l sz xs => simp [V.ids]
 | rptr cs => simp [V.ids]
theorem Sim.plainCellH (h : Sim K μ s a w) (b off : Nat) : Sim K μ { s with heap := AM.plainCellH b off s.heap } a w := by
 unfold AM.plainCellH
 split
 ·rename_i cells hb
  split
  ·rename_i sz xs hc
   have hm : mapOf cells = none := by
    cases hq : mapOf cells with
    | none => rfl
    | some kvs =>
     have := mapOf_some hq
     subst this
     cases off <;> simp at hc
   obtain ⟨v, hv, _, _, hr, _⟩ := (h.heap b cells hb).2.2.cells hm off _ (by rw [flatC_own' hc]; exact hc)
   exact h.plainCell hb hm (flatC_own' hc) v hv hr
  ·exact h
 ·exact h
theorem Sim.demT : ∀ (ks : List Nat) {s : St}, Sim K μ s a w → Sim K μ { s with tmps := AM.demT ks s.tmps } a w
 | [], _, h => h
 | k :: r, s, h => by
  simp only [AM.demT]
  split
  ·exact Sim.demT r (h.plainAt (k - 5000000))
  ·exact Sim.demT r h
theorem Sim.demH : ∀ (ks : List Nat) {s : St}, Sim K μ s a w → Sim K μ { s with heap := AM.demH ks s.heap } a w
 | [], _, h => h
 | k :: r, s, h => by
  simp only [AM.demH]
  split
  ·exact Sim.demH r (h.plainCellH _ _)
  ·exact Sim.demH r h
theorem Sim.clean (h : Sim K μ s a w) {ks : List Nat} {n : Nat} {s' : St} (hc : cleanAt ks n s = some s') : Sim K μ s' a w ∧ s'.nid = n ∧ s'.defers = s.defers := by
 unfold cleanAt at hc
 simp only at hc
 split at hc
 ·rename_i hall
  simp only [Bool.and_eq_true, List.all_eq_true] at hall
  obtain ⟨⟨h1, h2⟩, h3⟩ := hall
  simp only [Option.some.injEq] at hc; subst hc
  have hd := Sim.demH ks (Sim.demT ks h)
  have hk := hd.keep ks
  refine ⟨⟨hk.tm, ?_, hk.own, ?_, ?_, hk.bound, hk.defs, ?_, hk.glob⟩, rfl, rfl⟩
  ·intro t v ht
   exact V.below_ids (h1 _ (mem_of_look ht))
  ·intro t l sz xs ht
   have := hk.view t l sz xs ht
   cases l with
   | tmp u => exact this
   | cell b off =>
    intro cells z ys hb hcc
    exact this cells z ys (look_filter hb).1 hcc
  ·intro b cells hb
   obtain ⟨hb1, hb2⟩ := look_filter hb
   refine ⟨hb2, ?_, (hd.heap b cells hb1).2.2⟩
   intro c hc
   exact C.below_ids (h2 _ (mem_of_look hb) c hc)
  ·intro x hx b hb
   have := h3 x hx b hb
   simpa using this
 ·simp at hc
theorem allD_map : ∀ ds : List D, allD (ds.map C.d) = some ds
 | [] => rfl
 | d :: ds => by simp only [List.map_cons, allD, C.toD, allD_map ds]
theorem flatD_rep {K' : Col} {g sz : Nat} : ∀ {off : Nat} {ds : List D}, (∀ d ∈ ds, d.cells.length = sz) →
  (∀ i c, (flatD ds)[i]? = some c → ∃ v, w.cell? (ad g (off + i)) = some v ∧ isOne v = true ∧ RepC K' μ w c v) → (∀ i, K' g i = .ro) →
  RepE K' w sz g off ds
 | off, [], _, _, _ => by simp only [RepE]
 | off, d :: ds, hl, hc, hk => by
  have hd := hl d (by simp)
  have ih := flatD_rep (off := off + sz) (ds := ds) (fun d hd => hl d (by simp [hd])) (fun i c hi => by
   rw [show off + sz + i = off + (sz + i) from by omega]
   refine hc _ c ?_
   rw [flatD_cons, List.getElem?_append_right (by simp; omega)]
   simpa [hd] using hi) hk
  have hvs : ∃ vs : List Value, vs.length = sz ∧ RepCs K' μ w (d.cells.map C.d) vs ∧ (∀ x ∈ vs, isOne x = true) ∧ ∀ i v, vs[i]? = some v → w.cell? (ad g (off + i)) = some v := by
   have hc' : ∀ i, i < sz → ∃ c v, (d.cells.map C.d)[i]? = some c ∧ w.cell? (ad g (off + i)) = some v ∧ isOne v = true ∧ RepC K' μ w c v := by
    intro i hi
    have hlt : i < (d.cells.map C.d).length := by simp; omega
    obtain ⟨v, h1, h2, h3⟩ := hc i (d.cells.map C.d)[i] (by rw [flatD_cons, List.getElem?_append_left hlt, List.getElem?_eq_getElem hlt])
    exact ⟨_, v, List.getElem?_eq_getElem hlt, h1, h2, h3⟩
   have hget : ∀ i, i < sz → ((List.range sz).map fun i => (w.cell? (ad g (off + i))).getD Go.undef)[i]? = some ((w.cell? (ad g (off + i))).getD Go.undef) := fun i hi => by
    simp [List.getElem?_map, List.getElem?_range hi]
   have hlt : ∀ i v, ((List.range sz).map fun i => (w.cell? (ad g (off + i))).getD Go.undef)[i]? = some v → i < sz := fun i v hv => by
    have := (List.getElem?_eq_some_iff.1 hv).1; simpa using this
   refine ⟨(List.range sz).map fun i => (w.cell? (ad g (off + i))).getD Go.undef, by simp, ?_, ?_, ?_⟩
   ·refine RepCs.of_get (by simp [hd]) fun i c v hi hv => ?_
    have hisz := hlt i v hv
    obtain ⟨c', v', h1, h2, _, h4⟩ := hc' i hisz
    rw [hi, Option.some.injEq] at h1; subst h1
    rw [hget i hisz, h2, Option.getD_some, Option.some.injEq] at hv
    subst hv; exact h4
   ·intro x hx
    obtain ⟨i, hi⟩ := List.getElem?_of_mem hx
    have hisz := hlt i x hi
    obtain ⟨c', v', h1, h2, h3, h4⟩ := hc' i hisz
    rw [hget i hisz, h2, Option.getD_some, Option.some.injEq] at hi
    subst hi; exact h3
   ·intro i v hv
    have hisz := hlt i v hv
    obtain ⟨c', v', h1, h2, h3, h4⟩ := hc' i hisz
    rw [hget i hisz, h2, Option.getD_some, Option.some.injEq] at hv
    subst hv; exact h2
  obtain ⟨vs, hvl, hrs, hone, hcell⟩ := hvs
  have hL := allD_rep (allD_map d.cells) hrs hone
  simp only [RepE]
  refine ⟨?_, ih⟩
  have mk : ∀ v : Value, Rep K' w d v → v.cells.toList = vs → ∃ v, Rep K' w d v ∧ v.cells.size = sz ∧ CellsAt K' w g off v.cells.toList := by
   intro v h1 h2
   refine ⟨v, h1, by rw [← Array.length_toList, h2]; exact hvl, ?_⟩
   rw [h2]
   intro i u hu
   exact ⟨hk _, hcell i u hu⟩
  cases d with
  | agg cs =>
   exact mk (.agg vs.toArray) (by simp only [Rep]; exact ⟨vs, rfl, hL⟩) (by simp [Value.cells])
  | _ =>
   simp only [D.cells, RepL] at hL
   obtain ⟨v, r, rfl, ho, hr, rfl⟩ := hL
   exact mk v hr (by rw [cells_of_one ho])
theorem look_filter_ne {b j : Nat} {hp : List (Nat × List C)} {cells : List C} : look j (hp.filter (·.1 != b)) = some cells → look j hp = some cells ∧ j ≠ b := by
 induction hp with
 | nil => intro h; simp [look] at h
 | cons x r ih =>
  obtain ⟨i, c⟩ := x
  intro h
  by_cases hi : i = b
  ·subst hi
   simp only [List.filter_cons, bne_self_eq_false, Bool.false_eq_true, if_false] at h
   obtain ⟨h1, h2⟩ := ih h
   refine ⟨?_, h2⟩
   simp only [look]
   rw [if_neg (fun e => h2 e.symm)]; exact h1
  ·have : (i != b) = true := by simpa using hi
   simp only [List.filter_cons, this, if_true, look] at h ⊢
   split at h
   ·rename_i e; subst e
    simp only [if_true]; exact ⟨h, hi⟩
   ·rename_i e
    rw [if_neg e]; exact ih h
theorem Sim.heapFilter (h : Sim K μ s a w) (b : Nat) : Sim K μ { s with heap := s.heap.filter (·.1 != b) } a w := by
 refine ⟨h.tm, h.tids, h.own, ?_, ?_, h.bound, h.defs, h.dids, h.glob⟩
 ·intro t l sz xs ht
  have := h.view t l sz xs ht
  cases l with
  | tmp u => exact this
  | cell b' off =>
   intro cells z ys hb hcc
   exact this cells z ys (look_filter_ne hb).1 hcc
 ·intro b' cells hb
  exact h.heap b' cells (look_filter_ne hb).1
theorem put_same (a : Act) {t : Nat} (h : t < a.tmps.size) : a.put (some t) (a.tmps.getD t Go.undef) = a := by
 obtain ⟨tmps, df⟩ := a
 simp only [Act.put, Act.mk.injEq, and_true]
 simp only at h
 apply Array.ext
 ·simp
 ·intro i h1 h2
  simp only [Array.getElem_setIfInBounds h2]
  split
  ·rename_i e; subst e; simp [Array.getD, h2]
  ·rfl
theorem frzT_sound (h : Sim K μ s a w) {t : Nat} {s' : St} (e : frzT t s = some s') :
  ∃ K', Step mine K w K' w ∧ s'.nid = s.nid ∧ s'.defers = s.defers ∧ Sim K' μ s' a w := by
 unfold frzT at e
 split at e
 ·rename_i b n sz ht
  split at e
  ·rename_i sz' ds hbl
   split at e
   ·rename_i hc
    obtain ⟨rfl, hlen⟩ := hc
    simp only [Option.some.injEq] at e; subst e
    obtain ⟨hlt, hrv⟩ := h.tm t _ ht
    simp only [RepV, RepC] at hrv
    obtain ⟨hbn, _, hblk⟩ := h.heap b _ hbl
    obtain ⟨htag, hsz, _⟩ := id hblk
    obtain ⟨hcells, hok⟩ := hblk.seq
    let K' : Col := fun blk off => if blk = μ b then .ro else K blk off
    have hst : Step (fun q => q = .blk b) K w K' w := by
     refine ⟨rfl, rfl, rfl, Nat.le_refl _, fun _ _ _ => rfl, fun blk off hl hn => ⟨rfl, rfl, ?_⟩⟩
     show (if blk = μ b then Tag.ro else K blk off) = K blk off
     split
     ·rename_i e; subst e; exact absurd (htag off) hn
     ·rfl
    have h1 := (h.heapFilter b).step (K' := K') (w' := w) hst (by simp) (fun b' cells' hb' e => (look_filter_ne hb').2 (by simpa using e)) (fun l _ e => by simp at e) (fun blk off hl => by
     show (if blk = μ b then Tag.ro else K blk off) = .other
     rw [if_neg (by omega)]; exact h.bound blk off hl)
    have hg := flatD_rep (K' := K') (w := w) (μ := μ) (g := μ b) (off := 0) hok.2 (fun i c hi => by
     obtain ⟨v, hv, hv1, _, hv3, _⟩ := hcells i c hi
     rw [Nat.zero_add]
     exact ⟨v, hv, hv1, hv3.step hst (by simp)⟩) (fun i => by show (if μ b = μ b then Tag.ro else _) = .ro; rw [if_pos rfl])
    have hp := h1.put (dst := some t) (V := .c (.own sz' ds)) (v := a.tmps.getD t Go.undef) (by intro t' e; simp only [Option.some.injEq] at e; subst e; exact hlt) ⟨?_, by simp [V.ids, C.ids], ?_, by simp⟩
    ·rw [put_same a hlt] at hp
     exact ⟨K', hst.mono (by rintro q rfl; simp [mine]), rfl, rfl, hp⟩
    ·rw [hrv]
     simp only [RepV, RepC, Rep]
     exact .inr ⟨μ b, 0, n, by rw [hlen], by omega, hg⟩
    ·rintro sz2 xs' e' t' e2
     rw [hrv]
     exact .inr ⟨μ b, 0, n, n, rfl, Nat.le_refl _, fun j h1 h2 => by simp only [V.c.injEq, C.own.injEq] at e'; obtain ⟨rfl, _⟩ := e'; omega⟩
   ·simp at e
  ·simp at e
 ·simp at e
theorem frz_sound : ∀ {ks : List Nat} {K : Col} {s s' : St}, Sim K μ s a w → frz ks s = some s' → ∃ K', Step mine K w K' w ∧ s'.nid = s.nid ∧ s'.defers = s.defers ∧ Sim K' μ s' a w
 | [], K, s, s', h, e => by
  simp only [frz, Option.some.injEq] at e; subst e
  exact ⟨K, Step.refl _ _ _, rfl, rfl, h⟩
 | k :: r, K, s, s', h, e => by
  simp only [frz] at e
  split at e
  ·split at e
   ·rename_i s1 h1
    obtain ⟨K1, a1, a2, a3, a4⟩ := frzT_sound h h1
    obtain ⟨K2, b1, b2, b3, b4⟩ := frz_sound a4 e
    exact ⟨K2, a1.trans b1, b2.trans a2, b3.trans a3, b4⟩
   ·simp at e
  ·exact frz_sound h e
theorem wanted_eq (hs : Sim K μ s a w) {ops : Array Oper} {o : Oper} {b : Bool} (h : wantedAt ops s.tmps o = some b) : Region.wanted o (yielded ops a.tmps) = b := by
 unfold wantedAt at h
 unfold Region.wanted
 split at h
 ·rename_i hg; simp only [Option.some.injEq] at h; subst h; simp [hg]
 ·rename_i j want hg
  simp only [hg]
  split at h
  ·rename_i q hq
   split at h
   ·rename_i d hd
    have key : ∀ {v : V}, look d s.tmps = some v → a.tmps[d]? = some (a.tmps.getD d Go.undef) := by
     intro v hv
     have := (hs.tm d v hv).1
     simp [Array.getD, this]
    split at h
    ·rename_i b' hl
     simp only [Option.some.injEq] at h; subst h
     have hr := (hs.tm d _ hl).2
     simp only [RepV, RepC, Rep] at hr
     simp only [yielded, hq, Option.bind_some, hd, key hl, hr]
     simp
    ·rename_i hl
     simp only [Option.some.injEq] at h; subst h
     have hr := (hs.tm d _ hl).2
     simp only [RepV, RepC] at hr
     have hk : a.tmps[d]? = some Go.undef := by rw [key hl, hr]
     simp only [yielded, hq, Option.bind_some, hd, hk]
     rfl
    ·simp at h
   ·simp at h
  ·simp at h
theorem evOps_sound {call : Call} (hcall : CallsOK P call) (hP : ProgOK P) {ops : Array Oper} {sz : Nat} (hd : ∀ o ∈ ops.toList, ∀ t, o.dst = some t → t < sz) {x : AX} {s' : St} {fs' : List Foot}
  {Q : Exit → Act → World → Prop} : ∀ (l : List Oper) (i : Nat) (K : Col) (μ : Nat → Nat) (s : St) (a : Act) (w : World) (fs : List Foot), ops.toList.drop i = l → evOps P call ops l s fs = some (x, s', fs') →
   Sim K μ s a w → a.tmps.size = sz → Goal K μ w s.nid sz x s' Q → wpOps P ops Q (List.range' i l.length) a w
 | [], i, K, μ, s, a, w, fs, _, h, hs, hsz, hg => by
  simp only [evOps, Option.some.injEq, Prod.mk.injEq] at h
  obtain ⟨rfl, rfl, rfl⟩ := h
  exact hg .normal K μ a w rfl (After.refl _ _ _ _) (Nat.le_refl _) hs hsz
 | o :: l, i, K, μ, s, a, w, fs, hl, h, hs, hsz, hg => by
  have hoi : ops[i]? = some o := by
   have : (ops.toList.drop i)[0]? = some o := by rw [hl]; rfl
   rw [get_drop] at this
   simpa using this
  have hl' : ops.toList.drop (i + 1) = l := by
   rw [← List.drop_drop, hl]; rfl
  have hom : o ∈ ops.toList := by
   have : o ∈ ops.toList.drop i := by rw [hl]; simp
   exact List.mem_of_mem_drop this
  have hdo : ∀ t, o.dst = some t → t < a.tmps.size := by rw [hsz]; exact hd o hom
  simp only [List.length_cons, List.range'_succ, wpOps, hoi]
  simp only [evOps] at h
  split at h
  ·simp at h
  ·rename_i hw
   rw [wanted_eq hs hw]
   simp only [Bool.false_eq_true, if_false]
   have hs' := hs.put (dst := o.dst) (V := .c .undef) (v := Go.undef) hdo good_undef
   have hn : (putDst o (.c .undef) s).nid = s.nid := by unfold putDst putSt; cases o.dst <;> rfl
   exact evOps_sound hcall hP hd l (i + 1) K μ _ _ w _ hl' h hs' (by rw [put_size]; exact hsz) (by rw [hn]; exact hg)
  ·rename_i hw
   rw [wanted_eq hs hw]
   simp only [if_true]
   split at h
   ·simp at h
   ·rename_i d s1 f hop
    simp only [Option.some.injEq, Prod.mk.injEq] at h
    obtain ⟨rfl, rfl, rfl⟩ := h
    refine .inl (op_sound hcall hP hs hop hdo ⟨by simp, ?_⟩)
    intro d' s'' K' μ' w' u e haf hn hs' hr
    simp only [ORes.pan.injEq] at e
    obtain ⟨rfl, rfl⟩ := e
    exact hg _ K' μ' a w' ⟨u, rfl, hr⟩ haf hn hs' hsz
   ·rename_i v s1 f hop
    refine .inl (op_sound hcall hP hs hop hdo ⟨?_, by simp⟩)
    intro V s'' K' μ' a' w' e haf hn hs' hsz'
    simp only [ORes.val.injEq] at e
    obtain ⟨rfl, rfl⟩ := e
    have hn' : (putDst o v s1).nid = s1.nid := by unfold putDst putSt; cases o.dst <;> rfl
    exact evOps_sound hcall hP hd l (i + 1) K' μ' _ a' w' _ hl' h hs' (by rw [hsz', hsz]) (by rw [hn']; exact hg.later haf hn)
end
end Go.AM

namespace Go.AM
open Go
variable [Globs]
def same (s t : St) : Lc → Prop
 | .tmp x => look x s.tmps = look x t.tmps
 | .blk b => look b s.heap = look b t.heap
 | .nid => s.nid = t.nid
 | .defs => s.defers = t.defers
 | .vb b => ∀ x off sz xs, look x s.tmps = some (.view (.cell b off) sz xs) ↔ look x t.tmps = some (.view (.cell b off) sz xs)
 | .vt u => ∀ x sz xs, look x s.tmps = some (.view (.tmp u) sz xs) ↔ look x t.tmps = some (.view (.tmp u) sz xs)
theorem same.refl (s : St) (l : Lc) : same s s l := by cases l <;> simp [same]
theorem same.symm {s t : St} {l : Lc} (h : same s t l) : same t s l := by
 cases l <;> simp only [same] at h ⊢
 case vb => exact fun x off sz xs => (h x off sz xs).symm
 case vt => exact fun x sz xs => (h x sz xs).symm
 all_goals exact h.symm
theorem same.trans {s t u : St} {l : Lc} (h : same s t l) (k : same t u l) : same s u l := by
 cases l <;> simp only [same] at h k ⊢
 case vb => exact fun x off sz xs => (h x off sz xs).trans (k x off sz xs)
 case vt => exact fun x sz xs => (h x sz xs).trans (k x sz xs)
 all_goals exact h.trans k
theorem Sim.same {K : Col} {μ : Nat → Nat} {w : World} {s t : St} {a : Act} (h : Sim K μ s a w) (hs : ∀ l, same s t l) : Sim K μ t a w := by
 have htm : ∀ x, look x s.tmps = look x t.tmps := fun x => hs (.tmp x)
 have hhp : ∀ b, look b s.heap = look b t.heap := fun b => hs (.blk b)
 have hn : s.nid = t.nid := hs .nid
 have hd : s.defers = t.defers := hs .defs
 refine ⟨?_, ?_, ?_, ?_, ?_, h.bound, by rw [← hd]; exact h.defs, by rw [← hd, ← hn]; exact h.dids, h.glob⟩
 ·intro x V hx; exact h.tm x V (by rw [htm]; exact hx)
 ·intro x V hx; rw [← hn]; exact h.tids x V (by rw [htm]; exact hx)
 ·intro x sz xs hx; exact h.own x sz xs (by rw [htm]; exact hx)
 ·intro x l sz xs hx
  have := h.view x l sz xs (by rw [htm]; exact hx)
  cases l with
  | tmp u => intro z ys hu; exact this z ys (by rw [htm]; exact hu)
  | cell b off => intro cells z ys hb hc; exact this cells z ys (by rw [hhp]; exact hb) hc
 ·intro b cells hb; rw [← hn]; exact h.heap b cells (by rw [hhp]; exact hb)
section
variable {P : Program}
theorem evT_congr {tm tm' : List (Nat × V)} {x : Operand} (h : ev tm x = ev tm' x) (t : TypeId) : evT P t tm x = evT P t tm' x := by
 simp only [evT, h]
theorem buildC_congr {tm tm' : List (Nat × V)} {t : TypeId} : ∀ {ps : List (Nat × Operand)} {cs : List C}, (∀ p ∈ ps, ev tm p.2 = ev tm' p.2) → buildC P t tm ps cs = buildC P t tm' ps cs
 | [], cs, _ => rfl
 | (i, o) :: r, cs, h => by
  have ih : ∀ cs, buildC P t tm r cs = buildC P t tm' r cs := fun cs => buildC_congr fun p hp => h p (by simp [hp])
  have ho : ev tm o = ev tm' o := h (i, o) (by simp)
  simp only [buildC, evT_congr ho, ih]
theorem elemsC_congr {tm tm' : List (Nat × V)} {e : TypeId} {sz : Nat} : ∀ {ps : List (Nat × Operand)} {n : Nat}, (∀ p ∈ ps, ev tm p.2 = ev tm' p.2) → elemsC P e sz tm n ps = elemsC P e sz tm' n ps
 | [], n, _ => rfl
 | (i, o) :: r, n, h => by
  have ih : elemsC P e sz tm (n + 1) r = elemsC P e sz tm' (n + 1) r := elemsC_congr fun p hp => h p (by simp [hp])
  have ho : ev tm o = ev tm' o := h (i, o) (by simp)
  simp only [elemsC, evT_congr ho, ih]
theorem mapM?_congr {α β : Type} {f g : α → Option β} : ∀ {l : List α}, (∀ x ∈ l, f x = g x) → mapM? f l = mapM? g l
 | [], _ => rfl
 | x :: r, h => by
  have ih : mapM? f r = mapM? g r := mapM?_congr fun y hy => h y (by simp [hy])
  simp only [mapM?, h x (by simp), ih]
theorem optNat_congr {tm tm' : List (Nat × V)} {o : Option Operand} {n : Nat} (h : ∀ x, o = some x → ev tm x = ev tm' x) : optNat tm o n = optNat tm' o n := by
 cases o with
 | none => rfl
 | some x => simp only [optNat]; rw [h x rfl]
theorem evR_congr {o : Oper} {tm tm' : List (Nat × V)} {hp hp' : List (Nat × List C)} {id id' : Nat} (hb : makesBlk o = false) (h : ∀ x ∈ o.op.operands.toList, ev tm x = ev tm' x)
  (hh : ∀ b ∈ readsBlk o tm, look b hp = look b hp') : evR P id o tm hp = evR P id' o tm' hp' := by
 unfold evR
 cases ho : o.op with
 | move x => simp only [evT_congr (P := P) (h x (by simp [ho, Op.operands]))]
 | pick c x y => simp only [h c (by simp [ho, Op.operands]), evT_congr (P := P) (h x (by simp [ho, Op.operands])), evT_congr (P := P) (h y (by simp [ho, Op.operands]))]
 | alloc t => simp [makesBlk, ho] at hb
 | box t x => simp [makesBlk, ho] at hb
 | build t parts =>
  have hb : ∀ cs, buildC P t tm parts.toList cs = buildC P t tm' parts.toList cs := fun cs => buildC_congr fun p hp =>
   h p.2 (by simp only [ho, Op.operands, Array.toList_map, List.mem_map]; exact ⟨p, hp, rfl⟩)
  simp only [hb]
 | buildSlice t len parts =>
  have hb : ∀ e n, elemsC P e n tm 0 parts.toList = elemsC P e n tm' 0 parts.toList := fun e n => elemsC_congr fun p hp =>
   h p.2 (by simp only [ho, Op.operands, Array.toList_map, List.mem_map]; exact ⟨p, hp, rfl⟩)
  simp only [hb]
 | load t x =>
  simp only
  have hx := h x (by simp [ho, Op.operands])
  simp only [readsBlk, ho] at hh
  rw [← hx]
  split
  ·rename_i b off he
   rw [he] at hh
   have := hh b (by simp)
   simp only [lookC, this]
  ·rfl
  ·rfl
 | nilCheck x => simp only [h x (by simp [ho, Op.operands])]
 | binOp op t x y u => simp only [evT_congr (P := P) (h x (by simp [ho, Op.operands])), evT_congr (P := P) (h y (by simp [ho, Op.operands]))]
 | unOp op t x => simp only [h x (by simp [ho, Op.operands])]
 | convert src dst x => simp only [evT_congr (P := P) (h x (by simp [ho, Op.operands]))]
 | makeInterface t x => simp only [evT_congr (P := P) (h x (by simp [ho, Op.operands]))]
 | makeFunc fn first captured =>
  have hb : mapM? (fun x => match ev tm x with | some (.c (.ptr b 0)) => some b | _ => none) captured.toList = mapM? (fun x => match ev tm' x with | some (.c (.ptr b 0)) => some b | _ => none) captured.toList := by
   refine mapM?_congr fun x hx => ?_
   rw [h x (by simp only [ho, Op.operands, Array.toList_append, List.mem_append]; exact .inr hx)]
  cases fn with
  | func f =>
   simp only
   split
   ·exact congrArg (fun r : Option (List Nat) => (match r with | some ids => some (V.c (.fn f ids), none) | none => none : Option (V × Option (List C)))) hb
   ·rfl
  | _ => rfl
 | makeSlice t l c =>
  have hsame : sameTmp l c = false := by simpa [makesBlk, ho] using hb
  simp only [h l (by simp [ho, Op.operands]), h c (by simp [ho, Op.operands]), hsame, Bool.false_eq_true, if_false]
 | slice t x lo hi mx =>
  have h1 : evT P t tm x = evT P t tm' x := evT_congr (h x (by simp [ho, Op.operands])) t
  have h2 : ∀ n, optNat tm lo n = optNat tm' lo n := fun n => optNat_congr fun y hy => h y (by simp [ho, Op.operands, hy])
  have h3 : ∀ n, optNat tm hi n = optNat tm' hi n := fun n => optNat_congr fun y hy => h y (by simp [ho, Op.operands, hy])
  have h4 : ∀ m, mx = some m → optNat tm (some m) 0 = optNat tm' (some m) 0 := fun m hm => optNat_congr fun y hy => h y (by simp only [Option.some.injEq] at hy; subst hy; simp [ho, Op.operands, hm])
  simp only [h1, h2, h3]
  cases evT P t tm' x with
  | none => rfl
  | some a =>
   simp only
   cases lenV P t a with
   | none => rfl
   | some n =>
    simp only
    cases optNat tm' lo 0 with
    | none => rfl
    | some l =>
     cases optNat tm' hi n with
     | none => rfl
     | some r =>
      cases mx with
      | none => rfl
      | some m => simp only [h4 m rfl]
 | fieldAddr t x i => simp only [h x (by simp [ho, Op.operands])]
 | field t x i => simp only [h x (by simp [ho, Op.operands])]
 | indexAddr t x i => simp only [h x (by simp [ho, Op.operands]), h i (by simp [ho, Op.operands])]
 | index t x i => simp only [h x (by simp [ho, Op.operands]), h i (by simp [ho, Op.operands])]
 | typeAssert x u t ok => simp only [h x (by simp [ho, Op.operands])]
 | lookup t x y ok =>
  simp only
  have hx := h x (by simp [ho, Op.operands])
  have hy := h y (by simp [ho, Op.operands])
  simp only [readsBlk, ho] at hh
  rw [← hx, ← hy]
  split
  ·rename_i kt e b kd _ he _
   rw [he] at hh
   rw [hh b (by simp)]
  ·rfl
  ·rfl
 | extract x i => simp only [h x (by simp [ho, Op.operands])]
 | call c =>
  have ha : ∀ x ∈ c.args.toList, ev tm x = ev tm' x := fun x hx => h x (by simp [ho, Op.operands, Call.operands]; exact .inr (by simpa using hx))
  simp only
  split
  ·split
   ·rename_i x t he _
    rw [ha x (by rw [he]; simp)]
   ·rfl
  ·split
   ·rename_i x y he
    rw [ha x (by rw [he]; simp), ha y (by rw [he]; simp)]
   ·rfl
  ·split
   ·rename_i x y he
    rw [ha x (by rw [he]; simp), ha y (by rw [he]; simp)]
   ·rfl
  ·rfl
 | _ => rfl
end
end Go.AM

namespace Go.AM
open Go
variable [Globs]
section
variable {P : Program} {call : Call} {ops : Array Oper} {vs : List Nat} {S S' t : St} {o : Oper} {id : Nat}
theorem putD_local {dst : Option Nat} {v : V} (h : putD dst v S = some S') (hs : ∀ l ∈ dstLc dst v, same S t l) :
  ∃ t', putD dst v t = some t' ∧ (∀ l, same S t l → same S' t' l) ∧ (∀ l, l ∉ dstLc dst v → same t t' l) := by
 cases dst with
 | none =>
  simp only [putD, Option.some.injEq] at h; subst h
  exact ⟨t, rfl, fun _ h => h, fun l _ => same.refl t l⟩
 | some d =>
  simp only [putD] at h
  split at h
  ·rename_i hf
   simp only [Option.some.injEq] at h; subst h
   have hd : look d S.tmps = look d t.tmps := hs (.tmp d) (by simp [dstLc])
   have hft : freeAt d v t.tmps = true := by
    unfold freeAt at hf ⊢
    simp only [Bool.and_eq_true] at hf ⊢
    refine ⟨by rw [← hd]; exact hf.1, ?_⟩
    cases ho : v.isOwn with
    | false => rfl
    | true =>
     have h2 := hf.2
     simp only [ho, Bool.not_true, Bool.false_or] at h2 ⊢
     have hvt : same S t (.vt d) := hs _ (by
      cases v with
      | c x => cases x <;> simp [V.isOwn] at ho; simp [dstLc]
      | _ => simp [V.isOwn] at ho)
     simp only [List.all_eq_true] at h2 ⊢
     intro x hx
     cases hl : look x.1 t.tmps with
     | none => rfl
     | some u =>
      cases u with
      | view l sz xs =>
       cases l with
       | cell b off => rfl
       | tmp k =>
        by_cases hk : k = d
        ·subst hk
         have hS := (hvt x.1 sz xs).2 hl
         have := h2 _ (mem_of_look hS)
         simp only [hS, beq_self_eq_true, Bool.not_true] at this
         simp at this
        ·simp [hk]
      | _ => rfl
   refine ⟨{ t with tmps := (d, v) :: t.tmps }, by simp only [putD, hft, if_true], ?_, ?_⟩
   ·intro l hl
    cases l with
    | tmp x =>
     simp only [same, look] at hl ⊢
     by_cases hx : d = x <;> simp [hx, hl]
    | vb b =>
     simp only [same, look] at hl ⊢
     intro x off sz xs
     by_cases hx : d = x <;> simp [hx, hl]
    | vt u =>
     simp only [same, look] at hl ⊢
     intro x sz xs
     by_cases hx : d = x <;> simp [hx, hl]
    | _ => exact hl
   ·have hnv : ∀ l sz xs, look d t.tmps ≠ some (.view l sz xs) := by
     intro l sz xs e
     simp [freeAt, e] at hft
    intro l hl
    cases l with
    | tmp x =>
     have hx : d ≠ x := by rintro rfl; simp [dstLc] at hl
     simp [same, look, hx]
    | vb b =>
     simp only [same, look]
     intro x off sz xs
     by_cases hx : d = x
     ·subst hx
      simp only [if_true, Option.some.injEq]
      constructor
      ·intro e; exact absurd e (hnv _ _ _)
      ·intro e; subst e; simp [dstLc] at hl
     ·simp [hx]
    | vt u =>
     simp only [same, look]
     intro x sz xs
     by_cases hx : d = x
     ·subst hx
      simp only [if_true, Option.some.injEq]
      constructor
      ·intro e; exact absurd e (hnv _ _ _)
      ·intro e; subst e; simp [dstLc] at hl
     ·simp [hx]
    | _ => rfl
  ·simp at h
def OpLocal (P : Program) (call : Call) (ops : Array Oper) (vs : List Nat) (id : Nat) (o : Oper) (S t : St) (v : V) (S1 : St) (W : List Lc) : Prop :=
 ∃ t1 f', drawOp P call ops vs id o t = some (.val v t1, f') ∧ (∀ l ∈ W, same S1 t1 l) ∧ (∀ l, l ∉ W → same S S1 l ∧ same t t1 l)
theorem ev_same {x : Operand} (h : ∀ u, x = .tmp u → same S t (.tmp u)) : ev S.tmps x = ev t.tmps x := by
 cases x with
 | tmp u => exact h u rfl
 | const _ => rfl
 | global _ => rfl
 | func _ => rfl
theorem reads_mem {x : Operand} (hx : x ∈ o.op.operands.toList) {u : Nat} (e : x = .tmp u) : u ∈ readsOf ops o := by
 subst e
 unfold readsOf
 refine List.mem_append_left _ (List.mem_filterMap.2 ⟨_, hx, rfl⟩)
theorem ev_reads (h : ∀ u ∈ readsOf ops o, same S t (.tmp u)) {x : Operand} (hx : x ∈ o.op.operands.toList) : ev S.tmps x = ev t.tmps x :=
 ev_same fun _ e => h _ (reads_mem hx e)
theorem evR_none {o : Oper} {tm : List (Nat × V)} {hp : List (Nat × List C)} {id : Nat} {v : V} {cs : List C} (hb : makesBlk o = false) : evR P id o tm hp ≠ some (v, some cs) := by
 intro h
 unfold evR at h
 cases ho : o.op with
 | alloc t => simp [makesBlk, ho] at hb
 | box t x => simp [makesBlk, ho] at hb
 | makeSlice t l c =>
  have hsame : sameTmp l c = false := by simpa [makesBlk, ho] using hb
  simp only [ho, hsame, Bool.false_eq_true, if_false] at h
  repeat' (first | (simp at h; done) | split at h)
 | slice t x lo hi mx =>
  simp only [ho] at h
  split at h <;> try (simp at h; done)
  split at h <;> try (simp at h; done)
  split at h <;> try (simp at h; done)
  split at h <;> try (simp at h; done)
 | _ => simp only [ho] at h <;> repeat' (first | (simp at h; done) | split at h)
theorem local_makes {v : V} {S1 : St} {f : Fp} (hm : makesBlk o = true) (h : drawOp P call ops vs id o S = some (.val v S1, f)) (hr : ∀ u ∈ readsOf ops o, same S t (.tmp u)) (hid : look id t.heap = none) :
  OpLocal P call ops vs id o S t v S1 [.blk id] ∧ f.reads = (readsOf ops o).map .tmp ∧ f.writes = dstLc o.dst v ++ [.blk id] ∧ f.all = false := by
 have he : evR P id o S.tmps S.heap = evR P id o t.tmps t.heap := by
  cases ho : o.op with
  | alloc e => simp only [evR, ho]
  | box e x =>
   have := evT_congr (P := P) (ev_reads hr (x := x) (by simp [ho, Op.operands])) e
   simp only [evR, ho, this]
  | makeSlice e l c =>
   simp only [evR, ho, ev_reads hr (x := l) (by simp [ho, Op.operands]), ev_reads hr (x := c) (by simp [ho, Op.operands])]
  | _ => simp [makesBlk, ho] at hm
 simp only [drawOp, hm, if_true, drawNew] at h
 split at h
 ·rename_i v' cs h1
  split at h
  ·split at h
   ·simp at h
   rename_i hni
   simp only [Option.some.injEq, Prod.mk.injEq, ORes.val.injEq] at h
   obtain ⟨⟨rfl, rfl⟩, rfl⟩ := h
   refine ⟨⟨{ t with heap := (id, cs.map C.plain) :: t.heap }, ⟨(readsOf ops o).map .tmp, dstLc o.dst v' ++ [.blk id], [], false⟩, ?_, ?_, ?_⟩, rfl, rfl, rfl⟩
   ·simp only [drawOp, hm, if_true, drawNew]
    rw [← he, h1]; simp only [hid]
    rw [if_neg hni]
   ·intro l hl
    simp only [List.mem_singleton] at hl; subst hl
    simp [same, look]
   ·intro l hl
    cases l with
    | blk b =>
     have hb : id ≠ b := by rintro rfl; simp at hl
     simp [same, look, hb]
    | vb b => exact ⟨fun _ _ _ _ => Iff.rfl, fun _ _ _ _ => Iff.rfl⟩
    | vt b => exact ⟨fun _ _ _ => Iff.rfl, fun _ _ _ => Iff.rfl⟩
    | _ => exact ⟨rfl, rfl⟩
  ·simp at h
 ·simp at h
theorem drawOp_old (hm : makesBlk o = false) (s : St) : drawOp P call ops vs id o s = drawOld P call ops vs o s := by simp [drawOp, hm]
def evLight (P : Program) (id : Nat) (o : Oper) (s : St) : Option (ORes × List Nat) :=
 match evR P id o s.tmps s.heap with
 | some (v, none) => some (.val v s, readsBlk o s.tmps)
 | _ => none
theorem local_light {v : V} {S1 : St} {f : Fp} (hm : makesBlk o = false) (hev : ∀ s, evOp P call s.nid o s = match evLight P s.nid o s with
   | some (r, l) => some (r, ⟨l, [], []⟩)
   | none => none) (h : drawOp P call ops vs id o S = some (.val v S1, f)) (hk : ∀ f, kindOf o f = .light)
  (hr : ∀ l ∈ f.reads, same S t l) :
  OpLocal P call ops vs id o S t v S1 [] ∧ f.writes = dstLc o.dst v ∧ f.all = false := by
 rw [drawOp_old hm] at h
 simp only [drawOld, hev, evLight] at h
 cases h1 : evR P S.nid o S.tmps S.heap with
 | none => simp [h1] at h
 | some r =>
  obtain ⟨v1, nb⟩ := r
  cases nb with
  | some cs => exact absurd h1 (evR_none hm)
  | none =>
   simp only [h1, Option.some.injEq, Prod.mk.injEq, ORes.val.injEq] at h
   obtain ⟨⟨rfl, rfl⟩, rfl⟩ := h
   simp only [fpOf, hk] at hr ⊢
   have hrt : ∀ u ∈ readsOf ops o, same S t (.tmp u) := fun u hu => hr _ (List.mem_append_left _ (List.mem_map.2 ⟨u, hu, rfl⟩))
   have hrb : ∀ b ∈ readsBlk o S.tmps, look b S.heap = look b t.heap := fun b hb => hr (.blk b) (List.mem_append_right _ (List.mem_map.2 ⟨b, hb, rfl⟩))
   have he := evR_congr (P := P) (id := S.nid) (id' := t.nid) hm (fun x hx => ev_reads hrt hx) hrb
   refine ⟨⟨t, fpOf ops o t (calmAt vs o.dst v1) t ⟨readsBlk o t.tmps, [], []⟩, ?_, by simp, fun l _ => ⟨same.refl _ _, same.refl _ _⟩⟩, by first | rfl | trivial, by first | rfl | trivial⟩
   rw [drawOp_old hm]
   simp only [drawOld, hev, evLight, ← he, h1]
theorem local_assign {v : V} {S1 : St} {f : Fp} {x : Operand} (ho : o.op = .assign x) (h : drawOp P call ops vs id o S = some (.val v S1, f)) (hall : f.all = false)
  (hr : ∀ l ∈ f.reads, same S t l) :
  OpLocal P call ops vs id o S t v S1 [] ∧ f.writes = dstLc o.dst v := by
 have hm : makesBlk o = false := by simp [makesBlk, ho]
 rw [drawOp_old hm] at h
 simp only [drawOld, evOp, ho] at h
 have hxe : (∀ u ∈ readsOf ops o, same S t (.tmp u)) → evT P o.type S.tmps x = evT P o.type t.tmps x := fun h => evT_congr (ev_reads (o := o) (ops := ops) h (by simp [ho, Op.operands])) _
 have key : ∀ {v0 : V}, (evT P o.type S.tmps x = some v0) → (∀ sz xs, v0 ≠ .c (.own sz xs)) → (∀ n, v0 ≠ .c (.nilsl n)) → (∀ n xs, v0 ≠ .c (.full n xs)) →
   (calmAt vs o.dst v0.calm = v ∧ S = S1 ∧ fpOf ops o S (calmAt vs o.dst v0.calm) S Foot.none = f) → OpLocal P call ops vs id o S t v S1 [] ∧ f.writes = dstLc o.dst v := by
  rintro v0 hx hno hnn hnf ⟨rfl, rfl, rfl⟩
  have hk : kindOf o Foot.none = .still := by simp [kindOf, ho, Foot.none]
  simp only [fpOf, hk] at hr ⊢
  have hxt := hxe (fun u hu => hr _ (List.mem_append_left _ (List.mem_map.2 ⟨u, hu, rfl⟩)))
  refine ⟨⟨t, fpOf ops o t (calmAt vs o.dst v0.calm) t Foot.none, ?_, by simp, fun l _ => ⟨same.refl _ _, same.refl _ _⟩⟩, by simp [Foot.none]⟩
  rw [drawOp_old hm]
  simp only [drawOld, evOp, ho, ← hxt, hx]
  cases v0 with
  | view l sz xs => rfl
  | c y => cases y <;> first | rfl | exact absurd rfl (hno _ _) | exact absurd rfl (hnn _) | exact absurd rfl (hnf _ _)
  | _ => rfl
 have keyn : ∀ {n : Nat}, (evT P o.type S.tmps x = some (.c (.nilsl n))) →
   (calmAt vs o.dst (.c (.own n [])) = v ∧ S = S1 ∧ fpOf ops o S (calmAt vs o.dst (.c (.own n []))) S Foot.none = f) → OpLocal P call ops vs id o S t v S1 [] ∧ f.writes = dstLc o.dst v := by
  rintro n hx ⟨rfl, rfl, rfl⟩
  have hk : kindOf o Foot.none = .still := by simp [kindOf, ho, Foot.none]
  simp only [fpOf, hk] at hr ⊢
  have hxt := hxe (fun u hu => hr _ (List.mem_append_left _ (List.mem_map.2 ⟨u, hu, rfl⟩)))
  refine ⟨⟨t, fpOf ops o t (calmAt vs o.dst (.c (.own n []))) t Foot.none, ?_, by simp, fun l _ => ⟨same.refl _ _, same.refl _ _⟩⟩, by simp [Foot.none]⟩
  rw [drawOp_old hm]
  simp only [drawOld, evOp, ho, ← hxt, hx]
 have keyf : ∀ {n : Nat} {ys : List D}, (evT P o.type S.tmps x = some (.c (.full n ys))) →
   (calmAt vs o.dst (.c (.own n ys)) = v ∧ S = S1 ∧ fpOf ops o S (calmAt vs o.dst (.c (.own n ys))) S Foot.none = f) → OpLocal P call ops vs id o S t v S1 [] ∧ f.writes = dstLc o.dst v := by
  rintro n ys hx ⟨rfl, rfl, rfl⟩
  have hk : kindOf o Foot.none = .still := by simp [kindOf, ho, Foot.none]
  simp only [fpOf, hk] at hr ⊢
  have hxt := hxe (fun u hu => hr _ (List.mem_append_left _ (List.mem_map.2 ⟨u, hu, rfl⟩)))
  refine ⟨⟨t, fpOf ops o t (calmAt vs o.dst (.c (.own n ys))) t Foot.none, ?_, by simp, fun l _ => ⟨same.refl _ _, same.refl _ _⟩⟩, by simp [Foot.none]⟩
  rw [drawOp_old hm]
  simp only [drawOld, evOp, ho, ← hxt, hx]
 cases hx : evT P o.type S.tmps x with
 | none => simp [hx] at h
 | some v0 =>
  simp only [hx] at h
  cases v0 with
  | view l sz xs =>
   simp only [Option.some.injEq, Prod.mk.injEq, ORes.val.injEq, and_assoc] at h
   exact key hx (by simp) (by simp) (by simp) h
  | c y =>
   cases y with
   | own sz xs =>
    cases x with
    | tmp u =>
     simp only [Option.some.injEq, Prod.mk.injEq, ORes.val.injEq] at h
     obtain ⟨_, rfl⟩ := h
     simp [fpOf, kindOf, ho] at hall
    | _ => simp at h
   | nilsl n =>
    simp only [Option.some.injEq, Prod.mk.injEq, ORes.val.injEq, and_assoc] at h
    exact keyn hx h
   | full n ys =>
    simp only [Option.some.injEq, Prod.mk.injEq, ORes.val.injEq, and_assoc] at h
    exact keyf hx h
   | _ =>
    simp only [Option.some.injEq, Prod.mk.injEq, ORes.val.injEq, and_assoc] at h
    exact key hx (by simp) (by simp) (by simp) h
  | _ =>
   simp only [Option.some.injEq, Prod.mk.injEq, ORes.val.injEq, and_assoc] at h
   exact key hx (by simp) (by simp) (by simp) h
end
end Go.AM

namespace Go.AM
open Go
variable [Globs]
section
variable {P : Program} {call : Call} {ops : Array Oper} {vs : List Nat} {S S' t : St} {o : Oper} {id : Nat}
theorem storeCells_at {hp hp' : List (Nat × List C)} {b off : Nat} {ncs : List C} (h : storeCells hp b off ncs = some hp') :
  ∃ nc, hp' = upd b nc hp ∧ ∀ h2, look b hp = look b h2 → storeCells h2 b off ncs = some (upd b nc h2) := by
 unfold storeCells at h
 split at h
 ·rename_i sz ds hb
  simp only [Option.map_eq_some_iff] at h
  obtain ⟨ds', h1, rfl⟩ := h
  refine ⟨_, rfl, fun h2 e => ?_⟩
  rw [hb] at e
  simp only [storeCells, ← e, h1, Option.map_some]
 ·rename_i hns
  split at h
  ·rename_i cells hc
   split at h
   ·rename_i hle
    simp only [Option.some.injEq] at h; subst h
    refine ⟨_, rfl, fun h2 e => ?_⟩
    have hc2 : lookC b h2 = some cells := by rw [← hc]; simp only [lookC, e]
    unfold storeCells
    split
    ·rename_i sz ds hb; exact absurd (e.trans hb) (hns sz ds)
    ·simp only [hc2, hle, if_true]
   ·simp at h
  ·simp at h
theorem local_store {v : V} {S1 : St} {f : Fp} {ty : TypeId} {p x : Operand} (ho : o.op = .store ty p x) (h : drawOp P call ops vs id o S = some (.val v S1, f)) (hall : f.all = false)
  (hr : ∀ l ∈ f.reads ++ f.writes, same S t l) :
  ∃ b, OpLocal P call ops vs id o S t v S1 [.blk b] ∧ f.writes = dstLc o.dst v ++ [.blk b] := by
 have hm : makesBlk o = false := by simp [makesBlk, ho]
 rw [drawOp_old hm] at h
 simp only [drawOld, evOp, ho] at h
 have plain : ∀ {b off : Nat} {u : V} {cs : List C} {hp : List (Nat × List C)}, ev S.tmps p = some (.c (.ptr b off)) → evT P ty S.tmps x = some u → (∀ sz xs, u ≠ .c (.own sz xs)) → u.cells = some cs → tsz P ty = some cs.length →
   ∀ ncs : List C, (cs.any C.isNilsl = false ∧ ncs = cs.map C.plain ∨ cs.any C.isNilsl = true ∧ ncs = cs.map C.placed ∧ noView b S.tmps = true) → storeCells S.heap b off ncs = some hp →
   (calmAt vs o.dst (.c .undef) = v ∧ { S with heap := hp } = S1 ∧ fpOf ops o S (calmAt vs o.dst (.c .undef)) { S with heap := hp } ⟨[], [b], []⟩ = f) →
   ∃ b, OpLocal P call ops vs id o S t v S1 [.blk b] ∧ f.writes = dstLc o.dst v ++ [.blk b] := by
  rintro b off u cs hp hp1 hx hno hcs hsz ncs hnc hst ⟨rfl, rfl, rfl⟩
  have hk : kindOf o ⟨[], [b], []⟩ = .still := by simp [kindOf, ho]
  simp only [fpOf, hk] at hr ⊢
  have hrt : ∀ u ∈ readsOf ops o, same S t (.tmp u) := fun u hu => hr _ (List.mem_append_left _ (List.mem_append_left _ (List.mem_map.2 ⟨u, hu, rfl⟩)))
  have hvb : same S t (.vb b) := hr (.vb b) (by simp)
  have hpt : ev S.tmps p = ev t.tmps p := ev_reads (o := o) (ops := ops) hrt (by simp [ho, Op.operands])
  have hxt : evT P ty S.tmps x = evT P ty t.tmps x := evT_congr (ev_reads (o := o) (ops := ops) hrt (by simp [ho, Op.operands])) _
  have hb0 : look b S.heap = look b t.heap := hr (.blk b) (by simp)
  obtain ⟨nc, rfl, hst2⟩ := storeCells_at hst
  have hst' := hst2 t.heap hb0
  refine ⟨b, ⟨{ t with heap := upd b nc t.heap }, fpOf ops o t (calmAt vs o.dst (.c .undef)) { t with heap := upd b nc t.heap } ⟨[], [b], []⟩, ?_, ?_, ?_⟩, by simp⟩
  ·rw [drawOp_old hm]
   simp only [drawOld, evOp, ho, ← hpt, ← hxt, hp1, hx]
   rcases hnc with ⟨hnn, rfl⟩ | ⟨hnn, rfl, hnv⟩
   ·cases u with
    | c y =>
     cases y <;> first
      | exact absurd rfl (hno _ _)
      | simp only [hcs, hsz, if_true, hst', hnn, Bool.false_eq_true, if_false]
    | _ => simp only [hcs, hsz, if_true, hst', hnn, Bool.false_eq_true, if_false]
   ·have hnt : noView b t.tmps = true := noView_of fun x o z zs e => noView_spec hnv x o z zs ((hvb x o z zs).2 e)
    cases u with
    | c y =>
     cases y <;> first
      | exact absurd rfl (hno _ _)
      | simp only [hcs, hsz, if_true, hst', hnn, hnt]
    | _ => simp only [hcs, hsz, if_true, hst', hnn, hnt]
  ·intro l hl
   simp only [List.mem_singleton] at hl; subst hl
   simp [same, look_upd_same]
  ·intro l hl
   cases l with
   | blk b' =>
    have hbb : b ≠ b' := by rintro rfl; simp at hl
    simp [same, look_upd_other (Ne.symm hbb)]
   | vb b => exact ⟨fun _ _ _ _ => Iff.rfl, fun _ _ _ _ => Iff.rfl⟩
   | vt b => exact ⟨fun _ _ _ => Iff.rfl, fun _ _ _ => Iff.rfl⟩
   | _ => exact ⟨rfl, rfl⟩
 cases hp1 : ev S.tmps p with
 | none => simp [hp1] at h
 | some q =>
  cases q with
  | c y =>
   cases y with
   | ptr b off =>
    cases hx : evT P ty S.tmps x with
    | none => simp [hp1, hx] at h
    | some u =>
     simp only [hp1, hx] at h
     by_cases hu : ∃ sz xs, u = .c (.own sz xs)
     ·obtain ⟨sz, xs, rfl⟩ := hu
      simp only at h
      split at h
      ·rename_i v0 s0 f0 h0
       split at h0
       ·split at h0
        ·simp only [Option.some.injEq, Prod.mk.injEq] at h0 h
         obtain ⟨_, rfl⟩ := h0
         obtain ⟨_, rfl⟩ := h
         simp [fpOf, kindOf, ho] at hall
        ·simp at h0
       ·simp at h0
      ·simp at h
      ·simp at h
     ·have hno : ∀ sz xs, u ≠ .c (.own sz xs) := fun sz xs e => hu ⟨sz, xs, e⟩
      have h' : ∃ cs, u.cells = some cs ∧ tsz P ty = some cs.length ∧ ∃ ncs hp, (cs.any C.isNilsl = false ∧ ncs = cs.map C.plain ∨ cs.any C.isNilsl = true ∧ ncs = cs.map C.placed ∧ noView b S.tmps = true) ∧ storeCells S.heap b off ncs = some hp ∧
        (calmAt vs o.dst (.c .undef) = v ∧ { S with heap := hp } = S1 ∧ fpOf ops o S (calmAt vs o.dst (.c .undef)) { S with heap := hp } ⟨[], [b], []⟩ = f) := by
       cases hcs : u.cells with
       | none =>
        exfalso
        cases u with
        | c y => cases y <;> first | exact absurd rfl (hno _ _) | simp [hcs] at h
        | _ => simp [hcs] at h
       | some cs =>
        by_cases hsz : tsz P ty = some cs.length
        ·by_cases hnn : cs.any C.isNilsl = true
         ·cases hst : storeCells S.heap b off (cs.map C.placed) with
          | none =>
           exfalso
           cases u with
           | c y => cases y <;> first | exact absurd rfl (hno _ _) | simp [hcs, hsz, hnn, hst] at h
           | _ => simp [hcs, hsz, hnn, hst] at h
          | some hp =>
           cases hnv : noView b S.tmps with
           | false =>
            exfalso
            cases u with
            | c y => cases y <;> first | exact absurd rfl (hno _ _) | simp [hcs, hsz, hnn, hst, hnv] at h
            | _ => simp [hcs, hsz, hnn, hst, hnv] at h
           | true =>
            refine ⟨cs, rfl, hsz, _, hp, .inr ⟨hnn, rfl, rfl⟩, hst, ?_⟩
            cases u with
            | c y => cases y <;> first | exact absurd rfl (hno _ _) | (simp only [hcs, hsz, hst, hnn, hnv, if_true, Option.some.injEq, Prod.mk.injEq, ORes.val.injEq, and_assoc] at h; exact h)
            | _ => simp only [hcs, hsz, hst, hnn, hnv, if_true, Option.some.injEq, Prod.mk.injEq, ORes.val.injEq, and_assoc] at h; exact h
         simp only [Bool.not_eq_true] at hnn
         cases hst : storeCells S.heap b off (cs.map C.plain) with
         | none =>
          exfalso
          cases u with
          | c y => cases y <;> first | exact absurd rfl (hno _ _) | simp [hcs, hsz, hst, hnn] at h
          | _ => simp [hcs, hsz, hst, hnn] at h
         | some hp =>
          refine ⟨cs, rfl, hsz, _, hp, .inl ⟨hnn, rfl⟩, hst, ?_⟩
          cases u with
          | c y => cases y <;> first | exact absurd rfl (hno _ _) | (simp only [hcs, hsz, hst, hnn, Bool.false_eq_true, if_false, if_true, Option.some.injEq, Prod.mk.injEq, ORes.val.injEq, and_assoc] at h; exact h)
          | _ => simp only [hcs, hsz, hst, hnn, Bool.false_eq_true, if_false, if_true, Option.some.injEq, Prod.mk.injEq, ORes.val.injEq, and_assoc] at h; exact h
        ·exfalso
         cases u with
         | c y => cases y <;> first | exact absurd rfl (hno _ _) | simp [hcs, hsz] at h
         | _ => simp [hcs, hsz] at h
      obtain ⟨cs, h1, h2, ncs, hp, h1', h3, h4⟩ := h'
      exact plain hp1 hx hno h1 h2 ncs h1' h3 h4
   | _ => simp [hp1] at h
  | _ => simp [hp1] at h
end
end Go.AM

namespace Go.AM
open Go
variable [Globs]
theorem reach_same {hp hp' : List (Nat × List C)} : ∀ {n : Nat} {todo seen ids : List Nat}, reach hp n todo seen = some ids → seen.Nodup → (∀ b ∈ ids, look b hp = look b hp') → reach hp' n todo seen = some ids
 | 0, _, _, _, h, _, _ => by simp [reach] at h
 | n + 1, [], seen, ids, h, _, _ => by simpa [reach] using h
 | n + 1, b :: r, seen, ids, h, hn, hs => by
  simp only [reach] at h ⊢
  split at h
  ·rename_i hb
   rw [if_pos hb]; exact reach_same h hn hs
  ·rename_i hb
   rw [if_neg hb]
   split at h
   ·rename_i cells hc
    have hn' : (seen ++ [b]).Nodup := by
     rw [List.nodup_append]
     exact ⟨hn, by simp, by intro x hx y hy; simp at hy; subst hy; intro e; subst e; exact hb hx⟩
    obtain ⟨_, ⟨q, h2⟩, _⟩ := reach_spec h hn'
    rw [← hs b (by rw [h2]; simp), hc]
    exact reach_same h hn' hs
   ·simp at h
theorem look_putBlks_same {b : Nat} : ∀ {ids : List Nat} {cs : List (List C)} {h h' : List (Nat × List C)}, look b h = look b h' → look b (putBlks ids cs h) = look b (putBlks ids cs h')
 | [], _, _, _, e => by simpa [putBlks] using e
 | _ :: _, [], _, _, e => by simpa [putBlks] using e
 | x :: ids, c :: cs, h, h', e => by
  simp only [putBlks]
  refine look_putBlks_same ?_
  by_cases hx : b = x
  ·subst hx; rw [look_upd_same, look_upd_same]
  ·rw [look_upd_other hx, look_upd_other hx, e]
def callW (ids' : List Nat) (S S1 : St) : List Lc :=
 ids'.map .blk ++ ids'.map .vb ++ (viewsIn ids' S.tmps).map .tmp ++ (if S1.nid = S.nid then [] else [.nid])
theorem mem_viewsIn {ids : List Nat} {tm : List (Nat × V)} {x b off sz : Nat} {xs : List D} (h : look x tm = some (.view (.cell b off) sz xs)) (hb : b ∈ ids) : x ∈ viewsIn ids tm := by
 unfold viewsIn
 refine List.mem_map.2 ⟨(x, .view (.cell b off) sz xs), List.mem_filter.2 ⟨mem_of_look h, ?_⟩, rfl⟩
 simp only [h]
 simpa using hb
section
variable {P : Program} {call : Call} {ops : Array Oper} {vs : List Nat} {S t : St} {o : Oper} {id : Nat}
theorem local_put {ids' : List Nat} {lh'' : List (List C)} {k : Nat} {S1 t1 : St} (hS : S1 = { S with tmps := unviewIn ids' S.tmps, heap := putBlks ids' lh'' S.heap, nid := S.nid + k })
  (ht : t1 = { t with tmps := unviewIn ids' t.tmps, heap := putBlks ids' lh'' t.heap, nid := t.nid + k }) (hs : ∀ l ∈ callW ids' S S1, same S t l) :
  (∀ l ∈ callW ids' S S1, same S1 t1 l) ∧ (∀ l, l ∉ callW ids' S S1 → same S S1 l ∧ same t t1 l) := by
 have vwS : ∀ (s : St) (x b off sz : Nat) (xs : List D), look x (unviewIn ids' s.tmps) = some (.view (.cell b off) sz xs) ↔ look x s.tmps = some (.view (.cell b off) sz xs) ∧ b ∉ ids' := by
  intro s x b off sz xs
  rw [look_unviewIn]
  cases hl : look x s.tmps with
  | none => simp
  | some v =>
   cases v with
   | view l z ys =>
    cases l with
    | tmp u => simp
    | cell b' off' =>
     by_cases hb : b' ∈ ids'
     ·simp only [Option.map_some, hb, if_true, Option.some.injEq]
      constructor
      ·intro e; simp at e
      ·rintro ⟨e, hn⟩
       simp only [V.view.injEq, Loc.cell.injEq] at e
       rw [e.1.1] at hb
       exact absurd hb hn
     ·simp only [Option.map_some, hb, if_false, Option.some.injEq]
      constructor
      ·intro e
       refine ⟨e, ?_⟩
       simp only [V.view.injEq, Loc.cell.injEq] at e
       rw [← e.1.1]; exact hb
      ·exact fun h => h.1
   | _ => simp
 have vtS : ∀ (s : St) (x u sz : Nat) (xs : List D), look x (unviewIn ids' s.tmps) = some (.view (.tmp u) sz xs) ↔ look x s.tmps = some (.view (.tmp u) sz xs) := by
  intro s x u sz xs
  rw [look_unviewIn]
  cases hl : look x s.tmps with
  | none => simp
  | some v =>
   cases v with
   | view l z ys =>
    cases l with
    | tmp u => simp
    | cell b' off' => by_cases hb : b' ∈ ids' <;> simp [hb]
   | _ => simp
 have stay : ∀ (s : St) (x : Nat), (∀ b off sz xs, look x s.tmps = some (.view (.cell b off) sz xs) → b ∉ ids') → look x s.tmps = look x (unviewIn ids' s.tmps) := by
  intro s x hx
  rw [look_unviewIn]
  cases hl : look x s.tmps with
  | none => simp
  | some v =>
   cases v with
   | view l z ys =>
    cases l with
    | tmp u => simp
    | cell b' off' => simp [hx b' off' z ys hl]
   | _ => simp
 subst hS; subst ht
 constructor
 ·intro l hl
  have hst := hs l hl
  cases l with
  | tmp x => simp only [same, look_unviewIn] at hst ⊢; rw [hst]
  | blk b => exact look_putBlks_same hst
  | nid => simp only [same] at hst ⊢; omega
  | defs => exact hst
  | vb b => simp only [same, vwS] at hst ⊢; intro x off sz xs; rw [hst]
  | vt u => simp only [same, vtS] at hst ⊢; exact hst
 ·intro l hl
  simp only [callW, List.mem_append, not_or] at hl
  obtain ⟨⟨⟨h1, h2⟩, h3⟩, h4⟩ := hl
  cases l with
  | tmp x =>
   have hx : x ∉ viewsIn ids' S.tmps := by simpa using h3
   refine ⟨stay S x fun b off sz xs e hb => hx (mem_viewsIn e hb), stay t x fun b off sz xs e hb => hx (mem_viewsIn (((hs (.vb b) (by simp [callW, hb])) x off sz xs).2 e) hb)⟩
  | blk b =>
   have hb : b ∉ ids' := by simpa using h1
   exact ⟨(look_putBlks_out hb).symm, (look_putBlks_out hb).symm⟩
  | nid =>
   split at h4
   ·rename_i e
    exact ⟨by simp only [same]; omega, by simp only [same]; omega⟩
   ·simp at h4
  | defs => exact ⟨rfl, rfl⟩
  | vb b =>
   have hb : b ∉ ids' := by simpa using h2
   exact ⟨fun x off sz xs => by simp only [vwS]; simp [hb], fun x off sz xs => by simp only [vwS]; simp [hb]⟩
  | vt u => exact ⟨fun x sz xs => by simp only [vtS], fun x sz xs => by simp only [vtS]⟩
theorem doCall_local {f : Nat} {args : List C} {v : V} {S1 : St} {ids : List Nat} (h : doCall call f args S = some (.val v S1, ids)) (hs : ∀ l ∈ callW (ids ++ newIds S S1) S S1, same S t l) :
  ∃ t1, doCall call f args t = some (.val v t1, ids) ∧ (∀ l ∈ callW (ids ++ newIds S S1) S S1, same S1 t1 l) ∧ (∀ l, l ∉ callW (ids ++ newIds S S1) S S1 → same S S1 l ∧ same t t1 l) := by
 unfold doCall at h ⊢
 split at h
 ·simp at h
 ·rename_i ids' hr
  split at h
  ·rename_i args' lh ha hl
   split at h
   ·rename_i v0 lh' hc
    split at h
    ·rename_i lh'' v' hb hv
     simp only [Option.some.injEq, Prod.mk.injEq, ORes.val.injEq] at h
     obtain ⟨⟨rfl, hS⟩, rfl⟩ := h
     have hnew : newIds S S1 = idsFrom S.nid (lh'.length - ids'.length) := by
      unfold newIds; rw [← hS]; simp only; congr 1; omega
     have hbl : ∀ b ∈ ids', look b S.heap = look b t.heap := fun b hb => hs (.blk b) (by simp [callW, hb])
     have hids : idsFrom S.nid (lh'.length - ids'.length) = idsFrom t.nid (lh'.length - ids'.length) := by
      by_cases hk : lh'.length - ids'.length = 0
      ·rw [hk]; rfl
      ·have : S.nid = t.nid := hs .nid (by
        have : S1.nid ≠ S.nid := by rw [← hS]; simp only; omega
        simp [callW, this])
       rw [this]
     have hl' : blksInto t.heap ids' = some lh := by
      rw [← hl]; unfold blksInto
      exact (mapM?_congr fun b hb => by rw [hbl b hb]).symm
     rw [hnew] at hs ⊢
     obtain ⟨q1, q2⟩ := local_put (t := t) (k := lh'.length - ids'.length) hS.symm rfl hs
     refine ⟨_, ?_, q1, q2⟩
     rw [reach_same hr (by simp) hbl]
     simp only [ha, hl', hc, ← hids, hb, hv]
    ·simp at h
   ·split at h <;> simp at h
   ·simp at h
  ·simp at h
theorem argsT_congr {P : Program} {tm tm' : List (Nat × V)} : ∀ {l : List Operand} {ts : List TypeId}, (∀ x ∈ l, ev tm x = ev tm' x) → argsT P tm l ts = argsT P tm' l ts
 | [], _, _ => rfl
 | x :: l, ts, h => by
  have ih : argsT P tm l ts.tail = argsT P tm' l ts.tail := argsT_congr fun y hy => h y (by simp [hy])
  simp only [argsT, evT_congr (P := P) (h x (by simp)), ih]
theorem local_call {v : V} {S1 : St} {f : Fp} {c : Go.Call} {x : Operand} (ho : o.op = .call c) (hcv : c.callee = .value x) (h : drawOp P call ops vs id o S = some (.val v S1, f))
  (hr : ∀ l ∈ f.reads ++ f.writes, same S t l) :
  ∃ W, OpLocal P call ops vs id o S t v S1 W ∧ f.writes = dstLc o.dst v ++ W ∧ f.all = false := by
 have hm : makesBlk o = false := by simp [makesBlk, ho]
 rw [drawOp_old hm] at h
 simp only [drawOld, evOp, ho, hcv] at h
 cases hx : ev S.tmps x with
 | none => simp [hx] at h
 | some q =>
  cases q with
  | c y =>
   cases y with
   | fn g caps =>
    cases ha : argsT P S.tmps c.args.toList c.argTypes.toList with
    | none => simp [hx, ha] at h
    | some args =>
     cases hd : doCall call g (args ++ caps.map fun b => .ptr b 0) S with
     | none => simp [hx, ha, hd] at h
     | some r =>
      obtain ⟨r, ids⟩ := r
      cases r with
      | pan d s' => simp [hx, ha, hd] at h
      | val v0 s0 =>
       simp only [hx, ha, hd, Option.some.injEq, Prod.mk.injEq, ORes.val.injEq] at h
       obtain ⟨⟨rfl, rfl⟩, rfl⟩ := h
       have hk : kindOf o ⟨ids, ids, []⟩ = .call := by simp [kindOf, ho, hcv]
       simp only [fpOf, hk] at hr ⊢
       have hrt : ∀ u ∈ readsOf ops o, same S t (.tmp u) := fun u hu => hr _ (List.mem_append_left _ (List.mem_map.2 ⟨u, hu, rfl⟩))
       have hxt : ev S.tmps x = ev t.tmps x := ev_reads (o := o) (ops := ops) hrt (by simp [ho, Op.operands, Call.operands, hcv])
       have hat : argsT P S.tmps c.args.toList c.argTypes.toList = argsT P t.tmps c.args.toList c.argTypes.toList := by
        refine argsT_congr fun y hy => ?_
        rw [ev_reads (o := o) (ops := ops) hrt (x := y) (by simp [ho, Op.operands, Call.operands, hcv]; exact .inr (by simpa using hy))]
       obtain ⟨t1, h1, h2, h3⟩ := doCall_local (t := t) hd (fun l hl => hr l (by
        simp only [callW] at hl
        simp only [List.mem_append] at hl ⊢
        rcases hl with ((hl | hl) | hl) | hl
        ·exact .inr (.inl (.inl (.inl (.inr hl))))
        ·exact .inr (.inl (.inl (.inr hl)))
        ·exact .inr (.inl (.inr hl))
        ·exact .inr (.inr hl)))
       refine ⟨callW (ids ++ newIds S s0) S s0, ⟨t1, fpOf ops o t (calmAt vs o.dst v0) t1 ⟨ids, ids, []⟩, ?_, h2, h3⟩, by simp [callW], by first | rfl | trivial⟩
       rw [drawOp_old hm]
       simp only [drawOld, evOp, ho, hcv, ← hxt, hx, ← hat, ha, h1]
   | _ => simp [hx] at h
  | _ => simp [hx] at h
end
end Go.AM

namespace Go.AM
open Go
variable [Globs]
section
variable {P : Program} {call : Call} {ops : Array Oper} {vs : List Nat} {S S' t : St} {o : Oper} {id : Nat}
def StepD (P : Program) (call : Call) (ops : Array Oper) (vs : List Nat) (id : Nat) (o : Oper) (s s' : St) (f : Fp) : Prop :=
 (wantedAt ops s.tmps o = some false ∧ putD o.dst (.c .undef) s = some s' ∧ f = ⟨(readsOf ops o).map .tmp, dstLc o.dst (.c .undef), [], false⟩) ∨
 (wantedAt ops s.tmps o = some true ∧ ∃ v s1, drawOp P call ops vs id o s = some (.val v s1, f) ∧ putD o.dst v s1 = some s')
theorem wanted_same (h : ∀ u ∈ readsOf ops o, same S t (.tmp u)) : wantedAt ops S.tmps o = wantedAt ops t.tmps o := by
 unfold wantedAt
 cases hg : o.guard with
 | none => rfl
 | some g =>
  obtain ⟨j, want⟩ := g
  simp only
  cases hq : ops[j]? with
  | none => rfl
  | some q =>
   simp only
   cases hd : q.dst with
   | none => rfl
   | some d =>
    have : look d S.tmps = look d t.tmps := h d (by unfold readsOf; simp [hg, hq, hd])
    simp only [this]
theorem drawOp_reads {v : V} {S1 : St} {f : Fp} (h : drawOp P call ops vs id o S = some (.val v S1, f)) (hall : f.all = false) : ∀ u ∈ readsOf ops o, Lc.tmp u ∈ f.reads := by
 intro u hu
 have hm : Lc.tmp u ∈ (readsOf ops o).map Lc.tmp := List.mem_map.2 ⟨u, hu, rfl⟩
 simp only [drawOp] at h
 split at h
 ·simp only [drawNew] at h
  split at h
  ·split at h
   ·split at h
    ·simp at h
    simp only [Option.some.injEq, Prod.mk.injEq] at h
    obtain ⟨_, rfl⟩ := h
    exact hm
   ·simp at h
  ·simp at h
 ·simp only [drawOld] at h
  split at h
  ·simp only [Option.some.injEq, Prod.mk.injEq] at h
   obtain ⟨_, rfl⟩ := h
   unfold fpOf at hall ⊢
   split
   ·exact List.mem_append_left _ hm
   ·exact List.mem_append_left _ hm
   ·exact hm
   ·rename_i hk; rw [hk] at hall; simp at hall
  ·simp at h
  ·simp at h
theorem drawOp_local {v : V} {S1 : St} {f : Fp} (h : drawOp P call ops vs id o S = some (.val v S1, f)) (hall : f.all = false) (hr : ∀ l ∈ f.reads ++ f.writes, same S t l)
  (hid : makesBlk o = true → look id t.heap = none) : ∃ W, OpLocal P call ops vs id o S t v S1 W ∧ f.writes = dstLc o.dst v ++ W := by
 have hrt : ∀ u ∈ readsOf ops o, same S t (.tmp u) := fun u hu => hr _ (List.mem_append_left _ (drawOp_reads h hall u hu))
 have hrr : ∀ l ∈ f.reads, same S t l := fun l hl => hr l (List.mem_append_left _ hl)
 cases hm : makesBlk o with
 | true =>
  obtain ⟨h1, _, h2, _⟩ := local_makes hm h hrt (hid hm)
  exact ⟨_, h1, h2⟩
 | false =>
  have light : (∀ s, evOp P call s.nid o s = match evLight P s.nid o s with | some (r, l) => some (r, ⟨l, [], []⟩) | none => none) → (∀ f, kindOf o f = .light) →
    ∃ W, OpLocal P call ops vs id o S t v S1 W ∧ f.writes = dstLc o.dst v ++ W := by
   intro hev hk
   obtain ⟨h1, h2, _⟩ := local_light hm hev h hk hrr
   exact ⟨[], h1, by rw [h2]; simp⟩
  cases ho : o.op with
  | assign x =>
   obtain ⟨h1, h2⟩ := local_assign ho h hall hrr
   exact ⟨[], h1, by rw [h2]; simp⟩
  | store ty p x =>
   obtain ⟨b, h1, h2⟩ := local_store ho h hall hr
   exact ⟨_, h1, h2⟩
  | defer c =>
   exfalso
   rw [drawOp_old hm] at h
   simp only [drawOld] at h
   split at h
   ·simp only [Option.some.injEq, Prod.mk.injEq] at h
    obtain ⟨_, rfl⟩ := h
    simp [fpOf, kindOf, ho] at hall
   ·simp at h
   ·simp at h
  | panic x =>
   exfalso
   rw [drawOp_old hm] at h
   simp only [drawOld] at h
   split at h
   ·simp only [Option.some.injEq, Prod.mk.injEq] at h
    obtain ⟨_, rfl⟩ := h
    simp [fpOf, kindOf, ho] at hall
   ·simp at h
   ·simp at h
  | makeMap t r =>
   exfalso
   rw [drawOp_old hm] at h
   simp only [drawOld] at h
   split at h
   ·simp only [Option.some.injEq, Prod.mk.injEq] at h
    obtain ⟨_, rfl⟩ := h
    simp [fpOf, kindOf, ho] at hall
   ·simp at h
   ·simp at h
  | insert t m k v =>
   exfalso
   rw [drawOp_old hm] at h
   simp only [drawOld] at h
   split at h
   ·simp only [Option.some.injEq, Prod.mk.injEq] at h
    obtain ⟨_, rfl⟩ := h
    simp [fpOf, kindOf, ho] at hall
   ·simp at h
   ·simp at h
  | mapUpdate t m k v =>
   exfalso
   rw [drawOp_old hm] at h
   simp only [drawOld] at h
   split at h
   ·simp only [Option.some.injEq, Prod.mk.injEq] at h
    obtain ⟨_, rfl⟩ := h
    simp [fpOf, kindOf, ho] at hall
   ·simp at h
   ·simp at h
  | call c =>
   cases hc : c.callee with
   | value x =>
    obtain ⟨W, h1, h2, _⟩ := local_call ho hc h hr
    exact ⟨W, h1, h2⟩
   | invoke r m =>
    exfalso
    rw [drawOp_old hm] at h
    simp [drawOld, evOp, ho, hc] at h
   | builtin b =>
    cases b with
    | append =>
     exfalso
     rw [drawOp_old hm] at h
     simp only [drawOld] at h
     split at h
     ·simp only [Option.some.injEq, Prod.mk.injEq] at h
      obtain ⟨_, rfl⟩ := h
      simp [fpOf, kindOf, ho, hc] at hall
     ·simp at h
     ·simp at h
    | _ =>
     refine light (fun s => ?_) (fun f => by simp [kindOf, ho, hc])
     simp only [evOp, ho, hc, evLight, readsBlk]
     cases hR : evR P s.nid o s.tmps s.heap with
     | none => rfl
     | some r =>
      obtain ⟨v, nb⟩ := r
      cases nb <;> rfl
  | alloc _ => simp [makesBlk, ho] at hm
  | box _ _ => simp [makesBlk, ho] at hm
  | _ =>
   refine light (fun s => ?_) (fun f => by simp [kindOf, ho])
   simp only [evOp, ho, evLight]
   cases hR : evR P s.nid o s.tmps s.heap with
   | none => rfl
   | some r =>
    obtain ⟨v, nb⟩ := r
    cases nb with
    | none => rfl
    | some cs => exact absurd hR (evR_none hm)
theorem step_local {f : Fp} (h : StepD P call ops vs id o S S' f) (hall : f.all = false) (hr : ∀ l ∈ f.reads ++ f.writes, same S t l) (hid : makesBlk o = true → look id t.heap = none) :
  ∃ t' f', StepD P call ops vs id o t t' f' ∧ (∀ l ∈ f.writes, same S' t' l) ∧ (∀ l, l ∉ f.writes → same S S' l ∧ same t t' l) := by
 rcases h with ⟨hw, hp, rfl⟩ | ⟨hw, v, S1, hop, hp⟩
 ·have hrt : ∀ u ∈ readsOf ops o, same S t (.tmp u) := fun u hu => hr _ (by simp [hu])
  obtain ⟨t', h1, h2, h3⟩ := putD_local (t := t) hp fun l hl => hr l (List.mem_append_right _ hl)
  obtain ⟨S'', h4, h5, h6⟩ := putD_local (t := S) hp fun l _ => same.refl S l
  rw [hp, Option.some.injEq] at h4; subst h4
  exact ⟨t', _, .inl ⟨by rw [← wanted_same hrt]; exact hw, h1, rfl⟩, fun l hl => h2 l (hr l (List.mem_append_right _ hl)), fun l hl => ⟨h6 l hl, h3 l hl⟩⟩
 ·have hrt : ∀ u ∈ readsOf ops o, same S t (.tmp u) := fun u hu => hr _ (List.mem_append_left _ (drawOp_reads hop hall u hu))
  obtain ⟨W, ⟨t1, f', h1, h2, h3⟩, h4⟩ := drawOp_local hop hall hr hid
  have h5 : ∀ l ∈ f.writes, same S1 t1 l := by
   intro l hl
   by_cases hW : l ∈ W
   ·exact h2 l hW
   ·exact ((h3 l hW).1.symm.trans (hr l (List.mem_append_right _ hl))).trans (h3 l hW).2
  obtain ⟨t', h6, h7, h8⟩ := putD_local (t := t1) hp fun l hl => h5 l (by rw [h4]; exact List.mem_append_left _ hl)
  obtain ⟨S'', h9, _, h10⟩ := putD_local (t := S1) hp fun l _ => same.refl S1 l
  rw [hp, Option.some.injEq] at h9; subst h9
  refine ⟨t', f', .inr ⟨by rw [← wanted_same hrt]; exact hw, v, t1, h1, h6⟩, fun l hl => h7 l (h5 l hl), fun l hl => ?_⟩
  rw [h4, List.mem_append, not_or] at hl
  exact ⟨(h3 l hl.2).1.trans (h10 l hl.1), (h3 l hl.2).2.trans (h8 l hl.1)⟩
theorem befores_append : ∀ (l : List Oper) (acc : List (List Nat)), ∃ r, befores l acc = acc ++ r ∧ r.length = l.length
 | [], acc => ⟨[], by simp [befores]⟩
 | o :: l, acc => by
  obtain ⟨r, h1, h2⟩ := befores_append l (acc ++ [o.after.toList.foldl (fun l e => if Region.binds .any e then e.on :: (acc.getD e.on [] ++ l) else l) []])
  exact ⟨o.after.toList.foldl (fun l e => if Region.binds .any e then e.on :: (acc.getD e.on [] ++ l) else l) [] :: r, by simp only [befores]; rw [h1]; simp, by simp [h2]⟩
theorem edges_mem {acc : List (List Nat)} {i : Nat} : ∀ {es : List Edge} {l : List Nat}, i ∈ es.foldl (fun l e => if Region.binds .any e then e.on :: (acc.getD e.on [] ++ l) else l) l →
  i ∈ l ∨ ∃ e ∈ es, Region.binds .any e = true ∧ (i = e.on ∨ i ∈ acc.getD e.on [])
 | [], l, h => .inl h
 | e :: es, l, h => by
  simp only [List.foldl_cons] at h
  rcases edges_mem h with h | ⟨e', he, h1, h2⟩
  ·split at h
   ·rename_i hb
    simp only [List.mem_cons, List.mem_append] at h
    rcases h with h | h | h
    ·exact .inr ⟨e, by simp, hb, .inl h⟩
    ·exact .inr ⟨e, by simp, hb, .inr h⟩
    ·exact .inl h
   ·exact .inl h
  ·exact .inr ⟨e', List.mem_cons_of_mem _ he, h1, h2⟩
theorem befores_get : ∀ (l : List Oper) (acc : List (List Nat)) (j i : Nat), acc.length ≤ j → i ∈ (befores l acc).getD j [] →
  ∃ o, l[j - acc.length]? = some o ∧ ∃ e ∈ o.after.toList, Region.binds .any e = true ∧ (i = e.on ∨ (e.on < j ∧ i ∈ (befores l acc).getD e.on []))
 | [], acc, j, i, hj, h => by simp only [befores] at h; simp [List.getD, List.getElem?_eq_none hj] at h
 | o :: l, acc, j, i, hj, h => by
  by_cases he : j = acc.length
  ·subst he
   refine ⟨o, by simp, ?_⟩
   obtain ⟨r, h1, h2⟩ := befores_append (o :: l) acc
   obtain ⟨r', h3, h4⟩ := befores_append l (acc ++ [o.after.toList.foldl (fun l e => if Region.binds .any e then e.on :: (acc.getD e.on [] ++ l) else l) []])
   simp only [befores] at h
   rw [h3] at h
   have h5 : i ∈ o.after.toList.foldl (fun l e => if Region.binds .any e then e.on :: (acc.getD e.on [] ++ l) else l) [] := by
    simpa [List.getD] using h
   rcases edges_mem h5 with h6 | ⟨e, he, hb, h6⟩
   ·simp at h6
   ·refine ⟨e, he, hb, h6.imp id fun h7 => ?_⟩
    have hlt : e.on < acc.length := by
     rcases Nat.lt_or_ge e.on acc.length with h | h
     ·exact h
     ·simp [List.getD, List.getElem?_eq_none h] at h7
    refine ⟨hlt, ?_⟩
    rw [h1]
    simp only [List.getD, List.getElem?_append_left hlt] at h7 ⊢
    exact h7
  ·have hj' : (acc ++ [o.after.toList.foldl (fun l e => if Region.binds .any e then e.on :: (acc.getD e.on [] ++ l) else l) []]).length ≤ j := by simp; omega
   obtain ⟨o', h1, h2⟩ := befores_get l _ j i hj' (by simpa only [befores] using h)
   refine ⟨o', ?_, by simpa only [befores] using h2⟩
   rw [← h1, show j - acc.length = (j - (acc.length + 1)) + 1 from by omega]
   simp
theorem befores_closed {D : Nat → Prop} (hD : ∀ j o, ops[j]? = some o → D j → ∀ e ∈ o.after, Region.binds .any e = true → D e.on) :
  ∀ (j i : Nat), i ∈ (befores ops.toList []).getD j [] → (∀ o, ops[j]? = some o → ∀ e ∈ o.after, Region.binds .any e = true → D e.on) → D i := by
 intro j
 induction j using Nat.strongRecOn with
 | ind j ih =>
  intro i hi hj
  obtain ⟨o, h1, e, he, hb, h2⟩ := befores_get ops.toList [] j i (by simp) hi
  have ho : ops[j]? = some o := by simpa using h1
  have hon : D e.on := hj o ho e (by simpa using he) hb
  rcases h2 with rfl | ⟨hlt, h3⟩
  ·exact hon
  ·exact ih e.on hlt i h3 fun o' ho' e' he' hb' => hD e.on o' ho' hon e' he' hb'
theorem drawOps_run {base : Nat} : ∀ (l : List Oper) (i : Nat) (s : St) {x : AX} {s' : St} {fs : List Fp}, drawOps P call ops vs base l i s = some (x, s', fs) →
  ∃ Ss : Nat → St, Ss i = s ∧
   ((x = .normal ∧ fs.length = l.length ∧ Ss (i + l.length) = s' ∧ ∀ j, j < l.length → ∃ o f, l[j]? = some o ∧ fs[j]? = some (f.fill (Ss (i + j + 1))) ∧ StepD P call ops vs (base + (i + j)) o (Ss (i + j)) (Ss (i + j + 1)) f) ∨
    (∃ d k o f, x = .pan d ∧ fs.length = k + 1 ∧ l[k]? = some o ∧ fs[k]? = some f ∧ wantedAt ops (dropT (looseDst ops (i + k)) (Ss (i + k))).tmps o = some true ∧ drawOp P call ops vs (base + (i + k)) o (dropT (looseDst ops (i + k)) (Ss (i + k))) = some (.pan d s', f) ∧
    ∀ j, j < k → ∃ o f, l[j]? = some o ∧ fs[j]? = some (f.fill (Ss (i + j + 1))) ∧ StepD P call ops vs (base + (i + j)) o (Ss (i + j)) (Ss (i + j + 1)) f))
 | [], i, s, x, s', fs, h => by
  simp only [drawOps, Option.some.injEq, Prod.mk.injEq] at h
  obtain ⟨rfl, rfl, rfl⟩ := h
  exact ⟨fun _ => s, rfl, .inl ⟨rfl, rfl, rfl, by simp⟩⟩
 | o :: l, i, s, x, s', fs, h => by
  have cont : ∀ {s1 : St} {f : Fp} {fs' : List Fp}, StepD P call ops vs (base + i) o s s1 f → drawOps P call ops vs base l (i + 1) s1 = some (x, s', fs') → fs = f.fill s1 :: fs' →
    ∃ Ss : Nat → St, Ss i = s ∧
   ((x = .normal ∧ fs.length = (o :: l).length ∧ Ss (i + (o :: l).length) = s' ∧ ∀ j, j < (o :: l).length → ∃ o' f, (o :: l)[j]? = some o' ∧ fs[j]? = some (f.fill (Ss (i + j + 1))) ∧ StepD P call ops vs (base + (i + j)) o' (Ss (i + j)) (Ss (i + j + 1)) f) ∨
    (∃ d k o' f, x = .pan d ∧ fs.length = k + 1 ∧ (o :: l)[k]? = some o' ∧ fs[k]? = some f ∧ wantedAt ops (dropT (looseDst ops (i + k)) (Ss (i + k))).tmps o' = some true ∧ drawOp P call ops vs (base + (i + k)) o' (dropT (looseDst ops (i + k)) (Ss (i + k))) = some (.pan d s', f) ∧
    ∀ j, j < k → ∃ o' f, (o :: l)[j]? = some o' ∧ fs[j]? = some (f.fill (Ss (i + j + 1))) ∧ StepD P call ops vs (base + (i + j)) o' (Ss (i + j)) (Ss (i + j + 1)) f)) := by
   intro s1 f fs' hst hrec e
   subst e
   obtain ⟨Ss, h0, h1⟩ := drawOps_run l (i + 1) s1 hrec
   refine ⟨fun j => if j = i then s else Ss j, by simp, ?_⟩
   have step : ∀ n, (∀ j, j < n → ∃ o f, l[j]? = some o ∧ fs'[j]? = some (f.fill (Ss (i + 1 + j + 1))) ∧ StepD P call ops vs (base + (i + 1 + j)) o (Ss (i + 1 + j)) (Ss (i + 1 + j + 1)) f) →
     ∀ j, j < n + 1 → ∃ o' f', (o :: l)[j]? = some o' ∧ (f.fill s1 :: fs')[j]? = some (f'.fill (if i + j + 1 = i then s else Ss (i + j + 1))) ∧ StepD P call ops vs (base + (i + j)) o' (if i + j = i then s else Ss (i + j)) (if i + j + 1 = i then s else Ss (i + j + 1)) f' := by
    intro n hn j hj
    cases j with
    | zero => exact ⟨o, f, rfl, by simp only [Nat.add_zero]; rw [if_neg (by omega), h0]; rfl, by simp only [Nat.add_zero, if_true]; rw [if_neg (by omega), h0]; exact hst⟩
    | succ j =>
     obtain ⟨o', f', q1, q2, q3⟩ := hn j (by omega)
     refine ⟨o', f', by simpa using q1, by rw [if_neg (by omega), show i + (j + 1) + 1 = i + 1 + j + 1 from by omega]; simpa using q2, ?_⟩
     rw [if_neg (by omega), if_neg (by omega), show i + (j + 1) = i + 1 + j from by omega]
     exact q3
   rcases h1 with ⟨rfl, hl, hs', hall⟩ | ⟨d, k, o', f', rfl, hl, ho', hf', hw, hdr, hall⟩
   ·refine .inl ⟨rfl, by simp [hl], ?_, step l.length hall⟩
    show (if i + (o :: l).length = i then s else Ss (i + (o :: l).length)) = s'
    rw [if_neg (by simp only [List.length_cons]; omega), ← hs']
    congr 1; simp only [List.length_cons]; omega
   ·refine .inr ⟨d, k + 1, o', f', rfl, by simp [hl], by simpa using ho', by simpa using hf', ?_, ?_, step k hall⟩
    ·show wantedAt ops (dropT (looseDst ops (i + (k + 1))) (if i + (k + 1) = i then s else Ss (i + (k + 1)))).tmps o' = some true
     rw [if_neg (by omega), show i + (k + 1) = i + 1 + k from by omega]; exact hw
    ·show drawOp P call ops vs (base + (i + (k + 1))) o' (dropT (looseDst ops (i + (k + 1))) (if i + (k + 1) = i then s else Ss (i + (k + 1)))) = some (.pan d s', f')
     rw [if_neg (by omega), show i + (k + 1) = i + 1 + k from by omega]; exact hdr
  simp only [drawOps] at h
  split at h
  ·simp at h
  ·rename_i hw
   split at h
   ·simp at h
   ·rename_i s1 hp
    split at h
    ·simp at h
    ·rename_i x' s2 fs' hrec
     simp only [Option.some.injEq, Prod.mk.injEq] at h
     obtain ⟨rfl, rfl, rfl⟩ := h
     exact cont (.inl ⟨hw, hp, rfl⟩) hrec rfl
  ·rename_i hw
   split at h
   ·simp at h
   ·split at h
    ·rename_i d s1 f hw' hop
     simp only [Option.some.injEq, Prod.mk.injEq] at h
     obtain ⟨rfl, rfl, rfl⟩ := h
     exact ⟨fun _ => s, rfl, .inr ⟨d, 0, o, f, rfl, rfl, rfl, rfl, by simpa using hw', by simpa using hop, by simp⟩⟩
    ·simp at h
   ·rename_i v s1 f hop
    split at h
    ·simp at h
    ·rename_i s2 hp
     split at h
     ·simp at h
     ·rename_i x' s3 fs' hrec
      simp only [Option.some.injEq, Prod.mk.injEq] at h
      obtain ⟨rfl, rfl, rfl⟩ := h
      exact cont (.inr ⟨hw, v, s1, hop, hp⟩) hrec rfl
end
end Go.AM

namespace Go.AM
open Go
variable [Globs]
structure Unref (id : Nat) (s : St) : Prop where
 tm : ∀ x V, look x s.tmps = some V → id ∉ V.ids
 heap : ∀ b cells, look b s.heap = some cells → ∀ c ∈ cells, id ∉ c.ids
 defs : ∀ x ∈ s.defers, id ∉ x.2
section
variable {P : Program} {K K' : Col} {μ μ' : Nat → Nat} {w w' : World} {s t : St} {a : Act}
theorem Sim.addAt (h : Sim K μ s a w) {id g : Nat} (hid : id < s.nid) (hnone : look id s.heap = none) (hun : Unref id s) {cs : List C} {vs : List Value} (hg : g < w.heap.size) (hK : ∀ off, K g off = .blk id)
  (hc : ∀ i v, vs[i]? = some v → w.cell? (ad g i) = some v ∧ w.frozen? (ad g i) = false) (hl : LayC K μ w cs vs) (h1 : ∀ x ∈ vs, isOne x = true)
  (hids : ∀ c ∈ cs, ∀ b ∈ c.ids, b < s.nid) (hni : ∀ c ∈ cs, id ∉ c.ids) (hno : ∀ c ∈ cs, ∀ sz xs, c ≠ .own sz xs) :
  Sim K (muSet μ id g) { s with heap := (id, cs) :: s.heap } a w := by
 obtain ⟨hr, hm0, hsq⟩ := hl
 have hm : ∀ b, b ≠ id → muSet μ id g b = μ b := fun b hb => muSet_other μ g hb
 have hmu : ∀ {c : C} {v : Value}, id ∉ c.ids → RepC K μ w c v → RepC K (muSet μ id g) w c v :=
  fun hc h => h.mu fun b hb => hm b fun e => hc (e ▸ hb)
 refine ⟨?_, h.tids, h.own, ?_, ?_, h.bound, ?_, h.dids, h.glob⟩
 ·intro t V ht
  exact ⟨(h.tm t V ht).1, (h.tm t V ht).2.mu fun b hb => hm b fun e => hun.tm t V ht (e ▸ hb)⟩
 ·intro t l sz xs ht
  have hv := h.view t l sz xs ht
  cases l with
  | tmp u => exact hv
  | cell b off =>
   intro cells z ys h2 h3
   by_cases hb : id = b
   ·subst hb
    simp only [look, if_true, Option.some.injEq] at h2; subst h2
    exact absurd rfl (hno _ (List.mem_of_getElem? h3) z ys)
   ·simp only [look, hb, if_false] at h2
    rw [muSet_other μ g (Ne.symm hb)]
    exact hv cells z ys h2 h3
 ·intro b cells hb
  by_cases e : id = b
  ·subst e
   simp only [look, if_true, Option.some.injEq] at hb; subst hb
   have hcr : CellsRep K (muSet μ id g) w id (flatC cs) := by
    intro i c hi
    obtain ⟨v, hv, hrv⟩ := hr.get hi
    refine ⟨v, by rw [muSet_same]; exact (hc i v hv).1, h1 v (List.mem_of_getElem? hv), by rw [muSet_same]; exact (hc i v hv).2, ?_, ?_⟩
    ·refine hmu ?_ hrv
     rcases flatC_ids (List.mem_of_getElem? hi) with h | ⟨d, rfl⟩
     ·exact hni c h
     ·simp [C.ids]
    ·intro sz xs e
     rcases flatC_ids (List.mem_of_getElem? hi) with h | ⟨d, rfl⟩
     ·exact absurd e (hno c h sz xs)
     ·simp at e
   exact ⟨hid, hids, fun off => by rw [muSet_same]; exact hK off, by rw [muSet_same]; exact hg, .inl ⟨hm0, hcr, hsq⟩⟩
  ·simp only [look, e, if_false] at hb
   obtain ⟨k1, k2, k3⟩ := h.heap b cells hb
   exact ⟨k1, k2, k3.mu (hm b (Ne.symm e)) fun c hc j hj => hm j fun e' => hun.heap b cells hb c hc (e' ▸ hj)⟩
 ·rw [h.defs]
  refine List.map_congr_left fun x hx => ?_
  unfold defOf
  congr 3
  refine List.map_congr_left fun b hb => ?_
  rw [hm b fun e => hun.defs x hx (e ▸ hb)]
theorem putD_same {dst : Option Nat} {v : V} {s' : St} (h : putD dst v s = some s') (l : Lc) : same (putSt dst v s) s' l := by
 cases dst with
 | none => simp only [putD, Option.some.injEq] at h; subst h; exact same.refl _ _
 | some d =>
  simp only [putD] at h
  split at h
  ·rename_i hf
   simp only [Option.some.injEq] at h; subst h
   have hl : ∀ x, look x (setTmp d v s.tmps) = look x ((d, v) :: s.tmps) := by
    intro x
    unfold setTmp
    split
    ·rename_i sz xs
     simp only [look]
     split
     ·rfl
     ·rw [look_unview]
      cases hx : look x s.tmps with
      | none => rfl
      | some u =>
       cases u with
       | view l z ys =>
        simp only [Option.map_some]
        split
        ·rename_i e
         subst e
         exfalso
         simp only [freeAt, V.isOwn, Bool.not_true, Bool.false_or, Bool.and_eq_true, List.all_eq_true] at hf
         have := hf.2 _ (mem_of_look hx)
         simp [hx] at this
        ·rfl
       | _ => rfl
    ·rfl
   cases l with
   | tmp x => exact hl x
   | vb b => intro x off sz xs; simp only [putSt, hl]
   | vt b => intro x sz xs; simp only [putSt, hl]
   | _ => rfl
  ·simp at h
theorem Sim.calm {dst : Option Nat} {v : V} (h : Sim K μ (putSt dst v s) a w) (vs : List Nat) : Sim K μ (putSt dst (calmAt vs dst v) s) a w := by
 cases dst with
 | none => exact h
 | some d =>
  simp only [calmAt]
  split
  ·exact h
  ·cases v with
   | view l sz xs =>
    refine h.weaken (tm := (d, .d (.list sz xs)) :: s.tmps) fun x u hx => ?_
    simp only [putSt, setTmp]
    simp only [look] at hx ⊢
    by_cases hd : d = x
    ·subst hd
     simp only [if_true, Option.some.injEq] at hx ⊢
     exact ⟨_, rfl, .inr ⟨l, sz, xs, rfl, hx.symm⟩⟩
    ·simp only [hd, if_false] at hx ⊢
     exact ⟨u, hx, .inl rfl⟩
   | _ => exact h
theorem After.less {n m : Nat} (h : After K μ w m K' μ' w') (hn : n ≤ m) : After K μ w n K' μ' w' := ⟨h.step, fun b hb => h.mu b (by omega)⟩
theorem Sim.noted {o : Oper} {v : V} {s' : St} {vs : List Nat} (h : Sim K μ (putDst o v s) a w) (hp : putD o.dst (calmAt vs o.dst v) s = some s') : Sim K μ s' a w :=
 (Sim.calm (dst := o.dst) h vs).same (putD_same hp)
theorem putSt_nid {dst : Option Nat} {v : V} : (putSt dst v s).nid = s.nid := by cases dst <;> rfl
theorem putD_nid {dst : Option Nat} {v : V} {s' : St} (h : putD dst v s = some s') : s'.nid = s.nid := by
 have := putD_same h .nid
 simp only [Go.AM.same, putSt_nid] at this
 exact this.symm
theorem stepD_sound {call : Call} (hcall : CallsOK P call) (hP : ProgOK P) {ops : Array Oper} {vs : List Nat} {id base i : Nat} {o : Oper} (ho : ops[i]? = some o) {t' : St} {f : Fp} (hs : Sim K μ t a w)
  (hd : ∀ d, o.dst = some d → d < a.tmps.size) (h : StepD P call ops vs id o t t' f) (hbase : base ≤ t.nid) (hmk : makesBlk o = true → id < t.nid ∧ base ≤ id ∧ Unref id t)
  {next : Act → World → Prop} {Q : Exit → Act → World → Prop}
  (hnext : ∀ K' μ' a' w', After K μ w base K' μ' w' → t.nid ≤ t'.nid → Sim K' μ' t' a' w' → a'.tmps.size = a.tmps.size → next a' w') : wpOp P ops Q i next a w := by
 unfold wpOp
 simp only [ho]
 rcases h with ⟨hw, hp, _⟩ | ⟨hw, v, t1, hop, hp⟩
 ·rw [wanted_eq hs hw]
  simp only [Bool.false_eq_true, if_false]
  refine hnext K μ _ w (After.refl _ _ _ _) (by rw [putD_nid hp]; exact Nat.le_refl _) ?_ (put_size _ _ _)
  exact (hs.put (dst := o.dst) (V := .c .undef) (v := Go.undef) hd good_undef).same (putD_same hp)
 ·rw [wanted_eq hs hw]
  simp only [if_true]
  refine .inl ?_
  cases hm : makesBlk o with
  | false =>
   rw [drawOp_old hm] at hop
   simp only [drawOld] at hop
   split at hop
   ·rename_i v0 s0 f0 h0
    simp only [Option.some.injEq, Prod.mk.injEq, ORes.val.injEq] at hop
    obtain ⟨⟨rfl, rfl⟩, _⟩ := hop
    refine op_sound hcall hP hs h0 hd ⟨?_, by simp⟩
    intro V s'' K' μ' a' w' e haf hn hs' hsz'
    simp only [ORes.val.injEq] at e
    obtain ⟨rfl, rfl⟩ := e
    exact hnext K' μ' a' w' (haf.less hbase) (by rw [putD_nid hp]; exact hn) (hs'.noted hp) hsz'
   ·simp at hop
   ·simp at hop
  | true =>
   obtain ⟨hlt, hge, hun⟩ := hmk hm
   simp only [drawOp, hm, if_true, drawNew] at hop
   split at hop
   ·rename_i v0 cs h1
    split at hop
    ·rename_i hnone
     split at hop
     ·simp at hop
     rename_i hni
     simp only [Option.some.injEq, Prod.mk.injEq, ORes.val.injEq] at hop
     obtain ⟨⟨rfl, rfl⟩, _⟩ := hop
     have hblk : ∃ c, v0 = .c c ∧ MadeC id c ∧ DoneBlk P K t a w o c cs := by
      cases hop' : o.op with
      | alloc e =>
       obtain ⟨cs', e1, e2, e3⟩ := done_alloc (K := K) (a := a) (w := w) hop' h1
       simp only [Option.some.injEq] at e1; subst e1
       exact ⟨_, e2, .inl rfl, e3⟩
      | box e x =>
       obtain ⟨cs', e1, e2, e3⟩ := done_box (K := K) (a := a) (w := w) hop' h1
       simp only [Option.some.injEq] at e1; subst e1
       exact ⟨_, e2, .inl rfl, e3⟩
      | makeSlice e l c =>
       have hsame : sameTmp l c = true := by simpa [makesBlk, hop'] using hm
       obtain ⟨cs', c', e1, e2, e3, e4⟩ := done_makeArr (K := K) (a := a) (w := w) hop' h1 hsame ⟨_, hs⟩
       simp only [Option.some.injEq] at e1; subst e1
       exact ⟨_, e2, e3, e4⟩
      | _ => simp [makesBlk, hop'] at hm
     obtain ⟨c0, rfl, hmc, arr, e, hrun, hcs⟩ := hblk
     simp only [Oper.wp, hrun, Oper.upon_value]
     have hom := oneMore_alloc w (.cells arr e)
     have hs1 : Sim (colNew K w.heap.size fun _ => .blk id) μ t a (w.alloc (.cells arr e)) :=
      hs.step (hom.step fun _ => .blk id) (by simp) (by simp) (by simp) (hom.bound hs.bound _)
     obtain ⟨g1, g2, g3, g4⟩ := hcs μ hs
     have hcell : ∀ i v, arr.toList[i]? = some v → (w.alloc (.cells arr e)).cell? (ad w.heap.size i) = some v ∧ (w.alloc (.cells arr e)).frozen? (ad w.heap.size i) = false := by
      intro i v hv
      refine ⟨?_, by rw [hom.frozen]; simp⟩
      rw [hom.cell]
      simpa using hv
     have g3' : ∀ c ∈ cs.map C.plain, ∀ b ∈ c.ids, b < t.nid := by
      intro c hc b hb
      simp only [List.mem_map] at hc
      obtain ⟨c', hc', rfl⟩ := hc
      rw [C.plain_ids] at hb
      exact g3 c' hc' b hb
     have g4' : ∀ c ∈ cs.map C.plain, ∀ sz xs, c ≠ .own sz xs := by
      intro c hc sz xs
      simp only [List.mem_map] at hc
      obtain ⟨c', _, rfl⟩ := hc
      cases c' <;> simp [C.plain]
     have hni' : ∀ c ∈ cs.map C.plain, id ∉ c.ids := by
      intro c hc hin
      exact hni (by simp only [List.contains_iff_mem, List.mem_flatMap]; exact ⟨c, hc, hin⟩)
     have hs2 := hs1.addAt hlt hnone hun (g := w.heap.size) (cs := cs.map C.plain) (vs := arr.toList) (by simp) (fun off => by simp [colNew]) hcell (g1.plain.step (hom.step fun _ => .blk id) (by simp)) g2 g3' hni' g4'
     have hgood : Good (colNew K w.heap.size fun _ => .blk id) (muSet μ id w.heap.size) { t with heap := (id, cs.map C.plain) :: t.heap } a (w.alloc (.cells arr e)) o.dst (.c c0) (blkVal w.heap.size c0) := by
      refine ⟨hmc.rep (muSet_same _ _ _), ?_, by intro sz xs e; rcases hmc with rfl | ⟨n, k, rfl⟩ <;> simp at e, by simp⟩
      intro b hb
      simp only [V.ids, hmc.ids, List.mem_singleton] at hb
      subst hb
      exact hlt
     refine hnext _ _ _ _ ⟨(hom.step fun _ => .blk id).none_mine, fun b hb => muSet_other μ w.heap.size (id := id) (b := b) (by omega)⟩ (by rw [putD_nid hp]; exact Nat.le_refl _) ?_ (put_size _ _ _)
     exact (hs2.put hd hgood).same (putD_same hp)
    ·simp at hop
   ·simp at hop
end
end Go.AM

namespace Go.AM
open Go
variable [Globs]
theorem same_tmp {s t : St} {x : Nat} (h : same s t (.tmp x)) : look x s.tmps = look x t.tmps := h
theorem same_blk {s t : St} {b : Nat} (h : same s t (.blk b)) : look b s.heap = look b t.heap := h
section
variable {P : Program} {call : Call} {ops : Array Oper} {vs : List Nat} {base kreg : Nat} {fs : List Fp} {Ss : Nat → St}
def Wr (fs : List Fp) (j : Nat) (l : Lc) : Prop := (fs.getD j default).all = true ∨ l ∈ (fs.getD j default).writes
def Us (fs : List Fp) (j : Nat) (l : Lc) : Prop := Wr fs j l ∨ l ∈ (fs.getD j default).reads
structure Checked (pn : Bool) (ops : Array Oper) (base : Nat) (fs : List Fp) : Prop where
 down : ∀ j o, ops[j]? = some o → ∀ e ∈ o.after, Region.binds .any e = true → e.on < j
 clash : ∀ i j l, i < j → j < ops.size → j < fs.length → (pn = true → j + 1 < fs.length) → (Wr fs i l ∧ Us fs j l ∨ Us fs i l ∧ Wr fs j l) → i ∈ (befores ops.toList []).getD j []
 loose : ∀ i j, i < j → j < ops.size → j + 1 = fs.length → pn = true → (fs.getD j default).all = true → i ∈ (befores ops.toList []).getD j [] ∨ AM.loose (ops.getD i default) (fs.getD i default) = true
 last : ∀ i j, i < j → j < ops.size → fs.length ≤ j → i + 1 = fs.length → i ∈ (befores ops.toList []).getD j []
 lead : ∀ i j o, i < fs.length → j < fs.length → ops[i]? = some o → makesBlk o = true → base + i ∈ (fs.getD j default).refs → i = j ∨ i ∈ (befores ops.toList []).getD j []
theorem not_apart {f g : Fp} {l : Lc} (h : f.apart g = true) :
  ¬ (((f.all = true ∨ l ∈ f.writes) ∧ ((g.all = true ∨ l ∈ g.writes) ∨ l ∈ g.reads)) ∨ (((f.all = true ∨ l ∈ f.writes) ∨ l ∈ f.reads) ∧ (g.all = true ∨ l ∈ g.writes))) := by
 simp only [Fp.apart, Bool.and_eq_true, Bool.not_eq_true', AM.apart, List.all_eq_true, List.contains_eq_mem, List.mem_append, decide_eq_false_iff_not, not_or] at h
 obtain ⟨⟨⟨h1, h2⟩, h3⟩, h4⟩ := h
 simp only [h1, h2, Bool.false_eq_true, false_or]
 rintro (⟨a, b | b⟩ | ⟨a | a, b⟩)
 ·exact (h3 l a).2 b
 ·exact (h3 l a).1 b
 ·exact (h3 l a).2 b
 ·exact h4 l b a
theorem checked_of {pn : Bool} (h : drawOk pn ops base fs = true) : Checked pn ops base fs := by
 simp only [drawOk, Bool.and_eq_true, List.all_eq_true, List.mem_range, Bool.or_eq_true, Bool.not_eq_true', decide_eq_true_eq, List.contains_iff_mem, beq_iff_eq] at h
 obtain ⟨h1, h2⟩ := h
 refine ⟨?_, ?_, ?_, ?_, ?_⟩
 ·intro j o ho e he hb
  have hj := (Array.getElem?_eq_some_iff.1 ho).1
  have := (h1 j hj).1 e (by simp [Array.getD, hj]; obtain ⟨_, e'⟩ := Array.getElem?_eq_some_iff.1 ho; rw [e']; exact he)
  rcases this with h | h
  ·rw [hb] at h; simp at h
  ·exact h
 ·intro i j l hij hj hjk hpn hc
  rcases (h1 j hj).2 i hij with h | h
  ·exact h
  ·rw [if_pos hjk] at h
   rcases Bool.or_eq_true _ _ |>.mp h with h | h
   ·exact absurd hc (not_apart h)
   ·simp only [Bool.and_eq_true, decide_eq_true_eq] at h
    have := hpn h.1.1
    omega
 ·intro i j hij hj hjk hpn hall
  rcases (h1 j hj).2 i hij with h | h
  ·exact .inl h
  ·rw [if_pos (by omega)] at h
   rcases Bool.or_eq_true _ _ |>.mp h with h | h
   ·exfalso; simp only [Fp.apart, hall, Bool.not_true, Bool.and_false, Bool.false_and, Bool.false_eq_true] at h
   ·simp only [Bool.and_eq_true, decide_eq_true_eq] at h
    exact .inr h.2
 ·intro i j hij hj hk hi
  rcases (h1 j hj).2 i hij with h | h
  ·exact h
  ·rw [if_neg (by omega)] at h
   simp at h; omega
 ·intro i j o hi hj ho hm hr
  have hio := (Array.getElem?_eq_some_iff.1 ho)
  have hgd : ops.getD i default = o := by simp [Array.getD, hio.1, hio.2]
  rcases h2 i hi with h | h
  ·rw [hgd, hm] at h; simp at h
  ·rcases h j hj with (h | h) | h
   ·exact .inl h
   ·exact .inr h
   ·rw [← Bool.not_eq_true, List.contains_iff_mem] at h
    exact absurd hr h
def Steps (P : Program) (call : Call) (ops : Array Oper) (vs : List Nat) (base : Nat) (fs : List Fp) (Ss : Nat → St) (kreg : Nat) : Prop :=
 kreg ≤ fs.length ∧ ∀ j, j < kreg → ∃ o f, ops[j]? = some o ∧ fs[j]? = some (f.fill (Ss (j + 1))) ∧ StepD P call ops vs (base + j) o (Ss j) (Ss (j + 1)) f
theorem makes_fresh {o : Oper} {id : Nat} {S S' : St} {f : Fp} (h : StepD P call ops vs id o S S' f) (hm : makesBlk o = true) (hw : wantedAt ops S.tmps o = some true) : look id S.heap = none ∧ Lc.blk id ∈ f.writes := by
 rcases h with ⟨hw', _, _⟩ | ⟨_, v, s1, hop, _⟩
 ·rw [hw] at hw'; simp at hw'
 ·simp only [drawOp, hm, if_true, drawNew] at hop
  split at hop
  ·split at hop
   ·rename_i hn
    split at hop
    ·simp at hop
    ·simp only [Option.some.injEq, Prod.mk.injEq] at hop
     obtain ⟨_, rfl⟩ := hop
     exact ⟨hn, by simp⟩
   ·simp at hop
  ·simp at hop
theorem step_local' {o : Oper} {id : Nat} {S S' t : St} {f : Fp} (h : StepD P call ops vs id o S S' f) (hall : f.all = false) (hr : ∀ l ∈ f.reads ++ f.writes, same S t l) :
  ∃ t' f', StepD P call ops vs id o t t' f' ∧ (∀ l ∈ f.writes, same S' t' l) ∧ (∀ l, l ∉ f.writes → same S S' l ∧ same t t' l) := by
 rcases h with h | h
 ·-- not wanted
  obtain ⟨hw, hp, rfl⟩ := h
  have hrt : ∀ u ∈ readsOf ops o, same S t (.tmp u) := fun u hu => hr _ (by simp [hu])
  obtain ⟨t', h1, h2, h3⟩ := putD_local (t := t) hp fun l hl => hr l (List.mem_append_right _ hl)
  obtain ⟨S'', h4, h5, h6⟩ := putD_local (t := S) hp fun l _ => same.refl S l
  rw [hp, Option.some.injEq] at h4; subst h4
  exact ⟨t', _, .inl ⟨by rw [← wanted_same hrt]; exact hw, h1, rfl⟩, fun l hl => h2 l (hr l (List.mem_append_right _ hl)), fun l hl => ⟨h6 l hl, h3 l hl⟩⟩
 ·refine step_local (.inr h) hall hr fun hm => ?_
  obtain ⟨hn, hb⟩ := makes_fresh (.inr h) hm h.1
  have : look id S.heap = look id t.heap := hr (.blk id) (List.mem_append_right _ hb)
  rw [← this]; exact hn
structure Inv (ops : Array Oper) (base : Nat) (fs : List Fp) (Ss : Nat → St) (kreg : Nat) (D : Nat → Prop) (t : St) : Prop where
 dom : ∀ j, D j → j < kreg
 closed : ∀ j o, ops[j]? = some o → D j → ∀ e ∈ o.after, Region.binds .any e = true → D e.on
 loc : ∀ l m, m ≤ kreg → (∀ j, j < m → Wr fs j l → D j) → (∀ j, m ≤ j → j < kreg → Wr fs j l → ¬ D j) → same (Ss m) t l
 unref : ∀ i o, i < kreg → ops[i]? = some o → makesBlk o = true → ¬ D i → Unref (base + i) t
theorem Steps.get (hst : Steps P call ops vs base fs Ss kreg) {j : Nat} (hj : j < kreg) : ∃ o f, ops[j]? = some o ∧ fs.getD j default = f.fill (Ss (j + 1)) ∧ StepD P call ops vs (base + j) o (Ss j) (Ss (j + 1)) f := by
 obtain ⟨o, f, h1, h2, h3⟩ := hst.2 j hj
 exact ⟨o, f, h1, by simp [List.getD, h2], h3⟩
theorem Steps.stay (hst : Steps P call ops vs base fs Ss kreg) {j : Nat} (hj : j < kreg) {l : Lc} (hw : ¬ Wr fs j l) : same (Ss j) (Ss (j + 1)) l := by
 obtain ⟨o, f, h1, h2, h3⟩ := hst.get hj
 unfold Wr at hw
 rw [h2] at hw
 simp only [Fp.fill, not_or, Bool.not_eq_true] at hw
 obtain ⟨t', f', _, _, h6⟩ := step_local' (t := Ss j) h3 hw.1 fun l _ => same.refl _ l
 exact (h6 l hw.2).1
theorem Steps.stays (hst : Steps P call ops vs base fs Ss kreg) {i : Nat} {l : Lc} : ∀ d, i + d ≤ kreg → (∀ j, i ≤ j → j < i + d → ¬ Wr fs j l) → same (Ss i) (Ss (i + d)) l
 | 0, _, _ => same.refl _ l
 | d + 1, hk, hw => (Steps.stays hst d (by omega) fun j h1 h2 => hw j h1 (by omega)).trans (hst.stay (j := i + d) (by omega) (hw _ (by omega) (by omega)))
theorem unref_of {id : Nat} {s : St} (h : id ∉ stRefs s) : Unref id s := by
 simp only [stRefs, List.mem_append, List.mem_flatMap, not_or, not_exists, not_and] at h
 obtain ⟨⟨h1, h2⟩, h3⟩ := h
 exact ⟨fun x V hx => h1 _ (mem_of_look hx), fun b cells hb c hc => h2 _ (mem_of_look hb) c hc, fun x hx => h3 x hx⟩
theorem Inv.next {pn : Bool} (hc : Checked pn ops base fs) (hpk : pn = true → kreg < fs.length) (hst : Steps P call ops vs base fs Ss kreg) (hk : kreg ≤ ops.size) {D : Nat → Prop} {t : St} (h : Inv ops base fs Ss kreg D t) {i : Nat} (hi : i < kreg) (hD : ¬ D i) {o : Oper} (ho : ops[i]? = some o)
  (he : ∀ e ∈ o.after, Region.binds .any e = true → D e.on) :
  ∃ t₀ t' f, (t₀ = t ∨ ∀ l, same t t₀ l) ∧ StepD P call ops vs (base + i) o t₀ t' f ∧ (makesBlk o = true → Unref (base + i) t₀) ∧ Inv ops base fs Ss kreg (fun j => j = i ∨ D j) t' := by
 have hfl := hst.1
 have below : ∀ j, D j → ∀ i', i' ∈ (befores ops.toList []).getD j [] → D i' := by
  intro j hj i' hi'
  refine befores_closed (ops := ops) (D := D) h.closed j i' hi' fun o' ho' e he' hb => h.closed j o' ho' hj e he' hb
 have before_i : ∀ i', i' ∈ (befores ops.toList []).getD i [] → D i' := by
  intro i' hi'
  refine befores_closed (ops := ops) (D := D) h.closed i i' hi' fun o' ho' e he' hb => ?_
  rw [ho, Option.some.injEq] at ho'; subst ho'
  exact he e he' hb
 have uses : ∀ l, Us fs i l → same (Ss i) t l := by
  intro l hl
  refine h.loc l i (by omega) ?_ ?_
  ·intro j hj hw
   exact before_i j (hc.clash j i l hj (by omega) (by omega) (fun h => by have := hpk h; omega) (.inl ⟨hw, hl⟩))
  ·intro j hj hjk hw hDj
   by_cases e : j = i
   ·exact hD (e ▸ hDj)
   ·exact hD (below j hDj i (hc.clash i j l (by omega) (by omega) (by omega) (fun h => by have := hpk h; omega) (.inr ⟨hl, hw⟩)))
 obtain ⟨o', f, ho', hf, hstep⟩ := hst.get hi
 rw [ho, Option.some.injEq] at ho'; subst ho'
 have hWr : ∀ l, Wr fs i l ↔ f.all = true ∨ l ∈ f.writes := by intro l; unfold Wr; rw [hf]; exact Iff.rfl
 have key : ∃ t₀ t' f', (t₀ = t ∨ ∀ l, same t t₀ l) ∧ StepD P call ops vs (base + i) o t₀ t' f' ∧ (∀ l, Wr fs i l → same (Ss (i + 1)) t' l) ∧ (∀ l, ¬ Wr fs i l → same t t' l) := by
  cases hall : f.all with
  | true =>
   refine ⟨Ss i, Ss (i + 1), f, .inr fun l => (uses l (.inl ((hWr l).2 (.inl hall)))).symm, hstep, fun l _ => same.refl _ l, fun l hl => absurd ((hWr l).2 (.inl hall)) hl⟩
  | false =>
   obtain ⟨t', f', h1, h2, h3⟩ := step_local' (t := t) hstep hall fun l hl => uses l (by
    rcases List.mem_append.1 hl with hl | hl
    ·exact .inr (by rw [hf]; exact hl)
    ·exact .inl ((hWr l).2 (.inr hl)))
   refine ⟨t, t', f', .inl rfl, h1, fun l hl => ?_, fun l hl => ?_⟩
   ·rcases (hWr l).1 hl with h | h
    ·rw [hall] at h; simp at h
    ·exact h2 l h
   ·exact (h3 l fun h => hl ((hWr l).2 (.inr h))).2
 obtain ⟨t₀, t', f', h1, h2, h3, h4⟩ := key
 refine ⟨t₀, t', f', h1, h2, ?_, ?_⟩
 ·intro hm
  have := h.unref i o hi ho hm hD
  rcases h1 with rfl | h1
  ·exact this
  ·refine ⟨fun x V hx => this.tm x V (Eq.trans (same_tmp (h1 (.tmp x))) hx), fun b cells hb => this.heap b cells (Eq.trans (same_blk (h1 (.blk b))) hb), fun x hx => this.defs x ?_⟩
   have : t.defers = t₀.defers := h1 .defs
   rw [this]; exact hx
 ·refine ⟨?_, ?_, ?_, ?_⟩
  ·rintro j (rfl | hj)
   ·exact hi
   ·exact h.dom j hj
  ·rintro j o' ho' (rfl | hj) e he' hb
   ·rw [ho, Option.some.injEq] at ho'; subst ho'
    exact .inr (he e he' hb)
   ·exact .inr (h.closed j o' ho' hj e he' hb)
  ·intro l m hm hb ha
   by_cases hw : Wr fs i l
   ·have him : i < m := by
     rcases Nat.lt_or_ge i m with h | h
     ·exact h
     ·exact absurd (.inl rfl) (ha i h hi hw)
    have hst' : same (Ss (i + 1)) (Ss m) l := by
     have := Steps.stays hst (i := i + 1) (l := l) (m - (i + 1)) (by omega) (by
      intro j hj1 hj2 hwj
      rcases hb j (by omega) hwj with e | hDj
      ·omega
      ·exact hD (below j hDj i (hc.clash i j l (by omega) (by omega) (by omega) (fun h => by have := hpk h; omega) (.inl ⟨hw, .inl hwj⟩))))
     rwa [show i + 1 + (m - (i + 1)) = m from by omega] at this
    exact hst'.symm.trans (h3 l hw)
   ·refine (h.loc l m hm ?_ ?_).trans (h4 l hw)
    ·intro j hj hwj
     rcases hb j hj hwj with e | hDj
     ·subst e; exact absurd hwj hw
     ·exact hDj
    ·intro j hj hjk hwj hDj
     exact ha j hj hjk hwj (.inr hDj)
  ·intro i' o' hi' ho' hm hD'
   have hne : i' ≠ i := fun e => hD' (.inl e)
   have hnD : ¬ D i' := fun h => hD' (.inr h)
   have hnr : base + i' ∉ (fs.getD i default).refs := by
    intro hr
    rcases hc.lead i' i o' (by omega) (by omega) ho' hm hr with e | hb
    ·exact hne e
    ·exact hnD (before_i i' hb)
   rw [hf] at hnr
   have hun := h.unref i' o' hi' ho' hm hnD
   cases hall : f.all with
   | true =>
    have hu : Unref (base + i') (Ss (i + 1)) := by
     refine unref_of ?_
     simpa [Fp.fill, hall] using hnr
    have hs : ∀ l, same (Ss (i + 1)) t' l := fun l => h3 l ((hWr l).2 (.inl hall))
    refine ⟨fun x V hx => hu.tm x V (Eq.trans (same_tmp (hs (.tmp x))) hx), fun b cells hb => hu.heap b cells (Eq.trans (same_blk (hs (.blk b))) hb), fun x hx => hu.defs x ?_⟩
    have : (Ss (i + 1)).defers = t'.defers := hs .defs
    rw [this]; exact hx
   | false =>
    have hnr' : ∀ l ∈ f.writes, base + i' ∉ lcRefs (Ss (i + 1)) l := by
     intro l hl hin
     refine hnr ?_
     simp only [Fp.fill, hall, Bool.false_eq_true, if_false, List.mem_flatMap]
     exact ⟨l, hl, hin⟩
    have hW : ∀ l, Wr fs i l → l ∈ f.writes := by
     intro l hl
     rcases (hWr l).1 hl with h | h
     ·rw [hall] at h; simp at h
     ·exact h
    refine ⟨fun x V hx => ?_, fun b cells hb => ?_, fun x hx => ?_⟩
    ·by_cases hw : Wr fs i (.tmp x)
     ·have e : look x (Ss (i + 1)).tmps = look x t'.tmps := h3 _ hw
      have := hnr' _ (hW _ hw)
      simpa [lcRefs, e, hx] using this
     ·have e : look x t.tmps = look x t'.tmps := h4 _ hw
      exact hun.tm x V (e.trans hx)
    ·by_cases hw : Wr fs i (.blk b)
     ·have e : look b (Ss (i + 1)).heap = look b t'.heap := h3 _ hw
      have := hnr' _ (hW _ hw)
      simp only [lcRefs, e, hb, List.mem_flatMap, not_exists, not_and] at this
      exact this
     ·have e : look b t.heap = look b t'.heap := h4 _ hw
      exact hun.heap b cells (e.trans hb)
    ·by_cases hw : Wr fs i .defs
     ·have e : (Ss (i + 1)).defers = t'.defers := h3 _ hw
      have := hnr' _ (hW _ hw)
      simp only [lcRefs, e, List.mem_flatMap, not_exists, not_and] at this
      exact this x hx
     ·have e : t.defers = t'.defers := h4 _ hw
      exact hun.defs x (by rw [e]; exact hx)
end
end Go.AM

namespace Go.AM
open Go
variable [Globs]
theorem count_set : ∀ (l : List Bool) (i : Nat), l[i]? = some false → (l.set i true).count false + 1 = l.count false
 | [], i, h => by simp at h
 | b :: l, 0, h => by simp at h; subst h; simp
 | b :: l, i + 1, h => by
  have := count_set l i (by simpa using h)
  cases b <;> simp [List.count_cons] <;> omega
theorem count_zero : ∀ (l : List Bool), l.count false = 0 → ∀ i, i < l.length → l[i]? = some true
 | [], _, i, h => by simp at h
 | b :: l, h, i, hi => by
  cases b with
  | false => simp at h
  | true =>
   cases i with
   | zero => rfl
   | succ i => simpa using count_zero l (by simpa using h) i (by simpa using hi)
section
variable {P : Program} {call : Call} {ops : Array Oper} {vs : List Nat} {base kreg : Nat} {fs : List Fp} {Ss : Nat → St}
theorem look_drop (xs : List Nat) : ∀ (tm : List (Nat × V)) (x : Nat), look x (tm.filter fun p => !xs.contains p.1) = if x ∈ xs then none else look x tm
 | [], x => by simp [look]
 | (y, v) :: tm, x => by
  have ih := look_drop xs tm x
  by_cases hy : y ∈ xs
  ·rw [List.filter_cons_of_neg (by simpa using hy), ih]
   simp only [look]
   by_cases e : y = x
   ·subst e; simp [hy]
   ·rw [if_neg e]
  ·rw [List.filter_cons_of_pos (by simpa using hy)]
   simp only [look, ih]
   by_cases e : y = x
   ·subst e; simp [hy]
   ·rw [if_neg e, if_neg e]
theorem same_drop {xs : List Nat} {s t : St} {l : Lc} (h : same s t l) : same (dropT xs s) (dropT xs t) l := by
 cases l <;> simp only [same, dropT, look_drop] at h ⊢
 case tmp x => rw [h]
 case blk => exact h
 case nid => exact h
 case defs => exact h
 case vb b =>
  intro x off sz ys
  split
  ·simp
  ·exact h x off sz ys
 case vt b =>
  intro x sz ys
  split
  ·simp
  ·exact h x sz ys
theorem Sim.dropped {K : Col} {μ : Nat → Nat} {w : World} {s : St} {a : Act} (h : Sim K μ s a w) (xs : List Nat) : Sim K μ (dropT xs s) a w :=
 h.weaken fun t v ht => by
  rw [look_drop] at ht
  split at ht
  ·simp at ht
  ·exact ⟨v, ht, .inl rfl⟩
def EndsD (P : Program) (call : Call) (ops : Array Oper) (vs : List Nat) (base : Nat) (fs : List Fp) (Ss : Nat → St) (kreg : Nat) (x : AX) (s' : St) : Prop :=
 (x = .normal ∧ kreg = ops.size ∧ Ss ops.size = s') ∨
 (∃ d o f, x = .pan d ∧ fs.length = kreg + 1 ∧ ops[kreg]? = some o ∧ fs[kreg]? = some f ∧ wantedAt ops (dropT (looseDst ops kreg) (Ss kreg)).tmps o = some true ∧ drawOp P call ops vs (base + kreg) o (dropT (looseDst ops kreg) (Ss kreg)) = some (.pan d s', f))
theorem pan_all {o : Oper} {id : Nat} {S s' : St} {d : D} {f : Fp} (h : drawOp P call ops vs id o S = some (.pan d s', f)) : f.all = true ∧ ∃ f0, evOp P call S.nid o S = some (.pan d s', f0) := by
 simp only [drawOp] at h
 split at h
 ·simp only [drawNew] at h
  split at h
  ·split at h
   ·split at h <;> simp at h
   ·simp at h
  ·simp at h
 ·simp only [drawOld] at h
  split at h
  ·simp at h
  ·rename_i d' s0 f0 h0
   simp only [Option.some.injEq, Prod.mk.injEq, ORes.pan.injEq] at h
   obtain ⟨⟨rfl, rfl⟩, rfl⟩ := h
   exact ⟨rfl, f0, h0⟩
  ·simp at h
def Dn (listed : Array Bool) (j : Nat) : Prop := listed.getD j false = true
theorem Dn_set {listed : Array Bool} {i : Nat} (hi : i < listed.size) : Dn (listed.setIfInBounds i true) = fun j => j = i ∨ Dn listed j := by
 funext j
 unfold Dn
 by_cases hj : i = j
 ·subst hj; simp [hi]
 ·rw [getD_set_ne false hj]
  simp [Ne.symm hj]
theorem ready_of_least {listed : Array Bool} (hsz : listed.size = ops.size) {pn : Bool} (hc : Checked pn ops base fs) (hr : Region.ready .any ops listed = []) : ∀ j, j < ops.size → Dn listed j := by
 intro j
 induction j using Nat.strongRecOn with
 | ind j ih =>
  intro hj
  rcases Bool.eq_false_or_eq_true (listed.getD j false) with h | h
  ·exact h
  ·exfalso
   have hm : j ∈ Region.ready .any ops listed := by
    rw [mem_ready]
    refine ⟨?_, ops[j], by simp [hj], fun e he hb => ?_⟩
    ·have hlt : j < listed.size := by omega
     simp only [Array.getD, hlt, dif_pos] at h ⊢
     exact h
    ·have hlt := hc.down j ops[j] (by simp [hj]) e he hb
     exact ih e.on hlt (by omega)
   rw [hr] at hm
   simp at hm
theorem draw_any (hcall : CallsOK P call) (hP : ProgOK P) {sz : Nat} (hd : ∀ o ∈ ops.toList, ∀ t, o.dst = some t → t < sz) {pn : Bool} (hc : Checked pn ops base fs) (hst : Steps P call ops vs base fs Ss kreg) (hk : kreg ≤ ops.size)
  (hpk : pn = true → kreg < fs.length) (hpn : kreg < fs.length → pn = true) {x : AX} {s' : St} (hend : EndsD P call ops vs base fs Ss kreg x s') {Q : Exit → Act → World → Prop} :
  ∀ (fuel : Nat) (listed : Array Bool) (K : Col) (μ : Nat → Nat) (t : St) (a : Act) (w : World), listed.size = ops.size → listed.toList.count false = fuel → Inv ops base fs Ss kreg (Dn listed) t →
   Sim K μ t a w → a.tmps.size = sz → base + ops.size ≤ t.nid → base ≤ s'.nid → Goal K μ w base sz x s' Q → wpAny P .any ops Q fuel listed a w := by
 have fin : ∀ {listed : Array Bool} {K : Col} {μ : Nat → Nat} {t : St} {a : Act} {w : World}, (∀ j, j < ops.size → Dn listed j) → Inv ops base fs Ss kreg (Dn listed) t →
   Sim K μ t a w → a.tmps.size = sz → base ≤ s'.nid → Goal K μ w base sz x s' Q → Q .normal a w := by
  intro listed K μ t a w hall hinv hs hsz hn hg
  rcases hend with ⟨rfl, hke, hss⟩ | ⟨d, o, f, _, hl, ho, _, _, _⟩
  ·have hsame : ∀ l, same t s' l := fun l => by
    rw [← hss, ← hke]
    exact (hinv.loc l kreg (Nat.le_refl _) (fun j hj _ => hall j (by omega)) (fun j h1 h2 => by omega)).symm
   exact hg .normal K μ a w rfl (After.refl _ _ _ _) hn (hs.same hsame) hsz
  ·exact absurd (hinv.dom kreg (hall kreg (Array.getElem?_eq_some_iff.1 ho).1)) (by omega)
 intro fuel
 induction fuel with
 | zero =>
  intro listed K μ t a w hls hcnt hinv hs hsz hnid hn hg
  have hall : ∀ j, j < ops.size → Dn listed j := by
   intro j hj
   have := count_zero _ hcnt j (by simpa [hls] using hj)
   simp only [Array.getElem?_toList] at this
   unfold Dn
   simp [Array.getD_eq_getD_getElem?, this]
  refine ⟨?_, fin hall hinv hs hsz hn hg⟩
  cases hr : Region.ready .any ops listed with
  | nil => rfl
  | cons j r =>
   have hm : j ∈ Region.ready .any ops listed := by rw [hr]; simp
   obtain ⟨h0, o, ho, _⟩ := mem_ready.1 hm
   have := hall j (Array.getElem?_eq_some_iff.1 ho).1
   unfold Dn at this
   have hlt : j < listed.size := by rw [hls]; exact (Array.getElem?_eq_some_iff.1 ho).1
   simp only [Array.getD, hlt, dif_pos] at this h0
   rw [this] at h0; simp at h0
 | succ fuel ih =>
  intro listed K μ t a w hls hcnt hinv hs hsz hnid hn hg
  refine ⟨fun hr => fin (ready_of_least hls hc hr) hinv hs hsz hn hg, fun i hi => ?_⟩
  obtain ⟨h0, o, ho, he⟩ := mem_ready.1 hi
  have hio := (Array.getElem?_eq_some_iff.1 ho).1
  have hlt : i < listed.size := by rw [hls]; exact hio
  have hli : listed[i]? = some false := by
   simp only [Array.getD, hlt, dif_pos] at h0
   simp [hlt]; exact h0
  have hnD : ¬ Dn listed i := by
   unfold Dn
   simp [Array.getD_eq_getD_getElem?, hli]
  have hom : o ∈ ops.toList := by
   have := Array.mem_of_getElem? ho
   simpa using this
  rcases Nat.lt_or_ge i kreg with hik | hik
  ·obtain ⟨t₀, t', f, h1, h2, h3, h4⟩ := hinv.next hc hpk hst hk hik hnD ho he
   have hs₀ : Sim K μ t₀ a w := by
    rcases h1 with rfl | h1
    ·exact hs
    ·exact hs.same h1
   have hn₀ : t₀.nid = t.nid := by
    rcases h1 with rfl | h1
    ·rfl
    ·exact (h1 .nid).symm
   refine stepD_sound (base := base) hcall hP ho hs₀ (fun d hd' => by rw [hsz]; exact hd o hom d hd') h2 (by omega) (fun hm => ⟨by omega, by omega, h3 hm⟩) ?_
   intro K' μ' a' w' haf hn' hs' hsz'
   refine ih (listed.setIfInBounds i true) K' μ' t' a' w' (by simp [hls]) ?_ (by rw [Dn_set hlt]; exact h4) hs' (by rw [hsz', hsz]) (by omega) hn (hg.later haf (Nat.le_refl _))
   have := count_set listed.toList i (by simpa using hli)
   rw [hcnt] at this
   simp only [Array.toList_setIfInBounds]
   omega
  ·rcases hend with ⟨_, hke, _⟩ | ⟨d, o', f, rfl, hl, ho', hf, hw, hop⟩
   ·omega
   ·have bef : ∀ i', i' ∈ (befores ops.toList []).getD i [] → Dn listed i' := by
     intro i' hi'
     refine befores_closed (ops := ops) (D := Dn listed) hinv.closed i i' hi' fun o'' ho'' e he' hb => ?_
     rw [ho, Option.some.injEq] at ho''; subst ho''
     exact he e he' hb
    rcases Nat.lt_or_ge kreg i with hlt' | hge
    ·have := hinv.dom kreg (bef kreg (hc.last kreg i hlt' hio (by omega) (by omega)))
     omega
    ·have hik' : i = kreg := by omega
     subst hik'
     rw [ho, Option.some.injEq] at ho'; subst ho'
     obtain ⟨hfa, f0, hev⟩ := pan_all hop
     have hfi : fs.getD i default = f := by simp [List.getD, hf]
     have hsame : ∀ l, same (dropT (looseDst ops i) t) (dropT (looseDst ops i) (Ss i)) l := fun l => by
      by_cases hl' : ∃ x ∈ looseDst ops i, l = .tmp x
      ·obtain ⟨x, hx, rfl⟩ := hl'
       show look x (List.filter _ _) = look x (List.filter _ _)
       rw [look_drop, look_drop, if_pos hx, if_pos hx]
      ·refine same_drop ?_
       refine (hinv.loc l i (Nat.le_refl _) (fun j hj hwj => ?_) (fun j h1 h2 => by omega)).symm
       rcases hc.loose j i hj hio (by omega) (hpn (by omega)) (by rw [hfi]; exact hfa) with h | h
       ·exact bef j h
       ·apply Classical.byContradiction; intro hnb
        simp only [AM.loose, Bool.and_eq_true, Bool.not_eq_true', List.all_eq_true] at h
        rcases hwj with h' | h'
        ·rw [h.1] at h'; simp at h'
        ·have h2 := h.2 l h'
         split at h2
         ·rename_i x hx
          rw [beq_iff_eq] at h2
          by_cases hbf : j ∈ (befores ops.toList []).getD i []
          ·exact absurd (bef j hbf) hnb
          ·refine hl' ⟨x, ?_, h2⟩
           simp only [looseDst, List.mem_filterMap, List.mem_range]
           exact ⟨j, hj, by rw [if_neg (by rw [List.contains_iff_mem]; exact hbf)]; exact hx⟩
         ·simp at h2
     have hs' := hs.dropped (looseDst ops i) |>.same hsame
     have hnn : t.nid = (dropT (looseDst ops i) (Ss i)).nid := hsame .nid
     unfold wpOp
     simp only [ho]
     rw [wanted_eq hs' hw]
     simp only [if_true]
     refine .inl (op_sound hcall hP hs' hev (fun d hd' => by rw [hsz]; exact hd o hom d hd') ⟨by simp, ?_⟩)
     intro d' s'' K' μ' w' u e haf hn' hs'' hr
     simp only [ORes.pan.injEq] at e
     obtain ⟨rfl, rfl⟩ := e
     exact hg _ K' μ' a w' ⟨u, rfl, hr⟩ (haf.less (by omega)) hn hs'' hsz
theorem Sim.up {K : Col} {μ : Nat → Nat} {w : World} {s : St} {a : Act} (h : Sim K μ s a w) (n : Nat) : Sim K μ { s with nid := s.nid + n } a w :=
 ⟨h.tm, fun t V ht b hb => by have := h.tids t V ht b hb; show b < s.nid + n; omega, h.own, h.view,
  fun b cells hc => by
   obtain ⟨h1, h2, h3⟩ := h.heap b cells hc
   exact ⟨by show b < s.nid + n; omega, fun c hc' i hi => by have := h2 c hc' i hi; show i < s.nid + n; omega, h3⟩,
  h.bound, h.defs, fun x hx b hb => by have := h.dids x hx b hb; show b < s.nid + n; omega, h.glob⟩
theorem Sim.drawn {K : Col} {μ : Nat → Nat} {w : World} {s : St} {a : Act} (h : Sim K μ s a w) (n : Nat) : Step mine K w K { w with drawn := n } ∧ Sim K μ s a { w with drawn := n } := by
 have hst : Step (fun _ => False) K w K { w with drawn := n } := ⟨rfl, rfl, rfl, Nat.le_refl _, fun _ _ _ => rfl, fun _ _ _ _ => ⟨rfl, rfl, rfl⟩⟩
 exact ⟨hst.none_mine, h.step hst (by simp) (by simp) (by simp) h.bound⟩
theorem draw_sound (hcall : CallsOK P call) (hP : ProgOK P) (hmix : P.follows .mixedOrders = true) {id sz : Nat} (hd : ∀ o ∈ ops.toList, ∀ t, o.dst = some t → t < sz) {K : Col} {μ : Nat → Nat} {w : World} {s : St} {a : Act} {x : AX} {s' : St}
  {Q : Exit → Act → World → Prop} (h : drawRegion P call ops s = some (x, s')) (hs : Sim K μ s a w) (hsz : a.tmps.size = sz) (hg : Goal K μ w s.nid sz x s' Q) :
  (Code.region id ops true).wp P Q a w := by
 unfold drawRegion at h
 split at h
 ·rename_i x' s1 fs hrun
  split at h
  ·rename_i hok
   simp only [Bool.and_eq_true, decide_eq_true_eq] at hok
   obtain ⟨hok, hnn⟩ := hok
   simp only [Option.some.injEq, Prod.mk.injEq] at h
   obtain ⟨rfl, rfl⟩ := h
   have hc := checked_of hok
   obtain ⟨Ss, h0, hcase⟩ := drawOps_run ops.toList 0 _ hrun
   obtain ⟨hdr, hs1⟩ := (hs.up ops.size).drawn (w.drawn + 1)
   have go : ∀ kreg, kreg ≤ ops.size → Steps P call ops (appended? ops) s.nid fs Ss kreg → EndsD P call ops (appended? ops) s.nid fs Ss kreg x' s1 → s.nid ≤ s1.nid → (x'.isPan = true → kreg < fs.length) → (kreg < fs.length → x'.isPan = true) → (Code.region id ops true).wp P Q a w := by
    intro kreg hk hst hend hn hp1 hp2
    refine wp_region_any hmix ?_
    refine draw_any hcall hP hd hc hst hk hp1 hp2 hend ops.size (Array.replicate ops.size false) K μ { s with nid := s.nid + ops.size } a _ (by simp) (by simp) ?_ hs1 hsz (Nat.le_refl _) hn (hg.later ⟨hdr, fun _ _ => rfl⟩ (Nat.le_refl _))
    have hno : ∀ j, ¬ Dn (Array.replicate ops.size false) j := by
     intro j h
     unfold Dn at h
     by_cases hj : j < ops.size <;> simp [Array.getD_eq_getD_getElem?, hj] at h
    refine ⟨fun j h => absurd h (hno j), fun j _ _ h => absurd h (hno j), ?_, ?_⟩
    ·intro l m hm hb _
     have := Steps.stays hst (i := 0) (l := l) m (by omega) fun j _ hj hw => hno j (hb j (by omega) hw)
     rw [Nat.zero_add, h0] at this
     exact this.symm
    ·intro i o hi ho hm _
     refine ⟨fun t V ht hb => ?_, fun b cells hb c hc' hin => ?_, fun y hy hin => ?_⟩
     ·have := hs.tids t V ht _ hb; omega
     ·have := (hs.heap b cells hb).2.1 c hc' _ hin; omega
     ·have := hs.dids y hy _ hin; omega
   rcases hcase with ⟨rfl, hl, hse, hall⟩ | ⟨d, k, o, f, rfl, hl, ho, hf, hw, hop, hall⟩
   ·refine go ops.size (Nat.le_refl _) ⟨by simp [hl], fun j hj => ?_⟩ (.inl ⟨rfl, rfl, by simpa using hse⟩) ?_ (by simp [AX.isPan]) (fun h => absurd h (by rw [hl]; simp))
    ·obtain ⟨o, f, q1, q2, q3⟩ := hall j (by simpa using hj)
     refine ⟨o, f, by simpa using q1, ?_, ?_⟩
     ·simpa using q2
     ·simpa using q3
    ·exact hnn
   ·have hkk : k < ops.size := by
     have := (List.getElem?_eq_some_iff.1 ho).1
     simpa using this
    refine go k (by omega) ⟨by omega, fun j hj => ?_⟩ (.inr ⟨d, o, f, rfl, hl, by simpa using ho, hf, by simpa using hw, by simpa using hop⟩) ?_ (by omega) (by simp [AX.isPan])
    ·obtain ⟨o, f, q1, q2, q3⟩ := hall j hj
     refine ⟨o, f, by simpa using q1, ?_, ?_⟩
     ·simpa using q2
     ·simpa using q3
    ·exact hnn
  ·simp at h
 ·simp at h
end
end Go.AM

namespace Go.AM
open Go
variable [Globs]
section
variable {P : Program} {K K' : Col} {μ μ' : Nat → Nat} {w w' : World} {s : St} {a : Act}
theorem iter_sound {f : St → Option (AX × St)} {keep : List Nat} {n sz : Nat} {c : Code} {x : AX} {s' : St} {Q : Exit → Act → World → Prop}
  (hf : ∀ {K : Col} {μ : Nat → Nat} {w : World} {s : St} {a : Act} {x : AX} {s' : St} {Q : Exit → Act → World → Prop}, f s = some (x, s') → Sim K μ s a w → a.tmps.size = sz → Goal K μ w s.nid sz x s' Q → c.wp P Q a w) :
  ∀ (k : Nat) (K : Col) (μ : Nat → Nat) (s : St) (a : Act) (w : World), iter f (cleanAt keep n) k s = some (x, s') → Sim K μ s a w → a.tmps.size = sz → n ≤ s.nid → Goal K μ w n sz x s' Q → Code.rounds P c Q k a w
 | 0, K, μ, s, a, w, h, _, _, _, _ => by simp [iter] at h
 | k + 1, K, μ, s, a, w, h, hs, hsz, hn, hg => by
  simp only [iter] at h
  rw [rounds_succ]
  split at h
  ·simp at h
  ·rename_i s1 hc
   obtain ⟨hs1, hn1, _⟩ := hs.clean hc
   split at h
   ·rename_i s2 hf2
    refine hf hf2 hs1 hsz ?_
    intro e K' μ' a' w' ho ha hn2 hs2 hsz2
    simp only [Out] at ho
    subst ho
    rw [hn1] at ha hn2
    exact iter_sound hf k K' μ' s2 a' w' h hs2 hsz2 hn2 (hg.later ha (Nat.le_refl _))
   ·rename_i r hnot
    cases hr : f s1 with
    | none => rw [hr] at h; simp at h
    | some r' =>
     obtain ⟨x', s2⟩ := r'
     rw [hr] at h
     have hx' : x' ≠ .normal := by
      intro e; subst e
      exact hnot s2 hr
     simp only [Option.some.injEq, Prod.mk.injEq] at h
     obtain ⟨rfl, rfl⟩ := h
     refine hf hr hs1 hsz ?_
     intro e K' μ' a' w' ho ha hn2 hs2 hsz2
     rw [hn1] at ha hn2
     have hq := hg e K' μ' a' w' ho ha hn2 hs2 hsz2
     cases e with
     | normal => cases x' <;> simp [Out] at ho; exact absurd rfl hx'
     | _ => exact hq
theorem settle_some {h : List Nat} {n sz : Nat} {r : Option (AX × St)} {x : AX} {s' : St} (hr : settle h n r = some (x, s')) :
  ∃ s0, r = some (x, s0) ∧ ∀ {K : Col} {μ : Nat → Nat} {w : World} {Q : Exit → Act → World → Prop}, Goal K μ w n sz x s' Q → Goal K μ w n sz x s0 Q := by
 unfold settle at hr
 split at hr
 ·rename_i s0
  split at hr
  ·simp only [Option.some.injEq, Prod.mk.injEq] at hr
   obtain ⟨rfl, rfl⟩ := hr
   exact ⟨_, rfl, fun h => h⟩
  ·split at hr
   ·rename_i s1 hc
    simp only [Option.some.injEq, Prod.mk.injEq] at hr
    obtain ⟨rfl, rfl⟩ := hr
    refine ⟨_, rfl, fun hg e K' μ' a' w' ho ha hn hs hsz => ?_⟩
    obtain ⟨h1, h2, _⟩ := hs.clean hc
    exact hg e K' μ' a' w' ho ha (by omega) h1 hsz
   ·simp at hr
 ·exact ⟨_, hr, fun h => h⟩
theorem leaves_some {id : Nat} {r : Option (AX × St)} {x : AX} {s' : St} (hr : leaves id r = some (x, s')) :
  (x = .normal ∧ r = some (.exit id, s')) ∨ (r = some (x, s') ∧ x ≠ .exit id) := by
 unfold leaves at hr
 split at hr
 ·rename_i id' s0
  split at hr
  ·rename_i he
   simp only [Option.some.injEq, Prod.mk.injEq] at hr
   obtain ⟨rfl, rfl⟩ := hr
   exact .inl ⟨rfl, by rw [he]⟩
  ·rename_i he
   simp only [Option.some.injEq, Prod.mk.injEq] at hr
   obtain ⟨rfl, rfl⟩ := hr
   exact .inr ⟨rfl, by simpa using he⟩
 ·rename_i hno
  refine .inr ⟨hr, ?_⟩
  rintro rfl
  exact hno _ _ hr
theorem aexec_sound {H : Nat → List Nat} {call : Call} {rounds sz : Nat} (hcall : CallsOK P call) (hP : ProgOK P) :
  ∀ (c : Code) {K : Col} {μ : Nat → Nat} {w : World} {s : St} {a : Act} {x : AX} {s' : St} {Q : Exit → Act → World → Prop}, dstsBelow sz c = true → aexec P H call rounds c s = some (x, s') →
   Sim K μ s a w → a.tmps.size = sz → Goal K μ w s.nid sz x s' Q → c.wp P Q a w
 | .skip, K, μ, w, s, a, x, s', Q, _, h, hs, hsz, hg => by
  simp only [aexec, Option.some.injEq, Prod.mk.injEq] at h
  obtain ⟨rfl, rfl⟩ := h
  exact wp_skip (hg _ K μ a w rfl (After.refl _ _ _ _) (Nat.le_refl _) hs hsz)
 | .label l, K, μ, w, s, a, x, s', Q, _, h, hs, hsz, hg => by
  simp only [aexec, Option.some.injEq, Prod.mk.injEq] at h
  obtain ⟨rfl, rfl⟩ := h
  exact wp_label (hg _ K μ a w rfl (After.refl _ _ _ _) (Nat.le_refl _) hs hsz)
 | .ret, K, μ, w, s, a, x, s', Q, _, h, hs, hsz, hg => by
  simp only [aexec, Option.some.injEq, Prod.mk.injEq] at h
  obtain ⟨rfl, rfl⟩ := h
  exact wp_ret (hg _ K μ a w rfl (After.refl _ _ _ _) (Nat.le_refl _) hs hsz)
 | .exit id, K, μ, w, s, a, x, s', Q, _, h, hs, hsz, hg => by
  simp only [aexec, Option.some.injEq, Prod.mk.injEq] at h
  obtain ⟨rfl, rfl⟩ := h
  exact wp_exit (hg _ K μ a w rfl (After.refl _ _ _ _) (Nat.le_refl _) hs hsz)
 | .seq c d, K, μ, w, s, a, x, s', Q, hd, h, hs, hsz, hg => by
  simp only [dstsBelow, Bool.and_eq_true] at hd
  simp only [aexec] at h
  refine wp_seq ?_
  split at h
  ·rename_i s1 h1
   refine aexec_sound hcall hP c hd.1 h1 hs hsz ?_
   intro e K' μ' a' w' ho ha hn hs1 hsz1
   simp only [Out] at ho; subst ho
   exact aexec_sound hcall hP d hd.2 h hs1 hsz1 (hg.later ha hn)
  ·rename_i r hnot
   cases hr : aexec P H call rounds c s with
   | none => rw [hr] at h; simp at h
   | some r' =>
    obtain ⟨x', s2⟩ := r'
    rw [hr] at h
    have hx' : x' ≠ .normal := by intro e; subst e; exact hnot s2 hr
    simp only [Option.some.injEq, Prod.mk.injEq] at h
    obtain ⟨rfl, rfl⟩ := h
    refine aexec_sound hcall hP c hd.1 hr hs hsz ?_
    intro e K' μ' a' w' ho ha hn hs1 hsz1
    have hq := hg e K' μ' a' w' ho ha hn hs1 hsz1
    cases e with
    | normal => cases x' <;> simp [Out] at ho; exact absurd rfl hx'
    | _ => exact hq
 | .cond o c d, K, μ, w, s, a, x, s', Q, hd, h, hs, hsz, hg => by
  simp only [dstsBelow, Bool.and_eq_true] at hd
  simp only [aexec] at h
  split at h
  ·rename_i ho
   have hr := ev_rep hs ho
   simp only [RepV, RepC, Rep] at hr
   obtain ⟨s0, h0, hgo⟩ := settle_some (sz := sz) h
   exact wp_cond_true hr (aexec_sound hcall hP c hd.1 h0 hs hsz (hgo hg))
  ·rename_i ho
   have hr := ev_rep hs ho
   simp only [RepV, RepC, Rep] at hr
   obtain ⟨s0, h0, hgo⟩ := settle_some (sz := sz) h
   exact wp_cond_false hr (aexec_sound hcall hP d hd.2 h0 hs hsz (hgo hg))
  ·simp at h
 | .block id c, K, μ, w, s, a, x, s', Q, hd, h, hs, hsz, hg => by
  simp only [dstsBelow] at hd
  simp only [aexec] at h
  obtain ⟨s0, h0, hgo⟩ := settle_some (sz := sz) h
  replace hg := hgo hg
  refine wp_block ?_
  rcases leaves_some h0 with ⟨rfl, h1⟩ | ⟨h1, hne⟩
  ·refine aexec_sound hcall hP c hd h1 hs hsz ?_
   intro e K' μ' a' w' ho ha hn hs1 hsz1
   simp only [Out] at ho; subst ho
   simp only [Exit.inBlock, if_true]
   exact hg _ K' μ' a' w' rfl ha hn hs1 hsz1
  ·refine aexec_sound hcall hP c hd h1 hs hsz ?_
   intro e K' μ' a' w' ho ha hn hs1 hsz1
   have hq := hg e K' μ' a' w' ho ha hn hs1 hsz1
   cases e with
   | exit id' =>
    cases x <;> simp [Out] at ho
    subst ho
    simp only [Exit.inBlock]
    rw [if_neg (by intro e; exact hne (by rw [e]))]
    exact hq
   | _ => exact hq
 | .scope c, K, μ, w, s, a, x, s', Q, hd, h, hs, hsz, hg => by
  simp only [dstsBelow] at hd
  simp only [aexec] at h
  refine wp_scope_straight ?_
  refine aexec_sound hcall hP c hd h hs hsz ?_
  intro e K' μ' a' w' ho ha hn hs1 hsz1
  have hq := hg e K' μ' a' w' ho ha hn hs1 hsz1
  cases e with
  | goto l => cases x <;> simp [Out] at ho
  | _ => exact hq
 | .loop c, K, μ, w, s, a, x, s', Q, hd, h, hs, hsz, hg => by
  simp only [dstsBelow] at hd
  simp only [aexec] at h
  exact wp_loop_rounds rounds (iter_sound (fun h1 h2 h3 h4 => aexec_sound hcall hP c hd h1 h2 h3 h4) rounds K μ s a w h hs hsz (Nat.le_refl _) hg)
 | .region id ops draw, K, μ, w, s, a, x, s', Q, hd, h, hs, hsz, hg => by
  simp only [dstsBelow, List.all_eq_true] at hd
  have hd' : ∀ o ∈ ops.toList, ∀ t, o.dst = some t → t < sz := by
   intro o ho t ht
   have := hd o ho
   rw [ht] at this
   simpa using this
  simp only [aexec] at h
  split at h
  ·simp at h
  rename_i s0 hfz
  obtain ⟨K0, hst0, hn0, _, hs0⟩ := frz_sound hs hfz
  have hg0 : Goal K0 μ w s0.nid sz x s' Q := hg.later ⟨hst0, fun _ _ => rfl⟩ (by rw [hn0]; exact Nat.le_refl _)
  have hk := hs0.keep (H id)
  cases draw with
  | true =>
   simp only [if_true] at h
   exact draw_sound hcall hP hP.mixed hd' h hk hsz hg0
  | false =>
   simp only [Bool.false_eq_true, if_false] at h
   split at h
   ·rename_i x1 s1 fs hev
    simp only [Option.some.injEq, Prod.mk.injEq] at h
    obtain ⟨rfl, rfl⟩ := h
    refine wp_region ?_
    have := evOps_sound hcall hP hd' ops.toList 0 K0 μ _ a w [] (by simp) hev hk hsz hg0
    rw [List.range_eq_range']
    simpa using this
   ·simp at h
 | .rangeFunc _ _ _ _, K, μ, w, s, a, x, s', Q, _, h, _, _, _ => by simp [aexec] at h
 | .goto _, K, μ, w, s, a, x, s', Q, _, h, _, _, _ => by simp [aexec] at h
 | .refuse _, K, μ, w, s, a, x, s', Q, _, h, _, _, _ => by simp [aexec] at h
end
end Go.AM

namespace Go.AM
open Go
variable [Globs]
theorem dstsBelow_mono {n m : Nat} (h : n ≤ m) : ∀ c : Code, dstsBelow n c = true → dstsBelow m c = true
 | .region _ ops _, hd => by
  simp only [dstsBelow, List.all_eq_true] at hd ⊢
  intro o ho
  have := hd o ho
  cases hdst : o.dst with
  | none => rfl
  | some d =>
   rw [hdst] at this
   simp only [decide_eq_true_eq] at this ⊢
   exact Nat.lt_of_lt_of_le this h
 | .seq a b, hd => by
  simp only [dstsBelow, Bool.and_eq_true] at hd ⊢
  exact ⟨dstsBelow_mono h a hd.1, dstsBelow_mono h b hd.2⟩
 | .cond _ a b, hd => by
  simp only [dstsBelow, Bool.and_eq_true] at hd ⊢
  exact ⟨dstsBelow_mono h a hd.1, dstsBelow_mono h b hd.2⟩
 | .block _ c, hd => by simp only [dstsBelow] at hd ⊢; exact dstsBelow_mono h c hd
 | .loop c, hd => by simp only [dstsBelow] at hd ⊢; exact dstsBelow_mono h c hd
 | .scope c, hd => by simp only [dstsBelow] at hd ⊢; exact dstsBelow_mono h c hd
 | .skip, _ | .label _, _ | .ret, _ | .exit _, _ | .goto _, _ | .refuse _, _ => rfl
 | .rangeFunc _ _ _ _, _ => rfl
theorem look_zipIdx' {α : Type} : ∀ {l : List α} {n k : Nat}, look k (zipIdx' n l) = if n ≤ k then l[k - n]? else none
 | [], n, k => by simp [zipIdx', look]
 | x :: l, n, k => by
  simp only [zipIdx', look]
  by_cases h : n = k
  ·subst h; simp
  ·rw [if_neg h, look_zipIdx']
   by_cases h1 : n ≤ k
   ·rw [if_pos (by omega), if_pos h1, show k - n = (k - (n + 1)) + 1 from by omega]; simp
   ·rw [if_neg (by omega), if_neg h1]
def resSem (tmps : Array Value) : ResultVar → Sem Value
 | .tmp t => pure (tmps.getD t Go.undef)
 | .cell p t => do loadVar t (← asAddr (tmps.getD p Go.undef))
theorem results_eq (fn : Func) (tmps : Array Value) : results fn tmps = (do
  let vs ← fn.results.mapM (resSem tmps)
  pure (if h : vs.size = 1 then vs[0] else .tuple vs)) := by
 unfold results
 congr 2
section
variable {P : Program} {K K' : Col} {μ μ' : Nat → Nat} {w w' : World} {s : St} {a : Act}
theorem resC_run (hs : Sim K μ s a w) {r : ResultVar} {c : C} (h : resC P s r = some c) :
  ∃ u, (resSem a.tmps r).run P w = .ok u w ∧ RepC K μ w c u ∧
   (∀ b ∈ c.ids, b < s.nid) ∧ ∀ sz xs, c ≠ .own sz xs := by
 cases r with
 | tmp t =>
  simp only [resC, Option.map_eq_some_iff, Option.bind_eq_some_iff] at h
  obtain ⟨c', ⟨v, hv, hc⟩, rfl⟩ := h
  obtain ⟨_, hr⟩ := hs.tm t v hv
  exact ⟨_, rfl, C.still_rep (argC_rep hr hc).1, fun b hb => hs.tids t v hv b (argC_ids hc b (by rw [C.still_ids] at hb; exact hb)), by intro sz xs; cases c' <;> simp [C.still]⟩
 | cell p t =>
  simp only [resC] at h
  split at h
  ·rename_i b off hp
   have hpr := (hs.tm p _ hp).2
   simp only [RepV, RepC] at hpr
   split at h
   ·rename_i cs hb0
    obtain ⟨cs0, hb, hbm, rfl⟩ := lookC_some hb0
    obtain ⟨vs, hrv, hcv⟩ := (hs.heap b cs0 hb).2.2.vals hbm
    split at h
    ·rename_i n ht hn
     split at h
     ·rename_i hle
      simp only [Option.map_eq_some_iff] at h
      obtain ⟨ds, hds, rfl⟩ := h
      have hl := loadVar_agg (P := P) (w := w) ht hn (μ b) off ((vs.drop off).take n) (by have := hrv.length; simp; omega)
       (fun i v hv => by
        rw [List.getElem?_take] at hv
        split at hv
        ·rw [get_drop] at hv; exact (hcv _ v hv).1
        ·simp at hv)
      refine ⟨_, by simp only [resSem, hpr, asAddr, Sem.run_bind, Sem.run_pure, Result.andThen_ok]; exact hl, ?_, by simp [C.ids], by simp⟩
      simp only [RepC, Rep]
      refine ⟨_, rfl, allD_rep hds ((hrv.drop off).take n) ?_⟩
      intro u hu
      obtain ⟨i, hi⟩ := List.getElem?_of_mem (List.mem_of_mem_drop (List.mem_of_mem_take hu))
      exact (hcv i u hi).2.1
     ·simp at h
    ·rename_i ht
     simp only [Option.map_eq_some_iff] at h
     obtain ⟨c', hc', rfl⟩ := h
     obtain ⟨v, hv1, hv2⟩ := hrv.get hc'
     refine ⟨v, by simp only [resSem, hpr, asAddr, Sem.run_bind, Sem.run_pure, Result.andThen_ok]; exact loadVar_one ht _ _ _ (hcv off v hv1).1, C.still_rep hv2, ?_, by intro sz xs; cases c' <;> simp [C.still]⟩
     intro i hi
     rw [C.still_ids] at hi
     exact hs.flat_ids hb (List.mem_of_getElem? hc') i hi
    ·simp at h
   ·simp at h
  ·simp at h
theorem results_list (hs : Sim K μ s a w) : ∀ {rs : List ResultVar} {cs : List C}, mapM? (resC P s) rs = some cs →
  ∃ us, (rs.mapM (resSem a.tmps)).run P w = .ok us w ∧
   RepCs K μ w cs us ∧ (∀ c ∈ cs, (∀ b ∈ c.ids, b < s.nid) ∧ ∀ sz xs, c ≠ .own sz xs)
 | [], cs, h => by
  simp only [mapM?, Option.some.injEq] at h; subst h
  exact ⟨[], by simp, .nil, by simp⟩
 | r :: rs, cs, h => by
  simp only [mapM?] at h
  split at h
  ·rename_i c cs' hc hcs
   simp only [Option.some.injEq] at h; subst h
   obtain ⟨u, h1, h2, h3, h4⟩ := resC_run hs hc
   obtain ⟨us, h5, h6, h7⟩ := results_list hs hcs
   refine ⟨u :: us, ?_, .cons h2 h6, ?_⟩
   ·simp only [List.mapM_cons, Sem.run_bind, h1, Result.andThen_ok, h5, Sem.run_pure]
   ·intro x hx
    rcases List.mem_cons.1 hx with rfl | hx
    ·exact ⟨h3, h4⟩
    ·exact h7 x hx
  ·simp at h
theorem resV_run (hs : Sim K μ s a w) {fn : Func} {v : V} (h : resV P s fn.results.toList = some v) :
  ∃ u, (results fn a.tmps).run P w = .ok u w ∧ RepV K μ w v u ∧ (∀ b ∈ v.ids, b < s.nid) ∧ PlainV v := by
 unfold resV at h
 have harr : ∀ us : List Value, (fn.results.toList.mapM (resSem a.tmps)).run P w = .ok us w →
   (results fn a.tmps).run P w = .ok (if h : us.toArray.size = 1 then us.toArray[0] else .tuple us.toArray) w := by
  intro us hu
  rw [results_eq, Sem.run_bind, Array.mapM_eq_mapM_toList, Sem.run_map, hu]
  rfl
 split at h
 ·rename_i c hm
  simp only [Option.some.injEq] at h; subst h
  obtain ⟨us, h1, h2, h3⟩ := results_list hs hm
  cases h2 with
  | cons hc hn =>
   cases hn with
   | nil =>
    rename_i u
    refine ⟨u, ?_, hc, ?_, ?_⟩
    ·rw [harr _ h1]; rfl
    ·exact (h3 c (by simp)).1
    ·refine ⟨fun sz xs e => ?_, by simp⟩
     simp only [V.c.injEq] at e
     exact (h3 c (by simp)).2 sz xs e
 ·rename_i cs hno hm
  simp only [Option.some.injEq] at h; subst h
  obtain ⟨us, h1, h2, h3⟩ := results_list hs hm
  have hl : us.toArray.size ≠ 1 := by
   intro e
   have h4 := h2.length
   have h5 : cs.length = 1 := by simpa [h4] using e
   match cs, h5 with
   | [c], _ => exact hno c rfl
  refine ⟨.tuple us.toArray, ?_, ⟨us, rfl, h2⟩, ?_, by simp [PlainV]⟩
  ·rw [harr _ h1]
   rw [dif_neg hl]
  ·intro b hb
   simp only [V.ids, List.mem_flatMap] at hb
   obtain ⟨c, hc, hb⟩ := hb
   exact (h3 c hc).1 b hb
 ·simp at h
theorem outBlks_rep (hs : Sim K μ s a w) {n : Nat} {extra ids : List Nat} {lh' : List (List C)} (h : outBlks s.heap n extra = some (ids, lh')) :
  HRep (fun b o => tagIn ids (K b o)) (fun i => μ (ids.getD i 0)) w lh' ∧ lh'.length = ids.length ∧ (∃ r, ids = idsFrom 0 n ++ r) := by
 unfold outBlks at h
 split at h
 ·simp at h
 ·split at h
  ·simp at h
  ·rename_i ids' hr
   split at h
   ·rename_i lh hlh
    simp only [Option.some.injEq, Prod.mk.injEq] at h
    obtain ⟨rfl, rfl⟩ := h
    obtain ⟨h1, h2, h3⟩ := reach_spec hr (idsFrom_nodup 0 n)
    obtain ⟨h4, h5⟩ := hrep_into hs h1 hlh
    exact ⟨h4, h5, h2⟩
   ·simp at h
theorem V.into_rep {ids : List Nat} (hK : ∀ b o, K b o = .ro → K' b o = .ro) (hμ : ∀ i b, ids[i]? = some b → μ' i = μ b) {c c' : V} {v : Value} (hc : V.into ids c = some c') (h : RepV K μ w c v)
  (hp : PlainV c) : RepV K' μ' w c' v ∧ (∀ b ∈ c'.ids, b < ids.length) ∧ PlainV c' := by
 have many : ∀ {cs cs' : List C} {vs : List Value}, mapM? (C.into ids) cs = some cs' → RepCs K μ w cs vs → RepCs K' μ' w cs' vs ∧ ∀ c ∈ cs', ∀ b ∈ c.ids, b < ids.length := by
  intro cs cs' vs hm hr
  refine ⟨hr.mapM hm fun c c' v h1 h2 => (AM.into_rep hK hμ h1 h2).1, ?_⟩
  intro c' hc' b hb
  obtain ⟨i, hi⟩ := List.getElem?_of_mem hc'
  obtain ⟨c, hci, hcc⟩ := mapM?_get hm hi
  obtain ⟨u, _, hru⟩ := hr.get hci
  exact (AM.into_rep hK hμ hcc hru).2.1 b hb
 cases c with
 | c x =>
  simp only [V.into, Option.map_eq_some_iff] at hc
  obtain ⟨x', hx, rfl⟩ := hc
  obtain ⟨h1, h2, h3⟩ := AM.into_rep (μ' := μ') hK hμ hx h
  refine ⟨h1, h2, ?_, by simp⟩
  intro sz xs e
  simp only [V.c.injEq] at e
  exact hp.1 sz xs (by rw [(h3 sz xs).1 e])
 | view l sz xs => exact absurd rfl (hp.2 l sz xs)
 | rptr cs =>
  simp only [V.into, Option.some.injEq] at hc; subst hc
  obtain ⟨blk, off, vs, h1, h2, h3⟩ := h
  exact ⟨⟨blk, off, vs, h1, fun i u hu => ⟨hK _ _ (h2 i u hu).1, (h2 i u hu).2⟩, RepL.recolor hK _ _ h3⟩, by simp [V.ids], hp⟩
 | vagg cs =>
  simp only [V.into, Option.map_eq_some_iff] at hc
  obtain ⟨cs', hm, rfl⟩ := hc
  obtain ⟨vs, h1, h2, h3⟩ := h
  obtain ⟨q1, q2⟩ := many hm h2
  refine ⟨⟨vs, h1, q1, h3⟩, ?_, by simp [PlainV]⟩
  intro b hb
  simp only [V.ids, List.mem_flatMap] at hb
  obtain ⟨c, hc, hb⟩ := hb
  exact q2 c hc b hb
 | tuple cs =>
  simp only [V.into, Option.map_eq_some_iff] at hc
  obtain ⟨cs', hm, rfl⟩ := hc
  obtain ⟨vs, h1, h2⟩ := h
  obtain ⟨q1, q2⟩ := many hm h2
  refine ⟨⟨vs, h1, q1⟩, ?_, by simp [PlainV]⟩
  intro b hb
  simp only [V.ids, List.mem_flatMap] at hb
  obtain ⟨c, hc, hb⟩ := hb
  exact q2 c hc b hb
theorem sim_enter {args : List C} {lh : List (List C)} {vs : List Value} {n : Nat} (hr : RepCs K μ w args vs) (hi : ∀ c ∈ args, ∀ b ∈ c.ids, b < lh.length) (hh : HRep K μ w lh) (hb : BoundK K w) (hgl : Glob K w) :
  Sim K μ { tmps := zipIdx' 0 (args.map fun c => V.c c.plain), heap := zipIdx' 0 lh, nid := lh.length, defers := [], pan := none }
   { tmps := vs.toArray ++ Array.replicate n Go.undef, defers := [] } w := by
 have back : ∀ {t : Nat} {v : V}, look t (zipIdx' 0 (args.map fun c => V.c c.plain)) = some v → ∃ c, args[t]? = some c ∧ v = .c c.plain := by
  intro t v h
  rw [look_zipIdx', if_pos (by omega)] at h
  simp only [Nat.sub_zero, List.getElem?_map, Option.map_eq_some_iff] at h
  obtain ⟨c, h1, rfl⟩ := h
  exact ⟨c, h1, rfl⟩
 refine ⟨?_, ?_, ?_, ?_, ?_, hb, rfl, by simp, hgl⟩
 ·intro t v ht
  obtain ⟨c, h1, rfl⟩ := back ht
  obtain ⟨u, h2, h3⟩ := hr.get h1
  have hlt := (List.getElem?_eq_some_iff.1 h2).1
  refine ⟨by simp; omega, ?_⟩
  have : (vs.toArray ++ Array.replicate n Go.undef).getD t Go.undef = u := by
   simp only [Array.getD_eq_getD_getElem?]
   rw [Array.getElem?_append_left (by simpa using hlt)]
   simp [h2]
  rw [this]
  exact C.plain_rep h3
 ·intro t v ht b hb'
  obtain ⟨c, h1, rfl⟩ := back ht
  simp only [V.ids, C.plain_ids] at hb'
  exact hi c (List.mem_of_getElem? h1) b hb'
 ·intro t sz xs ht
  obtain ⟨c, _, e⟩ := back ht
  cases c <;> simp [C.plain] at e
 ·intro t l sz xs ht
  obtain ⟨c, _, e⟩ := back ht
  simp at e
 ·intro b cells hc
  rw [show (St.heap { tmps := zipIdx' 0 (args.map fun c => V.c c.plain), heap := zipIdx' 0 lh, nid := lh.length, defers := [], pan := none }) = zipIdx' 0 lh from rfl, look_zipIdx', if_pos (by omega), Nat.sub_zero] at hc
  obtain ⟨h1, h2⟩ := hh b cells hc
  exact ⟨(List.getElem?_eq_some_iff.1 hc).1, h1, h2⟩
def EndOK (K : Col) (μ : Nat → Nat) (w : World) (n : Nat) (r : CRes) (e : Ending) (w' : World) : Prop :=
 ∃ K' μ', Step mine K w K' w' ∧ BoundK K' w' ∧ (∀ i, i < n → μ' i = μ i) ∧
   match r with
   | .ret v lh' => n ≤ lh'.length ∧ HRep K' μ' w' lh' ∧ PlainV v ∧ (∀ b ∈ v.ids, b < lh'.length) ∧ ∃ u, e = .returned u ∧ RepV K' μ' w' v u
   | .pan d lh' => lh'.length = n ∧ HRep K' μ' w' lh' ∧ ∃ u, e = .panicked [⟨u, false, false⟩] ∧ Rep K' w' d u
theorem outs_ok {n : Nat} {s' : St} {a' : Act} {extra ids : List Nat} {lh' : List (List C)} (ha : After K μ w n K' μ' w') (hs' : Sim K' μ' s' a' w')
  (ho : outBlks s'.heap n extra = some (ids, lh')) :
  Step mine K w (fun b o => tagIn ids (K' b o)) w' ∧ BoundK (fun b o => tagIn ids (K' b o)) w' ∧ (∀ i, i < n → μ' (ids.getD i 0) = μ i) ∧ n ≤ lh'.length ∧
   HRep (fun b o => tagIn ids (K' b o)) (fun i => μ' (ids.getD i 0)) w' lh' ∧ lh'.length = ids.length := by
 obtain ⟨q1, q2, r', q3⟩ := outBlks_rep hs' ho
 refine ⟨⟨ha.step.os, ha.step.tape, ha.step.output, ha.step.size, ha.step.block, fun b o hb' hn => ?_⟩, fun b o hb' => by simp only [hs'.bound b o hb']; rfl, ?_, ?_, q1, q2⟩
 ·have hc := ha.step.cell b o hb' hn
  refine ⟨hc.1, hc.2.1, ?_⟩
  simp only [hc.2.2]
  have : K b o = .ro ∨ K b o = .other := by
   by_cases h1 : K b o = .ro
   ·exact .inl h1
   ·by_cases h2 : K b o = .other
    ·exact .inr h2
    ·exact absurd ⟨h1, h2⟩ hn
  rcases this with h1 | h1 <;> rw [h1] <;> rfl
 ·intro i hi'
  have hgd : ids.getD i 0 = i := by
   rw [q3]
   simp only [List.getD, List.getElem?_append_left (show i < (idsFrom 0 n).length by rw [idsFrom_length]; exact hi'), idsFrom_get hi']
   simp
  rw [hgd, ha.mu i hi']
 ·rw [q2, q3, List.length_append, idsFrom_length]; omega
theorem endRet_sound {n : Nat} {s' : St} {a' : Act} {fn : Func} {r : CRes} (ha : After K μ w n K' μ' w') (hs' : Sim K' μ' s' a' w') (h : endRet P fn n s' = some r) :
  ∃ u, (results fn a'.tmps).run P w' = .ok u w' ∧ EndOK K μ w n r (.returned u) w' ∧ ∃ v lh, r = .ret v lh := by
 unfold endRet at h
 split at h
 ·rename_i v hv
  split at h
  ·rename_i ids lh' hob
   split at h
   ·rename_i v' hv'
    simp only [Option.some.injEq] at h; subst h
    obtain ⟨u, hu, hru, hvi, hpl⟩ := resV_run hs' hv
    obtain ⟨g1, g2, g3, g4, g5, g6⟩ := outs_ok ha hs' hob
    obtain ⟨k1, k2, k3⟩ := V.into_rep (K' := fun b o => tagIn ids (K' b o)) (μ' := fun i => μ' (ids.getD i 0)) (fun b o h => by rw [h]; rfl)
     (fun i b h => by simp [List.getD, h]) hv' hru hpl
    exact ⟨u, hu, ⟨_, _, g1, g2, g3, g4, g5, k3, by rw [g6]; exact k2, u, rfl, k1⟩, v', lh', rfl⟩
   ·simp at h
  ·simp at h
 ·simp at h
theorem endPan_sound {n : Nat} {s' : St} {a' : Act} {d : D} {u : Value} {r : CRes} (ha : After K μ w n K' μ' w') (hs' : Sim K' μ' s' a' w') (hu : Rep K' w' d u) (h : endPan d n s' = some r) :
  EndOK K μ w n r (.panicked [⟨u, false, false⟩]) w' := by
 unfold endPan at h
 split at h
 ·rename_i ids lh' hob
  split at h
  ·rename_i hl
   simp only [Option.some.injEq] at h; subst h
   obtain ⟨g1, g2, g3, g4, g5, g6⟩ := outs_ok ha hs' hob
   exact ⟨_, _, g1, g2, g3, by rw [g6]; exact hl, g5, u, rfl, Rep.recolor (fun b o h => by rw [h]; rfl) _ _ hu⟩
  ·simp at h
 ·simp at h
theorem Sim.defs_nil (hs : Sim K μ s a w) : Sim K μ { s with defers := [] } { a with defers := [] } w :=
 ⟨hs.tm, hs.tids, hs.own, hs.view, hs.heap, hs.bound, rfl, by simp, hs.glob⟩
def modeP : Option D → Value → FrameMode
 | none, _ => .returning
 | some _, u => .panicking [⟨u, false, false⟩]
def modeR : Option D → Value → FrameMode
 | none, _ => .returning
 | some _, u => .panicking [⟨u, true, false⟩]
def CallDOK (P : Program) (pan : Option D) (f : Nat) (args : List C) (lh : List (List C)) (r : CRes) : Prop :=
 ∀ K μ w vs pu, RepCs K μ w args vs → (∀ c ∈ args, ∀ b ∈ c.ids, b < lh.length) → HRep K μ w lh → BoundK K w → Glob K w → (∀ d, pan = some d → Rep K w d pu) →
  CallsD P f vs.toArray (modeP pan pu) w fun e m w' => EndOK K μ w lh.length r e w' ∧ m = (if recsF P f then modeR pan pu else modeP pan pu) ∧ ∃ u, e = .returned u
theorem run_recover {o : Oper} (h : recOp o = true) : (execOp a.eval o).run P w = .ok .recover w ∧ o.guard = none := by
 unfold recOp at h
 split at h
 ·rename_i c ho hg
  split at h
  ·rename_i hc
   refine ⟨?_, hg⟩
   simp [execOp, ho, resolve, hc, invoke, builtin]
  ·simp at h
 ·simp at h
theorem acallD_sound (hP : ProgOK P) (H : Nat → Nat → List Nat) {call : Call} (ih : CallsOK P call) (k : Nat) (pan : Option D) {f : Nat} {args : List C} {lh : List (List C)} {r : CRes} (h : acallD P H call k pan f args lh = some r) :
  Callee P f ∧ CallDOK P pan f args lh r := by
 unfold acallD at h
 split at h
 ·rename_i fn hfn
  split at h
  ·rename_i code hcode
   split at h
   ·rename_i hlen
    refine ⟨⟨fn, hfn, by rw [hcode]; rfl⟩, ?_⟩
    intro K μ w vs pu hr hi hh hb hgl hpu
    have hfo := hP.func f fn hfn
    simp only [funcOK, hcode, Bool.and_eq_true] at hfo
    have hsim := sim_enter (n := fn.ntmps - vs.toArray.size) hr hi hh hb hgl
    have hdb := dstsBelow_mono (m := (vs.toArray ++ Array.replicate (fn.ntmps - vs.toArray.size) Go.undef).size) (by simp; omega) code hfo.2
    have hrec : recsF P f = recs code := by simp only [recsF, hfn, hcode]
    have done : ∀ {x : AX} {s' : St} {e : Exit} {K' : Col} {μ' : Nat → Nat} {a' : Act} {w' : World}, (match x with | .normal | .ret => if s'.defers.isEmpty then endRet P fn lh.length s' else none | _ => none) = some r → Out K' w' x e → After K μ w lh.length K' μ' w' →
      Sim K' μ' s' a' w' → (e = .normal ∨ e = .ret) ∧ a'.defers = [] ∧ ∃ u, (results fn a'.tmps).run P w' = .ok u w' ∧ EndOK K μ w lh.length r (.returned u) w' := by
     intro x s' e K' μ' a' w' hx ho ha hs'
     have key : ∀ {o : Option CRes}, (if s'.defers.isEmpty then endRet P fn lh.length s' else none) = o → o = some r → a'.defers = [] ∧ ∃ u, (results fn a'.tmps).run P w' = .ok u w' ∧ EndOK K μ w lh.length r (.returned u) w' := by
      intro o h1 h2
      subst h2
      split at h1
      ·rename_i hd
       obtain ⟨u, hu, hE, _⟩ := endRet_sound ha hs' h1
       exact ⟨by rw [hs'.defs, List.isEmpty_iff.1 hd]; rfl, u, hu, hE⟩
      ·simp at h1
     cases x with
     | normal => exact ⟨.inl ho, key rfl hx⟩
     | ret => exact ⟨.inr ho, key rfl hx⟩
     | exit id => simp at hx
     | pan d => simp at hx
    have h' : ∃ x s', aexecR P (H f) call k pan code (enterSt args lh) = some (x, s') ∧ (match x with | .normal | .ret => if s'.defers.isEmpty then endRet P fn lh.length s' else none | _ => none) = some r := by
     split at h
     ·rename_i s' he; exact ⟨_, s', he, h⟩
     ·rename_i s' he; exact ⟨_, s', he, h⟩
     ·simp at h
    obtain ⟨x, s', hex, hx⟩ := h'
    unfold aexecR at hex
    split at hex
    ·rename_i hrc
     refine (callsD_of_wp (R := fun e w' => EndOK K μ w lh.length r e w' ∧ ∃ u, e = .returned u) hfn hcode (aexec_sound ih hP code hdb hex hsim rfl ?_)).mono ?_
     ·intro e K' μ' a' w' ho ha hn hs' hsz
      obtain ⟨he, hd, u, hu, hE⟩ := done hx ho ha hs'
      rcases he with rfl | rfl
      ·exact ⟨hd, u, hu, hE, u, rfl⟩
      ·exact ⟨hd, u, hu, hE, u, rfl⟩
     ·rintro e u' w' ⟨rfl, hE, hu⟩
      exact ⟨hE, by rw [hrec, hrc]; rfl, hu⟩
    ·rename_i hrc
     split at hex
     ·rename_i id ops b
      split at hex
      ·rename_i o o1 hops
       have hdops : ∀ q ∈ ops.toList, ∀ t, q.dst = some t → t < (vs.toArray ++ Array.replicate (fn.ntmps - vs.toArray.size) Go.undef).size := by
        intro q hq t ht
        simp only [dstsBelow, Bool.and_eq_true, List.all_eq_true] at hdb
        have := hdb.1 q hq
        rw [ht] at this
        simpa using this
       have hdbb : dstsBelow (vs.toArray ++ Array.replicate (fn.ntmps - vs.toArray.size) Go.undef).size b = true := by
        simp only [dstsBelow, Bool.and_eq_true] at hdb
        exact hdb.2
       simp only [recs, hops] at hrc
       obtain ⟨hr0, d, hd0, ha1, hg1⟩ : recOp o = true ∧ ∃ d, o.dst = some d ∧ o1.op = .assign (.tmp d) ∧ o1.guard = none := by
        revert hrc
        simp only [Bool.and_eq_true]
        rintro ⟨h1, h2⟩
        refine ⟨h1, ?_⟩
        split at h2
        ·rename_i d x e1 e2 e3
         simp only [beq_iff_eq] at h2
         subst h2
         exact ⟨_, e1, e2, e3⟩
        ·simp at h2
       refine callsD_of_wpS hfn hcode ?_
       generalize hA0 : ({ tmps := vs.toArray ++ Array.replicate (fn.ntmps - vs.toArray.size) Go.undef, defers := [] } : Act) = a0 at hsim ⊢
       have hsz0 : a0.tmps.size = (vs.toArray ++ Array.replicate (fn.ntmps - vs.toArray.size) Go.undef).size := by rw [← hA0]
       rw [← hsz0] at hdbb hdops
       intro c₀ cs hc0
       refine wpS_seq (wpS_region ?_)
       have h0 : ops[0]? = some o := by rw [← Array.getElem?_toList, hops]; rfl
       have h1 : ops[1]? = some o1 := by rw [← Array.getElem?_toList, hops]; rfl
       have hsize : ops.size = 2 := by rw [← Array.length_toList, hops]; rfl
       rw [hsize, show List.range 2 = [0, 1] from rfl]
       simp only [wpOpsS, h0, h1]
       have wanted : ∀ {q : Oper} {t : Array Value}, q.guard = none → Region.wanted q (yielded ops t) = true := by
        intro q t hq
        simp [Region.wanted, hq]
       rw [wanted (run_recover (a := { tmps := #[], defers := [] }) (P := P) (w := w) hr0).2]
       simp only [if_true]
       rw [(run_recover hr0).1]
       simp only
       have hdl : d < a0.tmps.size := hdops o (by rw [hops]; simp) d hd0
       have hrun1 : ∀ v, (execOp (Act.put a0 o.dst v).eval o1).run P w = .ok (.value v) w := by
        intro v
        have : (Act.put a0 o.dst v).eval (.tmp d) = v := by
         rw [hd0]
         show (Act.put a0 (some d) v).tmps.getD d Go.undef = v
         rw [getD_put, if_pos ⟨rfl, hdl⟩]
        simp [execOp, ha1, this]
       have fin : ∀ (v : Value) (cs' : List Frame), RepV K μ w (recV pan) v → (∃ u', cs' = { c₀ with mode := u' } :: cs ∧ u' = modeR pan pu) →
         b.wpS P (bodyPostS P fn c₀ cs fun e m w' => EndOK K μ w lh.length r e w' ∧ m = (if recsF P f then modeR pan pu else modeP pan pu) ∧ ∃ u, e = .returned u) ((Act.put a0 o.dst v).put o1.dst v) cs' w := by
        intro v cs' hv hcs
        refine wpS_of_wp ?_
        have hs0 := hsim.keep (H f id)
        have hgood : ∀ {K : Col} {μ : Nat → Nat} {s : St} {a : Act} {w : World} {dst : Option Nat}, RepV K μ w (recV pan) v → Good K μ s a w dst (recV pan) v := by
         intro K μ s a w dst hv
         refine ⟨hv, ?_, ?_, ?_⟩ <;> cases pan <;> simp [recV, Go.AM.V.ids, C.ids]
        have hs1 := hs0.put (dst := o.dst) (hdops o (by rw [hops]; simp)) (hgood hv)
        have hs2 := hs1.put (dst := o1.dst) (by rw [put_size]; exact hdops o1 (by rw [hops]; simp)) (hgood hv)
        have hnid : ∀ (q : Oper) (V : V) (s : St), (putDst q V s).nid = s.nid := by intro q V s; unfold putDst putSt; cases q.dst <;> rfl
        refine aexec_sound ih hP b (by rw [put_size, put_size]; exact hdbb) hex hs2 rfl ?_
        intro e K' μ' a' w' ho ha hn hs' hsz
        have hnid2 : ∀ (dst : Option Nat) (V : V) (s : St), (putSt dst V s).nid = s.nid := by intro dst V s; cases dst <;> rfl
        simp only [hnid, hnid2] at ha
        obtain ⟨he, hd, u, hu, hE⟩ := done hx ho ha hs'
        obtain ⟨u', hcs, hu'⟩ := hcs
        have hm : u' = (if recsF P f then modeR pan pu else modeP pan pu) := by
         rw [hrec, show recs (.seq (.region id ops false) b) = true from by simp only [recs, hops]; exact hrc]; exact hu'
        rcases he with rfl | rfl
        ·exact ⟨hd, u', hcs, u, hu, hE, hm, u, rfl⟩
        ·exact ⟨hd, u', hcs, u, hu, hE, hm, u, rfl⟩
       cases pan with
       | none =>
        have e : ({ c₀ with mode := .returning } : Frame) = c₀ := by cases c₀; simp only [modeP] at hc0; simp only [hc0]
        have : recoverD (c₀ :: cs) = none := by simp only [recoverD, hc0, modeP]
        rw [this]
        simp only [wanted hg1, if_true, hrun1, Oper.upon_value]
        exact fin .nilIface (c₀ :: cs) (by simp [recV, RepV, RepC, Rep]) ⟨.returning, by rw [e], rfl⟩
       | some d' =>
        have : recoverD (c₀ :: cs) = some (pu, { c₀ with mode := .panicking [⟨pu, true, false⟩] } :: cs) := by simp only [recoverD, hc0, modeP]
        rw [this]
        simp only [wanted hg1, if_true, hrun1, Oper.upon_value]
        exact fin pu _ (show Rep K w d' pu from hpu d' rfl) ⟨.panicking [⟨pu, true, false⟩], rfl, rfl⟩
      ·simp at hex
     ·simp at hex
   ·simp at h
  ·simp at h
 ·simp at h
theorem doCallD_sound (hP : ProgOK P) (H : Nat → Nat → List Nat) {call : Call} (ih : CallsOK P call) (k : Nat) (pan : Option D) {f : Nat} {args : List C} {r : ORes} {ids : List Nat} (h : doCall (acallD P H call k pan) f args s = some (r, ids)) (hs : Sim K μ s a w)
  {vs : List Value} (hargs : RepCs K μ w args vs) {pu : Value} (hpu : ∀ d, pan = some d → Rep K w d pu) :
  Callee P f ∧ CallsD P f vs.toArray (modeP pan pu) w fun e m w' => m = (if recsF P f then modeR pan pu else modeP pan pu) ∧ ∃ K' μ', After K μ w s.nid K' μ' w' ∧ ResOf K' μ' s a w' s.nid r e ∧ ∃ u, e = .returned u := by
 obtain ⟨args', lh, r', h1, h2, h3, h4, h5, h6, h7⟩ := doCall_frame h hs hargs
 obtain ⟨q1, q2⟩ := acallD_sound hP H ih k pan h1
 refine ⟨q1, (q2 _ _ _ _ _ h2 h3 h4 h5 h6 (fun d hd => ?_)).mono ?_⟩
 ·exact Rep.recolor (fun b o h => by rw [h]; rfl) _ _ (hpu d hd)
 ·rintro e m w' ⟨hE, hm, hu⟩
  obtain ⟨K', μ', hA, hR⟩ := h7 e w' hE
  exact ⟨hm, K', μ', hA, hR, hu⟩
theorem runDefers_sound (hP : ProgOK P) (H : Nat → Nat → List Nat) {call : Call} (ih : CallsOK P call) (k : Nat) {fn : Func} {tmps : Array Value} {R : Ending → World → Prop} :
  ∀ (ds : List (Nat × List Nat)) (pan : Option D) (pu : Value) (s : St) (K : Col) (μ : Nat → Nat) (w : World) {pan' : Option D} {s' : St}, runDefers P H call k ds pan s = some (pan', s') → s.defers = [] →
   Sim K μ s { tmps := tmps, defers := [] } w → (∀ x ∈ ds, ∀ b ∈ x.2, b < s.nid) → (∀ d, pan = some d → Rep K w d pu) →
   (∀ K' μ' w' pu', After K μ w s.nid K' μ' w' → s.nid ≤ s'.nid → Sim K' μ' s' { tmps := tmps, defers := [] } w' → (∀ d, pan' = some d → Rep K' w' d pu') → Leaves P fn tmps R [] (modeP pan' pu') w') →
   Leaves P fn tmps R (ds.map (defOf μ)) (modeP pan pu) w
 | [], pan, pu, s, K, μ, w, pan', s', h, _, hs, _, hpu, hend => by
  simp only [runDefers, Option.some.injEq, Prod.mk.injEq] at h
  obtain ⟨rfl, rfl⟩ := h
  exact hend K μ w pu (After.refl _ _ _ _) (Nat.le_refl _) hs hpu
 | (g, caps) :: ds, pan, pu, s, K, μ, w, pan', s', h, hd0, hs, hin, hpu, hend => by
  simp only [runDefers] at h
  split at h
  ·rename_i v s1 ids hc
   have hargs : RepCs K μ w (caps.map fun b => C.ptr b 0) (caps.map fun b => Value.pointer (some (ad (μ b) 0))) := by
    refine RepCs.of_get (by simp) fun i c v hc hv => ?_
    simp only [List.getElem?_map, Option.map_eq_some_iff] at hc hv
    obtain ⟨b, hb, rfl⟩ := hc
    obtain ⟨b', hb', rfl⟩ := hv
    rw [hb, Option.some.injEq] at hb'; subst hb'
    rfl
   obtain ⟨⟨fg, hfg, hbg⟩, hcall⟩ := doCallD_sound hP H ih k pan hc hs hargs hpu
   have hmode : modeP pan pu ≠ .run := by cases pan <;> simp [modeP]
   simp only [List.map_cons]
   refine leaves_cons (fv := .func g) (f := g) hmode ?_ (hcall.mono ?_)
   ·have hbn : fg.body.isNone = false := by cases hb : fg.body <;> simp [hb] at hbg ⊢
    have hnm : (fg.name == "runtime.NumGoroutine") = false := by
     have := hP.func g fg hfg
     simp only [funcOK, Bool.and_eq_true, Bool.not_eq_true'] at this
     exact this.1
    simp [invoke, callFunc, hfg, hnm, hbn, -beq_iff_eq, -beq_eq_false_iff_ne, -Option.isNone_iff_eq_none]
   ·rintro e m w' ⟨hm, K', μ', hA, hR, u, rfl⟩
    obtain ⟨hs', hn, hpl, hvi, hdf, _⟩ := hR
    have hset : Go.settle m = modeP (if recsF P g then none else pan) pu := by
     subst hm
     cases hr : recsF P g <;> cases pan <;> simp [modeP, modeR, Go.settle]
    show Leaves P fn tmps R (ds.map (defOf μ)) (Go.settle m) w'
    rw [hset]
    have hmap : ds.map (defOf μ) = ds.map (defOf μ') := by
     refine List.map_congr_left fun x hx => ?_
     unfold defOf
     congr 3
     refine List.map_congr_left fun b hb => ?_
     rw [hA.mu b (hin x (List.mem_cons_of_mem _ hx) b hb)]
    rw [hmap]
    refine runDefers_sound hP H ih k ds _ pu s1 K' μ' w' h (by rw [hdf, hd0]) hs' (fun x hx b hb => Nat.lt_of_lt_of_le (hin x (List.mem_cons_of_mem _ hx) b hb) hn) ?_ ?_
    ·intro d hd
     split at hd
     ·simp at hd
     ·exact Rep.step hA.step (by simp [mine]) _ _ (hpu d hd)
    ·intro K2 μ2 w2 pu2 hA2 hn2 hs2 hp2
     exact hend K2 μ2 w2 pu2 (hA.trans hA2 hn) (by omega) hs2 hp2
  ·simp at h
theorem finish_sound (hP : ProgOK P) (H : Nat → Nat → List Nat) {call : Call} (ih : CallsOK P call) (k : Nat) {fn : Func} {n : Nat} {x : AX} {s' : St} {r : CRes} {e : Exit} {a' : Act} (h : finish P H call k fn n x s' = some r)
  (ho : Out K' w' x e) (ha : After K μ w n K' μ' w') (hn : n ≤ s'.nid) (hs' : Sim K' μ' s' a' w') : bodyPostD P fn (fun e w' => EndOK K μ w n r e w') e a' w' := by
 have hs0 : Sim K' μ' { s' with defers := [] } { tmps := a'.tmps, defers := [] } w' := hs'.defs_nil
 have ret0 : ∀ {s2 : St} {K2 : Col} {μ2 : Nat → Nat} {w2 : World}, endRet P fn n s2 = some r → After K μ w n K2 μ2 w2 → Sim K2 μ2 s2 { tmps := a'.tmps, defers := [] } w2 → Leaves P fn a'.tmps (fun e w' => EndOK K μ w n r e w') [] .returning w2 := by
  intro s2 K2 μ2 w2 he ha2 hs2
  obtain ⟨u, hu, hE, _⟩ := endRet_sound ha2 hs2 he
  exact ⟨u, hu, hE⟩
 have pan0 : ∀ {d : D} {u : Value} {s2 : St} {K2 : Col} {μ2 : Nat → Nat} {w2 : World}, endPan d n s2 = some r → After K μ w n K2 μ2 w2 → Sim K2 μ2 s2 { tmps := a'.tmps, defers := [] } w2 → Rep K2 w2 d u → Leaves P fn a'.tmps (fun e w' => EndOK K μ w n r e w') [] (.panicking [⟨u, false, false⟩]) w2 :=
  fun he ha2 hs2 hu => endPan_sound ha2 hs2 hu he
 have normal : ∀ {o : Option CRes}, (if s'.defers.isEmpty then endRet P fn n s' else
   match runDefers P H call k s'.defers none { s' with defers := [] } with
   | some (none, s') => endRet P fn n s'
   | _ => none) = o → o = some r → Leaves P fn a'.tmps (fun e w' => EndOK K μ w n r e w') a'.defers .returning w' := by
  intro o h1 h2
  subst h2
  rw [hs'.defs]
  split at h1
  ·rename_i hd
   rw [List.isEmpty_iff.1 hd]
   refine ret0 (s2 := s') h1 ha ?_
   have := hs'.defs_nil
   rw [← List.isEmpty_iff.1 hd] at this
   exact this
  ·split at h1
   ·rename_i s2 hrun
    refine runDefers_sound hP H ih k s'.defers none Go.undef _ K' μ' w' hrun rfl hs0 hs'.dids (by simp) ?_
    intro K2 μ2 w2 pu2 hA hn2 hs2 _
    exact ret0 h1 (ha.trans hA hn) hs2
   ·simp at h1
 cases x with
 | normal => simp only [Out] at ho; subst ho; exact normal rfl h
 | ret => simp only [Out] at ho; subst ho; exact normal rfl h
 | exit id => simp [finish] at h
 | pan d =>
  obtain ⟨u, rfl, hu⟩ := ho
  show Leaves P fn a'.tmps _ a'.defers (.panicking [⟨u, false, false⟩]) w'
  rw [hs'.defs]
  simp only [finish] at h
  split at h
  ·rename_i hd
   rw [List.isEmpty_iff.1 hd]
   refine pan0 (s2 := s') h ha ?_ hu
   have := hs'.defs_nil
   rw [← List.isEmpty_iff.1 hd] at this
   exact this
  ·split at h
   ·rename_i s2 hrun
    refine runDefers_sound hP H ih k s'.defers (some d) u _ K' μ' w' hrun rfl hs0 hs'.dids (by intro d' e; simp only [Option.some.injEq] at e; subst e; exact hu) ?_
    intro K2 μ2 w2 pu2 hA hn2 hs2 _
    exact ret0 h (ha.trans hA hn) hs2
   ·rename_i d' s2 hrun
    refine runDefers_sound hP H ih k s'.defers (some d) u _ K' μ' w' hrun rfl hs0 hs'.dids (by intro d' e; simp only [Option.some.injEq] at e; subst e; exact hu) ?_
    intro K2 μ2 w2 pu2 hA hn2 hs2 hp2
    exact pan0 h (ha.trans hA hn) hs2 (hp2 d' rfl)
   ·simp at h
theorem acall1_sound (hP : ProgOK P) {E : Nat → Option Call} (hE : ∀ f g, E f = some g → ∀ args lh r, g f args lh = some r → Callee P f ∧ CallOK P f args lh r) (H : Nat → Nat → List Nat) {call : Call} (ih : CallsOK P call) (k : Nat) : CallsOK P (acall1 P E H call k) := by
 intro f args lh r h
 simp only [acall1] at h
 split at h
 ·rename_i g hg
  exact hE f g hg args lh r h
 ·split at h
  ·rename_i fn hfn
   split at h
   ·rename_i code hcode
    split at h
    ·rename_i hlen
     refine ⟨⟨fn, hfn, by rw [hcode]; rfl⟩, ?_⟩
     intro K μ w vs hr hi hh hb hgl
     have hfo := hP.func f fn hfn
     simp only [funcOK, hcode, Bool.and_eq_true] at hfo
     have hsim := sim_enter (n := fn.ntmps - vs.toArray.size) hr hi hh hb hgl
     have hdb := dstsBelow_mono (m := (vs.toArray ++ Array.replicate (fn.ntmps - vs.toArray.size) Go.undef).size) (by simp; omega) code hfo.2
     split at h
     ·rename_i x s' hex
      refine calls_of_wp_defers (R := fun e w' => EndOK K μ w lh.length r e w') hfn hcode (aexec_sound ih hP code hdb hex hsim rfl ?_)
      intro e K' μ' a' w' ho ha hn hs' hsz
      exact finish_sound hP H ih k h ho ha hn hs'
     ·simp at h
    ·simp at h
   ·simp at h
  ·simp at h
theorem CallOK.of_still {f : Nat} {args : List C} {lh : List (List C)} {r : CRes} (h : CallOK P f (args.map C.still) lh r) : CallOK P f args lh r := by
 intro K μ w vs hr hi hh hb hg
 refine h K μ w vs hr.still ?_ hh hb hg
 intro c hc b hbb
 simp only [List.mem_map] at hc
 obtain ⟨c', hc', rfl⟩ := hc
 rw [C.still_ids] at hbb
 exact hi c' hc' b hbb
theorem acall_sound (hP : ProgOK P) {E : Nat → Option Call} (hE : ∀ f g, E f = some g → ∀ args lh r, g f args lh = some r → Callee P f ∧ CallOK P f args lh r) (H : Nat → Nat → List Nat) :
  ∀ k, CallsOK P (acall P E H k)
 | 0 => fun f args lh r h => by simp [acall] at h
 | k + 1 => fun f args lh r h => by
  have ih := acall1_sound hP hE H (acall_sound hP hE H k) k
  simp only [acall] at h
  have := ih _ _ _ _ h
  split at this
  ·exact ⟨this.1, this.2.of_still⟩
  ·exact this
end
end Go.AM

namespace Go.AM
open Go Go.RowKit
variable [Globs]
def colRo (w : World) : Col := fun b _ => if b < w.heap.size then .ro else .other
theorem below_of_step {w w' : World} {K' : Col} (h : Step mine (colRo w) w K' w') : Below w.heap.size w w' :=
 ⟨h.os, h.tape, h.output, h.size, fun b hb => h.block b hb fun off hm => by
  simp only [colRo, hb, if_true] at hm
  exact hm.1 rfl⟩
def GlobW (w : World) : Prop := ∀ x ∈ Globs.tab, ∀ i v, x.2[i]? = some v → w.cell? (ad x.1 i) = some v
theorem GlobW.glob {w : World} (h : GlobW w) : Glob (colRo w) w := by
 intro x hx i v hv
 have := h x hx i v hv
 rw [Nat.zero_add]
 exact ⟨by simp [colRo, block_lt this], this⟩
section
variable {P : Program} {f : Nat} {args : List C} {w : World} {vs : List Value}
theorem calls_ret {v : V} (h : CallOK P f args [] (.ret v [])) (hargs : RepCs (colRo w) (fun _ => 0) w args vs) (hids : ∀ c ∈ args, c.ids = []) (hg : GlobW w) :
  Calls P f vs.toArray w fun e w' => Below w.heap.size w w' ∧ ∃ u K' μ', e = .returned u ∧ RepV K' μ' w' v u := by
 refine (h (colRo w) (fun _ => 0) w vs hargs (fun c hc b hb => by rw [hids c hc] at hb; simp at hb) (fun i cells hi => by simp at hi)
  (fun b off hb => by simp only [colRo]; rw [if_neg (by omega)]) hg.glob).mono ?_
 rintro e w' ⟨K', μ', hst, _, _, _, _, _, _, u, rfl, hu⟩
 exact ⟨below_of_step hst, u, K', μ', rfl, hu⟩
theorem calls_true (h : CallOK P f args [] (.ret (.d (.bool true)) [])) (hargs : RepCs (colRo w) (fun _ => 0) w args vs) (hids : ∀ c ∈ args, c.ids = []) (hg : GlobW w) :
  Calls P f vs.toArray w fun e w' => e = .returned (.bool true) ∧ Below w.heap.size w w' := by
 refine (calls_ret h hargs hids hg).mono ?_
 rintro e w' ⟨hb, u, K', μ', rfl, hu⟩
 simp only [RepV, RepC, Rep] at hu
 subst hu
 exact ⟨rfl, hb⟩
end
end Go.AM

namespace Go.AM
open Go
def Evt (p : Nat → Prop) : Prop := ∃ k₀, ∀ k, k₀ ≤ k → p k
theorem Evt.of {p : Nat → Prop} (h : ∀ k, p k) : Evt p := ⟨0, fun k _ => h k⟩
theorem Evt.and {p q : Nat → Prop} (h : Evt p) (h' : Evt q) : Evt fun k => p k ∧ q k := by
 obtain ⟨a, ha⟩ := h; obtain ⟨b, hb⟩ := h'
 exact ⟨max a b, fun k hk => ⟨ha k (by omega), hb k (by omega)⟩⟩
theorem Evt.imp {p q : Nat → Prop} (h : Evt p) (hq : ∀ k, p k → q k) : Evt q := by
 obtain ⟨a, ha⟩ := h; exact ⟨a, fun k hk => hq k (ha k hk)⟩
theorem Evt.succ {p : Nat → Prop} (h : Evt fun k => p (k + 1)) : Evt p := by
 obtain ⟨a, ha⟩ := h
 refine ⟨a + 1, fun k hk => ?_⟩
 obtain ⟨j, rfl⟩ : ∃ j, k = j + 1 := ⟨k - 1, by omega⟩
 exact ha j (by omega)
structure Ctx where
 P : Program
 E : Nat → Option Call
 H : Nat → Nat → List Nat
abbrev Ctx.call (X : Ctx) (k : Nat) : Call := acall X.P X.E X.H k
def aval (X : Ctx) (f : Nat) (args : List C) (lh : List (List C)) (r : CRes) : Prop := Evt fun k => X.call k f args lh = some r
structure awp (X : Ctx) (f : Nat) (c : Code) (Q : AX → St → Prop) (s : St) : Prop where
 ex : ∃ x s', (Evt fun k => aexec X.P (X.H f) (X.call k) k c s = some (x, s')) ∧ Q x s'
structure awpO (X : Ctx) (ops : Array Oper) (l : List Oper) (Q : AX → St → Prop) (s : St) : Prop where
 ex : ∃ x s', (Evt fun k => ∀ fs, ∃ fs', evOps X.P (X.call k) ops l s fs = some (x, s', fs')) ∧ Q x s'
structure awpD (X : Ctx) (ops : Array Oper) (vs : List Nat) (base : Nat) (pre : List Fp) (l : List Oper) (i : Nat) (Q : AX → St → Prop) (s : St) : Prop where
 ex : ∃ x s' fs, (Evt fun k => drawOps X.P (X.call k) ops vs base l i s = some (x, s', fs)) ∧ (drawOk x.isPan ops base (pre ++ fs) && decide (base ≤ s'.nid)) = true ∧ Q x s'
structure awpL (X : Ctx) (f : Nat) (c : Code) (clean : St → Option St) (Q : AX → St → Prop) (s : St) : Prop where
 ex : ∃ x s', (∃ m₀, Evt fun k => ∀ m, m₀ ≤ m → iter (aexec X.P (X.H f) (X.call k) k c) clean m s = some (x, s')) ∧ Q x s'
inductive seqQ (X : Ctx) (f : Nat) (b : Code) (Q : AX → St → Prop) : AX → St → Prop where
 | normal {s : St} : awp X f b Q s → seqQ X f b Q .normal s
 | exit {id : Nat} {s : St} : Q (.exit id) s → seqQ X f b Q (.exit id) s
 | ret {s : St} : Q .ret s → seqQ X f b Q .ret s
 | pan {d : D} {s : St} : Q (.pan d) s → seqQ X f b Q (.pan d) s
def settleS (h : List Nat) (n : Nat) (s : St) : Option St := match h with
 | [] => some s
 | _ :: ks => cleanAt ks n s
theorem settle_normal {h : List Nat} {n : Nat} {s s' : St} (hs : settleS h n s = some s') : settle h n (some (.normal, s)) = some (.normal, s') := by
 cases h with
 | nil => simp only [settleS, Option.some.injEq] at hs; subst hs; rfl
 | cons k ks => simp only [settleS] at hs; simp only [settle, hs]
inductive exitQ (id : Nat) (hk : List Nat) (n : Nat) (Q : AX → St → Prop) : AX → St → Prop where
 | here {s s' : St} : settleS hk n s = some s' → Q .normal s' → exitQ id hk n Q (.exit id) s
 | there {id' : Nat} {s : St} : (id' == id) = false → Q (.exit id') s → exitQ id hk n Q (.exit id') s
 | normal {s s' : St} : settleS hk n s = some s' → Q .normal s' → exitQ id hk n Q .normal s
 | ret {s : St} : Q .ret s → exitQ id hk n Q .ret s
 | pan {d : D} {s : St} : Q (.pan d) s → exitQ id hk n Q (.pan d) s
inductive condQ (hk : List Nat) (n : Nat) (Q : AX → St → Prop) : AX → St → Prop where
 | normal {s s' : St} : settleS hk n s = some s' → Q .normal s' → condQ hk n Q .normal s
 | exit {id : Nat} {s : St} : Q (.exit id) s → condQ hk n Q (.exit id) s
 | ret {s : St} : Q .ret s → condQ hk n Q .ret s
 | pan {d : D} {s : St} : Q (.pan d) s → condQ hk n Q (.pan d) s
theorem condQ.settled {hk : List Nat} {n : Nat} {Q : AX → St → Prop} {x : AX} {s : St} (h : condQ hk n Q x s) : ∃ s', settle hk n (some (x, s)) = some (x, s') ∧ Q x s' := by
 cases h with
 | normal h1 h2 => exact ⟨_, settle_normal h1, h2⟩
 | exit h => exact ⟨_, rfl, h⟩
 | ret h => exact ⟨_, rfl, h⟩
 | pan h => exact ⟨_, rfl, h⟩
theorem exitQ.settled {id : Nat} {hk : List Nat} {n : Nat} {Q : AX → St → Prop} {x : AX} {s : St} (h : exitQ id hk n Q x s) : ∃ x' s', settle hk n (leaves id (some (x, s))) = some (x', s') ∧ Q x' s' := by
 cases h with
 | here h1 h2 => exact ⟨_, _, by simp only [leaves, if_true]; exact settle_normal h1, h2⟩
 | there hn h =>
  refine ⟨_, _, ?_, h⟩
  simp only [leaves]
  rw [if_neg (by simpa using hn)]; rfl
 | normal h1 h2 => exact ⟨_, _, settle_normal h1, h2⟩
 | ret h => exact ⟨_, _, rfl, h⟩
 | pan h => exact ⟨_, _, rfl, h⟩
section
variable {X : Ctx} {f : Nat} {Q : AX → St → Prop} {s : St}
theorem awp_skip (h : Q .normal s) : awp X f .skip Q s := ⟨_, _, .of fun _ => rfl, h⟩
theorem awp_ret (h : Q .ret s) : awp X f .ret Q s := ⟨_, _, .of fun _ => rfl, h⟩
theorem awp_exit {id : Nat} (h : Q (.exit id) s) : awp X f (.exit id) Q s := ⟨_, _, .of fun _ => rfl, h⟩
theorem awp_label {id : Nat} (h : Q .normal s) : awp X f (.label id) Q s := ⟨_, _, .of fun _ => rfl, h⟩
theorem awp_seq {a b : Code} (h : awp X f a (seqQ X f b Q) s) : awp X f (.seq a b) Q s := by
 obtain ⟨x, s', h1, h2⟩ := h
 cases x with
 | normal =>
  cases h2 with | normal h2 =>
  obtain ⟨x2, s2, h3, h4⟩ := h2
  exact ⟨x2, s2, (h1.and h3).imp fun k ⟨p, q⟩ => by simp only [aexec, p, q], h4⟩
 | exit id => cases h2 with | exit h2 => exact ⟨_, s', h1.imp fun k p => by simp only [aexec, p], h2⟩
 | ret => cases h2 with | ret h2 => exact ⟨_, s', h1.imp fun k p => by simp only [aexec, p], h2⟩
 | pan d => cases h2 with | pan h2 => exact ⟨_, s', h1.imp fun k p => by simp only [aexec, p], h2⟩
theorem awp_cond {o : Operand} {a b : Code} {c : Bool} (hc : ev s.tmps o = some (.c (.d (.bool c)))) (h : c = true → awp X f a (condQ (X.H f (condKey a b)) s.nid Q) s) (h' : c = false → awp X f b (condQ (X.H f (condKey a b)) s.nid Q) s) : awp X f (.cond o a b) Q s := by
 cases c with
 | true =>
  obtain ⟨x, s', h1, h2⟩ := h rfl
  obtain ⟨s2, h3, h4⟩ := h2.settled
  exact ⟨x, s2, h1.imp fun k p => by simp only [aexec, hc, p, h3], h4⟩
 | false =>
  obtain ⟨x, s', h1, h2⟩ := h' rfl
  obtain ⟨s2, h3, h4⟩ := h2.settled
  exact ⟨x, s2, h1.imp fun k p => by simp only [aexec, hc, p, h3], h4⟩
theorem awp_block {id : Nat} {c : Code} (h : awp X f c (exitQ id (X.H f (1000000 + id)) s.nid Q) s) : awp X f (.block id c) Q s := by
 obtain ⟨x, s', h1, h2⟩ := h
 obtain ⟨x2, s2, h3, h4⟩ := h2.settled
 exact ⟨x2, s2, h1.imp fun k p => by simp only [aexec, p, h3], h4⟩
theorem awp_scope {c : Code} (h : awp X f c Q s) : awp X f (.scope c) Q s := by
 obtain ⟨x, s', h1, h2⟩ := h
 exact ⟨x, s', h1.imp fun k p => by simp only [aexec, p], h2⟩
theorem awp_regionF {id : Nat} {ops : Array Oper} {s0 : St} (hz : frz (X.H f id) s = some s0) (h : awpO X ops ops.toList Q { s0 with tmps := keepT (X.H f id) s0.tmps }) : awp X f (.region id ops false) Q s := by
 obtain ⟨x, s', h1, h2⟩ := h
 refine ⟨x, s', h1.imp fun k p => ?_, h2⟩
 obtain ⟨fs', hp⟩ := p []
 simp only [aexec, hz, Bool.false_eq_true, if_false, hp]
theorem awp_drawF {id : Nat} {ops : Array Oper} {s0 : St} (hz : frz (X.H f id) s = some s0) (h : awpD X ops (appended? ops) s0.nid [] ops.toList 0 Q { s0 with tmps := keepT (X.H f id) s0.tmps, nid := s0.nid + ops.size }) : awp X f (.region id ops true) Q s := by
 obtain ⟨x, s', fs, h1, h2, h3⟩ := h
 refine ⟨x, s', h1.imp fun k p => ?_, h3⟩
 simp only [aexec, hz, if_true, drawRegion, p]
 simp only [List.nil_append] at h2
 rw [if_pos h2]
def noF (ks : List Nat) : Bool := ks.all fun k => !Nat.ble 7000000 k
theorem frz_noF : ∀ {ks : List Nat} {s : St}, noF ks = true → frz ks s = some s
 | [], _, _ => rfl
 | k :: r, s, h => by
  simp only [noF, List.all_cons, Bool.and_eq_true, Bool.not_eq_true'] at h
  simp only [frz, h.1]
  exact frz_noF h.2
theorem awp_region {id : Nat} {ops : Array Oper} (hz : noF (X.H f id) = true) (h : awpO X ops ops.toList Q { s with tmps := keepT (X.H f id) s.tmps }) : awp X f (.region id ops false) Q s := awp_regionF (frz_noF hz) h
theorem awp_draw {id : Nat} {ops : Array Oper} (hz : noF (X.H f id) = true) (h : awpD X ops (appended? ops) s.nid [] ops.toList 0 Q { s with tmps := keepT (X.H f id) s.tmps, nid := s.nid + ops.size }) : awp X f (.region id ops true) Q s := awp_drawF (frz_noF hz) h
theorem awp_mono {c : Code} {Q' : AX → St → Prop} (h : awp X f c Q s) (hq : ∀ x s', Q x s' → Q' x s') : awp X f c Q' s := by
 obtain ⟨x, s', h1, h2⟩ := h
 exact ⟨x, s', h1, hq x s' h2⟩
theorem awpO_nil {ops : Array Oper} (h : Q .normal s) : awpO X ops [] Q s := ⟨_, _, .of fun _ fs => ⟨fs, rfl⟩, h⟩
theorem awpO_skip {ops : Array Oper} {o : Oper} {l : List Oper} (hw : wantedAt ops s.tmps o = some false) (h : awpO X ops l Q (putDst o (.c .undef) s)) : awpO X ops (o :: l) Q s := by
 obtain ⟨x, s', h1, h2⟩ := h
 refine ⟨x, s', h1.imp fun k p fs => ?_, h2⟩
 obtain ⟨fs', hp⟩ := p (Foot.none :: fs)
 exact ⟨fs', by simp only [evOps, hw, hp]⟩
theorem awpO_op {ops : Array Oper} {o : Oper} {l : List Oper} {v : V} {s1 : St} {ft : Foot} (hw : wantedAt ops s.tmps o = some true) (hop : Evt fun k => evOp X.P (X.call k) s.nid o s = some (.val v s1, ft))
  (h : awpO X ops l Q (putDst o v s1)) : awpO X ops (o :: l) Q s := by
 obtain ⟨x, s', h1, h2⟩ := h
 refine ⟨x, s', (hop.and h1).imp fun k ⟨q, p⟩ fs => ?_, h2⟩
 obtain ⟨fs', hp⟩ := p (ft :: fs)
 exact ⟨fs', by simp only [evOps, hw, q, hp]⟩
theorem awpO_rfl {ops : Array Oper} {o : Oper} {l : List Oper} {v : V} {s1 : St} {ft : Foot} (hw : wantedAt ops s.tmps o = some true) (hop : ∀ call, evOp X.P call s.nid o s = some (.val v s1, ft))
  (h : awpO X ops l Q (putDst o v s1)) : awpO X ops (o :: l) Q s := awpO_op hw (.of fun _ => hop _) h
theorem awpD_nil {ops : Array Oper} {vs : List Nat} {base i : Nat} {pre : List Fp} (hok : (drawOk false ops base pre && decide (base ≤ s.nid)) = true) (h : Q .normal s) : awpD X ops vs base pre [] i Q s :=
 ⟨_, _, [], .of fun _ => rfl, by rw [List.append_nil]; exact hok, h⟩
theorem awpD_skip {ops : Array Oper} {vs : List Nat} {base i : Nat} {pre : List Fp} {o : Oper} {l : List Oper} {s1 : St} (hw : wantedAt ops s.tmps o = some false) (hp : putD o.dst (.c .undef) s = some s1)
  (h : awpD X ops vs base (pre ++ [Fp.fill ⟨(readsOf ops o).map .tmp, dstLc o.dst (.c .undef), [], false⟩ s1]) l (i + 1) Q s1) : awpD X ops vs base pre (o :: l) i Q s := by
 obtain ⟨x, s', fs, h1, h2, h3⟩ := h
 refine ⟨x, s', Fp.fill ⟨(readsOf ops o).map .tmp, dstLc o.dst (.c .undef), [], false⟩ s1 :: fs, h1.imp fun k p => by simp only [drawOps, hw, hp, p], ?_, h3⟩
 rw [List.append_assoc] at h2; exact h2
theorem awpD_op {ops : Array Oper} {vs : List Nat} {base i : Nat} {pre : List Fp} {o : Oper} {l : List Oper} {v : V} {s1 s2 : St} {ft : Fp} (hw : wantedAt ops s.tmps o = some true)
  (hop : Evt fun k => drawOp X.P (X.call k) ops vs (base + i) o s = some (.val v s1, ft)) (hp : putD o.dst v s1 = some s2)
  (h : awpD X ops vs base (pre ++ [ft.fill s2]) l (i + 1) Q s2) : awpD X ops vs base pre (o :: l) i Q s := by
 obtain ⟨x, s', fs, h1, h2, h3⟩ := h
 refine ⟨x, s', ft.fill s2 :: fs, (hop.and h1).imp fun k ⟨q, p⟩ => by simp only [drawOps, hw, q, hp, p], ?_, h3⟩
 rw [List.append_assoc] at h2; exact h2
theorem awpD_rfl {ops : Array Oper} {vs : List Nat} {base i : Nat} {pre : List Fp} {o : Oper} {l : List Oper} {v : V} {s1 s2 : St} {ft : Fp} (hw : wantedAt ops s.tmps o = some true)
  (hop : ∀ call, drawOp X.P call ops vs (base + i) o s = some (.val v s1, ft)) (hp : putD o.dst v s1 = some s2)
  (h : awpD X ops vs base (pre ++ [ft.fill s2]) l (i + 1) Q s2) : awpD X ops vs base pre (o :: l) i Q s := awpD_op hw (.of fun _ => hop _) hp h
theorem awp_loop {c : Code} (h : awpL X f c (cleanAt (X.H f (firstRegion c)) s.nid) Q s) : awp X f (.loop c) Q s := by
 obtain ⟨x, s', ⟨m₀, a, h1⟩, h2⟩ := h
 exact ⟨x, s', ⟨max m₀ a, fun k hk => by simp only [aexec]; exact h1 k (by omega) k (by omega)⟩, h2⟩
theorem awpL_round {c : Code} {clean : St → Option St} {s1 : St} (hc : clean s = some s1) (h : awp X f c (fun x s' => match x with | .normal => awpL X f c clean Q s' | x => Q x s') s1) : awpL X f c clean Q s := by
 obtain ⟨x, s', h1, h2⟩ := h
 cases x with
 | normal =>
  obtain ⟨x2, s2, ⟨m₀, h3⟩, h4⟩ := h2
  refine ⟨x2, s2, ⟨m₀ + 1, (h1.and h3).imp fun k ⟨p, q⟩ m hm => ?_⟩, h4⟩
  obtain ⟨j, rfl⟩ : ∃ j, m = j + 1 := ⟨m - 1, by omega⟩
  simp only [iter, hc, p]
  exact q j (by omega)
 | _ =>
  refine ⟨_, s', ⟨1, h1.imp fun k p m hm => ?_⟩, h2⟩
  obtain ⟨j, rfl⟩ : ∃ j, m = j + 1 := ⟨m - 1, by omega⟩
  simp only [iter, hc, p]
structure atEnd (X : Ctx) (fn : Func) (n : Nat) (r : CRes) (x : AX) (s : St) : Prop where
 ex : Evt fun k => finish X.P X.H (X.call k) k fn n x s = some r
structure rdef (X : Ctx) (ds : List (Nat × List Nat)) (pan : Option D) (s : St) (pan' : Option D) (s' : St) : Prop where
 ex : Evt fun k => runDefers X.P X.H (X.call k) k ds pan s = some (pan', s')
theorem atEnd.ret {fn : Func} {n : Nat} {r : CRes} (hd : s.defers = []) (h : endRet X.P fn n s = some r) : atEnd X fn n r .ret s :=
 ⟨.of fun k => by simp only [finish, hd, List.isEmpty_nil, if_true, h]⟩
theorem atEnd.normal {fn : Func} {n : Nat} {r : CRes} (hd : s.defers = []) (h : endRet X.P fn n s = some r) : atEnd X fn n r .normal s :=
 ⟨.of fun k => by simp only [finish, hd, List.isEmpty_nil, if_true, h]⟩
theorem atEnd.pan {fn : Func} {n : Nat} {r : CRes} {d : D} (hd : s.defers = []) (h : endPan d n s = some r) : atEnd X fn n r (.pan d) s :=
 ⟨.of fun k => by simp only [finish, hd, List.isEmpty_nil, if_true, h]⟩
def avalD (X : Ctx) (pan : Option D) (f : Nat) (args : List C) (lh : List (List C)) (r : CRes) : Prop := Evt fun k => acallD X.P X.H (X.call k) k pan f args lh = some r
theorem rdef.nil {pan : Option D} : rdef X [] pan s pan s := ⟨.of fun _ => rfl⟩
theorem rdef.cons {g : Nat} {caps ids : List Nat} {l : List (Nat × List Nat)} {pan pan' : Option D} {s' : St} {args' : List C} {lh lh' lh'' : List (List C)} {v v' : V} (hr : reach s.heap 64 ((caps.map fun b => C.ptr b 0).flatMap C.ids) [] = some ids) (hi : mapM? (C.into ids) (caps.map fun b => .ptr b 0) = some args')
  (hb : blksInto s.heap ids = some lh) (hv : avalD X pan g args' lh (.ret v lh')) (hk : mapM? (mapM? (C.back (ids ++ idsFrom s.nid (lh'.length - ids.length)))) lh' = some lh'') (hv' : V.back (ids ++ idsFrom s.nid (lh'.length - ids.length)) v = some v')
  (h : rdef X l (if recsF X.P g then none else pan) { s with tmps := unviewIn (ids ++ idsFrom s.nid (lh'.length - ids.length)) s.tmps, heap := putBlks (ids ++ idsFrom s.nid (lh'.length - ids.length)) lh'' s.heap, nid := s.nid + (lh'.length - ids.length) } pan' s') :
  rdef X ((g, caps) :: l) pan s pan' s' :=
 ⟨(hv.and h.ex).imp fun k ⟨p, q⟩ => by simp only [runDefers, doCall, hr, hi, hb, p, hk, hv']; exact q⟩
theorem aval_of {fn : Func} {code : Code} {args args' : List C} {lh : List (List C)} {r : CRes} (hE : X.E f = none) (hf : X.P.funcs[f]? = some fn) (hb : fn.body = some code) (hst : (if (X.H f 999999).isEmpty then args.map C.still else args) = args') (hl : args'.length = fn.params.size + fn.nfree)
  (h : awp X f code (atEnd X fn lh.length r) (enterSt args' lh)) : aval X f args lh r := by
 obtain ⟨x, s', h1, h2⟩ := h
 refine Evt.succ ((h1.and h2.ex).imp fun k ⟨p, q⟩ => ?_)
 simp only [Ctx.call, acall, hst, acall1, hE, hf, hb, hl, if_true]
 simp only [Ctx.call] at p q
 simp only [p]
 exact q
structure atEndD (X : Ctx) (fn : Func) (n : Nat) (r : CRes) (x : AX) (s : St) : Prop where
 ex : (x = .normal ∨ x = .ret) ∧ s.defers = [] ∧ endRet X.P fn n s = some r
theorem C.still_still : ∀ l : List C, (l.map C.still).map C.still = l.map C.still
 | [] => rfl
 | c :: l => by
  have ih := C.still_still l
  simp only [List.map_cons, ih]
  cases c <;> rfl
theorem aval_still {args : List C} {lh : List (List C)} {r : CRes} (h : aval X f (args.map C.still) lh r) (hH : (X.H f 999999).isEmpty = true) : aval X f args lh r := by
 obtain ⟨k₀, h⟩ := h
 refine ⟨k₀ + 1, fun k hk => ?_⟩
 obtain ⟨j, rfl⟩ : ∃ j, k = j + 1 := ⟨k - 1, by omega⟩
 have := h (j + 1) (by omega)
 simp only [Ctx.call, acall, hH, if_true] at this ⊢
 rw [C.still_still] at this
 exact this
theorem aval_ext {g : Call} {args args' : List C} {lh : List (List C)} {r : CRes} (hE : X.E f = some g) (hst : (if (X.H f 999999).isEmpty then args.map C.still else args) = args') (h : g f args' lh = some r) : aval X f args lh r :=
 Evt.succ (.of fun k => by simp only [Ctx.call, acall, hst, acall1, hE, h])
theorem evt_call {o : Oper} {c : Go.Call} {fo : Operand} {g : Nat} {caps ids : List Nat} {args args' : List C} {lh lh' lh'' : List (List C)} {v v' : V} (ho : o.op = .call c) (hc : c.callee = .value fo) (hf : ev s.tmps fo = some (.c (.fn g caps)))
  (ha : argsT X.P s.tmps c.args.toList c.argTypes.toList = some args) (hr : reach s.heap 64 ((args ++ caps.map fun b => C.ptr b 0).flatMap C.ids) [] = some ids) (hi : mapM? (C.into ids) (args ++ caps.map fun b => .ptr b 0) = some args')
  (hb : blksInto s.heap ids = some lh) (hv : aval X g args' lh (.ret v lh')) (hk : mapM? (mapM? (C.back (ids ++ idsFrom s.nid (lh'.length - ids.length)))) lh' = some lh'') (hv' : V.back (ids ++ idsFrom s.nid (lh'.length - ids.length)) v = some v') :
  Evt fun k => evOp X.P (X.call k) s.nid o s = some (.val v' { s with tmps := unviewIn (ids ++ idsFrom s.nid (lh'.length - ids.length)) s.tmps, heap := putBlks (ids ++ idsFrom s.nid (lh'.length - ids.length)) lh'' s.heap, nid := s.nid + (lh'.length - ids.length) }, ⟨ids, ids, []⟩) :=
 hv.imp fun k p => by simp only [evOp, ho, hc, hf, ha, doCall, hr, hi, hb, p, hk, hv']
end
end Go.AM

namespace Go.AM
open Go
section
variable {P : Program} {call : Call} {id : Nat} {o : Oper} {s : St}
theorem ev_index_str {t : TypeId} {x i : Operand} {l : List UInt8} {k : IntKind} {n : Int} {b : UInt8} (ho : o.op = .index t x i) (ht : P.underlying t = some .string) (hx : ev s.tmps x = some (.c (.d (.str l))))
  (hi : ev s.tmps i = some (.c (.d (.int k n)))) (h0 : 0 ≤ n) (hb : l[n.toNat]? = some b) : evOp P call id o s = some (.val (.d (byteD b)) s, ⟨readsBlk o s.tmps, [], []⟩) := by
 simp only [evOp, ho, evR, ht, hx, hi, h0, if_true, hb]
theorem ev_indexAddr {t e : TypeId} {x i : Operand} {sz : Nat} {xs : List D} {k : IntKind} {n : Int} {d : D} (ho : o.op = .indexAddr t x i) (ht : telem P t = some e) (hz : some sz = tsz P e) (hx : (ev s.tmps x).bind V.toD = some (.list sz xs))
  (hi : ev s.tmps i = some (.c (.d (.int k n)))) (h0 : 0 ≤ n) (hb : xs[n.toNat]? = some d) : evOp P call id o s = some (.val (.rptr d.cells) s, ⟨readsBlk o s.tmps, [], []⟩) := by
 obtain ⟨v, hv, hd⟩ := Option.bind_eq_some_iff.1 hx
 cases v with
 | c y =>
  cases y with
  | arr b n k => simp [V.toD, C.toD] at hd
  | _ => simp only [evOp, ho, evR, ht, hv, hi, hd, h0, hz, and_self, if_true, hb]
 | _ => simp only [evOp, ho, evR, ht, hv, hi, hd, h0, hz, and_self, if_true, hb]
theorem ev_slice_str {t : TypeId} {x : Operand} {lo hi : Option Operand} {l : List UInt8} {a b : Nat} (ho : o.op = .slice t x lo hi none) (ht : P.underlying t = some .string) (hx : evT P t s.tmps x = some (.c (.d (.str l))))
  (hl : optNat s.tmps lo 0 = some a) (hh : optNat s.tmps hi l.length = some b) (h1 : a ≤ b) (h2 : b ≤ l.length) :
  evOp P call id o s = some (.val (.d (.str ((l.take b).drop a))) s, ⟨readsBlk o s.tmps, [], []⟩) := by
 simp only [evOp, ho, evR, hx, lenV, ht, V.toD, C.toD, hl, hh, sliceV, h1, h2, and_self, if_true, Option.map_some]
theorem optNat_some {tm : List (Nat × V)} {x : Operand} {k : IntKind} {n : Int} {d : Nat} (hx : ev tm x = some (.c (.d (.int k n)))) (h : 0 ≤ n) : optNat tm (some x) d = some n.toNat := by
 simp only [optNat, hx, h, if_true]
theorem ev_slice_list {t e : TypeId} {x : Operand} {lo hi : Option Operand} {v : V} {sz : Nat} {xs : List D} {a b : Nat} (ho : o.op = .slice t x lo hi none) (ht : P.underlying t = some (.slice e)) (hz : tsz P e = some sz) (hx : evT P t s.tmps x = some v) (hv : v.toD = some (.list sz xs))
  (hl : optNat s.tmps lo 0 = some a) (hh : optNat s.tmps hi xs.length = some b) (h1 : a ≤ b) (h2 : b ≤ xs.length) :
  evOp P call id o s = some (.val (.d (.list sz ((xs.take b).drop a))) s, ⟨readsBlk o s.tmps, [], []⟩) := by
 simp [evOp, ho, evR, hx, lenV_data hv, ht, hv, hl, hh, sliceV, h1, h2, hz]
theorem ev_concat {t u : TypeId} {x y : Operand} {a b : List UInt8} (ho : o.op = .binOp .add t x y u) (hx : evT P t s.tmps x = some (.c (.d (.str a)))) (hy : evT P t s.tmps y = some (.c (.d (.str b)))) (h : a.length + b.length ≤ room) :
  evOp P call id o s = some (.val (.d (.str (a ++ b))) s, ⟨readsBlk o s.tmps, [], []⟩) := by
 simp only [evOp, ho, evR, hx, hy, binV, strOp, h, if_true]
theorem ev_bytes {src dst e : TypeId} {x : Operand} {a : List UInt8} (ho : o.op = .convert src dst x) (hs : P.underlying src = some .string) (hd : P.underlying dst = some (.slice e)) (he : P.underlying e = some (.int .u8)) (hz : tsz P e = some 1)
  (hx : evT P src s.tmps x = some (.c (.d (.str a)))) (h : a.length ≤ room) : evOp P call id o s = some (.val (.c (.own 1 (a.map byteD))) s, ⟨readsBlk o s.tmps, [], []⟩) := by
 simp only [evOp, ho, evR, hx, convV, hs, hd, he, h, hz, and_self, if_true]
theorem ev_append_nil {c : Go.Call} {t u e : TypeId} {x y : Operand} {n z : Nat} {yv : V} {ys : List D} (ho : o.op = .call c) (hc : c.callee = .builtin .append) (ha : c.args.toList = [x, y]) (hat : c.argTypes.toList = [t, u]) (ht : telem P t = some e) (hn : tsz P e = some n) (hu : isSource P u = true)
  (hb : P.bytesOf e ≤ 1024 ∧ zeroFits P e n = true) (hx : evT P t s.tmps x = some (.c (.nilsl z))) (hy : evT P u s.tmps y = some yv) (hys : appended yv = some (n, ys)) (hl : ys.length ≤ 4294967296) :
  evOp P call id o s = some (.val (.c (.own n ys)) s, appendFoot x s.tmps) := by
 simp only [evOp, ho, hc, ha, hat, doAppend, ht, hn, hu, hx, hy, hys, Option.bind_some, hb, and_self, if_true, hl]
theorem ev_append_view {c : Go.Call} {t u e : TypeId} {x y : Operand} {n w : Nat} {yv : V} {xs ys zs : List D} (ho : o.op = .call c) (hc : c.callee = .builtin .append) (ha : c.args.toList = [x, y]) (hat : c.argTypes.toList = [t, u]) (ht : telem P t = some e) (hn : tsz P e = some n) (hu : isSource P u = true)
  (hb : P.bytesOf e ≤ 1024 ∧ zeroFits P e n = true) (hx : evT P t s.tmps x = some (.view (.tmp w) n xs)) (hw : look w s.tmps = some (.c (.own n zs))) (hy : evT P u s.tmps y = some yv) (hys : appended yv = some (n, ys)) (hl : xs.length + ys.length ≤ 4294967296) :
  evOp P call id o s = some (.val (.c (.own n (xs ++ ys))) { s with tmps := plainAt w s.tmps }, appendFoot x s.tmps) := by
 simp only [evOp, ho, hc, ha, hat, doAppend, ht, hn, hu, hx, hy, hys, Option.bind_some, hb, and_self, if_true, hw, hl]
theorem ev_append_cell {c : Go.Call} {t u e : TypeId} {x y : Operand} {n b off : Nat} {yv : V} {xs ys zs : List D} {cells : List C} (ho : o.op = .call c) (hc : c.callee = .builtin .append) (ha : c.args.toList = [x, y]) (hat : c.argTypes.toList = [t, u]) (ht : telem P t = some e) (hn : tsz P e = some n) (hu : isSource P u = true)
  (hb : P.bytesOf e ≤ 1024 ∧ zeroFits P e n = true) (hx : evT P t s.tmps x = some (.view (.cell b off) n xs)) (hw : lookC b s.heap = some cells) (hw' : cells[off]? = some (.own n zs)) (hy : evT P u s.tmps y = some yv) (hys : appended yv = some (n, ys)) (hl : xs.length + ys.length ≤ 4294967296) :
  evOp P call id o s = some (.val (.c (.own n (xs ++ ys))) { s with heap := upd b (cells.set off (.d (.list n xs))) s.heap }, appendFoot x s.tmps) := by
 simp only [evOp, ho, hc, ha, hat, doAppend, ht, hn, hu, hx, hy, hys, Option.bind_some, hb, and_self, if_true, hw, hw', hl]
end
section
variable {X : Ctx} {Q : AX → St → Prop} {s : St}
theorem awpD_ev {ops : Array Oper} {vs : List Nat} {base i : Nat} {pre : List Fp} {o : Oper} {l : List Oper} {v : V} {s1 s2 : St} {ft : Foot} (hw : wantedAt ops s.tmps o = some true) (hm : makesBlk o = false)
  (hop : Evt fun k => evOp X.P (X.call k) s.nid o s = some (.val v s1, ft)) (hp : putD o.dst (calmAt vs o.dst v) s1 = some s2)
  (h : awpD X ops vs base (pre ++ [(fpOf ops o s (calmAt vs o.dst v) s1 ft).fill s2]) l (i + 1) Q s2) : awpD X ops vs base pre (o :: l) i Q s :=
 awpD_op hw (hop.imp fun k p => by simp only [drawOp, hm, Bool.false_eq_true, if_false, drawOld, p]) hp h
end
end Go.AM

namespace Go.AM
open Go
section
variable {X : Ctx} {f : Nat} {Q : AX → St → Prop} {tm tm' : List (Nat × V)} {hp : List (Nat × List C)} {nid : Nat} {df : List (Nat × List Nat)} {pn : Option D}
def keepK {α : Type} : List Nat → List (Nat × V) → (List (Nat × V) → α) → α
 | [], _, k => k []
 | t :: r, tm, k => match look t tm with
  | some (.view _ sz xs) => keepK r tm fun l => k ((t, .d (.list sz xs)) :: l)
  | some v => keepK r tm fun l => k ((t, v) :: l)
  | none => keepK r tm k
theorem keepK_eq {α : Type} : ∀ (ks : List Nat) (tm : List (Nat × V)) (k : List (Nat × V) → α), keepK ks tm k = k (keepT ks tm)
 | [], _, _ => rfl
 | t :: r, tm, k => by
  simp only [keepK, keepT]
  cases h : look t tm with
  | none => simp only [keepK_eq]
  | some v => cases v <;> simp only [keepK_eq]
theorem look_unviewIn_nil : ∀ tm : List (Nat × V), unviewIn [] tm = tm
 | [] => rfl
 | (t, v) :: r => by
  cases v with
  | view l sz xs => cases l <;> simp [unviewIn, look_unviewIn_nil r]
  | _ => simp [unviewIn, look_unviewIn_nil r]
theorem aval_start {fn : Func} {code : Code} {args args' : List C} {lh : List (List C)} {r : CRes} {n : Nat} (hE : X.E f = none) (hf : X.P.funcs[f]? = some fn) (hb : fn.body = some code) (hst : (if (X.H f 999999).isEmpty then args.map C.still else args) = args') (hl : args'.length = fn.params.size + fn.nfree)
  (ht : zipIdx' 0 (args'.map fun c => V.c c.plain) = tm) (hh : zipIdx' 0 lh = hp) (hn : lh.length = n) (h : awp X f code (atEnd X fn n r) ⟨tm, hp, n, [], none⟩) : aval X f args lh r :=
 aval_of hE hf hb hst hl (by unfold enterSt; rw [ht, hh, hn]; exact h)
end
end Go.AM
namespace Go.AM
open Go
section
variable {X : Ctx} {f : Nat} {Q : AX → St → Prop} {s : St}
inductive loopQ (R : St → Prop) (Q : AX → St → Prop) : AX → St → Prop where
 | normal {s : St} : R s → loopQ R Q .normal s
 | exit {id : Nat} {s : St} : Q (.exit id) s → loopQ R Q (.exit id) s
 | ret {s : St} : Q .ret s → loopQ R Q .ret s
 | pan {d : D} {s : St} : Q (.pan d) s → loopQ R Q (.pan d) s
end
end Go.AM
namespace Go.AM
open Go
section
variable {X : Ctx} {f : Nat} {Q : AX → St → Prop} {tm tm' : List (Nat × V)} {hp hp' : List (Nat × List C)} {nid nid' : Nat} {df df' : List (Nat × List Nat)} {pn pn' : Option D}
end
end Go.AM

namespace Go.AM
open Go
def setBK {α : Type} (d : Nat) (b : Bool) : List (Nat × V) → (List (Nat × V) → α) → α
 | [], k => k []
 | (j, v) :: r, k => if j = d then k ((j, .d (.bool b)) :: r) else setBK d b r fun l => k ((j, v) :: l)
theorem setBK_eq {α : Type} {d : Nat} {b : Bool} : ∀ {tm : List (Nat × V)} {k : List (Nat × V) → α}, look d tm = some (.c (.d (.bool b))) → setBK d b tm k = k tm
 | [], _, h => by simp [look] at h
 | (j, v) :: r, k, h => by
  simp only [look] at h
  simp only [setBK]
  by_cases hj : j = d
  ·rw [if_pos hj] at h ⊢
   simp only [Option.some.injEq] at h
   rw [h]
  ·rw [if_neg hj] at h ⊢
   rw [setBK_eq h]
section
variable {X : Ctx} {f : Nat} {Q : AX → St → Prop} {tm tm0 tm1 : List (Nat × V)} {hp : List (Nat × List C)} {nid : Nat} {df : List (Nat × List Nat)} {pn : Option D}
def unviewK {α : Type} (l : Loc) : List (Nat × V) → (List (Nat × V) → α) → α
 | [], k => k []
 | (t, v) :: r, k => match v with
  | .view l' sz xs => unviewK l r fun r => k ((t, if l' = l then .d (.list sz xs) else .view l' sz xs) :: r)
  | v => unviewK l r fun r => k ((t, v) :: r)
theorem unviewK_eq {α : Type} {l : Loc} : ∀ {tm : List (Nat × V)} {k : List (Nat × V) → α}, unviewK l tm k = k (unview l tm)
 | [], _ => rfl
 | (t, v) :: r, k => by cases v <;> simp only [unviewK, unview, unviewK_eq]
end
section
variable {X : Ctx} {f : Nat} {Q : AX → St → Prop} {tm tm' tm1 tm2 : List (Nat × V)} {hp hp' : List (Nat × List C)} {nid : Nat} {df : List (Nat × List Nat)} {pn : Option D}
end
section
variable {X : Ctx} {f : Nat} {Q : AX → St → Prop} {tm : List (Nat × V)} {hp : List (Nat × List C)} {nid : Nat} {df : List (Nat × List Nat)} {pn : Option D}
end
end Go.AM
