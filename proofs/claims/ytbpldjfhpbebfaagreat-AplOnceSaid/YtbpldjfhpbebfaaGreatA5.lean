/- Part of a proof about the given program: the abstract machine, the printed functions, the plain laws. (AOFgrammar_parser_power, AOFslices_Index_string, AOFslices_Contains_string, AOFgrammar_parser_sign, AOFgrammar_parser_shut, AOFgrammar_parser_skip, AOFgrammar_parser_take, AOFgrammar_righted, AOFgrammar_uses, AOFgrammar_parser_expr, AOFgrammar_Parse, AOFapl_Parse, AOFarr_order_int, AOFarr_Cmp_2, AOFarr_Cmp_1__arr_Cmp_2, AOFarr_order_int64, AOFarr_Cmp, AOFarr_Same, AOFcore_Same, AOFarr_Size, AOFarr_good, AOFarr_check, AOFarr_Checkx, AOFcore_Literal, AOFrunes_put_full, AOFrunes_Write, AOFspell_digits, AOFspell_Number, AOFspell_sign, AOFspell_Literal, AOFspell_writer_fits, AOFspell_writer_glue, AOFspell_writer_words, AOFspell_writer_expr, AOFspell_Write, AOFapl_Print, AOFtriglyphref03_ints, AOFtriglyphref03_Cmp, AOFtriglyphref10_Same, AOFtriglyphref17_Same, AOFtriglyphlaw17_AplOnce) -/
import Derived.Test.YtbpldjfhpbebfaaGreatA4
set_option linter.all false
set_option linter.unusedSectionVars false
set_option linter.unusedVariables false
set_option linter.unusedSimpArgs false

namespace Go.AM.Seat
open Go Go.AM Go.Proofs
set_option maxRecDepth 100000
set_option maxHeartbeats 4000000
set_option linter.unusedVariables false
theorem p_grammar_parser_power_ok {i : Int} {p : Grammar_parser} {r : Int × Bool} (h : p_grammar_parser_power i p = some r) : aval X 94 [.ptr 0 0, .d (iZ i)] [(pC p.g p.l p.i p.end_ p.deep p.in_)] (CRes.ret (.tuple [.d (iZ r.1), .d (.bool r.2)]) [(pC p.g p.l p.i p.end_ p.deep p.in_)]) := by
 unfold p_grammar_parser_power at h
 refine aval_start (tm := [(0, .c (.ptr 0 0)), (1, .d (iZ i))]) (hp := [(0, (pC p.g p.l p.i p.end_ p.deep p.in_))]) (n := 1) I Tryz.func94 I I I I I I (ra I (S_ (S_ (rn 7 I ?_))))
 obtain ⟨x, hk, h⟩ := B h
 refine po (ecallb (nid' := 1) (p_grammar_parser_is_ok hk) I I I I I I I I I I I I) I I (on 2 I ?_)
 rcases E_ h with ⟨hc, h⟩ | ⟨hc, h⟩
 ·refine gt I I I I hc I (on 21 I (rz (ct I I (ra I (R_ (C_ (Q_ ?_)))))))
  cases h
  exact .ret I I
 refine gf I I I I hc I (on 6 I (po (ellen I I I I I I I) I I (on 3 I ?_)))
 rcases E_ h with ⟨hc, h⟩ | ⟨hc, h⟩
 ·refine gt I I I I hc I (on 11 I (rz (ct I I (ra I (R_ (C_ (Q_ ?_)))))))
  cases h
  exact .ret I I
 refine gf I I I I hc I (on 6 I ?_)
 obtain ⟨y, hk, h⟩ := B h
 refine po (elget encToken (fun _ => I) hk I I I I I) I I (on 4 I (rz ?_))
 rcases E_ h with ⟨hc, h⟩ | ⟨hc, h⟩
 ·refine ct I hc (ra I (R_ (C_ (Q_ ?_))))
  cases h
  exact .ret I I
 refine cf I hc (K_ (cn I (N_ (S_ (rn 6 I ?_)))))
 obtain ⟨y1, hk, h⟩ := B h
 refine po (elget encToken (fun _ => I) hk I I I I I) I I (on 2 I ?_)
 obtain ⟨⟨x1, x2⟩, hk, h⟩ := B h
 refine po (ecall (p_grammar_times_ok hk) I I I I I I I I I) I I (on 4 I (rz (R_ ?_)))
 cases h
 exact .ret I I
theorem p_slices_Index_string_l0_ok : ∀ (a : ((List Str)) × Str × Int) (res : Except (Int) (Unit)), p_slices_Index_string_l0 a = some res → (match a with | (s, v, x) => awpL X 134 (codeAt [1, 0, 1, 0, 0] (bodyOf Tryz.f134)) (cleanAt (X.H 134 2) 0) (exitQ 0 (X.H 134 1000000) 0 (SubQ X Tryz.f134 0 (fun (r : Int) => (CRes.ret (.d (iZ r)) [])) (fun (_ : Unit) => (⟨[], [], 0, [], none⟩ : St)) res)) ⟨[(0, .d (lS s)), (1, .d (.str v)), (7, .d (iZ (List.length s : Int))), (8, .d (iZ x))], [], 0, [], none⟩) := by
 refine p_slices_Index_string_l0.partial_correctness _ ?_
 rintro p_slices_Index_string_l0' ih ⟨s, v, x⟩ res h
 refine lg I (ra I (S_ ?_))
 rcases E_ h with ⟨hc, h⟩ | ⟨hc, h⟩
 ·refine ct I hc (K_ (cn I (N_ (S_ (W_ (ra I (S_ (rn 3 I ?_))))))))
  obtain ⟨y, hk, h⟩ := B h
  refine po (elget D.str (fun _ => I) hk I I I I I) I I (on 2 I (rz ?_))
  rcases E_ h with ⟨hc, h⟩ | ⟨hc, h⟩
  ·refine ct I hc (ra I (R_ (C_ (exitQ.ret (Q_ (loopQ.ret (exitQ.ret ?_)))))))
   cases h
   exact .err I (.ret I I)
  refine cf I hc (K_ (cn I (en I (N_ (rn 2 I (O_ (loopQ.normal ?_)))))))
  exact awpL_at I I (ih _ _ h)
 refine cf I hc (X_ (condQ.exit (seqQ.exit (loopQ.exit (eh I ?_)))))
 cases h
 exact .ok I
theorem p_slices_Index_string_ok {s : (List Str)} {v : Str} {r : Int} (h : p_slices_Index_string s v = some r) : aval X 134 [.d (lS s), .d (.str v)] [] (CRes.ret (.d (iZ r)) []) := by
 unfold p_slices_Index_string at h
 refine aval_start (tm := [(0, .d (lS s)), (1, .d (.str v))]) (hp := []) (n := 0) I Tryz.func134 I I I I I I (ra I (S_ (S_ (rn 1 I (po (ellen I I I I I I I) I I (on 1 I (rz ?_)))))))
 obtain ⟨res, hs, h⟩ := B h
 refine awp_sub Tryz.f134 0 (fun (r : Int) => (CRes.ret (.d (iZ r)) [])) (fun (_ : Unit) => (⟨[], [], 0, [], none⟩ : St)) (res := res) ?_ (fun y hy => ?_) (fun r x s' hr hx he => ?_)
 ·replace h := hs
  refine W_ (awp_loop ?_)
  exact awpL_at I I (p_slices_Index_string_l0_ok _ _ h)
 ·subst hy
  refine N_ (ra I (R_ ?_))
  cases h
  exact .ret I I
 subst hr
 refine seqQ.out hx ?_
 cases h
 exact he
theorem p_slices_Contains_string_ok {s : (List Str)} {v : Str} {r : Bool} (h : p_slices_Contains_string s v = some r) : aval X 116 [.d (lS s), .d (.str v)] [] (CRes.ret (.d (.bool r)) []) := by
 unfold p_slices_Contains_string at h
 refine aval_start (tm := [(0, .d (lS s)), (1, .d (.str v))]) (hp := []) (n := 0) I Tryz.func116 I I I I I I (ra I (S_ (rn 2 I ?_)))
 obtain ⟨x, hk, h⟩ := B h
 refine po (ecall (p_slices_Index_string_ok hk) I I I I I I I I I) I I (on 2 I (rz (R_ ?_)))
 cases h
 exact .ret I I
theorem p_grammar_parser_sign_ok {i : Int} {l : (List Str)} {p : Grammar_parser} {r : Bool} (h : p_grammar_parser_sign i l p = some r) : aval X 91 [.ptr 0 0, .d (iZ i), .d (lS l)] [(pC p.g p.l p.i p.end_ p.deep p.in_)] (CRes.ret (.d (.bool r)) [(pC p.g p.l p.i p.end_ p.deep p.in_)]) := by
 unfold p_grammar_parser_sign at h
 refine aval_start (tm := [(0, .c (.ptr 0 0)), (1, .d (iZ i)), (2, .d (lS l))]) (hp := [(0, (pC p.g p.l p.i p.end_ p.deep p.in_))]) (n := 1) I Tryz.func91 I I I I I I (ra I (S_ (rn 5 I (po (ellen I I I I I I I) I I (on 2 I ?_)))))
 rcases E_ h with ⟨hc, h⟩ | ⟨hc, h⟩
 ·refine gt I I I I hc I (on 5 I ?_)
  obtain ⟨y, hk, h⟩ := B h
  refine po (elget encToken (fun _ => I) hk I I I I I) I I (on 5 I ?_)
  rcases E_ h with ⟨hc, h⟩ | ⟨hc, h⟩
  ·refine gt I I I I hc I (on 6 I ?_)
   obtain ⟨y1, hk, h⟩ := B h
   refine po (elget encToken (fun _ => I) hk I I I I I) I I (on 2 I ?_)
   obtain ⟨x, hk, h⟩ := B h
   refine po (ecall (p_slices_Contains_string_ok hk) I I I I I I I I I) I I (on 2 I (rz (R_ ?_)))
   cases h
   exact .ret I I
  refine gf I I I I hc I (on 12 I (rz (R_ ?_)))
  cases h
  exact .ret I I
 refine gf I I I I hc I (on 23 I (rz (R_ ?_)))
 cases h
 exact .ret I I
theorem p_grammar_parser_shut_l0_ok : ∀ (a : Grammar_parser × Int × Int) (res : Except (Int) (Unit)), p_grammar_parser_shut_l0 a = some res → (match a with | (p, n, k) => awpL X 92 (codeAt [1, 1, 0, 1, 0, 0] (bodyOf Tryz.f92)) (cleanAt (X.H 92 3) 1) (exitQ 0 (X.H 92 1000000) 1 (SubQ X Tryz.f92 1 (fun (r : Int) => (CRes.ret (.d (iZ r)) [(pC p.g p.l p.i p.end_ p.deep p.in_)])) (fun (_ : Unit) => (⟨[], [(0, (pC p.g p.l p.i p.end_ p.deep p.in_))], 1, [], none⟩ : St)) res)) ⟨[(0, .c (.ptr 0 0)), (5, .d (iZ n)), (6, .d (iZ k))], [(0, (pC p.g p.l p.i p.end_ p.deep p.in_))], 1, [], none⟩) := by
 refine p_grammar_parser_shut_l0.partial_correctness _ ?_
 rintro p_grammar_parser_shut_l0' ih ⟨p, n, k⟩ res h
 refine lg I (S_ (S_ (rn 5 I (po (ellen I I I I I I I) I I (on 1 I (rz ?_))))))
 rcases E_ h with ⟨hc, h⟩ | ⟨hc, h⟩
 ·refine ct I hc (K_ (cn I (N_ (S_ ?_))))
  obtain ⟨res, hs, h⟩ := B h
  refine awp_sub Tryz.f92 1 (fun (r : Int) => (CRes.ret (.d (iZ r)) [(pC p.g p.l p.i p.end_ p.deep p.in_)])) (fun (n1 : Int) => (⟨[(0, .c (.ptr 0 0)), (5, .d (iZ n1)), (6, .d (iZ k))], [(0, (pC p.g p.l p.i p.end_ p.deep p.in_))], 1, [], none⟩ : St)) (res := res) ?_ (fun y hy => ?_) (fun r x s' hr hx he => ?_)
  ·replace h := hs
   refine W_ (S_ (rn 5 I ?_))
   obtain ⟨y, hk, h⟩ := B h
   refine po (elget encToken (fun _ => I) hk I I I I I) I I (on 2 I (rz (W_ (ra I ?_))))
   rcases E_ h with ⟨hc, h⟩ | ⟨hc, h⟩
   ·refine ct I hc (rn 3 I (O_ (cn I (en I (en I ?_)))))
    cases h
    exact .ok I
   refine cf I hc (ra I ?_)
   rcases E_ h with ⟨hc, h⟩ | ⟨hc, h⟩
   ·refine ct I hc (ra I (ra I ?_))
    rcases E_ h with ⟨hc, h⟩ | ⟨hc, h⟩
    ·refine ct I hc (ra I (R_ (C_ (C_ (C_ (exitQ.ret (exitQ.ret ?_)))))))
     cases h
     exact .err I (.ret I I)
    refine cf I hc (K_ (cn I (cn I (cn I (en I (en I ?_))))))
    cases h
    exact .ok I
   refine cf I hc (K_ (cn I (cn I (en I (en I ?_)))))
   cases h
   exact .ok I
  ·subst hy
   obtain n1 := y
   refine N_ (rn 3 I (O_ (loopQ.normal ?_)))
   exact awpL_at I I (ih _ _ h)
  subst hr
  refine seqQ.out hx (loopQ.out hx (exitQ.out hx ?_))
  cases h
  exact .err hx he
 refine cf I hc (X_ (condQ.exit (seqQ.exit (loopQ.exit (eh I ?_)))))
 cases h
 exact .ok I
theorem p_grammar_parser_shut_ok {i : Int} {p : Grammar_parser} {r : Int} (h : p_grammar_parser_shut i p = some r) : aval X 92 [.ptr 0 0, .d (iZ i)] [(pC p.g p.l p.i p.end_ p.deep p.in_)] (CRes.ret (.d (iZ r)) [(pC p.g p.l p.i p.end_ p.deep p.in_)]) := by
 unfold p_grammar_parser_shut at h
 refine aval_start (tm := [(0, .c (.ptr 0 0)), (1, .d (iZ i))]) (hp := [(0, (pC p.g p.l p.i p.end_ p.deep p.in_))]) (n := 1) I Tryz.func92 I I I I I I (ra I (ra I (S_ (ra I ?_))))
 obtain ⟨res, hs, h⟩ := B h
 refine awp_sub Tryz.f92 1 (fun (r : Int) => (CRes.ret (.d (iZ r)) [(pC p.g p.l p.i p.end_ p.deep p.in_)])) (fun (_ : Unit) => (⟨[], [(0, (pC p.g p.l p.i p.end_ p.deep p.in_))], 1, [], none⟩ : St)) (res := res) ?_ (fun y hy => ?_) (fun r x s' hr hx he => ?_)
 ·replace h := hs
  refine W_ (awp_loop ?_)
  exact awpL_at I I (p_grammar_parser_shut_l0_ok _ _ h)
 ·subst hy
  refine N_ (ra I (R_ ?_))
  cases h
  exact .ret I I
 subst hr
 refine seqQ.out hx ?_
 cases h
 exact he
abbrev Mp_grammar_parser_skip_l0 (a : Grammar_parser × Int) (res : Except (Int) (Unit)) : Prop := match a with | (p, i7) => awpL X 57 (codeAt [1, 1, 1, 0, 0] (bodyOf Tryz.f57)) (cleanAt (X.H 57 16) 1) (exitQ 1 (X.H 57 1000001) 1 (SubQ X Tryz.f57 1 (fun (r : Int) => (CRes.ret (.d (iZ r)) [(pC p.g p.l p.i p.end_ p.deep p.in_)])) (fun (_ : Unit) => (⟨[], [], 0, [], none⟩ : St)) res)) ⟨[(0, .c (.ptr 0 0)), (1, .d (iZ i7))], [(0, (pC p.g p.l p.i p.end_ p.deep p.in_))], 1, [], none⟩
theorem p_grammar_parser_skip_l0_ih : ∀ a res, p_grammar_parser_skip_l0 a = some res → Mp_grammar_parser_skip_l0 a res := by
 refine p_grammar_parser_skip_l0.partial_correctness Mp_grammar_parser_skip_l0 ?_
 rintro p_grammar_parser_skip_l0' ih_p_grammar_parser_skip_l0 ⟨p, i7⟩ res h
 refine lg I (W_ (S_ (rn 7 I ?_)))
 obtain ⟨x7, hk, h⟩ := B h
 refine po (ecallb (nid' := 1) (p_grammar_parser_sign_ok hk) I I I I I I I I I I I I) I I (rz ?_)
 rcases E_ h with ⟨hc, h⟩ | ⟨hc, h⟩
 ·refine ct I hc (rn 3 I (O_ (cn I (en I (loopQ.normal ?_)))))
  exact awpL_at I I (ih_p_grammar_parser_skip_l0 _ _ h)
 refine cf I hc (S_ (rn 2 I ?_))
 obtain ⟨⟨x8, ok⟩, hk, h⟩ := B h
 refine po (ecallb (nid' := 1) (p_grammar_parser_power_ok hk) I I I I I I I I I I I I) I I (on 5 I (rz (ra I ?_)))
 rcases E_ h with ⟨hc, h⟩ | ⟨hc, h⟩
 ·refine ct I hc (rn 3 I (O_ (cn I (cn I (en I (loopQ.normal ?_))))))
  exact awpL_at I I (ih_p_grammar_parser_skip_l0 _ _ h)
 refine cf I hc (ra I (R_ (C_ (C_ (exitQ.ret (loopQ.ret (exitQ.ret ?_)))))))
 cases h
 exact .err I (.ret I I)
abbrev Mp_grammar_parser_skip (a : Int × Bool × Grammar_parser) (res : Int) : Prop := match a with | (i, behind, p) => aval X 57 [.ptr 0 0, .d (iZ i), .d (.bool behind)] [(pC p.g p.l p.i p.end_ p.deep p.in_)] (CRes.ret (.d (iZ res)) [(pC p.g p.l p.i p.end_ p.deep p.in_)])
abbrev Mp_grammar_parser_group_l0 (a : Bool × Grammar_parser × Int × Int) (res : Except (Int) (Int × Int)) : Prop := match a with | (behind, p, i1, n) => awpL X 93 (codeAt [1, 1, 1, 0, 0, 0] (bodyOf Tryz.f93)) (cleanAt (X.H 93 3) 1) (exitQ 0 (X.H 93 1000000) 1 (SubQ X Tryz.f93 1 (fun (r : Int) => (CRes.ret (.d (iZ r)) [(pC p.g p.l p.i p.end_ p.deep p.in_)])) (fun ((i3, n1) : Int × Int) => (⟨[(0, .c (.ptr 0 0)), (1, .d (iZ i3)), (7, .d (iZ n1))], [(0, (pC p.g p.l p.i p.end_ p.deep p.in_))], 1, [], none⟩ : St)) res)) ⟨[(0, .c (.ptr 0 0)), (1, .d (iZ i1)), (2, .d (.bool behind)), (7, .d (iZ n))], [(0, (pC p.g p.l p.i p.end_ p.deep p.in_))], 1, [], none⟩
abbrev Mp_grammar_parser_group (a : Int × Bool × Grammar_parser) (res : Int) : Prop := match a with | (i, behind, p) => aval X 93 [.ptr 0 0, .d (iZ i), .d (.bool behind)] [(pC p.g p.l p.i p.end_ p.deep p.in_)] (CRes.ret (.d (iZ res)) [(pC p.g p.l p.i p.end_ p.deep p.in_)])
theorem p_grammar_parser_skip_grp : (∀ a res, p_grammar_parser_skip a = some res → Mp_grammar_parser_skip a res) ∧ (∀ a res, p_grammar_parser_group a = some res → Mp_grammar_parser_group a res) ∧ (∀ a res, p_grammar_parser_group_l0 a = some res → Mp_grammar_parser_group_l0 a res) := by
 refine p_grammar_parser_skip.mutual_partial_correctness (motive_1 := Mp_grammar_parser_skip) (motive_2 := Mp_grammar_parser_group) (motive_3 := Mp_grammar_parser_group_l0) ?_ ?_ ?_
 ·rintro p_grammar_parser_group' ih_p_grammar_parser_group ⟨i, behind, p⟩ res h
  refine aval_start (tm := [(0, .c (.ptr 0 0)), (1, .d (iZ i)), (2, .d (.bool behind))]) (hp := [(0, (pC p.g p.l p.i p.end_ p.deep p.in_))]) (n := 1) I Tryz.func57 I I I I I I (ra I (S_ (S_ (rn 7 I ?_))))
  obtain ⟨x, hk, h⟩ := B h
  refine po (ecallb (nid' := 1) (p_grammar_parser_is_ok hk) I I I I I I I I I I I I) I I (rz ?_)
  obtain ⟨⟨i1, behind1⟩, hs, h⟩ := B h
  refine awp_nrm (fun ((i1, behind1) : Int × Bool) => (⟨[(0, .c (.ptr 0 0)), (1, .d (iZ i1)), (2, .d (.bool behind1))], [(0, (pC p.g p.l p.i p.end_ p.deep p.in_))], 1, [], none⟩ : St)) (y := (i1, behind1)) ?_ ?_
  ·replace h := hs
   rcases E_ h with ⟨hc, h⟩ | ⟨hc, h⟩
   ·refine ct I hc (ra I (rn 1 I (O_ (cn I ?_))))
    cases h
    exact .ok I
   refine cf I hc (K_ (cn I ?_))
   cases h
   exact .ok I
  refine N_ (S_ ?_)
  obtain ⟨res, hs, h⟩ := B h
  refine awp_sub Tryz.f57 1 (fun (r : Int) => (CRes.ret (.d (iZ r)) [(pC p.g p.l p.i p.end_ p.deep p.in_)])) (fun (i6 : Int) => (⟨[(0, .c (.ptr 0 0)), (1, .d (iZ i6))], [(0, (pC p.g p.l p.i p.end_ p.deep p.in_))], 1, [], none⟩ : St)) (res := res) ?_ (fun y hy => ?_) (fun r x s' hr hx he => ?_)
  ·replace h := hs
   refine W_ (S_ (rn 7 I ?_))
   obtain ⟨x1, hk, h⟩ := B h
   refine po (ecallb (nid' := 1) (p_grammar_parser_sign_ok hk) I I I I I I I I I I I I) I I (on 1 I ?_)
   rcases E_ h with ⟨hc, h⟩ | ⟨hc, h⟩
   ·refine gt I I I I hc I (on 13 I (rz (ct I I (rn 3 I (O_ (cn I (en I ?_)))))))
    cases h
    exact .ok I
   refine gf I I I I hc I (on 2 I ?_)
   rcases E_ h with ⟨hc, h⟩ | ⟨hc, h⟩
   ·refine gt I I I I hc I (on 7 I ?_)
    obtain ⟨x2, hk, h⟩ := B h
    refine po (ecallb (nid' := 1) (p_grammar_parser_sign_ok hk) I I I I I I I I I I I I) I I (on 3 I (rz ?_))
    rcases E_ h with ⟨hc, h⟩ | ⟨hc, h⟩
    ·refine ct I hc (rn 3 I (O_ (cn I (en I ?_))))
     cases h
     exact .ok I
    refine cf I hc (S_ (rn 7 I ?_))
    obtain ⟨x3, hk, h⟩ := B h
    refine po (ecallb (nid' := 1) (p_grammar_parser_is_ok hk) I I I I I I I I I I I I) I I (on 1 I (rz ?_))
    rcases E_ h with ⟨hc, h⟩ | ⟨hc, h⟩
    ·refine ct I hc (S_ (S_ (rn 2 I ?_)))
     obtain ⟨i2, hk, h⟩ := B h
     refine po (ecallb (nid' := 1) (p_grammar_parser_shut_ok hk) I I I I I I I I I I I I) I I (on 1 I (rz (ra I ?_)))
     rcases E_ h with ⟨hc, h⟩ | ⟨hc, h⟩
     ·refine ct I hc (ra I (R_ (C_ (Q_ (C_ (C_ (exitQ.ret ?_)))))))
      cases h
      exact .err I (.ret I I)
     refine cf I hc (K_ (cn I (N_ (rn 3 I (O_ (cn I (cn I (en I ?_))))))))
     cases h
     exact .ok I
    refine cf I hc (S_ (rn 2 I ?_))
    obtain ⟨x4, hk, h⟩ := B h
    refine po (ecallb (nid' := 1) (p_grammar_parser_is_ok hk) I I I I I I I I I I I I) I I (on 1 I (rz ?_))
    rcases E_ h with ⟨hc, h⟩ | ⟨hc, h⟩
    ·refine ct I hc (S_ (rn 3 I ?_))
     obtain ⟨i3, hk, h⟩ := B h
     refine po (ecallb (nid' := 1) (ih_p_grammar_parser_group _ _ hk) I I I I I I I I I I I I) I I (on 1 I (rz (ra I ?_)))
     rcases E_ h with ⟨hc, h⟩ | ⟨hc, h⟩
     ·refine ct I hc (ra I (R_ (C_ (C_ (C_ (C_ (exitQ.ret ?_)))))))
      cases h
      exact .err I (.ret I I)
     refine cf I hc (K_ (cn I (cn I (cn I (cn I (en I ?_))))))
     cases h
     exact .ok I
    refine cf I hc (ra I (R_ (C_ (C_ (C_ (exitQ.ret ?_))))))
    cases h
    exact .err I (.ret I I)
   refine gf I I I I hc I (on 11 I (rz (cf I I (S_ (rn 7 I ?_)))))
   obtain ⟨x5, hk, h⟩ := B h
   refine po (ecallb (nid' := 1) (p_grammar_parser_is_ok hk) I I I I I I I I I I I I) I I (on 1 I (rz ?_))
   rcases E_ h with ⟨hc, h⟩ | ⟨hc, h⟩
   ·refine ct I hc (S_ (S_ (rn 2 I ?_)))
    obtain ⟨i4, hk, h⟩ := B h
    refine po (ecallb (nid' := 1) (p_grammar_parser_shut_ok hk) I I I I I I I I I I I I) I I (on 1 I (rz (ra I ?_)))
    rcases E_ h with ⟨hc, h⟩ | ⟨hc, h⟩
    ·refine ct I hc (ra I (R_ (C_ (Q_ (C_ (C_ (exitQ.ret ?_)))))))
     cases h
     exact .err I (.ret I I)
    refine cf I hc (K_ (cn I (N_ (rn 3 I (O_ (cn I (cn I (en I ?_))))))))
    cases h
    exact .ok I
   refine cf I hc (S_ (rn 2 I ?_))
   obtain ⟨x6, hk, h⟩ := B h
   refine po (ecallb (nid' := 1) (p_grammar_parser_is_ok hk) I I I I I I I I I I I I) I I (on 1 I (rz ?_))
   rcases E_ h with ⟨hc, h⟩ | ⟨hc, h⟩
   ·refine ct I hc (S_ (rn 3 I ?_))
    obtain ⟨i5, hk, h⟩ := B h
    refine po (ecallb (nid' := 1) (ih_p_grammar_parser_group _ _ hk) I I I I I I I I I I I I) I I (on 1 I (rz (ra I ?_)))
    rcases E_ h with ⟨hc, h⟩ | ⟨hc, h⟩
    ·refine ct I hc (ra I (R_ (C_ (C_ (C_ (C_ (exitQ.ret ?_)))))))
     cases h
     exact .err I (.ret I I)
    refine cf I hc (K_ (cn I (cn I (cn I (cn I (en I ?_))))))
    cases h
    exact .ok I
   refine cf I hc (ra I (R_ (C_ (C_ (C_ (exitQ.ret ?_))))))
   cases h
   exact .err I (.ret I I)
  ·subst hy
   obtain i6 := y
   refine N_ ?_
   obtain ⟨res, hs, h⟩ := B h
   refine awp_sub Tryz.f57 1 (fun (r : Int) => (CRes.ret (.d (iZ r)) [(pC p.g p.l p.i p.end_ p.deep p.in_)])) (fun (_ : Unit) => (⟨[], [], 0, [], none⟩ : St)) (res := res) ?_ (fun y hy => ?_) (fun r x s' hr hx he => ?_)
   ·replace h := hs
    refine W_ (awp_loop ?_)
    exact awpL_at I I (p_grammar_parser_skip_l0_ih _ _ h)
   ·subst hy; cases h
   subst hr
   cases h
   exact he
  subst hr
  refine seqQ.out hx ?_
  cases h
  exact he
 ·rintro p_grammar_parser_group_l0' ih_p_grammar_parser_group_l0 ⟨i, behind, p⟩ res h
  refine aval_start (tm := [(0, .c (.ptr 0 0)), (1, .d (iZ i)), (2, .d (.bool behind))]) (hp := [(0, (pC p.g p.l p.i p.end_ p.deep p.in_))]) (n := 1) I Tryz.func93 I I I I I I (ra I (ra I (ra I (S_ ?_))))
  obtain ⟨res, hs, h⟩ := B h
  refine awp_sub Tryz.f93 1 (fun (r : Int) => (CRes.ret (.d (iZ r)) [(pC p.g p.l p.i p.end_ p.deep p.in_)])) (fun ((i3, n1) : Int × Int) => (⟨[(0, .c (.ptr 0 0)), (1, .d (iZ i3)), (7, .d (iZ n1))], [(0, (pC p.g p.l p.i p.end_ p.deep p.in_))], 1, [], none⟩ : St)) (res := res) ?_ (fun y hy => ?_) (fun r x s' hr hx he => ?_)
  ·replace h := hs
   refine W_ (awp_loop ?_)
   exact awpL_at I I (ih_p_grammar_parser_group_l0 _ _ h)
  ·subst hy
   obtain ⟨i3, n1⟩ := y
   refine N_ (S_ (S_ (rn 3 I ?_)))
   rcases E_ h with ⟨hc, h⟩ | ⟨hc, h⟩
   ·refine gt I I I I hc I (on 14 I (rz (ct I I (ra I (R_ (C_ (Q_ ?_)))))))
    cases h
    exact .ret I I
   refine gf I I I I hc I (on 6 I ?_)
   rcases E_ h with ⟨hc, h⟩ | ⟨hc, h⟩
   ·refine gt I I I I hc I (on 3 I ?_)
    rcases E_ h with ⟨hc, h⟩ | ⟨hc, h⟩
    ·refine gt I I I I hc I (on 5 I (rz (ct I I (ra I (R_ (C_ (Q_ ?_)))))))
     cases h
     exact .ret I I
    refine gf I I I I hc I (on 5 I (rz ?_))
    rcases E_ h with ⟨hc, h⟩ | ⟨hc, h⟩
    ·refine ct I hc (ra I (R_ (C_ (Q_ ?_))))
     cases h
     exact .ret I I
    refine cf I hc (K_ (cn I (N_ (ra I (R_ ?_)))))
    cases h
    exact .ret I I
   refine gf I I I I hc I (on 8 I (rz (cf I I (K_ (cn I (N_ (ra I (R_ ?_))))))))
   cases h
   exact .ret I I
  subst hr
  refine seqQ.out hx ?_
  cases h
  exact he
 rintro p_grammar_parser_skip' p_grammar_parser_group_l0' ih_p_grammar_parser_skip ih_p_grammar_parser_group_l0 ⟨behind, p, i1, n⟩ res h
 refine lg I (S_ (S_ (rn 2 I ?_)))
 obtain ⟨x, hk, h⟩ := B h
 refine po (ecallb (nid' := 1) (p_grammar_parser_is_ok hk) I I I I I I I I I I I I) I I (on 1 I (rz ?_))
 rcases E_ h with ⟨hc, h⟩ | ⟨hc, h⟩
 ·refine ct I hc (K_ (cn I (N_ (W_ (S_ (S_ (rn 3 I ?_)))))))
  obtain ⟨i2, hk, h⟩ := B h
  refine po (ecallb (nid' := 1) (ih_p_grammar_parser_skip _ _ hk) I I I I I I I I I I I I) I I (on 1 I (rz (ra I ?_)))
  rcases E_ h with ⟨hc, h⟩ | ⟨hc, h⟩
  ·refine ct I hc (ra I (R_ (C_ (Q_ (exitQ.ret (loopQ.ret (exitQ.ret ?_)))))))
   cases h
   exact .err I (.ret I I)
  refine cf I hc (K_ (cn I (N_ (rn 3 I (O_ (en I (loopQ.normal ?_)))))))
  exact awpL_at I I (ih_p_grammar_parser_group_l0 _ _ h)
 refine cf I hc (X_ (condQ.exit (seqQ.exit (loopQ.exit (eh I ?_)))))
 cases h
 exact .ok I
theorem p_grammar_parser_skip_ih : ∀ a res, p_grammar_parser_skip a = some res → Mp_grammar_parser_skip a res := p_grammar_parser_skip_grp.1
theorem p_grammar_parser_skip_ok {a : Int × Bool × Grammar_parser} {res : Int} (h : p_grammar_parser_skip a = some res) : Mp_grammar_parser_skip a res := p_grammar_parser_skip_ih a res h
theorem p_grammar_parser_take_ok {kind : Int} {text : Str} {p : Grammar_parser} {r : Except (Fault) (Int)} (h : p_grammar_parser_take kind text p = some r) : aval X 97 [.ptr 0 0, .d (iZ kind), .d (.str text)] [(pC p.g p.l p.i p.end_ p.deep p.in_)] (match (generalizing := false) r with | .ok r => (CRes.ret (.tuple []) [(pC p.g p.l r p.end_ p.deep p.in_)]) | .error r => (CRes.pan (.iface 34 (encFault r)) [(pC p.g p.l p.i p.end_ p.deep p.in_)])) := by
 unfold p_grammar_parser_take at h
 refine aval_start (tm := [(0, .c (.ptr 0 0)), (1, .d (iZ kind)), (2, .d (.str text))]) (hp := [(0, (pC p.g p.l p.i p.end_ p.deep p.in_))]) (n := 1) I Tryz.func97 I I I I I I (S_ (S_ (rn 7 I ?_)))
 obtain ⟨x, hk, h⟩ := B h
 refine po (ecallb (nid' := 1) (p_grammar_parser_is_ok hk) I I I I I I I I I I I I) I I (on 1 I (rz ?_))
 obtain ⟨res, hs, h⟩ := B h
 refine awp_sub Tryz.f97 1 (fun (r : Except (Fault) (Int)) => (match (generalizing := false) r with | .ok r => (CRes.ret (.tuple []) [(pC p.g p.l r p.end_ p.deep p.in_)]) | .error r => (CRes.pan (.iface 34 (encFault r)) [(pC p.g p.l p.i p.end_ p.deep p.in_)]))) (fun (_ : Unit) => (⟨[(0, .c (.ptr 0 0))], [(0, (pC p.g p.l p.i p.end_ p.deep p.in_))], 1, [], none⟩ : St)) (res := res) ?_ (fun y hy => ?_) (fun r x s' hr hx he => ?_)
 ·replace h := hs
  rcases E_ h with ⟨hc, h⟩ | ⟨hc, h⟩
  ·refine ct I hc (rn 5 I ?_)
   obtain ⟨res, hk, h⟩ := B h
   rcases res with e | y
   ·refine pp (ecallp (p_grammar_parser_fail_ok hk) I I I I I I I I I I) I I (P_ ?_)
    cases h
    exact .err I (.pan I I)
   refine po (ecallb (nid' := 1) (p_grammar_parser_fail_ok hk) I I I I I I I I I I I I) I I (O_ (cn I ?_))
   cases h
   exact .ok I
  refine cf I hc (K_ (cn I ?_))
  cases h
  exact .ok I
 ·subst hy
  refine N_ (rn 8 I (O_ ?_))
  cases h
  exact .normal I I
 subst hr
 refine seqQ.out hx ?_
 cases h
 exact he
abbrev Mp_grammar_righted_l0 (a : Node × Int × (List Node)) (res : (List Node)) : Prop := match a with | (n, x, n5) => ∀ (x0 : Int), awpL X 136 (codeAt [1, 1, 1, 1, 1, 0, 1, 0, 0] (bodyOf Tryz.f136)) (cleanAt (X.H 136 8) 2) (exitQ 0 (X.H 136 1000000) 2 (NrmQ (fun (n51 : (List Node)) => (⟨[(1, .c (.ptr 0 0)), (2, .c (.ptr 1 0))], [(1, [.d (iZ 0), .d (iZ 0), .d (.str []), oI [], oC [], oN [], .d (iZ 0)]), (0, [.d (iZ x0), .d (iZ n.op_), .d (.str n.name), .d (lI n.lit.shape), .d (lC n.lit.cells), oN n51, .d (iZ n.at_)])], 2, [], none⟩ : St)) res)) ⟨[(1, .c (.ptr 0 0)), (2, .c (.ptr 1 0)), (22, .d (lN n.kids)), (23, .d (iZ (List.length n.kids : Int))), (24, .d (iZ x))], [(1, [.d (iZ 0), .d (iZ 0), .d (.str []), oI [], oC [], oN [], .d (iZ 0)]), (0, [.d (iZ x0), .d (iZ n.op_), .d (.str n.name), .d (lI n.lit.shape), .d (lC n.lit.cells), oN n5, .d (iZ n.at_)])], 2, [], none⟩
abbrev Mp_grammar_righted (a : Node) (res : Node) : Prop := match a with | n => aval X 136 [.d (encNode n)] [] (CRes.ret (.d (encNode res)) [])
theorem p_grammar_righted_l0_grp : (∀ a res, p_grammar_righted_l0 a = some res → Mp_grammar_righted_l0 a res) ∧ (∀ a res, p_grammar_righted a = some res → Mp_grammar_righted a res) := by
 refine p_grammar_righted_l0.mutual_partial_correctness (motive_1 := Mp_grammar_righted_l0) (motive_2 := Mp_grammar_righted) ?_ ?_
 ·rintro p_grammar_righted_l0' p_grammar_righted' ih_p_grammar_righted_l0 ih_p_grammar_righted ⟨n, x, n5⟩ res h x0
  refine lg I (ra I (S_ ?_))
  rcases E_ h with ⟨hc, h⟩ | ⟨hc, h⟩
  ·refine ct I hc (K_ (cn I (N_ (S_ (W_ (S_ (rn 0 I ?_)))))))
   obtain ⟨y, hk, h⟩ := B h
   refine po (elget encNode encNodeR_eq hk I I I I I) I I (on (nid' := 3) 3 I (rz (drn (m := 11) 3 I I ?_)))
   obtain ⟨x1, hk, h⟩ := B h
   refine pd (ecall (ih_p_grammar_righted _ _ hk) I I I I I I I I I) I I I I I (pd (erw' (show V.c (.own 7 [encNode x1]) = V.c (.own 7 (List.map encNodeR [x1])) from by simp only [List.map_cons, List.map_nil, encNodeR_eq]) (eplain I)) I I I I I ?_)
   obtain ⟨l, hk, h⟩ := B h
   refine pd (eappc hk I I I I I I I I I I I I I I ) I I I I I (don 2 I (dz' (by kernel_rfl) (en I (N_ (rn 2 I (O_ (loopQ.normal ?_)))))))
   exact awpL_at I I (ih_p_grammar_righted_l0 _ _ h x0)
  refine cf I hc (X_ (condQ.exit (seqQ.exit (loopQ.exit (eh I ?_)))))
  cases h
  exact .ok I
 rintro p_grammar_righted_l0' ih_p_grammar_righted_l0 n res h
 refine aval_start (tm := [(0, .d (encNode n))]) (hp := []) (n := 0) I Tryz.func136 I I I I I I (ra (nid' := 2) I (S_ (ra I ?_)))
 obtain ⟨x0, hs, h⟩ := B h
 refine awp_nrm (fun (x0 : Int) => (⟨[(1, .c (.ptr 0 0)), (2, .c (.ptr 1 0))], [(1, [.d (iZ 0), .d (iZ 0), .d (.str []), oI [], oC [], oN [], .d (iZ 0)]), (0, [.d (iZ x0), .d (iZ n.op_), .d (.str n.name), .d (lI n.lit.shape), .d (lC n.lit.cells), .d (lN n.kids), .d (iZ n.at_)])], 2, [], none⟩ : St)) (y := x0) ?_ ?_
 ·replace h := hs
  rcases E_ h with ⟨hc, h⟩ | ⟨hc, h⟩
  ·refine ct I hc (rn 2 I (O_ (cn I ?_)))
   cases h
   exact .ok I
  refine cf I hc (K_ (cn I ?_))
  cases h
  exact .ok I
 refine N_ (S_ (S_ (rn 4 I ?_)))
 rcases E_ h with ⟨hc, h⟩ | ⟨hc, h⟩
 ·refine gt I I I I hc I (on 4 I (rz (ct I I (ra I (R_ (C_ (Q_ ?_)))))))
  cases h
  exact .ret I I
 refine gf I I I I hc I (on 4 I (rz ?_))
 rcases E_ h with ⟨hc, h⟩ | ⟨hc, h⟩
 ·refine ct I hc (ra I (R_ (C_ (Q_ ?_))))
  cases h
  exact .ret I I
 refine cf I hc (K_ (cn I (N_ (ra I (ra I (S_ (S_ (rn 1 I (po (ellen I I I I I I I) I I (on 1 I (rz ?_)))))))))))
 obtain ⟨n51, hs, h⟩ := B h
 refine awp_nrm (fun (n51 : (List Node)) => (⟨[(1, .c (.ptr 0 0)), (2, .c (.ptr 1 0))], [(1, [.d (iZ 0), .d (iZ 0), .d (.str []), oI [], oC [], oN [], .d (iZ 0)]), (0, [.d (iZ x0), .d (iZ n.op_), .d (.str n.name), .d (lI n.lit.shape), .d (lC n.lit.cells), oN n51, .d (iZ n.at_)])], 2, [], none⟩ : St)) (y := n51) ?_ ?_
 ·replace h := hs
  refine W_ (awp_loop ?_)
  exact awpL_at I I (ih_p_grammar_righted_l0 _ _ h x0)
 refine N_ (ra I (R_ ?_))
 cases h
 exact .ret I I
theorem p_grammar_righted_ih : ∀ a res, p_grammar_righted a = some res → Mp_grammar_righted a res := p_grammar_righted_l0_grp.2
theorem p_grammar_righted_ok {a : Node} {res : Node} (h : p_grammar_righted a = some res) : Mp_grammar_righted a res := p_grammar_righted_ih a res h
abbrev Mp_grammar_uses (a : Node × Int) (res : Bool) : Prop := match a with | (n, kind) => aval X 135 [.d (encNode n), .d (iZ kind)] [] (CRes.ret (.d (.bool res)) [])
abbrev Mp_slices_ContainsFunc_Node__grammar_uses_1 (a : (List Node) × Int) (res : Bool) : Prop := match a with | (s, b) => aval X 142 [.d (lN s), .fn 143 [0]] [[.d (iZ b)]] (CRes.ret (.d (.bool res)) [[.d (iZ b)]])
abbrev Mp_grammar_uses_1 (a : Node × Int) (res : Bool) : Prop := match a with | (k, a_) => aval X 143 [.d (encNode k), .ptr 0 0] [[.d (iZ a_)]] (CRes.ret (.d (.bool res)) [[.d (iZ a_)]])
abbrev Mp_slices_IndexFunc_Node__grammar_uses_1_l0 (a : ((List Node)) × Int × Int) (res : Except (Int) (Unit)) : Prop := match a with | (s, b, x) => awpL X 146 (codeAt [1, 0, 1, 0, 0] (bodyOf Tryz.f146)) (cleanAt (X.H 146 2) 1) (exitQ 0 (X.H 146 1000000) 1 (SubQ X Tryz.f146 1 (fun (r : Int) => (CRes.ret (.d (iZ r)) [[.d (iZ b)]])) (fun (_ : Unit) => (⟨[], [(0, [.d (iZ b)])], 1, [], none⟩ : St)) res)) ⟨[(0, .d (lN s)), (1, .c (.fn 143 [0])), (7, .d (iZ (List.length s : Int))), (8, .d (iZ x))], [(0, [.d (iZ b)])], 1, [], none⟩
abbrev Mp_slices_IndexFunc_Node__grammar_uses_1 (a : (List Node) × Int) (res : Int) : Prop := match a with | (s, b) => aval X 146 [.d (lN s), .fn 143 [0]] [[.d (iZ b)]] (CRes.ret (.d (iZ res)) [[.d (iZ b)]])
theorem p_grammar_uses_grp : (∀ a res, p_grammar_uses a = some res → Mp_grammar_uses a res) ∧ (∀ a res, p_slices_ContainsFunc_Node__grammar_uses_1 a = some res → Mp_slices_ContainsFunc_Node__grammar_uses_1 a res) ∧ (∀ a res, p_slices_IndexFunc_Node__grammar_uses_1 a = some res → Mp_slices_IndexFunc_Node__grammar_uses_1 a res) ∧ (∀ a res, p_slices_IndexFunc_Node__grammar_uses_1_l0 a = some res → Mp_slices_IndexFunc_Node__grammar_uses_1_l0 a res) ∧ (∀ a res, p_grammar_uses_1 a = some res → Mp_grammar_uses_1 a res) := by
 refine p_grammar_uses.mutual_partial_correctness (motive_1 := Mp_grammar_uses) (motive_2 := Mp_slices_ContainsFunc_Node__grammar_uses_1) (motive_3 := Mp_slices_IndexFunc_Node__grammar_uses_1) (motive_4 := Mp_slices_IndexFunc_Node__grammar_uses_1_l0) (motive_5 := Mp_grammar_uses_1) ?_ ?_ ?_ ?_ ?_
 ·rintro p_slices_ContainsFunc_Node__grammar_uses_1' ih_p_slices_ContainsFunc_Node__grammar_uses_1 ⟨n, kind⟩ res h
  refine aval_start (tm := [(0, .d (encNode n)), (1, .d (iZ kind))]) (hp := []) (n := 0) I Tryz.func135 I I I I I I (ra (nid' := 2) I (S_ (S_ (rn 4 I ?_))))
  rcases E_ h with ⟨hc, h⟩ | ⟨hc, h⟩
  ·refine gt I I I I hc I (on 4 I (rz (ct I I (ra I (R_ (C_ (Q_ ?_)))))))
   cases h
   exact .ret I I
  refine gf I I I I hc I (on 4 I (rz ?_))
  rcases E_ h with ⟨hc, h⟩ | ⟨hc, h⟩
  ·refine ct I hc (ra I (R_ (C_ (Q_ ?_))))
   cases h
   exact .ret I I
  refine cf I hc (K_ (cn I (N_ (S_ (rn 5 I ?_)))))
  rcases E_ h with ⟨hc, h⟩ | ⟨hc, h⟩
  ·refine gt I I I I hc I (on 6 I (rz (R_ ?_)))
   cases h
   exact .ret I I
  refine gf I I I I hc I (on 3 I ?_)
  obtain ⟨x, hk, h⟩ := B h
  refine po (ecallb (nid' := 2) (ih_p_slices_ContainsFunc_Node__grammar_uses_1 _ _ hk) I I I I I I I I I I I I) I I (on 2 I (rz (R_ ?_)))
  cases h
  exact .ret I I
 ·rintro p_slices_IndexFunc_Node__grammar_uses_1' ih_p_slices_IndexFunc_Node__grammar_uses_1 ⟨s, b⟩ res h
  refine aval_start (tm := [(0, .d (lN s)), (1, .c (.fn 143 [0]))]) (hp := [(0, [.d (iZ b)])]) (n := 1) I Tryz.func142 I I I I I I (ra I (S_ (rn 2 I ?_)))
  obtain ⟨x, hk, h⟩ := B h
  refine po (ecallb (nid' := 1) (ih_p_slices_IndexFunc_Node__grammar_uses_1 _ _ hk) I I I I I I I I I I I I) I I (on 2 I (rz (R_ ?_)))
  cases h
  exact .ret I I
 ·rintro p_slices_IndexFunc_Node__grammar_uses_1_l0' ih_p_slices_IndexFunc_Node__grammar_uses_1_l0 ⟨s, b⟩ res h
  refine aval_start (tm := [(0, .d (lN s)), (1, .c (.fn 143 [0]))]) (hp := [(0, [.d (iZ b)])]) (n := 1) I Tryz.func146 I I I I I I (ra I (S_ (S_ (rn 1 I (po (ellen I I I I I I I) I I (on 1 I (rz ?_)))))))
  obtain ⟨res, hs, h⟩ := B h
  refine awp_sub Tryz.f146 1 (fun (r : Int) => (CRes.ret (.d (iZ r)) [[.d (iZ b)]])) (fun (_ : Unit) => (⟨[], [(0, [.d (iZ b)])], 1, [], none⟩ : St)) (res := res) ?_ (fun y hy => ?_) (fun r x s' hr hx he => ?_)
  ·replace h := hs
   refine W_ (awp_loop ?_)
   exact awpL_at I I (ih_p_slices_IndexFunc_Node__grammar_uses_1_l0 _ _ h)
  ·subst hy
   refine N_ (ra I (R_ ?_))
   cases h
   exact .ret I I
  subst hr
  refine seqQ.out hx ?_
  cases h
  exact he
 ·rintro p_slices_IndexFunc_Node__grammar_uses_1_l0' p_grammar_uses_1' ih_p_slices_IndexFunc_Node__grammar_uses_1_l0 ih_p_grammar_uses_1 ⟨s, b, x⟩ res h
  refine lg I (ra I (S_ ?_))
  rcases E_ h with ⟨hc, h⟩ | ⟨hc, h⟩
  ·refine ct I hc (K_ (cn I (N_ (S_ (W_ (ra I (S_ (rn 3 I ?_))))))))
   obtain ⟨y, hk, h⟩ := B h
   refine po (elget encNode encNodeR_eq hk I I I I I) I I (on 1 I ?_)
   obtain ⟨x1, hk, h⟩ := B h
   refine po (ecallb (nid' := 1) (ih_p_grammar_uses_1 _ _ hk) I I I I I I I I I I I I) I I (rz ?_)
   rcases E_ h with ⟨hc, h⟩ | ⟨hc, h⟩
   ·refine ct I hc (ra I (R_ (C_ (exitQ.ret (Q_ (loopQ.ret (exitQ.ret ?_)))))))
    cases h
    exact .err I (.ret I I)
   refine cf I hc (K_ (cn I (en I (N_ (rn 2 I (O_ (loopQ.normal ?_)))))))
   exact awpL_at I I (ih_p_slices_IndexFunc_Node__grammar_uses_1_l0 _ _ h)
  refine cf I hc (X_ (condQ.exit (seqQ.exit (loopQ.exit (eh I ?_)))))
  cases h
  exact .ok I
 rintro p_grammar_uses' ih_p_grammar_uses ⟨k, a_⟩ res h
 refine aval_start (tm := [(0, .d (encNode k)), (1, .c (.ptr 0 0))]) (hp := [(0, [.d (iZ a_)])]) (n := 1) I Tryz.func143 I I I I I I (ra (nid' := 2) I (S_ (rn 2 I ?_)))
 obtain ⟨x, hk, h⟩ := B h
 refine po (ecall (ih_p_grammar_uses _ _ hk) I I I I I I I I I) I I (on 1 I (rz (R_ ?_)))
 cases h
 exact .ret I I
theorem p_grammar_uses_ih : ∀ a res, p_grammar_uses a = some res → Mp_grammar_uses a res := p_grammar_uses_grp.1
theorem p_grammar_uses_ok {a : Node × Int} {res : Bool} (h : p_grammar_uses a = some res) : Mp_grammar_uses a res := p_grammar_uses_ih a res h
abbrev Mp_grammar_parser_function_l0 (a : Grammar_parser × Int × Int × Int × Int × Int × Str × (List Int) × (List Cell) × (List Node) × Int × Int) (res : Except (Except (Fault × Int × Int × Int) (Node × Int × Int × Int)) (Unit)) : Prop := match a with | (p, at_, deep1, in_, f01, f11, f21, f31, f41, f51, f61, c151) => awpL X 58 (codeAt [1, 1, 1, 1, 1, 1, 1, 1, 0, 0] (bodyOf Tryz.f58)) (cleanAt (X.H 58 11) 16) (exitQ 0 (X.H 58 1000000) 16 (SubQ X Tryz.f58 1 (fun (r : Except (Fault × Int × Int × Int) (Node × Int × Int × Int)) => (match (generalizing := false) r with | .ok r => (CRes.ret (.d (encNode r.1)) [(pC p.g p.l r.2.1 p.end_ r.2.2.1 r.2.2.2)]) | .error r => (CRes.pan (.iface 34 (encFault r.1)) [(pC p.g p.l r.2.1 p.end_ r.2.2.1 r.2.2.2)]))) (fun (_ : Unit) => (⟨[], [], 0, [], none⟩ : St)) res)) ⟨[(2, .c (.ptr 1 0)), (4, .c (.ptr 2 0)), (5, .d (iZ at_)), (7, .c (.ptr 15 0))], [(15, [.d (iZ f01), .d (iZ f11), .d (.str f21), .d (lI f31), .d (lC f41), .d (lN f51), .d (iZ f61)]), (2, [.d (iZ 0), .d (iZ 0), .d (.str []), oI [], oC [], oN [], .d (iZ 0)]), (1, [.ptr 0 0]), (0, (pC p.g p.l c151 p.end_ deep1 in_))], 16, [(95, [1])], none⟩
theorem p_grammar_parser_function_l0_ih : ∀ a res, p_grammar_parser_function_l0 a = some res → Mp_grammar_parser_function_l0 a res := by
 refine p_grammar_parser_function_l0.partial_correctness Mp_grammar_parser_function_l0 ?_
 rintro p_grammar_parser_function_l0' ih_p_grammar_parser_function_l0 ⟨p, at_, deep1, in_, f01, f11, f21, f31, f41, f51, f61, c151⟩ res h
 refine lg I (W_ (S_ (drn (m := 27) 10 I I ?_)))
 obtain ⟨x1, hk, h⟩ := B h
 refine pd (ecallb (nid' := 27) (p_grammar_parser_sign_ok hk) I I I I I I I I I I I I) I I I I I (dz (by kernel_rfl) ?_)
 rcases E_ h with ⟨hc, h⟩ | ⟨hc, h⟩
 ·refine ct I hc (S_ (drn (m := 43) 8 I I ?_))
  obtain ⟨y, hk, h⟩ := B h
  refine pd (elget encToken (fun _ => I) hk I I I I I) I I I I I (don 4 I (pd (erw' (show V.c (.own 7 [encNode (Node.mk f01 f11 f21 (Arr.mk f31 f41) f51 f61)]) = V.c (.own 7 (List.map encNodeR [(Node.mk f01 f11 f21 (Arr.mk f31 f41) f51 f61)])) from by simp only [List.map_cons, List.map_nil, encNodeR_eq]) (eplain I)) I I I I I (don 2 I (dz (by kernel_rfl) (rn 8 I (O_ (cn I (en I (loopQ.normal ?_)))))))))
  exact awpL_at I I (ih_p_grammar_parser_function_l0 _ _ h)
 refine cf I hc (S_ (drn (m := 38) 5 I I ?_))
 obtain ⟨⟨n, ok⟩, hk, h⟩ := B h
 refine pd (ecallb (nid' := 38) (p_grammar_parser_power_ok hk) I I I I I I I I I I I I) I I I I I (don 5 I (dz (by kernel_rfl) (ra I ?_)))
 rcases E_ h with ⟨hc, h⟩ | ⟨hc, h⟩
 ·refine ct I hc (S_ (rn 3 I (po (erw' (show V.c (.own 7 [encNode (Node.mk f01 f11 f21 (Arr.mk f31 f41) f51 f61)]) = V.c (.own 7 (List.map encNodeR [(Node.mk f01 f11 f21 (Arr.mk f31 f41) f51 f61)])) from by simp only [List.map_cons, List.map_nil, encNodeR_eq]) (eplain I)) I I (on 2 I (rz (rn 8 I (O_ (cn I (cn I (en I (loopQ.normal ?_)))))))))))
  exact awpL_at I I (ih_p_grammar_parser_function_l0 _ _ h)
 refine cf I hc (ra I (R_ (C_ (C_ (exitQ.ret (loopQ.ret (exitQ.ret ?_)))))))
 obtain ⟨deep2, hk, h⟩ := B h
 cases h
 exact .err I (.dret I (rdc (nid' := 38) (p_grammar_parser_function_1_ok hk) (recsF_of Tryz.func95 I I) I I I I I I I I .nil) I)
abbrev Mp_grammar_parser_expr (a : Grammar_parser) (res : Except (Fault × Int × Int × Int) (Node × Int × Int × Int)) : Prop := match a with | p => aval X 33 [.ptr 0 0] [(pC p.g p.l p.i p.end_ p.deep p.in_)] (match (generalizing := false) res with | .ok r => (CRes.ret (.d (encNode r.1)) [(pC p.g p.l r.2.1 p.end_ r.2.2.1 r.2.2.2)]) | .error r => (CRes.pan (.iface 34 (encFault r.1)) [(pC p.g p.l r.2.1 p.end_ r.2.2.1 r.2.2.2)]))
abbrev Mp_grammar_parser_function (a : Bool × Grammar_parser) (res : Except (Fault × Int × Int × Int) (Node × Int × Int × Int)) : Prop := match a with | (behind, p) => aval X 58 [.ptr 0 0, .d (.bool behind)] [(pC p.g p.l p.i p.end_ p.deep p.in_)] (match (generalizing := false) res with | .ok r => (CRes.ret (.d (encNode r.1)) [(pC p.g p.l r.2.1 p.end_ r.2.2.1 r.2.2.2)]) | .error r => (CRes.pan (.iface 34 (encFault r.1)) [(pC p.g p.l r.2.1 p.end_ r.2.2.1 r.2.2.2)]))
abbrev Mp_grammar_parser_operand_l0 (a : Grammar_parser × Token × Int × Int × Str × (List Int) × (List Cell) × (List Node) × Int × Int × Int × Int) (res : Except (Except (Fault × Int × Int × Int) (Node × Int × Int × Int)) (Int × Int × Str × (List Int) × (List Cell) × (List Node) × Int × Int × Int × Int)) : Prop := match a with | (p, y, n01, n11, n21, n31, n41, n51, n61, p151, p171, p181) => awpL X 59 (codeAt [1, 1, 1, 1, 1, 0, 0, 0] (bodyOf Tryz.f59)) (cleanAt (X.H 59 22) 25) (exitQ 1 (X.H 59 1000001) 25 (SubQ X Tryz.f59 1 (fun (r : Except (Fault × Int × Int × Int) (Node × Int × Int × Int)) => (match (generalizing := false) r with | .ok r => (CRes.ret (.d (encNode r.1)) [(pC p.g p.l r.2.1 p.end_ r.2.2.1 r.2.2.2)]) | .error r => (CRes.pan (.iface 34 (encFault r.1)) [(pC p.g p.l r.2.1 p.end_ r.2.2.1 r.2.2.2)]))) (fun ((n02, n12, n22, n32, n42, n52, n62, c15, c17, c18) : Int × Int × Str × (List Int) × (List Cell) × (List Node) × Int × Int × Int × Int) => (⟨[(2, .c (.ptr 1 0)), (4, .c (.ptr 24 0))], [(24, [.d (iZ n02), .d (iZ n12), .d (.str n22), .d (lI n32), .d (lC n42), .d (lN n52), .d (iZ n62)]), (22, [.d (iZ y.kind), .d (.str y.text), .d (lI y.lit.shape), .d (lC y.lit.cells), .d (iZ y.at_)]), (1, [.d (iZ 0), .d (iZ 0), .d (.str []), oI [], oC [], oN [], .d (iZ 0)]), (0, (pC p.g p.l c15 p.end_ c17 c18))], 25, [], none⟩ : St)) res)) ⟨[(0, .c (.ptr 0 0)), (2, .c (.ptr 1 0)), (3, .c (.ptr 22 0)), (4, .c (.ptr 24 0))], [(24, [.d (iZ n01), .d (iZ n11), .d (.str n21), .d (lI n31), .d (lC n41), .d (lN n51), .d (iZ n61)]), (22, [.d (iZ y.kind), .d (.str y.text), .d (lI y.lit.shape), .d (lC y.lit.cells), .d (iZ y.at_)]), (1, [.d (iZ 0), .d (iZ 0), .d (.str []), oI [], oC [], oN [], .d (iZ 0)]), (0, (pC p.g p.l p151 p.end_ p171 p181))], 25, [], none⟩
abbrev Mp_grammar_parser_operand (a : Grammar_parser) (res : Except (Fault × Int × Int × Int) (Node × Int × Int × Int)) : Prop := match a with | p => aval X 59 [.ptr 0 0] [(pC p.g p.l p.i p.end_ p.deep p.in_)] (match (generalizing := false) res with | .ok r => (CRes.ret (.d (encNode r.1)) [(pC p.g p.l r.2.1 p.end_ r.2.2.1 r.2.2.2)]) | .error r => (CRes.pan (.iface 34 (encFault r.1)) [(pC p.g p.l r.2.1 p.end_ r.2.2.1 r.2.2.2)]))
abbrev Mp_grammar_parser_base_l0 (a : Bool × Grammar_parser × (List Node) × Int × Int × Int) (res : Except (Except (Fault × Int × Int × Int) (Node × Int × Int × Int)) ((List Node) × Int × Int × Int)) : Prop := match a with | (behind, p, l, p15, p17, p18) => ∀ (at_ : Int), awpL X 96 (codeAt [1, 1, 0, 0, 1, 1, 1, 0, 1, 1, 0, 0, 0] (bodyOf Tryz.f96)) (cleanAt (X.H 96 7) 14) (exitQ 1 (X.H 96 1000001) 14 (SubQ X Tryz.f96 1 (fun (r : Except (Fault × Int × Int × Int) (Node × Int × Int × Int)) => (match (generalizing := false) r with | .ok r => (CRes.ret (.d (encNode r.1)) [(pC p.g p.l r.2.1 p.end_ r.2.2.1 r.2.2.2)]) | .error r => (CRes.pan (.iface 34 (encFault r.1)) [(pC p.g p.l r.2.1 p.end_ r.2.2.1 r.2.2.2)]))) (fun ((l2, p151, p171, p181) : (List Node) × Int × Int × Int) => (⟨[(0, .c (.ptr 0 0)), (4, .c (.ptr 1 0)), (5, .d (iZ at_)), (6, .c (.own 7 (List.map encNodeR l2)))], [(1, [.d (iZ 0), .d (iZ 0), .d (.str []), oI [], oC [], oN [], .d (iZ 0)]), (0, (pC p.g p.l p151 p.end_ p171 p181))], 14, [], none⟩ : St)) res)) ⟨[(0, .c (.ptr 0 0)), (1, .d (.bool behind)), (4, .c (.ptr 1 0)), (5, .d (iZ at_)), (6, .c (.own 7 (List.map encNodeR l)))], [(1, [.d (iZ 0), .d (iZ 0), .d (.str []), oI [], oC [], oN [], .d (iZ 0)]), (0, (pC p.g p.l p15 p.end_ p17 p18))], 14, [], none⟩
abbrev Mp_grammar_parser_base (a : Bool × Grammar_parser) (res : Except (Fault × Int × Int × Int) (Node × Int × Int × Int)) : Prop := match a with | (behind, p) => aval X 96 [.ptr 0 0, .d (.bool behind)] [(pC p.g p.l p.i p.end_ p.deep p.in_)] (match (generalizing := false) res with | .ok r => (CRes.ret (.d (encNode r.1)) [(pC p.g p.l r.2.1 p.end_ r.2.2.1 r.2.2.2)]) | .error r => (CRes.pan (.iface 34 (encFault r.1)) [(pC p.g p.l r.2.1 p.end_ r.2.2.1 r.2.2.2)]))
abbrev Mp_grammar_parser_lambda (a : Grammar_parser) (res : Except (Fault × Int × Int × Int) (Node × Int × Int × Int)) : Prop := match a with | p => aval X 117 [.ptr 0 0] [(pC p.g p.l p.i p.end_ p.deep p.in_)] (match (generalizing := false) res with | .ok r => (CRes.ret (.d (encNode r.1)) [(pC p.g p.l r.2.1 p.end_ r.2.2.1 r.2.2.2)]) | .error r => (CRes.pan (.iface 34 (encFault r.1)) [(pC p.g p.l r.2.1 p.end_ r.2.2.1 r.2.2.2)]))
theorem p_grammar_parser_expr_grp : (∀ a res, p_grammar_parser_expr a = some res → Mp_grammar_parser_expr a res) ∧ (∀ a res, p_grammar_parser_operand a = some res → Mp_grammar_parser_operand a res) ∧ (∀ a res, p_grammar_parser_operand_l0 a = some res → Mp_grammar_parser_operand_l0 a res) ∧ (∀ a res, p_grammar_parser_function a = some res → Mp_grammar_parser_function a res) ∧ (∀ a res, p_grammar_parser_base a = some res → Mp_grammar_parser_base a res) ∧ (∀ a res, p_grammar_parser_base_l0 a = some res → Mp_grammar_parser_base_l0 a res) ∧ (∀ a res, p_grammar_parser_lambda a = some res → Mp_grammar_parser_lambda a res) := by
 refine p_grammar_parser_expr.mutual_partial_correctness (motive_1 := Mp_grammar_parser_expr) (motive_2 := Mp_grammar_parser_operand) (motive_3 := Mp_grammar_parser_operand_l0) (motive_4 := Mp_grammar_parser_function) (motive_5 := Mp_grammar_parser_base) (motive_6 := Mp_grammar_parser_base_l0) (motive_7 := Mp_grammar_parser_lambda) ?_ ?_ ?_ ?_ ?_ ?_ ?_
 ·rintro p_grammar_parser_expr' p_grammar_parser_operand' p_grammar_parser_function' ih_p_grammar_parser_expr ih_p_grammar_parser_operand ih_p_grammar_parser_function p res h
  refine aval_start (tm := [(0, .c (.ptr 0 0))]) (hp := [(0, (pC p.g p.l p.i p.end_ p.deep p.in_))]) (n := 1) I Tryz.func33 I I I I I I (ra (nid' := 3) I (S_ (rn 1 I ?_)))
  obtain ⟨res, hk, h⟩ := B h
  rcases res with e | deep
  ·obtain ⟨e12, deep42⟩ := e
   refine pp (ecallp (p_grammar_parser_down_ok hk) I I I I I I I I I I) I I (U_ ?_)
   cases h
   exact .pan I I
  refine po (ecallb (nid' := 3) (p_grammar_parser_down_ok hk) I I I I I I I I I I I I) I I (rz (S_ (rn 1 I (pdef (fun _ => I) I I (rz (S_ (rn 1 I ?_)))))))
  obtain ⟨at_, hk, h⟩ := B h
  refine po (ecallb (nid' := 3) (p_grammar_parser_here_ok hk) I I I I I I I I I I I I) I I (on 1 I (rz (S_ (S_ (drn (m := 10) 5 I I ?_)))))
  obtain ⟨x, hk, h⟩ := B h
  refine pd (ecallb (nid' := 10) (p_grammar_parser_skip_ok hk) I I I I I I I I I I I I) I I I I I (don 1 I (dz (by kernel_rfl) ?_))
  rcases E_ h with ⟨hc, h⟩ | ⟨hc, h⟩
  ·refine ct I hc (S_ (rn 1 I ?_))
   obtain ⟨res, hk, h⟩ := B h
   rcases res with e | y
   ·obtain ⟨e1, i3, deep6, in_3⟩ := e
    refine pp (ecallp (ih_p_grammar_parser_function _ _ hk) I I I I I I I I I I) I I (U_ (P_ (U_ ?_)))
    obtain ⟨deep7, hk, h⟩ := B h
    cases h
    exact .dpan I (rdc (nid' := 10) (p_grammar_parser_expr_1_ok hk) (recsF_of Tryz.func55 I I) I I I I I I I I .nil) I
   obtain ⟨x1, i, deep1, in_⟩ := y
   refine po (ecallb (nid' := 10) (ih_p_grammar_parser_function _ _ hk) I I I I I I I I I I I I) I I (on (nid' := 11) 2 I (rz (S_ (drn (m := 18) 3 I I ?_))))
   obtain ⟨res, hk, h⟩ := B h
   rcases res with e | y
   ·obtain ⟨e, i2, deep4, in_2⟩ := e
    refine dp I (ecallp (ih_p_grammar_parser_expr _ _ hk) I I I I I I I I I I) (ecallp (ih_p_grammar_parser_expr _ _ hk) I I I I I I I I I I) I I I I (by kernel_rfl) (U_ (P_ (U_ ?_)))
    obtain ⟨deep5, hk, h⟩ := B h
    cases h
    exact .dpan I (rdc (nid' := 18) (p_grammar_parser_expr_1_ok hk) (recsF_of Tryz.func55 I I) I I I I I I I I .nil) I
   obtain ⟨x2, i1, deep2, in_1⟩ := y
   refine pd (ecallb (nid' := 18) (ih_p_grammar_parser_expr _ _ hk) I I I I I I I I I I I I) I I I I I (pd (erw' (show V.c (.own 7 [encNode x1, encNode x2]) = V.c (.own 7 (List.map encNodeR [x1, x2])) from by simp only [List.map_cons, List.map_nil, encNodeR_eq]) (eplain I)) I I I I I (don 2 I (dz (by kernel_rfl) (R_ (C_ (Q_ ?_))))))
   obtain ⟨deep3, hk, h⟩ := B h
   cases h
   exact .dret I (rdc (nid' := 18) (p_grammar_parser_expr_1_ok hk) (recsF_of Tryz.func55 I I) I I I I I I I I .nil) I
  refine cf I hc (K_ (cn I (N_ (S_ (rn 1 I ?_)))))
  obtain ⟨res, hk, h⟩ := B h
  rcases res with e | y
  ·obtain ⟨e11, i19, deep40, in_19⟩ := e
   refine pp (ecallp (ih_p_grammar_parser_operand _ _ hk) I I I I I I I I I I) I I (U_ ?_)
   obtain ⟨deep41, hk, h⟩ := B h
   cases h
   exact .dpan I (rdc (nid' := 10) (p_grammar_parser_expr_1_ok hk) (recsF_of Tryz.func55 I I) I I I I I I I I .nil) I
  obtain ⟨x3, i4, deep8, in_4⟩ := y
  refine po (ecallb (nid' := 10) (ih_p_grammar_parser_operand _ _ hk) I I I I I I I I I I I I) I I (on (nid' := 11) 2 I (rz (S_ ?_)))
  obtain ⟨res, hs, h⟩ := B h
  refine awp_sub Tryz.f33 1 (fun (r : Except (Fault × Int × Int × Int) (Node × Int × Int × Int)) => (match (generalizing := false) r with | .ok r => (CRes.ret (.d (encNode r.1)) [(pC p.g p.l r.2.1 p.end_ r.2.2.1 r.2.2.2)]) | .error r => (CRes.pan (.iface 34 (encFault r.1)) [(pC p.g p.l r.2.1 p.end_ r.2.2.1 r.2.2.2)]))) (fun (_ : Unit) => (⟨[(1, .c (.ptr 1 0)), (2, .c (.ptr 2 0)), (3, .d (iZ at_)), (5, .c (.ptr 10 0))], [(10, [.d (iZ x3.kind), .d (iZ x3.op_), .d (.str x3.name), .d (lI x3.lit.shape), .d (lC x3.lit.cells), .d (lN x3.kids), .d (iZ x3.at_)]), (2, [.d (iZ 0), .d (iZ 0), .d (.str []), oI [], oC [], oN [], .d (iZ 0)]), (1, [.ptr 0 0]), (0, (pC p.g p.l i4 p.end_ deep8 in_4))], 11, [(55, [1])], none⟩ : St)) (res := res) ?_ (fun y hy => ?_) (fun r x s' hr hx he => ?_)
  ·replace h := hs
   refine W_ (S_ (drn (m := 36) 8 I I (pd (ellen I I I I I I I) I I I I I (don 2 I ?_))))
   rcases E_ h with ⟨hc, h⟩ | ⟨hc, h⟩
   ·refine dgt I I I I hc I (don 14 I (dz (by kernel_rfl) (ct I I (ra I (R_ (C_ (exitQ.ret ?_)))))))
    obtain ⟨deep9, hk, h⟩ := B h
    cases h
    exact .err I (.dret I (rdc (nid' := 36) (p_grammar_parser_expr_1_ok hk) (recsF_of Tryz.func55 I I) I I I I I I I I .nil) I)
   refine dgf I I I I hc I (don 8 I ?_)
   obtain ⟨y, hk, h⟩ := B h
   refine pd (elget encToken (fun _ => I) hk I I I I I) I I I I I (don 5 I (dz (by kernel_rfl) ?_))
   rcases E_ h with ⟨hc, h⟩ | ⟨hc, h⟩
   ·refine ct I hc (ra I (R_ (C_ (exitQ.ret ?_))))
    obtain ⟨deep10, hk, h⟩ := B h
    cases h
    exact .err I (.dret I (rdc (nid' := 36) (p_grammar_parser_expr_1_ok hk) (recsF_of Tryz.func55 I I) I I I I I I I I .nil) I)
   refine cf I hc (S_ (drn (m := 44) 5 I I ?_))
   obtain ⟨x4, hk, h⟩ := B h
   refine pd (ecallb (nid' := 44) (p_grammar_parser_skip_ok hk) I I I I I I I I I I I I) I I I I I (don 2 I (dz (by kernel_rfl) ?_))
   rcases E_ h with ⟨hc, h⟩ | ⟨hc, h⟩
   ·refine ct I hc (drn (m := 50) 5 I I ?_)
    obtain ⟨res, hk, h⟩ := B h
    rcases res with e2 | y
    ·refine dp I (ecallp (p_grammar_parser_fail_ok hk) I I I I I I I I I I) (ecallp (p_grammar_parser_fail_ok hk) I I I I I I I I I I) I I I I (by kernel_rfl) (P_ (P_ (exitQ.pan ?_)))
     obtain ⟨deep11, hk, h⟩ := B h
     cases h
     exact .err I (.dpan I (rdc (nid' := 50) (p_grammar_parser_expr_1_ok hk) (recsF_of Tryz.func55 I I) I I I I I I I I .nil) I)
    refine pd (ecallb (nid' := 50) (p_grammar_parser_fail_ok hk) I I I I I I I I I I I I) I I I I I (dz' (by kernel_rfl) (cn I (cn I (en I ?_))))
    cases h
    exact .ok I
   refine cf I hc (K_ (cn I (cn I (en I ?_))))
   cases h
   exact .ok I
  ·subst hy
   refine N_ (ra I (S_ (rn 1 I ?_)))
   obtain ⟨res, hk, h⟩ := B h
   rcases res with e | y
   ·obtain ⟨e10, i18, deep38, in_18⟩ := e
    refine pp (ecallp (ih_p_grammar_parser_function _ _ hk) I I I I I I I I I I) I I (U_ ?_)
    obtain ⟨deep39, hk, h⟩ := B h
    cases h
    exact .dpan I (rdc (nid' := 11) (p_grammar_parser_expr_1_ok hk) (recsF_of Tryz.func55 I I) I I I I I I I I .nil) I
   obtain ⟨x5, i5, deep12, in_5⟩ := y
   refine po (ecallb (nid' := 11) (ih_p_grammar_parser_function _ _ hk) I I I I I I I I I I I I) I I (on (nid' := 12) 2 I (rz (S_ (S_ (rn 6 I ?_)))))
   rcases E_ h with ⟨hc, h⟩ | ⟨hc, h⟩
   ·refine gt I I I I hc I (on 5 I ?_)
    rcases E_ h with ⟨hc, h⟩ | ⟨hc, h⟩
    ·refine gt I I I I hc I (on 5 I ?_)
     rcases E_ h with ⟨hc, h⟩ | ⟨hc, h⟩
     ·refine gt I I I I hc I (on 2 I ?_)
      obtain ⟨y1, hk, h⟩ := B h
      refine po (elget encNode encNodeR_eq hk I I I I I) I I (on 5 I ?_)
      rcases E_ h with ⟨hc, h⟩ | ⟨hc, h⟩
      ·refine gt I I I I hc I (on 4 I (rz ?_))
       rcases E_ h with ⟨hc, h⟩ | ⟨hc, h⟩
       ·refine ct I hc (S_ (rn 2 I ?_))
        obtain ⟨⟨n, ok⟩, hk, h⟩ := B h
        refine po (ecall (p_grammar_times_ok hk) I I I I I I I I I) I I (on 5 I (rz (S_ (ra I ?_))))
        obtain ⟨res, hs, h⟩ := B h
        refine awp_sub Tryz.f33 1 (fun (r : Except (Fault × Int × Int × Int) (Node × Int × Int × Int)) => (match (generalizing := false) r with | .ok r => (CRes.ret (.d (encNode r.1)) [(pC p.g p.l r.2.1 p.end_ r.2.2.1 r.2.2.2)]) | .error r => (CRes.pan (.iface 34 (encFault r.1)) [(pC p.g p.l r.2.1 p.end_ r.2.2.1 r.2.2.2)]))) (fun (_ : Unit) => (⟨[(1, .c (.ptr 1 0)), (2, .c (.ptr 2 0)), (3, .d (iZ at_)), (7, .c (.ptr 11 0)), (8, .d (iZ n))], [(11, [.d (iZ x5.kind), .d (iZ x5.op_), .d (.str x5.name), .d (lI x5.lit.shape), .d (lC x5.lit.cells), .d (lN x5.kids), .d (iZ x5.at_)]), (10, [.d (iZ x3.kind), .d (iZ x3.op_), .d (.str x3.name), .d (lI x3.lit.shape), .d (lC x3.lit.cells), .d (lN x3.kids), .d (iZ x3.at_)]), (2, [.d (iZ 0), .d (iZ 0), .d (.str []), oI [], oC [], oN [], .d (iZ 0)]), (1, [.ptr 0 0]), (0, (pC p.g p.l i5 p.end_ deep12 in_5))], 12, [(55, [1])], none⟩ : St)) (res := res) ?_ (fun y hy => ?_) (fun r x s' hr hx he => ?_)
        ·replace h := hs
         rcases E_ h with ⟨hc, h⟩ | ⟨hc, h⟩
         ·refine ct I hc (rn 2 I ?_)
          obtain ⟨res, hk, h⟩ := B h
          rcases res with e3 | y
          ·refine pp (ecallp (p_grammar_parser_fail_ok hk) I I I I I I I I I I) I I (P_ ?_)
           obtain ⟨deep13, hk, h⟩ := B h
           cases h
           exact .err I (.dpan I (rdc (nid' := 12) (p_grammar_parser_expr_1_ok hk) (recsF_of Tryz.func55 I I) I I I I I I I I .nil) I)
          refine po (ecallb (nid' := 12) (p_grammar_parser_fail_ok hk) I I I I I I I I I I I I) I I (O_ (cn I ?_))
          cases h
          exact .ok I
         refine cf I hc (K_ (cn I ?_))
         cases h
         exact .ok I
        ·subst hy
         refine N_ (ra I (S_ (drn (m := 19) 3 I I ?_)))
         obtain ⟨res, hk, h⟩ := B h
         rcases res with e | y
         ·obtain ⟨e4, i7, deep16, in_7⟩ := e
          refine dp I (ecallp (ih_p_grammar_parser_expr _ _ hk) I I I I I I I I I I) (ecallp (ih_p_grammar_parser_expr _ _ hk) I I I I I I I I I I) I I I I (by kernel_rfl) (U_ (P_ (U_ ?_)))
          obtain ⟨deep17, hk, h⟩ := B h
          cases h
          exact .dpan I (rdc (nid' := 19) (p_grammar_parser_expr_1_ok hk) (recsF_of Tryz.func55 I I) I I I I I I I I .nil) I
         obtain ⟨x6, i6, deep14, in_6⟩ := y
         refine pd (ecallb (nid' := 19) (ih_p_grammar_parser_expr _ _ hk) I I I I I I I I I I I I) I I I I I (pd (erw' (show V.c (.own 7 [encNode (Node.mk 26 n [] (Arr.mk [] []) x5.kids at_), encNode x6]) = V.c (.own 7 (List.map encNodeR [(Node.mk 26 n [] (Arr.mk [] []) x5.kids at_), x6])) from by simp only [List.map_cons, List.map_nil, encNodeR_eq]) (eplain I)) I I I I I (don 2 I (dz (by kernel_rfl) (R_ (C_ (Q_ ?_))))))
         obtain ⟨deep15, hk, h⟩ := B h
         cases h
         exact .dret I (rdc (nid' := 19) (p_grammar_parser_expr_1_ok hk) (recsF_of Tryz.func55 I I) I I I I I I I I .nil) I
        subst hr
        refine seqQ.out hx (condQ.out hx (seqQ.out hx ?_))
        cases h
        exact he
       refine cf I hc (K_ (cn I (N_ (S_ (drn (m := 20) 4 I I ?_)))))
       obtain ⟨res, hk, h⟩ := B h
       rcases res with e | y
       ·obtain ⟨e5, i9, deep20, in_9⟩ := e
        refine dp I (ecallp (ih_p_grammar_parser_expr _ _ hk) I I I I I I I I I I) (ecallp (ih_p_grammar_parser_expr _ _ hk) I I I I I I I I I I) I I I I (by kernel_rfl) (U_ ?_)
        obtain ⟨deep21, hk, h⟩ := B h
        cases h
        exact .dpan I (rdc (nid' := 20) (p_grammar_parser_expr_1_ok hk) (recsF_of Tryz.func55 I I) I I I I I I I I .nil) I
       obtain ⟨x7, i8, deep18, in_8⟩ := y
       refine pd (ecallb (nid' := 20) (ih_p_grammar_parser_expr _ _ hk) I I I I I I I I I I I I) I I I I I (pd (erw' (show V.c (.own 7 [encNode x5, encNode x3, encNode x7]) = V.c (.own 7 (List.map encNodeR [x5, x3, x7])) from by simp only [List.map_cons, List.map_nil, encNodeR_eq]) (eplain I)) I I I I I (don 2 I (dz (by kernel_rfl) (R_ ?_))))
       obtain ⟨deep19, hk, h⟩ := B h
       cases h
       exact .dret I (rdc (nid' := 20) (p_grammar_parser_expr_1_ok hk) (recsF_of Tryz.func55 I I) I I I I I I I I .nil) I
      refine gf I I I I hc I (on 4 I (rz (cf I I (K_ (cn I (N_ (S_ (drn (m := 20) 4 I I ?_))))))))
      obtain ⟨res, hk, h⟩ := B h
      rcases res with e | y
      ·obtain ⟨e6, i11, deep24, in_11⟩ := e
       refine dp I (ecallp (ih_p_grammar_parser_expr _ _ hk) I I I I I I I I I I) (ecallp (ih_p_grammar_parser_expr _ _ hk) I I I I I I I I I I) I I I I (by kernel_rfl) (U_ ?_)
       obtain ⟨deep25, hk, h⟩ := B h
       cases h
       exact .dpan I (rdc (nid' := 20) (p_grammar_parser_expr_1_ok hk) (recsF_of Tryz.func55 I I) I I I I I I I I .nil) I
      obtain ⟨x8, i10, deep22, in_10⟩ := y
      refine pd (ecallb (nid' := 20) (ih_p_grammar_parser_expr _ _ hk) I I I I I I I I I I I I) I I I I I (pd (erw' (show V.c (.own 7 [encNode x5, encNode x3, encNode x8]) = V.c (.own 7 (List.map encNodeR [x5, x3, x8])) from by simp only [List.map_cons, List.map_nil, encNodeR_eq]) (eplain I)) I I I I I (don 2 I (dz (by kernel_rfl) (R_ ?_))))
      obtain ⟨deep23, hk, h⟩ := B h
      cases h
      exact .dret I (rdc (nid' := 20) (p_grammar_parser_expr_1_ok hk) (recsF_of Tryz.func55 I I) I I I I I I I I .nil) I
     refine gf I I I I hc I (on 12 I (rz (cf I I (K_ (cn I (N_ (S_ (drn (m := 20) 4 I I ?_))))))))
     obtain ⟨res, hk, h⟩ := B h
     rcases res with e | y
     ·obtain ⟨e7, i13, deep28, in_13⟩ := e
      refine dp I (ecallp (ih_p_grammar_parser_expr _ _ hk) I I I I I I I I I I) (ecallp (ih_p_grammar_parser_expr _ _ hk) I I I I I I I I I I) I I I I (by kernel_rfl) (U_ ?_)
      obtain ⟨deep29, hk, h⟩ := B h
      cases h
      exact .dpan I (rdc (nid' := 20) (p_grammar_parser_expr_1_ok hk) (recsF_of Tryz.func55 I I) I I I I I I I I .nil) I
     obtain ⟨x9, i12, deep26, in_12⟩ := y
     refine pd (ecallb (nid' := 20) (ih_p_grammar_parser_expr _ _ hk) I I I I I I I I I I I I) I I I I I (pd (erw' (show V.c (.own 7 [encNode x5, encNode x3, encNode x9]) = V.c (.own 7 (List.map encNodeR [x5, x3, x9])) from by simp only [List.map_cons, List.map_nil, encNodeR_eq]) (eplain I)) I I I I I (don 2 I (dz (by kernel_rfl) (R_ ?_))))
     obtain ⟨deep27, hk, h⟩ := B h
     cases h
     exact .dret I (rdc (nid' := 20) (p_grammar_parser_expr_1_ok hk) (recsF_of Tryz.func55 I I) I I I I I I I I .nil) I
    refine gf I I I I hc I (on 17 I (rz (cf I I (K_ (cn I (N_ (S_ (drn (m := 20) 4 I I ?_))))))))
    obtain ⟨res, hk, h⟩ := B h
    rcases res with e | y
    ·obtain ⟨e8, i15, deep32, in_15⟩ := e
     refine dp I (ecallp (ih_p_grammar_parser_expr _ _ hk) I I I I I I I I I I) (ecallp (ih_p_grammar_parser_expr _ _ hk) I I I I I I I I I I) I I I I (by kernel_rfl) (U_ ?_)
     obtain ⟨deep33, hk, h⟩ := B h
     cases h
     exact .dpan I (rdc (nid' := 20) (p_grammar_parser_expr_1_ok hk) (recsF_of Tryz.func55 I I) I I I I I I I I .nil) I
    obtain ⟨x10, i14, deep30, in_14⟩ := y
    refine pd (ecallb (nid' := 20) (ih_p_grammar_parser_expr _ _ hk) I I I I I I I I I I I I) I I I I I (pd (erw' (show V.c (.own 7 [encNode x5, encNode x3, encNode x10]) = V.c (.own 7 (List.map encNodeR [x5, x3, x10])) from by simp only [List.map_cons, List.map_nil, encNodeR_eq]) (eplain I)) I I I I I (don 2 I (dz (by kernel_rfl) (R_ ?_))))
    obtain ⟨deep31, hk, h⟩ := B h
    cases h
    exact .dret I (rdc (nid' := 20) (p_grammar_parser_expr_1_ok hk) (recsF_of Tryz.func55 I I) I I I I I I I I .nil) I
   refine gf I I I I hc I (on 22 I (rz (cf I I (K_ (cn I (N_ (S_ (drn (m := 20) 4 I I ?_))))))))
   obtain ⟨res, hk, h⟩ := B h
   rcases res with e | y
   ·obtain ⟨e9, i17, deep36, in_17⟩ := e
    refine dp I (ecallp (ih_p_grammar_parser_expr _ _ hk) I I I I I I I I I I) (ecallp (ih_p_grammar_parser_expr _ _ hk) I I I I I I I I I I) I I I I (by kernel_rfl) (U_ ?_)
    obtain ⟨deep37, hk, h⟩ := B h
    cases h
    exact .dpan I (rdc (nid' := 20) (p_grammar_parser_expr_1_ok hk) (recsF_of Tryz.func55 I I) I I I I I I I I .nil) I
   obtain ⟨x11, i16, deep34, in_16⟩ := y
   refine pd (ecallb (nid' := 20) (ih_p_grammar_parser_expr _ _ hk) I I I I I I I I I I I I) I I I I I (pd (erw' (show V.c (.own 7 [encNode x5, encNode x3, encNode x11]) = V.c (.own 7 (List.map encNodeR [x5, x3, x11])) from by simp only [List.map_cons, List.map_nil, encNodeR_eq]) (eplain I)) I I I I I (don 2 I (dz (by kernel_rfl) (R_ ?_))))
   obtain ⟨deep35, hk, h⟩ := B h
   cases h
   exact .dret I (rdc (nid' := 20) (p_grammar_parser_expr_1_ok hk) (recsF_of Tryz.func55 I I) I I I I I I I I .nil) I
  subst hr
  refine seqQ.out hx ?_
  cases h
  exact he
 ·rintro p_grammar_parser_expr' p_grammar_parser_operand_l0' ih_p_grammar_parser_expr ih_p_grammar_parser_operand_l0 p res h
  refine aval_start (tm := [(0, .c (.ptr 0 0))]) (hp := [(0, (pC p.g p.l p.i p.end_ p.deep p.in_))]) (n := 1) I Tryz.func59 I I I I I I (ra (nid' := 2) I (S_ (S_ (drn (m := 12) 8 I I (pd (ellen I I I I I I I) I I I I I (don 1 I (dz (by kernel_rfl) ?_)))))))
  obtain ⟨res, hs, h⟩ := B h
  refine awp_sub Tryz.f59 1 (fun (r : Except (Fault × Int × Int × Int) (Node × Int × Int × Int)) => (match (generalizing := false) r with | .ok r => (CRes.ret (.d (encNode r.1)) [(pC p.g p.l r.2.1 p.end_ r.2.2.1 r.2.2.2)]) | .error r => (CRes.pan (.iface 34 (encFault r.1)) [(pC p.g p.l r.2.1 p.end_ r.2.2.1 r.2.2.2)]))) (fun (_ : Unit) => (⟨[(0, .c (.ptr 0 0)), (2, .c (.ptr 1 0))], [(1, [.d (iZ 0), .d (iZ 0), .d (.str []), oI [], oC [], oN [], .d (iZ 0)]), (0, (pC p.g p.l p.i p.end_ p.deep p.in_))], 12, [], none⟩ : St)) (res := res) ?_ (fun y hy => ?_) (fun r x s' hr hx he => ?_)
  ·replace h := hs
   rcases E_ h with ⟨hc, h⟩ | ⟨hc, h⟩
   ·refine ct I hc (rn 5 I ?_)
    obtain ⟨res, hk, h⟩ := B h
    rcases res with e | y
    ·refine pp (ecallp (p_grammar_parser_fail_ok hk) I I I I I I I I I I) I I (P_ ?_)
     cases h
     exact .err I (.pan I I)
    refine po (ecallb (nid' := 12) (p_grammar_parser_fail_ok hk) I I I I I I I I I I I I) I I (O_ (cn I ?_))
    cases h
    exact .ok I
   refine cf I hc (K_ (cn I ?_))
   cases h
   exact .ok I
  ·subst hy
   refine N_ (S_ (drn (m := 24) 8 I I ?_))
   obtain ⟨y, hk, h⟩ := B h
   refine pd (elget encToken (fun _ => I) hk I I I I I) I I I I I (don 3 I (dz (by kernel_rfl) (ra (nid' := 25) I (S_ ?_))))
   obtain ⟨res, hs, h⟩ := B h
   refine awp_sub Tryz.f59 1 (fun (r : Except (Fault × Int × Int × Int) (Node × Int × Int × Int)) => (match (generalizing := false) r with | .ok r => (CRes.ret (.d (encNode r.1)) [(pC p.g p.l r.2.1 p.end_ r.2.2.1 r.2.2.2)]) | .error r => (CRes.pan (.iface 34 (encFault r.1)) [(pC p.g p.l r.2.1 p.end_ r.2.2.1 r.2.2.2)]))) (fun ((n0, n1, n2, n3, n4, n5, n6, p15, p17, p18) : Int × Int × Str × (List Int) × (List Cell) × (List Node) × Int × Int × Int × Int) => (⟨[(0, .c (.ptr 0 0)), (2, .c (.ptr 1 0)), (3, .c (.ptr 22 0)), (4, .c (.ptr 24 0))], [(24, [.d (iZ n0), .d (iZ n1), .d (.str n2), .d (lI n3), .d (lC n4), .d (lN n5), .d (iZ n6)]), (22, [.d (iZ y.kind), .d (.str y.text), .d (lI y.lit.shape), .d (lC y.lit.cells), .d (iZ y.at_)]), (1, [.d (iZ 0), .d (iZ 0), .d (.str []), oI [], oC [], oN [], .d (iZ 0)]), (0, (pC p.g p.l p15 p.end_ p17 p18))], 25, [], none⟩ : St)) (res := res) ?_ (fun y hy => ?_) (fun r x s' hr hx he => ?_)
   ·replace h := hs
    refine W_ (S_ (rn 4 I ?_))
    rcases E_ h with ⟨hc, h⟩ | ⟨hc, h⟩
    ·refine gt I I I I hc I (on 5 I (rz (ct I I (S_ (drn (m := 31) 6 I I (dz (by kernel_rfl) (rn 8 I (O_ (cn I (en I ?_))))))))))
     cases h
     exact .ok I
    refine gf I I I I hc I (on 5 I (rz ?_))
    rcases E_ h with ⟨hc, h⟩ | ⟨hc, h⟩
    ·refine ct I hc (S_ (drn (m := 31) 6 I I (dz (by kernel_rfl) (rn 8 I (O_ (cn I (en I ?_)))))))
     cases h
     exact .ok I
    refine cf I hc (S_ (drn (m := 46) 4 I I ?_))
    rcases E_ h with ⟨hc, h⟩ | ⟨hc, h⟩
    ·refine dgt I I I I hc I (don 7 I ?_)
     rcases E_ h with ⟨hc, h⟩ | ⟨hc, h⟩
     ·refine dgt I I I I hc I (don 10 I (dz (by kernel_rfl) ?_))
      rcases E_ h with ⟨hc, h⟩ | ⟨hc, h⟩
      ·refine ct I hc (ra I (rn 8 I (O_ (cn I (cn I (en I ?_))))))
       cases h
       exact .ok I
      refine cf I hc (S_ (drn (m := 67) 4 I I ?_))
      rcases E_ h with ⟨hc, h⟩ | ⟨hc, h⟩
      ·refine dgt I I I I hc I (don 7 I ?_)
       rcases E_ h with ⟨hc, h⟩ | ⟨hc, h⟩
       ·refine dgt I I I I hc I (don 10 I (dz (by kernel_rfl) ?_))
        rcases E_ h with ⟨hc, h⟩ | ⟨hc, h⟩
        ·refine ct I hc (ra I (rn 8 I (O_ (cn I (cn I (cn I (en I ?_)))))))
         cases h
         exact .ok I
        refine cf I hc (S_ (rn 4 I ?_))
        rcases E_ h with ⟨hc, h⟩ | ⟨hc, h⟩
        ·refine gt I I I I hc I (on 2 I ?_)
         obtain ⟨x, hk, h⟩ := B h
         refine po (ecall (p_core_Name_ok hk) I I I I I I I I I) I I (on 2 I (rz ?_))
         rcases E_ h with ⟨hc, h⟩ | ⟨hc, h⟩
         ·refine ct I hc (S_ (drn (m := 73) 6 I I (dz (by kernel_rfl) (rn 8 I (O_ (cn I (cn I (cn I (cn I (en I ?_))))))))))
          cases h
          exact .ok I
         refine cf I hc (S_ (rn 5 I ?_))
         obtain ⟨x1, hk, h⟩ := B h
         refine po (ecallb (nid' := 67) (p_grammar_parser_is_ok hk) I I I I I I I I I I I I) I I (on 1 I (rz ?_))
         rcases E_ h with ⟨hc, h⟩ | ⟨hc, h⟩
         ·refine ct I hc (ra I (S_ (rn 1 I ?_)))
          obtain ⟨res, hk, h⟩ := B h
          rcases res with e | y
          ·obtain ⟨e2, i2, deep1, in_1⟩ := e
           refine pp (ecallp (ih_p_grammar_parser_expr _ _ hk) I I I I I I I I I I) I I (U_ (P_ (P_ (P_ (P_ (P_ (exitQ.pan ?_)))))))
           cases h
           exact .err I (.pan I I)
          obtain ⟨x2, i, deep, in_⟩ := y
          refine po (ecallb (nid' := 67) (ih_p_grammar_parser_expr _ _ hk) I I I I I I I I I I I I) I I (on 1 I (rz (rn 1 I ?_)))
          obtain ⟨res, hk, h⟩ := B h
          rcases res with e1 | i1
          ·refine pp (ecallp (p_grammar_parser_take_ok hk) I I I I I I I I I I) I I (P_ (P_ (P_ (P_ (P_ (exitQ.pan ?_))))))
           cases h
           exact .err I (.pan I I)
          refine po (ecallb (nid' := 67) (p_grammar_parser_take_ok hk) I I I I I I I I I I I I) I I (O_ (cn I (cn I (cn I (cn I (cn I (en I ?_)))))))
          cases h
          exact .ok I
         refine cf I hc (rn 5 I ?_)
         obtain ⟨res, hk, h⟩ := B h
         rcases res with e3 | y
         ·refine pp (ecallp (p_grammar_parser_fail_ok hk) I I I I I I I I I I) I I (P_ (P_ (P_ (P_ (P_ (exitQ.pan ?_))))))
          cases h
          exact .err I (.pan I I)
         refine po (ecallb (nid' := 67) (p_grammar_parser_fail_ok hk) I I I I I I I I I I I I) I I (O_ (cn I (cn I (cn I (cn I (cn I (en I ?_)))))))
         cases h
         exact .ok I
        refine gf I I I I hc I (on 5 I (rz (cf I I (S_ (rn 5 I ?_)))))
        obtain ⟨x3, hk, h⟩ := B h
        refine po (ecallb (nid' := 67) (p_grammar_parser_is_ok hk) I I I I I I I I I I I I) I I (on 1 I (rz ?_))
        rcases E_ h with ⟨hc, h⟩ | ⟨hc, h⟩
        ·refine ct I hc (ra I (S_ (rn 1 I ?_)))
         obtain ⟨res, hk, h⟩ := B h
         rcases res with e | y
         ·obtain ⟨e5, i5, deep3, in_3⟩ := e
          refine pp (ecallp (ih_p_grammar_parser_expr _ _ hk) I I I I I I I I I I) I I (U_ (P_ (P_ (P_ (P_ (P_ (exitQ.pan ?_)))))))
          cases h
          exact .err I (.pan I I)
         obtain ⟨x4, i3, deep2, in_2⟩ := y
         refine po (ecallb (nid' := 67) (ih_p_grammar_parser_expr _ _ hk) I I I I I I I I I I I I) I I (on 1 I (rz (rn 1 I ?_)))
         obtain ⟨res, hk, h⟩ := B h
         rcases res with e4 | i4
         ·refine pp (ecallp (p_grammar_parser_take_ok hk) I I I I I I I I I I) I I (P_ (P_ (P_ (P_ (P_ (exitQ.pan ?_))))))
          cases h
          exact .err I (.pan I I)
         refine po (ecallb (nid' := 67) (p_grammar_parser_take_ok hk) I I I I I I I I I I I I) I I (O_ (cn I (cn I (cn I (cn I (cn I (en I ?_)))))))
         cases h
         exact .ok I
        refine cf I hc (rn 5 I ?_)
        obtain ⟨res, hk, h⟩ := B h
        rcases res with e6 | y
        ·refine pp (ecallp (p_grammar_parser_fail_ok hk) I I I I I I I I I I) I I (P_ (P_ (P_ (P_ (P_ (exitQ.pan ?_))))))
         cases h
         exact .err I (.pan I I)
        refine po (ecallb (nid' := 67) (p_grammar_parser_fail_ok hk) I I I I I I I I I I I I) I I (O_ (cn I (cn I (cn I (cn I (cn I (en I ?_)))))))
        cases h
        exact .ok I
       refine dgf I I I I hc I (don 10 I (dz (by kernel_rfl) (cf I I (S_ (rn 4 I ?_)))))
       rcases E_ h with ⟨hc, h⟩ | ⟨hc, h⟩
       ·refine gt I I I I hc I (on 2 I ?_)
        obtain ⟨x5, hk, h⟩ := B h
        refine po (ecall (p_core_Name_ok hk) I I I I I I I I I) I I (on 2 I (rz ?_))
        rcases E_ h with ⟨hc, h⟩ | ⟨hc, h⟩
        ·refine ct I hc (S_ (drn (m := 73) 6 I I (dz (by kernel_rfl) (rn 8 I (O_ (cn I (cn I (cn I (cn I (en I ?_))))))))))
         cases h
         exact .ok I
        refine cf I hc (S_ (rn 5 I ?_))
        obtain ⟨x6, hk, h⟩ := B h
        refine po (ecallb (nid' := 67) (p_grammar_parser_is_ok hk) I I I I I I I I I I I I) I I (on 1 I (rz ?_))
        rcases E_ h with ⟨hc, h⟩ | ⟨hc, h⟩
        ·refine ct I hc (ra I (S_ (rn 1 I ?_)))
         obtain ⟨res, hk, h⟩ := B h
         rcases res with e | y
         ·obtain ⟨e8, i8, deep5, in_5⟩ := e
          refine pp (ecallp (ih_p_grammar_parser_expr _ _ hk) I I I I I I I I I I) I I (U_ (P_ (P_ (P_ (P_ (P_ (exitQ.pan ?_)))))))
          cases h
          exact .err I (.pan I I)
         obtain ⟨x7, i6, deep4, in_4⟩ := y
         refine po (ecallb (nid' := 67) (ih_p_grammar_parser_expr _ _ hk) I I I I I I I I I I I I) I I (on 1 I (rz (rn 1 I ?_)))
         obtain ⟨res, hk, h⟩ := B h
         rcases res with e7 | i7
         ·refine pp (ecallp (p_grammar_parser_take_ok hk) I I I I I I I I I I) I I (P_ (P_ (P_ (P_ (P_ (exitQ.pan ?_))))))
          cases h
          exact .err I (.pan I I)
         refine po (ecallb (nid' := 67) (p_grammar_parser_take_ok hk) I I I I I I I I I I I I) I I (O_ (cn I (cn I (cn I (cn I (cn I (en I ?_)))))))
         cases h
         exact .ok I
        refine cf I hc (rn 5 I ?_)
        obtain ⟨res, hk, h⟩ := B h
        rcases res with e9 | y
        ·refine pp (ecallp (p_grammar_parser_fail_ok hk) I I I I I I I I I I) I I (P_ (P_ (P_ (P_ (P_ (exitQ.pan ?_))))))
         cases h
         exact .err I (.pan I I)
        refine po (ecallb (nid' := 67) (p_grammar_parser_fail_ok hk) I I I I I I I I I I I I) I I (O_ (cn I (cn I (cn I (cn I (cn I (en I ?_)))))))
        cases h
        exact .ok I
       refine gf I I I I hc I (on 5 I (rz (cf I I (S_ (rn 5 I ?_)))))
       obtain ⟨x8, hk, h⟩ := B h
       refine po (ecallb (nid' := 67) (p_grammar_parser_is_ok hk) I I I I I I I I I I I I) I I (on 1 I (rz ?_))
       rcases E_ h with ⟨hc, h⟩ | ⟨hc, h⟩
       ·refine ct I hc (ra I (S_ (rn 1 I ?_)))
        obtain ⟨res, hk, h⟩ := B h
        rcases res with e | y
        ·obtain ⟨e11, i11, deep7, in_7⟩ := e
         refine pp (ecallp (ih_p_grammar_parser_expr _ _ hk) I I I I I I I I I I) I I (U_ (P_ (P_ (P_ (P_ (P_ (exitQ.pan ?_)))))))
         cases h
         exact .err I (.pan I I)
        obtain ⟨x9, i9, deep6, in_6⟩ := y
        refine po (ecallb (nid' := 67) (ih_p_grammar_parser_expr _ _ hk) I I I I I I I I I I I I) I I (on 1 I (rz (rn 1 I ?_)))
        obtain ⟨res, hk, h⟩ := B h
        rcases res with e10 | i10
        ·refine pp (ecallp (p_grammar_parser_take_ok hk) I I I I I I I I I I) I I (P_ (P_ (P_ (P_ (P_ (exitQ.pan ?_))))))
         cases h
         exact .err I (.pan I I)
        refine po (ecallb (nid' := 67) (p_grammar_parser_take_ok hk) I I I I I I I I I I I I) I I (O_ (cn I (cn I (cn I (cn I (cn I (en I ?_)))))))
        cases h
        exact .ok I
       refine cf I hc (rn 5 I ?_)
       obtain ⟨res, hk, h⟩ := B h
       rcases res with e12 | y
       ·refine pp (ecallp (p_grammar_parser_fail_ok hk) I I I I I I I I I I) I I (P_ (P_ (P_ (P_ (P_ (exitQ.pan ?_))))))
        cases h
        exact .err I (.pan I I)
       refine po (ecallb (nid' := 67) (p_grammar_parser_fail_ok hk) I I I I I I I I I I I I) I I (O_ (cn I (cn I (cn I (cn I (cn I (en I ?_)))))))
       cases h
       exact .ok I
      refine dgf I I I I hc I (don 17 I (dz (by kernel_rfl) (cf I I (S_ (rn 4 I ?_)))))
      rcases E_ h with ⟨hc, h⟩ | ⟨hc, h⟩
      ·refine gt I I I I hc I (on 2 I ?_)
       obtain ⟨x10, hk, h⟩ := B h
       refine po (ecall (p_core_Name_ok hk) I I I I I I I I I) I I (on 2 I (rz ?_))
       rcases E_ h with ⟨hc, h⟩ | ⟨hc, h⟩
       ·refine ct I hc (S_ (drn (m := 73) 6 I I (dz (by kernel_rfl) (rn 8 I (O_ (cn I (cn I (cn I (cn I (en I ?_))))))))))
        cases h
        exact .ok I
       refine cf I hc (S_ (rn 5 I ?_))
       obtain ⟨x11, hk, h⟩ := B h
       refine po (ecallb (nid' := 67) (p_grammar_parser_is_ok hk) I I I I I I I I I I I I) I I (on 1 I (rz ?_))
       rcases E_ h with ⟨hc, h⟩ | ⟨hc, h⟩
       ·refine ct I hc (ra I (S_ (rn 1 I ?_)))
        obtain ⟨res, hk, h⟩ := B h
        rcases res with e | y
        ·obtain ⟨e14, i14, deep9, in_9⟩ := e
         refine pp (ecallp (ih_p_grammar_parser_expr _ _ hk) I I I I I I I I I I) I I (U_ (P_ (P_ (P_ (P_ (P_ (exitQ.pan ?_)))))))
         cases h
         exact .err I (.pan I I)
        obtain ⟨x12, i12, deep8, in_8⟩ := y
        refine po (ecallb (nid' := 67) (ih_p_grammar_parser_expr _ _ hk) I I I I I I I I I I I I) I I (on 1 I (rz (rn 1 I ?_)))
        obtain ⟨res, hk, h⟩ := B h
        rcases res with e13 | i13
        ·refine pp (ecallp (p_grammar_parser_take_ok hk) I I I I I I I I I I) I I (P_ (P_ (P_ (P_ (P_ (exitQ.pan ?_))))))
         cases h
         exact .err I (.pan I I)
        refine po (ecallb (nid' := 67) (p_grammar_parser_take_ok hk) I I I I I I I I I I I I) I I (O_ (cn I (cn I (cn I (cn I (cn I (en I ?_)))))))
        cases h
        exact .ok I
       refine cf I hc (rn 5 I ?_)
       obtain ⟨res, hk, h⟩ := B h
       rcases res with e15 | y
       ·refine pp (ecallp (p_grammar_parser_fail_ok hk) I I I I I I I I I I) I I (P_ (P_ (P_ (P_ (P_ (exitQ.pan ?_))))))
        cases h
        exact .err I (.pan I I)
       refine po (ecallb (nid' := 67) (p_grammar_parser_fail_ok hk) I I I I I I I I I I I I) I I (O_ (cn I (cn I (cn I (cn I (cn I (en I ?_)))))))
       cases h
       exact .ok I
      refine gf I I I I hc I (on 5 I (rz (cf I I (S_ (rn 5 I ?_)))))
      obtain ⟨x13, hk, h⟩ := B h
      refine po (ecallb (nid' := 67) (p_grammar_parser_is_ok hk) I I I I I I I I I I I I) I I (on 1 I (rz ?_))
      rcases E_ h with ⟨hc, h⟩ | ⟨hc, h⟩
      ·refine ct I hc (ra I (S_ (rn 1 I ?_)))
       obtain ⟨res, hk, h⟩ := B h
       rcases res with e | y
       ·obtain ⟨e17, i17, deep11, in_11⟩ := e
        refine pp (ecallp (ih_p_grammar_parser_expr _ _ hk) I I I I I I I I I I) I I (U_ (P_ (P_ (P_ (P_ (P_ (exitQ.pan ?_)))))))
        cases h
        exact .err I (.pan I I)
       obtain ⟨x14, i15, deep10, in_10⟩ := y
       refine po (ecallb (nid' := 67) (ih_p_grammar_parser_expr _ _ hk) I I I I I I I I I I I I) I I (on 1 I (rz (rn 1 I ?_)))
       obtain ⟨res, hk, h⟩ := B h
       rcases res with e16 | i16
       ·refine pp (ecallp (p_grammar_parser_take_ok hk) I I I I I I I I I I) I I (P_ (P_ (P_ (P_ (P_ (exitQ.pan ?_))))))
        cases h
        exact .err I (.pan I I)
       refine po (ecallb (nid' := 67) (p_grammar_parser_take_ok hk) I I I I I I I I I I I I) I I (O_ (cn I (cn I (cn I (cn I (cn I (en I ?_)))))))
       cases h
       exact .ok I
      refine cf I hc (rn 5 I ?_)
      obtain ⟨res, hk, h⟩ := B h
      rcases res with e18 | y
      ·refine pp (ecallp (p_grammar_parser_fail_ok hk) I I I I I I I I I I) I I (P_ (P_ (P_ (P_ (P_ (exitQ.pan ?_))))))
       cases h
       exact .err I (.pan I I)
      refine po (ecallb (nid' := 67) (p_grammar_parser_fail_ok hk) I I I I I I I I I I I I) I I (O_ (cn I (cn I (cn I (cn I (cn I (en I ?_)))))))
      cases h
      exact .ok I
     refine dgf I I I I hc I (don 10 I (dz (by kernel_rfl) (cf I I (S_ (drn (m := 67) 4 I I ?_)))))
     rcases E_ h with ⟨hc, h⟩ | ⟨hc, h⟩
     ·refine dgt I I I I hc I (don 7 I ?_)
      rcases E_ h with ⟨hc, h⟩ | ⟨hc, h⟩
      ·refine dgt I I I I hc I (don 10 I (dz (by kernel_rfl) ?_))
       rcases E_ h with ⟨hc, h⟩ | ⟨hc, h⟩
       ·refine ct I hc (ra I (rn 8 I (O_ (cn I (cn I (cn I (en I ?_)))))))
        cases h
        exact .ok I
       refine cf I hc (S_ (rn 4 I ?_))
       rcases E_ h with ⟨hc, h⟩ | ⟨hc, h⟩
       ·refine gt I I I I hc I (on 2 I ?_)
        obtain ⟨x15, hk, h⟩ := B h
        refine po (ecall (p_core_Name_ok hk) I I I I I I I I I) I I (on 2 I (rz ?_))
        rcases E_ h with ⟨hc, h⟩ | ⟨hc, h⟩
        ·refine ct I hc (S_ (drn (m := 73) 6 I I (dz (by kernel_rfl) (rn 8 I (O_ (cn I (cn I (cn I (cn I (en I ?_))))))))))
         cases h
         exact .ok I
        refine cf I hc (S_ (rn 5 I ?_))
        obtain ⟨x16, hk, h⟩ := B h
        refine po (ecallb (nid' := 67) (p_grammar_parser_is_ok hk) I I I I I I I I I I I I) I I (on 1 I (rz ?_))
        rcases E_ h with ⟨hc, h⟩ | ⟨hc, h⟩
        ·refine ct I hc (ra I (S_ (rn 1 I ?_)))
         obtain ⟨res, hk, h⟩ := B h
         rcases res with e | y
         ·obtain ⟨e20, i20, deep13, in_13⟩ := e
          refine pp (ecallp (ih_p_grammar_parser_expr _ _ hk) I I I I I I I I I I) I I (U_ (P_ (P_ (P_ (P_ (P_ (exitQ.pan ?_)))))))
          cases h
          exact .err I (.pan I I)
         obtain ⟨x17, i18, deep12, in_12⟩ := y
         refine po (ecallb (nid' := 67) (ih_p_grammar_parser_expr _ _ hk) I I I I I I I I I I I I) I I (on 1 I (rz (rn 1 I ?_)))
         obtain ⟨res, hk, h⟩ := B h
         rcases res with e19 | i19
         ·refine pp (ecallp (p_grammar_parser_take_ok hk) I I I I I I I I I I) I I (P_ (P_ (P_ (P_ (P_ (exitQ.pan ?_))))))
          cases h
          exact .err I (.pan I I)
         refine po (ecallb (nid' := 67) (p_grammar_parser_take_ok hk) I I I I I I I I I I I I) I I (O_ (cn I (cn I (cn I (cn I (cn I (en I ?_)))))))
         cases h
         exact .ok I
        refine cf I hc (rn 5 I ?_)
        obtain ⟨res, hk, h⟩ := B h
        rcases res with e21 | y
        ·refine pp (ecallp (p_grammar_parser_fail_ok hk) I I I I I I I I I I) I I (P_ (P_ (P_ (P_ (P_ (exitQ.pan ?_))))))
         cases h
         exact .err I (.pan I I)
        refine po (ecallb (nid' := 67) (p_grammar_parser_fail_ok hk) I I I I I I I I I I I I) I I (O_ (cn I (cn I (cn I (cn I (cn I (en I ?_)))))))
        cases h
        exact .ok I
       refine gf I I I I hc I (on 5 I (rz (cf I I (S_ (rn 5 I ?_)))))
       obtain ⟨x18, hk, h⟩ := B h
       refine po (ecallb (nid' := 67) (p_grammar_parser_is_ok hk) I I I I I I I I I I I I) I I (on 1 I (rz ?_))
       rcases E_ h with ⟨hc, h⟩ | ⟨hc, h⟩
       ·refine ct I hc (ra I (S_ (rn 1 I ?_)))
        obtain ⟨res, hk, h⟩ := B h
        rcases res with e | y
        ·obtain ⟨e23, i23, deep15, in_15⟩ := e
         refine pp (ecallp (ih_p_grammar_parser_expr _ _ hk) I I I I I I I I I I) I I (U_ (P_ (P_ (P_ (P_ (P_ (exitQ.pan ?_)))))))
         cases h
         exact .err I (.pan I I)
        obtain ⟨x19, i21, deep14, in_14⟩ := y
        refine po (ecallb (nid' := 67) (ih_p_grammar_parser_expr _ _ hk) I I I I I I I I I I I I) I I (on 1 I (rz (rn 1 I ?_)))
        obtain ⟨res, hk, h⟩ := B h
        rcases res with e22 | i22
        ·refine pp (ecallp (p_grammar_parser_take_ok hk) I I I I I I I I I I) I I (P_ (P_ (P_ (P_ (P_ (exitQ.pan ?_))))))
         cases h
         exact .err I (.pan I I)
        refine po (ecallb (nid' := 67) (p_grammar_parser_take_ok hk) I I I I I I I I I I I I) I I (O_ (cn I (cn I (cn I (cn I (cn I (en I ?_)))))))
        cases h
        exact .ok I
       refine cf I hc (rn 5 I ?_)
       obtain ⟨res, hk, h⟩ := B h
       rcases res with e24 | y
       ·refine pp (ecallp (p_grammar_parser_fail_ok hk) I I I I I I I I I I) I I (P_ (P_ (P_ (P_ (P_ (exitQ.pan ?_))))))
        cases h
        exact .err I (.pan I I)
       refine po (ecallb (nid' := 67) (p_grammar_parser_fail_ok hk) I I I I I I I I I I I I) I I (O_ (cn I (cn I (cn I (cn I (cn I (en I ?_)))))))
       cases h
       exact .ok I
      refine dgf I I I I hc I (don 10 I (dz (by kernel_rfl) (cf I I (S_ (rn 4 I ?_)))))
      rcases E_ h with ⟨hc, h⟩ | ⟨hc, h⟩
      ·refine gt I I I I hc I (on 2 I ?_)
       obtain ⟨x20, hk, h⟩ := B h
       refine po (ecall (p_core_Name_ok hk) I I I I I I I I I) I I (on 2 I (rz ?_))
       rcases E_ h with ⟨hc, h⟩ | ⟨hc, h⟩
       ·refine ct I hc (S_ (drn (m := 73) 6 I I (dz (by kernel_rfl) (rn 8 I (O_ (cn I (cn I (cn I (cn I (en I ?_))))))))))
        cases h
        exact .ok I
       refine cf I hc (S_ (rn 5 I ?_))
       obtain ⟨x21, hk, h⟩ := B h
       refine po (ecallb (nid' := 67) (p_grammar_parser_is_ok hk) I I I I I I I I I I I I) I I (on 1 I (rz ?_))
       rcases E_ h with ⟨hc, h⟩ | ⟨hc, h⟩
       ·refine ct I hc (ra I (S_ (rn 1 I ?_)))
        obtain ⟨res, hk, h⟩ := B h
        rcases res with e | y
        ·obtain ⟨e26, i26, deep17, in_17⟩ := e
         refine pp (ecallp (ih_p_grammar_parser_expr _ _ hk) I I I I I I I I I I) I I (U_ (P_ (P_ (P_ (P_ (P_ (exitQ.pan ?_)))))))
         cases h
         exact .err I (.pan I I)
        obtain ⟨x22, i24, deep16, in_16⟩ := y
        refine po (ecallb (nid' := 67) (ih_p_grammar_parser_expr _ _ hk) I I I I I I I I I I I I) I I (on 1 I (rz (rn 1 I ?_)))
        obtain ⟨res, hk, h⟩ := B h
        rcases res with e25 | i25
        ·refine pp (ecallp (p_grammar_parser_take_ok hk) I I I I I I I I I I) I I (P_ (P_ (P_ (P_ (P_ (exitQ.pan ?_))))))
         cases h
         exact .err I (.pan I I)
        refine po (ecallb (nid' := 67) (p_grammar_parser_take_ok hk) I I I I I I I I I I I I) I I (O_ (cn I (cn I (cn I (cn I (cn I (en I ?_)))))))
        cases h
        exact .ok I
       refine cf I hc (rn 5 I ?_)
       obtain ⟨res, hk, h⟩ := B h
       rcases res with e27 | y
       ·refine pp (ecallp (p_grammar_parser_fail_ok hk) I I I I I I I I I I) I I (P_ (P_ (P_ (P_ (P_ (exitQ.pan ?_))))))
        cases h
        exact .err I (.pan I I)
       refine po (ecallb (nid' := 67) (p_grammar_parser_fail_ok hk) I I I I I I I I I I I I) I I (O_ (cn I (cn I (cn I (cn I (cn I (en I ?_)))))))
       cases h
       exact .ok I
      refine gf I I I I hc I (on 5 I (rz (cf I I (S_ (rn 5 I ?_)))))
      obtain ⟨x23, hk, h⟩ := B h
      refine po (ecallb (nid' := 67) (p_grammar_parser_is_ok hk) I I I I I I I I I I I I) I I (on 1 I (rz ?_))
      rcases E_ h with ⟨hc, h⟩ | ⟨hc, h⟩
      ·refine ct I hc (ra I (S_ (rn 1 I ?_)))
       obtain ⟨res, hk, h⟩ := B h
       rcases res with e | y
       ·obtain ⟨e29, i29, deep19, in_19⟩ := e
        refine pp (ecallp (ih_p_grammar_parser_expr _ _ hk) I I I I I I I I I I) I I (U_ (P_ (P_ (P_ (P_ (P_ (exitQ.pan ?_)))))))
        cases h
        exact .err I (.pan I I)
       obtain ⟨x24, i27, deep18, in_18⟩ := y
       refine po (ecallb (nid' := 67) (ih_p_grammar_parser_expr _ _ hk) I I I I I I I I I I I I) I I (on 1 I (rz (rn 1 I ?_)))
       obtain ⟨res, hk, h⟩ := B h
       rcases res with e28 | i28
       ·refine pp (ecallp (p_grammar_parser_take_ok hk) I I I I I I I I I I) I I (P_ (P_ (P_ (P_ (P_ (exitQ.pan ?_))))))
        cases h
        exact .err I (.pan I I)
       refine po (ecallb (nid' := 67) (p_grammar_parser_take_ok hk) I I I I I I I I I I I I) I I (O_ (cn I (cn I (cn I (cn I (cn I (en I ?_)))))))
       cases h
       exact .ok I
      refine cf I hc (rn 5 I ?_)
      obtain ⟨res, hk, h⟩ := B h
      rcases res with e30 | y
      ·refine pp (ecallp (p_grammar_parser_fail_ok hk) I I I I I I I I I I) I I (P_ (P_ (P_ (P_ (P_ (exitQ.pan ?_))))))
       cases h
       exact .err I (.pan I I)
      refine po (ecallb (nid' := 67) (p_grammar_parser_fail_ok hk) I I I I I I I I I I I I) I I (O_ (cn I (cn I (cn I (cn I (cn I (en I ?_)))))))
      cases h
      exact .ok I
     refine dgf I I I I hc I (don 17 I (dz (by kernel_rfl) (cf I I (S_ (rn 4 I ?_)))))
     rcases E_ h with ⟨hc, h⟩ | ⟨hc, h⟩
     ·refine gt I I I I hc I (on 2 I ?_)
      obtain ⟨x25, hk, h⟩ := B h
      refine po (ecall (p_core_Name_ok hk) I I I I I I I I I) I I (on 2 I (rz ?_))
      rcases E_ h with ⟨hc, h⟩ | ⟨hc, h⟩
      ·refine ct I hc (S_ (drn (m := 73) 6 I I (dz (by kernel_rfl) (rn 8 I (O_ (cn I (cn I (cn I (cn I (en I ?_))))))))))
       cases h
       exact .ok I
      refine cf I hc (S_ (rn 5 I ?_))
      obtain ⟨x26, hk, h⟩ := B h
      refine po (ecallb (nid' := 67) (p_grammar_parser_is_ok hk) I I I I I I I I I I I I) I I (on 1 I (rz ?_))
      rcases E_ h with ⟨hc, h⟩ | ⟨hc, h⟩
      ·refine ct I hc (ra I (S_ (rn 1 I ?_)))
       obtain ⟨res, hk, h⟩ := B h
       rcases res with e | y
       ·obtain ⟨e32, i32, deep21, in_21⟩ := e
        refine pp (ecallp (ih_p_grammar_parser_expr _ _ hk) I I I I I I I I I I) I I (U_ (P_ (P_ (P_ (P_ (P_ (exitQ.pan ?_)))))))
        cases h
        exact .err I (.pan I I)
       obtain ⟨x27, i30, deep20, in_20⟩ := y
       refine po (ecallb (nid' := 67) (ih_p_grammar_parser_expr _ _ hk) I I I I I I I I I I I I) I I (on 1 I (rz (rn 1 I ?_)))
       obtain ⟨res, hk, h⟩ := B h
       rcases res with e31 | i31
       ·refine pp (ecallp (p_grammar_parser_take_ok hk) I I I I I I I I I I) I I (P_ (P_ (P_ (P_ (P_ (exitQ.pan ?_))))))
        cases h
        exact .err I (.pan I I)
       refine po (ecallb (nid' := 67) (p_grammar_parser_take_ok hk) I I I I I I I I I I I I) I I (O_ (cn I (cn I (cn I (cn I (cn I (en I ?_)))))))
       cases h
       exact .ok I
      refine cf I hc (rn 5 I ?_)
      obtain ⟨res, hk, h⟩ := B h
      rcases res with e33 | y
      ·refine pp (ecallp (p_grammar_parser_fail_ok hk) I I I I I I I I I I) I I (P_ (P_ (P_ (P_ (P_ (exitQ.pan ?_))))))
       cases h
       exact .err I (.pan I I)
      refine po (ecallb (nid' := 67) (p_grammar_parser_fail_ok hk) I I I I I I I I I I I I) I I (O_ (cn I (cn I (cn I (cn I (cn I (en I ?_)))))))
      cases h
      exact .ok I
     refine gf I I I I hc I (on 5 I (rz (cf I I (S_ (rn 5 I ?_)))))
     obtain ⟨x28, hk, h⟩ := B h
     refine po (ecallb (nid' := 67) (p_grammar_parser_is_ok hk) I I I I I I I I I I I I) I I (on 1 I (rz ?_))
     rcases E_ h with ⟨hc, h⟩ | ⟨hc, h⟩
     ·refine ct I hc (ra I (S_ (rn 1 I ?_)))
      obtain ⟨res, hk, h⟩ := B h
      rcases res with e | y
      ·obtain ⟨e35, i35, deep23, in_23⟩ := e
       refine pp (ecallp (ih_p_grammar_parser_expr _ _ hk) I I I I I I I I I I) I I (U_ (P_ (P_ (P_ (P_ (P_ (exitQ.pan ?_)))))))
       cases h
       exact .err I (.pan I I)
      obtain ⟨x29, i33, deep22, in_22⟩ := y
      refine po (ecallb (nid' := 67) (ih_p_grammar_parser_expr _ _ hk) I I I I I I I I I I I I) I I (on 1 I (rz (rn 1 I ?_)))
      obtain ⟨res, hk, h⟩ := B h
      rcases res with e34 | i34
      ·refine pp (ecallp (p_grammar_parser_take_ok hk) I I I I I I I I I I) I I (P_ (P_ (P_ (P_ (P_ (exitQ.pan ?_))))))
       cases h
       exact .err I (.pan I I)
      refine po (ecallb (nid' := 67) (p_grammar_parser_take_ok hk) I I I I I I I I I I I I) I I (O_ (cn I (cn I (cn I (cn I (cn I (en I ?_)))))))
      cases h
      exact .ok I
     refine cf I hc (rn 5 I ?_)
     obtain ⟨res, hk, h⟩ := B h
     rcases res with e36 | y
     ·refine pp (ecallp (p_grammar_parser_fail_ok hk) I I I I I I I I I I) I I (P_ (P_ (P_ (P_ (P_ (exitQ.pan ?_))))))
      cases h
      exact .err I (.pan I I)
     refine po (ecallb (nid' := 67) (p_grammar_parser_fail_ok hk) I I I I I I I I I I I I) I I (O_ (cn I (cn I (cn I (cn I (cn I (en I ?_)))))))
     cases h
     exact .ok I
    refine dgf I I I I hc I (don 17 I (dz (by kernel_rfl) (cf I I (S_ (drn (m := 67) 4 I I ?_)))))
    rcases E_ h with ⟨hc, h⟩ | ⟨hc, h⟩
    ·refine dgt I I I I hc I (don 7 I ?_)
     rcases E_ h with ⟨hc, h⟩ | ⟨hc, h⟩
     ·refine dgt I I I I hc I (don 10 I (dz (by kernel_rfl) ?_))
      rcases E_ h with ⟨hc, h⟩ | ⟨hc, h⟩
      ·refine ct I hc (ra I (rn 8 I (O_ (cn I (cn I (cn I (en I ?_)))))))
       cases h
       exact .ok I
      refine cf I hc (S_ (rn 4 I ?_))
      rcases E_ h with ⟨hc, h⟩ | ⟨hc, h⟩
      ·refine gt I I I I hc I (on 2 I ?_)
       obtain ⟨x30, hk, h⟩ := B h
       refine po (ecall (p_core_Name_ok hk) I I I I I I I I I) I I (on 2 I (rz ?_))
       rcases E_ h with ⟨hc, h⟩ | ⟨hc, h⟩
       ·refine ct I hc (S_ (drn (m := 73) 6 I I (dz (by kernel_rfl) (rn 8 I (O_ (cn I (cn I (cn I (cn I (en I ?_))))))))))
        cases h
        exact .ok I
       refine cf I hc (S_ (rn 5 I ?_))
       obtain ⟨x31, hk, h⟩ := B h
       refine po (ecallb (nid' := 67) (p_grammar_parser_is_ok hk) I I I I I I I I I I I I) I I (on 1 I (rz ?_))
       rcases E_ h with ⟨hc, h⟩ | ⟨hc, h⟩
       ·refine ct I hc (ra I (S_ (rn 1 I ?_)))
        obtain ⟨res, hk, h⟩ := B h
        rcases res with e | y
        ·obtain ⟨e38, i38, deep25, in_25⟩ := e
         refine pp (ecallp (ih_p_grammar_parser_expr _ _ hk) I I I I I I I I I I) I I (U_ (P_ (P_ (P_ (P_ (P_ (exitQ.pan ?_)))))))
         cases h
         exact .err I (.pan I I)
        obtain ⟨x32, i36, deep24, in_24⟩ := y
        refine po (ecallb (nid' := 67) (ih_p_grammar_parser_expr _ _ hk) I I I I I I I I I I I I) I I (on 1 I (rz (rn 1 I ?_)))
        obtain ⟨res, hk, h⟩ := B h
        rcases res with e37 | i37
        ·refine pp (ecallp (p_grammar_parser_take_ok hk) I I I I I I I I I I) I I (P_ (P_ (P_ (P_ (P_ (exitQ.pan ?_))))))
         cases h
         exact .err I (.pan I I)
        refine po (ecallb (nid' := 67) (p_grammar_parser_take_ok hk) I I I I I I I I I I I I) I I (O_ (cn I (cn I (cn I (cn I (cn I (en I ?_)))))))
        cases h
        exact .ok I
       refine cf I hc (rn 5 I ?_)
       obtain ⟨res, hk, h⟩ := B h
       rcases res with e39 | y
       ·refine pp (ecallp (p_grammar_parser_fail_ok hk) I I I I I I I I I I) I I (P_ (P_ (P_ (P_ (P_ (exitQ.pan ?_))))))
        cases h
        exact .err I (.pan I I)
       refine po (ecallb (nid' := 67) (p_grammar_parser_fail_ok hk) I I I I I I I I I I I I) I I (O_ (cn I (cn I (cn I (cn I (cn I (en I ?_)))))))
       cases h
       exact .ok I
      refine gf I I I I hc I (on 5 I (rz (cf I I (S_ (rn 5 I ?_)))))
      obtain ⟨x33, hk, h⟩ := B h
      refine po (ecallb (nid' := 67) (p_grammar_parser_is_ok hk) I I I I I I I I I I I I) I I (on 1 I (rz ?_))
      rcases E_ h with ⟨hc, h⟩ | ⟨hc, h⟩
      ·refine ct I hc (ra I (S_ (rn 1 I ?_)))
       obtain ⟨res, hk, h⟩ := B h
       rcases res with e | y
       ·obtain ⟨e41, i41, deep27, in_27⟩ := e
        refine pp (ecallp (ih_p_grammar_parser_expr _ _ hk) I I I I I I I I I I) I I (U_ (P_ (P_ (P_ (P_ (P_ (exitQ.pan ?_)))))))
        cases h
        exact .err I (.pan I I)
       obtain ⟨x34, i39, deep26, in_26⟩ := y
       refine po (ecallb (nid' := 67) (ih_p_grammar_parser_expr _ _ hk) I I I I I I I I I I I I) I I (on 1 I (rz (rn 1 I ?_)))
       obtain ⟨res, hk, h⟩ := B h
       rcases res with e40 | i40
       ·refine pp (ecallp (p_grammar_parser_take_ok hk) I I I I I I I I I I) I I (P_ (P_ (P_ (P_ (P_ (exitQ.pan ?_))))))
        cases h
        exact .err I (.pan I I)
       refine po (ecallb (nid' := 67) (p_grammar_parser_take_ok hk) I I I I I I I I I I I I) I I (O_ (cn I (cn I (cn I (cn I (cn I (en I ?_)))))))
       cases h
       exact .ok I
      refine cf I hc (rn 5 I ?_)
      obtain ⟨res, hk, h⟩ := B h
      rcases res with e42 | y
      ·refine pp (ecallp (p_grammar_parser_fail_ok hk) I I I I I I I I I I) I I (P_ (P_ (P_ (P_ (P_ (exitQ.pan ?_))))))
       cases h
       exact .err I (.pan I I)
      refine po (ecallb (nid' := 67) (p_grammar_parser_fail_ok hk) I I I I I I I I I I I I) I I (O_ (cn I (cn I (cn I (cn I (cn I (en I ?_)))))))
      cases h
      exact .ok I
     refine dgf I I I I hc I (don 10 I (dz (by kernel_rfl) (cf I I (S_ (rn 4 I ?_)))))
     rcases E_ h with ⟨hc, h⟩ | ⟨hc, h⟩
     ·refine gt I I I I hc I (on 2 I ?_)
      obtain ⟨x35, hk, h⟩ := B h
      refine po (ecall (p_core_Name_ok hk) I I I I I I I I I) I I (on 2 I (rz ?_))
      rcases E_ h with ⟨hc, h⟩ | ⟨hc, h⟩
      ·refine ct I hc (S_ (drn (m := 73) 6 I I (dz (by kernel_rfl) (rn 8 I (O_ (cn I (cn I (cn I (cn I (en I ?_))))))))))
       cases h
       exact .ok I
      refine cf I hc (S_ (rn 5 I ?_))
      obtain ⟨x36, hk, h⟩ := B h
      refine po (ecallb (nid' := 67) (p_grammar_parser_is_ok hk) I I I I I I I I I I I I) I I (on 1 I (rz ?_))
      rcases E_ h with ⟨hc, h⟩ | ⟨hc, h⟩
      ·refine ct I hc (ra I (S_ (rn 1 I ?_)))
       obtain ⟨res, hk, h⟩ := B h
       rcases res with e | y
       ·obtain ⟨e44, i44, deep29, in_29⟩ := e
        refine pp (ecallp (ih_p_grammar_parser_expr _ _ hk) I I I I I I I I I I) I I (U_ (P_ (P_ (P_ (P_ (P_ (exitQ.pan ?_)))))))
        cases h
        exact .err I (.pan I I)
       obtain ⟨x37, i42, deep28, in_28⟩ := y
       refine po (ecallb (nid' := 67) (ih_p_grammar_parser_expr _ _ hk) I I I I I I I I I I I I) I I (on 1 I (rz (rn 1 I ?_)))
       obtain ⟨res, hk, h⟩ := B h
       rcases res with e43 | i43
       ·refine pp (ecallp (p_grammar_parser_take_ok hk) I I I I I I I I I I) I I (P_ (P_ (P_ (P_ (P_ (exitQ.pan ?_))))))
        cases h
        exact .err I (.pan I I)
       refine po (ecallb (nid' := 67) (p_grammar_parser_take_ok hk) I I I I I I I I I I I I) I I (O_ (cn I (cn I (cn I (cn I (cn I (en I ?_)))))))
       cases h
       exact .ok I
      refine cf I hc (rn 5 I ?_)
      obtain ⟨res, hk, h⟩ := B h
      rcases res with e45 | y
      ·refine pp (ecallp (p_grammar_parser_fail_ok hk) I I I I I I I I I I) I I (P_ (P_ (P_ (P_ (P_ (exitQ.pan ?_))))))
       cases h
       exact .err I (.pan I I)
      refine po (ecallb (nid' := 67) (p_grammar_parser_fail_ok hk) I I I I I I I I I I I I) I I (O_ (cn I (cn I (cn I (cn I (cn I (en I ?_)))))))
      cases h
      exact .ok I
     refine gf I I I I hc I (on 5 I (rz (cf I I (S_ (rn 5 I ?_)))))
     obtain ⟨x38, hk, h⟩ := B h
     refine po (ecallb (nid' := 67) (p_grammar_parser_is_ok hk) I I I I I I I I I I I I) I I (on 1 I (rz ?_))
     rcases E_ h with ⟨hc, h⟩ | ⟨hc, h⟩
     ·refine ct I hc (ra I (S_ (rn 1 I ?_)))
      obtain ⟨res, hk, h⟩ := B h
      rcases res with e | y
      ·obtain ⟨e47, i47, deep31, in_31⟩ := e
       refine pp (ecallp (ih_p_grammar_parser_expr _ _ hk) I I I I I I I I I I) I I (U_ (P_ (P_ (P_ (P_ (P_ (exitQ.pan ?_)))))))
       cases h
       exact .err I (.pan I I)
      obtain ⟨x39, i45, deep30, in_30⟩ := y
      refine po (ecallb (nid' := 67) (ih_p_grammar_parser_expr _ _ hk) I I I I I I I I I I I I) I I (on 1 I (rz (rn 1 I ?_)))
      obtain ⟨res, hk, h⟩ := B h
      rcases res with e46 | i46
      ·refine pp (ecallp (p_grammar_parser_take_ok hk) I I I I I I I I I I) I I (P_ (P_ (P_ (P_ (P_ (exitQ.pan ?_))))))
       cases h
       exact .err I (.pan I I)
      refine po (ecallb (nid' := 67) (p_grammar_parser_take_ok hk) I I I I I I I I I I I I) I I (O_ (cn I (cn I (cn I (cn I (cn I (en I ?_)))))))
      cases h
      exact .ok I
     refine cf I hc (rn 5 I ?_)
     obtain ⟨res, hk, h⟩ := B h
     rcases res with e48 | y
     ·refine pp (ecallp (p_grammar_parser_fail_ok hk) I I I I I I I I I I) I I (P_ (P_ (P_ (P_ (P_ (exitQ.pan ?_))))))
      cases h
      exact .err I (.pan I I)
     refine po (ecallb (nid' := 67) (p_grammar_parser_fail_ok hk) I I I I I I I I I I I I) I I (O_ (cn I (cn I (cn I (cn I (cn I (en I ?_)))))))
     cases h
     exact .ok I
    refine dgf I I I I hc I (don 17 I (dz (by kernel_rfl) (cf I I (S_ (rn 4 I ?_)))))
    rcases E_ h with ⟨hc, h⟩ | ⟨hc, h⟩
    ·refine gt I I I I hc I (on 2 I ?_)
     obtain ⟨x40, hk, h⟩ := B h
     refine po (ecall (p_core_Name_ok hk) I I I I I I I I I) I I (on 2 I (rz ?_))
     rcases E_ h with ⟨hc, h⟩ | ⟨hc, h⟩
     ·refine ct I hc (S_ (drn (m := 73) 6 I I (dz (by kernel_rfl) (rn 8 I (O_ (cn I (cn I (cn I (cn I (en I ?_))))))))))
      cases h
      exact .ok I
     refine cf I hc (S_ (rn 5 I ?_))
     obtain ⟨x41, hk, h⟩ := B h
     refine po (ecallb (nid' := 67) (p_grammar_parser_is_ok hk) I I I I I I I I I I I I) I I (on 1 I (rz ?_))
     rcases E_ h with ⟨hc, h⟩ | ⟨hc, h⟩
     ·refine ct I hc (ra I (S_ (rn 1 I ?_)))
      obtain ⟨res, hk, h⟩ := B h
      rcases res with e | y
      ·obtain ⟨e50, i50, deep33, in_33⟩ := e
       refine pp (ecallp (ih_p_grammar_parser_expr _ _ hk) I I I I I I I I I I) I I (U_ (P_ (P_ (P_ (P_ (P_ (exitQ.pan ?_)))))))
       cases h
       exact .err I (.pan I I)
      obtain ⟨x42, i48, deep32, in_32⟩ := y
      refine po (ecallb (nid' := 67) (ih_p_grammar_parser_expr _ _ hk) I I I I I I I I I I I I) I I (on 1 I (rz (rn 1 I ?_)))
      obtain ⟨res, hk, h⟩ := B h
      rcases res with e49 | i49
      ·refine pp (ecallp (p_grammar_parser_take_ok hk) I I I I I I I I I I) I I (P_ (P_ (P_ (P_ (P_ (exitQ.pan ?_))))))
       cases h
       exact .err I (.pan I I)
      refine po (ecallb (nid' := 67) (p_grammar_parser_take_ok hk) I I I I I I I I I I I I) I I (O_ (cn I (cn I (cn I (cn I (cn I (en I ?_)))))))
      cases h
      exact .ok I
     refine cf I hc (rn 5 I ?_)
     obtain ⟨res, hk, h⟩ := B h
     rcases res with e51 | y
     ·refine pp (ecallp (p_grammar_parser_fail_ok hk) I I I I I I I I I I) I I (P_ (P_ (P_ (P_ (P_ (exitQ.pan ?_))))))
      cases h
      exact .err I (.pan I I)
     refine po (ecallb (nid' := 67) (p_grammar_parser_fail_ok hk) I I I I I I I I I I I I) I I (O_ (cn I (cn I (cn I (cn I (cn I (en I ?_)))))))
     cases h
     exact .ok I
    refine gf I I I I hc I (on 5 I (rz (cf I I (S_ (rn 5 I ?_)))))
    obtain ⟨x43, hk, h⟩ := B h
    refine po (ecallb (nid' := 67) (p_grammar_parser_is_ok hk) I I I I I I I I I I I I) I I (on 1 I (rz ?_))
    rcases E_ h with ⟨hc, h⟩ | ⟨hc, h⟩
    ·refine ct I hc (ra I (S_ (rn 1 I ?_)))
     obtain ⟨res, hk, h⟩ := B h
     rcases res with e | y
     ·obtain ⟨e53, i53, deep35, in_35⟩ := e
      refine pp (ecallp (ih_p_grammar_parser_expr _ _ hk) I I I I I I I I I I) I I (U_ (P_ (P_ (P_ (P_ (P_ (exitQ.pan ?_)))))))
      cases h
      exact .err I (.pan I I)
     obtain ⟨x44, i51, deep34, in_34⟩ := y
     refine po (ecallb (nid' := 67) (ih_p_grammar_parser_expr _ _ hk) I I I I I I I I I I I I) I I (on 1 I (rz (rn 1 I ?_)))
     obtain ⟨res, hk, h⟩ := B h
     rcases res with e52 | i52
     ·refine pp (ecallp (p_grammar_parser_take_ok hk) I I I I I I I I I I) I I (P_ (P_ (P_ (P_ (P_ (exitQ.pan ?_))))))
      cases h
      exact .err I (.pan I I)
     refine po (ecallb (nid' := 67) (p_grammar_parser_take_ok hk) I I I I I I I I I I I I) I I (O_ (cn I (cn I (cn I (cn I (cn I (en I ?_)))))))
     cases h
     exact .ok I
    refine cf I hc (rn 5 I ?_)
    obtain ⟨res, hk, h⟩ := B h
    rcases res with e54 | y
    ·refine pp (ecallp (p_grammar_parser_fail_ok hk) I I I I I I I I I I) I I (P_ (P_ (P_ (P_ (P_ (exitQ.pan ?_))))))
     cases h
     exact .err I (.pan I I)
    refine po (ecallb (nid' := 67) (p_grammar_parser_fail_ok hk) I I I I I I I I I I I I) I I (O_ (cn I (cn I (cn I (cn I (cn I (en I ?_)))))))
    cases h
    exact .ok I
   ·subst hy
    obtain ⟨n0, n1, n2, n3, n4, n5, n6, p15, p17, p18⟩ := y
    refine N_ (S_ ?_)
    obtain ⟨res, hs, h⟩ := B h
    refine awp_sub Tryz.f59 1 (fun (r : Except (Fault × Int × Int × Int) (Node × Int × Int × Int)) => (match (generalizing := false) r with | .ok r => (CRes.ret (.d (encNode r.1)) [(pC p.g p.l r.2.1 p.end_ r.2.2.1 r.2.2.2)]) | .error r => (CRes.pan (.iface 34 (encFault r.1)) [(pC p.g p.l r.2.1 p.end_ r.2.2.1 r.2.2.2)]))) (fun ((n02, n12, n22, n32, n42, n52, n62, c15, c17, c18) : Int × Int × Str × (List Int) × (List Cell) × (List Node) × Int × Int × Int × Int) => (⟨[(2, .c (.ptr 1 0)), (4, .c (.ptr 24 0))], [(24, [.d (iZ n02), .d (iZ n12), .d (.str n22), .d (lI n32), .d (lC n42), .d (lN n52), .d (iZ n62)]), (22, [.d (iZ y.kind), .d (.str y.text), .d (lI y.lit.shape), .d (lC y.lit.cells), .d (iZ y.at_)]), (1, [.d (iZ 0), .d (iZ 0), .d (.str []), oI [], oC [], oN [], .d (iZ 0)]), (0, (pC p.g p.l c15 p.end_ c17 c18))], 25, [], none⟩ : St)) (res := res) ?_ (fun y hy => ?_) (fun r x s' hr hx he => ?_)
    ·replace h := hs
     refine W_ (awp_loop ?_)
     exact awpL_at I I (ih_p_grammar_parser_operand_l0 _ _ h)
    ·subst hy
     obtain ⟨n02, n12, n22, n32, n42, n52, n62, c15, c17, c18⟩ := y
     refine N_ (ra I (R_ ?_))
     cases h
     exact .ret I I
    subst hr
    refine seqQ.out hx ?_
    cases h
    exact he
   subst hr
   refine seqQ.out hx ?_
   cases h
   exact he
  subst hr
  refine seqQ.out hx ?_
  cases h
  exact he
 ·rintro p_grammar_parser_expr' p_grammar_parser_operand_l0' ih_p_grammar_parser_expr ih_p_grammar_parser_operand_l0 ⟨p, y, n01, n11, n21, n31, n41, n51, n61, p151, p171, p181⟩ res h
  refine lg I (S_ (S_ (rn 6 I ?_)))
  rcases E_ h with ⟨hc, h⟩ | ⟨hc, h⟩
  ·refine gt I I I I hc I (on 5 I ?_)
   obtain ⟨x45, hk, h⟩ := B h
   refine po (ecallb (nid' := 25) (p_grammar_parser_is_ok hk) I I I I I I I I I I I I) I I (on 1 I (rz ?_))
   rcases E_ h with ⟨hc, h⟩ | ⟨hc, h⟩
   ·refine ct I hc (K_ (cn I (N_ (W_ (ra I (S_ (rn 1 I ?_)))))))
    obtain ⟨res, hk, h⟩ := B h
    rcases res with e | y
    ·obtain ⟨e56, i56, deep37, in_37⟩ := e
     refine pp (ecallp (ih_p_grammar_parser_expr _ _ hk) I I I I I I I I I I) I I (U_ (exitQ.pan (loopQ.pan (exitQ.pan ?_))))
     cases h
     exact .err I (.pan I I)
    obtain ⟨x46, i54, deep36, in_36⟩ := y
    refine po (ecallb (nid' := 25) (ih_p_grammar_parser_expr _ _ hk) I I I I I I I I I I I I) I I (on (nid' := 26) 2 I (rz (S_ (rn 1 I ?_))))
    obtain ⟨res, hk, h⟩ := B h
    rcases res with e55 | i55
    ·refine pp (ecallp (p_grammar_parser_take_ok hk) I I I I I I I I I I) I I (U_ (exitQ.pan (loopQ.pan (exitQ.pan ?_))))
     cases h
     exact .err I (.pan I I)
    refine po (ecallb (nid' := 26) (p_grammar_parser_take_ok hk) I I I I I I I I I I I I) I I (rz (rn 4 I (po (erw' (show V.c (.own 7 [encNode (Node.mk n01 n11 n21 (Arr.mk n31 n41) n51 n61), encNode x46]) = V.c (.own 7 (List.map encNodeR [(Node.mk n01 n11 n21 (Arr.mk n31 n41) n51 n61), x46])) from by simp only [List.map_cons, List.map_nil, encNodeR_eq]) (eplain I)) I I (on 2 I (O_ (en I (loopQ.normal ?_)))))))
    exact awpL_at I I (ih_p_grammar_parser_operand_l0 _ _ h)
   refine cf I hc (X_ (condQ.exit (seqQ.exit (loopQ.exit (eh I ?_)))))
   cases h
   exact .ok I
  refine gf I I I I hc I (on 7 I (rz (cf I I (X_ (condQ.exit (seqQ.exit (loopQ.exit (eh I ?_))))))))
  cases h
  exact .ok I
 ·rintro p_grammar_parser_base' ih_p_grammar_parser_base ⟨behind, p⟩ res h
  refine aval_start (tm := [(0, .c (.ptr 0 0)), (1, .d (.bool behind))]) (hp := [(0, (pC p.g p.l p.i p.end_ p.deep p.in_))]) (n := 1) I Tryz.func58 I I I I I I (ra (nid' := 3) I (S_ (rn 1 I ?_)))
  obtain ⟨res, hk, h⟩ := B h
  rcases res with e | deep
  ·obtain ⟨e1, deep5⟩ := e
   refine pp (ecallp (p_grammar_parser_down_ok hk) I I I I I I I I I I) I I (U_ ?_)
   cases h
   exact .pan I I
  refine po (ecallb (nid' := 3) (p_grammar_parser_down_ok hk) I I I I I I I I I I I I) I I (rz (S_ (rn 1 I (pdef (fun _ => I) I I (rz (S_ (rn 1 I ?_)))))))
  obtain ⟨at_, hk, h⟩ := B h
  refine po (ecallb (nid' := 3) (p_grammar_parser_here_ok hk) I I I I I I I I I I I I) I I (on 1 I (rz (S_ (drn (m := 15) 10 I I ?_))))
  obtain ⟨outer, hk, h⟩ := B h
  refine pd (ecallb (nid' := 15) (p_grammar_parser_is_ok hk) I I I I I I I I I I I I) I I I I I (don 1 I (dz (by kernel_rfl) (S_ (ra I ?_))))
  obtain ⟨⟨behind1, c15⟩, hs, h⟩ := B h
  refine awp_nrm (fun ((behind1, c15) : Bool × Int) => (⟨[(1, .d (.bool behind1)), (2, .c (.ptr 1 0)), (4, .c (.ptr 2 0)), (5, .d (iZ at_)), (6, .d (.bool outer))], [(2, [.d (iZ 0), .d (iZ 0), .d (.str []), oI [], oC [], oN [], .d (iZ 0)]), (1, [.ptr 0 0]), (0, (pC p.g p.l c15 p.end_ deep p.in_))], 15, [(95, [1])], none⟩ : St)) (y := (behind1, c15)) ?_ ?_
  ·replace h := hs
   rcases E_ h with ⟨hc, h⟩ | ⟨hc, h⟩
   ·refine ct I hc (ra I (rn 1 I (O_ (cn I ?_))))
    cases h
    exact .ok I
   refine cf I hc (K_ (cn I ?_))
   cases h
   exact .ok I
  refine N_ (S_ (rn 2 I ?_))
  obtain ⟨res, hk, h⟩ := B h
  rcases res with e | y
  ·obtain ⟨e, i1, deep3, in_1⟩ := e
   refine pp (ecallp (ih_p_grammar_parser_base _ _ hk) I I I I I I I I I I) I I (U_ ?_)
   obtain ⟨deep4, hk, h⟩ := B h
   cases h
   exact .dpan I (rdc (nid' := 15) (p_grammar_parser_function_1_ok hk) (recsF_of Tryz.func95 I I) I I I I I I I I .nil) I
  obtain ⟨x, i, deep1, in_⟩ := y
  refine po (ecallb (nid' := 15) (ih_p_grammar_parser_base _ _ hk) I I I I I I I I I I I I) I I (on (nid' := 16) 2 I (rz (S_ (ra I ?_))))
  obtain ⟨⟨f0, f1, f2, f3, f4, f5, f6⟩, hs, h⟩ := B h
  refine awp_nrm (fun ((f0, f1, f2, f3, f4, f5, f6) : Int × Int × Str × (List Int) × (List Cell) × (List Node) × Int) => (⟨[(2, .c (.ptr 1 0)), (4, .c (.ptr 2 0)), (5, .d (iZ at_)), (7, .c (.ptr 15 0))], [(15, [.d (iZ f0), .d (iZ f1), .d (.str f2), .d (lI f3), .d (lC f4), .d (lN f5), .d (iZ f6)]), (2, [.d (iZ 0), .d (iZ 0), .d (.str []), oI [], oC [], oN [], .d (iZ 0)]), (1, [.ptr 0 0]), (0, (pC p.g p.l i p.end_ deep1 in_))], 16, [(95, [1])], none⟩ : St)) (y := (f0, f1, f2, f3, f4, f5, f6)) ?_ ?_
  ·replace h := hs
   rcases E_ h with ⟨hc, h⟩ | ⟨hc, h⟩
   ·refine ct I hc (rn 2 I (po (erw' (show V.c (.own 7 [encNode x]) = V.c (.own 7 (List.map encNodeR [x])) from by simp only [List.map_cons, List.map_nil, encNodeR_eq]) (eplain I)) I I (on 2 I (O_ (cn I ?_)))))
    cases h
    exact .ok I
   refine cf I hc (K_ (cn I ?_))
   cases h
   exact .ok I
  refine N_ ?_
  obtain ⟨res, hs, h⟩ := B h
  refine awp_sub Tryz.f58 1 (fun (r : Except (Fault × Int × Int × Int) (Node × Int × Int × Int)) => (match (generalizing := false) r with | .ok r => (CRes.ret (.d (encNode r.1)) [(pC p.g p.l r.2.1 p.end_ r.2.2.1 r.2.2.2)]) | .error r => (CRes.pan (.iface 34 (encFault r.1)) [(pC p.g p.l r.2.1 p.end_ r.2.2.1 r.2.2.2)]))) (fun (_ : Unit) => (⟨[], [], 0, [], none⟩ : St)) (res := res) ?_ (fun y hy => ?_) (fun r x s' hr hx he => ?_)
  ·replace h := hs
   refine W_ (awp_loop ?_)
   exact awpL_at I I (p_grammar_parser_function_l0_ih _ _ h)
  ·subst hy; cases h
  subst hr
  cases h
  exact he
 ·rintro p_grammar_parser_base_l0' p_grammar_parser_lambda' ih_p_grammar_parser_base_l0 ih_p_grammar_parser_lambda ⟨behind, p⟩ res h
  refine aval_start (tm := [(0, .c (.ptr 0 0)), (1, .d (.bool behind))]) (hp := [(0, (pC p.g p.l p.i p.end_ p.deep p.in_))]) (n := 1) I Tryz.func96 I I I I I I (ra (nid' := 2) I (S_ (rn 1 I ?_)))
  obtain ⟨at_, hk, h⟩ := B h
  refine po (ecallb (nid' := 2) (p_grammar_parser_here_ok hk) I I I I I I I I I I I I) I I (on 1 I (rz (S_ (W_ (S_ (drn (m := 14) 10 I I ?_))))))
  obtain ⟨x, hk, h⟩ := B h
  refine pd (ecallb (nid' := 14) (p_grammar_parser_is_ok hk) I I I I I I I I I I I I) I I I I I (don 1 I (dz (by kernel_rfl) ?_))
  rcases E_ h with ⟨hc, h⟩ | ⟨hc, h⟩
  ·refine ct I hc (S_ (rn 1 I ?_))
   obtain ⟨res, hk, h⟩ := B h
   rcases res with e | y
   ·obtain ⟨e, i1, deep1, in_1⟩ := e
    refine pp (ecallp (ih_p_grammar_parser_lambda _ _ hk) I I I I I I I I I I) I I (U_ (P_ (exitQ.pan (U_ ?_))))
    cases h
    exact .pan I I
   obtain ⟨x1, i, deep, in_⟩ := y
   refine po (ecallb (nid' := 14) (ih_p_grammar_parser_lambda _ _ hk) I I I I I I I I I I I I) I I (on 1 I (rz (R_ (C_ (exitQ.ret (Q_ ?_))))))
   cases h
   exact .ret I I
  refine cf I hc (S_ (rn 5 I ?_))
  obtain ⟨x2, hk, h⟩ := B h
  refine po (ecallb (nid' := 14) (p_grammar_parser_is_ok hk) I I I I I I I I I I I I) I I (on 1 I (rz ?_))
  rcases E_ h with ⟨hc, h⟩ | ⟨hc, h⟩
  ·refine ct I hc (ra I (ra I (S_ ?_)))
   obtain ⟨res, hs, h⟩ := B h
   refine awp_sub Tryz.f96 1 (fun (r : Except (Fault × Int × Int × Int) (Node × Int × Int × Int)) => (match (generalizing := false) r with | .ok r => (CRes.ret (.d (encNode r.1)) [(pC p.g p.l r.2.1 p.end_ r.2.2.1 r.2.2.2)]) | .error r => (CRes.pan (.iface 34 (encFault r.1)) [(pC p.g p.l r.2.1 p.end_ r.2.2.1 r.2.2.2)]))) (fun ((l2, p151, p171, p181) : (List Node) × Int × Int × Int) => (⟨[(0, .c (.ptr 0 0)), (4, .c (.ptr 1 0)), (5, .d (iZ at_)), (6, .c (.own 7 (List.map encNodeR l2)))], [(1, [.d (iZ 0), .d (iZ 0), .d (.str []), oI [], oC [], oN [], .d (iZ 0)]), (0, (pC p.g p.l p151 p.end_ p171 p181))], 14, [], none⟩ : St)) (res := res) ?_ (fun y hy => ?_) (fun r x s' hr hx he => ?_)
   ·replace h := hs
    refine W_ (awp_loop ?_)
    exact awpL_at I I (ih_p_grammar_parser_base_l0 _ _ h at_)
   ·subst hy
    obtain ⟨l2, p151, p171, p181⟩ := y
    refine N_ (ra I (S_ (S_ (rn 1 I (po (ellen I I I I I I I) I I (rz (W_ (ra I ?_))))))))
    rcases E_ h with ⟨hc, h⟩ | ⟨hc, h⟩
    ·refine ct I hc (S_ (rn 1 I ?_))
     obtain ⟨y, hk, h⟩ := B h
     refine po (elget encNode encNodeR_eq hk I I I I I) I I (on 2 I (rz (R_ (C_ (exitQ.ret (Q_ (C_ (C_ (exitQ.ret (Q_ ?_))))))))))
     cases h
     exact .ret I I
    refine cf I hc (ra I ?_)
    rcases E_ h with ⟨hc, h⟩ | ⟨hc, h⟩
    ·refine ct I hc (ra I (R_ (C_ (C_ (exitQ.ret (Q_ (C_ (C_ (exitQ.ret (Q_ ?_))))))))))
     cases h
     exact .ret I I
    refine cf I hc (K_ (cn I (cn I (en I (N_ (ra I (R_ (C_ (C_ (exitQ.ret (Q_ ?_)))))))))))
    cases h
    exact .ret I I
   subst hr
   refine seqQ.out hx (condQ.out hx (condQ.out hx (exitQ.out hx (seqQ.out hx ?_))))
   cases h
   exact he
  refine cf I hc (K_ (cn I (cn I (en I (N_ (S_ (drn (m := 29) 8 I I ?_)))))))
  obtain ⟨y1, hk, h⟩ := B h
  refine pd (elget encToken (fun _ => I) hk I I I I I) I I I I I (don 6 I (dz (by kernel_rfl) (ra I (ra I (R_ ?_)))))
  cases h
  exact .ret I I
 ·rintro p_grammar_parser_function' p_grammar_parser_base_l0' ih_p_grammar_parser_function ih_p_grammar_parser_base_l0 ⟨behind, p, l, p15, p17, p18⟩ res h at_
  refine lg I (S_ (S_ (rn 5 I ?_)))
  obtain ⟨x3, hk, h⟩ := B h
  refine po (ecallb (nid' := 14) (p_grammar_parser_is_ok hk) I I I I I I I I I I I I) I I (on 1 I (rz ?_))
  rcases E_ h with ⟨hc, h⟩ | ⟨hc, h⟩
  ·refine ct I hc (K_ (cn I (N_ (W_ (rn 3 I ?_)))))
   obtain ⟨res, hk, h⟩ := B h
   rcases res with e | y
   ·obtain ⟨e1, i3, deep3, in_3⟩ := e
    refine pp (ecallp (ih_p_grammar_parser_function _ _ hk) I I I I I I I I I I) I I (exitQ.pan (loopQ.pan (exitQ.pan ?_)))
    cases h
    exact .err I (.pan I I)
   obtain ⟨x4, i2, deep2, in_2⟩ := y
   refine po (ecallb (nid' := 14) (ih_p_grammar_parser_function _ _ hk) I I I I I I I I I I I I) I I (po (erw' (show V.c (.own 7 [encNode x4]) = V.c (.own 7 (List.map encNodeR [x4])) from by simp only [List.map_cons, List.map_nil, encNodeR_eq]) (eplain I)) I I ?_)
   obtain ⟨l1, hk, h⟩ := B h
   refine po (eappv hk I I I I I I I I I I I I I ) I I (on 1 I (O_ (en I (loopQ.normal ?_))))
   exact awpL_at I I (ih_p_grammar_parser_base_l0 _ _ h at_)
  refine cf I hc (X_ (condQ.exit (seqQ.exit (loopQ.exit (eh I ?_)))))
  cases h
  exact .ok I
 rintro p_grammar_parser_expr' ih_p_grammar_parser_expr p res h
 refine aval_start (tm := [(0, .c (.ptr 0 0))]) (hp := [(0, (pC p.g p.l p.i p.end_ p.deep p.in_))]) (n := 1) I Tryz.func117 I I I I I I (ra (nid' := 2) I (ra I (S_ (rn 1 I ?_))))
 obtain ⟨at_, hk, h⟩ := B h
 refine po (ecallb (nid' := 2) (p_grammar_parser_here_ok hk) I I I I I I I I I I I I) I I (on 1 I (rz (ra I (ra I (S_ (rn 1 I ?_))))))
 obtain ⟨res, hk, h⟩ := B h
 rcases res with e | y
 ·obtain ⟨e7, i2, deep1, in_1⟩ := e
  refine pp (ecallp (ih_p_grammar_parser_expr _ _ hk) I I I I I I I I I I) I I (U_ ?_)
  cases h
  exact .pan I I
 obtain ⟨x, i, deep, in_⟩ := y
 refine po (ecallb (nid' := 2) (ih_p_grammar_parser_expr _ _ hk) I I I I I I I I I I I I) I I (on (nid' := 3) 2 I (rz (ra I (S_ (rn 6 I ?_)))))
 obtain ⟨res, hk, h⟩ := B h
 rcases res with e6 | i1
 ·refine pp (ecallp (p_grammar_parser_take_ok hk) I I I I I I I I I I) I I (U_ ?_)
  cases h
  exact .pan I I
 refine po (ecallb (nid' := 3) (p_grammar_parser_take_ok hk) I I I I I I I I I I I I) I I (rz (S_ (drn (m := 9) 1 I I ?_)))
 obtain ⟨left, hk, h⟩ := B h
 refine pd (ecall (p_grammar_uses_ok hk) I I I I I I I I I) I I I I I (don 1 I ?_)
 obtain ⟨right, hk, h⟩ := B h
 refine pd (ecall (p_grammar_uses_ok hk) I I I I I I I I I) I I I I I (don 2 I (dz (by kernel_rfl) (S_ ?_)))
 obtain ⟨res, hs, h⟩ := B h
 refine awp_sub Tryz.f117 1 (fun (r : Except (Fault × Int × Int × Int) (Node × Int × Int × Int)) => (match (generalizing := false) r with | .ok r => (CRes.ret (.d (encNode r.1)) [(pC p.g p.l r.2.1 p.end_ r.2.2.1 r.2.2.2)]) | .error r => (CRes.pan (.iface 34 (encFault r.1)) [(pC p.g p.l r.2.1 p.end_ r.2.2.1 r.2.2.2)]))) (fun (_ : Unit) => (⟨[(2, .c (.ptr 1 0)), (4, .d (iZ at_)), (5, .c (.ptr 2 0))], [(2, [.d (iZ x.kind), .d (iZ x.op_), .d (.str x.name), .d (lI x.lit.shape), .d (lC x.lit.cells), .d (lN x.kids), .d (iZ x.at_)]), (1, [.d (iZ 0), .d (iZ 0), .d (.str []), oI [], oC [], oN [], .d (iZ 0)]), (0, (pC p.g p.l i1 p.end_ deep (w64 (in_ - 1))))], 9, [], none⟩ : St)) (res := res) ?_ (fun y hy => ?_) (fun r x s' hr hx he => ?_)
 ·replace h := hs
  refine W_ (S_ (rn 2 I ?_))
  rcases E_ h with ⟨hc, h⟩ | ⟨hc, h⟩
  ·refine gt I I I I hc I (on 3 I (rz ?_))
   rcases E_ h with ⟨hc, h⟩ | ⟨hc, h⟩
   ·refine ct I hc (S_ (rn 2 I (po (erw' (show V.c (.own 7 [encNode x]) = V.c (.own 7 (List.map encNodeR [x])) from by simp only [List.map_cons, List.map_nil, encNodeR_eq]) (eplain I)) I I (on 2 I (rz (R_ (C_ (exitQ.ret ?_))))))))
    cases h
    exact .err I (.ret I I)
   refine cf I hc (S_ (rn 6 I ?_))
   rcases E_ h with ⟨hc, h⟩ | ⟨hc, h⟩
   ·refine gt I I I I hc I (on 3 I ?_)
    rcases E_ h with ⟨hc, h⟩ | ⟨hc, h⟩
    ·refine gt I I I I hc I (on 11 I (rz (ct I I (rn 2 I ?_))))
     obtain ⟨res, hk, h⟩ := B h
     rcases res with e | y
     ·refine pp (ecallp (p_grammar_parser_fail_ok hk) I I I I I I I I I I) I I (P_ (P_ (exitQ.pan ?_)))
      cases h
      exact .err I (.pan I I)
     refine po (ecallb (nid' := 9) (p_grammar_parser_fail_ok hk) I I I I I I I I I I I I) I I (O_ (cn I (cn I (en I ?_))))
     cases h
     exact .ok I
    refine gf I I I I hc I (on 7 I ?_)
    rcases E_ h with ⟨hc, h⟩ | ⟨hc, h⟩
    ·refine gt I I I I hc I (on 4 I (rz ?_))
     rcases E_ h with ⟨hc, h⟩ | ⟨hc, h⟩
     ·refine ct I hc (rn 2 I ?_)
      obtain ⟨res, hk, h⟩ := B h
      rcases res with e1 | y
      ·refine pp (ecallp (p_grammar_parser_fail_ok hk) I I I I I I I I I I) I I (P_ (P_ (exitQ.pan ?_)))
       cases h
       exact .err I (.pan I I)
      refine po (ecallb (nid' := 9) (p_grammar_parser_fail_ok hk) I I I I I I I I I I I I) I I (O_ (cn I (cn I (en I ?_))))
      cases h
      exact .ok I
     refine cf I hc (K_ (cn I (cn I (en I ?_))))
     cases h
     exact .ok I
    refine gf I I I I hc I (on 4 I (rz (cf I I (K_ (cn I (cn I (en I ?_)))))))
    cases h
    exact .ok I
   refine gf I I I I hc I (on 10 I ?_)
   rcases E_ h with ⟨hc, h⟩ | ⟨hc, h⟩
   ·refine gt I I I I hc I (on 4 I (rz ?_))
    rcases E_ h with ⟨hc, h⟩ | ⟨hc, h⟩
    ·refine ct I hc (rn 2 I ?_)
     obtain ⟨res, hk, h⟩ := B h
     rcases res with e2 | y
     ·refine pp (ecallp (p_grammar_parser_fail_ok hk) I I I I I I I I I I) I I (P_ (P_ (exitQ.pan ?_)))
      cases h
      exact .err I (.pan I I)
     refine po (ecallb (nid' := 9) (p_grammar_parser_fail_ok hk) I I I I I I I I I I I I) I I (O_ (cn I (cn I (en I ?_))))
     cases h
     exact .ok I
    refine cf I hc (K_ (cn I (cn I (en I ?_))))
    cases h
    exact .ok I
   refine gf I I I I hc I (on 4 I (rz (cf I I (K_ (cn I (cn I (en I ?_)))))))
   cases h
   exact .ok I
  refine gf I I I I hc I (on 3 I (rz (cf I I (S_ (rn 6 I ?_)))))
  rcases E_ h with ⟨hc, h⟩ | ⟨hc, h⟩
  ·refine gt I I I I hc I (on 3 I ?_)
   rcases E_ h with ⟨hc, h⟩ | ⟨hc, h⟩
   ·refine gt I I I I hc I (on 11 I (rz (ct I I (rn 2 I ?_))))
    obtain ⟨res, hk, h⟩ := B h
    rcases res with e3 | y
    ·refine pp (ecallp (p_grammar_parser_fail_ok hk) I I I I I I I I I I) I I (P_ (P_ (exitQ.pan ?_)))
     cases h
     exact .err I (.pan I I)
    refine po (ecallb (nid' := 9) (p_grammar_parser_fail_ok hk) I I I I I I I I I I I I) I I (O_ (cn I (cn I (en I ?_))))
    cases h
    exact .ok I
   refine gf I I I I hc I (on 7 I ?_)
   rcases E_ h with ⟨hc, h⟩ | ⟨hc, h⟩
   ·refine gt I I I I hc I (on 4 I (rz ?_))
    rcases E_ h with ⟨hc, h⟩ | ⟨hc, h⟩
    ·refine ct I hc (rn 2 I ?_)
     obtain ⟨res, hk, h⟩ := B h
     rcases res with e4 | y
     ·refine pp (ecallp (p_grammar_parser_fail_ok hk) I I I I I I I I I I) I I (P_ (P_ (exitQ.pan ?_)))
      cases h
      exact .err I (.pan I I)
     refine po (ecallb (nid' := 9) (p_grammar_parser_fail_ok hk) I I I I I I I I I I I I) I I (O_ (cn I (cn I (en I ?_))))
     cases h
     exact .ok I
    refine cf I hc (K_ (cn I (cn I (en I ?_))))
    cases h
    exact .ok I
   refine gf I I I I hc I (on 4 I (rz (cf I I (K_ (cn I (cn I (en I ?_)))))))
   cases h
   exact .ok I
  refine gf I I I I hc I (on 10 I ?_)
  rcases E_ h with ⟨hc, h⟩ | ⟨hc, h⟩
  ·refine gt I I I I hc I (on 4 I (rz ?_))
   rcases E_ h with ⟨hc, h⟩ | ⟨hc, h⟩
   ·refine ct I hc (rn 2 I ?_)
    obtain ⟨res, hk, h⟩ := B h
    rcases res with e5 | y
    ·refine pp (ecallp (p_grammar_parser_fail_ok hk) I I I I I I I I I I) I I (P_ (P_ (exitQ.pan ?_)))
     cases h
     exact .err I (.pan I I)
    refine po (ecallb (nid' := 9) (p_grammar_parser_fail_ok hk) I I I I I I I I I I I I) I I (O_ (cn I (cn I (en I ?_))))
    cases h
    exact .ok I
   refine cf I hc (K_ (cn I (cn I (en I ?_))))
   cases h
   exact .ok I
  refine gf I I I I hc I (on 4 I (rz (cf I I (K_ (cn I (cn I (en I ?_)))))))
  cases h
  exact .ok I
 ·subst hy
  refine N_ (S_ (rn 2 I ?_))
  obtain ⟨x1, hk, h⟩ := B h
  refine po (ecall (p_grammar_righted_ok hk) I I I I I I I I I) I I (po (erw' (show V.c (.own 7 [encNode x1]) = V.c (.own 7 (List.map encNodeR [x1])) from by simp only [List.map_cons, List.map_nil, encNodeR_eq]) (eplain I)) I I (on 2 I (rz (R_ ?_))))
  cases h
  exact .ret I I
 subst hr
 refine seqQ.out hx ?_
 cases h
 exact he
theorem p_grammar_parser_expr_ih : ∀ a res, p_grammar_parser_expr a = some res → Mp_grammar_parser_expr a res := p_grammar_parser_expr_grp.1
theorem p_grammar_parser_expr_ok {a : Grammar_parser} {res : Except (Fault × Int × Int × Int) (Node × Int × Int × Int)} (h : p_grammar_parser_expr a = some res) : Mp_grammar_parser_expr a res := p_grammar_parser_expr_ih a res h
theorem p_grammar_Parse_ok {g : Grammar} {l : (List Token)} {end_ : Int} {r : Node × Fault} (h : p_grammar_Parse g l end_ = some r) : aval X 21 [.d (encGrammar g), .d (lT l), .d (iZ end_)] [] (CRes.ret (.tuple [.d (encNode r.1), .d (encFault r.2)]) []) := by
 unfold p_grammar_Parse at h
 refine aval_start (tm := [(0, .d (encGrammar g)), (1, .d (lT l)), (2, .d (iZ end_))]) (hp := []) (n := 0) I Tryz.func21 I I I I I I (ra (nid' := 3) I (S_ (rn 1 I (pdef (fun _ => I) I I (rz (ra (nid' := 4) I (S_ (rn 1 I ?_))))))))
 obtain ⟨res, hk, h⟩ := B h
 rcases res with e | y
 ·obtain ⟨e1, i1, deep1, in_1⟩ := e
  refine pp (ecallp (p_grammar_parser_expr_ok hk) I I I I I I I I I I) I I (U_ ?_)
  obtain ⟨⟨kind1, op_1, name1, shape1, cells1, kids1, at_2, err1, at_3, why1⟩, hk, h⟩ := B h
  cases h
  exact .drec I (rdc (nid' := 4) (p_grammar_Parse_1_p_2_ok hk) (recsF_of Tryz.func32 I I) I I I I I I I I .nil) I
 obtain ⟨x, i, deep, in_⟩ := y
 refine po (ecallb (nid' := 4) (p_grammar_parser_expr_ok hk) I I I I I I I I I I I I) I I (on 1 I (rz (S_ (S_ (rn 5 I (po (ellen I I I I I I I) I I (on 1 I (rz ?_))))))))
 obtain ⟨res, hs, h⟩ := B h
 refine awp_sub Tryz.f21 0 (fun (r : Node × Fault) => (CRes.ret (.tuple [.d (encNode r.1), .d (encFault r.2)]) [])) (fun (_ : Unit) => (⟨[(6, .c (.ptr 1 0)), (7, .c (.ptr 2 0))], [(3, [.d (.list 1 (List.map D.str (Grammar_parser.mk g l 0 end_ 0 0).g.verbs)), .d (.list 1 (List.map D.str (Grammar_parser.mk g l 0 end_ 0 0).g.adverbs)), .d (.list 1 (List.map D.str (Grammar_parser.mk g l 0 end_ 0 0).g.behind)), .d (.str (Grammar_parser.mk g l 0 end_ 0 0).g.outer), .d (.str (Grammar_parser.mk g l 0 end_ 0 0).g.power), .d (.str (Grammar_parser.mk g l 0 end_ 0 0).g.open_), .d (.str (Grammar_parser.mk g l 0 end_ 0 0).g.close), .d (.str (Grammar_parser.mk g l 0 end_ 0 0).g.left), .d (.str (Grammar_parser.mk g l 0 end_ 0 0).g.right), .d (.str (Grammar_parser.mk g l 0 end_ 0 0).g.minus), .d (.str (Grammar_parser.mk g l 0 end_ 0 0).g.quote), .d (.bool (Grammar_parser.mk g l 0 end_ 0 0).g.trains), .d (.bool (Grammar_parser.mk g l 0 end_ 0 0).g.lone), .d (.bool (Grammar_parser.mk g l 0 end_ 0 0).g.square), .d (.list 5 (List.map encToken (Grammar_parser.mk g l 0 end_ 0 0).l)), .d (iZ i), .d (iZ (Grammar_parser.mk g l 0 end_ 0 0).end_), .d (iZ deep), .d (iZ in_)]), (2, [.d (iZ 0), .d (iZ 0), .d (iZ 0)]), (1, [.d (iZ x.kind), .d (iZ x.op_), .d (.str x.name), .d (lI x.lit.shape), .d (lC x.lit.cells), .d (lN x.kids), .d (iZ x.at_)]), (0, [.d (lS g.verbs), .d (lS g.adverbs), .d (lS g.behind), .d (.str g.outer), .d (.str g.power), .d (.str g.open_), .d (.str g.close), .d (.str g.left), .d (.str g.right), .d (.str g.minus), .d (.str g.quote), .d (.bool g.trains), .d (.bool g.lone), .d (.bool g.square)])], 4, [(32, [1, 2])], none⟩ : St)) (res := res) ?_ (fun y hy => ?_) (fun r x s' hr hx he => ?_)
 ·replace h := hs
  rcases E_ h with ⟨hc, h⟩ | ⟨hc, h⟩
  ·refine ct I hc (rn 5 I ?_)
   obtain ⟨res, hk, h⟩ := B h
   rcases res with e | y
   ·refine pp (ecallp (p_grammar_parser_fail_ok hk) I I I I I I I I I I) I I (P_ ?_)
    obtain ⟨⟨kind, op_, name, shape, cells, kids, at_, err, at_1, why⟩, hk, h⟩ := B h
    cases h
    exact .err I (.drec I (rdc (nid' := 4) (p_grammar_Parse_1_p_ok hk) (recsF_of Tryz.func32 I I) I I I I I I I I .nil) I)
   refine po (ecallb (nid' := 4) (p_grammar_parser_fail_ok hk) I I I I I I I I I I I I) I I (O_ (cn I ?_))
   cases h
   exact .ok I
  refine cf I hc (K_ (cn I ?_))
  cases h
  exact .ok I
 ·subst hy
  refine N_ (ra I (R_ ?_))
  obtain ⟨_, hk, h⟩ := B h
  cases h
  exact .dret I (rdc (nid' := 4) (p_grammar_Parse_1_q_ok hk) (recsF_of Tryz.func32 I I) I I I I I I I I .nil) I
 subst hr
 refine seqQ.out hx ?_
 cases h
 exact he
theorem p_apl_Parse_ok {s : Str} {r : Prgm × Fault} (h : p_apl_Parse s = some r) : aval X 14 [.d (.str s)] [] (CRes.ret (.tuple [.d (encPrgm r.1), .d (encFault r.2)]) []) := by
 unfold p_apl_Parse at h
 refine aval_start (tm := [(0, .d (.str s))]) (hp := []) (n := 0) I Tryz.func14 I I I I I I (ra (nid' := 2) I (S_ (rn 1 I ?_)))
 obtain ⟨⟨l, x⟩, hk, h⟩ := B h
 refine po (ecall (p_alex_Lex_ok hk) I I I I I I I I I) I I (on (nid' := 3) 6 I (rz (S_ (ra I ?_))))
 rcases E_ h with ⟨hc, h⟩ | ⟨hc, h⟩
 ·refine ct I hc (S_ (drn (m := 7) 4 I I (dz (by kernel_rfl) (R_ (C_ (Q_ ?_))))))
  cases h
  exact .ret I I
 refine cf I hc (K_ (cn I (N_ (ra (nid' := 4) I (S_ (rn 3 I ?_))))))
 obtain ⟨⟨from_, k, x1⟩, hk, h⟩ := B h
 refine po (ecall (p_apl_origin_ok hk) I I I I I I I I I) I I (on 7 I (rz (S_ (ra I ?_))))
 rcases E_ h with ⟨hc, h⟩ | ⟨hc, h⟩
 ·refine ct I hc (S_ (drn (m := 8) 4 I I (dz (by kernel_rfl) (R_ (C_ (Q_ ?_))))))
  cases h
  exact .ret I I
 refine cf I hc (K_ (cn I (N_ (S_ (drn (m := 11) 3 I I ?_)))))
 obtain ⟨l1, hk, h⟩ := B h
 refine pd (elfrom hk I I I I I I) I I I I I (don 3 I (dz (by kernel_rfl) (S_ (S_ (rn 1 I (po (ellen I I I I I I I) I I (on 2 I ?_)))))))
 rcases E_ h with ⟨hc, h⟩ | ⟨hc, h⟩
 ·refine gt I I I I hc I (on 1 I ?_)
  obtain ⟨y, hk, h⟩ := B h
  refine po (elget encToken (fun _ => I) hk I I I I I) I I (on 5 I ?_)
  rcases E_ h with ⟨hc, h⟩ | ⟨hc, h⟩
  ·refine gt I I I I hc I (on 1 I ?_)
   obtain ⟨y1, hk, h⟩ := B h
   refine po (elget encToken (fun _ => I) hk I I I I I) I I (on 5 I ?_)
   rcases E_ h with ⟨hc, h⟩ | ⟨hc, h⟩
   ·refine gt I I I I hc I (on 1 I ?_)
    obtain ⟨y2, hk, h⟩ := B h
    refine po (elget encToken (fun _ => I) hk I I I I I) I I (on 2 I ?_)
    obtain ⟨x2, hk, h⟩ := B h
    refine po (ecall (p_core_Name_ok hk) I I I I I I I I I) I I (on 1 I (rz ?_))
    obtain ⟨⟨l3, p0⟩, hs, h⟩ := B h
    refine awp_nrm (fun ((l3, p0) : (List Token) × Str) => (⟨[(0, .d (.str s)), (2, .c (.ptr 0 0)), (3, .c (.ptr 1 0)), (4, .d (lT l3)), (5, .c (.ptr 2 0)), (6, .c (.ptr 3 0))], [(3, [.d (.str p0), .d (iZ from_), .d (iZ 0), .d (iZ 0), .d (.str []), oI [], oC [], oN [], .d (iZ 0)]), (2, [.d (iZ x1.err), .d (iZ x1.at_), .d (iZ x1.why)]), (1, [.d (iZ 0), .d (iZ 0), .d (iZ 0)]), (0, [.d (.str []), .d (iZ 0), .d (iZ 0), .d (iZ 0), .d (.str []), oI [], oC [], oN [], .d (iZ 0)])], 11, [], none⟩ : St)) (y := (l3, p0)) ?_ ?_
    ·replace h := hs
     rcases E_ h with ⟨hc, h⟩ | ⟨hc, h⟩
     ·refine ct I hc (drn (m := 20) 1 I I ?_)
      obtain ⟨y3, hk, h⟩ := B h
      refine pd (elget encToken (fun _ => I) hk I I I I I) I I I I I (don 3 I ?_)
      obtain ⟨l2, hk, h⟩ := B h
      refine pd (elfrom hk I I I I I I) I I I I I (don 3 I (dz' (by kernel_rfl) (cn I ?_)))
      cases h
      exact .ok I
     refine cf I hc (K_ (cn I ?_))
     cases h
     exact .ok I
    refine N_ (S_ (S_ (rn 0 I ?_)))
    obtain ⟨x3, hk, h⟩ := B h
    refine po (ecall (p_apl_Grammar_ok hk) I I I I I I I I I) I I (on 3 I ?_)
    obtain ⟨⟨x4, x5⟩, hk, h⟩ := B h
    refine po (ecall (p_grammar_Parse_ok hk) I I I I I I I I I) I I (on 6 I (rz (ra I ?_)))
    rcases E_ h with ⟨hc, h⟩ | ⟨hc, h⟩
    ·refine ct I hc (S_ (drn (m := 15) 4 I I (dz (by kernel_rfl) (R_ (C_ (Q_ ?_))))))
     cases h
     exact .ret I I
    refine cf I hc (K_ (cn I (N_ (ra I (R_ ?_)))))
    cases h
    exact .ret I I
   refine gf I I I I hc I (on 6 I (rz (cf I I (K_ (cn I (N_ (S_ (S_ (rn 0 I ?_)))))))))
   obtain ⟨x6, hk, h⟩ := B h
   refine po (ecall (p_apl_Grammar_ok hk) I I I I I I I I I) I I (on 3 I ?_)
   obtain ⟨⟨x7, x8⟩, hk, h⟩ := B h
   refine po (ecall (p_grammar_Parse_ok hk) I I I I I I I I I) I I (on 6 I (rz (ra I ?_)))
   rcases E_ h with ⟨hc, h⟩ | ⟨hc, h⟩
   ·refine ct I hc (S_ (drn (m := 15) 4 I I (dz (by kernel_rfl) (R_ (C_ (Q_ ?_))))))
    cases h
    exact .ret I I
   refine cf I hc (K_ (cn I (N_ (ra I (R_ ?_)))))
   cases h
   exact .ret I I
  refine gf I I I I hc I (on 13 I (rz (cf I I (K_ (cn I (N_ (S_ (S_ (rn 0 I ?_)))))))))
  obtain ⟨x9, hk, h⟩ := B h
  refine po (ecall (p_apl_Grammar_ok hk) I I I I I I I I I) I I (on 3 I ?_)
  obtain ⟨⟨x10, x11⟩, hk, h⟩ := B h
  refine po (ecall (p_grammar_Parse_ok hk) I I I I I I I I I) I I (on 6 I (rz (ra I ?_)))
  rcases E_ h with ⟨hc, h⟩ | ⟨hc, h⟩
  ·refine ct I hc (S_ (drn (m := 15) 4 I I (dz (by kernel_rfl) (R_ (C_ (Q_ ?_))))))
   cases h
   exact .ret I I
  refine cf I hc (K_ (cn I (N_ (ra I (R_ ?_)))))
  cases h
  exact .ret I I
 refine gf I I I I hc I (on 20 I (rz (cf I I (K_ (cn I (N_ (S_ (S_ (rn 0 I ?_)))))))))
 obtain ⟨x12, hk, h⟩ := B h
 refine po (ecall (p_apl_Grammar_ok hk) I I I I I I I I I) I I (on 3 I ?_)
 obtain ⟨⟨x13, x14⟩, hk, h⟩ := B h
 refine po (ecall (p_grammar_Parse_ok hk) I I I I I I I I I) I I (on 6 I (rz (ra I ?_)))
 rcases E_ h with ⟨hc, h⟩ | ⟨hc, h⟩
 ·refine ct I hc (S_ (drn (m := 15) 4 I I (dz (by kernel_rfl) (R_ (C_ (Q_ ?_))))))
  cases h
  exact .ret I I
 refine cf I hc (K_ (cn I (N_ (ra I (R_ ?_)))))
 cases h
 exact .ret I I
theorem p_arr_order_int_ok {a_ : Int} {b : Int} {r : Int} (h : p_arr_order_int a_ b = some r) : aval X 106 [.d (iZ a_), .d (iZ b)] [] (CRes.ret (.d (iZ r)) []) := by
 unfold p_arr_order_int at h
 refine aval_start (tm := [(0, .d (iZ a_)), (1, .d (iZ b))]) (hp := []) (n := 0) I Tryz.func106 I I I I I I (ra I (S_ (W_ (ra I ?_))))
 rcases E_ h with ⟨hc, h⟩ | ⟨hc, h⟩
 ·refine ct I hc (ra I (R_ (C_ (exitQ.ret (Q_ ?_)))))
  cases h
  exact .ret I I
 refine cf I hc (ra I ?_)
 rcases E_ h with ⟨hc, h⟩ | ⟨hc, h⟩
 ·refine ct I hc (ra I (R_ (C_ (C_ (exitQ.ret (Q_ ?_))))))
  cases h
  exact .ret I I
 refine cf I hc (K_ (cn I (cn I (en I (N_ (ra I (R_ ?_)))))))
 cases h
 exact .ret I I
theorem p_arr_Cmp_2_ok {i : Int} {a_ : Arr} {a_1 : Arr} {r : Int} (h : p_arr_Cmp_2 i a_ a_1 = some r) : aval X 107 [.d (iZ i), .ptr 0 0, .ptr 1 0] [[.d (lI a_.shape), .d (lC a_.cells)], [.d (lI a_1.shape), .d (lC a_1.cells)]] (CRes.ret (.d (iZ r)) [[.d (lI a_.shape), .d (lC a_.cells)], [.d (lI a_1.shape), .d (lC a_1.cells)]]) := by
 unfold p_arr_Cmp_2 at h
 refine aval_start (tm := [(0, .d (iZ i)), (1, .c (.ptr 0 0)), (2, .c (.ptr 1 0))]) (hp := [(0, [.d (lI a_.shape), .d (lC a_.cells)]), (1, [.d (lI a_1.shape), .d (lC a_1.cells)])]) (n := 2) I Tryz.func107 I I I I I I (ra I (S_ (drn (m := 14) 3 I I ?_)))
 obtain ⟨y, hk, h⟩ := B h
 refine pd (elget (D.int .i64) (fun _ => I) hk I I I I I) I I I I I (don 4 I ?_)
 obtain ⟨y1, hk, h⟩ := B h
 refine pd (elget (D.int .i64) (fun _ => I) hk I I I I I) I I I I I (don 1 I ?_)
 obtain ⟨x, hk, h⟩ := B h
 refine pd (ecall (p_arr_order_int_ok hk) I I I I I I I I I) I I I I I (don 1 I (dz (by kernel_rfl) (R_ ?_)))
 cases h
 exact .ret I I
theorem p_arr_Cmp_1__arr_Cmp_2_l0_ok : ∀ (a : Int × Arr × Arr × Int) (res : Except (Int) (Unit)), p_arr_Cmp_1__arr_Cmp_2_l0 a = some res → (match a with | (n, b, b1, x) => awpL X 105 (codeAt [1, 0, 1, 0, 0] (bodyOf Tryz.f105)) (cleanAt (X.H 105 2) 2) (exitQ 0 (X.H 105 1000000) 2 (SubQ X Tryz.f105 2 (fun (r : Int) => (CRes.ret (.d (iZ r)) [[.d (lI b.shape), .d (lC b.cells)], [.d (lI b1.shape), .d (lC b1.cells)]])) (fun (_ : Unit) => (⟨[], [(0, [.d (lI b.shape), .d (lC b.cells)]), (1, [.d (lI b1.shape), .d (lC b1.cells)])], 2, [], none⟩ : St)) res)) ⟨[(1, .c (.fn 107 [0, 1])), (7, .d (iZ n)), (8, .d (iZ x))], [(0, [.d (lI b.shape), .d (lC b.cells)]), (1, [.d (lI b1.shape), .d (lC b1.cells)])], 2, [], none⟩) := by
 refine p_arr_Cmp_1__arr_Cmp_2_l0.partial_correctness _ ?_
 rintro p_arr_Cmp_1__arr_Cmp_2_l0' ih ⟨n, b, b1, x⟩ res h
 refine lg I (ra I (S_ ?_))
 rcases E_ h with ⟨hc, h⟩ | ⟨hc, h⟩
 ·refine ct I hc (K_ (cn I (N_ (S_ (W_ (ra I (S_ (rn 2 I ?_))))))))
  obtain ⟨o, hk, h⟩ := B h
  refine po (ecallb (nid' := 2) (p_arr_Cmp_2_ok hk) I I I I I I I I I I I I) I I (on 1 I (rz (ra I ?_)))
  rcases E_ h with ⟨hc, h⟩ | ⟨hc, h⟩
  ·refine ct I hc (ra I (R_ (C_ (exitQ.ret (Q_ (loopQ.ret (exitQ.ret ?_)))))))
   cases h
   exact .err I (.ret I I)
  refine cf I hc (K_ (cn I (en I (N_ (rn 2 I (O_ (loopQ.normal ?_)))))))
  exact awpL_at I I (ih _ _ h)
 refine cf I hc (X_ (condQ.exit (seqQ.exit (loopQ.exit (eh I ?_)))))
 cases h
 exact .ok I
theorem p_arr_Cmp_1__arr_Cmp_2_ok {n : Int} {b : Arr} {b1 : Arr} {r : Int} (h : p_arr_Cmp_1__arr_Cmp_2 n b b1 = some r) : aval X 105 [.d (iZ n), .fn 107 [0, 1]] [[.d (lI b.shape), .d (lC b.cells)], [.d (lI b1.shape), .d (lC b1.cells)]] (CRes.ret (.d (iZ r)) [[.d (lI b.shape), .d (lC b.cells)], [.d (lI b1.shape), .d (lC b1.cells)]]) := by
 unfold p_arr_Cmp_1__arr_Cmp_2 at h
 refine aval_start (tm := [(0, .d (iZ n)), (1, .c (.fn 107 [0, 1]))]) (hp := [(0, [.d (lI b.shape), .d (lC b.cells)]), (1, [.d (lI b1.shape), .d (lC b1.cells)])]) (n := 2) I Tryz.func105 I I I I I I (ra I (S_ (ra I ?_)))
 obtain ⟨res, hs, h⟩ := B h
 refine awp_sub Tryz.f105 2 (fun (r : Int) => (CRes.ret (.d (iZ r)) [[.d (lI b.shape), .d (lC b.cells)], [.d (lI b1.shape), .d (lC b1.cells)]])) (fun (_ : Unit) => (⟨[], [(0, [.d (lI b.shape), .d (lC b.cells)]), (1, [.d (lI b1.shape), .d (lC b1.cells)])], 2, [], none⟩ : St)) (res := res) ?_ (fun y hy => ?_) (fun r x s' hr hx he => ?_)
 ·replace h := hs
  refine W_ (awp_loop ?_)
  exact awpL_at I I (p_arr_Cmp_1__arr_Cmp_2_l0_ok _ _ h)
 ·subst hy
  refine N_ (ra I (R_ ?_))
  cases h
  exact .ret I I
 subst hr
 refine seqQ.out hx ?_
 cases h
 exact he
theorem p_arr_order_int64_ok {a_ : Int} {b : Int} {r : Int} (h : p_arr_order_int64 a_ b = some r) : aval X 126 [.d (iZ a_), .d (iZ b)] [] (CRes.ret (.d (iZ r)) []) := by
 unfold p_arr_order_int64 at h
 refine aval_start (tm := [(0, .d (iZ a_)), (1, .d (iZ b))]) (hp := []) (n := 0) I Tryz.func126 I I I I I I (ra I (S_ (W_ (ra I ?_))))
 rcases E_ h with ⟨hc, h⟩ | ⟨hc, h⟩
 ·refine ct I hc (ra I (R_ (C_ (exitQ.ret (Q_ ?_)))))
  cases h
  exact .ret I I
 refine cf I hc (ra I ?_)
 rcases E_ h with ⟨hc, h⟩ | ⟨hc, h⟩
 ·refine ct I hc (ra I (R_ (C_ (C_ (exitQ.ret (Q_ ?_))))))
  cases h
  exact .ret I I
 refine cf I hc (K_ (cn I (cn I (en I (N_ (ra I (R_ ?_)))))))
 cases h
 exact .ret I I
abbrev Mp_arr_Cmp (a : Arr × Arr) (res : Int) : Prop := match a with | (a_, b) => aval X 68 [.d (encArr a_), .d (encArr b)] [] (CRes.ret (.d (iZ res)) [])
abbrev Mp_arr_Cmp_1__arr_Cmp_3_l0 (a : Int × Arr × Arr × Int) (res : Except (Int) (Unit)) : Prop := match a with | (n, b, b1, x) => awpL X 105 (codeAt [1, 0, 1, 0, 0] (bodyOf Tryz.f105)) (cleanAt (X.H 105 2) 2) (exitQ 0 (X.H 105 1000000) 2 (SubQ X Tryz.f105 2 (fun (r : Int) => (CRes.ret (.d (iZ r)) [[.d (lI b.shape), .d (lC b.cells)], [.d (lI b1.shape), .d (lC b1.cells)]])) (fun (_ : Unit) => (⟨[], [(0, [.d (lI b.shape), .d (lC b.cells)]), (1, [.d (lI b1.shape), .d (lC b1.cells)])], 2, [], none⟩ : St)) res)) ⟨[(1, .c (.fn 108 [0, 1])), (7, .d (iZ n)), (8, .d (iZ x))], [(0, [.d (lI b.shape), .d (lC b.cells)]), (1, [.d (lI b1.shape), .d (lC b1.cells)])], 2, [], none⟩
abbrev Mp_arr_Cmp_1__arr_Cmp_3 (a : Int × Arr × Arr) (res : Int) : Prop := match a with | (n, b, b1) => aval X 105 [.d (iZ n), .fn 108 [0, 1]] [[.d (lI b.shape), .d (lC b.cells)], [.d (lI b1.shape), .d (lC b1.cells)]] (CRes.ret (.d (iZ res)) [[.d (lI b.shape), .d (lC b.cells)], [.d (lI b1.shape), .d (lC b1.cells)]])
abbrev Mp_arr_Cmp_3 (a : Int × Arr × Arr) (res : Int) : Prop := match a with | (i, a_, a_1) => aval X 108 [.d (iZ i), .ptr 0 0, .ptr 1 0] [[.d (lI a_.shape), .d (lC a_.cells)], [.d (lI a_1.shape), .d (lC a_1.cells)]] (CRes.ret (.d (iZ res)) [[.d (lI a_.shape), .d (lC a_.cells)], [.d (lI a_1.shape), .d (lC a_1.cells)]])
abbrev Mp_arr_Cell (a : Cell × Cell) (res : Int) : Prop := match a with | (a_, b) => aval X 109 [.d (encCell a_), .d (encCell b)] [] (CRes.ret (.d (iZ res)) [])
theorem p_arr_Cmp_grp : (∀ a res, p_arr_Cmp a = some res → Mp_arr_Cmp a res) ∧ (∀ a res, p_arr_Cmp_1__arr_Cmp_3 a = some res → Mp_arr_Cmp_1__arr_Cmp_3 a res) ∧ (∀ a res, p_arr_Cmp_1__arr_Cmp_3_l0 a = some res → Mp_arr_Cmp_1__arr_Cmp_3_l0 a res) ∧ (∀ a res, p_arr_Cmp_3 a = some res → Mp_arr_Cmp_3 a res) ∧ (∀ a res, p_arr_Cell a = some res → Mp_arr_Cell a res) := by
 refine p_arr_Cmp.mutual_partial_correctness (motive_1 := Mp_arr_Cmp) (motive_2 := Mp_arr_Cmp_1__arr_Cmp_3) (motive_3 := Mp_arr_Cmp_1__arr_Cmp_3_l0) (motive_4 := Mp_arr_Cmp_3) (motive_5 := Mp_arr_Cell) ?_ ?_ ?_ ?_ ?_
 ·rintro p_arr_Cmp_1__arr_Cmp_3' ih_p_arr_Cmp_1__arr_Cmp_3 ⟨a_, b⟩ res h
  refine aval_start (tm := [(0, .d (encArr a_)), (1, .d (encArr b))]) (hp := []) (n := 0) I Tryz.func68 I I I I I I (ra (nid' := 2) I (ra I (S_ (S_ (rn 2 I (po (ellen I I I I I I I) I I (on 2 I (po (ellen I I I I I I I) I I ?_))))))))
  obtain ⟨o, hk, h⟩ := B h
  refine po (ecall (p_arr_order_int_ok hk) I I I I I I I I I) I I (on 1 I (rz (ra I ?_)))
  rcases E_ h with ⟨hc, h⟩ | ⟨hc, h⟩
  ·refine ct I hc (ra I (R_ (C_ (Q_ ?_))))
   cases h
   exact .ret I I
  refine cf I hc (K_ (cn I (N_ (S_ (S_ (rn 3 I (po (ellen I I I I I I I) I I (on 1 I ?_))))))))
  obtain ⟨o1, hk, h⟩ := B h
  refine po (ecallb (nid' := 2) (p_arr_Cmp_1__arr_Cmp_2_ok hk) I I I I I I I I I I I I) I I (on 1 I (rz (ra I ?_)))
  rcases E_ h with ⟨hc, h⟩ | ⟨hc, h⟩
  ·refine ct I hc (ra I (R_ (C_ (Q_ ?_))))
   cases h
   exact .ret I I
  refine cf I hc (K_ (cn I (N_ (S_ (S_ (rn 3 I (po (ellen I I I I I I I) I I (on 2 I (po (ellen I I I I I I I) I I (on 2 I ?_))))))))))
  obtain ⟨o2, hk, h⟩ := B h
  refine po (ecallb (nid' := 2) (ih_p_arr_Cmp_1__arr_Cmp_3 _ _ hk) I I I I I I I I I I I I) I I (on 1 I (rz (ra I ?_)))
  rcases E_ h with ⟨hc, h⟩ | ⟨hc, h⟩
  ·refine ct I hc (ra I (R_ (C_ (Q_ ?_))))
   cases h
   exact .ret I I
  refine cf I hc (K_ (cn I (N_ (S_ (rn 2 I (po (ellen I I I I I I I) I I (on 2 I (po (ellen I I I I I I I) I I ?_))))))))
  obtain ⟨x, hk, h⟩ := B h
  refine po (ecall (p_arr_order_int_ok hk) I I I I I I I I I) I I (on 1 I (rz (R_ ?_)))
  cases h
  exact .ret I I
 ·rintro p_arr_Cmp_1__arr_Cmp_3_l0' ih_p_arr_Cmp_1__arr_Cmp_3_l0 ⟨n, b, b1⟩ res h
  refine aval_start (tm := [(0, .d (iZ n)), (1, .c (.fn 108 [0, 1]))]) (hp := [(0, [.d (lI b.shape), .d (lC b.cells)]), (1, [.d (lI b1.shape), .d (lC b1.cells)])]) (n := 2) I Tryz.func105 I I I I I I (ra I (S_ (ra I ?_)))
  obtain ⟨res, hs, h⟩ := B h
  refine awp_sub Tryz.f105 2 (fun (r : Int) => (CRes.ret (.d (iZ r)) [[.d (lI b.shape), .d (lC b.cells)], [.d (lI b1.shape), .d (lC b1.cells)]])) (fun (_ : Unit) => (⟨[], [(0, [.d (lI b.shape), .d (lC b.cells)]), (1, [.d (lI b1.shape), .d (lC b1.cells)])], 2, [], none⟩ : St)) (res := res) ?_ (fun y hy => ?_) (fun r x s' hr hx he => ?_)
  ·replace h := hs
   refine W_ (awp_loop ?_)
   exact awpL_at I I (ih_p_arr_Cmp_1__arr_Cmp_3_l0 _ _ h)
  ·subst hy
   refine N_ (ra I (R_ ?_))
   cases h
   exact .ret I I
  subst hr
  refine seqQ.out hx ?_
  cases h
  exact he
 ·rintro p_arr_Cmp_1__arr_Cmp_3_l0' p_arr_Cmp_3' ih_p_arr_Cmp_1__arr_Cmp_3_l0 ih_p_arr_Cmp_3 ⟨n, b, b1, x⟩ res h
  refine lg I (ra I (S_ ?_))
  rcases E_ h with ⟨hc, h⟩ | ⟨hc, h⟩
  ·refine ct I hc (K_ (cn I (N_ (S_ (W_ (ra I (S_ (rn 2 I ?_))))))))
   obtain ⟨o, hk, h⟩ := B h
   refine po (ecallb (nid' := 2) (ih_p_arr_Cmp_3 _ _ hk) I I I I I I I I I I I I) I I (on 1 I (rz (ra I ?_)))
   rcases E_ h with ⟨hc, h⟩ | ⟨hc, h⟩
   ·refine ct I hc (ra I (R_ (C_ (exitQ.ret (Q_ (loopQ.ret (exitQ.ret ?_)))))))
    cases h
    exact .err I (.ret I I)
   refine cf I hc (K_ (cn I (en I (N_ (rn 2 I (O_ (loopQ.normal ?_)))))))
   exact awpL_at I I (ih_p_arr_Cmp_1__arr_Cmp_3_l0 _ _ h)
  refine cf I hc (X_ (condQ.exit (seqQ.exit (loopQ.exit (eh I ?_)))))
  cases h
  exact .ok I
 ·rintro p_arr_Cell' ih_p_arr_Cell ⟨i, a_, a_1⟩ res h
  refine aval_start (tm := [(0, .d (iZ i)), (1, .c (.ptr 0 0)), (2, .c (.ptr 1 0))]) (hp := [(0, [.d (lI a_.shape), .d (lC a_.cells)]), (1, [.d (lI a_1.shape), .d (lC a_1.cells)])]) (n := 2) I Tryz.func108 I I I I I I (ra I (S_ (drn (m := 14) 3 I I ?_)))
  obtain ⟨y, hk, h⟩ := B h
  refine pd (elget encCell (fun _ => I) hk I I I I I) I I I I I (don 4 I ?_)
  obtain ⟨y1, hk, h⟩ := B h
  refine pd (elget encCell (fun _ => I) hk I I I I I) I I I I I (don 1 I ?_)
  obtain ⟨x, hk, h⟩ := B h
  refine pd (ecall (ih_p_arr_Cell _ _ hk) I I I I I I I I I) I I I I I (don 1 I (dz (by kernel_rfl) (R_ ?_)))
  cases h
  exact .ret I I
 rintro p_arr_Cmp' ih_p_arr_Cmp ⟨a_, b⟩ res h
 refine aval_start (tm := [(0, .d (encCell a_)), (1, .d (encCell b))]) (hp := []) (n := 0) I Tryz.func109 I I I I I I (ra (nid' := 2) I (S_ (S_ (rn 4 I ?_))))
 obtain ⟨o, hk, h⟩ := B h
 refine po (ecall (p_arr_order_int_ok hk) I I I I I I I I I) I I (on 1 I (rz (ra I ?_)))
 rcases E_ h with ⟨hc, h⟩ | ⟨hc, h⟩
 ·refine ct I hc (ra I (R_ (C_ (Q_ ?_))))
  cases h
  exact .ret I I
 refine cf I hc (K_ (cn I (N_ (S_ (S_ (rn 4 I ?_))))))
 obtain ⟨o1, hk, h⟩ := B h
 refine po (ecall (p_arr_order_int64_ok hk) I I I I I I I I I) I I (on 1 I (rz (S_ (rn 3 I ?_))))
 rcases E_ h with ⟨hc, h⟩ | ⟨hc, h⟩
 ·refine gt I I I I hc I (on 11 I (rz (ct I I (S_ (ra I ?_)))))
  rcases E_ h with ⟨hc, h⟩ | ⟨hc, h⟩
  ·refine ct I hc (S_ (rn 2 I (po (ellen I I I I I I I) I I (on 2 I (po (ellen I I I I I I I) I I ?_)))))
   obtain ⟨x, hk, h⟩ := B h
   refine po (ecall (p_arr_order_int_ok hk) I I I I I I I I I) I I (on 1 I (rz (R_ (C_ (Q_ (C_ (Q_ ?_)))))))
   cases h
   exact .ret I I
  refine cf I hc (K_ (cn I (N_ (ra I (R_ (C_ (Q_ ?_)))))))
  cases h
  exact .ret I I
 refine gf I I I I hc I (on 2 I (po (ellen I I I I I I I) I I (on 3 I ?_)))
 rcases E_ h with ⟨hc, h⟩ | ⟨hc, h⟩
 ·refine gt I I I I hc I (on 5 I (rz (ct I I (S_ (ra I ?_)))))
  rcases E_ h with ⟨hc, h⟩ | ⟨hc, h⟩
  ·refine ct I hc (S_ (rn 2 I (po (ellen I I I I I I I) I I (on 2 I (po (ellen I I I I I I I) I I ?_)))))
   obtain ⟨x1, hk, h⟩ := B h
   refine po (ecall (p_arr_order_int_ok hk) I I I I I I I I I) I I (on 1 I (rz (R_ (C_ (Q_ (C_ (Q_ ?_)))))))
   cases h
   exact .ret I I
  refine cf I hc (K_ (cn I (N_ (ra I (R_ (C_ (Q_ ?_)))))))
  cases h
  exact .ret I I
 refine gf I I I I hc I (on 2 I (po (ellen I I I I I I I) I I (on 2 I (rz ?_))))
 rcases E_ h with ⟨hc, h⟩ | ⟨hc, h⟩
 ·refine ct I hc (S_ (ra I ?_))
  rcases E_ h with ⟨hc, h⟩ | ⟨hc, h⟩
  ·refine ct I hc (S_ (rn 2 I (po (ellen I I I I I I I) I I (on 2 I (po (ellen I I I I I I I) I I ?_)))))
   obtain ⟨x2, hk, h⟩ := B h
   refine po (ecall (p_arr_order_int_ok hk) I I I I I I I I I) I I (on 1 I (rz (R_ (C_ (Q_ (C_ (Q_ ?_)))))))
   cases h
   exact .ret I I
  refine cf I hc (K_ (cn I (N_ (ra I (R_ (C_ (Q_ ?_)))))))
  cases h
  exact .ret I I
 refine cf I hc (K_ (cn I (N_ (S_ (drn (m := 12) 2 I I ?_)))))
 obtain ⟨y, hk, h⟩ := B h
 refine pd (elget encArr encArrR_eq hk I I I I I) I I I I I (don 3 I ?_)
 obtain ⟨y1, hk, h⟩ := B h
 refine pd (elget encArr encArrR_eq hk I I I I I) I I I I I (don 1 I ?_)
 obtain ⟨x3, hk, h⟩ := B h
 refine pd (ecall (ih_p_arr_Cmp _ _ hk) I I I I I I I I I) I I I I I (don 1 I (dz (by kernel_rfl) (R_ ?_)))
 cases h
 exact .ret I I
theorem p_arr_Cmp_ih : ∀ a res, p_arr_Cmp a = some res → Mp_arr_Cmp a res := p_arr_Cmp_grp.1
theorem p_arr_Cmp_ok {a : Arr × Arr} {res : Int} (h : p_arr_Cmp a = some res) : Mp_arr_Cmp a res := p_arr_Cmp_ih a res h
theorem p_arr_Same_ok {a_ : Arr} {b : Arr} {r : Bool} (h : p_arr_Same a_ b = some r) : aval X 37 [.d (encArr a_), .d (encArr b)] [] (CRes.ret (.d (.bool r)) []) := by
 unfold p_arr_Same at h
 refine aval_start (tm := [(0, .d (encArr a_)), (1, .d (encArr b))]) (hp := []) (n := 0) I Tryz.func37 I I I I I I (ra (nid' := 2) I (S_ (rn 2 I ?_)))
 obtain ⟨x, hk, h⟩ := B h
 refine po (ecall (p_arr_Cmp_ok hk) I I I I I I I I I) I I (on 2 I (rz (R_ ?_)))
 cases h
 exact .ret I I
abbrev Mp_core_Same_l0 (a : Node × Node × Int) (res : Except (Bool) (Unit)) : Prop := match a with | (a_, b, x1) => awpL X 24 (codeAt [1, 1, 0, 1, 0, 0] (bodyOf Tryz.f24)) (cleanAt (X.H 24 4) 2) (exitQ 0 (X.H 24 1000000) 2 (SubQ X Tryz.f24 0 (fun (r : Bool) => (CRes.ret (.d (.bool r)) [])) (fun (_ : Unit) => (⟨[], [(1, [.d (iZ b.kind), .d (iZ b.op_), .d (.str b.name), .d (lI b.lit.shape), .d (lC b.lit.cells), .d (lN b.kids), .d (iZ b.at_)]), (0, [.d (iZ a_.kind), .d (iZ a_.op_), .d (.str a_.name), .d (lI a_.lit.shape), .d (lC a_.lit.cells), .d (lN a_.kids), .d (iZ a_.at_)])], 2, [], none⟩ : St)) res)) ⟨[(2, .c (.ptr 0 0)), (3, .c (.ptr 1 0)), (44, .d (iZ (List.length a_.kids : Int))), (45, .d (iZ x1))], [(1, [.d (iZ b.kind), .d (iZ b.op_), .d (.str b.name), .d (lI b.lit.shape), .d (lC b.lit.cells), .d (lN b.kids), .d (iZ b.at_)]), (0, [.d (iZ a_.kind), .d (iZ a_.op_), .d (.str a_.name), .d (lI a_.lit.shape), .d (lC a_.lit.cells), .d (lN a_.kids), .d (iZ a_.at_)])], 2, [], none⟩
abbrev Mp_core_Same (a : Node × Node) (res : Bool) : Prop := match a with | (a_, b) => aval X 24 [.d (encNode a_), .d (encNode b)] [] (CRes.ret (.d (.bool res)) [])
theorem p_core_Same_l0_grp : (∀ a res, p_core_Same_l0 a = some res → Mp_core_Same_l0 a res) ∧ (∀ a res, p_core_Same a = some res → Mp_core_Same a res) := by
 refine p_core_Same_l0.mutual_partial_correctness (motive_1 := Mp_core_Same_l0) (motive_2 := Mp_core_Same) ?_ ?_
 ·rintro p_core_Same_l0' p_core_Same' ih_p_core_Same_l0 ih_p_core_Same ⟨a_, b, x1⟩ res h
  refine lg I (ra I (S_ ?_))
  rcases E_ h with ⟨hc, h⟩ | ⟨hc, h⟩
  ·refine ct I hc (K_ (cn I (N_ (S_ (W_ (ra I (S_ (drn (m := 14) 3 I I ?_))))))))
   obtain ⟨y, hk, h⟩ := B h
   refine pd (elget encNode encNodeR_eq hk I I I I I) I I I I I (don 4 I ?_)
   obtain ⟨y1, hk, h⟩ := B h
   refine pd (elget encNode encNodeR_eq hk I I I I I) I I I I I (don 1 I ?_)
   obtain ⟨x2, hk, h⟩ := B h
   refine pd (ecall (ih_p_core_Same _ _ hk) I I I I I I I I I) I I I I I (don 1 I (dz (by kernel_rfl) ?_))
   rcases E_ h with ⟨hc, h⟩ | ⟨hc, h⟩
   ·refine ct I hc (ra I (R_ (C_ (exitQ.ret (Q_ (loopQ.ret (exitQ.ret ?_)))))))
    cases h
    exact .err I (.ret I I)
   refine cf I hc (K_ (cn I (en I (N_ (rn 2 I (O_ (loopQ.normal ?_)))))))
   exact awpL_at I I (ih_p_core_Same_l0 _ _ h)
  refine cf I hc (X_ (condQ.exit (seqQ.exit (loopQ.exit (eh I ?_)))))
  cases h
  exact .ok I
 rintro p_core_Same_l0' ih_p_core_Same_l0 ⟨a_, b⟩ res h
 refine aval_start (tm := [(0, .d (encNode a_)), (1, .d (encNode b))]) (hp := []) (n := 0) I Tryz.func24 I I I I I I (ra (nid' := 2) I (S_ (S_ (rn 6 I ?_))))
 rcases E_ h with ⟨hc, h⟩ | ⟨hc, h⟩
 ·refine gt I I I I hc I (on 30 I (rz (ct I I (ra I (R_ (C_ (Q_ ?_)))))))
  cases h
  exact .ret I I
 refine gf I I I I hc I (on 7 I ?_)
 rcases E_ h with ⟨hc, h⟩ | ⟨hc, h⟩
 ·refine gt I I I I hc I (on 23 I (rz (ct I I (ra I (R_ (C_ (Q_ ?_)))))))
  cases h
  exact .ret I I
 refine gf I I I I hc I (on 7 I ?_)
 rcases E_ h with ⟨hc, h⟩ | ⟨hc, h⟩
 ·refine gt I I I I hc I (on 16 I (rz (ct I I (ra I (R_ (C_ (Q_ ?_)))))))
  cases h
  exact .ret I I
 refine gf I I I I hc I (on 4 I ?_)
 obtain ⟨x, hk, h⟩ := B h
 refine po (ecall (p_arr_Same_ok hk) I I I I I I I I I) I I (on 3 I ?_)
 rcases E_ h with ⟨hc, h⟩ | ⟨hc, h⟩
 ·refine gt I I I I hc I (on 8 I (rz (ct I I (ra I (R_ (C_ (Q_ ?_)))))))
  cases h
  exact .ret I I
 refine gf I I I I hc I (on 2 I (po (ellen I I I I I I I) I I (on 2 I (po (ellen I I I I I I I) I I (on 2 I (rz ?_))))))
 rcases E_ h with ⟨hc, h⟩ | ⟨hc, h⟩
 ·refine ct I hc (ra I (R_ (C_ (Q_ ?_))))
  cases h
  exact .ret I I
 refine cf I hc (K_ (cn I (N_ (S_ (S_ (rn 2 I (po (ellen I I I I I I I) I I (on 1 I (rz ?_)))))))))
 obtain ⟨res, hs, h⟩ := B h
 refine awp_sub Tryz.f24 0 (fun (r : Bool) => (CRes.ret (.d (.bool r)) [])) (fun (_ : Unit) => (⟨[], [(1, [.d (iZ b.kind), .d (iZ b.op_), .d (.str b.name), .d (lI b.lit.shape), .d (lC b.lit.cells), .d (lN b.kids), .d (iZ b.at_)]), (0, [.d (iZ a_.kind), .d (iZ a_.op_), .d (.str a_.name), .d (lI a_.lit.shape), .d (lC a_.lit.cells), .d (lN a_.kids), .d (iZ a_.at_)])], 2, [], none⟩ : St)) (res := res) ?_ (fun y hy => ?_) (fun r x s' hr hx he => ?_)
 ·replace h := hs
  refine W_ (awp_loop ?_)
  exact awpL_at I I (ih_p_core_Same_l0 _ _ h)
 ·subst hy
  refine N_ (ra I (R_ ?_))
  cases h
  exact .ret I I
 subst hr
 refine seqQ.out hx ?_
 cases h
 exact he
theorem p_core_Same_ih : ∀ a res, p_core_Same a = some res → Mp_core_Same a res := p_core_Same_l0_grp.2
theorem p_core_Same_ok {a : Node × Node} {res : Bool} (h : p_core_Same a = some res) : Mp_core_Same a res := p_core_Same_ih a res h
theorem p_arr_Size_l0_ok : ∀ (a : ((List Int)) × Bool × Int) (res : Except (Int × Int) (Bool)), p_arr_Size_l0 a = some res → (match a with | (shape, none_, x) => awpL X 147 (codeAt [1, 1, 1, 0, 1, 0, 0] (bodyOf Tryz.f147)) (cleanAt (X.H 147 5) 0) (exitQ 0 (X.H 147 1000000) 0 (SubQ X Tryz.f147 0 (fun (r : Int × Int) => (CRes.ret (.tuple [.d (iZ r.1), .d (iZ r.2)]) [])) (fun (none_2 : Bool) => (⟨[(0, .d (lI shape)), (4, .d (iZ 1)), (5, .d (.bool none_2))], [], 0, [], none⟩ : St)) res)) ⟨[(0, .d (lI shape)), (4, .d (iZ 1)), (5, .d (.bool none_)), (13, .d (lI shape)), (14, .d (iZ (List.length shape : Int))), (15, .d (iZ x))], [], 0, [], none⟩) := by
 refine p_arr_Size_l0.partial_correctness _ ?_
 rintro p_arr_Size_l0' ih ⟨shape, none_, x⟩ res h
 refine lg I (ra I (S_ ?_))
 rcases E_ h with ⟨hc, h⟩ | ⟨hc, h⟩
 ·refine ct I hc (K_ (cn I (N_ (S_ ?_))))
  obtain ⟨res, hs, h⟩ := B h
  refine awp_sub Tryz.f147 0 (fun (r : Int × Int) => (CRes.ret (.tuple [.d (iZ r.1), .d (iZ r.2)]) [])) (fun (none_1 : Bool) => (⟨[(0, .d (lI shape)), (4, .d (iZ 1)), (5, .d (.bool none_1)), (13, .d (lI shape)), (14, .d (iZ (List.length shape : Int))), (15, .d (iZ x))], [], 0, [], none⟩ : St)) (res := res) ?_ (fun y hy => ?_) (fun r x s' hr hx he => ?_)
  ·replace h := hs
   refine W_ (S_ (rn 0 I ?_))
   obtain ⟨d, hk, h⟩ := B h
   refine po (elget (D.int .i64) (fun _ => I) hk I I I I I) I I (on 2 I (rz (S_ (ra I ?_))))
   rcases E_ h with ⟨hc, h⟩ | ⟨hc, h⟩
   ·refine ct I hc (ra I (R_ (C_ (Q_ (exitQ.ret ?_)))))
    cases h
    exact .err I (.ret I I)
   refine cf I hc (K_ (cn I (N_ (rn 2 I ?_))))
   rcases E_ h with ⟨hc, h⟩ | ⟨hc, h⟩
   ·refine gt I I I I hc I (on 4 I (O_ (en I ?_)))
    cases h
    exact .ok I
   refine gf I I I I hc I (on 4 I (O_ (en I ?_)))
   cases h
   exact .ok I
  ·subst hy
   obtain none_1 := y
   refine N_ (rn 2 I (O_ (loopQ.normal ?_)))
   exact awpL_at I I (ih _ _ h)
  subst hr
  refine seqQ.out hx (loopQ.out hx (exitQ.out hx ?_))
  cases h
  exact .err hx he
 refine cf I hc (X_ (condQ.exit (seqQ.exit (loopQ.exit (eh I ?_)))))
 cases h
 exact .ok I
theorem p_arr_Size_l1_ok : ∀ (a : ((List Int)) × Int × Int) (res : Except (Int × Int) (Int)), p_arr_Size_l1 a = some res → (match a with | (shape, n, x1) => awpL X 147 (codeAt [1, 1, 1, 1, 1, 0, 1, 0, 0] (bodyOf Tryz.f147)) (cleanAt (X.H 147 14) 0) (exitQ 2 (X.H 147 1000002) 0 (SubQ X Tryz.f147 0 (fun (r : Int × Int) => (CRes.ret (.tuple [.d (iZ r.1), .d (iZ r.2)]) [])) (fun (n1 : Int) => (⟨[(4, .d (iZ n1))], [], 0, [], none⟩ : St)) res)) ⟨[(4, .d (iZ n)), (28, .d (lI shape)), (29, .d (iZ (List.length shape : Int))), (30, .d (iZ x1))], [], 0, [], none⟩) := by
 refine p_arr_Size_l1.partial_correctness _ ?_
 rintro p_arr_Size_l1' ih ⟨shape, n, x1⟩ res h
 refine lg I (ra I (S_ ?_))
 rcases E_ h with ⟨hc, h⟩ | ⟨hc, h⟩
 ·refine ct I hc (K_ (cn I (N_ (S_ (W_ (S_ (rn 0 I ?_)))))))
  obtain ⟨d1, hk, h⟩ := B h
  refine po (elget (D.int .i64) (fun _ => I) hk I I I I I) I I (on 2 I (rz (S_ (S_ (rn 2 I ?_)))))
  obtain ⟨q, hk, h⟩ := B h
  refine po (eidiv hk I I I) I I (on 1 I (rz ?_))
  rcases E_ h with ⟨hc, h⟩ | ⟨hc, h⟩
  ·refine ct I hc (ra I (R_ (C_ (Q_ (exitQ.ret (Q_ (loopQ.ret (exitQ.ret ?_))))))))
   cases h
   exact .err I (.ret I I)
  refine cf I hc (K_ (cn I (N_ (rn 4 I (O_ (en I (N_ (rn 2 I (O_ (loopQ.normal ?_))))))))))
  exact awpL_at I I (ih _ _ h)
 refine cf I hc (X_ (condQ.exit (seqQ.exit (loopQ.exit (eh I ?_)))))
 cases h
 exact .ok I
theorem p_arr_Size_ok {shape : (List Int)} {r : Int × Int} (h : p_arr_Size shape = some r) : aval X 147 [.d (lI shape)] [] (CRes.ret (.tuple [.d (iZ r.1), .d (iZ r.2)]) []) := by
 unfold p_arr_Size at h
 refine aval_start (tm := [(0, .d (lI shape))]) (hp := []) (n := 0) I Tryz.func147 I I I I I I (ra I (S_ (S_ (rn 1 I (po (ellen I I I I I I I) I I (on 1 I (rz ?_)))))))
 rcases E_ h with ⟨hc, h⟩ | ⟨hc, h⟩
 ·refine ct I hc (ra I (R_ (C_ (Q_ ?_))))
  cases h
  exact .ret I I
 refine cf I hc (K_ (cn I (N_ (ra I (S_ (S_ (rn 1 I (po (ellen I I I I I I I) I I (on 1 I (rz ?_))))))))))
 obtain ⟨res, hs, h⟩ := B h
 refine awp_sub Tryz.f147 0 (fun (r : Int × Int) => (CRes.ret (.tuple [.d (iZ r.1), .d (iZ r.2)]) [])) (fun (none_2 : Bool) => (⟨[(0, .d (lI shape)), (4, .d (iZ 1)), (5, .d (.bool none_2))], [], 0, [], none⟩ : St)) (res := res) ?_ (fun y hy => ?_) (fun r x s' hr hx he => ?_)
 ·replace h := hs
  refine W_ (awp_loop ?_)
  exact awpL_at I I (p_arr_Size_l0_ok _ _ h)
 ·subst hy
  obtain none_2 := y
  refine N_ (S_ (ra I ?_))
  rcases E_ h with ⟨hc, h⟩ | ⟨hc, h⟩
  ·refine ct I hc (ra I (R_ (C_ (Q_ ?_))))
   cases h
   exact .ret I I
  refine cf I hc (K_ (cn I (N_ (S_ (S_ (rn 1 I (po (ellen I I I I I I I) I I (on 1 I (rz ?_)))))))))
  obtain ⟨res, hs, h⟩ := B h
  refine awp_sub Tryz.f147 0 (fun (r : Int × Int) => (CRes.ret (.tuple [.d (iZ r.1), .d (iZ r.2)]) [])) (fun (n1 : Int) => (⟨[(4, .d (iZ n1))], [], 0, [], none⟩ : St)) (res := res) ?_ (fun y hy => ?_) (fun r x s' hr hx he => ?_)
  ·replace h := hs
   refine W_ (awp_loop ?_)
   exact awpL_at I I (p_arr_Size_l1_ok _ _ h)
  ·subst hy
   obtain n1 := y
   refine N_ (ra I (R_ ?_))
   cases h
   exact .ret I I
  subst hr
  refine seqQ.out hx ?_
  cases h
  exact he
 subst hr
 refine seqQ.out hx ?_
 cases h
 exact he
theorem p_arr_good_ok {n : Int} {r : Bool} (h : p_arr_good n = some r) : aval X 148 [.d (iZ n)] [] (CRes.ret (.d (.bool r)) []) := by
 unfold p_arr_good at h
 refine aval_start (tm := [(0, .d (iZ n))]) (hp := []) (n := 0) I Tryz.func148 I I I I I I (ra I (S_ (rn 3 I ?_)))
 rcases E_ h with ⟨hc, h⟩ | ⟨hc, h⟩
 ·refine gt I I I I hc I (on 4 I ?_)
  rcases E_ h with ⟨hc, h⟩ | ⟨hc, h⟩
  ·refine gt I I I I hc I (on 3 I ?_)
   rcases E_ h with ⟨hc, h⟩ | ⟨hc, h⟩
   ·refine gt I I I I hc I (on 5 I (rz (R_ ?_)))
    cases h
    exact .ret I I
   refine gf I I I I hc I (on 5 I (rz (R_ ?_)))
   cases h
   exact .ret I I
  refine gf I I I I hc I (on 8 I (rz (R_ ?_)))
  cases h
  exact .ret I I
 refine gf I I I I hc I (on 12 I (rz (R_ ?_)))
 cases h
 exact .ret I I
abbrev Mp_arr_check_l0 (a : Arr × Int) (res : Except (Int) (Unit)) : Prop := match a with | (a_, x) => ∀ (deep : Int), awpL X 144 (codeAt [1, 1, 1, 1, 0, 1, 0, 0] (bodyOf Tryz.f144)) (cleanAt (X.H 144 7) 1) (exitQ 0 (X.H 144 1000000) 1 (SubQ X Tryz.f144 0 (fun (r : Int) => (CRes.ret (.d (iZ r)) [])) (fun (_ : Unit) => (⟨[(1, .d (iZ deep)), (2, .c (.ptr 0 0))], [(0, [.d (lI a_.shape), .d (lC a_.cells)])], 1, [], none⟩ : St)) res)) ⟨[(1, .d (iZ deep)), (2, .c (.ptr 0 0)), (27, .d (lI a_.shape)), (28, .d (iZ (List.length a_.shape : Int))), (29, .d (iZ x))], [(0, [.d (lI a_.shape), .d (lC a_.cells)])], 1, [], none⟩
theorem p_arr_check_l0_ih : ∀ a res, p_arr_check_l0 a = some res → Mp_arr_check_l0 a res := by
 refine p_arr_check_l0.partial_correctness Mp_arr_check_l0 ?_
 rintro p_arr_check_l0' ih_p_arr_check_l0 ⟨a_, x⟩ res h deep
 refine lg I (ra I (S_ ?_))
 rcases E_ h with ⟨hc, h⟩ | ⟨hc, h⟩
 ·refine ct I hc (K_ (cn I (N_ (S_ (W_ (S_ (rn 0 I ?_)))))))
  obtain ⟨d, hk, h⟩ := B h
  refine po (elget (D.int .i64) (fun _ => I) hk I I I I I) I I (on 2 I (rz (ra I ?_)))
  rcases E_ h with ⟨hc, h⟩ | ⟨hc, h⟩
  ·refine ct I hc (ra I (R_ (C_ (exitQ.ret (Q_ (loopQ.ret (exitQ.ret ?_)))))))
   cases h
   exact .err I (.ret I I)
  refine cf I hc (K_ (cn I (en I (N_ (rn 2 I (O_ (loopQ.normal ?_)))))))
  exact awpL_at I I (ih_p_arr_check_l0 _ _ h deep)
 refine cf I hc (X_ (condQ.exit (seqQ.exit (loopQ.exit (eh I ?_)))))
 cases h
 exact .ok I
abbrev Mp_arr_check_l1 (a : Arr × Int × Int) (res : Except (Int) (Unit)) : Prop := match a with | (a_, deep, x1) => awpL X 144 (codeAt [1, 1, 1, 1, 1, 0, 1, 0, 0] (bodyOf Tryz.f144)) (cleanAt (X.H 144 13) 1) (exitQ 2 (X.H 144 1000002) 1 (SubQ X Tryz.f144 0 (fun (r : Int) => (CRes.ret (.d (iZ r)) [])) (fun (_ : Unit) => (⟨[], [(0, [.d (lI a_.shape), .d (lC a_.cells)])], 1, [], none⟩ : St)) res)) ⟨[(1, .d (iZ deep)), (37, .d (lC a_.cells)), (38, .d (iZ (List.length a_.cells : Int))), (39, .d (iZ x1))], [(0, [.d (lI a_.shape), .d (lC a_.cells)])], 1, [], none⟩
abbrev Mp_arr_check (a : Arr × Int) (res : Int) : Prop := match a with | (a_, deep) => aval X 144 [.d (encArr a_), .d (iZ deep)] [] (CRes.ret (.d (iZ res)) [])
theorem p_arr_check_l1_grp : (∀ a res, p_arr_check_l1 a = some res → Mp_arr_check_l1 a res) ∧ (∀ a res, p_arr_check a = some res → Mp_arr_check a res) := by
 refine p_arr_check_l1.mutual_partial_correctness (motive_1 := Mp_arr_check_l1) (motive_2 := Mp_arr_check) ?_ ?_
 ·rintro p_arr_check_l1' p_arr_check' ih_p_arr_check_l1 ih_p_arr_check ⟨a_, deep, x1⟩ res h
  refine lg I (ra I (S_ ?_))
  rcases E_ h with ⟨hc, h⟩ | ⟨hc, h⟩
  ·refine ct I hc (K_ (cn I (N_ (S_ ?_))))
   obtain ⟨res, hs, h⟩ := B h
   refine awp_sub Tryz.f144 0 (fun (r : Int) => (CRes.ret (.d (iZ r)) [])) (fun (_ : Unit) => (⟨[(1, .d (iZ deep)), (37, .d (lC a_.cells)), (38, .d (iZ (List.length a_.cells : Int))), (39, .d (iZ x1))], [(0, [.d (lI a_.shape), .d (lC a_.cells)])], 1, [], none⟩ : St)) (res := res) ?_ (fun y hy => ?_) (fun r x s' hr hx he => ?_)
   ·replace h := hs
    refine W_ (S_ (rn 0 I ?_))
    obtain ⟨y, hk, h⟩ := B h
    refine po (elget encCell (fun _ => I) hk I I I I I) I I (on (nid' := 2) 3 I (rz (W_ (S_ (rn 4 I ?_)))))
    rcases E_ h with ⟨hc, h⟩ | ⟨hc, h⟩
    ·refine gt I I I I hc I (on 5 I ?_)
     rcases E_ h with ⟨hc, h⟩ | ⟨hc, h⟩
     ·refine gt I I I I hc I (on 2 I (po (ellen I I I I I I I) I I (on 3 I (rz ?_))))
      rcases E_ h with ⟨hc, h⟩ | ⟨hc, h⟩
      ·refine ct I hc (S_ (ra I ?_))
       rcases E_ h with ⟨hc, h⟩ | ⟨hc, h⟩
       ·refine ct I hc (ra I (R_ (C_ (Q_ (C_ (exitQ.ret (exitQ.ret ?_)))))))
        cases h
        exact .err I (.ret I I)
       refine cf I hc (K_ (cn I (N_ (S_ (rn 2 I ?_)))))
       obtain ⟨y1, hk, h⟩ := B h
       refine po (elget encArr encArrR_eq hk I I I I I) I I (on 3 I ?_)
       obtain ⟨e1, hk, h⟩ := B h
       refine po (ecall (ih_p_arr_check _ _ hk) I I I I I I I I I) I I (on 1 I (rz (ra I ?_)))
       rcases E_ h with ⟨hc, h⟩ | ⟨hc, h⟩
       ·refine ct I hc (ra I (R_ (C_ (C_ (exitQ.ret (exitQ.ret ?_))))))
        cases h
        exact .err I (.ret I I)
       refine cf I hc (K_ (cn I (cn I (en I (en I ?_)))))
       cases h
       exact .ok I
      refine cf I hc (S_ (rn 2 I (po (ellen I I I I I I I) I I (on 2 I ?_))))
      rcases E_ h with ⟨hc, h⟩ | ⟨hc, h⟩
      ·refine gt I I I I hc I (on 16 I (rz (ct I I (ra I (R_ (C_ (C_ (exitQ.ret (exitQ.ret ?_)))))))))
       cases h
       exact .err I (.ret I I)
      refine gf I I I I hc I (on 4 I ?_)
      rcases E_ h with ⟨hc, h⟩ | ⟨hc, h⟩
      ·refine gt I I I I hc I (on 4 I ?_)
       rcases E_ h with ⟨hc, h⟩ | ⟨hc, h⟩
       ·refine gt I I I I hc I (on 8 I (rz (ct I I (ra I (R_ (C_ (C_ (exitQ.ret (exitQ.ret ?_)))))))))
        cases h
        exact .err I (.ret I I)
       refine gf I I I I hc I (on 2 I ?_)
       obtain ⟨x2, hk, h⟩ := B h
       refine po (ecall (p_arr_good_ok hk) I I I I I I I I I) I I (on 5 I (rz ?_))
       rcases E_ h with ⟨hc, h⟩ | ⟨hc, h⟩
       ·refine ct I hc (ra I (R_ (C_ (C_ (exitQ.ret (exitQ.ret ?_))))))
        cases h
        exact .err I (.ret I I)
       refine cf I hc (K_ (cn I (cn I (en I (en I ?_)))))
       cases h
       exact .ok I
      refine gf I I I I hc I (on 12 I (rz (cf I I (K_ (cn I (cn I (en I (en I ?_))))))))
      cases h
      exact .ok I
     refine gf I I I I hc I (on 6 I (rz (cf I I (S_ (rn 2 I (po (ellen I I I I I I I) I I (on 2 I ?_)))))))
     rcases E_ h with ⟨hc, h⟩ | ⟨hc, h⟩
     ·refine gt I I I I hc I (on 16 I (rz (ct I I (ra I (R_ (C_ (C_ (exitQ.ret (exitQ.ret ?_)))))))))
      cases h
      exact .err I (.ret I I)
     refine gf I I I I hc I (on 4 I ?_)
     rcases E_ h with ⟨hc, h⟩ | ⟨hc, h⟩
     ·refine gt I I I I hc I (on 4 I ?_)
      rcases E_ h with ⟨hc, h⟩ | ⟨hc, h⟩
      ·refine gt I I I I hc I (on 8 I (rz (ct I I (ra I (R_ (C_ (C_ (exitQ.ret (exitQ.ret ?_)))))))))
       cases h
       exact .err I (.ret I I)
      refine gf I I I I hc I (on 2 I ?_)
      obtain ⟨x3, hk, h⟩ := B h
      refine po (ecall (p_arr_good_ok hk) I I I I I I I I I) I I (on 5 I (rz ?_))
      rcases E_ h with ⟨hc, h⟩ | ⟨hc, h⟩
      ·refine ct I hc (ra I (R_ (C_ (C_ (exitQ.ret (exitQ.ret ?_))))))
       cases h
       exact .err I (.ret I I)
      refine cf I hc (K_ (cn I (cn I (en I (en I ?_)))))
      cases h
      exact .ok I
     refine gf I I I I hc I (on 12 I (rz (cf I I (K_ (cn I (cn I (en I (en I ?_))))))))
     cases h
     exact .ok I
    refine gf I I I I hc I (on 11 I (rz (cf I I (S_ (rn 2 I (po (ellen I I I I I I I) I I (on 2 I ?_)))))))
    rcases E_ h with ⟨hc, h⟩ | ⟨hc, h⟩
    ·refine gt I I I I hc I (on 16 I (rz (ct I I (ra I (R_ (C_ (C_ (exitQ.ret (exitQ.ret ?_)))))))))
     cases h
     exact .err I (.ret I I)
    refine gf I I I I hc I (on 4 I ?_)
    rcases E_ h with ⟨hc, h⟩ | ⟨hc, h⟩
    ·refine gt I I I I hc I (on 4 I ?_)
     rcases E_ h with ⟨hc, h⟩ | ⟨hc, h⟩
     ·refine gt I I I I hc I (on 8 I (rz (ct I I (ra I (R_ (C_ (C_ (exitQ.ret (exitQ.ret ?_)))))))))
      cases h
      exact .err I (.ret I I)
     refine gf I I I I hc I (on 2 I ?_)
     obtain ⟨x4, hk, h⟩ := B h
     refine po (ecall (p_arr_good_ok hk) I I I I I I I I I) I I (on 5 I (rz ?_))
     rcases E_ h with ⟨hc, h⟩ | ⟨hc, h⟩
     ·refine ct I hc (ra I (R_ (C_ (C_ (exitQ.ret (exitQ.ret ?_))))))
      cases h
      exact .err I (.ret I I)
     refine cf I hc (K_ (cn I (cn I (en I (en I ?_)))))
     cases h
     exact .ok I
    refine gf I I I I hc I (on 12 I (rz (cf I I (K_ (cn I (cn I (en I (en I ?_))))))))
    cases h
    exact .ok I
   ·subst hy
    refine N_ (rn 2 I (O_ (loopQ.normal ?_)))
    exact awpL_at I I (ih_p_arr_check_l1 _ _ h)
   subst hr
   refine seqQ.out hx (loopQ.out hx (exitQ.out hx ?_))
   cases h
   exact .err hx he
  refine cf I hc (X_ (condQ.exit (seqQ.exit (loopQ.exit (eh I ?_)))))
  cases h
  exact .ok I
 rintro p_arr_check_l1' ih_p_arr_check_l1 ⟨a_, deep⟩ res h
 refine aval_start (tm := [(0, .d (encArr a_)), (1, .d (iZ deep))]) (hp := []) (n := 0) I Tryz.func144 I I I I I I (ra (nid' := 1) I (S_ (rn 2 I ?_)))
 obtain ⟨⟨n, e⟩, hk, h⟩ := B h
 refine po (ecall (p_arr_Size_ok hk) I I I I I I I I I) I I (on 5 I (rz (S_ (ra I ?_))))
 rcases E_ h with ⟨hc, h⟩ | ⟨hc, h⟩
 ·refine ct I hc (ra I (R_ (C_ (Q_ ?_))))
  cases h
  exact .ret I I
 refine cf I hc (K_ (cn I (N_ (S_ (S_ (rn 3 I (po (ellen I I I I I I I) I I (on 1 I (rz ?_)))))))))
 rcases E_ h with ⟨hc, h⟩ | ⟨hc, h⟩
 ·refine ct I hc (ra I (R_ (C_ (Q_ ?_))))
  cases h
  exact .ret I I
 refine cf I hc (K_ (cn I (N_ (S_ (S_ (rn 2 I (po (ellen I I I I I I I) I I (on 1 I (rz ?_)))))))))
 obtain ⟨res, hs, h⟩ := B h
 refine awp_sub Tryz.f144 0 (fun (r : Int) => (CRes.ret (.d (iZ r)) [])) (fun (_ : Unit) => (⟨[(1, .d (iZ deep)), (2, .c (.ptr 0 0))], [(0, [.d (lI a_.shape), .d (lC a_.cells)])], 1, [], none⟩ : St)) (res := res) ?_ (fun y hy => ?_) (fun r x s' hr hx he => ?_)
 ·replace h := hs
  refine W_ (awp_loop ?_)
  exact awpL_at I I (p_arr_check_l0_ih _ _ h deep)
 ·subst hy
  refine N_ (S_ (S_ (rn 2 I (po (ellen I I I I I I I) I I (on 1 I (rz ?_))))))
  obtain ⟨res, hs, h⟩ := B h
  refine awp_sub Tryz.f144 0 (fun (r : Int) => (CRes.ret (.d (iZ r)) [])) (fun (_ : Unit) => (⟨[], [(0, [.d (lI a_.shape), .d (lC a_.cells)])], 1, [], none⟩ : St)) (res := res) ?_ (fun y hy => ?_) (fun r x s' hr hx he => ?_)
  ·replace h := hs
   refine W_ (awp_loop ?_)
   exact awpL_at I I (ih_p_arr_check_l1 _ _ h)
  ·subst hy
   refine N_ (ra I (R_ ?_))
   cases h
   exact .ret I I
  subst hr
  refine seqQ.out hx ?_
  cases h
  exact he
 subst hr
 refine seqQ.out hx ?_
 cases h
 exact he
theorem p_arr_check_ih : ∀ a res, p_arr_check a = some res → Mp_arr_check a res := p_arr_check_l1_grp.2
theorem p_arr_check_ok {a : Arr × Int} {res : Int} (h : p_arr_check a = some res) : Mp_arr_check a res := p_arr_check_ih a res h
theorem p_arr_Check_ok {a_ : Arr} {r : Int} (h : p_arr_Check a_ = some r) : aval X 137 [.d (encArr a_)] [] (CRes.ret (.d (iZ r)) []) := by
 unfold p_arr_Check at h
 refine aval_start (tm := [(0, .d (encArr a_))]) (hp := []) (n := 0) I Tryz.func137 I I I I I I (ra (nid' := 1) I (S_ (rn 1 I ?_)))
 obtain ⟨x, hk, h⟩ := B h
 refine po (ecall (p_arr_check_ok hk) I I I I I I I I I) I I (on 1 I (rz (R_ ?_)))
 cases h
 exact .ret I I
theorem p_core_Literal_l0_ok : ∀ (a : Arr × Int) (res : Except (Bool) (Unit)), p_core_Literal_l0 a = some res → (match a with | (a_, x1) => awpL X 121 (codeAt [1, 1, 0, 1, 0, 0] (bodyOf Tryz.f121)) (cleanAt (X.H 121 4) 1) (exitQ 0 (X.H 121 1000000) 1 (SubQ X Tryz.f121 0 (fun (r : Bool) => (CRes.ret (.d (.bool r)) [])) (fun (_ : Unit) => (⟨[], [(0, [.d (lI a_.shape), .d (lC a_.cells)])], 1, [], none⟩ : St)) res)) ⟨[(1, .c (.ptr 0 0)), (27, .d (lC a_.cells)), (28, .d (iZ (List.length a_.cells : Int))), (29, .d (iZ x1))], [(0, [.d (lI a_.shape), .d (lC a_.cells)])], 1, [], none⟩) := by
 refine p_core_Literal_l0.partial_correctness _ ?_
 rintro p_core_Literal_l0' ih ⟨a_, x1⟩ res h
 refine lg I (ra I (S_ ?_))
 rcases E_ h with ⟨hc, h⟩ | ⟨hc, h⟩
 ·refine ct I hc (K_ (cn I (N_ (S_ ?_))))
  obtain ⟨res, hs, h⟩ := B h
  refine awp_sub Tryz.f121 0 (fun (r : Bool) => (CRes.ret (.d (.bool r)) [])) (fun (_ : Unit) => (⟨[(1, .c (.ptr 0 0)), (27, .d (lC a_.cells)), (28, .d (iZ (List.length a_.cells : Int))), (29, .d (iZ x1))], [(0, [.d (lI a_.shape), .d (lC a_.cells)])], 1, [], none⟩ : St)) (res := res) ?_ (fun y hy => ?_) (fun r x s' hr hx he => ?_)
  ·replace h := hs
   refine W_ (S_ (rn 0 I ?_))
   obtain ⟨y, hk, h⟩ := B h
   refine po (elget encCell (fun _ => I) hk I I I I I) I I (on (nid' := 2) 3 I (rz (S_ (drn (m := 30) 4 I I ?_))))
   rcases E_ h with ⟨hc, h⟩ | ⟨hc, h⟩
   ·refine dgt I I I I hc I (don 24 I (dz (by kernel_rfl) (ct I I (ra I (R_ (C_ (exitQ.ret ?_)))))))
    cases h
    exact .err I (.ret I I)
   refine dgf I I I I hc I (don 4 I ?_)
   obtain ⟨y1, hk, h⟩ := B h
   refine pd (elget encCell (fun _ => I) hk I I I I I) I I I I I (don 5 I ?_)
   rcases E_ h with ⟨hc, h⟩ | ⟨hc, h⟩
   ·refine dgt I I I I hc I (don 14 I (dz (by kernel_rfl) (ct I I (ra I (R_ (C_ (exitQ.ret ?_)))))))
    cases h
    exact .err I (.ret I I)
   refine dgf I I I I hc I (don 4 I ?_)
   rcases E_ h with ⟨hc, h⟩ | ⟨hc, h⟩
   ·refine dgt I I I I hc I (don 4 I ?_)
    rcases E_ h with ⟨hc, h⟩ | ⟨hc, h⟩
    ·refine dgt I I I I hc I (don 6 I (dz (by kernel_rfl) (ct I I (ra I (R_ (C_ (exitQ.ret ?_)))))))
     cases h
     exact .err I (.ret I I)
    refine dgf I I I I hc I (don 6 I (dz (by kernel_rfl) ?_))
    rcases E_ h with ⟨hc, h⟩ | ⟨hc, h⟩
    ·refine ct I hc (ra I (R_ (C_ (exitQ.ret ?_))))
     cases h
     exact .err I (.ret I I)
    refine cf I hc (K_ (cn I (en I ?_)))
    cases h
    exact .ok I
   refine dgf I I I I hc I (don 10 I (dz (by kernel_rfl) (cf I I (K_ (cn I (en I ?_))))))
   cases h
   exact .ok I
  ·subst hy
   refine N_ (rn 2 I (O_ (loopQ.normal ?_)))
   exact awpL_at I I (ih _ _ h)
  subst hr
  refine seqQ.out hx (loopQ.out hx (exitQ.out hx ?_))
  cases h
  exact .err hx he
 refine cf I hc (X_ (condQ.exit (seqQ.exit (loopQ.exit (eh I ?_)))))
 cases h
 exact .ok I
theorem p_core_Literal_l1_ok : ∀ (a : Arr × Int) (res : Except (Bool) (Unit)), p_core_Literal_l1 a = some res → (match a with | (a_, x2) => awpL X 121 (codeAt [1, 1, 0, 1, 0, 0] (bodyOf Tryz.f121)) (cleanAt (X.H 121 4) 1) (exitQ 0 (X.H 121 1000000) 1 (SubQ X Tryz.f121 0 (fun (r : Bool) => (CRes.ret (.d (.bool r)) [])) (fun (_ : Unit) => (⟨[], [(0, [.d (lI a_.shape), .d (lC a_.cells)])], 1, [], none⟩ : St)) res)) ⟨[(1, .c (.ptr 0 0)), (27, .d (lC a_.cells)), (28, .d (iZ (List.length a_.cells : Int))), (29, .d (iZ x2))], [(0, [.d (lI a_.shape), .d (lC a_.cells)])], 1, [], none⟩) := by
 refine p_core_Literal_l1.partial_correctness _ ?_
 rintro p_core_Literal_l1' ih ⟨a_, x2⟩ res h
 refine lg I (ra I (S_ ?_))
 rcases E_ h with ⟨hc, h⟩ | ⟨hc, h⟩
 ·refine ct I hc (K_ (cn I (N_ (S_ ?_))))
  obtain ⟨res, hs, h⟩ := B h
  refine awp_sub Tryz.f121 0 (fun (r : Bool) => (CRes.ret (.d (.bool r)) [])) (fun (_ : Unit) => (⟨[(1, .c (.ptr 0 0)), (27, .d (lC a_.cells)), (28, .d (iZ (List.length a_.cells : Int))), (29, .d (iZ x2))], [(0, [.d (lI a_.shape), .d (lC a_.cells)])], 1, [], none⟩ : St)) (res := res) ?_ (fun y hy => ?_) (fun r x s' hr hx he => ?_)
  ·replace h := hs
   refine W_ (S_ (rn 0 I ?_))
   obtain ⟨y2, hk, h⟩ := B h
   refine po (elget encCell (fun _ => I) hk I I I I I) I I (on (nid' := 2) 3 I (rz (S_ (drn (m := 30) 4 I I ?_))))
   rcases E_ h with ⟨hc, h⟩ | ⟨hc, h⟩
   ·refine dgt I I I I hc I (don 24 I (dz (by kernel_rfl) (ct I I (ra I (R_ (C_ (exitQ.ret ?_)))))))
    cases h
    exact .err I (.ret I I)
   refine dgf I I I I hc I (don 4 I ?_)
   obtain ⟨y3, hk, h⟩ := B h
   refine pd (elget encCell (fun _ => I) hk I I I I I) I I I I I (don 5 I ?_)
   rcases E_ h with ⟨hc, h⟩ | ⟨hc, h⟩
   ·refine dgt I I I I hc I (don 14 I (dz (by kernel_rfl) (ct I I (ra I (R_ (C_ (exitQ.ret ?_)))))))
    cases h
    exact .err I (.ret I I)
   refine dgf I I I I hc I (don 4 I ?_)
   rcases E_ h with ⟨hc, h⟩ | ⟨hc, h⟩
   ·refine dgt I I I I hc I (don 4 I ?_)
    rcases E_ h with ⟨hc, h⟩ | ⟨hc, h⟩
    ·refine dgt I I I I hc I (don 6 I (dz (by kernel_rfl) (ct I I (ra I (R_ (C_ (exitQ.ret ?_)))))))
     cases h
     exact .err I (.ret I I)
    refine dgf I I I I hc I (don 6 I (dz (by kernel_rfl) ?_))
    rcases E_ h with ⟨hc, h⟩ | ⟨hc, h⟩
    ·refine ct I hc (ra I (R_ (C_ (exitQ.ret ?_))))
     cases h
     exact .err I (.ret I I)
    refine cf I hc (K_ (cn I (en I ?_)))
    cases h
    exact .ok I
   refine dgf I I I I hc I (don 10 I (dz (by kernel_rfl) (cf I I (K_ (cn I (en I ?_))))))
   cases h
   exact .ok I
  ·subst hy
   refine N_ (rn 2 I (O_ (loopQ.normal ?_)))
   exact awpL_at I I (ih _ _ h)
  subst hr
  refine seqQ.out hx (loopQ.out hx (exitQ.out hx ?_))
  cases h
  exact .err hx he
 refine cf I hc (X_ (condQ.exit (seqQ.exit (loopQ.exit (eh I ?_)))))
 cases h
 exact .ok I
theorem p_core_Literal_ok {a_ : Arr} {r : Bool} (h : p_core_Literal a_ = some r) : aval X 121 [.d (encArr a_)] [] (CRes.ret (.d (.bool r)) []) := by
 unfold p_core_Literal at h
 refine aval_start (tm := [(0, .d (encArr a_))]) (hp := []) (n := 0) I Tryz.func121 I I I I I I (ra (nid' := 1) I (S_ (S_ (rn 1 I ?_))))
 obtain ⟨x, hk, h⟩ := B h
 refine po (ecall (p_arr_Check_ok hk) I I I I I I I I I) I I (on 2 I ?_)
 rcases E_ h with ⟨hc, h⟩ | ⟨hc, h⟩
 ·refine gt I I I I hc I (on 17 I (rz (ct I I (ra I (R_ (C_ (Q_ ?_)))))))
  cases h
  exact .ret I I
 refine gf I I I I hc I (on 2 I (po (ellen I I I I I I I) I I (on 3 I ?_)))
 rcases E_ h with ⟨hc, h⟩ | ⟨hc, h⟩
 ·refine gt I I I I hc I (on 11 I (rz (ct I I (ra I (R_ (C_ (Q_ ?_)))))))
  cases h
  exact .ret I I
 refine gf I I I I hc I (on 2 I (po (ellen I I I I I I I) I I (on 2 I ?_)))
 rcases E_ h with ⟨hc, h⟩ | ⟨hc, h⟩
 ·refine gt I I I I hc I (on 2 I (po (ellen I I I I I I I) I I (on 3 I (rz ?_))))
  rcases E_ h with ⟨hc, h⟩ | ⟨hc, h⟩
  ·refine ct I hc (ra I (R_ (C_ (Q_ ?_))))
   cases h
   exact .ret I I
  refine cf I hc (K_ (cn I (N_ (S_ (S_ (rn 2 I (po (ellen I I I I I I I) I I (on 1 I (rz ?_)))))))))
  obtain ⟨res, hs, h⟩ := B h
  refine awp_sub Tryz.f121 0 (fun (r : Bool) => (CRes.ret (.d (.bool r)) [])) (fun (_ : Unit) => (⟨[], [(0, [.d (lI a_.shape), .d (lC a_.cells)])], 1, [], none⟩ : St)) (res := res) ?_ (fun y hy => ?_) (fun r x s' hr hx he => ?_)
  ·replace h := hs
   refine W_ (awp_loop ?_)
   exact awpL_at I I (p_core_Literal_l0_ok _ _ h)
  ·subst hy
   refine N_ (ra I (R_ ?_))
   cases h
   exact .ret I I
  subst hr
  refine seqQ.out hx ?_
  cases h
  exact he
 refine gf I I I I hc I (on 6 I (rz (cf I I (K_ (cn I (N_ (S_ (S_ (rn 2 I (po (ellen I I I I I I I) I I (on 1 I (rz ?_))))))))))))
 obtain ⟨res, hs, h⟩ := B h
 refine awp_sub Tryz.f121 0 (fun (r : Bool) => (CRes.ret (.d (.bool r)) [])) (fun (_ : Unit) => (⟨[], [(0, [.d (lI a_.shape), .d (lC a_.cells)])], 1, [], none⟩ : St)) (res := res) ?_ (fun y hy => ?_) (fun r x s' hr hx he => ?_)
 ·replace h := hs
  refine W_ (awp_loop ?_)
  exact awpL_at I I (p_core_Literal_l1_ok _ _ h)
 ·subst hy
  refine N_ (ra I (R_ ?_))
  cases h
  exact .ret I I
 subst hr
 refine seqQ.out hx ?_
 cases h
 exact he
theorem p_runes_put_full_ok {b : (List Int)} {n : Int} {r : (List Int)} (h : p_runes_put_full b n = some r) : aval X 82 [.full 1 (List.map (D.int .u8) b), .d (iZ n)] [] (CRes.ret (.d (.list 1 (List.map (D.int .u8) r))) []) := by
 unfold p_runes_put_full at h
 refine aval_start (tm := [(0, .c (.full 1 (List.map (D.int .u8) b))), (1, .d (iZ n))]) (hp := []) (n := 0) I Tryz.func82 I I I I I I (ra I (S_ (W_ (ra I ?_))))
 rcases E_ h with ⟨hc, h⟩ | ⟨hc, h⟩
 ·refine ct I hc (S_ (rn 4 I ?_))
  obtain ⟨l, hk, h⟩ := B h
  refine po (eappf hk I I I I I I I I I I I I ) I I (on 1 I (rz (R_ (C_ (exitQ.ret (Q_ ?_))))))
  cases h
  exact .ret I I
 refine cf I hc (ra I ?_)
 rcases E_ h with ⟨hc, h⟩ | ⟨hc, h⟩
 ·refine ct I hc (S_ (rn 10 I ?_))
  obtain ⟨l1, hk, h⟩ := B h
  refine po (eappf hk I I I I I I I I I I I I ) I I (on 1 I (rz (R_ (C_ (C_ (exitQ.ret (Q_ ?_)))))))
  cases h
  exact .ret I I
 refine cf I hc (ra I ?_)
 rcases E_ h with ⟨hc, h⟩ | ⟨hc, h⟩
 ·refine ct I hc (S_ (rn 15 I ?_))
  obtain ⟨l2, hk, h⟩ := B h
  refine po (eappf hk I I I I I I I I I I I I ) I I (on 1 I (rz (R_ (C_ (C_ (C_ (exitQ.ret (Q_ ?_))))))))
  cases h
  exact .ret I I
 refine cf I hc (K_ (cn I (cn I (cn I (en I (N_ (S_ (rn 20 I ?_))))))))
 obtain ⟨l3, hk, h⟩ := B h
 refine po (eappf hk I I I I I I I I I I I I ) I I (on 1 I (rz (R_ ?_)))
 cases h
 exact .ret I I
theorem p_runes_Write_l0_ok : ∀ (a : ((List Int)) × (List Int) × Int) (res : Except ((List Int) × Int) ((List Int))), p_runes_Write_l0 a = some res → (match a with | (l, b, x) => awpL X 122 (codeAt [1, 1, 0, 1, 0, 0] (bodyOf Tryz.f122)) (cleanAt (X.H 122 3) 0) (exitQ 0 (X.H 122 1000000) 0 (SubQ X Tryz.f122 0 (fun (r : (List Int) × Int) => (CRes.ret (.tuple [.d (.list 1 (List.map (D.int .u8) r.1)), .d (iZ r.2)]) [])) (fun (b2 : (List Int)) => (⟨[(4, .d (.list 1 (List.map (D.int .u8) b2)))], [], 0, [], none⟩ : St)) res)) ⟨[(4, .d (.list 1 (List.map (D.int .u8) b))), (7, .d (lI l)), (8, .d (iZ (List.length l : Int))), (9, .d (iZ x))], [], 0, [], none⟩) := by
 refine p_runes_Write_l0.partial_correctness _ ?_
 rintro p_runes_Write_l0' ih ⟨l, b, x⟩ res h
 refine lg I (ra I (S_ ?_))
 rcases E_ h with ⟨hc, h⟩ | ⟨hc, h⟩
 ·refine ct I hc (K_ (cn I (N_ (S_ (W_ (S_ (rn 0 I ?_)))))))
  obtain ⟨n, hk, h⟩ := B h
  refine po (elget (D.int .i64) (fun _ => I) hk I I I I I) I I (on 2 I (rz (S_ (S_ (rn 1 I ?_)))))
  obtain ⟨x1, hk, h⟩ := B h
  refine po (ecall (p_runes_Good_ok hk) I I I I I I I I I) I I (on 1 I (rz ?_))
  rcases E_ h with ⟨hc, h⟩ | ⟨hc, h⟩
  ·refine ct I hc (ra I (R_ (C_ (Q_ (exitQ.ret (Q_ (loopQ.ret (exitQ.ret ?_))))))))
   cases h
   exact .err I (.ret I I)
  refine cf I hc (K_ (cn I (N_ (rn 2 I (po (ellen I I I I I I I) I I (on 1 I (po (ellen I I I I I I I) I I ?_)))))))
  obtain ⟨l1, hk, h⟩ := B h
  refine po (elfull hk I I I I I I I) I I (on 1 I ?_)
  obtain ⟨b1, hk, h⟩ := B h
  refine po (ecallk (p_runes_put_full_ok hk) I I I I I I I) I I (on 1 I (O_ (en I (N_ (rn 2 I (O_ (loopQ.normal ?_)))))))
  exact awpL_at I I (ih _ _ h)
 refine cf I hc (X_ (condQ.exit (seqQ.exit (loopQ.exit (eh I ?_)))))
 cases h
 exact .ok I
theorem p_runes_Write_ok {l : (List Int)} {r : (List Int) × Int} (h : p_runes_Write l = some r) : aval X 122 [.d (lI l)] [] (CRes.ret (.tuple [.d (.list 1 (List.map (D.int .u8) r.1)), .d (iZ r.2)]) []) := by
 unfold p_runes_Write at h
 refine aval_start (tm := [(0, .d (lI l))]) (hp := []) (n := 0) I Tryz.func122 I I I I I I (ra I (ra I (S_ (S_ (rn 1 I (po (ellen I I I I I I I) I I (on 1 I (rz ?_))))))))
 obtain ⟨res, hs, h⟩ := B h
 refine awp_sub Tryz.f122 0 (fun (r : (List Int) × Int) => (CRes.ret (.tuple [.d (.list 1 (List.map (D.int .u8) r.1)), .d (iZ r.2)]) [])) (fun (b2 : (List Int)) => (⟨[(4, .d (.list 1 (List.map (D.int .u8) b2)))], [], 0, [], none⟩ : St)) (res := res) ?_ (fun y hy => ?_) (fun r x s' hr hx he => ?_)
 ·replace h := hs
  refine W_ (awp_loop ?_)
  exact awpL_at I I (p_runes_Write_l0_ok _ _ h)
 ·subst hy
  obtain b2 := y
  refine N_ (ra I (R_ ?_))
  cases h
  exact .ret I I
 subst hr
 refine seqQ.out hx ?_
 cases h
 exact he
abbrev Mp_spell_digits (a : Int) (res : Str) : Prop := match a with | n => aval X 118 [.d (.int .u64 n)] [] (CRes.ret (.d (.str res)) [])
theorem p_spell_digits_ih : ∀ a res, p_spell_digits a = some res → Mp_spell_digits a res := by
 refine p_spell_digits.partial_correctness Mp_spell_digits ?_
 rintro p_spell_digits' ih_p_spell_digits n res h
 refine aval_start (tm := [(0, .d (.int .u64 n))]) (hp := []) (n := 0) I Tryz.func118 I I I I I I (ra I (ra I (S_ (ra I ?_))))
 obtain ⟨s1, hs, h⟩ := B h
 refine awp_nrm (fun (s1 : Str) => (⟨[(0, .d (.int .u64 n)), (3, .d (.str s1))], [], 0, [], none⟩ : St)) (y := s1) ?_ ?_
 ·replace h := hs
  rcases E_ h with ⟨hc, h⟩ | ⟨hc, h⟩
  ·refine ct I hc (rn 2 I ?_)
   obtain ⟨s, hk, h⟩ := B h
   refine po (ecall (ih_p_spell_digits _ _ hk) I I I I I I I I I) I I (on 1 I (O_ (cn I ?_)))
   cases h
   exact .ok I
  refine cf I hc (K_ (cn I ?_))
  cases h
  exact .ok I
 refine N_ (S_ (rn 6 I ?_))
 obtain ⟨s2, hk, h⟩ := B h
 refine po (escat hk I I I) I I (on 1 I (rz (R_ ?_)))
 cases h
 exact .ret I I
theorem p_spell_digits_ok {a : Int} {res : Str} (h : p_spell_digits a = some res) : Mp_spell_digits a res := p_spell_digits_ih a res h
theorem p_spell_Number_ok {n : Int} {minus : Str} {r : Str} (h : p_spell_Number n minus = some r) : aval X 99 [.d (iZ n), .d (.str minus)] [] (CRes.ret (.d (.str r)) []) := by
 unfold p_spell_Number at h
 refine aval_start (tm := [(0, .d (iZ n)), (1, .d (.str minus))]) (hp := []) (n := 0) I Tryz.func99 I I I I I I (ra I (S_ (ra I ?_)))
 rcases E_ h with ⟨hc, h⟩ | ⟨hc, h⟩
 ·refine ct I hc (S_ (rn 4 I ?_))
  obtain ⟨x, hk, h⟩ := B h
  refine po (ecall (p_spell_digits_ok hk) I I I I I I I I I) I I ?_
  obtain ⟨s, hk, h⟩ := B h
  refine po (escat hk I I I) I I (on 1 I (rz (R_ (C_ (Q_ ?_)))))
  cases h
  exact .ret I I
 refine cf I hc (K_ (cn I (N_ (S_ (rn 2 I ?_)))))
 obtain ⟨x1, hk, h⟩ := B h
 refine po (ecall (p_spell_digits_ok hk) I I I I I I I I I) I I (on 1 I (rz (R_ ?_)))
 cases h
 exact .ret I I
theorem p_spell_sign_ok {s : Str} {g : Grammar} {r : Str} (h : p_spell_sign s g = some r) : aval X 123 [.d (.str s), .d (encGrammar g)] [] (CRes.ret (.d (.str r)) []) := by
 unfold p_spell_sign at h
 refine aval_start (tm := [(0, .d (.str s)), (1, .d (encGrammar g))]) (hp := []) (n := 0) I Tryz.func123 I I I I I I (ra (nid' := 1) I (S_ ?_))
 obtain ⟨res, hs, h⟩ := B h
 refine awp_sub Tryz.f123 0 (fun (r : Str) => (CRes.ret (.d (.str r)) [])) (fun (_ : Unit) => (⟨[(0, .d (.str s))], [(0, [.d (lS g.verbs), .d (lS g.adverbs), .d (lS g.behind), .d (.str g.outer), .d (.str g.power), .d (.str g.open_), .d (.str g.close), .d (.str g.left), .d (.str g.right), .d (.str g.minus), .d (.str g.quote), .d (.bool g.trains), .d (.bool g.lone), .d (.bool g.square)])], 1, [], none⟩ : St)) (res := res) ?_ (fun y hy => ?_) (fun r x s' hr hx he => ?_)
 ·replace h := hs
  refine W_ (S_ (rn 4 I ?_))
  rcases E_ h with ⟨hc, h⟩ | ⟨hc, h⟩
  ·refine gt I I I I hc I (on 4 I (rz ?_))
   rcases E_ h with ⟨hc, h⟩ | ⟨hc, h⟩
   ·refine ct I hc (ra I (R_ (C_ (exitQ.ret ?_))))
    cases h
    exact .err I (.ret I I)
   refine cf I hc (S_ (rn 4 I ?_))
   rcases E_ h with ⟨hc, h⟩ | ⟨hc, h⟩
   ·refine gt I I I I hc I (on 3 I ?_)
    rcases E_ h with ⟨hc, h⟩ | ⟨hc, h⟩
    ·refine gt I I I I hc I (on 5 I (rz (ct I I (S_ (rn 1 I ?_)))))
     obtain ⟨s1, hk, h⟩ := B h
     refine po (escat hk I I I) I I (on 1 I (rz (R_ (C_ (C_ (exitQ.ret ?_))))))
     cases h
     exact .err I (.ret I I)
    refine gf I I I I hc I (on 5 I (rz ?_))
    rcases E_ h with ⟨hc, h⟩ | ⟨hc, h⟩
    ·refine ct I hc (S_ (rn 1 I ?_))
     obtain ⟨s2, hk, h⟩ := B h
     refine po (escat hk I I I) I I (on 1 I (rz (R_ (C_ (C_ (exitQ.ret ?_))))))
     cases h
     exact .err I (.ret I I)
    refine cf I hc (K_ (cn I (cn I (en I ?_))))
    cases h
    exact .ok I
   refine gf I I I I hc I (on 8 I (rz (cf I I (K_ (cn I (cn I (en I ?_)))))))
   cases h
   exact .ok I
  refine gf I I I I hc I (on 4 I (rz (cf I I (S_ (rn 4 I ?_)))))
  rcases E_ h with ⟨hc, h⟩ | ⟨hc, h⟩
  ·refine gt I I I I hc I (on 3 I ?_)
   rcases E_ h with ⟨hc, h⟩ | ⟨hc, h⟩
   ·refine gt I I I I hc I (on 5 I (rz (ct I I (S_ (rn 1 I ?_)))))
    obtain ⟨s3, hk, h⟩ := B h
    refine po (escat hk I I I) I I (on 1 I (rz (R_ (C_ (C_ (exitQ.ret ?_))))))
    cases h
    exact .err I (.ret I I)
   refine gf I I I I hc I (on 5 I (rz ?_))
   rcases E_ h with ⟨hc, h⟩ | ⟨hc, h⟩
   ·refine ct I hc (S_ (rn 1 I ?_))
    obtain ⟨s4, hk, h⟩ := B h
    refine po (escat hk I I I) I I (on 1 I (rz (R_ (C_ (C_ (exitQ.ret ?_))))))
    cases h
    exact .err I (.ret I I)
   refine cf I hc (K_ (cn I (cn I (en I ?_))))
   cases h
   exact .ok I
  refine gf I I I I hc I (on 8 I (rz (cf I I (K_ (cn I (cn I (en I ?_)))))))
  cases h
  exact .ok I
 ·subst hy
  refine N_ (ra I (R_ ?_))
  cases h
  exact .ret I I
 subst hr
 refine seqQ.out hx ?_
 cases h
 exact he
theorem p_spell_Literal_l0_ok : ∀ (a : Arr × Grammar × (List Str) × Int) (res : (List Str)), p_spell_Literal_l0 a = some res → (match a with | (a_, g, l, x1) => awpL X 102 (codeAt [1, 1, 1, 0, 1, 0, 0, 1, 0, 0] (bodyOf Tryz.f102)) (cleanAt (X.H 102 6) 2) (exitQ 0 (X.H 102 1000000) 2 (NrmQ (fun (l2 : (List Str)) => (⟨[(6, .c (.own 1 (List.map D.str l2)))], [(1, [.d (lS g.verbs), .d (lS g.adverbs), .d (lS g.behind), .d (.str g.outer), .d (.str g.power), .d (.str g.open_), .d (.str g.close), .d (.str g.left), .d (.str g.right), .d (.str g.minus), .d (.str g.quote), .d (.bool g.trains), .d (.bool g.lone), .d (.bool g.square)]), (0, [.d (lI a_.shape), .d (lC a_.cells)])], 2, [], none⟩ : St)) res)) ⟨[(3, .c (.ptr 1 0)), (6, .c (.own 1 (List.map D.str l))), (29, .d (lC a_.cells)), (30, .d (iZ (List.length a_.cells : Int))), (31, .d (iZ x1))], [(1, [.d (lS g.verbs), .d (lS g.adverbs), .d (lS g.behind), .d (.str g.outer), .d (.str g.power), .d (.str g.open_), .d (.str g.close), .d (.str g.left), .d (.str g.right), .d (.str g.minus), .d (.str g.quote), .d (.bool g.trains), .d (.bool g.lone), .d (.bool g.square)]), (0, [.d (lI a_.shape), .d (lC a_.cells)])], 2, [], none⟩) := by
 refine p_spell_Literal_l0.partial_correctness _ ?_
 rintro p_spell_Literal_l0' ih ⟨a_, g, l, x1⟩ res h
 refine lg I (ra I (S_ ?_))
 rcases E_ h with ⟨hc, h⟩ | ⟨hc, h⟩
 ·refine ct I hc (K_ (cn I (N_ (S_ (W_ (S_ (rn 0 I ?_)))))))
  obtain ⟨y1, hk, h⟩ := B h
  refine po (elget encCell (fun _ => I) hk I I I I I) I I (on (nid' := 3) 3 I (rz (rn 5 I ?_)))
  obtain ⟨x2, hk, h⟩ := B h
  refine po (ecall (p_spell_Number_ok hk) I I I I I I I I I) I I (on 1 I ?_)
  obtain ⟨l1, hk, h⟩ := B h
  refine po (eappv hk I I I I I I I I I I I I I ) I I (on 1 I (O_ (en I (N_ (rn 2 I (O_ (loopQ.normal ?_)))))))
  exact awpL_at I I (ih _ _ h)
 refine cf I hc (X_ (condQ.exit (seqQ.exit (loopQ.exit (eh I ?_)))))
 cases h
 exact .ok I
theorem p_spell_Literal_l1_ok : ∀ (a : Arr × Grammar × (List Str) × Int) (res : (List Str)), p_spell_Literal_l1 a = some res → (match a with | (a_, g, l3, x4) => awpL X 102 (codeAt [1, 1, 1, 1, 0, 1, 0, 0] (bodyOf Tryz.f102)) (cleanAt (X.H 102 12) 2) (exitQ 2 (X.H 102 1000002) 2 (NrmQ (fun (l5 : (List Str)) => (⟨[(3, .c (.ptr 1 0)), (6, .c (.own 1 (List.map D.str l5)))], [(1, [.d (lS g.verbs), .d (lS g.adverbs), .d (lS g.behind), .d (.str g.outer), .d (.str g.power), .d (.str g.open_), .d (.str g.close), .d (.str g.left), .d (.str g.right), .d (.str g.minus), .d (.str g.quote), .d (.bool g.trains), .d (.bool g.lone), .d (.bool g.square)]), (0, [.d (lI a_.shape), .d (lC a_.cells)])], 2, [], none⟩ : St)) res)) ⟨[(3, .c (.ptr 1 0)), (6, .c (.own 1 (List.map D.str l3))), (47, .d (lC a_.cells)), (48, .d (iZ (List.length a_.cells : Int))), (49, .d (iZ x4))], [(1, [.d (lS g.verbs), .d (lS g.adverbs), .d (lS g.behind), .d (.str g.outer), .d (.str g.power), .d (.str g.open_), .d (.str g.close), .d (.str g.left), .d (.str g.right), .d (.str g.minus), .d (.str g.quote), .d (.bool g.trains), .d (.bool g.lone), .d (.bool g.square)]), (0, [.d (lI a_.shape), .d (lC a_.cells)])], 2, [], none⟩) := by
 refine p_spell_Literal_l1.partial_correctness _ ?_
 rintro p_spell_Literal_l1' ih ⟨a_, g, l3, x4⟩ res h
 refine lg I (ra I (S_ ?_))
 rcases E_ h with ⟨hc, h⟩ | ⟨hc, h⟩
 ·refine ct I hc (K_ (cn I (N_ (S_ (W_ (S_ (rn 0 I ?_)))))))
  obtain ⟨y2, hk, h⟩ := B h
  refine po (elget encCell (fun _ => I) hk I I I I I) I I (on (nid' := 3) 3 I (rz (S_ (rn 3 I ?_))))
  obtain ⟨⟨b, x5⟩, hk, h⟩ := B h
  refine po (ecall (p_runes_Write_ok hk) I I I I I I I I I) I I (on 5 I (rz (rn 2 I (po (ebstr I I I I I I) I I (on 1 I ?_)))))
  obtain ⟨x6, hk, h⟩ := B h
  refine po (ecall (p_spell_sign_ok hk) I I I I I I I I I) I I (on 1 I ?_)
  obtain ⟨l4, hk, h⟩ := B h
  refine po (eappv hk I I I I I I I I I I I I I ) I I (on 1 I (O_ (en I (N_ (rn 2 I (O_ (loopQ.normal ?_)))))))
  exact awpL_at I I (ih _ _ h)
 refine cf I hc (X_ (condQ.exit (seqQ.exit (loopQ.exit (eh I ?_)))))
 cases h
 exact .ok I
theorem p_spell_Literal_l2_ok : ∀ (a : Arr × Grammar × (List Str) × Int) (res : (List Str)), p_spell_Literal_l2 a = some res → (match a with | (a_, g, l6, x8) => awpL X 102 (codeAt [1, 1, 1, 1, 0, 1, 0, 0] (bodyOf Tryz.f102)) (cleanAt (X.H 102 12) 2) (exitQ 2 (X.H 102 1000002) 2 (NrmQ (fun (l8 : (List Str)) => (⟨[(3, .c (.ptr 1 0)), (6, .c (.own 1 (List.map D.str l8)))], [(1, [.d (lS g.verbs), .d (lS g.adverbs), .d (lS g.behind), .d (.str g.outer), .d (.str g.power), .d (.str g.open_), .d (.str g.close), .d (.str g.left), .d (.str g.right), .d (.str g.minus), .d (.str g.quote), .d (.bool g.trains), .d (.bool g.lone), .d (.bool g.square)]), (0, [.d (lI a_.shape), .d (lC a_.cells)])], 2, [], none⟩ : St)) res)) ⟨[(3, .c (.ptr 1 0)), (6, .c (.own 1 (List.map D.str l6))), (47, .d (lC a_.cells)), (48, .d (iZ (List.length a_.cells : Int))), (49, .d (iZ x8))], [(1, [.d (lS g.verbs), .d (lS g.adverbs), .d (lS g.behind), .d (.str g.outer), .d (.str g.power), .d (.str g.open_), .d (.str g.close), .d (.str g.left), .d (.str g.right), .d (.str g.minus), .d (.str g.quote), .d (.bool g.trains), .d (.bool g.lone), .d (.bool g.square)]), (0, [.d (lI a_.shape), .d (lC a_.cells)])], 2, [], none⟩) := by
 refine p_spell_Literal_l2.partial_correctness _ ?_
 rintro p_spell_Literal_l2' ih ⟨a_, g, l6, x8⟩ res h
 refine lg I (ra I (S_ ?_))
 rcases E_ h with ⟨hc, h⟩ | ⟨hc, h⟩
 ·refine ct I hc (K_ (cn I (N_ (S_ (W_ (S_ (rn 0 I ?_)))))))
  obtain ⟨y3, hk, h⟩ := B h
  refine po (elget encCell (fun _ => I) hk I I I I I) I I (on (nid' := 3) 3 I (rz (S_ (rn 3 I ?_))))
  obtain ⟨⟨b1, x9⟩, hk, h⟩ := B h
  refine po (ecall (p_runes_Write_ok hk) I I I I I I I I I) I I (on 5 I (rz (rn 2 I (po (ebstr I I I I I I) I I (on 1 I ?_)))))
  obtain ⟨x10, hk, h⟩ := B h
  refine po (ecall (p_spell_sign_ok hk) I I I I I I I I I) I I (on 1 I ?_)
  obtain ⟨l7, hk, h⟩ := B h
  refine po (eappv hk I I I I I I I I I I I I I ) I I (on 1 I (O_ (en I (N_ (rn 2 I (O_ (loopQ.normal ?_)))))))
  exact awpL_at I I (ih _ _ h)
 refine cf I hc (X_ (condQ.exit (seqQ.exit (loopQ.exit (eh I ?_)))))
 cases h
 exact .ok I
theorem p_spell_Literal_ok {a_ : Arr} {g : Grammar} {r : Str × Int} (h : p_spell_Literal a_ g = some r) : aval X 102 [.d (encArr a_), .d (encGrammar g)] [] (CRes.ret (.tuple [.d (.str r.1), .d (iZ r.2)]) []) := by
 unfold p_spell_Literal at h
 refine aval_start (tm := [(0, .d (encArr a_)), (1, .d (encGrammar g))]) (hp := []) (n := 0) I Tryz.func102 I I I I I I (ra (nid' := 2) I (S_ (S_ (rn 1 I ?_))))
 obtain ⟨x, hk, h⟩ := B h
 refine po (ecall (p_core_Literal_ok hk) I I I I I I I I I) I I (on 1 I (rz ?_))
 rcases E_ h with ⟨hc, h⟩ | ⟨hc, h⟩
 ·refine ct I hc (ra I (R_ (C_ (Q_ ?_))))
  cases h
  exact .ret I I
 refine cf I hc (K_ (cn I (N_ (ra I (S_ (S_ (rn 2 I (po (ellen I I I I I I I) I I (on 2 I ?_)))))))))
 rcases E_ h with ⟨hc, h⟩ | ⟨hc, h⟩
 ·refine gt I I I I hc I (on 2 I ?_)
  obtain ⟨y, hk, h⟩ := B h
  refine po (elget encCell (fun _ => I) hk I I I I I) I I (on 4 I (rz ?_))
  rcases E_ h with ⟨hc, h⟩ | ⟨hc, h⟩
  ·refine ct I hc (S_ (S_ (rn 2 I (po (ellen I I I I I I I) I I (on 1 I (rz ?_))))))
   obtain ⟨l2, hs, h⟩ := B h
   refine awp_nrm (fun (l2 : (List Str)) => (⟨[(6, .c (.own 1 (List.map D.str l2)))], [(1, [.d (lS g.verbs), .d (lS g.adverbs), .d (lS g.behind), .d (.str g.outer), .d (.str g.power), .d (.str g.open_), .d (.str g.close), .d (.str g.left), .d (.str g.right), .d (.str g.minus), .d (.str g.quote), .d (.bool g.trains), .d (.bool g.lone), .d (.bool g.square)]), (0, [.d (lI a_.shape), .d (lC a_.cells)])], 2, [], none⟩ : St)) (y := l2) ?_ ?_
   ·replace h := hs
    refine W_ (awp_loop ?_)
    exact awpL_at I I (p_spell_Literal_l0_ok _ _ h)
   refine N_ (S_ (rn 1 I ?_))
   obtain ⟨x3, hk, h⟩ := B h
   refine po (ecall (go_Join_ok hk) I I I I I I I I I) I I (on 2 I (rz (R_ (C_ (Q_ ?_)))))
   cases h
   exact .ret I I
  refine cf I hc (K_ (cn I (N_ (S_ (S_ (rn 2 I (po (ellen I I I I I I I) I I (on 1 I (rz ?_)))))))))
  obtain ⟨l5, hs, h⟩ := B h
  refine awp_nrm (fun (l5 : (List Str)) => (⟨[(3, .c (.ptr 1 0)), (6, .c (.own 1 (List.map D.str l5)))], [(1, [.d (lS g.verbs), .d (lS g.adverbs), .d (lS g.behind), .d (.str g.outer), .d (.str g.power), .d (.str g.open_), .d (.str g.close), .d (.str g.left), .d (.str g.right), .d (.str g.minus), .d (.str g.quote), .d (.bool g.trains), .d (.bool g.lone), .d (.bool g.square)]), (0, [.d (lI a_.shape), .d (lC a_.cells)])], 2, [], none⟩ : St)) (y := l5) ?_ ?_
  ·replace h := hs
   refine W_ (awp_loop ?_)
   exact awpL_at I I (p_spell_Literal_l1_ok _ _ h)
  refine N_ (S_ (drn (m := 12) 3 I I ?_))
  obtain ⟨x7, hk, h⟩ := B h
  refine pd (ecall (go_Join_ok hk) I I I I I I I I I) I I I I I ?_
  obtain ⟨s, hk, h⟩ := B h
  refine pd (escat hk I I I) I I I I I (don 2 I ?_)
  obtain ⟨s1, hk, h⟩ := B h
  refine pd (escat hk I I I) I I I I I (don 2 I (dz (by kernel_rfl) (R_ ?_)))
  cases h
  exact .ret I I
 refine gf I I I I hc I (on 7 I (rz (cf I I (K_ (cn I (N_ (S_ (S_ (rn 2 I (po (ellen I I I I I I I) I I (on 1 I (rz ?_))))))))))))
 obtain ⟨l8, hs, h⟩ := B h
 refine awp_nrm (fun (l8 : (List Str)) => (⟨[(3, .c (.ptr 1 0)), (6, .c (.own 1 (List.map D.str l8)))], [(1, [.d (lS g.verbs), .d (lS g.adverbs), .d (lS g.behind), .d (.str g.outer), .d (.str g.power), .d (.str g.open_), .d (.str g.close), .d (.str g.left), .d (.str g.right), .d (.str g.minus), .d (.str g.quote), .d (.bool g.trains), .d (.bool g.lone), .d (.bool g.square)]), (0, [.d (lI a_.shape), .d (lC a_.cells)])], 2, [], none⟩ : St)) (y := l8) ?_ ?_
 ·replace h := hs
  refine W_ (awp_loop ?_)
  exact awpL_at I I (p_spell_Literal_l2_ok _ _ h)
 refine N_ (S_ (drn (m := 12) 3 I I ?_))
 obtain ⟨x11, hk, h⟩ := B h
 refine pd (ecall (go_Join_ok hk) I I I I I I I I I) I I I I I ?_
 obtain ⟨s2, hk, h⟩ := B h
 refine pd (escat hk I I I) I I I I I (don 2 I ?_)
 obtain ⟨s3, hk, h⟩ := B h
 refine pd (escat hk I I I) I I I I I (don 2 I (dz (by kernel_rfl) (R_ ?_)))
 cases h
 exact .ret I I
theorem p_spell_writer_fits_ok {n : Node} {kids : Int} {w : Spell_writer} {r : Bool × Int × Bool} (h : p_spell_writer_fits n kids w = some r) : aval X 61 [.ptr 0 0, .d (encNode n), .d (iZ kids)] [[.d (lS w.g.verbs), .d (lS w.g.adverbs), .d (lS w.g.behind), .d (.str w.g.outer), .d (.str w.g.power), .d (.str w.g.open_), .d (.str w.g.close), .d (.str w.g.left), .d (.str w.g.right), .d (.str w.g.minus), .d (.str w.g.quote), .d (.bool w.g.trains), .d (.bool w.g.lone), .d (.bool w.g.square), oS w.out, .d (.str w.right), .d (iZ w.nodes), .d (.bool w.bad)]] (CRes.ret (.d (.bool r.1)) [[.d (lS w.g.verbs), .d (lS w.g.adverbs), .d (lS w.g.behind), .d (.str w.g.outer), .d (.str w.g.power), .d (.str w.g.open_), .d (.str w.g.close), .d (.str w.g.left), .d (.str w.g.right), .d (.str w.g.minus), .d (.str w.g.quote), .d (.bool w.g.trains), .d (.bool w.g.lone), .d (.bool w.g.square), oS w.out, .d (.str w.right), .d (iZ r.2.1), .d (.bool r.2.2)]]) := by
 unfold p_spell_writer_fits at h
 refine aval_start (tm := [(0, .c (.ptr 0 0)), (1, .d (encNode n)), (2, .d (iZ kids))]) (hp := [(0, [.d (lS w.g.verbs), .d (lS w.g.adverbs), .d (lS w.g.behind), .d (.str w.g.outer), .d (.str w.g.power), .d (.str w.g.open_), .d (.str w.g.close), .d (.str w.g.left), .d (.str w.g.right), .d (.str w.g.minus), .d (.str w.g.quote), .d (.bool w.g.trains), .d (.bool w.g.lone), .d (.bool w.g.square), oS w.out, .d (.str w.right), .d (iZ w.nodes), .d (.bool w.bad)])]) (n := 1) I Tryz.func61 I I I I I I (ra (nid' := 2) I (ra I (S_ (rn 6 I ?_))))
 rcases E_ h with ⟨hc, h⟩ | ⟨hc, h⟩
 ·refine gt I I I I hc I (on 16 I (rz (ra I (R_ ?_))))
  cases h
  exact .ret I I
 refine gf I I I I hc I (on 7 I ?_)
 rcases E_ h with ⟨hc, h⟩ | ⟨hc, h⟩
 ·refine gt I I I I hc I (on 9 I (rz (ra I (R_ ?_))))
  cases h
  exact .ret I I
 refine gf I I I I hc I (on 2 I (po (ellen I I I I I I I) I I (on 6 I (rz (ra I (R_ ?_))))))
 cases h
 exact .ret I I
theorem p_spell_writer_glue_ok {l : (List Str)} {w : Spell_writer} {r : (List Str)} (h : p_spell_writer_glue l w = some r) : aval X 101 [.ptr 0 0, .d (lS l)] [[.d (lS w.g.verbs), .d (lS w.g.adverbs), .d (lS w.g.behind), .d (.str w.g.outer), .d (.str w.g.power), .d (.str w.g.open_), .d (.str w.g.close), .d (.str w.g.left), .d (.str w.g.right), .d (.str w.g.minus), .d (.str w.g.quote), .d (.bool w.g.trains), .d (.bool w.g.lone), .d (.bool w.g.square), oS w.out, .d (.str w.right), .d (iZ w.nodes), .d (.bool w.bad)]] (CRes.ret (.tuple []) [[.d (lS w.g.verbs), .d (lS w.g.adverbs), .d (lS w.g.behind), .d (.str w.g.outer), .d (.str w.g.power), .d (.str w.g.open_), .d (.str w.g.close), .d (.str w.g.left), .d (.str w.g.right), .d (.str w.g.minus), .d (.str w.g.quote), .d (.bool w.g.trains), .d (.bool w.g.lone), .d (.bool w.g.square), oS r, .d (.str w.right), .d (iZ w.nodes), .d (.bool w.bad)]]) := by
 unfold p_spell_writer_glue at h
 refine aval_start (tm := [(0, .c (.ptr 0 0)), (1, .d (lS l))]) (hp := [(0, [.d (lS w.g.verbs), .d (lS w.g.adverbs), .d (lS w.g.behind), .d (.str w.g.outer), .d (.str w.g.power), .d (.str w.g.open_), .d (.str w.g.close), .d (.str w.g.left), .d (.str w.g.right), .d (.str w.g.minus), .d (.str w.g.quote), .d (.bool w.g.trains), .d (.bool w.g.lone), .d (.bool w.g.square), oS w.out, .d (.str w.right), .d (iZ w.nodes), .d (.bool w.bad)])]) (n := 1) I Tryz.func101 I I I I I I (rn 6 I ?_)
 obtain ⟨l1, hk, h⟩ := B h
 refine po (eappc hk I I I I I I I I I I I I I I ) I I (on 3 I (O_ ?_))
 cases h
 exact .normal I I
theorem p_spell_writer_words_l0_ok (w : Spell_writer) : ∀ (a : ((List Str)) × Int × (List Str)) (res : (List Str)), p_spell_writer_words_l0 a = some res → (match a with | (l, x, w14) => awpL X 98 (codeAt [1, 0, 0] (bodyOf Tryz.f98)) (cleanAt (X.H 98 1) 1) (exitQ 0 (X.H 98 1000000) 1 (NrmQ (fun (c14 : (List Str)) => (⟨[], [(0, [.d (lS w.g.verbs), .d (lS w.g.adverbs), .d (lS w.g.behind), .d (.str w.g.outer), .d (.str w.g.power), .d (.str w.g.open_), .d (.str w.g.close), .d (.str w.g.left), .d (.str w.g.right), .d (.str w.g.minus), .d (.str w.g.quote), .d (.bool w.g.trains), .d (.bool w.g.lone), .d (.bool w.g.square), oS c14, .d (.str w.right), .d (iZ w.nodes), .d (.bool w.bad)])], 1, [], none⟩ : St)) res)) ⟨[(0, .c (.ptr 0 0)), (6, .d (lS l)), (7, .d (iZ (List.length l : Int))), (8, .d (iZ x))], [(0, [.d (lS w.g.verbs), .d (lS w.g.adverbs), .d (lS w.g.behind), .d (.str w.g.outer), .d (.str w.g.power), .d (.str w.g.open_), .d (.str w.g.close), .d (.str w.g.left), .d (.str w.g.right), .d (.str w.g.minus), .d (.str w.g.quote), .d (.bool w.g.trains), .d (.bool w.g.lone), .d (.bool w.g.square), oS w14, .d (.str w.right), .d (iZ w.nodes), .d (.bool w.bad)])], 1, [], none⟩) := by
 refine p_spell_writer_words_l0.partial_correctness _ ?_
 rintro p_spell_writer_words_l0' ih ⟨l, x, w14⟩ res h
 refine lg I (ra I (S_ ?_))
 rcases E_ h with ⟨hc, h⟩ | ⟨hc, h⟩
 ·refine ct I hc (K_ (cn I (N_ (S_ (W_ (S_ (rn 0 I ?_)))))))
  obtain ⟨s, hk, h⟩ := B h
  refine po (elget D.str (fun _ => I) hk I I I I I) I I (on 2 I (rz (S_ (S_ (rn 4 I (po (ellen I I I I I I I) I I (on 1 I (rz ?_))))))))
  obtain ⟨x14, hs, h⟩ := B h
  refine awp_nrm (fun (x14 : (List Str)) => (⟨[(0, .c (.ptr 0 0)), (5, .d (.str s)), (6, .d (lS l)), (7, .d (iZ (List.length l : Int))), (8, .d (iZ x))], [(0, [.d (lS w.g.verbs), .d (lS w.g.adverbs), .d (lS w.g.behind), .d (.str w.g.outer), .d (.str w.g.power), .d (.str w.g.open_), .d (.str w.g.close), .d (.str w.g.left), .d (.str w.g.right), .d (.str w.g.minus), .d (.str w.g.quote), .d (.bool w.g.trains), .d (.bool w.g.lone), .d (.bool w.g.square), oS x14, .d (.str w.right), .d (iZ w.nodes), .d (.bool w.bad)])], 1, [], none⟩ : St)) (y := x14) ?_ ?_
  ·replace h := hs
   rcases E_ h with ⟨hc, h⟩ | ⟨hc, h⟩
   ·refine ct I hc (rn 6 I ?_)
    obtain ⟨l1, hk, h⟩ := B h
    refine po (eappc hk I I I I I I I I I I I I I I ) I I (on 3 I (O_ (cn I ?_)))
    cases h
    exact .ok I
   refine cf I hc (K_ (cn I ?_))
   cases h
   exact .ok I
  refine N_ (rn 7 I ?_)
  obtain ⟨l2, hk, h⟩ := B h
  refine po (eappc hk I I I I I I I I I I I I I I ) I I (on 3 I (O_ (en I (N_ (rn 2 I (O_ (loopQ.normal ?_)))))))
  exact awpL_at I I (ih _ _ h)
 refine cf I hc (X_ (condQ.exit (seqQ.exit (loopQ.exit (eh I ?_)))))
 cases h
 exact .ok I
theorem p_spell_writer_words_ok {l : (List Str)} {w : Spell_writer} {r : (List Str)} (h : p_spell_writer_words l w = some r) : aval X 98 [.ptr 0 0, .d (lS l)] [[.d (lS w.g.verbs), .d (lS w.g.adverbs), .d (lS w.g.behind), .d (.str w.g.outer), .d (.str w.g.power), .d (.str w.g.open_), .d (.str w.g.close), .d (.str w.g.left), .d (.str w.g.right), .d (.str w.g.minus), .d (.str w.g.quote), .d (.bool w.g.trains), .d (.bool w.g.lone), .d (.bool w.g.square), oS w.out, .d (.str w.right), .d (iZ w.nodes), .d (.bool w.bad)]] (CRes.ret (.tuple []) [[.d (lS w.g.verbs), .d (lS w.g.adverbs), .d (lS w.g.behind), .d (.str w.g.outer), .d (.str w.g.power), .d (.str w.g.open_), .d (.str w.g.close), .d (.str w.g.left), .d (.str w.g.right), .d (.str w.g.minus), .d (.str w.g.quote), .d (.bool w.g.trains), .d (.bool w.g.lone), .d (.bool w.g.square), oS r, .d (.str w.right), .d (iZ w.nodes), .d (.bool w.bad)]]) := by
 unfold p_spell_writer_words at h
 refine aval_start (tm := [(0, .c (.ptr 0 0)), (1, .d (lS l))]) (hp := [(0, [.d (lS w.g.verbs), .d (lS w.g.adverbs), .d (lS w.g.behind), .d (.str w.g.outer), .d (.str w.g.power), .d (.str w.g.open_), .d (.str w.g.close), .d (.str w.g.left), .d (.str w.g.right), .d (.str w.g.minus), .d (.str w.g.quote), .d (.bool w.g.trains), .d (.bool w.g.lone), .d (.bool w.g.square), oS w.out, .d (.str w.right), .d (iZ w.nodes), .d (.bool w.bad)])]) (n := 1) I Tryz.func98 I I I I I I (S_ (rn 1 I (po (ellen I I I I I I I) I I (on 1 I (rz ?_)))))
 obtain ⟨c14, hs, h⟩ := B h
 refine awp_nrm (fun (c14 : (List Str)) => (⟨[], [(0, [.d (lS w.g.verbs), .d (lS w.g.adverbs), .d (lS w.g.behind), .d (.str w.g.outer), .d (.str w.g.power), .d (.str w.g.open_), .d (.str w.g.close), .d (.str w.g.left), .d (.str w.g.right), .d (.str w.g.minus), .d (.str w.g.quote), .d (.bool w.g.trains), .d (.bool w.g.lone), .d (.bool w.g.square), oS c14, .d (.str w.right), .d (iZ w.nodes), .d (.bool w.bad)])], 1, [], none⟩ : St)) (y := c14) ?_ ?_
 ·replace h := hs
  refine W_ (awp_loop ?_)
  exact awpL_at I I (p_spell_writer_words_l0_ok w _ _ h)
 cases h
 exact .normal I I
abbrev Mp_spell_writer_expr (a : Node × Spell_writer) (res : (List Str) × Int × Bool) : Prop := match a with | (n, w) => aval X 35 [.ptr 0 0, .d (encNode n)] [[.d (lS w.g.verbs), .d (lS w.g.adverbs), .d (lS w.g.behind), .d (.str w.g.outer), .d (.str w.g.power), .d (.str w.g.open_), .d (.str w.g.close), .d (.str w.g.left), .d (.str w.g.right), .d (.str w.g.minus), .d (.str w.g.quote), .d (.bool w.g.trains), .d (.bool w.g.lone), .d (.bool w.g.square), oS w.out, .d (.str w.right), .d (iZ w.nodes), .d (.bool w.bad)]] (CRes.ret (.tuple []) [[.d (lS w.g.verbs), .d (lS w.g.adverbs), .d (lS w.g.behind), .d (.str w.g.outer), .d (.str w.g.power), .d (.str w.g.open_), .d (.str w.g.close), .d (.str w.g.left), .d (.str w.g.right), .d (.str w.g.minus), .d (.str w.g.quote), .d (.bool w.g.trains), .d (.bool w.g.lone), .d (.bool w.g.square), oS res.1, .d (.str w.right), .d (iZ res.2.1), .d (.bool res.2.2)]])
abbrev Mp_spell_writer_call (a : Node × Spell_writer) (res : (List Str) × Int × Bool) : Prop := match a with | (f, w) => aval X 62 [.ptr 0 0, .d (encNode f)] [[.d (lS w.g.verbs), .d (lS w.g.adverbs), .d (lS w.g.behind), .d (.str w.g.outer), .d (.str w.g.power), .d (.str w.g.open_), .d (.str w.g.close), .d (.str w.g.left), .d (.str w.g.right), .d (.str w.g.minus), .d (.str w.g.quote), .d (.bool w.g.trains), .d (.bool w.g.lone), .d (.bool w.g.square), oS w.out, .d (.str w.right), .d (iZ w.nodes), .d (.bool w.bad)]] (CRes.ret (.tuple []) [[.d (lS w.g.verbs), .d (lS w.g.adverbs), .d (lS w.g.behind), .d (.str w.g.outer), .d (.str w.g.power), .d (.str w.g.open_), .d (.str w.g.close), .d (.str w.g.left), .d (.str w.g.right), .d (.str w.g.minus), .d (.str w.g.quote), .d (.bool w.g.trains), .d (.bool w.g.lone), .d (.bool w.g.square), oS res.1, .d (.str w.right), .d (iZ res.2.1), .d (.bool res.2.2)]])
abbrev Mp_spell_writer_operand (a : Node × Spell_writer) (res : (List Str) × Int × Bool) : Prop := match a with | (n, w) => aval X 63 [.ptr 0 0, .d (encNode n)] [[.d (lS w.g.verbs), .d (lS w.g.adverbs), .d (lS w.g.behind), .d (.str w.g.outer), .d (.str w.g.power), .d (.str w.g.open_), .d (.str w.g.close), .d (.str w.g.left), .d (.str w.g.right), .d (.str w.g.minus), .d (.str w.g.quote), .d (.bool w.g.trains), .d (.bool w.g.lone), .d (.bool w.g.square), oS w.out, .d (.str w.right), .d (iZ w.nodes), .d (.bool w.bad)]] (CRes.ret (.tuple []) [[.d (lS w.g.verbs), .d (lS w.g.adverbs), .d (lS w.g.behind), .d (.str w.g.outer), .d (.str w.g.power), .d (.str w.g.open_), .d (.str w.g.close), .d (.str w.g.left), .d (.str w.g.right), .d (.str w.g.minus), .d (.str w.g.quote), .d (.bool w.g.trains), .d (.bool w.g.lone), .d (.bool w.g.square), oS res.1, .d (.str w.right), .d (iZ res.2.1), .d (.bool res.2.2)]])
abbrev Mp_spell_writer_applied (a : Node × Spell_writer) (res : (List Str) × Int × Bool) : Prop := match a with | (f, w) => aval X 64 [.ptr 0 0, .d (encNode f)] [[.d (lS w.g.verbs), .d (lS w.g.adverbs), .d (lS w.g.behind), .d (.str w.g.outer), .d (.str w.g.power), .d (.str w.g.open_), .d (.str w.g.close), .d (.str w.g.left), .d (.str w.g.right), .d (.str w.g.minus), .d (.str w.g.quote), .d (.bool w.g.trains), .d (.bool w.g.lone), .d (.bool w.g.square), oS w.out, .d (.str w.right), .d (iZ w.nodes), .d (.bool w.bad)]] (CRes.ret (.tuple []) [[.d (lS w.g.verbs), .d (lS w.g.adverbs), .d (lS w.g.behind), .d (.str w.g.outer), .d (.str w.g.power), .d (.str w.g.open_), .d (.str w.g.close), .d (.str w.g.left), .d (.str w.g.right), .d (.str w.g.minus), .d (.str w.g.quote), .d (.bool w.g.trains), .d (.bool w.g.lone), .d (.bool w.g.square), oS res.1, .d (.str w.right), .d (iZ res.2.1), .d (.bool res.2.2)]])
abbrev Mp_spell_writer_function_l0 (a : Node × Spell_writer × Int × (List Str) × Int × Bool) (res : (List Str) × Int × Bool) : Prop := match a with | (f, w, x5, w14, w16, w17) => awpL X 100 (codeAt [1, 1, 1, 1, 0, 1, 1, 1, 1, 1, 1, 1, 1, 1, 1, 1, 0, 1, 0, 1, 0, 0] (bodyOf Tryz.f100)) (cleanAt (X.H 100 24) 3) (exitQ 1 (X.H 100 1000001) 3 (NrmQ (fun ((w141, w161, w171) : (List Str) × Int × Bool) => (⟨[(0, .c (.ptr 0 0))], [(2, [.ment (List.map (encI .i64 (D.int .i64)) [(22, 1), (23, 1), (24, 1), (25, 1), (26, 1), (27, 3), (28, 2)])]), (1, [.d (iZ f.kind), .d (iZ f.op_), .d (.str f.name), .d (lI f.lit.shape), .d (lC f.lit.cells), .d (lN f.kids), .d (iZ f.at_)]), (0, [.d (lS w.g.verbs), .d (lS w.g.adverbs), .d (lS w.g.behind), .d (.str w.g.outer), .d (.str w.g.power), .d (.str w.g.open_), .d (.str w.g.close), .d (.str w.g.left), .d (.str w.g.right), .d (.str w.g.minus), .d (.str w.g.quote), .d (.bool w.g.trains), .d (.bool w.g.lone), .d (.bool w.g.square), oS w141, .d (.str w.right), .d (iZ w161), .d (.bool w171)])], 3, [], none⟩ : St)) res)) ⟨[(0, .c (.ptr 0 0)), (107, .d (lN f.kids)), (108, .d (iZ (List.length f.kids : Int))), (109, .d (iZ x5))], [(2, [.ment (List.map (encI .i64 (D.int .i64)) [(22, 1), (23, 1), (24, 1), (25, 1), (26, 1), (27, 3), (28, 2)])]), (1, [.d (iZ f.kind), .d (iZ f.op_), .d (.str f.name), .d (lI f.lit.shape), .d (lC f.lit.cells), .d (lN f.kids), .d (iZ f.at_)]), (0, [.d (lS w.g.verbs), .d (lS w.g.adverbs), .d (lS w.g.behind), .d (.str w.g.outer), .d (.str w.g.power), .d (.str w.g.open_), .d (.str w.g.close), .d (.str w.g.left), .d (.str w.g.right), .d (.str w.g.minus), .d (.str w.g.quote), .d (.bool w.g.trains), .d (.bool w.g.lone), .d (.bool w.g.square), oS w14, .d (.str w.right), .d (iZ w16), .d (.bool w17)])], 3, [], none⟩
abbrev Mp_spell_writer_function (a : Node × Spell_writer) (res : (List Str) × Int × Bool) : Prop := match a with | (f, w) => aval X 100 [.ptr 0 0, .d (encNode f)] [[.d (lS w.g.verbs), .d (lS w.g.adverbs), .d (lS w.g.behind), .d (.str w.g.outer), .d (.str w.g.power), .d (.str w.g.open_), .d (.str w.g.close), .d (.str w.g.left), .d (.str w.g.right), .d (.str w.g.minus), .d (.str w.g.quote), .d (.bool w.g.trains), .d (.bool w.g.lone), .d (.bool w.g.square), oS w.out, .d (.str w.right), .d (iZ w.nodes), .d (.bool w.bad)]] (CRes.ret (.tuple []) [[.d (lS w.g.verbs), .d (lS w.g.adverbs), .d (lS w.g.behind), .d (.str w.g.outer), .d (.str w.g.power), .d (.str w.g.open_), .d (.str w.g.close), .d (.str w.g.left), .d (.str w.g.right), .d (.str w.g.minus), .d (.str w.g.quote), .d (.bool w.g.trains), .d (.bool w.g.lone), .d (.bool w.g.square), oS res.1, .d (.str w.right), .d (iZ res.2.1), .d (.bool res.2.2)]])
abbrev Mp_spell_writer_lambda (a : Node × Spell_writer) (res : (List Str) × Int × Bool) : Prop := match a with | (n, w) => aval X 119 [.ptr 0 0, .d (encNode n)] [[.d (lS w.g.verbs), .d (lS w.g.adverbs), .d (lS w.g.behind), .d (.str w.g.outer), .d (.str w.g.power), .d (.str w.g.open_), .d (.str w.g.close), .d (.str w.g.left), .d (.str w.g.right), .d (.str w.g.minus), .d (.str w.g.quote), .d (.bool w.g.trains), .d (.bool w.g.lone), .d (.bool w.g.square), oS w.out, .d (.str w.right), .d (iZ w.nodes), .d (.bool w.bad)]] (CRes.ret (.tuple []) [[.d (lS w.g.verbs), .d (lS w.g.adverbs), .d (lS w.g.behind), .d (.str w.g.outer), .d (.str w.g.power), .d (.str w.g.open_), .d (.str w.g.close), .d (.str w.g.left), .d (.str w.g.right), .d (.str w.g.minus), .d (.str w.g.quote), .d (.bool w.g.trains), .d (.bool w.g.lone), .d (.bool w.g.square), oS res.1, .d (.str w.right), .d (iZ res.2.1), .d (.bool res.2.2)]])
abbrev Mp_spell_writer_base (a : Node × Spell_writer) (res : (List Str) × Int × Bool) : Prop := match a with | (f, w) => aval X 120 [.ptr 0 0, .d (encNode f)] [[.d (lS w.g.verbs), .d (lS w.g.adverbs), .d (lS w.g.behind), .d (.str w.g.outer), .d (.str w.g.power), .d (.str w.g.open_), .d (.str w.g.close), .d (.str w.g.left), .d (.str w.g.right), .d (.str w.g.minus), .d (.str w.g.quote), .d (.bool w.g.trains), .d (.bool w.g.lone), .d (.bool w.g.square), oS w.out, .d (.str w.right), .d (iZ w.nodes), .d (.bool w.bad)]] (CRes.ret (.tuple []) [[.d (lS w.g.verbs), .d (lS w.g.adverbs), .d (lS w.g.behind), .d (.str w.g.outer), .d (.str w.g.power), .d (.str w.g.open_), .d (.str w.g.close), .d (.str w.g.left), .d (.str w.g.right), .d (.str w.g.minus), .d (.str w.g.quote), .d (.bool w.g.trains), .d (.bool w.g.lone), .d (.bool w.g.square), oS res.1, .d (.str w.right), .d (iZ res.2.1), .d (.bool res.2.2)]])
theorem p_spell_writer_expr_grp : (∀ a res, p_spell_writer_expr a = some res → Mp_spell_writer_expr a res) ∧ (∀ a res, p_spell_writer_applied a = some res → Mp_spell_writer_applied a res) ∧ (∀ a res, p_spell_writer_function a = some res → Mp_spell_writer_function a res) ∧ (∀ a res, p_spell_writer_function_l0 a = some res → Mp_spell_writer_function_l0 a res) ∧ (∀ a res, p_spell_writer_base a = some res → Mp_spell_writer_base a res) ∧ (∀ a res, p_spell_writer_lambda a = some res → Mp_spell_writer_lambda a res) ∧ (∀ a res, p_spell_writer_operand a = some res → Mp_spell_writer_operand a res) ∧ (∀ a res, p_spell_writer_call a = some res → Mp_spell_writer_call a res) := by
 refine p_spell_writer_expr.mutual_partial_correctness (motive_1 := Mp_spell_writer_expr) (motive_2 := Mp_spell_writer_applied) (motive_3 := Mp_spell_writer_function) (motive_4 := Mp_spell_writer_function_l0) (motive_5 := Mp_spell_writer_base) (motive_6 := Mp_spell_writer_lambda) (motive_7 := Mp_spell_writer_operand) (motive_8 := Mp_spell_writer_call) ?_ ?_ ?_ ?_ ?_ ?_ ?_ ?_
 ·rintro p_spell_writer_expr' p_spell_writer_applied' p_spell_writer_operand' p_spell_writer_call' ih_p_spell_writer_expr ih_p_spell_writer_applied ih_p_spell_writer_operand ih_p_spell_writer_call ⟨n, w⟩ res h
  refine aval_start (tm := [(0, .c (.ptr 0 0)), (1, .d (encNode n))]) (hp := [(0, [.d (lS w.g.verbs), .d (lS w.g.adverbs), .d (lS w.g.behind), .d (.str w.g.outer), .d (.str w.g.power), .d (.str w.g.open_), .d (.str w.g.close), .d (.str w.g.left), .d (.str w.g.right), .d (.str w.g.minus), .d (.str w.g.quote), .d (.bool w.g.trains), .d (.bool w.g.lone), .d (.bool w.g.square), oS w.out, .d (.str w.right), .d (iZ w.nodes), .d (.bool w.bad)])]) (n := 1) I Tryz.func35 I I I I I I (ra (nid' := 2) I (ra I (W_ (ra I ?_))))
  rcases E_ h with ⟨hc, h⟩ | ⟨hc, h⟩
  ·refine ct I hc (S_ (rn 2 I ?_))
   obtain ⟨⟨x, nodes, bad⟩, hk, h⟩ := B h
   refine po (ecallb (nid' := 2) (p_spell_writer_fits_ok hk) I I I I I I I I I I I I) I I (rz ?_)
   rcases E_ h with ⟨hc, h⟩ | ⟨hc, h⟩
   ·refine ct I hc (S_ (rn 3 I ?_))
    obtain ⟨y, hk, h⟩ := B h
    refine po (elget encNode encNodeR_eq hk I I I I I) I I (on 1 I ?_)
    obtain ⟨⟨out, nodes1, bad1⟩, hk, h⟩ := B h
    refine po (ecallb (nid' := 2) (ih_p_spell_writer_call _ _ hk) I I I I I I I I I I I I) I I (rz (rn 3 I ?_))
    obtain ⟨y1, hk, h⟩ := B h
    refine po (elget encNode encNodeR_eq hk I I I I I) I I (on 1 I ?_)
    obtain ⟨⟨out1, nodes2, bad2⟩, hk, h⟩ := B h
    refine po (ecallb (nid' := 2) (ih_p_spell_writer_expr _ _ hk) I I I I I I I I I I I I) I I (O_ (cn I (cn I (en I ?_))))
    cases h
    exact .normal I I
   refine cf I hc (K_ (cn I (cn I (en I ?_))))
   cases h
   exact .normal I I
  refine cf I hc (ra I ?_)
  rcases E_ h with ⟨hc, h⟩ | ⟨hc, h⟩
  ·refine ct I hc (S_ (rn 2 I ?_))
   obtain ⟨⟨x1, nodes3, bad3⟩, hk, h⟩ := B h
   refine po (ecallb (nid' := 2) (p_spell_writer_fits_ok hk) I I I I I I I I I I I I) I I (rz ?_)
   rcases E_ h with ⟨hc, h⟩ | ⟨hc, h⟩
   ·refine ct I hc (S_ (rn 3 I ?_))
    obtain ⟨y2, hk, h⟩ := B h
    refine po (elget encNode encNodeR_eq hk I I I I I) I I (on 1 I ?_)
    obtain ⟨⟨out2, nodes4, bad4⟩, hk, h⟩ := B h
    refine po (ecallb (nid' := 2) (ih_p_spell_writer_operand _ _ hk) I I I I I I I I I I I I) I I (rz (S_ (rn 3 I ?_)))
    obtain ⟨y3, hk, h⟩ := B h
    refine po (elget encNode encNodeR_eq hk I I I I I) I I (on 1 I ?_)
    obtain ⟨⟨out3, nodes5, bad5⟩, hk, h⟩ := B h
    refine po (ecallb (nid' := 2) (ih_p_spell_writer_applied _ _ hk) I I I I I I I I I I I I) I I (rz (rn 3 I ?_))
    obtain ⟨y4, hk, h⟩ := B h
    refine po (elget encNode encNodeR_eq hk I I I I I) I I (on 1 I ?_)
    obtain ⟨⟨out4, nodes6, bad6⟩, hk, h⟩ := B h
    refine po (ecallb (nid' := 2) (ih_p_spell_writer_expr _ _ hk) I I I I I I I I I I I I) I I (O_ (cn I (cn I (cn I (en I ?_)))))
    cases h
    exact .normal I I
   refine cf I hc (K_ (cn I (cn I (cn I (en I ?_)))))
   cases h
   exact .normal I I
  refine cf I hc (rn 2 I ?_)
  obtain ⟨⟨out5, nodes7, bad7⟩, hk, h⟩ := B h
  refine po (ecallb (nid' := 2) (ih_p_spell_writer_operand _ _ hk) I I I I I I I I I I I I) I I (O_ (cn I (cn I (en I ?_))))
  cases h
  exact .normal I I
 ·rintro p_spell_writer_function' ih_p_spell_writer_function ⟨f, w⟩ res h
  refine aval_start (tm := [(0, .c (.ptr 0 0)), (1, .d (encNode f))]) (hp := [(0, [.d (lS w.g.verbs), .d (lS w.g.adverbs), .d (lS w.g.behind), .d (.str w.g.outer), .d (.str w.g.power), .d (.str w.g.open_), .d (.str w.g.close), .d (.str w.g.left), .d (.str w.g.right), .d (.str w.g.minus), .d (.str w.g.quote), .d (.bool w.g.trains), .d (.bool w.g.lone), .d (.bool w.g.square), oS w.out, .d (.str w.right), .d (iZ w.nodes), .d (.bool w.bad)])]) (n := 1) I Tryz.func64 I I I I I I (ra (nid' := 2) I (S_ (ra I ?_)))
  rcases E_ h with ⟨hc, h⟩ | ⟨hc, h⟩
  ·refine ct I hc (S_ (rn 2 I ?_))
   obtain ⟨out, hk, h⟩ := B h
   refine po (ecallb (nid' := 2) (p_spell_writer_words_ok hk) I I I I I I I I I I I I) I I (rz (S_ (rn 2 I ?_)))
   obtain ⟨⟨out1, nodes, bad⟩, hk, h⟩ := B h
   refine po (ecallb (nid' := 2) (ih_p_spell_writer_function _ _ hk) I I I I I I I I I I I I) I I (rz (S_ (rn 2 I ?_)))
   obtain ⟨out2, hk, h⟩ := B h
   refine po (ecallb (nid' := 2) (p_spell_writer_words_ok hk) I I I I I I I I I I I I) I I (rz (R_ (C_ (Q_ ?_))))
   cases h
   exact .ret I I
  refine cf I hc (K_ (cn I (N_ (rn 2 I ?_))))
  obtain ⟨⟨out3, nodes1, bad1⟩, hk, h⟩ := B h
  refine po (ecallb (nid' := 2) (ih_p_spell_writer_function _ _ hk) I I I I I I I I I I I I) I I (O_ ?_)
  cases h
  exact .normal I I
 ·rintro p_spell_writer_function' p_spell_writer_function_l0' p_spell_writer_base' p_spell_writer_lambda' ih_p_spell_writer_function ih_p_spell_writer_function_l0 ih_p_spell_writer_base ih_p_spell_writer_lambda ⟨f, w⟩ res h
  refine aval_start (tm := [(0, .c (.ptr 0 0)), (1, .d (encNode f))]) (hp := [(0, [.d (lS w.g.verbs), .d (lS w.g.adverbs), .d (lS w.g.behind), .d (.str w.g.outer), .d (.str w.g.power), .d (.str w.g.open_), .d (.str w.g.close), .d (.str w.g.left), .d (.str w.g.right), .d (.str w.g.minus), .d (.str w.g.quote), .d (.bool w.g.trains), .d (.bool w.g.lone), .d (.bool w.g.square), oS w.out, .d (.str w.right), .d (iZ w.nodes), .d (.bool w.bad)])]) (n := 1) I Tryz.func100 I I I I I I (ra (nid' := 2) I (S_ (rn 0 I (pmk (nid' := 3) I I I I I (po (emap (kvs' := List.map (encI .i64 (D.int .i64)) [(22, 1)]) I (.inl I) I I I I I I I) I I (po (emap (kvs' := List.map (encI .i64 (D.int .i64)) [(22, 1), (23, 1)]) I (.inl I) I I I I I I I) I I (po (emap (kvs' := List.map (encI .i64 (D.int .i64)) [(22, 1), (23, 1), (24, 1)]) I (.inl I) I I I I I I I) I I (po (emap (kvs' := List.map (encI .i64 (D.int .i64)) [(22, 1), (23, 1), (24, 1), (25, 1)]) I (.inl I) I I I I I I I) I I (po (emap (kvs' := List.map (encI .i64 (D.int .i64)) [(22, 1), (23, 1), (24, 1), (25, 1), (26, 1)]) I (.inl I) I I I I I I I) I I (po (emap (kvs' := List.map (encI .i64 (D.int .i64)) [(22, 1), (23, 1), (24, 1), (25, 1), (26, 1), (27, 3)]) I (.inl I) I I I I I I I) I I (po (emap (kvs' := List.map (encI .i64 (D.int .i64)) [(22, 1), (23, 1), (24, 1), (25, 1), (26, 1), (27, 3), (28, 2)]) I (.inl I) I I I I I I I) I I (on (nid' := 3) 3 I (po (elookI (l := [(22, 1), (23, 1), (24, 1), (25, 1), (26, 1), (27, 3), (28, 2)]) 0 I I I I I I I) I I (on (nid' := 3) 1 I (rz (S_ (S_ (rn 3 I ?_))))))))))))))))))
  obtain ⟨⟨x, nodes, bad⟩, hk, h⟩ := B h
  refine po (ecallb (nid' := 3) (p_spell_writer_fits_ok hk) I I I I I I I I I I I I) I I (on 1 I (rz ?_))
  rcases E_ h with ⟨hc, h⟩ | ⟨hc, h⟩
  ·refine ct I hc (R_ (C_ (Q_ ?_)))
   cases h
   exact .ret I I
  refine cf I hc (K_ (cn I (N_ (ra I (W_ (ra I ?_))))))
  rcases E_ h with ⟨hc, h⟩ | ⟨hc, h⟩
  ·refine ct I hc (rn 4 I ?_)
   obtain ⟨out, hk, h⟩ := B h
   refine po (ecallb (nid' := 3) (p_spell_writer_words_ok hk) I I I I I I I I I I I I) I I (O_ (cn I (en I ?_)))
   cases h
   exact .normal I I
  refine cf I hc (S_ (ra I ?_))
  obtain ⟨x1, hs, h⟩ := B h
  refine awp_nrm (fun (x1 : Bool) => (⟨[(0, .c (.ptr 0 0)), (3, .c (.ptr 1 0)), (18, .d (iZ f.kind)), (29, .d (.bool x1))], [(2, [.ment (List.map (encI .i64 (D.int .i64)) [(22, 1), (23, 1), (24, 1), (25, 1), (26, 1), (27, 3), (28, 2)])]), (1, [.d (iZ f.kind), .d (iZ f.op_), .d (.str f.name), .d (lI f.lit.shape), .d (lC f.lit.cells), .d (lN f.kids), .d (iZ f.at_)]), (0, [.d (lS w.g.verbs), .d (lS w.g.adverbs), .d (lS w.g.behind), .d (.str w.g.outer), .d (.str w.g.power), .d (.str w.g.open_), .d (.str w.g.close), .d (.str w.g.left), .d (.str w.g.right), .d (.str w.g.minus), .d (.str w.g.quote), .d (.bool w.g.trains), .d (.bool w.g.lone), .d (.bool w.g.square), oS w.out, .d (.str w.right), .d (iZ nodes), .d (.bool bad)])], 3, [], none⟩ : St)) (y := x1) ?_ ?_
  ·replace h := hs
   rcases E_ h with ⟨hc, h⟩ | ⟨hc, h⟩
   ·refine ct I hc (K_ (cn I ?_))
    cases h
    exact .ok I
   refine cf I hc (rn 2 I (O_ (cn I ?_)))
   cases h
   exact .ok I
  refine N_ ?_
  rcases E_ h with ⟨hc, h⟩ | ⟨hc, h⟩
  ·refine ct I hc (rn 2 I ?_)
   obtain ⟨⟨out1, nodes1, bad1⟩, hk, h⟩ := B h
   refine po (ecallb (nid' := 3) (ih_p_spell_writer_lambda _ _ hk) I I I I I I I I I I I I) I I (O_ (cn I (cn I (en I ?_))))
   cases h
   exact .normal I I
  refine cf I hc (ra I ?_)
  rcases E_ h with ⟨hc, h⟩ | ⟨hc, h⟩
  ·refine ct I hc (S_ (rn 3 I ?_))
   obtain ⟨y, hk, h⟩ := B h
   refine po (elget encNode encNodeR_eq hk I I I I I) I I (on 1 I ?_)
   obtain ⟨⟨out2, nodes2, bad2⟩, hk, h⟩ := B h
   refine po (ecallb (nid' := 3) (ih_p_spell_writer_function _ _ hk) I I I I I I I I I I I I) I I (rz (rn 4 I ?_))
   obtain ⟨out3, hk, h⟩ := B h
   refine po (ecallb (nid' := 3) (p_spell_writer_glue_ok hk) I I I I I I I I I I I I) I I (O_ (cn I (cn I (cn I (en I ?_)))))
   cases h
   exact .normal I I
  refine cf I hc (ra I ?_)
  rcases E_ h with ⟨hc, h⟩ | ⟨hc, h⟩
  ·refine ct I hc (S_ (rn 6 I ?_))
   rcases E_ h with ⟨hc, h⟩ | ⟨hc, h⟩
   ·refine gt I I I I hc I (on 7 I (rz (S_ (rn 3 I ?_))))
    obtain ⟨y1, hk, h⟩ := B h
    refine po (elget encNode encNodeR_eq hk I I I I I) I I (on 1 I ?_)
    obtain ⟨⟨out4, nodes3, bad3⟩, hk, h⟩ := B h
    refine po (ecallb (nid' := 3) (ih_p_spell_writer_function _ _ hk) I I I I I I I I I I I I) I I (rz (drn (m := 19) 13 I I ?_))
    obtain ⟨x2, hk, h⟩ := B h
    refine pd (ecall (p_spell_Number_ok hk) I I I I I I I I I) I I I I I (don 1 I ?_)
    obtain ⟨out5, hk, h⟩ := B h
    refine pd (ecallb (nid' := 19) (p_spell_writer_glue_ok hk) I I I I I I I I I I I I) I I I I I (dz' (by kernel_rfl) (cn I (cn I (cn I (cn I (en I ?_))))))
    cases h
    exact .normal I I
   refine gf I I I I hc I (on 7 I (rz (S_ (rn 3 I ?_))))
   obtain ⟨y2, hk, h⟩ := B h
   refine po (elget encNode encNodeR_eq hk I I I I I) I I (on 1 I ?_)
   obtain ⟨⟨out6, nodes4, bad4⟩, hk, h⟩ := B h
   refine po (ecallb (nid' := 3) (ih_p_spell_writer_function _ _ hk) I I I I I I I I I I I I) I I (rz (drn (m := 19) 13 I I ?_))
   obtain ⟨x3, hk, h⟩ := B h
   refine pd (ecall (p_spell_Number_ok hk) I I I I I I I I I) I I I I I (don 1 I ?_)
   obtain ⟨out7, hk, h⟩ := B h
   refine pd (ecallb (nid' := 19) (p_spell_writer_glue_ok hk) I I I I I I I I I I I I) I I I I I (dz' (by kernel_rfl) (cn I (cn I (cn I (cn I (en I ?_))))))
   cases h
   exact .normal I I
  refine cf I hc (ra I ?_)
  rcases E_ h with ⟨hc, h⟩ | ⟨hc, h⟩
  ·refine ct I hc (S_ (rn 7 I ?_))
   obtain ⟨out8, hk, h⟩ := B h
   refine po (ecallb (nid' := 3) (p_spell_writer_words_ok hk) I I I I I I I I I I I I) I I (rz (rn 3 I ?_))
   obtain ⟨y3, hk, h⟩ := B h
   refine po (elget encNode encNodeR_eq hk I I I I I) I I (on 1 I ?_)
   obtain ⟨⟨out9, nodes5, bad5⟩, hk, h⟩ := B h
   refine po (ecallb (nid' := 3) (ih_p_spell_writer_base _ _ hk) I I I I I I I I I I I I) I I (O_ (cn I (cn I (cn I (cn I (cn I (en I ?_)))))))
   cases h
   exact .normal I I
  refine cf I hc (S_ (ra I ?_))
  obtain ⟨x4, hs, h⟩ := B h
  refine awp_nrm (fun (x4 : Bool) => (⟨[(0, .c (.ptr 0 0)), (3, .c (.ptr 1 0)), (100, .d (.bool x4))], [(2, [.ment (List.map (encI .i64 (D.int .i64)) [(22, 1), (23, 1), (24, 1), (25, 1), (26, 1), (27, 3), (28, 2)])]), (1, [.d (iZ f.kind), .d (iZ f.op_), .d (.str f.name), .d (lI f.lit.shape), .d (lC f.lit.cells), .d (lN f.kids), .d (iZ f.at_)]), (0, [.d (lS w.g.verbs), .d (lS w.g.adverbs), .d (lS w.g.behind), .d (.str w.g.outer), .d (.str w.g.power), .d (.str w.g.open_), .d (.str w.g.close), .d (.str w.g.left), .d (.str w.g.right), .d (.str w.g.minus), .d (.str w.g.quote), .d (.bool w.g.trains), .d (.bool w.g.lone), .d (.bool w.g.square), oS w.out, .d (.str w.right), .d (iZ nodes), .d (.bool bad)])], 3, [], none⟩ : St)) (y := x4) ?_ ?_
  ·replace h := hs
   rcases E_ h with ⟨hc, h⟩ | ⟨hc, h⟩
   ·refine ct I hc (K_ (cn I ?_))
    cases h
    exact .ok I
   refine cf I hc (rn 2 I (O_ (cn I ?_)))
   cases h
   exact .ok I
  refine N_ ?_
  rcases E_ h with ⟨hc, h⟩ | ⟨hc, h⟩
  ·refine ct I hc (S_ (rn 2 I ?_))
   obtain ⟨out10, hk, h⟩ := B h
   refine po (ecallb (nid' := 3) (p_spell_writer_words_ok hk) I I I I I I I I I I I I) I I (rz (S_ (S_ (rn 2 I (po (ellen I I I I I I I) I I (on 1 I (rz ?_)))))))
   obtain ⟨⟨w141, w161, w171⟩, hs, h⟩ := B h
   refine awp_nrm (fun ((w141, w161, w171) : (List Str) × Int × Bool) => (⟨[(0, .c (.ptr 0 0))], [(2, [.ment (List.map (encI .i64 (D.int .i64)) [(22, 1), (23, 1), (24, 1), (25, 1), (26, 1), (27, 3), (28, 2)])]), (1, [.d (iZ f.kind), .d (iZ f.op_), .d (.str f.name), .d (lI f.lit.shape), .d (lC f.lit.cells), .d (lN f.kids), .d (iZ f.at_)]), (0, [.d (lS w.g.verbs), .d (lS w.g.adverbs), .d (lS w.g.behind), .d (.str w.g.outer), .d (.str w.g.power), .d (.str w.g.open_), .d (.str w.g.close), .d (.str w.g.left), .d (.str w.g.right), .d (.str w.g.minus), .d (.str w.g.quote), .d (.bool w.g.trains), .d (.bool w.g.lone), .d (.bool w.g.square), oS w141, .d (.str w.right), .d (iZ w161), .d (.bool w171)])], 3, [], none⟩ : St)) (y := (w141, w161, w171)) ?_ ?_
   ·replace h := hs
    refine W_ (awp_loop ?_)
    exact awpL_at I I (ih_p_spell_writer_function_l0 _ _ h)
   refine N_ (rn 2 I ?_)
   obtain ⟨out12, hk, h⟩ := B h
   refine po (ecallb (nid' := 3) (p_spell_writer_words_ok hk) I I I I I I I I I I I I) I I (O_ (cn I (cn I (cn I (cn I (cn I (cn I (en I ?_))))))))
   cases h
   exact .normal I I
  refine cf I hc (rn 4 I (O_ (cn I (cn I (cn I (cn I (cn I (cn I (en I ?_)))))))))
  cases h
  exact .normal I I
 ·rintro p_spell_writer_function' p_spell_writer_function_l0' ih_p_spell_writer_function ih_p_spell_writer_function_l0 ⟨f, w, x5, w14, w16, w17⟩ res h
  refine lg I (ra I (S_ ?_))
  rcases E_ h with ⟨hc, h⟩ | ⟨hc, h⟩
  ·refine ct I hc (K_ (cn I (N_ (S_ (W_ (S_ (rn 0 I ?_)))))))
   obtain ⟨y4, hk, h⟩ := B h
   refine po (elget encNode encNodeR_eq hk I I I I I) I I (on (nid' := 4) 3 I (rz (rn 2 I ?_)))
   obtain ⟨⟨out11, nodes6, bad6⟩, hk, h⟩ := B h
   refine po (ecallb (nid' := 4) (ih_p_spell_writer_function _ _ hk) I I I I I I I I I I I I) I I (O_ (en I (N_ (rn 2 I (O_ (loopQ.normal ?_))))))
   exact awpL_at I I (ih_p_spell_writer_function_l0 _ _ h)
  refine cf I hc (X_ (condQ.exit (seqQ.exit (loopQ.exit (eh I ?_)))))
  cases h
  exact .ok I
 ·rintro p_spell_writer_function' ih_p_spell_writer_function ⟨f, w⟩ res h
  refine aval_start (tm := [(0, .c (.ptr 0 0)), (1, .d (encNode f))]) (hp := [(0, [.d (lS w.g.verbs), .d (lS w.g.adverbs), .d (lS w.g.behind), .d (.str w.g.outer), .d (.str w.g.power), .d (.str w.g.open_), .d (.str w.g.close), .d (.str w.g.left), .d (.str w.g.right), .d (.str w.g.minus), .d (.str w.g.quote), .d (.bool w.g.trains), .d (.bool w.g.lone), .d (.bool w.g.square), oS w.out, .d (.str w.right), .d (iZ w.nodes), .d (.bool w.bad)])]) (n := 1) I Tryz.func120 I I I I I I (ra (nid' := 2) I (ra I (W_ (S_ (ra I ?_)))))
  obtain ⟨x, hs, h⟩ := B h
  refine awp_nrm (fun (x : Bool) => (⟨[(0, .c (.ptr 0 0)), (3, .c (.ptr 1 0)), (15, .d (.bool x))], [(1, [.d (iZ f.kind), .d (iZ f.op_), .d (.str f.name), .d (lI f.lit.shape), .d (lC f.lit.cells), .d (lN f.kids), .d (iZ f.at_)]), (0, [.d (lS w.g.verbs), .d (lS w.g.adverbs), .d (lS w.g.behind), .d (.str w.g.outer), .d (.str w.g.power), .d (.str w.g.open_), .d (.str w.g.close), .d (.str w.g.left), .d (.str w.g.right), .d (.str w.g.minus), .d (.str w.g.quote), .d (.bool w.g.trains), .d (.bool w.g.lone), .d (.bool w.g.square), oS w.out, .d (.str w.right), .d (iZ w.nodes), .d (.bool w.bad)])], 2, [], none⟩ : St)) (y := x) ?_ ?_
  ·replace h := hs
   rcases E_ h with ⟨hc, h⟩ | ⟨hc, h⟩
   ·refine ct I hc (K_ (cn I ?_))
    cases h
    exact .ok I
   refine cf I hc (ra I ?_)
   rcases E_ h with ⟨hc, h⟩ | ⟨hc, h⟩
   ·refine ct I hc (K_ (cn I (cn I ?_)))
    cases h
    exact .ok I
   refine cf I hc (ra I ?_)
   rcases E_ h with ⟨hc, h⟩ | ⟨hc, h⟩
   ·refine ct I hc (K_ (cn I (cn I (cn I ?_))))
    cases h
    exact .ok I
   refine cf I hc (ra I ?_)
   rcases E_ h with ⟨hc, h⟩ | ⟨hc, h⟩
   ·refine ct I hc (K_ (cn I (cn I (cn I (cn I ?_)))))
    cases h
    exact .ok I
   refine cf I hc (rn 2 I (O_ (cn I (cn I (cn I (cn I ?_))))))
   cases h
   exact .ok I
  refine N_ ?_
  rcases E_ h with ⟨hc, h⟩ | ⟨hc, h⟩
  ·refine ct I hc (rn 2 I ?_)
   obtain ⟨⟨out, nodes, bad⟩, hk, h⟩ := B h
   refine po (ecallb (nid' := 2) (ih_p_spell_writer_function _ _ hk) I I I I I I I I I I I I) I I (O_ (cn I (en I ?_)))
   cases h
   exact .normal I I
  refine cf I hc (S_ (rn 2 I ?_))
  obtain ⟨out1, hk, h⟩ := B h
  refine po (ecallb (nid' := 2) (p_spell_writer_words_ok hk) I I I I I I I I I I I I) I I (rz (S_ (rn 2 I ?_)))
  obtain ⟨⟨out2, nodes1, bad1⟩, hk, h⟩ := B h
  refine po (ecallb (nid' := 2) (ih_p_spell_writer_function _ _ hk) I I I I I I I I I I I I) I I (rz (rn 2 I ?_))
  obtain ⟨out3, hk, h⟩ := B h
  refine po (ecallb (nid' := 2) (p_spell_writer_words_ok hk) I I I I I I I I I I I I) I I (O_ (cn I (en I ?_)))
  cases h
  exact .normal I I
 ·rintro p_spell_writer_expr' ih_p_spell_writer_expr ⟨n, w⟩ res h
  refine aval_start (tm := [(0, .c (.ptr 0 0)), (1, .d (encNode n))]) (hp := [(0, [.d (lS w.g.verbs), .d (lS w.g.adverbs), .d (lS w.g.behind), .d (.str w.g.outer), .d (.str w.g.power), .d (.str w.g.open_), .d (.str w.g.close), .d (.str w.g.left), .d (.str w.g.right), .d (.str w.g.minus), .d (.str w.g.quote), .d (.bool w.g.trains), .d (.bool w.g.lone), .d (.bool w.g.square), oS w.out, .d (.str w.right), .d (iZ w.nodes), .d (.bool w.bad)])]) (n := 1) I Tryz.func119 I I I I I I (ra (nid' := 2) I (ra I (S_ (ra I (S_ (rn 6 I ?_))))))
  rcases E_ h with ⟨hc, h⟩ | ⟨hc, h⟩
  ·refine gt I I I I hc I (on 4 I (rz ?_))
   obtain ⟨x15, hs, h⟩ := B h
   refine awp_nrm (fun (x15 : Str) => (⟨[(0, .c (.ptr 0 0)), (3, .c (.ptr 1 0)), (4, .d (.str w.right))], [(1, [.d (iZ n.kind), .d (iZ n.op_), .d (.str n.name), .d (lI n.lit.shape), .d (lC n.lit.cells), .d (lN n.kids), .d (iZ n.at_)]), (0, [.d (lS w.g.verbs), .d (lS w.g.adverbs), .d (lS w.g.behind), .d (.str w.g.outer), .d (.str w.g.power), .d (.str w.g.open_), .d (.str w.g.close), .d (.str w.g.left), .d (.str w.g.right), .d (.str w.g.minus), .d (.str w.g.quote), .d (.bool w.g.trains), .d (.bool w.g.lone), .d (.bool w.g.square), oS w.out, .d (.str x15), .d (iZ w.nodes), .d (.bool w.bad)])], 2, [], none⟩ : St)) (y := x15) ?_ ?_
   ·replace h := hs
    rcases E_ h with ⟨hc, h⟩ | ⟨hc, h⟩
    ·refine ct I hc (rn 9 I (O_ (cn I ?_)))
     cases h
     exact .ok I
    refine cf I hc (K_ (cn I ?_))
    cases h
    exact .ok I
   refine N_ (S_ (rn 7 I ?_))
   obtain ⟨out, hk, h⟩ := B h
   refine po (ecallb (nid' := 2) (p_spell_writer_words_ok hk) I I I I I I I I I I I I) I I (rz (S_ (rn 3 I ?_)))
   obtain ⟨y, hk, h⟩ := B h
   refine po (elget encNode encNodeR_eq hk I I I I I) I I (on 1 I ?_)
   obtain ⟨⟨out1, nodes, bad⟩, hk, h⟩ := B h
   refine po (ecallb (nid' := 2) (ih_p_spell_writer_expr _ _ hk) I I I I I I I I I I I I) I I (rz (S_ (rn 7 I ?_)))
   obtain ⟨out2, hk, h⟩ := B h
   refine po (ecallb (nid' := 2) (p_spell_writer_words_ok hk) I I I I I I I I I I I I) I I (rz (rn 5 I (O_ ?_)))
   cases h
   exact .normal I I
  refine gf I I I I hc I (on 4 I (rz (cf I I (K_ (cn I (N_ (S_ (rn 7 I ?_))))))))
  obtain ⟨out3, hk, h⟩ := B h
  refine po (ecallb (nid' := 2) (p_spell_writer_words_ok hk) I I I I I I I I I I I I) I I (rz (S_ (rn 3 I ?_)))
  obtain ⟨y1, hk, h⟩ := B h
  refine po (elget encNode encNodeR_eq hk I I I I I) I I (on 1 I ?_)
  obtain ⟨⟨out4, nodes1, bad1⟩, hk, h⟩ := B h
  refine po (ecallb (nid' := 2) (ih_p_spell_writer_expr _ _ hk) I I I I I I I I I I I I) I I (rz (S_ (rn 7 I ?_)))
  obtain ⟨out5, hk, h⟩ := B h
  refine po (ecallb (nid' := 2) (p_spell_writer_words_ok hk) I I I I I I I I I I I I) I I (rz (rn 5 I (O_ ?_)))
  cases h
  exact .normal I I
 ·rintro p_spell_writer_expr' p_spell_writer_operand' ih_p_spell_writer_expr ih_p_spell_writer_operand ⟨n, w⟩ res h
  refine aval_start (tm := [(0, .c (.ptr 0 0)), (1, .d (encNode n))]) (hp := [(0, [.d (lS w.g.verbs), .d (lS w.g.adverbs), .d (lS w.g.behind), .d (.str w.g.outer), .d (.str w.g.power), .d (.str w.g.open_), .d (.str w.g.close), .d (.str w.g.left), .d (.str w.g.right), .d (.str w.g.minus), .d (.str w.g.quote), .d (.bool w.g.trains), .d (.bool w.g.lone), .d (.bool w.g.square), oS w.out, .d (.str w.right), .d (iZ w.nodes), .d (.bool w.bad)])]) (n := 1) I Tryz.func63 I I I I I I (ra (nid' := 2) I (ra I (W_ (ra I ?_))))
  rcases E_ h with ⟨hc, h⟩ | ⟨hc, h⟩
  ·refine ct I hc (S_ (drn (m := 14) 6 I I ?_))
   obtain ⟨⟨s, e⟩, hk, h⟩ := B h
   refine pd (ecall (p_spell_Literal_ok hk) I I I I I I I I I) I I I I I (don 5 I (dz (by kernel_rfl) (S_ (rn 6 I ?_))))
   rcases E_ h with ⟨hc, h⟩ | ⟨hc, h⟩
   ·refine gt I I I I hc I (on 6 I (rz (S_ (rn 2 I ?_))))
    obtain ⟨⟨x, nodes, bad⟩, hk, h⟩ := B h
    refine po (ecallb (nid' := 14) (p_spell_writer_fits_ok hk) I I I I I I I I I I I I) I I (rz (rn 3 I ?_))
    obtain ⟨out, hk, h⟩ := B h
    refine po (ecallb (nid' := 14) (p_spell_writer_words_ok hk) I I I I I I I I I I I I) I I (O_ (cn I (en I ?_)))
    cases h
    exact .normal I I
   refine gf I I I I hc I (on 6 I (rz (S_ (rn 2 I ?_))))
   obtain ⟨⟨x1, nodes1, bad1⟩, hk, h⟩ := B h
   refine po (ecallb (nid' := 14) (p_spell_writer_fits_ok hk) I I I I I I I I I I I I) I I (rz (rn 3 I ?_))
   obtain ⟨out1, hk, h⟩ := B h
   refine po (ecallb (nid' := 14) (p_spell_writer_words_ok hk) I I I I I I I I I I I I) I I (O_ (cn I (en I ?_)))
   cases h
   exact .normal I I
  refine cf I hc (ra I ?_)
  rcases E_ h with ⟨hc, h⟩ | ⟨hc, h⟩
  ·refine ct I hc (S_ (rn 2 I ?_))
   obtain ⟨⟨x2, nodes2, bad2⟩, hk, h⟩ := B h
   refine po (ecallb (nid' := 2) (p_spell_writer_fits_ok hk) I I I I I I I I I I I I) I I (rz (rn 4 I ?_))
   obtain ⟨out2, hk, h⟩ := B h
   refine po (ecallb (nid' := 2) (p_spell_writer_words_ok hk) I I I I I I I I I I I I) I I (O_ (cn I (cn I (en I ?_))))
   cases h
   exact .normal I I
  refine cf I hc (ra I ?_)
  rcases E_ h with ⟨hc, h⟩ | ⟨hc, h⟩
  ·refine ct I hc (S_ (rn 2 I ?_))
   obtain ⟨⟨x3, nodes3, bad3⟩, hk, h⟩ := B h
   refine po (ecallb (nid' := 2) (p_spell_writer_fits_ok hk) I I I I I I I I I I I I) I I (rz (rn 7 I ?_))
   obtain ⟨out3, hk, h⟩ := B h
   refine po (ecallb (nid' := 2) (p_spell_writer_words_ok hk) I I I I I I I I I I I I) I I (O_ (cn I (cn I (cn I (en I ?_)))))
   cases h
   exact .normal I I
  refine cf I hc (ra I ?_)
  rcases E_ h with ⟨hc, h⟩ | ⟨hc, h⟩
  ·refine ct I hc (S_ (rn 2 I ?_))
   obtain ⟨⟨x4, nodes4, bad4⟩, hk, h⟩ := B h
   refine po (ecallb (nid' := 2) (p_spell_writer_fits_ok hk) I I I I I I I I I I I I) I I (rz (rn 6 I ?_))
   obtain ⟨out4, hk, h⟩ := B h
   refine po (ecallb (nid' := 2) (p_spell_writer_words_ok hk) I I I I I I I I I I I I) I I (O_ (cn I (cn I (cn I (cn I (en I ?_))))))
   cases h
   exact .normal I I
  refine cf I hc (ra I ?_)
  rcases E_ h with ⟨hc, h⟩ | ⟨hc, h⟩
  ·refine ct I hc (S_ (rn 2 I ?_))
   obtain ⟨⟨x5, nodes5, bad5⟩, hk, h⟩ := B h
   refine po (ecallb (nid' := 2) (p_spell_writer_fits_ok hk) I I I I I I I I I I I I) I I (rz ?_)
   rcases E_ h with ⟨hc, h⟩ | ⟨hc, h⟩
   ·refine ct I hc (S_ (rn 3 I ?_))
    obtain ⟨y, hk, h⟩ := B h
    refine po (elget encNode encNodeR_eq hk I I I I I) I I (on 1 I ?_)
    obtain ⟨⟨out5, nodes6, bad6⟩, hk, h⟩ := B h
    refine po (ecallb (nid' := 2) (ih_p_spell_writer_operand _ _ hk) I I I I I I I I I I I I) I I (rz (S_ (rn 2 I ?_)))
    obtain ⟨out6, hk, h⟩ := B h
    refine po (ecallb (nid' := 2) (p_spell_writer_words_ok hk) I I I I I I I I I I I I) I I (rz (S_ (rn 3 I ?_)))
    obtain ⟨y1, hk, h⟩ := B h
    refine po (elget encNode encNodeR_eq hk I I I I I) I I (on 1 I ?_)
    obtain ⟨⟨out7, nodes7, bad7⟩, hk, h⟩ := B h
    refine po (ecallb (nid' := 2) (ih_p_spell_writer_expr _ _ hk) I I I I I I I I I I I I) I I (rz (rn 2 I ?_))
    obtain ⟨out8, hk, h⟩ := B h
    refine po (ecallb (nid' := 2) (p_spell_writer_words_ok hk) I I I I I I I I I I I I) I I (O_ (cn I (cn I (cn I (cn I (cn I (cn I (en I ?_))))))))
    cases h
    exact .normal I I
   refine cf I hc (K_ (cn I (cn I (cn I (cn I (cn I (cn I (en I ?_))))))))
   cases h
   exact .normal I I
  refine cf I hc (S_ (ra I ?_))
  obtain ⟨x6, hs, h⟩ := B h
  refine awp_nrm (fun (x6 : Bool) => (⟨[(0, .c (.ptr 0 0)), (3, .c (.ptr 1 0)), (99, .d (.bool x6))], [(1, [.d (iZ n.kind), .d (iZ n.op_), .d (.str n.name), .d (lI n.lit.shape), .d (lC n.lit.cells), .d (lN n.kids), .d (iZ n.at_)]), (0, [.d (lS w.g.verbs), .d (lS w.g.adverbs), .d (lS w.g.behind), .d (.str w.g.outer), .d (.str w.g.power), .d (.str w.g.open_), .d (.str w.g.close), .d (.str w.g.left), .d (.str w.g.right), .d (.str w.g.minus), .d (.str w.g.quote), .d (.bool w.g.trains), .d (.bool w.g.lone), .d (.bool w.g.square), oS w.out, .d (.str w.right), .d (iZ w.nodes), .d (.bool w.bad)])], 2, [], none⟩ : St)) (y := x6) ?_ ?_
  ·replace h := hs
   rcases E_ h with ⟨hc, h⟩ | ⟨hc, h⟩
   ·refine ct I hc (K_ (cn I ?_))
    cases h
    exact .ok I
   refine cf I hc (rn 2 I (O_ (cn I ?_)))
   cases h
   exact .ok I
  refine N_ ?_
  rcases E_ h with ⟨hc, h⟩ | ⟨hc, h⟩
  ·refine ct I hc (S_ (rn 2 I ?_))
   obtain ⟨out9, hk, h⟩ := B h
   refine po (ecallb (nid' := 2) (p_spell_writer_words_ok hk) I I I I I I I I I I I I) I I (rz (S_ (rn 2 I ?_)))
   obtain ⟨⟨out10, nodes8, bad8⟩, hk, h⟩ := B h
   refine po (ecallb (nid' := 2) (ih_p_spell_writer_expr _ _ hk) I I I I I I I I I I I I) I I (rz (rn 2 I ?_))
   obtain ⟨out11, hk, h⟩ := B h
   refine po (ecallb (nid' := 2) (p_spell_writer_words_ok hk) I I I I I I I I I I I I) I I (O_ (cn I (cn I (cn I (cn I (cn I (cn I (en I ?_))))))))
   cases h
   exact .normal I I
  refine cf I hc (rn 4 I (O_ (cn I (cn I (cn I (cn I (cn I (cn I (en I ?_)))))))))
  cases h
  exact .normal I I
 rintro p_spell_writer_applied' p_spell_writer_function' ih_p_spell_writer_applied ih_p_spell_writer_function ⟨f, w⟩ res h
 refine aval_start (tm := [(0, .c (.ptr 0 0)), (1, .d (encNode f))]) (hp := [(0, [.d (lS w.g.verbs), .d (lS w.g.adverbs), .d (lS w.g.behind), .d (.str w.g.outer), .d (.str w.g.power), .d (.str w.g.open_), .d (.str w.g.close), .d (.str w.g.left), .d (.str w.g.right), .d (.str w.g.minus), .d (.str w.g.quote), .d (.bool w.g.trains), .d (.bool w.g.lone), .d (.bool w.g.square), oS w.out, .d (.str w.right), .d (iZ w.nodes), .d (.bool w.bad)])]) (n := 1) I Tryz.func62 I I I I I I (ra (nid' := 2) I (S_ (S_ (rn 6 I ?_))))
 rcases E_ h with ⟨hc, h⟩ | ⟨hc, h⟩
 ·refine gt I I I I hc I (on 4 I (rz ?_))
  rcases E_ h with ⟨hc, h⟩ | ⟨hc, h⟩
  ·refine ct I hc (S_ (S_ (rn 2 I ?_)))
   obtain ⟨⟨x, nodes, bad⟩, hk, h⟩ := B h
   refine po (ecallb (nid' := 2) (p_spell_writer_fits_ok hk) I I I I I I I I I I I I) I I (rz ?_)
   obtain ⟨⟨x14, x16, x17⟩, hs, h⟩ := B h
   refine awp_nrm (fun ((x14, x16, x17) : (List Str) × Int × Bool) => (⟨[], [(1, [.d (iZ f.kind), .d (iZ f.op_), .d (.str f.name), .d (lI f.lit.shape), .d (lC f.lit.cells), .d (lN f.kids), .d (iZ f.at_)]), (0, [.d (lS w.g.verbs), .d (lS w.g.adverbs), .d (lS w.g.behind), .d (.str w.g.outer), .d (.str w.g.power), .d (.str w.g.open_), .d (.str w.g.close), .d (.str w.g.left), .d (.str w.g.right), .d (.str w.g.minus), .d (.str w.g.quote), .d (.bool w.g.trains), .d (.bool w.g.lone), .d (.bool w.g.square), oS x14, .d (.str w.right), .d (iZ x16), .d (.bool x17)])], 2, [], none⟩ : St)) (y := (x14, x16, x17)) ?_ ?_
   ·replace h := hs
    rcases E_ h with ⟨hc, h⟩ | ⟨hc, h⟩
    ·refine ct I hc (S_ (drn (m := 13) 8 I I ?_))
     obtain ⟨x1, hk, h⟩ := B h
     refine pd (ecall (p_spell_Number_ok hk) I I I I I I I I I) I I I I I (don 1 I ?_)
     obtain ⟨out, hk, h⟩ := B h
     refine pd (ecallb (nid' := 13) (p_spell_writer_words_ok hk) I I I I I I I I I I I I) I I I I I (dz (by kernel_rfl) (S_ (rn 3 I ?_)))
     obtain ⟨y, hk, h⟩ := B h
     refine po (elget encNode encNodeR_eq hk I I I I I) I I (on 1 I ?_)
     obtain ⟨⟨out1, nodes1, bad1⟩, hk, h⟩ := B h
     refine po (ecallb (nid' := 13) (ih_p_spell_writer_function _ _ hk) I I I I I I I I I I I I) I I (rz (rn 2 I ?_))
     obtain ⟨out2, hk, h⟩ := B h
     refine po (ecallb (nid' := 13) (p_spell_writer_glue_ok hk) I I I I I I I I I I I I) I I (O_ (cn I ?_))
     cases h
     exact .ok I
    refine cf I hc (K_ (cn I ?_))
    cases h
    exact .ok I
   refine N_ (R_ (C_ (Q_ ?_)))
   cases h
   exact .ret I I
  refine cf I hc (K_ (cn I (N_ (rn 2 I ?_))))
  obtain ⟨⟨out3, nodes2, bad2⟩, hk, h⟩ := B h
  refine po (ecallb (nid' := 2) (ih_p_spell_writer_applied _ _ hk) I I I I I I I I I I I I) I I (O_ ?_)
  cases h
  exact .normal I I
 refine gf I I I I hc I (on 4 I (rz (cf I I (K_ (cn I (N_ (rn 2 I ?_)))))))
 obtain ⟨⟨out4, nodes3, bad3⟩, hk, h⟩ := B h
 refine po (ecallb (nid' := 2) (ih_p_spell_writer_applied _ _ hk) I I I I I I I I I I I I) I I (O_ ?_)
 cases h
 exact .normal I I
theorem p_spell_writer_expr_ih : ∀ a res, p_spell_writer_expr a = some res → Mp_spell_writer_expr a res := p_spell_writer_expr_grp.1
theorem p_spell_writer_expr_ok {a : Node × Spell_writer} {res : (List Str) × Int × Bool} (h : p_spell_writer_expr a = some res) : Mp_spell_writer_expr a res := p_spell_writer_expr_ih a res h
theorem p_spell_Write_ok {g : Grammar} {n : Node} {r : Str × Int} (h : p_spell_Write g n = some r) : aval X 22 [.d (encGrammar g), .d (encNode n)] [] (CRes.ret (.tuple [.d (.str r.1), .d (iZ r.2)]) []) := by
 unfold p_spell_Write at h
 refine aval_start (tm := [(0, .d (encGrammar g)), (1, .d (encNode n))]) (hp := []) (n := 0) I Tryz.func22 I I I I I I (ra (nid' := 2) I (ra (nid' := 3) I (S_ (rn 2 I ?_))))
 obtain ⟨⟨out, nodes, bad⟩, hk, h⟩ := B h
 refine po (ecallb (nid' := 3) (p_spell_writer_expr_ok hk) I I I I I I I I I I I I) I I (rz (S_ (ra I ?_)))
 rcases E_ h with ⟨hc, h⟩ | ⟨hc, h⟩
 ·refine ct I hc (ra I (R_ (C_ (Q_ ?_))))
  cases h
  exact .ret I I
 refine cf I hc (K_ (cn I (N_ (S_ (rn 4 I ?_)))))
 obtain ⟨x, hk, h⟩ := B h
 refine po (ecall (go_Join_ok hk) I I I I I I I I I) I I (on 2 I (rz (R_ ?_)))
 cases h
 exact .ret I I
theorem p_apl_Print_ok {p : Prgm} {r : Str × Int} (h : p_apl_Print p = some r) : aval X 15 [.d (encPrgm p)] [] (CRes.ret (.tuple [.d (.str r.1), .d (iZ r.2)]) []) := by
 unfold p_apl_Print at h
 refine aval_start (tm := [(0, .d (encPrgm p))]) (hp := []) (n := 0) I Tryz.func15 I I I I I I (ra (nid' := 1) I (S_ (S_ (rn 4 I ?_))))
 rcases E_ h with ⟨hc, h⟩ | ⟨hc, h⟩
 ·refine gt I I I I hc I (on 2 I ?_)
  obtain ⟨x, hk, h⟩ := B h
  refine po (ecall (p_core_Name_ok hk) I I I I I I I I I) I I (on 3 I ?_)
  rcases E_ h with ⟨hc, h⟩ | ⟨hc, h⟩
  ·refine gt I I I I hc I (on 9 I (rz (ct I I (ra I (R_ (C_ (Q_ ?_)))))))
   cases h
   exact .ret I I
  refine gf I I I I hc I (on 4 I ?_)
  rcases E_ h with ⟨hc, h⟩ | ⟨hc, h⟩
  ·refine gt I I I I hc I (on 5 I (rz ?_))
   rcases E_ h with ⟨hc, h⟩ | ⟨hc, h⟩
   ·refine ct I hc (ra I (R_ (C_ (Q_ ?_))))
    cases h
    exact .ret I I
   refine cf I hc (K_ (cn I (N_ (S_ (drn (m := 10) 0 I I ?_)))))
   obtain ⟨x1, hk, h⟩ := B h
   refine pd (ecall (p_apl_Grammar_ok hk) I I I I I I I I I) I I I I I (don 2 I ?_)
   obtain ⟨⟨s, e⟩, hk, h⟩ := B h
   refine pd (ecall (p_spell_Write_ok hk) I I I I I I I I I) I I I I I (don 5 I (dz (by kernel_rfl) (S_ (ra I ?_))))
   rcases E_ h with ⟨hc, h⟩ | ⟨hc, h⟩
   ·refine ct I hc (ra I (R_ (C_ (Q_ ?_))))
    cases h
    exact .ret I I
   refine cf I hc (K_ (cn I (N_ (S_ (ra I ?_)))))
   obtain ⟨s3, hs, h⟩ := B h
   refine awp_nrm (fun (s3 : Str) => (⟨[(1, .c (.ptr 0 0)), (4, .d (.str s3))], [(0, [.d (.str p.set_), .d (iZ p.origin), .d (iZ p.expr.kind), .d (iZ p.expr.op_), .d (.str p.expr.name), .d (lI p.expr.lit.shape), .d (lC p.expr.lit.cells), .d (lN p.expr.kids), .d (iZ p.expr.at_)])], 10, [], none⟩ : St)) (y := s3) ?_ ?_
   ·replace h := hs
    rcases E_ h with ⟨hc, h⟩ | ⟨hc, h⟩
    ·refine ct I hc (rn 2 I ?_)
     obtain ⟨s1, hk, h⟩ := B h
     refine po (escat hk I I I) I I (on 1 I ?_)
     obtain ⟨s2, hk, h⟩ := B h
     refine po (escat hk I I I) I I (on 1 I (O_ (cn I ?_)))
     cases h
     exact .ok I
    refine cf I hc (K_ (cn I ?_))
    cases h
    exact .ok I
   refine N_ (S_ (ra I ?_))
   obtain ⟨s5, hs, h⟩ := B h
   refine awp_nrm (fun (s5 : Str) => (⟨[(1, .c (.ptr 0 0)), (4, .d (.str s5))], [(0, [.d (.str p.set_), .d (iZ p.origin), .d (iZ p.expr.kind), .d (iZ p.expr.op_), .d (.str p.expr.name), .d (lI p.expr.lit.shape), .d (lC p.expr.lit.cells), .d (lN p.expr.kids), .d (iZ p.expr.at_)])], 10, [], none⟩ : St)) (y := s5) ?_ ?_
   ·replace h := hs
    rcases E_ h with ⟨hc, h⟩ | ⟨hc, h⟩
    ·refine ct I hc (rn 1 I ?_)
     obtain ⟨s4, hk, h⟩ := B h
     refine po (escat hk I I I) I I (on 1 I (O_ (cn I ?_)))
     cases h
     exact .ok I
    refine cf I hc (K_ (cn I ?_))
    cases h
    exact .ok I
   refine N_ (S_ (S_ (rn 1 I ?_)))
   obtain ⟨⟨x2, x3⟩, hk, h⟩ := B h
   refine po (ecall (p_apl_Parse_ok hk) I I I I I I I I I) I I (on (nid' := 12) 7 I (rz (S_ (rn 4 I ?_))))
   rcases E_ h with ⟨hc, h⟩ | ⟨hc, h⟩
   ·refine gt I I I I hc I (on 21 I (rz (ct I I (ra I (R_ (C_ (Q_ ?_)))))))
    cases h
    exact .ret I I
   refine gf I I I I hc I (on 7 I ?_)
   rcases E_ h with ⟨hc, h⟩ | ⟨hc, h⟩
   ·refine gt I I I I hc I (on 14 I (rz (ct I I (ra I (R_ (C_ (Q_ ?_)))))))
    cases h
    exact .ret I I
   refine gf I I I I hc I (on 7 I ?_)
   rcases E_ h with ⟨hc, h⟩ | ⟨hc, h⟩
   ·refine gt I I I I hc I (on 7 I (rz (ct I I (ra I (R_ (C_ (Q_ ?_)))))))
    cases h
    exact .ret I I
   refine gf I I I I hc I (on 4 I ?_)
   obtain ⟨x4, hk, h⟩ := B h
   refine po (ecall (p_core_Same_ok hk) I I I I I I I I I) I I (on 2 I (rz ?_))
   rcases E_ h with ⟨hc, h⟩ | ⟨hc, h⟩
   ·refine ct I hc (ra I (R_ (C_ (Q_ ?_))))
    cases h
    exact .ret I I
   refine cf I hc (K_ (cn I (N_ (ra I (R_ ?_)))))
   cases h
   exact .ret I I
  refine gf I I I I hc I (on 5 I (rz (cf I I (K_ (cn I (N_ (S_ (drn (m := 10) 0 I I ?_))))))))
  obtain ⟨x5, hk, h⟩ := B h
  refine pd (ecall (p_apl_Grammar_ok hk) I I I I I I I I I) I I I I I (don 2 I ?_)
  obtain ⟨⟨s6, e1⟩, hk, h⟩ := B h
  refine pd (ecall (p_spell_Write_ok hk) I I I I I I I I I) I I I I I (don 5 I (dz (by kernel_rfl) (S_ (ra I ?_))))
  rcases E_ h with ⟨hc, h⟩ | ⟨hc, h⟩
  ·refine ct I hc (ra I (R_ (C_ (Q_ ?_))))
   cases h
   exact .ret I I
  refine cf I hc (K_ (cn I (N_ (S_ (ra I ?_)))))
  obtain ⟨s9, hs, h⟩ := B h
  refine awp_nrm (fun (s9 : Str) => (⟨[(1, .c (.ptr 0 0)), (4, .d (.str s9))], [(0, [.d (.str p.set_), .d (iZ p.origin), .d (iZ p.expr.kind), .d (iZ p.expr.op_), .d (.str p.expr.name), .d (lI p.expr.lit.shape), .d (lC p.expr.lit.cells), .d (lN p.expr.kids), .d (iZ p.expr.at_)])], 10, [], none⟩ : St)) (y := s9) ?_ ?_
  ·replace h := hs
   rcases E_ h with ⟨hc, h⟩ | ⟨hc, h⟩
   ·refine ct I hc (rn 2 I ?_)
    obtain ⟨s7, hk, h⟩ := B h
    refine po (escat hk I I I) I I (on 1 I ?_)
    obtain ⟨s8, hk, h⟩ := B h
    refine po (escat hk I I I) I I (on 1 I (O_ (cn I ?_)))
    cases h
    exact .ok I
   refine cf I hc (K_ (cn I ?_))
   cases h
   exact .ok I
  refine N_ (S_ (ra I ?_))
  obtain ⟨s11, hs, h⟩ := B h
  refine awp_nrm (fun (s11 : Str) => (⟨[(1, .c (.ptr 0 0)), (4, .d (.str s11))], [(0, [.d (.str p.set_), .d (iZ p.origin), .d (iZ p.expr.kind), .d (iZ p.expr.op_), .d (.str p.expr.name), .d (lI p.expr.lit.shape), .d (lC p.expr.lit.cells), .d (lN p.expr.kids), .d (iZ p.expr.at_)])], 10, [], none⟩ : St)) (y := s11) ?_ ?_
  ·replace h := hs
   rcases E_ h with ⟨hc, h⟩ | ⟨hc, h⟩
   ·refine ct I hc (rn 1 I ?_)
    obtain ⟨s10, hk, h⟩ := B h
    refine po (escat hk I I I) I I (on 1 I (O_ (cn I ?_)))
    cases h
    exact .ok I
   refine cf I hc (K_ (cn I ?_))
   cases h
   exact .ok I
  refine N_ (S_ (S_ (rn 1 I ?_)))
  obtain ⟨⟨x6, x7⟩, hk, h⟩ := B h
  refine po (ecall (p_apl_Parse_ok hk) I I I I I I I I I) I I (on (nid' := 12) 7 I (rz (S_ (rn 4 I ?_))))
  rcases E_ h with ⟨hc, h⟩ | ⟨hc, h⟩
  ·refine gt I I I I hc I (on 21 I (rz (ct I I (ra I (R_ (C_ (Q_ ?_)))))))
   cases h
   exact .ret I I
  refine gf I I I I hc I (on 7 I ?_)
  rcases E_ h with ⟨hc, h⟩ | ⟨hc, h⟩
  ·refine gt I I I I hc I (on 14 I (rz (ct I I (ra I (R_ (C_ (Q_ ?_)))))))
   cases h
   exact .ret I I
  refine gf I I I I hc I (on 7 I ?_)
  rcases E_ h with ⟨hc, h⟩ | ⟨hc, h⟩
  ·refine gt I I I I hc I (on 7 I (rz (ct I I (ra I (R_ (C_ (Q_ ?_)))))))
   cases h
   exact .ret I I
  refine gf I I I I hc I (on 4 I ?_)
  obtain ⟨x8, hk, h⟩ := B h
  refine po (ecall (p_core_Same_ok hk) I I I I I I I I I) I I (on 2 I (rz ?_))
  rcases E_ h with ⟨hc, h⟩ | ⟨hc, h⟩
  ·refine ct I hc (ra I (R_ (C_ (Q_ ?_))))
   cases h
   exact .ret I I
  refine cf I hc (K_ (cn I (N_ (ra I (R_ ?_)))))
  cases h
  exact .ret I I
 refine gf I I I I hc I (on 10 I ?_)
 rcases E_ h with ⟨hc, h⟩ | ⟨hc, h⟩
 ·refine gt I I I I hc I (on 5 I (rz ?_))
  rcases E_ h with ⟨hc, h⟩ | ⟨hc, h⟩
  ·refine ct I hc (ra I (R_ (C_ (Q_ ?_))))
   cases h
   exact .ret I I
  refine cf I hc (K_ (cn I (N_ (S_ (drn (m := 10) 0 I I ?_)))))
  obtain ⟨x9, hk, h⟩ := B h
  refine pd (ecall (p_apl_Grammar_ok hk) I I I I I I I I I) I I I I I (don 2 I ?_)
  obtain ⟨⟨s12, e2⟩, hk, h⟩ := B h
  refine pd (ecall (p_spell_Write_ok hk) I I I I I I I I I) I I I I I (don 5 I (dz (by kernel_rfl) (S_ (ra I ?_))))
  rcases E_ h with ⟨hc, h⟩ | ⟨hc, h⟩
  ·refine ct I hc (ra I (R_ (C_ (Q_ ?_))))
   cases h
   exact .ret I I
  refine cf I hc (K_ (cn I (N_ (S_ (ra I ?_)))))
  obtain ⟨s15, hs, h⟩ := B h
  refine awp_nrm (fun (s15 : Str) => (⟨[(1, .c (.ptr 0 0)), (4, .d (.str s15))], [(0, [.d (.str p.set_), .d (iZ p.origin), .d (iZ p.expr.kind), .d (iZ p.expr.op_), .d (.str p.expr.name), .d (lI p.expr.lit.shape), .d (lC p.expr.lit.cells), .d (lN p.expr.kids), .d (iZ p.expr.at_)])], 10, [], none⟩ : St)) (y := s15) ?_ ?_
  ·replace h := hs
   rcases E_ h with ⟨hc, h⟩ | ⟨hc, h⟩
   ·refine ct I hc (rn 2 I ?_)
    obtain ⟨s13, hk, h⟩ := B h
    refine po (escat hk I I I) I I (on 1 I ?_)
    obtain ⟨s14, hk, h⟩ := B h
    refine po (escat hk I I I) I I (on 1 I (O_ (cn I ?_)))
    cases h
    exact .ok I
   refine cf I hc (K_ (cn I ?_))
   cases h
   exact .ok I
  refine N_ (S_ (ra I ?_))
  obtain ⟨s17, hs, h⟩ := B h
  refine awp_nrm (fun (s17 : Str) => (⟨[(1, .c (.ptr 0 0)), (4, .d (.str s17))], [(0, [.d (.str p.set_), .d (iZ p.origin), .d (iZ p.expr.kind), .d (iZ p.expr.op_), .d (.str p.expr.name), .d (lI p.expr.lit.shape), .d (lC p.expr.lit.cells), .d (lN p.expr.kids), .d (iZ p.expr.at_)])], 10, [], none⟩ : St)) (y := s17) ?_ ?_
  ·replace h := hs
   rcases E_ h with ⟨hc, h⟩ | ⟨hc, h⟩
   ·refine ct I hc (rn 1 I ?_)
    obtain ⟨s16, hk, h⟩ := B h
    refine po (escat hk I I I) I I (on 1 I (O_ (cn I ?_)))
    cases h
    exact .ok I
   refine cf I hc (K_ (cn I ?_))
   cases h
   exact .ok I
  refine N_ (S_ (S_ (rn 1 I ?_)))
  obtain ⟨⟨x10, x11⟩, hk, h⟩ := B h
  refine po (ecall (p_apl_Parse_ok hk) I I I I I I I I I) I I (on (nid' := 12) 7 I (rz (S_ (rn 4 I ?_))))
  rcases E_ h with ⟨hc, h⟩ | ⟨hc, h⟩
  ·refine gt I I I I hc I (on 21 I (rz (ct I I (ra I (R_ (C_ (Q_ ?_)))))))
   cases h
   exact .ret I I
  refine gf I I I I hc I (on 7 I ?_)
  rcases E_ h with ⟨hc, h⟩ | ⟨hc, h⟩
  ·refine gt I I I I hc I (on 14 I (rz (ct I I (ra I (R_ (C_ (Q_ ?_)))))))
   cases h
   exact .ret I I
  refine gf I I I I hc I (on 7 I ?_)
  rcases E_ h with ⟨hc, h⟩ | ⟨hc, h⟩
  ·refine gt I I I I hc I (on 7 I (rz (ct I I (ra I (R_ (C_ (Q_ ?_)))))))
   cases h
   exact .ret I I
  refine gf I I I I hc I (on 4 I ?_)
  obtain ⟨x12, hk, h⟩ := B h
  refine po (ecall (p_core_Same_ok hk) I I I I I I I I I) I I (on 2 I (rz ?_))
  rcases E_ h with ⟨hc, h⟩ | ⟨hc, h⟩
  ·refine ct I hc (ra I (R_ (C_ (Q_ ?_))))
   cases h
   exact .ret I I
  refine cf I hc (K_ (cn I (N_ (ra I (R_ ?_)))))
  cases h
  exact .ret I I
 refine gf I I I I hc I (on 5 I (rz (cf I I (K_ (cn I (N_ (S_ (drn (m := 10) 0 I I ?_))))))))
 obtain ⟨x13, hk, h⟩ := B h
 refine pd (ecall (p_apl_Grammar_ok hk) I I I I I I I I I) I I I I I (don 2 I ?_)
 obtain ⟨⟨s18, e3⟩, hk, h⟩ := B h
 refine pd (ecall (p_spell_Write_ok hk) I I I I I I I I I) I I I I I (don 5 I (dz (by kernel_rfl) (S_ (ra I ?_))))
 rcases E_ h with ⟨hc, h⟩ | ⟨hc, h⟩
 ·refine ct I hc (ra I (R_ (C_ (Q_ ?_))))
  cases h
  exact .ret I I
 refine cf I hc (K_ (cn I (N_ (S_ (ra I ?_)))))
 obtain ⟨s21, hs, h⟩ := B h
 refine awp_nrm (fun (s21 : Str) => (⟨[(1, .c (.ptr 0 0)), (4, .d (.str s21))], [(0, [.d (.str p.set_), .d (iZ p.origin), .d (iZ p.expr.kind), .d (iZ p.expr.op_), .d (.str p.expr.name), .d (lI p.expr.lit.shape), .d (lC p.expr.lit.cells), .d (lN p.expr.kids), .d (iZ p.expr.at_)])], 10, [], none⟩ : St)) (y := s21) ?_ ?_
 ·replace h := hs
  rcases E_ h with ⟨hc, h⟩ | ⟨hc, h⟩
  ·refine ct I hc (rn 2 I ?_)
   obtain ⟨s19, hk, h⟩ := B h
   refine po (escat hk I I I) I I (on 1 I ?_)
   obtain ⟨s20, hk, h⟩ := B h
   refine po (escat hk I I I) I I (on 1 I (O_ (cn I ?_)))
   cases h
   exact .ok I
  refine cf I hc (K_ (cn I ?_))
  cases h
  exact .ok I
 refine N_ (S_ (ra I ?_))
 obtain ⟨s23, hs, h⟩ := B h
 refine awp_nrm (fun (s23 : Str) => (⟨[(1, .c (.ptr 0 0)), (4, .d (.str s23))], [(0, [.d (.str p.set_), .d (iZ p.origin), .d (iZ p.expr.kind), .d (iZ p.expr.op_), .d (.str p.expr.name), .d (lI p.expr.lit.shape), .d (lC p.expr.lit.cells), .d (lN p.expr.kids), .d (iZ p.expr.at_)])], 10, [], none⟩ : St)) (y := s23) ?_ ?_
 ·replace h := hs
  rcases E_ h with ⟨hc, h⟩ | ⟨hc, h⟩
  ·refine ct I hc (rn 1 I ?_)
   obtain ⟨s22, hk, h⟩ := B h
   refine po (escat hk I I I) I I (on 1 I (O_ (cn I ?_)))
   cases h
   exact .ok I
  refine cf I hc (K_ (cn I ?_))
  cases h
  exact .ok I
 refine N_ (S_ (S_ (rn 1 I ?_)))
 obtain ⟨⟨x14, x15⟩, hk, h⟩ := B h
 refine po (ecall (p_apl_Parse_ok hk) I I I I I I I I I) I I (on (nid' := 12) 7 I (rz (S_ (rn 4 I ?_))))
 rcases E_ h with ⟨hc, h⟩ | ⟨hc, h⟩
 ·refine gt I I I I hc I (on 21 I (rz (ct I I (ra I (R_ (C_ (Q_ ?_)))))))
  cases h
  exact .ret I I
 refine gf I I I I hc I (on 7 I ?_)
 rcases E_ h with ⟨hc, h⟩ | ⟨hc, h⟩
 ·refine gt I I I I hc I (on 14 I (rz (ct I I (ra I (R_ (C_ (Q_ ?_)))))))
  cases h
  exact .ret I I
 refine gf I I I I hc I (on 7 I ?_)
 rcases E_ h with ⟨hc, h⟩ | ⟨hc, h⟩
 ·refine gt I I I I hc I (on 7 I (rz (ct I I (ra I (R_ (C_ (Q_ ?_)))))))
  cases h
  exact .ret I I
 refine gf I I I I hc I (on 4 I ?_)
 obtain ⟨x16, hk, h⟩ := B h
 refine po (ecall (p_core_Same_ok hk) I I I I I I I I I) I I (on 2 I (rz ?_))
 rcases E_ h with ⟨hc, h⟩ | ⟨hc, h⟩
 ·refine ct I hc (ra I (R_ (C_ (Q_ ?_))))
  cases h
  exact .ret I I
 refine cf I hc (K_ (cn I (N_ (ra I (R_ ?_)))))
 cases h
 exact .ret I I
theorem p_triglyphref03_ints_ok {a_ : Int} {b : Int} {r : Int} (h : p_triglyphref03_ints a_ b = some r) : aval X 69 [.d (iZ a_), .d (iZ b)] [] (CRes.ret (.d (iZ r)) []) := by
 unfold p_triglyphref03_ints at h
 refine aval_start (tm := [(0, .d (iZ a_)), (1, .d (iZ b))]) (hp := []) (n := 0) I Tryz.func69 I I I I I I (ra I (S_ (ra I ?_)))
 rcases E_ h with ⟨hc, h⟩ | ⟨hc, h⟩
 ·refine ct I hc (ra I (R_ (C_ (Q_ ?_))))
  cases h
  exact .ret I I
 refine cf I hc (K_ (cn I (N_ (S_ (ra I ?_)))))
 rcases E_ h with ⟨hc, h⟩ | ⟨hc, h⟩
 ·refine ct I hc (ra I (R_ (C_ (Q_ ?_))))
  cases h
  exact .ret I I
 refine cf I hc (K_ (cn I (N_ (ra I (R_ ?_)))))
 cases h
 exact .ret I I
abbrev Mp_triglyphref03_Cmp_l0 (a : Arr × Arr × Int × Int) (res : Int) : Prop := match a with | (a_, b, o1, i) => awpL X 38 (codeAt [1, 1, 0, 1, 0, 0] (bodyOf Tryz.f38)) (cleanAt (X.H 38 3) 2) (exitQ 0 (X.H 38 1000000) 2 (NrmQ (fun (o3 : Int) => (⟨[(2, .c (.ptr 0 0)), (3, .c (.ptr 1 0)), (5, .d (iZ o3))], [(1, [.d (lI b.shape), .d (lC b.cells)]), (0, [.d (lI a_.shape), .d (lC a_.cells)])], 2, [], none⟩ : St)) res)) ⟨[(2, .c (.ptr 0 0)), (3, .c (.ptr 1 0)), (5, .d (iZ o1)), (6, .d (iZ i))], [(1, [.d (lI b.shape), .d (lC b.cells)]), (0, [.d (lI a_.shape), .d (lC a_.cells)])], 2, [], none⟩
theorem p_triglyphref03_Cmp_l0_ih : ∀ a res, p_triglyphref03_Cmp_l0 a = some res → Mp_triglyphref03_Cmp_l0 a res := by
 refine p_triglyphref03_Cmp_l0.partial_correctness Mp_triglyphref03_Cmp_l0 ?_
 rintro p_triglyphref03_Cmp_l0' ih_p_triglyphref03_Cmp_l0 ⟨a_, b, o1, i⟩ res h
 refine lg I (S_ (S_ (rn 3 I (po (ellen I I I I I I I) I I (on 2 I ?_)))))
 rcases E_ h with ⟨hc, h⟩ | ⟨hc, h⟩
 ·refine gt I I I I hc I (on 3 I (rz ?_))
  rcases E_ h with ⟨hc, h⟩ | ⟨hc, h⟩
  ·refine ct I hc (K_ (cn I (N_ (S_ (W_ (drn (m := 14) 3 I I ?_))))))
   obtain ⟨y, hk, h⟩ := B h
   refine pd (elget (D.int .i64) (fun _ => I) hk I I I I I) I I I I I (don 4 I ?_)
   obtain ⟨y1, hk, h⟩ := B h
   refine pd (elget (D.int .i64) (fun _ => I) hk I I I I I) I I I I I (don 1 I ?_)
   obtain ⟨o2, hk, h⟩ := B h
   refine pd (ecall (p_triglyphref03_ints_ok hk) I I I I I I I I I) I I I I I (don 1 I (dz' (by kernel_rfl) (en I (N_ (rn 3 I (O_ (loopQ.normal ?_)))))))
   exact awpL_at I I (ih_p_triglyphref03_Cmp_l0 _ _ h)
  refine cf I hc (X_ (condQ.exit (seqQ.exit (loopQ.exit (eh I ?_)))))
  cases h
  exact .ok I
 refine gf I I I I hc I (on 3 I (rz (cf I I (X_ (condQ.exit (seqQ.exit (loopQ.exit (eh I ?_))))))))
 cases h
 exact .ok I
abbrev Mp_triglyphref03_Cmp_l1 (a : Arr × Arr × Int × Int) (res : Int) : Prop := match a with | (a_, b, o4, i1) => awpL X 38 (codeAt [1, 1, 1, 0, 1, 0, 0] (bodyOf Tryz.f38)) (cleanAt (X.H 38 7) 2) (exitQ 2 (X.H 38 1000002) 2 (NrmQ (fun (o6 : Int) => (⟨[(2, .c (.ptr 0 0)), (3, .c (.ptr 1 0)), (5, .d (iZ o6))], [(1, [.d (lI b.shape), .d (lC b.cells)]), (0, [.d (lI a_.shape), .d (lC a_.cells)])], 2, [], none⟩ : St)) res)) ⟨[(2, .c (.ptr 0 0)), (3, .c (.ptr 1 0)), (5, .d (iZ o4)), (7, .d (iZ i1))], [(1, [.d (lI b.shape), .d (lC b.cells)]), (0, [.d (lI a_.shape), .d (lC a_.cells)])], 2, [], none⟩
abbrev Mp_triglyphref03_Cmp (a : Arr × Arr) (res : Int) : Prop := match a with | (a_, b) => aval X 38 [.d (encArr a_), .d (encArr b)] [] (CRes.ret (.d (iZ res)) [])
abbrev Mp_triglyphref03_Cell (a : Cell × Cell) (res : Int) : Prop := match a with | (a_, b) => aval X 70 [.d (encCell a_), .d (encCell b)] [] (CRes.ret (.d (iZ res)) [])
theorem p_triglyphref03_Cmp_l1_grp : (∀ a res, p_triglyphref03_Cmp_l1 a = some res → Mp_triglyphref03_Cmp_l1 a res) ∧ (∀ a res, p_triglyphref03_Cell a = some res → Mp_triglyphref03_Cell a res) ∧ (∀ a res, p_triglyphref03_Cmp a = some res → Mp_triglyphref03_Cmp a res) := by
 refine p_triglyphref03_Cmp_l1.mutual_partial_correctness (motive_1 := Mp_triglyphref03_Cmp_l1) (motive_2 := Mp_triglyphref03_Cell) (motive_3 := Mp_triglyphref03_Cmp) ?_ ?_ ?_
 ·rintro p_triglyphref03_Cmp_l1' p_triglyphref03_Cell' ih_p_triglyphref03_Cmp_l1 ih_p_triglyphref03_Cell ⟨a_, b, o4, i1⟩ res h
  refine lg I (S_ (S_ (rn 3 I (po (ellen I I I I I I I) I I (on 2 I ?_)))))
  rcases E_ h with ⟨hc, h⟩ | ⟨hc, h⟩
  ·refine gt I I I I hc I (on 3 I (po (ellen I I I I I I I) I I (on 3 I ?_)))
   rcases E_ h with ⟨hc, h⟩ | ⟨hc, h⟩
   ·refine gt I I I I hc I (on 3 I (rz ?_))
    rcases E_ h with ⟨hc, h⟩ | ⟨hc, h⟩
    ·refine ct I hc (K_ (cn I (N_ (S_ (W_ (drn (m := 14) 3 I I ?_))))))
     obtain ⟨y2, hk, h⟩ := B h
     refine pd (elget encCell (fun _ => I) hk I I I I I) I I I I I (don 4 I ?_)
     obtain ⟨y3, hk, h⟩ := B h
     refine pd (elget encCell (fun _ => I) hk I I I I I) I I I I I (don 1 I ?_)
     obtain ⟨o5, hk, h⟩ := B h
     refine pd (ecall (ih_p_triglyphref03_Cell _ _ hk) I I I I I I I I I) I I I I I (don 1 I (dz' (by kernel_rfl) (en I (N_ (rn 3 I (O_ (loopQ.normal ?_)))))))
     exact awpL_at I I (ih_p_triglyphref03_Cmp_l1 _ _ h)
    refine cf I hc (X_ (condQ.exit (seqQ.exit (loopQ.exit (eh I ?_)))))
    cases h
    exact .ok I
   refine gf I I I I hc I (on 3 I (rz (cf I I (X_ (condQ.exit (seqQ.exit (loopQ.exit (eh I ?_))))))))
   cases h
   exact .ok I
  refine gf I I I I hc I (on 10 I (rz (cf I I (X_ (condQ.exit (seqQ.exit (loopQ.exit (eh I ?_))))))))
  cases h
  exact .ok I
 ·rintro p_triglyphref03_Cmp' ih_p_triglyphref03_Cmp ⟨a_, b⟩ res h
  refine aval_start (tm := [(0, .d (encCell a_)), (1, .d (encCell b))]) (hp := []) (n := 0) I Tryz.func70 I I I I I I (ra (nid' := 2) I (S_ (rn 4 I ?_)))
  obtain ⟨o, hk, h⟩ := B h
  refine po (ecall (p_triglyphref03_ints_ok hk) I I I I I I I I I) I I (on 1 I (rz (S_ (ra I ?_))))
  obtain ⟨o2, hs, h⟩ := B h
  refine awp_nrm (fun (o2 : Int) => (⟨[(2, .c (.ptr 0 0)), (3, .c (.ptr 1 0)), (5, .d (iZ o2))], [(1, [.d (iZ b.kind), .d (iZ b.n), .d (.list 2 (List.map encArrR b.box))]), (0, [.d (iZ a_.kind), .d (iZ a_.n), .d (.list 2 (List.map encArrR a_.box))])], 2, [], none⟩ : St)) (y := o2) ?_ ?_
  ·replace h := hs
   rcases E_ h with ⟨hc, h⟩ | ⟨hc, h⟩
   ·refine ct I hc (rn 4 I ?_)
    obtain ⟨o1, hk, h⟩ := B h
    refine po (ecall (p_triglyphref03_ints_ok hk) I I I I I I I I I) I I (on 1 I (O_ (cn I ?_)))
    cases h
    exact .ok I
   refine cf I hc (K_ (cn I ?_))
   cases h
   exact .ok I
  refine N_ (S_ (S_ (rn 3 I ?_)))
  rcases E_ h with ⟨hc, h⟩ | ⟨hc, h⟩
  ·refine gt I I I I hc I (on 2 I (po (ellen I I I I I I I) I I (on 3 I ?_)))
   rcases E_ h with ⟨hc, h⟩ | ⟨hc, h⟩
   ·refine gt I I I I hc I (on 2 I (po (ellen I I I I I I I) I I (on 2 I (rz ?_))))
    rcases E_ h with ⟨hc, h⟩ | ⟨hc, h⟩
    ·refine ct I hc (S_ (drn (m := 12) 2 I I ?_))
     obtain ⟨y, hk, h⟩ := B h
     refine pd (elget encArr encArrR_eq hk I I I I I) I I I I I (don 3 I ?_)
     obtain ⟨y1, hk, h⟩ := B h
     refine pd (elget encArr encArrR_eq hk I I I I I) I I I I I (don 1 I ?_)
     obtain ⟨x, hk, h⟩ := B h
     refine pd (ecall (ih_p_triglyphref03_Cmp _ _ hk) I I I I I I I I I) I I I I I (don 1 I (dz (by kernel_rfl) (R_ (C_ (Q_ ?_)))))
     cases h
     exact .ret I I
    refine cf I hc (K_ (cn I (N_ (S_ (ra I ?_)))))
    obtain ⟨o4, hs, h⟩ := B h
    refine awp_nrm (fun (o4 : Int) => (⟨[(5, .d (iZ o4))], [(1, [.d (iZ b.kind), .d (iZ b.n), .d (.list 2 (List.map encArrR b.box))]), (0, [.d (iZ a_.kind), .d (iZ a_.n), .d (.list 2 (List.map encArrR a_.box))])], 2, [], none⟩ : St)) (y := o4) ?_ ?_
    ·replace h := hs
     rcases E_ h with ⟨hc, h⟩ | ⟨hc, h⟩
     ·refine ct I hc (rn 2 I (po (ellen I I I I I I I) I I (on 2 I (po (ellen I I I I I I I) I I ?_))))
      obtain ⟨o3, hk, h⟩ := B h
      refine po (ecall (p_triglyphref03_ints_ok hk) I I I I I I I I I) I I (on 1 I (O_ (cn I ?_)))
      cases h
      exact .ok I
     refine cf I hc (K_ (cn I ?_))
     cases h
     exact .ok I
    refine N_ (ra I (R_ ?_))
    cases h
    exact .ret I I
   refine gf I I I I hc I (on 5 I (rz (cf I I (K_ (cn I (N_ (S_ (ra I ?_))))))))
   obtain ⟨o6, hs, h⟩ := B h
   refine awp_nrm (fun (o6 : Int) => (⟨[(5, .d (iZ o6))], [(1, [.d (iZ b.kind), .d (iZ b.n), .d (.list 2 (List.map encArrR b.box))]), (0, [.d (iZ a_.kind), .d (iZ a_.n), .d (.list 2 (List.map encArrR a_.box))])], 2, [], none⟩ : St)) (y := o6) ?_ ?_
   ·replace h := hs
    rcases E_ h with ⟨hc, h⟩ | ⟨hc, h⟩
    ·refine ct I hc (rn 2 I (po (ellen I I I I I I I) I I (on 2 I (po (ellen I I I I I I I) I I ?_))))
     obtain ⟨o5, hk, h⟩ := B h
     refine po (ecall (p_triglyphref03_ints_ok hk) I I I I I I I I I) I I (on 1 I (O_ (cn I ?_)))
     cases h
     exact .ok I
    refine cf I hc (K_ (cn I ?_))
    cases h
    exact .ok I
   refine N_ (ra I (R_ ?_))
   cases h
   exact .ret I I
  refine gf I I I I hc I (on 11 I (rz (cf I I (K_ (cn I (N_ (S_ (ra I ?_))))))))
  obtain ⟨o8, hs, h⟩ := B h
  refine awp_nrm (fun (o8 : Int) => (⟨[(5, .d (iZ o8))], [(1, [.d (iZ b.kind), .d (iZ b.n), .d (.list 2 (List.map encArrR b.box))]), (0, [.d (iZ a_.kind), .d (iZ a_.n), .d (.list 2 (List.map encArrR a_.box))])], 2, [], none⟩ : St)) (y := o8) ?_ ?_
  ·replace h := hs
   rcases E_ h with ⟨hc, h⟩ | ⟨hc, h⟩
   ·refine ct I hc (rn 2 I (po (ellen I I I I I I I) I I (on 2 I (po (ellen I I I I I I I) I I ?_))))
    obtain ⟨o7, hk, h⟩ := B h
    refine po (ecall (p_triglyphref03_ints_ok hk) I I I I I I I I I) I I (on 1 I (O_ (cn I ?_)))
    cases h
    exact .ok I
   refine cf I hc (K_ (cn I ?_))
   cases h
   exact .ok I
  refine N_ (ra I (R_ ?_))
  cases h
  exact .ret I I
 rintro p_triglyphref03_Cmp_l1' ih_p_triglyphref03_Cmp_l1 ⟨a_, b⟩ res h
 refine aval_start (tm := [(0, .d (encArr a_)), (1, .d (encArr b))]) (hp := []) (n := 0) I Tryz.func38 I I I I I I (ra (nid' := 2) I (S_ (rn 2 I (po (ellen I I I I I I I) I I (on 2 I (po (ellen I I I I I I I) I I ?_))))))
 obtain ⟨o, hk, h⟩ := B h
 refine po (ecall (p_triglyphref03_ints_ok hk) I I I I I I I I I) I I (on 1 I (rz (S_ (ra I ?_))))
 obtain ⟨o3, hs, h⟩ := B h
 refine awp_nrm (fun (o3 : Int) => (⟨[(2, .c (.ptr 0 0)), (3, .c (.ptr 1 0)), (5, .d (iZ o3))], [(1, [.d (lI b.shape), .d (lC b.cells)]), (0, [.d (lI a_.shape), .d (lC a_.cells)])], 2, [], none⟩ : St)) (y := o3) ?_ ?_
 ·replace h := hs
  refine W_ (awp_loop ?_)
  exact awpL_at I I (p_triglyphref03_Cmp_l0_ih _ _ h)
 refine N_ (S_ (ra I ?_))
 obtain ⟨o6, hs, h⟩ := B h
 refine awp_nrm (fun (o6 : Int) => (⟨[(2, .c (.ptr 0 0)), (3, .c (.ptr 1 0)), (5, .d (iZ o6))], [(1, [.d (lI b.shape), .d (lC b.cells)]), (0, [.d (lI a_.shape), .d (lC a_.cells)])], 2, [], none⟩ : St)) (y := o6) ?_ ?_
 ·replace h := hs
  refine W_ (awp_loop ?_)
  exact awpL_at I I (ih_p_triglyphref03_Cmp_l1 _ _ h)
 refine N_ (S_ (ra I ?_))
 obtain ⟨o8, hs, h⟩ := B h
 refine awp_nrm (fun (o8 : Int) => (⟨[(5, .d (iZ o8))], [(1, [.d (lI b.shape), .d (lC b.cells)]), (0, [.d (lI a_.shape), .d (lC a_.cells)])], 2, [], none⟩ : St)) (y := o8) ?_ ?_
 ·replace h := hs
  rcases E_ h with ⟨hc, h⟩ | ⟨hc, h⟩
  ·refine ct I hc (rn 2 I (po (ellen I I I I I I I) I I (on 2 I (po (ellen I I I I I I I) I I ?_))))
   obtain ⟨o7, hk, h⟩ := B h
   refine po (ecall (p_triglyphref03_ints_ok hk) I I I I I I I I I) I I (on 1 I (O_ (cn I ?_)))
   cases h
   exact .ok I
  refine cf I hc (K_ (cn I ?_))
  cases h
  exact .ok I
 refine N_ (ra I (R_ ?_))
 cases h
 exact .ret I I
theorem p_triglyphref03_Cmp_ih : ∀ a res, p_triglyphref03_Cmp a = some res → Mp_triglyphref03_Cmp a res := p_triglyphref03_Cmp_l1_grp.2.2
theorem p_triglyphref03_Cmp_ok {a : Arr × Arr} {res : Int} (h : p_triglyphref03_Cmp a = some res) : Mp_triglyphref03_Cmp a res := p_triglyphref03_Cmp_ih a res h
abbrev Mp_triglyphref10_Same_l0 (a : Node × Node × Int) (res : Except (Bool) (Unit)) : Prop := match a with | (a_, b, i) => awpL X 25 (codeAt [1, 1, 0, 1, 0, 0] (bodyOf Tryz.f25)) (cleanAt (X.H 25 4) 2) (exitQ 0 (X.H 25 1000000) 2 (SubQ X Tryz.f25 0 (fun (r : Bool) => (CRes.ret (.d (.bool r)) [])) (fun (_ : Unit) => (⟨[], [(1, [.d (iZ b.kind), .d (iZ b.op_), .d (.str b.name), .d (lI b.lit.shape), .d (lC b.lit.cells), .d (lN b.kids), .d (iZ b.at_)]), (0, [.d (iZ a_.kind), .d (iZ a_.op_), .d (.str a_.name), .d (lI a_.lit.shape), .d (lC a_.lit.cells), .d (lN a_.kids), .d (iZ a_.at_)])], 2, [], none⟩ : St)) res)) ⟨[(2, .c (.ptr 0 0)), (3, .c (.ptr 1 0)), (5, .d (iZ i))], [(1, [.d (iZ b.kind), .d (iZ b.op_), .d (.str b.name), .d (lI b.lit.shape), .d (lC b.lit.cells), .d (lN b.kids), .d (iZ b.at_)]), (0, [.d (iZ a_.kind), .d (iZ a_.op_), .d (.str a_.name), .d (lI a_.lit.shape), .d (lC a_.lit.cells), .d (lN a_.kids), .d (iZ a_.at_)])], 2, [], none⟩
abbrev Mp_triglyphref10_Same (a : Node × Node) (res : Bool) : Prop := match a with | (a_, b) => aval X 25 [.d (encNode a_), .d (encNode b)] [] (CRes.ret (.d (.bool res)) [])
theorem p_triglyphref10_Same_l0_grp : (∀ a res, p_triglyphref10_Same_l0 a = some res → Mp_triglyphref10_Same_l0 a res) ∧ (∀ a res, p_triglyphref10_Same a = some res → Mp_triglyphref10_Same a res) := by
 refine p_triglyphref10_Same_l0.mutual_partial_correctness (motive_1 := Mp_triglyphref10_Same_l0) (motive_2 := Mp_triglyphref10_Same) ?_ ?_
 ·rintro p_triglyphref10_Same_l0' p_triglyphref10_Same' ih_p_triglyphref10_Same_l0 ih_p_triglyphref10_Same ⟨a_, b, i⟩ res h
  refine lg I (S_ (S_ (rn 3 I (po (ellen I I I I I I I) I I (on 1 I (rz ?_))))))
  rcases E_ h with ⟨hc, h⟩ | ⟨hc, h⟩
  ·refine ct I hc (K_ (cn I (N_ (S_ (W_ (S_ (drn (m := 14) 3 I I ?_)))))))
   obtain ⟨y, hk, h⟩ := B h
   refine pd (elget encNode encNodeR_eq hk I I I I I) I I I I I (don 4 I ?_)
   obtain ⟨y1, hk, h⟩ := B h
   refine pd (elget encNode encNodeR_eq hk I I I I I) I I I I I (don 1 I ?_)
   obtain ⟨x1, hk, h⟩ := B h
   refine pd (ecall (ih_p_triglyphref10_Same _ _ hk) I I I I I I I I I) I I I I I (don 1 I (dz (by kernel_rfl) ?_))
   rcases E_ h with ⟨hc, h⟩ | ⟨hc, h⟩
   ·refine ct I hc (ra I (R_ (C_ (exitQ.ret (Q_ (loopQ.ret (exitQ.ret ?_)))))))
    cases h
    exact .err I (.ret I I)
   refine cf I hc (K_ (cn I (en I (N_ (rn 3 I (O_ (loopQ.normal ?_)))))))
   exact awpL_at I I (ih_p_triglyphref10_Same_l0 _ _ h)
  refine cf I hc (X_ (condQ.exit (seqQ.exit (loopQ.exit (eh I ?_)))))
  cases h
  exact .ok I
 rintro p_triglyphref10_Same_l0' ih_p_triglyphref10_Same_l0 ⟨a_, b⟩ res h
 refine aval_start (tm := [(0, .d (encNode a_)), (1, .d (encNode b))]) (hp := []) (n := 0) I Tryz.func25 I I I I I I (ra (nid' := 2) I (S_ (S_ (rn 6 I ?_))))
 rcases E_ h with ⟨hc, h⟩ | ⟨hc, h⟩
 ·refine gt I I I I hc I (on 30 I (rz (ct I I (ra I (R_ (C_ (Q_ ?_)))))))
  cases h
  exact .ret I I
 refine gf I I I I hc I (on 7 I ?_)
 rcases E_ h with ⟨hc, h⟩ | ⟨hc, h⟩
 ·refine gt I I I I hc I (on 23 I (rz (ct I I (ra I (R_ (C_ (Q_ ?_)))))))
  cases h
  exact .ret I I
 refine gf I I I I hc I (on 7 I ?_)
 rcases E_ h with ⟨hc, h⟩ | ⟨hc, h⟩
 ·refine gt I I I I hc I (on 16 I (rz (ct I I (ra I (R_ (C_ (Q_ ?_)))))))
  cases h
  exact .ret I I
 refine gf I I I I hc I (on 2 I (po (ellen I I I I I I I) I I (on 2 I (po (ellen I I I I I I I) I I (on 3 I ?_)))))
 rcases E_ h with ⟨hc, h⟩ | ⟨hc, h⟩
 ·refine gt I I I I hc I (on 7 I (rz (ct I I (ra I (R_ (C_ (Q_ ?_)))))))
  cases h
  exact .ret I I
 refine gf I I I I hc I (on 4 I ?_)
 obtain ⟨x, hk, h⟩ := B h
 refine po (ecall (p_triglyphref03_Cmp_ok hk) I I I I I I I I I) I I (on 2 I (rz ?_))
 rcases E_ h with ⟨hc, h⟩ | ⟨hc, h⟩
 ·refine ct I hc (ra I (R_ (C_ (Q_ ?_))))
  cases h
  exact .ret I I
 refine cf I hc (K_ (cn I (N_ (S_ (ra I ?_)))))
 obtain ⟨res, hs, h⟩ := B h
 refine awp_sub Tryz.f25 0 (fun (r : Bool) => (CRes.ret (.d (.bool r)) [])) (fun (_ : Unit) => (⟨[], [(1, [.d (iZ b.kind), .d (iZ b.op_), .d (.str b.name), .d (lI b.lit.shape), .d (lC b.lit.cells), .d (lN b.kids), .d (iZ b.at_)]), (0, [.d (iZ a_.kind), .d (iZ a_.op_), .d (.str a_.name), .d (lI a_.lit.shape), .d (lC a_.lit.cells), .d (lN a_.kids), .d (iZ a_.at_)])], 2, [], none⟩ : St)) (res := res) ?_ (fun y hy => ?_) (fun r x s' hr hx he => ?_)
 ·replace h := hs
  refine W_ (awp_loop ?_)
  exact awpL_at I I (ih_p_triglyphref10_Same_l0 _ _ h)
 ·subst hy
  refine N_ (ra I (R_ ?_))
  cases h
  exact .ret I I
 subst hr
 refine seqQ.out hx ?_
 cases h
 exact he
theorem p_triglyphref10_Same_ih : ∀ a res, p_triglyphref10_Same a = some res → Mp_triglyphref10_Same a res := p_triglyphref10_Same_l0_grp.2
theorem p_triglyphref10_Same_ok {a : Node × Node} {res : Bool} (h : p_triglyphref10_Same a = some res) : Mp_triglyphref10_Same a res := p_triglyphref10_Same_ih a res h
theorem p_triglyphref17_Same_ok {a_ : Prgm} {b : Prgm} {r : Bool} (h : p_triglyphref17_Same a_ b = some r) : aval X 16 [.d (encPrgm a_), .d (encPrgm b)] [] (CRes.ret (.d (.bool r)) []) := by
 unfold p_triglyphref17_Same at h
 refine aval_start (tm := [(0, .d (encPrgm a_)), (1, .d (encPrgm b))]) (hp := []) (n := 0) I Tryz.func16 I I I I I I (ra (nid' := 2) I (S_ (rn 6 I ?_)))
 rcases E_ h with ⟨hc, h⟩ | ⟨hc, h⟩
 ·refine gt I I I I hc I (on 7 I ?_)
  rcases E_ h with ⟨hc, h⟩ | ⟨hc, h⟩
  ·refine gt I I I I hc I (on 4 I ?_)
   obtain ⟨x, hk, h⟩ := B h
   refine po (ecall (p_triglyphref10_Same_ok hk) I I I I I I I I I) I I (on 2 I (rz (R_ ?_)))
   cases h
   exact .ret I I
  refine gf I I I I hc I (on 7 I (rz (R_ ?_)))
  cases h
  exact .ret I I
 refine gf I I I I hc I (on 14 I (rz (R_ ?_)))
 cases h
 exact .ret I I
theorem p_triglyphlaw17_AplOnce_ok {s : Str} {r : Bool} (h : p_triglyphlaw17_AplOnce s = some r) : aval X 5 [.d (.str s)] [] (CRes.ret (.d (.bool r)) []) := by
 unfold p_triglyphlaw17_AplOnce at h
 refine aval_start (tm := [(0, .d (.str s))]) (hp := []) (n := 0) I Tryz.func5 I I I I I I (ra I (S_ (ra I ?_)))
 rcases E_ h with ⟨hc, h⟩ | ⟨hc, h⟩
 ·refine ct I hc (S_ (rn 0 I ?_))
  obtain ⟨x, hk, h⟩ := B h
  refine po (ecall (go_works_ok hk) I I I I I I I I I) I I (on 1 I (rz (R_ (C_ (Q_ ?_)))))
  cases h
  exact .ret I I
 refine cf I hc (K_ (cn I (N_ (S_ (rn 1 I ?_)))))
 obtain ⟨⟨x1, x2⟩, hk, h⟩ := B h
 refine po (ecall (p_apl_Parse_ok hk) I I I I I I I I I) I I (on (nid' := 2) 7 I (rz (S_ (ra I ?_))))
 rcases E_ h with ⟨hc, h⟩ | ⟨hc, h⟩
 ·refine ct I hc (S_ (rn 0 I ?_))
  obtain ⟨x3, hk, h⟩ := B h
  refine po (ecall (go_works_ok hk) I I I I I I I I I) I I (on 1 I (rz (R_ (C_ (Q_ ?_)))))
  cases h
  exact .ret I I
 refine cf I hc (K_ (cn I (N_ (S_ (rn 1 I ?_)))))
 obtain ⟨⟨t, e⟩, hk, h⟩ := B h
 refine po (ecall (p_apl_Print_ok hk) I I I I I I I I I) I I (on 5 I (rz (S_ (ra I ?_))))
 rcases E_ h with ⟨hc, h⟩ | ⟨hc, h⟩
 ·refine ct I hc (S_ (rn 0 I ?_))
  obtain ⟨x4, hk, h⟩ := B h
  refine po (ecall (go_works_ok hk) I I I I I I I I I) I I (on 1 I (rz (R_ (C_ (Q_ ?_)))))
  cases h
  exact .ret I I
 refine cf I hc (K_ (cn I (N_ (S_ (rn 1 I ?_)))))
 obtain ⟨⟨x5, x6⟩, hk, h⟩ := B h
 refine po (ecall (p_apl_Parse_ok hk) I I I I I I I I I) I I (on (nid' := 3) 6 I (rz (S_ (rn 1 I ?_))))
 obtain ⟨⟨u, e1⟩, hk, h⟩ := B h
 refine po (ecall (p_apl_Print_ok hk) I I I I I I I I I) I I (on 5 I (rz (S_ (rn 4 I ?_))))
 rcases E_ h with ⟨hc, h⟩ | ⟨hc, h⟩
 ·refine gt I I I I hc I (on 4 I ?_)
  rcases E_ h with ⟨hc, h⟩ | ⟨hc, h⟩
  ·refine gt I I I I hc I (on 5 I ?_)
   rcases E_ h with ⟨hc, h⟩ | ⟨hc, h⟩
   ·refine gt I I I I hc I (on 2 I ?_)
    obtain ⟨x7, hk, h⟩ := B h
    refine po (ecall (p_triglyphref17_Same_ok hk) I I I I I I I I I) I I (on 2 I ?_)
    rcases E_ h with ⟨hc, h⟩ | ⟨hc, h⟩
    ·refine gt I I I I hc I ?_
     obtain ⟨x8, hk, h⟩ := B h
     refine po (ecall (go_works_ok hk) I I I I I I I I I) I I (on 2 I (rz (R_ ?_)))
     cases h
     exact .ret I I
    refine gf I I I I hc I (on 3 I (rz (R_ ?_)))
    cases h
    exact .ret I I
   refine gf I I I I hc I (on 8 I (rz (R_ ?_)))
   cases h
   exact .ret I I
  refine gf I I I I hc I (on 13 I (rz (R_ ?_)))
  cases h
  exact .ret I I
 refine gf I I I I hc I (on 17 I (rz (R_ ?_)))
 cases h
 exact .ret I I
end Go.AM.Seat
