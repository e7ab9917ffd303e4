/- Part of a proof about the given program: the abstract machine, the printed functions, the plain laws. (YFjlex_word, YFjlex_Lex, YFjay_Parse, YFarr_order_int, YFarr_Cmp_2, YFarr_Cmp_1__arr_Cmp_2, YFarr_order_int64, YFarr_Cmp, YFarr_Same, YFcore_Same, YFarr_Size, YFarr_good, YFarr_check, YFarr_Checkx, YFcore_Literal, YFrunes_put_full, YFrunes_Write, YFspell_digits, YFspell_Number, YFspell_sign, YFspell_Literal, YFspell_writer_fits, YFspell_writer_glue, YFspell_writer_words, YFspell_writer_expr, YFspell_Write, YFjay_Print, YFtriglyphref03_ints, YFtriglyphref03_Cmp, YFtriglyphref10_Same, YFtriglyphref18_Same, YFtriglyphlaw18_JayOnce, YP0, YP1, YP2, YP3, YP4) -/
import Derived.Test.YtbpldjfhpbebfaaGreatDoorA4
import Derived.Laws.Cover4
set_option linter.all false
set_option linter.unusedSectionVars false
set_option linter.unusedVariables false
set_option linter.unusedSimpArgs false

namespace Go.AM.Seat
open Go Go.AM Go.Proofs
set_option maxRecDepth 100000
set_option maxHeartbeats 4000000
set_option linter.unusedVariables false
theorem p_jlex_word_l0_ok : ∀ (a : Str × ((List Token)) × Int) (res : Except (Token × Int × Fault) (Unit)), p_jlex_word_l0 a = some res → (match a with | (s, x7, x8) => awpL X 16 (codeAt [1, 1, 1, 1, 0, 1, 0, 0] (bodyOf Tryz.f16)) (cleanAt (X.H 16 19) 3) (exitQ 1 (X.H 16 1000001) 3 (SubQ X Tryz.f16 0 (fun (r : Token × Int × Fault) => (CRes.ret (.tuple [.d (encToken r.1), .d (.int .i64 r.2.1), .d (encFault r.2.2)]) [])) (fun (_ : Unit) => (⟨[(2, .c (.ptr 0 0)), (4, .c (.ptr 1 0)), (5, .c (.ptr 2 0))], [(2, [.d (.int .i64 (Fault.mk 2 0 0).err), .d (.int .i64 (Fault.mk 2 0 0).at_), .d (.int .i64 (Fault.mk 2 0 0).why)]), (1, [.d (.int .i64 0), .d (.int .i64 0), .d (.int .i64 0)]), (0, [.d (.int .i64 0), .d (.str []), .own 1 (List.map (D.int .i64) []), .own 3 (List.map encCell []), .d (.int .i64 0)])], 3, [], none⟩ : St)) res)) ⟨[(0, .d (.str s)), (2, .c (.ptr 0 0)), (4, .c (.ptr 1 0)), (5, .c (.ptr 2 0)), (79, .d (.list 5 (List.map encToken x7))), (80, .d (.int .i64 (List.length x7 : Int))), (81, .d (.int .i64 x8))], [(2, [.d (.int .i64 (Fault.mk 2 0 0).err), .d (.int .i64 (Fault.mk 2 0 0).at_), .d (.int .i64 (Fault.mk 2 0 0).why)]), (1, [.d (.int .i64 0), .d (.int .i64 0), .d (.int .i64 0)]), (0, [.d (.int .i64 0), .d (.str []), .own 1 (List.map (D.int .i64) []), .own 3 (List.map encCell []), .d (.int .i64 0)])], 3, [], none⟩) := by
 refine p_jlex_word_l0.partial_correctness _ ?_
 rintro p_jlex_word_l0' ih ⟨s, x7, x8⟩ res h
 refine lg rfl ?_
 refine ra rfl ?_
 refine awp_seq ?_
 rcases ite_inv h with ⟨hc, h⟩ | ⟨hc, h⟩
 ·refine ct rfl hc ?_
  refine awp_skip ?_
  refine cn rfl ?_
  refine seqQ.normal ?_
  refine awp_seq ?_
  refine awp_block ?_
  refine awp_seq ?_
  refine rn 0 rfl ?_
  obtain ⟨y, hk, h⟩ := bind_inv h
  refine po (elget encToken (fun _ => rfl) hk rfl rfl rfl rfl rfl) rfl rfl ?_
  refine on (nid' := 4) 3 rfl ?_
  refine rz ?_
  refine awp_seq ?_
  refine rn 3 rfl ?_
  obtain ⟨x9, hk, h⟩ := bind_inv h
  refine po (ecall (p_strings_HasPrefix_ok hk) rfl rfl rfl rfl rfl rfl rfl rfl rfl) rfl rfl ?_
  refine rz ?_
  rcases ite_inv h with ⟨hc, h⟩ | ⟨hc, h⟩
  ·refine ct rfl hc ?_
   refine awp_seq ?_
   refine awp_seq ?_
   refine rn 4 rfl ?_
   rcases ite_inv h with ⟨hc, h⟩ | ⟨hc, h⟩
   ·refine gt rfl rfl rfl rfl hc rfl ?_
    refine on 1 rfl ?_
    obtain ⟨x10, hk, h⟩ := bind_inv h
    refine po (ecall (p_jlex_at_ok hk) rfl rfl rfl rfl rfl rfl rfl rfl rfl) rfl rfl ?_
    obtain ⟨x11, hk, h⟩ := bind_inv h
    refine po (ecall (p_jlex_digit_ok hk) rfl rfl rfl rfl rfl rfl rfl rfl rfl) rfl rfl ?_
    refine on 1 rfl ?_
    refine rz ?_
    rcases ite_inv h with ⟨hc, h⟩ | ⟨hc, h⟩
    ·refine ct rfl hc ?_
     refine awp_seq ?_
     refine drn (m := 9) 5 rfl rfl ?_
     refine dz (by kernel_rfl) ?_
     refine awp_ret ?_
     refine condQ.ret ?_
     refine seqQ.ret ?_
     refine condQ.ret ?_
     refine exitQ.ret ?_
     refine seqQ.ret ?_
     refine loopQ.ret ?_
     refine exitQ.ret ?_
     cases h
     exact .err rfl (.ret rfl rfl)
    ·refine cf rfl hc ?_
     refine awp_skip ?_
     refine cn rfl ?_
     refine seqQ.normal ?_
     refine awp_seq ?_
     refine drn (m := 12) 8 rfl rfl ?_
     refine dz (by kernel_rfl) ?_
     refine awp_ret ?_
     refine condQ.ret ?_
     refine exitQ.ret ?_
     refine seqQ.ret ?_
     refine loopQ.ret ?_
     refine exitQ.ret ?_
     cases h
     exact .err rfl (.ret rfl rfl)
   ·refine gf rfl rfl rfl rfl hc rfl ?_
    refine on 4 rfl ?_
    refine rz ?_
    refine cf rfl rfl ?_
    refine awp_skip ?_
    refine cn rfl ?_
    refine seqQ.normal ?_
    refine awp_seq ?_
    refine drn (m := 12) 8 rfl rfl ?_
    refine dz (by kernel_rfl) ?_
    refine awp_ret ?_
    refine condQ.ret ?_
    refine exitQ.ret ?_
    refine seqQ.ret ?_
    refine loopQ.ret ?_
    refine exitQ.ret ?_
    cases h
    exact .err rfl (.ret rfl rfl)
  ·refine cf rfl hc ?_
   refine awp_skip ?_
   refine cn rfl ?_
   refine en rfl ?_
   refine seqQ.normal ?_
   refine rn 2 rfl ?_
   refine awpO_nil ?_
   refine loopQ.normal ?_
   exact awpL_at rfl rfl (ih _ _ h)
 ·refine cf rfl hc ?_
  refine awp_exit ?_
  refine condQ.exit ?_
  refine seqQ.exit ?_
  refine loopQ.exit ?_
  refine eh rfl ?_
  cases h
  exact .ok rfl
theorem p_jlex_word_ok {s : Str} {r : Token × Int × Fault} (h : p_jlex_word s = some r) : aval X 16 [.d (.str s)] [] (CRes.ret (.tuple [.d (encToken r.1), .d (.int .i64 r.2.1), .d (encFault r.2.2)]) []) := by
 unfold p_jlex_word at h
 refine aval_start (tm := [(0, .d (.str s))]) (hp := []) (n := 0) rfl Tryz.func16 rfl rfl rfl rfl rfl rfl ?_
 refine ra (nid' := 2) rfl ?_
 refine ra (nid' := 3) rfl ?_
 refine awp_seq ?_
 refine awp_seq ?_
 refine rn 1 rfl ?_
 obtain ⟨b, hk, h⟩ := bind_inv h
 refine po (esbytes hk rfl rfl rfl rfl rfl rfl) rfl rfl ?_
 obtain ⟨⟨x, k⟩, hk, h⟩ := bind_inv h
 refine po (ecall (p_runes_One_ok hk) rfl rfl rfl rfl rfl rfl rfl rfl rfl) rfl rfl ?_
 refine on 5 rfl ?_
 refine rz ?_
 refine ra rfl ?_
 rcases ite_inv h with ⟨hc, h⟩ | ⟨hc, h⟩
 ·refine ct rfl hc ?_
  refine ra rfl ?_
  refine awp_ret ?_
  refine condQ.ret ?_
  refine seqQ.ret ?_
  cases h
  exact .ret rfl rfl
 ·refine cf rfl hc ?_
  refine awp_skip ?_
  refine cn rfl ?_
  refine seqQ.normal ?_
  refine awp_seq ?_
  refine awp_block ?_
  refine awp_seq ?_
  refine rn 1 rfl ?_
  obtain ⟨x1, hk, h⟩ := bind_inv h
  refine po (ecall (p_jlex_begins_ok hk) rfl rfl rfl rfl rfl rfl rfl rfl rfl) rfl rfl ?_
  refine on 1 rfl ?_
  refine rz ?_
  rcases ite_inv h with ⟨hc, h⟩ | ⟨hc, h⟩
  ·refine ct rfl hc ?_
   refine awp_seq ?_
   refine rn 1 rfl ?_
   obtain ⟨⟨x2, k1, where_⟩, hk, h⟩ := bind_inv h
   refine po (ecall (p_jlex_numbers_ok hk) rfl rfl rfl rfl rfl rfl rfl rfl rfl) rfl rfl ?_
   refine on (nid' := 4) 8 rfl ?_
   refine rz ?_
   refine awp_seq ?_
   refine ra rfl ?_
   rcases ite_inv h with ⟨hc, h⟩ | ⟨hc, h⟩
   ·refine ct rfl hc ?_
    refine ra rfl ?_
    refine awp_ret ?_
    refine condQ.ret ?_
    refine seqQ.ret ?_
    refine condQ.ret ?_
    refine exitQ.ret ?_
    refine seqQ.ret ?_
    cases h
    exact .ret rfl rfl
   ·refine cf rfl hc ?_
    refine awp_skip ?_
    refine cn rfl ?_
    refine seqQ.normal ?_
    refine ra rfl ?_
    refine awp_ret ?_
    refine condQ.ret ?_
    refine exitQ.ret ?_
    refine seqQ.ret ?_
    cases h
    exact .ret rfl rfl
  ·refine cf rfl hc ?_
   refine awp_seq ?_
   refine rn 1 rfl ?_
   obtain ⟨c, hk, h⟩ := bind_inv h
   refine po (esget hk rfl rfl rfl rfl) rfl rfl ?_
   refine on 2 rfl ?_
   refine rz ?_
   rcases ite_inv h with ⟨hc, h⟩ | ⟨hc, h⟩
   ·refine ct rfl hc ?_
    refine awp_seq ?_
    refine rn 1 rfl ?_
    obtain ⟨⟨x3, k2, x4⟩, hk, h⟩ := bind_inv h
    refine po (ecall (p_jlex_text_ok hk) rfl rfl rfl rfl rfl rfl rfl rfl rfl) rfl rfl ?_
    refine on (nid' := 5) 9 rfl ?_
    refine rz ?_
    refine awp_seq ?_
    refine drn (m := 12) 7 rfl rfl ?_
    refine dz (by kernel_rfl) ?_
    refine awp_ret ?_
    refine condQ.ret ?_
    refine condQ.ret ?_
    refine exitQ.ret ?_
    refine seqQ.ret ?_
    cases h
    exact .ret rfl rfl
   ·refine cf rfl hc ?_
    refine awp_seq ?_
    refine rn 1 rfl ?_
    obtain ⟨c1, hk, h⟩ := bind_inv h
    refine po (esget hk rfl rfl rfl rfl) rfl rfl ?_
    obtain ⟨x5, hk, h⟩ := bind_inv h
    refine po (ecall (p_jlex_letter_ok hk) rfl rfl rfl rfl rfl rfl rfl rfl rfl) rfl rfl ?_
    refine on 1 rfl ?_
    refine rz ?_
    rcases ite_inv h with ⟨hc, h⟩ | ⟨hc, h⟩
    ·refine ct rfl hc ?_
     refine awp_seq ?_
     refine rn 1 rfl ?_
     obtain ⟨⟨x6, ok⟩, hk, h⟩ := bind_inv h
     refine po (ecall (p_jlex_name_ok hk) rfl rfl rfl rfl rfl rfl rfl rfl rfl) rfl rfl ?_
     refine on (nid' := 4) 6 rfl ?_
     refine rz ?_
     refine awp_seq ?_
     refine ra rfl ?_
     rcases ite_inv h with ⟨hc, h⟩ | ⟨hc, h⟩
     ·refine ct rfl hc ?_
      refine awp_seq ?_
      refine drn (m := 9) 5 rfl rfl ?_
      refine dz (by kernel_rfl) ?_
      refine awp_ret ?_
      refine condQ.ret ?_
      refine seqQ.ret ?_
      refine condQ.ret ?_
      refine condQ.ret ?_
      refine condQ.ret ?_
      refine exitQ.ret ?_
      refine seqQ.ret ?_
      cases h
      exact .ret rfl rfl
     ·refine cf rfl hc ?_
      refine awp_skip ?_
      refine cn rfl ?_
      refine seqQ.normal ?_
      refine awp_seq ?_
      refine drn (m := 12) 8 rfl rfl ?_
      refine dz (by kernel_rfl) ?_
      refine awp_ret ?_
      refine condQ.ret ?_
      refine condQ.ret ?_
      refine condQ.ret ?_
      refine exitQ.ret ?_
      refine seqQ.ret ?_
      cases h
      exact .ret rfl rfl
    ·refine cf rfl hc ?_
     refine awp_skip ?_
     refine cn rfl ?_
     refine cn rfl ?_
     refine cn rfl ?_
     refine en rfl ?_
     refine seqQ.normal ?_
     refine awp_seq ?_
     refine awp_seq ?_
     refine rn 0 rfl ?_
     obtain ⟨x7, hk, h⟩ := bind_inv h
     refine po (ecall (p_jlex_words_ok hk) rfl rfl rfl rfl rfl rfl rfl rfl rfl) rfl rfl ?_
     refine po (ellen rfl rfl rfl rfl rfl rfl rfl) rfl rfl ?_
     refine on 1 rfl ?_
     refine rz ?_
     obtain ⟨res, hs, h⟩ := bind_inv h
     refine awp_sub Tryz.f16 0 (fun (r : Token × Int × Fault) => (CRes.ret (.tuple [.d (encToken r.1), .d (.int .i64 r.2.1), .d (encFault r.2.2)]) [])) (fun (_ : Unit) => (⟨[(2, .c (.ptr 0 0)), (4, .c (.ptr 1 0)), (5, .c (.ptr 2 0))], [(2, [.d (.int .i64 (Fault.mk 2 0 0).err), .d (.int .i64 (Fault.mk 2 0 0).at_), .d (.int .i64 (Fault.mk 2 0 0).why)]), (1, [.d (.int .i64 0), .d (.int .i64 0), .d (.int .i64 0)]), (0, [.d (.int .i64 0), .d (.str []), .own 1 (List.map (D.int .i64) []), .own 3 (List.map encCell []), .d (.int .i64 0)])], 3, [], none⟩ : St)) (res := res) ?_ (fun y hy => ?_) (fun r x s' hr hx he => ?_)
     ·replace h := hs
      refine awp_block ?_
      refine awp_loop ?_
      exact awpL_at rfl rfl (p_jlex_word_l0_ok _ _ h)
     ·subst hy
      refine seqQ.normal ?_
      refine awp_seq ?_
      refine drn (m := 8) 5 rfl rfl ?_
      refine dz (by kernel_rfl) ?_
      refine awp_ret ?_
      cases h
      exact .ret rfl rfl
     ·subst hr
      refine seqQ.out hx ?_
      cases h
      exact he
theorem p_jlex_Lex_l0_ok : ∀ (a : Str × Int × (List Token)) (res : Except ((List Token) × Fault) ((List Token))), p_jlex_Lex_l0 a = some res → (match a with | (s, i, l) => awpL X 8 (codeAt [1, 1, 1, 0, 1, 0, 0] (bodyOf Tryz.f8)) (cleanAt (X.H 8 5) 1) (exitQ 0 (X.H 8 1000000) 1 (SubQ X Tryz.f8 0 (fun (r : (List Token) × Fault) => (CRes.ret (.tuple [.d (.list 5 (List.map encToken r.1)), .d (encFault r.2)]) [])) (fun (l2 : (List Token)) => (⟨[(3, .c (.ptr 0 0)), (4, .c (.own 5 (List.map encToken l2)))], [(0, [.d (.int .i64 0), .d (.int .i64 0), .d (.int .i64 0)])], 1, [], none⟩ : St)) res)) ⟨[(0, .d (.str s)), (3, .c (.ptr 0 0)), (4, .c (.own 5 (List.map encToken l))), (5, .d (.int .i64 i))], [(0, [.d (.int .i64 0), .d (.int .i64 0), .d (.int .i64 0)])], 1, [], none⟩) := by
 refine p_jlex_Lex_l0.partial_correctness _ ?_
 rintro p_jlex_Lex_l0' ih ⟨s, i, l⟩ res h
 refine lg rfl ?_
 refine awp_seq ?_
 refine ra rfl ?_
 rcases ite_inv h with ⟨hc, h⟩ | ⟨hc, h⟩
 ·refine ct rfl hc ?_
  refine awp_skip ?_
  refine cn rfl ?_
  refine seqQ.normal ?_
  refine awp_block ?_
  refine awp_seq ?_
  refine awp_seq ?_
  refine rn 2 rfl ?_
  obtain ⟨c, hk, h⟩ := bind_inv h
  refine po (esget hk rfl rfl rfl rfl) rfl rfl ?_
  refine on 1 rfl ?_
  refine rz ?_
  rcases ite_inv h with ⟨hc, h⟩ | ⟨hc, h⟩
  ·refine ct rfl hc ?_
   refine ra rfl ?_
   refine awp_exit ?_
   refine condQ.exit ?_
   refine seqQ.exit ?_
   refine eh rfl ?_
   refine loopQ.normal ?_
   exact awpL_at rfl rfl (ih _ _ h)
  ·refine cf rfl hc ?_
   refine awp_skip ?_
   refine cn rfl ?_
   refine seqQ.normal ?_
   refine awp_seq ?_
   refine awp_seq ?_
   refine rn 2 rfl ?_
   obtain ⟨s1, hk, h⟩ := bind_inv h
   refine po (esfrom hk rfl rfl rfl rfl) rfl rfl ?_
   obtain ⟨x, hk, h⟩ := bind_inv h
   refine po (ecall (p_strings_HasPrefix_ok hk) rfl rfl rfl rfl rfl rfl rfl rfl rfl) rfl rfl ?_
   refine rz ?_
   rcases ite_inv h with ⟨hc, h⟩ | ⟨hc, h⟩
   ·refine ct rfl hc ?_
    refine awp_exit ?_
    refine condQ.exit ?_
    refine seqQ.exit ?_
    refine exitQ.there rfl ?_
    refine loopQ.exit ?_
    refine eh rfl ?_
    cases h
    exact .ok rfl
   ·refine cf rfl hc ?_
    refine awp_skip ?_
    refine cn rfl ?_
    refine seqQ.normal ?_
    refine awp_seq ?_
    refine awp_seq ?_
    refine rn 1 rfl ?_
    refine po (ellen rfl rfl rfl rfl rfl rfl rfl) rfl rfl ?_
    refine on 1 rfl ?_
    refine rz ?_
    rcases ite_inv h with ⟨hc, h⟩ | ⟨hc, h⟩
    ·refine ct rfl hc ?_
     refine ra rfl ?_
     refine awp_ret ?_
     refine condQ.ret ?_
     refine seqQ.ret ?_
     refine exitQ.ret ?_
     refine loopQ.ret ?_
     refine exitQ.ret ?_
     cases h
     exact .err rfl (.ret rfl rfl)
    ·refine cf rfl hc ?_
     refine awp_skip ?_
     refine cn rfl ?_
     refine seqQ.normal ?_
     refine awp_seq ?_
     refine rn 2 rfl ?_
     obtain ⟨s2, hk, h⟩ := bind_inv h
     refine po (esfrom hk rfl rfl rfl rfl) rfl rfl ?_
     obtain ⟨⟨x1, k, x2⟩, hk, h⟩ := bind_inv h
     refine po (ecall (p_jlex_word_ok hk) rfl rfl rfl rfl rfl rfl rfl rfl rfl) rfl rfl ?_
     refine on (nid' := 3) 9 rfl ?_
     refine rz ?_
     refine awp_seq ?_
     refine ra rfl ?_
     rcases ite_inv h with ⟨hc, h⟩ | ⟨hc, h⟩
     ·refine ct rfl hc ?_
      refine ra rfl ?_
      refine awp_seq ?_
      refine drn (m := 6) 3 rfl rfl ?_
      refine dz (by kernel_rfl) ?_
      refine awp_ret ?_
      refine condQ.ret ?_
      refine seqQ.ret ?_
      refine exitQ.ret ?_
      refine loopQ.ret ?_
      refine exitQ.ret ?_
      cases h
      exact .err rfl (.ret rfl rfl)
     ·refine cf rfl hc ?_
      refine awp_skip ?_
      refine cn rfl ?_
      refine seqQ.normal ?_
      refine ra rfl ?_
      refine rn 3 rfl ?_
      obtain ⟨l1, hk, h⟩ := bind_inv h
      refine po (eappv hk rfl rfl rfl rfl rfl rfl rfl rfl rfl rfl rfl rfl rfl ) rfl rfl ?_
      refine on 5 rfl ?_
      refine awpO_nil ?_
      refine en rfl ?_
      refine loopQ.normal ?_
      exact awpL_at rfl rfl (ih _ _ h)
 ·refine cf rfl hc ?_
  refine awp_exit ?_
  refine condQ.exit ?_
  refine seqQ.exit ?_
  refine loopQ.exit ?_
  refine eh rfl ?_
  cases h
  exact .ok rfl
theorem p_jlex_Lex_ok {s : Str} {r : (List Token) × Fault} (h : p_jlex_Lex s = some r) : aval X 8 [.d (.str s)] [] (CRes.ret (.tuple [.d (.list 5 (List.map encToken r.1)), .d (encFault r.2)]) []) := by
 unfold p_jlex_Lex at h
 refine aval_start (tm := [(0, .d (.str s))]) (hp := []) (n := 0) rfl Tryz.func8 rfl rfl rfl rfl rfl rfl ?_
 refine ra (nid' := 1) rfl ?_
 refine awp_seq ?_
 refine ra rfl ?_
 rcases ite_inv h with ⟨hc, h⟩ | ⟨hc, h⟩
 ·refine ct rfl hc ?_
  refine ra rfl ?_
  refine awp_ret ?_
  refine condQ.ret ?_
  refine seqQ.ret ?_
  cases h
  exact .ret rfl rfl
 ·refine cf rfl hc ?_
  refine awp_skip ?_
  refine cn rfl ?_
  refine seqQ.normal ?_
  refine ra rfl ?_
  refine awp_seq ?_
  refine ra rfl ?_
  obtain ⟨res, hs, h⟩ := bind_inv h
  refine awp_sub Tryz.f8 0 (fun (r : (List Token) × Fault) => (CRes.ret (.tuple [.d (.list 5 (List.map encToken r.1)), .d (encFault r.2)]) [])) (fun (l2 : (List Token)) => (⟨[(3, .c (.ptr 0 0)), (4, .c (.own 5 (List.map encToken l2)))], [(0, [.d (.int .i64 0), .d (.int .i64 0), .d (.int .i64 0)])], 1, [], none⟩ : St)) (res := res) ?_ (fun y hy => ?_) (fun r x s' hr hx he => ?_)
  ·replace h := hs
   refine awp_block ?_
   refine awp_loop ?_
   exact awpL_at rfl rfl (p_jlex_Lex_l0_ok _ _ h)
  ·subst hy
   obtain l2 := y
   refine seqQ.normal ?_
   refine ra rfl ?_
   refine awp_ret ?_
   cases h
   exact .ret rfl rfl
  ·subst hr
   refine seqQ.out hx ?_
   cases h
   exact he
theorem p_jay_Parse_ok {s : Str} {r : Prgm × Fault} (h : p_jay_Parse s = some r) : aval X 5 [.d (.str s)] [] (CRes.ret (.tuple [.d (encPrgm r.1), .d (encFault r.2)]) []) := by
 unfold p_jay_Parse at h
 refine aval_start (tm := [(0, .d (.str s))]) (hp := []) (n := 0) rfl Tryz.func5 rfl rfl rfl rfl rfl rfl ?_
 refine ra (nid' := 2) rfl ?_
 refine awp_seq ?_
 refine rn 1 rfl ?_
 obtain ⟨⟨l, x⟩, hk, h⟩ := bind_inv h
 refine po (ecall (p_jlex_Lex_ok hk) rfl rfl rfl rfl rfl rfl rfl rfl rfl) rfl rfl ?_
 refine on (nid' := 3) 6 rfl ?_
 refine rz ?_
 refine awp_seq ?_
 refine awp_seq ?_
 refine rn 2 rfl ?_
 refine po (estne (by kernel_rfl) rfl rfl rfl rfl rfl) rfl rfl ?_
 refine rz ?_
 rcases ite_inv h with ⟨hc, h⟩ | ⟨hc, h⟩
 ·refine ct rfl hc ?_
  refine awp_seq ?_
  refine drn (m := 7) 4 rfl rfl ?_
  refine dz (by kernel_rfl) ?_
  refine awp_ret ?_
  refine condQ.ret ?_
  refine seqQ.ret ?_
  cases h
  exact .ret rfl rfl
 ·refine cf rfl hc ?_
  refine awp_skip ?_
  refine cn rfl ?_
  refine seqQ.normal ?_
  refine ra (nid' := 4) rfl ?_
  refine awp_seq ?_
  refine awp_seq ?_
  refine rn 1 rfl ?_
  refine po (ellen rfl rfl rfl rfl rfl rfl rfl) rfl rfl ?_
  refine on 2 rfl ?_
  rcases ite_inv h with ⟨hc, h⟩ | ⟨hc, h⟩
  ·refine gt rfl rfl rfl rfl hc rfl ?_
   refine on 1 rfl ?_
   obtain ⟨y, hk, h⟩ := bind_inv h
   refine po (elget encToken (fun _ => rfl) hk rfl rfl rfl rfl rfl) rfl rfl ?_
   refine on 5 rfl ?_
   rcases ite_inv h with ⟨hc, h⟩ | ⟨hc, h⟩
   ·refine gt rfl rfl rfl rfl hc rfl ?_
    refine on 1 rfl ?_
    obtain ⟨y1, hk, h⟩ := bind_inv h
    refine po (elget encToken (fun _ => rfl) hk rfl rfl rfl rfl rfl) rfl rfl ?_
    refine on 5 rfl ?_
    rcases ite_inv h with ⟨hc, h⟩ | ⟨hc, h⟩
    ·refine gt rfl rfl rfl rfl hc rfl ?_
     refine on 1 rfl ?_
     obtain ⟨y2, hk, h⟩ := bind_inv h
     refine po (elget encToken (fun _ => rfl) hk rfl rfl rfl rfl rfl) rfl rfl ?_
     refine on 2 rfl ?_
     obtain ⟨x1, hk, h⟩ := bind_inv h
     refine po (ecall (p_core_Name_ok hk) rfl rfl rfl rfl rfl rfl rfl rfl rfl) rfl rfl ?_
     refine on 1 rfl ?_
     refine rz ?_
     obtain ⟨⟨l2, p0⟩, hs, h⟩ := bind_inv h
     refine awp_nrm (fun ((l2, p0) : (List Token) × Str) => (⟨[(0, .d (.str s)), (2, .c (.ptr 0 0)), (3, .c (.ptr 1 0)), (4, .d (.list 5 (List.map encToken l2))), (5, .c (.ptr 2 0)), (6, .c (.ptr 3 0))], [(3, [.d (.str p0), .d (.int .i64 0), .d (.int .i64 0), .d (.int .i64 0), .d (.str []), .own 1 (List.map (D.int .i64) []), .own 3 (List.map encCell []), .own 7 (List.map encNodeR []), .d (.int .i64 0)]), (2, [.d (.int .i64 x.err), .d (.int .i64 x.at_), .d (.int .i64 x.why)]), (1, [.d (.int .i64 0), .d (.int .i64 0), .d (.int .i64 0)]), (0, [.d (.str []), .d (.int .i64 0), .d (.int .i64 0), .d (.int .i64 0), .d (.str []), .own 1 (List.map (D.int .i64) []), .own 3 (List.map encCell []), .own 7 (List.map encNodeR []), .d (.int .i64 0)])], 4, [], none⟩ : St)) (y := (l2, p0)) ?_ ?_
     ·replace h := hs
      rcases ite_inv h with ⟨hc, h⟩ | ⟨hc, h⟩
      ·refine ct rfl hc ?_
       refine drn (m := 13) 1 rfl rfl ?_
       obtain ⟨y3, hk, h⟩ := bind_inv h
       refine pd (elget encToken (fun _ => rfl) hk rfl rfl rfl rfl rfl) rfl rfl rfl rfl rfl ?_
       refine don 3 rfl ?_
       obtain ⟨l1, hk, h⟩ := bind_inv h
       refine pd (elfrom hk rfl rfl rfl rfl rfl rfl) rfl rfl rfl rfl rfl ?_
       refine don 3 rfl ?_
       refine dz' (by kernel_rfl) ?_
       refine cn rfl ?_
       cases h
       exact .ok rfl
      ·refine cf rfl hc ?_
       refine awp_skip ?_
       refine cn rfl ?_
       cases h
       exact .ok rfl
     ·refine seqQ.normal ?_
      refine awp_seq ?_
      refine awp_seq ?_
      refine rn 0 rfl ?_
      obtain ⟨x2, hk, h⟩ := bind_inv h
      refine po (ecall (p_jay_Grammar_ok hk) rfl rfl rfl rfl rfl rfl rfl rfl rfl) rfl rfl ?_
      refine on 3 rfl ?_
      obtain ⟨⟨x3, x4⟩, hk, h⟩ := bind_inv h
      refine po (ecall (p_grammar_Parse_ok hk) rfl rfl rfl rfl rfl rfl rfl rfl rfl) rfl rfl ?_
      refine on 6 rfl ?_
      refine rz ?_
      refine ra rfl ?_
      rcases ite_inv h with ⟨hc, h⟩ | ⟨hc, h⟩
      ·refine ct rfl hc ?_
       refine awp_seq ?_
       refine drn (m := 8) 4 rfl rfl ?_
       refine dz (by kernel_rfl) ?_
       refine awp_ret ?_
       refine condQ.ret ?_
       refine seqQ.ret ?_
       cases h
       exact .ret rfl rfl
      ·refine cf rfl hc ?_
       refine awp_skip ?_
       refine cn rfl ?_
       refine seqQ.normal ?_
       refine ra rfl ?_
       refine awp_ret ?_
       cases h
       exact .ret rfl rfl
    ·refine gf rfl rfl rfl rfl hc rfl ?_
     refine on 6 rfl ?_
     refine rz ?_
     refine cf rfl rfl ?_
     refine awp_skip ?_
     refine cn rfl ?_
     refine seqQ.normal ?_
     refine awp_seq ?_
     refine awp_seq ?_
     refine rn 0 rfl ?_
     obtain ⟨x5, hk, h⟩ := bind_inv h
     refine po (ecall (p_jay_Grammar_ok hk) rfl rfl rfl rfl rfl rfl rfl rfl rfl) rfl rfl ?_
     refine on 3 rfl ?_
     obtain ⟨⟨x6, x7⟩, hk, h⟩ := bind_inv h
     refine po (ecall (p_grammar_Parse_ok hk) rfl rfl rfl rfl rfl rfl rfl rfl rfl) rfl rfl ?_
     refine on 6 rfl ?_
     refine rz ?_
     refine ra rfl ?_
     rcases ite_inv h with ⟨hc, h⟩ | ⟨hc, h⟩
     ·refine ct rfl hc ?_
      refine awp_seq ?_
      refine drn (m := 8) 4 rfl rfl ?_
      refine dz (by kernel_rfl) ?_
      refine awp_ret ?_
      refine condQ.ret ?_
      refine seqQ.ret ?_
      cases h
      exact .ret rfl rfl
     ·refine cf rfl hc ?_
      refine awp_skip ?_
      refine cn rfl ?_
      refine seqQ.normal ?_
      refine ra rfl ?_
      refine awp_ret ?_
      cases h
      exact .ret rfl rfl
   ·refine gf rfl rfl rfl rfl hc rfl ?_
    refine on 13 rfl ?_
    refine rz ?_
    refine cf rfl rfl ?_
    refine awp_skip ?_
    refine cn rfl ?_
    refine seqQ.normal ?_
    refine awp_seq ?_
    refine awp_seq ?_
    refine rn 0 rfl ?_
    obtain ⟨x8, hk, h⟩ := bind_inv h
    refine po (ecall (p_jay_Grammar_ok hk) rfl rfl rfl rfl rfl rfl rfl rfl rfl) rfl rfl ?_
    refine on 3 rfl ?_
    obtain ⟨⟨x9, x10⟩, hk, h⟩ := bind_inv h
    refine po (ecall (p_grammar_Parse_ok hk) rfl rfl rfl rfl rfl rfl rfl rfl rfl) rfl rfl ?_
    refine on 6 rfl ?_
    refine rz ?_
    refine ra rfl ?_
    rcases ite_inv h with ⟨hc, h⟩ | ⟨hc, h⟩
    ·refine ct rfl hc ?_
     refine awp_seq ?_
     refine drn (m := 8) 4 rfl rfl ?_
     refine dz (by kernel_rfl) ?_
     refine awp_ret ?_
     refine condQ.ret ?_
     refine seqQ.ret ?_
     cases h
     exact .ret rfl rfl
    ·refine cf rfl hc ?_
     refine awp_skip ?_
     refine cn rfl ?_
     refine seqQ.normal ?_
     refine ra rfl ?_
     refine awp_ret ?_
     cases h
     exact .ret rfl rfl
  ·refine gf rfl rfl rfl rfl hc rfl ?_
   refine on 20 rfl ?_
   refine rz ?_
   refine cf rfl rfl ?_
   refine awp_skip ?_
   refine cn rfl ?_
   refine seqQ.normal ?_
   refine awp_seq ?_
   refine awp_seq ?_
   refine rn 0 rfl ?_
   obtain ⟨x11, hk, h⟩ := bind_inv h
   refine po (ecall (p_jay_Grammar_ok hk) rfl rfl rfl rfl rfl rfl rfl rfl rfl) rfl rfl ?_
   refine on 3 rfl ?_
   obtain ⟨⟨x12, x13⟩, hk, h⟩ := bind_inv h
   refine po (ecall (p_grammar_Parse_ok hk) rfl rfl rfl rfl rfl rfl rfl rfl rfl) rfl rfl ?_
   refine on 6 rfl ?_
   refine rz ?_
   refine ra rfl ?_
   rcases ite_inv h with ⟨hc, h⟩ | ⟨hc, h⟩
   ·refine ct rfl hc ?_
    refine awp_seq ?_
    refine drn (m := 8) 4 rfl rfl ?_
    refine dz (by kernel_rfl) ?_
    refine awp_ret ?_
    refine condQ.ret ?_
    refine seqQ.ret ?_
    cases h
    exact .ret rfl rfl
   ·refine cf rfl hc ?_
    refine awp_skip ?_
    refine cn rfl ?_
    refine seqQ.normal ?_
    refine ra rfl ?_
    refine awp_ret ?_
    cases h
    exact .ret rfl rfl
theorem p_arr_order_int_ok {a_ : Int} {b : Int} {r : Int} (h : p_arr_order_int a_ b = some r) : aval X 78 [.d (.int .i64 a_), .d (.int .i64 b)] [] (CRes.ret (.d (.int .i64 r)) []) := by
 unfold p_arr_order_int at h
 refine aval_start (tm := [(0, .d (.int .i64 a_)), (1, .d (.int .i64 b))]) (hp := []) (n := 0) rfl Tryz.func78 rfl rfl rfl rfl rfl rfl ?_
 refine ra rfl ?_
 refine awp_seq ?_
 refine awp_block ?_
 refine ra rfl ?_
 rcases ite_inv h with ⟨hc, h⟩ | ⟨hc, h⟩
 ·refine ct rfl hc ?_
  refine ra rfl ?_
  refine awp_ret ?_
  refine condQ.ret ?_
  refine exitQ.ret ?_
  refine seqQ.ret ?_
  cases h
  exact .ret rfl rfl
 ·refine cf rfl hc ?_
  refine ra rfl ?_
  rcases ite_inv h with ⟨hc, h⟩ | ⟨hc, h⟩
  ·refine ct rfl hc ?_
   refine ra rfl ?_
   refine awp_ret ?_
   refine condQ.ret ?_
   refine condQ.ret ?_
   refine exitQ.ret ?_
   refine seqQ.ret ?_
   cases h
   exact .ret rfl rfl
  ·refine cf rfl hc ?_
   refine awp_skip ?_
   refine cn rfl ?_
   refine cn rfl ?_
   refine en rfl ?_
   refine seqQ.normal ?_
   refine ra rfl ?_
   refine awp_ret ?_
   cases h
   exact .ret rfl rfl
theorem p_arr_Cmp_2_ok {i : Int} {a_ : Arr} {a_1 : Arr} {r : Int} (h : p_arr_Cmp_2 i a_ a_1 = some r) : aval X 79 [.d (.int .i64 i), .ptr 0 0, .ptr 1 0] [[.d (.list 1 (List.map (D.int .i64) a_.shape)), .d (.list 3 (List.map encCell a_.cells))], [.d (.list 1 (List.map (D.int .i64) a_1.shape)), .d (.list 3 (List.map encCell a_1.cells))]] (CRes.ret (.d (.int .i64 r)) [[.d (.list 1 (List.map (D.int .i64) a_.shape)), .d (.list 3 (List.map encCell a_.cells))], [.d (.list 1 (List.map (D.int .i64) a_1.shape)), .d (.list 3 (List.map encCell a_1.cells))]]) := by
 unfold p_arr_Cmp_2 at h
 refine aval_start (tm := [(0, .d (.int .i64 i)), (1, .c (.ptr 0 0)), (2, .c (.ptr 1 0))]) (hp := [(0, [.d (.list 1 (List.map (D.int .i64) a_.shape)), .d (.list 3 (List.map encCell a_.cells))]), (1, [.d (.list 1 (List.map (D.int .i64) a_1.shape)), .d (.list 3 (List.map encCell a_1.cells))])]) (n := 2) rfl Tryz.func79 rfl rfl rfl rfl rfl rfl ?_
 refine ra rfl ?_
 refine awp_seq ?_
 refine drn (m := 14) 3 rfl rfl ?_
 obtain ⟨y, hk, h⟩ := bind_inv h
 refine pd (elget (D.int .i64) (fun _ => rfl) hk rfl rfl rfl rfl rfl) rfl rfl rfl rfl rfl ?_
 refine don 4 rfl ?_
 obtain ⟨y1, hk, h⟩ := bind_inv h
 refine pd (elget (D.int .i64) (fun _ => rfl) hk rfl rfl rfl rfl rfl) rfl rfl rfl rfl rfl ?_
 refine don 1 rfl ?_
 obtain ⟨x, hk, h⟩ := bind_inv h
 refine pd (ecall (p_arr_order_int_ok hk) rfl rfl rfl rfl rfl rfl rfl rfl rfl) rfl rfl rfl rfl rfl ?_
 refine don 1 rfl ?_
 refine dz (by kernel_rfl) ?_
 refine awp_ret ?_
 cases h
 exact .ret rfl rfl
theorem p_arr_Cmp_1__arr_Cmp_2_l0_ok : ∀ (a : Int × Arr × Arr × Int) (res : Except (Int) (Unit)), p_arr_Cmp_1__arr_Cmp_2_l0 a = some res → (match a with | (n, b, b1, x) => awpL X 77 (codeAt [1, 0, 1, 0, 0] (bodyOf Tryz.f77)) (cleanAt (X.H 77 2) 2) (exitQ 0 (X.H 77 1000000) 2 (SubQ X Tryz.f77 2 (fun (r : Int) => (CRes.ret (.d (.int .i64 r)) [[.d (.list 1 (List.map (D.int .i64) b.shape)), .d (.list 3 (List.map encCell b.cells))], [.d (.list 1 (List.map (D.int .i64) b1.shape)), .d (.list 3 (List.map encCell b1.cells))]])) (fun (_ : Unit) => (⟨[], [(0, [.d (.list 1 (List.map (D.int .i64) b.shape)), .d (.list 3 (List.map encCell b.cells))]), (1, [.d (.list 1 (List.map (D.int .i64) b1.shape)), .d (.list 3 (List.map encCell b1.cells))])], 2, [], none⟩ : St)) res)) ⟨[(1, .c (.fn 79 [0, 1])), (7, .d (.int .i64 n)), (8, .d (.int .i64 x))], [(0, [.d (.list 1 (List.map (D.int .i64) b.shape)), .d (.list 3 (List.map encCell b.cells))]), (1, [.d (.list 1 (List.map (D.int .i64) b1.shape)), .d (.list 3 (List.map encCell b1.cells))])], 2, [], none⟩) := by
 refine p_arr_Cmp_1__arr_Cmp_2_l0.partial_correctness _ ?_
 rintro p_arr_Cmp_1__arr_Cmp_2_l0' ih ⟨n, b, b1, x⟩ res h
 refine lg rfl ?_
 refine ra rfl ?_
 refine awp_seq ?_
 rcases ite_inv h with ⟨hc, h⟩ | ⟨hc, h⟩
 ·refine ct rfl hc ?_
  refine awp_skip ?_
  refine cn rfl ?_
  refine seqQ.normal ?_
  refine awp_seq ?_
  refine awp_block ?_
  refine ra rfl ?_
  refine awp_seq ?_
  refine rn 2 rfl ?_
  obtain ⟨o, hk, h⟩ := bind_inv h
  refine po (ecallb (nid' := 2) (p_arr_Cmp_2_ok hk) rfl rfl rfl rfl rfl rfl rfl rfl rfl rfl rfl rfl) rfl rfl ?_
  refine on 1 rfl ?_
  refine rz ?_
  refine ra rfl ?_
  rcases ite_inv h with ⟨hc, h⟩ | ⟨hc, h⟩
  ·refine ct rfl hc ?_
   refine ra rfl ?_
   refine awp_ret ?_
   refine condQ.ret ?_
   refine exitQ.ret ?_
   refine seqQ.ret ?_
   refine loopQ.ret ?_
   refine exitQ.ret ?_
   cases h
   exact .err rfl (.ret rfl rfl)
  ·refine cf rfl hc ?_
   refine awp_skip ?_
   refine cn rfl ?_
   refine en rfl ?_
   refine seqQ.normal ?_
   refine rn 2 rfl ?_
   refine awpO_nil ?_
   refine loopQ.normal ?_
   exact awpL_at rfl rfl (ih _ _ h)
 ·refine cf rfl hc ?_
  refine awp_exit ?_
  refine condQ.exit ?_
  refine seqQ.exit ?_
  refine loopQ.exit ?_
  refine eh rfl ?_
  cases h
  exact .ok rfl
theorem p_arr_Cmp_1__arr_Cmp_2_ok {n : Int} {b : Arr} {b1 : Arr} {r : Int} (h : p_arr_Cmp_1__arr_Cmp_2 n b b1 = some r) : aval X 77 [.d (.int .i64 n), .fn 79 [0, 1]] [[.d (.list 1 (List.map (D.int .i64) b.shape)), .d (.list 3 (List.map encCell b.cells))], [.d (.list 1 (List.map (D.int .i64) b1.shape)), .d (.list 3 (List.map encCell b1.cells))]] (CRes.ret (.d (.int .i64 r)) [[.d (.list 1 (List.map (D.int .i64) b.shape)), .d (.list 3 (List.map encCell b.cells))], [.d (.list 1 (List.map (D.int .i64) b1.shape)), .d (.list 3 (List.map encCell b1.cells))]]) := by
 unfold p_arr_Cmp_1__arr_Cmp_2 at h
 refine aval_start (tm := [(0, .d (.int .i64 n)), (1, .c (.fn 79 [0, 1]))]) (hp := [(0, [.d (.list 1 (List.map (D.int .i64) b.shape)), .d (.list 3 (List.map encCell b.cells))]), (1, [.d (.list 1 (List.map (D.int .i64) b1.shape)), .d (.list 3 (List.map encCell b1.cells))])]) (n := 2) rfl Tryz.func77 rfl rfl rfl rfl rfl rfl ?_
 refine ra rfl ?_
 refine awp_seq ?_
 refine ra rfl ?_
 obtain ⟨res, hs, h⟩ := bind_inv h
 refine awp_sub Tryz.f77 2 (fun (r : Int) => (CRes.ret (.d (.int .i64 r)) [[.d (.list 1 (List.map (D.int .i64) b.shape)), .d (.list 3 (List.map encCell b.cells))], [.d (.list 1 (List.map (D.int .i64) b1.shape)), .d (.list 3 (List.map encCell b1.cells))]])) (fun (_ : Unit) => (⟨[], [(0, [.d (.list 1 (List.map (D.int .i64) b.shape)), .d (.list 3 (List.map encCell b.cells))]), (1, [.d (.list 1 (List.map (D.int .i64) b1.shape)), .d (.list 3 (List.map encCell b1.cells))])], 2, [], none⟩ : St)) (res := res) ?_ (fun y hy => ?_) (fun r x s' hr hx he => ?_)
 ·replace h := hs
  refine awp_block ?_
  refine awp_loop ?_
  exact awpL_at rfl rfl (p_arr_Cmp_1__arr_Cmp_2_l0_ok _ _ h)
 ·subst hy
  refine seqQ.normal ?_
  refine ra rfl ?_
  refine awp_ret ?_
  cases h
  exact .ret rfl rfl
 ·subst hr
  refine seqQ.out hx ?_
  cases h
  exact he
theorem p_arr_order_int64_ok {a_ : Int} {b : Int} {r : Int} (h : p_arr_order_int64 a_ b = some r) : aval X 94 [.d (.int .i64 a_), .d (.int .i64 b)] [] (CRes.ret (.d (.int .i64 r)) []) := by
 unfold p_arr_order_int64 at h
 refine aval_start (tm := [(0, .d (.int .i64 a_)), (1, .d (.int .i64 b))]) (hp := []) (n := 0) rfl Tryz.func94 rfl rfl rfl rfl rfl rfl ?_
 refine ra rfl ?_
 refine awp_seq ?_
 refine awp_block ?_
 refine ra rfl ?_
 rcases ite_inv h with ⟨hc, h⟩ | ⟨hc, h⟩
 ·refine ct rfl hc ?_
  refine ra rfl ?_
  refine awp_ret ?_
  refine condQ.ret ?_
  refine exitQ.ret ?_
  refine seqQ.ret ?_
  cases h
  exact .ret rfl rfl
 ·refine cf rfl hc ?_
  refine ra rfl ?_
  rcases ite_inv h with ⟨hc, h⟩ | ⟨hc, h⟩
  ·refine ct rfl hc ?_
   refine ra rfl ?_
   refine awp_ret ?_
   refine condQ.ret ?_
   refine condQ.ret ?_
   refine exitQ.ret ?_
   refine seqQ.ret ?_
   cases h
   exact .ret rfl rfl
  ·refine cf rfl hc ?_
   refine awp_skip ?_
   refine cn rfl ?_
   refine cn rfl ?_
   refine en rfl ?_
   refine seqQ.normal ?_
   refine ra rfl ?_
   refine awp_ret ?_
   cases h
   exact .ret rfl rfl
abbrev Mp_arr_Cmp (a : Arr × Arr) (res : Int) : Prop := match a with | (a_, b) => aval X 51 [.d (encArr a_), .d (encArr b)] [] (CRes.ret (.d (.int .i64 res)) [])
abbrev Mp_arr_Cmp_1__arr_Cmp_3_l0 (a : Int × Arr × Arr × Int) (res : Except (Int) (Unit)) : Prop := match a with | (n, b, b1, x) => awpL X 77 (codeAt [1, 0, 1, 0, 0] (bodyOf Tryz.f77)) (cleanAt (X.H 77 2) 2) (exitQ 0 (X.H 77 1000000) 2 (SubQ X Tryz.f77 2 (fun (r : Int) => (CRes.ret (.d (.int .i64 r)) [[.d (.list 1 (List.map (D.int .i64) b.shape)), .d (.list 3 (List.map encCell b.cells))], [.d (.list 1 (List.map (D.int .i64) b1.shape)), .d (.list 3 (List.map encCell b1.cells))]])) (fun (_ : Unit) => (⟨[], [(0, [.d (.list 1 (List.map (D.int .i64) b.shape)), .d (.list 3 (List.map encCell b.cells))]), (1, [.d (.list 1 (List.map (D.int .i64) b1.shape)), .d (.list 3 (List.map encCell b1.cells))])], 2, [], none⟩ : St)) res)) ⟨[(1, .c (.fn 80 [0, 1])), (7, .d (.int .i64 n)), (8, .d (.int .i64 x))], [(0, [.d (.list 1 (List.map (D.int .i64) b.shape)), .d (.list 3 (List.map encCell b.cells))]), (1, [.d (.list 1 (List.map (D.int .i64) b1.shape)), .d (.list 3 (List.map encCell b1.cells))])], 2, [], none⟩
abbrev Mp_arr_Cmp_1__arr_Cmp_3 (a : Int × Arr × Arr) (res : Int) : Prop := match a with | (n, b, b1) => aval X 77 [.d (.int .i64 n), .fn 80 [0, 1]] [[.d (.list 1 (List.map (D.int .i64) b.shape)), .d (.list 3 (List.map encCell b.cells))], [.d (.list 1 (List.map (D.int .i64) b1.shape)), .d (.list 3 (List.map encCell b1.cells))]] (CRes.ret (.d (.int .i64 res)) [[.d (.list 1 (List.map (D.int .i64) b.shape)), .d (.list 3 (List.map encCell b.cells))], [.d (.list 1 (List.map (D.int .i64) b1.shape)), .d (.list 3 (List.map encCell b1.cells))]])
abbrev Mp_arr_Cmp_3 (a : Int × Arr × Arr) (res : Int) : Prop := match a with | (i, a_, a_1) => aval X 80 [.d (.int .i64 i), .ptr 0 0, .ptr 1 0] [[.d (.list 1 (List.map (D.int .i64) a_.shape)), .d (.list 3 (List.map encCell a_.cells))], [.d (.list 1 (List.map (D.int .i64) a_1.shape)), .d (.list 3 (List.map encCell a_1.cells))]] (CRes.ret (.d (.int .i64 res)) [[.d (.list 1 (List.map (D.int .i64) a_.shape)), .d (.list 3 (List.map encCell a_.cells))], [.d (.list 1 (List.map (D.int .i64) a_1.shape)), .d (.list 3 (List.map encCell a_1.cells))]])
abbrev Mp_arr_Cell (a : Cell × Cell) (res : Int) : Prop := match a with | (a_, b) => aval X 81 [.d (encCell a_), .d (encCell b)] [] (CRes.ret (.d (.int .i64 res)) [])
theorem p_arr_Cmp_grp : (∀ a res, p_arr_Cmp a = some res → Mp_arr_Cmp a res) ∧ (∀ a res, p_arr_Cmp_1__arr_Cmp_3 a = some res → Mp_arr_Cmp_1__arr_Cmp_3 a res) ∧ (∀ a res, p_arr_Cmp_1__arr_Cmp_3_l0 a = some res → Mp_arr_Cmp_1__arr_Cmp_3_l0 a res) ∧ (∀ a res, p_arr_Cmp_3 a = some res → Mp_arr_Cmp_3 a res) ∧ (∀ a res, p_arr_Cell a = some res → Mp_arr_Cell a res) := by
 refine p_arr_Cmp.mutual_partial_correctness (motive_1 := Mp_arr_Cmp) (motive_2 := Mp_arr_Cmp_1__arr_Cmp_3) (motive_3 := Mp_arr_Cmp_1__arr_Cmp_3_l0) (motive_4 := Mp_arr_Cmp_3) (motive_5 := Mp_arr_Cell) ?_ ?_ ?_ ?_ ?_
 ·rintro p_arr_Cmp_1__arr_Cmp_3' ih_p_arr_Cmp_1__arr_Cmp_3 ⟨a_, b⟩ res h
  refine aval_start (tm := [(0, .d (encArr a_)), (1, .d (encArr b))]) (hp := []) (n := 0) rfl Tryz.func51 rfl rfl rfl rfl rfl rfl ?_
  refine ra (nid' := 2) rfl ?_
  refine ra rfl ?_
  refine awp_seq ?_
  refine awp_seq ?_
  refine rn 2 rfl ?_
  refine po (ellen rfl rfl rfl rfl rfl rfl rfl) rfl rfl ?_
  refine on 2 rfl ?_
  refine po (ellen rfl rfl rfl rfl rfl rfl rfl) rfl rfl ?_
  obtain ⟨o, hk, h⟩ := bind_inv h
  refine po (ecall (p_arr_order_int_ok hk) rfl rfl rfl rfl rfl rfl rfl rfl rfl) rfl rfl ?_
  refine on 1 rfl ?_
  refine rz ?_
  refine ra rfl ?_
  rcases ite_inv h with ⟨hc, h⟩ | ⟨hc, h⟩
  ·refine ct rfl hc ?_
   refine ra rfl ?_
   refine awp_ret ?_
   refine condQ.ret ?_
   refine seqQ.ret ?_
   cases h
   exact .ret rfl rfl
  ·refine cf rfl hc ?_
   refine awp_skip ?_
   refine cn rfl ?_
   refine seqQ.normal ?_
   refine awp_seq ?_
   refine awp_seq ?_
   refine rn 3 rfl ?_
   refine po (ellen rfl rfl rfl rfl rfl rfl rfl) rfl rfl ?_
   refine on 1 rfl ?_
   obtain ⟨o1, hk, h⟩ := bind_inv h
   refine po (ecallb (nid' := 2) (p_arr_Cmp_1__arr_Cmp_2_ok hk) rfl rfl rfl rfl rfl rfl rfl rfl rfl rfl rfl rfl) rfl rfl ?_
   refine on 1 rfl ?_
   refine rz ?_
   refine ra rfl ?_
   rcases ite_inv h with ⟨hc, h⟩ | ⟨hc, h⟩
   ·refine ct rfl hc ?_
    refine ra rfl ?_
    refine awp_ret ?_
    refine condQ.ret ?_
    refine seqQ.ret ?_
    cases h
    exact .ret rfl rfl
   ·refine cf rfl hc ?_
    refine awp_skip ?_
    refine cn rfl ?_
    refine seqQ.normal ?_
    refine awp_seq ?_
    refine awp_seq ?_
    refine rn 3 rfl ?_
    refine po (ellen rfl rfl rfl rfl rfl rfl rfl) rfl rfl ?_
    refine on 2 rfl ?_
    refine po (ellen rfl rfl rfl rfl rfl rfl rfl) rfl rfl ?_
    refine on 2 rfl ?_
    obtain ⟨o2, hk, h⟩ := bind_inv h
    refine po (ecallb (nid' := 2) (ih_p_arr_Cmp_1__arr_Cmp_3 _ _ hk) rfl rfl rfl rfl rfl rfl rfl rfl rfl rfl rfl rfl) rfl rfl ?_
    refine on 1 rfl ?_
    refine rz ?_
    refine ra rfl ?_
    rcases ite_inv h with ⟨hc, h⟩ | ⟨hc, h⟩
    ·refine ct rfl hc ?_
     refine ra rfl ?_
     refine awp_ret ?_
     refine condQ.ret ?_
     refine seqQ.ret ?_
     cases h
     exact .ret rfl rfl
    ·refine cf rfl hc ?_
     refine awp_skip ?_
     refine cn rfl ?_
     refine seqQ.normal ?_
     refine awp_seq ?_
     refine rn 2 rfl ?_
     refine po (ellen rfl rfl rfl rfl rfl rfl rfl) rfl rfl ?_
     refine on 2 rfl ?_
     refine po (ellen rfl rfl rfl rfl rfl rfl rfl) rfl rfl ?_
     obtain ⟨x, hk, h⟩ := bind_inv h
     refine po (ecall (p_arr_order_int_ok hk) rfl rfl rfl rfl rfl rfl rfl rfl rfl) rfl rfl ?_
     refine on 1 rfl ?_
     refine rz ?_
     refine awp_ret ?_
     cases h
     exact .ret rfl rfl
 ·rintro p_arr_Cmp_1__arr_Cmp_3_l0' ih_p_arr_Cmp_1__arr_Cmp_3_l0 ⟨n, b, b1⟩ res h
  refine aval_start (tm := [(0, .d (.int .i64 n)), (1, .c (.fn 80 [0, 1]))]) (hp := [(0, [.d (.list 1 (List.map (D.int .i64) b.shape)), .d (.list 3 (List.map encCell b.cells))]), (1, [.d (.list 1 (List.map (D.int .i64) b1.shape)), .d (.list 3 (List.map encCell b1.cells))])]) (n := 2) rfl Tryz.func77 rfl rfl rfl rfl rfl rfl ?_
  refine ra rfl ?_
  refine awp_seq ?_
  refine ra rfl ?_
  obtain ⟨res, hs, h⟩ := bind_inv h
  refine awp_sub Tryz.f77 2 (fun (r : Int) => (CRes.ret (.d (.int .i64 r)) [[.d (.list 1 (List.map (D.int .i64) b.shape)), .d (.list 3 (List.map encCell b.cells))], [.d (.list 1 (List.map (D.int .i64) b1.shape)), .d (.list 3 (List.map encCell b1.cells))]])) (fun (_ : Unit) => (⟨[], [(0, [.d (.list 1 (List.map (D.int .i64) b.shape)), .d (.list 3 (List.map encCell b.cells))]), (1, [.d (.list 1 (List.map (D.int .i64) b1.shape)), .d (.list 3 (List.map encCell b1.cells))])], 2, [], none⟩ : St)) (res := res) ?_ (fun y hy => ?_) (fun r x s' hr hx he => ?_)
  ·replace h := hs
   refine awp_block ?_
   refine awp_loop ?_
   exact awpL_at rfl rfl (ih_p_arr_Cmp_1__arr_Cmp_3_l0 _ _ h)
  ·subst hy
   refine seqQ.normal ?_
   refine ra rfl ?_
   refine awp_ret ?_
   cases h
   exact .ret rfl rfl
  ·subst hr
   refine seqQ.out hx ?_
   cases h
   exact he
 ·rintro p_arr_Cmp_1__arr_Cmp_3_l0' p_arr_Cmp_3' ih_p_arr_Cmp_1__arr_Cmp_3_l0 ih_p_arr_Cmp_3 ⟨n, b, b1, x⟩ res h
  refine lg rfl ?_
  refine ra rfl ?_
  refine awp_seq ?_
  rcases ite_inv h with ⟨hc, h⟩ | ⟨hc, h⟩
  ·refine ct rfl hc ?_
   refine awp_skip ?_
   refine cn rfl ?_
   refine seqQ.normal ?_
   refine awp_seq ?_
   refine awp_block ?_
   refine ra rfl ?_
   refine awp_seq ?_
   refine rn 2 rfl ?_
   obtain ⟨o, hk, h⟩ := bind_inv h
   refine po (ecallb (nid' := 2) (ih_p_arr_Cmp_3 _ _ hk) rfl rfl rfl rfl rfl rfl rfl rfl rfl rfl rfl rfl) rfl rfl ?_
   refine on 1 rfl ?_
   refine rz ?_
   refine ra rfl ?_
   rcases ite_inv h with ⟨hc, h⟩ | ⟨hc, h⟩
   ·refine ct rfl hc ?_
    refine ra rfl ?_
    refine awp_ret ?_
    refine condQ.ret ?_
    refine exitQ.ret ?_
    refine seqQ.ret ?_
    refine loopQ.ret ?_
    refine exitQ.ret ?_
    cases h
    exact .err rfl (.ret rfl rfl)
   ·refine cf rfl hc ?_
    refine awp_skip ?_
    refine cn rfl ?_
    refine en rfl ?_
    refine seqQ.normal ?_
    refine rn 2 rfl ?_
    refine awpO_nil ?_
    refine loopQ.normal ?_
    exact awpL_at rfl rfl (ih_p_arr_Cmp_1__arr_Cmp_3_l0 _ _ h)
  ·refine cf rfl hc ?_
   refine awp_exit ?_
   refine condQ.exit ?_
   refine seqQ.exit ?_
   refine loopQ.exit ?_
   refine eh rfl ?_
   cases h
   exact .ok rfl
 ·rintro p_arr_Cell' ih_p_arr_Cell ⟨i, a_, a_1⟩ res h
  refine aval_start (tm := [(0, .d (.int .i64 i)), (1, .c (.ptr 0 0)), (2, .c (.ptr 1 0))]) (hp := [(0, [.d (.list 1 (List.map (D.int .i64) a_.shape)), .d (.list 3 (List.map encCell a_.cells))]), (1, [.d (.list 1 (List.map (D.int .i64) a_1.shape)), .d (.list 3 (List.map encCell a_1.cells))])]) (n := 2) rfl Tryz.func80 rfl rfl rfl rfl rfl rfl ?_
  refine ra rfl ?_
  refine awp_seq ?_
  refine drn (m := 14) 3 rfl rfl ?_
  obtain ⟨y, hk, h⟩ := bind_inv h
  refine pd (elget encCell (fun _ => rfl) hk rfl rfl rfl rfl rfl) rfl rfl rfl rfl rfl ?_
  refine don 4 rfl ?_
  obtain ⟨y1, hk, h⟩ := bind_inv h
  refine pd (elget encCell (fun _ => rfl) hk rfl rfl rfl rfl rfl) rfl rfl rfl rfl rfl ?_
  refine don 1 rfl ?_
  obtain ⟨x, hk, h⟩ := bind_inv h
  refine pd (ecall (ih_p_arr_Cell _ _ hk) rfl rfl rfl rfl rfl rfl rfl rfl rfl) rfl rfl rfl rfl rfl ?_
  refine don 1 rfl ?_
  refine dz (by kernel_rfl) ?_
  refine awp_ret ?_
  cases h
  exact .ret rfl rfl
 ·rintro p_arr_Cmp' ih_p_arr_Cmp ⟨a_, b⟩ res h
  refine aval_start (tm := [(0, .d (encCell a_)), (1, .d (encCell b))]) (hp := []) (n := 0) rfl Tryz.func81 rfl rfl rfl rfl rfl rfl ?_
  refine ra (nid' := 2) rfl ?_
  refine awp_seq ?_
  refine awp_seq ?_
  refine rn 4 rfl ?_
  obtain ⟨o, hk, h⟩ := bind_inv h
  refine po (ecall (p_arr_order_int_ok hk) rfl rfl rfl rfl rfl rfl rfl rfl rfl) rfl rfl ?_
  refine on 1 rfl ?_
  refine rz ?_
  refine ra rfl ?_
  rcases ite_inv h with ⟨hc, h⟩ | ⟨hc, h⟩
  ·refine ct rfl hc ?_
   refine ra rfl ?_
   refine awp_ret ?_
   refine condQ.ret ?_
   refine seqQ.ret ?_
   cases h
   exact .ret rfl rfl
  ·refine cf rfl hc ?_
   refine awp_skip ?_
   refine cn rfl ?_
   refine seqQ.normal ?_
   refine awp_seq ?_
   refine awp_seq ?_
   refine rn 4 rfl ?_
   obtain ⟨o1, hk, h⟩ := bind_inv h
   refine po (ecall (p_arr_order_int64_ok hk) rfl rfl rfl rfl rfl rfl rfl rfl rfl) rfl rfl ?_
   refine on 1 rfl ?_
   refine rz ?_
   refine awp_seq ?_
   refine rn 3 rfl ?_
   rcases ite_inv h with ⟨hc, h⟩ | ⟨hc, h⟩
   ·refine gt rfl rfl rfl rfl hc rfl ?_
    refine on 11 rfl ?_
    refine rz ?_
    refine ct rfl rfl ?_
    refine awp_seq ?_
    refine ra rfl ?_
    rcases ite_inv h with ⟨hc, h⟩ | ⟨hc, h⟩
    ·refine ct rfl hc ?_
     refine awp_seq ?_
     refine rn 2 rfl ?_
     refine po (ellen rfl rfl rfl rfl rfl rfl rfl) rfl rfl ?_
     refine on 2 rfl ?_
     refine po (ellen rfl rfl rfl rfl rfl rfl rfl) rfl rfl ?_
     obtain ⟨x, hk, h⟩ := bind_inv h
     refine po (ecall (p_arr_order_int_ok hk) rfl rfl rfl rfl rfl rfl rfl rfl rfl) rfl rfl ?_
     refine on 1 rfl ?_
     refine rz ?_
     refine awp_ret ?_
     refine condQ.ret ?_
     refine seqQ.ret ?_
     refine condQ.ret ?_
     refine seqQ.ret ?_
     cases h
     exact .ret rfl rfl
    ·refine cf rfl hc ?_
     refine awp_skip ?_
     refine cn rfl ?_
     refine seqQ.normal ?_
     refine ra rfl ?_
     refine awp_ret ?_
     refine condQ.ret ?_
     refine seqQ.ret ?_
     cases h
     exact .ret rfl rfl
   ·refine gf rfl rfl rfl rfl hc rfl ?_
    refine on 2 rfl ?_
    refine po (ellen rfl rfl rfl rfl rfl rfl rfl) rfl rfl ?_
    refine on 3 rfl ?_
    rcases ite_inv h with ⟨hc, h⟩ | ⟨hc, h⟩
    ·refine gt rfl rfl rfl rfl hc rfl ?_
     refine on 5 rfl ?_
     refine rz ?_
     refine ct rfl rfl ?_
     refine awp_seq ?_
     refine ra rfl ?_
     rcases ite_inv h with ⟨hc, h⟩ | ⟨hc, h⟩
     ·refine ct rfl hc ?_
      refine awp_seq ?_
      refine rn 2 rfl ?_
      refine po (ellen rfl rfl rfl rfl rfl rfl rfl) rfl rfl ?_
      refine on 2 rfl ?_
      refine po (ellen rfl rfl rfl rfl rfl rfl rfl) rfl rfl ?_
      obtain ⟨x1, hk, h⟩ := bind_inv h
      refine po (ecall (p_arr_order_int_ok hk) rfl rfl rfl rfl rfl rfl rfl rfl rfl) rfl rfl ?_
      refine on 1 rfl ?_
      refine rz ?_
      refine awp_ret ?_
      refine condQ.ret ?_
      refine seqQ.ret ?_
      refine condQ.ret ?_
      refine seqQ.ret ?_
      cases h
      exact .ret rfl rfl
     ·refine cf rfl hc ?_
      refine awp_skip ?_
      refine cn rfl ?_
      refine seqQ.normal ?_
      refine ra rfl ?_
      refine awp_ret ?_
      refine condQ.ret ?_
      refine seqQ.ret ?_
      cases h
      exact .ret rfl rfl
    ·refine gf rfl rfl rfl rfl hc rfl ?_
     refine on 2 rfl ?_
     refine po (ellen rfl rfl rfl rfl rfl rfl rfl) rfl rfl ?_
     refine on 2 rfl ?_
     refine rz ?_
     rcases ite_inv h with ⟨hc, h⟩ | ⟨hc, h⟩
     ·refine ct rfl hc ?_
      refine awp_seq ?_
      refine ra rfl ?_
      rcases ite_inv h with ⟨hc, h⟩ | ⟨hc, h⟩
      ·refine ct rfl hc ?_
       refine awp_seq ?_
       refine rn 2 rfl ?_
       refine po (ellen rfl rfl rfl rfl rfl rfl rfl) rfl rfl ?_
       refine on 2 rfl ?_
       refine po (ellen rfl rfl rfl rfl rfl rfl rfl) rfl rfl ?_
       obtain ⟨x2, hk, h⟩ := bind_inv h
       refine po (ecall (p_arr_order_int_ok hk) rfl rfl rfl rfl rfl rfl rfl rfl rfl) rfl rfl ?_
       refine on 1 rfl ?_
       refine rz ?_
       refine awp_ret ?_
       refine condQ.ret ?_
       refine seqQ.ret ?_
       refine condQ.ret ?_
       refine seqQ.ret ?_
       cases h
       exact .ret rfl rfl
      ·refine cf rfl hc ?_
       refine awp_skip ?_
       refine cn rfl ?_
       refine seqQ.normal ?_
       refine ra rfl ?_
       refine awp_ret ?_
       refine condQ.ret ?_
       refine seqQ.ret ?_
       cases h
       exact .ret rfl rfl
     ·refine cf rfl hc ?_
      refine awp_skip ?_
      refine cn rfl ?_
      refine seqQ.normal ?_
      refine awp_seq ?_
      refine drn (m := 12) 2 rfl rfl ?_
      obtain ⟨y, hk, h⟩ := bind_inv h
      refine pd (elget encArr encArrR_eq hk rfl rfl rfl rfl rfl) rfl rfl rfl rfl rfl ?_
      refine don 3 rfl ?_
      obtain ⟨y1, hk, h⟩ := bind_inv h
      refine pd (elget encArr encArrR_eq hk rfl rfl rfl rfl rfl) rfl rfl rfl rfl rfl ?_
      refine don 1 rfl ?_
      obtain ⟨x3, hk, h⟩ := bind_inv h
      refine pd (ecall (ih_p_arr_Cmp _ _ hk) rfl rfl rfl rfl rfl rfl rfl rfl rfl) rfl rfl rfl rfl rfl ?_
      refine don 1 rfl ?_
      refine dz (by kernel_rfl) ?_
      refine awp_ret ?_
      cases h
      exact .ret rfl rfl
theorem p_arr_Cmp_ih : ∀ a res, p_arr_Cmp a = some res → Mp_arr_Cmp a res := p_arr_Cmp_grp.1
theorem p_arr_Cmp_ok {a : Arr × Arr} {res : Int} (h : p_arr_Cmp a = some res) : Mp_arr_Cmp a res := p_arr_Cmp_ih a res h
theorem p_arr_Same_ok {a_ : Arr} {b : Arr} {r : Bool} (h : p_arr_Same a_ b = some r) : aval X 23 [.d (encArr a_), .d (encArr b)] [] (CRes.ret (.d (.bool r)) []) := by
 unfold p_arr_Same at h
 refine aval_start (tm := [(0, .d (encArr a_)), (1, .d (encArr b))]) (hp := []) (n := 0) rfl Tryz.func23 rfl rfl rfl rfl rfl rfl ?_
 refine ra (nid' := 2) rfl ?_
 refine awp_seq ?_
 refine rn 2 rfl ?_
 obtain ⟨x, hk, h⟩ := bind_inv h
 refine po (ecall (p_arr_Cmp_ok hk) rfl rfl rfl rfl rfl rfl rfl rfl rfl) rfl rfl ?_
 refine on 2 rfl ?_
 refine rz ?_
 refine awp_ret ?_
 cases h
 exact .ret rfl rfl
abbrev Mp_core_Same_l0 (a : Node × Node × Int) (res : Except (Bool) (Unit)) : Prop := match a with | (a_, b, x1) => awpL X 13 (codeAt [1, 1, 0, 1, 0, 0] (bodyOf Tryz.f13)) (cleanAt (X.H 13 4) 2) (exitQ 0 (X.H 13 1000000) 2 (SubQ X Tryz.f13 0 (fun (r : Bool) => (CRes.ret (.d (.bool r)) [])) (fun (_ : Unit) => (⟨[], [(1, [.d (.int .i64 b.kind), .d (.int .i64 b.op_), .d (.str b.name), .d (.list 1 (List.map (D.int .i64) b.lit.shape)), .d (.list 3 (List.map encCell b.lit.cells)), .d (.list 7 (List.map encNodeR b.kids)), .d (.int .i64 b.at_)]), (0, [.d (.int .i64 a_.kind), .d (.int .i64 a_.op_), .d (.str a_.name), .d (.list 1 (List.map (D.int .i64) a_.lit.shape)), .d (.list 3 (List.map encCell a_.lit.cells)), .d (.list 7 (List.map encNodeR a_.kids)), .d (.int .i64 a_.at_)])], 2, [], none⟩ : St)) res)) ⟨[(2, .c (.ptr 0 0)), (3, .c (.ptr 1 0)), (44, .d (.int .i64 (List.length a_.kids : Int))), (45, .d (.int .i64 x1))], [(1, [.d (.int .i64 b.kind), .d (.int .i64 b.op_), .d (.str b.name), .d (.list 1 (List.map (D.int .i64) b.lit.shape)), .d (.list 3 (List.map encCell b.lit.cells)), .d (.list 7 (List.map encNodeR b.kids)), .d (.int .i64 b.at_)]), (0, [.d (.int .i64 a_.kind), .d (.int .i64 a_.op_), .d (.str a_.name), .d (.list 1 (List.map (D.int .i64) a_.lit.shape)), .d (.list 3 (List.map encCell a_.lit.cells)), .d (.list 7 (List.map encNodeR a_.kids)), .d (.int .i64 a_.at_)])], 2, [], none⟩
abbrev Mp_core_Same (a : Node × Node) (res : Bool) : Prop := match a with | (a_, b) => aval X 13 [.d (encNode a_), .d (encNode b)] [] (CRes.ret (.d (.bool res)) [])
theorem p_core_Same_l0_grp : (∀ a res, p_core_Same_l0 a = some res → Mp_core_Same_l0 a res) ∧ (∀ a res, p_core_Same a = some res → Mp_core_Same a res) := by
 refine p_core_Same_l0.mutual_partial_correctness (motive_1 := Mp_core_Same_l0) (motive_2 := Mp_core_Same) ?_ ?_
 ·rintro p_core_Same_l0' p_core_Same' ih_p_core_Same_l0 ih_p_core_Same ⟨a_, b, x1⟩ res h
  refine lg rfl ?_
  refine ra rfl ?_
  refine awp_seq ?_
  rcases ite_inv h with ⟨hc, h⟩ | ⟨hc, h⟩
  ·refine ct rfl hc ?_
   refine awp_skip ?_
   refine cn rfl ?_
   refine seqQ.normal ?_
   refine awp_seq ?_
   refine awp_block ?_
   refine ra rfl ?_
   refine awp_seq ?_
   refine drn (m := 14) 3 rfl rfl ?_
   obtain ⟨y, hk, h⟩ := bind_inv h
   refine pd (elget encNode encNodeR_eq hk rfl rfl rfl rfl rfl) rfl rfl rfl rfl rfl ?_
   refine don 4 rfl ?_
   obtain ⟨y1, hk, h⟩ := bind_inv h
   refine pd (elget encNode encNodeR_eq hk rfl rfl rfl rfl rfl) rfl rfl rfl rfl rfl ?_
   refine don 1 rfl ?_
   obtain ⟨x2, hk, h⟩ := bind_inv h
   refine pd (ecall (ih_p_core_Same _ _ hk) rfl rfl rfl rfl rfl rfl rfl rfl rfl) rfl rfl rfl rfl rfl ?_
   refine don 1 rfl ?_
   refine dz (by kernel_rfl) ?_
   rcases ite_inv h with ⟨hc, h⟩ | ⟨hc, h⟩
   ·refine ct rfl hc ?_
    refine ra rfl ?_
    refine awp_ret ?_
    refine condQ.ret ?_
    refine exitQ.ret ?_
    refine seqQ.ret ?_
    refine loopQ.ret ?_
    refine exitQ.ret ?_
    cases h
    exact .err rfl (.ret rfl rfl)
   ·refine cf rfl hc ?_
    refine awp_skip ?_
    refine cn rfl ?_
    refine en rfl ?_
    refine seqQ.normal ?_
    refine rn 2 rfl ?_
    refine awpO_nil ?_
    refine loopQ.normal ?_
    exact awpL_at rfl rfl (ih_p_core_Same_l0 _ _ h)
  ·refine cf rfl hc ?_
   refine awp_exit ?_
   refine condQ.exit ?_
   refine seqQ.exit ?_
   refine loopQ.exit ?_
   refine eh rfl ?_
   cases h
   exact .ok rfl
 ·rintro p_core_Same_l0' ih_p_core_Same_l0 ⟨a_, b⟩ res h
  refine aval_start (tm := [(0, .d (encNode a_)), (1, .d (encNode b))]) (hp := []) (n := 0) rfl Tryz.func13 rfl rfl rfl rfl rfl rfl ?_
  refine ra (nid' := 2) rfl ?_
  refine awp_seq ?_
  refine awp_seq ?_
  refine rn 6 rfl ?_
  rcases ite_inv h with ⟨hc, h⟩ | ⟨hc, h⟩
  ·refine gt rfl rfl rfl rfl hc rfl ?_
   refine on 30 rfl ?_
   refine rz ?_
   refine ct rfl rfl ?_
   refine ra rfl ?_
   refine awp_ret ?_
   refine condQ.ret ?_
   refine seqQ.ret ?_
   cases h
   exact .ret rfl rfl
  ·refine gf rfl rfl rfl rfl hc rfl ?_
   refine on 7 rfl ?_
   rcases ite_inv h with ⟨hc, h⟩ | ⟨hc, h⟩
   ·refine gt rfl rfl rfl rfl hc rfl ?_
    refine on 23 rfl ?_
    refine rz ?_
    refine ct rfl rfl ?_
    refine ra rfl ?_
    refine awp_ret ?_
    refine condQ.ret ?_
    refine seqQ.ret ?_
    cases h
    exact .ret rfl rfl
   ·refine gf rfl rfl rfl rfl hc rfl ?_
    refine on 7 rfl ?_
    rcases ite_inv h with ⟨hc, h⟩ | ⟨hc, h⟩
    ·refine gt rfl rfl rfl rfl hc rfl ?_
     refine on 16 rfl ?_
     refine rz ?_
     refine ct rfl rfl ?_
     refine ra rfl ?_
     refine awp_ret ?_
     refine condQ.ret ?_
     refine seqQ.ret ?_
     cases h
     exact .ret rfl rfl
    ·refine gf rfl rfl rfl rfl hc rfl ?_
     refine on 4 rfl ?_
     obtain ⟨x, hk, h⟩ := bind_inv h
     refine po (ecall (p_arr_Same_ok hk) rfl rfl rfl rfl rfl rfl rfl rfl rfl) rfl rfl ?_
     refine on 3 rfl ?_
     rcases ite_inv h with ⟨hc, h⟩ | ⟨hc, h⟩
     ·refine gt rfl rfl rfl rfl hc rfl ?_
      refine on 8 rfl ?_
      refine rz ?_
      refine ct rfl rfl ?_
      refine ra rfl ?_
      refine awp_ret ?_
      refine condQ.ret ?_
      refine seqQ.ret ?_
      cases h
      exact .ret rfl rfl
     ·refine gf rfl rfl rfl rfl hc rfl ?_
      refine on 2 rfl ?_
      refine po (ellen rfl rfl rfl rfl rfl rfl rfl) rfl rfl ?_
      refine on 2 rfl ?_
      refine po (ellen rfl rfl rfl rfl rfl rfl rfl) rfl rfl ?_
      refine on 2 rfl ?_
      refine rz ?_
      rcases ite_inv h with ⟨hc, h⟩ | ⟨hc, h⟩
      ·refine ct rfl hc ?_
       refine ra rfl ?_
       refine awp_ret ?_
       refine condQ.ret ?_
       refine seqQ.ret ?_
       cases h
       exact .ret rfl rfl
      ·refine cf rfl hc ?_
       refine awp_skip ?_
       refine cn rfl ?_
       refine seqQ.normal ?_
       refine awp_seq ?_
       refine awp_seq ?_
       refine rn 2 rfl ?_
       refine po (ellen rfl rfl rfl rfl rfl rfl rfl) rfl rfl ?_
       refine on 1 rfl ?_
       refine rz ?_
       obtain ⟨res, hs, h⟩ := bind_inv h
       refine awp_sub Tryz.f13 0 (fun (r : Bool) => (CRes.ret (.d (.bool r)) [])) (fun (_ : Unit) => (⟨[], [(1, [.d (.int .i64 b.kind), .d (.int .i64 b.op_), .d (.str b.name), .d (.list 1 (List.map (D.int .i64) b.lit.shape)), .d (.list 3 (List.map encCell b.lit.cells)), .d (.list 7 (List.map encNodeR b.kids)), .d (.int .i64 b.at_)]), (0, [.d (.int .i64 a_.kind), .d (.int .i64 a_.op_), .d (.str a_.name), .d (.list 1 (List.map (D.int .i64) a_.lit.shape)), .d (.list 3 (List.map encCell a_.lit.cells)), .d (.list 7 (List.map encNodeR a_.kids)), .d (.int .i64 a_.at_)])], 2, [], none⟩ : St)) (res := res) ?_ (fun y hy => ?_) (fun r x s' hr hx he => ?_)
       ·replace h := hs
        refine awp_block ?_
        refine awp_loop ?_
        exact awpL_at rfl rfl (ih_p_core_Same_l0 _ _ h)
       ·subst hy
        refine seqQ.normal ?_
        refine ra rfl ?_
        refine awp_ret ?_
        cases h
        exact .ret rfl rfl
       ·subst hr
        refine seqQ.out hx ?_
        cases h
        exact he
theorem p_core_Same_ih : ∀ a res, p_core_Same a = some res → Mp_core_Same a res := p_core_Same_l0_grp.2
theorem p_core_Same_ok {a : Node × Node} {res : Bool} (h : p_core_Same a = some res) : Mp_core_Same a res := p_core_Same_ih a res h
theorem p_arr_Size_l0_ok : ∀ (a : ((List Int)) × Bool × Int) (res : Except (Int × Int) (Bool)), p_arr_Size_l0 a = some res → (match a with | (shape, none_, x) => awpL X 103 (codeAt [1, 1, 1, 0, 1, 0, 0] (bodyOf Tryz.f103)) (cleanAt (X.H 103 5) 0) (exitQ 0 (X.H 103 1000000) 0 (SubQ X Tryz.f103 0 (fun (r : Int × Int) => (CRes.ret (.tuple [.d (.int .i64 r.1), .d (.int .i64 r.2)]) [])) (fun (none_2 : Bool) => (⟨[(0, .d (.list 1 (List.map (D.int .i64) shape))), (4, .d (.int .i64 1)), (5, .d (.bool none_2))], [], 0, [], none⟩ : St)) res)) ⟨[(0, .d (.list 1 (List.map (D.int .i64) shape))), (4, .d (.int .i64 1)), (5, .d (.bool none_)), (13, .d (.list 1 (List.map (D.int .i64) shape))), (14, .d (.int .i64 (List.length shape : Int))), (15, .d (.int .i64 x))], [], 0, [], none⟩) := by
 refine p_arr_Size_l0.partial_correctness _ ?_
 rintro p_arr_Size_l0' ih ⟨shape, none_, x⟩ res h
 refine lg rfl ?_
 refine ra rfl ?_
 refine awp_seq ?_
 rcases ite_inv h with ⟨hc, h⟩ | ⟨hc, h⟩
 ·refine ct rfl hc ?_
  refine awp_skip ?_
  refine cn rfl ?_
  refine seqQ.normal ?_
  refine awp_seq ?_
  obtain ⟨res, hs, h⟩ := bind_inv h
  refine awp_sub Tryz.f103 0 (fun (r : Int × Int) => (CRes.ret (.tuple [.d (.int .i64 r.1), .d (.int .i64 r.2)]) [])) (fun (none_1 : Bool) => (⟨[(0, .d (.list 1 (List.map (D.int .i64) shape))), (4, .d (.int .i64 1)), (5, .d (.bool none_1)), (13, .d (.list 1 (List.map (D.int .i64) shape))), (14, .d (.int .i64 (List.length shape : Int))), (15, .d (.int .i64 x))], [], 0, [], none⟩ : St)) (res := res) ?_ (fun y hy => ?_) (fun r x s' hr hx he => ?_)
  ·replace h := hs
   refine awp_block ?_
   refine awp_seq ?_
   refine rn 0 rfl ?_
   obtain ⟨d, hk, h⟩ := bind_inv h
   refine po (elget (D.int .i64) (fun _ => rfl) hk rfl rfl rfl rfl rfl) rfl rfl ?_
   refine on 2 rfl ?_
   refine rz ?_
   refine awp_seq ?_
   refine ra rfl ?_
   rcases ite_inv h with ⟨hc, h⟩ | ⟨hc, h⟩
   ·refine ct rfl hc ?_
    refine ra rfl ?_
    refine awp_ret ?_
    refine condQ.ret ?_
    refine seqQ.ret ?_
    refine exitQ.ret ?_
    cases h
    exact .err rfl (.ret rfl rfl)
   ·refine cf rfl hc ?_
    refine awp_skip ?_
    refine cn rfl ?_
    refine seqQ.normal ?_
    refine rn 2 rfl ?_
    rcases ite_inv h with ⟨hc, h⟩ | ⟨hc, h⟩
    ·refine gt rfl rfl rfl rfl hc rfl ?_
     refine on 4 rfl ?_
     refine awpO_nil ?_
     refine en rfl ?_
     cases h
     exact .ok rfl
    ·refine gf rfl rfl rfl rfl hc rfl ?_
     refine on 4 rfl ?_
     refine awpO_nil ?_
     refine en rfl ?_
     cases h
     exact .ok rfl
  ·subst hy
   obtain none_1 := y
   refine seqQ.normal ?_
   refine rn 2 rfl ?_
   refine awpO_nil ?_
   refine loopQ.normal ?_
   exact awpL_at rfl rfl (ih _ _ h)
  ·subst hr
   refine seqQ.out hx ?_
   refine loopQ.out hx ?_
   refine exitQ.out hx ?_
   cases h
   exact .err hx he
 ·refine cf rfl hc ?_
  refine awp_exit ?_
  refine condQ.exit ?_
  refine seqQ.exit ?_
  refine loopQ.exit ?_
  refine eh rfl ?_
  cases h
  exact .ok rfl
theorem p_arr_Size_l1_ok : ∀ (a : ((List Int)) × Int × Int) (res : Except (Int × Int) (Int)), p_arr_Size_l1 a = some res → (match a with | (shape, n, x1) => awpL X 103 (codeAt [1, 1, 1, 1, 1, 0, 1, 0, 0] (bodyOf Tryz.f103)) (cleanAt (X.H 103 14) 0) (exitQ 2 (X.H 103 1000002) 0 (SubQ X Tryz.f103 0 (fun (r : Int × Int) => (CRes.ret (.tuple [.d (.int .i64 r.1), .d (.int .i64 r.2)]) [])) (fun (n1 : Int) => (⟨[(4, .d (.int .i64 n1))], [], 0, [], none⟩ : St)) res)) ⟨[(4, .d (.int .i64 n)), (28, .d (.list 1 (List.map (D.int .i64) shape))), (29, .d (.int .i64 (List.length shape : Int))), (30, .d (.int .i64 x1))], [], 0, [], none⟩) := by
 refine p_arr_Size_l1.partial_correctness _ ?_
 rintro p_arr_Size_l1' ih ⟨shape, n, x1⟩ res h
 refine lg rfl ?_
 refine ra rfl ?_
 refine awp_seq ?_
 rcases ite_inv h with ⟨hc, h⟩ | ⟨hc, h⟩
 ·refine ct rfl hc ?_
  refine awp_skip ?_
  refine cn rfl ?_
  refine seqQ.normal ?_
  refine awp_seq ?_
  refine awp_block ?_
  refine awp_seq ?_
  refine rn 0 rfl ?_
  obtain ⟨d1, hk, h⟩ := bind_inv h
  refine po (elget (D.int .i64) (fun _ => rfl) hk rfl rfl rfl rfl rfl) rfl rfl ?_
  refine on 2 rfl ?_
  refine rz ?_
  refine awp_seq ?_
  refine awp_seq ?_
  refine rn 2 rfl ?_
  obtain ⟨q, hk, h⟩ := bind_inv h
  refine po (eidiv hk rfl rfl rfl) rfl rfl ?_
  refine on 1 rfl ?_
  refine rz ?_
  rcases ite_inv h with ⟨hc, h⟩ | ⟨hc, h⟩
  ·refine ct rfl hc ?_
   refine ra rfl ?_
   refine awp_ret ?_
   refine condQ.ret ?_
   refine seqQ.ret ?_
   refine exitQ.ret ?_
   refine seqQ.ret ?_
   refine loopQ.ret ?_
   refine exitQ.ret ?_
   cases h
   exact .err rfl (.ret rfl rfl)
  ·refine cf rfl hc ?_
   refine awp_skip ?_
   refine cn rfl ?_
   refine seqQ.normal ?_
   refine rn 4 rfl ?_
   refine awpO_nil ?_
   refine en rfl ?_
   refine seqQ.normal ?_
   refine rn 2 rfl ?_
   refine awpO_nil ?_
   refine loopQ.normal ?_
   exact awpL_at rfl rfl (ih _ _ h)
 ·refine cf rfl hc ?_
  refine awp_exit ?_
  refine condQ.exit ?_
  refine seqQ.exit ?_
  refine loopQ.exit ?_
  refine eh rfl ?_
  cases h
  exact .ok rfl
theorem p_arr_Size_ok {shape : (List Int)} {r : Int × Int} (h : p_arr_Size shape = some r) : aval X 103 [.d (.list 1 (List.map (D.int .i64) shape))] [] (CRes.ret (.tuple [.d (.int .i64 r.1), .d (.int .i64 r.2)]) []) := by
 unfold p_arr_Size at h
 refine aval_start (tm := [(0, .d (.list 1 (List.map (D.int .i64) shape)))]) (hp := []) (n := 0) rfl Tryz.func103 rfl rfl rfl rfl rfl rfl ?_
 refine ra rfl ?_
 refine awp_seq ?_
 refine awp_seq ?_
 refine rn 1 rfl ?_
 refine po (ellen rfl rfl rfl rfl rfl rfl rfl) rfl rfl ?_
 refine on 1 rfl ?_
 refine rz ?_
 rcases ite_inv h with ⟨hc, h⟩ | ⟨hc, h⟩
 ·refine ct rfl hc ?_
  refine ra rfl ?_
  refine awp_ret ?_
  refine condQ.ret ?_
  refine seqQ.ret ?_
  cases h
  exact .ret rfl rfl
 ·refine cf rfl hc ?_
  refine awp_skip ?_
  refine cn rfl ?_
  refine seqQ.normal ?_
  refine ra rfl ?_
  refine awp_seq ?_
  refine awp_seq ?_
  refine rn 1 rfl ?_
  refine po (ellen rfl rfl rfl rfl rfl rfl rfl) rfl rfl ?_
  refine on 1 rfl ?_
  refine rz ?_
  obtain ⟨res, hs, h⟩ := bind_inv h
  refine awp_sub Tryz.f103 0 (fun (r : Int × Int) => (CRes.ret (.tuple [.d (.int .i64 r.1), .d (.int .i64 r.2)]) [])) (fun (none_2 : Bool) => (⟨[(0, .d (.list 1 (List.map (D.int .i64) shape))), (4, .d (.int .i64 1)), (5, .d (.bool none_2))], [], 0, [], none⟩ : St)) (res := res) ?_ (fun y hy => ?_) (fun r x s' hr hx he => ?_)
  ·replace h := hs
   refine awp_block ?_
   refine awp_loop ?_
   exact awpL_at rfl rfl (p_arr_Size_l0_ok _ _ h)
  ·subst hy
   obtain none_2 := y
   refine seqQ.normal ?_
   refine awp_seq ?_
   refine ra rfl ?_
   rcases ite_inv h with ⟨hc, h⟩ | ⟨hc, h⟩
   ·refine ct rfl hc ?_
    refine ra rfl ?_
    refine awp_ret ?_
    refine condQ.ret ?_
    refine seqQ.ret ?_
    cases h
    exact .ret rfl rfl
   ·refine cf rfl hc ?_
    refine awp_skip ?_
    refine cn rfl ?_
    refine seqQ.normal ?_
    refine awp_seq ?_
    refine awp_seq ?_
    refine rn 1 rfl ?_
    refine po (ellen rfl rfl rfl rfl rfl rfl rfl) rfl rfl ?_
    refine on 1 rfl ?_
    refine rz ?_
    obtain ⟨res, hs, h⟩ := bind_inv h
    refine awp_sub Tryz.f103 0 (fun (r : Int × Int) => (CRes.ret (.tuple [.d (.int .i64 r.1), .d (.int .i64 r.2)]) [])) (fun (n1 : Int) => (⟨[(4, .d (.int .i64 n1))], [], 0, [], none⟩ : St)) (res := res) ?_ (fun y hy => ?_) (fun r x s' hr hx he => ?_)
    ·replace h := hs
     refine awp_block ?_
     refine awp_loop ?_
     exact awpL_at rfl rfl (p_arr_Size_l1_ok _ _ h)
    ·subst hy
     obtain n1 := y
     refine seqQ.normal ?_
     refine ra rfl ?_
     refine awp_ret ?_
     cases h
     exact .ret rfl rfl
    ·subst hr
     refine seqQ.out hx ?_
     cases h
     exact he
  ·subst hr
   refine seqQ.out hx ?_
   cases h
   exact he
theorem p_arr_good_ok {n : Int} {r : Bool} (h : p_arr_good n = some r) : aval X 104 [.d (.int .i64 n)] [] (CRes.ret (.d (.bool r)) []) := by
 unfold p_arr_good at h
 refine aval_start (tm := [(0, .d (.int .i64 n))]) (hp := []) (n := 0) rfl Tryz.func104 rfl rfl rfl rfl rfl rfl ?_
 refine ra rfl ?_
 refine awp_seq ?_
 refine rn 3 rfl ?_
 rcases ite_inv h with ⟨hc, h⟩ | ⟨hc, h⟩
 ·refine gt rfl rfl rfl rfl hc rfl ?_
  refine on 4 rfl ?_
  rcases ite_inv h with ⟨hc, h⟩ | ⟨hc, h⟩
  ·refine gt rfl rfl rfl rfl hc rfl ?_
   refine on 3 rfl ?_
   rcases ite_inv h with ⟨hc, h⟩ | ⟨hc, h⟩
   ·refine gt rfl rfl rfl rfl hc rfl ?_
    refine on 5 rfl ?_
    refine rz ?_
    refine awp_ret ?_
    cases h
    exact .ret rfl rfl
   ·refine gf rfl rfl rfl rfl hc rfl ?_
    refine on 5 rfl ?_
    refine rz ?_
    refine awp_ret ?_
    cases h
    exact .ret rfl rfl
  ·refine gf rfl rfl rfl rfl hc rfl ?_
   refine on 8 rfl ?_
   refine rz ?_
   refine awp_ret ?_
   cases h
   exact .ret rfl rfl
 ·refine gf rfl rfl rfl rfl hc rfl ?_
  refine on 12 rfl ?_
  refine rz ?_
  refine awp_ret ?_
  cases h
  exact .ret rfl rfl
abbrev Mp_arr_check_l0 (a : Arr × Int) (res : Except (Int) (Unit)) : Prop := match a with | (a_, x) => ∀ (deep : Int), awpL X 101 (codeAt [1, 1, 1, 1, 0, 1, 0, 0] (bodyOf Tryz.f101)) (cleanAt (X.H 101 7) 1) (exitQ 0 (X.H 101 1000000) 1 (SubQ X Tryz.f101 0 (fun (r : Int) => (CRes.ret (.d (.int .i64 r)) [])) (fun (_ : Unit) => (⟨[(1, .d (.int .i64 deep)), (2, .c (.ptr 0 0))], [(0, [.d (.list 1 (List.map (D.int .i64) a_.shape)), .d (.list 3 (List.map encCell a_.cells))])], 1, [], none⟩ : St)) res)) ⟨[(1, .d (.int .i64 deep)), (2, .c (.ptr 0 0)), (27, .d (.list 1 (List.map (D.int .i64) a_.shape))), (28, .d (.int .i64 (List.length a_.shape : Int))), (29, .d (.int .i64 x))], [(0, [.d (.list 1 (List.map (D.int .i64) a_.shape)), .d (.list 3 (List.map encCell a_.cells))])], 1, [], none⟩
theorem p_arr_check_l0_ih : ∀ a res, p_arr_check_l0 a = some res → Mp_arr_check_l0 a res := by
 refine p_arr_check_l0.partial_correctness Mp_arr_check_l0 ?_
 rintro p_arr_check_l0' ih_p_arr_check_l0 ⟨a_, x⟩ res h deep
 refine lg rfl ?_
 refine ra rfl ?_
 refine awp_seq ?_
 rcases ite_inv h with ⟨hc, h⟩ | ⟨hc, h⟩
 ·refine ct rfl hc ?_
  refine awp_skip ?_
  refine cn rfl ?_
  refine seqQ.normal ?_
  refine awp_seq ?_
  refine awp_block ?_
  refine awp_seq ?_
  refine rn 0 rfl ?_
  obtain ⟨d, hk, h⟩ := bind_inv h
  refine po (elget (D.int .i64) (fun _ => rfl) hk rfl rfl rfl rfl rfl) rfl rfl ?_
  refine on 2 rfl ?_
  refine rz ?_
  refine ra rfl ?_
  rcases ite_inv h with ⟨hc, h⟩ | ⟨hc, h⟩
  ·refine ct rfl hc ?_
   refine ra rfl ?_
   refine awp_ret ?_
   refine condQ.ret ?_
   refine exitQ.ret ?_
   refine seqQ.ret ?_
   refine loopQ.ret ?_
   refine exitQ.ret ?_
   cases h
   exact .err rfl (.ret rfl rfl)
  ·refine cf rfl hc ?_
   refine awp_skip ?_
   refine cn rfl ?_
   refine en rfl ?_
   refine seqQ.normal ?_
   refine rn 2 rfl ?_
   refine awpO_nil ?_
   refine loopQ.normal ?_
   exact awpL_at rfl rfl (ih_p_arr_check_l0 _ _ h deep)
 ·refine cf rfl hc ?_
  refine awp_exit ?_
  refine condQ.exit ?_
  refine seqQ.exit ?_
  refine loopQ.exit ?_
  refine eh rfl ?_
  cases h
  exact .ok rfl
abbrev Mp_arr_check_l1 (a : Arr × Int × Int) (res : Except (Int) (Unit)) : Prop := match a with | (a_, deep, x1) => awpL X 101 (codeAt [1, 1, 1, 1, 1, 0, 1, 0, 0] (bodyOf Tryz.f101)) (cleanAt (X.H 101 13) 1) (exitQ 2 (X.H 101 1000002) 1 (SubQ X Tryz.f101 0 (fun (r : Int) => (CRes.ret (.d (.int .i64 r)) [])) (fun (_ : Unit) => (⟨[], [(0, [.d (.list 1 (List.map (D.int .i64) a_.shape)), .d (.list 3 (List.map encCell a_.cells))])], 1, [], none⟩ : St)) res)) ⟨[(1, .d (.int .i64 deep)), (37, .d (.list 3 (List.map encCell a_.cells))), (38, .d (.int .i64 (List.length a_.cells : Int))), (39, .d (.int .i64 x1))], [(0, [.d (.list 1 (List.map (D.int .i64) a_.shape)), .d (.list 3 (List.map encCell a_.cells))])], 1, [], none⟩
abbrev Mp_arr_check (a : Arr × Int) (res : Int) : Prop := match a with | (a_, deep) => aval X 101 [.d (encArr a_), .d (.int .i64 deep)] [] (CRes.ret (.d (.int .i64 res)) [])
theorem p_arr_check_l1_grp : (∀ a res, p_arr_check_l1 a = some res → Mp_arr_check_l1 a res) ∧ (∀ a res, p_arr_check a = some res → Mp_arr_check a res) := by
 refine p_arr_check_l1.mutual_partial_correctness (motive_1 := Mp_arr_check_l1) (motive_2 := Mp_arr_check) ?_ ?_
 ·rintro p_arr_check_l1' p_arr_check' ih_p_arr_check_l1 ih_p_arr_check ⟨a_, deep, x1⟩ res h
  refine lg rfl ?_
  refine ra rfl ?_
  refine awp_seq ?_
  rcases ite_inv h with ⟨hc, h⟩ | ⟨hc, h⟩
  ·refine ct rfl hc ?_
   refine awp_skip ?_
   refine cn rfl ?_
   refine seqQ.normal ?_
   refine awp_seq ?_
   obtain ⟨res, hs, h⟩ := bind_inv h
   refine awp_sub Tryz.f101 0 (fun (r : Int) => (CRes.ret (.d (.int .i64 r)) [])) (fun (_ : Unit) => (⟨[(1, .d (.int .i64 deep)), (37, .d (.list 3 (List.map encCell a_.cells))), (38, .d (.int .i64 (List.length a_.cells : Int))), (39, .d (.int .i64 x1))], [(0, [.d (.list 1 (List.map (D.int .i64) a_.shape)), .d (.list 3 (List.map encCell a_.cells))])], 1, [], none⟩ : St)) (res := res) ?_ (fun y hy => ?_) (fun r x s' hr hx he => ?_)
   ·replace h := hs
    refine awp_block ?_
    refine awp_seq ?_
    refine rn 0 rfl ?_
    obtain ⟨y, hk, h⟩ := bind_inv h
    refine po (elget encCell (fun _ => rfl) hk rfl rfl rfl rfl rfl) rfl rfl ?_
    refine on (nid' := 2) 3 rfl ?_
    refine rz ?_
    refine awp_block ?_
    refine awp_seq ?_
    refine rn 4 rfl ?_
    rcases ite_inv h with ⟨hc, h⟩ | ⟨hc, h⟩
    ·refine gt rfl rfl rfl rfl hc rfl ?_
     refine on 5 rfl ?_
     rcases ite_inv h with ⟨hc, h⟩ | ⟨hc, h⟩
     ·refine gt rfl rfl rfl rfl hc rfl ?_
      refine on 2 rfl ?_
      refine po (ellen rfl rfl rfl rfl rfl rfl rfl) rfl rfl ?_
      refine on 3 rfl ?_
      refine rz ?_
      rcases ite_inv h with ⟨hc, h⟩ | ⟨hc, h⟩
      ·refine ct rfl hc ?_
       refine awp_seq ?_
       refine ra rfl ?_
       rcases ite_inv h with ⟨hc, h⟩ | ⟨hc, h⟩
       ·refine ct rfl hc ?_
        refine ra rfl ?_
        refine awp_ret ?_
        refine condQ.ret ?_
        refine seqQ.ret ?_
        refine condQ.ret ?_
        refine exitQ.ret ?_
        refine exitQ.ret ?_
        cases h
        exact .err rfl (.ret rfl rfl)
       ·refine cf rfl hc ?_
        refine awp_skip ?_
        refine cn rfl ?_
        refine seqQ.normal ?_
        refine awp_seq ?_
        refine rn 2 rfl ?_
        obtain ⟨y1, hk, h⟩ := bind_inv h
        refine po (elget encArr encArrR_eq hk rfl rfl rfl rfl rfl) rfl rfl ?_
        refine on 3 rfl ?_
        obtain ⟨e1, hk, h⟩ := bind_inv h
        refine po (ecall (ih_p_arr_check _ _ hk) rfl rfl rfl rfl rfl rfl rfl rfl rfl) rfl rfl ?_
        refine on 1 rfl ?_
        refine rz ?_
        refine ra rfl ?_
        rcases ite_inv h with ⟨hc, h⟩ | ⟨hc, h⟩
        ·refine ct rfl hc ?_
         refine ra rfl ?_
         refine awp_ret ?_
         refine condQ.ret ?_
         refine condQ.ret ?_
         refine exitQ.ret ?_
         refine exitQ.ret ?_
         cases h
         exact .err rfl (.ret rfl rfl)
        ·refine cf rfl hc ?_
         refine awp_skip ?_
         refine cn rfl ?_
         refine cn rfl ?_
         refine en rfl ?_
         refine en rfl ?_
         cases h
         exact .ok rfl
      ·refine cf rfl hc ?_
       refine awp_seq ?_
       refine rn 2 rfl ?_
       refine po (ellen rfl rfl rfl rfl rfl rfl rfl) rfl rfl ?_
       refine on 2 rfl ?_
       rcases ite_inv h with ⟨hc, h⟩ | ⟨hc, h⟩
       ·refine gt rfl rfl rfl rfl hc rfl ?_
        refine on 16 rfl ?_
        refine rz ?_
        refine ct rfl rfl ?_
        refine ra rfl ?_
        refine awp_ret ?_
        refine condQ.ret ?_
        refine condQ.ret ?_
        refine exitQ.ret ?_
        refine exitQ.ret ?_
        cases h
        exact .err rfl (.ret rfl rfl)
       ·refine gf rfl rfl rfl rfl hc rfl ?_
        refine on 4 rfl ?_
        rcases ite_inv h with ⟨hc, h⟩ | ⟨hc, h⟩
        ·refine gt rfl rfl rfl rfl hc rfl ?_
         refine on 4 rfl ?_
         rcases ite_inv h with ⟨hc, h⟩ | ⟨hc, h⟩
         ·refine gt rfl rfl rfl rfl hc rfl ?_
          refine on 8 rfl ?_
          refine rz ?_
          refine ct rfl rfl ?_
          refine ra rfl ?_
          refine awp_ret ?_
          refine condQ.ret ?_
          refine condQ.ret ?_
          refine exitQ.ret ?_
          refine exitQ.ret ?_
          cases h
          exact .err rfl (.ret rfl rfl)
         ·refine gf rfl rfl rfl rfl hc rfl ?_
          refine on 2 rfl ?_
          obtain ⟨x2, hk, h⟩ := bind_inv h
          refine po (ecall (p_arr_good_ok hk) rfl rfl rfl rfl rfl rfl rfl rfl rfl) rfl rfl ?_
          refine on 5 rfl ?_
          refine rz ?_
          rcases ite_inv h with ⟨hc, h⟩ | ⟨hc, h⟩
          ·refine ct rfl hc ?_
           refine ra rfl ?_
           refine awp_ret ?_
           refine condQ.ret ?_
           refine condQ.ret ?_
           refine exitQ.ret ?_
           refine exitQ.ret ?_
           cases h
           exact .err rfl (.ret rfl rfl)
          ·refine cf rfl hc ?_
           refine awp_skip ?_
           refine cn rfl ?_
           refine cn rfl ?_
           refine en rfl ?_
           refine en rfl ?_
           cases h
           exact .ok rfl
        ·refine gf rfl rfl rfl rfl hc rfl ?_
         refine on 12 rfl ?_
         refine rz ?_
         refine cf rfl rfl ?_
         refine awp_skip ?_
         refine cn rfl ?_
         refine cn rfl ?_
         refine en rfl ?_
         refine en rfl ?_
         cases h
         exact .ok rfl
     ·refine gf rfl rfl rfl rfl hc rfl ?_
      refine on 6 rfl ?_
      refine rz ?_
      refine cf rfl rfl ?_
      refine awp_seq ?_
      refine rn 2 rfl ?_
      refine po (ellen rfl rfl rfl rfl rfl rfl rfl) rfl rfl ?_
      refine on 2 rfl ?_
      rcases ite_inv h with ⟨hc, h⟩ | ⟨hc, h⟩
      ·refine gt rfl rfl rfl rfl hc rfl ?_
       refine on 16 rfl ?_
       refine rz ?_
       refine ct rfl rfl ?_
       refine ra rfl ?_
       refine awp_ret ?_
       refine condQ.ret ?_
       refine condQ.ret ?_
       refine exitQ.ret ?_
       refine exitQ.ret ?_
       cases h
       exact .err rfl (.ret rfl rfl)
      ·refine gf rfl rfl rfl rfl hc rfl ?_
       refine on 4 rfl ?_
       rcases ite_inv h with ⟨hc, h⟩ | ⟨hc, h⟩
       ·refine gt rfl rfl rfl rfl hc rfl ?_
        refine on 4 rfl ?_
        rcases ite_inv h with ⟨hc, h⟩ | ⟨hc, h⟩
        ·refine gt rfl rfl rfl rfl hc rfl ?_
         refine on 8 rfl ?_
         refine rz ?_
         refine ct rfl rfl ?_
         refine ra rfl ?_
         refine awp_ret ?_
         refine condQ.ret ?_
         refine condQ.ret ?_
         refine exitQ.ret ?_
         refine exitQ.ret ?_
         cases h
         exact .err rfl (.ret rfl rfl)
        ·refine gf rfl rfl rfl rfl hc rfl ?_
         refine on 2 rfl ?_
         obtain ⟨x3, hk, h⟩ := bind_inv h
         refine po (ecall (p_arr_good_ok hk) rfl rfl rfl rfl rfl rfl rfl rfl rfl) rfl rfl ?_
         refine on 5 rfl ?_
         refine rz ?_
         rcases ite_inv h with ⟨hc, h⟩ | ⟨hc, h⟩
         ·refine ct rfl hc ?_
          refine ra rfl ?_
          refine awp_ret ?_
          refine condQ.ret ?_
          refine condQ.ret ?_
          refine exitQ.ret ?_
          refine exitQ.ret ?_
          cases h
          exact .err rfl (.ret rfl rfl)
         ·refine cf rfl hc ?_
          refine awp_skip ?_
          refine cn rfl ?_
          refine cn rfl ?_
          refine en rfl ?_
          refine en rfl ?_
          cases h
          exact .ok rfl
       ·refine gf rfl rfl rfl rfl hc rfl ?_
        refine on 12 rfl ?_
        refine rz ?_
        refine cf rfl rfl ?_
        refine awp_skip ?_
        refine cn rfl ?_
        refine cn rfl ?_
        refine en rfl ?_
        refine en rfl ?_
        cases h
        exact .ok rfl
    ·refine gf rfl rfl rfl rfl hc rfl ?_
     refine on 11 rfl ?_
     refine rz ?_
     refine cf rfl rfl ?_
     refine awp_seq ?_
     refine rn 2 rfl ?_
     refine po (ellen rfl rfl rfl rfl rfl rfl rfl) rfl rfl ?_
     refine on 2 rfl ?_
     rcases ite_inv h with ⟨hc, h⟩ | ⟨hc, h⟩
     ·refine gt rfl rfl rfl rfl hc rfl ?_
      refine on 16 rfl ?_
      refine rz ?_
      refine ct rfl rfl ?_
      refine ra rfl ?_
      refine awp_ret ?_
      refine condQ.ret ?_
      refine condQ.ret ?_
      refine exitQ.ret ?_
      refine exitQ.ret ?_
      cases h
      exact .err rfl (.ret rfl rfl)
     ·refine gf rfl rfl rfl rfl hc rfl ?_
      refine on 4 rfl ?_
      rcases ite_inv h with ⟨hc, h⟩ | ⟨hc, h⟩
      ·refine gt rfl rfl rfl rfl hc rfl ?_
       refine on 4 rfl ?_
       rcases ite_inv h with ⟨hc, h⟩ | ⟨hc, h⟩
       ·refine gt rfl rfl rfl rfl hc rfl ?_
        refine on 8 rfl ?_
        refine rz ?_
        refine ct rfl rfl ?_
        refine ra rfl ?_
        refine awp_ret ?_
        refine condQ.ret ?_
        refine condQ.ret ?_
        refine exitQ.ret ?_
        refine exitQ.ret ?_
        cases h
        exact .err rfl (.ret rfl rfl)
       ·refine gf rfl rfl rfl rfl hc rfl ?_
        refine on 2 rfl ?_
        obtain ⟨x4, hk, h⟩ := bind_inv h
        refine po (ecall (p_arr_good_ok hk) rfl rfl rfl rfl rfl rfl rfl rfl rfl) rfl rfl ?_
        refine on 5 rfl ?_
        refine rz ?_
        rcases ite_inv h with ⟨hc, h⟩ | ⟨hc, h⟩
        ·refine ct rfl hc ?_
         refine ra rfl ?_
         refine awp_ret ?_
         refine condQ.ret ?_
         refine condQ.ret ?_
         refine exitQ.ret ?_
         refine exitQ.ret ?_
         cases h
         exact .err rfl (.ret rfl rfl)
        ·refine cf rfl hc ?_
         refine awp_skip ?_
         refine cn rfl ?_
         refine cn rfl ?_
         refine en rfl ?_
         refine en rfl ?_
         cases h
         exact .ok rfl
      ·refine gf rfl rfl rfl rfl hc rfl ?_
       refine on 12 rfl ?_
       refine rz ?_
       refine cf rfl rfl ?_
       refine awp_skip ?_
       refine cn rfl ?_
       refine cn rfl ?_
       refine en rfl ?_
       refine en rfl ?_
       cases h
       exact .ok rfl
   ·subst hy
    refine seqQ.normal ?_
    refine rn 2 rfl ?_
    refine awpO_nil ?_
    refine loopQ.normal ?_
    exact awpL_at rfl rfl (ih_p_arr_check_l1 _ _ h)
   ·subst hr
    refine seqQ.out hx ?_
    refine loopQ.out hx ?_
    refine exitQ.out hx ?_
    cases h
    exact .err hx he
  ·refine cf rfl hc ?_
   refine awp_exit ?_
   refine condQ.exit ?_
   refine seqQ.exit ?_
   refine loopQ.exit ?_
   refine eh rfl ?_
   cases h
   exact .ok rfl
 ·rintro p_arr_check_l1' ih_p_arr_check_l1 ⟨a_, deep⟩ res h
  refine aval_start (tm := [(0, .d (encArr a_)), (1, .d (.int .i64 deep))]) (hp := []) (n := 0) rfl Tryz.func101 rfl rfl rfl rfl rfl rfl ?_
  refine ra (nid' := 1) rfl ?_
  refine awp_seq ?_
  refine rn 2 rfl ?_
  obtain ⟨⟨n, e⟩, hk, h⟩ := bind_inv h
  refine po (ecall (p_arr_Size_ok hk) rfl rfl rfl rfl rfl rfl rfl rfl rfl) rfl rfl ?_
  refine on 5 rfl ?_
  refine rz ?_
  refine awp_seq ?_
  refine ra rfl ?_
  rcases ite_inv h with ⟨hc, h⟩ | ⟨hc, h⟩
  ·refine ct rfl hc ?_
   refine ra rfl ?_
   refine awp_ret ?_
   refine condQ.ret ?_
   refine seqQ.ret ?_
   cases h
   exact .ret rfl rfl
  ·refine cf rfl hc ?_
   refine awp_skip ?_
   refine cn rfl ?_
   refine seqQ.normal ?_
   refine awp_seq ?_
   refine awp_seq ?_
   refine rn 3 rfl ?_
   refine po (ellen rfl rfl rfl rfl rfl rfl rfl) rfl rfl ?_
   refine on 1 rfl ?_
   refine rz ?_
   rcases ite_inv h with ⟨hc, h⟩ | ⟨hc, h⟩
   ·refine ct rfl hc ?_
    refine ra rfl ?_
    refine awp_ret ?_
    refine condQ.ret ?_
    refine seqQ.ret ?_
    cases h
    exact .ret rfl rfl
   ·refine cf rfl hc ?_
    refine awp_skip ?_
    refine cn rfl ?_
    refine seqQ.normal ?_
    refine awp_seq ?_
    refine awp_seq ?_
    refine rn 2 rfl ?_
    refine po (ellen rfl rfl rfl rfl rfl rfl rfl) rfl rfl ?_
    refine on 1 rfl ?_
    refine rz ?_
    obtain ⟨res, hs, h⟩ := bind_inv h
    refine awp_sub Tryz.f101 0 (fun (r : Int) => (CRes.ret (.d (.int .i64 r)) [])) (fun (_ : Unit) => (⟨[(1, .d (.int .i64 deep)), (2, .c (.ptr 0 0))], [(0, [.d (.list 1 (List.map (D.int .i64) a_.shape)), .d (.list 3 (List.map encCell a_.cells))])], 1, [], none⟩ : St)) (res := res) ?_ (fun y hy => ?_) (fun r x s' hr hx he => ?_)
    ·replace h := hs
     refine awp_block ?_
     refine awp_loop ?_
     exact awpL_at rfl rfl (p_arr_check_l0_ih _ _ h deep)
    ·subst hy
     refine seqQ.normal ?_
     refine awp_seq ?_
     refine awp_seq ?_
     refine rn 2 rfl ?_
     refine po (ellen rfl rfl rfl rfl rfl rfl rfl) rfl rfl ?_
     refine on 1 rfl ?_
     refine rz ?_
     obtain ⟨res, hs, h⟩ := bind_inv h
     refine awp_sub Tryz.f101 0 (fun (r : Int) => (CRes.ret (.d (.int .i64 r)) [])) (fun (_ : Unit) => (⟨[], [(0, [.d (.list 1 (List.map (D.int .i64) a_.shape)), .d (.list 3 (List.map encCell a_.cells))])], 1, [], none⟩ : St)) (res := res) ?_ (fun y hy => ?_) (fun r x s' hr hx he => ?_)
     ·replace h := hs
      refine awp_block ?_
      refine awp_loop ?_
      exact awpL_at rfl rfl (ih_p_arr_check_l1 _ _ h)
     ·subst hy
      refine seqQ.normal ?_
      refine ra rfl ?_
      refine awp_ret ?_
      cases h
      exact .ret rfl rfl
     ·subst hr
      refine seqQ.out hx ?_
      cases h
      exact he
    ·subst hr
     refine seqQ.out hx ?_
     cases h
     exact he
theorem p_arr_check_ih : ∀ a res, p_arr_check a = some res → Mp_arr_check a res := p_arr_check_l1_grp.2
theorem p_arr_check_ok {a : Arr × Int} {res : Int} (h : p_arr_check a = some res) : Mp_arr_check a res := p_arr_check_ih a res h
theorem p_arr_Check_ok {a_ : Arr} {r : Int} (h : p_arr_Check a_ = some r) : aval X 98 [.d (encArr a_)] [] (CRes.ret (.d (.int .i64 r)) []) := by
 unfold p_arr_Check at h
 refine aval_start (tm := [(0, .d (encArr a_))]) (hp := []) (n := 0) rfl Tryz.func98 rfl rfl rfl rfl rfl rfl ?_
 refine ra (nid' := 1) rfl ?_
 refine awp_seq ?_
 refine rn 1 rfl ?_
 obtain ⟨x, hk, h⟩ := bind_inv h
 refine po (ecall (p_arr_check_ok hk) rfl rfl rfl rfl rfl rfl rfl rfl rfl) rfl rfl ?_
 refine on 1 rfl ?_
 refine rz ?_
 refine awp_ret ?_
 cases h
 exact .ret rfl rfl
theorem p_core_Literal_l0_ok : ∀ (a : Arr × Int) (res : Except (Bool) (Unit)), p_core_Literal_l0 a = some res → (match a with | (a_, x1) => awpL X 89 (codeAt [1, 1, 0, 1, 0, 0] (bodyOf Tryz.f89)) (cleanAt (X.H 89 4) 1) (exitQ 0 (X.H 89 1000000) 1 (SubQ X Tryz.f89 0 (fun (r : Bool) => (CRes.ret (.d (.bool r)) [])) (fun (_ : Unit) => (⟨[], [(0, [.d (.list 1 (List.map (D.int .i64) a_.shape)), .d (.list 3 (List.map encCell a_.cells))])], 1, [], none⟩ : St)) res)) ⟨[(1, .c (.ptr 0 0)), (27, .d (.list 3 (List.map encCell a_.cells))), (28, .d (.int .i64 (List.length a_.cells : Int))), (29, .d (.int .i64 x1))], [(0, [.d (.list 1 (List.map (D.int .i64) a_.shape)), .d (.list 3 (List.map encCell a_.cells))])], 1, [], none⟩) := by
 refine p_core_Literal_l0.partial_correctness _ ?_
 rintro p_core_Literal_l0' ih ⟨a_, x1⟩ res h
 refine lg rfl ?_
 refine ra rfl ?_
 refine awp_seq ?_
 rcases ite_inv h with ⟨hc, h⟩ | ⟨hc, h⟩
 ·refine ct rfl hc ?_
  refine awp_skip ?_
  refine cn rfl ?_
  refine seqQ.normal ?_
  refine awp_seq ?_
  obtain ⟨res, hs, h⟩ := bind_inv h
  refine awp_sub Tryz.f89 0 (fun (r : Bool) => (CRes.ret (.d (.bool r)) [])) (fun (_ : Unit) => (⟨[(1, .c (.ptr 0 0)), (27, .d (.list 3 (List.map encCell a_.cells))), (28, .d (.int .i64 (List.length a_.cells : Int))), (29, .d (.int .i64 x1))], [(0, [.d (.list 1 (List.map (D.int .i64) a_.shape)), .d (.list 3 (List.map encCell a_.cells))])], 1, [], none⟩ : St)) (res := res) ?_ (fun y hy => ?_) (fun r x s' hr hx he => ?_)
  ·replace h := hs
   refine awp_block ?_
   refine awp_seq ?_
   refine rn 0 rfl ?_
   obtain ⟨y, hk, h⟩ := bind_inv h
   refine po (elget encCell (fun _ => rfl) hk rfl rfl rfl rfl rfl) rfl rfl ?_
   refine on (nid' := 2) 3 rfl ?_
   refine rz ?_
   refine awp_seq ?_
   refine drn (m := 30) 4 rfl rfl ?_
   rcases ite_inv h with ⟨hc, h⟩ | ⟨hc, h⟩
   ·refine dgt rfl rfl rfl rfl hc rfl ?_
    refine don 24 rfl ?_
    refine dz (by kernel_rfl) ?_
    refine ct rfl rfl ?_
    refine ra rfl ?_
    refine awp_ret ?_
    refine condQ.ret ?_
    refine exitQ.ret ?_
    cases h
    exact .err rfl (.ret rfl rfl)
   ·refine dgf rfl rfl rfl rfl hc rfl ?_
    refine don 4 rfl ?_
    obtain ⟨y1, hk, h⟩ := bind_inv h
    refine pd (elget encCell (fun _ => rfl) hk rfl rfl rfl rfl rfl) rfl rfl rfl rfl rfl ?_
    refine don 5 rfl ?_
    rcases ite_inv h with ⟨hc, h⟩ | ⟨hc, h⟩
    ·refine dgt rfl rfl rfl rfl hc rfl ?_
     refine don 14 rfl ?_
     refine dz (by kernel_rfl) ?_
     refine ct rfl rfl ?_
     refine ra rfl ?_
     refine awp_ret ?_
     refine condQ.ret ?_
     refine exitQ.ret ?_
     cases h
     exact .err rfl (.ret rfl rfl)
    ·refine dgf rfl rfl rfl rfl hc rfl ?_
     refine don 4 rfl ?_
     rcases ite_inv h with ⟨hc, h⟩ | ⟨hc, h⟩
     ·refine dgt rfl rfl rfl rfl hc rfl ?_
      refine don 4 rfl ?_
      rcases ite_inv h with ⟨hc, h⟩ | ⟨hc, h⟩
      ·refine dgt rfl rfl rfl rfl hc rfl ?_
       refine don 6 rfl ?_
       refine dz (by kernel_rfl) ?_
       refine ct rfl rfl ?_
       refine ra rfl ?_
       refine awp_ret ?_
       refine condQ.ret ?_
       refine exitQ.ret ?_
       cases h
       exact .err rfl (.ret rfl rfl)
      ·refine dgf rfl rfl rfl rfl hc rfl ?_
       refine don 6 rfl ?_
       refine dz (by kernel_rfl) ?_
       rcases ite_inv h with ⟨hc, h⟩ | ⟨hc, h⟩
       ·refine ct rfl hc ?_
        refine ra rfl ?_
        refine awp_ret ?_
        refine condQ.ret ?_
        refine exitQ.ret ?_
        cases h
        exact .err rfl (.ret rfl rfl)
       ·refine cf rfl hc ?_
        refine awp_skip ?_
        refine cn rfl ?_
        refine en rfl ?_
        cases h
        exact .ok rfl
     ·refine dgf rfl rfl rfl rfl hc rfl ?_
      refine don 10 rfl ?_
      refine dz (by kernel_rfl) ?_
      refine cf rfl rfl ?_
      refine awp_skip ?_
      refine cn rfl ?_
      refine en rfl ?_
      cases h
      exact .ok rfl
  ·subst hy
   refine seqQ.normal ?_
   refine rn 2 rfl ?_
   refine awpO_nil ?_
   refine loopQ.normal ?_
   exact awpL_at rfl rfl (ih _ _ h)
  ·subst hr
   refine seqQ.out hx ?_
   refine loopQ.out hx ?_
   refine exitQ.out hx ?_
   cases h
   exact .err hx he
 ·refine cf rfl hc ?_
  refine awp_exit ?_
  refine condQ.exit ?_
  refine seqQ.exit ?_
  refine loopQ.exit ?_
  refine eh rfl ?_
  cases h
  exact .ok rfl
theorem p_core_Literal_l1_ok : ∀ (a : Arr × Int) (res : Except (Bool) (Unit)), p_core_Literal_l1 a = some res → (match a with | (a_, x2) => awpL X 89 (codeAt [1, 1, 0, 1, 0, 0] (bodyOf Tryz.f89)) (cleanAt (X.H 89 4) 1) (exitQ 0 (X.H 89 1000000) 1 (SubQ X Tryz.f89 0 (fun (r : Bool) => (CRes.ret (.d (.bool r)) [])) (fun (_ : Unit) => (⟨[], [(0, [.d (.list 1 (List.map (D.int .i64) a_.shape)), .d (.list 3 (List.map encCell a_.cells))])], 1, [], none⟩ : St)) res)) ⟨[(1, .c (.ptr 0 0)), (27, .d (.list 3 (List.map encCell a_.cells))), (28, .d (.int .i64 (List.length a_.cells : Int))), (29, .d (.int .i64 x2))], [(0, [.d (.list 1 (List.map (D.int .i64) a_.shape)), .d (.list 3 (List.map encCell a_.cells))])], 1, [], none⟩) := by
 refine p_core_Literal_l1.partial_correctness _ ?_
 rintro p_core_Literal_l1' ih ⟨a_, x2⟩ res h
 refine lg rfl ?_
 refine ra rfl ?_
 refine awp_seq ?_
 rcases ite_inv h with ⟨hc, h⟩ | ⟨hc, h⟩
 ·refine ct rfl hc ?_
  refine awp_skip ?_
  refine cn rfl ?_
  refine seqQ.normal ?_
  refine awp_seq ?_
  obtain ⟨res, hs, h⟩ := bind_inv h
  refine awp_sub Tryz.f89 0 (fun (r : Bool) => (CRes.ret (.d (.bool r)) [])) (fun (_ : Unit) => (⟨[(1, .c (.ptr 0 0)), (27, .d (.list 3 (List.map encCell a_.cells))), (28, .d (.int .i64 (List.length a_.cells : Int))), (29, .d (.int .i64 x2))], [(0, [.d (.list 1 (List.map (D.int .i64) a_.shape)), .d (.list 3 (List.map encCell a_.cells))])], 1, [], none⟩ : St)) (res := res) ?_ (fun y hy => ?_) (fun r x s' hr hx he => ?_)
  ·replace h := hs
   refine awp_block ?_
   refine awp_seq ?_
   refine rn 0 rfl ?_
   obtain ⟨y2, hk, h⟩ := bind_inv h
   refine po (elget encCell (fun _ => rfl) hk rfl rfl rfl rfl rfl) rfl rfl ?_
   refine on (nid' := 2) 3 rfl ?_
   refine rz ?_
   refine awp_seq ?_
   refine drn (m := 30) 4 rfl rfl ?_
   rcases ite_inv h with ⟨hc, h⟩ | ⟨hc, h⟩
   ·refine dgt rfl rfl rfl rfl hc rfl ?_
    refine don 24 rfl ?_
    refine dz (by kernel_rfl) ?_
    refine ct rfl rfl ?_
    refine ra rfl ?_
    refine awp_ret ?_
    refine condQ.ret ?_
    refine exitQ.ret ?_
    cases h
    exact .err rfl (.ret rfl rfl)
   ·refine dgf rfl rfl rfl rfl hc rfl ?_
    refine don 4 rfl ?_
    obtain ⟨y3, hk, h⟩ := bind_inv h
    refine pd (elget encCell (fun _ => rfl) hk rfl rfl rfl rfl rfl) rfl rfl rfl rfl rfl ?_
    refine don 5 rfl ?_
    rcases ite_inv h with ⟨hc, h⟩ | ⟨hc, h⟩
    ·refine dgt rfl rfl rfl rfl hc rfl ?_
     refine don 14 rfl ?_
     refine dz (by kernel_rfl) ?_
     refine ct rfl rfl ?_
     refine ra rfl ?_
     refine awp_ret ?_
     refine condQ.ret ?_
     refine exitQ.ret ?_
     cases h
     exact .err rfl (.ret rfl rfl)
    ·refine dgf rfl rfl rfl rfl hc rfl ?_
     refine don 4 rfl ?_
     rcases ite_inv h with ⟨hc, h⟩ | ⟨hc, h⟩
     ·refine dgt rfl rfl rfl rfl hc rfl ?_
      refine don 4 rfl ?_
      rcases ite_inv h with ⟨hc, h⟩ | ⟨hc, h⟩
      ·refine dgt rfl rfl rfl rfl hc rfl ?_
       refine don 6 rfl ?_
       refine dz (by kernel_rfl) ?_
       refine ct rfl rfl ?_
       refine ra rfl ?_
       refine awp_ret ?_
       refine condQ.ret ?_
       refine exitQ.ret ?_
       cases h
       exact .err rfl (.ret rfl rfl)
      ·refine dgf rfl rfl rfl rfl hc rfl ?_
       refine don 6 rfl ?_
       refine dz (by kernel_rfl) ?_
       rcases ite_inv h with ⟨hc, h⟩ | ⟨hc, h⟩
       ·refine ct rfl hc ?_
        refine ra rfl ?_
        refine awp_ret ?_
        refine condQ.ret ?_
        refine exitQ.ret ?_
        cases h
        exact .err rfl (.ret rfl rfl)
       ·refine cf rfl hc ?_
        refine awp_skip ?_
        refine cn rfl ?_
        refine en rfl ?_
        cases h
        exact .ok rfl
     ·refine dgf rfl rfl rfl rfl hc rfl ?_
      refine don 10 rfl ?_
      refine dz (by kernel_rfl) ?_
      refine cf rfl rfl ?_
      refine awp_skip ?_
      refine cn rfl ?_
      refine en rfl ?_
      cases h
      exact .ok rfl
  ·subst hy
   refine seqQ.normal ?_
   refine rn 2 rfl ?_
   refine awpO_nil ?_
   refine loopQ.normal ?_
   exact awpL_at rfl rfl (ih _ _ h)
  ·subst hr
   refine seqQ.out hx ?_
   refine loopQ.out hx ?_
   refine exitQ.out hx ?_
   cases h
   exact .err hx he
 ·refine cf rfl hc ?_
  refine awp_exit ?_
  refine condQ.exit ?_
  refine seqQ.exit ?_
  refine loopQ.exit ?_
  refine eh rfl ?_
  cases h
  exact .ok rfl
theorem p_core_Literal_ok {a_ : Arr} {r : Bool} (h : p_core_Literal a_ = some r) : aval X 89 [.d (encArr a_)] [] (CRes.ret (.d (.bool r)) []) := by
 unfold p_core_Literal at h
 refine aval_start (tm := [(0, .d (encArr a_))]) (hp := []) (n := 0) rfl Tryz.func89 rfl rfl rfl rfl rfl rfl ?_
 refine ra (nid' := 1) rfl ?_
 refine awp_seq ?_
 refine awp_seq ?_
 refine rn 1 rfl ?_
 obtain ⟨x, hk, h⟩ := bind_inv h
 refine po (ecall (p_arr_Check_ok hk) rfl rfl rfl rfl rfl rfl rfl rfl rfl) rfl rfl ?_
 refine on 2 rfl ?_
 rcases ite_inv h with ⟨hc, h⟩ | ⟨hc, h⟩
 ·refine gt rfl rfl rfl rfl hc rfl ?_
  refine on 17 rfl ?_
  refine rz ?_
  refine ct rfl rfl ?_
  refine ra rfl ?_
  refine awp_ret ?_
  refine condQ.ret ?_
  refine seqQ.ret ?_
  cases h
  exact .ret rfl rfl
 ·refine gf rfl rfl rfl rfl hc rfl ?_
  refine on 2 rfl ?_
  refine po (ellen rfl rfl rfl rfl rfl rfl rfl) rfl rfl ?_
  refine on 3 rfl ?_
  rcases ite_inv h with ⟨hc, h⟩ | ⟨hc, h⟩
  ·refine gt rfl rfl rfl rfl hc rfl ?_
   refine on 11 rfl ?_
   refine rz ?_
   refine ct rfl rfl ?_
   refine ra rfl ?_
   refine awp_ret ?_
   refine condQ.ret ?_
   refine seqQ.ret ?_
   cases h
   exact .ret rfl rfl
  ·refine gf rfl rfl rfl rfl hc rfl ?_
   refine on 2 rfl ?_
   refine po (ellen rfl rfl rfl rfl rfl rfl rfl) rfl rfl ?_
   refine on 2 rfl ?_
   rcases ite_inv h with ⟨hc, h⟩ | ⟨hc, h⟩
   ·refine gt rfl rfl rfl rfl hc rfl ?_
    refine on 2 rfl ?_
    refine po (ellen rfl rfl rfl rfl rfl rfl rfl) rfl rfl ?_
    refine on 3 rfl ?_
    refine rz ?_
    rcases ite_inv h with ⟨hc, h⟩ | ⟨hc, h⟩
    ·refine ct rfl hc ?_
     refine ra rfl ?_
     refine awp_ret ?_
     refine condQ.ret ?_
     refine seqQ.ret ?_
     cases h
     exact .ret rfl rfl
    ·refine cf rfl hc ?_
     refine awp_skip ?_
     refine cn rfl ?_
     refine seqQ.normal ?_
     refine awp_seq ?_
     refine awp_seq ?_
     refine rn 2 rfl ?_
     refine po (ellen rfl rfl rfl rfl rfl rfl rfl) rfl rfl ?_
     refine on 1 rfl ?_
     refine rz ?_
     obtain ⟨res, hs, h⟩ := bind_inv h
     refine awp_sub Tryz.f89 0 (fun (r : Bool) => (CRes.ret (.d (.bool r)) [])) (fun (_ : Unit) => (⟨[], [(0, [.d (.list 1 (List.map (D.int .i64) a_.shape)), .d (.list 3 (List.map encCell a_.cells))])], 1, [], none⟩ : St)) (res := res) ?_ (fun y hy => ?_) (fun r x s' hr hx he => ?_)
     ·replace h := hs
      refine awp_block ?_
      refine awp_loop ?_
      exact awpL_at rfl rfl (p_core_Literal_l0_ok _ _ h)
     ·subst hy
      refine seqQ.normal ?_
      refine ra rfl ?_
      refine awp_ret ?_
      cases h
      exact .ret rfl rfl
     ·subst hr
      refine seqQ.out hx ?_
      cases h
      exact he
   ·refine gf rfl rfl rfl rfl hc rfl ?_
    refine on 6 rfl ?_
    refine rz ?_
    refine cf rfl rfl ?_
    refine awp_skip ?_
    refine cn rfl ?_
    refine seqQ.normal ?_
    refine awp_seq ?_
    refine awp_seq ?_
    refine rn 2 rfl ?_
    refine po (ellen rfl rfl rfl rfl rfl rfl rfl) rfl rfl ?_
    refine on 1 rfl ?_
    refine rz ?_
    obtain ⟨res, hs, h⟩ := bind_inv h
    refine awp_sub Tryz.f89 0 (fun (r : Bool) => (CRes.ret (.d (.bool r)) [])) (fun (_ : Unit) => (⟨[], [(0, [.d (.list 1 (List.map (D.int .i64) a_.shape)), .d (.list 3 (List.map encCell a_.cells))])], 1, [], none⟩ : St)) (res := res) ?_ (fun y hy => ?_) (fun r x s' hr hx he => ?_)
    ·replace h := hs
     refine awp_block ?_
     refine awp_loop ?_
     exact awpL_at rfl rfl (p_core_Literal_l1_ok _ _ h)
    ·subst hy
     refine seqQ.normal ?_
     refine ra rfl ?_
     refine awp_ret ?_
     cases h
     exact .ret rfl rfl
    ·subst hr
     refine seqQ.out hx ?_
     cases h
     exact he
theorem p_runes_put_full_ok {b : (List Int)} {n : Int} {r : (List Int)} (h : p_runes_put_full b n = some r) : aval X 56 [.full 1 (List.map (D.int .u8) b), .d (.int .i64 n)] [] (CRes.ret (.d (.list 1 (List.map (D.int .u8) r))) []) := by
 unfold p_runes_put_full at h
 refine aval_start (tm := [(0, .c (.full 1 (List.map (D.int .u8) b))), (1, .d (.int .i64 n))]) (hp := []) (n := 0) rfl Tryz.func56 rfl rfl rfl rfl rfl rfl ?_
 refine ra rfl ?_
 refine awp_seq ?_
 refine awp_block ?_
 refine ra rfl ?_
 rcases ite_inv h with ⟨hc, h⟩ | ⟨hc, h⟩
 ·refine ct rfl hc ?_
  refine awp_seq ?_
  refine rn 4 rfl ?_
  obtain ⟨l, hk, h⟩ := bind_inv h
  refine po (eappf hk rfl rfl rfl rfl rfl rfl rfl rfl rfl rfl rfl rfl ) rfl rfl ?_
  refine on 1 rfl ?_
  refine rz ?_
  refine awp_ret ?_
  refine condQ.ret ?_
  refine exitQ.ret ?_
  refine seqQ.ret ?_
  cases h
  exact .ret rfl rfl
 ·refine cf rfl hc ?_
  refine ra rfl ?_
  rcases ite_inv h with ⟨hc, h⟩ | ⟨hc, h⟩
  ·refine ct rfl hc ?_
   refine awp_seq ?_
   refine rn 10 rfl ?_
   obtain ⟨l1, hk, h⟩ := bind_inv h
   refine po (eappf hk rfl rfl rfl rfl rfl rfl rfl rfl rfl rfl rfl rfl ) rfl rfl ?_
   refine on 1 rfl ?_
   refine rz ?_
   refine awp_ret ?_
   refine condQ.ret ?_
   refine condQ.ret ?_
   refine exitQ.ret ?_
   refine seqQ.ret ?_
   cases h
   exact .ret rfl rfl
  ·refine cf rfl hc ?_
   refine ra rfl ?_
   rcases ite_inv h with ⟨hc, h⟩ | ⟨hc, h⟩
   ·refine ct rfl hc ?_
    refine awp_seq ?_
    refine rn 15 rfl ?_
    obtain ⟨l2, hk, h⟩ := bind_inv h
    refine po (eappf hk rfl rfl rfl rfl rfl rfl rfl rfl rfl rfl rfl rfl ) rfl rfl ?_
    refine on 1 rfl ?_
    refine rz ?_
    refine awp_ret ?_
    refine condQ.ret ?_
    refine condQ.ret ?_
    refine condQ.ret ?_
    refine exitQ.ret ?_
    refine seqQ.ret ?_
    cases h
    exact .ret rfl rfl
   ·refine cf rfl hc ?_
    refine awp_skip ?_
    refine cn rfl ?_
    refine cn rfl ?_
    refine cn rfl ?_
    refine en rfl ?_
    refine seqQ.normal ?_
    refine awp_seq ?_
    refine rn 20 rfl ?_
    obtain ⟨l3, hk, h⟩ := bind_inv h
    refine po (eappf hk rfl rfl rfl rfl rfl rfl rfl rfl rfl rfl rfl rfl ) rfl rfl ?_
    refine on 1 rfl ?_
    refine rz ?_
    refine awp_ret ?_
    cases h
    exact .ret rfl rfl
theorem p_runes_Write_l0_ok : ∀ (a : ((List Int)) × (List Int) × Int) (res : Except ((List Int) × Int) ((List Int))), p_runes_Write_l0 a = some res → (match a with | (l, b, x) => awpL X 90 (codeAt [1, 1, 0, 1, 0, 0] (bodyOf Tryz.f90)) (cleanAt (X.H 90 3) 0) (exitQ 0 (X.H 90 1000000) 0 (SubQ X Tryz.f90 0 (fun (r : (List Int) × Int) => (CRes.ret (.tuple [.d (.list 1 (List.map (D.int .u8) r.1)), .d (.int .i64 r.2)]) [])) (fun (b2 : (List Int)) => (⟨[(4, .d (.list 1 (List.map (D.int .u8) b2)))], [], 0, [], none⟩ : St)) res)) ⟨[(4, .d (.list 1 (List.map (D.int .u8) b))), (7, .d (.list 1 (List.map (D.int .i64) l))), (8, .d (.int .i64 (List.length l : Int))), (9, .d (.int .i64 x))], [], 0, [], none⟩) := by
 refine p_runes_Write_l0.partial_correctness _ ?_
 rintro p_runes_Write_l0' ih ⟨l, b, x⟩ res h
 refine lg rfl ?_
 refine ra rfl ?_
 refine awp_seq ?_
 rcases ite_inv h with ⟨hc, h⟩ | ⟨hc, h⟩
 ·refine ct rfl hc ?_
  refine awp_skip ?_
  refine cn rfl ?_
  refine seqQ.normal ?_
  refine awp_seq ?_
  refine awp_block ?_
  refine awp_seq ?_
  refine rn 0 rfl ?_
  obtain ⟨n, hk, h⟩ := bind_inv h
  refine po (elget (D.int .i64) (fun _ => rfl) hk rfl rfl rfl rfl rfl) rfl rfl ?_
  refine on 2 rfl ?_
  refine rz ?_
  refine awp_seq ?_
  refine awp_seq ?_
  refine rn 1 rfl ?_
  obtain ⟨x1, hk, h⟩ := bind_inv h
  refine po (ecall (p_runes_Good_ok hk) rfl rfl rfl rfl rfl rfl rfl rfl rfl) rfl rfl ?_
  refine on 1 rfl ?_
  refine rz ?_
  rcases ite_inv h with ⟨hc, h⟩ | ⟨hc, h⟩
  ·refine ct rfl hc ?_
   refine ra rfl ?_
   refine awp_ret ?_
   refine condQ.ret ?_
   refine seqQ.ret ?_
   refine exitQ.ret ?_
   refine seqQ.ret ?_
   refine loopQ.ret ?_
   refine exitQ.ret ?_
   cases h
   exact .err rfl (.ret rfl rfl)
  ·refine cf rfl hc ?_
   refine awp_skip ?_
   refine cn rfl ?_
   refine seqQ.normal ?_
   refine rn 2 rfl ?_
   refine po (ellen rfl rfl rfl rfl rfl rfl rfl) rfl rfl ?_
   refine on 1 rfl ?_
   refine po (ellen rfl rfl rfl rfl rfl rfl rfl) rfl rfl ?_
   obtain ⟨l1, hk, h⟩ := bind_inv h
   refine po (elfull hk rfl rfl rfl rfl rfl rfl rfl) rfl rfl ?_
   refine on 1 rfl ?_
   obtain ⟨b1, hk, h⟩ := bind_inv h
   refine po (ecallk (p_runes_put_full_ok hk) rfl rfl rfl rfl rfl rfl rfl) rfl rfl ?_
   refine on 1 rfl ?_
   refine awpO_nil ?_
   refine en rfl ?_
   refine seqQ.normal ?_
   refine rn 2 rfl ?_
   refine awpO_nil ?_
   refine loopQ.normal ?_
   exact awpL_at rfl rfl (ih _ _ h)
 ·refine cf rfl hc ?_
  refine awp_exit ?_
  refine condQ.exit ?_
  refine seqQ.exit ?_
  refine loopQ.exit ?_
  refine eh rfl ?_
  cases h
  exact .ok rfl
theorem p_runes_Write_ok {l : (List Int)} {r : (List Int) × Int} (h : p_runes_Write l = some r) : aval X 90 [.d (.list 1 (List.map (D.int .i64) l))] [] (CRes.ret (.tuple [.d (.list 1 (List.map (D.int .u8) r.1)), .d (.int .i64 r.2)]) []) := by
 unfold p_runes_Write at h
 refine aval_start (tm := [(0, .d (.list 1 (List.map (D.int .i64) l)))]) (hp := []) (n := 0) rfl Tryz.func90 rfl rfl rfl rfl rfl rfl ?_
 refine ra rfl ?_
 refine ra rfl ?_
 refine awp_seq ?_
 refine awp_seq ?_
 refine rn 1 rfl ?_
 refine po (ellen rfl rfl rfl rfl rfl rfl rfl) rfl rfl ?_
 refine on 1 rfl ?_
 refine rz ?_
 obtain ⟨res, hs, h⟩ := bind_inv h
 refine awp_sub Tryz.f90 0 (fun (r : (List Int) × Int) => (CRes.ret (.tuple [.d (.list 1 (List.map (D.int .u8) r.1)), .d (.int .i64 r.2)]) [])) (fun (b2 : (List Int)) => (⟨[(4, .d (.list 1 (List.map (D.int .u8) b2)))], [], 0, [], none⟩ : St)) (res := res) ?_ (fun y hy => ?_) (fun r x s' hr hx he => ?_)
 ·replace h := hs
  refine awp_block ?_
  refine awp_loop ?_
  exact awpL_at rfl rfl (p_runes_Write_l0_ok _ _ h)
 ·subst hy
  obtain b2 := y
  refine seqQ.normal ?_
  refine ra rfl ?_
  refine awp_ret ?_
  cases h
  exact .ret rfl rfl
 ·subst hr
  refine seqQ.out hx ?_
  cases h
  exact he
abbrev Mp_spell_digits (a : Int) (res : Str) : Prop := match a with | n => aval X 86 [.d (.int .u64 n)] [] (CRes.ret (.d (.str res)) [])
theorem p_spell_digits_ih : ∀ a res, p_spell_digits a = some res → Mp_spell_digits a res := by
 refine p_spell_digits.partial_correctness Mp_spell_digits ?_
 rintro p_spell_digits' ih_p_spell_digits n res h
 refine aval_start (tm := [(0, .d (.int .u64 n))]) (hp := []) (n := 0) rfl Tryz.func86 rfl rfl rfl rfl rfl rfl ?_
 refine ra rfl ?_
 refine ra rfl ?_
 refine awp_seq ?_
 refine ra rfl ?_
 obtain ⟨s1, hs, h⟩ := bind_inv h
 refine awp_nrm (fun (s1 : Str) => (⟨[(0, .d (.int .u64 n)), (3, .d (.str s1))], [], 0, [], none⟩ : St)) (y := s1) ?_ ?_
 ·replace h := hs
  rcases ite_inv h with ⟨hc, h⟩ | ⟨hc, h⟩
  ·refine ct rfl hc ?_
   refine rn 2 rfl ?_
   obtain ⟨s, hk, h⟩ := bind_inv h
   refine po (ecall (ih_p_spell_digits _ _ hk) rfl rfl rfl rfl rfl rfl rfl rfl rfl) rfl rfl ?_
   refine on 1 rfl ?_
   refine awpO_nil ?_
   refine cn rfl ?_
   cases h
   exact .ok rfl
  ·refine cf rfl hc ?_
   refine awp_skip ?_
   refine cn rfl ?_
   cases h
   exact .ok rfl
 ·refine seqQ.normal ?_
  refine awp_seq ?_
  refine rn 6 rfl ?_
  obtain ⟨s2, hk, h⟩ := bind_inv h
  refine po (escat hk rfl rfl rfl) rfl rfl ?_
  refine on 1 rfl ?_
  refine rz ?_
  refine awp_ret ?_
  cases h
  exact .ret rfl rfl
theorem p_spell_digits_ok {a : Int} {res : Str} (h : p_spell_digits a = some res) : Mp_spell_digits a res := p_spell_digits_ih a res h
theorem p_spell_Number_ok {n : Int} {minus : Str} {r : Str} (h : p_spell_Number n minus = some r) : aval X 71 [.d (.int .i64 n), .d (.str minus)] [] (CRes.ret (.d (.str r)) []) := by
 unfold p_spell_Number at h
 refine aval_start (tm := [(0, .d (.int .i64 n)), (1, .d (.str minus))]) (hp := []) (n := 0) rfl Tryz.func71 rfl rfl rfl rfl rfl rfl ?_
 refine ra rfl ?_
 refine awp_seq ?_
 refine ra rfl ?_
 rcases ite_inv h with ⟨hc, h⟩ | ⟨hc, h⟩
 ·refine ct rfl hc ?_
  refine awp_seq ?_
  refine rn 4 rfl ?_
  obtain ⟨x, hk, h⟩ := bind_inv h
  refine po (ecall (p_spell_digits_ok hk) rfl rfl rfl rfl rfl rfl rfl rfl rfl) rfl rfl ?_
  obtain ⟨s, hk, h⟩ := bind_inv h
  refine po (escat hk rfl rfl rfl) rfl rfl ?_
  refine on 1 rfl ?_
  refine rz ?_
  refine awp_ret ?_
  refine condQ.ret ?_
  refine seqQ.ret ?_
  cases h
  exact .ret rfl rfl
 ·refine cf rfl hc ?_
  refine awp_skip ?_
  refine cn rfl ?_
  refine seqQ.normal ?_
  refine awp_seq ?_
  refine rn 2 rfl ?_
  obtain ⟨x1, hk, h⟩ := bind_inv h
  refine po (ecall (p_spell_digits_ok hk) rfl rfl rfl rfl rfl rfl rfl rfl rfl) rfl rfl ?_
  refine on 1 rfl ?_
  refine rz ?_
  refine awp_ret ?_
  cases h
  exact .ret rfl rfl
theorem p_spell_sign_ok {s : Str} {g : Grammar} {r : Str} (h : p_spell_sign s g = some r) : aval X 91 [.d (.str s), .d (encGrammar g)] [] (CRes.ret (.d (.str r)) []) := by
 unfold p_spell_sign at h
 refine aval_start (tm := [(0, .d (.str s)), (1, .d (encGrammar g))]) (hp := []) (n := 0) rfl Tryz.func91 rfl rfl rfl rfl rfl rfl ?_
 refine ra (nid' := 1) rfl ?_
 refine awp_seq ?_
 obtain ⟨res, hs, h⟩ := bind_inv h
 refine awp_sub Tryz.f91 0 (fun (r : Str) => (CRes.ret (.d (.str r)) [])) (fun (_ : Unit) => (⟨[(0, .d (.str s))], [(0, [.d (.list 1 (List.map D.str g.verbs)), .d (.list 1 (List.map D.str g.adverbs)), .d (.list 1 (List.map D.str g.behind)), .d (.str g.outer), .d (.str g.power), .d (.str g.open_), .d (.str g.close), .d (.str g.left), .d (.str g.right), .d (.str g.minus), .d (.str g.quote), .d (.bool g.trains), .d (.bool g.lone), .d (.bool g.square)])], 1, [], none⟩ : St)) (res := res) ?_ (fun y hy => ?_) (fun r x s' hr hx he => ?_)
 ·replace h := hs
  refine awp_block ?_
  refine awp_seq ?_
  refine rn 4 rfl ?_
  rcases ite_inv h with ⟨hc, h⟩ | ⟨hc, h⟩
  ·refine gt rfl rfl rfl rfl hc rfl ?_
   refine on 4 rfl ?_
   refine rz ?_
   rcases ite_inv h with ⟨hc, h⟩ | ⟨hc, h⟩
   ·refine ct rfl hc ?_
    refine ra rfl ?_
    refine awp_ret ?_
    refine condQ.ret ?_
    refine exitQ.ret ?_
    cases h
    exact .err rfl (.ret rfl rfl)
   ·refine cf rfl hc ?_
    refine awp_seq ?_
    refine rn 4 rfl ?_
    rcases ite_inv h with ⟨hc, h⟩ | ⟨hc, h⟩
    ·refine gt rfl rfl rfl rfl hc rfl ?_
     refine on 3 rfl ?_
     rcases ite_inv h with ⟨hc, h⟩ | ⟨hc, h⟩
     ·refine gt rfl rfl rfl rfl hc rfl ?_
      refine on 5 rfl ?_
      refine rz ?_
      refine ct rfl rfl ?_
      refine awp_seq ?_
      refine rn 1 rfl ?_
      obtain ⟨s1, hk, h⟩ := bind_inv h
      refine po (escat hk rfl rfl rfl) rfl rfl ?_
      refine on 1 rfl ?_
      refine rz ?_
      refine awp_ret ?_
      refine condQ.ret ?_
      refine condQ.ret ?_
      refine exitQ.ret ?_
      cases h
      exact .err rfl (.ret rfl rfl)
     ·refine gf rfl rfl rfl rfl hc rfl ?_
      refine on 5 rfl ?_
      refine rz ?_
      rcases ite_inv h with ⟨hc, h⟩ | ⟨hc, h⟩
      ·refine ct rfl hc ?_
       refine awp_seq ?_
       refine rn 1 rfl ?_
       obtain ⟨s2, hk, h⟩ := bind_inv h
       refine po (escat hk rfl rfl rfl) rfl rfl ?_
       refine on 1 rfl ?_
       refine rz ?_
       refine awp_ret ?_
       refine condQ.ret ?_
       refine condQ.ret ?_
       refine exitQ.ret ?_
       cases h
       exact .err rfl (.ret rfl rfl)
      ·refine cf rfl hc ?_
       refine awp_skip ?_
       refine cn rfl ?_
       refine cn rfl ?_
       refine en rfl ?_
       cases h
       exact .ok rfl
    ·refine gf rfl rfl rfl rfl hc rfl ?_
     refine on 8 rfl ?_
     refine rz ?_
     refine cf rfl rfl ?_
     refine awp_skip ?_
     refine cn rfl ?_
     refine cn rfl ?_
     refine en rfl ?_
     cases h
     exact .ok rfl
  ·refine gf rfl rfl rfl rfl hc rfl ?_
   refine on 4 rfl ?_
   refine rz ?_
   refine cf rfl rfl ?_
   refine awp_seq ?_
   refine rn 4 rfl ?_
   rcases ite_inv h with ⟨hc, h⟩ | ⟨hc, h⟩
   ·refine gt rfl rfl rfl rfl hc rfl ?_
    refine on 3 rfl ?_
    rcases ite_inv h with ⟨hc, h⟩ | ⟨hc, h⟩
    ·refine gt rfl rfl rfl rfl hc rfl ?_
     refine on 5 rfl ?_
     refine rz ?_
     refine ct rfl rfl ?_
     refine awp_seq ?_
     refine rn 1 rfl ?_
     obtain ⟨s3, hk, h⟩ := bind_inv h
     refine po (escat hk rfl rfl rfl) rfl rfl ?_
     refine on 1 rfl ?_
     refine rz ?_
     refine awp_ret ?_
     refine condQ.ret ?_
     refine condQ.ret ?_
     refine exitQ.ret ?_
     cases h
     exact .err rfl (.ret rfl rfl)
    ·refine gf rfl rfl rfl rfl hc rfl ?_
     refine on 5 rfl ?_
     refine rz ?_
     rcases ite_inv h with ⟨hc, h⟩ | ⟨hc, h⟩
     ·refine ct rfl hc ?_
      refine awp_seq ?_
      refine rn 1 rfl ?_
      obtain ⟨s4, hk, h⟩ := bind_inv h
      refine po (escat hk rfl rfl rfl) rfl rfl ?_
      refine on 1 rfl ?_
      refine rz ?_
      refine awp_ret ?_
      refine condQ.ret ?_
      refine condQ.ret ?_
      refine exitQ.ret ?_
      cases h
      exact .err rfl (.ret rfl rfl)
     ·refine cf rfl hc ?_
      refine awp_skip ?_
      refine cn rfl ?_
      refine cn rfl ?_
      refine en rfl ?_
      cases h
      exact .ok rfl
   ·refine gf rfl rfl rfl rfl hc rfl ?_
    refine on 8 rfl ?_
    refine rz ?_
    refine cf rfl rfl ?_
    refine awp_skip ?_
    refine cn rfl ?_
    refine cn rfl ?_
    refine en rfl ?_
    cases h
    exact .ok rfl
 ·subst hy
  refine seqQ.normal ?_
  refine ra rfl ?_
  refine awp_ret ?_
  cases h
  exact .ret rfl rfl
 ·subst hr
  refine seqQ.out hx ?_
  cases h
  exact he
theorem p_spell_Literal_l0_ok : ∀ (a : Arr × Grammar × (List Str) × Int) (res : (List Str)), p_spell_Literal_l0 a = some res → (match a with | (a_, g, l, x1) => awpL X 74 (codeAt [1, 1, 1, 0, 1, 0, 0, 1, 0, 0] (bodyOf Tryz.f74)) (cleanAt (X.H 74 6) 2) (exitQ 0 (X.H 74 1000000) 2 (NrmQ (fun (l2 : (List Str)) => (⟨[(6, .c (.own 1 (List.map D.str l2)))], [(1, [.d (.list 1 (List.map D.str g.verbs)), .d (.list 1 (List.map D.str g.adverbs)), .d (.list 1 (List.map D.str g.behind)), .d (.str g.outer), .d (.str g.power), .d (.str g.open_), .d (.str g.close), .d (.str g.left), .d (.str g.right), .d (.str g.minus), .d (.str g.quote), .d (.bool g.trains), .d (.bool g.lone), .d (.bool g.square)]), (0, [.d (.list 1 (List.map (D.int .i64) a_.shape)), .d (.list 3 (List.map encCell a_.cells))])], 2, [], none⟩ : St)) res)) ⟨[(3, .c (.ptr 1 0)), (6, .c (.own 1 (List.map D.str l))), (29, .d (.list 3 (List.map encCell a_.cells))), (30, .d (.int .i64 (List.length a_.cells : Int))), (31, .d (.int .i64 x1))], [(1, [.d (.list 1 (List.map D.str g.verbs)), .d (.list 1 (List.map D.str g.adverbs)), .d (.list 1 (List.map D.str g.behind)), .d (.str g.outer), .d (.str g.power), .d (.str g.open_), .d (.str g.close), .d (.str g.left), .d (.str g.right), .d (.str g.minus), .d (.str g.quote), .d (.bool g.trains), .d (.bool g.lone), .d (.bool g.square)]), (0, [.d (.list 1 (List.map (D.int .i64) a_.shape)), .d (.list 3 (List.map encCell a_.cells))])], 2, [], none⟩) := by
 refine p_spell_Literal_l0.partial_correctness _ ?_
 rintro p_spell_Literal_l0' ih ⟨a_, g, l, x1⟩ res h
 refine lg rfl ?_
 refine ra rfl ?_
 refine awp_seq ?_
 rcases ite_inv h with ⟨hc, h⟩ | ⟨hc, h⟩
 ·refine ct rfl hc ?_
  refine awp_skip ?_
  refine cn rfl ?_
  refine seqQ.normal ?_
  refine awp_seq ?_
  refine awp_block ?_
  refine awp_seq ?_
  refine rn 0 rfl ?_
  obtain ⟨y1, hk, h⟩ := bind_inv h
  refine po (elget encCell (fun _ => rfl) hk rfl rfl rfl rfl rfl) rfl rfl ?_
  refine on (nid' := 3) 3 rfl ?_
  refine rz ?_
  refine rn 5 rfl ?_
  obtain ⟨x2, hk, h⟩ := bind_inv h
  refine po (ecall (p_spell_Number_ok hk) rfl rfl rfl rfl rfl rfl rfl rfl rfl) rfl rfl ?_
  refine on 1 rfl ?_
  obtain ⟨l1, hk, h⟩ := bind_inv h
  refine po (eappv hk rfl rfl rfl rfl rfl rfl rfl rfl rfl rfl rfl rfl rfl ) rfl rfl ?_
  refine on 1 rfl ?_
  refine awpO_nil ?_
  refine en rfl ?_
  refine seqQ.normal ?_
  refine rn 2 rfl ?_
  refine awpO_nil ?_
  refine loopQ.normal ?_
  exact awpL_at rfl rfl (ih _ _ h)
 ·refine cf rfl hc ?_
  refine awp_exit ?_
  refine condQ.exit ?_
  refine seqQ.exit ?_
  refine loopQ.exit ?_
  refine eh rfl ?_
  cases h
  exact .ok rfl
theorem p_spell_Literal_l1_ok : ∀ (a : Arr × Grammar × (List Str) × Int) (res : (List Str)), p_spell_Literal_l1 a = some res → (match a with | (a_, g, l3, x4) => awpL X 74 (codeAt [1, 1, 1, 1, 0, 1, 0, 0] (bodyOf Tryz.f74)) (cleanAt (X.H 74 12) 2) (exitQ 2 (X.H 74 1000002) 2 (NrmQ (fun (l5 : (List Str)) => (⟨[(3, .c (.ptr 1 0)), (6, .c (.own 1 (List.map D.str l5)))], [(1, [.d (.list 1 (List.map D.str g.verbs)), .d (.list 1 (List.map D.str g.adverbs)), .d (.list 1 (List.map D.str g.behind)), .d (.str g.outer), .d (.str g.power), .d (.str g.open_), .d (.str g.close), .d (.str g.left), .d (.str g.right), .d (.str g.minus), .d (.str g.quote), .d (.bool g.trains), .d (.bool g.lone), .d (.bool g.square)]), (0, [.d (.list 1 (List.map (D.int .i64) a_.shape)), .d (.list 3 (List.map encCell a_.cells))])], 2, [], none⟩ : St)) res)) ⟨[(3, .c (.ptr 1 0)), (6, .c (.own 1 (List.map D.str l3))), (47, .d (.list 3 (List.map encCell a_.cells))), (48, .d (.int .i64 (List.length a_.cells : Int))), (49, .d (.int .i64 x4))], [(1, [.d (.list 1 (List.map D.str g.verbs)), .d (.list 1 (List.map D.str g.adverbs)), .d (.list 1 (List.map D.str g.behind)), .d (.str g.outer), .d (.str g.power), .d (.str g.open_), .d (.str g.close), .d (.str g.left), .d (.str g.right), .d (.str g.minus), .d (.str g.quote), .d (.bool g.trains), .d (.bool g.lone), .d (.bool g.square)]), (0, [.d (.list 1 (List.map (D.int .i64) a_.shape)), .d (.list 3 (List.map encCell a_.cells))])], 2, [], none⟩) := by
 refine p_spell_Literal_l1.partial_correctness _ ?_
 rintro p_spell_Literal_l1' ih ⟨a_, g, l3, x4⟩ res h
 refine lg rfl ?_
 refine ra rfl ?_
 refine awp_seq ?_
 rcases ite_inv h with ⟨hc, h⟩ | ⟨hc, h⟩
 ·refine ct rfl hc ?_
  refine awp_skip ?_
  refine cn rfl ?_
  refine seqQ.normal ?_
  refine awp_seq ?_
  refine awp_block ?_
  refine awp_seq ?_
  refine rn 0 rfl ?_
  obtain ⟨y2, hk, h⟩ := bind_inv h
  refine po (elget encCell (fun _ => rfl) hk rfl rfl rfl rfl rfl) rfl rfl ?_
  refine on (nid' := 3) 3 rfl ?_
  refine rz ?_
  refine awp_seq ?_
  refine rn 3 rfl ?_
  obtain ⟨⟨b, x5⟩, hk, h⟩ := bind_inv h
  refine po (ecall (p_runes_Write_ok hk) rfl rfl rfl rfl rfl rfl rfl rfl rfl) rfl rfl ?_
  refine on 5 rfl ?_
  refine rz ?_
  refine rn 2 rfl ?_
  refine po (ebstr rfl rfl rfl rfl rfl rfl) rfl rfl ?_
  refine on 1 rfl ?_
  obtain ⟨x6, hk, h⟩ := bind_inv h
  refine po (ecall (p_spell_sign_ok hk) rfl rfl rfl rfl rfl rfl rfl rfl rfl) rfl rfl ?_
  refine on 1 rfl ?_
  obtain ⟨l4, hk, h⟩ := bind_inv h
  refine po (eappv hk rfl rfl rfl rfl rfl rfl rfl rfl rfl rfl rfl rfl rfl ) rfl rfl ?_
  refine on 1 rfl ?_
  refine awpO_nil ?_
  refine en rfl ?_
  refine seqQ.normal ?_
  refine rn 2 rfl ?_
  refine awpO_nil ?_
  refine loopQ.normal ?_
  exact awpL_at rfl rfl (ih _ _ h)
 ·refine cf rfl hc ?_
  refine awp_exit ?_
  refine condQ.exit ?_
  refine seqQ.exit ?_
  refine loopQ.exit ?_
  refine eh rfl ?_
  cases h
  exact .ok rfl
theorem p_spell_Literal_l2_ok : ∀ (a : Arr × Grammar × (List Str) × Int) (res : (List Str)), p_spell_Literal_l2 a = some res → (match a with | (a_, g, l6, x8) => awpL X 74 (codeAt [1, 1, 1, 1, 0, 1, 0, 0] (bodyOf Tryz.f74)) (cleanAt (X.H 74 12) 2) (exitQ 2 (X.H 74 1000002) 2 (NrmQ (fun (l8 : (List Str)) => (⟨[(3, .c (.ptr 1 0)), (6, .c (.own 1 (List.map D.str l8)))], [(1, [.d (.list 1 (List.map D.str g.verbs)), .d (.list 1 (List.map D.str g.adverbs)), .d (.list 1 (List.map D.str g.behind)), .d (.str g.outer), .d (.str g.power), .d (.str g.open_), .d (.str g.close), .d (.str g.left), .d (.str g.right), .d (.str g.minus), .d (.str g.quote), .d (.bool g.trains), .d (.bool g.lone), .d (.bool g.square)]), (0, [.d (.list 1 (List.map (D.int .i64) a_.shape)), .d (.list 3 (List.map encCell a_.cells))])], 2, [], none⟩ : St)) res)) ⟨[(3, .c (.ptr 1 0)), (6, .c (.own 1 (List.map D.str l6))), (47, .d (.list 3 (List.map encCell a_.cells))), (48, .d (.int .i64 (List.length a_.cells : Int))), (49, .d (.int .i64 x8))], [(1, [.d (.list 1 (List.map D.str g.verbs)), .d (.list 1 (List.map D.str g.adverbs)), .d (.list 1 (List.map D.str g.behind)), .d (.str g.outer), .d (.str g.power), .d (.str g.open_), .d (.str g.close), .d (.str g.left), .d (.str g.right), .d (.str g.minus), .d (.str g.quote), .d (.bool g.trains), .d (.bool g.lone), .d (.bool g.square)]), (0, [.d (.list 1 (List.map (D.int .i64) a_.shape)), .d (.list 3 (List.map encCell a_.cells))])], 2, [], none⟩) := by
 refine p_spell_Literal_l2.partial_correctness _ ?_
 rintro p_spell_Literal_l2' ih ⟨a_, g, l6, x8⟩ res h
 refine lg rfl ?_
 refine ra rfl ?_
 refine awp_seq ?_
 rcases ite_inv h with ⟨hc, h⟩ | ⟨hc, h⟩
 ·refine ct rfl hc ?_
  refine awp_skip ?_
  refine cn rfl ?_
  refine seqQ.normal ?_
  refine awp_seq ?_
  refine awp_block ?_
  refine awp_seq ?_
  refine rn 0 rfl ?_
  obtain ⟨y3, hk, h⟩ := bind_inv h
  refine po (elget encCell (fun _ => rfl) hk rfl rfl rfl rfl rfl) rfl rfl ?_
  refine on (nid' := 3) 3 rfl ?_
  refine rz ?_
  refine awp_seq ?_
  refine rn 3 rfl ?_
  obtain ⟨⟨b1, x9⟩, hk, h⟩ := bind_inv h
  refine po (ecall (p_runes_Write_ok hk) rfl rfl rfl rfl rfl rfl rfl rfl rfl) rfl rfl ?_
  refine on 5 rfl ?_
  refine rz ?_
  refine rn 2 rfl ?_
  refine po (ebstr rfl rfl rfl rfl rfl rfl) rfl rfl ?_
  refine on 1 rfl ?_
  obtain ⟨x10, hk, h⟩ := bind_inv h
  refine po (ecall (p_spell_sign_ok hk) rfl rfl rfl rfl rfl rfl rfl rfl rfl) rfl rfl ?_
  refine on 1 rfl ?_
  obtain ⟨l7, hk, h⟩ := bind_inv h
  refine po (eappv hk rfl rfl rfl rfl rfl rfl rfl rfl rfl rfl rfl rfl rfl ) rfl rfl ?_
  refine on 1 rfl ?_
  refine awpO_nil ?_
  refine en rfl ?_
  refine seqQ.normal ?_
  refine rn 2 rfl ?_
  refine awpO_nil ?_
  refine loopQ.normal ?_
  exact awpL_at rfl rfl (ih _ _ h)
 ·refine cf rfl hc ?_
  refine awp_exit ?_
  refine condQ.exit ?_
  refine seqQ.exit ?_
  refine loopQ.exit ?_
  refine eh rfl ?_
  cases h
  exact .ok rfl
theorem p_spell_Literal_ok {a_ : Arr} {g : Grammar} {r : Str × Int} (h : p_spell_Literal a_ g = some r) : aval X 74 [.d (encArr a_), .d (encGrammar g)] [] (CRes.ret (.tuple [.d (.str r.1), .d (.int .i64 r.2)]) []) := by
 unfold p_spell_Literal at h
 refine aval_start (tm := [(0, .d (encArr a_)), (1, .d (encGrammar g))]) (hp := []) (n := 0) rfl Tryz.func74 rfl rfl rfl rfl rfl rfl ?_
 refine ra (nid' := 2) rfl ?_
 refine awp_seq ?_
 refine awp_seq ?_
 refine rn 1 rfl ?_
 obtain ⟨x, hk, h⟩ := bind_inv h
 refine po (ecall (p_core_Literal_ok hk) rfl rfl rfl rfl rfl rfl rfl rfl rfl) rfl rfl ?_
 refine on 1 rfl ?_
 refine rz ?_
 rcases ite_inv h with ⟨hc, h⟩ | ⟨hc, h⟩
 ·refine ct rfl hc ?_
  refine ra rfl ?_
  refine awp_ret ?_
  refine condQ.ret ?_
  refine seqQ.ret ?_
  cases h
  exact .ret rfl rfl
 ·refine cf rfl hc ?_
  refine awp_skip ?_
  refine cn rfl ?_
  refine seqQ.normal ?_
  refine ra rfl ?_
  refine awp_seq ?_
  refine awp_seq ?_
  refine rn 2 rfl ?_
  refine po (ellen rfl rfl rfl rfl rfl rfl rfl) rfl rfl ?_
  refine on 2 rfl ?_
  rcases ite_inv h with ⟨hc, h⟩ | ⟨hc, h⟩
  ·refine gt rfl rfl rfl rfl hc rfl ?_
   refine on 2 rfl ?_
   obtain ⟨y, hk, h⟩ := bind_inv h
   refine po (elget encCell (fun _ => rfl) hk rfl rfl rfl rfl rfl) rfl rfl ?_
   refine on 4 rfl ?_
   refine rz ?_
   rcases ite_inv h with ⟨hc, h⟩ | ⟨hc, h⟩
   ·refine ct rfl hc ?_
    refine awp_seq ?_
    refine awp_seq ?_
    refine rn 2 rfl ?_
    refine po (ellen rfl rfl rfl rfl rfl rfl rfl) rfl rfl ?_
    refine on 1 rfl ?_
    refine rz ?_
    obtain ⟨l2, hs, h⟩ := bind_inv h
    refine awp_nrm (fun (l2 : (List Str)) => (⟨[(6, .c (.own 1 (List.map D.str l2)))], [(1, [.d (.list 1 (List.map D.str g.verbs)), .d (.list 1 (List.map D.str g.adverbs)), .d (.list 1 (List.map D.str g.behind)), .d (.str g.outer), .d (.str g.power), .d (.str g.open_), .d (.str g.close), .d (.str g.left), .d (.str g.right), .d (.str g.minus), .d (.str g.quote), .d (.bool g.trains), .d (.bool g.lone), .d (.bool g.square)]), (0, [.d (.list 1 (List.map (D.int .i64) a_.shape)), .d (.list 3 (List.map encCell a_.cells))])], 2, [], none⟩ : St)) (y := l2) ?_ ?_
    ·replace h := hs
     refine awp_block ?_
     refine awp_loop ?_
     exact awpL_at rfl rfl (p_spell_Literal_l0_ok _ _ h)
    ·refine seqQ.normal ?_
     refine awp_seq ?_
     refine rn 1 rfl ?_
     obtain ⟨x3, hk, h⟩ := bind_inv h
     refine po (ecall (go_Join_ok hk) rfl rfl rfl rfl rfl rfl rfl rfl rfl) rfl rfl ?_
     refine on 2 rfl ?_
     refine rz ?_
     refine awp_ret ?_
     refine condQ.ret ?_
     refine seqQ.ret ?_
     cases h
     exact .ret rfl rfl
   ·refine cf rfl hc ?_
    refine awp_skip ?_
    refine cn rfl ?_
    refine seqQ.normal ?_
    refine awp_seq ?_
    refine awp_seq ?_
    refine rn 2 rfl ?_
    refine po (ellen rfl rfl rfl rfl rfl rfl rfl) rfl rfl ?_
    refine on 1 rfl ?_
    refine rz ?_
    obtain ⟨l5, hs, h⟩ := bind_inv h
    refine awp_nrm (fun (l5 : (List Str)) => (⟨[(3, .c (.ptr 1 0)), (6, .c (.own 1 (List.map D.str l5)))], [(1, [.d (.list 1 (List.map D.str g.verbs)), .d (.list 1 (List.map D.str g.adverbs)), .d (.list 1 (List.map D.str g.behind)), .d (.str g.outer), .d (.str g.power), .d (.str g.open_), .d (.str g.close), .d (.str g.left), .d (.str g.right), .d (.str g.minus), .d (.str g.quote), .d (.bool g.trains), .d (.bool g.lone), .d (.bool g.square)]), (0, [.d (.list 1 (List.map (D.int .i64) a_.shape)), .d (.list 3 (List.map encCell a_.cells))])], 2, [], none⟩ : St)) (y := l5) ?_ ?_
    ·replace h := hs
     refine awp_block ?_
     refine awp_loop ?_
     exact awpL_at rfl rfl (p_spell_Literal_l1_ok _ _ h)
    ·refine seqQ.normal ?_
     refine awp_seq ?_
     refine drn (m := 12) 3 rfl rfl ?_
     obtain ⟨x7, hk, h⟩ := bind_inv h
     refine pd (ecall (go_Join_ok hk) rfl rfl rfl rfl rfl rfl rfl rfl rfl) rfl rfl rfl rfl rfl ?_
     obtain ⟨s, hk, h⟩ := bind_inv h
     refine pd (escat hk rfl rfl rfl) rfl rfl rfl rfl rfl ?_
     refine don 2 rfl ?_
     obtain ⟨s1, hk, h⟩ := bind_inv h
     refine pd (escat hk rfl rfl rfl) rfl rfl rfl rfl rfl ?_
     refine don 2 rfl ?_
     refine dz (by kernel_rfl) ?_
     refine awp_ret ?_
     cases h
     exact .ret rfl rfl
  ·refine gf rfl rfl rfl rfl hc rfl ?_
   refine on 7 rfl ?_
   refine rz ?_
   refine cf rfl rfl ?_
   refine awp_skip ?_
   refine cn rfl ?_
   refine seqQ.normal ?_
   refine awp_seq ?_
   refine awp_seq ?_
   refine rn 2 rfl ?_
   refine po (ellen rfl rfl rfl rfl rfl rfl rfl) rfl rfl ?_
   refine on 1 rfl ?_
   refine rz ?_
   obtain ⟨l8, hs, h⟩ := bind_inv h
   refine awp_nrm (fun (l8 : (List Str)) => (⟨[(3, .c (.ptr 1 0)), (6, .c (.own 1 (List.map D.str l8)))], [(1, [.d (.list 1 (List.map D.str g.verbs)), .d (.list 1 (List.map D.str g.adverbs)), .d (.list 1 (List.map D.str g.behind)), .d (.str g.outer), .d (.str g.power), .d (.str g.open_), .d (.str g.close), .d (.str g.left), .d (.str g.right), .d (.str g.minus), .d (.str g.quote), .d (.bool g.trains), .d (.bool g.lone), .d (.bool g.square)]), (0, [.d (.list 1 (List.map (D.int .i64) a_.shape)), .d (.list 3 (List.map encCell a_.cells))])], 2, [], none⟩ : St)) (y := l8) ?_ ?_
   ·replace h := hs
    refine awp_block ?_
    refine awp_loop ?_
    exact awpL_at rfl rfl (p_spell_Literal_l2_ok _ _ h)
   ·refine seqQ.normal ?_
    refine awp_seq ?_
    refine drn (m := 12) 3 rfl rfl ?_
    obtain ⟨x11, hk, h⟩ := bind_inv h
    refine pd (ecall (go_Join_ok hk) rfl rfl rfl rfl rfl rfl rfl rfl rfl) rfl rfl rfl rfl rfl ?_
    obtain ⟨s2, hk, h⟩ := bind_inv h
    refine pd (escat hk rfl rfl rfl) rfl rfl rfl rfl rfl ?_
    refine don 2 rfl ?_
    obtain ⟨s3, hk, h⟩ := bind_inv h
    refine pd (escat hk rfl rfl rfl) rfl rfl rfl rfl rfl ?_
    refine don 2 rfl ?_
    refine dz (by kernel_rfl) ?_
    refine awp_ret ?_
    cases h
    exact .ret rfl rfl
theorem p_spell_writer_fits_ok {n : Node} {kids : Int} {w : Spell_writer} {r : Bool × Int × Bool} (h : p_spell_writer_fits n kids w = some r) : aval X 44 [.ptr 0 0, .d (encNode n), .d (.int .i64 kids)] [[.d (.list 1 (List.map D.str w.g.verbs)), .d (.list 1 (List.map D.str w.g.adverbs)), .d (.list 1 (List.map D.str w.g.behind)), .d (.str w.g.outer), .d (.str w.g.power), .d (.str w.g.open_), .d (.str w.g.close), .d (.str w.g.left), .d (.str w.g.right), .d (.str w.g.minus), .d (.str w.g.quote), .d (.bool w.g.trains), .d (.bool w.g.lone), .d (.bool w.g.square), .own 1 (List.map D.str w.out), .d (.str w.right), .d (.int .i64 w.nodes), .d (.bool w.bad)]] (CRes.ret (.d (.bool r.1)) [[.d (.list 1 (List.map D.str w.g.verbs)), .d (.list 1 (List.map D.str w.g.adverbs)), .d (.list 1 (List.map D.str w.g.behind)), .d (.str w.g.outer), .d (.str w.g.power), .d (.str w.g.open_), .d (.str w.g.close), .d (.str w.g.left), .d (.str w.g.right), .d (.str w.g.minus), .d (.str w.g.quote), .d (.bool w.g.trains), .d (.bool w.g.lone), .d (.bool w.g.square), .own 1 (List.map D.str w.out), .d (.str w.right), .d (.int .i64 r.2.1), .d (.bool r.2.2)]]) := by
 unfold p_spell_writer_fits at h
 refine aval_start (tm := [(0, .c (.ptr 0 0)), (1, .d (encNode n)), (2, .d (.int .i64 kids))]) (hp := [(0, [.d (.list 1 (List.map D.str w.g.verbs)), .d (.list 1 (List.map D.str w.g.adverbs)), .d (.list 1 (List.map D.str w.g.behind)), .d (.str w.g.outer), .d (.str w.g.power), .d (.str w.g.open_), .d (.str w.g.close), .d (.str w.g.left), .d (.str w.g.right), .d (.str w.g.minus), .d (.str w.g.quote), .d (.bool w.g.trains), .d (.bool w.g.lone), .d (.bool w.g.square), .own 1 (List.map D.str w.out), .d (.str w.right), .d (.int .i64 w.nodes), .d (.bool w.bad)])]) (n := 1) rfl Tryz.func44 rfl rfl rfl rfl rfl rfl ?_
 refine ra (nid' := 2) rfl ?_
 refine ra rfl ?_
 refine awp_seq ?_
 refine rn 6 rfl ?_
 rcases ite_inv h with ⟨hc, h⟩ | ⟨hc, h⟩
 ·refine gt rfl rfl rfl rfl hc rfl ?_
  refine on 16 rfl ?_
  refine rz ?_
  refine ra rfl ?_
  refine awp_ret ?_
  cases h
  exact .ret rfl rfl
 ·refine gf rfl rfl rfl rfl hc rfl ?_
  refine on 7 rfl ?_
  rcases ite_inv h with ⟨hc, h⟩ | ⟨hc, h⟩
  ·refine gt rfl rfl rfl rfl hc rfl ?_
   refine on 9 rfl ?_
   refine rz ?_
   refine ra rfl ?_
   refine awp_ret ?_
   cases h
   exact .ret rfl rfl
  ·refine gf rfl rfl rfl rfl hc rfl ?_
   refine on 2 rfl ?_
   refine po (ellen rfl rfl rfl rfl rfl rfl rfl) rfl rfl ?_
   refine on 6 rfl ?_
   refine rz ?_
   refine ra rfl ?_
   refine awp_ret ?_
   cases h
   exact .ret rfl rfl
theorem p_spell_writer_glue_ok {l : (List Str)} {w : Spell_writer} {r : (List Str)} (h : p_spell_writer_glue l w = some r) : aval X 73 [.ptr 0 0, .d (.list 1 (List.map D.str l))] [[.d (.list 1 (List.map D.str w.g.verbs)), .d (.list 1 (List.map D.str w.g.adverbs)), .d (.list 1 (List.map D.str w.g.behind)), .d (.str w.g.outer), .d (.str w.g.power), .d (.str w.g.open_), .d (.str w.g.close), .d (.str w.g.left), .d (.str w.g.right), .d (.str w.g.minus), .d (.str w.g.quote), .d (.bool w.g.trains), .d (.bool w.g.lone), .d (.bool w.g.square), .own 1 (List.map D.str w.out), .d (.str w.right), .d (.int .i64 w.nodes), .d (.bool w.bad)]] (CRes.ret (.tuple []) [[.d (.list 1 (List.map D.str w.g.verbs)), .d (.list 1 (List.map D.str w.g.adverbs)), .d (.list 1 (List.map D.str w.g.behind)), .d (.str w.g.outer), .d (.str w.g.power), .d (.str w.g.open_), .d (.str w.g.close), .d (.str w.g.left), .d (.str w.g.right), .d (.str w.g.minus), .d (.str w.g.quote), .d (.bool w.g.trains), .d (.bool w.g.lone), .d (.bool w.g.square), .own 1 (List.map D.str r), .d (.str w.right), .d (.int .i64 w.nodes), .d (.bool w.bad)]]) := by
 unfold p_spell_writer_glue at h
 refine aval_start (tm := [(0, .c (.ptr 0 0)), (1, .d (.list 1 (List.map D.str l)))]) (hp := [(0, [.d (.list 1 (List.map D.str w.g.verbs)), .d (.list 1 (List.map D.str w.g.adverbs)), .d (.list 1 (List.map D.str w.g.behind)), .d (.str w.g.outer), .d (.str w.g.power), .d (.str w.g.open_), .d (.str w.g.close), .d (.str w.g.left), .d (.str w.g.right), .d (.str w.g.minus), .d (.str w.g.quote), .d (.bool w.g.trains), .d (.bool w.g.lone), .d (.bool w.g.square), .own 1 (List.map D.str w.out), .d (.str w.right), .d (.int .i64 w.nodes), .d (.bool w.bad)])]) (n := 1) rfl Tryz.func73 rfl rfl rfl rfl rfl rfl ?_
 refine rn 6 rfl ?_
 obtain ⟨l1, hk, h⟩ := bind_inv h
 refine po (eappc hk rfl rfl rfl rfl rfl rfl rfl rfl rfl rfl rfl rfl rfl rfl ) rfl rfl ?_
 refine on 3 rfl ?_
 refine awpO_nil ?_
 cases h
 exact .normal rfl rfl
theorem p_spell_writer_words_l0_ok (w : Spell_writer) : ∀ (a : ((List Str)) × Int × (List Str)) (res : (List Str)), p_spell_writer_words_l0 a = some res → (match a with | (l, x, w14) => awpL X 70 (codeAt [1, 0, 0] (bodyOf Tryz.f70)) (cleanAt (X.H 70 1) 1) (exitQ 0 (X.H 70 1000000) 1 (NrmQ (fun (c14 : (List Str)) => (⟨[], [(0, [.d (.list 1 (List.map D.str w.g.verbs)), .d (.list 1 (List.map D.str w.g.adverbs)), .d (.list 1 (List.map D.str w.g.behind)), .d (.str w.g.outer), .d (.str w.g.power), .d (.str w.g.open_), .d (.str w.g.close), .d (.str w.g.left), .d (.str w.g.right), .d (.str w.g.minus), .d (.str w.g.quote), .d (.bool w.g.trains), .d (.bool w.g.lone), .d (.bool w.g.square), .own 1 (List.map D.str c14), .d (.str w.right), .d (.int .i64 w.nodes), .d (.bool w.bad)])], 1, [], none⟩ : St)) res)) ⟨[(0, .c (.ptr 0 0)), (6, .d (.list 1 (List.map D.str l))), (7, .d (.int .i64 (List.length l : Int))), (8, .d (.int .i64 x))], [(0, [.d (.list 1 (List.map D.str w.g.verbs)), .d (.list 1 (List.map D.str w.g.adverbs)), .d (.list 1 (List.map D.str w.g.behind)), .d (.str w.g.outer), .d (.str w.g.power), .d (.str w.g.open_), .d (.str w.g.close), .d (.str w.g.left), .d (.str w.g.right), .d (.str w.g.minus), .d (.str w.g.quote), .d (.bool w.g.trains), .d (.bool w.g.lone), .d (.bool w.g.square), .own 1 (List.map D.str w14), .d (.str w.right), .d (.int .i64 w.nodes), .d (.bool w.bad)])], 1, [], none⟩) := by
 refine p_spell_writer_words_l0.partial_correctness _ ?_
 rintro p_spell_writer_words_l0' ih ⟨l, x, w14⟩ res h
 refine lg rfl ?_
 refine ra rfl ?_
 refine awp_seq ?_
 rcases ite_inv h with ⟨hc, h⟩ | ⟨hc, h⟩
 ·refine ct rfl hc ?_
  refine awp_skip ?_
  refine cn rfl ?_
  refine seqQ.normal ?_
  refine awp_seq ?_
  refine awp_block ?_
  refine awp_seq ?_
  refine rn 0 rfl ?_
  obtain ⟨s, hk, h⟩ := bind_inv h
  refine po (elget D.str (fun _ => rfl) hk rfl rfl rfl rfl rfl) rfl rfl ?_
  refine on 2 rfl ?_
  refine rz ?_
  refine awp_seq ?_
  refine awp_seq ?_
  refine rn 4 rfl ?_
  refine po (ellen rfl rfl rfl rfl rfl rfl rfl) rfl rfl ?_
  refine on 1 rfl ?_
  refine rz ?_
  obtain ⟨x14, hs, h⟩ := bind_inv h
  refine awp_nrm (fun (x14 : (List Str)) => (⟨[(0, .c (.ptr 0 0)), (5, .d (.str s)), (6, .d (.list 1 (List.map D.str l))), (7, .d (.int .i64 (List.length l : Int))), (8, .d (.int .i64 x))], [(0, [.d (.list 1 (List.map D.str w.g.verbs)), .d (.list 1 (List.map D.str w.g.adverbs)), .d (.list 1 (List.map D.str w.g.behind)), .d (.str w.g.outer), .d (.str w.g.power), .d (.str w.g.open_), .d (.str w.g.close), .d (.str w.g.left), .d (.str w.g.right), .d (.str w.g.minus), .d (.str w.g.quote), .d (.bool w.g.trains), .d (.bool w.g.lone), .d (.bool w.g.square), .own 1 (List.map D.str x14), .d (.str w.right), .d (.int .i64 w.nodes), .d (.bool w.bad)])], 1, [], none⟩ : St)) (y := x14) ?_ ?_
  ·replace h := hs
   rcases ite_inv h with ⟨hc, h⟩ | ⟨hc, h⟩
   ·refine ct rfl hc ?_
    refine rn 6 rfl ?_
    obtain ⟨l1, hk, h⟩ := bind_inv h
    refine po (eappc hk rfl rfl rfl rfl rfl rfl rfl rfl rfl rfl rfl rfl rfl rfl ) rfl rfl ?_
    refine on 3 rfl ?_
    refine awpO_nil ?_
    refine cn rfl ?_
    cases h
    exact .ok rfl
   ·refine cf rfl hc ?_
    refine awp_skip ?_
    refine cn rfl ?_
    cases h
    exact .ok rfl
  ·refine seqQ.normal ?_
   refine rn 7 rfl ?_
   obtain ⟨l2, hk, h⟩ := bind_inv h
   refine po (eappc hk rfl rfl rfl rfl rfl rfl rfl rfl rfl rfl rfl rfl rfl rfl ) rfl rfl ?_
   refine on 3 rfl ?_
   refine awpO_nil ?_
   refine en rfl ?_
   refine seqQ.normal ?_
   refine rn 2 rfl ?_
   refine awpO_nil ?_
   refine loopQ.normal ?_
   exact awpL_at rfl rfl (ih _ _ h)
 ·refine cf rfl hc ?_
  refine awp_exit ?_
  refine condQ.exit ?_
  refine seqQ.exit ?_
  refine loopQ.exit ?_
  refine eh rfl ?_
  cases h
  exact .ok rfl
theorem p_spell_writer_words_ok {l : (List Str)} {w : Spell_writer} {r : (List Str)} (h : p_spell_writer_words l w = some r) : aval X 70 [.ptr 0 0, .d (.list 1 (List.map D.str l))] [[.d (.list 1 (List.map D.str w.g.verbs)), .d (.list 1 (List.map D.str w.g.adverbs)), .d (.list 1 (List.map D.str w.g.behind)), .d (.str w.g.outer), .d (.str w.g.power), .d (.str w.g.open_), .d (.str w.g.close), .d (.str w.g.left), .d (.str w.g.right), .d (.str w.g.minus), .d (.str w.g.quote), .d (.bool w.g.trains), .d (.bool w.g.lone), .d (.bool w.g.square), .own 1 (List.map D.str w.out), .d (.str w.right), .d (.int .i64 w.nodes), .d (.bool w.bad)]] (CRes.ret (.tuple []) [[.d (.list 1 (List.map D.str w.g.verbs)), .d (.list 1 (List.map D.str w.g.adverbs)), .d (.list 1 (List.map D.str w.g.behind)), .d (.str w.g.outer), .d (.str w.g.power), .d (.str w.g.open_), .d (.str w.g.close), .d (.str w.g.left), .d (.str w.g.right), .d (.str w.g.minus), .d (.str w.g.quote), .d (.bool w.g.trains), .d (.bool w.g.lone), .d (.bool w.g.square), .own 1 (List.map D.str r), .d (.str w.right), .d (.int .i64 w.nodes), .d (.bool w.bad)]]) := by
 unfold p_spell_writer_words at h
 refine aval_start (tm := [(0, .c (.ptr 0 0)), (1, .d (.list 1 (List.map D.str l)))]) (hp := [(0, [.d (.list 1 (List.map D.str w.g.verbs)), .d (.list 1 (List.map D.str w.g.adverbs)), .d (.list 1 (List.map D.str w.g.behind)), .d (.str w.g.outer), .d (.str w.g.power), .d (.str w.g.open_), .d (.str w.g.close), .d (.str w.g.left), .d (.str w.g.right), .d (.str w.g.minus), .d (.str w.g.quote), .d (.bool w.g.trains), .d (.bool w.g.lone), .d (.bool w.g.square), .own 1 (List.map D.str w.out), .d (.str w.right), .d (.int .i64 w.nodes), .d (.bool w.bad)])]) (n := 1) rfl Tryz.func70 rfl rfl rfl rfl rfl rfl ?_
 refine awp_seq ?_
 refine rn 1 rfl ?_
 refine po (ellen rfl rfl rfl rfl rfl rfl rfl) rfl rfl ?_
 refine on 1 rfl ?_
 refine rz ?_
 obtain ⟨c14, hs, h⟩ := bind_inv h
 refine awp_nrm (fun (c14 : (List Str)) => (⟨[], [(0, [.d (.list 1 (List.map D.str w.g.verbs)), .d (.list 1 (List.map D.str w.g.adverbs)), .d (.list 1 (List.map D.str w.g.behind)), .d (.str w.g.outer), .d (.str w.g.power), .d (.str w.g.open_), .d (.str w.g.close), .d (.str w.g.left), .d (.str w.g.right), .d (.str w.g.minus), .d (.str w.g.quote), .d (.bool w.g.trains), .d (.bool w.g.lone), .d (.bool w.g.square), .own 1 (List.map D.str c14), .d (.str w.right), .d (.int .i64 w.nodes), .d (.bool w.bad)])], 1, [], none⟩ : St)) (y := c14) ?_ ?_
 ·replace h := hs
  refine awp_block ?_
  refine awp_loop ?_
  exact awpL_at rfl rfl (p_spell_writer_words_l0_ok w _ _ h)
 ·cases h
  exact .normal rfl rfl
abbrev Mp_spell_writer_expr (a : Node × Spell_writer) (res : (List Str) × Int × Bool) : Prop := match a with | (n, w) => aval X 21 [.ptr 0 0, .d (encNode n)] [[.d (.list 1 (List.map D.str w.g.verbs)), .d (.list 1 (List.map D.str w.g.adverbs)), .d (.list 1 (List.map D.str w.g.behind)), .d (.str w.g.outer), .d (.str w.g.power), .d (.str w.g.open_), .d (.str w.g.close), .d (.str w.g.left), .d (.str w.g.right), .d (.str w.g.minus), .d (.str w.g.quote), .d (.bool w.g.trains), .d (.bool w.g.lone), .d (.bool w.g.square), .own 1 (List.map D.str w.out), .d (.str w.right), .d (.int .i64 w.nodes), .d (.bool w.bad)]] (CRes.ret (.tuple []) [[.d (.list 1 (List.map D.str w.g.verbs)), .d (.list 1 (List.map D.str w.g.adverbs)), .d (.list 1 (List.map D.str w.g.behind)), .d (.str w.g.outer), .d (.str w.g.power), .d (.str w.g.open_), .d (.str w.g.close), .d (.str w.g.left), .d (.str w.g.right), .d (.str w.g.minus), .d (.str w.g.quote), .d (.bool w.g.trains), .d (.bool w.g.lone), .d (.bool w.g.square), .own 1 (List.map D.str res.1), .d (.str w.right), .d (.int .i64 res.2.1), .d (.bool res.2.2)]])
abbrev Mp_spell_writer_call (a : Node × Spell_writer) (res : (List Str) × Int × Bool) : Prop := match a with | (f, w) => aval X 45 [.ptr 0 0, .d (encNode f)] [[.d (.list 1 (List.map D.str w.g.verbs)), .d (.list 1 (List.map D.str w.g.adverbs)), .d (.list 1 (List.map D.str w.g.behind)), .d (.str w.g.outer), .d (.str w.g.power), .d (.str w.g.open_), .d (.str w.g.close), .d (.str w.g.left), .d (.str w.g.right), .d (.str w.g.minus), .d (.str w.g.quote), .d (.bool w.g.trains), .d (.bool w.g.lone), .d (.bool w.g.square), .own 1 (List.map D.str w.out), .d (.str w.right), .d (.int .i64 w.nodes), .d (.bool w.bad)]] (CRes.ret (.tuple []) [[.d (.list 1 (List.map D.str w.g.verbs)), .d (.list 1 (List.map D.str w.g.adverbs)), .d (.list 1 (List.map D.str w.g.behind)), .d (.str w.g.outer), .d (.str w.g.power), .d (.str w.g.open_), .d (.str w.g.close), .d (.str w.g.left), .d (.str w.g.right), .d (.str w.g.minus), .d (.str w.g.quote), .d (.bool w.g.trains), .d (.bool w.g.lone), .d (.bool w.g.square), .own 1 (List.map D.str res.1), .d (.str w.right), .d (.int .i64 res.2.1), .d (.bool res.2.2)]])
abbrev Mp_spell_writer_operand (a : Node × Spell_writer) (res : (List Str) × Int × Bool) : Prop := match a with | (n, w) => aval X 46 [.ptr 0 0, .d (encNode n)] [[.d (.list 1 (List.map D.str w.g.verbs)), .d (.list 1 (List.map D.str w.g.adverbs)), .d (.list 1 (List.map D.str w.g.behind)), .d (.str w.g.outer), .d (.str w.g.power), .d (.str w.g.open_), .d (.str w.g.close), .d (.str w.g.left), .d (.str w.g.right), .d (.str w.g.minus), .d (.str w.g.quote), .d (.bool w.g.trains), .d (.bool w.g.lone), .d (.bool w.g.square), .own 1 (List.map D.str w.out), .d (.str w.right), .d (.int .i64 w.nodes), .d (.bool w.bad)]] (CRes.ret (.tuple []) [[.d (.list 1 (List.map D.str w.g.verbs)), .d (.list 1 (List.map D.str w.g.adverbs)), .d (.list 1 (List.map D.str w.g.behind)), .d (.str w.g.outer), .d (.str w.g.power), .d (.str w.g.open_), .d (.str w.g.close), .d (.str w.g.left), .d (.str w.g.right), .d (.str w.g.minus), .d (.str w.g.quote), .d (.bool w.g.trains), .d (.bool w.g.lone), .d (.bool w.g.square), .own 1 (List.map D.str res.1), .d (.str w.right), .d (.int .i64 res.2.1), .d (.bool res.2.2)]])
abbrev Mp_spell_writer_applied (a : Node × Spell_writer) (res : (List Str) × Int × Bool) : Prop := match a with | (f, w) => aval X 47 [.ptr 0 0, .d (encNode f)] [[.d (.list 1 (List.map D.str w.g.verbs)), .d (.list 1 (List.map D.str w.g.adverbs)), .d (.list 1 (List.map D.str w.g.behind)), .d (.str w.g.outer), .d (.str w.g.power), .d (.str w.g.open_), .d (.str w.g.close), .d (.str w.g.left), .d (.str w.g.right), .d (.str w.g.minus), .d (.str w.g.quote), .d (.bool w.g.trains), .d (.bool w.g.lone), .d (.bool w.g.square), .own 1 (List.map D.str w.out), .d (.str w.right), .d (.int .i64 w.nodes), .d (.bool w.bad)]] (CRes.ret (.tuple []) [[.d (.list 1 (List.map D.str w.g.verbs)), .d (.list 1 (List.map D.str w.g.adverbs)), .d (.list 1 (List.map D.str w.g.behind)), .d (.str w.g.outer), .d (.str w.g.power), .d (.str w.g.open_), .d (.str w.g.close), .d (.str w.g.left), .d (.str w.g.right), .d (.str w.g.minus), .d (.str w.g.quote), .d (.bool w.g.trains), .d (.bool w.g.lone), .d (.bool w.g.square), .own 1 (List.map D.str res.1), .d (.str w.right), .d (.int .i64 res.2.1), .d (.bool res.2.2)]])
abbrev Mp_spell_writer_function_l0 (a : Node × Spell_writer × Int × (List Str) × Int × Bool) (res : (List Str) × Int × Bool) : Prop := match a with | (f, w, x5, w14, w16, w17) => awpL X 72 (codeAt [1, 1, 1, 1, 0, 1, 1, 1, 1, 1, 1, 1, 1, 1, 1, 1, 0, 1, 0, 1, 0, 0] (bodyOf Tryz.f72)) (cleanAt (X.H 72 24) 3) (exitQ 1 (X.H 72 1000001) 3 (NrmQ (fun ((w141, w161, w171) : (List Str) × Int × Bool) => (⟨[(0, .c (.ptr 0 0))], [(2, [.ment (List.map (encI .i64 (D.int .i64)) [(22, 1), (23, 1), (24, 1), (25, 1), (26, 1), (27, 3), (28, 2)])]), (1, [.d (.int .i64 f.kind), .d (.int .i64 f.op_), .d (.str f.name), .d (.list 1 (List.map (D.int .i64) f.lit.shape)), .d (.list 3 (List.map encCell f.lit.cells)), .d (.list 7 (List.map encNodeR f.kids)), .d (.int .i64 f.at_)]), (0, [.d (.list 1 (List.map D.str w.g.verbs)), .d (.list 1 (List.map D.str w.g.adverbs)), .d (.list 1 (List.map D.str w.g.behind)), .d (.str w.g.outer), .d (.str w.g.power), .d (.str w.g.open_), .d (.str w.g.close), .d (.str w.g.left), .d (.str w.g.right), .d (.str w.g.minus), .d (.str w.g.quote), .d (.bool w.g.trains), .d (.bool w.g.lone), .d (.bool w.g.square), .own 1 (List.map D.str w141), .d (.str w.right), .d (.int .i64 w161), .d (.bool w171)])], 3, [], none⟩ : St)) res)) ⟨[(0, .c (.ptr 0 0)), (107, .d (.list 7 (List.map encNodeR f.kids))), (108, .d (.int .i64 (List.length f.kids : Int))), (109, .d (.int .i64 x5))], [(2, [.ment (List.map (encI .i64 (D.int .i64)) [(22, 1), (23, 1), (24, 1), (25, 1), (26, 1), (27, 3), (28, 2)])]), (1, [.d (.int .i64 f.kind), .d (.int .i64 f.op_), .d (.str f.name), .d (.list 1 (List.map (D.int .i64) f.lit.shape)), .d (.list 3 (List.map encCell f.lit.cells)), .d (.list 7 (List.map encNodeR f.kids)), .d (.int .i64 f.at_)]), (0, [.d (.list 1 (List.map D.str w.g.verbs)), .d (.list 1 (List.map D.str w.g.adverbs)), .d (.list 1 (List.map D.str w.g.behind)), .d (.str w.g.outer), .d (.str w.g.power), .d (.str w.g.open_), .d (.str w.g.close), .d (.str w.g.left), .d (.str w.g.right), .d (.str w.g.minus), .d (.str w.g.quote), .d (.bool w.g.trains), .d (.bool w.g.lone), .d (.bool w.g.square), .own 1 (List.map D.str w14), .d (.str w.right), .d (.int .i64 w16), .d (.bool w17)])], 3, [], none⟩
abbrev Mp_spell_writer_function (a : Node × Spell_writer) (res : (List Str) × Int × Bool) : Prop := match a with | (f, w) => aval X 72 [.ptr 0 0, .d (encNode f)] [[.d (.list 1 (List.map D.str w.g.verbs)), .d (.list 1 (List.map D.str w.g.adverbs)), .d (.list 1 (List.map D.str w.g.behind)), .d (.str w.g.outer), .d (.str w.g.power), .d (.str w.g.open_), .d (.str w.g.close), .d (.str w.g.left), .d (.str w.g.right), .d (.str w.g.minus), .d (.str w.g.quote), .d (.bool w.g.trains), .d (.bool w.g.lone), .d (.bool w.g.square), .own 1 (List.map D.str w.out), .d (.str w.right), .d (.int .i64 w.nodes), .d (.bool w.bad)]] (CRes.ret (.tuple []) [[.d (.list 1 (List.map D.str w.g.verbs)), .d (.list 1 (List.map D.str w.g.adverbs)), .d (.list 1 (List.map D.str w.g.behind)), .d (.str w.g.outer), .d (.str w.g.power), .d (.str w.g.open_), .d (.str w.g.close), .d (.str w.g.left), .d (.str w.g.right), .d (.str w.g.minus), .d (.str w.g.quote), .d (.bool w.g.trains), .d (.bool w.g.lone), .d (.bool w.g.square), .own 1 (List.map D.str res.1), .d (.str w.right), .d (.int .i64 res.2.1), .d (.bool res.2.2)]])
abbrev Mp_spell_writer_lambda (a : Node × Spell_writer) (res : (List Str) × Int × Bool) : Prop := match a with | (n, w) => aval X 87 [.ptr 0 0, .d (encNode n)] [[.d (.list 1 (List.map D.str w.g.verbs)), .d (.list 1 (List.map D.str w.g.adverbs)), .d (.list 1 (List.map D.str w.g.behind)), .d (.str w.g.outer), .d (.str w.g.power), .d (.str w.g.open_), .d (.str w.g.close), .d (.str w.g.left), .d (.str w.g.right), .d (.str w.g.minus), .d (.str w.g.quote), .d (.bool w.g.trains), .d (.bool w.g.lone), .d (.bool w.g.square), .own 1 (List.map D.str w.out), .d (.str w.right), .d (.int .i64 w.nodes), .d (.bool w.bad)]] (CRes.ret (.tuple []) [[.d (.list 1 (List.map D.str w.g.verbs)), .d (.list 1 (List.map D.str w.g.adverbs)), .d (.list 1 (List.map D.str w.g.behind)), .d (.str w.g.outer), .d (.str w.g.power), .d (.str w.g.open_), .d (.str w.g.close), .d (.str w.g.left), .d (.str w.g.right), .d (.str w.g.minus), .d (.str w.g.quote), .d (.bool w.g.trains), .d (.bool w.g.lone), .d (.bool w.g.square), .own 1 (List.map D.str res.1), .d (.str w.right), .d (.int .i64 res.2.1), .d (.bool res.2.2)]])
abbrev Mp_spell_writer_base (a : Node × Spell_writer) (res : (List Str) × Int × Bool) : Prop := match a with | (f, w) => aval X 88 [.ptr 0 0, .d (encNode f)] [[.d (.list 1 (List.map D.str w.g.verbs)), .d (.list 1 (List.map D.str w.g.adverbs)), .d (.list 1 (List.map D.str w.g.behind)), .d (.str w.g.outer), .d (.str w.g.power), .d (.str w.g.open_), .d (.str w.g.close), .d (.str w.g.left), .d (.str w.g.right), .d (.str w.g.minus), .d (.str w.g.quote), .d (.bool w.g.trains), .d (.bool w.g.lone), .d (.bool w.g.square), .own 1 (List.map D.str w.out), .d (.str w.right), .d (.int .i64 w.nodes), .d (.bool w.bad)]] (CRes.ret (.tuple []) [[.d (.list 1 (List.map D.str w.g.verbs)), .d (.list 1 (List.map D.str w.g.adverbs)), .d (.list 1 (List.map D.str w.g.behind)), .d (.str w.g.outer), .d (.str w.g.power), .d (.str w.g.open_), .d (.str w.g.close), .d (.str w.g.left), .d (.str w.g.right), .d (.str w.g.minus), .d (.str w.g.quote), .d (.bool w.g.trains), .d (.bool w.g.lone), .d (.bool w.g.square), .own 1 (List.map D.str res.1), .d (.str w.right), .d (.int .i64 res.2.1), .d (.bool res.2.2)]])
theorem p_spell_writer_expr_grp : (∀ a res, p_spell_writer_expr a = some res → Mp_spell_writer_expr a res) ∧ (∀ a res, p_spell_writer_applied a = some res → Mp_spell_writer_applied a res) ∧ (∀ a res, p_spell_writer_function a = some res → Mp_spell_writer_function a res) ∧ (∀ a res, p_spell_writer_function_l0 a = some res → Mp_spell_writer_function_l0 a res) ∧ (∀ a res, p_spell_writer_base a = some res → Mp_spell_writer_base a res) ∧ (∀ a res, p_spell_writer_lambda a = some res → Mp_spell_writer_lambda a res) ∧ (∀ a res, p_spell_writer_operand a = some res → Mp_spell_writer_operand a res) ∧ (∀ a res, p_spell_writer_call a = some res → Mp_spell_writer_call a res) := by
 refine p_spell_writer_expr.mutual_partial_correctness (motive_1 := Mp_spell_writer_expr) (motive_2 := Mp_spell_writer_applied) (motive_3 := Mp_spell_writer_function) (motive_4 := Mp_spell_writer_function_l0) (motive_5 := Mp_spell_writer_base) (motive_6 := Mp_spell_writer_lambda) (motive_7 := Mp_spell_writer_operand) (motive_8 := Mp_spell_writer_call) ?_ ?_ ?_ ?_ ?_ ?_ ?_ ?_
 ·rintro p_spell_writer_expr' p_spell_writer_applied' p_spell_writer_operand' p_spell_writer_call' ih_p_spell_writer_expr ih_p_spell_writer_applied ih_p_spell_writer_operand ih_p_spell_writer_call ⟨n, w⟩ res h
  refine aval_start (tm := [(0, .c (.ptr 0 0)), (1, .d (encNode n))]) (hp := [(0, [.d (.list 1 (List.map D.str w.g.verbs)), .d (.list 1 (List.map D.str w.g.adverbs)), .d (.list 1 (List.map D.str w.g.behind)), .d (.str w.g.outer), .d (.str w.g.power), .d (.str w.g.open_), .d (.str w.g.close), .d (.str w.g.left), .d (.str w.g.right), .d (.str w.g.minus), .d (.str w.g.quote), .d (.bool w.g.trains), .d (.bool w.g.lone), .d (.bool w.g.square), .own 1 (List.map D.str w.out), .d (.str w.right), .d (.int .i64 w.nodes), .d (.bool w.bad)])]) (n := 1) rfl Tryz.func21 rfl rfl rfl rfl rfl rfl ?_
  refine ra (nid' := 2) rfl ?_
  refine ra rfl ?_
  refine awp_block ?_
  refine ra rfl ?_
  rcases ite_inv h with ⟨hc, h⟩ | ⟨hc, h⟩
  ·refine ct rfl hc ?_
   refine awp_seq ?_
   refine rn 2 rfl ?_
   obtain ⟨⟨x, nodes, bad⟩, hk, h⟩ := bind_inv h
   refine po (ecallb (nid' := 2) (p_spell_writer_fits_ok hk) rfl rfl rfl rfl rfl rfl rfl rfl rfl rfl rfl rfl) rfl rfl ?_
   refine rz ?_
   rcases ite_inv h with ⟨hc, h⟩ | ⟨hc, h⟩
   ·refine ct rfl hc ?_
    refine awp_seq ?_
    refine rn 3 rfl ?_
    obtain ⟨y, hk, h⟩ := bind_inv h
    refine po (elget encNode encNodeR_eq hk rfl rfl rfl rfl rfl) rfl rfl ?_
    refine on 1 rfl ?_
    obtain ⟨⟨out, nodes1, bad1⟩, hk, h⟩ := bind_inv h
    refine po (ecallb (nid' := 2) (ih_p_spell_writer_call _ _ hk) rfl rfl rfl rfl rfl rfl rfl rfl rfl rfl rfl rfl) rfl rfl ?_
    refine rz ?_
    refine rn 3 rfl ?_
    obtain ⟨y1, hk, h⟩ := bind_inv h
    refine po (elget encNode encNodeR_eq hk rfl rfl rfl rfl rfl) rfl rfl ?_
    refine on 1 rfl ?_
    obtain ⟨⟨out1, nodes2, bad2⟩, hk, h⟩ := bind_inv h
    refine po (ecallb (nid' := 2) (ih_p_spell_writer_expr _ _ hk) rfl rfl rfl rfl rfl rfl rfl rfl rfl rfl rfl rfl) rfl rfl ?_
    refine awpO_nil ?_
    refine cn rfl ?_
    refine cn rfl ?_
    refine en rfl ?_
    cases h
    exact .normal rfl rfl
   ·refine cf rfl hc ?_
    refine awp_skip ?_
    refine cn rfl ?_
    refine cn rfl ?_
    refine en rfl ?_
    cases h
    exact .normal rfl rfl
  ·refine cf rfl hc ?_
   refine ra rfl ?_
   rcases ite_inv h with ⟨hc, h⟩ | ⟨hc, h⟩
   ·refine ct rfl hc ?_
    refine awp_seq ?_
    refine rn 2 rfl ?_
    obtain ⟨⟨x1, nodes3, bad3⟩, hk, h⟩ := bind_inv h
    refine po (ecallb (nid' := 2) (p_spell_writer_fits_ok hk) rfl rfl rfl rfl rfl rfl rfl rfl rfl rfl rfl rfl) rfl rfl ?_
    refine rz ?_
    rcases ite_inv h with ⟨hc, h⟩ | ⟨hc, h⟩
    ·refine ct rfl hc ?_
     refine awp_seq ?_
     refine rn 3 rfl ?_
     obtain ⟨y2, hk, h⟩ := bind_inv h
     refine po (elget encNode encNodeR_eq hk rfl rfl rfl rfl rfl) rfl rfl ?_
     refine on 1 rfl ?_
     obtain ⟨⟨out2, nodes4, bad4⟩, hk, h⟩ := bind_inv h
     refine po (ecallb (nid' := 2) (ih_p_spell_writer_operand _ _ hk) rfl rfl rfl rfl rfl rfl rfl rfl rfl rfl rfl rfl) rfl rfl ?_
     refine rz ?_
     refine awp_seq ?_
     refine rn 3 rfl ?_
     obtain ⟨y3, hk, h⟩ := bind_inv h
     refine po (elget encNode encNodeR_eq hk rfl rfl rfl rfl rfl) rfl rfl ?_
     refine on 1 rfl ?_
     obtain ⟨⟨out3, nodes5, bad5⟩, hk, h⟩ := bind_inv h
     refine po (ecallb (nid' := 2) (ih_p_spell_writer_applied _ _ hk) rfl rfl rfl rfl rfl rfl rfl rfl rfl rfl rfl rfl) rfl rfl ?_
     refine rz ?_
     refine rn 3 rfl ?_
     obtain ⟨y4, hk, h⟩ := bind_inv h
     refine po (elget encNode encNodeR_eq hk rfl rfl rfl rfl rfl) rfl rfl ?_
     refine on 1 rfl ?_
     obtain ⟨⟨out4, nodes6, bad6⟩, hk, h⟩ := bind_inv h
     refine po (ecallb (nid' := 2) (ih_p_spell_writer_expr _ _ hk) rfl rfl rfl rfl rfl rfl rfl rfl rfl rfl rfl rfl) rfl rfl ?_
     refine awpO_nil ?_
     refine cn rfl ?_
     refine cn rfl ?_
     refine cn rfl ?_
     refine en rfl ?_
     cases h
     exact .normal rfl rfl
    ·refine cf rfl hc ?_
     refine awp_skip ?_
     refine cn rfl ?_
     refine cn rfl ?_
     refine cn rfl ?_
     refine en rfl ?_
     cases h
     exact .normal rfl rfl
   ·refine cf rfl hc ?_
    refine rn 2 rfl ?_
    obtain ⟨⟨out5, nodes7, bad7⟩, hk, h⟩ := bind_inv h
    refine po (ecallb (nid' := 2) (ih_p_spell_writer_operand _ _ hk) rfl rfl rfl rfl rfl rfl rfl rfl rfl rfl rfl rfl) rfl rfl ?_
    refine awpO_nil ?_
    refine cn rfl ?_
    refine cn rfl ?_
    refine en rfl ?_
    cases h
    exact .normal rfl rfl
 ·rintro p_spell_writer_function' ih_p_spell_writer_function ⟨f, w⟩ res h
  refine aval_start (tm := [(0, .c (.ptr 0 0)), (1, .d (encNode f))]) (hp := [(0, [.d (.list 1 (List.map D.str w.g.verbs)), .d (.list 1 (List.map D.str w.g.adverbs)), .d (.list 1 (List.map D.str w.g.behind)), .d (.str w.g.outer), .d (.str w.g.power), .d (.str w.g.open_), .d (.str w.g.close), .d (.str w.g.left), .d (.str w.g.right), .d (.str w.g.minus), .d (.str w.g.quote), .d (.bool w.g.trains), .d (.bool w.g.lone), .d (.bool w.g.square), .own 1 (List.map D.str w.out), .d (.str w.right), .d (.int .i64 w.nodes), .d (.bool w.bad)])]) (n := 1) rfl Tryz.func47 rfl rfl rfl rfl rfl rfl ?_
  refine ra (nid' := 2) rfl ?_
  refine awp_seq ?_
  refine ra rfl ?_
  rcases ite_inv h with ⟨hc, h⟩ | ⟨hc, h⟩
  ·refine ct rfl hc ?_
   refine awp_seq ?_
   refine rn 2 rfl ?_
   obtain ⟨out, hk, h⟩ := bind_inv h
   refine po (ecallb (nid' := 2) (p_spell_writer_words_ok hk) rfl rfl rfl rfl rfl rfl rfl rfl rfl rfl rfl rfl) rfl rfl ?_
   refine rz ?_
   refine awp_seq ?_
   refine rn 2 rfl ?_
   obtain ⟨⟨out1, nodes, bad⟩, hk, h⟩ := bind_inv h
   refine po (ecallb (nid' := 2) (ih_p_spell_writer_function _ _ hk) rfl rfl rfl rfl rfl rfl rfl rfl rfl rfl rfl rfl) rfl rfl ?_
   refine rz ?_
   refine awp_seq ?_
   refine rn 2 rfl ?_
   obtain ⟨out2, hk, h⟩ := bind_inv h
   refine po (ecallb (nid' := 2) (p_spell_writer_words_ok hk) rfl rfl rfl rfl rfl rfl rfl rfl rfl rfl rfl rfl) rfl rfl ?_
   refine rz ?_
   refine awp_ret ?_
   refine condQ.ret ?_
   refine seqQ.ret ?_
   cases h
   exact .ret rfl rfl
  ·refine cf rfl hc ?_
   refine awp_skip ?_
   refine cn rfl ?_
   refine seqQ.normal ?_
   refine rn 2 rfl ?_
   obtain ⟨⟨out3, nodes1, bad1⟩, hk, h⟩ := bind_inv h
   refine po (ecallb (nid' := 2) (ih_p_spell_writer_function _ _ hk) rfl rfl rfl rfl rfl rfl rfl rfl rfl rfl rfl rfl) rfl rfl ?_
   refine awpO_nil ?_
   cases h
   exact .normal rfl rfl
 ·rintro p_spell_writer_function' p_spell_writer_function_l0' p_spell_writer_base' p_spell_writer_lambda' ih_p_spell_writer_function ih_p_spell_writer_function_l0 ih_p_spell_writer_base ih_p_spell_writer_lambda ⟨f, w⟩ res h
  refine aval_start (tm := [(0, .c (.ptr 0 0)), (1, .d (encNode f))]) (hp := [(0, [.d (.list 1 (List.map D.str w.g.verbs)), .d (.list 1 (List.map D.str w.g.adverbs)), .d (.list 1 (List.map D.str w.g.behind)), .d (.str w.g.outer), .d (.str w.g.power), .d (.str w.g.open_), .d (.str w.g.close), .d (.str w.g.left), .d (.str w.g.right), .d (.str w.g.minus), .d (.str w.g.quote), .d (.bool w.g.trains), .d (.bool w.g.lone), .d (.bool w.g.square), .own 1 (List.map D.str w.out), .d (.str w.right), .d (.int .i64 w.nodes), .d (.bool w.bad)])]) (n := 1) rfl Tryz.func72 rfl rfl rfl rfl rfl rfl ?_
  refine ra (nid' := 2) rfl ?_
  refine awp_seq ?_
  refine rn 0 rfl ?_
  refine pmk (nid' := 3) rfl rfl rfl rfl rfl ?_
  refine po (emap (kvs' := List.map (encI .i64 (D.int .i64)) [(22, 1)]) rfl (.inl rfl) rfl rfl rfl rfl rfl rfl rfl) rfl rfl ?_
  refine po (emap (kvs' := List.map (encI .i64 (D.int .i64)) [(22, 1), (23, 1)]) rfl (.inl rfl) rfl rfl rfl rfl rfl rfl rfl) rfl rfl ?_
  refine po (emap (kvs' := List.map (encI .i64 (D.int .i64)) [(22, 1), (23, 1), (24, 1)]) rfl (.inl rfl) rfl rfl rfl rfl rfl rfl rfl) rfl rfl ?_
  refine po (emap (kvs' := List.map (encI .i64 (D.int .i64)) [(22, 1), (23, 1), (24, 1), (25, 1)]) rfl (.inl rfl) rfl rfl rfl rfl rfl rfl rfl) rfl rfl ?_
  refine po (emap (kvs' := List.map (encI .i64 (D.int .i64)) [(22, 1), (23, 1), (24, 1), (25, 1), (26, 1)]) rfl (.inl rfl) rfl rfl rfl rfl rfl rfl rfl) rfl rfl ?_
  refine po (emap (kvs' := List.map (encI .i64 (D.int .i64)) [(22, 1), (23, 1), (24, 1), (25, 1), (26, 1), (27, 3)]) rfl (.inl rfl) rfl rfl rfl rfl rfl rfl rfl) rfl rfl ?_
  refine po (emap (kvs' := List.map (encI .i64 (D.int .i64)) [(22, 1), (23, 1), (24, 1), (25, 1), (26, 1), (27, 3), (28, 2)]) rfl (.inl rfl) rfl rfl rfl rfl rfl rfl rfl) rfl rfl ?_
  refine on (nid' := 3) 3 rfl ?_
  refine po (elookI (l := [(22, 1), (23, 1), (24, 1), (25, 1), (26, 1), (27, 3), (28, 2)]) 0 rfl rfl rfl rfl rfl rfl rfl) rfl rfl ?_
  refine on (nid' := 3) 1 rfl ?_
  refine rz ?_
  refine awp_seq ?_
  refine awp_seq ?_
  refine rn 3 rfl ?_
  obtain ⟨⟨x, nodes, bad⟩, hk, h⟩ := bind_inv h
  refine po (ecallb (nid' := 3) (p_spell_writer_fits_ok hk) rfl rfl rfl rfl rfl rfl rfl rfl rfl rfl rfl rfl) rfl rfl ?_
  refine on 1 rfl ?_
  refine rz ?_
  rcases ite_inv h with ⟨hc, h⟩ | ⟨hc, h⟩
  ·refine ct rfl hc ?_
   refine awp_ret ?_
   refine condQ.ret ?_
   refine seqQ.ret ?_
   cases h
   exact .ret rfl rfl
  ·refine cf rfl hc ?_
   refine awp_skip ?_
   refine cn rfl ?_
   refine seqQ.normal ?_
   refine ra rfl ?_
   refine awp_block ?_
   refine ra rfl ?_
   rcases ite_inv h with ⟨hc, h⟩ | ⟨hc, h⟩
   ·refine ct rfl hc ?_
    refine rn 4 rfl ?_
    obtain ⟨out, hk, h⟩ := bind_inv h
    refine po (ecallb (nid' := 3) (p_spell_writer_words_ok hk) rfl rfl rfl rfl rfl rfl rfl rfl rfl rfl rfl rfl) rfl rfl ?_
    refine awpO_nil ?_
    refine cn rfl ?_
    refine en rfl ?_
    cases h
    exact .normal rfl rfl
   ·refine cf rfl hc ?_
    refine awp_seq ?_
    refine ra rfl ?_
    obtain ⟨x1, hs, h⟩ := bind_inv h
    refine awp_nrm (fun (x1 : Bool) => (⟨[(0, .c (.ptr 0 0)), (3, .c (.ptr 1 0)), (18, .d (.int .i64 f.kind)), (29, .d (.bool x1))], [(2, [.ment (List.map (encI .i64 (D.int .i64)) [(22, 1), (23, 1), (24, 1), (25, 1), (26, 1), (27, 3), (28, 2)])]), (1, [.d (.int .i64 f.kind), .d (.int .i64 f.op_), .d (.str f.name), .d (.list 1 (List.map (D.int .i64) f.lit.shape)), .d (.list 3 (List.map encCell f.lit.cells)), .d (.list 7 (List.map encNodeR f.kids)), .d (.int .i64 f.at_)]), (0, [.d (.list 1 (List.map D.str w.g.verbs)), .d (.list 1 (List.map D.str w.g.adverbs)), .d (.list 1 (List.map D.str w.g.behind)), .d (.str w.g.outer), .d (.str w.g.power), .d (.str w.g.open_), .d (.str w.g.close), .d (.str w.g.left), .d (.str w.g.right), .d (.str w.g.minus), .d (.str w.g.quote), .d (.bool w.g.trains), .d (.bool w.g.lone), .d (.bool w.g.square), .own 1 (List.map D.str w.out), .d (.str w.right), .d (.int .i64 nodes), .d (.bool bad)])], 3, [], none⟩ : St)) (y := x1) ?_ ?_
    ·replace h := hs
     rcases ite_inv h with ⟨hc, h⟩ | ⟨hc, h⟩
     ·refine ct rfl hc ?_
      refine awp_skip ?_
      refine cn rfl ?_
      cases h
      exact .ok rfl
     ·refine cf rfl hc ?_
      refine rn 2 rfl ?_
      refine awpO_nil ?_
      refine cn rfl ?_
      cases h
      exact .ok rfl
    ·refine seqQ.normal ?_
     rcases ite_inv h with ⟨hc, h⟩ | ⟨hc, h⟩
     ·refine ct rfl hc ?_
      refine rn 2 rfl ?_
      obtain ⟨⟨out1, nodes1, bad1⟩, hk, h⟩ := bind_inv h
      refine po (ecallb (nid' := 3) (ih_p_spell_writer_lambda _ _ hk) rfl rfl rfl rfl rfl rfl rfl rfl rfl rfl rfl rfl) rfl rfl ?_
      refine awpO_nil ?_
      refine cn rfl ?_
      refine cn rfl ?_
      refine en rfl ?_
      cases h
      exact .normal rfl rfl
     ·refine cf rfl hc ?_
      refine ra rfl ?_
      rcases ite_inv h with ⟨hc, h⟩ | ⟨hc, h⟩
      ·refine ct rfl hc ?_
       refine awp_seq ?_
       refine rn 3 rfl ?_
       obtain ⟨y, hk, h⟩ := bind_inv h
       refine po (elget encNode encNodeR_eq hk rfl rfl rfl rfl rfl) rfl rfl ?_
       refine on 1 rfl ?_
       obtain ⟨⟨out2, nodes2, bad2⟩, hk, h⟩ := bind_inv h
       refine po (ecallb (nid' := 3) (ih_p_spell_writer_function _ _ hk) rfl rfl rfl rfl rfl rfl rfl rfl rfl rfl rfl rfl) rfl rfl ?_
       refine rz ?_
       refine rn 4 rfl ?_
       obtain ⟨out3, hk, h⟩ := bind_inv h
       refine po (ecallb (nid' := 3) (p_spell_writer_glue_ok hk) rfl rfl rfl rfl rfl rfl rfl rfl rfl rfl rfl rfl) rfl rfl ?_
       refine awpO_nil ?_
       refine cn rfl ?_
       refine cn rfl ?_
       refine cn rfl ?_
       refine en rfl ?_
       cases h
       exact .normal rfl rfl
      ·refine cf rfl hc ?_
       refine ra rfl ?_
       rcases ite_inv h with ⟨hc, h⟩ | ⟨hc, h⟩
       ·refine ct rfl hc ?_
        refine awp_seq ?_
        refine rn 6 rfl ?_
        rcases ite_inv h with ⟨hc, h⟩ | ⟨hc, h⟩
        ·refine gt rfl rfl rfl rfl hc rfl ?_
         refine on 7 rfl ?_
         refine rz ?_
         refine awp_seq ?_
         refine rn 3 rfl ?_
         obtain ⟨y1, hk, h⟩ := bind_inv h
         refine po (elget encNode encNodeR_eq hk rfl rfl rfl rfl rfl) rfl rfl ?_
         refine on 1 rfl ?_
         obtain ⟨⟨out4, nodes3, bad3⟩, hk, h⟩ := bind_inv h
         refine po (ecallb (nid' := 3) (ih_p_spell_writer_function _ _ hk) rfl rfl rfl rfl rfl rfl rfl rfl rfl rfl rfl rfl) rfl rfl ?_
         refine rz ?_
         refine drn (m := 19) 13 rfl rfl ?_
         obtain ⟨x2, hk, h⟩ := bind_inv h
         refine pd (ecall (p_spell_Number_ok hk) rfl rfl rfl rfl rfl rfl rfl rfl rfl) rfl rfl rfl rfl rfl ?_
         refine don 1 rfl ?_
         obtain ⟨out5, hk, h⟩ := bind_inv h
         refine pd (ecallb (nid' := 19) (p_spell_writer_glue_ok hk) rfl rfl rfl rfl rfl rfl rfl rfl rfl rfl rfl rfl) rfl rfl rfl rfl rfl ?_
         refine dz' (by kernel_rfl) ?_
         refine cn rfl ?_
         refine cn rfl ?_
         refine cn rfl ?_
         refine cn rfl ?_
         refine en rfl ?_
         cases h
         exact .normal rfl rfl
        ·refine gf rfl rfl rfl rfl hc rfl ?_
         refine on 7 rfl ?_
         refine rz ?_
         refine awp_seq ?_
         refine rn 3 rfl ?_
         obtain ⟨y2, hk, h⟩ := bind_inv h
         refine po (elget encNode encNodeR_eq hk rfl rfl rfl rfl rfl) rfl rfl ?_
         refine on 1 rfl ?_
         obtain ⟨⟨out6, nodes4, bad4⟩, hk, h⟩ := bind_inv h
         refine po (ecallb (nid' := 3) (ih_p_spell_writer_function _ _ hk) rfl rfl rfl rfl rfl rfl rfl rfl rfl rfl rfl rfl) rfl rfl ?_
         refine rz ?_
         refine drn (m := 19) 13 rfl rfl ?_
         obtain ⟨x3, hk, h⟩ := bind_inv h
         refine pd (ecall (p_spell_Number_ok hk) rfl rfl rfl rfl rfl rfl rfl rfl rfl) rfl rfl rfl rfl rfl ?_
         refine don 1 rfl ?_
         obtain ⟨out7, hk, h⟩ := bind_inv h
         refine pd (ecallb (nid' := 19) (p_spell_writer_glue_ok hk) rfl rfl rfl rfl rfl rfl rfl rfl rfl rfl rfl rfl) rfl rfl rfl rfl rfl ?_
         refine dz' (by kernel_rfl) ?_
         refine cn rfl ?_
         refine cn rfl ?_
         refine cn rfl ?_
         refine cn rfl ?_
         refine en rfl ?_
         cases h
         exact .normal rfl rfl
       ·refine cf rfl hc ?_
        refine ra rfl ?_
        rcases ite_inv h with ⟨hc, h⟩ | ⟨hc, h⟩
        ·refine ct rfl hc ?_
         refine awp_seq ?_
         refine rn 7 rfl ?_
         obtain ⟨out8, hk, h⟩ := bind_inv h
         refine po (ecallb (nid' := 3) (p_spell_writer_words_ok hk) rfl rfl rfl rfl rfl rfl rfl rfl rfl rfl rfl rfl) rfl rfl ?_
         refine rz ?_
         refine rn 3 rfl ?_
         obtain ⟨y3, hk, h⟩ := bind_inv h
         refine po (elget encNode encNodeR_eq hk rfl rfl rfl rfl rfl) rfl rfl ?_
         refine on 1 rfl ?_
         obtain ⟨⟨out9, nodes5, bad5⟩, hk, h⟩ := bind_inv h
         refine po (ecallb (nid' := 3) (ih_p_spell_writer_base _ _ hk) rfl rfl rfl rfl rfl rfl rfl rfl rfl rfl rfl rfl) rfl rfl ?_
         refine awpO_nil ?_
         refine cn rfl ?_
         refine cn rfl ?_
         refine cn rfl ?_
         refine cn rfl ?_
         refine cn rfl ?_
         refine en rfl ?_
         cases h
         exact .normal rfl rfl
        ·refine cf rfl hc ?_
         refine awp_seq ?_
         refine ra rfl ?_
         obtain ⟨x4, hs, h⟩ := bind_inv h
         refine awp_nrm (fun (x4 : Bool) => (⟨[(0, .c (.ptr 0 0)), (3, .c (.ptr 1 0)), (100, .d (.bool x4))], [(2, [.ment (List.map (encI .i64 (D.int .i64)) [(22, 1), (23, 1), (24, 1), (25, 1), (26, 1), (27, 3), (28, 2)])]), (1, [.d (.int .i64 f.kind), .d (.int .i64 f.op_), .d (.str f.name), .d (.list 1 (List.map (D.int .i64) f.lit.shape)), .d (.list 3 (List.map encCell f.lit.cells)), .d (.list 7 (List.map encNodeR f.kids)), .d (.int .i64 f.at_)]), (0, [.d (.list 1 (List.map D.str w.g.verbs)), .d (.list 1 (List.map D.str w.g.adverbs)), .d (.list 1 (List.map D.str w.g.behind)), .d (.str w.g.outer), .d (.str w.g.power), .d (.str w.g.open_), .d (.str w.g.close), .d (.str w.g.left), .d (.str w.g.right), .d (.str w.g.minus), .d (.str w.g.quote), .d (.bool w.g.trains), .d (.bool w.g.lone), .d (.bool w.g.square), .own 1 (List.map D.str w.out), .d (.str w.right), .d (.int .i64 nodes), .d (.bool bad)])], 3, [], none⟩ : St)) (y := x4) ?_ ?_
         ·replace h := hs
          rcases ite_inv h with ⟨hc, h⟩ | ⟨hc, h⟩
          ·refine ct rfl hc ?_
           refine awp_skip ?_
           refine cn rfl ?_
           cases h
           exact .ok rfl
          ·refine cf rfl hc ?_
           refine rn 2 rfl ?_
           refine awpO_nil ?_
           refine cn rfl ?_
           cases h
           exact .ok rfl
         ·refine seqQ.normal ?_
          rcases ite_inv h with ⟨hc, h⟩ | ⟨hc, h⟩
          ·refine ct rfl hc ?_
           refine awp_seq ?_
           refine rn 2 rfl ?_
           obtain ⟨out10, hk, h⟩ := bind_inv h
           refine po (ecallb (nid' := 3) (p_spell_writer_words_ok hk) rfl rfl rfl rfl rfl rfl rfl rfl rfl rfl rfl rfl) rfl rfl ?_
           refine rz ?_
           refine awp_seq ?_
           refine awp_seq ?_
           refine rn 2 rfl ?_
           refine po (ellen rfl rfl rfl rfl rfl rfl rfl) rfl rfl ?_
           refine on 1 rfl ?_
           refine rz ?_
           obtain ⟨⟨w141, w161, w171⟩, hs, h⟩ := bind_inv h
           refine awp_nrm (fun ((w141, w161, w171) : (List Str) × Int × Bool) => (⟨[(0, .c (.ptr 0 0))], [(2, [.ment (List.map (encI .i64 (D.int .i64)) [(22, 1), (23, 1), (24, 1), (25, 1), (26, 1), (27, 3), (28, 2)])]), (1, [.d (.int .i64 f.kind), .d (.int .i64 f.op_), .d (.str f.name), .d (.list 1 (List.map (D.int .i64) f.lit.shape)), .d (.list 3 (List.map encCell f.lit.cells)), .d (.list 7 (List.map encNodeR f.kids)), .d (.int .i64 f.at_)]), (0, [.d (.list 1 (List.map D.str w.g.verbs)), .d (.list 1 (List.map D.str w.g.adverbs)), .d (.list 1 (List.map D.str w.g.behind)), .d (.str w.g.outer), .d (.str w.g.power), .d (.str w.g.open_), .d (.str w.g.close), .d (.str w.g.left), .d (.str w.g.right), .d (.str w.g.minus), .d (.str w.g.quote), .d (.bool w.g.trains), .d (.bool w.g.lone), .d (.bool w.g.square), .own 1 (List.map D.str w141), .d (.str w.right), .d (.int .i64 w161), .d (.bool w171)])], 3, [], none⟩ : St)) (y := (w141, w161, w171)) ?_ ?_
           ·replace h := hs
            refine awp_block ?_
            refine awp_loop ?_
            exact awpL_at rfl rfl (ih_p_spell_writer_function_l0 _ _ h)
           ·refine seqQ.normal ?_
            refine rn 2 rfl ?_
            obtain ⟨out12, hk, h⟩ := bind_inv h
            refine po (ecallb (nid' := 3) (p_spell_writer_words_ok hk) rfl rfl rfl rfl rfl rfl rfl rfl rfl rfl rfl rfl) rfl rfl ?_
            refine awpO_nil ?_
            refine cn rfl ?_
            refine cn rfl ?_
            refine cn rfl ?_
            refine cn rfl ?_
            refine cn rfl ?_
            refine cn rfl ?_
            refine en rfl ?_
            cases h
            exact .normal rfl rfl
          ·refine cf rfl hc ?_
           refine rn 4 rfl ?_
           refine awpO_nil ?_
           refine cn rfl ?_
           refine cn rfl ?_
           refine cn rfl ?_
           refine cn rfl ?_
           refine cn rfl ?_
           refine cn rfl ?_
           refine en rfl ?_
           cases h
           exact .normal rfl rfl
 ·rintro p_spell_writer_function' p_spell_writer_function_l0' ih_p_spell_writer_function ih_p_spell_writer_function_l0 ⟨f, w, x5, w14, w16, w17⟩ res h
  refine lg rfl ?_
  refine ra rfl ?_
  refine awp_seq ?_
  rcases ite_inv h with ⟨hc, h⟩ | ⟨hc, h⟩
  ·refine ct rfl hc ?_
   refine awp_skip ?_
   refine cn rfl ?_
   refine seqQ.normal ?_
   refine awp_seq ?_
   refine awp_block ?_
   refine awp_seq ?_
   refine rn 0 rfl ?_
   obtain ⟨y4, hk, h⟩ := bind_inv h
   refine po (elget encNode encNodeR_eq hk rfl rfl rfl rfl rfl) rfl rfl ?_
   refine on (nid' := 4) 3 rfl ?_
   refine rz ?_
   refine rn 2 rfl ?_
   obtain ⟨⟨out11, nodes6, bad6⟩, hk, h⟩ := bind_inv h
   refine po (ecallb (nid' := 4) (ih_p_spell_writer_function _ _ hk) rfl rfl rfl rfl rfl rfl rfl rfl rfl rfl rfl rfl) rfl rfl ?_
   refine awpO_nil ?_
   refine en rfl ?_
   refine seqQ.normal ?_
   refine rn 2 rfl ?_
   refine awpO_nil ?_
   refine loopQ.normal ?_
   exact awpL_at rfl rfl (ih_p_spell_writer_function_l0 _ _ h)
  ·refine cf rfl hc ?_
   refine awp_exit ?_
   refine condQ.exit ?_
   refine seqQ.exit ?_
   refine loopQ.exit ?_
   refine eh rfl ?_
   cases h
   exact .ok rfl
 ·rintro p_spell_writer_function' ih_p_spell_writer_function ⟨f, w⟩ res h
  refine aval_start (tm := [(0, .c (.ptr 0 0)), (1, .d (encNode f))]) (hp := [(0, [.d (.list 1 (List.map D.str w.g.verbs)), .d (.list 1 (List.map D.str w.g.adverbs)), .d (.list 1 (List.map D.str w.g.behind)), .d (.str w.g.outer), .d (.str w.g.power), .d (.str w.g.open_), .d (.str w.g.close), .d (.str w.g.left), .d (.str w.g.right), .d (.str w.g.minus), .d (.str w.g.quote), .d (.bool w.g.trains), .d (.bool w.g.lone), .d (.bool w.g.square), .own 1 (List.map D.str w.out), .d (.str w.right), .d (.int .i64 w.nodes), .d (.bool w.bad)])]) (n := 1) rfl Tryz.func88 rfl rfl rfl rfl rfl rfl ?_
  refine ra (nid' := 2) rfl ?_
  refine ra rfl ?_
  refine awp_block ?_
  refine awp_seq ?_
  refine ra rfl ?_
  obtain ⟨x, hs, h⟩ := bind_inv h
  refine awp_nrm (fun (x : Bool) => (⟨[(0, .c (.ptr 0 0)), (3, .c (.ptr 1 0)), (15, .d (.bool x))], [(1, [.d (.int .i64 f.kind), .d (.int .i64 f.op_), .d (.str f.name), .d (.list 1 (List.map (D.int .i64) f.lit.shape)), .d (.list 3 (List.map encCell f.lit.cells)), .d (.list 7 (List.map encNodeR f.kids)), .d (.int .i64 f.at_)]), (0, [.d (.list 1 (List.map D.str w.g.verbs)), .d (.list 1 (List.map D.str w.g.adverbs)), .d (.list 1 (List.map D.str w.g.behind)), .d (.str w.g.outer), .d (.str w.g.power), .d (.str w.g.open_), .d (.str w.g.close), .d (.str w.g.left), .d (.str w.g.right), .d (.str w.g.minus), .d (.str w.g.quote), .d (.bool w.g.trains), .d (.bool w.g.lone), .d (.bool w.g.square), .own 1 (List.map D.str w.out), .d (.str w.right), .d (.int .i64 w.nodes), .d (.bool w.bad)])], 2, [], none⟩ : St)) (y := x) ?_ ?_
  ·replace h := hs
   rcases ite_inv h with ⟨hc, h⟩ | ⟨hc, h⟩
   ·refine ct rfl hc ?_
    refine awp_skip ?_
    refine cn rfl ?_
    cases h
    exact .ok rfl
   ·refine cf rfl hc ?_
    refine ra rfl ?_
    rcases ite_inv h with ⟨hc, h⟩ | ⟨hc, h⟩
    ·refine ct rfl hc ?_
     refine awp_skip ?_
     refine cn rfl ?_
     refine cn rfl ?_
     cases h
     exact .ok rfl
    ·refine cf rfl hc ?_
     refine ra rfl ?_
     rcases ite_inv h with ⟨hc, h⟩ | ⟨hc, h⟩
     ·refine ct rfl hc ?_
      refine awp_skip ?_
      refine cn rfl ?_
      refine cn rfl ?_
      refine cn rfl ?_
      cases h
      exact .ok rfl
     ·refine cf rfl hc ?_
      refine ra rfl ?_
      rcases ite_inv h with ⟨hc, h⟩ | ⟨hc, h⟩
      ·refine ct rfl hc ?_
       refine awp_skip ?_
       refine cn rfl ?_
       refine cn rfl ?_
       refine cn rfl ?_
       refine cn rfl ?_
       cases h
       exact .ok rfl
      ·refine cf rfl hc ?_
       refine rn 2 rfl ?_
       refine awpO_nil ?_
       refine cn rfl ?_
       refine cn rfl ?_
       refine cn rfl ?_
       refine cn rfl ?_
       cases h
       exact .ok rfl
  ·refine seqQ.normal ?_
   rcases ite_inv h with ⟨hc, h⟩ | ⟨hc, h⟩
   ·refine ct rfl hc ?_
    refine rn 2 rfl ?_
    obtain ⟨⟨out, nodes, bad⟩, hk, h⟩ := bind_inv h
    refine po (ecallb (nid' := 2) (ih_p_spell_writer_function _ _ hk) rfl rfl rfl rfl rfl rfl rfl rfl rfl rfl rfl rfl) rfl rfl ?_
    refine awpO_nil ?_
    refine cn rfl ?_
    refine en rfl ?_
    cases h
    exact .normal rfl rfl
   ·refine cf rfl hc ?_
    refine awp_seq ?_
    refine rn 2 rfl ?_
    obtain ⟨out1, hk, h⟩ := bind_inv h
    refine po (ecallb (nid' := 2) (p_spell_writer_words_ok hk) rfl rfl rfl rfl rfl rfl rfl rfl rfl rfl rfl rfl) rfl rfl ?_
    refine rz ?_
    refine awp_seq ?_
    refine rn 2 rfl ?_
    obtain ⟨⟨out2, nodes1, bad1⟩, hk, h⟩ := bind_inv h
    refine po (ecallb (nid' := 2) (ih_p_spell_writer_function _ _ hk) rfl rfl rfl rfl rfl rfl rfl rfl rfl rfl rfl rfl) rfl rfl ?_
    refine rz ?_
    refine rn 2 rfl ?_
    obtain ⟨out3, hk, h⟩ := bind_inv h
    refine po (ecallb (nid' := 2) (p_spell_writer_words_ok hk) rfl rfl rfl rfl rfl rfl rfl rfl rfl rfl rfl rfl) rfl rfl ?_
    refine awpO_nil ?_
    refine cn rfl ?_
    refine en rfl ?_
    cases h
    exact .normal rfl rfl
 ·rintro p_spell_writer_expr' ih_p_spell_writer_expr ⟨n, w⟩ res h
  refine aval_start (tm := [(0, .c (.ptr 0 0)), (1, .d (encNode n))]) (hp := [(0, [.d (.list 1 (List.map D.str w.g.verbs)), .d (.list 1 (List.map D.str w.g.adverbs)), .d (.list 1 (List.map D.str w.g.behind)), .d (.str w.g.outer), .d (.str w.g.power), .d (.str w.g.open_), .d (.str w.g.close), .d (.str w.g.left), .d (.str w.g.right), .d (.str w.g.minus), .d (.str w.g.quote), .d (.bool w.g.trains), .d (.bool w.g.lone), .d (.bool w.g.square), .own 1 (List.map D.str w.out), .d (.str w.right), .d (.int .i64 w.nodes), .d (.bool w.bad)])]) (n := 1) rfl Tryz.func87 rfl rfl rfl rfl rfl rfl ?_
  refine ra (nid' := 2) rfl ?_
  refine ra rfl ?_
  refine awp_seq ?_
  refine ra rfl ?_
  refine awp_seq ?_
  refine rn 6 rfl ?_
  rcases ite_inv h with ⟨hc, h⟩ | ⟨hc, h⟩
  ·refine gt rfl rfl rfl rfl hc rfl ?_
   refine on 4 rfl ?_
   refine rz ?_
   obtain ⟨x15, hs, h⟩ := bind_inv h
   refine awp_nrm (fun (x15 : Str) => (⟨[(0, .c (.ptr 0 0)), (3, .c (.ptr 1 0)), (4, .d (.str w.right))], [(1, [.d (.int .i64 n.kind), .d (.int .i64 n.op_), .d (.str n.name), .d (.list 1 (List.map (D.int .i64) n.lit.shape)), .d (.list 3 (List.map encCell n.lit.cells)), .d (.list 7 (List.map encNodeR n.kids)), .d (.int .i64 n.at_)]), (0, [.d (.list 1 (List.map D.str w.g.verbs)), .d (.list 1 (List.map D.str w.g.adverbs)), .d (.list 1 (List.map D.str w.g.behind)), .d (.str w.g.outer), .d (.str w.g.power), .d (.str w.g.open_), .d (.str w.g.close), .d (.str w.g.left), .d (.str w.g.right), .d (.str w.g.minus), .d (.str w.g.quote), .d (.bool w.g.trains), .d (.bool w.g.lone), .d (.bool w.g.square), .own 1 (List.map D.str w.out), .d (.str x15), .d (.int .i64 w.nodes), .d (.bool w.bad)])], 2, [], none⟩ : St)) (y := x15) ?_ ?_
   ·replace h := hs
    rcases ite_inv h with ⟨hc, h⟩ | ⟨hc, h⟩
    ·refine ct rfl hc ?_
     refine rn 9 rfl ?_
     refine awpO_nil ?_
     refine cn rfl ?_
     cases h
     exact .ok rfl
    ·refine cf rfl hc ?_
     refine awp_skip ?_
     refine cn rfl ?_
     cases h
     exact .ok rfl
   ·refine seqQ.normal ?_
    refine awp_seq ?_
    refine rn 7 rfl ?_
    obtain ⟨out, hk, h⟩ := bind_inv h
    refine po (ecallb (nid' := 2) (p_spell_writer_words_ok hk) rfl rfl rfl rfl rfl rfl rfl rfl rfl rfl rfl rfl) rfl rfl ?_
    refine rz ?_
    refine awp_seq ?_
    refine rn 3 rfl ?_
    obtain ⟨y, hk, h⟩ := bind_inv h
    refine po (elget encNode encNodeR_eq hk rfl rfl rfl rfl rfl) rfl rfl ?_
    refine on 1 rfl ?_
    obtain ⟨⟨out1, nodes, bad⟩, hk, h⟩ := bind_inv h
    refine po (ecallb (nid' := 2) (ih_p_spell_writer_expr _ _ hk) rfl rfl rfl rfl rfl rfl rfl rfl rfl rfl rfl rfl) rfl rfl ?_
    refine rz ?_
    refine awp_seq ?_
    refine rn 7 rfl ?_
    obtain ⟨out2, hk, h⟩ := bind_inv h
    refine po (ecallb (nid' := 2) (p_spell_writer_words_ok hk) rfl rfl rfl rfl rfl rfl rfl rfl rfl rfl rfl rfl) rfl rfl ?_
    refine rz ?_
    refine rn 5 rfl ?_
    refine awpO_nil ?_
    cases h
    exact .normal rfl rfl
  ·refine gf rfl rfl rfl rfl hc rfl ?_
   refine on 4 rfl ?_
   refine rz ?_
   refine cf rfl rfl ?_
   refine awp_skip ?_
   refine cn rfl ?_
   refine seqQ.normal ?_
   refine awp_seq ?_
   refine rn 7 rfl ?_
   obtain ⟨out3, hk, h⟩ := bind_inv h
   refine po (ecallb (nid' := 2) (p_spell_writer_words_ok hk) rfl rfl rfl rfl rfl rfl rfl rfl rfl rfl rfl rfl) rfl rfl ?_
   refine rz ?_
   refine awp_seq ?_
   refine rn 3 rfl ?_
   obtain ⟨y1, hk, h⟩ := bind_inv h
   refine po (elget encNode encNodeR_eq hk rfl rfl rfl rfl rfl) rfl rfl ?_
   refine on 1 rfl ?_
   obtain ⟨⟨out4, nodes1, bad1⟩, hk, h⟩ := bind_inv h
   refine po (ecallb (nid' := 2) (ih_p_spell_writer_expr _ _ hk) rfl rfl rfl rfl rfl rfl rfl rfl rfl rfl rfl rfl) rfl rfl ?_
   refine rz ?_
   refine awp_seq ?_
   refine rn 7 rfl ?_
   obtain ⟨out5, hk, h⟩ := bind_inv h
   refine po (ecallb (nid' := 2) (p_spell_writer_words_ok hk) rfl rfl rfl rfl rfl rfl rfl rfl rfl rfl rfl rfl) rfl rfl ?_
   refine rz ?_
   refine rn 5 rfl ?_
   refine awpO_nil ?_
   cases h
   exact .normal rfl rfl
 ·rintro p_spell_writer_expr' p_spell_writer_operand' ih_p_spell_writer_expr ih_p_spell_writer_operand ⟨n, w⟩ res h
  refine aval_start (tm := [(0, .c (.ptr 0 0)), (1, .d (encNode n))]) (hp := [(0, [.d (.list 1 (List.map D.str w.g.verbs)), .d (.list 1 (List.map D.str w.g.adverbs)), .d (.list 1 (List.map D.str w.g.behind)), .d (.str w.g.outer), .d (.str w.g.power), .d (.str w.g.open_), .d (.str w.g.close), .d (.str w.g.left), .d (.str w.g.right), .d (.str w.g.minus), .d (.str w.g.quote), .d (.bool w.g.trains), .d (.bool w.g.lone), .d (.bool w.g.square), .own 1 (List.map D.str w.out), .d (.str w.right), .d (.int .i64 w.nodes), .d (.bool w.bad)])]) (n := 1) rfl Tryz.func46 rfl rfl rfl rfl rfl rfl ?_
  refine ra (nid' := 2) rfl ?_
  refine ra rfl ?_
  refine awp_block ?_
  refine ra rfl ?_
  rcases ite_inv h with ⟨hc, h⟩ | ⟨hc, h⟩
  ·refine ct rfl hc ?_
   refine awp_seq ?_
   refine drn (m := 14) 6 rfl rfl ?_
   obtain ⟨⟨s, e⟩, hk, h⟩ := bind_inv h
   refine pd (ecall (p_spell_Literal_ok hk) rfl rfl rfl rfl rfl rfl rfl rfl rfl) rfl rfl rfl rfl rfl ?_
   refine don 5 rfl ?_
   refine dz (by kernel_rfl) ?_
   refine awp_seq ?_
   refine rn 6 rfl ?_
   rcases ite_inv h with ⟨hc, h⟩ | ⟨hc, h⟩
   ·refine gt rfl rfl rfl rfl hc rfl ?_
    refine on 6 rfl ?_
    refine rz ?_
    refine awp_seq ?_
    refine rn 2 rfl ?_
    obtain ⟨⟨x, nodes, bad⟩, hk, h⟩ := bind_inv h
    refine po (ecallb (nid' := 14) (p_spell_writer_fits_ok hk) rfl rfl rfl rfl rfl rfl rfl rfl rfl rfl rfl rfl) rfl rfl ?_
    refine rz ?_
    refine rn 3 rfl ?_
    obtain ⟨out, hk, h⟩ := bind_inv h
    refine po (ecallb (nid' := 14) (p_spell_writer_words_ok hk) rfl rfl rfl rfl rfl rfl rfl rfl rfl rfl rfl rfl) rfl rfl ?_
    refine awpO_nil ?_
    refine cn rfl ?_
    refine en rfl ?_
    cases h
    exact .normal rfl rfl
   ·refine gf rfl rfl rfl rfl hc rfl ?_
    refine on 6 rfl ?_
    refine rz ?_
    refine awp_seq ?_
    refine rn 2 rfl ?_
    obtain ⟨⟨x1, nodes1, bad1⟩, hk, h⟩ := bind_inv h
    refine po (ecallb (nid' := 14) (p_spell_writer_fits_ok hk) rfl rfl rfl rfl rfl rfl rfl rfl rfl rfl rfl rfl) rfl rfl ?_
    refine rz ?_
    refine rn 3 rfl ?_
    obtain ⟨out1, hk, h⟩ := bind_inv h
    refine po (ecallb (nid' := 14) (p_spell_writer_words_ok hk) rfl rfl rfl rfl rfl rfl rfl rfl rfl rfl rfl rfl) rfl rfl ?_
    refine awpO_nil ?_
    refine cn rfl ?_
    refine en rfl ?_
    cases h
    exact .normal rfl rfl
  ·refine cf rfl hc ?_
   refine ra rfl ?_
   rcases ite_inv h with ⟨hc, h⟩ | ⟨hc, h⟩
   ·refine ct rfl hc ?_
    refine awp_seq ?_
    refine rn 2 rfl ?_
    obtain ⟨⟨x2, nodes2, bad2⟩, hk, h⟩ := bind_inv h
    refine po (ecallb (nid' := 2) (p_spell_writer_fits_ok hk) rfl rfl rfl rfl rfl rfl rfl rfl rfl rfl rfl rfl) rfl rfl ?_
    refine rz ?_
    refine rn 4 rfl ?_
    obtain ⟨out2, hk, h⟩ := bind_inv h
    refine po (ecallb (nid' := 2) (p_spell_writer_words_ok hk) rfl rfl rfl rfl rfl rfl rfl rfl rfl rfl rfl rfl) rfl rfl ?_
    refine awpO_nil ?_
    refine cn rfl ?_
    refine cn rfl ?_
    refine en rfl ?_
    cases h
    exact .normal rfl rfl
   ·refine cf rfl hc ?_
    refine ra rfl ?_
    rcases ite_inv h with ⟨hc, h⟩ | ⟨hc, h⟩
    ·refine ct rfl hc ?_
     refine awp_seq ?_
     refine rn 2 rfl ?_
     obtain ⟨⟨x3, nodes3, bad3⟩, hk, h⟩ := bind_inv h
     refine po (ecallb (nid' := 2) (p_spell_writer_fits_ok hk) rfl rfl rfl rfl rfl rfl rfl rfl rfl rfl rfl rfl) rfl rfl ?_
     refine rz ?_
     refine rn 7 rfl ?_
     obtain ⟨out3, hk, h⟩ := bind_inv h
     refine po (ecallb (nid' := 2) (p_spell_writer_words_ok hk) rfl rfl rfl rfl rfl rfl rfl rfl rfl rfl rfl rfl) rfl rfl ?_
     refine awpO_nil ?_
     refine cn rfl ?_
     refine cn rfl ?_
     refine cn rfl ?_
     refine en rfl ?_
     cases h
     exact .normal rfl rfl
    ·refine cf rfl hc ?_
     refine ra rfl ?_
     rcases ite_inv h with ⟨hc, h⟩ | ⟨hc, h⟩
     ·refine ct rfl hc ?_
      refine awp_seq ?_
      refine rn 2 rfl ?_
      obtain ⟨⟨x4, nodes4, bad4⟩, hk, h⟩ := bind_inv h
      refine po (ecallb (nid' := 2) (p_spell_writer_fits_ok hk) rfl rfl rfl rfl rfl rfl rfl rfl rfl rfl rfl rfl) rfl rfl ?_
      refine rz ?_
      refine rn 6 rfl ?_
      obtain ⟨out4, hk, h⟩ := bind_inv h
      refine po (ecallb (nid' := 2) (p_spell_writer_words_ok hk) rfl rfl rfl rfl rfl rfl rfl rfl rfl rfl rfl rfl) rfl rfl ?_
      refine awpO_nil ?_
      refine cn rfl ?_
      refine cn rfl ?_
      refine cn rfl ?_
      refine cn rfl ?_
      refine en rfl ?_
      cases h
      exact .normal rfl rfl
     ·refine cf rfl hc ?_
      refine ra rfl ?_
      rcases ite_inv h with ⟨hc, h⟩ | ⟨hc, h⟩
      ·refine ct rfl hc ?_
       refine awp_seq ?_
       refine rn 2 rfl ?_
       obtain ⟨⟨x5, nodes5, bad5⟩, hk, h⟩ := bind_inv h
       refine po (ecallb (nid' := 2) (p_spell_writer_fits_ok hk) rfl rfl rfl rfl rfl rfl rfl rfl rfl rfl rfl rfl) rfl rfl ?_
       refine rz ?_
       rcases ite_inv h with ⟨hc, h⟩ | ⟨hc, h⟩
       ·refine ct rfl hc ?_
        refine awp_seq ?_
        refine rn 3 rfl ?_
        obtain ⟨y, hk, h⟩ := bind_inv h
        refine po (elget encNode encNodeR_eq hk rfl rfl rfl rfl rfl) rfl rfl ?_
        refine on 1 rfl ?_
        obtain ⟨⟨out5, nodes6, bad6⟩, hk, h⟩ := bind_inv h
        refine po (ecallb (nid' := 2) (ih_p_spell_writer_operand _ _ hk) rfl rfl rfl rfl rfl rfl rfl rfl rfl rfl rfl rfl) rfl rfl ?_
        refine rz ?_
        refine awp_seq ?_
        refine rn 2 rfl ?_
        obtain ⟨out6, hk, h⟩ := bind_inv h
        refine po (ecallb (nid' := 2) (p_spell_writer_words_ok hk) rfl rfl rfl rfl rfl rfl rfl rfl rfl rfl rfl rfl) rfl rfl ?_
        refine rz ?_
        refine awp_seq ?_
        refine rn 3 rfl ?_
        obtain ⟨y1, hk, h⟩ := bind_inv h
        refine po (elget encNode encNodeR_eq hk rfl rfl rfl rfl rfl) rfl rfl ?_
        refine on 1 rfl ?_
        obtain ⟨⟨out7, nodes7, bad7⟩, hk, h⟩ := bind_inv h
        refine po (ecallb (nid' := 2) (ih_p_spell_writer_expr _ _ hk) rfl rfl rfl rfl rfl rfl rfl rfl rfl rfl rfl rfl) rfl rfl ?_
        refine rz ?_
        refine rn 2 rfl ?_
        obtain ⟨out8, hk, h⟩ := bind_inv h
        refine po (ecallb (nid' := 2) (p_spell_writer_words_ok hk) rfl rfl rfl rfl rfl rfl rfl rfl rfl rfl rfl rfl) rfl rfl ?_
        refine awpO_nil ?_
        refine cn rfl ?_
        refine cn rfl ?_
        refine cn rfl ?_
        refine cn rfl ?_
        refine cn rfl ?_
        refine cn rfl ?_
        refine en rfl ?_
        cases h
        exact .normal rfl rfl
       ·refine cf rfl hc ?_
        refine awp_skip ?_
        refine cn rfl ?_
        refine cn rfl ?_
        refine cn rfl ?_
        refine cn rfl ?_
        refine cn rfl ?_
        refine cn rfl ?_
        refine en rfl ?_
        cases h
        exact .normal rfl rfl
      ·refine cf rfl hc ?_
       refine awp_seq ?_
       refine ra rfl ?_
       obtain ⟨x6, hs, h⟩ := bind_inv h
       refine awp_nrm (fun (x6 : Bool) => (⟨[(0, .c (.ptr 0 0)), (3, .c (.ptr 1 0)), (99, .d (.bool x6))], [(1, [.d (.int .i64 n.kind), .d (.int .i64 n.op_), .d (.str n.name), .d (.list 1 (List.map (D.int .i64) n.lit.shape)), .d (.list 3 (List.map encCell n.lit.cells)), .d (.list 7 (List.map encNodeR n.kids)), .d (.int .i64 n.at_)]), (0, [.d (.list 1 (List.map D.str w.g.verbs)), .d (.list 1 (List.map D.str w.g.adverbs)), .d (.list 1 (List.map D.str w.g.behind)), .d (.str w.g.outer), .d (.str w.g.power), .d (.str w.g.open_), .d (.str w.g.close), .d (.str w.g.left), .d (.str w.g.right), .d (.str w.g.minus), .d (.str w.g.quote), .d (.bool w.g.trains), .d (.bool w.g.lone), .d (.bool w.g.square), .own 1 (List.map D.str w.out), .d (.str w.right), .d (.int .i64 w.nodes), .d (.bool w.bad)])], 2, [], none⟩ : St)) (y := x6) ?_ ?_
       ·replace h := hs
        rcases ite_inv h with ⟨hc, h⟩ | ⟨hc, h⟩
        ·refine ct rfl hc ?_
         refine awp_skip ?_
         refine cn rfl ?_
         cases h
         exact .ok rfl
        ·refine cf rfl hc ?_
         refine rn 2 rfl ?_
         refine awpO_nil ?_
         refine cn rfl ?_
         cases h
         exact .ok rfl
       ·refine seqQ.normal ?_
        rcases ite_inv h with ⟨hc, h⟩ | ⟨hc, h⟩
        ·refine ct rfl hc ?_
         refine awp_seq ?_
         refine rn 2 rfl ?_
         obtain ⟨out9, hk, h⟩ := bind_inv h
         refine po (ecallb (nid' := 2) (p_spell_writer_words_ok hk) rfl rfl rfl rfl rfl rfl rfl rfl rfl rfl rfl rfl) rfl rfl ?_
         refine rz ?_
         refine awp_seq ?_
         refine rn 2 rfl ?_
         obtain ⟨⟨out10, nodes8, bad8⟩, hk, h⟩ := bind_inv h
         refine po (ecallb (nid' := 2) (ih_p_spell_writer_expr _ _ hk) rfl rfl rfl rfl rfl rfl rfl rfl rfl rfl rfl rfl) rfl rfl ?_
         refine rz ?_
         refine rn 2 rfl ?_
         obtain ⟨out11, hk, h⟩ := bind_inv h
         refine po (ecallb (nid' := 2) (p_spell_writer_words_ok hk) rfl rfl rfl rfl rfl rfl rfl rfl rfl rfl rfl rfl) rfl rfl ?_
         refine awpO_nil ?_
         refine cn rfl ?_
         refine cn rfl ?_
         refine cn rfl ?_
         refine cn rfl ?_
         refine cn rfl ?_
         refine cn rfl ?_
         refine en rfl ?_
         cases h
         exact .normal rfl rfl
        ·refine cf rfl hc ?_
         refine rn 4 rfl ?_
         refine awpO_nil ?_
         refine cn rfl ?_
         refine cn rfl ?_
         refine cn rfl ?_
         refine cn rfl ?_
         refine cn rfl ?_
         refine cn rfl ?_
         refine en rfl ?_
         cases h
         exact .normal rfl rfl
 ·rintro p_spell_writer_applied' p_spell_writer_function' ih_p_spell_writer_applied ih_p_spell_writer_function ⟨f, w⟩ res h
  refine aval_start (tm := [(0, .c (.ptr 0 0)), (1, .d (encNode f))]) (hp := [(0, [.d (.list 1 (List.map D.str w.g.verbs)), .d (.list 1 (List.map D.str w.g.adverbs)), .d (.list 1 (List.map D.str w.g.behind)), .d (.str w.g.outer), .d (.str w.g.power), .d (.str w.g.open_), .d (.str w.g.close), .d (.str w.g.left), .d (.str w.g.right), .d (.str w.g.minus), .d (.str w.g.quote), .d (.bool w.g.trains), .d (.bool w.g.lone), .d (.bool w.g.square), .own 1 (List.map D.str w.out), .d (.str w.right), .d (.int .i64 w.nodes), .d (.bool w.bad)])]) (n := 1) rfl Tryz.func45 rfl rfl rfl rfl rfl rfl ?_
  refine ra (nid' := 2) rfl ?_
  refine awp_seq ?_
  refine awp_seq ?_
  refine rn 6 rfl ?_
  rcases ite_inv h with ⟨hc, h⟩ | ⟨hc, h⟩
  ·refine gt rfl rfl rfl rfl hc rfl ?_
   refine on 4 rfl ?_
   refine rz ?_
   rcases ite_inv h with ⟨hc, h⟩ | ⟨hc, h⟩
   ·refine ct rfl hc ?_
    refine awp_seq ?_
    refine awp_seq ?_
    refine rn 2 rfl ?_
    obtain ⟨⟨x, nodes, bad⟩, hk, h⟩ := bind_inv h
    refine po (ecallb (nid' := 2) (p_spell_writer_fits_ok hk) rfl rfl rfl rfl rfl rfl rfl rfl rfl rfl rfl rfl) rfl rfl ?_
    refine rz ?_
    obtain ⟨⟨x14, x16, x17⟩, hs, h⟩ := bind_inv h
    refine awp_nrm (fun ((x14, x16, x17) : (List Str) × Int × Bool) => (⟨[], [(1, [.d (.int .i64 f.kind), .d (.int .i64 f.op_), .d (.str f.name), .d (.list 1 (List.map (D.int .i64) f.lit.shape)), .d (.list 3 (List.map encCell f.lit.cells)), .d (.list 7 (List.map encNodeR f.kids)), .d (.int .i64 f.at_)]), (0, [.d (.list 1 (List.map D.str w.g.verbs)), .d (.list 1 (List.map D.str w.g.adverbs)), .d (.list 1 (List.map D.str w.g.behind)), .d (.str w.g.outer), .d (.str w.g.power), .d (.str w.g.open_), .d (.str w.g.close), .d (.str w.g.left), .d (.str w.g.right), .d (.str w.g.minus), .d (.str w.g.quote), .d (.bool w.g.trains), .d (.bool w.g.lone), .d (.bool w.g.square), .own 1 (List.map D.str x14), .d (.str w.right), .d (.int .i64 x16), .d (.bool x17)])], 2, [], none⟩ : St)) (y := (x14, x16, x17)) ?_ ?_
    ·replace h := hs
     rcases ite_inv h with ⟨hc, h⟩ | ⟨hc, h⟩
     ·refine ct rfl hc ?_
      refine awp_seq ?_
      refine drn (m := 13) 8 rfl rfl ?_
      obtain ⟨x1, hk, h⟩ := bind_inv h
      refine pd (ecall (p_spell_Number_ok hk) rfl rfl rfl rfl rfl rfl rfl rfl rfl) rfl rfl rfl rfl rfl ?_
      refine don 1 rfl ?_
      obtain ⟨out, hk, h⟩ := bind_inv h
      refine pd (ecallb (nid' := 13) (p_spell_writer_words_ok hk) rfl rfl rfl rfl rfl rfl rfl rfl rfl rfl rfl rfl) rfl rfl rfl rfl rfl ?_
      refine dz (by kernel_rfl) ?_
      refine awp_seq ?_
      refine rn 3 rfl ?_
      obtain ⟨y, hk, h⟩ := bind_inv h
      refine po (elget encNode encNodeR_eq hk rfl rfl rfl rfl rfl) rfl rfl ?_
      refine on 1 rfl ?_
      obtain ⟨⟨out1, nodes1, bad1⟩, hk, h⟩ := bind_inv h
      refine po (ecallb (nid' := 13) (ih_p_spell_writer_function _ _ hk) rfl rfl rfl rfl rfl rfl rfl rfl rfl rfl rfl rfl) rfl rfl ?_
      refine rz ?_
      refine rn 2 rfl ?_
      obtain ⟨out2, hk, h⟩ := bind_inv h
      refine po (ecallb (nid' := 13) (p_spell_writer_glue_ok hk) rfl rfl rfl rfl rfl rfl rfl rfl rfl rfl rfl rfl) rfl rfl ?_
      refine awpO_nil ?_
      refine cn rfl ?_
      cases h
      exact .ok rfl
     ·refine cf rfl hc ?_
      refine awp_skip ?_
      refine cn rfl ?_
      cases h
      exact .ok rfl
    ·refine seqQ.normal ?_
     refine awp_ret ?_
     refine condQ.ret ?_
     refine seqQ.ret ?_
     cases h
     exact .ret rfl rfl
   ·refine cf rfl hc ?_
    refine awp_skip ?_
    refine cn rfl ?_
    refine seqQ.normal ?_
    refine rn 2 rfl ?_
    obtain ⟨⟨out3, nodes2, bad2⟩, hk, h⟩ := bind_inv h
    refine po (ecallb (nid' := 2) (ih_p_spell_writer_applied _ _ hk) rfl rfl rfl rfl rfl rfl rfl rfl rfl rfl rfl rfl) rfl rfl ?_
    refine awpO_nil ?_
    cases h
    exact .normal rfl rfl
  ·refine gf rfl rfl rfl rfl hc rfl ?_
   refine on 4 rfl ?_
   refine rz ?_
   refine cf rfl rfl ?_
   refine awp_skip ?_
   refine cn rfl ?_
   refine seqQ.normal ?_
   refine rn 2 rfl ?_
   obtain ⟨⟨out4, nodes3, bad3⟩, hk, h⟩ := bind_inv h
   refine po (ecallb (nid' := 2) (ih_p_spell_writer_applied _ _ hk) rfl rfl rfl rfl rfl rfl rfl rfl rfl rfl rfl rfl) rfl rfl ?_
   refine awpO_nil ?_
   cases h
   exact .normal rfl rfl
theorem p_spell_writer_expr_ih : ∀ a res, p_spell_writer_expr a = some res → Mp_spell_writer_expr a res := p_spell_writer_expr_grp.1
theorem p_spell_writer_expr_ok {a : Node × Spell_writer} {res : (List Str) × Int × Bool} (h : p_spell_writer_expr a = some res) : Mp_spell_writer_expr a res := p_spell_writer_expr_ih a res h
theorem p_spell_Write_ok {g : Grammar} {n : Node} {r : Str × Int} (h : p_spell_Write g n = some r) : aval X 12 [.d (encGrammar g), .d (encNode n)] [] (CRes.ret (.tuple [.d (.str r.1), .d (.int .i64 r.2)]) []) := by
 unfold p_spell_Write at h
 refine aval_start (tm := [(0, .d (encGrammar g)), (1, .d (encNode n))]) (hp := []) (n := 0) rfl Tryz.func12 rfl rfl rfl rfl rfl rfl ?_
 refine ra (nid' := 2) rfl ?_
 refine ra (nid' := 3) rfl ?_
 refine awp_seq ?_
 refine rn 2 rfl ?_
 obtain ⟨⟨out, nodes, bad⟩, hk, h⟩ := bind_inv h
 refine po (ecallb (nid' := 3) (p_spell_writer_expr_ok hk) rfl rfl rfl rfl rfl rfl rfl rfl rfl rfl rfl rfl) rfl rfl ?_
 refine rz ?_
 refine awp_seq ?_
 refine ra rfl ?_
 rcases ite_inv h with ⟨hc, h⟩ | ⟨hc, h⟩
 ·refine ct rfl hc ?_
  refine ra rfl ?_
  refine awp_ret ?_
  refine condQ.ret ?_
  refine seqQ.ret ?_
  cases h
  exact .ret rfl rfl
 ·refine cf rfl hc ?_
  refine awp_skip ?_
  refine cn rfl ?_
  refine seqQ.normal ?_
  refine awp_seq ?_
  refine rn 4 rfl ?_
  obtain ⟨x, hk, h⟩ := bind_inv h
  refine po (ecall (go_Join_ok hk) rfl rfl rfl rfl rfl rfl rfl rfl rfl) rfl rfl ?_
  refine on 2 rfl ?_
  refine rz ?_
  refine awp_ret ?_
  cases h
  exact .ret rfl rfl
theorem p_jay_Print_ok {p : Prgm} {r : Str × Int} (h : p_jay_Print p = some r) : aval X 6 [.d (encPrgm p)] [] (CRes.ret (.tuple [.d (.str r.1), .d (.int .i64 r.2)]) []) := by
 unfold p_jay_Print at h
 refine aval_start (tm := [(0, .d (encPrgm p))]) (hp := []) (n := 0) rfl Tryz.func6 rfl rfl rfl rfl rfl rfl ?_
 refine ra (nid' := 1) rfl ?_
 refine awp_seq ?_
 refine awp_seq ?_
 refine rn 4 rfl ?_
 rcases ite_inv h with ⟨hc, h⟩ | ⟨hc, h⟩
 ·refine gt rfl rfl rfl rfl hc rfl ?_
  refine on 2 rfl ?_
  obtain ⟨x, hk, h⟩ := bind_inv h
  refine po (ecall (p_core_Name_ok hk) rfl rfl rfl rfl rfl rfl rfl rfl rfl) rfl rfl ?_
  refine on 3 rfl ?_
  rcases ite_inv h with ⟨hc, h⟩ | ⟨hc, h⟩
  ·refine gt rfl rfl rfl rfl hc rfl ?_
   refine on 4 rfl ?_
   refine rz ?_
   refine ct rfl rfl ?_
   refine ra rfl ?_
   refine awp_ret ?_
   refine condQ.ret ?_
   refine seqQ.ret ?_
   cases h
   exact .ret rfl rfl
  ·refine gf rfl rfl rfl rfl hc rfl ?_
   refine on 4 rfl ?_
   refine rz ?_
   rcases ite_inv h with ⟨hc, h⟩ | ⟨hc, h⟩
   ·refine ct rfl hc ?_
    refine ra rfl ?_
    refine awp_ret ?_
    refine condQ.ret ?_
    refine seqQ.ret ?_
    cases h
    exact .ret rfl rfl
   ·refine cf rfl hc ?_
    refine awp_skip ?_
    refine cn rfl ?_
    refine seqQ.normal ?_
    refine awp_seq ?_
    refine drn (m := 10) 0 rfl rfl ?_
    obtain ⟨x1, hk, h⟩ := bind_inv h
    refine pd (ecall (p_jay_Grammar_ok hk) rfl rfl rfl rfl rfl rfl rfl rfl rfl) rfl rfl rfl rfl rfl ?_
    refine don 2 rfl ?_
    obtain ⟨⟨s, e⟩, hk, h⟩ := bind_inv h
    refine pd (ecall (p_spell_Write_ok hk) rfl rfl rfl rfl rfl rfl rfl rfl rfl) rfl rfl rfl rfl rfl ?_
    refine don 5 rfl ?_
    refine dz (by kernel_rfl) ?_
    refine awp_seq ?_
    refine ra rfl ?_
    rcases ite_inv h with ⟨hc, h⟩ | ⟨hc, h⟩
    ·refine ct rfl hc ?_
     refine ra rfl ?_
     refine awp_ret ?_
     refine condQ.ret ?_
     refine seqQ.ret ?_
     cases h
     exact .ret rfl rfl
    ·refine cf rfl hc ?_
     refine awp_skip ?_
     refine cn rfl ?_
     refine seqQ.normal ?_
     refine awp_seq ?_
     refine ra rfl ?_
     obtain ⟨s3, hs, h⟩ := bind_inv h
     refine awp_nrm (fun (s3 : Str) => (⟨[(1, .c (.ptr 0 0)), (4, .d (.str s3))], [(0, [.d (.str p.set_), .d (.int .i64 p.origin), .d (.int .i64 p.expr.kind), .d (.int .i64 p.expr.op_), .d (.str p.expr.name), .d (.list 1 (List.map (D.int .i64) p.expr.lit.shape)), .d (.list 3 (List.map encCell p.expr.lit.cells)), .d (.list 7 (List.map encNodeR p.expr.kids)), .d (.int .i64 p.expr.at_)])], 10, [], none⟩ : St)) (y := s3) ?_ ?_
     ·replace h := hs
      rcases ite_inv h with ⟨hc, h⟩ | ⟨hc, h⟩
      ·refine ct rfl hc ?_
       refine rn 2 rfl ?_
       obtain ⟨s1, hk, h⟩ := bind_inv h
       refine po (escat hk rfl rfl rfl) rfl rfl ?_
       refine on 1 rfl ?_
       obtain ⟨s2, hk, h⟩ := bind_inv h
       refine po (escat hk rfl rfl rfl) rfl rfl ?_
       refine on 1 rfl ?_
       refine awpO_nil ?_
       refine cn rfl ?_
       cases h
       exact .ok rfl
      ·refine cf rfl hc ?_
       refine awp_skip ?_
       refine cn rfl ?_
       cases h
       exact .ok rfl
     ·refine seqQ.normal ?_
      refine awp_seq ?_
      refine awp_seq ?_
      refine rn 1 rfl ?_
      obtain ⟨⟨x2, x3⟩, hk, h⟩ := bind_inv h
      refine po (ecall (p_jay_Parse_ok hk) rfl rfl rfl rfl rfl rfl rfl rfl rfl) rfl rfl ?_
      refine on (nid' := 12) 7 rfl ?_
      refine rz ?_
      refine awp_seq ?_
      refine rn 4 rfl ?_
      rcases ite_inv h with ⟨hc, h⟩ | ⟨hc, h⟩
      ·refine gt rfl rfl rfl rfl hc rfl ?_
       refine on 21 rfl ?_
       refine rz ?_
       refine ct rfl rfl ?_
       refine ra rfl ?_
       refine awp_ret ?_
       refine condQ.ret ?_
       refine seqQ.ret ?_
       cases h
       exact .ret rfl rfl
      ·refine gf rfl rfl rfl rfl hc rfl ?_
       refine on 7 rfl ?_
       rcases ite_inv h with ⟨hc, h⟩ | ⟨hc, h⟩
       ·refine gt rfl rfl rfl rfl hc rfl ?_
        refine on 14 rfl ?_
        refine rz ?_
        refine ct rfl rfl ?_
        refine ra rfl ?_
        refine awp_ret ?_
        refine condQ.ret ?_
        refine seqQ.ret ?_
        cases h
        exact .ret rfl rfl
       ·refine gf rfl rfl rfl rfl hc rfl ?_
        refine on 7 rfl ?_
        rcases ite_inv h with ⟨hc, h⟩ | ⟨hc, h⟩
        ·refine gt rfl rfl rfl rfl hc rfl ?_
         refine on 7 rfl ?_
         refine rz ?_
         refine ct rfl rfl ?_
         refine ra rfl ?_
         refine awp_ret ?_
         refine condQ.ret ?_
         refine seqQ.ret ?_
         cases h
         exact .ret rfl rfl
        ·refine gf rfl rfl rfl rfl hc rfl ?_
         refine on 4 rfl ?_
         obtain ⟨x4, hk, h⟩ := bind_inv h
         refine po (ecall (p_core_Same_ok hk) rfl rfl rfl rfl rfl rfl rfl rfl rfl) rfl rfl ?_
         refine on 2 rfl ?_
         refine rz ?_
         rcases ite_inv h with ⟨hc, h⟩ | ⟨hc, h⟩
         ·refine ct rfl hc ?_
          refine ra rfl ?_
          refine awp_ret ?_
          refine condQ.ret ?_
          refine seqQ.ret ?_
          cases h
          exact .ret rfl rfl
         ·refine cf rfl hc ?_
          refine awp_skip ?_
          refine cn rfl ?_
          refine seqQ.normal ?_
          refine ra rfl ?_
          refine awp_ret ?_
          cases h
          exact .ret rfl rfl
 ·refine gf rfl rfl rfl rfl hc rfl ?_
  refine on 10 rfl ?_
  refine rz ?_
  rcases ite_inv h with ⟨hc, h⟩ | ⟨hc, h⟩
  ·refine ct rfl hc ?_
   refine ra rfl ?_
   refine awp_ret ?_
   refine condQ.ret ?_
   refine seqQ.ret ?_
   cases h
   exact .ret rfl rfl
  ·refine cf rfl hc ?_
   refine awp_skip ?_
   refine cn rfl ?_
   refine seqQ.normal ?_
   refine awp_seq ?_
   refine drn (m := 10) 0 rfl rfl ?_
   obtain ⟨x5, hk, h⟩ := bind_inv h
   refine pd (ecall (p_jay_Grammar_ok hk) rfl rfl rfl rfl rfl rfl rfl rfl rfl) rfl rfl rfl rfl rfl ?_
   refine don 2 rfl ?_
   obtain ⟨⟨s4, e1⟩, hk, h⟩ := bind_inv h
   refine pd (ecall (p_spell_Write_ok hk) rfl rfl rfl rfl rfl rfl rfl rfl rfl) rfl rfl rfl rfl rfl ?_
   refine don 5 rfl ?_
   refine dz (by kernel_rfl) ?_
   refine awp_seq ?_
   refine ra rfl ?_
   rcases ite_inv h with ⟨hc, h⟩ | ⟨hc, h⟩
   ·refine ct rfl hc ?_
    refine ra rfl ?_
    refine awp_ret ?_
    refine condQ.ret ?_
    refine seqQ.ret ?_
    cases h
    exact .ret rfl rfl
   ·refine cf rfl hc ?_
    refine awp_skip ?_
    refine cn rfl ?_
    refine seqQ.normal ?_
    refine awp_seq ?_
    refine ra rfl ?_
    obtain ⟨s7, hs, h⟩ := bind_inv h
    refine awp_nrm (fun (s7 : Str) => (⟨[(1, .c (.ptr 0 0)), (4, .d (.str s7))], [(0, [.d (.str p.set_), .d (.int .i64 p.origin), .d (.int .i64 p.expr.kind), .d (.int .i64 p.expr.op_), .d (.str p.expr.name), .d (.list 1 (List.map (D.int .i64) p.expr.lit.shape)), .d (.list 3 (List.map encCell p.expr.lit.cells)), .d (.list 7 (List.map encNodeR p.expr.kids)), .d (.int .i64 p.expr.at_)])], 10, [], none⟩ : St)) (y := s7) ?_ ?_
    ·replace h := hs
     rcases ite_inv h with ⟨hc, h⟩ | ⟨hc, h⟩
     ·refine ct rfl hc ?_
      refine rn 2 rfl ?_
      obtain ⟨s5, hk, h⟩ := bind_inv h
      refine po (escat hk rfl rfl rfl) rfl rfl ?_
      refine on 1 rfl ?_
      obtain ⟨s6, hk, h⟩ := bind_inv h
      refine po (escat hk rfl rfl rfl) rfl rfl ?_
      refine on 1 rfl ?_
      refine awpO_nil ?_
      refine cn rfl ?_
      cases h
      exact .ok rfl
     ·refine cf rfl hc ?_
      refine awp_skip ?_
      refine cn rfl ?_
      cases h
      exact .ok rfl
    ·refine seqQ.normal ?_
     refine awp_seq ?_
     refine awp_seq ?_
     refine rn 1 rfl ?_
     obtain ⟨⟨x6, x7⟩, hk, h⟩ := bind_inv h
     refine po (ecall (p_jay_Parse_ok hk) rfl rfl rfl rfl rfl rfl rfl rfl rfl) rfl rfl ?_
     refine on (nid' := 12) 7 rfl ?_
     refine rz ?_
     refine awp_seq ?_
     refine rn 4 rfl ?_
     rcases ite_inv h with ⟨hc, h⟩ | ⟨hc, h⟩
     ·refine gt rfl rfl rfl rfl hc rfl ?_
      refine on 21 rfl ?_
      refine rz ?_
      refine ct rfl rfl ?_
      refine ra rfl ?_
      refine awp_ret ?_
      refine condQ.ret ?_
      refine seqQ.ret ?_
      cases h
      exact .ret rfl rfl
     ·refine gf rfl rfl rfl rfl hc rfl ?_
      refine on 7 rfl ?_
      rcases ite_inv h with ⟨hc, h⟩ | ⟨hc, h⟩
      ·refine gt rfl rfl rfl rfl hc rfl ?_
       refine on 14 rfl ?_
       refine rz ?_
       refine ct rfl rfl ?_
       refine ra rfl ?_
       refine awp_ret ?_
       refine condQ.ret ?_
       refine seqQ.ret ?_
       cases h
       exact .ret rfl rfl
      ·refine gf rfl rfl rfl rfl hc rfl ?_
       refine on 7 rfl ?_
       rcases ite_inv h with ⟨hc, h⟩ | ⟨hc, h⟩
       ·refine gt rfl rfl rfl rfl hc rfl ?_
        refine on 7 rfl ?_
        refine rz ?_
        refine ct rfl rfl ?_
        refine ra rfl ?_
        refine awp_ret ?_
        refine condQ.ret ?_
        refine seqQ.ret ?_
        cases h
        exact .ret rfl rfl
       ·refine gf rfl rfl rfl rfl hc rfl ?_
        refine on 4 rfl ?_
        obtain ⟨x8, hk, h⟩ := bind_inv h
        refine po (ecall (p_core_Same_ok hk) rfl rfl rfl rfl rfl rfl rfl rfl rfl) rfl rfl ?_
        refine on 2 rfl ?_
        refine rz ?_
        rcases ite_inv h with ⟨hc, h⟩ | ⟨hc, h⟩
        ·refine ct rfl hc ?_
         refine ra rfl ?_
         refine awp_ret ?_
         refine condQ.ret ?_
         refine seqQ.ret ?_
         cases h
         exact .ret rfl rfl
        ·refine cf rfl hc ?_
         refine awp_skip ?_
         refine cn rfl ?_
         refine seqQ.normal ?_
         refine ra rfl ?_
         refine awp_ret ?_
         cases h
         exact .ret rfl rfl
theorem p_triglyphref03_ints_ok {a_ : Int} {b : Int} {r : Int} (h : p_triglyphref03_ints a_ b = some r) : aval X 52 [.d (.int .i64 a_), .d (.int .i64 b)] [] (CRes.ret (.d (.int .i64 r)) []) := by
 unfold p_triglyphref03_ints at h
 refine aval_start (tm := [(0, .d (.int .i64 a_)), (1, .d (.int .i64 b))]) (hp := []) (n := 0) rfl Tryz.func52 rfl rfl rfl rfl rfl rfl ?_
 refine ra rfl ?_
 refine awp_seq ?_
 refine ra rfl ?_
 rcases ite_inv h with ⟨hc, h⟩ | ⟨hc, h⟩
 ·refine ct rfl hc ?_
  refine ra rfl ?_
  refine awp_ret ?_
  refine condQ.ret ?_
  refine seqQ.ret ?_
  cases h
  exact .ret rfl rfl
 ·refine cf rfl hc ?_
  refine awp_skip ?_
  refine cn rfl ?_
  refine seqQ.normal ?_
  refine awp_seq ?_
  refine ra rfl ?_
  rcases ite_inv h with ⟨hc, h⟩ | ⟨hc, h⟩
  ·refine ct rfl hc ?_
   refine ra rfl ?_
   refine awp_ret ?_
   refine condQ.ret ?_
   refine seqQ.ret ?_
   cases h
   exact .ret rfl rfl
  ·refine cf rfl hc ?_
   refine awp_skip ?_
   refine cn rfl ?_
   refine seqQ.normal ?_
   refine ra rfl ?_
   refine awp_ret ?_
   cases h
   exact .ret rfl rfl
abbrev Mp_triglyphref03_Cmp_l0 (a : Arr × Arr × Int × Int) (res : Int) : Prop := match a with | (a_, b, o1, i) => awpL X 24 (codeAt [1, 1, 0, 1, 0, 0] (bodyOf Tryz.f24)) (cleanAt (X.H 24 3) 2) (exitQ 0 (X.H 24 1000000) 2 (NrmQ (fun (o3 : Int) => (⟨[(2, .c (.ptr 0 0)), (3, .c (.ptr 1 0)), (5, .d (.int .i64 o3))], [(1, [.d (.list 1 (List.map (D.int .i64) b.shape)), .d (.list 3 (List.map encCell b.cells))]), (0, [.d (.list 1 (List.map (D.int .i64) a_.shape)), .d (.list 3 (List.map encCell a_.cells))])], 2, [], none⟩ : St)) res)) ⟨[(2, .c (.ptr 0 0)), (3, .c (.ptr 1 0)), (5, .d (.int .i64 o1)), (6, .d (.int .i64 i))], [(1, [.d (.list 1 (List.map (D.int .i64) b.shape)), .d (.list 3 (List.map encCell b.cells))]), (0, [.d (.list 1 (List.map (D.int .i64) a_.shape)), .d (.list 3 (List.map encCell a_.cells))])], 2, [], none⟩
theorem p_triglyphref03_Cmp_l0_ih : ∀ a res, p_triglyphref03_Cmp_l0 a = some res → Mp_triglyphref03_Cmp_l0 a res := by
 refine p_triglyphref03_Cmp_l0.partial_correctness Mp_triglyphref03_Cmp_l0 ?_
 rintro p_triglyphref03_Cmp_l0' ih_p_triglyphref03_Cmp_l0 ⟨a_, b, o1, i⟩ res h
 refine lg rfl ?_
 refine awp_seq ?_
 refine awp_seq ?_
 refine rn 3 rfl ?_
 refine po (ellen rfl rfl rfl rfl rfl rfl rfl) rfl rfl ?_
 refine on 2 rfl ?_
 rcases ite_inv h with ⟨hc, h⟩ | ⟨hc, h⟩
 ·refine gt rfl rfl rfl rfl hc rfl ?_
  refine on 3 rfl ?_
  refine rz ?_
  rcases ite_inv h with ⟨hc, h⟩ | ⟨hc, h⟩
  ·refine ct rfl hc ?_
   refine awp_skip ?_
   refine cn rfl ?_
   refine seqQ.normal ?_
   refine awp_seq ?_
   refine awp_block ?_
   refine drn (m := 14) 3 rfl rfl ?_
   obtain ⟨y, hk, h⟩ := bind_inv h
   refine pd (elget (D.int .i64) (fun _ => rfl) hk rfl rfl rfl rfl rfl) rfl rfl rfl rfl rfl ?_
   refine don 4 rfl ?_
   obtain ⟨y1, hk, h⟩ := bind_inv h
   refine pd (elget (D.int .i64) (fun _ => rfl) hk rfl rfl rfl rfl rfl) rfl rfl rfl rfl rfl ?_
   refine don 1 rfl ?_
   obtain ⟨o2, hk, h⟩ := bind_inv h
   refine pd (ecall (p_triglyphref03_ints_ok hk) rfl rfl rfl rfl rfl rfl rfl rfl rfl) rfl rfl rfl rfl rfl ?_
   refine don 1 rfl ?_
   refine dz' (by kernel_rfl) ?_
   refine en rfl ?_
   refine seqQ.normal ?_
   refine rn 3 rfl ?_
   refine awpO_nil ?_
   refine loopQ.normal ?_
   exact awpL_at rfl rfl (ih_p_triglyphref03_Cmp_l0 _ _ h)
  ·refine cf rfl hc ?_
   refine awp_exit ?_
   refine condQ.exit ?_
   refine seqQ.exit ?_
   refine loopQ.exit ?_
   refine eh rfl ?_
   cases h
   exact .ok rfl
 ·refine gf rfl rfl rfl rfl hc rfl ?_
  refine on 3 rfl ?_
  refine rz ?_
  refine cf rfl rfl ?_
  refine awp_exit ?_
  refine condQ.exit ?_
  refine seqQ.exit ?_
  refine loopQ.exit ?_
  refine eh rfl ?_
  cases h
  exact .ok rfl
abbrev Mp_triglyphref03_Cmp_l1 (a : Arr × Arr × Int × Int) (res : Int) : Prop := match a with | (a_, b, o4, i1) => awpL X 24 (codeAt [1, 1, 1, 0, 1, 0, 0] (bodyOf Tryz.f24)) (cleanAt (X.H 24 7) 2) (exitQ 2 (X.H 24 1000002) 2 (NrmQ (fun (o6 : Int) => (⟨[(2, .c (.ptr 0 0)), (3, .c (.ptr 1 0)), (5, .d (.int .i64 o6))], [(1, [.d (.list 1 (List.map (D.int .i64) b.shape)), .d (.list 3 (List.map encCell b.cells))]), (0, [.d (.list 1 (List.map (D.int .i64) a_.shape)), .d (.list 3 (List.map encCell a_.cells))])], 2, [], none⟩ : St)) res)) ⟨[(2, .c (.ptr 0 0)), (3, .c (.ptr 1 0)), (5, .d (.int .i64 o4)), (7, .d (.int .i64 i1))], [(1, [.d (.list 1 (List.map (D.int .i64) b.shape)), .d (.list 3 (List.map encCell b.cells))]), (0, [.d (.list 1 (List.map (D.int .i64) a_.shape)), .d (.list 3 (List.map encCell a_.cells))])], 2, [], none⟩
abbrev Mp_triglyphref03_Cmp (a : Arr × Arr) (res : Int) : Prop := match a with | (a_, b) => aval X 24 [.d (encArr a_), .d (encArr b)] [] (CRes.ret (.d (.int .i64 res)) [])
abbrev Mp_triglyphref03_Cell (a : Cell × Cell) (res : Int) : Prop := match a with | (a_, b) => aval X 53 [.d (encCell a_), .d (encCell b)] [] (CRes.ret (.d (.int .i64 res)) [])
theorem p_triglyphref03_Cmp_l1_grp : (∀ a res, p_triglyphref03_Cmp_l1 a = some res → Mp_triglyphref03_Cmp_l1 a res) ∧ (∀ a res, p_triglyphref03_Cell a = some res → Mp_triglyphref03_Cell a res) ∧ (∀ a res, p_triglyphref03_Cmp a = some res → Mp_triglyphref03_Cmp a res) := by
 refine p_triglyphref03_Cmp_l1.mutual_partial_correctness (motive_1 := Mp_triglyphref03_Cmp_l1) (motive_2 := Mp_triglyphref03_Cell) (motive_3 := Mp_triglyphref03_Cmp) ?_ ?_ ?_
 ·rintro p_triglyphref03_Cmp_l1' p_triglyphref03_Cell' ih_p_triglyphref03_Cmp_l1 ih_p_triglyphref03_Cell ⟨a_, b, o4, i1⟩ res h
  refine lg rfl ?_
  refine awp_seq ?_
  refine awp_seq ?_
  refine rn 3 rfl ?_
  refine po (ellen rfl rfl rfl rfl rfl rfl rfl) rfl rfl ?_
  refine on 2 rfl ?_
  rcases ite_inv h with ⟨hc, h⟩ | ⟨hc, h⟩
  ·refine gt rfl rfl rfl rfl hc rfl ?_
   refine on 3 rfl ?_
   refine po (ellen rfl rfl rfl rfl rfl rfl rfl) rfl rfl ?_
   refine on 3 rfl ?_
   rcases ite_inv h with ⟨hc, h⟩ | ⟨hc, h⟩
   ·refine gt rfl rfl rfl rfl hc rfl ?_
    refine on 3 rfl ?_
    refine rz ?_
    rcases ite_inv h with ⟨hc, h⟩ | ⟨hc, h⟩
    ·refine ct rfl hc ?_
     refine awp_skip ?_
     refine cn rfl ?_
     refine seqQ.normal ?_
     refine awp_seq ?_
     refine awp_block ?_
     refine drn (m := 14) 3 rfl rfl ?_
     obtain ⟨y2, hk, h⟩ := bind_inv h
     refine pd (elget encCell (fun _ => rfl) hk rfl rfl rfl rfl rfl) rfl rfl rfl rfl rfl ?_
     refine don 4 rfl ?_
     obtain ⟨y3, hk, h⟩ := bind_inv h
     refine pd (elget encCell (fun _ => rfl) hk rfl rfl rfl rfl rfl) rfl rfl rfl rfl rfl ?_
     refine don 1 rfl ?_
     obtain ⟨o5, hk, h⟩ := bind_inv h
     refine pd (ecall (ih_p_triglyphref03_Cell _ _ hk) rfl rfl rfl rfl rfl rfl rfl rfl rfl) rfl rfl rfl rfl rfl ?_
     refine don 1 rfl ?_
     refine dz' (by kernel_rfl) ?_
     refine en rfl ?_
     refine seqQ.normal ?_
     refine rn 3 rfl ?_
     refine awpO_nil ?_
     refine loopQ.normal ?_
     exact awpL_at rfl rfl (ih_p_triglyphref03_Cmp_l1 _ _ h)
    ·refine cf rfl hc ?_
     refine awp_exit ?_
     refine condQ.exit ?_
     refine seqQ.exit ?_
     refine loopQ.exit ?_
     refine eh rfl ?_
     cases h
     exact .ok rfl
   ·refine gf rfl rfl rfl rfl hc rfl ?_
    refine on 3 rfl ?_
    refine rz ?_
    refine cf rfl rfl ?_
    refine awp_exit ?_
    refine condQ.exit ?_
    refine seqQ.exit ?_
    refine loopQ.exit ?_
    refine eh rfl ?_
    cases h
    exact .ok rfl
  ·refine gf rfl rfl rfl rfl hc rfl ?_
   refine on 10 rfl ?_
   refine rz ?_
   refine cf rfl rfl ?_
   refine awp_exit ?_
   refine condQ.exit ?_
   refine seqQ.exit ?_
   refine loopQ.exit ?_
   refine eh rfl ?_
   cases h
   exact .ok rfl
 ·rintro p_triglyphref03_Cmp' ih_p_triglyphref03_Cmp ⟨a_, b⟩ res h
  refine aval_start (tm := [(0, .d (encCell a_)), (1, .d (encCell b))]) (hp := []) (n := 0) rfl Tryz.func53 rfl rfl rfl rfl rfl rfl ?_
  refine ra (nid' := 2) rfl ?_
  refine awp_seq ?_
  refine rn 4 rfl ?_
  obtain ⟨o, hk, h⟩ := bind_inv h
  refine po (ecall (p_triglyphref03_ints_ok hk) rfl rfl rfl rfl rfl rfl rfl rfl rfl) rfl rfl ?_
  refine on 1 rfl ?_
  refine rz ?_
  refine awp_seq ?_
  refine ra rfl ?_
  obtain ⟨o2, hs, h⟩ := bind_inv h
  refine awp_nrm (fun (o2 : Int) => (⟨[(2, .c (.ptr 0 0)), (3, .c (.ptr 1 0)), (5, .d (.int .i64 o2))], [(1, [.d (.int .i64 b.kind), .d (.int .i64 b.n), .d (.list 2 (List.map encArrR b.box))]), (0, [.d (.int .i64 a_.kind), .d (.int .i64 a_.n), .d (.list 2 (List.map encArrR a_.box))])], 2, [], none⟩ : St)) (y := o2) ?_ ?_
  ·replace h := hs
   rcases ite_inv h with ⟨hc, h⟩ | ⟨hc, h⟩
   ·refine ct rfl hc ?_
    refine rn 4 rfl ?_
    obtain ⟨o1, hk, h⟩ := bind_inv h
    refine po (ecall (p_triglyphref03_ints_ok hk) rfl rfl rfl rfl rfl rfl rfl rfl rfl) rfl rfl ?_
    refine on 1 rfl ?_
    refine awpO_nil ?_
    refine cn rfl ?_
    cases h
    exact .ok rfl
   ·refine cf rfl hc ?_
    refine awp_skip ?_
    refine cn rfl ?_
    cases h
    exact .ok rfl
  ·refine seqQ.normal ?_
   refine awp_seq ?_
   refine awp_seq ?_
   refine rn 3 rfl ?_
   rcases ite_inv h with ⟨hc, h⟩ | ⟨hc, h⟩
   ·refine gt rfl rfl rfl rfl hc rfl ?_
    refine on 2 rfl ?_
    refine po (ellen rfl rfl rfl rfl rfl rfl rfl) rfl rfl ?_
    refine on 3 rfl ?_
    rcases ite_inv h with ⟨hc, h⟩ | ⟨hc, h⟩
    ·refine gt rfl rfl rfl rfl hc rfl ?_
     refine on 2 rfl ?_
     refine po (ellen rfl rfl rfl rfl rfl rfl rfl) rfl rfl ?_
     refine on 2 rfl ?_
     refine rz ?_
     rcases ite_inv h with ⟨hc, h⟩ | ⟨hc, h⟩
     ·refine ct rfl hc ?_
      refine awp_seq ?_
      refine drn (m := 12) 2 rfl rfl ?_
      obtain ⟨y, hk, h⟩ := bind_inv h
      refine pd (elget encArr encArrR_eq hk rfl rfl rfl rfl rfl) rfl rfl rfl rfl rfl ?_
      refine don 3 rfl ?_
      obtain ⟨y1, hk, h⟩ := bind_inv h
      refine pd (elget encArr encArrR_eq hk rfl rfl rfl rfl rfl) rfl rfl rfl rfl rfl ?_
      refine don 1 rfl ?_
      obtain ⟨x, hk, h⟩ := bind_inv h
      refine pd (ecall (ih_p_triglyphref03_Cmp _ _ hk) rfl rfl rfl rfl rfl rfl rfl rfl rfl) rfl rfl rfl rfl rfl ?_
      refine don 1 rfl ?_
      refine dz (by kernel_rfl) ?_
      refine awp_ret ?_
      refine condQ.ret ?_
      refine seqQ.ret ?_
      cases h
      exact .ret rfl rfl
     ·refine cf rfl hc ?_
      refine awp_skip ?_
      refine cn rfl ?_
      refine seqQ.normal ?_
      refine awp_seq ?_
      refine ra rfl ?_
      obtain ⟨o4, hs, h⟩ := bind_inv h
      refine awp_nrm (fun (o4 : Int) => (⟨[(5, .d (.int .i64 o4))], [(1, [.d (.int .i64 b.kind), .d (.int .i64 b.n), .d (.list 2 (List.map encArrR b.box))]), (0, [.d (.int .i64 a_.kind), .d (.int .i64 a_.n), .d (.list 2 (List.map encArrR a_.box))])], 2, [], none⟩ : St)) (y := o4) ?_ ?_
      ·replace h := hs
       rcases ite_inv h with ⟨hc, h⟩ | ⟨hc, h⟩
       ·refine ct rfl hc ?_
        refine rn 2 rfl ?_
        refine po (ellen rfl rfl rfl rfl rfl rfl rfl) rfl rfl ?_
        refine on 2 rfl ?_
        refine po (ellen rfl rfl rfl rfl rfl rfl rfl) rfl rfl ?_
        obtain ⟨o3, hk, h⟩ := bind_inv h
        refine po (ecall (p_triglyphref03_ints_ok hk) rfl rfl rfl rfl rfl rfl rfl rfl rfl) rfl rfl ?_
        refine on 1 rfl ?_
        refine awpO_nil ?_
        refine cn rfl ?_
        cases h
        exact .ok rfl
       ·refine cf rfl hc ?_
        refine awp_skip ?_
        refine cn rfl ?_
        cases h
        exact .ok rfl
      ·refine seqQ.normal ?_
       refine ra rfl ?_
       refine awp_ret ?_
       cases h
       exact .ret rfl rfl
    ·refine gf rfl rfl rfl rfl hc rfl ?_
     refine on 5 rfl ?_
     refine rz ?_
     refine cf rfl rfl ?_
     refine awp_skip ?_
     refine cn rfl ?_
     refine seqQ.normal ?_
     refine awp_seq ?_
     refine ra rfl ?_
     obtain ⟨o6, hs, h⟩ := bind_inv h
     refine awp_nrm (fun (o6 : Int) => (⟨[(5, .d (.int .i64 o6))], [(1, [.d (.int .i64 b.kind), .d (.int .i64 b.n), .d (.list 2 (List.map encArrR b.box))]), (0, [.d (.int .i64 a_.kind), .d (.int .i64 a_.n), .d (.list 2 (List.map encArrR a_.box))])], 2, [], none⟩ : St)) (y := o6) ?_ ?_
     ·replace h := hs
      rcases ite_inv h with ⟨hc, h⟩ | ⟨hc, h⟩
      ·refine ct rfl hc ?_
       refine rn 2 rfl ?_
       refine po (ellen rfl rfl rfl rfl rfl rfl rfl) rfl rfl ?_
       refine on 2 rfl ?_
       refine po (ellen rfl rfl rfl rfl rfl rfl rfl) rfl rfl ?_
       obtain ⟨o5, hk, h⟩ := bind_inv h
       refine po (ecall (p_triglyphref03_ints_ok hk) rfl rfl rfl rfl rfl rfl rfl rfl rfl) rfl rfl ?_
       refine on 1 rfl ?_
       refine awpO_nil ?_
       refine cn rfl ?_
       cases h
       exact .ok rfl
      ·refine cf rfl hc ?_
       refine awp_skip ?_
       refine cn rfl ?_
       cases h
       exact .ok rfl
     ·refine seqQ.normal ?_
      refine ra rfl ?_
      refine awp_ret ?_
      cases h
      exact .ret rfl rfl
   ·refine gf rfl rfl rfl rfl hc rfl ?_
    refine on 11 rfl ?_
    refine rz ?_
    refine cf rfl rfl ?_
    refine awp_skip ?_
    refine cn rfl ?_
    refine seqQ.normal ?_
    refine awp_seq ?_
    refine ra rfl ?_
    obtain ⟨o8, hs, h⟩ := bind_inv h
    refine awp_nrm (fun (o8 : Int) => (⟨[(5, .d (.int .i64 o8))], [(1, [.d (.int .i64 b.kind), .d (.int .i64 b.n), .d (.list 2 (List.map encArrR b.box))]), (0, [.d (.int .i64 a_.kind), .d (.int .i64 a_.n), .d (.list 2 (List.map encArrR a_.box))])], 2, [], none⟩ : St)) (y := o8) ?_ ?_
    ·replace h := hs
     rcases ite_inv h with ⟨hc, h⟩ | ⟨hc, h⟩
     ·refine ct rfl hc ?_
      refine rn 2 rfl ?_
      refine po (ellen rfl rfl rfl rfl rfl rfl rfl) rfl rfl ?_
      refine on 2 rfl ?_
      refine po (ellen rfl rfl rfl rfl rfl rfl rfl) rfl rfl ?_
      obtain ⟨o7, hk, h⟩ := bind_inv h
      refine po (ecall (p_triglyphref03_ints_ok hk) rfl rfl rfl rfl rfl rfl rfl rfl rfl) rfl rfl ?_
      refine on 1 rfl ?_
      refine awpO_nil ?_
      refine cn rfl ?_
      cases h
      exact .ok rfl
     ·refine cf rfl hc ?_
      refine awp_skip ?_
      refine cn rfl ?_
      cases h
      exact .ok rfl
    ·refine seqQ.normal ?_
     refine ra rfl ?_
     refine awp_ret ?_
     cases h
     exact .ret rfl rfl
 ·rintro p_triglyphref03_Cmp_l1' ih_p_triglyphref03_Cmp_l1 ⟨a_, b⟩ res h
  refine aval_start (tm := [(0, .d (encArr a_)), (1, .d (encArr b))]) (hp := []) (n := 0) rfl Tryz.func24 rfl rfl rfl rfl rfl rfl ?_
  refine ra (nid' := 2) rfl ?_
  refine awp_seq ?_
  refine rn 2 rfl ?_
  refine po (ellen rfl rfl rfl rfl rfl rfl rfl) rfl rfl ?_
  refine on 2 rfl ?_
  refine po (ellen rfl rfl rfl rfl rfl rfl rfl) rfl rfl ?_
  obtain ⟨o, hk, h⟩ := bind_inv h
  refine po (ecall (p_triglyphref03_ints_ok hk) rfl rfl rfl rfl rfl rfl rfl rfl rfl) rfl rfl ?_
  refine on 1 rfl ?_
  refine rz ?_
  refine awp_seq ?_
  refine ra rfl ?_
  obtain ⟨o3, hs, h⟩ := bind_inv h
  refine awp_nrm (fun (o3 : Int) => (⟨[(2, .c (.ptr 0 0)), (3, .c (.ptr 1 0)), (5, .d (.int .i64 o3))], [(1, [.d (.list 1 (List.map (D.int .i64) b.shape)), .d (.list 3 (List.map encCell b.cells))]), (0, [.d (.list 1 (List.map (D.int .i64) a_.shape)), .d (.list 3 (List.map encCell a_.cells))])], 2, [], none⟩ : St)) (y := o3) ?_ ?_
  ·replace h := hs
   refine awp_block ?_
   refine awp_loop ?_
   exact awpL_at rfl rfl (p_triglyphref03_Cmp_l0_ih _ _ h)
  ·refine seqQ.normal ?_
   refine awp_seq ?_
   refine ra rfl ?_
   obtain ⟨o6, hs, h⟩ := bind_inv h
   refine awp_nrm (fun (o6 : Int) => (⟨[(2, .c (.ptr 0 0)), (3, .c (.ptr 1 0)), (5, .d (.int .i64 o6))], [(1, [.d (.list 1 (List.map (D.int .i64) b.shape)), .d (.list 3 (List.map encCell b.cells))]), (0, [.d (.list 1 (List.map (D.int .i64) a_.shape)), .d (.list 3 (List.map encCell a_.cells))])], 2, [], none⟩ : St)) (y := o6) ?_ ?_
   ·replace h := hs
    refine awp_block ?_
    refine awp_loop ?_
    exact awpL_at rfl rfl (ih_p_triglyphref03_Cmp_l1 _ _ h)
   ·refine seqQ.normal ?_
    refine awp_seq ?_
    refine ra rfl ?_
    obtain ⟨o8, hs, h⟩ := bind_inv h
    refine awp_nrm (fun (o8 : Int) => (⟨[(5, .d (.int .i64 o8))], [(1, [.d (.list 1 (List.map (D.int .i64) b.shape)), .d (.list 3 (List.map encCell b.cells))]), (0, [.d (.list 1 (List.map (D.int .i64) a_.shape)), .d (.list 3 (List.map encCell a_.cells))])], 2, [], none⟩ : St)) (y := o8) ?_ ?_
    ·replace h := hs
     rcases ite_inv h with ⟨hc, h⟩ | ⟨hc, h⟩
     ·refine ct rfl hc ?_
      refine rn 2 rfl ?_
      refine po (ellen rfl rfl rfl rfl rfl rfl rfl) rfl rfl ?_
      refine on 2 rfl ?_
      refine po (ellen rfl rfl rfl rfl rfl rfl rfl) rfl rfl ?_
      obtain ⟨o7, hk, h⟩ := bind_inv h
      refine po (ecall (p_triglyphref03_ints_ok hk) rfl rfl rfl rfl rfl rfl rfl rfl rfl) rfl rfl ?_
      refine on 1 rfl ?_
      refine awpO_nil ?_
      refine cn rfl ?_
      cases h
      exact .ok rfl
     ·refine cf rfl hc ?_
      refine awp_skip ?_
      refine cn rfl ?_
      cases h
      exact .ok rfl
    ·refine seqQ.normal ?_
     refine ra rfl ?_
     refine awp_ret ?_
     cases h
     exact .ret rfl rfl
theorem p_triglyphref03_Cmp_ih : ∀ a res, p_triglyphref03_Cmp a = some res → Mp_triglyphref03_Cmp a res := p_triglyphref03_Cmp_l1_grp.2.2
theorem p_triglyphref03_Cmp_ok {a : Arr × Arr} {res : Int} (h : p_triglyphref03_Cmp a = some res) : Mp_triglyphref03_Cmp a res := p_triglyphref03_Cmp_ih a res h
abbrev Mp_triglyphref10_Same_l0 (a : Node × Node × Int) (res : Except (Bool) (Unit)) : Prop := match a with | (a_, b, i) => awpL X 14 (codeAt [1, 1, 0, 1, 0, 0] (bodyOf Tryz.f14)) (cleanAt (X.H 14 4) 2) (exitQ 0 (X.H 14 1000000) 2 (SubQ X Tryz.f14 0 (fun (r : Bool) => (CRes.ret (.d (.bool r)) [])) (fun (_ : Unit) => (⟨[], [(1, [.d (.int .i64 b.kind), .d (.int .i64 b.op_), .d (.str b.name), .d (.list 1 (List.map (D.int .i64) b.lit.shape)), .d (.list 3 (List.map encCell b.lit.cells)), .d (.list 7 (List.map encNodeR b.kids)), .d (.int .i64 b.at_)]), (0, [.d (.int .i64 a_.kind), .d (.int .i64 a_.op_), .d (.str a_.name), .d (.list 1 (List.map (D.int .i64) a_.lit.shape)), .d (.list 3 (List.map encCell a_.lit.cells)), .d (.list 7 (List.map encNodeR a_.kids)), .d (.int .i64 a_.at_)])], 2, [], none⟩ : St)) res)) ⟨[(2, .c (.ptr 0 0)), (3, .c (.ptr 1 0)), (5, .d (.int .i64 i))], [(1, [.d (.int .i64 b.kind), .d (.int .i64 b.op_), .d (.str b.name), .d (.list 1 (List.map (D.int .i64) b.lit.shape)), .d (.list 3 (List.map encCell b.lit.cells)), .d (.list 7 (List.map encNodeR b.kids)), .d (.int .i64 b.at_)]), (0, [.d (.int .i64 a_.kind), .d (.int .i64 a_.op_), .d (.str a_.name), .d (.list 1 (List.map (D.int .i64) a_.lit.shape)), .d (.list 3 (List.map encCell a_.lit.cells)), .d (.list 7 (List.map encNodeR a_.kids)), .d (.int .i64 a_.at_)])], 2, [], none⟩
abbrev Mp_triglyphref10_Same (a : Node × Node) (res : Bool) : Prop := match a with | (a_, b) => aval X 14 [.d (encNode a_), .d (encNode b)] [] (CRes.ret (.d (.bool res)) [])
theorem p_triglyphref10_Same_l0_grp : (∀ a res, p_triglyphref10_Same_l0 a = some res → Mp_triglyphref10_Same_l0 a res) ∧ (∀ a res, p_triglyphref10_Same a = some res → Mp_triglyphref10_Same a res) := by
 refine p_triglyphref10_Same_l0.mutual_partial_correctness (motive_1 := Mp_triglyphref10_Same_l0) (motive_2 := Mp_triglyphref10_Same) ?_ ?_
 ·rintro p_triglyphref10_Same_l0' p_triglyphref10_Same' ih_p_triglyphref10_Same_l0 ih_p_triglyphref10_Same ⟨a_, b, i⟩ res h
  refine lg rfl ?_
  refine awp_seq ?_
  refine awp_seq ?_
  refine rn 3 rfl ?_
  refine po (ellen rfl rfl rfl rfl rfl rfl rfl) rfl rfl ?_
  refine on 1 rfl ?_
  refine rz ?_
  rcases ite_inv h with ⟨hc, h⟩ | ⟨hc, h⟩
  ·refine ct rfl hc ?_
   refine awp_skip ?_
   refine cn rfl ?_
   refine seqQ.normal ?_
   refine awp_seq ?_
   refine awp_block ?_
   refine awp_seq ?_
   refine drn (m := 14) 3 rfl rfl ?_
   obtain ⟨y, hk, h⟩ := bind_inv h
   refine pd (elget encNode encNodeR_eq hk rfl rfl rfl rfl rfl) rfl rfl rfl rfl rfl ?_
   refine don 4 rfl ?_
   obtain ⟨y1, hk, h⟩ := bind_inv h
   refine pd (elget encNode encNodeR_eq hk rfl rfl rfl rfl rfl) rfl rfl rfl rfl rfl ?_
   refine don 1 rfl ?_
   obtain ⟨x1, hk, h⟩ := bind_inv h
   refine pd (ecall (ih_p_triglyphref10_Same _ _ hk) rfl rfl rfl rfl rfl rfl rfl rfl rfl) rfl rfl rfl rfl rfl ?_
   refine don 1 rfl ?_
   refine dz (by kernel_rfl) ?_
   rcases ite_inv h with ⟨hc, h⟩ | ⟨hc, h⟩
   ·refine ct rfl hc ?_
    refine ra rfl ?_
    refine awp_ret ?_
    refine condQ.ret ?_
    refine exitQ.ret ?_
    refine seqQ.ret ?_
    refine loopQ.ret ?_
    refine exitQ.ret ?_
    cases h
    exact .err rfl (.ret rfl rfl)
   ·refine cf rfl hc ?_
    refine awp_skip ?_
    refine cn rfl ?_
    refine en rfl ?_
    refine seqQ.normal ?_
    refine rn 3 rfl ?_
    refine awpO_nil ?_
    refine loopQ.normal ?_
    exact awpL_at rfl rfl (ih_p_triglyphref10_Same_l0 _ _ h)
  ·refine cf rfl hc ?_
   refine awp_exit ?_
   refine condQ.exit ?_
   refine seqQ.exit ?_
   refine loopQ.exit ?_
   refine eh rfl ?_
   cases h
   exact .ok rfl
 ·rintro p_triglyphref10_Same_l0' ih_p_triglyphref10_Same_l0 ⟨a_, b⟩ res h
  refine aval_start (tm := [(0, .d (encNode a_)), (1, .d (encNode b))]) (hp := []) (n := 0) rfl Tryz.func14 rfl rfl rfl rfl rfl rfl ?_
  refine ra (nid' := 2) rfl ?_
  refine awp_seq ?_
  refine awp_seq ?_
  refine rn 6 rfl ?_
  rcases ite_inv h with ⟨hc, h⟩ | ⟨hc, h⟩
  ·refine gt rfl rfl rfl rfl hc rfl ?_
   refine on 30 rfl ?_
   refine rz ?_
   refine ct rfl rfl ?_
   refine ra rfl ?_
   refine awp_ret ?_
   refine condQ.ret ?_
   refine seqQ.ret ?_
   cases h
   exact .ret rfl rfl
  ·refine gf rfl rfl rfl rfl hc rfl ?_
   refine on 7 rfl ?_
   rcases ite_inv h with ⟨hc, h⟩ | ⟨hc, h⟩
   ·refine gt rfl rfl rfl rfl hc rfl ?_
    refine on 23 rfl ?_
    refine rz ?_
    refine ct rfl rfl ?_
    refine ra rfl ?_
    refine awp_ret ?_
    refine condQ.ret ?_
    refine seqQ.ret ?_
    cases h
    exact .ret rfl rfl
   ·refine gf rfl rfl rfl rfl hc rfl ?_
    refine on 7 rfl ?_
    rcases ite_inv h with ⟨hc, h⟩ | ⟨hc, h⟩
    ·refine gt rfl rfl rfl rfl hc rfl ?_
     refine on 16 rfl ?_
     refine rz ?_
     refine ct rfl rfl ?_
     refine ra rfl ?_
     refine awp_ret ?_
     refine condQ.ret ?_
     refine seqQ.ret ?_
     cases h
     exact .ret rfl rfl
    ·refine gf rfl rfl rfl rfl hc rfl ?_
     refine on 2 rfl ?_
     refine po (ellen rfl rfl rfl rfl rfl rfl rfl) rfl rfl ?_
     refine on 2 rfl ?_
     refine po (ellen rfl rfl rfl rfl rfl rfl rfl) rfl rfl ?_
     refine on 3 rfl ?_
     rcases ite_inv h with ⟨hc, h⟩ | ⟨hc, h⟩
     ·refine gt rfl rfl rfl rfl hc rfl ?_
      refine on 7 rfl ?_
      refine rz ?_
      refine ct rfl rfl ?_
      refine ra rfl ?_
      refine awp_ret ?_
      refine condQ.ret ?_
      refine seqQ.ret ?_
      cases h
      exact .ret rfl rfl
     ·refine gf rfl rfl rfl rfl hc rfl ?_
      refine on 4 rfl ?_
      obtain ⟨x, hk, h⟩ := bind_inv h
      refine po (ecall (p_triglyphref03_Cmp_ok hk) rfl rfl rfl rfl rfl rfl rfl rfl rfl) rfl rfl ?_
      refine on 2 rfl ?_
      refine rz ?_
      rcases ite_inv h with ⟨hc, h⟩ | ⟨hc, h⟩
      ·refine ct rfl hc ?_
       refine ra rfl ?_
       refine awp_ret ?_
       refine condQ.ret ?_
       refine seqQ.ret ?_
       cases h
       exact .ret rfl rfl
      ·refine cf rfl hc ?_
       refine awp_skip ?_
       refine cn rfl ?_
       refine seqQ.normal ?_
       refine awp_seq ?_
       refine ra rfl ?_
       obtain ⟨res, hs, h⟩ := bind_inv h
       refine awp_sub Tryz.f14 0 (fun (r : Bool) => (CRes.ret (.d (.bool r)) [])) (fun (_ : Unit) => (⟨[], [(1, [.d (.int .i64 b.kind), .d (.int .i64 b.op_), .d (.str b.name), .d (.list 1 (List.map (D.int .i64) b.lit.shape)), .d (.list 3 (List.map encCell b.lit.cells)), .d (.list 7 (List.map encNodeR b.kids)), .d (.int .i64 b.at_)]), (0, [.d (.int .i64 a_.kind), .d (.int .i64 a_.op_), .d (.str a_.name), .d (.list 1 (List.map (D.int .i64) a_.lit.shape)), .d (.list 3 (List.map encCell a_.lit.cells)), .d (.list 7 (List.map encNodeR a_.kids)), .d (.int .i64 a_.at_)])], 2, [], none⟩ : St)) (res := res) ?_ (fun y hy => ?_) (fun r x s' hr hx he => ?_)
       ·replace h := hs
        refine awp_block ?_
        refine awp_loop ?_
        exact awpL_at rfl rfl (ih_p_triglyphref10_Same_l0 _ _ h)
       ·subst hy
        refine seqQ.normal ?_
        refine ra rfl ?_
        refine awp_ret ?_
        cases h
        exact .ret rfl rfl
       ·subst hr
        refine seqQ.out hx ?_
        cases h
        exact he
theorem p_triglyphref10_Same_ih : ∀ a res, p_triglyphref10_Same a = some res → Mp_triglyphref10_Same a res := p_triglyphref10_Same_l0_grp.2
theorem p_triglyphref10_Same_ok {a : Node × Node} {res : Bool} (h : p_triglyphref10_Same a = some res) : Mp_triglyphref10_Same a res := p_triglyphref10_Same_ih a res h
theorem p_triglyphref18_Same_ok {a_ : Prgm} {b : Prgm} {r : Bool} (h : p_triglyphref18_Same a_ b = some r) : aval X 7 [.d (encPrgm a_), .d (encPrgm b)] [] (CRes.ret (.d (.bool r)) []) := by
 unfold p_triglyphref18_Same at h
 refine aval_start (tm := [(0, .d (encPrgm a_)), (1, .d (encPrgm b))]) (hp := []) (n := 0) rfl Tryz.func7 rfl rfl rfl rfl rfl rfl ?_
 refine ra (nid' := 2) rfl ?_
 refine awp_seq ?_
 refine rn 6 rfl ?_
 rcases ite_inv h with ⟨hc, h⟩ | ⟨hc, h⟩
 ·refine gt rfl rfl rfl rfl hc rfl ?_
  refine on 7 rfl ?_
  rcases ite_inv h with ⟨hc, h⟩ | ⟨hc, h⟩
  ·refine gt rfl rfl rfl rfl hc rfl ?_
   refine on 4 rfl ?_
   obtain ⟨x, hk, h⟩ := bind_inv h
   refine po (ecall (p_triglyphref10_Same_ok hk) rfl rfl rfl rfl rfl rfl rfl rfl rfl) rfl rfl ?_
   refine on 2 rfl ?_
   refine rz ?_
   refine awp_ret ?_
   cases h
   exact .ret rfl rfl
  ·refine gf rfl rfl rfl rfl hc rfl ?_
   refine on 7 rfl ?_
   refine rz ?_
   refine awp_ret ?_
   cases h
   exact .ret rfl rfl
 ·refine gf rfl rfl rfl rfl hc rfl ?_
  refine on 14 rfl ?_
  refine rz ?_
  refine awp_ret ?_
  cases h
  exact .ret rfl rfl
theorem p_triglyphlaw18_JayOnce_ok {s : Str} {r : Bool} (h : p_triglyphlaw18_JayOnce s = some r) : aval X 3 [.d (.str s)] [] (CRes.ret (.d (.bool r)) []) := by
 unfold p_triglyphlaw18_JayOnce at h
 refine aval_start (tm := [(0, .d (.str s))]) (hp := []) (n := 0) rfl Tryz.func3 rfl rfl rfl rfl rfl rfl ?_
 refine ra rfl ?_
 refine awp_seq ?_
 refine ra rfl ?_
 rcases ite_inv h with ⟨hc, h⟩ | ⟨hc, h⟩
 ·refine ct rfl hc ?_
  refine awp_seq ?_
  refine rn 0 rfl ?_
  obtain ⟨x, hk, h⟩ := bind_inv h
  refine po (ecall (go_works_ok hk) rfl rfl rfl rfl rfl rfl rfl rfl rfl) rfl rfl ?_
  refine on 1 rfl ?_
  refine rz ?_
  refine awp_ret ?_
  refine condQ.ret ?_
  refine seqQ.ret ?_
  cases h
  exact .ret rfl rfl
 ·refine cf rfl hc ?_
  refine awp_skip ?_
  refine cn rfl ?_
  refine seqQ.normal ?_
  refine awp_seq ?_
  refine rn 1 rfl ?_
  obtain ⟨⟨x1, x2⟩, hk, h⟩ := bind_inv h
  refine po (ecall (p_jay_Parse_ok hk) rfl rfl rfl rfl rfl rfl rfl rfl rfl) rfl rfl ?_
  refine on (nid' := 2) 7 rfl ?_
  refine rz ?_
  refine awp_seq ?_
  refine ra rfl ?_
  rcases ite_inv h with ⟨hc, h⟩ | ⟨hc, h⟩
  ·refine ct rfl hc ?_
   refine awp_seq ?_
   refine rn 0 rfl ?_
   obtain ⟨x3, hk, h⟩ := bind_inv h
   refine po (ecall (go_works_ok hk) rfl rfl rfl rfl rfl rfl rfl rfl rfl) rfl rfl ?_
   refine on 1 rfl ?_
   refine rz ?_
   refine awp_ret ?_
   refine condQ.ret ?_
   refine seqQ.ret ?_
   cases h
   exact .ret rfl rfl
  ·refine cf rfl hc ?_
   refine awp_skip ?_
   refine cn rfl ?_
   refine seqQ.normal ?_
   refine awp_seq ?_
   refine rn 1 rfl ?_
   obtain ⟨⟨t, e⟩, hk, h⟩ := bind_inv h
   refine po (ecall (p_jay_Print_ok hk) rfl rfl rfl rfl rfl rfl rfl rfl rfl) rfl rfl ?_
   refine on 5 rfl ?_
   refine rz ?_
   refine awp_seq ?_
   refine ra rfl ?_
   rcases ite_inv h with ⟨hc, h⟩ | ⟨hc, h⟩
   ·refine ct rfl hc ?_
    refine awp_seq ?_
    refine rn 0 rfl ?_
    obtain ⟨x4, hk, h⟩ := bind_inv h
    refine po (ecall (go_works_ok hk) rfl rfl rfl rfl rfl rfl rfl rfl rfl) rfl rfl ?_
    refine on 1 rfl ?_
    refine rz ?_
    refine awp_ret ?_
    refine condQ.ret ?_
    refine seqQ.ret ?_
    cases h
    exact .ret rfl rfl
   ·refine cf rfl hc ?_
    refine awp_skip ?_
    refine cn rfl ?_
    refine seqQ.normal ?_
    refine awp_seq ?_
    refine rn 1 rfl ?_
    obtain ⟨⟨x5, x6⟩, hk, h⟩ := bind_inv h
    refine po (ecall (p_jay_Parse_ok hk) rfl rfl rfl rfl rfl rfl rfl rfl rfl) rfl rfl ?_
    refine on (nid' := 3) 6 rfl ?_
    refine rz ?_
    refine awp_seq ?_
    refine rn 1 rfl ?_
    obtain ⟨⟨u, e1⟩, hk, h⟩ := bind_inv h
    refine po (ecall (p_jay_Print_ok hk) rfl rfl rfl rfl rfl rfl rfl rfl rfl) rfl rfl ?_
    refine on 5 rfl ?_
    refine rz ?_
    refine awp_seq ?_
    refine rn 4 rfl ?_
    rcases ite_inv h with ⟨hc, h⟩ | ⟨hc, h⟩
    ·refine gt rfl rfl rfl rfl hc rfl ?_
     refine on 4 rfl ?_
     rcases ite_inv h with ⟨hc, h⟩ | ⟨hc, h⟩
     ·refine gt rfl rfl rfl rfl hc rfl ?_
      refine on 5 rfl ?_
      rcases ite_inv h with ⟨hc, h⟩ | ⟨hc, h⟩
      ·refine gt rfl rfl rfl rfl hc rfl ?_
       refine on 2 rfl ?_
       obtain ⟨x7, hk, h⟩ := bind_inv h
       refine po (ecall (p_triglyphref18_Same_ok hk) rfl rfl rfl rfl rfl rfl rfl rfl rfl) rfl rfl ?_
       refine on 2 rfl ?_
       rcases ite_inv h with ⟨hc, h⟩ | ⟨hc, h⟩
       ·refine gt rfl rfl rfl rfl hc rfl ?_
        obtain ⟨x8, hk, h⟩ := bind_inv h
        refine po (ecall (go_works_ok hk) rfl rfl rfl rfl rfl rfl rfl rfl rfl) rfl rfl ?_
        refine on 2 rfl ?_
        refine rz ?_
        refine awp_ret ?_
        cases h
        exact .ret rfl rfl
       ·refine gf rfl rfl rfl rfl hc rfl ?_
        refine on 3 rfl ?_
        refine rz ?_
        refine awp_ret ?_
        cases h
        exact .ret rfl rfl
      ·refine gf rfl rfl rfl rfl hc rfl ?_
       refine on 8 rfl ?_
       refine rz ?_
       refine awp_ret ?_
       cases h
       exact .ret rfl rfl
     ·refine gf rfl rfl rfl rfl hc rfl ?_
      refine on 13 rfl ?_
      refine rz ?_
      refine awp_ret ?_
      cases h
      exact .ret rfl rfl
    ·refine gf rfl rfl rfl rfl hc rfl ?_
     refine on 17 rfl ?_
     refine rz ?_
     refine awp_ret ?_
     cases h
     exact .ret rfl rfl
end Go.AM.Seat

namespace Go.AM.Seat
open Go Go.AM
set_option linter.unusedVariables false
def T {α : Type} (x : Option α) (Q : α → Prop) : Prop := ∃ r, x = some r ∧ Q r
section
variable {α β : Type} {Q R : α → Prop} {S : β → Prop}
theorem T.ret {v : α} (h : Q v) : T (some v) Q := ⟨v, rfl, h⟩
theorem T.bind {x : Option α} {f : α → Option β} (h : T x R) (k : ∀ v, R v → T (f v) S) : T (x >>= f) S := by
 obtain ⟨v, rfl, hv⟩ := h; exact k v hv
theorem T.ite {c : Bool} {a b : Option α} (h : c = true → T a Q) (k : c = false → T b Q) : T (if c = true then a else b) Q := by
 cases c
 ·exact k rfl
 ·exact h rfl
theorem T.imp {x : Option α} (h : T x R) (k : ∀ v, R v → Q v) : T x Q := by
 obtain ⟨v, e, hv⟩ := h; exact ⟨v, e, k v hv⟩
theorem T.val {x : Option α} {v : α} (h : x = some v) (k : Q v) : T x Q := ⟨v, h, k⟩
theorem T.lget {l : List α} {i : Int} (h0 : 0 ≤ i) (h1 : i < l.length) (k : ∀ v, l[i.toNat]? = some v → Q v) : T (lget l i) Q := by
 have hl : i.toNat < l.length := by omega
 refine ⟨l[i.toNat], ?_, k _ (by simp [hl])⟩
 unfold AM.lget
 rw [if_pos h0]; simp [hl]
theorem T.lapp {l m : List α} {Q : List α → Prop} (h : l.length + m.length ≤ 4294967296) (k : Q (l ++ m)) : T (lapp l m) Q := ⟨_, by unfold AM.lapp; rw [if_pos h], k⟩
theorem T.lfrom {l : List α} {lo : Int} {Q : List α → Prop} (h0 : 0 ≤ lo) (h1 : lo ≤ l.length) (k : Q (l.drop lo.toNat)) : T (lfrom l lo) Q :=
 ⟨_, by unfold AM.lfrom; rw [if_pos ⟨h0, by omega⟩], k⟩
end
theorem T.sget {s : Str} {i : Int} {Q : Int → Prop} (h0 : 0 ≤ i) (h1 : i < s.length) (k : ∀ b, s[i.toNat]? = some b → Q (b.toNat : Int)) : T (sget s i) Q := by
 have hl : i.toNat < s.length := by omega
 refine ⟨(s[i.toNat].toNat : Int), ?_, k _ (by simp [hl])⟩
 unfold AM.sget
 rw [if_pos h0]; simp [hl]
theorem T.sfrom {s : Str} {lo : Int} {Q : Str → Prop} (h0 : 0 ≤ lo) (h1 : lo ≤ s.length) (k : Q (s.drop lo.toNat)) : T (sfrom s lo) Q :=
 ⟨_, by unfold AM.sfrom; rw [if_pos ⟨h0, by omega⟩], k⟩
theorem T.scat {a b : Str} {Q : Str → Prop} (h : a.length + b.length ≤ 1099511627776) (k : Q (a ++ b)) : T (scat a b) Q := ⟨_, by unfold AM.scat; rw [if_pos h], k⟩
theorem T.sbytes {s : Str} {Q : List Int → Prop} (h : s.length ≤ 1099511627776) (k : Q (s.map u8I)) : T (sbytes s) Q := ⟨_, by unfold AM.sbytes; rw [if_pos h], k⟩
theorem w64_id {x : Int} (h1 : -9223372036854775808 ≤ x) (h2 : x < 9223372036854775808) : w64 x = x := by
 unfold w64; rw [IntKind.wrap_i64]; omega
theorem lget_some {α : Type} {l : List α} {i : Nat} (h : i < l.length) : lget l (i : Int) = some l[i] := by
 unfold AM.lget
 rw [if_pos (by omega)]; simp [h]
end Go.AM.Seat

namespace Go.AM.Seat
open Go Go.AM
set_option linter.unusedVariables false
theorem Arr.ext' {a b : Arr} (h1 : a.shape = b.shape) (h2 : a.cells = b.cells) : a = b := by
 cases a; cases b; simp only [Arr.shape, Arr.cells] at h1 h2; subst h1; subst h2; rfl
theorem Cell.ext' {a b : Cell} (h1 : a.kind = b.kind) (h2 : a.n = b.n) (h3 : a.box = b.box) : a = b := by
 cases a; cases b; simp only [Cell.kind, Cell.n, Cell.box] at h1 h2 h3; subst h1; subst h2; subst h3; rfl
structure Flat (a : Arr) : Prop where
 shape : a.shape.length ≤ 1
 len : a.cells.length ≤ 9000
 box : ∀ c ∈ a.cells, c.box = []
def cmpI (a b : Int) : Int := if a < b then -1 else if a > b then 1 else 0
theorem cmpI_zero {a b : Int} : cmpI a b = 0 ↔ a = b := by unfold cmpI; constructor <;> intro h <;> (repeat' split at h) <;> (repeat' split) <;> omega
theorem cmpI_self (a : Int) : cmpI a a = 0 := cmpI_zero.2 rfl
theorem ints_eq (a b : Int) : p_triglyphref03_ints a b = some (cmpI a b) := by
 unfold p_triglyphref03_ints cmpI
 by_cases h : a < b
 ·rw [if_pos (by simpa using h), if_pos h]
 ·rw [if_neg (by simpa using h), if_neg h]
  by_cases h' : a > b
  ·rw [if_pos (by simpa using h'), if_pos h']
  ·rw [if_neg (by simpa using h'), if_neg h']
theorem order_int_eq (a b : Int) : p_arr_order_int a b = some (cmpI a b) := by
 unfold p_arr_order_int cmpI
 by_cases h : a < b
 ·rw [if_pos (by simpa using h), if_pos h]
 ·rw [if_neg (by simpa using h), if_neg h]
  by_cases h' : a > b
  ·rw [if_pos (by simpa using h'), if_pos h']
  ·rw [if_neg (by simpa using h'), if_neg h']
theorem order_int64_eq (a b : Int) : p_arr_order_int64 a b = some (cmpI a b) := by
 unfold p_arr_order_int64 cmpI
 by_cases h : a < b
 ·rw [if_pos (by simpa using h), if_pos h]
 ·rw [if_neg (by simpa using h), if_neg h]
  by_cases h' : a > b
  ·rw [if_pos (by simpa using h'), if_pos h']
  ·rw [if_neg (by simpa using h'), if_neg h']
def orI (a b : Int) : Int := if a = 0 then b else a
theorem arr_Cell_eq {a b : Cell} (ha : a.box = []) (hb : b.box = []) : p_arr_Cell (a, b) = some (orI (cmpI a.kind b.kind) (cmpI a.n b.n)) := by
 rw [p_arr_Cell]
 simp only [order_int_eq, order_int64_eq, ha, hb, Option.bind_eq_bind, Option.bind_some, List.length_nil, orI]
 by_cases h : cmpI a.kind b.kind = 0
 ·simp only [h, bne_self_eq_false, Bool.false_eq_true, if_false, if_true]
  by_cases h' : cmpI a.n b.n = 0
  ·simp [h', cmpI_self]
  ·simp [h']
 ·simp [h]
theorem ref_Cell_eq {a b : Cell} (ha : a.box = []) (hb : b.box = []) : p_triglyphref03_Cell (a, b) = some (orI (cmpI a.kind b.kind) (cmpI a.n b.n)) := by
 rw [p_triglyphref03_Cell]
 simp only [ints_eq, ha, hb, Option.bind_eq_bind, Option.bind_some, List.length_nil, orI]
 by_cases h : cmpI a.kind b.kind = 0
 ·simp only [h, if_true]
  by_cases h' : cmpI a.n b.n = 0
  ·simp [h', cmpI_self]
  ·simp [h']
 ·simp [h]
theorem orI_zero {a b : Int} : orI a b = 0 ↔ a = 0 ∧ b = 0 := by unfold orI; split <;> constructor <;> intro h <;> omega
theorem getD_of {α : Type} {l : List α} {i : Nat} (h : i < l.length) : l[i]? = some l[i] := by simp [h]
theorem arr_Cmp2_T {a b : Arr} (ha : a.shape.length ≤ 1) (hs : a.shape.length = b.shape.length) : T (p_arr_Cmp_1__arr_Cmp_2 (a.shape.length : Int) a b) fun r => r = 0 ↔ a.shape = b.shape := by
 unfold p_arr_Cmp_1__arr_Cmp_2
 match h1 : a.shape, h2 : b.shape with
 | [], [] => rw [p_arr_Cmp_1__arr_Cmp_2_l0]; exact ⟨0, rfl, by simp⟩
 | [x], [y] =>
  rw [p_arr_Cmp_1__arr_Cmp_2_l0]
  simp only [List.length_cons, List.length_nil, p_arr_Cmp_2, h1, h2, AM.lget, order_int_eq]
  by_cases e : cmpI x y = 0
  ·rw [p_arr_Cmp_1__arr_Cmp_2_l0]
   have := cmpI_zero.1 e
   subst this
   exact ⟨0, by simp [e, w64_id], by simp⟩
  ·refine ⟨cmpI x y, by simp [e], ?_⟩
   simp only [e, false_iff, List.cons.injEq, and_true]
   exact fun h => e (cmpI_zero.2 h)
 | [], y :: r => rw [h1, h2] at hs; simp at hs
 | [x], [] => rw [h1, h2] at hs; simp at hs
 | [x], y :: z :: r => rw [h1, h2] at hs; simp at hs
 | x :: z :: r, _ => rw [h1] at ha; simp at ha
theorem arr_Cmp3_T {a b : Arr} (ha : Flat a) (hb : Flat b) {n : Nat} (hn : n ≤ a.cells.length) (hm : n ≤ b.cells.length) : ∀ d i, i + d = n →
  T (p_arr_Cmp_1__arr_Cmp_3_l0 ((n : Int), a, b, (i : Int))) fun r => match r with
   | .ok _ => ∀ j, i ≤ j → j < n → a.cells[j]? = b.cells[j]?
   | .error o => o ≠ 0 ∧ ∃ j, j < n ∧ a.cells[j]? ≠ b.cells[j]?
 | 0, i, hi => by
  rw [p_arr_Cmp_1__arr_Cmp_3_l0]
  rw [if_neg (by simp; omega)]
  exact .ret fun j h1 h2 => by omega
 | d + 1, i, hi => by
  rw [p_arr_Cmp_1__arr_Cmp_3_l0]
  rw [if_pos (by simp; omega), p_arr_Cmp_3]
  have ea : lget a.cells (i : Int) = some a.cells[i] := lget_some (by omega)
  have eb : lget b.cells (i : Int) = some b.cells[i] := lget_some (by omega)
  simp only [ea, eb, Option.bind_eq_bind, Option.bind_some]
  rw [arr_Cell_eq (ha.box _ (List.getElem_mem _)) (hb.box _ (List.getElem_mem _))]
  simp only [Option.bind_some]
  have hla := ha.len
  by_cases e : orI (cmpI a.cells[i].kind b.cells[i].kind) (cmpI a.cells[i].n b.cells[i].n) = 0
  ·rw [if_neg (by simp [e]), show w64 ((i : Int) + 1) = ((i + 1 : Nat) : Int) from by rw [w64_id] <;> omega]
   refine (arr_Cmp3_T ha hb hn hm d (i + 1) (by omega)).imp fun r hr => ?_
   cases r with
   | error o => exact hr
   | ok u =>
    intro j h1 h2
    by_cases hj : j = i
    ·subst hj
     obtain ⟨e1, e2⟩ := orI_zero.1 e
     rw [getD_of (show j < a.cells.length by omega), getD_of (show j < b.cells.length by omega), Option.some.injEq]
     exact Cell.ext' (cmpI_zero.1 e1) (cmpI_zero.1 e2) (by rw [ha.box _ (List.getElem_mem _), hb.box _ (List.getElem_mem _)])
    ·exact hr j (by omega) h2
  ·rw [if_pos (by simp [e])]
   refine .ret ⟨e, i, by omega, fun h => e (orI_zero.2 ?_)⟩
   rw [getD_of (show i < a.cells.length by omega), getD_of (show i < b.cells.length by omega), Option.some.injEq] at h
   rw [h]
   exact ⟨cmpI_self _, cmpI_self _⟩
theorem arr_Cmp_T {a b : Arr} (ha : Flat a) (hb : Flat b) : T (p_arr_Cmp (a, b)) fun r => r = 0 ↔ a = b := by
 rw [p_arr_Cmp]
 simp only [order_int_eq, Option.bind_eq_bind, Option.bind_some]
 by_cases e : cmpI (a.shape.length : Int) (b.shape.length : Int) = 0
 ·rw [if_neg (by simp [e])]
  have hl : a.shape.length = b.shape.length := by have := cmpI_zero.1 e; omega
  refine T.bind (arr_Cmp2_T ha.shape hl) fun r hr => ?_
  by_cases e1 : r = 0
  ·rw [if_neg (by simp [e1]), p_arr_Cmp_1__arr_Cmp_3]
   have hs := hr.1 e1
   have hmin : (if (b.cells.length : Int) < (a.cells.length : Int) then (b.cells.length : Int) else (a.cells.length : Int)) = ((min a.cells.length b.cells.length : Nat) : Int) := by split <;> omega
   rw [hmin]
   have h3 := arr_Cmp3_T ha hb (n := min a.cells.length b.cells.length) (by omega) (by omega) _ 0 (Nat.zero_add _)
   simp only [Option.bind_eq_bind]
   refine T.bind (R := fun r => (r = 0 ∧ ∀ j, j < min a.cells.length b.cells.length → a.cells[j]? = b.cells[j]?) ∨ (r ≠ 0 ∧ a.cells ≠ b.cells)) ?_ fun r2 hr2 => ?_
   ·refine T.bind h3 fun x hx => ?_
    cases x with
    | ok u => exact .ret (.inl ⟨rfl, fun j hj => hx j (Nat.zero_le _) hj⟩)
    | error o => exact .ret (.inr ⟨hx.1, fun h => by obtain ⟨j, _, hj⟩ := hx.2; rw [h] at hj; exact hj rfl⟩)
   ·rcases hr2 with ⟨rfl, hall⟩ | ⟨hne, hcells⟩
    ·rw [if_neg (by simp)]
     refine .ret ?_
     rw [cmpI_zero]
     constructor
     ·intro h
      have h : a.cells.length = b.cells.length := by omega
      refine Arr.ext' hs (List.ext_getElem? fun j => ?_)
      by_cases hj : j < a.cells.length
      ·exact hall j (by omega)
      ·rw [List.getElem?_eq_none (by omega), List.getElem?_eq_none (by omega)]
     ·intro h; rw [h]
    ·rw [if_pos (by simpa using hne)]
     exact .ret ⟨fun h => absurd h hne, fun h => absurd (congrArg Arr.cells h) hcells⟩
  ·rw [if_pos (by simpa using e1)]
   exact .ret ⟨fun h => absurd h e1, fun h => absurd (hr.2 (by rw [h])) e1⟩
 ·rw [if_pos (by simpa using e)]
  exact .ret ⟨fun h => absurd h e, fun h => absurd (cmpI_zero.2 (by rw [h])) e⟩
theorem arr_Same_T {a b : Arr} (ha : Flat a) (hb : Flat b) : T (p_arr_Same a b) fun r => r = true ↔ a = b := by
 unfold p_arr_Same
 exact T.bind (arr_Cmp_T ha hb) fun r hr => .ret (by rw [beq_iff_eq]; exact hr)
theorem ref_Cmp0_self {a : Arr} (hl : a.shape.length ≤ 1) : ∀ d i, i + d = a.shape.length → p_triglyphref03_Cmp_l0 (a, a, 0, (i : Int)) = some 0
 | 0, i, hi => by rw [p_triglyphref03_Cmp_l0, if_neg (by simp; omega)]
 | d + 1, i, hi => by
  rw [p_triglyphref03_Cmp_l0, if_pos (by simp; omega)]
  have ea : lget a.shape (i : Int) = some a.shape[i] := lget_some (by omega)
  simp only [beq_self_eq_true, if_true, ea, Option.bind_eq_bind, Option.bind_some, ints_eq, cmpI_self]
  rw [show w64 ((i : Int) + 1) = ((i + 1 : Nat) : Int) from by rw [w64_id] <;> omega]
  exact ref_Cmp0_self hl d (i + 1) (by omega)
theorem ref_Cmp1_self {a : Arr} (ha : Flat a) : ∀ d i, i + d = a.cells.length → p_triglyphref03_Cmp_l1 (a, a, 0, (i : Int)) = some 0
 | 0, i, hi => by rw [p_triglyphref03_Cmp_l1, if_neg (by simp; omega)]
 | d + 1, i, hi => by
  rw [p_triglyphref03_Cmp_l1, if_pos (by simp; omega), if_pos (by simp; omega)]
  have ea : lget a.cells (i : Int) = some a.cells[i] := lget_some (by omega)
  have hla := ha.len
  simp only [beq_self_eq_true, if_true, ea, Option.bind_eq_bind, Option.bind_some]
  rw [ref_Cell_eq (ha.box _ (List.getElem_mem _)) (ha.box _ (List.getElem_mem _))]
  simp only [cmpI_self, orI, if_true, Option.bind_some]
  rw [show w64 ((i : Int) + 1) = ((i + 1 : Nat) : Int) from by rw [w64_id] <;> omega]
  exact ref_Cmp1_self ha d (i + 1) (by omega)
theorem ref_Cmp_self {a : Arr} (ha : Flat a) : p_triglyphref03_Cmp (a, a) = some 0 := by
 rw [p_triglyphref03_Cmp]
 have h0 := ref_Cmp0_self ha.shape _ 0 (Nat.zero_add _)
 have h1 := ref_Cmp1_self ha _ 0 (Nat.zero_add _)
 simp only [Int.ofNat_zero, Int.natCast_zero] at h0 h1
 simp [ints_eq, cmpI_self, h0, h1]
end Go.AM.Seat

namespace Go.AM.Seat
open Go Go.AM
set_option linter.unusedVariables false
inductive GN : Node → Prop where
 | mk {n : Node} : Flat n.lit → n.name.length ≤ 9000 → n.kids.length ≤ 4096 → (∀ x ∈ n.kids, GN x) → GN n
inductive Sm : Node → Node → Prop where
 | mk {a b : Node} : a.kind = b.kind → a.op_ = b.op_ → a.name = b.name → a.lit = b.lit → a.kids.length = b.kids.length → (∀ (i : Nat) (x y : Node), a.kids[i]? = some x → b.kids[i]? = some y → Sm x y) → Sm a b
theorem GN.flat {n : Node} (h : GN n) : Flat n.lit := by cases h; assumption
theorem GN.name {n : Node} (h : GN n) : n.name.length ≤ 9000 := by cases h; assumption
theorem GN.len {n : Node} (h : GN n) : n.kids.length ≤ 4096 := by cases h; assumption
theorem GN.kid {n : Node} (h : GN n) {x : Node} (hx : x ∈ n.kids) : GN x := by cases h with | mk _ _ _ k => exact k x hx
theorem Sm.symm {a b : Node} (h : Sm a b) : Sm b a := by
 induction h with
 | mk h1 h2 h3 h4 h5 _ ih => exact .mk h1.symm h2.symm h3.symm h4.symm h5.symm fun i x y hx hy => ih i y x hy hx
theorem GN.refl {a : Node} (h : GN a) : Sm a a := by
 induction h with
 | mk _ _ _ _ ih => exact .mk rfl rfl rfl rfl rfl fun i x y hx hy => by rw [hx, Option.some.injEq] at hy; subst hy; exact ih _ (List.mem_of_getElem? hx)
theorem core_Same_T {a : Node} (ha : GN a) : ∀ {b : Node}, GN b → T (p_core_Same (a, b)) fun r => r = true ↔ Sm a b := by
 induction ha with
 | @mk a h1 h2 h3 hk ih =>
  intro b hb
  have loop : a.kids.length = b.kids.length → ∀ d i, i + d = a.kids.length → T (p_core_Same_l0 (a, b, (i : Int))) fun r => match r with
    | .ok _ => ∀ (j : Nat) (x y : Node), i ≤ j → a.kids[j]? = some x → b.kids[j]? = some y → Sm x y
    | .error r => r = false ∧ ∃ (j : Nat) (x y : Node), a.kids[j]? = some x ∧ b.kids[j]? = some y ∧ ¬ Sm x y := by
   intro hl d
   induction d with
   | zero =>
    intro i hi
    rw [p_core_Same_l0, if_neg (by simp; omega)]
    exact .ret fun j x y h hx hy => by rw [List.getElem?_eq_none (by omega)] at hx; simp at hx
   | succ d ihd =>
    intro i hi
    rw [p_core_Same_l0, if_pos (by simp; omega)]
    have ea : lget a.kids (i : Int) = some a.kids[i] := lget_some (by omega)
    have eb : lget b.kids (i : Int) = some b.kids[i] := lget_some (by omega)
    simp only [ea, eb, Option.bind_eq_bind, Option.bind_some]
    refine T.bind (ih _ (List.getElem_mem _) (hb.kid (List.getElem_mem _))) fun r hr => ?_
    cases r with
    | false =>
     rw [if_pos (by rfl)]
     exact .ret ⟨rfl, i, _, _, getD_of (by omega), getD_of (by omega), fun h => by simpa using hr.2 h⟩
    | true =>
     rw [if_neg (by decide), show w64 ((i : Int) + 1) = ((i + 1 : Nat) : Int) from by rw [w64_id] <;> omega]
     refine (ihd (i + 1) (by omega)).imp fun r' hr' => ?_
     cases r' with
     | error o => exact hr'
     | ok u =>
      intro j x y h hx hy
      by_cases e : j = i
      ·subst e
       rw [getD_of (by omega), Option.some.injEq] at hx hy
       subst hx; subst hy
       exact hr.1 rfl
      ·exact hr' j x y (by omega) hx hy
  have no : ∀ {p : Prop}, (Sm a b → p) → ¬ p → T (some false) fun r => r = true ↔ Sm a b := fun h hp => .ret ⟨fun h => by simp at h, fun h' => absurd (h h') hp⟩
  rw [p_core_Same]
  refine T.ite (fun h => no (p := a.kind = b.kind) (fun h => by cases h; assumption) (by simpa using h)) fun e1 => ?_
  refine T.ite (fun h => no (p := a.op_ = b.op_) (fun h => by cases h; assumption) (by simpa using h)) fun e2 => ?_
  refine T.ite (fun h => no (p := a.name = b.name) (fun h => by cases h; assumption) (by simpa using h)) fun e3 => ?_
  refine T.bind (arr_Same_T h1 hb.flat) fun r hr => ?_
  refine T.ite (fun h => no (p := a.lit = b.lit) (fun h => by cases h; assumption) (fun h' => by have := hr.2 h'; simp [this] at h)) fun e4 => ?_
  refine T.ite (fun h => no (p := a.kids.length = b.kids.length) (fun h => by cases h; assumption) (by simp at h; omega)) fun e5 => ?_
  have hl : a.kids.length = b.kids.length := by simp at e5; omega
  refine T.bind (loop hl _ 0 (Nat.zero_add _)) fun r' hr' => ?_
  cases r' with
  | error o =>
   obtain ⟨rfl, j, x, y, hx, hy, hn⟩ := hr'
   exact no (p := Sm x y) (fun h => by cases h with | mk _ _ _ _ _ k => exact k j x y hx hy) hn
  | ok u =>
   refine .ret ⟨fun _ => .mk (by simpa using e1) (by simpa using e2) (by simpa using e3) (hr.1 (by simpa using e4)) hl fun i x y hx hy => hr' i x y (Nat.zero_le _) hx hy, fun _ => rfl⟩
theorem ref_Same_T {a : Node} (ha : GN a) : ∀ {b : Node}, GN b → Sm a b → p_triglyphref10_Same (a, b) = some true := by
 induction ha with
 | @mk a h1 h2 h3 hk ih =>
  intro b hb hs
  cases hs with
  | mk q1 q2 q3 q4 q5 q6 =>
  have loop : ∀ d i, i + d = a.kids.length → p_triglyphref10_Same_l0 (a, b, (i : Int)) = some (.ok ()) := by
   intro d
   induction d with
   | zero =>
    intro i hi
    rw [p_triglyphref10_Same_l0, if_neg (by simp; omega)]
   | succ d ihd =>
    intro i hi
    rw [p_triglyphref10_Same_l0, if_pos (by simp; omega)]
    have ea : lget a.kids (i : Int) = some a.kids[i] := lget_some (by omega)
    have eb : lget b.kids (i : Int) = some b.kids[i] := lget_some (by omega)
    simp only [ea, eb, Option.bind_eq_bind, Option.bind_some]
    rw [ih _ (List.getElem_mem _) (hb.kid (List.getElem_mem _)) (q6 i _ _ (getD_of (by omega)) (getD_of (by omega)))]
    simp only [Option.bind_some, Bool.not_true, Bool.false_eq_true, if_false]
    rw [show w64 ((i : Int) + 1) = ((i + 1 : Nat) : Int) from by rw [w64_id] <;> omega]
    exact ihd (i + 1) (by omega)
  have h0 := loop _ 0 (Nat.zero_add _)
  simp only [Int.ofNat_zero, Int.natCast_zero] at h0
  have hc : p_triglyphref03_Cmp (a.lit, b.lit) = some 0 := by rw [← q4]; exact ref_Cmp_self h1
  rw [p_triglyphref10_Same]
  simp [q1, q2, q3, q5, hc, h0]
end Go.AM.Seat

namespace Go.AM.Seat
open Go Go.AM
set_option linter.unusedVariables false
set_option maxRecDepth 10000
theorem Eqb {α β : Type} {x y : Option α} {f g : α → Option β} (h : x = y) (k : ∀ v, f v = g v) : (x >>= f) = (y >>= g) := by
 subst h; congr 1; funext v; exact k v
theorem Eqi {α : Type} {c : Bool} {a b a' b' : Option α} (h : a = a') (k : b = b') : (if c = true then a else b) = (if c = true then a' else b') := by rw [h, k]
theorem Eqic {α : Type} {c : Bool} {a b a' b' : Option α} (h : c = true → a = a') (k : c = false → b = b') : (if c = true then a else b) = (if c = true then a' else b') := by
 cases c
 ·exact k rfl
 ·exact h rfl
structure St (a b : Node) : Prop where
 expr : ∀ w, p_spell_writer_expr (a, w) = p_spell_writer_expr (b, w)
 call : ∀ w, p_spell_writer_call (a, w) = p_spell_writer_call (b, w)
 operand : ∀ w, p_spell_writer_operand (a, w) = p_spell_writer_operand (b, w)
 applied : ∀ w, p_spell_writer_applied (a, w) = p_spell_writer_applied (b, w)
 function : ∀ w, p_spell_writer_function (a, w) = p_spell_writer_function (b, w)
 base : ∀ w, p_spell_writer_base (a, w) = p_spell_writer_base (b, w)
theorem kids_bind {a b : Node} {β : Type} {f g : Node → Option β} {i : Int} (hl : a.kids.length = b.kids.length) (hk : ∀ (i : Nat) (x y : Node), a.kids[i]? = some x → b.kids[i]? = some y → St x y)
  (h : ∀ x y, St x y → f x = g y) : (lget a.kids i >>= f) = (lget b.kids i >>= g) := by
 unfold lget
 split
 ·by_cases hi : i.toNat < a.kids.length
  ·have h1 := getD_of hi
   have h2 := getD_of (show i.toNat < b.kids.length by omega)
   rw [h1, h2]
   exact h _ _ (hk _ _ _ h1 h2)
  ·rw [List.getElem?_eq_none (by omega), List.getElem?_eq_none (by omega)]; rfl
 ·rfl
theorem Eqbk {α β : Type} {x : Option α} {f g : α → Option β} (k : ∀ v, x = some v → f v = g v) : (x >>= f) = (x >>= g) := by
 cases x with
 | none => rfl
 | some v => exact k v rfl
theorem Sm.st {a b : Node} (h : Sm a b) : GN a → St a b := by
 induction h with
 | @mk a b h1 h2 h3 h4 hl _ hk0 =>
  intro hga
  have hk : ∀ (i : Nat) (x y : Node), a.kids[i]? = some x → b.kids[i]? = some y → St x y := fun i x y hx hy => hk0 i x y hx hy (hga.kid (List.mem_of_getElem? hx))
  have hlen := hga.len
  have hfits : ∀ k w, p_spell_writer_fits a k w = p_spell_writer_fits b k w := by intro k w; unfold p_spell_writer_fits; rw [hl]
  have loop : ∀ w d i o n bd, i + d = a.kids.length → p_spell_writer_function_l0 (a, w, (i : Int), o, n, bd) = p_spell_writer_function_l0 (b, w, (i : Int), o, n, bd) := by
   intro w d
   induction d with
   | zero =>
    intro i o n bd hi
    rw [p_spell_writer_function_l0, p_spell_writer_function_l0, if_neg (by simp; omega), if_neg (by simp; omega)]
   | succ d ih =>
    intro i o n bd hi
    rw [p_spell_writer_function_l0, p_spell_writer_function_l0, if_pos (by simp; omega), if_pos (by simp; omega)]
    refine kids_bind hl hk fun x y hxy => Eqb (hxy.function _) fun v => ?_
    obtain ⟨o', n', b'⟩ := v
    show p_spell_writer_function_l0 (a, w, w64 ((i : Int) + 1), _, _, _) = p_spell_writer_function_l0 (b, w, w64 ((i : Int) + 1), _, _, _)
    rw [show w64 ((i : Int) + 1) = ((i + 1 : Nat) : Int) from by rw [w64_id] <;> omega]
    exact ih (i + 1) _ _ _ (by omega)
  have hlam : ∀ w, p_spell_writer_lambda (a, w) = p_spell_writer_lambda (b, w) := by
   intro w
   rw [p_spell_writer_lambda, p_spell_writer_lambda, h1]
   repeat' (first | with_reducible rfl | exact St.expr (by assumption) _ | (refine kids_bind hl hk fun _ _ _ => ?_) | refine Eqi ?_ ?_ | refine Eqb ?_ (fun _ => ?_))
  have hfun : ∀ w, p_spell_writer_function (a, w) = p_spell_writer_function (b, w) := by
   intro w
   rw [p_spell_writer_function, p_spell_writer_function, h1, h2, h3, hfits]
   have hloop : ∀ o n bd, p_spell_writer_function_l0 (a, w, 0, o, n, bd) = p_spell_writer_function_l0 (b, w, 0, o, n, bd) := fun o n bd => loop w _ 0 o n bd (Nat.zero_add _)
   repeat' (first | with_reducible rfl | exact St.function (by assumption) _ | exact St.base (by assumption) _ | exact hlam _ | exact hloop _ _ _ | (refine kids_bind hl hk fun _ _ _ => ?_) | refine Eqi ?_ ?_ | refine Eqb ?_ (fun _ => ?_))
  have happ : ∀ w, p_spell_writer_applied (a, w) = p_spell_writer_applied (b, w) := by
   intro w
   rw [p_spell_writer_applied, p_spell_writer_applied, h1]
   repeat' (first | with_reducible rfl | exact hfun _ | refine Eqi ?_ ?_ | refine Eqb ?_ (fun _ => ?_))
  have hcall : ∀ w, p_spell_writer_call (a, w) = p_spell_writer_call (b, w) := by
   intro w
   rw [p_spell_writer_call, p_spell_writer_call, h1, h2, hfits]
   repeat' (first | with_reducible rfl | exact happ _ | exact St.function (by assumption) _ | (refine kids_bind hl hk fun _ _ _ => ?_) | refine Eqi ?_ ?_ | refine Eqb ?_ (fun _ => ?_))
  have hbase : ∀ w, p_spell_writer_base (a, w) = p_spell_writer_base (b, w) := by
   intro w
   rw [p_spell_writer_base, p_spell_writer_base, h1]
   repeat' (first | with_reducible rfl | exact hfun _ | refine Eqi ?_ ?_ | refine Eqb ?_ (fun _ => ?_))
  have hexpr0 : b.kind = 5 ∨ b.kind = 6 → ∀ w, p_spell_writer_expr (a, w) = p_spell_writer_expr (b, w) := by
   intro hb w
   rw [p_spell_writer_expr, p_spell_writer_expr, h1, hfits, hfits]
   refine Eqic (fun _ => ?_) fun e => ?_
   ·repeat' (first | with_reducible rfl | exact St.call (by assumption) _ | exact St.expr (by assumption) _ | (refine kids_bind hl hk fun _ _ _ => ?_) | refine Eqi ?_ ?_ | refine Eqb ?_ (fun _ => ?_))
   ·refine Eqic (fun _ => ?_) fun e' => ?_
    ·repeat' (first | with_reducible rfl | exact St.operand (by assumption) _ | exact St.applied (by assumption) _ | exact St.expr (by assumption) _ | (refine kids_bind hl hk fun _ _ _ => ?_) | refine Eqi ?_ ?_ | refine Eqb ?_ (fun _ => ?_))
    ·exfalso
     simp at e e'
     rcases hb with h | h
     ·exact e h
     ·exact e' h
  have hop : ∀ w, p_spell_writer_operand (a, w) = p_spell_writer_operand (b, w) := by
   intro w
   rw [p_spell_writer_operand, p_spell_writer_operand, h1, h3, h4, hfits]
   simp only [hfits]
   have : ∀ (x : Bool) w, (if (b.kind == 5) then some (b.kind == 5) else some (b.kind == 6)) = some x → x = true → p_spell_writer_expr (a, w) = p_spell_writer_expr (b, w) := by
    intro x w hx hx'
    subst hx'
    refine hexpr0 ?_ w
    split at hx
    ·rename_i h; exact .inl (by simpa using h)
    ·simp only [Option.some.injEq] at hx; exact .inr (by simpa using hx)
   refine Eqi rfl (Eqi rfl (Eqi rfl (Eqi rfl (Eqi ?_ ?_))))
   ·repeat' (first | with_reducible rfl | exact St.operand (by assumption) _ | exact St.expr (by assumption) _ | (refine kids_bind hl hk fun _ _ _ => ?_) | refine Eqi ?_ ?_ | refine Eqb ?_ (fun _ => ?_))
   ·refine Eqbk fun v hv => Eqic (fun hx => ?_) fun _ => rfl
    refine Eqb rfl fun _ => Eqb (this _ _ hv hx) fun _ => rfl
  have hexpr : ∀ w, p_spell_writer_expr (a, w) = p_spell_writer_expr (b, w) := by
   intro w
   by_cases hb : b.kind = 5 ∨ b.kind = 6
   ·exact hexpr0 hb w
   ·rw [p_spell_writer_expr, p_spell_writer_expr, h1, hfits, hfits]
    refine Eqic (fun e => absurd (.inl (by simpa using e)) hb) fun e => Eqic (fun e => absurd (.inr (by simpa using e)) hb) fun e' => ?_
    exact Eqb (hop _) fun _ => rfl
  exact ⟨hexpr, hcall, hop, happ, hfun, hbase⟩
end Go.AM.Seat

namespace Go.AM.Seat
open Go Go.AM
set_option linter.unusedVariables false
theorem w64_succ {i : Nat} (h : i < 9223372036854775000) : w64 ((i : Int) + 1) = ((i + 1 : Nat) : Int) := by rw [w64_id] <;> omega
theorem arr_Size_T {shape : List Int} (hl : shape.length ≤ 1) : T (p_arr_Size shape) fun _ => True := by
 have l0 : ∀ d i nn, i + d = shape.length → T (p_arr_Size_l0 (shape, nn, (i : Int))) fun _ => True := by
  intro d
  induction d with
  | zero =>
   intro i nn hi
   rw [p_arr_Size_l0, if_neg (by simp; omega)]
   exact .ret trivial
  | succ d ih =>
   intro i nn hi
   rw [p_arr_Size_l0, if_pos (by simp; omega), w64_succ (by omega)]
   refine T.bind (R := fun _ => True) ?_ fun r _ => ?_
   ·refine T.bind (T.lget (Q := fun _ => True) (by omega) (by omega) fun _ _ => trivial) fun v _ => ?_
    exact T.ite (fun _ => .ret trivial) fun _ => T.ite (fun _ => .ret trivial) fun _ => .ret trivial
   ·cases r with
    | error e => exact .ret trivial
    | ok b => exact ih (i + 1) b (by omega)
 unfold p_arr_Size
 refine T.ite (fun _ => .ret trivial) fun _ => ?_
 refine T.bind (l0 _ 0 false (Nat.zero_add _)) fun r _ => ?_
 cases r with
 | error e => exact .ret trivial
 | ok b =>
  refine T.ite (fun _ => .ret trivial) fun _ => ?_
  refine T.bind (R := fun _ => True) ?_ fun r _ => by cases r <;> exact .ret trivial
  match h : shape with
  | [] => rw [p_arr_Size_l1, if_neg (by simp)]; exact .ret trivial
  | [x] =>
   rw [p_arr_Size_l1, if_pos (by simp)]
   refine T.bind (T.lget (Q := fun _ => True) (by omega) (by simp) fun _ _ => trivial) fun v _ => ?_
   refine T.bind (R := fun _ => True) ⟨_, rfl, trivial⟩ fun q _ => ?_
   refine T.ite (fun _ => .ret trivial) fun _ => ?_
   rw [p_arr_Size_l1, if_neg (by rw [w64_id] <;> simp)]
   exact .ret trivial
  | x :: y :: r => simp at hl
theorem arr_good_T (n : Int) : T (p_arr_good n) fun _ => True := by
 unfold p_arr_good
 repeat' (first | exact .ret trivial | refine T.ite (fun _ => ?_) fun _ => ?_)
theorem runes_Good_T (n : Int) : T (p_runes_Good n) fun _ => True := by
 unfold p_runes_Good
 repeat' (first | exact .ret trivial | refine T.ite (fun _ => ?_) fun _ => ?_)
theorem arr_check_T {a : Arr} (ha : Flat a) (deep : Int) : T (p_arr_check (a, deep)) fun _ => True := by
 have hs := ha.shape
 have hc := ha.len
 have l0 : ∀ d i, i + d = a.shape.length → T (p_arr_check_l0 (a, (i : Int))) fun _ => True := by
  intro d
  induction d with
  | zero => intro i hi; rw [p_arr_check_l0, if_neg (by simp; omega)]; exact .ret trivial
  | succ d ih =>
   intro i hi
   rw [p_arr_check_l0, if_pos (by simp; omega), w64_succ (by omega)]
   refine T.bind (T.lget (Q := fun _ => True) (by omega) (by omega) fun _ _ => trivial) fun v _ => ?_
   exact T.ite (fun _ => .ret trivial) fun _ => ih (i + 1) (by omega)
 have l1 : ∀ d i, i + d = a.cells.length → T (p_arr_check_l1 (a, deep, (i : Int))) fun _ => True := by
  intro d
  induction d with
  | zero => intro i hi; rw [p_arr_check_l1, if_neg (by simp; omega)]; exact .ret trivial
  | succ d ih =>
   intro i hi
   rw [p_arr_check_l1, if_pos (by simp; omega), w64_succ (by omega)]
   refine T.bind (R := fun _ => True) ?_ fun r _ => ?_
   ·refine T.bind (T.lget (Q := fun c => c.box = []) (by omega) (by omega) fun c hc => ha.box c (List.mem_of_getElem? hc)) fun v hv => ?_
    rw [hv]
    have hg := arr_good_T v.n
    repeat' (first | exact .ret trivial | (exfalso; simp at *; done) | refine T.ite (fun _ => ?_) fun _ => ?_ | refine T.bind hg fun _ _ => ?_)
   ·cases r with
    | error e => exact .ret trivial
    | ok b => exact ih (i + 1) (by omega)
 rw [p_arr_check]
 refine T.bind (arr_Size_T ha.shape) fun r _ => ?_
 refine T.ite (fun _ => .ret trivial) fun _ => T.ite (fun _ => .ret trivial) fun _ => ?_
 refine T.bind (l0 _ 0 (Nat.zero_add _)) fun r _ => ?_
 cases r with
 | error e => exact .ret trivial
 | ok b =>
  refine T.bind (l1 _ 0 (Nat.zero_add _)) fun r _ => ?_
  cases r <;> exact .ret trivial
theorem core_Literal_T {a : Arr} (ha : Flat a) : T (p_core_Literal a) fun _ => True := by
 have hc := ha.len
 have l0 : ∀ d i, i + d = a.cells.length → T (p_core_Literal_l0 (a, (i : Int))) fun _ => True := by
  intro d
  induction d with
  | zero => intro i hi; rw [p_core_Literal_l0, if_neg (by simp; omega)]; exact .ret trivial
  | succ d ih =>
   intro i hi
   rw [p_core_Literal_l0, if_pos (by simp; omega), w64_succ (by omega)]
   refine T.bind (R := fun _ => True) ?_ fun r _ => ?_
   ·refine T.bind (T.lget (Q := fun _ => True) (by omega) (by omega) fun _ _ => trivial) fun v _ => ?_
    refine T.ite (fun _ => .ret trivial) fun _ => ?_
    refine T.bind (T.lget (Q := fun _ => True) (by omega) (by omega) fun _ _ => trivial) fun v _ => ?_
    repeat' (first | exact .ret trivial | refine T.ite (fun _ => ?_) fun _ => ?_)
   ·cases r with
    | error e => exact .ret trivial
    | ok b => exact ih (i + 1) (by omega)
 have l1 : ∀ d i, i + d = a.cells.length → T (p_core_Literal_l1 (a, (i : Int))) fun _ => True := by
  intro d
  induction d with
  | zero => intro i hi; rw [p_core_Literal_l1, if_neg (by simp; omega)]; exact .ret trivial
  | succ d ih =>
   intro i hi
   rw [p_core_Literal_l1, if_pos (by simp; omega), w64_succ (by omega)]
   refine T.bind (R := fun _ => True) ?_ fun r _ => ?_
   ·refine T.bind (T.lget (Q := fun _ => True) (by omega) (by omega) fun _ _ => trivial) fun v _ => ?_
    refine T.ite (fun _ => .ret trivial) fun _ => ?_
    refine T.bind (T.lget (Q := fun _ => True) (by omega) (by omega) fun _ _ => trivial) fun v _ => ?_
    repeat' (first | exact .ret trivial | refine T.ite (fun _ => ?_) fun _ => ?_)
   ·cases r with
    | error e => exact .ret trivial
    | ok b => exact ih (i + 1) (by omega)
 have h0 := l0 _ 0 (Nat.zero_add _)
 have h1 := l1 _ 0 (Nat.zero_add _)
 unfold p_core_Literal p_arr_Check
 refine T.bind (R := fun _ => True) (T.bind (arr_check_T ha 0) fun _ _ => .ret trivial) fun x _ => ?_
 refine T.ite (fun _ => .ret trivial) fun _ => T.ite (fun _ => .ret trivial) fun _ => T.ite (fun _ => T.ite (fun _ => .ret trivial) fun _ => ?_) fun _ => ?_
 ·refine T.bind h0 fun r _ => by cases r <;> exact .ret trivial
 ·refine T.bind h1 fun r _ => by cases r <;> exact .ret trivial
theorem enc_len (i : Int) : (Utf8.encode i).data.toList.length ≤ 4 := by
 have := encode_size_le i
 simpa using this
theorem digits_T : ∀ (d : Nat) (n : Int), d ≤ 30 → 0 ≤ n → n < 18446744073709551616 → n < 10 ^ (d + 1) → T (p_spell_digits n) fun s => s.length ≤ 4 * (d + 1)
 | 0, n, hd, h0, h1, h2 => by
  rw [p_spell_digits, if_neg (by simp; omega)]
  refine T.bind (T.ret (Q := fun s => s = ([] : Str)) rfl) fun s hs => ?_
  subst hs
  refine T.bind (T.scat (Q := fun s => s.length ≤ 4) ?_ ?_) fun s hs => .ret (by omega)
  ·have := enc_len (IntKind.i32.wrap (IntKind.u64.wrap (48 + (Int.tmod n 10)))); simp only [List.length_nil]; omega
  ·have := enc_len (IntKind.i32.wrap (IntKind.u64.wrap (48 + (Int.tmod n 10)))); simpa using this
 | d + 1, n, hd, h0, h1, h2 => by
  rw [p_spell_digits]
  have hw : IntKind.u64.wrap (Int.tdiv n 10) = n / 10 := by
   rw [Int.tdiv_eq_ediv_of_nonneg h0]
   show (n / 10) % 18446744073709551616 = n / 10
   omega
  refine T.bind (R := fun s : Str => s.length ≤ 4 * (d + 1)) ?_ fun s hs => ?_
  ·refine T.ite (fun _ => ?_) fun _ => .ret (by simp)
   rw [hw]
   refine T.bind (digits_T d (n / 10) (by omega) (by omega) (by omega) (by rw [Int.pow_succ] at h2; omega)) fun s hs => .ret hs
  ·have he := enc_len (IntKind.i32.wrap (IntKind.u64.wrap (48 + (Int.tmod n 10))))
   exact T.bind (T.scat (Q := fun s : Str => s.length ≤ 4 * (d + 1 + 1)) (by omega) (by rw [List.length_append]; omega)) fun s hs => .ret hs
theorem Number_T {n : Int} {m : Str} (hm : m.length ≤ 1000) : T (p_spell_Number n m) fun s => s.length ≤ 1100 := by
 have hd : ∀ x : Int, T (p_spell_digits (IntKind.u64.wrap x)) fun s => s.length ≤ 84 := by
  intro x
  have h : IntKind.u64.wrap x = x % 18446744073709551616 := rfl
  exact (digits_T 20 (IntKind.u64.wrap x) (by omega) (by omega) (by omega) (by rw [h]; omega)).imp fun s hs => by omega
 unfold p_spell_Number
 refine T.ite (fun _ => ?_) fun _ => T.bind (hd _) fun s hs => .ret (by omega)
 refine T.bind (hd _) fun s hs => T.bind (T.scat (Q := fun s : Str => s.length ≤ 1100) (by omega) (by rw [List.length_append]; omega)) fun s hs => .ret hs
theorem sign_T {s : Str} {g : Grammar} (h : s.length ≤ 100) : T (p_spell_sign s g) fun r => r.length ≤ 101 := by
 have hs : ∀ {Q : Str → Prop}, Q ([92] ++ s) → T (scat [92] s) Q := fun h' => T.scat (by simp; omega) h'
 unfold p_spell_sign
 refine T.bind (R := fun r => match r with | .error e => e.length ≤ 101 | .ok _ => True) ?_ fun r hr => by
  cases r with
  | error e => exact .ret hr
  | ok u => exact .ret (by omega)
 repeat' (first | exact .ret trivial | exact .ret (show List.length _ ≤ 101 by simp) | (refine T.bind (hs (Q := fun r => r.length ≤ 101) (by simp; omega)) fun r hr => .ret hr) | refine T.ite (fun _ => ?_) fun _ => ?_)
theorem put_full_T (n : Int) : T (p_runes_put_full [] n) fun r => r.length ≤ 4 := by
 unfold p_runes_put_full
 repeat' (first | (refine T.bind (T.lapp (Q := fun r => r.length ≤ 4) (by simp) (by simp)) fun r hr => .ret hr) | refine T.ite (fun _ => ?_) fun _ => ?_)
theorem runes_Write_T (n : Int) : T (p_runes_Write [n]) fun r => r.1.length ≤ 4 := by
 unfold p_runes_Write
 refine T.bind (R := fun r => match r with | .error e => e.1.length ≤ 4 | .ok b => b.length ≤ 4) ?_ fun r hr => by
  cases r with
  | error e => exact .ret hr
  | ok u => exact .ret hr
 rw [p_runes_Write_l0, if_pos (by simp)]
 refine T.bind (T.lget (Q := fun _ => True) (by omega) (by simp) fun _ _ => trivial) fun v _ => ?_
 refine T.bind (runes_Good_T v) fun x _ => T.ite (fun _ => .ret (by simp)) fun _ => ?_
 refine T.bind (R := fun l => l = []) ⟨[], rfl, rfl⟩ fun l hl => ?_
 subst hl
 refine T.bind (put_full_T v) fun b hb => ?_
 rw [p_runes_Write_l0, if_neg (by rw [w64_id] <;> simp)]
 exact .ret hb
theorem lens_le {l : List Str} {K : Nat} (h : ∀ s ∈ l, s.length ≤ K) : Lib.lens l ≤ K * l.length := by
 induction l with
 | nil => simp [Lib.lens]
 | cons a l ih =>
  have h1 := ih fun s hs => h s (List.mem_cons_of_mem _ hs)
  have h2 := h a List.mem_cons_self
  simp only [Lib.lens, List.map_cons, List.sum_cons, List.length_cons, Nat.mul_add] at h1 ⊢
  omega
theorem Join_T {l : List Str} {sep : Str} {K : Nat} (hl : l.length ≤ 100000) (hK : K ≤ 100000000) (hs : sep.length ≤ 1) (h : ∀ s ∈ l, s.length ≤ K) : T (go_Join l sep) fun r => r.length ≤ (K + 1) * l.length := by
 have hlen : (Lib.join l sep).length ≤ (K + 1) * l.length := by
  cases l with
  | nil => simp [Lib.join_nil]
  | cons x r =>
   rw [Lib.join_length]
   have := lens_le h
   have h3 : sep.length * r.length ≤ 1 * r.length := Nat.mul_le_mul_right _ hs
   simp only [List.length_cons, Nat.add_mul, Nat.mul_add] at this ⊢
   omega
 have hb : (K + 1) * l.length ≤ 100000001 * 100000 := Nat.mul_le_mul (by omega) hl
 refine ⟨Lib.join l sep, ?_, hlen⟩
 show joinS l sep = _
 unfold joinS
 rw [if_pos ⟨by omega, by omega⟩]
structure Short (g : Grammar) : Prop where
 outer : g.outer.length ≤ 1000
 power : g.power.length ≤ 1000
 open_ : g.open_.length ≤ 1000
 close : g.close.length ≤ 1000
 left : g.left.length ≤ 1000
 right : g.right.length ≤ 1000
 minus : g.minus.length ≤ 1000
 quote : g.quote.length ≤ 1000
theorem spell_Literal_T {a : Arr} {g : Grammar} (ha : Flat a) (hg : Short g) : T (p_spell_Literal a g) fun r => r.1.length ≤ 20000000 := by
 have hc := ha.len
 have l0 : ∀ d i l, i + d = a.cells.length → l.length = i → (∀ s ∈ l, s.length ≤ 1100) → T (p_spell_Literal_l0 (a, g, l, (i : Int))) fun r => r.length ≤ 9000 ∧ ∀ s ∈ r, s.length ≤ 1100 := by
  intro d
  induction d with
  | zero => intro i l hi hl hs; rw [p_spell_Literal_l0, if_neg (by simp; omega)]; exact .ret ⟨by omega, hs⟩
  | succ d ih =>
   intro i l hi hl hs
   rw [p_spell_Literal_l0, if_pos (by simp; omega), w64_succ (by omega)]
   refine T.bind (T.lget (Q := fun _ => True) (by omega) (by omega) fun _ _ => trivial) fun v _ => ?_
   refine T.bind (Number_T hg.minus) fun s hs' => T.bind (T.lapp (Q := fun r => r = l ++ [s]) (by simp; omega) rfl) fun r hr => ?_
   subst hr
   refine ih (i + 1) _ (by omega) (by simp [hl]) fun t ht => ?_
   rcases List.mem_append.1 ht with h | h
   ·exact hs t h
   ·rw [List.mem_singleton] at h; subst h; exact hs'
 have l1 : ∀ d i l, i + d = a.cells.length → l.length = i → (∀ s ∈ l, s.length ≤ 1100) → T (p_spell_Literal_l1 (a, g, l, (i : Int))) fun r => r.length ≤ 9000 ∧ ∀ s ∈ r, s.length ≤ 1100 := by
  intro d
  induction d with
  | zero => intro i l hi hl hs; rw [p_spell_Literal_l1, if_neg (by simp; omega)]; exact .ret ⟨by omega, hs⟩
  | succ d ih =>
   intro i l hi hl hs
   rw [p_spell_Literal_l1, if_pos (by simp; omega), w64_succ (by omega)]
   refine T.bind (T.lget (Q := fun _ => True) (by omega) (by omega) fun _ _ => trivial) fun v _ => ?_
   refine T.bind (runes_Write_T _) fun b hb => T.bind (sign_T (by simp only [bstr, List.length_map]; omega)) fun s hs' => T.bind (T.lapp (Q := fun r => r = l ++ [s]) (by simp; omega) rfl) fun r hr => ?_
   subst hr
   refine ih (i + 1) _ (by omega) (by simp [hl]) fun t ht => ?_
   rcases List.mem_append.1 ht with h | h
   ·exact hs t h
   ·rw [List.mem_singleton] at h; subst h; omega
 have h0 := l0 _ 0 [] (Nat.zero_add _) rfl (by simp)
 have h1 := l1 _ 0 [] (Nat.zero_add _) rfl (by simp)
 have hq := hg.quote
 have fin : ∀ {l : List Str} {sep : Str}, sep.length ≤ 1 → l.length ≤ 9000 ∧ (∀ s ∈ l, s.length ≤ 1100) → T (go_Join l sep) fun r => r.length ≤ 10000000 := by
  intro l sep hsep hl
  exact (Join_T (K := 1100) (by omega) (by omega) hsep hl.2).imp fun r hr => by omega
 unfold p_spell_Literal
 refine T.bind (core_Literal_T ha) fun x _ => T.ite (fun _ => .ret (by simp)) fun _ => T.ite (fun hlen => ?_) fun hlen => ?_
 ·refine T.bind (T.lget (Q := fun _ => True) (by omega) (by simpa using hlen) fun _ _ => trivial) fun v _ => T.ite (fun _ => ?_) fun _ => ?_
  ·refine T.bind h0 fun l hl => T.bind (fin (by simp) hl) fun r hr => .ret (by show r.length ≤ _; omega)
  ·refine T.bind h1 fun l hl => T.bind (fin (by simp) hl) fun r hr => ?_
   refine T.bind (T.scat (Q := fun s : Str => s.length ≤ 10001000) (by omega) (by rw [List.length_append]; omega)) fun s hs => ?_
   exact T.bind (T.scat (Q := fun s : Str => s.length ≤ 20000000) (by omega) (by rw [List.length_append]; omega)) fun s hs => .ret hs
 ·have hz : a.cells.length = 0 := by simpa using hlen
  have h2 : T (p_spell_Literal_l2 (a, g, [], 0)) fun r => r.length ≤ 9000 ∧ ∀ s ∈ r, s.length ≤ 1100 := by
   rw [p_spell_Literal_l2, if_neg (by rw [hz]; simp)]; exact .ret (by simp)
  refine T.bind h2 fun l hl => T.bind (fin (by simp) hl) fun r hr => ?_
  refine T.bind (T.scat (Q := fun s : Str => s.length ≤ 10001000) (by omega) (by rw [List.length_append]; omega)) fun s hs => ?_
  exact T.bind (T.scat (Q := fun s : Str => s.length ≤ 20000000) (by omega) (by rw [List.length_append]; omega)) fun s hs => .ret hs
end Go.AM.Seat
