/- Part of a proof about the given program: the abstract machine, the printed functions, the plain laws. (JLF16, JLF8, JLF7, JLF5) -/
import Derived.Test.YtbhjnlilfidalaaDoorA5
set_option linter.all false
set_option linter.unusedSectionVars false
set_option linter.unusedVariables false
set_option linter.unusedSimpArgs false

namespace Go.AM.Seat
open Go Go.AM Go.Proofs
set_option maxRecDepth 100000
set_option maxHeartbeats 4000000
set_option linter.unusedVariables false

theorem p_jlex_word_l0_ok : ∀ (a : Str × ((List Token)) × Int) (res : Except (Token × Int × Fault) (Unit)), p_jlex_word_l0 a = some res → (match a with | (s, x7, x8) => awpL X 16 (codeAt [1, 1, 1, 1, 0, 1, 0, 0] (bodyOf Tryd.f16)) (cleanAt (X.H 16 19) 3) (exitQ 1 (X.H 16 1000001) 3 (SubQ X Tryd.f16 0 (fun (r : Token × Int × Fault) => (CRes.ret (.tuple [.d (encToken r.1), .d (.int .i64 r.2.1), .d (encFault r.2.2)]) [])) (fun (_ : Unit) => (⟨[(2, .c (.ptr 0 0)), (4, .c (.ptr 1 0)), (5, .c (.ptr 2 0))], [(2, [.d (.int .i64 (Fault.mk 2 0 0).err), .d (.int .i64 (Fault.mk 2 0 0).at_), .d (.int .i64 (Fault.mk 2 0 0).why)]), (1, [.d (.int .i64 0), .d (.int .i64 0), .d (.int .i64 0)]), (0, [.d (.int .i64 0), .d (.str []), .own 1 (List.map (D.int .i64) []), .own 3 (List.map encCell []), .d (.int .i64 0)])], 3, [], none⟩ : St)) res)) ⟨[(0, .d (.str s)), (2, .c (.ptr 0 0)), (4, .c (.ptr 1 0)), (5, .c (.ptr 2 0)), (79, .d (.list 5 (List.map encToken x7))), (80, .d (.int .i64 (List.length x7 : Int))), (81, .d (.int .i64 x8))], [(2, [.d (.int .i64 (Fault.mk 2 0 0).err), .d (.int .i64 (Fault.mk 2 0 0).at_), .d (.int .i64 (Fault.mk 2 0 0).why)]), (1, [.d (.int .i64 0), .d (.int .i64 0), .d (.int .i64 0)]), (0, [.d (.int .i64 0), .d (.str []), .own 1 (List.map (D.int .i64) []), .own 3 (List.map encCell []), .d (.int .i64 0)])], 3, [], none⟩) := by
  refine p_jlex_word_l0.partial_correctness (motive := (fun a res => match a with | (s, x7, x8) => awpL X 16 (codeAt [1, 1, 1, 1, 0, 1, 0, 0] (bodyOf Tryd.f16)) (cleanAt (X.H 16 19) 3) (exitQ 1 (X.H 16 1000001) 3 (SubQ X Tryd.f16 0 (fun (r : Token × Int × Fault) => (CRes.ret (.tuple [.d (encToken r.1), .d (.int .i64 r.2.1), .d (encFault r.2.2)]) [])) (fun (_ : Unit) => (⟨[(2, .c (.ptr 0 0)), (4, .c (.ptr 1 0)), (5, .c (.ptr 2 0))], [(2, [.d (.int .i64 (Fault.mk 2 0 0).err), .d (.int .i64 (Fault.mk 2 0 0).at_), .d (.int .i64 (Fault.mk 2 0 0).why)]), (1, [.d (.int .i64 0), .d (.int .i64 0), .d (.int .i64 0)]), (0, [.d (.int .i64 0), .d (.str []), .own 1 (List.map (D.int .i64) []), .own 3 (List.map encCell []), .d (.int .i64 0)])], 3, [], none⟩ : St)) res)) ⟨[(0, .d (.str s)), (2, .c (.ptr 0 0)), (4, .c (.ptr 1 0)), (5, .c (.ptr 2 0)), (79, .d (.list 5 (List.map encToken x7))), (80, .d (.int .i64 (List.length x7 : Int))), (81, .d (.int .i64 x8))], [(2, [.d (.int .i64 (Fault.mk 2 0 0).err), .d (.int .i64 (Fault.mk 2 0 0).at_), .d (.int .i64 (Fault.mk 2 0 0).why)]), (1, [.d (.int .i64 0), .d (.int .i64 0), .d (.int .i64 0)]), (0, [.d (.int .i64 0), .d (.str []), .own 1 (List.map (D.int .i64) []), .own 3 (List.map encCell []), .d (.int .i64 0)])], 3, [], none⟩)) ?_
  rintro p_jlex_word_l0' ih ⟨s, x7, x8⟩ res h
  refine lg rfl ?_
  refine ra rfl ?_
  refine awp_seq ?_
  rcases ite_inv h with ⟨hc, h⟩ | ⟨hc, h⟩
  · refine ct rfl hc ?_
    refine awp_skip ?_
    refine cn rfl ?_
    refine seqQ.normal ?_
    refine awp_seq ?_
    refine awp_block ?_
    refine awp_seq ?_
    refine rn 0 rfl ?_
    obtain ⟨y, hk, h⟩ := bind_inv h
    refine po (elget encToken (fun _ => rfl) hk rfl rfl rfl rfl rfl) rfl rfl ?_
    refine on (nid' := 4) 3 rfl ?_
    refine rz ?_
    refine awp_seq ?_
    refine rn 3 rfl ?_
    obtain ⟨x9, hk, h⟩ := bind_inv h
    refine po (ecall (p_strings_HasPrefix_ok hk) rfl rfl rfl rfl rfl rfl rfl rfl rfl) rfl rfl ?_
    refine rz ?_
    rcases ite_inv h with ⟨hc, h⟩ | ⟨hc, h⟩
    · refine ct rfl hc ?_
      refine awp_seq ?_
      refine awp_seq ?_
      refine rn 4 rfl ?_
      rcases ite_inv h with ⟨hc, h⟩ | ⟨hc, h⟩
      · refine gt rfl rfl rfl rfl hc rfl ?_
        refine on 1 rfl ?_
        obtain ⟨x10, hk, h⟩ := bind_inv h
        refine po (ecall (p_jlex_at_ok hk) rfl rfl rfl rfl rfl rfl rfl rfl rfl) rfl rfl ?_
        obtain ⟨x11, hk, h⟩ := bind_inv h
        refine po (ecall (p_jlex_digit_ok hk) rfl rfl rfl rfl rfl rfl rfl rfl rfl) rfl rfl ?_
        refine on 1 rfl ?_
        refine rz ?_
        rcases ite_inv h with ⟨hc, h⟩ | ⟨hc, h⟩
        · refine ct rfl hc ?_
          refine awp_seq ?_
          refine drn (m := 9) 5 rfl rfl ?_
          refine dz (by kernel_rfl) ?_
          refine awp_ret ?_
          refine condQ.ret ?_
          refine seqQ.ret ?_
          refine condQ.ret ?_
          refine exitQ.ret ?_
          refine seqQ.ret ?_
          refine loopQ.ret ?_
          refine exitQ.ret ?_
          cases h
          exact .err ⟨⟨_, _, _, _, rfl, rfl, rfl, rfl, rfl⟩⟩
        · refine cf rfl hc ?_
          refine awp_skip ?_
          refine cn rfl ?_
          refine seqQ.normal ?_
          refine awp_seq ?_
          refine drn (m := 12) 8 rfl rfl ?_
          refine dz (by kernel_rfl) ?_
          refine awp_ret ?_
          refine condQ.ret ?_
          refine exitQ.ret ?_
          refine seqQ.ret ?_
          refine loopQ.ret ?_
          refine exitQ.ret ?_
          cases h
          exact .err ⟨⟨_, _, _, _, rfl, rfl, rfl, rfl, rfl⟩⟩
      · refine gf rfl rfl rfl rfl hc rfl ?_
        refine on 4 rfl ?_
        refine rz ?_
        refine cf rfl rfl ?_
        refine awp_skip ?_
        refine cn rfl ?_
        refine seqQ.normal ?_
        refine awp_seq ?_
        refine drn (m := 12) 8 rfl rfl ?_
        refine dz (by kernel_rfl) ?_
        refine awp_ret ?_
        refine condQ.ret ?_
        refine exitQ.ret ?_
        refine seqQ.ret ?_
        refine loopQ.ret ?_
        refine exitQ.ret ?_
        cases h
        exact .err ⟨⟨_, _, _, _, rfl, rfl, rfl, rfl, rfl⟩⟩
    · refine cf rfl hc ?_
      refine awp_skip ?_
      refine cn rfl ?_
      refine en rfl ?_
      refine seqQ.normal ?_
      refine rn 2 rfl ?_
      refine awpO_nil ?_
      refine loopQ.normal ?_
      exact awpL_at rfl rfl (ih _ _ h)
  · refine cf rfl hc ?_
    refine awp_exit ?_
    refine condQ.exit ?_
    refine seqQ.exit ?_
    refine loopQ.exit ?_
    refine eh rfl ?_
    cases h
    exact .ok rfl

theorem p_jlex_word_ok {s : Str} {r : Token × Int × Fault} (h : p_jlex_word s = some r) : aval X 16 [.d (.str s)] [] (CRes.ret (.tuple [.d (encToken r.1), .d (.int .i64 r.2.1), .d (encFault r.2.2)]) []) := by
  unfold p_jlex_word at h
  refine aval_start (tm := [(0, .d (.str s))]) (hp := []) (n := 0) rfl Tryd.func16 rfl rfl rfl rfl rfl rfl ?_
  refine ra (nid' := 2) rfl ?_
  refine ra (nid' := 3) rfl ?_
  refine awp_seq ?_
  refine awp_seq ?_
  refine rn 1 rfl ?_
  obtain ⟨b, hk, h⟩ := bind_inv h
  refine po (esbytes hk rfl rfl rfl rfl rfl rfl) rfl rfl ?_
  obtain ⟨⟨x, k⟩, hk, h⟩ := bind_inv h
  refine po (ecall (p_runes_One_ok hk) rfl rfl rfl rfl rfl rfl rfl rfl rfl) rfl rfl ?_
  refine on 5 rfl ?_
  refine rz ?_
  refine ra rfl ?_
  rcases ite_inv h with ⟨hc, h⟩ | ⟨hc, h⟩
  · refine ct rfl hc ?_
    refine ra rfl ?_
    refine awp_ret ?_
    refine condQ.ret ?_
    refine seqQ.ret ?_
    cases h
    exact ⟨⟨_, _, _, _, rfl, rfl, rfl, rfl, rfl⟩⟩
  · refine cf rfl hc ?_
    refine awp_skip ?_
    refine cn rfl ?_
    refine seqQ.normal ?_
    refine awp_seq ?_
    refine awp_block ?_
    refine awp_seq ?_
    refine rn 1 rfl ?_
    obtain ⟨x1, hk, h⟩ := bind_inv h
    refine po (ecall (p_jlex_begins_ok hk) rfl rfl rfl rfl rfl rfl rfl rfl rfl) rfl rfl ?_
    refine on 1 rfl ?_
    refine rz ?_
    rcases ite_inv h with ⟨hc, h⟩ | ⟨hc, h⟩
    · refine ct rfl hc ?_
      refine awp_seq ?_
      refine rn 1 rfl ?_
      obtain ⟨⟨x2, k1, where_⟩, hk, h⟩ := bind_inv h
      refine po (ecall (p_jlex_numbers_ok hk) rfl rfl rfl rfl rfl rfl rfl rfl rfl) rfl rfl ?_
      refine on (nid' := 4) 8 rfl ?_
      refine rz ?_
      refine awp_seq ?_
      refine ra rfl ?_
      rcases ite_inv h with ⟨hc, h⟩ | ⟨hc, h⟩
      · refine ct rfl hc ?_
        refine ra rfl ?_
        refine awp_ret ?_
        refine condQ.ret ?_
        refine seqQ.ret ?_
        refine condQ.ret ?_
        refine exitQ.ret ?_
        refine seqQ.ret ?_
        cases h
        exact ⟨⟨_, _, _, _, rfl, rfl, rfl, rfl, rfl⟩⟩
      · refine cf rfl hc ?_
        refine awp_skip ?_
        refine cn rfl ?_
        refine seqQ.normal ?_
        refine ra rfl ?_
        refine awp_ret ?_
        refine condQ.ret ?_
        refine exitQ.ret ?_
        refine seqQ.ret ?_
        cases h
        exact ⟨⟨_, _, _, _, rfl, rfl, rfl, rfl, rfl⟩⟩
    · refine cf rfl hc ?_
      refine awp_seq ?_
      refine rn 1 rfl ?_
      obtain ⟨c, hk, h⟩ := bind_inv h
      refine po (esget hk rfl rfl rfl rfl) rfl rfl ?_
      refine on 2 rfl ?_
      refine rz ?_
      rcases ite_inv h with ⟨hc, h⟩ | ⟨hc, h⟩
      · refine ct rfl hc ?_
        refine awp_seq ?_
        refine rn 1 rfl ?_
        obtain ⟨⟨x3, k2, x4⟩, hk, h⟩ := bind_inv h
        refine po (ecall (p_jlex_text_ok hk) rfl rfl rfl rfl rfl rfl rfl rfl rfl) rfl rfl ?_
        refine on (nid' := 5) 9 rfl ?_
        refine rz ?_
        refine awp_seq ?_
        refine drn (m := 12) 7 rfl rfl ?_
        refine dz (by kernel_rfl) ?_
        refine awp_ret ?_
        refine condQ.ret ?_
        refine condQ.ret ?_
        refine exitQ.ret ?_
        refine seqQ.ret ?_
        cases h
        exact ⟨⟨_, _, _, _, rfl, rfl, rfl, rfl, rfl⟩⟩
      · refine cf rfl hc ?_
        refine awp_seq ?_
        refine rn 1 rfl ?_
        obtain ⟨c1, hk, h⟩ := bind_inv h
        refine po (esget hk rfl rfl rfl rfl) rfl rfl ?_
        obtain ⟨x5, hk, h⟩ := bind_inv h
        refine po (ecall (p_jlex_letter_ok hk) rfl rfl rfl rfl rfl rfl rfl rfl rfl) rfl rfl ?_
        refine on 1 rfl ?_
        refine rz ?_
        rcases ite_inv h with ⟨hc, h⟩ | ⟨hc, h⟩
        · refine ct rfl hc ?_
          refine awp_seq ?_
          refine rn 1 rfl ?_
          obtain ⟨⟨x6, ok⟩, hk, h⟩ := bind_inv h
          refine po (ecall (p_jlex_name_ok hk) rfl rfl rfl rfl rfl rfl rfl rfl rfl) rfl rfl ?_
          refine on (nid' := 4) 6 rfl ?_
          refine rz ?_
          refine awp_seq ?_
          refine ra rfl ?_
          rcases ite_inv h with ⟨hc, h⟩ | ⟨hc, h⟩
          · refine ct rfl hc ?_
            refine awp_seq ?_
            refine drn (m := 9) 5 rfl rfl ?_
            refine dz (by kernel_rfl) ?_
            refine awp_ret ?_
            refine condQ.ret ?_
            refine seqQ.ret ?_
            refine condQ.ret ?_
            refine condQ.ret ?_
            refine condQ.ret ?_
            refine exitQ.ret ?_
            refine seqQ.ret ?_
            cases h
            exact ⟨⟨_, _, _, _, rfl, rfl, rfl, rfl, rfl⟩⟩
          · refine cf rfl hc ?_
            refine awp_skip ?_
            refine cn rfl ?_
            refine seqQ.normal ?_
            refine awp_seq ?_
            refine drn (m := 12) 8 rfl rfl ?_
            refine dz (by kernel_rfl) ?_
            refine awp_ret ?_
            refine condQ.ret ?_
            refine condQ.ret ?_
            refine condQ.ret ?_
            refine exitQ.ret ?_
            refine seqQ.ret ?_
            cases h
            exact ⟨⟨_, _, _, _, rfl, rfl, rfl, rfl, rfl⟩⟩
        · refine cf rfl hc ?_
          refine awp_skip ?_
          refine cn rfl ?_
          refine cn rfl ?_
          refine cn rfl ?_
          refine en rfl ?_
          refine seqQ.normal ?_
          refine awp_seq ?_
          refine awp_seq ?_
          refine rn 0 rfl ?_
          obtain ⟨x7, hk, h⟩ := bind_inv h
          refine po (ecall (p_jlex_words_ok hk) rfl rfl rfl rfl rfl rfl rfl rfl rfl) rfl rfl ?_
          refine po (ellen rfl rfl rfl rfl rfl rfl rfl) rfl rfl ?_
          refine on 1 rfl ?_
          refine rz ?_
          obtain ⟨res, hs, h⟩ := bind_inv h
          refine awp_sub Tryd.f16 0 (fun (r : Token × Int × Fault) => (CRes.ret (.tuple [.d (encToken r.1), .d (.int .i64 r.2.1), .d (encFault r.2.2)]) [])) (fun (_ : Unit) => (⟨[(2, .c (.ptr 0 0)), (4, .c (.ptr 1 0)), (5, .c (.ptr 2 0))], [(2, [.d (.int .i64 (Fault.mk 2 0 0).err), .d (.int .i64 (Fault.mk 2 0 0).at_), .d (.int .i64 (Fault.mk 2 0 0).why)]), (1, [.d (.int .i64 0), .d (.int .i64 0), .d (.int .i64 0)]), (0, [.d (.int .i64 0), .d (.str []), .own 1 (List.map (D.int .i64) []), .own 3 (List.map encCell []), .d (.int .i64 0)])], 3, [], none⟩ : St)) (res := res) ?_ (fun y hy => ?_) (fun r s' hr he => ?_)
          · replace h := hs
            refine awp_block ?_
            refine awp_loop ?_
            exact awpL_at rfl rfl (p_jlex_word_l0_ok _ _ h)
          · subst hy
            refine seqQ.normal ?_
            refine awp_seq ?_
            refine drn (m := 8) 5 rfl rfl ?_
            refine dz (by kernel_rfl) ?_
            refine awp_ret ?_
            cases h
            exact ⟨⟨_, _, _, _, rfl, rfl, rfl, rfl, rfl⟩⟩
          · subst hr
            refine seqQ.ret ?_
            cases h
            exact he

end Go.AM.Seat

namespace Go.AM.Seat
open Go Go.AM Go.Proofs
set_option maxRecDepth 100000
set_option maxHeartbeats 4000000
set_option linter.unusedVariables false

theorem p_jlex_Lex_l0_ok : ∀ (a : Str × Int × (List Token)) (res : Except ((List Token) × Fault) ((List Token))), p_jlex_Lex_l0 a = some res → (match a with | (s, i, l) => awpL X 8 (codeAt [1, 1, 1, 0, 1, 0, 0] (bodyOf Tryd.f8)) (cleanAt (X.H 8 5) 1) (exitQ 0 (X.H 8 1000000) 1 (SubQ X Tryd.f8 0 (fun (r : (List Token) × Fault) => (CRes.ret (.tuple [.d (.list 5 (List.map encToken r.1)), .d (encFault r.2)]) [])) (fun (l2 : (List Token)) => (⟨[(3, .c (.ptr 0 0)), (4, .c (.own 5 (List.map encToken l2)))], [(0, [.d (.int .i64 0), .d (.int .i64 0), .d (.int .i64 0)])], 1, [], none⟩ : St)) res)) ⟨[(0, .d (.str s)), (3, .c (.ptr 0 0)), (4, .c (.own 5 (List.map encToken l))), (5, .d (.int .i64 i))], [(0, [.d (.int .i64 0), .d (.int .i64 0), .d (.int .i64 0)])], 1, [], none⟩) := by
  refine p_jlex_Lex_l0.partial_correctness (motive := (fun a res => match a with | (s, i, l) => awpL X 8 (codeAt [1, 1, 1, 0, 1, 0, 0] (bodyOf Tryd.f8)) (cleanAt (X.H 8 5) 1) (exitQ 0 (X.H 8 1000000) 1 (SubQ X Tryd.f8 0 (fun (r : (List Token) × Fault) => (CRes.ret (.tuple [.d (.list 5 (List.map encToken r.1)), .d (encFault r.2)]) [])) (fun (l2 : (List Token)) => (⟨[(3, .c (.ptr 0 0)), (4, .c (.own 5 (List.map encToken l2)))], [(0, [.d (.int .i64 0), .d (.int .i64 0), .d (.int .i64 0)])], 1, [], none⟩ : St)) res)) ⟨[(0, .d (.str s)), (3, .c (.ptr 0 0)), (4, .c (.own 5 (List.map encToken l))), (5, .d (.int .i64 i))], [(0, [.d (.int .i64 0), .d (.int .i64 0), .d (.int .i64 0)])], 1, [], none⟩)) ?_
  rintro p_jlex_Lex_l0' ih ⟨s, i, l⟩ res h
  refine lg rfl ?_
  refine awp_seq ?_
  refine ra rfl ?_
  rcases ite_inv h with ⟨hc, h⟩ | ⟨hc, h⟩
  · refine ct rfl hc ?_
    refine awp_skip ?_
    refine cn rfl ?_
    refine seqQ.normal ?_
    refine awp_block ?_
    refine awp_seq ?_
    refine awp_seq ?_
    refine rn 2 rfl ?_
    obtain ⟨c, hk, h⟩ := bind_inv h
    refine po (esget hk rfl rfl rfl rfl) rfl rfl ?_
    refine on 1 rfl ?_
    refine rz ?_
    rcases ite_inv h with ⟨hc, h⟩ | ⟨hc, h⟩
    · refine ct rfl hc ?_
      refine ra rfl ?_
      refine awp_exit ?_
      refine condQ.exit ?_
      refine seqQ.exit ?_
      refine eh rfl ?_
      refine loopQ.normal ?_
      exact awpL_at rfl rfl (ih _ _ h)
    · refine cf rfl hc ?_
      refine awp_skip ?_
      refine cn rfl ?_
      refine seqQ.normal ?_
      refine awp_seq ?_
      refine awp_seq ?_
      refine rn 2 rfl ?_
      obtain ⟨s1, hk, h⟩ := bind_inv h
      refine po (esfrom hk rfl rfl rfl rfl) rfl rfl ?_
      obtain ⟨x, hk, h⟩ := bind_inv h
      refine po (ecall (p_strings_HasPrefix_ok hk) rfl rfl rfl rfl rfl rfl rfl rfl rfl) rfl rfl ?_
      refine rz ?_
      rcases ite_inv h with ⟨hc, h⟩ | ⟨hc, h⟩
      · refine ct rfl hc ?_
        refine awp_exit ?_
        refine condQ.exit ?_
        refine seqQ.exit ?_
        refine exitQ.there rfl ?_
        refine loopQ.exit ?_
        refine eh rfl ?_
        cases h
        exact .ok rfl
      · refine cf rfl hc ?_
        refine awp_skip ?_
        refine cn rfl ?_
        refine seqQ.normal ?_
        refine awp_seq ?_
        refine awp_seq ?_
        refine rn 1 rfl ?_
        refine po (ellen rfl rfl rfl rfl rfl rfl rfl) rfl rfl ?_
        refine on 1 rfl ?_
        refine rz ?_
        rcases ite_inv h with ⟨hc, h⟩ | ⟨hc, h⟩
        · refine ct rfl hc ?_
          refine ra rfl ?_
          refine awp_ret ?_
          refine condQ.ret ?_
          refine seqQ.ret ?_
          refine exitQ.ret ?_
          refine loopQ.ret ?_
          refine exitQ.ret ?_
          cases h
          exact .err ⟨⟨_, _, _, _, rfl, rfl, rfl, rfl, rfl⟩⟩
        · refine cf rfl hc ?_
          refine awp_skip ?_
          refine cn rfl ?_
          refine seqQ.normal ?_
          refine awp_seq ?_
          refine rn 2 rfl ?_
          obtain ⟨s2, hk, h⟩ := bind_inv h
          refine po (esfrom hk rfl rfl rfl rfl) rfl rfl ?_
          obtain ⟨⟨x1, k, x2⟩, hk, h⟩ := bind_inv h
          refine po (ecall (p_jlex_word_ok hk) rfl rfl rfl rfl rfl rfl rfl rfl rfl) rfl rfl ?_
          refine on (nid' := 3) 9 rfl ?_
          refine rz ?_
          refine awp_seq ?_
          refine ra rfl ?_
          rcases ite_inv h with ⟨hc, h⟩ | ⟨hc, h⟩
          · refine ct rfl hc ?_
            refine ra rfl ?_
            refine awp_seq ?_
            refine drn (m := 6) 3 rfl rfl ?_
            refine dz (by kernel_rfl) ?_
            refine awp_ret ?_
            refine condQ.ret ?_
            refine seqQ.ret ?_
            refine exitQ.ret ?_
            refine loopQ.ret ?_
            refine exitQ.ret ?_
            cases h
            exact .err ⟨⟨_, _, _, _, rfl, rfl, rfl, rfl, rfl⟩⟩
          · refine cf rfl hc ?_
            refine awp_skip ?_
            refine cn rfl ?_
            refine seqQ.normal ?_
            refine ra rfl ?_
            refine rn 3 rfl ?_
            obtain ⟨l1, hk, h⟩ := bind_inv h
            refine po (eappv hk rfl rfl rfl rfl rfl rfl rfl rfl rfl rfl rfl rfl rfl ) rfl rfl ?_
            refine on 5 rfl ?_
            refine awpO_nil ?_
            refine en rfl ?_
            refine loopQ.normal ?_
            exact awpL_at rfl rfl (ih _ _ h)
  · refine cf rfl hc ?_
    refine awp_exit ?_
    refine condQ.exit ?_
    refine seqQ.exit ?_
    refine loopQ.exit ?_
    refine eh rfl ?_
    cases h
    exact .ok rfl

theorem p_jlex_Lex_ok {s : Str} {r : (List Token) × Fault} (h : p_jlex_Lex s = some r) : aval X 8 [.d (.str s)] [] (CRes.ret (.tuple [.d (.list 5 (List.map encToken r.1)), .d (encFault r.2)]) []) := by
  unfold p_jlex_Lex at h
  refine aval_start (tm := [(0, .d (.str s))]) (hp := []) (n := 0) rfl Tryd.func8 rfl rfl rfl rfl rfl rfl ?_
  refine ra (nid' := 1) rfl ?_
  refine awp_seq ?_
  refine ra rfl ?_
  rcases ite_inv h with ⟨hc, h⟩ | ⟨hc, h⟩
  · refine ct rfl hc ?_
    refine ra rfl ?_
    refine awp_ret ?_
    refine condQ.ret ?_
    refine seqQ.ret ?_
    cases h
    exact ⟨⟨_, _, _, _, rfl, rfl, rfl, rfl, rfl⟩⟩
  · refine cf rfl hc ?_
    refine awp_skip ?_
    refine cn rfl ?_
    refine seqQ.normal ?_
    refine ra rfl ?_
    refine awp_seq ?_
    refine ra rfl ?_
    obtain ⟨res, hs, h⟩ := bind_inv h
    refine awp_sub Tryd.f8 0 (fun (r : (List Token) × Fault) => (CRes.ret (.tuple [.d (.list 5 (List.map encToken r.1)), .d (encFault r.2)]) [])) (fun (l2 : (List Token)) => (⟨[(3, .c (.ptr 0 0)), (4, .c (.own 5 (List.map encToken l2)))], [(0, [.d (.int .i64 0), .d (.int .i64 0), .d (.int .i64 0)])], 1, [], none⟩ : St)) (res := res) ?_ (fun y hy => ?_) (fun r s' hr he => ?_)
    · replace h := hs
      refine awp_block ?_
      refine awp_loop ?_
      exact awpL_at rfl rfl (p_jlex_Lex_l0_ok _ _ h)
    · subst hy
      obtain l2 := y
      refine seqQ.normal ?_
      refine ra rfl ?_
      refine awp_ret ?_
      cases h
      exact ⟨⟨_, _, _, _, rfl, rfl, rfl, rfl, rfl⟩⟩
    · subst hr
      refine seqQ.ret ?_
      cases h
      exact he

end Go.AM.Seat

namespace Go.AM.Seat
open Go Go.AM Go.Proofs
set_option maxRecDepth 100000
set_option maxHeartbeats 4000000
set_option linter.unusedVariables false

theorem p_triglyphlaw13_works_ok  {r : Bool} (h : p_triglyphlaw13_works = some r) : aval X 7 [] [] (CRes.ret (.d (.bool r)) []) := by
  unfold p_triglyphlaw13_works at h
  refine aval_start (tm := []) (hp := []) (n := 0) rfl Tryd.func7 rfl rfl rfl rfl rfl rfl ?_
  refine ra rfl ?_
  refine awp_seq ?_
  refine rn 0 rfl ?_
  obtain ⟨⟨l, x⟩, hk, h⟩ := bind_inv h
  refine po (ecall (p_jlex_Lex_ok hk) rfl rfl rfl rfl rfl rfl rfl rfl rfl) rfl rfl ?_
  refine on (nid' := 1) 6 rfl ?_
  refine rz ?_
  refine awp_seq ?_
  refine rn 0 rfl ?_
  obtain ⟨⟨x1, x2⟩, hk, h⟩ := bind_inv h
  refine po (ecall (p_jlex_Lex_ok hk) rfl rfl rfl rfl rfl rfl rfl rfl rfl) rfl rfl ?_
  refine on (nid' := 2) 6 rfl ?_
  refine rz ?_
  refine awp_seq ?_
  refine drn (m := 44) 4 rfl rfl ?_
  rcases ite_inv h with ⟨hc, h⟩ | ⟨hc, h⟩
  · refine dgt rfl rfl rfl rfl hc rfl ?_
    refine don 1 rfl ?_
    refine pd (ellen rfl rfl rfl rfl rfl rfl rfl) rfl rfl rfl rfl rfl ?_
    refine don 3 rfl ?_
    rcases ite_inv h with ⟨hc, h⟩ | ⟨hc, h⟩
    · refine dgt rfl rfl rfl rfl hc rfl ?_
      refine don 1 rfl ?_
      obtain ⟨y, hk, h⟩ := bind_inv h
      refine pd (elget encToken (fun _ => rfl) hk rfl rfl rfl rfl rfl) rfl rfl rfl rfl rfl ?_
      refine don 5 rfl ?_
      rcases ite_inv h with ⟨hc, h⟩ | ⟨hc, h⟩
      · refine dgt rfl rfl rfl rfl hc rfl ?_
        refine don 1 rfl ?_
        obtain ⟨y1, hk, h⟩ := bind_inv h
        refine pd (elget encToken (fun _ => rfl) hk rfl rfl rfl rfl rfl) rfl rfl rfl rfl rfl ?_
        refine don 5 rfl ?_
        rcases ite_inv h with ⟨hc, h⟩ | ⟨hc, h⟩
        · refine dgt rfl rfl rfl rfl hc rfl ?_
          refine don 1 rfl ?_
          obtain ⟨y2, hk, h⟩ := bind_inv h
          refine pd (elget encToken (fun _ => rfl) hk rfl rfl rfl rfl rfl) rfl rfl rfl rfl rfl ?_
          refine don 3 rfl ?_
          obtain ⟨x3, hk, h⟩ := bind_inv h
          refine pd (ecall (p_triglyphref03_Nums_ok hk) rfl rfl rfl rfl rfl rfl rfl rfl rfl) rfl rfl rfl rfl rfl ?_
          obtain ⟨x4, hk, h⟩ := bind_inv h
          refine pd (ecall (p_triglyphref03_Same_ok hk) rfl rfl rfl rfl rfl rfl rfl rfl rfl) rfl rfl rfl rfl rfl ?_
          refine don 2 rfl ?_
          rcases ite_inv h with ⟨hc, h⟩ | ⟨hc, h⟩
          · refine dgt rfl rfl rfl rfl hc rfl ?_
            refine don 5 rfl ?_
            rcases ite_inv h with ⟨hc, h⟩ | ⟨hc, h⟩
            · refine dgt rfl rfl rfl rfl hc rfl ?_
              refine don 5 rfl ?_
              refine dz (by kernel_rfl) ?_
              refine awp_ret ?_
              cases h
              exact ⟨⟨_, _, _, _, rfl, rfl, rfl, rfl, rfl⟩⟩
            · refine dgf rfl rfl rfl rfl hc rfl ?_
              refine don 5 rfl ?_
              refine dz (by kernel_rfl) ?_
              refine awp_ret ?_
              cases h
              exact ⟨⟨_, _, _, _, rfl, rfl, rfl, rfl, rfl⟩⟩
          · refine dgf rfl rfl rfl rfl hc rfl ?_
            refine don 10 rfl ?_
            refine dz (by kernel_rfl) ?_
            refine awp_ret ?_
            cases h
            exact ⟨⟨_, _, _, _, rfl, rfl, rfl, rfl, rfl⟩⟩
        · refine dgf rfl rfl rfl rfl hc rfl ?_
          refine don 19 rfl ?_
          refine dz (by kernel_rfl) ?_
          refine awp_ret ?_
          cases h
          exact ⟨⟨_, _, _, _, rfl, rfl, rfl, rfl, rfl⟩⟩
      · refine dgf rfl rfl rfl rfl hc rfl ?_
        refine don 26 rfl ?_
        refine dz (by kernel_rfl) ?_
        refine awp_ret ?_
        cases h
        exact ⟨⟨_, _, _, _, rfl, rfl, rfl, rfl, rfl⟩⟩
    · refine dgf rfl rfl rfl rfl hc rfl ?_
      refine don 33 rfl ?_
      refine dz (by kernel_rfl) ?_
      refine awp_ret ?_
      cases h
      exact ⟨⟨_, _, _, _, rfl, rfl, rfl, rfl, rfl⟩⟩
  · refine dgf rfl rfl rfl rfl hc rfl ?_
    refine don 38 rfl ?_
    refine dz (by kernel_rfl) ?_
    refine awp_ret ?_
    cases h
    exact ⟨⟨_, _, _, _, rfl, rfl, rfl, rfl, rfl⟩⟩

end Go.AM.Seat

namespace Go.AM.Seat
open Go Go.AM Go.Proofs
set_option maxRecDepth 100000
set_option maxHeartbeats 4000000
set_option linter.unusedVariables false

theorem p_triglyphlaw13_JlexApart_l0_ok (x1 : Fault) : ∀ (a : Str × ((List Token)) × Str × Int) (res : Except (Bool) (Str)), p_triglyphlaw13_JlexApart_l0 a = some res → (match a with | (s, l, out, i) => awpL X 5 (codeAt [1, 1, 1, 1, 1, 0, 1, 0, 0] (bodyOf Tryd.f5)) (cleanAt (X.H 5 8) 1) (exitQ 0 (X.H 5 1000000) 1 (SubQ X Tryd.f5 0 (fun (r : Bool) => (CRes.ret (.d (.bool r)) [])) (fun (out3 : Str) => (⟨[(3, .d (.list 5 (List.map encToken l))), (5, .d (.str out3))], [(0, [.d (.int .i64 x1.err), .d (.int .i64 x1.at_), .d (.int .i64 x1.why)])], 1, [], none⟩ : St)) res)) ⟨[(0, .d (.str s)), (3, .d (.list 5 (List.map encToken l))), (5, .d (.str out)), (6, .d (.int .i64 i))], [(0, [.d (.int .i64 x1.err), .d (.int .i64 x1.at_), .d (.int .i64 x1.why)])], 1, [], none⟩) := by
  refine p_triglyphlaw13_JlexApart_l0.partial_correctness (motive := (fun a res => match a with | (s, l, out, i) => awpL X 5 (codeAt [1, 1, 1, 1, 1, 0, 1, 0, 0] (bodyOf Tryd.f5)) (cleanAt (X.H 5 8) 1) (exitQ 0 (X.H 5 1000000) 1 (SubQ X Tryd.f5 0 (fun (r : Bool) => (CRes.ret (.d (.bool r)) [])) (fun (out3 : Str) => (⟨[(3, .d (.list 5 (List.map encToken l))), (5, .d (.str out3))], [(0, [.d (.int .i64 x1.err), .d (.int .i64 x1.at_), .d (.int .i64 x1.why)])], 1, [], none⟩ : St)) res)) ⟨[(0, .d (.str s)), (3, .d (.list 5 (List.map encToken l))), (5, .d (.str out)), (6, .d (.int .i64 i))], [(0, [.d (.int .i64 x1.err), .d (.int .i64 x1.at_), .d (.int .i64 x1.why)])], 1, [], none⟩)) ?_
  rintro p_triglyphlaw13_JlexApart_l0' ih ⟨s, l, out, i⟩ res h
  refine lg rfl ?_
  refine awp_seq ?_
  refine awp_seq ?_
  refine rn 2 rfl ?_
  refine po (ellen rfl rfl rfl rfl rfl rfl rfl) rfl rfl ?_
  refine on 1 rfl ?_
  refine rz ?_
  rcases ite_inv h with ⟨hc, h⟩ | ⟨hc, h⟩
  · refine ct rfl hc ?_
    refine awp_skip ?_
    refine cn rfl ?_
    refine seqQ.normal ?_
    refine awp_seq ?_
    obtain ⟨res, hs, h⟩ := bind_inv h
    refine awp_sub Tryd.f5 0 (fun (r : Bool) => (CRes.ret (.d (.bool r)) [])) (fun (out2 : Str) => (⟨[(0, .d (.str s)), (3, .d (.list 5 (List.map encToken l))), (5, .d (.str out2)), (6, .d (.int .i64 i))], [(0, [.d (.int .i64 x1.err), .d (.int .i64 x1.at_), .d (.int .i64 x1.why)])], 1, [], none⟩ : St)) (res := res) ?_ (fun y hy => ?_) (fun r s' hr he => ?_)
    · replace h := hs
      refine awp_block ?_
      refine ra rfl ?_
      refine awp_seq ?_
      refine awp_seq ?_
      refine rn 3 rfl ?_
      refine po (ellen rfl rfl rfl rfl rfl rfl rfl) rfl rfl ?_
      refine on 1 rfl ?_
      refine rz ?_
      obtain ⟨to_, hs, h⟩ := bind_inv h
      refine awp_nrm (fun (to_ : Int) => (⟨[(0, .d (.str s)), (3, .d (.list 5 (List.map encToken l))), (5, .d (.str out)), (6, .d (.int .i64 i)), (7, .d (.int .i64 to_))], [(0, [.d (.int .i64 x1.err), .d (.int .i64 x1.at_), .d (.int .i64 x1.why)])], 1, [], none⟩ : St)) (y := to_) ?_ ?_
      · replace h := hs
        rcases ite_inv h with ⟨hc, h⟩ | ⟨hc, h⟩
        · refine ct rfl hc ?_
          refine rn 3 rfl ?_
          obtain ⟨y, hk, h⟩ := bind_inv h
          refine po (elget encToken (fun _ => rfl) hk rfl rfl rfl rfl rfl) rfl rfl ?_
          refine on 3 rfl ?_
          refine awpO_nil ?_
          refine cn rfl ?_
          cases h
          exact .ok rfl
        · refine cf rfl hc ?_
          refine awp_skip ?_
          refine cn rfl ?_
          cases h
          exact .ok rfl
      · refine seqQ.normal ?_
        refine awp_seq ?_
        refine rn 4 rfl ?_
        obtain ⟨y1, hk, h⟩ := bind_inv h
        refine po (elget encToken (fun _ => rfl) hk rfl rfl rfl rfl rfl) rfl rfl ?_
        refine on 3 rfl ?_
        obtain ⟨s1, hk, h⟩ := bind_inv h
        refine po (esmid hk rfl rfl rfl rfl rfl) rfl rfl ?_
        obtain ⟨s2, hk, h⟩ := bind_inv h
        refine po (escat hk rfl rfl rfl) rfl rfl ?_
        obtain ⟨out1, hk, h⟩ := bind_inv h
        refine po (escat hk rfl rfl rfl) rfl rfl ?_
        refine on 1 rfl ?_
        refine rz ?_
        refine awp_seq ?_
        refine rn 3 rfl ?_
        refine po (ellen rfl rfl rfl rfl rfl rfl rfl) rfl rfl ?_
        refine on 2 rfl ?_
        rcases ite_inv h with ⟨hc, h⟩ | ⟨hc, h⟩
        · refine gt rfl rfl rfl rfl hc rfl ?_
          refine on 2 rfl ?_
          obtain ⟨y2, hk, h⟩ := bind_inv h
          refine po (elget encToken (fun _ => rfl) hk rfl rfl rfl rfl rfl) rfl rfl ?_
          refine on 5 rfl ?_
          rcases ite_inv h with ⟨hc, h⟩ | ⟨hc, h⟩
          · refine gt rfl rfl rfl rfl hc rfl ?_
            refine on 3 rfl ?_
            obtain ⟨y3, hk, h⟩ := bind_inv h
            refine po (elget encToken (fun _ => rfl) hk rfl rfl rfl rfl rfl) rfl rfl ?_
            refine on 5 rfl ?_
            rcases ite_inv h with ⟨hc, h⟩ | ⟨hc, h⟩
            · refine gt rfl rfl rfl rfl hc rfl ?_
              refine on 23 rfl ?_
              refine rz ?_
              refine ct rfl rfl ?_
              refine awp_seq ?_
              refine rn 0 rfl ?_
              obtain ⟨x3, hk, h⟩ := bind_inv h
              refine po (ecall (p_triglyphlaw13_works_ok hk) rfl rfl rfl rfl rfl rfl rfl rfl rfl) rfl rfl ?_
              refine on 1 rfl ?_
              refine rz ?_
              refine awp_ret ?_
              refine condQ.ret ?_
              refine exitQ.ret ?_
              cases h
              exact .err ⟨⟨_, _, _, _, rfl, rfl, rfl, rfl, rfl⟩⟩
            · refine gf rfl rfl rfl rfl hc rfl ?_
              refine on 3 rfl ?_
              refine po (ellen rfl rfl rfl rfl rfl rfl rfl) rfl rfl ?_
              refine on 2 rfl ?_
              rcases ite_inv h with ⟨hc, h⟩ | ⟨hc, h⟩
              · refine gt rfl rfl rfl rfl hc rfl ?_
                refine on 2 rfl ?_
                obtain ⟨y4, hk, h⟩ := bind_inv h
                refine po (elget encToken (fun _ => rfl) hk rfl rfl rfl rfl rfl) rfl rfl ?_
                refine on 5 rfl ?_
                rcases ite_inv h with ⟨hc, h⟩ | ⟨hc, h⟩
                · refine gt rfl rfl rfl rfl hc rfl ?_
                  refine on 3 rfl ?_
                  obtain ⟨y5, hk, h⟩ := bind_inv h
                  refine po (elget encToken (fun _ => rfl) hk rfl rfl rfl rfl rfl) rfl rfl ?_
                  refine on 5 rfl ?_
                  refine rz ?_
                  rcases ite_inv h with ⟨hc, h⟩ | ⟨hc, h⟩
                  · refine ct rfl hc ?_
                    refine awp_seq ?_
                    refine rn 0 rfl ?_
                    obtain ⟨x4, hk, h⟩ := bind_inv h
                    refine po (ecall (p_triglyphlaw13_works_ok hk) rfl rfl rfl rfl rfl rfl rfl rfl rfl) rfl rfl ?_
                    refine on 1 rfl ?_
                    refine rz ?_
                    refine awp_ret ?_
                    refine condQ.ret ?_
                    refine exitQ.ret ?_
                    cases h
                    exact .err ⟨⟨_, _, _, _, rfl, rfl, rfl, rfl, rfl⟩⟩
                  · refine cf rfl hc ?_
                    refine awp_skip ?_
                    refine cn rfl ?_
                    refine en rfl ?_
                    cases h
                    exact .ok rfl
                · refine gf rfl rfl rfl rfl hc rfl ?_
                  refine on 9 rfl ?_
                  refine rz ?_
                  refine cf rfl rfl ?_
                  refine awp_skip ?_
                  refine cn rfl ?_
                  refine en rfl ?_
                  cases h
                  exact .ok rfl
              · refine gf rfl rfl rfl rfl hc rfl ?_
                refine on 17 rfl ?_
                refine rz ?_
                refine cf rfl rfl ?_
                refine awp_skip ?_
                refine cn rfl ?_
                refine en rfl ?_
                cases h
                exact .ok rfl
          · refine gf rfl rfl rfl rfl hc rfl ?_
            refine on 12 rfl ?_
            refine po (ellen rfl rfl rfl rfl rfl rfl rfl) rfl rfl ?_
            refine on 2 rfl ?_
            rcases ite_inv h with ⟨hc, h⟩ | ⟨hc, h⟩
            · refine gt rfl rfl rfl rfl hc rfl ?_
              refine on 2 rfl ?_
              obtain ⟨y6, hk, h⟩ := bind_inv h
              refine po (elget encToken (fun _ => rfl) hk rfl rfl rfl rfl rfl) rfl rfl ?_
              refine on 5 rfl ?_
              rcases ite_inv h with ⟨hc, h⟩ | ⟨hc, h⟩
              · refine gt rfl rfl rfl rfl hc rfl ?_
                refine on 3 rfl ?_
                obtain ⟨y7, hk, h⟩ := bind_inv h
                refine po (elget encToken (fun _ => rfl) hk rfl rfl rfl rfl rfl) rfl rfl ?_
                refine on 5 rfl ?_
                refine rz ?_
                rcases ite_inv h with ⟨hc, h⟩ | ⟨hc, h⟩
                · refine ct rfl hc ?_
                  refine awp_seq ?_
                  refine rn 0 rfl ?_
                  obtain ⟨x5, hk, h⟩ := bind_inv h
                  refine po (ecall (p_triglyphlaw13_works_ok hk) rfl rfl rfl rfl rfl rfl rfl rfl rfl) rfl rfl ?_
                  refine on 1 rfl ?_
                  refine rz ?_
                  refine awp_ret ?_
                  refine condQ.ret ?_
                  refine exitQ.ret ?_
                  cases h
                  exact .err ⟨⟨_, _, _, _, rfl, rfl, rfl, rfl, rfl⟩⟩
                · refine cf rfl hc ?_
                  refine awp_skip ?_
                  refine cn rfl ?_
                  refine en rfl ?_
                  cases h
                  exact .ok rfl
              · refine gf rfl rfl rfl rfl hc rfl ?_
                refine on 9 rfl ?_
                refine rz ?_
                refine cf rfl rfl ?_
                refine awp_skip ?_
                refine cn rfl ?_
                refine en rfl ?_
                cases h
                exact .ok rfl
            · refine gf rfl rfl rfl rfl hc rfl ?_
              refine on 17 rfl ?_
              refine rz ?_
              refine cf rfl rfl ?_
              refine awp_skip ?_
              refine cn rfl ?_
              refine en rfl ?_
              cases h
              exact .ok rfl
        · refine gf rfl rfl rfl rfl hc rfl ?_
          refine on 20 rfl ?_
          refine po (ellen rfl rfl rfl rfl rfl rfl rfl) rfl rfl ?_
          refine on 2 rfl ?_
          rcases ite_inv h with ⟨hc, h⟩ | ⟨hc, h⟩
          · refine gt rfl rfl rfl rfl hc rfl ?_
            refine on 2 rfl ?_
            obtain ⟨y8, hk, h⟩ := bind_inv h
            refine po (elget encToken (fun _ => rfl) hk rfl rfl rfl rfl rfl) rfl rfl ?_
            refine on 5 rfl ?_
            rcases ite_inv h with ⟨hc, h⟩ | ⟨hc, h⟩
            · refine gt rfl rfl rfl rfl hc rfl ?_
              refine on 3 rfl ?_
              obtain ⟨y9, hk, h⟩ := bind_inv h
              refine po (elget encToken (fun _ => rfl) hk rfl rfl rfl rfl rfl) rfl rfl ?_
              refine on 5 rfl ?_
              refine rz ?_
              rcases ite_inv h with ⟨hc, h⟩ | ⟨hc, h⟩
              · refine ct rfl hc ?_
                refine awp_seq ?_
                refine rn 0 rfl ?_
                obtain ⟨x6, hk, h⟩ := bind_inv h
                refine po (ecall (p_triglyphlaw13_works_ok hk) rfl rfl rfl rfl rfl rfl rfl rfl rfl) rfl rfl ?_
                refine on 1 rfl ?_
                refine rz ?_
                refine awp_ret ?_
                refine condQ.ret ?_
                refine exitQ.ret ?_
                cases h
                exact .err ⟨⟨_, _, _, _, rfl, rfl, rfl, rfl, rfl⟩⟩
              · refine cf rfl hc ?_
                refine awp_skip ?_
                refine cn rfl ?_
                refine en rfl ?_
                cases h
                exact .ok rfl
            · refine gf rfl rfl rfl rfl hc rfl ?_
              refine on 9 rfl ?_
              refine rz ?_
              refine cf rfl rfl ?_
              refine awp_skip ?_
              refine cn rfl ?_
              refine en rfl ?_
              cases h
              exact .ok rfl
          · refine gf rfl rfl rfl rfl hc rfl ?_
            refine on 17 rfl ?_
            refine rz ?_
            refine cf rfl rfl ?_
            refine awp_skip ?_
            refine cn rfl ?_
            refine en rfl ?_
            cases h
            exact .ok rfl
    · subst hy
      obtain out2 := y
      refine seqQ.normal ?_
      refine rn 3 rfl ?_
      refine awpO_nil ?_
      refine loopQ.normal ?_
      exact awpL_at rfl rfl (ih _ _ h)
    · subst hr
      refine seqQ.ret ?_
      refine loopQ.ret ?_
      refine exitQ.ret ?_
      cases h
      exact .err he
  · refine cf rfl hc ?_
    refine awp_exit ?_
    refine condQ.exit ?_
    refine seqQ.exit ?_
    refine loopQ.exit ?_
    refine eh rfl ?_
    cases h
    exact .ok rfl

theorem p_triglyphlaw13_JlexApart_l1_ok (x1 : Fault) (x7 : Fault) : ∀ (a : ((List Token)) × ((List Token)) × Int) (res : Except (Bool) (Unit)), p_triglyphlaw13_JlexApart_l1 a = some res → (match a with | (l, m, i1) => awpL X 5 (codeAt [1, 1, 1, 1, 1, 1, 1, 1, 0, 1, 0, 0] (bodyOf Tryd.f5)) (cleanAt (X.H 5 20) 2) (exitQ 2 (X.H 5 1000002) 2 (SubQ X Tryd.f5 0 (fun (r : Bool) => (CRes.ret (.d (.bool r)) [])) (fun (_ : Unit) => (⟨[], [(1, [.d (.int .i64 x7.err), .d (.int .i64 x7.at_), .d (.int .i64 x7.why)]), (0, [.d (.int .i64 x1.err), .d (.int .i64 x1.at_), .d (.int .i64 x1.why)])], 2, [], none⟩ : St)) res)) ⟨[(3, .d (.list 5 (List.map encToken l))), (8, .d (.list 5 (List.map encToken m))), (10, .d (.int .i64 i1))], [(1, [.d (.int .i64 x7.err), .d (.int .i64 x7.at_), .d (.int .i64 x7.why)]), (0, [.d (.int .i64 x1.err), .d (.int .i64 x1.at_), .d (.int .i64 x1.why)])], 2, [], none⟩) := by
  refine p_triglyphlaw13_JlexApart_l1.partial_correctness (motive := (fun a res => match a with | (l, m, i1) => awpL X 5 (codeAt [1, 1, 1, 1, 1, 1, 1, 1, 0, 1, 0, 0] (bodyOf Tryd.f5)) (cleanAt (X.H 5 20) 2) (exitQ 2 (X.H 5 1000002) 2 (SubQ X Tryd.f5 0 (fun (r : Bool) => (CRes.ret (.d (.bool r)) [])) (fun (_ : Unit) => (⟨[], [(1, [.d (.int .i64 x7.err), .d (.int .i64 x7.at_), .d (.int .i64 x7.why)]), (0, [.d (.int .i64 x1.err), .d (.int .i64 x1.at_), .d (.int .i64 x1.why)])], 2, [], none⟩ : St)) res)) ⟨[(3, .d (.list 5 (List.map encToken l))), (8, .d (.list 5 (List.map encToken m))), (10, .d (.int .i64 i1))], [(1, [.d (.int .i64 x7.err), .d (.int .i64 x7.at_), .d (.int .i64 x7.why)]), (0, [.d (.int .i64 x1.err), .d (.int .i64 x1.at_), .d (.int .i64 x1.why)])], 2, [], none⟩)) ?_
  rintro p_triglyphlaw13_JlexApart_l1' ih ⟨l, m, i1⟩ res h
  refine lg rfl ?_
  refine awp_seq ?_
  refine awp_seq ?_
  refine rn 2 rfl ?_
  refine po (ellen rfl rfl rfl rfl rfl rfl rfl) rfl rfl ?_
  refine on 1 rfl ?_
  refine rz ?_
  rcases ite_inv h with ⟨hc, h⟩ | ⟨hc, h⟩
  · refine ct rfl hc ?_
    refine awp_skip ?_
    refine cn rfl ?_
    refine seqQ.normal ?_
    refine awp_seq ?_
    refine awp_block ?_
    refine awp_seq ?_
    refine drn (m := 40) 2 rfl rfl ?_
    obtain ⟨y10, hk, h⟩ := bind_inv h
    refine pd (elget encToken (fun _ => rfl) hk rfl rfl rfl rfl rfl) rfl rfl rfl rfl rfl ?_
    refine don 4 rfl ?_
    obtain ⟨y11, hk, h⟩ := bind_inv h
    refine pd (elget encToken (fun _ => rfl) hk rfl rfl rfl rfl rfl) rfl rfl rfl rfl rfl ?_
    refine don 4 rfl ?_
    rcases ite_inv h with ⟨hc, h⟩ | ⟨hc, h⟩
    · refine dgt rfl rfl rfl rfl hc rfl ?_
      refine don 26 rfl ?_
      refine dz (by kernel_rfl) ?_
      refine ct rfl rfl ?_
      refine ra rfl ?_
      refine awp_ret ?_
      refine condQ.ret ?_
      refine exitQ.ret ?_
      refine seqQ.ret ?_
      refine loopQ.ret ?_
      refine exitQ.ret ?_
      cases h
      exact .err ⟨⟨_, _, _, _, rfl, rfl, rfl, rfl, rfl⟩⟩
    · refine dgf rfl rfl rfl rfl hc rfl ?_
      refine don 2 rfl ?_
      obtain ⟨y12, hk, h⟩ := bind_inv h
      refine pd (elget encToken (fun _ => rfl) hk rfl rfl rfl rfl rfl) rfl rfl rfl rfl rfl ?_
      refine don 4 rfl ?_
      obtain ⟨y13, hk, h⟩ := bind_inv h
      refine pd (elget encToken (fun _ => rfl) hk rfl rfl rfl rfl rfl) rfl rfl rfl rfl rfl ?_
      refine don 5 rfl ?_
      rcases ite_inv h with ⟨hc, h⟩ | ⟨hc, h⟩
      · refine dgt rfl rfl rfl rfl hc rfl ?_
        refine don 13 rfl ?_
        refine dz (by kernel_rfl) ?_
        refine ct rfl rfl ?_
        refine ra rfl ?_
        refine awp_ret ?_
        refine condQ.ret ?_
        refine exitQ.ret ?_
        refine seqQ.ret ?_
        refine loopQ.ret ?_
        refine exitQ.ret ?_
        cases h
        exact .err ⟨⟨_, _, _, _, rfl, rfl, rfl, rfl, rfl⟩⟩
      · refine dgf rfl rfl rfl rfl hc rfl ?_
        refine don 2 rfl ?_
        obtain ⟨y14, hk, h⟩ := bind_inv h
        refine pd (elget encToken (fun _ => rfl) hk rfl rfl rfl rfl rfl) rfl rfl rfl rfl rfl ?_
        refine don 4 rfl ?_
        obtain ⟨y15, hk, h⟩ := bind_inv h
        refine pd (elget encToken (fun _ => rfl) hk rfl rfl rfl rfl rfl) rfl rfl rfl rfl rfl ?_
        refine don 2 rfl ?_
        obtain ⟨x8, hk, h⟩ := bind_inv h
        refine pd (ecall (p_triglyphref03_Same_ok hk) rfl rfl rfl rfl rfl rfl rfl rfl rfl) rfl rfl rfl rfl rfl ?_
        refine don 2 rfl ?_
        refine dz (by kernel_rfl) ?_
        rcases ite_inv h with ⟨hc, h⟩ | ⟨hc, h⟩
        · refine ct rfl hc ?_
          refine ra rfl ?_
          refine awp_ret ?_
          refine condQ.ret ?_
          refine exitQ.ret ?_
          refine seqQ.ret ?_
          refine loopQ.ret ?_
          refine exitQ.ret ?_
          cases h
          exact .err ⟨⟨_, _, _, _, rfl, rfl, rfl, rfl, rfl⟩⟩
        · refine cf rfl hc ?_
          refine awp_skip ?_
          refine cn rfl ?_
          refine en rfl ?_
          refine seqQ.normal ?_
          refine rn 3 rfl ?_
          refine awpO_nil ?_
          refine loopQ.normal ?_
          exact awpL_at rfl rfl (ih _ _ h)
  · refine cf rfl hc ?_
    refine awp_exit ?_
    refine condQ.exit ?_
    refine seqQ.exit ?_
    refine loopQ.exit ?_
    refine eh rfl ?_
    cases h
    exact .ok rfl

theorem p_triglyphlaw13_JlexApart_ok {s : Str} {r : Bool} (h : p_triglyphlaw13_JlexApart s = some r) : aval X 5 [.d (.str s)] [] (CRes.ret (.d (.bool r)) []) := by
  unfold p_triglyphlaw13_JlexApart at h
  refine aval_start (tm := [(0, .d (.str s))]) (hp := []) (n := 0) rfl Tryd.func5 rfl rfl rfl rfl rfl rfl ?_
  refine ra rfl ?_
  refine awp_seq ?_
  refine ra rfl ?_
  rcases ite_inv h with ⟨hc, h⟩ | ⟨hc, h⟩
  · refine ct rfl hc ?_
    refine awp_seq ?_
    refine rn 0 rfl ?_
    obtain ⟨x, hk, h⟩ := bind_inv h
    refine po (ecall (p_triglyphlaw13_works_ok hk) rfl rfl rfl rfl rfl rfl rfl rfl rfl) rfl rfl ?_
    refine on 1 rfl ?_
    refine rz ?_
    refine awp_ret ?_
    refine condQ.ret ?_
    refine seqQ.ret ?_
    cases h
    exact ⟨⟨_, _, _, _, rfl, rfl, rfl, rfl, rfl⟩⟩
  · refine cf rfl hc ?_
    refine awp_skip ?_
    refine cn rfl ?_
    refine seqQ.normal ?_
    refine awp_seq ?_
    refine rn 1 rfl ?_
    obtain ⟨⟨l, x1⟩, hk, h⟩ := bind_inv h
    refine po (ecall (p_jlex_Lex_ok hk) rfl rfl rfl rfl rfl rfl rfl rfl rfl) rfl rfl ?_
    refine on (nid' := 1) 6 rfl ?_
    refine rz ?_
    refine awp_seq ?_
    refine ra rfl ?_
    rcases ite_inv h with ⟨hc, h⟩ | ⟨hc, h⟩
    · refine ct rfl hc ?_
      refine awp_seq ?_
      refine rn 0 rfl ?_
      obtain ⟨x2, hk, h⟩ := bind_inv h
      refine po (ecall (p_triglyphlaw13_works_ok hk) rfl rfl rfl rfl rfl rfl rfl rfl rfl) rfl rfl ?_
      refine on 1 rfl ?_
      refine rz ?_
      refine awp_ret ?_
      refine condQ.ret ?_
      refine seqQ.ret ?_
      cases h
      exact ⟨⟨_, _, _, _, rfl, rfl, rfl, rfl, rfl⟩⟩
    · refine cf rfl hc ?_
      refine awp_skip ?_
      refine cn rfl ?_
      refine seqQ.normal ?_
      refine ra rfl ?_
      refine awp_seq ?_
      refine ra rfl ?_
      obtain ⟨res, hs, h⟩ := bind_inv h
      refine awp_sub Tryd.f5 0 (fun (r : Bool) => (CRes.ret (.d (.bool r)) [])) (fun (out3 : Str) => (⟨[(3, .d (.list 5 (List.map encToken l))), (5, .d (.str out3))], [(0, [.d (.int .i64 x1.err), .d (.int .i64 x1.at_), .d (.int .i64 x1.why)])], 1, [], none⟩ : St)) (res := res) ?_ (fun y hy => ?_) (fun r s' hr he => ?_)
      · replace h := hs
        refine awp_block ?_
        refine awp_loop ?_
        exact awpL_at rfl rfl (p_triglyphlaw13_JlexApart_l0_ok x1 _ _ h)
      · subst hy
        obtain out3 := y
        refine seqQ.normal ?_
        refine awp_seq ?_
        refine rn 1 rfl ?_
        obtain ⟨⟨m, x7⟩, hk, h⟩ := bind_inv h
        refine po (ecall (p_jlex_Lex_ok hk) rfl rfl rfl rfl rfl rfl rfl rfl rfl) rfl rfl ?_
        refine on (nid' := 2) 6 rfl ?_
        refine rz ?_
        refine awp_seq ?_
        refine awp_seq ?_
        refine rn 4 rfl ?_
        rcases ite_inv h with ⟨hc, h⟩ | ⟨hc, h⟩
        · refine gt rfl rfl rfl rfl hc rfl ?_
          refine on 6 rfl ?_
          refine rz ?_
          refine ct rfl rfl ?_
          refine ra rfl ?_
          refine awp_ret ?_
          refine condQ.ret ?_
          refine seqQ.ret ?_
          cases h
          exact ⟨⟨_, _, _, _, rfl, rfl, rfl, rfl, rfl⟩⟩
        · refine gf rfl rfl rfl rfl hc rfl ?_
          refine on 1 rfl ?_
          refine po (ellen rfl rfl rfl rfl rfl rfl rfl) rfl rfl ?_
          refine on 1 rfl ?_
          refine po (ellen rfl rfl rfl rfl rfl rfl rfl) rfl rfl ?_
          refine on 2 rfl ?_
          refine rz ?_
          rcases ite_inv h with ⟨hc, h⟩ | ⟨hc, h⟩
          · refine ct rfl hc ?_
            refine ra rfl ?_
            refine awp_ret ?_
            refine condQ.ret ?_
            refine seqQ.ret ?_
            cases h
            exact ⟨⟨_, _, _, _, rfl, rfl, rfl, rfl, rfl⟩⟩
          · refine cf rfl hc ?_
            refine awp_skip ?_
            refine cn rfl ?_
            refine seqQ.normal ?_
            refine awp_seq ?_
            refine ra rfl ?_
            obtain ⟨res, hs, h⟩ := bind_inv h
            refine awp_sub Tryd.f5 0 (fun (r : Bool) => (CRes.ret (.d (.bool r)) [])) (fun (_ : Unit) => (⟨[], [(1, [.d (.int .i64 x7.err), .d (.int .i64 x7.at_), .d (.int .i64 x7.why)]), (0, [.d (.int .i64 x1.err), .d (.int .i64 x1.at_), .d (.int .i64 x1.why)])], 2, [], none⟩ : St)) (res := res) ?_ (fun y hy => ?_) (fun r s' hr he => ?_)
            · replace h := hs
              refine awp_block ?_
              refine awp_loop ?_
              exact awpL_at rfl rfl (p_triglyphlaw13_JlexApart_l1_ok x1 x7 _ _ h)
            · subst hy
              refine seqQ.normal ?_
              refine awp_seq ?_
              refine rn 0 rfl ?_
              obtain ⟨x9, hk, h⟩ := bind_inv h
              refine po (ecall (p_triglyphlaw13_works_ok hk) rfl rfl rfl rfl rfl rfl rfl rfl rfl) rfl rfl ?_
              refine on 1 rfl ?_
              refine rz ?_
              refine awp_ret ?_
              cases h
              exact ⟨⟨_, _, _, _, rfl, rfl, rfl, rfl, rfl⟩⟩
            · subst hr
              refine seqQ.ret ?_
              cases h
              exact he
      · subst hr
        refine seqQ.ret ?_
        cases h
        exact he

end Go.AM.Seat
