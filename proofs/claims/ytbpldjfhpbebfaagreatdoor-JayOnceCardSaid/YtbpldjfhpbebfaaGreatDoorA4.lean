/- Part of a proof about the given program: the abstract machine, the printed functions, the plain laws. (YFgrammar_parser_skip, YFgrammar_parser_take, YFgrammar_righted, YFgrammar_uses, YFgrammar_parser_expr, YFgrammar_Parse, YFjay_Grammar, YFjlex_at, YFjlex_digit, YFjlex_begins, YFjlex_letter, YFjlex_name, YFarr_Atom, YFarr_Nums, YFjlex_number, YFjlex_numbers, YFarr_Text, YFrunes_Good, YFrunes_first, YFrunes_put_nil, YFrunes_One, YFjlex_text, YFjlex_words, YFstringslite_HasPrefix, YFstrings_HasPrefix) -/
import Derived.Test.YtbpldjfhpbebfaaGreatDoorA3
set_option linter.all false
set_option linter.unusedSectionVars false
set_option linter.unusedVariables false
set_option linter.unusedSimpArgs false

namespace Go.AM.Seat
open Go Go.AM Go.Proofs
set_option maxRecDepth 100000
set_option maxHeartbeats 4000000
set_option linter.unusedVariables false
abbrev Mp_grammar_parser_skip_l0 (a : Grammar_parser × Int) (res : Except (Int) (Unit)) : Prop := match a with | (p, i7) => awpL X 38 (codeAt [1, 1, 1, 0, 0] (bodyOf Tryz.f38)) (cleanAt (X.H 38 16) 1) (exitQ 1 (X.H 38 1000001) 1 (SubQ X Tryz.f38 1 (fun (r : Int) => (CRes.ret (.d (.int .i64 r)) [[.d (.list 1 (List.map D.str p.g.verbs)), .d (.list 1 (List.map D.str p.g.adverbs)), .d (.list 1 (List.map D.str p.g.behind)), .d (.str p.g.outer), .d (.str p.g.power), .d (.str p.g.open_), .d (.str p.g.close), .d (.str p.g.left), .d (.str p.g.right), .d (.str p.g.minus), .d (.str p.g.quote), .d (.bool p.g.trains), .d (.bool p.g.lone), .d (.bool p.g.square), .d (.list 5 (List.map encToken p.l)), .d (.int .i64 p.i), .d (.int .i64 p.end_), .d (.int .i64 p.deep), .d (.int .i64 p.in_)]])) (fun (_ : Unit) => (⟨[], [], 0, [], none⟩ : St)) res)) ⟨[(0, .c (.ptr 0 0)), (1, .d (.int .i64 i7))], [(0, [.d (.list 1 (List.map D.str p.g.verbs)), .d (.list 1 (List.map D.str p.g.adverbs)), .d (.list 1 (List.map D.str p.g.behind)), .d (.str p.g.outer), .d (.str p.g.power), .d (.str p.g.open_), .d (.str p.g.close), .d (.str p.g.left), .d (.str p.g.right), .d (.str p.g.minus), .d (.str p.g.quote), .d (.bool p.g.trains), .d (.bool p.g.lone), .d (.bool p.g.square), .d (.list 5 (List.map encToken p.l)), .d (.int .i64 p.i), .d (.int .i64 p.end_), .d (.int .i64 p.deep), .d (.int .i64 p.in_)])], 1, [], none⟩
theorem p_grammar_parser_skip_l0_ih : ∀ a res, p_grammar_parser_skip_l0 a = some res → Mp_grammar_parser_skip_l0 a res := by
 refine p_grammar_parser_skip_l0.partial_correctness Mp_grammar_parser_skip_l0 ?_
 rintro p_grammar_parser_skip_l0' ih_p_grammar_parser_skip_l0 ⟨p, i7⟩ res h
 refine lg rfl ?_
 refine awp_block ?_
 refine awp_seq ?_
 refine rn 7 rfl ?_
 obtain ⟨x7, hk, h⟩ := bind_inv h
 refine po (ecallb (nid' := 1) (p_grammar_parser_sign_ok hk) rfl rfl rfl rfl rfl rfl rfl rfl rfl rfl rfl rfl) rfl rfl ?_
 refine rz ?_
 rcases ite_inv h with ⟨hc, h⟩ | ⟨hc, h⟩
 ·refine ct rfl hc ?_
  refine rn 3 rfl ?_
  refine awpO_nil ?_
  refine cn rfl ?_
  refine en rfl ?_
  refine loopQ.normal ?_
  exact awpL_at rfl rfl (ih_p_grammar_parser_skip_l0 _ _ h)
 ·refine cf rfl hc ?_
  refine awp_seq ?_
  refine rn 2 rfl ?_
  obtain ⟨⟨x8, ok⟩, hk, h⟩ := bind_inv h
  refine po (ecallb (nid' := 1) (p_grammar_parser_power_ok hk) rfl rfl rfl rfl rfl rfl rfl rfl rfl rfl rfl rfl) rfl rfl ?_
  refine on 5 rfl ?_
  refine rz ?_
  refine ra rfl ?_
  rcases ite_inv h with ⟨hc, h⟩ | ⟨hc, h⟩
  ·refine ct rfl hc ?_
   refine rn 3 rfl ?_
   refine awpO_nil ?_
   refine cn rfl ?_
   refine cn rfl ?_
   refine en rfl ?_
   refine loopQ.normal ?_
   exact awpL_at rfl rfl (ih_p_grammar_parser_skip_l0 _ _ h)
  ·refine cf rfl hc ?_
   refine ra rfl ?_
   refine awp_ret ?_
   refine condQ.ret ?_
   refine condQ.ret ?_
   refine exitQ.ret ?_
   refine loopQ.ret ?_
   refine exitQ.ret ?_
   cases h
   exact .err rfl (.ret rfl rfl)
abbrev Mp_grammar_parser_skip (a : Int × Bool × Grammar_parser) (res : Int) : Prop := match a with | (i, behind, p) => aval X 38 [.ptr 0 0, .d (.int .i64 i), .d (.bool behind)] [[.d (.list 1 (List.map D.str p.g.verbs)), .d (.list 1 (List.map D.str p.g.adverbs)), .d (.list 1 (List.map D.str p.g.behind)), .d (.str p.g.outer), .d (.str p.g.power), .d (.str p.g.open_), .d (.str p.g.close), .d (.str p.g.left), .d (.str p.g.right), .d (.str p.g.minus), .d (.str p.g.quote), .d (.bool p.g.trains), .d (.bool p.g.lone), .d (.bool p.g.square), .d (.list 5 (List.map encToken p.l)), .d (.int .i64 p.i), .d (.int .i64 p.end_), .d (.int .i64 p.deep), .d (.int .i64 p.in_)]] (CRes.ret (.d (.int .i64 res)) [[.d (.list 1 (List.map D.str p.g.verbs)), .d (.list 1 (List.map D.str p.g.adverbs)), .d (.list 1 (List.map D.str p.g.behind)), .d (.str p.g.outer), .d (.str p.g.power), .d (.str p.g.open_), .d (.str p.g.close), .d (.str p.g.left), .d (.str p.g.right), .d (.str p.g.minus), .d (.str p.g.quote), .d (.bool p.g.trains), .d (.bool p.g.lone), .d (.bool p.g.square), .d (.list 5 (List.map encToken p.l)), .d (.int .i64 p.i), .d (.int .i64 p.end_), .d (.int .i64 p.deep), .d (.int .i64 p.in_)]])
abbrev Mp_grammar_parser_group_l0 (a : Bool × Grammar_parser × Int × Int) (res : Except (Int) (Int × Int)) : Prop := match a with | (behind, p, i1, n) => awpL X 64 (codeAt [1, 1, 1, 0, 0, 0] (bodyOf Tryz.f64)) (cleanAt (X.H 64 3) 1) (exitQ 0 (X.H 64 1000000) 1 (SubQ X Tryz.f64 1 (fun (r : Int) => (CRes.ret (.d (.int .i64 r)) [[.d (.list 1 (List.map D.str p.g.verbs)), .d (.list 1 (List.map D.str p.g.adverbs)), .d (.list 1 (List.map D.str p.g.behind)), .d (.str p.g.outer), .d (.str p.g.power), .d (.str p.g.open_), .d (.str p.g.close), .d (.str p.g.left), .d (.str p.g.right), .d (.str p.g.minus), .d (.str p.g.quote), .d (.bool p.g.trains), .d (.bool p.g.lone), .d (.bool p.g.square), .d (.list 5 (List.map encToken p.l)), .d (.int .i64 p.i), .d (.int .i64 p.end_), .d (.int .i64 p.deep), .d (.int .i64 p.in_)]])) (fun ((i3, n1) : Int × Int) => (⟨[(0, .c (.ptr 0 0)), (1, .d (.int .i64 i3)), (7, .d (.int .i64 n1))], [(0, [.d (.list 1 (List.map D.str p.g.verbs)), .d (.list 1 (List.map D.str p.g.adverbs)), .d (.list 1 (List.map D.str p.g.behind)), .d (.str p.g.outer), .d (.str p.g.power), .d (.str p.g.open_), .d (.str p.g.close), .d (.str p.g.left), .d (.str p.g.right), .d (.str p.g.minus), .d (.str p.g.quote), .d (.bool p.g.trains), .d (.bool p.g.lone), .d (.bool p.g.square), .d (.list 5 (List.map encToken p.l)), .d (.int .i64 p.i), .d (.int .i64 p.end_), .d (.int .i64 p.deep), .d (.int .i64 p.in_)])], 1, [], none⟩ : St)) res)) ⟨[(0, .c (.ptr 0 0)), (1, .d (.int .i64 i1)), (2, .d (.bool behind)), (7, .d (.int .i64 n))], [(0, [.d (.list 1 (List.map D.str p.g.verbs)), .d (.list 1 (List.map D.str p.g.adverbs)), .d (.list 1 (List.map D.str p.g.behind)), .d (.str p.g.outer), .d (.str p.g.power), .d (.str p.g.open_), .d (.str p.g.close), .d (.str p.g.left), .d (.str p.g.right), .d (.str p.g.minus), .d (.str p.g.quote), .d (.bool p.g.trains), .d (.bool p.g.lone), .d (.bool p.g.square), .d (.list 5 (List.map encToken p.l)), .d (.int .i64 p.i), .d (.int .i64 p.end_), .d (.int .i64 p.deep), .d (.int .i64 p.in_)])], 1, [], none⟩
abbrev Mp_grammar_parser_group (a : Int × Bool × Grammar_parser) (res : Int) : Prop := match a with | (i, behind, p) => aval X 64 [.ptr 0 0, .d (.int .i64 i), .d (.bool behind)] [[.d (.list 1 (List.map D.str p.g.verbs)), .d (.list 1 (List.map D.str p.g.adverbs)), .d (.list 1 (List.map D.str p.g.behind)), .d (.str p.g.outer), .d (.str p.g.power), .d (.str p.g.open_), .d (.str p.g.close), .d (.str p.g.left), .d (.str p.g.right), .d (.str p.g.minus), .d (.str p.g.quote), .d (.bool p.g.trains), .d (.bool p.g.lone), .d (.bool p.g.square), .d (.list 5 (List.map encToken p.l)), .d (.int .i64 p.i), .d (.int .i64 p.end_), .d (.int .i64 p.deep), .d (.int .i64 p.in_)]] (CRes.ret (.d (.int .i64 res)) [[.d (.list 1 (List.map D.str p.g.verbs)), .d (.list 1 (List.map D.str p.g.adverbs)), .d (.list 1 (List.map D.str p.g.behind)), .d (.str p.g.outer), .d (.str p.g.power), .d (.str p.g.open_), .d (.str p.g.close), .d (.str p.g.left), .d (.str p.g.right), .d (.str p.g.minus), .d (.str p.g.quote), .d (.bool p.g.trains), .d (.bool p.g.lone), .d (.bool p.g.square), .d (.list 5 (List.map encToken p.l)), .d (.int .i64 p.i), .d (.int .i64 p.end_), .d (.int .i64 p.deep), .d (.int .i64 p.in_)]])
theorem p_grammar_parser_skip_grp : (∀ a res, p_grammar_parser_skip a = some res → Mp_grammar_parser_skip a res) ∧ (∀ a res, p_grammar_parser_group a = some res → Mp_grammar_parser_group a res) ∧ (∀ a res, p_grammar_parser_group_l0 a = some res → Mp_grammar_parser_group_l0 a res) := by
 refine p_grammar_parser_skip.mutual_partial_correctness (motive_1 := Mp_grammar_parser_skip) (motive_2 := Mp_grammar_parser_group) (motive_3 := Mp_grammar_parser_group_l0) ?_ ?_ ?_
 ·rintro p_grammar_parser_group' ih_p_grammar_parser_group ⟨i, behind, p⟩ res h
  refine aval_start (tm := [(0, .c (.ptr 0 0)), (1, .d (.int .i64 i)), (2, .d (.bool behind))]) (hp := [(0, [.d (.list 1 (List.map D.str p.g.verbs)), .d (.list 1 (List.map D.str p.g.adverbs)), .d (.list 1 (List.map D.str p.g.behind)), .d (.str p.g.outer), .d (.str p.g.power), .d (.str p.g.open_), .d (.str p.g.close), .d (.str p.g.left), .d (.str p.g.right), .d (.str p.g.minus), .d (.str p.g.quote), .d (.bool p.g.trains), .d (.bool p.g.lone), .d (.bool p.g.square), .d (.list 5 (List.map encToken p.l)), .d (.int .i64 p.i), .d (.int .i64 p.end_), .d (.int .i64 p.deep), .d (.int .i64 p.in_)])]) (n := 1) rfl Tryz.func38 rfl rfl rfl rfl rfl rfl ?_
  refine ra rfl ?_
  refine awp_seq ?_
  refine awp_seq ?_
  refine rn 7 rfl ?_
  obtain ⟨x, hk, h⟩ := bind_inv h
  refine po (ecallb (nid' := 1) (p_grammar_parser_is_ok hk) rfl rfl rfl rfl rfl rfl rfl rfl rfl rfl rfl rfl) rfl rfl ?_
  refine rz ?_
  obtain ⟨⟨i1, behind1⟩, hs, h⟩ := bind_inv h
  refine awp_nrm (fun ((i1, behind1) : Int × Bool) => (⟨[(0, .c (.ptr 0 0)), (1, .d (.int .i64 i1)), (2, .d (.bool behind1))], [(0, [.d (.list 1 (List.map D.str p.g.verbs)), .d (.list 1 (List.map D.str p.g.adverbs)), .d (.list 1 (List.map D.str p.g.behind)), .d (.str p.g.outer), .d (.str p.g.power), .d (.str p.g.open_), .d (.str p.g.close), .d (.str p.g.left), .d (.str p.g.right), .d (.str p.g.minus), .d (.str p.g.quote), .d (.bool p.g.trains), .d (.bool p.g.lone), .d (.bool p.g.square), .d (.list 5 (List.map encToken p.l)), .d (.int .i64 p.i), .d (.int .i64 p.end_), .d (.int .i64 p.deep), .d (.int .i64 p.in_)])], 1, [], none⟩ : St)) (y := (i1, behind1)) ?_ ?_
  ·replace h := hs
   rcases ite_inv h with ⟨hc, h⟩ | ⟨hc, h⟩
   ·refine ct rfl hc ?_
    refine ra rfl ?_
    refine rn 1 rfl ?_
    refine awpO_nil ?_
    refine cn rfl ?_
    cases h
    exact .ok rfl
   ·refine cf rfl hc ?_
    refine awp_skip ?_
    refine cn rfl ?_
    cases h
    exact .ok rfl
  ·refine seqQ.normal ?_
   refine awp_seq ?_
   obtain ⟨res, hs, h⟩ := bind_inv h
   refine awp_sub Tryz.f38 1 (fun (r : Int) => (CRes.ret (.d (.int .i64 r)) [[.d (.list 1 (List.map D.str p.g.verbs)), .d (.list 1 (List.map D.str p.g.adverbs)), .d (.list 1 (List.map D.str p.g.behind)), .d (.str p.g.outer), .d (.str p.g.power), .d (.str p.g.open_), .d (.str p.g.close), .d (.str p.g.left), .d (.str p.g.right), .d (.str p.g.minus), .d (.str p.g.quote), .d (.bool p.g.trains), .d (.bool p.g.lone), .d (.bool p.g.square), .d (.list 5 (List.map encToken p.l)), .d (.int .i64 p.i), .d (.int .i64 p.end_), .d (.int .i64 p.deep), .d (.int .i64 p.in_)]])) (fun (i6 : Int) => (⟨[(0, .c (.ptr 0 0)), (1, .d (.int .i64 i6))], [(0, [.d (.list 1 (List.map D.str p.g.verbs)), .d (.list 1 (List.map D.str p.g.adverbs)), .d (.list 1 (List.map D.str p.g.behind)), .d (.str p.g.outer), .d (.str p.g.power), .d (.str p.g.open_), .d (.str p.g.close), .d (.str p.g.left), .d (.str p.g.right), .d (.str p.g.minus), .d (.str p.g.quote), .d (.bool p.g.trains), .d (.bool p.g.lone), .d (.bool p.g.square), .d (.list 5 (List.map encToken p.l)), .d (.int .i64 p.i), .d (.int .i64 p.end_), .d (.int .i64 p.deep), .d (.int .i64 p.in_)])], 1, [], none⟩ : St)) (res := res) ?_ (fun y hy => ?_) (fun r x s' hr hx he => ?_)
   ·replace h := hs
    refine awp_block ?_
    refine awp_seq ?_
    refine rn 7 rfl ?_
    obtain ⟨x1, hk, h⟩ := bind_inv h
    refine po (ecallb (nid' := 1) (p_grammar_parser_sign_ok hk) rfl rfl rfl rfl rfl rfl rfl rfl rfl rfl rfl rfl) rfl rfl ?_
    refine on 1 rfl ?_
    rcases ite_inv h with ⟨hc, h⟩ | ⟨hc, h⟩
    ·refine gt rfl rfl rfl rfl hc rfl ?_
     refine on 13 rfl ?_
     refine rz ?_
     refine ct rfl rfl ?_
     refine rn 3 rfl ?_
     refine awpO_nil ?_
     refine cn rfl ?_
     refine en rfl ?_
     cases h
     exact .ok rfl
    ·refine gf rfl rfl rfl rfl hc rfl ?_
     refine on 2 rfl ?_
     rcases ite_inv h with ⟨hc, h⟩ | ⟨hc, h⟩
     ·refine gt rfl rfl rfl rfl hc rfl ?_
      refine on 7 rfl ?_
      obtain ⟨x2, hk, h⟩ := bind_inv h
      refine po (ecallb (nid' := 1) (p_grammar_parser_sign_ok hk) rfl rfl rfl rfl rfl rfl rfl rfl rfl rfl rfl rfl) rfl rfl ?_
      refine on 3 rfl ?_
      refine rz ?_
      rcases ite_inv h with ⟨hc, h⟩ | ⟨hc, h⟩
      ·refine ct rfl hc ?_
       refine rn 3 rfl ?_
       refine awpO_nil ?_
       refine cn rfl ?_
       refine en rfl ?_
       cases h
       exact .ok rfl
      ·refine cf rfl hc ?_
       refine awp_seq ?_
       refine rn 7 rfl ?_
       obtain ⟨x3, hk, h⟩ := bind_inv h
       refine po (ecallb (nid' := 1) (p_grammar_parser_is_ok hk) rfl rfl rfl rfl rfl rfl rfl rfl rfl rfl rfl rfl) rfl rfl ?_
       refine on 1 rfl ?_
       refine rz ?_
       rcases ite_inv h with ⟨hc, h⟩ | ⟨hc, h⟩
       ·refine ct rfl hc ?_
        refine awp_seq ?_
        refine awp_seq ?_
        refine rn 2 rfl ?_
        obtain ⟨i2, hk, h⟩ := bind_inv h
        refine po (ecallb (nid' := 1) (p_grammar_parser_shut_ok hk) rfl rfl rfl rfl rfl rfl rfl rfl rfl rfl rfl rfl) rfl rfl ?_
        refine on 1 rfl ?_
        refine rz ?_
        refine ra rfl ?_
        rcases ite_inv h with ⟨hc, h⟩ | ⟨hc, h⟩
        ·refine ct rfl hc ?_
         refine ra rfl ?_
         refine awp_ret ?_
         refine condQ.ret ?_
         refine seqQ.ret ?_
         refine condQ.ret ?_
         refine condQ.ret ?_
         refine exitQ.ret ?_
         cases h
         exact .err rfl (.ret rfl rfl)
        ·refine cf rfl hc ?_
         refine awp_skip ?_
         refine cn rfl ?_
         refine seqQ.normal ?_
         refine rn 3 rfl ?_
         refine awpO_nil ?_
         refine cn rfl ?_
         refine cn rfl ?_
         refine en rfl ?_
         cases h
         exact .ok rfl
       ·refine cf rfl hc ?_
        refine awp_seq ?_
        refine rn 2 rfl ?_
        obtain ⟨x4, hk, h⟩ := bind_inv h
        refine po (ecallb (nid' := 1) (p_grammar_parser_is_ok hk) rfl rfl rfl rfl rfl rfl rfl rfl rfl rfl rfl rfl) rfl rfl ?_
        refine on 1 rfl ?_
        refine rz ?_
        rcases ite_inv h with ⟨hc, h⟩ | ⟨hc, h⟩
        ·refine ct rfl hc ?_
         refine awp_seq ?_
         refine rn 3 rfl ?_
         obtain ⟨i3, hk, h⟩ := bind_inv h
         refine po (ecallb (nid' := 1) (ih_p_grammar_parser_group _ _ hk) rfl rfl rfl rfl rfl rfl rfl rfl rfl rfl rfl rfl) rfl rfl ?_
         refine on 1 rfl ?_
         refine rz ?_
         refine ra rfl ?_
         rcases ite_inv h with ⟨hc, h⟩ | ⟨hc, h⟩
         ·refine ct rfl hc ?_
          refine ra rfl ?_
          refine awp_ret ?_
          refine condQ.ret ?_
          refine condQ.ret ?_
          refine condQ.ret ?_
          refine condQ.ret ?_
          refine exitQ.ret ?_
          cases h
          exact .err rfl (.ret rfl rfl)
         ·refine cf rfl hc ?_
          refine awp_skip ?_
          refine cn rfl ?_
          refine cn rfl ?_
          refine cn rfl ?_
          refine cn rfl ?_
          refine en rfl ?_
          cases h
          exact .ok rfl
        ·refine cf rfl hc ?_
         refine ra rfl ?_
         refine awp_ret ?_
         refine condQ.ret ?_
         refine condQ.ret ?_
         refine condQ.ret ?_
         refine exitQ.ret ?_
         cases h
         exact .err rfl (.ret rfl rfl)
     ·refine gf rfl rfl rfl rfl hc rfl ?_
      refine on 11 rfl ?_
      refine rz ?_
      refine cf rfl rfl ?_
      refine awp_seq ?_
      refine rn 7 rfl ?_
      obtain ⟨x5, hk, h⟩ := bind_inv h
      refine po (ecallb (nid' := 1) (p_grammar_parser_is_ok hk) rfl rfl rfl rfl rfl rfl rfl rfl rfl rfl rfl rfl) rfl rfl ?_
      refine on 1 rfl ?_
      refine rz ?_
      rcases ite_inv h with ⟨hc, h⟩ | ⟨hc, h⟩
      ·refine ct rfl hc ?_
       refine awp_seq ?_
       refine awp_seq ?_
       refine rn 2 rfl ?_
       obtain ⟨i4, hk, h⟩ := bind_inv h
       refine po (ecallb (nid' := 1) (p_grammar_parser_shut_ok hk) rfl rfl rfl rfl rfl rfl rfl rfl rfl rfl rfl rfl) rfl rfl ?_
       refine on 1 rfl ?_
       refine rz ?_
       refine ra rfl ?_
       rcases ite_inv h with ⟨hc, h⟩ | ⟨hc, h⟩
       ·refine ct rfl hc ?_
        refine ra rfl ?_
        refine awp_ret ?_
        refine condQ.ret ?_
        refine seqQ.ret ?_
        refine condQ.ret ?_
        refine condQ.ret ?_
        refine exitQ.ret ?_
        cases h
        exact .err rfl (.ret rfl rfl)
       ·refine cf rfl hc ?_
        refine awp_skip ?_
        refine cn rfl ?_
        refine seqQ.normal ?_
        refine rn 3 rfl ?_
        refine awpO_nil ?_
        refine cn rfl ?_
        refine cn rfl ?_
        refine en rfl ?_
        cases h
        exact .ok rfl
      ·refine cf rfl hc ?_
       refine awp_seq ?_
       refine rn 2 rfl ?_
       obtain ⟨x6, hk, h⟩ := bind_inv h
       refine po (ecallb (nid' := 1) (p_grammar_parser_is_ok hk) rfl rfl rfl rfl rfl rfl rfl rfl rfl rfl rfl rfl) rfl rfl ?_
       refine on 1 rfl ?_
       refine rz ?_
       rcases ite_inv h with ⟨hc, h⟩ | ⟨hc, h⟩
       ·refine ct rfl hc ?_
        refine awp_seq ?_
        refine rn 3 rfl ?_
        obtain ⟨i5, hk, h⟩ := bind_inv h
        refine po (ecallb (nid' := 1) (ih_p_grammar_parser_group _ _ hk) rfl rfl rfl rfl rfl rfl rfl rfl rfl rfl rfl rfl) rfl rfl ?_
        refine on 1 rfl ?_
        refine rz ?_
        refine ra rfl ?_
        rcases ite_inv h with ⟨hc, h⟩ | ⟨hc, h⟩
        ·refine ct rfl hc ?_
         refine ra rfl ?_
         refine awp_ret ?_
         refine condQ.ret ?_
         refine condQ.ret ?_
         refine condQ.ret ?_
         refine condQ.ret ?_
         refine exitQ.ret ?_
         cases h
         exact .err rfl (.ret rfl rfl)
        ·refine cf rfl hc ?_
         refine awp_skip ?_
         refine cn rfl ?_
         refine cn rfl ?_
         refine cn rfl ?_
         refine cn rfl ?_
         refine en rfl ?_
         cases h
         exact .ok rfl
       ·refine cf rfl hc ?_
        refine ra rfl ?_
        refine awp_ret ?_
        refine condQ.ret ?_
        refine condQ.ret ?_
        refine condQ.ret ?_
        refine exitQ.ret ?_
        cases h
        exact .err rfl (.ret rfl rfl)
   ·subst hy
    obtain i6 := y
    refine seqQ.normal ?_
    obtain ⟨res, hs, h⟩ := bind_inv h
    refine awp_sub Tryz.f38 1 (fun (r : Int) => (CRes.ret (.d (.int .i64 r)) [[.d (.list 1 (List.map D.str p.g.verbs)), .d (.list 1 (List.map D.str p.g.adverbs)), .d (.list 1 (List.map D.str p.g.behind)), .d (.str p.g.outer), .d (.str p.g.power), .d (.str p.g.open_), .d (.str p.g.close), .d (.str p.g.left), .d (.str p.g.right), .d (.str p.g.minus), .d (.str p.g.quote), .d (.bool p.g.trains), .d (.bool p.g.lone), .d (.bool p.g.square), .d (.list 5 (List.map encToken p.l)), .d (.int .i64 p.i), .d (.int .i64 p.end_), .d (.int .i64 p.deep), .d (.int .i64 p.in_)]])) (fun (_ : Unit) => (⟨[], [], 0, [], none⟩ : St)) (res := res) ?_ (fun y hy => ?_) (fun r x s' hr hx he => ?_)
    ·replace h := hs
     refine awp_block ?_
     refine awp_loop ?_
     exact awpL_at rfl rfl (p_grammar_parser_skip_l0_ih _ _ h)
    ·subst hy; cases h
    ·subst hr
     cases h
     exact he
   ·subst hr
    refine seqQ.out hx ?_
    cases h
    exact he
 ·rintro p_grammar_parser_group_l0' ih_p_grammar_parser_group_l0 ⟨i, behind, p⟩ res h
  refine aval_start (tm := [(0, .c (.ptr 0 0)), (1, .d (.int .i64 i)), (2, .d (.bool behind))]) (hp := [(0, [.d (.list 1 (List.map D.str p.g.verbs)), .d (.list 1 (List.map D.str p.g.adverbs)), .d (.list 1 (List.map D.str p.g.behind)), .d (.str p.g.outer), .d (.str p.g.power), .d (.str p.g.open_), .d (.str p.g.close), .d (.str p.g.left), .d (.str p.g.right), .d (.str p.g.minus), .d (.str p.g.quote), .d (.bool p.g.trains), .d (.bool p.g.lone), .d (.bool p.g.square), .d (.list 5 (List.map encToken p.l)), .d (.int .i64 p.i), .d (.int .i64 p.end_), .d (.int .i64 p.deep), .d (.int .i64 p.in_)])]) (n := 1) rfl Tryz.func64 rfl rfl rfl rfl rfl rfl ?_
  refine ra rfl ?_
  refine ra rfl ?_
  refine ra rfl ?_
  refine awp_seq ?_
  obtain ⟨res, hs, h⟩ := bind_inv h
  refine awp_sub Tryz.f64 1 (fun (r : Int) => (CRes.ret (.d (.int .i64 r)) [[.d (.list 1 (List.map D.str p.g.verbs)), .d (.list 1 (List.map D.str p.g.adverbs)), .d (.list 1 (List.map D.str p.g.behind)), .d (.str p.g.outer), .d (.str p.g.power), .d (.str p.g.open_), .d (.str p.g.close), .d (.str p.g.left), .d (.str p.g.right), .d (.str p.g.minus), .d (.str p.g.quote), .d (.bool p.g.trains), .d (.bool p.g.lone), .d (.bool p.g.square), .d (.list 5 (List.map encToken p.l)), .d (.int .i64 p.i), .d (.int .i64 p.end_), .d (.int .i64 p.deep), .d (.int .i64 p.in_)]])) (fun ((i3, n1) : Int × Int) => (⟨[(0, .c (.ptr 0 0)), (1, .d (.int .i64 i3)), (7, .d (.int .i64 n1))], [(0, [.d (.list 1 (List.map D.str p.g.verbs)), .d (.list 1 (List.map D.str p.g.adverbs)), .d (.list 1 (List.map D.str p.g.behind)), .d (.str p.g.outer), .d (.str p.g.power), .d (.str p.g.open_), .d (.str p.g.close), .d (.str p.g.left), .d (.str p.g.right), .d (.str p.g.minus), .d (.str p.g.quote), .d (.bool p.g.trains), .d (.bool p.g.lone), .d (.bool p.g.square), .d (.list 5 (List.map encToken p.l)), .d (.int .i64 p.i), .d (.int .i64 p.end_), .d (.int .i64 p.deep), .d (.int .i64 p.in_)])], 1, [], none⟩ : St)) (res := res) ?_ (fun y hy => ?_) (fun r x s' hr hx he => ?_)
  ·replace h := hs
   refine awp_block ?_
   refine awp_loop ?_
   exact awpL_at rfl rfl (ih_p_grammar_parser_group_l0 _ _ h)
  ·subst hy
   obtain ⟨i3, n1⟩ := y
   refine seqQ.normal ?_
   refine awp_seq ?_
   refine awp_seq ?_
   refine rn 3 rfl ?_
   rcases ite_inv h with ⟨hc, h⟩ | ⟨hc, h⟩
   ·refine gt rfl rfl rfl rfl hc rfl ?_
    refine on 14 rfl ?_
    refine rz ?_
    refine ct rfl rfl ?_
    refine ra rfl ?_
    refine awp_ret ?_
    refine condQ.ret ?_
    refine seqQ.ret ?_
    cases h
    exact .ret rfl rfl
   ·refine gf rfl rfl rfl rfl hc rfl ?_
    refine on 6 rfl ?_
    rcases ite_inv h with ⟨hc, h⟩ | ⟨hc, h⟩
    ·refine gt rfl rfl rfl rfl hc rfl ?_
     refine on 3 rfl ?_
     rcases ite_inv h with ⟨hc, h⟩ | ⟨hc, h⟩
     ·refine gt rfl rfl rfl rfl hc rfl ?_
      refine on 5 rfl ?_
      refine rz ?_
      refine ct rfl rfl ?_
      refine ra rfl ?_
      refine awp_ret ?_
      refine condQ.ret ?_
      refine seqQ.ret ?_
      cases h
      exact .ret rfl rfl
     ·refine gf rfl rfl rfl rfl hc rfl ?_
      refine on 5 rfl ?_
      refine rz ?_
      rcases ite_inv h with ⟨hc, h⟩ | ⟨hc, h⟩
      ·refine ct rfl hc ?_
       refine ra rfl ?_
       refine awp_ret ?_
       refine condQ.ret ?_
       refine seqQ.ret ?_
       cases h
       exact .ret rfl rfl
      ·refine cf rfl hc ?_
       refine awp_skip ?_
       refine cn rfl ?_
       refine seqQ.normal ?_
       refine ra rfl ?_
       refine awp_ret ?_
       cases h
       exact .ret rfl rfl
    ·refine gf rfl rfl rfl rfl hc rfl ?_
     refine on 8 rfl ?_
     refine rz ?_
     refine cf rfl rfl ?_
     refine awp_skip ?_
     refine cn rfl ?_
     refine seqQ.normal ?_
     refine ra rfl ?_
     refine awp_ret ?_
     cases h
     exact .ret rfl rfl
  ·subst hr
   refine seqQ.out hx ?_
   cases h
   exact he
 ·rintro p_grammar_parser_skip' p_grammar_parser_group_l0' ih_p_grammar_parser_skip ih_p_grammar_parser_group_l0 ⟨behind, p, i1, n⟩ res h
  refine lg rfl ?_
  refine awp_seq ?_
  refine awp_seq ?_
  refine rn 2 rfl ?_
  obtain ⟨x, hk, h⟩ := bind_inv h
  refine po (ecallb (nid' := 1) (p_grammar_parser_is_ok hk) rfl rfl rfl rfl rfl rfl rfl rfl rfl rfl rfl rfl) rfl rfl ?_
  refine on 1 rfl ?_
  refine rz ?_
  rcases ite_inv h with ⟨hc, h⟩ | ⟨hc, h⟩
  ·refine ct rfl hc ?_
   refine awp_skip ?_
   refine cn rfl ?_
   refine seqQ.normal ?_
   refine awp_block ?_
   refine awp_seq ?_
   refine awp_seq ?_
   refine rn 3 rfl ?_
   obtain ⟨i2, hk, h⟩ := bind_inv h
   refine po (ecallb (nid' := 1) (ih_p_grammar_parser_skip _ _ hk) rfl rfl rfl rfl rfl rfl rfl rfl rfl rfl rfl rfl) rfl rfl ?_
   refine on 1 rfl ?_
   refine rz ?_
   refine ra rfl ?_
   rcases ite_inv h with ⟨hc, h⟩ | ⟨hc, h⟩
   ·refine ct rfl hc ?_
    refine ra rfl ?_
    refine awp_ret ?_
    refine condQ.ret ?_
    refine seqQ.ret ?_
    refine exitQ.ret ?_
    refine loopQ.ret ?_
    refine exitQ.ret ?_
    cases h
    exact .err rfl (.ret rfl rfl)
   ·refine cf rfl hc ?_
    refine awp_skip ?_
    refine cn rfl ?_
    refine seqQ.normal ?_
    refine rn 3 rfl ?_
    refine awpO_nil ?_
    refine en rfl ?_
    refine loopQ.normal ?_
    exact awpL_at rfl rfl (ih_p_grammar_parser_group_l0 _ _ h)
  ·refine cf rfl hc ?_
   refine awp_exit ?_
   refine condQ.exit ?_
   refine seqQ.exit ?_
   refine loopQ.exit ?_
   refine eh rfl ?_
   cases h
   exact .ok rfl
theorem p_grammar_parser_skip_ih : ∀ a res, p_grammar_parser_skip a = some res → Mp_grammar_parser_skip a res := p_grammar_parser_skip_grp.1
theorem p_grammar_parser_skip_ok {a : Int × Bool × Grammar_parser} {res : Int} (h : p_grammar_parser_skip a = some res) : Mp_grammar_parser_skip a res := p_grammar_parser_skip_ih a res h
theorem p_grammar_parser_take_ok {kind : Int} {text : Str} {p : Grammar_parser} {r : Except (Fault) (Int)} (h : p_grammar_parser_take kind text p = some r) : aval X 68 [.ptr 0 0, .d (.int .i64 kind), .d (.str text)] [[.d (.list 1 (List.map D.str p.g.verbs)), .d (.list 1 (List.map D.str p.g.adverbs)), .d (.list 1 (List.map D.str p.g.behind)), .d (.str p.g.outer), .d (.str p.g.power), .d (.str p.g.open_), .d (.str p.g.close), .d (.str p.g.left), .d (.str p.g.right), .d (.str p.g.minus), .d (.str p.g.quote), .d (.bool p.g.trains), .d (.bool p.g.lone), .d (.bool p.g.square), .d (.list 5 (List.map encToken p.l)), .d (.int .i64 p.i), .d (.int .i64 p.end_), .d (.int .i64 p.deep), .d (.int .i64 p.in_)]] (match (generalizing := false) r with | .ok r => (CRes.ret (.tuple []) [[.d (.list 1 (List.map D.str p.g.verbs)), .d (.list 1 (List.map D.str p.g.adverbs)), .d (.list 1 (List.map D.str p.g.behind)), .d (.str p.g.outer), .d (.str p.g.power), .d (.str p.g.open_), .d (.str p.g.close), .d (.str p.g.left), .d (.str p.g.right), .d (.str p.g.minus), .d (.str p.g.quote), .d (.bool p.g.trains), .d (.bool p.g.lone), .d (.bool p.g.square), .d (.list 5 (List.map encToken p.l)), .d (.int .i64 r), .d (.int .i64 p.end_), .d (.int .i64 p.deep), .d (.int .i64 p.in_)]]) | .error r => (CRes.pan (.iface 34 (encFault r)) [[.d (.list 1 (List.map D.str p.g.verbs)), .d (.list 1 (List.map D.str p.g.adverbs)), .d (.list 1 (List.map D.str p.g.behind)), .d (.str p.g.outer), .d (.str p.g.power), .d (.str p.g.open_), .d (.str p.g.close), .d (.str p.g.left), .d (.str p.g.right), .d (.str p.g.minus), .d (.str p.g.quote), .d (.bool p.g.trains), .d (.bool p.g.lone), .d (.bool p.g.square), .d (.list 5 (List.map encToken p.l)), .d (.int .i64 p.i), .d (.int .i64 p.end_), .d (.int .i64 p.deep), .d (.int .i64 p.in_)]])) := by
 unfold p_grammar_parser_take at h
 refine aval_start (tm := [(0, .c (.ptr 0 0)), (1, .d (.int .i64 kind)), (2, .d (.str text))]) (hp := [(0, [.d (.list 1 (List.map D.str p.g.verbs)), .d (.list 1 (List.map D.str p.g.adverbs)), .d (.list 1 (List.map D.str p.g.behind)), .d (.str p.g.outer), .d (.str p.g.power), .d (.str p.g.open_), .d (.str p.g.close), .d (.str p.g.left), .d (.str p.g.right), .d (.str p.g.minus), .d (.str p.g.quote), .d (.bool p.g.trains), .d (.bool p.g.lone), .d (.bool p.g.square), .d (.list 5 (List.map encToken p.l)), .d (.int .i64 p.i), .d (.int .i64 p.end_), .d (.int .i64 p.deep), .d (.int .i64 p.in_)])]) (n := 1) rfl Tryz.func68 rfl rfl rfl rfl rfl rfl ?_
 refine awp_seq ?_
 refine awp_seq ?_
 refine rn 7 rfl ?_
 obtain ⟨x, hk, h⟩ := bind_inv h
 refine po (ecallb (nid' := 1) (p_grammar_parser_is_ok hk) rfl rfl rfl rfl rfl rfl rfl rfl rfl rfl rfl rfl) rfl rfl ?_
 refine on 1 rfl ?_
 refine rz ?_
 obtain ⟨res, hs, h⟩ := bind_inv h
 refine awp_sub Tryz.f68 1 (fun (r : Except (Fault) (Int)) => (match (generalizing := false) r with | .ok r => (CRes.ret (.tuple []) [[.d (.list 1 (List.map D.str p.g.verbs)), .d (.list 1 (List.map D.str p.g.adverbs)), .d (.list 1 (List.map D.str p.g.behind)), .d (.str p.g.outer), .d (.str p.g.power), .d (.str p.g.open_), .d (.str p.g.close), .d (.str p.g.left), .d (.str p.g.right), .d (.str p.g.minus), .d (.str p.g.quote), .d (.bool p.g.trains), .d (.bool p.g.lone), .d (.bool p.g.square), .d (.list 5 (List.map encToken p.l)), .d (.int .i64 r), .d (.int .i64 p.end_), .d (.int .i64 p.deep), .d (.int .i64 p.in_)]]) | .error r => (CRes.pan (.iface 34 (encFault r)) [[.d (.list 1 (List.map D.str p.g.verbs)), .d (.list 1 (List.map D.str p.g.adverbs)), .d (.list 1 (List.map D.str p.g.behind)), .d (.str p.g.outer), .d (.str p.g.power), .d (.str p.g.open_), .d (.str p.g.close), .d (.str p.g.left), .d (.str p.g.right), .d (.str p.g.minus), .d (.str p.g.quote), .d (.bool p.g.trains), .d (.bool p.g.lone), .d (.bool p.g.square), .d (.list 5 (List.map encToken p.l)), .d (.int .i64 p.i), .d (.int .i64 p.end_), .d (.int .i64 p.deep), .d (.int .i64 p.in_)]]))) (fun (_ : Unit) => (⟨[(0, .c (.ptr 0 0))], [(0, [.d (.list 1 (List.map D.str p.g.verbs)), .d (.list 1 (List.map D.str p.g.adverbs)), .d (.list 1 (List.map D.str p.g.behind)), .d (.str p.g.outer), .d (.str p.g.power), .d (.str p.g.open_), .d (.str p.g.close), .d (.str p.g.left), .d (.str p.g.right), .d (.str p.g.minus), .d (.str p.g.quote), .d (.bool p.g.trains), .d (.bool p.g.lone), .d (.bool p.g.square), .d (.list 5 (List.map encToken p.l)), .d (.int .i64 p.i), .d (.int .i64 p.end_), .d (.int .i64 p.deep), .d (.int .i64 p.in_)])], 1, [], none⟩ : St)) (res := res) ?_ (fun y hy => ?_) (fun r x s' hr hx he => ?_)
 ·replace h := hs
  rcases ite_inv h with ⟨hc, h⟩ | ⟨hc, h⟩
  ·refine ct rfl hc ?_
   refine rn 5 rfl ?_
   obtain ⟨res, hk, h⟩ := bind_inv h
   rcases res with e | y
   ·refine pp (ecallp (p_grammar_parser_fail_ok hk) rfl rfl rfl rfl rfl rfl rfl rfl rfl rfl) rfl rfl ?_
    refine condQ.pan ?_
    cases h
    exact .err rfl (.pan rfl rfl)
   ·refine po (ecallb (nid' := 1) (p_grammar_parser_fail_ok hk) rfl rfl rfl rfl rfl rfl rfl rfl rfl rfl rfl rfl) rfl rfl ?_
    refine awpO_nil ?_
    refine cn rfl ?_
    cases h
    exact .ok rfl
  ·refine cf rfl hc ?_
   refine awp_skip ?_
   refine cn rfl ?_
   cases h
   exact .ok rfl
 ·subst hy
  refine seqQ.normal ?_
  refine rn 8 rfl ?_
  refine awpO_nil ?_
  cases h
  exact .normal rfl rfl
 ·subst hr
  refine seqQ.out hx ?_
  cases h
  exact he
abbrev Mp_grammar_righted_l0 (a : Node × Int × (List Node)) (res : (List Node)) : Prop := match a with | (n, x, n5) => ∀ (x0 : Int), awpL X 97 (codeAt [1, 1, 1, 1, 1, 0, 1, 0, 0] (bodyOf Tryz.f97)) (cleanAt (X.H 97 8) 2) (exitQ 0 (X.H 97 1000000) 2 (NrmQ (fun (n51 : (List Node)) => (⟨[(1, .c (.ptr 0 0)), (2, .c (.ptr 1 0))], [(1, [.d (.int .i64 0), .d (.int .i64 0), .d (.str []), .own 1 (List.map (D.int .i64) []), .own 3 (List.map encCell []), .own 7 (List.map encNodeR []), .d (.int .i64 0)]), (0, [.d (.int .i64 x0), .d (.int .i64 n.op_), .d (.str n.name), .d (.list 1 (List.map (D.int .i64) n.lit.shape)), .d (.list 3 (List.map encCell n.lit.cells)), .own 7 (List.map encNodeR n51), .d (.int .i64 n.at_)])], 2, [], none⟩ : St)) res)) ⟨[(1, .c (.ptr 0 0)), (2, .c (.ptr 1 0)), (22, .d (.list 7 (List.map encNodeR n.kids))), (23, .d (.int .i64 (List.length n.kids : Int))), (24, .d (.int .i64 x))], [(1, [.d (.int .i64 0), .d (.int .i64 0), .d (.str []), .own 1 (List.map (D.int .i64) []), .own 3 (List.map encCell []), .own 7 (List.map encNodeR []), .d (.int .i64 0)]), (0, [.d (.int .i64 x0), .d (.int .i64 n.op_), .d (.str n.name), .d (.list 1 (List.map (D.int .i64) n.lit.shape)), .d (.list 3 (List.map encCell n.lit.cells)), .own 7 (List.map encNodeR n5), .d (.int .i64 n.at_)])], 2, [], none⟩
abbrev Mp_grammar_righted (a : Node) (res : Node) : Prop := match a with | n => aval X 97 [.d (encNode n)] [] (CRes.ret (.d (encNode res)) [])
theorem p_grammar_righted_l0_grp : (∀ a res, p_grammar_righted_l0 a = some res → Mp_grammar_righted_l0 a res) ∧ (∀ a res, p_grammar_righted a = some res → Mp_grammar_righted a res) := by
 refine p_grammar_righted_l0.mutual_partial_correctness (motive_1 := Mp_grammar_righted_l0) (motive_2 := Mp_grammar_righted) ?_ ?_
 ·rintro p_grammar_righted_l0' p_grammar_righted' ih_p_grammar_righted_l0 ih_p_grammar_righted ⟨n, x, n5⟩ res h x0
  refine lg rfl ?_
  refine ra rfl ?_
  refine awp_seq ?_
  rcases ite_inv h with ⟨hc, h⟩ | ⟨hc, h⟩
  ·refine ct rfl hc ?_
   refine awp_skip ?_
   refine cn rfl ?_
   refine seqQ.normal ?_
   refine awp_seq ?_
   refine awp_block ?_
   refine awp_seq ?_
   refine rn 0 rfl ?_
   obtain ⟨y, hk, h⟩ := bind_inv h
   refine po (elget encNode encNodeR_eq hk rfl rfl rfl rfl rfl) rfl rfl ?_
   refine on (nid' := 3) 3 rfl ?_
   refine rz ?_
   refine drn (m := 11) 3 rfl rfl ?_
   obtain ⟨x1, hk, h⟩ := bind_inv h
   refine pd (ecall (ih_p_grammar_righted _ _ hk) rfl rfl rfl rfl rfl rfl rfl rfl rfl) rfl rfl rfl rfl rfl ?_
   refine pd (erw' (show V.c (.own 7 [encNode x1]) = V.c (.own 7 (List.map encNodeR [x1])) from by simp only [List.map_cons, List.map_nil, encNodeR_eq]) (eplain rfl)) rfl rfl rfl rfl rfl ?_
   obtain ⟨l, hk, h⟩ := bind_inv h
   refine pd (eappc hk rfl rfl rfl rfl rfl rfl rfl rfl rfl rfl rfl rfl rfl rfl ) rfl rfl rfl rfl rfl ?_
   refine don 2 rfl ?_
   refine dz' (by kernel_rfl) ?_
   refine en rfl ?_
   refine seqQ.normal ?_
   refine rn 2 rfl ?_
   refine awpO_nil ?_
   refine loopQ.normal ?_
   exact awpL_at rfl rfl (ih_p_grammar_righted_l0 _ _ h x0)
  ·refine cf rfl hc ?_
   refine awp_exit ?_
   refine condQ.exit ?_
   refine seqQ.exit ?_
   refine loopQ.exit ?_
   refine eh rfl ?_
   cases h
   exact .ok rfl
 ·rintro p_grammar_righted_l0' ih_p_grammar_righted_l0 n res h
  refine aval_start (tm := [(0, .d (encNode n))]) (hp := []) (n := 0) rfl Tryz.func97 rfl rfl rfl rfl rfl rfl ?_
  refine ra (nid' := 2) rfl ?_
  refine awp_seq ?_
  refine ra rfl ?_
  obtain ⟨x0, hs, h⟩ := bind_inv h
  refine awp_nrm (fun (x0 : Int) => (⟨[(1, .c (.ptr 0 0)), (2, .c (.ptr 1 0))], [(1, [.d (.int .i64 0), .d (.int .i64 0), .d (.str []), .own 1 (List.map (D.int .i64) []), .own 3 (List.map encCell []), .own 7 (List.map encNodeR []), .d (.int .i64 0)]), (0, [.d (.int .i64 x0), .d (.int .i64 n.op_), .d (.str n.name), .d (.list 1 (List.map (D.int .i64) n.lit.shape)), .d (.list 3 (List.map encCell n.lit.cells)), .d (.list 7 (List.map encNodeR n.kids)), .d (.int .i64 n.at_)])], 2, [], none⟩ : St)) (y := x0) ?_ ?_
  ·replace h := hs
   rcases ite_inv h with ⟨hc, h⟩ | ⟨hc, h⟩
   ·refine ct rfl hc ?_
    refine rn 2 rfl ?_
    refine awpO_nil ?_
    refine cn rfl ?_
    cases h
    exact .ok rfl
   ·refine cf rfl hc ?_
    refine awp_skip ?_
    refine cn rfl ?_
    cases h
    exact .ok rfl
  ·refine seqQ.normal ?_
   refine awp_seq ?_
   refine awp_seq ?_
   refine rn 4 rfl ?_
   rcases ite_inv h with ⟨hc, h⟩ | ⟨hc, h⟩
   ·refine gt rfl rfl rfl rfl hc rfl ?_
    refine on 4 rfl ?_
    refine rz ?_
    refine ct rfl rfl ?_
    refine ra rfl ?_
    refine awp_ret ?_
    refine condQ.ret ?_
    refine seqQ.ret ?_
    cases h
    exact .ret rfl rfl
   ·refine gf rfl rfl rfl rfl hc rfl ?_
    refine on 4 rfl ?_
    refine rz ?_
    rcases ite_inv h with ⟨hc, h⟩ | ⟨hc, h⟩
    ·refine ct rfl hc ?_
     refine ra rfl ?_
     refine awp_ret ?_
     refine condQ.ret ?_
     refine seqQ.ret ?_
     cases h
     exact .ret rfl rfl
    ·refine cf rfl hc ?_
     refine awp_skip ?_
     refine cn rfl ?_
     refine seqQ.normal ?_
     refine ra rfl ?_
     refine ra rfl ?_
     refine awp_seq ?_
     refine awp_seq ?_
     refine rn 1 rfl ?_
     refine po (ellen rfl rfl rfl rfl rfl rfl rfl) rfl rfl ?_
     refine on 1 rfl ?_
     refine rz ?_
     obtain ⟨n51, hs, h⟩ := bind_inv h
     refine awp_nrm (fun (n51 : (List Node)) => (⟨[(1, .c (.ptr 0 0)), (2, .c (.ptr 1 0))], [(1, [.d (.int .i64 0), .d (.int .i64 0), .d (.str []), .own 1 (List.map (D.int .i64) []), .own 3 (List.map encCell []), .own 7 (List.map encNodeR []), .d (.int .i64 0)]), (0, [.d (.int .i64 x0), .d (.int .i64 n.op_), .d (.str n.name), .d (.list 1 (List.map (D.int .i64) n.lit.shape)), .d (.list 3 (List.map encCell n.lit.cells)), .own 7 (List.map encNodeR n51), .d (.int .i64 n.at_)])], 2, [], none⟩ : St)) (y := n51) ?_ ?_
     ·replace h := hs
      refine awp_block ?_
      refine awp_loop ?_
      exact awpL_at rfl rfl (ih_p_grammar_righted_l0 _ _ h x0)
     ·refine seqQ.normal ?_
      refine ra rfl ?_
      refine awp_ret ?_
      cases h
      exact .ret rfl rfl
theorem p_grammar_righted_ih : ∀ a res, p_grammar_righted a = some res → Mp_grammar_righted a res := p_grammar_righted_l0_grp.2
theorem p_grammar_righted_ok {a : Node} {res : Node} (h : p_grammar_righted a = some res) : Mp_grammar_righted a res := p_grammar_righted_ih a res h
abbrev Mp_grammar_uses (a : Node × Int) (res : Bool) : Prop := match a with | (n, kind) => aval X 96 [.d (encNode n), .d (.int .i64 kind)] [] (CRes.ret (.d (.bool res)) [])
abbrev Mp_slices_ContainsFunc_Node__grammar_uses_1 (a : (List Node) × Int) (res : Bool) : Prop := match a with | (s, b) => aval X 99 [.d (.list 7 (List.map encNodeR s)), .fn 100 [0]] [[.d (.int .i64 b)]] (CRes.ret (.d (.bool res)) [[.d (.int .i64 b)]])
abbrev Mp_grammar_uses_1 (a : Node × Int) (res : Bool) : Prop := match a with | (k, a_) => aval X 100 [.d (encNode k), .ptr 0 0] [[.d (.int .i64 a_)]] (CRes.ret (.d (.bool res)) [[.d (.int .i64 a_)]])
abbrev Mp_slices_IndexFunc_Node__grammar_uses_1_l0 (a : ((List Node)) × Int × Int) (res : Except (Int) (Unit)) : Prop := match a with | (s, b, x) => awpL X 102 (codeAt [1, 0, 1, 0, 0] (bodyOf Tryz.f102)) (cleanAt (X.H 102 2) 1) (exitQ 0 (X.H 102 1000000) 1 (SubQ X Tryz.f102 1 (fun (r : Int) => (CRes.ret (.d (.int .i64 r)) [[.d (.int .i64 b)]])) (fun (_ : Unit) => (⟨[], [(0, [.d (.int .i64 b)])], 1, [], none⟩ : St)) res)) ⟨[(0, .d (.list 7 (List.map encNodeR s))), (1, .c (.fn 100 [0])), (7, .d (.int .i64 (List.length s : Int))), (8, .d (.int .i64 x))], [(0, [.d (.int .i64 b)])], 1, [], none⟩
abbrev Mp_slices_IndexFunc_Node__grammar_uses_1 (a : (List Node) × Int) (res : Int) : Prop := match a with | (s, b) => aval X 102 [.d (.list 7 (List.map encNodeR s)), .fn 100 [0]] [[.d (.int .i64 b)]] (CRes.ret (.d (.int .i64 res)) [[.d (.int .i64 b)]])
theorem p_grammar_uses_grp : (∀ a res, p_grammar_uses a = some res → Mp_grammar_uses a res) ∧ (∀ a res, p_slices_ContainsFunc_Node__grammar_uses_1 a = some res → Mp_slices_ContainsFunc_Node__grammar_uses_1 a res) ∧ (∀ a res, p_slices_IndexFunc_Node__grammar_uses_1 a = some res → Mp_slices_IndexFunc_Node__grammar_uses_1 a res) ∧ (∀ a res, p_slices_IndexFunc_Node__grammar_uses_1_l0 a = some res → Mp_slices_IndexFunc_Node__grammar_uses_1_l0 a res) ∧ (∀ a res, p_grammar_uses_1 a = some res → Mp_grammar_uses_1 a res) := by
 refine p_grammar_uses.mutual_partial_correctness (motive_1 := Mp_grammar_uses) (motive_2 := Mp_slices_ContainsFunc_Node__grammar_uses_1) (motive_3 := Mp_slices_IndexFunc_Node__grammar_uses_1) (motive_4 := Mp_slices_IndexFunc_Node__grammar_uses_1_l0) (motive_5 := Mp_grammar_uses_1) ?_ ?_ ?_ ?_ ?_
 ·rintro p_slices_ContainsFunc_Node__grammar_uses_1' ih_p_slices_ContainsFunc_Node__grammar_uses_1 ⟨n, kind⟩ res h
  refine aval_start (tm := [(0, .d (encNode n)), (1, .d (.int .i64 kind))]) (hp := []) (n := 0) rfl Tryz.func96 rfl rfl rfl rfl rfl rfl ?_
  refine ra (nid' := 2) rfl ?_
  refine awp_seq ?_
  refine awp_seq ?_
  refine rn 4 rfl ?_
  rcases ite_inv h with ⟨hc, h⟩ | ⟨hc, h⟩
  ·refine gt rfl rfl rfl rfl hc rfl ?_
   refine on 4 rfl ?_
   refine rz ?_
   refine ct rfl rfl ?_
   refine ra rfl ?_
   refine awp_ret ?_
   refine condQ.ret ?_
   refine seqQ.ret ?_
   cases h
   exact .ret rfl rfl
  ·refine gf rfl rfl rfl rfl hc rfl ?_
   refine on 4 rfl ?_
   refine rz ?_
   rcases ite_inv h with ⟨hc, h⟩ | ⟨hc, h⟩
   ·refine ct rfl hc ?_
    refine ra rfl ?_
    refine awp_ret ?_
    refine condQ.ret ?_
    refine seqQ.ret ?_
    cases h
    exact .ret rfl rfl
   ·refine cf rfl hc ?_
    refine awp_skip ?_
    refine cn rfl ?_
    refine seqQ.normal ?_
    refine awp_seq ?_
    refine rn 5 rfl ?_
    rcases ite_inv h with ⟨hc, h⟩ | ⟨hc, h⟩
    ·refine gt rfl rfl rfl rfl hc rfl ?_
     refine on 6 rfl ?_
     refine rz ?_
     refine awp_ret ?_
     cases h
     exact .ret rfl rfl
    ·refine gf rfl rfl rfl rfl hc rfl ?_
     refine on 3 rfl ?_
     obtain ⟨x, hk, h⟩ := bind_inv h
     refine po (ecallb (nid' := 2) (ih_p_slices_ContainsFunc_Node__grammar_uses_1 _ _ hk) rfl rfl rfl rfl rfl rfl rfl rfl rfl rfl rfl rfl) rfl rfl ?_
     refine on 2 rfl ?_
     refine rz ?_
     refine awp_ret ?_
     cases h
     exact .ret rfl rfl
 ·rintro p_slices_IndexFunc_Node__grammar_uses_1' ih_p_slices_IndexFunc_Node__grammar_uses_1 ⟨s, b⟩ res h
  refine aval_start (tm := [(0, .d (.list 7 (List.map encNodeR s))), (1, .c (.fn 100 [0]))]) (hp := [(0, [.d (.int .i64 b)])]) (n := 1) rfl Tryz.func99 rfl rfl rfl rfl rfl rfl ?_
  refine ra rfl ?_
  refine awp_seq ?_
  refine rn 2 rfl ?_
  obtain ⟨x, hk, h⟩ := bind_inv h
  refine po (ecallb (nid' := 1) (ih_p_slices_IndexFunc_Node__grammar_uses_1 _ _ hk) rfl rfl rfl rfl rfl rfl rfl rfl rfl rfl rfl rfl) rfl rfl ?_
  refine on 2 rfl ?_
  refine rz ?_
  refine awp_ret ?_
  cases h
  exact .ret rfl rfl
 ·rintro p_slices_IndexFunc_Node__grammar_uses_1_l0' ih_p_slices_IndexFunc_Node__grammar_uses_1_l0 ⟨s, b⟩ res h
  refine aval_start (tm := [(0, .d (.list 7 (List.map encNodeR s))), (1, .c (.fn 100 [0]))]) (hp := [(0, [.d (.int .i64 b)])]) (n := 1) rfl Tryz.func102 rfl rfl rfl rfl rfl rfl ?_
  refine ra rfl ?_
  refine awp_seq ?_
  refine awp_seq ?_
  refine rn 1 rfl ?_
  refine po (ellen rfl rfl rfl rfl rfl rfl rfl) rfl rfl ?_
  refine on 1 rfl ?_
  refine rz ?_
  obtain ⟨res, hs, h⟩ := bind_inv h
  refine awp_sub Tryz.f102 1 (fun (r : Int) => (CRes.ret (.d (.int .i64 r)) [[.d (.int .i64 b)]])) (fun (_ : Unit) => (⟨[], [(0, [.d (.int .i64 b)])], 1, [], none⟩ : St)) (res := res) ?_ (fun y hy => ?_) (fun r x s' hr hx he => ?_)
  ·replace h := hs
   refine awp_block ?_
   refine awp_loop ?_
   exact awpL_at rfl rfl (ih_p_slices_IndexFunc_Node__grammar_uses_1_l0 _ _ h)
  ·subst hy
   refine seqQ.normal ?_
   refine ra rfl ?_
   refine awp_ret ?_
   cases h
   exact .ret rfl rfl
  ·subst hr
   refine seqQ.out hx ?_
   cases h
   exact he
 ·rintro p_slices_IndexFunc_Node__grammar_uses_1_l0' p_grammar_uses_1' ih_p_slices_IndexFunc_Node__grammar_uses_1_l0 ih_p_grammar_uses_1 ⟨s, b, x⟩ res h
  refine lg rfl ?_
  refine ra rfl ?_
  refine awp_seq ?_
  rcases ite_inv h with ⟨hc, h⟩ | ⟨hc, h⟩
  ·refine ct rfl hc ?_
   refine awp_skip ?_
   refine cn rfl ?_
   refine seqQ.normal ?_
   refine awp_seq ?_
   refine awp_block ?_
   refine ra rfl ?_
   refine awp_seq ?_
   refine rn 3 rfl ?_
   obtain ⟨y, hk, h⟩ := bind_inv h
   refine po (elget encNode encNodeR_eq hk rfl rfl rfl rfl rfl) rfl rfl ?_
   refine on 1 rfl ?_
   obtain ⟨x1, hk, h⟩ := bind_inv h
   refine po (ecallb (nid' := 1) (ih_p_grammar_uses_1 _ _ hk) rfl rfl rfl rfl rfl rfl rfl rfl rfl rfl rfl rfl) rfl rfl ?_
   refine rz ?_
   rcases ite_inv h with ⟨hc, h⟩ | ⟨hc, h⟩
   ·refine ct rfl hc ?_
    refine ra rfl ?_
    refine awp_ret ?_
    refine condQ.ret ?_
    refine exitQ.ret ?_
    refine seqQ.ret ?_
    refine loopQ.ret ?_
    refine exitQ.ret ?_
    cases h
    exact .err rfl (.ret rfl rfl)
   ·refine cf rfl hc ?_
    refine awp_skip ?_
    refine cn rfl ?_
    refine en rfl ?_
    refine seqQ.normal ?_
    refine rn 2 rfl ?_
    refine awpO_nil ?_
    refine loopQ.normal ?_
    exact awpL_at rfl rfl (ih_p_slices_IndexFunc_Node__grammar_uses_1_l0 _ _ h)
  ·refine cf rfl hc ?_
   refine awp_exit ?_
   refine condQ.exit ?_
   refine seqQ.exit ?_
   refine loopQ.exit ?_
   refine eh rfl ?_
   cases h
   exact .ok rfl
 ·rintro p_grammar_uses' ih_p_grammar_uses ⟨k, a_⟩ res h
  refine aval_start (tm := [(0, .d (encNode k)), (1, .c (.ptr 0 0))]) (hp := [(0, [.d (.int .i64 a_)])]) (n := 1) rfl Tryz.func100 rfl rfl rfl rfl rfl rfl ?_
  refine ra (nid' := 2) rfl ?_
  refine awp_seq ?_
  refine rn 2 rfl ?_
  obtain ⟨x, hk, h⟩ := bind_inv h
  refine po (ecall (ih_p_grammar_uses _ _ hk) rfl rfl rfl rfl rfl rfl rfl rfl rfl) rfl rfl ?_
  refine on 1 rfl ?_
  refine rz ?_
  refine awp_ret ?_
  cases h
  exact .ret rfl rfl
theorem p_grammar_uses_ih : ∀ a res, p_grammar_uses a = some res → Mp_grammar_uses a res := p_grammar_uses_grp.1
theorem p_grammar_uses_ok {a : Node × Int} {res : Bool} (h : p_grammar_uses a = some res) : Mp_grammar_uses a res := p_grammar_uses_ih a res h
abbrev Mp_grammar_parser_function_l0 (a : Grammar_parser × Int × Int × Int × Int × Int × Str × (List Int) × (List Cell) × (List Node) × Int × Int) (res : Except (Except (Fault × Int × Int × Int) (Node × Int × Int × Int)) (Unit)) : Prop := match a with | (p, at_, deep1, in_, f01, f11, f21, f31, f41, f51, f61, c151) => awpL X 39 (codeAt [1, 1, 1, 1, 1, 1, 1, 1, 0, 0] (bodyOf Tryz.f39)) (cleanAt (X.H 39 11) 16) (exitQ 0 (X.H 39 1000000) 16 (SubQ X Tryz.f39 1 (fun (r : Except (Fault × Int × Int × Int) (Node × Int × Int × Int)) => (match (generalizing := false) r with | .ok r => (CRes.ret (.d (encNode r.1)) [[.d (.list 1 (List.map D.str p.g.verbs)), .d (.list 1 (List.map D.str p.g.adverbs)), .d (.list 1 (List.map D.str p.g.behind)), .d (.str p.g.outer), .d (.str p.g.power), .d (.str p.g.open_), .d (.str p.g.close), .d (.str p.g.left), .d (.str p.g.right), .d (.str p.g.minus), .d (.str p.g.quote), .d (.bool p.g.trains), .d (.bool p.g.lone), .d (.bool p.g.square), .d (.list 5 (List.map encToken p.l)), .d (.int .i64 r.2.1), .d (.int .i64 p.end_), .d (.int .i64 r.2.2.1), .d (.int .i64 r.2.2.2)]]) | .error r => (CRes.pan (.iface 34 (encFault r.1)) [[.d (.list 1 (List.map D.str p.g.verbs)), .d (.list 1 (List.map D.str p.g.adverbs)), .d (.list 1 (List.map D.str p.g.behind)), .d (.str p.g.outer), .d (.str p.g.power), .d (.str p.g.open_), .d (.str p.g.close), .d (.str p.g.left), .d (.str p.g.right), .d (.str p.g.minus), .d (.str p.g.quote), .d (.bool p.g.trains), .d (.bool p.g.lone), .d (.bool p.g.square), .d (.list 5 (List.map encToken p.l)), .d (.int .i64 r.2.1), .d (.int .i64 p.end_), .d (.int .i64 r.2.2.1), .d (.int .i64 r.2.2.2)]]))) (fun (_ : Unit) => (⟨[], [], 0, [], none⟩ : St)) res)) ⟨[(2, .c (.ptr 1 0)), (4, .c (.ptr 2 0)), (5, .d (.int .i64 at_)), (7, .c (.ptr 15 0))], [(15, [.d (.int .i64 f01), .d (.int .i64 f11), .d (.str f21), .d (.list 1 (List.map (D.int .i64) f31)), .d (.list 3 (List.map encCell f41)), .d (.list 7 (List.map encNodeR f51)), .d (.int .i64 f61)]), (2, [.d (.int .i64 0), .d (.int .i64 0), .d (.str []), .own 1 (List.map (D.int .i64) []), .own 3 (List.map encCell []), .own 7 (List.map encNodeR []), .d (.int .i64 0)]), (1, [.ptr 0 0]), (0, [.d (.list 1 (List.map D.str p.g.verbs)), .d (.list 1 (List.map D.str p.g.adverbs)), .d (.list 1 (List.map D.str p.g.behind)), .d (.str p.g.outer), .d (.str p.g.power), .d (.str p.g.open_), .d (.str p.g.close), .d (.str p.g.left), .d (.str p.g.right), .d (.str p.g.minus), .d (.str p.g.quote), .d (.bool p.g.trains), .d (.bool p.g.lone), .d (.bool p.g.square), .d (.list 5 (List.map encToken p.l)), .d (.int .i64 c151), .d (.int .i64 p.end_), .d (.int .i64 deep1), .d (.int .i64 in_)])], 16, [(66, [1])], none⟩
theorem p_grammar_parser_function_l0_ih : ∀ a res, p_grammar_parser_function_l0 a = some res → Mp_grammar_parser_function_l0 a res := by
 refine p_grammar_parser_function_l0.partial_correctness Mp_grammar_parser_function_l0 ?_
 rintro p_grammar_parser_function_l0' ih_p_grammar_parser_function_l0 ⟨p, at_, deep1, in_, f01, f11, f21, f31, f41, f51, f61, c151⟩ res h
 refine lg rfl ?_
 refine awp_block ?_
 refine awp_seq ?_
 refine drn (m := 27) 10 rfl rfl ?_
 obtain ⟨x1, hk, h⟩ := bind_inv h
 refine pd (ecallb (nid' := 27) (p_grammar_parser_sign_ok hk) rfl rfl rfl rfl rfl rfl rfl rfl rfl rfl rfl rfl) rfl rfl rfl rfl rfl ?_
 refine dz (by kernel_rfl) ?_
 rcases ite_inv h with ⟨hc, h⟩ | ⟨hc, h⟩
 ·refine ct rfl hc ?_
  refine awp_seq ?_
  refine drn (m := 43) 8 rfl rfl ?_
  obtain ⟨y, hk, h⟩ := bind_inv h
  refine pd (elget encToken (fun _ => rfl) hk rfl rfl rfl rfl rfl) rfl rfl rfl rfl rfl ?_
  refine don 4 rfl ?_
  refine pd (erw' (show V.c (.own 7 [encNode (Node.mk f01 f11 f21 (Arr.mk f31 f41) f51 f61)]) = V.c (.own 7 (List.map encNodeR [(Node.mk f01 f11 f21 (Arr.mk f31 f41) f51 f61)])) from by simp only [List.map_cons, List.map_nil, encNodeR_eq]) (eplain rfl)) rfl rfl rfl rfl rfl ?_
  refine don 2 rfl ?_
  refine dz (by kernel_rfl) ?_
  refine rn 8 rfl ?_
  refine awpO_nil ?_
  refine cn rfl ?_
  refine en rfl ?_
  refine loopQ.normal ?_
  exact awpL_at rfl rfl (ih_p_grammar_parser_function_l0 _ _ h)
 ·refine cf rfl hc ?_
  refine awp_seq ?_
  refine drn (m := 38) 5 rfl rfl ?_
  obtain ⟨⟨n, ok⟩, hk, h⟩ := bind_inv h
  refine pd (ecallb (nid' := 38) (p_grammar_parser_power_ok hk) rfl rfl rfl rfl rfl rfl rfl rfl rfl rfl rfl rfl) rfl rfl rfl rfl rfl ?_
  refine don 5 rfl ?_
  refine dz (by kernel_rfl) ?_
  refine ra rfl ?_
  rcases ite_inv h with ⟨hc, h⟩ | ⟨hc, h⟩
  ·refine ct rfl hc ?_
   refine awp_seq ?_
   refine rn 3 rfl ?_
   refine po (erw' (show V.c (.own 7 [encNode (Node.mk f01 f11 f21 (Arr.mk f31 f41) f51 f61)]) = V.c (.own 7 (List.map encNodeR [(Node.mk f01 f11 f21 (Arr.mk f31 f41) f51 f61)])) from by simp only [List.map_cons, List.map_nil, encNodeR_eq]) (eplain rfl)) rfl rfl ?_
   refine on 2 rfl ?_
   refine rz ?_
   refine rn 8 rfl ?_
   refine awpO_nil ?_
   refine cn rfl ?_
   refine cn rfl ?_
   refine en rfl ?_
   refine loopQ.normal ?_
   exact awpL_at rfl rfl (ih_p_grammar_parser_function_l0 _ _ h)
  ·refine cf rfl hc ?_
   refine ra rfl ?_
   refine awp_ret ?_
   refine condQ.ret ?_
   refine condQ.ret ?_
   refine exitQ.ret ?_
   refine loopQ.ret ?_
   refine exitQ.ret ?_
   obtain ⟨deep2, hk, h⟩ := bind_inv h
   cases h
   exact .err rfl (.dret rfl (rdc (nid' := 38) (p_grammar_parser_function_1_ok hk) (recsF_of Tryz.func66 rfl rfl) rfl rfl rfl rfl rfl rfl rfl rfl .nil) rfl)
abbrev Mp_grammar_parser_expr (a : Grammar_parser) (res : Except (Fault × Int × Int × Int) (Node × Int × Int × Int)) : Prop := match a with | p => aval X 18 [.ptr 0 0] [[.d (.list 1 (List.map D.str p.g.verbs)), .d (.list 1 (List.map D.str p.g.adverbs)), .d (.list 1 (List.map D.str p.g.behind)), .d (.str p.g.outer), .d (.str p.g.power), .d (.str p.g.open_), .d (.str p.g.close), .d (.str p.g.left), .d (.str p.g.right), .d (.str p.g.minus), .d (.str p.g.quote), .d (.bool p.g.trains), .d (.bool p.g.lone), .d (.bool p.g.square), .d (.list 5 (List.map encToken p.l)), .d (.int .i64 p.i), .d (.int .i64 p.end_), .d (.int .i64 p.deep), .d (.int .i64 p.in_)]] (match (generalizing := false) res with | .ok r => (CRes.ret (.d (encNode r.1)) [[.d (.list 1 (List.map D.str p.g.verbs)), .d (.list 1 (List.map D.str p.g.adverbs)), .d (.list 1 (List.map D.str p.g.behind)), .d (.str p.g.outer), .d (.str p.g.power), .d (.str p.g.open_), .d (.str p.g.close), .d (.str p.g.left), .d (.str p.g.right), .d (.str p.g.minus), .d (.str p.g.quote), .d (.bool p.g.trains), .d (.bool p.g.lone), .d (.bool p.g.square), .d (.list 5 (List.map encToken p.l)), .d (.int .i64 r.2.1), .d (.int .i64 p.end_), .d (.int .i64 r.2.2.1), .d (.int .i64 r.2.2.2)]]) | .error r => (CRes.pan (.iface 34 (encFault r.1)) [[.d (.list 1 (List.map D.str p.g.verbs)), .d (.list 1 (List.map D.str p.g.adverbs)), .d (.list 1 (List.map D.str p.g.behind)), .d (.str p.g.outer), .d (.str p.g.power), .d (.str p.g.open_), .d (.str p.g.close), .d (.str p.g.left), .d (.str p.g.right), .d (.str p.g.minus), .d (.str p.g.quote), .d (.bool p.g.trains), .d (.bool p.g.lone), .d (.bool p.g.square), .d (.list 5 (List.map encToken p.l)), .d (.int .i64 r.2.1), .d (.int .i64 p.end_), .d (.int .i64 r.2.2.1), .d (.int .i64 r.2.2.2)]]))
abbrev Mp_grammar_parser_function (a : Bool × Grammar_parser) (res : Except (Fault × Int × Int × Int) (Node × Int × Int × Int)) : Prop := match a with | (behind, p) => aval X 39 [.ptr 0 0, .d (.bool behind)] [[.d (.list 1 (List.map D.str p.g.verbs)), .d (.list 1 (List.map D.str p.g.adverbs)), .d (.list 1 (List.map D.str p.g.behind)), .d (.str p.g.outer), .d (.str p.g.power), .d (.str p.g.open_), .d (.str p.g.close), .d (.str p.g.left), .d (.str p.g.right), .d (.str p.g.minus), .d (.str p.g.quote), .d (.bool p.g.trains), .d (.bool p.g.lone), .d (.bool p.g.square), .d (.list 5 (List.map encToken p.l)), .d (.int .i64 p.i), .d (.int .i64 p.end_), .d (.int .i64 p.deep), .d (.int .i64 p.in_)]] (match (generalizing := false) res with | .ok r => (CRes.ret (.d (encNode r.1)) [[.d (.list 1 (List.map D.str p.g.verbs)), .d (.list 1 (List.map D.str p.g.adverbs)), .d (.list 1 (List.map D.str p.g.behind)), .d (.str p.g.outer), .d (.str p.g.power), .d (.str p.g.open_), .d (.str p.g.close), .d (.str p.g.left), .d (.str p.g.right), .d (.str p.g.minus), .d (.str p.g.quote), .d (.bool p.g.trains), .d (.bool p.g.lone), .d (.bool p.g.square), .d (.list 5 (List.map encToken p.l)), .d (.int .i64 r.2.1), .d (.int .i64 p.end_), .d (.int .i64 r.2.2.1), .d (.int .i64 r.2.2.2)]]) | .error r => (CRes.pan (.iface 34 (encFault r.1)) [[.d (.list 1 (List.map D.str p.g.verbs)), .d (.list 1 (List.map D.str p.g.adverbs)), .d (.list 1 (List.map D.str p.g.behind)), .d (.str p.g.outer), .d (.str p.g.power), .d (.str p.g.open_), .d (.str p.g.close), .d (.str p.g.left), .d (.str p.g.right), .d (.str p.g.minus), .d (.str p.g.quote), .d (.bool p.g.trains), .d (.bool p.g.lone), .d (.bool p.g.square), .d (.list 5 (List.map encToken p.l)), .d (.int .i64 r.2.1), .d (.int .i64 p.end_), .d (.int .i64 r.2.2.1), .d (.int .i64 r.2.2.2)]]))
abbrev Mp_grammar_parser_operand_l0 (a : Grammar_parser × Token × Int × Int × Str × (List Int) × (List Cell) × (List Node) × Int × Int × Int × Int) (res : Except (Except (Fault × Int × Int × Int) (Node × Int × Int × Int)) (Int × Int × Str × (List Int) × (List Cell) × (List Node) × Int × Int × Int × Int)) : Prop := match a with | (p, y, n01, n11, n21, n31, n41, n51, n61, p151, p171, p181) => awpL X 40 (codeAt [1, 1, 1, 1, 1, 0, 0, 0] (bodyOf Tryz.f40)) (cleanAt (X.H 40 22) 25) (exitQ 1 (X.H 40 1000001) 25 (SubQ X Tryz.f40 1 (fun (r : Except (Fault × Int × Int × Int) (Node × Int × Int × Int)) => (match (generalizing := false) r with | .ok r => (CRes.ret (.d (encNode r.1)) [[.d (.list 1 (List.map D.str p.g.verbs)), .d (.list 1 (List.map D.str p.g.adverbs)), .d (.list 1 (List.map D.str p.g.behind)), .d (.str p.g.outer), .d (.str p.g.power), .d (.str p.g.open_), .d (.str p.g.close), .d (.str p.g.left), .d (.str p.g.right), .d (.str p.g.minus), .d (.str p.g.quote), .d (.bool p.g.trains), .d (.bool p.g.lone), .d (.bool p.g.square), .d (.list 5 (List.map encToken p.l)), .d (.int .i64 r.2.1), .d (.int .i64 p.end_), .d (.int .i64 r.2.2.1), .d (.int .i64 r.2.2.2)]]) | .error r => (CRes.pan (.iface 34 (encFault r.1)) [[.d (.list 1 (List.map D.str p.g.verbs)), .d (.list 1 (List.map D.str p.g.adverbs)), .d (.list 1 (List.map D.str p.g.behind)), .d (.str p.g.outer), .d (.str p.g.power), .d (.str p.g.open_), .d (.str p.g.close), .d (.str p.g.left), .d (.str p.g.right), .d (.str p.g.minus), .d (.str p.g.quote), .d (.bool p.g.trains), .d (.bool p.g.lone), .d (.bool p.g.square), .d (.list 5 (List.map encToken p.l)), .d (.int .i64 r.2.1), .d (.int .i64 p.end_), .d (.int .i64 r.2.2.1), .d (.int .i64 r.2.2.2)]]))) (fun ((n02, n12, n22, n32, n42, n52, n62, c15, c17, c18) : Int × Int × Str × (List Int) × (List Cell) × (List Node) × Int × Int × Int × Int) => (⟨[(2, .c (.ptr 1 0)), (4, .c (.ptr 24 0))], [(24, [.d (.int .i64 n02), .d (.int .i64 n12), .d (.str n22), .d (.list 1 (List.map (D.int .i64) n32)), .d (.list 3 (List.map encCell n42)), .d (.list 7 (List.map encNodeR n52)), .d (.int .i64 n62)]), (22, [.d (.int .i64 y.kind), .d (.str y.text), .d (.list 1 (List.map (D.int .i64) y.lit.shape)), .d (.list 3 (List.map encCell y.lit.cells)), .d (.int .i64 y.at_)]), (1, [.d (.int .i64 0), .d (.int .i64 0), .d (.str []), .own 1 (List.map (D.int .i64) []), .own 3 (List.map encCell []), .own 7 (List.map encNodeR []), .d (.int .i64 0)]), (0, [.d (.list 1 (List.map D.str p.g.verbs)), .d (.list 1 (List.map D.str p.g.adverbs)), .d (.list 1 (List.map D.str p.g.behind)), .d (.str p.g.outer), .d (.str p.g.power), .d (.str p.g.open_), .d (.str p.g.close), .d (.str p.g.left), .d (.str p.g.right), .d (.str p.g.minus), .d (.str p.g.quote), .d (.bool p.g.trains), .d (.bool p.g.lone), .d (.bool p.g.square), .d (.list 5 (List.map encToken p.l)), .d (.int .i64 c15), .d (.int .i64 p.end_), .d (.int .i64 c17), .d (.int .i64 c18)])], 25, [], none⟩ : St)) res)) ⟨[(0, .c (.ptr 0 0)), (2, .c (.ptr 1 0)), (3, .c (.ptr 22 0)), (4, .c (.ptr 24 0))], [(24, [.d (.int .i64 n01), .d (.int .i64 n11), .d (.str n21), .d (.list 1 (List.map (D.int .i64) n31)), .d (.list 3 (List.map encCell n41)), .d (.list 7 (List.map encNodeR n51)), .d (.int .i64 n61)]), (22, [.d (.int .i64 y.kind), .d (.str y.text), .d (.list 1 (List.map (D.int .i64) y.lit.shape)), .d (.list 3 (List.map encCell y.lit.cells)), .d (.int .i64 y.at_)]), (1, [.d (.int .i64 0), .d (.int .i64 0), .d (.str []), .own 1 (List.map (D.int .i64) []), .own 3 (List.map encCell []), .own 7 (List.map encNodeR []), .d (.int .i64 0)]), (0, [.d (.list 1 (List.map D.str p.g.verbs)), .d (.list 1 (List.map D.str p.g.adverbs)), .d (.list 1 (List.map D.str p.g.behind)), .d (.str p.g.outer), .d (.str p.g.power), .d (.str p.g.open_), .d (.str p.g.close), .d (.str p.g.left), .d (.str p.g.right), .d (.str p.g.minus), .d (.str p.g.quote), .d (.bool p.g.trains), .d (.bool p.g.lone), .d (.bool p.g.square), .d (.list 5 (List.map encToken p.l)), .d (.int .i64 p151), .d (.int .i64 p.end_), .d (.int .i64 p171), .d (.int .i64 p181)])], 25, [], none⟩
abbrev Mp_grammar_parser_operand (a : Grammar_parser) (res : Except (Fault × Int × Int × Int) (Node × Int × Int × Int)) : Prop := match a with | p => aval X 40 [.ptr 0 0] [[.d (.list 1 (List.map D.str p.g.verbs)), .d (.list 1 (List.map D.str p.g.adverbs)), .d (.list 1 (List.map D.str p.g.behind)), .d (.str p.g.outer), .d (.str p.g.power), .d (.str p.g.open_), .d (.str p.g.close), .d (.str p.g.left), .d (.str p.g.right), .d (.str p.g.minus), .d (.str p.g.quote), .d (.bool p.g.trains), .d (.bool p.g.lone), .d (.bool p.g.square), .d (.list 5 (List.map encToken p.l)), .d (.int .i64 p.i), .d (.int .i64 p.end_), .d (.int .i64 p.deep), .d (.int .i64 p.in_)]] (match (generalizing := false) res with | .ok r => (CRes.ret (.d (encNode r.1)) [[.d (.list 1 (List.map D.str p.g.verbs)), .d (.list 1 (List.map D.str p.g.adverbs)), .d (.list 1 (List.map D.str p.g.behind)), .d (.str p.g.outer), .d (.str p.g.power), .d (.str p.g.open_), .d (.str p.g.close), .d (.str p.g.left), .d (.str p.g.right), .d (.str p.g.minus), .d (.str p.g.quote), .d (.bool p.g.trains), .d (.bool p.g.lone), .d (.bool p.g.square), .d (.list 5 (List.map encToken p.l)), .d (.int .i64 r.2.1), .d (.int .i64 p.end_), .d (.int .i64 r.2.2.1), .d (.int .i64 r.2.2.2)]]) | .error r => (CRes.pan (.iface 34 (encFault r.1)) [[.d (.list 1 (List.map D.str p.g.verbs)), .d (.list 1 (List.map D.str p.g.adverbs)), .d (.list 1 (List.map D.str p.g.behind)), .d (.str p.g.outer), .d (.str p.g.power), .d (.str p.g.open_), .d (.str p.g.close), .d (.str p.g.left), .d (.str p.g.right), .d (.str p.g.minus), .d (.str p.g.quote), .d (.bool p.g.trains), .d (.bool p.g.lone), .d (.bool p.g.square), .d (.list 5 (List.map encToken p.l)), .d (.int .i64 r.2.1), .d (.int .i64 p.end_), .d (.int .i64 r.2.2.1), .d (.int .i64 r.2.2.2)]]))
abbrev Mp_grammar_parser_base_l0 (a : Bool × Grammar_parser × (List Node) × Int × Int × Int) (res : Except (Except (Fault × Int × Int × Int) (Node × Int × Int × Int)) ((List Node) × Int × Int × Int)) : Prop := match a with | (behind, p, l, p15, p17, p18) => ∀ (at_ : Int), awpL X 67 (codeAt [1, 1, 0, 0, 1, 1, 1, 0, 1, 1, 0, 0, 0] (bodyOf Tryz.f67)) (cleanAt (X.H 67 7) 14) (exitQ 1 (X.H 67 1000001) 14 (SubQ X Tryz.f67 1 (fun (r : Except (Fault × Int × Int × Int) (Node × Int × Int × Int)) => (match (generalizing := false) r with | .ok r => (CRes.ret (.d (encNode r.1)) [[.d (.list 1 (List.map D.str p.g.verbs)), .d (.list 1 (List.map D.str p.g.adverbs)), .d (.list 1 (List.map D.str p.g.behind)), .d (.str p.g.outer), .d (.str p.g.power), .d (.str p.g.open_), .d (.str p.g.close), .d (.str p.g.left), .d (.str p.g.right), .d (.str p.g.minus), .d (.str p.g.quote), .d (.bool p.g.trains), .d (.bool p.g.lone), .d (.bool p.g.square), .d (.list 5 (List.map encToken p.l)), .d (.int .i64 r.2.1), .d (.int .i64 p.end_), .d (.int .i64 r.2.2.1), .d (.int .i64 r.2.2.2)]]) | .error r => (CRes.pan (.iface 34 (encFault r.1)) [[.d (.list 1 (List.map D.str p.g.verbs)), .d (.list 1 (List.map D.str p.g.adverbs)), .d (.list 1 (List.map D.str p.g.behind)), .d (.str p.g.outer), .d (.str p.g.power), .d (.str p.g.open_), .d (.str p.g.close), .d (.str p.g.left), .d (.str p.g.right), .d (.str p.g.minus), .d (.str p.g.quote), .d (.bool p.g.trains), .d (.bool p.g.lone), .d (.bool p.g.square), .d (.list 5 (List.map encToken p.l)), .d (.int .i64 r.2.1), .d (.int .i64 p.end_), .d (.int .i64 r.2.2.1), .d (.int .i64 r.2.2.2)]]))) (fun ((l2, p151, p171, p181) : (List Node) × Int × Int × Int) => (⟨[(0, .c (.ptr 0 0)), (4, .c (.ptr 1 0)), (5, .d (.int .i64 at_)), (6, .c (.own 7 (List.map encNodeR l2)))], [(1, [.d (.int .i64 0), .d (.int .i64 0), .d (.str []), .own 1 (List.map (D.int .i64) []), .own 3 (List.map encCell []), .own 7 (List.map encNodeR []), .d (.int .i64 0)]), (0, [.d (.list 1 (List.map D.str p.g.verbs)), .d (.list 1 (List.map D.str p.g.adverbs)), .d (.list 1 (List.map D.str p.g.behind)), .d (.str p.g.outer), .d (.str p.g.power), .d (.str p.g.open_), .d (.str p.g.close), .d (.str p.g.left), .d (.str p.g.right), .d (.str p.g.minus), .d (.str p.g.quote), .d (.bool p.g.trains), .d (.bool p.g.lone), .d (.bool p.g.square), .d (.list 5 (List.map encToken p.l)), .d (.int .i64 p151), .d (.int .i64 p.end_), .d (.int .i64 p171), .d (.int .i64 p181)])], 14, [], none⟩ : St)) res)) ⟨[(0, .c (.ptr 0 0)), (1, .d (.bool behind)), (4, .c (.ptr 1 0)), (5, .d (.int .i64 at_)), (6, .c (.own 7 (List.map encNodeR l)))], [(1, [.d (.int .i64 0), .d (.int .i64 0), .d (.str []), .own 1 (List.map (D.int .i64) []), .own 3 (List.map encCell []), .own 7 (List.map encNodeR []), .d (.int .i64 0)]), (0, [.d (.list 1 (List.map D.str p.g.verbs)), .d (.list 1 (List.map D.str p.g.adverbs)), .d (.list 1 (List.map D.str p.g.behind)), .d (.str p.g.outer), .d (.str p.g.power), .d (.str p.g.open_), .d (.str p.g.close), .d (.str p.g.left), .d (.str p.g.right), .d (.str p.g.minus), .d (.str p.g.quote), .d (.bool p.g.trains), .d (.bool p.g.lone), .d (.bool p.g.square), .d (.list 5 (List.map encToken p.l)), .d (.int .i64 p15), .d (.int .i64 p.end_), .d (.int .i64 p17), .d (.int .i64 p18)])], 14, [], none⟩
abbrev Mp_grammar_parser_base (a : Bool × Grammar_parser) (res : Except (Fault × Int × Int × Int) (Node × Int × Int × Int)) : Prop := match a with | (behind, p) => aval X 67 [.ptr 0 0, .d (.bool behind)] [[.d (.list 1 (List.map D.str p.g.verbs)), .d (.list 1 (List.map D.str p.g.adverbs)), .d (.list 1 (List.map D.str p.g.behind)), .d (.str p.g.outer), .d (.str p.g.power), .d (.str p.g.open_), .d (.str p.g.close), .d (.str p.g.left), .d (.str p.g.right), .d (.str p.g.minus), .d (.str p.g.quote), .d (.bool p.g.trains), .d (.bool p.g.lone), .d (.bool p.g.square), .d (.list 5 (List.map encToken p.l)), .d (.int .i64 p.i), .d (.int .i64 p.end_), .d (.int .i64 p.deep), .d (.int .i64 p.in_)]] (match (generalizing := false) res with | .ok r => (CRes.ret (.d (encNode r.1)) [[.d (.list 1 (List.map D.str p.g.verbs)), .d (.list 1 (List.map D.str p.g.adverbs)), .d (.list 1 (List.map D.str p.g.behind)), .d (.str p.g.outer), .d (.str p.g.power), .d (.str p.g.open_), .d (.str p.g.close), .d (.str p.g.left), .d (.str p.g.right), .d (.str p.g.minus), .d (.str p.g.quote), .d (.bool p.g.trains), .d (.bool p.g.lone), .d (.bool p.g.square), .d (.list 5 (List.map encToken p.l)), .d (.int .i64 r.2.1), .d (.int .i64 p.end_), .d (.int .i64 r.2.2.1), .d (.int .i64 r.2.2.2)]]) | .error r => (CRes.pan (.iface 34 (encFault r.1)) [[.d (.list 1 (List.map D.str p.g.verbs)), .d (.list 1 (List.map D.str p.g.adverbs)), .d (.list 1 (List.map D.str p.g.behind)), .d (.str p.g.outer), .d (.str p.g.power), .d (.str p.g.open_), .d (.str p.g.close), .d (.str p.g.left), .d (.str p.g.right), .d (.str p.g.minus), .d (.str p.g.quote), .d (.bool p.g.trains), .d (.bool p.g.lone), .d (.bool p.g.square), .d (.list 5 (List.map encToken p.l)), .d (.int .i64 r.2.1), .d (.int .i64 p.end_), .d (.int .i64 r.2.2.1), .d (.int .i64 r.2.2.2)]]))
abbrev Mp_grammar_parser_lambda (a : Grammar_parser) (res : Except (Fault × Int × Int × Int) (Node × Int × Int × Int)) : Prop := match a with | p => aval X 83 [.ptr 0 0] [[.d (.list 1 (List.map D.str p.g.verbs)), .d (.list 1 (List.map D.str p.g.adverbs)), .d (.list 1 (List.map D.str p.g.behind)), .d (.str p.g.outer), .d (.str p.g.power), .d (.str p.g.open_), .d (.str p.g.close), .d (.str p.g.left), .d (.str p.g.right), .d (.str p.g.minus), .d (.str p.g.quote), .d (.bool p.g.trains), .d (.bool p.g.lone), .d (.bool p.g.square), .d (.list 5 (List.map encToken p.l)), .d (.int .i64 p.i), .d (.int .i64 p.end_), .d (.int .i64 p.deep), .d (.int .i64 p.in_)]] (match (generalizing := false) res with | .ok r => (CRes.ret (.d (encNode r.1)) [[.d (.list 1 (List.map D.str p.g.verbs)), .d (.list 1 (List.map D.str p.g.adverbs)), .d (.list 1 (List.map D.str p.g.behind)), .d (.str p.g.outer), .d (.str p.g.power), .d (.str p.g.open_), .d (.str p.g.close), .d (.str p.g.left), .d (.str p.g.right), .d (.str p.g.minus), .d (.str p.g.quote), .d (.bool p.g.trains), .d (.bool p.g.lone), .d (.bool p.g.square), .d (.list 5 (List.map encToken p.l)), .d (.int .i64 r.2.1), .d (.int .i64 p.end_), .d (.int .i64 r.2.2.1), .d (.int .i64 r.2.2.2)]]) | .error r => (CRes.pan (.iface 34 (encFault r.1)) [[.d (.list 1 (List.map D.str p.g.verbs)), .d (.list 1 (List.map D.str p.g.adverbs)), .d (.list 1 (List.map D.str p.g.behind)), .d (.str p.g.outer), .d (.str p.g.power), .d (.str p.g.open_), .d (.str p.g.close), .d (.str p.g.left), .d (.str p.g.right), .d (.str p.g.minus), .d (.str p.g.quote), .d (.bool p.g.trains), .d (.bool p.g.lone), .d (.bool p.g.square), .d (.list 5 (List.map encToken p.l)), .d (.int .i64 r.2.1), .d (.int .i64 p.end_), .d (.int .i64 r.2.2.1), .d (.int .i64 r.2.2.2)]]))
theorem p_grammar_parser_expr_grp : (∀ a res, p_grammar_parser_expr a = some res → Mp_grammar_parser_expr a res) ∧ (∀ a res, p_grammar_parser_operand a = some res → Mp_grammar_parser_operand a res) ∧ (∀ a res, p_grammar_parser_operand_l0 a = some res → Mp_grammar_parser_operand_l0 a res) ∧ (∀ a res, p_grammar_parser_function a = some res → Mp_grammar_parser_function a res) ∧ (∀ a res, p_grammar_parser_base a = some res → Mp_grammar_parser_base a res) ∧ (∀ a res, p_grammar_parser_base_l0 a = some res → Mp_grammar_parser_base_l0 a res) ∧ (∀ a res, p_grammar_parser_lambda a = some res → Mp_grammar_parser_lambda a res) := by
 refine p_grammar_parser_expr.mutual_partial_correctness (motive_1 := Mp_grammar_parser_expr) (motive_2 := Mp_grammar_parser_operand) (motive_3 := Mp_grammar_parser_operand_l0) (motive_4 := Mp_grammar_parser_function) (motive_5 := Mp_grammar_parser_base) (motive_6 := Mp_grammar_parser_base_l0) (motive_7 := Mp_grammar_parser_lambda) ?_ ?_ ?_ ?_ ?_ ?_ ?_
 ·rintro p_grammar_parser_expr' p_grammar_parser_operand' p_grammar_parser_function' ih_p_grammar_parser_expr ih_p_grammar_parser_operand ih_p_grammar_parser_function p res h
  refine aval_start (tm := [(0, .c (.ptr 0 0))]) (hp := [(0, [.d (.list 1 (List.map D.str p.g.verbs)), .d (.list 1 (List.map D.str p.g.adverbs)), .d (.list 1 (List.map D.str p.g.behind)), .d (.str p.g.outer), .d (.str p.g.power), .d (.str p.g.open_), .d (.str p.g.close), .d (.str p.g.left), .d (.str p.g.right), .d (.str p.g.minus), .d (.str p.g.quote), .d (.bool p.g.trains), .d (.bool p.g.lone), .d (.bool p.g.square), .d (.list 5 (List.map encToken p.l)), .d (.int .i64 p.i), .d (.int .i64 p.end_), .d (.int .i64 p.deep), .d (.int .i64 p.in_)])]) (n := 1) rfl Tryz.func18 rfl rfl rfl rfl rfl rfl ?_
  refine ra (nid' := 3) rfl ?_
  refine awp_seq ?_
  refine rn 1 rfl ?_
  obtain ⟨res, hk, h⟩ := bind_inv h
  rcases res with e | deep
  ·obtain ⟨e12, deep42⟩ := e
   refine pp (ecallp (p_grammar_parser_down_ok hk) rfl rfl rfl rfl rfl rfl rfl rfl rfl rfl) rfl rfl ?_
   refine seqQ.pan ?_
   cases h
   exact .pan rfl rfl
  ·refine po (ecallb (nid' := 3) (p_grammar_parser_down_ok hk) rfl rfl rfl rfl rfl rfl rfl rfl rfl rfl rfl rfl) rfl rfl ?_
   refine rz ?_
   refine awp_seq ?_
   refine rn 1 rfl ?_
   refine pdef (fun _ => rfl) rfl rfl ?_
   refine rz ?_
   refine awp_seq ?_
   refine rn 1 rfl ?_
   obtain ⟨at_, hk, h⟩ := bind_inv h
   refine po (ecallb (nid' := 3) (p_grammar_parser_here_ok hk) rfl rfl rfl rfl rfl rfl rfl rfl rfl rfl rfl rfl) rfl rfl ?_
   refine on 1 rfl ?_
   refine rz ?_
   refine awp_seq ?_
   refine awp_seq ?_
   refine drn (m := 10) 5 rfl rfl ?_
   obtain ⟨x, hk, h⟩ := bind_inv h
   refine pd (ecallb (nid' := 10) (p_grammar_parser_skip_ok hk) rfl rfl rfl rfl rfl rfl rfl rfl rfl rfl rfl rfl) rfl rfl rfl rfl rfl ?_
   refine don 1 rfl ?_
   refine dz (by kernel_rfl) ?_
   rcases ite_inv h with ⟨hc, h⟩ | ⟨hc, h⟩
   ·refine ct rfl hc ?_
    refine awp_seq ?_
    refine rn 1 rfl ?_
    obtain ⟨res, hk, h⟩ := bind_inv h
    rcases res with e | y
    ·obtain ⟨e1, i3, deep6, in_3⟩ := e
     refine pp (ecallp (ih_p_grammar_parser_function _ _ hk) rfl rfl rfl rfl rfl rfl rfl rfl rfl rfl) rfl rfl ?_
     refine seqQ.pan ?_
     refine condQ.pan ?_
     refine seqQ.pan ?_
     obtain ⟨deep7, hk, h⟩ := bind_inv h
     cases h
     exact .dpan rfl (rdc (nid' := 10) (p_grammar_parser_expr_1_ok hk) (recsF_of Tryz.func36 rfl rfl) rfl rfl rfl rfl rfl rfl rfl rfl .nil) rfl
    ·obtain ⟨x1, i, deep1, in_⟩ := y
     refine po (ecallb (nid' := 10) (ih_p_grammar_parser_function _ _ hk) rfl rfl rfl rfl rfl rfl rfl rfl rfl rfl rfl rfl) rfl rfl ?_
     refine on (nid' := 11) 2 rfl ?_
     refine rz ?_
     refine awp_seq ?_
     refine drn (m := 18) 3 rfl rfl ?_
     obtain ⟨res, hk, h⟩ := bind_inv h
     rcases res with e | y
     ·obtain ⟨e, i2, deep4, in_2⟩ := e
      refine dp rfl (ecallp (ih_p_grammar_parser_expr _ _ hk) rfl rfl rfl rfl rfl rfl rfl rfl rfl rfl) (ecallp (ih_p_grammar_parser_expr _ _ hk) rfl rfl rfl rfl rfl rfl rfl rfl rfl rfl) rfl rfl rfl rfl (by kernel_rfl) ?_
      refine seqQ.pan ?_
      refine condQ.pan ?_
      refine seqQ.pan ?_
      obtain ⟨deep5, hk, h⟩ := bind_inv h
      cases h
      exact .dpan rfl (rdc (nid' := 18) (p_grammar_parser_expr_1_ok hk) (recsF_of Tryz.func36 rfl rfl) rfl rfl rfl rfl rfl rfl rfl rfl .nil) rfl
     ·obtain ⟨x2, i1, deep2, in_1⟩ := y
      refine pd (ecallb (nid' := 18) (ih_p_grammar_parser_expr _ _ hk) rfl rfl rfl rfl rfl rfl rfl rfl rfl rfl rfl rfl) rfl rfl rfl rfl rfl ?_
      refine pd (erw' (show V.c (.own 7 [encNode x1, encNode x2]) = V.c (.own 7 (List.map encNodeR [x1, x2])) from by simp only [List.map_cons, List.map_nil, encNodeR_eq]) (eplain rfl)) rfl rfl rfl rfl rfl ?_
      refine don 2 rfl ?_
      refine dz (by kernel_rfl) ?_
      refine awp_ret ?_
      refine condQ.ret ?_
      refine seqQ.ret ?_
      obtain ⟨deep3, hk, h⟩ := bind_inv h
      cases h
      exact .dret rfl (rdc (nid' := 18) (p_grammar_parser_expr_1_ok hk) (recsF_of Tryz.func36 rfl rfl) rfl rfl rfl rfl rfl rfl rfl rfl .nil) rfl
   ·refine cf rfl hc ?_
    refine awp_skip ?_
    refine cn rfl ?_
    refine seqQ.normal ?_
    refine awp_seq ?_
    refine rn 1 rfl ?_
    obtain ⟨res, hk, h⟩ := bind_inv h
    rcases res with e | y
    ·obtain ⟨e11, i19, deep40, in_19⟩ := e
     refine pp (ecallp (ih_p_grammar_parser_operand _ _ hk) rfl rfl rfl rfl rfl rfl rfl rfl rfl rfl) rfl rfl ?_
     refine seqQ.pan ?_
     obtain ⟨deep41, hk, h⟩ := bind_inv h
     cases h
     exact .dpan rfl (rdc (nid' := 10) (p_grammar_parser_expr_1_ok hk) (recsF_of Tryz.func36 rfl rfl) rfl rfl rfl rfl rfl rfl rfl rfl .nil) rfl
    ·obtain ⟨x3, i4, deep8, in_4⟩ := y
     refine po (ecallb (nid' := 10) (ih_p_grammar_parser_operand _ _ hk) rfl rfl rfl rfl rfl rfl rfl rfl rfl rfl rfl rfl) rfl rfl ?_
     refine on (nid' := 11) 2 rfl ?_
     refine rz ?_
     refine awp_seq ?_
     obtain ⟨res, hs, h⟩ := bind_inv h
     refine awp_sub Tryz.f18 1 (fun (r : Except (Fault × Int × Int × Int) (Node × Int × Int × Int)) => (match (generalizing := false) r with | .ok r => (CRes.ret (.d (encNode r.1)) [[.d (.list 1 (List.map D.str p.g.verbs)), .d (.list 1 (List.map D.str p.g.adverbs)), .d (.list 1 (List.map D.str p.g.behind)), .d (.str p.g.outer), .d (.str p.g.power), .d (.str p.g.open_), .d (.str p.g.close), .d (.str p.g.left), .d (.str p.g.right), .d (.str p.g.minus), .d (.str p.g.quote), .d (.bool p.g.trains), .d (.bool p.g.lone), .d (.bool p.g.square), .d (.list 5 (List.map encToken p.l)), .d (.int .i64 r.2.1), .d (.int .i64 p.end_), .d (.int .i64 r.2.2.1), .d (.int .i64 r.2.2.2)]]) | .error r => (CRes.pan (.iface 34 (encFault r.1)) [[.d (.list 1 (List.map D.str p.g.verbs)), .d (.list 1 (List.map D.str p.g.adverbs)), .d (.list 1 (List.map D.str p.g.behind)), .d (.str p.g.outer), .d (.str p.g.power), .d (.str p.g.open_), .d (.str p.g.close), .d (.str p.g.left), .d (.str p.g.right), .d (.str p.g.minus), .d (.str p.g.quote), .d (.bool p.g.trains), .d (.bool p.g.lone), .d (.bool p.g.square), .d (.list 5 (List.map encToken p.l)), .d (.int .i64 r.2.1), .d (.int .i64 p.end_), .d (.int .i64 r.2.2.1), .d (.int .i64 r.2.2.2)]]))) (fun (_ : Unit) => (⟨[(1, .c (.ptr 1 0)), (2, .c (.ptr 2 0)), (3, .d (.int .i64 at_)), (5, .c (.ptr 10 0))], [(10, [.d (.int .i64 x3.kind), .d (.int .i64 x3.op_), .d (.str x3.name), .d (.list 1 (List.map (D.int .i64) x3.lit.shape)), .d (.list 3 (List.map encCell x3.lit.cells)), .d (.list 7 (List.map encNodeR x3.kids)), .d (.int .i64 x3.at_)]), (2, [.d (.int .i64 0), .d (.int .i64 0), .d (.str []), .own 1 (List.map (D.int .i64) []), .own 3 (List.map encCell []), .own 7 (List.map encNodeR []), .d (.int .i64 0)]), (1, [.ptr 0 0]), (0, [.d (.list 1 (List.map D.str p.g.verbs)), .d (.list 1 (List.map D.str p.g.adverbs)), .d (.list 1 (List.map D.str p.g.behind)), .d (.str p.g.outer), .d (.str p.g.power), .d (.str p.g.open_), .d (.str p.g.close), .d (.str p.g.left), .d (.str p.g.right), .d (.str p.g.minus), .d (.str p.g.quote), .d (.bool p.g.trains), .d (.bool p.g.lone), .d (.bool p.g.square), .d (.list 5 (List.map encToken p.l)), .d (.int .i64 i4), .d (.int .i64 p.end_), .d (.int .i64 deep8), .d (.int .i64 in_4)])], 11, [(36, [1])], none⟩ : St)) (res := res) ?_ (fun y hy => ?_) (fun r x s' hr hx he => ?_)
     ·replace h := hs
      refine awp_block ?_
      refine awp_seq ?_
      refine drn (m := 36) 8 rfl rfl ?_
      refine pd (ellen rfl rfl rfl rfl rfl rfl rfl) rfl rfl rfl rfl rfl ?_
      refine don 2 rfl ?_
      rcases ite_inv h with ⟨hc, h⟩ | ⟨hc, h⟩
      ·refine dgt rfl rfl rfl rfl hc rfl ?_
       refine don 14 rfl ?_
       refine dz (by kernel_rfl) ?_
       refine ct rfl rfl ?_
       refine ra rfl ?_
       refine awp_ret ?_
       refine condQ.ret ?_
       refine exitQ.ret ?_
       obtain ⟨deep9, hk, h⟩ := bind_inv h
       cases h
       exact .err rfl (.dret rfl (rdc (nid' := 36) (p_grammar_parser_expr_1_ok hk) (recsF_of Tryz.func36 rfl rfl) rfl rfl rfl rfl rfl rfl rfl rfl .nil) rfl)
      ·refine dgf rfl rfl rfl rfl hc rfl ?_
       refine don 8 rfl ?_
       obtain ⟨y, hk, h⟩ := bind_inv h
       refine pd (elget encToken (fun _ => rfl) hk rfl rfl rfl rfl rfl) rfl rfl rfl rfl rfl ?_
       refine don 5 rfl ?_
       refine dz (by kernel_rfl) ?_
       rcases ite_inv h with ⟨hc, h⟩ | ⟨hc, h⟩
       ·refine ct rfl hc ?_
        refine ra rfl ?_
        refine awp_ret ?_
        refine condQ.ret ?_
        refine exitQ.ret ?_
        obtain ⟨deep10, hk, h⟩ := bind_inv h
        cases h
        exact .err rfl (.dret rfl (rdc (nid' := 36) (p_grammar_parser_expr_1_ok hk) (recsF_of Tryz.func36 rfl rfl) rfl rfl rfl rfl rfl rfl rfl rfl .nil) rfl)
       ·refine cf rfl hc ?_
        refine awp_seq ?_
        refine drn (m := 44) 5 rfl rfl ?_
        obtain ⟨x4, hk, h⟩ := bind_inv h
        refine pd (ecallb (nid' := 44) (p_grammar_parser_skip_ok hk) rfl rfl rfl rfl rfl rfl rfl rfl rfl rfl rfl rfl) rfl rfl rfl rfl rfl ?_
        refine don 2 rfl ?_
        refine dz (by kernel_rfl) ?_
        rcases ite_inv h with ⟨hc, h⟩ | ⟨hc, h⟩
        ·refine ct rfl hc ?_
         refine drn (m := 50) 5 rfl rfl ?_
         obtain ⟨res, hk, h⟩ := bind_inv h
         rcases res with e2 | y
         ·refine dp rfl (ecallp (p_grammar_parser_fail_ok hk) rfl rfl rfl rfl rfl rfl rfl rfl rfl rfl) (ecallp (p_grammar_parser_fail_ok hk) rfl rfl rfl rfl rfl rfl rfl rfl rfl rfl) rfl rfl rfl rfl (by kernel_rfl) ?_
          refine condQ.pan ?_
          refine condQ.pan ?_
          refine exitQ.pan ?_
          obtain ⟨deep11, hk, h⟩ := bind_inv h
          cases h
          exact .err rfl (.dpan rfl (rdc (nid' := 50) (p_grammar_parser_expr_1_ok hk) (recsF_of Tryz.func36 rfl rfl) rfl rfl rfl rfl rfl rfl rfl rfl .nil) rfl)
         ·refine pd (ecallb (nid' := 50) (p_grammar_parser_fail_ok hk) rfl rfl rfl rfl rfl rfl rfl rfl rfl rfl rfl rfl) rfl rfl rfl rfl rfl ?_
          refine dz' (by kernel_rfl) ?_
          refine cn rfl ?_
          refine cn rfl ?_
          refine en rfl ?_
          cases h
          exact .ok rfl
        ·refine cf rfl hc ?_
         refine awp_skip ?_
         refine cn rfl ?_
         refine cn rfl ?_
         refine en rfl ?_
         cases h
         exact .ok rfl
     ·subst hy
      refine seqQ.normal ?_
      refine ra rfl ?_
      refine awp_seq ?_
      refine rn 1 rfl ?_
      obtain ⟨res, hk, h⟩ := bind_inv h
      rcases res with e | y
      ·obtain ⟨e10, i18, deep38, in_18⟩ := e
       refine pp (ecallp (ih_p_grammar_parser_function _ _ hk) rfl rfl rfl rfl rfl rfl rfl rfl rfl rfl) rfl rfl ?_
       refine seqQ.pan ?_
       obtain ⟨deep39, hk, h⟩ := bind_inv h
       cases h
       exact .dpan rfl (rdc (nid' := 11) (p_grammar_parser_expr_1_ok hk) (recsF_of Tryz.func36 rfl rfl) rfl rfl rfl rfl rfl rfl rfl rfl .nil) rfl
      ·obtain ⟨x5, i5, deep12, in_5⟩ := y
       refine po (ecallb (nid' := 11) (ih_p_grammar_parser_function _ _ hk) rfl rfl rfl rfl rfl rfl rfl rfl rfl rfl rfl rfl) rfl rfl ?_
       refine on (nid' := 12) 2 rfl ?_
       refine rz ?_
       refine awp_seq ?_
       refine awp_seq ?_
       refine rn 6 rfl ?_
       rcases ite_inv h with ⟨hc, h⟩ | ⟨hc, h⟩
       ·refine gt rfl rfl rfl rfl hc rfl ?_
        refine on 5 rfl ?_
        rcases ite_inv h with ⟨hc, h⟩ | ⟨hc, h⟩
        ·refine gt rfl rfl rfl rfl hc rfl ?_
         refine on 5 rfl ?_
         rcases ite_inv h with ⟨hc, h⟩ | ⟨hc, h⟩
         ·refine gt rfl rfl rfl rfl hc rfl ?_
          refine on 2 rfl ?_
          obtain ⟨y1, hk, h⟩ := bind_inv h
          refine po (elget encNode encNodeR_eq hk rfl rfl rfl rfl rfl) rfl rfl ?_
          refine on 5 rfl ?_
          rcases ite_inv h with ⟨hc, h⟩ | ⟨hc, h⟩
          ·refine gt rfl rfl rfl rfl hc rfl ?_
           refine on 4 rfl ?_
           refine rz ?_
           rcases ite_inv h with ⟨hc, h⟩ | ⟨hc, h⟩
           ·refine ct rfl hc ?_
            refine awp_seq ?_
            refine rn 2 rfl ?_
            obtain ⟨⟨n, ok⟩, hk, h⟩ := bind_inv h
            refine po (ecall (p_grammar_times_ok hk) rfl rfl rfl rfl rfl rfl rfl rfl rfl) rfl rfl ?_
            refine on 5 rfl ?_
            refine rz ?_
            refine awp_seq ?_
            refine ra rfl ?_
            obtain ⟨res, hs, h⟩ := bind_inv h
            refine awp_sub Tryz.f18 1 (fun (r : Except (Fault × Int × Int × Int) (Node × Int × Int × Int)) => (match (generalizing := false) r with | .ok r => (CRes.ret (.d (encNode r.1)) [[.d (.list 1 (List.map D.str p.g.verbs)), .d (.list 1 (List.map D.str p.g.adverbs)), .d (.list 1 (List.map D.str p.g.behind)), .d (.str p.g.outer), .d (.str p.g.power), .d (.str p.g.open_), .d (.str p.g.close), .d (.str p.g.left), .d (.str p.g.right), .d (.str p.g.minus), .d (.str p.g.quote), .d (.bool p.g.trains), .d (.bool p.g.lone), .d (.bool p.g.square), .d (.list 5 (List.map encToken p.l)), .d (.int .i64 r.2.1), .d (.int .i64 p.end_), .d (.int .i64 r.2.2.1), .d (.int .i64 r.2.2.2)]]) | .error r => (CRes.pan (.iface 34 (encFault r.1)) [[.d (.list 1 (List.map D.str p.g.verbs)), .d (.list 1 (List.map D.str p.g.adverbs)), .d (.list 1 (List.map D.str p.g.behind)), .d (.str p.g.outer), .d (.str p.g.power), .d (.str p.g.open_), .d (.str p.g.close), .d (.str p.g.left), .d (.str p.g.right), .d (.str p.g.minus), .d (.str p.g.quote), .d (.bool p.g.trains), .d (.bool p.g.lone), .d (.bool p.g.square), .d (.list 5 (List.map encToken p.l)), .d (.int .i64 r.2.1), .d (.int .i64 p.end_), .d (.int .i64 r.2.2.1), .d (.int .i64 r.2.2.2)]]))) (fun (_ : Unit) => (⟨[(1, .c (.ptr 1 0)), (2, .c (.ptr 2 0)), (3, .d (.int .i64 at_)), (7, .c (.ptr 11 0)), (8, .d (.int .i64 n))], [(11, [.d (.int .i64 x5.kind), .d (.int .i64 x5.op_), .d (.str x5.name), .d (.list 1 (List.map (D.int .i64) x5.lit.shape)), .d (.list 3 (List.map encCell x5.lit.cells)), .d (.list 7 (List.map encNodeR x5.kids)), .d (.int .i64 x5.at_)]), (10, [.d (.int .i64 x3.kind), .d (.int .i64 x3.op_), .d (.str x3.name), .d (.list 1 (List.map (D.int .i64) x3.lit.shape)), .d (.list 3 (List.map encCell x3.lit.cells)), .d (.list 7 (List.map encNodeR x3.kids)), .d (.int .i64 x3.at_)]), (2, [.d (.int .i64 0), .d (.int .i64 0), .d (.str []), .own 1 (List.map (D.int .i64) []), .own 3 (List.map encCell []), .own 7 (List.map encNodeR []), .d (.int .i64 0)]), (1, [.ptr 0 0]), (0, [.d (.list 1 (List.map D.str p.g.verbs)), .d (.list 1 (List.map D.str p.g.adverbs)), .d (.list 1 (List.map D.str p.g.behind)), .d (.str p.g.outer), .d (.str p.g.power), .d (.str p.g.open_), .d (.str p.g.close), .d (.str p.g.left), .d (.str p.g.right), .d (.str p.g.minus), .d (.str p.g.quote), .d (.bool p.g.trains), .d (.bool p.g.lone), .d (.bool p.g.square), .d (.list 5 (List.map encToken p.l)), .d (.int .i64 i5), .d (.int .i64 p.end_), .d (.int .i64 deep12), .d (.int .i64 in_5)])], 12, [(36, [1])], none⟩ : St)) (res := res) ?_ (fun y hy => ?_) (fun r x s' hr hx he => ?_)
            ·replace h := hs
             rcases ite_inv h with ⟨hc, h⟩ | ⟨hc, h⟩
             ·refine ct rfl hc ?_
              refine rn 2 rfl ?_
              obtain ⟨res, hk, h⟩ := bind_inv h
              rcases res with e3 | y
              ·refine pp (ecallp (p_grammar_parser_fail_ok hk) rfl rfl rfl rfl rfl rfl rfl rfl rfl rfl) rfl rfl ?_
               refine condQ.pan ?_
               obtain ⟨deep13, hk, h⟩ := bind_inv h
               cases h
               exact .err rfl (.dpan rfl (rdc (nid' := 12) (p_grammar_parser_expr_1_ok hk) (recsF_of Tryz.func36 rfl rfl) rfl rfl rfl rfl rfl rfl rfl rfl .nil) rfl)
              ·refine po (ecallb (nid' := 12) (p_grammar_parser_fail_ok hk) rfl rfl rfl rfl rfl rfl rfl rfl rfl rfl rfl rfl) rfl rfl ?_
               refine awpO_nil ?_
               refine cn rfl ?_
               cases h
               exact .ok rfl
             ·refine cf rfl hc ?_
              refine awp_skip ?_
              refine cn rfl ?_
              cases h
              exact .ok rfl
            ·subst hy
             refine seqQ.normal ?_
             refine ra rfl ?_
             refine awp_seq ?_
             refine drn (m := 19) 3 rfl rfl ?_
             obtain ⟨res, hk, h⟩ := bind_inv h
             rcases res with e | y
             ·obtain ⟨e4, i7, deep16, in_7⟩ := e
              refine dp rfl (ecallp (ih_p_grammar_parser_expr _ _ hk) rfl rfl rfl rfl rfl rfl rfl rfl rfl rfl) (ecallp (ih_p_grammar_parser_expr _ _ hk) rfl rfl rfl rfl rfl rfl rfl rfl rfl rfl) rfl rfl rfl rfl (by kernel_rfl) ?_
              refine seqQ.pan ?_
              refine condQ.pan ?_
              refine seqQ.pan ?_
              obtain ⟨deep17, hk, h⟩ := bind_inv h
              cases h
              exact .dpan rfl (rdc (nid' := 19) (p_grammar_parser_expr_1_ok hk) (recsF_of Tryz.func36 rfl rfl) rfl rfl rfl rfl rfl rfl rfl rfl .nil) rfl
             ·obtain ⟨x6, i6, deep14, in_6⟩ := y
              refine pd (ecallb (nid' := 19) (ih_p_grammar_parser_expr _ _ hk) rfl rfl rfl rfl rfl rfl rfl rfl rfl rfl rfl rfl) rfl rfl rfl rfl rfl ?_
              refine pd (erw' (show V.c (.own 7 [encNode (Node.mk 26 n [] (Arr.mk [] []) x5.kids at_), encNode x6]) = V.c (.own 7 (List.map encNodeR [(Node.mk 26 n [] (Arr.mk [] []) x5.kids at_), x6])) from by simp only [List.map_cons, List.map_nil, encNodeR_eq]) (eplain rfl)) rfl rfl rfl rfl rfl ?_
              refine don 2 rfl ?_
              refine dz (by kernel_rfl) ?_
              refine awp_ret ?_
              refine condQ.ret ?_
              refine seqQ.ret ?_
              obtain ⟨deep15, hk, h⟩ := bind_inv h
              cases h
              exact .dret rfl (rdc (nid' := 19) (p_grammar_parser_expr_1_ok hk) (recsF_of Tryz.func36 rfl rfl) rfl rfl rfl rfl rfl rfl rfl rfl .nil) rfl
            ·subst hr
             refine seqQ.out hx ?_
             refine condQ.out hx ?_
             refine seqQ.out hx ?_
             cases h
             exact he
           ·refine cf rfl hc ?_
            refine awp_skip ?_
            refine cn rfl ?_
            refine seqQ.normal ?_
            refine awp_seq ?_
            refine drn (m := 20) 4 rfl rfl ?_
            obtain ⟨res, hk, h⟩ := bind_inv h
            rcases res with e | y
            ·obtain ⟨e5, i9, deep20, in_9⟩ := e
             refine dp rfl (ecallp (ih_p_grammar_parser_expr _ _ hk) rfl rfl rfl rfl rfl rfl rfl rfl rfl rfl) (ecallp (ih_p_grammar_parser_expr _ _ hk) rfl rfl rfl rfl rfl rfl rfl rfl rfl rfl) rfl rfl rfl rfl (by kernel_rfl) ?_
             refine seqQ.pan ?_
             obtain ⟨deep21, hk, h⟩ := bind_inv h
             cases h
             exact .dpan rfl (rdc (nid' := 20) (p_grammar_parser_expr_1_ok hk) (recsF_of Tryz.func36 rfl rfl) rfl rfl rfl rfl rfl rfl rfl rfl .nil) rfl
            ·obtain ⟨x7, i8, deep18, in_8⟩ := y
             refine pd (ecallb (nid' := 20) (ih_p_grammar_parser_expr _ _ hk) rfl rfl rfl rfl rfl rfl rfl rfl rfl rfl rfl rfl) rfl rfl rfl rfl rfl ?_
             refine pd (erw' (show V.c (.own 7 [encNode x5, encNode x3, encNode x7]) = V.c (.own 7 (List.map encNodeR [x5, x3, x7])) from by simp only [List.map_cons, List.map_nil, encNodeR_eq]) (eplain rfl)) rfl rfl rfl rfl rfl ?_
             refine don 2 rfl ?_
             refine dz (by kernel_rfl) ?_
             refine awp_ret ?_
             obtain ⟨deep19, hk, h⟩ := bind_inv h
             cases h
             exact .dret rfl (rdc (nid' := 20) (p_grammar_parser_expr_1_ok hk) (recsF_of Tryz.func36 rfl rfl) rfl rfl rfl rfl rfl rfl rfl rfl .nil) rfl
          ·refine gf rfl rfl rfl rfl hc rfl ?_
           refine on 4 rfl ?_
           refine rz ?_
           refine cf rfl rfl ?_
           refine awp_skip ?_
           refine cn rfl ?_
           refine seqQ.normal ?_
           refine awp_seq ?_
           refine drn (m := 20) 4 rfl rfl ?_
           obtain ⟨res, hk, h⟩ := bind_inv h
           rcases res with e | y
           ·obtain ⟨e6, i11, deep24, in_11⟩ := e
            refine dp rfl (ecallp (ih_p_grammar_parser_expr _ _ hk) rfl rfl rfl rfl rfl rfl rfl rfl rfl rfl) (ecallp (ih_p_grammar_parser_expr _ _ hk) rfl rfl rfl rfl rfl rfl rfl rfl rfl rfl) rfl rfl rfl rfl (by kernel_rfl) ?_
            refine seqQ.pan ?_
            obtain ⟨deep25, hk, h⟩ := bind_inv h
            cases h
            exact .dpan rfl (rdc (nid' := 20) (p_grammar_parser_expr_1_ok hk) (recsF_of Tryz.func36 rfl rfl) rfl rfl rfl rfl rfl rfl rfl rfl .nil) rfl
           ·obtain ⟨x8, i10, deep22, in_10⟩ := y
            refine pd (ecallb (nid' := 20) (ih_p_grammar_parser_expr _ _ hk) rfl rfl rfl rfl rfl rfl rfl rfl rfl rfl rfl rfl) rfl rfl rfl rfl rfl ?_
            refine pd (erw' (show V.c (.own 7 [encNode x5, encNode x3, encNode x8]) = V.c (.own 7 (List.map encNodeR [x5, x3, x8])) from by simp only [List.map_cons, List.map_nil, encNodeR_eq]) (eplain rfl)) rfl rfl rfl rfl rfl ?_
            refine don 2 rfl ?_
            refine dz (by kernel_rfl) ?_
            refine awp_ret ?_
            obtain ⟨deep23, hk, h⟩ := bind_inv h
            cases h
            exact .dret rfl (rdc (nid' := 20) (p_grammar_parser_expr_1_ok hk) (recsF_of Tryz.func36 rfl rfl) rfl rfl rfl rfl rfl rfl rfl rfl .nil) rfl
         ·refine gf rfl rfl rfl rfl hc rfl ?_
          refine on 12 rfl ?_
          refine rz ?_
          refine cf rfl rfl ?_
          refine awp_skip ?_
          refine cn rfl ?_
          refine seqQ.normal ?_
          refine awp_seq ?_
          refine drn (m := 20) 4 rfl rfl ?_
          obtain ⟨res, hk, h⟩ := bind_inv h
          rcases res with e | y
          ·obtain ⟨e7, i13, deep28, in_13⟩ := e
           refine dp rfl (ecallp (ih_p_grammar_parser_expr _ _ hk) rfl rfl rfl rfl rfl rfl rfl rfl rfl rfl) (ecallp (ih_p_grammar_parser_expr _ _ hk) rfl rfl rfl rfl rfl rfl rfl rfl rfl rfl) rfl rfl rfl rfl (by kernel_rfl) ?_
           refine seqQ.pan ?_
           obtain ⟨deep29, hk, h⟩ := bind_inv h
           cases h
           exact .dpan rfl (rdc (nid' := 20) (p_grammar_parser_expr_1_ok hk) (recsF_of Tryz.func36 rfl rfl) rfl rfl rfl rfl rfl rfl rfl rfl .nil) rfl
          ·obtain ⟨x9, i12, deep26, in_12⟩ := y
           refine pd (ecallb (nid' := 20) (ih_p_grammar_parser_expr _ _ hk) rfl rfl rfl rfl rfl rfl rfl rfl rfl rfl rfl rfl) rfl rfl rfl rfl rfl ?_
           refine pd (erw' (show V.c (.own 7 [encNode x5, encNode x3, encNode x9]) = V.c (.own 7 (List.map encNodeR [x5, x3, x9])) from by simp only [List.map_cons, List.map_nil, encNodeR_eq]) (eplain rfl)) rfl rfl rfl rfl rfl ?_
           refine don 2 rfl ?_
           refine dz (by kernel_rfl) ?_
           refine awp_ret ?_
           obtain ⟨deep27, hk, h⟩ := bind_inv h
           cases h
           exact .dret rfl (rdc (nid' := 20) (p_grammar_parser_expr_1_ok hk) (recsF_of Tryz.func36 rfl rfl) rfl rfl rfl rfl rfl rfl rfl rfl .nil) rfl
        ·refine gf rfl rfl rfl rfl hc rfl ?_
         refine on 17 rfl ?_
         refine rz ?_
         refine cf rfl rfl ?_
         refine awp_skip ?_
         refine cn rfl ?_
         refine seqQ.normal ?_
         refine awp_seq ?_
         refine drn (m := 20) 4 rfl rfl ?_
         obtain ⟨res, hk, h⟩ := bind_inv h
         rcases res with e | y
         ·obtain ⟨e8, i15, deep32, in_15⟩ := e
          refine dp rfl (ecallp (ih_p_grammar_parser_expr _ _ hk) rfl rfl rfl rfl rfl rfl rfl rfl rfl rfl) (ecallp (ih_p_grammar_parser_expr _ _ hk) rfl rfl rfl rfl rfl rfl rfl rfl rfl rfl) rfl rfl rfl rfl (by kernel_rfl) ?_
          refine seqQ.pan ?_
          obtain ⟨deep33, hk, h⟩ := bind_inv h
          cases h
          exact .dpan rfl (rdc (nid' := 20) (p_grammar_parser_expr_1_ok hk) (recsF_of Tryz.func36 rfl rfl) rfl rfl rfl rfl rfl rfl rfl rfl .nil) rfl
         ·obtain ⟨x10, i14, deep30, in_14⟩ := y
          refine pd (ecallb (nid' := 20) (ih_p_grammar_parser_expr _ _ hk) rfl rfl rfl rfl rfl rfl rfl rfl rfl rfl rfl rfl) rfl rfl rfl rfl rfl ?_
          refine pd (erw' (show V.c (.own 7 [encNode x5, encNode x3, encNode x10]) = V.c (.own 7 (List.map encNodeR [x5, x3, x10])) from by simp only [List.map_cons, List.map_nil, encNodeR_eq]) (eplain rfl)) rfl rfl rfl rfl rfl ?_
          refine don 2 rfl ?_
          refine dz (by kernel_rfl) ?_
          refine awp_ret ?_
          obtain ⟨deep31, hk, h⟩ := bind_inv h
          cases h
          exact .dret rfl (rdc (nid' := 20) (p_grammar_parser_expr_1_ok hk) (recsF_of Tryz.func36 rfl rfl) rfl rfl rfl rfl rfl rfl rfl rfl .nil) rfl
       ·refine gf rfl rfl rfl rfl hc rfl ?_
        refine on 22 rfl ?_
        refine rz ?_
        refine cf rfl rfl ?_
        refine awp_skip ?_
        refine cn rfl ?_
        refine seqQ.normal ?_
        refine awp_seq ?_
        refine drn (m := 20) 4 rfl rfl ?_
        obtain ⟨res, hk, h⟩ := bind_inv h
        rcases res with e | y
        ·obtain ⟨e9, i17, deep36, in_17⟩ := e
         refine dp rfl (ecallp (ih_p_grammar_parser_expr _ _ hk) rfl rfl rfl rfl rfl rfl rfl rfl rfl rfl) (ecallp (ih_p_grammar_parser_expr _ _ hk) rfl rfl rfl rfl rfl rfl rfl rfl rfl rfl) rfl rfl rfl rfl (by kernel_rfl) ?_
         refine seqQ.pan ?_
         obtain ⟨deep37, hk, h⟩ := bind_inv h
         cases h
         exact .dpan rfl (rdc (nid' := 20) (p_grammar_parser_expr_1_ok hk) (recsF_of Tryz.func36 rfl rfl) rfl rfl rfl rfl rfl rfl rfl rfl .nil) rfl
        ·obtain ⟨x11, i16, deep34, in_16⟩ := y
         refine pd (ecallb (nid' := 20) (ih_p_grammar_parser_expr _ _ hk) rfl rfl rfl rfl rfl rfl rfl rfl rfl rfl rfl rfl) rfl rfl rfl rfl rfl ?_
         refine pd (erw' (show V.c (.own 7 [encNode x5, encNode x3, encNode x11]) = V.c (.own 7 (List.map encNodeR [x5, x3, x11])) from by simp only [List.map_cons, List.map_nil, encNodeR_eq]) (eplain rfl)) rfl rfl rfl rfl rfl ?_
         refine don 2 rfl ?_
         refine dz (by kernel_rfl) ?_
         refine awp_ret ?_
         obtain ⟨deep35, hk, h⟩ := bind_inv h
         cases h
         exact .dret rfl (rdc (nid' := 20) (p_grammar_parser_expr_1_ok hk) (recsF_of Tryz.func36 rfl rfl) rfl rfl rfl rfl rfl rfl rfl rfl .nil) rfl
     ·subst hr
      refine seqQ.out hx ?_
      cases h
      exact he
 ·rintro p_grammar_parser_expr' p_grammar_parser_operand_l0' ih_p_grammar_parser_expr ih_p_grammar_parser_operand_l0 p res h
  refine aval_start (tm := [(0, .c (.ptr 0 0))]) (hp := [(0, [.d (.list 1 (List.map D.str p.g.verbs)), .d (.list 1 (List.map D.str p.g.adverbs)), .d (.list 1 (List.map D.str p.g.behind)), .d (.str p.g.outer), .d (.str p.g.power), .d (.str p.g.open_), .d (.str p.g.close), .d (.str p.g.left), .d (.str p.g.right), .d (.str p.g.minus), .d (.str p.g.quote), .d (.bool p.g.trains), .d (.bool p.g.lone), .d (.bool p.g.square), .d (.list 5 (List.map encToken p.l)), .d (.int .i64 p.i), .d (.int .i64 p.end_), .d (.int .i64 p.deep), .d (.int .i64 p.in_)])]) (n := 1) rfl Tryz.func40 rfl rfl rfl rfl rfl rfl ?_
  refine ra (nid' := 2) rfl ?_
  refine awp_seq ?_
  refine awp_seq ?_
  refine drn (m := 12) 8 rfl rfl ?_
  refine pd (ellen rfl rfl rfl rfl rfl rfl rfl) rfl rfl rfl rfl rfl ?_
  refine don 1 rfl ?_
  refine dz (by kernel_rfl) ?_
  obtain ⟨res, hs, h⟩ := bind_inv h
  refine awp_sub Tryz.f40 1 (fun (r : Except (Fault × Int × Int × Int) (Node × Int × Int × Int)) => (match (generalizing := false) r with | .ok r => (CRes.ret (.d (encNode r.1)) [[.d (.list 1 (List.map D.str p.g.verbs)), .d (.list 1 (List.map D.str p.g.adverbs)), .d (.list 1 (List.map D.str p.g.behind)), .d (.str p.g.outer), .d (.str p.g.power), .d (.str p.g.open_), .d (.str p.g.close), .d (.str p.g.left), .d (.str p.g.right), .d (.str p.g.minus), .d (.str p.g.quote), .d (.bool p.g.trains), .d (.bool p.g.lone), .d (.bool p.g.square), .d (.list 5 (List.map encToken p.l)), .d (.int .i64 r.2.1), .d (.int .i64 p.end_), .d (.int .i64 r.2.2.1), .d (.int .i64 r.2.2.2)]]) | .error r => (CRes.pan (.iface 34 (encFault r.1)) [[.d (.list 1 (List.map D.str p.g.verbs)), .d (.list 1 (List.map D.str p.g.adverbs)), .d (.list 1 (List.map D.str p.g.behind)), .d (.str p.g.outer), .d (.str p.g.power), .d (.str p.g.open_), .d (.str p.g.close), .d (.str p.g.left), .d (.str p.g.right), .d (.str p.g.minus), .d (.str p.g.quote), .d (.bool p.g.trains), .d (.bool p.g.lone), .d (.bool p.g.square), .d (.list 5 (List.map encToken p.l)), .d (.int .i64 r.2.1), .d (.int .i64 p.end_), .d (.int .i64 r.2.2.1), .d (.int .i64 r.2.2.2)]]))) (fun (_ : Unit) => (⟨[(0, .c (.ptr 0 0)), (2, .c (.ptr 1 0))], [(1, [.d (.int .i64 0), .d (.int .i64 0), .d (.str []), .own 1 (List.map (D.int .i64) []), .own 3 (List.map encCell []), .own 7 (List.map encNodeR []), .d (.int .i64 0)]), (0, [.d (.list 1 (List.map D.str p.g.verbs)), .d (.list 1 (List.map D.str p.g.adverbs)), .d (.list 1 (List.map D.str p.g.behind)), .d (.str p.g.outer), .d (.str p.g.power), .d (.str p.g.open_), .d (.str p.g.close), .d (.str p.g.left), .d (.str p.g.right), .d (.str p.g.minus), .d (.str p.g.quote), .d (.bool p.g.trains), .d (.bool p.g.lone), .d (.bool p.g.square), .d (.list 5 (List.map encToken p.l)), .d (.int .i64 p.i), .d (.int .i64 p.end_), .d (.int .i64 p.deep), .d (.int .i64 p.in_)])], 12, [], none⟩ : St)) (res := res) ?_ (fun y hy => ?_) (fun r x s' hr hx he => ?_)
  ·replace h := hs
   rcases ite_inv h with ⟨hc, h⟩ | ⟨hc, h⟩
   ·refine ct rfl hc ?_
    refine rn 5 rfl ?_
    obtain ⟨res, hk, h⟩ := bind_inv h
    rcases res with e | y
    ·refine pp (ecallp (p_grammar_parser_fail_ok hk) rfl rfl rfl rfl rfl rfl rfl rfl rfl rfl) rfl rfl ?_
     refine condQ.pan ?_
     cases h
     exact .err rfl (.pan rfl rfl)
    ·refine po (ecallb (nid' := 12) (p_grammar_parser_fail_ok hk) rfl rfl rfl rfl rfl rfl rfl rfl rfl rfl rfl rfl) rfl rfl ?_
     refine awpO_nil ?_
     refine cn rfl ?_
     cases h
     exact .ok rfl
   ·refine cf rfl hc ?_
    refine awp_skip ?_
    refine cn rfl ?_
    cases h
    exact .ok rfl
  ·subst hy
   refine seqQ.normal ?_
   refine awp_seq ?_
   refine drn (m := 24) 8 rfl rfl ?_
   obtain ⟨y, hk, h⟩ := bind_inv h
   refine pd (elget encToken (fun _ => rfl) hk rfl rfl rfl rfl rfl) rfl rfl rfl rfl rfl ?_
   refine don 3 rfl ?_
   refine dz (by kernel_rfl) ?_
   refine ra (nid' := 25) rfl ?_
   refine awp_seq ?_
   obtain ⟨res, hs, h⟩ := bind_inv h
   refine awp_sub Tryz.f40 1 (fun (r : Except (Fault × Int × Int × Int) (Node × Int × Int × Int)) => (match (generalizing := false) r with | .ok r => (CRes.ret (.d (encNode r.1)) [[.d (.list 1 (List.map D.str p.g.verbs)), .d (.list 1 (List.map D.str p.g.adverbs)), .d (.list 1 (List.map D.str p.g.behind)), .d (.str p.g.outer), .d (.str p.g.power), .d (.str p.g.open_), .d (.str p.g.close), .d (.str p.g.left), .d (.str p.g.right), .d (.str p.g.minus), .d (.str p.g.quote), .d (.bool p.g.trains), .d (.bool p.g.lone), .d (.bool p.g.square), .d (.list 5 (List.map encToken p.l)), .d (.int .i64 r.2.1), .d (.int .i64 p.end_), .d (.int .i64 r.2.2.1), .d (.int .i64 r.2.2.2)]]) | .error r => (CRes.pan (.iface 34 (encFault r.1)) [[.d (.list 1 (List.map D.str p.g.verbs)), .d (.list 1 (List.map D.str p.g.adverbs)), .d (.list 1 (List.map D.str p.g.behind)), .d (.str p.g.outer), .d (.str p.g.power), .d (.str p.g.open_), .d (.str p.g.close), .d (.str p.g.left), .d (.str p.g.right), .d (.str p.g.minus), .d (.str p.g.quote), .d (.bool p.g.trains), .d (.bool p.g.lone), .d (.bool p.g.square), .d (.list 5 (List.map encToken p.l)), .d (.int .i64 r.2.1), .d (.int .i64 p.end_), .d (.int .i64 r.2.2.1), .d (.int .i64 r.2.2.2)]]))) (fun ((n0, n1, n2, n3, n4, n5, n6, p15, p17, p18) : Int × Int × Str × (List Int) × (List Cell) × (List Node) × Int × Int × Int × Int) => (⟨[(0, .c (.ptr 0 0)), (2, .c (.ptr 1 0)), (3, .c (.ptr 22 0)), (4, .c (.ptr 24 0))], [(24, [.d (.int .i64 n0), .d (.int .i64 n1), .d (.str n2), .d (.list 1 (List.map (D.int .i64) n3)), .d (.list 3 (List.map encCell n4)), .d (.list 7 (List.map encNodeR n5)), .d (.int .i64 n6)]), (22, [.d (.int .i64 y.kind), .d (.str y.text), .d (.list 1 (List.map (D.int .i64) y.lit.shape)), .d (.list 3 (List.map encCell y.lit.cells)), .d (.int .i64 y.at_)]), (1, [.d (.int .i64 0), .d (.int .i64 0), .d (.str []), .own 1 (List.map (D.int .i64) []), .own 3 (List.map encCell []), .own 7 (List.map encNodeR []), .d (.int .i64 0)]), (0, [.d (.list 1 (List.map D.str p.g.verbs)), .d (.list 1 (List.map D.str p.g.adverbs)), .d (.list 1 (List.map D.str p.g.behind)), .d (.str p.g.outer), .d (.str p.g.power), .d (.str p.g.open_), .d (.str p.g.close), .d (.str p.g.left), .d (.str p.g.right), .d (.str p.g.minus), .d (.str p.g.quote), .d (.bool p.g.trains), .d (.bool p.g.lone), .d (.bool p.g.square), .d (.list 5 (List.map encToken p.l)), .d (.int .i64 p15), .d (.int .i64 p.end_), .d (.int .i64 p17), .d (.int .i64 p18)])], 25, [], none⟩ : St)) (res := res) ?_ (fun y hy => ?_) (fun r x s' hr hx he => ?_)
   ·replace h := hs
    refine awp_block ?_
    refine awp_seq ?_
    refine rn 4 rfl ?_
    rcases ite_inv h with ⟨hc, h⟩ | ⟨hc, h⟩
    ·refine gt rfl rfl rfl rfl hc rfl ?_
     refine on 5 rfl ?_
     refine rz ?_
     refine ct rfl rfl ?_
     refine awp_seq ?_
     refine drn (m := 31) 6 rfl rfl ?_
     refine dz (by kernel_rfl) ?_
     refine rn 8 rfl ?_
     refine awpO_nil ?_
     refine cn rfl ?_
     refine en rfl ?_
     cases h
     exact .ok rfl
    ·refine gf rfl rfl rfl rfl hc rfl ?_
     refine on 5 rfl ?_
     refine rz ?_
     rcases ite_inv h with ⟨hc, h⟩ | ⟨hc, h⟩
     ·refine ct rfl hc ?_
      refine awp_seq ?_
      refine drn (m := 31) 6 rfl rfl ?_
      refine dz (by kernel_rfl) ?_
      refine rn 8 rfl ?_
      refine awpO_nil ?_
      refine cn rfl ?_
      refine en rfl ?_
      cases h
      exact .ok rfl
     ·refine cf rfl hc ?_
      refine awp_seq ?_
      refine drn (m := 46) 4 rfl rfl ?_
      rcases ite_inv h with ⟨hc, h⟩ | ⟨hc, h⟩
      ·refine dgt rfl rfl rfl rfl hc rfl ?_
       refine don 7 rfl ?_
       rcases ite_inv h with ⟨hc, h⟩ | ⟨hc, h⟩
       ·refine dgt rfl rfl rfl rfl hc rfl ?_
        refine don 10 rfl ?_
        refine dz (by kernel_rfl) ?_
        rcases ite_inv h with ⟨hc, h⟩ | ⟨hc, h⟩
        ·refine ct rfl hc ?_
         refine ra rfl ?_
         refine rn 8 rfl ?_
         refine awpO_nil ?_
         refine cn rfl ?_
         refine cn rfl ?_
         refine en rfl ?_
         cases h
         exact .ok rfl
        ·refine cf rfl hc ?_
         refine awp_seq ?_
         refine drn (m := 67) 4 rfl rfl ?_
         rcases ite_inv h with ⟨hc, h⟩ | ⟨hc, h⟩
         ·refine dgt rfl rfl rfl rfl hc rfl ?_
          refine don 7 rfl ?_
          rcases ite_inv h with ⟨hc, h⟩ | ⟨hc, h⟩
          ·refine dgt rfl rfl rfl rfl hc rfl ?_
           refine don 10 rfl ?_
           refine dz (by kernel_rfl) ?_
           rcases ite_inv h with ⟨hc, h⟩ | ⟨hc, h⟩
           ·refine ct rfl hc ?_
            refine ra rfl ?_
            refine rn 8 rfl ?_
            refine awpO_nil ?_
            refine cn rfl ?_
            refine cn rfl ?_
            refine cn rfl ?_
            refine en rfl ?_
            cases h
            exact .ok rfl
           ·refine cf rfl hc ?_
            refine awp_seq ?_
            refine rn 4 rfl ?_
            rcases ite_inv h with ⟨hc, h⟩ | ⟨hc, h⟩
            ·refine gt rfl rfl rfl rfl hc rfl ?_
             refine on 2 rfl ?_
             obtain ⟨x, hk, h⟩ := bind_inv h
             refine po (ecall (p_core_Name_ok hk) rfl rfl rfl rfl rfl rfl rfl rfl rfl) rfl rfl ?_
             refine on 2 rfl ?_
             refine rz ?_
             rcases ite_inv h with ⟨hc, h⟩ | ⟨hc, h⟩
             ·refine ct rfl hc ?_
              refine awp_seq ?_
              refine drn (m := 73) 6 rfl rfl ?_
              refine dz (by kernel_rfl) ?_
              refine rn 8 rfl ?_
              refine awpO_nil ?_
              refine cn rfl ?_
              refine cn rfl ?_
              refine cn rfl ?_
              refine cn rfl ?_
              refine en rfl ?_
              cases h
              exact .ok rfl
             ·refine cf rfl hc ?_
              refine awp_seq ?_
              refine rn 5 rfl ?_
              obtain ⟨x1, hk, h⟩ := bind_inv h
              refine po (ecallb (nid' := 67) (p_grammar_parser_is_ok hk) rfl rfl rfl rfl rfl rfl rfl rfl rfl rfl rfl rfl) rfl rfl ?_
              refine on 1 rfl ?_
              refine rz ?_
              rcases ite_inv h with ⟨hc, h⟩ | ⟨hc, h⟩
              ·refine ct rfl hc ?_
               refine ra rfl ?_
               refine awp_seq ?_
               refine rn 1 rfl ?_
               obtain ⟨res, hk, h⟩ := bind_inv h
               rcases res with e | y
               ·obtain ⟨e2, i2, deep1, in_1⟩ := e
                refine pp (ecallp (ih_p_grammar_parser_expr _ _ hk) rfl rfl rfl rfl rfl rfl rfl rfl rfl rfl) rfl rfl ?_
                refine seqQ.pan ?_
                refine condQ.pan ?_
                refine condQ.pan ?_
                refine condQ.pan ?_
                refine condQ.pan ?_
                refine condQ.pan ?_
                refine exitQ.pan ?_
                cases h
                exact .err rfl (.pan rfl rfl)
               ·obtain ⟨x2, i, deep, in_⟩ := y
                refine po (ecallb (nid' := 67) (ih_p_grammar_parser_expr _ _ hk) rfl rfl rfl rfl rfl rfl rfl rfl rfl rfl rfl rfl) rfl rfl ?_
                refine on 1 rfl ?_
                refine rz ?_
                refine rn 1 rfl ?_
                obtain ⟨res, hk, h⟩ := bind_inv h
                rcases res with e1 | i1
                ·refine pp (ecallp (p_grammar_parser_take_ok hk) rfl rfl rfl rfl rfl rfl rfl rfl rfl rfl) rfl rfl ?_
                 refine condQ.pan ?_
                 refine condQ.pan ?_
                 refine condQ.pan ?_
                 refine condQ.pan ?_
                 refine condQ.pan ?_
                 refine exitQ.pan ?_
                 cases h
                 exact .err rfl (.pan rfl rfl)
                ·refine po (ecallb (nid' := 67) (p_grammar_parser_take_ok hk) rfl rfl rfl rfl rfl rfl rfl rfl rfl rfl rfl rfl) rfl rfl ?_
                 refine awpO_nil ?_
                 refine cn rfl ?_
                 refine cn rfl ?_
                 refine cn rfl ?_
                 refine cn rfl ?_
                 refine cn rfl ?_
                 refine en rfl ?_
                 cases h
                 exact .ok rfl
              ·refine cf rfl hc ?_
               refine rn 5 rfl ?_
               obtain ⟨res, hk, h⟩ := bind_inv h
               rcases res with e3 | y
               ·refine pp (ecallp (p_grammar_parser_fail_ok hk) rfl rfl rfl rfl rfl rfl rfl rfl rfl rfl) rfl rfl ?_
                refine condQ.pan ?_
                refine condQ.pan ?_
                refine condQ.pan ?_
                refine condQ.pan ?_
                refine condQ.pan ?_
                refine exitQ.pan ?_
                cases h
                exact .err rfl (.pan rfl rfl)
               ·refine po (ecallb (nid' := 67) (p_grammar_parser_fail_ok hk) rfl rfl rfl rfl rfl rfl rfl rfl rfl rfl rfl rfl) rfl rfl ?_
                refine awpO_nil ?_
                refine cn rfl ?_
                refine cn rfl ?_
                refine cn rfl ?_
                refine cn rfl ?_
                refine cn rfl ?_
                refine en rfl ?_
                cases h
                exact .ok rfl
            ·refine gf rfl rfl rfl rfl hc rfl ?_
             refine on 5 rfl ?_
             refine rz ?_
             refine cf rfl rfl ?_
             refine awp_seq ?_
             refine rn 5 rfl ?_
             obtain ⟨x3, hk, h⟩ := bind_inv h
             refine po (ecallb (nid' := 67) (p_grammar_parser_is_ok hk) rfl rfl rfl rfl rfl rfl rfl rfl rfl rfl rfl rfl) rfl rfl ?_
             refine on 1 rfl ?_
             refine rz ?_
             rcases ite_inv h with ⟨hc, h⟩ | ⟨hc, h⟩
             ·refine ct rfl hc ?_
              refine ra rfl ?_
              refine awp_seq ?_
              refine rn 1 rfl ?_
              obtain ⟨res, hk, h⟩ := bind_inv h
              rcases res with e | y
              ·obtain ⟨e5, i5, deep3, in_3⟩ := e
               refine pp (ecallp (ih_p_grammar_parser_expr _ _ hk) rfl rfl rfl rfl rfl rfl rfl rfl rfl rfl) rfl rfl ?_
               refine seqQ.pan ?_
               refine condQ.pan ?_
               refine condQ.pan ?_
               refine condQ.pan ?_
               refine condQ.pan ?_
               refine condQ.pan ?_
               refine exitQ.pan ?_
               cases h
               exact .err rfl (.pan rfl rfl)
              ·obtain ⟨x4, i3, deep2, in_2⟩ := y
               refine po (ecallb (nid' := 67) (ih_p_grammar_parser_expr _ _ hk) rfl rfl rfl rfl rfl rfl rfl rfl rfl rfl rfl rfl) rfl rfl ?_
               refine on 1 rfl ?_
               refine rz ?_
               refine rn 1 rfl ?_
               obtain ⟨res, hk, h⟩ := bind_inv h
               rcases res with e4 | i4
               ·refine pp (ecallp (p_grammar_parser_take_ok hk) rfl rfl rfl rfl rfl rfl rfl rfl rfl rfl) rfl rfl ?_
                refine condQ.pan ?_
                refine condQ.pan ?_
                refine condQ.pan ?_
                refine condQ.pan ?_
                refine condQ.pan ?_
                refine exitQ.pan ?_
                cases h
                exact .err rfl (.pan rfl rfl)
               ·refine po (ecallb (nid' := 67) (p_grammar_parser_take_ok hk) rfl rfl rfl rfl rfl rfl rfl rfl rfl rfl rfl rfl) rfl rfl ?_
                refine awpO_nil ?_
                refine cn rfl ?_
                refine cn rfl ?_
                refine cn rfl ?_
                refine cn rfl ?_
                refine cn rfl ?_
                refine en rfl ?_
                cases h
                exact .ok rfl
             ·refine cf rfl hc ?_
              refine rn 5 rfl ?_
              obtain ⟨res, hk, h⟩ := bind_inv h
              rcases res with e6 | y
              ·refine pp (ecallp (p_grammar_parser_fail_ok hk) rfl rfl rfl rfl rfl rfl rfl rfl rfl rfl) rfl rfl ?_
               refine condQ.pan ?_
               refine condQ.pan ?_
               refine condQ.pan ?_
               refine condQ.pan ?_
               refine condQ.pan ?_
               refine exitQ.pan ?_
               cases h
               exact .err rfl (.pan rfl rfl)
              ·refine po (ecallb (nid' := 67) (p_grammar_parser_fail_ok hk) rfl rfl rfl rfl rfl rfl rfl rfl rfl rfl rfl rfl) rfl rfl ?_
               refine awpO_nil ?_
               refine cn rfl ?_
               refine cn rfl ?_
               refine cn rfl ?_
               refine cn rfl ?_
               refine cn rfl ?_
               refine en rfl ?_
               cases h
               exact .ok rfl
          ·refine dgf rfl rfl rfl rfl hc rfl ?_
           refine don 10 rfl ?_
           refine dz (by kernel_rfl) ?_
           refine cf rfl rfl ?_
           refine awp_seq ?_
           refine rn 4 rfl ?_
           rcases ite_inv h with ⟨hc, h⟩ | ⟨hc, h⟩
           ·refine gt rfl rfl rfl rfl hc rfl ?_
            refine on 2 rfl ?_
            obtain ⟨x5, hk, h⟩ := bind_inv h
            refine po (ecall (p_core_Name_ok hk) rfl rfl rfl rfl rfl rfl rfl rfl rfl) rfl rfl ?_
            refine on 2 rfl ?_
            refine rz ?_
            rcases ite_inv h with ⟨hc, h⟩ | ⟨hc, h⟩
            ·refine ct rfl hc ?_
             refine awp_seq ?_
             refine drn (m := 73) 6 rfl rfl ?_
             refine dz (by kernel_rfl) ?_
             refine rn 8 rfl ?_
             refine awpO_nil ?_
             refine cn rfl ?_
             refine cn rfl ?_
             refine cn rfl ?_
             refine cn rfl ?_
             refine en rfl ?_
             cases h
             exact .ok rfl
            ·refine cf rfl hc ?_
             refine awp_seq ?_
             refine rn 5 rfl ?_
             obtain ⟨x6, hk, h⟩ := bind_inv h
             refine po (ecallb (nid' := 67) (p_grammar_parser_is_ok hk) rfl rfl rfl rfl rfl rfl rfl rfl rfl rfl rfl rfl) rfl rfl ?_
             refine on 1 rfl ?_
             refine rz ?_
             rcases ite_inv h with ⟨hc, h⟩ | ⟨hc, h⟩
             ·refine ct rfl hc ?_
              refine ra rfl ?_
              refine awp_seq ?_
              refine rn 1 rfl ?_
              obtain ⟨res, hk, h⟩ := bind_inv h
              rcases res with e | y
              ·obtain ⟨e8, i8, deep5, in_5⟩ := e
               refine pp (ecallp (ih_p_grammar_parser_expr _ _ hk) rfl rfl rfl rfl rfl rfl rfl rfl rfl rfl) rfl rfl ?_
               refine seqQ.pan ?_
               refine condQ.pan ?_
               refine condQ.pan ?_
               refine condQ.pan ?_
               refine condQ.pan ?_
               refine condQ.pan ?_
               refine exitQ.pan ?_
               cases h
               exact .err rfl (.pan rfl rfl)
              ·obtain ⟨x7, i6, deep4, in_4⟩ := y
               refine po (ecallb (nid' := 67) (ih_p_grammar_parser_expr _ _ hk) rfl rfl rfl rfl rfl rfl rfl rfl rfl rfl rfl rfl) rfl rfl ?_
               refine on 1 rfl ?_
               refine rz ?_
               refine rn 1 rfl ?_
               obtain ⟨res, hk, h⟩ := bind_inv h
               rcases res with e7 | i7
               ·refine pp (ecallp (p_grammar_parser_take_ok hk) rfl rfl rfl rfl rfl rfl rfl rfl rfl rfl) rfl rfl ?_
                refine condQ.pan ?_
                refine condQ.pan ?_
                refine condQ.pan ?_
                refine condQ.pan ?_
                refine condQ.pan ?_
                refine exitQ.pan ?_
                cases h
                exact .err rfl (.pan rfl rfl)
               ·refine po (ecallb (nid' := 67) (p_grammar_parser_take_ok hk) rfl rfl rfl rfl rfl rfl rfl rfl rfl rfl rfl rfl) rfl rfl ?_
                refine awpO_nil ?_
                refine cn rfl ?_
                refine cn rfl ?_
                refine cn rfl ?_
                refine cn rfl ?_
                refine cn rfl ?_
                refine en rfl ?_
                cases h
                exact .ok rfl
             ·refine cf rfl hc ?_
              refine rn 5 rfl ?_
              obtain ⟨res, hk, h⟩ := bind_inv h
              rcases res with e9 | y
              ·refine pp (ecallp (p_grammar_parser_fail_ok hk) rfl rfl rfl rfl rfl rfl rfl rfl rfl rfl) rfl rfl ?_
               refine condQ.pan ?_
               refine condQ.pan ?_
               refine condQ.pan ?_
               refine condQ.pan ?_
               refine condQ.pan ?_
               refine exitQ.pan ?_
               cases h
               exact .err rfl (.pan rfl rfl)
              ·refine po (ecallb (nid' := 67) (p_grammar_parser_fail_ok hk) rfl rfl rfl rfl rfl rfl rfl rfl rfl rfl rfl rfl) rfl rfl ?_
               refine awpO_nil ?_
               refine cn rfl ?_
               refine cn rfl ?_
               refine cn rfl ?_
               refine cn rfl ?_
               refine cn rfl ?_
               refine en rfl ?_
               cases h
               exact .ok rfl
           ·refine gf rfl rfl rfl rfl hc rfl ?_
            refine on 5 rfl ?_
            refine rz ?_
            refine cf rfl rfl ?_
            refine awp_seq ?_
            refine rn 5 rfl ?_
            obtain ⟨x8, hk, h⟩ := bind_inv h
            refine po (ecallb (nid' := 67) (p_grammar_parser_is_ok hk) rfl rfl rfl rfl rfl rfl rfl rfl rfl rfl rfl rfl) rfl rfl ?_
            refine on 1 rfl ?_
            refine rz ?_
            rcases ite_inv h with ⟨hc, h⟩ | ⟨hc, h⟩
            ·refine ct rfl hc ?_
             refine ra rfl ?_
             refine awp_seq ?_
             refine rn 1 rfl ?_
             obtain ⟨res, hk, h⟩ := bind_inv h
             rcases res with e | y
             ·obtain ⟨e11, i11, deep7, in_7⟩ := e
              refine pp (ecallp (ih_p_grammar_parser_expr _ _ hk) rfl rfl rfl rfl rfl rfl rfl rfl rfl rfl) rfl rfl ?_
              refine seqQ.pan ?_
              refine condQ.pan ?_
              refine condQ.pan ?_
              refine condQ.pan ?_
              refine condQ.pan ?_
              refine condQ.pan ?_
              refine exitQ.pan ?_
              cases h
              exact .err rfl (.pan rfl rfl)
             ·obtain ⟨x9, i9, deep6, in_6⟩ := y
              refine po (ecallb (nid' := 67) (ih_p_grammar_parser_expr _ _ hk) rfl rfl rfl rfl rfl rfl rfl rfl rfl rfl rfl rfl) rfl rfl ?_
              refine on 1 rfl ?_
              refine rz ?_
              refine rn 1 rfl ?_
              obtain ⟨res, hk, h⟩ := bind_inv h
              rcases res with e10 | i10
              ·refine pp (ecallp (p_grammar_parser_take_ok hk) rfl rfl rfl rfl rfl rfl rfl rfl rfl rfl) rfl rfl ?_
               refine condQ.pan ?_
               refine condQ.pan ?_
               refine condQ.pan ?_
               refine condQ.pan ?_
               refine condQ.pan ?_
               refine exitQ.pan ?_
               cases h
               exact .err rfl (.pan rfl rfl)
              ·refine po (ecallb (nid' := 67) (p_grammar_parser_take_ok hk) rfl rfl rfl rfl rfl rfl rfl rfl rfl rfl rfl rfl) rfl rfl ?_
               refine awpO_nil ?_
               refine cn rfl ?_
               refine cn rfl ?_
               refine cn rfl ?_
               refine cn rfl ?_
               refine cn rfl ?_
               refine en rfl ?_
               cases h
               exact .ok rfl
            ·refine cf rfl hc ?_
             refine rn 5 rfl ?_
             obtain ⟨res, hk, h⟩ := bind_inv h
             rcases res with e12 | y
             ·refine pp (ecallp (p_grammar_parser_fail_ok hk) rfl rfl rfl rfl rfl rfl rfl rfl rfl rfl) rfl rfl ?_
              refine condQ.pan ?_
              refine condQ.pan ?_
              refine condQ.pan ?_
              refine condQ.pan ?_
              refine condQ.pan ?_
              refine exitQ.pan ?_
              cases h
              exact .err rfl (.pan rfl rfl)
             ·refine po (ecallb (nid' := 67) (p_grammar_parser_fail_ok hk) rfl rfl rfl rfl rfl rfl rfl rfl rfl rfl rfl rfl) rfl rfl ?_
              refine awpO_nil ?_
              refine cn rfl ?_
              refine cn rfl ?_
              refine cn rfl ?_
              refine cn rfl ?_
              refine cn rfl ?_
              refine en rfl ?_
              cases h
              exact .ok rfl
         ·refine dgf rfl rfl rfl rfl hc rfl ?_
          refine don 17 rfl ?_
          refine dz (by kernel_rfl) ?_
          refine cf rfl rfl ?_
          refine awp_seq ?_
          refine rn 4 rfl ?_
          rcases ite_inv h with ⟨hc, h⟩ | ⟨hc, h⟩
          ·refine gt rfl rfl rfl rfl hc rfl ?_
           refine on 2 rfl ?_
           obtain ⟨x10, hk, h⟩ := bind_inv h
           refine po (ecall (p_core_Name_ok hk) rfl rfl rfl rfl rfl rfl rfl rfl rfl) rfl rfl ?_
           refine on 2 rfl ?_
           refine rz ?_
           rcases ite_inv h with ⟨hc, h⟩ | ⟨hc, h⟩
           ·refine ct rfl hc ?_
            refine awp_seq ?_
            refine drn (m := 73) 6 rfl rfl ?_
            refine dz (by kernel_rfl) ?_
            refine rn 8 rfl ?_
            refine awpO_nil ?_
            refine cn rfl ?_
            refine cn rfl ?_
            refine cn rfl ?_
            refine cn rfl ?_
            refine en rfl ?_
            cases h
            exact .ok rfl
           ·refine cf rfl hc ?_
            refine awp_seq ?_
            refine rn 5 rfl ?_
            obtain ⟨x11, hk, h⟩ := bind_inv h
            refine po (ecallb (nid' := 67) (p_grammar_parser_is_ok hk) rfl rfl rfl rfl rfl rfl rfl rfl rfl rfl rfl rfl) rfl rfl ?_
            refine on 1 rfl ?_
            refine rz ?_
            rcases ite_inv h with ⟨hc, h⟩ | ⟨hc, h⟩
            ·refine ct rfl hc ?_
             refine ra rfl ?_
             refine awp_seq ?_
             refine rn 1 rfl ?_
             obtain ⟨res, hk, h⟩ := bind_inv h
             rcases res with e | y
             ·obtain ⟨e14, i14, deep9, in_9⟩ := e
              refine pp (ecallp (ih_p_grammar_parser_expr _ _ hk) rfl rfl rfl rfl rfl rfl rfl rfl rfl rfl) rfl rfl ?_
              refine seqQ.pan ?_
              refine condQ.pan ?_
              refine condQ.pan ?_
              refine condQ.pan ?_
              refine condQ.pan ?_
              refine condQ.pan ?_
              refine exitQ.pan ?_
              cases h
              exact .err rfl (.pan rfl rfl)
             ·obtain ⟨x12, i12, deep8, in_8⟩ := y
              refine po (ecallb (nid' := 67) (ih_p_grammar_parser_expr _ _ hk) rfl rfl rfl rfl rfl rfl rfl rfl rfl rfl rfl rfl) rfl rfl ?_
              refine on 1 rfl ?_
              refine rz ?_
              refine rn 1 rfl ?_
              obtain ⟨res, hk, h⟩ := bind_inv h
              rcases res with e13 | i13
              ·refine pp (ecallp (p_grammar_parser_take_ok hk) rfl rfl rfl rfl rfl rfl rfl rfl rfl rfl) rfl rfl ?_
               refine condQ.pan ?_
               refine condQ.pan ?_
               refine condQ.pan ?_
               refine condQ.pan ?_
               refine condQ.pan ?_
               refine exitQ.pan ?_
               cases h
               exact .err rfl (.pan rfl rfl)
              ·refine po (ecallb (nid' := 67) (p_grammar_parser_take_ok hk) rfl rfl rfl rfl rfl rfl rfl rfl rfl rfl rfl rfl) rfl rfl ?_
               refine awpO_nil ?_
               refine cn rfl ?_
               refine cn rfl ?_
               refine cn rfl ?_
               refine cn rfl ?_
               refine cn rfl ?_
               refine en rfl ?_
               cases h
               exact .ok rfl
            ·refine cf rfl hc ?_
             refine rn 5 rfl ?_
             obtain ⟨res, hk, h⟩ := bind_inv h
             rcases res with e15 | y
             ·refine pp (ecallp (p_grammar_parser_fail_ok hk) rfl rfl rfl rfl rfl rfl rfl rfl rfl rfl) rfl rfl ?_
              refine condQ.pan ?_
              refine condQ.pan ?_
              refine condQ.pan ?_
              refine condQ.pan ?_
              refine condQ.pan ?_
              refine exitQ.pan ?_
              cases h
              exact .err rfl (.pan rfl rfl)
             ·refine po (ecallb (nid' := 67) (p_grammar_parser_fail_ok hk) rfl rfl rfl rfl rfl rfl rfl rfl rfl rfl rfl rfl) rfl rfl ?_
              refine awpO_nil ?_
              refine cn rfl ?_
              refine cn rfl ?_
              refine cn rfl ?_
              refine cn rfl ?_
              refine cn rfl ?_
              refine en rfl ?_
              cases h
              exact .ok rfl
          ·refine gf rfl rfl rfl rfl hc rfl ?_
           refine on 5 rfl ?_
           refine rz ?_
           refine cf rfl rfl ?_
           refine awp_seq ?_
           refine rn 5 rfl ?_
           obtain ⟨x13, hk, h⟩ := bind_inv h
           refine po (ecallb (nid' := 67) (p_grammar_parser_is_ok hk) rfl rfl rfl rfl rfl rfl rfl rfl rfl rfl rfl rfl) rfl rfl ?_
           refine on 1 rfl ?_
           refine rz ?_
           rcases ite_inv h with ⟨hc, h⟩ | ⟨hc, h⟩
           ·refine ct rfl hc ?_
            refine ra rfl ?_
            refine awp_seq ?_
            refine rn 1 rfl ?_
            obtain ⟨res, hk, h⟩ := bind_inv h
            rcases res with e | y
            ·obtain ⟨e17, i17, deep11, in_11⟩ := e
             refine pp (ecallp (ih_p_grammar_parser_expr _ _ hk) rfl rfl rfl rfl rfl rfl rfl rfl rfl rfl) rfl rfl ?_
             refine seqQ.pan ?_
             refine condQ.pan ?_
             refine condQ.pan ?_
             refine condQ.pan ?_
             refine condQ.pan ?_
             refine condQ.pan ?_
             refine exitQ.pan ?_
             cases h
             exact .err rfl (.pan rfl rfl)
            ·obtain ⟨x14, i15, deep10, in_10⟩ := y
             refine po (ecallb (nid' := 67) (ih_p_grammar_parser_expr _ _ hk) rfl rfl rfl rfl rfl rfl rfl rfl rfl rfl rfl rfl) rfl rfl ?_
             refine on 1 rfl ?_
             refine rz ?_
             refine rn 1 rfl ?_
             obtain ⟨res, hk, h⟩ := bind_inv h
             rcases res with e16 | i16
             ·refine pp (ecallp (p_grammar_parser_take_ok hk) rfl rfl rfl rfl rfl rfl rfl rfl rfl rfl) rfl rfl ?_
              refine condQ.pan ?_
              refine condQ.pan ?_
              refine condQ.pan ?_
              refine condQ.pan ?_
              refine condQ.pan ?_
              refine exitQ.pan ?_
              cases h
              exact .err rfl (.pan rfl rfl)
             ·refine po (ecallb (nid' := 67) (p_grammar_parser_take_ok hk) rfl rfl rfl rfl rfl rfl rfl rfl rfl rfl rfl rfl) rfl rfl ?_
              refine awpO_nil ?_
              refine cn rfl ?_
              refine cn rfl ?_
              refine cn rfl ?_
              refine cn rfl ?_
              refine cn rfl ?_
              refine en rfl ?_
              cases h
              exact .ok rfl
           ·refine cf rfl hc ?_
            refine rn 5 rfl ?_
            obtain ⟨res, hk, h⟩ := bind_inv h
            rcases res with e18 | y
            ·refine pp (ecallp (p_grammar_parser_fail_ok hk) rfl rfl rfl rfl rfl rfl rfl rfl rfl rfl) rfl rfl ?_
             refine condQ.pan ?_
             refine condQ.pan ?_
             refine condQ.pan ?_
             refine condQ.pan ?_
             refine condQ.pan ?_
             refine exitQ.pan ?_
             cases h
             exact .err rfl (.pan rfl rfl)
            ·refine po (ecallb (nid' := 67) (p_grammar_parser_fail_ok hk) rfl rfl rfl rfl rfl rfl rfl rfl rfl rfl rfl rfl) rfl rfl ?_
             refine awpO_nil ?_
             refine cn rfl ?_
             refine cn rfl ?_
             refine cn rfl ?_
             refine cn rfl ?_
             refine cn rfl ?_
             refine en rfl ?_
             cases h
             exact .ok rfl
       ·refine dgf rfl rfl rfl rfl hc rfl ?_
        refine don 10 rfl ?_
        refine dz (by kernel_rfl) ?_
        refine cf rfl rfl ?_
        refine awp_seq ?_
        refine drn (m := 67) 4 rfl rfl ?_
        rcases ite_inv h with ⟨hc, h⟩ | ⟨hc, h⟩
        ·refine dgt rfl rfl rfl rfl hc rfl ?_
         refine don 7 rfl ?_
         rcases ite_inv h with ⟨hc, h⟩ | ⟨hc, h⟩
         ·refine dgt rfl rfl rfl rfl hc rfl ?_
          refine don 10 rfl ?_
          refine dz (by kernel_rfl) ?_
          rcases ite_inv h with ⟨hc, h⟩ | ⟨hc, h⟩
          ·refine ct rfl hc ?_
           refine ra rfl ?_
           refine rn 8 rfl ?_
           refine awpO_nil ?_
           refine cn rfl ?_
           refine cn rfl ?_
           refine cn rfl ?_
           refine en rfl ?_
           cases h
           exact .ok rfl
          ·refine cf rfl hc ?_
           refine awp_seq ?_
           refine rn 4 rfl ?_
           rcases ite_inv h with ⟨hc, h⟩ | ⟨hc, h⟩
           ·refine gt rfl rfl rfl rfl hc rfl ?_
            refine on 2 rfl ?_
            obtain ⟨x15, hk, h⟩ := bind_inv h
            refine po (ecall (p_core_Name_ok hk) rfl rfl rfl rfl rfl rfl rfl rfl rfl) rfl rfl ?_
            refine on 2 rfl ?_
            refine rz ?_
            rcases ite_inv h with ⟨hc, h⟩ | ⟨hc, h⟩
            ·refine ct rfl hc ?_
             refine awp_seq ?_
             refine drn (m := 73) 6 rfl rfl ?_
             refine dz (by kernel_rfl) ?_
             refine rn 8 rfl ?_
             refine awpO_nil ?_
             refine cn rfl ?_
             refine cn rfl ?_
             refine cn rfl ?_
             refine cn rfl ?_
             refine en rfl ?_
             cases h
             exact .ok rfl
            ·refine cf rfl hc ?_
             refine awp_seq ?_
             refine rn 5 rfl ?_
             obtain ⟨x16, hk, h⟩ := bind_inv h
             refine po (ecallb (nid' := 67) (p_grammar_parser_is_ok hk) rfl rfl rfl rfl rfl rfl rfl rfl rfl rfl rfl rfl) rfl rfl ?_
             refine on 1 rfl ?_
             refine rz ?_
             rcases ite_inv h with ⟨hc, h⟩ | ⟨hc, h⟩
             ·refine ct rfl hc ?_
              refine ra rfl ?_
              refine awp_seq ?_
              refine rn 1 rfl ?_
              obtain ⟨res, hk, h⟩ := bind_inv h
              rcases res with e | y
              ·obtain ⟨e20, i20, deep13, in_13⟩ := e
               refine pp (ecallp (ih_p_grammar_parser_expr _ _ hk) rfl rfl rfl rfl rfl rfl rfl rfl rfl rfl) rfl rfl ?_
               refine seqQ.pan ?_
               refine condQ.pan ?_
               refine condQ.pan ?_
               refine condQ.pan ?_
               refine condQ.pan ?_
               refine condQ.pan ?_
               refine exitQ.pan ?_
               cases h
               exact .err rfl (.pan rfl rfl)
              ·obtain ⟨x17, i18, deep12, in_12⟩ := y
               refine po (ecallb (nid' := 67) (ih_p_grammar_parser_expr _ _ hk) rfl rfl rfl rfl rfl rfl rfl rfl rfl rfl rfl rfl) rfl rfl ?_
               refine on 1 rfl ?_
               refine rz ?_
               refine rn 1 rfl ?_
               obtain ⟨res, hk, h⟩ := bind_inv h
               rcases res with e19 | i19
               ·refine pp (ecallp (p_grammar_parser_take_ok hk) rfl rfl rfl rfl rfl rfl rfl rfl rfl rfl) rfl rfl ?_
                refine condQ.pan ?_
                refine condQ.pan ?_
                refine condQ.pan ?_
                refine condQ.pan ?_
                refine condQ.pan ?_
                refine exitQ.pan ?_
                cases h
                exact .err rfl (.pan rfl rfl)
               ·refine po (ecallb (nid' := 67) (p_grammar_parser_take_ok hk) rfl rfl rfl rfl rfl rfl rfl rfl rfl rfl rfl rfl) rfl rfl ?_
                refine awpO_nil ?_
                refine cn rfl ?_
                refine cn rfl ?_
                refine cn rfl ?_
                refine cn rfl ?_
                refine cn rfl ?_
                refine en rfl ?_
                cases h
                exact .ok rfl
             ·refine cf rfl hc ?_
              refine rn 5 rfl ?_
              obtain ⟨res, hk, h⟩ := bind_inv h
              rcases res with e21 | y
              ·refine pp (ecallp (p_grammar_parser_fail_ok hk) rfl rfl rfl rfl rfl rfl rfl rfl rfl rfl) rfl rfl ?_
               refine condQ.pan ?_
               refine condQ.pan ?_
               refine condQ.pan ?_
               refine condQ.pan ?_
               refine condQ.pan ?_
               refine exitQ.pan ?_
               cases h
               exact .err rfl (.pan rfl rfl)
              ·refine po (ecallb (nid' := 67) (p_grammar_parser_fail_ok hk) rfl rfl rfl rfl rfl rfl rfl rfl rfl rfl rfl rfl) rfl rfl ?_
               refine awpO_nil ?_
               refine cn rfl ?_
               refine cn rfl ?_
               refine cn rfl ?_
               refine cn rfl ?_
               refine cn rfl ?_
               refine en rfl ?_
               cases h
               exact .ok rfl
           ·refine gf rfl rfl rfl rfl hc rfl ?_
            refine on 5 rfl ?_
            refine rz ?_
            refine cf rfl rfl ?_
            refine awp_seq ?_
            refine rn 5 rfl ?_
            obtain ⟨x18, hk, h⟩ := bind_inv h
            refine po (ecallb (nid' := 67) (p_grammar_parser_is_ok hk) rfl rfl rfl rfl rfl rfl rfl rfl rfl rfl rfl rfl) rfl rfl ?_
            refine on 1 rfl ?_
            refine rz ?_
            rcases ite_inv h with ⟨hc, h⟩ | ⟨hc, h⟩
            ·refine ct rfl hc ?_
             refine ra rfl ?_
             refine awp_seq ?_
             refine rn 1 rfl ?_
             obtain ⟨res, hk, h⟩ := bind_inv h
             rcases res with e | y
             ·obtain ⟨e23, i23, deep15, in_15⟩ := e
              refine pp (ecallp (ih_p_grammar_parser_expr _ _ hk) rfl rfl rfl rfl rfl rfl rfl rfl rfl rfl) rfl rfl ?_
              refine seqQ.pan ?_
              refine condQ.pan ?_
              refine condQ.pan ?_
              refine condQ.pan ?_
              refine condQ.pan ?_
              refine condQ.pan ?_
              refine exitQ.pan ?_
              cases h
              exact .err rfl (.pan rfl rfl)
             ·obtain ⟨x19, i21, deep14, in_14⟩ := y
              refine po (ecallb (nid' := 67) (ih_p_grammar_parser_expr _ _ hk) rfl rfl rfl rfl rfl rfl rfl rfl rfl rfl rfl rfl) rfl rfl ?_
              refine on 1 rfl ?_
              refine rz ?_
              refine rn 1 rfl ?_
              obtain ⟨res, hk, h⟩ := bind_inv h
              rcases res with e22 | i22
              ·refine pp (ecallp (p_grammar_parser_take_ok hk) rfl rfl rfl rfl rfl rfl rfl rfl rfl rfl) rfl rfl ?_
               refine condQ.pan ?_
               refine condQ.pan ?_
               refine condQ.pan ?_
               refine condQ.pan ?_
               refine condQ.pan ?_
               refine exitQ.pan ?_
               cases h
               exact .err rfl (.pan rfl rfl)
              ·refine po (ecallb (nid' := 67) (p_grammar_parser_take_ok hk) rfl rfl rfl rfl rfl rfl rfl rfl rfl rfl rfl rfl) rfl rfl ?_
               refine awpO_nil ?_
               refine cn rfl ?_
               refine cn rfl ?_
               refine cn rfl ?_
               refine cn rfl ?_
               refine cn rfl ?_
               refine en rfl ?_
               cases h
               exact .ok rfl
            ·refine cf rfl hc ?_
             refine rn 5 rfl ?_
             obtain ⟨res, hk, h⟩ := bind_inv h
             rcases res with e24 | y
             ·refine pp (ecallp (p_grammar_parser_fail_ok hk) rfl rfl rfl rfl rfl rfl rfl rfl rfl rfl) rfl rfl ?_
              refine condQ.pan ?_
              refine condQ.pan ?_
              refine condQ.pan ?_
              refine condQ.pan ?_
              refine condQ.pan ?_
              refine exitQ.pan ?_
              cases h
              exact .err rfl (.pan rfl rfl)
             ·refine po (ecallb (nid' := 67) (p_grammar_parser_fail_ok hk) rfl rfl rfl rfl rfl rfl rfl rfl rfl rfl rfl rfl) rfl rfl ?_
              refine awpO_nil ?_
              refine cn rfl ?_
              refine cn rfl ?_
              refine cn rfl ?_
              refine cn rfl ?_
              refine cn rfl ?_
              refine en rfl ?_
              cases h
              exact .ok rfl
         ·refine dgf rfl rfl rfl rfl hc rfl ?_
          refine don 10 rfl ?_
          refine dz (by kernel_rfl) ?_
          refine cf rfl rfl ?_
          refine awp_seq ?_
          refine rn 4 rfl ?_
          rcases ite_inv h with ⟨hc, h⟩ | ⟨hc, h⟩
          ·refine gt rfl rfl rfl rfl hc rfl ?_
           refine on 2 rfl ?_
           obtain ⟨x20, hk, h⟩ := bind_inv h
           refine po (ecall (p_core_Name_ok hk) rfl rfl rfl rfl rfl rfl rfl rfl rfl) rfl rfl ?_
           refine on 2 rfl ?_
           refine rz ?_
           rcases ite_inv h with ⟨hc, h⟩ | ⟨hc, h⟩
           ·refine ct rfl hc ?_
            refine awp_seq ?_
            refine drn (m := 73) 6 rfl rfl ?_
            refine dz (by kernel_rfl) ?_
            refine rn 8 rfl ?_
            refine awpO_nil ?_
            refine cn rfl ?_
            refine cn rfl ?_
            refine cn rfl ?_
            refine cn rfl ?_
            refine en rfl ?_
            cases h
            exact .ok rfl
           ·refine cf rfl hc ?_
            refine awp_seq ?_
            refine rn 5 rfl ?_
            obtain ⟨x21, hk, h⟩ := bind_inv h
            refine po (ecallb (nid' := 67) (p_grammar_parser_is_ok hk) rfl rfl rfl rfl rfl rfl rfl rfl rfl rfl rfl rfl) rfl rfl ?_
            refine on 1 rfl ?_
            refine rz ?_
            rcases ite_inv h with ⟨hc, h⟩ | ⟨hc, h⟩
            ·refine ct rfl hc ?_
             refine ra rfl ?_
             refine awp_seq ?_
             refine rn 1 rfl ?_
             obtain ⟨res, hk, h⟩ := bind_inv h
             rcases res with e | y
             ·obtain ⟨e26, i26, deep17, in_17⟩ := e
              refine pp (ecallp (ih_p_grammar_parser_expr _ _ hk) rfl rfl rfl rfl rfl rfl rfl rfl rfl rfl) rfl rfl ?_
              refine seqQ.pan ?_
              refine condQ.pan ?_
              refine condQ.pan ?_
              refine condQ.pan ?_
              refine condQ.pan ?_
              refine condQ.pan ?_
              refine exitQ.pan ?_
              cases h
              exact .err rfl (.pan rfl rfl)
             ·obtain ⟨x22, i24, deep16, in_16⟩ := y
              refine po (ecallb (nid' := 67) (ih_p_grammar_parser_expr _ _ hk) rfl rfl rfl rfl rfl rfl rfl rfl rfl rfl rfl rfl) rfl rfl ?_
              refine on 1 rfl ?_
              refine rz ?_
              refine rn 1 rfl ?_
              obtain ⟨res, hk, h⟩ := bind_inv h
              rcases res with e25 | i25
              ·refine pp (ecallp (p_grammar_parser_take_ok hk) rfl rfl rfl rfl rfl rfl rfl rfl rfl rfl) rfl rfl ?_
               refine condQ.pan ?_
               refine condQ.pan ?_
               refine condQ.pan ?_
               refine condQ.pan ?_
               refine condQ.pan ?_
               refine exitQ.pan ?_
               cases h
               exact .err rfl (.pan rfl rfl)
              ·refine po (ecallb (nid' := 67) (p_grammar_parser_take_ok hk) rfl rfl rfl rfl rfl rfl rfl rfl rfl rfl rfl rfl) rfl rfl ?_
               refine awpO_nil ?_
               refine cn rfl ?_
               refine cn rfl ?_
               refine cn rfl ?_
               refine cn rfl ?_
               refine cn rfl ?_
               refine en rfl ?_
               cases h
               exact .ok rfl
            ·refine cf rfl hc ?_
             refine rn 5 rfl ?_
             obtain ⟨res, hk, h⟩ := bind_inv h
             rcases res with e27 | y
             ·refine pp (ecallp (p_grammar_parser_fail_ok hk) rfl rfl rfl rfl rfl rfl rfl rfl rfl rfl) rfl rfl ?_
              refine condQ.pan ?_
              refine condQ.pan ?_
              refine condQ.pan ?_
              refine condQ.pan ?_
              refine condQ.pan ?_
              refine exitQ.pan ?_
              cases h
              exact .err rfl (.pan rfl rfl)
             ·refine po (ecallb (nid' := 67) (p_grammar_parser_fail_ok hk) rfl rfl rfl rfl rfl rfl rfl rfl rfl rfl rfl rfl) rfl rfl ?_
              refine awpO_nil ?_
              refine cn rfl ?_
              refine cn rfl ?_
              refine cn rfl ?_
              refine cn rfl ?_
              refine cn rfl ?_
              refine en rfl ?_
              cases h
              exact .ok rfl
          ·refine gf rfl rfl rfl rfl hc rfl ?_
           refine on 5 rfl ?_
           refine rz ?_
           refine cf rfl rfl ?_
           refine awp_seq ?_
           refine rn 5 rfl ?_
           obtain ⟨x23, hk, h⟩ := bind_inv h
           refine po (ecallb (nid' := 67) (p_grammar_parser_is_ok hk) rfl rfl rfl rfl rfl rfl rfl rfl rfl rfl rfl rfl) rfl rfl ?_
           refine on 1 rfl ?_
           refine rz ?_
           rcases ite_inv h with ⟨hc, h⟩ | ⟨hc, h⟩
           ·refine ct rfl hc ?_
            refine ra rfl ?_
            refine awp_seq ?_
            refine rn 1 rfl ?_
            obtain ⟨res, hk, h⟩ := bind_inv h
            rcases res with e | y
            ·obtain ⟨e29, i29, deep19, in_19⟩ := e
             refine pp (ecallp (ih_p_grammar_parser_expr _ _ hk) rfl rfl rfl rfl rfl rfl rfl rfl rfl rfl) rfl rfl ?_
             refine seqQ.pan ?_
             refine condQ.pan ?_
             refine condQ.pan ?_
             refine condQ.pan ?_
             refine condQ.pan ?_
             refine condQ.pan ?_
             refine exitQ.pan ?_
             cases h
             exact .err rfl (.pan rfl rfl)
            ·obtain ⟨x24, i27, deep18, in_18⟩ := y
             refine po (ecallb (nid' := 67) (ih_p_grammar_parser_expr _ _ hk) rfl rfl rfl rfl rfl rfl rfl rfl rfl rfl rfl rfl) rfl rfl ?_
             refine on 1 rfl ?_
             refine rz ?_
             refine rn 1 rfl ?_
             obtain ⟨res, hk, h⟩ := bind_inv h
             rcases res with e28 | i28
             ·refine pp (ecallp (p_grammar_parser_take_ok hk) rfl rfl rfl rfl rfl rfl rfl rfl rfl rfl) rfl rfl ?_
              refine condQ.pan ?_
              refine condQ.pan ?_
              refine condQ.pan ?_
              refine condQ.pan ?_
              refine condQ.pan ?_
              refine exitQ.pan ?_
              cases h
              exact .err rfl (.pan rfl rfl)
             ·refine po (ecallb (nid' := 67) (p_grammar_parser_take_ok hk) rfl rfl rfl rfl rfl rfl rfl rfl rfl rfl rfl rfl) rfl rfl ?_
              refine awpO_nil ?_
              refine cn rfl ?_
              refine cn rfl ?_
              refine cn rfl ?_
              refine cn rfl ?_
              refine cn rfl ?_
              refine en rfl ?_
              cases h
              exact .ok rfl
           ·refine cf rfl hc ?_
            refine rn 5 rfl ?_
            obtain ⟨res, hk, h⟩ := bind_inv h
            rcases res with e30 | y
            ·refine pp (ecallp (p_grammar_parser_fail_ok hk) rfl rfl rfl rfl rfl rfl rfl rfl rfl rfl) rfl rfl ?_
             refine condQ.pan ?_
             refine condQ.pan ?_
             refine condQ.pan ?_
             refine condQ.pan ?_
             refine condQ.pan ?_
             refine exitQ.pan ?_
             cases h
             exact .err rfl (.pan rfl rfl)
            ·refine po (ecallb (nid' := 67) (p_grammar_parser_fail_ok hk) rfl rfl rfl rfl rfl rfl rfl rfl rfl rfl rfl rfl) rfl rfl ?_
             refine awpO_nil ?_
             refine cn rfl ?_
             refine cn rfl ?_
             refine cn rfl ?_
             refine cn rfl ?_
             refine cn rfl ?_
             refine en rfl ?_
             cases h
             exact .ok rfl
        ·refine dgf rfl rfl rfl rfl hc rfl ?_
         refine don 17 rfl ?_
         refine dz (by kernel_rfl) ?_
         refine cf rfl rfl ?_
         refine awp_seq ?_
         refine rn 4 rfl ?_
         rcases ite_inv h with ⟨hc, h⟩ | ⟨hc, h⟩
         ·refine gt rfl rfl rfl rfl hc rfl ?_
          refine on 2 rfl ?_
          obtain ⟨x25, hk, h⟩ := bind_inv h
          refine po (ecall (p_core_Name_ok hk) rfl rfl rfl rfl rfl rfl rfl rfl rfl) rfl rfl ?_
          refine on 2 rfl ?_
          refine rz ?_
          rcases ite_inv h with ⟨hc, h⟩ | ⟨hc, h⟩
          ·refine ct rfl hc ?_
           refine awp_seq ?_
           refine drn (m := 73) 6 rfl rfl ?_
           refine dz (by kernel_rfl) ?_
           refine rn 8 rfl ?_
           refine awpO_nil ?_
           refine cn rfl ?_
           refine cn rfl ?_
           refine cn rfl ?_
           refine cn rfl ?_
           refine en rfl ?_
           cases h
           exact .ok rfl
          ·refine cf rfl hc ?_
           refine awp_seq ?_
           refine rn 5 rfl ?_
           obtain ⟨x26, hk, h⟩ := bind_inv h
           refine po (ecallb (nid' := 67) (p_grammar_parser_is_ok hk) rfl rfl rfl rfl rfl rfl rfl rfl rfl rfl rfl rfl) rfl rfl ?_
           refine on 1 rfl ?_
           refine rz ?_
           rcases ite_inv h with ⟨hc, h⟩ | ⟨hc, h⟩
           ·refine ct rfl hc ?_
            refine ra rfl ?_
            refine awp_seq ?_
            refine rn 1 rfl ?_
            obtain ⟨res, hk, h⟩ := bind_inv h
            rcases res with e | y
            ·obtain ⟨e32, i32, deep21, in_21⟩ := e
             refine pp (ecallp (ih_p_grammar_parser_expr _ _ hk) rfl rfl rfl rfl rfl rfl rfl rfl rfl rfl) rfl rfl ?_
             refine seqQ.pan ?_
             refine condQ.pan ?_
             refine condQ.pan ?_
             refine condQ.pan ?_
             refine condQ.pan ?_
             refine condQ.pan ?_
             refine exitQ.pan ?_
             cases h
             exact .err rfl (.pan rfl rfl)
            ·obtain ⟨x27, i30, deep20, in_20⟩ := y
             refine po (ecallb (nid' := 67) (ih_p_grammar_parser_expr _ _ hk) rfl rfl rfl rfl rfl rfl rfl rfl rfl rfl rfl rfl) rfl rfl ?_
             refine on 1 rfl ?_
             refine rz ?_
             refine rn 1 rfl ?_
             obtain ⟨res, hk, h⟩ := bind_inv h
             rcases res with e31 | i31
             ·refine pp (ecallp (p_grammar_parser_take_ok hk) rfl rfl rfl rfl rfl rfl rfl rfl rfl rfl) rfl rfl ?_
              refine condQ.pan ?_
              refine condQ.pan ?_
              refine condQ.pan ?_
              refine condQ.pan ?_
              refine condQ.pan ?_
              refine exitQ.pan ?_
              cases h
              exact .err rfl (.pan rfl rfl)
             ·refine po (ecallb (nid' := 67) (p_grammar_parser_take_ok hk) rfl rfl rfl rfl rfl rfl rfl rfl rfl rfl rfl rfl) rfl rfl ?_
              refine awpO_nil ?_
              refine cn rfl ?_
              refine cn rfl ?_
              refine cn rfl ?_
              refine cn rfl ?_
              refine cn rfl ?_
              refine en rfl ?_
              cases h
              exact .ok rfl
           ·refine cf rfl hc ?_
            refine rn 5 rfl ?_
            obtain ⟨res, hk, h⟩ := bind_inv h
            rcases res with e33 | y
            ·refine pp (ecallp (p_grammar_parser_fail_ok hk) rfl rfl rfl rfl rfl rfl rfl rfl rfl rfl) rfl rfl ?_
             refine condQ.pan ?_
             refine condQ.pan ?_
             refine condQ.pan ?_
             refine condQ.pan ?_
             refine condQ.pan ?_
             refine exitQ.pan ?_
             cases h
             exact .err rfl (.pan rfl rfl)
            ·refine po (ecallb (nid' := 67) (p_grammar_parser_fail_ok hk) rfl rfl rfl rfl rfl rfl rfl rfl rfl rfl rfl rfl) rfl rfl ?_
             refine awpO_nil ?_
             refine cn rfl ?_
             refine cn rfl ?_
             refine cn rfl ?_
             refine cn rfl ?_
             refine cn rfl ?_
             refine en rfl ?_
             cases h
             exact .ok rfl
         ·refine gf rfl rfl rfl rfl hc rfl ?_
          refine on 5 rfl ?_
          refine rz ?_
          refine cf rfl rfl ?_
          refine awp_seq ?_
          refine rn 5 rfl ?_
          obtain ⟨x28, hk, h⟩ := bind_inv h
          refine po (ecallb (nid' := 67) (p_grammar_parser_is_ok hk) rfl rfl rfl rfl rfl rfl rfl rfl rfl rfl rfl rfl) rfl rfl ?_
          refine on 1 rfl ?_
          refine rz ?_
          rcases ite_inv h with ⟨hc, h⟩ | ⟨hc, h⟩
          ·refine ct rfl hc ?_
           refine ra rfl ?_
           refine awp_seq ?_
           refine rn 1 rfl ?_
           obtain ⟨res, hk, h⟩ := bind_inv h
           rcases res with e | y
           ·obtain ⟨e35, i35, deep23, in_23⟩ := e
            refine pp (ecallp (ih_p_grammar_parser_expr _ _ hk) rfl rfl rfl rfl rfl rfl rfl rfl rfl rfl) rfl rfl ?_
            refine seqQ.pan ?_
            refine condQ.pan ?_
            refine condQ.pan ?_
            refine condQ.pan ?_
            refine condQ.pan ?_
            refine condQ.pan ?_
            refine exitQ.pan ?_
            cases h
            exact .err rfl (.pan rfl rfl)
           ·obtain ⟨x29, i33, deep22, in_22⟩ := y
            refine po (ecallb (nid' := 67) (ih_p_grammar_parser_expr _ _ hk) rfl rfl rfl rfl rfl rfl rfl rfl rfl rfl rfl rfl) rfl rfl ?_
            refine on 1 rfl ?_
            refine rz ?_
            refine rn 1 rfl ?_
            obtain ⟨res, hk, h⟩ := bind_inv h
            rcases res with e34 | i34
            ·refine pp (ecallp (p_grammar_parser_take_ok hk) rfl rfl rfl rfl rfl rfl rfl rfl rfl rfl) rfl rfl ?_
             refine condQ.pan ?_
             refine condQ.pan ?_
             refine condQ.pan ?_
             refine condQ.pan ?_
             refine condQ.pan ?_
             refine exitQ.pan ?_
             cases h
             exact .err rfl (.pan rfl rfl)
            ·refine po (ecallb (nid' := 67) (p_grammar_parser_take_ok hk) rfl rfl rfl rfl rfl rfl rfl rfl rfl rfl rfl rfl) rfl rfl ?_
             refine awpO_nil ?_
             refine cn rfl ?_
             refine cn rfl ?_
             refine cn rfl ?_
             refine cn rfl ?_
             refine cn rfl ?_
             refine en rfl ?_
             cases h
             exact .ok rfl
          ·refine cf rfl hc ?_
           refine rn 5 rfl ?_
           obtain ⟨res, hk, h⟩ := bind_inv h
           rcases res with e36 | y
           ·refine pp (ecallp (p_grammar_parser_fail_ok hk) rfl rfl rfl rfl rfl rfl rfl rfl rfl rfl) rfl rfl ?_
            refine condQ.pan ?_
            refine condQ.pan ?_
            refine condQ.pan ?_
            refine condQ.pan ?_
            refine condQ.pan ?_
            refine exitQ.pan ?_
            cases h
            exact .err rfl (.pan rfl rfl)
           ·refine po (ecallb (nid' := 67) (p_grammar_parser_fail_ok hk) rfl rfl rfl rfl rfl rfl rfl rfl rfl rfl rfl rfl) rfl rfl ?_
            refine awpO_nil ?_
            refine cn rfl ?_
            refine cn rfl ?_
            refine cn rfl ?_
            refine cn rfl ?_
            refine cn rfl ?_
            refine en rfl ?_
            cases h
            exact .ok rfl
      ·refine dgf rfl rfl rfl rfl hc rfl ?_
       refine don 17 rfl ?_
       refine dz (by kernel_rfl) ?_
       refine cf rfl rfl ?_
       refine awp_seq ?_
       refine drn (m := 67) 4 rfl rfl ?_
       rcases ite_inv h with ⟨hc, h⟩ | ⟨hc, h⟩
       ·refine dgt rfl rfl rfl rfl hc rfl ?_
        refine don 7 rfl ?_
        rcases ite_inv h with ⟨hc, h⟩ | ⟨hc, h⟩
        ·refine dgt rfl rfl rfl rfl hc rfl ?_
         refine don 10 rfl ?_
         refine dz (by kernel_rfl) ?_
         rcases ite_inv h with ⟨hc, h⟩ | ⟨hc, h⟩
         ·refine ct rfl hc ?_
          refine ra rfl ?_
          refine rn 8 rfl ?_
          refine awpO_nil ?_
          refine cn rfl ?_
          refine cn rfl ?_
          refine cn rfl ?_
          refine en rfl ?_
          cases h
          exact .ok rfl
         ·refine cf rfl hc ?_
          refine awp_seq ?_
          refine rn 4 rfl ?_
          rcases ite_inv h with ⟨hc, h⟩ | ⟨hc, h⟩
          ·refine gt rfl rfl rfl rfl hc rfl ?_
           refine on 2 rfl ?_
           obtain ⟨x30, hk, h⟩ := bind_inv h
           refine po (ecall (p_core_Name_ok hk) rfl rfl rfl rfl rfl rfl rfl rfl rfl) rfl rfl ?_
           refine on 2 rfl ?_
           refine rz ?_
           rcases ite_inv h with ⟨hc, h⟩ | ⟨hc, h⟩
           ·refine ct rfl hc ?_
            refine awp_seq ?_
            refine drn (m := 73) 6 rfl rfl ?_
            refine dz (by kernel_rfl) ?_
            refine rn 8 rfl ?_
            refine awpO_nil ?_
            refine cn rfl ?_
            refine cn rfl ?_
            refine cn rfl ?_
            refine cn rfl ?_
            refine en rfl ?_
            cases h
            exact .ok rfl
           ·refine cf rfl hc ?_
            refine awp_seq ?_
            refine rn 5 rfl ?_
            obtain ⟨x31, hk, h⟩ := bind_inv h
            refine po (ecallb (nid' := 67) (p_grammar_parser_is_ok hk) rfl rfl rfl rfl rfl rfl rfl rfl rfl rfl rfl rfl) rfl rfl ?_
            refine on 1 rfl ?_
            refine rz ?_
            rcases ite_inv h with ⟨hc, h⟩ | ⟨hc, h⟩
            ·refine ct rfl hc ?_
             refine ra rfl ?_
             refine awp_seq ?_
             refine rn 1 rfl ?_
             obtain ⟨res, hk, h⟩ := bind_inv h
             rcases res with e | y
             ·obtain ⟨e38, i38, deep25, in_25⟩ := e
              refine pp (ecallp (ih_p_grammar_parser_expr _ _ hk) rfl rfl rfl rfl rfl rfl rfl rfl rfl rfl) rfl rfl ?_
              refine seqQ.pan ?_
              refine condQ.pan ?_
              refine condQ.pan ?_
              refine condQ.pan ?_
              refine condQ.pan ?_
              refine condQ.pan ?_
              refine exitQ.pan ?_
              cases h
              exact .err rfl (.pan rfl rfl)
             ·obtain ⟨x32, i36, deep24, in_24⟩ := y
              refine po (ecallb (nid' := 67) (ih_p_grammar_parser_expr _ _ hk) rfl rfl rfl rfl rfl rfl rfl rfl rfl rfl rfl rfl) rfl rfl ?_
              refine on 1 rfl ?_
              refine rz ?_
              refine rn 1 rfl ?_
              obtain ⟨res, hk, h⟩ := bind_inv h
              rcases res with e37 | i37
              ·refine pp (ecallp (p_grammar_parser_take_ok hk) rfl rfl rfl rfl rfl rfl rfl rfl rfl rfl) rfl rfl ?_
               refine condQ.pan ?_
               refine condQ.pan ?_
               refine condQ.pan ?_
               refine condQ.pan ?_
               refine condQ.pan ?_
               refine exitQ.pan ?_
               cases h
               exact .err rfl (.pan rfl rfl)
              ·refine po (ecallb (nid' := 67) (p_grammar_parser_take_ok hk) rfl rfl rfl rfl rfl rfl rfl rfl rfl rfl rfl rfl) rfl rfl ?_
               refine awpO_nil ?_
               refine cn rfl ?_
               refine cn rfl ?_
               refine cn rfl ?_
               refine cn rfl ?_
               refine cn rfl ?_
               refine en rfl ?_
               cases h
               exact .ok rfl
            ·refine cf rfl hc ?_
             refine rn 5 rfl ?_
             obtain ⟨res, hk, h⟩ := bind_inv h
             rcases res with e39 | y
             ·refine pp (ecallp (p_grammar_parser_fail_ok hk) rfl rfl rfl rfl rfl rfl rfl rfl rfl rfl) rfl rfl ?_
              refine condQ.pan ?_
              refine condQ.pan ?_
              refine condQ.pan ?_
              refine condQ.pan ?_
              refine condQ.pan ?_
              refine exitQ.pan ?_
              cases h
              exact .err rfl (.pan rfl rfl)
             ·refine po (ecallb (nid' := 67) (p_grammar_parser_fail_ok hk) rfl rfl rfl rfl rfl rfl rfl rfl rfl rfl rfl rfl) rfl rfl ?_
              refine awpO_nil ?_
              refine cn rfl ?_
              refine cn rfl ?_
              refine cn rfl ?_
              refine cn rfl ?_
              refine cn rfl ?_
              refine en rfl ?_
              cases h
              exact .ok rfl
          ·refine gf rfl rfl rfl rfl hc rfl ?_
           refine on 5 rfl ?_
           refine rz ?_
           refine cf rfl rfl ?_
           refine awp_seq ?_
           refine rn 5 rfl ?_
           obtain ⟨x33, hk, h⟩ := bind_inv h
           refine po (ecallb (nid' := 67) (p_grammar_parser_is_ok hk) rfl rfl rfl rfl rfl rfl rfl rfl rfl rfl rfl rfl) rfl rfl ?_
           refine on 1 rfl ?_
           refine rz ?_
           rcases ite_inv h with ⟨hc, h⟩ | ⟨hc, h⟩
           ·refine ct rfl hc ?_
            refine ra rfl ?_
            refine awp_seq ?_
            refine rn 1 rfl ?_
            obtain ⟨res, hk, h⟩ := bind_inv h
            rcases res with e | y
            ·obtain ⟨e41, i41, deep27, in_27⟩ := e
             refine pp (ecallp (ih_p_grammar_parser_expr _ _ hk) rfl rfl rfl rfl rfl rfl rfl rfl rfl rfl) rfl rfl ?_
             refine seqQ.pan ?_
             refine condQ.pan ?_
             refine condQ.pan ?_
             refine condQ.pan ?_
             refine condQ.pan ?_
             refine condQ.pan ?_
             refine exitQ.pan ?_
             cases h
             exact .err rfl (.pan rfl rfl)
            ·obtain ⟨x34, i39, deep26, in_26⟩ := y
             refine po (ecallb (nid' := 67) (ih_p_grammar_parser_expr _ _ hk) rfl rfl rfl rfl rfl rfl rfl rfl rfl rfl rfl rfl) rfl rfl ?_
             refine on 1 rfl ?_
             refine rz ?_
             refine rn 1 rfl ?_
             obtain ⟨res, hk, h⟩ := bind_inv h
             rcases res with e40 | i40
             ·refine pp (ecallp (p_grammar_parser_take_ok hk) rfl rfl rfl rfl rfl rfl rfl rfl rfl rfl) rfl rfl ?_
              refine condQ.pan ?_
              refine condQ.pan ?_
              refine condQ.pan ?_
              refine condQ.pan ?_
              refine condQ.pan ?_
              refine exitQ.pan ?_
              cases h
              exact .err rfl (.pan rfl rfl)
             ·refine po (ecallb (nid' := 67) (p_grammar_parser_take_ok hk) rfl rfl rfl rfl rfl rfl rfl rfl rfl rfl rfl rfl) rfl rfl ?_
              refine awpO_nil ?_
              refine cn rfl ?_
              refine cn rfl ?_
              refine cn rfl ?_
              refine cn rfl ?_
              refine cn rfl ?_
              refine en rfl ?_
              cases h
              exact .ok rfl
           ·refine cf rfl hc ?_
            refine rn 5 rfl ?_
            obtain ⟨res, hk, h⟩ := bind_inv h
            rcases res with e42 | y
            ·refine pp (ecallp (p_grammar_parser_fail_ok hk) rfl rfl rfl rfl rfl rfl rfl rfl rfl rfl) rfl rfl ?_
             refine condQ.pan ?_
             refine condQ.pan ?_
             refine condQ.pan ?_
             refine condQ.pan ?_
             refine condQ.pan ?_
             refine exitQ.pan ?_
             cases h
             exact .err rfl (.pan rfl rfl)
            ·refine po (ecallb (nid' := 67) (p_grammar_parser_fail_ok hk) rfl rfl rfl rfl rfl rfl rfl rfl rfl rfl rfl rfl) rfl rfl ?_
             refine awpO_nil ?_
             refine cn rfl ?_
             refine cn rfl ?_
             refine cn rfl ?_
             refine cn rfl ?_
             refine cn rfl ?_
             refine en rfl ?_
             cases h
             exact .ok rfl
        ·refine dgf rfl rfl rfl rfl hc rfl ?_
         refine don 10 rfl ?_
         refine dz (by kernel_rfl) ?_
         refine cf rfl rfl ?_
         refine awp_seq ?_
         refine rn 4 rfl ?_
         rcases ite_inv h with ⟨hc, h⟩ | ⟨hc, h⟩
         ·refine gt rfl rfl rfl rfl hc rfl ?_
          refine on 2 rfl ?_
          obtain ⟨x35, hk, h⟩ := bind_inv h
          refine po (ecall (p_core_Name_ok hk) rfl rfl rfl rfl rfl rfl rfl rfl rfl) rfl rfl ?_
          refine on 2 rfl ?_
          refine rz ?_
          rcases ite_inv h with ⟨hc, h⟩ | ⟨hc, h⟩
          ·refine ct rfl hc ?_
           refine awp_seq ?_
           refine drn (m := 73) 6 rfl rfl ?_
           refine dz (by kernel_rfl) ?_
           refine rn 8 rfl ?_
           refine awpO_nil ?_
           refine cn rfl ?_
           refine cn rfl ?_
           refine cn rfl ?_
           refine cn rfl ?_
           refine en rfl ?_
           cases h
           exact .ok rfl
          ·refine cf rfl hc ?_
           refine awp_seq ?_
           refine rn 5 rfl ?_
           obtain ⟨x36, hk, h⟩ := bind_inv h
           refine po (ecallb (nid' := 67) (p_grammar_parser_is_ok hk) rfl rfl rfl rfl rfl rfl rfl rfl rfl rfl rfl rfl) rfl rfl ?_
           refine on 1 rfl ?_
           refine rz ?_
           rcases ite_inv h with ⟨hc, h⟩ | ⟨hc, h⟩
           ·refine ct rfl hc ?_
            refine ra rfl ?_
            refine awp_seq ?_
            refine rn 1 rfl ?_
            obtain ⟨res, hk, h⟩ := bind_inv h
            rcases res with e | y
            ·obtain ⟨e44, i44, deep29, in_29⟩ := e
             refine pp (ecallp (ih_p_grammar_parser_expr _ _ hk) rfl rfl rfl rfl rfl rfl rfl rfl rfl rfl) rfl rfl ?_
             refine seqQ.pan ?_
             refine condQ.pan ?_
             refine condQ.pan ?_
             refine condQ.pan ?_
             refine condQ.pan ?_
             refine condQ.pan ?_
             refine exitQ.pan ?_
             cases h
             exact .err rfl (.pan rfl rfl)
            ·obtain ⟨x37, i42, deep28, in_28⟩ := y
             refine po (ecallb (nid' := 67) (ih_p_grammar_parser_expr _ _ hk) rfl rfl rfl rfl rfl rfl rfl rfl rfl rfl rfl rfl) rfl rfl ?_
             refine on 1 rfl ?_
             refine rz ?_
             refine rn 1 rfl ?_
             obtain ⟨res, hk, h⟩ := bind_inv h
             rcases res with e43 | i43
             ·refine pp (ecallp (p_grammar_parser_take_ok hk) rfl rfl rfl rfl rfl rfl rfl rfl rfl rfl) rfl rfl ?_
              refine condQ.pan ?_
              refine condQ.pan ?_
              refine condQ.pan ?_
              refine condQ.pan ?_
              refine condQ.pan ?_
              refine exitQ.pan ?_
              cases h
              exact .err rfl (.pan rfl rfl)
             ·refine po (ecallb (nid' := 67) (p_grammar_parser_take_ok hk) rfl rfl rfl rfl rfl rfl rfl rfl rfl rfl rfl rfl) rfl rfl ?_
              refine awpO_nil ?_
              refine cn rfl ?_
              refine cn rfl ?_
              refine cn rfl ?_
              refine cn rfl ?_
              refine cn rfl ?_
              refine en rfl ?_
              cases h
              exact .ok rfl
           ·refine cf rfl hc ?_
            refine rn 5 rfl ?_
            obtain ⟨res, hk, h⟩ := bind_inv h
            rcases res with e45 | y
            ·refine pp (ecallp (p_grammar_parser_fail_ok hk) rfl rfl rfl rfl rfl rfl rfl rfl rfl rfl) rfl rfl ?_
             refine condQ.pan ?_
             refine condQ.pan ?_
             refine condQ.pan ?_
             refine condQ.pan ?_
             refine condQ.pan ?_
             refine exitQ.pan ?_
             cases h
             exact .err rfl (.pan rfl rfl)
            ·refine po (ecallb (nid' := 67) (p_grammar_parser_fail_ok hk) rfl rfl rfl rfl rfl rfl rfl rfl rfl rfl rfl rfl) rfl rfl ?_
             refine awpO_nil ?_
             refine cn rfl ?_
             refine cn rfl ?_
             refine cn rfl ?_
             refine cn rfl ?_
             refine cn rfl ?_
             refine en rfl ?_
             cases h
             exact .ok rfl
         ·refine gf rfl rfl rfl rfl hc rfl ?_
          refine on 5 rfl ?_
          refine rz ?_
          refine cf rfl rfl ?_
          refine awp_seq ?_
          refine rn 5 rfl ?_
          obtain ⟨x38, hk, h⟩ := bind_inv h
          refine po (ecallb (nid' := 67) (p_grammar_parser_is_ok hk) rfl rfl rfl rfl rfl rfl rfl rfl rfl rfl rfl rfl) rfl rfl ?_
          refine on 1 rfl ?_
          refine rz ?_
          rcases ite_inv h with ⟨hc, h⟩ | ⟨hc, h⟩
          ·refine ct rfl hc ?_
           refine ra rfl ?_
           refine awp_seq ?_
           refine rn 1 rfl ?_
           obtain ⟨res, hk, h⟩ := bind_inv h
           rcases res with e | y
           ·obtain ⟨e47, i47, deep31, in_31⟩ := e
            refine pp (ecallp (ih_p_grammar_parser_expr _ _ hk) rfl rfl rfl rfl rfl rfl rfl rfl rfl rfl) rfl rfl ?_
            refine seqQ.pan ?_
            refine condQ.pan ?_
            refine condQ.pan ?_
            refine condQ.pan ?_
            refine condQ.pan ?_
            refine condQ.pan ?_
            refine exitQ.pan ?_
            cases h
            exact .err rfl (.pan rfl rfl)
           ·obtain ⟨x39, i45, deep30, in_30⟩ := y
            refine po (ecallb (nid' := 67) (ih_p_grammar_parser_expr _ _ hk) rfl rfl rfl rfl rfl rfl rfl rfl rfl rfl rfl rfl) rfl rfl ?_
            refine on 1 rfl ?_
            refine rz ?_
            refine rn 1 rfl ?_
            obtain ⟨res, hk, h⟩ := bind_inv h
            rcases res with e46 | i46
            ·refine pp (ecallp (p_grammar_parser_take_ok hk) rfl rfl rfl rfl rfl rfl rfl rfl rfl rfl) rfl rfl ?_
             refine condQ.pan ?_
             refine condQ.pan ?_
             refine condQ.pan ?_
             refine condQ.pan ?_
             refine condQ.pan ?_
             refine exitQ.pan ?_
             cases h
             exact .err rfl (.pan rfl rfl)
            ·refine po (ecallb (nid' := 67) (p_grammar_parser_take_ok hk) rfl rfl rfl rfl rfl rfl rfl rfl rfl rfl rfl rfl) rfl rfl ?_
             refine awpO_nil ?_
             refine cn rfl ?_
             refine cn rfl ?_
             refine cn rfl ?_
             refine cn rfl ?_
             refine cn rfl ?_
             refine en rfl ?_
             cases h
             exact .ok rfl
          ·refine cf rfl hc ?_
           refine rn 5 rfl ?_
           obtain ⟨res, hk, h⟩ := bind_inv h
           rcases res with e48 | y
           ·refine pp (ecallp (p_grammar_parser_fail_ok hk) rfl rfl rfl rfl rfl rfl rfl rfl rfl rfl) rfl rfl ?_
            refine condQ.pan ?_
            refine condQ.pan ?_
            refine condQ.pan ?_
            refine condQ.pan ?_
            refine condQ.pan ?_
            refine exitQ.pan ?_
            cases h
            exact .err rfl (.pan rfl rfl)
           ·refine po (ecallb (nid' := 67) (p_grammar_parser_fail_ok hk) rfl rfl rfl rfl rfl rfl rfl rfl rfl rfl rfl rfl) rfl rfl ?_
            refine awpO_nil ?_
            refine cn rfl ?_
            refine cn rfl ?_
            refine cn rfl ?_
            refine cn rfl ?_
            refine cn rfl ?_
            refine en rfl ?_
            cases h
            exact .ok rfl
       ·refine dgf rfl rfl rfl rfl hc rfl ?_
        refine don 17 rfl ?_
        refine dz (by kernel_rfl) ?_
        refine cf rfl rfl ?_
        refine awp_seq ?_
        refine rn 4 rfl ?_
        rcases ite_inv h with ⟨hc, h⟩ | ⟨hc, h⟩
        ·refine gt rfl rfl rfl rfl hc rfl ?_
         refine on 2 rfl ?_
         obtain ⟨x40, hk, h⟩ := bind_inv h
         refine po (ecall (p_core_Name_ok hk) rfl rfl rfl rfl rfl rfl rfl rfl rfl) rfl rfl ?_
         refine on 2 rfl ?_
         refine rz ?_
         rcases ite_inv h with ⟨hc, h⟩ | ⟨hc, h⟩
         ·refine ct rfl hc ?_
          refine awp_seq ?_
          refine drn (m := 73) 6 rfl rfl ?_
          refine dz (by kernel_rfl) ?_
          refine rn 8 rfl ?_
          refine awpO_nil ?_
          refine cn rfl ?_
          refine cn rfl ?_
          refine cn rfl ?_
          refine cn rfl ?_
          refine en rfl ?_
          cases h
          exact .ok rfl
         ·refine cf rfl hc ?_
          refine awp_seq ?_
          refine rn 5 rfl ?_
          obtain ⟨x41, hk, h⟩ := bind_inv h
          refine po (ecallb (nid' := 67) (p_grammar_parser_is_ok hk) rfl rfl rfl rfl rfl rfl rfl rfl rfl rfl rfl rfl) rfl rfl ?_
          refine on 1 rfl ?_
          refine rz ?_
          rcases ite_inv h with ⟨hc, h⟩ | ⟨hc, h⟩
          ·refine ct rfl hc ?_
           refine ra rfl ?_
           refine awp_seq ?_
           refine rn 1 rfl ?_
           obtain ⟨res, hk, h⟩ := bind_inv h
           rcases res with e | y
           ·obtain ⟨e50, i50, deep33, in_33⟩ := e
            refine pp (ecallp (ih_p_grammar_parser_expr _ _ hk) rfl rfl rfl rfl rfl rfl rfl rfl rfl rfl) rfl rfl ?_
            refine seqQ.pan ?_
            refine condQ.pan ?_
            refine condQ.pan ?_
            refine condQ.pan ?_
            refine condQ.pan ?_
            refine condQ.pan ?_
            refine exitQ.pan ?_
            cases h
            exact .err rfl (.pan rfl rfl)
           ·obtain ⟨x42, i48, deep32, in_32⟩ := y
            refine po (ecallb (nid' := 67) (ih_p_grammar_parser_expr _ _ hk) rfl rfl rfl rfl rfl rfl rfl rfl rfl rfl rfl rfl) rfl rfl ?_
            refine on 1 rfl ?_
            refine rz ?_
            refine rn 1 rfl ?_
            obtain ⟨res, hk, h⟩ := bind_inv h
            rcases res with e49 | i49
            ·refine pp (ecallp (p_grammar_parser_take_ok hk) rfl rfl rfl rfl rfl rfl rfl rfl rfl rfl) rfl rfl ?_
             refine condQ.pan ?_
             refine condQ.pan ?_
             refine condQ.pan ?_
             refine condQ.pan ?_
             refine condQ.pan ?_
             refine exitQ.pan ?_
             cases h
             exact .err rfl (.pan rfl rfl)
            ·refine po (ecallb (nid' := 67) (p_grammar_parser_take_ok hk) rfl rfl rfl rfl rfl rfl rfl rfl rfl rfl rfl rfl) rfl rfl ?_
             refine awpO_nil ?_
             refine cn rfl ?_
             refine cn rfl ?_
             refine cn rfl ?_
             refine cn rfl ?_
             refine cn rfl ?_
             refine en rfl ?_
             cases h
             exact .ok rfl
          ·refine cf rfl hc ?_
           refine rn 5 rfl ?_
           obtain ⟨res, hk, h⟩ := bind_inv h
           rcases res with e51 | y
           ·refine pp (ecallp (p_grammar_parser_fail_ok hk) rfl rfl rfl rfl rfl rfl rfl rfl rfl rfl) rfl rfl ?_
            refine condQ.pan ?_
            refine condQ.pan ?_
            refine condQ.pan ?_
            refine condQ.pan ?_
            refine condQ.pan ?_
            refine exitQ.pan ?_
            cases h
            exact .err rfl (.pan rfl rfl)
           ·refine po (ecallb (nid' := 67) (p_grammar_parser_fail_ok hk) rfl rfl rfl rfl rfl rfl rfl rfl rfl rfl rfl rfl) rfl rfl ?_
            refine awpO_nil ?_
            refine cn rfl ?_
            refine cn rfl ?_
            refine cn rfl ?_
            refine cn rfl ?_
            refine cn rfl ?_
            refine en rfl ?_
            cases h
            exact .ok rfl
        ·refine gf rfl rfl rfl rfl hc rfl ?_
         refine on 5 rfl ?_
         refine rz ?_
         refine cf rfl rfl ?_
         refine awp_seq ?_
         refine rn 5 rfl ?_
         obtain ⟨x43, hk, h⟩ := bind_inv h
         refine po (ecallb (nid' := 67) (p_grammar_parser_is_ok hk) rfl rfl rfl rfl rfl rfl rfl rfl rfl rfl rfl rfl) rfl rfl ?_
         refine on 1 rfl ?_
         refine rz ?_
         rcases ite_inv h with ⟨hc, h⟩ | ⟨hc, h⟩
         ·refine ct rfl hc ?_
          refine ra rfl ?_
          refine awp_seq ?_
          refine rn 1 rfl ?_
          obtain ⟨res, hk, h⟩ := bind_inv h
          rcases res with e | y
          ·obtain ⟨e53, i53, deep35, in_35⟩ := e
           refine pp (ecallp (ih_p_grammar_parser_expr _ _ hk) rfl rfl rfl rfl rfl rfl rfl rfl rfl rfl) rfl rfl ?_
           refine seqQ.pan ?_
           refine condQ.pan ?_
           refine condQ.pan ?_
           refine condQ.pan ?_
           refine condQ.pan ?_
           refine condQ.pan ?_
           refine exitQ.pan ?_
           cases h
           exact .err rfl (.pan rfl rfl)
          ·obtain ⟨x44, i51, deep34, in_34⟩ := y
           refine po (ecallb (nid' := 67) (ih_p_grammar_parser_expr _ _ hk) rfl rfl rfl rfl rfl rfl rfl rfl rfl rfl rfl rfl) rfl rfl ?_
           refine on 1 rfl ?_
           refine rz ?_
           refine rn 1 rfl ?_
           obtain ⟨res, hk, h⟩ := bind_inv h
           rcases res with e52 | i52
           ·refine pp (ecallp (p_grammar_parser_take_ok hk) rfl rfl rfl rfl rfl rfl rfl rfl rfl rfl) rfl rfl ?_
            refine condQ.pan ?_
            refine condQ.pan ?_
            refine condQ.pan ?_
            refine condQ.pan ?_
            refine condQ.pan ?_
            refine exitQ.pan ?_
            cases h
            exact .err rfl (.pan rfl rfl)
           ·refine po (ecallb (nid' := 67) (p_grammar_parser_take_ok hk) rfl rfl rfl rfl rfl rfl rfl rfl rfl rfl rfl rfl) rfl rfl ?_
            refine awpO_nil ?_
            refine cn rfl ?_
            refine cn rfl ?_
            refine cn rfl ?_
            refine cn rfl ?_
            refine cn rfl ?_
            refine en rfl ?_
            cases h
            exact .ok rfl
         ·refine cf rfl hc ?_
          refine rn 5 rfl ?_
          obtain ⟨res, hk, h⟩ := bind_inv h
          rcases res with e54 | y
          ·refine pp (ecallp (p_grammar_parser_fail_ok hk) rfl rfl rfl rfl rfl rfl rfl rfl rfl rfl) rfl rfl ?_
           refine condQ.pan ?_
           refine condQ.pan ?_
           refine condQ.pan ?_
           refine condQ.pan ?_
           refine condQ.pan ?_
           refine exitQ.pan ?_
           cases h
           exact .err rfl (.pan rfl rfl)
          ·refine po (ecallb (nid' := 67) (p_grammar_parser_fail_ok hk) rfl rfl rfl rfl rfl rfl rfl rfl rfl rfl rfl rfl) rfl rfl ?_
           refine awpO_nil ?_
           refine cn rfl ?_
           refine cn rfl ?_
           refine cn rfl ?_
           refine cn rfl ?_
           refine cn rfl ?_
           refine en rfl ?_
           cases h
           exact .ok rfl
   ·subst hy
    obtain ⟨n0, n1, n2, n3, n4, n5, n6, p15, p17, p18⟩ := y
    refine seqQ.normal ?_
    refine awp_seq ?_
    obtain ⟨res, hs, h⟩ := bind_inv h
    refine awp_sub Tryz.f40 1 (fun (r : Except (Fault × Int × Int × Int) (Node × Int × Int × Int)) => (match (generalizing := false) r with | .ok r => (CRes.ret (.d (encNode r.1)) [[.d (.list 1 (List.map D.str p.g.verbs)), .d (.list 1 (List.map D.str p.g.adverbs)), .d (.list 1 (List.map D.str p.g.behind)), .d (.str p.g.outer), .d (.str p.g.power), .d (.str p.g.open_), .d (.str p.g.close), .d (.str p.g.left), .d (.str p.g.right), .d (.str p.g.minus), .d (.str p.g.quote), .d (.bool p.g.trains), .d (.bool p.g.lone), .d (.bool p.g.square), .d (.list 5 (List.map encToken p.l)), .d (.int .i64 r.2.1), .d (.int .i64 p.end_), .d (.int .i64 r.2.2.1), .d (.int .i64 r.2.2.2)]]) | .error r => (CRes.pan (.iface 34 (encFault r.1)) [[.d (.list 1 (List.map D.str p.g.verbs)), .d (.list 1 (List.map D.str p.g.adverbs)), .d (.list 1 (List.map D.str p.g.behind)), .d (.str p.g.outer), .d (.str p.g.power), .d (.str p.g.open_), .d (.str p.g.close), .d (.str p.g.left), .d (.str p.g.right), .d (.str p.g.minus), .d (.str p.g.quote), .d (.bool p.g.trains), .d (.bool p.g.lone), .d (.bool p.g.square), .d (.list 5 (List.map encToken p.l)), .d (.int .i64 r.2.1), .d (.int .i64 p.end_), .d (.int .i64 r.2.2.1), .d (.int .i64 r.2.2.2)]]))) (fun ((n02, n12, n22, n32, n42, n52, n62, c15, c17, c18) : Int × Int × Str × (List Int) × (List Cell) × (List Node) × Int × Int × Int × Int) => (⟨[(2, .c (.ptr 1 0)), (4, .c (.ptr 24 0))], [(24, [.d (.int .i64 n02), .d (.int .i64 n12), .d (.str n22), .d (.list 1 (List.map (D.int .i64) n32)), .d (.list 3 (List.map encCell n42)), .d (.list 7 (List.map encNodeR n52)), .d (.int .i64 n62)]), (22, [.d (.int .i64 y.kind), .d (.str y.text), .d (.list 1 (List.map (D.int .i64) y.lit.shape)), .d (.list 3 (List.map encCell y.lit.cells)), .d (.int .i64 y.at_)]), (1, [.d (.int .i64 0), .d (.int .i64 0), .d (.str []), .own 1 (List.map (D.int .i64) []), .own 3 (List.map encCell []), .own 7 (List.map encNodeR []), .d (.int .i64 0)]), (0, [.d (.list 1 (List.map D.str p.g.verbs)), .d (.list 1 (List.map D.str p.g.adverbs)), .d (.list 1 (List.map D.str p.g.behind)), .d (.str p.g.outer), .d (.str p.g.power), .d (.str p.g.open_), .d (.str p.g.close), .d (.str p.g.left), .d (.str p.g.right), .d (.str p.g.minus), .d (.str p.g.quote), .d (.bool p.g.trains), .d (.bool p.g.lone), .d (.bool p.g.square), .d (.list 5 (List.map encToken p.l)), .d (.int .i64 c15), .d (.int .i64 p.end_), .d (.int .i64 c17), .d (.int .i64 c18)])], 25, [], none⟩ : St)) (res := res) ?_ (fun y hy => ?_) (fun r x s' hr hx he => ?_)
    ·replace h := hs
     refine awp_block ?_
     refine awp_loop ?_
     exact awpL_at rfl rfl (ih_p_grammar_parser_operand_l0 _ _ h)
    ·subst hy
     obtain ⟨n02, n12, n22, n32, n42, n52, n62, c15, c17, c18⟩ := y
     refine seqQ.normal ?_
     refine ra rfl ?_
     refine awp_ret ?_
     cases h
     exact .ret rfl rfl
    ·subst hr
     refine seqQ.out hx ?_
     cases h
     exact he
   ·subst hr
    refine seqQ.out hx ?_
    cases h
    exact he
  ·subst hr
   refine seqQ.out hx ?_
   cases h
   exact he
 ·rintro p_grammar_parser_expr' p_grammar_parser_operand_l0' ih_p_grammar_parser_expr ih_p_grammar_parser_operand_l0 ⟨p, y, n01, n11, n21, n31, n41, n51, n61, p151, p171, p181⟩ res h
  refine lg rfl ?_
  refine awp_seq ?_
  refine awp_seq ?_
  refine rn 6 rfl ?_
  rcases ite_inv h with ⟨hc, h⟩ | ⟨hc, h⟩
  ·refine gt rfl rfl rfl rfl hc rfl ?_
   refine on 5 rfl ?_
   obtain ⟨x45, hk, h⟩ := bind_inv h
   refine po (ecallb (nid' := 25) (p_grammar_parser_is_ok hk) rfl rfl rfl rfl rfl rfl rfl rfl rfl rfl rfl rfl) rfl rfl ?_
   refine on 1 rfl ?_
   refine rz ?_
   rcases ite_inv h with ⟨hc, h⟩ | ⟨hc, h⟩
   ·refine ct rfl hc ?_
    refine awp_skip ?_
    refine cn rfl ?_
    refine seqQ.normal ?_
    refine awp_block ?_
    refine ra rfl ?_
    refine awp_seq ?_
    refine rn 1 rfl ?_
    obtain ⟨res, hk, h⟩ := bind_inv h
    rcases res with e | y
    ·obtain ⟨e56, i56, deep37, in_37⟩ := e
     refine pp (ecallp (ih_p_grammar_parser_expr _ _ hk) rfl rfl rfl rfl rfl rfl rfl rfl rfl rfl) rfl rfl ?_
     refine seqQ.pan ?_
     refine exitQ.pan ?_
     refine loopQ.pan ?_
     refine exitQ.pan ?_
     cases h
     exact .err rfl (.pan rfl rfl)
    ·obtain ⟨x46, i54, deep36, in_36⟩ := y
     refine po (ecallb (nid' := 25) (ih_p_grammar_parser_expr _ _ hk) rfl rfl rfl rfl rfl rfl rfl rfl rfl rfl rfl rfl) rfl rfl ?_
     refine on (nid' := 26) 2 rfl ?_
     refine rz ?_
     refine awp_seq ?_
     refine rn 1 rfl ?_
     obtain ⟨res, hk, h⟩ := bind_inv h
     rcases res with e55 | i55
     ·refine pp (ecallp (p_grammar_parser_take_ok hk) rfl rfl rfl rfl rfl rfl rfl rfl rfl rfl) rfl rfl ?_
      refine seqQ.pan ?_
      refine exitQ.pan ?_
      refine loopQ.pan ?_
      refine exitQ.pan ?_
      cases h
      exact .err rfl (.pan rfl rfl)
     ·refine po (ecallb (nid' := 26) (p_grammar_parser_take_ok hk) rfl rfl rfl rfl rfl rfl rfl rfl rfl rfl rfl rfl) rfl rfl ?_
      refine rz ?_
      refine rn 4 rfl ?_
      refine po (erw' (show V.c (.own 7 [encNode (Node.mk n01 n11 n21 (Arr.mk n31 n41) n51 n61), encNode x46]) = V.c (.own 7 (List.map encNodeR [(Node.mk n01 n11 n21 (Arr.mk n31 n41) n51 n61), x46])) from by simp only [List.map_cons, List.map_nil, encNodeR_eq]) (eplain rfl)) rfl rfl ?_
      refine on 2 rfl ?_
      refine awpO_nil ?_
      refine en rfl ?_
      refine loopQ.normal ?_
      exact awpL_at rfl rfl (ih_p_grammar_parser_operand_l0 _ _ h)
   ·refine cf rfl hc ?_
    refine awp_exit ?_
    refine condQ.exit ?_
    refine seqQ.exit ?_
    refine loopQ.exit ?_
    refine eh rfl ?_
    cases h
    exact .ok rfl
  ·refine gf rfl rfl rfl rfl hc rfl ?_
   refine on 7 rfl ?_
   refine rz ?_
   refine cf rfl rfl ?_
   refine awp_exit ?_
   refine condQ.exit ?_
   refine seqQ.exit ?_
   refine loopQ.exit ?_
   refine eh rfl ?_
   cases h
   exact .ok rfl
 ·rintro p_grammar_parser_base' ih_p_grammar_parser_base ⟨behind, p⟩ res h
  refine aval_start (tm := [(0, .c (.ptr 0 0)), (1, .d (.bool behind))]) (hp := [(0, [.d (.list 1 (List.map D.str p.g.verbs)), .d (.list 1 (List.map D.str p.g.adverbs)), .d (.list 1 (List.map D.str p.g.behind)), .d (.str p.g.outer), .d (.str p.g.power), .d (.str p.g.open_), .d (.str p.g.close), .d (.str p.g.left), .d (.str p.g.right), .d (.str p.g.minus), .d (.str p.g.quote), .d (.bool p.g.trains), .d (.bool p.g.lone), .d (.bool p.g.square), .d (.list 5 (List.map encToken p.l)), .d (.int .i64 p.i), .d (.int .i64 p.end_), .d (.int .i64 p.deep), .d (.int .i64 p.in_)])]) (n := 1) rfl Tryz.func39 rfl rfl rfl rfl rfl rfl ?_
  refine ra (nid' := 3) rfl ?_
  refine awp_seq ?_
  refine rn 1 rfl ?_
  obtain ⟨res, hk, h⟩ := bind_inv h
  rcases res with e | deep
  ·obtain ⟨e1, deep5⟩ := e
   refine pp (ecallp (p_grammar_parser_down_ok hk) rfl rfl rfl rfl rfl rfl rfl rfl rfl rfl) rfl rfl ?_
   refine seqQ.pan ?_
   cases h
   exact .pan rfl rfl
  ·refine po (ecallb (nid' := 3) (p_grammar_parser_down_ok hk) rfl rfl rfl rfl rfl rfl rfl rfl rfl rfl rfl rfl) rfl rfl ?_
   refine rz ?_
   refine awp_seq ?_
   refine rn 1 rfl ?_
   refine pdef (fun _ => rfl) rfl rfl ?_
   refine rz ?_
   refine awp_seq ?_
   refine rn 1 rfl ?_
   obtain ⟨at_, hk, h⟩ := bind_inv h
   refine po (ecallb (nid' := 3) (p_grammar_parser_here_ok hk) rfl rfl rfl rfl rfl rfl rfl rfl rfl rfl rfl rfl) rfl rfl ?_
   refine on 1 rfl ?_
   refine rz ?_
   refine awp_seq ?_
   refine drn (m := 15) 10 rfl rfl ?_
   obtain ⟨outer, hk, h⟩ := bind_inv h
   refine pd (ecallb (nid' := 15) (p_grammar_parser_is_ok hk) rfl rfl rfl rfl rfl rfl rfl rfl rfl rfl rfl rfl) rfl rfl rfl rfl rfl ?_
   refine don 1 rfl ?_
   refine dz (by kernel_rfl) ?_
   refine awp_seq ?_
   refine ra rfl ?_
   obtain ⟨⟨behind1, c15⟩, hs, h⟩ := bind_inv h
   refine awp_nrm (fun ((behind1, c15) : Bool × Int) => (⟨[(1, .d (.bool behind1)), (2, .c (.ptr 1 0)), (4, .c (.ptr 2 0)), (5, .d (.int .i64 at_)), (6, .d (.bool outer))], [(2, [.d (.int .i64 0), .d (.int .i64 0), .d (.str []), .own 1 (List.map (D.int .i64) []), .own 3 (List.map encCell []), .own 7 (List.map encNodeR []), .d (.int .i64 0)]), (1, [.ptr 0 0]), (0, [.d (.list 1 (List.map D.str p.g.verbs)), .d (.list 1 (List.map D.str p.g.adverbs)), .d (.list 1 (List.map D.str p.g.behind)), .d (.str p.g.outer), .d (.str p.g.power), .d (.str p.g.open_), .d (.str p.g.close), .d (.str p.g.left), .d (.str p.g.right), .d (.str p.g.minus), .d (.str p.g.quote), .d (.bool p.g.trains), .d (.bool p.g.lone), .d (.bool p.g.square), .d (.list 5 (List.map encToken p.l)), .d (.int .i64 c15), .d (.int .i64 p.end_), .d (.int .i64 deep), .d (.int .i64 p.in_)])], 15, [(66, [1])], none⟩ : St)) (y := (behind1, c15)) ?_ ?_
   ·replace h := hs
    rcases ite_inv h with ⟨hc, h⟩ | ⟨hc, h⟩
    ·refine ct rfl hc ?_
     refine ra rfl ?_
     refine rn 1 rfl ?_
     refine awpO_nil ?_
     refine cn rfl ?_
     cases h
     exact .ok rfl
    ·refine cf rfl hc ?_
     refine awp_skip ?_
     refine cn rfl ?_
     cases h
     exact .ok rfl
   ·refine seqQ.normal ?_
    refine awp_seq ?_
    refine rn 2 rfl ?_
    obtain ⟨res, hk, h⟩ := bind_inv h
    rcases res with e | y
    ·obtain ⟨e, i1, deep3, in_1⟩ := e
     refine pp (ecallp (ih_p_grammar_parser_base _ _ hk) rfl rfl rfl rfl rfl rfl rfl rfl rfl rfl) rfl rfl ?_
     refine seqQ.pan ?_
     obtain ⟨deep4, hk, h⟩ := bind_inv h
     cases h
     exact .dpan rfl (rdc (nid' := 15) (p_grammar_parser_function_1_ok hk) (recsF_of Tryz.func66 rfl rfl) rfl rfl rfl rfl rfl rfl rfl rfl .nil) rfl
    ·obtain ⟨x, i, deep1, in_⟩ := y
     refine po (ecallb (nid' := 15) (ih_p_grammar_parser_base _ _ hk) rfl rfl rfl rfl rfl rfl rfl rfl rfl rfl rfl rfl) rfl rfl ?_
     refine on (nid' := 16) 2 rfl ?_
     refine rz ?_
     refine awp_seq ?_
     refine ra rfl ?_
     obtain ⟨⟨f0, f1, f2, f3, f4, f5, f6⟩, hs, h⟩ := bind_inv h
     refine awp_nrm (fun ((f0, f1, f2, f3, f4, f5, f6) : Int × Int × Str × (List Int) × (List Cell) × (List Node) × Int) => (⟨[(2, .c (.ptr 1 0)), (4, .c (.ptr 2 0)), (5, .d (.int .i64 at_)), (7, .c (.ptr 15 0))], [(15, [.d (.int .i64 f0), .d (.int .i64 f1), .d (.str f2), .d (.list 1 (List.map (D.int .i64) f3)), .d (.list 3 (List.map encCell f4)), .d (.list 7 (List.map encNodeR f5)), .d (.int .i64 f6)]), (2, [.d (.int .i64 0), .d (.int .i64 0), .d (.str []), .own 1 (List.map (D.int .i64) []), .own 3 (List.map encCell []), .own 7 (List.map encNodeR []), .d (.int .i64 0)]), (1, [.ptr 0 0]), (0, [.d (.list 1 (List.map D.str p.g.verbs)), .d (.list 1 (List.map D.str p.g.adverbs)), .d (.list 1 (List.map D.str p.g.behind)), .d (.str p.g.outer), .d (.str p.g.power), .d (.str p.g.open_), .d (.str p.g.close), .d (.str p.g.left), .d (.str p.g.right), .d (.str p.g.minus), .d (.str p.g.quote), .d (.bool p.g.trains), .d (.bool p.g.lone), .d (.bool p.g.square), .d (.list 5 (List.map encToken p.l)), .d (.int .i64 i), .d (.int .i64 p.end_), .d (.int .i64 deep1), .d (.int .i64 in_)])], 16, [(66, [1])], none⟩ : St)) (y := (f0, f1, f2, f3, f4, f5, f6)) ?_ ?_
     ·replace h := hs
      rcases ite_inv h with ⟨hc, h⟩ | ⟨hc, h⟩
      ·refine ct rfl hc ?_
       refine rn 2 rfl ?_
       refine po (erw' (show V.c (.own 7 [encNode x]) = V.c (.own 7 (List.map encNodeR [x])) from by simp only [List.map_cons, List.map_nil, encNodeR_eq]) (eplain rfl)) rfl rfl ?_
       refine on 2 rfl ?_
       refine awpO_nil ?_
       refine cn rfl ?_
       cases h
       exact .ok rfl
      ·refine cf rfl hc ?_
       refine awp_skip ?_
       refine cn rfl ?_
       cases h
       exact .ok rfl
     ·refine seqQ.normal ?_
      obtain ⟨res, hs, h⟩ := bind_inv h
      refine awp_sub Tryz.f39 1 (fun (r : Except (Fault × Int × Int × Int) (Node × Int × Int × Int)) => (match (generalizing := false) r with | .ok r => (CRes.ret (.d (encNode r.1)) [[.d (.list 1 (List.map D.str p.g.verbs)), .d (.list 1 (List.map D.str p.g.adverbs)), .d (.list 1 (List.map D.str p.g.behind)), .d (.str p.g.outer), .d (.str p.g.power), .d (.str p.g.open_), .d (.str p.g.close), .d (.str p.g.left), .d (.str p.g.right), .d (.str p.g.minus), .d (.str p.g.quote), .d (.bool p.g.trains), .d (.bool p.g.lone), .d (.bool p.g.square), .d (.list 5 (List.map encToken p.l)), .d (.int .i64 r.2.1), .d (.int .i64 p.end_), .d (.int .i64 r.2.2.1), .d (.int .i64 r.2.2.2)]]) | .error r => (CRes.pan (.iface 34 (encFault r.1)) [[.d (.list 1 (List.map D.str p.g.verbs)), .d (.list 1 (List.map D.str p.g.adverbs)), .d (.list 1 (List.map D.str p.g.behind)), .d (.str p.g.outer), .d (.str p.g.power), .d (.str p.g.open_), .d (.str p.g.close), .d (.str p.g.left), .d (.str p.g.right), .d (.str p.g.minus), .d (.str p.g.quote), .d (.bool p.g.trains), .d (.bool p.g.lone), .d (.bool p.g.square), .d (.list 5 (List.map encToken p.l)), .d (.int .i64 r.2.1), .d (.int .i64 p.end_), .d (.int .i64 r.2.2.1), .d (.int .i64 r.2.2.2)]]))) (fun (_ : Unit) => (⟨[], [], 0, [], none⟩ : St)) (res := res) ?_ (fun y hy => ?_) (fun r x s' hr hx he => ?_)
      ·replace h := hs
       refine awp_block ?_
       refine awp_loop ?_
       exact awpL_at rfl rfl (p_grammar_parser_function_l0_ih _ _ h)
      ·subst hy; cases h
      ·subst hr
       cases h
       exact he
 ·rintro p_grammar_parser_base_l0' p_grammar_parser_lambda' ih_p_grammar_parser_base_l0 ih_p_grammar_parser_lambda ⟨behind, p⟩ res h
  refine aval_start (tm := [(0, .c (.ptr 0 0)), (1, .d (.bool behind))]) (hp := [(0, [.d (.list 1 (List.map D.str p.g.verbs)), .d (.list 1 (List.map D.str p.g.adverbs)), .d (.list 1 (List.map D.str p.g.behind)), .d (.str p.g.outer), .d (.str p.g.power), .d (.str p.g.open_), .d (.str p.g.close), .d (.str p.g.left), .d (.str p.g.right), .d (.str p.g.minus), .d (.str p.g.quote), .d (.bool p.g.trains), .d (.bool p.g.lone), .d (.bool p.g.square), .d (.list 5 (List.map encToken p.l)), .d (.int .i64 p.i), .d (.int .i64 p.end_), .d (.int .i64 p.deep), .d (.int .i64 p.in_)])]) (n := 1) rfl Tryz.func67 rfl rfl rfl rfl rfl rfl ?_
  refine ra (nid' := 2) rfl ?_
  refine awp_seq ?_
  refine rn 1 rfl ?_
  obtain ⟨at_, hk, h⟩ := bind_inv h
  refine po (ecallb (nid' := 2) (p_grammar_parser_here_ok hk) rfl rfl rfl rfl rfl rfl rfl rfl rfl rfl rfl rfl) rfl rfl ?_
  refine on 1 rfl ?_
  refine rz ?_
  refine awp_seq ?_
  refine awp_block ?_
  refine awp_seq ?_
  refine drn (m := 14) 10 rfl rfl ?_
  obtain ⟨x, hk, h⟩ := bind_inv h
  refine pd (ecallb (nid' := 14) (p_grammar_parser_is_ok hk) rfl rfl rfl rfl rfl rfl rfl rfl rfl rfl rfl rfl) rfl rfl rfl rfl rfl ?_
  refine don 1 rfl ?_
  refine dz (by kernel_rfl) ?_
  rcases ite_inv h with ⟨hc, h⟩ | ⟨hc, h⟩
  ·refine ct rfl hc ?_
   refine awp_seq ?_
   refine rn 1 rfl ?_
   obtain ⟨res, hk, h⟩ := bind_inv h
   rcases res with e | y
   ·obtain ⟨e, i1, deep1, in_1⟩ := e
    refine pp (ecallp (ih_p_grammar_parser_lambda _ _ hk) rfl rfl rfl rfl rfl rfl rfl rfl rfl rfl) rfl rfl ?_
    refine seqQ.pan ?_
    refine condQ.pan ?_
    refine exitQ.pan ?_
    refine seqQ.pan ?_
    cases h
    exact .pan rfl rfl
   ·obtain ⟨x1, i, deep, in_⟩ := y
    refine po (ecallb (nid' := 14) (ih_p_grammar_parser_lambda _ _ hk) rfl rfl rfl rfl rfl rfl rfl rfl rfl rfl rfl rfl) rfl rfl ?_
    refine on 1 rfl ?_
    refine rz ?_
    refine awp_ret ?_
    refine condQ.ret ?_
    refine exitQ.ret ?_
    refine seqQ.ret ?_
    cases h
    exact .ret rfl rfl
  ·refine cf rfl hc ?_
   refine awp_seq ?_
   refine rn 5 rfl ?_
   obtain ⟨x2, hk, h⟩ := bind_inv h
   refine po (ecallb (nid' := 14) (p_grammar_parser_is_ok hk) rfl rfl rfl rfl rfl rfl rfl rfl rfl rfl rfl rfl) rfl rfl ?_
   refine on 1 rfl ?_
   refine rz ?_
   rcases ite_inv h with ⟨hc, h⟩ | ⟨hc, h⟩
   ·refine ct rfl hc ?_
    refine ra rfl ?_
    refine ra rfl ?_
    refine awp_seq ?_
    obtain ⟨res, hs, h⟩ := bind_inv h
    refine awp_sub Tryz.f67 1 (fun (r : Except (Fault × Int × Int × Int) (Node × Int × Int × Int)) => (match (generalizing := false) r with | .ok r => (CRes.ret (.d (encNode r.1)) [[.d (.list 1 (List.map D.str p.g.verbs)), .d (.list 1 (List.map D.str p.g.adverbs)), .d (.list 1 (List.map D.str p.g.behind)), .d (.str p.g.outer), .d (.str p.g.power), .d (.str p.g.open_), .d (.str p.g.close), .d (.str p.g.left), .d (.str p.g.right), .d (.str p.g.minus), .d (.str p.g.quote), .d (.bool p.g.trains), .d (.bool p.g.lone), .d (.bool p.g.square), .d (.list 5 (List.map encToken p.l)), .d (.int .i64 r.2.1), .d (.int .i64 p.end_), .d (.int .i64 r.2.2.1), .d (.int .i64 r.2.2.2)]]) | .error r => (CRes.pan (.iface 34 (encFault r.1)) [[.d (.list 1 (List.map D.str p.g.verbs)), .d (.list 1 (List.map D.str p.g.adverbs)), .d (.list 1 (List.map D.str p.g.behind)), .d (.str p.g.outer), .d (.str p.g.power), .d (.str p.g.open_), .d (.str p.g.close), .d (.str p.g.left), .d (.str p.g.right), .d (.str p.g.minus), .d (.str p.g.quote), .d (.bool p.g.trains), .d (.bool p.g.lone), .d (.bool p.g.square), .d (.list 5 (List.map encToken p.l)), .d (.int .i64 r.2.1), .d (.int .i64 p.end_), .d (.int .i64 r.2.2.1), .d (.int .i64 r.2.2.2)]]))) (fun ((l2, p151, p171, p181) : (List Node) × Int × Int × Int) => (⟨[(0, .c (.ptr 0 0)), (4, .c (.ptr 1 0)), (5, .d (.int .i64 at_)), (6, .c (.own 7 (List.map encNodeR l2)))], [(1, [.d (.int .i64 0), .d (.int .i64 0), .d (.str []), .own 1 (List.map (D.int .i64) []), .own 3 (List.map encCell []), .own 7 (List.map encNodeR []), .d (.int .i64 0)]), (0, [.d (.list 1 (List.map D.str p.g.verbs)), .d (.list 1 (List.map D.str p.g.adverbs)), .d (.list 1 (List.map D.str p.g.behind)), .d (.str p.g.outer), .d (.str p.g.power), .d (.str p.g.open_), .d (.str p.g.close), .d (.str p.g.left), .d (.str p.g.right), .d (.str p.g.minus), .d (.str p.g.quote), .d (.bool p.g.trains), .d (.bool p.g.lone), .d (.bool p.g.square), .d (.list 5 (List.map encToken p.l)), .d (.int .i64 p151), .d (.int .i64 p.end_), .d (.int .i64 p171), .d (.int .i64 p181)])], 14, [], none⟩ : St)) (res := res) ?_ (fun y hy => ?_) (fun r x s' hr hx he => ?_)
    ·replace h := hs
     refine awp_block ?_
     refine awp_loop ?_
     exact awpL_at rfl rfl (ih_p_grammar_parser_base_l0 _ _ h at_)
    ·subst hy
     obtain ⟨l2, p151, p171, p181⟩ := y
     refine seqQ.normal ?_
     refine ra rfl ?_
     refine awp_seq ?_
     refine awp_seq ?_
     refine rn 1 rfl ?_
     refine po (ellen rfl rfl rfl rfl rfl rfl rfl) rfl rfl ?_
     refine rz ?_
     refine awp_block ?_
     refine ra rfl ?_
     rcases ite_inv h with ⟨hc, h⟩ | ⟨hc, h⟩
     ·refine ct rfl hc ?_
      refine awp_seq ?_
      refine rn 1 rfl ?_
      obtain ⟨y, hk, h⟩ := bind_inv h
      refine po (elget encNode encNodeR_eq hk rfl rfl rfl rfl rfl) rfl rfl ?_
      refine on 2 rfl ?_
      refine rz ?_
      refine awp_ret ?_
      refine condQ.ret ?_
      refine exitQ.ret ?_
      refine seqQ.ret ?_
      refine condQ.ret ?_
      refine condQ.ret ?_
      refine exitQ.ret ?_
      refine seqQ.ret ?_
      cases h
      exact .ret rfl rfl
     ·refine cf rfl hc ?_
      refine ra rfl ?_
      rcases ite_inv h with ⟨hc, h⟩ | ⟨hc, h⟩
      ·refine ct rfl hc ?_
       refine ra rfl ?_
       refine awp_ret ?_
       refine condQ.ret ?_
       refine condQ.ret ?_
       refine exitQ.ret ?_
       refine seqQ.ret ?_
       refine condQ.ret ?_
       refine condQ.ret ?_
       refine exitQ.ret ?_
       refine seqQ.ret ?_
       cases h
       exact .ret rfl rfl
      ·refine cf rfl hc ?_
       refine awp_skip ?_
       refine cn rfl ?_
       refine cn rfl ?_
       refine en rfl ?_
       refine seqQ.normal ?_
       refine ra rfl ?_
       refine awp_ret ?_
       refine condQ.ret ?_
       refine condQ.ret ?_
       refine exitQ.ret ?_
       refine seqQ.ret ?_
       cases h
       exact .ret rfl rfl
    ·subst hr
     refine seqQ.out hx ?_
     refine condQ.out hx ?_
     refine condQ.out hx ?_
     refine exitQ.out hx ?_
     refine seqQ.out hx ?_
     cases h
     exact he
   ·refine cf rfl hc ?_
    refine awp_skip ?_
    refine cn rfl ?_
    refine cn rfl ?_
    refine en rfl ?_
    refine seqQ.normal ?_
    refine awp_seq ?_
    refine drn (m := 29) 8 rfl rfl ?_
    obtain ⟨y1, hk, h⟩ := bind_inv h
    refine pd (elget encToken (fun _ => rfl) hk rfl rfl rfl rfl rfl) rfl rfl rfl rfl rfl ?_
    refine don 6 rfl ?_
    refine dz (by kernel_rfl) ?_
    refine ra rfl ?_
    refine ra rfl ?_
    refine awp_ret ?_
    cases h
    exact .ret rfl rfl
 ·rintro p_grammar_parser_function' p_grammar_parser_base_l0' ih_p_grammar_parser_function ih_p_grammar_parser_base_l0 ⟨behind, p, l, p15, p17, p18⟩ res h at_
  refine lg rfl ?_
  refine awp_seq ?_
  refine awp_seq ?_
  refine rn 5 rfl ?_
  obtain ⟨x3, hk, h⟩ := bind_inv h
  refine po (ecallb (nid' := 14) (p_grammar_parser_is_ok hk) rfl rfl rfl rfl rfl rfl rfl rfl rfl rfl rfl rfl) rfl rfl ?_
  refine on 1 rfl ?_
  refine rz ?_
  rcases ite_inv h with ⟨hc, h⟩ | ⟨hc, h⟩
  ·refine ct rfl hc ?_
   refine awp_skip ?_
   refine cn rfl ?_
   refine seqQ.normal ?_
   refine awp_block ?_
   refine rn 3 rfl ?_
   obtain ⟨res, hk, h⟩ := bind_inv h
   rcases res with e | y
   ·obtain ⟨e1, i3, deep3, in_3⟩ := e
    refine pp (ecallp (ih_p_grammar_parser_function _ _ hk) rfl rfl rfl rfl rfl rfl rfl rfl rfl rfl) rfl rfl ?_
    refine exitQ.pan ?_
    refine loopQ.pan ?_
    refine exitQ.pan ?_
    cases h
    exact .err rfl (.pan rfl rfl)
   ·obtain ⟨x4, i2, deep2, in_2⟩ := y
    refine po (ecallb (nid' := 14) (ih_p_grammar_parser_function _ _ hk) rfl rfl rfl rfl rfl rfl rfl rfl rfl rfl rfl rfl) rfl rfl ?_
    refine po (erw' (show V.c (.own 7 [encNode x4]) = V.c (.own 7 (List.map encNodeR [x4])) from by simp only [List.map_cons, List.map_nil, encNodeR_eq]) (eplain rfl)) rfl rfl ?_
    obtain ⟨l1, hk, h⟩ := bind_inv h
    refine po (eappv hk rfl rfl rfl rfl rfl rfl rfl rfl rfl rfl rfl rfl rfl ) rfl rfl ?_
    refine on 1 rfl ?_
    refine awpO_nil ?_
    refine en rfl ?_
    refine loopQ.normal ?_
    exact awpL_at rfl rfl (ih_p_grammar_parser_base_l0 _ _ h at_)
  ·refine cf rfl hc ?_
   refine awp_exit ?_
   refine condQ.exit ?_
   refine seqQ.exit ?_
   refine loopQ.exit ?_
   refine eh rfl ?_
   cases h
   exact .ok rfl
 ·rintro p_grammar_parser_expr' ih_p_grammar_parser_expr p res h
  refine aval_start (tm := [(0, .c (.ptr 0 0))]) (hp := [(0, [.d (.list 1 (List.map D.str p.g.verbs)), .d (.list 1 (List.map D.str p.g.adverbs)), .d (.list 1 (List.map D.str p.g.behind)), .d (.str p.g.outer), .d (.str p.g.power), .d (.str p.g.open_), .d (.str p.g.close), .d (.str p.g.left), .d (.str p.g.right), .d (.str p.g.minus), .d (.str p.g.quote), .d (.bool p.g.trains), .d (.bool p.g.lone), .d (.bool p.g.square), .d (.list 5 (List.map encToken p.l)), .d (.int .i64 p.i), .d (.int .i64 p.end_), .d (.int .i64 p.deep), .d (.int .i64 p.in_)])]) (n := 1) rfl Tryz.func83 rfl rfl rfl rfl rfl rfl ?_
  refine ra (nid' := 2) rfl ?_
  refine ra rfl ?_
  refine awp_seq ?_
  refine rn 1 rfl ?_
  obtain ⟨at_, hk, h⟩ := bind_inv h
  refine po (ecallb (nid' := 2) (p_grammar_parser_here_ok hk) rfl rfl rfl rfl rfl rfl rfl rfl rfl rfl rfl rfl) rfl rfl ?_
  refine on 1 rfl ?_
  refine rz ?_
  refine ra rfl ?_
  refine ra rfl ?_
  refine awp_seq ?_
  refine rn 1 rfl ?_
  obtain ⟨res, hk, h⟩ := bind_inv h
  rcases res with e | y
  ·obtain ⟨e7, i2, deep1, in_1⟩ := e
   refine pp (ecallp (ih_p_grammar_parser_expr _ _ hk) rfl rfl rfl rfl rfl rfl rfl rfl rfl rfl) rfl rfl ?_
   refine seqQ.pan ?_
   cases h
   exact .pan rfl rfl
  ·obtain ⟨x, i, deep, in_⟩ := y
   refine po (ecallb (nid' := 2) (ih_p_grammar_parser_expr _ _ hk) rfl rfl rfl rfl rfl rfl rfl rfl rfl rfl rfl rfl) rfl rfl ?_
   refine on (nid' := 3) 2 rfl ?_
   refine rz ?_
   refine ra rfl ?_
   refine awp_seq ?_
   refine rn 6 rfl ?_
   obtain ⟨res, hk, h⟩ := bind_inv h
   rcases res with e6 | i1
   ·refine pp (ecallp (p_grammar_parser_take_ok hk) rfl rfl rfl rfl rfl rfl rfl rfl rfl rfl) rfl rfl ?_
    refine seqQ.pan ?_
    cases h
    exact .pan rfl rfl
   ·refine po (ecallb (nid' := 3) (p_grammar_parser_take_ok hk) rfl rfl rfl rfl rfl rfl rfl rfl rfl rfl rfl rfl) rfl rfl ?_
    refine rz ?_
    refine awp_seq ?_
    refine drn (m := 9) 1 rfl rfl ?_
    obtain ⟨left, hk, h⟩ := bind_inv h
    refine pd (ecall (p_grammar_uses_ok hk) rfl rfl rfl rfl rfl rfl rfl rfl rfl) rfl rfl rfl rfl rfl ?_
    refine don 1 rfl ?_
    obtain ⟨right, hk, h⟩ := bind_inv h
    refine pd (ecall (p_grammar_uses_ok hk) rfl rfl rfl rfl rfl rfl rfl rfl rfl) rfl rfl rfl rfl rfl ?_
    refine don 2 rfl ?_
    refine dz (by kernel_rfl) ?_
    refine awp_seq ?_
    obtain ⟨res, hs, h⟩ := bind_inv h
    refine awp_sub Tryz.f83 1 (fun (r : Except (Fault × Int × Int × Int) (Node × Int × Int × Int)) => (match (generalizing := false) r with | .ok r => (CRes.ret (.d (encNode r.1)) [[.d (.list 1 (List.map D.str p.g.verbs)), .d (.list 1 (List.map D.str p.g.adverbs)), .d (.list 1 (List.map D.str p.g.behind)), .d (.str p.g.outer), .d (.str p.g.power), .d (.str p.g.open_), .d (.str p.g.close), .d (.str p.g.left), .d (.str p.g.right), .d (.str p.g.minus), .d (.str p.g.quote), .d (.bool p.g.trains), .d (.bool p.g.lone), .d (.bool p.g.square), .d (.list 5 (List.map encToken p.l)), .d (.int .i64 r.2.1), .d (.int .i64 p.end_), .d (.int .i64 r.2.2.1), .d (.int .i64 r.2.2.2)]]) | .error r => (CRes.pan (.iface 34 (encFault r.1)) [[.d (.list 1 (List.map D.str p.g.verbs)), .d (.list 1 (List.map D.str p.g.adverbs)), .d (.list 1 (List.map D.str p.g.behind)), .d (.str p.g.outer), .d (.str p.g.power), .d (.str p.g.open_), .d (.str p.g.close), .d (.str p.g.left), .d (.str p.g.right), .d (.str p.g.minus), .d (.str p.g.quote), .d (.bool p.g.trains), .d (.bool p.g.lone), .d (.bool p.g.square), .d (.list 5 (List.map encToken p.l)), .d (.int .i64 r.2.1), .d (.int .i64 p.end_), .d (.int .i64 r.2.2.1), .d (.int .i64 r.2.2.2)]]))) (fun (_ : Unit) => (⟨[(2, .c (.ptr 1 0)), (4, .d (.int .i64 at_)), (5, .c (.ptr 2 0))], [(2, [.d (.int .i64 x.kind), .d (.int .i64 x.op_), .d (.str x.name), .d (.list 1 (List.map (D.int .i64) x.lit.shape)), .d (.list 3 (List.map encCell x.lit.cells)), .d (.list 7 (List.map encNodeR x.kids)), .d (.int .i64 x.at_)]), (1, [.d (.int .i64 0), .d (.int .i64 0), .d (.str []), .own 1 (List.map (D.int .i64) []), .own 3 (List.map encCell []), .own 7 (List.map encNodeR []), .d (.int .i64 0)]), (0, [.d (.list 1 (List.map D.str p.g.verbs)), .d (.list 1 (List.map D.str p.g.adverbs)), .d (.list 1 (List.map D.str p.g.behind)), .d (.str p.g.outer), .d (.str p.g.power), .d (.str p.g.open_), .d (.str p.g.close), .d (.str p.g.left), .d (.str p.g.right), .d (.str p.g.minus), .d (.str p.g.quote), .d (.bool p.g.trains), .d (.bool p.g.lone), .d (.bool p.g.square), .d (.list 5 (List.map encToken p.l)), .d (.int .i64 i1), .d (.int .i64 p.end_), .d (.int .i64 deep), .d (.int .i64 (w64 (in_ - 1)))])], 9, [], none⟩ : St)) (res := res) ?_ (fun y hy => ?_) (fun r x s' hr hx he => ?_)
    ·replace h := hs
     refine awp_block ?_
     refine awp_seq ?_
     refine rn 2 rfl ?_
     rcases ite_inv h with ⟨hc, h⟩ | ⟨hc, h⟩
     ·refine gt rfl rfl rfl rfl hc rfl ?_
      refine on 3 rfl ?_
      refine rz ?_
      rcases ite_inv h with ⟨hc, h⟩ | ⟨hc, h⟩
      ·refine ct rfl hc ?_
       refine awp_seq ?_
       refine rn 2 rfl ?_
       refine po (erw' (show V.c (.own 7 [encNode x]) = V.c (.own 7 (List.map encNodeR [x])) from by simp only [List.map_cons, List.map_nil, encNodeR_eq]) (eplain rfl)) rfl rfl ?_
       refine on 2 rfl ?_
       refine rz ?_
       refine awp_ret ?_
       refine condQ.ret ?_
       refine exitQ.ret ?_
       cases h
       exact .err rfl (.ret rfl rfl)
      ·refine cf rfl hc ?_
       refine awp_seq ?_
       refine rn 6 rfl ?_
       rcases ite_inv h with ⟨hc, h⟩ | ⟨hc, h⟩
       ·refine gt rfl rfl rfl rfl hc rfl ?_
        refine on 3 rfl ?_
        rcases ite_inv h with ⟨hc, h⟩ | ⟨hc, h⟩
        ·refine gt rfl rfl rfl rfl hc rfl ?_
         refine on 11 rfl ?_
         refine rz ?_
         refine ct rfl rfl ?_
         refine rn 2 rfl ?_
         obtain ⟨res, hk, h⟩ := bind_inv h
         rcases res with e | y
         ·refine pp (ecallp (p_grammar_parser_fail_ok hk) rfl rfl rfl rfl rfl rfl rfl rfl rfl rfl) rfl rfl ?_
          refine condQ.pan ?_
          refine condQ.pan ?_
          refine exitQ.pan ?_
          cases h
          exact .err rfl (.pan rfl rfl)
         ·refine po (ecallb (nid' := 9) (p_grammar_parser_fail_ok hk) rfl rfl rfl rfl rfl rfl rfl rfl rfl rfl rfl rfl) rfl rfl ?_
          refine awpO_nil ?_
          refine cn rfl ?_
          refine cn rfl ?_
          refine en rfl ?_
          cases h
          exact .ok rfl
        ·refine gf rfl rfl rfl rfl hc rfl ?_
         refine on 7 rfl ?_
         rcases ite_inv h with ⟨hc, h⟩ | ⟨hc, h⟩
         ·refine gt rfl rfl rfl rfl hc rfl ?_
          refine on 4 rfl ?_
          refine rz ?_
          rcases ite_inv h with ⟨hc, h⟩ | ⟨hc, h⟩
          ·refine ct rfl hc ?_
           refine rn 2 rfl ?_
           obtain ⟨res, hk, h⟩ := bind_inv h
           rcases res with e1 | y
           ·refine pp (ecallp (p_grammar_parser_fail_ok hk) rfl rfl rfl rfl rfl rfl rfl rfl rfl rfl) rfl rfl ?_
            refine condQ.pan ?_
            refine condQ.pan ?_
            refine exitQ.pan ?_
            cases h
            exact .err rfl (.pan rfl rfl)
           ·refine po (ecallb (nid' := 9) (p_grammar_parser_fail_ok hk) rfl rfl rfl rfl rfl rfl rfl rfl rfl rfl rfl rfl) rfl rfl ?_
            refine awpO_nil ?_
            refine cn rfl ?_
            refine cn rfl ?_
            refine en rfl ?_
            cases h
            exact .ok rfl
          ·refine cf rfl hc ?_
           refine awp_skip ?_
           refine cn rfl ?_
           refine cn rfl ?_
           refine en rfl ?_
           cases h
           exact .ok rfl
         ·refine gf rfl rfl rfl rfl hc rfl ?_
          refine on 4 rfl ?_
          refine rz ?_
          refine cf rfl rfl ?_
          refine awp_skip ?_
          refine cn rfl ?_
          refine cn rfl ?_
          refine en rfl ?_
          cases h
          exact .ok rfl
       ·refine gf rfl rfl rfl rfl hc rfl ?_
        refine on 10 rfl ?_
        rcases ite_inv h with ⟨hc, h⟩ | ⟨hc, h⟩
        ·refine gt rfl rfl rfl rfl hc rfl ?_
         refine on 4 rfl ?_
         refine rz ?_
         rcases ite_inv h with ⟨hc, h⟩ | ⟨hc, h⟩
         ·refine ct rfl hc ?_
          refine rn 2 rfl ?_
          obtain ⟨res, hk, h⟩ := bind_inv h
          rcases res with e2 | y
          ·refine pp (ecallp (p_grammar_parser_fail_ok hk) rfl rfl rfl rfl rfl rfl rfl rfl rfl rfl) rfl rfl ?_
           refine condQ.pan ?_
           refine condQ.pan ?_
           refine exitQ.pan ?_
           cases h
           exact .err rfl (.pan rfl rfl)
          ·refine po (ecallb (nid' := 9) (p_grammar_parser_fail_ok hk) rfl rfl rfl rfl rfl rfl rfl rfl rfl rfl rfl rfl) rfl rfl ?_
           refine awpO_nil ?_
           refine cn rfl ?_
           refine cn rfl ?_
           refine en rfl ?_
           cases h
           exact .ok rfl
         ·refine cf rfl hc ?_
          refine awp_skip ?_
          refine cn rfl ?_
          refine cn rfl ?_
          refine en rfl ?_
          cases h
          exact .ok rfl
        ·refine gf rfl rfl rfl rfl hc rfl ?_
         refine on 4 rfl ?_
         refine rz ?_
         refine cf rfl rfl ?_
         refine awp_skip ?_
         refine cn rfl ?_
         refine cn rfl ?_
         refine en rfl ?_
         cases h
         exact .ok rfl
     ·refine gf rfl rfl rfl rfl hc rfl ?_
      refine on 3 rfl ?_
      refine rz ?_
      refine cf rfl rfl ?_
      refine awp_seq ?_
      refine rn 6 rfl ?_
      rcases ite_inv h with ⟨hc, h⟩ | ⟨hc, h⟩
      ·refine gt rfl rfl rfl rfl hc rfl ?_
       refine on 3 rfl ?_
       rcases ite_inv h with ⟨hc, h⟩ | ⟨hc, h⟩
       ·refine gt rfl rfl rfl rfl hc rfl ?_
        refine on 11 rfl ?_
        refine rz ?_
        refine ct rfl rfl ?_
        refine rn 2 rfl ?_
        obtain ⟨res, hk, h⟩ := bind_inv h
        rcases res with e3 | y
        ·refine pp (ecallp (p_grammar_parser_fail_ok hk) rfl rfl rfl rfl rfl rfl rfl rfl rfl rfl) rfl rfl ?_
         refine condQ.pan ?_
         refine condQ.pan ?_
         refine exitQ.pan ?_
         cases h
         exact .err rfl (.pan rfl rfl)
        ·refine po (ecallb (nid' := 9) (p_grammar_parser_fail_ok hk) rfl rfl rfl rfl rfl rfl rfl rfl rfl rfl rfl rfl) rfl rfl ?_
         refine awpO_nil ?_
         refine cn rfl ?_
         refine cn rfl ?_
         refine en rfl ?_
         cases h
         exact .ok rfl
       ·refine gf rfl rfl rfl rfl hc rfl ?_
        refine on 7 rfl ?_
        rcases ite_inv h with ⟨hc, h⟩ | ⟨hc, h⟩
        ·refine gt rfl rfl rfl rfl hc rfl ?_
         refine on 4 rfl ?_
         refine rz ?_
         rcases ite_inv h with ⟨hc, h⟩ | ⟨hc, h⟩
         ·refine ct rfl hc ?_
          refine rn 2 rfl ?_
          obtain ⟨res, hk, h⟩ := bind_inv h
          rcases res with e4 | y
          ·refine pp (ecallp (p_grammar_parser_fail_ok hk) rfl rfl rfl rfl rfl rfl rfl rfl rfl rfl) rfl rfl ?_
           refine condQ.pan ?_
           refine condQ.pan ?_
           refine exitQ.pan ?_
           cases h
           exact .err rfl (.pan rfl rfl)
          ·refine po (ecallb (nid' := 9) (p_grammar_parser_fail_ok hk) rfl rfl rfl rfl rfl rfl rfl rfl rfl rfl rfl rfl) rfl rfl ?_
           refine awpO_nil ?_
           refine cn rfl ?_
           refine cn rfl ?_
           refine en rfl ?_
           cases h
           exact .ok rfl
         ·refine cf rfl hc ?_
          refine awp_skip ?_
          refine cn rfl ?_
          refine cn rfl ?_
          refine en rfl ?_
          cases h
          exact .ok rfl
        ·refine gf rfl rfl rfl rfl hc rfl ?_
         refine on 4 rfl ?_
         refine rz ?_
         refine cf rfl rfl ?_
         refine awp_skip ?_
         refine cn rfl ?_
         refine cn rfl ?_
         refine en rfl ?_
         cases h
         exact .ok rfl
      ·refine gf rfl rfl rfl rfl hc rfl ?_
       refine on 10 rfl ?_
       rcases ite_inv h with ⟨hc, h⟩ | ⟨hc, h⟩
       ·refine gt rfl rfl rfl rfl hc rfl ?_
        refine on 4 rfl ?_
        refine rz ?_
        rcases ite_inv h with ⟨hc, h⟩ | ⟨hc, h⟩
        ·refine ct rfl hc ?_
         refine rn 2 rfl ?_
         obtain ⟨res, hk, h⟩ := bind_inv h
         rcases res with e5 | y
         ·refine pp (ecallp (p_grammar_parser_fail_ok hk) rfl rfl rfl rfl rfl rfl rfl rfl rfl rfl) rfl rfl ?_
          refine condQ.pan ?_
          refine condQ.pan ?_
          refine exitQ.pan ?_
          cases h
          exact .err rfl (.pan rfl rfl)
         ·refine po (ecallb (nid' := 9) (p_grammar_parser_fail_ok hk) rfl rfl rfl rfl rfl rfl rfl rfl rfl rfl rfl rfl) rfl rfl ?_
          refine awpO_nil ?_
          refine cn rfl ?_
          refine cn rfl ?_
          refine en rfl ?_
          cases h
          exact .ok rfl
        ·refine cf rfl hc ?_
         refine awp_skip ?_
         refine cn rfl ?_
         refine cn rfl ?_
         refine en rfl ?_
         cases h
         exact .ok rfl
       ·refine gf rfl rfl rfl rfl hc rfl ?_
        refine on 4 rfl ?_
        refine rz ?_
        refine cf rfl rfl ?_
        refine awp_skip ?_
        refine cn rfl ?_
        refine cn rfl ?_
        refine en rfl ?_
        cases h
        exact .ok rfl
    ·subst hy
     refine seqQ.normal ?_
     refine awp_seq ?_
     refine rn 2 rfl ?_
     obtain ⟨x1, hk, h⟩ := bind_inv h
     refine po (ecall (p_grammar_righted_ok hk) rfl rfl rfl rfl rfl rfl rfl rfl rfl) rfl rfl ?_
     refine po (erw' (show V.c (.own 7 [encNode x1]) = V.c (.own 7 (List.map encNodeR [x1])) from by simp only [List.map_cons, List.map_nil, encNodeR_eq]) (eplain rfl)) rfl rfl ?_
     refine on 2 rfl ?_
     refine rz ?_
     refine awp_ret ?_
     cases h
     exact .ret rfl rfl
    ·subst hr
     refine seqQ.out hx ?_
     cases h
     exact he
theorem p_grammar_parser_expr_ih : ∀ a res, p_grammar_parser_expr a = some res → Mp_grammar_parser_expr a res := p_grammar_parser_expr_grp.1
theorem p_grammar_parser_expr_ok {a : Grammar_parser} {res : Except (Fault × Int × Int × Int) (Node × Int × Int × Int)} (h : p_grammar_parser_expr a = some res) : Mp_grammar_parser_expr a res := p_grammar_parser_expr_ih a res h
theorem p_grammar_Parse_ok {g : Grammar} {l : (List Token)} {end_ : Int} {r : Node × Fault} (h : p_grammar_Parse g l end_ = some r) : aval X 10 [.d (encGrammar g), .d (.list 5 (List.map encToken l)), .d (.int .i64 end_)] [] (CRes.ret (.tuple [.d (encNode r.1), .d (encFault r.2)]) []) := by
 unfold p_grammar_Parse at h
 refine aval_start (tm := [(0, .d (encGrammar g)), (1, .d (.list 5 (List.map encToken l))), (2, .d (.int .i64 end_))]) (hp := []) (n := 0) rfl Tryz.func10 rfl rfl rfl rfl rfl rfl ?_
 refine ra (nid' := 3) rfl ?_
 refine awp_seq ?_
 refine rn 1 rfl ?_
 refine pdef (fun _ => rfl) rfl rfl ?_
 refine rz ?_
 refine ra (nid' := 4) rfl ?_
 refine awp_seq ?_
 refine rn 1 rfl ?_
 obtain ⟨res, hk, h⟩ := bind_inv h
 rcases res with e | y
 ·obtain ⟨e1, i1, deep1, in_1⟩ := e
  refine pp (ecallp (p_grammar_parser_expr_ok hk) rfl rfl rfl rfl rfl rfl rfl rfl rfl rfl) rfl rfl ?_
  refine seqQ.pan ?_
  obtain ⟨⟨kind1, op_1, name1, shape1, cells1, kids1, at_2, err1, at_3, why1⟩, hk, h⟩ := bind_inv h
  cases h
  exact .drec rfl (rdc (nid' := 4) (p_grammar_Parse_1_p_2_ok hk) (recsF_of Tryz.func17 rfl rfl) rfl rfl rfl rfl rfl rfl rfl rfl .nil) rfl
 ·obtain ⟨x, i, deep, in_⟩ := y
  refine po (ecallb (nid' := 4) (p_grammar_parser_expr_ok hk) rfl rfl rfl rfl rfl rfl rfl rfl rfl rfl rfl rfl) rfl rfl ?_
  refine on 1 rfl ?_
  refine rz ?_
  refine awp_seq ?_
  refine awp_seq ?_
  refine rn 5 rfl ?_
  refine po (ellen rfl rfl rfl rfl rfl rfl rfl) rfl rfl ?_
  refine on 1 rfl ?_
  refine rz ?_
  obtain ⟨res, hs, h⟩ := bind_inv h
  refine awp_sub Tryz.f10 0 (fun (r : Node × Fault) => (CRes.ret (.tuple [.d (encNode r.1), .d (encFault r.2)]) [])) (fun (_ : Unit) => (⟨[(6, .c (.ptr 1 0)), (7, .c (.ptr 2 0))], [(3, [.d (.list 1 (List.map D.str (Grammar_parser.mk g l 0 end_ 0 0).g.verbs)), .d (.list 1 (List.map D.str (Grammar_parser.mk g l 0 end_ 0 0).g.adverbs)), .d (.list 1 (List.map D.str (Grammar_parser.mk g l 0 end_ 0 0).g.behind)), .d (.str (Grammar_parser.mk g l 0 end_ 0 0).g.outer), .d (.str (Grammar_parser.mk g l 0 end_ 0 0).g.power), .d (.str (Grammar_parser.mk g l 0 end_ 0 0).g.open_), .d (.str (Grammar_parser.mk g l 0 end_ 0 0).g.close), .d (.str (Grammar_parser.mk g l 0 end_ 0 0).g.left), .d (.str (Grammar_parser.mk g l 0 end_ 0 0).g.right), .d (.str (Grammar_parser.mk g l 0 end_ 0 0).g.minus), .d (.str (Grammar_parser.mk g l 0 end_ 0 0).g.quote), .d (.bool (Grammar_parser.mk g l 0 end_ 0 0).g.trains), .d (.bool (Grammar_parser.mk g l 0 end_ 0 0).g.lone), .d (.bool (Grammar_parser.mk g l 0 end_ 0 0).g.square), .d (.list 5 (List.map encToken (Grammar_parser.mk g l 0 end_ 0 0).l)), .d (.int .i64 i), .d (.int .i64 (Grammar_parser.mk g l 0 end_ 0 0).end_), .d (.int .i64 deep), .d (.int .i64 in_)]), (2, [.d (.int .i64 0), .d (.int .i64 0), .d (.int .i64 0)]), (1, [.d (.int .i64 x.kind), .d (.int .i64 x.op_), .d (.str x.name), .d (.list 1 (List.map (D.int .i64) x.lit.shape)), .d (.list 3 (List.map encCell x.lit.cells)), .d (.list 7 (List.map encNodeR x.kids)), .d (.int .i64 x.at_)]), (0, [.d (.list 1 (List.map D.str g.verbs)), .d (.list 1 (List.map D.str g.adverbs)), .d (.list 1 (List.map D.str g.behind)), .d (.str g.outer), .d (.str g.power), .d (.str g.open_), .d (.str g.close), .d (.str g.left), .d (.str g.right), .d (.str g.minus), .d (.str g.quote), .d (.bool g.trains), .d (.bool g.lone), .d (.bool g.square)])], 4, [(17, [1, 2])], none⟩ : St)) (res := res) ?_ (fun y hy => ?_) (fun r x s' hr hx he => ?_)
  ·replace h := hs
   rcases ite_inv h with ⟨hc, h⟩ | ⟨hc, h⟩
   ·refine ct rfl hc ?_
    refine rn 5 rfl ?_
    obtain ⟨res, hk, h⟩ := bind_inv h
    rcases res with e | y
    ·refine pp (ecallp (p_grammar_parser_fail_ok hk) rfl rfl rfl rfl rfl rfl rfl rfl rfl rfl) rfl rfl ?_
     refine condQ.pan ?_
     obtain ⟨⟨kind, op_, name, shape, cells, kids, at_, err, at_1, why⟩, hk, h⟩ := bind_inv h
     cases h
     exact .err rfl (.drec rfl (rdc (nid' := 4) (p_grammar_Parse_1_p_ok hk) (recsF_of Tryz.func17 rfl rfl) rfl rfl rfl rfl rfl rfl rfl rfl .nil) rfl)
    ·refine po (ecallb (nid' := 4) (p_grammar_parser_fail_ok hk) rfl rfl rfl rfl rfl rfl rfl rfl rfl rfl rfl rfl) rfl rfl ?_
     refine awpO_nil ?_
     refine cn rfl ?_
     cases h
     exact .ok rfl
   ·refine cf rfl hc ?_
    refine awp_skip ?_
    refine cn rfl ?_
    cases h
    exact .ok rfl
  ·subst hy
   refine seqQ.normal ?_
   refine ra rfl ?_
   refine awp_ret ?_
   obtain ⟨_, hk, h⟩ := bind_inv h
   cases h
   exact .dret rfl (rdc (nid' := 4) (p_grammar_Parse_1_q_ok hk) (recsF_of Tryz.func17 rfl rfl) rfl rfl rfl rfl rfl rfl rfl rfl .nil) rfl
  ·subst hr
   refine seqQ.out hx ?_
   cases h
   exact he
theorem p_jay_Grammar_ok  {r : Grammar} (h : p_jay_Grammar = some r) : aval X 11 [] [] (CRes.ret (.d (encGrammar r)) []) := by
 unfold p_jay_Grammar at h
 refine aval_start (tm := []) (hp := []) (n := 0) rfl Tryz.func11 rfl rfl rfl rfl rfl rfl ?_
 refine ra (nid' := 1) rfl ?_
 refine awp_seq ?_
 refine rn 0 rfl ?_
 obtain ⟨x, hk, h⟩ := bind_inv h
 refine po (ecall (goFields_ok hk) rfl rfl rfl rfl rfl rfl rfl rfl rfl) rfl rfl ?_
 refine on 3 rfl ?_
 refine rz ?_
 refine awp_ret ?_
 cases h
 exact .ret rfl rfl
theorem p_jlex_at_ok {s : Str} {i : Int} {r : Int} (h : p_jlex_at s i = some r) : aval X 34 [.d (.str s), .d (.int .i64 i)] [] (CRes.ret (.d (.int .u8 r)) []) := by
 unfold p_jlex_at at h
 refine aval_start (tm := [(0, .d (.str s)), (1, .d (.int .i64 i))]) (hp := []) (n := 0) rfl Tryz.func34 rfl rfl rfl rfl rfl rfl ?_
 refine ra rfl ?_
 refine awp_seq ?_
 refine ra rfl ?_
 rcases ite_inv h with ⟨hc, h⟩ | ⟨hc, h⟩
 ·refine ct rfl hc ?_
  refine awp_seq ?_
  refine rn 2 rfl ?_
  obtain ⟨c, hk, h⟩ := bind_inv h
  refine po (esget hk rfl rfl rfl rfl) rfl rfl ?_
  refine on 1 rfl ?_
  refine rz ?_
  refine awp_ret ?_
  refine condQ.ret ?_
  refine seqQ.ret ?_
  cases h
  exact .ret rfl rfl
 ·refine cf rfl hc ?_
  refine awp_skip ?_
  refine cn rfl ?_
  refine seqQ.normal ?_
  refine ra rfl ?_
  refine awp_ret ?_
  cases h
  exact .ret rfl rfl
theorem p_jlex_digit_ok {c : Int} {r : Bool} (h : p_jlex_digit c = some r) : aval X 33 [.d (.int .u8 c)] [] (CRes.ret (.d (.bool r)) []) := by
 unfold p_jlex_digit at h
 refine aval_start (tm := [(0, .d (.int .u8 c))]) (hp := []) (n := 0) rfl Tryz.func33 rfl rfl rfl rfl rfl rfl ?_
 refine ra rfl ?_
 refine awp_seq ?_
 refine rn 3 rfl ?_
 rcases ite_inv h with ⟨hc, h⟩ | ⟨hc, h⟩
 ·refine gt rfl rfl rfl rfl hc rfl ?_
  refine on 4 rfl ?_
  refine rz ?_
  refine awp_ret ?_
  cases h
  exact .ret rfl rfl
 ·refine gf rfl rfl rfl rfl hc rfl ?_
  refine on 4 rfl ?_
  refine rz ?_
  refine awp_ret ?_
  cases h
  exact .ret rfl rfl
theorem p_jlex_begins_ok {s : Str} {r : Bool} (h : p_jlex_begins s = some r) : aval X 27 [.d (.str s)] [] (CRes.ret (.d (.bool r)) []) := by
 unfold p_jlex_begins at h
 refine aval_start (tm := [(0, .d (.str s))]) (hp := []) (n := 0) rfl Tryz.func27 rfl rfl rfl rfl rfl rfl ?_
 refine ra rfl ?_
 refine awp_seq ?_
 refine rn 1 rfl ?_
 obtain ⟨x, hk, h⟩ := bind_inv h
 refine po (ecall (p_jlex_at_ok hk) rfl rfl rfl rfl rfl rfl rfl rfl rfl) rfl rfl ?_
 obtain ⟨x1, hk, h⟩ := bind_inv h
 refine po (ecall (p_jlex_digit_ok hk) rfl rfl rfl rfl rfl rfl rfl rfl rfl) rfl rfl ?_
 refine on 1 rfl ?_
 rcases ite_inv h with ⟨hc, h⟩ | ⟨hc, h⟩
 ·refine gt rfl rfl rfl rfl hc rfl ?_
  refine on 10 rfl ?_
  refine rz ?_
  refine awp_ret ?_
  cases h
  exact .ret rfl rfl
 ·refine gf rfl rfl rfl rfl hc rfl ?_
  refine on 1 rfl ?_
  obtain ⟨x2, hk, h⟩ := bind_inv h
  refine po (ecall (p_jlex_at_ok hk) rfl rfl rfl rfl rfl rfl rfl rfl rfl) rfl rfl ?_
  refine on 2 rfl ?_
  rcases ite_inv h with ⟨hc, h⟩ | ⟨hc, h⟩
  ·refine gt rfl rfl rfl rfl hc rfl ?_
   refine on 1 rfl ?_
   obtain ⟨x3, hk, h⟩ := bind_inv h
   refine po (ecall (p_jlex_at_ok hk) rfl rfl rfl rfl rfl rfl rfl rfl rfl) rfl rfl ?_
   obtain ⟨x4, hk, h⟩ := bind_inv h
   refine po (ecall (p_jlex_digit_ok hk) rfl rfl rfl rfl rfl rfl rfl rfl rfl) rfl rfl ?_
   refine on 3 rfl ?_
   refine rz ?_
   refine awp_ret ?_
   cases h
   exact .ret rfl rfl
  ·refine gf rfl rfl rfl rfl hc rfl ?_
   refine on 6 rfl ?_
   refine rz ?_
   refine awp_ret ?_
   cases h
   exact .ret rfl rfl
theorem p_jlex_letter_ok {c : Int} {r : Bool} (h : p_jlex_letter c = some r) : aval X 30 [.d (.int .u8 c)] [] (CRes.ret (.d (.bool r)) []) := by
 unfold p_jlex_letter at h
 refine aval_start (tm := [(0, .d (.int .u8 c))]) (hp := []) (n := 0) rfl Tryz.func30 rfl rfl rfl rfl rfl rfl ?_
 refine ra rfl ?_
 refine awp_seq ?_
 refine rn 3 rfl ?_
 rcases ite_inv h with ⟨hc, h⟩ | ⟨hc, h⟩
 ·refine gt rfl rfl rfl rfl hc rfl ?_
  refine on 4 rfl ?_
  refine rz ?_
  refine awp_ret ?_
  cases h
  exact .ret rfl rfl
 ·refine gf rfl rfl rfl rfl hc rfl ?_
  refine on 4 rfl ?_
  refine rz ?_
  refine awp_ret ?_
  cases h
  exact .ret rfl rfl
theorem p_jlex_name_l0_ok : ∀ (a : Str × Int) (res : Int), p_jlex_name_l0 a = some res → (match a with | (s, k) => awpL X 31 (codeAt [1, 1, 0, 0, 0] (bodyOf Tryz.f31)) (cleanAt (X.H 31 2) 1) (exitQ 0 (X.H 31 1000000) 1 (NrmQ (fun (k1 : Int) => (⟨[(0, .d (.str s)), (2, .c (.ptr 0 0)), (4, .d (.int .i64 k1))], [(0, [.d (.int .i64 0), .d (.str []), .own 1 (List.map (D.int .i64) []), .own 3 (List.map encCell []), .d (.int .i64 0)])], 1, [], none⟩ : St)) res)) ⟨[(0, .d (.str s)), (2, .c (.ptr 0 0)), (4, .d (.int .i64 k))], [(0, [.d (.int .i64 0), .d (.str []), .own 1 (List.map (D.int .i64) []), .own 3 (List.map encCell []), .d (.int .i64 0)])], 1, [], none⟩) := by
 refine p_jlex_name_l0.partial_correctness _ ?_
 rintro p_jlex_name_l0' ih ⟨s, k⟩ res h
 refine lg rfl ?_
 refine awp_seq ?_
 refine awp_seq ?_
 refine rn 2 rfl ?_
 obtain ⟨x, hk, h⟩ := bind_inv h
 refine po (ecall (p_jlex_at_ok hk) rfl rfl rfl rfl rfl rfl rfl rfl rfl) rfl rfl ?_
 obtain ⟨x1, hk, h⟩ := bind_inv h
 refine po (ecall (p_jlex_letter_ok hk) rfl rfl rfl rfl rfl rfl rfl rfl rfl) rfl rfl ?_
 refine on 1 rfl ?_
 rcases ite_inv h with ⟨hc, h⟩ | ⟨hc, h⟩
 ·refine gt rfl rfl rfl rfl hc rfl ?_
  refine on 5 rfl ?_
  refine rz ?_
  refine ct rfl rfl ?_
  refine awp_skip ?_
  refine cn rfl ?_
  refine seqQ.normal ?_
  refine awp_block ?_
  refine rn 3 rfl ?_
  refine awpO_nil ?_
  refine en rfl ?_
  refine loopQ.normal ?_
  exact awpL_at rfl rfl (ih _ _ h)
 ·refine gf rfl rfl rfl rfl hc rfl ?_
  refine on 2 rfl ?_
  obtain ⟨x2, hk, h⟩ := bind_inv h
  refine po (ecall (p_jlex_at_ok hk) rfl rfl rfl rfl rfl rfl rfl rfl rfl) rfl rfl ?_
  obtain ⟨x3, hk, h⟩ := bind_inv h
  refine po (ecall (p_jlex_digit_ok hk) rfl rfl rfl rfl rfl rfl rfl rfl rfl) rfl rfl ?_
  refine on 1 rfl ?_
  refine rz ?_
  rcases ite_inv h with ⟨hc, h⟩ | ⟨hc, h⟩
  ·refine ct rfl hc ?_
   refine awp_skip ?_
   refine cn rfl ?_
   refine seqQ.normal ?_
   refine awp_block ?_
   refine rn 3 rfl ?_
   refine awpO_nil ?_
   refine en rfl ?_
   refine loopQ.normal ?_
   exact awpL_at rfl rfl (ih _ _ h)
  ·refine cf rfl hc ?_
   refine awp_exit ?_
   refine condQ.exit ?_
   refine seqQ.exit ?_
   refine loopQ.exit ?_
   refine eh rfl ?_
   cases h
   exact .ok rfl
theorem p_jlex_name_l1_ok : ∀ (a : Str × Int × Str × Int) (res : Except (Token × Bool) (Unit)), p_jlex_name_l1 a = some res → (match a with | (s, k1, s1, x4) => awpL X 31 (codeAt [1, 1, 1, 1, 1, 1, 0, 1, 0, 0] (bodyOf Tryz.f31)) (cleanAt (X.H 31 12) 2) (exitQ 2 (X.H 31 1000002) 2 (SubQ X Tryz.f31 0 (fun (r : Token × Bool) => (CRes.ret (.tuple [.d (encToken r.1), .d (.bool r.2)]) [])) (fun (_ : Unit) => (⟨[(2, .c (.ptr 0 0)), (4, .d (.int .i64 k1)), (5, .c (.ptr 1 0))], [(1, [.d (.int .i64 3), .d (.str s1), .own 1 (List.map (D.int .i64) []), .own 3 (List.map encCell []), .d (.int .i64 0)]), (0, [.d (.int .i64 0), .d (.str []), .own 1 (List.map (D.int .i64) []), .own 3 (List.map encCell []), .d (.int .i64 0)])], 2, [], none⟩ : St)) res)) ⟨[(0, .d (.str s)), (2, .c (.ptr 0 0)), (4, .d (.int .i64 k1)), (5, .c (.ptr 1 0)), (56, .d (.int .i64 k1)), (57, .d (.int .i64 x4))], [(1, [.d (.int .i64 3), .d (.str s1), .own 1 (List.map (D.int .i64) []), .own 3 (List.map encCell []), .d (.int .i64 0)]), (0, [.d (.int .i64 0), .d (.str []), .own 1 (List.map (D.int .i64) []), .own 3 (List.map encCell []), .d (.int .i64 0)])], 2, [], none⟩) := by
 refine p_jlex_name_l1.partial_correctness _ ?_
 rintro p_jlex_name_l1' ih ⟨s, k1, s1, x4⟩ res h
 refine lg rfl ?_
 refine ra rfl ?_
 refine awp_seq ?_
 rcases ite_inv h with ⟨hc, h⟩ | ⟨hc, h⟩
 ·refine ct rfl hc ?_
  refine awp_skip ?_
  refine cn rfl ?_
  refine seqQ.normal ?_
  refine awp_seq ?_
  refine awp_block ?_
  refine ra rfl ?_
  refine awp_seq ?_
  refine rn 2 rfl ?_
  obtain ⟨c1, hk, h⟩ := bind_inv h
  refine po (esget hk rfl rfl rfl rfl) rfl rfl ?_
  refine on 1 rfl ?_
  refine rz ?_
  rcases ite_inv h with ⟨hc, h⟩ | ⟨hc, h⟩
  ·refine ct rfl hc ?_
   refine ra rfl ?_
   refine awp_ret ?_
   refine condQ.ret ?_
   refine exitQ.ret ?_
   refine seqQ.ret ?_
   refine loopQ.ret ?_
   refine exitQ.ret ?_
   cases h
   exact .err rfl (.ret rfl rfl)
  ·refine cf rfl hc ?_
   refine awp_skip ?_
   refine cn rfl ?_
   refine en rfl ?_
   refine seqQ.normal ?_
   refine rn 2 rfl ?_
   refine awpO_nil ?_
   refine loopQ.normal ?_
   exact awpL_at rfl rfl (ih _ _ h)
 ·refine cf rfl hc ?_
  refine awp_exit ?_
  refine condQ.exit ?_
  refine seqQ.exit ?_
  refine loopQ.exit ?_
  refine eh rfl ?_
  cases h
  exact .ok rfl
theorem p_jlex_name_ok {s : Str} {r : Token × Bool} (h : p_jlex_name s = some r) : aval X 31 [.d (.str s)] [] (CRes.ret (.tuple [.d (encToken r.1), .d (.bool r.2)]) []) := by
 unfold p_jlex_name at h
 refine aval_start (tm := [(0, .d (.str s))]) (hp := []) (n := 0) rfl Tryz.func31 rfl rfl rfl rfl rfl rfl ?_
 refine ra (nid' := 1) rfl ?_
 refine ra rfl ?_
 refine awp_seq ?_
 obtain ⟨k1, hs, h⟩ := bind_inv h
 refine awp_nrm (fun (k1 : Int) => (⟨[(0, .d (.str s)), (2, .c (.ptr 0 0)), (4, .d (.int .i64 k1))], [(0, [.d (.int .i64 0), .d (.str []), .own 1 (List.map (D.int .i64) []), .own 3 (List.map encCell []), .d (.int .i64 0)])], 1, [], none⟩ : St)) (y := k1) ?_ ?_
 ·replace h := hs
  refine awp_block ?_
  refine awp_loop ?_
  exact awpL_at rfl rfl (p_jlex_name_l0_ok _ _ h)
 ·refine seqQ.normal ?_
  refine awp_seq ?_
  refine rn 2 rfl ?_
  obtain ⟨s1, hk, h⟩ := bind_inv h
  refine po (esto hk rfl rfl rfl rfl) rfl rfl ?_
  refine on (nid' := 2) 3 rfl ?_
  refine rz ?_
  refine awp_seq ?_
  refine awp_seq ?_
  refine rn 2 rfl ?_
  obtain ⟨c, hk, h⟩ := bind_inv h
  refine po (ecall (p_jlex_at_ok hk) rfl rfl rfl rfl rfl rfl rfl rfl rfl) rfl rfl ?_
  refine on 1 rfl ?_
  refine rz ?_
  refine awp_seq ?_
  refine rn 3 rfl ?_
  rcases ite_inv h with ⟨hc, h⟩ | ⟨hc, h⟩
  ·refine gt rfl rfl rfl rfl hc rfl ?_
   refine on 3 rfl ?_
   refine rz ?_
   refine ct rfl rfl ?_
   refine awp_seq ?_
   refine rn 3 rfl ?_
   obtain ⟨s2, hk, h⟩ := bind_inv h
   refine po (esto hk rfl rfl rfl rfl) rfl rfl ?_
   refine on 2 rfl ?_
   refine rz ?_
   refine awp_seq ?_
   refine drn (m := 13) 5 rfl rfl ?_
   rcases ite_inv h with ⟨hc, h⟩ | ⟨hc, h⟩
   ·refine dgt rfl rfl rfl rfl hc rfl ?_
    refine don 6 rfl ?_
    refine dz (by kernel_rfl) ?_
    refine awp_ret ?_
    refine condQ.ret ?_
    refine seqQ.ret ?_
    cases h
    exact .ret rfl rfl
   ·refine dgf rfl rfl rfl rfl hc rfl ?_
    refine don 6 rfl ?_
    refine dz (by kernel_rfl) ?_
    refine awp_ret ?_
    refine condQ.ret ?_
    refine seqQ.ret ?_
    cases h
    exact .ret rfl rfl
  ·refine gf rfl rfl rfl rfl hc rfl ?_
   refine on 3 rfl ?_
   refine rz ?_
   rcases ite_inv h with ⟨hc, h⟩ | ⟨hc, h⟩
   ·refine ct rfl hc ?_
    refine awp_seq ?_
    refine rn 3 rfl ?_
    obtain ⟨s3, hk, h⟩ := bind_inv h
    refine po (esto hk rfl rfl rfl rfl) rfl rfl ?_
    refine on 2 rfl ?_
    refine rz ?_
    refine awp_seq ?_
    refine drn (m := 13) 5 rfl rfl ?_
    rcases ite_inv h with ⟨hc, h⟩ | ⟨hc, h⟩
    ·refine dgt rfl rfl rfl rfl hc rfl ?_
     refine don 6 rfl ?_
     refine dz (by kernel_rfl) ?_
     refine awp_ret ?_
     refine condQ.ret ?_
     refine seqQ.ret ?_
     cases h
     exact .ret rfl rfl
    ·refine dgf rfl rfl rfl rfl hc rfl ?_
     refine don 6 rfl ?_
     refine dz (by kernel_rfl) ?_
     refine awp_ret ?_
     refine condQ.ret ?_
     refine seqQ.ret ?_
     cases h
     exact .ret rfl rfl
   ·refine cf rfl hc ?_
    refine awp_skip ?_
    refine cn rfl ?_
    refine seqQ.normal ?_
    refine awp_seq ?_
    refine awp_seq ?_
    refine rn 4 rfl ?_
    rcases ite_inv h with ⟨hc, h⟩ | ⟨hc, h⟩
    ·refine gt rfl rfl rfl rfl hc rfl ?_
     refine on 4 rfl ?_
     refine rz ?_
     refine ct rfl rfl ?_
     refine ra rfl ?_
     refine awp_ret ?_
     refine condQ.ret ?_
     refine seqQ.ret ?_
     cases h
     exact .ret rfl rfl
    ·refine gf rfl rfl rfl rfl hc rfl ?_
     refine on 4 rfl ?_
     refine rz ?_
     rcases ite_inv h with ⟨hc, h⟩ | ⟨hc, h⟩
     ·refine ct rfl hc ?_
      refine ra rfl ?_
      refine awp_ret ?_
      refine condQ.ret ?_
      refine seqQ.ret ?_
      cases h
      exact .ret rfl rfl
     ·refine cf rfl hc ?_
      refine awp_skip ?_
      refine cn rfl ?_
      refine seqQ.normal ?_
      refine awp_seq ?_
      refine ra rfl ?_
      obtain ⟨res, hs, h⟩ := bind_inv h
      refine awp_sub Tryz.f31 0 (fun (r : Token × Bool) => (CRes.ret (.tuple [.d (encToken r.1), .d (.bool r.2)]) [])) (fun (_ : Unit) => (⟨[(2, .c (.ptr 0 0)), (4, .d (.int .i64 k1)), (5, .c (.ptr 1 0))], [(1, [.d (.int .i64 3), .d (.str s1), .own 1 (List.map (D.int .i64) []), .own 3 (List.map encCell []), .d (.int .i64 0)]), (0, [.d (.int .i64 0), .d (.str []), .own 1 (List.map (D.int .i64) []), .own 3 (List.map encCell []), .d (.int .i64 0)])], 2, [], none⟩ : St)) (res := res) ?_ (fun y hy => ?_) (fun r x s' hr hx he => ?_)
      ·replace h := hs
       refine awp_block ?_
       refine awp_loop ?_
       exact awpL_at rfl rfl (p_jlex_name_l1_ok _ _ h)
      ·subst hy
       refine seqQ.normal ?_
       refine ra rfl ?_
       refine awp_ret ?_
       cases h
       exact .ret rfl rfl
      ·subst hr
       refine seqQ.out hx ?_
       cases h
       exact he
theorem p_arr_Atom_ok {n : Int} {r : Arr} (h : p_arr_Atom n = some r) : aval X 58 [.d (.int .i64 n)] [] (CRes.ret (.d (encArr r)) []) := by
 unfold p_arr_Atom at h
 refine aval_start (tm := [(0, .d (.int .i64 n))]) (hp := []) (n := 0) rfl Tryz.func58 rfl rfl rfl rfl rfl rfl ?_
 refine ra (nid' := 1) rfl ?_
 refine ra rfl ?_
 refine awp_ret ?_
 cases h
 exact .ret rfl rfl
theorem p_arr_Nums_l0_ok : ∀ (a : ((List Int)) × Int × (List Cell)) (res : (List Cell)), p_arr_Nums_l0 a = some res → (match a with | (l, x, a1) => awpL X 59 (codeAt [1, 1, 0, 1, 0, 0] (bodyOf Tryz.f59)) (cleanAt (X.H 59 3) 2) (exitQ 0 (X.H 59 1000000) 2 (NrmQ (fun (a11 : (List Cell)) => (⟨[(2, .c (.ptr 0 0)), (3, .c (.ptr 1 0))], [(1, [.d (.list 1 (List.map (D.int .i64) [(List.length l : Int)])), .own 3 (List.map encCell a11)]), (0, [.own 1 (List.map (D.int .i64) []), .own 3 (List.map encCell [])])], 2, [], none⟩ : St)) res)) ⟨[(2, .c (.ptr 0 0)), (3, .c (.ptr 1 0)), (10, .d (.list 1 (List.map (D.int .i64) l))), (11, .d (.int .i64 (List.length l : Int))), (12, .d (.int .i64 x))], [(1, [.d (.list 1 (List.map (D.int .i64) [(List.length l : Int)])), .own 3 (List.map encCell a1)]), (0, [.own 1 (List.map (D.int .i64) []), .own 3 (List.map encCell [])])], 2, [], none⟩) := by
 refine p_arr_Nums_l0.partial_correctness _ ?_
 rintro p_arr_Nums_l0' ih ⟨l, x, a1⟩ res h
 refine lg rfl ?_
 refine ra rfl ?_
 refine awp_seq ?_
 rcases ite_inv h with ⟨hc, h⟩ | ⟨hc, h⟩
 ·refine ct rfl hc ?_
  refine awp_skip ?_
  refine cn rfl ?_
  refine seqQ.normal ?_
  refine awp_seq ?_
  refine awp_block ?_
  refine awp_seq ?_
  refine rn 0 rfl ?_
  obtain ⟨n, hk, h⟩ := bind_inv h
  refine po (elget (D.int .i64) (fun _ => rfl) hk rfl rfl rfl rfl rfl) rfl rfl ?_
  refine on 2 rfl ?_
  refine rz ?_
  refine rn 5 rfl ?_
  obtain ⟨l1, hk, h⟩ := bind_inv h
  refine po (eappc hk rfl rfl rfl rfl rfl rfl rfl rfl rfl rfl rfl rfl rfl rfl ) rfl rfl ?_
  refine on 2 rfl ?_
  refine awpO_nil ?_
  refine en rfl ?_
  refine seqQ.normal ?_
  refine rn 2 rfl ?_
  refine awpO_nil ?_
  refine loopQ.normal ?_
  exact awpL_at rfl rfl (ih _ _ h)
 ·refine cf rfl hc ?_
  refine awp_exit ?_
  refine condQ.exit ?_
  refine seqQ.exit ?_
  refine loopQ.exit ?_
  refine eh rfl ?_
  cases h
  exact .ok rfl
theorem p_arr_Nums_ok {l : (List Int)} {r : Arr} (h : p_arr_Nums l = some r) : aval X 59 [.d (.list 1 (List.map (D.int .i64) l))] [] (CRes.ret (.d (encArr r)) []) := by
 unfold p_arr_Nums at h
 refine aval_start (tm := [(0, .d (.list 1 (List.map (D.int .i64) l)))]) (hp := []) (n := 0) rfl Tryz.func59 rfl rfl rfl rfl rfl rfl ?_
 refine ra (nid' := 1) rfl ?_
 refine awp_seq ?_
 refine rn 1 rfl ?_
 refine po (ellen rfl rfl rfl rfl rfl rfl rfl) rfl rfl ?_
 refine on (nid' := 2) 4 rfl ?_
 refine rz ?_
 refine awp_seq ?_
 refine awp_seq ?_
 refine rn 1 rfl ?_
 refine po (ellen rfl rfl rfl rfl rfl rfl rfl) rfl rfl ?_
 refine on 1 rfl ?_
 refine rz ?_
 obtain ⟨a11, hs, h⟩ := bind_inv h
 refine awp_nrm (fun (a11 : (List Cell)) => (⟨[(2, .c (.ptr 0 0)), (3, .c (.ptr 1 0))], [(1, [.d (.list 1 (List.map (D.int .i64) [(List.length l : Int)])), .own 3 (List.map encCell a11)]), (0, [.own 1 (List.map (D.int .i64) []), .own 3 (List.map encCell [])])], 2, [], none⟩ : St)) (y := a11) ?_ ?_
 ·replace h := hs
  refine awp_block ?_
  refine awp_loop ?_
  exact awpL_at rfl rfl (p_arr_Nums_l0_ok _ _ h)
 ·refine seqQ.normal ?_
  refine ra rfl ?_
  refine awp_ret ?_
  cases h
  exact .ret rfl rfl
theorem p_jlex_number_l0_ok : ∀ (a : Str × Int × Int × Bool) (res : Int × Int × Bool), p_jlex_number_l0 a = some res → (match a with | (s, k1, n, ok) => awpL X 57 (codeAt [1, 1, 1, 1, 0, 0, 0] (bodyOf Tryz.f57)) (cleanAt (X.H 57 5) 0) (exitQ 0 (X.H 57 1000000) 0 (NrmQ (fun ((k2, n2, ok2) : Int × Int × Bool) => (⟨[(0, .d (.str s)), (5, .d (.int .i64 k2)), (6, .d (.int .u64 n2)), (7, .d (.bool ok2))], [], 0, [], none⟩ : St)) res)) ⟨[(0, .d (.str s)), (5, .d (.int .i64 k1)), (6, .d (.int .u64 n)), (7, .d (.bool ok))], [], 0, [], none⟩) := by
 refine p_jlex_number_l0.partial_correctness _ ?_
 rintro p_jlex_number_l0' ih ⟨s, k1, n, ok⟩ res h
 refine lg rfl ?_
 refine awp_seq ?_
 refine awp_seq ?_
 refine rn 2 rfl ?_
 obtain ⟨x, hk, h⟩ := bind_inv h
 refine po (ecall (p_jlex_at_ok hk) rfl rfl rfl rfl rfl rfl rfl rfl rfl) rfl rfl ?_
 obtain ⟨x1, hk, h⟩ := bind_inv h
 refine po (ecall (p_jlex_digit_ok hk) rfl rfl rfl rfl rfl rfl rfl rfl rfl) rfl rfl ?_
 refine rz ?_
 rcases ite_inv h with ⟨hc, h⟩ | ⟨hc, h⟩
 ·refine ct rfl hc ?_
  refine awp_skip ?_
  refine cn rfl ?_
  refine seqQ.normal ?_
  refine awp_seq ?_
  obtain ⟨⟨n1, ok1⟩, hs, h⟩ := bind_inv h
  refine awp_nrm (fun ((n1, ok1) : Int × Bool) => (⟨[(0, .d (.str s)), (5, .d (.int .i64 k1)), (6, .d (.int .u64 n1)), (7, .d (.bool ok1))], [], 0, [], none⟩ : St)) (y := (n1, ok1)) ?_ ?_
  ·replace h := hs
   refine awp_block ?_
   refine awp_seq ?_
   refine rn 2 rfl ?_
   obtain ⟨c1, hk, h⟩ := bind_inv h
   refine po (esget hk rfl rfl rfl rfl) rfl rfl ?_
   refine on 3 rfl ?_
   refine rz ?_
   refine awp_seq ?_
   refine rn 2 rfl ?_
   rcases ite_inv h with ⟨hc, h⟩ | ⟨hc, h⟩
   ·refine gt rfl rfl rfl rfl hc rfl ?_
    refine on 7 rfl ?_
    refine rz ?_
    refine rn 5 rfl ?_
    refine awpO_nil ?_
    refine en rfl ?_
    cases h
    exact .ok rfl
   ·refine gf rfl rfl rfl rfl hc rfl ?_
    refine on 7 rfl ?_
    refine rz ?_
    refine rn 5 rfl ?_
    refine awpO_nil ?_
    refine en rfl ?_
    cases h
    exact .ok rfl
  ·refine seqQ.normal ?_
   refine rn 3 rfl ?_
   refine awpO_nil ?_
   refine loopQ.normal ?_
   exact awpL_at rfl rfl (ih _ _ h)
 ·refine cf rfl hc ?_
  refine awp_exit ?_
  refine condQ.exit ?_
  refine seqQ.exit ?_
  refine loopQ.exit ?_
  refine eh rfl ?_
  cases h
  exact .ok rfl
theorem p_jlex_number_ok {s : Str} {r : Int × Int × Bool} (h : p_jlex_number s = some r) : aval X 57 [.d (.str s)] [] (CRes.ret (.tuple [.d (.int .i64 r.1), .d (.int .i64 r.2.1), .d (.bool r.2.2)]) []) := by
 unfold p_jlex_number at h
 refine aval_start (tm := [(0, .d (.str s))]) (hp := []) (n := 0) rfl Tryz.func57 rfl rfl rfl rfl rfl rfl ?_
 refine ra rfl ?_
 refine ra rfl ?_
 refine awp_seq ?_
 refine awp_seq ?_
 refine rn 1 rfl ?_
 obtain ⟨c, hk, h⟩ := bind_inv h
 refine po (esget hk rfl rfl rfl rfl) rfl rfl ?_
 refine on 1 rfl ?_
 refine rz ?_
 obtain ⟨k, hs, h⟩ := bind_inv h
 refine awp_nrm (fun (k : Int) => (⟨[(0, .d (.str s)), (5, .d (.int .i64 k))], [], 0, [], none⟩ : St)) (y := k) ?_ ?_
 ·replace h := hs
  rcases ite_inv h with ⟨hc, h⟩ | ⟨hc, h⟩
  ·refine ct rfl hc ?_
   refine rn 1 rfl ?_
   refine awpO_nil ?_
   refine cn rfl ?_
   cases h
   exact .ok rfl
  ·refine cf rfl hc ?_
   refine awp_skip ?_
   refine cn rfl ?_
   cases h
   exact .ok rfl
 ·refine seqQ.normal ?_
  refine ra rfl ?_
  refine awp_seq ?_
  obtain ⟨⟨k2, n2, ok2⟩, hs, h⟩ := bind_inv h
  refine awp_nrm (fun ((k2, n2, ok2) : Int × Int × Bool) => (⟨[(0, .d (.str s)), (5, .d (.int .i64 k2)), (6, .d (.int .u64 n2)), (7, .d (.bool ok2))], [], 0, [], none⟩ : St)) (y := (k2, n2, ok2)) ?_ ?_
  ·replace h := hs
   refine awp_block ?_
   refine awp_loop ?_
   exact awpL_at rfl rfl (p_jlex_number_l0_ok _ _ h)
  ·refine seqQ.normal ?_
   refine awp_seq ?_
   refine awp_seq ?_
   refine rn 1 rfl ?_
   obtain ⟨c2, hk, h⟩ := bind_inv h
   refine po (esget hk rfl rfl rfl rfl) rfl rfl ?_
   refine on 1 rfl ?_
   refine rz ?_
   rcases ite_inv h with ⟨hc, h⟩ | ⟨hc, h⟩
   ·refine ct rfl hc ?_
    refine ra rfl ?_
    refine awp_ret ?_
    refine condQ.ret ?_
    refine seqQ.ret ?_
    cases h
    exact .ret rfl rfl
   ·refine cf rfl hc ?_
    refine awp_skip ?_
    refine cn rfl ?_
    refine seqQ.normal ?_
    refine awp_seq ?_
    refine rn 5 rfl ?_
    rcases ite_inv h with ⟨hc, h⟩ | ⟨hc, h⟩
    ·refine gt rfl rfl rfl rfl hc rfl ?_
     refine on 6 rfl ?_
     refine rz ?_
     refine awp_ret ?_
     cases h
     exact .ret rfl rfl
    ·refine gf rfl rfl rfl rfl hc rfl ?_
     refine on 6 rfl ?_
     refine rz ?_
     refine awp_ret ?_
     cases h
     exact .ret rfl rfl
theorem p_jlex_numbers_l1_ok (i : Int) (k : Int) (l1 : List Int) : ∀ (a : Str × Int) (res : Int), p_jlex_numbers_l1 a = some res → (match a with | (s, j) => awpL X 28 (codeAt [1, 0, 1, 1, 1, 0, 0, 0, 0, 1, 1, 1, 1, 0, 0, 0] (bodyOf Tryz.f28)) (cleanAt (X.H 28 8) 1) (exitQ 2 (X.H 28 1000002) 1 (NrmQ (fun (j1 : Int) => (⟨[(0, .d (.str s)), (2, .c (.ptr 0 0)), (5, .c (.own 1 (List.map (D.int .i64) l1))), (6, .d (.int .i64 (w64 (i + k)))), (10, .d (.int .i64 j1))], [(0, [.own 1 (List.map (D.int .i64) []), .own 3 (List.map encCell [])])], 1, [], none⟩ : St)) res)) ⟨[(0, .d (.str s)), (2, .c (.ptr 0 0)), (5, .c (.own 1 (List.map (D.int .i64) l1))), (6, .d (.int .i64 (w64 (i + k)))), (10, .d (.int .i64 j))], [(0, [.own 1 (List.map (D.int .i64) []), .own 3 (List.map encCell [])])], 1, [], none⟩) := by
 refine p_jlex_numbers_l1.partial_correctness _ ?_
 rintro p_jlex_numbers_l1' ih ⟨s, j⟩ res h
 refine lg rfl ?_
 refine awp_seq ?_
 refine awp_seq ?_
 refine rn 2 rfl ?_
 obtain ⟨x, hk, h⟩ := bind_inv h
 refine po (ecall (p_jlex_at_ok hk) rfl rfl rfl rfl rfl rfl rfl rfl rfl) rfl rfl ?_
 refine on 1 rfl ?_
 refine rz ?_
 rcases ite_inv h with ⟨hc, h⟩ | ⟨hc, h⟩
 ·refine ct rfl hc ?_
  refine awp_skip ?_
  refine cn rfl ?_
  refine seqQ.normal ?_
  refine awp_block ?_
  refine rn 3 rfl ?_
  refine awpO_nil ?_
  refine en rfl ?_
  refine loopQ.normal ?_
  exact awpL_at rfl rfl (ih _ _ h)
 ·refine cf rfl hc ?_
  refine awp_exit ?_
  refine condQ.exit ?_
  refine seqQ.exit ?_
  refine loopQ.exit ?_
  refine eh rfl ?_
  cases h
  exact .ok rfl
theorem p_jlex_numbers_l0_ok : ∀ (a : Str × (List Int) × Int) (res : Except (Arr × Int × Int) ((List Int) × Int)), p_jlex_numbers_l0 a = some res → (match a with | (s, l, i) => awpL X 28 (codeAt [1, 0, 1, 1, 1, 0, 0, 0] (bodyOf Tryz.f28)) (cleanAt (X.H 28 3) 1) (exitQ 0 (X.H 28 1000000) 1 (SubQ X Tryz.f28 0 (fun (r : Arr × Int × Int) => (CRes.ret (.tuple [.d (encArr r.1), .d (.int .i64 r.2.1), .d (.int .i64 r.2.2)]) [])) (fun ((l2, i1) : (List Int) × Int) => (⟨[(2, .c (.ptr 0 0)), (5, .c (.own 1 (List.map (D.int .i64) l2))), (6, .d (.int .i64 i1))], [(0, [.own 1 (List.map (D.int .i64) []), .own 3 (List.map encCell [])])], 1, [], none⟩ : St)) res)) ⟨[(0, .d (.str s)), (2, .c (.ptr 0 0)), (5, .c (.own 1 (List.map (D.int .i64) l))), (6, .d (.int .i64 i))], [(0, [.own 1 (List.map (D.int .i64) []), .own 3 (List.map encCell [])])], 1, [], none⟩) := by
 refine p_jlex_numbers_l0.partial_correctness _ ?_
 rintro p_jlex_numbers_l0' ih ⟨s, l, i⟩ res h
 refine lg rfl ?_
 refine awp_block ?_
 refine awp_seq ?_
 refine rn 2 rfl ?_
 obtain ⟨s1, hk, h⟩ := bind_inv h
 refine po (esfrom hk rfl rfl rfl rfl) rfl rfl ?_
 obtain ⟨⟨n, k, ok⟩, hk, h⟩ := bind_inv h
 refine po (ecall (p_jlex_number_ok hk) rfl rfl rfl rfl rfl rfl rfl rfl rfl) rfl rfl ?_
 refine on 7 rfl ?_
 refine rz ?_
 refine awp_seq ?_
 refine ra rfl ?_
 rcases ite_inv h with ⟨hc, h⟩ | ⟨hc, h⟩
 ·refine ct rfl hc ?_
  refine ra rfl ?_
  refine awp_ret ?_
  refine condQ.ret ?_
  refine seqQ.ret ?_
  refine exitQ.ret ?_
  refine loopQ.ret ?_
  refine exitQ.ret ?_
  cases h
  exact .err rfl (.ret rfl rfl)
 ·refine cf rfl hc ?_
  refine awp_skip ?_
  refine cn rfl ?_
  refine seqQ.normal ?_
  refine awp_seq ?_
  refine rn 3 rfl ?_
  obtain ⟨l1, hk, h⟩ := bind_inv h
  refine po (eappv hk rfl rfl rfl rfl rfl rfl rfl rfl rfl rfl rfl rfl rfl ) rfl rfl ?_
  refine on 5 rfl ?_
  refine rz ?_
  refine ra rfl ?_
  refine awp_seq ?_
  obtain ⟨j1, hs, h⟩ := bind_inv h
  refine awp_nrm (fun (j1 : Int) => (⟨[(0, .d (.str s)), (2, .c (.ptr 0 0)), (5, .c (.own 1 (List.map (D.int .i64) l1))), (6, .d (.int .i64 (w64 (i + k)))), (10, .d (.int .i64 j1))], [(0, [.own 1 (List.map (D.int .i64) []), .own 3 (List.map encCell [])])], 1, [], none⟩ : St)) (y := j1) ?_ ?_
  ·replace h := hs
   refine awp_block ?_
   refine awp_loop ?_
   exact awpL_at rfl rfl (p_jlex_numbers_l1_ok i k l1 _ _ h)
  ·refine seqQ.normal ?_
   refine awp_seq ?_
   refine awp_seq ?_
   refine rn 4 rfl ?_
   rcases ite_inv h with ⟨hc, h⟩ | ⟨hc, h⟩
   ·refine gt rfl rfl rfl rfl hc rfl ?_
    refine on 6 rfl ?_
    refine rz ?_
    refine ct rfl rfl ?_
    refine awp_exit ?_
    refine condQ.exit ?_
    refine seqQ.exit ?_
    refine exitQ.there rfl ?_
    refine loopQ.exit ?_
    refine eh rfl ?_
    cases h
    exact .ok rfl
   ·refine gf rfl rfl rfl rfl hc rfl ?_
    refine on 2 rfl ?_
    obtain ⟨s2, hk, h⟩ := bind_inv h
    refine po (esfrom hk rfl rfl rfl rfl) rfl rfl ?_
    obtain ⟨x1, hk, h⟩ := bind_inv h
    refine po (ecall (p_jlex_begins_ok hk) rfl rfl rfl rfl rfl rfl rfl rfl rfl) rfl rfl ?_
    refine on 2 rfl ?_
    refine rz ?_
    rcases ite_inv h with ⟨hc, h⟩ | ⟨hc, h⟩
    ·refine ct rfl hc ?_
     refine awp_exit ?_
     refine condQ.exit ?_
     refine seqQ.exit ?_
     refine exitQ.there rfl ?_
     refine loopQ.exit ?_
     refine eh rfl ?_
     cases h
     exact .ok rfl
    ·refine cf rfl hc ?_
     refine awp_skip ?_
     refine cn rfl ?_
     refine seqQ.normal ?_
     refine rn 2 rfl ?_
     refine awpO_nil ?_
     refine en rfl ?_
     refine loopQ.normal ?_
     exact awpL_at rfl rfl (ih _ _ h)
theorem p_jlex_numbers_ok {s : Str} {r : Arr × Int × Int} (h : p_jlex_numbers s = some r) : aval X 28 [.d (.str s)] [] (CRes.ret (.tuple [.d (encArr r.1), .d (.int .i64 r.2.1), .d (.int .i64 r.2.2)]) []) := by
 unfold p_jlex_numbers at h
 refine aval_start (tm := [(0, .d (.str s))]) (hp := []) (n := 0) rfl Tryz.func28 rfl rfl rfl rfl rfl rfl ?_
 refine ra (nid' := 1) rfl ?_
 refine awp_scope ?_
 refine ra rfl ?_
 refine ra rfl ?_
 refine awp_seq ?_
 refine awp_label ?_
 refine seqQ.normal ?_
 refine awp_seq ?_
 obtain ⟨res, hs, h⟩ := bind_inv h
 refine awp_sub Tryz.f28 0 (fun (r : Arr × Int × Int) => (CRes.ret (.tuple [.d (encArr r.1), .d (.int .i64 r.2.1), .d (.int .i64 r.2.2)]) [])) (fun ((l2, i1) : (List Int) × Int) => (⟨[(2, .c (.ptr 0 0)), (5, .c (.own 1 (List.map (D.int .i64) l2))), (6, .d (.int .i64 i1))], [(0, [.own 1 (List.map (D.int .i64) []), .own 3 (List.map encCell [])])], 1, [], none⟩ : St)) (res := res) ?_ (fun y hy => ?_) (fun r x s' hr hx he => ?_)
 ·replace h := hs
  refine awp_block ?_
  refine awp_loop ?_
  exact awpL_at rfl rfl (p_jlex_numbers_l0_ok _ _ h)
 ·subst hy
  obtain ⟨l2, i1⟩ := y
  refine seqQ.normal ?_
  refine awp_seq ?_
  refine awp_seq ?_
  refine rn 1 rfl ?_
  refine po (ellen rfl rfl rfl rfl rfl rfl rfl) rfl rfl ?_
  refine on 1 rfl ?_
  refine rz ?_
  rcases ite_inv h with ⟨hc, h⟩ | ⟨hc, h⟩
  ·refine ct rfl hc ?_
   refine awp_seq ?_
   refine rn 1 rfl ?_
   obtain ⟨y, hk, h⟩ := bind_inv h
   refine po (elget (D.int .i64) (fun _ => rfl) hk rfl rfl rfl rfl rfl) rfl rfl ?_
   refine on 1 rfl ?_
   obtain ⟨x2, hk, h⟩ := bind_inv h
   refine po (ecall (p_arr_Atom_ok hk) rfl rfl rfl rfl rfl rfl rfl rfl rfl) rfl rfl ?_
   refine on 4 rfl ?_
   refine rz ?_
   refine awp_ret ?_
   refine condQ.ret ?_
   refine seqQ.ret ?_
   cases h
   exact .ret rfl rfl
  ·refine cf rfl hc ?_
   refine awp_skip ?_
   refine cn rfl ?_
   refine seqQ.normal ?_
   refine awp_seq ?_
   refine rn 1 rfl ?_
   obtain ⟨x3, hk, h⟩ := bind_inv h
   refine po (ecall (p_arr_Nums_ok hk) rfl rfl rfl rfl rfl rfl rfl rfl rfl) rfl rfl ?_
   refine on 4 rfl ?_
   refine rz ?_
   refine awp_ret ?_
   cases h
   exact .ret rfl rfl
 ·subst hr
  refine seqQ.out hx ?_
  cases h
  exact he
theorem p_arr_Text_l0_ok (a0 : List Int) : ∀ (a : ((List Int)) × Int × (List Cell)) (res : (List Cell)), p_arr_Text_l0 a = some res → (match a with | (l, x, a1) => awpL X 60 (codeAt [1, 1, 1, 0, 1, 0, 0] (bodyOf Tryz.f60)) (cleanAt (X.H 60 5) 2) (exitQ 0 (X.H 60 1000000) 2 (NrmQ (fun (a11 : (List Cell)) => (⟨[(2, .c (.ptr 0 0)), (3, .c (.ptr 1 0))], [(1, [.d (.list 1 (List.map (D.int .i64) a0)), .own 3 (List.map encCell a11)]), (0, [.own 1 (List.map (D.int .i64) []), .own 3 (List.map encCell [])])], 2, [], none⟩ : St)) res)) ⟨[(2, .c (.ptr 0 0)), (3, .c (.ptr 1 0)), (14, .d (.list 1 (List.map (D.int .i64) l))), (15, .d (.int .i64 (List.length l : Int))), (16, .d (.int .i64 x))], [(1, [.d (.list 1 (List.map (D.int .i64) a0)), .own 3 (List.map encCell a1)]), (0, [.own 1 (List.map (D.int .i64) []), .own 3 (List.map encCell [])])], 2, [], none⟩) := by
 refine p_arr_Text_l0.partial_correctness _ ?_
 rintro p_arr_Text_l0' ih ⟨l, x, a1⟩ res h
 refine lg rfl ?_
 refine ra rfl ?_
 refine awp_seq ?_
 rcases ite_inv h with ⟨hc, h⟩ | ⟨hc, h⟩
 ·refine ct rfl hc ?_
  refine awp_skip ?_
  refine cn rfl ?_
  refine seqQ.normal ?_
  refine awp_seq ?_
  refine awp_block ?_
  refine awp_seq ?_
  refine rn 0 rfl ?_
  obtain ⟨n, hk, h⟩ := bind_inv h
  refine po (elget (D.int .i64) (fun _ => rfl) hk rfl rfl rfl rfl rfl) rfl rfl ?_
  refine on 2 rfl ?_
  refine rz ?_
  refine rn 5 rfl ?_
  obtain ⟨l1, hk, h⟩ := bind_inv h
  refine po (eappc hk rfl rfl rfl rfl rfl rfl rfl rfl rfl rfl rfl rfl rfl rfl ) rfl rfl ?_
  refine on 2 rfl ?_
  refine awpO_nil ?_
  refine en rfl ?_
  refine seqQ.normal ?_
  refine rn 2 rfl ?_
  refine awpO_nil ?_
  refine loopQ.normal ?_
  exact awpL_at rfl rfl (ih _ _ h)
 ·refine cf rfl hc ?_
  refine awp_exit ?_
  refine condQ.exit ?_
  refine seqQ.exit ?_
  refine loopQ.exit ?_
  refine eh rfl ?_
  cases h
  exact .ok rfl
theorem p_arr_Text_ok {l : (List Int)} {r : Arr} (h : p_arr_Text l = some r) : aval X 60 [.d (.list 1 (List.map (D.int .i64) l))] [] (CRes.ret (.d (encArr r)) []) := by
 unfold p_arr_Text at h
 refine aval_start (tm := [(0, .d (.list 1 (List.map (D.int .i64) l)))]) (hp := []) (n := 0) rfl Tryz.func60 rfl rfl rfl rfl rfl rfl ?_
 refine ra (nid' := 1) rfl ?_
 refine awp_seq ?_
 refine rn 1 rfl ?_
 refine po (ellen rfl rfl rfl rfl rfl rfl rfl) rfl rfl ?_
 refine on (nid' := 2) 4 rfl ?_
 refine rz ?_
 refine awp_seq ?_
 refine awp_seq ?_
 refine rn 1 rfl ?_
 refine po (ellen rfl rfl rfl rfl rfl rfl rfl) rfl rfl ?_
 refine on 1 rfl ?_
 refine rz ?_
 obtain ⟨a0, hs, h⟩ := bind_inv h
 refine awp_nrm (fun (a0 : (List Int)) => (⟨[(0, .d (.list 1 (List.map (D.int .i64) l))), (2, .c (.ptr 0 0)), (3, .c (.ptr 1 0))], [(1, [.d (.list 1 (List.map (D.int .i64) a0)), .own 3 (List.map encCell [])]), (0, [.own 1 (List.map (D.int .i64) []), .own 3 (List.map encCell [])])], 2, [], none⟩ : St)) (y := a0) ?_ ?_
 ·replace h := hs
  rcases ite_inv h with ⟨hc, h⟩ | ⟨hc, h⟩
  ·refine ct rfl hc ?_
   refine rn 2 rfl ?_
   refine awpO_nil ?_
   refine cn rfl ?_
   cases h
   exact .ok rfl
  ·refine cf rfl hc ?_
   refine awp_skip ?_
   refine cn rfl ?_
   cases h
   exact .ok rfl
 ·refine seqQ.normal ?_
  refine awp_seq ?_
  refine awp_seq ?_
  refine rn 1 rfl ?_
  refine po (ellen rfl rfl rfl rfl rfl rfl rfl) rfl rfl ?_
  refine on 1 rfl ?_
  refine rz ?_
  obtain ⟨a11, hs, h⟩ := bind_inv h
  refine awp_nrm (fun (a11 : (List Cell)) => (⟨[(2, .c (.ptr 0 0)), (3, .c (.ptr 1 0))], [(1, [.d (.list 1 (List.map (D.int .i64) a0)), .own 3 (List.map encCell a11)]), (0, [.own 1 (List.map (D.int .i64) []), .own 3 (List.map encCell [])])], 2, [], none⟩ : St)) (y := a11) ?_ ?_
  ·replace h := hs
   refine awp_block ?_
   refine awp_loop ?_
   exact awpL_at rfl rfl (p_arr_Text_l0_ok a0 _ _ h)
  ·refine seqQ.normal ?_
   refine ra rfl ?_
   refine awp_ret ?_
   cases h
   exact .ret rfl rfl
theorem p_runes_Good_ok {n : Int} {r : Bool} (h : p_runes_Good n = some r) : aval X 55 [.d (.int .i64 n)] [] (CRes.ret (.d (.bool r)) []) := by
 unfold p_runes_Good at h
 refine aval_start (tm := [(0, .d (.int .i64 n))]) (hp := []) (n := 0) rfl Tryz.func55 rfl rfl rfl rfl rfl rfl ?_
 refine ra rfl ?_
 refine awp_seq ?_
 refine rn 3 rfl ?_
 rcases ite_inv h with ⟨hc, h⟩ | ⟨hc, h⟩
 ·refine gt rfl rfl rfl rfl hc rfl ?_
  refine on 4 rfl ?_
  rcases ite_inv h with ⟨hc, h⟩ | ⟨hc, h⟩
  ·refine gt rfl rfl rfl rfl hc rfl ?_
   refine on 3 rfl ?_
   rcases ite_inv h with ⟨hc, h⟩ | ⟨hc, h⟩
   ·refine gt rfl rfl rfl rfl hc rfl ?_
    refine on 5 rfl ?_
    refine rz ?_
    refine awp_ret ?_
    cases h
    exact .ret rfl rfl
   ·refine gf rfl rfl rfl rfl hc rfl ?_
    refine on 5 rfl ?_
    refine rz ?_
    refine awp_ret ?_
    cases h
    exact .ret rfl rfl
  ·refine gf rfl rfl rfl rfl hc rfl ?_
   refine on 8 rfl ?_
   refine rz ?_
   refine awp_ret ?_
   cases h
   exact .ret rfl rfl
 ·refine gf rfl rfl rfl rfl hc rfl ?_
  refine on 12 rfl ?_
  refine rz ?_
  refine awp_ret ?_
  cases h
  exact .ret rfl rfl
theorem p_runes_first_ok {c : Int} {r : Int × Int} (h : p_runes_first c = some r) : aval X 54 [.d (.int .u8 c)] [] (CRes.ret (.tuple [.d (.int .i64 r.1), .d (.int .i64 r.2)]) []) := by
 unfold p_runes_first at h
 refine aval_start (tm := [(0, .d (.int .u8 c))]) (hp := []) (n := 0) rfl Tryz.func54 rfl rfl rfl rfl rfl rfl ?_
 refine ra rfl ?_
 refine awp_seq ?_
 refine awp_block ?_
 refine awp_seq ?_
 refine awp_block ?_
 refine awp_seq ?_
 refine awp_block ?_
 refine awp_seq ?_
 refine awp_block ?_
 refine awp_block ?_
 refine awp_seq ?_
 refine awp_block ?_
 refine awp_seq ?_
 refine awp_seq ?_
 refine ra rfl ?_
 rcases ite_inv h with ⟨hc, h⟩ | ⟨hc, h⟩
 ·refine ct rfl hc ?_
  refine awp_exit ?_
  refine condQ.exit ?_
  refine seqQ.exit ?_
  refine seqQ.exit ?_
  refine eh rfl ?_
  refine seqQ.normal ?_
  refine awp_seq ?_
  refine ra rfl ?_
  refine awp_ret ?_
  refine seqQ.ret ?_
  refine exitQ.ret ?_
  refine exitQ.ret ?_
  refine seqQ.ret ?_
  refine exitQ.ret ?_
  refine seqQ.ret ?_
  refine exitQ.ret ?_
  refine seqQ.ret ?_
  refine exitQ.ret ?_
  refine seqQ.ret ?_
  cases h
  exact .ret rfl rfl
 ·refine cf rfl hc ?_
  refine awp_skip ?_
  refine cn rfl ?_
  refine seqQ.normal ?_
  refine awp_seq ?_
  refine ra rfl ?_
  rcases ite_inv h with ⟨hc, h⟩ | ⟨hc, h⟩
  ·refine ct rfl hc ?_
   refine awp_exit ?_
   refine condQ.exit ?_
   refine seqQ.exit ?_
   refine seqQ.exit ?_
   refine exitQ.there rfl ?_
   refine seqQ.exit ?_
   refine eh rfl ?_
   refine en rfl ?_
   refine seqQ.normal ?_
   refine awp_seq ?_
   refine ra rfl ?_
   refine awp_ret ?_
   refine seqQ.ret ?_
   refine exitQ.ret ?_
   refine seqQ.ret ?_
   refine exitQ.ret ?_
   refine seqQ.ret ?_
   refine exitQ.ret ?_
   refine seqQ.ret ?_
   cases h
   exact .ret rfl rfl
  ·refine cf rfl hc ?_
   refine awp_skip ?_
   refine cn rfl ?_
   refine seqQ.normal ?_
   refine awp_seq ?_
   refine ra rfl ?_
   rcases ite_inv h with ⟨hc, h⟩ | ⟨hc, h⟩
   ·refine ct rfl hc ?_
    refine awp_exit ?_
    refine condQ.exit ?_
    refine seqQ.exit ?_
    refine seqQ.exit ?_
    refine exitQ.there rfl ?_
    refine seqQ.exit ?_
    refine exitQ.there rfl ?_
    refine eh rfl ?_
    refine seqQ.normal ?_
    refine awp_seq ?_
    refine ra rfl ?_
    refine awp_ret ?_
    refine seqQ.ret ?_
    refine exitQ.ret ?_
    refine seqQ.ret ?_
    refine exitQ.ret ?_
    refine seqQ.ret ?_
    refine exitQ.ret ?_
    refine seqQ.ret ?_
    cases h
    exact .ret rfl rfl
   ·refine cf rfl hc ?_
    refine awp_skip ?_
    refine cn rfl ?_
    refine seqQ.normal ?_
    refine awp_seq ?_
    refine ra rfl ?_
    rcases ite_inv h with ⟨hc, h⟩ | ⟨hc, h⟩
    ·refine ct rfl hc ?_
     refine awp_exit ?_
     refine condQ.exit ?_
     refine seqQ.exit ?_
     refine seqQ.exit ?_
     refine exitQ.there rfl ?_
     refine seqQ.exit ?_
     refine exitQ.there rfl ?_
     refine exitQ.there rfl ?_
     refine seqQ.exit ?_
     refine eh rfl ?_
     refine seqQ.normal ?_
     refine awp_seq ?_
     refine ra rfl ?_
     refine awp_ret ?_
     refine seqQ.ret ?_
     refine exitQ.ret ?_
     refine seqQ.ret ?_
     refine exitQ.ret ?_
     refine seqQ.ret ?_
     cases h
     exact .ret rfl rfl
    ·refine cf rfl hc ?_
     refine awp_skip ?_
     refine cn rfl ?_
     refine seqQ.normal ?_
     refine ra rfl ?_
     rcases ite_inv h with ⟨hc, h⟩ | ⟨hc, h⟩
     ·refine ct rfl hc ?_
      refine awp_exit ?_
      refine condQ.exit ?_
      refine seqQ.exit ?_
      refine exitQ.there rfl ?_
      refine seqQ.exit ?_
      refine exitQ.there rfl ?_
      refine exitQ.there rfl ?_
      refine seqQ.exit ?_
      refine exitQ.there rfl ?_
      refine seqQ.exit ?_
      refine eh rfl ?_
      refine seqQ.normal ?_
      refine awp_seq ?_
      refine ra rfl ?_
      refine awp_ret ?_
      refine seqQ.ret ?_
      refine exitQ.ret ?_
      refine seqQ.ret ?_
      cases h
      exact .ret rfl rfl
     ·refine cf rfl hc ?_
      refine awp_skip ?_
      refine cn rfl ?_
      refine seqQ.normal ?_
      refine awp_exit ?_
      refine exitQ.there rfl ?_
      refine seqQ.exit ?_
      refine exitQ.there rfl ?_
      refine exitQ.there rfl ?_
      refine seqQ.exit ?_
      refine exitQ.there rfl ?_
      refine seqQ.exit ?_
      refine exitQ.there rfl ?_
      refine seqQ.exit ?_
      refine eh rfl ?_
      refine seqQ.normal ?_
      refine ra rfl ?_
      refine awp_ret ?_
      cases h
      exact .ret rfl rfl
theorem p_runes_put_nil_ok {n : Int} {r : (List Int)} (h : p_runes_put_nil n = some r) : aval X 56 [.nilsl 1, .d (.int .i64 n)] [] (CRes.ret (.d (.list 1 (List.map (D.int .u8) r))) []) := by
 unfold p_runes_put_nil at h
 refine aval_start (tm := [(0, .c (.nilsl 1)), (1, .d (.int .i64 n))]) (hp := []) (n := 0) rfl Tryz.func56 rfl rfl rfl rfl rfl rfl ?_
 refine ra rfl ?_
 refine awp_seq ?_
 refine awp_block ?_
 refine ra rfl ?_
 rcases ite_inv h with ⟨hc, h⟩ | ⟨hc, h⟩
 ·refine ct rfl hc ?_
  refine awp_seq ?_
  refine rn 4 rfl ?_
  obtain ⟨l, hk, h⟩ := bind_inv h
  refine po (eappn hk rfl rfl rfl rfl rfl rfl rfl rfl rfl rfl rfl rfl ) rfl rfl ?_
  refine on 1 rfl ?_
  refine rz ?_
  refine awp_ret ?_
  refine condQ.ret ?_
  refine exitQ.ret ?_
  refine seqQ.ret ?_
  cases h
  exact .ret rfl rfl
 ·refine cf rfl hc ?_
  refine ra rfl ?_
  rcases ite_inv h with ⟨hc, h⟩ | ⟨hc, h⟩
  ·refine ct rfl hc ?_
   refine awp_seq ?_
   refine rn 10 rfl ?_
   obtain ⟨l1, hk, h⟩ := bind_inv h
   refine po (eappn hk rfl rfl rfl rfl rfl rfl rfl rfl rfl rfl rfl rfl ) rfl rfl ?_
   refine on 1 rfl ?_
   refine rz ?_
   refine awp_ret ?_
   refine condQ.ret ?_
   refine condQ.ret ?_
   refine exitQ.ret ?_
   refine seqQ.ret ?_
   cases h
   exact .ret rfl rfl
  ·refine cf rfl hc ?_
   refine ra rfl ?_
   rcases ite_inv h with ⟨hc, h⟩ | ⟨hc, h⟩
   ·refine ct rfl hc ?_
    refine awp_seq ?_
    refine rn 15 rfl ?_
    obtain ⟨l2, hk, h⟩ := bind_inv h
    refine po (eappn hk rfl rfl rfl rfl rfl rfl rfl rfl rfl rfl rfl rfl ) rfl rfl ?_
    refine on 1 rfl ?_
    refine rz ?_
    refine awp_ret ?_
    refine condQ.ret ?_
    refine condQ.ret ?_
    refine condQ.ret ?_
    refine exitQ.ret ?_
    refine seqQ.ret ?_
    cases h
    exact .ret rfl rfl
   ·refine cf rfl hc ?_
    refine awp_skip ?_
    refine cn rfl ?_
    refine cn rfl ?_
    refine cn rfl ?_
    refine en rfl ?_
    refine seqQ.normal ?_
    refine awp_seq ?_
    refine rn 20 rfl ?_
    obtain ⟨l3, hk, h⟩ := bind_inv h
    refine po (eappn hk rfl rfl rfl rfl rfl rfl rfl rfl rfl rfl rfl rfl ) rfl rfl ?_
    refine on 1 rfl ?_
    refine rz ?_
    refine awp_ret ?_
    cases h
    exact .ret rfl rfl
theorem p_runes_One_l0_ok (k : Int) : ∀ (a : (List Int) × Int × Int) (res : Except (Int × Int) (Int)), p_runes_One_l0 a = some res → (match a with | (l, n1, x) => awpL X 26 (codeAt [1, 1, 1, 1, 0, 1, 0, 0] (bodyOf Tryz.f26)) (cleanAt (X.H 26 7) 0) (exitQ 0 (X.H 26 1000000) 0 (SubQ X Tryz.f26 0 (fun (r : Int × Int) => (CRes.ret (.tuple [.d (.int .i64 r.1), .d (.int .i64 r.2)]) [])) (fun (n2 : Int) => (⟨[(4, .d (.int .i64 k)), (5, .d (.int .i64 n2))], [], 0, [], none⟩ : St)) res)) ⟨[(4, .d (.int .i64 k)), (5, .d (.int .i64 n1)), (28, .d (.list 1 (List.map (D.int .u8) l))), (29, .d (.int .i64 (List.length l : Int))), (30, .d (.int .i64 x))], [], 0, [], none⟩) := by
 refine p_runes_One_l0.partial_correctness _ ?_
 rintro p_runes_One_l0' ih ⟨l, n1, x⟩ res h
 refine lg rfl ?_
 refine ra rfl ?_
 refine awp_seq ?_
 rcases ite_inv h with ⟨hc, h⟩ | ⟨hc, h⟩
 ·refine ct rfl hc ?_
  refine awp_skip ?_
  refine cn rfl ?_
  refine seqQ.normal ?_
  refine awp_seq ?_
  refine awp_block ?_
  refine awp_seq ?_
  refine rn 0 rfl ?_
  obtain ⟨c, hk, h⟩ := bind_inv h
  refine po (elget (D.int .u8) (fun _ => rfl) hk rfl rfl rfl rfl rfl) rfl rfl ?_
  refine on 2 rfl ?_
  refine rz ?_
  refine awp_seq ?_
  refine ra rfl ?_
  rcases ite_inv h with ⟨hc, h⟩ | ⟨hc, h⟩
  ·refine ct rfl hc ?_
   refine ra rfl ?_
   refine awp_ret ?_
   refine condQ.ret ?_
   refine seqQ.ret ?_
   refine exitQ.ret ?_
   refine seqQ.ret ?_
   refine loopQ.ret ?_
   refine exitQ.ret ?_
   cases h
   exact .err rfl (.ret rfl rfl)
  ·refine cf rfl hc ?_
   refine awp_skip ?_
   refine cn rfl ?_
   refine seqQ.normal ?_
   refine rn 7 rfl ?_
   refine awpO_nil ?_
   refine en rfl ?_
   refine seqQ.normal ?_
   refine rn 2 rfl ?_
   refine awpO_nil ?_
   refine loopQ.normal ?_
   exact awpL_at rfl rfl (ih _ _ h)
 ·refine cf rfl hc ?_
  refine awp_exit ?_
  refine condQ.exit ?_
  refine seqQ.exit ?_
  refine loopQ.exit ?_
  refine eh rfl ?_
  cases h
  exact .ok rfl
theorem p_runes_One_ok {b : (List Int)} {r : Int × Int} (h : p_runes_One b = some r) : aval X 26 [.d (.list 1 (List.map (D.int .u8) b))] [] (CRes.ret (.tuple [.d (.int .i64 r.1), .d (.int .i64 r.2)]) []) := by
 unfold p_runes_One at h
 refine aval_start (tm := [(0, .d (.list 1 (List.map (D.int .u8) b)))]) (hp := []) (n := 0) rfl Tryz.func26 rfl rfl rfl rfl rfl rfl ?_
 refine ra rfl ?_
 refine awp_seq ?_
 refine awp_seq ?_
 refine rn 1 rfl ?_
 refine po (ellen rfl rfl rfl rfl rfl rfl rfl) rfl rfl ?_
 refine on 1 rfl ?_
 refine rz ?_
 rcases ite_inv h with ⟨hc, h⟩ | ⟨hc, h⟩
 ·refine ct rfl hc ?_
  refine ra rfl ?_
  refine awp_ret ?_
  refine condQ.ret ?_
  refine seqQ.ret ?_
  cases h
  exact .ret rfl rfl
 ·refine cf rfl hc ?_
  refine awp_skip ?_
  refine cn rfl ?_
  refine seqQ.normal ?_
  refine awp_seq ?_
  refine rn 1 rfl ?_
  obtain ⟨y, hk, h⟩ := bind_inv h
  refine po (elget (D.int .u8) (fun _ => rfl) hk rfl rfl rfl rfl rfl) rfl rfl ?_
  refine on 1 rfl ?_
  obtain ⟨⟨k, n⟩, hk, h⟩ := bind_inv h
  refine po (ecall (p_runes_first_ok hk) rfl rfl rfl rfl rfl rfl rfl rfl rfl) rfl rfl ?_
  refine on 5 rfl ?_
  refine rz ?_
  refine awp_seq ?_
  refine awp_seq ?_
  refine rn 3 rfl ?_
  rcases ite_inv h with ⟨hc, h⟩ | ⟨hc, h⟩
  ·refine gt rfl rfl rfl rfl hc rfl ?_
   refine on 5 rfl ?_
   refine rz ?_
   refine ct rfl rfl ?_
   refine ra rfl ?_
   refine awp_ret ?_
   refine condQ.ret ?_
   refine seqQ.ret ?_
   cases h
   exact .ret rfl rfl
  ·refine gf rfl rfl rfl rfl hc rfl ?_
   refine on 2 rfl ?_
   refine po (ellen rfl rfl rfl rfl rfl rfl rfl) rfl rfl ?_
   refine on 2 rfl ?_
   refine rz ?_
   rcases ite_inv h with ⟨hc, h⟩ | ⟨hc, h⟩
   ·refine ct rfl hc ?_
    refine ra rfl ?_
    refine awp_ret ?_
    refine condQ.ret ?_
    refine seqQ.ret ?_
    cases h
    exact .ret rfl rfl
   ·refine cf rfl hc ?_
    refine awp_skip ?_
    refine cn rfl ?_
    refine seqQ.normal ?_
    refine awp_seq ?_
    refine awp_seq ?_
    refine rn 2 rfl ?_
    obtain ⟨l, hk, h⟩ := bind_inv h
    refine po (elmid hk rfl rfl rfl rfl rfl rfl rfl) rfl rfl ?_
    refine po (ellen rfl rfl rfl rfl rfl rfl rfl) rfl rfl ?_
    refine on 1 rfl ?_
    refine rz ?_
    obtain ⟨res, hs, h⟩ := bind_inv h
    refine awp_sub Tryz.f26 0 (fun (r : Int × Int) => (CRes.ret (.tuple [.d (.int .i64 r.1), .d (.int .i64 r.2)]) [])) (fun (n2 : Int) => (⟨[(4, .d (.int .i64 k)), (5, .d (.int .i64 n2))], [], 0, [], none⟩ : St)) (res := res) ?_ (fun y hy => ?_) (fun r x s' hr hx he => ?_)
    ·replace h := hs
     refine awp_block ?_
     refine awp_loop ?_
     exact awpL_at rfl rfl (p_runes_One_l0_ok k _ _ h)
    ·subst hy
     obtain n2 := y
     refine seqQ.normal ?_
     refine awp_seq ?_
     refine awp_seq ?_
     refine rn 1 rfl ?_
     obtain ⟨x1, hk, h⟩ := bind_inv h
     refine po (ecall (p_runes_Good_ok hk) rfl rfl rfl rfl rfl rfl rfl rfl rfl) rfl rfl ?_
     refine on 2 rfl ?_
     rcases ite_inv h with ⟨hc, h⟩ | ⟨hc, h⟩
     ·refine gt rfl rfl rfl rfl hc rfl ?_
      refine on 6 rfl ?_
      refine rz ?_
      refine ct rfl rfl ?_
      refine ra rfl ?_
      refine awp_ret ?_
      refine condQ.ret ?_
      refine seqQ.ret ?_
      cases h
      exact .ret rfl rfl
     ·refine gf rfl rfl rfl rfl hc rfl ?_
      refine on 1 rfl ?_
      obtain ⟨x2, hk, h⟩ := bind_inv h
      refine po (ecallk (p_runes_put_nil_ok hk) rfl rfl rfl rfl rfl rfl rfl) rfl rfl ?_
      refine po (ellen rfl rfl rfl rfl rfl rfl rfl) rfl rfl ?_
      refine on 3 rfl ?_
      refine rz ?_
      rcases ite_inv h with ⟨hc, h⟩ | ⟨hc, h⟩
      ·refine ct rfl hc ?_
       refine ra rfl ?_
       refine awp_ret ?_
       refine condQ.ret ?_
       refine seqQ.ret ?_
       cases h
       exact .ret rfl rfl
      ·refine cf rfl hc ?_
       refine awp_skip ?_
       refine cn rfl ?_
       refine seqQ.normal ?_
       refine ra rfl ?_
       refine awp_ret ?_
       cases h
       exact .ret rfl rfl
    ·subst hr
     refine seqQ.out hx ?_
     cases h
     exact he
theorem p_jlex_text_l0_ok : ∀ (a : Str × (List Int) × Int) (res : Except (Arr × Int × Fault) (Unit)), p_jlex_text_l0 a = some res → (match a with | (s, l, i) => awpL X 29 (codeAt [1, 1, 0, 1, 0, 0] (bodyOf Tryz.f29)) (cleanAt (X.H 29 3) 2) (exitQ 0 (X.H 29 1000000) 2 (SubQ X Tryz.f29 0 (fun (r : Arr × Int × Fault) => (CRes.ret (.tuple [.d (encArr r.1), .d (.int .i64 r.2.1), .d (encFault r.2.2)]) [])) (fun (_ : Unit) => (⟨[(2, .c (.ptr 0 0)), (4, .c (.ptr 1 0))], [(1, [.d (.int .i64 0), .d (.int .i64 0), .d (.int .i64 0)]), (0, [.own 1 (List.map (D.int .i64) []), .own 3 (List.map encCell [])])], 2, [], none⟩ : St)) res)) ⟨[(0, .d (.str s)), (2, .c (.ptr 0 0)), (4, .c (.ptr 1 0)), (5, .c (.own 1 (List.map (D.int .i64) l))), (6, .d (.int .i64 i))], [(1, [.d (.int .i64 0), .d (.int .i64 0), .d (.int .i64 0)]), (0, [.own 1 (List.map (D.int .i64) []), .own 3 (List.map encCell [])])], 2, [], none⟩) := by
 refine p_jlex_text_l0.partial_correctness _ ?_
 rintro p_jlex_text_l0' ih ⟨s, l, i⟩ res h
 refine lg rfl ?_
 refine awp_seq ?_
 refine ra rfl ?_
 rcases ite_inv h with ⟨hc, h⟩ | ⟨hc, h⟩
 ·refine ct rfl hc ?_
  refine awp_skip ?_
  refine cn rfl ?_
  refine seqQ.normal ?_
  refine awp_block ?_
  refine awp_seq ?_
  refine rn 2 rfl ?_
  obtain ⟨s1, hk, h⟩ := bind_inv h
  refine po (esfrom hk rfl rfl rfl rfl) rfl rfl ?_
  obtain ⟨b, hk, h⟩ := bind_inv h
  refine po (esbytes hk rfl rfl rfl rfl rfl rfl) rfl rfl ?_
  obtain ⟨⟨n, k⟩, hk, h⟩ := bind_inv h
  refine po (ecall (p_runes_One_ok hk) rfl rfl rfl rfl rfl rfl rfl rfl rfl) rfl rfl ?_
  refine on 5 rfl ?_
  refine rz ?_
  refine awp_seq ?_
  obtain ⟨res, hs, h⟩ := bind_inv h
  refine awp_sub Tryz.f29 0 (fun (r : Arr × Int × Fault) => (CRes.ret (.tuple [.d (encArr r.1), .d (.int .i64 r.2.1), .d (encFault r.2.2)]) [])) (fun (k1 : Int) => (⟨[(0, .d (.str s)), (2, .c (.ptr 0 0)), (4, .c (.ptr 1 0)), (5, .c (.own 1 (List.map (D.int .i64) l))), (6, .d (.int .i64 i)), (7, .d (.int .i64 n)), (8, .d (.int .i64 k1))], [(1, [.d (.int .i64 0), .d (.int .i64 0), .d (.int .i64 0)]), (0, [.own 1 (List.map (D.int .i64) []), .own 3 (List.map encCell [])])], 2, [], none⟩ : St)) (res := res) ?_ (fun y hy => ?_) (fun r x s' hr hx he => ?_)
  ·replace h := hs
   refine awp_block ?_
   refine ra rfl ?_
   rcases ite_inv h with ⟨hc, h⟩ | ⟨hc, h⟩
   ·refine ct rfl hc ?_
    refine ra rfl ?_
    refine awp_ret ?_
    refine condQ.ret ?_
    refine exitQ.ret ?_
    cases h
    exact .err rfl (.ret rfl rfl)
   ·refine cf rfl hc ?_
    refine awp_seq ?_
    refine rn 3 rfl ?_
    rcases ite_inv h with ⟨hc, h⟩ | ⟨hc, h⟩
    ·refine gt rfl rfl rfl rfl hc rfl ?_
     refine on 3 rfl ?_
     obtain ⟨x, hk, h⟩ := bind_inv h
     refine po (ecall (p_jlex_at_ok hk) rfl rfl rfl rfl rfl rfl rfl rfl rfl) rfl rfl ?_
     refine on 3 rfl ?_
     refine rz ?_
     rcases ite_inv h with ⟨hc, h⟩ | ⟨hc, h⟩
     ·refine ct rfl hc ?_
      refine awp_seq ?_
      refine rn 1 rfl ?_
      obtain ⟨x1, hk, h⟩ := bind_inv h
      refine po (ecall (p_arr_Text_ok hk) rfl rfl rfl rfl rfl rfl rfl rfl rfl) rfl rfl ?_
      refine on 6 rfl ?_
      refine rz ?_
      refine awp_ret ?_
      refine condQ.ret ?_
      refine condQ.ret ?_
      refine exitQ.ret ?_
      cases h
      exact .err rfl (.ret rfl rfl)
     ·refine cf rfl hc ?_
      refine ra rfl ?_
      rcases ite_inv h with ⟨hc, h⟩ | ⟨hc, h⟩
      ·refine ct rfl hc ?_
       refine rn 1 rfl ?_
       refine awpO_nil ?_
       refine cn rfl ?_
       refine cn rfl ?_
       refine cn rfl ?_
       refine en rfl ?_
       cases h
       exact .ok rfl
      ·refine cf rfl hc ?_
       refine awp_seq ?_
       refine rn 3 rfl ?_
       rcases ite_inv h with ⟨hc, h⟩ | ⟨hc, h⟩
       ·refine gt rfl rfl rfl rfl hc rfl ?_
        refine on 4 rfl ?_
        refine rz ?_
        refine ct rfl rfl ?_
        refine ra rfl ?_
        refine awp_ret ?_
        refine condQ.ret ?_
        refine condQ.ret ?_
        refine condQ.ret ?_
        refine condQ.ret ?_
        refine exitQ.ret ?_
        cases h
        exact .err rfl (.ret rfl rfl)
       ·refine gf rfl rfl rfl rfl hc rfl ?_
        refine on 4 rfl ?_
        refine rz ?_
        rcases ite_inv h with ⟨hc, h⟩ | ⟨hc, h⟩
        ·refine ct rfl hc ?_
         refine ra rfl ?_
         refine awp_ret ?_
         refine condQ.ret ?_
         refine condQ.ret ?_
         refine condQ.ret ?_
         refine condQ.ret ?_
         refine exitQ.ret ?_
         cases h
         exact .err rfl (.ret rfl rfl)
        ·refine cf rfl hc ?_
         refine awp_skip ?_
         refine cn rfl ?_
         refine cn rfl ?_
         refine cn rfl ?_
         refine cn rfl ?_
         refine en rfl ?_
         cases h
         exact .ok rfl
    ·refine gf rfl rfl rfl rfl hc rfl ?_
     refine on 7 rfl ?_
     refine rz ?_
     refine cf rfl rfl ?_
     refine ra rfl ?_
     rcases ite_inv h with ⟨hc, h⟩ | ⟨hc, h⟩
     ·refine ct rfl hc ?_
      refine rn 1 rfl ?_
      refine awpO_nil ?_
      refine cn rfl ?_
      refine cn rfl ?_
      refine cn rfl ?_
      refine en rfl ?_
      cases h
      exact .ok rfl
     ·refine cf rfl hc ?_
      refine awp_seq ?_
      refine rn 3 rfl ?_
      rcases ite_inv h with ⟨hc, h⟩ | ⟨hc, h⟩
      ·refine gt rfl rfl rfl rfl hc rfl ?_
       refine on 4 rfl ?_
       refine rz ?_
       refine ct rfl rfl ?_
       refine ra rfl ?_
       refine awp_ret ?_
       refine condQ.ret ?_
       refine condQ.ret ?_
       refine condQ.ret ?_
       refine condQ.ret ?_
       refine exitQ.ret ?_
       cases h
       exact .err rfl (.ret rfl rfl)
      ·refine gf rfl rfl rfl rfl hc rfl ?_
       refine on 4 rfl ?_
       refine rz ?_
       rcases ite_inv h with ⟨hc, h⟩ | ⟨hc, h⟩
       ·refine ct rfl hc ?_
        refine ra rfl ?_
        refine awp_ret ?_
        refine condQ.ret ?_
        refine condQ.ret ?_
        refine condQ.ret ?_
        refine condQ.ret ?_
        refine exitQ.ret ?_
        cases h
        exact .err rfl (.ret rfl rfl)
       ·refine cf rfl hc ?_
        refine awp_skip ?_
        refine cn rfl ?_
        refine cn rfl ?_
        refine cn rfl ?_
        refine cn rfl ?_
        refine en rfl ?_
        cases h
        exact .ok rfl
  ·subst hy
   obtain k1 := y
   refine seqQ.normal ?_
   refine rn 3 rfl ?_
   obtain ⟨l1, hk, h⟩ := bind_inv h
   refine po (eappv hk rfl rfl rfl rfl rfl rfl rfl rfl rfl rfl rfl rfl rfl ) rfl rfl ?_
   refine on 5 rfl ?_
   refine awpO_nil ?_
   refine en rfl ?_
   refine loopQ.normal ?_
   exact awpL_at rfl rfl (ih _ _ h)
  ·subst hr
   refine seqQ.out hx ?_
   refine exitQ.out hx ?_
   refine loopQ.out hx ?_
   refine exitQ.out hx ?_
   cases h
   exact .err hx he
 ·refine cf rfl hc ?_
  refine awp_exit ?_
  refine condQ.exit ?_
  refine seqQ.exit ?_
  refine loopQ.exit ?_
  refine eh rfl ?_
  cases h
  exact .ok rfl
theorem p_jlex_text_ok {s : Str} {r : Arr × Int × Fault} (h : p_jlex_text s = some r) : aval X 29 [.d (.str s)] [] (CRes.ret (.tuple [.d (encArr r.1), .d (.int .i64 r.2.1), .d (encFault r.2.2)]) []) := by
 unfold p_jlex_text at h
 refine aval_start (tm := [(0, .d (.str s))]) (hp := []) (n := 0) rfl Tryz.func29 rfl rfl rfl rfl rfl rfl ?_
 refine ra (nid' := 2) rfl ?_
 refine ra rfl ?_
 refine awp_seq ?_
 refine ra rfl ?_
 obtain ⟨res, hs, h⟩ := bind_inv h
 refine awp_sub Tryz.f29 0 (fun (r : Arr × Int × Fault) => (CRes.ret (.tuple [.d (encArr r.1), .d (.int .i64 r.2.1), .d (encFault r.2.2)]) [])) (fun (_ : Unit) => (⟨[(2, .c (.ptr 0 0)), (4, .c (.ptr 1 0))], [(1, [.d (.int .i64 0), .d (.int .i64 0), .d (.int .i64 0)]), (0, [.own 1 (List.map (D.int .i64) []), .own 3 (List.map encCell [])])], 2, [], none⟩ : St)) (res := res) ?_ (fun y hy => ?_) (fun r x s' hr hx he => ?_)
 ·replace h := hs
  refine awp_block ?_
  refine awp_loop ?_
  exact awpL_at rfl rfl (p_jlex_text_l0_ok _ _ h)
 ·subst hy
  refine seqQ.normal ?_
  refine ra rfl ?_
  refine awp_ret ?_
  cases h
  exact .ret rfl rfl
 ·subst hr
  refine seqQ.out hx ?_
  cases h
  exact he
theorem p_jlex_words_l0_ok : ∀ (a : ((List Str)) × (List Token) × Int) (res : (List Token)), p_jlex_words_l0 a = some res → (match a with | (x, l, x1) => awpL X 32 (codeAt [1, 1, 0, 1, 0, 0] (bodyOf Tryz.f32)) (cleanAt (X.H 32 3) 0) (exitQ 0 (X.H 32 1000000) 0 (NrmQ (fun (l2 : (List Token)) => (⟨[(1, .c (.own 5 (List.map encToken l2)))], [], 0, [], none⟩ : St)) res)) ⟨[(1, .c (.own 5 (List.map encToken l))), (5, .d (.list 1 (List.map D.str x))), (6, .d (.int .i64 (List.length x : Int))), (7, .d (.int .i64 x1))], [], 0, [], none⟩) := by
 refine p_jlex_words_l0.partial_correctness _ ?_
 rintro p_jlex_words_l0' ih ⟨x, l, x1⟩ res h
 refine lg rfl ?_
 refine ra rfl ?_
 refine awp_seq ?_
 rcases ite_inv h with ⟨hc, h⟩ | ⟨hc, h⟩
 ·refine ct rfl hc ?_
  refine awp_skip ?_
  refine cn rfl ?_
  refine seqQ.normal ?_
  refine awp_seq ?_
  refine awp_block ?_
  refine awp_seq ?_
  refine rn 0 rfl ?_
  obtain ⟨s, hk, h⟩ := bind_inv h
  refine po (elget D.str (fun _ => rfl) hk rfl rfl rfl rfl rfl) rfl rfl ?_
  refine on 2 rfl ?_
  refine rz ?_
  refine ra rfl ?_
  refine awp_seq ?_
  refine ra rfl ?_
  obtain ⟨kind, hs, h⟩ := bind_inv h
  refine awp_nrm (fun (kind : Int) => (⟨[(1, .c (.own 5 (List.map encToken l))), (3, .d (.str s)), (4, .d (.int .i64 kind)), (5, .d (.list 1 (List.map D.str x))), (6, .d (.int .i64 (List.length x : Int))), (7, .d (.int .i64 x1))], [], 0, [], none⟩ : St)) (y := kind) ?_ ?_
  ·replace h := hs
   refine awp_block ?_
   refine ra rfl ?_
   rcases ite_inv h with ⟨hc, h⟩ | ⟨hc, h⟩
   ·refine ct rfl hc ?_
    refine rn 1 rfl ?_
    refine awpO_nil ?_
    refine cn rfl ?_
    refine en rfl ?_
    cases h
    exact .ok rfl
   ·refine cf rfl hc ?_
    refine awp_seq ?_
    refine ra rfl ?_
    obtain ⟨x2, hs, h⟩ := bind_inv h
    refine awp_nrm (fun (x2 : Bool) => (⟨[(1, .c (.own 5 (List.map encToken l))), (3, .d (.str s)), (4, .d (.int .i64 4)), (5, .d (.list 1 (List.map D.str x))), (6, .d (.int .i64 (List.length x : Int))), (7, .d (.int .i64 x1)), (11, .d (.str s)), (14, .d (.bool x2))], [], 0, [], none⟩ : St)) (y := x2) ?_ ?_
    ·replace h := hs
     rcases ite_inv h with ⟨hc, h⟩ | ⟨hc, h⟩
     ·refine ct rfl hc ?_
      refine awp_skip ?_
      refine cn rfl ?_
      cases h
      exact .ok rfl
     ·refine cf rfl hc ?_
      refine rn 2 rfl ?_
      refine awpO_nil ?_
      refine cn rfl ?_
      cases h
      exact .ok rfl
    ·refine seqQ.normal ?_
     rcases ite_inv h with ⟨hc, h⟩ | ⟨hc, h⟩
     ·refine ct rfl hc ?_
      refine rn 1 rfl ?_
      refine awpO_nil ?_
      refine cn rfl ?_
      refine cn rfl ?_
      refine en rfl ?_
      cases h
      exact .ok rfl
     ·refine cf rfl hc ?_
      refine awp_seq ?_
      refine ra rfl ?_
      obtain ⟨x3, hs, h⟩ := bind_inv h
      refine awp_nrm (fun (x3 : Bool) => (⟨[(1, .c (.own 5 (List.map encToken l))), (3, .d (.str s)), (4, .d (.int .i64 4)), (5, .d (.list 1 (List.map D.str x))), (6, .d (.int .i64 (List.length x : Int))), (7, .d (.int .i64 x1)), (17, .d (.bool x3))], [], 0, [], none⟩ : St)) (y := x3) ?_ ?_
      ·replace h := hs
       rcases ite_inv h with ⟨hc, h⟩ | ⟨hc, h⟩
       ·refine ct rfl hc ?_
        refine awp_skip ?_
        refine cn rfl ?_
        cases h
        exact .ok rfl
       ·refine cf rfl hc ?_
        refine rn 2 rfl ?_
        refine awpO_nil ?_
        refine cn rfl ?_
        cases h
        exact .ok rfl
      ·refine seqQ.normal ?_
       rcases ite_inv h with ⟨hc, h⟩ | ⟨hc, h⟩
       ·refine ct rfl hc ?_
        refine rn 1 rfl ?_
        refine awpO_nil ?_
        refine cn rfl ?_
        refine cn rfl ?_
        refine cn rfl ?_
        refine en rfl ?_
        cases h
        exact .ok rfl
       ·refine cf rfl hc ?_
        refine awp_skip ?_
        refine cn rfl ?_
        refine cn rfl ?_
        refine cn rfl ?_
        refine en rfl ?_
        cases h
        exact .ok rfl
  ·refine seqQ.normal ?_
   refine rn 5 rfl ?_
   obtain ⟨l1, hk, h⟩ := bind_inv h
   refine po (eappv hk rfl rfl rfl rfl rfl rfl rfl rfl rfl rfl rfl rfl rfl ) rfl rfl ?_
   refine on 1 rfl ?_
   refine awpO_nil ?_
   refine en rfl ?_
   refine seqQ.normal ?_
   refine rn 2 rfl ?_
   refine awpO_nil ?_
   refine loopQ.normal ?_
   exact awpL_at rfl rfl (ih _ _ h)
 ·refine cf rfl hc ?_
  refine awp_exit ?_
  refine condQ.exit ?_
  refine seqQ.exit ?_
  refine loopQ.exit ?_
  refine eh rfl ?_
  cases h
  exact .ok rfl
theorem p_jlex_words_ok  {r : (List Token)} (h : p_jlex_words = some r) : aval X 32 [] [] (CRes.ret (.d (.list 5 (List.map encToken r))) []) := by
 unfold p_jlex_words at h
 refine aval_start (tm := []) (hp := []) (n := 0) rfl Tryz.func32 rfl rfl rfl rfl rfl rfl ?_
 refine ra rfl ?_
 refine ra rfl ?_
 refine awp_seq ?_
 refine awp_seq ?_
 refine rn 0 rfl ?_
 obtain ⟨x, hk, h⟩ := bind_inv h
 refine po (ecall (goFields_ok hk) rfl rfl rfl rfl rfl rfl rfl rfl rfl) rfl rfl ?_
 refine po (ellen rfl rfl rfl rfl rfl rfl rfl) rfl rfl ?_
 refine on 1 rfl ?_
 refine rz ?_
 obtain ⟨l2, hs, h⟩ := bind_inv h
 refine awp_nrm (fun (l2 : (List Token)) => (⟨[(1, .c (.own 5 (List.map encToken l2)))], [], 0, [], none⟩ : St)) (y := l2) ?_ ?_
 ·replace h := hs
  refine awp_block ?_
  refine awp_loop ?_
  exact awpL_at rfl rfl (p_jlex_words_l0_ok _ _ h)
 ·refine seqQ.normal ?_
  refine ra rfl ?_
  refine awp_ret ?_
  cases h
  exact .ret rfl rfl
theorem p_stringslite_HasPrefix_ok {s : Str} {prefix_ : Str} {r : Bool} (h : p_stringslite_HasPrefix s prefix_ = some r) : aval X 25 [.d (.str s), .d (.str prefix_)] [] (CRes.ret (.d (.bool r)) []) := by
 unfold p_stringslite_HasPrefix at h
 refine aval_start (tm := [(0, .d (.str s)), (1, .d (.str prefix_))]) (hp := []) (n := 0) rfl Tryz.func25 rfl rfl rfl rfl rfl rfl ?_
 refine ra rfl ?_
 refine awp_seq ?_
 refine rn 6 rfl ?_
 rcases ite_inv h with ⟨hc, h⟩ | ⟨hc, h⟩
 ·refine gt rfl rfl rfl rfl hc rfl ?_
  refine on 3 rfl ?_
  obtain ⟨s1, hk, h⟩ := bind_inv h
  refine po (esto hk rfl rfl rfl rfl) rfl rfl ?_
  refine on 4 rfl ?_
  refine rz ?_
  refine awp_ret ?_
  cases h
  exact .ret rfl rfl
 ·refine gf rfl rfl rfl rfl hc rfl ?_
  refine on 8 rfl ?_
  refine rz ?_
  refine awp_ret ?_
  cases h
  exact .ret rfl rfl
theorem p_strings_HasPrefix_ok {s : Str} {prefix_ : Str} {r : Bool} (h : p_strings_HasPrefix s prefix_ = some r) : aval X 15 [.d (.str s), .d (.str prefix_)] [] (CRes.ret (.d (.bool r)) []) := by
 unfold p_strings_HasPrefix at h
 refine aval_start (tm := [(0, .d (.str s)), (1, .d (.str prefix_))]) (hp := []) (n := 0) rfl Tryz.func15 rfl rfl rfl rfl rfl rfl ?_
 refine ra rfl ?_
 refine awp_seq ?_
 refine rn 2 rfl ?_
 obtain ⟨x, hk, h⟩ := bind_inv h
 refine po (ecall (p_stringslite_HasPrefix_ok hk) rfl rfl rfl rfl rfl rfl rfl rfl rfl) rfl rfl ?_
 refine on 1 rfl ?_
 refine rz ?_
 refine awp_ret ?_
 cases h
 exact .ret rfl rfl
end Go.AM.Seat
