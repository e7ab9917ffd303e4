/- Part of a proof about the given program: the abstract machine, the printed functions, the plain laws. (JLF9, JLF3) -/
import Derived.Test.YtbhjnlilfidalaaDoorA5
set_option linter.all false
set_option linter.unusedSectionVars false
set_option linter.unusedVariables false
set_option linter.unusedSimpArgs false

namespace Go.AM.Seat
open Go Go.AM Go.Proofs
set_option maxRecDepth 100000
set_option maxHeartbeats 4000000
set_option linter.unusedVariables false

theorem p_triglyphref12_Same_l0_ok : ∀ (a : ((List Token)) × ((List Token)) × Int) (res : Except (Bool) (Unit)), p_triglyphref12_Same_l0 a = some res → (match a with | (a, b, i) => awpL X 9 (codeAt [1, 1, 0, 1, 0, 0] (bodyOf Tryd.f9)) (cleanAt (X.H 9 4) 0) (exitQ 0 (X.H 9 1000000) 0 (SubQ X Tryd.f9 0 (fun (r : Bool) => (CRes.ret (.d (.bool r)) [])) (fun (_ : Unit) => (⟨[], [], 0, [], none⟩ : St)) res)) ⟨[(0, .d (.list 5 (List.map encToken a))), (1, .d (.list 5 (List.map encToken b))), (5, .d (.int .i64 i))], [], 0, [], none⟩) := by
  refine p_triglyphref12_Same_l0.partial_correctness (motive := (fun a res => match a with | (a, b, i) => awpL X 9 (codeAt [1, 1, 0, 1, 0, 0] (bodyOf Tryd.f9)) (cleanAt (X.H 9 4) 0) (exitQ 0 (X.H 9 1000000) 0 (SubQ X Tryd.f9 0 (fun (r : Bool) => (CRes.ret (.d (.bool r)) [])) (fun (_ : Unit) => (⟨[], [], 0, [], none⟩ : St)) res)) ⟨[(0, .d (.list 5 (List.map encToken a))), (1, .d (.list 5 (List.map encToken b))), (5, .d (.int .i64 i))], [], 0, [], none⟩)) ?_
  rintro p_triglyphref12_Same_l0' ih ⟨a, b, i⟩ res h
  refine lg rfl ?_
  refine awp_seq ?_
  refine awp_seq ?_
  refine rn 2 rfl ?_
  refine po (ellen rfl rfl rfl rfl rfl rfl rfl) rfl rfl ?_
  refine on 1 rfl ?_
  refine rz ?_
  rcases ite_inv h with ⟨hc, h⟩ | ⟨hc, h⟩
  · refine ct rfl hc ?_
    refine awp_skip ?_
    refine cn rfl ?_
    refine seqQ.normal ?_
    refine awp_seq ?_
    refine awp_block ?_
    refine awp_seq ?_
    refine drn (m := 51) 2 rfl rfl ?_
    obtain ⟨y, hk, h⟩ := bind_inv h
    refine pd (elget encToken (fun _ => rfl) hk rfl rfl rfl rfl rfl) rfl rfl rfl rfl rfl ?_
    refine don 4 rfl ?_
    obtain ⟨y1, hk, h⟩ := bind_inv h
    refine pd (elget encToken (fun _ => rfl) hk rfl rfl rfl rfl rfl) rfl rfl rfl rfl rfl ?_
    refine don 4 rfl ?_
    rcases ite_inv h with ⟨hc, h⟩ | ⟨hc, h⟩
    · refine dgt rfl rfl rfl rfl hc rfl ?_
      refine don 39 rfl ?_
      refine dz (by kernel_rfl) ?_
      refine ct rfl rfl ?_
      refine ra rfl ?_
      refine awp_ret ?_
      refine condQ.ret ?_
      refine exitQ.ret ?_
      refine seqQ.ret ?_
      refine loopQ.ret ?_
      refine exitQ.ret ?_
      cases h
      exact .err ⟨⟨_, _, _, _, rfl, rfl, rfl, rfl, rfl⟩⟩
    · refine dgf rfl rfl rfl rfl hc rfl ?_
      refine don 2 rfl ?_
      obtain ⟨y2, hk, h⟩ := bind_inv h
      refine pd (elget encToken (fun _ => rfl) hk rfl rfl rfl rfl rfl) rfl rfl rfl rfl rfl ?_
      refine don 4 rfl ?_
      obtain ⟨y3, hk, h⟩ := bind_inv h
      refine pd (elget encToken (fun _ => rfl) hk rfl rfl rfl rfl rfl) rfl rfl rfl rfl rfl ?_
      refine don 5 rfl ?_
      rcases ite_inv h with ⟨hc, h⟩ | ⟨hc, h⟩
      · refine dgt rfl rfl rfl rfl hc rfl ?_
        refine don 26 rfl ?_
        refine dz (by kernel_rfl) ?_
        refine ct rfl rfl ?_
        refine ra rfl ?_
        refine awp_ret ?_
        refine condQ.ret ?_
        refine exitQ.ret ?_
        refine seqQ.ret ?_
        refine loopQ.ret ?_
        refine exitQ.ret ?_
        cases h
        exact .err ⟨⟨_, _, _, _, rfl, rfl, rfl, rfl, rfl⟩⟩
      · refine dgf rfl rfl rfl rfl hc rfl ?_
        refine don 2 rfl ?_
        obtain ⟨y4, hk, h⟩ := bind_inv h
        refine pd (elget encToken (fun _ => rfl) hk rfl rfl rfl rfl rfl) rfl rfl rfl rfl rfl ?_
        refine don 4 rfl ?_
        obtain ⟨y5, hk, h⟩ := bind_inv h
        refine pd (elget encToken (fun _ => rfl) hk rfl rfl rfl rfl rfl) rfl rfl rfl rfl rfl ?_
        refine don 5 rfl ?_
        rcases ite_inv h with ⟨hc, h⟩ | ⟨hc, h⟩
        · refine dgt rfl rfl rfl rfl hc rfl ?_
          refine don 13 rfl ?_
          refine dz (by kernel_rfl) ?_
          refine ct rfl rfl ?_
          refine ra rfl ?_
          refine awp_ret ?_
          refine condQ.ret ?_
          refine exitQ.ret ?_
          refine seqQ.ret ?_
          refine loopQ.ret ?_
          refine exitQ.ret ?_
          cases h
          exact .err ⟨⟨_, _, _, _, rfl, rfl, rfl, rfl, rfl⟩⟩
        · refine dgf rfl rfl rfl rfl hc rfl ?_
          refine don 2 rfl ?_
          obtain ⟨y6, hk, h⟩ := bind_inv h
          refine pd (elget encToken (fun _ => rfl) hk rfl rfl rfl rfl rfl) rfl rfl rfl rfl rfl ?_
          refine don 4 rfl ?_
          obtain ⟨y7, hk, h⟩ := bind_inv h
          refine pd (elget encToken (fun _ => rfl) hk rfl rfl rfl rfl rfl) rfl rfl rfl rfl rfl ?_
          refine don 2 rfl ?_
          obtain ⟨x, hk, h⟩ := bind_inv h
          refine pd (ecall (p_triglyphref03_Same_ok hk) rfl rfl rfl rfl rfl rfl rfl rfl rfl) rfl rfl rfl rfl rfl ?_
          refine don 2 rfl ?_
          refine dz (by kernel_rfl) ?_
          rcases ite_inv h with ⟨hc, h⟩ | ⟨hc, h⟩
          · refine ct rfl hc ?_
            refine ra rfl ?_
            refine awp_ret ?_
            refine condQ.ret ?_
            refine exitQ.ret ?_
            refine seqQ.ret ?_
            refine loopQ.ret ?_
            refine exitQ.ret ?_
            cases h
            exact .err ⟨⟨_, _, _, _, rfl, rfl, rfl, rfl, rfl⟩⟩
          · refine cf rfl hc ?_
            refine awp_skip ?_
            refine cn rfl ?_
            refine en rfl ?_
            refine seqQ.normal ?_
            refine rn 3 rfl ?_
            refine awpO_nil ?_
            refine loopQ.normal ?_
            exact awpL_at rfl rfl (ih _ _ h)
  · refine cf rfl hc ?_
    refine awp_exit ?_
    refine condQ.exit ?_
    refine seqQ.exit ?_
    refine loopQ.exit ?_
    refine eh rfl ?_
    cases h
    exact .ok rfl

theorem p_triglyphref12_Same_ok {a : (List Token)} {b : (List Token)} {r : Bool} (h : p_triglyphref12_Same a b = some r) : aval X 9 [.d (.list 5 (List.map encToken a)), .d (.list 5 (List.map encToken b))] [] (CRes.ret (.d (.bool r)) []) := by
  unfold p_triglyphref12_Same at h
  refine aval_start (tm := [(0, .d (.list 5 (List.map encToken a))), (1, .d (.list 5 (List.map encToken b)))]) (hp := []) (n := 0) rfl Tryd.func9 rfl rfl rfl rfl rfl rfl ?_
  refine ra rfl ?_
  refine awp_seq ?_
  refine awp_seq ?_
  refine rn 1 rfl ?_
  refine po (ellen rfl rfl rfl rfl rfl rfl rfl) rfl rfl ?_
  refine on 1 rfl ?_
  refine po (ellen rfl rfl rfl rfl rfl rfl rfl) rfl rfl ?_
  refine on 1 rfl ?_
  refine rz ?_
  rcases ite_inv h with ⟨hc, h⟩ | ⟨hc, h⟩
  · refine ct rfl hc ?_
    refine ra rfl ?_
    refine awp_ret ?_
    refine condQ.ret ?_
    refine seqQ.ret ?_
    cases h
    exact ⟨⟨_, _, _, _, rfl, rfl, rfl, rfl, rfl⟩⟩
  · refine cf rfl hc ?_
    refine awp_skip ?_
    refine cn rfl ?_
    refine seqQ.normal ?_
    refine awp_seq ?_
    refine ra rfl ?_
    obtain ⟨res, hs, h⟩ := bind_inv h
    refine awp_sub Tryd.f9 0 (fun (r : Bool) => (CRes.ret (.d (.bool r)) [])) (fun (_ : Unit) => (⟨[], [], 0, [], none⟩ : St)) (res := res) ?_ (fun y hy => ?_) (fun r s' hr he => ?_)
    · replace h := hs
      refine awp_block ?_
      refine awp_loop ?_
      exact awpL_at rfl rfl (p_triglyphref12_Same_l0_ok _ _ h)
    · subst hy
      refine seqQ.normal ?_
      refine ra rfl ?_
      refine awp_ret ?_
      cases h
      exact ⟨⟨_, _, _, _, rfl, rfl, rfl, rfl, rfl⟩⟩
    · subst hr
      refine seqQ.ret ?_
      cases h
      exact he

end Go.AM.Seat

namespace Go.AM.Seat
open Go Go.AM Go.Proofs
set_option maxRecDepth 100000
set_option maxHeartbeats 4000000
set_option linter.unusedVariables false

theorem p_triglyphlaw13_JlexBlanks_l0_ok (s : Str) : ∀ (a : Int × Str × Int) (res : Str), p_triglyphlaw13_JlexBlanks_l0 a = some res → (match a with | (n, more, i) => awpL X 3 (codeAt [1, 1, 1, 0, 1, 0, 0] (bodyOf Tryd.f3)) (cleanAt (X.H 3 5) 0) (exitQ 0 (X.H 3 1000000) 0 (NrmQ (fun (more2 : Str) => (⟨[(0, .d (.str s)), (1, .d (.int .u8 n)), (5, .d (.str more2))], [], 0, [], none⟩ : St)) res)) ⟨[(0, .d (.str s)), (1, .d (.int .u8 n)), (5, .d (.str more)), (6, .d (.int .i64 i))], [], 0, [], none⟩) := by
  refine p_triglyphlaw13_JlexBlanks_l0.partial_correctness (motive := (fun a res => match a with | (n, more, i) => awpL X 3 (codeAt [1, 1, 1, 0, 1, 0, 0] (bodyOf Tryd.f3)) (cleanAt (X.H 3 5) 0) (exitQ 0 (X.H 3 1000000) 0 (NrmQ (fun (more2 : Str) => (⟨[(0, .d (.str s)), (1, .d (.int .u8 n)), (5, .d (.str more2))], [], 0, [], none⟩ : St)) res)) ⟨[(0, .d (.str s)), (1, .d (.int .u8 n)), (5, .d (.str more)), (6, .d (.int .i64 i))], [], 0, [], none⟩)) ?_
  rintro p_triglyphlaw13_JlexBlanks_l0' ih ⟨n, more, i⟩ res h
  refine lg rfl ?_
  refine awp_seq ?_
  refine ra rfl ?_
  rcases ite_inv h with ⟨hc, h⟩ | ⟨hc, h⟩
  · refine ct rfl hc ?_
    refine awp_skip ?_
    refine cn rfl ?_
    refine seqQ.normal ?_
    refine awp_seq ?_
    refine awp_block ?_
    refine rn 1 rfl ?_
    obtain ⟨more1, hk, h⟩ := bind_inv h
    refine po (escat hk rfl rfl rfl) rfl rfl ?_
    refine on 1 rfl ?_
    refine awpO_nil ?_
    refine en rfl ?_
    refine seqQ.normal ?_
    refine rn 3 rfl ?_
    refine awpO_nil ?_
    refine loopQ.normal ?_
    exact awpL_at rfl rfl (ih _ _ h)
  · refine cf rfl hc ?_
    refine awp_exit ?_
    refine condQ.exit ?_
    refine seqQ.exit ?_
    refine loopQ.exit ?_
    refine eh rfl ?_
    cases h
    exact .ok rfl

theorem p_triglyphlaw13_JlexBlanks_l1_ok (s : Str) (more2 : Str) (x1 : Fault) (x2 : Fault) : ∀ (a : Int × ((List Token)) × ((List Token)) × Int) (res : Except (Bool) (Unit)), p_triglyphlaw13_JlexBlanks_l1 a = some res → (match a with | (n, a, b, i1) => awpL X 3 (codeAt [1, 1, 1, 1, 1, 1, 1, 1, 0, 1, 0, 0] (bodyOf Tryd.f3)) (cleanAt (X.H 3 15) 2) (exitQ 2 (X.H 3 1000002) 2 (SubQ X Tryd.f3 0 (fun (r : Bool) => (CRes.ret (.d (.bool r)) [])) (fun (_ : Unit) => (⟨[(0, .d (.str s)), (5, .d (.str more2)), (7, .d (.list 5 (List.map encToken a)))], [(1, [.d (.int .i64 x2.err), .d (.int .i64 x2.at_), .d (.int .i64 x2.why)]), (0, [.d (.int .i64 x1.err), .d (.int .i64 x1.at_), .d (.int .i64 x1.why)])], 2, [], none⟩ : St)) res)) ⟨[(0, .d (.str s)), (1, .d (.int .u8 n)), (5, .d (.str more2)), (7, .d (.list 5 (List.map encToken a))), (9, .d (.list 5 (List.map encToken b))), (11, .d (.int .i64 i1))], [(1, [.d (.int .i64 x2.err), .d (.int .i64 x2.at_), .d (.int .i64 x2.why)]), (0, [.d (.int .i64 x1.err), .d (.int .i64 x1.at_), .d (.int .i64 x1.why)])], 2, [], none⟩) := by
  refine p_triglyphlaw13_JlexBlanks_l1.partial_correctness (motive := (fun a res => match a with | (n, a, b, i1) => awpL X 3 (codeAt [1, 1, 1, 1, 1, 1, 1, 1, 0, 1, 0, 0] (bodyOf Tryd.f3)) (cleanAt (X.H 3 15) 2) (exitQ 2 (X.H 3 1000002) 2 (SubQ X Tryd.f3 0 (fun (r : Bool) => (CRes.ret (.d (.bool r)) [])) (fun (_ : Unit) => (⟨[(0, .d (.str s)), (5, .d (.str more2)), (7, .d (.list 5 (List.map encToken a)))], [(1, [.d (.int .i64 x2.err), .d (.int .i64 x2.at_), .d (.int .i64 x2.why)]), (0, [.d (.int .i64 x1.err), .d (.int .i64 x1.at_), .d (.int .i64 x1.why)])], 2, [], none⟩ : St)) res)) ⟨[(0, .d (.str s)), (1, .d (.int .u8 n)), (5, .d (.str more2)), (7, .d (.list 5 (List.map encToken a))), (9, .d (.list 5 (List.map encToken b))), (11, .d (.int .i64 i1))], [(1, [.d (.int .i64 x2.err), .d (.int .i64 x2.at_), .d (.int .i64 x2.why)]), (0, [.d (.int .i64 x1.err), .d (.int .i64 x1.at_), .d (.int .i64 x1.why)])], 2, [], none⟩)) ?_
  rintro p_triglyphlaw13_JlexBlanks_l1' ih ⟨n, a, b, i1⟩ res h
  refine lg rfl ?_
  refine awp_seq ?_
  refine awp_seq ?_
  refine rn 2 rfl ?_
  refine po (ellen rfl rfl rfl rfl rfl rfl rfl) rfl rfl ?_
  refine on 1 rfl ?_
  refine rz ?_
  rcases ite_inv h with ⟨hc, h⟩ | ⟨hc, h⟩
  · refine ct rfl hc ?_
    refine awp_skip ?_
    refine cn rfl ?_
    refine seqQ.normal ?_
    refine awp_seq ?_
    refine awp_block ?_
    refine awp_seq ?_
    refine drn (m := 42) 2 rfl rfl ?_
    obtain ⟨y, hk, h⟩ := bind_inv h
    refine pd (elget encToken (fun _ => rfl) hk rfl rfl rfl rfl rfl) rfl rfl rfl rfl rfl ?_
    refine don 7 rfl ?_
    obtain ⟨y1, hk, h⟩ := bind_inv h
    refine pd (elget encToken (fun _ => rfl) hk rfl rfl rfl rfl rfl) rfl rfl rfl rfl rfl ?_
    refine don 4 rfl ?_
    rcases ite_inv h with ⟨hc, h⟩ | ⟨hc, h⟩
    · refine dgt rfl rfl rfl rfl hc rfl ?_
      refine don 25 rfl ?_
      refine dz (by kernel_rfl) ?_
      refine ct rfl rfl ?_
      refine ra rfl ?_
      refine awp_ret ?_
      refine condQ.ret ?_
      refine exitQ.ret ?_
      refine seqQ.ret ?_
      refine loopQ.ret ?_
      refine exitQ.ret ?_
      cases h
      exact .err ⟨⟨_, _, _, _, rfl, rfl, rfl, rfl, rfl⟩⟩
    · refine dgf rfl rfl rfl rfl hc rfl ?_
      refine don 2 rfl ?_
      obtain ⟨y2, hk, h⟩ := bind_inv h
      refine pd (elget encToken (fun _ => rfl) hk rfl rfl rfl rfl rfl) rfl rfl rfl rfl rfl ?_
      refine don 4 rfl ?_
      obtain ⟨y3, hk, h⟩ := bind_inv h
      refine pd (elget encToken (fun _ => rfl) hk rfl rfl rfl rfl rfl) rfl rfl rfl rfl rfl ?_
      refine don 5 rfl ?_
      rcases ite_inv h with ⟨hc, h⟩ | ⟨hc, h⟩
      · refine dgt rfl rfl rfl rfl hc rfl ?_
        refine don 12 rfl ?_
        refine dz (by kernel_rfl) ?_
        refine ct rfl rfl ?_
        refine ra rfl ?_
        refine awp_ret ?_
        refine condQ.ret ?_
        refine exitQ.ret ?_
        refine seqQ.ret ?_
        refine loopQ.ret ?_
        refine exitQ.ret ?_
        cases h
        exact .err ⟨⟨_, _, _, _, rfl, rfl, rfl, rfl, rfl⟩⟩
      · refine dgf rfl rfl rfl rfl hc rfl ?_
        refine don 2 rfl ?_
        obtain ⟨y4, hk, h⟩ := bind_inv h
        refine pd (elget encToken (fun _ => rfl) hk rfl rfl rfl rfl rfl) rfl rfl rfl rfl rfl ?_
        refine don 4 rfl ?_
        obtain ⟨y5, hk, h⟩ := bind_inv h
        refine pd (elget encToken (fun _ => rfl) hk rfl rfl rfl rfl rfl) rfl rfl rfl rfl rfl ?_
        refine don 4 rfl ?_
        refine dz (by kernel_rfl) ?_
        rcases ite_inv h with ⟨hc, h⟩ | ⟨hc, h⟩
        · refine ct rfl hc ?_
          refine ra rfl ?_
          refine awp_ret ?_
          refine condQ.ret ?_
          refine exitQ.ret ?_
          refine seqQ.ret ?_
          refine loopQ.ret ?_
          refine exitQ.ret ?_
          cases h
          exact .err ⟨⟨_, _, _, _, rfl, rfl, rfl, rfl, rfl⟩⟩
        · refine cf rfl hc ?_
          refine awp_skip ?_
          refine cn rfl ?_
          refine en rfl ?_
          refine seqQ.normal ?_
          refine rn 3 rfl ?_
          refine awpO_nil ?_
          refine loopQ.normal ?_
          exact awpL_at rfl rfl (ih _ _ h)
  · refine cf rfl hc ?_
    refine awp_exit ?_
    refine condQ.exit ?_
    refine seqQ.exit ?_
    refine loopQ.exit ?_
    refine eh rfl ?_
    cases h
    exact .ok rfl

theorem p_triglyphlaw13_JlexBlanks_ok {s : Str} {n : Int} {r : Bool} (h : p_triglyphlaw13_JlexBlanks s n = some r) : aval X 3 [.d (.str s), .d (.int .u8 n)] [] (CRes.ret (.d (.bool r)) []) := by
  unfold p_triglyphlaw13_JlexBlanks at h
  refine aval_start (tm := [(0, .d (.str s)), (1, .d (.int .u8 n))]) (hp := []) (n := 0) rfl Tryd.func3 rfl rfl rfl rfl rfl rfl ?_
  refine ra rfl ?_
  refine awp_seq ?_
  refine ra rfl ?_
  rcases ite_inv h with ⟨hc, h⟩ | ⟨hc, h⟩
  · refine ct rfl hc ?_
    refine awp_seq ?_
    refine rn 0 rfl ?_
    obtain ⟨x, hk, h⟩ := bind_inv h
    refine po (ecall (p_triglyphlaw13_works_ok hk) rfl rfl rfl rfl rfl rfl rfl rfl rfl) rfl rfl ?_
    refine on 1 rfl ?_
    refine rz ?_
    refine awp_ret ?_
    refine condQ.ret ?_
    refine seqQ.ret ?_
    cases h
    exact ⟨⟨_, _, _, _, rfl, rfl, rfl, rfl, rfl⟩⟩
  · refine cf rfl hc ?_
    refine awp_skip ?_
    refine cn rfl ?_
    refine seqQ.normal ?_
    refine ra rfl ?_
    refine awp_seq ?_
    refine ra rfl ?_
    obtain ⟨more2, hs, h⟩ := bind_inv h
    refine awp_nrm (fun (more2 : Str) => (⟨[(0, .d (.str s)), (1, .d (.int .u8 n)), (5, .d (.str more2))], [], 0, [], none⟩ : St)) (y := more2) ?_ ?_
    · replace h := hs
      refine awp_block ?_
      refine awp_loop ?_
      exact awpL_at rfl rfl (p_triglyphlaw13_JlexBlanks_l0_ok s _ _ h)
    · refine seqQ.normal ?_
      refine awp_seq ?_
      refine rn 1 rfl ?_
      obtain ⟨⟨a, x1⟩, hk, h⟩ := bind_inv h
      refine po (ecall (p_jlex_Lex_ok hk) rfl rfl rfl rfl rfl rfl rfl rfl rfl) rfl rfl ?_
      refine on (nid' := 1) 6 rfl ?_
      refine rz ?_
      refine awp_seq ?_
      refine rn 2 rfl ?_
      obtain ⟨s1, hk, h⟩ := bind_inv h
      refine po (escat hk rfl rfl rfl) rfl rfl ?_
      obtain ⟨⟨b, x2⟩, hk, h⟩ := bind_inv h
      refine po (ecall (p_jlex_Lex_ok hk) rfl rfl rfl rfl rfl rfl rfl rfl rfl) rfl rfl ?_
      refine on (nid' := 2) 6 rfl ?_
      refine rz ?_
      refine awp_seq ?_
      refine ra rfl ?_
      rcases ite_inv h with ⟨hc, h⟩ | ⟨hc, h⟩
      · refine ct rfl hc ?_
        refine awp_seq ?_
        refine rn 6 rfl ?_
        rcases ite_inv h with ⟨hc, h⟩ | ⟨hc, h⟩
        · refine gt rfl rfl rfl rfl hc rfl ?_
          refine on 10 rfl ?_
          rcases ite_inv h with ⟨hc, h⟩ | ⟨hc, h⟩
          · refine gt rfl rfl rfl rfl hc rfl ?_
            obtain ⟨x3, hk, h⟩ := bind_inv h
            refine po (ecall (p_triglyphlaw13_works_ok hk) rfl rfl rfl rfl rfl rfl rfl rfl rfl) rfl rfl ?_
            refine on 2 rfl ?_
            refine rz ?_
            refine awp_ret ?_
            refine condQ.ret ?_
            refine seqQ.ret ?_
            cases h
            exact ⟨⟨_, _, _, _, rfl, rfl, rfl, rfl, rfl⟩⟩
          · refine gf rfl rfl rfl rfl hc rfl ?_
            refine on 3 rfl ?_
            refine rz ?_
            refine awp_ret ?_
            refine condQ.ret ?_
            refine seqQ.ret ?_
            cases h
            exact ⟨⟨_, _, _, _, rfl, rfl, rfl, rfl, rfl⟩⟩
        · refine gf rfl rfl rfl rfl hc rfl ?_
          refine on 13 rfl ?_
          refine rz ?_
          refine awp_ret ?_
          refine condQ.ret ?_
          refine seqQ.ret ?_
          cases h
          exact ⟨⟨_, _, _, _, rfl, rfl, rfl, rfl, rfl⟩⟩
      · refine cf rfl hc ?_
        refine awp_skip ?_
        refine cn rfl ?_
        refine seqQ.normal ?_
        refine awp_seq ?_
        refine awp_seq ?_
        refine rn 4 rfl ?_
        rcases ite_inv h with ⟨hc, h⟩ | ⟨hc, h⟩
        · refine gt rfl rfl rfl rfl hc rfl ?_
          refine on 6 rfl ?_
          refine rz ?_
          refine ct rfl rfl ?_
          refine ra rfl ?_
          refine awp_ret ?_
          refine condQ.ret ?_
          refine seqQ.ret ?_
          cases h
          exact ⟨⟨_, _, _, _, rfl, rfl, rfl, rfl, rfl⟩⟩
        · refine gf rfl rfl rfl rfl hc rfl ?_
          refine on 1 rfl ?_
          refine po (ellen rfl rfl rfl rfl rfl rfl rfl) rfl rfl ?_
          refine on 1 rfl ?_
          refine po (ellen rfl rfl rfl rfl rfl rfl rfl) rfl rfl ?_
          refine on 2 rfl ?_
          refine rz ?_
          rcases ite_inv h with ⟨hc, h⟩ | ⟨hc, h⟩
          · refine ct rfl hc ?_
            refine ra rfl ?_
            refine awp_ret ?_
            refine condQ.ret ?_
            refine seqQ.ret ?_
            cases h
            exact ⟨⟨_, _, _, _, rfl, rfl, rfl, rfl, rfl⟩⟩
          · refine cf rfl hc ?_
            refine awp_skip ?_
            refine cn rfl ?_
            refine seqQ.normal ?_
            refine awp_seq ?_
            refine ra rfl ?_
            obtain ⟨res, hs, h⟩ := bind_inv h
            refine awp_sub Tryd.f3 0 (fun (r : Bool) => (CRes.ret (.d (.bool r)) [])) (fun (_ : Unit) => (⟨[(0, .d (.str s)), (5, .d (.str more2)), (7, .d (.list 5 (List.map encToken a)))], [(1, [.d (.int .i64 x2.err), .d (.int .i64 x2.at_), .d (.int .i64 x2.why)]), (0, [.d (.int .i64 x1.err), .d (.int .i64 x1.at_), .d (.int .i64 x1.why)])], 2, [], none⟩ : St)) (res := res) ?_ (fun y hy => ?_) (fun r s' hr he => ?_)
            · replace h := hs
              refine awp_block ?_
              refine awp_loop ?_
              exact awpL_at rfl rfl (p_triglyphlaw13_JlexBlanks_l1_ok s more2 x1 x2 _ _ h)
            · subst hy
              refine seqQ.normal ?_
              refine awp_seq ?_
              refine rn 2 rfl ?_
              obtain ⟨s2, hk, h⟩ := bind_inv h
              refine po (escat hk rfl rfl rfl) rfl rfl ?_
              obtain ⟨⟨c, x4⟩, hk, h⟩ := bind_inv h
              refine po (ecall (p_jlex_Lex_ok hk) rfl rfl rfl rfl rfl rfl rfl rfl rfl) rfl rfl ?_
              refine on (nid' := 3) 6 rfl ?_
              refine rz ?_
              refine awp_seq ?_
              refine rn 4 rfl ?_
              rcases ite_inv h with ⟨hc, h⟩ | ⟨hc, h⟩
              · refine gt rfl rfl rfl rfl hc rfl ?_
                refine on 2 rfl ?_
                obtain ⟨x5, hk, h⟩ := bind_inv h
                refine po (ecall (p_triglyphref12_Same_ok hk) rfl rfl rfl rfl rfl rfl rfl rfl rfl) rfl rfl ?_
                refine on 2 rfl ?_
                rcases ite_inv h with ⟨hc, h⟩ | ⟨hc, h⟩
                · refine gt rfl rfl rfl rfl hc rfl ?_
                  obtain ⟨x6, hk, h⟩ := bind_inv h
                  refine po (ecall (p_triglyphlaw13_works_ok hk) rfl rfl rfl rfl rfl rfl rfl rfl rfl) rfl rfl ?_
                  refine on 2 rfl ?_
                  refine rz ?_
                  refine awp_ret ?_
                  cases h
                  exact ⟨⟨_, _, _, _, rfl, rfl, rfl, rfl, rfl⟩⟩
                · refine gf rfl rfl rfl rfl hc rfl ?_
                  refine on 3 rfl ?_
                  refine rz ?_
                  refine awp_ret ?_
                  cases h
                  exact ⟨⟨_, _, _, _, rfl, rfl, rfl, rfl, rfl⟩⟩
              · refine gf rfl rfl rfl rfl hc rfl ?_
                refine on 8 rfl ?_
                refine rz ?_
                refine awp_ret ?_
                cases h
                exact ⟨⟨_, _, _, _, rfl, rfl, rfl, rfl, rfl⟩⟩
            · subst hr
              refine seqQ.ret ?_
              cases h
              exact he

end Go.AM.Seat
