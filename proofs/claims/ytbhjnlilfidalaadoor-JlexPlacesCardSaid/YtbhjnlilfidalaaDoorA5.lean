/- Part of a proof about the given program: the abstract machine, the printed functions, the plain laws. (JLF30, JLF10, JLF14, JLF19, JLF15, JLF31, JLF32, JLF33, JLF20, JLF27, JLF28, JLF21, JLF34, JLF35, JLF36, JLF22, JLF37, JLF23, JLF24, JLF25, JLF26, JLF16, JLF8, JLF7, JLF4) -/
import Derived.Test.YtbhjnlilfidalaaDoorA4
set_option linter.all false
set_option linter.unusedSectionVars false
set_option linter.unusedVariables false
set_option linter.unusedSimpArgs false

namespace Go.AM.Seat
open Go Go.AM Go.Proofs
set_option maxRecDepth 100000
set_option maxHeartbeats 4000000
set_option linter.unusedVariables false

theorem p_triglyphref03_Cmp_l0_ih : ∀ (a : Arr × Arr × Int × Int) (res : Int), p_triglyphref03_Cmp_l0 a = some res → (match a with | (a, b, o1, i) => awpL X 17 (codeAt [1, 1, 0, 1, 0, 0] (bodyOf Tryd.f17)) (cleanAt (X.H 17 3) 2) (exitQ 0 (X.H 17 1000000) 2 (NrmQ (fun (o3 : Int) => (⟨[(2, .c (.ptr 0 0)), (3, .c (.ptr 1 0)), (5, .d (.int .i64 o3))], [(1, [.d (.list 1 (List.map (D.int .i64) b.shape)), .d (.list 3 (List.map encCell b.cells))]), (0, [.d (.list 1 (List.map (D.int .i64) a.shape)), .d (.list 3 (List.map encCell a.cells))])], 2, [], none⟩ : St)) res)) ⟨[(2, .c (.ptr 0 0)), (3, .c (.ptr 1 0)), (5, .d (.int .i64 o1)), (6, .d (.int .i64 i))], [(1, [.d (.list 1 (List.map (D.int .i64) b.shape)), .d (.list 3 (List.map encCell b.cells))]), (0, [.d (.list 1 (List.map (D.int .i64) a.shape)), .d (.list 3 (List.map encCell a.cells))])], 2, [], none⟩) := by
  refine p_triglyphref03_Cmp_l0.partial_correctness (motive := (fun a res => match a with | (a, b, o1, i) => awpL X 17 (codeAt [1, 1, 0, 1, 0, 0] (bodyOf Tryd.f17)) (cleanAt (X.H 17 3) 2) (exitQ 0 (X.H 17 1000000) 2 (NrmQ (fun (o3 : Int) => (⟨[(2, .c (.ptr 0 0)), (3, .c (.ptr 1 0)), (5, .d (.int .i64 o3))], [(1, [.d (.list 1 (List.map (D.int .i64) b.shape)), .d (.list 3 (List.map encCell b.cells))]), (0, [.d (.list 1 (List.map (D.int .i64) a.shape)), .d (.list 3 (List.map encCell a.cells))])], 2, [], none⟩ : St)) res)) ⟨[(2, .c (.ptr 0 0)), (3, .c (.ptr 1 0)), (5, .d (.int .i64 o1)), (6, .d (.int .i64 i))], [(1, [.d (.list 1 (List.map (D.int .i64) b.shape)), .d (.list 3 (List.map encCell b.cells))]), (0, [.d (.list 1 (List.map (D.int .i64) a.shape)), .d (.list 3 (List.map encCell a.cells))])], 2, [], none⟩)) ?_
  rintro p_triglyphref03_Cmp_l0' ih_p_triglyphref03_Cmp_l0 ⟨a, b, o1, i⟩ res h
  refine lg rfl ?_
  refine awp_seq ?_
  refine awp_seq ?_
  refine rn 3 rfl ?_
  refine po (ellen rfl rfl rfl rfl rfl rfl rfl) rfl rfl ?_
  refine on 2 rfl ?_
  rcases ite_inv h with ⟨hc, h⟩ | ⟨hc, h⟩
  · refine gt rfl rfl rfl rfl hc rfl ?_
    refine on 3 rfl ?_
    refine rz ?_
    rcases ite_inv h with ⟨hc, h⟩ | ⟨hc, h⟩
    · refine ct rfl hc ?_
      refine awp_skip ?_
      refine cn rfl ?_
      refine seqQ.normal ?_
      refine awp_seq ?_
      refine awp_block ?_
      refine drn (m := 14) 3 rfl rfl ?_
      obtain ⟨y, hk, h⟩ := bind_inv h
      refine pd (elget (D.int .i64) (fun _ => rfl) hk rfl rfl rfl rfl rfl) rfl rfl rfl rfl rfl ?_
      refine don 4 rfl ?_
      obtain ⟨y1, hk, h⟩ := bind_inv h
      refine pd (elget (D.int .i64) (fun _ => rfl) hk rfl rfl rfl rfl rfl) rfl rfl rfl rfl rfl ?_
      refine don 1 rfl ?_
      obtain ⟨o2, hk, h⟩ := bind_inv h
      refine pd (ecall (p_triglyphref03_ints_ok hk) rfl rfl rfl rfl rfl rfl rfl rfl rfl) rfl rfl rfl rfl rfl ?_
      refine don 1 rfl ?_
      refine dz' (by kernel_rfl) ?_
      refine en rfl ?_
      refine seqQ.normal ?_
      refine rn 3 rfl ?_
      refine awpO_nil ?_
      refine loopQ.normal ?_
      exact awpL_at rfl rfl (ih_p_triglyphref03_Cmp_l0 _ _ h)
    · refine cf rfl hc ?_
      refine awp_exit ?_
      refine condQ.exit ?_
      refine seqQ.exit ?_
      refine loopQ.exit ?_
      refine eh rfl ?_
      cases h
      exact .ok rfl
  · refine gf rfl rfl rfl rfl hc rfl ?_
    refine on 3 rfl ?_
    refine rz ?_
    refine cf rfl rfl ?_
    refine awp_exit ?_
    refine condQ.exit ?_
    refine seqQ.exit ?_
    refine loopQ.exit ?_
    refine eh rfl ?_
    cases h
    exact .ok rfl

theorem p_triglyphref03_Cmp_l1_grp : (∀ (a : Arr × Arr × Int × Int) (res : Int), p_triglyphref03_Cmp_l1 a = some res → (match a with | (a, b, o4, i1) => awpL X 17 (codeAt [1, 1, 1, 0, 1, 0, 0] (bodyOf Tryd.f17)) (cleanAt (X.H 17 7) 2) (exitQ 2 (X.H 17 1000002) 2 (NrmQ (fun (o6 : Int) => (⟨[(2, .c (.ptr 0 0)), (3, .c (.ptr 1 0)), (5, .d (.int .i64 o6))], [(1, [.d (.list 1 (List.map (D.int .i64) b.shape)), .d (.list 3 (List.map encCell b.cells))]), (0, [.d (.list 1 (List.map (D.int .i64) a.shape)), .d (.list 3 (List.map encCell a.cells))])], 2, [], none⟩ : St)) res)) ⟨[(2, .c (.ptr 0 0)), (3, .c (.ptr 1 0)), (5, .d (.int .i64 o4)), (7, .d (.int .i64 i1))], [(1, [.d (.list 1 (List.map (D.int .i64) b.shape)), .d (.list 3 (List.map encCell b.cells))]), (0, [.d (.list 1 (List.map (D.int .i64) a.shape)), .d (.list 3 (List.map encCell a.cells))])], 2, [], none⟩)) ∧ (∀ (a : Cell × Cell) (res : Int), p_triglyphref03_Cell a = some res → (match a with | (a, b) => aval X 30 [.d (encCell a), .d (encCell b)] [] (CRes.ret (.d (.int .i64 res)) []))) ∧ (∀ (a : Arr × Arr) (res : Int), p_triglyphref03_Cmp a = some res → (match a with | (a, b) => aval X 17 [.d (encArr a), .d (encArr b)] [] (CRes.ret (.d (.int .i64 res)) []))) := by
  refine p_triglyphref03_Cmp_l1.mutual_partial_correctness (motive_1 := (fun a res => match a with | (a, b, o4, i1) => awpL X 17 (codeAt [1, 1, 1, 0, 1, 0, 0] (bodyOf Tryd.f17)) (cleanAt (X.H 17 7) 2) (exitQ 2 (X.H 17 1000002) 2 (NrmQ (fun (o6 : Int) => (⟨[(2, .c (.ptr 0 0)), (3, .c (.ptr 1 0)), (5, .d (.int .i64 o6))], [(1, [.d (.list 1 (List.map (D.int .i64) b.shape)), .d (.list 3 (List.map encCell b.cells))]), (0, [.d (.list 1 (List.map (D.int .i64) a.shape)), .d (.list 3 (List.map encCell a.cells))])], 2, [], none⟩ : St)) res)) ⟨[(2, .c (.ptr 0 0)), (3, .c (.ptr 1 0)), (5, .d (.int .i64 o4)), (7, .d (.int .i64 i1))], [(1, [.d (.list 1 (List.map (D.int .i64) b.shape)), .d (.list 3 (List.map encCell b.cells))]), (0, [.d (.list 1 (List.map (D.int .i64) a.shape)), .d (.list 3 (List.map encCell a.cells))])], 2, [], none⟩)) (motive_2 := (fun a res => match a with | (a, b) => aval X 30 [.d (encCell a), .d (encCell b)] [] (CRes.ret (.d (.int .i64 res)) []))) (motive_3 := (fun a res => match a with | (a, b) => aval X 17 [.d (encArr a), .d (encArr b)] [] (CRes.ret (.d (.int .i64 res)) []))) ?_ ?_ ?_
  · rintro p_triglyphref03_Cmp_l1' p_triglyphref03_Cell' ih_p_triglyphref03_Cmp_l1 ih_p_triglyphref03_Cell ⟨a, b, o4, i1⟩ res h
    refine lg rfl ?_
    refine awp_seq ?_
    refine awp_seq ?_
    refine rn 3 rfl ?_
    refine po (ellen rfl rfl rfl rfl rfl rfl rfl) rfl rfl ?_
    refine on 2 rfl ?_
    rcases ite_inv h with ⟨hc, h⟩ | ⟨hc, h⟩
    · refine gt rfl rfl rfl rfl hc rfl ?_
      refine on 3 rfl ?_
      refine po (ellen rfl rfl rfl rfl rfl rfl rfl) rfl rfl ?_
      refine on 3 rfl ?_
      rcases ite_inv h with ⟨hc, h⟩ | ⟨hc, h⟩
      · refine gt rfl rfl rfl rfl hc rfl ?_
        refine on 3 rfl ?_
        refine rz ?_
        rcases ite_inv h with ⟨hc, h⟩ | ⟨hc, h⟩
        · refine ct rfl hc ?_
          refine awp_skip ?_
          refine cn rfl ?_
          refine seqQ.normal ?_
          refine awp_seq ?_
          refine awp_block ?_
          refine drn (m := 14) 3 rfl rfl ?_
          obtain ⟨y2, hk, h⟩ := bind_inv h
          refine pd (elget encCell (fun _ => rfl) hk rfl rfl rfl rfl rfl) rfl rfl rfl rfl rfl ?_
          refine don 4 rfl ?_
          obtain ⟨y3, hk, h⟩ := bind_inv h
          refine pd (elget encCell (fun _ => rfl) hk rfl rfl rfl rfl rfl) rfl rfl rfl rfl rfl ?_
          refine don 1 rfl ?_
          obtain ⟨o5, hk, h⟩ := bind_inv h
          refine pd (ecall (ih_p_triglyphref03_Cell _ _ hk) rfl rfl rfl rfl rfl rfl rfl rfl rfl) rfl rfl rfl rfl rfl ?_
          refine don 1 rfl ?_
          refine dz' (by kernel_rfl) ?_
          refine en rfl ?_
          refine seqQ.normal ?_
          refine rn 3 rfl ?_
          refine awpO_nil ?_
          refine loopQ.normal ?_
          exact awpL_at rfl rfl (ih_p_triglyphref03_Cmp_l1 _ _ h)
        · refine cf rfl hc ?_
          refine awp_exit ?_
          refine condQ.exit ?_
          refine seqQ.exit ?_
          refine loopQ.exit ?_
          refine eh rfl ?_
          cases h
          exact .ok rfl
      · refine gf rfl rfl rfl rfl hc rfl ?_
        refine on 3 rfl ?_
        refine rz ?_
        refine cf rfl rfl ?_
        refine awp_exit ?_
        refine condQ.exit ?_
        refine seqQ.exit ?_
        refine loopQ.exit ?_
        refine eh rfl ?_
        cases h
        exact .ok rfl
    · refine gf rfl rfl rfl rfl hc rfl ?_
      refine on 10 rfl ?_
      refine rz ?_
      refine cf rfl rfl ?_
      refine awp_exit ?_
      refine condQ.exit ?_
      refine seqQ.exit ?_
      refine loopQ.exit ?_
      refine eh rfl ?_
      cases h
      exact .ok rfl
  · rintro p_triglyphref03_Cmp' ih_p_triglyphref03_Cmp ⟨a, b⟩ res h
    refine aval_start (tm := [(0, .d (encCell a)), (1, .d (encCell b))]) (hp := []) (n := 0) rfl Tryd.func30 rfl rfl rfl rfl rfl rfl ?_
    refine ra (nid' := 2) rfl ?_
    refine awp_seq ?_
    refine rn 4 rfl ?_
    obtain ⟨o, hk, h⟩ := bind_inv h
    refine po (ecall (p_triglyphref03_ints_ok hk) rfl rfl rfl rfl rfl rfl rfl rfl rfl) rfl rfl ?_
    refine on 1 rfl ?_
    refine rz ?_
    refine awp_seq ?_
    refine ra rfl ?_
    obtain ⟨o2, hs, h⟩ := bind_inv h
    refine awp_nrm (fun (o2 : Int) => (⟨[(2, .c (.ptr 0 0)), (3, .c (.ptr 1 0)), (5, .d (.int .i64 o2))], [(1, [.d (.int .i64 b.kind), .d (.int .i64 b.n), .d (.list 2 (List.map encArrR b.box))]), (0, [.d (.int .i64 a.kind), .d (.int .i64 a.n), .d (.list 2 (List.map encArrR a.box))])], 2, [], none⟩ : St)) (y := o2) ?_ ?_
    · replace h := hs
      rcases ite_inv h with ⟨hc, h⟩ | ⟨hc, h⟩
      · refine ct rfl hc ?_
        refine rn 4 rfl ?_
        obtain ⟨o1, hk, h⟩ := bind_inv h
        refine po (ecall (p_triglyphref03_ints_ok hk) rfl rfl rfl rfl rfl rfl rfl rfl rfl) rfl rfl ?_
        refine on 1 rfl ?_
        refine awpO_nil ?_
        refine cn rfl ?_
        cases h
        exact .ok rfl
      · refine cf rfl hc ?_
        refine awp_skip ?_
        refine cn rfl ?_
        cases h
        exact .ok rfl
    · refine seqQ.normal ?_
      refine awp_seq ?_
      refine awp_seq ?_
      refine rn 3 rfl ?_
      rcases ite_inv h with ⟨hc, h⟩ | ⟨hc, h⟩
      · refine gt rfl rfl rfl rfl hc rfl ?_
        refine on 2 rfl ?_
        refine po (ellen rfl rfl rfl rfl rfl rfl rfl) rfl rfl ?_
        refine on 3 rfl ?_
        rcases ite_inv h with ⟨hc, h⟩ | ⟨hc, h⟩
        · refine gt rfl rfl rfl rfl hc rfl ?_
          refine on 2 rfl ?_
          refine po (ellen rfl rfl rfl rfl rfl rfl rfl) rfl rfl ?_
          refine on 2 rfl ?_
          refine rz ?_
          rcases ite_inv h with ⟨hc, h⟩ | ⟨hc, h⟩
          · refine ct rfl hc ?_
            refine awp_seq ?_
            refine drn (m := 12) 2 rfl rfl ?_
            obtain ⟨y, hk, h⟩ := bind_inv h
            refine pd (elget encArr encArrR_eq hk rfl rfl rfl rfl rfl) rfl rfl rfl rfl rfl ?_
            refine don 3 rfl ?_
            obtain ⟨y1, hk, h⟩ := bind_inv h
            refine pd (elget encArr encArrR_eq hk rfl rfl rfl rfl rfl) rfl rfl rfl rfl rfl ?_
            refine don 1 rfl ?_
            obtain ⟨x, hk, h⟩ := bind_inv h
            refine pd (ecall (ih_p_triglyphref03_Cmp _ _ hk) rfl rfl rfl rfl rfl rfl rfl rfl rfl) rfl rfl rfl rfl rfl ?_
            refine don 1 rfl ?_
            refine dz (by kernel_rfl) ?_
            refine awp_ret ?_
            refine condQ.ret ?_
            refine seqQ.ret ?_
            cases h
            exact ⟨⟨_, _, _, _, rfl, rfl, rfl, rfl, rfl⟩⟩
          · refine cf rfl hc ?_
            refine awp_skip ?_
            refine cn rfl ?_
            refine seqQ.normal ?_
            refine awp_seq ?_
            refine ra rfl ?_
            obtain ⟨o4, hs, h⟩ := bind_inv h
            refine awp_nrm (fun (o4 : Int) => (⟨[(5, .d (.int .i64 o4))], [(1, [.d (.int .i64 b.kind), .d (.int .i64 b.n), .d (.list 2 (List.map encArrR b.box))]), (0, [.d (.int .i64 a.kind), .d (.int .i64 a.n), .d (.list 2 (List.map encArrR a.box))])], 2, [], none⟩ : St)) (y := o4) ?_ ?_
            · replace h := hs
              rcases ite_inv h with ⟨hc, h⟩ | ⟨hc, h⟩
              · refine ct rfl hc ?_
                refine rn 2 rfl ?_
                refine po (ellen rfl rfl rfl rfl rfl rfl rfl) rfl rfl ?_
                refine on 2 rfl ?_
                refine po (ellen rfl rfl rfl rfl rfl rfl rfl) rfl rfl ?_
                obtain ⟨o3, hk, h⟩ := bind_inv h
                refine po (ecall (p_triglyphref03_ints_ok hk) rfl rfl rfl rfl rfl rfl rfl rfl rfl) rfl rfl ?_
                refine on 1 rfl ?_
                refine awpO_nil ?_
                refine cn rfl ?_
                cases h
                exact .ok rfl
              · refine cf rfl hc ?_
                refine awp_skip ?_
                refine cn rfl ?_
                cases h
                exact .ok rfl
            · refine seqQ.normal ?_
              refine ra rfl ?_
              refine awp_ret ?_
              cases h
              exact ⟨⟨_, _, _, _, rfl, rfl, rfl, rfl, rfl⟩⟩
        · refine gf rfl rfl rfl rfl hc rfl ?_
          refine on 5 rfl ?_
          refine rz ?_
          refine cf rfl rfl ?_
          refine awp_skip ?_
          refine cn rfl ?_
          refine seqQ.normal ?_
          refine awp_seq ?_
          refine ra rfl ?_
          obtain ⟨o6, hs, h⟩ := bind_inv h
          refine awp_nrm (fun (o6 : Int) => (⟨[(5, .d (.int .i64 o6))], [(1, [.d (.int .i64 b.kind), .d (.int .i64 b.n), .d (.list 2 (List.map encArrR b.box))]), (0, [.d (.int .i64 a.kind), .d (.int .i64 a.n), .d (.list 2 (List.map encArrR a.box))])], 2, [], none⟩ : St)) (y := o6) ?_ ?_
          · replace h := hs
            rcases ite_inv h with ⟨hc, h⟩ | ⟨hc, h⟩
            · refine ct rfl hc ?_
              refine rn 2 rfl ?_
              refine po (ellen rfl rfl rfl rfl rfl rfl rfl) rfl rfl ?_
              refine on 2 rfl ?_
              refine po (ellen rfl rfl rfl rfl rfl rfl rfl) rfl rfl ?_
              obtain ⟨o5, hk, h⟩ := bind_inv h
              refine po (ecall (p_triglyphref03_ints_ok hk) rfl rfl rfl rfl rfl rfl rfl rfl rfl) rfl rfl ?_
              refine on 1 rfl ?_
              refine awpO_nil ?_
              refine cn rfl ?_
              cases h
              exact .ok rfl
            · refine cf rfl hc ?_
              refine awp_skip ?_
              refine cn rfl ?_
              cases h
              exact .ok rfl
          · refine seqQ.normal ?_
            refine ra rfl ?_
            refine awp_ret ?_
            cases h
            exact ⟨⟨_, _, _, _, rfl, rfl, rfl, rfl, rfl⟩⟩
      · refine gf rfl rfl rfl rfl hc rfl ?_
        refine on 11 rfl ?_
        refine rz ?_
        refine cf rfl rfl ?_
        refine awp_skip ?_
        refine cn rfl ?_
        refine seqQ.normal ?_
        refine awp_seq ?_
        refine ra rfl ?_
        obtain ⟨o8, hs, h⟩ := bind_inv h
        refine awp_nrm (fun (o8 : Int) => (⟨[(5, .d (.int .i64 o8))], [(1, [.d (.int .i64 b.kind), .d (.int .i64 b.n), .d (.list 2 (List.map encArrR b.box))]), (0, [.d (.int .i64 a.kind), .d (.int .i64 a.n), .d (.list 2 (List.map encArrR a.box))])], 2, [], none⟩ : St)) (y := o8) ?_ ?_
        · replace h := hs
          rcases ite_inv h with ⟨hc, h⟩ | ⟨hc, h⟩
          · refine ct rfl hc ?_
            refine rn 2 rfl ?_
            refine po (ellen rfl rfl rfl rfl rfl rfl rfl) rfl rfl ?_
            refine on 2 rfl ?_
            refine po (ellen rfl rfl rfl rfl rfl rfl rfl) rfl rfl ?_
            obtain ⟨o7, hk, h⟩ := bind_inv h
            refine po (ecall (p_triglyphref03_ints_ok hk) rfl rfl rfl rfl rfl rfl rfl rfl rfl) rfl rfl ?_
            refine on 1 rfl ?_
            refine awpO_nil ?_
            refine cn rfl ?_
            cases h
            exact .ok rfl
          · refine cf rfl hc ?_
            refine awp_skip ?_
            refine cn rfl ?_
            cases h
            exact .ok rfl
        · refine seqQ.normal ?_
          refine ra rfl ?_
          refine awp_ret ?_
          cases h
          exact ⟨⟨_, _, _, _, rfl, rfl, rfl, rfl, rfl⟩⟩
  · rintro p_triglyphref03_Cmp_l1' ih_p_triglyphref03_Cmp_l1 ⟨a, b⟩ res h
    refine aval_start (tm := [(0, .d (encArr a)), (1, .d (encArr b))]) (hp := []) (n := 0) rfl Tryd.func17 rfl rfl rfl rfl rfl rfl ?_
    refine ra (nid' := 2) rfl ?_
    refine awp_seq ?_
    refine rn 2 rfl ?_
    refine po (ellen rfl rfl rfl rfl rfl rfl rfl) rfl rfl ?_
    refine on 2 rfl ?_
    refine po (ellen rfl rfl rfl rfl rfl rfl rfl) rfl rfl ?_
    obtain ⟨o, hk, h⟩ := bind_inv h
    refine po (ecall (p_triglyphref03_ints_ok hk) rfl rfl rfl rfl rfl rfl rfl rfl rfl) rfl rfl ?_
    refine on 1 rfl ?_
    refine rz ?_
    refine awp_seq ?_
    refine ra rfl ?_
    obtain ⟨o3, hs, h⟩ := bind_inv h
    refine awp_nrm (fun (o3 : Int) => (⟨[(2, .c (.ptr 0 0)), (3, .c (.ptr 1 0)), (5, .d (.int .i64 o3))], [(1, [.d (.list 1 (List.map (D.int .i64) b.shape)), .d (.list 3 (List.map encCell b.cells))]), (0, [.d (.list 1 (List.map (D.int .i64) a.shape)), .d (.list 3 (List.map encCell a.cells))])], 2, [], none⟩ : St)) (y := o3) ?_ ?_
    · replace h := hs
      refine awp_block ?_
      refine awp_loop ?_
      exact awpL_at rfl rfl (p_triglyphref03_Cmp_l0_ih _ _ h)
    · refine seqQ.normal ?_
      refine awp_seq ?_
      refine ra rfl ?_
      obtain ⟨o6, hs, h⟩ := bind_inv h
      refine awp_nrm (fun (o6 : Int) => (⟨[(2, .c (.ptr 0 0)), (3, .c (.ptr 1 0)), (5, .d (.int .i64 o6))], [(1, [.d (.list 1 (List.map (D.int .i64) b.shape)), .d (.list 3 (List.map encCell b.cells))]), (0, [.d (.list 1 (List.map (D.int .i64) a.shape)), .d (.list 3 (List.map encCell a.cells))])], 2, [], none⟩ : St)) (y := o6) ?_ ?_
      · replace h := hs
        refine awp_block ?_
        refine awp_loop ?_
        exact awpL_at rfl rfl (ih_p_triglyphref03_Cmp_l1 _ _ h)
      · refine seqQ.normal ?_
        refine awp_seq ?_
        refine ra rfl ?_
        obtain ⟨o8, hs, h⟩ := bind_inv h
        refine awp_nrm (fun (o8 : Int) => (⟨[(5, .d (.int .i64 o8))], [(1, [.d (.list 1 (List.map (D.int .i64) b.shape)), .d (.list 3 (List.map encCell b.cells))]), (0, [.d (.list 1 (List.map (D.int .i64) a.shape)), .d (.list 3 (List.map encCell a.cells))])], 2, [], none⟩ : St)) (y := o8) ?_ ?_
        · replace h := hs
          rcases ite_inv h with ⟨hc, h⟩ | ⟨hc, h⟩
          · refine ct rfl hc ?_
            refine rn 2 rfl ?_
            refine po (ellen rfl rfl rfl rfl rfl rfl rfl) rfl rfl ?_
            refine on 2 rfl ?_
            refine po (ellen rfl rfl rfl rfl rfl rfl rfl) rfl rfl ?_
            obtain ⟨o7, hk, h⟩ := bind_inv h
            refine po (ecall (p_triglyphref03_ints_ok hk) rfl rfl rfl rfl rfl rfl rfl rfl rfl) rfl rfl ?_
            refine on 1 rfl ?_
            refine awpO_nil ?_
            refine cn rfl ?_
            cases h
            exact .ok rfl
          · refine cf rfl hc ?_
            refine awp_skip ?_
            refine cn rfl ?_
            cases h
            exact .ok rfl
        · refine seqQ.normal ?_
          refine ra rfl ?_
          refine awp_ret ?_
          cases h
          exact ⟨⟨_, _, _, _, rfl, rfl, rfl, rfl, rfl⟩⟩

theorem p_triglyphref03_Cmp_l1_ih : ∀ (a : Arr × Arr × Int × Int) (res : Int), p_triglyphref03_Cmp_l1 a = some res → (match a with | (a, b, o4, i1) => awpL X 17 (codeAt [1, 1, 1, 0, 1, 0, 0] (bodyOf Tryd.f17)) (cleanAt (X.H 17 7) 2) (exitQ 2 (X.H 17 1000002) 2 (NrmQ (fun (o6 : Int) => (⟨[(2, .c (.ptr 0 0)), (3, .c (.ptr 1 0)), (5, .d (.int .i64 o6))], [(1, [.d (.list 1 (List.map (D.int .i64) b.shape)), .d (.list 3 (List.map encCell b.cells))]), (0, [.d (.list 1 (List.map (D.int .i64) a.shape)), .d (.list 3 (List.map encCell a.cells))])], 2, [], none⟩ : St)) res)) ⟨[(2, .c (.ptr 0 0)), (3, .c (.ptr 1 0)), (5, .d (.int .i64 o4)), (7, .d (.int .i64 i1))], [(1, [.d (.list 1 (List.map (D.int .i64) b.shape)), .d (.list 3 (List.map encCell b.cells))]), (0, [.d (.list 1 (List.map (D.int .i64) a.shape)), .d (.list 3 (List.map encCell a.cells))])], 2, [], none⟩) := p_triglyphref03_Cmp_l1_grp.1
theorem p_triglyphref03_Cell_ih : ∀ (a : Cell × Cell) (res : Int), p_triglyphref03_Cell a = some res → (match a with | (a, b) => aval X 30 [.d (encCell a), .d (encCell b)] [] (CRes.ret (.d (.int .i64 res)) [])) := p_triglyphref03_Cmp_l1_grp.2.1
theorem p_triglyphref03_Cmp_ih : ∀ (a : Arr × Arr) (res : Int), p_triglyphref03_Cmp a = some res → (match a with | (a, b) => aval X 17 [.d (encArr a), .d (encArr b)] [] (CRes.ret (.d (.int .i64 res)) [])) := p_triglyphref03_Cmp_l1_grp.2.2
theorem p_triglyphref03_Cmp_ok {a : Arr × Arr} {res : Int} (h : p_triglyphref03_Cmp a = some res) : (match a with | (a, b) => aval X 17 [.d (encArr a), .d (encArr b)] [] (CRes.ret (.d (.int .i64 res)) [])) := p_triglyphref03_Cmp_ih a res h
theorem p_triglyphref03_Cell_ok {a : Cell × Cell} {res : Int} (h : p_triglyphref03_Cell a = some res) : (match a with | (a, b) => aval X 30 [.d (encCell a), .d (encCell b)] [] (CRes.ret (.d (.int .i64 res)) [])) := p_triglyphref03_Cell_ih a res h

end Go.AM.Seat

namespace Go.AM.Seat
open Go Go.AM Go.Proofs
set_option maxRecDepth 100000
set_option maxHeartbeats 4000000
set_option linter.unusedVariables false

theorem p_triglyphref03_Same_ok {a : Arr} {b : Arr} {r : Bool} (h : p_triglyphref03_Same a b = some r) : aval X 10 [.d (encArr a), .d (encArr b)] [] (CRes.ret (.d (.bool r)) []) := by
  unfold p_triglyphref03_Same at h
  refine aval_start (tm := [(0, .d (encArr a)), (1, .d (encArr b))]) (hp := []) (n := 0) rfl Tryd.func10 rfl rfl rfl rfl rfl rfl ?_
  refine ra (nid' := 2) rfl ?_
  refine awp_seq ?_
  refine rn 2 rfl ?_
  obtain ⟨x, hk, h⟩ := bind_inv h
  refine po (ecall (p_triglyphref03_Cmp_ok hk) rfl rfl rfl rfl rfl rfl rfl rfl rfl) rfl rfl ?_
  refine on 2 rfl ?_
  refine rz ?_
  refine awp_ret ?_
  cases h
  exact ⟨⟨_, _, _, _, rfl, rfl, rfl, rfl, rfl⟩⟩

end Go.AM.Seat

namespace Go.AM.Seat
open Go Go.AM Go.Proofs
set_option maxRecDepth 100000
set_option maxHeartbeats 4000000
set_option linter.unusedVariables false

theorem p_triglyphref03_Nums_l0_ok : ∀ (a : ((List Int)) × Int × (List Cell)) (res : (List Cell)), p_triglyphref03_Nums_l0 a = some res → (match a with | (l, i, out1) => awpL X 14 (codeAt [1, 1, 0, 1, 0, 0] (bodyOf Tryd.f14)) (cleanAt (X.H 14 3) 2) (exitQ 0 (X.H 14 1000000) 2 (NrmQ (fun (out11 : (List Cell)) => (⟨[(2, .c (.ptr 0 0)), (3, .c (.ptr 1 0))], [(1, [.d (.list 1 (List.map (D.int .i64) [(List.length l : Int)])), .own 3 (List.map encCell out11)]), (0, [.own 1 (List.map (D.int .i64) []), .own 3 (List.map encCell [])])], 2, [], none⟩ : St)) res)) ⟨[(0, .d (.list 1 (List.map (D.int .i64) l))), (2, .c (.ptr 0 0)), (3, .c (.ptr 1 0)), (4, .d (.int .i64 i))], [(1, [.d (.list 1 (List.map (D.int .i64) [(List.length l : Int)])), .own 3 (List.map encCell out1)]), (0, [.own 1 (List.map (D.int .i64) []), .own 3 (List.map encCell [])])], 2, [], none⟩) := by
  refine p_triglyphref03_Nums_l0.partial_correctness (motive := (fun a res => match a with | (l, i, out1) => awpL X 14 (codeAt [1, 1, 0, 1, 0, 0] (bodyOf Tryd.f14)) (cleanAt (X.H 14 3) 2) (exitQ 0 (X.H 14 1000000) 2 (NrmQ (fun (out11 : (List Cell)) => (⟨[(2, .c (.ptr 0 0)), (3, .c (.ptr 1 0))], [(1, [.d (.list 1 (List.map (D.int .i64) [(List.length l : Int)])), .own 3 (List.map encCell out11)]), (0, [.own 1 (List.map (D.int .i64) []), .own 3 (List.map encCell [])])], 2, [], none⟩ : St)) res)) ⟨[(0, .d (.list 1 (List.map (D.int .i64) l))), (2, .c (.ptr 0 0)), (3, .c (.ptr 1 0)), (4, .d (.int .i64 i))], [(1, [.d (.list 1 (List.map (D.int .i64) [(List.length l : Int)])), .own 3 (List.map encCell out1)]), (0, [.own 1 (List.map (D.int .i64) []), .own 3 (List.map encCell [])])], 2, [], none⟩)) ?_
  rintro p_triglyphref03_Nums_l0' ih ⟨l, i, out1⟩ res h
  refine lg rfl ?_
  refine awp_seq ?_
  refine awp_seq ?_
  refine rn 2 rfl ?_
  refine po (ellen rfl rfl rfl rfl rfl rfl rfl) rfl rfl ?_
  refine on 1 rfl ?_
  refine rz ?_
  rcases ite_inv h with ⟨hc, h⟩ | ⟨hc, h⟩
  · refine ct rfl hc ?_
    refine awp_skip ?_
    refine cn rfl ?_
    refine seqQ.normal ?_
    refine awp_seq ?_
    refine awp_block ?_
    refine drn (m := 13) 4 rfl rfl ?_
    obtain ⟨y, hk, h⟩ := bind_inv h
    refine pd (elget (D.int .i64) (fun _ => rfl) hk rfl rfl rfl rfl rfl) rfl rfl rfl rfl rfl ?_
    refine don 3 rfl ?_
    obtain ⟨l1, hk, h⟩ := bind_inv h
    refine pd (eappc hk rfl rfl rfl rfl rfl rfl rfl rfl rfl rfl rfl rfl rfl rfl ) rfl rfl rfl rfl rfl ?_
    refine don 2 rfl ?_
    refine dz' (by kernel_rfl) ?_
    refine en rfl ?_
    refine seqQ.normal ?_
    refine rn 3 rfl ?_
    refine awpO_nil ?_
    refine loopQ.normal ?_
    exact awpL_at rfl rfl (ih _ _ h)
  · refine cf rfl hc ?_
    refine awp_exit ?_
    refine condQ.exit ?_
    refine seqQ.exit ?_
    refine loopQ.exit ?_
    refine eh rfl ?_
    cases h
    exact .ok rfl

theorem p_triglyphref03_Nums_ok {l : (List Int)} {r : Arr} (h : p_triglyphref03_Nums l = some r) : aval X 14 [.d (.list 1 (List.map (D.int .i64) l))] [] (CRes.ret (.d (encArr r)) []) := by
  unfold p_triglyphref03_Nums at h
  refine aval_start (tm := [(0, .d (.list 1 (List.map (D.int .i64) l)))]) (hp := []) (n := 0) rfl Tryd.func14 rfl rfl rfl rfl rfl rfl ?_
  refine ra (nid' := 1) rfl ?_
  refine awp_seq ?_
  refine rn 1 rfl ?_
  refine po (ellen rfl rfl rfl rfl rfl rfl rfl) rfl rfl ?_
  refine on (nid' := 2) 4 rfl ?_
  refine rz ?_
  refine awp_seq ?_
  refine ra rfl ?_
  obtain ⟨out11, hs, h⟩ := bind_inv h
  refine awp_nrm (fun (out11 : (List Cell)) => (⟨[(2, .c (.ptr 0 0)), (3, .c (.ptr 1 0))], [(1, [.d (.list 1 (List.map (D.int .i64) [(List.length l : Int)])), .own 3 (List.map encCell out11)]), (0, [.own 1 (List.map (D.int .i64) []), .own 3 (List.map encCell [])])], 2, [], none⟩ : St)) (y := out11) ?_ ?_
  · replace h := hs
    refine awp_block ?_
    refine awp_loop ?_
    exact awpL_at rfl rfl (p_triglyphref03_Nums_l0_ok _ _ h)
  · refine seqQ.normal ?_
    refine ra rfl ?_
    refine awp_ret ?_
    cases h
    exact ⟨⟨_, _, _, _, rfl, rfl, rfl, rfl, rfl⟩⟩

end Go.AM.Seat

namespace Go.AM.Seat
open Go Go.AM Go.Proofs
set_option maxRecDepth 100000
set_option maxHeartbeats 4000000
set_option linter.unusedVariables false

theorem p_stringslite_HasPrefix_ok {s : Str} {prefix_ : Str} {r : Bool} (h : p_stringslite_HasPrefix s prefix_ = some r) : aval X 19 [.d (.str s), .d (.str prefix_)] [] (CRes.ret (.d (.bool r)) []) := by
  unfold p_stringslite_HasPrefix at h
  refine aval_start (tm := [(0, .d (.str s)), (1, .d (.str prefix_))]) (hp := []) (n := 0) rfl Tryd.func19 rfl rfl rfl rfl rfl rfl ?_
  refine ra rfl ?_
  refine awp_seq ?_
  refine rn 6 rfl ?_
  rcases ite_inv h with ⟨hc, h⟩ | ⟨hc, h⟩
  · refine gt rfl rfl rfl rfl hc rfl ?_
    refine on 3 rfl ?_
    obtain ⟨s1, hk, h⟩ := bind_inv h
    refine po (esto hk rfl rfl rfl rfl) rfl rfl ?_
    refine on 4 rfl ?_
    refine rz ?_
    refine awp_ret ?_
    cases h
    exact ⟨⟨_, _, _, _, rfl, rfl, rfl, rfl, rfl⟩⟩
  · refine gf rfl rfl rfl rfl hc rfl ?_
    refine on 8 rfl ?_
    refine rz ?_
    refine awp_ret ?_
    cases h
    exact ⟨⟨_, _, _, _, rfl, rfl, rfl, rfl, rfl⟩⟩

end Go.AM.Seat

namespace Go.AM.Seat
open Go Go.AM Go.Proofs
set_option maxRecDepth 100000
set_option maxHeartbeats 4000000
set_option linter.unusedVariables false

theorem p_strings_HasPrefix_ok {s : Str} {prefix_ : Str} {r : Bool} (h : p_strings_HasPrefix s prefix_ = some r) : aval X 15 [.d (.str s), .d (.str prefix_)] [] (CRes.ret (.d (.bool r)) []) := by
  unfold p_strings_HasPrefix at h
  refine aval_start (tm := [(0, .d (.str s)), (1, .d (.str prefix_))]) (hp := []) (n := 0) rfl Tryd.func15 rfl rfl rfl rfl rfl rfl ?_
  refine ra rfl ?_
  refine awp_seq ?_
  refine rn 2 rfl ?_
  obtain ⟨x, hk, h⟩ := bind_inv h
  refine po (ecall (p_stringslite_HasPrefix_ok hk) rfl rfl rfl rfl rfl rfl rfl rfl rfl) rfl rfl ?_
  refine on 1 rfl ?_
  refine rz ?_
  refine awp_ret ?_
  cases h
  exact ⟨⟨_, _, _, _, rfl, rfl, rfl, rfl, rfl⟩⟩

end Go.AM.Seat

namespace Go.AM.Seat
open Go Go.AM Go.Proofs
set_option maxRecDepth 100000
set_option maxHeartbeats 4000000
set_option linter.unusedVariables false

theorem p_runes_first_ok {c : Int} {r : Int × Int} (h : p_runes_first c = some r) : aval X 31 [.d (.int .u8 c)] [] (CRes.ret (.tuple [.d (.int .i64 r.1), .d (.int .i64 r.2)]) []) := by
  unfold p_runes_first at h
  refine aval_start (tm := [(0, .d (.int .u8 c))]) (hp := []) (n := 0) rfl Tryd.func31 rfl rfl rfl rfl rfl rfl ?_
  refine ra rfl ?_
  refine awp_seq ?_
  refine awp_block ?_
  refine awp_seq ?_
  refine awp_block ?_
  refine awp_seq ?_
  refine awp_block ?_
  refine awp_seq ?_
  refine awp_block ?_
  refine awp_block ?_
  refine awp_seq ?_
  refine awp_block ?_
  refine awp_seq ?_
  refine awp_seq ?_
  refine ra rfl ?_
  rcases ite_inv h with ⟨hc, h⟩ | ⟨hc, h⟩
  · refine ct rfl hc ?_
    refine awp_exit ?_
    refine condQ.exit ?_
    refine seqQ.exit ?_
    refine seqQ.exit ?_
    refine eh rfl ?_
    refine seqQ.normal ?_
    refine awp_seq ?_
    refine ra rfl ?_
    refine awp_ret ?_
    refine seqQ.ret ?_
    refine exitQ.ret ?_
    refine exitQ.ret ?_
    refine seqQ.ret ?_
    refine exitQ.ret ?_
    refine seqQ.ret ?_
    refine exitQ.ret ?_
    refine seqQ.ret ?_
    refine exitQ.ret ?_
    refine seqQ.ret ?_
    cases h
    exact ⟨⟨_, _, _, _, rfl, rfl, rfl, rfl, rfl⟩⟩
  · refine cf rfl hc ?_
    refine awp_skip ?_
    refine cn rfl ?_
    refine seqQ.normal ?_
    refine awp_seq ?_
    refine ra rfl ?_
    rcases ite_inv h with ⟨hc, h⟩ | ⟨hc, h⟩
    · refine ct rfl hc ?_
      refine awp_exit ?_
      refine condQ.exit ?_
      refine seqQ.exit ?_
      refine seqQ.exit ?_
      refine exitQ.there rfl ?_
      refine seqQ.exit ?_
      refine eh rfl ?_
      refine en rfl ?_
      refine seqQ.normal ?_
      refine awp_seq ?_
      refine ra rfl ?_
      refine awp_ret ?_
      refine seqQ.ret ?_
      refine exitQ.ret ?_
      refine seqQ.ret ?_
      refine exitQ.ret ?_
      refine seqQ.ret ?_
      refine exitQ.ret ?_
      refine seqQ.ret ?_
      cases h
      exact ⟨⟨_, _, _, _, rfl, rfl, rfl, rfl, rfl⟩⟩
    · refine cf rfl hc ?_
      refine awp_skip ?_
      refine cn rfl ?_
      refine seqQ.normal ?_
      refine awp_seq ?_
      refine ra rfl ?_
      rcases ite_inv h with ⟨hc, h⟩ | ⟨hc, h⟩
      · refine ct rfl hc ?_
        refine awp_exit ?_
        refine condQ.exit ?_
        refine seqQ.exit ?_
        refine seqQ.exit ?_
        refine exitQ.there rfl ?_
        refine seqQ.exit ?_
        refine exitQ.there rfl ?_
        refine eh rfl ?_
        refine seqQ.normal ?_
        refine awp_seq ?_
        refine ra rfl ?_
        refine awp_ret ?_
        refine seqQ.ret ?_
        refine exitQ.ret ?_
        refine seqQ.ret ?_
        refine exitQ.ret ?_
        refine seqQ.ret ?_
        refine exitQ.ret ?_
        refine seqQ.ret ?_
        cases h
        exact ⟨⟨_, _, _, _, rfl, rfl, rfl, rfl, rfl⟩⟩
      · refine cf rfl hc ?_
        refine awp_skip ?_
        refine cn rfl ?_
        refine seqQ.normal ?_
        refine awp_seq ?_
        refine ra rfl ?_
        rcases ite_inv h with ⟨hc, h⟩ | ⟨hc, h⟩
        · refine ct rfl hc ?_
          refine awp_exit ?_
          refine condQ.exit ?_
          refine seqQ.exit ?_
          refine seqQ.exit ?_
          refine exitQ.there rfl ?_
          refine seqQ.exit ?_
          refine exitQ.there rfl ?_
          refine exitQ.there rfl ?_
          refine seqQ.exit ?_
          refine eh rfl ?_
          refine seqQ.normal ?_
          refine awp_seq ?_
          refine ra rfl ?_
          refine awp_ret ?_
          refine seqQ.ret ?_
          refine exitQ.ret ?_
          refine seqQ.ret ?_
          refine exitQ.ret ?_
          refine seqQ.ret ?_
          cases h
          exact ⟨⟨_, _, _, _, rfl, rfl, rfl, rfl, rfl⟩⟩
        · refine cf rfl hc ?_
          refine awp_skip ?_
          refine cn rfl ?_
          refine seqQ.normal ?_
          refine ra rfl ?_
          rcases ite_inv h with ⟨hc, h⟩ | ⟨hc, h⟩
          · refine ct rfl hc ?_
            refine awp_exit ?_
            refine condQ.exit ?_
            refine seqQ.exit ?_
            refine exitQ.there rfl ?_
            refine seqQ.exit ?_
            refine exitQ.there rfl ?_
            refine exitQ.there rfl ?_
            refine seqQ.exit ?_
            refine exitQ.there rfl ?_
            refine seqQ.exit ?_
            refine eh rfl ?_
            refine seqQ.normal ?_
            refine awp_seq ?_
            refine ra rfl ?_
            refine awp_ret ?_
            refine seqQ.ret ?_
            refine exitQ.ret ?_
            refine seqQ.ret ?_
            cases h
            exact ⟨⟨_, _, _, _, rfl, rfl, rfl, rfl, rfl⟩⟩
          · refine cf rfl hc ?_
            refine awp_skip ?_
            refine cn rfl ?_
            refine seqQ.normal ?_
            refine awp_exit ?_
            refine exitQ.there rfl ?_
            refine seqQ.exit ?_
            refine exitQ.there rfl ?_
            refine exitQ.there rfl ?_
            refine seqQ.exit ?_
            refine exitQ.there rfl ?_
            refine seqQ.exit ?_
            refine exitQ.there rfl ?_
            refine seqQ.exit ?_
            refine eh rfl ?_
            refine seqQ.normal ?_
            refine ra rfl ?_
            refine awp_ret ?_
            cases h
            exact ⟨⟨_, _, _, _, rfl, rfl, rfl, rfl, rfl⟩⟩

end Go.AM.Seat

namespace Go.AM.Seat
open Go Go.AM Go.Proofs
set_option maxRecDepth 100000
set_option maxHeartbeats 4000000
set_option linter.unusedVariables false

theorem p_runes_Good_ok {n : Int} {r : Bool} (h : p_runes_Good n = some r) : aval X 32 [.d (.int .i64 n)] [] (CRes.ret (.d (.bool r)) []) := by
  unfold p_runes_Good at h
  refine aval_start (tm := [(0, .d (.int .i64 n))]) (hp := []) (n := 0) rfl Tryd.func32 rfl rfl rfl rfl rfl rfl ?_
  refine ra rfl ?_
  refine awp_seq ?_
  refine rn 3 rfl ?_
  rcases ite_inv h with ⟨hc, h⟩ | ⟨hc, h⟩
  · refine gt rfl rfl rfl rfl hc rfl ?_
    refine on 4 rfl ?_
    rcases ite_inv h with ⟨hc, h⟩ | ⟨hc, h⟩
    · refine gt rfl rfl rfl rfl hc rfl ?_
      refine on 3 rfl ?_
      rcases ite_inv h with ⟨hc, h⟩ | ⟨hc, h⟩
      · refine gt rfl rfl rfl rfl hc rfl ?_
        refine on 5 rfl ?_
        refine rz ?_
        refine awp_ret ?_
        cases h
        exact ⟨⟨_, _, _, _, rfl, rfl, rfl, rfl, rfl⟩⟩
      · refine gf rfl rfl rfl rfl hc rfl ?_
        refine on 5 rfl ?_
        refine rz ?_
        refine awp_ret ?_
        cases h
        exact ⟨⟨_, _, _, _, rfl, rfl, rfl, rfl, rfl⟩⟩
    · refine gf rfl rfl rfl rfl hc rfl ?_
      refine on 8 rfl ?_
      refine rz ?_
      refine awp_ret ?_
      cases h
      exact ⟨⟨_, _, _, _, rfl, rfl, rfl, rfl, rfl⟩⟩
  · refine gf rfl rfl rfl rfl hc rfl ?_
    refine on 12 rfl ?_
    refine rz ?_
    refine awp_ret ?_
    cases h
    exact ⟨⟨_, _, _, _, rfl, rfl, rfl, rfl, rfl⟩⟩

end Go.AM.Seat

namespace Go.AM.Seat
open Go Go.AM Go.Proofs
set_option maxRecDepth 100000
set_option maxHeartbeats 4000000
set_option linter.unusedVariables false

theorem p_runes_put_ok {n : Int} {r : (List Int)} (h : p_runes_put n = some r) : aval X 33 [.nilsl 1, .d (.int .i64 n)] [] (CRes.ret (.d (.list 1 (List.map (D.int .u8) r))) []) := by
  unfold p_runes_put at h
  refine aval_start (tm := [(0, .c (.nilsl 1)), (1, .d (.int .i64 n))]) (hp := []) (n := 0) rfl Tryd.func33 rfl rfl rfl rfl rfl rfl ?_
  refine ra rfl ?_
  refine awp_seq ?_
  refine awp_block ?_
  refine ra rfl ?_
  rcases ite_inv h with ⟨hc, h⟩ | ⟨hc, h⟩
  · refine ct rfl hc ?_
    refine awp_seq ?_
    refine rn 4 rfl ?_
    obtain ⟨l, hk, h⟩ := bind_inv h
    refine po (eappn hk rfl rfl rfl rfl rfl rfl rfl rfl rfl rfl rfl rfl ) rfl rfl ?_
    refine on 1 rfl ?_
    refine rz ?_
    refine awp_ret ?_
    refine condQ.ret ?_
    refine exitQ.ret ?_
    refine seqQ.ret ?_
    cases h
    exact ⟨⟨_, _, _, _, rfl, rfl, rfl, rfl, rfl⟩⟩
  · refine cf rfl hc ?_
    refine ra rfl ?_
    rcases ite_inv h with ⟨hc, h⟩ | ⟨hc, h⟩
    · refine ct rfl hc ?_
      refine awp_seq ?_
      refine rn 10 rfl ?_
      obtain ⟨l1, hk, h⟩ := bind_inv h
      refine po (eappn hk rfl rfl rfl rfl rfl rfl rfl rfl rfl rfl rfl rfl ) rfl rfl ?_
      refine on 1 rfl ?_
      refine rz ?_
      refine awp_ret ?_
      refine condQ.ret ?_
      refine condQ.ret ?_
      refine exitQ.ret ?_
      refine seqQ.ret ?_
      cases h
      exact ⟨⟨_, _, _, _, rfl, rfl, rfl, rfl, rfl⟩⟩
    · refine cf rfl hc ?_
      refine ra rfl ?_
      rcases ite_inv h with ⟨hc, h⟩ | ⟨hc, h⟩
      · refine ct rfl hc ?_
        refine awp_seq ?_
        refine rn 15 rfl ?_
        obtain ⟨l2, hk, h⟩ := bind_inv h
        refine po (eappn hk rfl rfl rfl rfl rfl rfl rfl rfl rfl rfl rfl rfl ) rfl rfl ?_
        refine on 1 rfl ?_
        refine rz ?_
        refine awp_ret ?_
        refine condQ.ret ?_
        refine condQ.ret ?_
        refine condQ.ret ?_
        refine exitQ.ret ?_
        refine seqQ.ret ?_
        cases h
        exact ⟨⟨_, _, _, _, rfl, rfl, rfl, rfl, rfl⟩⟩
      · refine cf rfl hc ?_
        refine awp_skip ?_
        refine cn rfl ?_
        refine cn rfl ?_
        refine cn rfl ?_
        refine en rfl ?_
        refine seqQ.normal ?_
        refine awp_seq ?_
        refine rn 20 rfl ?_
        obtain ⟨l3, hk, h⟩ := bind_inv h
        refine po (eappn hk rfl rfl rfl rfl rfl rfl rfl rfl rfl rfl rfl rfl ) rfl rfl ?_
        refine on 1 rfl ?_
        refine rz ?_
        refine awp_ret ?_
        cases h
        exact ⟨⟨_, _, _, _, rfl, rfl, rfl, rfl, rfl⟩⟩

end Go.AM.Seat

namespace Go.AM.Seat
open Go Go.AM Go.Proofs
set_option maxRecDepth 100000
set_option maxHeartbeats 4000000
set_option linter.unusedVariables false

theorem p_runes_One_l0_ok (k : Int) : ∀ (a : (List Int) × Int × Int) (res : Except (Int × Int) (Int)), p_runes_One_l0 a = some res → (match a with | (l, n1, x) => awpL X 20 (codeAt [1, 1, 1, 1, 0, 1, 0, 0] (bodyOf Tryd.f20)) (cleanAt (X.H 20 7) 0) (exitQ 0 (X.H 20 1000000) 0 (SubQ X Tryd.f20 0 (fun (r : Int × Int) => (CRes.ret (.tuple [.d (.int .i64 r.1), .d (.int .i64 r.2)]) [])) (fun (n2 : Int) => (⟨[(4, .d (.int .i64 k)), (5, .d (.int .i64 n2))], [], 0, [], none⟩ : St)) res)) ⟨[(4, .d (.int .i64 k)), (5, .d (.int .i64 n1)), (28, .d (.list 1 (List.map (D.int .u8) l))), (29, .d (.int .i64 (List.length l : Int))), (30, .d (.int .i64 x))], [], 0, [], none⟩) := by
  refine p_runes_One_l0.partial_correctness (motive := (fun a res => match a with | (l, n1, x) => awpL X 20 (codeAt [1, 1, 1, 1, 0, 1, 0, 0] (bodyOf Tryd.f20)) (cleanAt (X.H 20 7) 0) (exitQ 0 (X.H 20 1000000) 0 (SubQ X Tryd.f20 0 (fun (r : Int × Int) => (CRes.ret (.tuple [.d (.int .i64 r.1), .d (.int .i64 r.2)]) [])) (fun (n2 : Int) => (⟨[(4, .d (.int .i64 k)), (5, .d (.int .i64 n2))], [], 0, [], none⟩ : St)) res)) ⟨[(4, .d (.int .i64 k)), (5, .d (.int .i64 n1)), (28, .d (.list 1 (List.map (D.int .u8) l))), (29, .d (.int .i64 (List.length l : Int))), (30, .d (.int .i64 x))], [], 0, [], none⟩)) ?_
  rintro p_runes_One_l0' ih ⟨l, n1, x⟩ res h
  refine lg rfl ?_
  refine ra rfl ?_
  refine awp_seq ?_
  rcases ite_inv h with ⟨hc, h⟩ | ⟨hc, h⟩
  · refine ct rfl hc ?_
    refine awp_skip ?_
    refine cn rfl ?_
    refine seqQ.normal ?_
    refine awp_seq ?_
    refine awp_block ?_
    refine awp_seq ?_
    refine rn 0 rfl ?_
    obtain ⟨c, hk, h⟩ := bind_inv h
    refine po (elget (D.int .u8) (fun _ => rfl) hk rfl rfl rfl rfl rfl) rfl rfl ?_
    refine on 2 rfl ?_
    refine rz ?_
    refine awp_seq ?_
    refine ra rfl ?_
    rcases ite_inv h with ⟨hc, h⟩ | ⟨hc, h⟩
    · refine ct rfl hc ?_
      refine ra rfl ?_
      refine awp_ret ?_
      refine condQ.ret ?_
      refine seqQ.ret ?_
      refine exitQ.ret ?_
      refine seqQ.ret ?_
      refine loopQ.ret ?_
      refine exitQ.ret ?_
      cases h
      exact .err ⟨⟨_, _, _, _, rfl, rfl, rfl, rfl, rfl⟩⟩
    · refine cf rfl hc ?_
      refine awp_skip ?_
      refine cn rfl ?_
      refine seqQ.normal ?_
      refine rn 7 rfl ?_
      refine awpO_nil ?_
      refine en rfl ?_
      refine seqQ.normal ?_
      refine rn 2 rfl ?_
      refine awpO_nil ?_
      refine loopQ.normal ?_
      exact awpL_at rfl rfl (ih _ _ h)
  · refine cf rfl hc ?_
    refine awp_exit ?_
    refine condQ.exit ?_
    refine seqQ.exit ?_
    refine loopQ.exit ?_
    refine eh rfl ?_
    cases h
    exact .ok rfl

theorem p_runes_One_ok {b : (List Int)} {r : Int × Int} (h : p_runes_One b = some r) : aval X 20 [.d (.list 1 (List.map (D.int .u8) b))] [] (CRes.ret (.tuple [.d (.int .i64 r.1), .d (.int .i64 r.2)]) []) := by
  unfold p_runes_One at h
  refine aval_start (tm := [(0, .d (.list 1 (List.map (D.int .u8) b)))]) (hp := []) (n := 0) rfl Tryd.func20 rfl rfl rfl rfl rfl rfl ?_
  refine ra rfl ?_
  refine awp_seq ?_
  refine awp_seq ?_
  refine rn 1 rfl ?_
  refine po (ellen rfl rfl rfl rfl rfl rfl rfl) rfl rfl ?_
  refine on 1 rfl ?_
  refine rz ?_
  rcases ite_inv h with ⟨hc, h⟩ | ⟨hc, h⟩
  · refine ct rfl hc ?_
    refine ra rfl ?_
    refine awp_ret ?_
    refine condQ.ret ?_
    refine seqQ.ret ?_
    cases h
    exact ⟨⟨_, _, _, _, rfl, rfl, rfl, rfl, rfl⟩⟩
  · refine cf rfl hc ?_
    refine awp_skip ?_
    refine cn rfl ?_
    refine seqQ.normal ?_
    refine awp_seq ?_
    refine rn 1 rfl ?_
    obtain ⟨y, hk, h⟩ := bind_inv h
    refine po (elget (D.int .u8) (fun _ => rfl) hk rfl rfl rfl rfl rfl) rfl rfl ?_
    refine on 1 rfl ?_
    obtain ⟨⟨k, n⟩, hk, h⟩ := bind_inv h
    refine po (ecall (p_runes_first_ok hk) rfl rfl rfl rfl rfl rfl rfl rfl rfl) rfl rfl ?_
    refine on 5 rfl ?_
    refine rz ?_
    refine awp_seq ?_
    refine awp_seq ?_
    refine rn 3 rfl ?_
    rcases ite_inv h with ⟨hc, h⟩ | ⟨hc, h⟩
    · refine gt rfl rfl rfl rfl hc rfl ?_
      refine on 5 rfl ?_
      refine rz ?_
      refine ct rfl rfl ?_
      refine ra rfl ?_
      refine awp_ret ?_
      refine condQ.ret ?_
      refine seqQ.ret ?_
      cases h
      exact ⟨⟨_, _, _, _, rfl, rfl, rfl, rfl, rfl⟩⟩
    · refine gf rfl rfl rfl rfl hc rfl ?_
      refine on 2 rfl ?_
      refine po (ellen rfl rfl rfl rfl rfl rfl rfl) rfl rfl ?_
      refine on 2 rfl ?_
      refine rz ?_
      rcases ite_inv h with ⟨hc, h⟩ | ⟨hc, h⟩
      · refine ct rfl hc ?_
        refine ra rfl ?_
        refine awp_ret ?_
        refine condQ.ret ?_
        refine seqQ.ret ?_
        cases h
        exact ⟨⟨_, _, _, _, rfl, rfl, rfl, rfl, rfl⟩⟩
      · refine cf rfl hc ?_
        refine awp_skip ?_
        refine cn rfl ?_
        refine seqQ.normal ?_
        refine awp_seq ?_
        refine awp_seq ?_
        refine rn 2 rfl ?_
        obtain ⟨l, hk, h⟩ := bind_inv h
        refine po (elmid hk rfl rfl rfl rfl rfl rfl rfl) rfl rfl ?_
        refine po (ellen rfl rfl rfl rfl rfl rfl rfl) rfl rfl ?_
        refine on 1 rfl ?_
        refine rz ?_
        obtain ⟨res, hs, h⟩ := bind_inv h
        refine awp_sub Tryd.f20 0 (fun (r : Int × Int) => (CRes.ret (.tuple [.d (.int .i64 r.1), .d (.int .i64 r.2)]) [])) (fun (n2 : Int) => (⟨[(4, .d (.int .i64 k)), (5, .d (.int .i64 n2))], [], 0, [], none⟩ : St)) (res := res) ?_ (fun y hy => ?_) (fun r s' hr he => ?_)
        · replace h := hs
          refine awp_block ?_
          refine awp_loop ?_
          exact awpL_at rfl rfl (p_runes_One_l0_ok k _ _ h)
        · subst hy
          obtain n2 := y
          refine seqQ.normal ?_
          refine awp_seq ?_
          refine awp_seq ?_
          refine rn 1 rfl ?_
          obtain ⟨x1, hk, h⟩ := bind_inv h
          refine po (ecall (p_runes_Good_ok hk) rfl rfl rfl rfl rfl rfl rfl rfl rfl) rfl rfl ?_
          refine on 2 rfl ?_
          rcases ite_inv h with ⟨hc, h⟩ | ⟨hc, h⟩
          · refine gt rfl rfl rfl rfl hc rfl ?_
            refine on 6 rfl ?_
            refine rz ?_
            refine ct rfl rfl ?_
            refine ra rfl ?_
            refine awp_ret ?_
            refine condQ.ret ?_
            refine seqQ.ret ?_
            cases h
            exact ⟨⟨_, _, _, _, rfl, rfl, rfl, rfl, rfl⟩⟩
          · refine gf rfl rfl rfl rfl hc rfl ?_
            refine on 1 rfl ?_
            obtain ⟨x2, hk, h⟩ := bind_inv h
            refine po (ecallk (p_runes_put_ok hk) rfl rfl rfl rfl rfl rfl rfl) rfl rfl ?_
            refine po (ellen rfl rfl rfl rfl rfl rfl rfl) rfl rfl ?_
            refine on 3 rfl ?_
            refine rz ?_
            rcases ite_inv h with ⟨hc, h⟩ | ⟨hc, h⟩
            · refine ct rfl hc ?_
              refine ra rfl ?_
              refine awp_ret ?_
              refine condQ.ret ?_
              refine seqQ.ret ?_
              cases h
              exact ⟨⟨_, _, _, _, rfl, rfl, rfl, rfl, rfl⟩⟩
            · refine cf rfl hc ?_
              refine awp_skip ?_
              refine cn rfl ?_
              refine seqQ.normal ?_
              refine ra rfl ?_
              refine awp_ret ?_
              cases h
              exact ⟨⟨_, _, _, _, rfl, rfl, rfl, rfl, rfl⟩⟩
        · subst hr
          refine seqQ.ret ?_
          cases h
          exact he

end Go.AM.Seat

namespace Go.AM.Seat
open Go Go.AM Go.Proofs
set_option maxRecDepth 100000
set_option maxHeartbeats 4000000
set_option linter.unusedVariables false

theorem p_jlex_digit_ok {c : Int} {r : Bool} (h : p_jlex_digit c = some r) : aval X 27 [.d (.int .u8 c)] [] (CRes.ret (.d (.bool r)) []) := by
  unfold p_jlex_digit at h
  refine aval_start (tm := [(0, .d (.int .u8 c))]) (hp := []) (n := 0) rfl Tryd.func27 rfl rfl rfl rfl rfl rfl ?_
  refine ra rfl ?_
  refine awp_seq ?_
  refine rn 3 rfl ?_
  rcases ite_inv h with ⟨hc, h⟩ | ⟨hc, h⟩
  · refine gt rfl rfl rfl rfl hc rfl ?_
    refine on 4 rfl ?_
    refine rz ?_
    refine awp_ret ?_
    cases h
    exact ⟨⟨_, _, _, _, rfl, rfl, rfl, rfl, rfl⟩⟩
  · refine gf rfl rfl rfl rfl hc rfl ?_
    refine on 4 rfl ?_
    refine rz ?_
    refine awp_ret ?_
    cases h
    exact ⟨⟨_, _, _, _, rfl, rfl, rfl, rfl, rfl⟩⟩

end Go.AM.Seat

namespace Go.AM.Seat
open Go Go.AM Go.Proofs
set_option maxRecDepth 100000
set_option maxHeartbeats 4000000
set_option linter.unusedVariables false

theorem p_jlex_at_ok {s : Str} {i : Int} {r : Int} (h : p_jlex_at s i = some r) : aval X 28 [.d (.str s), .d (.int .i64 i)] [] (CRes.ret (.d (.int .u8 r)) []) := by
  unfold p_jlex_at at h
  refine aval_start (tm := [(0, .d (.str s)), (1, .d (.int .i64 i))]) (hp := []) (n := 0) rfl Tryd.func28 rfl rfl rfl rfl rfl rfl ?_
  refine ra rfl ?_
  refine awp_seq ?_
  refine ra rfl ?_
  rcases ite_inv h with ⟨hc, h⟩ | ⟨hc, h⟩
  · refine ct rfl hc ?_
    refine awp_seq ?_
    refine rn 2 rfl ?_
    obtain ⟨c, hk, h⟩ := bind_inv h
    refine po (esget hk rfl rfl rfl rfl) rfl rfl ?_
    refine on 1 rfl ?_
    refine rz ?_
    refine awp_ret ?_
    refine condQ.ret ?_
    refine seqQ.ret ?_
    cases h
    exact ⟨⟨_, _, _, _, rfl, rfl, rfl, rfl, rfl⟩⟩
  · refine cf rfl hc ?_
    refine awp_skip ?_
    refine cn rfl ?_
    refine seqQ.normal ?_
    refine ra rfl ?_
    refine awp_ret ?_
    cases h
    exact ⟨⟨_, _, _, _, rfl, rfl, rfl, rfl, rfl⟩⟩

end Go.AM.Seat

namespace Go.AM.Seat
open Go Go.AM Go.Proofs
set_option maxRecDepth 100000
set_option maxHeartbeats 4000000
set_option linter.unusedVariables false

theorem p_jlex_begins_ok {s : Str} {r : Bool} (h : p_jlex_begins s = some r) : aval X 21 [.d (.str s)] [] (CRes.ret (.d (.bool r)) []) := by
  unfold p_jlex_begins at h
  refine aval_start (tm := [(0, .d (.str s))]) (hp := []) (n := 0) rfl Tryd.func21 rfl rfl rfl rfl rfl rfl ?_
  refine ra rfl ?_
  refine awp_seq ?_
  refine rn 1 rfl ?_
  obtain ⟨x, hk, h⟩ := bind_inv h
  refine po (ecall (p_jlex_at_ok hk) rfl rfl rfl rfl rfl rfl rfl rfl rfl) rfl rfl ?_
  obtain ⟨x1, hk, h⟩ := bind_inv h
  refine po (ecall (p_jlex_digit_ok hk) rfl rfl rfl rfl rfl rfl rfl rfl rfl) rfl rfl ?_
  refine on 1 rfl ?_
  rcases ite_inv h with ⟨hc, h⟩ | ⟨hc, h⟩
  · refine gt rfl rfl rfl rfl hc rfl ?_
    refine on 10 rfl ?_
    refine rz ?_
    refine awp_ret ?_
    cases h
    exact ⟨⟨_, _, _, _, rfl, rfl, rfl, rfl, rfl⟩⟩
  · refine gf rfl rfl rfl rfl hc rfl ?_
    refine on 1 rfl ?_
    obtain ⟨x2, hk, h⟩ := bind_inv h
    refine po (ecall (p_jlex_at_ok hk) rfl rfl rfl rfl rfl rfl rfl rfl rfl) rfl rfl ?_
    refine on 2 rfl ?_
    rcases ite_inv h with ⟨hc, h⟩ | ⟨hc, h⟩
    · refine gt rfl rfl rfl rfl hc rfl ?_
      refine on 1 rfl ?_
      obtain ⟨x3, hk, h⟩ := bind_inv h
      refine po (ecall (p_jlex_at_ok hk) rfl rfl rfl rfl rfl rfl rfl rfl rfl) rfl rfl ?_
      obtain ⟨x4, hk, h⟩ := bind_inv h
      refine po (ecall (p_jlex_digit_ok hk) rfl rfl rfl rfl rfl rfl rfl rfl rfl) rfl rfl ?_
      refine on 3 rfl ?_
      refine rz ?_
      refine awp_ret ?_
      cases h
      exact ⟨⟨_, _, _, _, rfl, rfl, rfl, rfl, rfl⟩⟩
    · refine gf rfl rfl rfl rfl hc rfl ?_
      refine on 6 rfl ?_
      refine rz ?_
      refine awp_ret ?_
      cases h
      exact ⟨⟨_, _, _, _, rfl, rfl, rfl, rfl, rfl⟩⟩

end Go.AM.Seat

namespace Go.AM.Seat
open Go Go.AM Go.Proofs
set_option maxRecDepth 100000
set_option maxHeartbeats 4000000
set_option linter.unusedVariables false

theorem p_jlex_number_l0_ok : ∀ (a : Str × Int × Int × Bool) (res : Int × Int × Bool), p_jlex_number_l0 a = some res → (match a with | (s, k1, n, ok) => awpL X 34 (codeAt [1, 1, 1, 1, 0, 0, 0] (bodyOf Tryd.f34)) (cleanAt (X.H 34 5) 0) (exitQ 0 (X.H 34 1000000) 0 (NrmQ (fun ((k2, n2, ok2) : Int × Int × Bool) => (⟨[(0, .d (.str s)), (5, .d (.int .i64 k2)), (6, .d (.int .u64 n2)), (7, .d (.bool ok2))], [], 0, [], none⟩ : St)) res)) ⟨[(0, .d (.str s)), (5, .d (.int .i64 k1)), (6, .d (.int .u64 n)), (7, .d (.bool ok))], [], 0, [], none⟩) := by
  refine p_jlex_number_l0.partial_correctness (motive := (fun a res => match a with | (s, k1, n, ok) => awpL X 34 (codeAt [1, 1, 1, 1, 0, 0, 0] (bodyOf Tryd.f34)) (cleanAt (X.H 34 5) 0) (exitQ 0 (X.H 34 1000000) 0 (NrmQ (fun ((k2, n2, ok2) : Int × Int × Bool) => (⟨[(0, .d (.str s)), (5, .d (.int .i64 k2)), (6, .d (.int .u64 n2)), (7, .d (.bool ok2))], [], 0, [], none⟩ : St)) res)) ⟨[(0, .d (.str s)), (5, .d (.int .i64 k1)), (6, .d (.int .u64 n)), (7, .d (.bool ok))], [], 0, [], none⟩)) ?_
  rintro p_jlex_number_l0' ih ⟨s, k1, n, ok⟩ res h
  refine lg rfl ?_
  refine awp_seq ?_
  refine awp_seq ?_
  refine rn 2 rfl ?_
  obtain ⟨x, hk, h⟩ := bind_inv h
  refine po (ecall (p_jlex_at_ok hk) rfl rfl rfl rfl rfl rfl rfl rfl rfl) rfl rfl ?_
  obtain ⟨x1, hk, h⟩ := bind_inv h
  refine po (ecall (p_jlex_digit_ok hk) rfl rfl rfl rfl rfl rfl rfl rfl rfl) rfl rfl ?_
  refine rz ?_
  rcases ite_inv h with ⟨hc, h⟩ | ⟨hc, h⟩
  · refine ct rfl hc ?_
    refine awp_skip ?_
    refine cn rfl ?_
    refine seqQ.normal ?_
    refine awp_seq ?_
    obtain ⟨⟨n1, ok1⟩, hs, h⟩ := bind_inv h
    refine awp_nrm (fun ((n1, ok1) : Int × Bool) => (⟨[(0, .d (.str s)), (5, .d (.int .i64 k1)), (6, .d (.int .u64 n1)), (7, .d (.bool ok1))], [], 0, [], none⟩ : St)) (y := (n1, ok1)) ?_ ?_
    · replace h := hs
      refine awp_block ?_
      refine awp_seq ?_
      refine rn 2 rfl ?_
      obtain ⟨c1, hk, h⟩ := bind_inv h
      refine po (esget hk rfl rfl rfl rfl) rfl rfl ?_
      refine on 3 rfl ?_
      refine rz ?_
      refine awp_seq ?_
      refine rn 2 rfl ?_
      rcases ite_inv h with ⟨hc, h⟩ | ⟨hc, h⟩
      · refine gt rfl rfl rfl rfl hc rfl ?_
        refine on 7 rfl ?_
        refine rz ?_
        refine rn 5 rfl ?_
        refine awpO_nil ?_
        refine en rfl ?_
        cases h
        exact .ok rfl
      · refine gf rfl rfl rfl rfl hc rfl ?_
        refine on 7 rfl ?_
        refine rz ?_
        refine rn 5 rfl ?_
        refine awpO_nil ?_
        refine en rfl ?_
        cases h
        exact .ok rfl
    · refine seqQ.normal ?_
      refine rn 3 rfl ?_
      refine awpO_nil ?_
      refine loopQ.normal ?_
      exact awpL_at rfl rfl (ih _ _ h)
  · refine cf rfl hc ?_
    refine awp_exit ?_
    refine condQ.exit ?_
    refine seqQ.exit ?_
    refine loopQ.exit ?_
    refine eh rfl ?_
    cases h
    exact .ok rfl

theorem p_jlex_number_ok {s : Str} {r : Int × Int × Bool} (h : p_jlex_number s = some r) : aval X 34 [.d (.str s)] [] (CRes.ret (.tuple [.d (.int .i64 r.1), .d (.int .i64 r.2.1), .d (.bool r.2.2)]) []) := by
  unfold p_jlex_number at h
  refine aval_start (tm := [(0, .d (.str s))]) (hp := []) (n := 0) rfl Tryd.func34 rfl rfl rfl rfl rfl rfl ?_
  refine ra rfl ?_
  refine ra rfl ?_
  refine awp_seq ?_
  refine awp_seq ?_
  refine rn 1 rfl ?_
  obtain ⟨c, hk, h⟩ := bind_inv h
  refine po (esget hk rfl rfl rfl rfl) rfl rfl ?_
  refine on 1 rfl ?_
  refine rz ?_
  obtain ⟨k, hs, h⟩ := bind_inv h
  refine awp_nrm (fun (k : Int) => (⟨[(0, .d (.str s)), (5, .d (.int .i64 k))], [], 0, [], none⟩ : St)) (y := k) ?_ ?_
  · replace h := hs
    rcases ite_inv h with ⟨hc, h⟩ | ⟨hc, h⟩
    · refine ct rfl hc ?_
      refine rn 1 rfl ?_
      refine awpO_nil ?_
      refine cn rfl ?_
      cases h
      exact .ok rfl
    · refine cf rfl hc ?_
      refine awp_skip ?_
      refine cn rfl ?_
      cases h
      exact .ok rfl
  · refine seqQ.normal ?_
    refine ra rfl ?_
    refine awp_seq ?_
    obtain ⟨⟨k2, n2, ok2⟩, hs, h⟩ := bind_inv h
    refine awp_nrm (fun ((k2, n2, ok2) : Int × Int × Bool) => (⟨[(0, .d (.str s)), (5, .d (.int .i64 k2)), (6, .d (.int .u64 n2)), (7, .d (.bool ok2))], [], 0, [], none⟩ : St)) (y := (k2, n2, ok2)) ?_ ?_
    · replace h := hs
      refine awp_block ?_
      refine awp_loop ?_
      exact awpL_at rfl rfl (p_jlex_number_l0_ok _ _ h)
    · refine seqQ.normal ?_
      refine awp_seq ?_
      refine awp_seq ?_
      refine rn 1 rfl ?_
      obtain ⟨c2, hk, h⟩ := bind_inv h
      refine po (esget hk rfl rfl rfl rfl) rfl rfl ?_
      refine on 1 rfl ?_
      refine rz ?_
      rcases ite_inv h with ⟨hc, h⟩ | ⟨hc, h⟩
      · refine ct rfl hc ?_
        refine ra rfl ?_
        refine awp_ret ?_
        refine condQ.ret ?_
        refine seqQ.ret ?_
        cases h
        exact ⟨⟨_, _, _, _, rfl, rfl, rfl, rfl, rfl⟩⟩
      · refine cf rfl hc ?_
        refine awp_skip ?_
        refine cn rfl ?_
        refine seqQ.normal ?_
        refine awp_seq ?_
        refine rn 5 rfl ?_
        rcases ite_inv h with ⟨hc, h⟩ | ⟨hc, h⟩
        · refine gt rfl rfl rfl rfl hc rfl ?_
          refine on 6 rfl ?_
          refine rz ?_
          refine awp_ret ?_
          cases h
          exact ⟨⟨_, _, _, _, rfl, rfl, rfl, rfl, rfl⟩⟩
        · refine gf rfl rfl rfl rfl hc rfl ?_
          refine on 6 rfl ?_
          refine rz ?_
          refine awp_ret ?_
          cases h
          exact ⟨⟨_, _, _, _, rfl, rfl, rfl, rfl, rfl⟩⟩

end Go.AM.Seat

namespace Go.AM.Seat
open Go Go.AM Go.Proofs
set_option maxRecDepth 100000
set_option maxHeartbeats 4000000
set_option linter.unusedVariables false

theorem p_arr_Atom_ok {n : Int} {r : Arr} (h : p_arr_Atom n = some r) : aval X 35 [.d (.int .i64 n)] [] (CRes.ret (.d (encArr r)) []) := by
  unfold p_arr_Atom at h
  refine aval_start (tm := [(0, .d (.int .i64 n))]) (hp := []) (n := 0) rfl Tryd.func35 rfl rfl rfl rfl rfl rfl ?_
  refine ra (nid' := 1) rfl ?_
  refine ra rfl ?_
  refine awp_ret ?_
  cases h
  exact ⟨⟨_, _, _, _, rfl, rfl, rfl, rfl, rfl⟩⟩

end Go.AM.Seat

namespace Go.AM.Seat
open Go Go.AM Go.Proofs
set_option maxRecDepth 100000
set_option maxHeartbeats 4000000
set_option linter.unusedVariables false

theorem p_arr_Nums_l0_ok : ∀ (a : ((List Int)) × Int × (List Cell)) (res : (List Cell)), p_arr_Nums_l0 a = some res → (match a with | (l, x, a1) => awpL X 36 (codeAt [1, 1, 0, 1, 0, 0] (bodyOf Tryd.f36)) (cleanAt (X.H 36 3) 2) (exitQ 0 (X.H 36 1000000) 2 (NrmQ (fun (a11 : (List Cell)) => (⟨[(2, .c (.ptr 0 0)), (3, .c (.ptr 1 0))], [(1, [.d (.list 1 (List.map (D.int .i64) [(List.length l : Int)])), .own 3 (List.map encCell a11)]), (0, [.own 1 (List.map (D.int .i64) []), .own 3 (List.map encCell [])])], 2, [], none⟩ : St)) res)) ⟨[(2, .c (.ptr 0 0)), (3, .c (.ptr 1 0)), (10, .d (.list 1 (List.map (D.int .i64) l))), (11, .d (.int .i64 (List.length l : Int))), (12, .d (.int .i64 x))], [(1, [.d (.list 1 (List.map (D.int .i64) [(List.length l : Int)])), .own 3 (List.map encCell a1)]), (0, [.own 1 (List.map (D.int .i64) []), .own 3 (List.map encCell [])])], 2, [], none⟩) := by
  refine p_arr_Nums_l0.partial_correctness (motive := (fun a res => match a with | (l, x, a1) => awpL X 36 (codeAt [1, 1, 0, 1, 0, 0] (bodyOf Tryd.f36)) (cleanAt (X.H 36 3) 2) (exitQ 0 (X.H 36 1000000) 2 (NrmQ (fun (a11 : (List Cell)) => (⟨[(2, .c (.ptr 0 0)), (3, .c (.ptr 1 0))], [(1, [.d (.list 1 (List.map (D.int .i64) [(List.length l : Int)])), .own 3 (List.map encCell a11)]), (0, [.own 1 (List.map (D.int .i64) []), .own 3 (List.map encCell [])])], 2, [], none⟩ : St)) res)) ⟨[(2, .c (.ptr 0 0)), (3, .c (.ptr 1 0)), (10, .d (.list 1 (List.map (D.int .i64) l))), (11, .d (.int .i64 (List.length l : Int))), (12, .d (.int .i64 x))], [(1, [.d (.list 1 (List.map (D.int .i64) [(List.length l : Int)])), .own 3 (List.map encCell a1)]), (0, [.own 1 (List.map (D.int .i64) []), .own 3 (List.map encCell [])])], 2, [], none⟩)) ?_
  rintro p_arr_Nums_l0' ih ⟨l, x, a1⟩ res h
  refine lg rfl ?_
  refine ra rfl ?_
  refine awp_seq ?_
  rcases ite_inv h with ⟨hc, h⟩ | ⟨hc, h⟩
  · refine ct rfl hc ?_
    refine awp_skip ?_
    refine cn rfl ?_
    refine seqQ.normal ?_
    refine awp_seq ?_
    refine awp_block ?_
    refine awp_seq ?_
    refine rn 0 rfl ?_
    obtain ⟨n, hk, h⟩ := bind_inv h
    refine po (elget (D.int .i64) (fun _ => rfl) hk rfl rfl rfl rfl rfl) rfl rfl ?_
    refine on 2 rfl ?_
    refine rz ?_
    refine rn 5 rfl ?_
    obtain ⟨l1, hk, h⟩ := bind_inv h
    refine po (eappc hk rfl rfl rfl rfl rfl rfl rfl rfl rfl rfl rfl rfl rfl rfl ) rfl rfl ?_
    refine on 2 rfl ?_
    refine awpO_nil ?_
    refine en rfl ?_
    refine seqQ.normal ?_
    refine rn 2 rfl ?_
    refine awpO_nil ?_
    refine loopQ.normal ?_
    exact awpL_at rfl rfl (ih _ _ h)
  · refine cf rfl hc ?_
    refine awp_exit ?_
    refine condQ.exit ?_
    refine seqQ.exit ?_
    refine loopQ.exit ?_
    refine eh rfl ?_
    cases h
    exact .ok rfl

theorem p_arr_Nums_ok {l : (List Int)} {r : Arr} (h : p_arr_Nums l = some r) : aval X 36 [.d (.list 1 (List.map (D.int .i64) l))] [] (CRes.ret (.d (encArr r)) []) := by
  unfold p_arr_Nums at h
  refine aval_start (tm := [(0, .d (.list 1 (List.map (D.int .i64) l)))]) (hp := []) (n := 0) rfl Tryd.func36 rfl rfl rfl rfl rfl rfl ?_
  refine ra (nid' := 1) rfl ?_
  refine awp_seq ?_
  refine rn 1 rfl ?_
  refine po (ellen rfl rfl rfl rfl rfl rfl rfl) rfl rfl ?_
  refine on (nid' := 2) 4 rfl ?_
  refine rz ?_
  refine awp_seq ?_
  refine awp_seq ?_
  refine rn 1 rfl ?_
  refine po (ellen rfl rfl rfl rfl rfl rfl rfl) rfl rfl ?_
  refine on 1 rfl ?_
  refine rz ?_
  obtain ⟨a11, hs, h⟩ := bind_inv h
  refine awp_nrm (fun (a11 : (List Cell)) => (⟨[(2, .c (.ptr 0 0)), (3, .c (.ptr 1 0))], [(1, [.d (.list 1 (List.map (D.int .i64) [(List.length l : Int)])), .own 3 (List.map encCell a11)]), (0, [.own 1 (List.map (D.int .i64) []), .own 3 (List.map encCell [])])], 2, [], none⟩ : St)) (y := a11) ?_ ?_
  · replace h := hs
    refine awp_block ?_
    refine awp_loop ?_
    exact awpL_at rfl rfl (p_arr_Nums_l0_ok _ _ h)
  · refine seqQ.normal ?_
    refine ra rfl ?_
    refine awp_ret ?_
    cases h
    exact ⟨⟨_, _, _, _, rfl, rfl, rfl, rfl, rfl⟩⟩

end Go.AM.Seat

namespace Go.AM.Seat
open Go Go.AM Go.Proofs
set_option maxRecDepth 100000
set_option maxHeartbeats 4000000
set_option linter.unusedVariables false

theorem p_jlex_numbers_l1_ok (i : Int) (k : Int) (l1 : List Int) : ∀ (a : Str × Int) (res : Int), p_jlex_numbers_l1 a = some res → (match a with | (s, j) => awpL X 22 (codeAt [1, 0, 1, 1, 1, 0, 0, 0, 0, 1, 1, 1, 1, 0, 0, 0] (bodyOf Tryd.f22)) (cleanAt (X.H 22 8) 1) (exitQ 2 (X.H 22 1000002) 1 (NrmQ (fun (j1 : Int) => (⟨[(0, .d (.str s)), (2, .c (.ptr 0 0)), (5, .c (.own 1 (List.map (D.int .i64) l1))), (6, .d (.int .i64 (w64 (i + k)))), (10, .d (.int .i64 j1))], [(0, [.own 1 (List.map (D.int .i64) []), .own 3 (List.map encCell [])])], 1, [], none⟩ : St)) res)) ⟨[(0, .d (.str s)), (2, .c (.ptr 0 0)), (5, .c (.own 1 (List.map (D.int .i64) l1))), (6, .d (.int .i64 (w64 (i + k)))), (10, .d (.int .i64 j))], [(0, [.own 1 (List.map (D.int .i64) []), .own 3 (List.map encCell [])])], 1, [], none⟩) := by
  refine p_jlex_numbers_l1.partial_correctness (motive := (fun a res => match a with | (s, j) => awpL X 22 (codeAt [1, 0, 1, 1, 1, 0, 0, 0, 0, 1, 1, 1, 1, 0, 0, 0] (bodyOf Tryd.f22)) (cleanAt (X.H 22 8) 1) (exitQ 2 (X.H 22 1000002) 1 (NrmQ (fun (j1 : Int) => (⟨[(0, .d (.str s)), (2, .c (.ptr 0 0)), (5, .c (.own 1 (List.map (D.int .i64) l1))), (6, .d (.int .i64 (w64 (i + k)))), (10, .d (.int .i64 j1))], [(0, [.own 1 (List.map (D.int .i64) []), .own 3 (List.map encCell [])])], 1, [], none⟩ : St)) res)) ⟨[(0, .d (.str s)), (2, .c (.ptr 0 0)), (5, .c (.own 1 (List.map (D.int .i64) l1))), (6, .d (.int .i64 (w64 (i + k)))), (10, .d (.int .i64 j))], [(0, [.own 1 (List.map (D.int .i64) []), .own 3 (List.map encCell [])])], 1, [], none⟩)) ?_
  rintro p_jlex_numbers_l1' ih ⟨s, j⟩ res h
  refine lg rfl ?_
  refine awp_seq ?_
  refine awp_seq ?_
  refine rn 2 rfl ?_
  obtain ⟨x, hk, h⟩ := bind_inv h
  refine po (ecall (p_jlex_at_ok hk) rfl rfl rfl rfl rfl rfl rfl rfl rfl) rfl rfl ?_
  refine on 1 rfl ?_
  refine rz ?_
  rcases ite_inv h with ⟨hc, h⟩ | ⟨hc, h⟩
  · refine ct rfl hc ?_
    refine awp_skip ?_
    refine cn rfl ?_
    refine seqQ.normal ?_
    refine awp_block ?_
    refine rn 3 rfl ?_
    refine awpO_nil ?_
    refine en rfl ?_
    refine loopQ.normal ?_
    exact awpL_at rfl rfl (ih _ _ h)
  · refine cf rfl hc ?_
    refine awp_exit ?_
    refine condQ.exit ?_
    refine seqQ.exit ?_
    refine loopQ.exit ?_
    refine eh rfl ?_
    cases h
    exact .ok rfl

theorem p_jlex_numbers_l0_ok : ∀ (a : Str × (List Int) × Int) (res : Except (Arr × Int × Int) ((List Int) × Int)), p_jlex_numbers_l0 a = some res → (match a with | (s, l, i) => awpL X 22 (codeAt [1, 0, 1, 1, 1, 0, 0, 0] (bodyOf Tryd.f22)) (cleanAt (X.H 22 3) 1) (exitQ 0 (X.H 22 1000000) 1 (SubQ X Tryd.f22 0 (fun (r : Arr × Int × Int) => (CRes.ret (.tuple [.d (encArr r.1), .d (.int .i64 r.2.1), .d (.int .i64 r.2.2)]) [])) (fun ((l2, i1) : (List Int) × Int) => (⟨[(2, .c (.ptr 0 0)), (5, .c (.own 1 (List.map (D.int .i64) l2))), (6, .d (.int .i64 i1))], [(0, [.own 1 (List.map (D.int .i64) []), .own 3 (List.map encCell [])])], 1, [], none⟩ : St)) res)) ⟨[(0, .d (.str s)), (2, .c (.ptr 0 0)), (5, .c (.own 1 (List.map (D.int .i64) l))), (6, .d (.int .i64 i))], [(0, [.own 1 (List.map (D.int .i64) []), .own 3 (List.map encCell [])])], 1, [], none⟩) := by
  refine p_jlex_numbers_l0.partial_correctness (motive := (fun a res => match a with | (s, l, i) => awpL X 22 (codeAt [1, 0, 1, 1, 1, 0, 0, 0] (bodyOf Tryd.f22)) (cleanAt (X.H 22 3) 1) (exitQ 0 (X.H 22 1000000) 1 (SubQ X Tryd.f22 0 (fun (r : Arr × Int × Int) => (CRes.ret (.tuple [.d (encArr r.1), .d (.int .i64 r.2.1), .d (.int .i64 r.2.2)]) [])) (fun ((l2, i1) : (List Int) × Int) => (⟨[(2, .c (.ptr 0 0)), (5, .c (.own 1 (List.map (D.int .i64) l2))), (6, .d (.int .i64 i1))], [(0, [.own 1 (List.map (D.int .i64) []), .own 3 (List.map encCell [])])], 1, [], none⟩ : St)) res)) ⟨[(0, .d (.str s)), (2, .c (.ptr 0 0)), (5, .c (.own 1 (List.map (D.int .i64) l))), (6, .d (.int .i64 i))], [(0, [.own 1 (List.map (D.int .i64) []), .own 3 (List.map encCell [])])], 1, [], none⟩)) ?_
  rintro p_jlex_numbers_l0' ih ⟨s, l, i⟩ res h
  refine lg rfl ?_
  refine awp_block ?_
  refine awp_seq ?_
  refine rn 2 rfl ?_
  obtain ⟨s1, hk, h⟩ := bind_inv h
  refine po (esfrom hk rfl rfl rfl rfl) rfl rfl ?_
  obtain ⟨⟨n, k, ok⟩, hk, h⟩ := bind_inv h
  refine po (ecall (p_jlex_number_ok hk) rfl rfl rfl rfl rfl rfl rfl rfl rfl) rfl rfl ?_
  refine on 7 rfl ?_
  refine rz ?_
  refine awp_seq ?_
  refine ra rfl ?_
  rcases ite_inv h with ⟨hc, h⟩ | ⟨hc, h⟩
  · refine ct rfl hc ?_
    refine ra rfl ?_
    refine awp_ret ?_
    refine condQ.ret ?_
    refine seqQ.ret ?_
    refine exitQ.ret ?_
    refine loopQ.ret ?_
    refine exitQ.ret ?_
    cases h
    exact .err ⟨⟨_, _, _, _, rfl, rfl, rfl, rfl, rfl⟩⟩
  · refine cf rfl hc ?_
    refine awp_skip ?_
    refine cn rfl ?_
    refine seqQ.normal ?_
    refine awp_seq ?_
    refine rn 3 rfl ?_
    obtain ⟨l1, hk, h⟩ := bind_inv h
    refine po (eappv hk rfl rfl rfl rfl rfl rfl rfl rfl rfl rfl rfl rfl rfl ) rfl rfl ?_
    refine on 5 rfl ?_
    refine rz ?_
    refine ra rfl ?_
    refine awp_seq ?_
    obtain ⟨j1, hs, h⟩ := bind_inv h
    refine awp_nrm (fun (j1 : Int) => (⟨[(0, .d (.str s)), (2, .c (.ptr 0 0)), (5, .c (.own 1 (List.map (D.int .i64) l1))), (6, .d (.int .i64 (w64 (i + k)))), (10, .d (.int .i64 j1))], [(0, [.own 1 (List.map (D.int .i64) []), .own 3 (List.map encCell [])])], 1, [], none⟩ : St)) (y := j1) ?_ ?_
    · replace h := hs
      refine awp_block ?_
      refine awp_loop ?_
      exact awpL_at rfl rfl (p_jlex_numbers_l1_ok i k l1 _ _ h)
    · refine seqQ.normal ?_
      refine awp_seq ?_
      refine awp_seq ?_
      refine rn 4 rfl ?_
      rcases ite_inv h with ⟨hc, h⟩ | ⟨hc, h⟩
      · refine gt rfl rfl rfl rfl hc rfl ?_
        refine on 6 rfl ?_
        refine rz ?_
        refine ct rfl rfl ?_
        refine awp_exit ?_
        refine condQ.exit ?_
        refine seqQ.exit ?_
        refine exitQ.there rfl ?_
        refine loopQ.exit ?_
        refine eh rfl ?_
        cases h
        exact .ok rfl
      · refine gf rfl rfl rfl rfl hc rfl ?_
        refine on 2 rfl ?_
        obtain ⟨s2, hk, h⟩ := bind_inv h
        refine po (esfrom hk rfl rfl rfl rfl) rfl rfl ?_
        obtain ⟨x1, hk, h⟩ := bind_inv h
        refine po (ecall (p_jlex_begins_ok hk) rfl rfl rfl rfl rfl rfl rfl rfl rfl) rfl rfl ?_
        refine on 2 rfl ?_
        refine rz ?_
        rcases ite_inv h with ⟨hc, h⟩ | ⟨hc, h⟩
        · refine ct rfl hc ?_
          refine awp_exit ?_
          refine condQ.exit ?_
          refine seqQ.exit ?_
          refine exitQ.there rfl ?_
          refine loopQ.exit ?_
          refine eh rfl ?_
          cases h
          exact .ok rfl
        · refine cf rfl hc ?_
          refine awp_skip ?_
          refine cn rfl ?_
          refine seqQ.normal ?_
          refine rn 2 rfl ?_
          refine awpO_nil ?_
          refine en rfl ?_
          refine loopQ.normal ?_
          exact awpL_at rfl rfl (ih _ _ h)

theorem p_jlex_numbers_ok {s : Str} {r : Arr × Int × Int} (h : p_jlex_numbers s = some r) : aval X 22 [.d (.str s)] [] (CRes.ret (.tuple [.d (encArr r.1), .d (.int .i64 r.2.1), .d (.int .i64 r.2.2)]) []) := by
  unfold p_jlex_numbers at h
  refine aval_start (tm := [(0, .d (.str s))]) (hp := []) (n := 0) rfl Tryd.func22 rfl rfl rfl rfl rfl rfl ?_
  refine ra (nid' := 1) rfl ?_
  refine awp_scope ?_
  refine ra rfl ?_
  refine ra rfl ?_
  refine awp_seq ?_
  refine awp_label ?_
  refine seqQ.normal ?_
  refine awp_seq ?_
  obtain ⟨res, hs, h⟩ := bind_inv h
  refine awp_sub Tryd.f22 0 (fun (r : Arr × Int × Int) => (CRes.ret (.tuple [.d (encArr r.1), .d (.int .i64 r.2.1), .d (.int .i64 r.2.2)]) [])) (fun ((l2, i1) : (List Int) × Int) => (⟨[(2, .c (.ptr 0 0)), (5, .c (.own 1 (List.map (D.int .i64) l2))), (6, .d (.int .i64 i1))], [(0, [.own 1 (List.map (D.int .i64) []), .own 3 (List.map encCell [])])], 1, [], none⟩ : St)) (res := res) ?_ (fun y hy => ?_) (fun r s' hr he => ?_)
  · replace h := hs
    refine awp_block ?_
    refine awp_loop ?_
    exact awpL_at rfl rfl (p_jlex_numbers_l0_ok _ _ h)
  · subst hy
    obtain ⟨l2, i1⟩ := y
    refine seqQ.normal ?_
    refine awp_seq ?_
    refine awp_seq ?_
    refine rn 1 rfl ?_
    refine po (ellen rfl rfl rfl rfl rfl rfl rfl) rfl rfl ?_
    refine on 1 rfl ?_
    refine rz ?_
    rcases ite_inv h with ⟨hc, h⟩ | ⟨hc, h⟩
    · refine ct rfl hc ?_
      refine awp_seq ?_
      refine rn 1 rfl ?_
      obtain ⟨y, hk, h⟩ := bind_inv h
      refine po (elget (D.int .i64) (fun _ => rfl) hk rfl rfl rfl rfl rfl) rfl rfl ?_
      refine on 1 rfl ?_
      obtain ⟨x2, hk, h⟩ := bind_inv h
      refine po (ecall (p_arr_Atom_ok hk) rfl rfl rfl rfl rfl rfl rfl rfl rfl) rfl rfl ?_
      refine on 4 rfl ?_
      refine rz ?_
      refine awp_ret ?_
      refine condQ.ret ?_
      refine seqQ.ret ?_
      cases h
      exact ⟨⟨_, _, _, _, rfl, rfl, rfl, rfl, rfl⟩⟩
    · refine cf rfl hc ?_
      refine awp_skip ?_
      refine cn rfl ?_
      refine seqQ.normal ?_
      refine awp_seq ?_
      refine rn 1 rfl ?_
      obtain ⟨x3, hk, h⟩ := bind_inv h
      refine po (ecall (p_arr_Nums_ok hk) rfl rfl rfl rfl rfl rfl rfl rfl rfl) rfl rfl ?_
      refine on 4 rfl ?_
      refine rz ?_
      refine awp_ret ?_
      cases h
      exact ⟨⟨_, _, _, _, rfl, rfl, rfl, rfl, rfl⟩⟩
  · subst hr
    refine seqQ.ret ?_
    cases h
    exact he

end Go.AM.Seat

namespace Go.AM.Seat
open Go Go.AM Go.Proofs
set_option maxRecDepth 100000
set_option maxHeartbeats 4000000
set_option linter.unusedVariables false

theorem p_arr_Text_l0_ok : ∀ (a : ((List Int)) × Int × (List Cell)) (res : (List Cell)), p_arr_Text_l0 a = some res → (match a with | (l, x, a1) => awpL X 37 (codeAt [1, 1, 1, 0, 1, 0, 0] (bodyOf Tryd.f37)) (cleanAt (X.H 37 5) 2) (exitQ 0 (X.H 37 1000000) 2 (NrmQ (fun (a11 : (List Cell)) => (⟨[(2, .c (.ptr 0 0)), (3, .c (.ptr 1 0))], [(1, [.own 1 (List.map (D.int .i64) []), .own 3 (List.map encCell a11)]), (0, [.own 1 (List.map (D.int .i64) []), .own 3 (List.map encCell [])])], 2, [], none⟩ : St)) res)) ⟨[(2, .c (.ptr 0 0)), (3, .c (.ptr 1 0)), (14, .d (.list 1 (List.map (D.int .i64) l))), (15, .d (.int .i64 (List.length l : Int))), (16, .d (.int .i64 x))], [(1, [.own 1 (List.map (D.int .i64) []), .own 3 (List.map encCell a1)]), (0, [.own 1 (List.map (D.int .i64) []), .own 3 (List.map encCell [])])], 2, [], none⟩) := by
  refine p_arr_Text_l0.partial_correctness (motive := (fun a res => match a with | (l, x, a1) => awpL X 37 (codeAt [1, 1, 1, 0, 1, 0, 0] (bodyOf Tryd.f37)) (cleanAt (X.H 37 5) 2) (exitQ 0 (X.H 37 1000000) 2 (NrmQ (fun (a11 : (List Cell)) => (⟨[(2, .c (.ptr 0 0)), (3, .c (.ptr 1 0))], [(1, [.own 1 (List.map (D.int .i64) []), .own 3 (List.map encCell a11)]), (0, [.own 1 (List.map (D.int .i64) []), .own 3 (List.map encCell [])])], 2, [], none⟩ : St)) res)) ⟨[(2, .c (.ptr 0 0)), (3, .c (.ptr 1 0)), (14, .d (.list 1 (List.map (D.int .i64) l))), (15, .d (.int .i64 (List.length l : Int))), (16, .d (.int .i64 x))], [(1, [.own 1 (List.map (D.int .i64) []), .own 3 (List.map encCell a1)]), (0, [.own 1 (List.map (D.int .i64) []), .own 3 (List.map encCell [])])], 2, [], none⟩)) ?_
  rintro p_arr_Text_l0' ih ⟨l, x, a1⟩ res h
  refine lg rfl ?_
  refine ra rfl ?_
  refine awp_seq ?_
  rcases ite_inv h with ⟨hc, h⟩ | ⟨hc, h⟩
  · refine ct rfl hc ?_
    refine awp_skip ?_
    refine cn rfl ?_
    refine seqQ.normal ?_
    refine awp_seq ?_
    refine awp_block ?_
    refine awp_seq ?_
    refine rn 0 rfl ?_
    obtain ⟨n, hk, h⟩ := bind_inv h
    refine po (elget (D.int .i64) (fun _ => rfl) hk rfl rfl rfl rfl rfl) rfl rfl ?_
    refine on 2 rfl ?_
    refine rz ?_
    refine rn 5 rfl ?_
    obtain ⟨l1, hk, h⟩ := bind_inv h
    refine po (eappc hk rfl rfl rfl rfl rfl rfl rfl rfl rfl rfl rfl rfl rfl rfl ) rfl rfl ?_
    refine on 2 rfl ?_
    refine awpO_nil ?_
    refine en rfl ?_
    refine seqQ.normal ?_
    refine rn 2 rfl ?_
    refine awpO_nil ?_
    refine loopQ.normal ?_
    exact awpL_at rfl rfl (ih _ _ h)
  · refine cf rfl hc ?_
    refine awp_exit ?_
    refine condQ.exit ?_
    refine seqQ.exit ?_
    refine loopQ.exit ?_
    refine eh rfl ?_
    cases h
    exact .ok rfl

theorem p_arr_Text_l1_ok : ∀ (a : ((List Int)) × Int × (List Cell)) (res : (List Cell)), p_arr_Text_l1 a = some res → (match a with | (l, x1, a12) => awpL X 37 (codeAt [1, 1, 1, 0, 1, 0, 0] (bodyOf Tryd.f37)) (cleanAt (X.H 37 5) 2) (exitQ 0 (X.H 37 1000000) 2 (NrmQ (fun (a13 : (List Cell)) => (⟨[(2, .c (.ptr 0 0)), (3, .c (.ptr 1 0))], [(1, [.d (.list 1 (List.map (D.int .i64) [(List.length l : Int)])), .own 3 (List.map encCell a13)]), (0, [.own 1 (List.map (D.int .i64) []), .own 3 (List.map encCell [])])], 2, [], none⟩ : St)) res)) ⟨[(2, .c (.ptr 0 0)), (3, .c (.ptr 1 0)), (14, .d (.list 1 (List.map (D.int .i64) l))), (15, .d (.int .i64 (List.length l : Int))), (16, .d (.int .i64 x1))], [(1, [.d (.list 1 (List.map (D.int .i64) [(List.length l : Int)])), .own 3 (List.map encCell a12)]), (0, [.own 1 (List.map (D.int .i64) []), .own 3 (List.map encCell [])])], 2, [], none⟩) := by
  refine p_arr_Text_l1.partial_correctness (motive := (fun a res => match a with | (l, x1, a12) => awpL X 37 (codeAt [1, 1, 1, 0, 1, 0, 0] (bodyOf Tryd.f37)) (cleanAt (X.H 37 5) 2) (exitQ 0 (X.H 37 1000000) 2 (NrmQ (fun (a13 : (List Cell)) => (⟨[(2, .c (.ptr 0 0)), (3, .c (.ptr 1 0))], [(1, [.d (.list 1 (List.map (D.int .i64) [(List.length l : Int)])), .own 3 (List.map encCell a13)]), (0, [.own 1 (List.map (D.int .i64) []), .own 3 (List.map encCell [])])], 2, [], none⟩ : St)) res)) ⟨[(2, .c (.ptr 0 0)), (3, .c (.ptr 1 0)), (14, .d (.list 1 (List.map (D.int .i64) l))), (15, .d (.int .i64 (List.length l : Int))), (16, .d (.int .i64 x1))], [(1, [.d (.list 1 (List.map (D.int .i64) [(List.length l : Int)])), .own 3 (List.map encCell a12)]), (0, [.own 1 (List.map (D.int .i64) []), .own 3 (List.map encCell [])])], 2, [], none⟩)) ?_
  rintro p_arr_Text_l1' ih ⟨l, x1, a12⟩ res h
  refine lg rfl ?_
  refine ra rfl ?_
  refine awp_seq ?_
  rcases ite_inv h with ⟨hc, h⟩ | ⟨hc, h⟩
  · refine ct rfl hc ?_
    refine awp_skip ?_
    refine cn rfl ?_
    refine seqQ.normal ?_
    refine awp_seq ?_
    refine awp_block ?_
    refine awp_seq ?_
    refine rn 0 rfl ?_
    obtain ⟨n1, hk, h⟩ := bind_inv h
    refine po (elget (D.int .i64) (fun _ => rfl) hk rfl rfl rfl rfl rfl) rfl rfl ?_
    refine on 2 rfl ?_
    refine rz ?_
    refine rn 5 rfl ?_
    obtain ⟨l2, hk, h⟩ := bind_inv h
    refine po (eappc hk rfl rfl rfl rfl rfl rfl rfl rfl rfl rfl rfl rfl rfl rfl ) rfl rfl ?_
    refine on 2 rfl ?_
    refine awpO_nil ?_
    refine en rfl ?_
    refine seqQ.normal ?_
    refine rn 2 rfl ?_
    refine awpO_nil ?_
    refine loopQ.normal ?_
    exact awpL_at rfl rfl (ih _ _ h)
  · refine cf rfl hc ?_
    refine awp_exit ?_
    refine condQ.exit ?_
    refine seqQ.exit ?_
    refine loopQ.exit ?_
    refine eh rfl ?_
    cases h
    exact .ok rfl

theorem p_arr_Text_ok {l : (List Int)} {r : Arr} (h : p_arr_Text l = some r) : aval X 37 [.d (.list 1 (List.map (D.int .i64) l))] [] (CRes.ret (.d (encArr r)) []) := by
  unfold p_arr_Text at h
  refine aval_start (tm := [(0, .d (.list 1 (List.map (D.int .i64) l)))]) (hp := []) (n := 0) rfl Tryd.func37 rfl rfl rfl rfl rfl rfl ?_
  refine ra (nid' := 1) rfl ?_
  refine awp_seq ?_
  refine rn 1 rfl ?_
  refine po (ellen rfl rfl rfl rfl rfl rfl rfl) rfl rfl ?_
  refine on (nid' := 2) 4 rfl ?_
  refine rz ?_
  refine awp_seq ?_
  refine awp_seq ?_
  refine rn 1 rfl ?_
  refine po (ellen rfl rfl rfl rfl rfl rfl rfl) rfl rfl ?_
  refine on 1 rfl ?_
  refine rz ?_
  rcases ite_inv h with ⟨hc, h⟩ | ⟨hc, h⟩
  · refine ct rfl hc ?_
    refine rn 2 rfl ?_
    refine awpO_nil ?_
    refine cn rfl ?_
    refine seqQ.normal ?_
    refine awp_seq ?_
    refine awp_seq ?_
    refine rn 1 rfl ?_
    refine po (ellen rfl rfl rfl rfl rfl rfl rfl) rfl rfl ?_
    refine on 1 rfl ?_
    refine rz ?_
    obtain ⟨a11, hs, h⟩ := bind_inv h
    refine awp_nrm (fun (a11 : (List Cell)) => (⟨[(2, .c (.ptr 0 0)), (3, .c (.ptr 1 0))], [(1, [.own 1 (List.map (D.int .i64) []), .own 3 (List.map encCell a11)]), (0, [.own 1 (List.map (D.int .i64) []), .own 3 (List.map encCell [])])], 2, [], none⟩ : St)) (y := a11) ?_ ?_
    · replace h := hs
      refine awp_block ?_
      refine awp_loop ?_
      exact awpL_at rfl rfl (p_arr_Text_l0_ok _ _ h)
    · refine seqQ.normal ?_
      refine ra rfl ?_
      refine awp_ret ?_
      cases h
      exact ⟨⟨_, _, _, _, rfl, rfl, rfl, rfl, rfl⟩⟩
  · refine cf rfl hc ?_
    refine awp_skip ?_
    refine cn rfl ?_
    refine seqQ.normal ?_
    refine awp_seq ?_
    refine awp_seq ?_
    refine rn 1 rfl ?_
    refine po (ellen rfl rfl rfl rfl rfl rfl rfl) rfl rfl ?_
    refine on 1 rfl ?_
    refine rz ?_
    obtain ⟨a13, hs, h⟩ := bind_inv h
    refine awp_nrm (fun (a13 : (List Cell)) => (⟨[(2, .c (.ptr 0 0)), (3, .c (.ptr 1 0))], [(1, [.d (.list 1 (List.map (D.int .i64) [(List.length l : Int)])), .own 3 (List.map encCell a13)]), (0, [.own 1 (List.map (D.int .i64) []), .own 3 (List.map encCell [])])], 2, [], none⟩ : St)) (y := a13) ?_ ?_
    · replace h := hs
      refine awp_block ?_
      refine awp_loop ?_
      exact awpL_at rfl rfl (p_arr_Text_l1_ok _ _ h)
    · refine seqQ.normal ?_
      refine ra rfl ?_
      refine awp_ret ?_
      cases h
      exact ⟨⟨_, _, _, _, rfl, rfl, rfl, rfl, rfl⟩⟩

end Go.AM.Seat

namespace Go.AM.Seat
open Go Go.AM Go.Proofs
set_option maxRecDepth 100000
set_option maxHeartbeats 4000000
set_option linter.unusedVariables false

theorem p_jlex_text_l0_ok : ∀ (a : Str × (List Int) × Int) (res : Except (Arr × Int × Fault) (Unit)), p_jlex_text_l0 a = some res → (match a with | (s, l, i) => awpL X 23 (codeAt [1, 1, 0, 1, 0, 0] (bodyOf Tryd.f23)) (cleanAt (X.H 23 3) 2) (exitQ 0 (X.H 23 1000000) 2 (SubQ X Tryd.f23 0 (fun (r : Arr × Int × Fault) => (CRes.ret (.tuple [.d (encArr r.1), .d (.int .i64 r.2.1), .d (encFault r.2.2)]) [])) (fun (_ : Unit) => (⟨[(2, .c (.ptr 0 0)), (4, .c (.ptr 1 0))], [(1, [.d (.int .i64 0), .d (.int .i64 0), .d (.int .i64 0)]), (0, [.own 1 (List.map (D.int .i64) []), .own 3 (List.map encCell [])])], 2, [], none⟩ : St)) res)) ⟨[(0, .d (.str s)), (2, .c (.ptr 0 0)), (4, .c (.ptr 1 0)), (5, .c (.own 1 (List.map (D.int .i64) l))), (6, .d (.int .i64 i))], [(1, [.d (.int .i64 0), .d (.int .i64 0), .d (.int .i64 0)]), (0, [.own 1 (List.map (D.int .i64) []), .own 3 (List.map encCell [])])], 2, [], none⟩) := by
  refine p_jlex_text_l0.partial_correctness (motive := (fun a res => match a with | (s, l, i) => awpL X 23 (codeAt [1, 1, 0, 1, 0, 0] (bodyOf Tryd.f23)) (cleanAt (X.H 23 3) 2) (exitQ 0 (X.H 23 1000000) 2 (SubQ X Tryd.f23 0 (fun (r : Arr × Int × Fault) => (CRes.ret (.tuple [.d (encArr r.1), .d (.int .i64 r.2.1), .d (encFault r.2.2)]) [])) (fun (_ : Unit) => (⟨[(2, .c (.ptr 0 0)), (4, .c (.ptr 1 0))], [(1, [.d (.int .i64 0), .d (.int .i64 0), .d (.int .i64 0)]), (0, [.own 1 (List.map (D.int .i64) []), .own 3 (List.map encCell [])])], 2, [], none⟩ : St)) res)) ⟨[(0, .d (.str s)), (2, .c (.ptr 0 0)), (4, .c (.ptr 1 0)), (5, .c (.own 1 (List.map (D.int .i64) l))), (6, .d (.int .i64 i))], [(1, [.d (.int .i64 0), .d (.int .i64 0), .d (.int .i64 0)]), (0, [.own 1 (List.map (D.int .i64) []), .own 3 (List.map encCell [])])], 2, [], none⟩)) ?_
  rintro p_jlex_text_l0' ih ⟨s, l, i⟩ res h
  refine lg rfl ?_
  refine awp_seq ?_
  refine ra rfl ?_
  rcases ite_inv h with ⟨hc, h⟩ | ⟨hc, h⟩
  · refine ct rfl hc ?_
    refine awp_skip ?_
    refine cn rfl ?_
    refine seqQ.normal ?_
    refine awp_block ?_
    refine awp_seq ?_
    refine rn 2 rfl ?_
    obtain ⟨s1, hk, h⟩ := bind_inv h
    refine po (esfrom hk rfl rfl rfl rfl) rfl rfl ?_
    obtain ⟨b, hk, h⟩ := bind_inv h
    refine po (esbytes hk rfl rfl rfl rfl rfl rfl) rfl rfl ?_
    obtain ⟨⟨n, k⟩, hk, h⟩ := bind_inv h
    refine po (ecall (p_runes_One_ok hk) rfl rfl rfl rfl rfl rfl rfl rfl rfl) rfl rfl ?_
    refine on 5 rfl ?_
    refine rz ?_
    refine awp_seq ?_
    obtain ⟨res, hs, h⟩ := bind_inv h
    refine awp_sub Tryd.f23 0 (fun (r : Arr × Int × Fault) => (CRes.ret (.tuple [.d (encArr r.1), .d (.int .i64 r.2.1), .d (encFault r.2.2)]) [])) (fun (k1 : Int) => (⟨[(0, .d (.str s)), (2, .c (.ptr 0 0)), (4, .c (.ptr 1 0)), (5, .c (.own 1 (List.map (D.int .i64) l))), (6, .d (.int .i64 i)), (7, .d (.int .i64 n)), (8, .d (.int .i64 k1))], [(1, [.d (.int .i64 0), .d (.int .i64 0), .d (.int .i64 0)]), (0, [.own 1 (List.map (D.int .i64) []), .own 3 (List.map encCell [])])], 2, [], none⟩ : St)) (res := res) ?_ (fun y hy => ?_) (fun r s' hr he => ?_)
    · replace h := hs
      refine awp_block ?_
      refine ra rfl ?_
      rcases ite_inv h with ⟨hc, h⟩ | ⟨hc, h⟩
      · refine ct rfl hc ?_
        refine ra rfl ?_
        refine awp_ret ?_
        refine condQ.ret ?_
        refine exitQ.ret ?_
        cases h
        exact .err ⟨⟨_, _, _, _, rfl, rfl, rfl, rfl, rfl⟩⟩
      · refine cf rfl hc ?_
        refine awp_seq ?_
        refine rn 3 rfl ?_
        rcases ite_inv h with ⟨hc, h⟩ | ⟨hc, h⟩
        · refine gt rfl rfl rfl rfl hc rfl ?_
          refine on 3 rfl ?_
          obtain ⟨x, hk, h⟩ := bind_inv h
          refine po (ecall (p_jlex_at_ok hk) rfl rfl rfl rfl rfl rfl rfl rfl rfl) rfl rfl ?_
          refine on 3 rfl ?_
          refine rz ?_
          rcases ite_inv h with ⟨hc, h⟩ | ⟨hc, h⟩
          · refine ct rfl hc ?_
            refine awp_seq ?_
            refine rn 1 rfl ?_
            obtain ⟨x1, hk, h⟩ := bind_inv h
            refine po (ecall (p_arr_Text_ok hk) rfl rfl rfl rfl rfl rfl rfl rfl rfl) rfl rfl ?_
            refine on 6 rfl ?_
            refine rz ?_
            refine awp_ret ?_
            refine condQ.ret ?_
            refine condQ.ret ?_
            refine exitQ.ret ?_
            cases h
            exact .err ⟨⟨_, _, _, _, rfl, rfl, rfl, rfl, rfl⟩⟩
          · refine cf rfl hc ?_
            refine ra rfl ?_
            rcases ite_inv h with ⟨hc, h⟩ | ⟨hc, h⟩
            · refine ct rfl hc ?_
              refine rn 1 rfl ?_
              refine awpO_nil ?_
              refine cn rfl ?_
              refine cn rfl ?_
              refine cn rfl ?_
              refine en rfl ?_
              cases h
              exact .ok rfl
            · refine cf rfl hc ?_
              refine awp_seq ?_
              refine rn 3 rfl ?_
              rcases ite_inv h with ⟨hc, h⟩ | ⟨hc, h⟩
              · refine gt rfl rfl rfl rfl hc rfl ?_
                refine on 4 rfl ?_
                refine rz ?_
                refine ct rfl rfl ?_
                refine ra rfl ?_
                refine awp_ret ?_
                refine condQ.ret ?_
                refine condQ.ret ?_
                refine condQ.ret ?_
                refine condQ.ret ?_
                refine exitQ.ret ?_
                cases h
                exact .err ⟨⟨_, _, _, _, rfl, rfl, rfl, rfl, rfl⟩⟩
              · refine gf rfl rfl rfl rfl hc rfl ?_
                refine on 4 rfl ?_
                refine rz ?_
                rcases ite_inv h with ⟨hc, h⟩ | ⟨hc, h⟩
                · refine ct rfl hc ?_
                  refine ra rfl ?_
                  refine awp_ret ?_
                  refine condQ.ret ?_
                  refine condQ.ret ?_
                  refine condQ.ret ?_
                  refine condQ.ret ?_
                  refine exitQ.ret ?_
                  cases h
                  exact .err ⟨⟨_, _, _, _, rfl, rfl, rfl, rfl, rfl⟩⟩
                · refine cf rfl hc ?_
                  refine awp_skip ?_
                  refine cn rfl ?_
                  refine cn rfl ?_
                  refine cn rfl ?_
                  refine cn rfl ?_
                  refine en rfl ?_
                  cases h
                  exact .ok rfl
        · refine gf rfl rfl rfl rfl hc rfl ?_
          refine on 7 rfl ?_
          refine rz ?_
          refine cf rfl rfl ?_
          refine ra rfl ?_
          rcases ite_inv h with ⟨hc, h⟩ | ⟨hc, h⟩
          · refine ct rfl hc ?_
            refine rn 1 rfl ?_
            refine awpO_nil ?_
            refine cn rfl ?_
            refine cn rfl ?_
            refine cn rfl ?_
            refine en rfl ?_
            cases h
            exact .ok rfl
          · refine cf rfl hc ?_
            refine awp_seq ?_
            refine rn 3 rfl ?_
            rcases ite_inv h with ⟨hc, h⟩ | ⟨hc, h⟩
            · refine gt rfl rfl rfl rfl hc rfl ?_
              refine on 4 rfl ?_
              refine rz ?_
              refine ct rfl rfl ?_
              refine ra rfl ?_
              refine awp_ret ?_
              refine condQ.ret ?_
              refine condQ.ret ?_
              refine condQ.ret ?_
              refine condQ.ret ?_
              refine exitQ.ret ?_
              cases h
              exact .err ⟨⟨_, _, _, _, rfl, rfl, rfl, rfl, rfl⟩⟩
            · refine gf rfl rfl rfl rfl hc rfl ?_
              refine on 4 rfl ?_
              refine rz ?_
              rcases ite_inv h with ⟨hc, h⟩ | ⟨hc, h⟩
              · refine ct rfl hc ?_
                refine ra rfl ?_
                refine awp_ret ?_
                refine condQ.ret ?_
                refine condQ.ret ?_
                refine condQ.ret ?_
                refine condQ.ret ?_
                refine exitQ.ret ?_
                cases h
                exact .err ⟨⟨_, _, _, _, rfl, rfl, rfl, rfl, rfl⟩⟩
              · refine cf rfl hc ?_
                refine awp_skip ?_
                refine cn rfl ?_
                refine cn rfl ?_
                refine cn rfl ?_
                refine cn rfl ?_
                refine en rfl ?_
                cases h
                exact .ok rfl
    · subst hy
      obtain k1 := y
      refine seqQ.normal ?_
      refine rn 3 rfl ?_
      obtain ⟨l1, hk, h⟩ := bind_inv h
      refine po (eappv hk rfl rfl rfl rfl rfl rfl rfl rfl rfl rfl rfl rfl rfl ) rfl rfl ?_
      refine on 5 rfl ?_
      refine awpO_nil ?_
      refine en rfl ?_
      refine loopQ.normal ?_
      exact awpL_at rfl rfl (ih _ _ h)
    · subst hr
      refine seqQ.ret ?_
      refine exitQ.ret ?_
      refine loopQ.ret ?_
      refine exitQ.ret ?_
      cases h
      exact .err he
  · refine cf rfl hc ?_
    refine awp_exit ?_
    refine condQ.exit ?_
    refine seqQ.exit ?_
    refine loopQ.exit ?_
    refine eh rfl ?_
    cases h
    exact .ok rfl

theorem p_jlex_text_ok {s : Str} {r : Arr × Int × Fault} (h : p_jlex_text s = some r) : aval X 23 [.d (.str s)] [] (CRes.ret (.tuple [.d (encArr r.1), .d (.int .i64 r.2.1), .d (encFault r.2.2)]) []) := by
  unfold p_jlex_text at h
  refine aval_start (tm := [(0, .d (.str s))]) (hp := []) (n := 0) rfl Tryd.func23 rfl rfl rfl rfl rfl rfl ?_
  refine ra (nid' := 2) rfl ?_
  refine ra rfl ?_
  refine awp_seq ?_
  refine ra rfl ?_
  obtain ⟨res, hs, h⟩ := bind_inv h
  refine awp_sub Tryd.f23 0 (fun (r : Arr × Int × Fault) => (CRes.ret (.tuple [.d (encArr r.1), .d (.int .i64 r.2.1), .d (encFault r.2.2)]) [])) (fun (_ : Unit) => (⟨[(2, .c (.ptr 0 0)), (4, .c (.ptr 1 0))], [(1, [.d (.int .i64 0), .d (.int .i64 0), .d (.int .i64 0)]), (0, [.own 1 (List.map (D.int .i64) []), .own 3 (List.map encCell [])])], 2, [], none⟩ : St)) (res := res) ?_ (fun y hy => ?_) (fun r s' hr he => ?_)
  · replace h := hs
    refine awp_block ?_
    refine awp_loop ?_
    exact awpL_at rfl rfl (p_jlex_text_l0_ok _ _ h)
  · subst hy
    refine seqQ.normal ?_
    refine ra rfl ?_
    refine awp_ret ?_
    cases h
    exact ⟨⟨_, _, _, _, rfl, rfl, rfl, rfl, rfl⟩⟩
  · subst hr
    refine seqQ.ret ?_
    cases h
    exact he

end Go.AM.Seat

namespace Go.AM.Seat
open Go Go.AM Go.Proofs
set_option maxRecDepth 100000
set_option maxHeartbeats 4000000
set_option linter.unusedVariables false

theorem p_jlex_letter_ok {c : Int} {r : Bool} (h : p_jlex_letter c = some r) : aval X 24 [.d (.int .u8 c)] [] (CRes.ret (.d (.bool r)) []) := by
  unfold p_jlex_letter at h
  refine aval_start (tm := [(0, .d (.int .u8 c))]) (hp := []) (n := 0) rfl Tryd.func24 rfl rfl rfl rfl rfl rfl ?_
  refine ra rfl ?_
  refine awp_seq ?_
  refine rn 3 rfl ?_
  rcases ite_inv h with ⟨hc, h⟩ | ⟨hc, h⟩
  · refine gt rfl rfl rfl rfl hc rfl ?_
    refine on 4 rfl ?_
    refine rz ?_
    refine awp_ret ?_
    cases h
    exact ⟨⟨_, _, _, _, rfl, rfl, rfl, rfl, rfl⟩⟩
  · refine gf rfl rfl rfl rfl hc rfl ?_
    refine on 4 rfl ?_
    refine rz ?_
    refine awp_ret ?_
    cases h
    exact ⟨⟨_, _, _, _, rfl, rfl, rfl, rfl, rfl⟩⟩

end Go.AM.Seat

namespace Go.AM.Seat
open Go Go.AM Go.Proofs
set_option maxRecDepth 100000
set_option maxHeartbeats 4000000
set_option linter.unusedVariables false

theorem p_jlex_name_l0_ok : ∀ (a : Str × Int) (res : Int), p_jlex_name_l0 a = some res → (match a with | (s, k) => awpL X 25 (codeAt [1, 1, 0, 0, 0] (bodyOf Tryd.f25)) (cleanAt (X.H 25 2) 1) (exitQ 0 (X.H 25 1000000) 1 (NrmQ (fun (k1 : Int) => (⟨[(0, .d (.str s)), (2, .c (.ptr 0 0)), (4, .d (.int .i64 k1))], [(0, [.d (.int .i64 0), .d (.str []), .own 1 (List.map (D.int .i64) []), .own 3 (List.map encCell []), .d (.int .i64 0)])], 1, [], none⟩ : St)) res)) ⟨[(0, .d (.str s)), (2, .c (.ptr 0 0)), (4, .d (.int .i64 k))], [(0, [.d (.int .i64 0), .d (.str []), .own 1 (List.map (D.int .i64) []), .own 3 (List.map encCell []), .d (.int .i64 0)])], 1, [], none⟩) := by
  refine p_jlex_name_l0.partial_correctness (motive := (fun a res => match a with | (s, k) => awpL X 25 (codeAt [1, 1, 0, 0, 0] (bodyOf Tryd.f25)) (cleanAt (X.H 25 2) 1) (exitQ 0 (X.H 25 1000000) 1 (NrmQ (fun (k1 : Int) => (⟨[(0, .d (.str s)), (2, .c (.ptr 0 0)), (4, .d (.int .i64 k1))], [(0, [.d (.int .i64 0), .d (.str []), .own 1 (List.map (D.int .i64) []), .own 3 (List.map encCell []), .d (.int .i64 0)])], 1, [], none⟩ : St)) res)) ⟨[(0, .d (.str s)), (2, .c (.ptr 0 0)), (4, .d (.int .i64 k))], [(0, [.d (.int .i64 0), .d (.str []), .own 1 (List.map (D.int .i64) []), .own 3 (List.map encCell []), .d (.int .i64 0)])], 1, [], none⟩)) ?_
  rintro p_jlex_name_l0' ih ⟨s, k⟩ res h
  refine lg rfl ?_
  refine awp_seq ?_
  refine awp_seq ?_
  refine rn 2 rfl ?_
  obtain ⟨x, hk, h⟩ := bind_inv h
  refine po (ecall (p_jlex_at_ok hk) rfl rfl rfl rfl rfl rfl rfl rfl rfl) rfl rfl ?_
  obtain ⟨x1, hk, h⟩ := bind_inv h
  refine po (ecall (p_jlex_letter_ok hk) rfl rfl rfl rfl rfl rfl rfl rfl rfl) rfl rfl ?_
  refine on 1 rfl ?_
  rcases ite_inv h with ⟨hc, h⟩ | ⟨hc, h⟩
  · refine gt rfl rfl rfl rfl hc rfl ?_
    refine on 5 rfl ?_
    refine rz ?_
    refine ct rfl rfl ?_
    refine awp_skip ?_
    refine cn rfl ?_
    refine seqQ.normal ?_
    refine awp_block ?_
    refine rn 3 rfl ?_
    refine awpO_nil ?_
    refine en rfl ?_
    refine loopQ.normal ?_
    exact awpL_at rfl rfl (ih _ _ h)
  · refine gf rfl rfl rfl rfl hc rfl ?_
    refine on 2 rfl ?_
    obtain ⟨x2, hk, h⟩ := bind_inv h
    refine po (ecall (p_jlex_at_ok hk) rfl rfl rfl rfl rfl rfl rfl rfl rfl) rfl rfl ?_
    obtain ⟨x3, hk, h⟩ := bind_inv h
    refine po (ecall (p_jlex_digit_ok hk) rfl rfl rfl rfl rfl rfl rfl rfl rfl) rfl rfl ?_
    refine on 1 rfl ?_
    refine rz ?_
    rcases ite_inv h with ⟨hc, h⟩ | ⟨hc, h⟩
    · refine ct rfl hc ?_
      refine awp_skip ?_
      refine cn rfl ?_
      refine seqQ.normal ?_
      refine awp_block ?_
      refine rn 3 rfl ?_
      refine awpO_nil ?_
      refine en rfl ?_
      refine loopQ.normal ?_
      exact awpL_at rfl rfl (ih _ _ h)
    · refine cf rfl hc ?_
      refine awp_exit ?_
      refine condQ.exit ?_
      refine seqQ.exit ?_
      refine loopQ.exit ?_
      refine eh rfl ?_
      cases h
      exact .ok rfl

theorem p_jlex_name_l1_ok : ∀ (a : Str × Int × Str × Int) (res : Except (Token × Bool) (Unit)), p_jlex_name_l1 a = some res → (match a with | (s, k1, s1, x4) => awpL X 25 (codeAt [1, 1, 1, 1, 1, 1, 0, 1, 0, 0] (bodyOf Tryd.f25)) (cleanAt (X.H 25 12) 2) (exitQ 2 (X.H 25 1000002) 2 (SubQ X Tryd.f25 0 (fun (r : Token × Bool) => (CRes.ret (.tuple [.d (encToken r.1), .d (.bool r.2)]) [])) (fun (_ : Unit) => (⟨[(2, .c (.ptr 0 0)), (4, .d (.int .i64 k1)), (5, .c (.ptr 1 0))], [(1, [.d (.int .i64 3), .d (.str s1), .own 1 (List.map (D.int .i64) []), .own 3 (List.map encCell []), .d (.int .i64 0)]), (0, [.d (.int .i64 0), .d (.str []), .own 1 (List.map (D.int .i64) []), .own 3 (List.map encCell []), .d (.int .i64 0)])], 2, [], none⟩ : St)) res)) ⟨[(0, .d (.str s)), (2, .c (.ptr 0 0)), (4, .d (.int .i64 k1)), (5, .c (.ptr 1 0)), (56, .d (.int .i64 k1)), (57, .d (.int .i64 x4))], [(1, [.d (.int .i64 3), .d (.str s1), .own 1 (List.map (D.int .i64) []), .own 3 (List.map encCell []), .d (.int .i64 0)]), (0, [.d (.int .i64 0), .d (.str []), .own 1 (List.map (D.int .i64) []), .own 3 (List.map encCell []), .d (.int .i64 0)])], 2, [], none⟩) := by
  refine p_jlex_name_l1.partial_correctness (motive := (fun a res => match a with | (s, k1, s1, x4) => awpL X 25 (codeAt [1, 1, 1, 1, 1, 1, 0, 1, 0, 0] (bodyOf Tryd.f25)) (cleanAt (X.H 25 12) 2) (exitQ 2 (X.H 25 1000002) 2 (SubQ X Tryd.f25 0 (fun (r : Token × Bool) => (CRes.ret (.tuple [.d (encToken r.1), .d (.bool r.2)]) [])) (fun (_ : Unit) => (⟨[(2, .c (.ptr 0 0)), (4, .d (.int .i64 k1)), (5, .c (.ptr 1 0))], [(1, [.d (.int .i64 3), .d (.str s1), .own 1 (List.map (D.int .i64) []), .own 3 (List.map encCell []), .d (.int .i64 0)]), (0, [.d (.int .i64 0), .d (.str []), .own 1 (List.map (D.int .i64) []), .own 3 (List.map encCell []), .d (.int .i64 0)])], 2, [], none⟩ : St)) res)) ⟨[(0, .d (.str s)), (2, .c (.ptr 0 0)), (4, .d (.int .i64 k1)), (5, .c (.ptr 1 0)), (56, .d (.int .i64 k1)), (57, .d (.int .i64 x4))], [(1, [.d (.int .i64 3), .d (.str s1), .own 1 (List.map (D.int .i64) []), .own 3 (List.map encCell []), .d (.int .i64 0)]), (0, [.d (.int .i64 0), .d (.str []), .own 1 (List.map (D.int .i64) []), .own 3 (List.map encCell []), .d (.int .i64 0)])], 2, [], none⟩)) ?_
  rintro p_jlex_name_l1' ih ⟨s, k1, s1, x4⟩ res h
  refine lg rfl ?_
  refine ra rfl ?_
  refine awp_seq ?_
  rcases ite_inv h with ⟨hc, h⟩ | ⟨hc, h⟩
  · refine ct rfl hc ?_
    refine awp_skip ?_
    refine cn rfl ?_
    refine seqQ.normal ?_
    refine awp_seq ?_
    refine awp_block ?_
    refine ra rfl ?_
    refine awp_seq ?_
    refine rn 2 rfl ?_
    obtain ⟨c1, hk, h⟩ := bind_inv h
    refine po (esget hk rfl rfl rfl rfl) rfl rfl ?_
    refine on 1 rfl ?_
    refine rz ?_
    rcases ite_inv h with ⟨hc, h⟩ | ⟨hc, h⟩
    · refine ct rfl hc ?_
      refine ra rfl ?_
      refine awp_ret ?_
      refine condQ.ret ?_
      refine exitQ.ret ?_
      refine seqQ.ret ?_
      refine loopQ.ret ?_
      refine exitQ.ret ?_
      cases h
      exact .err ⟨⟨_, _, _, _, rfl, rfl, rfl, rfl, rfl⟩⟩
    · refine cf rfl hc ?_
      refine awp_skip ?_
      refine cn rfl ?_
      refine en rfl ?_
      refine seqQ.normal ?_
      refine rn 2 rfl ?_
      refine awpO_nil ?_
      refine loopQ.normal ?_
      exact awpL_at rfl rfl (ih _ _ h)
  · refine cf rfl hc ?_
    refine awp_exit ?_
    refine condQ.exit ?_
    refine seqQ.exit ?_
    refine loopQ.exit ?_
    refine eh rfl ?_
    cases h
    exact .ok rfl

theorem p_jlex_name_ok {s : Str} {r : Token × Bool} (h : p_jlex_name s = some r) : aval X 25 [.d (.str s)] [] (CRes.ret (.tuple [.d (encToken r.1), .d (.bool r.2)]) []) := by
  unfold p_jlex_name at h
  refine aval_start (tm := [(0, .d (.str s))]) (hp := []) (n := 0) rfl Tryd.func25 rfl rfl rfl rfl rfl rfl ?_
  refine ra (nid' := 1) rfl ?_
  refine ra rfl ?_
  refine awp_seq ?_
  obtain ⟨k1, hs, h⟩ := bind_inv h
  refine awp_nrm (fun (k1 : Int) => (⟨[(0, .d (.str s)), (2, .c (.ptr 0 0)), (4, .d (.int .i64 k1))], [(0, [.d (.int .i64 0), .d (.str []), .own 1 (List.map (D.int .i64) []), .own 3 (List.map encCell []), .d (.int .i64 0)])], 1, [], none⟩ : St)) (y := k1) ?_ ?_
  · replace h := hs
    refine awp_block ?_
    refine awp_loop ?_
    exact awpL_at rfl rfl (p_jlex_name_l0_ok _ _ h)
  · refine seqQ.normal ?_
    refine awp_seq ?_
    refine rn 2 rfl ?_
    obtain ⟨s1, hk, h⟩ := bind_inv h
    refine po (esto hk rfl rfl rfl rfl) rfl rfl ?_
    refine on (nid' := 2) 3 rfl ?_
    refine rz ?_
    refine awp_seq ?_
    refine awp_seq ?_
    refine rn 2 rfl ?_
    obtain ⟨c, hk, h⟩ := bind_inv h
    refine po (ecall (p_jlex_at_ok hk) rfl rfl rfl rfl rfl rfl rfl rfl rfl) rfl rfl ?_
    refine on 1 rfl ?_
    refine rz ?_
    refine awp_seq ?_
    refine rn 3 rfl ?_
    rcases ite_inv h with ⟨hc, h⟩ | ⟨hc, h⟩
    · refine gt rfl rfl rfl rfl hc rfl ?_
      refine on 3 rfl ?_
      refine rz ?_
      refine ct rfl rfl ?_
      refine awp_seq ?_
      refine rn 3 rfl ?_
      obtain ⟨s2, hk, h⟩ := bind_inv h
      refine po (esto hk rfl rfl rfl rfl) rfl rfl ?_
      refine on 2 rfl ?_
      refine rz ?_
      refine awp_seq ?_
      refine drn (m := 13) 5 rfl rfl ?_
      rcases ite_inv h with ⟨hc, h⟩ | ⟨hc, h⟩
      · refine dgt rfl rfl rfl rfl hc rfl ?_
        refine don 6 rfl ?_
        refine dz (by kernel_rfl) ?_
        refine awp_ret ?_
        refine condQ.ret ?_
        refine seqQ.ret ?_
        cases h
        exact ⟨⟨_, _, _, _, rfl, rfl, rfl, rfl, rfl⟩⟩
      · refine dgf rfl rfl rfl rfl hc rfl ?_
        refine don 6 rfl ?_
        refine dz (by kernel_rfl) ?_
        refine awp_ret ?_
        refine condQ.ret ?_
        refine seqQ.ret ?_
        cases h
        exact ⟨⟨_, _, _, _, rfl, rfl, rfl, rfl, rfl⟩⟩
    · refine gf rfl rfl rfl rfl hc rfl ?_
      refine on 3 rfl ?_
      refine rz ?_
      rcases ite_inv h with ⟨hc, h⟩ | ⟨hc, h⟩
      · refine ct rfl hc ?_
        refine awp_seq ?_
        refine rn 3 rfl ?_
        obtain ⟨s3, hk, h⟩ := bind_inv h
        refine po (esto hk rfl rfl rfl rfl) rfl rfl ?_
        refine on 2 rfl ?_
        refine rz ?_
        refine awp_seq ?_
        refine drn (m := 13) 5 rfl rfl ?_
        rcases ite_inv h with ⟨hc, h⟩ | ⟨hc, h⟩
        · refine dgt rfl rfl rfl rfl hc rfl ?_
          refine don 6 rfl ?_
          refine dz (by kernel_rfl) ?_
          refine awp_ret ?_
          refine condQ.ret ?_
          refine seqQ.ret ?_
          cases h
          exact ⟨⟨_, _, _, _, rfl, rfl, rfl, rfl, rfl⟩⟩
        · refine dgf rfl rfl rfl rfl hc rfl ?_
          refine don 6 rfl ?_
          refine dz (by kernel_rfl) ?_
          refine awp_ret ?_
          refine condQ.ret ?_
          refine seqQ.ret ?_
          cases h
          exact ⟨⟨_, _, _, _, rfl, rfl, rfl, rfl, rfl⟩⟩
      · refine cf rfl hc ?_
        refine awp_skip ?_
        refine cn rfl ?_
        refine seqQ.normal ?_
        refine awp_seq ?_
        refine awp_seq ?_
        refine rn 4 rfl ?_
        rcases ite_inv h with ⟨hc, h⟩ | ⟨hc, h⟩
        · refine gt rfl rfl rfl rfl hc rfl ?_
          refine on 4 rfl ?_
          refine rz ?_
          refine ct rfl rfl ?_
          refine ra rfl ?_
          refine awp_ret ?_
          refine condQ.ret ?_
          refine seqQ.ret ?_
          cases h
          exact ⟨⟨_, _, _, _, rfl, rfl, rfl, rfl, rfl⟩⟩
        · refine gf rfl rfl rfl rfl hc rfl ?_
          refine on 4 rfl ?_
          refine rz ?_
          rcases ite_inv h with ⟨hc, h⟩ | ⟨hc, h⟩
          · refine ct rfl hc ?_
            refine ra rfl ?_
            refine awp_ret ?_
            refine condQ.ret ?_
            refine seqQ.ret ?_
            cases h
            exact ⟨⟨_, _, _, _, rfl, rfl, rfl, rfl, rfl⟩⟩
          · refine cf rfl hc ?_
            refine awp_skip ?_
            refine cn rfl ?_
            refine seqQ.normal ?_
            refine awp_seq ?_
            refine ra rfl ?_
            obtain ⟨res, hs, h⟩ := bind_inv h
            refine awp_sub Tryd.f25 0 (fun (r : Token × Bool) => (CRes.ret (.tuple [.d (encToken r.1), .d (.bool r.2)]) [])) (fun (_ : Unit) => (⟨[(2, .c (.ptr 0 0)), (4, .d (.int .i64 k1)), (5, .c (.ptr 1 0))], [(1, [.d (.int .i64 3), .d (.str s1), .own 1 (List.map (D.int .i64) []), .own 3 (List.map encCell []), .d (.int .i64 0)]), (0, [.d (.int .i64 0), .d (.str []), .own 1 (List.map (D.int .i64) []), .own 3 (List.map encCell []), .d (.int .i64 0)])], 2, [], none⟩ : St)) (res := res) ?_ (fun y hy => ?_) (fun r s' hr he => ?_)
            · replace h := hs
              refine awp_block ?_
              refine awp_loop ?_
              exact awpL_at rfl rfl (p_jlex_name_l1_ok _ _ h)
            · subst hy
              refine seqQ.normal ?_
              refine ra rfl ?_
              refine awp_ret ?_
              cases h
              exact ⟨⟨_, _, _, _, rfl, rfl, rfl, rfl, rfl⟩⟩
            · subst hr
              refine seqQ.ret ?_
              cases h
              exact he

end Go.AM.Seat

namespace Go.AM.Seat
open Go Go.AM Go.Proofs
set_option maxRecDepth 100000
set_option maxHeartbeats 4000000
set_option linter.unusedVariables false

theorem p_jlex_words_l0_ok : ∀ (a : ((List Str)) × (List Token) × Int) (res : (List Token)), p_jlex_words_l0 a = some res → (match a with | (x, l, x1) => awpL X 26 (codeAt [1, 1, 0, 1, 0, 0] (bodyOf Tryd.f26)) (cleanAt (X.H 26 3) 0) (exitQ 0 (X.H 26 1000000) 0 (NrmQ (fun (l2 : (List Token)) => (⟨[(1, .c (.own 5 (List.map encToken l2)))], [], 0, [], none⟩ : St)) res)) ⟨[(1, .c (.own 5 (List.map encToken l))), (5, .d (.list 1 (List.map D.str x))), (6, .d (.int .i64 (List.length x : Int))), (7, .d (.int .i64 x1))], [], 0, [], none⟩) := by
  refine p_jlex_words_l0.partial_correctness (motive := (fun a res => match a with | (x, l, x1) => awpL X 26 (codeAt [1, 1, 0, 1, 0, 0] (bodyOf Tryd.f26)) (cleanAt (X.H 26 3) 0) (exitQ 0 (X.H 26 1000000) 0 (NrmQ (fun (l2 : (List Token)) => (⟨[(1, .c (.own 5 (List.map encToken l2)))], [], 0, [], none⟩ : St)) res)) ⟨[(1, .c (.own 5 (List.map encToken l))), (5, .d (.list 1 (List.map D.str x))), (6, .d (.int .i64 (List.length x : Int))), (7, .d (.int .i64 x1))], [], 0, [], none⟩)) ?_
  rintro p_jlex_words_l0' ih ⟨x, l, x1⟩ res h
  refine lg rfl ?_
  refine ra rfl ?_
  refine awp_seq ?_
  rcases ite_inv h with ⟨hc, h⟩ | ⟨hc, h⟩
  · refine ct rfl hc ?_
    refine awp_skip ?_
    refine cn rfl ?_
    refine seqQ.normal ?_
    refine awp_seq ?_
    refine awp_block ?_
    refine awp_seq ?_
    refine rn 0 rfl ?_
    obtain ⟨s, hk, h⟩ := bind_inv h
    refine po (elget D.str (fun _ => rfl) hk rfl rfl rfl rfl rfl) rfl rfl ?_
    refine on 2 rfl ?_
    refine rz ?_
    refine ra rfl ?_
    refine awp_seq ?_
    refine ra rfl ?_
    obtain ⟨kind, hs, h⟩ := bind_inv h
    refine awp_nrm (fun (kind : Int) => (⟨[(1, .c (.own 5 (List.map encToken l))), (3, .d (.str s)), (4, .d (.int .i64 kind)), (5, .d (.list 1 (List.map D.str x))), (6, .d (.int .i64 (List.length x : Int))), (7, .d (.int .i64 x1))], [], 0, [], none⟩ : St)) (y := kind) ?_ ?_
    · replace h := hs
      refine awp_block ?_
      refine ra rfl ?_
      rcases ite_inv h with ⟨hc, h⟩ | ⟨hc, h⟩
      · refine ct rfl hc ?_
        refine rn 1 rfl ?_
        refine awpO_nil ?_
        refine cn rfl ?_
        refine en rfl ?_
        cases h
        exact .ok rfl
      · refine cf rfl hc ?_
        refine awp_seq ?_
        refine ra rfl ?_
        obtain ⟨x2, hs, h⟩ := bind_inv h
        refine awp_nrm (fun (x2 : Bool) => (⟨[(1, .c (.own 5 (List.map encToken l))), (3, .d (.str s)), (4, .d (.int .i64 4)), (5, .d (.list 1 (List.map D.str x))), (6, .d (.int .i64 (List.length x : Int))), (7, .d (.int .i64 x1)), (11, .d (.str s)), (14, .d (.bool x2))], [], 0, [], none⟩ : St)) (y := x2) ?_ ?_
        · replace h := hs
          rcases ite_inv h with ⟨hc, h⟩ | ⟨hc, h⟩
          · refine ct rfl hc ?_
            refine awp_skip ?_
            refine cn rfl ?_
            cases h
            exact .ok rfl
          · refine cf rfl hc ?_
            refine rn 2 rfl ?_
            refine awpO_nil ?_
            refine cn rfl ?_
            cases h
            exact .ok rfl
        · refine seqQ.normal ?_
          rcases ite_inv h with ⟨hc, h⟩ | ⟨hc, h⟩
          · refine ct rfl hc ?_
            refine rn 1 rfl ?_
            refine awpO_nil ?_
            refine cn rfl ?_
            refine cn rfl ?_
            refine en rfl ?_
            cases h
            exact .ok rfl
          · refine cf rfl hc ?_
            refine awp_seq ?_
            refine ra rfl ?_
            obtain ⟨x3, hs, h⟩ := bind_inv h
            refine awp_nrm (fun (x3 : Bool) => (⟨[(1, .c (.own 5 (List.map encToken l))), (3, .d (.str s)), (4, .d (.int .i64 4)), (5, .d (.list 1 (List.map D.str x))), (6, .d (.int .i64 (List.length x : Int))), (7, .d (.int .i64 x1)), (17, .d (.bool x3))], [], 0, [], none⟩ : St)) (y := x3) ?_ ?_
            · replace h := hs
              rcases ite_inv h with ⟨hc, h⟩ | ⟨hc, h⟩
              · refine ct rfl hc ?_
                refine awp_skip ?_
                refine cn rfl ?_
                cases h
                exact .ok rfl
              · refine cf rfl hc ?_
                refine rn 2 rfl ?_
                refine awpO_nil ?_
                refine cn rfl ?_
                cases h
                exact .ok rfl
            · refine seqQ.normal ?_
              rcases ite_inv h with ⟨hc, h⟩ | ⟨hc, h⟩
              · refine ct rfl hc ?_
                refine rn 1 rfl ?_
                refine awpO_nil ?_
                refine cn rfl ?_
                refine cn rfl ?_
                refine cn rfl ?_
                refine en rfl ?_
                cases h
                exact .ok rfl
              · refine cf rfl hc ?_
                refine awp_skip ?_
                refine cn rfl ?_
                refine cn rfl ?_
                refine cn rfl ?_
                refine en rfl ?_
                cases h
                exact .ok rfl
    · refine seqQ.normal ?_
      refine rn 5 rfl ?_
      obtain ⟨l1, hk, h⟩ := bind_inv h
      refine po (eappv hk rfl rfl rfl rfl rfl rfl rfl rfl rfl rfl rfl rfl rfl ) rfl rfl ?_
      refine on 1 rfl ?_
      refine awpO_nil ?_
      refine en rfl ?_
      refine seqQ.normal ?_
      refine rn 2 rfl ?_
      refine awpO_nil ?_
      refine loopQ.normal ?_
      exact awpL_at rfl rfl (ih _ _ h)
  · refine cf rfl hc ?_
    refine awp_exit ?_
    refine condQ.exit ?_
    refine seqQ.exit ?_
    refine loopQ.exit ?_
    refine eh rfl ?_
    cases h
    exact .ok rfl

theorem p_jlex_words_ok  {r : (List Token)} (h : p_jlex_words = some r) : aval X 26 [] [] (CRes.ret (.d (.list 5 (List.map encToken r))) []) := by
  unfold p_jlex_words at h
  refine aval_start (tm := []) (hp := []) (n := 0) rfl Tryd.func26 rfl rfl rfl rfl rfl rfl ?_
  refine ra rfl ?_
  refine ra rfl ?_
  refine awp_seq ?_
  refine awp_seq ?_
  refine rn 0 rfl ?_
  obtain ⟨x, hk, h⟩ := bind_inv h
  refine po (ecall (goFields_ok hk) rfl rfl rfl rfl rfl rfl rfl rfl rfl) rfl rfl ?_
  refine po (ellen rfl rfl rfl rfl rfl rfl rfl) rfl rfl ?_
  refine on 1 rfl ?_
  refine rz ?_
  obtain ⟨l2, hs, h⟩ := bind_inv h
  refine awp_nrm (fun (l2 : (List Token)) => (⟨[(1, .c (.own 5 (List.map encToken l2)))], [], 0, [], none⟩ : St)) (y := l2) ?_ ?_
  · replace h := hs
    refine awp_block ?_
    refine awp_loop ?_
    exact awpL_at rfl rfl (p_jlex_words_l0_ok _ _ h)
  · refine seqQ.normal ?_
    refine ra rfl ?_
    refine awp_ret ?_
    cases h
    exact ⟨⟨_, _, _, _, rfl, rfl, rfl, rfl, rfl⟩⟩

end Go.AM.Seat

namespace Go.AM.Seat
open Go Go.AM Go.Proofs
set_option maxRecDepth 100000
set_option maxHeartbeats 4000000
set_option linter.unusedVariables false

theorem p_jlex_word_l0_ok : ∀ (a : Str × ((List Token)) × Int) (res : Except (Token × Int × Fault) (Unit)), p_jlex_word_l0 a = some res → (match a with | (s, x7, x8) => awpL X 16 (codeAt [1, 1, 1, 1, 0, 1, 0, 0] (bodyOf Tryd.f16)) (cleanAt (X.H 16 19) 3) (exitQ 1 (X.H 16 1000001) 3 (SubQ X Tryd.f16 0 (fun (r : Token × Int × Fault) => (CRes.ret (.tuple [.d (encToken r.1), .d (.int .i64 r.2.1), .d (encFault r.2.2)]) [])) (fun (_ : Unit) => (⟨[(2, .c (.ptr 0 0)), (4, .c (.ptr 1 0)), (5, .c (.ptr 2 0))], [(2, [.d (.int .i64 (Fault.mk 2 0 0).err), .d (.int .i64 (Fault.mk 2 0 0).at_), .d (.int .i64 (Fault.mk 2 0 0).why)]), (1, [.d (.int .i64 0), .d (.int .i64 0), .d (.int .i64 0)]), (0, [.d (.int .i64 0), .d (.str []), .own 1 (List.map (D.int .i64) []), .own 3 (List.map encCell []), .d (.int .i64 0)])], 3, [], none⟩ : St)) res)) ⟨[(0, .d (.str s)), (2, .c (.ptr 0 0)), (4, .c (.ptr 1 0)), (5, .c (.ptr 2 0)), (79, .d (.list 5 (List.map encToken x7))), (80, .d (.int .i64 (List.length x7 : Int))), (81, .d (.int .i64 x8))], [(2, [.d (.int .i64 (Fault.mk 2 0 0).err), .d (.int .i64 (Fault.mk 2 0 0).at_), .d (.int .i64 (Fault.mk 2 0 0).why)]), (1, [.d (.int .i64 0), .d (.int .i64 0), .d (.int .i64 0)]), (0, [.d (.int .i64 0), .d (.str []), .own 1 (List.map (D.int .i64) []), .own 3 (List.map encCell []), .d (.int .i64 0)])], 3, [], none⟩) := by
  refine p_jlex_word_l0.partial_correctness (motive := (fun a res => match a with | (s, x7, x8) => awpL X 16 (codeAt [1, 1, 1, 1, 0, 1, 0, 0] (bodyOf Tryd.f16)) (cleanAt (X.H 16 19) 3) (exitQ 1 (X.H 16 1000001) 3 (SubQ X Tryd.f16 0 (fun (r : Token × Int × Fault) => (CRes.ret (.tuple [.d (encToken r.1), .d (.int .i64 r.2.1), .d (encFault r.2.2)]) [])) (fun (_ : Unit) => (⟨[(2, .c (.ptr 0 0)), (4, .c (.ptr 1 0)), (5, .c (.ptr 2 0))], [(2, [.d (.int .i64 (Fault.mk 2 0 0).err), .d (.int .i64 (Fault.mk 2 0 0).at_), .d (.int .i64 (Fault.mk 2 0 0).why)]), (1, [.d (.int .i64 0), .d (.int .i64 0), .d (.int .i64 0)]), (0, [.d (.int .i64 0), .d (.str []), .own 1 (List.map (D.int .i64) []), .own 3 (List.map encCell []), .d (.int .i64 0)])], 3, [], none⟩ : St)) res)) ⟨[(0, .d (.str s)), (2, .c (.ptr 0 0)), (4, .c (.ptr 1 0)), (5, .c (.ptr 2 0)), (79, .d (.list 5 (List.map encToken x7))), (80, .d (.int .i64 (List.length x7 : Int))), (81, .d (.int .i64 x8))], [(2, [.d (.int .i64 (Fault.mk 2 0 0).err), .d (.int .i64 (Fault.mk 2 0 0).at_), .d (.int .i64 (Fault.mk 2 0 0).why)]), (1, [.d (.int .i64 0), .d (.int .i64 0), .d (.int .i64 0)]), (0, [.d (.int .i64 0), .d (.str []), .own 1 (List.map (D.int .i64) []), .own 3 (List.map encCell []), .d (.int .i64 0)])], 3, [], none⟩)) ?_
  rintro p_jlex_word_l0' ih ⟨s, x7, x8⟩ res h
  refine lg rfl ?_
  refine ra rfl ?_
  refine awp_seq ?_
  rcases ite_inv h with ⟨hc, h⟩ | ⟨hc, h⟩
  · refine ct rfl hc ?_
    refine awp_skip ?_
    refine cn rfl ?_
    refine seqQ.normal ?_
    refine awp_seq ?_
    refine awp_block ?_
    refine awp_seq ?_
    refine rn 0 rfl ?_
    obtain ⟨y, hk, h⟩ := bind_inv h
    refine po (elget encToken (fun _ => rfl) hk rfl rfl rfl rfl rfl) rfl rfl ?_
    refine on (nid' := 4) 3 rfl ?_
    refine rz ?_
    refine awp_seq ?_
    refine rn 3 rfl ?_
    obtain ⟨x9, hk, h⟩ := bind_inv h
    refine po (ecall (p_strings_HasPrefix_ok hk) rfl rfl rfl rfl rfl rfl rfl rfl rfl) rfl rfl ?_
    refine rz ?_
    rcases ite_inv h with ⟨hc, h⟩ | ⟨hc, h⟩
    · refine ct rfl hc ?_
      refine awp_seq ?_
      refine awp_seq ?_
      refine rn 4 rfl ?_
      rcases ite_inv h with ⟨hc, h⟩ | ⟨hc, h⟩
      · refine gt rfl rfl rfl rfl hc rfl ?_
        refine on 1 rfl ?_
        obtain ⟨x10, hk, h⟩ := bind_inv h
        refine po (ecall (p_jlex_at_ok hk) rfl rfl rfl rfl rfl rfl rfl rfl rfl) rfl rfl ?_
        obtain ⟨x11, hk, h⟩ := bind_inv h
        refine po (ecall (p_jlex_digit_ok hk) rfl rfl rfl rfl rfl rfl rfl rfl rfl) rfl rfl ?_
        refine on 1 rfl ?_
        refine rz ?_
        rcases ite_inv h with ⟨hc, h⟩ | ⟨hc, h⟩
        · refine ct rfl hc ?_
          refine awp_seq ?_
          refine drn (m := 9) 5 rfl rfl ?_
          refine dz (by kernel_rfl) ?_
          refine awp_ret ?_
          refine condQ.ret ?_
          refine seqQ.ret ?_
          refine condQ.ret ?_
          refine exitQ.ret ?_
          refine seqQ.ret ?_
          refine loopQ.ret ?_
          refine exitQ.ret ?_
          cases h
          exact .err ⟨⟨_, _, _, _, rfl, rfl, rfl, rfl, rfl⟩⟩
        · refine cf rfl hc ?_
          refine awp_skip ?_
          refine cn rfl ?_
          refine seqQ.normal ?_
          refine awp_seq ?_
          refine drn (m := 12) 8 rfl rfl ?_
          refine dz (by kernel_rfl) ?_
          refine awp_ret ?_
          refine condQ.ret ?_
          refine exitQ.ret ?_
          refine seqQ.ret ?_
          refine loopQ.ret ?_
          refine exitQ.ret ?_
          cases h
          exact .err ⟨⟨_, _, _, _, rfl, rfl, rfl, rfl, rfl⟩⟩
      · refine gf rfl rfl rfl rfl hc rfl ?_
        refine on 4 rfl ?_
        refine rz ?_
        refine cf rfl rfl ?_
        refine awp_skip ?_
        refine cn rfl ?_
        refine seqQ.normal ?_
        refine awp_seq ?_
        refine drn (m := 12) 8 rfl rfl ?_
        refine dz (by kernel_rfl) ?_
        refine awp_ret ?_
        refine condQ.ret ?_
        refine exitQ.ret ?_
        refine seqQ.ret ?_
        refine loopQ.ret ?_
        refine exitQ.ret ?_
        cases h
        exact .err ⟨⟨_, _, _, _, rfl, rfl, rfl, rfl, rfl⟩⟩
    · refine cf rfl hc ?_
      refine awp_skip ?_
      refine cn rfl ?_
      refine en rfl ?_
      refine seqQ.normal ?_
      refine rn 2 rfl ?_
      refine awpO_nil ?_
      refine loopQ.normal ?_
      exact awpL_at rfl rfl (ih _ _ h)
  · refine cf rfl hc ?_
    refine awp_exit ?_
    refine condQ.exit ?_
    refine seqQ.exit ?_
    refine loopQ.exit ?_
    refine eh rfl ?_
    cases h
    exact .ok rfl

theorem p_jlex_word_ok {s : Str} {r : Token × Int × Fault} (h : p_jlex_word s = some r) : aval X 16 [.d (.str s)] [] (CRes.ret (.tuple [.d (encToken r.1), .d (.int .i64 r.2.1), .d (encFault r.2.2)]) []) := by
  unfold p_jlex_word at h
  refine aval_start (tm := [(0, .d (.str s))]) (hp := []) (n := 0) rfl Tryd.func16 rfl rfl rfl rfl rfl rfl ?_
  refine ra (nid' := 2) rfl ?_
  refine ra (nid' := 3) rfl ?_
  refine awp_seq ?_
  refine awp_seq ?_
  refine rn 1 rfl ?_
  obtain ⟨b, hk, h⟩ := bind_inv h
  refine po (esbytes hk rfl rfl rfl rfl rfl rfl) rfl rfl ?_
  obtain ⟨⟨x, k⟩, hk, h⟩ := bind_inv h
  refine po (ecall (p_runes_One_ok hk) rfl rfl rfl rfl rfl rfl rfl rfl rfl) rfl rfl ?_
  refine on 5 rfl ?_
  refine rz ?_
  refine ra rfl ?_
  rcases ite_inv h with ⟨hc, h⟩ | ⟨hc, h⟩
  · refine ct rfl hc ?_
    refine ra rfl ?_
    refine awp_ret ?_
    refine condQ.ret ?_
    refine seqQ.ret ?_
    cases h
    exact ⟨⟨_, _, _, _, rfl, rfl, rfl, rfl, rfl⟩⟩
  · refine cf rfl hc ?_
    refine awp_skip ?_
    refine cn rfl ?_
    refine seqQ.normal ?_
    refine awp_seq ?_
    refine awp_block ?_
    refine awp_seq ?_
    refine rn 1 rfl ?_
    obtain ⟨x1, hk, h⟩ := bind_inv h
    refine po (ecall (p_jlex_begins_ok hk) rfl rfl rfl rfl rfl rfl rfl rfl rfl) rfl rfl ?_
    refine on 1 rfl ?_
    refine rz ?_
    rcases ite_inv h with ⟨hc, h⟩ | ⟨hc, h⟩
    · refine ct rfl hc ?_
      refine awp_seq ?_
      refine rn 1 rfl ?_
      obtain ⟨⟨x2, k1, where_⟩, hk, h⟩ := bind_inv h
      refine po (ecall (p_jlex_numbers_ok hk) rfl rfl rfl rfl rfl rfl rfl rfl rfl) rfl rfl ?_
      refine on (nid' := 4) 8 rfl ?_
      refine rz ?_
      refine awp_seq ?_
      refine ra rfl ?_
      rcases ite_inv h with ⟨hc, h⟩ | ⟨hc, h⟩
      · refine ct rfl hc ?_
        refine ra rfl ?_
        refine awp_ret ?_
        refine condQ.ret ?_
        refine seqQ.ret ?_
        refine condQ.ret ?_
        refine exitQ.ret ?_
        refine seqQ.ret ?_
        cases h
        exact ⟨⟨_, _, _, _, rfl, rfl, rfl, rfl, rfl⟩⟩
      · refine cf rfl hc ?_
        refine awp_skip ?_
        refine cn rfl ?_
        refine seqQ.normal ?_
        refine ra rfl ?_
        refine awp_ret ?_
        refine condQ.ret ?_
        refine exitQ.ret ?_
        refine seqQ.ret ?_
        cases h
        exact ⟨⟨_, _, _, _, rfl, rfl, rfl, rfl, rfl⟩⟩
    · refine cf rfl hc ?_
      refine awp_seq ?_
      refine rn 1 rfl ?_
      obtain ⟨c, hk, h⟩ := bind_inv h
      refine po (esget hk rfl rfl rfl rfl) rfl rfl ?_
      refine on 2 rfl ?_
      refine rz ?_
      rcases ite_inv h with ⟨hc, h⟩ | ⟨hc, h⟩
      · refine ct rfl hc ?_
        refine awp_seq ?_
        refine rn 1 rfl ?_
        obtain ⟨⟨x3, k2, x4⟩, hk, h⟩ := bind_inv h
        refine po (ecall (p_jlex_text_ok hk) rfl rfl rfl rfl rfl rfl rfl rfl rfl) rfl rfl ?_
        refine on (nid' := 5) 9 rfl ?_
        refine rz ?_
        refine awp_seq ?_
        refine drn (m := 12) 7 rfl rfl ?_
        refine dz (by kernel_rfl) ?_
        refine awp_ret ?_
        refine condQ.ret ?_
        refine condQ.ret ?_
        refine exitQ.ret ?_
        refine seqQ.ret ?_
        cases h
        exact ⟨⟨_, _, _, _, rfl, rfl, rfl, rfl, rfl⟩⟩
      · refine cf rfl hc ?_
        refine awp_seq ?_
        refine rn 1 rfl ?_
        obtain ⟨c1, hk, h⟩ := bind_inv h
        refine po (esget hk rfl rfl rfl rfl) rfl rfl ?_
        obtain ⟨x5, hk, h⟩ := bind_inv h
        refine po (ecall (p_jlex_letter_ok hk) rfl rfl rfl rfl rfl rfl rfl rfl rfl) rfl rfl ?_
        refine on 1 rfl ?_
        refine rz ?_
        rcases ite_inv h with ⟨hc, h⟩ | ⟨hc, h⟩
        · refine ct rfl hc ?_
          refine awp_seq ?_
          refine rn 1 rfl ?_
          obtain ⟨⟨x6, ok⟩, hk, h⟩ := bind_inv h
          refine po (ecall (p_jlex_name_ok hk) rfl rfl rfl rfl rfl rfl rfl rfl rfl) rfl rfl ?_
          refine on (nid' := 4) 6 rfl ?_
          refine rz ?_
          refine awp_seq ?_
          refine ra rfl ?_
          rcases ite_inv h with ⟨hc, h⟩ | ⟨hc, h⟩
          · refine ct rfl hc ?_
            refine awp_seq ?_
            refine drn (m := 9) 5 rfl rfl ?_
            refine dz (by kernel_rfl) ?_
            refine awp_ret ?_
            refine condQ.ret ?_
            refine seqQ.ret ?_
            refine condQ.ret ?_
            refine condQ.ret ?_
            refine condQ.ret ?_
            refine exitQ.ret ?_
            refine seqQ.ret ?_
            cases h
            exact ⟨⟨_, _, _, _, rfl, rfl, rfl, rfl, rfl⟩⟩
          · refine cf rfl hc ?_
            refine awp_skip ?_
            refine cn rfl ?_
            refine seqQ.normal ?_
            refine awp_seq ?_
            refine drn (m := 12) 8 rfl rfl ?_
            refine dz (by kernel_rfl) ?_
            refine awp_ret ?_
            refine condQ.ret ?_
            refine condQ.ret ?_
            refine condQ.ret ?_
            refine exitQ.ret ?_
            refine seqQ.ret ?_
            cases h
            exact ⟨⟨_, _, _, _, rfl, rfl, rfl, rfl, rfl⟩⟩
        · refine cf rfl hc ?_
          refine awp_skip ?_
          refine cn rfl ?_
          refine cn rfl ?_
          refine cn rfl ?_
          refine en rfl ?_
          refine seqQ.normal ?_
          refine awp_seq ?_
          refine awp_seq ?_
          refine rn 0 rfl ?_
          obtain ⟨x7, hk, h⟩ := bind_inv h
          refine po (ecall (p_jlex_words_ok hk) rfl rfl rfl rfl rfl rfl rfl rfl rfl) rfl rfl ?_
          refine po (ellen rfl rfl rfl rfl rfl rfl rfl) rfl rfl ?_
          refine on 1 rfl ?_
          refine rz ?_
          obtain ⟨res, hs, h⟩ := bind_inv h
          refine awp_sub Tryd.f16 0 (fun (r : Token × Int × Fault) => (CRes.ret (.tuple [.d (encToken r.1), .d (.int .i64 r.2.1), .d (encFault r.2.2)]) [])) (fun (_ : Unit) => (⟨[(2, .c (.ptr 0 0)), (4, .c (.ptr 1 0)), (5, .c (.ptr 2 0))], [(2, [.d (.int .i64 (Fault.mk 2 0 0).err), .d (.int .i64 (Fault.mk 2 0 0).at_), .d (.int .i64 (Fault.mk 2 0 0).why)]), (1, [.d (.int .i64 0), .d (.int .i64 0), .d (.int .i64 0)]), (0, [.d (.int .i64 0), .d (.str []), .own 1 (List.map (D.int .i64) []), .own 3 (List.map encCell []), .d (.int .i64 0)])], 3, [], none⟩ : St)) (res := res) ?_ (fun y hy => ?_) (fun r s' hr he => ?_)
          · replace h := hs
            refine awp_block ?_
            refine awp_loop ?_
            exact awpL_at rfl rfl (p_jlex_word_l0_ok _ _ h)
          · subst hy
            refine seqQ.normal ?_
            refine awp_seq ?_
            refine drn (m := 8) 5 rfl rfl ?_
            refine dz (by kernel_rfl) ?_
            refine awp_ret ?_
            cases h
            exact ⟨⟨_, _, _, _, rfl, rfl, rfl, rfl, rfl⟩⟩
          · subst hr
            refine seqQ.ret ?_
            cases h
            exact he

end Go.AM.Seat

namespace Go.AM.Seat
open Go Go.AM Go.Proofs
set_option maxRecDepth 100000
set_option maxHeartbeats 4000000
set_option linter.unusedVariables false

theorem p_jlex_Lex_l0_ok : ∀ (a : Str × Int × (List Token)) (res : Except ((List Token) × Fault) ((List Token))), p_jlex_Lex_l0 a = some res → (match a with | (s, i, l) => awpL X 8 (codeAt [1, 1, 1, 0, 1, 0, 0] (bodyOf Tryd.f8)) (cleanAt (X.H 8 5) 1) (exitQ 0 (X.H 8 1000000) 1 (SubQ X Tryd.f8 0 (fun (r : (List Token) × Fault) => (CRes.ret (.tuple [.d (.list 5 (List.map encToken r.1)), .d (encFault r.2)]) [])) (fun (l2 : (List Token)) => (⟨[(3, .c (.ptr 0 0)), (4, .c (.own 5 (List.map encToken l2)))], [(0, [.d (.int .i64 0), .d (.int .i64 0), .d (.int .i64 0)])], 1, [], none⟩ : St)) res)) ⟨[(0, .d (.str s)), (3, .c (.ptr 0 0)), (4, .c (.own 5 (List.map encToken l))), (5, .d (.int .i64 i))], [(0, [.d (.int .i64 0), .d (.int .i64 0), .d (.int .i64 0)])], 1, [], none⟩) := by
  refine p_jlex_Lex_l0.partial_correctness (motive := (fun a res => match a with | (s, i, l) => awpL X 8 (codeAt [1, 1, 1, 0, 1, 0, 0] (bodyOf Tryd.f8)) (cleanAt (X.H 8 5) 1) (exitQ 0 (X.H 8 1000000) 1 (SubQ X Tryd.f8 0 (fun (r : (List Token) × Fault) => (CRes.ret (.tuple [.d (.list 5 (List.map encToken r.1)), .d (encFault r.2)]) [])) (fun (l2 : (List Token)) => (⟨[(3, .c (.ptr 0 0)), (4, .c (.own 5 (List.map encToken l2)))], [(0, [.d (.int .i64 0), .d (.int .i64 0), .d (.int .i64 0)])], 1, [], none⟩ : St)) res)) ⟨[(0, .d (.str s)), (3, .c (.ptr 0 0)), (4, .c (.own 5 (List.map encToken l))), (5, .d (.int .i64 i))], [(0, [.d (.int .i64 0), .d (.int .i64 0), .d (.int .i64 0)])], 1, [], none⟩)) ?_
  rintro p_jlex_Lex_l0' ih ⟨s, i, l⟩ res h
  refine lg rfl ?_
  refine awp_seq ?_
  refine ra rfl ?_
  rcases ite_inv h with ⟨hc, h⟩ | ⟨hc, h⟩
  · refine ct rfl hc ?_
    refine awp_skip ?_
    refine cn rfl ?_
    refine seqQ.normal ?_
    refine awp_block ?_
    refine awp_seq ?_
    refine awp_seq ?_
    refine rn 2 rfl ?_
    obtain ⟨c, hk, h⟩ := bind_inv h
    refine po (esget hk rfl rfl rfl rfl) rfl rfl ?_
    refine on 1 rfl ?_
    refine rz ?_
    rcases ite_inv h with ⟨hc, h⟩ | ⟨hc, h⟩
    · refine ct rfl hc ?_
      refine ra rfl ?_
      refine awp_exit ?_
      refine condQ.exit ?_
      refine seqQ.exit ?_
      refine eh rfl ?_
      refine loopQ.normal ?_
      exact awpL_at rfl rfl (ih _ _ h)
    · refine cf rfl hc ?_
      refine awp_skip ?_
      refine cn rfl ?_
      refine seqQ.normal ?_
      refine awp_seq ?_
      refine awp_seq ?_
      refine rn 2 rfl ?_
      obtain ⟨s1, hk, h⟩ := bind_inv h
      refine po (esfrom hk rfl rfl rfl rfl) rfl rfl ?_
      obtain ⟨x, hk, h⟩ := bind_inv h
      refine po (ecall (p_strings_HasPrefix_ok hk) rfl rfl rfl rfl rfl rfl rfl rfl rfl) rfl rfl ?_
      refine rz ?_
      rcases ite_inv h with ⟨hc, h⟩ | ⟨hc, h⟩
      · refine ct rfl hc ?_
        refine awp_exit ?_
        refine condQ.exit ?_
        refine seqQ.exit ?_
        refine exitQ.there rfl ?_
        refine loopQ.exit ?_
        refine eh rfl ?_
        cases h
        exact .ok rfl
      · refine cf rfl hc ?_
        refine awp_skip ?_
        refine cn rfl ?_
        refine seqQ.normal ?_
        refine awp_seq ?_
        refine awp_seq ?_
        refine rn 1 rfl ?_
        refine po (ellen rfl rfl rfl rfl rfl rfl rfl) rfl rfl ?_
        refine on 1 rfl ?_
        refine rz ?_
        rcases ite_inv h with ⟨hc, h⟩ | ⟨hc, h⟩
        · refine ct rfl hc ?_
          refine ra rfl ?_
          refine awp_ret ?_
          refine condQ.ret ?_
          refine seqQ.ret ?_
          refine exitQ.ret ?_
          refine loopQ.ret ?_
          refine exitQ.ret ?_
          cases h
          exact .err ⟨⟨_, _, _, _, rfl, rfl, rfl, rfl, rfl⟩⟩
        · refine cf rfl hc ?_
          refine awp_skip ?_
          refine cn rfl ?_
          refine seqQ.normal ?_
          refine awp_seq ?_
          refine rn 2 rfl ?_
          obtain ⟨s2, hk, h⟩ := bind_inv h
          refine po (esfrom hk rfl rfl rfl rfl) rfl rfl ?_
          obtain ⟨⟨x1, k, x2⟩, hk, h⟩ := bind_inv h
          refine po (ecall (p_jlex_word_ok hk) rfl rfl rfl rfl rfl rfl rfl rfl rfl) rfl rfl ?_
          refine on (nid' := 3) 9 rfl ?_
          refine rz ?_
          refine awp_seq ?_
          refine ra rfl ?_
          rcases ite_inv h with ⟨hc, h⟩ | ⟨hc, h⟩
          · refine ct rfl hc ?_
            refine ra rfl ?_
            refine awp_seq ?_
            refine drn (m := 6) 3 rfl rfl ?_
            refine dz (by kernel_rfl) ?_
            refine awp_ret ?_
            refine condQ.ret ?_
            refine seqQ.ret ?_
            refine exitQ.ret ?_
            refine loopQ.ret ?_
            refine exitQ.ret ?_
            cases h
            exact .err ⟨⟨_, _, _, _, rfl, rfl, rfl, rfl, rfl⟩⟩
          · refine cf rfl hc ?_
            refine awp_skip ?_
            refine cn rfl ?_
            refine seqQ.normal ?_
            refine ra rfl ?_
            refine rn 3 rfl ?_
            obtain ⟨l1, hk, h⟩ := bind_inv h
            refine po (eappv hk rfl rfl rfl rfl rfl rfl rfl rfl rfl rfl rfl rfl rfl ) rfl rfl ?_
            refine on 5 rfl ?_
            refine awpO_nil ?_
            refine en rfl ?_
            refine loopQ.normal ?_
            exact awpL_at rfl rfl (ih _ _ h)
  · refine cf rfl hc ?_
    refine awp_exit ?_
    refine condQ.exit ?_
    refine seqQ.exit ?_
    refine loopQ.exit ?_
    refine eh rfl ?_
    cases h
    exact .ok rfl

theorem p_jlex_Lex_ok {s : Str} {r : (List Token) × Fault} (h : p_jlex_Lex s = some r) : aval X 8 [.d (.str s)] [] (CRes.ret (.tuple [.d (.list 5 (List.map encToken r.1)), .d (encFault r.2)]) []) := by
  unfold p_jlex_Lex at h
  refine aval_start (tm := [(0, .d (.str s))]) (hp := []) (n := 0) rfl Tryd.func8 rfl rfl rfl rfl rfl rfl ?_
  refine ra (nid' := 1) rfl ?_
  refine awp_seq ?_
  refine ra rfl ?_
  rcases ite_inv h with ⟨hc, h⟩ | ⟨hc, h⟩
  · refine ct rfl hc ?_
    refine ra rfl ?_
    refine awp_ret ?_
    refine condQ.ret ?_
    refine seqQ.ret ?_
    cases h
    exact ⟨⟨_, _, _, _, rfl, rfl, rfl, rfl, rfl⟩⟩
  · refine cf rfl hc ?_
    refine awp_skip ?_
    refine cn rfl ?_
    refine seqQ.normal ?_
    refine ra rfl ?_
    refine awp_seq ?_
    refine ra rfl ?_
    obtain ⟨res, hs, h⟩ := bind_inv h
    refine awp_sub Tryd.f8 0 (fun (r : (List Token) × Fault) => (CRes.ret (.tuple [.d (.list 5 (List.map encToken r.1)), .d (encFault r.2)]) [])) (fun (l2 : (List Token)) => (⟨[(3, .c (.ptr 0 0)), (4, .c (.own 5 (List.map encToken l2)))], [(0, [.d (.int .i64 0), .d (.int .i64 0), .d (.int .i64 0)])], 1, [], none⟩ : St)) (res := res) ?_ (fun y hy => ?_) (fun r s' hr he => ?_)
    · replace h := hs
      refine awp_block ?_
      refine awp_loop ?_
      exact awpL_at rfl rfl (p_jlex_Lex_l0_ok _ _ h)
    · subst hy
      obtain l2 := y
      refine seqQ.normal ?_
      refine ra rfl ?_
      refine awp_ret ?_
      cases h
      exact ⟨⟨_, _, _, _, rfl, rfl, rfl, rfl, rfl⟩⟩
    · subst hr
      refine seqQ.ret ?_
      cases h
      exact he

end Go.AM.Seat

namespace Go.AM.Seat
open Go Go.AM Go.Proofs
set_option maxRecDepth 100000
set_option maxHeartbeats 4000000
set_option linter.unusedVariables false

theorem p_triglyphlaw13_works_ok  {r : Bool} (h : p_triglyphlaw13_works = some r) : aval X 7 [] [] (CRes.ret (.d (.bool r)) []) := by
  unfold p_triglyphlaw13_works at h
  refine aval_start (tm := []) (hp := []) (n := 0) rfl Tryd.func7 rfl rfl rfl rfl rfl rfl ?_
  refine ra rfl ?_
  refine awp_seq ?_
  refine rn 0 rfl ?_
  obtain ⟨⟨l, x⟩, hk, h⟩ := bind_inv h
  refine po (ecall (p_jlex_Lex_ok hk) rfl rfl rfl rfl rfl rfl rfl rfl rfl) rfl rfl ?_
  refine on (nid' := 1) 6 rfl ?_
  refine rz ?_
  refine awp_seq ?_
  refine rn 0 rfl ?_
  obtain ⟨⟨x1, x2⟩, hk, h⟩ := bind_inv h
  refine po (ecall (p_jlex_Lex_ok hk) rfl rfl rfl rfl rfl rfl rfl rfl rfl) rfl rfl ?_
  refine on (nid' := 2) 6 rfl ?_
  refine rz ?_
  refine awp_seq ?_
  refine drn (m := 44) 4 rfl rfl ?_
  rcases ite_inv h with ⟨hc, h⟩ | ⟨hc, h⟩
  · refine dgt rfl rfl rfl rfl hc rfl ?_
    refine don 1 rfl ?_
    refine pd (ellen rfl rfl rfl rfl rfl rfl rfl) rfl rfl rfl rfl rfl ?_
    refine don 3 rfl ?_
    rcases ite_inv h with ⟨hc, h⟩ | ⟨hc, h⟩
    · refine dgt rfl rfl rfl rfl hc rfl ?_
      refine don 1 rfl ?_
      obtain ⟨y, hk, h⟩ := bind_inv h
      refine pd (elget encToken (fun _ => rfl) hk rfl rfl rfl rfl rfl) rfl rfl rfl rfl rfl ?_
      refine don 5 rfl ?_
      rcases ite_inv h with ⟨hc, h⟩ | ⟨hc, h⟩
      · refine dgt rfl rfl rfl rfl hc rfl ?_
        refine don 1 rfl ?_
        obtain ⟨y1, hk, h⟩ := bind_inv h
        refine pd (elget encToken (fun _ => rfl) hk rfl rfl rfl rfl rfl) rfl rfl rfl rfl rfl ?_
        refine don 5 rfl ?_
        rcases ite_inv h with ⟨hc, h⟩ | ⟨hc, h⟩
        · refine dgt rfl rfl rfl rfl hc rfl ?_
          refine don 1 rfl ?_
          obtain ⟨y2, hk, h⟩ := bind_inv h
          refine pd (elget encToken (fun _ => rfl) hk rfl rfl rfl rfl rfl) rfl rfl rfl rfl rfl ?_
          refine don 3 rfl ?_
          obtain ⟨x3, hk, h⟩ := bind_inv h
          refine pd (ecall (p_triglyphref03_Nums_ok hk) rfl rfl rfl rfl rfl rfl rfl rfl rfl) rfl rfl rfl rfl rfl ?_
          obtain ⟨x4, hk, h⟩ := bind_inv h
          refine pd (ecall (p_triglyphref03_Same_ok hk) rfl rfl rfl rfl rfl rfl rfl rfl rfl) rfl rfl rfl rfl rfl ?_
          refine don 2 rfl ?_
          rcases ite_inv h with ⟨hc, h⟩ | ⟨hc, h⟩
          · refine dgt rfl rfl rfl rfl hc rfl ?_
            refine don 5 rfl ?_
            rcases ite_inv h with ⟨hc, h⟩ | ⟨hc, h⟩
            · refine dgt rfl rfl rfl rfl hc rfl ?_
              refine don 5 rfl ?_
              refine dz (by kernel_rfl) ?_
              refine awp_ret ?_
              cases h
              exact ⟨⟨_, _, _, _, rfl, rfl, rfl, rfl, rfl⟩⟩
            · refine dgf rfl rfl rfl rfl hc rfl ?_
              refine don 5 rfl ?_
              refine dz (by kernel_rfl) ?_
              refine awp_ret ?_
              cases h
              exact ⟨⟨_, _, _, _, rfl, rfl, rfl, rfl, rfl⟩⟩
          · refine dgf rfl rfl rfl rfl hc rfl ?_
            refine don 10 rfl ?_
            refine dz (by kernel_rfl) ?_
            refine awp_ret ?_
            cases h
            exact ⟨⟨_, _, _, _, rfl, rfl, rfl, rfl, rfl⟩⟩
        · refine dgf rfl rfl rfl rfl hc rfl ?_
          refine don 19 rfl ?_
          refine dz (by kernel_rfl) ?_
          refine awp_ret ?_
          cases h
          exact ⟨⟨_, _, _, _, rfl, rfl, rfl, rfl, rfl⟩⟩
      · refine dgf rfl rfl rfl rfl hc rfl ?_
        refine don 26 rfl ?_
        refine dz (by kernel_rfl) ?_
        refine awp_ret ?_
        cases h
        exact ⟨⟨_, _, _, _, rfl, rfl, rfl, rfl, rfl⟩⟩
    · refine dgf rfl rfl rfl rfl hc rfl ?_
      refine don 33 rfl ?_
      refine dz (by kernel_rfl) ?_
      refine awp_ret ?_
      cases h
      exact ⟨⟨_, _, _, _, rfl, rfl, rfl, rfl, rfl⟩⟩
  · refine dgf rfl rfl rfl rfl hc rfl ?_
    refine don 38 rfl ?_
    refine dz (by kernel_rfl) ?_
    refine awp_ret ?_
    cases h
    exact ⟨⟨_, _, _, _, rfl, rfl, rfl, rfl, rfl⟩⟩

end Go.AM.Seat

namespace Go.AM.Seat
open Go Go.AM Go.Proofs
set_option maxRecDepth 100000
set_option maxHeartbeats 4000000
set_option linter.unusedVariables false

theorem p_triglyphlaw13_JlexPlaces_l0_ok : ∀ (a : Str × ((List Token)) × Fault × Int × Int) (res : Except (Bool) (Int)), p_triglyphlaw13_JlexPlaces_l0 a = some res → (match a with | (s, l, x, at_, i) => awpL X 4 (codeAt [1, 1, 1, 1, 0, 1, 0, 0] (bodyOf Tryd.f4)) (cleanAt (X.H 4 6) 1) (exitQ 0 (X.H 4 1000000) 1 (SubQ X Tryd.f4 0 (fun (r : Bool) => (CRes.ret (.d (.bool r)) [])) (fun (c1 : Int) => (⟨[], [(0, [.d (.int .i64 x.err), .d (.int .i64 c1), .d (.int .i64 x.why)])], 1, [], none⟩ : St)) res)) ⟨[(0, .d (.str s)), (3, .d (.list 5 (List.map encToken l))), (5, .d (.int .i64 at_)), (6, .d (.int .i64 i))], [(0, [.d (.int .i64 x.err), .d (.int .i64 x.at_), .d (.int .i64 x.why)])], 1, [], none⟩) := by
  refine p_triglyphlaw13_JlexPlaces_l0.partial_correctness (motive := (fun a res => match a with | (s, l, x, at_, i) => awpL X 4 (codeAt [1, 1, 1, 1, 0, 1, 0, 0] (bodyOf Tryd.f4)) (cleanAt (X.H 4 6) 1) (exitQ 0 (X.H 4 1000000) 1 (SubQ X Tryd.f4 0 (fun (r : Bool) => (CRes.ret (.d (.bool r)) [])) (fun (c1 : Int) => (⟨[], [(0, [.d (.int .i64 x.err), .d (.int .i64 c1), .d (.int .i64 x.why)])], 1, [], none⟩ : St)) res)) ⟨[(0, .d (.str s)), (3, .d (.list 5 (List.map encToken l))), (5, .d (.int .i64 at_)), (6, .d (.int .i64 i))], [(0, [.d (.int .i64 x.err), .d (.int .i64 x.at_), .d (.int .i64 x.why)])], 1, [], none⟩)) ?_
  rintro p_triglyphlaw13_JlexPlaces_l0' ih ⟨s, l, x, at_, i⟩ res h
  refine lg rfl ?_
  refine awp_seq ?_
  refine awp_seq ?_
  refine rn 2 rfl ?_
  refine po (ellen rfl rfl rfl rfl rfl rfl rfl) rfl rfl ?_
  refine on 1 rfl ?_
  refine rz ?_
  rcases ite_inv h with ⟨hc, h⟩ | ⟨hc, h⟩
  · refine ct rfl hc ?_
    refine awp_skip ?_
    refine cn rfl ?_
    refine seqQ.normal ?_
    refine awp_seq ?_
    refine awp_block ?_
    refine awp_seq ?_
    refine rn 2 rfl ?_
    obtain ⟨y, hk, h⟩ := bind_inv h
    refine po (elget encToken (fun _ => rfl) hk rfl rfl rfl rfl rfl) rfl rfl ?_
    refine on (nid' := 2) 3 rfl ?_
    refine rz ?_
    refine awp_seq ?_
    refine awp_seq ?_
    refine drn (m := 39) 5 rfl rfl ?_
    rcases ite_inv h with ⟨hc, h⟩ | ⟨hc, h⟩
    · refine dgt rfl rfl rfl rfl hc rfl ?_
      refine don 32 rfl ?_
      refine dz (by kernel_rfl) ?_
      refine ct rfl rfl ?_
      refine ra rfl ?_
      refine awp_ret ?_
      refine condQ.ret ?_
      refine seqQ.ret ?_
      refine exitQ.ret ?_
      refine seqQ.ret ?_
      refine loopQ.ret ?_
      refine exitQ.ret ?_
      cases h
      exact .err ⟨⟨_, _, _, _, rfl, rfl, rfl, rfl, rfl⟩⟩
    · refine dgf rfl rfl rfl rfl hc rfl ?_
      refine don 7 rfl ?_
      rcases ite_inv h with ⟨hc, h⟩ | ⟨hc, h⟩
      · refine dgt rfl rfl rfl rfl hc rfl ?_
        refine don 25 rfl ?_
        refine dz (by kernel_rfl) ?_
        refine ct rfl rfl ?_
        refine ra rfl ?_
        refine awp_ret ?_
        refine condQ.ret ?_
        refine seqQ.ret ?_
        refine exitQ.ret ?_
        refine seqQ.ret ?_
        refine loopQ.ret ?_
        refine exitQ.ret ?_
        cases h
        exact .err ⟨⟨_, _, _, _, rfl, rfl, rfl, rfl, rfl⟩⟩
      · refine dgf rfl rfl rfl rfl hc rfl ?_
        refine don 11 rfl ?_
        rcases ite_inv h with ⟨hc, h⟩ | ⟨hc, h⟩
        · refine dgt rfl rfl rfl rfl hc rfl ?_
          refine don 14 rfl ?_
          refine dz (by kernel_rfl) ?_
          refine ct rfl rfl ?_
          refine ra rfl ?_
          refine awp_ret ?_
          refine condQ.ret ?_
          refine seqQ.ret ?_
          refine exitQ.ret ?_
          refine seqQ.ret ?_
          refine loopQ.ret ?_
          refine exitQ.ret ?_
          cases h
          exact .err ⟨⟨_, _, _, _, rfl, rfl, rfl, rfl, rfl⟩⟩
        · refine dgf rfl rfl rfl rfl hc rfl ?_
          refine don 9 rfl ?_
          obtain ⟨s1, hk, h⟩ := bind_inv h
          refine pd (esmid hk rfl rfl rfl rfl rfl) rfl rfl rfl rfl rfl ?_
          refine don 4 rfl ?_
          refine dz (by kernel_rfl) ?_
          rcases ite_inv h with ⟨hc, h⟩ | ⟨hc, h⟩
          · refine ct rfl hc ?_
            refine ra rfl ?_
            refine awp_ret ?_
            refine condQ.ret ?_
            refine seqQ.ret ?_
            refine exitQ.ret ?_
            refine seqQ.ret ?_
            refine loopQ.ret ?_
            refine exitQ.ret ?_
            cases h
            exact .err ⟨⟨_, _, _, _, rfl, rfl, rfl, rfl, rfl⟩⟩
          · refine cf rfl hc ?_
            refine awp_skip ?_
            refine cn rfl ?_
            refine seqQ.normal ?_
            refine rn 4 rfl ?_
            refine awpO_nil ?_
            refine en rfl ?_
            refine seqQ.normal ?_
            refine rn 3 rfl ?_
            refine awpO_nil ?_
            refine loopQ.normal ?_
            exact awpL_at rfl rfl (ih _ _ h)
  · refine cf rfl hc ?_
    refine awp_exit ?_
    refine condQ.exit ?_
    refine seqQ.exit ?_
    refine loopQ.exit ?_
    refine eh rfl ?_
    cases h
    exact .ok rfl

theorem p_triglyphlaw13_JlexPlaces_ok {s : Str} {r : Bool} (h : p_triglyphlaw13_JlexPlaces s = some r) : aval X 4 [.d (.str s)] [] (CRes.ret (.d (.bool r)) []) := by
  unfold p_triglyphlaw13_JlexPlaces at h
  refine aval_start (tm := [(0, .d (.str s))]) (hp := []) (n := 0) rfl Tryd.func4 rfl rfl rfl rfl rfl rfl ?_
  refine ra rfl ?_
  refine awp_seq ?_
  refine rn 1 rfl ?_
  obtain ⟨⟨l, x⟩, hk, h⟩ := bind_inv h
  refine po (ecall (p_jlex_Lex_ok hk) rfl rfl rfl rfl rfl rfl rfl rfl rfl) rfl rfl ?_
  refine on (nid' := 1) 6 rfl ?_
  refine rz ?_
  refine awp_seq ?_
  refine ra rfl ?_
  rcases ite_inv h with ⟨hc, h⟩ | ⟨hc, h⟩
  · refine ct rfl hc ?_
    refine awp_seq ?_
    refine rn 1 rfl ?_
    refine po (ellen rfl rfl rfl rfl rfl rfl rfl) rfl rfl ?_
    refine on 2 rfl ?_
    rcases ite_inv h with ⟨hc, h⟩ | ⟨hc, h⟩
    · refine gt rfl rfl rfl rfl hc rfl ?_
      refine on 5 rfl ?_
      rcases ite_inv h with ⟨hc, h⟩ | ⟨hc, h⟩
      · refine gt rfl rfl rfl rfl hc rfl ?_
        refine on 7 rfl ?_
        rcases ite_inv h with ⟨hc, h⟩ | ⟨hc, h⟩
        · refine gt rfl rfl rfl rfl hc rfl ?_
          obtain ⟨x1, hk, h⟩ := bind_inv h
          refine po (ecall (p_triglyphlaw13_works_ok hk) rfl rfl rfl rfl rfl rfl rfl rfl rfl) rfl rfl ?_
          refine on 2 rfl ?_
          refine rz ?_
          refine awp_ret ?_
          refine condQ.ret ?_
          refine seqQ.ret ?_
          cases h
          exact ⟨⟨_, _, _, _, rfl, rfl, rfl, rfl, rfl⟩⟩
        · refine gf rfl rfl rfl rfl hc rfl ?_
          refine on 3 rfl ?_
          refine rz ?_
          refine awp_ret ?_
          refine condQ.ret ?_
          refine seqQ.ret ?_
          cases h
          exact ⟨⟨_, _, _, _, rfl, rfl, rfl, rfl, rfl⟩⟩
      · refine gf rfl rfl rfl rfl hc rfl ?_
        refine on 10 rfl ?_
        refine rz ?_
        refine awp_ret ?_
        refine condQ.ret ?_
        refine seqQ.ret ?_
        cases h
        exact ⟨⟨_, _, _, _, rfl, rfl, rfl, rfl, rfl⟩⟩
    · refine gf rfl rfl rfl rfl hc rfl ?_
      refine on 15 rfl ?_
      refine rz ?_
      refine awp_ret ?_
      refine condQ.ret ?_
      refine seqQ.ret ?_
      cases h
      exact ⟨⟨_, _, _, _, rfl, rfl, rfl, rfl, rfl⟩⟩
  · refine cf rfl hc ?_
    refine awp_skip ?_
    refine cn rfl ?_
    refine seqQ.normal ?_
    refine ra rfl ?_
    refine awp_seq ?_
    refine ra rfl ?_
    obtain ⟨res, hs, h⟩ := bind_inv h
    refine awp_sub Tryd.f4 0 (fun (r : Bool) => (CRes.ret (.d (.bool r)) [])) (fun (c1 : Int) => (⟨[], [(0, [.d (.int .i64 x.err), .d (.int .i64 c1), .d (.int .i64 x.why)])], 1, [], none⟩ : St)) (res := res) ?_ (fun y hy => ?_) (fun r s' hr he => ?_)
    · replace h := hs
      refine awp_block ?_
      refine awp_loop ?_
      exact awpL_at rfl rfl (p_triglyphlaw13_JlexPlaces_l0_ok _ _ h)
    · subst hy
      obtain c1 := y
      refine seqQ.normal ?_
      refine awp_seq ?_
      refine rn 0 rfl ?_
      obtain ⟨x2, hk, h⟩ := bind_inv h
      refine po (ecall (p_triglyphlaw13_works_ok hk) rfl rfl rfl rfl rfl rfl rfl rfl rfl) rfl rfl ?_
      refine on 1 rfl ?_
      refine rz ?_
      refine awp_ret ?_
      cases h
      exact ⟨⟨_, _, _, _, rfl, rfl, rfl, rfl, rfl⟩⟩
    · subst hr
      refine seqQ.ret ?_
      cases h
      exact he

end Go.AM.Seat
