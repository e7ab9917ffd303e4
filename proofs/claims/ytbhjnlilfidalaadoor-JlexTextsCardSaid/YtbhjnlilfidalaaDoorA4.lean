/- Part of a proof about the given program: the abstract machine, the printed functions, the plain laws. (TFtriglyphref03_Nums, TFtriglyphref03_ints, TFtriglyphref03_Cmp, TFtriglyphref03_Same, TFtriglyphlaw13_works, TFtriglyphref02_Good, TFtriglyphref02_width, TFtriglyphref02_Put, TFtriglyphref03_Text, TFtriglyphlaw13_JlexTexts) -/
import Derived.Test.YtbhjnlilfidalaaDoorA3
set_option linter.all false
set_option linter.unusedSectionVars false
set_option linter.unusedVariables false
set_option linter.unusedSimpArgs false

namespace Go.AM.Seat
open Go Go.AM Go.Proofs
set_option maxRecDepth 100000
set_option maxHeartbeats 4000000
set_option linter.unusedVariables false
theorem p_triglyphref03_Nums_l0_ok : ∀ (a : ((List Int)) × Int × (List Cell)) (res : (List Cell)), p_triglyphref03_Nums_l0 a = some res → (match a with | (l, i, out1) => awpL X 14 (codeAt [1, 1, 0, 1, 0, 0] (bodyOf Tryd.f14)) (cleanAt (X.H 14 3) 2) (exitQ 0 (X.H 14 1000000) 2 (NrmQ (fun (out11 : (List Cell)) => (⟨[(2, .c (.ptr 0 0)), (3, .c (.ptr 1 0))], [(1, [.d (.list 1 (List.map (D.int .i64) [(List.length l : Int)])), .own 3 (List.map encCell out11)]), (0, [.own 1 (List.map (D.int .i64) []), .own 3 (List.map encCell [])])], 2, [], none⟩ : St)) res)) ⟨[(0, .d (.list 1 (List.map (D.int .i64) l))), (2, .c (.ptr 0 0)), (3, .c (.ptr 1 0)), (4, .d (.int .i64 i))], [(1, [.d (.list 1 (List.map (D.int .i64) [(List.length l : Int)])), .own 3 (List.map encCell out1)]), (0, [.own 1 (List.map (D.int .i64) []), .own 3 (List.map encCell [])])], 2, [], none⟩) := by
  refine p_triglyphref03_Nums_l0.partial_correctness _ ?_
  rintro p_triglyphref03_Nums_l0' ih ⟨l, i, out1⟩ res h
  refine lg rfl ?_
  refine awp_seq ?_
  refine awp_seq ?_
  refine rn 2 rfl ?_
  refine po (ellen rfl rfl rfl rfl rfl rfl rfl) rfl rfl ?_
  refine on 1 rfl ?_
  refine rz ?_
  rcases ite_inv h with ⟨hc, h⟩ | ⟨hc, h⟩
  · refine ct rfl hc ?_
    refine awp_skip ?_
    refine cn rfl ?_
    refine seqQ.normal ?_
    refine awp_seq ?_
    refine awp_block ?_
    refine drn (m := 13) 4 rfl rfl ?_
    obtain ⟨y, hk, h⟩ := bind_inv h
    refine pd (elget (D.int .i64) (fun _ => rfl) hk rfl rfl rfl rfl rfl) rfl rfl rfl rfl rfl ?_
    refine don 3 rfl ?_
    obtain ⟨l1, hk, h⟩ := bind_inv h
    refine pd (eappc hk rfl rfl rfl rfl rfl rfl rfl rfl rfl rfl rfl rfl rfl rfl ) rfl rfl rfl rfl rfl ?_
    refine don 2 rfl ?_
    refine dz' (by kernel_rfl) ?_
    refine en rfl ?_
    refine seqQ.normal ?_
    refine rn 3 rfl ?_
    refine awpO_nil ?_
    refine loopQ.normal ?_
    exact awpL_at rfl rfl (ih _ _ h)
  · refine cf rfl hc ?_
    refine awp_exit ?_
    refine condQ.exit ?_
    refine seqQ.exit ?_
    refine loopQ.exit ?_
    refine eh rfl ?_
    cases h
    exact .ok rfl
theorem p_triglyphref03_Nums_ok {l : (List Int)} {r : Arr} (h : p_triglyphref03_Nums l = some r) : aval X 14 [.d (.list 1 (List.map (D.int .i64) l))] [] (CRes.ret (.d (encArr r)) []) := by
  unfold p_triglyphref03_Nums at h
  refine aval_start (tm := [(0, .d (.list 1 (List.map (D.int .i64) l)))]) (hp := []) (n := 0) rfl Tryd.func14 rfl rfl rfl rfl rfl rfl ?_
  refine ra (nid' := 1) rfl ?_
  refine awp_seq ?_
  refine rn 1 rfl ?_
  refine po (ellen rfl rfl rfl rfl rfl rfl rfl) rfl rfl ?_
  refine on (nid' := 2) 4 rfl ?_
  refine rz ?_
  refine awp_seq ?_
  refine ra rfl ?_
  obtain ⟨out11, hs, h⟩ := bind_inv h
  refine awp_nrm (fun (out11 : (List Cell)) => (⟨[(2, .c (.ptr 0 0)), (3, .c (.ptr 1 0))], [(1, [.d (.list 1 (List.map (D.int .i64) [(List.length l : Int)])), .own 3 (List.map encCell out11)]), (0, [.own 1 (List.map (D.int .i64) []), .own 3 (List.map encCell [])])], 2, [], none⟩ : St)) (y := out11) ?_ ?_
  · replace h := hs
    refine awp_block ?_
    refine awp_loop ?_
    exact awpL_at rfl rfl (p_triglyphref03_Nums_l0_ok _ _ h)
  · refine seqQ.normal ?_
    refine ra rfl ?_
    refine awp_ret ?_
    cases h
    exact .ret rfl rfl
theorem p_triglyphref03_ints_ok {a_ : Int} {b : Int} {r : Int} (h : p_triglyphref03_ints a_ b = some r) : aval X 29 [.d (.int .i64 a_), .d (.int .i64 b)] [] (CRes.ret (.d (.int .i64 r)) []) := by
  unfold p_triglyphref03_ints at h
  refine aval_start (tm := [(0, .d (.int .i64 a_)), (1, .d (.int .i64 b))]) (hp := []) (n := 0) rfl Tryd.func29 rfl rfl rfl rfl rfl rfl ?_
  refine ra rfl ?_
  refine awp_seq ?_
  refine ra rfl ?_
  rcases ite_inv h with ⟨hc, h⟩ | ⟨hc, h⟩
  · refine ct rfl hc ?_
    refine ra rfl ?_
    refine awp_ret ?_
    refine condQ.ret ?_
    refine seqQ.ret ?_
    cases h
    exact .ret rfl rfl
  · refine cf rfl hc ?_
    refine awp_skip ?_
    refine cn rfl ?_
    refine seqQ.normal ?_
    refine awp_seq ?_
    refine ra rfl ?_
    rcases ite_inv h with ⟨hc, h⟩ | ⟨hc, h⟩
    · refine ct rfl hc ?_
      refine ra rfl ?_
      refine awp_ret ?_
      refine condQ.ret ?_
      refine seqQ.ret ?_
      cases h
      exact .ret rfl rfl
    · refine cf rfl hc ?_
      refine awp_skip ?_
      refine cn rfl ?_
      refine seqQ.normal ?_
      refine ra rfl ?_
      refine awp_ret ?_
      cases h
      exact .ret rfl rfl
abbrev Mp_triglyphref03_Cmp_l0 (a : Arr × Arr × Int × Int) (res : Int) : Prop := match a with | (a_, b, o1, i) => awpL X 17 (codeAt [1, 1, 0, 1, 0, 0] (bodyOf Tryd.f17)) (cleanAt (X.H 17 3) 2) (exitQ 0 (X.H 17 1000000) 2 (NrmQ (fun (o3 : Int) => (⟨[(2, .c (.ptr 0 0)), (3, .c (.ptr 1 0)), (5, .d (.int .i64 o3))], [(1, [.d (.list 1 (List.map (D.int .i64) b.shape)), .d (.list 3 (List.map encCell b.cells))]), (0, [.d (.list 1 (List.map (D.int .i64) a_.shape)), .d (.list 3 (List.map encCell a_.cells))])], 2, [], none⟩ : St)) res)) ⟨[(2, .c (.ptr 0 0)), (3, .c (.ptr 1 0)), (5, .d (.int .i64 o1)), (6, .d (.int .i64 i))], [(1, [.d (.list 1 (List.map (D.int .i64) b.shape)), .d (.list 3 (List.map encCell b.cells))]), (0, [.d (.list 1 (List.map (D.int .i64) a_.shape)), .d (.list 3 (List.map encCell a_.cells))])], 2, [], none⟩
theorem p_triglyphref03_Cmp_l0_ih : ∀ a res, p_triglyphref03_Cmp_l0 a = some res → Mp_triglyphref03_Cmp_l0 a res := by
  refine p_triglyphref03_Cmp_l0.partial_correctness Mp_triglyphref03_Cmp_l0 ?_
  rintro p_triglyphref03_Cmp_l0' ih_p_triglyphref03_Cmp_l0 ⟨a_, b, o1, i⟩ res h
  refine lg rfl ?_
  refine awp_seq ?_
  refine awp_seq ?_
  refine rn 3 rfl ?_
  refine po (ellen rfl rfl rfl rfl rfl rfl rfl) rfl rfl ?_
  refine on 2 rfl ?_
  rcases ite_inv h with ⟨hc, h⟩ | ⟨hc, h⟩
  · refine gt rfl rfl rfl rfl hc rfl ?_
    refine on 3 rfl ?_
    refine rz ?_
    rcases ite_inv h with ⟨hc, h⟩ | ⟨hc, h⟩
    · refine ct rfl hc ?_
      refine awp_skip ?_
      refine cn rfl ?_
      refine seqQ.normal ?_
      refine awp_seq ?_
      refine awp_block ?_
      refine drn (m := 14) 3 rfl rfl ?_
      obtain ⟨y, hk, h⟩ := bind_inv h
      refine pd (elget (D.int .i64) (fun _ => rfl) hk rfl rfl rfl rfl rfl) rfl rfl rfl rfl rfl ?_
      refine don 4 rfl ?_
      obtain ⟨y1, hk, h⟩ := bind_inv h
      refine pd (elget (D.int .i64) (fun _ => rfl) hk rfl rfl rfl rfl rfl) rfl rfl rfl rfl rfl ?_
      refine don 1 rfl ?_
      obtain ⟨o2, hk, h⟩ := bind_inv h
      refine pd (ecall (p_triglyphref03_ints_ok hk) rfl rfl rfl rfl rfl rfl rfl rfl rfl) rfl rfl rfl rfl rfl ?_
      refine don 1 rfl ?_
      refine dz' (by kernel_rfl) ?_
      refine en rfl ?_
      refine seqQ.normal ?_
      refine rn 3 rfl ?_
      refine awpO_nil ?_
      refine loopQ.normal ?_
      exact awpL_at rfl rfl (ih_p_triglyphref03_Cmp_l0 _ _ h)
    · refine cf rfl hc ?_
      refine awp_exit ?_
      refine condQ.exit ?_
      refine seqQ.exit ?_
      refine loopQ.exit ?_
      refine eh rfl ?_
      cases h
      exact .ok rfl
  · refine gf rfl rfl rfl rfl hc rfl ?_
    refine on 3 rfl ?_
    refine rz ?_
    refine cf rfl rfl ?_
    refine awp_exit ?_
    refine condQ.exit ?_
    refine seqQ.exit ?_
    refine loopQ.exit ?_
    refine eh rfl ?_
    cases h
    exact .ok rfl
abbrev Mp_triglyphref03_Cmp_l1 (a : Arr × Arr × Int × Int) (res : Int) : Prop := match a with | (a_, b, o4, i1) => awpL X 17 (codeAt [1, 1, 1, 0, 1, 0, 0] (bodyOf Tryd.f17)) (cleanAt (X.H 17 7) 2) (exitQ 2 (X.H 17 1000002) 2 (NrmQ (fun (o6 : Int) => (⟨[(2, .c (.ptr 0 0)), (3, .c (.ptr 1 0)), (5, .d (.int .i64 o6))], [(1, [.d (.list 1 (List.map (D.int .i64) b.shape)), .d (.list 3 (List.map encCell b.cells))]), (0, [.d (.list 1 (List.map (D.int .i64) a_.shape)), .d (.list 3 (List.map encCell a_.cells))])], 2, [], none⟩ : St)) res)) ⟨[(2, .c (.ptr 0 0)), (3, .c (.ptr 1 0)), (5, .d (.int .i64 o4)), (7, .d (.int .i64 i1))], [(1, [.d (.list 1 (List.map (D.int .i64) b.shape)), .d (.list 3 (List.map encCell b.cells))]), (0, [.d (.list 1 (List.map (D.int .i64) a_.shape)), .d (.list 3 (List.map encCell a_.cells))])], 2, [], none⟩
abbrev Mp_triglyphref03_Cmp (a : Arr × Arr) (res : Int) : Prop := match a with | (a_, b) => aval X 17 [.d (encArr a_), .d (encArr b)] [] (CRes.ret (.d (.int .i64 res)) [])
abbrev Mp_triglyphref03_Cell (a : Cell × Cell) (res : Int) : Prop := match a with | (a_, b) => aval X 30 [.d (encCell a_), .d (encCell b)] [] (CRes.ret (.d (.int .i64 res)) [])
theorem p_triglyphref03_Cmp_l1_grp : (∀ a res, p_triglyphref03_Cmp_l1 a = some res → Mp_triglyphref03_Cmp_l1 a res) ∧ (∀ a res, p_triglyphref03_Cell a = some res → Mp_triglyphref03_Cell a res) ∧ (∀ a res, p_triglyphref03_Cmp a = some res → Mp_triglyphref03_Cmp a res) := by
  refine p_triglyphref03_Cmp_l1.mutual_partial_correctness (motive_1 := Mp_triglyphref03_Cmp_l1) (motive_2 := Mp_triglyphref03_Cell) (motive_3 := Mp_triglyphref03_Cmp) ?_ ?_ ?_
  · rintro p_triglyphref03_Cmp_l1' p_triglyphref03_Cell' ih_p_triglyphref03_Cmp_l1 ih_p_triglyphref03_Cell ⟨a_, b, o4, i1⟩ res h
    refine lg rfl ?_
    refine awp_seq ?_
    refine awp_seq ?_
    refine rn 3 rfl ?_
    refine po (ellen rfl rfl rfl rfl rfl rfl rfl) rfl rfl ?_
    refine on 2 rfl ?_
    rcases ite_inv h with ⟨hc, h⟩ | ⟨hc, h⟩
    · refine gt rfl rfl rfl rfl hc rfl ?_
      refine on 3 rfl ?_
      refine po (ellen rfl rfl rfl rfl rfl rfl rfl) rfl rfl ?_
      refine on 3 rfl ?_
      rcases ite_inv h with ⟨hc, h⟩ | ⟨hc, h⟩
      · refine gt rfl rfl rfl rfl hc rfl ?_
        refine on 3 rfl ?_
        refine rz ?_
        rcases ite_inv h with ⟨hc, h⟩ | ⟨hc, h⟩
        · refine ct rfl hc ?_
          refine awp_skip ?_
          refine cn rfl ?_
          refine seqQ.normal ?_
          refine awp_seq ?_
          refine awp_block ?_
          refine drn (m := 14) 3 rfl rfl ?_
          obtain ⟨y2, hk, h⟩ := bind_inv h
          refine pd (elget encCell (fun _ => rfl) hk rfl rfl rfl rfl rfl) rfl rfl rfl rfl rfl ?_
          refine don 4 rfl ?_
          obtain ⟨y3, hk, h⟩ := bind_inv h
          refine pd (elget encCell (fun _ => rfl) hk rfl rfl rfl rfl rfl) rfl rfl rfl rfl rfl ?_
          refine don 1 rfl ?_
          obtain ⟨o5, hk, h⟩ := bind_inv h
          refine pd (ecall (ih_p_triglyphref03_Cell _ _ hk) rfl rfl rfl rfl rfl rfl rfl rfl rfl) rfl rfl rfl rfl rfl ?_
          refine don 1 rfl ?_
          refine dz' (by kernel_rfl) ?_
          refine en rfl ?_
          refine seqQ.normal ?_
          refine rn 3 rfl ?_
          refine awpO_nil ?_
          refine loopQ.normal ?_
          exact awpL_at rfl rfl (ih_p_triglyphref03_Cmp_l1 _ _ h)
        · refine cf rfl hc ?_
          refine awp_exit ?_
          refine condQ.exit ?_
          refine seqQ.exit ?_
          refine loopQ.exit ?_
          refine eh rfl ?_
          cases h
          exact .ok rfl
      · refine gf rfl rfl rfl rfl hc rfl ?_
        refine on 3 rfl ?_
        refine rz ?_
        refine cf rfl rfl ?_
        refine awp_exit ?_
        refine condQ.exit ?_
        refine seqQ.exit ?_
        refine loopQ.exit ?_
        refine eh rfl ?_
        cases h
        exact .ok rfl
    · refine gf rfl rfl rfl rfl hc rfl ?_
      refine on 10 rfl ?_
      refine rz ?_
      refine cf rfl rfl ?_
      refine awp_exit ?_
      refine condQ.exit ?_
      refine seqQ.exit ?_
      refine loopQ.exit ?_
      refine eh rfl ?_
      cases h
      exact .ok rfl
  · rintro p_triglyphref03_Cmp' ih_p_triglyphref03_Cmp ⟨a_, b⟩ res h
    refine aval_start (tm := [(0, .d (encCell a_)), (1, .d (encCell b))]) (hp := []) (n := 0) rfl Tryd.func30 rfl rfl rfl rfl rfl rfl ?_
    refine ra (nid' := 2) rfl ?_
    refine awp_seq ?_
    refine rn 4 rfl ?_
    obtain ⟨o, hk, h⟩ := bind_inv h
    refine po (ecall (p_triglyphref03_ints_ok hk) rfl rfl rfl rfl rfl rfl rfl rfl rfl) rfl rfl ?_
    refine on 1 rfl ?_
    refine rz ?_
    refine awp_seq ?_
    refine ra rfl ?_
    obtain ⟨o2, hs, h⟩ := bind_inv h
    refine awp_nrm (fun (o2 : Int) => (⟨[(2, .c (.ptr 0 0)), (3, .c (.ptr 1 0)), (5, .d (.int .i64 o2))], [(1, [.d (.int .i64 b.kind), .d (.int .i64 b.n), .d (.list 2 (List.map encArrR b.box))]), (0, [.d (.int .i64 a_.kind), .d (.int .i64 a_.n), .d (.list 2 (List.map encArrR a_.box))])], 2, [], none⟩ : St)) (y := o2) ?_ ?_
    · replace h := hs
      rcases ite_inv h with ⟨hc, h⟩ | ⟨hc, h⟩
      · refine ct rfl hc ?_
        refine rn 4 rfl ?_
        obtain ⟨o1, hk, h⟩ := bind_inv h
        refine po (ecall (p_triglyphref03_ints_ok hk) rfl rfl rfl rfl rfl rfl rfl rfl rfl) rfl rfl ?_
        refine on 1 rfl ?_
        refine awpO_nil ?_
        refine cn rfl ?_
        cases h
        exact .ok rfl
      · refine cf rfl hc ?_
        refine awp_skip ?_
        refine cn rfl ?_
        cases h
        exact .ok rfl
    · refine seqQ.normal ?_
      refine awp_seq ?_
      refine awp_seq ?_
      refine rn 3 rfl ?_
      rcases ite_inv h with ⟨hc, h⟩ | ⟨hc, h⟩
      · refine gt rfl rfl rfl rfl hc rfl ?_
        refine on 2 rfl ?_
        refine po (ellen rfl rfl rfl rfl rfl rfl rfl) rfl rfl ?_
        refine on 3 rfl ?_
        rcases ite_inv h with ⟨hc, h⟩ | ⟨hc, h⟩
        · refine gt rfl rfl rfl rfl hc rfl ?_
          refine on 2 rfl ?_
          refine po (ellen rfl rfl rfl rfl rfl rfl rfl) rfl rfl ?_
          refine on 2 rfl ?_
          refine rz ?_
          rcases ite_inv h with ⟨hc, h⟩ | ⟨hc, h⟩
          · refine ct rfl hc ?_
            refine awp_seq ?_
            refine drn (m := 12) 2 rfl rfl ?_
            obtain ⟨y, hk, h⟩ := bind_inv h
            refine pd (elget encArr encArrR_eq hk rfl rfl rfl rfl rfl) rfl rfl rfl rfl rfl ?_
            refine don 3 rfl ?_
            obtain ⟨y1, hk, h⟩ := bind_inv h
            refine pd (elget encArr encArrR_eq hk rfl rfl rfl rfl rfl) rfl rfl rfl rfl rfl ?_
            refine don 1 rfl ?_
            obtain ⟨x, hk, h⟩ := bind_inv h
            refine pd (ecall (ih_p_triglyphref03_Cmp _ _ hk) rfl rfl rfl rfl rfl rfl rfl rfl rfl) rfl rfl rfl rfl rfl ?_
            refine don 1 rfl ?_
            refine dz (by kernel_rfl) ?_
            refine awp_ret ?_
            refine condQ.ret ?_
            refine seqQ.ret ?_
            cases h
            exact .ret rfl rfl
          · refine cf rfl hc ?_
            refine awp_skip ?_
            refine cn rfl ?_
            refine seqQ.normal ?_
            refine awp_seq ?_
            refine ra rfl ?_
            obtain ⟨o4, hs, h⟩ := bind_inv h
            refine awp_nrm (fun (o4 : Int) => (⟨[(5, .d (.int .i64 o4))], [(1, [.d (.int .i64 b.kind), .d (.int .i64 b.n), .d (.list 2 (List.map encArrR b.box))]), (0, [.d (.int .i64 a_.kind), .d (.int .i64 a_.n), .d (.list 2 (List.map encArrR a_.box))])], 2, [], none⟩ : St)) (y := o4) ?_ ?_
            · replace h := hs
              rcases ite_inv h with ⟨hc, h⟩ | ⟨hc, h⟩
              · refine ct rfl hc ?_
                refine rn 2 rfl ?_
                refine po (ellen rfl rfl rfl rfl rfl rfl rfl) rfl rfl ?_
                refine on 2 rfl ?_
                refine po (ellen rfl rfl rfl rfl rfl rfl rfl) rfl rfl ?_
                obtain ⟨o3, hk, h⟩ := bind_inv h
                refine po (ecall (p_triglyphref03_ints_ok hk) rfl rfl rfl rfl rfl rfl rfl rfl rfl) rfl rfl ?_
                refine on 1 rfl ?_
                refine awpO_nil ?_
                refine cn rfl ?_
                cases h
                exact .ok rfl
              · refine cf rfl hc ?_
                refine awp_skip ?_
                refine cn rfl ?_
                cases h
                exact .ok rfl
            · refine seqQ.normal ?_
              refine ra rfl ?_
              refine awp_ret ?_
              cases h
              exact .ret rfl rfl
        · refine gf rfl rfl rfl rfl hc rfl ?_
          refine on 5 rfl ?_
          refine rz ?_
          refine cf rfl rfl ?_
          refine awp_skip ?_
          refine cn rfl ?_
          refine seqQ.normal ?_
          refine awp_seq ?_
          refine ra rfl ?_
          obtain ⟨o6, hs, h⟩ := bind_inv h
          refine awp_nrm (fun (o6 : Int) => (⟨[(5, .d (.int .i64 o6))], [(1, [.d (.int .i64 b.kind), .d (.int .i64 b.n), .d (.list 2 (List.map encArrR b.box))]), (0, [.d (.int .i64 a_.kind), .d (.int .i64 a_.n), .d (.list 2 (List.map encArrR a_.box))])], 2, [], none⟩ : St)) (y := o6) ?_ ?_
          · replace h := hs
            rcases ite_inv h with ⟨hc, h⟩ | ⟨hc, h⟩
            · refine ct rfl hc ?_
              refine rn 2 rfl ?_
              refine po (ellen rfl rfl rfl rfl rfl rfl rfl) rfl rfl ?_
              refine on 2 rfl ?_
              refine po (ellen rfl rfl rfl rfl rfl rfl rfl) rfl rfl ?_
              obtain ⟨o5, hk, h⟩ := bind_inv h
              refine po (ecall (p_triglyphref03_ints_ok hk) rfl rfl rfl rfl rfl rfl rfl rfl rfl) rfl rfl ?_
              refine on 1 rfl ?_
              refine awpO_nil ?_
              refine cn rfl ?_
              cases h
              exact .ok rfl
            · refine cf rfl hc ?_
              refine awp_skip ?_
              refine cn rfl ?_
              cases h
              exact .ok rfl
          · refine seqQ.normal ?_
            refine ra rfl ?_
            refine awp_ret ?_
            cases h
            exact .ret rfl rfl
      · refine gf rfl rfl rfl rfl hc rfl ?_
        refine on 11 rfl ?_
        refine rz ?_
        refine cf rfl rfl ?_
        refine awp_skip ?_
        refine cn rfl ?_
        refine seqQ.normal ?_
        refine awp_seq ?_
        refine ra rfl ?_
        obtain ⟨o8, hs, h⟩ := bind_inv h
        refine awp_nrm (fun (o8 : Int) => (⟨[(5, .d (.int .i64 o8))], [(1, [.d (.int .i64 b.kind), .d (.int .i64 b.n), .d (.list 2 (List.map encArrR b.box))]), (0, [.d (.int .i64 a_.kind), .d (.int .i64 a_.n), .d (.list 2 (List.map encArrR a_.box))])], 2, [], none⟩ : St)) (y := o8) ?_ ?_
        · replace h := hs
          rcases ite_inv h with ⟨hc, h⟩ | ⟨hc, h⟩
          · refine ct rfl hc ?_
            refine rn 2 rfl ?_
            refine po (ellen rfl rfl rfl rfl rfl rfl rfl) rfl rfl ?_
            refine on 2 rfl ?_
            refine po (ellen rfl rfl rfl rfl rfl rfl rfl) rfl rfl ?_
            obtain ⟨o7, hk, h⟩ := bind_inv h
            refine po (ecall (p_triglyphref03_ints_ok hk) rfl rfl rfl rfl rfl rfl rfl rfl rfl) rfl rfl ?_
            refine on 1 rfl ?_
            refine awpO_nil ?_
            refine cn rfl ?_
            cases h
            exact .ok rfl
          · refine cf rfl hc ?_
            refine awp_skip ?_
            refine cn rfl ?_
            cases h
            exact .ok rfl
        · refine seqQ.normal ?_
          refine ra rfl ?_
          refine awp_ret ?_
          cases h
          exact .ret rfl rfl
  · rintro p_triglyphref03_Cmp_l1' ih_p_triglyphref03_Cmp_l1 ⟨a_, b⟩ res h
    refine aval_start (tm := [(0, .d (encArr a_)), (1, .d (encArr b))]) (hp := []) (n := 0) rfl Tryd.func17 rfl rfl rfl rfl rfl rfl ?_
    refine ra (nid' := 2) rfl ?_
    refine awp_seq ?_
    refine rn 2 rfl ?_
    refine po (ellen rfl rfl rfl rfl rfl rfl rfl) rfl rfl ?_
    refine on 2 rfl ?_
    refine po (ellen rfl rfl rfl rfl rfl rfl rfl) rfl rfl ?_
    obtain ⟨o, hk, h⟩ := bind_inv h
    refine po (ecall (p_triglyphref03_ints_ok hk) rfl rfl rfl rfl rfl rfl rfl rfl rfl) rfl rfl ?_
    refine on 1 rfl ?_
    refine rz ?_
    refine awp_seq ?_
    refine ra rfl ?_
    obtain ⟨o3, hs, h⟩ := bind_inv h
    refine awp_nrm (fun (o3 : Int) => (⟨[(2, .c (.ptr 0 0)), (3, .c (.ptr 1 0)), (5, .d (.int .i64 o3))], [(1, [.d (.list 1 (List.map (D.int .i64) b.shape)), .d (.list 3 (List.map encCell b.cells))]), (0, [.d (.list 1 (List.map (D.int .i64) a_.shape)), .d (.list 3 (List.map encCell a_.cells))])], 2, [], none⟩ : St)) (y := o3) ?_ ?_
    · replace h := hs
      refine awp_block ?_
      refine awp_loop ?_
      exact awpL_at rfl rfl (p_triglyphref03_Cmp_l0_ih _ _ h)
    · refine seqQ.normal ?_
      refine awp_seq ?_
      refine ra rfl ?_
      obtain ⟨o6, hs, h⟩ := bind_inv h
      refine awp_nrm (fun (o6 : Int) => (⟨[(2, .c (.ptr 0 0)), (3, .c (.ptr 1 0)), (5, .d (.int .i64 o6))], [(1, [.d (.list 1 (List.map (D.int .i64) b.shape)), .d (.list 3 (List.map encCell b.cells))]), (0, [.d (.list 1 (List.map (D.int .i64) a_.shape)), .d (.list 3 (List.map encCell a_.cells))])], 2, [], none⟩ : St)) (y := o6) ?_ ?_
      · replace h := hs
        refine awp_block ?_
        refine awp_loop ?_
        exact awpL_at rfl rfl (ih_p_triglyphref03_Cmp_l1 _ _ h)
      · refine seqQ.normal ?_
        refine awp_seq ?_
        refine ra rfl ?_
        obtain ⟨o8, hs, h⟩ := bind_inv h
        refine awp_nrm (fun (o8 : Int) => (⟨[(5, .d (.int .i64 o8))], [(1, [.d (.list 1 (List.map (D.int .i64) b.shape)), .d (.list 3 (List.map encCell b.cells))]), (0, [.d (.list 1 (List.map (D.int .i64) a_.shape)), .d (.list 3 (List.map encCell a_.cells))])], 2, [], none⟩ : St)) (y := o8) ?_ ?_
        · replace h := hs
          rcases ite_inv h with ⟨hc, h⟩ | ⟨hc, h⟩
          · refine ct rfl hc ?_
            refine rn 2 rfl ?_
            refine po (ellen rfl rfl rfl rfl rfl rfl rfl) rfl rfl ?_
            refine on 2 rfl ?_
            refine po (ellen rfl rfl rfl rfl rfl rfl rfl) rfl rfl ?_
            obtain ⟨o7, hk, h⟩ := bind_inv h
            refine po (ecall (p_triglyphref03_ints_ok hk) rfl rfl rfl rfl rfl rfl rfl rfl rfl) rfl rfl ?_
            refine on 1 rfl ?_
            refine awpO_nil ?_
            refine cn rfl ?_
            cases h
            exact .ok rfl
          · refine cf rfl hc ?_
            refine awp_skip ?_
            refine cn rfl ?_
            cases h
            exact .ok rfl
        · refine seqQ.normal ?_
          refine ra rfl ?_
          refine awp_ret ?_
          cases h
          exact .ret rfl rfl
theorem p_triglyphref03_Cmp_ih : ∀ a res, p_triglyphref03_Cmp a = some res → Mp_triglyphref03_Cmp a res := p_triglyphref03_Cmp_l1_grp.2.2
theorem p_triglyphref03_Cmp_ok {a : Arr × Arr} {res : Int} (h : p_triglyphref03_Cmp a = some res) : Mp_triglyphref03_Cmp a res := p_triglyphref03_Cmp_ih a res h
theorem p_triglyphref03_Same_ok {a_ : Arr} {b : Arr} {r : Bool} (h : p_triglyphref03_Same a_ b = some r) : aval X 10 [.d (encArr a_), .d (encArr b)] [] (CRes.ret (.d (.bool r)) []) := by
  unfold p_triglyphref03_Same at h
  refine aval_start (tm := [(0, .d (encArr a_)), (1, .d (encArr b))]) (hp := []) (n := 0) rfl Tryd.func10 rfl rfl rfl rfl rfl rfl ?_
  refine ra (nid' := 2) rfl ?_
  refine awp_seq ?_
  refine rn 2 rfl ?_
  obtain ⟨x, hk, h⟩ := bind_inv h
  refine po (ecall (p_triglyphref03_Cmp_ok hk) rfl rfl rfl rfl rfl rfl rfl rfl rfl) rfl rfl ?_
  refine on 2 rfl ?_
  refine rz ?_
  refine awp_ret ?_
  cases h
  exact .ret rfl rfl
theorem p_triglyphlaw13_works_ok  {r : Bool} (h : p_triglyphlaw13_works = some r) : aval X 7 [] [] (CRes.ret (.d (.bool r)) []) := by
  unfold p_triglyphlaw13_works at h
  refine aval_start (tm := []) (hp := []) (n := 0) rfl Tryd.func7 rfl rfl rfl rfl rfl rfl ?_
  refine ra rfl ?_
  refine awp_seq ?_
  refine rn 0 rfl ?_
  obtain ⟨⟨l, x⟩, hk, h⟩ := bind_inv h
  refine po (ecall (p_jlex_Lex_ok hk) rfl rfl rfl rfl rfl rfl rfl rfl rfl) rfl rfl ?_
  refine on (nid' := 1) 6 rfl ?_
  refine rz ?_
  refine awp_seq ?_
  refine rn 0 rfl ?_
  obtain ⟨⟨x1, x2⟩, hk, h⟩ := bind_inv h
  refine po (ecall (p_jlex_Lex_ok hk) rfl rfl rfl rfl rfl rfl rfl rfl rfl) rfl rfl ?_
  refine on (nid' := 2) 6 rfl ?_
  refine rz ?_
  refine awp_seq ?_
  refine drn (m := 44) 4 rfl rfl ?_
  rcases ite_inv h with ⟨hc, h⟩ | ⟨hc, h⟩
  · refine dgt rfl rfl rfl rfl hc rfl ?_
    refine don 1 rfl ?_
    refine pd (ellen rfl rfl rfl rfl rfl rfl rfl) rfl rfl rfl rfl rfl ?_
    refine don 3 rfl ?_
    rcases ite_inv h with ⟨hc, h⟩ | ⟨hc, h⟩
    · refine dgt rfl rfl rfl rfl hc rfl ?_
      refine don 1 rfl ?_
      obtain ⟨y, hk, h⟩ := bind_inv h
      refine pd (elget encToken (fun _ => rfl) hk rfl rfl rfl rfl rfl) rfl rfl rfl rfl rfl ?_
      refine don 5 rfl ?_
      rcases ite_inv h with ⟨hc, h⟩ | ⟨hc, h⟩
      · refine dgt rfl rfl rfl rfl hc rfl ?_
        refine don 1 rfl ?_
        obtain ⟨y1, hk, h⟩ := bind_inv h
        refine pd (elget encToken (fun _ => rfl) hk rfl rfl rfl rfl rfl) rfl rfl rfl rfl rfl ?_
        refine don 5 rfl ?_
        rcases ite_inv h with ⟨hc, h⟩ | ⟨hc, h⟩
        · refine dgt rfl rfl rfl rfl hc rfl ?_
          refine don 1 rfl ?_
          obtain ⟨y2, hk, h⟩ := bind_inv h
          refine pd (elget encToken (fun _ => rfl) hk rfl rfl rfl rfl rfl) rfl rfl rfl rfl rfl ?_
          refine don 3 rfl ?_
          obtain ⟨x3, hk, h⟩ := bind_inv h
          refine pd (ecall (p_triglyphref03_Nums_ok hk) rfl rfl rfl rfl rfl rfl rfl rfl rfl) rfl rfl rfl rfl rfl ?_
          obtain ⟨x4, hk, h⟩ := bind_inv h
          refine pd (ecall (p_triglyphref03_Same_ok hk) rfl rfl rfl rfl rfl rfl rfl rfl rfl) rfl rfl rfl rfl rfl ?_
          refine don 2 rfl ?_
          rcases ite_inv h with ⟨hc, h⟩ | ⟨hc, h⟩
          · refine dgt rfl rfl rfl rfl hc rfl ?_
            refine don 5 rfl ?_
            rcases ite_inv h with ⟨hc, h⟩ | ⟨hc, h⟩
            · refine dgt rfl rfl rfl rfl hc rfl ?_
              refine don 5 rfl ?_
              refine dz (by kernel_rfl) ?_
              refine awp_ret ?_
              cases h
              exact .ret rfl rfl
            · refine dgf rfl rfl rfl rfl hc rfl ?_
              refine don 5 rfl ?_
              refine dz (by kernel_rfl) ?_
              refine awp_ret ?_
              cases h
              exact .ret rfl rfl
          · refine dgf rfl rfl rfl rfl hc rfl ?_
            refine don 10 rfl ?_
            refine dz (by kernel_rfl) ?_
            refine awp_ret ?_
            cases h
            exact .ret rfl rfl
        · refine dgf rfl rfl rfl rfl hc rfl ?_
          refine don 19 rfl ?_
          refine dz (by kernel_rfl) ?_
          refine awp_ret ?_
          cases h
          exact .ret rfl rfl
      · refine dgf rfl rfl rfl rfl hc rfl ?_
        refine don 26 rfl ?_
        refine dz (by kernel_rfl) ?_
        refine awp_ret ?_
        cases h
        exact .ret rfl rfl
    · refine dgf rfl rfl rfl rfl hc rfl ?_
      refine don 33 rfl ?_
      refine dz (by kernel_rfl) ?_
      refine awp_ret ?_
      cases h
      exact .ret rfl rfl
  · refine dgf rfl rfl rfl rfl hc rfl ?_
    refine don 38 rfl ?_
    refine dz (by kernel_rfl) ?_
    refine awp_ret ?_
    cases h
    exact .ret rfl rfl
theorem p_triglyphref02_Good_ok {n : Int} {r : Bool} (h : p_triglyphref02_Good n = some r) : aval X 11 [.d (.int .i64 n)] [] (CRes.ret (.d (.bool r)) []) := by
  unfold p_triglyphref02_Good at h
  refine aval_start (tm := [(0, .d (.int .i64 n))]) (hp := []) (n := 0) rfl Tryd.func11 rfl rfl rfl rfl rfl rfl ?_
  refine ra rfl ?_
  refine awp_seq ?_
  refine rn 3 rfl ?_
  rcases ite_inv h with ⟨hc, h⟩ | ⟨hc, h⟩
  · refine gt rfl rfl rfl rfl hc rfl ?_
    refine on 4 rfl ?_
    rcases ite_inv h with ⟨hc, h⟩ | ⟨hc, h⟩
    · refine gt rfl rfl rfl rfl hc rfl ?_
      refine on 8 rfl ?_
      refine rz ?_
      refine awp_ret ?_
      cases h
      exact .ret rfl rfl
    · refine gf rfl rfl rfl rfl hc rfl ?_
      refine on 3 rfl ?_
      rcases ite_inv h with ⟨hc, h⟩ | ⟨hc, h⟩
      · refine gt rfl rfl rfl rfl hc rfl ?_
        refine on 5 rfl ?_
        refine rz ?_
        refine awp_ret ?_
        cases h
        exact .ret rfl rfl
      · refine gf rfl rfl rfl rfl hc rfl ?_
        refine on 5 rfl ?_
        refine rz ?_
        refine awp_ret ?_
        cases h
        exact .ret rfl rfl
  · refine gf rfl rfl rfl rfl hc rfl ?_
    refine on 7 rfl ?_
    rcases ite_inv h with ⟨hc, h⟩ | ⟨hc, h⟩
    · refine gt rfl rfl rfl rfl hc rfl ?_
      refine on 5 rfl ?_
      refine rz ?_
      refine awp_ret ?_
      cases h
      exact .ret rfl rfl
    · refine gf rfl rfl rfl rfl hc rfl ?_
      refine on 5 rfl ?_
      refine rz ?_
      refine awp_ret ?_
      cases h
      exact .ret rfl rfl
theorem p_triglyphref02_width_ok {n : Int} {r : Int} (h : p_triglyphref02_width n = some r) : aval X 18 [.d (.int .i64 n)] [] (CRes.ret (.d (.int .i64 r)) []) := by
  unfold p_triglyphref02_width at h
  refine aval_start (tm := [(0, .d (.int .i64 n))]) (hp := []) (n := 0) rfl Tryd.func18 rfl rfl rfl rfl rfl rfl ?_
  refine ra rfl ?_
  refine awp_seq ?_
  refine ra rfl ?_
  rcases ite_inv h with ⟨hc, h⟩ | ⟨hc, h⟩
  · refine ct rfl hc ?_
    refine ra rfl ?_
    refine awp_ret ?_
    refine condQ.ret ?_
    refine seqQ.ret ?_
    cases h
    exact .ret rfl rfl
  · refine cf rfl hc ?_
    refine awp_skip ?_
    refine cn rfl ?_
    refine seqQ.normal ?_
    refine awp_seq ?_
    refine ra rfl ?_
    rcases ite_inv h with ⟨hc, h⟩ | ⟨hc, h⟩
    · refine ct rfl hc ?_
      refine ra rfl ?_
      refine awp_ret ?_
      refine condQ.ret ?_
      refine seqQ.ret ?_
      cases h
      exact .ret rfl rfl
    · refine cf rfl hc ?_
      refine awp_skip ?_
      refine cn rfl ?_
      refine seqQ.normal ?_
      refine awp_seq ?_
      refine ra rfl ?_
      rcases ite_inv h with ⟨hc, h⟩ | ⟨hc, h⟩
      · refine ct rfl hc ?_
        refine ra rfl ?_
        refine awp_ret ?_
        refine condQ.ret ?_
        refine seqQ.ret ?_
        cases h
        exact .ret rfl rfl
      · refine cf rfl hc ?_
        refine awp_skip ?_
        refine cn rfl ?_
        refine seqQ.normal ?_
        refine ra rfl ?_
        refine awp_ret ?_
        cases h
        exact .ret rfl rfl
theorem p_triglyphref02_Put_l0_ok : ∀ (a : Int × Int × Int × (List Int)) (res : Int × (List Int)), p_triglyphref02_Put_l0 a = some res → (match a with | (k, n1, i, out1) => awpL X 12 (codeAt [1, 1, 1, 0, 1, 0, 0] (bodyOf Tryd.f12)) (cleanAt (X.H 12 4) 1) (exitQ 0 (X.H 12 1000000) 1 (NrmQ (fun ((n2, out3) : Int × (List Int)) => (⟨[(0, .d (.int .i64 n2)), (3, .d (.int .i64 k)), (4, .c (.arr 0 (Int.toNat k) 1))], [(0, [.seq 1 (List.map (D.int .u8) out3)])], 1, [], none⟩ : St)) res)) ⟨[(0, .d (.int .i64 n1)), (3, .d (.int .i64 k)), (4, .c (.arr 0 (Int.toNat k) 1)), (5, .d (.int .i64 i))], [(0, [.seq 1 (List.map (D.int .u8) out1)])], 1, [], none⟩) := by
  refine p_triglyphref02_Put_l0.partial_correctness _ ?_
  rintro p_triglyphref02_Put_l0' ih ⟨k, n1, i, out1⟩ res h
  refine lg rfl ?_
  refine awp_seq ?_
  refine ra rfl ?_
  rcases ite_inv h with ⟨hc, h⟩ | ⟨hc, h⟩
  · refine ct rfl hc ?_
    refine awp_skip ?_
    refine cn rfl ?_
    refine seqQ.normal ?_
    refine awp_seq ?_
    refine awp_block ?_
    refine awp_seq ?_
    refine rn 6 rfl ?_
    obtain ⟨j, hk, h⟩ := bind_inv h
    refine po (eidx hk rfl rfl rfl rfl rfl) rfl rfl ?_
    obtain ⟨out2, hk, h⟩ := bind_inv h
    refine po (est (D.int .u8) (v := (IntKind.u8.wrap (w64 (128 + (Int.tmod n1 64))))) hk rfl rfl (fun _ => ⟨rfl, rfl, rfl⟩) rfl rfl rfl rfl) rfl rfl ?_
    refine rz ?_
    refine rn 3 rfl ?_
    refine awpO_nil ?_
    refine en rfl ?_
    refine seqQ.normal ?_
    refine rn 3 rfl ?_
    refine awpO_nil ?_
    refine loopQ.normal ?_
    exact awpL_at rfl rfl (ih _ _ h)
  · refine cf rfl hc ?_
    refine awp_exit ?_
    refine condQ.exit ?_
    refine seqQ.exit ?_
    refine loopQ.exit ?_
    refine eh rfl ?_
    cases h
    exact .ok rfl
theorem p_triglyphref02_Put_ok {n : Int} {r : (List Int)} (h : p_triglyphref02_Put n = some r) : aval X 12 [.d (.int .i64 n)] [] (CRes.ret (.d (.list 1 (List.map (D.int .u8) r))) []) := by
  unfold p_triglyphref02_Put at h
  refine aval_start (tm := [(0, .d (.int .i64 n))]) (hp := []) (n := 0) rfl Tryd.func12 rfl rfl rfl rfl rfl rfl ?_
  refine ra rfl ?_
  refine awp_seq ?_
  refine rn 1 rfl ?_
  obtain ⟨k, hk, h⟩ := bind_inv h
  refine po (ecall (p_triglyphref02_width_ok hk) rfl rfl rfl rfl rfl rfl rfl rfl rfl) rfl rfl ?_
  refine on 1 rfl ?_
  refine rz ?_
  refine awp_seq ?_
  refine rn 1 rfl ?_
  obtain ⟨out, hk, h⟩ := bind_inv h
  refine po (emkarr (nid' := 1) (D.int .u8) 0 hk rfl rfl rfl rfl rfl rfl rfl rfl rfl rfl rfl rfl ) rfl rfl ?_
  refine on (nid' := 1) 1 rfl ?_
  refine rz ?_
  refine awp_seq ?_
  refine ra rfl ?_
  obtain ⟨⟨n2, out3⟩, hs, h⟩ := bind_inv h
  refine awp_nrm (fun ((n2, out3) : Int × (List Int)) => (⟨[(0, .d (.int .i64 n2)), (3, .d (.int .i64 k)), (4, .c (.arr 0 (Int.toNat k) 1))], [(0, [.seq 1 (List.map (D.int .u8) out3)])], 1, [], none⟩ : St)) (y := (n2, out3)) ?_ ?_
  · replace h := hs
    refine awp_block ?_
    refine awp_loop ?_
    exact awpL_at rfl rfl (p_triglyphref02_Put_l0_ok _ _ h)
  · refine seqQ.normal ?_
    refine awp_seq ?_
    refine ra rfl ?_
    obtain ⟨out8, hs, h⟩ := bind_inv h
    refine awp_nrm (fun (out8 : (List Int)) => (⟨[(4, .c (.arr 0 (Int.toNat k) 1))], [(0, [.seq 1 (List.map (D.int .u8) out8)])], 1, [], none⟩ : St)) (y := out8) ?_ ?_
    · replace h := hs
      refine awp_block ?_
      refine ra rfl ?_
      rcases ite_inv h with ⟨hc, h⟩ | ⟨hc, h⟩
      · refine ct rfl hc ?_
        refine rn 3 rfl ?_
        obtain ⟨j1, hk, h⟩ := bind_inv h
        refine po (eidx hk rfl rfl rfl rfl rfl) rfl rfl ?_
        obtain ⟨out4, hk, h⟩ := bind_inv h
        refine po (est (D.int .u8) (v := (IntKind.u8.wrap n2)) hk rfl rfl (fun _ => ⟨rfl, rfl, rfl⟩) rfl rfl rfl rfl) rfl rfl ?_
        refine awpO_nil ?_
        refine cn rfl ?_
        refine en rfl ?_
        cases h
        exact .ok rfl
      · refine cf rfl hc ?_
        refine ra rfl ?_
        rcases ite_inv h with ⟨hc, h⟩ | ⟨hc, h⟩
        · refine ct rfl hc ?_
          refine rn 4 rfl ?_
          obtain ⟨j2, hk, h⟩ := bind_inv h
          refine po (eidx hk rfl rfl rfl rfl rfl) rfl rfl ?_
          obtain ⟨out5, hk, h⟩ := bind_inv h
          refine po (est (D.int .u8) (v := (IntKind.u8.wrap (w64 (192 + n2)))) hk rfl rfl (fun _ => ⟨rfl, rfl, rfl⟩) rfl rfl rfl rfl) rfl rfl ?_
          refine awpO_nil ?_
          refine cn rfl ?_
          refine cn rfl ?_
          refine en rfl ?_
          cases h
          exact .ok rfl
        · refine cf rfl hc ?_
          refine ra rfl ?_
          rcases ite_inv h with ⟨hc, h⟩ | ⟨hc, h⟩
          · refine ct rfl hc ?_
            refine rn 4 rfl ?_
            obtain ⟨j3, hk, h⟩ := bind_inv h
            refine po (eidx hk rfl rfl rfl rfl rfl) rfl rfl ?_
            obtain ⟨out6, hk, h⟩ := bind_inv h
            refine po (est (D.int .u8) (v := (IntKind.u8.wrap (w64 (224 + n2)))) hk rfl rfl (fun _ => ⟨rfl, rfl, rfl⟩) rfl rfl rfl rfl) rfl rfl ?_
            refine awpO_nil ?_
            refine cn rfl ?_
            refine cn rfl ?_
            refine cn rfl ?_
            refine en rfl ?_
            cases h
            exact .ok rfl
          · refine cf rfl hc ?_
            refine rn 4 rfl ?_
            obtain ⟨j4, hk, h⟩ := bind_inv h
            refine po (eidx hk rfl rfl rfl rfl rfl) rfl rfl ?_
            obtain ⟨out7, hk, h⟩ := bind_inv h
            refine po (est (D.int .u8) (v := (IntKind.u8.wrap (w64 (240 + n2)))) hk rfl rfl (fun _ => ⟨rfl, rfl, rfl⟩) rfl rfl rfl rfl) rfl rfl ?_
            refine awpO_nil ?_
            refine cn rfl ?_
            refine cn rfl ?_
            refine cn rfl ?_
            refine en rfl ?_
            cases h
            exact .ok rfl
    · refine seqQ.normal ?_
      obtain ⟨out9, hkF0, h⟩ := bind_inv h
      refine awp_seq ?_
      refine rnF 2 (tm0 := [(4, .c (.own 1 (List.map (D.int .u8) out9))), (4, .c (.arr 0 (Int.toNat k) 1))]) (hp0 := []) (frz_c (t := 4) (frzT_arr (D.int .u8) hkF0 rfl rfl rfl rfl) (frz_noF rfl)) rfl ?_
      refine rz ?_
      refine awp_ret ?_
      cases h
      exact .ret rfl rfl
theorem p_triglyphref03_Text_l0_ok : ∀ (a : ((List Int)) × Int × (List Cell)) (res : (List Cell)), p_triglyphref03_Text_l0 a = some res → (match a with | (l, i, out1) => awpL X 13 (codeAt [1, 1, 0, 1, 0, 0] (bodyOf Tryd.f13)) (cleanAt (X.H 13 3) 2) (exitQ 0 (X.H 13 1000000) 2 (NrmQ (fun (out11 : (List Cell)) => (⟨[(0, .d (.list 1 (List.map (D.int .i64) l))), (2, .c (.ptr 0 0)), (3, .c (.ptr 1 0))], [(1, [.own 1 (List.map (D.int .i64) []), .own 3 (List.map encCell out11)]), (0, [.own 1 (List.map (D.int .i64) []), .own 3 (List.map encCell [])])], 2, [], none⟩ : St)) res)) ⟨[(0, .d (.list 1 (List.map (D.int .i64) l))), (2, .c (.ptr 0 0)), (3, .c (.ptr 1 0)), (4, .d (.int .i64 i))], [(1, [.own 1 (List.map (D.int .i64) []), .own 3 (List.map encCell out1)]), (0, [.own 1 (List.map (D.int .i64) []), .own 3 (List.map encCell [])])], 2, [], none⟩) := by
  refine p_triglyphref03_Text_l0.partial_correctness _ ?_
  rintro p_triglyphref03_Text_l0' ih ⟨l, i, out1⟩ res h
  refine lg rfl ?_
  refine awp_seq ?_
  refine awp_seq ?_
  refine rn 2 rfl ?_
  refine po (ellen rfl rfl rfl rfl rfl rfl rfl) rfl rfl ?_
  refine on 1 rfl ?_
  refine rz ?_
  rcases ite_inv h with ⟨hc, h⟩ | ⟨hc, h⟩
  · refine ct rfl hc ?_
    refine awp_skip ?_
    refine cn rfl ?_
    refine seqQ.normal ?_
    refine awp_seq ?_
    refine awp_block ?_
    refine drn (m := 13) 4 rfl rfl ?_
    obtain ⟨y, hk, h⟩ := bind_inv h
    refine pd (elget (D.int .i64) (fun _ => rfl) hk rfl rfl rfl rfl rfl) rfl rfl rfl rfl rfl ?_
    refine don 3 rfl ?_
    obtain ⟨l1, hk, h⟩ := bind_inv h
    refine pd (eappc hk rfl rfl rfl rfl rfl rfl rfl rfl rfl rfl rfl rfl rfl rfl ) rfl rfl rfl rfl rfl ?_
    refine don 2 rfl ?_
    refine dz' (by kernel_rfl) ?_
    refine en rfl ?_
    refine seqQ.normal ?_
    refine rn 3 rfl ?_
    refine awpO_nil ?_
    refine loopQ.normal ?_
    exact awpL_at rfl rfl (ih _ _ h)
  · refine cf rfl hc ?_
    refine awp_exit ?_
    refine condQ.exit ?_
    refine seqQ.exit ?_
    refine loopQ.exit ?_
    refine eh rfl ?_
    cases h
    exact .ok rfl
theorem p_triglyphref03_Text_ok {l : (List Int)} {r : Arr} (h : p_triglyphref03_Text l = some r) : aval X 13 [.d (.list 1 (List.map (D.int .i64) l))] [] (CRes.ret (.d (encArr r)) []) := by
  unfold p_triglyphref03_Text at h
  refine aval_start (tm := [(0, .d (.list 1 (List.map (D.int .i64) l)))]) (hp := []) (n := 0) rfl Tryd.func13 rfl rfl rfl rfl rfl rfl ?_
  refine ra (nid' := 1) rfl ?_
  refine ra (nid' := 2) rfl ?_
  refine awp_seq ?_
  refine ra rfl ?_
  obtain ⟨out11, hs, h⟩ := bind_inv h
  refine awp_nrm (fun (out11 : (List Cell)) => (⟨[(0, .d (.list 1 (List.map (D.int .i64) l))), (2, .c (.ptr 0 0)), (3, .c (.ptr 1 0))], [(1, [.own 1 (List.map (D.int .i64) []), .own 3 (List.map encCell out11)]), (0, [.own 1 (List.map (D.int .i64) []), .own 3 (List.map encCell [])])], 2, [], none⟩ : St)) (y := out11) ?_ ?_
  · replace h := hs
    refine awp_block ?_
    refine awp_loop ?_
    exact awpL_at rfl rfl (p_triglyphref03_Text_l0_ok _ _ h)
  · refine seqQ.normal ?_
    refine awp_seq ?_
    refine awp_seq ?_
    refine rn 1 rfl ?_
    refine po (ellen rfl rfl rfl rfl rfl rfl rfl) rfl rfl ?_
    refine on 1 rfl ?_
    refine rz ?_
    obtain ⟨out0, hs, h⟩ := bind_inv h
    refine awp_nrm (fun (out0 : (List Int)) => (⟨[(2, .c (.ptr 0 0)), (3, .c (.ptr 1 0))], [(1, [.own 1 (List.map (D.int .i64) out0), .own 3 (List.map encCell out11)]), (0, [.own 1 (List.map (D.int .i64) []), .own 3 (List.map encCell [])])], 2, [], none⟩ : St)) (y := out0) ?_ ?_
    · replace h := hs
      rcases ite_inv h with ⟨hc, h⟩ | ⟨hc, h⟩
      · refine ct rfl hc ?_
        refine rn 1 rfl ?_
        refine po (ellen rfl rfl rfl rfl rfl rfl rfl) rfl rfl ?_
        refine on 3 rfl ?_
        refine awpO_nil ?_
        refine cn rfl ?_
        cases h
        exact .ok rfl
      · refine cf rfl hc ?_
        refine awp_skip ?_
        refine cn rfl ?_
        cases h
        exact .ok rfl
    · refine seqQ.normal ?_
      refine ra rfl ?_
      refine awp_ret ?_
      cases h
      exact .ret rfl rfl
theorem p_triglyphlaw13_JlexTexts_l0_ok : ∀ (a : ((List Int)) × (List Int) × Int) (res : Except (Bool) ((List Int))), p_triglyphlaw13_JlexTexts_l0 a = some res → (match a with | (l, b, i) => awpL X 6 (codeAt [1, 1, 1, 0, 1, 0, 0] (bodyOf Tryd.f6)) (cleanAt (X.H 6 5) 0) (exitQ 0 (X.H 6 1000000) 0 (SubQ X Tryd.f6 0 (fun (r : Bool) => (CRes.ret (.d (.bool r)) [])) (fun (b4 : (List Int)) => (⟨[(0, .d (.list 1 (List.map (D.int .i64) l))), (3, .c (.own 1 (List.map (D.int .u8) b4)))], [], 0, [], none⟩ : St)) res)) ⟨[(0, .d (.list 1 (List.map (D.int .i64) l))), (3, .c (.own 1 (List.map (D.int .u8) b))), (4, .d (.int .i64 i))], [], 0, [], none⟩) := by
  refine p_triglyphlaw13_JlexTexts_l0.partial_correctness _ ?_
  rintro p_triglyphlaw13_JlexTexts_l0' ih ⟨l, b, i⟩ res h
  refine lg rfl ?_
  refine awp_seq ?_
  refine awp_seq ?_
  refine rn 2 rfl ?_
  refine po (ellen rfl rfl rfl rfl rfl rfl rfl) rfl rfl ?_
  refine on 1 rfl ?_
  refine rz ?_
  rcases ite_inv h with ⟨hc, h⟩ | ⟨hc, h⟩
  · refine ct rfl hc ?_
    refine awp_skip ?_
    refine cn rfl ?_
    refine seqQ.normal ?_
    refine awp_seq ?_
    refine awp_block ?_
    refine awp_seq ?_
    refine awp_seq ?_
    refine rn 2 rfl ?_
    obtain ⟨y, hk, h⟩ := bind_inv h
    refine po (elget (D.int .i64) (fun _ => rfl) hk rfl rfl rfl rfl rfl) rfl rfl ?_
    refine on 1 rfl ?_
    obtain ⟨x1, hk, h⟩ := bind_inv h
    refine po (ecall (p_triglyphref02_Good_ok hk) rfl rfl rfl rfl rfl rfl rfl rfl rfl) rfl rfl ?_
    refine on 2 rfl ?_
    rcases ite_inv h with ⟨hc, h⟩ | ⟨hc, h⟩
    · refine gt rfl rfl rfl rfl hc rfl ?_
      refine on 13 rfl ?_
      refine rz ?_
      refine ct rfl rfl ?_
      refine awp_seq ?_
      refine rn 0 rfl ?_
      obtain ⟨x2, hk, h⟩ := bind_inv h
      refine po (ecall (p_triglyphlaw13_works_ok hk) rfl rfl rfl rfl rfl rfl rfl rfl rfl) rfl rfl ?_
      refine on 1 rfl ?_
      refine rz ?_
      refine awp_ret ?_
      refine condQ.ret ?_
      refine seqQ.ret ?_
      refine exitQ.ret ?_
      refine seqQ.ret ?_
      refine loopQ.ret ?_
      refine exitQ.ret ?_
      cases h
      exact .err rfl (.ret rfl rfl)
    · refine gf rfl rfl rfl rfl hc rfl ?_
      refine on 2 rfl ?_
      obtain ⟨y1, hk, h⟩ := bind_inv h
      refine po (elget (D.int .i64) (fun _ => rfl) hk rfl rfl rfl rfl rfl) rfl rfl ?_
      refine on 4 rfl ?_
      rcases ite_inv h with ⟨hc, h⟩ | ⟨hc, h⟩
      · refine gt rfl rfl rfl rfl hc rfl ?_
        refine on 6 rfl ?_
        refine rz ?_
        refine ct rfl rfl ?_
        refine awp_seq ?_
        refine rn 0 rfl ?_
        obtain ⟨x3, hk, h⟩ := bind_inv h
        refine po (ecall (p_triglyphlaw13_works_ok hk) rfl rfl rfl rfl rfl rfl rfl rfl rfl) rfl rfl ?_
        refine on 1 rfl ?_
        refine rz ?_
        refine awp_ret ?_
        refine condQ.ret ?_
        refine seqQ.ret ?_
        refine exitQ.ret ?_
        refine seqQ.ret ?_
        refine loopQ.ret ?_
        refine exitQ.ret ?_
        cases h
        exact .err rfl (.ret rfl rfl)
      · refine gf rfl rfl rfl rfl hc rfl ?_
        refine on 2 rfl ?_
        obtain ⟨y2, hk, h⟩ := bind_inv h
        refine po (elget (D.int .i64) (fun _ => rfl) hk rfl rfl rfl rfl rfl) rfl rfl ?_
        refine on 3 rfl ?_
        refine rz ?_
        rcases ite_inv h with ⟨hc, h⟩ | ⟨hc, h⟩
        · refine ct rfl hc ?_
          refine awp_seq ?_
          refine rn 0 rfl ?_
          obtain ⟨x4, hk, h⟩ := bind_inv h
          refine po (ecall (p_triglyphlaw13_works_ok hk) rfl rfl rfl rfl rfl rfl rfl rfl rfl) rfl rfl ?_
          refine on 1 rfl ?_
          refine rz ?_
          refine awp_ret ?_
          refine condQ.ret ?_
          refine seqQ.ret ?_
          refine exitQ.ret ?_
          refine seqQ.ret ?_
          refine loopQ.ret ?_
          refine exitQ.ret ?_
          cases h
          exact .err rfl (.ret rfl rfl)
        · refine cf rfl hc ?_
          refine awp_skip ?_
          refine cn rfl ?_
          refine seqQ.normal ?_
          refine awp_seq ?_
          refine awp_seq ?_
          refine rn 2 rfl ?_
          obtain ⟨y3, hk, h⟩ := bind_inv h
          refine po (elget (D.int .i64) (fun _ => rfl) hk rfl rfl rfl rfl rfl) rfl rfl ?_
          refine on 2 rfl ?_
          refine rz ?_
          obtain ⟨b2, hs, h⟩ := bind_inv h
          refine awp_nrm (fun (b2 : (List Int)) => (⟨[(0, .d (.list 1 (List.map (D.int .i64) l))), (3, .c (.own 1 (List.map (D.int .u8) b2))), (4, .d (.int .i64 i))], [], 0, [], none⟩ : St)) (y := b2) ?_ ?_
          · replace h := hs
            rcases ite_inv h with ⟨hc, h⟩ | ⟨hc, h⟩
            · refine ct rfl hc ?_
              refine rn 2 rfl ?_
              obtain ⟨b1, hk, h⟩ := bind_inv h
              refine po (eappv hk rfl rfl rfl rfl rfl rfl rfl rfl rfl rfl rfl rfl rfl ) rfl rfl ?_
              refine on 1 rfl ?_
              refine awpO_nil ?_
              refine cn rfl ?_
              cases h
              exact .ok rfl
            · refine cf rfl hc ?_
              refine awp_skip ?_
              refine cn rfl ?_
              cases h
              exact .ok rfl
          · refine seqQ.normal ?_
            refine rn 3 rfl ?_
            obtain ⟨y4, hk, h⟩ := bind_inv h
            refine po (elget (D.int .i64) (fun _ => rfl) hk rfl rfl rfl rfl rfl) rfl rfl ?_
            refine on 1 rfl ?_
            obtain ⟨x5, hk, h⟩ := bind_inv h
            refine po (ecall (p_triglyphref02_Put_ok hk) rfl rfl rfl rfl rfl rfl rfl rfl rfl) rfl rfl ?_
            obtain ⟨b3, hk, h⟩ := bind_inv h
            refine po (eappv hk rfl rfl rfl rfl rfl rfl rfl rfl rfl rfl rfl rfl rfl ) rfl rfl ?_
            refine on 1 rfl ?_
            refine awpO_nil ?_
            refine en rfl ?_
            refine seqQ.normal ?_
            refine rn 3 rfl ?_
            refine awpO_nil ?_
            refine loopQ.normal ?_
            exact awpL_at rfl rfl (ih _ _ h)
  · refine cf rfl hc ?_
    refine awp_exit ?_
    refine condQ.exit ?_
    refine seqQ.exit ?_
    refine loopQ.exit ?_
    refine eh rfl ?_
    cases h
    exact .ok rfl
theorem p_triglyphlaw13_JlexTexts_ok {l : (List Int)} {r : Bool} (h : p_triglyphlaw13_JlexTexts l = some r) : aval X 6 [.d (.list 1 (List.map (D.int .i64) l))] [] (CRes.ret (.d (.bool r)) []) := by
  unfold p_triglyphlaw13_JlexTexts at h
  refine aval_start (tm := [(0, .d (.list 1 (List.map (D.int .i64) l)))]) (hp := []) (n := 0) rfl Tryd.func6 rfl rfl rfl rfl rfl rfl ?_
  refine ra rfl ?_
  refine awp_seq ?_
  refine awp_seq ?_
  refine rn 1 rfl ?_
  refine po (ellen rfl rfl rfl rfl rfl rfl rfl) rfl rfl ?_
  refine on 1 rfl ?_
  refine rz ?_
  rcases ite_inv h with ⟨hc, h⟩ | ⟨hc, h⟩
  · refine ct rfl hc ?_
    refine awp_seq ?_
    refine rn 0 rfl ?_
    obtain ⟨x, hk, h⟩ := bind_inv h
    refine po (ecall (p_triglyphlaw13_works_ok hk) rfl rfl rfl rfl rfl rfl rfl rfl rfl) rfl rfl ?_
    refine on 1 rfl ?_
    refine rz ?_
    refine awp_ret ?_
    refine condQ.ret ?_
    refine seqQ.ret ?_
    cases h
    exact .ret rfl rfl
  · refine cf rfl hc ?_
    refine awp_skip ?_
    refine cn rfl ?_
    refine seqQ.normal ?_
    refine ra rfl ?_
    refine awp_seq ?_
    refine ra rfl ?_
    obtain ⟨res, hs, h⟩ := bind_inv h
    refine awp_sub Tryd.f6 0 (fun (r : Bool) => (CRes.ret (.d (.bool r)) [])) (fun (b4 : (List Int)) => (⟨[(0, .d (.list 1 (List.map (D.int .i64) l))), (3, .c (.own 1 (List.map (D.int .u8) b4)))], [], 0, [], none⟩ : St)) (res := res) ?_ (fun y hy => ?_) (fun r x s' hr hx he => ?_)
    · replace h := hs
      refine awp_block ?_
      refine awp_loop ?_
      exact awpL_at rfl rfl (p_triglyphlaw13_JlexTexts_l0_ok _ _ h)
    · subst hy
      obtain b4 := y
      refine seqQ.normal ?_
      refine awp_seq ?_
      refine rn 1 rfl ?_
      refine po (ebstr rfl rfl rfl rfl rfl rfl) rfl rfl ?_
      obtain ⟨s, hk, h⟩ := bind_inv h
      refine po (escat hk rfl rfl rfl) rfl rfl ?_
      obtain ⟨s1, hk, h⟩ := bind_inv h
      refine po (escat hk rfl rfl rfl) rfl rfl ?_
      obtain ⟨⟨m, x6⟩, hk, h⟩ := bind_inv h
      refine po (ecall (p_jlex_Lex_ok hk) rfl rfl rfl rfl rfl rfl rfl rfl rfl) rfl rfl ?_
      refine on (nid' := 1) 6 rfl ?_
      refine rz ?_
      refine awp_seq ?_
      refine drn (m := 29) 4 rfl rfl ?_
      rcases ite_inv h with ⟨hc, h⟩ | ⟨hc, h⟩
      · refine dgt rfl rfl rfl rfl hc rfl ?_
        refine don 1 rfl ?_
        refine pd (ellen rfl rfl rfl rfl rfl rfl rfl) rfl rfl rfl rfl rfl ?_
        refine don 3 rfl ?_
        rcases ite_inv h with ⟨hc, h⟩ | ⟨hc, h⟩
        · refine dgt rfl rfl rfl rfl hc rfl ?_
          refine don 1 rfl ?_
          obtain ⟨y5, hk, h⟩ := bind_inv h
          refine pd (elget encToken (fun _ => rfl) hk rfl rfl rfl rfl rfl) rfl rfl rfl rfl rfl ?_
          refine don 5 rfl ?_
          rcases ite_inv h with ⟨hc, h⟩ | ⟨hc, h⟩
          · refine dgt rfl rfl rfl rfl hc rfl ?_
            refine don 1 rfl ?_
            obtain ⟨y6, hk, h⟩ := bind_inv h
            refine pd (elget encToken (fun _ => rfl) hk rfl rfl rfl rfl rfl) rfl rfl rfl rfl rfl ?_
            refine don 3 rfl ?_
            obtain ⟨x7, hk, h⟩ := bind_inv h
            refine pd (ecall (p_triglyphref03_Text_ok hk) rfl rfl rfl rfl rfl rfl rfl rfl rfl) rfl rfl rfl rfl rfl ?_
            obtain ⟨x8, hk, h⟩ := bind_inv h
            refine pd (ecall (p_triglyphref03_Same_ok hk) rfl rfl rfl rfl rfl rfl rfl rfl rfl) rfl rfl rfl rfl rfl ?_
            refine don 2 rfl ?_
            rcases ite_inv h with ⟨hc, h⟩ | ⟨hc, h⟩
            · refine dgt rfl rfl rfl rfl hc rfl ?_
              obtain ⟨x9, hk, h⟩ := bind_inv h
              refine pd (ecall (p_triglyphlaw13_works_ok hk) rfl rfl rfl rfl rfl rfl rfl rfl rfl) rfl rfl rfl rfl rfl ?_
              refine don 2 rfl ?_
              refine dz (by kernel_rfl) ?_
              refine awp_ret ?_
              cases h
              exact .ret rfl rfl
            · refine dgf rfl rfl rfl rfl hc rfl ?_
              refine don 3 rfl ?_
              refine dz (by kernel_rfl) ?_
              refine awp_ret ?_
              cases h
              exact .ret rfl rfl
          · refine dgf rfl rfl rfl rfl hc rfl ?_
            refine don 12 rfl ?_
            refine dz (by kernel_rfl) ?_
            refine awp_ret ?_
            cases h
            exact .ret rfl rfl
        · refine dgf rfl rfl rfl rfl hc rfl ?_
          refine don 19 rfl ?_
          refine dz (by kernel_rfl) ?_
          refine awp_ret ?_
          cases h
          exact .ret rfl rfl
      · refine dgf rfl rfl rfl rfl hc rfl ?_
        refine don 24 rfl ?_
        refine dz (by kernel_rfl) ?_
        refine awp_ret ?_
        cases h
        exact .ret rfl rfl
    · subst hr
      refine seqQ.out hx ?_
      cases h
      exact he
end Go.AM.Seat
