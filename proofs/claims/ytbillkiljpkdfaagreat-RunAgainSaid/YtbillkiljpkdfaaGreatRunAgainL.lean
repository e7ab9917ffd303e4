/- The law 'triglyph/triglyphlaw11.RunAgain' returns true at every input, and leaves what was there as it was. No condition. -/
import Derived.Test.YtbillkiljpkdfaaGreatRunAgainA6
import Derived.Test.YtbillkiljpkdfaaGreatRows
import Derived.WalkKit
import Derived.ProofKit
import Derived.OpenShut
import Derived.ShutString
import Derived.Carry
import Derived.SizedLaws
namespace Go.Proofs.YtbillkiljpkdfaaGreat
open Go.ChangeShapes Go.WideShapes Go.ChangeAt Go.RowKit
open Go.ChangeMaps (open_string shut_string)
set_option linter.unusedVariables false
theorem runAgain_calls (w : World) (a0 : AM.Seat.Env) (a1 : AM.Node) (a2 : Int) (a3 : Int) (v0 : Value) (r0 : AM.RepC (AM.colRo w) (fun _ => 0) w (.d (AM.Seat.encEnv a0)) v0) (v1 : Value) (r1 : AM.RepC (AM.colRo w) (fun _ => 0) w (.d (AM.encNode a1)) v1) (f1 : AM.Seat.fitN a1) (f0 : ∀ x ∈ a0.vals, AM.Seat.fitA x) : Calls Tryz.prog 8 #[v0, v1, .int .i64 a2, .int .i64 a3] w fun e w' => e = .returned (.bool true) ∧ Below w.heap.size w w' := by
  have hp : AM.Seat.p_triglyphlaw11_RunAgain a0 a1 a2 a3 = some true := AM.Seat.RunAgain_true (N := a0.names) (V := a0.vals) (fuel := a2) (cells := a3) f1 f0
  have ho := AM.Ok.ok hp
  have h := AM.Seat.call_ok ho
  refine AM.calls_true h (vs := [v0, v1, .int .i64 a2, .int .i64 a3]) (.cons r0 (.cons r1 (.cons (by simp only [AM.RepC, AM.Rep]) (.cons (by simp only [AM.RepC, AM.Rep]) .nil)))) ?_ (AM.Seat.no_glob w)
  intro c hc
  simp only [List.mem_cons, List.not_mem_nil, or_false] at hc
  rcases hc with rfl | rfl | rfl | rfl <;> rfl
theorem runAgain_own : ownKnob Tryz.prog.godebug = none := by kernel_rfl
set_option maxRecDepth 100000 in
theorem runAgain_lifted (os : Os) (started : os.Started) (H : Type) (enc : TypeId × Value → H) :
    ReturnsInHanded {} Tryz.checked os 8 .any (Rows.runAgainSpec.pre6 enc Tryz.prog Tryz.f8 Rows.runAgainRow.domain false) (Rows.runAgainSpec.post enc Tryz.prog Tryz.f8 false true false false) := by
  refine returnsInHanded_of_change_sized (C := Tryz.checked) runAgain_own started (by kernel_rfl) Tryz.func8
    (ChangeSpec.witness6 (enc := enc) (C := Tryz.checked) false ⟨#[], #[.agg #[.slice none 0 0, .slice none 0 0], .agg #[.int .i64 0, .int .i64 0, .string ByteArray.empty, .slice none 0 0, .slice none 0 0, .slice none 0 0, .int .i64 0], .int .i64 0, .int .i64 0], []⟩ 8 (by kernel_rfl) (by kernel_rfl) (by kernel_rfl) (by kernel_rfl)) ?_
  intro W base args ds gs before hval0 hW hcnd hsz0 _
  have hval : ∀ (j : Nat) t v, Tryz.f8.params[j]? = some t → args[j]? = some v → Value.okWide Tryz.prog W .any base t v := hval0
  have hW' := hW
  obtain ⟨p, q, hA0, hV, rfl, hfz, hnd⟩ := hW
  have hA : DataW.TrodAll enc Tryz.prog W 0 (fun _ => true) true Tryz.f8.params.toList args.toList ds p := hA0
  have hsz : (DataW.weightsEach Tryz.prog (Tryz.f8.params.toList ++ Rows.runAgainSpec.plain.varTypes Tryz.prog) (ds ++ gs)).all (· ≤ reachBytes) = true := hsz0
  rw [Tryz.params8] at hA hval hsz
  obtain ⟨v0, vs0, d0, ds0, p0, q0, hargs, rfl, rfl, h0, r0⟩ := trodAll_cons hA
  obtain ⟨v1, vs1, d1, ds1, p1, q1, rfl, rfl, rfl, h1, r1⟩ := trodAll_cons r0
  obtain ⟨v2, vs2, d2, ds2, p2, q2, rfl, rfl, rfl, h2, r2⟩ := trodAll_cons r1
  obtain ⟨v3, vs3, d3, ds3, p3, q3, rfl, rfl, rfl, h3, r3⟩ := trodAll_cons r2
  obtain ⟨rfl, rfl, rfl⟩ := trodAll_nil r3
  obtain rfl : args = #[v0, v1, v2, v3] := by cases args; simp_all
  obtain ⟨rfl, rfl⟩ := trodVars_none hV
  obtain ⟨a0, e0, f0⟩ := AM.Seat.open_env (okWide_struct Tryz.underlying25 (hval 0 25 v0 rfl rfl)) (AM.Seat.wts_of (j := 0) hsz rfl rfl) h0
  obtain ⟨a1, e1, f1⟩ := AM.Seat.open_node (okWide_struct Tryz.underlying32 (hval 1 32 v1 rfl rfl)) (AM.Seat.wts_of (j := 1) hsz rfl rfl) h1
  obtain ⟨a2, rfl, rfl, rfl, y2⟩ := open_int Tryz.underlying3 (hval 2 3 v2 rfl rfl) h2
  obtain ⟨a3, rfl, rfl, rfl, y3⟩ := open_int Tryz.underlying3 (hval 3 3 v3 rfl rfl) h3
  have l0 : ∀ x ∈ p0, x.block < W.heap.size := fun x hx => by simpa using hW'.lt x (by simp [hx])
  have l1 : ∀ x ∈ p1, x.block < W.heap.size := fun x hx => by simpa using hW'.lt x (by simp [hx])
  refine (runAgain_calls W a0 a1 a2 a3 v0 e0 v1 e1 f1 f0).mono fun e W' ⟨he, hb⟩ => ?_
  subst he
  exact ⟨_, rfl, _, _, _, [], _, [], hW', trodAll_mk1 (shut_bool Tryz.underlying4 _), (trodAll_cons_mk (Below.trod AM.Seat.laidOutB0 (by kernel_rfl) (of_decide_eq_true (by kernel_rfl)) h0 hb l0) (trodAll_cons_mk (Below.trod AM.Seat.laidOutB0 (by kernel_rfl) (of_decide_eq_true (by kernel_rfl)) h1 hb l1) (trodAll_cons_mk (shut_int Tryz.underlying3 y2) (trodAll_cons_mk (shut_int Tryz.underlying3 y3) trodAll_mk0)))), rfl, hb.frame _, fun h => by cases h⟩
/-- The law's row. -/
theorem runAgain_holds : Rows.RunAgainSaid :=
  OpenClaim.holds_of_wide 8 Tryz.f8 rfl rfl rfl rfl rfl rfl rfl ⟨rfl, rfl, rfl, rfl, rfl⟩ rfl rfl rfl rfl rfl (by kernel_rfl) Tryz.func8 (by kernel_rfl)
    (of_decide_eq_true (by kernel_rfl)) (by unfold Func.isWrapper; first | (rw [if_pos (by decide +kernel)]; kernel_rfl) | (rw [if_neg (by decide +kernel)]; exact ⟨rfl, rfl⟩))
    (fun os started H enc _ => runAgain_lifted os started H enc)
#print axioms runAgain_holds
end Go.Proofs.YtbillkiljpkdfaaGreat
