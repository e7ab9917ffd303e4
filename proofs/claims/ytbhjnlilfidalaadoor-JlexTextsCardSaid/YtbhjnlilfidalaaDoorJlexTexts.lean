/- The law 'triglyph/triglyphlaw13.JlexTexts' returns true at every input, and leaves what was there as it was. Conditions: the package variables that its row lists start as the program's text lays them. -/
import Derived.Test.YtbhjnlilfidalaaDoorA4
import Derived.Test.YtbhjnlilfidalaaDoorTie
import Derived.Test.YtbhjnlilfidalaaDoorCards
import Derived.WalkKit
import Derived.ProofKit
import Derived.OpenShut
import Derived.ShutString
import Derived.LaidMore
import Derived.Lay
import Derived.Carry
import Derived.SevenTiedAt
import Derived.Stop.Joined
namespace Go.Proofs.YtbhjnlilfidalaaDoor
open Go.ChangeShapes Go.WideShapes Go.ChangeAt Go.RowKit
open Go.ChangeMaps (open_string shut_string)
set_option linter.unusedVariables false
theorem Tryd.laidOutB0 : laidOutB Tryd.prog = true := by kernel_rfl
theorem jlexTexts_calls (v : Value) (xs : List Int) (w : World) (hv : AM.RepC (AM.colRo w) (fun _ => 0) w (.d (.list 1 (xs.map (AM.D.int .i64)))) v) (hg : AM.GlobW w) : Calls Tryd.prog 6 #[v] w fun e w' => e = .returned (.bool true) ∧ Below w.heap.size w w' := by
  have h := AM.Seat.call_ok (AM.Seat.p_triglyphlaw13_JlexTexts_ok (AM.Seat.jlexTexts xs))
  refine AM.calls_true h (vs := [v]) (.cons hv .nil) ?_ hg
  intro c hc
  simp only [List.mem_cons, List.not_mem_nil, or_false] at hc
  subst hc; rfl
theorem jlexTexts_own : ownKnob Tryd.prog.godebug = none := by kernel_rfl
set_option maxRecDepth 100000 in
theorem jlexTexts_lifted (os : Os) (started : os.Started) (H : Type) (enc : TypeId × Value → H) :
    ReturnsInHanded {} Tryd.checked os 6 .any (fun w args => (Rows.jlexTextsSpec.pre enc Tryd.prog Tryd.f6 [] false w args ∧ laidMetH Tryd.prog Rows.jlexTextsRow.laid w) ∧ sizedMet enc Tryd.prog Tryd.f6 (OpenSpec.ofChange Rows.jlexTextsSpec) false w args)
      (Rows.jlexTextsSpec.post enc Tryd.prog Tryd.f6 false true false false) := by
  refine returnsInHanded_of_change_and (C := Tryd.checked) (X := fun w _ => laidMetH Tryd.prog Rows.jlexTextsRow.laid w) (fun _ _ _ hh h => h.of_heap hh) jlexTexts_own started (by kernel_rfl) Tryd.func6
    (ChangeSpec.witness_shaped (enc := enc) (C := Tryd.checked) (os := os) (X := fun w _ => laidMetH Tryd.prog Rows.jlexTextsRow.laid w) false (World.laidAll Tryd.prog os Rows.jlexTextsRow.laid) #[.slice none 0 0] 8 (World.laidAll_os _ _ _)
      (World.shaped_of_ZipB (by kernel_rfl) (by kernel_rfl)) (by kernel_rfl) (by kernel_rfl) (by kernel_rfl)
      (by rw [MakeChecks.laidMetH_plain _ _ _ (by kernel_rfl)]; exact laidMet_laidAll _ (by kernel_rfl) (by kernel_rfl))) ?_
  intro W base args ds gs before hval0 hW _ _ hL _
  have hval : ∀ (j : Nat) t v, Tryd.f6.params[j]? = some t → args[j]? = some v → Value.okWide Tryd.prog W .any base t v := hval0
  have hW' := hW
  obtain ⟨p, q, hA0, hV, rfl, _, _⟩ := hW
  have hA : DataW.TrodAll enc Tryd.prog W 0 (fun _ => true) true Tryd.f6.params.toList args.toList ds p := hA0
  rw [Tryd.params6] at hA hval
  obtain ⟨v0, vs0, d0, ds0, p0, q0, hargs, rfl, rfl, h0, r0⟩ := trodAll_cons hA
  obtain ⟨rfl, rfl, rfl⟩ := trodAll_nil r0
  obtain rfl : args = #[v0] := by cases args; simp_all
  obtain ⟨rfl, rfl⟩ := trodVars_none hV
  have hlt : ∀ x ∈ p0, x.block < W.heap.size := fun x hx => by simpa using hW'.lt x (by simpa using hx)
  obtain ⟨xs, hrep, _, _⟩ := AM.rep_ints (k := .i64) Tryd.underlying39 Tryd.underlying2 (by kernel_rfl) (okWide_slice Tryd.underlying39 (hval 0 39 v0 rfl rfl)) h0
  refine (jlexTexts_calls v0 xs W hrep (AM.Seat.space_glob hL)).mono fun e W' ⟨he, hb⟩ => ?_
  subst he
  exact ⟨_, rfl, _, _, _, [], _, [], hW', trodAll_mk1 (shut_bool Tryd.underlying4 _), (trodAll_cons_mk (Below.trod Tryd.laidOutB0 (by kernel_rfl) (of_decide_eq_true (by kernel_rfl)) h0 hb hlt) trodAll_mk0), rfl, hb.frame _, fun h => by cases h⟩
theorem jlexTexts_over : Rows.JlexTextsSaid :=
  OpenClaim.holds_of_wide 6 Tryd.f6 rfl rfl rfl rfl rfl rfl rfl ⟨rfl, rfl, rfl, rfl, rfl⟩ rfl rfl rfl rfl rfl (by kernel_rfl) Tryd.func6 (by kernel_rfl)
    (of_decide_eq_true (by kernel_rfl)) (by unfold Func.isWrapper; first | (rw [if_pos (by decide +kernel)]; kernel_rfl) | (rw [if_neg (by decide +kernel)]; exact ⟨rfl, rfl⟩))
    (fun os started H enc _ => jlexTexts_lifted os started H enc)
/-- The law's tied card. -/
theorem jlexTexts_card : Rows.JlexTextsCardSaid :=
  Claim7.holds_tied_plain_at .later [] [.listed, .data] true (true, "329c34ed2ef949368cdc7b105bb59e5f2f3afeda524a1ba74d5ff2e1b9143191") false jlexTexts_over (fun _ h => by cases h) (by kernel_rfl) (fun _ h => by cases h) jlexTexts_row_tie rfl ⟨rfl, rfl⟩ (by kernel_rfl) rfl
    (fun f fn hf hfn => by
      obtain rfl : f = 6 := Option.some.inj ((show Tryd.prog.funcNamed "triglyph/triglyphlaw13.JlexTexts" = some 6 by kernel_rfl).symm.trans hf) |>.symm
      obtain rfl : fn = Tryd.f6 := (Option.some.inj (Tryd.func6.symm.trans hfn)).symm
      exact ⟨by kernel_rfl, fun j t ht => by
        rw [Tryd.params6] at ht
        have hm : t ∈ [39] := by simpa using Array.mem_of_getElem? ht
        have hall : ([39].all fun u => !Tryd.prog.wantsStandIn u) = true := by kernel_rfl
        exact (show Tryd.prog.wantsStandIn t = false by simpa using List.all_eq_true.1 hall t hm)⟩)
    (by kernel_rfl)
#print axioms jlexTexts_card
end Go.Proofs.YtbhjnlilfidalaaDoor
