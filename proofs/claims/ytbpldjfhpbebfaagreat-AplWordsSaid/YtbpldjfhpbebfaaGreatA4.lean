/- Part of a proof about the given program: the abstract machine, the printed functions, the plain laws. (AWR0, AWQ, AWN, AWFapl_Grammar, AWFtriglyphref15_APL, AWFtriglyphlaw17_AplWords) -/
import Derived.Test.YtbpldjfhpbebfaaGreatA3
import Derived.LaidSub
import Derived.MakeChecks
import Derived.KernelRfl
set_option linter.all false
set_option linter.unusedSectionVars false
set_option linter.unusedVariables false
set_option linter.unusedSimpArgs false

namespace Go.Proofs
open Go.Shelf
def Tryz.lays156_ren : Go.Shelf.Ren := ⟨fun | 156 => 36 | 165 => 65 | 166 => 66 | 169 => 67 | 240 => 103 | 241 => 104 | 276 => 124 | 277 => 125 | n => n, fun | 31 => 41 | 9 => 9 | 3 => 3 | 4 => 4 | 0 => 0 | 20 => 20 | 72 => 106 | 76 => 110 | 70 => 104 | 37 => 92 | 75 => 109 | 127 => 136 | 164 => 153 | 5 => 5 | 80 => 112 | n => n, fun | n => n⟩
theorem Tryz.lays156 : Go.Proofs.Lays.n156 Tryz.prog Tryz.lays156_ren := {
  mixed := by kernel_rfl
  f156 := Tryz.func36.trans (congrArg some (by kernel_rfl))
  f165 := Tryz.func65.trans (congrArg some (by kernel_rfl))
  f166 := Tryz.func66.trans (congrArg some (by kernel_rfl))
  f169 := Tryz.func67.trans (congrArg some (by kernel_rfl))
  f240 := Tryz.func103.trans (congrArg some (by kernel_rfl))
  f241 := Tryz.func104.trans (congrArg some (by kernel_rfl))
  f276 := Tryz.func124.trans (congrArg some (by kernel_rfl))
  f277 := Tryz.func125.trans (congrArg some (by kernel_rfl))
  t0 := Tryz.underlying0
  a0 := Tryz.isAgg0
  z0 := Tryz.sizeOf0
  v0 := Tryz.zeroValue0
  t3 := Tryz.underlying3
  a3 := Tryz.isAgg3
  z3 := Tryz.sizeOf3
  v3 := Tryz.zeroValue3
  t4 := Tryz.underlying4
  a4 := Tryz.isAgg4
  z4 := Tryz.sizeOf4
  v4 := Tryz.zeroValue4
  t9 := Tryz.underlying9
  a9 := Tryz.isAgg9
  z9 := Tryz.sizeOf9
  v9 := Tryz.zeroValue9
  t20 := Tryz.underlying20
  a20 := Tryz.isAgg20
  z20 := Tryz.sizeOf20
  v20 := Tryz.zeroValue20
  t31 := Tryz.underlying41
  a31 := Tryz.isAgg41
  z31 := Tryz.sizeOf41
  v31 := Tryz.zeroValue41
  t37 := Tryz.underlying92
  a37 := Tryz.isAgg92
  z37 := Tryz.sizeOf92
  v37 := Tryz.zeroValue92
  t70 := Tryz.underlying104
  a70 := Tryz.isAgg104
  z70 := Tryz.sizeOf104
  v70 := Tryz.zeroValue104
  t72 := Tryz.underlying106
  a72 := Tryz.isAgg106
  z72 := Tryz.sizeOf106
  v72 := Tryz.zeroValue106
  t75 := Tryz.underlying109
  a75 := Tryz.isAgg109
  z75 := Tryz.sizeOf109
  v75 := Tryz.zeroValue109
  t76 := Tryz.underlying110
  a76 := Tryz.isAgg110
  z76 := Tryz.sizeOf110
  v76 := Tryz.zeroValue110
  t127 := Tryz.underlying136
  a127 := Tryz.isAgg136
  z127 := Tryz.sizeOf136
  v127 := Tryz.zeroValue136
  t164 := Tryz.underlying153
  a164 := Tryz.isAgg153
  z164 := Tryz.sizeOf153
  v164 := Tryz.zeroValue153 }
theorem Tryz.Builder_Extra_156 : Builder.Extra Tryz.prog Tryz.lays156_ren := {
  sizeBuilder := by kernel_rfl
  liesBuilder := by kernel_rfl
  t5 := Tryz.underlying5
  a5 := Tryz.isAgg5
  z5 := Tryz.sizeOf5
  v5 := Tryz.zeroValue5
  infoByte := by kernel_rfl
  cellsByte := by kernel_rfl
  sizeByte := by kernel_rfl
  neB5 := by decide }
open Go.RowKit in
def Tryz.lays137_ren : Go.Shelf.Ren := ⟨fun | 137 => 83 | 217 => 114 | 266 => 129 | n => n, fun | 9 => 9 | 5 => 5 | 3 => 3 | n => n, fun | n => n⟩
theorem Tryz.lays137 : Go.Proofs.Lays.n137 Tryz.prog Tryz.lays137_ren := {
  mixed := by kernel_rfl
  f137 := Tryz.func83.trans (congrArg some (by kernel_rfl))
  f217 := Tryz.func114.trans (congrArg some (by kernel_rfl))
  f266 := Tryz.func129.trans (congrArg some (by kernel_rfl))
  t3 := Tryz.underlying3
  a3 := Tryz.isAgg3
  z3 := Tryz.sizeOf3
  v3 := Tryz.zeroValue3
  t5 := Tryz.underlying5
  a5 := Tryz.isAgg5
  z5 := Tryz.sizeOf5
  v5 := Tryz.zeroValue5
  t9 := Tryz.underlying9
  a9 := Tryz.isAgg9
  z9 := Tryz.sizeOf9
  v9 := Tryz.zeroValue9 }
open Go.RowKit in
def Tryz.lays150_ren : Go.Shelf.Ren := ⟨fun | 150 => 89 | 153 => 115 | 152 => 130 | 226 => 131 | 227 => 132 | 228 => 133 | 137 => 83 | 119 => 139 | 224 => 140 | 225 => 141 | 217 => 114 | 266 => 129 | n => n, fun | 9 => 9 | 4 => 4 | 3 => 3 | 5 => 5 | 21 => 21 | 117 => 159 | 116 => 158 | 0 => 0 | 46 => 119 | 124 => 165 | n => n, fun | n => n⟩
theorem Tryz.lays150 : Go.Proofs.Lays.n150 Tryz.prog Tryz.lays150_ren := {
  mixed := by kernel_rfl
  f119 := Tryz.func139.trans (congrArg some (by kernel_rfl))
  f137 := Tryz.func83.trans (congrArg some (by kernel_rfl))
  f150 := Tryz.func89.trans (congrArg some (by kernel_rfl))
  f152 := Tryz.func130.trans (congrArg some (by kernel_rfl))
  f153 := Tryz.func115.trans (congrArg some (by kernel_rfl))
  f217 := Tryz.func114.trans (congrArg some (by kernel_rfl))
  f224 := Tryz.func140.trans (congrArg some (by kernel_rfl))
  f225 := Tryz.func141.trans (congrArg some (by kernel_rfl))
  f226 := Tryz.func131.trans (congrArg some (by kernel_rfl))
  f227 := Tryz.func132.trans (congrArg some (by kernel_rfl))
  f228 := Tryz.func133.trans (congrArg some (by kernel_rfl))
  f266 := Tryz.func129.trans (congrArg some (by kernel_rfl))
  t0 := Tryz.underlying0
  a0 := Tryz.isAgg0
  z0 := Tryz.sizeOf0
  v0 := Tryz.zeroValue0
  t3 := Tryz.underlying3
  a3 := Tryz.isAgg3
  z3 := Tryz.sizeOf3
  v3 := Tryz.zeroValue3
  t4 := Tryz.underlying4
  a4 := Tryz.isAgg4
  z4 := Tryz.sizeOf4
  v4 := Tryz.zeroValue4
  t5 := Tryz.underlying5
  a5 := Tryz.isAgg5
  z5 := Tryz.sizeOf5
  v5 := Tryz.zeroValue5
  t9 := Tryz.underlying9
  a9 := Tryz.isAgg9
  z9 := Tryz.sizeOf9
  v9 := Tryz.zeroValue9
  t21 := Tryz.underlying21
  a21 := Tryz.isAgg21
  z21 := Tryz.sizeOf21
  v21 := Tryz.zeroValue21
  t46 := Tryz.underlying119
  a46 := Tryz.isAgg119
  z46 := Tryz.sizeOf119
  v46 := Tryz.zeroValue119
  t116 := Tryz.underlying158
  a116 := Tryz.isAgg158
  z116 := Tryz.sizeOf158
  t117 := Tryz.underlying159
  a117 := Tryz.isAgg159
  z117 := Tryz.sizeOf159
  v117 := Tryz.zeroValue159
  t124 := Tryz.underlying165
  a124 := Tryz.isAgg165
  z124 := Tryz.sizeOf165
  v124 := Tryz.zeroValue165 }
def Tryz.lays144_ren : Go.Shelf.Ren := ⟨fun | 144 => 113 | 143 => 128 | 219 => 138 | 217 => 114 | 225 => 141 | 224 => 140 | 267 => 145 | 266 => 129 | 314 => 149 | n => n, fun | 9 => 9 | 4 => 4 | 3 => 3 | 5 => 5 | 46 => 119 | 146 => 173 | 51 => 172 | n => n, fun | 1 => 0 | n => n⟩
theorem Tryz.lays144 : Go.Proofs.Lays.n144 Tryz.prog Tryz.lays144_ren := {
  mixed := by kernel_rfl
  f143 := Tryz.func128.trans (congrArg some (by kernel_rfl))
  f144 := Tryz.func113.trans (congrArg some (by kernel_rfl))
  f217 := Tryz.func114.trans (congrArg some (by kernel_rfl))
  f219 := Tryz.func138.trans (congrArg some (by kernel_rfl))
  f224 := Tryz.func140.trans (congrArg some (by kernel_rfl))
  f225 := Tryz.func141.trans (congrArg some (by kernel_rfl))
  f266 := Tryz.func129.trans (congrArg some (by kernel_rfl))
  f267 := Tryz.func145.trans (congrArg some (by kernel_rfl))
  f314 := Tryz.func149.trans (congrArg some (by kernel_rfl))
  t3 := Tryz.underlying3
  a3 := Tryz.isAgg3
  z3 := Tryz.sizeOf3
  v3 := Tryz.zeroValue3
  t4 := Tryz.underlying4
  a4 := Tryz.isAgg4
  z4 := Tryz.sizeOf4
  v4 := Tryz.zeroValue4
  t5 := Tryz.underlying5
  a5 := Tryz.isAgg5
  z5 := Tryz.sizeOf5
  v5 := Tryz.zeroValue5
  t9 := Tryz.underlying9
  a9 := Tryz.isAgg9
  z9 := Tryz.sizeOf9
  v9 := Tryz.zeroValue9
  t46 := Tryz.underlying119
  a46 := Tryz.isAgg119
  z46 := Tryz.sizeOf119
  v46 := Tryz.zeroValue119
  t51 := Tryz.underlying172
  a51 := Tryz.isAgg172
  z51 := Tryz.sizeOf172
  v51 := Tryz.zeroValue172
  t146 := Tryz.underlying173
  a146 := Tryz.isAgg173
  z146 := Tryz.sizeOf173
  v146 := Tryz.zeroValue173
  g1 := by kernel_rfl }
end Go.Proofs
namespace Go.AM.Seat
open Go Go.AM Go.Proofs
set_option maxRecDepth 100000
theorem progOK : ProgOK P where
  func f fn h := by
    have hall : (P.funcs.toList.all funcOK) = true := by kernel_rfl
    exact List.all_eq_true.1 hall fn (by rw [← Array.getElem?_toList] at h; exact List.mem_of_getElem? h)
  mixed := Tryz.lays156.mixed
theorem callee_join : Callee P 36 := ⟨_, Tryz.func36, by kernel_rfl⟩
theorem callee_index : Callee P 83 := ⟨_, Tryz.func83, by kernel_rfl⟩
theorem callee_any : Callee P 89 := ⟨_, Tryz.func89, by kernel_rfl⟩
theorem callee_fixed : Callee P 79 := ⟨_, Tryz.func79, by kernel_rfl⟩
theorem callee_contains : Callee P 113 := ⟨_, Tryz.func113, by kernel_rfl⟩
section
variable [Globs] {m : Int} (hm : (Tryz.lays144_ren.g 1, [Value.int .i64 m]) ∈ Globs.tab)
include hm
theorem externX_ok : ∀ f g, SeatX.E f = some g → ∀ args lh r, g f args lh = some r → Callee P f ∧ CallOK P f args lh r := by
  intro f g hf args lh r h
  unfold SeatX.E at hf
  split at hf
  · rename_i e
    subst e
    simp only [Option.some.injEq] at hf
    subst hf
    exact ⟨callee_contains, contains_ok (ρ := Tryz.lays144_ren) Tryz.lays144 hm h⟩
  · cases hf
theorem extern0_ok : ∀ f g, E0 f = some g → ∀ args lh r, g f args lh = some r → Callee P f ∧ CallOK P f args lh r := by
  intro f g hf args lh r h
  unfold E0 at hf
  split at hf
  · rename_i e
    subst e
    simp only [Option.some.injEq] at hf
    subst hf
    exact ⟨callee_join, join_ok (ρ := Tryz.lays156_ren) Tryz.lays156 Tryz.Builder_Extra_156 h⟩
  · split at hf
    · rename_i e
      subst e
      simp only [Option.some.injEq] at hf
      subst hf
      exact ⟨callee_index, indexByte_ok (ρ := Tryz.lays137_ren) Tryz.lays137 h⟩
    · split at hf
      · rename_i e
        subst e
        simp only [Option.some.injEq] at hf
        subst hf
        exact ⟨callee_any, containsAny_ok (ρ := Tryz.lays150_ren) Tryz.lays150 (by kernel_rfl) h⟩
      · split at hf
        · rename_i e
          subst e
          simp only [Option.some.injEq] at hf
          subst hf
          exact ⟨callee_fixed, SeatX.fixed_call (fun k => acall_sound progOK (externX_ok hm) SeatX.H k) progOK h⟩
        · cases hf
omit hm in
theorem works_run : acall P E0 H0 200 13 [] [] = some (.ret (.d (.bool true)) []) := by kernel_rfl
theorem extern_ok : ∀ f g, E f = some g → ∀ args lh r, g f args lh = some r → Callee P f ∧ CallOK P f args lh r := by
  intro f g hf args lh r h
  unfold E at hf
  split at hf
  · rename_i e
    subst e
    simp only [Option.some.injEq] at hf
    subst hf
    unfold worksCall at h
    split at h
    · simp only [Option.some.injEq] at h
      subst h
      exact acall_sound progOK (extern0_ok hm) H0 200 13 [] [] _ works_run
    · cases h
  · exact extern0_ok hm f g hf args lh r h
theorem call_ok {f : Nat} {args : List C} {lh : List (List C)} {r : CRes} (h : aval X f args lh r) : CallOK P f args lh r := by
  obtain ⟨k, hk⟩ := h
  exact (acall_sound progOK (extern_ok hm) H k f args lh r (hk k (Nat.le_refl k))).2
end
end Go.AM.Seat
namespace Go.AM.Seat
open Go Go.AM Go.Proofs
set_option maxRecDepth 100000
set_option maxHeartbeats 4000000
set_option linter.unusedVariables false
def Le {α : Type} (x y : Option α) : Prop := ∀ r, x = some r → y = some r
theorem Le.refl {α : Type} (x : Option α) : Le x x := fun _ h => h
theorem Le.none {α : Type} {x : Option α} : Le Option.none x := fun _ h => by simp at h
theorem Le.ite {α : Type} {c : Bool} {a b a' b' : Option α} (h : Le a a') (h' : Le b b') : Le (if c = true then a else b) (if c = true then a' else b') := by
  cases c
  · exact h'
  · exact h
theorem Le.bind {α β : Type} {x y : Option α} {f g : α → Option β} (h : Le x y) (h' : ∀ a, Le (f a) (g a)) : Le (x >>= f) (y >>= g) := by
  intro r hr
  cases x with
  | none => simp at hr
  | some v => rw [h v rfl]; exact h' v r hr
def q_apl_Grammar (k_ : Nat)  : Option (Grammar) :=
  some (Grammar.mk [[43], [45], [195, 151], [124], [126], [226, 141, 179], [226, 141, 180], [226, 137, 162], [44], [226, 138, 150], [226, 140, 189], [226, 141, 137], [226, 141, 139], [226, 141, 146], [226, 136, 170], [226, 138, 130], [226, 138, 131], [195, 183], [226, 140, 138], [226, 140, 136], [61], [226, 137, 160], [60], [62], [226, 137, 164], [226, 137, 165], [226, 134, 145], [226, 134, 147], [226, 141, 170], [226, 136, 138], [226, 140, 183]] [[47], [226, 140, 191], [92], [226, 141, 128], [226, 141, 168]] [[47], [226, 140, 191]] [226, 136, 152, 46] [226, 141, 163] [123] [125] [226, 141, 186] [226, 141, 181] [194, 175] [39] false false true)
def q_triglyphref15_APL (k_ : Nat)  : Option (Grammar) :=
  some (Grammar.mk [[43], [45], [195, 151], [124], [126], [226, 141, 179], [226, 141, 180], [226, 137, 162], [44], [226, 138, 150], [226, 140, 189], [226, 141, 137], [226, 141, 139], [226, 141, 146], [226, 136, 170], [226, 138, 130], [226, 138, 131], [195, 183], [226, 140, 138], [226, 140, 136], [61], [226, 137, 160], [60], [62], [226, 137, 164], [226, 137, 165], [226, 134, 145], [226, 134, 147], [226, 141, 170], [226, 136, 138], [226, 140, 183]] [[47], [226, 140, 191], [92], [226, 141, 128], [226, 141, 168]] [[47], [226, 140, 191]] [226, 136, 152, 46] [226, 141, 163] [123] [125] [226, 141, 186] [226, 141, 181] [194, 175] [39] false false true)
def q_triglyphlaw17_AplWords_l0 (k_ : Nat) (a : Grammar × Grammar × Int × Bool × Int) : Option (Bool) := match k_ with | 0 => none | k_ + 1 => match a with
  | (x, x1, q, found, j) =>
    if (decide (j < (List.length x.verbs : Int))) then
      (
        if found then
          some true
        else
          lget x.verbs j >>= fun y =>
          lget x1.verbs (w64 q) >>= fun y1 =>
          some (y == y1)
      : Option (Bool)) >>= fun found1 =>
      q_triglyphlaw17_AplWords_l0 k_ (x, x1, q, found1, (w64 (j + 1)))
    else
      some found
termination_by structural k_
def q_triglyphlaw17_AplWords_l1 (k_ : Nat) (a : Grammar × Grammar × Bool × Int) : Option (Bool) := match k_ with | 0 => none | k_ + 1 => match a with
  | (x, x1, found3, j1) =>
    if (decide (j1 < (List.length x1.adverbs : Int))) then
      (
        if found3 then
          lget x.adverbs j1 >>= fun y2 =>
          lget x1.adverbs j1 >>= fun y3 =>
          some (y2 == y3)
        else
          some false
      : Option (Bool)) >>= fun found4 =>
      q_triglyphlaw17_AplWords_l1 k_ (x, x1, found4, (w64 (j1 + 1)))
    else
      some found3
termination_by structural k_
def q_triglyphlaw17_AplWords_l2 (k_ : Nat) (a : Grammar × Grammar × Bool × Int) : Option (Bool) := match k_ with | 0 => none | k_ + 1 => match a with
  | (x, x1, found6, j2) =>
    if (decide (j2 < (List.length x1.behind : Int))) then
      (
        if found6 then
          lget x.behind j2 >>= fun y4 =>
          lget x1.behind j2 >>= fun y5 =>
          some (y4 == y5)
        else
          some false
      : Option (Bool)) >>= fun found7 =>
      q_triglyphlaw17_AplWords_l2 k_ (x, x1, found7, (w64 (j2 + 1)))
    else
      some found6
termination_by structural k_
def q_triglyphlaw17_AplWords (k_ : Nat) (i : Int) : Option (Bool) :=
  q_apl_Grammar k_ >>= fun x =>
  q_triglyphref15_APL k_ >>= fun x1 =>
  irem (IntKind.u64.wrap i) (IntKind.u64.wrap (List.length x1.verbs : Int)) >>= fun q =>
  if ((List.length x.verbs : Int) == (List.length x1.verbs : Int)) then
    if ((List.length x.adverbs : Int) == (List.length x1.adverbs : Int)) then
      if (!((List.length x.behind : Int) == (List.length x1.behind : Int))) then
        some false
      else
        (
          q_triglyphlaw17_AplWords_l0 k_ (x, x1, q, false, 0)
        : Option (Bool)) >>= fun found2 =>
        (
          q_triglyphlaw17_AplWords_l1 k_ (x, x1, found2, 0)
        : Option (Bool)) >>= fun found5 =>
        (
          q_triglyphlaw17_AplWords_l2 k_ (x, x1, found5, 0)
        : Option (Bool)) >>= fun found8 =>
        if found8 then
          if (x.outer == x1.outer) then
            if (x.power == x1.power) then
              if (x.open_ == x1.open_) then
                if (x.close == x1.close) then
                  if (x.left == x1.left) then
                    if (x.right == x1.right) then
                      if (x.minus == x1.minus) then
                        if (x.quote == x1.quote) then
                          if (x.trains == x1.trains) then
                            if (x.lone == x1.lone) then
                              if (x.square == x1.square) then
                                go_works >>= fun x2 =>
                                some x2
                              else
                                some false
                            else
                              some false
                          else
                            some false
                        else
                          some false
                      else
                        some false
                    else
                      some false
                  else
                    some false
                else
                  some false
              else
                some false
            else
              some false
          else
            some false
        else
          some false
    else
      some false
  else
    some false
theorem q_apl_Grammar_le (k_ : Nat)  : Le (q_apl_Grammar k_ ) (p_apl_Grammar ) := by
  unfold q_apl_Grammar p_apl_Grammar
  repeat' (first | exact Le.refl _  | refine Le.ite ?_ ?_ | refine Le.bind ?_ (fun _ => ?_) | split)
theorem q_triglyphref15_APL_le (k_ : Nat)  : Le (q_triglyphref15_APL k_ ) (p_triglyphref15_APL ) := by
  unfold q_triglyphref15_APL p_triglyphref15_APL
  repeat' (first | exact Le.refl _  | refine Le.ite ?_ ?_ | refine Le.bind ?_ (fun _ => ?_) | split)
theorem q_triglyphlaw17_AplWords_l0_grp (k_ : Nat) : (∀ a, Le (q_triglyphlaw17_AplWords_l0 k_ a) (p_triglyphlaw17_AplWords_l0 a)) := by
  induction k_ with
  | zero => exact fun _ => Le.none
  | succ k_ ih =>
    refine fun a => ?_
    · rw [q_triglyphlaw17_AplWords_l0, p_triglyphlaw17_AplWords_l0]
      repeat' (first | exact Le.refl _ | exact ih _ | refine Le.ite ?_ ?_ | refine Le.bind ?_ (fun _ => ?_) | split)
theorem q_triglyphlaw17_AplWords_l0_le (k_ : Nat) (a) : Le (q_triglyphlaw17_AplWords_l0 k_ a) (p_triglyphlaw17_AplWords_l0 a) := (q_triglyphlaw17_AplWords_l0_grp k_) a
theorem q_triglyphlaw17_AplWords_l1_grp (k_ : Nat) : (∀ a, Le (q_triglyphlaw17_AplWords_l1 k_ a) (p_triglyphlaw17_AplWords_l1 a)) := by
  induction k_ with
  | zero => exact fun _ => Le.none
  | succ k_ ih =>
    refine fun a => ?_
    · rw [q_triglyphlaw17_AplWords_l1, p_triglyphlaw17_AplWords_l1]
      repeat' (first | exact Le.refl _ | exact ih _ | refine Le.ite ?_ ?_ | refine Le.bind ?_ (fun _ => ?_) | split)
theorem q_triglyphlaw17_AplWords_l1_le (k_ : Nat) (a) : Le (q_triglyphlaw17_AplWords_l1 k_ a) (p_triglyphlaw17_AplWords_l1 a) := (q_triglyphlaw17_AplWords_l1_grp k_) a
theorem q_triglyphlaw17_AplWords_l2_grp (k_ : Nat) : (∀ a, Le (q_triglyphlaw17_AplWords_l2 k_ a) (p_triglyphlaw17_AplWords_l2 a)) := by
  induction k_ with
  | zero => exact fun _ => Le.none
  | succ k_ ih =>
    refine fun a => ?_
    · rw [q_triglyphlaw17_AplWords_l2, p_triglyphlaw17_AplWords_l2]
      repeat' (first | exact Le.refl _ | exact ih _ | refine Le.ite ?_ ?_ | refine Le.bind ?_ (fun _ => ?_) | split)
theorem q_triglyphlaw17_AplWords_l2_le (k_ : Nat) (a) : Le (q_triglyphlaw17_AplWords_l2 k_ a) (p_triglyphlaw17_AplWords_l2 a) := (q_triglyphlaw17_AplWords_l2_grp k_) a
theorem q_triglyphlaw17_AplWords_le (k_ : Nat) (i : Int) : Le (q_triglyphlaw17_AplWords k_ i) (p_triglyphlaw17_AplWords i) := by
  unfold q_triglyphlaw17_AplWords p_triglyphlaw17_AplWords
  repeat' (first | exact Le.refl _ | exact q_apl_Grammar_le _| exact q_triglyphlaw17_AplWords_l0_le _ _| exact q_triglyphlaw17_AplWords_l1_le _ _| exact q_triglyphlaw17_AplWords_l2_le _ _| exact q_triglyphref15_APL_le _ | refine Le.ite ?_ ?_ | refine Le.bind ?_ (fun _ => ?_) | split)
end Go.AM.Seat

namespace Go.AM.Seat
open Go Go.AM Go.Proofs
set_option maxRecDepth 100000
set_option maxHeartbeats 4000000
theorem words_small : ((List.range 31).all fun n => q_triglyphlaw17_AplWords 60 (n : Int) == some true) = true := by kernel_rfl
theorem words_rem (i : Int) : ∃ n : Nat, n < 31 ∧ irem (IntKind.u64.wrap i) 31 = some (n : Int) ∧ irem (IntKind.u64.wrap (n : Int)) 31 = some (n : Int) := by
  have h0 : 0 ≤ IntKind.u64.wrap i := by
    have : IntKind.u64.wrap i = i % 18446744073709551616 := by rfl
    omega
  refine ⟨(IntKind.u64.wrap i % 31).toNat, by omega, ?_, ?_⟩
  · simp only [irem]
    rw [if_neg (by decide), Int.tmod_eq_emod_of_nonneg h0]
    congr 1; omega
  · have h1 : IntKind.u64.wrap ((IntKind.u64.wrap i % 31).toNat : Int) = (IntKind.u64.wrap i % 31) := by
      show ((IntKind.u64.wrap i % 31).toNat : Int) % 18446744073709551616 = _
      omega
    rw [h1]
    simp only [irem]
    rw [if_neg (by decide), Int.tmod_eq_emod_of_nonneg (by omega)]
    congr 1; omega
theorem AplWords_eq (i : Int) : p_triglyphlaw17_AplWords i = some true := by
  obtain ⟨n, hn, h1, h2⟩ := words_rem i
  have e : p_triglyphlaw17_AplWords i = p_triglyphlaw17_AplWords (n : Int) := by
    unfold p_triglyphlaw17_AplWords
    simp only [p_apl_Grammar, p_triglyphref15_APL, Option.bind_eq_bind, Option.bind_some]
    have hl : IntKind.u64.wrap (([[43], [45], [195, 151], [124], [126], [226, 141, 179], [226, 141, 180], [226, 137, 162], [44], [226, 138, 150], [226, 140, 189], [226, 141, 137], [226, 141, 139], [226, 141, 146], [226, 136, 170], [226, 138, 130], [226, 138, 131], [195, 183], [226, 140, 138], [226, 140, 136], [61], [226, 137, 160], [60], [62], [226, 137, 164], [226, 137, 165], [226, 134, 145], [226, 134, 147], [226, 141, 170], [226, 136, 138], [226, 140, 183]] : List Str).length : Int) = 31 := by rfl
    rw [hl, h1, h2]
  rw [e]
  refine q_triglyphlaw17_AplWords_le 60 _ _ ?_
  have := List.all_eq_true.1 words_small n (by simpa using hn)
  simpa using this
end Go.AM.Seat
namespace Go.AM.Seat
open Go Go.AM Go.Proofs
set_option maxRecDepth 100000
set_option maxHeartbeats 4000000
set_option linter.unusedVariables false
theorem p_apl_Grammar_ok  {r : Grammar} (h : p_apl_Grammar = some r) : aval X 17 [] [] (CRes.ret (.d (encGrammar r)) []) := by
  unfold p_apl_Grammar at h
  refine aval_start (tm := []) (hp := []) (n := 0) I Tryz.func17 I I I I I I (ra (nid' := 1) I (ra I (R_ ?_)))
  cases h
  exact .ret I I
theorem p_triglyphref15_APL_ok  {r : Grammar} (h : p_triglyphref15_APL = some r) : aval X 18 [] [] (CRes.ret (.d (encGrammar r)) []) := by
  unfold p_triglyphref15_APL at h
  refine aval_start (tm := []) (hp := []) (n := 0) I Tryz.func18 I I I I I I (ra (nid' := 1) I (ra I (R_ ?_)))
  cases h
  exact .ret I I
theorem p_triglyphlaw17_AplWords_l0_ok : ∀ (a : Grammar × Grammar × Int × Bool × Int) (res : Bool), p_triglyphlaw17_AplWords_l0 a = some res → (match a with | (x, x1, q, found, j) => awpL X 6 (codeAt [1, 1, 1, 1, 1, 1, 0, 1, 0, 0] (bodyOf Tryz.f6)) (cleanAt (X.H 6 8) 2) (exitQ 0 (X.H 6 1000000) 2 (NrmQ (fun (found2 : Bool) => (⟨[(3, .c (.ptr 0 0)), (4, .c (.ptr 1 0)), (7, .d (.bool found2))], [(1, [.d (lS x1.verbs), .d (lS x1.adverbs), .d (lS x1.behind), .d (.str x1.outer), .d (.str x1.power), .d (.str x1.open_), .d (.str x1.close), .d (.str x1.left), .d (.str x1.right), .d (.str x1.minus), .d (.str x1.quote), .d (.bool x1.trains), .d (.bool x1.lone), .d (.bool x1.square)]), (0, [.d (lS x.verbs), .d (lS x.adverbs), .d (lS x.behind), .d (.str x.outer), .d (.str x.power), .d (.str x.open_), .d (.str x.close), .d (.str x.left), .d (.str x.right), .d (.str x.minus), .d (.str x.quote), .d (.bool x.trains), .d (.bool x.lone), .d (.bool x.square)])], 2, [], none⟩ : St)) res)) ⟨[(3, .c (.ptr 0 0)), (4, .c (.ptr 1 0)), (5, .d (iZ (w64 q))), (7, .d (.bool found)), (8, .d (iZ j))], [(1, [.d (lS x1.verbs), .d (lS x1.adverbs), .d (lS x1.behind), .d (.str x1.outer), .d (.str x1.power), .d (.str x1.open_), .d (.str x1.close), .d (.str x1.left), .d (.str x1.right), .d (.str x1.minus), .d (.str x1.quote), .d (.bool x1.trains), .d (.bool x1.lone), .d (.bool x1.square)]), (0, [.d (lS x.verbs), .d (lS x.adverbs), .d (lS x.behind), .d (.str x.outer), .d (.str x.power), .d (.str x.open_), .d (.str x.close), .d (.str x.left), .d (.str x.right), .d (.str x.minus), .d (.str x.quote), .d (.bool x.trains), .d (.bool x.lone), .d (.bool x.square)])], 2, [], none⟩) := by
  refine p_triglyphlaw17_AplWords_l0.partial_correctness _ ?_
  rintro p_triglyphlaw17_AplWords_l0' ih ⟨x, x1, q, found, j⟩ res h
  refine lg I (S_ (S_ (rn 3 I (po (ellen I I I I I I I) I I (on 1 I (rz ?_))))))
  rcases E_ h with ⟨hc, h⟩ | ⟨hc, h⟩
  · refine ct I hc ?_
    refine K_ (cn I (N_ (S_ ?_)))
    obtain ⟨found1, hs, h⟩ := B h
    refine awp_nrm (fun (found1 : Bool) => (⟨[(3, .c (.ptr 0 0)), (4, .c (.ptr 1 0)), (5, .d (iZ (w64 q))), (7, .d (.bool found1)), (8, .d (iZ j))], [(1, [.d (lS x1.verbs), .d (lS x1.adverbs), .d (lS x1.behind), .d (.str x1.outer), .d (.str x1.power), .d (.str x1.open_), .d (.str x1.close), .d (.str x1.left), .d (.str x1.right), .d (.str x1.minus), .d (.str x1.quote), .d (.bool x1.trains), .d (.bool x1.lone), .d (.bool x1.square)]), (0, [.d (lS x.verbs), .d (lS x.adverbs), .d (lS x.behind), .d (.str x.outer), .d (.str x.power), .d (.str x.open_), .d (.str x.close), .d (.str x.left), .d (.str x.right), .d (.str x.minus), .d (.str x.quote), .d (.bool x.trains), .d (.bool x.lone), .d (.bool x.square)])], 2, [], none⟩ : St)) (y := found1) ?_ ?_
    · replace h := hs
      refine W_ (drn (m := 17) 2 I I ?_)
      rcases E_ h with ⟨hc, h⟩ | ⟨hc, h⟩
      · refine dgt I I I I hc I ?_
        refine don 13 I (dz' (by kernel_rfl) (en I ?_))
        cases h
        exact .ok I
      refine dgf I I I I hc I (don 3 I ?_)
      obtain ⟨y, hk, h⟩ := B h
      refine pd (elget D.str (fun _ => I) hk I I I I I) I I I I I (don 4 I ?_)
      obtain ⟨y1, hk, h⟩ := B h
      refine pd (elget D.str (fun _ => I) hk I I I I I) I I I I I (don 4 I (dz' (by kernel_rfl) (en I ?_)))
      cases h
      exact .ok I
    refine N_ (rn 3 I (O_ (loopQ.normal ?_)))
    exact awpL_at I I (ih _ _ h)
  refine cf I hc (X_ (condQ.exit (seqQ.exit (loopQ.exit (eh I ?_)))))
  cases h
  exact .ok I
theorem p_triglyphlaw17_AplWords_l1_ok : ∀ (a : Grammar × Grammar × Bool × Int) (res : Bool), p_triglyphlaw17_AplWords_l1 a = some res → (match a with | (x, x1, found3, j1) => awpL X 6 (codeAt [1, 1, 1, 1, 1, 1, 1, 0, 1, 0, 0] (bodyOf Tryz.f6)) (cleanAt (X.H 6 12) 2) (exitQ 2 (X.H 6 1000002) 2 (NrmQ (fun (found5 : Bool) => (⟨[(3, .c (.ptr 0 0)), (4, .c (.ptr 1 0)), (7, .d (.bool found5))], [(1, [.d (lS x1.verbs), .d (lS x1.adverbs), .d (lS x1.behind), .d (.str x1.outer), .d (.str x1.power), .d (.str x1.open_), .d (.str x1.close), .d (.str x1.left), .d (.str x1.right), .d (.str x1.minus), .d (.str x1.quote), .d (.bool x1.trains), .d (.bool x1.lone), .d (.bool x1.square)]), (0, [.d (lS x.verbs), .d (lS x.adverbs), .d (lS x.behind), .d (.str x.outer), .d (.str x.power), .d (.str x.open_), .d (.str x.close), .d (.str x.left), .d (.str x.right), .d (.str x.minus), .d (.str x.quote), .d (.bool x.trains), .d (.bool x.lone), .d (.bool x.square)])], 2, [], none⟩ : St)) res)) ⟨[(3, .c (.ptr 0 0)), (4, .c (.ptr 1 0)), (7, .d (.bool found3)), (9, .d (iZ j1))], [(1, [.d (lS x1.verbs), .d (lS x1.adverbs), .d (lS x1.behind), .d (.str x1.outer), .d (.str x1.power), .d (.str x1.open_), .d (.str x1.close), .d (.str x1.left), .d (.str x1.right), .d (.str x1.minus), .d (.str x1.quote), .d (.bool x1.trains), .d (.bool x1.lone), .d (.bool x1.square)]), (0, [.d (lS x.verbs), .d (lS x.adverbs), .d (lS x.behind), .d (.str x.outer), .d (.str x.power), .d (.str x.open_), .d (.str x.close), .d (.str x.left), .d (.str x.right), .d (.str x.minus), .d (.str x.quote), .d (.bool x.trains), .d (.bool x.lone), .d (.bool x.square)])], 2, [], none⟩) := by
  refine p_triglyphlaw17_AplWords_l1.partial_correctness _ ?_
  rintro p_triglyphlaw17_AplWords_l1' ih ⟨x, x1, found3, j1⟩ res h
  refine lg I (S_ (S_ (rn 3 I (po (ellen I I I I I I I) I I (on 1 I (rz ?_))))))
  rcases E_ h with ⟨hc, h⟩ | ⟨hc, h⟩
  · refine ct I hc ?_
    refine K_ (cn I (N_ (S_ ?_)))
    obtain ⟨found4, hs, h⟩ := B h
    refine awp_nrm (fun (found4 : Bool) => (⟨[(3, .c (.ptr 0 0)), (4, .c (.ptr 1 0)), (7, .d (.bool found4)), (9, .d (iZ j1))], [(1, [.d (lS x1.verbs), .d (lS x1.adverbs), .d (lS x1.behind), .d (.str x1.outer), .d (.str x1.power), .d (.str x1.open_), .d (.str x1.close), .d (.str x1.left), .d (.str x1.right), .d (.str x1.minus), .d (.str x1.quote), .d (.bool x1.trains), .d (.bool x1.lone), .d (.bool x1.square)]), (0, [.d (lS x.verbs), .d (lS x.adverbs), .d (lS x.behind), .d (.str x.outer), .d (.str x.power), .d (.str x.open_), .d (.str x.close), .d (.str x.left), .d (.str x.right), .d (.str x.minus), .d (.str x.quote), .d (.bool x.trains), .d (.bool x.lone), .d (.bool x.square)])], 2, [], none⟩ : St)) (y := found4) ?_ ?_
    · replace h := hs
      refine W_ (drn (m := 17) 2 I I ?_)
      rcases E_ h with ⟨hc, h⟩ | ⟨hc, h⟩
      · refine dgt I I I I hc I ?_
        refine don 3 I ?_
        obtain ⟨y2, hk, h⟩ := B h
        refine pd (elget D.str (fun _ => I) hk I I I I I) I I I I I (don 4 I ?_)
        obtain ⟨y3, hk, h⟩ := B h
        refine pd (elget D.str (fun _ => I) hk I I I I I) I I I I I (don 4 I (dz' (by kernel_rfl) (en I ?_)))
        cases h
        exact .ok I
      refine dgf I I I I hc I (don 13 I (dz' (by kernel_rfl) (en I ?_)))
      cases h
      exact .ok I
    refine N_ (rn 3 I (O_ (loopQ.normal ?_)))
    exact awpL_at I I (ih _ _ h)
  refine cf I hc (X_ (condQ.exit (seqQ.exit (loopQ.exit (eh I ?_)))))
  cases h
  exact .ok I
theorem p_triglyphlaw17_AplWords_l2_ok : ∀ (a : Grammar × Grammar × Bool × Int) (res : Bool), p_triglyphlaw17_AplWords_l2 a = some res → (match a with | (x, x1, found6, j2) => awpL X 6 (codeAt [1, 1, 1, 1, 1, 1, 1, 1, 0, 1, 0, 0] (bodyOf Tryz.f6)) (cleanAt (X.H 6 16) 2) (exitQ 4 (X.H 6 1000004) 2 (NrmQ (fun (found8 : Bool) => (⟨[(3, .c (.ptr 0 0)), (4, .c (.ptr 1 0)), (7, .d (.bool found8))], [(1, [.d (lS x1.verbs), .d (lS x1.adverbs), .d (lS x1.behind), .d (.str x1.outer), .d (.str x1.power), .d (.str x1.open_), .d (.str x1.close), .d (.str x1.left), .d (.str x1.right), .d (.str x1.minus), .d (.str x1.quote), .d (.bool x1.trains), .d (.bool x1.lone), .d (.bool x1.square)]), (0, [.d (lS x.verbs), .d (lS x.adverbs), .d (lS x.behind), .d (.str x.outer), .d (.str x.power), .d (.str x.open_), .d (.str x.close), .d (.str x.left), .d (.str x.right), .d (.str x.minus), .d (.str x.quote), .d (.bool x.trains), .d (.bool x.lone), .d (.bool x.square)])], 2, [], none⟩ : St)) res)) ⟨[(3, .c (.ptr 0 0)), (4, .c (.ptr 1 0)), (7, .d (.bool found6)), (10, .d (iZ j2))], [(1, [.d (lS x1.verbs), .d (lS x1.adverbs), .d (lS x1.behind), .d (.str x1.outer), .d (.str x1.power), .d (.str x1.open_), .d (.str x1.close), .d (.str x1.left), .d (.str x1.right), .d (.str x1.minus), .d (.str x1.quote), .d (.bool x1.trains), .d (.bool x1.lone), .d (.bool x1.square)]), (0, [.d (lS x.verbs), .d (lS x.adverbs), .d (lS x.behind), .d (.str x.outer), .d (.str x.power), .d (.str x.open_), .d (.str x.close), .d (.str x.left), .d (.str x.right), .d (.str x.minus), .d (.str x.quote), .d (.bool x.trains), .d (.bool x.lone), .d (.bool x.square)])], 2, [], none⟩) := by
  refine p_triglyphlaw17_AplWords_l2.partial_correctness _ ?_
  rintro p_triglyphlaw17_AplWords_l2' ih ⟨x, x1, found6, j2⟩ res h
  refine lg I (S_ (S_ (rn 3 I (po (ellen I I I I I I I) I I (on 1 I (rz ?_))))))
  rcases E_ h with ⟨hc, h⟩ | ⟨hc, h⟩
  · refine ct I hc ?_
    refine K_ (cn I (N_ (S_ ?_)))
    obtain ⟨found7, hs, h⟩ := B h
    refine awp_nrm (fun (found7 : Bool) => (⟨[(3, .c (.ptr 0 0)), (4, .c (.ptr 1 0)), (7, .d (.bool found7)), (10, .d (iZ j2))], [(1, [.d (lS x1.verbs), .d (lS x1.adverbs), .d (lS x1.behind), .d (.str x1.outer), .d (.str x1.power), .d (.str x1.open_), .d (.str x1.close), .d (.str x1.left), .d (.str x1.right), .d (.str x1.minus), .d (.str x1.quote), .d (.bool x1.trains), .d (.bool x1.lone), .d (.bool x1.square)]), (0, [.d (lS x.verbs), .d (lS x.adverbs), .d (lS x.behind), .d (.str x.outer), .d (.str x.power), .d (.str x.open_), .d (.str x.close), .d (.str x.left), .d (.str x.right), .d (.str x.minus), .d (.str x.quote), .d (.bool x.trains), .d (.bool x.lone), .d (.bool x.square)])], 2, [], none⟩ : St)) (y := found7) ?_ ?_
    · replace h := hs
      refine W_ (drn (m := 17) 2 I I ?_)
      rcases E_ h with ⟨hc, h⟩ | ⟨hc, h⟩
      · refine dgt I I I I hc I ?_
        refine don 3 I ?_
        obtain ⟨y4, hk, h⟩ := B h
        refine pd (elget D.str (fun _ => I) hk I I I I I) I I I I I (don 4 I ?_)
        obtain ⟨y5, hk, h⟩ := B h
        refine pd (elget D.str (fun _ => I) hk I I I I I) I I I I I (don 4 I (dz' (by kernel_rfl) (en I ?_)))
        cases h
        exact .ok I
      refine dgf I I I I hc I (don 13 I (dz' (by kernel_rfl) (en I ?_)))
      cases h
      exact .ok I
    refine N_ (rn 3 I (O_ (loopQ.normal ?_)))
    exact awpL_at I I (ih _ _ h)
  refine cf I hc (X_ (condQ.exit (seqQ.exit (loopQ.exit (eh I ?_)))))
  cases h
  exact .ok I
theorem p_triglyphlaw17_AplWords_ok {i : Int} {r : Bool} (h : p_triglyphlaw17_AplWords i = some r) : aval X 6 [.d (iZ i)] [] (CRes.ret (.d (.bool r)) []) := by
  unfold p_triglyphlaw17_AplWords at h
  refine aval_start (tm := [(0, .d (iZ i))]) (hp := []) (n := 0) I Tryz.func6 I I I I I I (ra I (S_ (rn 0 I ?_)))
  obtain ⟨x, hk, h⟩ := B h
  refine po (ecall (p_apl_Grammar_ok hk) I I I I I I I I I) I I ?_
  obtain ⟨x1, hk, h⟩ := B h
  refine po (ecall (p_triglyphref15_APL_ok hk) I I I I I I I I I) I I (on (nid' := 2) 4 I (rz (S_ (rn 4 I (po (ellen I I I I I I I) I I (on 1 I ?_))))))
  obtain ⟨q, hk, h⟩ := B h
  refine po (eirem hk I I I) I I (on 2 I (rz (S_ (rn 2 I (po (ellen I I I I I I I) I I (on 2 I (po (ellen I I I I I I I) I I (on 2 I ?_))))))))
  rcases E_ h with ⟨hc, h⟩ | ⟨hc, h⟩
  · refine gt I I I I hc I ?_
    refine on 2 I (po (ellen I I I I I I I) I I (on 2 I (po (ellen I I I I I I I) I I (on 3 I ?_))))
    rcases E_ h with ⟨hc, h⟩ | ⟨hc, h⟩
    · refine gt I I I I hc I ?_
      refine on 2 I (po (ellen I I I I I I I) I I (on 2 I (po (ellen I I I I I I I) I I (on 3 I (rz (S_ (ra I ?_)))))))
      rcases E_ h with ⟨hc, h⟩ | ⟨hc, h⟩
      · refine ct I hc ?_
        refine ra I (R_ (C_ (Q_ ?_)))
        cases h
        exact .ret I I
      refine cf I hc (K_ (cn I (N_ (ra I (S_ (ra I ?_))))))
      obtain ⟨found2, hs, h⟩ := B h
      refine awp_nrm (fun (found2 : Bool) => (⟨[(3, .c (.ptr 0 0)), (4, .c (.ptr 1 0)), (7, .d (.bool found2))], [(1, [.d (lS x1.verbs), .d (lS x1.adverbs), .d (lS x1.behind), .d (.str x1.outer), .d (.str x1.power), .d (.str x1.open_), .d (.str x1.close), .d (.str x1.left), .d (.str x1.right), .d (.str x1.minus), .d (.str x1.quote), .d (.bool x1.trains), .d (.bool x1.lone), .d (.bool x1.square)]), (0, [.d (lS x.verbs), .d (lS x.adverbs), .d (lS x.behind), .d (.str x.outer), .d (.str x.power), .d (.str x.open_), .d (.str x.close), .d (.str x.left), .d (.str x.right), .d (.str x.minus), .d (.str x.quote), .d (.bool x.trains), .d (.bool x.lone), .d (.bool x.square)])], 2, [], none⟩ : St)) (y := found2) ?_ ?_
      · replace h := hs
        refine W_ (awp_loop ?_)
        exact awpL_at I I (p_triglyphlaw17_AplWords_l0_ok _ _ h)
      refine N_ (S_ (ra I ?_))
      obtain ⟨found5, hs, h⟩ := B h
      refine awp_nrm (fun (found5 : Bool) => (⟨[(3, .c (.ptr 0 0)), (4, .c (.ptr 1 0)), (7, .d (.bool found5))], [(1, [.d (lS x1.verbs), .d (lS x1.adverbs), .d (lS x1.behind), .d (.str x1.outer), .d (.str x1.power), .d (.str x1.open_), .d (.str x1.close), .d (.str x1.left), .d (.str x1.right), .d (.str x1.minus), .d (.str x1.quote), .d (.bool x1.trains), .d (.bool x1.lone), .d (.bool x1.square)]), (0, [.d (lS x.verbs), .d (lS x.adverbs), .d (lS x.behind), .d (.str x.outer), .d (.str x.power), .d (.str x.open_), .d (.str x.close), .d (.str x.left), .d (.str x.right), .d (.str x.minus), .d (.str x.quote), .d (.bool x.trains), .d (.bool x.lone), .d (.bool x.square)])], 2, [], none⟩ : St)) (y := found5) ?_ ?_
      · replace h := hs
        refine W_ (awp_loop ?_)
        exact awpL_at I I (p_triglyphlaw17_AplWords_l1_ok _ _ h)
      refine N_ (S_ (ra I ?_))
      obtain ⟨found8, hs, h⟩ := B h
      refine awp_nrm (fun (found8 : Bool) => (⟨[(3, .c (.ptr 0 0)), (4, .c (.ptr 1 0)), (7, .d (.bool found8))], [(1, [.d (lS x1.verbs), .d (lS x1.adverbs), .d (lS x1.behind), .d (.str x1.outer), .d (.str x1.power), .d (.str x1.open_), .d (.str x1.close), .d (.str x1.left), .d (.str x1.right), .d (.str x1.minus), .d (.str x1.quote), .d (.bool x1.trains), .d (.bool x1.lone), .d (.bool x1.square)]), (0, [.d (lS x.verbs), .d (lS x.adverbs), .d (lS x.behind), .d (.str x.outer), .d (.str x.power), .d (.str x.open_), .d (.str x.close), .d (.str x.left), .d (.str x.right), .d (.str x.minus), .d (.str x.quote), .d (.bool x.trains), .d (.bool x.lone), .d (.bool x.square)])], 2, [], none⟩ : St)) (y := found8) ?_ ?_
      · replace h := hs
        refine W_ (awp_loop ?_)
        exact awpL_at I I (p_triglyphlaw17_AplWords_l2_ok _ _ h)
      refine N_ (S_ (rn 2 I ?_))
      rcases E_ h with ⟨hc, h⟩ | ⟨hc, h⟩
      · refine gt I I I I hc I ?_
        refine on 7 I ?_
        rcases E_ h with ⟨hc, h⟩ | ⟨hc, h⟩
        · refine gt I I I I hc I ?_
          refine on 7 I ?_
          rcases E_ h with ⟨hc, h⟩ | ⟨hc, h⟩
          · refine gt I I I I hc I ?_
            refine on 7 I ?_
            rcases E_ h with ⟨hc, h⟩ | ⟨hc, h⟩
            · refine gt I I I I hc I ?_
              refine on 7 I ?_
              rcases E_ h with ⟨hc, h⟩ | ⟨hc, h⟩
              · refine gt I I I I hc I ?_
                refine on 7 I ?_
                rcases E_ h with ⟨hc, h⟩ | ⟨hc, h⟩
                · refine gt I I I I hc I ?_
                  refine on 7 I ?_
                  rcases E_ h with ⟨hc, h⟩ | ⟨hc, h⟩
                  · refine gt I I I I hc I ?_
                    refine on 7 I ?_
                    rcases E_ h with ⟨hc, h⟩ | ⟨hc, h⟩
                    · refine gt I I I I hc I ?_
                      refine on 7 I ?_
                      rcases E_ h with ⟨hc, h⟩ | ⟨hc, h⟩
                      · refine gt I I I I hc I ?_
                        refine on 7 I ?_
                        rcases E_ h with ⟨hc, h⟩ | ⟨hc, h⟩
                        · refine gt I I I I hc I ?_
                          refine on 7 I ?_
                          rcases E_ h with ⟨hc, h⟩ | ⟨hc, h⟩
                          · refine gt I I I I hc I ?_
                            refine on 7 I ?_
                            rcases E_ h with ⟨hc, h⟩ | ⟨hc, h⟩
                            · refine gt I I I I hc I ?_
                              obtain ⟨x2, hk, h⟩ := B h
                              refine po (ecall (go_works_ok hk) I I I I I I I I I) I I (on 2 I (rz (R_ ?_)))
                              cases h
                              exact .ret I I
                            refine gf I I I I hc I (on 3 I (rz (R_ ?_)))
                            cases h
                            exact .ret I I
                          refine gf I I I I hc I (on 10 I (rz (R_ ?_)))
                          cases h
                          exact .ret I I
                        refine gf I I I I hc I (on 17 I (rz (R_ ?_)))
                        cases h
                        exact .ret I I
                      refine gf I I I I hc I (on 24 I (rz (R_ ?_)))
                      cases h
                      exact .ret I I
                    refine gf I I I I hc I (on 31 I (rz (R_ ?_)))
                    cases h
                    exact .ret I I
                  refine gf I I I I hc I (on 38 I (rz (R_ ?_)))
                  cases h
                  exact .ret I I
                refine gf I I I I hc I (on 45 I (rz (R_ ?_)))
                cases h
                exact .ret I I
              refine gf I I I I hc I (on 52 I (rz (R_ ?_)))
              cases h
              exact .ret I I
            refine gf I I I I hc I (on 59 I (rz (R_ ?_)))
            cases h
            exact .ret I I
          refine gf I I I I hc I (on 66 I (rz (R_ ?_)))
          cases h
          exact .ret I I
        refine gf I I I I hc I (on 73 I (rz (R_ ?_)))
        cases h
        exact .ret I I
      refine gf I I I I hc I (on 80 I (rz (R_ ?_)))
      cases h
      exact .ret I I
    refine gf I I I I hc I (on 9 I (rz (S_ (ra I (ct I I (ra I (R_ (C_ (Q_ ?_)))))))))
    cases h
    exact .ret I I
  refine gf I I I I hc I (on 18 I (rz (S_ (ra I (ct I I (ra I (R_ (C_ (Q_ ?_)))))))))
  cases h
  exact .ret I I
end Go.AM.Seat
