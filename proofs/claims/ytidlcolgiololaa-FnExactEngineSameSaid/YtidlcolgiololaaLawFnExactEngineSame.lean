/- Proved: the law FnExactEngineSame of the program holds at every input, and the input reads behind the call as it read before; no condition. -/
import Derived.Test.YtidlcolgiololaaRows
import Derived.Test.YtidlcolgiololaaStmFnExactEngineSame
import Derived.Test.YtidlcolgiololaaPureFnExactEngineSame
import Derived.WalkKit
import Derived.ProofKit
import Derived.OpenShut
import Derived.ShutString
import Derived.ChangeOld
import Derived.Below
import Derived.SizedLaws
namespace Go.Proofs.Ytidlcolgiololaa.fnExactEngineSame
open Go.ChangeShapes Go.WideShapes Go.ChangeAt Go.RowKit Go.Proofs.Ytidlcolgiololaa.Opn Go.Proofs.Ytidlcolgiololaa.StmFnExactEngineSame Go.Proofs.YtidlcolgiololaaW.PrintWords Go.Proofs.Ytidlcolgiololaa.S
set_option linter.unusedVariables false
theorem own : ownKnob Try.prog.godebug = none := by kernel_rfl
theorem laidOut : laidOutB Try.prog = true := by kernel_rfl
set_option maxRecDepth 100000 in
theorem lifted (os : Os) (started : os.Started) (H : Type) (enc : TypeId × Value → H) :
    ReturnsInHanded {} Try.checked os 4 .any (Rows.fnExactEngineSameSpec.pre6 enc Try.prog Try.f4 Rows.fnExactEngineSameRow.domain false) (Rows.fnExactEngineSameSpec.post enc Try.prog Try.f4 false true false false) := by
  refine returnsInHanded_of_change_sized (C := Try.checked) own started (by kernel_rfl) Try.func4
    (ChangeSpec.witness6 (enc := enc) (C := Try.checked) false ⟨#[], #[.agg #[.int .i64 0, .slice none 0 0, .slice none 0 0, .slice none 0 0, .slice none 0 0], .agg #[.int .i64 0, .slice none 0 0, .slice none 0 0, .slice none 0 0, .slice none 0 0]], []⟩ 8 (by kernel_rfl) (by kernel_rfl) (by kernel_rfl) (by kernel_rfl)) ?_
  intro W base args ds gs before hval0 hW hcnd hsz0 _
  have hsz : (DataW.weightsEach Try.prog (Try.f4.params.toList ++ Rows.fnExactEngineSameSpec.plain.varTypes Try.prog) (ds ++ gs)).all (· ≤ reachBytes) = true := hsz0
  have hval : ∀ (j : Nat) t v, Try.f4.params[j]? = some t → args[j]? = some v → Value.okWide Try.prog W .any base t v := hval0
  have hW' := hW
  obtain ⟨p, q, hA0, hV, rfl, hfz, hnd⟩ := hW
  have hA : DataW.TrodAll enc Try.prog W 0 (fun _ => true) true Try.f4.params.toList args.toList ds p := hA0
  rw [Try.params4] at hA hval hsz
  obtain ⟨v0, vs0, d0, ds0, p0, q0, hargs, rfl, rfl, h0, r0⟩ := trodAll_cons hA
  obtain ⟨v1, vs1, d1, ds1, p1, q1, rfl, rfl, rfl, h1, r1⟩ := trodAll_cons r0
  obtain ⟨rfl, rfl, rfl⟩ := trodAll_nil r1
  obtain rfl : args = #[v0, v1] := by cases args; simp_all
  obtain ⟨rfl, rfl⟩ := trodVars_none hV
  obtain ⟨y0, hk0, hg0⟩ := opens_arg (j := 0) op38 h0 hsz rfl rfl
  obtain ⟨cs0, rfl, hs0⟩ := okWide_struct Try.underlying38 (hval 0 38 v0 rfl rfl)
  have hk0' : (Kd.pair (Kd.int .i64) (Kd.pair (Kd.slice 120 k120) (Kd.pair (Kd.slice 122 k122) (Kd.pair (Kd.slice 152 k152) (Kd.slice 9 Kd.string))))).K W y0 cs0.toList := hk0
  obtain ⟨u0, z0, e0, rfl, ⟨_, _, rfl, ⟨A0_1, c0_1, rfl, hc0_1, hr0_1⟩, ⟨_, _, rfl, ⟨A0_2, c0_2, rfl, hc0_2, hr0_2⟩, ⟨_, _, rfl, ⟨A0_3, c0_3, rfl, hc0_3, hr0_3⟩, ⟨A0_4, c0_4, rfl, hc0_4, hr0_4⟩⟩⟩⟩⟩ := hk0'
  obtain rfl : cs0 = #[_, _, _, _, _] := by apply Array.ext'; simpa using e0
  obtain ⟨y1, hk1, hg1⟩ := opens_arg (j := 1) op38 h1 hsz rfl rfl
  obtain ⟨cs1, rfl, hs1⟩ := okWide_struct Try.underlying38 (hval 1 38 v1 rfl rfl)
  have hk1' : (Kd.pair (Kd.int .i64) (Kd.pair (Kd.slice 120 k120) (Kd.pair (Kd.slice 122 k122) (Kd.pair (Kd.slice 152 k152) (Kd.slice 9 Kd.string))))).K W y1 cs1.toList := hk1
  obtain ⟨u1, z1, e1, rfl, ⟨_, _, rfl, ⟨A1_1, c1_1, rfl, hc1_1, hr1_1⟩, ⟨_, _, rfl, ⟨A1_2, c1_2, rfl, hc1_2, hr1_2⟩, ⟨_, _, rfl, ⟨A1_3, c1_3, rfl, hc1_3, hr1_3⟩, ⟨A1_4, c1_4, rfl, hc1_4, hr1_4⟩⟩⟩⟩⟩ := hk1'
  obtain rfl : cs1 = #[_, _, _, _, _] := by apply Array.ext'; simpa using e1
  clear hA0 hval0 hsz0 hsz
  refine (walk Pure.FnExactEngineSame _ A0_1 c0_1 _ A0_2 c0_2 _ A0_3 c0_3 _ A0_4 c0_4 _ _ A1_1 c1_1 _ A1_2 c1_2 _ A1_3 c1_3 _ A1_4 c1_4 _ W hr0_1 hc0_1 hr0_2 hc0_2 hr0_3 hc0_3 hr0_4 hc0_4 hr1_1 hc1_1 hr1_2 hc1_2 hr1_3 hc1_3 hr1_4 hc1_4 hg0 hg1).mono fun e W' ⟨he, bel⟩ => ?_
  subst he
  exact ⟨_, rfl, _, _, _, [], _, [], hW', trodAll_mk1 (shut_bool Try.underlying4 _), (trodAll_cons_mk (Below.trod laidOut (by kernel_rfl) (of_decide_eq_true (by kernel_rfl)) h0 bel (arg_lt h0)) (trodAll_cons_mk (Below.trod laidOut (by kernel_rfl) (of_decide_eq_true (by kernel_rfl)) h1 bel (arg_lt h1)) trodAll_mk0)), rfl, bel.frame _, fun h => by cases h⟩
theorem over : Rows.fnExactEngineSameRow.holds Try.pinned (OpenSpec.ofChange Rows.fnExactEngineSameSpec) :=
  OpenClaim.holds_of_wide 4 Try.f4 rfl rfl rfl rfl rfl rfl rfl ⟨rfl, rfl, rfl, rfl, rfl⟩ rfl rfl rfl rfl rfl (by kernel_rfl) Try.func4 (by kernel_rfl)
    (of_decide_eq_true (by kernel_rfl)) (by unfold Func.isWrapper; first | (rw [if_pos (by decide +kernel)]; kernel_rfl) | (rw [if_neg (by decide +kernel)]; exact ⟨rfl, rfl⟩))
    (fun os started H enc _ => lifted os started H enc)
theorem proved : Rows.FnExactEngineSameSaid := over
#print axioms proved
end Go.Proofs.Ytidlcolgiololaa.fnExactEngineSame
namespace Go.Proofs.Ytidlcolgiololaa
/-- The row, under a short name, for the claim. -/
theorem fnExactEngineSame_holds : Rows.FnExactEngineSameSaid := fnExactEngineSame.proved
end Go.Proofs.Ytidlcolgiololaa
