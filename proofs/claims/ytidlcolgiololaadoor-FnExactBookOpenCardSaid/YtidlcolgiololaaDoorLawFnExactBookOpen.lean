/- Proved: the law FnExactBookOpen of the program holds at every input, and the input reads behind the call as it read before; no condition. -/
import Derived.Test.YtidlcolgiololaaDoorRows
import Derived.Test.YtidlcolgiololaaDoorStmFnExactBookOpen
import Derived.Test.YtidlcolgiololaaDoorPureFnExactBookOpen
import Derived.WalkKit
import Derived.ProofKit
import Derived.OpenShut
import Derived.ShutString
import Derived.ChangeOld
import Derived.Below
import Derived.SizedLaws
import Derived.Test.YtidlcolgiololaaDoorCards
import Derived.Test.YtidlcolgiololaaDoorTie
import Derived.LaidMore
import Derived.Lay
import Derived.SevenTiedAt
import Derived.Stop.Joined
namespace Go.Proofs.YtidlcolgiololaaDoor.fnExactBookOpen
open Go.ChangeShapes Go.WideShapes Go.ChangeAt Go.RowKit Go.Proofs.YtidlcolgiololaaDoor.Opn Go.Proofs.YtidlcolgiololaaDoor.StmFnExactBookOpen Go.Proofs.YtidlcolgiololaaDoorW.PrintWords Go.Proofs.YtidlcolgiololaaDoor.S
set_option linter.unusedVariables false
theorem own : ownKnob Tryd.prog.godebug = none := by kernel_rfl
theorem laidOut : laidOutB Tryd.prog = true := by kernel_rfl
set_option maxRecDepth 100000 in
theorem lifted (os : Os) (started : os.Started) (H : Type) (enc : TypeId × Value → H) :
    ReturnsInHanded {} Tryd.checked os 5 .any (fun w args => (Rows.fnExactBookOpenSpec.pre enc Tryd.prog Tryd.f5 Rows.fnExactBookOpenRow.domain false w args ∧ laidMetH Tryd.prog Rows.fnExactBookOpenRow.laid w) ∧ sizedMet enc Tryd.prog Tryd.f5 (OpenSpec.ofChange Rows.fnExactBookOpenSpec) false w args) (Rows.fnExactBookOpenSpec.post enc Tryd.prog Tryd.f5 false true false false) := by
  refine returnsInHanded_of_change_and (C := Tryd.checked) (X := fun w _ => laidMetH Tryd.prog Rows.fnExactBookOpenRow.laid w) (fun _ _ _ hh h => h.of_heap hh) own started (by kernel_rfl) Tryd.func5
    (ChangeSpec.witness_shaped (enc := enc) (C := Tryd.checked) (os := os) (X := fun w _ => laidMetH Tryd.prog Rows.fnExactBookOpenRow.laid w) false (World.laidAll Tryd.prog os Rows.fnExactBookOpenRow.laid) #[.agg #[.slice none 0 0, .slice none 0 0], .agg #[.string ByteArray.empty, .string ByteArray.empty]] 8 (World.laidAll_os _ _ _) (World.shaped_of_ZipB (by kernel_rfl) (by kernel_rfl)) (by kernel_rfl) (by kernel_rfl) (by kernel_rfl)
      (by rw [MakeChecks.laidMetH_plain _ _ _ (by kernel_rfl)]; exact laidMet_laidAll _ (by kernel_rfl) (by kernel_rfl))) ?_
  intro W base args ds gs before hval0 hW hcnd hsz0 _ _
  have hsz : (DataW.weightsEach Tryd.prog (Tryd.f5.params.toList ++ Rows.fnExactBookOpenSpec.plain.varTypes Tryd.prog) (ds ++ gs)).all (· ≤ reachBytes) = true := hsz0
  have hval : ∀ (j : Nat) t v, Tryd.f5.params[j]? = some t → args[j]? = some v → Value.okWide Tryd.prog W .any base t v := hval0
  have hW' := hW
  obtain ⟨p, q, hA0, hV, rfl, hfz, hnd⟩ := hW
  have hA : DataW.TrodAll enc Tryd.prog W 0 (fun _ => true) true Tryd.f5.params.toList args.toList ds p := hA0
  rw [Tryd.params5] at hA hval hsz
  obtain ⟨v0, vs0, d0, ds0, p0, q0, hargs, rfl, rfl, h0, r0⟩ := trodAll_cons hA
  obtain ⟨v1, vs1, d1, ds1, p1, q1, rfl, rfl, rfl, h1, r1⟩ := trodAll_cons r0
  obtain ⟨rfl, rfl, rfl⟩ := trodAll_nil r1
  obtain rfl : args = #[v0, v1] := by cases args; simp_all
  obtain ⟨rfl, rfl⟩ := trodVars_none hV
  obtain ⟨y0, hk0, hg0⟩ := opens_arg (j := 0) op52 h0 hsz rfl rfl
  obtain ⟨cs0, rfl, hs0⟩ := okWide_struct Tryd.underlying52 (hval 0 52 v0 rfl rfl)
  have hk0' : (Kd.pair (Kd.slice 186 k186) (Kd.slice 9 Kd.string)).K W y0 cs0.toList := hk0
  obtain ⟨u0, z0, e0, ⟨A0_0, c0_0, rfl, hc0_0, hr0_0⟩, ⟨A0_1, c0_1, rfl, hc0_1, hr0_1⟩⟩ := hk0'
  obtain rfl : cs0 = #[_, _] := by apply Array.ext'; simpa using e0
  obtain ⟨y1, hk1, hg1⟩ := opens_arg (j := 1) op53r h1 hsz rfl rfl
  obtain ⟨cs1, rfl, hs1⟩ := okWide_struct Tryd.underlying53 (hval 1 53 v1 rfl rfl)
  have hk1' : (Kd.pair Kd.string Kd.string).K W y1 cs1.toList := hk1
  obtain ⟨u1, z1, e1, rfl, rfl⟩ := hk1'
  obtain rfl : cs1 = #[_, _] := by apply Array.ext'; simpa using e1
  clear hA0 hval0 hsz0 hsz
  refine (walk Pure.FnExactBookOpen _ _ _ _ _ _ _ _ W hr0_0 hc0_0 hr0_1 hc0_1 hg0 hg1).mono fun e W' ⟨he, bel⟩ => ?_
  subst he
  exact ⟨_, rfl, _, _, _, [], _, [], hW', trodAll_mk1 (shut_bool Tryd.underlying4 _), (trodAll_cons_mk (Below.trod laidOut (by kernel_rfl) (of_decide_eq_true (by kernel_rfl)) h0 bel (arg_lt h0)) (trodAll_cons_mk (Below.trod laidOut (by kernel_rfl) (of_decide_eq_true (by kernel_rfl)) h1 bel (arg_lt h1)) trodAll_mk0)), rfl, bel.frame _, fun h => by cases h⟩
theorem over : Rows.fnExactBookOpenRow.holds Tryd.pinned (OpenSpec.ofChange Rows.fnExactBookOpenSpec) :=
  OpenClaim.holds_of_wide 5 Tryd.f5 rfl rfl rfl rfl rfl rfl rfl ⟨rfl, rfl, rfl, rfl, rfl⟩ rfl rfl rfl rfl rfl (by kernel_rfl) Tryd.func5 (by kernel_rfl)
    (of_decide_eq_true (by kernel_rfl)) (by unfold Func.isWrapper; first | (rw [if_pos (by decide +kernel)]; kernel_rfl) | (rw [if_neg (by decide +kernel)]; exact ⟨rfl, rfl⟩))
    (fun os started H enc _ => lifted os started H enc)
theorem proved : Rows.FnExactBookOpenSaid := over
#print axioms proved
end Go.Proofs.YtidlcolgiololaaDoor.fnExactBookOpen
namespace Go.Proofs.YtidlcolgiololaaDoor
/-- The row, under a short name, for the claim. -/
theorem fnExactBookOpen_holds : Rows.FnExactBookOpenSaid := fnExactBookOpen.proved
/-- The tied card: the row, and the given tie. -/
theorem fnExactBookOpen_card : Rows.FnExactBookOpenCardSaid :=
  Claim7.holds_tied_plain_at .later [] [.data, .pinned] true (true, "2aea607e1fba834525c95141415cce9fd3aea231d27816b94397a5ddf24dc658") true fnExactBookOpen_holds (fun _ h => by cases h) (by kernel_rfl) (fun _ h => by cases h) fnExactBookOpen_row_tie rfl ⟨rfl, rfl⟩ (by kernel_rfl) rfl
    (fun f fn hf hfn => by
      obtain rfl : f = 5 := Option.some.inj ((show Tryd.prog.funcNamed Rows.fnExactBookOpenRow.func = some 5 by kernel_rfl).symm.trans hf) |>.symm
      obtain rfl : fn = Tryd.f5 := (Option.some.inj (Tryd.func5.symm.trans hfn)).symm
      exact ⟨by kernel_rfl, fun j t ht => by
        rw [Tryd.params5] at ht
        have hm : t ∈ [52, 53] := by simpa using Array.mem_of_getElem? ht
        have hall : ([52, 53].all fun u => !Tryd.prog.wantsStandIn u) = true := by kernel_rfl
        exact (show Tryd.prog.wantsStandIn t = false by simpa using List.all_eq_true.1 hall t hm)⟩)
    (by kernel_rfl)
#print axioms fnExactBookOpen_card
end Go.Proofs.YtidlcolgiololaaDoor
