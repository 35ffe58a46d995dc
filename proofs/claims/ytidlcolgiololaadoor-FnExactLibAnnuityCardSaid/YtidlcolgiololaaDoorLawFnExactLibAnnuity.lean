/- Proved: the law FnExactLibAnnuity of the program holds at every input, and the input reads behind the call as it read before; no condition. -/
import Derived.Test.YtidlcolgiololaaDoorRows
import Derived.Test.YtidlcolgiololaaDoorStmFnExactLibAnnuity
import Derived.Test.YtidlcolgiololaaDoorPureFnExactLibAnnuity
import Derived.WalkKit
import Derived.ProofKit
import Derived.OpenShut
import Derived.ShutString
import Derived.ChangeOld
import Derived.Below
import Derived.SizedLaws
import Derived.Test.YtidlcolgiololaaDoorLdOfFnExactLibAnnuity
import Derived.Test.YtidlcolgiololaaDoorCards
import Derived.Test.YtidlcolgiololaaDoorTie
import Derived.LaidMore
import Derived.Lay
import Derived.SevenTiedAt
import Derived.Stop.Joined
namespace Go.Proofs.YtidlcolgiololaaDoor.fnExactLibAnnuity
open Go.ChangeShapes Go.WideShapes Go.ChangeAt Go.RowKit Go.Proofs.YtidlcolgiololaaDoor.Opn Go.Proofs.YtidlcolgiololaaDoor.StmFnExactLibAnnuity Go.Proofs.YtidlcolgiololaaDoorW.PrintWords Go.Proofs.YtidlcolgiololaaDoor.S
set_option linter.unusedVariables false
theorem own : ownKnob Tryd.prog.godebug = none := by kernel_rfl
theorem laidOut : laidOutB Tryd.prog = true := by kernel_rfl
set_option maxRecDepth 100000 in
theorem lifted (os : Os) (started : os.Started) (H : Type) (enc : TypeId × Value → H) :
    ReturnsInHanded {} Tryd.checked os 10 .any (fun w args => (Rows.fnExactLibAnnuitySpec.pre enc Tryd.prog Tryd.f10 Rows.fnExactLibAnnuityRow.domain false w args ∧ laidMetH Tryd.prog Rows.fnExactLibAnnuityRow.laid w) ∧ sizedMet enc Tryd.prog Tryd.f10 (OpenSpec.ofChange Rows.fnExactLibAnnuitySpec) false w args) (Rows.fnExactLibAnnuitySpec.post enc Tryd.prog Tryd.f10 false true false false) := by
  refine Go.Proofs.YtidlcolgiololaaDoor.LdOfFnExactLibAnnuity.wrap (C := Tryd.checked) (X := fun w _ => laidMetH Tryd.prog Rows.fnExactLibAnnuityRow.laid w) (fun _ _ _ hh h => h.of_heap hh) own started (by kernel_rfl) Tryd.func10
    (ChangeSpec.witness_shaped (enc := enc) (C := Tryd.checked) (os := os) (X := fun w _ => laidMetH Tryd.prog Rows.fnExactLibAnnuityRow.laid w) false (World.laidAll Tryd.prog os Rows.fnExactLibAnnuityRow.laid) #[.agg #[.int .i64 0, .int .i64 0, .int .i64 0, .int .i64 0, .int .i64 0]] 8 (World.laidAll_os _ _ _) (World.shaped_of_ZipB (by kernel_rfl) (by kernel_rfl)) (by kernel_rfl) (by kernel_rfl) (by kernel_rfl)
      (by rw [MakeChecks.laidMetH_plain _ _ _ (by kernel_rfl)]; exact laidMet_laidAll _ (by kernel_rfl) (by kernel_rfl))) ?_
  intro W base args ds gs before hval0 hW hcnd hsz0 hX hSh
  have hsz : (DataW.weightsEach Tryd.prog (Tryd.f10.params.toList ++ Rows.fnExactLibAnnuitySpec.plain.varTypes Tryd.prog) (ds ++ gs)).all (· ≤ reachBytes) = true := hsz0
  have hval : ∀ (j : Nat) t v, Tryd.f10.params[j]? = some t → args[j]? = some v → Value.okWide Tryd.prog W .any base t v := hval0
  have hW' := hW
  obtain ⟨p, q, hA0, hV, rfl, hfz, hnd⟩ := hW
  have hA : DataW.TrodAll enc Tryd.prog W 0 (fun _ => true) true Tryd.f10.params.toList args.toList ds p := hA0
  rw [Tryd.params10] at hA hval hsz
  obtain ⟨v0, vs0, d0, ds0, p0, q0, hargs, rfl, rfl, h0, r0⟩ := trodAll_cons hA
  obtain ⟨rfl, rfl, rfl⟩ := trodAll_nil r0
  obtain rfl : args = #[v0] := by cases args; simp_all
  obtain ⟨rfl, rfl⟩ := trodVars_none hV
  obtain ⟨y0, hk0, hg0⟩ := opens_arg (j := 0) op87 h0 hsz rfl rfl
  obtain ⟨cs0, rfl, hs0⟩ := okWide_struct Tryd.underlying87 (hval 0 87 v0 rfl rfl)
  have hk0' : (Kd.pair (Kd.int .i64) (Kd.pair (Kd.int .i64) (Kd.pair (Kd.int .i64) (Kd.pair (Kd.int .i64) (Kd.int .i64))))).K W y0 cs0.toList := hk0
  obtain ⟨u0, z0, e0, rfl, ⟨_, _, rfl, rfl, ⟨_, _, rfl, rfl, ⟨_, _, rfl, rfl, rfl⟩⟩⟩⟩ := hk0'
  obtain rfl : cs0 = #[_, _, _, _, _] := by apply Array.ext'; simpa using e0
  clear hA0 hval0 hsz0 hsz
  refine (walk Pure.FnExactLibAnnuity _ _ _ _ _ W  hg0 (Go.Proofs.YtidlcolgiololaaDoor.LdOfFnExactLibAnnuity.ld_of hSh hX)).mono fun e W' ⟨he, bel⟩ => ?_
  subst he
  exact ⟨_, rfl, _, _, _, [], _, [], hW', trodAll_mk1 (shut_bool Tryd.underlying4 _), (trodAll_cons_mk (Below.trod laidOut (by kernel_rfl) (of_decide_eq_true (by kernel_rfl)) h0 bel (arg_lt h0)) trodAll_mk0), rfl, bel.frame _, fun h => by cases h⟩
theorem over : Rows.fnExactLibAnnuityRow.holds Tryd.pinned (OpenSpec.ofChange Rows.fnExactLibAnnuitySpec) :=
  OpenClaim.holds_of_wide 10 Tryd.f10 rfl rfl rfl rfl rfl rfl rfl ⟨rfl, rfl, rfl, rfl, rfl⟩ rfl rfl rfl rfl rfl (by kernel_rfl) Tryd.func10 Go.Proofs.YtidlcolgiololaaDoor.LdOfFnExactLibAnnuity.facts
    (of_decide_eq_true (by kernel_rfl)) (by unfold Func.isWrapper; first | (rw [if_pos (by decide +kernel)]; kernel_rfl) | (rw [if_neg (by decide +kernel)]; exact ⟨rfl, rfl⟩))
    (fun os started H enc _ => lifted os started H enc)
theorem proved : Rows.FnExactLibAnnuitySaid := over
#print axioms proved
end Go.Proofs.YtidlcolgiololaaDoor.fnExactLibAnnuity
namespace Go.Proofs.YtidlcolgiololaaDoor
/-- The row, under a short name, for the claim. -/
theorem fnExactLibAnnuity_holds : Rows.FnExactLibAnnuitySaid := fnExactLibAnnuity.proved
/-- The tied card: the row, and the given tie. -/
theorem fnExactLibAnnuity_card : Rows.FnExactLibAnnuityCardSaid :=
  Claim7.holds_tied_plain_at .later [] [.data, .data, .data, .data, .pinned] true (true, "2aea607e1fba834525c95141415cce9fd3aea231d27816b94397a5ddf24dc658") true fnExactLibAnnuity_holds (fun _ h => by cases h) (by kernel_rfl) (fun _ h => by cases h) fnExactLibAnnuity_row_tie rfl ⟨rfl, rfl⟩ (by kernel_rfl) rfl
    (fun f fn hf hfn => by
      obtain rfl : f = 10 := Option.some.inj ((show Tryd.prog.funcNamed Rows.fnExactLibAnnuityRow.func = some 10 by kernel_rfl).symm.trans hf) |>.symm
      obtain rfl : fn = Tryd.f10 := (Option.some.inj (Tryd.func10.symm.trans hfn)).symm
      exact ⟨by kernel_rfl, fun j t ht => by
        rw [Tryd.params10] at ht
        have hm : t ∈ [87] := by simpa using Array.mem_of_getElem? ht
        have hall : ([87].all fun u => !Tryd.prog.wantsStandIn u) = true := by kernel_rfl
        exact (show Tryd.prog.wantsStandIn t = false by simpa using List.all_eq_true.1 hall t hm)⟩)
    (by kernel_rfl)
#print axioms fnExactLibAnnuity_card
end Go.Proofs.YtidlcolgiololaaDoor
