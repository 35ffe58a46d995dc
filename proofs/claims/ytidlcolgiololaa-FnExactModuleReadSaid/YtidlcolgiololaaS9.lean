/- Proved: each Go function named here answers as its plain Lean function says, in whatever memory; no condition. Written by a program of this session over the print of the kit. -/
import Derived.Test.YtidlcolgiololaaSq
import Derived.Test.YtidlcolgiololaaS0
import Derived.Test.YtidlcolgiololaaS8
namespace Go.Proofs.Ytidlcolgiololaa.S
open Go.RowKit Go.Proofs.YtidlcolgiololaaW.PrintWords Go.Proofs.YtidlcolgiololaaW.PrintLast Go.Proofs.YtidlcolgiololaaW.PrintMore
attribute [local go_sem] max2_int min2_int max_two min_two max_three min_three max_four min_four   -- for this text's walks alone
set_option linter.unusedVariables false
set_option linter.unusedSimpArgs false

/-! ### slices_Repeat_int64_int64: function 85 -/
def slices_Repeat_int64_int64.f (l0 : List Int) (a1 : Int) : Option (List Int) := if l0.length = 1 ∧ 1 ≤ a1 ∧ a1 ≤ 1000000 ∧ bits_Mul.f 1 a1 = some (0, a1) then some (List.replicate a1.toNat (rd l0 0)) else none
set_option maxHeartbeats 8000000 in
set_option maxRecDepth 100000 in
theorem slices_Repeat_int64_int64.rep (ad : Addr) (c0 : Nat) (v : Int) (n : Nat) (hn : 0 < n) (hn1 : n ≤ 1000000) (w : World) (hcell : w.cell? ad = some (.int .i64 v)) (hm : bits_Mul.f 1 n = some (0, (n : Int))) :
  Calls Try.prog 85 #[.slice (some ad) 1 c0, .int .i64 n] w fun e w' => ∃ v0_ : Value, e = .returned v0_ ∧ Kd.R (Kd.int .i64) 2 w' w.heap.size (fun _ => True) v0_ (List.replicate n v) ∧ Below w.heap.size w w' := by
  have h0 : ¬ ((n : Int) < 0) := by omega
  have hw1 : IntKind.u64.wrap (n : Int) = (n : Int) := by
    have q : IntKind.u64.wrap (n : Int) = (n : Int) % 18446744073709551616 := by simp [IntKind.wrap, IntKind.signed, IntKind.bits]
    omega
  have hw2 : IntKind.i64.wrap (n : Int) = (n : Int) := by rw [IntKind.wrap_i64]; omega
  have hb : ¬ (9223372036854775807 < (n : Int)) := by omega
  go_enter Try.func85, Try.ntmps85
  go_wp2_with (fail)
  refine (bits_Mul.calls 1 n 0 n w hm).mono ?_
  rintro e w1 ⟨rfl, nd, rfl⟩
  have hcell' : (w.drewN nd).cell? ad = some (.int .i64 v) := hcell
  obtain ⟨i0, hi0, hz⟩ := Option.map_eq_some_iff.1 (show (Try.prog.info? 2).map (fun i => (i.zero, i.size, i.bytes)) = some (some (.int .i64 0), 1, 8) from by kernel_rfl)
  simp only [Prod.mk.injEq] at hz
  obtain ⟨hz0, hzs, hzb⟩ := hz
  obtain ⟨ROW, hROW⟩ : ∃ ROW, ROW = madeCells (Value.int .i64 0).cells (n * i0.size) := ⟨_, rfl⟩
  have hRs : ROW.size = n := by rw [hROW, hzs]; simp [madeCells, Value.cells]
  have hmk : (Instr.makeSlice 53 (.int .i64 (n : Int)) (.int .i64 (n : Int))).run Try.prog (w.drewN nd) = .ok (.slice (some ⟨w.heap.size, 0, none⟩) n n) ((w.drewN nd).alloc (.cells ROW 2)) := by
    have h := run_make (P := Try.prog) (w.drewN nd) 53 2 i0 _ Try.underlying53 hi0 hz0 .i64 .i64 (n : Int) (n : Int) (by omega) (Int.le_refl _) (by rw [hzb]; omega) (by omega)
    rw [Int.toNat_natCast, ← hROW] at h
    exact h
  obtain ⟨W1, hW1⟩ : ∃ W1, W1 = (w.drewN nd).alloc (.cells ROW 2) := ⟨_, rfl⟩
  rw [← hW1] at hmk
  have hg1 : W1.heap[w.heap.size]? = some (.cells ROW 2 (0, 0)) := by rw [hW1]; exact blk_new (w.drewN nd) _
  have hB1 : Below w.heap.size w W1 := by rw [hW1]; exact below_alloc (pw_below_drewN (Below.refl _ _) nd) _
  have hc1 : W1.cell? ad = some (.int .i64 v) := (hB1.cell (World.block_lt_of_cell? _ _ hcell)).trans hcell
  have had : ad.add 0 = ad := by cases ad with | mk b o s => cases s <;> rfl
  have hcp : ∀ ty, (Builtin.copy_ #[53, 53] ty #[.slice (some ⟨w.heap.size, 0, none⟩) n n, .slice (some ad) 1 c0]).run Try.prog W1 = .ok (goInt (Nat.min 1 n)) (W1.setRow w.heap.size (ROW.toList.take 0 ++ [Value.int .i64 v] ++ ROW.toList.drop 1).toArray) := fun ty =>
    Go.Proofs.Ytidlcolgiololaa.Rows.copy_row W1 53 53 ty 2 w.heap.size 0 n n ad 1 c0 ROW 2 [Value.int .i64 v] 1 Try.underlying53 (by kernel_rfl) hg1 (by simp only [Nat.min_def, List.length_singleton]; split <;> omega) (fun j u hj => by
      cases j with
      | zero =>
        rw [had, ← Option.some.inj hj]
        exact hc1
      | succ j => simp at hj) (by simp; omega) (fun u hu => by rw [List.mem_singleton.1 hu]; rfl)
  rw [show Nat.min 1 n = 1 from Nat.min_eq_left (by omega)] at hcp
  obtain ⟨g, hgg⟩ : ∃ g, g = w.heap.size := ⟨_, rfl⟩
  obtain ⟨W2, hW2⟩ : ∃ W2, W2 = W1.setRow w.heap.size (ROW.toList.take 0 ++ [Value.int .i64 v] ++ ROW.toList.drop 1).toArray := ⟨_, rfl⟩
  have hg2 : W2.heap[g]? = some (.cells (ROW.toList.take 0 ++ [Value.int .i64 v] ++ ROW.toList.drop 1).toArray 2 (0, 0)) := by rw [hW2, hgg]; exact setRow_heap W1 _ ROW _ 2 (0, 0) hg1
  have hB2 : Below w.heap.size w W2 := by
    rw [hW2]
    exact ⟨hB1.os, hB1.tape, hB1.output, by simpa using hB1.size, fun k hk => (setRow_other W1 _ k _ (by omega)).trans (hB1.block k hk)⟩
  rw [← hW2] at hcp
  have H2 := Aside0.mk (And.intro hg2 (And.intro hB2 (And.intro hRs hgg)))
  rw [← hgg] at hcp hmk
  have hinit : ∃ cur : Array Value, cur.size = n ∧ cur.toList.take 1 = List.replicate 1 (Value.int .i64 v) ∧ W2.heap[g]? = some (.cells cur 2 (0, 0)) :=
    ⟨_, by simp [hRs]; omega, by simp, hg2⟩
  have HI := Aside0.mk hinit
  clear hi0 hz0 hzs hzb hROW hg1 hB1 hRs hc1 hW1 hW2 hg2 hB2 hinit hgg
  go_wp2_with (fail)
  go_loopg [8] n (fun kq v8 w' => ∃ m : Nat, v8 = .int .i64 m ∧ Aside0 (1 ≤ m ∧ m ≤ n ∧ n ≤ m + kq) ∧ Aside0 (∃ cur : Array Value, cur.size = n ∧ cur.toList.take m = List.replicate m (Value.int .i64 v) ∧ w'.heap[g]? = some (.cells cur 2 (0, 0))) ∧ Aside0 (Below w.heap.size w w'))
  case atStart => exact ⟨1, rfl, ⟨by omega, by omega, by omega⟩, HI, ⟨H2.out.2.1⟩⟩
  case round =>
    obtain ⟨m, rfl, HM, HCU, HB⟩ := hrel
    by_cases hmn : m < n
    case neg =>
      have hmn' : ¬ ((m : Int) < (n : Int)) := by omega
      go_wp2
      go_ret
      obtain ⟨cur, hs, ht, hh⟩ := HCU.out
      obtain rfl : m = n := by have := HM.out; omega
      refine ⟨_, rfl, ⟨fun _ _ => trivial, List.replicate m (Value.int .i64 v), ⟨by simp [Kd.int, Kd.scalar], .inr ⟨g, m, cur, (by rw [List.length_replicate]; rfl), by rw [H2.out.2.2.2]; exact Nat.le_refl _, hh, by rw [List.length_replicate]; exact Nat.le_refl _, by unfold maxLen; omega, by rw [hs]; simp [Kd.int, Kd.scalar], by rw [List.length_replicate]; simpa [Kd.int, Kd.scalar] using ht⟩⟩, ?_⟩, HB.out⟩
      refine ⟨by simp [Kd.int, Kd.scalar], fun j p hj => ?_⟩
      have hjm : j < m := by have := (List.getElem?_eq_some_iff.1 hj).1; simpa using this
      have hp : p = v := by
        have := (List.getElem?_eq_some_iff.1 hj).2
        simpa using this.symm
      subst hp
      show _ = [Value.int .i64 p]
      have e : (Kd.int .i64).sz = 1 := rfl
      rw [e, Nat.mul_one, List.drop_replicate, List.take_replicate, Nat.min_eq_left (by omega)]
      rfl
    have hmn' : (m : Int) < (n : Int) := by omega
    cases gk with
    | zero => exact absurd HM.out (by omega)
    | succ k1 =>
      obtain ⟨c, hc⟩ : ∃ c, c = Nat.min m (n - m) := ⟨_, rfl⟩
      have hc1 : 1 ≤ c ∧ c ≤ m ∧ c ≤ n - m := by have := HM.out; rw [hc]; simp only [Nat.min_def]; split <;> omega
      obtain ⟨cur, hs, ht, hh⟩ := HCU.out
      have hcl : ∀ W : World, W.heap[g]? = some (.cells cur 2 (0, 0)) → ∀ ty, (Builtin.copy_ #[53, 53] ty #[.slice (some ⟨g, m, none⟩) (n - m) (n - m), .slice (some ⟨g, 0, none⟩) m n]).run Try.prog W = .ok (goInt c) (W.setRow g (cur.toList.take m ++ cur.toList.take c ++ cur.toList.drop (m + (cur.toList.take c).length)).toArray) := fun W hW ty => by
        have hl : (cur.toList.take c).length = c := by rw [List.length_take, Array.length_toList, hs]; omega
        have h := Go.Proofs.Ytidlcolgiololaa.Rows.copy_row W 53 53 ty 2 g m (n - m) (n - m) ⟨g, 0, none⟩ m n cur 2 (cur.toList.take c) 1 Try.underlying53 (by kernel_rfl) hW (by rw [hl, ← hc, Nat.mul_one]) (fun j u hj => by
          rw [Addr.add_lit, Nat.zero_add, blk_cell hW j]
          rw [List.getElem?_take] at hj
          split at hj
          · simpa using hj
          · cases hj) (by rw [hl, hs]; omega) (fun u hu => by
          have hu' : u ∈ cur.toList.take m := by
            have : cur.toList.take c = (cur.toList.take m).take c := by rw [List.take_take, Nat.min_eq_left hc1.2.1]
            rw [this] at hu
            exact List.mem_of_mem_take hu
          rw [ht] at hu'
          rw [List.eq_of_mem_replicate hu']
          rfl)
        rw [h, ← hc]
      have hcl1 := hcl wr hh
      have hcl2 := hcl wr.drew hh
      obtain ⟨new, hnew⟩ : ∃ new, new = (cur.toList.take m ++ cur.toList.take c ++ cur.toList.drop (m + (cur.toList.take c).length)).toArray := ⟨_, rfl⟩
      rw [← hnew] at hcl1 hcl2
      have hns : new.size = n := by rw [hnew]; simp only [List.size_toArray, List.length_append, List.length_take, List.length_drop, Array.length_toList, hs]; omega
      have hnt : new.toList.take (m + c) = List.replicate (m + c) (Value.int .i64 v) := by
        have h2 : cur.toList.take c = List.replicate c (Value.int .i64 v) := by
          have : cur.toList.take c = (cur.toList.take m).take c := by rw [List.take_take, Nat.min_eq_left hc1.2.1]
          rw [this, ht, List.take_replicate, Nat.min_eq_left hc1.2.1]
        rw [hnew, ht, h2]
        show (_ ++ _ ++ _ : List Value).take (m + c) = _
        rw [List.replicate_append_replicate]
        exact List.take_left' (by rw [List.length_replicate])
      have hwr : IntKind.i64.wrap ((m : Int) + (c : Int)) = (m : Int) + (c : Int) := by rw [IntKind.wrap_i64]; have := HM.out; omega
      have HN := Aside0.mk (And.intro hns (And.intro hnt (And.intro hh hc1)))
      have hmle : (m : Int) ≤ (n : Int) := by omega
      have hne1 : ¬ (n = m) := by omega
      clear hcl hs ht hh hnew hns hnt hc1 hc HI
      go_wp2
      go_region
      go_wp2
      go_roundg k1
      case measure => omega
      case rel => exact ⟨m + c, (by simp), ⟨by have := HM.out; have := HN.out.2.2.2; omega⟩, ⟨new, HN.out.1, HN.out.2.1, setRow_heap wr.drew g cur new 2 (0, 0) HN.out.2.2.1⟩,
        ⟨⟨HB.out.os, HB.out.tape, HB.out.output, by simpa using HB.out.size, fun q hq => (setRow_other wr.drew g q _ (by have := H2.out.2.2.2; omega)).trans (HB.out.block q hq)⟩⟩⟩
theorem slices_Repeat_int64_int64.calls (A0 : Option Addr) (c0 : Nat) (l0 : List Int) (a1 : Int) (r : List Int) (w : World) (hr0 : Kd.C (Kd.int .i64) w A0 l0.length l0) (hc0 : l0.length ≤ c0) (h : slices_Repeat_int64_int64.f l0 a1 = some r) :
    Calls Try.prog 85 #[.slice A0 l0.length c0, .int .i64 a1] w fun e w' => ∃ v0_ : Value, e = .returned (v0_) ∧ Kd.R (Kd.int .i64) 2 w' w.heap.size (fun _ => True) v0_ r ∧ Below w.heap.size w w' := by
  unfold slices_Repeat_int64_int64.f at h
  by_cases c : l0.length = 1 ∧ 1 ≤ a1 ∧ a1 ≤ 1000000 ∧ bits_Mul.f 1 a1 = some (0, a1)
  case neg => rw [if_neg c] at h; cases h
  rw [if_pos c] at h
  obtain rfl := Option.some.inj h
  obtain ⟨v, rfl⟩ := List.length_eq_one_iff.1 c.1
  obtain ⟨n, rfl⟩ : ∃ n : Nat, a1 = n := ⟨a1.toNat, by omega⟩
  obtain ⟨ad, rfl, hx⟩ := Kd.at_int hr0 0 (by decide) (by simp)
  rw [Int.toNat_natCast]
  have hx' : w.cell? ad = some (.int .i64 v) := by
    have had : ad.add 0 = ad := by cases ad with | mk b o s => cases s <;> rfl
    have := hx
    rw [show (0 : Int).toNat = 0 from rfl, had] at this
    exact this
  exact slices_Repeat_int64_int64.rep ad c0 v n (by omega) (by omega) w hx' c.2.2.2

/-! ### impl_CallTypes: function 114 -/
def impl_CallTypes.j0 : Nat → ByteArray → Bool → Option (List Int)
 | 0, _, _ => none
 | k + 1, x3, x16 => if x16 = true then (some (([2, 2, 2] : List Int))) else (if x3.toList = ([115, 104, 97, 114, 101] : List UInt8) then (some (([2, 2, 3] : List Int))) else (some ([] : List Int)))
def impl_CallTypes.f (k : Nat) (a0 : ByteArray) : Option (List Int) := if a0.toList = ([105, 110, 116, 101, 114, 101, 115, 116] : List UInt8) then (some (([2, 2, 3, 4, 4] : List Int))) else (if a0.toList = ([105, 110, 115, 116, 97, 108, 109, 101, 110, 116] : List UInt8) then (some (([2, 2, 3, 1, 4] : List Int))) else (if a0.toList = ([108, 97, 116, 101, 114] : List UInt8) then (some (([4, 4, 1] : List Int))) else (if a0.toList = ([100, 97, 121, 115] : List UInt8) then (some (([1, 4, 4] : List Int))) else (if a0.toList = ([108, 101, 97, 115, 116] : List UInt8) then (impl_CallTypes.j0 k a0 (a0.toList == ([108, 101, 97, 115, 116] : List UInt8))) else (impl_CallTypes.j0 k a0 (a0.toList == ([109, 111, 115, 116] : List UInt8)))))))
theorem impl_CallTypes.mono_l : ∀ k, (∀ y0 y1, LeO (impl_CallTypes.j0 k y0 y1) (impl_CallTypes.j0 (k + 1) y0 y1))
 | 0 => fun _ _ r h => by simp [impl_CallTypes.j0] at h
 | k + 1 => by
  have ih0 := impl_CallTypes.mono_l k
  ·
   intro y0 y1
   unfold impl_CallTypes.j0
   repeat' first
   | (with_reducible exact ih0 _ _)
   | (with_reducible exact LeO.refl _)
   | (with_reducible exact LeO.none _)
   | (with_reducible refine LeO.ite ?_ ?_)
   | (with_reducible refine LeO.bind ?_ (fun _ => ?_))
   | exact ih0 _ _
   | exact LeO.none _
   | refine LeO.ite ?_ ?_
   | refine LeO.bind ?_ (fun _ => ?_)
theorem impl_CallTypes.mono : ∀ a0 k, LeO (impl_CallTypes.f k a0) (impl_CallTypes.f (k + 1) a0) := by
 intro a0 k
 have ih0 := impl_CallTypes.mono_l k
 unfold impl_CallTypes.f
 repeat' first
   | (with_reducible exact ih0 _ _)
   | (with_reducible exact LeO.refl _)
   | (with_reducible exact LeO.none _)
   | (with_reducible refine LeO.ite ?_ ?_)
   | (with_reducible refine LeO.bind ?_ (fun _ => ?_))
   | exact ih0 _ _
   | exact LeO.none _
   | refine LeO.ite ?_ ?_
   | refine LeO.bind ?_ (fun _ => ?_)
set_option maxHeartbeats 8000000 in
set_option maxRecDepth 100000 in
theorem impl_CallTypes.calls (k : Nat) (a0 : ByteArray) (r : List Int) (w : World) (h : impl_CallTypes.f k a0 = some r) :
  Calls Try.prog 114 #[.string a0] w fun e w' => ∃ v0_ : Value, e = .returned (v0_) ∧ Kd.R (Kd.int .i64) 2 w' w.heap.size (fun _ => True) v0_ r ∧ Below w.heap.size w w' := by
 have HB := Aside0.mk (Below.refl w.heap.size w)
 have H : (if a0.toList = ([105, 110, 116, 101, 114, 101, 115, 116] : List UInt8) then (some (([2, 2, 3, 4, 4] : List Int))) else (if a0.toList = ([105, 110, 115, 116, 97, 108, 109, 101, 110, 116] : List UInt8) then (some (([2, 2, 3, 1, 4] : List Int))) else (if a0.toList = ([108, 97, 116, 101, 114] : List UInt8) then (some (([4, 4, 1] : List Int))) else (if a0.toList = ([100, 97, 121, 115] : List UInt8) then (some (([1, 4, 4] : List Int))) else (if a0.toList = ([108, 101, 97, 115, 116] : List UInt8) then (impl_CallTypes.j0 k a0 (a0.toList == ([108, 101, 97, 115, 116] : List UInt8))) else (impl_CallTypes.j0 k a0 (a0.toList == ([109, 111, 115, 116] : List UInt8)))))))) = some r := h
 clear h
 by_cases c2 : a0.toList = ([105, 110, 116, 101, 114, 101, 115, 116] : List UInt8)
 ·
  rw [if_pos c2] at H
  have c2b0 : (a0.toList == ([105, 110, 116, 101, 114, 101, 115, 116] : List UInt8)) = true := beq_iff_eq.mpr c2
  have c2b1 : (a0.toList != ([105, 110, 116, 101, 114, 101, 115, 116] : List UInt8)) = false := bne_eq_false_iff_eq.mpr c2
  clear c2
  obtain ⟨y198, hy198⟩ : ∃ y_ : List Int, y_ = (([2, 2, 3, 4, 4] : List Int)) := ⟨_, rfl⟩
  replace H : (some y198) = some r := by first | (rw [hy198]; with_reducible exact H) | (have H2_ := (Option.bind_some _ _).symm.trans H; rw [hy198]; with_reducible exact H2_) | (have H2_ := (Option.bind_some _ _).symm.trans H; with_reducible exact H2_) | with_reducible exact H | (rw [hy198]; exact H) | exact H
  have Ny198 := Aside0.mk hy198
  clear hy198
  obtain rfl := Option.some.inj H
  go_enter Try.func114, Try.ntmps114
  go_wp2_with (first | ((with_reducible refine gate_dst (N := 6) rfl ?_); refine Kd.R_lit (Kd.int .i64) _ 2 ?hg (N := 6) ?hd (xs := ([2, 2, 3, 4, 4] : List Int)) (inner := [.int .i64 2, .int .i64 2, .int .i64 3, .int .i64 4, .int .i64 4]) (ok := fun _ => True) (okp := fun _ => True) ?hr ?hp (fun _ hk => hk) trivial (Below.refl _ _) (Nat.le_refl _) (by simp) ?_; (case hd => rfl); (case hg => rfl); (case hr => first | (go_simp; done) | (go_simp; rfl)); (case hp => exact (Reps.one (show Kd.M (Kd.int .i64) _ _ _ 2 [.int .i64 2] from rfl) (Reps.one (show Kd.M (Kd.int .i64) _ _ _ 2 [.int .i64 2] from rfl) (Reps.one (show Kd.M (Kd.int .i64) _ _ _ 3 [.int .i64 3] from rfl) (Reps.one (show Kd.M (Kd.int .i64) _ _ _ 4 [.int .i64 4] from rfl) (Reps.one (show Kd.M (Kd.int .i64) _ _ _ 4 [.int .i64 4] from rfl) (Reps.none _ _))))))); intro v199 w3 ho4 hb hg_ hnew_; clear hg_ hnew_; (first | rw [← Ny198.out] at ho4 | (simp only [Int.reduceToNat] at ho4; rw [← Ny198.out] at ho4)); have n0_ := Aside0.mk (Kd.R_lower ho4 (below_size hbm)); have n1_ := bst hb; clear HB; have HO200 := n0_; have HB := n1_; clear n0_ n1_; clear hb ho4))
  go_ret
  exact ⟨_, rfm, by (with_reducible repeat (first | apply Kd.R_alloc | apply Kd.R_drewN | apply Kd.R_drew)); exact HO200.out, hbm⟩
 ·
  rw [if_neg c2] at H
  have c2b0 : (a0.toList == ([105, 110, 116, 101, 114, 101, 115, 116] : List UInt8)) = false := beq_eq_false_iff_ne.mpr c2
  have c2b1 : (a0.toList != ([105, 110, 116, 101, 114, 101, 115, 116] : List UInt8)) = true := bne_iff_ne.mpr c2
  by_cases c5 : a0.toList = ([105, 110, 115, 116, 97, 108, 109, 101, 110, 116] : List UInt8)
  ·
   rw [if_pos c5] at H
   have c5b0 : (a0.toList == ([105, 110, 115, 116, 97, 108, 109, 101, 110, 116] : List UInt8)) = true := beq_iff_eq.mpr c5
   have c5b1 : (a0.toList != ([105, 110, 115, 116, 97, 108, 109, 101, 110, 116] : List UInt8)) = false := bne_eq_false_iff_eq.mpr c5
   clear c5
   obtain ⟨y201, hy201⟩ : ∃ y_ : List Int, y_ = (([2, 2, 3, 1, 4] : List Int)) := ⟨_, rfl⟩
   replace H : (some y201) = some r := by first | (rw [hy201]; with_reducible exact H) | (have H2_ := (Option.bind_some _ _).symm.trans H; rw [hy201]; with_reducible exact H2_) | (have H2_ := (Option.bind_some _ _).symm.trans H; with_reducible exact H2_) | with_reducible exact H | (rw [hy201]; exact H) | exact H
   have Ny201 := Aside0.mk hy201
   clear hy201
   obtain rfl := Option.some.inj H
   go_enter Try.func114, Try.ntmps114
   go_wp2_with (first | ((with_reducible refine gate_dst (N := 9) rfl ?_); refine Kd.R_lit (Kd.int .i64) _ 2 ?hg (N := 9) ?hd (xs := ([2, 2, 3, 1, 4] : List Int)) (inner := [.int .i64 2, .int .i64 2, .int .i64 3, .int .i64 1, .int .i64 4]) (ok := fun _ => True) (okp := fun _ => True) ?hr ?hp (fun _ hk => hk) trivial (Below.refl _ _) (Nat.le_refl _) (by simp) ?_; (case hd => rfl); (case hg => rfl); (case hr => first | (go_simp; done) | (go_simp; rfl)); (case hp => exact (Reps.one (show Kd.M (Kd.int .i64) _ _ _ 2 [.int .i64 2] from rfl) (Reps.one (show Kd.M (Kd.int .i64) _ _ _ 2 [.int .i64 2] from rfl) (Reps.one (show Kd.M (Kd.int .i64) _ _ _ 3 [.int .i64 3] from rfl) (Reps.one (show Kd.M (Kd.int .i64) _ _ _ 1 [.int .i64 1] from rfl) (Reps.one (show Kd.M (Kd.int .i64) _ _ _ 4 [.int .i64 4] from rfl) (Reps.none _ _))))))); intro v202 w6 ho7 hb hg_ hnew_; clear hg_ hnew_; (first | rw [← Ny201.out] at ho7 | (simp only [Int.reduceToNat] at ho7; rw [← Ny201.out] at ho7)); have n0_ := Aside0.mk (Kd.R_lower ho7 (below_size hbm)); have n1_ := bst hb; clear HB; have HO203 := n0_; have HB := n1_; clear n0_ n1_; clear hb ho7))
   go_ret
   exact ⟨_, rfm, by (with_reducible repeat (first | apply Kd.R_alloc | apply Kd.R_drewN | apply Kd.R_drew)); exact HO203.out, hbm⟩
  ·
   rw [if_neg c5] at H
   have c5b0 : (a0.toList == ([105, 110, 115, 116, 97, 108, 109, 101, 110, 116] : List UInt8)) = false := beq_eq_false_iff_ne.mpr c5
   have c5b1 : (a0.toList != ([105, 110, 115, 116, 97, 108, 109, 101, 110, 116] : List UInt8)) = true := bne_iff_ne.mpr c5
   by_cases c8 : a0.toList = ([108, 97, 116, 101, 114] : List UInt8)
   ·
    rw [if_pos c8] at H
    have c8b0 : (a0.toList == ([108, 97, 116, 101, 114] : List UInt8)) = true := beq_iff_eq.mpr c8
    have c8b1 : (a0.toList != ([108, 97, 116, 101, 114] : List UInt8)) = false := bne_eq_false_iff_eq.mpr c8
    clear c8
    obtain ⟨y204, hy204⟩ : ∃ y_ : List Int, y_ = (([4, 4, 1] : List Int)) := ⟨_, rfl⟩
    replace H : (some y204) = some r := by first | (rw [hy204]; with_reducible exact H) | (have H2_ := (Option.bind_some _ _).symm.trans H; rw [hy204]; with_reducible exact H2_) | (have H2_ := (Option.bind_some _ _).symm.trans H; with_reducible exact H2_) | with_reducible exact H | (rw [hy204]; exact H) | exact H
    have Ny204 := Aside0.mk hy204
    clear hy204
    obtain rfl := Option.some.inj H
    go_enter Try.func114, Try.ntmps114
    go_wp2_with (first | ((with_reducible refine gate_dst (N := 12) rfl ?_); refine Kd.R_lit (Kd.int .i64) _ 2 ?hg (N := 12) ?hd (xs := ([4, 4, 1] : List Int)) (inner := [.int .i64 4, .int .i64 4, .int .i64 1]) (ok := fun _ => True) (okp := fun _ => True) ?hr ?hp (fun _ hk => hk) trivial (Below.refl _ _) (Nat.le_refl _) (by simp) ?_; (case hd => rfl); (case hg => rfl); (case hr => first | (go_simp; done) | (go_simp; rfl)); (case hp => exact (Reps.one (show Kd.M (Kd.int .i64) _ _ _ 4 [.int .i64 4] from rfl) (Reps.one (show Kd.M (Kd.int .i64) _ _ _ 4 [.int .i64 4] from rfl) (Reps.one (show Kd.M (Kd.int .i64) _ _ _ 1 [.int .i64 1] from rfl) (Reps.none _ _))))); intro v205 w9 ho10 hb hg_ hnew_; clear hg_ hnew_; (first | rw [← Ny204.out] at ho10 | (simp only [Int.reduceToNat] at ho10; rw [← Ny204.out] at ho10)); have n0_ := Aside0.mk (Kd.R_lower ho10 (below_size hbm)); have n1_ := bst hb; clear HB; have HO206 := n0_; have HB := n1_; clear n0_ n1_; clear hb ho10))
    go_ret
    exact ⟨_, rfm, by (with_reducible repeat (first | apply Kd.R_alloc | apply Kd.R_drewN | apply Kd.R_drew)); exact HO206.out, hbm⟩
   ·
    rw [if_neg c8] at H
    have c8b0 : (a0.toList == ([108, 97, 116, 101, 114] : List UInt8)) = false := beq_eq_false_iff_ne.mpr c8
    have c8b1 : (a0.toList != ([108, 97, 116, 101, 114] : List UInt8)) = true := bne_iff_ne.mpr c8
    by_cases c11 : a0.toList = ([100, 97, 121, 115] : List UInt8)
    ·
     rw [if_pos c11] at H
     have c11b0 : (a0.toList == ([100, 97, 121, 115] : List UInt8)) = true := beq_iff_eq.mpr c11
     have c11b1 : (a0.toList != ([100, 97, 121, 115] : List UInt8)) = false := bne_eq_false_iff_eq.mpr c11
     clear c11
     obtain ⟨y207, hy207⟩ : ∃ y_ : List Int, y_ = (([1, 4, 4] : List Int)) := ⟨_, rfl⟩
     replace H : (some y207) = some r := by first | (rw [hy207]; with_reducible exact H) | (have H2_ := (Option.bind_some _ _).symm.trans H; rw [hy207]; with_reducible exact H2_) | (have H2_ := (Option.bind_some _ _).symm.trans H; with_reducible exact H2_) | with_reducible exact H | (rw [hy207]; exact H) | exact H
     have Ny207 := Aside0.mk hy207
     clear hy207
     obtain rfl := Option.some.inj H
     go_enter Try.func114, Try.ntmps114
     go_wp2_with (first | ((with_reducible refine gate_dst (N := 15) rfl ?_); refine Kd.R_lit (Kd.int .i64) _ 2 ?hg (N := 15) ?hd (xs := ([1, 4, 4] : List Int)) (inner := [.int .i64 1, .int .i64 4, .int .i64 4]) (ok := fun _ => True) (okp := fun _ => True) ?hr ?hp (fun _ hk => hk) trivial (Below.refl _ _) (Nat.le_refl _) (by simp) ?_; (case hd => rfl); (case hg => rfl); (case hr => first | (go_simp; done) | (go_simp; rfl)); (case hp => exact (Reps.one (show Kd.M (Kd.int .i64) _ _ _ 1 [.int .i64 1] from rfl) (Reps.one (show Kd.M (Kd.int .i64) _ _ _ 4 [.int .i64 4] from rfl) (Reps.one (show Kd.M (Kd.int .i64) _ _ _ 4 [.int .i64 4] from rfl) (Reps.none _ _))))); intro v208 w12 ho13 hb hg_ hnew_; clear hg_ hnew_; (first | rw [← Ny207.out] at ho13 | (simp only [Int.reduceToNat] at ho13; rw [← Ny207.out] at ho13)); have n0_ := Aside0.mk (Kd.R_lower ho13 (below_size hbm)); have n1_ := bst hb; clear HB; have HO209 := n0_; have HB := n1_; clear n0_ n1_; clear hb ho13))
     go_ret
     exact ⟨_, rfm, by (with_reducible repeat (first | apply Kd.R_alloc | apply Kd.R_drewN | apply Kd.R_drew)); exact HO209.out, hbm⟩
    ·
     rw [if_neg c11] at H
     have c11b0 : (a0.toList == ([100, 97, 121, 115] : List UInt8)) = false := beq_eq_false_iff_ne.mpr c11
     have c11b1 : (a0.toList != ([100, 97, 121, 115] : List UInt8)) = true := bne_iff_ne.mpr c11
     have HC14 := Aside0.mk H
     clear H
     go_enter Try.func114, Try.ntmps114
     go_upto_if 16 with (fail)
     go_cut [16] (fun v16 wc => ∃ (kq : Nat) (x16_13 : Bool), v16 = .bool x16_13 ∧ Aside0 (impl_CallTypes.j0 kq a0 x16_13 = some r) ∧ Aside0 (kq ≤ k) ∧ Aside0 (Below w.heap.size w wc))
     case first =>
      have H := HC14.out
      clear HC14
      by_cases c15 : a0.toList = ([108, 101, 97, 115, 116] : List UInt8)
      ·
       rw [if_pos c15] at H
       have c15b0 : (a0.toList == ([108, 101, 97, 115, 116] : List UInt8)) = true := beq_iff_eq.mpr c15
       have c15b1 : (a0.toList != ([108, 101, 97, 115, 116] : List UInt8)) = false := bne_eq_false_iff_eq.mpr c15
       clear c15
       (first | rw [c15b0] | (simp only [i64_w, i32_w]; rw [c15b0]) | skip)
       have H' := Aside0.mk H
       clear H
       go_wp2
       go_meet
       case rel => exact ⟨_, ((a0.toList == ([108, 101, 97, 115, 116] : List UInt8))), (by first | rfl | (simp; done) | (simp [*]; done)), H', ⟨by first | omega | exact Nat.le_refl _⟩, ⟨hbm⟩⟩
      ·
       rw [if_neg c15] at H
       have c15b0 : (a0.toList == ([108, 101, 97, 115, 116] : List UInt8)) = false := beq_eq_false_iff_ne.mpr c15
       have c15b1 : (a0.toList != ([108, 101, 97, 115, 116] : List UInt8)) = true := bne_iff_ne.mpr c15
       (first | rw [c15b0] | (simp only [i64_w, i32_w]; rw [c15b0]) | skip)
       have H' := Aside0.mk H
       clear H
       go_wp2
       go_meet
       case rel => exact ⟨_, ((a0.toList == ([109, 111, 115, 116] : List UInt8))), (by first | rfl | (simp; done) | (simp [*]; done)), H', ⟨by first | omega | exact Nat.le_refl _⟩, ⟨hbm⟩⟩
     case rest =>
      clear HC14
      try clear c1; try clear c2; try clear c2b0; try clear c2b1; try clear p2; try clear c5; try clear c5b0; try clear c5b1; try clear c8; try clear c8b0; try clear c8b1; try clear c11; try clear c11b0; try clear c11b1; try clear c15; try clear c15b0; try clear c15b1
      obtain ⟨kq, x16_13, rfl, HA, HJ13, HB⟩ := hcut
      cases kq with
      | zero => exact absurd HA.out (by simp [impl_CallTypes.j0])
      | succ kj13 =>
       have H := HA.out
       clear HA
       simp only [impl_CallTypes.j0] at H
       by_cases c16 : x16_13 = true
       ·
        subst c16
        have H1 : (some (([2, 2, 2] : List Int))) = some r := by rw [if_pos rfl] at H; exact H
        clear H
        have H := H1
        clear H1
        obtain ⟨y210, hy210⟩ : ∃ y_ : List Int, y_ = (([2, 2, 2] : List Int)) := ⟨_, rfl⟩
        replace H : (some y210) = some r := by first | (rw [hy210]; with_reducible exact H) | (have H2_ := (Option.bind_some _ _).symm.trans H; rw [hy210]; with_reducible exact H2_) | (have H2_ := (Option.bind_some _ _).symm.trans H; with_reducible exact H2_) | with_reducible exact H | (rw [hy210]; exact H) | exact H
        have Ny210 := Aside0.mk hy210
        clear hy210
        obtain rfl := Option.some.inj H
        go_wp2_with (first | ((with_reducible refine gate_dst (N := 19) rfl ?_); refine Kd.R_lit (Kd.int .i64) _ 2 ?hg (N := 19) ?hd (xs := ([2, 2, 2] : List Int)) (inner := [.int .i64 2, .int .i64 2, .int .i64 2]) (ok := fun _ => True) (okp := fun _ => True) ?hr ?hp (fun _ hk => hk) trivial (Below.refl _ _) (Nat.le_refl _) (by simp) ?_; (case hd => rfl); (case hg => rfl); (case hr => first | (go_simp; done) | (go_simp; rfl)); (case hp => exact (Reps.one (show Kd.M (Kd.int .i64) _ _ _ 2 [.int .i64 2] from rfl) (Reps.one (show Kd.M (Kd.int .i64) _ _ _ 2 [.int .i64 2] from rfl) (Reps.one (show Kd.M (Kd.int .i64) _ _ _ 2 [.int .i64 2] from rfl) (Reps.none _ _))))); intro v211 w17 ho18 hb hg_ hnew_; clear hg_ hnew_; (first | rw [← Ny210.out] at ho18 | (simp only [Int.reduceToNat] at ho18; rw [← Ny210.out] at ho18)); have n0_ := Aside0.mk (Kd.R_lower ho18 (below_size hbm)); have n1_ := bst hb; clear HB; have HO212 := n0_; have HB := n1_; clear n0_ n1_; clear hb ho18))
        go_ret
        exact ⟨_, rfm, by (with_reducible repeat (first | apply Kd.R_alloc | apply Kd.R_drewN | apply Kd.R_drew)); exact HO212.out, hbm⟩
       ·
        replace c16 := Bool.eq_false_iff.mpr c16
        subst c16
        have H1 : (if a0.toList = ([115, 104, 97, 114, 101] : List UInt8) then (some (([2, 2, 3] : List Int))) else (some ([] : List Int))) = some r := by rw [if_neg (show ¬ (false = true) by decide)] at H; exact H
        clear H
        have H := H1
        clear H1
        by_cases c19 : a0.toList = ([115, 104, 97, 114, 101] : List UInt8)
        ·
         rw [if_pos c19] at H
         have c19b0 : (a0.toList == ([115, 104, 97, 114, 101] : List UInt8)) = true := beq_iff_eq.mpr c19
         have c19b1 : (a0.toList != ([115, 104, 97, 114, 101] : List UInt8)) = false := bne_eq_false_iff_eq.mpr c19
         clear c19
         obtain ⟨y213, hy213⟩ : ∃ y_ : List Int, y_ = (([2, 2, 3] : List Int)) := ⟨_, rfl⟩
         replace H : (some y213) = some r := by first | (rw [hy213]; with_reducible exact H) | (have H2_ := (Option.bind_some _ _).symm.trans H; rw [hy213]; with_reducible exact H2_) | (have H2_ := (Option.bind_some _ _).symm.trans H; with_reducible exact H2_) | with_reducible exact H | (rw [hy213]; exact H) | exact H
         have Ny213 := Aside0.mk hy213
         clear hy213
         obtain rfl := Option.some.inj H
         go_wp2_with (first | ((with_reducible refine gate_dst (N := 22) rfl ?_); refine Kd.R_lit (Kd.int .i64) _ 2 ?hg (N := 22) ?hd (xs := ([2, 2, 3] : List Int)) (inner := [.int .i64 2, .int .i64 2, .int .i64 3]) (ok := fun _ => True) (okp := fun _ => True) ?hr ?hp (fun _ hk => hk) trivial (Below.refl _ _) (Nat.le_refl _) (by simp) ?_; (case hd => rfl); (case hg => rfl); (case hr => first | (go_simp; done) | (go_simp; rfl)); (case hp => exact (Reps.one (show Kd.M (Kd.int .i64) _ _ _ 2 [.int .i64 2] from rfl) (Reps.one (show Kd.M (Kd.int .i64) _ _ _ 2 [.int .i64 2] from rfl) (Reps.one (show Kd.M (Kd.int .i64) _ _ _ 3 [.int .i64 3] from rfl) (Reps.none _ _))))); intro v214 w20 ho21 hb hg_ hnew_; clear hg_ hnew_; (first | rw [← Ny213.out] at ho21 | (simp only [Int.reduceToNat] at ho21; rw [← Ny213.out] at ho21)); have n0_ := Aside0.mk (Kd.R_lower ho21 (below_size hbm)); have n1_ := bst hb; clear HB; have HO215 := n0_; have HB := n1_; clear n0_ n1_; clear hb ho21))
         go_ret
         exact ⟨_, rfm, by (with_reducible repeat (first | apply Kd.R_alloc | apply Kd.R_drewN | apply Kd.R_drew)); exact HO215.out, hbm⟩
        ·
         rw [if_neg c19] at H
         have c19b0 : (a0.toList == ([115, 104, 97, 114, 101] : List UInt8)) = false := beq_eq_false_iff_ne.mpr c19
         have c19b1 : (a0.toList != ([115, 104, 97, 114, 101] : List UInt8)) = true := bne_iff_ne.mpr c19
         obtain rfl := Option.some.inj H
         go_wp2
         go_ret
         exact ⟨_, rfm, by first | exact Kd.R_nil _ _ _ _ _ | exact Kd.N_nil _ _ _ _ _ | exact Kd.V_nil _ _ _ _ _ | exact Kd.Q_nil _ _ _ _ _ | exact Kd.S_nil _ _ _ _ _, hbm⟩

/-! ### impl_functions: function 115 -/
def impl_functions.f  : Option (List ByteArray) := some (([(⟨#[105, 110, 116, 101, 114, 101, 115, 116]⟩ : ByteArray), (⟨#[105, 110, 115, 116, 97, 108, 109, 101, 110, 116]⟩ : ByteArray), (⟨#[108, 97, 116, 101, 114]⟩ : ByteArray), (⟨#[100, 97, 121, 115]⟩ : ByteArray), (⟨#[108, 101, 97, 115, 116]⟩ : ByteArray), (⟨#[109, 111, 115, 116]⟩ : ByteArray), (⟨#[115, 104, 97, 114, 101]⟩ : ByteArray)] : List ByteArray))
set_option maxHeartbeats 8000000 in
set_option maxRecDepth 100000 in
theorem impl_functions.calls  (r : List ByteArray) (w : World) (h : impl_functions.f  = some r) :
  Calls Try.prog 115 #[] w fun e w' => ∃ v0_ : Value, e = .returned (v0_) ∧ Kd.R Kd.string 9 w' w.heap.size (fun _ => True) v0_ r ∧ Below w.heap.size w w' := by
 have HB := Aside0.mk (Below.refl w.heap.size w)
 have H : (some (([(⟨#[105, 110, 116, 101, 114, 101, 115, 116]⟩ : ByteArray), (⟨#[105, 110, 115, 116, 97, 108, 109, 101, 110, 116]⟩ : ByteArray), (⟨#[108, 97, 116, 101, 114]⟩ : ByteArray), (⟨#[100, 97, 121, 115]⟩ : ByteArray), (⟨#[108, 101, 97, 115, 116]⟩ : ByteArray), (⟨#[109, 111, 115, 116]⟩ : ByteArray), (⟨#[115, 104, 97, 114, 101]⟩ : ByteArray)] : List ByteArray))) = some r := h
 clear h
 obtain ⟨y216, hy216⟩ : ∃ y_ : List ByteArray, y_ = (([(⟨#[105, 110, 116, 101, 114, 101, 115, 116]⟩ : ByteArray), (⟨#[105, 110, 115, 116, 97, 108, 109, 101, 110, 116]⟩ : ByteArray), (⟨#[108, 97, 116, 101, 114]⟩ : ByteArray), (⟨#[100, 97, 121, 115]⟩ : ByteArray), (⟨#[108, 101, 97, 115, 116]⟩ : ByteArray), (⟨#[109, 111, 115, 116]⟩ : ByteArray), (⟨#[115, 104, 97, 114, 101]⟩ : ByteArray)] : List ByteArray)) := ⟨_, rfl⟩
 replace H : (some y216) = some r := by first | (rw [hy216]; with_reducible exact H) | (have H2_ := (Option.bind_some _ _).symm.trans H; rw [hy216]; with_reducible exact H2_) | (have H2_ := (Option.bind_some _ _).symm.trans H; with_reducible exact H2_) | with_reducible exact H | (rw [hy216]; exact H) | exact H
 have Ny216 := Aside0.mk hy216
 clear hy216
 obtain rfl := Option.some.inj H
 go_enter Try.func115, Try.ntmps115
 go_wp2_with (first | ((with_reducible refine gate_dst (N := 1) rfl ?_); refine Kd.R_lit Kd.string _ 9 ?hg (N := 1) ?hd (xs := ([(⟨#[105, 110, 116, 101, 114, 101, 115, 116]⟩ : ByteArray), (⟨#[105, 110, 115, 116, 97, 108, 109, 101, 110, 116]⟩ : ByteArray), (⟨#[108, 97, 116, 101, 114]⟩ : ByteArray), (⟨#[100, 97, 121, 115]⟩ : ByteArray), (⟨#[108, 101, 97, 115, 116]⟩ : ByteArray), (⟨#[109, 111, 115, 116]⟩ : ByteArray), (⟨#[115, 104, 97, 114, 101]⟩ : ByteArray)] : List ByteArray)) (inner := [.string (⟨#[105, 110, 116, 101, 114, 101, 115, 116]⟩ : ByteArray), .string (⟨#[105, 110, 115, 116, 97, 108, 109, 101, 110, 116]⟩ : ByteArray), .string (⟨#[108, 97, 116, 101, 114]⟩ : ByteArray), .string (⟨#[100, 97, 121, 115]⟩ : ByteArray), .string (⟨#[108, 101, 97, 115, 116]⟩ : ByteArray), .string (⟨#[109, 111, 115, 116]⟩ : ByteArray), .string (⟨#[115, 104, 97, 114, 101]⟩ : ByteArray)]) (ok := fun _ => True) (okp := fun _ => True) ?hr ?hp (fun _ hk => hk) trivial (Below.refl _ _) (Nat.le_refl _) (by simp) ?_; (case hd => rfl); (case hg => rfl); (case hr => first | (go_simp; done) | (go_simp; rfl)); (case hp => exact (Reps.one (show Kd.M Kd.string _ _ _ (⟨#[105, 110, 116, 101, 114, 101, 115, 116]⟩ : ByteArray) [.string (⟨#[105, 110, 116, 101, 114, 101, 115, 116]⟩ : ByteArray)] from rfl) (Reps.one (show Kd.M Kd.string _ _ _ (⟨#[105, 110, 115, 116, 97, 108, 109, 101, 110, 116]⟩ : ByteArray) [.string (⟨#[105, 110, 115, 116, 97, 108, 109, 101, 110, 116]⟩ : ByteArray)] from rfl) (Reps.one (show Kd.M Kd.string _ _ _ (⟨#[108, 97, 116, 101, 114]⟩ : ByteArray) [.string (⟨#[108, 97, 116, 101, 114]⟩ : ByteArray)] from rfl) (Reps.one (show Kd.M Kd.string _ _ _ (⟨#[100, 97, 121, 115]⟩ : ByteArray) [.string (⟨#[100, 97, 121, 115]⟩ : ByteArray)] from rfl) (Reps.one (show Kd.M Kd.string _ _ _ (⟨#[108, 101, 97, 115, 116]⟩ : ByteArray) [.string (⟨#[108, 101, 97, 115, 116]⟩ : ByteArray)] from rfl) (Reps.one (show Kd.M Kd.string _ _ _ (⟨#[109, 111, 115, 116]⟩ : ByteArray) [.string (⟨#[109, 111, 115, 116]⟩ : ByteArray)] from rfl) (Reps.one (show Kd.M Kd.string _ _ _ (⟨#[115, 104, 97, 114, 101]⟩ : ByteArray) [.string (⟨#[115, 104, 97, 114, 101]⟩ : ByteArray)] from rfl) (Reps.none _ _))))))))); intro v217 w1 ho2 hb hg_ hnew_; clear hg_ hnew_; (first | rw [← Ny216.out] at ho2 | (simp only [Int.reduceToNat] at ho2; rw [← Ny216.out] at ho2)); have n0_ := Aside0.mk (Kd.R_lower ho2 (below_size hbm)); have n1_ := bst hb; clear HB; have HO218 := n0_; have HB := n1_; clear n0_ n1_; clear hb ho2))
 go_ret
 exact ⟨_, rfm, by (with_reducible repeat (first | apply Kd.R_alloc | apply Kd.R_drewN | apply Kd.R_drew)); exact HO218.out, hbm⟩

end Go.Proofs.Ytidlcolgiololaa.S
