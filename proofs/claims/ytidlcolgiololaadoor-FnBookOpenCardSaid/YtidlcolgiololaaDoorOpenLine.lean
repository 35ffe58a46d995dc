/- Proved: what (*Book).open does to a book that is the call's own; its conditions stand in each theorem. -/
import Derived.Test.YtidlcolgiololaaDoorS17
import Derived.Test.YtidlcolgiololaaDoorInsLine
namespace Go.Proofs.YtidlcolgiololaaDoor.Rows
open Go Go.RowKit Go.Lib Go.Proofs.YtidlcolgiololaaDoorW.PrintWords Go.Proofs.YtidlcolgiololaaDoorW.PrintLast Go.Proofs.YtidlcolgiololaaDoorW.PrintMore Go.Proofs.YtidlcolgiololaaDoor.S
set_option linter.unusedVariables false
set_option linter.unusedSimpArgs false
theorem lit_ {P : Program} {ops : Array Oper} {Q : Exit → Act → World → Prop} {oi : Oper} {N : Option Tmp} {a : Act} {W : World} {K : Act → World → Prop} (cs : Array Value) (t : TypeId) (n : Nat)
    (hw : Region.wanted oi (yielded ops a.tmps) = true) (hN : oi.dst = N) (hrun : (execOp a.eval oi).run P W = .ok (.value (.slice (some ⟨W.heap.size, 0, none⟩) n n)) (W.alloc (.cells cs t)))
    (h : ∀ g, g = W.heap.size → ∀ w1 : World, w1.heap[g]? = some (.cells cs t (0, 0)) → Below W.heap.size W w1 → K (a.put N (.slice (some ⟨g, 0, none⟩) n n)) w1) :
    if Region.wanted oi (yielded ops a.tmps) = true then Oper.wp P oi a W K Q else K (a.put N undef) W :=
  value_ hw hN hrun (h _ rfl _ (by unfold World.alloc; simp) (below_alloc (Below.refl _ _) _))
theorem lit_cells {w : World} {g : Nat} {t : TypeId} {l : List Value} (h : w.heap[g]? = some (.cells l.toArray t (0, 0))) (j : Nat) (u : Value) (hj : l[j]? = some u) : w.cell? ((⟨g, 0, none⟩ : Addr).add j) = some u := by
  rw [Addr.add_lit, Nat.zero_add, blk_cell h j]
  simpa using hj
theorem lit_one {a b : ByteArray} : ∀ u ∈ [Value.string a, Value.string b, Value.int .i64 0], u.oneCell' = true := by
  intro u hu
  simp only [List.mem_cons, List.not_mem_nil, or_false] at hu
  rcases hu with rfl | rfl | rfl <;> rfl
theorem own_slice {w : World} {base : Nat} {e : TypeId} {size n : Nat} {v : Value} {xs : List Value} (h : w.ownsRow base e size v n xs) : ∃ A m c, v = .slice A m c := by
  rcases h.2 with ⟨h, _⟩ | ⟨g, cap, cur, h, _⟩
  · exact ⟨_, _, _, h⟩
  · exact ⟨_, _, _, h⟩
theorem below_lower {a b : Nat} {w w1 : World} (h : Below b w w1) (hb : a ≤ b) : Below a w w1 := ⟨h.os, h.tape, h.output, h.size, fun k hk => h.block k (Nat.lt_of_lt_of_le hk hb)⟩
theorem reps_one {w : World} {base : Nat} {ok : Nat → Prop} {xs : List S48} {inner : List Value} (h : Reps (k48.M w base ok) 3 xs inner) : ∀ u ∈ inner, u.oneCell' = true := by
  intro u hu
  obtain ⟨j, hj, rfl⟩ := List.mem_iff_getElem.1 hu
  have hl := h.1
  have hj2 : j / 3 < xs.length := by omega
  have h2 := h.2 (j / 3) _ (List.getElem?_eq_getElem hj2)
  refine k48.K_one (k48.K_of_M h2) _ ?_
  rw [List.mem_iff_getElem?]
  refine ⟨j - j / 3 * 3, ?_⟩
  rw [List.getElem?_take_of_lt (by omega), List.getElem?_drop, show j / 3 * 3 + (j - j / 3 * 3) = j by omega]
  exact List.getElem?_eq_getElem hj
theorem reps_ins {w w1 : World} {base base1 : Nat} {ok ok1 : Nat → Prop} {xs : List S48} {inner : List Value} {a b : ByteArray} (h : Reps (k48.M w base ok) 3 xs inner) {i : Nat} (hi : i ≤ xs.length) :
    Reps (k48.M w1 base1 ok1) 3 (xs.take i ++ [⟨⟨a, b⟩, 0⟩] ++ xs.drop i) (inner.take (i * 3) ++ [Value.string a, Value.string b, Value.int .i64 0] ++ inner.drop (i * 3)) := by
  have hl := h.1
  refine ⟨by simp only [List.length_append, List.length_take, List.length_drop, List.length_cons, List.length_nil]; omega, fun j x hj => ?_⟩
  have hti : (xs.take i).length = i := by rw [List.length_take]; omega
  have htn : (inner.take (i * 3)).length = i * 3 := by rw [List.length_take]; omega
  rcases Nat.lt_trichotomy j i with c | c | c
  · rw [List.append_assoc, List.getElem?_append_left (by omega), List.getElem?_take_of_lt c] at hj
    have e : ((inner.take (i * 3) ++ [Value.string a, Value.string b, Value.int .i64 0] ++ inner.drop (i * 3)).drop (j * 3)).take 3 = (inner.drop (j * 3)).take 3 := by
      rw [List.append_assoc, List.drop_append_of_le_length (by omega), List.take_append_of_le_length (by rw [List.length_drop]; omega), List.drop_take, List.take_take, Nat.min_eq_left (by omega)]
    rw [e]
    exact h.2 j x hj
  · subst c
    rw [List.append_assoc, List.getElem?_append_right (by omega), hti, Nat.sub_self] at hj
    obtain rfl := Option.some.inj hj
    have e : ((inner.take (j * 3) ++ [Value.string a, Value.string b, Value.int .i64 0] ++ inner.drop (j * 3)).drop (j * 3)).take 3 = [Value.string a, Value.string b, Value.int .i64 0] := by
      rw [List.append_assoc, List.drop_left' htn]
      rfl
    rw [e]
    exact k48_mkM w1 base1 ok1 ⟨⟨a, b⟩, 0⟩
  · rw [List.getElem?_append_right (by rw [List.length_append, hti, List.length_singleton]; omega), List.length_append, hti, List.length_singleton, List.getElem?_drop, show i + (j - (i + 1)) = j - 1 by omega] at hj
    have e : ((inner.take (i * 3) ++ [Value.string a, Value.string b, Value.int .i64 0] ++ inner.drop (i * 3)).drop (j * 3)).take 3 = (inner.drop ((j - 1) * 3)).take 3 := by
      rw [List.drop_append, List.drop_of_length_le (by rw [List.length_append, htn]; simp only [List.length_cons, List.length_nil]; omega), List.nil_append, List.length_append, htn, List.drop_drop]
      congr 2
      simp only [List.length_cons, List.length_nil]
      omega
    rw [e]
    exact h.2 (j - 1) x hj
set_option maxHeartbeats 4000000 in
set_option maxRecDepth 100000 in
theorem open_there (k : Nat) (w : World) (bb : Nat) (A0 A1 : Option Addr) (c0 c1 : Nat) (l0 : List S48) (l1 : List ByteArray) (a1_0 a1_1 : ByteArray) (kk : Int)
    (hb : w.heap[bb]? = some (.cells #[.slice A0 l0.length c0, .slice A1 l1.length c1] 35 (0, 0))) (hr0 : Kd.C k48 w A0 l0.length l0) (hc0 : l0.length ≤ c0) (hr1 : Kd.C Kd.string w A1 l1.length l1) (hc1 : l1.length ≤ c1)
    (hp : impl_Book_place.f k l0 l1 a1_0 a1_1 = some (kk, true)) :
    Calls Tryd.prog 71 #[.pointer (some ⟨bb, 0, none⟩), .agg #[.string a1_0, .string a1_1]] w fun e w' => e = .returned (.int .i64 7) ∧ Below w.heap.size w w' := by
  have HC := Aside0.mk (And.intro hr0 (And.intro hr1 (And.intro hb hp)))
  clear hr0 hr1 hb hp
  go_enter Tryd.func71, Tryd.ntmps71
  go_wp2_with (fail)
  obtain ⟨W1, hW1⟩ : ∃ W1, W1 = w.alloc (.cells #[.string a1_0, .string a1_1] 37) := ⟨_, rfl⟩
  obtain ⟨gb, hgb⟩ : ∃ gb, gb = w.heap.size := ⟨_, rfl⟩
  have HB := Aside0.mk (show Below w.heap.size w W1 from by rw [hW1]; exact below_alloc (Below.refl _ _) _)
  have HG := Aside0.mk (show W1.heap[gb]? = some (.cells #[.string a1_0, .string a1_1] 37 (0, 0)) from by rw [hW1, hgb]; exact Go.heap_alloc_new _ _)
  have HBB := Aside0.mk (blk_below HC.out.2.2.1 HB.out)
  have hrC0 := Aside0.mk (Kd.C_below HC.out.1 (below_drew1 HB.out))
  have hrC1 := Aside0.mk (Kd.C_below HC.out.2.1 (below_drew1 HB.out))
  rw [← hW1, ← hgb]
  clear hW1
  have HGB := Aside0.mk hgb
  clear hgb
  obtain ⟨hcz1_0, hcz1_1, hfz1_0, hfz1_1⟩ := bc2 HBB.out
  obtain ⟨hcz2_0, hcz2_1, hfz2_0, hfz2_1⟩ := bc2 HG.out
  refine start_ (n := 10) (S := fun w' => w'.cell? ⟨bb, 0, none⟩ = some (.slice A0 l0.length c0) ∧ w'.cell? ⟨bb, 1, none⟩ = some (.slice A1 l1.length c1) ∧ w'.cell? ⟨gb, 0, none⟩ = some (.string a1_0) ∧ w'.cell? ⟨gb, 1, none⟩ = some (.string a1_1)) (ds := []) #[false, false, false, false, false, false, false, false, false, false] (by kernel_rfl) rfl rfl ⟨hcz1_0, hcz1_1, hcz2_0, hcz2_1⟩ (fun hHeld => ?_)
  refine pure_ (i := 0) (N := some 8) (v := ?_) (a' := ?_) #[true, false, false, false, false, false, false, false, false, false] rfl rfl (by kernel_rfl) (fun _ _ _ h => h) (Or.inl ⟨by rfl, ?_⟩) ?_ ?_
  rotate_left
  · intro w'
    go_simp
    with_reducible rfl
  rotate_left
  · simp only [Act.put, List.setIfInBounds_toArray, List.set_cons_zero, List.set_cons_succ, i64_w, i32_w]
    rfl
  refine pure_ (i := 1) (N := some 9) (v := ?_) (a' := ?_) #[true, true, false, false, false, false, false, false, false, false] rfl rfl (by kernel_rfl) (fun _ _ _ h => h) (Or.inl ⟨by rfl, ?_⟩) ?_ ?_
  rotate_left
  · intro w'
    go_simp
    with_reducible rfl
  rotate_left
  · simp only [Act.put, List.setIfInBounds_toArray, List.set_cons_zero, List.set_cons_succ, i64_w, i32_w]
    rfl
  refine take_ (i := 2) (N := some 10) (v := ?_) (a' := ?_) #[true, true, true, false, false, false, false, false, false, false] rfl rfl (by kernel_rfl) (fun _ _ _ h => h) (Or.inl ⟨by rfl, ?_⟩) hHeld ?_ ?_
  rotate_left
  · rintro w' ⟨s0, s1, s2, s3⟩
    go_simp
    with_reducible rfl
  rotate_left
  · simp only [Act.put, List.setIfInBounds_toArray, List.set_cons_zero, List.set_cons_succ, i64_w, i32_w]
    rfl
  refine take_ (i := 3) (N := some 11) (v := ?_) (a' := ?_) #[true, true, true, true, false, false, false, false, false, false] rfl rfl (by kernel_rfl) (fun _ _ _ h => h) (Or.inl ⟨by rfl, ?_⟩) hHeld ?_ ?_
  rotate_left
  · rintro w' ⟨s0, s1, s2, s3⟩
    go_simp
    with_reducible rfl
  rotate_left
  · simp only [Act.put, List.setIfInBounds_toArray, List.set_cons_zero, List.set_cons_succ, i64_w, i32_w]
    rfl
  refine one_ (i := 4) (N := some 12) #[true, true, true, true, true, false, false, false, false, false] rfl rfl (by kernel_rfl) (by decide) (fun K hK => ?_)
  refine goes_ Tryd.func75 (by kernel_rfl) rfl #[.agg #[.slice A0 l0.length c0, .slice A1 l1.length c1], .agg #[.string a1_0, .string a1_1]] (by rfl) rfl rfl (by simp only [List.map_toArray, List.map_cons, List.map_nil]; rfl) ?_
  with_reducible refine (impl_Book_place.calls k A0 c0 l0 A1 c1 l1 a1_0 a1_1 kk true _ hrC0.out hc0 hrC1.out hc1 HC.out.2.2.2).mono ?_
  rintro e w2 ⟨rfl, hB2⟩
  refine ⟨_, rfl, ?_⟩
  refine hK.out _ _ ⟨blk_cell (blk_below (blk_drew HBB.out) hB2) 0, blk_cell (blk_below (blk_drew HBB.out) hB2) 1, blk_cell (blk_below (blk_drew HG.out) hB2) 0, blk_cell (blk_below (blk_drew HG.out) hB2) 1⟩ (fun hHeld => ?_)
  clear hK K
  refine norm_ (a' := ?_) ?_ ?_
  rotate_left
  · show Act.put _ (some 12) _ = _
    simp only [Act.put, List.setIfInBounds_toArray, List.set_cons_zero, List.set_cons_succ, i64_w, i32_w]
    rfl
  refine pure_ (i := 5) (N := some 7) (v := ?_) (a' := ?_) #[true, true, true, true, true, true, false, false, false, false] rfl rfl (by kernel_rfl) (fun _ _ _ h => h) (Or.inl ⟨by rfl, ?_⟩) ?_ ?_
  rotate_left
  · intro w'
    go_simp
    with_reducible rfl
  rotate_left
  · simp only [Act.put, List.setIfInBounds_toArray, List.set_cons_zero, List.set_cons_succ, i64_w, i32_w]
    rfl
  refine pure_ (i := 6) (N := some 13) (v := ?_) (a' := ?_) #[true, true, true, true, true, true, true, false, false, false] rfl rfl (by kernel_rfl) (fun _ _ _ h => h) (Or.inl ⟨by rfl, ?_⟩) ?_ ?_
  rotate_left
  · intro w'
    go_simp
    with_reducible rfl
  rotate_left
  · simp only [Act.put, List.setIfInBounds_toArray, List.set_cons_zero, List.set_cons_succ, i64_w, i32_w]
    rfl
  refine pure_ (i := 7) (N := some 14) (v := ?_) (a' := ?_) #[true, true, true, true, true, true, true, true, false, false] rfl rfl (by kernel_rfl) (fun _ _ _ h => h) (Or.inl ⟨by rfl, ?_⟩) ?_ ?_
  rotate_left
  · intro w'
    go_simp
    with_reducible rfl
  rotate_left
  · simp only [Act.put, List.setIfInBounds_toArray, List.set_cons_zero, List.set_cons_succ, i64_w, i32_w]
    rfl
  refine pure_ (i := 8) (N := some 5) (v := ?_) (a' := ?_) #[true, true, true, true, true, true, true, true, true, false] rfl rfl (by kernel_rfl) (fun _ _ _ h => h) (Or.inl ⟨by rfl, ?_⟩) ?_ ?_
  rotate_left
  · intro w'
    go_simp
    with_reducible rfl
  rotate_left
  · simp only [Act.put, List.setIfInBounds_toArray, List.set_cons_zero, List.set_cons_succ, i64_w, i32_w]
    rfl
  refine pure_ (i := 9) (N := some 6) (v := ?_) (a' := ?_) #[true, true, true, true, true, true, true, true, true, true] rfl rfl (by kernel_rfl) (fun _ _ _ h => h) (Or.inl ⟨by rfl, ?_⟩) ?_ ?_
  rotate_left
  · intro w'
    go_simp
    with_reducible rfl
  rotate_left
  · simp only [Act.put, List.setIfInBounds_toArray, List.set_cons_zero, List.set_cons_succ, i64_w, i32_w]
    rfl
  refine done_ (by kernel_rfl) ?_
  have HB2 := Aside0.mk (below_then (below_drew1 HB.out) HB.out.size hB2)
  clear hcz1_0 hcz1_1 hfz1_0 hfz1_1 hcz2_0 hcz2_1 hfz2_0 hfz2_1 hB2
  go_wp2
  go_ret
  exact ⟨rfl, HB2.out⟩
set_option maxHeartbeats 4000000 in
set_option maxRecDepth 100000 in
theorem open_full (k : Nat) (w : World) (bb : Nat) (A0 A1 : Option Addr) (c0 c1 : Nat) (l0 : List S48) (l1 : List ByteArray) (a1_0 a1_1 : ByteArray) (kk : Int)
    (hb : w.heap[bb]? = some (.cells #[.slice A0 l0.length c0, .slice A1 l1.length c1] 35 (0, 0))) (hr0 : Kd.C k48 w A0 l0.length l0) (hc0 : l0.length ≤ c0) (hr1 : Kd.C Kd.string w A1 l1.length l1) (hc1 : l1.length ≤ c1)
    (hp : impl_Book_place.f k l0 l1 a1_0 a1_1 = some (kk, false)) (hfull : l0.length = 60) :
    Calls Tryd.prog 71 #[.pointer (some ⟨bb, 0, none⟩), .agg #[.string a1_0, .string a1_1]] w fun e w' => e = .returned (.int .i64 16) ∧ Below w.heap.size w w' := by
  have HF := Aside0.mk hfull
  clear hfull
  have HC := Aside0.mk (And.intro hr0 (And.intro hr1 (And.intro hb hp)))
  clear hr0 hr1 hb hp
  go_enter Tryd.func71, Tryd.ntmps71
  go_wp2_with (fail)
  obtain ⟨W1, hW1⟩ : ∃ W1, W1 = w.alloc (.cells #[.string a1_0, .string a1_1] 37) := ⟨_, rfl⟩
  obtain ⟨gb, hgb⟩ : ∃ gb, gb = w.heap.size := ⟨_, rfl⟩
  have HB := Aside0.mk (show Below w.heap.size w W1 from by rw [hW1]; exact below_alloc (Below.refl _ _) _)
  have HG := Aside0.mk (show W1.heap[gb]? = some (.cells #[.string a1_0, .string a1_1] 37 (0, 0)) from by rw [hW1, hgb]; exact Go.heap_alloc_new _ _)
  have HBB := Aside0.mk (blk_below HC.out.2.2.1 HB.out)
  have hrC0 := Aside0.mk (Kd.C_below HC.out.1 (below_drew1 HB.out))
  have hrC1 := Aside0.mk (Kd.C_below HC.out.2.1 (below_drew1 HB.out))
  rw [← hW1, ← hgb]
  clear hW1
  have HGB := Aside0.mk hgb
  clear hgb
  obtain ⟨hcz1_0, hcz1_1, hfz1_0, hfz1_1⟩ := bc2 HBB.out
  obtain ⟨hcz2_0, hcz2_1, hfz2_0, hfz2_1⟩ := bc2 HG.out
  refine start_ (n := 10) (S := fun w' => w'.cell? ⟨bb, 0, none⟩ = some (.slice A0 l0.length c0) ∧ w'.cell? ⟨bb, 1, none⟩ = some (.slice A1 l1.length c1) ∧ w'.cell? ⟨gb, 0, none⟩ = some (.string a1_0) ∧ w'.cell? ⟨gb, 1, none⟩ = some (.string a1_1)) (ds := []) #[false, false, false, false, false, false, false, false, false, false] (by kernel_rfl) rfl rfl ⟨hcz1_0, hcz1_1, hcz2_0, hcz2_1⟩ (fun hHeld => ?_)
  refine pure_ (i := 0) (N := some 8) (v := ?_) (a' := ?_) #[true, false, false, false, false, false, false, false, false, false] rfl rfl (by kernel_rfl) (fun _ _ _ h => h) (Or.inl ⟨by rfl, ?_⟩) ?_ ?_
  rotate_left
  · intro w'
    go_simp
    with_reducible rfl
  rotate_left
  · simp only [Act.put, List.setIfInBounds_toArray, List.set_cons_zero, List.set_cons_succ, i64_w, i32_w]
    rfl
  refine pure_ (i := 1) (N := some 9) (v := ?_) (a' := ?_) #[true, true, false, false, false, false, false, false, false, false] rfl rfl (by kernel_rfl) (fun _ _ _ h => h) (Or.inl ⟨by rfl, ?_⟩) ?_ ?_
  rotate_left
  · intro w'
    go_simp
    with_reducible rfl
  rotate_left
  · simp only [Act.put, List.setIfInBounds_toArray, List.set_cons_zero, List.set_cons_succ, i64_w, i32_w]
    rfl
  refine take_ (i := 2) (N := some 10) (v := ?_) (a' := ?_) #[true, true, true, false, false, false, false, false, false, false] rfl rfl (by kernel_rfl) (fun _ _ _ h => h) (Or.inl ⟨by rfl, ?_⟩) hHeld ?_ ?_
  rotate_left
  · rintro w' ⟨s0, s1, s2, s3⟩
    go_simp
    with_reducible rfl
  rotate_left
  · simp only [Act.put, List.setIfInBounds_toArray, List.set_cons_zero, List.set_cons_succ, i64_w, i32_w]
    rfl
  refine take_ (i := 3) (N := some 11) (v := ?_) (a' := ?_) #[true, true, true, true, false, false, false, false, false, false] rfl rfl (by kernel_rfl) (fun _ _ _ h => h) (Or.inl ⟨by rfl, ?_⟩) hHeld ?_ ?_
  rotate_left
  · rintro w' ⟨s0, s1, s2, s3⟩
    go_simp
    with_reducible rfl
  rotate_left
  · simp only [Act.put, List.setIfInBounds_toArray, List.set_cons_zero, List.set_cons_succ, i64_w, i32_w]
    rfl
  refine one_ (i := 4) (N := some 12) #[true, true, true, true, true, false, false, false, false, false] rfl rfl (by kernel_rfl) (by decide) (fun K hK => ?_)
  refine goes_ Tryd.func75 (by kernel_rfl) rfl #[.agg #[.slice A0 l0.length c0, .slice A1 l1.length c1], .agg #[.string a1_0, .string a1_1]] (by rfl) rfl rfl (by simp only [List.map_toArray, List.map_cons, List.map_nil]; rfl) ?_
  with_reducible refine (impl_Book_place.calls k A0 c0 l0 A1 c1 l1 a1_0 a1_1 kk false _ hrC0.out hc0 hrC1.out hc1 HC.out.2.2.2).mono ?_
  rintro e w2 ⟨rfl, hB2⟩
  refine ⟨_, rfl, ?_⟩
  refine hK.out _ _ ⟨blk_cell (blk_below (blk_drew HBB.out) hB2) 0, blk_cell (blk_below (blk_drew HBB.out) hB2) 1, blk_cell (blk_below (blk_drew HG.out) hB2) 0, blk_cell (blk_below (blk_drew HG.out) hB2) 1⟩ (fun hHeld => ?_)
  clear hK K
  refine norm_ (a' := ?_) ?_ ?_
  rotate_left
  · show Act.put _ (some 12) _ = _
    simp only [Act.put, List.setIfInBounds_toArray, List.set_cons_zero, List.set_cons_succ, i64_w, i32_w]
    rfl
  refine pure_ (i := 5) (N := some 7) (v := ?_) (a' := ?_) #[true, true, true, true, true, true, false, false, false, false] rfl rfl (by kernel_rfl) (fun _ _ _ h => h) (Or.inl ⟨by rfl, ?_⟩) ?_ ?_
  rotate_left
  · intro w'
    go_simp
    with_reducible rfl
  rotate_left
  · simp only [Act.put, List.setIfInBounds_toArray, List.set_cons_zero, List.set_cons_succ, i64_w, i32_w]
    rfl
  refine pure_ (i := 6) (N := some 13) (v := ?_) (a' := ?_) #[true, true, true, true, true, true, true, false, false, false] rfl rfl (by kernel_rfl) (fun _ _ _ h => h) (Or.inl ⟨by rfl, ?_⟩) ?_ ?_
  rotate_left
  · intro w'
    go_simp
    with_reducible rfl
  rotate_left
  · simp only [Act.put, List.setIfInBounds_toArray, List.set_cons_zero, List.set_cons_succ, i64_w, i32_w]
    rfl
  refine pure_ (i := 7) (N := some 14) (v := ?_) (a' := ?_) #[true, true, true, true, true, true, true, true, false, false] rfl rfl (by kernel_rfl) (fun _ _ _ h => h) (Or.inl ⟨by rfl, ?_⟩) ?_ ?_
  rotate_left
  · intro w'
    go_simp
    with_reducible rfl
  rotate_left
  · simp only [Act.put, List.setIfInBounds_toArray, List.set_cons_zero, List.set_cons_succ, i64_w, i32_w]
    rfl
  refine pure_ (i := 8) (N := some 5) (v := ?_) (a' := ?_) #[true, true, true, true, true, true, true, true, true, false] rfl rfl (by kernel_rfl) (fun _ _ _ h => h) (Or.inl ⟨by rfl, ?_⟩) ?_ ?_
  rotate_left
  · intro w'
    go_simp
    with_reducible rfl
  rotate_left
  · simp only [Act.put, List.setIfInBounds_toArray, List.set_cons_zero, List.set_cons_succ, i64_w, i32_w]
    rfl
  refine pure_ (i := 9) (N := some 6) (v := ?_) (a' := ?_) #[true, true, true, true, true, true, true, true, true, true] rfl rfl (by kernel_rfl) (fun _ _ _ h => h) (Or.inl ⟨by rfl, ?_⟩) ?_ ?_
  rotate_left
  · intro w'
    go_simp
    with_reducible rfl
  rotate_left
  · simp only [Act.put, List.setIfInBounds_toArray, List.set_cons_zero, List.set_cons_succ, i64_w, i32_w]
    rfl
  refine done_ (by kernel_rfl) ?_
  have HB2 := Aside0.mk (below_then (below_drew1 HB.out) HB.out.size hB2)
  have HBB2 := Aside0.mk (blk_below (blk_drew HBB.out) hB2)
  have hfull' : (l0.length : Int) = 60 := by have := HF.out; omega
  clear hcz1_0 hcz1_1 hfz1_0 hfz1_1 hcz2_0 hcz2_1 hfz2_0 hfz2_1 hB2
  obtain ⟨hcz1_0, hcz1_1, hfz1_0, hfz1_1⟩ := bc2 HBB2.out
  go_wp2
  go_ret
  exact ⟨rfl, HB2.out⟩
set_option maxHeartbeats 4000000 in
set_option maxRecDepth 100000 in
theorem open_room (k : Nat) (w : World) (bb : Nat) (A0 A1 : Option Addr) (c0 c1 : Nat) (l0 : List S48) (l1 : List ByteArray) (a1_0 a1_1 : ByteArray) (i : Nat)
    (hb : w.heap[bb]? = some (.cells #[.slice A0 l0.length c0, .slice A1 l1.length c1] 35 (0, 0))) (hr0 : Kd.C k48 w A0 l0.length l0) (hc0 : l0.length ≤ c0) (hr1 : Kd.C Kd.string w A1 l1.length l1) (hc1 : l1.length ≤ c1)
    (hp : impl_Book_place.f k l0 l1 a1_0 a1_1 = some ((i : Int), false)) (hfull : l0.length ≠ 60) (hin : i ≤ l0.length) (base : Nat) (hbase : base ≤ w.heap.size) (hbb : base ≤ bb)
    (HL : Kd.R k48 48 w base (fun _ => True) (.slice A0 l0.length c0) l0) (HI : Kd.R Kd.string 9 w base (fun _ => True) (.slice A1 l1.length c1) l1) (hbig : (l0.length + 1) * 40 ≤ 140737488355328) :
    Calls Tryd.prog 71 #[.pointer (some ⟨bb, 0, none⟩), .agg #[.string a1_0, .string a1_1]] w fun e w' => e = .returned (.int .i64 0) ∧ ∃ v', w'.heap[bb]? = some (.cells #[v', .slice A1 l1.length c1] 35 (0, 0)) ∧
      Kd.R k48 48 w' base (fun _ => True) v' (l0.take i ++ [⟨⟨a1_0, a1_1⟩, 0⟩] ++ l0.drop i) ∧ Kd.R Kd.string 9 w' base (fun _ => True) (.slice A1 l1.length c1) l1 ∧ Below base w w' ∧ ∀ g, g < w.heap.size → g ≠ bb → (Value.slice A0 l0.length c0).ownBlock ≠ some g → w'.heap[g]? = w.heap[g]? := by
  have HNB := Aside0.mk (show (Value.slice A0 l0.length c0).ownBlock ≠ some bb from fun e => Kd.R_ne HL hb (by decide) e.symm)
  obtain ⟨_, inner, ho, hrep⟩ := id HL
  have HNE := Aside0.mk (show ∀ g, w.heap.size ≤ g → (Value.slice A0 l0.length c0).ownBlock ≠ some g from fun g hg e => by have := own_lt ho g e; omega)
  have HO := Aside0.mk ho
  have H1 := Aside0.mk (reps_one hrep)
  have HR := Aside0.mk (And.intro HL (And.intro HI hrep))
  have hfull' : ¬ ((l0.length : Int) = 60) := by omega
  clear HL HI ho hrep hfull
  have HC := Aside0.mk (And.intro hr0 (And.intro hr1 (And.intro hb hp)))
  clear hr0 hr1 hb hp
  go_enter Tryd.func71, Tryd.ntmps71
  go_wp2_with (fail)
  obtain ⟨W1, hW1⟩ : ∃ W1, W1 = w.alloc (.cells #[.string a1_0, .string a1_1] 37) := ⟨_, rfl⟩
  obtain ⟨gb, hgb⟩ : ∃ gb, gb = w.heap.size := ⟨_, rfl⟩
  have HB := Aside0.mk (show Below w.heap.size w W1 from by rw [hW1]; exact below_alloc (Below.refl _ _) _)
  have HG := Aside0.mk (show W1.heap[gb]? = some (.cells #[.string a1_0, .string a1_1] 37 (0, 0)) from by rw [hW1, hgb]; exact Go.heap_alloc_new _ _)
  have HBB := Aside0.mk (blk_below HC.out.2.2.1 HB.out)
  have hrC0 := Aside0.mk (Kd.C_below HC.out.1 (below_drew1 HB.out))
  have hrC1 := Aside0.mk (Kd.C_below HC.out.2.1 (below_drew1 HB.out))
  rw [← hW1, ← hgb]
  clear hW1
  have HGB := Aside0.mk hgb
  clear hgb
  obtain ⟨hcz1_0, hcz1_1, hfz1_0, hfz1_1⟩ := bc2 HBB.out
  obtain ⟨hcz2_0, hcz2_1, hfz2_0, hfz2_1⟩ := bc2 HG.out
  refine start_ (n := 10) (S := fun w' => w'.cell? ⟨bb, 0, none⟩ = some (.slice A0 l0.length c0) ∧ w'.cell? ⟨bb, 1, none⟩ = some (.slice A1 l1.length c1) ∧ w'.cell? ⟨gb, 0, none⟩ = some (.string a1_0) ∧ w'.cell? ⟨gb, 1, none⟩ = some (.string a1_1)) (ds := []) #[false, false, false, false, false, false, false, false, false, false] (by kernel_rfl) rfl rfl ⟨hcz1_0, hcz1_1, hcz2_0, hcz2_1⟩ (fun hHeld => ?_)
  refine pure_ (i := 0) (N := some 8) (v := ?_) (a' := ?_) #[true, false, false, false, false, false, false, false, false, false] rfl rfl (by kernel_rfl) (fun _ _ _ h => h) (Or.inl ⟨by rfl, ?_⟩) ?_ ?_
  rotate_left
  · intro w'
    go_simp
    with_reducible rfl
  rotate_left
  · simp only [Act.put, List.setIfInBounds_toArray, List.set_cons_zero, List.set_cons_succ, i64_w, i32_w]
    rfl
  refine pure_ (i := 1) (N := some 9) (v := ?_) (a' := ?_) #[true, true, false, false, false, false, false, false, false, false] rfl rfl (by kernel_rfl) (fun _ _ _ h => h) (Or.inl ⟨by rfl, ?_⟩) ?_ ?_
  rotate_left
  · intro w'
    go_simp
    with_reducible rfl
  rotate_left
  · simp only [Act.put, List.setIfInBounds_toArray, List.set_cons_zero, List.set_cons_succ, i64_w, i32_w]
    rfl
  refine take_ (i := 2) (N := some 10) (v := ?_) (a' := ?_) #[true, true, true, false, false, false, false, false, false, false] rfl rfl (by kernel_rfl) (fun _ _ _ h => h) (Or.inl ⟨by rfl, ?_⟩) hHeld ?_ ?_
  rotate_left
  · rintro w' ⟨s0, s1, s2, s3⟩
    go_simp
    with_reducible rfl
  rotate_left
  · simp only [Act.put, List.setIfInBounds_toArray, List.set_cons_zero, List.set_cons_succ, i64_w, i32_w]
    rfl
  refine take_ (i := 3) (N := some 11) (v := ?_) (a' := ?_) #[true, true, true, true, false, false, false, false, false, false] rfl rfl (by kernel_rfl) (fun _ _ _ h => h) (Or.inl ⟨by rfl, ?_⟩) hHeld ?_ ?_
  rotate_left
  · rintro w' ⟨s0, s1, s2, s3⟩
    go_simp
    with_reducible rfl
  rotate_left
  · simp only [Act.put, List.setIfInBounds_toArray, List.set_cons_zero, List.set_cons_succ, i64_w, i32_w]
    rfl
  refine one_ (i := 4) (N := some 12) #[true, true, true, true, true, false, false, false, false, false] rfl rfl (by kernel_rfl) (by decide) (fun K hK => ?_)
  refine goes_ Tryd.func75 (by kernel_rfl) rfl #[.agg #[.slice A0 l0.length c0, .slice A1 l1.length c1], .agg #[.string a1_0, .string a1_1]] (by rfl) rfl rfl (by simp only [List.map_toArray, List.map_cons, List.map_nil]; rfl) ?_
  with_reducible refine (impl_Book_place.calls k A0 c0 l0 A1 c1 l1 a1_0 a1_1 (i : Int) false _ hrC0.out hc0 hrC1.out hc1 HC.out.2.2.2).mono ?_
  rintro e w2 ⟨rfl, hB2⟩
  refine ⟨_, rfl, ?_⟩
  refine hK.out _ _ ⟨blk_cell (blk_below (blk_drew HBB.out) hB2) 0, blk_cell (blk_below (blk_drew HBB.out) hB2) 1, blk_cell (blk_below (blk_drew HG.out) hB2) 0, blk_cell (blk_below (blk_drew HG.out) hB2) 1⟩ (fun hHeld => ?_)
  clear hK K
  refine norm_ (a' := ?_) ?_ ?_
  rotate_left
  · show Act.put _ (some 12) _ = _
    simp only [Act.put, List.setIfInBounds_toArray, List.set_cons_zero, List.set_cons_succ, i64_w, i32_w]
    rfl
  refine pure_ (i := 5) (N := some 7) (v := ?_) (a' := ?_) #[true, true, true, true, true, true, false, false, false, false] rfl rfl (by kernel_rfl) (fun _ _ _ h => h) (Or.inl ⟨by rfl, ?_⟩) ?_ ?_
  rotate_left
  · intro w'
    go_simp
    with_reducible rfl
  rotate_left
  · simp only [Act.put, List.setIfInBounds_toArray, List.set_cons_zero, List.set_cons_succ, i64_w, i32_w]
    rfl
  refine pure_ (i := 6) (N := some 13) (v := ?_) (a' := ?_) #[true, true, true, true, true, true, true, false, false, false] rfl rfl (by kernel_rfl) (fun _ _ _ h => h) (Or.inl ⟨by rfl, ?_⟩) ?_ ?_
  rotate_left
  · intro w'
    go_simp
    with_reducible rfl
  rotate_left
  · simp only [Act.put, List.setIfInBounds_toArray, List.set_cons_zero, List.set_cons_succ, i64_w, i32_w]
    rfl
  refine pure_ (i := 7) (N := some 14) (v := ?_) (a' := ?_) #[true, true, true, true, true, true, true, true, false, false] rfl rfl (by kernel_rfl) (fun _ _ _ h => h) (Or.inl ⟨by rfl, ?_⟩) ?_ ?_
  rotate_left
  · intro w'
    go_simp
    with_reducible rfl
  rotate_left
  · simp only [Act.put, List.setIfInBounds_toArray, List.set_cons_zero, List.set_cons_succ, i64_w, i32_w]
    rfl
  refine pure_ (i := 8) (N := some 5) (v := ?_) (a' := ?_) #[true, true, true, true, true, true, true, true, true, false] rfl rfl (by kernel_rfl) (fun _ _ _ h => h) (Or.inl ⟨by rfl, ?_⟩) ?_ ?_
  rotate_left
  · intro w'
    go_simp
    with_reducible rfl
  rotate_left
  · simp only [Act.put, List.setIfInBounds_toArray, List.set_cons_zero, List.set_cons_succ, i64_w, i32_w]
    rfl
  refine pure_ (i := 9) (N := some 6) (v := ?_) (a' := ?_) #[true, true, true, true, true, true, true, true, true, true] rfl rfl (by kernel_rfl) (fun _ _ _ h => h) (Or.inl ⟨by rfl, ?_⟩) ?_ ?_
  rotate_left
  · intro w'
    go_simp
    with_reducible rfl
  rotate_left
  · simp only [Act.put, List.setIfInBounds_toArray, List.set_cons_zero, List.set_cons_succ, i64_w, i32_w]
    rfl
  refine done_ (by kernel_rfl) ?_
  have HB2 := Aside0.mk (below_then (below_drew1 HB.out) HB.out.size hB2)
  have HBB2 := Aside0.mk (blk_below (blk_drew HBB.out) hB2)
  have HG2 := Aside0.mk (blk_below (blk_drew HG.out) hB2)
  clear hcz1_0 hcz1_1 hfz1_0 hfz1_1 hcz2_0 hcz2_1 hfz2_0 hfz2_1 hB2
  obtain ⟨hcz1_0, hcz1_1, hfz1_0, hfz1_1⟩ := bc2 HBB2.out
  obtain ⟨hcz2_0, hcz2_1, hfz2_0, hfz2_1⟩ := bc2 HG2.out
  go_wp2_with (fail)
  refine start_ (n := 13) (S := fun w' => w'.cell? ⟨bb, 0, none⟩ = some (.slice A0 l0.length c0) ∧ w'.cell? ⟨gb, 0, none⟩ = some (.string a1_0) ∧ w'.cell? ⟨gb, 1, none⟩ = some (.string a1_1)) (ds := [9, 12]) #[false, false, false, false, false, false, false, false, false, false, false, false, false] (by kernel_rfl) rfl rfl ⟨hcz1_0, hcz2_0, hcz2_1⟩ (fun hHeld => ?_)
  refine pure_ (i := 0) (N := some 24) (v := ?_) (a' := ?_) #[true, false, false, false, false, false, false, false, false, false, false, false, false] rfl rfl (by kernel_rfl) (fun _ _ _ h => h) (Or.inl ⟨by rfl, ?_⟩) ?_ ?_
  rotate_left
  · intro w'
    go_simp
    with_reducible rfl
  rotate_left
  · simp only [Act.put, List.setIfInBounds_toArray, List.set_cons_zero, List.set_cons_succ, i64_w, i32_w]
    rfl
  refine pure_ (i := 1) (N := some 25) (v := ?_) (a' := ?_) #[true, true, false, false, false, false, false, false, false, false, false, false, false] rfl rfl (by kernel_rfl) (fun _ _ _ h => h) (Or.inl ⟨by rfl, ?_⟩) ?_ ?_
  rotate_left
  · intro w'
    go_simp
    with_reducible rfl
  rotate_left
  · simp only [Act.put, List.setIfInBounds_toArray, List.set_cons_zero, List.set_cons_succ, i64_w, i32_w]
    rfl
  refine pure_ (i := 2) (N := some 26) (v := ?_) (a' := ?_) #[true, true, true, false, false, false, false, false, false, false, false, false, false] rfl rfl (by kernel_rfl) (fun _ _ _ h => h) (Or.inl ⟨by rfl, ?_⟩) ?_ ?_
  rotate_left
  · intro w'
    go_simp
    with_reducible rfl
  rotate_left
  · simp only [Act.put, List.setIfInBounds_toArray, List.set_cons_zero, List.set_cons_succ, i64_w, i32_w]
    rfl
  refine pure_ (i := 3) (N := some 27) (v := ?_) (a' := ?_) #[true, true, true, true, false, false, false, false, false, false, false, false, false] rfl rfl (by kernel_rfl) (fun _ _ _ h => h) (Or.inl ⟨by rfl, ?_⟩) ?_ ?_
  rotate_left
  · intro w'
    go_simp
    with_reducible rfl
  rotate_left
  · simp only [Act.put, List.setIfInBounds_toArray, List.set_cons_zero, List.set_cons_succ, i64_w, i32_w]
    rfl
  refine pure_ (i := 5) (N := some 29) (v := ?_) (a' := ?_) #[true, true, true, true, false, true, false, false, false, false, false, false, false] rfl rfl (by kernel_rfl) (fun _ _ _ h => h) (Or.inl ⟨by rfl, ?_⟩) ?_ ?_
  rotate_left
  · intro w'
    go_simp
    with_reducible rfl
  rotate_left
  · simp only [Act.put, List.setIfInBounds_toArray, List.set_cons_zero, List.set_cons_succ, i64_w, i32_w]
    rfl
  refine take_ (i := 4) (N := some 28) (v := ?_) (a' := ?_) #[true, true, true, true, true, true, false, false, false, false, false, false, false] rfl rfl (by kernel_rfl) (fun _ _ _ h => h) (Or.inl ⟨by rfl, ?_⟩) hHeld ?_ ?_
  rotate_left
  · rintro w' ⟨s0, s1, s2⟩
    go_simp
    with_reducible rfl
  rotate_left
  · simp only [Act.put, List.setIfInBounds_toArray, List.set_cons_zero, List.set_cons_succ, i64_w, i32_w]
    rfl
  refine take_ (i := 6) (N := some 30) (v := ?_) (a' := ?_) #[true, true, true, true, true, true, true, false, false, false, false, false, false] rfl rfl (by kernel_rfl) (fun _ _ _ h => h) (Or.inl ⟨by rfl, ?_⟩) hHeld ?_ ?_
  rotate_left
  · rintro w' ⟨s0, s1, s2⟩
    go_simp
    with_reducible rfl
  rotate_left
  · simp only [Act.put, List.setIfInBounds_toArray, List.set_cons_zero, List.set_cons_succ, i64_w, i32_w]
    rfl
  refine pure_ (i := 7) (N := some 31) (v := ?_) (a' := ?_) #[true, true, true, true, true, true, true, true, false, false, false, false, false] rfl rfl (by kernel_rfl) (fun _ _ _ h => h) (Or.inl ⟨by rfl, ?_⟩) ?_ ?_
  rotate_left
  · intro w'
    go_simp
    with_reducible rfl
  rotate_left
  · simp only [Act.put, List.setIfInBounds_toArray, List.set_cons_zero, List.set_cons_succ, i64_w, i32_w]
    rfl
  refine one_ (i := 8) (N := some 32) #[true, true, true, true, true, true, true, true, true, false, false, false, false] rfl rfl (by kernel_rfl) (by decide) (fun K hK => ?_)
  refine lit_ #[.string a1_0, .string a1_1, .int .i64 0] 48 1 rfl rfl ?hr ?_
  case hr => first | (go_simp; done) | (go_simp; rfl)
  intro gs hgs w3 hbox hb3
  have HBX := Aside0.mk hbox
  have HB3 := Aside0.mk (below_then (below_drew1 HB2.out) HB2.out.size hb3)
  have HBB3 := Aside0.mk (blk_below (blk_drew HBB2.out) hb3)
  have HG3 := Aside0.mk (blk_below (blk_drew HG2.out) hb3)
  have HGS := Aside0.mk (show gs = w2.heap.size from hgs)
  clear hbox hb3 hgs
  refine hK.out _ _ ⟨blk_cell HBB3.out 0, blk_cell HG3.out 0, blk_cell HG3.out 1⟩ (fun hHeld => ?_)
  clear hK K
  refine norm_ (a' := ?_) ?_ ?_
  rotate_left
  · show Act.put _ (some 32) _ = _
    simp only [Act.put, List.setIfInBounds_toArray, List.set_cons_zero, List.set_cons_succ, i64_w, i32_w]
    rfl
  refine last_ (i := 9) (N := some 33) #[true, true, true, true, true, true, true, true, true, true, false, false, false] rfl rfl (by kernel_rfl) (by decide) (fun K hK => ?_)
  refine goes_ Tryd.func143 (by kernel_rfl) rfl #[.slice A0 l0.length c0, .int .i64 (i : Int), .slice (some ⟨gs, 0, none⟩) 1 1] (by rfl) rfl rfl (by simp only [List.map_toArray, List.map_cons, List.map_nil]; rfl) ?_
  with_reducible refine (ins w3 base (.slice A0 l0.length c0) l0.length i inner [.string a1_0, .string a1_1, .int .i64 0] gs 0 1 hin (pw_own_below HO.out HB3.out) H1.out lit_one rfl (fun j u hj => lit_cells HBX.out j u hj) (HNE.out gs (by rw [HGS.out]; exact HB2.out.size)) 48 _ (shape_cells HBX.out) (blk_frozen HBX.out 0) (blk_frozen HBX.out _) (blk_lt HBX.out) hbig (Nat.le_trans hbase HB3.out.size)).mono ?_
  rintro e w4 ⟨v', rfl, hown4, hgr4⟩
  refine ⟨_, rfl, ?_⟩
  obtain ⟨g4, n4, c4, rfl⟩ := own_slice hown4
  refine hK.out _ _ ?_
  clear hK K
  refine norm_ (a' := ?_) ?_ ?_
  rotate_left
  · show Act.put _ (some 33) _ = _
    simp only [Act.put, List.setIfInBounds_toArray, List.set_cons_zero, List.set_cons_succ, i64_w, i32_w]
    rfl
  refine pure_ (i := 10) (N := some 34) (v := ?_) (a' := ?_) #[true, true, true, true, true, true, true, true, true, true, true, false, false] rfl rfl (by kernel_rfl) (fun _ _ _ h => h) (Or.inl ⟨by rfl, ?_⟩) ?_ ?_
  rotate_left
  · intro w'
    go_simp
    with_reducible rfl
  rotate_left
  · simp only [Act.put, List.setIfInBounds_toArray, List.set_cons_zero, List.set_cons_succ, i64_w, i32_w]
    rfl
  refine pure_ (i := 11) (N := some 35) (v := ?_) (a' := ?_) #[true, true, true, true, true, true, true, true, true, true, true, true, false] rfl rfl (by kernel_rfl) (fun _ _ _ h => h) (Or.inl ⟨by rfl, ?_⟩) ?_ ?_
  rotate_left
  · intro w'
    go_simp
    with_reducible rfl
  rotate_left
  · simp only [Act.put, List.setIfInBounds_toArray, List.set_cons_zero, List.set_cons_succ, i64_w, i32_w]
    rfl
  refine last_ (i := 12) (N := none) #[true, true, true, true, true, true, true, true, true, true, true, true, true] rfl rfl (by kernel_rfl) (by decide) (fun K hK => ?_)
  have HBB4 := Aside0.mk (blk_grown HBB3.out hgr4 (fun e => HNB.out e.symm))
  obtain ⟨hcs_0, hcs_1, hfs_0, hfs_1⟩ := bc2 HBB4.out
  refine skip_ (w1 := ?_) (by rfl) rfl ?_ ?_
  rotate_left
  · go_simp
    rfl
  refine hK.out _ _ ?_
  clear hK K
  refine done_ (by kernel_rfl) ?_
  have HO4 := Aside0.mk hown4
  have HGR := Aside0.mk hgr4
  go_wp2
  go_ret
  have hl : (l0.take i ++ [(⟨⟨a1_0, a1_1⟩, 0⟩ : S48)] ++ l0.drop i).length = l0.length + 1 := by simp only [List.length_append, List.length_take, List.length_drop, List.length_singleton]; omega
  have hR4 : Kd.R k48 48 w4 base (fun _ => True) (.slice g4 n4 c4) (l0.take i ++ [⟨⟨a1_0, a1_1⟩, 0⟩] ++ l0.drop i) := ⟨fun _ _ => trivial, _, by rw [hl]; exact HO4.out, reps_ins HR.out.2.2 hin⟩
  have hI4 : Kd.R Kd.string 9 w4 base (fun _ => True) (.slice A1 l1.length c1) l1 := by
    have h3 := Kd.R_below HR.out.2.1 HB3.out
    cases hv : (Value.slice A0 l0.length c0).ownBlock with
    | none => exact Kd.R_grown h3 HGR.out (fun _ _ => by rw [hv]; simp)
    | some g =>
      obtain ⟨cells, hcl⟩ := own_typed (pw_own_below HO.out HB3.out) g hv
      exact Kd.R_mono (Kd.R_grown (Kd.R_types h3 hcl (by decide)) HGR.out (fun k hk e => hk.2 (by rw [hv] at e; exact Option.some.inj e))) (fun _ _ => trivial)
  refine ⟨rfl, _, blk_put HBB4.out 0 _ rfl, Kd.R_set hR4 HBB4.out (by decide) 0 _, Kd.R_set hI4 HBB4.out (by decide) 0 _, ?_, fun g hg h1 h2 => ?_⟩
  rotate_left
  · rw [Below.heap_setCell _ ⟨bb, 0, none⟩ _ g h1, HGR.out.block g (Nat.lt_of_lt_of_le hg HB3.out.size) (fun e => h2 e.symm)]
    exact HB3.out.block g hg
  exact ((below_lower HB3.out hbase).grown HGR.out (Nat.le_trans hbase HB3.out.size) (fun k hk => own_base HO.out k hk)).setCell hbb _
end Go.Proofs.YtidlcolgiololaaDoor.Rows
