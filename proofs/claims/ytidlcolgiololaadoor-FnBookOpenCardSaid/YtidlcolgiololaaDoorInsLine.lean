/- Proved: slices.Insert of one line into a row of lines that is the call's own; its conditions stand in the theorem. -/
import Derived.Test.YtidlcolgiololaaDoorS0
import Derived.Test.YtidlcolgiololaaDoorRowsN
import Derived.Lib.SliceRun
import Derived.Lib.Overlaps
import Derived.Laws.Externs
namespace Go.Proofs.YtidlcolgiololaaDoor.Rows
open Go Go.RowKit Go.Lib Go.Proofs.YtidlcolgiololaaDoorW.PrintWords Go.Proofs.YtidlcolgiololaaDoorW.PrintLast Go.Proofs.YtidlcolgiololaaDoorW.PrintMore Go.Proofs.YtidlcolgiololaaDoor.S
set_option linter.unusedVariables false
set_option linter.unusedSimpArgs false

set_option maxHeartbeats 4000000 in
set_option maxRecDepth 100000 in
theorem ins_end (w : World) (base : Nat) (v : Value) (n : Nat) (xs news : List Value) (vb vo vc : Nat)
    (hown : w.ownsRow base 48 3 v n xs) (h1n : ∀ u ∈ news, u.oneCell' = true) (hl : news.length = 3)
    (hvs : ∀ j u, news[j]? = some u → w.cell? ((⟨vb, vo, none⟩ : Addr).add j) = some u)
    (h48 : (n + 1) * 40 ≤ 140737488355328) (hbase : base ≤ w.heap.size) :
    Calls Tryd.prog 143 #[v, .int .i64 n, .slice (some ⟨vb, vo, none⟩) 1 vc] w fun e w' => ∃ v', e = .returned v' ∧ w'.ownsRow base 48 3 v' (n + 1) (xs ++ news) ∧ w.grownBy w' v.ownBlock := by
  obtain ⟨i0, hi, hz⟩ := Option.map_eq_some_iff.1 (show (Tryd.prog.info? 48).map (fun i => (i.zero, i.size, i.bytes)) = some (some (.agg #[(.string ⟨#[]⟩), (.string ⟨#[]⟩), (.int .i64 0)]), 3, 40) from by kernel_rfl)
  simp only [Prod.mk.injEq] at hz
  obtain ⟨hz0, hz1, hz2⟩ := hz
  have hmax : n + 1 ≤ maxLen := by unfold maxLen; omega
  have hn63 : (n : Int) ≤ 9223372036854775807 := by omega
  have H := Aside0.mk (And.intro hown (And.intro hvs (And.intro hi (And.intro hz0 (And.intro hz1 hz2)))))
  rcases hown.2 with ⟨rfl, rfl⟩ | ⟨g, cap, cur, rfl, hbg, hg, hnc, hcm, hcs, htake⟩
  · clear hown hvs hi hz0 hz1 hz2
    go_enter Tryd.func143, Tryd.ntmps143
    go_wp2_with (at_builtin; refine wpList_append_own _ rfl _ _ 32 rfl base 48 i0 _ 3 40 Tryd.underlying32 H.out.2.2.1 H.out.2.2.2.1 H.out.2.2.2.2.1 H.out.2.2.2.2.2 rfl (by decide) _ _ _ rfl H.out.1 ⟨vb, vo, none⟩ 1 vc news rfl (by omega) H.out.2.1 h1n hmax h48 hbase ?_)
    intro v' w' hown' hgrow hnil
    clear hnil
    go_wp2
    go_ret
    exact ⟨v', rfl, hown', hgrow⟩
  · have hc63 : (cap : Int) ≤ 9223372036854775807 := by unfold maxLen at hcm; omega
    have hnc' : (n : Int) ≤ (cap : Int) := by omega
    have H2 := Aside0.mk hcm
    clear hown hvs hi hz0 hz1 hz2 hg hcm hcs htake
    go_enter Tryd.func143, Tryd.ntmps143
    go_wp2_with (at_builtin; refine wpList_append_own _ rfl _ _ 32 rfl base 48 i0 _ 3 40 Tryd.underlying32 H.out.2.2.1 H.out.2.2.2.1 H.out.2.2.2.2.1 H.out.2.2.2.2.2 rfl (by decide) _ _ _ rfl H.out.1 ⟨vb, vo, none⟩ 1 vc news rfl (by omega) H.out.2.1 h1n hmax h48 hbase ?_)
    all_goals (intro v' w' hown' hgrow hnil; clear hnil; go_wp2; go_ret; exact ⟨v', rfl, hown', hgrow⟩)

theorem shape_cells {w : World} {g : Nat} {cur : Array Value} {t : TypeId} {fr : Nat × Nat} (h : w.heap[g]? = some (.cells cur t fr)) : w.shape? g = some (t, cur.size) := by
  unfold World.shape?
  rw [h]
set_option maxHeartbeats 4000000 in
set_option maxRecDepth 100000 in
theorem ins_room (w : World) (g cap : Nat) (cur : Array Value) (n i : Nat) (xs news : List Value) (vb vo vc : Nat) (hin : i < n)
    (hg : w.heap[g]? = some (.cells cur 48 (0, 0))) (hroom : n + 1 ≤ cap) (hcm : cap ≤ maxLen) (hcs : cur.size = cap * 3) (htake : cur.toList.take (n * 3) = xs)
    (h1 : ∀ u ∈ xs, u.oneCell' = true) (h1n : ∀ u ∈ news, u.oneCell' = true) (hl : news.length = 3)
    (hvs : ∀ j u, news[j]? = some u → w.cell? ((⟨vb, vo, none⟩ : Addr).add j) = some u) (hne : vb ≠ g)
    (tA : TypeId) (kA : Nat) (hsa : w.shape? vb = some (tA, kA)) (hfa : w.frozen? ⟨vb, vo, none⟩ = false) (hfe : w.frozen? { block := vb, off := kA } = false) :
    Calls Tryd.prog 143 #[.slice (some ⟨g, 0, none⟩) n cap, .int .i64 i, .slice (some ⟨vb, vo, none⟩) 1 vc] w fun e w' => e = .returned (.slice (some ⟨g, 0, none⟩) (n + 1) cap) ∧
      ∃ cur2 : Array Value, cur2.size = cur.size ∧ cur2.toList.take ((n + 1) * 3) = xs.take (i * 3) ++ news ++ xs.drop (i * 3) ∧ w'.heap[g]? = some (.cells cur2 48 (0, 0)) ∧ w.grownBy w' (some g) := by
  have hsz : (Tryd.prog.info? 48).map (·.size) = some 3 := by kernel_rfl
  have hxl : xs.length = n * 3 := by rw [← htake, List.length_take, Array.length_toList, hcs]; omega
  obtain ⟨B, hB⟩ : ∃ B, B = xs.drop (i * 3) := ⟨_, rfl⟩
  have hBl : B.length = (n - i) * 3 := by rw [hB, List.length_drop, hxl]; omega
  obtain ⟨l1, hl1⟩ : ∃ l1, l1 = cur.toList.take ((i + 1) * 3) ++ B ++ cur.toList.drop ((i + 1) * 3 + B.length) := ⟨_, rfl⟩
  obtain ⟨l2, hl2⟩ : ∃ l2, l2 = l1.take (i * 3) ++ news ++ l1.drop (i * 3 + news.length) := ⟨_, rfl⟩
  have q1 : l2.take ((n + 1) * 3) = xs.take (i * 3) ++ news ++ B := by
    have h := shift_list (l := cur.toList) (B := B) (news := news) (I := i * 3) (N := n * 3) (s := 3) (by omega) (by rw [Array.length_toList, hcs]; omega) (by rw [htake]; exact hB) hl
    rw [hl2, hl1, hl, show (n + 1) * 3 = n * 3 + 3 by omega, show (i + 1) * 3 = i * 3 + 3 by omega, h, htake]
  have q2 : l2.length = cur.toList.length := by
    have h := shift_length (l := cur.toList) (B := B) (news := news) (I := i * 3) (N := n * 3) (s := 3) (by omega) (by rw [Array.length_toList, hcs]; omega) (by rw [htake]; exact hB) hl
    rw [hl2, hl1, hl, show (i + 1) * 3 = i * 3 + 3 by omega, h]
  have q3 : l1.length = cur.size := by
    rw [hl1]
    simp only [List.length_append, List.length_take, List.length_drop, Array.length_toList, hBl, hcs]
    omega
  have hcells : ∀ j u, xs[j]? = some u → w.cell? ⟨g, 0 + j, none⟩ = some u := fun j u hj => by
    have hj' : cur.toList[j]? = some u := by
      rw [← htake, List.getElem?_take] at hj
      split at hj
      · exact hj
      · cases hj
    rw [Nat.zero_add]
    simp only [World.cell?, hg]
    simpa using hj'
  have hcp1 : ∀ ty dc sc, (Builtin.copy_ #[32, 32] ty #[.slice (some ⟨g, (i + 1) * 3, none⟩) (n - i) dc, .slice (some ⟨g, i * 3, none⟩) (n + 1 - i) sc]).run Tryd.prog w.drew = .ok (goInt (Nat.min (n + 1 - i) (n - i))) (w.drew.setRow g l1.toArray) := fun ty dc sc => by
    rw [hl1]
    refine copy_row w.drew 32 32 ty 48 g ((i + 1) * 3) _ dc ⟨g, i * 3, none⟩ _ sc cur 48 B 3 Tryd.underlying32 hsz hg ?_ ?_ ?_ ?_
    · rw [hBl]
      congr 1
      simp only [Nat.min_def]
      split <;> omega
    · intro j u hj
      rw [Addr.add_lit]
      rw [hB, List.getElem?_drop] at hj
      have := hcells _ u hj
      rw [Nat.zero_add] at this
      exact this
    · rw [hBl, hcs]; omega
    · intro u hu
      rw [hB] at hu
      exact h1 u (List.mem_of_mem_drop hu)
  have hcp2 : ∀ W : World, W.heap[g]? = some (.cells l1.toArray 48 (0, 0)) → (∀ j u, news[j]? = some u → W.cell? ((⟨vb, vo, none⟩ : Addr).add j) = some u) → ∀ ty dc, (Builtin.copy_ #[32, 32] ty #[.slice (some ⟨g, i * 3, none⟩) (n + 1 - i) dc, .slice (some ⟨vb, vo, none⟩) 1 vc]).run Tryd.prog W = .ok (goInt (Nat.min 1 (n + 1 - i))) (W.setRow g l2.toArray) := fun W hW hn ty dc => by
    have h := copy_row W 32 32 ty 48 g (i * 3) (n + 1 - i) dc ⟨vb, vo, none⟩ 1 vc l1.toArray 48 news 3 Tryd.underlying32 hsz hW (by
      rw [hl]
      simp only [Nat.min_def]
      split <;> omega) hn (by rw [hl, List.size_toArray, q3, hcs]; omega) h1n
    rw [h, hl2]
  have hsizeOf : ∀ w : World, (Go.sizeOf 48).run Tryd.prog w = .ok 3 w := fun w => by
    obtain ⟨i0, hi0, hz⟩ := Option.map_eq_some_iff.1 hsz
    simp [Go.sizeOf, typeInfo, hi0, hz]
  have hov : ∀ (o lb cb : Nat), (callFunc 189 #[.slice (some ⟨vb, vo, none⟩) 1 vc, .slice (some ⟨g, o, none⟩) lb cb]).run Tryd.prog w = .ok (.value (.bool false)) w := fun o lb cb => by
    rw [run_callFunc_extern Tryd.func189 (by kernel_rfl) (by kernel_rfl) (by kernel_rfl) (e := Extern.SlicesOverlaps.overlaps #[32, 32] #[4]) (by kernel_rfl),
      Lib.run_overlaps_apart w 32 4 48 Tryd.underlying32 3 hsizeOf ⟨vb, vo, none⟩ ⟨g, o, none⟩ 1 vc lb cb hne tA 48 kA cur.size hsa (shape_cells hg) (by rw [hcs]; omega) hfa hfe]
    rfl
  have hz1 : ¬ ((n : Int) = 0) := by omega
  have hz2 : ¬ ((i : Int) = (n : Int)) := by omega
  have hz3 : ¬ ((cap : Int) < (n : Int) + 1) := by omega
  have hw1 : IntKind.i64.wrap ((i : Int) + 1) = (i : Int) + 1 := by rw [IntKind.wrap_i64]; unfold maxLen at hcm; omega
  have hw2 : IntKind.i64.wrap ((n : Int) + 1) = (n : Int) + 1 := by rw [IntKind.wrap_i64]; unfold maxLen at hcm; omega
  have hb1 : (0 : Int) ≤ (i : Int) + 1 := by omega
  have hin' : (i : Int) ≤ (n : Int) := by omega
  have hic' : (i : Int) ≤ (n : Int) + 1 := by omega
  have hnc' : (n : Int) + 1 ≤ (cap : Int) := by omega
  have htn : ((i : Int) + 1).toNat = i + 1 := by omega
  have htm : ((n : Int) + 1).toNat = n + 1 := by omega
  have hb2 : ¬ (cap = i + 1) := by omega
  have hb4 : ¬ (cap = i) := by omega
  have hb5 : (i : Int) + 1 ≤ (n : Int) + 1 := by omega
  have hc63 : (cap : Int) ≤ 9223372036854775807 := by unfold maxLen at hcm; omega
  have mixed : Tryd.prog.follows Departure.mixedOrders = true := by kernel_rfl
  have HW1 := Aside0.mk (setRow_heap w.drew g cur l1.toArray 48 (0, 0) hg)
  have HN := Aside0.mk hvs
  have H := Aside0.mk (And.intro hg (And.intro q1 (And.intro q2 q3)))
  have HB := Aside0.mk hB
  clear hvs hg q1 q2 q3 hcells hxl htake hBl hsz hl1 hl2 hcs hcm h1 h1n hl hsizeOf hB
  go_enter Tryd.func143, Tryd.ntmps143
  go_wp2_with (simp only [hov])
  go_region_law_o (refine step_copy_runI rfl _ _ 32 32 rfl _ _ (by simp [Act.eval, Act.put]) (by simp [Act.eval, Act.put]) (hcp1 _ _ _) ?_)
  have hcp3 := hcp2 _ HW1.out (fun j u hj => (World.cell?_of_block (by rw [show ((⟨vb, vo, none⟩ : Addr).add j).block = vb by rw [Addr.add_lit]]; exact setRow_other w.drew g vb _ hne)).trans (HN.out j u hj))
  go_wp2
  go_ret
  refine ⟨rfl, l2.toArray, by rw [List.size_toArray, H.out.2.2.1, Array.length_toList], by rw [← HB.out]; exact H.out.2.1, ?_, ?_⟩
  · exact setRow_heap _ g _ _ 48 (0, 0) HW1.out
  · exact grown_setRow (v := .slice (some ⟨g, 0, none⟩) 0 0) _ (grown_setRow (v := .slice (some ⟨g, 0, none⟩) 0 0) _ (grown_drew (grown_refl w _)) rfl) rfl

set_option maxHeartbeats 4000000 in
set_option maxRecDepth 100000 in
theorem ins_grow (w : World) (base g cap : Nat) (n i : Nat) (xs news : List Value) (vb vo vc : Nat) (hin : i < n)
    (hgw : g < w.heap.size) (hnc : n ≤ cap) (hroom : cap < n + 1) (hxl : xs.length = n * 3) (hcells : ∀ j u, xs[j]? = some u → w.cell? ⟨g, 0 + j, none⟩ = some u)
    (h1 : ∀ u ∈ xs, u.oneCell' = true) (h1n : ∀ u ∈ news, u.oneCell' = true) (hl : news.length = 3)
    (hvs : ∀ j u, news[j]? = some u → w.cell? ((⟨vb, vo, none⟩ : Addr).add j) = some u) (hvw : vb < w.heap.size) (hbase : base ≤ w.heap.size) (hbig : (n + 1) * 40 ≤ 140737488355328) :
    Calls Tryd.prog 143 #[.slice (some ⟨g, 0, none⟩) n cap, .int .i64 i, .slice (some ⟨vb, vo, none⟩) 1 vc] w fun e w' => ∃ v', e = .returned v' ∧ w'.ownsRow base 48 3 v' (n + 1) (xs.take (i * 3) ++ news ++ xs.drop (i * 3)) ∧ ∀ row, w.grownBy w' row := by
  have hsz : (Tryd.prog.info? 48).map (·.size) = some 3 := by kernel_rfl
  obtain ⟨i0, hi0, hz⟩ := Option.map_eq_some_iff.1 (show (Tryd.prog.info? 48).map (fun i => (i.zero, i.size, i.bytes)) = some (some (.agg #[(.string ⟨#[]⟩), (.string ⟨#[]⟩), (.int .i64 0)]), 3, 40) from by kernel_rfl)
  simp only [Prod.mk.injEq] at hz
  obtain ⟨hz0, hzs, hzb⟩ := hz
  obtain ⟨B, hB⟩ : ∃ B, B = xs.drop (i * 3) := ⟨_, rfl⟩
  have hBl : B.length = (n - i) * 3 := by rw [hB, List.length_drop, hxl]; omega
  have hmax : n + 1 ≤ maxLen := by unfold maxLen; omega
  obtain ⟨G, hG⟩ : ∃ G, G = grownCap w (n + 1) cap 48 := ⟨_, rfl⟩
  have hGn : n + 1 ≤ G := by rw [hG]; exact grownCap_ge w _ _ _
  have hGm : G ≤ maxLen := by rw [hG]; exact grownCap_le_maxLen w (n + 1) cap 48 hmax
  obtain ⟨ROW, hROW⟩ : ∃ ROW : Array Value, ROW = (xs.take (i * 3)).toArray ++ Builtin.zeroCells (Value.agg #[(.string ⟨#[]⟩), (.string ⟨#[]⟩), (.int .i64 0)]).cells (n + 1 - i) ++ Builtin.zeroCells (Value.agg #[(.string ⟨#[]⟩), (.string ⟨#[]⟩), (.int .i64 0)]).cells (G - (n + 1)) := ⟨_, rfl⟩
  have hz3 : (Value.agg #[(.string ⟨#[]⟩), (.string ⟨#[]⟩), (.int .i64 0)]).cells.size = 3 := rfl
  have hRs : ROW.size = G * 3 := by
    rw [hROW]
    simp only [Array.size_append, List.size_toArray, size_zeroCells, hz3, List.length_take, hxl]
    omega
  have hRt : ROW.toList.take (i * 3) = xs.take (i * 3) := by
    rw [hROW]
    simp only [Array.toList_append, List.append_assoc]
    apply List.take_left'
    rw [List.length_take, hxl]
    omega
  obtain ⟨l1, hl1⟩ : ∃ l1, l1 = ROW.toList.take (i * 3) ++ news ++ ROW.toList.drop (i * 3 + news.length) := ⟨_, rfl⟩
  obtain ⟨l2, hl2⟩ : ∃ l2, l2 = l1.take ((i + 1) * 3) ++ B ++ l1.drop ((i + 1) * 3 + B.length) := ⟨_, rfl⟩
  have q1 : l2.take ((n + 1) * 3) = xs.take (i * 3) ++ news ++ B := by
    have h := put_list (l := ROW.toList) (B := B) (news := news) (xs := xs) (I := i * 3) (N := n * 3) (s := 3) (by omega) (by rw [Array.length_toList, hRs]; omega) hRt hB hxl hl
    rw [hl2, hl1, show (n + 1) * 3 = n * 3 + 3 by omega, show (i + 1) * 3 = i * 3 + 3 by omega, h]
  have q2 : l2.length = G * 3 := by
    have h := put_length (l := ROW.toList) (B := B) (news := news) (xs := xs) (I := i * 3) (N := n * 3) (s := 3) (by omega) (by rw [Array.length_toList, hRs]; omega) hB hxl hl
    rw [hl2, hl1, show (i + 1) * 3 = i * 3 + 3 by omega, h, Array.length_toList, hRs]
  have q3 : l1.length = G * 3 := by
    rw [hl1]
    simp only [List.length_append, List.length_take, List.length_drop, Array.length_toList, hRs, hl]
    omega
  have hik : i + (n + 1 - i) = n + 1 := by omega
  have hkk : (n : Int) + 1 - (i : Int) = ((n + 1 - i : Nat) : Int) := by omega
  have hold : (Builtin.firstCells i0.size i (.slice (some ⟨g, 0, none⟩) i cap)).run Tryd.prog w.drew = .ok (xs.take (i * 3)).toArray w.drew := by
    rw [hzs]
    exact run_firstCells_some w.drew 3 i ⟨g, 0, none⟩ i cap (xs.take (i * 3)) (by rw [List.length_take, hxl]; omega) (fun j v hj => by
      rw [Addr.add_lit]
      rw [List.getElem?_take] at hj
      split at hj
      · exact hcells j v hj
      · cases hj)
  have hrz : ∀ ty, (Builtin.append_ #[32, 3] ty #[.slice (some ⟨g, 0, none⟩) i cap, .int .i64 ((n : Int) + 1 - (i : Int))]).run Tryd.prog w =
      .ok (.slice (some ⟨w.heap.size, 0, none⟩) (n + 1) G) (w.drew.alloc (.cells ROW 48)) := fun ty => by
    have h := Lib.run_append_grow_zeros w 32 3 ty 48 i0 _ .i64 .i64 Tryd.underlying32 Tryd.underlying3 hi0 hz0 (some ⟨g, 0, none⟩) i cap (xs.take (i * 3)) hold (n + 1 - i) (by omega) (by omega) (by omega) (by omega) (by rw [hzb]; omega) (by rw [hzb, hik]; exact growslice_fits hroom hbig)
    rw [hik, ← hG] at h
    rw [hkk, hROW]
    exact h
  obtain ⟨W1, hW1⟩ : ∃ W1, W1 = w.drew.alloc (.cells ROW 48) := ⟨_, rfl⟩
  have hg1 : W1.heap[w.heap.size]? = some (.cells ROW 48 (0, 0)) := by rw [hW1]; exact heap_alloc_new w.drew _
  have hold1 : ∀ k, k < w.heap.size → W1.heap[k]? = w.heap[k]? := fun k hk => by rw [hW1]; exact heap_alloc_old w.drew _ hk
  have hcpA : ∀ (W : World), W.heap = W1.heap → ∀ ty dc, (Builtin.copy_ #[32, 32] ty #[.slice (some ⟨w.heap.size, i * 3, none⟩) (n + 1 - i) dc, .slice (some ⟨vb, vo, none⟩) 1 vc]).run Tryd.prog W = .ok (goInt (Nat.min 1 (n + 1 - i))) (W.setRow w.heap.size l1.toArray) := fun W hW ty dc => by
    have h := copy_row W 32 32 ty 48 w.heap.size (i * 3) (n + 1 - i) dc ⟨vb, vo, none⟩ 1 vc ROW 48 news 3 Tryd.underlying32 hsz (by rw [hW]; exact hg1) (by
      rw [hl]
      simp only [Nat.min_def]
      split <;> omega) (fun j u hj => by
        rw [Addr.add_lit]
        have q := hvs j u hj
        rw [Addr.add_lit] at q
        exact (World.cell?_of_block (by rw [hW]; exact hold1 vb hvw)).trans q) (by rw [hl, hRs]; omega) h1n
    rw [h, hl1]
  have hcpB : ∀ (W : World), W.heap = (W1.setRow w.heap.size l1.toArray).heap → ∀ ty dc sc, (Builtin.copy_ #[32, 32] ty #[.slice (some ⟨w.heap.size, (i + 1) * 3, none⟩) (n - i) dc, .slice (some ⟨g, i * 3, none⟩) (n - i) sc]).run Tryd.prog W = .ok (goInt (Nat.min (n - i) (n - i))) (W.setRow w.heap.size l2.toArray) := fun W hW ty dc sc => by
    have h := copy_row W 32 32 ty 48 w.heap.size ((i + 1) * 3) (n - i) dc ⟨g, i * 3, none⟩ (n - i) sc l1.toArray 48 B 3 Tryd.underlying32 hsz (by rw [hW]; exact setRow_heap W1 _ ROW _ 48 (0, 0) hg1) (by rw [hBl, show Nat.min (n - i) (n - i) = n - i from Nat.min_self _]) (fun j u hj => by
        rw [Addr.add_lit]
        rw [hB, List.getElem?_drop] at hj
        have q := hcells _ u hj
        rw [Nat.zero_add] at q
        exact (World.cell?_of_block (by rw [hW, setRow_other W1 w.heap.size g _ (by omega)]; exact hold1 g hgw)).trans q) (by rw [hBl, List.size_toArray, q3]; omega) (fun u hu => by rw [hB] at hu; exact h1 u (List.mem_of_mem_drop hu))
    rw [h, hl2]
  have hz1 : ¬ ((n : Int) = 0) := by omega
  have hz2 : ¬ ((i : Int) = (n : Int)) := by omega
  have hz4 : (cap : Int) < (n : Int) + 1 := by omega
  have hw1 : IntKind.i64.wrap ((i : Int) + 1) = (i : Int) + 1 := by rw [IntKind.wrap_i64]; omega
  have hw2 : IntKind.i64.wrap ((n : Int) + 1) = (n : Int) + 1 := by rw [IntKind.wrap_i64]; omega
  have hw3 : IntKind.i64.wrap ((n : Int) + 1 - (i : Int)) = (n : Int) + 1 - (i : Int) := by rw [IntKind.wrap_i64]; omega
  have hb1 : (0 : Int) ≤ (i : Int) + 1 := by omega
  have hin' : (i : Int) ≤ (n : Int) := by omega
  have hic' : (i : Int) ≤ (n : Int) + 1 := by omega
  have hicap : (i : Int) ≤ (cap : Int) := by omega
  have htn : ((i : Int) + 1).toNat = i + 1 := by omega
  have htm : ((n : Int) + 1).toNat = n + 1 := by omega
  have hb2 : ¬ (G = i + 1) := by omega
  have hb4 : ¬ (G = i) := by omega
  have hb6 : ¬ (cap = i) := by omega
  have hb5 : (i : Int) + 1 ≤ (n : Int) + 1 := by omega
  have hc63 : (cap : Int) ≤ 9223372036854775807 := by omega
  have hG63 : (G : Int) ≤ 9223372036854775807 := by unfold maxLen at hGm; omega
  have mixed : Tryd.prog.follows Departure.mixedOrders = true := by kernel_rfl
  have H := Aside0.mk (And.intro hg1 (And.intro hold1 (And.intro q1 (And.intro q2 (And.intro hGn (And.intro hGm (And.intro hbase (And.intro hB hxl))))))))
  have HLn := Aside0.mk hl
  have HL1 := Aside0.mk (setRow_heap W1 _ ROW l1.toArray 48 (0, 0) hg1)
  have HWs := Aside0.mk (show w.heap.size ≤ W1.heap.size ∧ W1.os = w.os ∧ W1.tape = w.tape ∧ W1.output = w.output from by rw [hW1]; exact ⟨by simp, rfl, rfl, rfl⟩)
  rw [← hW1] at hrz
  clear hg1 hold1 q1 q2 q3 hGn hGm hbase hB hcells hvs hRs hRt hROW hl1 hl2 hold hBl h1 h1n hl hsz hxl hi0 hz0 hzs hzb hz3 hmax hG hkk hik
  go_enter Tryd.func143, Tryd.ntmps143
  go_wp2_with (at_builtin; refine Lib.wpList_append_run _ rfl _ _ _ _ rfl _ _ rfl rfl _ _ (hrz _) ?_)
  have hcpC := hcpB (((w.alloc (.cells ROW 48)).drew.setRow w.heap.size l1.toArray).drew) (by rw [hW1]; rfl)
  go_region_law_o (refine step_copy_runI rfl _ _ 32 32 rfl _ _ (by simp [Act.eval, Act.put]) (by simp [Act.eval, Act.put]) (hcpC _ _ _) ?_)
  go_wp2
  go_ret
  have hh : (((w.alloc (.cells ROW 48)).drew.setRow w.heap.size l1.toArray).drew.setRow w.heap.size l2.toArray).heap = ((W1.setRow w.heap.size l1.toArray).setRow w.heap.size l2.toArray).heap := by rw [hW1]; rfl
  refine ⟨_, rfl, ⟨by rw [List.length_append, List.length_append, List.length_take, List.length_drop, H.out.2.2.2.2.2.2.2.2, HLn.out]; omega, .inr ⟨w.heap.size, G, l2.toArray, rfl, H.out.2.2.2.2.2.2.1, ?_, H.out.2.2.2.2.1, H.out.2.2.2.2.2.1, by rw [List.size_toArray]; exact H.out.2.2.2.1, by rw [← H.out.2.2.2.2.2.2.2.1]; exact H.out.2.2.1⟩⟩, fun row => ⟨rfl, rfl, rfl, ?_, fun k hk _ => ?_⟩⟩
  · rw [hh]
    exact setRow_heap _ _ _ _ 48 (0, 0) HL1.out
  · rw [hh]
    simp only [World.setRow, Array.size_modify]
    exact HWs.out.1
  · rw [hh, setRow_other _ w.heap.size k _ (by omega), setRow_other _ w.heap.size k _ (by omega)]
    exact H.out.2.1 k hk

/-- slices.Insert of one line into a row that is the call's own: a row of the call's own, with the line at its place. -/
theorem ins (w : World) (base : Nat) (v : Value) (n i : Nat) (xs news : List Value) (vb vo vc : Nat) (hin : i ≤ n)
    (hown : w.ownsRow base 48 3 v n xs) (h1 : ∀ u ∈ xs, u.oneCell' = true) (h1n : ∀ u ∈ news, u.oneCell' = true) (hl : news.length = 3)
    (hvs : ∀ j u, news[j]? = some u → w.cell? ((⟨vb, vo, none⟩ : Addr).add j) = some u) (hne : v.ownBlock ≠ some vb)
    (tA : TypeId) (kA : Nat) (hsa : w.shape? vb = some (tA, kA)) (hfa : w.frozen? ⟨vb, vo, none⟩ = false) (hfe : w.frozen? { block := vb, off := kA } = false)
    (hvw : vb < w.heap.size) (hbig : (n + 1) * 40 ≤ 140737488355328) (hbase : base ≤ w.heap.size) :
    Calls Tryd.prog 143 #[v, .int .i64 i, .slice (some ⟨vb, vo, none⟩) 1 vc] w fun e w' => ∃ v', e = .returned v' ∧ w'.ownsRow base 48 3 v' (n + 1) (xs.take (i * 3) ++ news ++ xs.drop (i * 3)) ∧ w.grownBy w' v.ownBlock := by
  by_cases hi : i = n
  · subst hi
    have hx : xs.length = i * 3 := hown.1
    rw [List.take_of_length_le (by omega), List.drop_of_length_le (by omega), List.append_nil]
    exact ins_end w base v i xs news vb vo vc hown h1n hl hvs hbig hbase
  have hin' : i < n := by omega
  rcases hown.2 with ⟨rfl, rfl⟩ | ⟨g, cap, cur, rfl, hbg, hg, hnc, hcm, hcs, htake⟩
  · omega
  have hgw : g < w.heap.size := (Array.getElem?_eq_some_iff.1 hg).1
  have hgv : vb ≠ g := fun e => hne (by rw [e]; rfl)
  by_cases hroom : n + 1 ≤ cap
  · refine (ins_room w g cap cur n i xs news vb vo vc hin' hg hroom hcm hcs htake h1 h1n hl hvs hgv tA kA hsa hfa hfe).mono ?_
    rintro e w' ⟨rfl, cur2, hs, ht, hh, hgr⟩
    refine ⟨_, rfl, ⟨?_, .inr ⟨g, cap, cur2, rfl, hbg, hh, hroom, hcm, by rw [hs, hcs], ht⟩⟩, hgr⟩
    rw [List.length_append, List.length_append, List.length_take, List.length_drop, hown.1, hl]
    omega
  · refine (ins_grow w base g cap n i xs news vb vo vc hin' hgw hnc (by omega) hown.1 (fun j u hj => ?_) h1 h1n hl hvs hvw hbase hbig).mono ?_
    · have := hown.cells (g := g) rfl j u hj
      rw [Addr.add_lit] at this
      exact this
    · rintro e w' ⟨v', rfl, ho, hgr⟩
      exact ⟨v', rfl, ho, hgr _⟩
end Go.Proofs.YtidlcolgiololaaDoor.Rows
