/- Proved: the law of BookOpen, in plain Lean: reference and program answer the same at every book and spot, and the answer owns its memory; no condition. -/
import Derived.Test.YtidlcolgiololaaDoorS0
import Derived.Test.YtidlcolgiololaaDoorS10
import Derived.Test.YtidlcolgiololaaDoorS11
import Derived.Test.YtidlcolgiololaaDoorS12
import Derived.Test.YtidlcolgiololaaDoorS14
import Derived.Test.YtidlcolgiololaaDoorS13
import Derived.Lib.SlTrimSet
import Derived.Test.YtidlcolgiololaaDoorS2
import Derived.Test.YtidlcolgiololaaDoorS6
import Derived.Test.YtidlcolgiololaaDoorS3
import Derived.Test.YtidlcolgiololaaDoorS7
import Derived.Test.YtidlcolgiololaaDoorS4
import Derived.Test.YtidlcolgiololaaDoorS5
import Derived.Test.YtidlcolgiololaaDoorS8
import Derived.Test.YtidlcolgiololaaDoorS9
import Derived.Test.YtidlcolgiololaaDoorStmFnExactBookOpen
import Derived.Test.YtidlcolgiololaaDoorS15
namespace Go.Proofs.YtidlcolgiololaaDoor.Cal
open Go.RowKit Go.Proofs.YtidlcolgiololaaDoorW.PrintWords
set_option linter.unusedVariables false

theorem bnd {α β : Type} {o : Option α} {a : α} {f : α → Option β} {r : Option β} (h : o = some a) (k : f a = r) : o.bind f = r := by
  rw [h]
  exact k
theorem yes {α : Type} {c : Prop} [Decidable c] {x y r : α} (h : c) (k : x = r) : (if c then x else y) = r := by
  rw [if_pos h]
  exact k
theorem no {α : Type} {c : Prop} [Decidable c] {x y r : α} (h : ¬ c) (k : y = r) : (if c then x else y) = r := by
  rw [if_neg h]
  exact k
theorem wid {x : Int} (h : -9223372036854775808 ≤ x) (h' : x ≤ 9223372036854775807) : wrap64 x = x := by
  unfold wrap64
  omega
theorem td {a b : Int} (h : 0 ≤ a) : Int.tdiv a b = a / b := Int.tdiv_eq_ediv_of_nonneg h
theorem tm {a b : Int} (h : 0 ≤ a) : Int.tmod a b = a % b := Int.tmod_eq_emod_of_nonneg h

end Go.Proofs.YtidlcolgiololaaDoor.Cal
namespace Go.Proofs.YtidlcolgiololaaDoor.DiskBase
open Go.RowKit Go.Proofs.YtidlcolgiololaaDoor.S Go.Proofs.YtidlcolgiololaaDoorW.PrintWords Go.Proofs.YtidlcolgiololaaDoor.Cal
set_option linter.unusedVariables false
set_option linter.unusedSimpArgs false

def tot : List ByteArray → Nat
  | [] => 0
  | x :: r => x.size + tot r
theorem tot_append : ∀ a b : List ByteArray, tot (a ++ b) = tot a + tot b
  | [], b => by simp [tot]
  | x :: r, b => by
    rw [List.cons_append, tot, tot, tot_append r b]
    omega
theorem tot_mem : ∀ {l : List ByteArray} {x : ByteArray}, x ∈ l → x.size ≤ tot l
  | y :: r, x, h => by
    rw [tot]
    rcases List.mem_cons.1 h with rfl | h
    · omega
    · have := tot_mem h
      omega
theorem rdo (pre tl : List ByteArray) (x : ByteArray) : rdOf ByteArray.empty (pre ++ x :: tl) (pre.length : Int) = x := by
  unfold rdOf
  rw [List.getD_eq_getElem?_getD, Int.toNat_natCast, List.getElem?_append_right (Nat.le_refl _), Nat.sub_self]
  rfl
theorem nxt {α : Type} (pre : List α) (x : α) (h : pre.length ≤ 100000000) : wrap64 ((pre.length : Int) + 1) = ((pre ++ [x]).length : Int) := by
  rw [wid (by omega) (by omega), List.length_append]
  rfl
theorem snoc {α : Type} (pre tl : List α) (x : α) : pre ++ x :: tl = (pre ++ [x]) ++ tl := by rw [List.append_assoc]; rfl
theorem dataList_inj {a b : ByteArray} (h : a.data.toList = b.data.toList) : a = b := by
  obtain ⟨⟨a⟩⟩ := a
  obtain ⟨⟨b⟩⟩ := b
  simp at h
  rw [h]
theorem toList_data (s : ByteArray) : s.toList = s.data.toList := Lib.toList_data s
theorem toList_ne {s : ByteArray} : s.toList = ([] : List UInt8) ↔ s.size = 0 := by
  rw [toList_data]
  constructor
  · intro h
    have := congrArg List.length h
    rw [data_length] at this
    exact this
  · intro h
    apply List.eq_nil_of_length_eq_zero
    rw [data_length, h]

end Go.Proofs.YtidlcolgiololaaDoor.DiskBase
namespace Go.Proofs.YtidlcolgiololaaDoor.BkTexts
open Go.RowKit Go.Proofs.YtidlcolgiololaaDoor.S Go.Proofs.YtidlcolgiololaaDoorW.PrintWords Go.Proofs.YtidlcolgiololaaDoor.Cal Go.Proofs.YtidlcolgiololaaDoor.DiskBase
set_option linter.unusedVariables false
set_option linter.unusedSimpArgs false

theorem szS_l0 : ∀ (tl pre : List ByteArray) (x : Int) (k : Nat), (∀ y ∈ tl, y.size ≤ 140737488351232) → 0 ≤ x → x ≤ 1048576 → pre.length + tl.length ≤ 1048576 → tl.length + 1 ≤ k →
    ∃ t, laws_szStringS.l0 k (pre ++ tl) x (pre.length : Int) = some t ∧ (t < 0 ∨ (0 ≤ t ∧ x = t + tot tl))
  | [], pre, x, k, hy, h0, h1, hl, hk => by
    obtain ⟨j, rfl⟩ : ∃ j, k = j + 1 := ⟨k - 1, by simp at hk; omega⟩
    refine ⟨x, ?_, .inr ⟨h0, by simp [tot]⟩⟩
    rw [laws_szStringS.l0]
    exact no (by simp) rfl
  | y :: tl, pre, x, k, hy, h0, h1, hl, hk => by
    rw [List.length_cons] at hl hk
    obtain ⟨j, rfl⟩ : ∃ j, k = j + 1 := ⟨k - 1, by omega⟩
    have hy0 := hy y List.mem_cons_self
    have e : wrap64 (x - (y.size : Int)) = x - (y.size : Int) := wid (by omega) (by omega)
    by_cases c : x - (y.size : Int) < 0
    · refine ⟨-1, ?_, .inl (by omega)⟩
      rw [laws_szStringS.l0]
      refine yes (by rw [List.length_append, List.length_cons]; omega) ?_
      refine yes (by omega) ?_
      rw [rdo, e]
      exact yes c rfl
    · obtain ⟨t, ht, hc⟩ := szS_l0 tl (pre ++ [y]) (x - (y.size : Int)) j (fun z hz => hy z (List.mem_cons_of_mem _ hz)) (by omega) (by omega) (by rw [List.length_append]; simp; omega) (by omega)
      refine ⟨t, ?_, ?_⟩
      · rw [laws_szStringS.l0]
        refine yes (by rw [List.length_append, List.length_cons]; omega) ?_
        refine yes (by omega) ?_
        rw [rdo, e]
        refine no c ?_
        rw [nxt pre y (by omega), snoc pre tl y]
        exact ht
      · rcases hc with hc | ⟨hc, he⟩
        · exact .inl hc
        · refine .inr ⟨hc, ?_⟩
          rw [tot]
          omega
theorem toS_l0 : ∀ (tl pre zs : List ByteArray) (k : Nat), zs.length = tl.length → pre.length + tl.length ≤ 1048576 → tl.length + 1 ≤ k →
    laws_toStringS.l0 k (pre ++ tl) (pre ++ zs) (pre.length : Int) = some (pre ++ tl)
  | [], pre, zs, k, hz, hl, hk => by
    obtain ⟨j, rfl⟩ : ∃ j, k = j + 1 := ⟨k - 1, by simp at hk; omega⟩
    obtain rfl : zs = [] := List.eq_nil_of_length_eq_zero hz
    rw [laws_toStringS.l0]
    exact no (by simp) rfl
  | y :: tl, pre, z :: zs, k, hz, hl, hk => by
    rw [List.length_cons] at hl hk
    obtain ⟨j, rfl⟩ : ∃ j, k = j + 1 := ⟨k - 1, by omega⟩
    have ih := toS_l0 tl (pre ++ [y]) zs j (by simpa using hz) (by rw [List.length_append]; simp; omega) (by omega)
    rw [laws_toStringS.l0]
    refine yes (by rw [List.length_append, List.length_cons]; omega) ?_
    refine yes (by omega) ?_
    refine yes (by rw [List.length_append, List.length_cons]; omega) ?_
    have e : (pre ++ z :: zs).set ((pre.length : Int) : Int).toNat y = pre ++ y :: zs := by
      rw [Int.toNat_natCast, List.set_append_right _ _ (Nat.le_refl _), Nat.sub_self]
      rfl
    rw [rdo, e, nxt pre y (by omega), snoc pre tl y, snoc pre zs y]
    exact ih
theorem toS {l : List ByteArray} (hl : l.length ≤ 1048576) {k : Nat} (hk : 2000000 ≤ k) : laws_toStringS.f k l = some l := by
  unfold laws_toStringS.f
  refine yes (by omega) ?_
  refine yes (by rw [Int.toNat_natCast]; omega) ?_
  have h := toS_l0 l [] (List.replicate l.length (⟨#[]⟩ : ByteArray)) k (by rw [List.length_replicate]) (by simp; omega) (by omega)
  rw [Int.toNat_natCast]
  exact h
theorem eqS_l0 : ∀ (tl pre : List ByteArray) (k : Nat), pre.length + tl.length ≤ 2000000 → tl.length + 1 ≤ k →
    laws_eqStringS.l0 k (pre ++ tl) (pre ++ tl) (pre.length : Int) = some true
  | [], pre, k, hl, hk => by
    obtain ⟨j, rfl⟩ : ∃ j, k = j + 1 := ⟨k - 1, by simp at hk; omega⟩
    rw [laws_eqStringS.l0]
    exact no (by simp) rfl
  | y :: tl, pre, k, hl, hk => by
    rw [List.length_cons] at hl hk
    obtain ⟨j, rfl⟩ : ∃ j, k = j + 1 := ⟨k - 1, by omega⟩
    have ih := eqS_l0 tl (pre ++ [y]) j (by rw [List.length_append]; simp; omega) (by omega)
    rw [laws_eqStringS.l0]
    refine yes (by rw [List.length_append, List.length_cons]; omega) ?_
    refine yes (by omega) ?_
    refine yes (by rw [List.length_append, List.length_cons]; omega) ?_
    refine yes rfl ?_
    rw [nxt pre y (by omega), snoc pre tl y]
    exact ih
theorem markT_l0 : ∀ (n k : Nat) (x : Int) (t : ByteArray), 0 ≤ x → x < 10 ^ n → x ≤ 9223372036854775807 → t.size + n ≤ 1000 → n + 1 ≤ k → ∃ r, ∀ j, k ≤ j → laws_markText.l0 j x t = some r
  | 0, k, x, t, h0, h1, hx, ht, hk => by
    refine ⟨(⟨#[109]⟩ : ByteArray) ++ t, fun j hj => ?_⟩
    obtain ⟨j, rfl⟩ : ∃ i, j = i + 1 := ⟨j - 1, by omega⟩
    have e : (10 : Int) ^ 0 = 1 := rfl
    rw [laws_markText.l0]
    refine no (by omega) ?_
    exact yes (by omega) rfl
  | n + 1, k, x, t, h0, h1, hx, ht, hk => by
    by_cases c : x > 0
    · have e : (10 : Int) ^ (n + 1) = 10 ^ n * 10 := Int.pow_succ _ _
      have sz : (strOfNums [(wrap64 (48 + (Int.tmod x 10))) % 256]).size = 1 := by rw [strOfNums_size]; rfl
      obtain ⟨r, hr⟩ := markT_l0 n (k - 1) (x / 10) (strOfNums [(wrap64 (48 + (Int.tmod x 10))) % 256] ++ t) (by omega) (by omega) (by omega) (by rw [ByteArray.size_append, sz]; omega) (by omega)
      refine ⟨r, fun j hj => ?_⟩
      obtain ⟨j, rfl⟩ : ∃ i, j = i + 1 := ⟨j - 1, by omega⟩
      rw [laws_markText.l0]
      refine yes c ?_
      rw [Option.bind_some]
      refine yes (by rw [sz]; omega) ?_
      rw [td (by omega), wid (x := x / 10) (by omega) (by omega)]
      exact hr j (by omega)
    · refine ⟨(⟨#[109]⟩ : ByteArray) ++ t, fun j hj => ?_⟩
      obtain ⟨j, rfl⟩ : ∃ i, j = i + 1 := ⟨j - 1, by omega⟩
      rw [laws_markText.l0]
      refine no (by omega) ?_
      exact yes (by omega) rfl
theorem markT_tells (x : Int) (h0 : 0 ≤ x) (h1 : x ≤ 100000000) : ∃ r, ∀ j, 100 ≤ j → laws_markText.f j x = some r := by
  by_cases c : x ≤ 0
  · refine ⟨(⟨#[109, 48]⟩ : ByteArray), fun j hj => ?_⟩
    unfold laws_markText.f
    exact yes c rfl
  · obtain ⟨r, hr⟩ := markT_l0 9 100 x (⟨#[]⟩ : ByteArray) h0 (by have : (10 : Int) ^ 9 = 1000000000 := rfl; omega) (by omega) (by show 0 + 9 ≤ 1000; omega) (by omega)
    refine ⟨r, fun j hj => ?_⟩
    unfold laws_markText.f
    exact no c (hr j hj)
noncomputable def mt (x : Int) : ByteArray := if h : 0 ≤ x ∧ x ≤ 100000000 then Classical.choose (markT_tells x h.1 h.2) else ByteArray.empty
theorem mt_spec {x : Int} (h0 : 0 ≤ x) (h1 : x ≤ 100000000) {j : Nat} (hj : 100 ≤ j) : laws_markText.f j x = some (mt x) := by
  unfold mt
  rw [dif_pos ⟨h0, h1⟩]
  exact Classical.choose_spec (markT_tells x h0 h1) j hj
noncomputable def marks (c : Int) : List ByteArray → List ByteArray
  | [] => []
  | _ :: tl => mt c :: marks (c + 1) tl
theorem marks_length : ∀ (l : List ByteArray) (c : Int), (marks c l).length = l.length
  | [], c => rfl
  | _ :: tl, c => by rw [marks, List.length_cons, List.length_cons, marks_length tl]
theorem mark_l0 : ∀ (tl pre : List ByteArray) (c : Int) (k : Nat), 0 ≤ c → c + tl.length ≤ 50000000 → pre.length + tl.length ≤ 2000000 → tl.length + 101 ≤ k →
    laws_markStringS.l0 k (pre ++ tl) c (pre.length : Int) = some (c + (tl.length : Int), pre ++ marks c tl)
  | [], pre, c, k, c0, c1, hl, hk => by
    obtain ⟨j, rfl⟩ : ∃ j, k = j + 1 := ⟨k - 1, by simp at hk; omega⟩
    rw [laws_markStringS.l0]
    refine no (by simp) ?_
    simp [marks]
  | y :: tl, pre, c, k, c0, c1, hl, hk => by
    rw [List.length_cons] at c1 hl hk
    obtain ⟨j, rfl⟩ : ∃ j, k = j + 1 := ⟨k - 1, by omega⟩
    have ih := mark_l0 tl (pre ++ [mt c]) (c + 1) j (by omega) (by omega) (by rw [List.length_append]; simp; omega) (by omega)
    have e : (pre ++ y :: tl).set ((pre.length : Int) : Int).toNat (mt c) = pre ++ mt c :: tl := by
      rw [Int.toNat_natCast, List.set_append_right _ _ (Nat.le_refl _), Nat.sub_self]
      rfl
    rw [laws_markStringS.l0]
    refine yes (by rw [List.length_append, List.length_cons]; omega) ?_
    refine bnd (mt_spec (x := c) c0 (by omega) (j := j) (by omega)) ?_
    refine yes (by omega) ?_
    rw [e, wid (x := c + 1) (by omega) (by omega), nxt pre (mt c) (by omega), snoc pre tl (mt c), ih, marks, List.length_cons, List.append_assoc]
    congr 2
    omega
theorem held_l0 : ∀ (tl pre : List ByteArray) (c : Int) (k : Nat), 0 ≤ c → c + tl.length ≤ 50000000 → pre.length + tl.length ≤ 2000000 → tl.length + 101 ≤ k →
    laws_heldStringS.l0 k (pre ++ marks c tl) c (pre.length : Int) = some (c + (tl.length : Int))
  | [], pre, c, k, c0, c1, hl, hk => by
    obtain ⟨j, rfl⟩ : ∃ j, k = j + 1 := ⟨k - 1, by simp at hk; omega⟩
    rw [laws_heldStringS.l0]
    refine no (by simp [marks]) ?_
    simp
  | y :: tl, pre, c, k, c0, c1, hl, hk => by
    rw [List.length_cons] at c1 hl hk
    obtain ⟨j, rfl⟩ : ∃ j, k = j + 1 := ⟨k - 1, by omega⟩
    have ih := held_l0 tl (pre ++ [mt c]) (c + 1) j (by omega) (by omega) (by rw [List.length_append]; simp; omega) (by omega)
    rw [marks, laws_heldStringS.l0]
    refine yes (by rw [List.length_append, List.length_cons]; omega) ?_
    refine yes (by omega) ?_
    refine bnd (mt_spec (x := c) c0 (by omega) (j := j) (by omega)) ?_
    rw [rdo]
    refine yes rfl ?_
    rw [wid (x := c + 1) (by omega) (by omega), nxt pre (mt c) (by omega), snoc pre _ (mt c), ih, List.length_cons]
    congr 1
    omega
end Go.Proofs.YtidlcolgiololaaDoor.BkTexts
namespace Go.Proofs.YtidlcolgiololaaDoor.BkLoops
open Go.RowKit Go.Proofs.YtidlcolgiololaaDoor.S Go.Proofs.YtidlcolgiololaaDoorW.PrintWords Go.Proofs.YtidlcolgiololaaDoor.Cal Go.Proofs.YtidlcolgiololaaDoor.DiskBase Go.Proofs.YtidlcolgiololaaDoor.BkTexts
set_option linter.unusedVariables false
set_option linter.unusedSimpArgs false

theorem rdl (pre tl : List S48) (x : S48) : rd_T48 (pre ++ x :: tl) (pre.length : Int) = x := by
  unfold rd_T48
  rw [List.getD_eq_getElem?_getD, Int.toNat_natCast, List.getElem?_append_right (Nat.le_refl _), Nat.sub_self]
  rfl
theorem rdm (pre tl : List S186) (x : S186) : rd_T186 (pre ++ x :: tl) (pre.length : Int) = x := by
  unfold rd_T186
  rw [List.getD_eq_getElem?_getD, Int.toNat_natCast, List.getElem?_append_right (Nat.le_refl _), Nat.sub_self]
  rfl
theorem set_at {α : Type} (pre tl : List α) (x y : α) : (pre ++ x :: tl).set ((pre.length : Int) : Int).toNat y = pre ++ y :: tl := by
  rw [Int.toNat_natCast, List.set_append_right _ _ (Nat.le_refl _), Nat.sub_self]
  rfl
def Fit (a b : ByteArray) : Prop := a.size ≤ 1048576 ∧ b.size ≤ 1048576
theorem szSpot {a b : ByteArray} (ha : a.size ≤ 140737488351232) (hb : b.size ≤ 140737488351232) {x : Int} (h0 : 0 ≤ x) (h1 : x ≤ 1048576) : ∃ t, laws_szSpot.f a b x = some t ∧ (t < 0 ∨ (0 ≤ t ∧ t ≤ x ∧ Fit a b)) := by
  unfold laws_szSpot.f
  have e1 : wrap64 (x - (a.size : Int)) = x - (a.size : Int) := wid (by omega) (by omega)
  rw [e1]
  by_cases c : x - (a.size : Int) < 0
  · exact ⟨-1, yes c rfl, .inl (by omega)⟩
  have e2 : wrap64 (x - (a.size : Int) - (b.size : Int)) = x - (a.size : Int) - (b.size : Int) := wid (by omega) (by omega)
  rw [e2]
  by_cases c2 : x - (a.size : Int) - (b.size : Int) < 0
  · exact ⟨-1, no c (yes c2 rfl), .inl (by omega)⟩
  · exact ⟨_, no c (no c2 rfl), .inr ⟨by omega, by omega, by omega, by omega⟩⟩
theorem szLine {a b : ByteArray} {n : Int} (ha : a.size ≤ 140737488351232) (hb : b.size ≤ 140737488351232) {x : Int} (h0 : 0 ≤ x) (h1 : x ≤ 1048576) : ∃ t, laws_szLine.f a b n x = some t ∧ (t < 0 ∨ (0 ≤ t ∧ t ≤ x ∧ Fit a b)) := by
  obtain ⟨t, ht, hc⟩ := szSpot ha hb h0 h1
  unfold laws_szLine.f
  by_cases c : t < 0
  · exact ⟨-1, bnd ht (yes c rfl), .inl (by omega)⟩
  · exact ⟨t, bnd ht (no c rfl), hc⟩
theorem szL_l0 : ∀ (tl pre : List S186) (x : Int) (k : Nat), (∀ y ∈ tl, y.f0.f0.size ≤ 140737488351232 ∧ y.f0.f1.size ≤ 140737488351232) → 0 ≤ x → x ≤ 1048576 → pre.length + tl.length ≤ 1048576 → tl.length + 1 ≤ k →
    ∃ t, laws_szLineS.l0 k (pre ++ tl) x (pre.length : Int) = some t ∧ (t < 0 ∨ (0 ≤ t ∧ t ≤ x ∧ ∀ y ∈ tl, Fit y.f0.f0 y.f0.f1))
  | [], pre, x, k, hy, h0, h1, hl, hk => by
    obtain ⟨j, rfl⟩ : ∃ j, k = j + 1 := ⟨k - 1, by simp at hk; omega⟩
    refine ⟨x, ?_, .inr ⟨h0, by omega, fun y hy => by cases hy⟩⟩
    rw [laws_szLineS.l0]
    exact no (by simp) rfl
  | y :: tl, pre, x, k, hy, h0, h1, hl, hk => by
    rw [List.length_cons] at hl hk
    obtain ⟨j, rfl⟩ : ∃ j, k = j + 1 := ⟨k - 1, by omega⟩
    have hy0 := hy y List.mem_cons_self
    obtain ⟨t, ht, hc⟩ := szLine (n := y.f1) hy0.1 hy0.2 h0 h1
    have st : laws_szLineS.l0 (j + 1) (pre ++ y :: tl) x (pre.length : Int) = if t < 0 then some (-1) else laws_szLineS.l0 j (pre ++ y :: tl) t (wrap64 ((pre.length : Int) + 1)) := by
      rw [laws_szLineS.l0]
      refine yes (by rw [List.length_append, List.length_cons]; omega) ?_
      refine yes (by omega) ?_
      rw [rdm]
      exact bnd ht rfl
    rw [st]
    by_cases c : t < 0
    · exact ⟨-1, yes c rfl, .inl (by omega)⟩
    · obtain ⟨c0, c1, cf⟩ := hc.resolve_left c
      obtain ⟨r, hr, hd⟩ := szL_l0 tl (pre ++ [y]) t j (fun z hz => hy z (List.mem_cons_of_mem _ hz)) (by omega) (by omega) (by rw [List.length_append]; simp; omega) (by omega)
      refine ⟨r, no c ?_, ?_⟩
      · rw [nxt pre y (by omega), snoc pre tl y]
        exact hr
      · rcases hd with hd | ⟨d0, d1, df⟩
        · exact .inl hd
        · refine .inr ⟨d0, by omega, fun z hz => ?_⟩
          rcases List.mem_cons.1 hz with rfl | hz
          · exact cf
          · exact df z hz
structure SmallB (l : List S186) (ids : List ByteArray) : Prop where
  h0 : l.length ≤ 1048576
  h1 : ids.length ≤ 1048576
  h2 : ∀ y ∈ l, Fit y.f0.f0 y.f0.f1
  h3 : ∀ y ∈ ids, y.size ≤ 1048576
theorem szBook {l : List S186} {ids : List ByteArray} (hl : l.length * 40 ≤ 140737488351232) (hm : ∀ y ∈ l, y.f0.f0.size ≤ 140737488351232 ∧ y.f0.f1.size ≤ 140737488351232) (hi : ids.length * 16 ≤ 140737488351232) (hn : ∀ y ∈ ids, y.size ≤ 140737488351232) {k : Nat} (hk : 2000000 ≤ k) :
    ∃ t, laws_szBook.f k l ids 1048576 = some t ∧ (t < 0 ∨ (0 ≤ t ∧ t ≤ 1048576 ∧ SmallB l ids)) := by
  have e1 : wrap64 (1048576 - (l.length : Int)) = 1048576 - (l.length : Int) := wid (by omega) (by omega)
  have fl : ∃ t, laws_szLineS.f k l 1048576 = some t ∧ (t < 0 ∨ (0 ≤ t ∧ t ≤ 1048576 ∧ l.length ≤ 1048576 ∧ ∀ y ∈ l, Fit y.f0.f0 y.f0.f1)) := by
    unfold laws_szLineS.f
    rw [e1]
    by_cases c : (1048576 : Int) - (l.length : Int) < 0
    · exact ⟨-1, yes c rfl, .inl (by omega)⟩
    · obtain ⟨t, ht, hc⟩ := szL_l0 l [] (1048576 - (l.length : Int)) k hm (by omega) (by omega) (by simp; omega) (by omega)
      exact ⟨t, no c ht, hc.imp id fun ⟨a, b, d⟩ => ⟨a, by omega, by omega, d⟩⟩
  obtain ⟨t, ht, hc⟩ := fl
  unfold laws_szBook.f
  by_cases c : t < 0
  · exact ⟨-1, bnd ht (yes c rfl), .inl (by omega)⟩
  obtain ⟨c0, c1, c2, c3⟩ := hc.resolve_left c
  have e2 : wrap64 (t - (ids.length : Int)) = t - (ids.length : Int) := wid (by omega) (by omega)
  have fs : ∃ r, laws_szStringS.f k ids t = some r ∧ (r < 0 ∨ (0 ≤ r ∧ r ≤ t ∧ ids.length ≤ 1048576 ∧ ∀ y ∈ ids, y.size ≤ 1048576)) := by
    unfold laws_szStringS.f
    rw [e2]
    by_cases d : t - (ids.length : Int) < 0
    · exact ⟨-1, yes d rfl, .inl (by omega)⟩
    · obtain ⟨r, hr, hd⟩ := szS_l0 ids [] (t - (ids.length : Int)) k hn (by omega) (by omega) (by simp; omega) (by omega)
      refine ⟨r, no d hr, hd.imp id fun ⟨a, b⟩ => ⟨a, by omega, by omega, fun y hy => ?_⟩⟩
      have := tot_mem hy
      omega
  obtain ⟨r, hr, hd⟩ := fs
  by_cases d : r < 0
  · exact ⟨-1, bnd ht (no c (bnd hr (yes d rfl))), .inl (by omega)⟩
  · obtain ⟨d0, d1, d2, d3⟩ := hd.resolve_left d
    exact ⟨r, bnd ht (no c (bnd hr (no d rfl))), .inr ⟨d0, by omega, c2, d2, c3, d3⟩⟩
def cv (y : S186) : S48 := ⟨⟨y.f0.f0, y.f0.f1⟩, y.f1⟩
theorem toL_l0 : ∀ (tl pre : List S186) (zs : List S48) (k : Nat), zs.length = tl.length → pre.length + tl.length ≤ 1048576 → tl.length + 1 ≤ k →
    laws_toLineS.l0 k (pre ++ tl) (pre.map cv ++ zs) (pre.length : Int) = some (pre.map cv ++ tl.map cv)
  | [], pre, zs, k, hz, hl, hk => by
    obtain ⟨j, rfl⟩ : ∃ j, k = j + 1 := ⟨k - 1, by simp at hk; omega⟩
    obtain rfl : zs = [] := List.eq_nil_of_length_eq_zero hz
    rw [laws_toLineS.l0]
    exact no (by simp) rfl
  | y :: tl, pre, z :: zs, k, hz, hl, hk => by
    rw [List.length_cons] at hl hk
    obtain ⟨j, rfl⟩ : ∃ j, k = j + 1 := ⟨k - 1, by omega⟩
    have ih := toL_l0 tl (pre ++ [y]) zs j (by simpa using hz) (by rw [List.length_append]; simp; omega) (by omega)
    rw [laws_toLineS.l0]
    refine yes (by rw [List.length_append, List.length_cons]; omega) ?_
    refine yes (by omega) ?_
    rw [rdm]
    refine bnd (a := (y.f0.f0, y.f0.f1, y.f1)) rfl ?_
    refine yes (by rw [List.length_append, List.length_map, List.length_cons]; omega) ?_
    have e : (pre.map cv ++ z :: zs).set ((pre.length : Int) : Int).toNat (cv y) = pre.map cv ++ cv y :: zs := by
      have := set_at (pre.map cv) zs z (cv y)
      rwa [List.length_map] at this
    show laws_toLineS.l0 j (pre ++ y :: tl) ((pre.map cv ++ z :: zs).set ((pre.length : Int) : Int).toNat (cv y)) _ = _
    rw [e, nxt pre y (by omega), snoc pre tl y, snoc (pre.map cv) zs (cv y)]
    simp only [List.map_append, List.map_cons, List.map_nil] at ih ⊢
    rw [ih]
    simp
theorem toL {l : List S186} (hl : l.length ≤ 1048576) {k : Nat} (hk : 2000000 ≤ k) : laws_toLineS.f k l = some (l.map cv) := by
  unfold laws_toLineS.f
  refine yes (by omega) ?_
  refine yes (by rw [Int.toNat_natCast]; omega) ?_
  have h := toL_l0 l [] (List.replicate l.length z48) k (by rw [List.length_replicate]) (by simp; omega) (by omega)
  rw [Int.toNat_natCast]
  exact h
theorem toBook {l : List S186} {ids : List ByteArray} (h : SmallB l ids) {k : Nat} (hk : 2000000 ≤ k) : laws_toBook.f k l ids = some (l.map cv, ids) := by
  unfold laws_toBook.f
  exact bnd (toL h.h0 hk) (bnd (toS h.h1 hk) rfl)
theorem eqL_l0 : ∀ (tl pre : List S48) (k : Nat), pre.length + tl.length ≤ 2000000 → tl.length + 1 ≤ k →
    laws_eqLineS.l0 k (pre ++ tl) (pre ++ tl) (pre.length : Int) = some true
  | [], pre, k, hl, hk => by
    obtain ⟨j, rfl⟩ : ∃ j, k = j + 1 := ⟨k - 1, by simp at hk; omega⟩
    rw [laws_eqLineS.l0]
    exact no (by simp) rfl
  | y :: tl, pre, k, hl, hk => by
    rw [List.length_cons] at hl hk
    obtain ⟨j, rfl⟩ : ∃ j, k = j + 1 := ⟨k - 1, by omega⟩
    have ih := eqL_l0 tl (pre ++ [y]) j (by rw [List.length_append]; simp; omega) (by omega)
    rw [laws_eqLineS.l0]
    refine yes (by rw [List.length_append, List.length_cons]; omega) ?_
    refine yes (by omega) ?_
    refine yes (by rw [List.length_append, List.length_cons]; omega) ?_
    rw [rdl]
    refine bnd (a := true) ?_ ?_
    · unfold laws_eqLine.f laws_eqSpot.f
      rw [if_pos rfl, if_pos rfl]
      exact bnd (a := true) rfl (yes rfl (yes rfl rfl))
    refine yes rfl ?_
    rw [nxt pre y (by omega), snoc pre tl y]
    exact ih
theorem eqBook {l : List S48} {ids : List ByteArray} (hl : l.length ≤ 1048577) (hi : ids.length ≤ 1048577) {k : Nat} (hk : 2000000 ≤ k) : laws_eqBook.f k l ids l ids = some true := by
  unfold laws_eqBook.f
  refine bnd (a := true) ?_ (yes rfl (bnd (a := true) ?_ (yes rfl rfl)))
  · unfold laws_eqLineS.f
    exact yes rfl (eqL_l0 l [] k (by simp; omega) (by omega))
  · unfold laws_eqStringS.f
    exact yes rfl (eqS_l0 ids [] k (by simp; omega) (by omega))
theorem eqOut {l : List S48} {ids : List ByteArray} {p c : Int} (hl : l.length ≤ 1048577) (hi : ids.length ≤ 1048577) {k : Nat} (hk : 2000000 ≤ k) : laws_eqBookOut.f k l ids p c l ids p c = some true := by
  unfold laws_eqBookOut.f
  exact bnd (eqBook hl hi hk) (yes rfl (yes rfl (yes rfl rfl)))
noncomputable def marksL (c : Int) : List S48 → List S48
  | [] => []
  | _ :: tl => ⟨⟨mt c, mt (c + 1)⟩, c + 2⟩ :: marksL (c + 3) tl
theorem marksL_length : ∀ (l : List S48) (c : Int), (marksL c l).length = l.length
  | [], c => rfl
  | _ :: tl, c => by rw [marksL, List.length_cons, List.length_cons, marksL_length tl]
theorem markL_l0 : ∀ (tl pre : List S48) (c : Int) (k : Nat), 0 ≤ c → c + 3 * tl.length ≤ 50000000 → pre.length + tl.length ≤ 2000000 → tl.length + 101 ≤ k →
    laws_markLineS.l0 k (pre ++ tl) c (pre.length : Int) = some (c + 3 * (tl.length : Int), pre ++ marksL c tl)
  | [], pre, c, k, c0, c1, hl, hk => by
    obtain ⟨j, rfl⟩ : ∃ j, k = j + 1 := ⟨k - 1, by simp at hk; omega⟩
    rw [laws_markLineS.l0]
    refine no (by simp) ?_
    simp [marksL]
  | y :: tl, pre, c, k, c0, c1, hl, hk => by
    rw [List.length_cons] at c1 hl hk
    obtain ⟨j, rfl⟩ : ∃ j, k = j + 1 := ⟨k - 1, by omega⟩
    have ih := markL_l0 tl (pre ++ [⟨⟨mt c, mt (c + 1)⟩, c + 2⟩]) (c + 3) j (by omega) (by omega) (by rw [List.length_append]; simp; omega) (by omega)
    rw [laws_markLineS.l0]
    refine yes (by rw [List.length_append, List.length_cons]; omega) ?_
    refine bnd (mt_spec (x := c) c0 (by omega) (j := j) (by omega)) ?_
    refine yes (by omega) ?_
    rw [Option.bind_some, rdl, set_at, wid (x := c + 1) (by omega) (by omega)]
    refine bnd (mt_spec (x := c + 1) (by omega) (by omega) (j := j) (by omega)) ?_
    rw [Option.bind_some, rdl, set_at, rdl, set_at, wid (x := c + 1 + 1) (by omega) (by omega), wid (x := c + 1 + 1 + 1) (by omega) (by omega), show c + 1 + 1 = c + 2 by omega, show c + 2 + 1 = c + 3 by omega, nxt pre (⟨⟨mt c, mt (c + 1)⟩, c + 2⟩ : S48) (by omega), snoc pre tl _, ih, marksL, List.length_cons, List.append_assoc]
    congr 2
    omega
theorem heldL_l0 : ∀ (tl pre : List S48) (c : Int) (k : Nat), 0 ≤ c → c + 3 * tl.length ≤ 50000000 → pre.length + tl.length ≤ 2000000 → tl.length + 101 ≤ k →
    laws_heldLineS.l0 k (pre ++ marksL c tl) c (pre.length : Int) = some (c + 3 * (tl.length : Int))
  | [], pre, c, k, c0, c1, hl, hk => by
    obtain ⟨j, rfl⟩ : ∃ j, k = j + 1 := ⟨k - 1, by simp at hk; omega⟩
    rw [laws_heldLineS.l0]
    refine no (by simp [marksL]) ?_
    simp
  | y :: tl, pre, c, k, c0, c1, hl, hk => by
    rw [List.length_cons] at c1 hl hk
    obtain ⟨j, rfl⟩ : ∃ j, k = j + 1 := ⟨k - 1, by omega⟩
    have ih := heldL_l0 tl (pre ++ [⟨⟨mt c, mt (c + 1)⟩, c + 2⟩]) (c + 3) j (by omega) (by omega) (by rw [List.length_append]; simp; omega) (by omega)
    rw [marksL, laws_heldLineS.l0]
    refine yes (by rw [List.length_append, List.length_cons]; omega) ?_
    refine yes (by omega) ?_
    refine bnd (mt_spec (x := c) c0 (by omega) (j := j) (by omega)) ?_
    rw [rdl]
    refine yes rfl ?_
    rw [wid (x := c + 1) (by omega) (by omega)]
    refine bnd (mt_spec (x := c + 1) (by omega) (by omega) (j := j) (by omega)) ?_
    refine yes rfl ?_
    rw [wid (x := c + 1 + 1) (by omega) (by omega), wid (x := c + 1 + 1 + 1) (by omega) (by omega), show c + 1 + 1 = c + 2 by omega, show c + 2 + 1 = c + 3 by omega]
    refine yes rfl ?_
    rw [nxt pre (⟨⟨mt c, mt (c + 1)⟩, c + 2⟩ : S48) (by omega), snoc pre _ _, ih, List.length_cons]
    congr 1
    omega
theorem markBook {l : List S48} {ids : List ByteArray} (hl : l.length ≤ 1048577) (hi : ids.length ≤ 1048577) {k : Nat} (hk : 2000000 ≤ k) :
    laws_markBook.f k l ids 1 = some (1 + 3 * (l.length : Int) + (ids.length : Int), marksL 1 l, marks (1 + 3 * (l.length : Int)) ids) := by
  unfold laws_markBook.f
  refine bnd (a := (1 + 3 * (l.length : Int), marksL 1 l)) ?_ (bnd (a := (1 + 3 * (l.length : Int) + (ids.length : Int), marks (1 + 3 * (l.length : Int)) ids)) ?_ rfl)
  · unfold laws_markLineS.f
    exact markL_l0 l [] 1 k (by omega) (by omega) (by simp; omega) (by omega)
  · unfold laws_markStringS.f
    exact mark_l0 ids [] _ k (by omega) (by omega) (by simp; omega) (by omega)
theorem heldBook {l : List S48} {ids : List ByteArray} (hl : l.length ≤ 1048577) (hi : ids.length ≤ 1048577) {k : Nat} (hk : 2000000 ≤ k) :
    laws_heldBook.f k (marksL 1 l) (marks (1 + 3 * (l.length : Int)) ids) 1 = some (1 + 3 * (l.length : Int) + (ids.length : Int)) := by
  unfold laws_heldBook.f
  refine bnd (a := 1 + 3 * (l.length : Int)) ?_ (no (by omega) (bnd (a := 1 + 3 * (l.length : Int) + (ids.length : Int)) ?_ (no (by omega) rfl)))
  · unfold laws_heldLineS.f
    exact heldL_l0 l [] 1 k (by omega) (by omega) (by simp; omega) (by omega)
  · unfold laws_heldStringS.f
    exact held_l0 ids [] _ k (by omega) (by omega) (by simp; omega) (by omega)
end Go.Proofs.YtidlcolgiololaaDoor.BkLoops
namespace Go.Proofs.YtidlcolgiololaaDoor.Bk
open Go Go.RowKit
set_option linter.unusedVariables false
set_option linter.unusedSimpArgs false

abbrev lt (x y : List UInt8) : Bool := Op.bytesLess x y
theorem lt_irrefl : ∀ x : List UInt8, lt x x = false
  | [] => rfl
  | a :: x => by
    have h2 : ¬ a < a := fun q => by have := UInt8.lt_iff_toNat_lt.1 q; omega
    have ih := lt_irrefl x
    simp only [lt, Op.bytesLess] at ih ⊢
    simp [h2, ih]
theorem lt_cons {a b : UInt8} {x y : List UInt8} : lt (a :: x) (b :: y) = true ↔ a.toNat < b.toNat ∨ (a = b ∧ lt x y = true) := by
  simp only [lt, Op.bytesLess, Bool.or_eq_true, Bool.and_eq_true, decide_eq_true_eq, beq_iff_eq, UInt8.lt_iff_toNat_lt]
theorem lt_trans : ∀ {x y z : List UInt8}, lt x y = true → lt y z = true → lt x z = true
  | [], [], _, h, _ => by cases h
  | _ :: _, [], _, h, _ => by cases h
  | _, _ :: _, [], _, h => by cases h
  | [], _ :: _, _ :: _, _, _ => rfl
  | a :: x, b :: y, c :: z, h, h' => by
    rw [lt_cons] at h h' ⊢
    rcases h with h | ⟨rfl, h⟩
    · rcases h' with h' | ⟨rfl, h'⟩
      · exact .inl (by omega)
      · exact .inl h
    · rcases h' with h' | ⟨rfl, h'⟩
      · exact .inl h'
      · exact .inr ⟨rfl, lt_trans h h'⟩
theorem lt_total : ∀ {x y : List UInt8}, lt x y = false → lt y x = false → x = y
  | [], [], _, _ => rfl
  | [], _ :: _, h, _ => by cases h
  | _ :: _, [], _, h => by cases h
  | a :: x, b :: y, h, h' => by
    have g : ¬ (a.toNat < b.toNat ∨ (a = b ∧ lt x y = true)) := fun q => by rw [← lt_cons] at q; rw [q] at h; cases h
    have g' : ¬ (b.toNat < a.toNat ∨ (b = a ∧ lt y x = true)) := fun q => by rw [← lt_cons] at q; rw [q] at h'; cases h'
    have e : a = b := UInt8.toNat_inj.1 (by omega)
    subst e
    rw [lt_total (x := x) (y := y) (by cases q : lt x y with | false => rfl | true => exact absurd (.inr ⟨rfl, q⟩) g) (by cases q : lt y x with | false => rfl | true => exact absurd (.inr ⟨rfl, q⟩) g')]
theorem lt_asymm {x y : List UInt8} (h : lt x y = true) : lt y x = false := by
  cases q : lt y x with
  | false => rfl
  | true =>
    have z := lt_trans h q
    rw [lt_irrefl] at z
    cases z
def sl (a b c d : List UInt8) : Bool := lt a c || (decide (a = c) && lt b d)
theorem sl_iff {a b c d : List UInt8} : sl a b c d = true ↔ lt a c = true ∨ (a = c ∧ lt b d = true) := by
  unfold sl
  simp only [Bool.or_eq_true, Bool.and_eq_true, decide_eq_true_eq]
theorem sl_trans {a b c d e f : List UInt8} (h : sl a b c d = true) (h' : sl c d e f = true) : sl a b e f = true := by
  rw [sl_iff] at h h' ⊢
  rcases h with h | ⟨rfl, h⟩
  · rcases h' with h' | ⟨rfl, h'⟩
    · exact .inl (lt_trans h h')
    · exact .inl h
  · rcases h' with h' | ⟨rfl, h'⟩
    · exact .inl h'
    · exact .inr ⟨rfl, lt_trans h h'⟩
theorem sl_irrefl (a b : List UInt8) : sl a b a b = false := by
  cases q : sl a b a b with
  | false => rfl
  | true =>
    rw [sl_iff, lt_irrefl, lt_irrefl] at q
    rcases q with q | ⟨_, q⟩ <;> cases q
def cp (x y : List UInt8) : Int := if lt x y = true then -1 else if lt y x = true then 1 else 0
def od (a b c d : List UInt8) : Int := if cp a c = 0 then cp b d else cp a c
theorem cp_neg {x y : List UInt8} : cp x y < 0 ↔ lt x y = true := by
  unfold cp
  split
  · exact ⟨fun _ => ‹_›, fun _ => by decide⟩
  · split
    · exact ⟨fun h => absurd h (by decide), fun h => absurd h ‹_›⟩
    · exact ⟨fun h => absurd h (by decide), fun h => absurd h ‹_›⟩
theorem cp_zero {x y : List UInt8} : cp x y = 0 ↔ x = y := by
  unfold cp
  constructor
  · intro h
    split at h
    · cases h
    · split at h
      · cases h
      · exact lt_total (by simpa using ‹¬ lt x y = true›) (by simpa using ‹¬ lt y x = true›)
  · rintro rfl
    rw [lt_irrefl]
    rfl
theorem od_neg {a b c d : List UInt8} : od a b c d < 0 ↔ sl a b c d = true := by
  rw [sl_iff]
  unfold od
  by_cases h : cp a c = 0
  · rw [if_pos h, cp_neg]
    have e := cp_zero.1 h
    subst e
    rw [lt_irrefl]
    exact ⟨fun q => .inr ⟨rfl, q⟩, fun q => q.elim (fun z => by cases z) (fun z => z.2)⟩
  · rw [if_neg h, cp_neg]
    exact ⟨.inl, fun q => q.elim id (fun z => absurd (cp_zero.2 z.1) h)⟩
theorem od_zero {a b c d : List UInt8} : od a b c d = 0 ↔ a = c ∧ b = d := by
  unfold od
  by_cases h : cp a c = 0
  · rw [if_pos h, cp_zero]
    exact ⟨fun q => ⟨cp_zero.1 h, q⟩, fun q => q.2⟩
  · rw [if_neg h]
    exact ⟨fun q => absurd q h, fun q => absurd (cp_zero.2 q.1) h⟩
end Go.Proofs.YtidlcolgiololaaDoor.Bk
namespace Go.Proofs.YtidlcolgiololaaDoor.NameSame
open Go.RowKit Go.Proofs.YtidlcolgiololaaDoor.S Go.Proofs.YtidlcolgiololaaDoorW.PrintWords Go.Proofs.YtidlcolgiololaaDoor.Cal Go.Proofs.YtidlcolgiololaaDoor.DiskBase
set_option linter.unusedVariables false
set_option linter.unusedSimpArgs false

def letters : List UInt8 := [97, 98, 99, 100, 101, 102, 103, 104, 105, 106, 107, 108, 109, 110, 111, 112, 113, 114, 115, 116, 117, 118, 119, 120, 121, 122]
def signs : List UInt8 := [97, 98, 99, 100, 101, 102, 103, 104, 105, 106, 107, 108, 109, 110, 111, 112, 113, 114, 115, 116, 117, 118, 119, 120, 121, 122, 48, 49, 50, 51, 52, 53, 54, 55, 56, 57, 95]
def ok1 (b : UInt8) : Bool := decide (97 ≤ b.toNat ∧ b.toNat ≤ 122)
def ok2 (b : UInt8) : Bool := decide ((97 ≤ b.toNat ∧ b.toNat ≤ 122) ∨ (48 ≤ b.toNat ∧ b.toNat ≤ 57) ∨ b.toNat = 95)
theorem ok12 {b : UInt8} (h : ok1 b = true) : ok2 b = true := by
  unfold ok1 at h
  unfold ok2
  rw [decide_eq_true_eq] at h ⊢
  exact Or.inl h
theorem all_bytes {p : UInt8 → Bool} (h : ∀ n : Nat, n < 256 → p (UInt8.ofNat n) = true) (b : UInt8) : p b = true := by
  have := h b.toNat b.toNat_lt
  rwa [UInt8.ofNat_toNat] at this
theorem letters_ok (b : UInt8) : letters.contains b = ok1 b := by
  have := all_bytes (p := fun b => letters.contains b == ok1 b) (by decide +kernel) b
  exact beq_iff_eq.1 this
theorem signs_ok (b : UInt8) : signs.contains b = ok2 b := by
  have := all_bytes (p := fun b => signs.contains b == ok2 b) (by decide +kernel) b
  exact beq_iff_eq.1 this
theorem dw_all {p : UInt8 → Bool} : ∀ l : List UInt8, (l.dropWhile p).all p = true → l.all p = true
  | [], _ => rfl
  | x :: r, h => by
    cases hx : p x with
    | false =>
      rw [List.dropWhile_cons_of_neg (by simp [hx])] at h
      exact h
    | true =>
      rw [List.dropWhile_cons_of_pos hx] at h
      rw [List.all_cons, hx, dw_all r h]
      rfl
theorem dw_nil {p : UInt8 → Bool} : ∀ l : List UInt8, l.all p = true → l.dropWhile p = []
  | [], _ => rfl
  | x :: r, h => by
    rw [List.all_cons, Bool.and_eq_true] at h
    rw [List.dropWhile_cons_of_pos h.1]
    exact dw_nil r h.2
theorem trim_nil (l cs : List UInt8) : Lib.trimS l cs = [] ↔ l.all (fun b => cs.contains b) = true := by
  unfold Lib.trimS Lib.trimLeftS Lib.trimRightS
  constructor
  · intro h
    have h1 := dw_all (p := fun b => cs.contains b) ((l.reverse.dropWhile (fun b => cs.contains b)).reverse) (by rw [h]; rfl)
    rw [List.all_reverse] at h1
    have h2 := dw_all _ h1
    rwa [List.all_reverse] at h2
  · intro h
    have h1 : l.reverse.all (fun b => cs.contains b) = true := by rw [List.all_reverse]; exact h
    rw [dw_nil _ h1]
    rfl
def nm : List UInt8 → Bool
  | [] => false
  | x :: r => decide (r.length ≤ 19) && (ok1 x && r.all ok2)
theorem nm_cons (x : UInt8) (r : List UInt8) : nm (x :: r) = (decide (r.length ≤ 19) && (ok1 x && r.all ok2)) := rfl
theorem size_data (s : ByteArray) : s.size = s.data.toList.length := by
  rw [Array.length_toList]
  rfl
theorem trim_val {s c : ByteArray} (h : s.size ≤ 1048576) (hc : c.size ≤ 100) (ha : (c.data.toList.all fun b => decide (b.toNat < 128)) = true) : strings_Trim.f s c = some ⟨(Lib.trimS s.data.toList c.data.toList).toArray⟩ := by
  unfold strings_Trim.f
  exact if_pos ⟨by omega, by omega, ha⟩
theorem impl_name {s : ByteArray} (h : s.size ≤ 1048576) : impl_NameRight.f s = some (nm s.data.toList) := by
  unfold impl_NameRight.f
  have hz := size_data s
  cases hl : s.data.toList with
  | nil =>
    rw [hl] at hz
    have hz' : s.size = 0 := hz
    refine yes (by omega) ?_
    refine bnd (a := false) ?_ rfl
    unfold impl_isWord.f
    exact yes (by rw [toList_data, hl]) rfl
  | cons x r =>
    rw [hl] at hz
    have hz' : s.size = r.length + 1 := hz
    by_cases c : r.length ≤ 19
    case neg =>
      refine no (by omega) ?_
      rw [nm_cons]
      rw [decide_eq_false c]
      rfl
    refine yes (by omega) ?_
    refine bnd (a := nm (x :: r)) ?_ rfl
    unfold impl_isWord.f
    refine no (by rw [toList_data, hl]; exact List.cons_ne_nil _ _) ?_
    refine yes (by omega) ?_
    refine yes (by omega) ?_
    have e1 : (s.extract 0 1).data.toList = [x] := by
      simp only [ByteArray.data_extract, Array.toList_extract, List.extract_eq_take_drop, hl]
      rfl
    have t1 := trim_val (s := s.extract 0 1) (c := ⟨#[97, 98, 99, 100, 101, 102, 103, 104, 105, 106, 107, 108, 109, 110, 111, 112, 113, 114, 115, 116, 117, 118, 119, 120, 121, 122]⟩) (by rw [size_data, e1]; simp) (by decide) (by decide)
    refine bnd t1 ?_
    rw [e1]
    have g1 := trim_nil [x] letters
    have e2 : [x].all (fun b => letters.contains b) = ok1 x := by rw [List.all_cons, letters_ok]; simp
    rw [e2] at g1
    have t2 := trim_val (s := s) (c := ⟨#[97, 98, 99, 100, 101, 102, 103, 104, 105, 106, 107, 108, 109, 110, 111, 112, 113, 114, 115, 116, 117, 118, 119, 120, 121, 122, 48, 49, 50, 51, 52, 53, 54, 55, 56, 57, 95]⟩) h (by decide) (by decide)
    have g2 := trim_nil (x :: r) signs
    have e3 : (x :: r).all (fun b => signs.contains b) = (x :: r).all ok2 := by congr 1; funext b; exact signs_ok b
    rw [e3] at g2
    by_cases o : ok1 x = true
    · refine yes (by rw [toList_data]; exact g1.2 o) ?_
      refine bnd t2 ?_
      rw [hl, toList_data]
      show some (Lib.trimS (x :: r) signs == []) = some (nm (x :: r))
      have v : nm (x :: r) = r.all ok2 := by
        rw [nm_cons]
        rw [decide_eq_true c, o]
        rfl
      rw [v]
      rw [List.all_cons, ok12 o, Bool.true_and] at g2
      cases w : r.all ok2 with
      | true => rw [beq_iff_eq.2 (g2.2 w)]
      | false =>
        have : ¬ Lib.trimS (x :: r) signs = [] := fun z => by rw [g2.1 z] at w; cases w
        rw [beq_eq_false_iff_ne.2 this]
    · refine no (by rw [toList_data]; exact fun z => o (g1.1 z)) ?_
      rw [nm_cons]
      have o' : ok1 x = false := by simpa using o
      rw [o', Bool.false_and, Bool.and_false]
theorem bt_pre {s : ByteArray} {pre r : List UInt8} {x : UInt8} (h : s.data.toList = pre ++ x :: r) : bt s (pre.length : Int) = (x.toNat : Int) := by
  unfold bt
  have hz := size_data s
  rw [h, List.length_append, List.length_cons] at hz
  rw [Int.toNat_natCast, dif_pos (by omega)]
  have e : s[pre.length]'(by omega) = x := by
    have : s[pre.length]'(by omega) = s.data.toList[pre.length]'(by rw [h]; simp) := rfl
    rw [this]
    simp [h]
  rw [e]
theorem j2_step {s : ByteArray} {k : Nat} {i : Int} (b : Bool) : spec_NameRight.j2 (k + 1) s i b = if b = true then some false else spec_NameRight.l0 k s (wrap64 (i + 1)) := by
  rw [spec_NameRight.j2]
theorem l0_at {s : ByteArray} {pre r : List UInt8} {x : UInt8} (h : s.data.toList = pre ++ x :: r) (hs : s.size ≤ 100) (k : Nat) : spec_NameRight.l0 (k + 2) s (pre.length : Int) = if (if pre = [] then ok1 x else ok2 x) = true then spec_NameRight.l0 k s ((pre ++ [x]).length : Int) else some false := by
  have hz := size_data s
  rw [h, List.length_append, List.length_cons] at hz
  have hw := nxt pre x (by omega)
  rw [spec_NameRight.l0, bt_pre h]
  refine yes (by omega) ?_
  refine yes (by omega) ?_
  simp only [j2_step, hw]
  unfold ok1 ok2
  rcases pre with _ | ⟨p, q⟩
  · simp only [List.length_nil]
    by_cases c1 : 97 ≤ x.toNat
    · by_cases c2 : x.toNat ≤ 122
      · rw [if_pos (by omega), if_pos (by omega)]
        simp [c1, c2]
      · rw [if_pos (by omega), if_neg (by omega)]
        simp [c1, c2]
    · rw [if_neg (by omega)]
      simp [c1]
  · have n0 : ¬ (((p :: q).length : Nat) : Int) = 0 := by simp; omega
    by_cases c1 : 97 ≤ x.toNat
    · by_cases c2 : x.toNat ≤ 122
      · rw [if_pos (by omega), if_pos (by omega)]
        simp [c1, c2]
      · rw [if_pos (by omega), if_neg (by omega), if_neg n0, if_pos (by omega), if_neg (by omega)]
        have a3 : ((x.toNat : Int) != 95) = true := by rw [bne_iff_ne]; omega
        have a4 : ¬ x.toNat ≤ 57 := by omega
        have a5 : ¬ x.toNat = 95 := by omega
        simp [c1, c2, a3, a4, a5]
    · rw [if_neg (by omega), if_neg n0]
      by_cases c3 : 48 ≤ x.toNat
      · by_cases c4 : x.toNat ≤ 57
        · rw [if_pos (by omega), if_pos (by omega)]
          simp [c3, c4]
        · rw [if_pos (by omega), if_neg (by omega)]
          by_cases c5 : x.toNat = 95
          · have a3 : ((x.toNat : Int) != 95) = false := by rw [bne_eq_false_iff_eq]; omega
            simp [c5, a3]
          · have a3 : ((x.toNat : Int) != 95) = true := by rw [bne_iff_ne]; omega
            simp [c1, c4, c5, a3]
      · rw [if_neg (by omega)]
        have c5 : ¬ x.toNat = 95 := by omega
        have a3 : ((x.toNat : Int) != 95) = true := by rw [bne_iff_ne]; omega
        simp [c1, c3, c5, a3]
theorem l0_rest {s : ByteArray} (hs : s.size ≤ 100) : ∀ (r pre : List UInt8), pre ≠ [] → s.data.toList = pre ++ r → ∀ k, 2 * r.length + 1 ≤ k → spec_NameRight.l0 k s (pre.length : Int) = some (r.all ok2) := by
  intro r
  induction r with
  | nil =>
    intro pre hp h k hk
    obtain ⟨j, rfl⟩ : ∃ j, k = j + 1 := ⟨k - 1, by omega⟩
    have hz := size_data s
    rw [h, List.append_nil] at hz
    rw [spec_NameRight.l0]
    exact no (by omega) rfl
  | cons x r ih =>
    intro pre hp h k hk
    rw [List.length_cons] at hk
    obtain ⟨j, rfl⟩ : ∃ j, k = j + 2 := ⟨k - 2, by omega⟩
    rw [l0_at h hs, if_neg hp, List.all_cons]
    cases o : ok2 x with
    | false => rfl
    | true =>
      rw [if_pos rfl, Bool.true_and]
      exact ih (pre ++ [x]) (by simp) (by rw [h, ← snoc]) j (by omega)
theorem spec_name {s : ByteArray} (h : s.size ≤ 1048576) {k : Nat} (hk : 100 ≤ k) : spec_NameRight.f k s = some (nm s.data.toList) := by
  obtain ⟨j, rfl⟩ : ∃ j, k = j + 1 := ⟨k - 1, by omega⟩
  unfold spec_NameRight.f
  have hz := size_data s
  cases hl : s.data.toList with
  | nil =>
    rw [hl] at hz
    have hz' : s.size = 0 := hz
    refine yes (by omega) ?_
    rw [spec_NameRight.j0]
    rfl
  | cons x r =>
    rw [hl] at hz
    have hz' : s.size = r.length + 1 := hz
    refine no (by omega) ?_
    rw [spec_NameRight.j0]
    by_cases c : r.length ≤ 19
    case neg =>
      refine yes (decide_eq_true (by omega)) ?_
      rw [nm_cons]
      rw [decide_eq_false c]
      rfl
    refine no (by rw [decide_eq_true_eq]; omega) ?_
    obtain ⟨i, rfl⟩ : ∃ i, j = i + 2 := ⟨j - 2, by omega⟩
    have e := l0_at (s := s) (pre := []) (r := r) (x := x) hl (by omega) i
    have e' : spec_NameRight.l0 (i + 2) s 0 = if (if ([] : List UInt8) = [] then ok1 x else ok2 x) = true then spec_NameRight.l0 i s ((([] : List UInt8) ++ [x]).length : Int) else some false := e
    rw [e', if_pos rfl]
    rw [nm_cons]
    rw [decide_eq_true c, Bool.true_and]
    cases o : ok1 x with
    | false => rfl
    | true =>
      rw [if_pos rfl, Bool.true_and]
      exact l0_rest (by omega) r ([] ++ [x]) (by simp) (by rw [hl]; rfl) i (by omega)
end Go.Proofs.YtidlcolgiololaaDoor.NameSame
namespace Go.Proofs.YtidlcolgiololaaDoor.BkRight
open Go.RowKit Go.Proofs.YtidlcolgiololaaDoor.S Go.Proofs.YtidlcolgiololaaDoorW.PrintWords Go.Proofs.YtidlcolgiololaaDoor.Cal Go.Proofs.YtidlcolgiololaaDoor.Bk Go.Proofs.YtidlcolgiololaaDoor.BkLoops Go.Proofs.YtidlcolgiololaaDoor.NameSame
set_option linter.unusedVariables false
set_option linter.unusedSimpArgs false

open Classical in
noncomputable def allB (n : Nat) (e : Nat → Bool) : Bool := decide (∀ j, j < n → e j = true)
theorem allB_iff {n : Nat} {e : Nat → Bool} : allB n e = true ↔ ∀ j, j < n → e j = true := by unfold allB; exact decide_eq_true_iff
theorem nx (i : Nat) (h : i ≤ 100000000) : wrap64 ((i : Int) + 1) = ((i + 1 : Nat) : Int) := by
  rw [wid (by omega) (by omega)]
  omega
open Classical in
theorem all_from (L : Nat → Int → Option Bool) (s n K : Nat) (e : Nat → Bool) (r : Bool) (hn : n ≤ 10000000) (hs : ∀ k i, i < n → K ≤ k → L (k + s) (i : Int) = if e i = true then L k ((i + 1 : Nat) : Int) else some false)
    (he : ∀ k, K ≤ k → L (k + s) (n : Int) = some r) : ∀ d i k, i + d = n → K + s * (d + 1) ≤ k → L k (i : Int) = some (decide (∀ j, i ≤ j → j < n → e j = true) && r) := by
  intro d
  induction d with
  | zero =>
    intro i k hi hk
    obtain ⟨k, rfl⟩ : ∃ q, k = q + s := ⟨k - s, by omega⟩
    have e0 : i = n := by omega
    subst e0
    rw [he k (by omega), show decide (∀ j, i ≤ j → j < i → e j = true) = true from decide_eq_true (fun j h1 h2 => by omega), Bool.true_and]
  | succ d ih =>
    intro i k hi hk
    have hk' : K + (s * (d + 1) + s) ≤ k := by rw [Nat.mul_succ] at hk; exact hk
    obtain ⟨k, rfl⟩ : ∃ q, k = q + s := ⟨k - s, by omega⟩
    rw [hs k i (by omega) (by omega)]
    by_cases c : e i = true
    · rw [if_pos c, ih (i + 1) k (by omega) (by omega)]
      congr 2
      refine decide_eq_decide.2 ⟨fun h j h1 h2 => ?_, fun h j h1 h2 => h j (by omega) h2⟩
      by_cases q : j = i
      · rw [q]; exact c
      · exact h j (by omega) h2
    · rw [if_neg c, show decide (∀ j, i ≤ j → j < n → e j = true) = false from decide_eq_false (fun h => c (h i (Nat.le_refl _) (by omega))), Bool.false_and]
theorem all_loop {L : Nat → Int → Option Bool} {s n K : Nat} {e : Nat → Bool} {r : Bool} (hn : n ≤ 10000000) (hs : ∀ k i, i < n → K ≤ k → L (k + s) (i : Int) = if e i = true then L k ((i + 1 : Nat) : Int) else some false)
    (he : ∀ k, K ≤ k → L (k + s) (n : Int) = some r) {k : Nat} (hk : K + s * (n + 1) ≤ k) : L k 0 = some (allB n e && r) := by
  have h := all_from L s n K e r hn hs he n 0 k (by omega) hk
  rw [show ((0 : Nat) : Int) = 0 from rfl] at h
  rw [h]
  congr 2
  unfold allB
  exact decide_eq_decide.2 ⟨fun h j h2 => h j (Nat.zero_le _) h2, fun h j _ h2 => h j h2⟩
def nb (s : ByteArray) : Bool := nm s.data.toList
theorem spec_names {a b : ByteArray} (h : Fit a b) {k : Nat} (hk : 100 ≤ k) : spec_l05Names.f k a b = some (nb a && nb b) := by
  unfold spec_l05Names.f
  refine bnd (spec_name h.1 hk) ?_
  by_cases c : nb a = true
  · refine yes c (bnd (spec_name h.2 hk) ?_)
    rw [c, Bool.true_and]
    rfl
  · rw [show nb a = false by simpa using c, Bool.false_and]
    exact no (by simpa [nb] using c) rfl
theorem impl_names {a b : ByteArray} (h : Fit a b) : impl_Spot_isRight.f a b = some (nb a && nb b) := by
  unfold impl_Spot_isRight.f
  refine bnd (impl_name h.1) ?_
  by_cases c : nb a = true
  · refine yes c (bnd (impl_name h.2) ?_)
    rw [c, Bool.true_and]
    rfl
  · rw [show nb a = false by simpa using c, Bool.false_and]
    exact no (by simpa [nb] using c) rfl
def mon (x : Int) : Bool := decide (-1000000000000 ≤ x ∧ x ≤ 1000000000000)
theorem spec_mon (x : Int) : spec_MoneyRight.f x = some (mon x) := by
  unfold spec_MoneyRight.f mon
  by_cases c : x ≥ -1000000000000
  · rw [if_pos c]
    congr 1
    exact decide_eq_decide.2 ⟨fun h => ⟨c, h⟩, fun h => h.2⟩
  · rw [if_neg c, decide_eq_false (by omega)]
theorem impl_mon (x : Int) : impl_MoneyRight.f x = some (mon x) := by
  unfold impl_MoneyRight.f impl_in.f mon
  by_cases c : -1000000000000 ≤ x
  · rw [if_pos c]
    refine bnd rfl ?_
    congr 1
    exact decide_eq_decide.2 ⟨fun h => ⟨c, h⟩, fun h => h.2⟩
  · rw [if_neg c, decide_eq_false (by omega)]
    rfl
def ss (a b c d : ByteArray) : Bool := sl a.toList b.toList c.toList d.toList
def so (a b c d : ByteArray) : Int := od a.toList b.toList c.toList d.toList
theorem spec_less (a b c d : ByteArray) : spec_l05Less.f a b c d = some (ss a b c d) := by
  unfold spec_l05Less.f ss sl lt
  by_cases h : Op.bytesLess a.toList c.toList = true
  · rw [if_pos h, h]
    rfl
  · rw [if_neg h, show Op.bytesLess a.toList c.toList = false by simpa using h, Bool.false_or]
    by_cases e : a.toList = c.toList
    · rw [if_pos e, decide_eq_true e, Bool.true_and]
    · rw [if_neg e, decide_eq_false e, Bool.false_and]
theorem impl_cmp (a b : ByteArray) : cmp_Compare_string.f a b = some (cp a.toList b.toList) := by
  unfold cmp_Compare_string.f cmp_isNaN_string.f cp lt
  refine bnd rfl (bnd rfl ?_)
  refine no (by simp) (no (by simp) ?_)
  split
  · rfl
  · split <;> rfl
theorem impl_or (x y : Int) {k : Nat} (hk : 5 ≤ k) : cmp_Or_int.f k [x, y] = some (if x = 0 then y else x) := by
  obtain ⟨k, rfl⟩ : ∃ j, k = j + 3 := ⟨k - 3, by omega⟩
  unfold cmp_Or_int.f
  simp only [cmp_Or_int.l0]
  refine yes (by simp) (yes (by simp) (yes (by simp) ?_))
  show (if x = 0 then _ else some x) = _
  by_cases c : x = 0
  · rw [if_pos c, if_pos c, wid (by omega) (by omega)]
    refine yes (by simp) (yes (by simp) (yes (by simp) ?_))
    show (if y = 0 then _ else some y) = _
    by_cases d : y = 0
    · rw [if_pos d, wid (by omega) (by omega), d]
      exact no (by simp) rfl
    · rw [if_neg d]
  · rw [if_neg c, if_neg c]
theorem impl_ord (a b c d : ByteArray) {k : Nat} (hk : 5 ≤ k) : impl_Spot_order.f k a b c d = some (so a b c d) := by
  unfold impl_Spot_order.f so od
  refine bnd (impl_cmp a c) (bnd (impl_cmp b d) (bnd (impl_or _ _ hk) ?_))
  rfl
def okI (l : List ByteArray) (j : Nat) : Bool := nb (rdOf ByteArray.empty l (j : Int)) && (decide (j = 0) || lt (rdOf ByteArray.empty l ((j : Int) - 1)).toList (rdOf ByteArray.empty l (j : Int)).toList)
theorem mem_rdo {l : List ByteArray} {i : Nat} (h : i < l.length) : rdOf ByteArray.empty l (i : Int) ∈ l := by
  unfold rdOf
  rw [Int.toNat_natCast, List.getD_eq_getElem?_getD, List.getElem?_eq_getElem h]
  exact List.getElem_mem h
theorem mem_rdl {l : List S48} {i : Nat} (h : i < l.length) : rd_T48 l (i : Int) ∈ l := by
  unfold rd_T48
  rw [Int.toNat_natCast, List.getD_eq_getElem?_getD, List.getElem?_eq_getElem h]
  exact List.getElem_mem h
theorem spec_ids {l : List ByteArray} (hl : l.length ≤ 1048576) (hn : ∀ y ∈ l, y.size ≤ 1048576) {k : Nat} (hk : 2100000 ≤ k) : spec_l05Ids.f k l = some (allB l.length (okI l)) := by
  have j1 : ∀ (k i : Nat) (b : Bool), i < l.length → spec_l05Ids.j1 (k + 1) l (i : Int) b = if b = true then some false else spec_l05Ids.l0 k l ((i + 1 : Nat) : Int) := by
    intro k i b hi
    simp only [spec_l05Ids.j1]
    rw [nx i (by omega)]
  have h := all_loop (L := fun k i => spec_l05Ids.l0 k l i) (s := 2) (n := l.length) (K := 100) (e := okI l) (r := true) (by omega) (fun k i hi hk => by
      show spec_l05Ids.l0 (k + 1 + 1) l (i : Int) = _
      rw [spec_l05Ids.l0]
      refine yes (by omega) (yes (by omega) ?_)
      refine bnd (spec_name (hn _ (mem_rdo hi)) (by omega)) ?_
      unfold okI
      by_cases c : nb (rdOf ByteArray.empty l (i : Int)) = true
      · rw [c, Bool.true_and]
        refine yes c ?_
        by_cases z : i = 0
        · subst z
          refine no (by decide) ?_
          rw [j1 k 0 false hi]
          rfl
        · refine yes (by omega) ?_
          rw [wid (x := (i : Int) - 1) (by omega) (by omega)]
          refine yes (by omega) (yes (by omega) ?_)
          rw [j1 k i _ hi, decide_eq_false z, Bool.false_or]
          unfold lt
          cases Op.bytesLess (rdOf ByteArray.empty l ((i : Int) - 1)).toList (rdOf ByteArray.empty l (i : Int)).toList <;> rfl
      · rw [show nb (rdOf ByteArray.empty l (i : Int)) = false by simpa using c, Bool.false_and]
        refine no (by simpa [nb] using c) ?_
        rw [j1 k i true hi]
        rfl) (fun k hk => by
      show spec_l05Ids.l0 (k + 1 + 1) l (l.length : Int) = _
      rw [spec_l05Ids.l0]
      exact no (by omega) rfl) (k := k) (by omega)
  unfold spec_l05Ids.f
  rw [Bool.and_true] at h
  exact h
def okL (l : List S48) (j : Nat) : Bool := (nb (rd_T48 l (j : Int)).f0.f0 && nb (rd_T48 l (j : Int)).f0.f1) && (mon (rd_T48 l (j : Int)).f1 && (decide (j = 0) || ss (rd_T48 l ((j : Int) - 1)).f0.f0 (rd_T48 l ((j : Int) - 1)).f0.f1 (rd_T48 l (j : Int)).f0.f0 (rd_T48 l (j : Int)).f0.f1))
def sumTo (l : List S48) : Nat → Int
  | 0 => 0
  | i + 1 => wrap64 (sumTo l i + (rd_T48 l (i : Int)).f1)
noncomputable def bR (l : List S48) (ids : List ByteArray) : Bool := decide (l.length ≤ 60) && (decide (ids.length ≤ 100) && (allB ids.length (okI ids) && (allB l.length (okL l) && decide (sumTo l l.length = 0))))
structure Sm (l : List S48) (ids : List ByteArray) : Prop where
  h0 : l.length ≤ 1048576
  h1 : ids.length ≤ 1048576
  h2 : ∀ y ∈ l, Fit y.f0.f0 y.f0.f1
  h3 : ∀ y ∈ ids, y.size ≤ 1048576
theorem spec_right {l : List S48} {ids : List ByteArray} (h : Sm l ids) {k : Nat} (hk : 5000000 ≤ k) : spec_BookRight.f k l ids = some (bR l ids) := by
  have j0 : ∀ b : Bool, spec_BookRight.j0 k b l ids = if b = true then some false else spec_BookRight.l0 (k - 1) 0 0 l ids := by
    intro b
    obtain ⟨k, rfl⟩ : ∃ j, k = j + 1 := ⟨k - 1, by omega⟩
    rfl
  unfold spec_BookRight.f bR
  by_cases c1 : (l.length : Int) > 60
  · rw [if_pos c1, j0, decide_eq_false (by omega : ¬ l.length ≤ 60), Bool.false_and]
    rfl
  rw [if_neg c1, decide_eq_true (by omega : l.length ≤ 60), Bool.true_and]
  by_cases c2 : (ids.length : Int) > 100
  · rw [if_pos c2, j0, decide_eq_false (by omega : ¬ ids.length ≤ 100), Bool.false_and]
    rfl
  rw [if_neg c2, decide_eq_true (by omega : ids.length ≤ 100), Bool.true_and]
  refine bnd (spec_ids h.h1 h.h3 (by omega)) ?_
  rw [j0]
  cases allB ids.length (okI ids) with
  | false => rfl
  | true =>
    rw [Bool.true_and]
    show spec_BookRight.l0 (k - 1) 0 0 l ids = _
    have j2 : ∀ (k i : Nat) (b : Bool), i < l.length → spec_BookRight.j2 (k + 1) (sumTo l i) (i : Int) b l ids (rd_T48 l (i : Int)).f0.f0 (rd_T48 l (i : Int)).f0.f1 (rd_T48 l (i : Int)).f1 = if b = true then some false else spec_BookRight.l0 k (sumTo l (i + 1)) ((i + 1 : Nat) : Int) l ids := by
      intro k i b hi
      simp only [spec_BookRight.j2]
      rw [nx i (by have := h.h0; omega)]
      rfl
    exact all_loop (L := fun k i => spec_BookRight.l0 k (sumTo l i.toNat) i l ids) (s := 2) (n := l.length) (K := 100) (e := okL l) (r := decide (sumTo l l.length = 0)) (by have := h.h0; omega) (fun k i hi hk => by
      show spec_BookRight.l0 (k + 1 + 1) (sumTo l (i : Int).toNat) (i : Int) l ids = _
      rw [Int.toNat_natCast, Int.toNat_natCast, spec_BookRight.l0]
      refine yes (by omega) (yes (by omega) ?_)
      refine bnd (spec_names (h.h2 _ (mem_rdl hi)) (by omega)) ?_
      unfold okL
      by_cases c : (nb (rd_T48 l (i : Int)).f0.f0 && nb (rd_T48 l (i : Int)).f0.f1) = true
      · rw [c, Bool.true_and]
        refine yes rfl (bnd (spec_mon _) ?_)
        by_cases m : mon (rd_T48 l (i : Int)).f1 = true
        · rw [m, Bool.true_and]
          refine yes rfl ?_
          by_cases z : i = 0
          · subst z
            refine no (by decide) ?_
            rw [j2 k 0 false hi]
            rfl
          · refine yes (by omega) ?_
            rw [wid (x := (i : Int) - 1) (by have := h.h0; omega) (by have := h.h0; omega)]
            refine yes (by omega) (yes (by omega) (bnd (spec_less _ _ _ _) ?_))
            rw [j2 k i _ hi, decide_eq_false z, Bool.false_or]
            cases ss (rd_T48 l ((i : Int) - 1)).f0.f0 (rd_T48 l ((i : Int) - 1)).f0.f1 (rd_T48 l (i : Int)).f0.f0 (rd_T48 l (i : Int)).f0.f1 <;> rfl
        · rw [show mon (rd_T48 l (i : Int)).f1 = false by simpa using m, Bool.false_and]
          refine no (by decide) ?_
          rw [j2 k i true hi]
          rfl
      · rw [show (nb (rd_T48 l (i : Int)).f0.f0 && nb (rd_T48 l (i : Int)).f0.f1) = false by simpa using c, Bool.false_and]
        refine no (by decide) ?_
        rw [j2 k i true hi]
        rfl) (fun k hk => by
      show spec_BookRight.l0 (k + 1 + 1) (sumTo l (l.length : Int).toNat) (l.length : Int) l ids = _
      rw [Int.toNat_natCast, spec_BookRight.l0]
      refine no (by omega) ?_
      congr 1) (k := k - 1) (by have := h.h0; omega)
theorem impl_right {l : List S48} {ids : List ByteArray} (h : Sm l ids) {k : Nat} (hk : 5000000 ≤ k) : impl_BookRight.f k l ids = some (bR l ids) := by
  have hl := h.h0
  have j3 : ∀ (k i : Nat) (t : Int) (b : Bool), i < ids.length → impl_BookRight.j3 (k + 1) t ids (ids.length : Int) (i : Int) b l ids = if b = true then some false else impl_BookRight.l1 k t ids (ids.length : Int) ((i + 1 : Nat) : Int) l ids := by
    intro k i t b hi
    simp only [impl_BookRight.j3]
    rw [nx i (by have := h.h1; omega)]
  have j1 : ∀ (k i : Nat) (b : Bool), i < l.length → impl_BookRight.j1 (k + 1) (sumTo l i) l (l.length : Int) (i : Int) b l ids (rd_T48 l (i : Int)).f0.f0 (rd_T48 l (i : Int)).f0.f1 (rd_T48 l (i : Int)).f1 = if b = true then some false else impl_BookRight.l0 k (sumTo l (i + 1)) l (l.length : Int) ((i + 1 : Nat) : Int) l ids := by
    intro k i b hi
    simp only [impl_BookRight.j1]
    rw [nx i (by omega)]
    rfl
  have last : ∀ (t : Int) (k : Nat), 2100000 ≤ k → impl_BookRight.l1 k t ids (ids.length : Int) 0 l ids = some (allB ids.length (okI ids) && (decide (t = 0) && decide (ids.length ≤ 100))) := by
    intro t k hk
    exact all_loop (L := fun k i => impl_BookRight.l1 k t ids (ids.length : Int) i l ids) (s := 2) (n := ids.length) (K := 100) (e := okI ids) (r := decide (t = 0) && decide (ids.length ≤ 100)) (by have := h.h1; omega) (fun k i hi hk => by
      show impl_BookRight.l1 (k + 1 + 1) t ids (ids.length : Int) (i : Int) l ids = _
      have hi1 := h.h1
      rw [impl_BookRight.l1]
      refine yes (by omega) (yes (by omega) (yes (by omega) ?_))
      refine bnd (impl_name (h.h3 _ (mem_rdo hi))) ?_
      unfold okI
      by_cases c : nb (rdOf ByteArray.empty ids (i : Int)) = true
      · rw [c, Bool.true_and]
        refine yes c ?_
        by_cases z : i = 0
        · subst z
          refine no (by decide) ?_
          rw [j3 k 0 t false hi]
          rfl
        · refine yes (by omega) ?_
          rw [wid (x := (i : Int) - 1) (by omega) (by omega)]
          refine yes (by omega) (yes (by omega) ?_)
          rw [j3 k i t _ hi, decide_eq_false z, Bool.false_or]
          unfold lt
          cases Op.bytesLess (rdOf ByteArray.empty ids ((i : Int) - 1)).toList (rdOf ByteArray.empty ids (i : Int)).toList <;> rfl
      · rw [show nb (rdOf ByteArray.empty ids (i : Int)) = false by simpa using c, Bool.false_and]
        refine no (by simpa [nb] using c) ?_
        rw [j3 k i t true hi]
        rfl) (fun k hk => by
      show impl_BookRight.l1 (k + 1 + 1) t ids (ids.length : Int) (ids.length : Int) l ids = _
      rw [impl_BookRight.l1]
      refine no (by omega) ?_
      by_cases z : t = 0
      · rw [if_pos z, decide_eq_true z, Bool.true_and]
        congr 1
        exact decide_eq_decide.2 ⟨fun h => by omega, fun h => by omega⟩
      · rw [if_neg z, decide_eq_false z, Bool.false_and]) (k := k) (by have := h.h1; omega)
  have main := all_loop (L := fun k i => impl_BookRight.l0 k (sumTo l i.toNat) l (l.length : Int) i l ids) (s := 2) (n := l.length) (K := 2200000) (e := fun i => okL l i && decide (i < 60)) (r := allB ids.length (okI ids) && (decide (sumTo l l.length = 0) && decide (ids.length ≤ 100))) (by omega) (fun k i hi hk => by
      show impl_BookRight.l0 (k + 1 + 1) (sumTo l (i : Int).toNat) l (l.length : Int) (i : Int) l ids = _
      rw [Int.toNat_natCast, Int.toNat_natCast, impl_BookRight.l0]
      refine yes (by omega) (yes (by omega) (yes (by omega) ?_))
      refine bnd (impl_names (h.h2 _ (mem_rdl hi))) ?_
      have d60 : decide ((i : Int) ≥ 60) = !decide (i < 60) := by
        by_cases q : i < 60
        · rw [decide_eq_true q, decide_eq_false (by omega)]
          rfl
        · rw [decide_eq_false q, decide_eq_true (by omega)]
          rfl
      unfold okL
      by_cases c : (nb (rd_T48 l (i : Int)).f0.f0 && nb (rd_T48 l (i : Int)).f0.f1) = true
      · rw [c, Bool.true_and]
        refine yes rfl (bnd (impl_mon _) ?_)
        by_cases m : mon (rd_T48 l (i : Int)).f1 = true
        · rw [m, Bool.true_and]
          refine yes rfl ?_
          by_cases z : i = 0
          · subst z
            refine no (by decide) ?_
            rw [j1 k 0 _ hi]
            rfl
          · refine yes (by omega) ?_
            rw [wid (x := (i : Int) - 1) (by omega) (by omega)]
            refine yes (by omega) (yes (by omega) (bnd (impl_ord _ _ _ _ (by omega)) ?_))
            rw [decide_eq_false z, Bool.false_or]
            have on := od_neg (a := (rd_T48 l ((i : Int) - 1)).f0.f0.toList) (b := (rd_T48 l ((i : Int) - 1)).f0.f1.toList) (c := (rd_T48 l (i : Int)).f0.f0.toList) (d := (rd_T48 l (i : Int)).f0.f1.toList)
            by_cases o : so (rd_T48 l ((i : Int) - 1)).f0.f0 (rd_T48 l ((i : Int) - 1)).f0.f1 (rd_T48 l (i : Int)).f0.f0 (rd_T48 l (i : Int)).f0.f1 ≥ 0
            · rw [if_pos o, j1 k i true hi, show ss (rd_T48 l ((i : Int) - 1)).f0.f0 (rd_T48 l ((i : Int) - 1)).f0.f1 (rd_T48 l (i : Int)).f0.f0 (rd_T48 l (i : Int)).f0.f1 = false from by
                cases q : ss (rd_T48 l ((i : Int) - 1)).f0.f0 (rd_T48 l ((i : Int) - 1)).f0.f1 (rd_T48 l (i : Int)).f0.f0 (rd_T48 l (i : Int)).f0.f1 with
                | false => rfl
                | true => exact absurd (on.2 q) (by unfold so at o; omega)]
              rfl
            · rw [if_neg o, j1 k i _ hi, show ss (rd_T48 l ((i : Int) - 1)).f0.f0 (rd_T48 l ((i : Int) - 1)).f0.f1 (rd_T48 l (i : Int)).f0.f0 (rd_T48 l (i : Int)).f0.f1 = true from on.1 (by unfold so at o; omega), Bool.true_and, d60]
              cases decide (i < 60) <;> rfl
        · rw [show mon (rd_T48 l (i : Int)).f1 = false by simpa using m, Bool.false_and, Bool.false_and]
          refine no (by decide) ?_
          rw [j1 k i true hi]
          rfl
      · rw [show (nb (rd_T48 l (i : Int)).f0.f0 && nb (rd_T48 l (i : Int)).f0.f1) = false by simpa using c, Bool.false_and, Bool.false_and]
        refine no (by decide) ?_
        rw [j1 k i true hi]
        rfl) (fun k hk => by
      show impl_BookRight.l0 (k + 1 + 1) (sumTo l (l.length : Int).toNat) l (l.length : Int) (l.length : Int) l ids = _
      rw [Int.toNat_natCast, impl_BookRight.l0]
      refine no (by omega) ?_
      exact last _ _ (by omega)) (k := k) (by omega)
  unfold impl_BookRight.f
  refine main.trans ?_
  congr 1
  unfold bR
  by_cases c1 : l.length ≤ 60
  · rw [decide_eq_true c1, Bool.true_and]
    have e : allB l.length (fun i => okL l i && decide (i < 60)) = allB l.length (okL l) := by
      unfold allB
      exact decide_eq_decide.2 ⟨fun h j hj => by have := h j hj; rw [Bool.and_eq_true] at this; exact this.1, fun h j hj => by rw [Bool.and_eq_true]; exact ⟨h j hj, decide_eq_true (by omega)⟩⟩
    rw [e]
    cases allB l.length (okL l) <;> cases allB ids.length (okI ids) <;> cases decide (sumTo l l.length = 0) <;> cases decide (ids.length ≤ 100) <;> rfl
  · rw [decide_eq_false c1, Bool.false_and]
    have e : allB l.length (fun i => okL l i && decide (i < 60)) = false := by
      unfold allB
      refine decide_eq_false (fun h => ?_)
      have := h 60 (by omega)
      rw [Bool.and_eq_true] at this
      exact absurd (of_decide_eq_true this.2) (by decide)
    rw [e, Bool.false_and]
theorem right_says {l : List S48} {ids : List ByteArray} (h : bR l ids = true) : l.length ≤ 60 ∧ ids.length ≤ 100 ∧ ∀ j, 0 < j → j < l.length → ss (rd_T48 l ((j : Int) - 1)).f0.f0 (rd_T48 l ((j : Int) - 1)).f0.f1 (rd_T48 l (j : Int)).f0.f0 (rd_T48 l (j : Int)).f0.f1 = true := by
  unfold bR at h
  simp only [Bool.and_eq_true, decide_eq_true_eq] at h
  refine ⟨h.1, h.2.1, fun j h0 hj => ?_⟩
  have := (allB_iff.1 h.2.2.2.1) j hj
  unfold okL at this
  simp only [Bool.and_eq_true, Bool.or_eq_true, decide_eq_true_eq] at this
  exact this.2.2.resolve_left (by omega)
end Go.Proofs.YtidlcolgiololaaDoor.BkRight
namespace Go.Proofs.YtidlcolgiololaaDoor.BkFind
open Go.RowKit Go.Proofs.YtidlcolgiololaaDoor.S Go.Proofs.YtidlcolgiololaaDoorW.PrintWords Go.Proofs.YtidlcolgiololaaDoor.Cal Go.Proofs.YtidlcolgiololaaDoor.Bk Go.Proofs.YtidlcolgiololaaDoor.BkLoops Go.Proofs.YtidlcolgiololaaDoor.BkRight
set_option linter.unusedVariables false
set_option linter.unusedSimpArgs false

def Sorted (l : List S48) : Prop := ∀ j : Nat, 0 < j → j < l.length → ss (rd_T48 l ((j : Int) - 1)).f0.f0 (rd_T48 l ((j : Int) - 1)).f0.f1 (rd_T48 l (j : Int)).f0.f0 (rd_T48 l (j : Int)).f0.f1 = true
def cb (l : List S48) (a b : ByteArray) (j : Nat) : Bool := ss (rd_T48 l (j : Int)).f0.f0 (rd_T48 l (j : Int)).f0.f1 a b
theorem ss_trans {a b c d e f : ByteArray} (h : ss a b c d = true) (h' : ss c d e f = true) : ss a b e f = true := sl_trans h h'
theorem sorted_lt {l : List S48} (h : Sorted l) {i : Nat} : ∀ (d j : Nat), j = i + 1 + d → j < l.length → ss (rd_T48 l (i : Int)).f0.f0 (rd_T48 l (i : Int)).f0.f1 (rd_T48 l (j : Int)).f0.f0 (rd_T48 l (j : Int)).f0.f1 = true
  | 0, j, e, hj => by
    have := h j (by omega) hj
    rw [show ((j : Int) - 1) = (i : Int) by omega] at this
    exact this
  | d + 1, j, e, hj => by
    have h1 := sorted_lt h (i := i) d (j - 1) (by omega) (by omega)
    have h2 := h j (by omega) hj
    rw [show ((j : Int) - 1) = ((j - 1 : Nat) : Int) by omega] at h2
    exact ss_trans h1 h2
theorem cb_mono {l : List S48} (h : Sorted l) {a b : ByteArray} {i j : Nat} (hij : i < j) (hj : j < l.length) (hc : cb l a b j = true) : cb l a b i = true :=
  ss_trans (sorted_lt h (i := i) (j - i - 1) j (by omega) hj) hc
structure Place (l : List S48) (a b : ByteArray) (p : Nat) : Prop where
  le : p ≤ l.length
  before : ∀ j, j < p → cb l a b j = true
  behind : ∀ j, p ≤ j → j < l.length → cb l a b j = false
theorem place_ex {l : List S48} (h : Sorted l) (a b : ByteArray) : ∃ p, Place l a b p := by
  have key : ∀ m, m ≤ l.length → ∃ p, p ≤ m ∧ (∀ j, j < p → cb l a b j = true) ∧ ∀ j, p ≤ j → j < m → cb l a b j = false := by
    intro m
    induction m with
    | zero => exact fun _ => ⟨0, Nat.le_refl _, fun j h => by omega, fun j h1 h2 => by omega⟩
    | succ m ih =>
      intro hm
      obtain ⟨p, hp, h1, h2⟩ := ih (by omega)
      by_cases c : cb l a b m = true
      · refine ⟨m + 1, Nat.le_refl _, fun j hj => ?_, fun j q1 q2 => by omega⟩
        by_cases e : j = m
        · rw [e]; exact c
        · exact cb_mono h (by omega) (by omega) c
      · refine ⟨p, by omega, h1, fun j q1 q2 => ?_⟩
        by_cases e : j = m
        · rw [e]; simpa using c
        · exact h2 j q1 (by omega)
  obtain ⟨p, hp, h1, h2⟩ := key l.length (Nat.le_refl _)
  exact ⟨p, hp, h1, h2⟩
def at_ (l : List S48) (a b : ByteArray) (j : Nat) : Bool := decide ((rd_T48 l (j : Int)).f0.f0.toList = a.toList ∧ (rd_T48 l (j : Int)).f0.f1.toList = b.toList)
def fnd (l : List S48) (a b : ByteArray) (p : Nat) : Bool := decide (p < l.length) && at_ l a b p
theorem at_only {l : List S48} (h : Sorted l) {a b : ByteArray} {p : Nat} (hp : Place l a b p) {i : Nat} (hi : i < l.length) (e : at_ l a b i = true) : i = p := by
  unfold at_ at e
  have e := of_decide_eq_true e
  have self : cb l a b i = false := by
    unfold cb ss
    rw [e.1, e.2]
    exact sl_irrefl _ _
  rcases Nat.lt_trichotomy i p with q | q | q
  · rw [hp.before i q] at self
    cases self
  · exact q
  · have h1 := sorted_lt h (i := p) (i - p - 1) i (by omega) hi
    have h2 : cb l a b p = true := by
      unfold cb
      unfold ss at h1 ⊢
      rw [← e.1, ← e.2]
      exact h1
    rw [hp.behind p (Nat.le_refl _) (by omega)] at h2
    cases h2
theorem fnd_at {l : List S48} (h : Sorted l) {a b : ByteArray} {p : Nat} (hp : Place l a b p) {i : Nat} (hi : i < l.length) : at_ l a b i = (decide (i = p) && fnd l a b p) := by
  by_cases q : i = p
  · subst q
    unfold fnd
    rw [decide_eq_true rfl, Bool.true_and, decide_eq_true hi, Bool.true_and]
  · rw [decide_eq_false q, Bool.false_and]
    cases e : at_ l a b i with
    | false => rfl
    | true => exact absurd (at_only h hp hi e) q
theorem spec_find {l : List S48} {ids : List ByteArray} (hl : l.length ≤ 60) (h : Sorted l) {a b : ByteArray} {p : Nat} (hp : Place l a b p) {k : Nat} (hk : 200 ≤ k) :
    spec_l05Find.f k l ids a b = some (if fnd l a b p = true then (p : Int) else -1) := by
  have key : ∀ (d i k : Nat), i + d = l.length → d + 1 ≤ k → (fnd l a b p = true → i ≤ p) → spec_l05Find.l0 k (i : Int) l ids a b = some (if fnd l a b p = true then (p : Int) else -1) := by
    intro d
    induction d with
    | zero =>
      intro i k hi hk hf
      obtain ⟨k, rfl⟩ : ∃ j, k = j + 1 := ⟨k - 1, by omega⟩
      simp only [spec_l05Find.l0]
      refine no (by omega) ?_
      by_cases f : fnd l a b p = true
      · have q := hf f
        unfold fnd at f
        simp only [Bool.and_eq_true, decide_eq_true_eq] at f
        omega
      · rw [if_neg f]
    | succ d ih =>
      intro i k hi hk hf
      obtain ⟨k, rfl⟩ : ∃ j, k = j + 1 := ⟨k - 1, by omega⟩
      simp only [spec_l05Find.l0]
      refine yes (by omega) (yes (by omega) ?_)
      have e : ((rd_T48 l (i : Int)).f0.f0.toList == a.toList && ((rd_T48 l (i : Int)).f0.f1.toList == b.toList)) = at_ l a b i := by
        unfold at_
        rw [Bool.eq_iff_iff]
        simp only [Bool.and_eq_true, beq_iff_eq, decide_eq_true_eq]
      rw [e, fnd_at h hp (by omega)]
      by_cases q : i = p
      · subst q
        rw [decide_eq_true rfl, Bool.true_and]
        by_cases f : fnd l a b i = true
        · rw [if_pos f, if_pos f]
        · rw [if_neg f, nx i (by omega)]
          exact ih (i + 1) k (by omega) (by omega) (fun f' => absurd f' f)
      · rw [decide_eq_false q, Bool.false_and, nx i (by omega)]
        refine no (by decide) ?_
        exact ih (i + 1) k (by omega) (by omega) (fun f => by have := hf f; omega)
  unfold spec_l05Find.f
  exact key l.length 0 k (by omega) (by omega) (fun _ => Nat.zero_le _)
theorem so_neg {a b c d : ByteArray} : so a b c d < 0 ↔ ss a b c d = true := od_neg
theorem impl_place {l : List S48} {ids : List ByteArray} (hl : l.length ≤ 60) (h : Sorted l) {a b : ByteArray} {p : Nat} (hp : Place l a b p) {k : Nat} (hk : 200 ≤ k) :
    impl_Book_place.f k l ids a b = some ((p : Int), fnd l a b p) := by
  have ord : ∀ (j k : Nat), 5 ≤ k → impl_Book_place_1.f k (rd_T48 l (j : Int)).f0.f0 (rd_T48 l (j : Int)).f0.f1 (rd_T48 l (j : Int)).f1 a b = some (so (rd_T48 l (j : Int)).f0.f0 (rd_T48 l (j : Int)).f0.f1 a b) := by
    intro j k hk
    unfold impl_Book_place_1.f
    exact bnd (impl_ord _ _ _ _ hk) rfl
  have key : ∀ (d i j k : Nat), j - i ≤ d → i ≤ p → p ≤ j → j ≤ l.length → d + 10 ≤ k → impl_Spot.l0 k l (l.length : Int) (i : Int) (j : Int) a b = some ((p : Int), fnd l a b p) := by
    intro d
    induction d with
    | zero =>
      intro i j k hd hi hj hn hk
      obtain ⟨k, rfl⟩ : ∃ q, k = q + 1 := ⟨k - 1, by omega⟩
      have e1 : i = p := by omega
      have e2 : j = p := by omega
      subst e1
      subst e2
      simp only [impl_Spot.l0]
      refine no (by omega) ?_
      unfold fnd
      by_cases c : j < l.length
      · refine yes (by omega) (yes (by omega) (yes (by omega) (bnd (ord j k (by omega)) ?_)))
        rw [decide_eq_true c, Bool.true_and]
        congr 2
        unfold at_ so
        rw [Bool.eq_iff_iff]
        simp only [beq_iff_eq, decide_eq_true_eq]
        exact od_zero
      · rw [decide_eq_false c, Bool.false_and]
        exact no (by omega) rfl
    | succ d ih =>
      intro i j k hd hi hj hn hk
      by_cases lt : i < j
      case neg => exact ih i j k (by omega) hi hj hn (by omega)
      obtain ⟨k, rfl⟩ : ∃ q, k = q + 1 := ⟨k - 1, by omega⟩
      have e : wrap64 ((IntKind.u64.wrap (wrap64 ((i : Int) + (j : Int)))) / 2) = (((i + j) / 2 : Nat) : Int) := by
        rw [wid (x := (i : Int) + (j : Int)) (by omega) (by omega)]
        have w : IntKind.u64.wrap ((i : Int) + (j : Int)) = (i : Int) + (j : Int) := by
          have q : IntKind.u64.wrap ((i : Int) + (j : Int)) = ((i : Int) + (j : Int)) % 18446744073709551616 := by simp [IntKind.wrap, IntKind.signed, IntKind.bits]
          omega
        rw [w, wid (by omega) (by omega)]
        omega
      simp only [impl_Spot.l0]
      refine yes (by omega) ?_
      rw [e]
      refine yes (by omega) (yes (by omega) (bnd (ord _ k (by omega)) ?_))
      by_cases c : so (rd_T48 l (((i + j) / 2 : Nat) : Int)).f0.f0 (rd_T48 l (((i + j) / 2 : Nat) : Int)).f0.f1 a b < 0
      · rw [if_pos c, nx _ (by omega)]
        have c' := so_neg.1 c
        refine ih ((i + j) / 2 + 1) j k (by omega) ?_ hj hn (by omega)
        apply Decidable.byContradiction
        intro q
        have := hp.behind ((i + j) / 2) (by omega) (by omega)
        unfold cb at this
        rw [c'] at this
        cases this
      · rw [if_neg c]
        refine ih i ((i + j) / 2) k (by omega) hi ?_ (by omega) (by omega)
        apply Decidable.byContradiction
        intro q
        have := hp.before ((i + j) / 2) (by omega)
        unfold cb at this
        exact c (so_neg.2 this)
  unfold impl_Book_place.f impl_Spot.f
  refine bnd (yes rfl (key l.length 0 l.length k (by omega) (Nat.zero_le _) hp.le (Nat.le_refl _) (by omega))) rfl
def opened (l : List S48) (a b : ByteArray) (p : Nat) : List S48 := l.take p ++ [⟨⟨a, b⟩, 0⟩] ++ l.drop p
theorem spec_put {l : List S48} {ids : List ByteArray} (hl : l.length ≤ 60) {a b : ByteArray} {p : Nat} (hp : Place l a b p) (r : List ByteArray) {k : Nat} (hk : 200 ≤ k) :
    spec_l05Open.l0 k 0 l ids a b r = some (opened l a b p, r, 0, 0) := by
  have fin : ∀ (q : Nat), q = p → (if 0 ≤ (q : Int) then (if (q : Int) ≤ (l.length : Int) then ((some (l.take (q : Int).toNat : List S48)).bind fun y151 => (if ([] : List (S48)).length + y151.length < 3518437208883 then ((some (([] : List (S48)) ++ y151 : List (S48))).bind fun y155 => (if y155.length < 3518437208883 then ((some (y155 ++ [(⟨(⟨a, b⟩ : S37), 0⟩ : S48)] : List (S48))).bind fun y158 => ((some (l.drop (q : Int).toNat : List (S48))).bind fun y161 => (if y158.length + y161.length < 3518437208883 then (some ((y158 ++ y161), r, (0 : Int), (0 : Int))) else (none)))) else (none))) else (none))) else (none)) else (none)) = some (opened l a b p, r, 0, 0) := by
    intro q e
    subst e
    have hq := hp.le
    refine yes (by omega) (yes (by omega) ?_)
    rw [Int.toNat_natCast, Option.bind_some]
    have e1 : (l.take q).length ≤ 60 := by rw [List.length_take]; omega
    have e2 : (l.drop q).length ≤ 60 := by rw [List.length_drop]; omega
    refine yes (by simp only [List.length_nil]; omega) ?_
    rw [Option.bind_some, List.nil_append]
    refine yes (by omega) ?_
    rw [Option.bind_some, Option.bind_some]
    refine yes (by rw [List.length_append, List.length_singleton]; omega) rfl
  have key : ∀ (d i k : Nat), i + d = p → d + 1 ≤ k → spec_l05Open.l0 k (i : Int) l ids a b r = some (opened l a b p, r, 0, 0) := by
    intro d
    induction d with
    | zero =>
      intro i k hi hk
      obtain ⟨k, rfl⟩ : ∃ j, k = j + 1 := ⟨k - 1, by omega⟩
      have e : i = p := by omega
      simp only [spec_l05Open.l0]
      by_cases c : (i : Int) < (l.length : Int)
      · refine yes c (yes (by omega) (bnd (spec_less _ _ _ _) ?_))
        have q := hp.behind i (by omega) (by omega)
        unfold cb at q
        rw [q]
        refine no (by decide) ?_
        have f := fin i e
        rw [if_pos (show 0 ≤ (i : Int) by omega)] at f
        exact f
      · exact no c (fin i e)
    | succ d ih =>
      intro i k hi hk
      obtain ⟨k, rfl⟩ : ∃ j, k = j + 1 := ⟨k - 1, by omega⟩
      have hq := hp.le
      simp only [spec_l05Open.l0]
      refine yes (by omega) (yes (by omega) (bnd (spec_less _ _ _ _) ?_))
      have q := hp.before i (by omega)
      unfold cb at q
      rw [q, nx i (by omega)]
      exact yes rfl (ih (i + 1) k (by omega) (by omega))
  have hq := hp.le
  exact key p 0 k (by omega) (by omega)
noncomputable def answer (l : List S48) (ids : List ByteArray) (a b : ByteArray) (p : Nat) : List S48 × List ByteArray × Int × Int :=
  if bR l ids = true then (if (nb a && nb b) = true then (if fnd l a b p = true then ([], [], 0, 7) else if l.length = 60 then ([], [], 0, 16) else (opened l a b p, ids, 0, 0)) else ([], [], 0, 1)) else ([], [], 0, 1)
theorem both {l : List S48} {ids : List ByteArray} (h : Sm l ids) {a b : ByteArray} (hf : Fit a b) : ∃ r : List S48 × List ByteArray × Int × Int, r.1.length ≤ 1048577 ∧ r.2.1.length ≤ 1048577 ∧ ∀ k, 5000000 ≤ k → spec_BookOpen.f k l ids a b = some r ∧ impl_BookOpen.f k l ids a b = some r := by
  by_cases c1 : bR l ids = true
  case neg =>
    have c1 : bR l ids = false := by simpa using c1
    refine ⟨([], [], 0, 1), by simp, by simp, fun k hk => ⟨?_, ?_⟩⟩
    · unfold spec_BookOpen.f
      refine bnd (spec_right h hk) ?_
      rw [c1]
      exact no (by decide) rfl
    · unfold impl_BookOpen.f
      refine bnd (impl_right h hk) ?_
      rw [c1]
      exact no (by decide) rfl
  by_cases c2 : (nb a && nb b) = true
  case neg =>
    have c2 : (nb a && nb b) = false := by simpa using c2
    refine ⟨([], [], 0, 1), by simp, by simp, fun k hk => ⟨?_, ?_⟩⟩
    · unfold spec_BookOpen.f
      refine bnd (spec_right h hk) ?_
      rw [c1]
      refine yes rfl (bnd (spec_names hf (by omega)) ?_)
      rw [c2]
      exact no (by decide) rfl
    · unfold impl_BookOpen.f
      refine bnd (impl_right h hk) ?_
      rw [c1]
      refine yes rfl (bnd (impl_names hf) ?_)
      rw [c2]
      exact no (by decide) rfl
  obtain ⟨n60, i100, hs⟩ := right_says c1
  obtain ⟨p, hp⟩ := place_ex hs a b
  have copied : impl_Book_copied.f l ids = some (l, ids) := by
    unfold impl_Book_copied.f impl_Line.f slices_Clone_string_string.f
    rw [if_pos (by omega), if_pos (by omega)]
    rfl
  have hsp : ∀ k, 5000000 ≤ k → ∀ r, spec_l05Open.f k l ids a b = some r → spec_BookOpen.f k l ids a b = some r := by
    intro k hk r e
    unfold spec_BookOpen.f
    refine bnd (spec_right h hk) ?_
    rw [c1]
    refine yes rfl (bnd (spec_names hf (by omega)) ?_)
    rw [c2]
    exact yes rfl (bnd e rfl)
  have him : ∀ k, 5000000 ≤ k → impl_BookOpen.f k l ids a b = if fnd l a b p = true then some ([], [], 0, 7) else if l.length = 60 then some ([], [], 0, 16) else
      if 0 ≤ (p : Int) then (if (p : Int) ≤ (l.length : Int) then (if (l.length + 1) * 40 ≤ 140737488355328 then some (l.take (p : Int).toNat ++ [⟨⟨a, b⟩, 0⟩] ++ l.drop (p : Int).toNat, ids, 0, 0) else none) else none) else none := by
    intro k hk
    unfold impl_BookOpen.f
    refine bnd (impl_right h hk) ?_
    rw [c1]
    refine yes rfl (bnd (impl_names hf) ?_)
    rw [c2]
    refine yes rfl (bnd copied (bnd (impl_place n60 hs hp (by omega)) rfl))
  by_cases f : fnd l a b p = true
  · refine ⟨([], [], 0, 7), by simp, by simp, fun k hk => ⟨hsp k hk _ ?_, ?_⟩⟩
    · unfold spec_l05Open.f
      refine bnd (spec_find n60 hs hp (by omega)) ?_
      rw [if_pos f]
      exact yes (by omega) rfl
    · rw [him k hk, if_pos f]
  by_cases c60 : l.length = 60
  · refine ⟨([], [], 0, 16), by simp, by simp, fun k hk => ⟨hsp k hk _ ?_, ?_⟩⟩
    · unfold spec_l05Open.f
      refine bnd (spec_find n60 hs hp (by omega)) ?_
      rw [if_neg f]
      exact no (by decide) (yes (by omega) rfl)
    · rw [him k hk, if_neg f, if_pos c60]
  · have hq := hp.le
    refine ⟨(opened l a b p, ids, 0, 0), by unfold opened; simp only [List.length_append, List.length_take, List.length_drop, List.length_singleton]; omega, by simp; omega, fun k hk => ⟨hsp k hk _ ?_, ?_⟩⟩
    · unfold spec_l05Open.f
      refine bnd (spec_find n60 hs hp (by omega)) ?_
      rw [if_neg f]
      refine no (by decide) (no (by omega) ?_)
      rw [Option.bind_some, List.nil_append]
      refine yes (by simp; omega) ?_
      exact spec_put n60 hp ids (by omega)
    · rw [him k hk, if_neg f, if_neg c60, if_pos (by omega), if_pos (by omega), if_pos (by omega), Int.toNat_natCast]
      rfl
end Go.Proofs.YtidlcolgiololaaDoor.BkFind
namespace Go.Proofs.YtidlcolgiololaaDoor.Pure
open Go.RowKit Go.Proofs.YtidlcolgiololaaDoor.S Go.Proofs.YtidlcolgiololaaDoorW.PrintWords Go.Proofs.YtidlcolgiololaaDoor.Cal Go.Proofs.YtidlcolgiololaaDoor.BkTexts Go.Proofs.YtidlcolgiololaaDoor.BkLoops Go.Proofs.YtidlcolgiololaaDoor.BkRight Go.Proofs.YtidlcolgiololaaDoor.BkFind
set_option linter.unusedVariables false
set_option linter.unusedSimpArgs false

theorem FnExactBookOpen : StmFnExactBookOpen.Pure := by
  rintro l0_0 l0_1 a b ⟨⟨hl, hm⟩, hi, hn⟩ ⟨ha, hb⟩
  refine ⟨10000000, ?_⟩
  generalize hk : (10000000 : Nat) = k
  have hk1 : 5000001 ≤ k := by omega
  have hk2 : 2000001 ≤ k := by omega
  clear hk
  obtain ⟨t, ht, hc⟩ := szBook (k := k) hl (fun y hy => (hm y hy).1) hi hn (by omega)
  unfold laws_FnExactBookOpen.f
  refine bnd ht ?_
  by_cases c : t < 0
  · exact yes c rfl
  obtain ⟨c0, c1, hs⟩ := hc.resolve_left c
  refine no c ?_
  obtain ⟨u, hu, hd⟩ := szSpot ha hb c0 c1
  refine bnd hu ?_
  by_cases d : u < 0
  · exact yes d rfl
  obtain ⟨d0, d1, hf⟩ := hd.resolve_left d
  refine no d ?_
  have to_ : ∀ j, 2000000 ≤ j → laws_toBook.f j l0_0 l0_1 = some (l0_0.map cv, l0_1) := fun j hj => toBook hs hj
  have sp : laws_toSpot.f a b = some (a, b) := rfl
  have sm : Sm (l0_0.map cv) l0_1 := ⟨by rw [List.length_map]; exact hs.h0, hs.h1, fun y hy => by
    obtain ⟨z, hz, rfl⟩ := List.mem_map.1 hy
    exact hs.h2 z hz, hs.h3⟩
  have ln : (l0_0.map cv).length ≤ 1048577 := by rw [List.length_map]; have q : l0_0.length ≤ 1048576 := hs.h0; omega
  have li : l0_1.length ≤ 1048577 := by have q : l0_1.length ≤ 1048576 := hs.h1; omega
  obtain ⟨r, r0, r1, hr⟩ := both sm hf
  refine bnd (to_ k (by omega)) (bnd sp (bnd (hr k (by omega)).1 (bnd (to_ k (by omega)) (bnd sp (bnd (hr k (by omega)).2 (bnd (eqOut r0 r1 (by omega)) (yes rfl (bnd (to_ k (by omega)) (bnd (eqBook ln li (by omega)) (yes rfl (bnd (markBook ln li (by omega)) ?_)))))))))))
  refine no (by simp only; omega) (bnd (eqOut r0 r1 (by omega)) ?_)
  obtain ⟨k, rfl⟩ : ∃ j, k = j + 1 := ⟨k - 1, by omega⟩
  simp only [laws_FnExactBookOpen.j0]
  refine no (by decide) ?_
  have mk : ∀ j, 2000000 ≤ j → laws_markBookOut.f j r.1 r.2.1 r.2.2.1 r.2.2.2 1 = some (1 + 3 * (r.1.length : Int) + (r.2.1.length : Int), marksL 1 r.1, marks (1 + 3 * (r.1.length : Int)) r.2.1) := by
    intro j hj
    unfold laws_markBookOut.f
    exact bnd (markBook r0 r1 hj) rfl
  have hd_ : ∀ j, 2000000 ≤ j → laws_heldBookOut.f j (marksL 1 r.1) (marks (1 + 3 * (r.1.length : Int)) r.2.1) r.2.2.1 r.2.2.2 1 = some (1 + 3 * (r.1.length : Int) + (r.2.1.length : Int)) := by
    intro j hj
    unfold laws_heldBookOut.f
    exact bnd (heldBook r0 r1 hj) (no (by omega) rfl)
  refine bnd (mk k (by omega)) (bnd (hd_ k (by omega)) (no (by omega) (yes rfl ?_)))
  refine bnd (to_ k (by omega)) (bnd sp (bnd (hr k (by omega)).2 (bnd (eqOut r0 r1 (by omega)) (yes rfl ?_))))
  exact bnd (hd_ k (by omega)) (no (by omega) (yes rfl rfl))
end Go.Proofs.YtidlcolgiololaaDoor.Pure
