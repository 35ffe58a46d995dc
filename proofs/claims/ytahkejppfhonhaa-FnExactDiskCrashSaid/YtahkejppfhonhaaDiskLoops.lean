/- Plain laws: the loops over a disk's writes: what they answer; no condition beyond each lemma's own. -/
import Derived.Test.YtahkejppfhonhaaDiskBase
import Derived.Test.YtahkejppfhonhaaS0
import Derived.Test.YtahkejppfhonhaaS1
import Derived.Test.YtahkejppfhonhaaS2
import Derived.Test.YtahkejppfhonhaaS3
import Derived.Test.YtahkejppfhonhaaS4
namespace Go.Proofs.Ytahkejppfhonhaa.DiskLoops
open Go.RowKit Go.Proofs.Ytahkejppfhonhaa.S Go.Proofs.YtahkejppfhonhaaW.PrintWords Go.Proofs.Ytahkejppfhonhaa.Cal Go.Proofs.Ytahkejppfhonhaa.DiskBase
set_option linter.unusedVariables false
set_option linter.unusedSimpArgs false

/-! how much it holds -/
theorem szS_l0 : ∀ (tl pre : List ByteArray) (x : Int) (k : Nat), (∀ y ∈ tl, y.size ≤ 140737488351232) → 0 ≤ x → x ≤ 1048576 → pre.length + tl.length ≤ 1048576 → tl.length + 1 ≤ k →
    ∃ t, laws_szStringS.l0 k (pre ++ tl) x (pre.length : Int) = some t ∧ (t < 0 ∨ (0 ≤ t ∧ x = t + tot tl))
  | [], pre, x, k, hy, h0, h1, hl, hk => by
    obtain ⟨j, rfl⟩ : ∃ j, k = j + 1 := ⟨k - 1, by simp at hk; omega⟩
    refine ⟨x, ?_, .inr ⟨h0, by simp [tot]⟩⟩
    rw [laws_szStringS.l0]
    exact no (by simp) rfl
  | y :: tl, pre, x, k, hy, h0, h1, hl, hk => by
    rw [List.length_cons] at hl hk
    obtain ⟨j, rfl⟩ : ∃ j, k = j + 1 := ⟨k - 1, by omega⟩
    have hy0 := hy y List.mem_cons_self
    have e : wrap64 (x - (y.size : Int)) = x - (y.size : Int) := wid (by omega) (by omega)
    by_cases c : x - (y.size : Int) < 0
    · refine ⟨-1, ?_, .inl (by omega)⟩
      rw [laws_szStringS.l0]
      refine yes (by rw [List.length_append, List.length_cons]; omega) ?_
      refine yes (by omega) ?_
      rw [rdo, e]
      exact yes c rfl
    · obtain ⟨t, ht, hc⟩ := szS_l0 tl (pre ++ [y]) (x - (y.size : Int)) j (fun z hz => hy z (List.mem_cons_of_mem _ hz)) (by omega) (by omega) (by rw [List.length_append]; simp; omega) (by omega)
      refine ⟨t, ?_, ?_⟩
      · rw [laws_szStringS.l0]
        refine yes (by rw [List.length_append, List.length_cons]; omega) ?_
        refine yes (by omega) ?_
        rw [rdo, e]
        refine no c ?_
        rw [nxt pre y (by omega), snoc pre tl y]
        exact ht
      · rcases hc with hc | ⟨hc, he⟩
        · exact .inl hc
        · refine .inr ⟨hc, ?_⟩
          rw [tot]
          omega
/-- A disk (or any text and list of texts) of at most so many bytes and texts. -/
def Small (s : ByteArray) (l : List ByteArray) : Prop := s.size + l.length + tot l ≤ 1048576
theorem sz_disk (s : ByteArray) (l : List ByteArray) (hs : s.size ≤ 140737488351232) (hl : l.length * 16 ≤ 140737488351232) (hm : ∀ y ∈ l, y.size ≤ 140737488351232) {k : Nat} (hk : 2000000 ≤ k) :
    ∃ t, laws_szDisk.f k s l 1048576 = some t ∧ (t < 0 ∨ (0 ≤ t ∧ Small s l)) := by
  have e1 : wrap64 (1048576 - (s.size : Int)) = 1048576 - (s.size : Int) := wid (by omega) (by omega)
  by_cases c : (1048576 : Int) - (s.size : Int) < 0
  · refine ⟨-1, ?_, .inl (by omega)⟩
    unfold laws_szDisk.f
    rw [e1]
    exact yes c rfl
  have e2 : wrap64 (1048576 - (s.size : Int) - (l.length : Int)) = 1048576 - (s.size : Int) - (l.length : Int) := wid (by omega) (by omega)
  by_cases c2 : (1048576 : Int) - (s.size : Int) - (l.length : Int) < 0
  · refine ⟨-1, ?_, .inl (by omega)⟩
    unfold laws_szDisk.f
    rw [e1]
    refine no c ?_
    refine bnd (a := -1) ?_ (yes (by omega) rfl)
    unfold laws_szStringS.f
    rw [e2]
    exact yes c2 rfl
  · obtain ⟨t, ht, hc⟩ := szS_l0 l [] (1048576 - (s.size : Int) - (l.length : Int)) k hm (by omega) (by omega) (by simp; omega) (by omega)
    have hf : laws_szStringS.f k l (1048576 - (s.size : Int)) = some t := by
      unfold laws_szStringS.f
      rw [e2]
      exact no c2 ht
    by_cases c3 : t < 0
    · refine ⟨-1, ?_, .inl (by omega)⟩
      unfold laws_szDisk.f
      rw [e1]
      refine no c ?_
      refine bnd hf ?_
      exact yes c3 rfl
    · refine ⟨t, ?_, .inr ⟨by omega, ?_⟩⟩
      · unfold laws_szDisk.f
        rw [e1]
        refine no c ?_
        refine bnd hf ?_
        exact no c3 rfl
      · rcases hc with hc | ⟨hc, he⟩
        · exact absurd hc c3
        · unfold Small
          omega

/-! copies, equal lists -/
theorem toS_l0 : ∀ (tl pre zs : List ByteArray) (k : Nat), zs.length = tl.length → pre.length + tl.length ≤ 1048576 → tl.length + 1 ≤ k →
    laws_toStringS.l0 k (pre ++ tl) (pre ++ zs) (pre.length : Int) = some (pre ++ tl)
  | [], pre, zs, k, hz, hl, hk => by
    obtain ⟨j, rfl⟩ : ∃ j, k = j + 1 := ⟨k - 1, by simp at hk; omega⟩
    obtain rfl : zs = [] := List.eq_nil_of_length_eq_zero hz
    rw [laws_toStringS.l0]
    exact no (by simp) rfl
  | y :: tl, pre, z :: zs, k, hz, hl, hk => by
    rw [List.length_cons] at hl hk
    obtain ⟨j, rfl⟩ : ∃ j, k = j + 1 := ⟨k - 1, by omega⟩
    have ih := toS_l0 tl (pre ++ [y]) zs j (by simpa using hz) (by rw [List.length_append]; simp; omega) (by omega)
    rw [laws_toStringS.l0]
    refine yes (by rw [List.length_append, List.length_cons]; omega) ?_
    refine yes (by omega) ?_
    refine yes (by rw [List.length_append, List.length_cons]; omega) ?_
    have e : (pre ++ z :: zs).set ((pre.length : Int) : Int).toNat y = pre ++ y :: zs := by
      rw [Int.toNat_natCast, List.set_append_right _ _ (Nat.le_refl _), Nat.sub_self]
      rfl
    rw [rdo, e, nxt pre y (by omega), snoc pre tl y, snoc pre zs y]
    exact ih
theorem toS {l : List ByteArray} (hl : l.length ≤ 1048576) {k : Nat} (hk : 2000000 ≤ k) : laws_toStringS.f k l = some l := by
  unfold laws_toStringS.f
  refine yes (by omega) ?_
  refine yes (by rw [Int.toNat_natCast]; omega) ?_
  have h := toS_l0 l [] (List.replicate l.length (⟨#[]⟩ : ByteArray)) k (by rw [List.length_replicate]) (by simp; omega) (by omega)
  rw [Int.toNat_natCast]
  exact h
theorem toDisk {s : ByteArray} {l : List ByteArray} (hl : l.length ≤ 1048576) {k : Nat} (hk : 2000000 ≤ k) : laws_toDisk.f k s l = some (s, l) := by
  unfold laws_toDisk.f
  exact bnd (toS hl hk) rfl
theorem eqS_l0 : ∀ (tl pre : List ByteArray) (k : Nat), pre.length + tl.length ≤ 2000000 → tl.length + 1 ≤ k →
    laws_eqStringS.l0 k (pre ++ tl) (pre ++ tl) (pre.length : Int) = some true
  | [], pre, k, hl, hk => by
    obtain ⟨j, rfl⟩ : ∃ j, k = j + 1 := ⟨k - 1, by simp at hk; omega⟩
    rw [laws_eqStringS.l0]
    exact no (by simp) rfl
  | y :: tl, pre, k, hl, hk => by
    rw [List.length_cons] at hl hk
    obtain ⟨j, rfl⟩ : ∃ j, k = j + 1 := ⟨k - 1, by omega⟩
    have ih := eqS_l0 tl (pre ++ [y]) j (by rw [List.length_append]; simp; omega) (by omega)
    rw [laws_eqStringS.l0]
    refine yes (by rw [List.length_append, List.length_cons]; omega) ?_
    refine yes (by omega) ?_
    refine yes (by rw [List.length_append, List.length_cons]; omega) ?_
    refine yes rfl ?_
    rw [nxt pre y (by omega), snoc pre tl y]
    exact ih
theorem eqDisk {s : ByteArray} {l : List ByteArray} (hl : l.length ≤ 1048577) {k : Nat} (hk : 2000000 ≤ k) : laws_eqDisk.f k s l s l = some true := by
  unfold laws_eqDisk.f
  refine yes rfl ?_
  refine bnd (a := true) ?_ rfl
  unfold laws_eqStringS.f
  refine yes rfl ?_
  exact eqS_l0 l [] k (by simp; omega) (by omega)

/-! marks -/
theorem markT_l0 : ∀ (n k : Nat) (x : Int) (t : ByteArray), 0 ≤ x → x < 10 ^ n → x ≤ 9223372036854775807 → t.size + n ≤ 1000 → n + 1 ≤ k → ∃ r, ∀ j, k ≤ j → laws_markText.l0 j x t = some r
  | 0, k, x, t, h0, h1, hx, ht, hk => by
    refine ⟨(⟨#[109]⟩ : ByteArray) ++ t, fun j hj => ?_⟩
    obtain ⟨j, rfl⟩ : ∃ i, j = i + 1 := ⟨j - 1, by omega⟩
    have e : (10 : Int) ^ 0 = 1 := rfl
    rw [laws_markText.l0]
    refine no (by omega) ?_
    exact yes (by omega) rfl
  | n + 1, k, x, t, h0, h1, hx, ht, hk => by
    by_cases c : x > 0
    · have e : (10 : Int) ^ (n + 1) = 10 ^ n * 10 := Int.pow_succ _ _
      have sz : (strOfNums [(wrap64 (48 + (Int.tmod x 10))) % 256]).size = 1 := by rw [strOfNums_size]; rfl
      obtain ⟨r, hr⟩ := markT_l0 n (k - 1) (x / 10) (strOfNums [(wrap64 (48 + (Int.tmod x 10))) % 256] ++ t) (by omega) (by omega) (by omega) (by rw [ByteArray.size_append, sz]; omega) (by omega)
      refine ⟨r, fun j hj => ?_⟩
      obtain ⟨j, rfl⟩ : ∃ i, j = i + 1 := ⟨j - 1, by omega⟩
      rw [laws_markText.l0]
      refine yes c ?_
      rw [Option.bind_some]
      refine yes (by rw [sz]; omega) ?_
      rw [td (by omega), wid (x := x / 10) (by omega) (by omega)]
      exact hr j (by omega)
    · refine ⟨(⟨#[109]⟩ : ByteArray) ++ t, fun j hj => ?_⟩
      obtain ⟨j, rfl⟩ : ∃ i, j = i + 1 := ⟨j - 1, by omega⟩
      rw [laws_markText.l0]
      refine no (by omega) ?_
      exact yes (by omega) rfl
theorem markT_tells (x : Int) (h0 : 0 ≤ x) (h1 : x ≤ 100000000) : ∃ r, ∀ j, 100 ≤ j → laws_markText.f j x = some r := by
  by_cases c : x ≤ 0
  · refine ⟨(⟨#[109, 48]⟩ : ByteArray), fun j hj => ?_⟩
    unfold laws_markText.f
    exact yes c rfl
  · obtain ⟨r, hr⟩ := markT_l0 9 100 x (⟨#[]⟩ : ByteArray) h0 (by have : (10 : Int) ^ 9 = 1000000000 := rfl; omega) (by omega) (by show 0 + 9 ≤ 1000; omega) (by omega)
    refine ⟨r, fun j hj => ?_⟩
    unfold laws_markText.f
    exact no c (hr j hj)
noncomputable def mt (x : Int) : ByteArray := if h : 0 ≤ x ∧ x ≤ 100000000 then Classical.choose (markT_tells x h.1 h.2) else ByteArray.empty
theorem mt_spec {x : Int} (h0 : 0 ≤ x) (h1 : x ≤ 100000000) {j : Nat} (hj : 100 ≤ j) : laws_markText.f j x = some (mt x) := by
  unfold mt
  rw [dif_pos ⟨h0, h1⟩]
  exact Classical.choose_spec (markT_tells x h0 h1) j hj
noncomputable def marks (c : Int) : List ByteArray → List ByteArray
  | [] => []
  | _ :: tl => mt c :: marks (c + 1) tl
theorem marks_length : ∀ (l : List ByteArray) (c : Int), (marks c l).length = l.length
  | [], c => rfl
  | _ :: tl, c => by rw [marks, List.length_cons, List.length_cons, marks_length tl]
theorem mark_l0 : ∀ (tl pre : List ByteArray) (c : Int) (k : Nat), 0 ≤ c → c + tl.length ≤ 50000000 → pre.length + tl.length ≤ 2000000 → tl.length + 101 ≤ k →
    laws_markStringS.l0 k (pre ++ tl) c (pre.length : Int) = some (c + (tl.length : Int), pre ++ marks c tl)
  | [], pre, c, k, c0, c1, hl, hk => by
    obtain ⟨j, rfl⟩ : ∃ j, k = j + 1 := ⟨k - 1, by simp at hk; omega⟩
    rw [laws_markStringS.l0]
    refine no (by simp) ?_
    simp [marks]
  | y :: tl, pre, c, k, c0, c1, hl, hk => by
    rw [List.length_cons] at c1 hl hk
    obtain ⟨j, rfl⟩ : ∃ j, k = j + 1 := ⟨k - 1, by omega⟩
    have ih := mark_l0 tl (pre ++ [mt c]) (c + 1) j (by omega) (by omega) (by rw [List.length_append]; simp; omega) (by omega)
    have e : (pre ++ y :: tl).set ((pre.length : Int) : Int).toNat (mt c) = pre ++ mt c :: tl := by
      rw [Int.toNat_natCast, List.set_append_right _ _ (Nat.le_refl _), Nat.sub_self]
      rfl
    rw [laws_markStringS.l0]
    refine yes (by rw [List.length_append, List.length_cons]; omega) ?_
    refine bnd (mt_spec (x := c) c0 (by omega) (j := j) (by omega)) ?_
    refine yes (by omega) ?_
    rw [e, wid (x := c + 1) (by omega) (by omega), nxt pre (mt c) (by omega), snoc pre tl (mt c), ih, marks, List.length_cons, List.append_assoc]
    congr 2
    omega
theorem held_l0 : ∀ (tl pre : List ByteArray) (c : Int) (k : Nat), 0 ≤ c → c + tl.length ≤ 50000000 → pre.length + tl.length ≤ 2000000 → tl.length + 101 ≤ k →
    laws_heldStringS.l0 k (pre ++ marks c tl) c (pre.length : Int) = some (c + (tl.length : Int))
  | [], pre, c, k, c0, c1, hl, hk => by
    obtain ⟨j, rfl⟩ : ∃ j, k = j + 1 := ⟨k - 1, by simp at hk; omega⟩
    rw [laws_heldStringS.l0]
    refine no (by simp [marks]) ?_
    simp
  | y :: tl, pre, c, k, c0, c1, hl, hk => by
    rw [List.length_cons] at c1 hl hk
    obtain ⟨j, rfl⟩ : ∃ j, k = j + 1 := ⟨k - 1, by omega⟩
    have ih := held_l0 tl (pre ++ [mt c]) (c + 1) j (by omega) (by omega) (by rw [List.length_append]; simp; omega) (by omega)
    rw [marks, laws_heldStringS.l0]
    refine yes (by rw [List.length_append, List.length_cons]; omega) ?_
    refine yes (by omega) ?_
    refine bnd (mt_spec (x := c) c0 (by omega) (j := j) (by omega)) ?_
    rw [rdo]
    refine yes rfl ?_
    rw [wid (x := c + 1) (by omega) (by omega), nxt pre (mt c) (by omega), snoc pre _ (mt c), ih, List.length_cons]
    congr 1
    omega
theorem markDisk (s : ByteArray) {l : List ByteArray} (hl : l.length ≤ 1048577) {k : Nat} (hk : 2000000 ≤ k) : laws_markDisk.f k s l 1 = some (1 + (l.length : Int), marks 1 l) := by
  unfold laws_markDisk.f
  refine bnd (a := (1 + (l.length : Int), marks 1 l)) ?_ rfl
  unfold laws_markStringS.f
  exact mark_l0 l [] 1 k (by omega) (by omega) (by simp; omega) (by omega)
theorem heldDisk (s : ByteArray) {l : List ByteArray} (hl : l.length ≤ 1048577) {k : Nat} (hk : 2000000 ≤ k) : laws_heldDisk.f k s (marks 1 l) 1 = some (1 + (l.length : Int)) := by
  unfold laws_heldDisk.f
  refine bnd (a := 1 + (l.length : Int)) ?_ (no (by omega) rfl)
  unfold laws_heldStringS.f
  exact held_l0 l [] 1 k (by omega) (by omega) (by simp; omega) (by omega)
theorem copy {s : ByteArray} {l : List ByteArray} (hl : l.length ≤ 1048577) : spec_l06Copy.f s l = some (s, l) := by
  unfold spec_l06Copy.f
  rw [Option.bind_some]
  exact yes (by simp; omega) rfl
end Go.Proofs.Ytahkejppfhonhaa.DiskLoops
