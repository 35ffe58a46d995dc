/- Plain laws: texts that can be put, how they are put and got back; no condition beyond each lemma's own. -/
import Derived.Test.YtahkejppfhonhaaVarGet
import Derived.Test.YtahkejppfhonhaaS0
import Derived.Test.YtahkejppfhonhaaS3
import Derived.Test.YtahkejppfhonhaaS6
import Derived.Test.YtahkejppfhonhaaS7
import Derived.Test.YtahkejppfhonhaaS8
namespace Go.Proofs.Ytahkejppfhonhaa.Texts
open Go.RowKit Go.Proofs.Ytahkejppfhonhaa.S Go.Proofs.YtahkejppfhonhaaW.PrintWords Go.Proofs.Ytahkejppfhonhaa.Cal Go.Proofs.Ytahkejppfhonhaa.Draws Go.Proofs.Ytahkejppfhonhaa.Varint
set_option linter.unusedVariables false
set_option linter.unusedSimpArgs false

/-- From place i on all bytes are 32 to 126. -/
def Shown (s : ByteArray) (i : Int) : Prop := ∀ j : Int, i ≤ j → j < s.size → 32 ≤ bt s j ∧ bt s j ≤ 126
theorem shown_end {s : ByteArray} {i : Int} (h : (s.size : Int) ≤ i) : Shown s i := fun j h1 h2 => by omega
theorem shown_next {s : ByteArray} {i : Int} (h : i < s.size) (a : ¬ bt s i < 32) (b : ¬ bt s i > 126) : Shown s i ↔ Shown s (i + 1) :=
  ⟨fun q j h1 h2 => q j (by omega) h2, fun q j h1 h2 => by
    by_cases e : j = i
    · subst e; omega
    · exact q j (by omega) h2⟩
open Classical in
theorem plain_l0 (s : ByteArray) (hs : s.size ≤ 140737488351232) (n : Nat) : ∀ (k : Nat) (i : Int), 0 ≤ i → i + n = s.size → n < k → spec_l01Plain.l0 k s i = some (decide (Shown s i)) := by
  induction n with
  | zero =>
    intro k i h0 e hk
    obtain ⟨k, rfl⟩ : ∃ j, k = j + 1 := ⟨k - 1, by omega⟩
    simp only [spec_l01Plain.l0]
    rw [if_neg (by omega), decide_eq_true (shown_end (by omega))]
  | succ n ih =>
    intro k i h0 e hk
    obtain ⟨k, rfl⟩ : ∃ j, k = j + 1 := ⟨k - 1, by omega⟩
    simp only [spec_l01Plain.l0]
    rw [if_pos (by omega), if_pos h0]
    by_cases a : bt s i < 32
    · rw [if_pos a, decide_eq_false (fun q => by have := q i (by omega) (by omega); omega)]
    rw [if_neg a]
    by_cases b : bt s i > 126
    · rw [if_pos b, decide_eq_false (fun q => by have := q i (by omega) (by omega); omega)]
    rw [if_neg b, wid (by omega) (by omega), ih k (i + 1) (by omega) (by omega) (by omega)]
    congr 1
    exact decide_eq_decide.2 (shown_next (by omega) a b).symm
open Classical in
theorem isShown_l0 (s : ByteArray) (hs : s.size ≤ 140737488351232) (n : Nat) : ∀ (k : Nat) (i : Int), 0 ≤ i → i + n = s.size → n < k → impl_isShown.l0 k s (s.size : Int) i = some (decide (Shown s i)) := by
  induction n with
  | zero =>
    intro k i h0 e hk
    obtain ⟨k, rfl⟩ : ∃ j, k = j + 1 := ⟨k - 1, by omega⟩
    simp only [impl_isShown.l0]
    rw [if_neg (by omega), decide_eq_true (shown_end (by omega))]
  | succ n ih =>
    intro k i h0 e hk
    obtain ⟨k, rfl⟩ : ∃ j, k = j + 1 := ⟨k - 1, by omega⟩
    simp only [impl_isShown.l0]
    rw [if_pos (by omega), if_pos h0, if_pos (by omega)]
    by_cases a : bt s i < 32
    · rw [if_pos a, decide_eq_false (fun q => by have := q i (by omega) (by omega); omega)]
    rw [if_neg a]
    by_cases b : bt s i > 126
    · rw [if_pos b, decide_eq_false (fun q => by have := q i (by omega) (by omega); omega)]
    rw [if_neg b, wid (by omega) (by omega), ih k (i + 1) (by omega) (by omega) (by omega)]
    congr 1
    exact decide_eq_decide.2 (shown_next (by omega) a b).symm
open Classical in
theorem plain {s : ByteArray} (hs : s.size ≤ 140737488351232) {k : Nat} (hk : s.size < k) : spec_l01Plain.f k s = some (decide (Shown s 0)) := by
  unfold spec_l01Plain.f
  exact plain_l0 s hs s.size k 0 (Int.le_refl 0) (by omega) hk
open Classical in
theorem isShown {s : ByteArray} (hs : s.size ≤ 140737488351232) {k : Nat} (hk : s.size < k) : impl_isShown.f k s = some (decide (Shown s 0)) := by
  unfold impl_isShown.f
  exact isShown_l0 s hs s.size k 0 (Int.le_refl 0) (by omega) hk
/-- Can a text be put? -/
def Puts (s : ByteArray) : Prop := s.size ≤ 200 ∧ Shown s 0
/-- A text as it is put. -/
def put (s : ByteArray) : ByteArray := strOfNums (enc (zig s.size).toNat) ++ s
open Classical in
theorem impl_put {s : ByteArray} (h : Puts s) {k : Nat} (hk : 300 ≤ k) : impl_PutText.f k s = some (put s) := by
  have hl := h.1
  unfold impl_PutText.f
  rw [if_neg (by omega), isShown (by omega) (by omega), decide_eq_true h.2]
  simp only [Option.bind_some, if_true]
  rw [impl_putNum (by omega) (by omega) (by omega)]
  simp only [Option.bind_some]
  have z := zig_range (n := (s.size : Int)) (by omega) (by omega)
  have hp10 : (128 : Nat) ^ 10 = 1180591620717411303424 := by decide
  have := enc_len 10 (zig (s.size : Int)).toNat (by omega) (by omega)
  rw [if_pos (by rw [str_size]; omega)]
  rfl
open Classical in
theorem impl_put_no {s : ByteArray} (h : ¬ Puts s) (hs : s.size ≤ 140737488351232) {k : Nat} (hk : 300 ≤ k) : impl_PutText.f k s = some (⟨#[]⟩ : ByteArray) := by
  unfold impl_PutText.f
  by_cases hl : (s.size : Int) > 200
  · rw [if_pos hl]
  · rw [if_neg hl, isShown (by omega) (by omega), decide_eq_false (fun q => h ⟨by omega, q⟩)]
    simp
open Classical in
theorem spec_put {s : ByteArray} (h : Puts s) {k : Nat} (hk : 300 ≤ k) : spec_PutText.f k s = some (put s) := by
  have hl := h.1
  unfold spec_PutText.f
  rw [if_neg (by omega), plain (by omega) (by omega), decide_eq_true h.2]
  simp only [Option.bind_some, if_true]
  rw [spec_putNum (by omega) (by omega) (by omega)]
  simp only [Option.bind_some]
  have z := zig_range (n := (s.size : Int)) (by omega) (by omega)
  have hp10 : (128 : Nat) ^ 10 = 1180591620717411303424 := by decide
  have := enc_len 10 (zig (s.size : Int)).toNat (by omega) (by omega)
  rw [if_pos (by rw [str_size]; omega)]
  rfl
open Classical in
theorem spec_put_no {s : ByteArray} (h : ¬ Puts s) (hs : s.size ≤ 140737488351232) {k : Nat} (hk : 300 ≤ k) : spec_PutText.f k s = some (⟨#[]⟩ : ByteArray) := by
  unfold spec_PutText.f
  by_cases hl : (s.size : Int) > 200
  · rw [if_pos hl]
  · rw [if_neg hl, plain (by omega) (by omega), decide_eq_false (fun q => h ⟨by omega, q⟩)]
    simp
theorem head_len {n : Int} (h0 : 0 ≤ n) (h1 : n ≤ 200) : 1 ≤ (enc (zig n).toNat).length ∧ (enc (zig n).toNat).length ≤ 2 := by
  have e : (zig n).toNat < 128 ^ 2 := by
    have : (128 : Nat) ^ 2 = 16384 := by decide
    unfold zig
    rw [if_neg (by omega)]
    omega
  have := enc_len 2 (zig n).toNat e (by omega)
  omega
theorem put_size {s : ByteArray} (h : Puts s) : (put s).size = (enc (zig s.size).toNat).length + s.size := by
  unfold put
  rw [app_size, str_size]
theorem put_small {s : ByteArray} (h : Puts s) : s.size + 1 ≤ (put s).size ∧ (put s).size ≤ s.size + 2 := by
  have := head_len (n := (s.size : Int)) (by omega) (by have := h.1; omega)
  rw [put_size h]
  omega
theorem put_ne {s : ByteArray} (h : Puts s) : (put s).toList ≠ [] := by
  intro e
  have h1 := (put_small h).1
  have : (put s).toList.length = (put s).size := by
    rw [ByteArray.toList_eq]
    exact Array.length_toList
  rw [e] at this
  simp at this
  omega
theorem extract_mid (a b c : ByteArray) : (a ++ b ++ c).extract a.size (a.size + b.size) = b := by
  apply ByteArray.ext
  apply Array.ext'
  simp only [ByteArray.data_extract, ByteArray.data_append, Array.toList_extract, Array.toList_append, List.extract_eq_take_drop]
  have e1 : a.size = a.data.toList.length := Array.length_toList.symm
  have e2 : b.size = b.data.toList.length := Array.length_toList.symm
  rw [show a.size + b.size - a.size = b.size by omega, List.append_assoc, e1, List.drop_left, e2, List.take_left]
theorem ext_size (s : ByteArray) (a b : Nat) : (s.extract a b).size = min b s.size - a := ByteArray.size_extract
/-- What was put is got back, wherever it stands. -/
theorem getText {a t c : ByteArray} (h : Puts t) (hs : (a ++ put t ++ c).size ≤ 20000) {k : Nat} (hk : 300 ≤ k) : impl_GetText.f k (a ++ put t ++ c) a.size = some (t, ((a.size + (put t).size : Nat) : Int), 0) := by
  have hz := head_len (n := (t.size : Int)) (by omega) (by have := h.1; omega)
  have hp := put_size h
  have sz : (a ++ put t ++ c).size = a.size + (put t).size + c.size := by rw [app_size, app_size]
  have hat : At (a ++ put t ++ c) a.size (enc (zig t.size).toNat) := by
    have h1 := at_left (l := enc (zig (t.size : Int)).toNat) (enc_byte _) t
    have h2 := (h1.shift a (Int.le_refl 0)).more c (by omega)
    rw [Int.add_zero] at h2
    exact h2
  have g := getNum (s := a ++ put t ++ c) (by omega) (p := a.size) (by omega) (n := t.size) (by omega) (by have := h.1; omega) hat (k := k) (by omega)
  have hl := h.1
  have i1 : impl_in.f (t.size : Int) 0 200 = some true := by
    unfold impl_in.f
    exact yes (by omega) (by rw [decide_eq_true (by omega)])
  have ex : (a ++ put t ++ c).extract (((a.size : Int) + (enc (zig (t.size : Int)).toNat).length)).toNat (((a.size : Int) + (enc (zig (t.size : Int)).toNat).length + t.size)).toNat = t := by
    have e1 : (((a.size : Int) + (enc (zig (t.size : Int)).toNat).length)).toNat = (a ++ strOfNums (enc (zig (t.size : Int)).toNat)).size := by rw [app_size, str_size]; omega
    have e2 : (((a.size : Int) + (enc (zig (t.size : Int)).toNat).length + t.size)).toNat = (a ++ strOfNums (enc (zig (t.size : Int)).toNat)).size + t.size := by rw [app_size, str_size]; omega
    have e3 : a ++ put t ++ c = a ++ strOfNums (enc (zig (t.size : Int)).toNat) ++ t ++ c := by
      unfold put
      rw [← ByteArray.append_assoc (a := a)]
    rw [e1, e2, e3]
    exact extract_mid _ _ _
  have gg : impl_GetNum.f k (a ++ put t ++ c) a.size = some ((t.size : Int), (a.size : Int) + (enc (zig (t.size : Int)).toNat).length, 0) := by
    unfold impl_GetNum.f
    exact no (by omega) (bnd g rfl)
  have w1 : wrap64 ((a.size : Int) + (enc (zig (t.size : Int)).toNat).length + t.size) = (a.size : Int) + (enc (zig (t.size : Int)).toNat).length + t.size := wid (by omega) (by omega)
  have w2 : (a.size : Int) + (enc (zig (t.size : Int)).toNat).length + t.size = ((a.size + (put t).size : Nat) : Int) := by rw [hp]; omega
  have sh : impl_isShown.f k t = some true := by
    classical
    rw [isShown (by omega) (by omega), decide_eq_true h.2]
  unfold impl_GetText.f
  refine bnd gg (yes rfl (bnd i1 (yes rfl (no ?_ (yes ?_ (yes ?_ (yes ?_ (bnd (a := true) ?_ (yes rfl ?_)))))))))
  · show ¬ wrap64 _ > _
    rw [w1]
    omega
  · show 0 ≤ (a.size : Int) + (enc (zig (t.size : Int)).toNat).length
    omega
  · show (a.size : Int) + (enc (zig (t.size : Int)).toNat).length ≤ wrap64 _
    rw [w1]
    omega
  · show wrap64 _ ≤ _
    rw [w1]
    omega
  · show impl_isShown.f k ((a ++ put t ++ c).extract (((a.size : Int) + (enc (zig (t.size : Int)).toNat).length)).toNat (wrap64 ((a.size : Int) + (enc (zig (t.size : Int)).toNat).length + t.size)).toNat) = some true
    rw [w1, ex]
    exact sh
  · show some ((a ++ put t ++ c).extract (((a.size : Int) + (enc (zig (t.size : Int)).toNat).length)).toNat (wrap64 ((a.size : Int) + (enc (zig (t.size : Int)).toNat).length + t.size)).toNat, wrap64 ((a.size : Int) + (enc (zig (t.size : Int)).toNat).length + t.size), (0 : Int)) = _
    rw [w1, ex, w2]

/-! drawn texts -/
theorem draw_name_l0 (b : List Int) (sz : Int) (hb : b.length ≤ 140737488351232) (n : Nat) : ∀ (k : Nat) (t : ByteArray) (i a m : Int), i = n → n < k → t.size + n ≤ 1000000 → 0 ≤ a →
    ∃ (r : ByteArray) (a' m' : Int), (∀ k', k ≤ k' → spec_l01Src_name.l0 k' t i b a m sz = some (r, a', m', sz)) ∧ r.size = t.size + n ∧ 0 ≤ a' := by
  induction n with
  | zero =>
    intro k t i a m hi hk ht ha
    refine ⟨t, a, m, fun k' hk' => ?_, rfl, ha⟩
    obtain ⟨k', rfl⟩ : ∃ j, k' = j + 1 := ⟨k' - 1, by omega⟩
    simp only [spec_l01Src_name.l0]
    rw [if_neg (by omega)]
  | succ n ih =>
    intro k t i a m hi hk ht ha
    obtain ⟨j, a1, m1, e1, j0, j1, g1⟩ := draw_n b m sz (most := 10) hb ha (by omega)
    have j1' := j1 (by omega)
    obtain ⟨r, a2, m2, e2, r2, g2⟩ := ih (k - 1) (t ++ strOfNums [bt (⟨#[97, 98, 99, 100, 101, 102, 48, 49, 57, 45]⟩ : ByteArray) j]) (i - 1) a1 m1 (by omega) (by omega) (by rw [app_size, str_size]; simp; omega) g1
    refine ⟨r, a2, m2, fun k' hk' => ?_, by rw [r2, app_size, str_size]; simp; omega, g2⟩
    obtain ⟨k', rfl⟩ : ∃ j, k' = j + 1 := ⟨k' - 1, by omega⟩
    simp only [spec_l01Src_name.l0]
    rw [if_pos (by omega), e1]
    simp only [Option.bind_some]
    rw [if_pos j0, if_pos j1', if_pos (by rw [str_size]; simp; omega), wid (by omega) (by omega)]
    exact e2 k' (by omega)
theorem draw_name (b : List Int) {at_ : Int} (mx sz : Int) (hb : b.length ≤ 140737488351232) (ha : 0 ≤ at_) :
    ∃ (r : ByteArray) (a' m' : Int), (∀ k, 10 ≤ k → spec_l01Src_name.f k b at_ mx sz = some (r, a', m', sz)) ∧ r.size ≤ 4 ∧ 0 ≤ a' := by
  obtain ⟨j, a1, m1, e1, j0, j1, g1⟩ := draw_n b mx sz (most := 6) hb ha (by omega)
  obtain ⟨p, a2, m2, e2, p0, p1, g2⟩ := draw_n b m1 sz (most := 4) hb g1 (by omega)
  have p1' := p1 (by omega)
  obtain ⟨r, a3, m3, e3, r3, g3⟩ := draw_name_l0 b sz hb p.toNat 10 (strOfNums [(wrap64 (97 + j)) % 256]) p a2 m2 (by omega) (by omega) (by rw [str_size]; simp; omega) g2
  refine ⟨r, a3, m3, fun k hk => ?_, by rw [r3, str_size]; simp; omega, g3⟩
  unfold spec_l01Src_name.f
  rw [e1]
  simp only [Option.bind_some]
  rw [e2]
  simp only [Option.bind_some]
  exact e3 k hk
theorem draw_spoil (b : List Int) {at_ : Int} (mx sz : Int) (t : ByteArray) (hb : b.length ≤ 140737488351232) (ha : 0 ≤ at_) (ht : t.size ≤ 140737488351232) :
    ∃ (r : ByteArray) (a' m' : Int), (∀ k, 10 ≤ k → spec_l01Src_spoil.f k b at_ mx sz t = some (r, a', m', sz)) ∧ r.size ≤ t.size + 1 ∧ 0 ≤ a' := by
  obtain ⟨i, a1, m1, e1, i0, i1, g1⟩ := draw_n b mx sz (most := (t.size : Int) + 1) hb ha (by omega)
  have i1' := i1 (by omega)
  obtain ⟨j, a2, m2, e2, j0, j1, g2⟩ := draw_n b m1 sz (most := 17) hb g1 (by omega)
  have j1' := j1 (by omega)
  generalize hc : strOfNums [bt (⟨#[32, 10, 48, 97, 45, 110, 44, 58, 93, 255, 40, 120, 126, 49, 128, 225, 59]⟩ : ByteArray) j] = c
  have hcs : c.size = 1 := by rw [← hc, str_size]; rfl
  have s1 : (t.extract 0 i.toNat).size = i.toNat := by rw [ext_size]; omega
  have s2 : (t.extract i.toNat t.size).size = t.size - i.toNat := by rw [ext_size]; omega
  have ins : ∀ (k : Nat) (a m : Int), 1 ≤ k → spec_l01Src_spoil.j0 k t i c true b a m sz = some (t.extract 0 i.toNat ++ c ++ t.extract i.toNat t.size, a, m, sz) := by
    intro k a m hk
    obtain ⟨k, rfl⟩ : ∃ j, k = j + 1 := ⟨k - 1, by omega⟩
    simp only [spec_l01Src_spoil.j0]
    rw [if_pos trivial, if_pos i0, if_pos (by omega), if_pos (by omega), if_pos (by rw [app_size]; omega)]
  have sins : (t.extract 0 i.toNat ++ c ++ t.extract i.toNat t.size).size ≤ t.size + 1 := by rw [app_size, app_size]; omega
  have start : ∀ k, spec_l01Src_spoil.f k b at_ mx sz t = if i = (t.size : Int) then spec_l01Src_spoil.j0 k t i c true b a2 m2 sz else ((spec_l01Src_one.f b a2 m2 sz 3).bind fun bt211 => spec_l01Src_spoil.j0 k t i c bt211.1 b bt211.2.1 bt211.2.2.1 bt211.2.2.2) := by
    intro k
    unfold spec_l01Src_spoil.f
    rw [wid (by omega) (by omega), e1]
    simp only [Option.bind_some]
    rw [e2]
    simp only [Option.bind_some]
    rw [if_pos j0, if_pos j1', hc]
  by_cases q : i = (t.size : Int)
  · refine ⟨_, a2, m2, fun k hk => ?_, sins, g2⟩
    rw [start k, if_pos q]
    exact ins k a2 m2 (by omega)
  · obtain ⟨o, a3, m3, e3, g3⟩ := draw_one b m2 sz (most := 3) hb g2 (by omega)
    cases o with
    | true =>
      refine ⟨_, a3, m3, fun k hk => ?_, sins, g3⟩
      rw [start k, if_neg q, e3]
      exact ins k a3 m3 (by omega)
    | false =>
      obtain ⟨o2, a4, m4, e4, g4⟩ := draw_one b m3 sz (most := 2) hb g3 (by omega)
      have s3 : (t.extract (i + 1).toNat t.size).size = t.size - (i + 1).toNat := by rw [ext_size]; omega
      cases o2 with
      | true =>
        refine ⟨t.extract 0 i.toNat ++ t.extract (i + 1).toNat t.size, a4, m4, fun k hk => ?_, by rw [app_size]; omega, g4⟩
        obtain ⟨k, rfl⟩ : ∃ j, k = j + 1 := ⟨k - 1, by omega⟩
        rw [start, if_neg q, e3]
        simp only [Option.bind_some, spec_l01Src_spoil.j0]
        rw [if_neg (by decide), e4]
        simp only [Option.bind_some]
        rw [if_pos trivial, wid (x := i + 1) (by omega) (by omega), if_pos i0, if_pos (by omega), if_pos (by omega), if_pos (by omega), if_pos (by omega)]
      | false =>
        refine ⟨t.extract 0 i.toNat ++ c ++ t.extract (i + 1).toNat t.size, a4, m4, fun k hk => ?_, by rw [app_size, app_size]; omega, g4⟩
        obtain ⟨k, rfl⟩ : ∃ j, k = j + 1 := ⟨k - 1, by omega⟩
        rw [start, if_neg q, e3]
        simp only [Option.bind_some, spec_l01Src_spoil.j0]
        rw [if_neg (by decide), e4]
        simp only [Option.bind_some]
        rw [if_neg (by decide), wid (x := i + 1) (by omega) (by omega), if_pos i0, if_pos (by omega), if_pos (by omega), if_pos (by omega), if_pos (by omega), if_pos (by rw [app_size]; omega)]
theorem draw_xs (n : Nat) : ∀ (k : Nat) (l : List Int) (i : Int), 0 ≤ i → i + n = l.length → l.length ≤ 1000 → n < k → ∃ r : ByteArray, (∀ k', k ≤ k' → spec_DrawPutText.l0 k' l i = some r) ∧ r.size = l.length := by
  induction n with
  | zero =>
    intro k l i h0 e hl hk
    refine ⟨strOfNums l, fun k' hk' => ?_, str_size l⟩
    obtain ⟨k', rfl⟩ : ∃ j, k' = j + 1 := ⟨k' - 1, by omega⟩
    simp only [spec_DrawPutText.l0]
    rw [if_neg (by omega)]
  | succ n ih =>
    intro k l i h0 e hl hk
    obtain ⟨r, h1, h2⟩ := ih (k - 1) (l.set i.toNat 120) (i + 1) (by omega) (by simp; omega) (by simpa using hl) (by omega)
    refine ⟨r, fun k' hk' => ?_, by simpa using h2⟩
    obtain ⟨k', rfl⟩ : ∃ j, k' = j + 1 := ⟨k' - 1, by omega⟩
    simp only [spec_DrawPutText.l0]
    rw [if_pos (by omega), if_pos h0, wid (by omega) (by omega)]
    exact h1 k' (by omega)
theorem draw_putText (b : List Int) (hb : b.length ≤ 140737488351232) : ∃ t : ByteArray, (∀ k, 400 ≤ k → spec_DrawPutText.f k b = some t) ∧ t.size ≤ 1000 := by
  obtain ⟨m0, sz, e0, _, _⟩ := source b hb
  obtain ⟨o, a1, m1, e1, g1⟩ := draw_one b m0 sz (most := 8) hb (Int.le_refl 0) (by omega)
  cases o with
  | true =>
    obtain ⟨j, a2, m2, e2, j0, j1, g2⟩ := draw_n b m1 sz (most := 4) hb g1 (by omega)
    have j1' := j1 (by omega)
    obtain ⟨r, h1, h2⟩ := draw_xs (199 + j).toNat 300 (List.replicate (199 + j).toNat 0) 0 (Int.le_refl 0) (by simp) (by simp; omega) (by omega)
    refine ⟨r, fun k hk => ?_, by rw [h2]; simp; omega⟩
    have w1 : wrap64 (199 + j) = 199 + j := wid (by omega) (by omega)
    unfold spec_DrawPutText.f
    refine bnd (e0 k (by omega)) (bnd e1 (yes rfl (bnd e2 (yes ?_ (yes ?_ ?_)))))
    · show 0 ≤ wrap64 (199 + j)
      omega
    · show (wrap64 (199 + j)).toNat ≤ 281474976710656
      omega
    · show spec_DrawPutText.l0 k (List.replicate (wrap64 (199 + j)).toNat 0) 0 = some r
      rw [w1]
      exact h1 k (by omega)
  | false =>
    obtain ⟨t, a2, m2, e2, ht, g2⟩ := draw_name b m1 sz hb g1
    obtain ⟨o2, a3, m3, e3, g3⟩ := draw_one b m2 sz (most := 3) hb g2 (by omega)
    cases o2 with
    | true =>
      obtain ⟨r, a4, m4, e4, hr, g4⟩ := draw_spoil b m3 sz t hb g3 (by omega)
      refine ⟨r, fun k hk => ?_, by omega⟩
      unfold spec_DrawPutText.f
      exact bnd (e0 k (by omega)) (bnd e1 (no Bool.false_ne_true (bnd (e2 k (by omega)) (bnd e3 (yes rfl (bnd (e4 k (by omega)) rfl))))))
    | false =>
      refine ⟨t, fun k hk => ?_, by omega⟩
      unfold spec_DrawPutText.f
      exact bnd (e0 k (by omega)) (bnd e1 (no Bool.false_ne_true (bnd (e2 k (by omega)) (bnd e3 (no Bool.false_ne_true rfl)))))
end Go.Proofs.Ytahkejppfhonhaa.Texts
