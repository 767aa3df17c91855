/-
  Proved here: for all lists of texts l0, l1 (lengths and sizes that fit an int) and all numbers a2, a3, a4, with enough rounds the printed function of the law laws.FnExactInputOk answers true. Condition: each list's length and each text's size is at most 2^63 - 1. Plain lists and numbers, no memory.
-/
import Derived.Test.YtibjgebipghbpaaPFnExactInputOkx1
import Derived.Test.YtibjgebipghbpaaPFnExactInputOkx2
import Derived.Test.YtibjgebipghbpaaPFnExactInputOkx3
import Derived.Test.YtibjgebipghbpaaPFnExactInputOkx4
namespace Go.Proofs.Ytibjgebipghbpaa.PureInputOk
open Go.RowKit Go.Proofs.Ytibjgebipghbpaa.PFnExactInputOk Go.Proofs.YtibjgebipghbpaaW.PrintWords Go.Proofs.YtibjgebipghbpaaW.PrintLast

abbrev Top : Nat := 9223372036854775807
theorem top_is : Top = 9223372036854775807 := rfl

theorem wrap_in {x : Int} (h0 : -9223372036854775808 ≤ x) (h1 : x ≤ 9223372036854775807) : wrap64 x = x := by
  unfold wrap64
  omega

theorem rd_mem {xs : List ByteArray} {i : Nat} (h : i < xs.length) : rdOf ByteArray.empty xs (i : Int) = xs[i] := by
  unfold rdOf
  rw [List.getD_eq_getElem?_getD, Int.toNat_natCast, List.getElem?_eq_getElem h]
  rfl

/-! ### how much is left of the bound -/

theorem sz_loop (xs : List ByteArray) (hl : xs.length ≤ Top) (hs : ∀ s ∈ xs, s.size ≤ Top) (d : Nat) : ∀ (k i : Nat) (a : Int), i ≤ xs.length → xs.length - i = d → d < k → 0 ≤ a → a ≤ 1048576 →
    ∃ r, laws_szStringS.l0 k xs a (i : Int) = some r ∧ r ≤ 1048576 := by
  induction d with
  | zero =>
    intro k i a h0 h1 hk ha hb
    obtain ⟨k, rfl⟩ : ∃ m, k = m + 1 := ⟨k - 1, by omega⟩
    refine ⟨a, ?_, hb⟩
    simp only [laws_szStringS.l0]
    rw [if_neg (by omega)]
  | succ d ih =>
    intro k i a h0 h1 hk ha hb
    obtain ⟨k, rfl⟩ : ∃ m, k = m + 1 := ⟨k - 1, by omega⟩
    have hi : i < xs.length := by omega
    have hsz : (xs[i]).size ≤ 9223372036854775807 := hs _ (List.getElem_mem hi)
    have htop : xs.length ≤ 9223372036854775807 := hl
    have hw1 : wrap64 (a - ((xs[i]).size : Int)) = a - ((xs[i]).size : Int) := wrap_in (by omega) (by omega)
    have hw2 : wrap64 ((i : Int) + 1) = ((i + 1 : Nat) : Int) := by rw [wrap_in (by omega) (by omega)]; omega
    simp only [laws_szStringS.l0]
    rw [if_pos (by omega), if_pos (by omega), rd_mem hi, hw1, hw2]
    by_cases hneg : a - ((xs[i]).size : Int) < 0
    · exact ⟨-1, by rw [if_pos hneg], by omega⟩
    · obtain ⟨r, hr, hr2⟩ := ih k (i + 1) (a - ((xs[i]).size : Int)) (by omega) (by omega) (by omega) (by omega) (by omega)
      exact ⟨r, by rw [if_neg hneg]; exact hr, hr2⟩

theorem sz_list (xs : List ByteArray) (hl : xs.length ≤ Top) (hs : ∀ s ∈ xs, s.size ≤ Top) (k : Nat) (a : Int) (hk : xs.length < k) (ha : 0 ≤ a) (hb : a ≤ 1048576) :
    ∃ r, laws_szStringS.f k xs a = some r ∧ r ≤ 1048576 ∧ (0 ≤ r → xs.length ≤ 1048576) := by
  have htop : xs.length ≤ 9223372036854775807 := hl
  unfold laws_szStringS.f
  rw [wrap_in (x := a - (xs.length : Int)) (by omega) (by omega)]
  by_cases hneg : a - (xs.length : Int) < 0
  · exact ⟨-1, by rw [if_pos hneg], by omega, by omega⟩
  · obtain ⟨r, hr, hr2⟩ := sz_loop xs hl hs xs.length k 0 (a - (xs.length : Int)) (by omega) (by omega) hk (by omega) (by omega)
    exact ⟨r, by rw [if_neg hneg]; exact hr, hr2, fun _ => by omega⟩

theorem sz_input (l0 l1 : List ByteArray) (h0 : l0.length ≤ Top) (h1 : l1.length ≤ Top) (s0 : ∀ s ∈ l0, s.size ≤ Top) (s1 : ∀ s ∈ l1, s.size ≤ Top) (k : Nat) (hk0 : l0.length < k) (hk1 : l1.length < k) (a2 a3 a4 : Int) :
    ∃ r, laws_szInput.f k l0 l1 a2 a3 a4 1048576 = some r ∧ (0 ≤ r → l0.length ≤ 1048576 ∧ l1.length ≤ 1048576) := by
  obtain ⟨r, hr, hle, hr2⟩ := sz_list l0 h0 s0 k 1048576 hk0 (by omega) (by omega)
  unfold laws_szInput.f
  rw [hr]
  simp only [Option.bind_some]
  by_cases hneg : r < 0
  · exact ⟨-1, by rw [if_pos hneg], by omega⟩
  · obtain ⟨q, hq, hqe, hq2⟩ := sz_list l1 h1 s1 k r hk1 (by omega) hle
    rw [if_neg hneg, hq]
    simp only [Option.bind_some]
    by_cases hneg2 : q < 0
    · exact ⟨-1, by rw [if_pos hneg2], by omega⟩
    · exact ⟨q, by rw [if_neg hneg2], fun h => ⟨hr2 (by omega), hq2 h⟩⟩

/-! ### the copy -/

theorem copy_loop (xs : List ByteArray) (hl : xs.length ≤ Top) (d : Nat) : ∀ (k i : Nat) (ys : List ByteArray), i ≤ xs.length → xs.length - i = d → d < k → ys.length = xs.length →
    (∀ j, j < i → ys[j]? = xs[j]?) → laws_toStringS.l0 k xs ys (i : Int) = some xs := by
  induction d with
  | zero =>
    intro k i ys h0 h1 hk hy hj
    obtain ⟨k, rfl⟩ : ∃ m, k = m + 1 := ⟨k - 1, by omega⟩
    simp only [laws_toStringS.l0]
    rw [if_neg (by omega)]
    congr 1
    refine List.ext_getElem? fun j => ?_
    rcases Nat.lt_or_ge j i with h | h
    · exact hj j h
    · rw [List.getElem?_eq_none (by omega), List.getElem?_eq_none (by omega)]
  | succ d ih =>
    intro k i ys h0 h1 hk hy hj
    obtain ⟨k, rfl⟩ : ∃ m, k = m + 1 := ⟨k - 1, by omega⟩
    have hi : i < xs.length := by omega
    have htop : xs.length ≤ 9223372036854775807 := hl
    have hw2 : wrap64 ((i : Int) + 1) = ((i + 1 : Nat) : Int) := by rw [wrap_in (by omega) (by omega)]; omega
    simp only [laws_toStringS.l0]
    rw [if_pos (by omega), if_pos (by omega), if_pos (by omega), rd_mem hi, hw2, Int.toNat_natCast]
    refine ih k (i + 1) _ (by omega) (by omega) (by omega) (by rw [List.length_set, hy]) (fun j hj' => ?_)
    rw [List.getElem?_set]
    by_cases h : i = j
    · subst h
      rw [if_pos rfl, if_pos (by omega), List.getElem?_eq_getElem hi]
    · rw [if_neg h]
      exact hj j (by omega)

theorem copy_list (xs : List ByteArray) (hl : xs.length ≤ 1048576) (k : Nat) (hk : xs.length < k) : laws_toStringS.f k xs = some xs := by
  unfold laws_toStringS.f
  rw [if_pos (by omega), if_pos (by rw [Int.toNat_natCast]; omega)]
  exact copy_loop xs (by rw [top_is]; omega) xs.length k 0 _ (by omega) (by omega) hk (by rw [List.length_replicate, Int.toNat_natCast]) (fun j hj => by omega)

theorem copy_input (l0 l1 : List ByteArray) (h0 : l0.length ≤ 1048576) (h1 : l1.length ≤ 1048576) (k : Nat) (hk0 : l0.length < k) (hk1 : l1.length < k) (a2 a3 a4 : Int) :
    laws_toInput.f k l0 l1 a2 a3 a4 = some (l0, l1, a2, a3, a4) := by
  unfold laws_toInput.f
  rw [copy_list l0 h0 k hk0]
  simp only [Option.bind_some]
  rw [copy_list l1 h1 k hk1]
  rfl

/-! ### what both sides answer -/

/-- From place i on no text is longer than 4000 bytes. -/
def shortFrom (xs : List ByteArray) (i : Nat) : Bool := (xs.drop i).all fun s => decide (s.size ≤ 4000)
theorem shortFrom_end {xs : List ByteArray} {i : Nat} (h : xs.length ≤ i) : shortFrom xs i = true := by
  unfold shortFrom
  rw [List.drop_of_length_le h]
  rfl
theorem shortFrom_step {xs : List ByteArray} {i : Nat} (h : i < xs.length) : shortFrom xs i = (decide ((xs[i]).size ≤ 4000) && shortFrom xs (i + 1)) := by
  unfold shortFrom
  rw [List.drop_eq_getElem_cons h, List.all_cons]
theorem shortFrom_append (xs ys : List ByteArray) : shortFrom (xs ++ ys) 0 = (shortFrom xs 0 && shortFrom ys 0) := by
  unfold shortFrom
  rw [List.drop_zero, List.drop_zero, List.drop_zero, List.all_append]

/-- The numbers are in their bounds. -/
def nums (a2 a3 a4 : Int) : Bool := decide (0 ≤ a2) && (decide (a2 ≤ 5000) && (decide (1 ≤ a3) && (decide (a3 ≤ 60) && (decide (0 ≤ a4) && decide (a4 ≤ 20000)))))
/-- The answer. -/
def good (l0 l1 : List ByteArray) (a2 a3 a4 : Int) : Bool := decide (l0.length ≤ 200) && (decide (l1.length ≤ 200) && (shortFrom l0 0 && (shortFrom l1 0 && nums a2 a3 a4)))

theorem spec_loop1 (xs : List ByteArray) (hl : xs.length ≤ Top) (l0 l1 : List ByteArray) (a2 a3 a4 : Int) (d : Nat) : ∀ (k i : Nat), i ≤ xs.length → xs.length - i = d → d < k →
    spec_l44InputOk.l1 k xs (xs.length : Int) (i : Int) l0 l1 a2 a3 a4 = some (shortFrom xs i && nums a2 a3 a4) := by
  induction d with
  | zero =>
    intro k i h0 h1 hk
    obtain ⟨k, rfl⟩ : ∃ m, k = m + 1 := ⟨k - 1, by omega⟩
    simp only [spec_l44InputOk.l1]
    rw [if_neg (by omega), shortFrom_end (by omega), Bool.true_and]
    unfold nums
    by_cases c1 : a2 ≥ 0
    · rw [if_pos c1, decide_eq_true (p := 0 ≤ a2) c1, Bool.true_and]
      by_cases c2 : a2 ≤ 5000
      · rw [if_pos c2, decide_eq_true (p := a2 ≤ 5000) c2, Bool.true_and]
        by_cases c3 : a3 ≥ 1
        · rw [if_pos c3, decide_eq_true (p := 1 ≤ a3) c3, Bool.true_and]
          by_cases c4 : a3 ≤ 60
          · rw [if_pos c4, decide_eq_true (p := a3 ≤ 60) c4, Bool.true_and]
            by_cases c5 : a4 ≥ 0
            · rw [if_pos c5, decide_eq_true (p := 0 ≤ a4) c5, Bool.true_and]
            · rw [if_neg c5, decide_eq_false (p := 0 ≤ a4) c5, Bool.false_and]
          · rw [if_neg c4, decide_eq_false (p := a3 ≤ 60) c4, Bool.false_and]
        · rw [if_neg c3, decide_eq_false (p := 1 ≤ a3) c3, Bool.false_and]
      · rw [if_neg c2, decide_eq_false (p := a2 ≤ 5000) c2, Bool.false_and]
    · rw [if_neg c1, decide_eq_false (p := 0 ≤ a2) c1, Bool.false_and]
  | succ d ih =>
    intro k i h0 h1 hk
    obtain ⟨k, rfl⟩ : ∃ m, k = m + 1 := ⟨k - 1, by omega⟩
    have hi : i < xs.length := by omega
    have htop : xs.length ≤ 9223372036854775807 := hl
    have hw2 : wrap64 ((i : Int) + 1) = ((i + 1 : Nat) : Int) := by rw [wrap_in (by omega) (by omega)]; omega
    simp only [spec_l44InputOk.l1]
    rw [if_pos (by omega), if_pos (by omega), if_pos (by omega), rd_mem hi, hw2, shortFrom_step hi]
    by_cases c : (xs[i]).size ≤ 4000
    · rw [if_neg (by omega), decide_eq_true c, Bool.true_and]
      exact ih k (i + 1) (by omega) (by omega) (by omega)
    · rw [if_pos (by omega), decide_eq_false c, Bool.false_and, Bool.false_and]

theorem spec_loop0 (xs : List ByteArray) (hl : xs.length ≤ Top) (l0 l1 : List ByteArray) (hl1 : l1.length ≤ Top) (a2 a3 a4 : Int) (d : Nat) : ∀ (k i : Nat), i ≤ xs.length → xs.length - i = d → d + l1.length + 1 < k →
    spec_l44InputOk.l0 k xs (xs.length : Int) (i : Int) l0 l1 a2 a3 a4 = some (shortFrom xs i && (shortFrom l1 0 && nums a2 a3 a4)) := by
  induction d with
  | zero =>
    intro k i h0 h1 hk
    obtain ⟨k, rfl⟩ : ∃ m, k = m + 1 := ⟨k - 1, by omega⟩
    simp only [spec_l44InputOk.l0]
    rw [if_neg (by omega), shortFrom_end (by omega), Bool.true_and]
    exact spec_loop1 l1 hl1 l0 l1 a2 a3 a4 l1.length k 0 (by omega) (by omega) (by omega)
  | succ d ih =>
    intro k i h0 h1 hk
    obtain ⟨k, rfl⟩ : ∃ m, k = m + 1 := ⟨k - 1, by omega⟩
    have hi : i < xs.length := by omega
    have htop : xs.length ≤ 9223372036854775807 := hl
    have hw2 : wrap64 ((i : Int) + 1) = ((i + 1 : Nat) : Int) := by rw [wrap_in (by omega) (by omega)]; omega
    simp only [spec_l44InputOk.l0]
    rw [if_pos (by omega), if_pos (by omega), if_pos (by omega), rd_mem hi, hw2, shortFrom_step hi]
    by_cases c : (xs[i]).size ≤ 4000
    · rw [if_neg (by omega), decide_eq_true c, Bool.true_and]
      exact ih k (i + 1) (by omega) (by omega) (by omega)
    · rw [if_pos (by omega), decide_eq_false c, Bool.false_and, Bool.false_and]

theorem spec_ok (l0 l1 : List ByteArray) (h0 : l0.length ≤ 1048576) (h1 : l1.length ≤ 1048576) (k : Nat) (hk : l0.length + l1.length + 2 < k) (a2 a3 a4 : Int) :
    spec_InputOk.f k l0 l1 a2 a3 a4 = some (good l0 l1 a2 a3 a4) := by
  have e : spec_l44InputOk.f k l0 l1 a2 a3 a4 = some (good l0 l1 a2 a3 a4) := by
    obtain ⟨k, rfl⟩ : ∃ m, k = m + 1 := ⟨k - 1, by omega⟩
    unfold spec_l44InputOk.f good
    simp only [spec_l44InputOk.j0]
    by_cases c0 : l0.length ≤ 200
    · rw [if_neg (by omega), decide_eq_true c0, Bool.true_and]
      by_cases c1 : l1.length ≤ 200
      · rw [decide_eq_false (p := (l1.length : Int) > 200) (by omega), if_neg (by decide), decide_eq_true c1, Bool.true_and]
        exact spec_loop0 l0 (by rw [top_is]; omega) l0 l1 (by rw [top_is]; omega) a2 a3 a4 l0.length k 0 (by omega) (by omega) (by omega)
      · rw [decide_eq_true (p := (l1.length : Int) > 200) (by omega), if_pos rfl, decide_eq_false c1, Bool.false_and]
    · rw [if_pos (by omega), if_pos trivial, decide_eq_false c0, Bool.false_and]
  unfold spec_InputOk.f
  rw [e]
  rfl

theorem impl_loop (xs : List ByteArray) (hl : xs.length ≤ Top) (d : Nat) : ∀ (k i : Nat), i ≤ xs.length → xs.length - i = d → d < k →
    impl_InputOk.l0 k xs (xs.length : Int) (i : Int) = some (shortFrom xs i) := by
  induction d with
  | zero =>
    intro k i h0 h1 hk
    obtain ⟨k, rfl⟩ : ∃ m, k = m + 1 := ⟨k - 1, by omega⟩
    simp only [impl_InputOk.l0]
    rw [if_neg (by omega), shortFrom_end (by omega)]
  | succ d ih =>
    intro k i h0 h1 hk
    obtain ⟨k, rfl⟩ : ∃ m, k = m + 1 := ⟨k - 1, by omega⟩
    have hi : i < xs.length := by omega
    have htop : xs.length ≤ 9223372036854775807 := hl
    have hw2 : wrap64 ((i : Int) + 1) = ((i + 1 : Nat) : Int) := by rw [wrap_in (by omega) (by omega)]; omega
    simp only [impl_InputOk.l0]
    rw [if_pos (by omega), if_pos (by omega), if_pos (by omega), rd_mem hi, hw2, shortFrom_step hi]
    by_cases c : (xs[i]).size ≤ 4000
    · rw [if_neg (by omega), decide_eq_true c, Bool.true_and]
      exact ih k (i + 1) (by omega) (by omega) (by omega)
    · rw [if_pos (by omega), decide_eq_false c, Bool.false_and]

theorem impl_join_no (k : Nat) (l0 l1 : List ByteArray) (a2 a3 a4 : Int) : impl_InputOk.j0 (k + 1) true l0 l1 a2 a3 a4 = some false := by
  simp only [impl_InputOk.j0]
  rw [if_pos trivial]

theorem impl_join_yes (k : Nat) (l0 l1 : List ByteArray) (h0 : l0.length ≤ 200) (h1 : l1.length ≤ 200) (hk : l0.length + l1.length < k) (a2 a3 a4 : Int) :
    impl_InputOk.j0 (k + 1) false l0 l1 a2 a3 a4 = some (shortFrom l0 0 && shortFrom l1 0) := by
  simp only [impl_InputOk.j0]
  rw [if_neg (by decide)]
  simp only [Option.bind_some, List.nil_append, List.length_nil]
  rw [if_pos (by omega), if_pos (by omega), ← shortFrom_append]
  have hl : (l0 ++ l1).length = l0.length + l1.length := List.length_append
  exact impl_loop (l0 ++ l1) (by rw [top_is]; omega) (l0 ++ l1).length k 0 (by omega) (by omega) (by omega)

theorem impl_ok (l0 l1 : List ByteArray) (k : Nat) (hk : l0.length + l1.length + 2 < k) (a2 a3 a4 : Int) :
    impl_InputOk.f k l0 l1 a2 a3 a4 = some (good l0 l1 a2 a3 a4) := by
  obtain ⟨k, rfl⟩ : ∃ m, k = m + 1 := ⟨k - 1, by omega⟩
  unfold impl_InputOk.f good nums
  by_cases c0 : l0.length ≤ 200
  · rw [if_neg (by omega), decide_eq_true c0, Bool.true_and]
    by_cases c1 : l1.length ≤ 200
    · rw [if_neg (by omega), decide_eq_true c1, Bool.true_and]
      by_cases d1 : 0 ≤ a2
      · rw [if_neg (by omega), decide_eq_true d1, Bool.true_and]
        by_cases d2 : a2 ≤ 5000
        · rw [if_neg (by omega), decide_eq_true d2, Bool.true_and]
          by_cases d3 : 1 ≤ a3
          · rw [if_neg (by omega), decide_eq_true d3, Bool.true_and]
            by_cases d4 : a3 ≤ 60
            · rw [if_neg (by omega), decide_eq_true d4, Bool.true_and]
              by_cases d5 : 0 ≤ a4
              · rw [if_neg (by omega), decide_eq_true d5, Bool.true_and]
                by_cases d6 : a4 ≤ 20000
                · rw [decide_eq_false (p := a4 > 20000) (by omega), impl_join_yes k l0 l1 c0 c1 (by omega), decide_eq_true d6, Bool.and_true]
                · rw [decide_eq_true (p := a4 > 20000) (by omega), impl_join_no, decide_eq_false d6, Bool.and_false, Bool.and_false]
              · rw [if_pos (by omega), impl_join_no, decide_eq_false d5, Bool.false_and, Bool.and_false, Bool.and_false]
            · rw [if_pos (by omega), impl_join_no, decide_eq_false d4, Bool.false_and, Bool.and_false, Bool.and_false]
          · rw [if_pos (by omega), impl_join_no, decide_eq_false d3, Bool.false_and, Bool.and_false, Bool.and_false]
        · rw [if_pos (by omega), impl_join_no, decide_eq_false d2, Bool.false_and, Bool.and_false, Bool.and_false]
      · rw [if_pos (by omega), impl_join_no, decide_eq_false d1, Bool.false_and, Bool.and_false, Bool.and_false]
    · rw [if_pos (by omega), impl_join_no, decide_eq_false c1, Bool.false_and]
  · rw [if_pos (by omega), impl_join_no, decide_eq_false c0, Bool.false_and]

/-! ### the comparison of two equal lists -/

theorem eq_loop (xs : List ByteArray) (hl : xs.length ≤ Top) (d : Nat) : ∀ (k i : Nat), i ≤ xs.length → xs.length - i = d → d < k →
    laws_eqStringS.l0 k xs xs (i : Int) = some true := by
  induction d with
  | zero =>
    intro k i h0 h1 hk
    obtain ⟨k, rfl⟩ : ∃ m, k = m + 1 := ⟨k - 1, by omega⟩
    simp only [laws_eqStringS.l0]
    rw [if_neg (by omega)]
  | succ d ih =>
    intro k i h0 h1 hk
    obtain ⟨k, rfl⟩ : ∃ m, k = m + 1 := ⟨k - 1, by omega⟩
    have hi : i < xs.length := by omega
    have htop : xs.length ≤ 9223372036854775807 := hl
    have hw2 : wrap64 ((i : Int) + 1) = ((i + 1 : Nat) : Int) := by rw [wrap_in (by omega) (by omega)]; omega
    simp only [laws_eqStringS.l0]
    rw [if_pos (by omega), if_pos (by omega), if_pos (by omega), if_pos trivial, hw2]
    exact ih k (i + 1) (by omega) (by omega) (by omega)

theorem eq_list (xs : List ByteArray) (hl : xs.length ≤ Top) (k : Nat) (hk : xs.length < k) : laws_eqStringS.f k xs xs = some true := by
  unfold laws_eqStringS.f
  rw [if_pos rfl]
  exact eq_loop xs hl xs.length k 0 (by omega) (by omega) hk

theorem eq_input (l0 l1 : List ByteArray) (h0 : l0.length ≤ Top) (h1 : l1.length ≤ Top) (k : Nat) (hk0 : l0.length < k) (hk1 : l1.length < k) (a2 a3 a4 : Int) :
    laws_eqInput.f k l0 l1 a2 a3 a4 l0 l1 a2 a3 a4 = some true := by
  unfold laws_eqInput.f
  rw [eq_list l0 h0 k hk0]
  simp only [Option.bind_some]
  rw [if_pos trivial, eq_list l1 h1 k hk1]
  simp only [Option.bind_some, if_true]

/-- The law's printed function answers true. -/
theorem all_true (l0 l1 : List ByteArray) (h0 : l0.length ≤ Top) (h1 : l1.length ≤ Top) (s0 : ∀ s ∈ l0, s.size ≤ Top) (s1 : ∀ s ∈ l1, s.size ≤ Top) (a2 a3 a4 : Int) :
    laws_FnExactInputOk.f (l0.length + l1.length + 3) l0 l1 a2 a3 a4 = some true := by
  obtain ⟨r, hr, hr2⟩ := sz_input l0 l1 h0 h1 s0 s1 (l0.length + l1.length + 3) (by omega) (by omega) a2 a3 a4
  unfold laws_FnExactInputOk.f
  rw [hr]
  simp only [Option.bind_some]
  by_cases hneg : r < 0
  · rw [if_pos hneg]
  · obtain ⟨m0, m1⟩ := hr2 (by omega)
    rw [if_neg hneg, copy_input l0 l1 m0 m1 _ (by omega) (by omega)]
    simp only [Option.bind_some]
    rw [spec_ok l0 l1 m0 m1 _ (by omega)]
    simp only [Option.bind_some]
    rw [impl_ok l0 l1 _ (by omega)]
    simp only [Option.bind_some]
    rw [if_neg (by simp), eq_input l0 l1 h0 h1 _ (by omega) (by omega)]
    rfl

end Go.Proofs.Ytibjgebipghbpaa.PureInputOk
