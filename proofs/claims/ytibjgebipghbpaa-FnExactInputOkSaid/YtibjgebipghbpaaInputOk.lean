/-
  Proved here: whatever Input the law laws.FnExactInputOk is called with, in whatever memory, it returns true, without a panic, and its argument reads behind the call as it read before. No condition. (Joined: the printed contract of Go function 4, the plain law PureInputOk.all_true, and the opening of the struct argument below.)
-/
import Derived.Test.YtibjgebipghbpaaRows
import Derived.Test.YtibjgebipghbpaaPFnExactInputOkx4
import Derived.Test.YtibjgebipghbpaaPureInputOk
import Derived.WalkKit
import Derived.ProofKit
import Derived.OpenShut
import Derived.ChangeOld
import Derived.ChangeArms
import Derived.Below
import Derived.Carry
import Derived.Deep.Strs
namespace Go.Proofs.Ytibjgebipghbpaa.fnExactInputOk
open Go.ChangeShapes Go.WideShapes Go.ChangeAt Go.RowKit Go.Deep
open Go.Proofs.YtibjgebipghbpaaW.PrintWords
set_option linter.unusedVariables false

theorem own : ownKnob Try.prog.godebug = none := by kernel_rfl
theorem laidOut : laidOutB Try.prog = true := by kernel_rfl
theorem cells23 : Try.prog.cellsOf 23 = 1 := by kernel_rfl
theorem cells3 : Try.prog.cellsOf 3 = 1 := by kernel_rfl
theorem cells25 : Try.prog.cellsOf 25 = 5 := by kernel_rfl

section
variable {H : Type} {enc : TypeId × Value → H} {W : World} {base : Nat} {spare : Nat → Bool} {held : Bool}

/-- A cell that reads as a list of texts: what the printed contract asks of it, and that its sizes fit an int. -/
theorem open_texts {n : Nat} {v : Value} {x : DataW H × List MemPlace} (h : DataW.trod enc Try.prog W base spare held n 23 [v] = some x) :
    ∃ (A : Option Addr) (c : Nat) (l : List ByteArray), v = .slice A l.length c ∧ Kd.C Kd.string W A l.length l ∧ l.length ≤ c ∧ l.length ≤ PureInputOk.Top ∧ ∀ s ∈ l, s.size ≤ PureInputOk.Top := by
  rcases open_strs Try.underlying23 Try.underlying9 (by kernel_rfl) h with ⟨hcs, _⟩ | ⟨a, len, cap, m, Sx, hcs, _, hl, hm, hmm, _, hS⟩
  · obtain rfl : v = .slice none 0 0 := by simpa using hcs
    exact ⟨none, 0, [], rfl, ⟨rfl, Nat.zero_le _, fun h0 => absurd h0 (Nat.lt_irrefl 0)⟩, Nat.le_refl _, Nat.zero_le _, fun s hs => by cases hs⟩
  · obtain rfl : v = .slice (some a) len cap := by simpa using hcs
    have hlm : len ≤ m := by rw [hmm]; split <;> omega
    unfold maxLen at hm hS
    have hlen : ((List.range len).map Sx).length = len := by simp
    refine ⟨some a, cap, (List.range len).map Sx, by rw [hlen], ?_, by rw [hlen]; exact hl, by rw [hlen, PureInputOk.top_is]; omega, fun s hs => ?_⟩
    · refine ⟨rfl, by rw [hlen]; omega, fun _ => ⟨a, rfl, fun j p hj => ⟨[.string p], rfl, rfl, fun i u hu => ?_⟩⟩⟩
      have hjl : j < len := by
        have := (List.getElem?_eq_some_iff.1 hj).1
        rwa [hlen] at this
      have hp : Sx j = p := by
        rw [List.getElem?_map, List.getElem?_range hjl] at hj
        simpa using hj
      cases i with
      | zero =>
        obtain rfl : Value.string p = u := by simpa using hu
        have hc := (hS j (by omega)).1
        rw [hp] at hc
        have e : j * Kd.string.sz + 0 = j := Nat.mul_one j
        rw [e]
        exact hc
      | succ i => simp at hu
    · obtain ⟨j, hj, rfl⟩ := List.mem_map.1 hs
      have hjl : j < len := List.mem_range.1 hj
      have := (hS j (by omega)).2
      rw [PureInputOk.top_is]
      omega

/-- The law's argument, opened: two lists of texts and three numbers. -/
theorem open_input {r : Reach} {b0 : Nat} {v : Value} {d : DataW H} {p : List MemPlace} (hv : Value.okWide Try.prog W r b0 25 v) (h : DataW.Trod enc Try.prog W base spare held 25 v d p) :
    ∃ (A0 : Option Addr) (c0 : Nat) (l0 : List ByteArray) (A1 : Option Addr) (c1 : Nat) (l1 : List ByteArray) (a2 a3 a4 : Int),
      v = .agg #[.slice A0 l0.length c0, .slice A1 l1.length c1, .int .i64 a2, .int .i64 a3, .int .i64 a4] ∧
      (Kd.C Kd.string W A0 l0.length l0 ∧ l0.length ≤ c0 ∧ l0.length ≤ PureInputOk.Top ∧ ∀ s ∈ l0, s.size ≤ PureInputOk.Top) ∧
      (Kd.C Kd.string W A1 l1.length l1 ∧ l1.length ≤ c1 ∧ l1.length ≤ PureInputOk.Top ∧ ∀ s ∈ l1, s.size ≤ PureInputOk.Top) := by
  obtain ⟨cs, rfl, hsz⟩ := okWide_struct Try.underlying25 hv
  rw [cells25] at hsz
  obtain ⟨l⟩ := cs
  match l, hsz with
  | [v0, v1, v2, v3, v4], _ =>
    obtain ⟨fuel, hf⟩ := h
    obtain ⟨xs, n, _, _, _, hlen, hg⟩ := DataW.trod_struct Try.underlying25 hf
    match xs, hlen with
    | [y0, y1, y2, y3, y4], _ =>
      have g0 : DataW.trod enc Try.prog W base spare held n 23 [v0] = some y0 := by simpa [Value.cells, cells23] using hg 0 _ rfl
      have g1 : DataW.trod enc Try.prog W base spare held n 23 [v1] = some y1 := by simpa [Value.cells, cells23] using hg 1 _ rfl
      have g2 : DataW.trod enc Try.prog W base spare held n 3 [v2] = some y2 := by simpa [Value.cells, cells3] using hg 2 _ rfl
      have g3 : DataW.trod enc Try.prog W base spare held n 3 [v3] = some y3 := by simpa [Value.cells, cells3] using hg 3 _ rfl
      have g4 : DataW.trod enc Try.prog W base spare held n 3 [v4] = some y4 := by simpa [Value.cells, cells3] using hg 4 _ rfl
      obtain ⟨A0, c0, l0, rfl, k0⟩ := open_texts g0
      obtain ⟨A1, c1, l1, rfl, k1⟩ := open_texts g1
      obtain ⟨a2, e2, _⟩ := DataW.trod_int Try.underlying3 g2
      obtain ⟨a3, e3, _⟩ := DataW.trod_int Try.underlying3 g3
      obtain ⟨a4, e4, _⟩ := DataW.trod_int Try.underlying3 g4
      obtain rfl : v2 = .int .i64 a2 := by simpa using e2
      obtain rfl : v3 = .int .i64 a3 := by simpa using e3
      obtain rfl : v4 = .int .i64 a4 := by simpa using e4
      exact ⟨A0, c0, l0, A1, c1, l1, a2, a3, a4, rfl, k0, k1⟩
end

set_option maxRecDepth 100000 in
theorem lifted (os : Os) (started : os.Started) (H : Type) (enc : TypeId × Value → H) :
    ReturnsInHanded {} Try.checked os 4 .any (Rows.fnExactInputOkSpec.pre6 enc Try.prog Try.f4 Rows.fnExactInputOkRow.domain false) (Rows.fnExactInputOkSpec.post enc Try.prog Try.f4 false true false false) := by
  refine returnsInHanded_of_change (C := Try.checked) own started (by kernel_rfl) Try.func4
    (ChangeSpec.witness6 (enc := enc) (C := Try.checked) false ⟨#[], #[.agg #[.slice none 0 0, .slice none 0 0, .int .i64 0, .int .i64 0, .int .i64 0]], []⟩ 8 (by kernel_rfl) (by kernel_rfl) (by kernel_rfl) (by kernel_rfl)) ?_
  intro W base args ds gs before hval0 hW hcnd _
  have hval : ∀ (j : Nat) t v, Try.f4.params[j]? = some t → args[j]? = some v → Value.okWide Try.prog W .any base t v := hval0
  have hW' := hW
  obtain ⟨p, q, hA0, hV, rfl, hfz, hnd⟩ := hW
  have hA : DataW.TrodAll enc Try.prog W 0 (fun _ => true) true Try.f4.params.toList args.toList ds p := hA0
  rw [Try.params4] at hA hval
  obtain ⟨v0, vs0, d0, ds0, p0, q0, hargs, rfl, rfl, h0, r0⟩ := trodAll_cons hA
  obtain ⟨rfl, rfl, rfl⟩ := trodAll_nil r0
  obtain rfl : args = #[v0] := by cases args; simp_all
  obtain ⟨rfl, rfl⟩ := trodVars_none hV
  have lt0 : ∀ x ∈ p0, x.block < W.heap.size := by obtain ⟨m, hm⟩ := h0; exact DataW.trod_lt m _ _ _ hm
  obtain ⟨A0, c0, l0, A1, c1, l1, a2, a3, a4, rfl, ⟨k0, b0, t0, s0⟩, ⟨k1, b1, t1, s1⟩⟩ := open_input (hval 0 25 v0 rfl rfl) h0
  clear hA0 hval0
  refine (PFnExactInputOk.laws_FnExactInputOk.calls (l0.length + l1.length + 3) A0 c0 l0 A1 c1 l1 a2 a3 a4 true W k0 b0 k1 b1 (PureInputOk.all_true l0 l1 t0 t1 s0 s1 a2 a3 a4)).mono fun e W' ⟨he, bel⟩ => ?_
  subst he
  exact ⟨_, rfl, _, _, _, [], _, [], hW', trodAll_mk1 (shut_bool Try.underlying4 _), trodAll_cons_mk (Below.trod laidOut (by kernel_rfl) (of_decide_eq_true (by kernel_rfl)) h0 bel lt0) trodAll_mk0, rfl, bel.frame _, fun h => by cases h⟩

theorem over : Rows.fnExactInputOkRow.holds Try.pinned (OpenSpec.ofChange Rows.fnExactInputOkSpec) :=
  OpenClaim.holds_of_wide 4 Try.f4 rfl rfl rfl rfl rfl rfl rfl ⟨rfl, rfl, rfl, rfl, rfl⟩ rfl rfl rfl rfl rfl (by kernel_rfl) Try.func4 (by kernel_rfl)
    (of_decide_eq_true (by kernel_rfl)) (by unfold Func.isWrapper; first | (rw [if_pos (by decide +kernel)]; kernel_rfl) | (rw [if_neg (by decide +kernel)]; exact ⟨rfl, rfl⟩))
    (fun os started H enc _ => lifted os started H enc)

end Go.Proofs.Ytibjgebipghbpaa.fnExactInputOk
namespace Go.Proofs.Ytibjgebipghbpaa
/-- The statement. -/
theorem fnExactInputOk_holds : Rows.FnExactInputOkSaid := fnExactInputOk.over
#print axioms fnExactInputOk_holds
end Go.Proofs.Ytibjgebipghbpaa
