/- How a slice of asks that came in reads, as the row's form says it, and what the walks are told of it. -/
import Derived.Test.YtfgfoocmiflnmaaMyF
import Derived.Test.YtfgfoocmiflnmaaRows
import Derived.ProofKit
import Derived.Deep.Slices
import Derived.Deep.Fields
import Derived.ChangeOld
namespace Go.Proofs.Ytfgfoocmiflnmaa.My
open Go.ChangeShapes Go.WideShapes Go.ChangeAt Go.RowKit Go.Deep Go.Arr

theorem cells34 : Try.prog.cellsOf 34 = 3 := by kernel_rfl
theorem cells32 : Try.prog.cellsOf 32 = 1 := by kernel_rfl
theorem cells23 : Try.prog.cellsOf 23 = 1 := by kernel_rfl
theorem cells3 : Try.prog.cellsOf 3 = 1 := by kernel_rfl
theorem own : ownKnob Try.prog.godebug = none := by kernel_rfl
theorem laidOut : laidOutB Try.prog = true := by kernel_rfl

section
variable {H : Type} {enc : TypeId × Value → H} {w : World} {fuel : Nat}
theorem ints_of {v : Value} {x : DataW H × List MemPlace} (h : DataW.trod enc Try.prog w 0 (fun _ => true) true fuel 23 [v] = some x) : ∃ B n c xs, v = .slice B n c ∧ Ints w B n xs ∧ n ≤ 9223372036854775807 := by
  rcases open_ints Try.underlying23 Try.underlying3 cells3 h with ⟨hcs, _⟩ | ⟨a, l, c, zs, hcs, _, hl, hm, hz, _, hcell, _⟩
  · simp only [List.cons.injEq, and_true] at hcs
    exact ⟨none, 0, 0, [], hcs, ⟨rfl, fun h => absurd h (by omega)⟩, by omega⟩
  · simp only [List.cons.injEq, and_true] at hcs
    have hzl : zs.length = c := by simpa using hz
    refine ⟨some a, l, c, zs.take l, hcs, ⟨by rw [List.length_take]; omega, fun _ => ⟨a, rfl, fun k x hk => ?_⟩⟩, by unfold maxLen at hm; omega⟩
    rw [List.getElem?_take] at hk
    split at hk
    · have hk2 : k < zs.length := by omega
      have := hcell k hk2
      rw [List.getD_eq_getElem?_getD, hk] at this
      exact this
    · cases hk
theorem asks_of {A : Option Addr} {m c : Nat} {x : DataW H × List MemPlace} (h : DataW.trod enc Try.prog w 0 (fun _ => true) true fuel 22 [.slice A m c] = some x) : Asks w A m ∧ m ≤ 9223372036854775807 := by
  rcases open_slice Try.underlying22 h with ⟨hcs, _⟩ | ⟨a, len, cap, mm, n, D, Pl, hcs, _, hl, hm, hmm, _, hi⟩
  · simp only [List.cons.injEq, and_true, Value.slice.injEq] at hcs
    obtain ⟨rfl, rfl, rfl⟩ := hcs
    exact ⟨fun h => absurd h (by omega), by omega⟩
  · simp only [List.cons.injEq, and_true, Value.slice.injEq] at hcs
    obtain ⟨rfl, rfl, rfl⟩ := hcs
    have hmc : mm = c := by simpa using hmm
    refine ⟨fun _ => ⟨a, rfl, fun k hk => ?_⟩, by unfold maxLen at hm; omega⟩
    obtain ⟨cs, hc, ht⟩ := hi k (by omega)
    rw [cells34] at hc
    obtain ⟨_, hcl, hat⟩ := World.cells?_some hc
    obtain ⟨ys, n', _, _, _, hyl, hf⟩ := DataW.trod_struct Try.underlying34 ht
    match cs, hcl with
    | [c0, c1, c2], _ =>
      have f0 := hf 0 _ rfl
      have f1 := hf 1 _ rfl
      have f2 := hf 2 _ rfl
      have hy : ∀ i, i < 3 → ∃ y, ys[i]? = some y := fun i hi => ⟨_, List.getElem?_eq_getElem (by rw [hyl]; exact hi)⟩
      obtain ⟨y0, g0⟩ := hy 0 (by omega)
      obtain ⟨y1, g1⟩ := hy 1 (by omega)
      obtain ⟨y2, g2⟩ := hy 2 (by omega)
      rw [g0] at f0
      rw [g1] at f1
      rw [g2] at f2
      simp [cells3, cells32] at f0 f1 f2
      obtain ⟨p, hp, _⟩ := DataW.trod_int Try.underlying3 f0
      obtain ⟨v, hv, _⟩ := DataW.trod_int Try.underlying3 f1
      obtain ⟨zs, n2, _, _, _, hzl, hz⟩ := DataW.trod_struct Try.underlying32 f2
      have f3 := hz 0 _ rfl
      obtain ⟨z0, g3⟩ : ∃ z, zs[0]? = some z := ⟨_, List.getElem?_eq_getElem (by rw [hzl]; decide)⟩
      rw [g3] at f3
      simp [cells23] at f3
      obtain ⟨B, n3, c3, xs, rfl, hB, hn⟩ := ints_of f3
      simp only [List.cons.injEq, and_true] at hp hv
      subst hp
      subst hv
      refine ⟨p, v, B, n3, c3, xs, fun j x hj => ?_, hB, hn⟩
      have hj3 : j < 3 := by
        have := (List.getElem?_eq_some_iff.1 hj).1
        simpa using this
      rw [hat j hj3, hj]
end
end Go.Proofs.Ytfgfoocmiflnmaa.My
