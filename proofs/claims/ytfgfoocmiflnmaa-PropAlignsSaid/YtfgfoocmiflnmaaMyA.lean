/- Contracts of the small functions of package prop and of the references that its laws call: what each returns for every argument. -/
import Derived.Test.YtfgfoocmiflnmaaProg
import Derived.WalkKit
import Derived.Below
import Derived.KernelRfl
import Derived.RowKit3
namespace Go.Proofs.Ytfgfoocmiflnmaa.My
open Go.RowKit

def low (p : Int) : Int := if p = 3 ∨ p = 4 ∨ p = 6 ∨ p = 8 ∨ p = 11 then -1 else if p = 18 then 64 else 0
def high (p : Int) : Int :=
  if p = 0 then 2 else if p = 1 ∨ p = 2 then 1 else if p = 12 ∨ p = 13 ∨ p = 14 then 1073741824 else if p = 15 then 4 else if p = 16 then 3
  else if p = 17 then 16777215 else if p = 18 then 64000 else if p = 9 ∨ p = 10 then 1048576 else 1099511627776
def plain (p : Int) : Int := if p = 3 ∨ p = 4 ∨ p = 6 ∨ p = 8 ∨ p = 11 then -1 else if p = 10 then 1 else if p = 18 then 1024 else 0
def goes (p : Int) : Bool := p == 17 || p == 18
def isP (p : Int) : Bool := decide (0 ≤ p) && decide (p < 19)
def may (p v : Int) : Bool := isP p && (decide (low p ≤ v) && decide (v ≤ high p))
def chk (p v : Int) : Int := if isP p = true then if may p v = true then 0 else 9 else 3

theorem cases19 {p : Int} (h : isP p = true) : p = 0 ∨ p = 1 ∨ p = 2 ∨ p = 3 ∨ p = 4 ∨ p = 5 ∨ p = 6 ∨ p = 7 ∨ p = 8 ∨ p = 9 ∨ p = 10 ∨ p = 11 ∨ p = 12 ∨ p = 13 ∨ p = 14 ∨ p = 15 ∨ p = 16 ∨ p = 17 ∨ p = 18 := by
  simp [isP] at h; omega
theorem below_trans {B : Nat} {w w1 w2 : World} (h1 : Below B w w1) (hB : B ≤ w1.heap.size) (h2 : Below w1.heap.size w1 w2) : Below B w w2 := h1.trans (h2.mono hB)

theorem num_any (n : Int) (w : World) : Calls Try.prog 26 #[.int .i64 n] w fun e w' => e = .returned (.int .i64 n) ∧ w = w' := by
  go_enter Try.func26, Try.ntmps26
  go_wp2
  go_ret
  exact ⟨rfl, rfl⟩

theorem is_any (p : Int) (w : World) : Calls Try.prog 41 #[.int .i64 p] w fun e w' => e = .returned (.bool (isP p)) ∧ w = w' := by
  by_cases h : 0 ≤ p
  · by_cases h2 : p < 19
    · have e : isP p = true := by simp [isP]; omega
      rw [e]
      clear e
      go_enter Try.func41, Try.ntmps41
      go_wp2
      go_ret
      exact ⟨rfl, rfl⟩
    · have e : isP p = false := by simp [isP]; omega
      rw [e]
      clear e
      go_enter Try.func41, Try.ntmps41
      go_wp2
      go_ret
      exact ⟨rfl, rfl⟩
  · have e : isP p = false := by simp [isP]; omega
    rw [e]
    clear e
    go_enter Try.func41, Try.ntmps41
    go_wp2
    go_ret
    exact ⟨rfl, rfl⟩

set_option maxRecDepth 100000 in
theorem rule_0 (w : World) : Calls Try.prog 42 #[.int .i64 0] w fun e w' => e = .returned (.agg #[.int .i64 (low 0), .int .i64 (high 0), .int .i64 (plain 0), .bool (goes 0)]) ∧ Below w.heap.size w w' := by
  have e1 : Value.agg #[.int .i64 (low 0), .int .i64 (high 0), .int .i64 (plain 0), .bool (goes 0)] = Value.agg #[.int .i64 (0), .int .i64 2, .int .i64 (0), .bool false] := by simp [low, high, plain, goes]
  rw [e1]
  clear e1
  go_enter Try.func42, Try.ntmps42
  go_wp2
  exact bodyPost_ret (by simp [results, Try.results42, go_sem]) rfl ⟨rfl, (Below.refl _ _).alloc (Nat.le_refl _) _⟩
set_option maxRecDepth 100000 in
theorem rule_1 (w : World) : Calls Try.prog 42 #[.int .i64 1] w fun e w' => e = .returned (.agg #[.int .i64 (low 1), .int .i64 (high 1), .int .i64 (plain 1), .bool (goes 1)]) ∧ Below w.heap.size w w' := by
  have e1 : Value.agg #[.int .i64 (low 1), .int .i64 (high 1), .int .i64 (plain 1), .bool (goes 1)] = Value.agg #[.int .i64 (0), .int .i64 1, .int .i64 (0), .bool false] := by simp [low, high, plain, goes]
  rw [e1]
  clear e1
  go_enter Try.func42, Try.ntmps42
  go_wp2
  exact bodyPost_ret (by simp [results, Try.results42, go_sem]) rfl ⟨rfl, (Below.refl _ _).alloc (Nat.le_refl _) _⟩
set_option maxRecDepth 100000 in
theorem rule_2 (w : World) : Calls Try.prog 42 #[.int .i64 2] w fun e w' => e = .returned (.agg #[.int .i64 (low 2), .int .i64 (high 2), .int .i64 (plain 2), .bool (goes 2)]) ∧ Below w.heap.size w w' := by
  have e1 : Value.agg #[.int .i64 (low 2), .int .i64 (high 2), .int .i64 (plain 2), .bool (goes 2)] = Value.agg #[.int .i64 (0), .int .i64 1, .int .i64 (0), .bool false] := by simp [low, high, plain, goes]
  rw [e1]
  clear e1
  go_enter Try.func42, Try.ntmps42
  go_wp2
  exact bodyPost_ret (by simp [results, Try.results42, go_sem]) rfl ⟨rfl, (Below.refl _ _).alloc (Nat.le_refl _) _⟩
set_option maxRecDepth 100000 in
theorem rule_3 (w : World) : Calls Try.prog 42 #[.int .i64 3] w fun e w' => e = .returned (.agg #[.int .i64 (low 3), .int .i64 (high 3), .int .i64 (plain 3), .bool (goes 3)]) ∧ Below w.heap.size w w' := by
  have e1 : Value.agg #[.int .i64 (low 3), .int .i64 (high 3), .int .i64 (plain 3), .bool (goes 3)] = Value.agg #[.int .i64 (-1), .int .i64 1099511627776, .int .i64 (-1), .bool false] := by simp [low, high, plain, goes]
  rw [e1]
  clear e1
  go_enter Try.func42, Try.ntmps42
  go_wp2
  exact bodyPost_ret (by simp [results, Try.results42, go_sem]) rfl ⟨rfl, (Below.refl _ _).alloc (Nat.le_refl _) _⟩
set_option maxRecDepth 100000 in
theorem rule_4 (w : World) : Calls Try.prog 42 #[.int .i64 4] w fun e w' => e = .returned (.agg #[.int .i64 (low 4), .int .i64 (high 4), .int .i64 (plain 4), .bool (goes 4)]) ∧ Below w.heap.size w w' := by
  have e1 : Value.agg #[.int .i64 (low 4), .int .i64 (high 4), .int .i64 (plain 4), .bool (goes 4)] = Value.agg #[.int .i64 (-1), .int .i64 1099511627776, .int .i64 (-1), .bool false] := by simp [low, high, plain, goes]
  rw [e1]
  clear e1
  go_enter Try.func42, Try.ntmps42
  go_wp2
  exact bodyPost_ret (by simp [results, Try.results42, go_sem]) rfl ⟨rfl, (Below.refl _ _).alloc (Nat.le_refl _) _⟩
set_option maxRecDepth 100000 in
theorem rule_5 (w : World) : Calls Try.prog 42 #[.int .i64 5] w fun e w' => e = .returned (.agg #[.int .i64 (low 5), .int .i64 (high 5), .int .i64 (plain 5), .bool (goes 5)]) ∧ Below w.heap.size w w' := by
  have e1 : Value.agg #[.int .i64 (low 5), .int .i64 (high 5), .int .i64 (plain 5), .bool (goes 5)] = Value.agg #[.int .i64 (0), .int .i64 1099511627776, .int .i64 (0), .bool false] := by simp [low, high, plain, goes]
  rw [e1]
  clear e1
  go_enter Try.func42, Try.ntmps42
  go_wp2
  exact bodyPost_ret (by simp [results, Try.results42, go_sem]) rfl ⟨rfl, (Below.refl _ _).alloc (Nat.le_refl _) _⟩
set_option maxRecDepth 100000 in
theorem rule_6 (w : World) : Calls Try.prog 42 #[.int .i64 6] w fun e w' => e = .returned (.agg #[.int .i64 (low 6), .int .i64 (high 6), .int .i64 (plain 6), .bool (goes 6)]) ∧ Below w.heap.size w w' := by
  have e1 : Value.agg #[.int .i64 (low 6), .int .i64 (high 6), .int .i64 (plain 6), .bool (goes 6)] = Value.agg #[.int .i64 (-1), .int .i64 1099511627776, .int .i64 (-1), .bool false] := by simp [low, high, plain, goes]
  rw [e1]
  clear e1
  go_enter Try.func42, Try.ntmps42
  go_wp2
  exact bodyPost_ret (by simp [results, Try.results42, go_sem]) rfl ⟨rfl, (Below.refl _ _).alloc (Nat.le_refl _) _⟩
set_option maxRecDepth 100000 in
theorem rule_7 (w : World) : Calls Try.prog 42 #[.int .i64 7] w fun e w' => e = .returned (.agg #[.int .i64 (low 7), .int .i64 (high 7), .int .i64 (plain 7), .bool (goes 7)]) ∧ Below w.heap.size w w' := by
  have e1 : Value.agg #[.int .i64 (low 7), .int .i64 (high 7), .int .i64 (plain 7), .bool (goes 7)] = Value.agg #[.int .i64 (0), .int .i64 1099511627776, .int .i64 (0), .bool false] := by simp [low, high, plain, goes]
  rw [e1]
  clear e1
  go_enter Try.func42, Try.ntmps42
  go_wp2
  exact bodyPost_ret (by simp [results, Try.results42, go_sem]) rfl ⟨rfl, (Below.refl _ _).alloc (Nat.le_refl _) _⟩
set_option maxRecDepth 100000 in
theorem rule_8 (w : World) : Calls Try.prog 42 #[.int .i64 8] w fun e w' => e = .returned (.agg #[.int .i64 (low 8), .int .i64 (high 8), .int .i64 (plain 8), .bool (goes 8)]) ∧ Below w.heap.size w w' := by
  have e1 : Value.agg #[.int .i64 (low 8), .int .i64 (high 8), .int .i64 (plain 8), .bool (goes 8)] = Value.agg #[.int .i64 (-1), .int .i64 1099511627776, .int .i64 (-1), .bool false] := by simp [low, high, plain, goes]
  rw [e1]
  clear e1
  go_enter Try.func42, Try.ntmps42
  go_wp2
  exact bodyPost_ret (by simp [results, Try.results42, go_sem]) rfl ⟨rfl, (Below.refl _ _).alloc (Nat.le_refl _) _⟩
set_option maxRecDepth 100000 in
theorem rule_9 (w : World) : Calls Try.prog 42 #[.int .i64 9] w fun e w' => e = .returned (.agg #[.int .i64 (low 9), .int .i64 (high 9), .int .i64 (plain 9), .bool (goes 9)]) ∧ Below w.heap.size w w' := by
  have e1 : Value.agg #[.int .i64 (low 9), .int .i64 (high 9), .int .i64 (plain 9), .bool (goes 9)] = Value.agg #[.int .i64 (0), .int .i64 1048576, .int .i64 (0), .bool false] := by simp [low, high, plain, goes]
  rw [e1]
  clear e1
  go_enter Try.func42, Try.ntmps42
  go_wp2
  exact bodyPost_ret (by simp [results, Try.results42, go_sem]) rfl ⟨rfl, (Below.refl _ _).alloc (Nat.le_refl _) _⟩
set_option maxRecDepth 100000 in
theorem rule_10 (w : World) : Calls Try.prog 42 #[.int .i64 10] w fun e w' => e = .returned (.agg #[.int .i64 (low 10), .int .i64 (high 10), .int .i64 (plain 10), .bool (goes 10)]) ∧ Below w.heap.size w w' := by
  have e1 : Value.agg #[.int .i64 (low 10), .int .i64 (high 10), .int .i64 (plain 10), .bool (goes 10)] = Value.agg #[.int .i64 (0), .int .i64 1048576, .int .i64 (1), .bool false] := by simp [low, high, plain, goes]
  rw [e1]
  clear e1
  go_enter Try.func42, Try.ntmps42
  go_wp2
  exact bodyPost_ret (by simp [results, Try.results42, go_sem]) rfl ⟨rfl, (Below.refl _ _).alloc (Nat.le_refl _) _⟩
set_option maxRecDepth 100000 in
theorem rule_11 (w : World) : Calls Try.prog 42 #[.int .i64 11] w fun e w' => e = .returned (.agg #[.int .i64 (low 11), .int .i64 (high 11), .int .i64 (plain 11), .bool (goes 11)]) ∧ Below w.heap.size w w' := by
  have e1 : Value.agg #[.int .i64 (low 11), .int .i64 (high 11), .int .i64 (plain 11), .bool (goes 11)] = Value.agg #[.int .i64 (-1), .int .i64 1099511627776, .int .i64 (-1), .bool false] := by simp [low, high, plain, goes]
  rw [e1]
  clear e1
  go_enter Try.func42, Try.ntmps42
  go_wp2
  exact bodyPost_ret (by simp [results, Try.results42, go_sem]) rfl ⟨rfl, (Below.refl _ _).alloc (Nat.le_refl _) _⟩
set_option maxRecDepth 100000 in
theorem rule_12 (w : World) : Calls Try.prog 42 #[.int .i64 12] w fun e w' => e = .returned (.agg #[.int .i64 (low 12), .int .i64 (high 12), .int .i64 (plain 12), .bool (goes 12)]) ∧ Below w.heap.size w w' := by
  have e1 : Value.agg #[.int .i64 (low 12), .int .i64 (high 12), .int .i64 (plain 12), .bool (goes 12)] = Value.agg #[.int .i64 (0), .int .i64 1073741824, .int .i64 (0), .bool false] := by simp [low, high, plain, goes]
  rw [e1]
  clear e1
  go_enter Try.func42, Try.ntmps42
  go_wp2
  exact bodyPost_ret (by simp [results, Try.results42, go_sem]) rfl ⟨rfl, (Below.refl _ _).alloc (Nat.le_refl _) _⟩
set_option maxRecDepth 100000 in
theorem rule_13 (w : World) : Calls Try.prog 42 #[.int .i64 13] w fun e w' => e = .returned (.agg #[.int .i64 (low 13), .int .i64 (high 13), .int .i64 (plain 13), .bool (goes 13)]) ∧ Below w.heap.size w w' := by
  have e1 : Value.agg #[.int .i64 (low 13), .int .i64 (high 13), .int .i64 (plain 13), .bool (goes 13)] = Value.agg #[.int .i64 (0), .int .i64 1073741824, .int .i64 (0), .bool false] := by simp [low, high, plain, goes]
  rw [e1]
  clear e1
  go_enter Try.func42, Try.ntmps42
  go_wp2
  exact bodyPost_ret (by simp [results, Try.results42, go_sem]) rfl ⟨rfl, (Below.refl _ _).alloc (Nat.le_refl _) _⟩
set_option maxRecDepth 100000 in
theorem rule_14 (w : World) : Calls Try.prog 42 #[.int .i64 14] w fun e w' => e = .returned (.agg #[.int .i64 (low 14), .int .i64 (high 14), .int .i64 (plain 14), .bool (goes 14)]) ∧ Below w.heap.size w w' := by
  have e1 : Value.agg #[.int .i64 (low 14), .int .i64 (high 14), .int .i64 (plain 14), .bool (goes 14)] = Value.agg #[.int .i64 (0), .int .i64 1073741824, .int .i64 (0), .bool false] := by simp [low, high, plain, goes]
  rw [e1]
  clear e1
  go_enter Try.func42, Try.ntmps42
  go_wp2
  exact bodyPost_ret (by simp [results, Try.results42, go_sem]) rfl ⟨rfl, (Below.refl _ _).alloc (Nat.le_refl _) _⟩
set_option maxRecDepth 100000 in
theorem rule_15 (w : World) : Calls Try.prog 42 #[.int .i64 15] w fun e w' => e = .returned (.agg #[.int .i64 (low 15), .int .i64 (high 15), .int .i64 (plain 15), .bool (goes 15)]) ∧ Below w.heap.size w w' := by
  have e1 : Value.agg #[.int .i64 (low 15), .int .i64 (high 15), .int .i64 (plain 15), .bool (goes 15)] = Value.agg #[.int .i64 (0), .int .i64 4, .int .i64 (0), .bool false] := by simp [low, high, plain, goes]
  rw [e1]
  clear e1
  go_enter Try.func42, Try.ntmps42
  go_wp2
  exact bodyPost_ret (by simp [results, Try.results42, go_sem]) rfl ⟨rfl, (Below.refl _ _).alloc (Nat.le_refl _) _⟩
set_option maxRecDepth 100000 in
theorem rule_16 (w : World) : Calls Try.prog 42 #[.int .i64 16] w fun e w' => e = .returned (.agg #[.int .i64 (low 16), .int .i64 (high 16), .int .i64 (plain 16), .bool (goes 16)]) ∧ Below w.heap.size w w' := by
  have e1 : Value.agg #[.int .i64 (low 16), .int .i64 (high 16), .int .i64 (plain 16), .bool (goes 16)] = Value.agg #[.int .i64 (0), .int .i64 3, .int .i64 (0), .bool false] := by simp [low, high, plain, goes]
  rw [e1]
  clear e1
  go_enter Try.func42, Try.ntmps42
  go_wp2
  exact bodyPost_ret (by simp [results, Try.results42, go_sem]) rfl ⟨rfl, (Below.refl _ _).alloc (Nat.le_refl _) _⟩
set_option maxRecDepth 100000 in
theorem rule_17 (w : World) : Calls Try.prog 42 #[.int .i64 17] w fun e w' => e = .returned (.agg #[.int .i64 (low 17), .int .i64 (high 17), .int .i64 (plain 17), .bool (goes 17)]) ∧ Below w.heap.size w w' := by
  have e1 : Value.agg #[.int .i64 (low 17), .int .i64 (high 17), .int .i64 (plain 17), .bool (goes 17)] = Value.agg #[.int .i64 (0), .int .i64 16777215, .int .i64 (0), .bool true] := by simp [low, high, plain, goes]
  rw [e1]
  clear e1
  go_enter Try.func42, Try.ntmps42
  go_wp2
  exact bodyPost_ret (by simp [results, Try.results42, go_sem]) rfl ⟨rfl, (Below.refl _ _).alloc (Nat.le_refl _) _⟩
set_option maxRecDepth 100000 in
theorem rule_18 (w : World) : Calls Try.prog 42 #[.int .i64 18] w fun e w' => e = .returned (.agg #[.int .i64 (low 18), .int .i64 (high 18), .int .i64 (plain 18), .bool (goes 18)]) ∧ Below w.heap.size w w' := by
  have e1 : Value.agg #[.int .i64 (low 18), .int .i64 (high 18), .int .i64 (plain 18), .bool (goes 18)] = Value.agg #[.int .i64 (64), .int .i64 64000, .int .i64 (1024), .bool true] := by simp [low, high, plain, goes]
  rw [e1]
  clear e1
  go_enter Try.func42, Try.ntmps42
  go_wp2
  exact bodyPost_ret (by simp [results, Try.results42, go_sem]) rfl ⟨rfl, (Below.refl _ _).alloc (Nat.le_refl _) _⟩
theorem rule_any (p : Int) (h : isP p = true) (w : World) : Calls Try.prog 42 #[.int .i64 p] w fun e w' => e = .returned (.agg #[.int .i64 (low p), .int .i64 (high p), .int .i64 (plain p), .bool (goes p)]) ∧ Below w.heap.size w w' := by
  rcases cases19 h with rfl | rfl | rfl | rfl | rfl | rfl | rfl | rfl | rfl | rfl | rfl | rfl | rfl | rfl | rfl | rfl | rfl | rfl | rfl
  · exact rule_0 w
  · exact rule_1 w
  · exact rule_2 w
  · exact rule_3 w
  · exact rule_4 w
  · exact rule_5 w
  · exact rule_6 w
  · exact rule_7 w
  · exact rule_8 w
  · exact rule_9 w
  · exact rule_10 w
  · exact rule_11 w
  · exact rule_12 w
  · exact rule_13 w
  · exact rule_14 w
  · exact rule_15 w
  · exact rule_16 w
  · exact rule_17 w
  · exact rule_18 w
end Go.Proofs.Ytfgfoocmiflnmaa.My
