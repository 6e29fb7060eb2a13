/- Contracts of the reference's value, Check, Default, Goes and Num: what each returns for every argument. -/
import Derived.Test.YtfgfoocmiflnmaaMyB
namespace Go.Proofs.Ytfgfoocmiflnmaa.My
open Go.RowKit

set_option maxRecDepth 100000 in
theorem value_0 (w : World) : Calls Try.prog 44 #[.int .i64 0] w fun e w' => e = .returned (.tuple #[.int .i64 (low 0), .int .i64 (high 0), .int .i64 (plain 0), .bool true]) ∧ w = w' := by
  have e1 : Value.tuple #[.int .i64 (low 0), .int .i64 (high 0), .int .i64 (plain 0), .bool true] = Value.tuple #[.int .i64 (0), .int .i64 2, .int .i64 (0), .bool true] := by simp [low, high, plain]
  rw [e1]
  clear e1
  go_enter Try.func44, Try.ntmps44
  go_wp2
  exact bodyPost_ret (by simp [results, Try.results44, go_sem]) rfl ⟨rfl, rfl⟩
set_option maxRecDepth 100000 in
theorem value_1 (w : World) : Calls Try.prog 44 #[.int .i64 1] w fun e w' => e = .returned (.tuple #[.int .i64 (low 1), .int .i64 (high 1), .int .i64 (plain 1), .bool true]) ∧ w = w' := by
  have e1 : Value.tuple #[.int .i64 (low 1), .int .i64 (high 1), .int .i64 (plain 1), .bool true] = Value.tuple #[.int .i64 (0), .int .i64 1, .int .i64 (0), .bool true] := by simp [low, high, plain]
  rw [e1]
  clear e1
  go_enter Try.func44, Try.ntmps44
  go_wp2
  exact bodyPost_ret (by simp [results, Try.results44, go_sem]) rfl ⟨rfl, rfl⟩
set_option maxRecDepth 100000 in
theorem value_2 (w : World) : Calls Try.prog 44 #[.int .i64 2] w fun e w' => e = .returned (.tuple #[.int .i64 (low 2), .int .i64 (high 2), .int .i64 (plain 2), .bool true]) ∧ w = w' := by
  have e1 : Value.tuple #[.int .i64 (low 2), .int .i64 (high 2), .int .i64 (plain 2), .bool true] = Value.tuple #[.int .i64 (0), .int .i64 1, .int .i64 (0), .bool true] := by simp [low, high, plain]
  rw [e1]
  clear e1
  go_enter Try.func44, Try.ntmps44
  go_wp2
  exact bodyPost_ret (by simp [results, Try.results44, go_sem]) rfl ⟨rfl, rfl⟩
set_option maxRecDepth 100000 in
theorem value_3 (w : World) : Calls Try.prog 44 #[.int .i64 3] w fun e w' => e = .returned (.tuple #[.int .i64 (low 3), .int .i64 (high 3), .int .i64 (plain 3), .bool true]) ∧ w = w' := by
  have e1 : Value.tuple #[.int .i64 (low 3), .int .i64 (high 3), .int .i64 (plain 3), .bool true] = Value.tuple #[.int .i64 (-1), .int .i64 1099511627776, .int .i64 (-1), .bool true] := by simp [low, high, plain]
  rw [e1]
  clear e1
  go_enter Try.func44, Try.ntmps44
  go_wp2
  exact bodyPost_ret (by simp [results, Try.results44, go_sem]) rfl ⟨rfl, rfl⟩
set_option maxRecDepth 100000 in
theorem value_4 (w : World) : Calls Try.prog 44 #[.int .i64 4] w fun e w' => e = .returned (.tuple #[.int .i64 (low 4), .int .i64 (high 4), .int .i64 (plain 4), .bool true]) ∧ w = w' := by
  have e1 : Value.tuple #[.int .i64 (low 4), .int .i64 (high 4), .int .i64 (plain 4), .bool true] = Value.tuple #[.int .i64 (-1), .int .i64 1099511627776, .int .i64 (-1), .bool true] := by simp [low, high, plain]
  rw [e1]
  clear e1
  go_enter Try.func44, Try.ntmps44
  go_wp2
  exact bodyPost_ret (by simp [results, Try.results44, go_sem]) rfl ⟨rfl, rfl⟩
set_option maxRecDepth 100000 in
theorem value_5 (w : World) : Calls Try.prog 44 #[.int .i64 5] w fun e w' => e = .returned (.tuple #[.int .i64 (low 5), .int .i64 (high 5), .int .i64 (plain 5), .bool true]) ∧ w = w' := by
  have e1 : Value.tuple #[.int .i64 (low 5), .int .i64 (high 5), .int .i64 (plain 5), .bool true] = Value.tuple #[.int .i64 (0), .int .i64 1099511627776, .int .i64 (0), .bool true] := by simp [low, high, plain]
  rw [e1]
  clear e1
  go_enter Try.func44, Try.ntmps44
  go_wp2
  exact bodyPost_ret (by simp [results, Try.results44, go_sem]) rfl ⟨rfl, rfl⟩
set_option maxRecDepth 100000 in
theorem value_6 (w : World) : Calls Try.prog 44 #[.int .i64 6] w fun e w' => e = .returned (.tuple #[.int .i64 (low 6), .int .i64 (high 6), .int .i64 (plain 6), .bool true]) ∧ w = w' := by
  have e1 : Value.tuple #[.int .i64 (low 6), .int .i64 (high 6), .int .i64 (plain 6), .bool true] = Value.tuple #[.int .i64 (-1), .int .i64 1099511627776, .int .i64 (-1), .bool true] := by simp [low, high, plain]
  rw [e1]
  clear e1
  go_enter Try.func44, Try.ntmps44
  go_wp2
  exact bodyPost_ret (by simp [results, Try.results44, go_sem]) rfl ⟨rfl, rfl⟩
set_option maxRecDepth 100000 in
theorem value_7 (w : World) : Calls Try.prog 44 #[.int .i64 7] w fun e w' => e = .returned (.tuple #[.int .i64 (low 7), .int .i64 (high 7), .int .i64 (plain 7), .bool true]) ∧ w = w' := by
  have e1 : Value.tuple #[.int .i64 (low 7), .int .i64 (high 7), .int .i64 (plain 7), .bool true] = Value.tuple #[.int .i64 (0), .int .i64 1099511627776, .int .i64 (0), .bool true] := by simp [low, high, plain]
  rw [e1]
  clear e1
  go_enter Try.func44, Try.ntmps44
  go_wp2
  exact bodyPost_ret (by simp [results, Try.results44, go_sem]) rfl ⟨rfl, rfl⟩
set_option maxRecDepth 100000 in
theorem value_8 (w : World) : Calls Try.prog 44 #[.int .i64 8] w fun e w' => e = .returned (.tuple #[.int .i64 (low 8), .int .i64 (high 8), .int .i64 (plain 8), .bool true]) ∧ w = w' := by
  have e1 : Value.tuple #[.int .i64 (low 8), .int .i64 (high 8), .int .i64 (plain 8), .bool true] = Value.tuple #[.int .i64 (-1), .int .i64 1099511627776, .int .i64 (-1), .bool true] := by simp [low, high, plain]
  rw [e1]
  clear e1
  go_enter Try.func44, Try.ntmps44
  go_wp2
  exact bodyPost_ret (by simp [results, Try.results44, go_sem]) rfl ⟨rfl, rfl⟩
set_option maxRecDepth 100000 in
theorem value_9 (w : World) : Calls Try.prog 44 #[.int .i64 9] w fun e w' => e = .returned (.tuple #[.int .i64 (low 9), .int .i64 (high 9), .int .i64 (plain 9), .bool true]) ∧ w = w' := by
  have e1 : Value.tuple #[.int .i64 (low 9), .int .i64 (high 9), .int .i64 (plain 9), .bool true] = Value.tuple #[.int .i64 (0), .int .i64 1048576, .int .i64 (0), .bool true] := by simp [low, high, plain]
  rw [e1]
  clear e1
  go_enter Try.func44, Try.ntmps44
  go_wp2
  exact bodyPost_ret (by simp [results, Try.results44, go_sem]) rfl ⟨rfl, rfl⟩
set_option maxRecDepth 100000 in
theorem value_10 (w : World) : Calls Try.prog 44 #[.int .i64 10] w fun e w' => e = .returned (.tuple #[.int .i64 (low 10), .int .i64 (high 10), .int .i64 (plain 10), .bool true]) ∧ w = w' := by
  have e1 : Value.tuple #[.int .i64 (low 10), .int .i64 (high 10), .int .i64 (plain 10), .bool true] = Value.tuple #[.int .i64 (0), .int .i64 1048576, .int .i64 (1), .bool true] := by simp [low, high, plain]
  rw [e1]
  clear e1
  go_enter Try.func44, Try.ntmps44
  go_wp2
  exact bodyPost_ret (by simp [results, Try.results44, go_sem]) rfl ⟨rfl, rfl⟩
set_option maxRecDepth 100000 in
theorem value_11 (w : World) : Calls Try.prog 44 #[.int .i64 11] w fun e w' => e = .returned (.tuple #[.int .i64 (low 11), .int .i64 (high 11), .int .i64 (plain 11), .bool true]) ∧ w = w' := by
  have e1 : Value.tuple #[.int .i64 (low 11), .int .i64 (high 11), .int .i64 (plain 11), .bool true] = Value.tuple #[.int .i64 (-1), .int .i64 1099511627776, .int .i64 (-1), .bool true] := by simp [low, high, plain]
  rw [e1]
  clear e1
  go_enter Try.func44, Try.ntmps44
  go_wp2
  exact bodyPost_ret (by simp [results, Try.results44, go_sem]) rfl ⟨rfl, rfl⟩
set_option maxRecDepth 100000 in
theorem value_12 (w : World) : Calls Try.prog 44 #[.int .i64 12] w fun e w' => e = .returned (.tuple #[.int .i64 (low 12), .int .i64 (high 12), .int .i64 (plain 12), .bool true]) ∧ w = w' := by
  have e1 : Value.tuple #[.int .i64 (low 12), .int .i64 (high 12), .int .i64 (plain 12), .bool true] = Value.tuple #[.int .i64 (0), .int .i64 1073741824, .int .i64 (0), .bool true] := by simp [low, high, plain]
  rw [e1]
  clear e1
  go_enter Try.func44, Try.ntmps44
  go_wp2
  exact bodyPost_ret (by simp [results, Try.results44, go_sem]) rfl ⟨rfl, rfl⟩
set_option maxRecDepth 100000 in
theorem value_13 (w : World) : Calls Try.prog 44 #[.int .i64 13] w fun e w' => e = .returned (.tuple #[.int .i64 (low 13), .int .i64 (high 13), .int .i64 (plain 13), .bool true]) ∧ w = w' := by
  have e1 : Value.tuple #[.int .i64 (low 13), .int .i64 (high 13), .int .i64 (plain 13), .bool true] = Value.tuple #[.int .i64 (0), .int .i64 1073741824, .int .i64 (0), .bool true] := by simp [low, high, plain]
  rw [e1]
  clear e1
  go_enter Try.func44, Try.ntmps44
  go_wp2
  exact bodyPost_ret (by simp [results, Try.results44, go_sem]) rfl ⟨rfl, rfl⟩
set_option maxRecDepth 100000 in
theorem value_14 (w : World) : Calls Try.prog 44 #[.int .i64 14] w fun e w' => e = .returned (.tuple #[.int .i64 (low 14), .int .i64 (high 14), .int .i64 (plain 14), .bool true]) ∧ w = w' := by
  have e1 : Value.tuple #[.int .i64 (low 14), .int .i64 (high 14), .int .i64 (plain 14), .bool true] = Value.tuple #[.int .i64 (0), .int .i64 1073741824, .int .i64 (0), .bool true] := by simp [low, high, plain]
  rw [e1]
  clear e1
  go_enter Try.func44, Try.ntmps44
  go_wp2
  exact bodyPost_ret (by simp [results, Try.results44, go_sem]) rfl ⟨rfl, rfl⟩
set_option maxRecDepth 100000 in
theorem value_15 (w : World) : Calls Try.prog 44 #[.int .i64 15] w fun e w' => e = .returned (.tuple #[.int .i64 (low 15), .int .i64 (high 15), .int .i64 (plain 15), .bool true]) ∧ w = w' := by
  have e1 : Value.tuple #[.int .i64 (low 15), .int .i64 (high 15), .int .i64 (plain 15), .bool true] = Value.tuple #[.int .i64 (0), .int .i64 4, .int .i64 (0), .bool true] := by simp [low, high, plain]
  rw [e1]
  clear e1
  go_enter Try.func44, Try.ntmps44
  go_wp2
  exact bodyPost_ret (by simp [results, Try.results44, go_sem]) rfl ⟨rfl, rfl⟩
set_option maxRecDepth 100000 in
theorem value_16 (w : World) : Calls Try.prog 44 #[.int .i64 16] w fun e w' => e = .returned (.tuple #[.int .i64 (low 16), .int .i64 (high 16), .int .i64 (plain 16), .bool true]) ∧ w = w' := by
  have e1 : Value.tuple #[.int .i64 (low 16), .int .i64 (high 16), .int .i64 (plain 16), .bool true] = Value.tuple #[.int .i64 (0), .int .i64 3, .int .i64 (0), .bool true] := by simp [low, high, plain]
  rw [e1]
  clear e1
  go_enter Try.func44, Try.ntmps44
  go_wp2
  exact bodyPost_ret (by simp [results, Try.results44, go_sem]) rfl ⟨rfl, rfl⟩
set_option maxRecDepth 100000 in
theorem value_17 (w : World) : Calls Try.prog 44 #[.int .i64 17] w fun e w' => e = .returned (.tuple #[.int .i64 (low 17), .int .i64 (high 17), .int .i64 (plain 17), .bool true]) ∧ w = w' := by
  have e1 : Value.tuple #[.int .i64 (low 17), .int .i64 (high 17), .int .i64 (plain 17), .bool true] = Value.tuple #[.int .i64 (0), .int .i64 16777215, .int .i64 (0), .bool true] := by simp [low, high, plain]
  rw [e1]
  clear e1
  go_enter Try.func44, Try.ntmps44
  go_wp2
  exact bodyPost_ret (by simp [results, Try.results44, go_sem]) rfl ⟨rfl, rfl⟩
set_option maxRecDepth 100000 in
theorem value_18 (w : World) : Calls Try.prog 44 #[.int .i64 18] w fun e w' => e = .returned (.tuple #[.int .i64 (low 18), .int .i64 (high 18), .int .i64 (plain 18), .bool true]) ∧ w = w' := by
  have e1 : Value.tuple #[.int .i64 (low 18), .int .i64 (high 18), .int .i64 (plain 18), .bool true] = Value.tuple #[.int .i64 (64), .int .i64 64000, .int .i64 (1024), .bool true] := by simp [low, high, plain]
  rw [e1]
  clear e1
  go_enter Try.func44, Try.ntmps44
  go_wp2
  exact bodyPost_ret (by simp [results, Try.results44, go_sem]) rfl ⟨rfl, rfl⟩
theorem value_any (p : Int) (h : isP p = true) (w : World) : Calls Try.prog 44 #[.int .i64 p] w fun e w' => e = .returned (.tuple #[.int .i64 (low p), .int .i64 (high p), .int .i64 (plain p), .bool true]) ∧ w = w' := by
  rcases cases19 h with rfl | rfl | rfl | rfl | rfl | rfl | rfl | rfl | rfl | rfl | rfl | rfl | rfl | rfl | rfl | rfl | rfl | rfl | rfl
  · exact value_0 w
  · exact value_1 w
  · exact value_2 w
  · exact value_3 w
  · exact value_4 w
  · exact value_5 w
  · exact value_6 w
  · exact value_7 w
  · exact value_8 w
  · exact value_9 w
  · exact value_10 w
  · exact value_11 w
  · exact value_12 w
  · exact value_13 w
  · exact value_14 w
  · exact value_15 w
  · exact value_16 w
  · exact value_17 w
  · exact value_18 w

set_option maxRecDepth 100000 in
set_option maxHeartbeats 1000000 in
theorem value_none (p : Int) (h : isP p = false) (w : World) : Calls Try.prog 44 #[.int .i64 p] w fun e w' => e = .returned (.tuple #[.int .i64 0, .int .i64 0, .int .i64 0, .bool false]) ∧ w = w' := by
  have h1 : p < 0 ∨ 18 < p := by simp [isP] at h; omega
  clear h
  rcases h1 with h1 | h1
  · go_enter Try.func44, Try.ntmps44
    go_wp2
    exact bodyPost_ret (by simp [results, Try.results44, go_sem]) rfl ⟨rfl, rfl⟩
  · go_enter Try.func44, Try.ntmps44
    go_wp2
    exact bodyPost_ret (by simp [results, Try.results44, go_sem]) rfl ⟨rfl, rfl⟩

theorem rcheck_any (p v : Int) (w : World) : Calls Try.prog 29 #[.int .i64 p, .int .i64 v] w fun e w' => e = .returned (.int .i64 (chk p v)) ∧ w = w' := by
  unfold chk
  cases hP : isP p with
  | true =>
    have hr := fun w => value_any p hP w
    have em : may p v = (decide (low p ≤ v) && decide (v ≤ high p)) := by simp [may, hP]
    rw [em]
    clear em
    simp only [if_true]
    generalize low p = l at *
    generalize high p = h at *
    generalize plain p = d at *
    have Hr := Lib.hid hr
    clear hr hP
    by_cases h1 : l ≤ v
    · by_cases h2 : v ≤ h
      · rw [show (if (decide (l ≤ v) && decide (v ≤ h)) = true then (0 : Int) else 9) = 0 by simp [h1, h2]]
        go_enter Try.func29, Try.ntmps29
        go_wp2_with (go_at_call 44; refine (Hr.out _).mono ?_; rintro e w1 ⟨rfl, rfl⟩)
        go_ret
        exact ⟨rfl, rfl⟩
      · rw [show (if (decide (l ≤ v) && decide (v ≤ h)) = true then (0 : Int) else 9) = 9 by rw [if_neg]; simp; omega]
        go_enter Try.func29, Try.ntmps29
        go_wp2_with (go_at_call 44; refine (Hr.out _).mono ?_; rintro e w1 ⟨rfl, rfl⟩)
        go_ret
        exact ⟨rfl, rfl⟩
    · rw [show (if (decide (l ≤ v) && decide (v ≤ h)) = true then (0 : Int) else 9) = 9 by rw [if_neg]; simp; omega]
      go_enter Try.func29, Try.ntmps29
      go_wp2_with (go_at_call 44; refine (Hr.out _).mono ?_; rintro e w1 ⟨rfl, rfl⟩)
      go_ret
      exact ⟨rfl, rfl⟩
  | false =>
    have Hr := Lib.hid (fun w => value_none p hP w)
    simp only [Bool.false_eq_true, if_false]
    clear hP
    go_enter Try.func29, Try.ntmps29
    go_wp2_with (go_at_call 44; refine (Hr.out _).mono ?_; rintro e w1 ⟨rfl, rfl⟩)
    go_ret
    exact ⟨rfl, rfl⟩

theorem rdefault_any (p : Int) (hP : isP p = true) (w : World) : Calls Try.prog 32 #[.int .i64 p] w fun e w' => e = .returned (.int .i64 (plain p)) ∧ w = w' := by
  have Hr := Lib.hid (fun w => value_any p hP w)
  clear hP
  generalize low p = l at *
  generalize high p = h at *
  generalize plain p = d at *
  go_enter Try.func32, Try.ntmps32
  go_wp2_with (go_at_call 44; refine (Hr.out _).mono ?_; rintro e w1 ⟨rfl, rfl⟩)
  go_ret
  exact ⟨rfl, rfl⟩

theorem rgoes_any (p : Int) (w : World) : Calls Try.prog 33 #[.int .i64 p] w fun e w' => e = .returned (.bool (goes p)) ∧ w = w' := by
  by_cases h1 : p = 17
  · subst h1
    go_enter Try.func33, Try.ntmps33
    go_wp2
    go_ret
    exact ⟨rfl, rfl⟩
  · rw [show goes p = (p == 18) by simp [goes, h1]]
    have h2 : (p == 17) = false := by simp [h1]
    clear h1
    go_enter Try.func33, Try.ntmps33
    go_wp2
    go_ret
    exact ⟨rfl, rfl⟩

theorem num18_any (p : Int) (w : World) : Calls Try.prog 30 #[.int .i64 p, .int .i64 18] w fun e w' => e = .returned (.bool (isP p)) ∧ w = w' := by
  by_cases h : 0 ≤ p
  · rw [show isP p = decide (p ≤ 18) by simp [isP, h]; omega]
    go_enter Try.func30, Try.ntmps30
    go_wp2
    go_ret
    exact ⟨rfl, rfl⟩
  · rw [show isP p = false by simp [isP]; omega]
    go_enter Try.func30, Try.ntmps30
    go_wp2
    go_ret
    exact ⟨rfl, rfl⟩
end Go.Proofs.Ytfgfoocmiflnmaa.My
