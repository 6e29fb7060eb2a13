/- Contracts of prop.May, Check, Default, Goes, of the reference's value, Check, Default, Goes, and of wakes: what each returns for every argument. -/
import Derived.Test.YtfgfoocmiflnmaaMyA
import Derived.Lib.Hide
namespace Go.Proofs.Ytfgfoocmiflnmaa.My
open Go.RowKit

theorem f48_0 (l h d : Int) (g : Bool) (w : World) : (Instr.field 48 (.agg #[.int .i64 l, .int .i64 h, .int .i64 d, .bool g]) 0).run Try.prog w = .ok (.int .i64 l) w := by kernel_rfl
theorem f48_1 (l h d : Int) (g : Bool) (w : World) : (Instr.field 48 (.agg #[.int .i64 l, .int .i64 h, .int .i64 d, .bool g]) 1).run Try.prog w = .ok (.int .i64 h) w := by kernel_rfl
theorem f48_2 (l h d : Int) (g : Bool) (w : World) : (Instr.field 48 (.agg #[.int .i64 l, .int .i64 h, .int .i64 d, .bool g]) 2).run Try.prog w = .ok (.int .i64 d) w := by kernel_rfl
theorem f48_3 (l h d : Int) (g : Bool) (w : World) : (Instr.field 48 (.agg #[.int .i64 l, .int .i64 h, .int .i64 d, .bool g]) 3).run Try.prog w = .ok (.bool g) w := by kernel_rfl

set_option maxHeartbeats 1000000 in
theorem may_any (p v : Int) (w : World) : Calls Try.prog 43 #[.int .i64 p, .int .i64 v] w fun e w' => e = .returned (.bool (may p v)) ∧ Below w.heap.size w w' := by
  cases hP : isP p with
  | true =>
    have e : may p v = (decide (low p ≤ v) && decide (v ≤ high p)) := by simp [may, hP]
    rw [e]
    clear e
    have hr := fun w => rule_any p hP w
    generalize low p = l at *
    generalize high p = h at *
    generalize plain p = d at *
    generalize goes p = g at *
    have Hr := Lib.hid hr
    have HP := Lib.hid hP
    have HB := Lib.hid (Below.refl w.heap.size w)
    clear hr hP
    have q0 := f48_0 l h d g
    have q1 := f48_1 l h d g
    have q2 := f48_2 l h d g
    have q3 := f48_3 l h d g
    by_cases h1 : l ≤ v
    · rw [show (decide (l ≤ v) && decide (v ≤ h)) = decide (v ≤ h) by simp [h1]]
      go_enter Try.func43, Try.ntmps43
      go_wp2_with (first | (go_at_call 41; refine (is_any _ _).mono ?_; rintro e w1 ⟨rfl, rfl⟩; rw [HP.out]) | (go_at_call 42; refine (Hr.out _).mono ?_; rintro e w1 ⟨rfl, hb⟩; replace HB := Lib.hid (HB.out.trans (hb.mono HB.out.size)); clear hb))
      go_ret
      exact ⟨rfl, HB.out⟩
    · rw [show (decide (l ≤ v) && decide (v ≤ h)) = false by simp; omega]
      go_enter Try.func43, Try.ntmps43
      go_wp2_with (first | (go_at_call 41; refine (is_any _ _).mono ?_; rintro e w1 ⟨rfl, rfl⟩; rw [HP.out]) | (go_at_call 42; refine (Hr.out _).mono ?_; rintro e w1 ⟨rfl, hb⟩; replace HB := Lib.hid (HB.out.trans (hb.mono HB.out.size)); clear hb))
      go_ret
      exact ⟨rfl, HB.out⟩
  | false =>
    have e : may p v = false := by simp [may, hP]
    rw [e]
    clear e
    have HP := Lib.hid hP
    clear hP
    go_enter Try.func43, Try.ntmps43
    go_wp2_with (go_at_call 41; refine (is_any _ _).mono ?_; rintro e w1 ⟨rfl, rfl⟩; rw [HP.out])
    go_ret
    exact ⟨rfl, Below.refl _ _⟩

theorem check_any (p v : Int) (w : World) : Calls Try.prog 27 #[.int .i64 p, .int .i64 v] w fun e w' => e = .returned (.int .i64 (chk p v)) ∧ Below w.heap.size w w' := by
  have hm := fun w => may_any p v w
  unfold chk
  cases hP : isP p with
  | true =>
    cases hM : may p v with
    | true =>
      rw [hM] at hm
      simp only [if_true]
      have HP := Lib.hid hP
      have Hm := Lib.hid hm
      clear hP hm hM
      go_enter Try.func27, Try.ntmps27
      go_wp2_with (first | (go_at_call 41; refine (is_any _ _).mono ?_; rintro e w1 ⟨rfl, rfl⟩; rw [HP.out]) | (go_at_call 43; refine (Hm.out _).mono ?_; rintro e w1 ⟨rfl, hb⟩; have HB := Lib.hid hb; clear hb))
      go_ret
      exact ⟨rfl, HB.out⟩
    | false =>
      rw [hM] at hm
      simp only [if_true, Bool.false_eq_true, if_false]
      have HP := Lib.hid hP
      have Hm := Lib.hid hm
      clear hP hm hM
      go_enter Try.func27, Try.ntmps27
      go_wp2_with (first | (go_at_call 41; refine (is_any _ _).mono ?_; rintro e w1 ⟨rfl, rfl⟩; rw [HP.out]) | (go_at_call 43; refine (Hm.out _).mono ?_; rintro e w1 ⟨rfl, hb⟩; have HB := Lib.hid hb; clear hb))
      go_ret
      exact ⟨rfl, HB.out⟩
  | false =>
    simp only [Bool.false_eq_true, if_false]
    have HP := Lib.hid hP
    clear hP hm
    go_enter Try.func27, Try.ntmps27
    go_wp2_with (go_at_call 41; refine (is_any _ _).mono ?_; rintro e w1 ⟨rfl, rfl⟩; rw [HP.out])
    go_ret
    exact ⟨rfl, Below.refl _ _⟩

theorem default_any (p : Int) (hP : isP p = true) (w : World) : Calls Try.prog 25 #[.int .i64 p] w fun e w' => e = .returned (.tuple #[.int .i64 (plain p), .int .i64 0]) ∧ Below w.heap.size w w' := by
  have hr := fun w => rule_any p hP w
  generalize low p = l at *
  generalize high p = h at *
  generalize plain p = d at *
  generalize goes p = g at *
  have Hr := Lib.hid hr
  have HP := Lib.hid hP
  have HB := Lib.hid (Below.refl w.heap.size w)
  clear hr hP
  have q0 := f48_0 l h d g
  have q1 := f48_1 l h d g
  have q2 := f48_2 l h d g
  have q3 := f48_3 l h d g
  go_enter Try.func25, Try.ntmps25
  go_wp2_with (first | (go_at_call 41; refine (is_any _ _).mono ?_; rintro e w1 ⟨rfl, rfl⟩; rw [HP.out]) | (go_at_call 42; refine (Hr.out _).mono ?_; rintro e w1 ⟨rfl, hb⟩; replace HB := Lib.hid (HB.out.trans (hb.mono HB.out.size)); clear hb))
  go_ret2
  exact ⟨rfl, HB.out⟩

theorem default_none (p : Int) (hP : isP p = false) (w : World) : Calls Try.prog 25 #[.int .i64 p] w fun e w' => e = .returned (.tuple #[.int .i64 0, .int .i64 3]) ∧ Below w.heap.size w w' := by
  have HP := Lib.hid hP
  clear hP
  go_enter Try.func25, Try.ntmps25
  go_wp2_with (go_at_call 41; refine (is_any _ _).mono ?_; rintro e w1 ⟨rfl, rfl⟩; rw [HP.out])
  go_ret2
  exact ⟨rfl, Below.refl _ _⟩

theorem goes_any (p : Int) (hP : isP p = true) (w : World) : Calls Try.prog 31 #[.int .i64 p] w fun e w' => e = .returned (.tuple #[.bool (goes p), .int .i64 0]) ∧ Below w.heap.size w w' := by
  have hr := fun w => rule_any p hP w
  generalize low p = l at *
  generalize high p = h at *
  generalize plain p = d at *
  generalize goes p = g at *
  have Hr := Lib.hid hr
  have HP := Lib.hid hP
  have HB := Lib.hid (Below.refl w.heap.size w)
  clear hr hP
  have q0 := f48_0 l h d g
  have q1 := f48_1 l h d g
  have q2 := f48_2 l h d g
  have q3 := f48_3 l h d g
  go_enter Try.func31, Try.ntmps31
  go_wp2_with (first | (go_at_call 41; refine (is_any _ _).mono ?_; rintro e w1 ⟨rfl, rfl⟩; rw [HP.out]) | (go_at_call 42; refine (Hr.out _).mono ?_; rintro e w1 ⟨rfl, hb⟩; replace HB := Lib.hid (HB.out.trans (hb.mono HB.out.size)); clear hb))
  go_ret2
  exact ⟨rfl, HB.out⟩

theorem goes_none (p : Int) (hP : isP p = false) (w : World) : Calls Try.prog 31 #[.int .i64 p] w fun e w' => e = .returned (.tuple #[.bool false, .int .i64 3]) ∧ Below w.heap.size w w' := by
  have HP := Lib.hid hP
  clear hP
  go_enter Try.func31, Try.ntmps31
  go_wp2_with (go_at_call 41; refine (is_any _ _).mono ?_; rintro e w1 ⟨rfl, rfl⟩; rw [HP.out])
  go_ret2
  exact ⟨rfl, Below.refl _ _⟩

theorem wakes_any (w : World) : Calls Try.prog 28 #[] w fun e w' => e = .returned (.bool true) ∧ Below w.heap.size w w' := by
  have hc := fun w => check_any 9 (-1) w
  rw [show chk 9 (-1) = 9 by decide] at hc
  have Hc := Lib.hid hc
  clear hc
  go_enter Try.func28, Try.ntmps28
  go_wp2_with (first | (go_at_call 27; refine (Hc.out _).mono ?_; rintro e w1 ⟨rfl, hb⟩; have HB := Lib.hid hb; clear hb) | (go_at_call 26; refine (num_any _ _).mono ?_; rintro e w1 ⟨rfl, rfl⟩))
  go_ret
  exact ⟨rfl, HB.out⟩
end Go.Proofs.Ytfgfoocmiflnmaa.My
