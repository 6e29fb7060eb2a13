/- Contracts of the functions over lists of numbers. -/
import Derived.Test.YtfgfoocmiflnmaaMyE6
import Derived.Test.YtfgfoocmiflnmaaMyC
namespace Go.Proofs.Ytfgfoocmiflnmaa.My
open Go.RowKit Go.Arr

/-- A slice that reads as numbers. -/
def Ints (w : World) (A : Option Addr) (m : Nat) (xs : List Int) : Prop := xs.length = m ∧ (0 < m → ∃ ad, A = some ad ∧ ∀ k x, xs[k]? = some x → w.cell? (ad.add k) = some (.int .i64 x))
theorem Ints.keep {w w' : World} {A : Option Addr} {m : Nat} {xs : List Int} (h : Ints w A m xs) (hc : Ch No w w') : Ints w' A m xs :=
  ⟨h.1, fun hm => by
    obtain ⟨ad, e, hx⟩ := h.2 hm
    exact ⟨ad, e, fun k x hk => hc.cell (hx k x hk) id⟩⟩
theorem Ints.at_ {w : World} {ad : Addr} {m : Nat} {xs : List Int} (h : Ints w (some ad) m xs) {k : Nat} (hk : k < m) : w.cell? (ad.add k) = some (.int .i64 (xs.getD k 0)) := by
  obtain ⟨a, e, hx⟩ := h.2 (by omega)
  cases e
  refine hx k _ ?_
  have hl : k < xs.length := by rw [h.1]; exact hk
  rw [List.getD_eq_getElem?_getD, List.getElem?_eq_getElem hl]
  rfl
theorem take_succ_getD {xs : List Int} {k : Nat} (h : k < xs.length) : xs.take (k + 1) = xs.take k ++ [xs.getD k 0] := by
  rw [List.take_add_one, List.getD_eq_getElem?_getD, List.getElem?_eq_getElem h]
  rfl
def plainTo (k : Nat) : List Value := (List.range k).map fun (j : Nat) => Value.int .i64 (plain (j : Int))
theorem plainTo_succ (k : Nat) : plainTo (k + 1) = plainTo k ++ [.int .i64 (plain (k : Int))] := by simp [plainTo, List.range_succ]
/-- The style of all defaults, in new memory. -/
def NewPlain (w w' : World) (A : Option Addr) (c : Nat) : Prop := Ch No w w' ∧ (Row 3 1 (.slice A 19 c) 19 (plainTo 19)).P w' ∧ ∀ b, (Row 3 1 (.slice A 19 c) 19 (plainTo 19)).F b → w.heap.size ≤ b ∧ b < w'.heap.size
theorem isP_nat {k : Nat} (h : k < 19) : isP (k : Int) = true := by simp [isP]; omega
def wholeTo (xs : List Int) (k : Nat) : Bool := (List.range k).all fun (j : Nat) => may (j : Int) (xs.getD j 0)
/-- A style of all properties. -/
def whole (xs : List Int) : Bool := decide (xs.length = 19) && wholeTo xs xs.length
theorem wholeTo_succ (xs : List Int) (k : Nat) : wholeTo xs (k + 1) = (wholeTo xs k && may (k : Int) (xs.getD k 0)) := by simp [wholeTo, List.range_succ]
theorem whole_bad {xs : List Int} {k : Nat} (hk : k < xs.length) (h : may (k : Int) (xs.getD k 0) = false) : whole xs = false := by
  have : wholeTo xs xs.length = false := by
    simp only [wholeTo, List.all_eq_false, List.mem_range]
    exact ⟨k, hk, by rw [h]; simp⟩
  simp [whole, this]
theorem whole_ok {xs : List Int} (h : wholeTo xs xs.length = true) : whole xs = decide (xs.length = 19) := by simp [whole, h]
theorem chk_zero {p v : Int} (h : isP p = true) : (chk p v = 0) ↔ may p v = true := by
  unfold chk
  rw [if_pos h]
  cases may p v <;> simp
theorem eqn_any (A B : Option Addr) (m c m' c' : Nat) (xs ys : List Int) (w : World) (hA : Ints w A m xs) (hB : Ints w B m' ys) (hm : m ≤ 9223372036854775807) : Calls Try.prog 46 #[.slice A m c, .slice B m' c'] w fun e w' => e = .returned (.bool (decide (xs = ys))) ∧ Below w.heap.size w w' := by
  have hS0 := St.start No w
  refine Calls_of (fn := Try.f46) (args := [.slice A m c, .slice B m' c']) Try.func46 rfl rfl ?_
  refine W_regS [0] (by kernel_rfl) ?_
  refine WO_batch [0] [] [0, 1, 4] [(0, .slice A m c), (1, .slice B m' c'), (4, .bool false)] (by kernel_rfl) ?_
  refine WO_endS ?_
  refine W_seq ?_
  refine W_regS [0, 1, 2, 3, 4] (by kernel_rfl) ?_
  refine WO_batch [0, 1, 2, 3, 4] [] [0, 1, 4, 10] [(0, .slice A m c), (1, .slice B m' c'), (4, .bool false), (10, .bool (!decide ((m : Int) = (m' : Int))))] (by kernel_rfl) ?_
  refine WO_endS ?_
  refine W_cond (t := !decide ((m : Int) = (m' : Int))) rfl rfl (fun hb1 => ?_) (fun hb1 => ?_)
  · simp only [hb1]
    have h2 : ¬ ((m : Int) = (m' : Int)) := by simpa using hb1
    refine W_regS [0] (by kernel_rfl) ?_
    refine WO_batch [0] [] [0, 1, 4] [(0, .slice A m c), (1, .slice B m' c'), (4, .bool false)] (by kernel_rfl) ?_
    refine WO_endS ?_
    refine W_ret ?_
    repeat (first | refine ret_then ?_ | refine ret_block ?_ | refine ret_labels ?_)
    refine ret_ (fn := Try.f46) (rs := [.tmp 4]) (vs := [.bool false]) rfl ?_ ?_
    · exact (.tmp rfl .nil)
    exact ⟨congrArg (fun b => Ending.returned (.bool b)) (decide_eq_false (fun e => by have := hA.1; have := hB.1; rw [e] at *; omega)).symm, hS0.ch.below⟩
  · simp only [hb1]
    have h3 : (m : Int) = (m' : Int) := by simpa using hb1
    refine W_skip ?_
    repeat (first | refine normal_block ?_ | refine normal_labels ?_)
    refine W_next ?_
    refine W_seq ?_
    refine W_regS [0] (by kernel_rfl) ?_
    refine WO_batch [0] [] [0, 1, 4, 5] [(0, .slice A m c), (1, .slice B m' c'), (4, .bool false), (5, .int .i64 0)] (by kernel_rfl) ?_
    refine WO_endS ?_
    refine W_block ?_
    refine W_loop (σ := Nat) (fun k => [(0, .slice A m c), (1, .slice B m' c'), (4, .bool false), (5, .int .i64 (k : Int))]) (fun k wl => k ≤ m ∧ m = m' ∧ xs.take k = ys.take k ∧ St No w wl []) (fun k => m - k) 0 (Env.sub_cons rfl (Env.sub_cons rfl (Env.sub_cons rfl (Env.sub_cons rfl (Env.sub_nil _))))) (⟨Nat.zero_le _, by omega, rfl, hS0⟩) ?_
    intro k w4 hI5
    obtain ⟨hk0, hmm, hkt, hS1⟩ := hI5
    refine W_seq ?_
    refine W_regS [0, 1, 2, 3] (by kernel_rfl) ?_
    refine WO_batch [0, 1, 2, 3] [] [0, 1, 4, 5, 14] [(0, .slice A m c), (1, .slice B m' c'), (4, .bool false), (5, .int .i64 (k : Int)), (14, .bool (decide ((k : Int) < (m : Int))))] (by kernel_rfl) ?_
    refine WO_endS ?_
    refine W_cond (t := decide ((k : Int) < (m : Int))) rfl rfl (fun hb6 => ?_) (fun hb6 => ?_)
    · simp only [hb6]
      have h7 : (k : Int) < (m : Int) := by simpa using hb6
      have hk : k < m := by omega
      have hk' : k < m' := by omega
      obtain ⟨a1, ha1, _⟩ := hA.2 (by omega)
      obtain ⟨a2, ha2, _⟩ := hB.2 (by omega)
      refine W_skip ?_
      repeat (first | refine normal_block ?_ | refine normal_labels ?_)
      refine W_next ?_
      refine W_seq ?_
      refine W_block ?_
      refine W_drawS (W_drawL [([], [0]), ([], [5]), ([0, 1], []), ([0, 1, 2], []), ([], [1]), ([], [5]), ([4, 5], []), ([4, 5, 6], []), ([0, 1, 2, 3, 4, 5, 6, 7], []), ([8], [0, 1, 4, 5, 14])] [Is (.slice A m c), Is (.int .i64 (k : Int)), Is (.pointer (some (a1.add (k * 1)))), Is (.int .i64 (xs.getD k 0)), Is (.slice B m' c'), Is (.int .i64 (k : Int)), Is (.pointer (some (a2.add (k * 1)))), Is (.int .i64 (ys.getD k 0)), Is (.bool (!decide ((xs.getD k 0) = (ys.getD k 0))))] 9 (by kernel_rfl) (by kernel_rfl) (by kernel_rfl) ⟨Is.stab _, ⟨Is.stab _, ⟨Is.stab _, ⟨Is.stab _, ⟨Is.stab _, ⟨Is.stab _, ⟨Is.stab _, ⟨Is.stab _, ⟨Is.stab _, trivial⟩⟩⟩⟩⟩⟩⟩⟩⟩ ?_ ?_)
      · refine ⟨⟨⟨⟨⟨⟨⟨⟨⟨trivial, ?_⟩, ?_⟩, ?_⟩, ?_⟩, ?_⟩, ?_⟩, ?_⟩, ?_⟩, ?_⟩
        · intro vs wi hr hj
          refine One.env (L' := [(0, .slice A m c)]) (Env.sub_cons (by kernel_rfl) (Env.sub_nil _)) ?_
          exact One_pureD (v := .slice A m c) (by kernel_rfl)
        · intro vs wi hr hj
          refine One.env (L' := [(5, .int .i64 (k : Int))]) (Env.sub_cons (by kernel_rfl) (Env.sub_nil _)) ?_
          exact One_pureD (v := .int .i64 (k : Int)) (by kernel_rfl)
        · intro vs wi hr hj
          have e8 : vs 0 = .slice A m c := hj 0 rfl
          have e9 : vs 1 = .int .i64 (k : Int) := hj 1 rfl
          refine One.env (L' := [(17, .slice A m c), (18, .int .i64 (k : Int))]) (sub_vs (x := vs 0) (by kernel_rfl) e8 (sub_vs (x := vs 1) (by kernel_rfl) e9 (Env.sub_nil _))) ?_
          exact One_indexN (i := 2) (t := 23) (ty := 0) (x := (Operand.tmp 17)) (y := (Operand.tmp 18)) (A := A) (a := a1) (len := m) (cap := c) (k := .i64) (j := k) (e := 3) (sz := 1) (by kernel_rfl) (by kernel_rfl) (by kernel_rfl) (by kernel_rfl) (by kernel_rfl) ha1 (by omega) ⟨rfl, Ch.refl _ _⟩
        · intro vs wi hr hj
          have e10 : vs 2 = .pointer (some (a1.add (k * 1))) := hj 2 rfl
          refine One.env (L' := [(19, .pointer (some (a1.add (k * 1))))]) (sub_vs (x := vs 2) (by kernel_rfl) e10 (Env.sub_nil _)) ?_
          have hS11 := hS1.drew.keep hr
          exact One_load (t := 3) (ty := 3) (x := (Operand.tmp 19)) (a := a1.add (k * 1)) (v := .int .i64 (xs.getD k 0)) (by kernel_rfl) (by kernel_rfl) (by rw [Nat.mul_one]; exact run_load1 (by kernel_rfl) (hS11.old ((ha1 ▸ hA).at_ hk) id)) ⟨rfl, Ch.refl _ _⟩
        · intro vs wi hr hj
          refine One.env (L' := [(1, .slice B m' c')]) (Env.sub_cons (by kernel_rfl) (Env.sub_nil _)) ?_
          exact One_pureD (v := .slice B m' c') (by kernel_rfl)
        · intro vs wi hr hj
          refine One.env (L' := [(5, .int .i64 (k : Int))]) (Env.sub_cons (by kernel_rfl) (Env.sub_nil _)) ?_
          exact One_pureD (v := .int .i64 (k : Int)) (by kernel_rfl)
        · intro vs wi hr hj
          have e12 : vs 4 = .slice B m' c' := hj 4 rfl
          have e13 : vs 5 = .int .i64 (k : Int) := hj 5 rfl
          refine One.env (L' := [(21, .slice B m' c'), (22, .int .i64 (k : Int))]) (sub_vs (x := vs 4) (by kernel_rfl) e12 (sub_vs (x := vs 5) (by kernel_rfl) e13 (Env.sub_nil _))) ?_
          exact One_indexN (i := 6) (t := 23) (ty := 0) (x := (Operand.tmp 21)) (y := (Operand.tmp 22)) (A := B) (a := a2) (len := m') (cap := c') (k := .i64) (j := k) (e := 3) (sz := 1) (by kernel_rfl) (by kernel_rfl) (by kernel_rfl) (by kernel_rfl) (by kernel_rfl) ha2 (by omega) ⟨rfl, Ch.refl _ _⟩
        · intro vs wi hr hj
          have e14 : vs 6 = .pointer (some (a2.add (k * 1))) := hj 6 rfl
          refine One.env (L' := [(23, .pointer (some (a2.add (k * 1))))]) (sub_vs (x := vs 6) (by kernel_rfl) e14 (Env.sub_nil _)) ?_
          have hS15 := hS1.drew.keep hr
          exact One_load (t := 3) (ty := 3) (x := (Operand.tmp 23)) (a := a2.add (k * 1)) (v := .int .i64 (ys.getD k 0)) (by kernel_rfl) (by kernel_rfl) (by rw [Nat.mul_one]; exact run_load1 (by kernel_rfl) (hS15.old ((ha2 ▸ hB).at_ hk') id)) ⟨rfl, Ch.refl _ _⟩
        · intro vs wi hr hj
          have e16 : vs 3 = .int .i64 (xs.getD k 0) := hj 3 rfl
          have e17 : vs 7 = .int .i64 (ys.getD k 0) := hj 7 rfl
          refine One.env (L' := [(24, .int .i64 (ys.getD k 0)), (20, .int .i64 (xs.getD k 0))]) (sub_vs (x := vs 7) (by kernel_rfl) e17 (sub_vs (x := vs 3) (by kernel_rfl) e16 (Env.sub_nil _))) ?_
          exact One_pureD (v := .bool (!decide ((xs.getD k 0) = (ys.getD k 0)))) (by kernel_rfl)
      · intro vs w18 hr hj
        have e19 : vs 8 = .bool (!decide ((xs.getD k 0) = (ys.getD k 0))) := hj 8 (by decide)
        refine WO_sub (L' := [(0, .slice A m c), (1, .slice B m' c'), (4, .bool false), (5, .int .i64 (k : Int)), (14, .bool true), (25, .bool (!decide ((xs.getD k 0) = (ys.getD k 0))))]) (Env.sub_cons (by kernel_rfl) (Env.sub_cons (by kernel_rfl) (Env.sub_cons (by kernel_rfl) (Env.sub_cons (by kernel_rfl) (Env.sub_cons (by kernel_rfl) (sub_vs (x := vs 8) (by kernel_rfl) e19 (Env.sub_nil _))))))) ?_
        have hS20 := hS1.drew.keep hr
        refine WO_endS ?_
        refine W_cond (t := !decide ((xs.getD k 0) = (ys.getD k 0))) rfl rfl (fun hb21 => ?_) (fun hb21 => ?_)
        · simp only [hb21]
          have h22 : ¬ ((xs.getD k 0) = (ys.getD k 0)) := by simpa using hb21
          have heq' : ¬ ((xs.getD k 0) = (ys.getD k 0)) := h22
          refine W_regS [0] (by kernel_rfl) ?_
          refine WO_batch [0] [] [0, 1, 5, 14, 25, 4] [(0, .slice A m c), (1, .slice B m' c'), (5, .int .i64 (k : Int)), (14, .bool true), (25, .bool true), (4, .bool false)] (by kernel_rfl) ?_
          refine WO_endS ?_
          refine W_ret ?_
          repeat (first | refine ret_then ?_ | refine ret_block ?_ | refine ret_labels ?_)
          refine ret_ (fn := Try.f46) (rs := [.tmp 4]) (vs := [.bool false]) rfl ?_ ?_
          · exact (.tmp rfl .nil)
          exact ⟨congrArg (fun b => Ending.returned (.bool b)) (decide_eq_false (fun e => heq' (by rw [e]))).symm, hS20.ch.below⟩
        · simp only [hb21]
          have h23 : (xs.getD k 0) = (ys.getD k 0) := by simpa using hb21
          have heq : (xs.getD k 0) = (ys.getD k 0) := h23
          refine W_skip ?_
          repeat (first | refine normal_block ?_ | refine normal_labels ?_)
          refine W_next ?_
          refine W_reg [0, 1, 2] (by kernel_rfl) ?_
          refine WO_batch [0, 1] [2] [0, 1, 4, 5, 14, 25, 16] [(0, .slice A m c), (1, .slice B m' c'), (4, .bool false), (5, .int .i64 (k : Int)), (14, .bool true), (25, .bool false), (16, .int .i64 (IntKind.i64.wrap ((k : Int) + 1)))] (by kernel_rfl) ?_
          rw [wrap_i64 (n := (k : Int) + 1) (by omega)]
          refine WO_batch [2] [] [0, 1, 4, 14, 25, 5] [(0, .slice A m c), (1, .slice B m' c'), (4, .bool false), (14, .bool true), (25, .bool false), (5, .int .i64 ((k : Int) + 1))] (by kernel_rfl) ?_
          refine WO_nil ?_
          repeat (first | refine normal_block ?_ | refine normal_labels ?_)
          refine normal_then (again (w := w18) (E := fun (k : Nat) => [(0, .slice A m c), (1, .slice B m' c'), (4, .bool false), (5, .int .i64 (k : Int))]) (I := fun (k : Nat) wl => k ≤ m ∧ m = m' ∧ xs.take k = ys.take k ∧ St No w wl []) (μ := fun (k : Nat) => m - k) (s := k) (k + 1) ?_ ?_ ?_)
          · exact (Env.sub_cons rfl (Env.sub_cons rfl (Env.sub_cons rfl (Env.sub_cons rfl (Env.sub_nil _)))))
          · exact ⟨by omega, hmm, by rw [take_succ_getD (by rw [hA.1]; exact hk), take_succ_getD (by rw [hB.1]; exact hk'), hkt, heq], hS20⟩
          · exact (by omega)
    · simp only [hb6]
      have h24 : ¬ ((k : Int) < (m : Int)) := by simpa using hb6
      refine W_exit ?_
      repeat (first | refine exit_then ?_ | refine exit_labels ?_)
      refine exit_in ?_
      repeat (first | refine normal_block ?_ | refine normal_labels ?_)
      refine W_next ?_
      refine W_regS [0] (by kernel_rfl) ?_
      refine WO_batch [0] [] [4] [(4, .bool true)] (by kernel_rfl) ?_
      refine WO_endS ?_
      refine W_ret ?_
      repeat (first | refine ret_then ?_ | refine ret_block ?_ | refine ret_labels ?_)
      refine ret_ (fn := Try.f46) (rs := [.tmp 4]) (vs := [.bool true]) rfl ?_ ?_
      · exact (.tmp rfl .nil)
      have e1 : k = m := by omega
      have e2 := hkt
      rw [e1, List.take_of_length_le (by rw [hA.1]; exact Nat.le_refl _), List.take_of_length_le (by rw [hB.1]; omega)] at e2
      exact ⟨congrArg (fun b => Ending.returned (.bool b)) (decide_eq_true e2).symm, hS1.ch.below⟩

theorem eqs_any (A B : Option Addr) (m c m' c' : Nat) (xs ys : List Int) (w : World) (hA : Ints w A m xs) (hB : Ints w B m' ys) (hm : m ≤ 9223372036854775807) : Calls Try.prog 37 #[.agg #[.slice A m c], .agg #[.slice B m' c']] w fun e w' => e = .returned (.bool (decide (xs = ys))) ∧ Below w.heap.size w w' := by
  have hS0 := St.start No w
  refine Calls_of (fn := Try.f37) (args := [.agg #[.slice A m c], .agg #[.slice B m' c']]) Try.func37 rfl rfl ?_
  refine W_regS [0, 1, 2] (by kernel_rfl) ?_
  refine WO_of_one (by kernel_rfl) (One_new (x := ((Op.box 32 (Operand.tmp 0)), 0)) (t := 32) (cs := [.slice A m c]) (mk := fun r => .pointer (some ⟨r, 0, none⟩)) (by kernel_rfl) hS0 (fun r => by kernel_rfl) (fun g1 w2 hS3 hc4 => ?_))
  refine WO_of_one (by kernel_rfl) (One_new (x := ((Op.box 32 (Operand.tmp 1)), 0)) (t := 32) (cs := [.slice B m' c']) (mk := fun r => .pointer (some ⟨r, 0, none⟩)) (by kernel_rfl) hS3 (fun r => by kernel_rfl) (fun g5 w6 hS7 hc8 => ?_))
  refine WO_batch [2] [] [2, 3, 4] [(2, .pointer (some ⟨g1, 0, none⟩)), (3, .pointer (some ⟨g5, 0, none⟩)), (4, .bool false)] (by kernel_rfl) ?_
  refine WO_endS ?_
  refine W_regS [0, 1, 2, 3, 4, 5] (by kernel_rfl) ?_
  refine WO_batch [0] [1, 2, 3, 4, 5] [3, 4, 5] [(3, .pointer (some ⟨g5, 0, none⟩)), (4, .bool false), (5, .pointer (some ⟨g1, 0, none⟩))] (by kernel_rfl) ?_
  refine WO_of_one (by kernel_rfl) (One_load (t := 23) (ty := 23) (x := (Operand.tmp 5)) (a := ⟨g1, 0, none⟩) (v := .slice A m c) (by kernel_rfl) (by kernel_rfl) (run_loadBlk1 (hS7.get (i := 1) rfl) (by kernel_rfl) rfl) ?_)
  refine WO_batch [2] [3, 4, 5] [4, 6, 7] [(4, .bool false), (6, .slice A m c), (7, .pointer (some ⟨g5, 0, none⟩))] (by kernel_rfl) ?_
  refine WO_of_one (by kernel_rfl) (One_load (t := 23) (ty := 23) (x := (Operand.tmp 7)) (a := ⟨g5, 0, none⟩) (v := .slice B m' c') (by kernel_rfl) (by kernel_rfl) (run_loadBlk1 (hS7.get (i := 0) rfl) (by kernel_rfl) rfl) ?_)
  refine WO_callB ((Op.call { callee := (Callee.value (Operand.func 46)), args := #[(Operand.tmp 6), (Operand.tmp 8)], argTypes := #[23, 23] }), 4) #[.slice A m c, .slice B m' c'] (.bool (decide (xs = ys))) (by kernel_rfl) (by kernel_rfl) (by kernel_rfl) (eqn_any A B m c m' c' xs ys w6 (hA.keep hS7.ch) (hB.keep hS7.ch) hm) (fun w9 hc10 => ?_)
  have hS11 := hS7.keep hc10
  refine WO_batch [5] [] [4] [(4, .bool (decide (xs = ys)))] (by kernel_rfl) ?_
  refine WO_endS ?_
  refine W_ret ?_
  repeat (first | refine ret_then ?_ | refine ret_block ?_ | refine ret_labels ?_)
  refine ret_ (fn := Try.f37) (rs := [.tmp 4]) (vs := [.bool (decide (xs = ys))]) rfl ?_ ?_
  · exact (.tmp rfl .nil)
  exact ⟨rfl, hS11.ch.below⟩

theorem plain_any (w : World) : Calls Try.prog 36 #[] w fun e w' => ∃ (A : Option Addr) (c : Nat), e = .returned (.agg #[.slice A 19 c]) ∧ NewPlain w w' A c := by
  have hS0 := St.start No w
  refine Calls_of (fn := Try.f36) (args := []) Try.func36 rfl rfl ?_
  refine W_regS [0] (by kernel_rfl) ?_
  refine WO_of_one (by kernel_rfl) (One_new (x := ((Op.alloc 32), 0)) (t := 32) (cs := [.slice none 0 0]) (mk := fun r => .pointer (some ⟨r, 0, none⟩)) (by kernel_rfl) hS0 (fun r => by kernel_rfl) (fun g1 w2 hS3 hc4 => ?_))
  refine WO_endS ?_
  refine W_seq ?_
  refine W_regS [0] (by kernel_rfl) ?_
  refine WO_batch [0] [] [0, 2] [(0, .pointer (some ⟨g1, 0, none⟩)), (2, .int .i64 0)] (by kernel_rfl) ?_
  refine WO_endS ?_
  refine W_block ?_
  have hS0r := Row.nil (e := 3) (sz := 1) hS3
  refine W_loop (σ := Nat) (fun k => [(0, .pointer (some ⟨g1, 0, none⟩)), (2, .int .i64 (k : Int))]) (fun k wl => k ≤ 19 ∧ ∃ (A : Option Addr) (c : Nat), St No w wl [Row 3 1 (.slice A k c) k (plainTo k), Blk g1 32 [.slice A k c]]) (fun k => 19 - k) 0 (Env.sub_cons rfl (Env.sub_cons rfl (Env.sub_nil _))) (⟨by omega, none, 0, hS0r⟩) ?_
  intro k w5 hI6
  obtain ⟨hk, A, c, hS1⟩ := hI6
  refine W_regS [0] (by kernel_rfl) ?_
  refine WO_batch [0] [] [0, 2, 3] [(0, .pointer (some ⟨g1, 0, none⟩)), (2, .int .i64 (k : Int)), (3, .bool (decide ((k : Int) < 19)))] (by kernel_rfl) ?_
  refine WO_endS ?_
  refine W_seq ?_
  refine W_cond (t := decide ((k : Int) < 19)) rfl rfl (fun hb7 => ?_) (fun hb7 => ?_)
  · simp only [hb7]
    have h8 : (k : Int) < 19 := by simpa using hb7
    refine W_skip ?_
    repeat (first | refine normal_block ?_ | refine normal_labels ?_)
    refine W_next ?_
    refine W_seq ?_
    refine W_block ?_
    refine W_regS [0, 1] (by kernel_rfl) ?_
    refine WO_batch [0, 1] [] [0, 2, 3, 1] [(0, .pointer (some ⟨g1, 0, none⟩)), (2, .int .i64 (k : Int)), (3, .bool true), (1, .int .i64 (k : Int))] (by kernel_rfl) ?_
    refine WO_endS ?_
    refine (W_drawT [([], [0]), ([0], []), ([], [1]), ([2], []), ([2, 3], []), ([2, 3, 4], []), ([0, 1, 2, 3, 4, 5], []), ([0, 1, 2, 3, 4, 5, 6], [0]), ([0, 1, 2, 3, 4, 5, 6, 7], []), ([], [0, 2, 3, 1])] [(fun vv => vv = .pointer (some ⟨g1, 0, none⟩)), (fun vv => vv = .slice A k c), (fun vv => vv = .int .i64 (k : Int)), (fun vv => vv = .agg #[.int .i64 (low (k : Int)), .int .i64 (high (k : Int)), .int .i64 (plain (k : Int)), .bool (goes (k : Int))]), (fun vv => vv = .int .i64 (plain (k : Int))), Any, Any, (fun vv => vv = .pointer (some ⟨g1, 0, none⟩)), Any] [AnyW, AnyW, AnyW, AnyW, AnyW, NewAt w5.drew (fun r => .slice (some ⟨r, 0, none⟩) 1 1) 3 [.int .i64 (plain (k : Int))], AnyW, AnyW, AnyW] [fun vv wl => ∃ A9 : Option Addr, ∃ cc10 : Nat, vv = .slice A9 (k + 1) cc10 ∧ St No w wl [Row 3 1 (.slice A9 (k + 1) cc10) (k + 1) (plainTo k ++ [.int .i64 (plain (k : Int))]), Blk g1 32 [.slice A k c]], fun _ wl => ∃ A9 : Option Addr, ∃ cc10 : Nat, St No w wl [Row 3 1 (.slice A9 (k + 1) cc10) (k + 1) (plainTo k ++ [.int .i64 (plain (k : Int))]), Blk g1 32 [.slice A9 (k + 1) cc10]]] [6, 8] [0, 2, 4, 7] 9 (by kernel_rfl) (by kernel_rfl) (by kernel_rfl) (by kernel_rfl) ⟨AnyW.stab, ⟨AnyW.stab, ⟨AnyW.stab, ⟨AnyW.stab, ⟨AnyW.stab, ⟨NewAt.stab, ⟨AnyW.stab, ⟨AnyW.stab, ⟨AnyW.stab, trivial⟩⟩⟩⟩⟩⟩⟩⟩⟩ (by decide) ?_ ?_)
    · refine ⟨⟨⟨⟨⟨⟨⟨⟨⟨trivial, ?_⟩, ?_⟩, ?_⟩, ?_⟩, ?_⟩, ?_⟩, ?_⟩, ?_⟩, ?_⟩
      · intro vs wi hj
        refine One.env (L' := [(0, .pointer (some ⟨g1, 0, none⟩))]) (Env.sub_cons (by kernel_rfl) (Env.sub_nil _)) ?_
        exact One_pureT (v := .pointer (some ⟨g1, 0, none⟩)) (by kernel_rfl) rfl
      · intro vs wi hr hj
        have e11 : vs 0 = .pointer (some ⟨g1, 0, none⟩) := (hj 0 rfl).1
        refine One.env (L' := [(5, .pointer (some ⟨g1, 0, none⟩))]) (sub_vs (x := vs 0) (by kernel_rfl) e11 (Env.sub_nil _)) ?_
        have hS12 := hS1.drew.keep hr
        exact One_load (t := 23) (ty := 23) (x := (Operand.tmp 5)) (a := ⟨g1, 0, none⟩) (v := .slice A k c) (by kernel_rfl) (by kernel_rfl) (run_loadBlk1 (hS12.get (i := 1) rfl) (by kernel_rfl) rfl) ⟨rfl, trivial, Ch.refl _ _⟩
      · intro vs wi hj
        refine One.env (L' := [(1, .int .i64 (k : Int))]) (Env.sub_cons (by kernel_rfl) (Env.sub_nil _)) ?_
        exact One_pureT (v := .int .i64 (k : Int)) (by kernel_rfl) rfl
      · intro vs wi hr hj
        have e13 : vs 2 = .int .i64 (k : Int) := (hj 2 rfl).1
        refine One.env (L' := [(7, .int .i64 (k : Int))]) (sub_vs (x := vs 2) (by kernel_rfl) e13 (Env.sub_nil _)) ?_
        exact One_callBT ((Op.call { callee := (Callee.value (Operand.func 42)), args := #[(Operand.tmp 7)], argTypes := #[3] }), 48) #[.int .i64 (k : Int)] (.agg #[.int .i64 (low (k : Int)), .int .i64 (high (k : Int)), .int .i64 (plain (k : Int)), .bool (goes (k : Int))]) (by kernel_rfl) (by kernel_rfl) (rule_any (k : Int) (isP_nat (by omega)) wi) rfl (fun _ => trivial)
      · intro vs wi hj
        have e14 : vs 3 = .agg #[.int .i64 (low (k : Int)), .int .i64 (high (k : Int)), .int .i64 (plain (k : Int)), .bool (goes (k : Int))] := hj 3 rfl
        refine One.env (L' := [(8, .agg #[.int .i64 (low (k : Int)), .int .i64 (high (k : Int)), .int .i64 (plain (k : Int)), .bool (goes (k : Int))])]) (sub_vs (x := vs 3) (by kernel_rfl) e14 (Env.sub_nil _)) ?_
        exact One_pureT (v := .int .i64 (plain (k : Int))) (by kernel_rfl) rfl
      · intro vs wi hr hj
        have e15 : vs 4 = .int .i64 (plain (k : Int)) := (hj 4 rfl).1
        refine One.env (L' := [(9, .int .i64 (plain (k : Int)))]) (sub_vs (x := vs 4) (by kernel_rfl) e15 (Env.sub_nil _)) ?_
        exact One_newT (x := ((Op.buildSlice 23 1 #[(0, (Operand.tmp 9))]), 23)) (t := 3) (cs := [.int .i64 (plain (k : Int))]) (mk := fun r => .slice (some ⟨r, 0, none⟩) 1 1) (by kernel_rfl) (fun r => by kernel_rfl) hr (fun _ => trivial)
      · intro vs wi hr hj
        have hSi := hS1.drew.keep hr
        have e16 : vs 1 = .slice A k c := (hj 1 rfl).1
        obtain ⟨gn5, e17, hg5, hB5⟩ := (hj 5 rfl).2 rfl
        refine One.env (L' := [(10, .slice (some ⟨gn5, 0, none⟩) 1 1), (6, .slice A k c)]) (sub_vs (x := vs 5) (by kernel_rfl) e17 (sub_vs (x := vs 1) (by kernel_rfl) e16 (Env.sub_nil _))) ?_
        exact One_append (i := 6) (c := 0) (m := k) (t := 23) (t2 := 23) (ty := 23) (e := 3) (sz := 1) (bytes := 8) (z := .int .i64 0) (x := (Operand.tmp 6)) (y := (Operand.tmp 10)) (A := A) (cap := c) (a := ⟨gn5, 0, none⟩) (k := 1) (c2 := 1) (cs := plainTo k) (news := [.int .i64 (plain (k : Int))]) (by kernel_rfl) rfl (by kernel_rfl) (by kernel_rfl) hSi rfl (by kernel_rfl) (by kernel_rfl) (by kernel_rfl) (by decide) rfl (Blk.news hB5) (by kernel_rfl) (by unfold maxLen; omega) (by omega) (fun A' c' w2 hS2 _ => ⟨trivial, A', c', rfl, hS2⟩)
      · intro vs wi hj
        refine One.env (L' := [(0, .pointer (some ⟨g1, 0, none⟩))]) (Env.sub_cons (by kernel_rfl) (Env.sub_nil _)) ?_
        exact One_pureT (v := .pointer (some ⟨g1, 0, none⟩)) (by kernel_rfl) rfl
      · intro vs wi hj hL
        obtain ⟨A9, cc10, eL, hSi⟩ := hL
        have e18 : vs 7 = .pointer (some ⟨g1, 0, none⟩) := hj 7 rfl
        refine One.env (L' := [(11, .slice A9 (k + 1) cc10), (12, .pointer (some ⟨g1, 0, none⟩))]) (sub_vs (x := vs 6) (by kernel_rfl) eL (sub_vs (x := vs 7) (by kernel_rfl) e18 (Env.sub_nil _))) ?_
        exact One_store (i := 8) (c := 1) (g := g1) (o := 0) (t := 23) (t' := 32) (ty := 0) (x := (Operand.tmp 12)) (y := (Operand.tmp 11)) (cs := [.slice A k c]) (v := .slice A9 (k + 1) cc10) (by kernel_rfl) (by kernel_rfl) (by kernel_rfl) hSi rfl (by kernel_rfl) (by simp [Value.cells]) (by kernel_rfl) (fun w2 hS2 _ => ⟨trivial, ⟨A9, cc10, hS2⟩⟩)
    · intro vs w19 hj hL
      obtain ⟨A9, cc10, hS20⟩ := hL
      refine WO_sub (L' := [(0, .pointer (some ⟨g1, 0, none⟩)), (2, .int .i64 (k : Int)), (3, .bool true), (1, .int .i64 (k : Int))]) (Env.sub_cons (by kernel_rfl) (Env.sub_cons (by kernel_rfl) (Env.sub_cons (by kernel_rfl) (Env.sub_cons (by kernel_rfl) (Env.sub_nil _))))) ?_
      refine WO_nil ?_
      repeat (first | refine normal_block ?_ | refine normal_labels ?_)
      refine W_next ?_
      refine W_reg [0, 1] (by kernel_rfl) ?_
      refine WO_batch [0] [1] [0, 2, 3, 1, 13] [(0, .pointer (some ⟨g1, 0, none⟩)), (2, .int .i64 (k : Int)), (3, .bool true), (1, .int .i64 (k : Int)), (13, .int .i64 (IntKind.i64.wrap ((k : Int) + 1)))] (by kernel_rfl) ?_
      rw [wrap_i64 (n := (k : Int) + 1) (by omega)]
      refine WO_batch [1] [] [0, 3, 1, 2] [(0, .pointer (some ⟨g1, 0, none⟩)), (3, .bool true), (1, .int .i64 (k : Int)), (2, .int .i64 ((k : Int) + 1))] (by kernel_rfl) ?_
      refine WO_nil ?_
      repeat (first | refine normal_block ?_ | refine normal_labels ?_)
      refine normal_then (again (w := w19) (E := fun (k : Nat) => [(0, .pointer (some ⟨g1, 0, none⟩)), (2, .int .i64 (k : Int))]) (I := fun (k : Nat) wl => k ≤ 19 ∧ ∃ (A : Option Addr) (c : Nat), St No w wl [Row 3 1 (.slice A k c) k (plainTo k), Blk g1 32 [.slice A k c]]) (μ := fun (k : Nat) => 19 - k) (s := k) (k + 1) ?_ ?_ ?_)
      · exact (Env.sub_cons rfl (Env.sub_cons rfl (Env.sub_nil _)))
      · exact ⟨by omega, A9, cc10, by rw [plainTo_succ]; exact hS20⟩
      · exact (by omega)
  · simp only [hb7]
    have h21 : ¬ ((k : Int) < 19) := by simpa using hb7
    refine W_exit ?_
    repeat (first | refine exit_then ?_ | refine exit_labels ?_)
    refine exit_in ?_
    repeat (first | refine normal_block ?_ | refine normal_labels ?_)
    refine W_next ?_
    refine W_regS [0, 1] (by kernel_rfl) ?_
    refine WO_of_one (by kernel_rfl) (One_load (t := 32) (ty := 32) (x := (Operand.tmp 0)) (a := ⟨g1, 0, none⟩) (v := .agg #[.slice A k c]) (by kernel_rfl) (by kernel_rfl) (run_loadBlkN (sub := [.slice A k c]) (hS1.get (i := 1) rfl) (by kernel_rfl) (by kernel_rfl) rfl) ?_)
    refine WO_of_one (by kernel_rfl) (One_store (i := 1) (c := 1) (g := g1) (o := 0) (t := 32) (t' := 32) (ty := 0) (x := (Operand.tmp 0)) (y := (Operand.tmp 14)) (cs := [.slice A k c]) (v := .agg #[.slice A k c]) (by kernel_rfl) (by kernel_rfl) (by kernel_rfl) hS1 rfl (by kernel_rfl) (by simp [Value.cells]) (by kernel_rfl) (fun w22 hS23 hc24 => ?_))
    change St _ _ w22 [Row 3 1 (.slice A k c) k (plainTo k), Blk g1 32 [.slice A k c]] at hS23
    refine WO_endS ?_
    refine W_ret ?_
    repeat (first | refine ret_then ?_ | refine ret_block ?_ | refine ret_labels ?_)
    refine ret_ (fn := Try.f36) (rs := [.cell 0 32]) (vs := [.agg #[.slice A k c]]) rfl ?_ ?_
    · exact (.cell (a := ⟨g1, 0, none⟩) (by kernel_rfl) (run_loadBlkN (sub := [.slice A k c]) (hS23.get (i := 1) rfl) (by kernel_rfl) (by kernel_rfl) rfl) .nil)
    have e19 : k = 19 := by omega
    subst e19
    exact ⟨A, c, rfl, hS23.ch, hS23.get (i := 0) rfl, hS23.fresh (i := 0) rfl⟩

theorem rplain_any (w : World) : Calls Try.prog 38 #[] w fun e w' => ∃ (A : Option Addr) (c : Nat), e = .returned (.agg #[.slice A 19 c]) ∧ NewPlain w w' A c := by
  have hS0 := St.start No w
  refine Calls_of (fn := Try.f38) (args := []) Try.func38 rfl rfl ?_
  refine W_regS [0] (by kernel_rfl) ?_
  refine WO_of_one (by kernel_rfl) (One_new (x := ((Op.alloc 32), 0)) (t := 32) (cs := [.slice none 0 0]) (mk := fun r => .pointer (some ⟨r, 0, none⟩)) (by kernel_rfl) hS0 (fun r => by kernel_rfl) (fun g1 w2 hS3 hc4 => ?_))
  refine WO_endS ?_
  refine W_regS [0, 1, 2] (by kernel_rfl) ?_
  refine WO_batch [0] [1, 2] [0, 3] [(0, .pointer (some ⟨g1, 0, none⟩)), (3, .agg #[.slice none 0 0])] (by kernel_rfl) ?_
  refine WO_of_one (by kernel_rfl) (One_new (x := ((Op.alloc 32), 0)) (t := 32) (cs := [.slice none 0 0]) (mk := fun r => .pointer (some ⟨r, 0, none⟩)) (by kernel_rfl) hS3 (fun r => by kernel_rfl) (fun g5 w6 hS7 hc8 => ?_))
  refine WO_of_one (by kernel_rfl) (One_store (i := 2) (c := 0) (g := g5) (o := 0) (t := 32) (t' := 32) (ty := 0) (x := (Operand.tmp 1)) (y := (Operand.tmp 3)) (cs := [.slice none 0 0]) (v := .agg #[.slice none 0 0]) (by kernel_rfl) (by kernel_rfl) (by kernel_rfl) hS7 rfl (by kernel_rfl) (by simp [Value.cells]) (by kernel_rfl) (fun w9 hS10 hc11 => ?_))
  change St _ _ w9 [Blk g5 32 [.slice none 0 0], Blk g1 32 [.slice none 0 0]] at hS10
  refine WO_endS ?_
  refine W_seq ?_
  refine W_regS [0] (by kernel_rfl) ?_
  refine WO_batch [0] [] [0, 1, 2] [(0, .pointer (some ⟨g1, 0, none⟩)), (1, .pointer (some ⟨g5, 0, none⟩)), (2, .int .i64 0)] (by kernel_rfl) ?_
  refine WO_endS ?_
  refine W_block ?_
  have hS0r := Row.nil (e := 3) (sz := 1) hS10
  refine W_loop (σ := Nat) (fun k => [(0, .pointer (some ⟨g1, 0, none⟩)), (1, .pointer (some ⟨g5, 0, none⟩)), (2, .int .i64 (k : Int))]) (fun k wl => k ≤ 19 ∧ ∃ (A : Option Addr) (c : Nat), St No w wl [Row 3 1 (.slice A k c) k (plainTo k), Blk g5 32 [.slice A k c], Blk g1 32 [.slice none 0 0]]) (fun k => 19 - k) 0 (Env.sub_cons rfl (Env.sub_cons rfl (Env.sub_cons rfl (Env.sub_nil _)))) (⟨by omega, none, 0, hS0r⟩) ?_
  intro k w12 hI13
  obtain ⟨hk, A, c, hS1⟩ := hI13
  refine W_seq ?_
  refine W_regS [0, 1] (by kernel_rfl) ?_
  refine WO_batch [0, 1] [] [0, 1, 2, 5] [(0, .pointer (some ⟨g1, 0, none⟩)), (1, .pointer (some ⟨g5, 0, none⟩)), (2, .int .i64 (k : Int)), (5, .bool (decide ((k : Int) < 19)))] (by kernel_rfl) ?_
  refine WO_endS ?_
  refine W_cond (t := decide ((k : Int) < 19)) rfl rfl (fun hb14 => ?_) (fun hb14 => ?_)
  · simp only [hb14]
    have h15 : (k : Int) < 19 := by simpa using hb14
    refine W_skip ?_
    repeat (first | refine normal_block ?_ | refine normal_labels ?_)
    refine W_next ?_
    refine W_seq ?_
    refine W_block ?_
    refine (W_drawT [([], [1]), ([0], []), ([], [2]), ([2], []), ([2, 3], []), ([0, 1, 2, 3, 4], []), ([0, 1, 2, 3, 4, 5], [1]), ([0, 1, 2, 3, 4, 5, 6], []), ([], [0, 1, 2, 5])] [(fun vv => vv = .pointer (some ⟨g5, 0, none⟩)), (fun vv => vv = .slice A k c), (fun vv => vv = .int .i64 (k : Int)), (fun vv => vv = .int .i64 (plain (k : Int))), Any, Any, (fun vv => vv = .pointer (some ⟨g5, 0, none⟩)), Any] [AnyW, AnyW, AnyW, AnyW, NewAt w12.drew (fun r => .slice (some ⟨r, 0, none⟩) 1 1) 3 [.int .i64 (plain (k : Int))], AnyW, AnyW, AnyW] [fun vv wl => ∃ A16 : Option Addr, ∃ cc17 : Nat, vv = .slice A16 (k + 1) cc17 ∧ St No w wl [Row 3 1 (.slice A16 (k + 1) cc17) (k + 1) (plainTo k ++ [.int .i64 (plain (k : Int))]), Blk g5 32 [.slice A k c], Blk g1 32 [.slice none 0 0]], fun _ wl => ∃ A16 : Option Addr, ∃ cc17 : Nat, St No w wl [Row 3 1 (.slice A16 (k + 1) cc17) (k + 1) (plainTo k ++ [.int .i64 (plain (k : Int))]), Blk g5 32 [.slice A16 (k + 1) cc17], Blk g1 32 [.slice none 0 0]]] [5, 7] [0, 2, 6] 8 (by kernel_rfl) (by kernel_rfl) (by kernel_rfl) (by kernel_rfl) ⟨AnyW.stab, ⟨AnyW.stab, ⟨AnyW.stab, ⟨AnyW.stab, ⟨NewAt.stab, ⟨AnyW.stab, ⟨AnyW.stab, ⟨AnyW.stab, trivial⟩⟩⟩⟩⟩⟩⟩⟩ (by decide) ?_ ?_)
    · refine ⟨⟨⟨⟨⟨⟨⟨⟨trivial, ?_⟩, ?_⟩, ?_⟩, ?_⟩, ?_⟩, ?_⟩, ?_⟩, ?_⟩
      · intro vs wi hj
        refine One.env (L' := [(1, .pointer (some ⟨g5, 0, none⟩))]) (Env.sub_cons (by kernel_rfl) (Env.sub_nil _)) ?_
        exact One_pureT (v := .pointer (some ⟨g5, 0, none⟩)) (by kernel_rfl) rfl
      · intro vs wi hr hj
        have e18 : vs 0 = .pointer (some ⟨g5, 0, none⟩) := (hj 0 rfl).1
        refine One.env (L' := [(8, .pointer (some ⟨g5, 0, none⟩))]) (sub_vs (x := vs 0) (by kernel_rfl) e18 (Env.sub_nil _)) ?_
        have hS19 := hS1.drew.keep hr
        exact One_load (t := 23) (ty := 23) (x := (Operand.tmp 8)) (a := ⟨g5, 0, none⟩) (v := .slice A k c) (by kernel_rfl) (by kernel_rfl) (run_loadBlk1 (hS19.get (i := 1) rfl) (by kernel_rfl) rfl) ⟨rfl, trivial, Ch.refl _ _⟩
      · intro vs wi hj
        refine One.env (L' := [(2, .int .i64 (k : Int))]) (Env.sub_cons (by kernel_rfl) (Env.sub_nil _)) ?_
        exact One_pureT (v := .int .i64 (k : Int)) (by kernel_rfl) rfl
      · intro vs wi hr hj
        have e20 : vs 2 = .int .i64 (k : Int) := (hj 2 rfl).1
        refine One.env (L' := [(10, .int .i64 (k : Int))]) (sub_vs (x := vs 2) (by kernel_rfl) e20 (Env.sub_nil _)) ?_
        exact One_callST ((Op.call { callee := (Callee.value (Operand.func 32)), args := #[(Operand.tmp 10)], argTypes := #[3] }), 3) #[.int .i64 (k : Int)] (.int .i64 (plain (k : Int))) (by kernel_rfl) (by kernel_rfl) (rdefault_any (k : Int) (isP_nat (by omega)) wi) rfl trivial
      · intro vs wi hr hj
        have e21 : vs 3 = .int .i64 (plain (k : Int)) := (hj 3 rfl).1
        refine One.env (L' := [(11, .int .i64 (plain (k : Int)))]) (sub_vs (x := vs 3) (by kernel_rfl) e21 (Env.sub_nil _)) ?_
        exact One_newT (x := ((Op.buildSlice 23 1 #[(0, (Operand.tmp 11))]), 23)) (t := 3) (cs := [.int .i64 (plain (k : Int))]) (mk := fun r => .slice (some ⟨r, 0, none⟩) 1 1) (by kernel_rfl) (fun r => by kernel_rfl) hr (fun _ => trivial)
      · intro vs wi hr hj
        have hSi := hS1.drew.keep hr
        have e22 : vs 1 = .slice A k c := (hj 1 rfl).1
        obtain ⟨gn4, e23, hg4, hB4⟩ := (hj 4 rfl).2 rfl
        refine One.env (L' := [(9, .slice A k c), (12, .slice (some ⟨gn4, 0, none⟩) 1 1)]) (sub_vs (x := vs 1) (by kernel_rfl) e22 (sub_vs (x := vs 4) (by kernel_rfl) e23 (Env.sub_nil _))) ?_
        exact One_append (i := 5) (c := 0) (m := k) (t := 23) (t2 := 23) (ty := 23) (e := 3) (sz := 1) (bytes := 8) (z := .int .i64 0) (x := (Operand.tmp 9)) (y := (Operand.tmp 12)) (A := A) (cap := c) (a := ⟨gn4, 0, none⟩) (k := 1) (c2 := 1) (cs := plainTo k) (news := [.int .i64 (plain (k : Int))]) (by kernel_rfl) rfl (by kernel_rfl) (by kernel_rfl) hSi rfl (by kernel_rfl) (by kernel_rfl) (by kernel_rfl) (by decide) rfl (Blk.news hB4) (by kernel_rfl) (by unfold maxLen; omega) (by omega) (fun A' c' w2 hS2 _ => ⟨trivial, A', c', rfl, hS2⟩)
      · intro vs wi hj
        refine One.env (L' := [(1, .pointer (some ⟨g5, 0, none⟩))]) (Env.sub_cons (by kernel_rfl) (Env.sub_nil _)) ?_
        exact One_pureT (v := .pointer (some ⟨g5, 0, none⟩)) (by kernel_rfl) rfl
      · intro vs wi hj hL
        obtain ⟨A16, cc17, eL, hSi⟩ := hL
        have e24 : vs 6 = .pointer (some ⟨g5, 0, none⟩) := hj 6 rfl
        refine One.env (L' := [(13, .slice A16 (k + 1) cc17), (14, .pointer (some ⟨g5, 0, none⟩))]) (sub_vs (x := vs 5) (by kernel_rfl) eL (sub_vs (x := vs 6) (by kernel_rfl) e24 (Env.sub_nil _))) ?_
        exact One_store (i := 7) (c := 1) (g := g5) (o := 0) (t := 23) (t' := 32) (ty := 0) (x := (Operand.tmp 14)) (y := (Operand.tmp 13)) (cs := [.slice A k c]) (v := .slice A16 (k + 1) cc17) (by kernel_rfl) (by kernel_rfl) (by kernel_rfl) hSi rfl (by kernel_rfl) (by simp [Value.cells]) (by kernel_rfl) (fun w2 hS2 _ => ⟨trivial, ⟨A16, cc17, hS2⟩⟩)
    · intro vs w25 hj hL
      obtain ⟨A16, cc17, hS26⟩ := hL
      refine WO_sub (L' := [(0, .pointer (some ⟨g1, 0, none⟩)), (1, .pointer (some ⟨g5, 0, none⟩)), (2, .int .i64 (k : Int)), (5, .bool true)]) (Env.sub_cons (by kernel_rfl) (Env.sub_cons (by kernel_rfl) (Env.sub_cons (by kernel_rfl) (Env.sub_cons (by kernel_rfl) (Env.sub_nil _))))) ?_
      refine WO_nil ?_
      repeat (first | refine normal_block ?_ | refine normal_labels ?_)
      refine W_next ?_
      refine W_reg [0, 1, 2] (by kernel_rfl) ?_
      refine WO_batch [0, 1] [2] [0, 1, 2, 5, 7] [(0, .pointer (some ⟨g1, 0, none⟩)), (1, .pointer (some ⟨g5, 0, none⟩)), (2, .int .i64 (k : Int)), (5, .bool true), (7, .int .i64 (IntKind.i64.wrap ((k : Int) + 1)))] (by kernel_rfl) ?_
      rw [wrap_i64 (n := (k : Int) + 1) (by omega)]
      refine WO_batch [2] [] [0, 1, 5, 2] [(0, .pointer (some ⟨g1, 0, none⟩)), (1, .pointer (some ⟨g5, 0, none⟩)), (5, .bool true), (2, .int .i64 ((k : Int) + 1))] (by kernel_rfl) ?_
      refine WO_nil ?_
      repeat (first | refine normal_block ?_ | refine normal_labels ?_)
      refine normal_then (again (w := w25) (E := fun (k : Nat) => [(0, .pointer (some ⟨g1, 0, none⟩)), (1, .pointer (some ⟨g5, 0, none⟩)), (2, .int .i64 (k : Int))]) (I := fun (k : Nat) wl => k ≤ 19 ∧ ∃ (A : Option Addr) (c : Nat), St No w wl [Row 3 1 (.slice A k c) k (plainTo k), Blk g5 32 [.slice A k c], Blk g1 32 [.slice none 0 0]]) (μ := fun (k : Nat) => 19 - k) (s := k) (k + 1) ?_ ?_ ?_)
      · exact (Env.sub_cons rfl (Env.sub_cons rfl (Env.sub_cons rfl (Env.sub_nil _))))
      · exact ⟨by omega, A16, cc17, by rw [plainTo_succ]; exact hS26⟩
      · exact (by omega)
  · simp only [hb14]
    have h27 : ¬ ((k : Int) < 19) := by simpa using hb14
    refine W_exit ?_
    repeat (first | refine exit_then ?_ | refine exit_labels ?_)
    refine exit_in ?_
    repeat (first | refine normal_block ?_ | refine normal_labels ?_)
    refine W_next ?_
    refine W_regS [0, 1] (by kernel_rfl) ?_
    refine WO_of_one (by kernel_rfl) (One_load (t := 32) (ty := 32) (x := (Operand.tmp 1)) (a := ⟨g5, 0, none⟩) (v := .agg #[.slice A k c]) (by kernel_rfl) (by kernel_rfl) (run_loadBlkN (sub := [.slice A k c]) (hS1.get (i := 1) rfl) (by kernel_rfl) (by kernel_rfl) rfl) ?_)
    refine WO_of_one (by kernel_rfl) (One_store (i := 1) (c := 2) (g := g1) (o := 0) (t := 32) (t' := 32) (ty := 0) (x := (Operand.tmp 0)) (y := (Operand.tmp 15)) (cs := [.slice none 0 0]) (v := .agg #[.slice A k c]) (by kernel_rfl) (by kernel_rfl) (by kernel_rfl) hS1 rfl (by kernel_rfl) (by simp [Value.cells]) (by kernel_rfl) (fun w28 hS29 hc30 => ?_))
    change St _ _ w28 [Row 3 1 (.slice A k c) k (plainTo k), Blk g5 32 [.slice A k c], Blk g1 32 [.slice A k c]] at hS29
    refine WO_endS ?_
    refine W_ret ?_
    repeat (first | refine ret_then ?_ | refine ret_block ?_ | refine ret_labels ?_)
    refine ret_ (fn := Try.f38) (rs := [.cell 0 32]) (vs := [.agg #[.slice A k c]]) rfl ?_ ?_
    · exact (.cell (a := ⟨g1, 0, none⟩) (by kernel_rfl) (run_loadBlkN (sub := [.slice A k c]) (hS29.get (i := 2) rfl) (by kernel_rfl) (by kernel_rfl) rfl) .nil)
    have e19 : k = 19 := by omega
    subst e19
    exact ⟨A, c, rfl, hS29.ch, hS29.get (i := 0) rfl, hS29.fresh (i := 0) rfl⟩

theorem whole_any (A : Option Addr) (m c : Nat) (xs : List Int) (w : World) (hA : Ints w A m xs) (hm : m ≤ 9223372036854775807) : Calls Try.prog 45 #[.agg #[.slice A m c]] w fun e w' => e = .returned (.bool (whole xs)) ∧ Below w.heap.size w w' := by
  have hS0 := St.start No w
  refine Calls_of (fn := Try.f45) (args := [.agg #[.slice A m c]]) Try.func45 rfl rfl ?_
  refine W_regS [0, 1] (by kernel_rfl) ?_
  refine WO_of_one (by kernel_rfl) (One_new (x := ((Op.box 32 (Operand.tmp 0)), 0)) (t := 32) (cs := [.slice A m c]) (mk := fun r => .pointer (some ⟨r, 0, none⟩)) (by kernel_rfl) hS0 (fun r => by kernel_rfl) (fun g1 w2 hS3 hc4 => ?_))
  refine WO_batch [1] [] [1, 2] [(1, .pointer (some ⟨g1, 0, none⟩)), (2, .bool false)] (by kernel_rfl) ?_
  refine WO_endS ?_
  refine W_scope1 (σ := Nat) 0 (fun (k : Nat) => [(1, .pointer (some ⟨g1, 0, none⟩)), (2, .bool false), (3, .int .i64 (k : Int))]) (fun (k : Nat) wl => k ≤ m ∧ wholeTo xs k = true ∧ St No w wl [Blk g1 32 [.slice A m c]]) (fun (k : Nat) => m - k) rfl ?_ ?_
  · intro k w5 hI6
    obtain ⟨hk0, hw, hS1⟩ := hI6
    refine W_seq ?_
    refine W_regS [0, 1, 2, 3, 4] (by kernel_rfl) ?_
    refine WO_batch [0, 1] [2, 3, 4] [1, 2, 3, 4, 5] [(1, .pointer (some ⟨g1, 0, none⟩)), (2, .bool false), (3, .int .i64 (k : Int)), (4, .int .i64 (k : Int)), (5, .pointer (some ⟨g1, 0, none⟩))] (by kernel_rfl) ?_
    refine WO_of_one (by kernel_rfl) (One_load (t := 23) (ty := 23) (x := (Operand.tmp 5)) (a := ⟨g1, 0, none⟩) (v := .slice A m c) (by kernel_rfl) (by kernel_rfl) (run_loadBlk1 (hS1.get (i := 0) rfl) (by kernel_rfl) rfl) ?_)
    refine WO_batch [3, 4] [] [1, 2, 3, 8] [(1, .pointer (some ⟨g1, 0, none⟩)), (2, .bool false), (3, .int .i64 (k : Int)), (8, .bool (decide ((k : Int) = (m : Int))))] (by kernel_rfl) ?_
    refine WO_endS ?_
    refine W_cond (t := decide ((k : Int) = (m : Int))) rfl rfl (fun hb7 => ?_) (fun hb7 => ?_)
    · simp only [hb7]
      have h8 : (k : Int) = (m : Int) := by simpa using hb7
      refine W_regS [0, 1, 2] (by kernel_rfl) ?_
      refine WO_batch [0, 1, 2] [] [1, 3, 8, 2] [(1, .pointer (some ⟨g1, 0, none⟩)), (3, .int .i64 (k : Int)), (8, .bool true), (2, .bool (decide ((k : Int) = 19)))] (by kernel_rfl) ?_
      refine WO_endS ?_
      refine W_ret ?_
      repeat (first | refine ret_then ?_ | refine ret_block ?_ | refine ret_labels ?_)
      refine ret_ (fn := Try.f45) (rs := [.tmp 2]) (vs := [.bool (decide ((k : Int) = 19))]) rfl ?_ ?_
      · exact (.tmp rfl .nil)
      have e1 : k = m := by omega
      have e2 := hA.1
      have e3 : wholeTo xs xs.length = true := by rw [e2, ← e1]; exact hw
      exact ⟨congrArg (fun b => Ending.returned (.bool b)) (by rw [whole_ok e3, e2, e1]; exact decide_eq_decide.2 (by omega)), hS1.ch.below⟩
    · simp only [hb7]
      have h9 : ¬ ((k : Int) = (m : Int)) := by simpa using hb7
      have hk : k < m := by omega
      obtain ⟨a1, ha1, _⟩ := hA.2 (by omega)
      refine W_skip ?_
      repeat (first | refine normal_block ?_ | refine normal_labels ?_)
      refine W_next ?_
      refine W_seq ?_
      refine W_regS [0, 1, 2, 3, 4, 5, 6] (by kernel_rfl) ?_
      refine WO_batch [0, 1] [2, 3, 4, 5, 6] [1, 2, 3, 8, 11, 12] [(1, .pointer (some ⟨g1, 0, none⟩)), (2, .bool false), (3, .int .i64 (k : Int)), (8, .bool false), (11, .int .i64 (k : Int)), (12, .pointer (some ⟨g1, 0, none⟩))] (by kernel_rfl) ?_
      refine WO_of_one (by kernel_rfl) (One_load (t := 23) (ty := 23) (x := (Operand.tmp 12)) (a := ⟨g1, 0, none⟩) (v := .slice A m c) (by kernel_rfl) (by kernel_rfl) (run_loadBlk1 (hS1.get (i := 0) rfl) (by kernel_rfl) rfl) ?_)
      refine WO_batch [3] [4, 5, 6] [1, 2, 3, 8, 11, 13, 14] [(1, .pointer (some ⟨g1, 0, none⟩)), (2, .bool false), (3, .int .i64 (k : Int)), (8, .bool false), (11, .int .i64 (k : Int)), (13, .slice A m c), (14, .int .i64 (k : Int))] (by kernel_rfl) ?_
      refine WO_of_one (by kernel_rfl) (One_indexN (i := 4) (t := 23) (ty := 0) (x := (Operand.tmp 13)) (y := (Operand.tmp 14)) (A := A) (a := a1) (len := m) (cap := c) (k := .i64) (j := k) (e := 3) (sz := 1) (by kernel_rfl) (by kernel_rfl) (by kernel_rfl) (by kernel_rfl) (by kernel_rfl) ha1 (by omega) ?_)
      refine WO_of_one (by kernel_rfl) (One_load (t := 3) (ty := 3) (x := (Operand.tmp 15)) (a := a1.add (k * 1)) (v := .int .i64 (xs.getD k 0)) (by kernel_rfl) (by kernel_rfl) (by rw [Nat.mul_one]; exact run_load1 (by kernel_rfl) (hS1.old ((ha1 ▸ hA).at_ hk) id)) ?_)
      refine WO_callB ((Op.call { callee := (Callee.value (Operand.func 43)), args := #[(Operand.tmp 11), (Operand.tmp 16)], argTypes := #[3, 3] }), 4) #[.int .i64 (k : Int), .int .i64 (xs.getD k 0)] (.bool (may (k : Int) (xs.getD k 0))) (by kernel_rfl) (by kernel_rfl) (by kernel_rfl) (may_any (k : Int) (xs.getD k 0) w5) (fun w10 hc11 => ?_)
      have hS12 := hS1.keep hc11
      refine WO_endS ?_
      refine W_cond (t := may (k : Int) (xs.getD k 0)) rfl rfl (fun hb13 => ?_) (fun hb13 => ?_)
      · simp only [hb13]
        refine W_regS [0, 1, 2] (by kernel_rfl) ?_
        refine WO_batch [0, 1] [2] [1, 2, 3, 8, 17, 19] [(1, .pointer (some ⟨g1, 0, none⟩)), (2, .bool false), (3, .int .i64 (k : Int)), (8, .bool false), (17, .bool true), (19, .int .i64 (IntKind.i64.wrap ((k : Int) + 1)))] (by kernel_rfl) ?_
        rw [wrap_i64 (n := (k : Int) + 1) (by omega)]
        refine WO_batch [2] [] [1, 2, 8, 17, 3] [(1, .pointer (some ⟨g1, 0, none⟩)), (2, .bool false), (8, .bool false), (17, .bool true), (3, .int .i64 ((k : Int) + 1))] (by kernel_rfl) ?_
        refine WO_endS ?_
        refine W_goto ?_
        repeat (first | refine goto_then ?_ | refine goto_block ?_)
        refine goto_labels ?_
        refine jumpA (w := w10) (E := fun (k : Nat) => [(1, .pointer (some ⟨g1, 0, none⟩)), (2, .bool false), (3, .int .i64 (k : Int))]) (I := fun (k : Nat) wl => k ≤ m ∧ wholeTo xs k = true ∧ St No w wl [Blk g1 32 [.slice A m c]]) (μ := fun (k : Nat) => m - k) (s := k) (k + 1) ?_ ?_ ?_
        · exact (Env.sub_cons rfl (Env.sub_cons rfl (Env.sub_cons rfl (Env.sub_nil _))))
        · exact ⟨by omega, by rw [wholeTo_succ, hw, hb13]; rfl, hS12⟩
        · exact (by omega)
      · simp only [hb13]
        refine W_skip ?_
        repeat (first | refine normal_block ?_ | refine normal_labels ?_)
        refine W_next ?_
        refine W_regS [0] (by kernel_rfl) ?_
        refine WO_batch [0] [] [1, 3, 8, 17, 2] [(1, .pointer (some ⟨g1, 0, none⟩)), (3, .int .i64 (k : Int)), (8, .bool false), (17, .bool false), (2, .bool false)] (by kernel_rfl) ?_
        refine WO_endS ?_
        refine W_ret ?_
        repeat (first | refine ret_then ?_ | refine ret_block ?_ | refine ret_labels ?_)
        refine ret_ (fn := Try.f45) (rs := [.tmp 2]) (vs := [.bool false]) rfl ?_ ?_
        · exact (.tmp rfl .nil)
        exact ⟨congrArg (fun b => Ending.returned (.bool b)) (whole_bad (k := k) (by rw [hA.1]; exact hk) hb13).symm, hS12.ch.below⟩
  · intro H14
    refine W_regS [0] (by kernel_rfl) ?_
    refine WO_batch [0] [] [1, 2, 3] [(1, .pointer (some ⟨g1, 0, none⟩)), (2, .bool false), (3, .int .i64 0)] (by kernel_rfl) ?_
    refine WO_endS ?_
    refine W_at ?_ (H14 0 w2 ?_)
    · exact (Env.sub_cons rfl (Env.sub_cons rfl (Env.sub_cons rfl (Env.sub_nil _))))
    · exact ⟨by omega, rfl, hS3⟩

theorem all_any (A : Option Addr) (m c : Nat) (xs : List Int) (w : World) (hA : Ints w A m xs) (hm : m ≤ 9223372036854775807) : Calls Try.prog 34 #[.agg #[.slice A m c]] w fun e w' => e = .returned (.int .i64 (if whole xs = true then 0 else 1)) ∧ Below w.heap.size w w' := by
  have hS0 := St.start No w
  refine Calls_of (fn := Try.f34) (args := [.agg #[.slice A m c]]) Try.func34 rfl rfl ?_
  refine W_regS [0, 1] (by kernel_rfl) ?_
  refine WO_of_one (by kernel_rfl) (One_new (x := ((Op.box 32 (Operand.tmp 0)), 0)) (t := 32) (cs := [.slice A m c]) (mk := fun r => .pointer (some ⟨r, 0, none⟩)) (by kernel_rfl) hS0 (fun r => by kernel_rfl) (fun g1 w2 hS3 hc4 => ?_))
  refine WO_batch [1] [] [1, 2] [(1, .pointer (some ⟨g1, 0, none⟩)), (2, .int .i64 0)] (by kernel_rfl) ?_
  refine WO_endS ?_
  refine W_seq ?_
  refine W_regS [0, 1, 2] (by kernel_rfl) ?_
  refine WO_of_one (by kernel_rfl) (One_load (t := 32) (ty := 32) (x := (Operand.tmp 1)) (a := ⟨g1, 0, none⟩) (v := .agg #[.slice A m c]) (by kernel_rfl) (by kernel_rfl) (run_loadBlkN (sub := [.slice A m c]) (hS3.get (i := 0) rfl) (by kernel_rfl) (by kernel_rfl) rfl) ?_)
  refine WO_callB ((Op.call { callee := (Callee.value (Operand.func 45)), args := #[(Operand.tmp 3)], argTypes := #[32] }), 4) #[.agg #[.slice A m c]] (.bool (whole xs)) (by kernel_rfl) (by kernel_rfl) (by kernel_rfl) (whole_any A m c xs w2 (hA.keep hS3.ch) hm) (fun w5 hc6 => ?_)
  have hS7 := hS3.keep hc6
  refine WO_batch [2] [] [2, 5] [(2, .int .i64 0), (5, .bool (!(whole xs)))] (by kernel_rfl) ?_
  refine WO_endS ?_
  refine W_cond (t := !(whole xs)) rfl rfl (fun hb8 => ?_) (fun hb8 => ?_)
  · simp only [hb8]
    have hb9 : whole xs = false := by simpa using hb8
    refine W_regS [0] (by kernel_rfl) ?_
    refine WO_batch [0] [] [2] [(2, .int .i64 1)] (by kernel_rfl) ?_
    refine WO_endS ?_
    refine W_ret ?_
    repeat (first | refine ret_then ?_ | refine ret_block ?_ | refine ret_labels ?_)
    refine ret_ (fn := Try.f34) (rs := [.tmp 2]) (vs := [.int .i64 1]) rfl ?_ ?_
    · exact (.tmp rfl .nil)
    exact ⟨congrArg (fun n => Ending.returned (.int .i64 n)) (by rw [hb9]; rfl), hS7.ch.below⟩
  · simp only [hb8]
    have hb10 : whole xs = true := by simpa using hb8
    refine W_skip ?_
    repeat (first | refine normal_block ?_ | refine normal_labels ?_)
    refine W_next ?_
    refine W_regS [0] (by kernel_rfl) ?_
    refine WO_batch [0] [] [2] [(2, .int .i64 0)] (by kernel_rfl) ?_
    refine WO_endS ?_
    refine W_ret ?_
    repeat (first | refine ret_then ?_ | refine ret_block ?_ | refine ret_labels ?_)
    refine ret_ (fn := Try.f34) (rs := [.tmp 2]) (vs := [.int .i64 0]) rfl ?_ ?_
    · exact (.tmp rfl .nil)
    exact ⟨congrArg (fun n => Ending.returned (.int .i64 n)) (by rw [hb10]; rfl), hS7.ch.below⟩

theorem rall_any (A : Option Addr) (m c : Nat) (xs : List Int) (w : World) (hA : Ints w A m xs) : Calls Try.prog 35 #[.agg #[.slice A m c]] w fun e w' => e = .returned (.bool (whole xs)) ∧ Below w.heap.size w w' := by
  have hS0 := St.start No w
  refine Calls_of (fn := Try.f35) (args := [.agg #[.slice A m c]]) Try.func35 rfl rfl ?_
  refine W_regS [0, 1] (by kernel_rfl) ?_
  refine WO_of_one (by kernel_rfl) (One_new (x := ((Op.box 32 (Operand.tmp 0)), 0)) (t := 32) (cs := [.slice A m c]) (mk := fun r => .pointer (some ⟨r, 0, none⟩)) (by kernel_rfl) hS0 (fun r => by kernel_rfl) (fun g1 w2 hS3 hc4 => ?_))
  refine WO_batch [1] [] [1, 2] [(1, .pointer (some ⟨g1, 0, none⟩)), (2, .bool false)] (by kernel_rfl) ?_
  refine WO_endS ?_
  refine W_seq ?_
  refine W_regS [0, 1, 2, 3] (by kernel_rfl) ?_
  refine WO_batch [0] [1, 2, 3] [1, 2, 4] [(1, .pointer (some ⟨g1, 0, none⟩)), (2, .bool false), (4, .pointer (some ⟨g1, 0, none⟩))] (by kernel_rfl) ?_
  refine WO_of_one (by kernel_rfl) (One_load (t := 23) (ty := 23) (x := (Operand.tmp 4)) (a := ⟨g1, 0, none⟩) (v := .slice A m c) (by kernel_rfl) (by kernel_rfl) (run_loadBlk1 (hS3.get (i := 0) rfl) (by kernel_rfl) rfl) ?_)
  refine WO_batch [2, 3] [] [1, 2, 7] [(1, .pointer (some ⟨g1, 0, none⟩)), (2, .bool false), (7, .bool (!decide ((m : Int) = 19)))] (by kernel_rfl) ?_
  refine WO_endS ?_
  refine W_cond (t := !decide ((m : Int) = 19)) rfl rfl (fun hb5 => ?_) (fun hb5 => ?_)
  · simp only [hb5]
    have h6 : ¬ ((m : Int) = 19) := by simpa using hb5
    have h19 : ¬ m = 19 := by omega
    refine W_regS [0] (by kernel_rfl) ?_
    refine WO_batch [0] [] [1, 2] [(1, .pointer (some ⟨g1, 0, none⟩)), (2, .bool false)] (by kernel_rfl) ?_
    refine WO_endS ?_
    refine W_ret ?_
    repeat (first | refine ret_then ?_ | refine ret_block ?_ | refine ret_labels ?_)
    refine ret_ (fn := Try.f35) (rs := [.tmp 2]) (vs := [.bool false]) rfl ?_ ?_
    · exact (.tmp rfl .nil)
    have eR : whole xs = false := by simp [whole, hA.1, h19]
    exact ⟨congrArg (fun b => Ending.returned (.bool b)) eR.symm, hS3.ch.below⟩
  · simp only [hb5]
    have h7 : (m : Int) = 19 := by simpa using hb5
    have h19 : m = 19 := by omega
    refine W_skip ?_
    repeat (first | refine normal_block ?_ | refine normal_labels ?_)
    refine W_next ?_
    refine W_seq ?_
    refine W_regS [0] (by kernel_rfl) ?_
    refine WO_batch [0] [] [1, 2, 3] [(1, .pointer (some ⟨g1, 0, none⟩)), (2, .bool false), (3, .int .i64 0)] (by kernel_rfl) ?_
    refine WO_endS ?_
    refine W_block ?_
    refine W_loop (σ := Nat) (fun k => [(1, .pointer (some ⟨g1, 0, none⟩)), (2, .bool false), (3, .int .i64 (k : Int))]) (fun k wl => k ≤ 19 ∧ wholeTo xs k = true ∧ St No w wl [Blk g1 32 [.slice A m c]]) (fun k => 19 - k) 0 (Env.sub_cons rfl (Env.sub_cons rfl (Env.sub_cons rfl (Env.sub_nil _)))) (⟨by omega, rfl, hS3⟩) ?_
    intro k w8 hI9
    obtain ⟨hk0, hw, hS1⟩ := hI9
    refine W_seq ?_
    refine W_regS [0, 1] (by kernel_rfl) ?_
    refine WO_batch [0, 1] [] [1, 2, 3, 9] [(1, .pointer (some ⟨g1, 0, none⟩)), (2, .bool false), (3, .int .i64 (k : Int)), (9, .bool (decide ((k : Int) < 19)))] (by kernel_rfl) ?_
    refine WO_endS ?_
    refine W_cond (t := decide ((k : Int) < 19)) rfl rfl (fun hb10 => ?_) (fun hb10 => ?_)
    · simp only [hb10]
      have h11 : (k : Int) < 19 := by simpa using hb10
      have hk : k < m := by omega
      obtain ⟨a1, ha1, _⟩ := hA.2 (by omega)
      refine W_skip ?_
      repeat (first | refine normal_block ?_ | refine normal_labels ?_)
      refine W_next ?_
      refine W_seq ?_
      refine W_block ?_
      refine W_regS [0, 1, 2, 3, 4, 5, 6, 7] (by kernel_rfl) ?_
      refine WO_batch [0, 1] [2, 3, 4, 5, 6, 7] [1, 2, 3, 9, 12, 13] [(1, .pointer (some ⟨g1, 0, none⟩)), (2, .bool false), (3, .int .i64 (k : Int)), (9, .bool true), (12, .int .i64 (k : Int)), (13, .pointer (some ⟨g1, 0, none⟩))] (by kernel_rfl) ?_
      refine WO_of_one (by kernel_rfl) (One_load (t := 23) (ty := 23) (x := (Operand.tmp 13)) (a := ⟨g1, 0, none⟩) (v := .slice A m c) (by kernel_rfl) (by kernel_rfl) (run_loadBlk1 (hS1.get (i := 0) rfl) (by kernel_rfl) rfl) ?_)
      refine WO_batch [3] [4, 5, 6, 7] [1, 2, 3, 9, 12, 14, 15] [(1, .pointer (some ⟨g1, 0, none⟩)), (2, .bool false), (3, .int .i64 (k : Int)), (9, .bool true), (12, .int .i64 (k : Int)), (14, .slice A m c), (15, .int .i64 (k : Int))] (by kernel_rfl) ?_
      refine WO_of_one (by kernel_rfl) (One_indexN (i := 4) (t := 23) (ty := 0) (x := (Operand.tmp 14)) (y := (Operand.tmp 15)) (A := A) (a := a1) (len := m) (cap := c) (k := .i64) (j := k) (e := 3) (sz := 1) (by kernel_rfl) (by kernel_rfl) (by kernel_rfl) (by kernel_rfl) (by kernel_rfl) ha1 (by omega) ?_)
      refine WO_of_one (by kernel_rfl) (One_load (t := 3) (ty := 3) (x := (Operand.tmp 16)) (a := a1.add (k * 1)) (v := .int .i64 (xs.getD k 0)) (by kernel_rfl) (by kernel_rfl) (by rw [Nat.mul_one]; exact run_load1 (by kernel_rfl) (hS1.old ((ha1 ▸ hA).at_ hk) id)) ?_)
      refine WO_callS ((Op.call { callee := (Callee.value (Operand.func 29)), args := #[(Operand.tmp 12), (Operand.tmp 17)], argTypes := #[3, 3] }), 3) #[.int .i64 (k : Int), .int .i64 (xs.getD k 0)] (.int .i64 (chk (k : Int) (xs.getD k 0))) (by kernel_rfl) (by kernel_rfl) (by kernel_rfl) (rcheck_any (k : Int) (xs.getD k 0) w8) ?_
      refine WO_batch [7] [] [1, 2, 3, 9, 19] [(1, .pointer (some ⟨g1, 0, none⟩)), (2, .bool false), (3, .int .i64 (k : Int)), (9, .bool true), (19, .bool (!decide ((chk (k : Int) (xs.getD k 0)) = 0)))] (by kernel_rfl) ?_
      refine WO_endS ?_
      refine W_cond (t := !decide ((chk (k : Int) (xs.getD k 0)) = 0)) rfl rfl (fun hb12 => ?_) (fun hb12 => ?_)
      · simp only [hb12]
        have h13 : ¬ ((chk (k : Int) (xs.getD k 0)) = 0) := by simpa using hb12
        refine W_regS [0] (by kernel_rfl) ?_
        refine WO_batch [0] [] [1, 3, 9, 19, 2] [(1, .pointer (some ⟨g1, 0, none⟩)), (3, .int .i64 (k : Int)), (9, .bool true), (19, .bool true), (2, .bool false)] (by kernel_rfl) ?_
        refine WO_endS ?_
        refine W_ret ?_
        repeat (first | refine ret_then ?_ | refine ret_block ?_ | refine ret_labels ?_)
        refine ret_ (fn := Try.f35) (rs := [.tmp 2]) (vs := [.bool false]) rfl ?_ ?_
        · exact (.tmp rfl .nil)
        have eR : whole xs = false := by rw [whole_bad (k := k) (by rw [hA.1]; exact hk) (by cases hq : may (k : Int) (xs.getD k 0) with
                | false => rfl
                | true => exact absurd ((chk_zero (isP_nat (by omega))).2 hq) h13)]
        exact ⟨congrArg (fun b => Ending.returned (.bool b)) eR.symm, hS1.ch.below⟩
      · simp only [hb12]
        have h14 : (chk (k : Int) (xs.getD k 0)) = 0 := by simpa using hb12
        refine W_skip ?_
        repeat (first | refine normal_block ?_ | refine normal_labels ?_)
        refine W_next ?_
        refine W_reg [0, 1, 2] (by kernel_rfl) ?_
        refine WO_batch [0, 1] [2] [1, 2, 3, 9, 19, 11] [(1, .pointer (some ⟨g1, 0, none⟩)), (2, .bool false), (3, .int .i64 (k : Int)), (9, .bool true), (19, .bool false), (11, .int .i64 (IntKind.i64.wrap ((k : Int) + 1)))] (by kernel_rfl) ?_
        rw [wrap_i64 (n := (k : Int) + 1) (by omega)]
        refine WO_batch [2] [] [1, 2, 9, 19, 3] [(1, .pointer (some ⟨g1, 0, none⟩)), (2, .bool false), (9, .bool true), (19, .bool false), (3, .int .i64 ((k : Int) + 1))] (by kernel_rfl) ?_
        refine WO_nil ?_
        repeat (first | refine normal_block ?_ | refine normal_labels ?_)
        refine normal_then (again (w := w8) (E := fun (k : Nat) => [(1, .pointer (some ⟨g1, 0, none⟩)), (2, .bool false), (3, .int .i64 (k : Int))]) (I := fun (k : Nat) wl => k ≤ 19 ∧ wholeTo xs k = true ∧ St No w wl [Blk g1 32 [.slice A m c]]) (μ := fun (k : Nat) => 19 - k) (s := k) (k + 1) ?_ ?_ ?_)
        · exact (Env.sub_cons rfl (Env.sub_cons rfl (Env.sub_cons rfl (Env.sub_nil _))))
        · exact ⟨by omega, by rw [wholeTo_succ, hw, (chk_zero (isP_nat (by omega))).1 h14]; rfl, hS1⟩
        · exact (by omega)
    · simp only [hb10]
      have h15 : ¬ ((k : Int) < 19) := by simpa using hb10
      refine W_exit ?_
      repeat (first | refine exit_then ?_ | refine exit_labels ?_)
      refine exit_in ?_
      repeat (first | refine normal_block ?_ | refine normal_labels ?_)
      refine W_next ?_
      refine W_regS [0] (by kernel_rfl) ?_
      refine WO_batch [0] [] [2] [(2, .bool true)] (by kernel_rfl) ?_
      refine WO_endS ?_
      refine W_ret ?_
      repeat (first | refine ret_then ?_ | refine ret_block ?_ | refine ret_labels ?_)
      refine ret_ (fn := Try.f35) (rs := [.tmp 2]) (vs := [.bool true]) rfl ?_ ?_
      · exact (.tmp rfl .nil)
      have eR : whole xs = true := by rw [whole_ok (by rw [hA.1, h19, ← (show k = 19 by omega)]; exact hw), hA.1, h19]; rfl
      exact ⟨congrArg (fun b => Ending.returned (.bool b)) eR.symm, hS1.ch.below⟩

theorem numbers_any (A : Option Addr) (m c : Nat) (cs : List Value) (w : World) (hA : (Row 3 1 (.slice A m c) m cs).P w) (hm : m ≤ 4611686018427) : Calls Try.prog 39 #[.slice A m c] w fun e w' => e = .returned (.tuple #[]) ∧ Ch (Row 3 1 (.slice A m c) m cs).F w w' := by
  have hS0 := St.one hA (Row.lt hA)
  refine Calls_of (fn := Try.f39) (args := [.slice A m c]) Try.func39 rfl rfl ?_
  refine W_seq ?_
  refine W_regS [0] (by kernel_rfl) ?_
  refine WO_batch [0] [] [0, 2] [(0, .slice A m c), (2, .int .i64 0)] (by kernel_rfl) ?_
  refine WO_endS ?_
  refine W_block ?_
  refine W_loop (σ := Nat) (fun k => [(0, .slice A m c), (2, .int .i64 (k : Int))]) (fun k wl => k ≤ m ∧ ∃ cs2 : List Value, cs2.length = m ∧ St (Row 3 1 (.slice A m c) m cs).F w wl [Row 3 1 (.slice A m c) m cs2]) (fun k => m - k) 0 (Env.sub_cons rfl (Env.sub_cons rfl (Env.sub_nil _))) (⟨by omega, cs, by rw [Row.len hA]; omega, hS0⟩) ?_
  intro k w1 hI2
  obtain ⟨hk0, cs2, hl, hS1⟩ := hI2
  refine W_seq ?_
  refine W_regS [0, 1, 2, 3] (by kernel_rfl) ?_
  refine WO_batch [0, 1, 2, 3] [] [0, 2, 6] [(0, .slice A m c), (2, .int .i64 (k : Int)), (6, .bool (decide ((k : Int) < (m : Int))))] (by kernel_rfl) ?_
  refine WO_endS ?_
  refine W_cond (t := decide ((k : Int) < (m : Int))) rfl rfl (fun hb3 => ?_) (fun hb3 => ?_)
  · simp only [hb3]
    have h4 : (k : Int) < (m : Int) := by simpa using hb3
    have hk : k < m := by omega
    obtain ⟨g1, hg1, _⟩ := Row.form hA (by omega)
    refine W_skip ?_
    repeat (first | refine normal_block ?_ | refine normal_labels ?_)
    refine W_next ?_
    refine W_seq ?_
    refine W_block ?_
    refine W_reg [0, 1, 2, 3] (by kernel_rfl) ?_
    refine WO_batch [0, 1] [2, 3] [0, 2, 6, 9, 10] [(0, .slice A m c), (2, .int .i64 (k : Int)), (6, .bool true), (9, .slice A m c), (10, .int .i64 (k : Int))] (by kernel_rfl) ?_
    refine WO_of_one (by kernel_rfl) (One_indexG (i := 2) (t := 23) (ty := 0) (x := (Operand.tmp 9)) (y := (Operand.tmp 10)) (A := A) (g := g1) (len := m) (cap := c) (k := .i64) (j := k) (e := 3) (sz := 1) (by kernel_rfl) (by kernel_rfl) (by kernel_rfl) (by kernel_rfl) (by kernel_rfl) hg1 (by omega) ?_)
    refine WO_of_one (by kernel_rfl) (One_storeRowA (i := 3) (c := 0) (g := g1) (o := k * 1) (m := m) (cap := c) (e := 3) (t := 3) (ty := 0) (sz := 1) (x := (Operand.tmp 11)) (y := (Operand.const (Value.int IntKind.i64 (-99)))) (A := A) (cs := cs2) (v := .int .i64 (-99)) (by kernel_rfl) (by kernel_rfl) (by kernel_rfl) hS1 hg1 rfl (by kernel_rfl) (by rw [hl]; simp [Value.cells]; omega) (by kernel_rfl) (fun w5 hS6 hc7 => ?_))
    have hl2 : (splice cs2 (k * 1) [Value.int .i64 (-99)]).length = m := by rw [splice_length]; exact hl; simp; omega
    refine WO_nil ?_
    repeat (first | refine normal_block ?_ | refine normal_labels ?_)
    refine W_next ?_
    refine W_reg [0, 1, 2] (by kernel_rfl) ?_
    refine WO_batch [0, 1] [2] [0, 2, 6, 8] [(0, .slice A m c), (2, .int .i64 (k : Int)), (6, .bool true), (8, .int .i64 (IntKind.i64.wrap ((k : Int) + 1)))] (by kernel_rfl) ?_
    rw [wrap_i64 (n := (k : Int) + 1) (by omega)]
    refine WO_batch [2] [] [0, 6, 2] [(0, .slice A m c), (6, .bool true), (2, .int .i64 ((k : Int) + 1))] (by kernel_rfl) ?_
    refine WO_nil ?_
    repeat (first | refine normal_block ?_ | refine normal_labels ?_)
    refine normal_then (again (w := w5) (E := fun (k : Nat) => [(0, .slice A m c), (2, .int .i64 (k : Int))]) (I := fun (k : Nat) wl => k ≤ m ∧ ∃ cs2 : List Value, cs2.length = m ∧ St (Row 3 1 (.slice A m c) m cs).F w wl [Row 3 1 (.slice A m c) m cs2]) (μ := fun (k : Nat) => m - k) (s := k) (k + 1) ?_ ?_ ?_)
    · exact (Env.sub_cons rfl (Env.sub_cons rfl (Env.sub_nil _)))
    · exact ⟨by omega, _, hl2, hS6⟩
    · exact (by omega)
  · simp only [hb3]
    have h8 : ¬ ((k : Int) < (m : Int)) := by simpa using hb3
    refine W_exit ?_
    repeat (first | refine exit_then ?_ | refine exit_labels ?_)
    refine exit_in ?_
    repeat (first | refine normal_block ?_ | refine normal_labels ?_)
    refine W_next ?_
    refine W_reg [0, 1, 2, 3] (by kernel_rfl) ?_
    refine WO_batch [0] [1, 2, 3] [12] [(12, .slice A m c)] (by kernel_rfl) ?_
    refine WO_of_one (by kernel_rfl) (One_new (x := ((Op.buildSlice 23 1 #[(0, (Operand.const (Value.int IntKind.i64 5)))]), 23)) (t := 3) (cs := [.int .i64 5]) (mk := fun r => .slice (some ⟨r, 0, none⟩) 1 1) (by kernel_rfl) hS1 (fun r => by kernel_rfl) (fun g9 w10 hS11 hc12 => ?_))
    refine WO_of_one (by kernel_rfl) (One_append (i := 2) (c := 1) (m := m) (t := 23) (t2 := 23) (ty := 23) (e := 3) (sz := 1) (bytes := 8) (z := .int .i64 0) (x := (Operand.tmp 12)) (y := (Operand.tmp 13)) (A := A) (cap := c) (a := ⟨g9, 0, none⟩) (k := 1) (c2 := 1) (cs := cs2) (news := [.int .i64 5]) (by kernel_rfl) rfl (by kernel_rfl) (by kernel_rfl) hS11 rfl (by kernel_rfl) (by kernel_rfl) (by kernel_rfl) (by decide) rfl (Blk.news (hS11.get (i := 0) rfl)) (by kernel_rfl) (by unfold maxLen; omega) (by omega) (fun A1 c1 w13 hS14 hc15 => ?_))
    refine WO_batch [3] [] [] [] (by kernel_rfl) ?_
    refine WO_nil ?_
    repeat (first | refine normal_then ?_ | refine normal_block ?_ | refine normal_labels ?_)
    refine end_ (fn := Try.f39) (rs := []) (vs := []) rfl ?_ ?_
    · exact .nil
    exact ⟨rfl, hS14.ch⟩
end Go.Proofs.Ytfgfoocmiflnmaa.My
