/- The laws over one property. -/
import Derived.Test.YtfgfoocmiflnmaaMyD
namespace Go.Proofs.Ytfgfoocmiflnmaa.My
open Go.RowKit Go.Arr

/-- A slice of asks that reads: of each its property, its value, its style. -/
def Asks (w : World) (A : Option Addr) (m : Nat) : Prop := 0 < m → ∃ ad, A = some ad ∧ ∀ k, k < m → ∃ (p v : Int) (B : Option Addr) (n c : Nat) (xs : List Int),
  (∀ j x, ([.int .i64 p, .int .i64 v, .slice B n c] : List Value)[j]? = some x → w.cell? ((ad.add (k * 3)).add j) = some x) ∧ Ints w B n xs ∧ n ≤ 9223372036854775807
theorem Asks.keep {w w' : World} {A : Option Addr} {m : Nat} (h : Asks w A m) (hc : Ch No w w') : Asks w' A m := fun hm => by
  obtain ⟨ad, e, ha⟩ := h hm
  refine ⟨ad, e, fun k hk => ?_⟩
  obtain ⟨p, v, B, n, c, xs, hcell, hB, hn⟩ := ha k hk
  exact ⟨p, v, B, n, c, xs, fun j x hj => hc.cell (hcell j x hj) id, hB.keep hc, hn⟩
/-- The plain style's numbers. -/
def plainL : List Int := (List.range 19).map fun (j : Nat) => plain (j : Int)
theorem plainTo_eq : plainTo 19 = plainL.map (Value.int .i64) := by simp [plainTo, plainL]
theorem Row.ints {w : World} {A : Option Addr} {m c : Nat} {xs : List Int} (h : (Row 3 1 (.slice A m c) m (xs.map (Value.int .i64))).P w) : Ints w A m xs := by
  have hl := Row.len h
  rw [List.length_map] at hl
  refine ⟨by omega, fun hm => ?_⟩
  obtain ⟨g, rfl, hc⟩ := Row.form h hm
  refine ⟨_, rfl, fun k x hk => ?_⟩
  rw [Addr.add_lit, Nat.zero_add]
  refine hc k _ ?_
  rw [List.getElem?_map, hk]
  rfl
theorem splice_one {xs : List Int} {p : Nat} {v : Int} (h : p < xs.length) : splice (xs.map (Value.int .i64)) p [.int .i64 v] = (xs.set p v).map (Value.int .i64) := by
  unfold splice
  rw [List.set_eq_take_append_cons_drop, if_pos h]
  simp [List.map_take, List.map_drop]
theorem whole_plain : whole plainL = true := by
  simp [whole, wholeTo, plainL, List.range_succ, may, isP, low, high, plain]
theorem plain_may {j : Nat} (h : j < 19) : may (j : Int) (plain (j : Int)) = true := by
  have h2 := whole_plain
  simp only [whole, Bool.and_eq_true, wholeTo, List.all_eq_true, List.mem_range] at h2
  have h3 := h2.2 j (by simp [plainL]; exact h)
  simpa [plainL, List.getD_eq_getElem?_getD, h] using h3
theorem whole_set {p : Nat} (h : p < 19) (v : Int) : whole (plainL.set p v) = may (p : Int) v := by
  have hl : (plainL.set p v).length = 19 := by simp [plainL]
  unfold whole
  rw [hl]
  simp only [decide_true, Bool.true_and]
  cases hm : may (p : Int) v with
  | true =>
    simp only [wholeTo, List.all_eq_true, List.mem_range]
    intro j hj
    by_cases e : j = p
    · subst e
      simpa [List.getD_eq_getElem?_getD, plainL, h] using hm
    · have e2 : (plainL.set p v).getD j 0 = plain (j : Int) := by simp only [List.getD_eq_getElem?_getD, List.getElem?_set_ne (Ne.symm e)]; simp [plainL, hj]
      rw [e2]
      exact plain_may hj
  | false =>
    simp only [wholeTo, List.all_eq_false, List.mem_range]
    refine ⟨p, h, ?_⟩
    have e : (plainL.set p v).getD p 0 = v := by simp [List.getD_eq_getElem?_getD, plainL, h]
    rw [e, hm]
    simp
theorem chk_may {p : Nat} (h : p < 19) (v : Int) : chk (p : Int) v = if may (p : Int) v = true then 0 else 9 := by unfold chk; rw [if_pos (isP_nat h)]

theorem one_any (A : Option Addr) (m c p : Nat) (w : World) (hA : Asks w A m) (hm : m ≤ 9223372036854775807) (hp : p < 19) : Calls Try.prog 40 #[.slice A m c, .int .i64 (p : Int)] w fun e w' => e = .returned (.bool true) ∧ Below w.heap.size w w' := by
  have hS0 := St.start No w
  refine Calls_of (fn := Try.f40) (args := [.slice A m c, .int .i64 (p : Int)]) Try.func40 rfl rfl ?_
  refine W_regS [0] (by kernel_rfl) ?_
  refine WO_batch [0] [] [0, 1, 4] [(0, .slice A m c), (1, .int .i64 (p : Int)), (4, .bool false)] (by kernel_rfl) ?_
  refine WO_endS ?_
  refine W_regS [0, 1, 2, 3, 4, 5, 6] (by kernel_rfl) ?_
  refine WO_batch [0] [1, 2, 3, 4, 5, 6] [0, 1, 4, 12] [(0, .slice A m c), (1, .int .i64 (p : Int)), (4, .bool false), (12, .int .i64 (p : Int))] (by kernel_rfl) ?_
  refine WO_callB ((Op.call { callee := (Callee.value (Operand.func 25)), args := #[(Operand.tmp 12)], argTypes := #[3] }), 25) #[.int .i64 (p : Int)] (.tuple #[.int .i64 (plain (p : Int)), .int .i64 0]) (by kernel_rfl) (by kernel_rfl) (by kernel_rfl) (default_any (p : Int) (isP_nat hp) w) (fun w1 hc2 => ?_)
  have hS3 := hS0.keep hc2
  refine WO_batch [2, 3, 4, 5, 6] [] [0, 1, 4, 5, 6] [(0, .slice A m c), (1, .int .i64 (p : Int)), (4, .bool false), (5, .int .i64 (plain (p : Int))), (6, .int .i64 0)] (by kernel_rfl) ?_
  refine WO_endS ?_
  refine W_regS [0, 1, 2, 3, 4, 5, 6] (by kernel_rfl) ?_
  refine WO_batch [0] [1, 2, 3, 4, 5, 6] [0, 1, 4, 5, 6, 17] [(0, .slice A m c), (1, .int .i64 (p : Int)), (4, .bool false), (5, .int .i64 (plain (p : Int))), (6, .int .i64 0), (17, .int .i64 (p : Int))] (by kernel_rfl) ?_
  refine WO_callB ((Op.call { callee := (Callee.value (Operand.func 31)), args := #[(Operand.tmp 17)], argTypes := #[3] }), 37) #[.int .i64 (p : Int)] (.tuple #[.bool (goes (p : Int)), .int .i64 0]) (by kernel_rfl) (by kernel_rfl) (by kernel_rfl) (goes_any (p : Int) (isP_nat hp) w1) (fun w4 hc5 => ?_)
  have hS6 := hS3.keep hc5
  refine WO_batch [2, 3, 4, 5, 6] [] [0, 1, 4, 5, 6, 7, 8] [(0, .slice A m c), (1, .int .i64 (p : Int)), (4, .bool false), (5, .int .i64 (plain (p : Int))), (6, .int .i64 0), (7, .bool (goes (p : Int))), (8, .int .i64 0)] (by kernel_rfl) ?_
  refine WO_endS ?_
  refine W_seq ?_
  refine W_regS [0, 1, 2, 3, 4, 5, 6, 7, 8, 9, 10, 11, 12, 13, 14, 15, 16, 17, 18, 19] (by kernel_rfl) ?_
  refine WO_batch [0] [1, 2, 3, 4, 5, 6, 7, 8, 9, 10, 11, 12, 13, 14, 15, 16, 17, 18, 19] [0, 1, 4, 5, 7, 8, 21] [(0, .slice A m c), (1, .int .i64 (p : Int)), (4, .bool false), (5, .int .i64 (plain (p : Int))), (7, .bool (goes (p : Int))), (8, .int .i64 0), (21, .int .i64 0)] (by kernel_rfl) ?_
  refine WO_callS ((Op.call { callee := (Callee.value (Operand.func 26)), args := #[(Operand.tmp 21)], argTypes := #[24] }), 3) #[.int .i64 0] (.int .i64 0) (by kernel_rfl) (by kernel_rfl) (by kernel_rfl) (num_any 0 w4) ?_
  refine WO_batch [2, 3, 4] [5, 6, 7, 8, 9, 10, 11, 12, 13, 14, 15, 16, 17, 18, 19] [0, 1, 4, 5, 7, 24, 25] [(0, .slice A m c), (1, .int .i64 (p : Int)), (4, .bool false), (5, .int .i64 (plain (p : Int))), (7, .bool (goes (p : Int))), (24, .bool false), (25, .int .i64 0)] (by kernel_rfl) ?_
  refine WO_callS ((Op.call { callee := (Callee.value (Operand.func 26)), args := #[(Operand.tmp 25)], argTypes := #[24] }), 3) #[.int .i64 0] (.int .i64 0) (by kernel_rfl) (by kernel_rfl) (by kernel_rfl) (num_any 0 w4) ?_
  refine WO_batch [6, 7, 8, 9, 10] [11, 12, 13, 14, 15, 16, 17, 18, 19] [0, 1, 4, 7, 29, 30, 31] [(0, .slice A m c), (1, .int .i64 (p : Int)), (4, .bool false), (7, .bool (goes (p : Int))), (29, .bool false), (30, .int .i64 (plain (p : Int))), (31, .int .i64 (p : Int))] (by kernel_rfl) ?_
  refine WO_callS ((Op.call { callee := (Callee.value (Operand.func 32)), args := #[(Operand.tmp 31)], argTypes := #[3] }), 3) #[.int .i64 (p : Int)] (.int .i64 (plain (p : Int))) (by kernel_rfl) (by kernel_rfl) (by kernel_rfl) (rdefault_any (p : Int) (isP_nat hp) w4) ?_
  refine WO_batch [12, 13, 14] [15, 16, 17, 18, 19] [0, 1, 4, 7, 35] [(0, .slice A m c), (1, .int .i64 (p : Int)), (4, .bool false), (7, .bool (goes (p : Int))), (35, .bool (!decide ((plain (p : Int)) = (plain (p : Int)))))] (by kernel_rfl) ?_
  rw [show (!decide ((plain (p : Int)) = (plain (p : Int)))) = false from by simp]
  refine WO_batch [15, 16] [17, 18, 19] [0, 1, 4, 35, 36, 37] [(0, .slice A m c), (1, .int .i64 (p : Int)), (4, .bool false), (35, .bool false), (36, .bool (goes (p : Int))), (37, .int .i64 (p : Int))] (by kernel_rfl) ?_
  refine WO_callS ((Op.call { callee := (Callee.value (Operand.func 33)), args := #[(Operand.tmp 37)], argTypes := #[3] }), 4) #[.int .i64 (p : Int)] (.bool (goes (p : Int))) (by kernel_rfl) (by kernel_rfl) (by kernel_rfl) (rgoes_any (p : Int) w4) ?_
  refine WO_batch [18, 19] [] [0, 1, 4, 40] [(0, .slice A m c), (1, .int .i64 (p : Int)), (4, .bool false), (40, .bool (!((goes (p : Int)) == (goes (p : Int)))))] (by kernel_rfl) ?_
  refine WO_endS ?_
  rw [show (!((goes (p : Int)) == (goes (p : Int)))) = false from by simp]
  refine W_condF rfl rfl ?_
  refine W_skip ?_
  repeat (first | refine normal_block ?_ | refine normal_labels ?_)
  refine W_next ?_
  refine W_seq ?_
  refine W_regS [0] (by kernel_rfl) ?_
  refine WO_batch [0] [] [0, 1, 4, 9] [(0, .slice A m c), (1, .int .i64 (p : Int)), (4, .bool false), (9, .int .i64 0)] (by kernel_rfl) ?_
  refine WO_endS ?_
  refine W_block ?_
  refine W_loop (σ := Nat) (fun k => [(0, .slice A m c), (1, .int .i64 (p : Int)), (9, .int .i64 (k : Int))]) (fun k wl => k ≤ m ∧ St No w wl []) (fun k => m - k) 0 (Env.sub_cons rfl (Env.sub_cons rfl (Env.sub_cons rfl (Env.sub_nil _)))) (⟨by omega, hS6⟩) ?_
  intro k w8 hI9
  obtain ⟨hk0, hS1⟩ := hI9
  refine W_seq ?_
  refine W_regS [0, 1, 2, 3, 4, 5, 6, 7] (by kernel_rfl) ?_
  refine WO_batch [0, 1, 2, 3, 4] [5, 6, 7] [0, 1, 9, 45] [(0, .slice A m c), (1, .int .i64 (p : Int)), (9, .int .i64 (k : Int)), (45, .bool (decide ((k : Int) < (m : Int))))] (by kernel_rfl) ?_
  rcases Bool.eq_false_or_eq_true (decide ((k : Int) < (m : Int))) with hb10 | hb10
  · simp only [hb10]
    have h11 : (k : Int) < (m : Int) := by simpa using hb10
    have hk : k < m := by omega
    obtain ⟨ad, had, hall⟩ := hA (by omega)
    obtain ⟨q, v, B, n, c2, xs, hcell, hB, hn⟩ := hall k hk
    refine WO_batch [5, 6, 7] [] [0, 1, 9, 48] [(0, .slice A m c), (1, .int .i64 (p : Int)), (9, .int .i64 (k : Int)), (48, .bool (decide ((k : Int) < 30)))] (by kernel_rfl) ?_
    refine WO_endS ?_
    refine W_cond (t := decide ((k : Int) < 30)) rfl rfl (fun hb12 => ?_) (fun hb12 => ?_)
    · simp only [hb12]
      have h13 : (k : Int) < 30 := by simpa using hb12
      refine W_skip ?_
      repeat (first | refine normal_block ?_ | refine normal_labels ?_)
      refine W_next ?_
      refine W_seq ?_
      refine W_block ?_
      refine W_seq ?_
      refine W_drawS (W_drawL [([], [1]), ([], [0]), ([], [9]), ([1, 2], []), ([1, 2, 3], []), ([1, 2, 3, 4], []), ([0, 1, 2, 3, 4, 5], []), ([0, 1, 2, 3, 4, 5, 6], []), ([], [1]), ([], [0]), ([], [9]), ([9, 10], []), ([9, 10, 11], []), ([9, 10, 11, 12], []), ([0, 1, 2, 3, 4, 5, 6, 7, 8, 9, 10, 11, 12, 13], []), ([0, 1, 2, 3, 4, 5, 6, 7, 8, 9, 10, 11, 12, 13, 14], []), ([15], [0, 1, 9, 48])] [Is (.int .i64 (p : Int)), Is (.slice A m c), Is (.int .i64 (k : Int)), Is (.pointer (some (ad.add (k * 3)))), Is (.pointer (some ((ad.add (k * 3)).add 1))), Is (.int .i64 v), Is (.int .i64 (chk (p : Int) v)), Is (.int .i64 (chk (p : Int) v)), Is (.int .i64 (p : Int)), Is (.slice A m c), Is (.int .i64 (k : Int)), Is (.pointer (some (ad.add (k * 3)))), Is (.pointer (some ((ad.add (k * 3)).add 1))), Is (.int .i64 v), Is (.int .i64 (chk (p : Int) v)), Is (.bool (!decide ((chk (p : Int) v) = (chk (p : Int) v))))] 16 (by kernel_rfl) (by kernel_rfl) (by kernel_rfl) ⟨Is.stab _, ⟨Is.stab _, ⟨Is.stab _, ⟨Is.stab _, ⟨Is.stab _, ⟨Is.stab _, ⟨Is.stab _, ⟨Is.stab _, ⟨Is.stab _, ⟨Is.stab _, ⟨Is.stab _, ⟨Is.stab _, ⟨Is.stab _, ⟨Is.stab _, ⟨Is.stab _, ⟨Is.stab _, trivial⟩⟩⟩⟩⟩⟩⟩⟩⟩⟩⟩⟩⟩⟩⟩⟩ ?_ ?_)
      · refine ⟨⟨⟨⟨⟨⟨⟨⟨⟨⟨⟨⟨⟨⟨⟨⟨trivial, ?_⟩, ?_⟩, ?_⟩, ?_⟩, ?_⟩, ?_⟩, ?_⟩, ?_⟩, ?_⟩, ?_⟩, ?_⟩, ?_⟩, ?_⟩, ?_⟩, ?_⟩, ?_⟩
        · intro vs wi hr hj
          refine One.env (L' := [(1, .int .i64 (p : Int))]) (Env.sub_cons (by kernel_rfl) (Env.sub_nil _)) ?_
          exact One_pureD (v := .int .i64 (p : Int)) (by kernel_rfl)
        · intro vs wi hr hj
          refine One.env (L' := [(0, .slice A m c)]) (Env.sub_cons (by kernel_rfl) (Env.sub_nil _)) ?_
          exact One_pureD (v := .slice A m c) (by kernel_rfl)
        · intro vs wi hr hj
          refine One.env (L' := [(9, .int .i64 (k : Int))]) (Env.sub_cons (by kernel_rfl) (Env.sub_nil _)) ?_
          exact One_pureD (v := .int .i64 (k : Int)) (by kernel_rfl)
        · intro vs wi hr hj
          have e14 : vs 1 = .slice A m c := hj 1 rfl
          have e15 : vs 2 = .int .i64 (k : Int) := hj 2 rfl
          refine One.env (L' := [(52, .slice A m c), (53, .int .i64 (k : Int))]) (sub_vs (x := vs 1) (by kernel_rfl) e14 (sub_vs (x := vs 2) (by kernel_rfl) e15 (Env.sub_nil _))) ?_
          exact One_indexN (i := 3) (t := 22) (ty := 0) (x := (Operand.tmp 52)) (y := (Operand.tmp 53)) (A := A) (a := ad) (len := m) (cap := c) (k := .i64) (j := k) (e := 34) (sz := 3) (by kernel_rfl) (by kernel_rfl) (by kernel_rfl) (by kernel_rfl) (by kernel_rfl) had (by omega) ⟨rfl, Ch.refl _ _⟩
        · intro vs wi hr hj
          have e16 : vs 3 = .pointer (some (ad.add (k * 3))) := hj 3 rfl
          refine One.env (L' := [(54, .pointer (some (ad.add (k * 3))))]) (sub_vs (x := vs 3) (by kernel_rfl) e16 (Env.sub_nil _)) ?_
          exact One_pureD (v := .pointer (some ((ad.add (k * 3)).add 1))) (by kernel_rfl)
        · intro vs wi hr hj
          have e17 : vs 4 = .pointer (some ((ad.add (k * 3)).add 1)) := hj 4 rfl
          refine One.env (L' := [(55, .pointer (some ((ad.add (k * 3)).add 1)))]) (sub_vs (x := vs 4) (by kernel_rfl) e17 (Env.sub_nil _)) ?_
          have hS18 := hS1.drew.keep hr
          exact One_load (t := 3) (ty := 3) (x := (Operand.tmp 55)) (a := (ad.add (k * 3)).add 1) (v := .int .i64 v) (by kernel_rfl) (by kernel_rfl) (run_load1 (by kernel_rfl) (hS18.old (hcell 1 _ rfl) id)) ⟨rfl, Ch.refl _ _⟩
        · intro vs wi hr hj
          have e19 : vs 0 = .int .i64 (p : Int) := hj 0 rfl
          have e20 : vs 5 = .int .i64 v := hj 5 rfl
          refine One.env (L' := [(56, .int .i64 v), (51, .int .i64 (p : Int))]) (sub_vs (x := vs 5) (by kernel_rfl) e20 (sub_vs (x := vs 0) (by kernel_rfl) e19 (Env.sub_nil _))) ?_
          exact One_callBD ((Op.call { callee := (Callee.value (Operand.func 27)), args := #[(Operand.tmp 51), (Operand.tmp 56)], argTypes := #[3, 3] }), 24) #[.int .i64 (p : Int), .int .i64 v] (.int .i64 (chk (p : Int) v)) (by kernel_rfl) (by kernel_rfl) (check_any (p : Int) v wi)
        · intro vs wi hr hj
          have e21 : vs 6 = .int .i64 (chk (p : Int) v) := hj 6 rfl
          refine One.env (L' := [(57, .int .i64 (chk (p : Int) v))]) (sub_vs (x := vs 6) (by kernel_rfl) e21 (Env.sub_nil _)) ?_
          exact One_callSD ((Op.call { callee := (Callee.value (Operand.func 26)), args := #[(Operand.tmp 57)], argTypes := #[24] }), 3) #[.int .i64 (chk (p : Int) v)] (.int .i64 (chk (p : Int) v)) (by kernel_rfl) (by kernel_rfl) (num_any (chk (p : Int) v) wi)
        · intro vs wi hr hj
          refine One.env (L' := [(1, .int .i64 (p : Int))]) (Env.sub_cons (by kernel_rfl) (Env.sub_nil _)) ?_
          exact One_pureD (v := .int .i64 (p : Int)) (by kernel_rfl)
        · intro vs wi hr hj
          refine One.env (L' := [(0, .slice A m c)]) (Env.sub_cons (by kernel_rfl) (Env.sub_nil _)) ?_
          exact One_pureD (v := .slice A m c) (by kernel_rfl)
        · intro vs wi hr hj
          refine One.env (L' := [(9, .int .i64 (k : Int))]) (Env.sub_cons (by kernel_rfl) (Env.sub_nil _)) ?_
          exact One_pureD (v := .int .i64 (k : Int)) (by kernel_rfl)
        · intro vs wi hr hj
          have e22 : vs 9 = .slice A m c := hj 9 rfl
          have e23 : vs 10 = .int .i64 (k : Int) := hj 10 rfl
          refine One.env (L' := [(60, .slice A m c), (61, .int .i64 (k : Int))]) (sub_vs (x := vs 9) (by kernel_rfl) e22 (sub_vs (x := vs 10) (by kernel_rfl) e23 (Env.sub_nil _))) ?_
          exact One_indexN (i := 11) (t := 22) (ty := 0) (x := (Operand.tmp 60)) (y := (Operand.tmp 61)) (A := A) (a := ad) (len := m) (cap := c) (k := .i64) (j := k) (e := 34) (sz := 3) (by kernel_rfl) (by kernel_rfl) (by kernel_rfl) (by kernel_rfl) (by kernel_rfl) had (by omega) ⟨rfl, Ch.refl _ _⟩
        · intro vs wi hr hj
          have e24 : vs 11 = .pointer (some (ad.add (k * 3))) := hj 11 rfl
          refine One.env (L' := [(62, .pointer (some (ad.add (k * 3))))]) (sub_vs (x := vs 11) (by kernel_rfl) e24 (Env.sub_nil _)) ?_
          exact One_pureD (v := .pointer (some ((ad.add (k * 3)).add 1))) (by kernel_rfl)
        · intro vs wi hr hj
          have e25 : vs 12 = .pointer (some ((ad.add (k * 3)).add 1)) := hj 12 rfl
          refine One.env (L' := [(63, .pointer (some ((ad.add (k * 3)).add 1)))]) (sub_vs (x := vs 12) (by kernel_rfl) e25 (Env.sub_nil _)) ?_
          have hS26 := hS1.drew.keep hr
          exact One_load (t := 3) (ty := 3) (x := (Operand.tmp 63)) (a := (ad.add (k * 3)).add 1) (v := .int .i64 v) (by kernel_rfl) (by kernel_rfl) (run_load1 (by kernel_rfl) (hS26.old (hcell 1 _ rfl) id)) ⟨rfl, Ch.refl _ _⟩
        · intro vs wi hr hj
          have e27 : vs 8 = .int .i64 (p : Int) := hj 8 rfl
          have e28 : vs 13 = .int .i64 v := hj 13 rfl
          refine One.env (L' := [(64, .int .i64 v), (59, .int .i64 (p : Int))]) (sub_vs (x := vs 13) (by kernel_rfl) e28 (sub_vs (x := vs 8) (by kernel_rfl) e27 (Env.sub_nil _))) ?_
          exact One_callSD ((Op.call { callee := (Callee.value (Operand.func 29)), args := #[(Operand.tmp 59), (Operand.tmp 64)], argTypes := #[3, 3] }), 3) #[.int .i64 (p : Int), .int .i64 v] (.int .i64 (chk (p : Int) v)) (by kernel_rfl) (by kernel_rfl) (rcheck_any (p : Int) v wi)
        · intro vs wi hr hj
          have e29 : vs 7 = .int .i64 (chk (p : Int) v) := hj 7 rfl
          have e30 : vs 14 = .int .i64 (chk (p : Int) v) := hj 14 rfl
          refine One.env (L' := [(65, .int .i64 (chk (p : Int) v)), (58, .int .i64 (chk (p : Int) v))]) (sub_vs (x := vs 14) (by kernel_rfl) e30 (sub_vs (x := vs 7) (by kernel_rfl) e29 (Env.sub_nil _))) ?_
          exact One_pureD (v := .bool (!decide ((chk (p : Int) v) = (chk (p : Int) v)))) (by kernel_rfl)
      · intro vs w31 hr hj
        have e32 : vs 15 = .bool (!decide ((chk (p : Int) v) = (chk (p : Int) v))) := hj 15 (by decide)
        refine WO_sub (L' := [(0, .slice A m c), (1, .int .i64 (p : Int)), (9, .int .i64 (k : Int)), (48, .bool true), (66, .bool (!decide ((chk (p : Int) v) = (chk (p : Int) v))))]) (Env.sub_cons (by kernel_rfl) (Env.sub_cons (by kernel_rfl) (Env.sub_cons (by kernel_rfl) (Env.sub_cons (by kernel_rfl) (sub_vs (x := vs 15) (by kernel_rfl) e32 (Env.sub_nil _)))))) ?_
        have hS33 := hS1.drew.keep hr
        refine WO_endS ?_
        rw [show (!decide ((chk (p : Int) v) = (chk (p : Int) v))) = false from by simp]
        refine W_condF rfl rfl ?_
        refine W_skip ?_
        repeat (first | refine normal_block ?_ | refine normal_labels ?_)
        refine W_next ?_
        refine W_regS [0, 1, 2] (by kernel_rfl) ?_
        refine WO_callR ((Op.call { callee := (Callee.value (Operand.func 36)), args := #[], argTypes := #[] }), 32) #[] (by kernel_rfl) (by kernel_rfl) (by kernel_rfl) (plain_any w31) ?_
        rintro e w34 ⟨A1, c1, rfl, hch, hrow, hfr⟩
        refine ⟨_, rfl, ?_⟩
        have hS35 := hS33.new hch _ hrow hfr
        obtain ⟨g1, hg1, _⟩ := Row.form (hS35.get (i := 0) rfl) (by omega)
        refine WO_of_one (by kernel_rfl) (One_new (x := ((Op.alloc 32), 0)) (t := 32) (cs := [.slice none 0 0]) (mk := fun r => .pointer (some ⟨r, 0, none⟩)) (by kernel_rfl) hS35 (fun r => by kernel_rfl) (fun g36 w37 hS38 hc39 => ?_))
        refine WO_of_one (by kernel_rfl) (One_store (i := 2) (c := 0) (g := g36) (o := 0) (t := 32) (t' := 32) (ty := 0) (x := (Operand.tmp 10)) (y := (Operand.tmp 67)) (cs := [.slice none 0 0]) (v := .agg #[.slice A1 19 c1]) (by kernel_rfl) (by kernel_rfl) (by kernel_rfl) hS38 rfl (by kernel_rfl) (by simp [Value.cells]) (by kernel_rfl) (fun w40 hS41 hc42 => ?_))
        change St _ _ w40 [Blk g36 32 [.slice A1 19 c1], Row 3 1 (.slice A1 19 c1) 19 (plainTo 19)] at hS41
        refine WO_endS ?_
        refine W_seq ?_
        refine W_regS [0, 1, 2, 3] (by kernel_rfl) ?_
        refine WO_batch [0] [1, 2, 3] [0, 1, 9, 48, 66, 10, 68] [(0, .slice A m c), (1, .int .i64 (p : Int)), (9, .int .i64 (k : Int)), (48, .bool true), (66, .bool false), (10, .pointer (some ⟨g36, 0, none⟩)), (68, .pointer (some ⟨g36, 0, none⟩))] (by kernel_rfl) ?_
        refine WO_of_one (by kernel_rfl) (One_load (t := 23) (ty := 23) (x := (Operand.tmp 68)) (a := ⟨g36, 0, none⟩) (v := .slice A1 19 c1) (by kernel_rfl) (by kernel_rfl) (run_loadBlk1 (hS41.get (i := 0) rfl) (by kernel_rfl) rfl) ?_)
        refine WO_batch [2, 3] [] [0, 1, 9, 48, 66, 10, 71] [(0, .slice A m c), (1, .int .i64 (p : Int)), (9, .int .i64 (k : Int)), (48, .bool true), (66, .bool false), (10, .pointer (some ⟨g36, 0, none⟩)), (71, .bool false)] (by kernel_rfl) ?_
        refine WO_endS ?_
        refine W_condF rfl rfl ?_
        refine W_skip ?_
        repeat (first | refine normal_block ?_ | refine normal_labels ?_)
        refine W_next ?_
        refine W_drawS (W_drawT [([], [10]), ([0], []), ([], [1]), ([], [0]), ([], [9]), ([3, 4], []), ([3, 4, 5], []), ([3, 4, 5, 6], []), ([0, 1, 2, 3, 4, 5, 6, 7], []), ([0, 1, 2, 3, 4, 5, 6, 7, 8], []), ([], [0, 1, 9, 48, 66, 10, 71])] [(fun vv => vv = .pointer (some ⟨g36, 0, none⟩)), (fun vv => vv = .slice A1 19 c1), (fun vv => vv = .int .i64 (p : Int)), (fun vv => vv = .slice A m c), (fun vv => vv = .int .i64 (k : Int)), (fun vv => vv = .pointer (some (ad.add (k * 3)))), (fun vv => vv = .pointer (some ((ad.add (k * 3)).add 1))), (fun vv => vv = .int .i64 v), (fun vv => vv = .pointer (some ⟨g1, p * 1, none⟩)), Any] [AnyW, AnyW, AnyW, AnyW, AnyW, AnyW, AnyW, AnyW, AnyW, AnyW] [fun _ wl => St No w wl [Blk g36 32 [.slice A1 19 c1], Row 3 1 (.slice A1 19 c1) 19 (splice (plainTo 19) (p * 1) [.int .i64 v])]] [9] [0, 2, 3, 4, 6] 10 (by kernel_rfl) (by kernel_rfl) (by kernel_rfl) (by kernel_rfl) ⟨AnyW.stab, ⟨AnyW.stab, ⟨AnyW.stab, ⟨AnyW.stab, ⟨AnyW.stab, ⟨AnyW.stab, ⟨AnyW.stab, ⟨AnyW.stab, ⟨AnyW.stab, ⟨AnyW.stab, trivial⟩⟩⟩⟩⟩⟩⟩⟩⟩⟩ (by decide) ?_ ?_)
        · refine ⟨⟨⟨⟨⟨⟨⟨⟨⟨⟨trivial, ?_⟩, ?_⟩, ?_⟩, ?_⟩, ?_⟩, ?_⟩, ?_⟩, ?_⟩, ?_⟩, ?_⟩
          · intro vs wi hj
            refine One.env (L' := [(10, .pointer (some ⟨g36, 0, none⟩))]) (Env.sub_cons (by kernel_rfl) (Env.sub_nil _)) ?_
            exact One_pureT (v := .pointer (some ⟨g36, 0, none⟩)) (by kernel_rfl) rfl
          · intro vs wi hr hj
            have e43 : vs 0 = .pointer (some ⟨g36, 0, none⟩) := (hj 0 rfl).1
            refine One.env (L' := [(72, .pointer (some ⟨g36, 0, none⟩))]) (sub_vs (x := vs 0) (by kernel_rfl) e43 (Env.sub_nil _)) ?_
            have hS44 := hS41.drew.keep hr
            exact One_load (t := 23) (ty := 23) (x := (Operand.tmp 72)) (a := ⟨g36, 0, none⟩) (v := .slice A1 19 c1) (by kernel_rfl) (by kernel_rfl) (run_loadBlk1 (hS44.get (i := 0) rfl) (by kernel_rfl) rfl) ⟨rfl, trivial, Ch.refl _ _⟩
          · intro vs wi hj
            refine One.env (L' := [(1, .int .i64 (p : Int))]) (Env.sub_cons (by kernel_rfl) (Env.sub_nil _)) ?_
            exact One_pureT (v := .int .i64 (p : Int)) (by kernel_rfl) rfl
          · intro vs wi hj
            refine One.env (L' := [(0, .slice A m c)]) (Env.sub_cons (by kernel_rfl) (Env.sub_nil _)) ?_
            exact One_pureT (v := .slice A m c) (by kernel_rfl) rfl
          · intro vs wi hj
            refine One.env (L' := [(9, .int .i64 (k : Int))]) (Env.sub_cons (by kernel_rfl) (Env.sub_nil _)) ?_
            exact One_pureT (v := .int .i64 (k : Int)) (by kernel_rfl) rfl
          · intro vs wi hr hj
            have e45 : vs 3 = .slice A m c := (hj 3 rfl).1
            have e46 : vs 4 = .int .i64 (k : Int) := (hj 4 rfl).1
            refine One.env (L' := [(75, .slice A m c), (76, .int .i64 (k : Int))]) (sub_vs (x := vs 3) (by kernel_rfl) e45 (sub_vs (x := vs 4) (by kernel_rfl) e46 (Env.sub_nil _))) ?_
            exact One_indexN (i := 5) (t := 22) (ty := 0) (x := (Operand.tmp 75)) (y := (Operand.tmp 76)) (A := A) (a := ad) (len := m) (cap := c) (k := .i64) (j := k) (e := 34) (sz := 3) (by kernel_rfl) (by kernel_rfl) (by kernel_rfl) (by kernel_rfl) (by kernel_rfl) had (by omega) ⟨rfl, trivial, Ch.refl _ _⟩
          · intro vs wi hj
            have e47 : vs 5 = .pointer (some (ad.add (k * 3))) := hj 5 rfl
            refine One.env (L' := [(77, .pointer (some (ad.add (k * 3))))]) (sub_vs (x := vs 5) (by kernel_rfl) e47 (Env.sub_nil _)) ?_
            exact One_pureT (v := .pointer (some ((ad.add (k * 3)).add 1))) (by kernel_rfl) rfl
          · intro vs wi hr hj
            have e48 : vs 6 = .pointer (some ((ad.add (k * 3)).add 1)) := (hj 6 rfl).1
            refine One.env (L' := [(78, .pointer (some ((ad.add (k * 3)).add 1)))]) (sub_vs (x := vs 6) (by kernel_rfl) e48 (Env.sub_nil _)) ?_
            have hS49 := hS41.drew.keep hr
            exact One_load (t := 3) (ty := 3) (x := (Operand.tmp 78)) (a := (ad.add (k * 3)).add 1) (v := .int .i64 v) (by kernel_rfl) (by kernel_rfl) (run_load1 (by kernel_rfl) (hS49.old (hcell 1 _ rfl) id)) ⟨rfl, trivial, Ch.refl _ _⟩
          · intro vs wi hr hj
            have e50 : vs 1 = .slice A1 19 c1 := (hj 1 rfl).1
            have e51 : vs 2 = .int .i64 (p : Int) := (hj 2 rfl).1
            refine One.env (L' := [(73, .slice A1 19 c1), (74, .int .i64 (p : Int))]) (sub_vs (x := vs 1) (by kernel_rfl) e50 (sub_vs (x := vs 2) (by kernel_rfl) e51 (Env.sub_nil _))) ?_
            exact One_indexG (i := 8) (t := 23) (ty := 0) (x := (Operand.tmp 73)) (y := (Operand.tmp 74)) (A := A1) (g := g1) (len := 19) (cap := c1) (k := .i64) (j := p) (e := 3) (sz := 1) (by kernel_rfl) (by kernel_rfl) (by kernel_rfl) (by kernel_rfl) (by kernel_rfl) hg1 (by omega) ⟨rfl, trivial, Ch.refl _ _⟩
          · intro vs wi hr hj
            have hSi := hS41.drew.keep hr
            have e52 : vs 7 = .int .i64 v := (hj 7 rfl).1
            have e53 : vs 8 = .pointer (some ⟨g1, p * 1, none⟩) := (hj 8 rfl).1
            refine One.env (L' := [(80, .pointer (some ⟨g1, p * 1, none⟩)), (79, .int .i64 v)]) (sub_vs (x := vs 8) (by kernel_rfl) e53 (sub_vs (x := vs 7) (by kernel_rfl) e52 (Env.sub_nil _))) ?_
            exact One_storeRowA (i := 9) (c := 1) (g := g1) (o := p * 1) (m := 19) (cap := c1) (e := 3) (t := 3) (ty := 0) (sz := 1) (x := (Operand.tmp 80)) (y := (Operand.tmp 79)) (A := A1) (cs := plainTo 19) (v := .int .i64 v) (by kernel_rfl) (by kernel_rfl) (by kernel_rfl) hSi hg1 rfl (by kernel_rfl) (by rw [show (plainTo 19).length = 19 from by simp [plainTo]]; simp [Value.cells]; omega) (by kernel_rfl) (fun w2 hS2 _ => ⟨trivial, hS2⟩)
        · intro vs w54 hj hL
          have hS55 := hL
          refine WO_sub (L' := [(0, .slice A m c), (1, .int .i64 (p : Int)), (9, .int .i64 (k : Int)), (48, .bool true), (66, .bool false), (10, .pointer (some ⟨g36, 0, none⟩)), (71, .bool false)]) (Env.sub_cons (by kernel_rfl) (Env.sub_cons (by kernel_rfl) (Env.sub_cons (by kernel_rfl) (Env.sub_cons (by kernel_rfl) (Env.sub_cons (by kernel_rfl) (Env.sub_cons (by kernel_rfl) (Env.sub_cons (by kernel_rfl) (Env.sub_nil _)))))))) ?_
          refine WO_endS ?_
          refine W_drawS (W_drawL [([], [10]), ([0], []), ([0, 1], []), ([0, 1, 2], []), ([], [1]), ([], [0]), ([], [9]), ([5, 6], []), ([5, 6, 7], []), ([5, 6, 7, 8], []), ([0, 1, 2, 4, 5, 6, 7, 8, 9], []), ([0, 1, 2, 4, 5, 6, 7, 8, 9, 10], []), ([0, 1, 2, 3, 4, 5, 6, 7, 8, 9, 10, 11], []), ([12], [0, 1, 9, 48, 66, 10, 71])] [Is (.agg #[.slice A1 19 c1]), Is (.int .i64 (if whole (plainL.set p v) = true then (0 : Int) else 1)), Is (.int .i64 (if whole (plainL.set p v) = true then (0 : Int) else 1)), Is (.bool (decide ((if whole (plainL.set p v) = true then (0 : Int) else 1) = 0))), Is (.int .i64 (p : Int)), Is (.slice A m c), Is (.int .i64 (k : Int)), Is (.pointer (some (ad.add (k * 3)))), Is (.pointer (some ((ad.add (k * 3)).add 1))), Is (.int .i64 v), Is (.int .i64 (chk (p : Int) v)), Is (.bool (decide ((chk (p : Int) v) = 0))), Is (.bool (!((decide ((if whole (plainL.set p v) = true then (0 : Int) else 1) = 0)) == (decide ((chk (p : Int) v) = 0)))))] 13 (by kernel_rfl) (by kernel_rfl) (by kernel_rfl) ⟨Is.stab _, ⟨Is.stab _, ⟨Is.stab _, ⟨Is.stab _, ⟨Is.stab _, ⟨Is.stab _, ⟨Is.stab _, ⟨Is.stab _, ⟨Is.stab _, ⟨Is.stab _, ⟨Is.stab _, ⟨Is.stab _, ⟨Is.stab _, trivial⟩⟩⟩⟩⟩⟩⟩⟩⟩⟩⟩⟩⟩ ?_ ?_)
          · refine ⟨⟨⟨⟨⟨⟨⟨⟨⟨⟨⟨⟨⟨trivial, ?_⟩, ?_⟩, ?_⟩, ?_⟩, ?_⟩, ?_⟩, ?_⟩, ?_⟩, ?_⟩, ?_⟩, ?_⟩, ?_⟩, ?_⟩
            · intro vs wi hr hj
              refine One.env (L' := [(10, .pointer (some ⟨g36, 0, none⟩))]) (Env.sub_cons (by kernel_rfl) (Env.sub_nil _)) ?_
              have hS56 := hS55.drew.keep hr
              exact One_load (t := 32) (ty := 32) (x := (Operand.tmp 10)) (a := ⟨g36, 0, none⟩) (v := .agg #[.slice A1 19 c1]) (by kernel_rfl) (by kernel_rfl) (run_loadBlkN (sub := [.slice A1 19 c1]) (hS56.get (i := 0) rfl) (by kernel_rfl) (by kernel_rfl) rfl) ⟨rfl, Ch.refl _ _⟩
            · intro vs wi hr hj
              have e57 : vs 0 = .agg #[.slice A1 19 c1] := hj 0 rfl
              refine One.env (L' := [(81, .agg #[.slice A1 19 c1])]) (sub_vs (x := vs 0) (by kernel_rfl) e57 (Env.sub_nil _)) ?_
              have hS58 := hS55.drew.keep hr
              exact One_callBD ((Op.call { callee := (Callee.value (Operand.func 34)), args := #[(Operand.tmp 81)], argTypes := #[32] }), 24) #[.agg #[.slice A1 19 c1]] (.int .i64 (if whole (plainL.set p v) = true then (0 : Int) else 1)) (by kernel_rfl) (by kernel_rfl) (all_any A1 19 c1 (plainL.set p v) wi (Row.ints (by rw [← splice_one (by simp [plainL]; exact hp), ← plainTo_eq]; have hz := hS58.get (i := 1) rfl; rw [Nat.mul_one] at hz; exact hz)) (by omega))
            · intro vs wi hr hj
              have e59 : vs 1 = .int .i64 (if whole (plainL.set p v) = true then (0 : Int) else 1) := hj 1 rfl
              refine One.env (L' := [(82, .int .i64 (if whole (plainL.set p v) = true then (0 : Int) else 1))]) (sub_vs (x := vs 1) (by kernel_rfl) e59 (Env.sub_nil _)) ?_
              exact One_callSD ((Op.call { callee := (Callee.value (Operand.func 26)), args := #[(Operand.tmp 82)], argTypes := #[24] }), 3) #[.int .i64 (if whole (plainL.set p v) = true then (0 : Int) else 1)] (.int .i64 (if whole (plainL.set p v) = true then (0 : Int) else 1)) (by kernel_rfl) (by kernel_rfl) (num_any (if whole (plainL.set p v) = true then (0 : Int) else 1) wi)
            · intro vs wi hr hj
              have e60 : vs 2 = .int .i64 (if whole (plainL.set p v) = true then (0 : Int) else 1) := hj 2 rfl
              refine One.env (L' := [(83, .int .i64 (if whole (plainL.set p v) = true then (0 : Int) else 1))]) (sub_vs (x := vs 2) (by kernel_rfl) e60 (Env.sub_nil _)) ?_
              exact One_pureD (v := .bool (decide ((if whole (plainL.set p v) = true then (0 : Int) else 1) = 0))) (by kernel_rfl)
            · intro vs wi hr hj
              refine One.env (L' := [(1, .int .i64 (p : Int))]) (Env.sub_cons (by kernel_rfl) (Env.sub_nil _)) ?_
              exact One_pureD (v := .int .i64 (p : Int)) (by kernel_rfl)
            · intro vs wi hr hj
              refine One.env (L' := [(0, .slice A m c)]) (Env.sub_cons (by kernel_rfl) (Env.sub_nil _)) ?_
              exact One_pureD (v := .slice A m c) (by kernel_rfl)
            · intro vs wi hr hj
              refine One.env (L' := [(9, .int .i64 (k : Int))]) (Env.sub_cons (by kernel_rfl) (Env.sub_nil _)) ?_
              exact One_pureD (v := .int .i64 (k : Int)) (by kernel_rfl)
            · intro vs wi hr hj
              have e61 : vs 5 = .slice A m c := hj 5 rfl
              have e62 : vs 6 = .int .i64 (k : Int) := hj 6 rfl
              refine One.env (L' := [(86, .slice A m c), (87, .int .i64 (k : Int))]) (sub_vs (x := vs 5) (by kernel_rfl) e61 (sub_vs (x := vs 6) (by kernel_rfl) e62 (Env.sub_nil _))) ?_
              exact One_indexN (i := 7) (t := 22) (ty := 0) (x := (Operand.tmp 86)) (y := (Operand.tmp 87)) (A := A) (a := ad) (len := m) (cap := c) (k := .i64) (j := k) (e := 34) (sz := 3) (by kernel_rfl) (by kernel_rfl) (by kernel_rfl) (by kernel_rfl) (by kernel_rfl) had (by omega) ⟨rfl, Ch.refl _ _⟩
            · intro vs wi hr hj
              have e63 : vs 7 = .pointer (some (ad.add (k * 3))) := hj 7 rfl
              refine One.env (L' := [(88, .pointer (some (ad.add (k * 3))))]) (sub_vs (x := vs 7) (by kernel_rfl) e63 (Env.sub_nil _)) ?_
              exact One_pureD (v := .pointer (some ((ad.add (k * 3)).add 1))) (by kernel_rfl)
            · intro vs wi hr hj
              have e64 : vs 8 = .pointer (some ((ad.add (k * 3)).add 1)) := hj 8 rfl
              refine One.env (L' := [(89, .pointer (some ((ad.add (k * 3)).add 1)))]) (sub_vs (x := vs 8) (by kernel_rfl) e64 (Env.sub_nil _)) ?_
              have hS65 := hS55.drew.keep hr
              exact One_load (t := 3) (ty := 3) (x := (Operand.tmp 89)) (a := (ad.add (k * 3)).add 1) (v := .int .i64 v) (by kernel_rfl) (by kernel_rfl) (run_load1 (by kernel_rfl) (hS65.old (hcell 1 _ rfl) id)) ⟨rfl, Ch.refl _ _⟩
            · intro vs wi hr hj
              have e66 : vs 4 = .int .i64 (p : Int) := hj 4 rfl
              have e67 : vs 9 = .int .i64 v := hj 9 rfl
              refine One.env (L' := [(90, .int .i64 v), (85, .int .i64 (p : Int))]) (sub_vs (x := vs 9) (by kernel_rfl) e67 (sub_vs (x := vs 4) (by kernel_rfl) e66 (Env.sub_nil _))) ?_
              exact One_callSD ((Op.call { callee := (Callee.value (Operand.func 29)), args := #[(Operand.tmp 85), (Operand.tmp 90)], argTypes := #[3, 3] }), 3) #[.int .i64 (p : Int), .int .i64 v] (.int .i64 (chk (p : Int) v)) (by kernel_rfl) (by kernel_rfl) (rcheck_any (p : Int) v wi)
            · intro vs wi hr hj
              have e68 : vs 10 = .int .i64 (chk (p : Int) v) := hj 10 rfl
              refine One.env (L' := [(91, .int .i64 (chk (p : Int) v))]) (sub_vs (x := vs 10) (by kernel_rfl) e68 (Env.sub_nil _)) ?_
              exact One_pureD (v := .bool (decide ((chk (p : Int) v) = 0))) (by kernel_rfl)
            · intro vs wi hr hj
              have e69 : vs 3 = .bool (decide ((if whole (plainL.set p v) = true then (0 : Int) else 1) = 0)) := hj 3 rfl
              have e70 : vs 11 = .bool (decide ((chk (p : Int) v) = 0)) := hj 11 rfl
              refine One.env (L' := [(84, .bool (decide ((if whole (plainL.set p v) = true then (0 : Int) else 1) = 0))), (92, .bool (decide ((chk (p : Int) v) = 0)))]) (sub_vs (x := vs 3) (by kernel_rfl) e69 (sub_vs (x := vs 11) (by kernel_rfl) e70 (Env.sub_nil _))) ?_
              exact One_pureD (v := .bool (!((decide ((if whole (plainL.set p v) = true then (0 : Int) else 1) = 0)) == (decide ((chk (p : Int) v) = 0))))) (by kernel_rfl)
          · intro vs w71 hr hj
            have e72 : vs 12 = .bool (!((decide ((if whole (plainL.set p v) = true then (0 : Int) else 1) = 0)) == (decide ((chk (p : Int) v) = 0)))) := hj 12 (by decide)
            refine WO_sub (L' := [(0, .slice A m c), (1, .int .i64 (p : Int)), (9, .int .i64 (k : Int)), (48, .bool true), (66, .bool false), (10, .pointer (some ⟨g36, 0, none⟩)), (71, .bool false), (93, .bool (!((decide ((if whole (plainL.set p v) = true then (0 : Int) else 1) = 0)) == (decide ((chk (p : Int) v) = 0)))))]) (Env.sub_cons (by kernel_rfl) (Env.sub_cons (by kernel_rfl) (Env.sub_cons (by kernel_rfl) (Env.sub_cons (by kernel_rfl) (Env.sub_cons (by kernel_rfl) (Env.sub_cons (by kernel_rfl) (Env.sub_cons (by kernel_rfl) (sub_vs (x := vs 12) (by kernel_rfl) e72 (Env.sub_nil _))))))))) ?_
            have hS73 := hS55.drew.keep hr
            refine WO_endS ?_
            rw [show (!((decide ((if whole (plainL.set p v) = true then (0 : Int) else 1) = 0)) == (decide ((chk (p : Int) v) = 0)))) = false from by rw [whole_set hp, chk_may hp]; cases may (p : Int) v <;> simp]
            refine W_condF rfl rfl ?_
            refine W_skip ?_
            repeat (first | refine normal_block ?_ | refine normal_labels ?_)
            refine W_next ?_
            refine W_reg [0, 1, 2] (by kernel_rfl) ?_
            refine WO_batch [0, 1] [2] [0, 1, 9, 48, 66, 10, 71, 93, 50] [(0, .slice A m c), (1, .int .i64 (p : Int)), (9, .int .i64 (k : Int)), (48, .bool true), (66, .bool false), (10, .pointer (some ⟨g36, 0, none⟩)), (71, .bool false), (93, .bool false), (50, .int .i64 (IntKind.i64.wrap ((k : Int) + 1)))] (by kernel_rfl) ?_
            rw [wrap_i64 (n := (k : Int) + 1) (by omega)]
            refine WO_batch [2] [] [0, 1, 48, 66, 10, 71, 93, 9] [(0, .slice A m c), (1, .int .i64 (p : Int)), (48, .bool true), (66, .bool false), (10, .pointer (some ⟨g36, 0, none⟩)), (71, .bool false), (93, .bool false), (9, .int .i64 ((k : Int) + 1))] (by kernel_rfl) ?_
            refine WO_nil ?_
            repeat (first | refine normal_block ?_ | refine normal_labels ?_)
            refine normal_then (again (w := w71) (E := fun (k : Nat) => [(0, .slice A m c), (1, .int .i64 (p : Int)), (9, .int .i64 (k : Int))]) (I := fun (k : Nat) wl => k ≤ m ∧ St No w wl []) (μ := fun (k : Nat) => m - k) (s := k) (k + 1) ?_ ?_ ?_)
            · exact (Env.sub_cons rfl (Env.sub_cons rfl (Env.sub_cons rfl (Env.sub_nil _))))
            · exact ⟨by omega, hS73.sub (List.nil_sublist _)⟩
            · exact (by omega)
    · simp only [hb12]
      have h74 : ¬ ((k : Int) < 30) := by simpa using hb12
      refine W_exit ?_
      repeat (first | refine exit_then ?_ | refine exit_labels ?_)
      refine exit_in ?_
      repeat (first | refine normal_block ?_ | refine normal_labels ?_)
      refine W_next ?_
      refine W_regS [0, 1] (by kernel_rfl) ?_
      refine WO_callB ((Op.call { callee := (Callee.value (Operand.func 28)), args := #[], argTypes := #[] }), 4) #[] (.bool true) (by kernel_rfl) (by kernel_rfl) (by kernel_rfl) (wakes_any w8) (fun w75 hc76 => ?_)
      have hS77 := hS1.keep hc76
      refine WO_batch [1] [] [4] [(4, .bool true)] (by kernel_rfl) ?_
      refine WO_endS ?_
      refine W_ret ?_
      repeat (first | refine ret_then ?_ | refine ret_block ?_ | refine ret_labels ?_)
      refine ret_ (fn := Try.f40) (rs := [.tmp 4]) (vs := [.bool true]) rfl ?_ ?_
      · exact (.tmp rfl .nil)
      exact ⟨rfl, hS77.ch.below⟩
  · simp only [hb10]
    have h78 : ¬ ((k : Int) < (m : Int)) := by simpa using hb10
    refine WO_batch [5, 6, 7] [] [0, 1, 9, 48] [(0, .slice A m c), (1, .int .i64 (p : Int)), (9, .int .i64 (k : Int)), (48, .bool false)] (by kernel_rfl) ?_
    refine WO_endS ?_
    refine W_condF rfl rfl ?_
    refine W_exit ?_
    repeat (first | refine exit_then ?_ | refine exit_labels ?_)
    refine exit_in ?_
    repeat (first | refine normal_block ?_ | refine normal_labels ?_)
    refine W_next ?_
    refine W_regS [0, 1] (by kernel_rfl) ?_
    refine WO_callB ((Op.call { callee := (Callee.value (Operand.func 28)), args := #[], argTypes := #[] }), 4) #[] (.bool true) (by kernel_rfl) (by kernel_rfl) (by kernel_rfl) (wakes_any w8) (fun w79 hc80 => ?_)
    have hS81 := hS1.keep hc80
    refine WO_batch [1] [] [4] [(4, .bool true)] (by kernel_rfl) ?_
    refine WO_endS ?_
    refine W_ret ?_
    repeat (first | refine ret_then ?_ | refine ret_block ?_ | refine ret_labels ?_)
    refine ret_ (fn := Try.f40) (rs := [.tmp 4]) (vs := [.bool true]) rfl ?_ ?_
    · exact (.tmp rfl .nil)
    exact ⟨rfl, hS81.ch.below⟩
end Go.Proofs.Ytfgfoocmiflnmaa.My
