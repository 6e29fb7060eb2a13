/- PropEdges: whatever the slice of asks that comes in (any that can be read), the law returns true, and the slice reads behind the call as it read before. No condition. -/
import Derived.Test.YtfgfoocmiflnmaaMyG
namespace Go.Proofs.Ytfgfoocmiflnmaa
open Go.ChangeShapes Go.WideShapes Go.ChangeAt Go.RowKit Go.Deep Go.Arr My
namespace PropEdges
theorem edge_chk {p : Nat} (h : p < 19) : chk (p : Int) (low (p : Int)) = 0 ∧ chk (p : Int) (high (p : Int)) = 0 ∧ chk (p : Int) (low (p : Int) - 1) = 9 ∧ chk (p : Int) (high (p : Int) + 1) = 9 ∧ chk (p : Int) (plain (p : Int)) = 0 := by
  have hp := isP_nat h
  have hl : low (p : Int) ≤ high (p : Int) := by
    rcases cases19 hp with e | e | e | e | e | e | e | e | e | e | e | e | e | e | e | e | e | e | e <;> rw [e] <;> simp [low, high]
  have hm := plain_may h
  have e1 : may (p : Int) (low (p : Int)) = true := by simp [may, hp, hl]
  have e2 : may (p : Int) (high (p : Int)) = true := by simp [may, hp, hl]
  have e3 : may (p : Int) (low (p : Int) - 1) = false := by simp [may]; omega
  have e4 : may (p : Int) (high (p : Int) + 1) = false := by simp [may]; omega
  simp [chk, hp, hm, e1, e2, e3, e4]
theorem low_bd (p : Int) : -1 ≤ low p ∧ low p ≤ 64 := by unfold low; split <;> (try split) <;> omega
theorem high_bd (p : Int) : 1 ≤ high p ∧ high p ≤ 1099511627776 := by unfold high; repeat' split <;> omega
theorem lows {p : Nat} (h : p < 19) : ([.int .i64 0, .int .i64 0, .int .i64 0, .int .i64 (-1), .int .i64 (-1), .int .i64 0, .int .i64 (-1), .int .i64 0, .int .i64 (-1), .int .i64 0, .int .i64 0, .int .i64 (-1), .int .i64 0, .int .i64 0, .int .i64 0, .int .i64 0, .int .i64 0, .int .i64 0, .int .i64 64] : List Value)[p * 1]? = some (.int .i64 (low (p : Int))) := by
  rcases cases19 (isP_nat h) with e | e | e | e | e | e | e | e | e | e | e | e | e | e | e | e | e | e | e <;> (rw [e]; obtain rfl := Int.ofNat_inj.1 e; simp [low])
theorem highs {p : Nat} (h : p < 19) : ([.int .i64 2, .int .i64 1, .int .i64 1, .int .i64 1099511627776, .int .i64 1099511627776, .int .i64 1099511627776, .int .i64 1099511627776, .int .i64 1099511627776, .int .i64 1099511627776, .int .i64 1048576, .int .i64 1048576, .int .i64 1099511627776, .int .i64 1073741824, .int .i64 1073741824, .int .i64 1073741824, .int .i64 4, .int .i64 3, .int .i64 16777215, .int .i64 64000] : List Value)[p * 1]? = some (.int .i64 (high (p : Int))) := by
  rcases cases19 (isP_nat h) with e | e | e | e | e | e | e | e | e | e | e | e | e | e | e | e | e | e | e <;> (rw [e]; obtain rfl := Int.ofNat_inj.1 e; simp [high])

theorem law_any (A : Option Addr) (m c : Nat) (w : World) (_ : Asks w A m) (_ : m ≤ 9223372036854775807) : Calls Try.prog 3 #[.slice A m c] w fun e w' => e = .returned (.bool true) ∧ Below w.heap.size w w' := by
  have hS0 := St.start No w
  refine Calls_of (fn := Try.f3) (args := [.slice A m c]) Try.func3 rfl rfl ?_
  refine W_regS [0] (by kernel_rfl) ?_
  refine WO_batch [0] [] [0, 2] [(0, .slice A m c), (2, .bool false)] (by kernel_rfl) ?_
  refine WO_endS ?_
  refine W_regS [0, 1] (by kernel_rfl) ?_
  refine WO_of_one (by kernel_rfl) (One_new (x := ((Op.buildSlice 23 19 #[(0, (Operand.const (Value.int IntKind.i64 0))), (1, (Operand.const (Value.int IntKind.i64 0))), (2, (Operand.const (Value.int IntKind.i64 0))), (3, (Operand.const (Value.int IntKind.i64 (-1)))), (4, (Operand.const (Value.int IntKind.i64 (-1)))), (5, (Operand.const (Value.int IntKind.i64 0))), (6, (Operand.const (Value.int IntKind.i64 (-1)))), (7, (Operand.const (Value.int IntKind.i64 0))), (8, (Operand.const (Value.int IntKind.i64 (-1)))), (9, (Operand.const (Value.int IntKind.i64 0))), (10, (Operand.const (Value.int IntKind.i64 0))), (11, (Operand.const (Value.int IntKind.i64 (-1)))), (12, (Operand.const (Value.int IntKind.i64 0))), (13, (Operand.const (Value.int IntKind.i64 0))), (14, (Operand.const (Value.int IntKind.i64 0))), (15, (Operand.const (Value.int IntKind.i64 0))), (16, (Operand.const (Value.int IntKind.i64 0))), (17, (Operand.const (Value.int IntKind.i64 0))), (18, (Operand.const (Value.int IntKind.i64 64)))]), 23)) (t := 3) (cs := [.int .i64 0, .int .i64 0, .int .i64 0, .int .i64 (-1), .int .i64 (-1), .int .i64 0, .int .i64 (-1), .int .i64 0, .int .i64 (-1), .int .i64 0, .int .i64 0, .int .i64 (-1), .int .i64 0, .int .i64 0, .int .i64 0, .int .i64 0, .int .i64 0, .int .i64 0, .int .i64 64]) (mk := fun r => .slice (some ⟨r, 0, none⟩) 19 19) (by kernel_rfl) hS0 (fun r => by kernel_rfl) (fun g1 w2 hS3 hc4 => ?_))
  refine WO_batch [1] [] [0, 2, 3] [(0, .slice A m c), (2, .bool false), (3, .slice (some ⟨g1, 0, none⟩) 19 19)] (by kernel_rfl) ?_
  refine WO_endS ?_
  refine W_regS [0, 1] (by kernel_rfl) ?_
  refine WO_of_one (by kernel_rfl) (One_new (x := ((Op.buildSlice 23 19 #[(0, (Operand.const (Value.int IntKind.i64 2))), (1, (Operand.const (Value.int IntKind.i64 1))), (2, (Operand.const (Value.int IntKind.i64 1))), (3, (Operand.const (Value.int IntKind.i64 1099511627776))), (4, (Operand.const (Value.int IntKind.i64 1099511627776))), (5, (Operand.const (Value.int IntKind.i64 1099511627776))), (6, (Operand.const (Value.int IntKind.i64 1099511627776))), (7, (Operand.const (Value.int IntKind.i64 1099511627776))), (8, (Operand.const (Value.int IntKind.i64 1099511627776))), (9, (Operand.const (Value.int IntKind.i64 1048576))), (10, (Operand.const (Value.int IntKind.i64 1048576))), (11, (Operand.const (Value.int IntKind.i64 1099511627776))), (12, (Operand.const (Value.int IntKind.i64 1073741824))), (13, (Operand.const (Value.int IntKind.i64 1073741824))), (14, (Operand.const (Value.int IntKind.i64 1073741824))), (15, (Operand.const (Value.int IntKind.i64 4))), (16, (Operand.const (Value.int IntKind.i64 3))), (17, (Operand.const (Value.int IntKind.i64 16777215))), (18, (Operand.const (Value.int IntKind.i64 64000)))]), 23)) (t := 3) (cs := [.int .i64 2, .int .i64 1, .int .i64 1, .int .i64 1099511627776, .int .i64 1099511627776, .int .i64 1099511627776, .int .i64 1099511627776, .int .i64 1099511627776, .int .i64 1099511627776, .int .i64 1048576, .int .i64 1048576, .int .i64 1099511627776, .int .i64 1073741824, .int .i64 1073741824, .int .i64 1073741824, .int .i64 4, .int .i64 3, .int .i64 16777215, .int .i64 64000]) (mk := fun r => .slice (some ⟨r, 0, none⟩) 19 19) (by kernel_rfl) hS3 (fun r => by kernel_rfl) (fun g5 w6 hS7 hc8 => ?_))
  refine WO_batch [1] [] [0, 2, 3, 4] [(0, .slice A m c), (2, .bool false), (3, .slice (some ⟨g1, 0, none⟩) 19 19), (4, .slice (some ⟨g5, 0, none⟩) 19 19)] (by kernel_rfl) ?_
  refine WO_endS ?_
  refine W_seq ?_
  refine W_regS [0] (by kernel_rfl) ?_
  refine WO_batch [0] [] [0, 2, 3, 4, 5] [(0, .slice A m c), (2, .bool false), (3, .slice (some ⟨g1, 0, none⟩) 19 19), (4, .slice (some ⟨g5, 0, none⟩) 19 19), (5, .int .i64 0)] (by kernel_rfl) ?_
  refine WO_endS ?_
  refine W_block ?_
  refine W_loop (σ := Nat) (fun k => [(0, .slice A m c), (3, .slice (some ⟨g1, 0, none⟩) 19 19), (4, .slice (some ⟨g5, 0, none⟩) 19 19), (5, .int .i64 (k : Int))]) (fun k wl => k ≤ 19 ∧ St No w wl [Blk g5 3 [.int .i64 2, .int .i64 1, .int .i64 1, .int .i64 1099511627776, .int .i64 1099511627776, .int .i64 1099511627776, .int .i64 1099511627776, .int .i64 1099511627776, .int .i64 1099511627776, .int .i64 1048576, .int .i64 1048576, .int .i64 1099511627776, .int .i64 1073741824, .int .i64 1073741824, .int .i64 1073741824, .int .i64 4, .int .i64 3, .int .i64 16777215, .int .i64 64000], Blk g1 3 [.int .i64 0, .int .i64 0, .int .i64 0, .int .i64 (-1), .int .i64 (-1), .int .i64 0, .int .i64 (-1), .int .i64 0, .int .i64 (-1), .int .i64 0, .int .i64 0, .int .i64 (-1), .int .i64 0, .int .i64 0, .int .i64 0, .int .i64 0, .int .i64 0, .int .i64 0, .int .i64 64]]) (fun k => 19 - k) 0 (Env.sub_cons rfl (Env.sub_cons rfl (Env.sub_cons rfl (Env.sub_cons rfl (Env.sub_nil _))))) (⟨by omega, hS7⟩) ?_
  intro k w9 hI10
  obtain ⟨hk0, hS1⟩ := hI10
  refine W_seq ?_
  refine W_regS [0, 1] (by kernel_rfl) ?_
  refine WO_batch [0, 1] [] [0, 3, 4, 5, 11] [(0, .slice A m c), (3, .slice (some ⟨g1, 0, none⟩) 19 19), (4, .slice (some ⟨g5, 0, none⟩) 19 19), (5, .int .i64 (k : Int)), (11, .bool (decide ((k : Int) < 19)))] (by kernel_rfl) ?_
  refine WO_endS ?_
  refine W_cond (t := decide ((k : Int) < 19)) rfl rfl (fun hb11 => ?_) (fun hb11 => ?_)
  · simp only [hb11]
    have h12 : (k : Int) < 19 := by simpa using hb11
    have hk : k < 19 := by omega
    obtain ⟨q1, q2, q3, q4, q5⟩ := edge_chk hk
    have b1 := low_bd (k : Int)
    have b2 := high_bd (k : Int)
    refine W_skip ?_
    repeat (first | refine normal_block ?_ | refine normal_labels ?_)
    refine W_next ?_
    refine W_seq ?_
    refine W_block ?_
    refine W_regS [0, 1, 2, 3, 4, 5, 6] (by kernel_rfl) ?_
    refine WO_batch [0] [1, 2, 3, 4, 5, 6] [0, 3, 4, 5, 11, 15] [(0, .slice A m c), (3, .slice (some ⟨g1, 0, none⟩) 19 19), (4, .slice (some ⟨g5, 0, none⟩) 19 19), (5, .int .i64 (k : Int)), (11, .bool true), (15, .int .i64 (k : Int))] (by kernel_rfl) ?_
    refine WO_callB ((Op.call { callee := (Callee.value (Operand.func 25)), args := #[(Operand.tmp 15)], argTypes := #[3] }), 25) #[.int .i64 (k : Int)] (.tuple #[.int .i64 (plain (k : Int)), .int .i64 0]) (by kernel_rfl) (by kernel_rfl) (by kernel_rfl) (default_any (k : Int) (isP_nat hk) w9) (fun w13 hc14 => ?_)
    have hS15 := hS1.keep hc14
    refine WO_batch [2, 3, 4, 5, 6] [] [0, 3, 4, 5, 11, 6, 7] [(0, .slice A m c), (3, .slice (some ⟨g1, 0, none⟩) 19 19), (4, .slice (some ⟨g5, 0, none⟩) 19 19), (5, .int .i64 (k : Int)), (11, .bool true), (6, .int .i64 (plain (k : Int))), (7, .int .i64 0)] (by kernel_rfl) ?_
    refine WO_endS ?_
    refine W_regS [0, 1, 2, 3, 4, 5, 6, 7, 8, 9, 10, 11, 12, 13, 14, 15, 16, 17, 18, 19, 20, 21, 22, 23, 24, 25, 26, 27, 28, 29, 30, 31, 32, 33, 34, 35, 36, 37, 38, 39, 40, 41, 42, 43, 44, 45, 46, 47, 48, 49, 50, 51] (by kernel_rfl) ?_
    refine WO_batch [0] [1, 2, 3, 4, 5, 6, 7, 8, 9, 10, 11, 12, 13, 14, 15, 16, 17, 18, 19, 20, 21, 22, 23, 24, 25, 26, 27, 28, 29, 30, 31, 32, 33, 34, 35, 36, 37, 38, 39, 40, 41, 42, 43, 44, 45, 46, 47, 48, 49, 50, 51] [0, 3, 4, 5, 11, 6, 7, 19] [(0, .slice A m c), (3, .slice (some ⟨g1, 0, none⟩) 19 19), (4, .slice (some ⟨g5, 0, none⟩) 19 19), (5, .int .i64 (k : Int)), (11, .bool true), (6, .int .i64 (plain (k : Int))), (7, .int .i64 0), (19, .int .i64 0)] (by kernel_rfl) ?_
    refine WO_callS ((Op.call { callee := (Callee.value (Operand.func 26)), args := #[(Operand.tmp 19)], argTypes := #[24] }), 3) #[.int .i64 0] (.int .i64 0) (by kernel_rfl) (by kernel_rfl) (by kernel_rfl) (num_any 0 w13) ?_
    refine WO_batch [2, 3, 4, 5, 6] [7, 8, 9, 10, 11, 12, 13, 14, 15, 16, 17, 18, 19, 20, 21, 22, 23, 24, 25, 26, 27, 28, 29, 30, 31, 32, 33, 34, 35, 36, 37, 38, 39, 40, 41, 42, 43, 44, 45, 46, 47, 48, 49, 50, 51] [0, 3, 4, 5, 11, 6, 7, 22, 23, 24, 25] [(0, .slice A m c), (3, .slice (some ⟨g1, 0, none⟩) 19 19), (4, .slice (some ⟨g5, 0, none⟩) 19 19), (5, .int .i64 (k : Int)), (11, .bool true), (6, .int .i64 (plain (k : Int))), (7, .int .i64 0), (22, .bool false), (23, .int .i64 (k : Int)), (24, .slice (some ⟨g1, 0, none⟩) 19 19), (25, .int .i64 (k : Int))] (by kernel_rfl) ?_
    refine WO_of_one (by kernel_rfl) (One_indexG (i := 7) (t := 23) (ty := 0) (x := (Operand.tmp 24)) (y := (Operand.tmp 25)) (A := some ⟨g1, 0, none⟩) (g := g1) (len := 19) (cap := 19) (k := .i64) (j := k) (e := 3) (sz := 1) (by kernel_rfl) (by kernel_rfl) (by kernel_rfl) (by kernel_rfl) (by kernel_rfl) rfl (by omega) ?_)
    refine WO_of_one (by kernel_rfl) (One_load (t := 3) (ty := 3) (x := (Operand.tmp 26)) (a := ⟨g1, k * 1, none⟩) (v := .int .i64 (low (k : Int))) (by kernel_rfl) (by kernel_rfl) (run_loadBlk1 (hS15.get (i := 1) rfl) (by kernel_rfl) (lows hk)) ?_)
    refine WO_callB ((Op.call { callee := (Callee.value (Operand.func 27)), args := #[(Operand.tmp 23), (Operand.tmp 27)], argTypes := #[3, 3] }), 24) #[.int .i64 (k : Int), .int .i64 (low (k : Int))] (.int .i64 (chk (k : Int) (low (k : Int)))) (by kernel_rfl) (by kernel_rfl) (by kernel_rfl) (check_any (k : Int) (low (k : Int)) w13) (fun w16 hc17 => ?_)
    have hS18 := hS15.keep hc17
    refine WO_callS ((Op.call { callee := (Callee.value (Operand.func 26)), args := #[(Operand.tmp 28)], argTypes := #[24] }), 3) #[.int .i64 (chk (k : Int) (low (k : Int)))] (.int .i64 (chk (k : Int) (low (k : Int)))) (by kernel_rfl) (by kernel_rfl) (by kernel_rfl) (num_any (chk (k : Int) (low (k : Int))) w16) ?_
    refine WO_batch [11, 12, 13] [14, 15, 16, 17, 18, 19, 20, 21, 22, 23, 24, 25, 26, 27, 28, 29, 30, 31, 32, 33, 34, 35, 36, 37, 38, 39, 40, 41, 42, 43, 44, 45, 46, 47, 48, 49, 50, 51] [0, 3, 4, 5, 11, 6, 7, 32] [(0, .slice A m c), (3, .slice (some ⟨g1, 0, none⟩) 19 19), (4, .slice (some ⟨g5, 0, none⟩) 19 19), (5, .int .i64 (k : Int)), (11, .bool true), (6, .int .i64 (plain (k : Int))), (7, .int .i64 0), (32, .bool (!decide ((chk (k : Int) (low (k : Int))) = 0)))] (by kernel_rfl) ?_
    rw [show (!decide ((chk (k : Int) (low (k : Int))) = 0)) = false from by rw [q1]; decide]
    refine WO_batch [14, 15, 16] [17, 18, 19, 20, 21, 22, 23, 24, 25, 26, 27, 28, 29, 30, 31, 32, 33, 34, 35, 36, 37, 38, 39, 40, 41, 42, 43, 44, 45, 46, 47, 48, 49, 50, 51] [0, 3, 4, 5, 11, 6, 7, 32, 33, 34, 35] [(0, .slice A m c), (3, .slice (some ⟨g1, 0, none⟩) 19 19), (4, .slice (some ⟨g5, 0, none⟩) 19 19), (5, .int .i64 (k : Int)), (11, .bool true), (6, .int .i64 (plain (k : Int))), (7, .int .i64 0), (32, .bool false), (33, .int .i64 (k : Int)), (34, .slice (some ⟨g5, 0, none⟩) 19 19), (35, .int .i64 (k : Int))] (by kernel_rfl) ?_
    refine WO_of_one (by kernel_rfl) (One_indexG (i := 17) (t := 23) (ty := 0) (x := (Operand.tmp 34)) (y := (Operand.tmp 35)) (A := some ⟨g5, 0, none⟩) (g := g5) (len := 19) (cap := 19) (k := .i64) (j := k) (e := 3) (sz := 1) (by kernel_rfl) (by kernel_rfl) (by kernel_rfl) (by kernel_rfl) (by kernel_rfl) rfl (by omega) ?_)
    refine WO_of_one (by kernel_rfl) (One_load (t := 3) (ty := 3) (x := (Operand.tmp 36)) (a := ⟨g5, k * 1, none⟩) (v := .int .i64 (high (k : Int))) (by kernel_rfl) (by kernel_rfl) (run_loadBlk1 (hS18.get (i := 0) rfl) (by kernel_rfl) (highs hk)) ?_)
    refine WO_callB ((Op.call { callee := (Callee.value (Operand.func 27)), args := #[(Operand.tmp 33), (Operand.tmp 37)], argTypes := #[3, 3] }), 24) #[.int .i64 (k : Int), .int .i64 (high (k : Int))] (.int .i64 (chk (k : Int) (high (k : Int)))) (by kernel_rfl) (by kernel_rfl) (by kernel_rfl) (check_any (k : Int) (high (k : Int)) w16) (fun w20 hc21 => ?_)
    have hS22 := hS18.keep hc21
    refine WO_callS ((Op.call { callee := (Callee.value (Operand.func 26)), args := #[(Operand.tmp 38)], argTypes := #[24] }), 3) #[.int .i64 (chk (k : Int) (high (k : Int)))] (.int .i64 (chk (k : Int) (high (k : Int)))) (by kernel_rfl) (by kernel_rfl) (by kernel_rfl) (num_any (chk (k : Int) (high (k : Int))) w20) ?_
    refine WO_batch [21, 22, 23] [24, 25, 26, 27, 28, 29, 30, 31, 32, 33, 34, 35, 36, 37, 38, 39, 40, 41, 42, 43, 44, 45, 46, 47, 48, 49, 50, 51] [0, 3, 4, 5, 11, 6, 7, 42] [(0, .slice A m c), (3, .slice (some ⟨g1, 0, none⟩) 19 19), (4, .slice (some ⟨g5, 0, none⟩) 19 19), (5, .int .i64 (k : Int)), (11, .bool true), (6, .int .i64 (plain (k : Int))), (7, .int .i64 0), (42, .bool (!decide ((chk (k : Int) (high (k : Int))) = 0)))] (by kernel_rfl) ?_
    rw [show (!decide ((chk (k : Int) (high (k : Int))) = 0)) = false from by rw [q2]; decide]
    refine WO_batch [24, 25, 26] [27, 28, 29, 30, 31, 32, 33, 34, 35, 36, 37, 38, 39, 40, 41, 42, 43, 44, 45, 46, 47, 48, 49, 50, 51] [0, 3, 4, 5, 11, 6, 7, 42, 43, 44, 45] [(0, .slice A m c), (3, .slice (some ⟨g1, 0, none⟩) 19 19), (4, .slice (some ⟨g5, 0, none⟩) 19 19), (5, .int .i64 (k : Int)), (11, .bool true), (6, .int .i64 (plain (k : Int))), (7, .int .i64 0), (42, .bool false), (43, .int .i64 (k : Int)), (44, .slice (some ⟨g1, 0, none⟩) 19 19), (45, .int .i64 (k : Int))] (by kernel_rfl) ?_
    refine WO_of_one (by kernel_rfl) (One_indexG (i := 27) (t := 23) (ty := 0) (x := (Operand.tmp 44)) (y := (Operand.tmp 45)) (A := some ⟨g1, 0, none⟩) (g := g1) (len := 19) (cap := 19) (k := .i64) (j := k) (e := 3) (sz := 1) (by kernel_rfl) (by kernel_rfl) (by kernel_rfl) (by kernel_rfl) (by kernel_rfl) rfl (by omega) ?_)
    refine WO_of_one (by kernel_rfl) (One_load (t := 3) (ty := 3) (x := (Operand.tmp 46)) (a := ⟨g1, k * 1, none⟩) (v := .int .i64 (low (k : Int))) (by kernel_rfl) (by kernel_rfl) (run_loadBlk1 (hS22.get (i := 1) rfl) (by kernel_rfl) (lows hk)) ?_)
    refine WO_batch [29] [30, 31, 32, 33, 34, 35, 36, 37, 38, 39, 40, 41, 42, 43, 44, 45, 46, 47, 48, 49, 50, 51] [0, 3, 4, 5, 11, 6, 7, 42, 43, 48] [(0, .slice A m c), (3, .slice (some ⟨g1, 0, none⟩) 19 19), (4, .slice (some ⟨g5, 0, none⟩) 19 19), (5, .int .i64 (k : Int)), (11, .bool true), (6, .int .i64 (plain (k : Int))), (7, .int .i64 0), (42, .bool false), (43, .int .i64 (k : Int)), (48, .int .i64 (IntKind.i64.wrap ((low (k : Int)) - 1)))] (by kernel_rfl) ?_
    rw [wrap_i64 (n := (low (k : Int)) - 1) (by omega)]
    refine WO_callB ((Op.call { callee := (Callee.value (Operand.func 27)), args := #[(Operand.tmp 43), (Operand.tmp 48)], argTypes := #[3, 3] }), 24) #[.int .i64 (k : Int), .int .i64 ((low (k : Int)) - 1)] (.int .i64 (chk (k : Int) ((low (k : Int)) - 1))) (by kernel_rfl) (by kernel_rfl) (by kernel_rfl) (check_any (k : Int) ((low (k : Int)) - 1) w20) (fun w24 hc25 => ?_)
    have hS26 := hS22.keep hc25
    refine WO_callS ((Op.call { callee := (Callee.value (Operand.func 26)), args := #[(Operand.tmp 49)], argTypes := #[24] }), 3) #[.int .i64 (chk (k : Int) ((low (k : Int)) - 1))] (.int .i64 (chk (k : Int) ((low (k : Int)) - 1))) (by kernel_rfl) (by kernel_rfl) (by kernel_rfl) (num_any (chk (k : Int) ((low (k : Int)) - 1)) w24) ?_
    refine WO_batch [32, 33, 34] [35, 36, 37, 38, 39, 40, 41, 42, 43, 44, 45, 46, 47, 48, 49, 50, 51] [0, 3, 4, 5, 11, 6, 7, 53] [(0, .slice A m c), (3, .slice (some ⟨g1, 0, none⟩) 19 19), (4, .slice (some ⟨g5, 0, none⟩) 19 19), (5, .int .i64 (k : Int)), (11, .bool true), (6, .int .i64 (plain (k : Int))), (7, .int .i64 0), (53, .bool (!decide ((chk (k : Int) ((low (k : Int)) - 1)) = 9)))] (by kernel_rfl) ?_
    rw [show (!decide ((chk (k : Int) ((low (k : Int)) - 1)) = 9)) = false from by rw [q3]; decide]
    refine WO_batch [35, 36, 37] [38, 39, 40, 41, 42, 43, 44, 45, 46, 47, 48, 49, 50, 51] [0, 3, 4, 5, 11, 6, 7, 53, 54, 55, 56] [(0, .slice A m c), (3, .slice (some ⟨g1, 0, none⟩) 19 19), (4, .slice (some ⟨g5, 0, none⟩) 19 19), (5, .int .i64 (k : Int)), (11, .bool true), (6, .int .i64 (plain (k : Int))), (7, .int .i64 0), (53, .bool false), (54, .int .i64 (k : Int)), (55, .slice (some ⟨g5, 0, none⟩) 19 19), (56, .int .i64 (k : Int))] (by kernel_rfl) ?_
    refine WO_of_one (by kernel_rfl) (One_indexG (i := 38) (t := 23) (ty := 0) (x := (Operand.tmp 55)) (y := (Operand.tmp 56)) (A := some ⟨g5, 0, none⟩) (g := g5) (len := 19) (cap := 19) (k := .i64) (j := k) (e := 3) (sz := 1) (by kernel_rfl) (by kernel_rfl) (by kernel_rfl) (by kernel_rfl) (by kernel_rfl) rfl (by omega) ?_)
    refine WO_of_one (by kernel_rfl) (One_load (t := 3) (ty := 3) (x := (Operand.tmp 57)) (a := ⟨g5, k * 1, none⟩) (v := .int .i64 (high (k : Int))) (by kernel_rfl) (by kernel_rfl) (run_loadBlk1 (hS26.get (i := 0) rfl) (by kernel_rfl) (highs hk)) ?_)
    refine WO_batch [40] [41, 42, 43, 44, 45, 46, 47, 48, 49, 50, 51] [0, 3, 4, 5, 11, 6, 7, 53, 54, 59] [(0, .slice A m c), (3, .slice (some ⟨g1, 0, none⟩) 19 19), (4, .slice (some ⟨g5, 0, none⟩) 19 19), (5, .int .i64 (k : Int)), (11, .bool true), (6, .int .i64 (plain (k : Int))), (7, .int .i64 0), (53, .bool false), (54, .int .i64 (k : Int)), (59, .int .i64 (IntKind.i64.wrap ((high (k : Int)) + 1)))] (by kernel_rfl) ?_
    rw [wrap_i64 (n := (high (k : Int)) + 1) (by omega)]
    refine WO_callB ((Op.call { callee := (Callee.value (Operand.func 27)), args := #[(Operand.tmp 54), (Operand.tmp 59)], argTypes := #[3, 3] }), 24) #[.int .i64 (k : Int), .int .i64 ((high (k : Int)) + 1)] (.int .i64 (chk (k : Int) ((high (k : Int)) + 1))) (by kernel_rfl) (by kernel_rfl) (by kernel_rfl) (check_any (k : Int) ((high (k : Int)) + 1) w24) (fun w28 hc29 => ?_)
    have hS30 := hS26.keep hc29
    refine WO_callS ((Op.call { callee := (Callee.value (Operand.func 26)), args := #[(Operand.tmp 60)], argTypes := #[24] }), 3) #[.int .i64 (chk (k : Int) ((high (k : Int)) + 1))] (.int .i64 (chk (k : Int) ((high (k : Int)) + 1))) (by kernel_rfl) (by kernel_rfl) (by kernel_rfl) (num_any (chk (k : Int) ((high (k : Int)) + 1)) w28) ?_
    refine WO_batch [43, 44, 45] [46, 47, 48, 49, 50, 51] [0, 3, 4, 5, 11, 6, 7, 64] [(0, .slice A m c), (3, .slice (some ⟨g1, 0, none⟩) 19 19), (4, .slice (some ⟨g5, 0, none⟩) 19 19), (5, .int .i64 (k : Int)), (11, .bool true), (6, .int .i64 (plain (k : Int))), (7, .int .i64 0), (64, .bool (!decide ((chk (k : Int) ((high (k : Int)) + 1)) = 9)))] (by kernel_rfl) ?_
    rw [show (!decide ((chk (k : Int) ((high (k : Int)) + 1)) = 9)) = false from by rw [q4]; decide]
    refine WO_batch [46, 47] [48, 49, 50, 51] [0, 3, 4, 5, 11, 6, 7, 64, 65, 66] [(0, .slice A m c), (3, .slice (some ⟨g1, 0, none⟩) 19 19), (4, .slice (some ⟨g5, 0, none⟩) 19 19), (5, .int .i64 (k : Int)), (11, .bool true), (6, .int .i64 (plain (k : Int))), (7, .int .i64 0), (64, .bool false), (65, .int .i64 (k : Int)), (66, .int .i64 (plain (k : Int)))] (by kernel_rfl) ?_
    refine WO_callB ((Op.call { callee := (Callee.value (Operand.func 27)), args := #[(Operand.tmp 65), (Operand.tmp 66)], argTypes := #[3, 3] }), 24) #[.int .i64 (k : Int), .int .i64 (plain (k : Int))] (.int .i64 (chk (k : Int) (plain (k : Int)))) (by kernel_rfl) (by kernel_rfl) (by kernel_rfl) (check_any (k : Int) (plain (k : Int)) w28) (fun w32 hc33 => ?_)
    have hS34 := hS30.keep hc33
    refine WO_callS ((Op.call { callee := (Callee.value (Operand.func 26)), args := #[(Operand.tmp 67)], argTypes := #[24] }), 3) #[.int .i64 (chk (k : Int) (plain (k : Int)))] (.int .i64 (chk (k : Int) (plain (k : Int)))) (by kernel_rfl) (by kernel_rfl) (by kernel_rfl) (num_any (chk (k : Int) (plain (k : Int))) w32) ?_
    refine WO_batch [50, 51] [] [0, 3, 4, 5, 11, 6, 7, 70] [(0, .slice A m c), (3, .slice (some ⟨g1, 0, none⟩) 19 19), (4, .slice (some ⟨g5, 0, none⟩) 19 19), (5, .int .i64 (k : Int)), (11, .bool true), (6, .int .i64 (plain (k : Int))), (7, .int .i64 0), (70, .bool (!decide ((chk (k : Int) (plain (k : Int))) = 0)))] (by kernel_rfl) ?_
    refine WO_endS ?_
    rw [show (!decide ((chk (k : Int) (plain (k : Int))) = 0)) = false from by rw [q5]; decide]
    refine W_condF rfl rfl ?_
    refine W_skip ?_
    repeat (first | refine normal_block ?_ | refine normal_labels ?_)
    refine W_next ?_
    refine W_reg [0, 1, 2] (by kernel_rfl) ?_
    refine WO_batch [0, 1] [2] [0, 3, 4, 5, 11, 6, 7, 70, 13] [(0, .slice A m c), (3, .slice (some ⟨g1, 0, none⟩) 19 19), (4, .slice (some ⟨g5, 0, none⟩) 19 19), (5, .int .i64 (k : Int)), (11, .bool true), (6, .int .i64 (plain (k : Int))), (7, .int .i64 0), (70, .bool false), (13, .int .i64 (IntKind.i64.wrap ((k : Int) + 1)))] (by kernel_rfl) ?_
    rw [wrap_i64 (n := (k : Int) + 1) (by omega)]
    refine WO_batch [2] [] [0, 3, 4, 11, 6, 7, 70, 5] [(0, .slice A m c), (3, .slice (some ⟨g1, 0, none⟩) 19 19), (4, .slice (some ⟨g5, 0, none⟩) 19 19), (11, .bool true), (6, .int .i64 (plain (k : Int))), (7, .int .i64 0), (70, .bool false), (5, .int .i64 ((k : Int) + 1))] (by kernel_rfl) ?_
    refine WO_nil ?_
    repeat (first | refine normal_block ?_ | refine normal_labels ?_)
    refine normal_then (again (w := w32) (E := fun (k : Nat) => [(0, .slice A m c), (3, .slice (some ⟨g1, 0, none⟩) 19 19), (4, .slice (some ⟨g5, 0, none⟩) 19 19), (5, .int .i64 (k : Int))]) (I := fun (k : Nat) wl => k ≤ 19 ∧ St No w wl [Blk g5 3 [.int .i64 2, .int .i64 1, .int .i64 1, .int .i64 1099511627776, .int .i64 1099511627776, .int .i64 1099511627776, .int .i64 1099511627776, .int .i64 1099511627776, .int .i64 1099511627776, .int .i64 1048576, .int .i64 1048576, .int .i64 1099511627776, .int .i64 1073741824, .int .i64 1073741824, .int .i64 1073741824, .int .i64 4, .int .i64 3, .int .i64 16777215, .int .i64 64000], Blk g1 3 [.int .i64 0, .int .i64 0, .int .i64 0, .int .i64 (-1), .int .i64 (-1), .int .i64 0, .int .i64 (-1), .int .i64 0, .int .i64 (-1), .int .i64 0, .int .i64 0, .int .i64 (-1), .int .i64 0, .int .i64 0, .int .i64 0, .int .i64 0, .int .i64 0, .int .i64 0, .int .i64 64]]) (μ := fun (k : Nat) => 19 - k) (s := k) (k + 1) ?_ ?_ ?_)
    · exact (Env.sub_cons rfl (Env.sub_cons rfl (Env.sub_cons rfl (Env.sub_cons rfl (Env.sub_nil _)))))
    · exact ⟨by omega, hS34⟩
    · exact (by omega)
  · simp only [hb11]
    have h35 : ¬ ((k : Int) < 19) := by simpa using hb11
    refine W_exit ?_
    repeat (first | refine exit_then ?_ | refine exit_labels ?_)
    refine exit_in ?_
    repeat (first | refine normal_block ?_ | refine normal_labels ?_)
    refine W_next ?_
    refine W_regS [0, 1, 2, 3, 4, 5, 6, 7, 8, 9, 10, 11, 12, 13, 14, 15, 16] (by kernel_rfl) ?_
    refine WO_callB ((Op.call { callee := (Callee.value (Operand.func 27)), args := #[(Operand.const (Value.int IntKind.i64 (-1))), (Operand.const (Value.int IntKind.i64 0))], argTypes := #[3, 3] }), 24) #[.int .i64 (-1), .int .i64 0] (.int .i64 (chk (-1) 0)) (by kernel_rfl) (by kernel_rfl) (by kernel_rfl) (check_any (-1) 0 w9) (fun w36 hc37 => ?_)
    have hS38 := hS1.keep hc37
    refine WO_callS ((Op.call { callee := (Callee.value (Operand.func 26)), args := #[(Operand.tmp 71)], argTypes := #[24] }), 3) #[.int .i64 (chk (-1) 0)] (.int .i64 (chk (-1) 0)) (by kernel_rfl) (by kernel_rfl) (by kernel_rfl) (num_any (chk (-1) 0) w36) ?_
    refine WO_batch [2, 3] [4, 5, 6, 7, 8, 9, 10, 11, 12, 13, 14, 15, 16] [0, 74] [(0, .slice A m c), (74, .bool (decide ((chk (-1) 0) = 3)))] (by kernel_rfl) ?_
    rw [show (decide ((chk (-1) 0) = 3)) = true from by rw [show (chk (-1) 0) = 3 from by decide]; decide]
    refine WO_callB ((Op.call { callee := (Callee.value (Operand.func 27)), args := #[(Operand.const (Value.int IntKind.i64 19)), (Operand.const (Value.int IntKind.i64 0))], argTypes := #[3, 3] }), 24) #[.int .i64 19, .int .i64 0] (.int .i64 (chk 19 0)) (by kernel_rfl) (by kernel_rfl) (by kernel_rfl) (check_any 19 0 w36) (fun w40 hc41 => ?_)
    have hS42 := hS38.keep hc41
    refine WO_callS ((Op.call { callee := (Callee.value (Operand.func 26)), args := #[(Operand.tmp 75)], argTypes := #[24] }), 3) #[.int .i64 (chk 19 0)] (.int .i64 (chk 19 0)) (by kernel_rfl) (by kernel_rfl) (by kernel_rfl) (num_any (chk 19 0) w40) ?_
    refine WO_batch [6, 7, 8] [9, 10, 11, 12, 13, 14, 15, 16] [0, 79] [(0, .slice A m c), (79, .bool (decide ((chk 19 0) = 3)))] (by kernel_rfl) ?_
    rw [show (decide ((chk 19 0) = 3)) = true from by rw [show (chk 19 0) = 3 from by decide]; decide]
    refine WO_batch [9, 10, 11, 12, 13] [14, 15, 16] [84] [(84, .bool (decide ((m : Int) ≥ 0)))] (by kernel_rfl) ?_
    rw [show (decide ((m : Int) ≥ 0)) = true from decide_eq_true (Int.natCast_nonneg _)]
    refine WO_callB ((Op.call { callee := (Callee.value (Operand.func 28)), args := #[], argTypes := #[] }), 4) #[] (.bool true) (by kernel_rfl) (by kernel_rfl) (by kernel_rfl) (wakes_any w40) (fun w45 hc46 => ?_)
    have hS47 := hS42.keep hc46
    refine WO_batch [15, 16] [] [2] [(2, .bool true)] (by kernel_rfl) ?_
    refine WO_endS ?_
    refine W_ret ?_
    repeat (first | refine ret_then ?_ | refine ret_block ?_ | refine ret_labels ?_)
    refine ret_ (fn := Try.f3) (rs := [.tmp 2]) (vs := [.bool true]) rfl ?_ ?_
    · exact (.tmp rfl .nil)
    exact ⟨rfl, hS47.ch.below⟩

set_option maxRecDepth 100000 in
theorem lifted (os : Os) (started : os.Started) (H : Type) (enc : TypeId × Value → H) :
    ReturnsInHanded {} Try.checked os 3 .any (Rows.propEdgesSpec.pre6 enc Try.prog Try.f3 Rows.propEdgesRow.domain false) (Rows.propEdgesSpec.post enc Try.prog Try.f3 false true false false) := by
  refine returnsInHanded_of_change (C := Try.checked) own started (by kernel_rfl) Try.func3
    (ChangeSpec.witness6 (enc := enc) (C := Try.checked) false ⟨#[], #[.slice none 0 0], []⟩ 8 (by kernel_rfl) (by kernel_rfl) (by kernel_rfl) (by kernel_rfl)) ?_
  intro W base args ds gs before hval0 hW hcnd _
  have hval : ∀ (j : Nat) t v, Try.f3.params[j]? = some t → args[j]? = some v → Value.okWide Try.prog W .any base t v := hval0
  have hW' := hW
  obtain ⟨p, q, hA0, hV, rfl, hfz, hnd⟩ := hW
  have hA : DataW.TrodAll enc Try.prog W 0 (fun _ => true) true Try.f3.params.toList args.toList ds p := hA0
  rw [Try.params3] at hA hval
  obtain ⟨v0, vs0, d0, ds0, p0, q0, hargs, rfl, rfl, h0, r0⟩ := trodAll_cons hA
  obtain ⟨rfl, rfl, rfl⟩ := trodAll_nil r0
  obtain rfl : args = #[v0] := by cases args; simp_all
  obtain ⟨rfl, rfl⟩ := trodVars_none hV
  obtain ⟨a0, len0, cap0, rfl⟩ := okWide_slice Try.underlying22 (hval 0 22 v0 rfl rfl)
  have k0 := h0
  have lt0 : ∀ x ∈ p0, x.block < W.heap.size := by obtain ⟨m, hm⟩ := k0; exact DataW.trod_lt m _ _ _ hm
  obtain ⟨fuel, hf⟩ := h0
  obtain ⟨hask, hlen⟩ := asks_of (by simpa [Value.cells] using hf)
  clear hA0 hval0
  refine (law_any a0 len0 cap0 W hask hlen).mono fun e W' ⟨he, bel⟩ => ?_
  subst he
  exact ⟨_, rfl, _, _, _, [], _, [], hW', trodAll_mk1 (shut_bool Try.underlying4 _), (trodAll_mk1 (Below.trod laidOut (by kernel_rfl) (of_decide_eq_true (by kernel_rfl)) k0 bel lt0)), rfl, bel.frame _, fun h => by cases h⟩

end PropEdges
open PropEdges in
theorem propEdges_holds : Rows.PropEdgesSaid :=
  OpenClaim.holds_of_wide 3 Try.f3 rfl rfl rfl rfl rfl rfl rfl ⟨rfl, rfl, rfl, rfl, rfl⟩ rfl rfl rfl rfl rfl (by kernel_rfl) Try.func3 (by kernel_rfl)
    (of_decide_eq_true (by kernel_rfl)) (by unfold Func.isWrapper; rw [if_neg (of_decide_eq_false (by kernel_rfl))]; exact ⟨rfl, rfl⟩)
    (fun os started H enc _ => lifted os started H enc)
#print axioms propEdges_holds
end Go.Proofs.Ytfgfoocmiflnmaa
