/- PropChecks: whatever the slice of asks that comes in (any that can be read), the law returns true, and the slice reads behind the call as it read before. No condition. -/
import Derived.Test.YtfgfoocmiflnmaaMyG
namespace Go.Proofs.Ytfgfoocmiflnmaa
open Go.ChangeShapes Go.WideShapes Go.ChangeAt Go.RowKit Go.Deep Go.Arr My
namespace PropChecks
theorem law_any (A : Option Addr) (m c : Nat) (w : World) (hA : Asks w A m) (hm : m ≤ 9223372036854775807) : Calls Try.prog 4 #[.slice A m c] w fun e w' => e = .returned (.bool true) ∧ Below w.heap.size w w' := by
  have hS0 := St.start No w
  refine Calls_of (fn := Try.f4) (args := [.slice A m c]) Try.func4 rfl rfl ?_
  refine W_regS [0] (by kernel_rfl) ?_
  refine WO_batch [0] [] [0, 2] [(0, .slice A m c), (2, .bool false)] (by kernel_rfl) ?_
  refine WO_endS ?_
  refine W_seq ?_
  refine W_regS [0] (by kernel_rfl) ?_
  refine WO_batch [0] [] [0, 2, 3] [(0, .slice A m c), (2, .bool false), (3, .int .i64 0)] (by kernel_rfl) ?_
  refine WO_endS ?_
  refine W_block ?_
  refine W_loop (σ := Nat) (fun k => [(0, .slice A m c), (3, .int .i64 (k : Int))]) (fun k wl => k ≤ m ∧ St No w wl []) (fun k => m - k) 0 (Env.sub_cons rfl (Env.sub_cons rfl (Env.sub_nil _))) (⟨by omega, hS0⟩) ?_
  intro k w1 hI2
  obtain ⟨hk0, hS1⟩ := hI2
  refine W_seq ?_
  refine W_regS [0, 1, 2, 3, 4, 5, 6, 7] (by kernel_rfl) ?_
  refine WO_batch [0, 1, 2, 3, 4] [5, 6, 7] [0, 3, 14] [(0, .slice A m c), (3, .int .i64 (k : Int)), (14, .bool (decide ((k : Int) < (m : Int))))] (by kernel_rfl) ?_
  rcases Bool.eq_false_or_eq_true (decide ((k : Int) < (m : Int))) with hb3 | hb3
  · simp only [hb3]
    have h4 : (k : Int) < (m : Int) := by simpa using hb3
    have hk : k < m := by omega
    obtain ⟨ad, had, hall⟩ := hA (by omega)
    obtain ⟨p, v, B, n, c2, xs, hcell, hB, hn⟩ := hall k hk
    refine WO_batch [5, 6, 7] [] [0, 3, 17] [(0, .slice A m c), (3, .int .i64 (k : Int)), (17, .bool (decide ((k : Int) < 30)))] (by kernel_rfl) ?_
    refine WO_endS ?_
    refine W_cond (t := decide ((k : Int) < 30)) rfl rfl (fun hb5 => ?_) (fun hb5 => ?_)
    · simp only [hb5]
      have h6 : (k : Int) < 30 := by simpa using hb5
      refine W_skip ?_
      repeat (first | refine normal_block ?_ | refine normal_labels ?_)
      refine W_next ?_
      refine W_seq ?_
      refine W_block ?_
      refine W_regS [0, 1, 2, 3, 4, 5] (by kernel_rfl) ?_
      refine WO_batch [0, 1] [2, 3, 4, 5] [0, 3, 17, 20, 21] [(0, .slice A m c), (3, .int .i64 (k : Int)), (17, .bool true), (20, .slice A m c), (21, .int .i64 (k : Int))] (by kernel_rfl) ?_
      refine WO_of_one (by kernel_rfl) (One_indexN (i := 2) (t := 22) (ty := 0) (x := (Operand.tmp 20)) (y := (Operand.tmp 21)) (A := A) (a := ad) (len := m) (cap := c) (k := .i64) (j := k) (e := 34) (sz := 3) (by kernel_rfl) (by kernel_rfl) (by kernel_rfl) (by kernel_rfl) (by kernel_rfl) had (by omega) ?_)
      refine WO_of_one (by kernel_rfl) (One_load (t := 34) (ty := 34) (x := (Operand.tmp 22)) (a := ad.add (k * 3)) (v := .agg #[.int .i64 p, .int .i64 v, .slice B n c2]) (by kernel_rfl) (by kernel_rfl) (run_loadN (cs := [.int .i64 p, .int .i64 v, .slice B n c2]) (by kernel_rfl) (by kernel_rfl) (fun j x hj => hS1.old (hcell j x hj) id)) ?_)
      rcases Bool.eq_false_or_eq_true (isP p) with hP7 | hP7
      · refine WO_of_one (by kernel_rfl) (One_new (x := ((Op.alloc 34), 0)) (t := 34) (cs := [.int .i64 0, .int .i64 0, .slice none 0 0]) (mk := fun r => .pointer (some ⟨r, 0, none⟩)) (by kernel_rfl) hS1 (fun r => by kernel_rfl) (fun g8 w9 hS10 hc11 => ?_))
        refine WO_of_one (by kernel_rfl) (One_store (i := 5) (c := 0) (g := g8) (o := 0) (t := 34) (t' := 34) (ty := 0) (x := (Operand.tmp 4)) (y := (Operand.tmp 23)) (cs := [.int .i64 0, .int .i64 0, .slice none 0 0]) (v := .agg #[.int .i64 p, .int .i64 v, .slice B n c2]) (by kernel_rfl) (by kernel_rfl) (by kernel_rfl) hS10 rfl (by kernel_rfl) (by simp [Value.cells]) (by kernel_rfl) (fun w12 hS13 hc14 => ?_))
        change St _ _ w12 [Blk g8 34 [.int .i64 p, .int .i64 v, .slice B n c2]] at hS13
        refine WO_endS ?_
        refine W_seq ?_
        refine W_drawS (W_drawL [([], [4]), ([0], []), ([], [4]), ([2], []), ([0, 1, 2, 3], []), ([0, 1, 2, 3, 4], []), ([], [4]), ([6], []), ([], [4]), ([8], []), ([0, 1, 2, 3, 4, 5, 6, 7, 8, 9], []), ([0, 1, 2, 3, 4, 5, 6, 7, 8, 9, 10], []), ([11], [0, 3, 17, 4])] [Is (.pointer (some ⟨g8, 0, none⟩)), Is (.int .i64 p), Is (.pointer (some ⟨g8, 1, none⟩)), Is (.int .i64 v), Is (.int .i64 (chk p v)), Is (.int .i64 (chk p v)), Is (.pointer (some ⟨g8, 0, none⟩)), Is (.int .i64 p), Is (.pointer (some ⟨g8, 1, none⟩)), Is (.int .i64 v), Is (.int .i64 (chk p v)), Is (.bool (!decide ((chk p v) = (chk p v))))] 12 (by kernel_rfl) (by kernel_rfl) (by kernel_rfl) ⟨Is.stab _, ⟨Is.stab _, ⟨Is.stab _, ⟨Is.stab _, ⟨Is.stab _, ⟨Is.stab _, ⟨Is.stab _, ⟨Is.stab _, ⟨Is.stab _, ⟨Is.stab _, ⟨Is.stab _, ⟨Is.stab _, trivial⟩⟩⟩⟩⟩⟩⟩⟩⟩⟩⟩⟩ ?_ ?_)
        · refine ⟨⟨⟨⟨⟨⟨⟨⟨⟨⟨⟨⟨trivial, ?_⟩, ?_⟩, ?_⟩, ?_⟩, ?_⟩, ?_⟩, ?_⟩, ?_⟩, ?_⟩, ?_⟩, ?_⟩, ?_⟩
          · intro vs wi hr hj
            refine One.env (L' := [(4, .pointer (some ⟨g8, 0, none⟩))]) (Env.sub_cons (by kernel_rfl) (Env.sub_nil _)) ?_
            exact One_pureD (v := .pointer (some ⟨g8, 0, none⟩)) (by kernel_rfl)
          · intro vs wi hr hj
            have e15 : vs 0 = .pointer (some ⟨g8, 0, none⟩) := hj 0 rfl
            refine One.env (L' := [(24, .pointer (some ⟨g8, 0, none⟩))]) (sub_vs (x := vs 0) (by kernel_rfl) e15 (Env.sub_nil _)) ?_
            have hS16 := hS13.drew.keep hr
            exact One_load (t := 3) (ty := 3) (x := (Operand.tmp 24)) (a := ⟨g8, 0, none⟩) (v := .int .i64 p) (by kernel_rfl) (by kernel_rfl) (run_loadBlk1 (hS16.get (i := 0) rfl) (by kernel_rfl) rfl) ⟨rfl, Ch.refl _ _⟩
          · intro vs wi hr hj
            refine One.env (L' := [(4, .pointer (some ⟨g8, 0, none⟩))]) (Env.sub_cons (by kernel_rfl) (Env.sub_nil _)) ?_
            exact One_pureD (v := .pointer (some ⟨g8, 1, none⟩)) (by kernel_rfl)
          · intro vs wi hr hj
            have e17 : vs 2 = .pointer (some ⟨g8, 1, none⟩) := hj 2 rfl
            refine One.env (L' := [(26, .pointer (some ⟨g8, 1, none⟩))]) (sub_vs (x := vs 2) (by kernel_rfl) e17 (Env.sub_nil _)) ?_
            have hS18 := hS13.drew.keep hr
            exact One_load (t := 3) (ty := 3) (x := (Operand.tmp 26)) (a := ⟨g8, 1, none⟩) (v := .int .i64 v) (by kernel_rfl) (by kernel_rfl) (run_loadBlk1 (hS18.get (i := 0) rfl) (by kernel_rfl) rfl) ⟨rfl, Ch.refl _ _⟩
          · intro vs wi hr hj
            have e19 : vs 1 = .int .i64 p := hj 1 rfl
            have e20 : vs 3 = .int .i64 v := hj 3 rfl
            refine One.env (L' := [(25, .int .i64 p), (27, .int .i64 v)]) (sub_vs (x := vs 1) (by kernel_rfl) e19 (sub_vs (x := vs 3) (by kernel_rfl) e20 (Env.sub_nil _))) ?_
            exact One_callBD ((Op.call { callee := (Callee.value (Operand.func 27)), args := #[(Operand.tmp 25), (Operand.tmp 27)], argTypes := #[3, 3] }), 24) #[.int .i64 p, .int .i64 v] (.int .i64 (chk p v)) (by kernel_rfl) (by kernel_rfl) (check_any p v wi)
          · intro vs wi hr hj
            have e21 : vs 4 = .int .i64 (chk p v) := hj 4 rfl
            refine One.env (L' := [(28, .int .i64 (chk p v))]) (sub_vs (x := vs 4) (by kernel_rfl) e21 (Env.sub_nil _)) ?_
            exact One_callSD ((Op.call { callee := (Callee.value (Operand.func 26)), args := #[(Operand.tmp 28)], argTypes := #[24] }), 3) #[.int .i64 (chk p v)] (.int .i64 (chk p v)) (by kernel_rfl) (by kernel_rfl) (num_any (chk p v) wi)
          · intro vs wi hr hj
            refine One.env (L' := [(4, .pointer (some ⟨g8, 0, none⟩))]) (Env.sub_cons (by kernel_rfl) (Env.sub_nil _)) ?_
            exact One_pureD (v := .pointer (some ⟨g8, 0, none⟩)) (by kernel_rfl)
          · intro vs wi hr hj
            have e22 : vs 6 = .pointer (some ⟨g8, 0, none⟩) := hj 6 rfl
            refine One.env (L' := [(30, .pointer (some ⟨g8, 0, none⟩))]) (sub_vs (x := vs 6) (by kernel_rfl) e22 (Env.sub_nil _)) ?_
            have hS23 := hS13.drew.keep hr
            exact One_load (t := 3) (ty := 3) (x := (Operand.tmp 30)) (a := ⟨g8, 0, none⟩) (v := .int .i64 p) (by kernel_rfl) (by kernel_rfl) (run_loadBlk1 (hS23.get (i := 0) rfl) (by kernel_rfl) rfl) ⟨rfl, Ch.refl _ _⟩
          · intro vs wi hr hj
            refine One.env (L' := [(4, .pointer (some ⟨g8, 0, none⟩))]) (Env.sub_cons (by kernel_rfl) (Env.sub_nil _)) ?_
            exact One_pureD (v := .pointer (some ⟨g8, 1, none⟩)) (by kernel_rfl)
          · intro vs wi hr hj
            have e24 : vs 8 = .pointer (some ⟨g8, 1, none⟩) := hj 8 rfl
            refine One.env (L' := [(32, .pointer (some ⟨g8, 1, none⟩))]) (sub_vs (x := vs 8) (by kernel_rfl) e24 (Env.sub_nil _)) ?_
            have hS25 := hS13.drew.keep hr
            exact One_load (t := 3) (ty := 3) (x := (Operand.tmp 32)) (a := ⟨g8, 1, none⟩) (v := .int .i64 v) (by kernel_rfl) (by kernel_rfl) (run_loadBlk1 (hS25.get (i := 0) rfl) (by kernel_rfl) rfl) ⟨rfl, Ch.refl _ _⟩
          · intro vs wi hr hj
            have e26 : vs 7 = .int .i64 p := hj 7 rfl
            have e27 : vs 9 = .int .i64 v := hj 9 rfl
            refine One.env (L' := [(33, .int .i64 v), (31, .int .i64 p)]) (sub_vs (x := vs 9) (by kernel_rfl) e27 (sub_vs (x := vs 7) (by kernel_rfl) e26 (Env.sub_nil _))) ?_
            exact One_callSD ((Op.call { callee := (Callee.value (Operand.func 29)), args := #[(Operand.tmp 31), (Operand.tmp 33)], argTypes := #[3, 3] }), 3) #[.int .i64 p, .int .i64 v] (.int .i64 (chk p v)) (by kernel_rfl) (by kernel_rfl) (rcheck_any p v wi)
          · intro vs wi hr hj
            have e28 : vs 5 = .int .i64 (chk p v) := hj 5 rfl
            have e29 : vs 10 = .int .i64 (chk p v) := hj 10 rfl
            refine One.env (L' := [(34, .int .i64 (chk p v)), (29, .int .i64 (chk p v))]) (sub_vs (x := vs 10) (by kernel_rfl) e29 (sub_vs (x := vs 5) (by kernel_rfl) e28 (Env.sub_nil _))) ?_
            exact One_pureD (v := .bool (!decide ((chk p v) = (chk p v)))) (by kernel_rfl)
        · intro vs w30 hr hj
          have e31 : vs 11 = .bool (!decide ((chk p v) = (chk p v))) := hj 11 (by decide)
          refine WO_sub (L' := [(0, .slice A m c), (3, .int .i64 (k : Int)), (17, .bool true), (4, .pointer (some ⟨g8, 0, none⟩)), (35, .bool (!decide ((chk p v) = (chk p v))))]) (Env.sub_cons (by kernel_rfl) (Env.sub_cons (by kernel_rfl) (Env.sub_cons (by kernel_rfl) (Env.sub_cons (by kernel_rfl) (sub_vs (x := vs 11) (by kernel_rfl) e31 (Env.sub_nil _)))))) ?_
          have hS32 := hS13.drew.keep hr
          refine WO_endS ?_
          rw [show (!decide ((chk p v) = (chk p v))) = false from by simp]
          refine W_condF rfl rfl ?_
          refine W_skip ?_
          repeat (first | refine normal_block ?_ | refine normal_labels ?_)
          refine W_next ?_
          refine W_regS [0, 1, 2, 3] (by kernel_rfl) ?_
          refine WO_batch [0] [1, 2, 3] [0, 3, 17, 4, 35, 36] [(0, .slice A m c), (3, .int .i64 (k : Int)), (17, .bool true), (4, .pointer (some ⟨g8, 0, none⟩)), (35, .bool false), (36, .pointer (some ⟨g8, 0, none⟩))] (by kernel_rfl) ?_
          refine WO_of_one (by kernel_rfl) (One_load (t := 3) (ty := 3) (x := (Operand.tmp 36)) (a := ⟨g8, 0, none⟩) (v := .int .i64 p) (by kernel_rfl) (by kernel_rfl) (run_loadBlk1 (hS32.get (i := 0) rfl) (by kernel_rfl) rfl) ?_)
          refine WO_callS ((Op.call { callee := (Callee.value (Operand.func 30)), args := #[(Operand.tmp 37), (Operand.const (Value.int IntKind.i64 18))], argTypes := #[3, 3] }), 4) #[.int .i64 p, .int .i64 18] (.bool true) (by kernel_rfl) (by kernel_rfl) (by kernel_rfl) (by have h := num18_any p w30; rw [hP7] at h; exact h) ?_
          refine WO_batch [3] [] [0, 3, 17, 4, 35, 5] [(0, .slice A m c), (3, .int .i64 (k : Int)), (17, .bool true), (4, .pointer (some ⟨g8, 0, none⟩)), (35, .bool false), (5, .bool true)] (by kernel_rfl) ?_
          refine WO_endS ?_
          refine W_regS [0, 1, 2, 3, 4, 5, 6, 7] (by kernel_rfl) ?_
          refine WO_batch [0] [1, 2, 3, 4, 5, 6, 7] [0, 3, 17, 4, 35, 5, 40] [(0, .slice A m c), (3, .int .i64 (k : Int)), (17, .bool true), (4, .pointer (some ⟨g8, 0, none⟩)), (35, .bool false), (5, .bool true), (40, .pointer (some ⟨g8, 0, none⟩))] (by kernel_rfl) ?_
          refine WO_of_one (by kernel_rfl) (One_load (t := 3) (ty := 3) (x := (Operand.tmp 40)) (a := ⟨g8, 0, none⟩) (v := .int .i64 p) (by kernel_rfl) (by kernel_rfl) (run_loadBlk1 (hS32.get (i := 0) rfl) (by kernel_rfl) rfl) ?_)
          refine WO_callB ((Op.call { callee := (Callee.value (Operand.func 25)), args := #[(Operand.tmp 41)], argTypes := #[3] }), 25) #[.int .i64 p] (.tuple #[.int .i64 (plain p), .int .i64 0]) (by kernel_rfl) (by kernel_rfl) (by kernel_rfl) (default_any p hP7 w30) (fun w33 hc34 => ?_)
          have hS35 := hS32.keep hc34
          refine WO_batch [3, 4, 5, 6, 7] [] [0, 3, 17, 4, 35, 5, 6, 7] [(0, .slice A m c), (3, .int .i64 (k : Int)), (17, .bool true), (4, .pointer (some ⟨g8, 0, none⟩)), (35, .bool false), (5, .bool true), (6, .int .i64 (plain p)), (7, .int .i64 0)] (by kernel_rfl) ?_
          refine WO_endS ?_
          refine W_regS [0, 1, 2, 3, 4, 5, 6, 7] (by kernel_rfl) ?_
          refine WO_batch [0] [1, 2, 3, 4, 5, 6, 7] [0, 3, 17, 4, 35, 5, 6, 7, 46] [(0, .slice A m c), (3, .int .i64 (k : Int)), (17, .bool true), (4, .pointer (some ⟨g8, 0, none⟩)), (35, .bool false), (5, .bool true), (6, .int .i64 (plain p)), (7, .int .i64 0), (46, .pointer (some ⟨g8, 0, none⟩))] (by kernel_rfl) ?_
          refine WO_of_one (by kernel_rfl) (One_load (t := 3) (ty := 3) (x := (Operand.tmp 46)) (a := ⟨g8, 0, none⟩) (v := .int .i64 p) (by kernel_rfl) (by kernel_rfl) (run_loadBlk1 (hS35.get (i := 0) rfl) (by kernel_rfl) rfl) ?_)
          refine WO_callB ((Op.call { callee := (Callee.value (Operand.func 31)), args := #[(Operand.tmp 47)], argTypes := #[3] }), 37) #[.int .i64 p] (.tuple #[.bool (goes p), .int .i64 0]) (by kernel_rfl) (by kernel_rfl) (by kernel_rfl) (goes_any p hP7 w33) (fun w36 hc37 => ?_)
          have hS38 := hS35.keep hc37
          refine WO_batch [3, 4, 5, 6, 7] [] [0, 3, 17, 4, 35, 5, 6, 7, 8, 9] [(0, .slice A m c), (3, .int .i64 (k : Int)), (17, .bool true), (4, .pointer (some ⟨g8, 0, none⟩)), (35, .bool false), (5, .bool true), (6, .int .i64 (plain p)), (7, .int .i64 0), (8, .bool (goes p)), (9, .int .i64 0)] (by kernel_rfl) ?_
          refine WO_endS ?_
          refine W_seq ?_
          refine W_regS [0, 1, 2, 3, 4, 5, 6, 7, 8, 9, 10, 11, 12, 13, 14, 15, 16, 17, 18, 19, 20, 21, 22, 23, 24, 25, 26, 27, 28, 29, 30, 31, 32] (by kernel_rfl) ?_
          refine WO_batch [0, 1] [2, 3, 4, 5, 6, 7, 8, 9, 10, 11, 12, 13, 14, 15, 16, 17, 18, 19, 20, 21, 22, 23, 24, 25, 26, 27, 28, 29, 30, 31, 32] [0, 3, 17, 4, 35, 5, 6, 7, 8, 9, 51, 52] [(0, .slice A m c), (3, .int .i64 (k : Int)), (17, .bool true), (4, .pointer (some ⟨g8, 0, none⟩)), (35, .bool false), (5, .bool true), (6, .int .i64 (plain p)), (7, .int .i64 0), (8, .bool (goes p)), (9, .int .i64 0), (51, .bool true), (52, .int .i64 0)] (by kernel_rfl) ?_
          refine WO_callS ((Op.call { callee := (Callee.value (Operand.func 26)), args := #[(Operand.tmp 52)], argTypes := #[24] }), 3) #[.int .i64 0] (.int .i64 0) (by kernel_rfl) (by kernel_rfl) (by kernel_rfl) (num_any 0 w36) ?_
          refine WO_batch [3, 4, 5, 6, 7] [8, 9, 10, 11, 12, 13, 14, 15, 16, 17, 18, 19, 20, 21, 22, 23, 24, 25, 26, 27, 28, 29, 30, 31, 32] [0, 3, 17, 4, 35, 5, 6, 7, 8, 9, 56, 57, 58] [(0, .slice A m c), (3, .int .i64 (k : Int)), (17, .bool true), (4, .pointer (some ⟨g8, 0, none⟩)), (35, .bool false), (5, .bool true), (6, .int .i64 (plain p)), (7, .int .i64 0), (8, .bool (goes p)), (9, .int .i64 0), (56, .bool false), (57, .bool true), (58, .int .i64 0)] (by kernel_rfl) ?_
          refine WO_callS ((Op.call { callee := (Callee.value (Operand.func 26)), args := #[(Operand.tmp 58)], argTypes := #[24] }), 3) #[.int .i64 0] (.int .i64 0) (by kernel_rfl) (by kernel_rfl) (by kernel_rfl) (num_any 0 w36) ?_
          refine WO_batch [9, 10, 11, 12, 13, 14, 15, 16, 17, 18, 19, 20, 21, 22, 23, 24, 25, 26, 27, 28, 29, 30, 31, 32] [] [0, 3, 17, 4, 35, 5, 6, 7, 8, 9, 83] [(0, .slice A m c), (3, .int .i64 (k : Int)), (17, .bool true), (4, .pointer (some ⟨g8, 0, none⟩)), (35, .bool false), (5, .bool true), (6, .int .i64 (plain p)), (7, .int .i64 0), (8, .bool (goes p)), (9, .int .i64 0), (83, .bool false)] (by kernel_rfl) ?_
          refine WO_endS ?_
          refine W_condF rfl rfl ?_
          refine W_skip ?_
          repeat (first | refine normal_block ?_ | refine normal_labels ?_)
          refine W_next ?_
          refine W_regS [0, 1, 2, 3, 4, 5, 6, 7, 8, 9, 10, 11, 12, 13, 14] (by kernel_rfl) ?_
          refine WO_batch [0, 1, 2, 3] [4, 5, 6, 7, 8, 9, 10, 11, 12, 13, 14] [0, 3, 17, 4, 35, 5, 6, 7, 8, 9, 83, 85, 86, 87] [(0, .slice A m c), (3, .int .i64 (k : Int)), (17, .bool true), (4, .pointer (some ⟨g8, 0, none⟩)), (35, .bool false), (5, .bool true), (6, .int .i64 (plain p)), (7, .int .i64 0), (8, .bool (goes p)), (9, .int .i64 0), (83, .bool false), (85, .bool true), (86, .int .i64 (plain p)), (87, .pointer (some ⟨g8, 0, none⟩))] (by kernel_rfl) ?_
          refine WO_of_one (by kernel_rfl) (One_load (t := 3) (ty := 3) (x := (Operand.tmp 87)) (a := ⟨g8, 0, none⟩) (v := .int .i64 p) (by kernel_rfl) (by kernel_rfl) (run_loadBlk1 (hS38.get (i := 0) rfl) (by kernel_rfl) rfl) ?_)
          refine WO_callS ((Op.call { callee := (Callee.value (Operand.func 32)), args := #[(Operand.tmp 88)], argTypes := #[3] }), 3) #[.int .i64 p] (.int .i64 (plain p)) (by kernel_rfl) (by kernel_rfl) (by kernel_rfl) (rdefault_any p hP7 w36) ?_
          refine WO_batch [6, 7] [8, 9, 10, 11, 12, 13, 14] [0, 3, 17, 4, 35, 5, 6, 7, 8, 9, 83, 85, 91] [(0, .slice A m c), (3, .int .i64 (k : Int)), (17, .bool true), (4, .pointer (some ⟨g8, 0, none⟩)), (35, .bool false), (5, .bool true), (6, .int .i64 (plain p)), (7, .int .i64 0), (8, .bool (goes p)), (9, .int .i64 0), (83, .bool false), (85, .bool true), (91, .bool (!decide ((plain p) = (plain p))))] (by kernel_rfl) ?_
          rw [show (!decide ((plain p) = (plain p))) = false from by simp]
          refine WO_batch [8, 9] [10, 11, 12, 13, 14] [0, 3, 17, 4, 35, 5, 6, 7, 8, 9, 83, 85, 91, 92, 93] [(0, .slice A m c), (3, .int .i64 (k : Int)), (17, .bool true), (4, .pointer (some ⟨g8, 0, none⟩)), (35, .bool false), (5, .bool true), (6, .int .i64 (plain p)), (7, .int .i64 0), (8, .bool (goes p)), (9, .int .i64 0), (83, .bool false), (85, .bool true), (91, .bool false), (92, .bool (goes p)), (93, .pointer (some ⟨g8, 0, none⟩))] (by kernel_rfl) ?_
          refine WO_of_one (by kernel_rfl) (One_load (t := 3) (ty := 3) (x := (Operand.tmp 93)) (a := ⟨g8, 0, none⟩) (v := .int .i64 p) (by kernel_rfl) (by kernel_rfl) (run_loadBlk1 (hS38.get (i := 0) rfl) (by kernel_rfl) rfl) ?_)
          refine WO_callS ((Op.call { callee := (Callee.value (Operand.func 33)), args := #[(Operand.tmp 94)], argTypes := #[3] }), 4) #[.int .i64 p] (.bool (goes p)) (by kernel_rfl) (by kernel_rfl) (by kernel_rfl) (rgoes_any p w36) ?_
          refine WO_batch [12, 13, 14] [] [0, 3, 17, 4, 35, 5, 6, 7, 8, 9, 83, 98] [(0, .slice A m c), (3, .int .i64 (k : Int)), (17, .bool true), (4, .pointer (some ⟨g8, 0, none⟩)), (35, .bool false), (5, .bool true), (6, .int .i64 (plain p)), (7, .int .i64 0), (8, .bool (goes p)), (9, .int .i64 0), (83, .bool false), (98, .bool (!((goes p) == (goes p))))] (by kernel_rfl) ?_
          refine WO_endS ?_
          rw [show (!((goes p) == (goes p))) = false from by simp]
          refine W_condF rfl rfl ?_
          refine W_skip ?_
          repeat (first | refine normal_block ?_ | refine normal_labels ?_)
          refine W_next ?_
          refine W_reg [0, 1, 2] (by kernel_rfl) ?_
          refine WO_batch [0, 1] [2] [0, 3, 17, 4, 35, 5, 6, 7, 8, 9, 83, 98, 19] [(0, .slice A m c), (3, .int .i64 (k : Int)), (17, .bool true), (4, .pointer (some ⟨g8, 0, none⟩)), (35, .bool false), (5, .bool true), (6, .int .i64 (plain p)), (7, .int .i64 0), (8, .bool (goes p)), (9, .int .i64 0), (83, .bool false), (98, .bool false), (19, .int .i64 (IntKind.i64.wrap ((k : Int) + 1)))] (by kernel_rfl) ?_
          rw [wrap_i64 (n := (k : Int) + 1) (by omega)]
          refine WO_batch [2] [] [0, 17, 4, 35, 5, 6, 7, 8, 9, 83, 98, 3] [(0, .slice A m c), (17, .bool true), (4, .pointer (some ⟨g8, 0, none⟩)), (35, .bool false), (5, .bool true), (6, .int .i64 (plain p)), (7, .int .i64 0), (8, .bool (goes p)), (9, .int .i64 0), (83, .bool false), (98, .bool false), (3, .int .i64 ((k : Int) + 1))] (by kernel_rfl) ?_
          refine WO_nil ?_
          repeat (first | refine normal_block ?_ | refine normal_labels ?_)
          refine normal_then (again (w := w36) (E := fun (k : Nat) => [(0, .slice A m c), (3, .int .i64 (k : Int))]) (I := fun (k : Nat) wl => k ≤ m ∧ St No w wl []) (μ := fun (k : Nat) => m - k) (s := k) (k + 1) ?_ ?_ ?_)
          · exact (Env.sub_cons rfl (Env.sub_cons rfl (Env.sub_nil _)))
          · exact ⟨by omega, hS38.sub (List.nil_sublist _)⟩
          · exact (by omega)
      · refine WO_of_one (by kernel_rfl) (One_new (x := ((Op.alloc 34), 0)) (t := 34) (cs := [.int .i64 0, .int .i64 0, .slice none 0 0]) (mk := fun r => .pointer (some ⟨r, 0, none⟩)) (by kernel_rfl) hS1 (fun r => by kernel_rfl) (fun g40 w41 hS42 hc43 => ?_))
        refine WO_of_one (by kernel_rfl) (One_store (i := 5) (c := 0) (g := g40) (o := 0) (t := 34) (t' := 34) (ty := 0) (x := (Operand.tmp 4)) (y := (Operand.tmp 23)) (cs := [.int .i64 0, .int .i64 0, .slice none 0 0]) (v := .agg #[.int .i64 p, .int .i64 v, .slice B n c2]) (by kernel_rfl) (by kernel_rfl) (by kernel_rfl) hS42 rfl (by kernel_rfl) (by simp [Value.cells]) (by kernel_rfl) (fun w44 hS45 hc46 => ?_))
        change St _ _ w44 [Blk g40 34 [.int .i64 p, .int .i64 v, .slice B n c2]] at hS45
        refine WO_endS ?_
        refine W_seq ?_
        refine W_drawS (W_drawL [([], [4]), ([0], []), ([], [4]), ([2], []), ([0, 1, 2, 3], []), ([0, 1, 2, 3, 4], []), ([], [4]), ([6], []), ([], [4]), ([8], []), ([0, 1, 2, 3, 4, 5, 6, 7, 8, 9], []), ([0, 1, 2, 3, 4, 5, 6, 7, 8, 9, 10], []), ([11], [0, 3, 17, 4])] [Is (.pointer (some ⟨g40, 0, none⟩)), Is (.int .i64 p), Is (.pointer (some ⟨g40, 1, none⟩)), Is (.int .i64 v), Is (.int .i64 (chk p v)), Is (.int .i64 (chk p v)), Is (.pointer (some ⟨g40, 0, none⟩)), Is (.int .i64 p), Is (.pointer (some ⟨g40, 1, none⟩)), Is (.int .i64 v), Is (.int .i64 (chk p v)), Is (.bool (!decide ((chk p v) = (chk p v))))] 12 (by kernel_rfl) (by kernel_rfl) (by kernel_rfl) ⟨Is.stab _, ⟨Is.stab _, ⟨Is.stab _, ⟨Is.stab _, ⟨Is.stab _, ⟨Is.stab _, ⟨Is.stab _, ⟨Is.stab _, ⟨Is.stab _, ⟨Is.stab _, ⟨Is.stab _, ⟨Is.stab _, trivial⟩⟩⟩⟩⟩⟩⟩⟩⟩⟩⟩⟩ ?_ ?_)
        · refine ⟨⟨⟨⟨⟨⟨⟨⟨⟨⟨⟨⟨trivial, ?_⟩, ?_⟩, ?_⟩, ?_⟩, ?_⟩, ?_⟩, ?_⟩, ?_⟩, ?_⟩, ?_⟩, ?_⟩, ?_⟩
          · intro vs wi hr hj
            refine One.env (L' := [(4, .pointer (some ⟨g40, 0, none⟩))]) (Env.sub_cons (by kernel_rfl) (Env.sub_nil _)) ?_
            exact One_pureD (v := .pointer (some ⟨g40, 0, none⟩)) (by kernel_rfl)
          · intro vs wi hr hj
            have e47 : vs 0 = .pointer (some ⟨g40, 0, none⟩) := hj 0 rfl
            refine One.env (L' := [(24, .pointer (some ⟨g40, 0, none⟩))]) (sub_vs (x := vs 0) (by kernel_rfl) e47 (Env.sub_nil _)) ?_
            have hS48 := hS45.drew.keep hr
            exact One_load (t := 3) (ty := 3) (x := (Operand.tmp 24)) (a := ⟨g40, 0, none⟩) (v := .int .i64 p) (by kernel_rfl) (by kernel_rfl) (run_loadBlk1 (hS48.get (i := 0) rfl) (by kernel_rfl) rfl) ⟨rfl, Ch.refl _ _⟩
          · intro vs wi hr hj
            refine One.env (L' := [(4, .pointer (some ⟨g40, 0, none⟩))]) (Env.sub_cons (by kernel_rfl) (Env.sub_nil _)) ?_
            exact One_pureD (v := .pointer (some ⟨g40, 1, none⟩)) (by kernel_rfl)
          · intro vs wi hr hj
            have e49 : vs 2 = .pointer (some ⟨g40, 1, none⟩) := hj 2 rfl
            refine One.env (L' := [(26, .pointer (some ⟨g40, 1, none⟩))]) (sub_vs (x := vs 2) (by kernel_rfl) e49 (Env.sub_nil _)) ?_
            have hS50 := hS45.drew.keep hr
            exact One_load (t := 3) (ty := 3) (x := (Operand.tmp 26)) (a := ⟨g40, 1, none⟩) (v := .int .i64 v) (by kernel_rfl) (by kernel_rfl) (run_loadBlk1 (hS50.get (i := 0) rfl) (by kernel_rfl) rfl) ⟨rfl, Ch.refl _ _⟩
          · intro vs wi hr hj
            have e51 : vs 1 = .int .i64 p := hj 1 rfl
            have e52 : vs 3 = .int .i64 v := hj 3 rfl
            refine One.env (L' := [(25, .int .i64 p), (27, .int .i64 v)]) (sub_vs (x := vs 1) (by kernel_rfl) e51 (sub_vs (x := vs 3) (by kernel_rfl) e52 (Env.sub_nil _))) ?_
            exact One_callBD ((Op.call { callee := (Callee.value (Operand.func 27)), args := #[(Operand.tmp 25), (Operand.tmp 27)], argTypes := #[3, 3] }), 24) #[.int .i64 p, .int .i64 v] (.int .i64 (chk p v)) (by kernel_rfl) (by kernel_rfl) (check_any p v wi)
          · intro vs wi hr hj
            have e53 : vs 4 = .int .i64 (chk p v) := hj 4 rfl
            refine One.env (L' := [(28, .int .i64 (chk p v))]) (sub_vs (x := vs 4) (by kernel_rfl) e53 (Env.sub_nil _)) ?_
            exact One_callSD ((Op.call { callee := (Callee.value (Operand.func 26)), args := #[(Operand.tmp 28)], argTypes := #[24] }), 3) #[.int .i64 (chk p v)] (.int .i64 (chk p v)) (by kernel_rfl) (by kernel_rfl) (num_any (chk p v) wi)
          · intro vs wi hr hj
            refine One.env (L' := [(4, .pointer (some ⟨g40, 0, none⟩))]) (Env.sub_cons (by kernel_rfl) (Env.sub_nil _)) ?_
            exact One_pureD (v := .pointer (some ⟨g40, 0, none⟩)) (by kernel_rfl)
          · intro vs wi hr hj
            have e54 : vs 6 = .pointer (some ⟨g40, 0, none⟩) := hj 6 rfl
            refine One.env (L' := [(30, .pointer (some ⟨g40, 0, none⟩))]) (sub_vs (x := vs 6) (by kernel_rfl) e54 (Env.sub_nil _)) ?_
            have hS55 := hS45.drew.keep hr
            exact One_load (t := 3) (ty := 3) (x := (Operand.tmp 30)) (a := ⟨g40, 0, none⟩) (v := .int .i64 p) (by kernel_rfl) (by kernel_rfl) (run_loadBlk1 (hS55.get (i := 0) rfl) (by kernel_rfl) rfl) ⟨rfl, Ch.refl _ _⟩
          · intro vs wi hr hj
            refine One.env (L' := [(4, .pointer (some ⟨g40, 0, none⟩))]) (Env.sub_cons (by kernel_rfl) (Env.sub_nil _)) ?_
            exact One_pureD (v := .pointer (some ⟨g40, 1, none⟩)) (by kernel_rfl)
          · intro vs wi hr hj
            have e56 : vs 8 = .pointer (some ⟨g40, 1, none⟩) := hj 8 rfl
            refine One.env (L' := [(32, .pointer (some ⟨g40, 1, none⟩))]) (sub_vs (x := vs 8) (by kernel_rfl) e56 (Env.sub_nil _)) ?_
            have hS57 := hS45.drew.keep hr
            exact One_load (t := 3) (ty := 3) (x := (Operand.tmp 32)) (a := ⟨g40, 1, none⟩) (v := .int .i64 v) (by kernel_rfl) (by kernel_rfl) (run_loadBlk1 (hS57.get (i := 0) rfl) (by kernel_rfl) rfl) ⟨rfl, Ch.refl _ _⟩
          · intro vs wi hr hj
            have e58 : vs 7 = .int .i64 p := hj 7 rfl
            have e59 : vs 9 = .int .i64 v := hj 9 rfl
            refine One.env (L' := [(33, .int .i64 v), (31, .int .i64 p)]) (sub_vs (x := vs 9) (by kernel_rfl) e59 (sub_vs (x := vs 7) (by kernel_rfl) e58 (Env.sub_nil _))) ?_
            exact One_callSD ((Op.call { callee := (Callee.value (Operand.func 29)), args := #[(Operand.tmp 31), (Operand.tmp 33)], argTypes := #[3, 3] }), 3) #[.int .i64 p, .int .i64 v] (.int .i64 (chk p v)) (by kernel_rfl) (by kernel_rfl) (rcheck_any p v wi)
          · intro vs wi hr hj
            have e60 : vs 5 = .int .i64 (chk p v) := hj 5 rfl
            have e61 : vs 10 = .int .i64 (chk p v) := hj 10 rfl
            refine One.env (L' := [(34, .int .i64 (chk p v)), (29, .int .i64 (chk p v))]) (sub_vs (x := vs 10) (by kernel_rfl) e61 (sub_vs (x := vs 5) (by kernel_rfl) e60 (Env.sub_nil _))) ?_
            exact One_pureD (v := .bool (!decide ((chk p v) = (chk p v)))) (by kernel_rfl)
        · intro vs w62 hr hj
          have e63 : vs 11 = .bool (!decide ((chk p v) = (chk p v))) := hj 11 (by decide)
          refine WO_sub (L' := [(0, .slice A m c), (3, .int .i64 (k : Int)), (17, .bool true), (4, .pointer (some ⟨g40, 0, none⟩)), (35, .bool (!decide ((chk p v) = (chk p v))))]) (Env.sub_cons (by kernel_rfl) (Env.sub_cons (by kernel_rfl) (Env.sub_cons (by kernel_rfl) (Env.sub_cons (by kernel_rfl) (sub_vs (x := vs 11) (by kernel_rfl) e63 (Env.sub_nil _)))))) ?_
          have hS64 := hS45.drew.keep hr
          refine WO_endS ?_
          rw [show (!decide ((chk p v) = (chk p v))) = false from by simp]
          refine W_condF rfl rfl ?_
          refine W_skip ?_
          repeat (first | refine normal_block ?_ | refine normal_labels ?_)
          refine W_next ?_
          refine W_regS [0, 1, 2, 3] (by kernel_rfl) ?_
          refine WO_batch [0] [1, 2, 3] [0, 3, 17, 4, 35, 36] [(0, .slice A m c), (3, .int .i64 (k : Int)), (17, .bool true), (4, .pointer (some ⟨g40, 0, none⟩)), (35, .bool false), (36, .pointer (some ⟨g40, 0, none⟩))] (by kernel_rfl) ?_
          refine WO_of_one (by kernel_rfl) (One_load (t := 3) (ty := 3) (x := (Operand.tmp 36)) (a := ⟨g40, 0, none⟩) (v := .int .i64 p) (by kernel_rfl) (by kernel_rfl) (run_loadBlk1 (hS64.get (i := 0) rfl) (by kernel_rfl) rfl) ?_)
          refine WO_callS ((Op.call { callee := (Callee.value (Operand.func 30)), args := #[(Operand.tmp 37), (Operand.const (Value.int IntKind.i64 18))], argTypes := #[3, 3] }), 4) #[.int .i64 p, .int .i64 18] (.bool false) (by kernel_rfl) (by kernel_rfl) (by kernel_rfl) (by have h := num18_any p w62; rw [hP7] at h; exact h) ?_
          refine WO_batch [3] [] [0, 3, 17, 4, 35, 5] [(0, .slice A m c), (3, .int .i64 (k : Int)), (17, .bool true), (4, .pointer (some ⟨g40, 0, none⟩)), (35, .bool false), (5, .bool false)] (by kernel_rfl) ?_
          refine WO_endS ?_
          refine W_regS [0, 1, 2, 3, 4, 5, 6, 7] (by kernel_rfl) ?_
          refine WO_batch [0] [1, 2, 3, 4, 5, 6, 7] [0, 3, 17, 4, 35, 5, 40] [(0, .slice A m c), (3, .int .i64 (k : Int)), (17, .bool true), (4, .pointer (some ⟨g40, 0, none⟩)), (35, .bool false), (5, .bool false), (40, .pointer (some ⟨g40, 0, none⟩))] (by kernel_rfl) ?_
          refine WO_of_one (by kernel_rfl) (One_load (t := 3) (ty := 3) (x := (Operand.tmp 40)) (a := ⟨g40, 0, none⟩) (v := .int .i64 p) (by kernel_rfl) (by kernel_rfl) (run_loadBlk1 (hS64.get (i := 0) rfl) (by kernel_rfl) rfl) ?_)
          refine WO_callB ((Op.call { callee := (Callee.value (Operand.func 25)), args := #[(Operand.tmp 41)], argTypes := #[3] }), 25) #[.int .i64 p] (.tuple #[.int .i64 0, .int .i64 3]) (by kernel_rfl) (by kernel_rfl) (by kernel_rfl) (default_none p hP7 w62) (fun w65 hc66 => ?_)
          have hS67 := hS64.keep hc66
          refine WO_batch [3, 4, 5, 6, 7] [] [0, 3, 17, 4, 35, 5, 6, 7] [(0, .slice A m c), (3, .int .i64 (k : Int)), (17, .bool true), (4, .pointer (some ⟨g40, 0, none⟩)), (35, .bool false), (5, .bool false), (6, .int .i64 0), (7, .int .i64 3)] (by kernel_rfl) ?_
          refine WO_endS ?_
          refine W_regS [0, 1, 2, 3, 4, 5, 6, 7] (by kernel_rfl) ?_
          refine WO_batch [0] [1, 2, 3, 4, 5, 6, 7] [0, 3, 17, 4, 35, 5, 6, 7, 46] [(0, .slice A m c), (3, .int .i64 (k : Int)), (17, .bool true), (4, .pointer (some ⟨g40, 0, none⟩)), (35, .bool false), (5, .bool false), (6, .int .i64 0), (7, .int .i64 3), (46, .pointer (some ⟨g40, 0, none⟩))] (by kernel_rfl) ?_
          refine WO_of_one (by kernel_rfl) (One_load (t := 3) (ty := 3) (x := (Operand.tmp 46)) (a := ⟨g40, 0, none⟩) (v := .int .i64 p) (by kernel_rfl) (by kernel_rfl) (run_loadBlk1 (hS67.get (i := 0) rfl) (by kernel_rfl) rfl) ?_)
          refine WO_callB ((Op.call { callee := (Callee.value (Operand.func 31)), args := #[(Operand.tmp 47)], argTypes := #[3] }), 37) #[.int .i64 p] (.tuple #[.bool false, .int .i64 3]) (by kernel_rfl) (by kernel_rfl) (by kernel_rfl) (goes_none p hP7 w65) (fun w68 hc69 => ?_)
          have hS70 := hS67.keep hc69
          refine WO_batch [3, 4, 5, 6, 7] [] [0, 3, 17, 4, 35, 5, 6, 7, 8, 9] [(0, .slice A m c), (3, .int .i64 (k : Int)), (17, .bool true), (4, .pointer (some ⟨g40, 0, none⟩)), (35, .bool false), (5, .bool false), (6, .int .i64 0), (7, .int .i64 3), (8, .bool false), (9, .int .i64 3)] (by kernel_rfl) ?_
          refine WO_endS ?_
          refine W_seq ?_
          refine W_regS [0, 1, 2, 3, 4, 5, 6, 7, 8, 9, 10, 11, 12, 13, 14, 15, 16, 17, 18, 19, 20, 21, 22, 23, 24, 25, 26, 27, 28, 29, 30, 31, 32] (by kernel_rfl) ?_
          refine WO_batch [0, 1] [2, 3, 4, 5, 6, 7, 8, 9, 10, 11, 12, 13, 14, 15, 16, 17, 18, 19, 20, 21, 22, 23, 24, 25, 26, 27, 28, 29, 30, 31, 32] [0, 3, 17, 4, 35, 5, 6, 7, 8, 9, 51, 52] [(0, .slice A m c), (3, .int .i64 (k : Int)), (17, .bool true), (4, .pointer (some ⟨g40, 0, none⟩)), (35, .bool false), (5, .bool false), (6, .int .i64 0), (7, .int .i64 3), (8, .bool false), (9, .int .i64 3), (51, .bool false), (52, .int .i64 3)] (by kernel_rfl) ?_
          refine WO_callS ((Op.call { callee := (Callee.value (Operand.func 26)), args := #[(Operand.tmp 52)], argTypes := #[24] }), 3) #[.int .i64 3] (.int .i64 3) (by kernel_rfl) (by kernel_rfl) (by kernel_rfl) (num_any 3 w68) ?_
          refine WO_batch [3, 4, 5, 6, 7] [8, 9, 10, 11, 12, 13, 14, 15, 16, 17, 18, 19, 20, 21, 22, 23, 24, 25, 26, 27, 28, 29, 30, 31, 32] [0, 3, 17, 4, 35, 5, 6, 7, 8, 9, 56, 57, 58] [(0, .slice A m c), (3, .int .i64 (k : Int)), (17, .bool true), (4, .pointer (some ⟨g40, 0, none⟩)), (35, .bool false), (5, .bool false), (6, .int .i64 0), (7, .int .i64 3), (8, .bool false), (9, .int .i64 3), (56, .bool false), (57, .bool false), (58, .int .i64 3)] (by kernel_rfl) ?_
          refine WO_callS ((Op.call { callee := (Callee.value (Operand.func 26)), args := #[(Operand.tmp 58)], argTypes := #[24] }), 3) #[.int .i64 3] (.int .i64 3) (by kernel_rfl) (by kernel_rfl) (by kernel_rfl) (num_any 3 w68) ?_
          refine WO_batch [9, 10, 11, 12, 13, 14, 15, 16] [17, 18, 19, 20, 21, 22, 23, 24, 25, 26, 27, 28, 29, 30, 31, 32] [0, 3, 17, 4, 35, 5, 6, 7, 8, 9, 63, 66, 67] [(0, .slice A m c), (3, .int .i64 (k : Int)), (17, .bool true), (4, .pointer (some ⟨g40, 0, none⟩)), (35, .bool false), (5, .bool false), (6, .int .i64 0), (7, .int .i64 3), (8, .bool false), (9, .int .i64 3), (63, .bool false), (66, .bool true), (67, .int .i64 3)] (by kernel_rfl) ?_
          refine WO_callS ((Op.call { callee := (Callee.value (Operand.func 26)), args := #[(Operand.tmp 67)], argTypes := #[24] }), 3) #[.int .i64 3] (.int .i64 3) (by kernel_rfl) (by kernel_rfl) (by kernel_rfl) (num_any 3 w68) ?_
          refine WO_batch [18, 19, 20] [21, 22, 23, 24, 25, 26, 27, 28, 29, 30, 31, 32] [0, 3, 17, 4, 35, 5, 6, 7, 8, 9, 63, 66, 70, 71] [(0, .slice A m c), (3, .int .i64 (k : Int)), (17, .bool true), (4, .pointer (some ⟨g40, 0, none⟩)), (35, .bool false), (5, .bool false), (6, .int .i64 0), (7, .int .i64 3), (8, .bool false), (9, .int .i64 3), (63, .bool false), (66, .bool true), (70, .bool false), (71, .int .i64 3)] (by kernel_rfl) ?_
          refine WO_callS ((Op.call { callee := (Callee.value (Operand.func 26)), args := #[(Operand.tmp 71)], argTypes := #[24] }), 3) #[.int .i64 3] (.int .i64 3) (by kernel_rfl) (by kernel_rfl) (by kernel_rfl) (num_any 3 w68) ?_
          refine WO_batch [22, 23, 24, 25, 26, 27, 28, 29, 30, 31, 32] [] [0, 3, 17, 4, 35, 5, 6, 7, 8, 9, 83] [(0, .slice A m c), (3, .int .i64 (k : Int)), (17, .bool true), (4, .pointer (some ⟨g40, 0, none⟩)), (35, .bool false), (5, .bool false), (6, .int .i64 0), (7, .int .i64 3), (8, .bool false), (9, .int .i64 3), (83, .bool false)] (by kernel_rfl) ?_
          refine WO_endS ?_
          refine W_condF rfl rfl ?_
          refine W_skip ?_
          repeat (first | refine normal_block ?_ | refine normal_labels ?_)
          refine W_next ?_
          refine W_regS [0, 1, 2, 3, 4, 5, 6, 7, 8, 9, 10, 11, 12, 13, 14] (by kernel_rfl) ?_
          refine WO_batch [0, 1, 2, 3, 4, 5, 6, 7, 8, 9, 10, 11, 12, 13, 14] [] [0, 3, 17, 4, 35, 5, 6, 7, 8, 9, 83, 98] [(0, .slice A m c), (3, .int .i64 (k : Int)), (17, .bool true), (4, .pointer (some ⟨g40, 0, none⟩)), (35, .bool false), (5, .bool false), (6, .int .i64 0), (7, .int .i64 3), (8, .bool false), (9, .int .i64 3), (83, .bool false), (98, .bool false)] (by kernel_rfl) ?_
          refine WO_endS ?_
          refine W_condF rfl rfl ?_
          refine W_skip ?_
          repeat (first | refine normal_block ?_ | refine normal_labels ?_)
          refine W_next ?_
          refine W_reg [0, 1, 2] (by kernel_rfl) ?_
          refine WO_batch [0, 1] [2] [0, 3, 17, 4, 35, 5, 6, 7, 8, 9, 83, 98, 19] [(0, .slice A m c), (3, .int .i64 (k : Int)), (17, .bool true), (4, .pointer (some ⟨g40, 0, none⟩)), (35, .bool false), (5, .bool false), (6, .int .i64 0), (7, .int .i64 3), (8, .bool false), (9, .int .i64 3), (83, .bool false), (98, .bool false), (19, .int .i64 (IntKind.i64.wrap ((k : Int) + 1)))] (by kernel_rfl) ?_
          rw [wrap_i64 (n := (k : Int) + 1) (by omega)]
          refine WO_batch [2] [] [0, 17, 4, 35, 5, 6, 7, 8, 9, 83, 98, 3] [(0, .slice A m c), (17, .bool true), (4, .pointer (some ⟨g40, 0, none⟩)), (35, .bool false), (5, .bool false), (6, .int .i64 0), (7, .int .i64 3), (8, .bool false), (9, .int .i64 3), (83, .bool false), (98, .bool false), (3, .int .i64 ((k : Int) + 1))] (by kernel_rfl) ?_
          refine WO_nil ?_
          repeat (first | refine normal_block ?_ | refine normal_labels ?_)
          refine normal_then (again (w := w68) (E := fun (k : Nat) => [(0, .slice A m c), (3, .int .i64 (k : Int))]) (I := fun (k : Nat) wl => k ≤ m ∧ St No w wl []) (μ := fun (k : Nat) => m - k) (s := k) (k + 1) ?_ ?_ ?_)
          · exact (Env.sub_cons rfl (Env.sub_cons rfl (Env.sub_nil _)))
          · exact ⟨by omega, hS70.sub (List.nil_sublist _)⟩
          · exact (by omega)
    · simp only [hb5]
      have h71 : ¬ ((k : Int) < 30) := by simpa using hb5
      refine W_exit ?_
      repeat (first | refine exit_then ?_ | refine exit_labels ?_)
      refine exit_in ?_
      repeat (first | refine normal_block ?_ | refine normal_labels ?_)
      refine W_next ?_
      refine W_regS [0, 1] (by kernel_rfl) ?_
      refine WO_callB ((Op.call { callee := (Callee.value (Operand.func 28)), args := #[], argTypes := #[] }), 4) #[] (.bool true) (by kernel_rfl) (by kernel_rfl) (by kernel_rfl) (wakes_any w1) (fun w72 hc73 => ?_)
      have hS74 := hS1.keep hc73
      refine WO_batch [1] [] [2] [(2, .bool true)] (by kernel_rfl) ?_
      refine WO_endS ?_
      refine W_ret ?_
      repeat (first | refine ret_then ?_ | refine ret_block ?_ | refine ret_labels ?_)
      refine ret_ (fn := Try.f4) (rs := [.tmp 2]) (vs := [.bool true]) rfl ?_ ?_
      · exact (.tmp rfl .nil)
      exact ⟨rfl, hS74.ch.below⟩
  · simp only [hb3]
    have h75 : ¬ ((k : Int) < (m : Int)) := by simpa using hb3
    refine WO_batch [5, 6, 7] [] [0, 3, 17] [(0, .slice A m c), (3, .int .i64 (k : Int)), (17, .bool false)] (by kernel_rfl) ?_
    refine WO_endS ?_
    refine W_condF rfl rfl ?_
    refine W_exit ?_
    repeat (first | refine exit_then ?_ | refine exit_labels ?_)
    refine exit_in ?_
    repeat (first | refine normal_block ?_ | refine normal_labels ?_)
    refine W_next ?_
    refine W_regS [0, 1] (by kernel_rfl) ?_
    refine WO_callB ((Op.call { callee := (Callee.value (Operand.func 28)), args := #[], argTypes := #[] }), 4) #[] (.bool true) (by kernel_rfl) (by kernel_rfl) (by kernel_rfl) (wakes_any w1) (fun w76 hc77 => ?_)
    have hS78 := hS1.keep hc77
    refine WO_batch [1] [] [2] [(2, .bool true)] (by kernel_rfl) ?_
    refine WO_endS ?_
    refine W_ret ?_
    repeat (first | refine ret_then ?_ | refine ret_block ?_ | refine ret_labels ?_)
    refine ret_ (fn := Try.f4) (rs := [.tmp 2]) (vs := [.bool true]) rfl ?_ ?_
    · exact (.tmp rfl .nil)
    exact ⟨rfl, hS78.ch.below⟩

set_option maxRecDepth 100000 in
theorem lifted (os : Os) (started : os.Started) (H : Type) (enc : TypeId × Value → H) :
    ReturnsInHanded {} Try.checked os 4 .any (Rows.propChecksSpec.pre6 enc Try.prog Try.f4 Rows.propChecksRow.domain false) (Rows.propChecksSpec.post enc Try.prog Try.f4 false true false false) := by
  refine returnsInHanded_of_change (C := Try.checked) own started (by kernel_rfl) Try.func4
    (ChangeSpec.witness6 (enc := enc) (C := Try.checked) false ⟨#[], #[.slice none 0 0], []⟩ 8 (by kernel_rfl) (by kernel_rfl) (by kernel_rfl) (by kernel_rfl)) ?_
  intro W base args ds gs before hval0 hW hcnd _
  have hval : ∀ (j : Nat) t v, Try.f4.params[j]? = some t → args[j]? = some v → Value.okWide Try.prog W .any base t v := hval0
  have hW' := hW
  obtain ⟨p, q, hA0, hV, rfl, hfz, hnd⟩ := hW
  have hA : DataW.TrodAll enc Try.prog W 0 (fun _ => true) true Try.f4.params.toList args.toList ds p := hA0
  rw [Try.params4] at hA hval
  obtain ⟨v0, vs0, d0, ds0, p0, q0, hargs, rfl, rfl, h0, r0⟩ := trodAll_cons hA
  obtain ⟨rfl, rfl, rfl⟩ := trodAll_nil r0
  obtain rfl : args = #[v0] := by cases args; simp_all
  obtain ⟨rfl, rfl⟩ := trodVars_none hV
  obtain ⟨a0, len0, cap0, rfl⟩ := okWide_slice Try.underlying22 (hval 0 22 v0 rfl rfl)
  have k0 := h0
  have lt0 : ∀ x ∈ p0, x.block < W.heap.size := by obtain ⟨m, hm⟩ := k0; exact DataW.trod_lt m _ _ _ hm
  obtain ⟨fuel, hf⟩ := h0
  obtain ⟨hask, hlen⟩ := asks_of (by simpa [Value.cells] using hf)
  clear hA0 hval0
  refine (law_any a0 len0 cap0 W hask hlen).mono fun e W' ⟨he, bel⟩ => ?_
  subst he
  exact ⟨_, rfl, _, _, _, [], _, [], hW', trodAll_mk1 (shut_bool Try.underlying4 _), (trodAll_mk1 (Below.trod laidOut (by kernel_rfl) (of_decide_eq_true (by kernel_rfl)) k0 bel lt0)), rfl, bel.frame _, fun h => by cases h⟩

end PropChecks
open PropChecks in
theorem propChecks_holds : Rows.PropChecksSaid :=
  OpenClaim.holds_of_wide 4 Try.f4 rfl rfl rfl rfl rfl rfl rfl ⟨rfl, rfl, rfl, rfl, rfl⟩ rfl rfl rfl rfl rfl (by kernel_rfl) Try.func4 (by kernel_rfl)
    (of_decide_eq_true (by kernel_rfl)) (by unfold Func.isWrapper; rw [if_neg (of_decide_eq_false (by kernel_rfl))]; exact ⟨rfl, rfl⟩)
    (fun os started H enc _ => lifted os started H enc)
#print axioms propChecks_holds
end Go.Proofs.Ytfgfoocmiflnmaa
