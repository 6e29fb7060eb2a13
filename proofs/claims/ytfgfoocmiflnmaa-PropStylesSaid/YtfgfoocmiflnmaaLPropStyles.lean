/- PropStyles: whatever the slice of asks that comes in (any that can be read), the law returns true, and the slice reads behind the call as it read before. No condition. -/
import Derived.Test.YtfgfoocmiflnmaaMyG
namespace Go.Proofs.Ytfgfoocmiflnmaa
open Go.ChangeShapes Go.WideShapes Go.ChangeAt Go.RowKit Go.Deep Go.Arr My
namespace PropStyles
theorem all_yes {A : Option Addr} {m c : Nat} {xs : List Int} {w : World} (hA : Ints w A m xs) (hm : m ≤ 9223372036854775807) (h : whole xs = true) : Calls Try.prog 34 #[.agg #[.slice A m c]] w fun e w' => e = .returned (.int .i64 0) ∧ Below w.heap.size w w' := by
  have q := all_any A m c xs w hA hm
  rw [if_pos h] at q
  exact q
theorem all_no {A : Option Addr} {m c : Nat} {xs : List Int} {w : World} (hA : Ints w A m xs) (hm : m ≤ 9223372036854775807) (h : whole xs = false) : Calls Try.prog 34 #[.agg #[.slice A m c]] w fun e w' => e = .returned (.int .i64 1) ∧ Below w.heap.size w w' := by
  have q := all_any A m c xs w hA hm
  rw [if_neg (by rw [h]; decide)] at q
  exact q
theorem rall_is {A : Option Addr} {m c : Nat} {xs : List Int} {w : World} {b : Bool} (hA : Ints w A m xs) (h : whole xs = b) : Calls Try.prog 35 #[.agg #[.slice A m c]] w fun e w' => e = .returned (.bool b) ∧ Below w.heap.size w w' := by
  have q := rall_any A m c xs w hA
  rw [h] at q
  exact q
theorem eqs_same {A B : Option Addr} {c c' : Nat} {xs : List Int} {w : World} (hA : Ints w A 19 xs) (hB : Ints w B 19 xs) : Calls Try.prog 37 #[.agg #[.slice A 19 c], .agg #[.slice B 19 c']] w fun e w' => e = .returned (.bool true) ∧ Below w.heap.size w w' := by
  have q := eqs_any A B 19 c 19 c' xs xs w hA hB (by omega)
  rw [decide_eq_true rfl] at q
  exact q
/-- No memory. -/
def Ck.nil : Ck := ⟨fun _ => False, fun _ => True, fun _ _ _ h => h⟩
theorem St.lose {U : Nat → Prop} {w0 w w' : World} {H : List Ck} (h : St U w0 w H) {i : Nat} {c : Ck} (hi : H[i]? = some c) (hc : Ch c.F w w') : St U w0 w' (H.set i Ck.nil) := h.upd hi hc _ trivial (fun _ hb => hb.elim)
theorem plainRow {w : World} {A : Option Addr} {c : Nat} (h : (Row 3 1 (.slice A 19 c) 19 (plainTo 19)).P w) : Ints w A 19 plainL := Row.ints (by rw [← plainTo_eq]; exact h)

theorem law_any (A : Option Addr) (m c : Nat) (w : World) (hA : Asks w A m) (hm : m ≤ 9223372036854775807) : Calls Try.prog 5 #[.slice A m c] w fun e w' => e = .returned (.bool true) ∧ Below w.heap.size w w' := by
  have hS0 := St.start No w
  refine Calls_of (fn := Try.f5) (args := [.slice A m c]) Try.func5 rfl rfl ?_
  refine W_regS [0] (by kernel_rfl) ?_
  refine WO_batch [0] [] [0, 2] [(0, .slice A m c), (2, .bool false)] (by kernel_rfl) ?_
  refine WO_endS ?_
  refine W_seq ?_
  refine W_regS [0] (by kernel_rfl) ?_
  refine WO_batch [0] [] [0, 2, 3] [(0, .slice A m c), (2, .bool false), (3, .int .i64 0)] (by kernel_rfl) ?_
  refine WO_endS ?_
  refine W_block ?_
  refine W_loop (σ := Nat) (fun k => [(0, .slice A m c), (3, .int .i64 (k : Int))]) (fun k wl => k ≤ m ∧ St No w wl []) (fun k => m - k) 0 (Env.sub_cons rfl (Env.sub_cons rfl (Env.sub_nil _))) (⟨by omega, hS0⟩) ?_
  intro k w1 hI2
  obtain ⟨hk0, hS1⟩ := hI2
  refine W_seq ?_
  refine W_regS [0, 1, 2, 3, 4, 5, 6, 7] (by kernel_rfl) ?_
  refine WO_batch [0, 1, 2, 3, 4] [5, 6, 7] [0, 3, 11] [(0, .slice A m c), (3, .int .i64 (k : Int)), (11, .bool (decide ((k : Int) < (m : Int))))] (by kernel_rfl) ?_
  rcases Bool.eq_false_or_eq_true (decide ((k : Int) < (m : Int))) with hb3 | hb3
  · simp only [hb3]
    have h4 : (k : Int) < (m : Int) := by simpa using hb3
    have hk : k < m := by omega
    obtain ⟨ad, had, hall⟩ := hA (by omega)
    obtain ⟨p, v, B, n, c2, xs, hcell, hB, hn⟩ := hall k hk
    refine WO_batch [5, 6, 7] [] [0, 3, 14] [(0, .slice A m c), (3, .int .i64 (k : Int)), (14, .bool (decide ((k : Int) < 30)))] (by kernel_rfl) ?_
    refine WO_endS ?_
    refine W_cond (t := decide ((k : Int) < 30)) rfl rfl (fun hb5 => ?_) (fun hb5 => ?_)
    · simp only [hb5]
      have h6 : (k : Int) < 30 := by simpa using hb5
      refine W_skip ?_
      repeat (first | refine normal_block ?_ | refine normal_labels ?_)
      refine W_next ?_
      refine W_seq ?_
      refine W_block ?_
      refine W_seq ?_
      refine W_regS [0, 1, 2, 3, 4, 5, 6, 7] (by kernel_rfl) ?_
      refine WO_batch [0, 1] [2, 3, 4, 5, 6, 7] [0, 3, 14, 17, 18] [(0, .slice A m c), (3, .int .i64 (k : Int)), (14, .bool true), (17, .slice A m c), (18, .int .i64 (k : Int))] (by kernel_rfl) ?_
      refine WO_of_one (by kernel_rfl) (One_indexN (i := 2) (t := 22) (ty := 0) (x := (Operand.tmp 17)) (y := (Operand.tmp 18)) (A := A) (a := ad) (len := m) (cap := c) (k := .i64) (j := k) (e := 34) (sz := 3) (by kernel_rfl) (by kernel_rfl) (by kernel_rfl) (by kernel_rfl) (by kernel_rfl) had (by omega) ?_)
      refine WO_batch [3, 4] [5, 6, 7] [0, 3, 14, 21] [(0, .slice A m c), (3, .int .i64 (k : Int)), (14, .bool true), (21, .pointer (some ((ad.add (k * 3)).add 2)))] (by kernel_rfl) ?_
      refine WO_of_one (by kernel_rfl) (One_load (t := 23) (ty := 23) (x := (Operand.tmp 21)) (a := (ad.add (k * 3)).add 2) (v := .slice B n c2) (by kernel_rfl) (by kernel_rfl) (run_load1 (by kernel_rfl) (hS1.old (hcell 2 _ rfl) id)) ?_)
      refine WO_batch [6, 7] [] [0, 3, 14, 24] [(0, .slice A m c), (3, .int .i64 (k : Int)), (14, .bool true), (24, .bool (decide ((n : Int) > 1000)))] (by kernel_rfl) ?_
      refine WO_endS ?_
      refine W_cond (t := decide ((n : Int) > 1000)) rfl rfl (fun hb7 => ?_) (fun hb7 => ?_)
      · simp only [hb7]
        have h8 : (n : Int) > 1000 := by simpa using hb7
        refine W_regS [0] (by kernel_rfl) ?_
        refine WO_batch [0] [] [0, 3, 14, 24, 2] [(0, .slice A m c), (3, .int .i64 (k : Int)), (14, .bool true), (24, .bool true), (2, .bool true)] (by kernel_rfl) ?_
        refine WO_endS ?_
        refine W_ret ?_
        repeat (first | refine ret_then ?_ | refine ret_block ?_ | refine ret_labels ?_)
        refine ret_ (fn := Try.f5) (rs := [.tmp 2]) (vs := [.bool true]) rfl ?_ ?_
        · exact (.tmp rfl .nil)
        exact ⟨rfl, hS1.ch.below⟩
      · simp only [hb7]
        have h9 : ¬ ((n : Int) > 1000) := by simpa using hb7
        refine W_skip ?_
        repeat (first | refine normal_block ?_ | refine normal_labels ?_)
        refine W_next ?_
        refine W_regS [0, 1, 2, 3, 4, 5, 6, 7] (by kernel_rfl) ?_
        refine WO_batch [0, 1] [2, 3, 4, 5, 6, 7] [0, 3, 14, 24, 25, 26] [(0, .slice A m c), (3, .int .i64 (k : Int)), (14, .bool true), (24, .bool false), (25, .slice A m c), (26, .int .i64 (k : Int))] (by kernel_rfl) ?_
        refine WO_of_one (by kernel_rfl) (One_indexN (i := 2) (t := 22) (ty := 0) (x := (Operand.tmp 25)) (y := (Operand.tmp 26)) (A := A) (a := ad) (len := m) (cap := c) (k := .i64) (j := k) (e := 34) (sz := 3) (by kernel_rfl) (by kernel_rfl) (by kernel_rfl) (by kernel_rfl) (by kernel_rfl) had (by omega) ?_)
        refine WO_batch [3] [4, 5, 6, 7] [0, 3, 14, 24, 28] [(0, .slice A m c), (3, .int .i64 (k : Int)), (14, .bool true), (24, .bool false), (28, .pointer (some ((ad.add (k * 3)).add 2)))] (by kernel_rfl) ?_
        rcases Bool.eq_false_or_eq_true (whole xs) with hW10 | hW10
        · refine WO_of_one (by kernel_rfl) (One_load (t := 32) (ty := 32) (x := (Operand.tmp 28)) (a := (ad.add (k * 3)).add 2) (v := .agg #[.slice B n c2]) (by kernel_rfl) (by kernel_rfl) (run_loadOne (by kernel_rfl) (by kernel_rfl) (hS1.old (hcell 2 _ rfl) id)) ?_)
          refine WO_callB ((Op.call { callee := (Callee.value (Operand.func 34)), args := #[(Operand.tmp 29)], argTypes := #[32] }), 24) #[.agg #[.slice B n c2]] (.int .i64 0) (by kernel_rfl) (by kernel_rfl) (by kernel_rfl) (all_yes (hB.keep hS1.ch) hn hW10) (fun w11 hc12 => ?_)
          have hS13 := hS1.keep hc12
          refine WO_callS ((Op.call { callee := (Callee.value (Operand.func 26)), args := #[(Operand.tmp 30)], argTypes := #[24] }), 3) #[.int .i64 0] (.int .i64 0) (by kernel_rfl) (by kernel_rfl) (by kernel_rfl) (num_any 0 w11) ?_
          refine WO_batch [7] [] [0, 3, 14, 24, 4] [(0, .slice A m c), (3, .int .i64 (k : Int)), (14, .bool true), (24, .bool false), (4, .int .i64 0)] (by kernel_rfl) ?_
          refine WO_endS ?_
          refine W_regS [0, 1, 2, 3, 4, 5, 6, 7, 8, 9, 10, 11, 12, 13, 14, 15, 16] (by kernel_rfl) ?_
          refine WO_batch [0, 1] [2, 3, 4, 5, 6, 7, 8, 9, 10, 11, 12, 13, 14, 15, 16] [0, 3, 14, 24, 4, 32, 33] [(0, .slice A m c), (3, .int .i64 (k : Int)), (14, .bool true), (24, .bool false), (4, .int .i64 0), (32, .slice A m c), (33, .int .i64 (k : Int))] (by kernel_rfl) ?_
          refine WO_of_one (by kernel_rfl) (One_indexN (i := 2) (t := 22) (ty := 0) (x := (Operand.tmp 32)) (y := (Operand.tmp 33)) (A := A) (a := ad) (len := m) (cap := c) (k := .i64) (j := k) (e := 34) (sz := 3) (by kernel_rfl) (by kernel_rfl) (by kernel_rfl) (by kernel_rfl) (by kernel_rfl) had (by omega) ?_)
          refine WO_batch [3] [4, 5, 6, 7, 8, 9, 10, 11, 12, 13, 14, 15, 16] [0, 3, 14, 24, 4, 35] [(0, .slice A m c), (3, .int .i64 (k : Int)), (14, .bool true), (24, .bool false), (4, .int .i64 0), (35, .pointer (some ((ad.add (k * 3)).add 2)))] (by kernel_rfl) ?_
          refine WO_of_one (by kernel_rfl) (One_load (t := 32) (ty := 32) (x := (Operand.tmp 35)) (a := (ad.add (k * 3)).add 2) (v := .agg #[.slice B n c2]) (by kernel_rfl) (by kernel_rfl) (run_loadOne (by kernel_rfl) (by kernel_rfl) (hS13.old (hcell 2 _ rfl) id)) ?_)
          refine WO_callB ((Op.call { callee := (Callee.value (Operand.func 35)), args := #[(Operand.tmp 36)], argTypes := #[32] }), 4) #[.agg #[.slice B n c2]] (.bool true) (by kernel_rfl) (by kernel_rfl) (by kernel_rfl) (rall_is (hB.keep hS13.ch) hW10) (fun w14 hc15 => ?_)
          have hS16 := hS13.keep hc15
          refine WO_batch [6, 7, 8, 9, 10, 11, 12, 13, 14, 15, 16] [] [0, 3, 14, 24, 4, 48] [(0, .slice A m c), (3, .int .i64 (k : Int)), (14, .bool true), (24, .bool false), (4, .int .i64 0), (48, .bool false)] (by kernel_rfl) ?_
          refine WO_endS ?_
          refine W_condF rfl rfl ?_
          refine W_skip ?_
          repeat (first | refine normal_block ?_ | refine normal_labels ?_)
          refine W_next ?_
          refine W_reg [0, 1, 2] (by kernel_rfl) ?_
          refine WO_batch [0, 1] [2] [0, 3, 14, 24, 4, 48, 16] [(0, .slice A m c), (3, .int .i64 (k : Int)), (14, .bool true), (24, .bool false), (4, .int .i64 0), (48, .bool false), (16, .int .i64 (IntKind.i64.wrap ((k : Int) + 1)))] (by kernel_rfl) ?_
          rw [wrap_i64 (n := (k : Int) + 1) (by omega)]
          refine WO_batch [2] [] [0, 14, 24, 4, 48, 3] [(0, .slice A m c), (14, .bool true), (24, .bool false), (4, .int .i64 0), (48, .bool false), (3, .int .i64 ((k : Int) + 1))] (by kernel_rfl) ?_
          refine WO_nil ?_
          repeat (first | refine normal_block ?_ | refine normal_labels ?_)
          refine normal_then (again (w := w14) (E := fun (k : Nat) => [(0, .slice A m c), (3, .int .i64 (k : Int))]) (I := fun (k : Nat) wl => k ≤ m ∧ St No w wl []) (μ := fun (k : Nat) => m - k) (s := k) (k + 1) ?_ ?_ ?_)
          · exact (Env.sub_cons rfl (Env.sub_cons rfl (Env.sub_nil _)))
          · exact ⟨by omega, hS16.sub (List.nil_sublist _)⟩
          · exact (by omega)
        · refine WO_of_one (by kernel_rfl) (One_load (t := 32) (ty := 32) (x := (Operand.tmp 28)) (a := (ad.add (k * 3)).add 2) (v := .agg #[.slice B n c2]) (by kernel_rfl) (by kernel_rfl) (run_loadOne (by kernel_rfl) (by kernel_rfl) (hS1.old (hcell 2 _ rfl) id)) ?_)
          refine WO_callB ((Op.call { callee := (Callee.value (Operand.func 34)), args := #[(Operand.tmp 29)], argTypes := #[32] }), 24) #[.agg #[.slice B n c2]] (.int .i64 1) (by kernel_rfl) (by kernel_rfl) (by kernel_rfl) (all_no (hB.keep hS1.ch) hn hW10) (fun w17 hc18 => ?_)
          have hS19 := hS1.keep hc18
          refine WO_callS ((Op.call { callee := (Callee.value (Operand.func 26)), args := #[(Operand.tmp 30)], argTypes := #[24] }), 3) #[.int .i64 1] (.int .i64 1) (by kernel_rfl) (by kernel_rfl) (by kernel_rfl) (num_any 1 w17) ?_
          refine WO_batch [7] [] [0, 3, 14, 24, 4] [(0, .slice A m c), (3, .int .i64 (k : Int)), (14, .bool true), (24, .bool false), (4, .int .i64 1)] (by kernel_rfl) ?_
          refine WO_endS ?_
          refine W_regS [0, 1, 2, 3, 4, 5, 6, 7, 8, 9, 10, 11, 12, 13, 14, 15, 16] (by kernel_rfl) ?_
          refine WO_batch [0, 1] [2, 3, 4, 5, 6, 7, 8, 9, 10, 11, 12, 13, 14, 15, 16] [0, 3, 14, 24, 4, 32, 33] [(0, .slice A m c), (3, .int .i64 (k : Int)), (14, .bool true), (24, .bool false), (4, .int .i64 1), (32, .slice A m c), (33, .int .i64 (k : Int))] (by kernel_rfl) ?_
          refine WO_of_one (by kernel_rfl) (One_indexN (i := 2) (t := 22) (ty := 0) (x := (Operand.tmp 32)) (y := (Operand.tmp 33)) (A := A) (a := ad) (len := m) (cap := c) (k := .i64) (j := k) (e := 34) (sz := 3) (by kernel_rfl) (by kernel_rfl) (by kernel_rfl) (by kernel_rfl) (by kernel_rfl) had (by omega) ?_)
          refine WO_batch [3] [4, 5, 6, 7, 8, 9, 10, 11, 12, 13, 14, 15, 16] [0, 3, 14, 24, 4, 35] [(0, .slice A m c), (3, .int .i64 (k : Int)), (14, .bool true), (24, .bool false), (4, .int .i64 1), (35, .pointer (some ((ad.add (k * 3)).add 2)))] (by kernel_rfl) ?_
          refine WO_of_one (by kernel_rfl) (One_load (t := 32) (ty := 32) (x := (Operand.tmp 35)) (a := (ad.add (k * 3)).add 2) (v := .agg #[.slice B n c2]) (by kernel_rfl) (by kernel_rfl) (run_loadOne (by kernel_rfl) (by kernel_rfl) (hS19.old (hcell 2 _ rfl) id)) ?_)
          refine WO_callB ((Op.call { callee := (Callee.value (Operand.func 35)), args := #[(Operand.tmp 36)], argTypes := #[32] }), 4) #[.agg #[.slice B n c2]] (.bool false) (by kernel_rfl) (by kernel_rfl) (by kernel_rfl) (rall_is (hB.keep hS19.ch) hW10) (fun w20 hc21 => ?_)
          have hS22 := hS19.keep hc21
          refine WO_batch [6, 7, 8, 9, 10, 11, 12, 13, 14, 15, 16] [] [0, 3, 14, 24, 4, 48] [(0, .slice A m c), (3, .int .i64 (k : Int)), (14, .bool true), (24, .bool false), (4, .int .i64 1), (48, .bool false)] (by kernel_rfl) ?_
          refine WO_endS ?_
          refine W_condF rfl rfl ?_
          refine W_skip ?_
          repeat (first | refine normal_block ?_ | refine normal_labels ?_)
          refine W_next ?_
          refine W_reg [0, 1, 2] (by kernel_rfl) ?_
          refine WO_batch [0, 1] [2] [0, 3, 14, 24, 4, 48, 16] [(0, .slice A m c), (3, .int .i64 (k : Int)), (14, .bool true), (24, .bool false), (4, .int .i64 1), (48, .bool false), (16, .int .i64 (IntKind.i64.wrap ((k : Int) + 1)))] (by kernel_rfl) ?_
          rw [wrap_i64 (n := (k : Int) + 1) (by omega)]
          refine WO_batch [2] [] [0, 14, 24, 4, 48, 3] [(0, .slice A m c), (14, .bool true), (24, .bool false), (4, .int .i64 1), (48, .bool false), (3, .int .i64 ((k : Int) + 1))] (by kernel_rfl) ?_
          refine WO_nil ?_
          repeat (first | refine normal_block ?_ | refine normal_labels ?_)
          refine normal_then (again (w := w20) (E := fun (k : Nat) => [(0, .slice A m c), (3, .int .i64 (k : Int))]) (I := fun (k : Nat) wl => k ≤ m ∧ St No w wl []) (μ := fun (k : Nat) => m - k) (s := k) (k + 1) ?_ ?_ ?_)
          · exact (Env.sub_cons rfl (Env.sub_cons rfl (Env.sub_nil _)))
          · exact ⟨by omega, hS22.sub (List.nil_sublist _)⟩
          · exact (by omega)
    · simp only [hb5]
      have h23 : ¬ ((k : Int) < 30) := by simpa using hb5
      refine W_exit ?_
      repeat (first | refine exit_then ?_ | refine exit_labels ?_)
      refine exit_in ?_
      repeat (first | refine normal_block ?_ | refine normal_labels ?_)
      refine W_next ?_
      refine W_regS [0, 1, 2, 3, 4, 5] (by kernel_rfl) ?_
      refine WO_callR ((Op.call { callee := (Callee.value (Operand.func 36)), args := #[], argTypes := #[] }), 32) #[] (by kernel_rfl) (by kernel_rfl) (by kernel_rfl) (plain_any w1) ?_
      rintro e w24 ⟨A25, cc26, rfl, hch, hrow, hfr⟩
      refine ⟨_, rfl, ?_⟩
      have hS27 := hS1.new hch _ hrow hfr
      clear hch hrow hfr
      refine WO_callR ((Op.call { callee := (Callee.value (Operand.func 36)), args := #[], argTypes := #[] }), 32) #[] (by kernel_rfl) (by kernel_rfl) (by kernel_rfl) (plain_any w24) ?_
      rintro e w28 ⟨A29, cc30, rfl, hch, hrow, hfr⟩
      refine ⟨_, rfl, ?_⟩
      have hS31 := hS27.new hch _ hrow hfr
      clear hch hrow hfr
      refine WO_of_one (by kernel_rfl) (One_new (x := ((Op.alloc 32), 0)) (t := 32) (cs := [.slice none 0 0]) (mk := fun r => .pointer (some ⟨r, 0, none⟩)) (by kernel_rfl) hS31 (fun r => by kernel_rfl) (fun g32 w33 hS34 hc35 => ?_))
      refine WO_of_one (by kernel_rfl) (One_new (x := ((Op.alloc 32), 0)) (t := 32) (cs := [.slice none 0 0]) (mk := fun r => .pointer (some ⟨r, 0, none⟩)) (by kernel_rfl) hS34 (fun r => by kernel_rfl) (fun g36 w37 hS38 hc39 => ?_))
      refine WO_of_one (by kernel_rfl) (One_store (i := 4) (c := 1) (g := g32) (o := 0) (t := 32) (t' := 32) (ty := 0) (x := (Operand.tmp 5)) (y := (Operand.tmp 49)) (cs := [.slice none 0 0]) (v := .agg #[.slice A25 19 cc26]) (by kernel_rfl) (by kernel_rfl) (by kernel_rfl) hS38 rfl (by kernel_rfl) (by simp [Value.cells]) (by kernel_rfl) (fun w40 hS41 hc42 => ?_))
      change St _ _ w40 [Blk g36 32 [.slice none 0 0], Blk g32 32 [.slice A25 19 cc26], Row 3 1 (.slice A29 19 cc30) 19 (plainTo 19), Row 3 1 (.slice A25 19 cc26) 19 (plainTo 19)] at hS41
      refine WO_of_one (by kernel_rfl) (One_store (i := 5) (c := 0) (g := g36) (o := 0) (t := 32) (t' := 32) (ty := 0) (x := (Operand.tmp 6)) (y := (Operand.tmp 50)) (cs := [.slice none 0 0]) (v := .agg #[.slice A29 19 cc30]) (by kernel_rfl) (by kernel_rfl) (by kernel_rfl) hS41 rfl (by kernel_rfl) (by simp [Value.cells]) (by kernel_rfl) (fun w43 hS44 hc45 => ?_))
      change St _ _ w43 [Blk g36 32 [.slice A29 19 cc30], Blk g32 32 [.slice A25 19 cc26], Row 3 1 (.slice A29 19 cc30) 19 (plainTo 19), Row 3 1 (.slice A25 19 cc26) 19 (plainTo 19)] at hS44
      refine WO_endS ?_
      refine W_seq ?_
      refine W_drawS (W_drawL [([], [5]), ([], []), ([0, 1], []), ([0, 1, 2], []), ([0, 1, 2, 3], []), ([0, 1, 2, 3, 4], [5]), ([0, 1, 2, 3, 4, 5], []), ([0, 1, 2, 3, 4, 5, 6], []), ([0, 1, 2, 3, 4, 5, 6, 7], []), ([0, 1, 2, 3, 4, 5, 6, 7, 8], []), ([9], [5, 6])] [Is (.agg #[.slice A25 19 cc26]), (fun vv wv => ∃ (A : Option Addr) (c : Nat), vv = .agg #[.slice A 19 c] ∧ Ints wv A 19 plainL), Is (.bool true), Is (.bool false), Is (.bool false), Is (.agg #[.slice A25 19 cc26]), Is (.int .i64 0), Is (.int .i64 0), Is (.bool false), Is (.bool false)] 10 (by kernel_rfl) (by kernel_rfl) (by kernel_rfl) ⟨Is.stab _, ⟨(fun _ _ _ ⟨A, c, h1, h2⟩ hr => ⟨A, c, h1, h2.keep hr⟩), ⟨Is.stab _, ⟨Is.stab _, ⟨Is.stab _, ⟨Is.stab _, ⟨Is.stab _, ⟨Is.stab _, ⟨Is.stab _, ⟨Is.stab _, trivial⟩⟩⟩⟩⟩⟩⟩⟩⟩⟩ ?_ ?_)
      · refine ⟨⟨⟨⟨⟨⟨⟨⟨⟨⟨trivial, ?_⟩, ?_⟩, ?_⟩, ?_⟩, ?_⟩, ?_⟩, ?_⟩, ?_⟩, ?_⟩, ?_⟩
        · intro vs wi hr hj
          refine One.env (L' := [(5, .pointer (some ⟨g32, 0, none⟩))]) (Env.sub_cons (by kernel_rfl) (Env.sub_nil _)) ?_
          have hS46 := hS44.drew.keep hr
          exact One_load (t := 32) (ty := 32) (x := (Operand.tmp 5)) (a := ⟨g32, 0, none⟩) (v := .agg #[.slice A25 19 cc26]) (by kernel_rfl) (by kernel_rfl) (run_loadBlkN (sub := [.slice A25 19 cc26]) (hS46.get (i := 1) rfl) (by kernel_rfl) (by kernel_rfl) rfl) ⟨rfl, Ch.refl _ _⟩
        · intro vs wi hr hj
          refine One.env (L' := []) (Env.sub_nil _) ?_
          exact One_call (x := ((Op.call { callee := (Callee.value (Operand.func 38)), args := #[], argTypes := #[] }), 32)) (f := 38) (args := #[]) (by kernel_rfl) (by kernel_rfl) (rplain_any wi) (fun e w2 hR => by obtain ⟨A, c, rfl, hch, hrow, _⟩ := hR; exact ⟨_, rfl, ⟨A, c, rfl, plainRow hrow⟩, hch⟩)
        · intro vs wi hr hj
          have e47 : vs 0 = .agg #[.slice A25 19 cc26] := hj 0 rfl
          obtain ⟨A3, c3, e48, hI3⟩ := hj 1 rfl
          refine One.env (L' := [(51, .agg #[.slice A25 19 cc26]), (52, .agg #[.slice A3 19 c3])]) (sub_vs (x := vs 0) (by kernel_rfl) e47 (sub_vs (x := vs 1) (by kernel_rfl) e48 (Env.sub_nil _))) ?_
          have hS49 := hS44.drew.keep hr
          exact One_callBD ((Op.call { callee := (Callee.value (Operand.func 37)), args := #[(Operand.tmp 51), (Operand.tmp 52)], argTypes := #[32, 32] }), 4) #[.agg #[.slice A25 19 cc26], .agg #[.slice A3 19 c3]] (.bool true) (by kernel_rfl) (by kernel_rfl) (eqs_same (plainRow (hS49.get (i := 3) rfl)) hI3)
        · intro vs wi hr hj
          have e50 : vs 2 = .bool true := hj 2 rfl
          refine One.env (L' := [(53, .bool true)]) (sub_vs (x := vs 2) (by kernel_rfl) e50 (Env.sub_nil _)) ?_
          exact One_pureD (v := .bool false) (by kernel_rfl)
        · intro vs wi hr hj
          have e51 : vs 3 = .bool false := hj 3 rfl
          refine One.env (L' := [(54, .bool false)]) (sub_vs (x := vs 3) (by kernel_rfl) e51 (Env.sub_nil _)) ?_
          exact One_pureD (v := .bool false) (by kernel_rfl)
        · intro vs wi hr hj
          have e52 : vs 4 = .bool false := hj 4 rfl
          refine One.env (L' := [(5, .pointer (some ⟨g32, 0, none⟩)), (55, .bool false)]) (Env.sub_cons (by kernel_rfl) (sub_vs (x := vs 4) (by kernel_rfl) e52 (Env.sub_nil _))) ?_
          have hS53 := hS44.drew.keep hr
          exact One_load (t := 32) (ty := 32) (x := (Operand.tmp 5)) (a := ⟨g32, 0, none⟩) (v := .agg #[.slice A25 19 cc26]) (by kernel_rfl) (by kernel_rfl) (run_loadBlkN (sub := [.slice A25 19 cc26]) (hS53.get (i := 1) rfl) (by kernel_rfl) (by kernel_rfl) rfl) ⟨rfl, Ch.refl _ _⟩
        · intro vs wi hr hj
          have e54 : vs 4 = .bool false := hj 4 rfl
          have e55 : vs 5 = .agg #[.slice A25 19 cc26] := hj 5 rfl
          refine One.env (L' := [(56, .agg #[.slice A25 19 cc26]), (55, .bool false)]) (sub_vs (x := vs 5) (by kernel_rfl) e55 (sub_vs (x := vs 4) (by kernel_rfl) e54 (Env.sub_nil _))) ?_
          have hS56 := hS44.drew.keep hr
          exact One_callBD ((Op.call { callee := (Callee.value (Operand.func 34)), args := #[(Operand.tmp 56)], argTypes := #[32] }), 24) #[.agg #[.slice A25 19 cc26]] (.int .i64 0) (by kernel_rfl) (by kernel_rfl) (all_yes (plainRow (hS56.get (i := 3) rfl)) (by omega) whole_plain)
        · intro vs wi hr hj
          have e57 : vs 4 = .bool false := hj 4 rfl
          have e58 : vs 6 = .int .i64 0 := hj 6 rfl
          refine One.env (L' := [(57, .int .i64 0), (55, .bool false)]) (sub_vs (x := vs 6) (by kernel_rfl) e58 (sub_vs (x := vs 4) (by kernel_rfl) e57 (Env.sub_nil _))) ?_
          exact One_callSD ((Op.call { callee := (Callee.value (Operand.func 26)), args := #[(Operand.tmp 57)], argTypes := #[24] }), 3) #[.int .i64 0] (.int .i64 0) (by kernel_rfl) (by kernel_rfl) (num_any 0 wi)
        · intro vs wi hr hj
          have e59 : vs 4 = .bool false := hj 4 rfl
          have e60 : vs 7 = .int .i64 0 := hj 7 rfl
          refine One.env (L' := [(58, .int .i64 0), (55, .bool false)]) (sub_vs (x := vs 7) (by kernel_rfl) e60 (sub_vs (x := vs 4) (by kernel_rfl) e59 (Env.sub_nil _))) ?_
          exact One_pureD (v := .bool false) (by kernel_rfl)
        · intro vs wi hr hj
          have e61 : vs 4 = .bool false := hj 4 rfl
          have e62 : vs 8 = .bool false := hj 8 rfl
          refine One.env (L' := [(59, .bool false), (55, .bool false)]) (sub_vs (x := vs 8) (by kernel_rfl) e62 (sub_vs (x := vs 4) (by kernel_rfl) e61 (Env.sub_nil _))) ?_
          exact One_pureD (v := .bool false) (by kernel_rfl)
      · intro vs w63 hr hj
        have e64 : vs 9 = .bool false := hj 9 (by decide)
        refine WO_sub (L' := [(5, .pointer (some ⟨g32, 0, none⟩)), (6, .pointer (some ⟨g36, 0, none⟩)), (60, .bool false)]) (Env.sub_cons (by kernel_rfl) (Env.sub_cons (by kernel_rfl) (sub_vs (x := vs 9) (by kernel_rfl) e64 (Env.sub_nil _)))) ?_
        have hS65 := hS44.drew.keep hr
        refine WO_endS ?_
        refine W_condF rfl rfl ?_
        refine W_skip ?_
        repeat (first | refine normal_block ?_ | refine normal_labels ?_)
        refine W_next ?_
        refine W_regS [0, 1, 2] (by kernel_rfl) ?_
        refine WO_batch [0] [1, 2] [6, 61] [(6, .pointer (some ⟨g36, 0, none⟩)), (61, .pointer (some ⟨g32, 0, none⟩))] (by kernel_rfl) ?_
        refine WO_of_one (by kernel_rfl) (One_load (t := 23) (ty := 23) (x := (Operand.tmp 61)) (a := ⟨g32, 0, none⟩) (v := .slice A25 19 cc26) (by kernel_rfl) (by kernel_rfl) (run_loadBlk1 (hS65.get (i := 1) rfl) (by kernel_rfl) rfl) ?_)
        refine WO_callR ((Op.call { callee := (Callee.value (Operand.func 39)), args := #[(Operand.tmp 62)], argTypes := #[23] }), 0) #[.slice A25 19 cc26] (by kernel_rfl) (by kernel_rfl) (by kernel_rfl) (numbers_any A25 19 cc26 (plainTo 19) w63 (hS65.get (i := 3) rfl) (by omega)) ?_
        rintro e w66 ⟨rfl, hch⟩
        refine ⟨_, rfl, ?_⟩
        have hS67 := St.lose hS65 (i := 3) rfl hch
        refine WO_endS ?_
        refine W_drawS (W_drawL [([], [6]), ([], []), ([0, 1], []), ([0, 1, 2], []), ([0, 1, 2, 3], []), ([0, 1, 2, 3, 4], []), ([0, 1, 2, 3, 4, 5], []), ([6], [])] [Is (.agg #[.slice A29 19 cc30]), (fun vv wv => ∃ (A : Option Addr) (c : Nat), vv = .agg #[.slice A 19 c] ∧ Ints wv A 19 plainL), Is (.bool true), Is (.bool true), Is (.bool true), Is (.bool true), Is (.bool true)] 7 (by kernel_rfl) (by kernel_rfl) (by kernel_rfl) ⟨Is.stab _, ⟨(fun _ _ _ ⟨A, c, h1, h2⟩ hr => ⟨A, c, h1, h2.keep hr⟩), ⟨Is.stab _, ⟨Is.stab _, ⟨Is.stab _, ⟨Is.stab _, ⟨Is.stab _, trivial⟩⟩⟩⟩⟩⟩⟩ ?_ ?_)
        · refine ⟨⟨⟨⟨⟨⟨⟨trivial, ?_⟩, ?_⟩, ?_⟩, ?_⟩, ?_⟩, ?_⟩, ?_⟩
          · intro vs wi hr hj
            refine One.env (L' := [(6, .pointer (some ⟨g36, 0, none⟩))]) (Env.sub_cons (by kernel_rfl) (Env.sub_nil _)) ?_
            have hS68 := hS67.drew.keep hr
            exact One_load (t := 32) (ty := 32) (x := (Operand.tmp 6)) (a := ⟨g36, 0, none⟩) (v := .agg #[.slice A29 19 cc30]) (by kernel_rfl) (by kernel_rfl) (run_loadBlkN (sub := [.slice A29 19 cc30]) (hS68.get (i := 0) rfl) (by kernel_rfl) (by kernel_rfl) rfl) ⟨rfl, Ch.refl _ _⟩
          · intro vs wi hr hj
            refine One.env (L' := []) (Env.sub_nil _) ?_
            exact One_call (x := ((Op.call { callee := (Callee.value (Operand.func 36)), args := #[], argTypes := #[] }), 32)) (f := 36) (args := #[]) (by kernel_rfl) (by kernel_rfl) (plain_any wi) (fun e w2 hR => by obtain ⟨A, c, rfl, hch, hrow, _⟩ := hR; exact ⟨_, rfl, ⟨A, c, rfl, plainRow hrow⟩, hch⟩)
          · intro vs wi hr hj
            have e69 : vs 0 = .agg #[.slice A29 19 cc30] := hj 0 rfl
            obtain ⟨A3, c3, e70, hI3⟩ := hj 1 rfl
            refine One.env (L' := [(64, .agg #[.slice A29 19 cc30]), (65, .agg #[.slice A3 19 c3])]) (sub_vs (x := vs 0) (by kernel_rfl) e69 (sub_vs (x := vs 1) (by kernel_rfl) e70 (Env.sub_nil _))) ?_
            have hS71 := hS67.drew.keep hr
            exact One_callBD ((Op.call { callee := (Callee.value (Operand.func 37)), args := #[(Operand.tmp 64), (Operand.tmp 65)], argTypes := #[32, 32] }), 4) #[.agg #[.slice A29 19 cc30], .agg #[.slice A3 19 c3]] (.bool true) (by kernel_rfl) (by kernel_rfl) (eqs_same (plainRow (hS71.get (i := 2) rfl)) hI3)
          · intro vs wi hr hj
            have e72 : vs 2 = .bool true := hj 2 rfl
            refine One.env (L' := [(66, .bool true)]) (sub_vs (x := vs 2) (by kernel_rfl) e72 (Env.sub_nil _)) ?_
            exact One_pureD (v := .bool true) (by kernel_rfl)
          · intro vs wi hr hj
            have e73 : vs 3 = .bool true := hj 3 rfl
            refine One.env (L' := [(67, .bool true)]) (sub_vs (x := vs 3) (by kernel_rfl) e73 (Env.sub_nil _)) ?_
            exact One_callBD ((Op.call { callee := (Callee.value (Operand.func 28)), args := #[], argTypes := #[] }), 4) #[] (.bool true) (by kernel_rfl) (by kernel_rfl) (wakes_any wi)
          · intro vs wi hr hj
            have e74 : vs 3 = .bool true := hj 3 rfl
            have e75 : vs 4 = .bool true := hj 4 rfl
            refine One.env (L' := [(67, .bool true), (68, .bool true)]) (sub_vs (x := vs 3) (by kernel_rfl) e74 (sub_vs (x := vs 4) (by kernel_rfl) e75 (Env.sub_nil _))) ?_
            exact One_pureD (v := .bool true) (by kernel_rfl)
          · intro vs wi hr hj
            have e76 : vs 5 = .bool true := hj 5 rfl
            refine One.env (L' := [(69, .bool true)]) (sub_vs (x := vs 5) (by kernel_rfl) e76 (Env.sub_nil _)) ?_
            exact One_pureD (v := .bool true) (by kernel_rfl)
        · intro vs w77 hr hj
          have e78 : vs 6 = .bool true := hj 6 (by decide)
          refine WO_sub (L' := [(2, .bool true)]) (sub_vs (x := vs 6) (by kernel_rfl) e78 (Env.sub_nil _)) ?_
          have hS79 := hS67.drew.keep hr
          refine WO_endS ?_
          refine W_ret ?_
          repeat (first | refine ret_then ?_ | refine ret_block ?_ | refine ret_labels ?_)
          refine ret_ (fn := Try.f5) (rs := [.tmp 2]) (vs := [.bool true]) rfl ?_ ?_
          · exact (.tmp rfl .nil)
          exact ⟨rfl, hS79.ch.below⟩
  · simp only [hb3]
    have h80 : ¬ ((k : Int) < (m : Int)) := by simpa using hb3
    refine WO_batch [5, 6, 7] [] [0, 3, 14] [(0, .slice A m c), (3, .int .i64 (k : Int)), (14, .bool false)] (by kernel_rfl) ?_
    refine WO_endS ?_
    refine W_condF rfl rfl ?_
    refine W_exit ?_
    repeat (first | refine exit_then ?_ | refine exit_labels ?_)
    refine exit_in ?_
    repeat (first | refine normal_block ?_ | refine normal_labels ?_)
    refine W_next ?_
    refine W_regS [0, 1, 2, 3, 4, 5] (by kernel_rfl) ?_
    refine WO_callR ((Op.call { callee := (Callee.value (Operand.func 36)), args := #[], argTypes := #[] }), 32) #[] (by kernel_rfl) (by kernel_rfl) (by kernel_rfl) (plain_any w1) ?_
    rintro e w81 ⟨A82, cc83, rfl, hch, hrow, hfr⟩
    refine ⟨_, rfl, ?_⟩
    have hS84 := hS1.new hch _ hrow hfr
    clear hch hrow hfr
    refine WO_callR ((Op.call { callee := (Callee.value (Operand.func 36)), args := #[], argTypes := #[] }), 32) #[] (by kernel_rfl) (by kernel_rfl) (by kernel_rfl) (plain_any w81) ?_
    rintro e w85 ⟨A86, cc87, rfl, hch, hrow, hfr⟩
    refine ⟨_, rfl, ?_⟩
    have hS88 := hS84.new hch _ hrow hfr
    clear hch hrow hfr
    refine WO_of_one (by kernel_rfl) (One_new (x := ((Op.alloc 32), 0)) (t := 32) (cs := [.slice none 0 0]) (mk := fun r => .pointer (some ⟨r, 0, none⟩)) (by kernel_rfl) hS88 (fun r => by kernel_rfl) (fun g89 w90 hS91 hc92 => ?_))
    refine WO_of_one (by kernel_rfl) (One_new (x := ((Op.alloc 32), 0)) (t := 32) (cs := [.slice none 0 0]) (mk := fun r => .pointer (some ⟨r, 0, none⟩)) (by kernel_rfl) hS91 (fun r => by kernel_rfl) (fun g93 w94 hS95 hc96 => ?_))
    refine WO_of_one (by kernel_rfl) (One_store (i := 4) (c := 1) (g := g89) (o := 0) (t := 32) (t' := 32) (ty := 0) (x := (Operand.tmp 5)) (y := (Operand.tmp 49)) (cs := [.slice none 0 0]) (v := .agg #[.slice A82 19 cc83]) (by kernel_rfl) (by kernel_rfl) (by kernel_rfl) hS95 rfl (by kernel_rfl) (by simp [Value.cells]) (by kernel_rfl) (fun w97 hS98 hc99 => ?_))
    change St _ _ w97 [Blk g93 32 [.slice none 0 0], Blk g89 32 [.slice A82 19 cc83], Row 3 1 (.slice A86 19 cc87) 19 (plainTo 19), Row 3 1 (.slice A82 19 cc83) 19 (plainTo 19)] at hS98
    refine WO_of_one (by kernel_rfl) (One_store (i := 5) (c := 0) (g := g93) (o := 0) (t := 32) (t' := 32) (ty := 0) (x := (Operand.tmp 6)) (y := (Operand.tmp 50)) (cs := [.slice none 0 0]) (v := .agg #[.slice A86 19 cc87]) (by kernel_rfl) (by kernel_rfl) (by kernel_rfl) hS98 rfl (by kernel_rfl) (by simp [Value.cells]) (by kernel_rfl) (fun w100 hS101 hc102 => ?_))
    change St _ _ w100 [Blk g93 32 [.slice A86 19 cc87], Blk g89 32 [.slice A82 19 cc83], Row 3 1 (.slice A86 19 cc87) 19 (plainTo 19), Row 3 1 (.slice A82 19 cc83) 19 (plainTo 19)] at hS101
    refine WO_endS ?_
    refine W_seq ?_
    refine W_drawS (W_drawL [([], [5]), ([], []), ([0, 1], []), ([0, 1, 2], []), ([0, 1, 2, 3], []), ([0, 1, 2, 3, 4], [5]), ([0, 1, 2, 3, 4, 5], []), ([0, 1, 2, 3, 4, 5, 6], []), ([0, 1, 2, 3, 4, 5, 6, 7], []), ([0, 1, 2, 3, 4, 5, 6, 7, 8], []), ([9], [5, 6])] [Is (.agg #[.slice A82 19 cc83]), (fun vv wv => ∃ (A : Option Addr) (c : Nat), vv = .agg #[.slice A 19 c] ∧ Ints wv A 19 plainL), Is (.bool true), Is (.bool false), Is (.bool false), Is (.agg #[.slice A82 19 cc83]), Is (.int .i64 0), Is (.int .i64 0), Is (.bool false), Is (.bool false)] 10 (by kernel_rfl) (by kernel_rfl) (by kernel_rfl) ⟨Is.stab _, ⟨(fun _ _ _ ⟨A, c, h1, h2⟩ hr => ⟨A, c, h1, h2.keep hr⟩), ⟨Is.stab _, ⟨Is.stab _, ⟨Is.stab _, ⟨Is.stab _, ⟨Is.stab _, ⟨Is.stab _, ⟨Is.stab _, ⟨Is.stab _, trivial⟩⟩⟩⟩⟩⟩⟩⟩⟩⟩ ?_ ?_)
    · refine ⟨⟨⟨⟨⟨⟨⟨⟨⟨⟨trivial, ?_⟩, ?_⟩, ?_⟩, ?_⟩, ?_⟩, ?_⟩, ?_⟩, ?_⟩, ?_⟩, ?_⟩
      · intro vs wi hr hj
        refine One.env (L' := [(5, .pointer (some ⟨g89, 0, none⟩))]) (Env.sub_cons (by kernel_rfl) (Env.sub_nil _)) ?_
        have hS103 := hS101.drew.keep hr
        exact One_load (t := 32) (ty := 32) (x := (Operand.tmp 5)) (a := ⟨g89, 0, none⟩) (v := .agg #[.slice A82 19 cc83]) (by kernel_rfl) (by kernel_rfl) (run_loadBlkN (sub := [.slice A82 19 cc83]) (hS103.get (i := 1) rfl) (by kernel_rfl) (by kernel_rfl) rfl) ⟨rfl, Ch.refl _ _⟩
      · intro vs wi hr hj
        refine One.env (L' := []) (Env.sub_nil _) ?_
        exact One_call (x := ((Op.call { callee := (Callee.value (Operand.func 38)), args := #[], argTypes := #[] }), 32)) (f := 38) (args := #[]) (by kernel_rfl) (by kernel_rfl) (rplain_any wi) (fun e w2 hR => by obtain ⟨A, c, rfl, hch, hrow, _⟩ := hR; exact ⟨_, rfl, ⟨A, c, rfl, plainRow hrow⟩, hch⟩)
      · intro vs wi hr hj
        have e104 : vs 0 = .agg #[.slice A82 19 cc83] := hj 0 rfl
        obtain ⟨A3, c3, e105, hI3⟩ := hj 1 rfl
        refine One.env (L' := [(51, .agg #[.slice A82 19 cc83]), (52, .agg #[.slice A3 19 c3])]) (sub_vs (x := vs 0) (by kernel_rfl) e104 (sub_vs (x := vs 1) (by kernel_rfl) e105 (Env.sub_nil _))) ?_
        have hS106 := hS101.drew.keep hr
        exact One_callBD ((Op.call { callee := (Callee.value (Operand.func 37)), args := #[(Operand.tmp 51), (Operand.tmp 52)], argTypes := #[32, 32] }), 4) #[.agg #[.slice A82 19 cc83], .agg #[.slice A3 19 c3]] (.bool true) (by kernel_rfl) (by kernel_rfl) (eqs_same (plainRow (hS106.get (i := 3) rfl)) hI3)
      · intro vs wi hr hj
        have e107 : vs 2 = .bool true := hj 2 rfl
        refine One.env (L' := [(53, .bool true)]) (sub_vs (x := vs 2) (by kernel_rfl) e107 (Env.sub_nil _)) ?_
        exact One_pureD (v := .bool false) (by kernel_rfl)
      · intro vs wi hr hj
        have e108 : vs 3 = .bool false := hj 3 rfl
        refine One.env (L' := [(54, .bool false)]) (sub_vs (x := vs 3) (by kernel_rfl) e108 (Env.sub_nil _)) ?_
        exact One_pureD (v := .bool false) (by kernel_rfl)
      · intro vs wi hr hj
        have e109 : vs 4 = .bool false := hj 4 rfl
        refine One.env (L' := [(5, .pointer (some ⟨g89, 0, none⟩)), (55, .bool false)]) (Env.sub_cons (by kernel_rfl) (sub_vs (x := vs 4) (by kernel_rfl) e109 (Env.sub_nil _))) ?_
        have hS110 := hS101.drew.keep hr
        exact One_load (t := 32) (ty := 32) (x := (Operand.tmp 5)) (a := ⟨g89, 0, none⟩) (v := .agg #[.slice A82 19 cc83]) (by kernel_rfl) (by kernel_rfl) (run_loadBlkN (sub := [.slice A82 19 cc83]) (hS110.get (i := 1) rfl) (by kernel_rfl) (by kernel_rfl) rfl) ⟨rfl, Ch.refl _ _⟩
      · intro vs wi hr hj
        have e111 : vs 4 = .bool false := hj 4 rfl
        have e112 : vs 5 = .agg #[.slice A82 19 cc83] := hj 5 rfl
        refine One.env (L' := [(56, .agg #[.slice A82 19 cc83]), (55, .bool false)]) (sub_vs (x := vs 5) (by kernel_rfl) e112 (sub_vs (x := vs 4) (by kernel_rfl) e111 (Env.sub_nil _))) ?_
        have hS113 := hS101.drew.keep hr
        exact One_callBD ((Op.call { callee := (Callee.value (Operand.func 34)), args := #[(Operand.tmp 56)], argTypes := #[32] }), 24) #[.agg #[.slice A82 19 cc83]] (.int .i64 0) (by kernel_rfl) (by kernel_rfl) (all_yes (plainRow (hS113.get (i := 3) rfl)) (by omega) whole_plain)
      · intro vs wi hr hj
        have e114 : vs 4 = .bool false := hj 4 rfl
        have e115 : vs 6 = .int .i64 0 := hj 6 rfl
        refine One.env (L' := [(57, .int .i64 0), (55, .bool false)]) (sub_vs (x := vs 6) (by kernel_rfl) e115 (sub_vs (x := vs 4) (by kernel_rfl) e114 (Env.sub_nil _))) ?_
        exact One_callSD ((Op.call { callee := (Callee.value (Operand.func 26)), args := #[(Operand.tmp 57)], argTypes := #[24] }), 3) #[.int .i64 0] (.int .i64 0) (by kernel_rfl) (by kernel_rfl) (num_any 0 wi)
      · intro vs wi hr hj
        have e116 : vs 4 = .bool false := hj 4 rfl
        have e117 : vs 7 = .int .i64 0 := hj 7 rfl
        refine One.env (L' := [(58, .int .i64 0), (55, .bool false)]) (sub_vs (x := vs 7) (by kernel_rfl) e117 (sub_vs (x := vs 4) (by kernel_rfl) e116 (Env.sub_nil _))) ?_
        exact One_pureD (v := .bool false) (by kernel_rfl)
      · intro vs wi hr hj
        have e118 : vs 4 = .bool false := hj 4 rfl
        have e119 : vs 8 = .bool false := hj 8 rfl
        refine One.env (L' := [(59, .bool false), (55, .bool false)]) (sub_vs (x := vs 8) (by kernel_rfl) e119 (sub_vs (x := vs 4) (by kernel_rfl) e118 (Env.sub_nil _))) ?_
        exact One_pureD (v := .bool false) (by kernel_rfl)
    · intro vs w120 hr hj
      have e121 : vs 9 = .bool false := hj 9 (by decide)
      refine WO_sub (L' := [(5, .pointer (some ⟨g89, 0, none⟩)), (6, .pointer (some ⟨g93, 0, none⟩)), (60, .bool false)]) (Env.sub_cons (by kernel_rfl) (Env.sub_cons (by kernel_rfl) (sub_vs (x := vs 9) (by kernel_rfl) e121 (Env.sub_nil _)))) ?_
      have hS122 := hS101.drew.keep hr
      refine WO_endS ?_
      refine W_condF rfl rfl ?_
      refine W_skip ?_
      repeat (first | refine normal_block ?_ | refine normal_labels ?_)
      refine W_next ?_
      refine W_regS [0, 1, 2] (by kernel_rfl) ?_
      refine WO_batch [0] [1, 2] [6, 61] [(6, .pointer (some ⟨g93, 0, none⟩)), (61, .pointer (some ⟨g89, 0, none⟩))] (by kernel_rfl) ?_
      refine WO_of_one (by kernel_rfl) (One_load (t := 23) (ty := 23) (x := (Operand.tmp 61)) (a := ⟨g89, 0, none⟩) (v := .slice A82 19 cc83) (by kernel_rfl) (by kernel_rfl) (run_loadBlk1 (hS122.get (i := 1) rfl) (by kernel_rfl) rfl) ?_)
      refine WO_callR ((Op.call { callee := (Callee.value (Operand.func 39)), args := #[(Operand.tmp 62)], argTypes := #[23] }), 0) #[.slice A82 19 cc83] (by kernel_rfl) (by kernel_rfl) (by kernel_rfl) (numbers_any A82 19 cc83 (plainTo 19) w120 (hS122.get (i := 3) rfl) (by omega)) ?_
      rintro e w123 ⟨rfl, hch⟩
      refine ⟨_, rfl, ?_⟩
      have hS124 := St.lose hS122 (i := 3) rfl hch
      refine WO_endS ?_
      refine W_drawS (W_drawL [([], [6]), ([], []), ([0, 1], []), ([0, 1, 2], []), ([0, 1, 2, 3], []), ([0, 1, 2, 3, 4], []), ([0, 1, 2, 3, 4, 5], []), ([6], [])] [Is (.agg #[.slice A86 19 cc87]), (fun vv wv => ∃ (A : Option Addr) (c : Nat), vv = .agg #[.slice A 19 c] ∧ Ints wv A 19 plainL), Is (.bool true), Is (.bool true), Is (.bool true), Is (.bool true), Is (.bool true)] 7 (by kernel_rfl) (by kernel_rfl) (by kernel_rfl) ⟨Is.stab _, ⟨(fun _ _ _ ⟨A, c, h1, h2⟩ hr => ⟨A, c, h1, h2.keep hr⟩), ⟨Is.stab _, ⟨Is.stab _, ⟨Is.stab _, ⟨Is.stab _, ⟨Is.stab _, trivial⟩⟩⟩⟩⟩⟩⟩ ?_ ?_)
      · refine ⟨⟨⟨⟨⟨⟨⟨trivial, ?_⟩, ?_⟩, ?_⟩, ?_⟩, ?_⟩, ?_⟩, ?_⟩
        · intro vs wi hr hj
          refine One.env (L' := [(6, .pointer (some ⟨g93, 0, none⟩))]) (Env.sub_cons (by kernel_rfl) (Env.sub_nil _)) ?_
          have hS125 := hS124.drew.keep hr
          exact One_load (t := 32) (ty := 32) (x := (Operand.tmp 6)) (a := ⟨g93, 0, none⟩) (v := .agg #[.slice A86 19 cc87]) (by kernel_rfl) (by kernel_rfl) (run_loadBlkN (sub := [.slice A86 19 cc87]) (hS125.get (i := 0) rfl) (by kernel_rfl) (by kernel_rfl) rfl) ⟨rfl, Ch.refl _ _⟩
        · intro vs wi hr hj
          refine One.env (L' := []) (Env.sub_nil _) ?_
          exact One_call (x := ((Op.call { callee := (Callee.value (Operand.func 36)), args := #[], argTypes := #[] }), 32)) (f := 36) (args := #[]) (by kernel_rfl) (by kernel_rfl) (plain_any wi) (fun e w2 hR => by obtain ⟨A, c, rfl, hch, hrow, _⟩ := hR; exact ⟨_, rfl, ⟨A, c, rfl, plainRow hrow⟩, hch⟩)
        · intro vs wi hr hj
          have e126 : vs 0 = .agg #[.slice A86 19 cc87] := hj 0 rfl
          obtain ⟨A3, c3, e127, hI3⟩ := hj 1 rfl
          refine One.env (L' := [(64, .agg #[.slice A86 19 cc87]), (65, .agg #[.slice A3 19 c3])]) (sub_vs (x := vs 0) (by kernel_rfl) e126 (sub_vs (x := vs 1) (by kernel_rfl) e127 (Env.sub_nil _))) ?_
          have hS128 := hS124.drew.keep hr
          exact One_callBD ((Op.call { callee := (Callee.value (Operand.func 37)), args := #[(Operand.tmp 64), (Operand.tmp 65)], argTypes := #[32, 32] }), 4) #[.agg #[.slice A86 19 cc87], .agg #[.slice A3 19 c3]] (.bool true) (by kernel_rfl) (by kernel_rfl) (eqs_same (plainRow (hS128.get (i := 2) rfl)) hI3)
        · intro vs wi hr hj
          have e129 : vs 2 = .bool true := hj 2 rfl
          refine One.env (L' := [(66, .bool true)]) (sub_vs (x := vs 2) (by kernel_rfl) e129 (Env.sub_nil _)) ?_
          exact One_pureD (v := .bool true) (by kernel_rfl)
        · intro vs wi hr hj
          have e130 : vs 3 = .bool true := hj 3 rfl
          refine One.env (L' := [(67, .bool true)]) (sub_vs (x := vs 3) (by kernel_rfl) e130 (Env.sub_nil _)) ?_
          exact One_callBD ((Op.call { callee := (Callee.value (Operand.func 28)), args := #[], argTypes := #[] }), 4) #[] (.bool true) (by kernel_rfl) (by kernel_rfl) (wakes_any wi)
        · intro vs wi hr hj
          have e131 : vs 3 = .bool true := hj 3 rfl
          have e132 : vs 4 = .bool true := hj 4 rfl
          refine One.env (L' := [(67, .bool true), (68, .bool true)]) (sub_vs (x := vs 3) (by kernel_rfl) e131 (sub_vs (x := vs 4) (by kernel_rfl) e132 (Env.sub_nil _))) ?_
          exact One_pureD (v := .bool true) (by kernel_rfl)
        · intro vs wi hr hj
          have e133 : vs 5 = .bool true := hj 5 rfl
          refine One.env (L' := [(69, .bool true)]) (sub_vs (x := vs 5) (by kernel_rfl) e133 (Env.sub_nil _)) ?_
          exact One_pureD (v := .bool true) (by kernel_rfl)
      · intro vs w134 hr hj
        have e135 : vs 6 = .bool true := hj 6 (by decide)
        refine WO_sub (L' := [(2, .bool true)]) (sub_vs (x := vs 6) (by kernel_rfl) e135 (Env.sub_nil _)) ?_
        have hS136 := hS124.drew.keep hr
        refine WO_endS ?_
        refine W_ret ?_
        repeat (first | refine ret_then ?_ | refine ret_block ?_ | refine ret_labels ?_)
        refine ret_ (fn := Try.f5) (rs := [.tmp 2]) (vs := [.bool true]) rfl ?_ ?_
        · exact (.tmp rfl .nil)
        exact ⟨rfl, hS136.ch.below⟩

set_option maxRecDepth 100000 in
theorem lifted (os : Os) (started : os.Started) (H : Type) (enc : TypeId × Value → H) :
    ReturnsInHanded {} Try.checked os 5 .any (Rows.propStylesSpec.pre6 enc Try.prog Try.f5 Rows.propStylesRow.domain false) (Rows.propStylesSpec.post enc Try.prog Try.f5 false true false false) := by
  refine returnsInHanded_of_change (C := Try.checked) own started (by kernel_rfl) Try.func5
    (ChangeSpec.witness6 (enc := enc) (C := Try.checked) false ⟨#[], #[.slice none 0 0], []⟩ 8 (by kernel_rfl) (by kernel_rfl) (by kernel_rfl) (by kernel_rfl)) ?_
  intro W base args ds gs before hval0 hW hcnd _
  have hval : ∀ (j : Nat) t v, Try.f5.params[j]? = some t → args[j]? = some v → Value.okWide Try.prog W .any base t v := hval0
  have hW' := hW
  obtain ⟨p, q, hA0, hV, rfl, hfz, hnd⟩ := hW
  have hA : DataW.TrodAll enc Try.prog W 0 (fun _ => true) true Try.f5.params.toList args.toList ds p := hA0
  rw [Try.params5] at hA hval
  obtain ⟨v0, vs0, d0, ds0, p0, q0, hargs, rfl, rfl, h0, r0⟩ := trodAll_cons hA
  obtain ⟨rfl, rfl, rfl⟩ := trodAll_nil r0
  obtain rfl : args = #[v0] := by cases args; simp_all
  obtain ⟨rfl, rfl⟩ := trodVars_none hV
  obtain ⟨a0, len0, cap0, rfl⟩ := okWide_slice Try.underlying22 (hval 0 22 v0 rfl rfl)
  have k0 := h0
  have lt0 : ∀ x ∈ p0, x.block < W.heap.size := by obtain ⟨m, hm⟩ := k0; exact DataW.trod_lt m _ _ _ hm
  obtain ⟨fuel, hf⟩ := h0
  obtain ⟨hask, hlen⟩ := asks_of (by simpa [Value.cells] using hf)
  clear hA0 hval0
  refine (law_any a0 len0 cap0 W hask hlen).mono fun e W' ⟨he, bel⟩ => ?_
  subst he
  exact ⟨_, rfl, _, _, _, [], _, [], hW', trodAll_mk1 (shut_bool Try.underlying4 _), (trodAll_mk1 (Below.trod laidOut (by kernel_rfl) (of_decide_eq_true (by kernel_rfl)) k0 bel lt0)), rfl, bel.frame _, fun h => by cases h⟩

end PropStyles
open PropStyles in
theorem propStyles_holds : Rows.PropStylesSaid :=
  OpenClaim.holds_of_wide 5 Try.f5 rfl rfl rfl rfl rfl rfl rfl ⟨rfl, rfl, rfl, rfl, rfl⟩ rfl rfl rfl rfl rfl (by kernel_rfl) Try.func5 (by kernel_rfl)
    (of_decide_eq_true (by kernel_rfl)) (by unfold Func.isWrapper; rw [if_neg (of_decide_eq_false (by kernel_rfl))]; exact ⟨rfl, rfl⟩)
    (fun os started H enc _ => lifted os started H enc)
#print axioms propStyles_holds
end Go.Proofs.Ytfgfoocmiflnmaa
