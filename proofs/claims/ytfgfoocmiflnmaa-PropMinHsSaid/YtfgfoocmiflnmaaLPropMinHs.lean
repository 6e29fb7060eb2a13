/- PropMinHs: whatever the slice of asks that comes in (any that can be read), the law returns true, and the slice reads behind the call as it read before. No condition. -/
import Derived.Test.YtfgfoocmiflnmaaMyG
namespace Go.Proofs.Ytfgfoocmiflnmaa
open Go.ChangeShapes Go.WideShapes Go.ChangeAt Go.RowKit Go.Deep Go.Arr My
namespace PropMinHs
theorem law_any (A : Option Addr) (m c : Nat) (w : World) (hA : Asks w A m) (hm : m ≤ 9223372036854775807) : Calls Try.prog 13 #[.slice A m c] w fun e w' => e = .returned (.bool true) ∧ Below w.heap.size w w' := by
  have hS0 := St.start No w
  refine Calls_of (fn := Try.f13) (args := [.slice A m c]) Try.func13 rfl rfl ?_
  refine W_regS [0] (by kernel_rfl) ?_
  refine WO_batch [0] [] [0, 2] [(0, .slice A m c), (2, .bool false)] (by kernel_rfl) ?_
  refine WO_endS ?_
  refine W_regS [0, 1, 2] (by kernel_rfl) ?_
  refine WO_batch [0] [1, 2] [2, 3] [(2, .bool false), (3, .slice A m c)] (by kernel_rfl) ?_
  refine WO_callB ((Op.call { callee := (Callee.value (Operand.func 40)), args := #[(Operand.tmp 3), (Operand.const (Value.int IntKind.i64 7))], argTypes := #[22, 3] }), 4) #[.slice A m c, .int .i64 7] (.bool true) (by kernel_rfl) (by kernel_rfl) (by kernel_rfl) (one_any A m c 7 w (hA.keep hS0.ch) hm (by omega)) (fun w1 hc2 => ?_)
  have hS3 := hS0.keep hc2
  refine WO_batch [2] [] [2] [(2, .bool true)] (by kernel_rfl) ?_
  refine WO_endS ?_
  refine W_ret ?_
  repeat (first | refine ret_then ?_ | refine ret_block ?_ | refine ret_labels ?_)
  refine ret_ (fn := Try.f13) (rs := [.tmp 2]) (vs := [.bool true]) rfl ?_ ?_
  · exact (.tmp rfl .nil)
  exact ⟨rfl, hS3.ch.below⟩

set_option maxRecDepth 100000 in
theorem lifted (os : Os) (started : os.Started) (H : Type) (enc : TypeId × Value → H) :
    ReturnsInHanded {} Try.checked os 13 .any (Rows.propMinHsSpec.pre6 enc Try.prog Try.f13 Rows.propMinHsRow.domain false) (Rows.propMinHsSpec.post enc Try.prog Try.f13 false true false false) := by
  refine returnsInHanded_of_change (C := Try.checked) own started (by kernel_rfl) Try.func13
    (ChangeSpec.witness6 (enc := enc) (C := Try.checked) false ⟨#[], #[.slice none 0 0], []⟩ 8 (by kernel_rfl) (by kernel_rfl) (by kernel_rfl) (by kernel_rfl)) ?_
  intro W base args ds gs before hval0 hW hcnd _
  have hval : ∀ (j : Nat) t v, Try.f13.params[j]? = some t → args[j]? = some v → Value.okWide Try.prog W .any base t v := hval0
  have hW' := hW
  obtain ⟨p, q, hA0, hV, rfl, hfz, hnd⟩ := hW
  have hA : DataW.TrodAll enc Try.prog W 0 (fun _ => true) true Try.f13.params.toList args.toList ds p := hA0
  rw [Try.params13] at hA hval
  obtain ⟨v0, vs0, d0, ds0, p0, q0, hargs, rfl, rfl, h0, r0⟩ := trodAll_cons hA
  obtain ⟨rfl, rfl, rfl⟩ := trodAll_nil r0
  obtain rfl : args = #[v0] := by cases args; simp_all
  obtain ⟨rfl, rfl⟩ := trodVars_none hV
  obtain ⟨a0, len0, cap0, rfl⟩ := okWide_slice Try.underlying22 (hval 0 22 v0 rfl rfl)
  have k0 := h0
  have lt0 : ∀ x ∈ p0, x.block < W.heap.size := by obtain ⟨m, hm⟩ := k0; exact DataW.trod_lt m _ _ _ hm
  obtain ⟨fuel, hf⟩ := h0
  obtain ⟨hask, hlen⟩ := asks_of (by simpa [Value.cells] using hf)
  clear hA0 hval0
  refine (law_any a0 len0 cap0 W hask hlen).mono fun e W' ⟨he, bel⟩ => ?_
  subst he
  exact ⟨_, rfl, _, _, _, [], _, [], hW', trodAll_mk1 (shut_bool Try.underlying4 _), (trodAll_mk1 (Below.trod laidOut (by kernel_rfl) (of_decide_eq_true (by kernel_rfl)) k0 bel lt0)), rfl, bel.frame _, fun h => by cases h⟩

end PropMinHs
open PropMinHs in
theorem propMinHs_holds : Rows.PropMinHsSaid :=
  OpenClaim.holds_of_wide 13 Try.f13 rfl rfl rfl rfl rfl rfl rfl ⟨rfl, rfl, rfl, rfl, rfl⟩ rfl rfl rfl rfl rfl (by kernel_rfl) Try.func13 (by kernel_rfl)
    (of_decide_eq_true (by kernel_rfl)) (by unfold Func.isWrapper; rw [if_neg (of_decide_eq_false (by kernel_rfl))]; exact ⟨rfl, rfl⟩)
    (fun os started H enc _ => lifted os started H enc)
#print axioms propMinHs_holds
end Go.Proofs.Ytfgfoocmiflnmaa
