/- THE ENGINE, part 2: one operation at a time, in whatever order; memory as chunks that do not meet. Nothing of a program stands here. -/
import Derived.Test.YtfgfoocmiflnmaaMyE1
import Derived.Laws.Cells
import Derived.Laws.AppendOwn
import Derived.Laws.Entries
import Derived.Laws.Tables
import Derived.ChangeKeysEq
import Derived.OneCell
namespace Go.Arr
open Go.RowKit
variable {P : Program} {n : Nat} {ops : Array Oper} {Q : Exit → Act → World → Prop} {w : World} {L : Env}

def dstOf (ops : Array Oper) (i : Nat) : Option Nat := (ops[i]?).bind (·.dst)
def dstOk (n : Nat) (ops : Array Oper) (i : Nat) : Bool := match dstOf ops i with | some d => Nat.blt d n | none => true

/-- Operation i, from the slots of L: whatever it yields, and the world then, meet Post. -/
def One (P : Program) (n : Nat) (ops : Array Oper) (Q : Exit → Act → World → Prop) (i : Nat) (L : Env) (w : World) (Post : Value → World → Prop) : Prop :=
  ∀ a, Fr n L a → ∀ K : Act → World → Prop, (∀ v w', Post v w' → K (a.put (dstOf ops i) v) w') → wpOp P ops Q i K a w

theorem One.mono {i : Nat} {Post Post' : Value → World → Prop} (h : One P n ops Q i L w Post) (hp : ∀ v w', Post v w' → Post' v w') : One P n ops Q i L w Post' :=
  fun a ha K hK => h a ha K fun v w' hv => hK v w' (hp v w' hv)

theorem WO_one {i : Nat} {is : List Nat} {Post : Value → World → Prop} (hd : dstOk n ops i = true) (h : One P n ops Q i L w Post) (hk : ∀ v w', Post v w' → WO P n ops is (L.put (dstOf ops i) v) Q w') : WO P n ops (i :: is) L Q w := by
  intro a ha
  rw [wpOps_cons]
  refine h a ha _ fun v w' hv => hk v w' hv _ (ha.put (fun t ht => ?_) v)
  unfold dstOk at hd
  rw [ht] at hd
  exact Nat.lt_of_lt_of_le (Nat.le_of_ble_eq_true hd) (Nat.le_refl _)

/-- The operation, if its guard lets it run and all that it names is known. -/
def opOf (ops : Array Oper) (L : Env) (i : Nat) : Option (Op × TypeId) :=
  match ops[i]? with
  | some o => match wantedL ops L o with
    | some true => bif L.hasAll o then some (o.op, o.type) else none
    | _ => none
  | none => none

theorem execOp_same (ρ : Operand → Value) (o : Oper) : execOp ρ o = execOp ρ { dst := none, op := o.op, type := o.type, pos := "", after := #[], guard := none } := rfl
/-- The operation alone. -/
def ex (L : Env) (x : Op × TypeId) : Sem Next := execOp L.ev { dst := none, op := x.1, type := x.2, pos := "", after := #[], guard := none }

theorem opOf_some {i : Nat} {x : Op × TypeId} (h : opOf ops L i = some x) : ∃ o, ops[i]? = some o ∧ wantedL ops L o = some true ∧ L.hasAll o = true ∧ execOp L.ev o = ex L x := by
  unfold opOf at h
  cases ho : ops[i]? with
  | none => rw [ho] at h; cases h
  | some o =>
    rw [ho] at h
    simp only at h
    cases hw : wantedL ops L o with
    | none => rw [hw] at h; cases h
    | some b =>
      rw [hw] at h
      cases b with
      | false => cases h
      | true =>
        simp only at h
        cases hA : L.hasAll o with
        | false => rw [hA] at h; cases h
        | true =>
          rw [hA] at h
          simp only [cond_true, Option.some.injEq] at h
          subst h
          exact ⟨o, rfl, hw, hA, rfl⟩

theorem One_run {i : Nat} {x : Op × TypeId} {v : Value} {w' : World} {Post : Value → World → Prop} (hx : opOf ops L i = some x) (hr : (ex L x).run P w = .ok (.value v) w') (hp : Post v w') : One P n ops Q i L w Post := by
  intro a ha K hK
  obtain ⟨o, ho, hw, hA, he⟩ := opOf_some hx
  have hk := hK v w' hp
  unfold dstOf at hk
  unfold wpOp
  simp only [ho] at hk ⊢
  rw [ha.wanted hw]
  simp only [if_true]
  left
  unfold Oper.wp
  rw [ha.exec hA, he, hr]
  exact hk
theorem One_runSkip {i : Nat} {x : Op × TypeId} {w' : World} {Post : Value → World → Prop} (hx : opOf ops L i = some x) (hr : (ex L x).run P w = .ok .skip w') (hp : Post undef w') : One P n ops Q i L w Post := by
  intro a ha K hK
  obtain ⟨o, ho, hw, hA, he⟩ := opOf_some hx
  have hk := hK undef w' hp
  unfold dstOf at hk
  unfold wpOp
  simp only [ho] at hk ⊢
  rw [ha.wanted hw]
  simp only [if_true]
  left
  unfold Oper.wp
  rw [ha.exec hA, he, hr]
  exact hk
/-- A pure operation. -/
def pureOf (P : Program) (ops : Array Oper) (L : Env) (i : Nat) : Option Value :=
  match ops[i]? with
  | none => none
  | some o =>
    match wantedL ops L o with
    | none => none
    | some false => some undef
    | some true =>
      bif L.hasAll o then
        match pureRun P (execOp L.ev o) with
        | some (.value v) => some v
        | _ => none
      else none
theorem One_pure {i : Nat} {v : Value} {Post : Value → World → Prop} (h : pureOf P ops L i = some v) (hp : Post v w) : One P n ops Q i L w Post := by
  intro a ha K hK
  have hk := hK v w hp
  unfold dstOf at hk
  unfold pureOf at h
  unfold wpOp
  cases ho : ops[i]? with
  | none => rw [ho] at h; cases h
  | some o =>
    rw [ho] at h hk
    simp only [Option.bind_some] at h hk ⊢
    cases hw : wantedL ops L o with
    | none => rw [hw] at h; cases h
    | some b =>
      rw [hw] at h
      rw [ha.wanted hw]
      cases b with
      | false =>
        simp only [Option.some.injEq] at h
        subst h
        simpa using hk
      | true =>
        simp only at h
        cases hA : L.hasAll o with
        | false => rw [hA] at h; cases h
        | true =>
          rw [hA] at h
          simp only [cond_true] at h
          simp only [if_true]
          cases hq : pureRun P (execOp L.ev o) with
          | none => rw [hq] at h; cases h
          | some x =>
            rw [hq] at h
            cases x with
            | value u =>
              simp only [Option.some.injEq] at h
              subst h
              left
              unfold Oper.wp
              rw [ha.exec hA, pureRun_run hq w]
              exact hk
            | _ => cases h
theorem One_call {i : Nat} {x : Op × TypeId} {f : FuncId} {args : Array Value} {R : Ending → World → Prop} {Post : Value → World → Prop} (hx : opOf ops L i = some x) (hr : pureRun P (ex L x) = some (.enter f args)) (hc : Calls P f args w R)
    (h : ∀ e w', R e w' → ∃ v, e = .returned v ∧ Post v w') : One P n ops Q i L w Post := by
  intro a ha K hK
  obtain ⟨o, ho, hw, hA, he⟩ := opOf_some hx
  unfold dstOf at hK
  unfold wpOp
  simp only [ho] at hK ⊢
  rw [ha.wanted hw]
  simp only [if_true]
  left
  unfold Oper.wp
  rw [ha.exec hA, he, pureRun_run hr w]
  refine hc.mono fun e w' hR => ?_
  obtain ⟨v, rfl, hp⟩ := h e w' hR
  exact hK v w' hp

/-! ### memory: the runs -/
theorem pure_run {α : Type} {s : Sem α} {a : α} (h : pureRun P s = some a) : s.run P w = .ok a w := pureRun_run h w
theorem run_load1 {t : TypeId} {a : Addr} {v : Value} (ht : pureRun P (isAgg t) = some false) (hc : w.cell? a = some v) : (loadVar t a).run P w = .ok v w := by
  simp [loadVar, pure_run ht, hc]
theorem run_loadN {t : TypeId} {a : Addr} {cs : List Value} (ht : pureRun P (isAgg t) = some true) (hs : pureRun P (sizeOf t) = some cs.length) (hc : ∀ j v, cs[j]? = some v → w.cell? (a.add j) = some v) :
    (loadVar t a).run P w = .ok (.agg cs.toArray) w := by
  simp [loadVar, pure_run ht, pure_run hs, run_loadCells_list w a cs hc]
theorem One_load {i : Nat} {t ty : TypeId} {x : Operand} {a : Addr} {v : Value} {Post : Value → World → Prop} (hx : opOf ops L i = some (.load t x, ty)) (ha : L.ev x = .pointer (some a)) (hr : (loadVar t a).run P w = .ok v w) (hp : Post v w) :
    One P n ops Q i L w Post :=
  One_run hx (by simp [ex, execOp, ha, Instr.loadAt, Instr.sureAddr, hr]) hp
theorem One_index {i : Nat} {t ty : TypeId} {x y : Operand} {a : Addr} {len cap : Nat} {k : IntKind} {j : Int} {e : TypeId} {sz : Nat} {Post : Value → World → Prop} (hx : opOf ops L i = some (.indexAddr t x y, ty)) (ha : L.ev x = .slice (some a) len cap)
    (hy : L.ev y = .int k j) (ht : pureRun P (underlying t) = some (.slice e)) (hs : pureRun P (sizeOf e) = some sz) (h0 : 0 ≤ j) (h1 : j < len) (hp : Post (.pointer (some (a.add (j.toNat * sz)))) w) : One P n ops Q i L w Post := by
  refine One_run hx ?_ hp
  simp [ex, execOp, ha, hy, Instr.indexAt, asIntOf, pure_run ht, pure_run hs, h0, h1]

/-! ### chunks -/
structure Ck where
  F : Nat → Prop
  P : World → Prop
  loc : ∀ w w', (∀ b, F b → w'.heap[b]? = w.heap[b]?) → P w → P w'

structure Ch (U : Nat → Prop) (w w' : World) : Prop where
  os : w'.os = w.os
  tape : w'.tape = w.tape
  output : w'.output = w.output
  size : w.heap.size ≤ w'.heap.size
  block : ∀ b, b < w.heap.size → ¬ U b → w'.heap[b]? = w.heap[b]?

def No : Nat → Prop := fun _ => False
theorem Ch.refl (U : Nat → Prop) (w : World) : Ch U w w := ⟨rfl, rfl, rfl, Nat.le_refl _, fun _ _ _ => rfl⟩
theorem Ch.trans {U : Nat → Prop} {w w1 w2 : World} (h : Ch U w w1) {U' : Nat → Prop} (k : Ch U' w1 w2) (hu : ∀ b, b < w.heap.size → U' b → U b) : Ch U w w2 :=
  ⟨k.os.trans h.os, k.tape.trans h.tape, k.output.trans h.output, Nat.le_trans h.size k.size, fun b hb hn => (k.block b (Nat.lt_of_lt_of_le hb h.size) (fun hU => hn (hu b hb hU))).trans (h.block b hb hn)⟩
theorem Ch.mono {U U' : Nat → Prop} {w w' : World} (h : Ch U w w') (hu : ∀ b, b < w.heap.size → U b → U' b) : Ch U' w w' :=
  ⟨h.os, h.tape, h.output, h.size, fun b hb hn => h.block b hb (fun hU => hn (hu b hb hU))⟩
theorem Ch.no {U : Nat → Prop} {w w' : World} (h : Ch No w w') : Ch U w w' := h.mono fun _ _ hf => hf.elim
theorem Ch.below {w w' : World} (h : Ch No w w') : Below w.heap.size w w' := ⟨h.os, h.tape, h.output, h.size, fun k hk => h.block k hk id⟩
theorem Ch.of_below {w w' : World} (h : Below w.heap.size w w') : Ch No w w' := ⟨h.os, h.tape, h.output, h.size, fun k hk _ => h.block k hk⟩
theorem Ch.drew (U : Nat → Prop) (w : World) : Ch U w w.drew := ⟨rfl, rfl, rfl, Nat.le_refl _, fun _ _ _ => rfl⟩
theorem Ch.cell {U : Nat → Prop} {w w' : World} (h : Ch U w w') {a : Addr} {v : Value} (hc : w.cell? a = some v) (hn : ¬ U a.block) : w'.cell? a = some v :=
  (World.cell?_of_block (h.block a.block (World.block_lt_of_cell? w a hc) hn)).trans hc

/-- U: what may be changed; w0: the world as it began; H: chunks that do not meet, all new or in U. -/
structure St (U : Nat → Prop) (w0 w : World) (H : List Ck) : Prop where
  ch : Ch U w0 w
  all : ∀ c ∈ H, c.P w
  foot : ∀ c ∈ H, ∀ b, c.F b → b < w.heap.size ∧ (U b ∨ w0.heap.size ≤ b)
  apart : H.Pairwise (fun c d => ∀ b, c.F b → d.F b → False)

section
variable {U : Nat → Prop} {w0 : World} {H : List Ck}
theorem St.start (U : Nat → Prop) (w : World) : St U w w [] := ⟨Ch.refl _ _, (fun _ h => by cases h), (fun _ h => by cases h), List.Pairwise.nil⟩
theorem St.get (h : St U w0 w H) {i : Nat} {c : Ck} (hi : H[i]? = some c) : c.P w := h.all c (List.mem_of_getElem? hi)
theorem St.keep {w' : World} (h : St U w0 w H) (hc : Ch No w w') : St U w0 w' H :=
  ⟨h.ch.trans hc (fun _ _ hf => hf.elim), fun c hm => c.loc w w' (fun b hb => hc.block b (h.foot c hm b hb).1 id) (h.all c hm), fun c hm b hb => ⟨Nat.lt_of_lt_of_le (h.foot c hm b hb).1 hc.size, (h.foot c hm b hb).2⟩, h.apart⟩
theorem St.drew (h : St U w0 w H) : St U w0 w.drew H := h.keep (Ch.drew _ _)
/-- A new chunk. -/
theorem St.new {w' : World} (h : St U w0 w H) (hc : Ch No w w') (c : Ck) (hp : c.P w') (hf : ∀ b, c.F b → w.heap.size ≤ b ∧ b < w'.heap.size) : St U w0 w' (c :: H) := by
  have hk := h.keep hc
  refine ⟨hk.ch, fun d hm => ?_, fun d hm b hb => ?_, List.Pairwise.cons (fun d hm b hb hd => ?_) hk.apart⟩
  · rcases List.mem_cons.1 hm with rfl | hm
    · exact hp
    · exact hk.all d hm
  · rcases List.mem_cons.1 hm with rfl | hm
    · exact ⟨(hf b hb).2, .inr (Nat.le_trans h.ch.size (hf b hb).1)⟩
    · exact hk.foot d hm b hb
  · have h1 := (h.foot d hm b hd).1
    have h2 := (hf b hb).1
    omega
/-- A chunk that is changed: what it is then lies in what it was, or is new. -/
theorem St.upd {w' : World} (h : St U w0 w H) {i : Nat} {c : Ck} (hi : H[i]? = some c) (hc : Ch c.F w w') (c' : Ck) (hp : c'.P w') (hf : ∀ b, c'.F b → c.F b ∨ (w.heap.size ≤ b ∧ b < w'.heap.size)) : St U w0 w' (H.set i c') := by
  have hl : i < H.length := (List.getElem?_eq_some_iff.1 hi).1
  have hci : H[i] = c := (List.getElem?_eq_some_iff.1 hi).2
  have hmem : c ∈ H := List.mem_of_getElem? hi
  have hap := List.pairwise_iff_getElem.1 h.apart
  have hother : ∀ (j : Nat) (hj : j < H.length), j ≠ i → ∀ b, H[j].F b → c.F b → False := by
    intro j hj hne b hb hcb
    rcases Nat.lt_or_gt_of_ne hne with hlt | hgt
    · exact hap j i hj hl hlt b hb (by rw [hci]; exact hcb)
    · exact hap i j hl hj hgt b (by rw [hci]; exact hcb) hb
  have hfc' : ∀ b, c'.F b → b < w'.heap.size ∧ (U b ∨ w0.heap.size ≤ b) := by
    intro b hb
    rcases hf b hb with h1 | ⟨h1, h2⟩
    · exact ⟨Nat.lt_of_lt_of_le (h.foot c hmem b h1).1 hc.size, (h.foot c hmem b h1).2⟩
    · exact ⟨h2, .inr (Nat.le_trans h.ch.size h1)⟩
  refine ⟨h.ch.trans hc (fun b hb hcb => ?_), fun d hm => ?_, fun d hm b hb => ?_, ?_⟩
  · rcases (h.foot c hmem b hcb).2 with h1 | h1
    · exact h1
    · omega
  · rw [List.mem_iff_getElem] at hm
    obtain ⟨j, hj, rfl⟩ := hm
    rw [List.length_set] at hj
    by_cases hji : j = i
    · subst hji
      rw [List.getElem_set_self]
      exact hp
    · rw [List.getElem_set_ne (Ne.symm hji)]
      exact (H[j]).loc w w' (fun b hb => hc.block b (h.foot _ (List.getElem_mem hj) b hb).1 (fun hcb => hother j hj hji b hb hcb)) (h.all _ (List.getElem_mem hj))
  · rw [List.mem_iff_getElem] at hm
    obtain ⟨j, hj, rfl⟩ := hm
    rw [List.length_set] at hj
    by_cases hji : j = i
    · subst hji
      rw [List.getElem_set_self] at hb
      exact hfc' b hb
    · rw [List.getElem_set_ne (Ne.symm hji)] at hb
      exact ⟨Nat.lt_of_lt_of_le (h.foot _ (List.getElem_mem hj) b hb).1 hc.size, (h.foot _ (List.getElem_mem hj) b hb).2⟩
  · rw [List.pairwise_iff_getElem]
    intro j k hj' hk' hjk b hb1 hb2
    have hj : j < H.length := by rw [List.length_set] at hj'; exact hj'
    have hk : k < H.length := by rw [List.length_set] at hk'; exact hk'
    by_cases hji : j = i
    · subst hji
      rw [List.getElem_set_self] at hb1
      rw [List.getElem_set_ne (by omega)] at hb2
      rcases hf b hb1 with h1 | ⟨h1, _⟩
      · exact hother k hk (by omega) b hb2 h1
      · have := (h.foot _ (List.getElem_mem hk) b hb2).1; omega
    · rw [List.getElem_set_ne (Ne.symm hji)] at hb1
      by_cases hki : k = i
      · subst hki
        rw [List.getElem_set_self] at hb2
        rcases hf b hb2 with h1 | ⟨h1, _⟩
        · exact hother j hj hji b hb1 h1
        · have := (h.foot _ (List.getElem_mem hj) b hb1).1; omega
      · rw [List.getElem_set_ne (Ne.symm hki)] at hb2
        exact hap j k hj hk hjk b hb1 hb2
theorem St.sub (h : St U w0 w H) {H' : List Ck} (hs : H'.Sublist H) : St U w0 w H' :=
  ⟨h.ch, fun c hm => h.all c (hs.subset hm), fun c hm => h.foot c (hs.subset hm), h.apart.sublist hs⟩
theorem St.perm (h : St U w0 w H) {H' : List Ck} (hs : H'.Perm H) : St U w0 w H' :=
  ⟨h.ch, fun c hm => h.all c (hs.subset hm), fun c hm => h.foot c (hs.subset hm), (hs.pairwise_iff (fun hab b h1 h2 => hab b h2 h1)).2 h.apart⟩
/-- What lay outside U reads as it did. -/
theorem St.old (h : St U w0 w H) {a : Addr} {v : Value} (hc : w0.cell? a = some v) (hn : ¬ U a.block) : w.cell? a = some v := h.ch.cell hc hn
end

/-- A block known whole. -/
def Blk (g : Nat) (t : TypeId) (cs : List Value) : Ck where
  F := fun b => b = g
  P := fun w => w.heap[g]? = some (.cells cs.toArray t (0, 0))
  loc := fun _ _ h hp => (h g rfl).trans hp
/-- A slice that may be appended to. -/
def Row (e : TypeId) (sz : Nat) (v : Value) (m : Nat) (cs : List Value) : Ck where
  F := fun b => v.ownBlock = some b
  P := fun w => w.ownsRow 0 e sz v m cs
  loc := fun w w' h hp => by
    obtain ⟨h1, h2⟩ := hp
    refine ⟨h1, ?_⟩
    rcases h2 with h2 | ⟨g, cap, cur, hv, hb, hg, h3⟩
    · exact .inl h2
    · exact .inr ⟨g, cap, cur, hv, hb, (h g (by rw [hv]; rfl)).trans hg, h3⟩
theorem Blk.cell {g : Nat} {t : TypeId} {cs : List Value} (h : (Blk g t cs).P w) {j : Nat} {v : Value} (hj : cs[j]? = some v) : w.cell? ⟨g, j, none⟩ = some v := by
  have h' : w.heap[g]? = some (.cells cs.toArray t (0, 0)) := h
  simp [World.cell?, h', hj]
theorem Blk.frozen {g : Nat} {t : TypeId} {cs : List Value} (h : (Blk g t cs).P w) (j : Nat) : w.frozen? ⟨g, j, none⟩ = false := by
  have h' : w.heap[g]? = some (.cells cs.toArray t (0, 0)) := h
  simp [World.frozen?, h']

theorem Ch.alloc (w : World) (o : Obj) : Ch No w (w.alloc o) := ⟨rfl, rfl, rfl, by simp, fun b hb _ => heap_alloc_old w o b hb⟩
theorem Blk.alloc {U : Nat → Prop} {w0 : World} {H : List Ck} (h : St U w0 w H) (t : TypeId) (cs : List Value) : St U w0 (w.alloc (.cells cs.toArray t)) (Blk w.heap.size t cs :: H) :=
  h.new (Ch.alloc _ _) _ (heap_alloc_new w _) (fun b hb => by have hb' : b = w.heap.size := hb; subst hb'; exact ⟨Nat.le_refl _, by simp⟩)

variable {U : Nat → Prop} {w0 : World} {H : List Ck}
theorem One_alloc {i : Nat} {t ty : TypeId} {z : Value} {Post : Value → World → Prop} (hx : opOf ops L i = some (.alloc t, ty)) (hS : St U w0 w H) (hz : pureRun P (zeroValue t) = some z)
    (hp : ∀ g w', St U w0 w' (Blk g t z.cells.toList :: H) → Ch No w w' → Post (.pointer (some ⟨g, 0, none⟩)) w') : One P n ops Q i L w Post := by
  refine One_run hx (w' := w.alloc (.cells z.cells t)) ?_ (hp w.heap.size _ ?_ (Ch.alloc _ _))
  · simp [ex, execOp, Instr.alloc, pure_run hz, newVar, newRow]
  · have := Blk.alloc hS t z.cells.toList
    simpa using this
theorem One_box {i : Nat} {t ty : TypeId} {x : Operand} {v : Value} {Post : Value → World → Prop} (hx : opOf ops L i = some (.box t x, ty)) (hv : L.ev x = v) (hS : St U w0 w H)
    (hp : ∀ g w', St U w0 w' (Blk g t v.cells.toList :: H) → Ch No w w' → Post (.pointer (some ⟨g, 0, none⟩)) w') : One P n ops Q i L w Post := by
  refine One_run hx (w' := w.alloc (.cells v.cells t)) ?_ (hp w.heap.size _ ?_ (Ch.alloc _ _))
  · simp [ex, execOp, Instr.box, hv, newVar, newRow]
  · have := Blk.alloc hS t v.cells.toList
    simpa using this
end Go.Arr
