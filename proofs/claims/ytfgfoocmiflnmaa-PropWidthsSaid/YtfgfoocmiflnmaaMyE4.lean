/- THE ENGINE, part 4: stores, new objects, appends, elements of rows of one's own. Nothing of a program stands here. -/
import Derived.Test.YtfgfoocmiflnmaaMyE3
import Derived.Deep.AppendLies
namespace Go.Arr
open Go.RowKit
variable {P : Program} {n : Nat} {ops : Array Oper} {Q : Exit → Act → World → Prop} {w : World} {L : Env} {U : Nat → Prop} {w0 : World} {H : List Ck}

/-! ### one new object -/
/-- What runs up to one new object, number r, and from there to the end. -/
def newRun {α : Type} (P : Program) (r : Nat) : Sem α → Option (Obj × α)
  | .program k => newRun P r (k P)
  | .mark _ k => newRun P r k
  | .new o k => (pureRun P (k r)).map fun a => (o, a)
  | _ => none
theorem newRun_run {α : Type} {r : Nat} : ∀ {s : Sem α} {o : Obj} {a : α} {w : World}, newRun P r s = some (o, a) → r = w.heap.size → s.run P w = .ok a (w.alloc o) := by
  intro s
  induction s with
  | program k ih => intro o a w h hr; exact ih P h hr
  | mark m k ih => intro o a w h hr; exact ih h hr
  | new o k ih =>
    intro o' a w h hr
    subst hr
    simp only [newRun, Option.map_eq_some_iff, Prod.mk.injEq] at h
    obtain ⟨x, hx, rfl, rfl⟩ := h
    show (k w.heap.size).run P (w.alloc o) = _
    exact pureRun_run hx _
  | _ => intro o a w h; simp [newRun] at h
theorem One_new {i : Nat} {x : Op × TypeId} {t : TypeId} {cs : List Value} {mk : Nat → Value} {Post : Value → World → Prop} (hx : opOf ops L i = some x) (hS : St U w0 w H)
    (hn : ∀ r, newRun P r (ex L x) = some (.cells cs.toArray t (0, 0), .value (mk r))) (hp : ∀ g w', St U w0 w' (Blk g t cs :: H) → Ch No w w' → Post (mk g) w') : One P n ops Q i L w Post :=
  One_run hx (newRun_run (hn w.heap.size) rfl) (hp _ _ (Blk.alloc hS t cs) (Ch.alloc _ _))

/-! ### stores -/
def splice (cs : List Value) (o : Nat) (vs : List Value) : List Value := cs.take o ++ vs ++ cs.drop (o + vs.length)
theorem splice_length {cs vs : List Value} {o : Nat} (h : o + vs.length ≤ cs.length) : (splice cs o vs).length = cs.length := by
  simp only [splice, List.length_append, List.length_take, List.length_drop]
  omega
theorem Ch.setRow {g : Nat} {cs : Array Value} {F : Nat → Prop} (hg : F g) : Ch F w (w.setRow g cs) :=
  ⟨rfl, rfl, rfl, by simp, fun b _ hn => setRow_other w g b cs (fun e => hn (by rw [e]; exact hg))⟩
theorem run_storeBlk {g o : Nat} {t ty : TypeId} {cs : List Value} {v : Value} (hg : (Blk g t cs).P w) (hs : pureRun P (sizeOf ty) = some v.cells.size) (ho : o + v.cells.size ≤ cs.length) (h1 : ∀ u ∈ v.cells.toList, u.oneCell' = true) :
    (storeVar ty ⟨g, o, none⟩ v).run P w = .ok () (w.setRow g (splice cs o v.cells.toList).toArray) := by
  have h' : w.heap[g]? = some (.cells cs.toArray t (0, 0)) := hg
  have h2 := run_storeCells_at P g o t v.cells.toList 0 cs.toArray w h' (by simpa using ho) h1
  simp only [Nat.add_zero] at h2
  simp [storeVar, pure_run hs, h2, splice]
theorem One_store {i c g o : Nat} {t t' ty : TypeId} {x y : Operand} {cs : List Value} {v : Value} {Post : Value → World → Prop} (hx : opOf ops L i = some (.store t x y, ty)) (ha : L.ev x = .pointer (some ⟨g, o, none⟩)) (hv : L.ev y = v)
    (hS : St U w0 w H) (hc : H[c]? = some (Blk g t' cs)) (hs : pureRun P (sizeOf t) = some v.cells.size) (ho : o + v.cells.size ≤ cs.length) (h1 : v.cells.toList.all (·.oneCell') = true)
    (hp : ∀ w', St U w0 w' (H.set c (Blk g t' (splice cs o v.cells.toList))) → Ch (fun b => b = g) w w' → Post undef w') : One P n ops Q i L w Post := by
  have hg := hS.get hc
  refine One_runSkip hx (w' := w.setRow g (splice cs o v.cells.toList).toArray) ?_ (hp _ ?_ (Ch.setRow rfl))
  · simp [ex, execOp, Instr.storeAt, Instr.sureAddr, ha, hv, run_storeBlk hg hs ho (List.all_eq_true.1 h1)]
  · exact hS.upd hc (Ch.setRow rfl) _ (setRow_heap w g _ _ t' (0, 0) hg) (fun b hb => .inl hb)

/-! ### rows of one's own -/
theorem Row.slice {e : TypeId} {sz m : Nat} {v : Value} {cs : List Value} (h : (Row e sz v m cs).P w) : ∃ A c, v = .slice A m c := by
  obtain ⟨_, ⟨rfl, rfl⟩ | ⟨g, cap, cur, rfl, _⟩⟩ := h
  · exact ⟨none, 0, rfl⟩
  · exact ⟨_, cap, rfl⟩
theorem Row.len {e : TypeId} {sz m : Nat} {v : Value} {cs : List Value} (h : (Row e sz v m cs).P w) : cs.length = m * sz := h.1
/-- A row that is not empty lies at the head of a block. -/
theorem Row.form {e : TypeId} {sz m c : Nat} {A : Option Addr} {cs : List Value} (h : (Row e sz (.slice A m c) m cs).P w) (hm : 0 < m) : ∃ g, A = some ⟨g, 0, none⟩ ∧ ∀ j v, cs[j]? = some v → w.cell? ⟨g, j, none⟩ = some v := by
  obtain ⟨hl, ⟨h1, h2⟩ | ⟨g, cap, cur, h1, _, hg, hn, _, hsz, ht⟩⟩ := h
  · omega
  · injection h1 with h1 h2 h3
    refine ⟨g, h1, fun j v hj => ?_⟩
    rw [← ht, List.getElem?_take] at hj
    split at hj
    · have hj' : cur[j]? = some v := by simpa using hj
      simp [World.cell?, hg, hj']
    · cases hj
theorem Row.own {e : TypeId} {sz m c g : Nat} {cs : List Value} : (Row e sz (.slice (some ⟨g, 0, none⟩) m c) m cs).F g := rfl
theorem Row.nil {e : TypeId} {sz : Nat} (h : St U w0 w H) : St U w0 w (Row e sz (.slice none 0 0) 0 [] :: H) :=
  h.new (Ch.refl _ _) _ (World.ownsRow_nil w 0 e sz) (fun b hb => by cases hb)
/-- A block made whole as a slice is a row. -/
theorem Row.of_blk {g : Nat} {e : TypeId} {sz m : Nat} {cs : List Value} (h : (Blk g e cs).P w) (hl : cs.length = m * sz) (hm : m ≤ maxLen) : (Row e sz (.slice (some ⟨g, 0, none⟩) m m) m cs).P w := by
  refine ⟨hl, .inr ⟨g, m, cs.toArray, rfl, Nat.zero_le _, h, Nat.le_refl _, hm, by simpa using hl, ?_⟩⟩
  rw [List.take_of_length_le]
  simp [hl]
theorem One_storeRow {i c g o m cap : Nat} {e t ty : TypeId} {sz : Nat} {x y : Operand} {cs : List Value} {v : Value} {Post : Value → World → Prop} (hx : opOf ops L i = some (.store t x y, ty)) (ha : L.ev x = .pointer (some ⟨g, o, none⟩)) (hv : L.ev y = v)
    (hS : St U w0 w H) (hc : H[c]? = some (Row e sz (.slice (some ⟨g, 0, none⟩) m cap) m cs)) (hs : pureRun P (sizeOf t) = some v.cells.size) (ho : o + v.cells.size ≤ cs.length) (h1 : v.cells.toList.all (·.oneCell') = true)
    (hp : ∀ w', St U w0 w' (H.set c (Row e sz (.slice (some ⟨g, 0, none⟩) m cap) m (splice cs o v.cells.toList))) → Ch (fun b => b = g) w w' → Post undef w') : One P n ops Q i L w Post := by
  have hg := hS.get hc
  obtain ⟨hl, ⟨h2, _⟩ | ⟨g', cap', cur, h2, hb, hh, hn, hmx, hsz, ht⟩⟩ := hg
  · cases h2
  · have hq : g' = g ∧ cap' = cap := by
      injection h2 with h3 h4 h5
      injection h3 with h3
      injection h3 with h3
      exact ⟨h3.symm, h5.symm⟩
    obtain ⟨rfl, rfl⟩ := hq
    have hle : cs.length ≤ cur.size := by rw [hl, hsz]; exact Nat.mul_le_mul_right _ hn
    have hvl : v.cells.size = v.cells.toList.length := by simp
    refine One_runSkip hx (w' := w.setRow g' (splice cur.toList o v.cells.toList).toArray) ?_ (hp _ ?_ (Ch.setRow rfl))
    · have hB : (Blk g' e cur.toList).P w := by show w.heap[g']? = _; simpa using hh
      have hst := run_storeBlk (o := o) (ty := t) hB hs (by rw [← hvl] at *; simp only [Array.length_toList]; omega) (List.all_eq_true.1 h1)
      simp [ex, execOp, Instr.storeAt, Instr.sureAddr, ha, hv, hst]
    · refine hS.upd hc (Ch.setRow rfl) _ ?_ (fun b hb => .inl hb)
      have hsl : (splice cur.toList o v.cells.toList).length = cur.size := by rw [splice_length]; simp; simp; omega
      refine ⟨by rw [splice_length (by rw [← hvl]; exact ho)]; exact hl, .inr ⟨g', cap', _, rfl, hb, setRow_heap w g' _ _ e (0, 0) hh, hn, hmx, by simpa [hsl] using hsz, ?_⟩⟩
      have hk : m * sz = cs.length := hl.symm
      simp only [splice, hk]
      rw [List.take_append, List.take_append]
      have e1 : (cur.toList.take o).length = o := by simp; omega
      rw [List.take_of_length_le (by rw [e1]; omega), e1, List.take_of_length_le (l := v.cells.toList) (by omega)]
      have e2 : (List.take o cur.toList ++ v.cells.toList).length = o + v.cells.toList.length := by rw [List.length_append, e1]
      rw [e2, ← ht, List.take_take, List.drop_take]
      have hml : o + v.cells.toList.length ≤ m * sz := by omega
      rw [List.length_take, Nat.min_eq_left (by simp; omega), Nat.min_eq_left (by omega)]

/-! ### append -/
theorem One_append {i c k c2 m : Nat} {t t2 ty e : TypeId} {sz bytes : Nat} {z : Value} {x y : Operand} {A : Option Addr} {cap : Nat} {a : Addr} {cs news : List Value} {Post : Value → World → Prop}
    (hx : opOf ops L i = some (.call { callee := .builtin .append, args := #[x, y], argTypes := #[t, t2] }, ty)) (ht2 : t2 = t) (ha : L.ev x = .slice A m cap) (hy : L.ev y = .slice (some a) k c2)
    (hS : St U w0 w H) (hc : H[c]? = some (Row e sz (.slice A m cap) m cs)) (hu : P.underlying t = some (.slice e)) (hi : (P.info? e).map (fun i => (i.zero, i.size, i.bytes)) = some (some z, sz, bytes)) (hz : z.cells.size = sz) (hsz : 0 < sz)
    (hl : news.length = k * sz) (hnews : ∀ j u, news[j]? = some u → w.cell? (a.add j) = some u) (h1 : news.all (·.oneCell') = true) (h63 : m + k ≤ maxLen) (hb : (m + k) * bytes ≤ 140737488355328)
    (hp : ∀ A' cap' w', St U w0 w' (H.set c (Row e sz (.slice A' (m + k) cap') (m + k) (cs ++ news))) → Ch (Row e sz (.slice A m cap) m cs).F w w' → Post (.slice A' (m + k) cap') w') : One P n ops Q i L w Post := by
  subst ht2
  obtain ⟨inf, hinf, hz0, hz1, hz2⟩ := info_parts hi
  have hown := hS.get hc
  obtain ⟨v', w', hr, hown', hg, _, hat⟩ := run_append_own_at (P := P) w 0 t2 ty e inf z sz bytes hu hinf hz0 hz1 hz2 hz hsz (.slice A m cap) m cs hown a k c2 news hl hnews (List.all_eq_true.1 h1) h63 hb (Nat.zero_le _)
  have hch : Ch (Row e sz (.slice A m cap) m cs).F w w' := ⟨hg.os, hg.tape, hg.output, hg.size, fun b hb hn => hg.block b hb (fun e => hn e.symm)⟩
  obtain ⟨A', cap', rfl⟩ := Row.slice (w := w') (e := e) (sz := sz) (m := m + k) (cs := cs ++ news) hown'
  refine One_run hx (w' := w') ?_ (hp A' cap' w' ?_ hch)
  · simp [ex, execOp, resolve, invoke, builtin, ha, hy, hr]
  · refine hS.upd hc hch _ hown' (fun b hb => ?_)
    have hb' : (Value.slice A' (m + k) cap').ownBlock = some b := hb
    rcases hat with h | h
    · exact .inl (by show (Value.slice A m cap).ownBlock = some b; rw [← h]; exact hb')
    · rw [h] at hb'
      simp only [Option.some.injEq] at hb'
      subst hb'
      refine .inr ⟨Nat.le_refl _, ?_⟩
      obtain ⟨_, ⟨h2, _⟩ | ⟨g', _, cur, h2, _, hh, _⟩⟩ := hown'
      · rw [h2] at h; cases h
      · rw [h2] at h
        have : g' = w.heap.size := by simpa [Value.ownBlock] using h
        subst this
        exact (Array.getElem?_eq_some_iff.1 hh).1
end Go.Arr
