/- THE ENGINE, part 5: the forms in which a program prints a walk. Nothing of a program stands here. -/
import Derived.Test.YtfgfoocmiflnmaaMyE4
namespace Go.Arr
open Go.RowKit
variable {P : Program} {n : Nat} {ops : Array Oper} {Q : Exit → Act → World → Prop} {w : World} {L : Env} {U : Nat → Prop} {w0 : World} {H : List Ck}

theorem prune_sub (keys : List Nat) (L : Env) : Env.sub (prune keys L) L := by
  intro t v h
  obtain ⟨k, _, he⟩ := List.mem_filterMap.1 (Env.get_mem h)
  cases hg : L.get k with
  | none => rw [hg] at he; cases he
  | some u =>
    rw [hg] at he
    simp only [Option.map_some, Option.some.injEq, Prod.mk.injEq] at he
    obtain ⟨rfl, rfl⟩ := he
    exact hg
/-- Pure operations 'is'; then the slots 'keys' alone. -/
theorem WO_batch (is rest keys : List Nat) (L' : Env) (h : (runPure P n ops is L).map (prune keys) = some L') (hk : WO P n ops rest L' Q w) : WO P n ops (is ++ rest) L Q w := by
  obtain ⟨L1, h1, rfl⟩ := Option.map_eq_some_iff.1 h
  exact WO_pure h1 (WO_sub (prune_sub keys L1) hk)
theorem W_reg {id : Nat} (is : List Nat) (hs : List.range ops.size = is) (h : WO P n ops is L Q w) : W P n L (.region id ops false) Q w := W_region1 (by rw [hs]; exact h)
theorem W_regS {id : Nat} {c : Code} (is : List Nat) (hs : List.range ops.size = is) (h : WO P n ops is L (Exit.then (c.wp P Q) Q) w) : W P n L (.seq (.region id ops false) c) Q w := W_seq (W_reg is hs h)
/-- Behind the last operation of a region that code follows. -/
theorem WO_endS {c : Code} (h : W P n L c Q w) : WO P n ops [] L (Exit.then (c.wp P Q) Q) w := WO_end h

/-- A call that leaves the world as it is. -/
theorem WO_callS {i : Nat} {is : List Nat} {f : FuncId} (x : Op × TypeId) (args : Array Value) (v : Value) (hd : dstOk n ops i = true) (hx : opOf ops L i = some x) (hr : pureRun P (ex L x) = some (.enter f args))
    (hc : Calls P f args w fun e w' => e = .returned v ∧ w = w') (h : WO P n ops is (L.put (dstOf ops i) v) Q w) : WO P n ops (i :: is) L Q w :=
  WO_one hd (One_call (Post := fun u w' => u = v ∧ w = w') hx hr hc (fun e w' hR => ⟨v, hR.1, rfl, hR.2⟩)) (by rintro u w' ⟨rfl, rfl⟩; exact h)
/-- A call that turns nothing that was there. -/
theorem WO_callB {i : Nat} {is : List Nat} {f : FuncId} (x : Op × TypeId) (args : Array Value) (v : Value) (hd : dstOk n ops i = true) (hx : opOf ops L i = some x) (hr : pureRun P (ex L x) = some (.enter f args))
    (hc : Calls P f args w fun e w' => e = .returned v ∧ Below w.heap.size w w') (h : ∀ w', Ch No w w' → WO P n ops is (L.put (dstOf ops i) v) Q w') : WO P n ops (i :: is) L Q w :=
  WO_one hd (One_call (Post := fun u w' => u = v ∧ Below w.heap.size w w') hx hr hc (fun e w' hR => ⟨v, hR.1, rfl, hR.2⟩)) (by rintro u w' ⟨rfl, hb⟩; exact h w' (Ch.of_below hb))
/-- A call whose contract tells more. -/
theorem WO_callR {i : Nat} {is : List Nat} {f : FuncId} {R : Ending → World → Prop} (x : Op × TypeId) (args : Array Value) (hd : dstOk n ops i = true) (hx : opOf ops L i = some x) (hr : pureRun P (ex L x) = some (.enter f args))
    (hc : Calls P f args w R) (h : ∀ e w', R e w' → ∃ v, e = .returned v ∧ WO P n ops is (L.put (dstOf ops i) v) Q w') : WO P n ops (i :: is) L Q w :=
  WO_one hd (One_call (Post := fun u w' => WO P n ops is (L.put (dstOf ops i) u) Q w') hx hr hc h) (fun _ _ hk => hk)

theorem One.env {i : Nat} {Post : Value → World → Prop} {L' : Env} (hs : Env.sub L' L) (h : One P n ops Q i L' w Post) : One P n ops Q i L w Post := fun a ha => h a (ha.mono hs)
theorem sub_vs {L' : Env} {d : Nat} {v x : Value} (h : L.get d = some x) (hx : x = v) (hs : Env.sub L' L) : Env.sub ((d, v) :: L') L := Env.sub_cons (by rw [h, hx]) hs

theorem wrap_i64 {n : Int} (h : -9223372036854775808 ≤ n ∧ n ≤ 9223372036854775807) : IntKind.i64.wrap n = n := by
  have h1 : IntKind.i64.wrap n = (let m := n % (2 ^ 64 : Int); if m ≥ (2 ^ 63 : Int) then m - (2 ^ 64 : Int) else m) := by simp [IntKind.wrap, IntKind.bits, IntKind.signed]
  rw [h1]
  simp only
  split <;> omega

/-! ### loads from blocks and rows of one's own -/
theorem run_loadBlk1 {g o : Nat} {t ty : TypeId} {cs : List Value} {v : Value} (hB : (Blk g t cs).P w) (ht : pureRun P (isAgg ty) = some false) (hj : cs[o]? = some v) : (loadVar ty ⟨g, o, none⟩).run P w = .ok v w :=
  run_load1 ht (Blk.cell hB hj)
theorem run_loadBlkN {g o : Nat} {t ty : TypeId} {cs sub : List Value} (hB : (Blk g t cs).P w) (ht : pureRun P (isAgg ty) = some true) (hs : pureRun P (sizeOf ty) = some sub.length) (hsub : (cs.drop o).take sub.length = sub) :
    (loadVar ty ⟨g, o, none⟩).run P w = .ok (.agg sub.toArray) w := by
  refine run_loadN ht hs fun j v hj => ?_
  rw [Addr.add_lit]
  refine Blk.cell hB ?_
  rw [← hsub, List.getElem?_take] at hj
  split at hj
  · rw [List.getElem?_drop] at hj; exact hj
  · cases hj
theorem WO_of_one {i : Nat} {is : List Nat} (hd : dstOk n ops i = true) (h : One P n ops Q i L w (fun v w' => WO P n ops is (L.put (dstOf ops i) v) Q w')) : WO P n ops (i :: is) L Q w := WO_one hd h (fun _ _ hk => hk)
theorem One_indexN {i : Nat} {t ty : TypeId} {x y : Operand} {A : Option Addr} {a : Addr} {len cap : Nat} {k : IntKind} {j : Nat} {e : TypeId} {sz : Nat} {Post : Value → World → Prop} (hx : opOf ops L i = some (.indexAddr t x y, ty)) (ha : L.ev x = .slice A len cap)
    (hy : L.ev y = .int k (j : Int)) (ht : pureRun P (underlying t) = some (.slice e)) (hs : pureRun P (sizeOf e) = some sz) (hA : A = some a) (h1 : j < len) (hp : Post (.pointer (some (a.add (j * sz)))) w) : One P n ops Q i L w Post :=
  One_index hx (by rw [ha, hA]) hy ht hs (Int.natCast_nonneg _) (by omega) (by simpa using hp)
theorem One_indexG {i g : Nat} {t ty : TypeId} {x y : Operand} {A : Option Addr} {len cap : Nat} {k : IntKind} {j : Nat} {e : TypeId} {sz : Nat} {Post : Value → World → Prop} (hx : opOf ops L i = some (.indexAddr t x y, ty)) (ha : L.ev x = .slice A len cap)
    (hy : L.ev y = .int k (j : Int)) (ht : pureRun P (underlying t) = some (.slice e)) (hs : pureRun P (sizeOf e) = some sz) (hA : A = some ⟨g, 0, none⟩) (h1 : j < len) (hp : Post (.pointer (some ⟨g, j * sz, none⟩)) w) : One P n ops Q i L w Post :=
  One_indexN hx ha hy ht hs hA h1 (by rw [Addr.add_lit, Nat.zero_add]; exact hp)
theorem exit_in {id : Nat} (h : ∀ a, Fr n L a → Q .normal a w) : ∀ a, Fr n L a → Exit.inBlock id Q (.exit id) a w := fun a ha => by simpa [Exit.inBlock] using h a ha
theorem exit_out {id id' : Nat} (hne : id ≠ id') (h : ∀ a, Fr n L a → Q (.exit id) a w) : ∀ a, Fr n L a → Exit.inBlock id' Q (.exit id) a w := fun a ha => by simpa [Exit.inBlock, hne] using h a ha
section
variable {K : Act → World → Prop} {J : Nat → Act → World → Prop} {id l : Nat}
theorem ret_then (h : ∀ a, Fr n L a → Q .ret a w) : ∀ a, Fr n L a → Exit.then K Q .ret a w := h
theorem ret_block (h : ∀ a, Fr n L a → Q .ret a w) : ∀ a, Fr n L a → Exit.inBlock id Q .ret a w := h
theorem ret_labels (h : ∀ a, Fr n L a → Q .ret a w) : ∀ a, Fr n L a → Exit.labels J Q .ret a w := h
theorem goto_then (h : ∀ a, Fr n L a → Q (.goto l) a w) : ∀ a, Fr n L a → Exit.then K Q (.goto l) a w := h
theorem goto_block (h : ∀ a, Fr n L a → Q (.goto l) a w) : ∀ a, Fr n L a → Exit.inBlock id Q (.goto l) a w := h
theorem goto_labels (h : ∀ a, Fr n L a → J l a w) : ∀ a, Fr n L a → Exit.labels J Q (.goto l) a w := h
theorem exit_then (h : ∀ a, Fr n L a → Q (.exit l) a w) : ∀ a, Fr n L a → Exit.then K Q (.exit l) a w := h
theorem exit_labels (h : ∀ a, Fr n L a → Q (.exit l) a w) : ∀ a, Fr n L a → Exit.labels J Q (.exit l) a w := h
theorem normal_block (h : ∀ a, Fr n L a → Q .normal a w) : ∀ a, Fr n L a → Exit.inBlock id Q .normal a w := h
theorem normal_labels (h : ∀ a, Fr n L a → Q .normal a w) : ∀ a, Fr n L a → Exit.labels J Q .normal a w := h
theorem normal_then (h : ∀ a, Fr n L a → K a w) : ∀ a, Fr n L a → Exit.then K Q .normal a w := h
end

/-! ### scopes with one label that is jumped back to, and perhaps one ahead -/
theorem W_scope1 {σ : Type} {c R : Code} (l0 : Nat) (E : σ → Env) (I : σ → World → Prop) (μ : σ → Nat) (hf : findLabel c l0 = some (.seq .skip R))
    (pass : ∀ s w, I s w → W P n (E s) R (Exit.labels (fun l a' w' => l = l0 ∧ ∃ s', Fr n (E s') a' ∧ I s' w' ∧ μ s' < μ s) Q) w)
    (first : (∀ s w, I s w → W P n (E s) R (Exit.labels (fun l a' w' => l = l0 ∧ ∃ s', Fr n (E s') a' ∧ I s' w') Q) w) → W P n L c (Exit.labels (fun l a' w' => l = l0 ∧ ∃ s', Fr n (E s') a' ∧ I s' w') Q) w) :
    W P n L (.scope c) Q w :=
  W_scope (fun _ => R) (fun _ => E) (fun _ => I) (fun _ => μ) (fun l => l = l0) (fun _ h => by rw [h]; exact hf) (fun _ s w _ hI => pass s w hI) (fun H => first (fun s w hI => H l0 s w rfl hI))
theorem jumpA {σ : Type} {E : σ → Env} {I : σ → World → Prop} {μ : σ → Nat} {l0 : Nat} {s : σ} (s' : σ) (hs : Env.sub (E s') L) (hi : I s' w) (hm : μ s' < μ s) : ∀ a, Fr n L a → l0 = l0 ∧ ∃ s', Fr n (E s') a ∧ I s' w ∧ μ s' < μ s :=
  fun _ ha => ⟨rfl, s', ha.mono hs, hi, hm⟩
theorem jumpB {σ : Type} {E : σ → Env} {I : σ → World → Prop} {l0 : Nat} (s' : σ) (hs : Env.sub (E s') L) (hi : I s' w) : ∀ a, Fr n L a → l0 = l0 ∧ ∃ s', Fr n (E s') a ∧ I s' w := fun _ ha => ⟨rfl, s', ha.mono hs, hi⟩

theorem W_scope2 {σ τ : Type} {c R R1 : Code} (l0 l1 : Nat) (E : σ → Env) (I : σ → World → Prop) (μ : σ → Nat) (E1 : τ → Env) (I1 : τ → World → Prop) (hf : findLabel c l0 = some (.seq .skip R)) (hf1 : findLabel c l1 = some (.seq .skip R1)) (hne : l0 ≠ l1)
    (pass : ∀ s w, I s w → W P n (E s) R (Exit.labels (fun l a' w' => (l = l0 ∧ ∃ s', Fr n (E s') a' ∧ I s' w' ∧ μ s' < μ s) ∨ (l = l1 ∧ ∃ t, Fr n (E1 t) a' ∧ I1 t w')) Q) w)
    (pass1 : ∀ t w, I1 t w → W P n (E1 t) R1 (Exit.labels (fun _ _ _ => False) Q) w)
    (first : (∀ s w, I s w → W P n (E s) R (Exit.labels (fun l a' w' => (l = l0 ∧ ∃ s', Fr n (E s') a' ∧ I s' w') ∨ (l = l1 ∧ ∃ t, Fr n (E1 t) a' ∧ I1 t w')) Q) w) →
      W P n L c (Exit.labels (fun l a' w' => (l = l0 ∧ ∃ s', Fr n (E s') a' ∧ I s' w') ∨ (l = l1 ∧ ∃ t, Fr n (E1 t) a' ∧ I1 t w')) Q) w) : W P n L (.scope c) Q w := by
  let E2 : Nat → σ ⊕ τ → Env := fun _ x => match x with | .inl s => E s | .inr t => E1 t
  let I2 : Nat → σ ⊕ τ → World → Prop := fun l x w => match x with | .inl s => l = l0 ∧ I s w | .inr t => l = l1 ∧ I1 t w
  let μ2 : Nat → σ ⊕ τ → Nat := fun _ x => match x with | .inl s => μ s + 1 | .inr _ => 0
  have to2 : ∀ l a w', ((l = l0 ∧ ∃ s', Fr n (E s') a ∧ I s' w') ∨ (l = l1 ∧ ∃ t, Fr n (E1 t) a ∧ I1 t w')) → ((l = l0 ∨ l = l1) ∧ ∃ x, Fr n (E2 l x) a ∧ I2 l x w') := by
    rintro l a w' (⟨h, s', h1, h2⟩ | ⟨h, t, h1, h2⟩)
    · exact ⟨.inl h, .inl s', h1, h, h2⟩
    · exact ⟨.inr h, .inr t, h1, h, h2⟩
  have of2 : ∀ l a w', ((l = l0 ∨ l = l1) ∧ ∃ x, Fr n (E2 l x) a ∧ I2 l x w') → ((l = l0 ∧ ∃ s', Fr n (E s') a ∧ I s' w') ∨ (l = l1 ∧ ∃ t, Fr n (E1 t) a ∧ I1 t w')) := by
    rintro l a w' ⟨_, s | t, h1, h, h2⟩
    · exact .inl ⟨h, s, h1, h2⟩
    · exact .inr ⟨h, t, h1, h2⟩
  refine W_scope (fun l => if l = l0 then R else R1) E2 I2 μ2 (fun l => l = l0 ∨ l = l1) (fun l h => ?_) (fun l x w hl hI => ?_) (fun H => ?_)
  · rcases h with rfl | rfl
    · rw [if_pos rfl]; exact hf
    · rw [if_neg (fun e => hne e.symm)]; exact hf1
  · cases x with
    | inl s =>
      obtain ⟨rfl, hI⟩ := hI
      rw [if_pos rfl]
      intro a ha
      refine wp_mono (pass s w hI a ha) (labels_mono ?_)
      rintro l' a' w' (⟨h, s', h1, h2, h3⟩ | ⟨h, t, h1, h2⟩)
      · exact ⟨.inl h, .inl s', h1, ⟨h, h2⟩, Nat.succ_lt_succ h3⟩
      · exact ⟨.inr h, .inr t, h1, ⟨h, h2⟩, Nat.succ_pos _⟩
    | inr t =>
      obtain ⟨rfl, hI⟩ := hI
      rw [if_neg (fun e => hne e.symm)]
      intro a ha
      exact wp_mono (pass1 t w hI a ha) (labels_mono fun _ _ _ h => h.elim)
  · intro a ha
    refine wp_mono (first (fun s w hI a ha => ?_) a ha) (labels_mono to2)
    have h := H l0 (.inl s) w (.inl rfl) ⟨rfl, hI⟩
    rw [if_pos rfl] at h
    exact wp_mono (h a ha) (labels_mono of2)
theorem jumpA2 {σ τ : Type} {E : σ → Env} {I : σ → World → Prop} {μ : σ → Nat} {E1 : τ → Env} {I1 : τ → World → Prop} {l0 l1 : Nat} {s : σ} (s' : σ) (hs : Env.sub (E s') L) (hi : I s' w) (hm : μ s' < μ s) :
    ∀ a, Fr n L a → (l0 = l0 ∧ ∃ s', Fr n (E s') a ∧ I s' w ∧ μ s' < μ s) ∨ (l0 = l1 ∧ ∃ t, Fr n (E1 t) a ∧ I1 t w) := fun _ ha => .inl ⟨rfl, s', ha.mono hs, hi, hm⟩
theorem jumpB2 {σ τ : Type} {E : σ → Env} {I : σ → World → Prop} {E1 : τ → Env} {I1 : τ → World → Prop} {l0 l1 : Nat} (s' : σ) (hs : Env.sub (E s') L) (hi : I s' w) :
    ∀ a, Fr n L a → (l0 = l0 ∧ ∃ s', Fr n (E s') a ∧ I s' w) ∨ (l0 = l1 ∧ ∃ t, Fr n (E1 t) a ∧ I1 t w) := fun _ ha => .inl ⟨rfl, s', ha.mono hs, hi⟩
theorem jumpC2 {τ : Type} {X : Act → World → Prop} {E1 : τ → Env} {I1 : τ → World → Prop} {l0 l1 : Nat} (t : τ) (hs : Env.sub (E1 t) L) (hi : I1 t w) :
    ∀ a, Fr n L a → (l1 = l0 ∧ X a w) ∨ (l1 = l1 ∧ ∃ t, Fr n (E1 t) a ∧ I1 t w) := fun _ ha => .inr ⟨rfl, t, ha.mono hs, hi⟩

/-! ### a region of open order, as it is printed -/
def AllStab (Rl : World → World → Prop) : List (Value → World → Prop) → Prop
  | [] => True
  | p :: ps => (∀ v w w', p v w → Rl w w' → p v w') ∧ AllStab Rl ps
theorem AllStab.get {Rl : World → World → Prop} : ∀ {ps : List (Value → World → Prop)}, AllStab Rl ps → ∀ i v w w', (ps.getD i (fun _ _ => True)) v w → Rl w w' → (ps.getD i (fun _ _ => True)) v w'
  | [], _, _, _, _, _, _, _ => by simp
  | p :: ps, h, 0, v, w, w', hp, hr => h.1 v w w' hp hr
  | p :: ps, h, i + 1, v, w, w', hp, hr => by
    simp only [List.getD_cons_succ] at hp ⊢
    exact h.2.get i v w w' hp hr
/-- Just this value. -/
def Is (x : Value) : Value → World → Prop := fun v _ => v = x
theorem Is.stab {Rl : World → World → Prop} (x : Value) : ∀ v w w', Is x v w → Rl w w' → Is x v w' := fun _ _ _ h _ => h
theorem W_drawL {id : Nat} (T : Tab) (Ps : List (Value → World → Prop)) (m : Nat) (hn : ops.size = m) (hm : P.follows .mixedOrders = true) (hT : okT n ops T = true) (hstab : AllStab (Ch No) Ps)
    (hop : AllBelow (fun i => ∀ vs w', Ch No w.drew w' → (∀ j, has (T.anc i) j = true → (Ps.getD j (fun _ _ => True)) (vs j) w') →
      One P n ops Q i (envAt ops T L vs i) w' (fun v w'' => (Ps.getD i (fun _ _ => True)) v w'' ∧ Ch No w' w'')) m)
    (hend : ∀ vs w', Ch No w.drew w' → (∀ j, j < m → (Ps.getD j (fun _ _ => True)) (vs j) w') → WO P n ops [] (envAt ops T L vs m) Q w') : W P n L (.region id ops true) Q w := by
  subst hn
  exact W_draw T (Ch No) (fun i => Ps.getD i (fun _ _ => True)) hm hT (Ch.refl No) (fun h k => h.trans k (fun _ _ h => h)) hstab.get hop hend
theorem W_drawS {id : Nat} {c : Code} (h : W P n L (.region id ops true) (Exit.then (c.wp P Q) Q) w) : W P n L (.seq (.region id ops true) c) Q w := W_seq h
theorem One_pureD {i : Nat} {v : Value} (h : pureOf P ops L i = some v) : One P n ops Q i L w (fun u w' => Is v u w' ∧ Ch No w w') := One_pure h ⟨rfl, Ch.refl _ _⟩
theorem One_callSD {i : Nat} {f : FuncId} (x : Op × TypeId) (args : Array Value) (v : Value) (hx : opOf ops L i = some x) (hr : pureRun P (ex L x) = some (.enter f args))
    (hc : Calls P f args w fun e w' => e = .returned v ∧ w = w') : One P n ops Q i L w (fun u w' => Is v u w' ∧ Ch No w w') := One_call hx hr hc (fun _ _ hR => ⟨v, hR.1, rfl, by rw [← hR.2]; exact Ch.refl _ _⟩)
theorem One_callBD {i : Nat} {f : FuncId} (x : Op × TypeId) (args : Array Value) (v : Value) (hx : opOf ops L i = some x) (hr : pureRun P (ex L x) = some (.enter f args))
    (hc : Calls P f args w fun e w' => e = .returned v ∧ Below w.heap.size w w') : One P n ops Q i L w (fun u w' => Is v u w' ∧ Ch No w w') := One_call hx hr hc (fun _ _ hR => ⟨v, hR.1, rfl, Ch.of_below hR.2⟩)
end Go.Arr
